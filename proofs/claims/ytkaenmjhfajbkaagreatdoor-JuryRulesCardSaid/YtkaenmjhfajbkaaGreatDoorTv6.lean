/-
 The statement juryRules_said, part 6 of 9: B7, B8, B9, R1, Y1, Y2, Y3, Y5, Rr1, Rx5, Jw1, IdxK, Jw2, S1, V1, V3, B4, B5, B6, V2.
 Conditions: none.
-/
import Derived.Test.YtkaenmjhfajbkaaGreatDoorTv1
import Derived.Test.YtkaenmjhfajbkaaGreatDoorTv2
import Derived.Test.YtkaenmjhfajbkaaGreatDoorTv3
import Derived.Test.YtkaenmjhfajbkaaGreatDoorTv4
import Derived.Test.YtkaenmjhfajbkaaGreatDoorTv5
namespace Go.Proofs.YtkaenmjhfajbkaaGreatDoor
set_option maxRecDepth 100000
set_option maxHeartbeats 4000000
set_option linter.unusedVariables false
section
open Go.RowKit
theorem iY (n lo hi:Int):
 dG Tryz.prog 153 [(vI n),(vI lo),(vI hi)] [] (vB (decide (lo≤n∧n≤hi))):=by
 refine bG kr Tryz.func153 U U fun D Q hQ hN=>?_
 try dsimp only
 refine WS fun _ B=>bp 1 U<|RK B<|WS fun _ A=>rP 4 [] I ?_
 refine bS (t:=10) U (aN fun C=>?_) (aO fun C=>?_)
 ·refine rP 5 [] I ?_
  refine RK A<|ak<|Q1 hQ U U U ?_
  exact cB (gT.2 om)
 refine rP 5 [] I ?_
 refine RK A<|ak<|Q1 hQ U U U ?_
 exact cB (br om).symm
theorem CK (ts:List aD) (tsA:OA) (tsC:Nat) (hst: ∀ x∈ts,bY x) (hlen:ts.length≤12):
 lR Tryz.prog 214 [(vA (bJ.cells (bJ.mk (bj.mk tsA ts.length tsC))))] [(rd tsA ts.length 9 (ts.map aD.cells))] (fun (x:(OA)×Nat)=>(vS x.1 ((iO ts (ts.length+1)).length) x.2)) (fun (x:(OA)×Nat)=>True) (fun (x:(OA)×Nat)=>[(own x.1 x.2 38 2 ((iO ts (ts.length+1)).map ai.cells))]):=by
 refine dL kr Tryz.func214 U U fun V Q hQ hN=>?_
 try dsimp only
 refine WS fun _ J=>dV U fun AA=>bp 1 U<|RK J<|WS fun _ K=>bp 1 U<|RK K<|ag fun _ L=>WS fun _ M=>rP 1 [] I ?_
 refine RK M<|ax<|fu 38 2 ?_
 have A:(0≤ts.length+1):=by exact Nat.zero_le _
 refine bP (ι:={z:Nat×(OA)×Nat // (z.1≤ts.length+1)}) [1] [1,2] U U (fun z=>[(3,(vS z.1.2.1 ((iO ts z.1.1).length) z.1.2.2)),(4,(vI (z.1.1:Int)))]) (fun z=>[(own z.1.2.1 z.1.2.2 38 2 ((iO ts z.1.1).map ai.cells))]) (fun _=>rfl) (fun _=>rfl) (fun z=>ts.length+1-z.1.1) ⟨(0,none,0),A⟩ (bf U) (aK [1,2,0]) ?_
 clear A
 rintro ⟨⟨i,a,c⟩,B⟩ J6 AB
 try dsimp only at B
 try dsimp only
 refine ag fun _ N=>WS fun _ O=>rP 5 [] (mc 0 U I) ?_
 refine RK O<|bO U (aO fun T=>?_) (aN fun T=>?_)
 ·refine bM<|ab<|ab<|aF<|KK L<|WS fun _ E=>?_
  obtain rfl:i=ts.length+1:=by omega
  refine rP 2 [] I ?_
  refine RK E<|ak<|LX hQ (a,c) [2] [] I U U U U ?_
  trivial
 refine WK N<|ag fun _ C=>ax<|WS fun _ D=>dY 2 [] (mc 0 U I) U<|rS (CL (Bb ts tsA tsC 0 (i:Int) hst hlen om) (aY [1]) U)<|bp 3 U<|AL U eh fun P=>AL U eh fun R=>pV U cW U<|e7 U cW U<|RK D<|ao<|rP 2 [] (mc 1 U I) ?_
 refine e9 (xs:=[.tmp 21]) (cs:=(ai.cells (eV ts (0:Int).toNat ((i:Int)-0).toNat))) U lF eh U U U U (by simp [Value.cells,ai.bI]) U U fun S=>?_
 refine cP (es2:=(List.map ai.cells (iO ts (i+1)))) (m':=(iO ts (i+1)).length) 5 U U U Gd U U sm (bo (es:=List.map ai.cells [(eV ts (0:Int).toNat ((i:Int)-0).toNat)]) 0 U U (by simp [ai.bI]) U) (ld _) (by simp only [o4]; omega) (by simp only [maxLen,o4]; omega) (by rw [Cr]; simp) sm U fun G H=>?_
 try dsimp only
 refine bp 1 U<|aC<|aJ<|KK C<|ao<|rP 3 [] I ?_
 refine aC ?_
 have F:(vI (((i+1):Nat):Int))=(vI ((i:Int)+1)):=by exact cI om
 refine a_ (AB ⟨((i+1),G,H),(by first|omega|(simp only []; omega))⟩ _ _ _ U os (cR.cons U<|cR.cons U<|aU U F<|cR.nil _) (aK [3,4,5]))
theorem RG (ts:List aD) (tsA:OA) (tsC:Nat) (s:dg) (hlen:ts.length≤1000000) (hside: ∀ x∈ts,0≤x.ja∧x.ja≤255):
 dG Tryz.prog 194 [(vA (bJ.cells (bJ.mk (bj.mk tsA ts.length tsC)))),(vA (dg.cells s))] [(rd tsA ts.length 9 (ts.map aD.cells))] (vT [(vA (ai.cells (P0 ts s))),(vI (E_ ts s))]):=by
 refine bG kr Tryz.func194 U U fun r Q hQ hN=>?_
 try dsimp only
 refine WS fun _ R=>dV U fun i=>dV U fun k=>AL U eh fun l=>bp 1 U<|RK R<|ag fun _ S=>WS fun _ T=>dY 1 [] (mc 2 U I) U<|rS (CL (wZ ts tsA tsC hlen) (aY [3]) U)<|rP 1 [] I ?_
 refine RK T<|cb U (fun AB=>?_) (fun AB=>?_)
 ·rw [Bool.not_eq_true'] at AB
  refine WS fun _ AA=>rS (SX (bE (xs:=[]) (cs:=(ai.cells (ai.mk 0 0))) U U (bD g6 U)) U U)<|e7 U cW U<|rP 1 [] I ?_
  refine RK AA<|ak<|mh hQ [0] (mc 0 U I) U ?_
  (have e:=Ie (s:=s) (by simpa using AB); rw [e.1,e.2]<;>rfl)
 rw [Bool.not_eq_false'] at AB
 refine WK S<|ag fun _ V=>WS fun _ W=>?_
 have M:=kq AB
 have Z:=lv AB
 refine dY 2 [0,1] (mc 2 U (mc 1 U I)) U<|rS (CL (sJ ts tsA tsC s asm asm) (aY [3]) U)<|rP 1 [] I ?_
 refine RK W<|cb U (aX fun D=>?_) (aW fun D=>?_)
 ·refine WS fun _ O=>rS (SX (bE (xs:=[]) (cs:=(ai.cells (ai.mk 0 0))) U U (bD g6 U)) U U)<|e7 U cW U<|rP 1 [] I ?_
  refine RK O<|ak<|mh hQ [0] (mc 0 U I) U ?_
  (have e:=Ko AB D; rw [e.1,e.2]<;>rfl)
 refine WK V<|ag fun _ H=>mO cj [0,2,3] [1,4,5,6,7] [false,false,false] [] [(cy l 38 (ai.cells (ai.mk 0 0))),(cy k 135 (dg.cells s)),(cy i 24 (bJ.cells (bJ.mk (bj.mk tsA ts.length tsC)))),(rd tsA ts.length 9 (ts.map aD.cells)).ro] [] kr (aK [0,1,2,3]) (aK []) ?_
 have q:=D.1
 have N:=rQ M D
 have p:(iO ts (ts.length+1)).length=ts.length+1:=o4
 refine eS U (LW 2 U bV U U)<|eS U (FA 0 U eD U)<|eS U (L1 (vI s.bw) 1 U bV U U)<|eg U<|mG [1,6] kr (iF ?_<|iF ?_<|pL)
 rotate_left 1
 ·refine NO U U [1,4,5,7] fun T12 J=>AL U eh fun f=>RD J 1 U<|N1 1<|NO U U [4,5,7] fun T14 P=>cX (CK ts tsA tsC asm asm) (aY [4]) U fun Y b=>?_
  obtain ⟨d,o⟩:=Y
  try dsimp only
  refine RD P 2 U<|N1 4<|NO U U [5,7] fun T19 E=>?_
  obtain ⟨z,hz⟩:=aA (iO ts (ts.length+1)) ((s.bw).toNat) om
  have A:=bH ai.cells hz
  refine rS (IA ((s.bw).toNat) U (ar (n:=(iO ts (ts.length+1)).length) 0 U sm) lF dc om om)<|RD E 2 U<|N1 5<|NO U U [7] fun T20 F=>rS (jL ((s.bw).toNat) 0 (ai.cells z) U bV (ar (n:=(iO ts (ts.length+1)).length) 0 U sm) A U dc U U)<|RD F 2 U<|N1 7<|NO U U [] fun T21 C=>pV U cW U<|RD C 2 U<|lK<|KK H<|WS fun _ B=>rP 1 [] I ?_
  have A:=qf hz
  have G:=mR M 0 s.bw.toNat
  unfold l_ at N
  rw [← A] at G
  refine dY 11 [0,1,0,1] (mc 1 U (mc 3 U I)) U<|rS (SX (bE (xs:=[(0,.tmp 27),(1,.tmp 33)]) (cs:=(ai.cells (ai.mk (z.Lo+s.l9.Lo) (z.Hi+s.l9.Hi)))) U U (bD g6 U)) U U)<|CT U cW U<|rP 1 [] I ?_
  refine RK B<|ak<|mh hQ [0] (mc 2 U I) U ?_
  (have e:=ym AB D; subst A; rw [e.1,e.2]<;>rfl)
 refine NO U U [4,5,6,7] fun T12 J=>cX (CK ts tsA tsC asm asm) (aY [3]) U fun X a=>?_
 obtain ⟨c,m⟩:=X
 try dsimp only
 refine RD J 1 U<|mG [4,6] kr (iF ?_<|iF ?_<|pL)
 rotate_left 1
 ·refine NO U U [4,5,7] fun T17 K=>AL U eh fun g=>RD K 2 U<|N1 4<|NO U U [5,7] fun T19 E=>?_
  obtain ⟨z,hz⟩:=aA (iO ts (ts.length+1)) ((s.bw).toNat) om
  have A:=bH ai.cells hz
  refine rS (IA ((s.bw).toNat) U (ar (n:=(iO ts (ts.length+1)).length) 1 U sm) lF dc om om)<|RD E 2 U<|N1 5<|NO U U [7] fun T20 F=>rS (jL ((s.bw).toNat) 0 (ai.cells z) U bV (ar (n:=(iO ts (ts.length+1)).length) 1 U sm) A U dc U U)<|RD F 2 U<|N1 7<|NO U U [] fun T21 C=>e7 U cW U<|RD C 2 U<|lK<|KK H<|WS fun _ B=>rP 1 [] I ?_
  have A:=qf hz
  have G:=mR M 0 s.bw.toNat
  unfold l_ at N
  rw [← A] at G
  refine dY 11 [0,1,0,1] (mc 0 U (mc 3 U I)) U<|rS (SX (bE (xs:=[(0,.tmp 27),(1,.tmp 33)]) (cs:=(ai.cells (ai.mk (z.Lo+s.l9.Lo) (z.Hi+s.l9.Hi)))) U U (bD g6 U)) U U)<|CT U cW U<|rP 1 [] I ?_
  refine RK B<|ak<|mh hQ [0] (mc 2 U I) U ?_
  (have e:=ym AB D; subst A; rw [e.1,e.2]<;>rfl)
 refine NO U U [5,6,7] fun T17 K=>?_
 obtain ⟨z,hz⟩:=aA (iO ts (ts.length+1)) ((s.bw).toNat) om
 have A:=bH ai.cells hz
 refine rS (IA ((s.bw).toNat) U (ar (n:=(iO ts (ts.length+1)).length) 0 U sm) lF dc om om)<|RD K 1 U<|mG [5,6] kr (iF ?_<|iF ?_<|pL)
 rotate_left 1
 ·refine NO U U [5,7] fun T18 L=>AL U eh fun h=>RD L 2 U<|N1 5<|NO U U [7] fun T20 F=>rS (jL ((s.bw).toNat) 0 (ai.cells z) U bV (ar (n:=(iO ts (ts.length+1)).length) 1 U sm) A U dc U U)<|RD F 2 U<|N1 7<|NO U U [] fun T21 C=>e7 U cW U<|RD C 2 U<|lK<|KK H<|WS fun _ B=>rP 1 [] I ?_
  have A:=qf hz
  have G:=mR M 0 s.bw.toNat
  unfold l_ at N
  rw [← A] at G
  refine dY 11 [0,1,0,1] (mc 0 U (mc 3 U I)) U<|rS (SX (bE (xs:=[(0,.tmp 27),(1,.tmp 33)]) (cs:=(ai.cells (ai.mk (z.Lo+s.l9.Lo) (z.Hi+s.l9.Hi)))) U U (bD g6 U)) U U)<|CT U cW U<|rP 1 [] I ?_
  refine RK B<|ak<|mh hQ [0] (mc 2 U I) U ?_
  (have e:=ym AB D; subst A; rw [e.1,e.2]<;>rfl)
 refine NO U U [6,7] fun T18 L=>rS (jL ((s.bw).toNat) 0 (ai.cells z) U bV (ar (n:=(iO ts (ts.length+1)).length) 0 U sm) A U dc U U)<|RD L 1 U<|N1 6<|NO U U [7] fun T19 E=>AL U eh fun j=>RD E 2 U<|N1 7<|NO U U [] fun T21 C=>e7 U cW U<|RD C 2 U<|lK<|KK H<|WS fun _ B=>rP 1 [] I ?_
 have A:=qf hz
 have G:=mR M 0 s.bw.toNat
 unfold l_ at N
 rw [← A] at G
 refine dY 11 [0,1,0,1] (mc 0 U (mc 3 U I)) U<|rS (SX (bE (xs:=[(0,.tmp 27),(1,.tmp 33)]) (cs:=(ai.cells (ai.mk (z.Lo+s.l9.Lo) (z.Hi+s.l9.Hi)))) U U (bD g6 U)) U U)<|CT U cW U<|rP 1 [] I ?_
 refine RK B<|ak<|mh hQ [0] (mc 2 U I) U ?_
 (have e:=ym AB D; subst A; rw [e.1,e.2]<;>rfl)
theorem GQ (ts:List aD) (tsA:OA) (tsC:Nat) (p:dg) (q:dg) (hlen:ts.length≤1000000) (hside: ∀ x∈ts,0≤x.ja∧x.ja≤255) (hord: ¬ q.bw<p.bw):
 dG Tryz.prog 195 [(vA (bJ.cells (bJ.mk (bj.mk tsA ts.length tsC)))),(vA (dg.cells p)),(vA (dg.cells q))] [(rd tsA ts.length 9 (ts.map aD.cells))] (vT [(vA (ai.cells (ly ts p q))),(vI (mM ts p q))]):=by
 refine bG kr Tryz.func195 U U fun k Q hQ hN=>?_
 try dsimp only
 refine WS fun _ N=>dV U fun f=>dV U fun g=>dV U fun i=>AL U eh fun j=>bp 1 U<|RK N<|ag fun _ O=>WS fun _ P=>dY 1 [] (mc 3 U I) U<|rS (CL (wZ ts tsA tsC hlen) (aY [4]) U)<|rP 1 [] I ?_
 refine RK P<|cb U (fun A=>?_) (fun A=>?_)
 ·rw [Bool.not_eq_true'] at A
  refine WS fun _ R=>rS (SX (bE (xs:=[]) (cs:=(ai.cells (ai.mk 0 0))) U U (bD g6 U)) U U)<|e7 U cW U<|rP 1 [] I ?_
  refine RK R<|ak<|mh hQ [0] (mc 0 U I) U ?_
  (have e:=vn (a:=p) (b:=q) (by simpa using A); rw [e.1,e.2]<;>rfl)
 rw [Bool.not_eq_false'] at A
 refine WK O<|ag fun _ S=>WS fun _ E=>?_
 have D:=kq A
 have M:=lv A
 refine dY 2 [0,1] (mc 3 U (mc 2 U I)) U<|rS (CL (sJ ts tsA tsC p asm asm) (aY [4]) U)<|rP 2 [] I ?_
 refine bS (t:=20) U (aX fun B=>?_) (aW fun B=>?_)
 ·refine bp 5 U<|RK E<|aL U<|WS fun _ G=>rS (SX (bE (xs:=[]) (cs:=(ai.cells (ai.mk 0 0))) U U (bD g6 U)) U U)<|e7 U cW U<|rP 1 [] I ?_
  refine RK G<|ak<|mh hQ [0] (mc 0 U I) U ?_
  (have e:=pj (a:=p) (b:=q) A (fun h=>by first|exact B h.1|exact C h.2); rw [e.1,e.2]<;>rfl)
 refine dY 2 [0,1] (mc 3 U (mc 1 U I)) U<|rS (CL (sJ ts tsA tsC q asm asm) (aY [4]) U)<|rP 2 [] I ?_
 refine RK E<|cb U (aX fun C=>?_) (aW fun C=>?_)
 ·refine WS fun _ H=>rS (SX (bE (xs:=[]) (cs:=(ai.cells (ai.mk 0 0))) U U (bD g6 U)) U U)<|e7 U cW U<|rP 1 [] I ?_
  refine RK H<|ak<|mh hQ [0] (mc 0 U I) U ?_
  (have e:=pj (a:=p) (b:=q) A (fun h=>by first|exact B h.1|exact C h.2); rw [e.1,e.2]<;>rfl)
 refine WK S<|ag fun _ AB=>WS fun _ J=>?_
 have AA:fT ts p∧fT ts q:=⟨B,C⟩
 have T:=rQ D B
 have V:=rQ D C
 have c:=B.1
 have d:=C.1
 have Y:=yM D M C B
 unfold l_ at T V
 refine rP 5 [0,1] (mc 1 U (mc 2 U I)) ?_
 refine RK J<|cb U (aN fun F=>?_) (aO fun F=>?_)
 ·exfalso; omega
 refine WK AB<|WS fun _ K=>rP 2 [] (mc 3 U I) ?_
 have Z:=mR D p.bw.toNat (q.bw-p.bw).toNat
 refine dY 3 [0,1] (mc 2 U (mc 1 U I)) U<|rS (CL (Bb ts tsA tsC p.bw q.bw asm asm om) (aY [4]) U)<|bp 3 U<|AL U eh fun W=>AL U eh fun X=>pV U cW U<|e7 U cW U<|RK K<|WS fun _ L=>dY 20 [0,1,2,0,1,2] (mc 1 U (mc 3 U (mc 4 U I))) U<|rS (SX (bE (xs:=[(0,.tmp 64),(1,.tmp 74)]) (cs:=(ai.cells (ai.mk ((((eV ts p.bw.toNat (q.bw-p.bw).toNat).Lo)+q.l9.Lo)-p.l9.Hi) ((((eV ts p.bw.toNat (q.bw-p.bw).toNat).Hi)+q.l9.Hi)-p.l9.Lo)))) U U (bD g6 U)) U U)<|CT U cW U<|rP 1 [] I ?_
 refine RK L<|ak<|mh hQ [0] (mc 2 U I) U ?_
 (have e:=l0 A AA; rw [e.1,e.2,ru F]<;>rfl)
theorem JV (ts:List aD) (tsA:OA) (tsC:Nat) (p:dg) (q:dg) (hlen:ts.length≤1000000) (hside: ∀ x∈ts,0≤x.ja∧x.ja≤255):
 dG Tryz.prog 195 [(vA (bJ.cells (bJ.mk (bj.mk tsA ts.length tsC)))),(vA (dg.cells p)),(vA (dg.cells q))] [(rd tsA ts.length 9 (ts.map aD.cells))] (vT [(vA (ai.cells (ly ts p q))),(vI (mM ts p q))]):=by
 refine bG kr Tryz.func195 U U fun u Q hQ hN=>?_
 try dsimp only
 refine WS fun _ S=>dV U fun n=>dV U fun o=>dV U fun r=>AL U eh fun s=>bp 1 U<|RK S<|ag fun _ T=>WS fun _ AA=>dY 1 [] (mc 3 U I) U<|rS (CL (wZ ts tsA tsC hlen) (aY [4]) U)<|rP 1 [] I ?_
 refine RK AA<|cb U (fun A=>?_) (fun A=>?_)
 ·rw [Bool.not_eq_true'] at A
  refine WS fun _ V=>rS (SX (bE (xs:=[]) (cs:=(ai.cells (ai.mk 0 0))) U U (bD g6 U)) U U)<|e7 U cW U<|rP 1 [] I ?_
  refine RK V<|ak<|mh hQ [0] (mc 0 U I) U ?_
  (have e:=vn (a:=p) (b:=q) (by simpa using A); rw [e.1,e.2]<;>rfl)
 rw [Bool.not_eq_false'] at A
 refine WK T<|ag fun _ W=>WS fun _ E=>?_
 have D:=kq A
 have P:=lv A
 refine dY 2 [0,1] (mc 3 U (mc 2 U I)) U<|rS (CL (sJ ts tsA tsC p asm asm) (aY [4]) U)<|rP 2 [] I ?_
 refine bS (t:=20) U (aX fun B=>?_) (aW fun B=>?_)
 ·refine bp 5 U<|RK E<|aL U<|WS fun _ G=>rS (SX (bE (xs:=[]) (cs:=(ai.cells (ai.mk 0 0))) U U (bD g6 U)) U U)<|e7 U cW U<|rP 1 [] I ?_
  refine RK G<|ak<|mh hQ [0] (mc 0 U I) U ?_
  (have e:=pj (a:=p) (b:=q) A (fun h=>by first|exact B h.1|exact C h.2); rw [e.1,e.2]<;>rfl)
 refine dY 2 [0,1] (mc 3 U (mc 1 U I)) U<|rS (CL (sJ ts tsA tsC q asm asm) (aY [4]) U)<|rP 2 [] I ?_
 refine RK E<|cb U (aX fun C=>?_) (aW fun C=>?_)
 ·refine WS fun _ H=>rS (SX (bE (xs:=[]) (cs:=(ai.cells (ai.mk 0 0))) U U (bD g6 U)) U U)<|e7 U cW U<|rP 1 [] I ?_
  refine RK H<|ak<|mh hQ [0] (mc 0 U I) U ?_
  (have e:=pj (a:=p) (b:=q) A (fun h=>by first|exact B h.1|exact C h.2); rw [e.1,e.2]<;>rfl)
 refine WK W<|ag fun _ AB=>WS fun _ J=>?_
 have R:fT ts p∧fT ts q:=⟨B,C⟩
 have X:=rQ D B
 have Y:=rQ D C
 have l:=B.1
 have m:=C.1
 have j:=yM D P C B
 unfold l_ at X Y
 refine rP 5 [0,1] (mc 1 U (mc 2 U I)) ?_
 refine RK J<|cb U (aN fun F=>?_) (aO fun F=>?_)
 ·refine WS fun _ K=>dY 3 [0,1,2] (mc 3 U (mc 1 U (mc 2 U I))) U<|rS (CL (GQ ts tsA tsC q p hlen hside om) (aY [4]) U)<|bp 3 U<|AL U eh fun d=>e7 U cW U<|bp 1 U<|RK K<|WS fun _ L=>rP 2 [] (mc 0 U I) ?_
  have O:ly ts q p=kl ts q p:=(l0 A ⟨C,B⟩).2
  have Z: -400000≤(ly ts q p).Lo∧(ly ts q p).Hi≤400000:=by rw [O]; omega
  have c:(ly ts q p).Lo≤(ly ts q p).Hi:=by rw [O]; omega
  refine rS (NG U ⟨om,om⟩)<|dY 2 [] (mc 0 U I) U<|rS (NG U ⟨om,om⟩)<|rS (SX (bE (xs:=[(0,.tmp 41),(1,.tmp 44)]) (cs:=(ai.cells (ai.mk (-((ly ts q p).Hi)) (-((ly ts q p).Lo))))) U U (bD g6 U)) U U)<|pV U cW U<|rP 1 [] I ?_
  refine RK L<|ak<|mh hQ [0] (mc 1 U I) U ?_
  (have e:=l0 A R; have i:=l0 A ⟨C,B⟩; rw [e.1,e.2,i.2,EI F]<;>rfl)
 refine WK AB<|WS fun _ M=>rP 2 [] (mc 3 U I) ?_
 have k:=mR D p.bw.toNat (q.bw-p.bw).toNat
 refine dY 3 [0,1] (mc 2 U (mc 1 U I)) U<|rS (CL (Bb ts tsA tsC p.bw q.bw asm asm om) (aY [4]) U)<|bp 3 U<|AL U eh fun f=>AL U eh fun g=>pV U cW U<|e7 U cW U<|RK M<|WS fun _ N=>dY 20 [0,1,2,0,1,2] (mc 1 U (mc 3 U (mc 4 U I))) U<|rS (SX (bE (xs:=[(0,.tmp 64),(1,.tmp 74)]) (cs:=(ai.cells (ai.mk ((((eV ts p.bw.toNat (q.bw-p.bw).toNat).Lo)+q.l9.Lo)-p.l9.Hi) ((((eV ts p.bw.toNat (q.bw-p.bw).toNat).Hi)+q.l9.Hi)-p.l9.Lo)))) U U (bD g6 U)) U U)<|CT U cW U<|rP 1 [] I ?_
 refine RK N<|ak<|mh hQ [0] (mc 2 U I) U ?_
 (have e:=l0 A R; rw [e.1,e.2,ru F]<;>rfl)
end
section
open Go.RowKit
theorem Ih (l:bq) (kA:OA) (kC:Nat) (az:List RA) (cA:OA) (cC:Nat) (bA:OA) (bC:Nat) (hraw:vc l az):
 dG Tryz.prog 70 [(vA (bW.cells (jx l kA kC cA cC bA bC)))] (o7 l kA az cA bA) (vB (decide (lh l))):=by
 have e:=hraw.qI
 have d:=hraw.qG
 have a:=hraw.lS
 have b:=hraw.qD
 refine bG kr Tryz.func70 U U fun g Q hQ hN=>?_
 try dsimp only
 refine WS fun _ O=>dV U fun f=>bp 1 U<|RK O<|ag fun _ P=>WS fun _ D=>bp 1 U<|rS (LP (bJ.cells (bJ.mk (bj.mk kA l.bL.length kC))) 0 U bV U U U)<|rS (CL (No l.bL kA kC) (aY [1]) U)<|rP 1 [] I ?_
 refine bS (t:=7) U (aN fun Z=>?_) (aO fun Z=>?_)
 ·refine bp 11 U<|RK D<|aL U<|WS fun _ R=>rP 1 [] I ?_
  refine RK R<|ak<|Q1 hQ U U U ?_
  exact cB (dC (.inl om)).symm
 refine rP 6 [] (mc 0 U I) ?_
 refine bS (t:=13) U (aN fun C=>?_) (aO fun C=>?_)
 ·refine bp 5 U<|RK D<|aL U<|WS fun _ S=>rP 1 [] I ?_
  refine RK S<|ak<|Q1 hQ U U U ?_
  exact cB (dC (.inl om)).symm
 refine rP 5 [] (mc 0 U I) ?_
 refine RK D<|cb U (aN fun N=>?_) (aO fun N=>?_)
 ·refine WS fun _ T=>rP 1 [] I ?_
  refine RK T<|ak<|Q1 hQ U U U ?_
  exact cB (dC (.inl om)).symm
 refine WK P<|ag fun _ AA=>WS fun _ V=>rP 1 [] I ?_
 refine RK V<|ax ?_
 have A:(0≤l.aG.length)∧(AZ l 0):=by exact ⟨Nat.zero_le _,fun j c hj=>absurd hj (Nat.not_lt_zero _)⟩
 refine bP (ι:={z:Nat // (z≤l.aG.length)∧(AZ l z)}) [1] [0,1,2,3,4] U U (fun z=>[(3,(vI (z.1:Int)))]) (fun z=>[]) (fun _=>rfl) (fun _=>rfl) (fun z=>l.aG.length-z.1) ⟨0,A⟩ (bf U) (aK [0,1,2,3,4]) ?_
 clear A
 rintro ⟨i,⟨W,B⟩⟩ J10 F
 try dsimp only
 refine ag fun _ G=>WS fun _ H=>rP 5 [] (mc 0 U I) ?_
 refine RK H<|bO U (aO fun C=>?_) (aN fun C=>?_)
 ·refine bM<|ab<|ab<|aF<|KK AA<|WS fun _ L=>rP 1 [] I ?_
  refine RK L<|ak<|Q1 hQ U U U ?_
  exact cB (br (H7 om om B)).symm
 refine WK G<|ag fun _ AB=>ax<|WS fun _ J=>rP 3 [] (mc 0 U I) ?_
 obtain ⟨x,hx⟩:=aA l.aG i om
 obtain ⟨xa,X⟩:=aA az i om
 have Y:(List.zipWith aT.cells l.aG az)[i]? =some (aT.cells x xa):=cG hx X
 refine rS (IA i U (av 2 U) vq dc om om)<|rS (nQ ((i*2)+1) U (av 2 U) (Nat.mul_pos om dc) eD U)<|rS (gv i 1 (vS xa.1 x.bk.length xa.2) U bV (av 2 U) Y U dc U)<|rP 2 [] I ?_
 refine RK J<|cb U (aN fun E=>?_) (aO fun E=>?_)
 ·refine WS fun _ K=>rP 1 [] I ?_
  refine RK K<|ak<|Q1 hQ U U U ?_
  exact cB (dC (Ip hx E)).symm
 refine cg<|aJ<|KK AB<|ao<|rP 3 [] I ?_
 refine aC ?_
 have M:(vI (((i+1):Nat):Int))=(vI ((i:Int)+1)):=by exact cI om
 refine a_ (F ⟨(i+1),⟨om,mK B hx om⟩⟩ _ _ _ U os (cR.cons U<|aU U M<|cR.nil _) (aK [0,1,2,3,4]))
theorem xX (d m:Int) (hd:0≤d∧d≤1000) (hm:0≤m∧m≤90000000):
 dG Tryz.prog 193 [(vI d),(vI m)] [] (vI (o_ (d*m) 1000000)):=by
 have J:=PQ (a:=d) (b:=m) (A:=1000) (B:=90000000) hd.1 hd.2 hm.1 hm.2
 refine bG kr Tryz.func193 U U fun K Q hQ hN=>?_
 try dsimp only
 refine WS fun _ C=>bp 1 U<|RK C<|WS fun _ D=>bp 2 U<|rS (BI U (sW ⟨om,om⟩))<|bp 1 U<|RK D<|ag fun _ E=>WS fun _ F=>bp 1 U<|rS (BI U (Sn om om))<|rP 1 [] I ?_
 refine RK F<|cb U (aN fun AA=>?_) (aO fun AA=>?_)
 ·refine WS fun _ G=>bp 1 U<|rS (BI U (vh om om om))<|rP 2 [] I ?_
  refine RK G<|ak<|Q1 hQ U U U ?_
  exact cI (by unfold o_; omega)
 refine WK E<|WS fun _ H=>bp 1 U<|rS (BI U (vh om om om))<|rP 1 [] I ?_
 refine RK H<|ak<|Q1 hQ U U U ?_
 exact cI (by unfold o_; omega)
theorem KC (c:aT) (sA:OA) (sC:Nat) (hlen:c.bk.length≤1000000):
 dG Tryz.prog 157 [(vA (dE.cells (dE.mk c.dA (bj.mk sA c.bk.length sC))))] [(rd sA c.bk.length 3 (c.bk.map cE.cells))] (vB (decide (fG c))):=by
 refine bG kr Tryz.func157 U U fun w0 Q hQ hN=>?_
 try dsimp only
 refine WS fun _ Di=>dV U fun b2=>bp 1 U<|RK Di<|ag fun _ Do=>WS fun _ A5=>dY 2 [] (mc 0 U I) U<|rS (CL (iY c.dA 0 1000) (aS) U)<|rP 2 [] I ?_
 refine bS (t:=14) U (aX fun Ci=>?_) (aW fun Ci=>?_)
 ·refine bp 6 U<|RK A5<|aL U<|WS fun _ EQ=>rP 1 [] I ?_
  refine RK EQ<|ak<|Q1 hQ U U U ?_
  exact cB (br fun h=>by have q1:=h.sX; have q2:=h.len; omega).symm
 refine dY 3 [] (mc 0 U I) U<|rS (CL (iY (c.bk.length:Int) 1 5) (aS) U)<|rP 2 [] I ?_
 refine RK A5<|cb U (aX fun Ck=>?_) (aW fun Ck=>?_)
 ·refine WS fun _ Eq=>rP 1 [] I ?_
  refine RK Eq<|ak<|Q1 hQ U U U ?_
  exact cB (br fun h=>by have q1:=h.sX; have q2:=h.len; omega).symm
 refine WK Do<|ag fun _ FS=>WS fun _ Fd=>rP 1 [] I ?_
 refine RK Fd<|ax ?_
 have A:(0≤c.bk.length)∧(∀ (j:Nat) y,j<0→c.bk[j]? =some y→fX c j y):=by exact ⟨Nat.zero_le _,fun j y hj=>absurd hj (Nat.not_lt_zero _)⟩
 refine bP (ι:={z:Nat // (z≤c.bk.length)∧(∀ (j:Nat) y,j<z→c.bk[j]? =some y→fX c j y)}) [1] [0,1] U U (fun z=>[(3,(vI (z.1:Int)))]) (fun z=>[]) (fun _=>rfl) (fun _=>rfl) (fun z=>c.bk.length-z.1) ⟨0,A⟩ (bf U) (aK [0,1]) ?_
 clear A
 rintro ⟨i,⟨a,C⟩⟩ J9 f
 try dsimp only
 have Hi:=JA a C
 refine ag fun _ g=>WS fun _ l=>rP 5 [] (mc 0 U I) ?_
 refine RK l<|cb U (aN fun Cp=>?_) (aO fun Cp=>?_)
 ·refine WK g<|ag fun _ AA=>ax<|WS fun _ n=>rP 3 [] (mc 0 U I) ?_
  obtain ⟨x,hx⟩:=aA c.bk i om
  have b:=bH cE.cells hx
  refine rS (IA i U (av 1 U) oo dc om om)<|rS (jL i 0 (cE.cells x) U bV (av 1 U) b U dc U U)<|AL U uP fun GT=>e7 U uD U<|RK n<|ag fun _ B=>cS cj 41 kr<|kf 2 [] (mc 0 U I) U<|dS (CL (iY x.At 0 86400000) (aS) U)<|dP 2 [] I ?_
  refine ic (t:=37) U (aX fun Cx=>?_) (aW fun Cx=>?_)
  ·refine kI 36 U<|cu<|RK B<|aL U<|WS fun _ p=>rP 1 [] I ?_
   refine RK p<|ak<|Q1 hQ U U U ?_
   exact cB (br fun h=>by have q:=h.sync i x hx; unfold fX at q; (rw [g_ om] at q; omega)).symm
  refine dP 3 [] I ?_
  refine jm (t:=40) U (aO fun C0=>?_) (aN fun C0=>?_)
  ·refine dP 19 [] (mc 0 U I) ?_
   refine ic (t:=59) U (aN fun X=>?_) (aO fun X=>?_)
   ·refine kI 14 U<|cu<|RK B<|aL U<|WS fun _ w=>rP 1 [] I ?_
    refine RK w<|ak<|Q1 hQ U U U ?_
    exact cB (br fun h=>by have q:=h.sync i x hx; unfold fX at q; (rw [g_ om] at q; omega)).symm
   refine dP 9 [] (mc 0 U I) ?_
   refine ic (t:=68) U (aN fun Y=>?_) (aO fun Y=>?_)
   ·refine kI 5 U<|cu<|RK B<|aL U<|WS fun _ AC=>rP 1 [] I ?_
    refine RK AC<|ak<|Q1 hQ U U U ?_
    exact cB (br fun h=>by have q:=h.sync i x hx; unfold fX at q; (rw [g_ om] at q; omega)).symm
   refine dP 5 [] (mc 0 U I) ?_
   refine cu<|RK B<|bO U (aO fun Z=>?_) (aN fun Z=>?_)
   ·refine cg<|aJ<|KK AA<|ao<|rP 3 [] I ?_
    refine aC ?_
    have A8:(vI (((i+1):Nat):Int))=(vI ((i:Int)+1)):=by exact cI om
    refine a_ (f ⟨(i+1),⟨om,mK C hx (by unfold fX; (rw [g_ om]; omega))⟩⟩ _ _ _ U os (cR.cons U<|aU U A8<|cR.nil _) (aK [1,2]))
   refine WS fun _ AO=>rP 1 [] I ?_
   refine RK AO<|ak<|Q1 hQ U U U ?_
   exact cB (br fun h=>by have q:=h.sync i x hx; unfold fX at q; (rw [g_ om] at q; omega)).symm
  refine dP 6 [0,1] (mc 0 U (mc 1 U I)) ?_
  obtain ⟨y,hy⟩:=aA c.bk (i-1) om
  have d:=bH cE.cells hy
  refine dS (IA (i-1) U (av 2 U) oo dc om om)<|dS (nQ ((i-1)*3) U (av 2 U) (Nat.mul_pos om dc) eD U)<|dS (gv (i-1) 0 (vI y.At) U bV (av 2 U) d U dc U)<|dP 4 [] I ?_
  refine ic (t:=53) U (aN fun C1=>?_) (aO fun C1=>?_)
  ·refine kI 20 U<|cu<|RK B<|aL U<|WS fun _ r=>rP 1 [] I ?_
   refine RK r<|ak<|Q1 hQ U U U ?_
   exact cB (br fun h=>by have q:=h.sync i x hx; unfold fX at q; (rw [xY om hy] at q; omega)).symm
  refine dP 6 [] (mc 0 U I) ?_
  refine ic (t:=59) U (aN fun X=>?_) (aO fun X=>?_)
  ·refine kI 14 U<|cu<|RK B<|aL U<|WS fun _ s=>rP 1 [] I ?_
   refine RK s<|ak<|Q1 hQ U U U ?_
   exact cB (br fun h=>by have q:=h.sync i x hx; unfold fX at q; (rw [g_ om] at q; omega)).symm
  refine dP 9 [] (mc 0 U I) ?_
  refine ic (t:=68) U (aN fun Y=>?_) (aO fun Y=>?_)
  ·refine kI 5 U<|cu<|RK B<|aL U<|WS fun _ u=>rP 1 [] I ?_
   refine RK u<|ak<|Q1 hQ U U U ?_
   exact cB (br fun h=>by have q:=h.sync i x hx; unfold fX at q; (rw [g_ om] at q; omega)).symm
  refine dP 5 [] (mc 0 U I) ?_
  refine cu<|RK B<|bO U (aO fun Z=>?_) (aN fun Z=>?_)
  ·refine cg<|aJ<|KK AA<|ao<|rP 3 [] I ?_
   refine aC ?_
   have A7:(vI (((i+1):Nat):Int))=(vI ((i:Int)+1)):=by exact cI om
   refine a_ (f ⟨(i+1),⟨om,mK C hx (by unfold fX; (rw [xY om hy]; omega))⟩⟩ _ _ _ U os (cR.cons U<|aU U A7<|cR.nil _) (aK [1,2]))
  refine WS fun _ v=>rP 1 [] I ?_
  refine RK v<|ak<|Q1 hQ U U U ?_
  exact cB (br fun h=>by have q:=h.sync i x hx; unfold fX at q; (rw [g_ om] at q; omega)).symm
 refine bM<|ab<|ab<|aF<|KK FS<|ag fun _ AU=>WS fun _ Ag=>rP 1 [] I ?_
 refine RK Ag<|ax ?_
 have A:(0≤c.bk.length)∧(ve c 0):=by exact ⟨Nat.zero_le _,fun j y hj=>absurd hj (Nat.not_lt_zero _)⟩
 refine bP (ι:={z:Nat // (z≤c.bk.length)∧(ve c z)}) [1] [0,1] U U (fun z=>[(5,(vI (z.1:Int)))]) (fun z=>[]) (fun _=>rfl) (fun _=>rfl) (fun z=>c.bk.length-z.1) ⟨0,A⟩ (bf U) (aK [0,1]) ?_
 clear A
 rintro ⟨m,⟨Ba,G⟩⟩ J28 e
 try dsimp only
 have F:=yf (P:=fX c) om C
 refine ag fun _ Ax=>WS fun _ A0=>rP 5 [] (mc 0 U I) ?_
 refine RK A0<|bO U (aO fun C2=>?_) (aN fun C2=>?_)
 ·refine bM<|ab<|ab<|aF<|KK AU<|WS fun _ A6=>rP 1 [] I ?_
  refine RK A6<|ak<|Q1 hQ U U U ?_
  exact cB (dC (IP om om (yf om C) om G)).symm
 refine WK Ax<|ag fun _ A1=>ax<|WS fun _ A2=>rP 1 [] I ?_
 refine RK A2<|ax ?_
 have A:(0≤m)∧(∀ y,c.bk[m]? =some y→FJ c y 0):=by exact ⟨Nat.zero_le _,fun y _ j o hj=>absurd hj (Nat.not_lt_zero _)⟩
 refine bP (ι:={z:Nat // (z≤m)∧(∀ y,c.bk[m]? =some y→FJ c y z)}) [1,5] [0,1] U U (fun z=>[(6,(vI (z.1:Int)))]) (fun z=>[]) (fun _=>rfl) (fun _=>rfl) (fun z=>m-z.1) ⟨0,A⟩ (bf U) (aK [0,1]) ?_
 clear A
 rintro ⟨k,⟨B3,D⟩⟩ J33 T
 try dsimp only
 refine ag fun _ A3=>WS fun _ A4=>rP 3 [] I ?_
 refine RK A4<|bO U (aO fun C3=>?_) (aN fun C3=>?_)
 ·refine bM<|ab<|ab<|aF<|aJ<|KK A1<|ao<|rP 3 [] I ?_
  refine aC ?_
  have A9:(vI (((m+1):Nat):Int))=(vI ((m:Int)+1)):=by exact cI om
  refine a_ (e ⟨(m+1),⟨om,DR G D om⟩⟩ _ _ _ U os (cR.cons U<|aU U A9<|cR.nil _) (aK [0,1]))
 refine WK A3<|ag fun _ V=>ax<|ag fun _ W=>mO cj [0,1,2,3,4,5,6,7,8,9] [10,11,12,13] [false,false,false,false,false,false,false,false,false,false] [] [(cy b2 133 (dE.cells (dE.mk c.dA (bj.mk sA c.bk.length sC)))),(rd sA c.bk.length 3 (c.bk.map cE.cells)).ro] [] kr (aK [0,1]) (aK [])<|eS U (FA 1 U eD U)<|eS U (L1 (vS sA c.bk.length sC) 0 U bV U U)<|eS U (MV U) ?_
 obtain ⟨x,hx⟩:=aA c.bk k om
 have b:=bH cE.cells hx
 refine eS U (IA k U (av 1 U) oo dc om om)<|eS U (jL k 0 (cE.cells x) U bV (av 1 U) b U dc U U)<|eS U (FA 1 U eD U)<|eS U (L1 (vS sA c.bk.length sC) 0 U bV U U)<|eS U (MV U) ?_
 obtain ⟨y,hy⟩:=aA c.bk m om
 have d:=bH cE.cells hy
 refine eS U (IA m U (av 1 U) oo dc om om)<|eS U (jL m 0 (cE.cells y) U bV (av 1 U) d U dc U U)<|eg U<|mG [10,11] kr (iF ?_<|iF ?_<|pL)
 rotate_left 1
 ·refine NO U U [10,12,13] fun T38 M=>AL U uP fun B9=>RD M 1 U<|N1 10<|NO U U [12,13] fun T40 N=>AL U uP fun CB=>RD N 2 U<|N1 12<|NO U U [13] fun T42 O=>e7 U uD U<|RD O 2 U<|N1 13<|NO U U [] fun T43 R=>pV U uD U<|RD R 2 U<|lK<|KK W<|WS fun _ J=>rP 6 [0,1,2] (mc 2 U (mc 1 U (mc 0 U I))) ?_
  obtain ⟨Fk,Fn,GE⟩:=vE (fun j z _ hz=>F j z hz) hy (F _ _ hy) (show k<m by omega) hx
  refine bp 1 U<|rS (CL (xX c.dA (y.At-x.At) om om) (aS) U)<|bp 1 U<|RK J<|WS fun _ E=>rP 10 [0,1] (mc 0 U (mc 1 U I)) ?_
  refine bS (t:=113) U (aN fun H=>?_) (aO fun H=>?_)
  ·refine bp 10 U<|RK E<|aL U<|WS fun _ K=>rP 1 [] I ?_
   refine RK K<|ak<|Q1 hQ U U U ?_
   exact cB (br fun h=>by have q:=h.pair m k y x hy om hx; unfold o3 at q; omega).symm
  refine rP 10 [0,1] (mc 1 U (mc 0 U I)) ?_
  refine RK E<|bO U (aO fun AB=>?_) (aN fun AB=>?_)
  ·refine cg<|aJ<|KK V<|ao<|rP 3 [] I ?_
   refine aC ?_
   have S:(vI (((k+1):Nat):Int))=(vI ((k:Int)+1)):=by exact cI om
   refine a_ (T ⟨(k+1),⟨om,fun z hz=>by rw [hy] at hz; cases hz; exact mK (D _ hy) hx (by unfold o3; omega)⟩⟩ _ _ _ rfl os (cR.cons rfl<|cR.cons rfl<|aU rfl S<|cR.nil _) (aK [2,3]))
  refine WS fun _ L=>rP 1 [] I ?_
  refine RK L<|ak<|Q1 hQ U U U ?_
  exact cB (br fun h=>by have q:=h.pair m k y x hy om hx; unfold o3 at q; omega).symm
 refine NO U U [11,12,13] fun T38 M=>AL U uP fun B9=>RD M 1 U<|N1 11<|NO U U [12,13] fun T40 N=>AL U uP fun CB=>RD N 2 U<|N1 12<|NO U U [13] fun T42 O=>pV U uD U<|RD O 2 U<|N1 13<|NO U U [] fun T43 R=>e7 U uD U<|RD R 2 U<|lK<|KK W<|WS fun _ J=>rP 6 [0,1,2] (mc 2 U (mc 0 U (mc 1 U I))) ?_
 obtain ⟨Fk,Fn,GE⟩:=vE (fun j z _ hz=>F j z hz) hy (F _ _ hy) (show k<m by omega) hx
 refine bp 1 U<|rS (CL (xX c.dA (y.At-x.At) om om) (aS) U)<|bp 1 U<|RK J<|WS fun _ E=>rP 10 [0,1] (mc 1 U (mc 0 U I)) ?_
 refine bS (t:=113) U (aN fun H=>?_) (aO fun H=>?_)
 ·refine bp 10 U<|RK E<|aL U<|WS fun _ K=>rP 1 [] I ?_
  refine RK K<|ak<|Q1 hQ U U U ?_
  exact cB (br fun h=>by have q:=h.pair m k y x hy om hx; unfold o3 at q; omega).symm
 refine rP 10 [0,1] (mc 0 U (mc 1 U I)) ?_
 refine RK E<|bO U (aO fun AB=>?_) (aN fun AB=>?_)
 ·refine cg<|aJ<|KK V<|ao<|rP 3 [] I ?_
  refine aC ?_
  have S:(vI (((k+1):Nat):Int))=(vI ((k:Int)+1)):=by exact cI om
  refine a_ (T ⟨(k+1),⟨om,fun z hz=>by rw [hy] at hz; cases hz; exact mK (D _ hy) hx (by unfold o3; omega)⟩⟩ _ _ _ rfl os (cR.cons rfl<|cR.cons rfl<|aU rfl S<|cR.nil _) (aK [2,3]))
 refine WS fun _ L=>rP 1 [] I ?_
 refine RK L<|ak<|Q1 hQ U U U ?_
 exact cB (br fun h=>by have q:=h.pair m k y x hy om hx; unfold o3 at q; omega).symm
theorem Da (c:aT) (sA:OA) (sC:Nat) (at_:Int) (hc:fG c) (ha:0≤at_∧at_≤90000000):
 dG Tryz.prog 218 [(vA (dE.cells (dE.mk c.dA (bj.mk sA c.bk.length sC)))),(vI at_)] [(rd sA c.bk.length 3 (c.bk.map cE.cells))] (vA (ai.cells (iS c at_))):=by
 have e:=hc.len
 have W:=hc.sX
 refine bG kr Tryz.func218 U U fun j Q hQ hN=>?_
 try dsimp only
 refine WS fun _ R=>dV U fun g=>AL U eh fun h=>RK R<|WS fun _ S=>AL U eh fun d=>RK S<|ag fun _ T=>WS fun _ AA=>rP 1 [] I ?_
 refine RK AA<|ax ?_
 have A:(0≤c.bk.length):=by exact Nat.zero_le _
 refine bP (ι:={z:Nat // (z≤c.bk.length)}) [1,2,4,5] [1,2,3] U U (fun z=>[(6,(vI (z.1:Int)))]) (fun z=>[(cy d 38 (ai.cells (lu c at_ z.1)))]) (fun _=>rfl) (fun _=>rfl) (fun z=>c.bk.length-z.1) ⟨0,A⟩ (bf U) (aK [1,2,3,0]) ?_
 clear A
 rintro ⟨i,X⟩ J8 D
 try dsimp only
 refine ag fun _ V=>WS fun _ E=>rP 5 [] (mc 1 U I) ?_
 refine RK E<|bO U (aO fun O=>?_) (aN fun O=>?_)
 ·refine bM<|ab<|ab<|aF<|KK T<|WS fun _ J=>rP 1 [] (mc 3 U I) ?_
  refine e7 U cW U<|RK J<|ak<|Bf hQ [0] (mc 0 U I) U ?_
  rw [D7 hc (show c.bk.length≤i by omega)]
 refine WK V<|ag fun _ B=>ax<|WS fun _ F=>rP 3 [] (mc 1 U I) ?_
 obtain ⟨x,hx⟩:=aA c.bk i om
 have Z:=bH cE.cells hx
 refine rS (IA i U (av 2 U) oo dc om om)<|rS (jL i 0 (cE.cells x) U bV (av 2 U) Z U dc U U)<|AL U uP fun a=>e7 U uD U<|RK F<|WS fun _ G=>rP 2 [] (mc 2 U I) ?_
 have Y:=hc.vw hx
 have f:0≤o_ (c.dA*max (at_-x.At) (x.At-at_)) 1000000∧o_ (c.dA*max (at_-x.At) (x.At-at_)) 1000000≤90001:=vM W ha Y.1
 refine dY 8 [] (mc 0 U I) U<|rS (MX U)<|rS (CL (xX c.dA (max (at_-x.At) (x.At-at_)) om om) (aS) U)<|bp 1 U<|RK G<|WS fun _ H=>dY 10 [] (mc 0 U I) U<|rS (SX (bE (xs:=[(0,.tmp 38),(1,.tmp 43)]) (cs:=(ai.cells (ai.mk (x.d_.Lo-(o_ (c.dA*(max (at_-x.At) (x.At-at_))) 1000000)) (x.d_.Hi+(o_ (c.dA*(max (at_-x.At) (x.At-at_))) 1000000))))) U U (bD g6 U)) U U)<|AL U eh fun b=>e7 U cW U<|RK H<|ag fun _ C=>WS fun _ AB=>rP 2 [] I ?_
 refine RK AB<|bO U (aO fun P=>?_) (aN fun P=>?_)
 ·refine WK C<|ao<|dY 4 [0,1] (mc 5 U (mc 0 U I)) U<|rS (MX U)<|rP 4 [0,1] (mc 5 U (mc 0 U I)) ?_
  refine rS (MN U)<|rS (SX (bE (xs:=[(0,.tmp 52),(1,.tmp 57)]) (cs:=(ai.cells (ai.mk (max ((lu c at_ i).Lo) (x.d_.Lo-(o_ (c.dA*(max (at_-x.At) (x.At-at_))) 1000000))) (min ((lu c at_ i).Hi) (x.d_.Hi+(o_ (c.dA*(max (at_-x.At) (x.At-at_))) 1000000)))))) U U (bD g6 U)) U U)<|HY U cW U<|aC<|aJ<|KK B ?_
  have M:(ai.cells (ai.mk (max ((lu c at_ i).Lo) (x.d_.Lo-(o_ (c.dA*(max (at_-x.At) (x.At-at_))) 1000000))) (min ((lu c at_ i).Hi) (x.d_.Hi+(o_ (c.dA*(max (at_-x.At) (x.At-at_))) 1000000)))))=(ai.cells (lu c at_ (i+1))):=by exact congrArg ai.cells (Cq hx om).symm
  rw [M]
  refine ao<|rP 3 [] I ?_
  refine aC ?_
  have N:(vI (((i+1):Nat):Int))=(vI ((i:Int)+1)):=by exact cI om
  refine a_ (D ⟨(i+1),(by first|omega|(simp only []; omega))⟩ _ _ _ U os (cz 4<|aU U N<|cR.nil _) (aK [2,3,4,5]))
 refine ao<|dY 1 [] (mc 0 U I) U<|HY U cW U<|RK C<|ao<|dY 4 [0,1] (mc 5 U (mc 0 U I)) U<|rS (MX U)<|rP 4 [0,1] (mc 5 U (mc 0 U I)) ?_
 refine rS (MN U)<|rS (SX (bE (xs:=[(0,.tmp 52),(1,.tmp 57)]) (cs:=(ai.cells (ai.mk (max (x.d_.Lo-(o_ (c.dA*(max (at_-x.At) (x.At-at_))) 1000000)) (x.d_.Lo-(o_ (c.dA*(max (at_-x.At) (x.At-at_))) 1000000))) (min (x.d_.Hi+(o_ (c.dA*(max (at_-x.At) (x.At-at_))) 1000000)) (x.d_.Hi+(o_ (c.dA*(max (at_-x.At) (x.At-at_))) 1000000)))))) U U (bD g6 U)) U U)<|HY U cW U<|aC<|aJ<|KK B ?_
 have K:(ai.cells (ai.mk (max (x.d_.Lo-(o_ (c.dA*(max (at_-x.At) (x.At-at_))) 1000000)) (x.d_.Lo-(o_ (c.dA*(max (at_-x.At) (x.At-at_))) 1000000))) (min (x.d_.Hi+(o_ (c.dA*(max (at_-x.At) (x.At-at_))) 1000000)) (x.d_.Hi+(o_ (c.dA*(max (at_-x.At) (x.At-at_))) 1000000)))))=(ai.cells (lu c at_ (i+1))):=by exact congrArg ai.cells (Ak hc ha hx om).symm
 rw [K]
 refine ao<|rP 3 [] I ?_
 refine aC ?_
 have L:(vI (((i+1):Nat):Int))=(vI ((i:Int)+1)):=by exact cI om
 refine a_ (D ⟨(i+1),(by first|omega|(simp only []; omega))⟩ _ _ _ U os (cz 4<|aU U L<|cR.nil _) (aK [2,3,4,5]))
theorem Le (l:bq) (kA:OA) (kC:Nat) (az:List RA) (cA:OA) (cC:Nat) (bA:OA) (bC:Nat) (n:Int) (hin:ed l az) (htr:dB l.bL=true) (hbk: ∀ b∈l.aj,kh l b) (hn:0≤n∧n<(l.aj.length:Int)):
 dG Tryz.prog 159 [(vA (bW.cells (jx l kA kC cA cC bA bC))),(vI n)] (o7 l kA az cA bA) (vI (mN l n.toNat)):=by
 have AA:=hin.qI
 have S:=hin.qG
 have P:=hin.lS
 have R:=hin.qD
 have T:=hin.side
 refine bG kr Tryz.func159 U U fun X Q hQ hN=>?_
 try dsimp only
 refine WS fun _ G=>dV U fun V=>bp 1 U<|RK G<|ag fun _ H=>WS fun _ AB=>rP 2 [] I ?_
 refine RK AB<|cb U (aN fun F=>?_) (aO fun F=>?_)
 ·refine ag fun _ J=>dp cj [11,12] [] [] [0,1,2,3,4] [] U U U U U<|eS U (FA 0 U eD U)<|eS U (LP (bJ.cells (bJ.mk (bj.mk kA l.bL.length kC))) 0 U bV U U U)<|eS U (FA 3 U eD U)<|eS U (L1 (vS bA l.aj.length bC) 0 U bV U U) ?_
  obtain ⟨y,hy⟩:=aA l.aj 0 om
  have A:=bH cO.cells hy
  refine eS U (IA 0 U (av 4 U) uv dc U om)<|eS U (nQ (0*4) U (av 4 U) (Nat.mul_pos om dc) eD U)<|eS U (jL 0 0 (dg.cells y.lg) U bV (av 4 U) A U dc U U)<|eS U (CL (RG l.bL kA kC y.lg asm asm) (aY [1]) U)<|eS U (MV U)<|eS U (EX U)<|eS U (EX U)<|eS U (AG U)<|eg U<|cf U fun T6 L=>AL U eh fun W=>aC (L _ _ (aK [1,2,3,4,5]) ?_)
  refine cf U fun T8 M=>e7 U cW U<|aC (M _ _ (aK [1,2,3,4,5]) ?_)
  refine e8 U<|KK J<|WS fun _ K=>rP 3 [] (mc 0 U I) ?_
  refine RK K<|ak<|Q1 hQ U U U ?_
  (refine congrArg (Value.int .i64) ?_; rw [show n.toNat=0 by omega]; rw [zf hy,(ym htr (hbk _ (List.mem_of_getElem? hy)).1).2])
 refine WK H<|ag fun _ B=>dp cj [19,20] [] [] [0,1,2,3,4] [] U U U U U<|eS U (FA 0 U eD U)<|eS U (LP (bJ.cells (bJ.mk (bj.mk kA l.bL.length kC))) 0 U bV U U U)<|eS U (FA 3 U eD U)<|eS U (L1 (vS bA l.aj.length bC) 0 U bV U U)<|eS U (MV U)<|eS U (BI U (yE ⟨om,om⟩)) ?_
 obtain ⟨y,hy⟩:=aA l.aj (((n-1)).toNat) om
 have A:=bH cO.cells hy
 refine eS U (IA (((n-1)).toNat) U (av 4 U) uv dc om om)<|eS U (nQ ((((n-1)).toNat)*4) U (av 4 U) (Nat.mul_pos om dc) eD U)<|eS U (jL (((n-1)).toNat) 0 (dg.cells y.lg) U bV (av 4 U) A U dc U U)<|eS U (FA 3 U eD U)<|eS U (L1 (vS bA l.aj.length bC) 0 U bV U U)<|eS U (MV U) ?_
 obtain ⟨x,hx⟩:=aA l.aj ((n).toNat) om
 have N:=bH cO.cells hx
 refine eS U (IA ((n).toNat) U (av 4 U) uv dc om om)<|eS U (nQ (((n).toNat)*4) U (av 4 U) (Nat.mul_pos om dc) eD U)<|eS U (jL ((n).toNat) 0 (dg.cells x.lg) U bV (av 4 U) N U dc U U)<|eS U (CL (JV l.bL kA kC y.lg x.lg asm asm) (aY [1]) U)<|eS U (MV U)<|eS U (EX U)<|eS U (EX U)<|eS U (AG U)<|eg U<|cf U fun T11 D=>AL U eh fun O=>aC (D _ _ (aK [1,2,3,4,5]) ?_)
 refine cf U fun T13 E=>e7 U cW U<|aC (E _ _ (aK [1,2,3,4,5]) ?_)
 refine e8 U<|KK B<|WS fun _ C=>rP 3 [] (mc 0 U I) ?_
 refine RK C<|ak<|Q1 hQ U U U ?_
 (refine congrArg (Value.int .i64) ?_; rw [Cd om hx (by rw [show n.toNat-1=(n-1).toNat by omega]; exact hy),(l0 htr ⟨(hbk _ (List.mem_of_getElem? hy)).1,(hbk _ (List.mem_of_getElem? hx)).1⟩).2])
theorem JZ (l:bq) (kA:OA) (kC:Nat) (az:List RA) (cA:OA) (cC:Nat) (bA:OA) (bC:Nat) (n:Int) (hin:ed l az) (htr:dB l.bL=true) (hok:mH l) (hn:0≤n∧n<(l.aj.length:Int)):
 dG Tryz.prog 212 [(vA (bW.cells (jx l kA kC cA cC bA bC))),(vI n)] (o7 l kA az cA bA) (vI (eH l n.toNat)):=by
 have G:=hin.qI
 have F:=hin.qG
 have D:=hin.lS
 have E:=hin.qD
 have C:=hok.head
 unfold eL at C
 have H:=CE htr hok.v_ n.toNat
 have AA:=hok.P3 n.toNat om
 refine bG kr Tryz.func212 U U fun K Q hQ hN=>?_
 try dsimp only
 refine WS fun _ A=>dV U fun J=>bp 1 U<|RK A<|ag fun _ B=>cS cj 12 kr<|kf 2 [] (mc 0 U I) U<|dS (CL (Le l kA kC az cA cC bA bC n hin htr (by exact hok.v_) hn) (aY [1,2,3,4]) U)<|dS (BI U (sW ⟨om,om⟩))<|kf 6 [] (mc 0 U I) U<|dS (BI U (vh om om om))<|dP 1 [] I ?_
 refine cu<|RK B<|ak<|Q1 hQ U U U ?_
 exact cI (by unfold eH o_; rw [Int.mul_comm])
theorem Na (l:bq) (kA:OA) (kC:Nat) (az:List RA) (cA:OA) (cC:Nat) (bA:OA) (bC:Nat) (hin:ed l az) (htr:dB l.bL=true):
 dG Tryz.prog 127 [(vA (bW.cells (jx l kA kC cA cC bA bC)))] (o7 l kA az cA bA) (vB (decide (mH l))):=by
 have Eq:=hin.qI
 have C3:=hin.qG
 have C0:=hin.lS
 have C2:=hin.qD
 have Di:=hin.side
 have Do:=kq htr
 have Cx:=lv htr
 refine bG kr Tryz.func127 U U fun w0 Q hQ hN=>?_
 try dsimp only
 refine WS fun _ A7=>dV U fun b2=>bp 1 U<|RK A7<|ag fun _ A8=>WS fun _ D=>dY 2 [] (mc 0 U I) U<|rS (CL (iY l.gl 1 5000) (aS) U)<|rP 2 [] I ?_
 refine bS (t:=10) U (aX fun AU=>?_) (aW fun AU=>?_)
 ·refine bp 35 U<|RK D<|aL U<|WS fun _ A9=>rP 1 [] I ?_
  refine RK A9<|ak<|Q1 hQ U U U ?_
  exact cB (br fun h=>by have q:=h.head; unfold eL at q; omega).symm
 refine dY 3 [] (mc 0 U I) U<|rS (CL (iY (l.aG.length:Int) 1 4) (aS) U)<|rP 3 [] I ?_
 refine bS (t:=17) U (aX fun Ag=>?_) (aW fun Ag=>?_)
 ·refine bp 28 U<|RK D<|aL U<|WS fun _ Ba=>rP 1 [] I ?_
  refine RK Ba<|ak<|Q1 hQ U U U ?_
  exact cB (br fun h=>by have q:=h.head; unfold eL at q; omega).symm
 refine dY 3 [] (mc 0 U I) U<|rS (CL (iY (l.aj.length:Int) 1 6) (aS) U)<|rP 3 [] I ?_
 refine bS (t:=24) U (aX fun Ax=>?_) (aW fun Ax=>?_)
 ·refine bp 21 U<|RK D<|aL U<|WS fun _ B3=>rP 1 [] I ?_
  refine RK B3<|ak<|Q1 hQ U U U ?_
  exact cB (br fun h=>by have q:=h.head; unfold eL at q; omega).symm
 refine dY 6 [] (mc 0 U I) U<|rS (CL (iY l.bU 0 ((l.aj.length:Int)-1)) (aS) U)<|rP 3 [] I ?_
 refine bS (t:=34) U (aX fun A0=>?_) (aW fun A0=>?_)
 ·refine bp 11 U<|RK D<|aL U<|WS fun _ B9=>rP 1 [] I ?_
  refine RK B9<|ak<|Q1 hQ U U U ?_
  exact cB (br fun h=>by have q:=h.head; unfold eL at q; omega).symm
 refine dY 2 [] (mc 0 U I) U<|rS (CL (iY l.ew 0 3) (aS) U)<|rP 3 [] I ?_
 refine bS (t:=40) U (aX fun A1=>?_) (aW fun A1=>?_)
 ·refine bp 5 U<|RK D<|aL U<|WS fun _ CB=>rP 1 [] I ?_
  refine RK CB<|ak<|Q1 hQ U U U ?_
  exact cB (br fun h=>by have q:=h.head; unfold eL at q; omega).symm
 refine dY 2 [] (mc 0 U I) U<|rS (CL (iY l.cU 0 3) (aS) U)<|rP 2 [] I ?_
 refine RK D<|cb U (aX fun A2=>?_) (aW fun A2=>?_)
 ·refine WS fun _ N=>rP 1 [] I ?_
  refine RK N<|ak<|Q1 hQ U U U ?_
  exact cB (br fun h=>by have q:=h.head; unfold eL at q; omega).symm
 refine WK A8<|ag fun _ O=>WS fun _ R=>rP 1 [] I ?_
 refine RK R<|ax ?_
 have A:(0≤l.aG.length)∧(∀ (j:Nat) y,j<0→l.aG[j]? =some y→fG y):=by exact ⟨Nat.zero_le _,fun j y hj=>absurd hj (Nat.not_lt_zero _)⟩
 refine bP (ι:={z:Nat // (z≤l.aG.length)∧(∀ (j:Nat) y,j<z→l.aG[j]? =some y→fG y)}) [1] [0,1,2,3,4] U U (fun z=>[(3,(vI (z.1:Int)))]) (fun z=>[]) (fun _=>rfl) (fun _=>rfl) (fun z=>l.aG.length-z.1) ⟨0,A⟩ (bf U) (aK [0,1,2,3,4]) ?_
 clear A
 rintro ⟨i,⟨Ci,F⟩⟩ J13 K
 try dsimp only
 refine ag fun _ S=>WS fun _ T=>rP 5 [] (mc 0 U I) ?_
 refine RK T<|cb U (aN fun A3=>?_) (aO fun A3=>?_)
 ·refine WK S<|ag fun _ AA=>ax<|WS fun _ V=>rP 3 [] (mc 0 U I) ?_
  obtain ⟨x,hx⟩:=aA l.aG i om
  obtain ⟨xa,J⟩:=aA az i om
  have Cp:(List.zipWith aT.cells l.aG az)[i]? =some (aT.cells x xa):=cG hx J
  refine rS (IA i U (av 2 U) vq dc om om)<|rS (jL i 0 (dE.cells (dE.mk x.dA (bj.mk xa.1 x.bk.length xa.2))) U bV (av 2 U) Cp U dc U U) ?_
  have EQ:=(hin.QI _ _ _ hx J).2
  refine rS (CL (KC x xa.1 xa.2 asm) (aw (show g9 _ (rd xa.1 x.bk.length 3 (x.bk.map cE.cells)).holds from (cd 3 U (bB hx J (by simp [aT.jU]))))<|aS) U)<|rP 1 [] I ?_
  refine RK V<|bO U (aW fun AB=>?_) (aX fun AB=>?_)
  ·refine cg<|aJ<|KK AA<|ao<|rP 3 [] I ?_
   refine aC ?_
   have u:(vI (((i+1):Nat):Int))=(vI ((i:Int)+1)):=by exact cI om
   refine a_ (K ⟨(i+1),⟨om,mK (P:=fun _ y=>fG y) F hx AB⟩⟩ _ _ _ U os (cR.cons U<|aU U u<|cR.nil _) (aK [0,1,2,3,4]))
  refine WS fun _ W=>rP 1 [] I ?_
  refine RK W<|ak<|Q1 hQ U U U ?_
  exact cB (br fun h=>AB (h.clock _ (aP hx))).symm
 refine bM<|ab<|ab<|aF<|KK O<|ag fun _ X=>WS fun _ Y=>rP 1 [] I ?_
 refine RK Y<|ax ?_
 have A:(0≤l.aj.length)∧(∀ (j:Nat) y,j<0→l.aj[j]? =some y→kh l y):=by exact ⟨Nat.zero_le _,fun j y hj=>absurd hj (Nat.not_lt_zero _)⟩
 refine bP (ι:={z:Nat // (z≤l.aj.length)∧(∀ (j:Nat) y,j<z→l.aj[j]? =some y→kh l y)}) [1] [0,1,2,3,4] U U (fun z=>[(4,(vI (z.1:Int)))]) (fun z=>[]) (fun _=>rfl) (fun _=>rfl) (fun z=>l.aj.length-z.1) ⟨0,A⟩ (bf U) (aK [0,1,2,3,4]) ?_
 clear A
 rintro ⟨m,⟨Ck,B⟩⟩ J22 L
 try dsimp only
 refine ag fun _ Z=>WS fun _ a=>rP 5 [] (mc 0 U I) ?_
 refine RK a<|bO U (aO fun A4=>?_) (aN fun A4=>?_)
 ·refine bM<|ab<|ab<|aF<|KK X<|ag fun _ e=>WS fun _ f=>rP 1 [] I ?_
  refine RK f<|ax ?_
  have A:(0≤l.aj.length)∧(∀ j,j<0→1≤mN l j):=by exact ⟨Nat.zero_le _,fun j hj=>absurd hj (Nat.not_lt_zero _)⟩
  refine bP (ι:={z:Nat // (z≤l.aj.length)∧(∀ j,j<z→1≤mN l j)}) [1] [0,1,2,3,4] U U (fun z=>[(5,(vI (z.1:Int)))]) (fun z=>[]) (fun _=>rfl) (fun _=>rfl) (fun z=>l.aj.length-z.1) ⟨0,A⟩ (bf U) (aK [0,1,2,3,4]) ?_
  clear A
  rintro ⟨n,⟨AO,C⟩⟩ J32 M
  try dsimp only
  have C1:=w7 (P:=kh l) om B
  refine ag fun _ g=>WS fun _ k=>rP 5 [] (mc 0 U I) ?_
  refine RK k<|bO U (aO fun A6=>?_) (aN fun A6=>?_)
  ·refine bM<|ab<|ab<|aF<|KK e<|WS fun _ s=>rP 1 [] I ?_
   refine RK s<|ak<|Q1 hQ U U U ?_
   exact cB (dC (zP (by unfold eL; omega) (w7 om F) (w7 om B) (fun j hj=>C j om))).symm
  refine WK g<|ag fun _ o=>ax<|WS fun _ p=>dY 2 [] (mc 0 U I) U<|rS (CL (Le l kA kC az cA cC bA bC (n:Int) hin htr asm om) (aY [1,2,3,4]) U)<|rP 1 [] I ?_
  refine RK p<|bO U (aO fun E=>?_) (aN fun E=>?_)
  ·refine cg<|aJ<|KK o<|ao<|rP 3 [] I ?_
   refine aC ?_
   have w:(vI (((n+1):Nat):Int))=(vI ((n:Int)+1)):=by exact cI om
   refine a_ (M ⟨(n+1),⟨om,fun j hj=>by rcases Nat.lt_or_ge j n with q|q; exact C j q; (obtain rfl:j=n:=by omega); simp only [Int.toNat_natCast] at E; omega⟩⟩ _ _ _ rfl os (cR.cons rfl<|aU rfl w<|cR.nil _) (aK [0,1,2,3,4]))
  refine WS fun _ r=>rP 1 [] I ?_
  refine RK r<|ak<|Q1 hQ U U U ?_
  exact cB (br fun h=>by have q:=h.P3 n om; simp only [Int.toNat_natCast] at E; omega).symm
 refine WK Z<|ag fun _ b=>ax<|ag fun _ H=>cS cj 24 kr<|kI 1 U<|dS (LP (bJ.cells (bJ.mk (bj.mk kA l.bL.length kC))) 0 U bV U U U)<|dP 3 [] (mc 0 U I) ?_
 obtain ⟨y,hy⟩:=aA l.aj m om
 have AC:=bH cO.cells hy
 refine dS (IA m U (av 4 U) uv dc om om)<|dS (nQ (m*4) U (av 4 U) (Nat.mul_pos om dc) eD U)<|dS (jL m 0 (dg.cells y.lg) U bV (av 4 U) AC U dc U U)<|dS (CL (sJ l.bL kA kC y.lg asm asm) (aY [1]) U)<|dP 2 [] I ?_
 refine ic (t:=77) U (aX fun G=>?_) (aW fun G=>?_)
 ·refine kI 13 U<|cu<|RK H<|aL U<|WS fun _ c=>rP 1 [] I ?_
  refine RK c<|ak<|Q1 hQ U U U ?_
  exact cB (br fun h=>by have q:=h.v_ _ (aP hy); have q2:=q.2; first|exact G q.1|omega).symm
 refine kf 3 [] (mc 0 U I) U<|dS (IA m U (av 4 U) uv dc om om)<|dS (nQ ((m*4)+3) U (av 4 U) (Nat.mul_pos om dc) eD U)<|dS (gv m 3 (vI y.jS) U bV (av 4 U) AC U dc U)<|kf 4 [] (mc 0 U I) U<|dS (CL (iY y.jS 0 ((l.aG.length:Int)-1)) (aS) U)<|dP 2 [] I ?_
 refine cu<|RK H<|bO U (aW fun A5=>?_) (aX fun A5=>?_)
 ·refine cg<|aJ<|KK b<|ao<|rP 3 [] I ?_
  refine aC ?_
  have v:(vI (((m+1):Nat):Int))=(vI ((m:Int)+1)):=by exact cI om
  refine a_ (L ⟨(m+1),⟨om,mK (P:=fun _ y=>kh l y) B hy ⟨G,om,om⟩⟩⟩ _ _ _ U os (cR.cons U<|aU U v<|cR.nil _) (aK [0,1,2,3,4]))
 refine WS fun _ d=>rP 1 [] I ?_
 refine RK d<|ak<|Q1 hQ U U U ?_
 exact cB (br fun h=>by have q:=h.v_ _ (aP hy); have q2:=q.2; first|exact G q.1|omega).symm
end
section
open Go.RowKit
theorem xC (l:bq) (kA:OA) (kC:Nat) (az:List RA) (cA:OA) (cC:Nat) (bA:OA) (bC:Nat) (hin:ed l az):
 dG Tryz.prog 105 [(vA (bW.cells (jx l kA kC cA cC bA bC)))] (o7 l kA az cA bA) (vI (e_ l)):=by
 have N:=hin.qI
 have M:=hin.qG
 have K:=hin.lS
 have L:=hin.qD
 refine bG kr Tryz.func105 U U fun P Q hQ hN=>?_
 try dsimp only
 refine WS fun _ C=>dV U fun O=>bp 1 U<|RK C<|ag fun _ D=>WS fun _ E=>bp 1 U<|rS (LP (bJ.cells (bJ.mk (bj.mk kA l.bL.length kC))) 0 U bV U U U)<|rS (CL (wZ l.bL kA kC asm) (aY [1]) U)<|rP 1 [] I ?_
 refine RK E<|cb U (fun A=>?_) (fun A=>?_)
 ·rw [Bool.not_eq_true'] at A
  refine WS fun _ F=>rP 1 [] I ?_
  refine RK F<|ak<|Q1 hQ U U U ?_
  exact cI (zo (by simpa using A)).symm
 rw [Bool.not_eq_false'] at A
 refine WK D<|ag fun _ G=>WS fun _ H=>dY 1 [] (mc 0 U I) U<|rS (CL (Na l kA kC az cA cC bA bC hin asm) (aY [1,2,3,4]) U)<|rP 1 [] I ?_
 refine RK H<|cb U (aX fun B=>?_) (aW fun B=>?_)
 ·refine WS fun _ AA=>rP 1 [] I ?_
  refine RK AA<|ak<|Q1 hQ U U U ?_
  exact cI (rl A B).symm
 refine WK G<|WS fun _ J=>rP 1 [] I ?_
 refine RK J<|ak<|Q1 hQ U U U ?_
 exact cI (CF A B).symm
theorem MB (l:bq) (kA:OA) (kC:Nat) (az:List RA) (cA:OA) (cC:Nat) (bA:OA) (bC:Nat) (s:aH) (hin:ed l az) (hok:mH l) (hs:(0≤s.fI∧s.fI≤(l.aj.length:Int)-1)∧0≤s.Read∧s.Read≤86400000):
 dG Tryz.prog 213 [(vA (bW.cells (jx l kA kC cA cC bA bC))),(vA (aH.cells s))] (o7 l kA az cA bA) (vT [(vA (ai.cells (dq l s))),(vB (decide ((dq l s).Lo≤(dq l s).Hi)))]):=by
 have Ax:=hin.qI
 have Ag:=hin.qG
 have AO:=hin.lS
 have AU:=hin.qD
 refine bG kr Tryz.func213 U U fun w0 Q hQ hN=>?_
 try dsimp only
 refine WS fun _ i=>dV U fun b2=>dV U fun b3=>AL U eh fun b4=>rP 1 [] I ?_
 refine RK i<|ag fun _ j=>dp cj [11,12] [] [] [0,1,2,3,4,5,6] [] U U U U U<|eS U (FA 2 U eD U)<|eS U (L1 (vS cA l.aG.length cC) 2 U bV U U)<|eS U (FA 3 U eD U)<|eS U (L1 (vS bA l.aj.length bC) 2 U bV U U)<|eS U (FA 0 U eD U)<|eS U (L1 (vI s.fI) 1 U bV U U) ?_
 obtain ⟨y,hy⟩:=aA l.aj ((s.fI).toNat) om
 have w:=bH cO.cells hy
 refine eS U (IA ((s.fI).toNat) U (av 6 U) uv dc om om)<|eS U (nQ ((((s.fI).toNat)*4)+3) U (av 6 U) (Nat.mul_pos om dc) eD U)<|eS U (gv ((s.fI).toNat) 3 (vI y.jS) U bV (av 6 U) w U dc U) ?_
 have A0:=(hok.v_ _ (aP hy)).2
 obtain ⟨x,hx⟩:=aA l.aG ((y.jS).toNat) om
 obtain ⟨xa,J⟩:=aA az ((y.jS).toNat) om
 have u:(List.zipWith aT.cells l.aG az)[(y.jS).toNat]? =some (aT.cells x xa):=cG hx J
 refine eS U (IA ((y.jS).toNat) U (av 4 U) vq dc om om)<|eS U (jL ((y.jS).toNat) 0 (dE.cells (dE.mk x.dA (bj.mk xa.1 x.bk.length xa.2))) U bV (av 4 U) u U dc U U)<|eg U<|cf U fun T6 m=>AL U zC fun b7=>aC (m _ _ (aK [1,2,3,4,5,6,7]) ?_)
 refine cf U fun T8 o=>e7 U zI U<|aC (o _ _ (aK [1,2,3,4,5,6,7]) ?_)
 refine e8 U<|KK j<|WS fun _ k=>rP 2 [] I ?_
 refine RK k<|ag fun _ K=>ax ?_
 have A:(0≤(0:Int)∧(0:Int)≤(gE (iB x s.Read) 86400001))∧((gE (iB x s.Read) 86400001)≤(86400001:Int)∧(86400001:Int)≤86400001):=by (have Z:=jk (p:=iB x s.Read) (n:=86400001); omega)
 refine bP (ι:={z:Int×Int // (0≤z.1∧z.1≤(gE (iB x s.Read) 86400001))∧((gE (iB x s.Read) 86400001)≤z.2∧z.2≤86400001)}) [2,3,4,6] [0,1,2,3,4,5,6,7] U U (fun z=>[(7,(vI z.1.1)),(8,(vI z.1.2))]) (fun z=>[]) (fun _=>rfl) (fun _=>rfl) (fun z=>(z.1.2-z.1.1).toNat) ⟨((0:Int),(86400001:Int)),A⟩ (bf U) (aK [0,1,2,3,4,5,6,7]) ?_
 clear A
 rintro ⟨⟨a,b⟩,⟨H,AB⟩⟩ J11 F
 try dsimp only at H AB
 try dsimp only
 have B:=hok.clock _ (aP hx)
 have Z:=jk (p:=iB x s.Read) (n:=86400001)
 have Y:=jk (p:=iE x s.Read) (n:=86400001)
 refine ag fun _ L=>WS fun _ M=>rP 3 [] I ?_
 refine RK M<|cb U (aN fun c=>?_) (aO fun c=>?_)
 ·refine WK L<|ax<|WS fun _ N=>bp 3 U<|rS (BI U (vh om om om))<|bp 1 U<|RK N<|ag fun _ O=>cS cj 9 kr<|dP 3 [] (mc 0 U I) ?_
  refine dS (CL (Da x xa.1 xa.2 ((a+b)/2) asm om) (aw (show g9 _ (rd xa.1 x.bk.length 3 (x.bk.map cE.cells)).holds from (cd 6 U (bB hx J (by simp [aT.jU]))))<|aS) U)<|dS (SX (sk (v:=(vI ((iS x ((a+b)/2)).Hi))) U U eD KM U) U U) ?_
  have t:=rK B (show 0≤(a+b)/2∧(a+b)/2≤90000000 by omega)
  refine dP 4 [] (mc 2 U I) ?_
  refine cu<|RK O<|cb U (aN fun g=>?_) (aO fun g=>?_)
  ·refine ao<|rP 2 [] I ?_
   refine aC<|aJ ?_
   refine a_ (F ⟨(a,((a+b)/2)),(by dsimp only; have hm:=lI (r:=s.Read) B (x:=(a+b)/2) om om; rcases Int.lt_or_le ((a+b)/2) (gE (iB x s.Read) 86400001) with q|q; (have C:=hm.1 q; simp only [iB,decide_eq_false_iff_not] at C; omega); (have C:=hm.2.1 q; simp only [iB,decide_eq_true_eq] at C; omega))⟩ _ _ _ rfl (by simp only []; omega) (bf rfl) (aK [0,1,2,3,4,5,6,7]))
  refine ao<|rP 3 [] I ?_
  refine aC<|aJ ?_
  refine a_ (F ⟨((((a+b)/2)+1),b),(by dsimp only; have hm:=lI (r:=s.Read) B (x:=(a+b)/2) om om; rcases Int.lt_or_le ((a+b)/2) (gE (iB x s.Read) 86400001) with q|q; (have C:=hm.1 q; simp only [iB,decide_eq_false_iff_not] at C; omega); (have C:=hm.2.1 q; simp only [iB,decide_eq_true_eq] at C; omega))⟩ _ _ _ rfl (by simp only []; omega) (bf rfl) (aK [0,1,2,3,4,5,6,7]))
 refine bM<|ab<|ab<|aF<|KK K<|WS fun _ P=>bp 2 U<|RK P<|WS fun _ R=>rP 2 [] I ?_
 refine RK R<|ag fun _ S=>ax ?_
 have A:(-1≤((-1):Int)∧((-1):Int)≤(gE (iE x s.Read) 86400001)-1)∧((gE (iE x s.Read) 86400001)-1≤(86400000:Int)∧(86400000:Int)≤86400000):=by (have Y:=jk (p:=iE x s.Read) (n:=86400001); omega)
 refine bP (ι:={z:Int×Int // (-1≤z.1∧z.1≤(gE (iE x s.Read) 86400001)-1)∧((gE (iE x s.Read) 86400001)-1≤z.2∧z.2≤86400000)}) [2,3,4,6,10] [0,1,2,3,4,5,6,7] U U (fun z=>[(7,(vI z.1.1)),(8,(vI z.1.2))]) (fun z=>[]) (fun _=>rfl) (fun _=>rfl) (fun z=>(z.1.2-z.1.1).toNat) ⟨(((-1):Int),(86400000:Int)),A⟩ (bf U) (aK [0,1,2,3,4,5,6,7]) ?_
 clear A
 rintro ⟨⟨d,e⟩,⟨D,E⟩⟩ J20 G
 try dsimp only at D E
 try dsimp only
 have B:=hok.clock _ (aP hx)
 have Z:=jk (p:=iB x s.Read) (n:=86400001)
 have Y:=jk (p:=iE x s.Read) (n:=86400001)
 refine ag fun _ T=>WS fun _ AA=>rP 3 [] I ?_
 refine RK AA<|bO U (aO fun f=>?_) (aN fun f=>?_)
 ·refine bM<|ab<|ab<|aF<|KK S<|WS fun _ X=>bp 2 U<|rS (SX (bE (xs:=[(0,.tmp 63),(1,.tmp 64)]) (cs:=(ai.cells (ai.mk a d))) U U (bD g6 U)) U U)<|bp 3 U<|pV U cW U<|rP 1 [] I ?_
  refine RK X<|ak<|mh hQ [0] (mc 1 U I) U ?_
  have e0:dq l s=⟨a,d⟩:=by (unfold dq B5; rw [xh hy hx,show a=(gE (iB x s.Read) 86400001) by omega,show d=(gE (iE x s.Read) 86400001)-1 by omega])
  rw [e0]
 refine WK T<|ax<|WS fun _ V=>bp 4 U<|rS (BI U (vh om om om))<|bp 1 U<|RK V<|ag fun _ W=>cS cj 9 kr<|dP 3 [] (mc 0 U I) ?_
 refine dS (CL (Da x xa.1 xa.2 (((d+e)+1)/2) asm om) (aw (show g9 _ (rd xa.1 x.bk.length 3 (x.bk.map cE.cells)).holds from (cd 6 U (bB hx J (by simp [aT.jU]))))<|aS) U)<|dS (SX (sk (v:=(vI ((iS x (((d+e)+1)/2)).Lo))) U U eD Iw U) U U) ?_
 have t:=rK B (show 0≤(d+e+1)/2∧(d+e+1)/2≤90000000 by omega)
 refine dP 4 [] (mc 2 U I) ?_
 refine cu<|RK W<|cb U (aN fun h=>?_) (aO fun h=>?_)
 ·refine ao<|rP 2 [] I ?_
  refine aC<|aJ ?_
  refine a_ (G ⟨((((d+e)+1)/2),e),(by dsimp only; have hm:=lI (r:=s.Read) B (x:=(d+e+1)/2) om om; rcases Int.lt_or_le ((d+e+1)/2) (gE (iE x s.Read) 86400001) with q|q; (have C:=hm.2.2.1 q; simp only [iE,decide_eq_false_iff_not] at C; omega); (have C:=hm.2.2.2 q; simp only [iE,decide_eq_true_eq] at C; omega))⟩ _ _ _ rfl (by simp only []; omega) (bf rfl) (aK [0,1,2,3,4,5,6,7]))
 refine ao<|rP 3 [] I ?_
 refine aC<|aJ ?_
 refine a_ (G ⟨(d,((((d+e)+1)/2)-1)),(by dsimp only; have hm:=lI (r:=s.Read) B (x:=(d+e+1)/2) om om; rcases Int.lt_or_le ((d+e+1)/2) (gE (iE x s.Read) 86400001) with q|q; (have C:=hm.2.2.1 q; simp only [iE,decide_eq_false_iff_not] at C; omega); (have C:=hm.2.2.2 q; simp only [iE,decide_eq_true_eq] at C; omega))⟩ _ _ _ rfl (by simp only []; omega) (bf rfl) (aK [0,1,2,3,4,5,6,7]))
end
section
open Go.RowKit
theorem EN (l:bq) (kA:OA) (kC:Nat) (az:List RA) (cA:OA) (cC:Nat) (bA:OA) (bC:Nat) (r:cQ) (sgA:OA) (sgC:Nat) (hin:ed l az) (hsl:r.aa.length≤1000000):
 dG Tryz.prog 152 [(vA (bW.cells (jx l kA kC cA cC bA bC))),(vA (de.cells (g8 r sgA sgC)))] ((o7 l kA az cA bA)++[(rd sgA r.aa.length 2 (r.aa.map aH.cells))]) (vB (decide (fW l r))):=by
 have AU:=hin.qI
 have AO:=hin.qG
 have w:=hin.lS
 have AC:=hin.qD
 refine bG kr Tryz.func152 U U fun w0 Q hQ hN=>?_
 try dsimp only
 refine WS fun _ h=>dV U fun b2=>dV U fun b3=>bp 1 U<|RK h<|ag fun _ j=>WS fun _ H=>dY 2 [] (mc 0 U I) U<|rS (CL (iY r.Start 0 86400000) (aS) U)<|rP 2 [] I ?_
 refine bS (t:=11) U (aX fun X=>?_) (aW fun X=>?_)
 ·refine bp 13 U<|RK H<|aL U<|WS fun _ k=>rP 1 [] I ?_
  refine RK k<|ak<|Q1 hQ U U U ?_
  exact cB (br fun q=>by have C:=q.time; have u:=q.len; omega).symm
 refine dY 4 [] (mc 0 U I) U<|rS (CL (iY r.gL r.Start 86400000) (aS) U)<|rP 3 [] I ?_
 refine bS (t:=19) U (aX fun Z=>?_) (aW fun Z=>?_)
 ·refine bp 5 U<|RK H<|aL U<|WS fun _ m=>rP 1 [] I ?_
  refine RK m<|ak<|Q1 hQ U U U ?_
  exact cB (br fun q=>by have C:=q.time; have u:=q.len; omega).symm
 refine rP 5 [] (mc 0 U I) ?_
 refine RK H<|cb U (aN fun a=>?_) (aO fun a=>?_)
 ·refine WS fun _ n=>rP 1 [] I ?_
  refine RK n<|ak<|Q1 hQ U U U ?_
  exact cB (br fun q=>by have C:=q.time; have u:=q.len; omega).symm
 refine WK j<|ag fun _ o=>WS fun _ J=>rP 1 [] I ?_
 refine RK J<|ax ?_
 have F:(0≤r.aa.length)∧(o1 l r.aa 0):=by exact ⟨Nat.zero_le _,v9⟩
 refine bP (ι:={z:Nat // (z≤r.aa.length)∧(o1 l r.aa z)}) [2,3] [0,1,2,3,4,5,6] U U (fun z=>[(5,(vI (z.1:Int)))]) (fun z=>[]) (fun _=>rfl) (fun _=>rfl) (fun z=>r.aa.length-z.1) ⟨0,F⟩ (bf U) (aK [0,1,2,3,4,5,6]) ?_
 clear F
 rintro ⟨i,⟨p,A⟩⟩ J11 D
 try dsimp only
 refine ag fun _ K=>WS fun _ L=>rP 5 [] (mc 0 U I) ?_
 refine RK L<|bO U (aO fun Y=>?_) (aN fun Y=>?_)
 ·refine bM<|ab<|ab<|aF<|KK o<|WS fun _ T=>rP 1 [] I ?_
  refine RK T<|ak<|Q1 hQ U U U ?_
  exact cB (dC (xz om om A om)).symm
 refine WK K<|ag fun _ E=>ax<|WS fun _ M=>rP 3 [] (mc 0 U I) ?_
 obtain ⟨x,hx⟩:=aA r.aa i om
 have s:=bH aH.cells hx
 refine rS (IA i U (av 6 U) wG dc om om)<|rS (jL i 0 (aH.cells x) U bV (av 6 U) s U dc U U)<|AL U BY fun v=>e7 U pE U<|RK M<|ag fun _ N=>WS fun _ G=>dY 6 [0,1] (mc 0 U (mc 2 U I)) U<|rS (CL (iY x.fI 0 ((l.aj.length:Int)-1)) (aS) U)<|rP 2 [] I ?_
 refine bS (t:=45) U (aX fun b=>?_) (aW fun b=>?_)
 ·refine bp 5 U<|RK G<|aL U<|WS fun _ O=>rP 1 [] I ?_
  refine RK O<|ak<|Q1 hQ U U U ?_
  exact cB (br fun q=>by have C:=q.sig i x hx; unfold jB j2 at C; omega).symm
 refine dY 2 [] (mc 0 U I) U<|rS (CL (iY x.Read 0 86400000) (aS) U)<|rP 2 [] I ?_
 refine RK G<|cb U (aX fun c=>?_) (aW fun c=>?_)
 ·refine WS fun _ P=>rP 1 [] I ?_
  refine RK P<|ak<|Q1 hQ U U U ?_
  exact cB (br fun q=>by have C:=q.sig i x hx; unfold jB j2 at C; omega).symm
 refine WK N<|ag fun _ B=>cS cj 38 kr<|dP 3 [] I ?_
 refine jm (t:=53) U (aO fun d=>?_) (aN fun d=>?_)
 ·refine kI 35 U<|cu<|RK B<|bT U<|cg<|aJ<|KK E<|ao<|rP 3 [] I ?_
  refine aC ?_
  have W:(vI (((i+1):Nat):Int))=(vI ((i:Int)+1)):=by exact cI om
  refine a_ (D ⟨(i+1),⟨om,jC A hx (by unfold jB j2; (rw [HA om]; simp only; omega))⟩⟩ _ _ _ U os (cR.cons U<|cR.cons U<|aU U W<|cR.nil _) (aK [1,2,3,4,5,6,7]))
 refine dP 6 [0,1] (mc 0 U (mc 1 U I)) ?_
 obtain ⟨y,hy⟩:=aA r.aa (i-1) om
 have AB:=bH aH.cells hy
 refine dS (IA (i-1) U (av 7 U) wG dc om om)<|dS (nQ ((i-1)*2) U (av 7 U) (Nat.mul_pos om dc) eD U)<|dS (gv (i-1) 0 (vI y.fI) U bV (av 7 U) AB U dc U)<|dP 2 [] I ?_
 refine ic (t:=64) U (aN fun e=>?_) (aO fun e=>?_)
 ·refine kI 24 U<|cu<|RK B<|aL U<|WS fun _ R=>rP 1 [] I ?_
  refine RK R<|ak<|Q1 hQ U U U ?_
  exact cB (br fun q=>by have C:=q.sig i x hx; unfold jB j2 at C; (rw [sf om hy] at C; omega)).symm
 refine kf 6 [0,1] (mc 0 U (mc 1 U I)) U<|dS (IA (i-1) U (av 7 U) wG dc om om)<|dS (nQ ((i-1)*2) U (av 7 U) (Nat.mul_pos om dc) eD U)<|dS (gv (i-1) 0 (vI y.fI) U bV (av 7 U) AB U dc U)<|dP 2 [] I ?_
 refine jm (t:=75) U (aO fun f=>?_) (aN fun f=>?_)
 ·refine kI 13 U<|cu<|RK B<|bT U<|cg<|aJ<|KK E<|ao<|rP 3 [] I ?_
  refine aC ?_
  have V:(vI (((i+1):Nat):Int))=(vI ((i:Int)+1)):=by exact cI om
  refine a_ (D ⟨(i+1),⟨om,jC A hx (by unfold jB j2; (rw [sf om hy]; omega))⟩⟩ _ _ _ U os (cR.cons U<|cR.cons U<|aU U V<|cR.nil _) (aK [1,2,3,4,5,6,7]))
 refine kf 6 [0,1] (mc 0 U (mc 1 U I)) U<|dS (IA (i-1) U (av 7 U) wG dc om om)<|dS (nQ (((i-1)*2)+1) U (av 7 U) (Nat.mul_pos om dc) eD U)<|dS (gv (i-1) 1 (vI y.Read) U bV (av 7 U) AB U dc U)<|dP 4 [] I ?_
 refine cu<|RK B<|cb U (aN fun g=>?_) (aO fun g=>?_)
 ·refine WS fun _ S=>rP 1 [] I ?_
  refine RK S<|ak<|Q1 hQ U U U ?_
  exact cB (br fun q=>by have C:=q.sig i x hx; unfold jB j2 at C; (rw [sf om hy] at C; omega)).symm
 refine cg<|aJ<|KK E<|ao<|rP 3 [] I ?_
 refine aC ?_
 have AA:(vI (((i+1):Nat):Int))=(vI ((i:Int)+1)):=by exact cI om
 refine a_ (D ⟨(i+1),⟨om,jC A hx (by unfold jB j2; (rw [sf om hy]; omega))⟩⟩ _ _ _ U os (cR.cons U<|cR.cons U<|aU U AA<|cR.nil _) (aK [1,2,3,4,5,6,7]))
end
section
open Go.RowKit
theorem MH (l:bq) (kA:OA) (kC:Nat) (az:List RA) (cA:OA) (cC:Nat) (bA:OA) (bC:Nat) (r:cQ) (sgA:OA) (sgC:Nat) (hin:ed l az) (hle:e_ l=0) (hr:fW l r):
 lR Tryz.prog 192 [(vA (bW.cells (jx l kA kC cA cC bA bC))),(vA (de.cells (g8 r sgA sgC)))] ((o7 l kA az cA bA)++[(rd sgA r.aa.length 2 (r.aa.map aH.cells))]) (fun (x:(OA)×Nat×(OA)×Nat×(OA)×Nat)=>(vA (iZ.cells (iZ.mk (bj.mk x.1 ((cp l l.aj.length).length) x.2.1) (bj.mk x.2.2.1 ((fh l r r.aa.length).length) x.2.2.2.1) (bj.mk x.2.2.2.2.1 ((fK l r r.aa.length).length) x.2.2.2.2.2))))) (fun (x:(OA)×Nat×(OA)×Nat×(OA)×Nat)=>True) (fun (x:(OA)×Nat×(OA)×Nat×(OA)×Nat)=>[(own x.1 x.2.1 3 1 ((cp l l.aj.length).map iC)),(own x.2.2.1 x.2.2.2.1 38 2 ((fh l r r.aa.length).map ai.cells)),(own x.2.2.2.2.1 x.2.2.2.2.2 4 1 ((fK l r r.aa.length).map im))]):=by
 have A4:=hin.qI
 have A0:=hin.qG
 have Ag:=hin.lS
 have Ax:=hin.qD
 obtain ⟨w,g⟩:=dw hle
 have t:=g.head
 unfold eL at t
 have A2:=hr.len
 have A3:=hr.time
 refine dL kr Tryz.func192 U U fun w0 Q hQ hN=>?_
 try dsimp only
 refine WS fun _ n=>dV U fun b2=>dV U fun b3=>AL U ON fun b4=>RK n<|WS fun _ o=>AL U ON fun h=>RK o<|ag fun _ p=>WS fun _ q=>rP 1 [] I ?_
 refine RK q<|ax<|fu 3 1 ?_
 have A:(0≤l.aj.length):=by exact Nat.zero_le _
 refine bP (ι:={z:Nat×(OA)×Nat // (z.1≤l.aj.length)}) [2,3,4,5] [2,3,4,5,6,7,8,9] U U (fun z=>[(6,(vI (z.1.1:Int)))]) (fun z=>[(own z.1.2.1 z.1.2.2 3 1 ((cp l z.1.1).map iC)),(cy h 287 (iZ.cells (iZ.mk (bj.mk z.1.2.1 ((cp l z.1.1).length) z.1.2.2) (bj.mk none 0 0) (bj.mk none 0 0))))]) (fun _=>rfl) (fun _=>rfl) (fun z=>l.aj.length-z.1.1) ⟨(0,none,0),A⟩ (bf U) (aK [2,3,4,5,6,7,8,9,0,1]) ?_
 clear A
 rintro ⟨⟨b,a,c⟩,F⟩ J9 m
 try dsimp only at F
 try dsimp only
 refine ag fun _ K=>WS fun _ L=>rP 5 [] (mc 2 U I) ?_
 refine RK L<|cb U (aN fun j=>?_) (aO fun j=>?_)
 ·refine WK K<|ag fun _ M=>ax<|dp cj [5,6,8] [1] [0] [0,1,2,3,4,5,6,7] [0,1,2,3,4,5,6,7,8,9] U U U U U<|eS U (FA 0 U eD U)<|fS U (L1 (vS a ((cp l b).length) c) 9 U bV U U)<|eS U (LW 2 U bV U U)<|eS U (MV U) ?_
  have A1:=nG w g (i:=b) om
  refine eS U (CL (JZ l kA kC az cA cC bA bC (b:Int) hin asm asm om) (aY [3,4,5,6]) U)<|eS U (FA 0 U eD U)<|eg U<|g7 U fun T14 W=>e9 (xs:=[.tmp 21]) (cs:=[(vI (eH l (b:Int).toNat))]) U dI kR U U U U (by simp [Value.cells]) U U fun y=>aC (W _ _ (aK [1,2,3,4,5,6,7,8]) (aK [1,2,3,4,5,6,7,8,9,10]) ?_)
  refine cf U fun T16 X=>?_
  refine cP (es2:=(List.map iC (cp l (b+1)))) (m':=(cp l (b+1)).length) 9 U U U pg U U sm (bo (es:=List.map iC [(eH l (b:Int).toNat)]) 0 U U (by simp [bX]) U) (jN _) (by simp only [dy]; omega) (by simp only [maxLen,dy]; omega) (by rw [q9]; simp) sm U fun H AB=>?_
  try dsimp only
  refine aC (X _ _ (aK [1,2,3,4,5,6,7,8]) ?_)
  refine cf U fun T19 Y=>SA (iZ.cells (iZ.mk (bj.mk H ((cp l (b+1)).length) AB) (bj.mk none 0 0) (bj.mk none 0 0))) U Bs U U<|aC (Y _ _ (aK [1,2,3,4,5,6,7,8]) ?_)
  refine e8 U<|aJ<|KK M<|ao<|rP 3 [] I ?_
  refine aC ?_
  have e:(vI (((b+1):Nat):Int))=(vI ((b:Int)+1)):=by exact cI om
  refine a_ (m ⟨((b+1),H,AB),(by first|omega|(simp only []; omega))⟩ _ _ _ U os (cz 4<|aU U e<|cR.nil _) (aK [1,2,3,4,5,6,7,8,9,10]))
 refine bM<|ab<|ab<|aF<|KK p<|ag fun _ N=>WS fun _ O=>?_
 rw [show cp l b=(cp l l.aj.length) from by rw [show b=l.aj.length by omega]]
 refine rP 1 [] I ?_
 refine RK O<|ax<|fu 38 2<|fu 4 1 ?_
 have A:(0≤r.aa.length):=by exact Nat.zero_le _
 refine bP (ι:={z:Nat×(OA)×Nat×(OA)×Nat // (z.1≤r.aa.length)}) [2,3,4,5] [2,3,4,5,6,7,8,9,10] U U (fun z=>[(7,(vI (z.1.1:Int)))]) (fun z=>[(own z.1.2.2.2.1 z.1.2.2.2.2 4 1 ((fK l r z.1.1).map im)),(own z.1.2.1 z.1.2.2.1 38 2 ((fh l r z.1.1).map ai.cells)),(cy h 287 (iZ.cells (iZ.mk (bj.mk a ((cp l l.aj.length).length) c) (bj.mk z.1.2.1 ((fh l r z.1.1).length) z.1.2.2.1) (bj.mk z.1.2.2.2.1 ((fK l r z.1.1).length) z.1.2.2.2.2))))]) (fun _=>rfl) (fun _=>rfl) (fun z=>r.aa.length-z.1.1) ⟨(0,none,0,none,0),A⟩ (bf U) (aK [2,3,4,5,6,7,8,9,10,0,1,11]) ?_
 clear A
 rintro ⟨⟨i,ta,tc,sa,sc⟩,G⟩ J23 J
 try dsimp only at G
 try dsimp only
 refine ag fun _ P=>WS fun _ R=>rP 5 [] (mc 1 U I) ?_
 refine RK R<|bO U (aO fun k=>?_) (aN fun k=>?_)
 ·refine bM<|ab<|ab<|aF<|KK N<|WS fun _ V=>?_
  rw [show fh l r i=(fh l r r.aa.length) from by rw [show i=r.aa.length by omega]]
  rw [show fK l r i=(fK l r r.aa.length) from by rw [show i=r.aa.length by omega]]
  refine rP 1 [] (mc 11 U I) ?_
  refine e7 U RY U<|RK V<|ak<|LX hQ (a,c,ta,tc,sa,sc) [8,10,9] [0] (mc 0 U I) U U U U ?_
  trivial
 refine WK P<|ag fun _ S=>ax<|ag fun _ T=>dp cj [10,11] [] [] [0,1,2,3,4,5,6,7,8,9,10,11] [] U U U U U<|eS U (LW 2 U bV U U)<|eS U (FA 2 U eD U)<|eS U (L1 (vS sgA r.aa.length sgC) 1 U bV U U)<|eS U (MV U) ?_
 obtain ⟨s,hs⟩:=aA r.aa i om
 have v:=bH aH.cells hs
 refine eS U (IA i U (av 7 U) wG dc om om)<|eS U (jL i 0 (aH.cells s) U bV (av 7 U) v U dc U U) ?_
 have u:=(hr.sig i s hs).1
 refine eS U (CL (MB l kA kC az cA cC bA bC s hin asm (by exact u)) (aY [3,4,5,6]) U)<|eS U (MV U)<|eS U (EX U)<|eS U (EX U)<|eS U (AG U)<|eg U<|cf U fun T29 Z=>AL U eh fun AC=>aC (Z _ _ (aK [1,2,3,4,5,6,7,8,9,10,11,12]) ?_)
 refine cf U fun T31 d=>e7 U cW U<|aC (d _ _ (aK [1,2,3,4,5,6,7,8,9,10,11,12]) ?_)
 refine e8 U<|KK T<|WS fun _ AA=>rP 3 [0,1] (mc 12 U (mc 0 U I)) ?_
 refine e9 (xs:=[.tmp 44]) (cs:=(ai.cells (dq l s))) U lF eh U U U U (by simp [Value.cells,ai.bI]) U U fun AO=>?_
 refine cP (es2:=(List.map ai.cells (fh l r (i+1)))) (m':=(fh l r (i+1)).length) 12 U U U Gd U U sm (bo (es:=List.map ai.cells [(dq l s)]) 0 U U (by simp [ai.bI]) U) (ld _) (by rw [r8 om]; omega) (by rw [r8 om]; simp only [maxLen]; omega) (by rw [Ev hs]; simp) sm U fun B C=>?_
 try dsimp only
 refine bp 1 U<|hU (vs:=[(vS B ((fh l r (i+1)).length) C)]) (cs':=(iZ.cells (iZ.mk (bj.mk a ((cp l l.aj.length).length) c) (bj.mk B ((fh l r (i+1)).length) C) (bj.mk sa ((fK l r i).length) sc)))) (C':=[_,_,_,_,_,_,_,_,_,_,_,_,_,(cy h 287 (iZ.cells (iZ.mk (bj.mk a ((cp l l.aj.length).length) c) (bj.mk B ((fh l r (i+1)).length) C) (bj.mk sa ((fK l r i).length) sc))))]) 13 U U U Rc U U U U U U U<|RK AA<|ao<|rP 3 [] (mc 13 U I) ?_
 refine e9 (xs:=[.tmp 50]) (cs:=[(vB (decide ((dq l s).Lo≤(dq l s).Hi)))]) U s_ VJ U U U U (by simp [Value.cells]) U U fun AU=>?_
 refine cP (es2:=(List.map im (fK l r (i+1)))) (m':=(fK l r (i+1)).length) 12 U U U Ji U U sm (bo (es:=List.map im [(decide ((dq l s).Lo≤(dq l s).Hi))]) 0 U U (by simp [Ah]) U) (GA _) (by rw [vr om]; omega) (by rw [vr om]; simp only [maxLen]; omega) (by rw [D_ hs]; simp) sm U fun D E=>?_
 try dsimp only
 refine bp 1 U<|hU (vs:=[(vS D ((fK l r (i+1)).length) E)]) (cs':=(iZ.cells (iZ.mk (bj.mk a ((cp l l.aj.length).length) c) (bj.mk B ((fh l r (i+1)).length) C) (bj.mk D ((fK l r (i+1)).length) E)))) (C':=[_,_,_,_,_,_,_,_,_,_,_,_,_,_,(cy h 287 (iZ.cells (iZ.mk (bj.mk a ((cp l l.aj.length).length) c) (bj.mk B ((fh l r (i+1)).length) C) (bj.mk D ((fK l r (i+1)).length) E))))]) 14 U U U RN U U U U U U U<|aC<|aJ<|KK S<|ao<|bp 2 U<|rP 1 [] I ?_
 refine aC ?_
 have f:(vI (((i+1):Nat):Int))=(vI ((i:Int)+1)):=by exact cI om
 refine a_ (J ⟨((i+1),B,C,D,E),(by first|omega|(simp only []; omega))⟩ _ _ _ U os (cz 4<|aU U f<|cR.nil _) (aK [3,4,5,6,7,8,9,10,11,12,13,14]))
theorem KV (r:cQ) (sgA:OA) (sgC:Nat) (l:bq) (wA:OA) (wC:Nat) (tA:OA) (tC:Nat) (bA:OA) (bC:Nat) (rs:List Int) (rsA:OA) (rsC:Nat) (hle:e_ l=0) (hr:fW l r) (hn:rs.length≤l.aj.length) (hrs: ∀ x∈rs,0≤x→x<(r.aa.length:Int)):
 lR Tryz.prog 211 [(vA (de.cells (g8 r sgA sgC))),(vA (iZ.cells (iZ.mk (bj.mk wA ((cp l l.aj.length).length) wC) (bj.mk tA ((fh l r r.aa.length).length) tC) (bj.mk bA ((fK l r r.aa.length).length) bC)))),(vS rsA rs.length rsC)] [(rd sgA r.aa.length 2 (r.aa.map aH.cells)),(rd wA ((cp l l.aj.length).length) 1 ((cp l l.aj.length).map iC)),(rd tA ((fh l r r.aa.length).length) 2 ((fh l r r.aa.length).map ai.cells)),(rd bA ((fK l r r.aa.length).length) 1 ((fK l r r.aa.length).map im)),(rd rsA rs.length 1 (rs.map iC))] (fun (x:(OA)×Nat)=>(vS x.1 ((jM l r rs).length) x.2)) (fun (x:(OA)×Nat)=>True) (fun (x:(OA)×Nat)=>[(own x.1 x.2 3 1 ((jM l r rs).map iC))]):=by
 obtain ⟨J,D⟩:=dw hle
 have v:=D.head
 unfold eL at v
 have A1:=hr.len
 have A2:=hr.time
 have w:=FC (l:=l) (rs:=rs) ⟨om,om⟩ (fun b hb=>by have:=nG J D (i:=b) om; omega) hrs
 have Ax:=dy (l:=l) (n:=l.aj.length)
 have A3:=r8 (l:=l) (Nat.le_refl r.aa.length)
 refine dL kr Tryz.func211 U U fun w0 Q hQ hN=>?_
 try dsimp only
 refine WS fun _ h=>dV U fun b2=>dV U fun b3=>bp 1 U<|RK h<|WS fun _ m=>rP 2 [] I ?_
 refine sS (n:=rs.length) (es:=(List.map iC (List.replicate rs.length 0))) U U U pg om om (by simp only [maxLen]; omega) (by rw [List.map_replicate]; rfl) U fun E=>?_
 try dsimp only
 refine bp 1 U<|RK m<|WS fun _ p=>dY 3 [] (mc 2 U I) U<|RK p<|ag fun _ q=>WS fun _ t=>rP 4 [] I ?_
 refine RK t<|ax ?_
 rw [show (own (some ⟨E,0,none⟩) rs.length 3 1 (List.map iC (List.replicate rs.length 0)))=(own (some ⟨E,0,none⟩) rs.length 3 1 ((j_ l r rs rs.length).map iC)) from by rw [HK]]
 have B:(rs.length≤rs.length):=by exact Nat.le_refl _
 have u:(vI ((j9 l r rs rs.length).2))=(vI r.gL):=by rw [wa]
 refine bP (ι:={z:Nat // (z≤rs.length)}) [2,3,4,7] [1,2,3,4,5,6,7] U U (fun z=>[(8,(vI ((j9 l r rs z.1).2))),(9,(vI ((z.1:Int)-1)))]) (fun z=>[(own (some ⟨E,0,none⟩) rs.length 3 1 ((j_ l r rs z.1).map iC))]) (fun _=>rfl) (fun _=>rfl) (fun z=>z.1) ⟨rs.length,B⟩ (aU U u<|bf U) (aK [1,2,3,4,5,6,7,0]) ?_
 clear B
 rintro ⟨j,AC⟩ J10 F
 try dsimp only
 have A0:=GI (l:=l) (r:=r) (rs:=rs) (j:=j) om
 refine ag fun _ L=>WS fun _ M=>rP 2 [] I ?_
 refine RK M<|bO U (aO fun g=>?_) (aN fun g=>?_)
 ·refine bM<|ab<|ab<|aF<|KK q<|WS fun _ R=>rP 1 [] I ?_
  rw [show (Value.slice (some ⟨E,0,none⟩) rs.length rs.length)=(Value.slice (some ⟨E,0,none⟩) ((jM l r rs).length) rs.length) from by rw [show (jM l r rs).length=rs.length from sD _ _]]
  rw [show j_ l r rs j=jM l r rs from by rw [show j=0 by omega]; exact Eg]
  refine rP 1 [] I ?_
  refine RK R<|ak<|LX hQ ((some ⟨E,0,none⟩),rs.length) [7] [] I U U U U ?_
  trivial
 refine WK L<|ag fun _ G=>ax<|ag fun _ H=>WS fun _ N=>rP 2 [] I ?_
 have Ag:=w (rs.length-j) j om
 obtain ⟨x,hx⟩:=aA rs (j-1) om
 have d:=bH iC hx
 refine rS (IA (j-1) U (av 6 U) dI dc om om)<|rS (gv (j-1) 0 (vI x) U bV (av 6 U) d U dc U)<|rP 1 [] I ?_
 refine RK N<|bO U (aO fun A=>?_) (aN fun A=>?_)
 ·refine WK H<|WS fun _ P=>rP 3 [] I ?_
  obtain ⟨A6,c⟩:=aA (j_ l r rs j) (j-1) om
  have hx25m:=bH iC c
  refine rS (IA (j-1) U (ar (n:=rs.length) 7 U sq) dI dc om om) ?_
  have V:((j_ l r rs j).set (j-1) ((j9 l r rs j).2))=(j_ l r rs (j-1)):=by (rw [← zw om hx]; congr 1; unfold uf; (rw [if_neg A]; done))
  refine eo (k:=(j-1)) (o:=0) (vs:=[(vI ((j9 l r rs j).2))]) (es':=(List.map iC (j_ l r rs (j-1)))) (C':=[_,_,_,_,_,_,_,(own (some ⟨E,0,none⟩) rs.length 3 1 (List.map iC (j_ l r rs (j-1))))]) 7 U U U En U U U U hx25m U dc (by exact (List.map_set (f:=iC) (l:=(j_ l r rs j)) (i:=(j-1)) (a:=(j9 l r rs j).2)).symm.trans (congrArg _ V)) U<|RK P<|ao<|rP 4 [] (mc 0 U I) ?_
  obtain ⟨y,hy⟩:=aA (cp l l.aj.length) (j-1) om
  have K:=bH iC hy
  refine rS (IA (j-1) U (av 3 U) dI dc om om)<|rS (gv (j-1) 0 (vI y) U bV (av 3 U) K U dc U) ?_
  have C:=v7 hy
  have AB:=nG J D (i:=j-1) om
  rw [← C] at AB
  refine bp 2 U<|aC<|aJ<|KK G<|ao<|rP 3 [] I ?_
  refine aC ?_
  have W:(vI ((j9 l r rs (j-1)).2))=(vI (((j9 l r rs j).2)-y)):=by exact cI (by rw [qa om hx]; simp only; unfold uf; rw [C]; (rw [if_neg A]; done))
  have X:(vI ((((j-1):Nat):Int)-1))=(vI (((j:Int)-1)-1)):=by exact cI om
  refine a_ (F ⟨(j-1),(by first|omega|(simp only []; omega))⟩ _ _ _ U os (cz 4<|aU U W<|aU U X<|cR.nil _) (aK [0,1,2,3,4,5,6,7]))
 refine cS cj 12 kr<|dP 5 [] (mc 0 U I) ?_
 refine dS (IA (j-1) U (av 6 U) dI dc om om)<|dS (gv (j-1) 0 (vI x) U bV (av 6 U) d U dc U) ?_
 have A4:=hrs x (aP hx) A
 obtain ⟨z,hz⟩:=aA (fh l r r.aa.length) ((x).toNat) om
 have AU:=bH ai.cells hz
 refine dS (IA ((x).toNat) U (av 4 U) lF dc om om)<|dS (nQ ((((x).toNat)*2)+1) U (av 4 U) (Nat.mul_pos om dc) eD U) ?_
 obtain ⟨s,hs,e⟩:=Jp hz
 have AO:=w9 l s
 rw [← e] at AO
 have Y:LK l r x=z.Hi:=by rw [Ez hs,e]
 refine dS (gv ((x).toNat) 1 (vI z.Hi) U bV (av 4 U) AU U dc U)<|dS (MN U)<|kI 1 U<|cu<|RK H<|WS fun _ O=>rP 3 [] I ?_
 obtain ⟨A5,Z⟩:=aA (j_ l r rs j) (j-1) om
 have hx19m:=bH iC Z
 refine rS (IA (j-1) U (ar (n:=rs.length) 7 U sq) dI dc om om) ?_
 have S:((j_ l r rs j).set (j-1) (min ((j9 l r rs j).2) z.Hi))=(j_ l r rs (j-1)):=by (rw [← zw om hx]; congr 1; unfold uf; (rw [if_pos A,Y]; done))
 refine eo (k:=(j-1)) (o:=0) (vs:=[(vI (min ((j9 l r rs j).2) z.Hi))]) (es':=(List.map iC (j_ l r rs (j-1)))) (C':=[_,_,_,_,_,_,_,(own (some ⟨E,0,none⟩) rs.length 3 1 (List.map iC (j_ l r rs (j-1))))]) 7 U U U En U U U U hx19m U dc (by exact (List.map_set (f:=iC) (l:=(j_ l r rs j)) (i:=(j-1)) (a:=(min ((j9 l r rs j).2) z.Hi))).symm.trans (congrArg _ S)) U<|RK O<|ao<|rP 4 [] (mc 0 U I) ?_
 obtain ⟨y,hy⟩:=aA (cp l l.aj.length) (j-1) om
 have K:=bH iC hy
 refine rS (IA (j-1) U (av 3 U) dI dc om om)<|rS (gv (j-1) 0 (vI y) U bV (av 3 U) K U dc U) ?_
 have C:=v7 hy
 have AB:=nG J D (i:=j-1) om
 rw [← C] at AB
 refine bp 2 U<|aC<|aJ<|KK G<|ao<|rP 3 [] I ?_
 refine aC ?_
 have T:(vI ((j9 l r rs (j-1)).2))=(vI ((min ((j9 l r rs j).2) z.Hi)-y)):=by exact cI (by rw [qa om hx]; simp only; unfold uf; rw [C]; (rw [if_pos A,Y]; done))
 have AA:(vI ((((j-1):Nat):Int)-1))=(vI (((j:Int)-1)-1)):=by exact cI om
 refine a_ (F ⟨(j-1),(by first|omega|(simp only []; omega))⟩ _ _ _ U os (cz 4<|aU U T<|aU U AA<|cR.nil _) (aK [0,1,2,3,4,5,6,7]))
end
section
open Go.RowKit
theorem Gv (l:bq) (kA:OA) (kC:Nat) (az:List RA) (cA:OA) (cC:Nat) (bA:OA) (bC:Nat) (r:cQ) (sgA:OA) (sgC:Nat) (vwA:OA) (vwC:Nat) (vtA:OA) (vtC:Nat) (vbA:OA) (vbC k:Nat) (rs:List Int) (rA:OA) (rC:Nat) (fs:List Int) (fA:OA) (fC:Nat) (hin:ed l az) (hle:e_ l=0) (hr:fW l r) (hk:rs.length+k=l.aj.length) (hfl:fs.length=rs.length) (hst:r.Start≤gN r.Start fs∧gN r.Start fs≤r.gL) (hrs: ∀ x∈rs,-1≤x∧x<(r.aa.length:Int)) (hrec: ∀ (k2:Nat) (rs2:List Int) (rA2:OA) (rC2:Nat) (fs2:List Int) (fA2:OA) (fC2:Nat),(k2<k)→(rs2.length+k2=l.aj.length)→(fs2.length=rs2.length)→(r.Start≤gN r.Start fs2∧gN r.Start fs2≤r.gL)→(∀ x∈rs2,-1≤x∧x<(r.aa.length:Int))→LF Tryz.prog 191 [(vA (bW.cells (jx l kA kC cA cC bA bC))),(vA (de.cells (g8 r sgA sgC))),(vA (iZ.cells (iZ.mk (bj.mk vwA ((cp l l.aj.length).length) vwC) (bj.mk vtA ((fh l r r.aa.length).length) vtC) (bj.mk vbA ((fK l r r.aa.length).length) vbC)))),(vS rA2 rs2.length rC2),(vS fA2 fs2.length fC2)] ((o7 l kA az cA bA)++[(rd sgA r.aa.length 2 (r.aa.map aH.cells)),(rd vwA ((cp l l.aj.length).length) 1 ((cp l l.aj.length).map iC)),(rd vtA ((fh l r r.aa.length).length) 2 ((fh l r r.aa.length).map ai.cells)),(rd vbA ((fK l r r.aa.length).length) 1 ((fK l r r.aa.length).map im))]) (bQ [own rA2 rC2 3 1 (rs2.map iC),own fA2 fC2 3 1 (fs2.map iC)]) (fun (x:(OA)×Nat×(List kZ))=>(vS x.1 ((iR l r k2 rs2 fs2).length) x.2.1)) (fun (x:(OA)×Nat×(List kZ))=>x.2.2.length=(iR l r k2 rs2 fs2).length) (fun (x:(OA)×Nat×(List kZ))=>(bQ (bK du.owns (iR l r k2 rs2 fs2) x.2.2++[own x.1 x.2.1 240 3 (List.zipWith du.cells (iR l r k2 rs2 fs2) x.2.2)])))):
 LF Tryz.prog 191 [(vA (bW.cells (jx l kA kC cA cC bA bC))),(vA (de.cells (g8 r sgA sgC))),(vA (iZ.cells (iZ.mk (bj.mk vwA ((cp l l.aj.length).length) vwC) (bj.mk vtA ((fh l r r.aa.length).length) vtC) (bj.mk vbA ((fK l r r.aa.length).length) vbC)))),(vS rA rs.length rC),(vS fA fs.length fC)] ((o7 l kA az cA bA)++[(rd sgA r.aa.length 2 (r.aa.map aH.cells)),(rd vwA ((cp l l.aj.length).length) 1 ((cp l l.aj.length).map iC)),(rd vtA ((fh l r r.aa.length).length) 2 ((fh l r r.aa.length).map ai.cells)),(rd vbA ((fK l r r.aa.length).length) 1 ((fK l r r.aa.length).map im))]) (bQ [own rA rC 3 1 (rs.map iC),own fA fC 3 1 (fs.map iC)]) (fun (x:(OA)×Nat×(List kZ))=>(vS x.1 ((iR l r k rs fs).length) x.2.1)) (fun (x:(OA)×Nat×(List kZ))=>x.2.2.length=(iR l r k rs fs).length) (fun (x:(OA)×Nat×(List kZ))=>(bQ (bK du.owns (iR l r k rs fs) x.2.2++[own x.1 x.2.1 240 3 (List.zipWith du.cells (iR l r k rs fs) x.2.2)]))):=by
 have ST:=hin.qI
 have R2:=hin.qG
 have R0:=hin.lS
 have R1:=hin.qD
 obtain ⟨M2,GT⟩:=dw hle
 have Li:=GT.head
 unfold eL at Li
 have Ag:=hr.len
 have R7:=hr.time
 have R6:=dy (l:=l) (n:=l.aj.length)
 have S1:=r8 (l:=l) (Nat.le_refl r.aa.length)
 have R9:=vr (l:=l) (Nat.le_refl r.aa.length)
 have S2:=vg rs
 refine vl kr Tryz.func191 U U fun w0 Q hQ hN=>?_
 try dsimp only
 refine CY 0 U U fun wz Sz hz=>?_
 try dsimp only
 refine WS fun _ K5=>dV U fun b2=>dV U fun b3=>dV U fun b4=>bp 1 U<|RK K5<|WS fun _ K6=>bp 1 U<|RK K6<|WS fun _ K8=>bp 4 U<|RK K8<|ag fun _ LE=>WS fun _ LT=>rP 1 [] I ?_
 refine RK LT<|ax ?_
 have C:(0≤rs.length):=by exact Nat.zero_le _
 have LV:(vI ((dN (rs.take 0)).right))=(vI 0):=by rfl
 refine bP (ι:={z:Nat // (z≤rs.length)}) [3,4,5,6,7,11,12] [0,1,2,3,4,5,6,7,8,9,10,11] U U (fun z=>[(13,(vI ((dN (rs.take z.1)).right))),(14,(vI (z.1:Int)))]) (fun z=>[]) (fun _=>rfl) (fun _=>rfl) (fun z=>rs.length-z.1) ⟨0,C⟩ (aU U LV<|bf U) (aK [0,1,2,3,4,5,6,7,8,9,10,11]) ?_
 clear C
 rintro ⟨i,L0⟩ J10 g
 try dsimp only
 have L3:=vg (rs.take i)
 rw [List.length_take] at L3
 refine ag fun _ A1=>WS fun _ A2=>rP 3 [] I ?_
 refine RK A2<|cb U (aN fun J6=>?_) (aO fun J6=>?_)
 ·refine WK A1<|ag fun _ h=>ax<|WS fun _ A3=>rP 2 [] I ?_
  obtain ⟨x,hx⟩:=aA rs i om
  have NE:=bH iC hx
  refine rS (IA i U (show g9 _ (rd rA rs.length 1 (rs.map iC)).holds from (qo (c:=rC) (e:=3) 3 U sm sm)) dI dc om om)<|rS (gv i 0 (vI x) U bV (show g9 _ (rd rA rs.length 1 (rs.map iC)).holds from (qo (c:=rC) (e:=3) 3 U sm sm)) NE U dc U)<|rP 1 [] I ?_
  refine RK A3<|bO U (aO fun AO=>?_) (aN fun AO=>?_)
  ·refine cg<|aJ<|KK h<|ao<|rP 3 [] I ?_
   refine aC ?_
   have C2:(vI ((dN (rs.take (i+1))).right))=(vI ((dN (rs.take i)).right)):=by exact cI (by rw [uw hx]; (rw [if_neg AO]; exact Int.add_zero _))
   have C3:(vI (((i+1):Nat):Int))=(vI ((i:Int)+1)):=by exact cI om
   refine a_ (g ⟨(i+1),(by first|omega|(simp only []; omega))⟩ _ _ _ U os (cz 7<|aU U C2<|aU U C3<|cR.nil _) (aK [0,1,2,3,4,5,6,7,8,9,10,11]))
  refine ao<|bp 3 U<|aC<|aJ<|KK h<|ao<|rP 3 [] I ?_
  refine aC ?_
  have Cx:(vI ((dN (rs.take (i+1))).right))=(vI (((dN (rs.take i)).right)+1)):=by exact cI (by rw [uw hx]; (rw [if_pos AO]; done))
  have C0:(vI (((i+1):Nat):Int))=(vI ((i:Int)+1)):=by exact cI om
  refine a_ (g ⟨(i+1),(by first|omega|(simp only []; omega))⟩ _ _ _ U os (cz 7<|aU U Cx<|aU U C0<|cR.nil _) (aK [0,1,2,3,4,5,6,7,8,9,10,11]))
 refine bM<|ab<|ab<|aF<|KK LE<|ag fun _ A4=>ag fun _ A5=>?_
 rw [show rs.take i=rs from List.take_of_length_le om]
 refine ao<|rP 6 [] (mc 2 U I) ?_
 refine RK A5<|cb U (aN fun J8=>?_) (aO fun J8=>?_)
 ·refine WS fun _ A6=>gn 240 3<|rP 1 [] I ?_
  refine RK A6<|ak<|AM (C1:=[(own none 0 240 3 [])]) hz [0] U U U<|Pe (W:=iR l r k rs fs) ?_
  rw [show (own none 0 240 3 [])=(own none 0 240 3 (List.zipWith du.cells (iR l r k rs fs) [])) from by rw [og om]; rfl]
  refine LM hQ (none,0,[]) 0 [] I U (by show List.all _ _=true; rw [List.all_append,qe]; rfl) U ?_ ?_
  ·exact (by rw [og om]; rfl)
  ·rw [og om]; rfl
 refine WK A4 ?_
 refine oR (ι:={z:(OA)×Nat×(List kZ)×(List ay) // (yk l r rs fs (rA,rC) (fA,fC) z.2.2.1 z.2.2.2)}) [3,4,5,6,7,12] [0,1,2,3,4,5,6,7,8,9,10,11] U U (fun z=>[(11,(vS z.1.1 ((iu l r rs fs).length) z.1.2.1))]) (fun z=>[(own z.1.1 z.1.2.1 240 3 (List.zipWith du.cells (iu l r rs fs) z.1.2.2.1)),(bQ z.1.2.2.2)]) (fun _=>rfl) (fun _=>rfl) ?_ fun K23 m=>?_
 ·rintro ⟨⟨oA,oC,E,LA⟩,H⟩
  try dsimp only at H
  try dsimp only
  have D:=H
  have Lk:=D.len
  have R3:=xL (l:=l) (r:=r) (rs:=rs) (fs:=fs)
  refine ag fun _ V=>WS fun _ A7=>rP 4 [] (mc 2 U I) ?_
  have To:=vx (l:=l) (r:=r) (rs:=rs) (fs:=fs) Ag (k:=k) om
  refine rP 1 [] I ?_
  refine RK A7<|cb U (aN fun J9=>?_) (aO fun J9=>?_)
  ·refine WS fun _ A8=>bp 1 U<|rP 1 [] I ?_
   refine RK A8<|ak ?_
   obtain rfl:k=0:=by omega
   refine Eu ?_
   try dsimp only
   refine AM (C1:=[(own oA oC 240 3 (List.zipWith du.cells (iu l r rs fs) E)),(bQ LA),(bQ (bK du.owns [] []))]) hz [13,14,0] U U (by simp only [fV,List.all_nil,Bool.and_true,dk]; exact ⟨U,D.wr,qe _ _⟩) ?_
   refine H2 (ra:=(rA,rC)) (fa:=(fA,fC)) (A':=(own oA oC 240 3 (List.zipWith du.cells (iR l r 0 rs fs) E))) D ((List.append_nil _).trans (ot om).symm) (List.append_nil _) (by rw [ot om]) ?_
   refine LM hQ (oA,oC,E) 0 [] I U (by show List.all _ _=true; rw [List.all_append,qe]; rfl) U ?_ ?_
   ·exact (by (rw [ot om]; rfl))
   ·rw [ot om]; exact Lk
  refine WK V<|WS fun _ A9=>?_
  obtain ⟨B,rfl⟩: ∃ B,k=B+1:=⟨k-1,om⟩
  refine rP 3 [] (mc 1 U I) ?_
  refine RK A9 ?_
  refine oR (ι:=Unit) [3,4,5,6,7,11,12] [0,1,2,3,4,5,6,7,8,9,10,11,12,13] U U (fun z=>[(15,(vI (gN r.Start fs)))]) (fun z=>[]) (fun _=>rfl) (fun _=>rfl) ?_ fun K28 o=>?_
  ·intro _
   try dsimp only
   refine WS fun _ Z=>rP 4 [] (mc 0 U I) ?_
   obtain ⟨yls,IO⟩:=aA (cp l l.aj.length) (rs.length) om
   have IR:=bH iC IO
   refine rS (IA rs.length U (av 9 U) dI dc om om)<|rS (gv rs.length 0 (vI yls) U bV (av 9 U) IR U dc U) ?_
   have R5:=nG M2 GT (i:=rs.length) om
   rw [v7 IO]
   refine bp 2 U<|RK Z<|ag fun _ Ba=>WS fun _ B3=>rP 1 [] I ?_
   refine RK B3<|ax ?_
   rw [show (iu l r rs fs)=((iu l r rs fs)++(iU l r B rs fs 0)) from (List.append_nil _).symm]
   rw [show E=E++[] from (List.append_nil _).symm]
   refine lx ?_
   try dsimp only
   have C:(0≤r.aa.length+1)∧(([]:List kZ).length=(iU l r B rs fs 0).length):=by exact ⟨Nat.zero_le _,rfl⟩
   have d:(vI ((0:Int)-1))=(vI (-1)):=by exact cI om
   refine bP (ι:={z:Nat×(OA)×Nat×(List kZ) // (z.1≤r.aa.length+1)∧(z.2.2.2.length=(iU l r B rs fs z.1).length)}) [3,4,5,6,7,12,15] [1,2,3,4,5,6,7,8,9,10,11,12,14] U U (fun z=>[(11,(vS z.1.2.1 (((iu l r rs fs)++(iU l r B rs fs z.1.1)).length) z.1.2.2.1)),(16,(vI ((z.1.1:Int)-1)))]) (fun z=>[(bQ (bK du.owns (iU l r B rs fs z.1.1) z.1.2.2.2)),(own z.1.2.1 z.1.2.2.1 240 3 (List.zipWith du.cells ((iu l r rs fs)++(iU l r B rs fs z.1.1)) (E++z.1.2.2.2)))]) (fun _=>rfl) (fun _=>rfl) (fun z=>r.aa.length+1-z.1.1) ⟨(0,oA,oC,([]:List kZ)),C⟩ (cR.cons U<|aU U d<|cR.nil _) (aK [1,2,3,4,5,6,7,8,9,10,11,12,14,0,13]) ?_
   clear C
   rintro ⟨⟨j,M,N,azW⟩,⟨f,A⟩⟩ J33 O
   try dsimp only at f A
   try dsimp only
   have Mg:=K9 (l:=l) (r:=r) (k:=B) (j:=j) (rs:=rs) (fs:=fs) Ag om om
   refine ag fun _ B9=>WS fun _ CB=>rP 5 [] (mc 1 U I) ?_
   refine RK CB<|bO U (aO fun J7=>?_) (aN fun J7=>?_)
   ·refine bM<|ab<|ab<|aF<|KK Ba<|WS fun _ Cp=>bp 1 U<|rP 1 [] I ?_
    refine RK Cp<|ak ?_
    refine AM (C1:=[(own M N 240 3 (List.zipWith du.cells ((iu l r rs fs)++(iU l r B rs fs j)) (E++azW))),(bQ LA),(bQ (bK du.owns (iU l r B rs fs j) azW))]) hz [14,12,13] U U (by simp only [fV,List.all_nil,Bool.and_true,dk]; exact ⟨U,D.wr,qe _ _⟩) ?_
    refine H2 (ra:=(rA,rC)) (fa:=(fA,fC)) (W:=iR l r (B+1) rs fs) (A':=(own M N 240 3 (List.zipWith du.cells (iR l r (B+1) rs fs) (E++azW)))) D (by rw [nU om,sr,show r.aa.length+1=j by omega]) U (by rw [nU om,sr,show r.aa.length+1=j by omega]) ?_
    refine LM hQ (M,N,(E++azW)) 0 [] I U (by show List.all _ _=true; rw [List.all_append,qe]; rfl) U ?_ ?_
    ·exact (by (rw [nU om,sr,show r.aa.length+1=j by omega]; rfl))
    ·rw [nU om,sr,show r.aa.length+1=j by omega]; simp only [List.length_append]; omega
   refine WK B9<|ag fun _ P=>ax<|ag fun _ Ci=>cS cj 5 kr<|dP 5 [] (mc 1 U I) ?_
   refine cu<|RK Ci ?_
   refine oR (ι:={z:Int×Int // ((z.1≤z.2→pf l r rs.length (gN r.Start fs+eH l rs.length) ((j:Int)-1)=some z.1)∧(¬ z.1≤z.2→pf l r rs.length (gN r.Start fs+eH l rs.length) ((j:Int)-1)=none))∧(r.Start≤z.1∧z.2≤r.gL)}) [3,4,5,6,7,11,12,15,16] [0,1,2,3,4,5,6,7,8,9,10,11,12,13,14] U U (fun z=>[(17,(vI z.1.1)),(18,(vI z.1.2))]) (fun z=>[]) (fun _=>rfl) (fun _=>rfl) ?_ fun K39 p=>?_
   ·rintro ⟨⟨tt,ee⟩,⟨AD,J⟩⟩
    try dsimp only at AD J
    try dsimp only
    have GE:=AD
    have R4:=J
    refine WS fun _ a=>rP 3 [] I ?_
    refine RK a<|bO U (aO fun AA=>?_) (aN fun AA=>?_)
    ·refine cg<|aJ<|KK P<|ao<|rP 3 [] I ?_
     refine aC ?_
     have L:(iU l r B rs fs (j+1))=(iU l r B rs fs j):=by exact rp (GE.2 AA)
     rw [← L]
     have Fk:(vI ((((j+1):Nat):Int)-1))=(vI (((j:Int)-1)+1)):=by exact cI om
     refine a_ (O ⟨((j+1),M,N,azW),⟨om,by dsimp only; (rw [L]; exact A)⟩⟩ _ _ _ U os (cz 8<|aU U Fk<|cR.nil _) (aK [0,1,2,3,4,5,6,7,8,9,10,11,12,13,14]))
    refine QO (L':=[(3,(vS rA rs.length rC)),(4,(vS fA fs.length fC)),(5,(vP b2)),(6,(vP b3)),(7,(vP b4)),(11,(vS M (((iu l r rs fs)++(iU l r B rs fs j)).length) N)),(12,(vI (rs.length:Int))),(15,(vI ((gN r.Start fs)+(eH l rs.length)))),(16,(vI ((j:Int)-1))),(17,(vI tt)),(18,(vI ee)),(123,(vI tt)),(124,(vI ee)),(125,(vB (decide (tt≤ee))))]) rfl<|mO cj [0,1,2,3,5,7,11,13] [4,6,8,9,10,12,14,15,16,17,18] [false,false,false,false,false,false,false,false] [] [(cy b4 287 (iZ.cells (iZ.mk (bj.mk vwA ((cp l l.aj.length).length) vwC) (bj.mk vtA ((fh l r r.aa.length).length) vtC) (bj.mk vbA ((fK l r r.aa.length).length) vbC)))),(cy b3 41 (de.cells (g8 r sgA sgC))),(cy b2 28 (bW.cells (jx l kA kC cA cC bA bC))),(bQ [own rA rC 3 1 (rs.map iC),own fA fC 3 1 (fs.map iC)]).ro,(rd kA l.bL.length 9 (l.bL.map aD.cells)).ro,(rd cA l.aG.length 2 (List.zipWith aT.cells l.aG az)).ro,(iH (bK aT.jU l.aG az)).ro,(rd bA l.aj.length 4 (l.aj.map cO.cells)).ro,(rd sgA r.aa.length 2 (r.aa.map aH.cells)).ro,(rd vwA ((cp l l.aj.length).length) 1 ((cp l l.aj.length).map iC)).ro,(rd vtA ((fh l r r.aa.length).length) 2 ((fh l r r.aa.length).map ai.cells)).ro,(rd vbA ((fK l r r.aa.length).length) 1 ((fK l r r.aa.length).map im)).ro,(bQ LA),(bQ (bK du.owns (iU l r B rs fs j) azW))] [] kr (aK [0,1,2,3,4,5,6,7,8,9,10,11,12,13]) (aK [])<|eS rfl (MV rfl)<|eS rfl (LW 2 rfl bV rfl rfl)<|eS rfl (LW 1 rfl bV rfl rfl)<|eS rfl (LW 0 rfl bV rfl rfl)<|eS rfl (MV rfl)<|eS rfl (MV rfl)<|eS rfl (MV rfl)<|eS rfl (MV rfl)<|eg rfl<|Nh [.take 4,.op 6,.take 8,.op 9,.take 10,.op 12,.take 14,.op 15,.op 16,.op 17,.op 18] [(133,(vI ((j:Int)-1))),(139,(vI tt))] (fun i=>match i with |4=>130|8=>134|10=>136|14=>140|_=>0) (fun i b=>match i with |4=> .slice (some ⟨b,0,none⟩) 0 0|8=> .slice (some ⟨b,0,none⟩) 1 1|10=> .slice (some ⟨b,0,none⟩) 0 0|14=> .slice (some ⟨b,0,none⟩) 1 1|_=>undef) (fun i b=>match i with |4=>cy b 3 []|8=>cy b 3 [(vI ((j:Int)-1))]|10=>cy b 3 []|14=>cy b 3 [(vI tt)]|_=>cy b 0 []) rfl rfl rfl kr rfl rfl (aK [0,1,2,3,4,5,6,7,8,9,10,11,12,13]) (w4 (Ik rfl dI rfl rfl (fun _=>rfl) fun _=>rfl)<|yJ<|w4 (Oo (xs:=[.tmp 133]) (cs:=[(vI ((j:Int)-1))]) rfl dI kR rfl rfl rfl rfl (by simp [Value.cells]) rfl rfl rfl (fun _=>rfl) fun _=>rfl)<|yJ<|w4 (Ik rfl dI rfl rfl (fun _=>rfl) fun _=>rfl)<|yJ<|w4 (Oo (xs:=[.tmp 139]) (cs:=[(vI tt)]) rfl dI kR rfl rfl rfl rfl (by simp [Value.cells]) rfl rfl rfl (fun _=>rfl) fun _=>rfl)<|yJ<|yJ<|yJ<|yJ<|QF) ?_
    intro Jk
    try dsimp only
    refine xd U fun Y X K hT=>fy (es:=(List.map iC [])) (C':=[own (some ⟨Jk,0,none⟩) 0 3 1 (List.map iC []),_,_,_,_,_,_,_,_,_,_,_,_,_,_,_]++X) 0 U sm U (by simp [maxLen]) U ?_
    refine cP (es2:=(List.map iC rs)) (m':=rs.length) 0 U U U pg U U sm (show g9 _ (rd rA rs.length 1 (rs.map iC)).holds from (qo (c:=rC) (e:=3) 4 U sm sm)) (jN _) (by first|omega|(simp; done)|(simp; omega)) (by (simp only [maxLen]; omega)) sm sm U fun PV QI=>?_
    try dsimp only
    refine tO hT 24 16 U U (fun w hs=>St.kS [1,2,3,4,5,6,7,8,9,10,11,12,13,14] U U hs) U U ?_
    try dsimp only [List.take]
    intro Pl
    try dsimp only
    refine xd U fun Y X K hT=>?_
    refine cP (es2:=(List.map iC (rs++[(j:Int)-1]))) (m':=(rs++[(j:Int)-1]).length) 1 U U U pg U U sm (bo (es:=List.map iC [((j:Int)-1)]) 0 U U (by simp [bX]) U) (jN _) (by first|omega|(simp; done)|(simp; omega)) (by (simp only [maxLen]; omega)) sm sm U fun In J3=>?_
    try dsimp only
    refine tO hT 26 17 U U (fun w hs=>St.kS [2,3,4,5,6,7,8,9,10,11,12,13,14,15] U U hs) U U ?_
    try dsimp only [List.take]
    intro J2
    try dsimp only
    refine xd U fun Y X K hT=>fy (es:=(List.map iC [])) (C':=[own (some ⟨J2,0,none⟩) 0 3 1 (List.map iC []),_,_,_,_,_,_,_,_,_,_,_,_,_,_,_,_,_]++X) 0 U sm U (by simp [maxLen]) U ?_
    refine cP (es2:=(List.map iC fs)) (m':=fs.length) 0 U U U pg U U sm (show g9 _ (rd fA fs.length 1 (fs.map iC)).holds from (qo (c:=fC) (e:=3) 6 U sm sm)) (jN _) (by first|omega|(simp; done)|(simp; omega)) (by (simp only [maxLen]; omega)) sm sm U fun PZ Qr=>?_
    try dsimp only
    refine tO hT 28 18 U U (fun w hs=>St.kS [3,4,5,6,7,8,9,10,11,12,13,14,15,16] U U hs) U U ?_
    try dsimp only [List.take]
    intro P3
    try dsimp only
    refine xd U fun Y X K hT=>?_
    refine cP (es2:=(List.map iC (fs++[tt]))) (m':=(fs++[tt]).length) 1 U U U pg U U sm (bo (es:=List.map iC [tt]) 0 U U (by simp [bX]) U) (jN _) (by first|omega|(simp; done)|(simp; omega)) (by (simp only [maxLen]; omega)) sm sm U fun JJ J4=>?_
    try dsimp only
    refine tO hT 30 19 U U (fun w hs=>St.kS [4,5,6,7,8,9,10,11,12,13,14,15,16,17] U U hs) U U ?_
    try dsimp only [List.take]
    refine xd U fun Y X K hT=>?_
    have R:=GE.1 AA
    refine xJ<|sh 4 U ?_
    try dsimp only [List.eraseIdx]
    refine AB U<|sh 2 U ?_
    try dsimp only [List.eraseIdx]
    refine AB U ?_
    try dsimp only
    refine oS 0 rfl rfl rfl rfl (hrec B (rs++[(j:Int)-1]) In J3 (fs++[tt]) JJ J4 om (by simp only [List.length_append,List.length_singleton]; omega) (by simp only [List.length_append,List.length_singleton]; omega) (by rw [nK]; omega) (by intro x hx; rcases gQ.1 hx with hx|hx; exact hrs x hx; rw [cH.1 hx]; omega)) rfl (eE 7 rfl rfl (dM (b_ _)) (eE 8 rfl rfl (dM (b_ _)) (eE 9 rfl rfl (dM (b_ _)) (eE 10 rfl rfl (dM (b_ _)) (eE 11 rfl rfl (dM (b_ _)) (eE 12 rfl rfl (dM (b_ _)) (eE 13 rfl rfl (dM (b_ _)) (eE 14 rfl rfl (dM (b_ _)) re)))))))) rfl (fun Op Ax=>?_)
    obtain ⟨PE,PP,v⟩:=Op
    try dsimp only
    dsimp only at Ax
    refine tO hT 31 18 U U (fun w hs=>St.kS [3,4,5,6,7,8,9,10,11,12,13,14,15,16] U U hs) U U ?_
    try dsimp only [List.take]
    refine xd U fun Y X K hT=>sh 0 U ?_
    try dsimp only [List.eraseIdx]
    refine ze ?_
    have T0:=vx (l:=l) (r:=r) (k:=B) (rs:=(rs++[(j:Int)-1])) (fs:=(fs++[tt])) Ag om
    refine cP (es2:=(List.zipWith du.cells ((iu l r rs fs)++(iU l r B rs fs (j+1))) (E++(azW++v)))) (m':=((iu l r rs fs)++(iU l r B rs fs (j+1))).length) 18 U U U OG U U (m6 (by simp only [List.length_append]; omega)).symm (ar (n:=(iR l r B (rs++[(j:Int)-1]) (fs++[tt])).length) 0 U (m6 Ax)) (BF _ _) (by simp only [List.length_append]; omega) (by simp only [List.length_append,maxLen]; omega) (by rw [nJ R,← List.append_assoc,← List.append_assoc]; exact (IL (by simp only [List.length_append]; omega)).symm) (m6 (by rw [nJ R]; simp only [List.length_append]; omega)) U fun Jb J5=>?_
    try dsimp only
    refine tO hT 32 19 U U (fun w hs=>St.kS [4,5,6,7,8,9,10,11,12,13,14,15,16,17] U U hs) U U ?_
    try dsimp only [List.take]
    refine xd U fun Y X K hT=>rS (AG U)<|tO hT 33 19 U U (fun w hs=>St.kS [4,5,6,7,8,9,10,11,12,13,14,15,16,17] U U hs) U U ?_
    try dsimp only [List.take]
    refine aJ<|KK P<|ao<|rP 3 [] I ?_
    refine aC<|E5 1 U ?_
    try dsimp only [List.eraseIdx]
    refine E5 17 U ?_
    try dsimp only [List.eraseIdx]
    refine IB A ?_
    rw [← nJ R]
    try dsimp only
    have Fd:(vI ((((j+1):Nat):Int)-1))=(vI (((j:Int)-1)+1)):=by exact cI om
    refine a_ (O ⟨((j+1),Jb,J5,(azW++v)),⟨om,by dsimp only; (rw [nJ R,List.length_append,List.length_append,A,Ax])⟩⟩ _ _ _ U os (cz 8<|aU U Fd<|cR.nil _) (aK [4,5,6,7,8,9,10,11,12,13,14,15,16,0,17]))
   refine WS fun _ a=>rP 2 [] I ?_
   refine RK a<|bO U (aO fun K4=>?_) (aN fun K4=>?_)
   ·refine cg ?_
    refine a_ (j6 (bf U) (aK [0,1,2,3,4,5,6,7,8,9,10,11,12,13,14]) (p ⟨(((gN r.Start fs)+(eH l rs.length)),r.gL),⟨by exact Ja om,om⟩⟩))
   refine ag fun _ Ck=>WS fun _ u=>rP 3 [] (mc 1 U I) ?_
   obtain ⟨s,hs⟩:=aA r.aa ((((j:Int)-1)).toNat) om
   have L2:=bH aH.cells hs
   refine rS (IA ((((j:Int)-1)).toNat) U (av 8 U) wG dc om om)<|rS (nQ (((((j:Int)-1)).toNat)*2) U (av 8 U) (Nat.mul_pos om dc) eD U)<|rS (gv ((((j:Int)-1)).toNat) 0 (vI s.fI) U bV (av 8 U) L2 U dc U) ?_
   have R8:=(hr.sig _ s hs).1
   refine rP 3 [] I ?_
   refine bS (t:=99) U (aX fun A0=>?_) (aW fun A0=>?_)
   ·refine bp 7 U<|RK u<|aL U<|bM<|ab<|ab<|aF<|KK P<|ao<|rP 3 [] I ?_
    refine aC ?_
    have L:(iU l r B rs fs (j+1))=(iU l r B rs fs j):=by exact rp (xH om hs (fun q=>A0 om))
    rw [← L]
    have Eq:(vI ((((j+1):Nat):Int)-1))=(vI (((j:Int)-1)+1)):=by exact cI om
    refine a_ (O ⟨((j+1),M,N,azW),⟨om,by dsimp only; (rw [L]; exact A)⟩⟩ _ _ _ U os (cz 8<|aU U Eq<|cR.nil _) (aK [0,1,2,3,4,5,6,7,8,9,10,11,12,13,14]))
   refine rP 3 [] (mc 0 U I) ?_
   obtain ⟨bs,AU⟩:=aA (fK l r r.aa.length) ((((j:Int)-1)).toNat) om
   have Fn:=bH im AU
   refine rS (IA ((((j:Int)-1)).toNat) U (av 11 U) s_ dc om om)<|rS (gv ((((j:Int)-1)).toNat) 0 (vB bs) U bV (av 11 U) Fn U dc U)<|rP 2 [] I ?_
   refine RK u<|cb U (fun F=>?_) (fun F=>?_)
   ·rw [Bool.not_eq_true'] at F
    refine bM<|ab<|ab<|aF<|KK P<|ao<|rP 3 [] I ?_
    refine aC ?_
    have L:(iU l r B rs fs (j+1))=(iU l r B rs fs j):=by exact rp (xH om hs (fun q=>by rw [(Ce hs AU).2 q.2] at F; cases F))
    rw [← L]
    have FS:(vI ((((j+1):Nat):Int)-1))=(vI (((j:Int)-1)+1)):=by exact cI om
    refine a_ (O ⟨((j+1),M,N,azW),⟨om,by dsimp only; (rw [L]; exact A)⟩⟩ _ _ _ U os (cz 8<|aU U FS<|cR.nil _) (aK [0,1,2,3,4,5,6,7,8,9,10,11,12,13,14]))
   rw [Bool.not_eq_false'] at F
   refine WK Ck<|cS cj 18 kr<|dP 4 [] (mc 0 U I) ?_
   obtain ⟨z,hz⟩:=aA (fh l r r.aa.length) ((((j:Int)-1)).toNat) om
   have Id:=bH ai.cells hz
   refine dS (IA ((((j:Int)-1)).toNat) U (av 10 U) lF dc om om)<|dS (nQ (((((j:Int)-1)).toNat)*2) U (av 10 U) (Nat.mul_pos om dc) eD U) ?_
   have If:=Ln hs hz
   have Ne:=w9 l s
   rw [← If] at Ne
   have La:(dq l s).Lo≤(dq l s).Hi:=(Ce hs AU).1 F
   refine dS (gv ((((j:Int)-1)).toNat) 0 (vI z.Lo) U bV (av 10 U) Id U dc U)<|dS (MX U)<|kf 4 [] (mc 0 U I) U<|dS (IA ((((j:Int)-1)).toNat) U (av 10 U) lF dc om om)<|dS (nQ ((((((j:Int)-1)).toNat)*2)+1) U (av 10 U) (Nat.mul_pos om dc) eD U)<|dS (gv ((((j:Int)-1)).toNat) 1 (vI z.Hi) U bV (av 10 U) Id U dc U)<|dS (MN U)<|dP 2 [] I ?_
   refine cu<|aC ?_
   refine a_ (j6 (bf U) (aK [0,1,2,3,4,5,6,7,8,9,10,11,12,13,14]) (p ⟨((max ((gN r.Start fs)+(eH l rs.length)) z.Lo),(min r.gL z.Hi)),⟨by (rw [If]; exact Ic om hs om La),om⟩⟩))
  refine WS fun _ Z=>rP 2 [] I ?_
  refine RK Z<|bO U (aO fun K0=>?_) (aN fun K0=>?_)
  ·refine cg ?_
   have Do:(vI (gN r.Start fs))=(vI r.Start):=by exact cI (by have e:fs=[]:=kE om; rw [e]; rfl)
   refine a_ (j6 (cz 7<|aU U Do<|cR.nil _) (aK [0,1,2,3,4,5,6,7,8,9,10,11,12,13]) (o ()))
  refine ao<|rP 3 [] I ?_
  obtain ⟨xf,Go⟩:=aA fs (rs.length-1) om
  have H1:=bH iC Go
  refine rS (IA (rs.length-1) U (show g9 _ (rd fA fs.length 1 (fs.map iC)).holds from (qo (c:=fC) (e:=3) 3 U sm sm)) dI dc om om)<|rS (gv (rs.length-1) 0 (vI xf) U bV (show g9 _ (rd fA fs.length 1 (fs.map iC)).holds from (qo (c:=fC) (e:=3) 3 U sm sm)) H1 U dc U)<|rP 1 [] I ?_
  refine aC ?_
  have Di:(vI (gN r.Start fs))=(vI xf):=by exact cI (Dj _ _ _ (by rw [hfl]; exact Go))
  refine a_ (j6 (cz 7<|aU U Di<|cR.nil _) (aK [0,1,2,3,4,5,6,7,8,9,10,11,12,13]) (o ()))
 refine WS fun _ V=>rP 8 [0,1] (mc 1 U (mc 2 U I)) ?_
 refine RK V<|bO U (aO fun G=>?_) (aN fun G=>?_)
 ·refine cg<|Eu<|G7 240 3 ?_
  rw [show (own none 0 240 3 [])=(own none 0 240 3 (List.zipWith du.cells (iu l r rs fs) [])) from by rw [yn G]; rfl]
  have EQ:(vS none ((iu l r rs fs).length) 0)=(vS none 0 0):=by first|rfl|(rw [yn G]; rfl)
  refine a_ (j6 (cz 6<|aU U EQ<|cR.nil _) (aK [2,3,4,5,6,7,8,9,10,11,12,13,0,1]) (m ⟨(none,0,[],[]),(by exact .inr ⟨G,U,U⟩)⟩))
 refine ao<|rP 6 [0,1] (mc 1 U (mc 0 U I)) ?_
 refine cX (KV r sgA sgC l vwA vwC vtA vtC vbA vbC rs rA rC hle hr om (by exact fun x hx h0=>(hrs x hx).2)) (mJ [8,9,10,11]<|aw (show g9 _ (rd rA rs.length 1 (rs.map iC)).holds from (qo (c:=rC) (e:=3) 3 U sm sm))<|aS) U fun Nm O5=>?_
 obtain ⟨S,T⟩:=Nm
 try dsimp only
 refine rS (SX (bE (xs:=[(0,.tmp 48),(1,.tmp 49),(2,.tmp 53)]) (cs:=(xT.cells (xT.mk (bj.mk rA rs.length rC) (bj.mk fA fs.length fC) (bj.mk S ((jM l r rs).length) T)))) U U (bD TE U)) U U)<|e9 (xs:=[.tmp 54]) (cs:=(xT.cells (xT.mk (bj.mk rA rs.length rC) (bj.mk fA fs.length fC) (bj.mk S ((jM l r rs).length) T)))) U BT Tl U U U U (by simp [Value.cells,xT.bI]) U U fun Pi=>gn 240 3 ?_
 refine cP (es2:=(List.zipWith du.cells (iu l r rs fs) ([((rA,rC),(fA,fC),(S,T))]))) (m':=(iu l r rs fs).length) 0 rfl rfl rfl OG rfl rfl rfl (bo (es:=List.zipWith du.cells [(du.mk rs fs (jM l r rs))] [((rA,rC),(fA,fC),(S,T))]) 1 rfl rfl (by intro e he; simp at he; subst he; rfl) rfl) (BF _ _) dc dc (by rw [zb G]; rfl) (by rw [zb G]; rfl) rfl fun y AC=>?_
 try dsimp only
 refine xJ<|Sh 0 3 U U U ?_
 try dsimp only
 refine rP 1 [] I ?_
 refine aC ?_
 have d:(vS y ((iu l r rs fs).length) AC)=(vS y ((iu l r rs fs).length) AC):=by first|rfl|(rw [yn G]; rfl)
 refine a_ (j6 (cz 6<|aU U d<|cR.nil _) (aK [3,4,5,6,7,8,9,10,11,12,13,14,1,0]) (m ⟨(y,AC,[((rA,rC),(fA,fC),(S,T))],[(own S T 3 1 ((jM l r rs).map iC))]),(by exact .inl ⟨G,_,U,U⟩)⟩))
theorem O3 (l:bq) (kA:OA) (kC:Nat) (az:List RA) (cA:OA) (cC:Nat) (bA:OA) (bC:Nat) (r:cQ) (sgA:OA) (sgC:Nat) (vwA:OA) (vwC:Nat) (vtA:OA) (vtC:Nat) (vbA:OA) (vbC k:Nat) (rs:List Int) (rA:OA) (rC:Nat) (fs:List Int) (fA:OA) (fC:Nat) (hin:ed l az) (hle:e_ l=0) (hr:fW l r) (hk:rs.length+k=l.aj.length) (hfl:fs.length=rs.length) (hst:r.Start≤gN r.Start fs∧gN r.Start fs≤r.gL) (hrs: ∀ x∈rs,-1≤x∧x<(r.aa.length:Int)):
 LF Tryz.prog 191 [(vA (bW.cells (jx l kA kC cA cC bA bC))),(vA (de.cells (g8 r sgA sgC))),(vA (iZ.cells (iZ.mk (bj.mk vwA ((cp l l.aj.length).length) vwC) (bj.mk vtA ((fh l r r.aa.length).length) vtC) (bj.mk vbA ((fK l r r.aa.length).length) vbC)))),(vS rA rs.length rC),(vS fA fs.length fC)] ((o7 l kA az cA bA)++[(rd sgA r.aa.length 2 (r.aa.map aH.cells)),(rd vwA ((cp l l.aj.length).length) 1 ((cp l l.aj.length).map iC)),(rd vtA ((fh l r r.aa.length).length) 2 ((fh l r r.aa.length).map ai.cells)),(rd vbA ((fK l r r.aa.length).length) 1 ((fK l r r.aa.length).map im))]) (bQ [own rA rC 3 1 (rs.map iC),own fA fC 3 1 (fs.map iC)]) (fun (x:(OA)×Nat×(List kZ))=>(vS x.1 ((iR l r k rs fs).length) x.2.1)) (fun (x:(OA)×Nat×(List kZ))=>x.2.2.length=(iR l r k rs fs).length) (fun (x:(OA)×Nat×(List kZ))=>(bQ (bK du.owns (iR l r k rs fs) x.2.2++[own x.1 x.2.1 240 3 (List.zipWith du.cells (iR l r k rs fs) x.2.2)]))):=by
 induction k using Nat.strongRecOn generalizing rs rA rC fs fA fC with
 |ind k ih=>exact Gv l kA kC az cA cC bA bC r sgA sgC vwA vwC vtA vtC vbA vbC k rs rA rC fs fA fC hin hle hr hk hfl hst hrs (fun L F D E C A B G H AA J K=>ih L G F D E C A B H AA J K)
end
section
open Go.RowKit
theorem AP (l:bq) (kA:OA) (kC:Nat) (az:List RA) (cA:OA) (cC:Nat) (bA:OA) (bC:Nat) (r:cQ) (sgA:OA) (sgC:Nat) (hin:ed l az) (hsl:r.aa.length≤1000000):
 lR Tryz.prog 151 [(vA (bW.cells (jx l kA kC cA cC bA bC))),(vA (de.cells (g8 r sgA sgC)))] ((o7 l kA az cA bA)++[(rd sgA r.aa.length 2 (r.aa.map aH.cells))]) (fun (x:Bool×Int×(OA)×Nat×(List kZ))=>bif x.1 then (vT [(vS x.2.2.1 ((kO l r).length) x.2.2.2.1),(vI 0)]) else (vT [(vS none 0 0),(vI x.2.1)])) (fun (x:Bool×Int×(OA)×Nat×(List kZ))=>(x.1=true→(fq l r 0=0∧x.2.2.2.2.length=(kO l r).length))∧(x.1=false→(x.2.1=fq l r 0∧ ¬ fq l r 0=0))) (fun (x:Bool×Int×(OA)×Nat×(List kZ))=>bif x.1 then [(own x.2.2.1 x.2.2.2.1 240 3 (List.zipWith du.cells (kO l r) x.2.2.2.2)),(bQ (bK du.owns (kO l r) x.2.2.2.2))] else []):=by
 have k:=hin.qI
 have j:=hin.qG
 have h:=hin.lS
 have i:=hin.qD
 refine dL kr Tryz.func151 U U fun o Q hQ hN=>?_
 try dsimp only
 refine WS fun _ X=>dV U fun m=>dV U fun n=>bp 2 U<|RK X<|ag fun _ Y=>WS fun _ Z=>dY 1 [] (mc 1 U I) U<|rS (CL (xC l kA kC az cA cC bA bC hin) (aY [2,3,4,5]) U)<|bp 1 U<|RK Z<|WS fun _ a=>rP 2 [] I ?_
 refine RK a<|cb U (aX fun A=>?_) (aW fun A=>?_)
 ·refine WS fun _ b=>rP 3 [] I ?_
  refine RK b<|ak<|LX hQ (false,(e_ l),none,0,[]) [] [] I U (by rfl) U U ?_
  exact o9<|QJ (iQ (r:=r) (me:=0) A) A
 refine WK Y<|ag fun _ c=>WS fun _ d=>dY 2 [0,1] (mc 1 U (mc 0 U I)) U<|rS (CL (EN l kA kC az cA cC bA bC r sgA sgC hin (by exact hsl)) (aY [2,3,4,5,6]) U)<|rP 1 [] I ?_
 refine RK d<|cb U (aX fun B=>?_) (aW fun B=>?_)
 ·refine WS fun _ D=>rP 2 [] I ?_
  refine RK D<|ak<|LX hQ (false,51,none,0,[]) [] [] I U (by rfl) U U ?_
  exact o9<|qT (ep (me:=0) A B)
 refine WK c<|ag fun _ E=>dp cj [4,5,6] [] [] [0,1,2,3,4,5,6] [] U U U U U<|eS U (LW 1 U bV U U)<|eS U (LW 0 U bV U U)<|eS U (LW 1 U bV U U)<|eS U (LW 0 U bV U U)<|eg U<|cf U fun T12 J=>cX (MH l kA kC az cA cC bA bC r sgA sgC hin (by exact A) (by exact B)) (aY [2,3,4,5,6]) U fun e g=>?_
 obtain ⟨V,W,T,AA,R,S⟩:=e
 try dsimp only
 refine aC (J _ _ (aK [3,4,5,6,7,8,9]) ?_)
 refine cf U fun T21 K=>gn 3 1<|gn 3 1<|xJ<|sh 1 U ?_
 try dsimp only [List.eraseIdx]
 refine AB U<|sh 1 U ?_
 try dsimp only [List.eraseIdx]
 refine AB U ?_
 try dsimp only
 refine oS 0 rfl rfl rfl rfl (O3 l kA kC az cA cC bA bC r sgA sgC V W T AA R S l.aj.length ([]:List Int) none 0 ([]:List Int) none 0 hin (by exact A) (by exact B) sm (by rfl) (by exact ⟨Int.le_refl _,B.time.2.1⟩) (by intro x hx; cases hx)) rfl (eE 6 rfl rfl (dM (b_ _)) (eE 7 rfl rfl (dM (b_ _)) (eE 8 rfl rfl (dM (b_ _)) (eE 9 rfl rfl (dM (b_ _)) (eE 10 rfl rfl (dM (b_ _)) (eE 1 rfl rfl (jH sm) (eE 2 rfl rfl (jH sm) (eE 3 rfl rfl (jH sm) re)))))))) rfl (fun f M=>?_)
 obtain ⟨N,O,P⟩:=f
 try dsimp only
 refine aC (K _ _ (aK [4,5,6,7,8,9,10]) ?_)
 refine cf U fun T26 L=>sh 0 U ?_
 try dsimp only [List.eraseIdx]
 refine ze ?_
 dsimp only at M
 refine rS (AG U)<|aC (L _ _ (aK [5,6,7,8,9,10,11]) ?_)
 refine e8 U<|KK E<|ag fun _ F=>WS fun _ G=>rP 3 [] I ?_
 refine RK G<|bO U (aO fun C=>?_) (aN fun C=>?_)
 ·refine WK F<|WS fun _ AC=>rP 3 [] I ?_
  refine RK AC<|ak ?_
  refine LX hQ (true,0,N,O,P) [0,1] [] I U (by (show List.all _ _=true; simp only [cond_true,fV,List.all_nil,JK,Bool.and_true]; rfl)) U U ?_
  exact ⟨fun _=>⟨vC A B U fun q=>C (by rw [show iR l r l.aj.length [] []=[] from (fY A B).2 q]; rfl),M⟩,Oj⟩
 refine WS fun _ H=>rP 2 [] I ?_
 refine RK H<|ak<|LX hQ (false,8,none,0,[]) [] [] I U (by rfl) U U ?_
 exact o9<|qT (tJ (me:=0) A B U ((fY A B).1 (kE (Int.natCast_eq_zero.1 C))))
theorem z5 (ws:List du) (wz:List kZ) (wA:OA) (wC b:Nat) (hws:LZ ws) (hwz:wz.length=ws.length) (hb:b≤6):
 dG Tryz.prog 154 [(vS wA ws.length wC),(vI (b:Int))] [(rd wA ws.length 3 (List.zipWith du.cells ws wz)),(iH (bK du.jU ws wz))] (vT [(vA (ai.cells (p8 ws b))),(vI (qg ws b))]):=by
 have u:=hws.num
 refine bG kr Tryz.func154 U U fun x Q hQ hN=>?_
 try dsimp only
 refine WS fun _ g=>AL U eh fun w=>bp 1 U<|RK g<|WS fun _ h=>AL U eh fun t=>RK h<|WS fun _ j=>bp 1 U<|RK j<|ag fun _ k=>WS fun _ l=>rP 1 [] I ?_
 refine RK l<|ax ?_
 have D:(0≤ws.length)∧(n_ b (ws.take 0) false (ai.mk 0 0)):=by exact ⟨Nat.zero_le _,Hb⟩
 refine bP (ι:={z:Nat×Bool×ai // (z.1≤ws.length)∧(n_ b (ws.take z.1) z.2.1 z.2.2)}) [0,1,4,5,6] [1,2,3] U U (fun z=>[(7,(vB z.1.2.1)),(8,(vI (z.1.1:Int)))]) (fun z=>[(cy t 38 (ai.cells z.1.2.2))]) (fun _=>rfl) (fun _=>rfl) (fun z=>ws.length-z.1.1) ⟨(0,false,(ai.mk 0 0)),D⟩ (bf U) (aK [1,2,3,0]) ?_
 clear D
 rintro ⟨⟨i,fd,o⟩,⟨J,A⟩⟩ J8 H
 try dsimp only at J A
 try dsimp only
 refine ag fun _ m=>WS fun _ L=>rP 4 [] I ?_
 refine RK L<|bO U (aO fun c=>?_) (aN fun c=>?_)
 ·refine bM<|ab<|ab<|aF<|KK k<|ag fun _ R=>WS fun _ S=>rP 2 [] I ?_
  refine RK S<|bO U (fun B=>?_) (fun B=>?_)
  ·rw [Bool.not_eq_false'] at B
   refine WK R<|WS fun _ AA=>dY 1 [] (mc 3 U I) U<|e7 U cW U<|rP 1 [] I ?_
   refine RK AA<|ak<|mh hQ [0] (mc 0 U I) U ?_
   have AB:=z6 (by have q:=A; rwa [List.take_of_length_le om] at q) hws.Fk
   (have q:=AB.2 B; rw [q.1,q.2]; done)
  rw [Bool.not_eq_true'] at B
  refine WS fun _ T=>rS (SX (bE (xs:=[]) (cs:=(ai.cells (ai.mk 0 0))) U U (bD g6 U)) U U)<|e7 U cW U<|rP 1 [] I ?_
  refine RK T<|ak<|mh hQ [0] (mc 0 U I) U ?_
  have AB:=z6 (by have q:=A; rwa [List.take_of_length_le om] at q) hws.Fk
  (have q:=AB.1 B; rw [q.1,q.2]; done)
 refine WK m<|ag fun _ C=>ax<|ag fun _ M=>WS fun _ N=>rP 2 [] I ?_
 obtain ⟨y,hy⟩:=aA ws i om
 obtain ⟨ya,E⟩:=aA wz i om
 have K:(List.zipWith du.cells ws wz)[i]? =some (du.cells y ya):=cG hy E
 refine rS (IA i U (av 1 U) BT dc om om)<|rS (nQ (i*3) U (av 1 U) (Nat.mul_pos om dc) eD U)<|rS (gv i 0 (vS ya.1.1 y.gp.length ya.1.2) U bV (av 1 U) K U dc U)<|rP 3 [] I ?_
 refine RK N<|cb U (aN fun d=>?_) (aO fun d=>?_)
 ·refine bM<|ab<|aF<|KK C<|ao<|rP 3 [] I ?_
  refine aC ?_
  have X:(vI (((i+1):Nat):Int))=(vI ((i:Int)+1)):=by exact cI om
  refine a_ (H ⟨((i+1),fd,o),⟨om,by dsimp only; rw [lG hy]; exact DW A om⟩⟩ _ _ _ U os (cz 6<|aU U X<|cR.nil _) (aK [0,1,2,3]))
 refine WK M<|ag fun _ O=>dp cj [17,18] [] [] [0,1,2,3] [] U U U U U ?_
 have v:=hws.lens y (aP hy)
 obtain ⟨s,hs⟩: ∃ s,y.gp[b]? =some s:=⟨y.gp[b]'om,fZ _⟩
 refine eS U (MV U)<|eS U (MV U)<|eS U (IA i U (av 1 U) BT dc om om)<|eS U (nQ ((i*3)+1) U (av 1 U) (Nat.mul_pos om dc) eD U)<|eS U (gv i 1 (vS ya.2.1.1 y.jg.length ya.2.1.2) U bV (av 1 U) K U dc U)<|eS U (MV U) ?_
 obtain ⟨f,hf⟩:=aA y.jg b om
 have p:=bH iC hf
 refine eS U (IA b U (show g9 _ (rd ya.2.1.1 y.jg.length 1 (y.jg.map iC)).holds from (cd 2 U (bB hy E (by simp [du.jU])))) dI dc om om)<|eS U (gv b 0 (vI f) U bV (show g9 _ (rd ya.2.1.1 y.jg.length 1 (y.jg.map iC)).holds from (cd 2 U (bB hy E (by simp [du.jU])))) p U dc U)<|eS U (MV U)<|eS U (MV U)<|eS U (IA i U (av 1 U) BT dc om om)<|eS U (nQ ((i*3)+2) U (av 1 U) (Nat.mul_pos om dc) eD U)<|eS U (gv i 2 (vS ya.2.2.1 y.mo.length ya.2.2.2) U bV (av 1 U) K U dc U)<|eS U (MV U) ?_
 obtain ⟨e,he⟩:=aA y.mo b om
 have n:=bH iC he
 refine eS U (IA b U (show g9 _ (rd ya.2.2.1 y.mo.length 1 (y.mo.map iC)).holds from (cd 2 U (bB hy E (by simp [du.jU])))) dI dc om om)<|eS U (gv b 0 (vI e) U bV (show g9 _ (rd ya.2.2.1 y.mo.length 1 (y.mo.map iC)).holds from (cd 2 U (bB hy E (by simp [du.jU])))) n U dc U)<|eS U (SX (bE (xs:=[(0,.tmp 31),(1,.tmp 39)]) (cs:=(ai.cells (ai.mk f e))) U U (bD g6 U)) U U)<|eg U<|cf U fun T17 V=>AL U eh fun r=>aC (V _ _ (aK [1,2,3,4]) ?_)
 refine cf U fun T19 W=>e7 U cW U<|aC (W _ _ (aK [1,2,3,4]) ?_)
 refine e8 U<|KK O<|ag fun _ F=>WS fun _ P=>?_
 have a:=hws.le y (aP hy) b f e om hf he
 refine rP 1 [] I ?_
 refine RK P<|bO U (fun G=>?_) (fun G=>?_)
 ·refine WK F<|ao<|dY 1 [] (mc 0 U I) U<|QL U cW U<|bp 1 U<|aC<|aJ<|KK C<|ao<|rP 3 [] I ?_
  refine aC ?_
  have Z:(vI (((i+1):Nat):Int))=(vI ((i:Int)+1)):=by exact cI om
  refine a_ (H ⟨((i+1),true,(ai.mk f e)),⟨om,by dsimp only; rw [lG hy]; exact BA A G hs hf he a⟩⟩ _ _ _ U os (cz 6<|aU U Z<|cR.nil _) (aK [1,2,3,4]))
 refine ao<|dY 4 [0,1] (mc 0 U (mc 4 U I)) U<|rS (MN U)<|dY 4 [0,1] (mc 0 U (mc 4 U I)) U<|rS (MX U)<|rS (SX (bE (xs:=[(0,.tmp 46),(1,.tmp 51)]) (cs:=(ai.cells (ai.mk (min f o.Lo) (max e o.Hi)))) U U (bD g6 U)) U U)<|e7 U cW U<|RK F<|ao<|dY 1 [] (mc 0 U I) U<|QL U cW U<|bp 1 U<|aC<|aJ<|KK C<|ao<|rP 3 [] I ?_
 refine aC ?_
 have Y:(vI (((i+1):Nat):Int))=(vI ((i:Int)+1)):=by exact cI om
 refine a_ (H ⟨((i+1),true,(ai.mk (min f o.Lo) (max e o.Hi))),⟨om,by dsimp only; rw [lG hy]; exact DI A G hs hf he a⟩⟩ _ _ _ U os (cz 6<|aU U Y<|cR.nil _) (aK [1,2,3,4]))
end
section
open Go.RowKit
theorem GJ (l:bq) (kA:OA) (kC:Nat) (az:List RA) (cA:OA) (cC:Nat) (bA:OA) (bC:Nat) (r:cQ) (sgA:OA) (sgC:Nat) (bq_:Int) (hin:ed l az) (hsl:r.aa.length≤1000000):
 dG Tryz.prog 125 [(vA (bW.cells (jx l kA kC cA cC bA bC))),(vA (de.cells (g8 r sgA sgC))),(vI bq_)] ((o7 l kA az cA bA)++[(rd sgA r.aa.length 2 (r.aa.map aH.cells))]) (vT [(vA (ai.cells (dD l r bq_))),(vI (eA l r bq_))]):=by
 have AC:=hin.qI
 have v:=hin.qG
 have t:=hin.lS
 have u:=hin.qD
 refine bG kr Tryz.func125 U U fun w0 Q hQ hN=>?_
 try dsimp only
 refine WS fun _ d=>dV U fun b2=>dV U fun b3=>AL U eh fun b4=>bp 1 U<|RK d<|ag fun _ f=>WS fun _ g=>dY 1 [] (mc 2 U I) U<|rS (CL (xC l kA kC az cA cC bA bC hin) (aY [3,4,5,6]) U)<|bp 1 U<|RK g<|WS fun _ h=>rP 2 [] I ?_
 refine RK h<|cb U (aX fun B=>?_) (aW fun B=>?_)
 ·refine WS fun _ i=>rS (SX (bE (xs:=[]) (cs:=(ai.cells (ai.mk 0 0))) U U (bD g6 U)) U U)<|bp 1 U<|e7 U cW U<|rP 1 [] I ?_
  refine RK i<|ak<|mh hQ [0] (mc 0 U I) U ?_
  first|(have e:=iQ (r:=r) (me:=fQ l bq_) B; have q:=dK (b:=bq_) (fun z=>B (e.symm.trans z)); rw [q.1,q.2,e]<;>rfl)|(have e:=ep (me:=fQ l bq_) B C; have q:=dK (b:=bq_) (fun z=>absurd (e.symm.trans z) dc); rw [q.1,q.2,e]<;>rfl)|(have A:fQ l bq_=2:=if_neg D; have e:=lO (me:=fQ l bq_) B C (by rw [A]; decide); have q:=dK (b:=bq_) (fun z=>absurd (e.symm.trans z) (by rw [A]; decide)); rw [q.1,q.2,e,A]<;>rfl)|(have A:fQ l bq_=0:=mV D; have q:=dK (b:=bq_) (r:=r) (by rw [A]; exact he); rw [q.1,q.2,A]<;>rfl)|(have q:=pH he (b:=b) om; rw [← E] at q; rw [q.1,q.2]<;>rfl)
 refine WK f<|ag fun _ j=>WS fun _ K=>dY 2 [0,1] (mc 2 U (mc 1 U I)) U<|rS (CL (EN l kA kC az cA cC bA bC r sgA sgC hin hsl) (aY [3,4,5,6,7]) U)<|rP 1 [] I ?_
 refine RK K<|cb U (aX fun C=>?_) (aW fun C=>?_)
 ·refine WS fun _ L=>rS (SX (bE (xs:=[]) (cs:=(ai.cells (ai.mk 0 0))) U U (bD g6 U)) U U)<|e7 U cW U<|rP 1 [] I ?_
  refine RK L<|ak<|mh hQ [0] (mc 0 U I) U ?_
  first|(have e:=iQ (r:=r) (me:=fQ l bq_) B; have q:=dK (b:=bq_) (fun z=>B (e.symm.trans z)); rw [q.1,q.2,e]<;>rfl)|(have e:=ep (me:=fQ l bq_) B C; have q:=dK (b:=bq_) (fun z=>absurd (e.symm.trans z) dc); rw [q.1,q.2,e]<;>rfl)|(have A:fQ l bq_=2:=if_neg D; have e:=lO (me:=fQ l bq_) B C (by rw [A]; decide); have q:=dK (b:=bq_) (fun z=>absurd (e.symm.trans z) (by rw [A]; decide)); rw [q.1,q.2,e,A]<;>rfl)|(have A:fQ l bq_=0:=mV D; have q:=dK (b:=bq_) (r:=r) (by rw [A]; exact he); rw [q.1,q.2,A]<;>rfl)|(have q:=pH he (b:=b) om; rw [← E] at q; rw [q.1,q.2]<;>rfl)
 refine WK j<|ag fun _ M=>WS fun _ N=>dY 5 [] (mc 2 U I) U<|rS (CL (iY bq_ 0 ((l.aj.length:Int)-1)) (aS) U)<|rP 1 [] I ?_
 refine RK N<|cb U (aX fun D=>?_) (aW fun D=>?_)
 ·refine WS fun _ O=>rS (SX (bE (xs:=[]) (cs:=(ai.cells (ai.mk 0 0))) U U (bD g6 U)) U U)<|e7 U cW U<|rP 1 [] I ?_
  refine RK O<|ak<|mh hQ [0] (mc 0 U I) U ?_
  first|(have e:=iQ (r:=r) (me:=fQ l bq_) B; have q:=dK (b:=bq_) (fun z=>B (e.symm.trans z)); rw [q.1,q.2,e]<;>rfl)|(have e:=ep (me:=fQ l bq_) B C; have q:=dK (b:=bq_) (fun z=>absurd (e.symm.trans z) dc); rw [q.1,q.2,e]<;>rfl)|(have A:fQ l bq_=2:=if_neg D; have e:=lO (me:=fQ l bq_) B C (by rw [A]; decide); have q:=dK (b:=bq_) (fun z=>absurd (e.symm.trans z) (by rw [A]; decide)); rw [q.1,q.2,e,A]<;>rfl)|(have A:fQ l bq_=0:=mV D; have q:=dK (b:=bq_) (r:=r) (by rw [A]; exact he); rw [q.1,q.2,A]<;>rfl)|(have q:=pH he (b:=b) om; rw [← E] at q; rw [q.1,q.2]<;>rfl)
 refine WK M<|WS fun _ F=>rP 2 [0,1] (mc 2 U (mc 1 U I)) ?_
 refine cX (AP l kA kC az cA cC bA bC r sgA sgC hin hsl) (aY [3,4,5,6,7]) U fun o G=>?_
 obtain ⟨Y,p,a,c,Z⟩:=o
 cases Y
 ·obtain ⟨V,he⟩:=G.2 rfl
  try dsimp only at V he
  subst V
  try dsimp only [cond_true,cond_false,List.cons_append,List.nil_append]
  refine bp 5 U<|RK F<|ag fun _ s=>WS fun _ P=>rP 2 [] I ?_
  refine RK P<|bO U (aW fun J=>?_) (aX fun J=>?_)
  ·exact absurd J he
  refine WS fun _ R=>rS (SX (bE (xs:=[]) (cs:=(ai.cells (ai.mk 0 0))) U U (bD g6 U)) U U)<|bp 1 U<|e7 U cW U<|rP 1 [] I ?_
  refine RK R<|ak<|mh hQ [0] (mc 0 U I) U ?_
  first|(have e:=iQ (r:=r) (me:=fQ l bq_) B; have q:=dK (b:=bq_) (fun z=>B (e.symm.trans z)); rw [q.1,q.2,e]<;>rfl)|(have e:=ep (me:=fQ l bq_) B C; have q:=dK (b:=bq_) (fun z=>absurd (e.symm.trans z) dc); rw [q.1,q.2,e]<;>rfl)|(have A:fQ l bq_=2:=if_neg D; have e:=lO (me:=fQ l bq_) B C (by rw [A]; decide); have q:=dK (b:=bq_) (fun z=>absurd (e.symm.trans z) (by rw [A]; decide)); rw [q.1,q.2,e,A]<;>rfl)|(have A:fQ l bq_=0:=mV D; have q:=dK (b:=bq_) (r:=r) (by rw [A]; exact he); rw [q.1,q.2,A]<;>rfl)|(have q:=pH he (b:=b) om; rw [← E] at q; rw [q.1,q.2]<;>rfl)
 obtain ⟨he,H⟩:=G.1 rfl
 try dsimp only [cond_true,cond_false,List.cons_append,List.nil_append]
 try dsimp only at he H
 obtain ⟨W,AB,_,w⟩:=iD he
 obtain ⟨AO,m⟩:=dw W
 have k:=m.head
 unfold eL at k
 have X:=D8 W AB
 have AU:=X.num
 have x:=AB.len
 have y:=AB.time
 refine bp 5 U<|RK F<|ag fun _ S=>WS fun _ T=>rP 1 [] I ?_
 refine rS (SX (eQ (r:= .bool false) U U U s7) U U)<|RK T<|bT U<|WK S<|ag fun _ AA=>?_
 obtain ⟨b,E⟩: ∃ b:Nat,bq_=(b:Int):=⟨bq_.toNat,om⟩
 rw [E]
 refine ao<|bp 2 U<|rS (CL (z5 (kO l r) Z a c b (by exact X) (by exact H) om) (aw (ar (n:=(kO l r).length) 0 U (m6 H))<|aw (eO 1 U Fy)<|aS) U)<|bp 2 U<|CT U cW U<|rP 1 [] I ?_
 refine RK AA<|ak<|mh hQ [0] (mc 2 U I) U ?_
 first|(have e:=iQ (r:=r) (me:=fQ l bq_) B; have q:=dK (b:=bq_) (fun z=>B (e.symm.trans z)); rw [q.1,q.2,e]<;>rfl)|(have e:=ep (me:=fQ l bq_) B C; have q:=dK (b:=bq_) (fun z=>absurd (e.symm.trans z) dc); rw [q.1,q.2,e]<;>rfl)|(have A:fQ l bq_=2:=if_neg D; have e:=lO (me:=fQ l bq_) B C (by rw [A]; decide); have q:=dK (b:=bq_) (fun z=>absurd (e.symm.trans z) (by rw [A]; decide)); rw [q.1,q.2,e,A]<;>rfl)|(have A:fQ l bq_=0:=mV D; have q:=dK (b:=bq_) (r:=r) (by rw [A]; exact he); rw [q.1,q.2,A]<;>rfl)|(have q:=pH he (b:=b) om; rw [← E] at q; rw [q.1,q.2]<;>rfl)
theorem Qg (l:bq) (kA:OA) (kC:Nat) (az:List RA) (cA:OA) (cC:Nat) (bA:OA) (bC:Nat) (r:cQ) (sgA:OA) (sgC:Nat) (hin:ed l az) (hsl:r.aa.length≤1000000):
 dG Tryz.prog 162 [(vA (bW.cells (bW.mk (bJ.mk (bj.mk kA l.bL.length kC)) l.gl (bj.mk cA l.aG.length cC) (bj.mk bA l.aj.length bC) l.bU l.ew l.cU))),(vA (de.cells (g8 r sgA sgC)))] ((o7 l kA az cA bA)++[(rd sgA r.aa.length 2 (r.aa.map aH.cells))]) (vT [(vA (ai.cells (Bt l r))),(vI (eA l r l.bU))]):=by
 have q:=hin.qI
 have j:=hin.qG
 have h:=hin.lS
 have i:=hin.qD
 refine bG kr Tryz.func162 U U fun y Q hQ hN=>?_
 try dsimp only
 refine WS fun _ Z=>dV U fun v=>dV U fun w=>AL U eh fun x=>bp 1 U<|RK Z<|WS fun _ P=>rP 2 [0,1] (mc 2 U (mc 1 U I)) ?_
 refine cX (AP l kA kC az cA cC bA bC r sgA sgC hin hsl) (aY [3,4,5,6,7]) U fun u V=>?_
 obtain ⟨W,g,e,Y,X⟩:=u
 cases W
 ·obtain ⟨R,he⟩:=V.2 rfl
  try dsimp only at R he
  subst R
  try dsimp only [cond_true,cond_false,List.cons_append,List.nil_append]
  refine bp 5 U<|RK P<|ag fun _ d=>WS fun _ G=>rP 2 [] I ?_
  refine RK G<|bO U (aW fun F=>?_) (aX fun F=>?_)
  ·exact absurd F he
  refine WS fun _ H=>rS (SX (bE (xs:=[]) (cs:=(ai.cells (ai.mk 0 0))) U U (bD g6 U)) U U)<|bp 1 U<|e7 U cW U<|rP 1 [] I ?_
  refine RK H<|ak<|mh hQ [0] (mc 0 U I) U ?_
  (rw [Dw (fun z=>he ((we he).symm.trans z)),we he]<;>rfl)
 obtain ⟨he,C⟩:=V.1 rfl
 try dsimp only [cond_true,cond_false,List.cons_append,List.nil_append]
 try dsimp only at he C
 obtain ⟨T,E,_,k⟩:=iD he
 obtain ⟨s,c⟩:=dw T
 have a:=c.head
 unfold eL at a
 have AA:=D8 T E
 have t:=AA.num
 have o:=E.len
 have p:=E.time
 refine bp 5 U<|RK P<|ag fun _ AB=>WS fun _ J=>rP 1 [] I ?_
 refine rS (SX (eQ (r:= .bool false) U U U s7) U U)<|RK J<|bT U<|WK AB<|ag fun _ K=>?_
 obtain ⟨b,S⟩: ∃ b:Nat,l.bU=(b:Int):=⟨l.bU.toNat,om⟩
 have A:=pH he (b:=b) om
 rw [← S] at A
 rw [S]
 refine ao<|dY 3 [] (mc 4 U I) U<|rS (CL (z5 (kO l r) X e Y b (by exact AA) (by exact C) om) (aw (ar (n:=(kO l r).length) 0 U (m6 C))<|aw (eO 1 U Fy)<|aS) U)<|bp 3 U<|AL U eh fun f=>e7 U cW U<|bp 1 U<|RK K<|ag fun _ L=>WS fun _ M=>rP 2 [] I ?_
 refine RK M<|cb U (aX fun B=>?_) (aW fun B=>?_)
 ·refine WS fun _ N=>rS (SX (bE (xs:=[]) (cs:=(ai.cells (ai.mk 0 0))) U U (bD g6 U)) U U)<|bp 1 U<|Qh U cW U<|rP 1 [] I ?_
  refine RK N<|ak<|mh hQ [0] (mc 3 U I) U ?_
  (rw [Dw (fun z=>B (A.1.trans z)),← A.1]<;>rfl)
 refine WK L<|ag fun _ O=>?_
 have D:eA l r l.bU=0:=A.1.symm.trans B
 have m:=vb D
 rw [A.2]
 refine ao<|dY 10 [0,1,0,1] (mc 0 U (mc 4 U I)) U<|rS (SX (bE (xs:=[(0,.tmp 34),(1,.tmp 39)]) (cs:=(ai.cells (ai.mk (((dD l r l.bU).Lo)-r.Start) (((dD l r l.bU).Hi)-r.Start)))) U U (bD g6 U)) U U)<|Qh U cW U<|rP 1 [] I ?_
 refine RK O<|ak<|mh hQ [0] (mc 3 U I) U ?_
 (rw [D4 D,D])
theorem Ed (la:List aH) (laA:OA) (laC:Nat) (lb:List aH) (lbA:OA) (lbC:Nat) (h1:la.length≤1000000) (h2:lb.length≤1000000):
 dG Tryz.prog 61 [(vS laA la.length laC),(vS lbA lb.length lbC)] [(rd laA la.length 2 (la.map aH.cells)),(rd lbA lb.length 2 (lb.map aH.cells))] (vB (decide (la=lb))):=by
 refine bG kr Tryz.func61 U U fun V Q hQ hN=>?_
 try dsimp only
 refine WS fun _ J=>bp 1 U<|RK J<|ag fun _ K=>WS fun _ L=>rP 5 [] I ?_
 refine RK L<|cb U (aX fun hl=>?_) (aW fun hl=>?_)
 ·refine WS fun _ M=>rP 1 [] I ?_
  refine RK M<|ak<|Q1 hQ U U U ?_
  first|exact cB (br (nX hx hy h)).symm|exact cB (dC (jD om A om)).symm|exact cB (br (fun e=>by subst e; omega)).symm
 refine WK K<|ag fun _ N=>WS fun _ O=>rP 1 [] I ?_
 refine RK O<|ax ?_
 have B:(0≤la.length)∧(la.take 0=lb.take 0):=by simp
 refine bP (ι:={z:Nat // (z≤la.length)∧(la.take z=lb.take z)}) [0,1] [0,1] U U (fun z=>[(5,(vI (z.1:Int)))]) (fun z=>[]) (fun _=>rfl) (fun _=>rfl) (fun z=>la.length-z.1) ⟨0,B⟩ (bf U) (aK [0,1]) ?_
 clear B
 rintro ⟨i,⟨S,A⟩⟩ J7 AB
 try dsimp only
 refine ag fun _ P=>WS fun _ R=>rP 4 [] I ?_
 refine RK R<|bO U (aO fun H=>?_) (aN fun H=>?_)
 ·refine bM<|ab<|ab<|aF<|KK N<|WS fun _ F=>rP 1 [] I ?_
  refine RK F<|ak<|Q1 hQ U U U ?_
  first|exact cB (br (nX hx hy h)).symm|exact cB (dC (jD om A om)).symm|exact cB (br (fun e=>by subst e; omega)).symm
 refine WK P<|ag fun _ C=>ax<|ag fun _ D=>cS cj 9 kr<|dP 2 [] I ?_
 obtain ⟨x,hx⟩:=aA la i om
 have T:=bH aH.cells hx
 refine dS (IA i U (av 0 U) wG dc om om)<|dS (jL i 0 (aH.cells x) U bV (av 0 U) T U dc U U)<|dP 2 [] I ?_
 obtain ⟨y,hy⟩:=aA lb i om
 have AA:=bH aH.cells hy
 refine dS (IA i U (av 1 U) wG dc om om)<|dS (jL i 0 (aH.cells y) U bV (av 1 U) AA U dc U U)<|dS (BI U (Qy _ _ x y))<|cu<|RK D<|cb U (aX fun h=>?_) (aW fun h=>?_)
 ·refine WS fun _ E=>rP 1 [] I ?_
  refine RK E<|ak<|Q1 hQ U U U ?_
  first|exact cB (br (nX hx hy h)).symm|exact cB (dC (jD om A om)).symm|exact cB (br (fun e=>by subst e; omega)).symm
 refine cg<|aJ<|KK C<|ao<|rP 3 [] I ?_
 refine aC ?_
 have G:(vI (((i+1):Nat):Int))=(vI ((i:Int)+1)):=by exact cI om
 refine a_ (AB ⟨(i+1),⟨om,iz A hx hy h⟩⟩ _ _ _ U os (cR.cons U<|cR.cons U<|aU U G<|cR.nil _) (aK [0,1]))
end
section
open Go.RowKit
theorem pq (n lo hi:Int):
 dG Tryz.prog 128 [(vI n),(vI lo),(vI hi)] [] (vB (decide (lo≤n∧n≤hi))):=by
 refine bG kr Tryz.func128 U U fun D Q hQ hN=>?_
 try dsimp only
 refine WS fun _ B=>bp 1 U<|RK B<|WS fun _ A=>rP 4 [] I ?_
 refine bS (t:=10) U (aN fun C=>?_) (aO fun C=>?_)
 ·refine rP 5 [] I ?_
  refine RK A<|ak<|Q1 hQ U U U ?_
  exact cB (gT.2 om)
 refine rP 5 [] I ?_
 refine RK A<|ak<|Q1 hQ U U U ?_
 exact cB (br om).symm
theorem F7 (r:cQ) (sgA:OA) (sgC:Nat):
 dG Tryz.prog 160 [(vA (de.cells (g8 r sgA sgC)))] [(rd sgA r.aa.length 2 (r.aa.map aH.cells))] (vB (decide (nx r))):=by
 refine bG kr Tryz.func160 U U fun F Q hQ hN=>?_
 try dsimp only
 refine WS fun _ B=>dV U fun E=>bp 1 U<|RK B<|WS fun _ A=>rP 4 [] (mc 0 U I) ?_
 refine cx (t:=6) U (aO fun C=>?_) (aN fun C=>?_)
 ·refine rP 11 [] I ?_
  refine RK A<|ak<|Q1 hQ U U U ?_
  simp only [nx]
  exact cB (br om).symm
 refine rP 5 [] (mc 0 U I) ?_
 refine cx (t:=11) U (aO fun D=>?_) (aN fun D=>?_)
 ·refine rP 6 [] I ?_
  refine RK A<|ak<|Q1 hQ U U U ?_
  simp only [nx]
  exact cB (br om).symm
 refine rP 6 [] (mc 0 U I) ?_
 refine RK A<|ak<|Q1 hQ U U U ?_
 simp only [nx]
 exact cB (gT.2 om)
theorem Nj (s:ai):
 dG Tryz.prog 161 [(vA (ai.cells s))] [] (vB (decide (nm s))):=by
 refine bG kr Tryz.func161 U U fun F Q hQ hN=>?_
 try dsimp only
 refine WS fun _ B=>dV U fun E=>bp 1 U<|RK B<|WS fun _ A=>rP 4 [] (mc 0 U I) ?_
 refine cx (t:=6) U (aO fun C=>?_) (aN fun C=>?_)
 ·refine rP 12 [] I ?_
  refine RK A<|ak<|Q1 hQ U U U ?_
  simp only [nm]
  exact cB (br om).symm
 refine rP 7 [] (mc 0 U I) ?_
 refine cx (t:=13) U (aO fun D=>?_) (aN fun D=>?_)
 ·refine rP 5 [] I ?_
  refine RK A<|ak<|Q1 hQ U U U ?_
  simp only [nm]
  exact cB (br om).symm
 refine rP 5 [] (mc 0 U I) ?_
 refine RK A<|ak<|Q1 hQ U U U ?_
 simp only [nm]
 exact cB (gT.2 om)
theorem rr (la:List Int) (laA:OA) (laC:Nat) (lb:List Int) (lbA:OA) (lbC:Nat) (h1:la.length≤1000000) (h2:lb.length≤1000000):
 dG Tryz.prog 47 [(vS laA la.length laC),(vS lbA lb.length lbC)] [(rd laA la.length 1 (la.map iC)),(rd lbA lb.length 1 (lb.map iC))] (vB (decide (la=lb))):=by
 refine bG kr Tryz.func47 U U fun V Q hQ hN=>?_
 try dsimp only
 refine WS fun _ J=>bp 1 U<|RK J<|ag fun _ K=>WS fun _ L=>rP 5 [] I ?_
 refine RK L<|cb U (aX fun hl=>?_) (aW fun hl=>?_)
 ·refine WS fun _ M=>rP 1 [] I ?_
  refine RK M<|ak<|Q1 hQ U U U ?_
  exact cB (br (fun e=>by subst e; omega)).symm
 refine WK K<|ag fun _ N=>WS fun _ O=>rP 1 [] I ?_
 refine RK O<|ax ?_
 have A:(0≤la.length)∧(la.take 0=lb.take 0):=by simp
 refine bP (ι:={z:Nat // (z≤la.length)∧(la.take z=lb.take z)}) [0,1] [0,1] U U (fun z=>[(5,(vI (z.1:Int)))]) (fun z=>[]) (fun _=>rfl) (fun _=>rfl) (fun z=>la.length-z.1) ⟨0,A⟩ (bf U) (aK [0,1]) ?_
 clear A
 rintro ⟨i,⟨S,B⟩⟩ J7 AB
 try dsimp only
 refine ag fun _ P=>WS fun _ R=>rP 4 [] I ?_
 refine RK R<|bO U (aO fun H=>?_) (aN fun H=>?_)
 ·refine bM<|ab<|ab<|aF<|KK N<|WS fun _ F=>rP 1 [] I ?_
  refine RK F<|ak<|Q1 hQ U U U ?_
  exact cB (dC (jD om B om)).symm
 refine WK P<|ag fun _ C=>ax<|ag fun _ D=>cS cj 9 kr<|dP 2 [] I ?_
 obtain ⟨x,hx⟩:=aA la i om
 have T:=bH iC hx
 refine dS (IA i U (av 0 U) dI dc om om)<|dS (gv i 0 (vI x) U bV (av 0 U) T U dc U)<|dP 2 [] I ?_
 obtain ⟨y,hy⟩:=aA lb i om
 have AA:=bH iC hy
 refine dS (IA i U (av 1 U) dI dc om om)<|dS (gv i 0 (vI y) U bV (av 1 U) AA U dc U)<|dP 1 [] I ?_
 refine cu<|RK D<|cb U (aX fun h=>?_) (aW fun h=>?_)
 ·refine WS fun _ E=>rP 1 [] I ?_
  refine RK E<|ak<|Q1 hQ U U U ?_
  exact cB (br (nX hx hy h)).symm
 refine cg<|aJ<|KK C<|ao<|rP 3 [] I ?_
 refine aC ?_
 have G:(vI (((i+1):Nat):Int))=(vI ((i:Int)+1)):=by exact cI om
 refine a_ (AB ⟨(i+1),⟨om,iz B hx hy h⟩⟩ _ _ _ U os (cR.cons U<|cR.cons U<|aU U G<|cR.nil _) (aK [0,1]))
end
section
open Go.RowKit
theorem DM (d:aq) (sgA:OA) (sgC:Nat) (e:aq) (shA:OA) (shC:Nat) (h1:d.aV.aa.length≤1000000) (h2:e.aV.aa.length≤1000000):
 dG Tryz.prog 27 [(vA (aR.cells (aR.mk d.Out d.cD d.Time (g8 d.aV sgA sgC)))),(vA (aR.cells (aR.mk e.Out e.cD e.Time (de.mk e.aV.Start e.aV.gL (bj.mk shA e.aV.aa.length shC)))))] [(rd sgA d.aV.aa.length 2 (d.aV.aa.map aH.cells)),(rd shA e.aV.aa.length 2 (e.aV.aa.map aH.cells))] (vB (decide (d=e))):=by
 refine bG kr Tryz.func27 U U fun J Q hQ hN=>?_
 try dsimp only
 refine WS fun _ B=>dV U fun H=>dV U fun AA=>bp 1 U<|RK B<|WS fun _ A=>dY 4 [0,1] (mc 1 U (mc 0 U I)) U<|rS (BI U (KS TO))<|rP 1 [] I ?_
 refine cx (t:=10) U (fun C=>?_) (fun C=>?_)
 ·replace C: ¬ d.Out=e.Out:=by simpa using C
  refine rP 41 [] I ?_
  refine RK A<|ak<|Q1 hQ U U U ?_
  clear hQ hN A B
  refine cB ?_
  simp [pK, *]
 replace C:d.Out=e.Out:=by simpa using C
 refine dY 4 [0,1] (mc 1 U (mc 0 U I)) U<|rS (BI U (KS TO))<|rP 2 [] I ?_
 refine cx (t:=17) U (fun D=>?_) (fun D=>?_)
 ·replace D: ¬ d.cD=e.cD:=by simpa using D
  refine rP 34 [] I ?_
  refine RK A<|ak<|Q1 hQ U U U ?_
  clear hQ hN A B
  refine cB ?_
  simp [pK, *]
 replace D:d.cD=e.cD:=by simpa using D
 refine bp 1 U<|rS (LP (ai.cells d.Time) 1 U bV U U U)<|bp 1 U<|rS (LP (ai.cells e.Time) 0 U bV U U U)<|rS (BI U (wF _ _ d.Time e.Time))<|rP 2 [] I ?_
 refine cx (t:=24) U (aO fun E=>?_) (aN fun E=>?_)
 ·refine rP 27 [] I ?_
  refine RK A<|ak<|Q1 hQ U U U ?_
  clear hQ hN A B
  refine cB ?_
  simp [pK, *]
 refine rP 9 [0,1] (mc 1 U (mc 0 U I)) ?_
 refine cx (t:=33) U (aO fun F=>?_) (aN fun F=>?_)
 ·refine rP 18 [] I ?_
  refine RK A<|ak<|Q1 hQ U U U ?_
  clear hQ hN A B
  refine cB ?_
  simp [pK, *]
 refine rP 9 [0,1] (mc 1 U (mc 0 U I)) ?_
 refine cx (t:=42) U (aO fun G=>?_) (aN fun G=>?_)
 ·refine rP 9 [] I ?_
  refine RK A<|ak<|Q1 hQ U U U ?_
  clear hQ hN A B
  refine cB ?_
  simp [pK, *]
 refine dY 6 [0,1] (mc 1 U (mc 0 U I)) U<|rS (CL (Ed d.aV.aa sgA sgC e.aV.aa shA shC h1 h2) (aY [2,3]) U)<|rP 2 [] I ?_
 refine RK A<|ak<|Q1 hQ U U U ?_
 clear hQ hN A B
 refine cB ?_
 simp [pK, *]
theorem tR (r:eU) (kA:OA) (kC:Nat) (az:List RA) (cA:OA) (cC:Nat) (bA:OA) (bC:Nat) (slA:OA) (slC:Nat) (drA:OA) (drC:Nat) (ha:List bZ) (heA:OA) (heC:Nat) (q:eU) (k2A:OA) (k2C:Nat) (az2:List RA) (c2A:OA) (c2C:Nat) (b2A:OA) (b2C:Nat) (sl2A:OA) (sl2C:Nat) (dr2A:OA) (dr2C:Nat) (ha2:List bZ) (he2A:OA) (he2C:Nat) (hin:iL r az ha) (hin2:iL q az2 ha2) (hsm: ¬ jX r) (hsm2: ¬ jX q):
 dG Tryz.prog 20 [(vA (ct.cells (wq r kA kC cA cC bA bC slA slC drA drC heA heC))),(vA (ct.cells (ct.mk (bW.mk (bJ.mk (bj.mk k2A q.au.bL.length k2C)) q.au.gl (bj.mk c2A q.au.aG.length c2C) (bj.mk b2A q.au.aj.length b2C) q.au.bU q.au.ew q.au.cU) (bj.mk sl2A q.bu.length sl2C) (bj.mk dr2A q.cN.length dr2C) q.jd (bj.mk he2A q.aI.length he2C))))] ((I8 r kA az cA bA slA drA ha heA)++[(rd k2A q.au.bL.length 9 (q.au.bL.map aD.cells)),(rd c2A q.au.aG.length 2 (List.zipWith aT.cells q.au.aG az2)),(iH (bK aT.jU q.au.aG az2)),(rd b2A q.au.aj.length 4 (q.au.aj.map cO.cells)),(rd sl2A q.bu.length 1 (q.bu.map iC)),(rd dr2A q.cN.length 1 (q.cN.map iC)),(rd he2A q.aI.length 1 (List.zipWith cL q.aI ha2)),(iH (bK lM q.aI ha2))]) (vB (decide (r=q))):=by
 have V:=hin.line
 have C3:=hin.fE
 have Di:=hin.has
 have C1:=hin.fM
 have Ci:=hin.draw
 have C2:=jo (r:=r)
 have hline2:=hin2.line
 have Cp:=hin2.fE
 have C0:=hin2.has
 have CB:=hin2.fM
 have A9:=hin2.draw
 have AO:=uz hsm
 have AU:=uz hsm2
 refine bG kr Tryz.func20 U U fun w0 Q hQ hN=>?_
 try dsimp only
 refine WS fun _ A2=>dV U fun b2=>dV U fun b3=>bp 1 U<|RK A2<|ag fun _ A3=>WS fun _ AB=>bp 1 U<|rS (LP (bW.cells (jx r.au kA kC cA cC bA bC)) 1 U bV U U U)<|bp 1 U<|rS (LP (bW.cells (bW.mk (bJ.mk (bj.mk k2A q.au.bL.length k2C)) q.au.gl (bj.mk c2A q.au.aG.length c2C) (bj.mk b2A q.au.aj.length b2C) q.au.bU q.au.ew q.au.cU)) 0 U bV U U U)<|rS (CL (LQ r.au kA kC az cA cC bA bC q.au k2A k2C az2 c2A c2C b2A b2C (by exact V) (by exact hline2) (by exact AO.1) (by exact AU.1)) (aY [2,3,4,5,10,11,12,13]) U)<|rP 2 [] I ?_
 refine bS (t:=13) U (aX fun P=>?_) (aW fun P=>?_)
 ·refine bp 31 U<|RK AB<|aL U<|WS fun _ A4=>rP 1 [] I ?_
  refine RK A4<|ak<|Q1 hQ U U U ?_
  exact cB (br (fun e=>by cases e; exact P rfl)).symm
 refine dY 4 [0,1] (mc 1 U (mc 0 U I)) U<|rS (CL (rr r.bu slA slC q.bu sl2A sl2C asm asm) (aY [6,14]) U)<|rP 3 [] I ?_
 refine bS (t:=21) U (aX fun R=>?_) (aW fun R=>?_)
 ·refine bp 23 U<|RK AB<|aL U<|WS fun _ A5=>rP 1 [] I ?_
  refine RK A5<|ak<|Q1 hQ U U U ?_
  exact cB (br (fun e=>by cases e; exact R rfl)).symm
 refine dY 4 [0,1] (mc 1 U (mc 0 U I)) U<|rS (CL (rr r.cN drA drC q.cN dr2A dr2C om om) (aY [7,15]) U)<|rP 3 [] I ?_
 refine bS (t:=29) U (aX fun S=>?_) (aW fun S=>?_)
 ·refine bp 15 U<|RK AB<|aL U<|WS fun _ A6=>rP 1 [] I ?_
  refine RK A6<|ak<|Q1 hQ U U U ?_
  exact cB (br (fun e=>by cases e; exact S rfl)).symm
 refine rP 7 [0,1] (mc 1 U (mc 0 U I)) ?_
 refine bS (t:=36) U (aX fun T=>?_) (aW fun T=>?_)
 ·refine bp 8 U<|RK AB<|aL U<|WS fun _ A7=>rP 1 [] I ?_
  refine RK A7<|ak<|Q1 hQ U U U ?_
  exact cB (br (fun e=>by cases e; exact T rfl)).symm
 refine rP 8 [0,1] (mc 1 U (mc 0 U I)) ?_
 refine RK AB<|cb U (aX fun W=>?_) (aW fun W=>?_)
 ·refine WS fun _ Z=>rP 1 [] I ?_
  refine RK Z<|ak<|Q1 hQ U U U ?_
  exact cB (br (fun e=>by cases e; exact W rfl)).symm
 refine WK A3<|ag fun _ a=>WS fun _ b=>rP 1 [] I ?_
 refine RK b<|ax ?_
 have B:(0≤r.aI.length)∧(r.aI.take 0=q.aI.take 0):=by exact ⟨Nat.zero_le _,rfl⟩
 refine bP (ι:={z:Nat // (z≤r.aI.length)∧(r.aI.take z=q.aI.take z)}) [2,3] [0,1,2,3,4,5,6,7,8,9,10,11,12,13,14,15,16,17] U U (fun z=>[(5,(vI (z.1:Int)))]) (fun z=>[]) (fun _=>rfl) (fun _=>rfl) (fun z=>r.aI.length-z.1) ⟨0,B⟩ (bf U) (aK [0,1,2,3,4,5,6,7,8,9,10,11,12,13,14,15,16,17]) ?_
 clear B
 rintro ⟨h,⟨B3,K⟩⟩ J13 X
 try dsimp only
 refine ag fun _ c=>WS fun _ f=>rP 5 [] (mc 1 U I) ?_
 refine RK f<|bO U (aO fun Ax=>?_) (aN fun Ax=>?_)
 ·refine bM<|ab<|ab<|aF<|KK a<|WS fun _ v=>rP 1 [] I ?_
  refine RK v<|ak<|Q1 hQ U U U ?_
  exact cB (dC (G9 P R S T (jD om K om))).symm
 refine WK c<|ag fun _ g=>ax<|ag fun _ j=>ag fun _ k=>cS cj 13 kr<|dP 3 [] (mc 1 U I) ?_
 obtain ⟨ht,E⟩:=aA r.aI h om
 obtain ⟨A,F⟩:=aA ha h om
 have J:(List.zipWith cL r.aI ha)[h]? =some (cL ht A):=cG E F
 refine dS (IA h U (av 8 U) kF dc om om)<|dS (gv h 0 (vS A.1.1 ht.length A.1.2) U bV (av 8 U) J U dc U)<|dP 4 [] (mc 0 U I) ?_
 obtain ⟨hu,D⟩:=aA q.aI h om
 obtain ⟨C,G⟩:=aA ha2 h om
 have O:(List.zipWith cL q.aI ha2)[h]? =some (cL hu C):=cG D G
 refine dS (IA h U (av 16 U) kF dc om om)<|dS (gv h 0 (vS C.1.1 hu.length C.1.2) U bV (av 16 U) O U dc U)<|dP 1 [] I ?_
 have Ag:=hin.fJ _ _ _ E F
 have Ck:=Ag.lS
 have N:=hin2.fJ _ _ _ D G
 have Ba:=N.lS
 have Cx:=AO.2.2.2.2 ht (aP E)
 refine dP 1 [] I ?_
 refine cu<|RK k<|cb U (aX fun A1=>?_) (aW fun A1=>?_)
 ·refine WS fun _ l=>rP 1 [] I ?_
  refine RK l<|ak<|Q1 hQ U U U ?_
  exact cB (br (fun z=>by cases z; rw [E] at D; cases D; omega)).symm
 refine WK j<|WS fun _ m=>rP 1 [] I ?_
 refine RK m<|ax ?_
 have B:(0≤ht.length)∧(ht.take 0=hu.take 0):=by exact ⟨Nat.zero_le _,rfl⟩
 refine bP (ι:={z:Nat // (z≤ht.length)∧(ht.take z=hu.take z)}) [2,3,5] [0,1,2,3,4,5,6,7,8,9,10,11,12,13,14,15,16,17] U U (fun z=>[(6,(vI (z.1:Int)))]) (fun z=>[]) (fun _=>rfl) (fun _=>rfl) (fun z=>ht.length-z.1) ⟨0,B⟩ (bf U) (aK [0,1,2,3,4,5,6,7,8,9,10,11,12,13,14,15,16,17]) ?_
 clear B
 rintro ⟨i,⟨B9,L⟩⟩ J22 Y
 try dsimp only
 refine ag fun _ n=>WS fun _ o=>dY 4 [] (mc 1 U I) U<|rS (IA h U (av 8 U) kF dc om om)<|rS (gv h 0 (vS A.1.1 ht.length A.1.2) U bV (av 8 U) J U dc U)<|rP 2 [] I ?_
 refine RK o<|bO U (aO fun A0=>?_) (aN fun A0=>?_)
 ·refine bM<|ab<|ab<|aF<|aJ<|KK g<|ao<|rP 3 [] I ?_
  refine aC ?_
  have x:(vI (((h+1):Nat):Int))=(vI ((h:Int)+1)):=by exact cI om
  refine a_ (X ⟨(h+1),⟨om,iz K E D (jD om L om)⟩⟩ _ _ _ U os (cR.cons U<|cR.cons U<|aU U x<|cR.nil _) (aK [0,1,2,3,4,5,6,7,8,9,10,11,12,13,14,15,16,17]))
 refine WK n<|ag fun _ p=>ax<|ag fun _ s=>cS cj 18 kr<|kf 3 [] (mc 1 U I) U<|dS (IA h U (av 8 U) kF dc om om)<|dS (gv h 0 (vS A.1.1 ht.length A.1.2) U bV (av 8 U) J U dc U)<|dP 1 [] I ?_
 obtain ⟨d,hd⟩:=aA ht i om
 obtain ⟨da,y⟩:=aA A.2 i om
 have A8:(List.zipWith aq.cells ht A.2)[i]? =some (aq.cells d da):=cG hd y
 refine dS (IA i U (show g9 _ (rd A.1.1 ht.length 7 (List.zipWith aq.cells ht A.2)).holds from (cd 9 U (bB E F cr))) ov dc om om)<|dS (jL i 0 (aR.cells (aR.mk d.Out d.cD d.Time (de.mk d.aV.Start d.aV.gL (bj.mk da.1 d.aV.aa.length da.2)))) U bV (show g9 _ (rd A.1.1 ht.length 7 (List.zipWith aq.cells ht A.2)).holds from (cd 9 U (bB E F cr))) A8 U dc U U)<|kf 3 [] (mc 0 U I) U<|dS (IA h U (av 16 U) kF dc om om)<|dS (gv h 0 (vS C.1.1 hu.length C.1.2) U bV (av 16 U) O U dc U)<|dP 1 [] I ?_
 obtain ⟨e,H⟩:=aA hu i om
 obtain ⟨ea,M⟩:=aA C.2 i om
 have AC:(List.zipWith aq.cells hu C.2)[i]? =some (aq.cells e ea):=cG H M
 refine dS (IA i U (show g9 _ (rd C.1.1 hu.length 7 (List.zipWith aq.cells hu C.2)).holds from (cd 17 U (bB D G cr))) ov dc om om)<|dS (jL i 0 (aR.cells (aR.mk e.Out e.cD e.Time (de.mk e.aV.Start e.aV.gL (bj.mk ea.1 e.aV.aa.length ea.2)))) U bV (show g9 _ (rd C.1.1 hu.length 7 (List.zipWith aq.cells hu C.2)).holds from (cd 17 U (bB D G cr))) AC U dc U U)<|dS (CL (DM d da.1 da.2 e ea.1 ea.2 (by exact Ag.sig d (aP hd)) (by exact N.sig e (aP H))) (aw (show g9 _ (rd da.1 d.aV.aa.length 2 (d.aV.aa.map aH.cells)).holds from (cd 9 U (bB E F (dH _ (bB hd y (by simp [aq.jU]))))))<|aw (show g9 _ (rd ea.1 e.aV.aa.length 2 (e.aV.aa.map aH.cells)).holds from (cd 17 U (bB D G (dH _ (bB H M (by simp [aq.jU]))))))<|aS) U)<|dP 1 [] I ?_
 refine cu<|RK s<|bO U (aW fun AA=>?_) (aX fun AA=>?_)
 ·refine cg<|aJ<|KK p<|ao<|rP 3 [] I ?_
  refine aC ?_
  have w:(vI (((i+1):Nat):Int))=(vI ((i:Int)+1)):=by exact cI om
  refine a_ (Y ⟨(i+1),⟨om,iz L hd H AA⟩⟩ _ _ _ U os (cz 3<|aU U w<|cR.nil _) (aK [0,1,2,3,4,5,6,7,8,9,10,11,12,13,14,15,16,17]))
 refine WS fun _ u=>rP 1 [] I ?_
 refine RK u<|ak<|Q1 hQ U U U ?_
 exact cB (br (fun z=>by cases z; rw [E] at D; cases D; (rw [hd] at H; cases H; exact AA rfl))).symm
end
section
open Go.RowKit
theorem Jx (n lo hi:Int) (g1 g2:Nat):
 dG Tryz.prog 77 [(vI n),(vP g1),(vP g2)] [(cy g1 3 [(vI lo)]),(cy g2 3 [(vI hi)])] (vB (decide (n<lo∨hi<n))):=by
 refine bG kr Tryz.func77 U U fun D Q hQ hN=>?_
 try dsimp only
 refine WS fun _ B=>bp 1 U<|RK B<|WS fun _ A=>rP 4 [] (mr 0 U I) ?_
 refine bS (t:=8) U (aN fun C=>?_) (aO fun C=>?_)
 ·refine rP 5 [] I ?_
  refine RK A<|ak<|Q1 hQ U U U ?_
  exact cB (dC om).symm
 refine rP 5 [] (mr 1 U I) ?_
 refine RK A<|ak<|Q1 hQ U U U ?_
 exact cB (gT.2 om)
theorem jy (lo hi:Int) (l:List Int) (lA:OA) (lC:Nat) (hlen:l.length≤1000000):
 dG Tryz.prog 48 [(vI lo),(vI hi),(vS lA l.length lC)] [(rd lA l.length 1 (l.map iC))] (vB (qH lo hi l)):=by
 refine bG kr Tryz.func48 U U fun F Q hQ hN=>?_
 try dsimp only
 refine WS fun _ D=>wV U U fun A=>wV U U fun B=>bp 1 U<|RK D<|WS fun _ E=>rP 1 [] I ?_
 refine rS (FU U) ?_
 refine rS (CL (qd l lA lC (Value.func (.func 77) [].toArray [(vP A),(vP B)].toArray) (fun C=>(decide (C<lo∨hi<C))) (iH [(cy A 3 [(vI lo)]),(cy B 3 [(vI hi)])]) (by intro C _; exact lp (fi:=[]) (ca:=[(vP A),(vP B)]) (j8 (Jx C lo hi A B) (aY [0,1]))) hlen) (eG 2 U U<|aw (j7 (aY [1,0]))<|aS) U) ?_
 refine rP 2 [] I ?_
 refine RK E<|ak ?_
 exact Q1 hQ U U U U
theorem ux (o fx:Bool) (tm:ai) (rv:de):
 dG Tryz.prog 69 [(vA (aR.cells (aR.mk o fx tm rv)))] [] (vB (decide (o=false∧fx=false))):=by
 refine bG kr Tryz.func69 U U fun E Q hQ hN=>?_
 try dsimp only
 refine WS fun _ B=>dV U fun D=>bp 1 U<|RK B<|WS fun _ A=>rP 4 [] (mc 0 U I) ?_
 refine cx (t:=6) U (fun C=>?_) (fun C=>?_)
 ·rw [Bool.not_eq_false'] at C
  refine rP 5 [] I ?_
  refine RK A<|ak<|Q1 hQ U U U ?_
  clear hQ hN A B
  refine cB ?_
  (simp_all; done)
 rw [Bool.not_eq_true'] at C
 refine rP 5 [] (mc 0 U I) ?_
 refine RK A<|ak<|Q1 hQ U U U ?_
 clear hQ hN A B
 refine cB ?_
 (simp_all; done)
theorem ND (l:List bg) (lA:OA) (lC:Nat) (f:Value) (p:Int→bg→Bool) (X:ay) (hf: ∀ x0 x1,(∃ i_:Nat,x0=(i_:Int)∧l[i_]? =some x1)→Dy Tryz.prog f [.int .i64 x0,.agg (bg.cells x1).toArray] [X] (.bool (p x0 x1))) (hlen:l.length≤1000000):
 lR Tryz.prog 67 [(vS lA l.length lC),f] [(rd lA l.length 4 (l.map bg.cells)),X] (fun (x:(OA)×Nat)=>(vS x.1 ((kT (iK l p) l.length).length) x.2)) (fun (x:(OA)×Nat)=>True) (fun (x:(OA)×Nat)=>[(own x.1 x.2 3 1 ((kT (iK l p) l.length).map iC))]):=by
 refine dL kr Tryz.func67 U U fun Z Q hQ hN=>?_
 try dsimp only
 refine WS fun _ M=>bp 1 U<|RK M<|WS fun _ N=>bp 1 U<|RK N<|ag fun _ O=>WS fun _ R=>rP 3 [] I ?_
 refine RK R<|ax<|fu 3 1 ?_
 have A:(0≤l.length):=by exact Nat.zero_le _
 refine bP (ι:={z:Nat×(OA)×Nat // (z.1≤l.length)}) [1,8,9] [1,2] U U (fun z=>[(5,(vS z.1.2.1 ((kT (iK l p) z.1.1).length) z.1.2.2)),(10,(vI (z.1.1:Int)))]) (fun z=>[(own z.1.2.1 z.1.2.2 3 1 ((kT (iK l p) z.1.1).map iC))]) (fun _=>rfl) (fun _=>rfl) (fun z=>l.length-z.1.1) ⟨(0,none,0),A⟩ (bf U) (aK [1,2,0]) ?_
 clear A
 rintro ⟨⟨i,a,c⟩,C⟩ J5 D
 try dsimp only at C
 try dsimp only
 refine WS fun _ S=>rP 1 [] I ?_
 refine RK S<|ag fun _ T=>bO U (aO fun Y=>?_) (aN fun Y=>?_)
 ·refine bM<|ab<|ab<|aF<|KK O<|WS fun _ G=>?_
  rw [show (kT (iK l p) i)=(kT (iK l p) l.length) from by rw [show i=l.length by omega]]
  refine rP 2 [] I ?_
  refine RK G<|ak<|LX hQ (a,c) [2] [] I U U U U ?_
  trivial
 refine WK T<|ag fun _ H=>ax<|WS fun _ E=>rP 1 [] I ?_
 obtain ⟨x,hx⟩:=aA l i om
 have AA:=bH bg.cells hx
 refine rS (IA i U (av 0 U) xZ dc om om)<|rS (jL i 0 (bg.cells x) U bV (av 0 U) AA U dc U U)<|AL U S8 fun V=>bp 1 U<|e7 U Ru U<|RK E<|WS fun _ F=>rP 3 [] (mc 0 U I) ?_
 refine rS (SX (pX U U U (hf (i:Int) x ⟨_,U,hx⟩) (aY [2])) U U)<|RK F<|bO U (fun B=>?_) (fun B=>?_)
 ·refine cg<|aJ<|KK H<|ao<|rP 2 [] I ?_
  refine aC ?_
  rw [show kT (iK l p) i=kT (iK l p) (i+1) from (zK (by rw [sj hx]; simpa using B)).symm]
  have J:(vI (((i+1):Nat):Int))=(vI ((i:Int)+1)):=by exact cI om
  refine a_ (D ⟨((i+1),a,c),(by first|omega|(simp only []; omega))⟩ _ _ _ U os (cz 4<|aU U J<|cR.nil _) (aK [1,2,3]))
 refine ao<|rP 2 [] I ?_
 refine e9 (xs:=[.tmp 20]) (cs:=[(vI (i:Int))]) U dI kR U U U U (by simp [Value.cells]) U U fun W=>?_
 refine cP (es2:=(List.map iC (kT (iK l p) (i+1)))) (m':=(kT (iK l p) (i+1)).length) 4 U U U pg U U sm (bo (es:=List.map iC [(i:Int)]) 0 U U (by simp [bX]) U) (jN _) (by have:=nj (P:=iK l p) (n:=i); omega) (by have:=nj (P:=iK l p) (n:=i); simp only [maxLen]; omega) (by rw [vO (by rw [sj hx]; exact B)]; simp) sm U fun K L=>?_
 try dsimp only
 refine bp 1 U<|aC<|aJ<|KK H<|ao<|rP 2 [] I ?_
 refine aC ?_
 have AB:(vI (((i+1):Nat):Int))=(vI ((i:Int)+1)):=by exact cI om
 refine a_ (D ⟨((i+1),K,L),(by first|omega|(simp only []; omega))⟩ _ _ _ U os (cz 4<|aU U AB<|cR.nil _) (aK [2,3,4]))
theorem AS (l:List bR) (lA:OA) (lC:Nat) (f:Value) (p:Int→bR→Bool) (X:ay) (hf: ∀ x0 x1,(∃ i_:Nat,x0=(i_:Int)∧l[i_]? =some x1)→Dy Tryz.prog f [.int .i64 x0,.agg (bR.cells x1).toArray] [X] (.bool (p x0 x1))) (hlen:l.length≤1000000):
 lR Tryz.prog 41 [(vS lA l.length lC),f] [(rd lA l.length 5 (l.map bR.cells)),X] (fun (x:(OA)×Nat)=>(vS x.1 ((kT (iK l p) l.length).length) x.2)) (fun (x:(OA)×Nat)=>True) (fun (x:(OA)×Nat)=>[(own x.1 x.2 3 1 ((kT (iK l p) l.length).map iC))]):=by
 refine dL kr Tryz.func41 U U fun Z Q hQ hN=>?_
 try dsimp only
 refine WS fun _ M=>bp 1 U<|RK M<|WS fun _ N=>bp 1 U<|RK N<|ag fun _ O=>WS fun _ R=>rP 3 [] I ?_
 refine RK R<|ax<|fu 3 1 ?_
 have A:(0≤l.length):=by exact Nat.zero_le _
 refine bP (ι:={z:Nat×(OA)×Nat // (z.1≤l.length)}) [1,8,9] [1,2] U U (fun z=>[(5,(vS z.1.2.1 ((kT (iK l p) z.1.1).length) z.1.2.2)),(10,(vI (z.1.1:Int)))]) (fun z=>[(own z.1.2.1 z.1.2.2 3 1 ((kT (iK l p) z.1.1).map iC))]) (fun _=>rfl) (fun _=>rfl) (fun z=>l.length-z.1.1) ⟨(0,none,0),A⟩ (bf U) (aK [1,2,0]) ?_
 clear A
 rintro ⟨⟨i,a,c⟩,C⟩ J5 D
 try dsimp only at C
 try dsimp only
 refine WS fun _ S=>rP 1 [] I ?_
 refine RK S<|ag fun _ T=>bO U (aO fun Y=>?_) (aN fun Y=>?_)
 ·refine bM<|ab<|ab<|aF<|KK O<|WS fun _ G=>?_
  rw [show (kT (iK l p) i)=(kT (iK l p) l.length) from by rw [show i=l.length by omega]]
  refine rP 2 [] I ?_
  refine RK G<|ak<|LX hQ (a,c) [2] [] I U U U U ?_
  trivial
 refine WK T<|ag fun _ H=>ax<|WS fun _ E=>rP 1 [] I ?_
 obtain ⟨x,hx⟩:=aA l i om
 have AA:=bH bR.cells hx
 refine rS (IA i U (av 0 U) wM dc om om)<|rS (jL i 0 (bR.cells x) U bV (av 0 U) AA U dc U U)<|AL U Br fun V=>bp 1 U<|e7 U BU U<|RK E<|WS fun _ F=>rP 3 [] (mc 0 U I) ?_
 refine rS (SX (pX U U U (hf (i:Int) x ⟨_,U,hx⟩) (aY [2])) U U)<|RK F<|bO U (fun B=>?_) (fun B=>?_)
 ·refine cg<|aJ<|KK H<|ao<|rP 2 [] I ?_
  refine aC ?_
  rw [show kT (iK l p) i=kT (iK l p) (i+1) from (zK (by rw [sj hx]; simpa using B)).symm]
  have J:(vI (((i+1):Nat):Int))=(vI ((i:Int)+1)):=by exact cI om
  refine a_ (D ⟨((i+1),a,c),(by first|omega|(simp only []; omega))⟩ _ _ _ U os (cz 4<|aU U J<|cR.nil _) (aK [1,2,3]))
 refine ao<|rP 2 [] I ?_
 refine e9 (xs:=[.tmp 20]) (cs:=[(vI (i:Int))]) U dI kR U U U U (by simp [Value.cells]) U U fun W=>?_
 refine cP (es2:=(List.map iC (kT (iK l p) (i+1)))) (m':=(kT (iK l p) (i+1)).length) 4 U U U pg U U sm (bo (es:=List.map iC [(i:Int)]) 0 U U (by simp [bX]) U) (jN _) (by have:=nj (P:=iK l p) (n:=i); omega) (by have:=nj (P:=iK l p) (n:=i); simp only [maxLen]; omega) (by rw [vO (by rw [sj hx]; exact B)]; simp) sm U fun K L=>?_
 try dsimp only
 refine bp 1 U<|aC<|aJ<|KK H<|ao<|rP 2 [] I ?_
 refine aC ?_
 have AB:(vI (((i+1):Nat):Int))=(vI ((i:Int)+1)):=by exact cI om
 refine a_ (D ⟨((i+1),K,L),(by first|omega|(simp only []; omega))⟩ _ _ _ U os (cz 4<|aU U AB<|cR.nil _) (aK [2,3,4]))
end
section
open Go.RowKit
variable {E:fH} {ops:Array Oper} {D:List Deferred} {L:List (Nat×Value)} {C:List ay}
variable {dst:Option Tmp} {ty:TypeId} {ps:String} {af:Array Edge} {g:Option (Nat×Bool)}
theorem vm {x ix:Operand} {t e len sz:Nat} {cs vs:List Value} {j:Int} {kd:IntKind} (m:Nat) (hg:ke ops L g=true) (hx:ev L x=some (.agg cs.toArray)) (hi:ev L ix=some (.int kd j)) (ht:tX E.P t=some (len,e)) (hk:tK E.P e=some (true,sz)) (hj:j=(m:Int)) (hm:m<len) (hv:(cs.drop (m*sz)).take sz=vs):
 SD E ops ⟨dst,.index t x ix,ty,ps,af,g⟩ D L C (.agg vs.toArray):=
 eM hg sm fun a w A _=>by
  have B:(0:Int)≤(m:Int)∧(m:Int)<(len:Int):=by omega
  subst hj
  simp [execOp,A.ev hx,A.ev hi,Instr.index,asIntOf,run_underlying (Lm ht),B,hm,(oW hk w).2,jh hk hv w]
end
section
open Go.RowKit
theorem Kg (i:Int) (f:bg) (j:cw) (kA:OA) (kC:Nat) (cA:OA) (cC:Nat) (bA:OA) (bC:Nat) (slA:OA) (slC:Nat) (drA:OA) (drC:Nat) (heA:OA) (heC:Nat) (faA:OA) (faC:Nat) (prA:OA) (prC g1:Nat) (hk:0≤f.Kind∧f.Kind≤255):
 dG Tryz.prog 68 [(vI i),(vA (bg.cells f)),(vP g1)] [(cy g1 36 (eY.cells (lJ j kA kC cA cC bA bC slA slC drA drC heA heC faA faC prA prC)))] (vB (decide (¬ oY j.Race.au.bU f))):=by
 refine bG kr Tryz.func68 U U fun V Q hQ hN=>?_
 try dsimp only
 refine WS fun _ N=>dV U fun AA=>bp 1 U<|RK N<|WS fun _ O=>dY 5 [] (mr 1 U I) U<|RK O<|ag fun _ D=>WS fun _ P=>rP 2 [] (mc 0 U I) ?_
 refine rS (BI U ks)<|RK P<|bO U (aO fun A=>?_) (aN fun A=>?_)
 ·refine WK D<|WS fun _ B=>rP 2 [] (mc 0 U I) ?_
  refine rS (SX (sK (m:=f.Kind) U U N8 oV (oO (by first|assumption|omega))) U U)<|e9 (xs:=[.tmp 16]) (cs:=[(vI f.Kind)]) U dI kR U U U U (by simp [Value.cells]) U U fun F=>?_
  refine rS (CL (dG.eq (jy 1 3 ([f.Kind]) (some ⟨F,0,none⟩) 1 (by (simp; done))) cK) (aw (bo 0 U U (by simp [bX]) U)<|aS) U) ?_
  refine rP 2 [] I ?_
  refine bS (t:=20) U (aX fun K=>?_) (aW fun K=>?_)
  ·refine rP 24 [] I ?_
   refine RK B<|ak<|Q1 hQ U U U ?_
   (refine cB (dC ?_).symm; (rw [uA A]; omega))
  refine rP 4 [] (mc 1 U I) ?_
  refine e9 (xs:=[.tmp 22,.tmp 24]) (cs:=[(vI f.mz),(vI f.To)]) U dI kR U U U U (by simp [Value.cells]) U U fun G=>?_
  refine rS (CL (dG.eq (jy 0 86400000 ([f.mz,f.To]) (some ⟨G,0,none⟩) 2 (by (simp; done))) pG) (aw (bo 0 U U (by simp [bX]) U)<|aS) U) ?_
  refine rP 3 [] I ?_
  refine bS (t:=29) U (aX fun L=>?_) (aW fun L=>?_)
  ·refine rP 15 [] I ?_
   refine RK B<|ak<|Q1 hQ U U U ?_
   (refine cB (dC ?_).symm; (rw [uA A]; omega))
  refine rP 7 [] (mc 2 U I) ?_
  refine bS (t:=36) U (aN fun M=>?_) (aO fun M=>?_)
  ·refine rP 8 [] I ?_
   refine RK B<|ak<|Q1 hQ U U U ?_
   (refine cB (dC ?_).symm; (rw [uA A]; omega))
  refine rP 3 [] (mc 2 U I) ?_
  refine e9 (xs:=[.tmp 39]) (cs:=[(vI f.hE)]) U dI kR U U U U (by simp [Value.cells]) U U fun H=>?_
  refine rS (CL (dG.eq (jy 0 j.Race.au.bU ([f.hE]) (some ⟨H,0,none⟩) 1 (by (simp; done))) cK) (aw (bo 0 U U (by simp [bX]) U)<|aS) U) ?_
  refine rP 3 [] I ?_
  refine RK B<|ak<|Q1 hQ U U U ?_
  (refine cB (decide_not.symm.trans (gT.2 ?_)); (rw [uA A]; omega))
 refine ao<|bp 1 U<|RK D<|WS fun _ C=>rP 2 [] (mc 0 U I) ?_
 refine rS (SX (sK (m:=f.Kind) U U N8 oV (oO (by first|assumption|omega))) U U)<|e9 (xs:=[.tmp 16]) (cs:=[(vI f.Kind)]) U dI kR U U U U (by simp [Value.cells]) U U fun R=>?_
 refine rS (CL (dG.eq (jy 1 3 ([f.Kind]) (some ⟨R,0,none⟩) 1 (by (simp; done))) cK) (aw (bo 0 U U (by simp [bX]) U)<|aS) U) ?_
 refine rP 2 [] I ?_
 refine bS (t:=20) U (aX fun T=>?_) (aW fun T=>?_)
 ·refine rP 24 [] I ?_
  refine RK C<|ak<|Q1 hQ U U U ?_
  (refine cB (dC ?_).symm; (rw [uV A]; omega))
 refine rP 4 [] (mc 1 U I) ?_
 refine e9 (xs:=[.tmp 22,.tmp 24]) (cs:=[(vI f.mz),(vI f.To)]) U dI kR U U U U (by simp [Value.cells]) U U fun S=>?_
 refine rS (CL (dG.eq (jy 0 86400000 ([f.mz,f.To]) (some ⟨S,0,none⟩) 2 (by (simp; done))) pG) (aw (bo 0 U U (by simp [bX]) U)<|aS) U) ?_
 refine rP 3 [] I ?_
 refine bS (t:=29) U (aX fun AB=>?_) (aW fun AB=>?_)
 ·refine rP 15 [] I ?_
  refine RK C<|ak<|Q1 hQ U U U ?_
  (refine cB (dC ?_).symm; (rw [uV A]; omega))
 refine rP 7 [] (mc 2 U I) ?_
 refine bS (t:=36) U (aN fun J=>?_) (aO fun J=>?_)
 ·refine rP 8 [] I ?_
  refine RK C<|ak<|Q1 hQ U U U ?_
  (refine cB (dC ?_).symm; (rw [uV A]; omega))
 refine rP 3 [] (mc 2 U I) ?_
 refine e9 (xs:=[.tmp 39]) (cs:=[(vI f.hE)]) U dI kR U U U U (by simp [Value.cells]) U U fun E=>?_
 refine rS (CL (dG.eq (jy 0 0 ([f.hE]) (some ⟨E,0,none⟩) 1 (by (simp; done))) cK) (aw (bo 0 U U (by simp [bX]) U)<|aS) U) ?_
 refine rP 3 [] I ?_
 refine RK C<|ak<|Q1 hQ U U U ?_
 (refine cB (decide_not.symm.trans (gT.2 ?_)); (rw [uV A]; omega))
theorem u0 (fk fw:Int) (ff ft:Int) (al ah:Int) (ae an:Bool) (bl bh:Int) (be bn:Bool):
 dG Tryz.prog 115 [(vA (bg.cells (bg.mk fk fw ff ft))),(vA (kJ.cells (kJ.mk (ai.mk al ah) ae an))),(vA (kJ.cells (kJ.mk (ai.mk bl bh) be bn)))] [] (vB (decide (ah≤ft∧ff≤bl))):=by
 refine bG kr Tryz.func115 U U fun G Q hQ hN=>?_
 try dsimp only
 refine WS fun _ B=>dV U fun D=>dV U fun E=>dV U fun F=>bp 1 U<|RK B<|WS fun _ A=>rP 7 [0,1] (mc 1 U (mc 2 U I)) ?_
 refine cx (t:=13) U (aO fun C=>?_) (aN fun C=>?_)
 ·refine rP 8 [] I ?_
  refine RK A<|ak<|Q1 hQ U U U ?_
  exact cB (br om).symm
 refine rP 8 [0,1] (mc 0 U (mc 2 U I)) ?_
 refine RK A<|ak<|Q1 hQ U U U ?_
 exact cB (gT.2 om)
theorem E0 (fk fw:Int) (ff ft:Int) (al ah:Int) (ae an:Bool) (bl bh:Int) (be bn:Bool):
 dG Tryz.prog 119 [(vA (bg.cells (bg.mk fk fw ff ft))),(vA (kJ.cells (kJ.mk (ai.mk al ah) ae an))),(vA (kJ.cells (kJ.mk (ai.mk bl bh) be bn)))] [] (vB (decide (ai.mk (max al ff) (min ah ft)=ai.mk al ah))):=by
 refine bG kr Tryz.func119 U U fun F Q hQ hN=>?_
 try dsimp only
 refine WS fun _ A=>dV U fun C=>dV U fun D=>dV U fun E=>bp 1 U<|RK A<|WS fun _ B=>dY 5 [0,1] (mc 1 U (mc 2 U I)) U<|rS (MX U)<|dY 5 [0,1] (mc 1 U (mc 2 U I)) U<|rS (MN U)<|rS (SX (bE (xs:=[(0,.tmp 12),(1,.tmp 18)]) (cs:=(ai.cells (ai.mk (max al ff) (min ah ft)))) U U (bD g6 U)) U U)<|bp 1 U<|rS (LP (ai.cells (ai.mk al ah)) 1 U bV U U U)<|rS (BI U (wF _ _ (ai.mk (max al ff) (min ah ft)) (ai.mk al ah)))<|rP 1 [] I ?_
 refine RK B<|ak ?_
 exact Q1 hQ U U U U
theorem Ry (j:cw) (kA:OA) (kC:Nat) (cA:OA) (cC:Nat) (bA:OA) (bC:Nat) (slA:OA) (slC:Nat) (drA:OA) (drC:Nat) (heA:OA) (heC:Nat) (faA:OA) (faC:Nat) (prA:OA) (prC:Nat) (fk fw:Int) (ff ft:Int):
 dG Tryz.prog 116 [(vA (df.cells (df.mk (lJ j kA kC cA cC bA bC slA slC drA drC heA heC faA faC prA prC)))),(vA (bg.cells (bg.mk fk fw ff ft)))] [] (vT [(vI (-1)),(vI j.Race.au.bU)]):=by
 refine bG kr Tryz.func116 U U fun E Q hQ hN=>?_
 try dsimp only
 refine WS fun _ A=>dV U fun C=>dV U fun D=>bp 2 U<|RK A<|ag fun _ B=>cS cj 7 kr<|dP 7 [] (mc 1 U I) ?_
 refine cu<|RK B<|ak<|Q2 hQ U U U U ?_
 rfl
theorem Tm (j:cw) (kA:OA) (kC:Nat) (cA:OA) (cC:Nat) (bA:OA) (bC:Nat) (slA:OA) (slC:Nat) (drA:OA) (drC:Nat) (heA:OA) (heC:Nat) (faA:OA) (faC:Nat) (prA:OA) (prC:Nat) (fk fw:Int) (ff ft:Int) (hw:0≤fw∧fw≤1000000):
 dG Tryz.prog 117 [(vA (df.cells (df.mk (lJ j kA kC cA cC bA bC slA slC drA drC heA heC faA faC prA prC)))),(vA (bg.cells (bg.mk fk fw ff ft)))] [] (vT [(vI (fw-1)),(vI fw)]):=by
 refine bG kr Tryz.func117 U U fun E Q hQ hN=>?_
 try dsimp only
 refine WS fun _ A=>dV U fun C=>dV U fun D=>rP 2 [] I ?_
 refine RK A<|ag fun _ B=>cS cj 7 kr ?_
 try dsimp only
 refine dP 7 [] (mc 0 U I) ?_
 refine cu<|RK B<|ak<|Q2 hQ U U U U ?_
 rfl
theorem SJ (j:cw) (kA:OA) (kC:Nat) (cA:OA) (cC:Nat) (bA:OA) (bC:Nat) (slA:OA) (slC:Nat) (drA:OA) (drC:Nat) (heA:OA) (heC:Nat) (faA:OA) (faC:Nat) (prA:OA) (prC:Nat) (fk fw:Int) (ff ft:Int):
 dG Tryz.prog 118 [(vA (df.cells (df.mk (lJ j kA kC cA cC bA bC slA slC drA drC heA heC faA faC prA prC)))),(vA (bg.cells (bg.mk fk fw ff ft)))] [] (vT [(vI fw),(vI fw)]):=by
 refine bG kr Tryz.func118 U U fun E Q hQ hN=>?_
 try dsimp only
 refine WS fun _ A=>dV U fun C=>dV U fun D=>bp 2 U<|RK A<|ag fun _ B=>cS cj 6 kr<|dP 6 [] (mc 0 U I) ?_
 refine cu<|RK B<|ak<|Q2 hQ U U U U ?_
 rfl
theorem yp:
 dG Tryz.prog 94 [] [] (vA ((fr.cells (fr.mk Value.nilFunc Value.nilFunc))++(fr.cells (fr.mk (Value.func (.func 116) [].toArray [].toArray) (Value.func (.func 115) [].toArray [].toArray)))++(fr.cells (fr.mk (Value.func (.func 117) [].toArray [].toArray) (Value.func (.func 115) [].toArray [].toArray)))++(fr.cells (fr.mk (Value.func (.func 118) [].toArray [].toArray) (Value.func (.func 119) [].toArray [].toArray))))):=by
 refine bG kr Tryz.func94 U U fun E Q hQ hN=>?_
 try dsimp only
 refine WS fun _ A=>AL U Sd fun D=>RK A<|WS fun _ B=>bp 1 U<|RK B<|WS fun _ C=>bp 1 U<|rS (SX (bE (xs:=[(0,.func 116),(1,.tmp 2)]) (cs:=(fr.cells (fr.mk (Value.func (.func 116) [].toArray [].toArray) (Value.func (.func 115) [].toArray [].toArray)))) U U (bD Kb U)) U U)<|rP 1 [] I ?_
 refine rS (SX (bE (xs:=[(0,.func 117),(1,.tmp 4)]) (cs:=(fr.cells (fr.mk (Value.func (.func 117) [].toArray [].toArray) (Value.func (.func 115) [].toArray [].toArray)))) U U (bD Kb U)) U U)<|rS (SX (bE (xs:=[(0,.func 118),(1,.func 119)]) (cs:=(fr.cells (fr.mk (Value.func (.func 118) [].toArray [].toArray) (Value.func (.func 119) [].toArray [].toArray)))) U U (bD Kb U)) U U)<|rS (SX (bE (xs:=[(1,.tmp 3),(2,.tmp 5),(3,.tmp 6)]) (cs:=((fr.cells (fr.mk Value.nilFunc Value.nilFunc))++(fr.cells (fr.mk (Value.func (.func 116) [].toArray [].toArray) (Value.func (.func 115) [].toArray [].toArray)))++(fr.cells (fr.mk (Value.func (.func 117) [].toArray [].toArray) (Value.func (.func 115) [].toArray [].toArray)))++(fr.cells (fr.mk (Value.func (.func 118) [].toArray [].toArray) (Value.func (.func 119) [].toArray [].toArray))))) U U (bD SN U)) U U)<|e7 U Tc U<|RK C<|ak<|Bf hQ [0] (mc 0 U I) U ?_
 rfl
theorem CD (l:List bg) (lA:OA) (lC:Nat) (f:bg) (hlen:l.length≤1000000):
 dG Tryz.prog 65 [(vS lA l.length lC),(vA (bg.cells f))] [(rd lA l.length 4 (l.map bg.cells))] (vI (o5 l f)):=by
 refine bG kr Tryz.func65 U U fun AA Q hQ hN=>?_
 try dsimp only
 refine WS fun _ J=>dV U fun T=>bp 1 U<|RK J<|ag fun _ K=>WS fun _ L=>rP 3 [] I ?_
 refine RK L<|ax ?_
 have B:(0≤l.length)∧(∀ (q:Nat) y,q<0→l[q]? =some y→y≠f):=by exact ⟨Nat.zero_le _,fun q y hq=>absurd hq (Nat.not_lt_zero _)⟩
 refine bP (ι:={z:Nat // (z≤l.length)∧(∀ (q:Nat) y,q<z→l[q]? =some y→y≠f)}) [0,3,7] [0,1] U U (fun z=>[(8,(vI (z.1:Int)))]) (fun z=>[]) (fun _=>rfl) (fun _=>rfl) (fun z=>l.length-z.1) ⟨0,B⟩ (bf U) (aK [0,1]) ?_
 clear B
 rintro ⟨i,⟨P,A⟩⟩ J5 AB
 try dsimp only
 refine WS fun _ M=>rP 1 [] I ?_
 refine RK M<|ag fun _ N=>bO U (aO fun S=>?_) (aN fun S=>?_)
 ·refine bM<|ab<|ab<|aF<|KK K<|WS fun _ G=>rP 1 [] I ?_
  refine RK G<|ak<|Q1 hQ U U U ?_
  exact cI (M0 A om).symm
 refine WK N<|ag fun _ O=>ax<|WS fun _ D=>bp 2 U<|RK D<|ag fun _ E=>cS cj 6 kr<|dP 3 [] (mc 0 U I) ?_
 obtain ⟨x,hx⟩:=aA l i om
 have R:=bH bg.cells hx
 refine dS (IA i U (av 1 U) xZ dc om om)<|dS (jL i 0 (bg.cells x) U bV (av 1 U) R U dc U U)<|dS (BI U (SP _ _ f x))<|cu<|RK E<|cb U (aN fun C=>?_) (aO fun C=>?_)
 ·refine WS fun _ F=>rP 2 [] I ?_
  refine RK F<|ak<|Q1 hQ U U U ?_
  exact cI (ME hx C.symm A).symm
 refine cg<|aJ<|KK O<|ao<|rP 2 [] I ?_
 refine aC ?_
 have H:(vI (((i+1):Nat):Int))=(vI ((i:Int)+1)):=by exact cI om
 refine a_ (AB ⟨(i+1),⟨om,fun q y hq hy=>by rcases Nat.lt_or_ge q i with c|c; exact A q y c hy; (obtain rfl:q=i:=by omega); rw [hx] at hy; cases hy; exact fun e=>C e.symm⟩⟩ _ _ _ rfl os (cz 3<|aU rfl H<|cR.nil _) (aK [0,1]))
end
section
open Go.RowKit
theorem Td (l:List Int) (lA:OA) (lC:Nat) (hne:1≤l.length) (hlen:l.length≤1000000):
 dG Tryz.prog 122 [(vS lA l.length lC)] [(rd lA l.length 1 (l.map iC))] (vI (qb l)):=by
 refine bG kr Tryz.func122 U U fun V Q hQ hN=>?_
 try dsimp only
 refine WS fun _ L=>bp 1 U<|RK L<|ag fun _ M=>WS fun _ N=>rP 3 [] I ?_
 refine RK N<|cb U (aN fun AA=>?_) (aO fun AA=>?_)
 ·exfalso; omega
 refine WK M<|WS fun _ O=>rP 1 [] I ?_
 obtain ⟨AB,B⟩:=aA l 0 om
 have hx0m:=bH iC B
 refine rS (IA 0 U (av 0 U) dI dc U om)<|rS (gv 0 0 (vI AB) U bV (av 0 U) hx0m U dc U)<|bp 1 U<|RK O<|ag fun _ P=>WS fun _ R=>rP 1 [] I ?_
 refine RK R<|ax ?_
 have A:(1≤1∧1≤l.length):=by omega
 have S:(vI (qb (l.take 1)))=(vI AB):=by rw [Ht B]
 refine bP (ι:={z:Nat // (1≤z∧z≤l.length)}) [0] [0] U U (fun z=>[(3,(vI (qb (l.take z.1)))),(4,(vI (z.1:Int)))]) (fun z=>[]) (fun _=>rfl) (fun _=>rfl) (fun z=>l.length-z.1) ⟨1,A⟩ (aU U S<|bf U) (aK [0]) ?_
 clear A
 rintro ⟨i,T⟩ J9 K
 try dsimp only
 refine ag fun _ C=>WS fun _ D=>rP 4 [] I ?_
 refine RK D<|bO U (aO fun J=>?_) (aN fun J=>?_)
 ·refine bM<|ab<|ab<|aF<|KK P<|WS fun _ F=>rP 2 [] I ?_
  refine RK F<|ak<|Q1 hQ U U U ?_
  rw [List.take_of_length_le om]
 refine WK C<|ag fun _ E=>ax<|ao<|rP 3 [] I ?_
 obtain ⟨AB,B⟩:=aA l i om
 have hx0m:=bH iC B
 refine rS (IA i U (av 0 U) dI dc om om)<|rS (gv i 0 (vI AB) U bV (av 0 U) hx0m U dc U)<|rS (MN U)<|bp 1 U<|aC<|aJ<|KK E<|ao<|rP 3 [] I ?_
 refine aC ?_
 have G:(vI (qb (l.take (i+1))))=(vI (min (qb (l.take i)) AB)):=by rw [IX B om]
 have H:(vI (((i+1):Nat):Int))=(vI ((i:Int)+1)):=by exact cI om
 refine a_ (K ⟨(i+1),(by first|omega|(simp only []; omega))⟩ _ _ _ U os (cR.cons U<|aU U G<|aU U H<|cR.nil _) (aK [0]))
end
section
open Go.RowKit
theorem pA:vH Tryz.prog 281 eJ:=Ng OJ (fun x y w=>Qz 9998 x y w) (fun x y h=>by cases x; cases y; simp [aQ.cells] at h; simp [h]) (fun x=>by simp [aQ.cells,Instr.sameBits]) (fun x w=>⟨_,rfl,fun p hp=>by
 simp only [cm,List.not_mem_nil,or_false] at hp
 rcases hp with rfl|rfl
 ·exact ⟨⟨_,cZ bV U w⟩,_,oV⟩
 ·exact ⟨⟨_,cZ bV U w⟩,_,oV⟩⟩)
theorem H6 (s:Int):
 dG Tryz.prog 190 [(vI s)] [] (vA (aQ.cells (gF s))):=by
 refine bG kr Tryz.func190 U U fun H Q hQ hN=>?_
 try dsimp only
 refine WS fun _ B=>AL U uM fun G=>RK B<|ag fun _ C=>WS fun _ D=>rP 2 [] I ?_
 refine RK D<|cb U (aN fun A=>?_) (aO fun A=>?_)
 ·refine WS fun _ E=>rS (SX (bE (xs:=[(1,.const (vI 1))]) (cs:=(aQ.cells (aQ.mk 0 1))) U U (bD BV U)) U U)<|e7 U tf U<|RK E<|ak<|Bf hQ [0] (mc 0 U I) U ?_
  unfold gF; first|rw [if_pos A]|rw [if_neg A]
 refine WK C<|WS fun _ F=>rS (SX (bE (xs:=[(0,.const (vI 1))]) (cs:=(aQ.cells (aQ.mk 1 0))) U U (bD BV U)) U U)<|e7 U tf U<|RK F<|ak<|Bf hQ [0] (mc 0 U I) U ?_
 unfold gF; first|rw [if_pos A]|rw [if_neg A]
theorem wR (x:aQ) (y:aQ) (hx:(0≤x.right∧x.right≤1000)∧0≤x.fB∧x.fB≤1000) (hy:(0≤y.right∧y.right≤1000)∧0≤y.fB∧y.fB≤1000):
 dG Tryz.prog 189 [(vA (aQ.cells x)),(vA (aQ.cells y))] [] (vA (aQ.cells (dR x y))):=by
 refine bG kr Tryz.func189 U U fun F Q hQ hN=>?_
 try dsimp only
 refine WS fun _ A=>dV U fun C=>dV U fun D=>AL U uM fun E=>RK A<|WS fun _ B=>rP 10 [0,1,0,1] (mc 2 U (mc 1 U I)) ?_
 refine rS (SX (bE (xs:=[(0,.tmp 9),(1,.tmp 14)]) (cs:=(aQ.cells (aQ.mk (x.right+y.right) (x.fB+y.fB)))) U U (bD BV U)) U U)<|e7 U tf U<|RK B<|ak ?_
 exact Bf hQ [0] (mc 0 U I) U U
theorem OQ (ln:bW) (ri:de) (e:List Int) (tms:List TM) (e_A:OA) (e_C:Nat) (tb:List Nat) (t_A:OA) (t_C:Nat) (fs:List FM) (bs:List FM) (fb:List Nat) (f_A:OA) (f_C:Nat) (bb:List Nat) (b_A:OA) (b_C gw:Nat) (x:aQ) (hx:(0≤x.right∧x.right≤1000)∧0≤x.fB∧x.fB≤1000) (hn:ri.aa.n≤1000):
 dG Tryz.prog 188 [(vP gw),(vA (aQ.cells x))] [(rd e_A e.length 1 (e.map iC)),(rd t_A tms.length 1 (List.zipWith gK tms tb)),(iH (bK p6 tms tb)),(rd f_A fs.length 1 (List.zipWith gK fs fb)),(iH (bK ny fs fb)),(rd b_A bs.length 1 (List.zipWith gK bs bb)),(iH (bK ny bs bb)),(cy gw 276 (ck.cells (ck.mk ln ri (bj.mk e_A e.length e_C) (bj.mk t_A tms.length t_C) (bj.mk f_A fs.length f_C) (bj.mk b_A bs.length b_C))))] (vB (nk (cV ln ri e tms) x)):=by
 refine bG kr Tryz.func188 U U fun E Q hQ hN=>?_
 try dsimp only
 refine WS fun _ C=>dV U fun D=>bp 1 U<|RK C<|ag fun _ B=>cS cj 26 kr<|kf 3 [] (mc 0 U I) U<|dS (SX (cv U U) U U)<|dP 5 [] (mr 8 U I) ?_
 refine jm (t:=13) U (aO fun A=>?_) (aN fun A=>?_)
 ·refine dP 17 [] I ?_
  refine cu<|RK B<|ak<|Q1 hQ U U U ?_
  exact cB (br (fun h=>A h.1)).symm
 refine kI 1 U<|dS (SX (cv U U) U U)<|kf 8 [0,1] (mr 8 U (mc 0 U I)) U<|dS (SX (cv U U) U U)<|dP 6 [] (mr 8 U I) ?_
 refine cu<|RK B<|ak<|Q1 hQ U U U ?_
 exact cB (gT.2 ⟨fun h=>⟨A,h⟩,fun h=>h.2⟩)
end
section
open Go.RowKit
theorem vU (ln:bW) (ri:de) (e:List Int) (tms:List TM) (e_A:OA) (e_C:Nat) (tb:List Nat) (t_A:OA) (t_C:Nat) (fs:List FM) (bs:List FM) (fb:List Nat) (f_A:OA) (f_C:Nat) (bb:List Nat) (b_A:OA) (b_C gw:Nat) (hw:Gu (cV ln ri e tms)) (hsg:ri.aa.n≤1000) (hn:ln.aj.n=e.length) (hfw:wm (cV ln ri e tms) fs) (hfb:fb.length=fs.length):
 lR Tryz.prog 150 [(vP gw)] [(rd e_A e.length 1 (e.map iC)),(rd t_A tms.length 1 (List.zipWith gK tms tb)),(iH (bK p6 tms tb)),(rd f_A fs.length 1 (List.zipWith gK fs fb)),(iH (bK ny fs fb)),(rd b_A bs.length 1 (List.zipWith gK bs bb)),(iH (bK ny bs bb)),(cy gw 276 (ck.cells (ck.mk ln ri (bj.mk e_A e.length e_C) (bj.mk t_A tms.length t_C) (bj.mk f_A fs.length f_C) (bj.mk b_A bs.length b_C))))] (fun (x:(OA)×Nat)=>(vS x.1 ((lY (cV ln ri e tms)).length) x.2)) (fun (x:(OA)×Nat)=>True) (fun (x:(OA)×Nat)=>[(own x.1 x.2 3 1 ((lY (cV ln ri e tms)).map iC))]):=by
 have y:e.length≤6:=hw.n
 have u:fs.length=e.length+1:=hfw.len
 refine dL kr Tryz.func150 U U fun w0 Q hQ hN=>?_
 try dsimp only
 refine WS fun _ X=>bp 1 U<|RK X<|WS fun _ Y=>bp 1 U<|RK Y<|ag fun _ Z=>WS fun _ b=>bp 1 U<|rS (SX (cv U U) U U)<|rP 6 [] (mr 7 U I) ?_
 refine RK b<|ax<|fu 3 1 ?_
 have A:(0≤e.length+1):=by exact Nat.zero_le _
 refine bP (ι:={z:Nat×(OA)×Nat // (z.1≤e.length+1)}) [0,12] [1,2,3,4,5,6,7,8] U U (fun z=>[(3,(vS z.1.2.1 ((iT (cV ln ri e tms) z.1.1).length) z.1.2.2)),(13,(vI (z.1.1:Int)))]) (fun z=>[(own z.1.2.1 z.1.2.2 3 1 ((iT (cV ln ri e tms) z.1.1).map iC))]) (fun _=>rfl) (fun _=>rfl) (fun z=>e.length+1-z.1.1) ⟨(0,none,0),A⟩ (bf U) (aK [1,2,3,4,5,6,7,8,0]) ?_
 clear A
 rintro ⟨⟨n,a,c⟩,G⟩ J5 AB
 try dsimp only at G
 try dsimp only
 refine WS fun _ d=>rP 1 [] I ?_
 refine RK d<|ag fun _ g=>bO U (aO fun s=>?_) (aN fun s=>?_)
 ·refine bM<|ab<|ab<|aF<|KK Z<|WS fun _ P=>?_
  rw [show iT (cV ln ri e tms) n=lY (cV ln ri e tms) by (obtain rfl:n=e.length+1:=by omega); rfl]
  refine rP 2 [] I ?_
  refine RK P<|ak<|LX hQ (a,c) [8] [] I U U U U ?_
  trivial
 refine WK g<|ag fun _ R=>ax<|WS fun _ J=>bp 2 U<|RK J<|WS fun _ K=>bp 1 U<|rS (SX (cv U U) U U)<|rP 3 [] (mr 7 U I) ?_
 obtain ⟨m,B⟩:=aA fs n om
 obtain ⟨ma,hm0a⟩:=aA fb n om
 have hm0m:(List.zipWith gK fs fb)[n]? =some (gK m ma):=cG B hm0a
 refine rS (IA n U (av 3 U) oU dc om om)<|rS (gv n 0 (Value.map (some ma)) U bV (av 3 U) hm0m U dc U)<|qu (kV:=eJ) (m:=cT iV m) 4 U U pP U ⟨⟨(kx eJ ma (cT iV m)),(bB B hm0a (by simp [ny])),U⟩,fun h=>h⟩ (show g9 _ (kx eJ ma (cT iV m)).holds from cd 4 U (bB B hm0a (by simp [ny]))) U fun l=>?_
 try dsimp only
 refine RK K<|ax ?_
 have A:(∀ p∈m,p∈m)∧(∀ p∈m,p∈m∨nk (cV ln ri e tms) p.1=false):=by exact ⟨fun p hp=>hp,fun p hp=> .inl hp⟩
 refine bP (ι:={z:FM // (∀ p∈z,p∈m)∧(∀ p∈m,p∈z∨nk (cV ln ri e tms) p.1=false)}) [0,3,4,12,13,23] [1,2,3,4,5,6,7,8,9] U U (fun z=>[]) (fun z=>[(Dr eJ l ma (cT iV m) (cT iV z.1) none)]) (fun _=>rfl) (fun _=>rfl) (fun z=>z.1.length) ⟨m,A⟩ (cR.nil _) (aK [1,2,3,4,5,6,7,8,9,0]) ?_
 clear A
 rintro ⟨left,⟨C,D⟩⟩ J13 H
 try dsimp only
 refine WS fun _ F=>oL pA.inj (f:=iV) 9 U U U U (fun W=>?_) (fun t v hm i=>?_)
 ·refine bp 1 U<|RK F<|ag fun _ o=>bT U<|bM<|ab<|ab<|aF<|aJ<|KK R<|ao<|rP 2 [] I ?_
  refine aC ?_
  rw [← zF (w:=(cV ln ri e tms)) (k:=n) ((Df (hfw.min _ _ B) (hfw.keys _ _ B)).symm.trans (H0 D W))]
  have S:(vI (((n+1):Nat):Int))=(vI ((n:Int)+1)):=by exact cI om
  refine a_ (AB ⟨((n+1),a,c),(by first|omega|(simp only []; omega))⟩ _ _ _ U os (cz 3<|aU U S<|cR.nil _) (aK [0,1,2,3,4,5,6,7,8]))
 try dsimp only
 refine bp 1 U<|RK F<|ag fun _ L=>aL U<|WK L<|ax<|WS fun _ M=>rS (SX (oT 9 U U U) U U)<|bp 1 U<|AL U uM fun q=>e7 U tf U<|RK M<|WS fun _ N=>rP 2 [] (mc 0 U I) ?_
 have j:=IV hw _ _ (hfw.mem B (C _ hm))
 dsimp only at j
 refine rS (CL (OQ ln ri e tms e_A e_C tb t_A t_C fs bs fb f_A f_C bb b_A b_C gw t om hsg) (aY [1,2,3,4,5,6,7,8]) U)<|RK N<|bO U (fun E=>?_) (fun E=>?_)
 ·refine cg<|aJ<|rT 10 U pB U ?_
  refine a_ (H ⟨(fz left t),⟨m7 C,J0 i hm D (by first|exact E|simpa using E)⟩⟩ _ _ _ U (mY hm) (bf U) (aK [1,2,3,4,5,6,7,8,9,10]))
 refine WS fun _ O=>rP 2 [] I ?_
 refine e9 (xs:=[.tmp 32]) (cs:=[(vI (n:Int))]) U dI kR U U U U (by simp [Value.cells]) U U fun r=>?_
 have hy:lq (cV ln ri e tms) (pW (cV ln ri e tms) n)=true:=(Df (hfw.min _ _ B) (hfw.keys _ _ B)).symm.trans (LY (C _ hm) E)
 refine cP (es2:=(List.map iC (iT (cV ln ri e tms) (n+1)))) (m':=(iT (cV ln ri e tms) (n+1)).length) 10 U U U pg U U sm (bo (es:=List.map iC [(n:Int)]) 0 U U (by simp [bX]) U) (jN _) (by have:=oa (w:=(cV ln ri e tms)) (k:=n); first|omega|(simp; omega)) (by have:=oa (w:=(cV ln ri e tms)) (k:=n); simp only [maxLen]; omega) (by rw [xD hy]; simp) sm U fun AA V=>?_
 try dsimp only
 refine bp 1 U<|RK O<|bM<|fF U<|ab<|aF<|aJ<|KK R<|ao<|rP 2 [] I ?_
 refine aC ?_
 have T:(vI (((n+1):Nat):Int))=(vI ((n:Int)+1)):=by exact cI om
 refine a_ (AB ⟨((n+1),AA,V),(by first|omega|(simp only []; omega))⟩ _ _ _ U os (cz 3<|aU U T<|cR.nil _) (aK [2,3,4,5,6,7,8,9,10]))
end
section
open Go.RowKit
theorem Jl (n lo hi:Int) (g1 g2:Nat):
 dG Tryz.prog 164 [(vI n),(vP g1),(vP g2)] [(cy g1 3 [(vI lo)]),(cy g2 3 [(vI hi)])] (vB (decide (n<lo∨hi<n))):=by
 refine bG kr Tryz.func164 U U fun D Q hQ hN=>?_
 try dsimp only
 refine WS fun _ B=>bp 1 U<|RK B<|WS fun _ A=>rP 4 [] (mr 0 U I) ?_
 refine bS (t:=8) U (aN fun C=>?_) (aO fun C=>?_)
 ·refine rP 5 [] I ?_
  refine RK A<|ak<|Q1 hQ U U U ?_
  exact cB (dC om).symm
 refine rP 5 [] (mr 1 U I) ?_
 refine RK A<|ak<|Q1 hQ U U U ?_
 exact cB (gT.2 om)
theorem iy (lo hi:Int) (l:List Int) (lA:OA) (lC:Nat) (hlen:l.length≤1000000):
 dG Tryz.prog 133 [(vI lo),(vI hi),(vS lA l.length lC)] [(rd lA l.length 1 (l.map iC))] (vB (qH lo hi l)):=by
 refine bG kr Tryz.func133 U U fun F Q hQ hN=>?_
 try dsimp only
 refine WS fun _ D=>wV U U fun A=>wV U U fun B=>bp 1 U<|RK D<|WS fun _ E=>rP 1 [] I ?_
 refine rS (FU U) ?_
 refine rS (CL (qd l lA lC (Value.func (.func 164) [].toArray [(vP A),(vP B)].toArray) (fun C=>(decide (C<lo∨hi<C))) (iH [(cy A 3 [(vI lo)]),(cy B 3 [(vI hi)])]) (by intro C _; exact lp (fi:=[]) (ca:=[(vP A),(vP B)]) (j8 (Jl C lo hi A B) (aY [0,1]))) hlen) (eG 2 U U<|aw (j7 (aY [1,0]))<|aS) U) ?_
 refine rP 2 [] I ?_
 refine RK E<|ak ?_
 exact Q1 hQ U U U U
theorem TY (n d:Int) (hd:2≤d):
 dG Tryz.prog 166 [(vI n),(vI d)] [] (vI (S5 n d)):=by
 refine bG kr Tryz.func166 U U fun C Q hQ hN=>?_
 try dsimp only
 refine WS fun _ A=>bp 1 U<|RK A<|WS fun _ B=>bp 2 U<|rS (BI U PS)<|rS (BI U J_)<|bp 1 U<|rS (BI U (O_ om (PC (QW _) hd)))<|rP 1 [] I ?_
 refine RK B<|ak ?_
 exact Q1 hQ U U U U
theorem IF (n d:Int) (hd:1≤d∧d≤1000000) (hn:0≤n∧n≤1000000000000000):
 dG Tryz.prog 166 [(vI n),(vI d)] [] (vI (o_ n d)):=by
 refine bG kr Tryz.func166 U U fun C Q hQ hN=>?_
 try dsimp only
 refine WS fun _ A=>bp 1 U<|RK A<|WS fun _ B=>bp 5 U<|rS (BI U (vh om om om))<|rP 1 [] I ?_
 refine RK B<|ak ?_
 exact Q1 hQ U U U U
theorem F3 (c:aT) (sA:OA) (sC:Nat) (at_:Int) (hc:fG c) (ha:0≤at_∧at_≤90000000):
 dG Tryz.prog 208 [(vA (dE.cells (dE.mk c.dA (bj.mk sA c.bk.length sC)))),(vI at_)] [(rd sA c.bk.length 3 (c.bk.map cE.cells))] (vA (ai.cells (iS c at_))):=by
 have X:=hc.len
 have J:=hc.sX
 refine bG kr Tryz.func208 U U fun e Q hQ hN=>?_
 try dsimp only
 refine WS fun _ M=>dV U fun b=>AL U eh fun d=>RK M<|WS fun _ N=>rS (SX (bE (xs:=[(0,.const (vI (-1099511627776))),(1,.const (vI 1099511627776))]) (cs:=(ai.cells (ai.mk (-1099511627776) 1099511627776))) U U (bD g6 U)) U U)<|AL U eh fun W=>e7 U cW U<|RK N<|ag fun _ O=>ag fun _ P=>?_
 have R:(ai.cells (ai.mk (-1099511627776) 1099511627776))=(ai.cells (g0 c at_ 0)):=by rfl
 rw [R]
 refine ao<|rP 4 [] (mc 2 U I) ?_
 refine RK P<|ax ?_
 have A:(0≤c.bk.length):=by exact Nat.zero_le _
 refine bP (ι:={z:Nat // (z≤c.bk.length)}) [1,2,4,5,11,12] [1,2,3] U U (fun z=>[(13,(vI (z.1:Int)))]) (fun z=>[(cy W 38 (ai.cells (g0 c at_ z.1)))]) (fun _=>rfl) (fun _=>rfl) (fun z=>c.bk.length-z.1) ⟨0,A⟩ (bf U) (aK [1,2,3,0]) ?_
 clear A
 rintro ⟨i,S⟩ J9 L
 try dsimp only
 refine WS fun _ B=>rP 1 [] I ?_
 refine RK B<|ag fun _ C=>bO U (aO fun K=>?_) (aN fun K=>?_)
 ·refine bM<|ab<|ab<|aF<|KK O<|WS fun _ G=>rP 1 [] (mc 3 U I) ?_
  refine e7 U cW U<|RK G<|ak<|Bf hQ [0] (mc 0 U I) U ?_
  rw [n8 (show c.bk.length≤i by omega)]
 refine WK C<|ag fun _ D=>ax<|WS fun _ E=>?_
 obtain ⟨x,hx⟩:=aA c.bk i om
 have AA:=bH cE.cells hx
 refine rS (IA i U (av 2 U) oo dc om om)<|rS (jL i 0 (cE.cells x) U bV (av 2 U) AA U dc U U)<|AL U uP fun V=>e7 U uD U<|RK E<|WS fun _ F=>rP 5 [0,1] (mc 2 U (mc 0 U I)) ?_
 have T:=hc.vw hx
 have Z:=Bn hc ha i
 have Y:=Fq J ha (show 0≤x.At∧x.At≤90000000 by omega)
 refine dY 5 [] (mc 0 U I) U<|rS (MX U)<|rS (BI U (sW ⟨om,om⟩))<|rS (CL (IF (c.dA*(max (at_-x.At) (x.At-at_))) 1000000 om om) (aS) U)<|bp 1 U<|RK F<|ao<|rP 6 [0,1] (mc 4 U (mc 0 U I)) ?_
 have a:0≤o_ (c.dA*max (at_-x.At) (x.At-at_)) 1000000∧o_ (c.dA*max (at_-x.At) (x.At-at_)) 1000000≤90001:=vM J ha T.1
 refine bp 1 U<|rS (MX U)<|rP 7 [0,1] (mc 4 U (mc 0 U I)) ?_
 refine rS (MN U)<|rS (SX (bE (xs:=[(0,.tmp 37),(1,.tmp 45)]) (cs:=(ai.cells (ai.mk (max ((g0 c at_ i).Lo) (x.d_.Lo-(o_ (c.dA*(max (at_-x.At) (x.At-at_))) 1000000))) (min ((g0 c at_ i).Hi) (x.d_.Hi+(o_ (c.dA*(max (at_-x.At) (x.At-at_))) 1000000)))))) U U (bD g6 U)) U U)<|QL U cW U<|aC<|aJ<|KK D ?_
 have H:(ai.cells (ai.mk (max ((g0 c at_ i).Lo) (x.d_.Lo-(o_ (c.dA*(max (at_-x.At) (x.At-at_))) 1000000))) (min ((g0 c at_ i).Hi) (x.d_.Hi+(o_ (c.dA*(max (at_-x.At) (x.At-at_))) 1000000)))))=(ai.cells (g0 c at_ (i+1))):=by rw [kp hx]; rfl
 rw [H]
 refine ao<|rP 2 [] I ?_
 refine aC ?_
 have AB:(vI (((i+1):Nat):Int))=(vI ((i:Int)+1)):=by exact cI om
 refine a_ (L ⟨(i+1),(by first|omega|(simp only []; omega))⟩ _ _ _ U os (cz 6<|aU U AB<|cR.nil _) (aK [1,2,3,4]))
theorem Pz (c:aT) (sA:OA) (sC:Nat) (hlen:c.bk.length≤1000000) (hcap:c.bk.length≤sC):
 dG Tryz.prog 137 [(vA (dE.cells (dE.mk c.dA (bj.mk sA c.bk.length sC))))] [(rd sA c.bk.length 3 (c.bk.map cE.cells))] (vB (decide (fG c))):=by
 refine bG kr Tryz.func137 U U fun w0 Q hQ hN=>?_
 try dsimp only
 refine WS fun _ A8=>dV U fun b2=>bp 1 U<|RK A8<|Ao U<|ag fun _ A9=>WS fun _ q=>rP 2 [] (mc 0 U I) ?_
 refine e9 (xs:=[.tmp 11]) (cs:=[(vI c.dA)]) U dI kR U U U U (by simp [Value.cells]) U U fun b5=>?_
 refine rS (CL (dG.eq (iy 0 1000 ([c.dA]) (some ⟨b5,0,none⟩) 1 (by (simp; done))) cK) (aw (bo 0 U U (by simp [bX]) U)<|aS) U) ?_
 refine rP 2 [] I ?_
 refine bS (t:=15) U (aX fun AD=>?_) (aW fun AD=>?_)
 ·refine bp 7 U<|RK q<|aL U<|WS fun _ Ba=>rP 1 [] I ?_
  refine RK Ba<|ak<|Q1 hQ U U U ?_
  exact cB (br fun h=>AD h.sX).symm
 refine rP 3 [] (mc 1 U I) ?_
 refine e9 (xs:=[.tmp 18]) (cs:=[(vI (c.bk.length:Int))]) U dI kR U U U U (by simp [Value.cells]) U U fun b7=>?_
 refine rS (CL (dG.eq (iy 1 5 ([(c.bk.length:Int)]) (some ⟨b7,0,none⟩) 1 (by (simp; done))) cK) (aw (bo 0 U U (by simp [bX]) U)<|aS) U) ?_
 refine rP 2 [] I ?_
 refine RK q<|cb U (aX fun O=>?_) (aW fun O=>?_)
 ·refine WS fun _ B3=>rP 1 [] I ?_
  refine RK B3<|ak<|Q1 hQ U U U ?_
  exact cB (br fun h=>O (by have:=h.len; omega)).symm
 refine WK A9<|WS fun _ B9=>bp 1 U<|RK B9<|WS fun _ R=>bp 1 U<|RK R<|ag fun _ S=>AA<|KK S<|ag fun _ K=>WS fun _ T=>rP 4 [] (mc 2 U I) ?_
 refine RK T<|ax ?_
 have B:(0≤c.bk.length)∧(tD c 0):=by exact ⟨Nat.zero_le _,Hd⟩
 have r:(vI (kN c 0))=(vI (-1)):=by rw [g_ rfl]
 refine bP (ι:={z:Nat // (z≤c.bk.length)∧(tD c z)}) [1,2,4,24,25] [2,3] U U (fun z=>[(3,(vI (kN c z.1))),(26,(vI (z.1:Int)))]) (fun z=>[]) (fun _=>rfl) (fun _=>rfl) (fun z=>c.bk.length-z.1) ⟨0,B⟩ (aU U r<|bf U) (aK [2,3]) ?_
 clear B
 rintro ⟨i,⟨L,C⟩⟩ J15 P
 try dsimp only
 have C2: -1≤kN c i∧kN c i≤86400000:=OZ L C
 refine WS fun _ AB=>rP 1 [] I ?_
 refine RK AB<|ag fun _ V=>bO U (aO fun A3=>?_) (aN fun A3=>?_)
 ·refine bM<|ab<|ab<|aF<|KK K<|WS fun _ f=>rP 2 [] I ?_
  refine RK f<|ak<|Q1 hQ U U U ?_
  exact cB (dC (Hn AD om (by have e:i=c.bk.length:=om; rw [← e]; exact C))).symm
 refine WK V<|ag fun _ W=>ax<|WS fun _ X=>rP 1 [] I ?_
 obtain ⟨x,hx⟩:=aA c.bk i om
 have Ck:=bH cE.cells hx
 refine rS (IA i U (av 1 U) oo dc om om)<|rS (jL i 0 (cE.cells x) U bV (av 1 U) Ck U dc U U)<|AL U uP fun Cp=>rP 1 [] I ?_
 refine e7 U uD U<|RK X ?_
 refine oR (ι:=Unit) [1,2,3,5,6,24,25,26] [0,1,2] U U (fun z=>[(4,(vB (decide (fX c i x))))]) (fun z=>[]) (fun _=>rfl) (fun _=>rfl) ?_ fun K22 G=>?_
 ·intro _
  try dsimp only
  refine ag fun _ Y=>WS fun _ Z=>dY 3 [] (mc 1 U I) U<|rS (VM i U oo om om)<|rP 2 [] I ?_
  refine RK Z<|ax ?_
  have B:(0≤i)∧((decide (fX c i x))=(decide (mP c i x 0))):=by exact ⟨Nat.zero_le _,gT.2 DS.symm⟩
  refine bP (ι:={z:Nat×Bool // (z.1≤i)∧(z.2=(decide (mP c i x z.1)))}) [1,2,3,5,6,24,25,26,59,60] [0,1,2] U U (fun z=>[(4,(vB z.1.2)),(61,(vI (z.1.1:Int)))]) (fun z=>[]) (fun _=>rfl) (fun _=>rfl) (fun z=>i-z.1.1) ⟨(0,(decide (fX c i x))),B⟩ (bf U) (aK [0,1,2]) ?_
  clear B
  rintro ⟨⟨k,b⟩,⟨M,A⟩⟩ J25 F
  try dsimp only at M A
  try dsimp only
  refine WS fun _ a=>rP 1 [] I ?_
  refine RK a<|ag fun _ d=>bO U (aO fun A5=>?_) (aN fun A5=>?_)
  ·refine bM<|ab<|ab<|aF<|KK Y<|ag fun _ m=>WS fun _ n=>rP 2 [] I ?_
   refine RK n<|cb U (fun D=>?_) (fun D=>?_)
   ·rw [Bool.not_eq_true'] at D
    refine bM<|ab<|fF U<|ab<|ab<|aF<|KK K<|WS fun _ p=>rP 2 [] I ?_
    refine RK p<|ak<|Q1 hQ U U U ?_
    exact cB (by have e:k=i:=om; rw [e] at A; rw [D] at A ⊢; exact (br (KX hx (of_decide_eq_false A.symm))).symm)
   rw [Bool.not_eq_false'] at D
   refine WK m<|ao<|dY 3 [] (mc 0 U I) U<|aC<|aJ<|KK W<|ao<|rP 2 [] I ?_
   refine aC ?_
   have AU:(vB true)=(vB b):=by exact cB D.symm
   have Ag:(vI (kN c (i+1)))=(vI x.At):=by rw [oz hx]
   have Ax:(vI (((i+1):Nat):Int))=(vI ((i:Int)+1)):=by exact cI om
   refine a_ (P ⟨(i+1),⟨om,GB C hx (by have e:k=i:=om; rw [e] at A; exact of_decide_eq_true (A.symm.trans D))⟩⟩ _ _ _ U os (cR.cons U<|cR.cons U<|aU U AU<|cR.cons U<|cR.cons U<|aU U Ag<|aU U Ax<|cR.nil _) (aK [1,2]))
  refine WK d<|ag fun _ H=>ax<|WS fun _ g=>?_
  obtain ⟨o,ho⟩:=aA c.bk k om
  have CB:=bH cE.cells ho
  refine rS (VI k U (av 2 U) oo dc om om om)<|rS (jL k 0 (cE.cells o) U bV (av 2 U) CB U dc U U)<|AL U uP fun Cx=>e7 U uD U<|RK g<|WS fun _ l=>dY 6 [0,1,2] (mc 2 U (mc 1 U (mc 0 U I))) U<|rS (BI U J_)<|rS (BI U Pu)<|rS (CL (TY (Bg (c.dA*(Bg (x.At-o.At)))) 1000000 om) (aS) U)<|bp 1 U<|RK l<|ao<|rP 2 [] I ?_
  refine cx (t:=75) U (fun J=>?_) (fun J=>?_)
  ·refine bp 6 U<|bp 16 U<|aC<|aJ<|KK H<|ao<|rP 2 [] I ?_
   refine aC ?_
   have AO:(vI (((k+1):Nat):Int))=(vI ((k:Int)+1)):=by exact cI om
   refine a_ (F ⟨((k+1),false),⟨om,by exact (br fun h=>by have h2:=((ti ho).1 h).1; rw [A] at J; exact absurd (dC h2) (by rw [J]; decide)).symm⟩⟩ _ _ _ U os (cz 11<|aU U AO<|cR.nil _) (aK [1,2,3]))
  refine rP 6 [0,1] (mc 1 U (mc 0 U I)) ?_
  have A0:mP c i x k:=of_decide_eq_true (A.symm.trans J)
  obtain ⟨Ci,C3,Di⟩:=vE (fun j y hj hy=>(C j y hj hy).1) hx A0.1 om ho
  have N:=NP AD Ci
  refine rP 5 [] I ?_
  refine cx (t:=86) U (aO fun E=>?_) (aN fun E=>?_)
  ·refine bp 11 U<|aC<|aJ<|KK H<|ao<|rP 2 [] I ?_
   refine aC ?_
   have AC:(vI (((k+1):Nat):Int))=(vI ((k:Int)+1)):=by exact cI om
   refine a_ (F ⟨((k+1),false),⟨om,by exact (br fun h=>by have h2:=((ti ho).1 h).2; rw [N] at E; exact E h2.1).symm⟩⟩ _ _ _ U os (cz 11<|aU U AC<|cR.nil _) (aK [1,2,3]))
  refine dY 11 [0,1] (mc 0 U (mc 1 U I)) U<|aC<|aJ<|KK H<|ao<|rP 2 [] I ?_
  refine aC ?_
  have w:(vI (((k+1):Nat):Int))=(vI ((k:Int)+1)):=by exact cI om
  refine a_ (F ⟨((k+1),(decide ((o.d_.Lo-x.d_.Hi)≤(S5 (Bg (c.dA*(Bg (x.At-o.At)))) 1000000)))),⟨om,by exact gT.2 (by rw [ti ho,N]; rw [N] at E; exact ⟨fun h=>⟨A0,E,h⟩,fun h=>h.2.2⟩)⟩⟩ _ _ _ U os (cz 11<|aU U w<|cR.nil _) (aK [1,2,3]))
 refine ao<|rP 4 [] (mc 0 U I) ?_
 refine e9 (xs:=[.tmp 34]) (cs:=[(vI x.At)]) U dI kR U U U U (by simp [Value.cells]) U U fun A1=>?_
 refine rS (CL (dG.eq (iy ((kN c i)+1) 86400000 ([x.At]) (some ⟨A1,0,none⟩) 1 (by (simp; done))) cK) (aw (bo 0 U U (by simp [bX]) U)<|aS) U) ?_
 refine rP 1 [] I ?_
 refine cx (t:=37) U (aO fun A6=>?_) (aN fun A6=>?_)
 ·refine rP 19 [] I ?_
  refine aC ?_
  have v:(decide (fX c i x))=false:=br (by unfold fX; omega)
  refine a_ (j6 (cz 8<|oq U v<|cR.nil _) (aK [1,2,3]) (G ()))
 refine rP 6 [] (mc 1 U I) ?_
 refine e9 (xs:=[.tmp 40,.tmp 43]) (cs:=[(vI x.d_.Lo),(vI x.d_.Hi)]) U dI kR U U U U (by simp [Value.cells]) U U fun A2=>?_
 refine rS (CL (dG.eq (iy (-10000) 10000 ([x.d_.Lo,x.d_.Hi]) (some ⟨A2,0,none⟩) 2 (by (simp; done))) pG) (aw (bo 0 U U (by simp [bX]) U)<|aS) U) ?_
 refine rP 2 [] I ?_
 refine cx (t:=47) U (aO fun A7=>?_) (aN fun A7=>?_)
 ·refine rP 9 [] I ?_
  refine aC ?_
  have u:(decide (fX c i x))=false:=br (by unfold fX; omega)
  refine a_ (j6 (cz 8<|oq U u<|cR.nil _) (aK [2,3,4]) (G ()))
 refine rP 9 [] (mc 2 U I) ?_
 refine aC ?_
 have s:(decide (fX c i x))=(decide (x.d_.Lo≤x.d_.Hi)):=gT.2 (by unfold fX; omega)
 refine a_ (j6 (cz 8<|oq U s<|cR.nil _) (aK [2,3,4]) (G ()))
theorem SZ (ms:List aT) (az:List RA) (k:Nat) (m:aT) (a:RA) (hm:ms[k]? =some m) (ha:az[k]? =some a) (hc:m.bk.length≤a.2∧m.bk.length≤1000000):
 dG Tryz.prog 136 [(vA (dE.cells (dE.mk m.dA (bj.mk a.1 m.bk.length a.2))))] [(iH (bK aT.jU ms az))] (vB (!(decide (fG m)))):=by
 obtain ⟨C,D⟩:=hc
 refine bG kr Tryz.func136 U U fun F Q hQ hN=>?_
 try dsimp only
 refine WS fun _ A=>dV U fun E=>bp 1 U<|RK A<|WS fun _ B=>dY 1 [] (mc 0 U I) U<|rS (CL (Pz m a.1 a.2 asm asm) (aw (show g9 _ (rd a.1 m.bk.length 3 (m.bk.map cE.cells)).holds from (cd 1 U (bB hm ha (by simp [aT.jU]))))<|aS) U)<|rP 2 [] I ?_
 refine RK B<|ak ?_
 exact Q1 hQ U U U U
theorem Hy (l:List aT) (az:List RA) (lA:OA) (lC:Nat) (f:Value) (p:aT→Bool) (X:ay) (hf: ∀ (k:Nat) m a,l[k]? =some m→az[k]? =some a→Dy Tryz.prog f [.agg (aT.cells m a).toArray] [X] (.bool (p m))) (hlen:l.length≤1000000) (has:az.length=l.length):
 dG Tryz.prog 165 [(vS lA l.length lC),f] [(rd lA l.length 2 (List.zipWith aT.cells l az)),(iH (bK aT.jU l az)),X] (vI (s9 p l)):=by
 refine bG kr Tryz.func165 U U fun T Q hQ hN=>?_
 try dsimp only
 refine WS fun _ AA=>bp 1 U<|RK AA<|ag fun _ J=>WS fun _ K=>rP 3 [] I ?_
 refine RK K<|ax ?_
 have B:(0≤l.length)∧((l.take 0).any p=false):=by simp
 refine bP (ι:={z:Nat // (z≤l.length)∧((l.take z).any p=false)}) [0,1,7] [0,1,2] U U (fun z=>[(8,(vI (z.1:Int)))]) (fun z=>[]) (fun _=>rfl) (fun _=>rfl) (fun z=>l.length-z.1) ⟨0,B⟩ (bf U) (aK [0,1,2]) ?_
 clear B
 rintro ⟨i,⟨P,A⟩⟩ J4 H
 try dsimp only
 refine WS fun _ L=>rP 1 [] I ?_
 refine RK L<|ag fun _ M=>bO U (aO fun S=>?_) (aN fun S=>?_)
 ·refine bM<|ab<|ab<|aF<|KK J<|WS fun _ E=>rP 1 [] I ?_
  refine RK E<|ak<|Q1 hQ U U U ?_
  exact cI (qh om A).symm
 refine WK M<|ag fun _ N=>ax<|WS fun _ O=>bp 2 U<|RK O<|WS fun _ C=>rP 3 [] I ?_
 obtain ⟨x,hx⟩:=aA l i om
 obtain ⟨xa,G⟩:=aA az i om
 have R:(List.zipWith aT.cells l az)[i]? =some (aT.cells x xa):=cG hx G
 refine rS (IA i U (av 0 U) vq dc om om)<|rS (jL i 0 (dE.cells (dE.mk x.dA (bj.mk xa.1 x.bk.length xa.2))) U bV (av 0 U) R U dc U U)<|rS (SX (pX U U U (hf i x xa hx G) (aY [2])) U U)<|RK C<|cb U (fun hp=>?_) (fun hp=>?_)
 ·refine WS fun _ D=>rP 2 [] I ?_
  refine RK D<|ak<|Q1 hQ U U U ?_
  exact cI (uh hx hp A).symm
 refine cg<|aJ<|KK N<|ao<|rP 2 [] I ?_
 refine aC ?_
 have F:(vI (((i+1):Nat):Int))=(vI ((i:Int)+1)):=by exact cI om
 refine a_ (H ⟨(i+1),⟨om,uo hx A hp⟩⟩ _ _ _ U os (cz 3<|aU U F<|cR.nil _) (aK [0,1,2]))
theorem AK (l:List aT) (az:List RA) (lA:OA) (lC:Nat) (f:Value) (p:aT→Bool) (X:ay) (hf: ∀ (k:Nat) m a,l[k]? =some m→az[k]? =some a→Dy Tryz.prog f [.agg (aT.cells m a).toArray] [X] (.bool (p m))) (hlen:l.length≤1000000) (has:az.length=l.length):
 dG Tryz.prog 135 [(vS lA l.length lC),f] [(rd lA l.length 2 (List.zipWith aT.cells l az)),(iH (bK aT.jU l az)),X] (vB (l.any p)):=by
 refine bG kr Tryz.func135 U U fun C Q hQ hN=>?_
 try dsimp only
 refine WS fun _ A=>bp 1 U<|RK A<|WS fun _ B=>bp 2 U<|rS (CL (Hy l az lA lC f p X (by exact hf) hlen has) (OU 0 1 2 U U U U U U) U)<|rP 2 [] I ?_
 refine RK B<|ak<|Q1 hQ U U U ?_
 exact cB se
theorem HQ (l:List cO) (lA:OA) (lC:Nat) (f:Value) (p:cO→Bool) (X:ay) (hf: ∀ x0,x0∈l→Dy Tryz.prog f [.agg (cO.cells x0).toArray] [X] (.bool (p x0))) (hlen:l.length≤1000000):
 dG Tryz.prog 167 [(vS lA l.length lC),f] [(rd lA l.length 4 (l.map cO.cells)),X] (vI (s9 p l)):=by
 refine bG kr Tryz.func167 U U fun S Q hQ hN=>?_
 try dsimp only
 refine WS fun _ H=>bp 1 U<|RK H<|ag fun _ AA=>WS fun _ J=>rP 3 [] I ?_
 refine RK J<|ax ?_
 have B:(0≤l.length)∧((l.take 0).any p=false):=by simp
 refine bP (ι:={z:Nat // (z≤l.length)∧((l.take z).any p=false)}) [0,1,7] [0,1] U U (fun z=>[(8,(vI (z.1:Int)))]) (fun z=>[]) (fun _=>rfl) (fun _=>rfl) (fun z=>l.length-z.1) ⟨0,B⟩ (bf U) (aK [0,1]) ?_
 clear B
 rintro ⟨i,⟨O,A⟩⟩ J4 G
 try dsimp only
 refine WS fun _ K=>rP 1 [] I ?_
 refine RK K<|ag fun _ L=>bO U (aO fun R=>?_) (aN fun R=>?_)
 ·refine bM<|ab<|ab<|aF<|KK AA<|WS fun _ E=>rP 1 [] I ?_
  refine RK E<|ak<|Q1 hQ U U U ?_
  exact cI (qh om A).symm
 refine WK L<|ag fun _ M=>ax<|WS fun _ N=>bp 2 U<|RK N<|WS fun _ C=>rP 3 [] I ?_
 obtain ⟨x,hx⟩:=aA l i om
 have P:=bH cO.cells hx
 refine rS (IA i U (av 0 U) uv dc om om)<|rS (jL i 0 (cO.cells x) U bV (av 0 U) P U dc U U)<|rS (SX (pX U U U (hf x (aP hx)) (aY [1])) U U)<|RK C<|cb U (fun hp=>?_) (fun hp=>?_)
 ·refine WS fun _ D=>rP 2 [] I ?_
  refine RK D<|ak<|Q1 hQ U U U ?_
  exact cI (uh hx hp A).symm
 refine cg<|aJ<|KK M<|ao<|rP 2 [] I ?_
 refine aC ?_
 have F:(vI (((i+1):Nat):Int))=(vI ((i:Int)+1)):=by exact cI om
 refine a_ (G ⟨(i+1),⟨om,uo hx A hp⟩⟩ _ _ _ U os (cz 3<|aU U F<|cR.nil _) (aK [0,1]))
theorem As (l:List cO) (lA:OA) (lC:Nat) (f:Value) (p:cO→Bool) (X:ay) (hf: ∀ x0,x0∈l→Dy Tryz.prog f [.agg (cO.cells x0).toArray] [X] (.bool (p x0))) (hlen:l.length≤1000000):
 dG Tryz.prog 139 [(vS lA l.length lC),f] [(rd lA l.length 4 (l.map cO.cells)),X] (vB (l.any p)):=by
 refine bG kr Tryz.func139 U U fun C Q hQ hN=>?_
 try dsimp only
 refine WS fun _ A=>bp 1 U<|RK A<|WS fun _ B=>bp 2 U<|rS (CL (HQ l lA lC f p X (by exact hf) hlen) (aY [0,1]) U)<|rP 2 [] I ?_
 refine RK B<|ak<|Q1 hQ U U U ?_
 exact cB se
end
section
open Go.RowKit
theorem Pn (l:bq) (kA:OA) (kC:Nat) (az:List RA) (cA:OA) (cC:Nat) (bA:OA) (bC:Nat) (hin:ed l az):
 dG Tryz.prog 132 [(vA (bW.cells (jx l kA kC cA cC bA bC)))] (o7 l kA az cA bA) (vB (decide (eL l))):=by
 have R:=hin.qI
 have P:=hin.qG
 have N:=hin.lS
 have O:=hin.qD
 refine bG kr Tryz.func132 U U fun T Q hQ hN=>?_
 try dsimp only
 refine WS fun _ G=>dV U fun S=>bp 1 U<|RK G<|WS fun _ A=>rP 2 [] (mc 0 U I) ?_
 refine e9 (xs:=[.tmp 4]) (cs:=[(vI l.gl)]) U dI kR U U U U (by simp [Value.cells]) U U fun H=>?_
 refine rS (CL (dG.eq (iy 1 5000 ([l.gl]) (some ⟨H,0,none⟩) 1 (by (simp; done))) cK) (aw (bo 0 U U (by simp [bX]) U)<|aS) U) ?_
 refine rP 1 [] I ?_
 refine cx (t:=7) U (aO fun K=>?_) (aN fun K=>?_)
 ·refine rP 36 [] I ?_
  refine RK A<|ak<|Q1 hQ U U U ?_
  exact cB (br (by unfold eL; omega)).symm
 refine rP 3 [] (mc 1 U I) ?_
 refine e9 (xs:=[.tmp 10]) (cs:=[(vI (l.aG.length:Int))]) U dI kR U U U U (by simp [Value.cells]) U U fun AA=>?_
 refine rS (CL (dG.eq (iy 1 4 ([(l.aG.length:Int)]) (some ⟨AA,0,none⟩) 1 (by (simp; done))) cK) (aw (bo 0 U U (by simp [bX]) U)<|aS) U) ?_
 refine rP 2 [] I ?_
 refine cx (t:=14) U (aO fun L=>?_) (aN fun L=>?_)
 ·refine rP 29 [] I ?_
  refine RK A<|ak<|Q1 hQ U U U ?_
  exact cB (br (by unfold eL; omega)).symm
 refine rP 3 [] (mc 2 U I) ?_
 refine e9 (xs:=[.tmp 17]) (cs:=[(vI (l.aj.length:Int))]) U dI kR U U U U (by simp [Value.cells]) U U fun J=>?_
 refine rS (CL (dG.eq (iy 1 6 ([(l.aj.length:Int)]) (some ⟨J,0,none⟩) 1 (by (simp; done))) cK) (aw (bo 0 U U (by simp [bX]) U)<|aS) U) ?_
 refine rP 2 [] I ?_
 refine cx (t:=21) U (aO fun M=>?_) (aN fun M=>?_)
 ·refine rP 22 [] I ?_
  refine RK A<|ak<|Q1 hQ U U U ?_
  exact cB (br (by unfold eL; omega)).symm
 refine rP 6 [] (mc 3 U I) ?_
 refine e9 (xs:=[.tmp 27]) (cs:=[(vI l.bU)]) U dI kR U U U U (by simp [Value.cells]) U U fun B=>?_
 refine rS (CL (dG.eq (iy 0 ((l.aj.length:Int)-1) ([l.bU]) (some ⟨B,0,none⟩) 1 (by (simp; done))) cK) (aw (bo 0 U U (by simp [bX]) U)<|aS) U) ?_
 refine rP 2 [] I ?_
 refine cx (t:=31) U (aO fun E=>?_) (aN fun E=>?_)
 ·refine rP 12 [] I ?_
  refine RK A<|ak<|Q1 hQ U U U ?_
  exact cB (br (by unfold eL; omega)).symm
 refine rP 2 [] (mc 4 U I) ?_
 refine e9 (xs:=[.tmp 33]) (cs:=[(vI l.ew)]) U dI kR U U U U (by simp [Value.cells]) U U fun C=>?_
 refine rS (CL (dG.eq (iy 0 3 ([l.ew]) (some ⟨C,0,none⟩) 1 (by (simp; done))) cK) (aw (bo 0 U U (by simp [bX]) U)<|aS) U) ?_
 refine rP 2 [] I ?_
 refine cx (t:=37) U (aO fun F=>?_) (aN fun F=>?_)
 ·refine rP 6 [] I ?_
  refine RK A<|ak<|Q1 hQ U U U ?_
  exact cB (br (by unfold eL; omega)).symm
 refine rP 2 [] (mc 5 U I) ?_
 refine e9 (xs:=[.tmp 39]) (cs:=[(vI l.cU)]) U dI kR U U U U (by simp [Value.cells]) U U fun D=>?_
 refine rS (CL (dG.eq (iy 0 3 ([l.cU]) (some ⟨D,0,none⟩) 1 (by (simp; done))) cK) (aw (bo 0 U U (by simp [bX]) U)<|aS) U) ?_
 refine rP 2 [] I ?_
 refine RK A<|ak<|Q1 hQ U U U ?_
 exact cB (gT.2 (by unfold eL; omega))
theorem Pj (l:bq) (kA:OA) (kC:Nat) (az:List RA) (cA:OA) (cC:Nat) (bA:OA) (bC:Nat) (hin:ed l az):
 dG Tryz.prog 134 [(vA (bW.cells (jx l kA kC cA cC bA bC)))] (o7 l kA az cA bA) (vB (decide (∀ c∈l.aG,fG c))):=by
 have H:=hin.qI
 have G:=hin.qG
 have E:=hin.lS
 have F:=hin.qD
 refine bG kr Tryz.func134 U U fun K Q hQ hN=>?_
 try dsimp only
 refine WS fun _ C=>dV U fun J=>bp 1 U<|RK C<|WS fun _ D=>rP 2 [] (mc 0 U I) ?_
 refine rS (CL (AK l.aG az cA cC (Value.func (.func 136) [].toArray [].toArray) (fun m=>(!(decide (fG m)))) (iH (bK aT.jU l.aG az)) (by intro AA m a B A; exact lp (fi:=[]) (ca:=[]) (SZ l.aG az AA m a (by exact B) (by exact A) (by exact hin.QI _ _ _ B A))) asm asm) (OU 2 3 3 U U U U U U) U) ?_
 refine rP 2 [] I ?_
 refine RK D<|ak<|Q1 hQ U U U ?_
 exact cB (by rw [Bool.eq_iff_iff,decide_eq_true_eq]; exact Eo)
theorem P7 (b:cO) (l:bq) (kA:OA) (kC:Nat) (az:List RA) (cA:OA) (cC:Nat) (bA:OA) (bC g1:Nat) (hin:ed l az) (htr:dB l.bL=true):
 dG Tryz.prog 140 [(vA (cO.cells b)),(vP g1)] ((o7 l kA az cA bA)++[(cy g1 28 (bW.cells (jx l kA kC cA cC bA bC)))]) (vB (!(decide (kh l b)))):=by
 have J:=hin.qI
 have H:=hin.qG
 have F:=hin.lS
 have G:=hin.qD
 have AA:=hin.side
 refine bG kr Tryz.func140 U U fun M Q hQ hN=>?_
 try dsimp only
 refine WS fun _ C=>dV U fun K=>bp 1 U<|RK C<|WS fun _ D=>bp 1 U<|rS (VE (bJ.cells (bJ.mk (bj.mk kA l.bL.length kC))) 5 U bV U U U)<|bp 1 U<|rS (LP (dg.cells b.lg) 0 U bV U U U)<|rS (CL (RC l.bL kA kC b.lg asm asm) (aY [1]) U)<|bp 3 U<|AL U eh fun L=>e7 U cW U<|bp 1 U<|RK D<|WS fun _ B=>rP 3 [] I ?_
 refine bS (t:=16) U (aX fun A=>?_) (aW fun A=>?_)
 ·refine rP 11 [] I ?_
  refine RK B<|ak<|Q1 hQ U U U ?_
  (refine cB ?_; rw [br (fun h:kh l b=>A ((FZ htr).2 h.1))]; rfl)
 refine rP 6 [0,1] (mr 6 U (mc 1 U I)) ?_
 refine e9 (xs:=[.tmp 22]) (cs:=[(vI b.jS)]) U dI kR U U U U (by simp [Value.cells]) U U fun E=>?_
 refine rS (CL (dG.eq (iy 0 ((l.aG.length:Int)-1) ([b.jS]) (some ⟨E,0,none⟩) 1 (by (simp; done))) cK) (aw (bo 0 U U (by simp [bX]) U)<|aS) U) ?_
 refine rP 3 [] I ?_
 refine RK B<|ak<|Q1 hQ U U U ?_
 (refine cB ?_; refine congrArg Bool.not (gT.2 ⟨fun h=>⟨(FZ htr).1 A,om,om⟩,fun h=>by have:=h.2; omega⟩))
theorem Pr (l:bq) (kA:OA) (kC:Nat) (az:List RA) (cA:OA) (cC:Nat) (bA:OA) (bC:Nat) (hin:ed l az) (htr:dB l.bL=true):
 dG Tryz.prog 138 [(vA (bW.cells (jx l kA kC cA cC bA bC)))] (o7 l kA az cA bA) (vB (decide (∀ b∈l.aj,kh l b))):=by
 have H:=hin.qI
 have G:=hin.qG
 have E:=hin.lS
 have F:=hin.qD
 refine bG kr Tryz.func138 U U fun AA Q hQ hN=>?_
 try dsimp only
 refine WS fun _ B=>dV U fun A=>bp 1 U<|RK B<|WS fun _ C=>rP 2 [] (mc 0 U I) ?_
 refine rS (FU U) ?_
 refine rS (CL (As l.aj bA bC (Value.func (.func 140) [].toArray [(vP A)].toArray) (fun D=>(!(decide (kh l D)))) (iH [(rd kA l.bL.length 9 (l.bL.map aD.cells)),(rd cA l.aG.length 2 (List.zipWith aT.cells l.aG az)),(iH (bK aT.jU l.aG az)),(rd bA l.aj.length 4 (l.aj.map cO.cells)),(cy A 28 (bW.cells (jx l kA kC cA cC bA bC)))]) (by intro D _; exact lp (fi:=[]) (ca:=[(vP A)]) (j8 (P7 D l kA kC az cA cC bA bC A (by first|assumption|omega) (by first|assumption|omega)) (aY [0,1,2,3,4]))) asm) (eG 4 U U<|aw (j7 (aY [1,2,3,4,0]))<|aS) U) ?_
 refine rP 2 [] I ?_
 refine RK C<|ak<|Q1 hQ U U U ?_
 exact cB (by rw [Bool.eq_iff_iff,decide_eq_true_eq]; exact Hu)
theorem Ij (l:bq) (kA:OA) (kC:Nat) (az:List RA) (cA:OA) (cC:Nat) (bA:OA) (bC:Nat) (n:Int) (hin:ed l az) (htr:dB l.bL=true) (hbk: ∀ b∈l.aj,kh l b) (hn:0≤n∧n<(l.aj.length:Int)):
 dG Tryz.prog 143 [(vA (bW.cells (jx l kA kC cA cC bA bC))),(vI n)] (o7 l kA az cA bA) (vI (mN l n.toNat)):=by
 have P:=hin.qI
 have N:=hin.qG
 have L:=hin.lS
 have M:=hin.qD
 have O:=hin.side
 refine bG kr Tryz.func143 U U fun AA Q hQ hN=>?_
 try dsimp only
 refine WS fun _ E=>dV U fun R=>bp 1 U<|RK E<|WS fun _ F=>rP 3 [] (mc 0 U I) ?_
 obtain ⟨x,hx⟩:=aA l.aj ((n).toNat) om
 have J:=bH cO.cells hx
 refine rS (IA ((n).toNat) U (av 4 U) uv dc om om)<|rS (nQ (((n).toNat)*4) U (av 4 U) (Nat.mul_pos om dc) eD U)<|rS (jL ((n).toNat) 0 (dg.cells x.lg) U bV (av 4 U) J U dc U U)<|AL U F8 fun S=>e7 U Ow U<|RK F<|WS fun _ G=>bp 1 U<|rS (LP (bJ.cells (bJ.mk (bj.mk kA l.bL.length kC))) 1 U bV U U U)<|dY 1 [] (mc 0 U I) U<|rS (CL (RC l.bL kA kC x.lg asm asm) (aY [2]) U)<|bp 3 U<|AL U eh fun T=>e7 U cW U<|bp 1 U<|RK G<|ag fun _ C=>WS fun _ H=>rP 2 [] I ?_
 refine RK H<|bO U (aO fun D=>?_) (aN fun D=>?_)
 ·refine WK C<|WS fun _ B=>rP 3 [] (mc 0 U I) ?_
  refine RK B<|ak<|Q1 hQ U U U ?_
  (refine congrArg (Value.int .i64) ?_; rw [show n.toNat=0 by omega] at hx ⊢; rw [zf hx,(ym htr (hbk _ (List.mem_of_getElem? hx)).1).2])
 refine dp cj [14] [] [] [1,2,3,4,5,6] [] U U U U U<|eS U (FA 0 U eD U)<|eS U (LP (bJ.cells (bJ.mk (bj.mk kA l.bL.length kC))) 1 U bV U U U)<|eS U (FA 3 U eD U)<|eS U (L1 (vS bA l.aj.length bC) 1 U bV U U)<|eS U (MV U)<|eS U (BI U (yE ⟨om,om⟩)) ?_
 obtain ⟨y,hy⟩:=aA l.aj (((n-1)).toNat) om
 have K:=bH cO.cells hy
 refine eS U (IA (((n-1)).toNat) U (av 5 U) uv dc om om)<|eS U (nQ ((((n-1)).toNat)*4) U (av 5 U) (Nat.mul_pos om dc) eD U)<|eS U (jL (((n-1)).toNat) 0 (dg.cells y.lg) U bV (av 5 U) K U dc U U)<|eS U (LW 0 U bV U U)<|eS U (CL (NH l.bL kA kC y.lg x.lg asm asm) (aY [2]) U)<|eS U (MV U)<|eS U (EX U)<|eS U (EX U)<|eg U<|cf U fun T9 AB=>e7 U cW U<|aC (AB _ _ (aK [1,2,3,4,5,6]) ?_)
 refine e8 U<|KK C<|WS fun _ A=>rP 3 [] (mc 0 U I) ?_
 refine RK A<|ak<|Q1 hQ U U U ?_
 (refine congrArg (Value.int .i64) ?_; rw [Cd om hx (by rw [show n.toNat-1=(n-1).toNat by omega]; exact hy),(l0 htr ⟨(hbk _ (List.mem_of_getElem? hy)).1,(hbk _ (List.mem_of_getElem? hx)).1⟩).2])
theorem PG (l:bq) (kA:OA) (kC:Nat) (az:List RA) (cA:OA) (cC:Nat) (bA:OA) (bC:Nat) (hin:ed l az) (htr:dB l.bL=true) (hbk: ∀ b∈l.aj,kh l b):
 dG Tryz.prog 142 [(vA (bW.cells (jx l kA kC cA cC bA bC)))] (o7 l kA az cA bA) (vB (decide (∀ i,i<l.aj.length→1≤mN l i))):=by
 have V:=hin.qI
 have AA:=hin.qG
 have S:=hin.lS
 have T:=hin.qD
 refine bG kr Tryz.func142 U U fun X Q hQ hN=>?_
 try dsimp only
 refine WS fun _ J=>dV U fun W=>bp 1 U<|RK J<|ag fun _ K=>WS fun _ L=>rP 4 [] (mc 0 U I) ?_
 refine RK L<|ax ?_
 have A:(0≤l.aj.length)∧(∀ j,j<0→1≤mN l j):=by exact ⟨Nat.zero_le _,fun j hj=>absurd hj (Nat.not_lt_zero _)⟩
 refine bP (ι:={z:Nat // (z≤l.aj.length)∧(∀ j,j<z→1≤mN l j)}) [1,6] [0,1,2,3,4] U U (fun z=>[(7,(vI (z.1:Int)))]) (fun z=>[]) (fun _=>rfl) (fun _=>rfl) (fun z=>l.aj.length-z.1) ⟨0,A⟩ (bf U) (aK [0,1,2,3,4]) ?_
 clear A
 rintro ⟨i,⟨P,B⟩⟩ J5 AB
 try dsimp only
 refine WS fun _ M=>rP 1 [] I ?_
 refine RK M<|ag fun _ N=>bO U (aO fun R=>?_) (aN fun R=>?_)
 ·refine bM<|ab<|ab<|aF<|KK K<|WS fun _ G=>rP 1 [] I ?_
  refine RK G<|ak<|Q1 hQ U U U ?_
  exact cB (dC (fun j hj=>B j om)).symm
 refine WK N<|ag fun _ O=>ax<|WS fun _ D=>bp 2 U<|RK D<|WS fun _ E=>dY 2 [] (mc 0 U I) U<|rS (CL (Ij l kA kC az cA cC bA bC (i:Int) hin htr hbk om) (aY [1,2,3,4]) U)<|rP 1 [] I ?_
 refine RK E<|cb U (aN fun C=>?_) (aO fun C=>?_)
 ·refine WS fun _ F=>rP 1 [] I ?_
  refine RK F<|ak<|Q1 hQ U U U ?_
  exact cB (br (fun h=>by have:=h i om; simp only [Int.toNat_natCast] at C; omega)).symm
 refine cg<|aJ<|KK O<|ao<|rP 2 [] I ?_
 refine aC ?_
 have H:(vI (((i+1):Nat):Int))=(vI ((i:Int)+1)):=by exact cI om
 refine a_ (AB ⟨(i+1),⟨om,fun j hj=>by rcases Nat.lt_or_ge j i with q|q; exact B j q; (obtain rfl:j=i:=by omega); simp only [Int.toNat_natCast] at C; omega⟩⟩ _ _ _ rfl os (cR.cons rfl<|cR.cons rfl<|aU rfl H<|cR.nil _) (aK [0,1,2,3,4]))
end
section
open Go.RowKit
theorem Qv:
 dG Tryz.prog 108 [] [] (vA ((ig.cells (ig.mk (Value.func (.func 132) [].toArray [].toArray)))++(ig.cells (ig.mk (Value.func (.func 134) [].toArray [].toArray)))++(ig.cells (ig.mk (Value.func (.func 138) [].toArray [].toArray)))++(ig.cells (ig.mk (Value.func (.func 142) [].toArray [].toArray))))):=by
 refine bG kr Tryz.func108 U U fun D Q hQ hN=>?_
 try dsimp only
 refine WS fun _ A=>AL U Q8 fun C=>RK A<|WS fun _ B=>rS (SX (bE (xs:=[(0,.func 132)]) (cs:=(ig.cells (ig.mk (Value.func (.func 132) [].toArray [].toArray)))) U U (bD FQ U)) U U)<|rS (SX (bE (xs:=[(0,.func 134)]) (cs:=(ig.cells (ig.mk (Value.func (.func 134) [].toArray [].toArray)))) U U (bD FQ U)) U U)<|rS (SX (bE (xs:=[(0,.func 138)]) (cs:=(ig.cells (ig.mk (Value.func (.func 138) [].toArray [].toArray)))) U U (bD FQ U)) U U)<|rS (SX (bE (xs:=[(0,.func 142)]) (cs:=(ig.cells (ig.mk (Value.func (.func 142) [].toArray [].toArray)))) U U (bD FQ U)) U U)<|rS (SX (bE (xs:=[(0,.tmp 1),(1,.tmp 2),(2,.tmp 3),(3,.tmp 4)]) (cs:=((ig.cells (ig.mk (Value.func (.func 132) [].toArray [].toArray)))++(ig.cells (ig.mk (Value.func (.func 134) [].toArray [].toArray)))++(ig.cells (ig.mk (Value.func (.func 138) [].toArray [].toArray)))++(ig.cells (ig.mk (Value.func (.func 142) [].toArray [].toArray))))) U U (bD Tn U)) U U)<|e7 U Si U<|RK B<|ak ?_
 exact Bf hQ [0] (mc 0 U I) U U
theorem x8 (l:bq) (kA:OA) (kC:Nat) (az:List RA) (cA:OA) (cC:Nat) (bA:OA) (bC:Nat) (hin:ed l az):
 dG Tryz.prog 88 [(vA (bW.cells (jx l kA kC cA cC bA bC)))] (o7 l kA az cA bA) (vI (e_ l)):=by
 have A0:=hin.qI
 have Ag:=hin.qG
 have AO:=hin.lS
 have AU:=hin.qD
 have Ax:=hin.side
 refine bG kr Tryz.func88 U U fun w0 Q hQ hN=>?_
 try dsimp only
 refine WS fun _ m=>dV U fun b2=>bp 1 U<|RK m<|ag fun _ n=>WS fun _ o=>bp 1 U<|rS (LP (bJ.cells (bJ.mk (bj.mk kA l.bL.length kC))) 0 U bV U U U)<|rS (CL (C9 l.bL kA kC asm asm) (aY [1]) U)<|bp 1 U<|RK o<|WS fun _ p=>rP 2 [] I ?_
 refine RK p<|cb U (aX fun B=>?_) (aW fun B=>?_)
 ·refine WS fun _ q=>rP 2 [] I ?_
  refine RK q<|ak<|Q1 hQ U U U ?_
  (refine cI ?_; rw [(zd B).2,zo (zd B).1])
 refine WK n<|ag fun _ s=>WS fun _ t=>?_
 have A:=DN B
 refine rS (CL Qv (aS) U)<|bp 1 U<|RK t<|ax<|rL 5<|lf fun R9 u=>WS fun _ C=>rS (SX (eQ (r:= .bool true) U U U qE) U U)<|RK C<|ag fun _ D=>aL U<|WK D<|ag fun _ E=>ax<|WS fun _ F=>rS (SX (uJ (vs:=(ig.cells (ig.mk (Value.func (.func 132) [].toArray [].toArray)))) 0 U U U EM bV U dc U) U U)<|AL U Ga fun x=>e7 U Fi U<|RK F<|WS fun _ G=>dY 3 [0,1] (mc 0 U (mc 1 U I)) U<|rS (CL (Pn l kA kC az cA cC bA bC hin) (aY [2,3,4,5]) U)<|rP 1 [] I ?_
 refine RK G<|cb U (aX fun g=>?_) (aW fun g=>?_)
 ·refine WS fun _ H=>rP 1 [] I ?_
  refine RK H<|ak<|Q1 hQ U U U ?_
  exact cI (rl A fun h=>absurd h.head asm).symm
 refine cg<|aJ<|KK E<|ao<|rS (SX (eQ (r:= .int .i64 1) U U U (oN ⟨dc,dc⟩)) U U)<|bp 1 U<|RK u<|lf fun R18 d=>WS fun _ AB=>rS (SX (eQ (r:= .bool true) U U U qE) U U)<|RK AB<|ag fun _ J=>aL U<|WK J<|ag fun _ K=>ax<|WS fun _ L=>rS (SX (uJ (vs:=(ig.cells (ig.mk (Value.func (.func 134) [].toArray [].toArray)))) 1 U U U EM bV U dc U) U U)<|AL U Ga fun y=>e7 U Fi U<|RK L<|WS fun _ M=>dY 3 [0,1] (mc 0 U (mc 2 U I)) U<|rS (CL (Pj l kA kC az cA cC bA bC hin) (aY [3,4,5,6]) U)<|rP 1 [] I ?_
 refine RK M<|cb U (aX fun i=>?_) (aW fun i=>?_)
 ·refine WS fun _ N=>rP 1 [] I ?_
  refine RK N<|ak<|Q1 hQ U U U ?_
  exact cI (rl A fun h=>absurd h.clock asm).symm
 refine cg<|aJ<|KK K<|ao<|rS (SX (eQ (r:= .int .i64 2) U U U (oN ⟨dc,dc⟩)) U U)<|bp 1 U<|RK d<|lf fun R27 e=>WS fun _ O=>rS (SX (eQ (r:= .bool true) U U U qE) U U)<|RK O<|ag fun _ P=>aL U<|WK P<|ag fun _ R=>ax<|WS fun _ S=>rS (SX (uJ (vs:=(ig.cells (ig.mk (Value.func (.func 138) [].toArray [].toArray)))) 2 U U U EM bV U dc U) U U)<|AL U Ga fun z=>e7 U Fi U<|RK S<|WS fun _ T=>dY 3 [0,1] (mc 0 U (mc 3 U I)) U<|rS (CL (Pr l kA kC az cA cC bA bC hin asm) (aY [4,5,6,7]) U)<|rP 1 [] I ?_
 refine RK T<|cb U (aX fun j=>?_) (aW fun j=>?_)
 ·refine WS fun _ AA=>rP 1 [] I ?_
  refine RK AA<|ak<|Q1 hQ U U U ?_
  exact cI (rl A fun h=>absurd h.v_ asm).symm
 refine cg<|aJ<|KK R<|ao<|rS (SX (eQ (r:= .int .i64 3) U U U (oN ⟨dc,dc⟩)) U U)<|bp 1 U<|RK e<|lf fun R36 f=>WS fun _ V=>rS (SX (eQ (r:= .bool true) U U U qE) U U)<|RK V<|ag fun _ W=>aL U<|WK W<|ag fun _ X=>ax<|WS fun _ Y=>rS (SX (uJ (vs:=(ig.cells (ig.mk (Value.func (.func 142) [].toArray [].toArray)))) 3 U U U EM bV U dc U) U U)<|AL U Ga fun AC=>e7 U Fi U<|RK Y<|WS fun _ Z=>dY 3 [0,1] (mc 0 U (mc 4 U I)) U<|rS (CL (PG l kA kC az cA cC bA bC hin asm asm) (aY [5,6,7,8]) U)<|rP 1 [] I ?_
 refine RK Z<|cb U (aX fun k=>?_) (aW fun k=>?_)
 ·refine WS fun _ a=>rP 1 [] I ?_
  refine RK a<|ak<|Q1 hQ U U U ?_
  exact cI (rl A fun h=>absurd h.P3 asm).symm
 refine cg<|aJ<|KK X<|ao<|rS (SX (eQ (r:= .int .i64 4) U U U (oN ⟨dc,dc⟩)) U U)<|bp 1 U<|RK f<|lf fun R45 w=>WS fun _ b=>rS (SX (eQ (r:= .bool false) U U U qE) U U)<|RK b<|ag fun _ v=>bT U<|bM<|ab<|ab<|aF<|KK s<|WS fun _ c=>rP 1 [] I ?_
 refine RK c<|ak<|Q1 hQ U U U ?_
 exact cI (CF A (zP asm asm asm asm)).symm
theorem Cf (lo hi:Int) (f:Value) (p:Int→Bool) (X:ay) (r:Int) (hf: ∀ x0,0≤x0∧x0<hi→Dy Tryz.prog f [.int .i64 x0] [X] (.bool (p x0))) (hb:0≤lo∧lo≤r∧r≤hi∧hi≤100000000) (hno: ∀ x,lo≤x→x<r→p x=false) (hyes: ∀ x,r≤x→x<hi→p x=true):
 dG Tryz.prog 206 [(vI lo),(vI hi),f] [X] (vI r):=by
 refine bG kr Tryz.func206 U U fun N Q hQ hN=>?_
 try dsimp only
 refine WS fun _ F=>rP 1 [] I ?_
 refine RK F<|ag fun _ G=>ax ?_
 have A:(lo≤lo∧lo≤r)∧(r≤hi∧hi≤hi):=by omega
 refine bP (ι:={z:Int×Int // (lo≤z.1∧z.1≤r)∧(r≤z.2∧z.2≤hi)}) [2] [0] U U (fun z=>[(0,(vI z.1.1)),(1,(vI z.1.2))]) (fun z=>[]) (fun _=>rfl) (fun _=>rfl) (fun z=>(z.1.2-z.1.1).toNat) ⟨(lo,hi),A⟩ (bf U) (aK [0]) ?_
 clear A
 rintro ⟨⟨a,b⟩,⟨B,C⟩⟩ J3 D
 try dsimp only at B C
 try dsimp only
 refine ag fun _ H=>WS fun _ AA=>rP 3 [] I ?_
 refine RK AA<|bO U (aO fun M=>?_) (aN fun M=>?_)
 ·refine bM<|ab<|ab<|aF<|KK G<|WS fun _ L=>rP 2 [] I ?_
  refine RK L<|ak<|Q1 hQ U U U ?_
  exact cI om
 refine WK H<|ax<|WS fun _ J=>bp 4 U<|rS (BI U (vh om om om))<|bp 2 U<|RK J<|WS fun _ K=>rP 2 [] I ?_
 refine rS (SX (pX U U U (hf (a+((b-a)/2)) om) (aY [0])) U U)<|RK K<|cb U (fun hp=>?_) (fun hp=>?_)
 ·refine ao<|rP 2 [] I ?_
  refine aC<|aJ ?_
  refine a_ (D ⟨(a,(a+((b-a)/2))),(by dsimp only; rcases Int.lt_or_le (a+(b-a)/2) r with q|q; (have E:=hno _ om q; (rw [E] at hp; cases hp)); (have E:=hyes _ q om; (refine ⟨⟨om,om⟩,om,om⟩)))⟩ _ _ _ rfl (by simp only []; omega) (bf rfl) (aK [0]))
 refine ao<|rP 3 [] I ?_
 refine aC<|aJ ?_
 refine a_ (D ⟨(((a+((b-a)/2))+1),b),(by dsimp only; rcases Int.lt_or_le (a+(b-a)/2) r with q|q; (have E:=hno _ om q; (refine ⟨⟨om,om⟩,om,om⟩)); (have E:=hyes _ q om; (rw [E] at hp; cases hp)))⟩ _ _ _ rfl (by simp only []; omega) (bf rfl) (aK [0]))
theorem Jf (u:Int) (c:aT) (sA:OA) (sC g1:Nat) (s:aH) (g2:Nat) (hc:fG c) (hu:0≤u∧u≤90000000):
 dG Tryz.prog 207 [(vI u),(vP g1),(vP g2)] [(rd sA c.bk.length 3 (c.bk.map cE.cells)),(cy g1 133 (dE.cells (dE.mk c.dA (bj.mk sA c.bk.length sC)))),(cy g2 113 (aH.cells s))] (vB (decide (s.Read≤u+(iS c u).Hi))):=by
 have C:=rK hc hu
 refine bG kr Tryz.func207 U U fun D Q hQ hN=>?_
 try dsimp only
 refine WS fun _ A=>bp 1 U<|RK A<|ag fun _ B=>cS cj 10 kr<|kf 3 [] (mr 1 U I) U<|dS (CL (F3 c sA sC u hc hu) (aY [0]) U)<|dS (SX (sk (v:=(vI ((iS c u).Hi))) U U eD KM U) U U)<|dP 5 [] (mr 2 U I) ?_
 refine cu<|RK B<|ak ?_
 exact Q1 hQ U U U U
theorem KT (u:Int) (c:aT) (sA:OA) (sC g1:Nat) (s:aH) (g2:Nat) (hc:fG c) (hu:0≤u∧u≤90000000):
 dG Tryz.prog 209 [(vI u),(vP g1),(vP g2)] [(rd sA c.bk.length 3 (c.bk.map cE.cells)),(cy g1 133 (dE.cells (dE.mk c.dA (bj.mk sA c.bk.length sC)))),(cy g2 113 (aH.cells s))] (vB (decide (s.Read<u+(iS c u).Lo))):=by
 have C:=rK hc hu
 refine bG kr Tryz.func209 U U fun D Q hQ hN=>?_
 try dsimp only
 refine WS fun _ A=>bp 1 U<|RK A<|ag fun _ B=>cS cj 10 kr<|kf 3 [] (mr 1 U I) U<|dS (CL (F3 c sA sC u hc hu) (aY [0]) U)<|dS (SX (sk (v:=(vI ((iS c u).Lo))) U U eD Iw U) U U)<|dP 5 [] (mr 2 U I) ?_
 refine cu<|RK B<|ak ?_
 exact Q1 hQ U U U U
theorem AJ (l:bq) (kA:OA) (kC:Nat) (az:List RA) (cA:OA) (cC:Nat) (bA:OA) (bC:Nat) (s:aH) (hin:ed l az) (hok:mH l) (hs:(0≤s.fI∧s.fI≤(l.aj.length:Int)-1)∧0≤s.Read∧s.Read≤86400000):
 dG Tryz.prog 184 [(vA (bW.cells (jx l kA kC cA cC bA bC))),(vA (aH.cells s))] (o7 l kA az cA bA) (vA (ai.cells (dq l s))):=by
 have V:=hin.qI
 have S:=hin.qG
 have P:=hin.lS
 have R:=hin.qD
 refine bG kr Tryz.func184 U U fun Z Q hQ hN=>?_
 try dsimp only
 refine WS fun _ AB=>dV U fun X=>dV U fun D=>AL U eh fun Y=>RK AB<|ag fun _ J=>dp cj [11,12] [] [] [0,1,2,3,4,5,6] [] U U U U U<|eS U (FA 2 U eD U)<|eS U (L1 (vS cA l.aG.length cC) 2 U bV U U)<|eS U (FA 3 U eD U)<|eS U (L1 (vS bA l.aj.length bC) 2 U bV U U)<|eS U (FA 0 U eD U)<|eS U (L1 (vI s.fI) 1 U bV U U) ?_
 obtain ⟨y,hy⟩:=aA l.aj ((s.fI).toNat) om
 have O:=bH cO.cells hy
 refine eS U (IA ((s.fI).toNat) U (av 6 U) uv dc om om)<|eS U (nQ ((((s.fI).toNat)*4)+3) U (av 6 U) (Nat.mul_pos om dc) eD U)<|eS U (gv ((s.fI).toNat) 3 (vI y.jS) U bV (av 6 U) O U dc U) ?_
 have W:=(hok.v_ _ (aP hy)).2
 obtain ⟨x,hx⟩:=aA l.aG ((y.jS).toNat) om
 obtain ⟨xa,F⟩:=aA az ((y.jS).toNat) om
 have N:(List.zipWith aT.cells l.aG az)[(y.jS).toNat]? =some (aT.cells x xa):=cG hx F
 refine eS U (IA ((y.jS).toNat) U (av 4 U) vq dc om om)<|eS U (jL ((y.jS).toNat) 0 (dE.cells (dE.mk x.dA (bj.mk xa.1 x.bk.length xa.2))) U bV (av 4 U) N U dc U U)<|eg U<|cf U fun T6 L=>AL U zC fun E=>aC (L _ _ (aK [1,2,3,4,5,6,7]) ?_)
 refine cf U fun T8 M=>e7 U zI U<|aC (M _ _ (aK [1,2,3,4,5,6,7]) ?_)
 refine e8 U<|KK J<|WS fun _ K=>?_
 have A:=hok.clock _ (aP hx)
 have AA:=jk (p:=iB x s.Read) (n:=86400001)
 have T:=jk (p:=iE x s.Read) (n:=86400001)
 refine rS (FU U) ?_
 refine rS (CL (Cf 0 86400001 (Value.func (.func 207) [].toArray [(vP E),(vP D)].toArray) (fun B=>(decide (s.Read≤B+(iS x B).Hi))) (iH [(rd xa.1 x.bk.length 3 (x.bk.map cE.cells)),(cy E 133 (dE.cells (dE.mk x.dA (bj.mk xa.1 x.bk.length xa.2)))),(cy D 113 (aH.cells s))]) (gE (iB x s.Read) 86400001) (by intro B _; exact lp (fi:=[]) (ca:=[(vP E),(vP D)]) (j8 (Jf B x xa.1 xa.2 E s D (by first|assumption|omega) (by first|assumption|omega)) (OU 0 1 2 U U U U U U))) om (by intro z G hz; exact (lI A G om).1 hz) (by intro z hz H; exact (lI A om H).2.1 hz)) (aw (j7 (aw (show g9 _ (rd xa.1 x.bk.length 3 (x.bk.map cE.cells)).holds from (cd 6 U (bB hx F (by simp [aT.jU]))))<|eG 0 U U<|eG 2 U U<|aS))<|aS) U) ?_
 refine rS (FU U) ?_
 refine rS (CL (Cf 0 86400001 (Value.func (.func 209) [].toArray [(vP E),(vP D)].toArray) (fun C=>(decide (s.Read<C+(iS x C).Lo))) (iH [(rd xa.1 x.bk.length 3 (x.bk.map cE.cells)),(cy E 133 (dE.cells (dE.mk x.dA (bj.mk xa.1 x.bk.length xa.2)))),(cy D 113 (aH.cells s))]) (gE (iE x s.Read) 86400001) (by intro C _; exact lp (fi:=[]) (ca:=[(vP E),(vP D)]) (j8 (KT C x xa.1 xa.2 E s D (by first|assumption|omega) (by first|assumption|omega)) (OU 0 1 2 U U U U U U))) om (by intro z G hz; exact (lI A G om).2.2.1 hz) (by intro z hz H; exact (lI A om H).2.2.2 hz)) (aw (j7 (aw (show g9 _ (rd xa.1 x.bk.length 3 (x.bk.map cE.cells)).holds from (cd 6 U (bB hx F (by simp [aT.jU]))))<|eG 0 U U<|eG 2 U U<|aS))<|aS) U) ?_
 refine rP 1 [] I ?_
 refine rS (SX (bE (xs:=[(0,.tmp 18),(1,.tmp 21)]) (cs:=(ai.cells (ai.mk (gE (iB x s.Read) 86400001) ((gE (iE x s.Read) 86400001)-1)))) U U (bD g6 U)) U U)<|pV U cW U<|RK K<|ak<|Bf hQ [0] (mc 1 U I) U ?_
 unfold dq B5; rw [xh hy hx]
end
section
open Go.RowKit
theorem tn (ln:bW) (ri:de) (e:List Int) (tms:List TM) (e_A:OA) (e_C:Nat) (tb:List Nat) (t_A:OA) (t_C:Nat) (fA:OA) (fN fC:Nat) (bA:OA) (bN bC:Nat) (gw b:Nat) (g1 g2:Nat) (hb:b<tms.length) (htb:tb.length=tms.length):
 MJ Tryz.prog 210 [] [(vP g1),(vP g2)] [(rd e_A e.length 1 (e.map iC)),(rd t_A tms.length 1 (List.zipWith gK tms tb)),(iH (bK p6 tms tb)),(cy gw 276 (ck.cells (ck.mk ln ri (bj.mk e_A e.length e_C) (bj.mk t_A tms.length t_C) (bj.mk fA fN fC) (bj.mk bA bN bC)))),(cy g1 228 [(vP gw)]),(cy g2 3 [(vI (b:Int))])] ([]:List (Int×ai)) (fun ys x ys'=> ∃ o,o∈jZ (cV ln ri e tms) b∧x=OO o∧ys'=ys++[o]) (fun ys=> ∀ o∈jZ (cV ln ri e tms) b,o∈ys):=by
 refine E6 kr Tryz.func210 U U fun l J Z A0 d Q hY V AA hQ hN=>?_
 try dsimp only
 refine ag fun _ X=>ag fun _ R=>cS cj 12 kr<|kf 2 [] (mr 5 U I) U<|dS (SX (cv U U) U U)<|kf 4 [0,1] (mr 4 U (mr 5 U I)) U<|dS (SX (cv U U) U U)<|dP 3 [] (mr 4 U I) ?_
 refine dS (SX (bE (xs:=[(0,.tmp 11),(1,.tmp 16)]) (cs:=(ai.cells (ai.mk ri.Start ri.gL))) U U (bD g6 U)) U U)<|cu<|x7 (k:=([]:List (Int×ai))) (k':=(([]:List (Int×ai))++[((-1),(ai.mk ri.Start ri.gL))])) 0 (by first|exact hsz|exact Nat.le_refl _) hY V AA U U U (by exact ⟨(-1,⟨ri.Start,ri.gL⟩),cr ..,U,U⟩) U U (fun B3 N M=>?_) (fun B3 N M=>?_)
 rotate_left 1
 ·refine rP 1 [] I ?_
  refine RK R<|aL U<|ak ?_
  refine hQ _ _ _ (j4 (vs:=[]) trivial fun w hs=>FB 0 U N M hs)
 refine bp 1 U<|RK R<|bT U<|WK X<|ag fun _ Y=>cS cj 7 kr<|kf 1 [] (mr 5 U I) U<|dS (SX (cv U U) U U)<|dP 3 [0,1] (mr 4 U (mr 6 U I)) ?_
 obtain ⟨x,hx⟩:=aA tms b om
 obtain ⟨xa,L⟩:=aA tb b om
 have a:(List.zipWith gK tms tb)[b]? =some (gK x xa):=cG hx L
 refine dS (IA b U (av 2 U) x3 dc om om)<|dS (gv b 0 (Value.map (some xa)) U bV (av 2 U) a U dc U)<|cu<|qu (kV:=iV) (m:=cT j5 x) 3 U U sZ U ⟨⟨(kx iV xa (cT j5 x)),(bB hx L (by simp [p6])),U⟩,fun h=>h⟩ (show g9 _ (kx iV xa (cT j5 x)).holds from cd 3 U (bB hx L (by simp [p6]))) U fun j=>?_
 try dsimp only
 refine RK Y<|ax ?_
 have G:(∀ o∈x,o∈x∨o∈(([]:List (Int×ai))++[((-1),(ai.mk ri.Start ri.gL))]))∧(∀ o∈x,o∈x)∧(J (([]:List (Int×ai))++[((-1),(ai.mk ri.Start ri.gL))]) B3)∧(Fo A0 d B3)∧((-1,(⟨ri.Start,ri.gL⟩:ai))∈(([]:List (Int×ai))++[((-1),(ai.mk ri.Start ri.gL))])):=by exact ⟨fun o ho=> .inl ho,fun o ho=>ho,asm,asm,sm⟩
 refine bP (ι:={z:TM×(List (Int×ai))×ay // (∀ o∈x,o∈z.1∨o∈z.2.1)∧(∀ o∈z.1,o∈x)∧(J z.2.1 z.2.2)∧(Fo A0 d z.2.2)∧((-1,(⟨ri.Start,ri.gL⟩:ai))∈z.2.1)}) [0,1,2,27] [2,3,4,6,7] U U (fun z=>[]) (fun z=>[(Dr iV j xa (cT j5 x) (cT j5 z.1.1) none),z.1.2.2]) (fun _=>rfl) (fun _=>rfl) (fun z=>z.1.1.length) ⟨(x,(([]:List (Int×ai))++[((-1),(ai.mk ri.Start ri.gL))]),B3),G⟩ (cR.nil _) (aK [2,3,4,6,7,0,1]) ?_
 clear G
 rintro ⟨⟨left,ys,A⟩,⟨B,C,D,E,F⟩⟩ J8 W
 try dsimp only at B C D E F
 try dsimp only
 refine WS fun _ S=>oL (iW oV).inj (f:=j5) 5 U U U U (fun T=>?_) (fun i z hm hn=>?_)
 ·refine rP 1 [] I ?_
  refine RK S<|ag fun _ c=>bT U<|bM<|ab<|ab<|aF ?_
  refine hN _ _ _ (j4 (vs:=[]) trivial fun w hs=>Qx 6 U (by exact Hg hx B T F) D E hs)
 try dsimp only
 refine bp 1 U<|RK S<|ag fun _ O=>aL U<|WK O<|ax<|WS fun _ P=>rS (SX (oT 5 U U U) U U)<|bp 2 U<|AL U eh fun g=>bp 1 U<|e7 U cW U<|RK P<|WS fun _ K=>rP 3 [] (mc 0 U I) ?_
 refine x7 (k:=ys) (k':=(ys++[(i,z)])) 7 (by first|exact hsz|exact Nat.le_refl _) hY D E U U U (by exact ⟨(i,z),(yQ hx).2 (.inr (C _ hm)),U,U⟩) U U (fun B15 AB H=>?_) (fun B15 AB H=>?_)
 rotate_left 1
 ·refine rP 1 [] I ?_
  refine RK K<|aL U<|ak ?_
  refine hQ _ _ _ (j4 (vs:=[]) trivial fun w hs=>FB 7 U AB H hs)
 refine rP 1 [] I ?_
 refine RK K<|bT U<|cg<|aJ<|rT 6 U pB U ?_
 refine a_ (W ⟨((fz left i),(ys++[(i,z)]),B15),⟨Gg hn hm B,m7 C,asm,asm,by simp [F]⟩⟩ _ _ _ U (mY hm) (bf U) (aK [1,2,3,4,5,6,7]))
theorem vJ (gw b:Nat):
 lR Tryz.prog 187 [(vP gw),(vI (b:Int))] [] (fun (x:Nat×Nat)=>(Value.func (.func 210) [].toArray [(Value.pointer (some ⟨x.1,0,none⟩)),(Value.pointer (some ⟨x.2,0,none⟩))].toArray)) (fun (x:Nat×Nat)=>True) (fun (x:Nat×Nat)=>[(cy x.1 228 [(vP gw)]),(cy x.2 3 [(vI (b:Int))])]):=by
 refine dL kr Tryz.func187 U U fun E Q hQ hN=>?_
 try dsimp only
 refine WS fun _ A=>wV U U fun C=>wV U U fun D=>bp 1 U<|RK A<|WS fun _ B=>rS (FU U)<|rP 1 [] I ?_
 refine RK B<|ak<|LX hQ (C,D) [1,0] [] I U U U U ?_
 trivial
theorem Il (gw b:Nat):
 lR Tryz.prog 149 [(vP gw),(vI (b:Int))] [] (fun (x:Nat×Nat)=>(Value.func (.func 186) [].toArray [(Value.pointer (some ⟨x.1,0,none⟩)),(Value.pointer (some ⟨x.2,0,none⟩))].toArray)) (fun (x:Nat×Nat)=>True) (fun (x:Nat×Nat)=>[(cy x.1 228 [(vP gw)]),(cy x.2 3 [(vI (b:Int))])]):=by
 refine dL kr Tryz.func149 U U fun E Q hQ hN=>?_
 try dsimp only
 refine WS fun _ A=>wV U U fun C=>wV U U fun D=>bp 1 U<|RK A<|WS fun _ B=>rS (FU U)<|rP 1 [] I ?_
 refine RK B<|ak<|LX hQ (C,D) [1,0] [] I U U U U ?_
 trivial
end
end Go.Proofs.YtkaenmjhfajbkaaGreatDoor
