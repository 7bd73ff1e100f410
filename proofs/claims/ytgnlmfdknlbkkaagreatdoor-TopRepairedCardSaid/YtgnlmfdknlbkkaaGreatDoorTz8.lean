/-
 The statement topRepaired_said, part 8 of 9: Jw1, Jw2, S1, Wh1, Jw3, IdxK, Jw4, Jw5, Jw6, Jw8, Jw9, Jwa, Jwb, Rr2, Jr1, Rr3, Rr4, Rr5, Rra, Jr2, Jr3, Jx1, Jx2, Jx3, Win6, JWin, Rx3, Jw7, Jz3, T1, W5, W1, W6, W7, W3, W9, W10, W11, Q1.
 Conditions: none.
-/
import Derived.Test.YtgnlmfdknlbkkaaGreatDoorTz1
import Derived.Test.YtgnlmfdknlbkkaaGreatDoorTz2
import Derived.Test.YtgnlmfdknlbkkaaGreatDoorTz3
import Derived.Test.YtgnlmfdknlbkkaaGreatDoorTz4
import Derived.Test.YtgnlmfdknlbkkaaGreatDoorTz5
import Derived.Test.YtgnlmfdknlbkkaaGreatDoorTz6
import Derived.Test.YtgnlmfdknlbkkaaGreatDoorTz7
open List (all lookup map zipWith)
open Bool (noConfusion)
namespace Go.Proofs.YtgnlmfdknlbkkaaGreatDoor
set_option maxRecDepth 100000
set_option maxHeartbeats 4000000
set_option linter.unusedVariables false
variable {E:fM} {Q:dk} {D:iF} {L:dH} {C C1:List ar}
section
open Go.RowKit
theorem ON (n lo hi:Int) (g1 g2:Nat):
 de Tryz.prog 61 [(vI n),(vP g1),(vP g2)] [(cb g1 3 [(vI lo)]),(cb g2 3 [(vI hi)])] (vB (decide (n<lo∨hi<n))):=by
 refine bg kr Tryz.func61 U U fun B Q hQ hN=>?_
 try dsimp only
 refine cm bS 11 [] (mr 0 U mn) ?_;refine bJ (t:=8) U (aH fun A=>?_) (aG fun A=>?_)
 ·exact cr aj 8 hQ U U<|cB (cT I).symm
 exact yY aj 8 hQ [] (mr 1 U mn) U U<|cB (iw.2 I)
theorem j0 (lo hi:Int) (l:List Int) (lA:OA) (lC:Nat) (hlen:l.length≤1000000):
 de Tryz.prog 27 [(vI lo),(vI hi),(vS lA l.length lC)] [(eE lA l)] (vB (oK lo hi l)):=by
 refine bg kr Tryz.func27 U U fun D Q hQ hN=>?_
 try dsimp only
 refine aS bS 2 U<|sR U U fun A=>sR U U fun B=>aq aj 6 ?_;refine rS (FU U) ?_;refine rS (CL (pk l lA lC (Value.func (.func 61) [].toArray [(vP A),(vP B)].toArray) (fun C=>(decide (C<lo∨hi<C))) (iX [(cb A 3 [(vI lo)]),(cb B 3 [(vI hi)])]) (by intro C _;exact kU (fi:=[]) (ca:=[(vP A),(vP B)]) (jP (ON C lo hi A B) (aP [0,1]))) hlen) (gN 2 U U<|aw (jH (aP [1,0]))<|aA) U) ?_;exact cr aj 5 hQ U U U
theorem v7 (o fx:Bool) (tm:aa) (rv:dx):
 de Tryz.prog 105 [(vA (aO.cells (aO.mk o fx tm rv)))] [] (vB (decide (o=false∧fx=false))):=by
 refine bg kr Tryz.func105 U U fun C Q hQ hN=>?_
 try dsimp only
 refine aS bS 2 U<|dV U fun B=>cm aj 9 [] (mc 0 U mn) ?_;refine cz (t:=6) U (fun A=>?_) (fun A=>?_)
 ·rw [m5] at A;refine cr aj 8 hQ U U ?_;clear hQ hN;refine cB ?_
  (simp_all;done)
 rw [e0] at A;refine yY aj 8 hQ [] (mc 0 U mn) U U ?_;clear hQ hN;refine cB ?_
 (simp_all;done)
theorem Si (l:List bO) (lA:OA) (lC:Nat) (f:Value) (p:Int→bO→Bool) (X:ar) (hf: ∀ x0 x1,(∃ i_:Nat,x0=(i_:Int)∧l[i_]? =some x1)→BH Tryz.prog f [.int .i64 x0,.agg (bO.cells x1).toArray] [X] (.bool (p x0 x1))) (hlen:l.length≤1000000):
 lf Tryz.prog 103 [(vS lA l.length lC),f] [(oO lA l),X] (fun (x:(OA)×Nat)=>(vS x.1 ((jX (jk l p) l.length).length) x.2)) (fun (x:(OA)×Nat)=>True) (fun (x:(OA)×Nat)=>[(fB x.1 x.2 (jX (jk l p) l.length))]):=by
 refine cR kr Tryz.func103 U U fun M Q hQ hN=>?_
 try dsimp only
 refine aq bS 19 ?_;refine eC 3 1 ?_;have A:(0≤l.length):=by exact c4 _
 refine bu (ι:={z:Nat×(OA)×Nat // (z.1≤l.length)}) [1,8,9] [1,2] U U (fun z=>[(5,(vS z.1.2.1 ((jX (jk l p) z.1.1).length) z.1.2.2)),(10,(vI (z.1.1:Int)))]) (fun z=>[(fB z.1.2.1 z.1.2.2 (jX (jk l p) z.1.1))]) (fun _=>rfl) (fun _=>rfl) (fun z=>l.length-z.1.1) ⟨(0,none,0),A⟩ (aN U) (aB [1,2,0]) ?_;clear A;rintro ⟨⟨i,a,c⟩,C⟩ J5 D
 try dsimp only at C
 try dsimp only
 refine aq bS 6 ?_;refine bE U (aG fun L=>?_) (aH fun L=>?_)
 ·refine aS aW 1 U<|aq fD 4 ?_;rw [show (jX (jk l p) i)=(jX (jk l p) l.length) from by rw [show i=l.length by omega]];refine aq aj 5 ?_;refine LX hQ (a,c) [2] [] mn U U U U ?_;trivial
 refine aq aW 7 ?_;obtain ⟨x,hx⟩:=ax l i I;have AA:=bw bO.cells hx;refine rS (IA i U (au 0 U) KL dc I I)<|rS (ld i 0 (bO.cells x) U bP (au 0 U) AA U dc U U)<|AL U Uc fun J=>aS aj 1 U<|eN U UO U<|dD aj 7 [] (mc 0 U mn) U<|rS (SX (pE U U U (hf (i:Int) x ⟨_,U,hx⟩) (aP [2])) U U)<|aq aj 2 ?_;refine bE U (fun B=>?_) (fun B=>?_)
 ·refine aq aW 7 ?_;rw [show jX (jk l p) i=jX (jk l p) (i+1) from (Ca (by rw [uD hx];simpa using B)).symm];have F:(vI (((i+1):Nat):Int))=(vI ((i:Int)+1)):=by exact cI I
  refine aL (D ⟨((i+1),a,c),(by first|omega|(simp only [];omega))⟩ _ _ _ U os (cx 4<|aQ U F<|cS.nil _) (aB [1,2,3]))
 refine aq aW 3 ?_;refine dC (xs:=[.tmp 20]) (cs:=[(vI (i:Int))]) U cM jW U U U U (by simp [Value.cells]) U U fun K=>?_;refine cZ (es2:=(map iC (jX (jk l p) (i+1)))) (m':=(jX (jk l p) (i+1)).length) 4 U U U pI U U sm (aM (es:=map iC [(i:Int)]) 0 U U (by simp [br]) U) (j4 _) (by have:=rP (P:=jk l p) (n:=i);omega) (by have:=rP (P:=jk l p) (n:=i);simp only [maxLen];omega) (by rw [xP (by rw [uD hx];exact B)];simp) sm U fun G H=>?_
 try dsimp only
 refine aq aj 8 ?_;have E:(vI (((i+1):Nat):Int))=(vI ((i:Int)+1)):=by exact cI I
 refine aL (D ⟨((i+1),G,H),(by first|omega|(simp only [];omega))⟩ _ _ _ U os (cx 4<|aQ U E<|cS.nil _) (aB [2,3,4]))
theorem Ja (l:List c_) (lA:OA) (lC:Nat) (f:Value) (p:Int→c_→Bool) (X:ar) (hf: ∀ x0 x1,(∃ i_:Nat,x0=(i_:Int)∧l[i_]? =some x1)→BH Tryz.prog f [.int .i64 x0,.agg (c_.cells x1).toArray] [X] (.bool (p x0 x1))) (hlen:l.length≤1000000):
 lf Tryz.prog 46 [(vS lA l.length lC),f] [(qC lA l),X] (fun (x:(OA)×Nat)=>(vS x.1 ((jX (jk l p) l.length).length) x.2)) (fun (x:(OA)×Nat)=>True) (fun (x:(OA)×Nat)=>[(fB x.1 x.2 (jX (jk l p) l.length))]):=by
 refine cR kr Tryz.func46 U U fun M Q hQ hN=>?_
 try dsimp only
 refine aq bS 19 ?_;refine eC 3 1 ?_;have A:(0≤l.length):=by exact c4 _
 refine bu (ι:={z:Nat×(OA)×Nat // (z.1≤l.length)}) [1,8,9] [1,2] U U (fun z=>[(5,(vS z.1.2.1 ((jX (jk l p) z.1.1).length) z.1.2.2)),(10,(vI (z.1.1:Int)))]) (fun z=>[(fB z.1.2.1 z.1.2.2 (jX (jk l p) z.1.1))]) (fun _=>rfl) (fun _=>rfl) (fun z=>l.length-z.1.1) ⟨(0,none,0),A⟩ (aN U) (aB [1,2,0]) ?_;clear A;rintro ⟨⟨i,a,c⟩,C⟩ J5 D
 try dsimp only at C
 try dsimp only
 refine aq bS 6 ?_;refine bE U (aG fun L=>?_) (aH fun L=>?_)
 ·refine aS aW 1 U<|aq fD 4 ?_;rw [show (jX (jk l p) i)=(jX (jk l p) l.length) from by rw [show i=l.length by omega]];refine aq aj 5 ?_;refine LX hQ (a,c) [2] [] mn U U U U ?_;trivial
 refine aq aW 7 ?_;obtain ⟨x,hx⟩:=ax l i I;have AA:=bw c_.cells hx;refine rS (IA i U (au 0 U) Qs dc I I)<|rS (ld i 0 (c_.cells x) U bP (au 0 U) AA U dc U U)<|AL U NZ fun J=>aS aj 1 U<|eN U Qa U<|dD aj 7 [] (mc 0 U mn) U<|rS (SX (pE U U U (hf (i:Int) x ⟨_,U,hx⟩) (aP [2])) U U)<|aq aj 2 ?_;refine bE U (fun B=>?_) (fun B=>?_)
 ·refine aq aW 7 ?_;rw [show jX (jk l p) i=jX (jk l p) (i+1) from (Ca (by rw [uD hx];simpa using B)).symm];have F:(vI (((i+1):Nat):Int))=(vI ((i:Int)+1)):=by exact cI I
  refine aL (D ⟨((i+1),a,c),(by first|omega|(simp only [];omega))⟩ _ _ _ U os (cx 4<|aQ U F<|cS.nil _) (aB [1,2,3]))
 refine aq aW 3 ?_;refine dC (xs:=[.tmp 20]) (cs:=[(vI (i:Int))]) U cM jW U U U U (by simp [Value.cells]) U U fun K=>?_;refine cZ (es2:=(map iC (jX (jk l p) (i+1)))) (m':=(jX (jk l p) (i+1)).length) 4 U U U pI U U sm (aM (es:=map iC [(i:Int)]) 0 U U (by simp [br]) U) (j4 _) (by have:=rP (P:=jk l p) (n:=i);omega) (by have:=rP (P:=jk l p) (n:=i);simp only [maxLen];omega) (by rw [xP (by rw [uD hx];exact B)];simp) sm U fun G H=>?_
 try dsimp only
 refine aq aj 8 ?_;have E:(vI (((i+1):Nat):Int))=(vI ((i:Int)+1)):=by exact cI I
 refine aL (D ⟨((i+1),G,H),(by first|omega|(simp only [];omega))⟩ _ _ _ U os (cx 4<|aQ U E<|cS.nil _) (aB [2,3,4]))
end
section
open Go.RowKit
variable (i:Int) (f:bO) (j:dy) (kA:OA) (kC:Nat) (cA:OA) (cC:Nat) (bA:OA) (bC:Nat) (slA:OA) (slC:Nat) (drA:OA) (drC:Nat) (heA:OA) (heC:Nat) (faA:OA) (faC:Nat) (prA:OA) (prC:Nat)
theorem QQ (g1:Nat) (hk:0≤f.Kind∧f.Kind≤255):
 de Tryz.prog 104 [(vI i),(vA (bO.cells f)),(vP g1)] [(cb g1 36 (kp.cells (rL j kA kC cA cC bA bC slA slC drA drC heA heC faA faC prA prC)))] (vB (decide (¬ qu j.Race.av.b_ f))):=by
 refine bg kr Tryz.func104 U U fun O Q hQ hN=>?_
 try dsimp only
 refine aS bS 2 U<|dV U fun N=>dD aj 17 [0,1] (mr 1 U (mc 0 U mn)) U<|rS (BI U nt)<|aq aj 2 ?_;refine bY U (aH fun A=>?_) (aG fun A=>?_)
 ·refine cm aW 8 [] (mc 0 U mn) ?_;refine rS (SX (ql (m:=f.Kind) U U ML nZ (mI (by first|assumption|omega))) U U)<|dC (xs:=[.tmp 16]) (cs:=[(vI f.Kind)]) U cM jW U U U U (by simp [Value.cells]) U U fun K=>?_;refine rS (CL (de.eq (j0 1 3 ([f.Kind]) (some ⟨K,0,none⟩) 1 (by (simp;done))) cp) (aw (aM 0 U U (by simp [br]) U)<|aA) U) ?_;refine aq aj 2 ?_;refine bJ (t:=20) U (aJ fun M=>?_) (aK fun M=>?_)
  ·refine cr aj 27 hQ U U ?_
   (refine cB (cT ?_).symm;(rw [w5 A];omega))
  refine cm aj 4 [] (mc 1 U mn) ?_;refine dC (xs:=[.tmp 22,.tmp 24]) (cs:=[(vI f.og),(vI f.To)]) U cM jW U U U U (by simp [Value.cells]) U U fun L=>?_;refine rS (CL (de.eq (j0 0 86400000 ([f.og,f.To]) (some ⟨L,0,none⟩) 2 (by (simp;done))) qE) (aw (aM 0 U U (by simp [br]) U)<|aA) U) ?_;refine aq aj 3 ?_;refine bJ (t:=29) U (aJ fun F=>?_) (aK fun F=>?_)
  ·refine cr aj 18 hQ U U ?_
   (refine cB (cT ?_).symm;(rw [w5 A];omega))
  refine cm aj 7 [] (mc 2 U mn) ?_;refine bJ (t:=36) U (aH fun G=>?_) (aG fun G=>?_)
  ·refine cr aj 11 hQ U U ?_
   (refine cB (cT ?_).symm;(rw [w5 A];omega))
  refine cm aj 3 [] (mc 2 U mn) ?_;refine dC (xs:=[.tmp 39]) (cs:=[(vI f.ji)]) U cM jW U U U U (by simp [Value.cells]) U U fun B=>?_;refine rS (CL (de.eq (j0 0 0 ([f.ji]) (some ⟨B,0,none⟩) 1 (by (simp;done))) cp) (aw (aM 0 U U (by simp [br]) U)<|aA) U) ?_;refine cr aj 6 hQ U U ?_
  (refine cB (decide_not.symm.trans (iw.2 ?_));(rw [w5 A];omega))
 refine cm aW 6 [] (mc 0 U mn) ?_;refine rS (SX (ql (m:=f.Kind) U U ML nZ (mI (by first|assumption|omega))) U U)<|dC (xs:=[.tmp 16]) (cs:=[(vI f.Kind)]) U cM jW U U U U (by simp [Value.cells]) U U fun C=>?_;refine rS (CL (de.eq (j0 1 3 ([f.Kind]) (some ⟨C,0,none⟩) 1 (by (simp;done))) cp) (aw (aM 0 U U (by simp [br]) U)<|aA) U) ?_;refine aq aj 2 ?_;refine bJ (t:=20) U (aJ fun H=>?_) (aK fun H=>?_)
 ·refine cr aj 27 hQ U U ?_
  (refine cB (cT ?_).symm;(rw [wI A];omega))
 refine cm aj 4 [] (mc 1 U mn) ?_;refine dC (xs:=[.tmp 22,.tmp 24]) (cs:=[(vI f.og),(vI f.To)]) U cM jW U U U U (by simp [Value.cells]) U U fun D=>?_;refine rS (CL (de.eq (j0 0 86400000 ([f.og,f.To]) (some ⟨D,0,none⟩) 2 (by (simp;done))) qE) (aw (aM 0 U U (by simp [br]) U)<|aA) U) ?_;refine aq aj 3 ?_;refine bJ (t:=29) U (aJ fun AA=>?_) (aK fun AA=>?_)
 ·refine cr aj 18 hQ U U ?_
  (refine cB (cT ?_).symm;(rw [wI A];omega))
 refine cm aj 7 [] (mc 2 U mn) ?_;refine bJ (t:=36) U (aH fun J=>?_) (aG fun J=>?_)
 ·refine cr aj 11 hQ U U ?_
  (refine cB (cT ?_).symm;(rw [wI A];omega))
 refine cm aj 3 [] (mc 2 U mn) ?_;refine dC (xs:=[.tmp 39]) (cs:=[(vI f.ji)]) U cM jW U U U U (by simp [Value.cells]) U U fun E=>?_;refine rS (CL (de.eq (j0 0 j.Race.av.b_ ([f.ji]) (some ⟨E,0,none⟩) 1 (by (simp;done))) cp) (aw (aM 0 U U (by simp [br]) U)<|aA) U) ?_;refine cr aj 6 hQ U U ?_
 (refine cB (decide_not.symm.trans (iw.2 ?_));(rw [wI A];omega))
theorem wV (fk fw:Int) (ff ft:Int) (al ah:Int) (ae an:Bool) (bl bh:Int) (be bn:Bool):
 de Tryz.prog 181 [(vA (bO.cells (bO.mk fk fw ff ft))),(vA (lS.cells (lS.mk (aa.mk al ah) ae an))),(vA (lS.cells (lS.mk (aa.mk bl bh) be bn)))] [] (vB (decide (ah≤ft∧ff≤bl))):=by
 refine bg kr Tryz.func181 U U fun E Q hQ hN=>?_
 try dsimp only
 refine aS bS 2 U<|dV U fun B=>dV U fun C=>dV U fun D=>cm aj 12 [0,1] (mc 1 U (mc 2 U mn)) ?_;refine cz (t:=13) U (aG fun A=>?_) (aH fun A=>?_)
 ·exact cr aj 11 hQ U U<|cB (bj I).symm
 exact yY aj 11 hQ [0,1] (mc 0 U (mc 2 U mn)) U U<|cB (iw.2 I)
theorem Jk (fk fw:Int) (ff ft:Int) (al ah:Int) (ae an:Bool) (bl bh:Int) (be bn:Bool):
 de Tryz.prog 185 [(vA (bO.cells (bO.mk fk fw ff ft))),(vA (lS.cells (lS.mk (aa.mk al ah) ae an))),(vA (lS.cells (lS.mk (aa.mk bl bh) be bn)))] [] (vB (decide (aa.mk (max al ff) (min ah ft)=aa.mk al ah))):=by
 refine bg kr Tryz.func185 U U fun D Q hQ hN=>?_
 try dsimp only
 refine aS bS 2 U<|dV U fun A=>dV U fun B=>dV U fun C=>dD aj 10 [0,1] (mc 1 U (mc 2 U mn)) U<|rS (MX U)<|dD aj 5 [0,1] (mc 1 U (mc 2 U mn)) U<|rS (MN U)<|rS (SX (aU (xs:=[(0,.tmp 12),(1,.tmp 18)]) (cs:=(aa.cells (aa.mk (max al ff) (min ah ft)))) U U (aT gP U)) U U)<|aq aj 1 ?_;refine rS (LP (aa.cells (aa.mk al ah)) 1 U bP U U U)<|rS (BI U (wU _ _ (aa.mk (max al ff) (min ah ft)) (aa.mk al ah))) ?_;exact cr aj 4 hQ U U U
theorem Xj (fk fw:Int) (ff ft:Int):
 de Tryz.prog 182 [(vA (dq.cells (dq.mk (rL j kA kC cA cC bA bC slA slC drA drC heA heC faA faC prA prC)))),(vA (bO.cells (bO.mk fk fw ff ft)))] [] (vT [(vI (-1)),(vI j.Race.av.b_)]):=by
 refine bg kr Tryz.func182 U U fun C Q hQ hN=>?_
 try dsimp only
 refine aS bS 2 U<|dV U fun A=>dV U fun B=>aS aj 5 U<|cK bX 7 kr<|jZ 7 [] (mc 1 U mn) U<|cy<|aq aj 3 ?_;refine Q2 hQ U U U U ?_;rfl
theorem XD (fk fw:Int) (ff ft:Int) (hw:0≤fw∧fw≤1000000):
 de Tryz.prog 183 [(vA (dq.cells (dq.mk (rL j kA kC cA cC bA bC slA slC drA drC heA heC faA faC prA prC)))),(vA (bO.cells (bO.mk fk fw ff ft)))] [] (vT [(vI (fw-1)),(vI fw)]):=by
 refine bg kr Tryz.func183 U U fun C Q hQ hN=>?_
 try dsimp only
 refine aS bS 2 U<|dV U fun A=>dV U fun B=>aq aj 5 ?_;refine cK bX 7 kr ?_
 try dsimp only
 refine jZ 7 [] (mc 0 U mn) U<|cy<|aq aj 3 ?_;refine Q2 hQ U U U U ?_;rfl
theorem XX (fk fw:Int) (ff ft:Int):
 de Tryz.prog 184 [(vA (dq.cells (dq.mk (rL j kA kC cA cC bA bC slA slC drA drC heA heC faA faC prA prC)))),(vA (bO.cells (bO.mk fk fw ff ft)))] [] (vT [(vI fw),(vI fw)]):=by
 refine bg kr Tryz.func184 U U fun C Q hQ hN=>?_
 try dsimp only
 refine aS bS 2 U<|dV U fun A=>dV U fun B=>aS aj 5 U<|cK bX 6 kr<|jZ 6 [] (mc 0 U mn) U<|cy<|aq aj 3 ?_;refine Q2 hQ U U U U ?_;rfl
theorem AB:
 de Tryz.prog 141 [] [] (vA ((fE.cells (fE.mk Value.nilFunc Value.nilFunc))++(fE.cells (fE.mk (Value.func (.func 182) [].toArray [].toArray) (Value.func (.func 181) [].toArray [].toArray)))++(fE.cells (fE.mk (Value.func (.func 183) [].toArray [].toArray) (Value.func (.func 181) [].toArray [].toArray)))++(fE.cells (fE.mk (Value.func (.func 184) [].toArray [].toArray) (Value.func (.func 185) [].toArray [].toArray))))):=by
 refine bg kr Tryz.func141 U U fun B Q hQ hN=>?_
 try dsimp only
 refine aS bS 2 U<|AL U YK fun A=>aS aj 10 U<|rS (SX (aU (xs:=[(0,.func 182),(1,.tmp 2)]) (cs:=(fE.cells (fE.mk (Value.func (.func 182) [].toArray [].toArray) (Value.func (.func 181) [].toArray [].toArray)))) U U (aT QV U)) U U)<|aS aj 1 U<|rS (SX (aU (xs:=[(0,.func 183),(1,.tmp 4)]) (cs:=(fE.cells (fE.mk (Value.func (.func 183) [].toArray [].toArray) (Value.func (.func 181) [].toArray [].toArray)))) U U (aT QV U)) U U)<|rS (SX (aU (xs:=[(0,.func 184),(1,.func 185)]) (cs:=(fE.cells (fE.mk (Value.func (.func 184) [].toArray [].toArray) (Value.func (.func 185) [].toArray [].toArray)))) U U (aT QV U)) U U)<|rS (SX (aU (xs:=[(1,.tmp 3),(2,.tmp 5),(3,.tmp 6)]) (cs:=((fE.cells (fE.mk Value.nilFunc Value.nilFunc))++(fE.cells (fE.mk (Value.func (.func 182) [].toArray [].toArray) (Value.func (.func 181) [].toArray [].toArray)))++(fE.cells (fE.mk (Value.func (.func 183) [].toArray [].toArray) (Value.func (.func 181) [].toArray [].toArray)))++(fE.cells (fE.mk (Value.func (.func 184) [].toArray [].toArray) (Value.func (.func 185) [].toArray [].toArray))))) U U (aT Zu U)) U U)<|eN U ZD U<|aq aj 3 ?_;refine GG hQ [0] (mc 0 U mn) U ?_;rfl
theorem Gj (l:List bO) (lA:OA) (lC:Nat) (f:bO) (hlen:l.length≤1000000):
 de Tryz.prog 57 [(vS lA l.length lC),(vA (bO.cells f))] [(oO lA l)] (vI (qt l f)):=by
 refine bg kr Tryz.func57 U U fun J Q hQ hN=>?_
 try dsimp only
 refine aS bS 2 U<|dV U fun AA=>aq aj 12 ?_;have B:(0≤l.length)∧(∀ (q:Nat) y,q<0→l[q]? =some y→y≠f):=by exact ⟨c4 _,fun q y hq=>absurd hq (s4 _)⟩
 refine bu (ι:={z:Nat // (z≤l.length)∧(∀ (q:Nat) y,q<z→l[q]? =some y→y≠f)}) [0,3,7] [0,1] U U (fun z=>[(8,(vI (z.1:Int)))]) (fun z=>[]) (fun _=>rfl) (fun _=>rfl) (fun z=>l.length-z.1) ⟨0,B⟩ (aN U) (aB [0,1]) ?_;clear B;rintro ⟨i,⟨F,A⟩⟩ J5 E
 try dsimp only
 refine aq bS 6 ?_;refine bE U (aG fun H=>?_) (aH fun H=>?_)
 ·exact aS aW 1 U<|cr fD 8 hQ U U<|cI (SU A I).symm
 refine aS aW 11 U<|cK bX 6 kr<|dP 3 [] (mc 0 U mn) ?_;obtain ⟨x,hx⟩:=ax l i I;have G:=bw bO.cells hx;refine dS (IA i U (au 1 U) KL dc I I)<|dS (ld i 0 (bO.cells x) U bP (au 1 U) G U dc U U)<|dS (BI U (Vf _ _ f x))<|cy<|aq aj 2 ?_;refine bY U (aH fun C=>?_) (aG fun C=>?_)
 ·exact cr aW 7 hQ U U<|cI (Tn hx C.symm A).symm
 refine aq aW 7 ?_;have D:(vI (((i+1):Nat):Int))=(vI ((i:Int)+1)):=by exact cI I
 refine aL (E ⟨(i+1),⟨I,fun q y hq hy=>by rcases r4 q i with c|c;exact A q y c hy;(obtain rfl:q=i:=by omega);rw [hx] at hy;cases hy;exact fun e=>C e.symm⟩⟩ _ _ _ rfl os (cx 3<|aQ rfl D<|cS.nil _) (aB [0,1]))
end
section
open Go.RowKit
theorem XM (l:List Int) (lA:OA) (lC:Nat) (hne:1≤l.length) (hlen:l.length≤1000000):
 de Tryz.prog 180 [(vS lA l.length lC)] [(eE lA l)] (vI (rY l)):=by
 refine bg kr Tryz.func180 U U fun K Q hQ hN=>?_
 try dsimp only
 refine aq bS 13 ?_;refine bY U (aH fun J=>?_) (aG fun J=>?_)
 ·exfalso;omega
 refine aq aW 5 ?_;obtain ⟨E,B⟩:=ax l 0 I;have hx0m:=bw iC B;refine rS (IA 0 U (au 0 U) cM dc U I)<|rS (gG 0 0 (vI E) U bP (au 0 U) hx0m U dc U)<|aq aj 10 ?_;have A:(1≤1∧1≤l.length):=by omega
 have H:(vI (rY (l.take 1)))=(vI E):=by rw [Mw B]
 refine bu (ι:={z:Nat // (1≤z∧z≤l.length)}) [0] [0] U U (fun z=>[(3,(vI (rY (l.take z.1)))),(4,(vI (z.1:Int)))]) (fun z=>[]) (fun _=>rfl) (fun _=>rfl) (fun z=>l.length-z.1) ⟨1,A⟩ (aQ U H<|aN U) (aB [0]) ?_;clear A;rintro ⟨i,AA⟩ J9 G
 try dsimp only
 refine aq bS 9 ?_;refine bE U (aG fun F=>?_) (aH fun F=>?_)
 ·refine aS aW 1 U<|cr fD 9 hQ U U ?_;rw [c5 I]
 refine aq aW 8 ?_;obtain ⟨E,B⟩:=ax l i I;have hx0m:=bw iC B;refine rS (IA i U (au 0 U) cM dc I I)<|rS (gG i 0 (vI E) U bP (au 0 U) hx0m U dc U)<|rS (MN U)<|aq aj 9 ?_;have C:(vI (rY (l.take (i+1))))=(vI (min (rY (l.take i)) E)):=by rw [QS B I]
 have D:(vI (((i+1):Nat):Int))=(vI ((i:Int)+1)):=by exact cI I
 refine aL (G ⟨(i+1),(by first|omega|(simp only [];omega))⟩ _ _ _ U os (cS.cons U<|aQ U C<|aQ U D<|cS.nil _) (aB [0]))
end
section
open Go.RowKit
theorem Ty (l:a_) (kA:OA) (kC:Nat) (az:List RA) (cA:OA) (cC:Nat) (bA:OA) (bC:Nat) (r:cW) (sgA:OA) (sgC:Nat) (hin:dW l az) (hsl:r.ab.length≤1000000):
 lf Tryz.prog 179 [(vA (bU.cells (kN l kA kC cA cC bA bC))),(vA (dx.cells (jR r sgA sgC)))] ((rE l kA az cA bA)++[(gR sgA r.ab)]) (fun (x:(OA)×Nat)=>(vT [(vS x.1 ((lU l r).length) x.2),(vI (fO l r 0))])) (fun (x:(OA)×Nat)=>True) (fun (x:(OA)×Nat)=>[(fB x.1 x.2 (lU l r))]):=by
 have z:=hin.sS;have q:=hin.sT;have m:=hin.mD;have o:=hin.sU;have y:=hin.side;refine cR kr Tryz.func179 U U fun w0 Q hQ hN=>?_
 try dsimp only
 refine aS bS 2 U<|dV U fun b2=>dV U fun b3=>cm aj 8 [0,1] (mc 1 U (mc 0 U mn)) ?_;refine cX (Sl l kA kC az cA cC bA bC r sgA sgC hin hsl) (aP [2,3,4,5,6]) U fun y5 N=>?_;obtain ⟨O,k,Y,X,F,S,T,AA,B,AB,G,H,A,E,P,R⟩:=y5;cases O
 ·obtain ⟨L,he⟩:=N.2 rfl
  try dsimp only at L he
  subst L
  try dsimp only [cond_true,cond_false,List.cons_append,List.nil_append]
  refine aq aj 14 ?_;refine bE U (aK fun J=>?_) (aJ fun J=>?_)
  ·exact absurd J he
  refine aq aW 2 ?_;refine fT 3 1 ?_;rw [show (own none 0 3 1 ([]:List (List Value)))=own none 0 3 1 ((lU l r).map iC) from by rw [B_ he];rfl];refine aq aj 6 ?_;refine LX hQ (none,0) [0] [] mn U U U ?_ ?_
  ·(rw [B_ he];rfl)
  ·trivial
 obtain ⟨he,C,K,b,a,d⟩:=N.1 rfl
 try dsimp only [cond_true,cond_false,List.cons_append,List.nil_append]
 dsimp only at C K b a d;obtain ⟨Z,D,t,u⟩:=jT he;obtain ⟨e,M⟩:=ep Z;have c:=M.head;unfold fj at c;have f:=ow e M D;have w:=D.time;have v:=D.len;have h:(cv l l.ag.length).length=l.ag.length:=dE;have i:(cL l r.ab r.ab.length).length=l.ag.length:=hZ;have s:B.length=l.ag.length+1:=by have:=C.len;rw [show (dX l r).n=l.ag.length from dE] at this;exact this
 have p:A.length=l.ag.length+1:=by have:=K.len;rw [show (dX l r).n=l.ag.length from dE] at this;exact this
 refine aS aj 11 U<|rS (SX (ck (r:= .bool false) U U U nm) U U)<|aq aj 8 ?_;refine cX (xY (kN l kA kC cA cC bA bC) (jR r sgA sgC) (cv l l.ag.length) (cL l r.ab r.ab.length) X F AA S T B A AB G H E P R Y (by exact f) (by (simp;omega)) (by exact dE.symm) (by exact C) asm) (aw (ak (n:=(cv l l.ag.length).length) 1 U sm)<|aw (ak (n:=(cL l r.ab r.ab.length).length) 2 U (by rw [m4];omega))<|aw (dK 3 U m6)<|aw (ak (n:=B.length) 4 U (by rw [m4];omega))<|aw (dK 5 U m6)<|aw (ak (n:=A.length) 6 U (by rw [m4];omega))<|aw (dK 7 U m6)<|gN 0 U U<|aA) U fun g j=>?_;obtain ⟨V,W⟩:=g
 try dsimp only
 rw [show (ou (cQ (kN l kA kC cA cC bA bC) (jR r sgA sgC) (cv l l.ag.length) (cL l r.ab r.ab.length)))=lU l r from (Ch he).symm];refine aq aj 5 ?_;refine LX hQ (V,W) [0] [] mn U U U ?_ ?_
 ·(rw [he];rfl)
 ·trivial
end
section
open Go.RowKit
theorem nJ (j:dy) (kA:OA) (kC:Nat) (az:List RA) (cA:OA) (cC:Nat) (bA:OA) (bC:Nat) (slA:OA) (slC:Nat) (drA:OA) (drC:Nat) (ha:List cq) (heA:OA) (heC:Nat) (faA:OA) (faC:Nat) (prA:OA) (prC:Nat) (r:cW) (sgA:OA) (sgC:Nat) (b:Int) (hin:jA j az ha) (hsl:r.ab.length≤1000000):
 de Tryz.prog 140 [(vA (dq.cells (dq.mk (rL j kA kC cA cC bA bC slA slC drA drC heA heC faA faC prA prC)))),(vA (dx.cells (jR r sgA sgC))),(vI b)] ((BT j kA az cA bA slA drA ha heA faA prA)++[(gR sgA r.ab)]) (vA (lS.cells (lS.mk (aa.mk ((dw j.Race.av r b).Lo) ((dw j.Race.av r b).Hi)) ((dw j.Race.av r b).each) ((dw j.Race.av r b).never)))):=by
 have J:=hin.race;have F:=hin.race.line;have M:=hin.race.hE;have N:=hin.race.has;have K:=hin.race.hO;have H:=hin.nf;have AA:=hin.np;refine bg kr Tryz.func140 U U fun T Q hQ hN=>?_
 try dsimp only
 refine aS bS 2 U<|dV U fun O=>dV U fun P=>AL U qc fun R=>aq aj 9 ?_;refine bY U (aH fun B=>?_) (aG fun B=>?_)
 ·refine dD aW 6 [] (mc 1 U mn) U<|rS (SX (aU (xs:=[(0,.tmp 15),(1,.tmp 17)]) (cs:=(aa.cells (aa.mk r.Start r.Start))) U U (aT gP U)) U U)<|rS (SX (aU (xs:=[(0,.tmp 18),(1,.const (vB true)),(2,.const (vB false))]) (cs:=(lS.cells (lS.mk (aa.mk r.Start r.Start) true false))) U U (aT I_ U)) U U)<|eN U n9 U<|aq aj 3 ?_;refine GG hQ [0] (mc 0 U mn) U ?_
  (rw [Lm B])
 refine aS aW 7 U<|rS (LP (bU.cells (kN j.Race.av kA kC cA cC bA bC)) 2 U bP U U U)<|dD aj 2 [] (mc 1 U mn) U<|rS (CL (Em j.Race.av kA kC az cA cC bA bC r sgA sgC b asm hsl) (aP [3,4,5,6,13]) U)<|aS aj 3 U<|AL U dA fun S=>eN U cJ U<|aq aj 10 ?_;refine bY U (aJ fun A=>?_) (aK fun A=>?_)
 ·refine aS aW 2 U<|rS (SX (aU (xs:=[(0,.const (vI 86400000)),(1,.const (vI 86400000))]) (cs:=(aa.cells (aa.mk 86400000 86400000))) U U (aT gP U)) U U)<|rS (SX (aU (xs:=[(0,.tmp 32),(1,.const (vB false)),(2,.const (vB true))]) (cs:=(lS.cells (lS.mk (aa.mk 86400000 86400000) false true))) U U (aT I_ U)) U U)<|o8 U n9 U<|aq aj 3 ?_;refine GG hQ [0] (mc 1 U mn) U ?_
  (rw [Fv B A])
 refine aS aW 7 U<|rS (LP (bU.cells (kN j.Race.av kA kC cA cC bA bC)) 3 U bP U U U)<|cm aj 1 [] (mc 2 U mn) ?_;refine cX (Ty j.Race.av kA kC az cA cC bA bC r sgA sgC asm hsl) (aP [4,5,6,7,14]) U fun G L=>?_;obtain ⟨D,E⟩:=G
 try dsimp only
 refine aq aj 10 ?_;refine rS (CL (XM (lU j.Race.av r) D E (by exact H_ (xT A I)) (by have:=G6 (l:=j.Race.av) (r:=r);omega)) (aw (ak (n:=(lU j.Race.av r).length) 0 U sm)<|aA) U) ?_;refine aq aj 12 ?_;refine bE U (aK fun C=>?_) (aJ fun C=>?_)
 ·refine dD aW 6 [] (mc 1 U mn) U<|rS (SX (aU (xs:=[(0,.tmp 50),(1,.tmp 51),(2,.const (vB false))]) (cs:=(lS.cells (lS.mk (eL j.Race.av r b) (decide (b<(rY (lU j.Race.av r)))) false))) U U (aT I_ U)) U U)<|Ec U n9 U<|aq aj 3 ?_;refine GG hQ [0] (mc 2 U mn) U ?_
  (rw [BL B A (by rw [Gv (xT A I)];exact cT C),cT C])
 refine aS aW 2 U<|ST1 (aa.cells (aa.mk ((eL j.Race.av r b).Lo) 86400000)) U GI U U<|dD aj 6 [] (mc 1 U mn) U<|rS (SX (aU (xs:=[(0,.tmp 50),(1,.tmp 51),(2,.const (vB false))]) (cs:=(lS.cells (lS.mk (aa.mk ((eL j.Race.av r b).Lo) 86400000) (decide (b<(rY (lU j.Race.av r)))) false))) U U (aT I_ U)) U U)<|Ec U n9 U<|aq aj 3 ?_;refine GG hQ [0] (mc 2 U mn) U ?_
 (rw [zx B A (by rw [Gv (xT A I)];exact bj C),bj C])
end
section
open Go.RowKit
variable {E:fM} {ops:Array Oper} {D:List Deferred} {L:List (Nat×Value)} {C:List ar}
variable {dst:Option Tmp} {ty:TypeId} {ps:String} {af:Array Edge} {g:Option (Nat×Bool)}
theorem yo {x ix:Operand} {t e len sz:Nat} {cs vs:List Value} {j:Int} {kd:IntKind} (m:Nat) (hg:kB ops L g=true) (hx:ev L x=some (.agg cs.toArray)) (hi:ev L ix=some (.int kd j)) (ht:tX E.P t=some (len,e)) (hk:tK E.P e=some (true,sz)) (hj:j=(m:Int)) (hm:m<len) (hv:(cs.drop (m*sz)).take sz=vs):
 SD E ops ⟨dst,.index t x ix,ty,ps,af,g⟩ D L C (.agg vs.toArray):=
 eo hg sm fun a w A _=>by
  have B:(0:Int)≤(m:Int)∧(m:Int)<(len:Int):=by omega
  subst hj;simp [execOp,A.ev hx,A.ev hi,Instr.index,asIntOf,k3 (HY ht),B,hm,(qy hk w).2,jN hk hv w]
end
section
open Go.RowKit
variable (j:dy) (kA:OA) (kC:Nat) (az:List RA) (cA:OA) (cC:Nat) (bA:OA) (bC:Nat) (slA:OA) (slC:Nat) (drA:OA) (drC:Nat) (ha:List cq) (heA:OA) (heC:Nat) (faA:OA) (faC:Nat) (prA:OA) (prC:Nat) (fw ff ft:Int) (d:ao) (sgA:OA) (sgC:Nat)
theorem OB (hin:jA j az ha) (hw:0≤fw∧fw≤1000000) (hsl:d.bp.ab.length≤1000000):
 de Tryz.prog 92 [(vA (dq.cells (dq.mk (rL j kA kC cA cC bA bC slA slC drA drC heA heC faA faC prA prC)))),(vA (bO.cells (bO.mk 1 fw ff ft))),(vA (aO.cells (aO.mk d.Out d.cV d.Time (jR d.bp sgA sgC))))] ((BT j kA az cA bA slA drA ha heA faA prA)++[(gR sgA d.bp.ab)]) (Value.int .u8 (ky j.Race.av (bO.mk 1 fw ff ft) d)):=by
 have T:=hin.race;have P:=hin.race.line;have Y:=hin.race.hE;have Z:=hin.race.has;have AA:=hin.race.hO;have R:=hin.nf;have S:=hin.np;refine bg kr Tryz.func92 U U fun a Q hQ hN=>?_
 try dsimp only
 refine aS bS 2 U<|dV U fun V=>dV U fun W=>dV U fun X=>dD aj 7 [] (mc 0 U mn) U<|rS (CL (v7 d.Out d.cV d.Time (jR d.bp sgA sgC)) (aA) U)<|aq aj 3 ?_;refine bY U (aJ fun A=>?_) (aK fun A=>?_)
 ·refine cr aW 6 hQ U U ?_
  (rw [yi (fun q=>A q)];done)
 refine aq aW 3 ?_;refine cP bX [4,5] [] [] [0,1,2,3,4,5,6,7,8,9,10,11,12,13] [] U U U U U<|eS U (CL AB (aA) U)<|eS U (FA 0 U eB U)<|eS U (L1 (Value.int .u8 1) 1 U bP U U)<|eS U (SX (yo (vs:=(fE.cells (fE.mk (Value.func (.func 182) [].toArray [].toArray) (Value.func (.func 181) [].toArray [].toArray)))) 1 U U U Pa bP U dc U) U U)<|dI U<|bQ U fun T9 O=>AL U Om fun L=>bG (O _ _ (aB [1,2,3,4,5,6,7,8,9,10,11,12,13,14]) ?_);refine bQ U fun T11 K=>eN U Ob U<|bG (K _ _ (aB [1,2,3,4,5,6,7,8,9,10,11,12,13,14]) ?_);refine eJ U<|dD jE 7 [0,1,2] (mc 0 U (mc 3 U (mc 2 U mn))) U<|rS (CL (Xj j kA kC cA cC bA bC slA slC drA drC heA heC faA faC prA prC 1 fw ff ft) (aA) U)<|aq aj 8 ?_;refine mh bX [0,1,2,3,4,5,6,7,8,9] [10,11,12,13] [false,false,false,false,false,false,false,false,false,false] [] [(cb L 229 (fE.cells (fE.mk (Value.func (.func 182) [].toArray [].toArray) (Value.func (.func 181) [].toArray [].toArray)))),(cb X 52 (aO.cells (aO.mk d.Out d.cV d.Time (jR d.bp sgA sgC)))),(cb W 131 (bO.cells (bO.mk 1 fw ff ft))),(cb V 76 (dq.cells (dq.mk (rL j kA kC cA cC bA bC slA slC drA drC heA heC faA faC prA prC)))),(gQ kA j.Race.av.bW).ro,(pb cA j.Race.av.aD az).ro,(iX (bx aX.lG j.Race.av.aD az)).ro,(oG bA j.Race.av.ag).ro,(eE slA j.Race.bf).ro,(eE drA j.Race.dp).ro,(qZ heA j.Race.ay ha).ro,(iX (bx nu j.Race.ay ha)).ro,(oO faA j.bB).ro,(qC prA j.bM).ro,(gR sgA d.bp.ab).ro] [] kr (aB [0,1,2,3,4,5,6,7,8,9,10,11,12,13,14]) (aB [])<|eS U (LW 3 U bP U U)<|eS U (FA 4 U eB U)<|eS U (LP (dx.cells (jR d.bp sgA sgC)) 1 U bP U U U)<|eS U (MV U)<|eS U (CL (nJ j kA kC az cA cC bA bC slA slC drA drC ha heA heC faA faC prA prC d.bp sgA sgC (-1) hin hsl) (aP [4,5,6,7,8,9,10,11,12,13,14]) U)<|eS U (LW 3 U bP U U)<|eS U (FA 4 U eB U)<|eS U (LP (dx.cells (jR d.bp sgA sgC)) 1 U bP U U U)<|eS U (MV U)<|eS U (CL (nJ j kA kC az cA cC bA bC slA slC drA drC ha heA heC faA faC prA prC d.bp sgA sgC j.Race.av.b_ hin hsl) (aP [4,5,6,7,8,9,10,11,12,13,14]) U)<|dI U<|nF [10,11] kr (iT ?_<|iT ?_<|re);rotate_left 1
 ·refine NO U U [10,12,13] fun T14 G=>AL U qc fun M=>RD G 1 U<|N1 10<|NO U U [12,13] fun T16 H=>AL U qc fun N=>RD H 2 U<|N1 12<|NO U U [13] fun T18 AC=>eN U n9 U<|RD AC 2 U<|N1 13<|NO U U [] fun T19 J=>o8 U n9 U<|RD J 2 U<|mC<|cm jE 8 [] (mc 0 U mn) ?_;refine bJ (t:=40) U (fun C=>?_) (fun C=>?_)
  ·refine cr aj 25 hQ U U ?_
   (rw [kF rfl A];(rw [ir (.inl C)];done))
  refine cm aj 8 [0,1] (mc 0 U (mc 4 U mn)) ?_;refine bJ (t:=48) U (aH fun D=>?_) (aG fun D=>?_)
  ·refine cr aj 17 hQ U U ?_
   (rw [kF rfl A];(rw [ir (.inr (.inl D))];done))
  refine cm aj 10 [0,1] (mc 1 U (mc 4 U mn)) ?_;refine bY U (aH fun B=>?_) (aG fun B=>?_)
  ·refine cr aW 6 hQ U U ?_
   (rw [kF rfl A];(rw [ir (.inr (.inr B))];done))
  refine cm aW 5 [] (mc 0 U mn) ?_;refine cz (t:=59) U (fun F=>?_) (fun F=>?_)
  ·refine cr aj 20 hQ U U ?_
   (rw [kF rfl A];(rw [kK (Eb (by simpa using C) (by first|exact D|(simp only [];omega)) (by first|exact B|(simp only [];omega))) (fun q=>by rw [F] at q;exact noConfusion q.1)];done))
  refine dD aj 5 [0,1,2,3] (mc 2 U (mc 4 U (mc 0 U (mc 1 U mn)))) U<|rS (CL (wV 1 fw ff ft ((dw j.Race.av d.bp (-1)).Lo) ((dw j.Race.av d.bp (-1)).Hi) ((dw j.Race.av d.bp (-1)).each) ((dw j.Race.av d.bp (-1)).never) ((dw j.Race.av d.bp j.Race.av.b_).Lo) ((dw j.Race.av d.bp j.Race.av.b_).Hi) ((dw j.Race.av d.bp j.Race.av.b_).each) ((dw j.Race.av d.bp j.Race.av.b_).never)) (aA) U)<|aq aj 4 ?_;refine bY U (aH fun E=>?_) (aG fun E=>?_)
  ·refine cr aW 6 hQ U U ?_
   (rw [kF rfl A];(rw [qI (Eb (by simpa using C) (by first|exact D|(simp only [];omega)) (by first|exact B|(simp only [];omega))) F ((qf (show ¬ (1:Int)=3 by decide)).2 E)];done))
  refine cr aW 9 hQ U U ?_
  (rw [kF rfl A];(rw [kK (Eb (by simpa using C) (by first|exact D|(simp only [];omega)) (by first|exact B|(simp only [];omega))) (fun q=>E ((qf (show ¬ (1:Int)=3 by decide)).1 q.2))];done))
 refine NO U U [11,12,13] fun T14 G=>AL U qc fun M=>RD G 1 U<|N1 11<|NO U U [12,13] fun T16 H=>AL U qc fun N=>RD H 2 U<|N1 12<|NO U U [13] fun T18 AC=>o8 U n9 U<|RD AC 2 U<|N1 13<|NO U U [] fun T19 J=>eN U n9 U<|RD J 2 U<|mC<|cm jE 8 [] (mc 1 U mn) ?_;refine bJ (t:=40) U (fun C=>?_) (fun C=>?_)
 ·refine cr aj 25 hQ U U ?_
  (rw [kF rfl A];(rw [ir (.inl C)];done))
 refine cm aj 8 [0,1] (mc 1 U (mc 4 U mn)) ?_;refine bJ (t:=48) U (aH fun D=>?_) (aG fun D=>?_)
 ·refine cr aj 17 hQ U U ?_
  (rw [kF rfl A];(rw [ir (.inr (.inl D))];done))
 refine cm aj 10 [0,1] (mc 0 U (mc 4 U mn)) ?_;refine bY U (aH fun B=>?_) (aG fun B=>?_)
 ·refine cr aW 6 hQ U U ?_
  (rw [kF rfl A];(rw [ir (.inr (.inr B))];done))
 refine cm aW 5 [] (mc 1 U mn) ?_;refine cz (t:=59) U (fun F=>?_) (fun F=>?_)
 ·refine cr aj 20 hQ U U ?_
  (rw [kF rfl A];(rw [kK (Eb (by simpa using C) (by first|exact D|(simp only [];omega)) (by first|exact B|(simp only [];omega))) (fun q=>by rw [F] at q;exact noConfusion q.1)];done))
 refine dD aj 5 [0,1,2,3] (mc 2 U (mc 4 U (mc 1 U (mc 0 U mn)))) U<|rS (CL (wV 1 fw ff ft ((dw j.Race.av d.bp (-1)).Lo) ((dw j.Race.av d.bp (-1)).Hi) ((dw j.Race.av d.bp (-1)).each) ((dw j.Race.av d.bp (-1)).never) ((dw j.Race.av d.bp j.Race.av.b_).Lo) ((dw j.Race.av d.bp j.Race.av.b_).Hi) ((dw j.Race.av d.bp j.Race.av.b_).each) ((dw j.Race.av d.bp j.Race.av.b_).never)) (aA) U)<|aq aj 4 ?_;refine bY U (aH fun E=>?_) (aG fun E=>?_)
 ·refine cr aW 6 hQ U U ?_
  (rw [kF rfl A];(rw [qI (Eb (by simpa using C) (by first|exact D|(simp only [];omega)) (by first|exact B|(simp only [];omega))) F ((qf (show ¬ (1:Int)=3 by decide)).2 E)];done))
 refine cr aW 9 hQ U U ?_
 (rw [kF rfl A];(rw [kK (Eb (by simpa using C) (by first|exact D|(simp only [];omega)) (by first|exact B|(simp only [];omega))) (fun q=>E ((qf (show ¬ (1:Int)=3 by decide)).1 q.2))];done))
theorem M5 (hin:jA j az ha) (hw:0≤fw∧fw≤1000000) (hsl:d.bp.ab.length≤1000000):
 de Tryz.prog 92 [(vA (dq.cells (dq.mk (rL j kA kC cA cC bA bC slA slC drA drC heA heC faA faC prA prC)))),(vA (bO.cells (bO.mk 2 fw ff ft))),(vA (aO.cells (aO.mk d.Out d.cV d.Time (jR d.bp sgA sgC))))] ((BT j kA az cA bA slA drA ha heA faA prA)++[(gR sgA d.bp.ab)]) (Value.int .u8 (ky j.Race.av (bO.mk 2 fw ff ft) d)):=by
 have T:=hin.race;have P:=hin.race.line;have Y:=hin.race.hE;have Z:=hin.race.has;have AA:=hin.race.hO;have R:=hin.nf;have S:=hin.np;refine bg kr Tryz.func92 U U fun a Q hQ hN=>?_
 try dsimp only
 refine aS bS 2 U<|dV U fun V=>dV U fun W=>dV U fun X=>dD aj 7 [] (mc 0 U mn) U<|rS (CL (v7 d.Out d.cV d.Time (jR d.bp sgA sgC)) (aA) U)<|aq aj 3 ?_;refine bY U (aJ fun A=>?_) (aK fun A=>?_)
 ·refine cr aW 6 hQ U U ?_
  (rw [yi (fun q=>A q)];done)
 refine aq aW 3 ?_;refine cP bX [4,5] [] [] [0,1,2,3,4,5,6,7,8,9,10,11,12,13] [] U U U U U<|eS U (CL AB (aA) U)<|eS U (FA 0 U eB U)<|eS U (L1 (Value.int .u8 2) 1 U bP U U)<|eS U (SX (yo (vs:=(fE.cells (fE.mk (Value.func (.func 183) [].toArray [].toArray) (Value.func (.func 181) [].toArray [].toArray)))) 2 U U U Pa bP U dc U) U U)<|dI U<|bQ U fun T9 O=>AL U Om fun L=>bG (O _ _ (aB [1,2,3,4,5,6,7,8,9,10,11,12,13,14]) ?_);refine bQ U fun T11 K=>eN U Ob U<|bG (K _ _ (aB [1,2,3,4,5,6,7,8,9,10,11,12,13,14]) ?_);refine eJ U<|dD jE 7 [0,1,2] (mc 0 U (mc 3 U (mc 2 U mn))) U<|rS (CL (XD j kA kC cA cC bA bC slA slC drA drC heA heC faA faC prA prC 2 fw ff ft hw) (aA) U)<|aq aj 8 ?_;refine mh bX [0,1,2,3,4,5,6,7,8,9] [10,11,12,13] [false,false,false,false,false,false,false,false,false,false] [] [(cb L 229 (fE.cells (fE.mk (Value.func (.func 183) [].toArray [].toArray) (Value.func (.func 181) [].toArray [].toArray)))),(cb X 52 (aO.cells (aO.mk d.Out d.cV d.Time (jR d.bp sgA sgC)))),(cb W 131 (bO.cells (bO.mk 2 fw ff ft))),(cb V 76 (dq.cells (dq.mk (rL j kA kC cA cC bA bC slA slC drA drC heA heC faA faC prA prC)))),(gQ kA j.Race.av.bW).ro,(pb cA j.Race.av.aD az).ro,(iX (bx aX.lG j.Race.av.aD az)).ro,(oG bA j.Race.av.ag).ro,(eE slA j.Race.bf).ro,(eE drA j.Race.dp).ro,(qZ heA j.Race.ay ha).ro,(iX (bx nu j.Race.ay ha)).ro,(oO faA j.bB).ro,(qC prA j.bM).ro,(gR sgA d.bp.ab).ro] [] kr (aB [0,1,2,3,4,5,6,7,8,9,10,11,12,13,14]) (aB [])<|eS U (LW 3 U bP U U)<|eS U (FA 4 U eB U)<|eS U (LP (dx.cells (jR d.bp sgA sgC)) 1 U bP U U U)<|eS U (MV U)<|eS U (CL (nJ j kA kC az cA cC bA bC slA slC drA drC ha heA heC faA faC prA prC d.bp sgA sgC (fw-1) hin hsl) (aP [4,5,6,7,8,9,10,11,12,13,14]) U)<|eS U (LW 3 U bP U U)<|eS U (FA 4 U eB U)<|eS U (LP (dx.cells (jR d.bp sgA sgC)) 1 U bP U U U)<|eS U (MV U)<|eS U (CL (nJ j kA kC az cA cC bA bC slA slC drA drC ha heA heC faA faC prA prC d.bp sgA sgC fw hin hsl) (aP [4,5,6,7,8,9,10,11,12,13,14]) U)<|dI U<|nF [10,11] kr (iT ?_<|iT ?_<|re);rotate_left 1
 ·refine NO U U [10,12,13] fun T14 G=>AL U qc fun M=>RD G 1 U<|N1 10<|NO U U [12,13] fun T16 H=>AL U qc fun N=>RD H 2 U<|N1 12<|NO U U [13] fun T18 AC=>eN U n9 U<|RD AC 2 U<|N1 13<|NO U U [] fun T19 J=>o8 U n9 U<|RD J 2 U<|mC<|cm jE 8 [] (mc 0 U mn) ?_;refine bJ (t:=40) U (fun C=>?_) (fun C=>?_)
  ·refine cr aj 25 hQ U U ?_
   (rw [kH rfl A];(rw [ir (.inl C)];done))
  refine cm aj 8 [0,1] (mc 0 U (mc 4 U mn)) ?_;refine bJ (t:=48) U (aH fun D=>?_) (aG fun D=>?_)
  ·refine cr aj 17 hQ U U ?_
   (rw [kH rfl A];(rw [ir (.inr (.inl D))];done))
  refine cm aj 10 [0,1] (mc 1 U (mc 4 U mn)) ?_;refine bY U (aH fun B=>?_) (aG fun B=>?_)
  ·refine cr aW 6 hQ U U ?_
   (rw [kH rfl A];(rw [ir (.inr (.inr B))];done))
  refine cm aW 5 [] (mc 0 U mn) ?_;refine cz (t:=59) U (fun F=>?_) (fun F=>?_)
  ·refine cr aj 20 hQ U U ?_
   (rw [kH rfl A];(rw [kK (Eb (by simpa using C) (by first|exact D|(simp only [];omega)) (by first|exact B|(simp only [];omega))) (fun q=>by rw [F] at q;exact noConfusion q.1)];done))
  refine dD aj 5 [0,1,2,3] (mc 2 U (mc 4 U (mc 0 U (mc 1 U mn)))) U<|rS (CL (wV 2 fw ff ft ((dw j.Race.av d.bp (fw-1)).Lo) ((dw j.Race.av d.bp (fw-1)).Hi) ((dw j.Race.av d.bp (fw-1)).each) ((dw j.Race.av d.bp (fw-1)).never) ((dw j.Race.av d.bp fw).Lo) ((dw j.Race.av d.bp fw).Hi) ((dw j.Race.av d.bp fw).each) ((dw j.Race.av d.bp fw).never)) (aA) U)<|aq aj 4 ?_;refine bY U (aH fun E=>?_) (aG fun E=>?_)
  ·refine cr aW 6 hQ U U ?_
   (rw [kH rfl A];(rw [qI (Eb (by simpa using C) (by first|exact D|(simp only [];omega)) (by first|exact B|(simp only [];omega))) F ((qf (show ¬ (2:Int)=3 by decide)).2 E)];done))
  refine cr aW 9 hQ U U ?_
  (rw [kH rfl A];(rw [kK (Eb (by simpa using C) (by first|exact D|(simp only [];omega)) (by first|exact B|(simp only [];omega))) (fun q=>E ((qf (show ¬ (2:Int)=3 by decide)).1 q.2))];done))
 refine NO U U [11,12,13] fun T14 G=>AL U qc fun M=>RD G 1 U<|N1 11<|NO U U [12,13] fun T16 H=>AL U qc fun N=>RD H 2 U<|N1 12<|NO U U [13] fun T18 AC=>o8 U n9 U<|RD AC 2 U<|N1 13<|NO U U [] fun T19 J=>eN U n9 U<|RD J 2 U<|mC<|cm jE 8 [] (mc 1 U mn) ?_;refine bJ (t:=40) U (fun C=>?_) (fun C=>?_)
 ·refine cr aj 25 hQ U U ?_
  (rw [kH rfl A];(rw [ir (.inl C)];done))
 refine cm aj 8 [0,1] (mc 1 U (mc 4 U mn)) ?_;refine bJ (t:=48) U (aH fun D=>?_) (aG fun D=>?_)
 ·refine cr aj 17 hQ U U ?_
  (rw [kH rfl A];(rw [ir (.inr (.inl D))];done))
 refine cm aj 10 [0,1] (mc 0 U (mc 4 U mn)) ?_;refine bY U (aH fun B=>?_) (aG fun B=>?_)
 ·refine cr aW 6 hQ U U ?_
  (rw [kH rfl A];(rw [ir (.inr (.inr B))];done))
 refine cm aW 5 [] (mc 1 U mn) ?_;refine cz (t:=59) U (fun F=>?_) (fun F=>?_)
 ·refine cr aj 20 hQ U U ?_
  (rw [kH rfl A];(rw [kK (Eb (by simpa using C) (by first|exact D|(simp only [];omega)) (by first|exact B|(simp only [];omega))) (fun q=>by rw [F] at q;exact noConfusion q.1)];done))
 refine dD aj 5 [0,1,2,3] (mc 2 U (mc 4 U (mc 1 U (mc 0 U mn)))) U<|rS (CL (wV 2 fw ff ft ((dw j.Race.av d.bp (fw-1)).Lo) ((dw j.Race.av d.bp (fw-1)).Hi) ((dw j.Race.av d.bp (fw-1)).each) ((dw j.Race.av d.bp (fw-1)).never) ((dw j.Race.av d.bp fw).Lo) ((dw j.Race.av d.bp fw).Hi) ((dw j.Race.av d.bp fw).each) ((dw j.Race.av d.bp fw).never)) (aA) U)<|aq aj 4 ?_;refine bY U (aH fun E=>?_) (aG fun E=>?_)
 ·refine cr aW 6 hQ U U ?_
  (rw [kH rfl A];(rw [qI (Eb (by simpa using C) (by first|exact D|(simp only [];omega)) (by first|exact B|(simp only [];omega))) F ((qf (show ¬ (2:Int)=3 by decide)).2 E)];done))
 refine cr aW 9 hQ U U ?_
 (rw [kH rfl A];(rw [kK (Eb (by simpa using C) (by first|exact D|(simp only [];omega)) (by first|exact B|(simp only [];omega))) (fun q=>E ((qf (show ¬ (2:Int)=3 by decide)).1 q.2))];done))
theorem O0 (hin:jA j az ha) (hw:0≤fw∧fw≤1000000) (hsl:d.bp.ab.length≤1000000):
 de Tryz.prog 92 [(vA (dq.cells (dq.mk (rL j kA kC cA cC bA bC slA slC drA drC heA heC faA faC prA prC)))),(vA (bO.cells (bO.mk 3 fw ff ft))),(vA (aO.cells (aO.mk d.Out d.cV d.Time (jR d.bp sgA sgC))))] ((BT j kA az cA bA slA drA ha heA faA prA)++[(gR sgA d.bp.ab)]) (Value.int .u8 (ky j.Race.av (bO.mk 3 fw ff ft) d)):=by
 have T:=hin.race;have P:=hin.race.line;have Y:=hin.race.hE;have Z:=hin.race.has;have AA:=hin.race.hO;have R:=hin.nf;have S:=hin.np;refine bg kr Tryz.func92 U U fun a Q hQ hN=>?_
 try dsimp only
 refine aS bS 2 U<|dV U fun V=>dV U fun W=>dV U fun X=>dD aj 7 [] (mc 0 U mn) U<|rS (CL (v7 d.Out d.cV d.Time (jR d.bp sgA sgC)) (aA) U)<|aq aj 3 ?_;refine bY U (aJ fun A=>?_) (aK fun A=>?_)
 ·refine cr aW 6 hQ U U ?_
  (rw [yi (fun q=>A q)];done)
 refine aq aW 3 ?_;refine cP bX [4,5] [] [] [0,1,2,3,4,5,6,7,8,9,10,11,12,13] [] U U U U U<|eS U (CL AB (aA) U)<|eS U (FA 0 U eB U)<|eS U (L1 (Value.int .u8 3) 1 U bP U U)<|eS U (SX (yo (vs:=(fE.cells (fE.mk (Value.func (.func 184) [].toArray [].toArray) (Value.func (.func 185) [].toArray [].toArray)))) 3 U U U Pa bP U dc U) U U)<|dI U<|bQ U fun T9 O=>AL U Om fun L=>bG (O _ _ (aB [1,2,3,4,5,6,7,8,9,10,11,12,13,14]) ?_);refine bQ U fun T11 K=>eN U Ob U<|bG (K _ _ (aB [1,2,3,4,5,6,7,8,9,10,11,12,13,14]) ?_);refine eJ U<|dD jE 7 [0,1,2] (mc 0 U (mc 3 U (mc 2 U mn))) U<|rS (CL (XX j kA kC cA cC bA bC slA slC drA drC heA heC faA faC prA prC 3 fw ff ft) (aA) U)<|aq aj 8 ?_;refine mh bX [0,1,2,3,4,5,6,7,8,9] [10,11,12,13] [false,false,false,false,false,false,false,false,false,false] [] [(cb L 229 (fE.cells (fE.mk (Value.func (.func 184) [].toArray [].toArray) (Value.func (.func 185) [].toArray [].toArray)))),(cb X 52 (aO.cells (aO.mk d.Out d.cV d.Time (jR d.bp sgA sgC)))),(cb W 131 (bO.cells (bO.mk 3 fw ff ft))),(cb V 76 (dq.cells (dq.mk (rL j kA kC cA cC bA bC slA slC drA drC heA heC faA faC prA prC)))),(gQ kA j.Race.av.bW).ro,(pb cA j.Race.av.aD az).ro,(iX (bx aX.lG j.Race.av.aD az)).ro,(oG bA j.Race.av.ag).ro,(eE slA j.Race.bf).ro,(eE drA j.Race.dp).ro,(qZ heA j.Race.ay ha).ro,(iX (bx nu j.Race.ay ha)).ro,(oO faA j.bB).ro,(qC prA j.bM).ro,(gR sgA d.bp.ab).ro] [] kr (aB [0,1,2,3,4,5,6,7,8,9,10,11,12,13,14]) (aB [])<|eS U (LW 3 U bP U U)<|eS U (FA 4 U eB U)<|eS U (LP (dx.cells (jR d.bp sgA sgC)) 1 U bP U U U)<|eS U (MV U)<|eS U (CL (nJ j kA kC az cA cC bA bC slA slC drA drC ha heA heC faA faC prA prC d.bp sgA sgC fw hin hsl) (aP [4,5,6,7,8,9,10,11,12,13,14]) U)<|eS U (LW 3 U bP U U)<|eS U (FA 4 U eB U)<|eS U (LP (dx.cells (jR d.bp sgA sgC)) 1 U bP U U U)<|eS U (MV U)<|eS U (CL (nJ j kA kC az cA cC bA bC slA slC drA drC ha heA heC faA faC prA prC d.bp sgA sgC fw hin hsl) (aP [4,5,6,7,8,9,10,11,12,13,14]) U)<|dI U<|nF [10,11] kr (iT ?_<|iT ?_<|re);rotate_left 1
 ·refine NO U U [10,12,13] fun T14 G=>AL U qc fun M=>RD G 1 U<|N1 10<|NO U U [12,13] fun T16 H=>AL U qc fun N=>RD H 2 U<|N1 12<|NO U U [13] fun T18 AC=>eN U n9 U<|RD AC 2 U<|N1 13<|NO U U [] fun T19 J=>o8 U n9 U<|RD J 2 U<|mC<|cm jE 8 [] (mc 0 U mn) ?_;refine bJ (t:=40) U (fun C=>?_) (fun C=>?_)
  ·refine cr aj 25 hQ U U ?_
   (rw [kD rfl A];(rw [ir (.inl C)];done))
  refine cm aj 8 [0,1] (mc 0 U (mc 4 U mn)) ?_;refine bJ (t:=48) U (aH fun D=>?_) (aG fun D=>?_)
  ·refine cr aj 17 hQ U U ?_
   (rw [kD rfl A];(rw [ir (.inr (.inl D))];done))
  refine cm aj 10 [0,1] (mc 1 U (mc 4 U mn)) ?_;refine bY U (aH fun B=>?_) (aG fun B=>?_)
  ·refine cr aW 6 hQ U U ?_
   (rw [kD rfl A];(rw [ir (.inr (.inr B))];done))
  refine cm aW 5 [] (mc 0 U mn) ?_;refine cz (t:=59) U (fun F=>?_) (fun F=>?_)
  ·refine cr aj 20 hQ U U ?_
   (rw [kD rfl A];(rw [kK (Eb (by simpa using C) (by first|exact D|(simp only [];omega)) (by first|exact B|(simp only [];omega))) (fun q=>by rw [F] at q;exact noConfusion q.1)];done))
  refine dD aj 5 [0,1,2,3] (mc 2 U (mc 4 U (mc 0 U (mc 1 U mn)))) U<|rS (CL (Jk 3 fw ff ft ((dw j.Race.av d.bp fw).Lo) ((dw j.Race.av d.bp fw).Hi) ((dw j.Race.av d.bp fw).each) ((dw j.Race.av d.bp fw).never) ((dw j.Race.av d.bp fw).Lo) ((dw j.Race.av d.bp fw).Hi) ((dw j.Race.av d.bp fw).each) ((dw j.Race.av d.bp fw).never)) (aA) U)<|aq aj 4 ?_;refine bY U (aH fun E=>?_) (aG fun E=>?_)
  ·refine cr aW 6 hQ U U ?_
   (rw [kD rfl A];(rw [qI (Eb (by simpa using C) (by first|exact D|(simp only [];omega)) (by first|exact B|(simp only [];omega))) F ((DQ rfl).2 E)];done))
  refine cr aW 9 hQ U U ?_
  (rw [kD rfl A];(rw [kK (Eb (by simpa using C) (by first|exact D|(simp only [];omega)) (by first|exact B|(simp only [];omega))) (fun q=>E ((DQ rfl).1 q.2))];done))
 refine NO U U [11,12,13] fun T14 G=>AL U qc fun M=>RD G 1 U<|N1 11<|NO U U [12,13] fun T16 H=>AL U qc fun N=>RD H 2 U<|N1 12<|NO U U [13] fun T18 AC=>o8 U n9 U<|RD AC 2 U<|N1 13<|NO U U [] fun T19 J=>eN U n9 U<|RD J 2 U<|mC<|cm jE 8 [] (mc 1 U mn) ?_;refine bJ (t:=40) U (fun C=>?_) (fun C=>?_)
 ·refine cr aj 25 hQ U U ?_
  (rw [kD rfl A];(rw [ir (.inl C)];done))
 refine cm aj 8 [0,1] (mc 1 U (mc 4 U mn)) ?_;refine bJ (t:=48) U (aH fun D=>?_) (aG fun D=>?_)
 ·refine cr aj 17 hQ U U ?_
  (rw [kD rfl A];(rw [ir (.inr (.inl D))];done))
 refine cm aj 10 [0,1] (mc 0 U (mc 4 U mn)) ?_;refine bY U (aH fun B=>?_) (aG fun B=>?_)
 ·refine cr aW 6 hQ U U ?_
  (rw [kD rfl A];(rw [ir (.inr (.inr B))];done))
 refine cm aW 5 [] (mc 1 U mn) ?_;refine cz (t:=59) U (fun F=>?_) (fun F=>?_)
 ·refine cr aj 20 hQ U U ?_
  (rw [kD rfl A];(rw [kK (Eb (by simpa using C) (by first|exact D|(simp only [];omega)) (by first|exact B|(simp only [];omega))) (fun q=>by rw [F] at q;exact noConfusion q.1)];done))
 refine dD aj 5 [0,1,2,3] (mc 2 U (mc 4 U (mc 1 U (mc 0 U mn)))) U<|rS (CL (Jk 3 fw ff ft ((dw j.Race.av d.bp fw).Lo) ((dw j.Race.av d.bp fw).Hi) ((dw j.Race.av d.bp fw).each) ((dw j.Race.av d.bp fw).never) ((dw j.Race.av d.bp fw).Lo) ((dw j.Race.av d.bp fw).Hi) ((dw j.Race.av d.bp fw).each) ((dw j.Race.av d.bp fw).never)) (aA) U)<|aq aj 4 ?_;refine bY U (aH fun E=>?_) (aG fun E=>?_)
 ·refine cr aW 6 hQ U U ?_
  (rw [kD rfl A];(rw [qI (Eb (by simpa using C) (by first|exact D|(simp only [];omega)) (by first|exact B|(simp only [];omega))) F ((DQ rfl).2 E)];done))
 refine cr aW 9 hQ U U ?_
 (rw [kD rfl A];(rw [kK (Eb (by simpa using C) (by first|exact D|(simp only [];omega)) (by first|exact B|(simp only [];omega))) (fun q=>E ((DQ rfl).1 q.2))];done))
theorem JG (f:bO) (d:ao) (sgA:OA) (sgC:Nat) (hin:jA j az ha) (hk:1≤f.Kind∧f.Kind≤3) (hw:0≤f.ji∧f.ji≤1000000) (hsl:d.bp.ab.length≤1000000):
 de Tryz.prog 92 [(vA (dq.cells (dq.mk (rL j kA kC cA cC bA bC slA slC drA drC heA heC faA faC prA prC)))),(vA (bO.cells f)),(vA (aO.cells (aO.mk d.Out d.cV d.Time (jR d.bp sgA sgC))))] ((BT j kA az cA bA slA drA ha heA faA prA)++[(gR sgA d.bp.ab)]) (Value.int .u8 (ky j.Race.av f d)):=by
 obtain ⟨fk,fw,ff,ft⟩:=f;have A:fk=1∨fk=2∨fk=3:=by have:=hk;simp only at this;omega
 rcases A with rfl|rfl|rfl
 ·exact OB j kA kC az cA cC bA bC slA slC drA drC ha heA heC faA faC prA prC fw ff ft d sgA sgC hin hw hsl
 ·exact M5 j kA kC az cA cC bA bC slA slC drA drC ha heA heC faA faC prA prC fw ff ft d sgA sgC hin hw hsl
 ·exact O0 j kA kC az cA cC bA bC slA slC drA drC ha heA heC faA faC prA prC fw ff ft d sgA sgC hin hw hsl
end
section
open Go.RowKit
variable (j:dy) (kA:OA) (kC:Nat) (az:List RA) (cA:OA) (cC:Nat) (bA:OA) (bC:Nat) (slA:OA) (slC:Nat) (drA:OA) (drC:Nat) (ha:List cq) (heA:OA) (heC:Nat) (faA:OA) (faC:Nat) (prA:OA) (prC:Nat) (i:Int) (p:c_)
theorem U1 (hin:jA j az ha) (hok:fU j=0) (hp:∃ i:Nat,j.bM[i]? =some p):
 de Tryz.prog 91 [(vA (dq.cells (dq.mk (rL j kA kC cA cC bA bC slA slC drA drC heA heC faA faC prA prC)))),(vA (c_.cells p))] (BT j kA az cA bA slA drA ha heA faA prA) (Value.int .u8 (vg j p)):=by
 have M:=hin.race;have T:=hin.race.line;have e:=hin.race.hE;have f:=hin.race.has;have c:=hin.race.hO;have X:=hin.nf;have a:=hin.np;have L:=(fI hok).1;have K:=(fI hok).2;have S:=(dF L).1;have W:=(dF L).2;have R:=(ep S).2.head;unfold fj at R;obtain ⟨pi,AA⟩:=hp;have G:=K.iN pi p AA;have m:=G.fG;have V:=G.kW;simp only [mN] at V;have k:=G.fault;have g:=K.min_;refine bg kr Tryz.func91 U U fun t Q hQ hN=>?_
 try dsimp only
 refine aS bS 2 U<|dV U fun o=>dV U fun q=>aq aj 4 ?_;refine cP bX [20,21] [] [] [0,1,2,3,4,5,6,7,8,9,10,11] [] U U U U U<|eS U (LW 1 U bP U U)<|eS U (FA 0 U eB U)<|eS U (FA 0 U eB U)<|eS U (FA 10 U eB U)<|eS U (L1 (vS heA j.Race.ay.length heC) 1 U bP U U)<|eS U (FA 2 U eB U)<|eS U (L1 (vI p.jY) 0 U bP U U) ?_;obtain ⟨ht,C⟩:=ax j.Race.ay ((p.jY).toNat) I;obtain ⟨A,B⟩:=ax ha ((p.jY).toNat) I;have J:(zipWith dQ j.Race.ay ha)[(p.jY).toNat]? =some (dQ ht A):=cD C B;refine eS U (IA ((p.jY).toNat) U (au 8 U) mz dc I I)<|eS U (gG ((p.jY).toNat) 0 (vS A.1.1 ht.length A.1.2) U bP (au 8 U) J U dc U)<|eS U (FA 1 U eB U)<|eS U (L1 (vI p.jn) 0 U bP U U) ?_;have AB:=M.fG _ _ _ C B;have Y:=AB.mD;have Z:=(W.fG ht (aF C)).1;obtain ⟨d,hd⟩:=ax ht ((p.jn).toNat) I;obtain ⟨da,H⟩:=ax A.2 ((p.jn).toNat) I;have P:(zipWith ao.cells ht A.2)[(p.jn).toNat]? =some (ao.cells d da):=cD hd H;refine eS U (IA ((p.jn).toNat) U (show ij _ (jc A.1.1 ht A.2).holds from (ct 9 U (bq C B bZ))) rV dc I I)<|eS U (pV ((((p.jn).toNat)*7)+4) U (show ij _ (jc A.1.1 ht A.2).holds from (ct 9 U (bq C B bZ))) (e6 I dc) eB U) ?_;have D:=q_ (j:=j) (p:=p) C hd;have n:=AB.sig d (aF hd);have h:=Sy (l:=j.Race.av) (r:=d.bp) (b:=j.Race.av.b_) I;refine eS U (ld ((p.jn).toNat) 4 (dx.cells (dx.mk d.bp.Start d.bp.hU (aV.mk da.1 d.bp.ab.length da.2))) U bP (show ij _ (jc A.1.1 ht A.2).holds from (ct 9 U (bq C B bZ))) P U dc U U)<|eS U (FA 0 U eB U)<|eS U (FA 0 U eB U)<|eS U (FA 0 U eB U)<|eS U (FA 4 U eB U)<|eS U (L1 (vI j.Race.av.b_) 1 U bP U U)<|eS U (CL (nJ j kA kC az cA cC bA bC slA slC drA drC ha heA heC faA faC prA prC d.bp da.1 da.2 j.Race.av.b_ hin asm) (lV [2,3,4,5,6,7,8,9,10,11]<|aw (show ij _ (gR da.1 d.bp.ab).holds from (ct 9 U (bq C B (dg _ (bq hd H (by simp [ao.lG]))))))<|aA) U)<|dI U<|bQ U fun T5 N=>AL U qc fun s=>bG (N _ _ (aB [1,2,3,4,5,6,7,8,9,10,11,12]) ?_);refine bQ U fun T7 O=>eN U n9 U<|bG (O _ _ (aB [1,2,3,4,5,6,7,8,9,10,11,12]) ?_);refine eJ U<|dD jE 6 [] (mc 2 U mn) U<|rS (BI U (nq ⟨I,I⟩))<|cm aj 18 [0,1] (mc 1 U (mc 0 U mn)) ?_;refine bY U (aH fun E=>?_) (aG fun E=>?_)
 ·refine cr aW 6 hQ U U ?_
  (rw [WD D E];done)
 refine cm aW 13 [0,1] (mc 1 U (mc 0 U mn)) ?_;refine bY U (aH fun F=>?_) (aG fun F=>?_)
 ·refine cr aW 6 hQ U U ?_
  (rw [U7 D E F];done)
 refine cr aW 9 hQ U U ?_
 (rw [VJ D E F];done)
theorem Cb (hin:jA j az ha) (hok:fU j=0) (hp:∃ i:Nat,j.bM[i]? =some p):
 de Tryz.prog 48 [(vA (dq.cells (dq.mk (rL j kA kC cA cC bA bC slA slC drA drC heA heC faA faC prA prC)))),(vI i),(vA (c_.cells p))] (BT j kA az cA bA slA drA ha heA faA prA) (vB (nS j p)):=by
 have N:=hin.race;have T:=hin.race.line;have e:=hin.race.hE;have g:=hin.race.has;have a:=hin.race.hO;have W:=hin.nf;have Z:=hin.np;have L:=(fI hok).1;have E:=(fI hok).2;have S:=(dF L).1;have V:=(dF L).2;have R:=(ep S).2.head;unfold fj at R;obtain ⟨pi,M⟩:=hp;have F:=E.iN pi p M;have l:=F.fG;have AA:=F.kW;simp only [mN] at AA;have k:=F.fault;have h:=E.min_;refine bg kr Tryz.func48 U U fun r Q hQ hN=>?_
 try dsimp only
 refine aS bS 2 U<|dV U fun n=>dV U fun o=>aS aj 4 U<|cK bX 29 kr<|jZ 2 [0,1] (mc 1 U (mc 0 U mn)) U<|dS (CL (U1 j kA kC az cA cC bA bC slA slC drA drC ha heA heC faA faC prA prC p hin hok (by exact ⟨pi,M⟩)) (aP [2,3,4,5,6,7,8,9,10,11]) U)<|dS (BI U nm)<|dP 1 [] mn ?_;refine iQ (t:=11) U (aK fun D=>?_) (aJ fun D=>?_)
 ·refine iR 17 U<|iR 2 U<|iR 5 U<|cy<|cr aj 3 hQ U U ?_
  (rw [Qm D];done)
 refine dP 6 [0,0,1] (mc 1 U (mc 0 U mn)) ?_;obtain ⟨f,hf⟩:=ax j.bB ((p.lx).toNat) I;have P:=bw bO.cells hf;refine dS (IA ((p.lx).toNat) U (au 10 U) KL dc I I)<|dS (ld ((p.lx).toNat) 0 (bO.cells f) U bP (au 10 U) P U dc U U)<|dP 6 [0,1] (mc 1 U (mc 0 U mn)) ?_;obtain ⟨ht,C⟩:=ax j.Race.ay ((p.jY).toNat) I;obtain ⟨A,B⟩:=ax ha ((p.jY).toNat) I;have K:(zipWith dQ j.Race.ay ha)[(p.jY).toNat]? =some (dQ ht A):=cD C B;refine dS (IA ((p.jY).toNat) U (au 8 U) mz dc I I)<|dS (gG ((p.jY).toNat) 0 (vS A.1.1 ht.length A.1.2) U bP (au 8 U) K U dc U)<|dP 1 [] mn ?_;have J:=N.fG _ _ _ C B;have X:=J.mD;have Y:=(V.fG ht (aF C)).1;refine dP 1 [] (mc 0 U mn) ?_;obtain ⟨d,hd⟩:=ax ht ((p.jn).toNat) I;obtain ⟨da,H⟩:=ax A.2 ((p.jn).toNat) I;have O:(zipWith ao.cells ht A.2)[(p.jn).toNat]? =some (ao.cells d da):=cD hd H;refine dS (IA ((p.jn).toNat) U (show ij _ (jc A.1.1 ht A.2).holds from (ct 9 U (bq C B bZ))) rV dc I I) ?_;have G:=q_ (j:=j) (p:=p) C hd;have m:=J.sig d (aF hd);have AB:=E.fault f (aF hf);have c:0≤f.ji∧f.ji≤1000000:=by have b:=AB.2.2;split at b<;>omega
 refine dS (ld ((p.jn).toNat) 0 (aO.cells (aO.mk d.Out d.cV d.Time (dx.mk d.bp.Start d.bp.hU (aV.mk da.1 d.bp.ab.length da.2)))) U bP (show ij _ (jc A.1.1 ht A.2).holds from (ct 9 U (bq C B bZ))) O U dc U U)<|dS (CL (JG j kA kC az cA cC bA bC slA slC drA drC ha heA heC faA faC prA prC f d da.1 da.2 hin (by exact AB.1) asm asm) (lV [2,3,4,5,6,7,8,9,10,11]<|aw (show ij _ (gR da.1 d.bp.ab).holds from (ct 9 U (bq C B (dg _ (bq hd H (by simp [ao.lG]))))))<|aA) U)<|dS (BI U nm)<|iR 2 U<|cy<|cr aj 3 hQ U U ?_
 (rw [Nb G hf (fun q=>D q)];done)
end
section
open Go.RowKit
variable (j:dy) (kA:OA) (kC:Nat) (az:List RA) (cA:OA) (cC:Nat) (bA:OA) (bC:Nat) (slA:OA) (slC:Nat) (drA:OA) (drC:Nat) (ha:List cq) (heA:OA) (heC:Nat) (faA:OA) (faC:Nat) (prA:OA) (prC:Nat)
theorem QL (hin:jA j az ha):
 de Tryz.prog 56 [(vA (kp.cells (rL j kA kC cA cC bA bC slA slC drA drC heA heC faA faC prA prC)))] ((rd ig 3 2 fY)::(BT j kA az cA bA slA drA ha heA faA prA)) (vI (fU j)):=by
 have f:=hin.race;have A0:=hin.race.line;have Cx:=hin.race.hE;have C0:=hin.race.has;have B3:=hin.race.hO;have A8:=hin.nf;have By:=hin.np;refine bg kr Tryz.func56 U U fun w0 Q hQ hN=>?_
 try dsimp only
 refine aS bS 2 U<|dV U fun g=>aS aj 3 U<|DK U<|aS bS 4 U<|rS (LP (cf.cells (pP j.Race kA kC cA cC bA bC slA slC drA drC heA heC)) 0 U bP U U U)<|rS (CL (F4 j.Race kA kC az cA cC bA bC slA slC drA drC ha heA heC asm) (aP [1,2,3,4,5,6,7,8,9]) U)<|aq aj 9 ?_;refine bY U (aJ fun A=>?_) (aK fun A=>?_)
 ·exact cr aW 7 hQ U U<|cI (Cv A).symm
 refine cm aW 6 [] (mc 0 U mn) ?_;refine rS (FU U) ?_;refine cX (Si j.bB faA faC (Value.func (.func 104) [].toArray [(vP g)].toArray) (fun u8 u9=>(decide (¬ qu j.Race.av.b_ u9))) (iX [(cb g 36 (kp.cells (rL j kA kC cA cC bA bC slA slC drA drC heA heC faA faC prA prC)))]) (by intro u8 u9 A1;exact kU (fi:=[]) (ca:=[(vP g)]) (jP (QQ u8 u9 j kA kC cA cC bA bC slA slC drA drC heA heC faA faC prA prC g (by (obtain ⟨i_,_,AP⟩:=A1;exact hin.kind _ (aF AP)))) (aP [0]))) asm) (gN 10 rfl rfl<|aw (jH (aP [0]))<|aA) rfl fun A7 B7=>?_;obtain ⟨CI,Cp⟩:=A7
 try dsimp only
 refine cm aj 11 [] (mc 1 U mn) ?_;refine bJ (t:=25) U (aH fun u=>?_) (aG fun u=>?_)
 ·exact cr aj 33 hQ U U<|cI (kI A (fun q=>by have O:=q.nf;have K:=q.min_;have P:=q.vW;have R:=q.np;omega)).symm
 refine aq aj 5 ?_;refine bJ (t:=30) U (aH fun M=>?_) (aG fun M=>?_)
 ·exact cr aj 28 hQ U U<|cI (kI A (GK M)).symm
 refine cm aj 2 [] (mc 1 U mn) ?_;refine dC (xs:=[.tmp 32]) (cs:=[(vI j.jx)]) U cM jW U U U U (by simp [Value.cells]) U U fun h=>?_;refine rS (CL (de.eq (j0 0 60 ([j.jx]) (some ⟨h,0,none⟩) 1 (by (simp;done))) cp) (aw (aM 0 U U (by simp [br]) U)<|aA) U) ?_;refine aq aj 3 ?_;refine bJ (t:=37) U (aJ fun w=>?_) (aK fun w=>?_)
 ·exact cr aj 21 hQ U U<|cI (kI A (fun q=>by have O:=q.nf;have K:=q.min_;have P:=q.vW;have R:=q.np;omega)).symm
 refine cm aj 2 [] (mc 2 U mn) ?_;refine dC (xs:=[.tmp 39]) (cs:=[(vI j.Ke)]) U cM jW U U U U (by simp [Value.cells]) U U fun l=>?_;refine rS (CL (de.eq (j0 0 100000 ([j.Ke]) (some ⟨l,0,none⟩) 1 (by (simp;done))) cp) (aw (aM 0 U U (by simp [br]) U)<|aA) U) ?_;refine aq aj 3 ?_;refine bJ (t:=44) U (aJ fun x=>?_) (aK fun x=>?_)
 ·exact cr aj 14 hQ U U<|cI (kI A (fun q=>by have O:=q.nf;have K:=q.min_;have P:=q.vW;have R:=q.np;omega)).symm
 refine cm aj 7 [] (mc 3 U mn) ?_;refine bY U (aH fun y=>?_) (aG fun y=>?_)
 ·exact cr aW 6 hQ U U<|cI (kI A (fun q=>by have O:=q.nf;have K:=q.min_;have P:=q.vW;have R:=q.np;omega)).symm
 refine cm aW 25 [] (mc 3 U mn) ?_;have J:(0≤j.bM.length)∧(pT j 0):=by exact ⟨c4 _,zJ⟩
 refine bu (ι:={z:Nat // (z≤j.bM.length)∧(pT j z)}) [1,5,51,52] [2,3,4,5,6,7,8,9,10,11,12,13,14] U U (fun z=>[(6,(vI (rD j z.1))),(53,(vI (z.1:Int)))]) (fun z=>[]) (fun _=>rfl) (fun _=>rfl) (fun z=>j.bM.length-z.1) ⟨0,J⟩ (aN U) (aB [2,3,4,5,6,7,8,9,10,11,12,13,14]) ?_;clear J;rintro ⟨k,⟨B,C⟩⟩ J28 L
 try dsimp only
 refine aq bS 6 ?_;refine bE U (aG fun v=>?_) (aH fun v=>?_)
 ·exact aS aW 1 U<|cr fD 9 hQ U U<|cI (zP A ⟨I,Gz M,I,I,I,fun i p hi=>C i p (by have:=(aR.1 hi).1;omega) hi⟩).symm
 refine aq aW 6 ?_;obtain ⟨p,hp⟩:=ax j.bM k I;have A2:=bw c_.cells hp;refine rS (IA k U (au 12 U) Qs dc I I)<|rS (ld k 0 (c_.cells p) U bP (au 12 U) A2 U dc U U)<|AL U NZ fun Ci=>eN U Qa U<|aq aj 5 ?_;have An:=RS C B;refine cm aj 3 [] (mc 0 U mn) ?_;refine dC (xs:=[.tmp 60]) (cs:=[(vI p.Id)]) U cM jW U U U U (by simp [Value.cells]) U U fun m=>?_;refine rS (CL (de.eq (j0 ((rD j k)+1) 9999 ([p.Id]) (some ⟨m,0,none⟩) 1 (by (simp;done))) cp) (aw (aM 0 U U (by simp [br]) U)<|aA) U) ?_;refine aq aj 1 ?_;refine cz (t:=63) U (aG fun T=>?_) (aH fun T=>?_)
 ·exact aS aj 57 U<|cr fD 9 hQ U U<|cI (kI A (uv hp (fun q=>by have q0:=zj q B;have O:=q.id;have K:=q.kW;have P:=q.fG;have R:=q.fault;simp only [mN] at K;omega))).symm
 refine cm aj 7 [0,1] (mc 3 U (mc 1 U mn)) ?_;refine dC (xs:=[.tmp 70]) (cs:=[(vI p.jn)]) U cM jW U U U U (by simp [Value.cells]) U U fun n=>?_;refine rS (CL (de.eq (j0 0 ((j.Race.bf.length:Int)-1) ([p.jn]) (some ⟨n,0,none⟩) 1 (by (simp;done))) cp) (aw (aM 0 U U (by simp [br]) U)<|aA) U) ?_;refine aq aj 2 ?_;refine cz (t:=74) U (aG fun AA=>?_) (aH fun AA=>?_)
 ·exact aS aj 46 U<|cr fD 9 hQ U U<|cI (kI A (uv hp (fun q=>by have q0:=zj q B;have O:=q.id;have K:=q.kW;have P:=q.fG;have R:=q.fault;simp only [mN] at K;omega))).symm
 refine cm aj 7 [0,1] (mc 4 U (mc 2 U mn)) ?_;refine dC (xs:=[.tmp 81]) (cs:=[(vI p.jY)]) U cM jW U U U U (by simp [Value.cells]) U U fun o=>?_;refine rS (CL (de.eq (j0 0 ((j.Race.ay.length:Int)-1) ([p.jY]) (some ⟨o,0,none⟩) 1 (by (simp;done))) cp) (aw (aM 0 U U (by simp [br]) U)<|aA) U) ?_;refine aq aj 2 ?_;refine cz (t:=85) U (aG fun V=>?_) (aH fun V=>?_)
 ·exact aS aj 35 U<|cr fD 9 hQ U U<|cI (kI A (uv hp (fun q=>by have q0:=zj q B;have O:=q.id;have K:=q.kW;have P:=q.fG;have R:=q.fault;simp only [mN] at K;omega))).symm
 refine cm aj 6 [0,1] (mc 5 U (mc 3 U mn)) ?_;refine dC (xs:=[.tmp 91]) (cs:=[(vI p.lx)]) U cM jW U U U U (by simp [Value.cells]) U U fun r=>?_;refine rS (CL (de.eq (j0 0 ((j.bB.length:Int)-1) ([p.lx]) (some ⟨r,0,none⟩) 1 (by (simp;done))) cp) (aw (aM 0 U U (by simp [br]) U)<|aA) U) ?_;refine aq aj 10 ?_;refine bE U (aG fun N=>?_) (aH fun N=>?_)
 ·refine aq aW 9 ?_;refine bE U (aK fun E=>?_) (aJ fun E=>?_)
  ·refine cm aW 13 [] (mc 4 U mn) ?_;have a:(vI (rD j (k+1)))=(vI p.Id):=by exact cI (pC hp)
   have b:(vI (((k+1):Nat):Int))=(vI ((k:Int)+1)):=by exact cI I
   refine aL (L ⟨(k+1),(by exact absurd E N)⟩ _ _ _ U os (cx 4<|aQ U a<|aQ U b<|cS.nil _) (aB [5,6,7,8,9,10,11,12,13,14,15,16,17]))
  exact aS aW 6 U<|cr fD 9 hQ U U<|cI (kI A (uv hp (fun q=>by have q0:=zj q B;have O:=q.id;have K:=q.kW;have P:=q.fG;have R:=q.fault;simp only [mN] at K;omega))).symm
 refine aq aW 1 ?_;refine cP bX [11,12] [] [] [0,1,2,3,4,5,6,7,8,9,10,11,12,13,14,15,16,17] [] U U U U U<|eS U (FA 0 U eB U)<|eS U (FA 10 U eB U)<|eS U (L1 (vS heA j.Race.ay.length heC) 6 U bP U U)<|eS U (FA 2 U eB U)<|eS U (L1 (vI p.jY) 4 U bP U U) ?_;have A3:=(dF A).2;obtain ⟨ht,H⟩:=ax j.Race.ay ((p.jY).toNat) I;obtain ⟨D,G⟩:=ax ha ((p.jY).toNat) I;have e:(zipWith dQ j.Race.ay ha)[(p.jY).toNat]? =some (dQ ht D):=cD H G;refine eS U (IA ((p.jY).toNat) U (au 14 U) mz dc I I)<|eS U (gG ((p.jY).toNat) 0 (vS D.1.1 ht.length D.1.2) U bP (au 14 U) e U dc U)<|eS U (FA 1 U eB U) ?_;have c:=f.fG _ _ _ H G;have A9:=c.mD;have Bx:=(A3.fG ht (aF H)).1;refine eS U (L1 (vI p.jn) 4 U bP U U) ?_;obtain ⟨d,hd⟩:=ax ht ((p.jn).toNat) I;obtain ⟨da,AC⟩:=ax D.2 ((p.jn).toNat) I;have AO:(zipWith ao.cells ht D.2)[(p.jn).toNat]? =some (ao.cells d da):=cD hd AC;refine eS U (IA ((p.jn).toNat) U (show ij _ (jc D.1.1 ht D.2).holds from (ct 15 U (bq H G bZ))) rV dc I I) ?_;have AB:=q_ (j:=j) (p:=p) H hd;have C1:=c.sig d (aF hd);refine eS U (ld ((p.jn).toNat) 0 (aO.cells (aO.mk d.Out d.cV d.Time (dx.mk d.bp.Start d.bp.hU (aV.mk da.1 d.bp.ab.length da.2)))) U bP (show ij _ (jc D.1.1 ht D.2).holds from (ct 15 U (bq H G bZ))) AO U dc U U)<|dI U<|bQ U fun T43 W=>AL U KP fun Ck=>bG (W _ _ (aB [1,2,3,4,5,6,7,8,9,10,11,12,13,14,15,16,17,18]) ?_);refine bQ U fun T45 X=>eN U G4 U<|bG (X _ _ (aB [1,2,3,4,5,6,7,8,9,10,11,12,13,14,15,16,17,18]) ?_);refine eJ U<|dD jE 3 [] (mc 0 U mn) U<|rS (CL (v7 d.Out d.cV d.Time (dx.mk d.bp.Start d.bp.hU (aV.mk da.1 d.bp.ab.length da.2))) (aA) U)<|aq aj 1 ?_;refine cz (t:=109) U (aG fun F=>?_) (aH fun F=>?_)
 ·exact aS aj 25 rfl<|cr fD 9 hQ rfl rfl<|cI (kI A (uv hp (fun q=>by obtain ⟨d2,S,r1,r2⟩:=q.ng;rw [AB] at S;cases S;first|exact F r1|omega))).symm
 refine cm aj 5 [0,1] (mc 0 U (mc 5 U mn)) ?_;refine dC (xs:=[.tmp 114]) (cs:=[(vI p.At)]) U cM jW U U U U (by simp [Value.cells]) U U fun s=>?_;refine rS (CL (de.eq (j0 d.bp.Start 86400000 ([p.At]) (some ⟨s,0,none⟩) 1 (by (simp;done))) cp) (aw (aM 0 U U (by simp [br]) U)<|aA) U) ?_;refine aq aj 11 ?_;refine bE U (aK fun E=>?_) (aJ fun E=>?_)
 ·refine cm aW 13 [] (mc 6 U mn) ?_;have Y:(vI (rD j (k+1)))=(vI p.Id):=by exact cI (pC hp)
  have Z:(vI (((k+1):Nat):Int))=(vI ((k:Int)+1)):=by exact cI I
  refine aL (L ⟨(k+1),(by exact ⟨I,vi C hp (SZ hp T An.1 AA V N AB F E)⟩)⟩ _ _ _ U os (cx 4<|aQ U Y<|aQ U Z<|cS.nil _) (aB [7,8,9,10,11,12,13,14,15,16,17,18,19]))
 exact aS aW 6 rfl<|cr fD 9 hQ rfl rfl<|cI (kI A (uv hp (fun q=>by obtain ⟨d2,S,r1,r2⟩:=q.ng;rw [AB] at S;cases S;first|exact F r1|omega))).symm
theorem Df (hin:jA j az ha):
 de Tryz.prog 25 [(vA (kp.cells (rL j kA kC cA cC bA bC slA slC drA drC heA heC faA faC prA prC)))] ((rd ig 3 2 fY)::(BT j kA az cA bA slA drA ha heA faA prA)) (vT [(vA (dq.cells (dq.mk (rL j kA kC cA cC bA bC slA slC drA drC heA heC faA faC prA prC)))),(vI (fU j))]):=by
 refine bg kr Tryz.func25 U U fun C Q hQ hN=>?_
 try dsimp only
 refine aS bS 2 U<|dV U fun A=>AL U RH fun B=>aS aj 4 U<|cK bX 4 kr<|jZ 1 [] (mc 1 U mn) U<|dS (SX (aU (xs:=[(0,.tmp 4)]) (cs:=(dq.cells (dq.mk (rL j kA kC cA cC bA bC slA slC drA drC heA heC faA faC prA prC)))) U U (aT aal U)) U U)<|jZ 1 [] (mc 1 U mn) U<|dS (CL (QL j kA kC az cA cC bA bC slA slC drA drC ha heA heC faA faC prA prC hin) (aP [2,3,4,5,6,7,8,9,10,11,12]) U)<|cy<|eN U Tc U<|aq aj 4 ?_;refine mU hQ [0] (mc 0 U mn) U ?_;rfl
end
section
open Go.RowKit
variable (l:List bO) (lA:OA) (lC:Nat) (f:Value) (p:bO→Bool) (X:ar)
theorem QP (hf:∀ x0,x0∈l→BH Tryz.prog f [.agg (bO.cells x0).toArray] [X] (.bool (p x0))) (hlen:l.length≤1000000):
 de Tryz.prog 155 [(vS lA l.length lC),f] [(oO lA l),X] (vI (uU p l)):=by
 refine bg kr Tryz.func155 U U fun G Q hQ hN=>?_
 try dsimp only
 refine aq bS 14 ?_;have B:(0≤l.length)∧((l.take 0).any p=false):=by simp
 refine bu (ι:={z:Nat // (z≤l.length)∧((l.take z).any p=false)}) [0,1,7] [0,1] U U (fun z=>[(8,(vI (z.1:Int)))]) (fun z=>[]) (fun _=>rfl) (fun _=>rfl) (fun z=>l.length-z.1) ⟨0,B⟩ (aN U) (aB [0,1]) ?_;clear B;rintro ⟨i,⟨D,A⟩⟩ J4 C
 try dsimp only
 refine aq bS 6 ?_;refine bE U (aG fun F=>?_) (aH fun F=>?_)
 ·exact aS aW 1 U<|cr fD 8 hQ U U<|cI (r_ I A).symm
 refine aq aW 15 ?_;obtain ⟨x,hx⟩:=ax l i I;have E:=bw bO.cells hx;refine rS (IA i U (au 0 U) KL dc I I)<|rS (ld i 0 (bO.cells x) U bP (au 0 U) E U dc U U)<|rS (SX (pE U U U (hf x (aF hx)) (aP [1])) U U)<|aq aj 2 ?_;refine bY U (fun hp=>?_) (fun hp=>?_)
 ·exact cr aW 7 hQ U U<|cI (wT hx hp A).symm
 refine aq aW 7 ?_;refine aL (C ⟨(i+1),⟨I,w7 hx A hp⟩⟩ _ _ _ U os (aN U) (aB [0,1]))
theorem FX (hf:∀ x0,x0∈l→BH Tryz.prog f [.agg (bO.cells x0).toArray] [X] (.bool (p x0))) (hlen:l.length≤1000000):
 de Tryz.prog 108 [(vS lA l.length lC),f] [(oO lA l),X] (vB (l.any p)):=by
 refine bg kr Tryz.func108 U U fun A Q hQ hN=>?_
 try dsimp only
 exact aS bS 9 U<|rS (CL (QP l lA lC f p X (by exact hf) hlen) (aP [0,1]) U)<|cr aj 5 hQ U U<|cB uy
theorem Ws (f:bO) (fm:List (Int×Bool)) (gm:Nat) (j:dy) (kA:OA) (kC:Nat) (az:List RA) (cA:OA) (cC:Nat) (bA:OA) (bC:Nat) (slA:OA) (slC:Nat) (drA:OA) (drC:Nat) (ha:List cq) (heA:OA) (heC:Nat) (faA:OA) (faC:Nat) (prA:OA) (prC:Nat) (d:ao) (sgA:OA) (sgC g1:Nat) (g2 g3:Nat) (hin:jA j az ha) (hok:fU j=0) (hfm:f∈j.bB) (hsl:d.bp.ab.length≤1000000):
 de Tryz.prog 109 [(vA (bO.cells f)),(vP g1),(vP g2),(vP g3)] ((iu iV gm (bR vB fm))::((BT j kA az cA bA slA drA ha heA faA prA)++[(gR sgA d.bp.ab),(cb g1 134 [(Value.map (some gm))]),(cb g2 76 (dq.cells (dq.mk (rL j kA kC cA cC bA bC slA slC drA drC heA heC faA faC prA prC)))),(cb g3 52 (aO.cells (aO.mk d.Out d.cV d.Time (jR d.bp sgA sgC))))])) (vB (((lookup (qt j.bB f) fm).getD false)&& !decide (ky j.Race.av f d=0))):=by
 have J:=hin.race;have G:=hin.race.line;have N:=hin.race.hE;have O:=hin.race.has;have K:=hin.race.hO;have H:=hin.nf;have AA:=hin.np;have C:=(fI hok).1;have E:=(fI hok).2;have F:=(dF C).1;have P:=(dF C).2;have D:=(ep F).2.head;unfold fj at D;have B:=E.fault f hfm;have M:0≤f.ji∧f.ji≤1000000:=by have L:=B.2.2;split at L<;>omega
 refine bg kr Tryz.func109 U U fun S Q hQ hN=>?_
 try dsimp only
 refine aS bS 2 U<|dV U fun R=>aS aj 4 U<|cK bX 15 kr<|jZ 5 [0,1,2] (mr 13 U (mr 14 U (mc 0 U mn))) U<|dS (CL (Gj j.bB faA faC f asm) (aP [10]) U)<|dS (SX (mF (kV:=iV) (x:=(qt j.bB f)) (l:=fm) (f:=Value.bool) (z:=false) U U U pW (eD nZ) tv4 (by exact mP 1 U)) U U)<|dP 1 [] mn ?_;refine iQ (t:=13) U (fun A=>?_) (fun A=>?_)
 ·refine iR 7 U<|cy<|cr aj 3 hQ U U ?_
  (rw [A,Bool.false_and];done)
 refine jZ 3 [0,1,2] (mr 14 U (mc 0 U (mr 15 U mn))) U<|dS (CL (JG j kA kC az cA cC bA bC slA slC drA drC ha heA heC faA faC prA prC f d sgA sgC hin (by exact B.1) asm hsl) (aP [2,3,4,5,6,7,8,9,10,11,12]) U)<|dS (BI U nm)<|iR 2 U<|cy<|cr aj 3 hQ U U ?_
 (rw [A,Bool.true_and];done)
end
section
open Go.RowKit
theorem Tw (fm:List (Int×Bool)) (gm:Nat) (j:dy) (kA:OA) (kC:Nat) (az:List RA) (cA:OA) (cC:Nat) (bA:OA) (bC:Nat) (slA:OA) (slC:Nat) (drA:OA) (drC:Nat) (ha:List cq) (heA:OA) (heC:Nat) (faA:OA) (faC:Nat) (prA:OA) (prC g1 g2:Nat) (hin:jA j az ha) (hok:fU j=0):
 U2 Tryz.prog 107 [] [(vP g1),(vP g2)] [(iu iV gm (bR vB fm)),(gQ kA j.Race.av.bW),(pb cA j.Race.av.aD az),(iX (bx aX.lG j.Race.av.aD az)),(oG bA j.Race.av.ag),(eE slA j.Race.bf),(eE drA j.Race.dp),(qZ heA j.Race.ay ha),(iX (bx nu j.Race.ay ha)),(oO faA j.bB),(qC prA j.bM),(cb g1 76 (dq.cells (dq.mk (rL j kA kC cA cC bA bC slA slC drA drC heA heC faA faC prA prC)))),(cb g2 134 [(Value.map (some gm))])] ((0:Nat)) (Ol (iK j (mV j.bB fm))) (fun k=>k=j.Race.ay.length):=by
 have t:=hin.race;have A8:=hin.race.line;have Cp:=hin.race.hE;have Ct:=hin.race.has;have B9:=hin.race.hO;have Bx:=hin.nf;have B7:=hin.np;have s:=(fI hok).1;have Cx:=(fI hok).2;have A7:=(dF s).1;have A9:=(dF s).2;have A5:=(ep A7).2.head;unfold fj at A5;refine Rb kr Tryz.func107 U U fun l J Z A0 w0 Q hY A2 A1 hQ hN=>?_
 try dsimp only
 refine cm bS 11 [] (mr 12 U mn) ?_;have B:(0≤j.Race.ay.length)∧(J 0 A0)∧(Fo A0 w0 A0):=by exact ⟨c4 _,A2,A1⟩
 refine bu (ι:={z:Nat×ar // (z.1≤j.Race.ay.length)∧(J z.1 z.2)∧(Fo A0 w0 z.2)}) [0,1,2,15,16] [1,2,3,4,5,6,7,8,9,10,11,12,13] U U (fun z=>[(17,(vI (z.1.1:Int)))]) (fun z=>[z.1.2]) (fun _=>rfl) (fun _=>rfl) (fun z=>j.Race.ay.length-z.1.1) ⟨(0,A0),B⟩ (aN U) (aB [1,2,3,4,5,6,7,8,9,10,11,12,13,0]) ?_;clear B;rintro ⟨⟨h,A⟩,⟨AA,F,G⟩⟩ J2 A3
 try dsimp only at AA F G
 try dsimp only
 refine aq bS 6 ?_;refine bE U (aG fun h5=>?_) (aH fun h5=>?_)
 ·refine aS aW 1 U<|aq fD 1 ?_;refine hN _ _ _ (g4 (vs:=[]) trivial fun w hs=>LF 13 U (by show h=j.Race.ay.length;omega) F G hs)
 refine aq aW 6 ?_;obtain ⟨ht,E⟩:=ax j.Race.ay h I;obtain ⟨C,D⟩:=ax ha h I;have r:(zipWith dQ j.Race.ay ha)[h]? =some (dQ ht C):=cD E D;refine rS (IA h U (au 7 U) mz dc I I) ?_;have p:=t.fG _ _ _ E D;have By:=p.mD;have B3:=(A9.fG ht (aF E)).1;refine rS (gG h 0 (vS C.1.1 ht.length C.1.2) U bP (au 7 U) r U dc U)<|aq aj 5 ?_;refine lj (kV:=iV) U U fun u=>?_
 try dsimp only
 refine aq aj 12 ?_
 skip
 have B:(0≤ht.length):=by exact c4 _
 refine bu (ι:={z:Nat // (z≤ht.length)}) [0,1,2,5,6,15,16,17,23] [1,2,3,4,5,6,7,8,9,10,11,12,13,14] U U (fun z=>[(24,(vI (z.1:Int)))]) (fun z=>[(iu iV u (bR vB (ja (mK j.Race.av j.bB fm ht) z.1 0)))]) (fun _=>rfl) (fun _=>rfl) (fun z=>ht.length-z.1) ⟨0,B⟩ (aN U) (aB [1,2,3,4,5,6,7,8,9,10,11,12,13,14,0]) ?_;clear B;rintro ⟨q,A6⟩ J12 V
 try dsimp only
 refine aq bS 6 ?_;refine bY U (aH fun AO=>?_) (aG fun AO=>?_)
 ·refine aq aW 13 ?_;have W:(d_ (ja (mK j.Race.av j.bB fm ht) q 0) (q:Int) true)=(ja (mK j.Race.av j.bB fm ht) (q+1) 0):=by exact Np
  refine iP (kV:=iV) (x:=(q:Int)) (C':=[_,_,_,_,_,_,_,_,_,_,_,_,_,_,(iu iV u (bR vB (ja (mK j.Race.av j.bB fm ht) (q+1) 0)))]) 14 U U U U pW (eD nZ) U ((gH _ _ _ _).symm.trans (c7 _ W)) U<|aq aj 7 ?_;have X:(vI (((q+1):Nat):Int))=(vI ((q:Int)+1)):=by exact cI I
  refine aL (V ⟨(q+1),(by first|omega|(simp only [];omega))⟩ _ _ _ U os (cx 9<|aQ U X<|cS.nil _) (aB [0,1,2,3,4,5,6,7,8,9,10,11,12,13,14]))
 refine aS aW 1 U<|aq fD 11 ?_;rw [show (ja (mK j.Race.av j.bB fm ht) q 0)=(ja (mK j.Race.av j.bB fm ht) ht.length 0) from by rw [show q=ht.length by omega]];have B:(0≤ht.length):=by exact c4 _
 refine bu (ι:={z:Nat // (z≤ht.length)}) [0,1,2,5,6,15,16,17,30,31] [0,1,2,3,4,5,6,7,8,9,10,11,12,13] U U (fun z=>[(32,(vI (z.1:Int)))]) (fun z=>[(iu iV u (bR vB (ja (mK j.Race.av j.bB fm ht) ht.length z.1)))]) (fun _=>rfl) (fun _=>rfl) (fun z=>ht.length-z.1) ⟨0,B⟩ (aN U) (aB [0,1,2,3,4,5,6,7,8,9,10,11,12,13,14]) ?_;clear B;rintro ⟨q,v⟩ J22 R
 try dsimp only
 refine aq bS 6 ?_;refine bE U (aG fun AP=>?_) (aH fun AP=>?_)
 ·refine aS aW 1 U<|aq fD 16 ?_;rw [show (ja (mK j.Race.av j.bB fm ht) ht.length q)=(ja (mK j.Race.av j.bB fm ht) ht.length ht.length) from by rw [show q=ht.length by omega]];refine eC 3 1 ?_;have B:(0≤ht.length):=by exact c4 _
  refine bu (ι:={z:Nat×(OA)×Nat // (z.1≤ht.length)}) [0,1,2,5,6,15,16,17,47] [1,2,3,4,5,6,7,8,9,10,11,12,13,14,15] U U (fun z=>[(10,(vS z.1.2.1 ((jX (mK j.Race.av j.bB fm ht) z.1.1).length) z.1.2.2)),(48,(vI (z.1.1:Int)))]) (fun z=>[(fB z.1.2.1 z.1.2.2 (jX (mK j.Race.av j.bB fm ht) z.1.1))]) (fun _=>rfl) (fun _=>rfl) (fun z=>ht.length-z.1.1) ⟨(0,none,0),B⟩ (aN U) (aB [1,2,3,4,5,6,7,8,9,10,11,12,13,14,15,0]) ?_;clear B;rintro ⟨⟨q,a,c⟩,M⟩ J37 S
  try dsimp only at M
  try dsimp only
  refine aq bS 6 ?_;refine bE U (aG fun An=>?_) (aH fun An=>?_)
  ·refine aS aW 1 U<|aq fD 3 ?_;rw [show (jX (mK j.Race.av j.bB fm ht) q)=(jX (mK j.Race.av j.bB fm ht) ht.length) from by rw [show q=ht.length by omega]];refine aq aW 3 ?_;refine Ou (k:=h) (k':=(h+1)) 13 15 U hY F G U U U ⟨_,_,_,Qf E,U,U,U⟩ U U U U (fun B50 K AB=>?_) (fun B50 K AB=>?_);rotate_left 1
   ·refine aq aj 5 ?_;refine hQ _ _ _ (g4 (vs:=[]) trivial fun w hs=>sY 0 U K AB hs)
   refine aq aj 11 ?_;have m:(vI (((h+1):Nat):Int))=(vI ((h:Int)+1)):=by exact cI I
   refine aL (A3 ⟨((h+1),B50),⟨I,K,AB⟩⟩ _ _ _ U os (cx 5<|aQ U m<|cS.nil _) (aB [1,2,3,4,5,6,7,8,9,10,11,12,13,0]))
  refine aS aW 14 U<|rS (SX (mF (kV:=iV) (x:=(q:Int)) (l:=(ja (mK j.Race.av j.bB fm ht) ht.length ht.length)) (f:=Value.bool) (z:=false) U U U pW (eD nZ) tv4 (by exact au 14 U)) U U)<|aq aj 2 ?_;refine bE U (fun T=>?_) (fun T=>?_)
  ·refine aq aW 7 ?_;rw [show (jX (mK j.Race.av j.bB fm ht) q)=(jX (mK j.Race.av j.bB fm ht) (q+1)) from (Ca (by rw [← Cy (P:=(mK j.Race.av j.bB fm ht)) (show q<ht.length by omega)];simpa using T)).symm];have i:(vI (((q+1):Nat):Int))=(vI ((q:Int)+1)):=by exact cI I
   refine aL (S ⟨((q+1),a,c),(by first|omega|(simp only [];omega))⟩ _ _ _ U os (cx 10<|aQ U i<|cS.nil _) (aB [0,1,2,3,4,5,6,7,8,9,10,11,12,13,14,15]))
  refine aq aW 3 ?_;refine dC (xs:=[.tmp 55]) (cs:=[(vI (q:Int))]) U cM jW U U U U (by simp [Value.cells]) U U fun Ci=>?_;refine cZ (es2:=(map iC (jX (mK j.Race.av j.bB fm ht) (q+1)))) (m':=(jX (mK j.Race.av j.bB fm ht) (q+1)).length) 16 U U U pI U U sm (aM (es:=map iC [(q:Int)]) 0 U U (by simp [br]) U) (j4 _) (by have:=rP (P:=(mK j.Race.av j.bB fm ht)) (n:=q);omega) (by have:=rP (P:=(mK j.Race.av j.bB fm ht)) (n:=q);simp only [maxLen];omega) (by rw [xP (by rw [← Cy (P:=(mK j.Race.av j.bB fm ht)) (show q<ht.length by omega)];exact T)];simp) sm U fun y AC=>?_
  try dsimp only
  refine aq aj 8 ?_;have g:(vI (((q+1):Nat):Int))=(vI ((q:Int)+1)):=by exact cI I
  refine aL (S ⟨((q+1),y,AC),(by first|omega|(simp only [];omega))⟩ _ _ _ U os (cx 10<|aQ U g<|cS.nil _) (aB [1,2,3,4,5,6,7,8,9,10,11,12,13,14,15,16]))
 refine aq aW 7 ?_;obtain ⟨d,hd⟩:=ax ht q I;obtain ⟨da,o⟩:=ax C.2 q I;have A4:(zipWith ao.cells ht C.2)[q]? =some (ao.cells d da):=cD hd o;refine rS (IA q U (show ij _ (jc C.1.1 ht C.2).holds from (ct 8 U (bq E D bZ))) rV dc I I) ?_;have C0:=p.sig d (aF hd);refine rS (ld q 0 (aO.cells (aO.mk d.Out d.cV d.Time (dx.mk d.bp.Start d.bp.hU (aV.mk da.1 d.bp.ab.length da.2)))) U bP (show ij _ (jc C.1.1 ht C.2).holds from (ct 8 U (bq E D bZ))) A4 U dc U U)<|AL U KP fun L=>aS aj 1 U<|eN U G4 U<|cm aj 7 [] (mr 12 U mn) ?_;refine rS (FU U) ?_;refine rS (CL (FX j.bB faA faC (Value.func (.func 109) [].toArray [(vP g2),(vP g1),(vP L)].toArray) (fun O=>(((lookup (qt j.bB O) fm).getD false)&& !decide (ky j.Race.av O d=0))) (iX [(iu iV gm (bR vB fm)),(gQ kA j.Race.av.bW),(pb cA j.Race.av.aD az),(iX (bx aX.lG j.Race.av.aD az)),(oG bA j.Race.av.ag),(eE slA j.Race.bf),(eE drA j.Race.dp),(qZ heA j.Race.ay ha),(iX (bx nu j.Race.ay ha)),(oO faA j.bB),(qC prA j.bM),(gR da.1 d.bp.ab),(cb g2 134 [(Value.map (some gm))]),(cb g1 76 (dq.cells (dq.mk (rL j kA kC cA cC bA bC slA slC drA drC heA heC faA faC prA prC)))),(cb L 52 (aO.cells (aO.mk d.Out d.cV d.Time (dx.mk d.bp.Start d.bp.hU (aV.mk da.1 d.bp.ab.length da.2)))))]) (by intro O N;exact kU (fi:=[]) (ca:=[(vP g2),(vP g1),(vP L)]) (jP (Ws O fm gm j kA kC az cA cC bA bC slA slC drA drC ha heA heC faA faC prA prC d da.1 da.2 g2 g1 L (by first|assumption|exact N|omega) (by first|assumption|exact N|omega) (by first|assumption|exact N|omega) (by first|assumption|exact N|omega)) (aP [0,1,2,3,4,5,6,7,8,9,10,11,12,13,14]))) asm) (gN 10 U U<|aw (jH (lV [1,2,3,4,5,6,7,8,9,10,11]<|aw (show ij _ (gR da.1 d.bp.ab).holds from (ct 9 U (bq E D (dg _ (bq hd o (by simp [ao.lG]))))))<|gN 13 U U<|gN 12 U U<|gN 0 U U<|aA))<|aA) U) ?_;refine aq aj 3 ?_;refine bE U (fun H=>?_) (fun H=>?_)
 ·rw [m5] at H;refine aq aW 7 ?_;rw [show (ja (mK j.Race.av j.bB fm ht) ht.length q)=(ja (mK j.Race.av j.bB fm ht) ht.length (q+1)) from Mc (by rw [ID hd];simpa using H)];have e:(vI (((q+1):Nat):Int))=(vI ((q:Int)+1)):=by exact cI I
  refine aL (R ⟨(q+1),(by first|omega|(simp only [];omega))⟩ _ _ _ U os (cx 10<|aQ U e<|cS.nil _) (aB [1,2,3,4,5,6,7,8,9,10,11,12,13,14,15]))
 rw [e0] at H;refine aq aW 3 ?_;have Y:(cH (ja (mK j.Race.av j.bB fm ht) ht.length q) (q:Int))=(ja (mK j.Race.av j.bB fm ht) ht.length (q+1)):=by exact QK (by rw [ID hd];exact H)
 refine pg (kV:=iV) (x:=(q:Int)) (C':=[_,_,_,_,_,_,_,_,_,_,_,_,_,_,_,(iu iV u (bR vB (ja (mK j.Race.av j.bB fm ht) ht.length (q+1))))]) 15 U U U U pW (eD nZ) U ((mo _ _ _).symm.trans (c7 _ Y)) U<|aq aj 7 ?_;have b:(vI (((q+1):Nat):Int))=(vI ((q:Int)+1)):=by exact cI I
 refine aL (R ⟨(q+1),(by first|omega|(simp only [];omega))⟩ _ _ _ U os (cx 10<|aQ U b<|cS.nil _) (aB [1,2,3,4,5,6,7,8,9,10,11,12,13,14,15]))
end
section
open Go.RowKit
variable (fm:List (Int×Bool)) (gm:Nat) (j:dy) (kA:OA) (kC:Nat) (az:List RA) (cA:OA) (cC:Nat) (bA:OA) (bC:Nat) (slA:OA) (slC:Nat) (drA:OA) (drC:Nat) (ha:List cq) (heA:OA) (heC:Nat) (faA:OA) (faC:Nat) (prA:OA) (prC:Nat)
theorem Vn:
 lf Tryz.prog 59 [(vA (dq.cells (dq.mk (rL j kA kC cA cC bA bC slA slC drA drC heA heC faA faC prA prC)))),(Value.map (some gm))] [] (fun (x:Nat×Nat)=>(Value.func (.func 107) [].toArray [(Value.pointer (some ⟨x.1,0,none⟩)),(Value.pointer (some ⟨x.2,0,none⟩))].toArray)) (fun (x:Nat×Nat)=>True) (fun (x:Nat×Nat)=>[(cb x.1 76 (dq.cells (dq.mk (rL j kA kC cA cC bA bC slA slC drA drC heA heC faA faC prA prC)))),(cb x.2 134 [(Value.map (some gm))])]):=by
 refine cR kr Tryz.func59 U U fun C Q hQ hN=>?_
 try dsimp only
 refine aS bS 2 U<|dV U fun A=>sR U U fun B=>aS aj 5 U<|rS (FU U)<|aq aj 4 ?_;refine LX hQ (A,B) [1,0] [] mn U U U U ?_;trivial
theorem Ra (g1 g2:Nat) (hin:jA j az ha) (hok:fU j=0):
 lf Tryz.prog 106 [(vS none 0 0),(Value.func (.func 107) [].toArray [(vP g1),(vP g2)].toArray)] ((iu iV gm (bR vB fm))::((BT j kA az cA bA slA drA ha heA faA prA)++[(cb g1 76 (dq.cells (dq.mk (rL j kA kC cA cC bA bC slA slC drA drC heA heC faA faC prA prC)))),(cb g2 134 [(Value.map (some gm))])])) (fun (x:(List RA)×(OA)×Nat)=>(vS x.2.1 ((iK j (mV j.bB fm)).length) x.2.2)) (fun (x:(List RA)×(OA)×Nat)=>x.1.length=(iK j (mV j.bB fm)).length) (fun (x:(List RA)×(OA)×Nat)=>[(wq x.2.1 x.2.2 (iK j (mV j.bB fm)) x.1),(bD (bx z3 (iK j (mV j.bB fm)) x.1))]):=by
 have R:=hin.race;have L:=hin.race.line;have Z:=hin.race.hE;have b:=hin.race.has;have T:=hin.race.hO;have O:=hin.nf;have P:=hin.np;have Y:(iK j (mV j.bB fm)).length=j.Race.ay.length:=by unfold iK;rw [c3]
 refine cR kr Tryz.func106 U U fun o Q hQ hN=>?_
 try dsimp only
 refine aS bS 2 U<|sR U U fun N=>aq aj 10 ?_;refine iy 1 U (by exact fun _ h=>h)<|iy 3 U (by exact fun _ h=>h)<|iy 5 U (by exact fun _ h=>h)<|iy 7 U (by exact fun _ h=>h)<|iy 9 U (by exact fun _ h=>h)<|iy 11 U (by exact fun _ h=>h)<|iy 13 U (by exact fun _ h=>h)<|iy 15 U (by exact fun _ h=>h)<|iy 17 U (by exact fun _ h=>h)<|iy 19 U (by exact fun _ h=>h)<|iy 21 U (by exact fun _ h=>h)<|iy 23 U (by exact fun _ h=>h)<|iy 25 U (by exact fun _ h=>h)<|eC 29 1<|mj ?_;refine Qz (L0:=[(2,(vP N))]) (F:=[(iu iV gm (bR vB fm)).ro,(gQ kA j.Race.av.bW).ro,(pb cA j.Race.av.aD az).ro,(iX (bx aX.lG j.Race.av.aD az)).ro,(oG bA j.Race.av.ag).ro,(eE slA j.Race.bf).ro,(eE drA j.Race.dp).ro,(qZ heA j.Race.ay ha).ro,(iX (bx nu j.Race.ay ha)).ro,(oO faA j.bB).ro,(qC prA j.bM).ro,(cb g1 76 (dq.cells (dq.mk (rL j kA kC cA cC bA bC slA slC drA drC heA heC faA faC prA prC)))).ro,(cb g2 134 [(Value.map (some gm))]).ro]) (fun k (y:(List RA)×(OA)×Nat)=>(y.1.length=k)) (fun k y=>[(bD (bx z3 (List.take k (iK j (mV j.bB fm))) y.1)),(wq y.2.1 y.2.2 (List.take k (iK j (mV j.bB fm))) y.1),(cb N 42 [(vS y.2.1 ((List.take k (iK j (mV j.bB fm))).length) y.2.2)]),(iu iV gm (bR vB fm)).ro,(gQ kA j.Race.av.bW).ro,(pb cA j.Race.av.aD az).ro,(iX (bx aX.lG j.Race.av.aD az)).ro,(oG bA j.Race.av.ag).ro,(eE slA j.Race.bf).ro,(eE drA j.Race.dp).ro,(qZ heA j.Race.ay ha).ro,(iX (bx nu j.Race.ay ha)).ro,(oO faA j.bB).ro,(qC prA j.bM).ro]) (fun _ (_:Unit)=>False) (fun _ _=>[]) [0,1,15,16,17,18,19,20,21,22,23,24,25,26] [14,13,12,11,10,9,8,7,6,5,4,3,2] (([]:List RA),none,0) rfl rfl (Tw fm gm j kA kC az cA cC bA bC slA slC drA drC ha heA heC faA faC prA prC g1 g2 (by first|assumption|omega|(simp;done)) (by first|assumption|omega|(simp;done))) rfl rfl rfl (by exact rfl) (by simp only [AAI,h_,AAs,AAv,ABC];exact ⟨⟨_,aF (i:=0) rfl,(df (bL _))⟩,⟨_,aF (i:=1) rfl,(df (bL _))⟩,⟨_,aF (i:=2) rfl,(df (bL _))⟩,⟨_,aF (i:=3) rfl,(df (bL _))⟩,⟨_,aF (i:=4) rfl,(df (bL _))⟩,⟨_,aF (i:=5) rfl,(df (bL _))⟩,⟨_,aF (i:=6) rfl,(df (bL _))⟩,⟨_,aF (i:=7) rfl,(df (bL _))⟩,⟨_,aF (i:=8) rfl,(df (bL _))⟩,⟨_,aF (i:=9) rfl,(df (bL _))⟩,⟨_,aF (i:=10) rfl,(df (bL _))⟩,⟨_,aF (i:=11) rfl,(df (bL _))⟩,⟨_,aF (i:=12) rfl,(df (bL _))⟩⟩) (by rintro k x R0 g ⟨_,_,_,_,rfl,_,_⟩;rfl) rfl (aN rfl) ?_ ?_ (fun _ _ _ h=>h.elim) (fun _ _ h=>h.elim);rotate_left 1
 ·rintro m k ⟨gz,a,c⟩ B C;have D:=C
  try dsimp only at D
  try dsimp only
  rw [show (List.take k (iK j (mV j.bB fm)))=(iK j (mV j.bB fm)) from c5 (by have X:k=j.Race.ay.length:=B;omega)];have K:gz.length=(iK j (mV j.bB fm)).length:=by have X:k=j.Race.ay.length:=B;omega
  refine cm jE 9 [] (mc 16 U mn) ?_;refine hQ _ _ _ (nI 0 U U<|g4 (vs:=[(vS a ((iK j (mV j.bB fm)).length) c)]) ⟨U,trivial⟩ fun w hs=>EO (gz,a,c) [15,14] ?_ ?_ U U (by show all _ _=true;simp only [eX,om,vk,n4];rfl) hs)
  ·rfl
  ·exact K
 rintro k x R0 g ⟨gz,a,c⟩ l ra rb S p K5 Qr6 f hx H J G AA V;obtain ⟨xa,xc,row,A,rfl,rfl,rfl⟩:=hx;have D:=H
 try dsimp only at D
 try dsimp only
 have d:=(aR.1 A).1;have E:gz.length=(List.take k (iK j (mV j.bB fm))).length:=by rw [k5];omega
 have M:(List.take (k+1) (iK j (mV j.bB fm))).length=k+1:=by rw [k5];omega
 refine aq bS 3 ?_;refine aL (J _ _ ?_);refine cm bS 4 [] (mc 3 U mn) ?_;refine dC (xs:=[.tmp 9]) (cs:=[(vS xa row.length xc)]) U wB M8 U U U U (by simp [Value.cells]) U U fun n=>?_;refine cZ (es2:=(zipWith rp (List.take (k+1) (iK j (mV j.bB fm))) (gz++[(xa,xc)]))) (m':=(List.take (k+1) (iK j (mV j.bB fm))).length) 3 rfl rfl rfl YF rfl rfl (iO E).symm (aM (es:=zipWith rp [row] [(xa,xc)]) 0 rfl rfl (by intro e he;simp [rp] at he;subst he;rfl) rfl) (Je _ _) I (by simp only [maxLen];omega) (by rw [Bd A];exact B6 E.symm) (by exact iO (by rw [M];simp;omega)) rfl fun W AB=>?_
 try dsimp only
 refine NV (Y':=bx z3 (List.take (k+1) (iK j (mV j.bB fm))) (gz++[(xa,xc)])) 2 16 U U (by rw [Bd A];exact Ak E.symm U) ?_;refine SO4 U aaA U U<|aq aj 2 ?_;exact G ((gz++[(xa,xc)]),W,AB) _ _ (by (rw [e4];simp;omega)) (aB [2,0,3,4,5,6,7,8,9,10,11,12,13,14,15])
theorem Tx (g1 g2:Nat) (hin:jA j az ha) (hok:fU j=0):
 lf Tryz.prog 58 [(Value.func (.func 107) [].toArray [(vP g1),(vP g2)].toArray)] ((iu iV gm (bR vB fm))::((BT j kA az cA bA slA drA ha heA faA prA)++[(cb g1 76 (dq.cells (dq.mk (rL j kA kC cA cC bA bC slA slC drA drC heA heC faA faC prA prC)))),(cb g2 134 [(Value.map (some gm))])])) (fun (x:(List RA)×(OA)×Nat)=>(vS x.2.1 ((iK j (mV j.bB fm)).length) x.2.2)) (fun (x:(List RA)×(OA)×Nat)=>x.1.length=(iK j (mV j.bB fm)).length) (fun (x:(List RA)×(OA)×Nat)=>[(wq x.2.1 x.2.2 (iK j (mV j.bB fm)) x.1),(bD (bx z3 (iK j (mV j.bB fm)) x.1))]):=by
 refine cR kr Tryz.func58 U U fun G Q hQ hN=>?_
 try dsimp only
 refine aq bS 8 ?_;refine cX (Ra fm gm j kA kC az cA cC bA bC slA slC drA drC ha heA heC faA faC prA prC g1 g2 hin hok) (aP [0,1,2,3,4,5,6,7,8,9,10,11,12]) U fun F C=>?_;obtain ⟨A,D,E⟩:=F
 try dsimp only
 have B:=C;refine aq aj 4 ?_;refine LX hQ (A,D,E) [0,1] [] mn U (by show all _ _=true;simp only [eX,om,vk,n4];rfl) U U ?_;exact B
end
section
open Go.RowKit
variable (j:dy) (kA:OA) (kC:Nat) (az:List RA) (cA:OA) (cC:Nat) (bA:OA) (bC:Nat) (slA:OA) (slC:Nat) (drA:OA) (drC:Nat) (ha:List cq) (heA:OA) (heC:Nat) (faA:OA) (faC:Nat) (prA:OA) (prC:Nat)
theorem BW (hin:jA j az ha) (hok:fU j=0):
 lf Tryz.prog 26 [(vA (dq.cells (dq.mk (rL j kA kC cA cC bA bC slA slC drA drC heA heC faA faC prA prC))))] (BT j kA az cA bA slA drA ha heA faA prA) (fun (x:(List RA)×(OA)×Nat)=>(vS x.2.1 ((gf j).length) x.2.2)) (fun (x:(List RA)×(OA)×Nat)=>x.1.length=(gf j).length) (fun (x:(List RA)×(OA)×Nat)=>[(wq x.2.1 x.2.2 (gf j) x.1),(bD (bx z3 (gf j) x.1))]):=by
 have m:=hin.race;have Y:=hin.race.line;have w:=hin.race.hE;have y:=hin.race.has;have o:=hin.race.hO;have h:=hin.nf;have l:=hin.np;have K:=(fI hok).1;have J:=(fI hok).2;have X:=(dF K).1;have AP:=(dF K).2;have AA:=(ep X).2.head;unfold fj at AA;have AC:=J.np;have k:=HC (j:=j);refine cR kr Tryz.func26 U U fun w0 Q hQ hN=>?_
 try dsimp only
 refine aS bS 2 U<|dV U fun b2=>aq aj 5 ?_;refine lj (kV:=iV) U U fun N=>?_
 try dsimp only
 refine cm aj 10 [] (mc 1 U mn) ?_;refine rS (FU U) ?_;refine cX (Ja j.bM prA prC (Value.func (.func 48) [(vA (dq.cells (dq.mk (rL j kA kC cA cC bA bC slA slC drA drC heA heC faA faC prA prC))))].toArray [].toArray) (fun d M=>(nS j M)) (iX [(gQ kA j.Race.av.bW),(pb cA j.Race.av.aD az),(iX (bx aX.lG j.Race.av.aD az)),(oG bA j.Race.av.ag),(eE slA j.Race.bf),(eE drA j.Race.dp),(qZ heA j.Race.ay ha),(iX (bx nu j.Race.ay ha)),(oO faA j.bB),(qC prA j.bM)]) (by intro d M Z;exact kU (fi:=[(vA (dq.cells (dq.mk (rL j kA kC cA cC bA bC slA slC drA drC heA heC faA faC prA prC))))]) (ca:=[]) (jP (Cb j kA kC az cA cC bA bC slA slC drA drC ha heA heC faA faC prA prC d M asm asm (by (obtain ⟨i_,_,V⟩:=Z;exact ⟨i_,V⟩))) (aP [0,1,2,3,4,5,6,7,8,9]))) asm) (gN 11 rfl rfl<|aw (jH (aP [2,3,4,5,6,7,8,9,10,11]))<|aA) rfl fun y9 q=>?_;obtain ⟨s,u⟩:=y9
 try dsimp only
 rw [show (jX (jk j.bM (fun d M=>(nS j M))) j.bM.length)=lQ j from rfl];refine aq aj 5 ?_
 skip
 have A:(0≤(lQ j).length):=by exact c4 _
 refine bu (ι:={z:Nat // (z≤(lQ j).length)}) [1,3,12,13] [0,2,3,4,5,6,7,8,9,10,11,12] U U (fun z=>[(14,(vI (z.1:Int)))]) (fun z=>[(iu iV N (bR vB (yU j.bB (Lr j z.1))))]) (fun _=>rfl) (fun _=>rfl) (fun z=>(lQ j).length-z.1) ⟨0,A⟩ (aN U) (aB [0,2,3,4,5,6,7,8,9,10,11,12,1]) ?_;clear A;rintro ⟨t,W⟩ J13 E
 try dsimp only
 refine aq bS 6 ?_;refine bE U (aG fun S=>?_) (aH fun S=>?_)
 ·refine aS aW 1 U<|cm fD 6 [] (mc 1 U mn) ?_;refine cX (Vn N j kA kC cA cC bA bC slA slC drA drC heA heC faA faC prA prC) (aA) U fun e r=>?_;obtain ⟨P,C⟩:=e
  try dsimp only
  refine cX (Tx (yU j.bB (Lr j t)) N j kA kC az cA cC bA bC slA slC drA drC ha heA heC faA faC prA prC P C hin hok) (aP [14,4,5,6,7,8,9,10,11,12,13,0,1]) U fun g L=>?_;obtain ⟨D,O,R⟩:=g
  try dsimp only
  have AB:=L;have c:(iK j (mV j.bB (yU j.bB (Lr j t))))=(gf j):=by exact Hm I
  rw [c] at AB ⊢;refine aq aj 4 ?_;refine LX hQ (D,O,R) [0,1] [] mn U (by show all _ _=true;simp only [eX,om,vk,n4];rfl) U U ?_;exact AB
 refine aq aW 6 ?_;obtain ⟨gi,B⟩:=ax (lQ j) t I;have H:=bw iC B;refine rS (IA t U (ak (n:=(lQ j).length) 0 U sm) cM dc I I)<|rS (gG t 0 (vI gi) U bP (ak (n:=(lQ j).length) 0 U sm) H U dc U)<|aS aj 3 U<|cK bX 17 kr<|dP 10 [] (mc 1 U mn) ?_;obtain ⟨gk,v,i⟩:=Kq B;refine dP 1 [] mn ?_;obtain ⟨p,hp⟩:=ax j.bM ((gi).toNat) I;have a:=bw c_.cells hp;refine dS (IA ((gi).toNat) U (au 11 U) Qs dc I I)<|dS (pV ((((gi).toNat)*5)+3) U (au 11 U) (e6 I dc) eB U) ?_;have b:=J.iN _ p hp;have AO:=b.fault;refine dS (gG ((gi).toNat) 3 (vI p.lx) U bP (au 11 U) a U dc U) ?_;obtain ⟨f,hf⟩:=ax j.bB ((p.lx).toNat) I;have T:=bw bO.cells hf;refine dS (IA ((p.lx).toNat) U (au 10 U) KL dc I I)<|dS (ld ((p.lx).toNat) 0 (bO.cells f) U bP (au 10 U) T U dc U U)<|dS (CL (Gj j.bB faA faC f asm) (aP [10]) U)<|cy ?_;have F:(d_ (yU j.bB (Lr j t)) (qt j.bB f) true)=(yU j.bB (Lr j (t+1))):=by rw [OR B hp hf,KV]
 refine iP (kV:=iV) (x:=(qt j.bB f)) (C':=[_,_,_,_,_,_,_,_,_,_,_,_,(iu iV N (bR vB (yU j.bB (Lr j (t+1)))))]) 12 U U U U pW (eD nZ) U ((gH _ _ _ _).symm.trans (c7 _ F)) U<|aq aj 7 ?_;have G:(vI (((t+1):Nat):Int))=(vI ((t:Int)+1)):=by exact cI I
 refine aL (E ⟨(t+1),(by first|omega|(simp only [];omega))⟩ _ _ _ U os (cx 4<|aQ U G<|cS.nil _) (aB [0,1,2,3,4,5,6,7,8,9,10,11,12]))
theorem yc (hin:jA j az ha):
 lf Tryz.prog 7 [(vA (kp.cells (rL j kA kC cA cC bA bC slA slC drA drC heA heC faA faC prA prC)))] ((rd ig 3 2 fY)::(BT j kA az cA bA slA drA ha heA faA prA)) (fun (x:(List RA)×(OA)×Nat)=>(vT [(vS x.2.1 ((eG j).length) x.2.2),(vI (fU j))])) (fun (x:(List RA)×(OA)×Nat)=>x.1.length=(eG j).length) (fun (x:(List RA)×(OA)×Nat)=>[(wq x.2.1 x.2.2 (eG j) x.1),(bD (bx z3 (eG j) x.1))]):=by
 have L:=hin.race;have H:=hin.race.line;have N:=hin.race.hE;have O:=hin.race.has;have M:=hin.race.hO;have J:=hin.nf;have K:=hin.np;refine cR kr Tryz.func7 U U fun T Q hQ hN=>?_
 try dsimp only
 refine aS bS 2 U<|dV U fun R=>dD aj 7 [] (mc 0 U mn) U<|rS (CL (Df j kA kC az cA cC bA bC slA slC drA drC ha heA heC faA faC prA prC hin) (aP [1,2,3,4,5,6,7,8,9,10,11]) U)<|aS aj 3 U<|AL U RH fun S=>eN U Tc U<|aq aj 10 ?_;refine bY U (aJ fun A=>?_) (aK fun A=>?_)
 ·refine aq aW 2 ?_;have C:(eG j)=[]:=yH A;have B:([]:List RA).length=(eG j).length:=by rw [C];rfl
  refine fT 29 1<|xz ?_;rw [show (own none 0 29 1 ([]:List (List Value)))=own none 0 29 1 (zipWith rp (eG j) []) from by rw [C];rfl,show bD []=bD (bx z3 (eG j) []) from by rw [C];rfl];refine aq aj 6 ?_;refine LX hQ ([],none,0) [1,0] [] mn U (by show all _ _=true;simp only [eX,om,vk,n4];rfl) U ?_ ?_
  ·(rw [yH A];rfl)
  ·exact B
 refine cm aW 5 [] (mc 0 U mn) ?_;refine cX (BW j kA kC az cA cC bA bC slA slC drA drC ha heA heC faA faC prA prC hin asm) (aP [3,4,5,6,7,8,9,10,11,12]) U fun P E=>?_;obtain ⟨D,F,G⟩:=P
 try dsimp only
 have B:=E;refine aq aj 1 ?_;have AA:(gf j)=(eG j):=by exact (ly A).symm
 rw [AA] at B ⊢;refine aq aj 4 ?_;refine LX hQ (D,F,G) [0,1] [] mn U (by show all _ _=true;simp only [eX,om,vk,n4];rfl) U ?_ ?_
 ·(rw [A];rfl)
 ·exact B
end
section
open Go.RowKit
theorem Ew (r:cN) (kA:OA) (kC:Nat) (az:List RA) (cA:OA) (cC:Nat) (bA:OA) (bC:Nat) (slA:OA) (slC:Nat) (drA:OA) (drC:Nat) (ha:List cq) (heA:OA) (heC:Nat) (hraw:wY r az ha):
 de Tryz.prog 22 [(vA (cf.cells (pP r kA kC cA cC bA bC slA slC drA drC heA heC)))] (Dp r kA az cA bA slA drA ha heA) (vB (decide (lZ r))):=by
 have Y:=hraw.line;have c:=hraw.hE;have f:=hraw.has;have b:=hraw.hO;have Z:=hraw.draw;refine bg kr Tryz.func22 U U fun k Q hQ hN=>?_
 try dsimp only
 refine aS bS 2 U<|dV U fun h=>aS aj 7 U<|rS (LP (bU.cells (kN r.av kA kC cA cC bA bC)) 0 U bP U U U)<|rS (CL (PW r.av kA kC az cA cC bA bC asm) (aP [1,2,3,4]) U)<|aq aj 1 ?_;refine bJ (t:=8) U (aH fun S=>?_) (aG fun S=>?_)
 ·exact cr aj 26 hQ U U<|cB (cT (su (.inl S))).symm
 refine cm aj 6 [] (mc 0 U mn) ?_;refine bJ (t:=14) U (aH fun H=>?_) (aG fun H=>?_)
 ·exact cr aj 20 hQ U U<|cB (cT (su (.inr I))).symm
 refine cm aj 6 [] (mc 0 U mn) ?_;refine bJ (t:=20) U (aH fun O=>?_) (aG fun O=>?_)
 ·exact cr aj 14 hQ U U<|cB (cT (su (.inr I))).symm
 refine cm aj 7 [] (mc 0 U mn) ?_;refine bY U (aH fun R=>?_) (aG fun R=>?_)
 ·exact cr aW 6 hQ U U<|cB (cT (su (.inr I))).symm
 refine aq aW 9 ?_;have B:(0≤r.ay.length)∧(nz r 0):=by exact ⟨c4 _,Fb⟩
 refine bu (ι:={z:Nat // (z≤r.ay.length)∧(nz r z)}) [1] [0,1,2,3,4,5,6,7,8] U U (fun z=>[(3,(vI (z.1:Int)))]) (fun z=>[]) (fun _=>rfl) (fun _=>rfl) (fun z=>r.ay.length-z.1) ⟨0,B⟩ (aN U) (aB [0,1,2,3,4,5,6,7,8]) ?_;clear B;rintro ⟨i,⟨W,F⟩⟩ J11 K
 try dsimp only
 refine cm bS 10 [] (mc 0 U mn) ?_;refine bE U (aG fun H=>?_) (aH fun H=>?_)
 ·exact aS aW 1 U<|cr fD 8 hQ U U<|cB (bj (Kj S I F I)).symm
 refine cm aW 10 [] (mc 0 U mn) ?_;obtain ⟨ht,D⟩:=ax r.ay i I;obtain ⟨A,C⟩:=ax ha i I;have E:(zipWith dQ r.ay ha)[i]? =some (dQ ht A):=cD D C;refine rS (IA i U (au 7 U) mz dc I I)<|rS (gG i 0 (vS A.1.1 ht.length A.1.2) U bP (au 7 U) E U dc U) ?_;obtain ⟨e,a,V⟩:=hraw.fG _ _ _ D C;refine aq aj 4 ?_;refine bY U (aH fun AB=>?_) (aG fun AB=>?_)
 ·exact cr aW 6 hQ U U<|cB (cT (FO D AB)).symm
 refine aq aW 8 ?_;have B:(0≤ht.length)∧(o1 ht 0):=by exact ⟨c4 _,F_⟩
 refine bu (ι:={z:Nat // (z≤ht.length)∧(o1 ht z)}) [1,3] [0,1,2,3,4,5,6,7,8] U U (fun z=>[(4,(vI (z.1:Int)))]) (fun z=>[]) (fun _=>rfl) (fun _=>rfl) (fun z=>ht.length-z.1) ⟨0,B⟩ (aN U) (aB [0,1,2,3,4,5,6,7,8]) ?_;clear B;rintro ⟨j,⟨X,G⟩⟩ J20 L
 try dsimp only
 refine dD bS 7 [] (mc 0 U mn) U<|rS (IA i U (au 7 U) mz dc I I)<|rS (gG i 0 (vS A.1.1 ht.length A.1.2) U bP (au 7 U) E U dc U)<|aq aj 4 ?_;refine bE U (aG fun P=>?_) (aH fun P=>?_)
 ·refine aS aW 1 U<|aq fD 8 ?_;have N:(vI (((i+1):Nat):Int))=(vI ((i:Int)+1)):=by exact cI I
  refine aL (K ⟨(i+1),⟨I,Gf F D (GU AB G I)⟩⟩ _ _ _ U os (cS.cons U<|aQ U N<|cS.nil _) (aB [0,1,2,3,4,5,6,7,8]))
 refine dD aW 9 [] (mc 0 U mn) U<|rS (IA i U (au 7 U) mz dc I I)<|rS (gG i 0 (vS A.1.1 ht.length A.1.2) U bP (au 7 U) E U dc U)<|aq aj 1 ?_;obtain ⟨d,hd⟩:=ax ht j I;obtain ⟨da,T⟩:=ax A.2 j I;have AA:(zipWith ao.cells ht A.2)[j]? =some (ao.cells d da):=cD hd T;refine rS (IA j U (show ij _ (jc A.1.1 ht A.2).holds from (ct 8 U (bq D C bZ))) rV dc I I)<|rS (pV ((j*7)+4) U (show ij _ (jc A.1.1 ht A.2).holds from (ct 8 U (bq D C bZ))) (e6 I dc) eB U)<|rS (pV (((j*7)+4)+2) U (show ij _ (jc A.1.1 ht A.2).holds from (ct 8 U (bq D C bZ))) (e6 I dc) eB U)<|rS (gG j 6 (vS da.1 d.bp.ab.length da.2) U bP (show ij _ (jc A.1.1 ht A.2).holds from (ct 8 U (bq D C bZ))) AA U dc U) ?_;have g:=V d (aF hd);refine aq aj 4 ?_;refine bE U (aG fun J=>?_) (aH fun J=>?_)
 ·refine aq aW 8 ?_;have M:(vI (((j+1):Nat):Int))=(vI ((j:Int)+1)):=by exact cI I
  refine aL (L ⟨(j+1),⟨I,EN G hd J⟩⟩ _ _ _ U os (cS.cons U<|cS.cons U<|aQ U M<|cS.nil _) (aB [0,1,2,3,4,5,6,7,8]))
 exact cr aW 6 hQ U U<|cB (cT (GR D hd J)).symm
end
section
open Go.RowKit
theorem jO (n lo hi:Int):
 de Tryz.prog 54 [(vI n),(vI lo),(vI hi)] [] (vB (decide (lo≤n∧n≤hi))):=by
 refine bg kr Tryz.func54 U U fun B Q hQ hN=>?_
 try dsimp only
 refine aq bS 11 ?_;refine bJ (t:=10) U (aH fun A=>?_) (aG fun A=>?_)
 ·exact cr aj 8 hQ U U<|cB (iw.2 I)
 exact cr aj 8 hQ U U<|cB (bj I).symm
theorem Jz (o fx:Bool) (tm:aa) (rv:dx):
 de Tryz.prog 55 [(vA (aO.cells (aO.mk o fx tm rv)))] [] (vB (decide (o=false∧fx=false))):=by
 refine bg kr Tryz.func55 U U fun C Q hQ hN=>?_
 try dsimp only
 refine aS bS 2 U<|dV U fun B=>cm aj 9 [] (mc 0 U mn) ?_;refine cz (t:=6) U (fun A=>?_) (fun A=>?_)
 ·rw [m5] at A;refine cr aj 8 hQ U U ?_;clear hQ hN;refine cB ?_
  (simp_all;done)
 rw [e0] at A;refine yY aj 8 hQ [] (mc 0 U mn) U U ?_;clear hQ hN;refine cB ?_
 (simp_all;done)
theorem OO (j:dy) (kA:OA) (kC:Nat) (az:List RA) (cA:OA) (cC:Nat) (bA:OA) (bC:Nat) (slA:OA) (slC:Nat) (drA:OA) (drC:Nat) (ha:List cq) (heA:OA) (heC:Nat) (faA:OA) (faC:Nat) (prA:OA) (prC:Nat) (hraw:xg j az ha):
 de Tryz.prog 5 [(vA (kp.cells (rL j kA kC cA cC bA bC slA slC drA drC heA heC faA faC prA prC)))] (BT j kA az cA bA slA drA ha heA faA prA) (vB (decide (tq j))):=by
 have C:=hraw.race;have D:=hraw.nf;have E:=hraw.np;refine bg kr Tryz.func5 U U fun G Q hQ hN=>?_
 try dsimp only
 refine aS bS 2 U<|dV U fun F=>aS aj 6 U<|rS (LP (cf.cells (pP j.Race kA kC cA cC bA bC slA slC drA drC heA heC)) 0 U bP U U U)<|rS (CL (Ew j.Race kA kC az cA cC bA bC slA slC drA drC ha heA heC asm) (aP [1,2,3,4,5,6,7,8]) U)<|aq aj 1 ?_;refine bJ (t:=6) U (aH fun B=>?_) (aG fun B=>?_)
 ·refine cr aj 15 hQ U U ?_
  (exact cB (cT (show tq j from .inl (.inl B))).symm)
 refine cm aj 6 [] (mc 0 U mn) ?_;refine bJ (t:=12) U (aH fun A=>?_) (aG fun A=>?_)
 ·refine cr aj 9 hQ U U ?_
  (exact cB (cT (show tq j from .inl (.inr A))).symm)
 refine yY aj 9 hQ [] (mc 0 U mn) U U ?_
 (exact cB (iw.2 (show _↔tq j from ⟨.inr,fun q=>Or.elim q (fun q=>Or.elim q (fun q=>absurd q B) (fun q=>absurd q A)) id⟩)))
end
section
open Go.RowKit
variable (l:a_) (kA:OA) (kC:Nat) (az:List RA) (cA:OA) (cC:Nat) (bA:OA) (bC:Nat) (d:ao) (sgA:OA) (sgC:Nat)
theorem GZ (hin:dW l az) (hle:dU l=0) (hsl:d.bp.ab.length≤1000000) (hk:d.Out=true):
 de Tryz.prog 154 [(vA (bU.cells (kN l kA kC cA cC bA bC))),(vA (aO.cells (aO.mk d.Out d.cV d.Time (jR d.bp sgA sgC))))] ((rE l kA az cA bA)++[(gR sgA d.bp.ab)]) (vT [(vA (aa.cells (rm l d))),(vB (decide (jt l d)))]):=by
 have G:=hin.sS;have F:=hin.sT;have D:=hin.mD;have E:=hin.sU;refine bg kr Tryz.func154 U U fun K Q hQ hN=>?_
 try dsimp only
 refine aS bS 2 U<|dV U fun H=>dV U fun AA=>AL U dA fun J=>cm aj 12 [] (mc 1 U mn) ?_;refine bE U (fun C=>?_) (fun C=>?_)
 ·exact absurd ((hk).symm.trans C) dc
 refine aS aW 2 U<|rS (SX (aU (xs:=[]) (cs:=(aa.cells (aa.mk 0 0))) U U (aT gP U)) U U)<|cm aj 4 [] (mc 1 U mn) ?_;refine cz (t:=15) U (fun A=>?_) (fun A=>?_)
 ·rw [m5] at A;refine aS aj 10 U<|eN U cJ U<|aq aj 4 ?_;refine mU hQ [0] (mc 0 U mn) U ?_;clear hQ hN;rw [Dg hk];simp only [s_ hk];refine c7 (fun z=>Value.tuple #[_,vB z]) ?_
  first|rfl|(simp_all [gO];done)
 rw [e0] at A;refine aS aj 1 U<|rS (LP (aa.cells d.Time) 1 U bP U U U)<|rS (SX (aU (xs:=[]) (cs:=(aa.cells (aa.mk 0 0))) U U (aT gP U)) U U)<|rS (BI U (wU _ _ d.Time (aa.mk 0 0)))<|aq aj 2 ?_;refine cz (t:=21) U (aG fun B=>?_) (aH fun B=>?_)
 ·refine aS aj 4 U<|eN U cJ U<|aq aj 4 ?_;refine mU hQ [0] (mc 0 U mn) U ?_;clear hQ hN;rw [Dg hk];simp only [s_ hk];refine c7 (fun z=>Value.tuple #[_,vB z]) ?_
  first|rfl|(simp_all [gO];done)
 refine aS aj 1 U<|rS (LP (dx.cells (jR d.bp sgA sgC)) 1 U bP U U U)<|rS (CL (JV d.bp sgA sgC) (aP [7]) U)<|aS aj 1 U<|eN U cJ U<|aq aj 4 ?_;refine mU hQ [0] (mc 0 U mn) U ?_;clear hQ hN;rw [Dg hk];simp only [s_ hk];refine c7 (fun z=>Value.tuple #[_,vB z]) ?_
 first|rfl|(simp_all [gO];done)
theorem Hk (hin:dW l az) (hle:dU l=0) (hsl:d.bp.ab.length≤1000000) (hk:d.Out=false∧d.cV=true):
 de Tryz.prog 154 [(vA (bU.cells (kN l kA kC cA cC bA bC))),(vA (aO.cells (aO.mk d.Out d.cV d.Time (jR d.bp sgA sgC))))] ((rE l kA az cA bA)++[(gR sgA d.bp.ab)]) (vT [(vA (aa.cells (rm l d))),(vB (decide (jt l d)))]):=by
 have AA:=hin.sS;have H:=hin.sT;have F:=hin.mD;have G:=hin.sU;refine bg kr Tryz.func154 U U fun M Q hQ hN=>?_
 try dsimp only
 refine aS bS 2 U<|dV U fun J=>dV U fun K=>AL U dA fun L=>cm aj 12 [] (mc 1 U mn) ?_;refine bY U (fun E=>?_) (fun E=>?_)
 ·exact absurd ((hk.1).symm.trans E) dc
 refine cm aW 7 [] (mc 1 U mn) ?_;refine bE U (fun C=>?_) (fun C=>?_)
 ·exact absurd ((hk.2).symm.trans C) dc
 refine aq aW 1 ?_;refine cP bX [10] [] [] [1,2,3,4,5,6,7] [] U U U U U<|eS U (FA 2 U eB U)<|eS U (LP (aa.cells d.Time) 0 U bP U U U)<|eS U (FA 2 U eB U)<|eS U (LP (aa.cells d.Time) 0 U bP U U U)<|eS U (CL (DB d.Time) (aA) U)<|eS U (MV U)<|ur (t:=34) U (fun A=>?_) (fun A=>?_);rotate_left 1
 ·replace A:=DF A;refine eS U (OX U)<|eS U (OX U)<|eS U (OX U)<|eS U (PK U)<|eS U (AG U)<|dI U<|bQ U fun T10 B=>eN U cJ U<|bG (B _ _ (aB [1,2,3,4,5,6,7]) ?_);refine eJ U<|aq jE 2 ?_;refine mU hQ [0] (mc 0 U mn) U ?_;clear hQ hN B T10;rw [I3 hk];simp only [tU hk];refine c7 (fun z=>Value.tuple #[_,vB z]) ?_
  first|rfl|(simp_all;done)
 replace A:=DT A;refine eS U (FA 4 U eB U)<|eS U (LP (dx.cells (jR d.bp sgA sgC)) 0 U bP U U U)<|eS U (CL (JV d.bp sgA sgC) (aP [6]) U)<|eS U (PK U)<|eS U (AG U)<|dI U<|bQ U fun T9 D=>eN U cJ U<|bG (D _ _ (aB [1,2,3,4,5,6,7]) ?_);refine eJ U<|aq jE 2 ?_;refine mU hQ [0] (mc 0 U mn) U ?_;clear hQ hN D T9;rw [I3 hk];simp only [tU hk];refine c7 (fun z=>Value.tuple #[_,vB z]) ?_
 first|rfl|(simp_all;done)
theorem HW (hin:dW l az) (hle:dU l=0) (hsl:d.bp.ab.length≤1000000) (hk:d.Out=false∧d.cV=false):
 de Tryz.prog 154 [(vA (bU.cells (kN l kA kC cA cC bA bC))),(vA (aO.cells (aO.mk d.Out d.cV d.Time (jR d.bp sgA sgC))))] ((rE l kA az cA bA)++[(gR sgA d.bp.ab)]) (vT [(vA (aa.cells (rm l d))),(vB (decide (jt l d)))]):=by
 have AA:=hin.sS;have H:=hin.sT;have F:=hin.mD;have G:=hin.sU;refine bg kr Tryz.func154 U U fun N Q hQ hN=>?_
 try dsimp only
 refine aS bS 2 U<|dV U fun J=>dV U fun K=>AL U dA fun L=>cm aj 12 [] (mc 1 U mn) ?_;refine bY U (fun E=>?_) (fun E=>?_)
 ·exact absurd ((hk.1).symm.trans E) dc
 refine cm aW 7 [] (mc 1 U mn) ?_;refine bY U (fun D=>?_) (fun D=>?_)
 ·exact absurd ((hk.2).symm.trans D) dc
 refine dD aW 7 [] (mc 2 U mn) U<|rS (LP (dx.cells (jR d.bp sgA sgC)) 1 U bP U U U)<|rS (CL (Ww l kA kC az cA cC bA bC d.bp sgA sgC hin hsl) (aP [3,4,5,6,7]) U)<|aS aj 3 U<|AL U dA fun M=>eN U cJ U<|aq aj 4 ?_;refine cP bX [9] [] [] [0,2,3,4,5,6,7,8] [] U U U U U<|eS U (LW 0 U bP U U)<|eS U (MV U)<|eS U (BI U nt)<|eS U (MV U)<|ur (t:=49) U (fun A=>?_) (fun A=>?_);rotate_left 1
 ·replace A:=DF A;refine eS U (OX U)<|eS U (OX U)<|eS U (OX U)<|eS U (OX U)<|eS U (PK U)<|eS U (AG U)<|dI U<|bQ U fun T12 C=>o8 U cJ U<|bG (C _ _ (aB [0,2,3,4,5,6,7,8]) ?_);refine eJ U<|aq jE 2 ?_;refine mU hQ [0] (mc 1 U mn) U ?_;clear hQ hN C T12;rw [IG hk];simp only [Ac hk];refine c7 (fun z=>Value.tuple #[_,vB z]) ?_
  first|rfl|(simp_all [gO];done)
 replace A:=DT A;refine eS U (FA 2 U eB U)<|eS U (LP (aa.cells d.Time) 1 U bP U U U)<|eS U (SX (aU (xs:=[]) (cs:=(aa.cells (aa.mk 0 0))) U U (aT gP U)) U U)<|eS U (BI U (wU _ _ d.Time (aa.mk 0 0)))<|eS U (PK U)<|eS U (AG U)<|dI U<|bQ U fun T11 B=>o8 U cJ U<|bG (B _ _ (aB [0,2,3,4,5,6,7,8]) ?_);refine eJ U<|aq jE 2 ?_;refine mU hQ [0] (mc 1 U mn) U ?_;clear hQ hN B T11;rw [IG hk];simp only [Ac hk];refine c7 (fun z=>Value.tuple #[_,vB z]) ?_
 first|rfl|(simp_all [gO];done)
theorem LZ (hin:dW l az) (hle:dU l=0) (hsl:d.bp.ab.length≤1000000):
 de Tryz.prog 154 [(vA (bU.cells (kN l kA kC cA cC bA bC))),(vA (aO.cells (aO.mk d.Out d.cV d.Time (jR d.bp sgA sgC))))] ((rE l kA az cA bA)++[(gR sgA d.bp.ab)]) (vT [(vA (aa.cells (rm l d))),(vB (decide (jt l d)))]):=by
 by_cases ho:d.Out=true
 ·exact GZ l kA kC az cA cC bA bC d sgA sgC hin hle hsl ho
 by_cases hf:d.cV=true
 ·exact Hk l kA kC az cA cC bA bC d sgA sgC hin hle hsl ⟨by simpa using ho,hf⟩
 ·exact HW l kA kC az cA cC bA bC d sgA sgC hin hle hsl ⟨by simpa using ho,by simpa using hf⟩
end
section
open Go.RowKit
theorem H8 (r:cN) (kA:OA) (kC:Nat) (az:List RA) (cA:OA) (cC:Nat) (bA:OA) (bC:Nat) (slA:OA) (slC:Nat) (drA:OA) (drC:Nat) (ha:List cq) (heA:OA) (heC:Nat) (hin:gI r az ha) (hle:dU r.av=0):
 lf Tryz.prog 102 [(vA (cf.cells (pP r kA kC cA cC bA bC slA slC drA drC heA heC)))] (Dp r kA az cA bA slA drA ha heA) (fun (x:Bool×Int×(OA)×Nat×(List RA))=>bif x.1 then (vT [(vS x.2.2.1 ((dL r).length) x.2.2.2.1),(vB true)]) else (vT [(vS none 0 0),(vB false)])) (fun (x:Bool×Int×(OA)×Nat×(List RA))=>(x.1=true→(fr r∧x.2.2.2.2.length=r.ay.length))∧(x.1=false→(x.2.1=0∧ ¬ fr r))) (fun (x:Bool×Int×(OA)×Nat×(List RA))=>bif x.1 then [(Jp x.2.2.1 x.2.2.2.1 (dL r) x.2.2.2.2),(bD (bx HT (dL r) x.2.2.2.2))] else []):=by
 have Cx:=hin.line;have EQ:=hin.hE;have EY:=hin.has;have DA:=hin.hO;have C2:=hin.draw;have DC:=fJ (r:=r);refine cR kr Tryz.func102 U U fun w0 Q hQ hN=>?_
 try dsimp only
 refine aS bS 2 U<|dV U fun b2=>dD aj 16 [] (mc 0 U mn) U<|rS (CL (qU (r.bf.length:Int) 1 5) (aA) U)<|aq aj 2 ?_;refine bJ (t:=19) U (aJ fun A7=>?_) (aK fun A7=>?_)
 ·refine aq aj 29 ?_;refine LX hQ (false,0,none,0,[]) [] [] mn U (by rfl) U U ?_
  (exact ⟨D5,fun _=>⟨rfl,fun q=>by have P:=q.num;have q2:=q.Bx;have q3:=q.nh;have q4:=q.DL;omega⟩⟩)
 refine cm aj 7 [] (mc 0 U mn) ?_;refine bJ (t:=26) U (aJ fun T=>?_) (aK fun T=>?_)
 ·refine aq aj 22 ?_;refine LX hQ (false,0,none,0,[]) [] [] mn U (by rfl) U U ?_
  (exact ⟨D5,fun _=>⟨rfl,fun q=>by have P:=q.num;have q2:=q.Bx;have q3:=q.nh;have q4:=q.DL;omega⟩⟩)
 refine dD aj 2 [] (mc 0 U mn) U<|rS (CL (qU r.jB 0 5) (aA) U)<|aq aj 3 ?_;refine bJ (t:=32) U (aJ fun A8=>?_) (aK fun A8=>?_)
 ·refine aq aj 16 ?_;refine LX hQ (false,0,none,0,[]) [] [] mn U (by rfl) U U ?_
  (exact ⟨D5,fun _=>⟨rfl,fun q=>by have P:=q.num;have q2:=q.Bx;have q3:=q.nh;have q4:=q.DL;omega⟩⟩)
 refine dD aj 3 [] (mc 0 U mn) U<|rS (CL (qU (r.ay.length:Int) 1 3) (aA) U)<|aq aj 4 ?_;refine bY U (aJ fun By=>?_) (aK fun By=>?_)
 ·refine aq aW 7 ?_;refine LX hQ (false,0,none,0,[]) [] [] mn U (by rfl) U U ?_
  (exact ⟨D5,fun _=>⟨rfl,fun q=>by have P:=q.num;have q2:=q.Bx;have q3:=q.nh;have q4:=q.DL;omega⟩⟩)
 refine aq aW 9 ?_;have A:(0≤r.bf.length)∧(zI r 0):=by exact ⟨c4 _,NF⟩
 refine bu (ι:={z:Nat // (z≤r.bf.length)∧(zI r z)}) [1,4] [0,1,2,3,4,5,6,7,8] U U (fun z=>[(5,(vI (z.1:Int)))]) (fun z=>[]) (fun _=>rfl) (fun _=>rfl) (fun z=>r.bf.length-z.1) ⟨0,A⟩ (aN U) (aB [0,1,2,3,4,5,6,7,8]) ?_;clear A;rintro ⟨i,⟨Ct,AB⟩⟩ J12 R
 try dsimp only
 refine aq bS 8 ?_;refine bE U (aG fun A6=>?_) (aH fun A6=>?_)
 ·refine aS aW 1 U<|aq fD 14 ?_;refine eC 102 1<|mj ?_;have A:(0≤r.ay.length)∧(([]:List RA).length=0)∧(lM r 0):=by exact ⟨c4 _,rfl,AU⟩
  refine bu (ι:={z:Nat×(List RA)×(OA)×Nat // (z.1≤r.ay.length)∧(z.2.1.length=z.1)∧(lM r z.1)}) [1,4] [2,3,4,5,6,7,8,9,10] U U (fun z=>[(7,(vS z.1.2.2.1 ((zipWith FE (ik r z.1.1) z.1.2.1).length) z.1.2.2.2)),(8,(vI (z.1.1:Int)))]) (fun z=>[(bD (bx HT (ik r z.1.1) z.1.2.1)),(UT z.1.2.2.1 z.1.2.2.2 (zipWith FE (ik r z.1.1) z.1.2.1))]) (fun _=>rfl) (fun _=>rfl) (fun z=>r.ay.length-z.1.1) ⟨(0,([]:List RA),none,0),A⟩ (aN U) (aB [2,3,4,5,6,7,8,9,10,0,1]) ?_;clear A;rintro ⟨⟨h,tz,a,c⟩,⟨N,C,F⟩⟩ J46 Z
  try dsimp only at N C F
  try dsimp only
  refine cm bS 10 [] (mc 0 U mn) ?_;refine bE U (aG fun B3=>?_) (aH fun B3=>?_)
  ·refine aS aW 1 U<|aq fD 3 ?_;have Cp:ik r h=dL r:=by unfold dL;rw [show h=r.ay.length by omega]
   have C0:tz.length=r.ay.length:=by omega
   rw [Cp,Cs,show (zipWith FE (dL r) tz).length=(dL r).length from by rw [m4];omega];have AO:fr r:=K6 (n:=i) I I I I I AB F I;refine aq aW 7 ?_;refine LX hQ (true,0,a,c,tz) [10,9] [] mn U (by (show all _ _=true;simp only [AAS,eX,om,Dh,n4];rfl)) U U ?_;exact ⟨fun _=>⟨AO,C0⟩,Q7⟩
  refine cm aW 10 [] (mc 0 U mn) ?_;obtain ⟨ht,D⟩:=ax r.ay h I;obtain ⟨E,H⟩:=ax ha h I;have S:(zipWith dQ r.ay ha)[h]? =some (dQ ht E):=cD D H;refine rS (IA h U (au 7 U) mz dc I I) ?_;have AC:=hin.fG _ _ _ D H;have C3:=AC.mD;refine rS (gG h 0 (vS E.1.1 ht.length E.1.2) U bP (au 7 U) S U dc U)<|aq aj 5 ?_;refine bY U (aJ fun W=>?_) (aK fun W=>?_)
  ·refine aq aW 7 ?_;refine LX hQ (false,0,none,0,[]) [] [] mn U (by rfl) U U ?_
   (exact ⟨D5,fun _=>⟨rfl,fun q=>by have P:=(q.fG ht (aF D)).1;omega⟩⟩)
  refine aq aW 14 ?_;refine eC 38 2 ?_;have A:(0≤ht.length)∧(qi r.av ht 0):=by exact ⟨c4 _,yK⟩
  refine bu (ι:={z:Nat×(OA)×Nat // (z.1≤ht.length)∧(qi r.av ht z.1)}) [1,4,7,8] [1,2,3,4,5,6,7,8,9,10,11] U U (fun z=>[(9,(vS z.1.2.1 (((ht.take z.1.1).map (fZ r.av)).length) z.1.2.2)),(10,(vI (z.1.1:Int)))]) (fun z=>[(wh z.1.2.1 z.1.2.2 ((ht.take z.1.1).map (fZ r.av)))]) (fun _=>rfl) (fun _=>rfl) (fun z=>ht.length-z.1.1) ⟨(0,none,0),A⟩ (aN U) (aB [1,2,3,4,5,6,7,8,9,10,11,0]) ?_;clear A;rintro ⟨⟨j,la,lc⟩,⟨O,G⟩⟩ J57 e
  try dsimp only at O G
  try dsimp only
  refine aq bS 8 ?_;refine bE U (aG fun CI=>?_) (aH fun CI=>?_)
  ·refine aS aW 1 U<|aq fD 3 ?_;rw [show ((ht.take j).map (fZ r.av))=ht.map (fZ r.av) from by rw [c5 I]];refine aq aj 2 ?_;refine dC (xs:=[.tmp 137]) (cs:=[(vS la ((ht.map (fZ r.av)).length) lc)]) U VC JW U U U U (by simp [Value.cells]) U U fun Dw=>?_;refine cZ (es2:=(map sC (zipWith FE (ik r (h+1)) (tz++[(la,lc)])))) (m':=(zipWith FE (ik r (h+1)) (tz++[(la,lc)])).length) 11 U U U XN U U sm (aM (es:=map sC [(aV.mk la ((ht.map (fZ r.av)).length) lc)]) 0 U U (by simp [CO]) U) (O8 _) (by rw [m4,mw I];omega) (by rw [m4,mw I];simp only [maxLen];omega) (by rw [xj D C,AAF];rfl) (by rw [xj D C];simp) U fun A3 A5=>?_
   try dsimp only
   refine aq aj 9 ?_;refine Cd (X':=bx HT (ik r (h+1)) (tz++[(la,lc)])) 10 12 U U (E6 (a:=(la,lc)) D C) ?_;have v:(vI (((h+1):Nat):Int))=(vI ((h:Int)+1)):=by exact cI I
   refine aL (Z ⟨((h+1),(tz++[(la,lc)]),A3,A5),⟨I,by simp;omega,Ap F D (I8 I G I)⟩⟩ _ _ _ U os (cx 3<|aQ U v<|cS.nil _) (aB [2,3,4,5,6,7,8,9,10,0,11]))
  refine aq aW 5 ?_;refine cP bX [14,15] [] [] [0,1,2,3,4,5,6,7,8,9,10,11] [] U U U U U<|eS U (FA 0 U eB U)<|eS U (LP (bU.cells (kN r.av kA kC cA cC bA bC)) 0 U bP U U U)<|eS U (FA 10 U eB U)<|eS U (L1 (vS heA r.ay.length heC) 0 U bP U U)<|eS U (MV U)<|eS U (IA h U (au 7 U) mz dc I I)<|eS U (gG h 0 (vS E.1.1 ht.length E.1.2) U bP (au 7 U) S U dc U)<|eS U (MV U) ?_;obtain ⟨d,hd⟩:=ax ht j I;obtain ⟨da,w⟩:=ax E.2 j I;have Ck:(zipWith ao.cells ht E.2)[j]? =some (ao.cells d da):=cD hd w;refine eS U (IA j U (show ij _ (jc E.1.1 ht E.2).holds from (ct 8 U (bq D H bZ))) rV dc I I)<|eS U (ld j 0 (aO.cells (aO.mk d.Out d.cV d.Time (dx.mk d.bp.Start d.bp.hU (aV.mk da.1 d.bp.ab.length da.2)))) U bP (show ij _ (jc E.1.1 ht E.2).holds from (ct 8 U (bq D H bZ))) Ck U dc U U) ?_;have Eq:=AC.sig d (aF hd);refine eS U (CL (LZ r.av kA kC az cA cC bA bC d da.1 da.2 asm hle asm) (lV [1,2,3,4]<|aw (show ij _ (gR da.1 d.bp.ab).holds from (ct 8 U (bq D H (dg _ (bq hd w (by simp [ao.lG]))))))<|aA) U)<|eS U (MV U)<|eS U (EX U)<|eS U (EX U)<|eS U (AG U)<|dI U<|bQ U fun T63 f=>AL U dA fun Di=>bG (f _ _ (aB [1,2,3,4,5,6,7,8,9,10,11,12]) ?_);refine bQ U fun T65 g=>eN U cJ U<|bG (g _ _ (aB [1,2,3,4,5,6,7,8,9,10,11,12]) ?_);refine eJ U<|aq jE 8 ?_;refine bY U (aJ fun J=>?_) (aK fun J=>?_)
  ·refine aq aW 7 ?_;refine LX hQ (false,0,none,0,[]) [] [] mn U (by rfl) U U ?_
   (exact ⟨D5,fun _=>⟨rfl,fun q=>by exact J ((q.fG ht (aF D)).2 d (aF hd))⟩⟩)
  refine cm aW 5 [] (mc 0 U mn) ?_;refine dC (xs:=[.tmp 133]) (cs:=(aa.cells (rm r.av d))) U iA dA U U U U (by simp [Value.cells,aa.aC]) U U fun Do=>?_;refine cZ (es2:=(map aa.cells ((ht.take (j+1)).map (fZ r.av)))) (m':=((ht.take (j+1)).map (fZ r.av)).length) 13 U U U Cr U U sm (aM (es:=map aa.cells [(rm r.av d)]) 0 U U (by simp [aa.aC]) U) (jF _) (by simp only [c3,k5];omega) (by simp only [maxLen,c3,k5];omega) (by rw [l1,hd];simp [OQ J]) sq U fun A2 A4=>?_
  try dsimp only
  refine aq aj 9 ?_;have s:(vI (((j+1):Nat):Int))=(vI ((j:Int)+1)):=by exact cI I
  refine aL (e ⟨((j+1),A2,A4),⟨I,yT G hd J⟩⟩ _ _ _ U os (cx 5<|aQ U s<|cS.nil _) (aB [2,3,4,5,6,7,8,9,10,11,12,13]))
 refine aS aW 6 U<|cK bX 36 kr<|dP 3 [] (mc 0 U mn) ?_;obtain ⟨y,hy⟩:=ax r.bf i I;have AP:=bw iC hy;refine dS (IA i U (au 5 U) cM dc I I)<|dS (gG i 0 (vI y) U bP (au 5 U) AP U dc U)<|dS (CL (qU y 0 9999) (aA) U)<|dP 2 [] mn ?_;refine iJ (t:=51) U (aJ fun B7=>?_) (aK fun B7=>?_)
 ·refine iR 28 U<|cy<|aq aj 10 ?_;refine LX hQ (false,0,none,0,[]) [] [] mn U (by rfl) U U ?_
  (exact ⟨D5,fun _=>⟨rfl,fun q=>by have P:=(q.ids i y hy).1;omega⟩⟩)
 refine dP 3 [] mn ?_;refine iQ (t:=54) U (aG fun B9=>?_) (aH fun B9=>?_)
 ·refine dP 18 [] (mc 0 U mn) ?_;obtain ⟨x,hx⟩:=ax r.dp i I;have L:=bw iC hx;refine dS (IA i U (au 6 U) cM dc I I)<|dS (gG i 0 (vI x) U bP (au 6 U) L U dc U)<|iR 2 U<|dS (CL (qU x 0 ((r.bf.length:Int)-1)) (aA) U)<|iR 2 U<|cy<|aq aj 2 ?_;refine bY U (aJ fun AA=>?_) (aK fun AA=>?_)
  ·refine aq aW 7 ?_;refine LX hQ (false,0,none,0,[]) [] [] mn U (by rfl) U U ?_
   (exact ⟨D5,fun _=>⟨rfl,fun q=>by have P:=q.PR hx;omega⟩⟩)
  refine aq aW 8 ?_;have A:(0≤i)∧(∀ (q:Nat) y,q<0→r.dp[q]? =some y→y≠x):=by exact ⟨c4 _,fun q y hq=>absurd hq (s4 _)⟩
  refine bu (ι:={z:Nat // (z≤i)∧(∀ (q:Nat) y,q<z→r.dp[q]? =some y→y≠x)}) [1,4,5] [0,1,2,3,4,5,6,7,8] U U (fun z=>[(6,(vI (z.1:Int)))]) (fun z=>[]) (fun _=>rfl) (fun _=>rfl) (fun z=>i-z.1) ⟨0,A⟩ (aN U) (aB [0,1,2,3,4,5,6,7,8]) ?_;clear A;rintro ⟨k,⟨M,B⟩⟩ J34 Y
  try dsimp only
  refine aq bS 8 ?_;refine bE U (aG fun A9=>?_) (aH fun A9=>?_)
  ·refine aS aW 1 U<|aq fD 8 ?_;have p:(vI (((i+1):Nat):Int))=(vI ((i:Int)+1)):=by exact cI I
   refine aL (R ⟨(i+1),⟨I,FH AB (fun a ha=>by rw [hy] at ha;cases ha;exact ⟨I,fun b hb hc=>by omega⟩) (fun a ha=>by rw [hx] at ha;cases ha;exact ⟨I,fun k b hk hb=>B k b I hb⟩)⟩⟩ _ _ _ rfl os (cS.cons rfl<|cS.cons rfl<|aQ rfl p<|cS.nil _) (aB [0,1,2,3,4,5,6,7,8]))
  refine aS aW 5 U<|cK bX 11 kr<|dP 3 [] (mc 0 U mn) ?_;obtain ⟨u,hu⟩:=ax r.dp k I;have V:=bw iC hu;refine dS (IA k U (au 6 U) cM dc I I)<|dS (gG k 0 (vI u) U bP (au 6 U) V U dc U)<|jZ 3 [] (mc 0 U mn) U<|dS (IA i U (au 6 U) cM dc I I)<|dS (gG i 0 (vI x) U bP (au 6 U) L U dc U)<|iR 1 U<|cy<|aq aj 2 ?_;refine bE U (aG fun K=>?_) (aH fun K=>?_)
  ·refine aq aW 8 ?_;have o:(vI (((k+1):Nat):Int))=(vI ((k:Int)+1)):=by exact cI I
   refine aL (Y ⟨(k+1),⟨I,zy B hu K⟩⟩ _ _ _ U os (cx 3<|aQ U o<|cS.nil _) (aB [0,1,2,3,4,5,6,7,8]))
  refine aq aW 7 ?_;refine LX hQ (false,0,none,0,[]) [] [] mn U (by rfl) U U ?_
  (exact ⟨D5,fun _=>⟨rfl,fun q=>by have P:=q.num;have q2:=q.Bx;have q3:=q.nh;have q4:=q.DL;omega⟩⟩)
 refine jZ 3 [] (mc 0 U mn) U<|dS (IA i U (au 5 U) cM dc I I)<|dS (gG i 0 (vI y) U bP (au 5 U) AP U dc U)<|dP 4 [] (mc 0 U mn) ?_;obtain ⟨z,hz⟩:=ax r.bf (i-1) I;have C1:=bw iC hz;refine dS (IA (i-1) U (au 5 U) cM dc I I)<|dS (gG (i-1) 0 (vI z) U bP (au 5 U) C1 U dc U)<|dP 4 [] mn ?_;refine iJ (t:=69) U (aH fun Ci=>?_) (aG fun Ci=>?_)
 ·refine iR 10 U<|cy<|aq aj 10 ?_;refine LX hQ (false,0,none,0,[]) [] [] mn U (by rfl) U U ?_
  (exact ⟨D5,fun _=>⟨rfl,fun q=>by have P:=(q.ids i y hy).2 z I hz;omega⟩⟩)
 refine dP 3 [] (mc 0 U mn) ?_;obtain ⟨x,hx⟩:=ax r.dp i I;have L:=bw iC hx;refine dS (IA i U (au 6 U) cM dc I I)<|dS (gG i 0 (vI x) U bP (au 6 U) L U dc U)<|iR 2 U<|dS (CL (qU x 0 ((r.bf.length:Int)-1)) (aA) U)<|iR 2 U<|cy<|aq aj 2 ?_;refine bY U (aJ fun AA=>?_) (aK fun AA=>?_)
 ·refine aq aW 7 ?_;refine LX hQ (false,0,none,0,[]) [] [] mn U (by rfl) U U ?_
  (exact ⟨D5,fun _=>⟨rfl,fun q=>by have P:=q.PR hx;omega⟩⟩)
 refine aq aW 8 ?_;have A:(0≤i)∧(∀ (q:Nat) y,q<0→r.dp[q]? =some y→y≠x):=by exact ⟨c4 _,fun q y hq=>absurd hq (s4 _)⟩
 refine bu (ι:={z:Nat // (z≤i)∧(∀ (q:Nat) y,q<z→r.dp[q]? =some y→y≠x)}) [1,4,5] [0,1,2,3,4,5,6,7,8] U U (fun z=>[(6,(vI (z.1:Int)))]) (fun z=>[]) (fun _=>rfl) (fun _=>rfl) (fun z=>i-z.1) ⟨0,A⟩ (aN U) (aB [0,1,2,3,4,5,6,7,8]) ?_;clear A;rintro ⟨k,⟨M,B⟩⟩ J23 X
 try dsimp only
 refine aq bS 8 ?_;refine bE U (aG fun T=>?_) (aH fun T=>?_)
 ·refine aS aW 1 U<|aq fD 8 ?_;have m:(vI (((i+1):Nat):Int))=(vI ((i:Int)+1)):=by exact cI I
  refine aL (R ⟨(i+1),⟨I,FH AB (fun a ha=>by rw [hy] at ha;cases ha;exact ⟨I,fun b hb hc=>by (rw [hz] at hc;cases hc;omega)⟩) (fun a ha=>by rw [hx] at ha;cases ha;exact ⟨I,fun k b hk hb=>B k b I hb⟩)⟩⟩ _ _ _ rfl os (cS.cons rfl<|cS.cons rfl<|aQ rfl m<|cS.nil _) (aB [0,1,2,3,4,5,6,7,8]))
 refine aS aW 5 U<|cK bX 11 kr<|dP 3 [] (mc 0 U mn) ?_;obtain ⟨u,hu⟩:=ax r.dp k I;have V:=bw iC hu;refine dS (IA k U (au 6 U) cM dc I I)<|dS (gG k 0 (vI u) U bP (au 6 U) V U dc U)<|jZ 3 [] (mc 0 U mn) U<|dS (IA i U (au 6 U) cM dc I I)<|dS (gG i 0 (vI x) U bP (au 6 U) L U dc U)<|iR 1 U<|cy<|aq aj 2 ?_;refine bE U (aG fun K=>?_) (aH fun K=>?_)
 ·refine aq aW 8 ?_;have l:(vI (((k+1):Nat):Int))=(vI ((k:Int)+1)):=by exact cI I
  refine aL (X ⟨(k+1),⟨I,zy B hu K⟩⟩ _ _ _ U os (cx 3<|aQ U l<|cS.nil _) (aB [0,1,2,3,4,5,6,7,8]))
 refine aq aW 7 ?_;refine LX hQ (false,0,none,0,[]) [] [] mn U (by rfl) U U ?_
 (exact ⟨D5,fun _=>⟨rfl,fun q=>by exact q.VV I hu hx K⟩⟩)
end
section
open Go.RowKit
theorem Lt (r:cN) (kA:OA) (kC:Nat) (az:List RA) (cA:OA) (cC:Nat) (bA:OA) (bC:Nat) (slA:OA) (slC:Nat) (drA:OA) (drC:Nat) (ha:List cq) (heA:OA) (heC:Nat) (hin:gI r az ha):
 lf Tryz.prog 53 [(vA (cf.cells (pP r kA kC cA cC bA bC slA slC drA drC heA heC)))] (Dp r kA az cA bA slA drA ha heA) (fun (x:Bool×Int×(OA)×Nat×(List RA))=>bif x.1 then (vT [(vS x.2.2.1 ((dL r).length) x.2.2.2.1),(vI 0)]) else (vT [(vS none 0 0),(vI x.2.1)])) (fun (x:Bool×Int×(OA)×Nat×(List RA))=>(x.1=true→(eK r=0∧x.2.2.2.2.length=r.ay.length))∧(x.1=false→(x.2.1=eK r∧ ¬ eK r=0))) (fun (x:Bool×Int×(OA)×Nat×(List RA))=>bif x.1 then [(Jp x.2.2.1 x.2.2.2.1 (dL r) x.2.2.2.2),(bD (bx HT (dL r) x.2.2.2.2))] else []):=by
 have AA:=hin.line;have O:=hin.hE;have P:=hin.has;have M:=hin.hO;have L:=hin.draw;have N:=fJ (r:=r);refine cR kr Tryz.func53 U U fun T Q hQ hN=>?_
 try dsimp only
 refine aS bS 2 U<|dV U fun S=>aS aj 8 U<|rS (LP (bU.cells (kN r.av kA kC cA cC bA bC)) 0 U bP U U U)<|rS (CL (wo r.av kA kC az cA cC bA bC asm) (aP [1,2,3,4]) U)<|aq aj 9 ?_;refine bY U (aJ fun A=>?_) (aK fun A=>?_)
 ·refine aq aW 8 ?_;refine LX hQ (false,(dU r.av),none,0,[]) [] [] mn U (by rfl) U U ?_;exact rq<|O4 (BG A) A
 refine cm aW 5 [] (mc 0 U mn) ?_;refine cX (H8 r kA kC az cA cC bA bC slA slC drA drC ha heA heC hin (by exact A)) (aP [1,2,3,4,5,6,7,8]) U fun R D=>?_;obtain ⟨E,K,F,G,H⟩:=R;cases E;rotate_left 1
 ·obtain ⟨C,J⟩:=D.1 rfl
  try dsimp only [cond_true,cond_false,List.cons_append,List.nil_append]
  refine aq aj 25 ?_;refine LX hQ (true,0,F,G,H) [0,1] [] mn U (by (show all _ _=true;simp only [AAS,eX,om,Dh,n4];rfl)) U U ?_;exact ⟨fun _=>⟨Ar A C,J⟩,Q7⟩
 obtain ⟨B,he⟩:=D.2 rfl
 try dsimp only at B he
 subst B
 try dsimp only [cond_true,cond_false,List.cons_append,List.nil_append]
 refine aq aj 22 ?_;refine LX hQ (false,60,none,0,[]) [] [] mn U (by rfl) U U ?_;exact rq<|pN (l8 A he)
end
section
open Go.RowKit
theorem Lh (r:cN) (kA:OA) (kC:Nat) (az:List RA) (cA:OA) (cC:Nat) (bA:OA) (bC:Nat) (slA:OA) (slC:Nat) (drA:OA) (drC:Nat) (ha:List cq) (heA:OA) (heC:Nat) (hin:gI r az ha):
 de Tryz.prog 23 [(vA (cf.cells (pP r kA kC cA cC bA bC slA slC drA drC heA heC)))] (Dp r kA az cA bA slA drA ha heA) (vI (eK r)):=by
 have D:=hin.line;have AA:=hin.hE;have J:=hin.has;have F:=hin.hO;have E:=hin.draw;have G:=fJ (r:=r);refine bg kr Tryz.func23 U U fun R Q hQ hN=>?_
 try dsimp only
 refine aS bS 2 U<|dV U fun P=>cm aj 6 [] (mc 0 U mn) ?_;refine cX (Lt r kA kC az cA cC bA bC slA slC drA drC ha heA heC hin) (aP [1,2,3,4,5,6,7,8]) U fun O B=>?_;obtain ⟨C,H,L,M,N⟩:=O;cases C;rotate_left 1
 ·obtain ⟨he,K⟩:=B.1 rfl
  try dsimp only [cond_true,cond_false,List.cons_append,List.nil_append]
  refine cr aj 14 hQ U U ?_
  first|rfl|(rw [he])
 obtain ⟨A,he⟩:=B.2 rfl
 try dsimp only at A he
 subst A
 try dsimp only [cond_true,cond_false,List.cons_append,List.nil_append]
 refine cr aj 14 hQ U U ?_
 first|rfl|(rw [he])
end
section
open Go.RowKit
theorem L6 (j:dy) (kA:OA) (kC:Nat) (az:List RA) (cA:OA) (cC:Nat) (bA:OA) (bC:Nat) (slA:OA) (slC:Nat) (drA:OA) (drC:Nat) (ha:List cq) (heA:OA) (heC:Nat) (faA:OA) (faC:Nat) (prA:OA) (prC:Nat) (hin:jA j az ha) (hjr:eK j.Race=0):
 de Tryz.prog 24 [(vA (kp.cells (rL j kA kC cA cC bA bC slA slC drA drC heA heC faA faC prA prC)))] (BT j kA az cA bA slA drA ha heA faA prA) (vB (decide (tp j))):=by
 have Z:=hin.race;have Cx:=hin.race.line;have FS:=hin.race.hE;have Fd:=hin.race.has;have DA:=hin.race.hO;have C2:=hin.nf;have C3:=hin.np;have Fi:=(dF hjr).1;have v:=(dF hjr).2;refine bg kr Tryz.func24 U U fun w0 Q hQ hN=>?_
 try dsimp only
 refine aS bS 2 U<|dV U fun b2=>cm aj 11 [] (mc 0 U mn) ?_;refine bJ (t:=12) U (aH fun h5=>?_) (aG fun h5=>?_)
 ·refine cr aj 26 hQ U U ?_
  first|exact cB (bj (fun q=>by have C:=q.nf;have H:=q.min_;have J:=q.vW;have K:=q.np;omega)).symm|exact cB (bj (fun q=>by have C:=q.fault f (aF hf);unfold fq at C;split at C<;>omega)).symm|exact cB (bj (fun q=>by have A:=q.iN _ p hp;have C:=A.id;have H:=A.kW;have J:=A.fG;have K:=A.fault;simp only [mN] at H;first|omega|(have AA:=A.up T I L;omega))).symm|exact cB (bj (fun q=>by obtain ⟨P,G,AB,S⟩:=(q.iN _ p hp).ng;rw [F] at G;cases G;first|exact E AB|exact h148 AB|omega)).symm|exact cB (cT ⟨I,ei D I,I,I,I,fun i p hi=>B i p (by have:=(aR.1 hi).1;omega) hi⟩).symm
 refine dD aj 2 [] (mc 0 U mn) U<|rS (CL (jO j.jx 0 60) (aA) U)<|aq aj 3 ?_;refine bJ (t:=18) U (aJ fun h7=>?_) (aK fun h7=>?_)
 ·refine cr aj 20 hQ U U ?_
  first|exact cB (bj (fun q=>by have C:=q.nf;have H:=q.min_;have J:=q.vW;have K:=q.np;omega)).symm|exact cB (bj (fun q=>by have C:=q.fault f (aF hf);unfold fq at C;split at C<;>omega)).symm|exact cB (bj (fun q=>by have A:=q.iN _ p hp;have C:=A.id;have H:=A.kW;have J:=A.fG;have K:=A.fault;simp only [mN] at H;first|omega|(have AA:=A.up T I L;omega))).symm|exact cB (bj (fun q=>by obtain ⟨P,G,AB,S⟩:=(q.iN _ p hp).ng;rw [F] at G;cases G;first|exact E AB|exact h148 AB|omega)).symm|exact cB (cT ⟨I,ei D I,I,I,I,fun i p hi=>B i p (by have:=(aR.1 hi).1;omega) hi⟩).symm
 refine dD aj 2 [] (mc 0 U mn) U<|rS (CL (jO j.Ke 0 100000) (aA) U)<|aq aj 3 ?_;refine bJ (t:=24) U (aJ fun h9=>?_) (aK fun h9=>?_)
 ·refine cr aj 14 hQ U U ?_
  first|exact cB (bj (fun q=>by have C:=q.nf;have H:=q.min_;have J:=q.vW;have K:=q.np;omega)).symm|exact cB (bj (fun q=>by have C:=q.fault f (aF hf);unfold fq at C;split at C<;>omega)).symm|exact cB (bj (fun q=>by have A:=q.iN _ p hp;have C:=A.id;have H:=A.kW;have J:=A.fG;have K:=A.fault;simp only [mN] at H;first|omega|(have AA:=A.up T I L;omega))).symm|exact cB (bj (fun q=>by obtain ⟨P,G,AB,S⟩:=(q.iN _ p hp).ng;rw [F] at G;cases G;first|exact E AB|exact h148 AB|omega)).symm|exact cB (cT ⟨I,ei D I,I,I,I,fun i p hi=>B i p (by have:=(aR.1 hi).1;omega) hi⟩).symm
 refine cm aj 7 [] (mc 0 U mn) ?_;refine bY U (aH fun x=>?_) (aG fun x=>?_)
 ·refine cr aW 6 hQ U U ?_
  first|exact cB (bj (fun q=>by have C:=q.nf;have H:=q.min_;have J:=q.vW;have K:=q.np;omega)).symm|exact cB (bj (fun q=>by have C:=q.fault f (aF hf);unfold fq at C;split at C<;>omega)).symm|exact cB (bj (fun q=>by have A:=q.iN _ p hp;have C:=A.id;have H:=A.kW;have J:=A.fG;have K:=A.fault;simp only [mN] at H;first|omega|(have AA:=A.up T I L;omega))).symm|exact cB (bj (fun q=>by obtain ⟨P,G,AB,S⟩:=(q.iN _ p hp).ng;rw [F] at G;cases G;first|exact E AB|exact h148 AB|omega)).symm|exact cB (cT ⟨I,ei D I,I,I,I,fun i p hi=>B i p (by have:=(aR.1 hi).1;omega) hi⟩).symm
 refine aq aW 9 ?_;have R:(0≤j.bB.length)∧(qR j 0):=by exact ⟨c4 _,EE⟩
 refine bu (ι:={z:Nat // (z≤j.bB.length)∧(qR j z)}) [1] [0,1,2,3,4,5,6,7,8,9,10] U U (fun z=>[(3,(vI (z.1:Int)))]) (fun z=>[]) (fun _=>rfl) (fun _=>rfl) (fun z=>j.bB.length-z.1) ⟨0,R⟩ (aN U) (aB [0,1,2,3,4,5,6,7,8,9,10]) ?_;clear R;rintro ⟨i,⟨Ct,D⟩⟩ J15 V
 try dsimp only
 refine cm bS 10 [] (mc 0 U mn) ?_;refine bY U (aH fun y=>?_) (aG fun y=>?_)
 ·refine cm aW 9 [] (mc 0 U mn) ?_;obtain ⟨f,hf⟩:=ax j.bB i I;have Cp:=bw bO.cells hf;refine rS (IA i U (au 9 U) KL dc I I)<|rS (ld i 0 (bO.cells f) U bP (au 9 U) Cp U dc U U)<|AL U Uc fun DC=>eN U UO U<|dD aj 9 [] (mc 0 U mn) U<|rS (CL (jO f.og 0 f.To) (aA) U)<|aq aj 2 ?_;refine bJ (t:=48) U (aJ fun AO=>?_) (aK fun AO=>?_)
  ·refine cr aj 13 hQ U U ?_
   first|exact cB (bj (fun q=>by have C:=q.nf;have H:=q.min_;have J:=q.vW;have K:=q.np;omega)).symm|exact cB (bj (fun q=>by have C:=q.fault f (aF hf);unfold fq at C;split at C<;>omega)).symm|exact cB (bj (fun q=>by have A:=q.iN _ p hp;have C:=A.id;have H:=A.kW;have J:=A.fG;have K:=A.fault;simp only [mN] at H;first|omega|(have AA:=A.up T I L;omega))).symm|exact cB (bj (fun q=>by obtain ⟨P,G,AB,S⟩:=(q.iN _ p hp).ng;rw [F] at G;cases G;first|exact E AB|exact h148 AB|omega)).symm|exact cB (cT ⟨I,ei D I,I,I,I,fun i p hi=>B i p (by have:=(aR.1 hi).1;omega) hi⟩).symm
  refine cm aj 6 [] (mc 0 U mn) ?_;refine bY U (aH fun AP=>?_) (aG fun AP=>?_)
  ·refine cr aW 6 hQ U U ?_
   first|exact cB (bj (fun q=>by have C:=q.nf;have H:=q.min_;have J:=q.vW;have K:=q.np;omega)).symm|exact cB (bj (fun q=>by have C:=q.fault f (aF hf);unfold fq at C;split at C<;>omega)).symm|exact cB (bj (fun q=>by have A:=q.iN _ p hp;have C:=A.id;have H:=A.kW;have J:=A.fG;have K:=A.fault;simp only [mN] at H;first|omega|(have AA:=A.up T I L;omega))).symm|exact cB (bj (fun q=>by obtain ⟨P,G,AB,S⟩:=(q.iN _ p hp).ng;rw [F] at G;cases G;first|exact E AB|exact h148 AB|omega)).symm|exact cB (cT ⟨I,ei D I,I,I,I,fun i p hi=>B i p (by have:=(aR.1 hi).1;omega) hi⟩).symm
  refine dD aW 11 [] (mc 0 U mn) U<|rS (BI U nt)<|aq aj 3 ?_;refine bY U (aH fun An=>?_) (aG fun An=>?_)
  ·refine cm aW 7 [] (mc 0 U mn) ?_;refine bE U (aK fun A0=>?_) (aJ fun A0=>?_)
   ·refine aq aW 9 ?_;have l:(vI (((i+1):Nat):Int))=(vI ((i:Int)+1)):=by exact cI I
    refine aL (V ⟨(i+1),⟨I,ti D hf (by refine ⟨I,I,I,?_⟩;split<;>omega)⟩⟩ _ _ _ U os (cS.cons U<|aQ U l<|cS.nil _) (aB [1,2,3,4,5,6,7,8,9,10,11]))
   refine cr aW 6 hQ U U ?_
   first|exact cB (bj (fun q=>by have C:=q.nf;have H:=q.min_;have J:=q.vW;have K:=q.np;omega)).symm|exact cB (bj (fun q=>by have C:=q.fault f (aF hf);unfold fq at C;split at C<;>omega)).symm|exact cB (bj (fun q=>by have A:=q.iN _ p hp;have C:=A.id;have H:=A.kW;have J:=A.fG;have K:=A.fault;simp only [mN] at H;first|omega|(have AA:=A.up T I L;omega))).symm|exact cB (bj (fun q=>by obtain ⟨P,G,AB,S⟩:=(q.iN _ p hp).ng;rw [F] at G;cases G;first|exact E AB|exact h148 AB|omega)).symm|exact cB (cT ⟨I,ei D I,I,I,I,fun i p hi=>B i p (by have:=(aR.1 hi).1;omega) hi⟩).symm
  refine aS aW 3 U<|rS (BI U nt)<|aq aj 3 ?_;refine bY U (aH fun A1=>?_) (aG fun A1=>?_)
  ·refine aq aW 2 ?_;refine bE U (aG fun A2=>?_) (aH fun A2=>?_)
   ·refine cr aW 6 hQ U U ?_
    first|exact cB (bj (fun q=>by have C:=q.nf;have H:=q.min_;have J:=q.vW;have K:=q.np;omega)).symm|exact cB (bj (fun q=>by have C:=q.fault f (aF hf);unfold fq at C;split at C<;>omega)).symm|exact cB (bj (fun q=>by have A:=q.iN _ p hp;have C:=A.id;have H:=A.kW;have J:=A.fG;have K:=A.fault;simp only [mN] at H;first|omega|(have AA:=A.up T I L;omega))).symm|exact cB (bj (fun q=>by obtain ⟨P,G,AB,S⟩:=(q.iN _ p hp).ng;rw [F] at G;cases G;first|exact E AB|exact h148 AB|omega)).symm|exact cB (cT ⟨I,ei D I,I,I,I,fun i p hi=>B i p (by have:=(aR.1 hi).1;omega) hi⟩).symm
   refine dD aW 8 [0,1] (mc 0 U (mc 1 U mn)) U<|rS (CL (jO f.ji 0 j.Race.av.b_) (aA) U)<|aq aj 3 ?_;refine bE U (aK fun A3=>?_) (aJ fun A3=>?_)
   ·refine aq aW 9 ?_;have m:(vI (((i+1):Nat):Int))=(vI ((i:Int)+1)):=by exact cI I
    refine aL (V ⟨(i+1),⟨I,ti D hf (by refine ⟨I,I,I,?_⟩;split<;>omega)⟩⟩ _ _ _ U os (cS.cons U<|aQ U m<|cS.nil _) (aB [1,2,3,4,5,6,7,8,9,10,11]))
   refine cr aW 6 hQ U U ?_
   first|exact cB (bj (fun q=>by have C:=q.nf;have H:=q.min_;have J:=q.vW;have K:=q.np;omega)).symm|exact cB (bj (fun q=>by have C:=q.fault f (aF hf);unfold fq at C;split at C<;>omega)).symm|exact cB (bj (fun q=>by have A:=q.iN _ p hp;have C:=A.id;have H:=A.kW;have J:=A.fG;have K:=A.fault;simp only [mN] at H;first|omega|(have AA:=A.up T I L;omega))).symm|exact cB (bj (fun q=>by obtain ⟨P,G,AB,S⟩:=(q.iN _ p hp).ng;rw [F] at G;cases G;first|exact E AB|exact h148 AB|omega)).symm|exact cB (cT ⟨I,ei D I,I,I,I,fun i p hi=>B i p (by have:=(aR.1 hi).1;omega) hi⟩).symm
  refine aS aW 1 U<|rS (BI U nt)<|aq aj 3 ?_;refine bE U (aG fun A4=>?_) (aH fun A4=>?_)
  ·refine cr aW 6 hQ U U ?_
   first|exact cB (bj (fun q=>by have C:=q.nf;have H:=q.min_;have J:=q.vW;have K:=q.np;omega)).symm|exact cB (bj (fun q=>by have C:=q.fault f (aF hf);unfold fq at C;split at C<;>omega)).symm|exact cB (bj (fun q=>by have A:=q.iN _ p hp;have C:=A.id;have H:=A.kW;have J:=A.fG;have K:=A.fault;simp only [mN] at H;first|omega|(have AA:=A.up T I L;omega))).symm|exact cB (bj (fun q=>by obtain ⟨P,G,AB,S⟩:=(q.iN _ p hp).ng;rw [F] at G;cases G;first|exact E AB|exact h148 AB|omega)).symm|exact cB (cT ⟨I,ei D I,I,I,I,fun i p hi=>B i p (by have:=(aR.1 hi).1;omega) hi⟩).symm
  refine dD aW 8 [0,1] (mc 0 U (mc 1 U mn)) U<|rS (CL (jO f.ji 0 j.Race.av.b_) (aA) U)<|aq aj 3 ?_;refine bE U (aK fun A5=>?_) (aJ fun A5=>?_)
  ·refine aq aW 9 ?_;have n:(vI (((i+1):Nat):Int))=(vI ((i:Int)+1)):=by exact cI I
   refine aL (V ⟨(i+1),⟨I,ti D hf (by refine ⟨I,I,I,?_⟩;split<;>omega)⟩⟩ _ _ _ U os (cS.cons U<|aQ U n<|cS.nil _) (aB [1,2,3,4,5,6,7,8,9,10,11]))
  refine cr aW 6 hQ U U ?_
  first|exact cB (bj (fun q=>by have C:=q.nf;have H:=q.min_;have J:=q.vW;have K:=q.np;omega)).symm|exact cB (bj (fun q=>by have C:=q.fault f (aF hf);unfold fq at C;split at C<;>omega)).symm|exact cB (bj (fun q=>by have A:=q.iN _ p hp;have C:=A.id;have H:=A.kW;have J:=A.fG;have K:=A.fault;simp only [mN] at H;first|omega|(have AA:=A.up T I L;omega))).symm|exact cB (bj (fun q=>by obtain ⟨P,G,AB,S⟩:=(q.iN _ p hp).ng;rw [F] at G;cases G;first|exact E AB|exact h148 AB|omega)).symm|exact cB (cT ⟨I,ei D I,I,I,I,fun i p hi=>B i p (by have:=(aR.1 hi).1;omega) hi⟩).symm
 refine aS aW 1 U<|aq fD 9 ?_;have R:(0≤j.bM.length)∧(pT j 0):=by exact ⟨c4 _,zJ⟩
 refine bu (ι:={z:Nat // (z≤j.bM.length)∧(pT j z)}) [1] [0,1,2,3,4,5,6,7,8,9,10] U U (fun z=>[(5,(vI (z.1:Int)))]) (fun z=>[]) (fun _=>rfl) (fun _=>rfl) (fun z=>j.bM.length-z.1) ⟨0,R⟩ (aN U) (aB [0,1,2,3,4,5,6,7,8,9,10]) ?_;clear R;rintro ⟨k,⟨w,B⟩⟩ J52 Y
 try dsimp only
 refine cm bS 10 [] (mc 0 U mn) ?_;refine bE U (aG fun A6=>?_) (aH fun A6=>?_)
 ·refine aS aW 1 U<|cr fD 8 hQ U U ?_
  first|exact cB (bj (fun q=>by have C:=q.nf;have H:=q.min_;have J:=q.vW;have K:=q.np;omega)).symm|exact cB (bj (fun q=>by have C:=q.fault f (aF hf);unfold fq at C;split at C<;>omega)).symm|exact cB (bj (fun q=>by have A:=q.iN _ p hp;have C:=A.id;have H:=A.kW;have J:=A.fG;have K:=A.fault;simp only [mN] at H;first|omega|(have AA:=A.up T I L;omega))).symm|exact cB (bj (fun q=>by obtain ⟨P,G,AB,S⟩:=(q.iN _ p hp).ng;rw [F] at G;cases G;first|exact E AB|exact h148 AB|omega)).symm|exact cB (cT ⟨I,ei D I,I,I,I,fun i p hi=>B i p (by have:=(aR.1 hi).1;omega) hi⟩).symm
 refine cm aW 9 [] (mc 0 U mn) ?_;obtain ⟨p,hp⟩:=ax j.bM k I;have C0:=bw c_.cells hp;refine rS (IA k U (au 10 U) Qs dc I I)<|rS (ld k 0 (c_.cells p) U bP (au 10 U) C0 U dc U U)<|AL U NZ fun DL=>eN U Qa U<|aS aj 4 U<|cK bX 52 kr<|jZ 2 [] (mc 0 U mn) U<|dS (CL (jO p.Id 0 9999) (aA) U)<|dP 2 [] mn ?_;refine iJ (t:=87) U (aJ fun A7=>?_) (aK fun A7=>?_)
 ·refine iR 47 U<|cy<|cr aj 9 hQ U U ?_
  first|exact cB (bj (fun q=>by have C:=q.nf;have H:=q.min_;have J:=q.vW;have K:=q.np;omega)).symm|exact cB (bj (fun q=>by have C:=q.fault f (aF hf);unfold fq at C;split at C<;>omega)).symm|exact cB (bj (fun q=>by have A:=q.iN _ p hp;have C:=A.id;have H:=A.kW;have J:=A.fG;have K:=A.fault;simp only [mN] at H;omega)).symm|exact cB (bj (fun q=>by obtain ⟨P,G,AB,S⟩:=(q.iN _ p hp).ng;rw [F] at G;cases G;first|exact E AB|exact h148 AB|omega)).symm|exact cB (cT ⟨I,ei D I,I,I,I,fun i p hi=>B i p (by have:=(aR.1 hi).1;omega) hi⟩).symm
 refine dP 3 [] mn ?_;refine iQ (t:=90) U (aG fun A8=>?_) (aH fun A8=>?_)
 ·refine jZ 20 [0,1] (mc 0 U (mc 1 U mn)) U<|dS (CL (jO p.jn 0 ((j.Race.bf.length:Int)-1)) (aA) U)<|dP 3 [] mn ?_;refine iJ (t:=114) U (aJ fun B9=>?_) (aK fun B9=>?_)
  ·refine iR 20 U<|cy<|cr aj 9 hQ U U ?_
   first|exact cB (bj (fun q=>by have C:=q.nf;have H:=q.min_;have J:=q.vW;have K:=q.np;omega)).symm|exact cB (bj (fun q=>by have C:=q.fault f (aF hf);unfold fq at C;split at C<;>omega)).symm|exact cB (bj (fun q=>by have A:=q.iN _ p hp;have C:=A.id;have H:=A.kW;have J:=A.fG;have K:=A.fault;simp only [mN] at H;omega)).symm|exact cB (bj (fun q=>by obtain ⟨P,G,AB,S⟩:=(q.iN _ p hp).ng;rw [F] at G;cases G;first|exact E AB|exact h148 AB|omega)).symm|exact cB (cT ⟨I,ei D I,I,I,I,fun i p hi=>B i p (by have:=(aR.1 hi).1;omega) hi⟩).symm
  refine jZ 7 [0,1] (mc 0 U (mc 1 U mn)) U<|dS (CL (jO p.jY 0 ((j.Race.ay.length:Int)-1)) (aA) U)<|dP 3 [] mn ?_;refine iJ (t:=125) U (aJ fun CI=>?_) (aK fun CI=>?_)
  ·refine iR 9 U<|cy<|cr aj 9 hQ U U ?_
   first|exact cB (bj (fun q=>by have C:=q.nf;have H:=q.min_;have J:=q.vW;have K:=q.np;omega)).symm|exact cB (bj (fun q=>by have C:=q.fault f (aF hf);unfold fq at C;split at C<;>omega)).symm|exact cB (bj (fun q=>by have A:=q.iN _ p hp;have C:=A.id;have H:=A.kW;have J:=A.fG;have K:=A.fault;simp only [mN] at H;omega)).symm|exact cB (bj (fun q=>by obtain ⟨P,G,AB,S⟩:=(q.iN _ p hp).ng;rw [F] at G;cases G;first|exact E AB|exact h148 AB|omega)).symm|exact cB (cT ⟨I,ei D I,I,I,I,fun i p hi=>B i p (by have:=(aR.1 hi).1;omega) hi⟩).symm
  refine jZ 6 [0,1] (mc 0 U (mc 1 U mn)) U<|dS (CL (jO p.lx 0 ((j.bB.length:Int)-1)) (aA) U)<|iR 2 U<|cy<|aq aj 2 ?_;refine bY U (aJ fun Ci=>?_) (aK fun Ci=>?_)
  ·refine cr aW 6 hQ U U ?_
   first|exact cB (bj (fun q=>by have C:=q.nf;have H:=q.min_;have J:=q.vW;have K:=q.np;omega)).symm|exact cB (bj (fun q=>by have C:=q.fault f (aF hf);unfold fq at C;split at C<;>omega)).symm|exact cB (bj (fun q=>by have A:=q.iN _ p hp;have C:=A.id;have H:=A.kW;have J:=A.fG;have K:=A.fault;simp only [mN] at H;omega)).symm|exact cB (bj (fun q=>by obtain ⟨P,G,AB,S⟩:=(q.iN _ p hp).ng;rw [F] at G;cases G;first|exact E AB|exact h148 AB|omega)).symm|exact cB (cT ⟨I,ei D I,I,I,I,fun i p hi=>B i p (by have:=(aR.1 hi).1;omega) hi⟩).symm
  refine aq aW 3 ?_;refine cP bX [11,12] [] [] [0,1,2,3,4,5,6,7,8,9,10,11] [] U U U U U<|eS U (FA 0 U eB U)<|eS U (FA 10 U eB U)<|eS U (L1 (vS heA j.Race.ay.length heC) 1 U bP U U)<|eS U (FA 2 U eB U)<|eS U (L1 (vI p.jY) 0 U bP U U) ?_;obtain ⟨ht,O⟩:=ax j.Race.ay ((p.jY).toNat) I;obtain ⟨M,N⟩:=ax ha ((p.jY).toNat) I;have X:(zipWith dQ j.Race.ay ha)[(p.jY).toNat]? =some (dQ ht M):=cD O N;refine eS U (IA ((p.jY).toNat) U (au 8 U) mz dc I I) ?_;have W:=Z.fG _ _ _ O N;have s:=W.mD;have u:=(v.fG ht (aF O)).1;refine eS U (gG ((p.jY).toNat) 0 (vS M.1.1 ht.length M.1.2) U bP (au 8 U) X U dc U)<|eS U (FA 1 U eB U)<|eS U (L1 (vI p.jn) 0 U bP U U) ?_;obtain ⟨d,hd⟩:=ax ht ((p.jn).toNat) I;obtain ⟨da,a⟩:=ax M.2 ((p.jn).toNat) I;have b:(zipWith ao.cells ht M.2)[(p.jn).toNat]? =some (ao.cells d da):=cD hd a;refine eS U (IA ((p.jn).toNat) U (show ij _ (jc M.1.1 ht M.2).holds from (ct 9 U (bq O N bZ))) rV dc I I) ?_;have F:=q_ (j:=j) (p:=p) O hd;have C1:=W.sig d (aF hd);refine eS U (ld ((p.jn).toNat) 0 (aO.cells (aO.mk d.Out d.cV d.Time (dx.mk d.bp.Start d.bp.hU (aV.mk da.1 d.bp.ab.length da.2)))) U bP (show ij _ (jc M.1.1 ht M.2).holds from (ct 9 U (bq O N bZ))) b U dc U U)<|dI U<|bQ U fun T88 g=>AL U KP fun Do=>bG (g _ _ (aB [1,2,3,4,5,6,7,8,9,10,11,12]) ?_);refine bQ U fun T90 h=>eN U G4 U<|bG (h _ _ (aB [1,2,3,4,5,6,7,8,9,10,11,12]) ?_);refine eJ U<|dD jE 4 [] (mc 0 U mn) U<|rS (CL (Jz d.Out d.cV d.Time (dx.mk d.bp.Start d.bp.hU (aV.mk da.1 d.bp.ab.length da.2))) (aA) U)<|aq aj 2 ?_;refine bJ (t:=149) U (aJ fun E=>?_) (aK fun E=>?_)
  ·refine cr aj 17 hQ U U ?_
   first|exact cB (bj (fun q=>by have C:=q.nf;have H:=q.min_;have J:=q.vW;have K:=q.np;omega)).symm|exact cB (bj (fun q=>by have C:=q.fault f (aF hf);unfold fq at C;split at C<;>omega)).symm|exact cB (bj (fun q=>by have A:=q.iN _ p hp;have C:=A.id;have H:=A.kW;have J:=A.fG;have K:=A.fault;simp only [mN] at H;first|omega|(have AA:=A.up T I L;omega))).symm|exact cB (bj (fun q=>by obtain ⟨P,G,AB,S⟩:=(q.iN _ p hp).ng;rw [F] at G;cases G;exact E AB)).symm|exact cB (cT ⟨I,ei D I,I,I,I,fun i p hi=>B i p (by have:=(aR.1 hi).1;omega) hi⟩).symm
  refine dD aj 5 [0,1] (mc 1 U (mc 0 U mn)) U<|rS (CL (jO p.At d.bp.Start 86400000) (aA) U)<|aq aj 4 ?_;refine bE U (aK fun Ck=>?_) (aJ fun Ck=>?_)
  ·refine aq aW 8 ?_;have r:(vI (((k+1):Nat):Int))=(vI ((k:Int)+1)):=by exact cI I
   refine aL (Y ⟨(k+1),⟨I,vi B hp ⟨I,fun q h1 h2=>by omega,by simp only [mN];omega,I,I,d,F,by first|exact E|exact h148,I⟩⟩⟩ _ _ _ U os (cS.cons U<|aQ U r<|cS.nil _) (aB [2,3,4,5,6,7,8,9,10,11,12]))
  refine cr aW 6 hQ U U ?_
  first|exact cB (bj (fun q=>by have C:=q.nf;have H:=q.min_;have J:=q.vW;have K:=q.np;omega)).symm|exact cB (bj (fun q=>by have C:=q.fault f (aF hf);unfold fq at C;split at C<;>omega)).symm|exact cB (bj (fun q=>by have A:=q.iN _ p hp;have C:=A.id;have H:=A.kW;have J:=A.fG;have K:=A.fault;simp only [mN] at H;first|omega|(have AA:=A.up T I L;omega))).symm|exact cB (bj (fun q=>by obtain ⟨P,G,AB,S⟩:=(q.iN _ p hp).ng;rw [F] at G;cases G;omega)).symm|exact cB (cT ⟨I,ei D I,I,I,I,fun i p hi=>B i p (by have:=(aR.1 hi).1;omega) hi⟩).symm
 refine dP 6 [0,1] (mc 0 U (mc 1 U mn)) ?_;obtain ⟨T,L⟩:=ax j.bM (k-1) I;have hp0m:=bw c_.cells L;refine dS (IA (k-1) U (au 11 U) Qs dc I I)<|dS (pV ((k-1)*5) U (au 11 U) (e6 I dc) eB U)<|dS (gG (k-1) 0 (vI T.Id) U bP (au 11 U) hp0m U dc U)<|dP 4 [] mn ?_;refine iJ (t:=103) U (aH fun A9=>?_) (aG fun A9=>?_)
 ·refine iR 31 U<|cy<|cr aj 9 hQ U U ?_
  first|exact cB (bj (fun q=>by have C:=q.nf;have H:=q.min_;have J:=q.vW;have K:=q.np;omega)).symm|exact cB (bj (fun q=>by have C:=q.fault f (aF hf);unfold fq at C;split at C<;>omega)).symm|exact cB (bj (fun q=>by have A:=q.iN _ p hp;have C:=A.id;have H:=A.kW;have J:=A.fG;have K:=A.fault;simp only [mN] at H;(have AA:=A.up T I L;omega))).symm|exact cB (bj (fun q=>by obtain ⟨P,G,AB,S⟩:=(q.iN _ p hp).ng;rw [F] at G;cases G;first|exact E AB|exact h148 AB|omega)).symm|exact cB (cT ⟨I,ei D I,I,I,I,fun i p hi=>B i p (by have:=(aR.1 hi).1;omega) hi⟩).symm
 refine jZ 7 [0,1] (mc 0 U (mc 1 U mn)) U<|dS (CL (jO p.jn 0 ((j.Race.bf.length:Int)-1)) (aA) U)<|dP 3 [] mn ?_;refine iJ (t:=114) U (aJ fun Bx=>?_) (aK fun Bx=>?_)
 ·refine iR 20 U<|cy<|cr aj 9 hQ U U ?_
  first|exact cB (bj (fun q=>by have C:=q.nf;have H:=q.min_;have J:=q.vW;have K:=q.np;omega)).symm|exact cB (bj (fun q=>by have C:=q.fault f (aF hf);unfold fq at C;split at C<;>omega)).symm|exact cB (bj (fun q=>by have A:=q.iN _ p hp;have C:=A.id;have H:=A.kW;have J:=A.fG;have K:=A.fault;simp only [mN] at H;omega)).symm|exact cB (bj (fun q=>by obtain ⟨P,G,AB,S⟩:=(q.iN _ p hp).ng;rw [F] at G;cases G;first|exact E AB|exact h148 AB|omega)).symm|exact cB (cT ⟨I,ei D I,I,I,I,fun i p hi=>B i p (by have:=(aR.1 hi).1;omega) hi⟩).symm
 refine jZ 7 [0,1] (mc 0 U (mc 1 U mn)) U<|dS (CL (jO p.jY 0 ((j.Race.ay.length:Int)-1)) (aA) U)<|dP 3 [] mn ?_;refine iJ (t:=125) U (aJ fun By=>?_) (aK fun By=>?_)
 ·refine iR 9 U<|cy<|cr aj 9 hQ U U ?_
  first|exact cB (bj (fun q=>by have C:=q.nf;have H:=q.min_;have J:=q.vW;have K:=q.np;omega)).symm|exact cB (bj (fun q=>by have C:=q.fault f (aF hf);unfold fq at C;split at C<;>omega)).symm|exact cB (bj (fun q=>by have A:=q.iN _ p hp;have C:=A.id;have H:=A.kW;have J:=A.fG;have K:=A.fault;simp only [mN] at H;omega)).symm|exact cB (bj (fun q=>by obtain ⟨P,G,AB,S⟩:=(q.iN _ p hp).ng;rw [F] at G;cases G;first|exact E AB|exact h148 AB|omega)).symm|exact cB (cT ⟨I,ei D I,I,I,I,fun i p hi=>B i p (by have:=(aR.1 hi).1;omega) hi⟩).symm
 refine jZ 6 [0,1] (mc 0 U (mc 1 U mn)) U<|dS (CL (jO p.lx 0 ((j.bB.length:Int)-1)) (aA) U)<|iR 2 U<|cy<|aq aj 2 ?_;refine bY U (aJ fun B3=>?_) (aK fun B3=>?_)
 ·refine cr aW 6 hQ U U ?_
  first|exact cB (bj (fun q=>by have C:=q.nf;have H:=q.min_;have J:=q.vW;have K:=q.np;omega)).symm|exact cB (bj (fun q=>by have C:=q.fault f (aF hf);unfold fq at C;split at C<;>omega)).symm|exact cB (bj (fun q=>by have A:=q.iN _ p hp;have C:=A.id;have H:=A.kW;have J:=A.fG;have K:=A.fault;simp only [mN] at H;omega)).symm|exact cB (bj (fun q=>by obtain ⟨P,G,AB,S⟩:=(q.iN _ p hp).ng;rw [F] at G;cases G;first|exact E AB|exact h148 AB|omega)).symm|exact cB (cT ⟨I,ei D I,I,I,I,fun i p hi=>B i p (by have:=(aR.1 hi).1;omega) hi⟩).symm
 refine aq aW 3 ?_;refine cP bX [11,12] [] [] [0,1,2,3,4,5,6,7,8,9,10,11] [] U U U U U<|eS U (FA 0 U eB U)<|eS U (FA 10 U eB U)<|eS U (L1 (vS heA j.Race.ay.length heC) 1 U bP U U)<|eS U (FA 2 U eB U)<|eS U (L1 (vI p.jY) 0 U bP U U) ?_;obtain ⟨ht,O⟩:=ax j.Race.ay ((p.jY).toNat) I;obtain ⟨M,N⟩:=ax ha ((p.jY).toNat) I;have X:(zipWith dQ j.Race.ay ha)[(p.jY).toNat]? =some (dQ ht M):=cD O N;refine eS U (IA ((p.jY).toNat) U (au 8 U) mz dc I I) ?_;have W:=Z.fG _ _ _ O N;have s:=W.mD;have u:=(v.fG ht (aF O)).1;refine eS U (gG ((p.jY).toNat) 0 (vS M.1.1 ht.length M.1.2) U bP (au 8 U) X U dc U)<|eS U (FA 1 U eB U)<|eS U (L1 (vI p.jn) 0 U bP U U) ?_;obtain ⟨d,hd⟩:=ax ht ((p.jn).toNat) I;obtain ⟨da,a⟩:=ax M.2 ((p.jn).toNat) I;have b:(zipWith ao.cells ht M.2)[(p.jn).toNat]? =some (ao.cells d da):=cD hd a;refine eS U (IA ((p.jn).toNat) U (show ij _ (jc M.1.1 ht M.2).holds from (ct 9 U (bq O N bZ))) rV dc I I) ?_;have F:=q_ (j:=j) (p:=p) O hd;have C1:=W.sig d (aF hd);refine eS U (ld ((p.jn).toNat) 0 (aO.cells (aO.mk d.Out d.cV d.Time (dx.mk d.bp.Start d.bp.hU (aV.mk da.1 d.bp.ab.length da.2)))) U bP (show ij _ (jc M.1.1 ht M.2).holds from (ct 9 U (bq O N bZ))) b U dc U U)<|dI U<|bQ U fun T73 c=>AL U KP fun Di=>bG (c _ _ (aB [1,2,3,4,5,6,7,8,9,10,11,12]) ?_);refine bQ U fun T75 e=>eN U G4 U<|bG (e _ _ (aB [1,2,3,4,5,6,7,8,9,10,11,12]) ?_);refine eJ U<|dD jE 4 [] (mc 0 U mn) U<|rS (CL (Jz d.Out d.cV d.Time (dx.mk d.bp.Start d.bp.hU (aV.mk da.1 d.bp.ab.length da.2))) (aA) U)<|aq aj 2 ?_;refine bJ (t:=149) U (aJ fun E=>?_) (aK fun E=>?_)
 ·refine cr aj 17 hQ U U ?_
  first|exact cB (bj (fun q=>by have C:=q.nf;have H:=q.min_;have J:=q.vW;have K:=q.np;omega)).symm|exact cB (bj (fun q=>by have C:=q.fault f (aF hf);unfold fq at C;split at C<;>omega)).symm|exact cB (bj (fun q=>by have A:=q.iN _ p hp;have C:=A.id;have H:=A.kW;have J:=A.fG;have K:=A.fault;simp only [mN] at H;first|omega|(have AA:=A.up T I L;omega))).symm|exact cB (bj (fun q=>by obtain ⟨P,G,AB,S⟩:=(q.iN _ p hp).ng;rw [F] at G;cases G;exact E AB)).symm|exact cB (cT ⟨I,ei D I,I,I,I,fun i p hi=>B i p (by have:=(aR.1 hi).1;omega) hi⟩).symm
 refine dD aj 5 [0,1] (mc 1 U (mc 0 U mn)) U<|rS (CL (jO p.At d.bp.Start 86400000) (aA) U)<|aq aj 4 ?_;refine bE U (aK fun B7=>?_) (aJ fun B7=>?_)
 ·refine aq aW 8 ?_;have o:(vI (((k+1):Nat):Int))=(vI ((k:Int)+1)):=by exact cI I
  refine aL (Y ⟨(k+1),⟨I,vi B hp ⟨I,fun q h1 h2=>by (rw [L] at h2;cases h2;omega),by simp only [mN];omega,I,I,d,F,by first|exact E|exact h148,I⟩⟩⟩ _ _ _ rfl os (cS.cons rfl<|aQ rfl o<|cS.nil _) (aB [2,3,4,5,6,7,8,9,10,11,12]))
 refine cr aW 6 hQ U U ?_
 first|exact cB (bj (fun q=>by have C:=q.nf;have H:=q.min_;have J:=q.vW;have K:=q.np;omega)).symm|exact cB (bj (fun q=>by have C:=q.fault f (aF hf);unfold fq at C;split at C<;>omega)).symm|exact cB (bj (fun q=>by have A:=q.iN _ p hp;have C:=A.id;have H:=A.kW;have J:=A.fG;have K:=A.fault;simp only [mN] at H;first|omega|(have AA:=A.up T I L;omega))).symm|exact cB (bj (fun q=>by obtain ⟨P,G,AB,S⟩:=(q.iN _ p hp).ng;rw [F] at G;cases G;omega)).symm|exact cB (cT ⟨I,ei D I,I,I,I,fun i p hi=>B i p (by have:=(aR.1 hi).1;omega) hi⟩).symm
end
section
open Go.RowKit
theorem El (j:dy) (kA:OA) (kC:Nat) (az:List RA) (cA:OA) (cC:Nat) (bA:OA) (bC:Nat) (slA:OA) (slC:Nat) (drA:OA) (drC:Nat) (ha:List cq) (heA:OA) (heC:Nat) (faA:OA) (faC:Nat) (prA:OA) (prC:Nat) (hin:jA j az ha):
 de Tryz.prog 6 [(vA (kp.cells (rL j kA kC cA cC bA bC slA slC drA drC heA heC faA faC prA prC)))] (BT j kA az cA bA slA drA ha heA faA prA) (vI (fU j)):=by
 have F:=hin.race;have C:=hin.race.line;have H:=hin.race.hE;have AA:=hin.race.has;have G:=hin.race.hO;have D:=hin.nf;have E:=hin.np;refine bg kr Tryz.func6 U U fun K Q hQ hN=>?_
 try dsimp only
 refine aS bS 2 U<|dV U fun J=>aS aj 7 U<|rS (LP (cf.cells (pP j.Race kA kC cA cC bA bC slA slC drA drC heA heC)) 0 U bP U U U)<|rS (CL (Lh j.Race kA kC az cA cC bA bC slA slC drA drC ha heA heC asm) (aP [1,2,3,4,5,6,7,8]) U)<|aq aj 9 ?_;refine bY U (aJ fun B=>?_) (aK fun B=>?_)
 ·exact cr aW 7 hQ U U<|cI (Cv B).symm
 refine dD aW 6 [] (mc 0 U mn) U<|rS (CL (L6 j kA kC az cA cC bA bC slA slC drA drC ha heA heC faA faC prA prC hin asm) (aP [1,2,3,4,5,6,7,8,9,10]) U)<|aq aj 3 ?_;refine bY U (aJ fun A=>?_) (aK fun A=>?_)
 ·exact cr aW 6 hQ U U<|cI (kI B A).symm
 exact cr aW 8 hQ U U<|cI (zP B A).symm
end
section
open Go.RowKit
variable (l:List Int) (lA:OA) (lC:Nat)
theorem P9 (n:Int) (hlen:l.length≤1000000):
 lf Tryz.prog 62 [(vS lA l.length lC),(vI n)] [(eE lA l)] (fun (x:Int)=>(vI x)) (fun (x:Int)=>(0≤x↔n∈l)) (fun (x:Int)=>[]):=by
 refine cR kr Tryz.func62 U U fun J Q hQ hN=>?_
 try dsimp only
 refine aq bS 14 ?_;have A:(0≤l.length)∧(∀ y∈l.take 0,y≠n):=by exact ⟨c4 _,fun y hy=>by simp at hy⟩
 refine bu (ι:={z:Nat // (z≤l.length)∧(∀ y∈l.take z,y≠n)}) [0,1,7] [0] U U (fun z=>[(8,(vI (z.1:Int)))]) (fun z=>[]) (fun _=>rfl) (fun _=>rfl) (fun z=>l.length-z.1) ⟨0,A⟩ (aN U) (aB [0]) ?_;clear A;rintro ⟨i,⟨F,B⟩⟩ J4 E
 try dsimp only
 refine aq bS 6 ?_;refine bE U (aG fun H=>?_) (aH fun H=>?_)
 ·refine aS aW 1 U<|aq fD 8 ?_;refine LX hQ (-1) [] [] mn U U U U ?_;exact ⟨fun q=>absurd q dc,fun q=>absurd q (fun AA=>B _ (by rw [c5 I];exact AA) U)⟩
 refine aq aW 15 ?_;obtain ⟨x,hx⟩:=ax l i I;have G:=bw iC hx;refine rS (IA i U (au 0 U) cM dc I I)<|rS (gG i 0 (vI x) U bP (au 0 U) G U dc U)<|aq aj 3 ?_;refine bY U (aH fun C=>?_) (aG fun C=>?_)
 ·refine aq aW 7 ?_;refine LX hQ (i:Int) [] [] mn U U U U ?_;exact ⟨fun _=>by rw [C];exact aF hx,fun _=>by omega⟩
 refine aq aW 7 ?_;have D:(vI (((i+1):Nat):Int))=(vI ((i:Int)+1)):=by exact cI I
 refine aL (E ⟨(i+1),⟨I,fun y hy=>by rw [l1,hx] at hy;rcases dY.1 hy with q|q;exact B y q;exact (bT.1 q)▸fun e=>C e.symm⟩⟩ _ _ _ rfl os (cx 3<|aQ rfl D<|cS.nil _) (aB [0]))
theorem FD (n:Int) (hlen:l.length≤1000000):
 de Tryz.prog 28 [(vS lA l.length lC),(vI n)] [(eE lA l)] (vB (decide (n∈l))):=by
 refine bg kr Tryz.func28 U U fun D Q hQ hN=>?_
 try dsimp only
 refine aq bS 9 ?_;refine cX (P9 l lA lC n hlen) (aP [0]) U fun C B=>?_
 try dsimp only
 have A:=B;exact cr aj 5 hQ U U<|cB (iw.2 A)
end
section
open Go.RowKit
theorem PE (r:cN) (kA:OA) (kC:Nat) (az:List RA) (cA:OA) (cC:Nat) (bA:OA) (bC:Nat) (slA:OA) (slC:Nat) (drA:OA) (drC:Nat) (ha:List cq) (heA:OA) (heC:Nat) (hin:gI r az ha):
 lf Tryz.prog 29 [(vA (cf.cells (pP r kA kC cA cC bA bC slA slC drA drC heA heC)))] (Dp r kA az cA bA slA drA ha heA) (fun (x:(OA)×Nat×(OA)×Nat×(List RA)×(OA)×Nat×(OA)×Nat×(OA)×Nat×(OA)×Nat×(List cq))=>(vA (cf.cells (cf.mk (bU.mk (aY.mk (aV.mk x.1 r.av.bW.length x.2.1)) r.av.g7 (aV.mk x.2.2.1 r.av.aD.length x.2.2.2.1) (aV.mk x.2.2.2.2.2.1 r.av.ag.length x.2.2.2.2.2.2.1) r.av.b_ r.av.e_ r.av.di) (aV.mk x.2.2.2.2.2.2.2.1 r.bf.length x.2.2.2.2.2.2.2.2.1) (aV.mk x.2.2.2.2.2.2.2.2.2.1 r.dp.length x.2.2.2.2.2.2.2.2.2.2.1) r.jB (aV.mk x.2.2.2.2.2.2.2.2.2.2.2.1 r.ay.length x.2.2.2.2.2.2.2.2.2.2.2.2.1))))) (fun (x:(OA)×Nat×(OA)×Nat×(List RA)×(OA)×Nat×(OA)×Nat×(OA)×Nat×(OA)×Nat×(List cq))=>(x.2.2.2.2.1.length=r.av.aD.length∧p7 r.av.aD x.2.2.2.2.1)∧tn r.ay x.2.2.2.2.2.2.2.2.2.2.2.2.2) (fun (x:(OA)×Nat×(OA)×Nat×(List RA)×(OA)×Nat×(OA)×Nat×(OA)×Nat×(OA)×Nat×(List cq))=>[(zz x.1 x.2.1 r.av.bW),(wg x.2.2.1 x.2.2.2.1 r.av.aD x.2.2.2.2.1),(bD (bx aX.owns r.av.aD x.2.2.2.2.1)),(yR x.2.2.2.2.2.1 x.2.2.2.2.2.2.1 r.av.ag),(fB x.2.2.2.2.2.2.2.1 x.2.2.2.2.2.2.2.2.1 r.bf),(fB x.2.2.2.2.2.2.2.2.2.1 x.2.2.2.2.2.2.2.2.2.2.1 r.dp),(uZ x.2.2.2.2.2.2.2.2.2.2.2.1 x.2.2.2.2.2.2.2.2.2.2.2.2.1 r.ay x.2.2.2.2.2.2.2.2.2.2.2.2.2),(bD (bx kM r.ay x.2.2.2.2.2.2.2.2.2.2.2.2.2))]):=by
 have C:=hin.line;have EQ:=hin.hE;have M:=hin.has;have H1:=hin.hO;have Ha:=hin.draw;have IO:=fJ (r:=r);have J8:=C.sS;have J5:=C.sT;have J4:=C.sU;have Di:=C.mD;refine cR kr Tryz.func29 U U fun w0 Q hQ hN=>?_
 try dsimp only
 refine aS bS 2 U<|dV U fun b2=>AL U vC fun b3=>aq aj 9 ?_;refine cP bX [8,13,18,22,25,28] [7,11,15] [0,1,2] [0,2,3,4,5,6,7,8,9] [0,1,2,3,4,5,6,7,8,9] U U U U U<|eS U (MV U)<|eS U (MV U)<|eS U (MV U)<|eS U (MV U)<|eS U (SX (bK U U) U U)<|eS U (FA 0 U eB U)<|eS U (FA 0 U eB U)<|fS U (L1 (vS kA r.av.bW.length kC) 1 U bP U U)<|eS U (MV U)<|eS U (SX (bK U U) U U)<|eS U (FA 3 U eB U)<|fS U (L1 (vS bA r.av.ag.length bC) 1 U bP U U)<|eS U (MV U)<|eS U (SX (bK U U) U U)<|eS U (FA 2 U eB U)<|fS U (L1 (vS cA r.av.aD.length cC) 1 U bP U U)<|eS U (SX (bK U U) U U)<|eS U (FA 0 U eB U)<|eS U (FA 0 U eB U)<|eS U (SX (bK U U) U U)<|eS U (FA 3 U eB U)<|eS U (SX (bK U U) U U)<|eS U (FA 2 U eB U)<|dI U<|gu U fun T6 DL=>cX (EC r.av.bW kA kC asm) (aP [2]) U fun y7 J9=>?_;obtain ⟨a9,S⟩:=y7
 try dsimp only
 refine bG (DL _ _ (aB [1,3,4,5,6,7,8,9,10]) (aB [1,2,3,4,5,6,7,8,9,10]) ?_);refine gu U fun T11 A4=>cX (Ei r.av.ag bA bC asm) (aP [6]) U fun Eq IR=>?_;obtain ⟨W,Y⟩:=Eq
 try dsimp only
 refine bG (A4 _ _ (aB [2,4,5,6,7,8,9,10,11]) (aB [2,3,4,5,6,7,8,9,10,11]) ?_);refine gu U fun T16 A5=>cX (Ff (zipWith aX.cells r.av.aD az) cA r.av.aD.length cC asm (by exact im Di) (by exact Ad _ _)) (aP [5]) U fun FS Id=>?_;obtain ⟨J,K⟩:=FS
 try dsimp only
 refine bG (A5 _ _ (aB [3,5,6,7,8,9,10,11,12]) (aB [3,4,5,6,7,8,9,10,11,12]) ?_);refine bQ U fun T21 A6=>WR (cf.cells (cf.mk (bU.mk (aY.mk (aV.mk a9 r.av.bW.length S)) r.av.g7 (aV.mk cA r.av.aD.length cC) (aV.mk bA r.av.ag.length bC) r.av.b_ r.av.e_ r.av.di) (aV.mk slA r.bf.length slC) (aV.mk drA r.dp.length drC) r.jB (aV.mk heA r.ay.length heC))) U XO U U<|bG (A6 _ _ (aB [3,5,6,7,8,9,10,11,12]) ?_);refine bQ U fun T22 A7=>WR (cf.cells (cf.mk (bU.mk (aY.mk (aV.mk a9 r.av.bW.length S)) r.av.g7 (aV.mk cA r.av.aD.length cC) (aV.mk W r.av.ag.length Y) r.av.b_ r.av.e_ r.av.di) (aV.mk slA r.bf.length slC) (aV.mk drA r.dp.length drC) r.jB (aV.mk heA r.ay.length heC))) U WB U U<|bG (A7 _ _ (aB [3,5,6,7,8,9,10,11,12]) ?_);refine bQ U fun T23 A8=>WR (cf.cells (cf.mk (bU.mk (aY.mk (aV.mk a9 r.av.bW.length S)) r.av.g7 (aV.mk J r.av.aD.length K) (aV.mk W r.av.ag.length Y) r.av.b_ r.av.e_ r.av.di) (aV.mk slA r.bf.length slC) (aV.mk drA r.dp.length drC) r.jB (aV.mk heA r.ay.length heC))) U Zl U U<|bG (A8 _ _ (aB [3,5,6,7,8,9,10,11,12]) ?_);refine eJ U<|aS jE 5 U<|rS (SX (bK U U) U U)<|cm aj 7 [] (mc 4 U mn) ?_;refine mj ?_;have E:(0≤r.av.aD.length)∧(([]:List RA).length=0)∧(p7 r.av.aD ([]:List RA)):=by exact ⟨c4 _,rfl,fun k m a _ h=>by simp at h⟩
 refine bu (ι:={z:Nat×(List RA) // (z.1≤r.av.aD.length)∧(z.2.length=z.1)∧(p7 r.av.aD z.2)}) [1,2,3,39] [2,3,4,5,6,7,8,9,10,11,12,13] U U (fun z=>[(40,(vI (z.1.1:Int)))]) (fun z=>[(bD (bx aX.owns (r.av.aD.take z.1.1) z.1.2)),(wg J K r.av.aD (jm z.1.2 az z.1.1))]) (fun _=>rfl) (fun _=>rfl) (fun z=>r.av.aD.length-z.1.1) ⟨(0,([]:List RA)),E⟩ (aN U) (aB [2,3,4,5,6,7,8,9,10,11,12,13,0,1]) ?_;clear E;rintro ⟨⟨i,bz⟩,⟨A0,B,V⟩⟩ J26 A1
 try dsimp only at A0 B V
 try dsimp only
 refine aq bS 6 ?_;refine bY U (aH fun C3=>?_) (aG fun C3=>?_)
 ·refine aq aW 10 ?_;refine cP bX [13,16] [10,11,12,13,14] [0] [0,1,2,3,4,5,6,7,8,9,10,11,12] [0,1,2,3,4,5,6,7,8,9,10,11,12,13] U U U U U<|eS U (MV U)<|eS U (SX (bK U U) U U)<|eS U (FA 2 U eB U)<|eS U (L1 (vS J r.av.aD.length K) 3 U bP U U)<|eS U (MV U)<|eS U (MV U)<|eS U (SX (bK U U) U U)<|eS U (FA 2 U eB U)<|eS U (L1 (vS J r.av.aD.length K) 3 U bP U U)<|eS U (MV U) ?_;obtain ⟨x,hx⟩:=ax r.av.aD i I;obtain ⟨xa,s⟩:=ax az i I;have C2:(zipWith aX.cells r.av.aD (jm bz az i))[i]? =some (aX.cells x xa):=cD hx (um B s);have J7:=(C.U8 _ _ _ hx s).2;refine fS U (IA i U (ak (n:=r.av.aD.length) 13 U (im (by rw [eV B I];exact C.mD))) xK dc I I) ?_;refine fS U (pV ((i*2)+1) U (ak (n:=r.av.aD.length) 13 U (im (by rw [eV B I];exact C.mD))) (e6 I dc) eB U) ?_;refine fS U (gG i 1 (vS xa.1 x.bo.length xa.2) U bP (ak (n:=r.av.aD.length) 13 U (im (by rw [eV B I];exact C.mD))) C2 U dc U) ?_;refine fS U (IA i U (ak (n:=r.av.aD.length) 13 U (im (by rw [eV B I];exact C.mD))) xK dc I I) ?_;refine fS U (pV ((i*2)+1) U (ak (n:=r.av.aD.length) 13 U (im (by rw [eV B I];exact C.mD))) (e6 I dc) eB U) ?_;refine dI U<|gu U fun T32 A9=>cX (FK x.bo xa.1 xa.2 asm) (aw (show ij _ (nG xa.1 x.bo).holds from (ct 6 U (bq hx s (by simp [aX.lG]))))<|aA) U fun Fd If=>?_;obtain ⟨P,T⟩:=Fd
  try dsimp only
  refine bG (A9 _ _ (aB [1,2,3,4,5,6,7,8,9,10,11,12,13]) (aB [1,2,3,4,5,6,7,8,9,10,11,12,13,14]) ?_);refine bQ U fun T37 Bx=>ej (k:=i) (o:=1) (vs:=[(vS P x.bo.length T)]) (es':=(zipWith aX.cells r.av.aD (jm (bz++[(P,T)]) az (i+1)))) (C':=[_,_,_,_,_,_,_,_,_,_,_,_,_,_,(wg J K r.av.aD (jm (bz++[(P,T)]) az (i+1)))]) 14 U U U Ug U U U U C2 U dc (by exact qH (c:=aX.cells) (b:=(P,T)) hx B s) U<|bG (Bx _ _ (aB [1,2,3,4,5,6,7,8,9,10,11,12,13]) ?_);refine eJ U<|aq jE 6 ?_;refine OH 0 U fun t=>?_;simp only [c3] at t;refine Dz (Y':=bx aX.owns (r.av.aD.take (i+1)) (bz++[(P,T)])) 13 0 U U (nx (f:=aX.owns) (b:=(P,T)) hx B) ?_;have Ct:(vI (((i+1):Nat):Int))=(vI ((i:Int)+1)):=by exact cI I
  refine aL (A1 ⟨((i+1),(bz++[(P,T)])),⟨I,by simp;omega,Gb V B hx t⟩⟩ _ _ _ U os (cx 4<|aQ U Ct<|cS.nil _) (aB [1,2,3,4,5,6,7,8,9,10,11,12,0,13]))
 refine aS aW 1 U<|aq fD 3 ?_;have Do:bz.length=r.av.aD.length:=by omega
 have Dw:=V;rw [show (jm bz az i)=bz from rj I,show r.av.aD.take i=r.av.aD from c5 I];refine cP bX [2,5,8,10,12,14] [1,3,5] [0,1,2] [0,1,2,4,5,6,7,8,9,10,11,12,13] [0,1,2,3,4,5,6,7,8,9,10,11,12,13] U U U U U<|eS U (FA 7 U eB U)<|fS U (L1 (vS slA r.bf.length slC) 3 U bP U U)<|eS U (FA 8 U eB U)<|fS U (L1 (vS drA r.dp.length drC) 3 U bP U U)<|eS U (FA 10 U eB U)<|fS U (L1 (vS heA r.ay.length heC) 3 U bP U U)<|eS U (FA 7 U eB U)<|eS U (FA 8 U eB U)<|eS U (FA 10 U eB U)<|dI U<|gu U fun T40 By=>cX (wH r.bf slA slC asm) (aP [8]) U fun Fi In=>?_;obtain ⟨g,j⟩:=Fi
 try dsimp only
 refine bG (By _ _ (aB [1,2,3,5,6,7,8,9,10,11,12,13,14]) (aB [1,2,3,4,5,6,7,8,9,10,11,12,13,14]) ?_);refine gu U fun T45 B3=>cX (wH r.dp drA drC I) (aP [10]) U fun Fn JR=>?_;obtain ⟨w,AO⟩:=Fn
 try dsimp only
 refine bG (B3 _ _ (aB [2,3,4,6,7,8,9,10,11,12,13,14,15]) (aB [2,3,4,5,6,7,8,9,10,11,12,13,14,15]) ?_);refine gu U fun T50 B7=>cX (F2 (zipWith dQ r.ay ha) heA r.ay.length heC asm (by exact e8 M) (by exact CG _ _)) (aP [12]) U fun GE JZ=>?_;obtain ⟨X,Z⟩:=GE
 try dsimp only
 refine bG (B7 _ _ (aB [3,4,5,7,8,9,10,11,12,13,14,15,16]) (aB [3,4,5,6,7,8,9,10,11,12,13,14,15,16]) ?_);refine bQ U fun T55 B9=>WQ (cf.cells (cf.mk (bU.mk (aY.mk (aV.mk a9 r.av.bW.length S)) r.av.g7 (aV.mk J r.av.aD.length K) (aV.mk W r.av.ag.length Y) r.av.b_ r.av.e_ r.av.di) (aV.mk g r.bf.length j) (aV.mk drA r.dp.length drC) r.jB (aV.mk heA r.ay.length heC))) U wM U U<|bG (B9 _ _ (aB [3,4,5,7,8,9,10,11,12,13,14,15,16]) ?_);refine bQ U fun T56 CI=>WQ (cf.cells (cf.mk (bU.mk (aY.mk (aV.mk a9 r.av.bW.length S)) r.av.g7 (aV.mk J r.av.aD.length K) (aV.mk W r.av.ag.length Y) r.av.b_ r.av.e_ r.av.di) (aV.mk g r.bf.length j) (aV.mk w r.dp.length AO) r.jB (aV.mk heA r.ay.length heC))) U wM U U<|bG (CI _ _ (aB [3,4,5,7,8,9,10,11,12,13,14,15,16]) ?_);refine bQ U fun T57 Ci=>WQ (cf.cells (cf.mk (bU.mk (aY.mk (aV.mk a9 r.av.bW.length S)) r.av.g7 (aV.mk J r.av.aD.length K) (aV.mk W r.av.ag.length Y) r.av.b_ r.av.e_ r.av.di) (aV.mk g r.bf.length j) (aV.mk w r.dp.length AO) r.jB (aV.mk X r.ay.length Z))) U Xk U U<|bG (Ci _ _ (aB [3,4,5,7,8,9,10,11,12,13,14,15,16]) ?_);refine eJ U<|cm jE 11 [] (mc 6 U mn) ?_;refine mj ?_;have E:(0≤r.ay.length)∧(([]:List cq).length=0)∧(∀ (k:Nat) y (a:cq),r.ay[k]? =some y→([]:List cq)[k]? =some a→a.2.length=y.length):=by exact ⟨c4 _,rfl,fun k y a _ q=>by simp at q⟩
 refine bu (ι:={z:Nat×(List cq) // (z.1≤r.ay.length)∧(z.2.length=z.1)∧(∀ (k:Nat) y (a:cq),r.ay[k]? =some y→z.2[k]? =some a→a.2.length=y.length)}) [1,2,74] [2,3,4,5,6,7,8,9,10,11,12,13,14,15,16,17] U U (fun z=>[(75,(vI (z.1.1:Int)))]) (fun z=>[(bD (bx kM (r.ay.take z.1.1) z.1.2)),(uZ X Z r.ay (jm z.1.2 ha z.1.1))]) (fun _=>rfl) (fun _=>rfl) (fun z=>r.ay.length-z.1.1) ⟨(0,([]:List cq)),E⟩ (aN U) (aB [2,3,4,5,6,7,8,9,10,11,12,13,14,15,16,17,0,1]) ?_;clear E;rintro ⟨⟨h,hz⟩,⟨l,A,L⟩⟩ J60 A2
 try dsimp only at l A L
 try dsimp only
 refine aq bS 6 ?_;refine bE U (aG fun DA=>?_) (aH fun DA=>?_)
 ·refine aS aW 1 U<|aq fD 3 ?_;have EY:tn r.ay hz:=⟨I,L⟩;rw [show (jm hz ha h)=hz from rj I,show r.ay.take h=r.ay from c5 I];refine dD aW 2 [] (mc 5 U mn) U<|Ud U n8 U<|aq aj 3 ?_;refine LX hQ (a9,S,J,K,bz,W,Y,g,j,w,AO,X,Z,hz) [3,15,14,2,1,0,17,16] [0] (mc 4 U mn) U (by show all _ _=true;simp only [eX,om,gE,lq,n4];rfl) U U ?_;exact ⟨⟨Do,Dw⟩,EY⟩
 refine aq aW 11 ?_;refine cP bX [8,10] [6,7,8] [0] [0,1,2,3,4,5,6,7,8,9,10,11,12,13,14,15,16] [0,1,2,3,4,5,6,7,8,9,10,11,12,13,14,15,16,17] U U U U U<|eS U (FA 10 U eB U)<|eS U (L1 (vS X r.ay.length Z) 5 U bP U U)<|eS U (MV U)<|eS U (FA 10 U eB U)<|eS U (L1 (vS X r.ay.length Z) 5 U bP U U)<|eS U (MV U) ?_;obtain ⟨ht,N⟩:=ax r.ay h I;obtain ⟨D,O⟩:=ax ha h I;have u:(zipWith dQ r.ay (jm hz ha h))[h]? =some (dQ ht D):=cD N (um A O);have An:=hin.fG _ _ _ N O;have e:=An.mD;have EQ:=An.len;refine fS U (IA h U (ak (n:=r.ay.length) 17 U (e8 (by rw [eV A I];exact M))) mz dc I I) ?_;refine fS U (gG h 0 (vS D.1.1 ht.length D.1.2) U bP (ak (n:=r.ay.length) 17 U (e8 (by rw [eV A I];exact M))) u U dc U) ?_;refine fS U (IA h U (ak (n:=r.ay.length) 17 U (e8 (by rw [eV A I];exact M))) mz dc I I) ?_;refine dI U<|gu U fun T67 Ck=>cX (F9 (zipWith ao.cells ht D.2) D.1.1 ht.length D.1.2 asm (by exact mY e) (by exact IP _ _)) (aw (show ij _ (jc D.1.1 ht D.2).holds from (ct 13 U (bq N O bZ)))<|aA) U fun GT J2=>?_;obtain ⟨G,H⟩:=GT
 try dsimp only
 refine bG (Ck _ _ (aB [1,2,3,4,5,6,7,8,9,10,11,12,13,14,15,16,17]) (aB [1,2,3,4,5,6,7,8,9,10,11,12,13,14,15,16,17,18]) ?_);refine bQ U fun T72 Cp=>ej (k:=h) (o:=0) (vs:=[(vS G ht.length H)]) (es':=(zipWith dQ r.ay (jm (hz++[((G,H),D.2)]) ha (h+1)))) (C':=[_,_,_,_,_,_,_,_,_,_,_,_,_,_,_,_,_,_,(uZ X Z r.ay (jm (hz++[((G,H),D.2)]) ha (h+1)))]) 18 U U U XZ U U U U u U dc (by exact qH (b:=((G,H),D.2)) N A O) U<|bG (Cp _ _ (aB [1,2,3,4,5,6,7,8,9,10,11,12,13,14,15,16,17]) ?_);refine eJ U<|cm jE 6 [] (mc 6 U mn) ?_;have v:(zipWith dQ r.ay (jm (hz++[((G,H),D.2)]) ha (h+1)))[h]? =some (dQ ht ((G,H),D.2)):=cD N (EL A);refine rS (IA h U (ak (n:=r.ay.length) 18 U (e8 (by rw [eV (by simp;omega) I];exact M))) mz dc I I) ?_;refine rS (gG h 0 (vS G ht.length H) U bP (ak (n:=r.ay.length) 18 U (e8 (by rw [eV (by simp;omega) I];exact M))) v U dc U) ?_;refine aq aj 5 ?_;refine mj ?_;have E:(0≤ht.length)∧(([]:List RA).length=0):=by exact ⟨c4 _,rfl⟩
 refine bu (ι:={z:Nat×(List RA) // (z.1≤ht.length)∧(z.2.length=z.1)}) [1,2,5,74,75,93] [2,3,4,5,6,7,8,9,10,11,12,13,14,15,16,17,18,19] U U (fun z=>[(94,(vI (z.1.1:Int)))]) (fun z=>[(bD (bx lP (ht.take z.1.1) z.1.2)),(C4 G H ht (jm z.1.2 D.2 z.1.1))]) (fun _=>rfl) (fun _=>rfl) (fun z=>ht.length-z.1.1) ⟨(0,([]:List RA)),E⟩ (aN U) (aB [2,3,4,5,6,7,8,9,10,11,12,13,14,15,16,17,18,19,0,1]) ?_;clear E;rintro ⟨⟨i,dz⟩,⟨p,F⟩⟩ J74 A3
 try dsimp only at p F
 try dsimp only
 refine aq bS 6 ?_;refine bE U (aG fun DC=>?_) (aH fun DC=>?_)
 ·refine aS aW 1 U<|aq fD 7 ?_;have Hi:dz.length=ht.length:=by omega
  rw [show (jm dz D.2 i)=dz from rj I,show ht.take i=ht from c5 I];refine Ql (Z':=bx kM (r.ay.take (h+1)) (hz++[((G,H),dz)])) 16 18 19 U U (nx (f:=kM) (b:=((G,H),dz)) N A) ?_;rw [ES (y:=dz)];have C0:(vI (((h+1):Nat):Int))=(vI ((h:Int)+1)):=by exact cI I
  refine aL (A2 ⟨((h+1),(hz++[((G,H),dz)])),⟨I,by simp;omega,IH N L A dso⟩⟩ _ _ _ U os (cx 3<|aQ U C0<|cS.nil _) (aB [1,2,3,4,5,6,7,8,9,10,11,12,13,14,15,16,0,17]))
 refine aq aW 11 ?_;refine zG 19 U (by rw [mY (by rw [eV F I];exact e)];omega) (fun Go AB=>?_);refine cm aW 4 [] (mc 5 U mn) ?_;refine rS (IA h U (ak (n:=r.ay.length) 17 U (e8 (by rw [eV (by simp;omega) I];exact M))) mz dc I I) ?_;refine rS (gG h 0 (vS G ht.length H) U bP (ak (n:=r.ay.length) 17 U (e8 (by rw [eV (by simp;omega) I];exact M))) v U dc U) ?_;refine aq aj 1 ?_;obtain ⟨d,hd⟩:=ax ht i I;obtain ⟨da,AP⟩:=ax D.2 i I;have C1:(zipWith ao.cells ht (jm dz D.2 i))[i]? =some (ao.cells d da):=cD hd (um F AP);have J6:=An.sig d (aF hd);refine rS (IAP i U AB rV I I)<|rS (YS ((i*7)+4) U AB eB U)<|rS (YS (((i*7)+4)+2) U AB eB U)<|aq aj 6 ?_;refine rS (SX (uG U U AB) U U) ?_;refine rS (gG i 6 (vS da.1 d.bp.ab.length da.2) U bP (ak (n:=ht.length) 19 U (mY (by rw [eV F I];exact e))) C1 U dc U) ?_;refine cX (zR d.bp.ab da.1 da.2 asm) (aw (show ij _ (gR da.1 d.bp.ab).holds from (ct 13 U (bq N O (dg _ (bq hd AP (by simp [ao.lG]))))))<|aA) U fun GV J3=>?_;obtain ⟨R,AA⟩:=GV
 try dsimp only
 refine rS (SX (uG U U AB) U U)<|ej (k:=i) (o:=6) (vs:=[(vS R d.bp.ab.length AA)]) (es':=(zipWith ao.cells ht (jm (dz++[(R,AA)]) D.2 (i+1)))) (C':=[_,_,_,_,_,_,_,_,_,_,_,_,_,_,_,_,_,_,_,_,(C4 G H ht (jm (dz++[(R,AA)]) D.2 (i+1)))]) 20 U U U VI U U U U C1 U dc (by exact qH (c:=ao.cells) (b:=(R,AA)) hd F AP) U<|aq aj 7 ?_;refine Dz (Y':=bx lP (ht.take (i+1)) (dz++[(R,AA)])) 19 0 U U (nx (f:=lP) (b:=(R,AA)) hd F) ?_;have Cx:(vI (((i+1):Nat):Int))=(vI ((i:Int)+1)):=by exact cI I
 refine aL (A3 ⟨((i+1),(dz++[(R,AA)])),⟨I,by simp;omega⟩⟩ _ _ _ U os (cx 6<|aQ U Cx<|cS.nil _) (aB [1,2,3,4,5,6,7,8,9,10,11,12,13,14,15,16,17,18,0,19]))
end
section
open Go.RowKit
theorem vz (j:dy) (kA:OA) (kC:Nat) (az:List RA) (cA:OA) (cC:Nat) (bA:OA) (bC:Nat) (slA:OA) (slC:Nat) (drA:OA) (drC:Nat) (ha:List cq) (heA:OA) (heC:Nat) (faA:OA) (faC:Nat) (prA:OA) (prC:Nat) (h i:Int) (d:ao) (sgA:OA) (sgC:Nat) (hin:jA j az ha) (hsl:d.bp.ab.length≤1000000):
 lf Tryz.prog 8 [(vA (kp.cells (rL j kA kC cA cC bA bC slA slC drA drC heA heC faA faC prA prC))),(vI h),(vI i),(vA (aO.cells (aO.mk d.Out d.cV d.Time (jR d.bp sgA sgC))))] ((rd ig 3 2 fY)::((BT j kA az cA bA slA drA ha heA faA prA)++[(gR sgA d.bp.ab)])) (fun (x:Bool×Int×(OA)×Nat×(OA)×Nat×(List RA)×(OA)×Nat×(OA)×Nat×(OA)×Nat×(OA)×Nat×(List cq))=>bif x.1 then (vT [(vA (cf.cells (cf.mk (bU.mk (aY.mk (aV.mk x.2.2.1 j.Race.av.bW.length x.2.2.2.1)) j.Race.av.g7 (aV.mk x.2.2.2.2.1 j.Race.av.aD.length x.2.2.2.2.2.1) (aV.mk x.2.2.2.2.2.2.2.1 j.Race.av.ag.length x.2.2.2.2.2.2.2.2.1) j.Race.av.b_ j.Race.av.e_ j.Race.av.di) (aV.mk x.2.2.2.2.2.2.2.2.2.1 j.Race.bf.length x.2.2.2.2.2.2.2.2.2.2.1) (aV.mk x.2.2.2.2.2.2.2.2.2.2.2.1 j.Race.dp.length x.2.2.2.2.2.2.2.2.2.2.2.2.1) j.Race.jB (aV.mk x.2.2.2.2.2.2.2.2.2.2.2.2.2.1 ((pQ j.Race.ay h i d).length) x.2.2.2.2.2.2.2.2.2.2.2.2.2.2.1)))),(vI 0)]) else (vT [(vA (cf.cells (cf.mk (bU.mk (aY.mk (aV.mk none 0 0)) 0 (aV.mk none 0 0) (aV.mk none 0 0) 0 0 0) (aV.mk none 0 0) (aV.mk none 0 0) 0 (aV.mk none 0 0)))),(vI x.2.1)])) (fun (x:Bool×Int×(OA)×Nat×(OA)×Nat×(List RA)×(OA)×Nat×(OA)×Nat×(OA)×Nat×(OA)×Nat×(List cq))=>(x.1=true→((oi j h i d)=0∧(x.2.2.2.2.2.2.1.length=j.Race.av.aD.length∧p7 j.Race.av.aD x.2.2.2.2.2.2.1)∧tn (pQ j.Race.ay h i d) x.2.2.2.2.2.2.2.2.2.2.2.2.2.2.2))∧(x.1=false→(x.2.1=(oi j h i d)∧ ¬ (oi j h i d)=0))) (fun (x:Bool×Int×(OA)×Nat×(OA)×Nat×(List RA)×(OA)×Nat×(OA)×Nat×(OA)×Nat×(OA)×Nat×(List cq))=>bif x.1 then [(zz x.2.2.1 x.2.2.2.1 j.Race.av.bW),(wg x.2.2.2.2.1 x.2.2.2.2.2.1 j.Race.av.aD x.2.2.2.2.2.2.1),(bD (bx aX.owns j.Race.av.aD x.2.2.2.2.2.2.1)),(yR x.2.2.2.2.2.2.2.1 x.2.2.2.2.2.2.2.2.1 j.Race.av.ag),(fB x.2.2.2.2.2.2.2.2.2.1 x.2.2.2.2.2.2.2.2.2.2.1 j.Race.bf),(fB x.2.2.2.2.2.2.2.2.2.2.2.1 x.2.2.2.2.2.2.2.2.2.2.2.2.1 j.Race.dp),(uZ x.2.2.2.2.2.2.2.2.2.2.2.2.2.1 x.2.2.2.2.2.2.2.2.2.2.2.2.2.2.1 (pQ j.Race.ay h i d) x.2.2.2.2.2.2.2.2.2.2.2.2.2.2.2),(bD (bx kM (pQ j.Race.ay h i d) x.2.2.2.2.2.2.2.2.2.2.2.2.2.2.2))] else []):=by
 have AC:=hin.race;have A6:=hin.race.line;have C3:=hin.race.hE;have DC:=hin.race.has;have Ck:=hin.race.hO;have B7:=hin.nf;have CI:=hin.np;refine cR kr Tryz.func8 U U fun w0 Q hQ hN=>?_
 try dsimp only
 refine aS bS 2 U<|dV U fun b2=>dV U fun b3=>AL U vC fun b4=>dD aj 6 [] (mc 2 U mn) U<|rS (CL (Df j kA kC az cA cC bA bC slA slC drA drC ha heA heC faA faC prA prC hin) (aP [3,4,5,6,7,8,9,10,11,12,13]) U)<|aS aj 3 U<|AL U RH fun b6=>eN U Tc U<|aq aj 10 ?_;refine bY U (aJ fun E=>?_) (aK fun E=>?_)
 ·refine aS aW 2 U<|rS (SX (aU (xs:=[]) (cs:=(cf.cells (cf.mk (bU.mk (aY.mk (aV.mk none 0 0)) 0 (aV.mk none 0 0) (aV.mk none 0 0) 0 0 0) (aV.mk none 0 0) (aV.mk none 0 0) 0 (aV.mk none 0 0)))) U U (aT Bo U)) U U)<|aS aj 1 U<|o8 U n8 U<|aq aj 4 ?_;refine LX hQ (false,(fU j),none,0,none,0,[],none,0,none,0,none,0,none,0,[]) [] [0] (mc 1 U mn) U (by rfl) U ?_ ?_
  ·rfl
  ·refine ⟨D5,fun _=>?_⟩;have e:=M7 (h:=h) (i:=i) (d:=d) E;exact ⟨e.symm,fun q=>E (e.symm.trans q)⟩
 refine cm aW 11 [] (mc 3 U mn) ?_;refine dC (xs:=[.tmp 27]) (cs:=[(vI h)]) U cM jW U U U U (by simp [Value.cells]) U U fun An=>?_;refine rS (CL (de.eq (j0 0 ((j.Race.ay.length:Int)-1) ([h]) (some ⟨An,0,none⟩) 1 (by (simp;done))) cp) (aw (aM 0 U U (by simp [br]) U)<|aA) U) ?_;refine aq aj 2 ?_;refine bJ (t:=31) U (aJ fun A1=>?_) (aK fun A1=>?_)
 ·refine aS aj 15 U<|rS (SX (aU (xs:=[]) (cs:=(cf.cells (cf.mk (bU.mk (aY.mk (aV.mk none 0 0)) 0 (aV.mk none 0 0) (aV.mk none 0 0) 0 0 0) (aV.mk none 0 0) (aV.mk none 0 0) 0 (aV.mk none 0 0)))) U U (aT Bo U)) U U)<|Ec U n8 U<|aq aj 4 ?_;refine LX hQ (false,2,none,0,none,0,[],none,0,none,0,none,0,none,0,[]) [] [0] (mc 2 U mn) U (by rfl) U ?_ ?_
  ·rfl
  ·exact rq<|pN (Ga (h:=h) (i:=i) (d:=d) E I)
 refine cm aj 6 [] (mc 4 U mn) ?_;refine dC (xs:=[.tmp 37]) (cs:=[(vI i)]) U cM jW U U U U (by simp [Value.cells]) U U fun A0=>?_;refine rS (CL (de.eq (j0 0 ((j.Race.bf.length:Int)-1) ([i]) (some ⟨A0,0,none⟩) 1 (by (simp;done))) cp) (aw (aM 0 U U (by simp [br]) U)<|aA) U) ?_;refine aq aj 4 ?_;refine bY U (aJ fun A2=>?_) (aK fun A2=>?_)
 ·refine aS aW 2 U<|rS (SX (aU (xs:=[]) (cs:=(cf.cells (cf.mk (bU.mk (aY.mk (aV.mk none 0 0)) 0 (aV.mk none 0 0) (aV.mk none 0 0) 0 0 0) (aV.mk none 0 0) (aV.mk none 0 0) 0 (aV.mk none 0 0)))) U U (aT Bo U)) U U)<|Yr U n8 U<|aq aj 4 ?_;refine LX hQ (false,2,none,0,none,0,[],none,0,none,0,none,0,none,0,[]) [] [0] (mc 3 U mn) U (by rfl) U ?_ ?_
  ·rfl
  ·exact rq<|pN (Ga (h:=h) (i:=i) (d:=d) E I)
 refine aq aW 4 ?_;have y:=(fI E).1;have DL:=(fI E).2;have A5:=(dF y).1;have A7:=(dF y).2;have A4:=(ep A5).2.head;unfold fj at A4;refine cm aW 2 [] (mc 2 U mn) ?_;refine cX (BW j kA kC az cA cC bA bC slA slC drA drC ha heA heC faA faC prA prC hin asm) (aP [7,8,9,10,11,12,13,14,15,16]) U fun A9 AO=>?_;obtain ⟨b,Ct,C1⟩:=A9
 try dsimp only
 have p:=AO
 try dsimp only at p
 refine aq aj 1 ?_;have Di:(gf j).length=j.Race.ay.length:=Az;obtain ⟨row,H⟩:=ax (gf j) ((h).toNat) I;obtain ⟨rowa,W⟩:=ax b ((h).toNat) I;have r:(zipWith rp (gf j) b)[(h).toNat]? =some (rp row rowa):=cD H W;refine rS (IA ((h).toNat) U (ak (n:=(gf j).length) 0 U (iO p)) wB dc I I)<|rS (gG ((h).toNat) 0 (vS rowa.1 row.length rowa.2) U bP (ak (n:=(gf j).length) 0 U (iO p)) r U dc U)<|aq aj 1 ?_;have Ci:row.length≤1000000:=xd E _ (by rw [ly E];exact aF H);refine rS (CL (FD row rowa.1 rowa.2 i asm) (aw (show ij _ (eE rowa.1 row).holds from (fun w hw=>(dK 1 U wj) w hw _ (bq H W (by simp [Mb]))))<|aA) U)<|aq aj 3 ?_;refine bY U (aJ fun X=>?_) (aK fun X=>?_)
 ·refine aS aW 2 U<|rS (SX (aU (xs:=[]) (cs:=(cf.cells (cf.mk (bU.mk (aY.mk (aV.mk none 0 0)) 0 (aV.mk none 0 0) (aV.mk none 0 0) 0 0 0) (aV.mk none 0 0) (aV.mk none 0 0) 0 (aV.mk none 0 0)))) U U (aT Bo U)) U U)<|MK U n8 U<|aq aj 4 ?_;refine LX hQ (false,8,none,0,none,0,[],none,0,none,0,none,0,none,0,[]) [] [0] (mc 5 U mn) U (by rfl) U ?_ ?_
  ·rfl
  ·exact rq<|pN (JB (h:=h) (i:=i) (d:=d) E ⟨I,I⟩ H X)
 refine aq aW 5 ?_;refine rS (LP (cf.cells (pP j.Race kA kC cA cC bA bC slA slC drA drC heA heC)) 7 U bP U U U)<|cX (PE j.Race kA kC az cA cC bA bC slA slC drA drC ha heA heC asm) (aP [9,10,11,12,13,14,15,16]) U fun Bx AP=>?_;obtain ⟨J,O,K,P,Z,L,R,M,S,N,T,F,G,AB⟩:=Bx
 try dsimp only
 obtain ⟨⟨Y,l⟩,D⟩:=AP
 try dsimp only at Y l D
 have B9:=D.1;refine AL U vC fun C0=>eN U n8 U<|cm aj 7 [] (mc 15 U mn) ?_;refine cX (zR d.bp.ab sgA sgC hsl) (aP [28]) U fun By Cp=>?_;obtain ⟨B,C⟩:=By
 try dsimp only
 refine aS aj 2 U<|iq (vs:=[(vS B d.bp.ab.length C)]) (cs':=(aO.cells (aO.mk d.Out d.cV d.Time (jR d.bp B C)))) (C':=[_,_,_,_,_,_,_,_,_,_,_,_,_,_,_,_,(cb b3 52 (aO.cells (aO.mk d.Out d.cV d.Time (jR d.bp B C)))),_,_,_,_,_,_,_,_,_,_,_,_,_]) 16 U U U VI U U U U U U U<|aq aj 3 ?_;obtain ⟨ht,AA⟩:=ax j.Race.ay ((h).toNat) I;obtain ⟨A,V⟩:=ax AB ((h).toNat) (by have:=D.1;omega);have v:(zipWith dQ j.Race.ay AB)[(h).toNat]? =some (dQ ht A):=cD AA V;have A8:=D.2 _ _ _ AA V;have DA:=(A7.fG ht (aF AA)).1;refine Po 9 AA V U U ?_
 try dsimp only
 refine cK bX 8 kr<|jZ 3 [] (mc 4 U mn) U<|dS (IA ((h).toNat) U (ak (n:=j.Race.ay.length) 11 U (e8 D.1)) mz dc I I)<|dS (gG ((h).toNat) 0 (vS A.1.1 ht.length A.1.2) U bP (ak (n:=j.Race.ay.length) 11 U (e8 D.1)) v U dc U)<|dP 2 [] (mc 18 U mn) ?_;obtain ⟨d0,s⟩:=ax ht ((i).toNat) I;obtain ⟨A3,f⟩:=ax A.2 ((i).toNat) I;have u:(zipWith ao.cells ht A.2)[(i).toNat]? =some (ao.cells d0 A3):=cD s f;refine dS (IA ((i).toNat) U (ak (n:=ht.length) 0 U (mY A8)) rV dc I I)<|cy<|ej (k:=(i).toNat) (o:=0) (vs:=(aO.cells (aO.mk d.Out d.cV d.Time (jR d.bp B C)))) (es':=(zipWith ao.cells (ht.set (i).toNat d) (A.2.set (i).toNat (B,C)))) (C':=[(C4 A.1.1 A.1.2 (ht.set (i).toNat d) (A.2.set (i).toNat (B,C))),_,_,_,_,_,_,_,_,_,_,_,_,_,_,_,_,_,_,_,_,_,_,_,_,_,_,_,_,_,_,_]) 0 U U U G4 U U U U u U dc (by exact q9 (c:=ao.cells) (m:=d) (a:=(B,C))) U<|aq aj 4 ?_;refine Wo (d':=d) (b':=(B,C)) 1 3 s f U U ?_;refine Rh (h':=(ht.set (i).toNat d)) (a':=(A.1,(A.2.set (i).toNat (B,C)))) 2 0 1 I (by have:=D.1;omega) U U ?_;rw [← uB AA,show zipWith dQ j.Race.ay AB=zipWith dQ (pQ j.Race.ay h i d) (AB.set (h).toNat (A.1,(A.2.set (i).toNat (B,C)))) from by rw [uB AA];exact (BQ AA V (by rw [AAG])).symm];replace D:=Wp (d:=d) (i:=i) (x:=(B,C)) D AA V;rw [show aV.mk F j.Race.ay.length G=aV.mk F ((pQ j.Race.ay h i d).length) G from by rw [z5]];have z:gI (wm j.Race h i d) _ _:=AC.put Y l D hsl;refine cm aW 2 [] (mc 1 U mn) ?_;refine rS (CL (F4 (wm j.Race h i d) J O Z K P L R M S N T (AB.set (h).toNat (A.1,(A.2.set (i).toNat (B,C)))) F G (by exact z)) (gN 17 U U<|aw (ak (n:=j.Race.av.bW.length) 2 U (by (rw [c3];rfl)))<|aw (ak (n:=j.Race.av.aD.length) 3 U (im Y))<|aw (dK 4 U kJ)<|aw (ak (n:=j.Race.av.ag.length) 5 U (by (rw [c3];rfl)))<|aw (ak (n:=j.Race.bf.length) 6 U (by (rw [c3];rfl)))<|aw (ak (n:=j.Race.dp.length) 7 U (by (rw [c3];rfl)))<|aw (ak (n:=(pQ j.Race.ay h i d).length) 8 U (e8 D.1))<|aw (lI 0 U D)<|aA) U) ?_;refine aq aj 3 ?_;refine bY U (aJ fun g=>?_) (aK fun g=>?_)
 ·refine aS aW 2 U<|rS (SX (aU (xs:=[]) (cs:=(cf.cells (cf.mk (bU.mk (aY.mk (aV.mk none 0 0)) 0 (aV.mk none 0 0) (aV.mk none 0 0) 0 0 0) (aV.mk none 0 0) (aV.mk none 0 0) 0 (aV.mk none 0 0)))) U U (aT Bo U)) U U)<|iq (vs:=(cf.cells (cf.mk (bU.mk (aY.mk (aV.mk none 0 0)) 0 (aV.mk none 0 0) (aV.mk none 0 0) 0 0 0) (aV.mk none 0 0) (aV.mk none 0 0) 0 (aV.mk none 0 0)))) (cs':=(cf.cells (cf.mk (bU.mk (aY.mk (aV.mk none 0 0)) 0 (aV.mk none 0 0) (aV.mk none 0 0) 0 0 0) (aV.mk none 0 0) (aV.mk none 0 0) 0 (aV.mk none 0 0)))) (C':=[_,_,_,_,_,_,_,_,_,_,_,_,_,_,(cb b4 32 (cf.cells (cf.mk (bU.mk (aY.mk (aV.mk none 0 0)) 0 (aV.mk none 0 0) (aV.mk none 0 0) 0 0 0) (aV.mk none 0 0) (aV.mk none 0 0) 0 (aV.mk none 0 0)))),_,_,_,_,_,_,_,_,_,_,_,_,_,_]) 14 U U U n8 U U U U U U U<|aq aj 4 ?_;refine LX hQ (false,60,none,0,none,0,[],none,0,none,0,none,0,none,0,[]) [] [0] (mc 14 U mn) U (by rfl) U ?_ ?_
  ·rfl
  ·exact rq<|pN (CA (h:=h) (i:=i) (d:=d) E ⟨I,I⟩ H X g)
 refine dD aW 5 [] (mc 1 U mn) U<|iq (vs:=(cf.cells (cf.mk (bU.mk (aY.mk (aV.mk J j.Race.av.bW.length O)) j.Race.av.g7 (aV.mk K j.Race.av.aD.length P) (aV.mk L j.Race.av.ag.length R) j.Race.av.b_ j.Race.av.e_ j.Race.av.di) (aV.mk M j.Race.bf.length S) (aV.mk N j.Race.dp.length T) j.Race.jB (aV.mk F ((pQ j.Race.ay h i d).length) G)))) (cs':=(cf.cells (cf.mk (bU.mk (aY.mk (aV.mk J j.Race.av.bW.length O)) j.Race.av.g7 (aV.mk K j.Race.av.aD.length P) (aV.mk L j.Race.av.ag.length R) j.Race.av.b_ j.Race.av.e_ j.Race.av.di) (aV.mk M j.Race.bf.length S) (aV.mk N j.Race.dp.length T) j.Race.jB (aV.mk F ((pQ j.Race.ay h i d).length) G)))) (C':=[_,_,_,_,_,_,_,_,_,_,_,_,_,_,(cb b4 32 (cf.cells (cf.mk (bU.mk (aY.mk (aV.mk J j.Race.av.bW.length O)) j.Race.av.g7 (aV.mk K j.Race.av.aD.length P) (aV.mk L j.Race.av.ag.length R) j.Race.av.b_ j.Race.av.e_ j.Race.av.di) (aV.mk M j.Race.bf.length S) (aV.mk N j.Race.dp.length T) j.Race.jB (aV.mk F ((pQ j.Race.ay h i d).length) G)))),_,_,_,_,_,_,_,_,_,_,_,_,_,_]) 14 U U U n8 U U U U U U U<|aq aj 4 ?_;refine LX hQ (true,0,J,O,K,P,Z,L,R,M,S,N,T,F,G,(AB.set (h).toNat (A.1,(A.2.set (i).toNat (B,C))))) [2,3,4,5,6,7,8,0] [0] (mc 14 U mn) U (by (show all _ _=true;simp only [AAS,eX,om,gE,lq,n4];rfl)) U ?_ ?_
 ·rfl
 ·exact ⟨fun _=>⟨Ju E ⟨I,I⟩ H X g,⟨Y,l⟩,D⟩,Q7⟩
end
section
open Go.RowKit
section
variable {E:fM} {ops:Array Oper} {Q:dk} {rest:List Oper} {D:List Deferred} {L:List (Nat×Value)} {C C1:List ar}
end
theorem AW {C:List ar}: ∀ {a b:List Nat} {X Y:List ar},m_ C a=some X→m_ C b=some Y→m_ C (a++b)=some (X++Y)
 |[],b,X,Y,h,h2=>by cases h;exact h2
 |i::a,b,X,Y,h,h2=>by
  unfold m_ at h;split at h
  ·rename_i A hA;split at h
   ·rename_i l hl;cases h;have ih:=AW hl h2;show (match C[i]? with
     |some A=>match m_ C (a++b) with
      |some l=>some (A::l)
      |none=>none
     |none=>none)=_
    rw [hA,ih];rfl
   ·cases h
  ·cases h
theorem KG {ops:Array Oper} {rest:List Oper} (X:List ar) (i1 i2:List Nat) (h1:m_ C i1=some X) (h2:m_ C i2=some C1) (h:RJ E ops Q rest D L (bD X::C1)) (hn:decide (i1++i2).Nodup=true:=by rfl):RJ E ops Q rest D L C:=fun a w hf hs=>h a w hf (St.tied (St.kT _ hn (j3 (AW h1 h2)) hs))
theorem wR {M A B:Type} {f:M→A→List B} {n:Nat} (h: ∀ m a,(f m a).length=n): ∀ {ms:List M} {asl:List A},∀ x∈zipWith f ms asl,x.length=n
 |[],asl,x,hx=>by simp at hx
 |m::ms,[],x,hx=>by simp at hx
 |m::ms,a::asl,x,hx=>by
  rw [u5] at hx;rcases bH.1 hx with rfl|hx
  ·exact h m a
  ·exact wR h x hx
theorem Rs (m:ao) (a:RA):(ao.cells m a).length=7:=rfl
theorem PC (m:List ao) (a:cq):(dQ m a).length=1:=rfl
theorem Wq (m:List Int) (a:RA):(rp m a).length=1:=rfl
end
section
open Go.RowKit
theorem MA {c:Code} (X:List ar) (i1 i2:List Nat) (h1:m_ C i1=some X) (h2:m_ C i2=some C1) (h:WJ E c Q D L (bD X::C1)) (hn:decide (i1++i2).Nodup=true:=by rfl):WJ E c Q D L C:=fun a w hf hs=>h a w hf (St.tied (St.kT _ hn (j3 (AW h1 h2)) hs))
end
section
open Go.RowKit
variable (a b:Int) (r:cN) (kA:OA) (kC:Nat) (cA:OA) (cC:Nat) (bA:OA) (bC:Nat) (slA:OA) (slC:Nat) (drA:OA)
theorem NY (drC:Nat) (heA:OA) (heC:Nat) (tA:OA) (tN tC:Nat) (gs gw:Nat) (m:k9) (g1:Nat) (hb:∀ p∈m,0≤p.2.Lo∧p.2.Lo≤p.2.Hi∧p.2.Hi≤30000000):
 de Tryz.prog 44 [(vI a),(vI b),(vP g1)] [(cb gw 98 (hP.cells (hP.mk (pP r kA kC cA cC bA bC slA slC drA drC heA heC) (aV.mk tA tN tC) (Value.map (some gs))))),(iu iV gs (bR fg m)),(cb g1 87 [(vP gw)])] (vI ((cd m a).Lo-(cd m b).Lo)):=by
 have A:=oz (i:=a) hb;have B:=oz (i:=b) hb;refine bg kr Tryz.func44 U U fun C Q hQ hN=>?_
 try dsimp only
 refine aS bS 6 U<|cK bX 16 kr<|jZ 1 [] (mr 2 U mn) U<|dS (SX (bK U U) U U)<|jZ 3 [] (mr 0 U mn) U<|dS (SX (mF (kV:=iV) (x:=a) (l:=m) (f:=fg) (z:=(aa.mk 0 0)) U U U rX (eD nZ) Kc (by exact mP 1 U)) U U)<|dS (SX (oW (v:=(vI (((lookup a m).getD (aa.mk 0 0)).Lo))) U U eB Du U) U U)<|jZ 1 [] (mr 2 U mn) U<|dS (SX (bK U U) U U)<|dP 3 [] (mr 0 U mn) ?_;refine dS (SX (mF (kV:=iV) (x:=b) (l:=m) (f:=fg) (z:=(aa.mk 0 0)) U U U rX (eD nZ) Kc (by exact mP 1 U)) U U)<|dS (SX (oW (v:=(vI (((lookup b m).getD (aa.mk 0 0)).Lo))) U U eB Du U) U U) ?_;unfold cd at A B;simp only [gO] at A B;refine dP 2 [] mn ?_;refine cy ?_;exact cr aj 3 hQ U U U
theorem S3 (az:List RA) (cA:OA) (cC:Nat) (bA:OA) (bC:Nat) (slA:OA) (slC:Nat) (drA:OA) (drC:Nat) (ha:List cq) (heA:OA) (heC:Nat) (hin:gI r az ha):
 lf Tryz.prog 18 [(vA (cf.cells (pP r kA kC cA cC bA bC slA slC drA drC heA heC)))] ((rd ig 3 2 fY)::(Dp r kA az cA bA slA drA ha heA)) (fun (x:(List RA)×(OA)×Nat)=>(vT [(vS x.2.1 ((lW r).length) x.2.2),(vI (eK r))])) (fun (x:(List RA)×(OA)×Nat)=>x.1.length=(lW r).length) (fun (x:(List RA)×(OA)×Nat)=>[(wq x.2.1 x.2.2 (lW r) x.1),(bD (bx z3 (lW r) x.1))]):=by
 have A9:=hin.line;have Fd:=hin.hE;have Fi:=hin.has;have Ct:=hin.hO;have Ci:=hin.draw;have Cx:=fJ (r:=r);refine cR kr Tryz.func18 U U fun w0 Q hQ hN=>?_
 try dsimp only
 refine aS bS 2 U<|dV U fun b2=>cm aj 7 [] (mc 0 U mn) ?_;refine cX (uL r kA kC az cA cC bA bC slA slC drA drC ha heA heC hin) (aP [1,2,3,4,5,6,7,8,9]) U fun y4 AC=>?_;obtain ⟨AO,EY,V,O,AP,AA,C3⟩:=y4;cases AO
 ·obtain ⟨v,he⟩:=AC.2 rfl
  try dsimp only at v he
  subst v
  try dsimp only [cond_true,cond_false,List.cons_append,List.nil_append]
  refine aS aj 3 U<|AL U Yn fun DC=>IN U Yq U U<|aq aj 10 ?_;refine bE U (aK fun b=>?_) (aJ fun b=>?_)
  ·exact absurd b he
  refine aq aW 3 ?_;have E:lW r=[]:=Nd he;have X:([]:List RA).length=(lW r).length:=by rw [E];rfl
  refine fT 29 1<|xz ?_;rw [show (own none 0 29 1 ([]:List (List Value)))=own none 0 29 1 (zipWith rp (lW r) []) from by rw [E];rfl,show bD []=bD (bx z3 (lW r) []) from by rw [E];rfl];refine aq aj 5 ?_;refine LX hQ ([],none,0) [1,0] [] mn U (by show all _ _=true;simp only [eX,om,vk,n4];rfl) U ?_ ?_
  ·first|rfl|(rw [E];rfl)|(rw [he,← E,c3];rfl)|(rw [he,E];rfl)
  ·exact X
 obtain ⟨he,GE⟩:=AC.1 rfl
 try dsimp only [cond_true,cond_false,List.cons_append,List.nil_append]
 have AB:=yp he;have Cp:=tv he;refine aS aj 3 U<|AL U Yn fun R=>IN U Yq U U<|aS aj 7 U<|rS (SX (ck (r:= .bool false) U U U nm) U U)<|dD aj 19 [] (mc 0 U mn) U<|rS (SX (bK U U) U U)<|cm aj 2 [] (mc 1 U mn) ?_;refine cX (IV O) (aA) U fun A1 C0=>?_
 try dsimp only
 refine cX (Cl (bI r) O A1 sd) (aP [5,0]) U fun B9 C1=>?_;obtain ⟨A0,A2⟩:=B9
 try dsimp only
 rw [show (bI r).length=(eg ((bI r).map (·.1))).length from by rw [iD,c3]];refine rS (FU U) ?_;refine cX (Mf (eg ((bI r).map (·.1))) A0 A2 (Value.func (.func 44) [].toArray [(vP R)].toArray) (fun u=>(cd (bI r) u).Lo) (iX [(cb V 98 (hP.cells (hP.mk (pP r kA kC cA cC bA bC slA slC drA drC heA heC) (aV.mk AP ((dL r).length) AA) (Value.map (some O))))),(iu iV O (bR fg (bI r))),(cb R 87 [(vP V)])]) (by intro B3 B7 _;exact kU (fi:=[]) (ca:=[(vP R)]) (jP (NY B3 B7 r kA kC cA cC bA bC slA slC drA drC heA heC AP ((dL r).length) AA O V (bI r) R (by first|assumption|omega)) (Rk 0 1 2 U U U U U U))) (by exact WX AB) (by rw [iD,c3];omega)) (aw (ak (n:=(eg ((bI r).map (·.1))).length) 0 U sm)<|aw (jH (Rk 3 6 2 U U U U U U))<|aA) U fun CI C2=>?_;obtain ⟨DA,EQ⟩:=CI
 try dsimp only
 have Fn:(gU (fun u=>(cd (bI r) u).Lo) (eg ((bI r).map (·.1)))).length=(bI r).length:=by rw [qm,iD,c3]
 have y:JQ (fun u=>(cd (bI r) u).Lo) (gU (fun u=>(cd (bI r) u).Lo) (eg ((bI r).map (·.1)))):=Cz;refine aq aj 5 ?_;refine eC 29 1<|mj ?_;have H:(0≤(gU (fun u=>(cd (bI r) u).Lo) (eg ((bI r).map (·.1)))).length)∧(([]:List RA).length=([]:List (List Int)).length)∧(oJ (cd (bI r)) ((gU (fun u=>(cd (bI r) u).Lo) (eg ((bI r).map (·.1)))).take 0) ([]:List (List Int)) (-1))∧(-1≤(-1)∧(-1)≤30000000):=by exact ⟨c4 _,rfl,S9,I⟩
 refine bu (ι:={z:Nat×(List (List Int))×(List RA)×(OA)×Nat×Int // (z.1≤(gU (fun u=>(cd (bI r) u).Lo) (eg ((bI r).map (·.1)))).length)∧(z.2.2.1.length=z.2.1.length)∧(oJ (cd (bI r)) ((gU (fun u=>(cd (bI r) u).Lo) (eg ((bI r).map (·.1)))).take z.1) z.2.1 z.2.2.2.2.2)∧(-1≤z.2.2.2.2.2∧z.2.2.2.2.2≤30000000)}) [1,4,29,30] [2,3,5,6,7,8,9,11,12,13,14,15,16,17,18,19] U U (fun z=>[(6,(vS z.1.2.2.2.1 z.1.2.1.length z.1.2.2.2.2.1)),(7,(vI z.1.2.2.2.2.2)),(31,(vI (z.1.1:Int)))]) (fun z=>[(bD (bx z3 z.1.2.1 z.1.2.2.1)),(wq z.1.2.2.2.1 z.1.2.2.2.2.1 z.1.2.1 z.1.2.2.1)]) (fun _=>rfl) (fun _=>rfl) (fun z=>(gU (fun u=>(cd (bI r) u).Lo) (eg ((bI r).map (·.1)))).length-z.1.1) ⟨(0,([]:List (List Int)),([]:List RA),none,0,(-1)),H⟩ (aN U) (aB [2,3,5,6,7,8,9,11,12,13,14,15,16,17,18,19,0,1]) ?_;clear H;rintro ⟨⟨i,G,gz,a,c,last⟩,⟨Y,C,A,Z⟩⟩ J37 T
 try dsimp only at Y C A Z
 try dsimp only
 have A6:G.length≤12:=by have:=JC A;omega
 have Eq:(G++[([]:List Int)]).length=G.length+1:=by simp
 have Ck:(gz++[((none,0):RA)]).length=gz.length+1:=by simp
 refine aq bS 6 ?_;refine bE U (aG fun A3=>?_) (aH fun A3=>?_)
 ·refine aS aW 1 U<|aq fD 4 ?_;have A6:G.length≤12:=by have:=JC A;omega
  refine aq aW 7 ?_;have H:(0≤G.length):=by exact c4 _
  refine bu (ι:={z:Nat // (z≤G.length)}) [1,6,66,67] [0,1,3,4,5,6,7,8,9,10,11,12,13,14,15,17] U U (fun z=>[(68,(vI (z.1:Int)))]) (fun z=>[(bD (bx z3 (pD G z.1) gz))]) (fun _=>rfl) (fun _=>rfl) (fun z=>G.length-z.1) ⟨0,H⟩ (aN U) (aB [0,1,3,4,5,6,7,8,9,10,11,12,13,14,15,17,16]) ?_;clear H;rintro ⟨j,An⟩ J65 d
  try dsimp only
  refine aq bS 6 ?_;refine bE U (aG fun A4=>?_) (aH fun A4=>?_)
  ·refine aS aW 1 U<|aq fD 3 ?_;have A8:G.length≤j:=by omega
   have W:=Fg A.ok;rw [c5 I] at W;have E:G.map eg=lW r:=ET he (yF W.1 (yA.trans f_)) W.2;have X:gz.length=(lW r).length:=by rw [← E,c3];omega
   rw [HP A8,E,← MY,E];refine aq aW 7 ?_;refine LX hQ (gz,a,c) [15,16] [] mn U (by show all _ _=true;simp only [eX,om,vk,n4];rfl) U ?_ ?_
   ·first|rfl|(rw [E];rfl)|(rw [he,← E,c3];rfl)|(rw [he,E];rfl)
   ·exact X
  refine aq aW 5 ?_;obtain ⟨cg,B⟩:=ax G j I;obtain ⟨cga,D⟩:=ax gz j I;have F:(zipWith rp G gz)[j]? =some (rp cg cga):=cD B D;refine HR (f:=z3) 16 (MC B) D U U U ?_
  try dsimp only
  refine aS aW 1 U<|rS (IA j U (ak (n:=G.length) 17 U (iO C)) wB dc I I)<|rS (gG j 0 (vS cga.1 cg.length cga.2) U bP (ak (n:=G.length) 17 U (iO C)) F U dc U)<|aq aj 5 ?_;refine kx 0 U U U U (Da cg cga.1 cga.2 (by have:=DW A (aF B);omega)) U mu U (fun msrt w=>?_)
  try dsimp only
  refine aq aj 7 ?_;obtain rfl:=tF w.1 w.2;refine S0 (f:=z3) (ms:=pD G j) (m:=eg cg) 1 0 (by rw [H7];omega) D U U U ?_;rw [Ij B];have t:(vI (((j+1):Nat):Int))=(vI ((j:Int)+1)):=by exact cI I
  refine aL (d ⟨(j+1),(by first|omega|(simp only [];omega))⟩ _ _ _ U os (cx 4<|aQ U t<|cS.nil _) (aB [1,2,3,4,5,6,7,8,9,10,11,12,13,14,15,16,0]))
 refine aq aW 6 ?_;obtain ⟨x,hx⟩:=ax (gU (fun u=>(cd (bI r) u).Lo) (eg ((bI r).map (·.1)))) i I;have By:=bw iC hx;refine rS (IA i U (ak (n:=(gU (fun u=>(cd (bI r) u).Lo) (eg ((bI r).map (·.1)))).length) 0 U sm) cM dc I I)<|rS (gG i 0 (vI x) U bP (ak (n:=(gU (fun u=>(cd (bI r) u).Lo) (eg ((bI r).map (·.1)))).length) 0 U sm) By U dc U)<|dD aj 6 [] (mc 2 U mn) U<|rS (SX (bK U U) U U)<|cm aj 2 [] (mc 3 U mn) ?_;have Bx:=oz (i:=x) AB;refine aS aj 1 U<|rS (SX (mF (kV:=iV) (x:=x) (l:=(bI r)) (f:=fg) (z:=(aa.mk 0 0)) U U U rX (eD nZ) Kc (by exact au 6 U)) U U)<|AL U dA fun DL=>eN U cJ U<|aq aj 5 ?_;rw [show ((lookup x (bI r)).getD (aa.mk 0 0))=(cd (bI r) x) from rfl];refine cm aj 6 [] (mc 0 U mn) ?_;refine bE U (aG fun N=>?_) (aH fun N=>?_)
 ·refine aq aW 3 ?_;have FS:1≤G.length:=TB Bx.1 A N;refine aq aW 8 ?_;have A7:(G.length-1)<G.length:=by first|omega|(simp;done)
  obtain ⟨cg,B⟩:=ax G (G.length-1) I;obtain ⟨cga,D⟩:=ax gz (G.length-1) I;have F:(zipWith rp G gz)[(G.length-1)]? =some (rp cg cga):=cD B D;refine HR (f:=z3) 17 B D U U U ?_
  try dsimp only
  refine aS aW 5 U<|rS (IA (G.length-1) U (ak (n:=G.length) 19 U (iO C)) wB dc I I)<|rS (gG (G.length-1) 0 (vS cga.1 cg.length cga.2) U bP (ak (n:=G.length) 19 U (iO C)) F U dc U)<|aq aj 1 ?_;have A5:cg.length≤12:=(dY.1 (show cg∈G++[[]] from by first|exact aF B|exact m1 _ (aF B))).elim (fun q=>by have:=DW A q;omega) (fun q=>by simp at q;subst q;simp);refine dC (xs:=[.tmp 57]) (cs:=[(vI x)]) U cM jW U U U U (by simp [Value.cells]) U U fun Dw=>?_;refine cZ (es2:=(map iC (cg++[x]))) (m':=(cg++[x]).length) 1 U U U pI U U sm (aM (es:=map iC [x]) 0 U U (by simp [br]) U) (j4 _) os (by first|(simp only [maxLen];omega)|(simp [maxLen];omega)) sm sm U fun K M=>?_
  try dsimp only
  refine rS (IA (G.length-1) U (ak (n:=G.length) 20 U (iO C)) wB dc I I)<|ej (k:=(G.length-1)) (o:=0) (vs:=[(vS K ((cg++[x]).length) M)]) (es':=(zipWith rp (G.set (G.length-1) (cg++[x])) (gz.set (G.length-1) (K,M)))) (C':=[_,_,_,_,_,_,_,_,_,_,_,_,_,_,_,_,_,_,_,_,(wq a c (G.set (G.length-1) (cg++[x])) (gz.set (G.length-1) (K,M)))]) 20 U U U wM U U U U F U dc (by exact q9 (c:=rp) (m:=(cg++[x])) (a:=(K,M))) U<|JO (f:=z3) (ms:=G) (asl:=gz) (m:=(cg++[x])) (a:=(K,M)) 2 1 I I U U U<|dD aj 6 [] (mc 2 U mn) U<|rS (MX U)<|aq aj 8 ?_;have p:(vS a ((G.set (G.length-1) (cg++[x])).length) c)=(vS a G.length c):=by rw [AAG]
  have s:(vI (((i+1):Nat):Int))=(vI ((i:Int)+1)):=by exact cI I
  refine aL (T ⟨((i+1),(G.set (G.length-1) (cg++[x])),(gz.set (G.length-1) (K,M)),a,c,(max last ((cd (bI r) x).Hi))),⟨I,by simp;omega,by first|exact vX I hx B A N|exact uT I (fun u _=>(oz (i:=u) AB).2.1) y hx B A N,dso⟩⟩ _ _ _ U os (cx 4<|aQ U p<|cS.cons U<|aQ U s<|cS.nil _) (aB [3,4,5,6,7,8,9,10,11,12,13,14,15,16,17,18,0,19]))
 refine aq aW 2 ?_;refine dC (xs:=[.const (vS none 0 0)]) (cs:=[(vS none 0 0)]) U wB M8 U U U U (by simp [Value.cells]) U U fun Di=>?_;refine cZ (es2:=(zipWith rp (G++[[]]) (gz++[(none,0)]))) (m':=(G++[[]]).length) 19 rfl rfl rfl YF rfl rfl (iO C).symm (aM (es:=zipWith rp [[]] [(none,0)]) 0 rfl rfl (by intro e he;simp [rp] at he;subst he;rfl) rfl) (Je _ _) I (by simp only [maxLen];omega) (B6 I) (by simp;omega) rfl fun P S=>?_
 try dsimp only
 refine fT 3 1<|NV (Y':=bx z3 (G++[[]]) (gz++[(none,0)])) 19 0 U U (Ak I U)<|aq aj 12 ?_;have A7:((G++[[]]).length-1)<(G++[[]]).length:=by first|omega|(simp;done)
 obtain ⟨cg,B⟩: ∃ y_,(G++[[]])[((G++[[]]).length-1)]? =some y_:=⟨(G++[[]])[((G++[[]]).length-1)]'I,fh _⟩;obtain ⟨cga,D⟩: ∃ y_,(gz++[(none,0)])[((G++[[]]).length-1)]? =some y_:=⟨(gz++[(none,0)])[((G++[[]]).length-1)]'I,fh _⟩;have F:(zipWith rp (G++[[]]) (gz++[(none,0)]))[((G++[[]]).length-1)]? =some (rp cg cga):=cD B D;refine HR (f:=z3) 0 B D U U U ?_
 try dsimp only
 refine aq aW 5 ?_;refine rS (IA ((G++[[]]).length-1) U (ak (n:=(G++[[]]).length) 20 U (iO (by simp;omega))) wB dc I I) ?_;refine rS (gG ((G++[[]]).length-1) 0 (vS cga.1 cg.length cga.2) U bP (ak (n:=(G++[[]]).length) 20 U (iO (by simp;omega))) F U dc U) ?_;refine aq aj 1 ?_;have A5:cg.length≤12:=(dY.1 (show cg∈G++[[]] from by first|exact aF B|exact m1 _ (aF B))).elim (fun q=>by have:=DW A q;omega) (fun q=>by simp at q;subst q;simp);refine dC (xs:=[.tmp 57]) (cs:=[(vI x)]) U cM jW U U U U (by simp [Value.cells]) U U fun Do=>?_;refine cZ (es2:=(map iC (cg++[x]))) (m':=(cg++[x]).length) 1 U U U pI U U sm (aM (es:=map iC [x]) 0 U U (by simp [br]) U) (j4 _) os (by first|(simp only [maxLen];omega)|(simp [maxLen];omega)) sm sm U fun J L=>?_
 try dsimp only
 refine rS (IA ((G++[[]]).length-1) U (ak (n:=(G++[[]]).length) 21 U (iO (by simp;omega))) wB dc I I) ?_;refine ej (k:=((G++[[]]).length-1)) (o:=0) (vs:=[(vS J ((cg++[x]).length) L)]) (es':=(zipWith rp ((G++[[]]).set ((G++[[]]).length-1) (cg++[x])) ((gz++[(none,0)]).set ((G++[[]]).length-1) (J,L)))) (C':=[_,_,_,_,_,_,_,_,_,_,_,_,_,_,_,_,_,_,_,_,_,(wq P S ((G++[[]]).set ((G++[[]]).length-1) (cg++[x])) ((gz++[(none,0)]).set ((G++[[]]).length-1) (J,L)))]) 21 U U U wM U U U U F U dc (by exact q9 (c:=rp) (m:=(cg++[x])) (a:=(J,L))) U<|JO (f:=z3) (ms:=(G++[[]])) (asl:=(gz++[(none,0)])) (m:=(cg++[x])) (a:=(J,L)) 2 1 I I U U U<|dD aj 6 [] (mc 3 U mn) U<|rS (MX U)<|aq aj 8 ?_;have g:(vS P (((G++[[]]).set ((G++[[]]).length-1) (cg++[x])).length) S)=(vS P ((G++[[]]).length) S):=by rw [AAG]
 have h:(vI (((i+1):Nat):Int))=(vI ((i:Int)+1)):=by exact cI I
 refine aL (T ⟨((i+1),((G++[[]]).set ((G++[[]]).length-1) (cg++[x])),((gz++[(none,0)]).set ((G++[[]]).length-1) (J,L)),P,S,(max last ((cd (bI r) x).Hi))),⟨I,by simp;omega,by first|exact vX I hx B A N|exact uT I (fun u _=>(oz (i:=u) AB).2.1) y hx B A N,dso⟩⟩ _ _ _ U os (cx 4<|aQ U g<|cS.cons U<|aQ U h<|cS.nil _) (aB [4,5,6,7,8,9,10,11,12,13,14,15,16,17,18,19,0,20]))
end
section
open Go.RowKit
theorem P8 (i:Int) (p:c_) (sq:Int) (g1:Nat) (j:dy) (kA:OA) (kC:Nat) (az:List RA) (cA:OA) (cC:Nat) (bA:OA) (bC:Nat) (slA:OA) (slC:Nat) (drA:OA) (drC:Nat) (ha:List cq) (heA:OA) (heC:Nat) (faA:OA) (faC:Nat) (prA:OA) (prC g2:Nat) (hin:jA j az ha) (hok:fU j=0) (hp: ∃ i:Nat,j.bM[i]? =some p):
 de Tryz.prog 47 [(vI i),(vA (c_.cells p)),(vP g1),(vP g2)] ((cb g1 3 [(vI sq)])::((BT j kA az cA bA slA drA ha heA faA prA)++[(cb g2 76 (dq.cells (dq.mk (rL j kA kC cA cC bA bC slA slC drA drC heA heC faA faC prA prC))))])) (vB (Dr j sq p)):=by
 refine bg kr Tryz.func47 U U fun C Q hQ hN=>?_
 try dsimp only
 refine aS bS 2 U<|dV U fun B=>cm aj 10 [0,1] (mc 0 U (mr 1 U mn)) ?_;refine cz (t:=11) U (aG fun A=>?_) (aH fun A=>?_)
 ·refine cr aj 10 hQ U U ?_
  (rw [Sn A];done)
 refine dD aj 3 [0,1] (mr 12 U (mc 0 U mn)) U<|rS (CL (Cb j kA kC az cA cC bA bC slA slC drA drC ha heA heC faA faC prA prC i p hin hok hp) (aP [2,3,4,5,6,7,8,9,10,11]) U)<|cr aj 6 hQ U U ?_
 (rw [MQ A];done)
theorem Rd (j:dy) (kA:OA) (kC:Nat) (az:List RA) (cA:OA) (cC:Nat) (bA:OA) (bC:Nat) (slA:OA) (slC:Nat) (drA:OA) (drC:Nat) (ha:List cq) (heA:OA) (heC:Nat) (faA:OA) (faC:Nat) (prA:OA) (prC:Nat) (sq:Int) (hin:jA j az ha):
 de Tryz.prog 19 [(vA (kp.cells (rL j kA kC cA cC bA bC slA slC drA drC heA heC faA faC prA prC))),(vI sq)] ((rd ig 3 2 fY)::(BT j kA az cA bA slA drA ha heA faA prA)) (vT [(vI (vl j sq)),(vI (tT j sq))]):=by
 have R:=hin.race;have L:=hin.race.line;have W:=hin.race.hE;have X:=hin.race.has;have S:=hin.race.hO;have O:=hin.nf;have P:=hin.np;refine bg kr Tryz.func19 U U fun d Q hQ hN=>?_
 try dsimp only
 refine aS bS 2 U<|dV U fun c=>sR U U fun E=>dD aj 7 [] (mc 1 U mn) U<|rS (CL (Df j kA kC az cA cC bA bC slA slC drA drC ha heA heC faA faC prA prC hin) (aP [2,3,4,5,6,7,8,9,10,11,12]) U)<|aS aj 3 U<|AL U RH fun F=>eN U Tc U<|aq aj 10 ?_;refine bY U (aJ fun A=>?_) (aK fun A=>?_)
 ·refine aq aW 8 ?_;refine Q2 hQ U U U U ?_
  (have e:=LC (s:=sq) A;rw [e.1,e.2];done)
 refine cm aW 11 [0,1] (mc 2 U (mc 1 U mn)) ?_;refine dC (xs:=[.tmp 22]) (cs:=[(vI sq)]) U cM jW U U U U (by simp [Value.cells]) U U fun G=>?_;refine rS (CL (de.eq (j0 0 ((j.Race.bf.length:Int)-1) ([sq]) (some ⟨G,0,none⟩) 1 (by (simp;done))) cp) (aw (aM 0 U U (by simp [br]) U)<|aA) U) ?_;refine aq aj 3 ?_;refine bY U (aJ fun H=>?_) (aK fun H=>?_)
 ·refine aq aW 7 ?_;refine Q2 hQ U U U U ?_
  (have e:=Mr (s:=sq) A I;rw [e.1,e.2];done)
 refine cm aW 6 [] (mc 3 U mn) ?_;refine rS (FU U) ?_;refine cX (Ja j.bM prA prC (Value.func (.func 47) [].toArray [(vP E),(vP F)].toArray) (fun D B=>(Dr j sq B)) (iX [(cb E 3 [(vI sq)]),(gQ kA j.Race.av.bW),(pb cA j.Race.av.aD az),(iX (bx aX.lG j.Race.av.aD az)),(oG bA j.Race.av.ag),(eE slA j.Race.bf),(eE drA j.Race.dp),(qZ heA j.Race.ay ha),(iX (bx nu j.Race.ay ha)),(oO faA j.bB),(qC prA j.bM),(cb F 76 (dq.cells (dq.mk (rL j kA kC cA cC bA bC slA slC drA drC heA heC faA faC prA prC))))]) (by intro D B M;exact kU (fi:=[]) (ca:=[(vP E),(vP F)]) (jP (P8 D B sq E j kA kC az cA cC bA bC slA slC drA drC ha heA heC faA faC prA prC F asm asm (by (obtain ⟨b,_,K⟩:=M;exact ⟨b,K⟩))) (aP [0,1,2,3,4,5,6,7,8,9,10,11]))) asm) (gN 14 rfl rfl<|aw (jH (aP [2,5,6,7,8,9,10,11,12,13,14,1]))<|aA) rfl fun N T=>?_;obtain ⟨AA,V⟩:=N
 try dsimp only
 refine aq aj 6 ?_;have C:=(fI A).2;have Z:=C.np;have J:=C.vW;have Y:(jX (jk j.bM fun _ p=>Dr j sq p) j.bM.length).length≤8:=c6 rP I;have AB:=Vk (a:= -(((jX (jk j.bM fun _ p=>Dr j sq p) j.bM.length).length:Nat):Int)) ⟨I,I⟩ J;refine aS aj 1 U<|rS (NG U ⟨I,I⟩)<|dD aj 2 [] (mc 4 U mn) U<|rS (BI U (nq AB))<|aq aj 5 ?_;refine Q2 hQ U U U U ?_
 (have e:=NL (s:=sq) A I;rw [e.1,e.2];done)
end
section
open Go.RowKit
theorem DM (G:List (List Int)) (H:List (List Int)) (gz:List RA) (gA:OA) (gC:Nat) (hz:List RA) (hA:OA) (hC:Nat) (h1:G.length≤1000000) (h2:H.length≤1000000) (h3: ∀ l∈G,l.length≤1000000) (h4: ∀ l∈H,l.length≤1000000) (hgz:gz.length=G.length) (hhz:hz.length=H.length):
 de Tryz.prog 21 [(vS gA G.length gC),(vS hA H.length hC)] [(UM gA G gz),(iX (bx Mb G gz)),(UM hA H hz),(iX (bx Mb H hz))] (vB (decide (G=H))):=by
 refine bg kr Tryz.func21 U U fun M Q hQ hN=>?_
 try dsimp only
 refine aq bS 15 ?_;refine bY U (aJ fun hl=>?_) (aK fun hl=>?_)
 ·exact cr aW 6 hQ rfl rfl<|cB (bj (fun e=>by subst e;omega)).symm
 refine aq aW 9 ?_;have A:(0≤G.length)∧(G.take 0=H.take 0):=by exact ⟨c4 _,rfl⟩
 refine bu (ι:={z:Nat // (z≤G.length)∧(G.take z=H.take z)}) [0,1] [0,1,2,3] U U (fun z=>[(5,(vI (z.1:Int)))]) (fun z=>[]) (fun _=>rfl) (fun _=>rfl) (fun z=>G.length-z.1) ⟨0,A⟩ (aN U) (aB [0,1,2,3]) ?_;clear A;rintro ⟨i,⟨J,B⟩⟩ J7 AA
 try dsimp only
 refine aq bS 9 ?_;refine bE U (aG fun F=>?_) (aH fun F=>?_)
 ·exact aS aW 1 U<|cr fD 8 hQ U U<|cB (cT (iH I B I)).symm
 refine aS aW 5 U<|cK bX 10 kr<|dP 2 [] mn ?_;obtain ⟨x,hx⟩:=ax G i I;obtain ⟨xa,D⟩:=ax gz i I;have K:(zipWith rp G gz)[i]? =some (rp x xa):=cD hx D;refine dS (IA i U (au 0 U) wB dc I I)<|dS (gG i 0 (vS xa.1 x.length xa.2) U bP (au 0 U) K U dc U)<|dP 2 [] mn ?_;obtain ⟨y,hy⟩:=ax H i I;obtain ⟨ya,E⟩:=ax hz i I;have L:(zipWith rp H hz)[i]? =some (rp y ya):=cD hy E;refine dS (IA i U (au 2 U) wB dc I I)<|dS (gG i 0 (vS ya.1 y.length ya.2) U bP (au 2 U) L U dc U)<|dS (CL (tx x xa.1 xa.2 y ya.1 ya.2 (by exact h3 x (aF hx)) (by exact h4 y (aF hy))) (aw (show ij _ (eE xa.1 x).holds from (ct 1 U (bq hx D (by simp [Mb]))))<|aw (show ij _ (eE ya.1 y).holds from (ct 3 U (bq hy E (by simp [Mb]))))<|aA) U)<|iR 1 U<|cy<|aq aj 2 ?_;refine bY U (aJ fun h=>?_) (aK fun h=>?_)
 ·exact cr aW 6 hQ U U<|cB (bj (kg hx hy h)).symm
 refine aq aW 8 ?_;have C:(vI (((i+1):Nat):Int))=(vI ((i:Int)+1)):=by exact cI I
 refine aL (AA ⟨(i+1),⟨I,iS B hx hy h⟩⟩ _ _ _ U os (cS.cons U<|cS.cons U<|aQ U C<|cS.nil _) (aB [0,1,2,3]))
end
section
open Go.RowKit
theorem j1 (x y:Int):
 de Tryz.prog 16 [(vI x),(vI y)] [] (vA (aa.cells (aa.mk x y))):=by
 refine bg kr Tryz.func16 U U fun B Q hQ hN=>?_
 try dsimp only
 refine aS bS 2 U<|AL U dA fun A=>aS aj 6 U<|rS (SX (aU (xs:=[(0,.tmp 5),(1,.tmp 6)]) (cs:=(aa.cells (aa.mk x y))) U U (aT gP U)) U U)<|eN U cJ U<|aq aj 3 ?_;exact GG hQ [0] (mc 0 U mn) U U
theorem B2 (ts:List ai) (tsA:OA) (tsC:Nat) (f:Int) (hlen:ts.length≤1000) (hside: ∀ x∈ts,0≤x.gp∧x.gp≤255) (hl1:1≤ts.length):
 lf Tryz.prog 17 [(vA (aY.cells (aY.mk (aV.mk tsA ts.length tsC)))),(vI f)] [(gQ tsA ts)] (fun (x:(OA)×Nat×(List RA)×(OA)×Nat)=>(vT [(vA (bU.cells (bU.mk (aY.mk (aV.mk tsA ts.length tsC)) f (aV.mk x.1 1 x.2.1) (aV.mk x.2.2.2.1 ((eM (min (ts.length-1) 6)).length) x.2.2.2.2) 0 0 0))),(vB (decide (dU (a_.mk ts f [eU] (eM (min (ts.length-1) 6)) 0 0 0)=0)))])) (fun (x:(OA)×Nat×(List RA)×(OA)×Nat)=>x.2.2.1.length=1∧dW (a_.mk ts f [eU] (eM (min (ts.length-1) 6)) 0 0 0) x.2.2.1) (fun (x:(OA)×Nat×(List RA)×(OA)×Nat)=>[(own x.1 x.2.1 109 2 (zipWith aX.cells [eU] x.2.2.1)),(bD (bx aX.owns [eU] x.2.2.1)),(yR x.2.2.2.1 x.2.2.2.2 (eM (min (ts.length-1) 6)))]):=by
 refine cR kr Tryz.func17 U U fun V Q hQ hN=>?_
 try dsimp only
 refine aS bS 2 U<|dV U fun T=>AL U Sa fun AA=>cm aj 7 [] (mc 1 U mn) ?_;refine rS (SX (aU (xs:=[]) (cs:=(dj.cells (dj.mk 0 (aa.mk 0 0)))) U U (aT XU U)) U U)<|dC (xs:=[.tmp 10]) (cs:=(dj.cells (dj.mk 0 (aa.mk 0 0)))) U po vd U U U U (by simp [Value.cells,dj.aC]) U U fun B=>rS (SX (aU (xs:=[(1,.tmp 11)]) (cs:=(dB.cells (dB.mk 0 (aV.mk (some ⟨B,0,none⟩) 1 1)))) U U (aT X7 U)) U U)<|dC (xs:=[.tmp 12]) (cs:=(dB.cells (dB.mk 0 (aV.mk (some ⟨B,0,none⟩) 1 1)))) U xK zK U U U U (by simp [Value.cells,dB.aC]) U U fun E=>rS (SX (aU (xs:=[(0,.tmp 8),(1,.tmp 9),(2,.tmp 13)]) (cs:=(bU.cells (bU.mk (aY.mk (aV.mk tsA ts.length tsC)) f (aV.mk (some ⟨E,0,none⟩) 1 1) (aV.mk none 0 0) 0 0 0))) U U (aT aaq U)) U U)<|AL U Sa fun S=>?_;refine g0 (es:=(eU.bo.map dj.cells)) (C':=[_,_,(Uk (some ⟨B,0,none⟩) 1 eU.bo),_,_,_]) 2 U (uA dj.aC _) U (by show _≤maxLen;exact c6 (m:=10) (show (1:Nat)≤10 by decide) dc) U ?_;refine g0 (es:=(zipWith aX.cells [eU] [((some ⟨B,0,none⟩),1)])) (C':=[_,(own (some ⟨E,0,none⟩) 1 109 2 (zipWith aX.cells [eU] [((some ⟨B,0,none⟩),1)])),_,_,_,_]) 1 U (by intro x hx;change x∈[aX.cells eU ((some ⟨B,0,none⟩),1)] at hx;rw [bT.1 hx];rfl) U (by show _≤maxLen;exact c6 (m:=10) (show (1:Nat)≤10 by decide) dc) U ?_;refine xz<|Us (X:=[]) (X':=bx aX.owns [eU] [((some ⟨B,0,none⟩),1)]) 0 3 U U U ?_;have D:dW (lg ts f) [((some ⟨B,0,none⟩),1)]:=MG I hside (c9 _);refine o8 U Nw U<|aq aj 9 ?_;refine eC 113 4 ?_;have C:(0≤(min (ts.length-1) 6)):=by exact c4 _
 have L:(vI ((0:Int)+1))=(vI 1):=by exact cI I
 refine bu (ι:={z:Nat×(OA)×Nat // (z.1≤(min (ts.length-1) 6))}) [2,4,6] [1,3,4,5,6] U U (fun z=>[(7,(vI ((z.1.1:Int)+1)))]) (fun z=>[(yR z.1.2.1 z.1.2.2 (eM z.1.1)),(cb S 28 (bU.cells (bU.mk (aY.mk (aV.mk tsA ts.length tsC)) f (aV.mk (some ⟨E,0,none⟩) ([eU].length) 1) (aV.mk z.1.2.1 ((eM z.1.1).length) z.1.2.2) 0 0 0)))]) (fun _=>rfl) (fun _=>rfl) (fun z=>(min (ts.length-1) 6)-z.1.1) ⟨(0,none,0),C⟩ (aQ U L<|cS.nil _) (aB [1,3,4,5,6,0,2]) ?_;clear C;rintro ⟨⟨k,ba,bc⟩,F⟩ J11 AB
 try dsimp only at F
 try dsimp only
 have P:=mB (n:=k);refine cm bS 9 [] (mc 3 U mn) ?_;refine cz (t:=20) U (aG fun N=>?_) (aH fun N=>?_)
 ·refine aS aj 9 U<|aq fD 3 ?_;obtain rfl:k=(min (ts.length-1) 6):=by omega
  have A:dW (a_.mk ts f [eU] (eM (min (ts.length-1) 6)) 0 0 0) [((some ⟨B,0,none⟩),1)]:=D;refine cP bX [4] [] [] [0,1,3,4,5,6] [] U U U U U<|eS U (LW 5 U bP U U)<|eS U (LW 5 U bP U U)<|eS U (CL (wo (a_.mk ts f ([eU]) (eM (min (ts.length-1) 6)) 0 0 0) tsA tsC ([((some ⟨B,0,none⟩),1)]) (some ⟨E,0,none⟩) 1 ba bc (by exact A)) (gN 3 U U<|aw (ak (n:=([eU]).length) 1 U U)<|aw (dK 0 U kJ)<|aw (ak (n:=(eM (min (ts.length-1) 6)).length) 4 U sm)<|aA) U)<|eS U (BI U nt)<|eS U (AG U)<|dI U<|bQ U fun T24 K=>Ec U Nw U<|bG (K _ _ (aB [0,1,3,4,5,6]) ?_);refine eJ U<|aq jE 2 ?_;refine LX hQ ((some ⟨E,0,none⟩),1,[((some ⟨B,0,none⟩),1)],ba,bc) [1,0,5] [0] (mc 2 U mn) U (by simp only [eX,om,gE,n4];rfl) U ?_ ?_
  ·first|rfl|(rw [mB];rfl)
  ·exact ⟨U,A⟩
 refine cm aj 7 [] (mc 6 U mn) ?_;refine bE U (aG fun O=>?_) (aH fun O=>?_)
 ·refine aS aW 1 U<|aq fD 3 ?_;obtain rfl:k=(min (ts.length-1) 6):=by omega
  have A:dW (a_.mk ts f [eU] (eM (min (ts.length-1) 6)) 0 0 0) [((some ⟨B,0,none⟩),1)]:=D;refine cP bX [4] [] [] [0,1,3,4,5,6] [] U U U U U<|eS U (LW 5 U bP U U)<|eS U (LW 5 U bP U U)<|eS U (CL (wo (a_.mk ts f ([eU]) (eM (min (ts.length-1) 6)) 0 0 0) tsA tsC ([((some ⟨B,0,none⟩),1)]) (some ⟨E,0,none⟩) 1 ba bc (by exact A)) (gN 3 U U<|aw (ak (n:=([eU]).length) 1 U U)<|aw (dK 0 U kJ)<|aw (ak (n:=(eM (min (ts.length-1) 6)).length) 4 U sm)<|aA) U)<|eS U (BI U nt)<|eS U (AG U)<|dI U<|bQ U fun T22 J=>Ec U Nw U<|bG (J _ _ (aB [0,1,3,4,5,6]) ?_);refine eJ U<|aq jE 2 ?_;refine LX hQ ((some ⟨E,0,none⟩),1,[((some ⟨B,0,none⟩),1)],ba,bc) [1,0,5] [0] (mc 2 U mn) U (by simp only [eX,om,gE,n4];rfl) U ?_ ?_
  ·first|rfl|(rw [mB];rfl)
  ·exact ⟨U,A⟩
 refine cm aW 8 [] (mc 6 U mn) ?_;refine rS (SX (aU (xs:=[(0,.tmp 30)]) (cs:=(cY.cells (cY.mk ((k:Int)+1) (aa.mk 0 0)))) U U (aT YE U)) U U)<|rS (SX (aU (xs:=[(0,.tmp 31)]) (cs:=(dT.cells (dT.mk (cY.mk ((k:Int)+1) (aa.mk 0 0)) 0))) U U (aT Yb U)) U U)<|dC (xs:=[.tmp 32]) (cs:=(dT.cells (dT.mk (cY.mk ((k:Int)+1) (aa.mk 0 0)) 0))) U wN Ye U U U U (by simp [Value.cells,dT.aC]) U U fun R=>?_;refine cZ (es2:=(map dT.cells (eM (k+1)))) (m':=(eM (k+1)).length) 6 U U U YY U U sm (aM (es:=map dT.cells [(dT.mk (cY.mk ((k:Int)+1) (aa.mk 0 0)) 0)]) 0 U U (by simp [dT.aC]) U) (sI _) (by rw [mB];omega) (by rw [mB];simp only [maxLen];omega) (by rw [Dx];simp) sm U fun G H=>?_
 try dsimp only
 refine aS aj 1 U<|ST7 (bU.cells (bU.mk (aY.mk (aV.mk tsA ts.length tsC)) f (aV.mk (some ⟨E,0,none⟩) ([eU].length) 1) (aV.mk G ((eM (k+1)).length) H) 0 0 0)) U WB U U<|aq aj 8 ?_;have M:(vI ((((k+1):Nat):Int)+1))=(vI (((k:Int)+1)+1)):=by exact cI I
 refine aL (AB ⟨((k+1),G,H),(by first|omega|(simp only [];omega))⟩ _ _ _ U os (cx 3<|aQ U M<|cS.nil _) (aB [1,2,3,4,5,6,7]))
end
section
open Go.RowKit
variable (v h:Int)
theorem RT (g1:Nat) (hh:0≤h∧h≤400000) (hv:0≤v∧v≤10000):
 de Tryz.prog 146 [(vI v),(vP g1)] [(cb g1 3 [(vI h)])] (vB (decide (1962*h<10*v*v))):=by
 have C:=As (a:=10*v) (b:=v) (A:=100000) (B:=10000) I I I I;refine bg kr Tryz.func146 U U fun D Q hQ hN=>?_
 try dsimp only
 refine aS bS 8 U<|rS (BI U (nq ⟨I,I⟩))<|aS aj 1 U<|rS (BI U (nq ⟨I,I⟩))<|cm aj 1 [] (mr 0 U mn) ?_;refine rS (BI U (nq ⟨I,I⟩)) ?_;exact cr aj 5 hQ U U U
theorem Sd (g1:Nat) (hh:0≤h∧h≤400000) (hv:0≤v∧v≤10000):
 de Tryz.prog 147 [(vI v),(vP g1)] [(cb g1 3 [(vI h)])] (vB (decide (1962*h≤10*v*v))):=by
 have C:=As (a:=10*v) (b:=v) (A:=100000) (B:=10000) I I I I;refine bg kr Tryz.func147 U U fun D Q hQ hN=>?_
 try dsimp only
 refine aS bS 8 U<|rS (BI U (nq ⟨I,I⟩))<|aS aj 1 U<|rS (BI U (nq ⟨I,I⟩))<|cm aj 1 [] (mr 0 U mn) ?_;refine rS (BI U (nq ⟨I,I⟩)) ?_;exact cr aj 5 hQ U U U
theorem Iy (lo hi:Int) (f:Value) (p:Int→Bool) (X:ar) (r:Int) (hf: ∀ x0,0≤x0∧x0<hi→BH Tryz.prog f [.int .i64 x0] [X] (.bool (p x0))) (hb:0≤lo∧lo≤r∧r≤hi∧hi≤100000000) (hno: ∀ x,lo≤x→x<r→p x=false) (hyes: ∀ x,r≤x→x<hi→p x=true):
 de Tryz.prog 145 [(vI lo),(vI hi),f] [X] (vI r):=by
 refine bg kr Tryz.func145 U U fun G Q hQ hN=>?_
 try dsimp only
 refine aq bS 7 ?_;have A:(lo≤lo∧lo≤r)∧(r≤hi∧hi≤hi):=by first|trivial|omega|(refine ⟨?_,?_⟩<;>first|trivial|omega|simp)
 refine bu (ι:={z:Int×Int // (lo≤z.1∧z.1≤r)∧(r≤z.2∧z.2≤hi)}) [2] [0] U U (fun z=>[(0,(vI z.1.1)),(1,(vI z.1.2))]) (fun z=>[]) (fun _=>rfl) (fun _=>rfl) (fun z=>(z.1.2-z.1.1).toNat) ⟨(lo,hi),A⟩ (aN U) (aB [0]) ?_;clear A;rintro ⟨⟨a,b⟩,⟨B,C⟩⟩ J3 E
 try dsimp only at B C
 try dsimp only
 refine aq bS 8 ?_;refine bE U (aG fun F=>?_) (aH fun F=>?_)
 ·exact aS aW 1 U<|cr fD 9 hQ U U<|cI I
 refine aS aW 9 U<|rS (BI U (sM I I I))<|aS aj 8 U<|rS (SX (pE U U U (hf (a+((b-a)/2)) I) (aP [0])) U U)<|aq aj 2 ?_;refine bY U (fun hp=>?_) (fun hp=>?_)
 ·refine aq aW 5 ?_;refine aL (E ⟨(a,(a+((b-a)/2))),(by dsimp only;rcases AAe (a+(b-a)/2) r with q|q;(have D:=hno _ I q;first|(refine ⟨⟨I,I⟩,I,I⟩)|(rw [D] at hp;cases hp));(have D:=hyes _ q I;first|(refine ⟨⟨I,I⟩,I,I⟩)|(rw [D] at hp;cases hp)))⟩ _ _ _ rfl (by simp only [];omega) (aN rfl) (aB [0]))
 refine aq aW 6 ?_;refine aL (E ⟨(((a+((b-a)/2))+1),b),(by dsimp only;rcases AAe (a+(b-a)/2) r with q|q;(have D:=hno _ I q;first|(refine ⟨⟨I,I⟩,I,I⟩)|(rw [D] at hp;cases hp));(have D:=hyes _ q I;first|(refine ⟨⟨I,I⟩,I,I⟩)|(rw [D] at hp;cases hp)))⟩ _ _ _ rfl (by simp only [];omega) (aN rfl) (aB [0]))
theorem VG (hh:0≤h∧h≤400000):
 de Tryz.prog 94 [(vI h)] [] (vI (kG h)):=by
 have hs:=zN hh.1 hh.2;have C:=FW hh.1 hh.2;refine bg kr Tryz.func94 U U fun F Q hQ hN=>?_
 try dsimp only
 refine aS bS 2 U<|sR U U fun A=>aq aj 5 ?_;refine rS (FU U) ?_;refine rS (CL (Iy 0 10000 (Value.func (.func 146) [].toArray [(vP A)].toArray) (fun B=>(decide (1962*h<10*B*B))) (iX [(cb A 3 [(vI h)])]) (kG h+1) (by intro B _;exact kU (fi:=[]) (ca:=[(vP A)]) (jP (RT B h A (by first|assumption|omega) (by first|assumption|omega)) (aP [0]))) sd (by intro x D hx;exact SY hh.1 I hx) (by intro x hx E;exact Oc hh.1 hx)) (aw (jH (aP [0]))<|aA) U) ?_;exact cr aj 5 hQ U U<|cI I
theorem VW (hh:0≤h∧h≤400000):
 de Tryz.prog 95 [(vI h)] [] (vI (qj h)):=by
 have hs:=zN hh.1 hh.2;have C:=FW hh.1 hh.2;refine bg kr Tryz.func95 U U fun F Q hQ hN=>?_
 try dsimp only
 refine aS bS 2 U<|sR U U fun A=>aq aj 5 ?_;refine rS (FU U) ?_;refine rS (CL (Iy 0 10000 (Value.func (.func 147) [].toArray [(vP A)].toArray) (fun B=>(decide (1962*h≤10*B*B))) (iX [(cb A 3 [(vI h)])]) (qj h) (by intro B _;exact kU (fi:=[]) (ca:=[(vP A)]) (jP (Sd B h A (by first|assumption|omega) (by first|assumption|omega)) (aP [0]))) sd (by intro x D hx;exact So hh.1 I hx) (by intro x hx E;exact PA hh.1 hx)) (aw (jH (aP [0]))<|aA) U) ?_;exact cr aj 4 hQ U U<|cI I
end
section
open Go.RowKit
theorem yb (s:dv) (best:Bool) (tsA:OA) (tsN tsC:Nat) (z:aa) (f:Bool):
 de Tryz.prog 189 [(vA (gD.cells (gD.mk s (aY.mk (aV.mk tsA tsN tsC)) best))),(vA (aa.cells z)),(vB f)] [] (vI (l4 best f z)):=by
 refine bg kr Tryz.func189 U U fun D Q hQ hN=>?_
 try dsimp only
 refine aS bS 2 U<|dV U fun B=>dV U fun C=>dD aj 9 [] (mc 1 U mn) U<|rS (BI U (Hf Wd))<|aq aj 2 ?_;refine bY U (fun A=>?_) (fun A=>?_)
 ·replace A:best=f:=by simpa using A
  refine yY aW 8 hQ [] (mc 0 U mn) U U ?_;clear hQ hN;exact cI (by unfold l4;cases hb:best<;>cases f<;>simp_all)
 replace A: ¬ best=f:=by simpa using A
 refine yY aW 10 hQ [] (mc 0 U mn) U U ?_;clear hQ hN;exact cI (by unfold l4;cases hb:best<;>cases f<;>simp_all)
end
section
open Go.RowKit
variable (s:dv) (best:Bool) (tsA:OA) (tsN tsC:Nat) (h lo:Int)
theorem X_ (hs:gv s) (hh:0≤h∧h≤400000) (hl:0≤lo∧lo≤100000):
 de Tryz.prog 216 [(vA (gD.cells (gD.mk s (aY.mk (aV.mk tsA tsN tsC)) best))),(vI h),(vI lo)] [] (vI (min h (h*l4 best false s.An*lo/(100*l4 best true s.Weight)))):=by
 have A:=k6 (best:=best) (f:=false) hs.2.2.2.1;have E:=k6 (best:=best) (f:=true) hs.2.2.2.2.1;have B:=As hh.1 hh.2 A.1 A.2;have C:=As B.1 B.2 hl.1 hl.2;have F:=YB (b:=100*l4 best true s.Weight) C.1 C.2 I;refine bg kr Tryz.func216 U U fun G Q hQ hN=>?_
 try dsimp only
 refine aS bS 2 U<|dV U fun D=>aS aj 4 U<|cK bX 19 kr<|jZ 5 [] (mc 0 U mn) U<|dS (LP (aa.cells s.An) 0 U bP U U U)<|dS (CL (yb s best tsA tsN tsC s.An false) (aA) U)<|dS (BI U (nq ⟨I,I⟩))<|iR 1 U<|dS (BI U (nq ⟨I,I⟩))<|jZ 3 [] (mc 0 U mn) U<|dS (LP (aa.cells s.Weight) 0 U bP U U U)<|dS (CL (yb s best tsA tsN tsC s.Weight true) (aA) U)<|dS (BI U (nq ⟨I,I⟩))<|dS (BI U (sM I I I))<|dS (MN U)<|dP 1 [] mn ?_;refine cy ?_;exact cr aj 3 hQ U U U
theorem X9 (hs:gv s) (hl:0≤lo∧lo≤100000):
 de Tryz.prog 217 [(vA (gD.cells (gD.mk s (aY.mk (aV.mk tsA tsN tsC)) best))),(vI h),(vI lo)] [] (vI (l4 best false s.Od*lo/100)):=by
 have A:=k6 (best:=best) (f:=false) hs.2.2.1;have C:=As A.1 A.2 hl.1 hl.2;refine bg kr Tryz.func217 U U fun D Q hQ hN=>?_
 try dsimp only
 refine aS bS 2 U<|dV U fun B=>dD aj 8 [] (mc 0 U mn) U<|rS (LP (aa.cells s.Od) 0 U bP U U U)<|rS (CL (yb s best tsA tsN tsC s.Od false) (aA) U)<|aq aj 1 ?_;refine rS (BI U (nq ⟨I,I⟩))<|rS (BI U (sM I I I)) ?_;exact cr aj 4 hQ U U U
theorem O5:
 de Tryz.prog 188 [] [] (vA ((mG.cells (mG.mk (Value.func (.func 216) [].toArray [].toArray)))++(mG.cells (mG.mk (Value.func (.func 217) [].toArray [].toArray))))):=by
 refine bg kr Tryz.func188 U U fun B Q hQ hN=>?_
 try dsimp only
 refine aS bS 2 U<|AL U Uo fun A=>aS aj 4 U<|rS (SX (aU (xs:=[(0,.func 216)]) (cs:=(mG.cells (mG.mk (Value.func (.func 216) [].toArray [].toArray)))) U U (aT TX U)) U U)<|rS (SX (aU (xs:=[(0,.func 217)]) (cs:=(mG.cells (mG.mk (Value.func (.func 217) [].toArray [].toArray)))) U U (aT TX U)) U U)<|rS (SX (aU (xs:=[(0,.tmp 1),(1,.tmp 2)]) (cs:=((mG.cells (mG.mk (Value.func (.func 216) [].toArray [].toArray)))++(mG.cells (mG.mk (Value.func (.func 217) [].toArray [].toArray))))) U U (aT Zq U)) U U)<|eN U TO U<|aq aj 3 ?_;exact GG hQ [0] (mc 0 U mn) U U
end
section
open Go.RowKit
variable (s:dv) (ts:List ai) (tsA:OA) (tsC:Nat) (best:Bool)
theorem BP (tsA:OA) (tsN tsC:Nat):
 lf Tryz.prog 144 [(vA (gD.cells (gD.mk s (aY.mk (aV.mk tsA tsN tsC)) best)))] [] (fun (x:Nat)=>(Value.func (.func 187) [].toArray [(vP x)].toArray)) (fun (x:Nat)=>True) (fun (x:Nat)=>[(cb x 234 (gD.cells (gD.mk s (aY.mk (aV.mk tsA tsN tsC)) best)))]):=by
 refine cR kr Tryz.func144 U U fun B Q hQ hN=>?_
 try dsimp only
 refine aS bS 2 U<|dV U fun A=>aS aj 5 U<|rS (FU U)<|aq aj 4 ?_;refine LX hQ A [0] [] mn U U U U ?_;trivial
theorem QO (g1:Nat) (hs:gv s) (hst:∀ x∈ts,bV x) (hlen:ts.length≤12):
 OI Tryz.prog 187 [] [(vP g1)] [(gQ tsA ts),(cb g1 234 (gD.cells (gD.mk s (aY.mk (aV.mk tsA ts.length tsC)) best)))] (qg best s ts):=by
 refine D7 kr Tryz.func187 U U fun l J Z A0 c Q hY T S hQ hN=>?_
 try dsimp only
 refine aS bS 2 U<|rS (CL O5 (aA) U)<|AL U Uo fun m=>eN U TO U<|dD aj 7 [] (mr 3 U mn) U<|rS (LPR (aa.cells s.Start) 3 U bP U U U)<|rS (CL (yb s best tsA ts.length tsC s.Start true) (aA) U)<|cm aj 14 [] (mr 3 U mn) ?_;have H:(0≤ts.length)∧(J 0 A0)∧(Fo A0 c A0):=by exact ⟨I,T,S⟩
 refine bu (ι:={z:Nat×ar // (z.1≤ts.length)∧(J z.1 z.2)∧(Fo A0 c z.2)}) [0,1,3,19,20] [0,2,3] U U (fun z=>[(4,(vI (fy best s ts z.1.1))),(21,(vI (z.1.1:Int)))]) (fun z=>[z.1.2]) (fun _=>rfl) (fun _=>rfl) (fun z=>ts.length-z.1.1) ⟨(0,A0),H⟩ (aN U) (aB [0,2,3,1]) ?_;clear H;rintro ⟨⟨i,A⟩,⟨AB,B,C⟩⟩ J6 AA
 try dsimp only at AB B C
 try dsimp only
 have hb:=Ai (best:=best) hs hst i;refine aq bS 6 ?_;refine bE U (aG fun j=>?_) (aH fun j=>?_)
 ·refine aS aW 1 U<|cm fD 9 [] (mr 2 U mn) ?_;refine zm 3 hY B C U U U (Mt I I) U U (fun B37 G E=>?_) (fun B37 G E=>?_);rotate_left 1
  ·refine aq aj 1 ?_;refine hN _ _ _ (g4 (vs:=[]) trivial fun w hs=>I6 3 U G E hs)
  refine aq aj 1 ?_;refine hN _ _ _ (g4 (vs:=[]) trivial fun w hs=>Vw 3 U (by rw [sB];have e:ts.length=i:=I;rw [e];exact G) E hs)
 refine aq aW 7 ?_;obtain ⟨x,K⟩:=ax ts i I;have P:=bw ai.cells K;refine rS (IA i U (au 1 U) vM dc I I) ?_;have R:=hst x (aF K);have O:=k6 (best:=best) (f:=false) R.2.1;have k:=k6 (best:=best) (f:=true) R.2.2.1;have V:=k6 (best:=best) (f:=false) hs.2.2.2.1;have n:=k6 (best:=best) (f:=true) hs.2.2.2.2.1;have W:=k6 (best:=best) (f:=false) hs.2.2.1;have Y:=As hb.1 (show fy best s ts i≤400000 by omega) V.1 V.2;have a:=As Y.1 Y.2 (show 0≤l4 best false x.jd by omega) O.2;have o:=YB (b:=100*l4 best true s.Weight) a.1 a.2 I;have p:=As W.1 W.2 (show 0≤l4 best false x.jd by omega) O.2;refine rS (ld i 0 (ai.cells x) U bP (au 1 U) P U dc U U)<|AL U GQ fun d=>aS aj 1 U<|eN U SG U<|aq aj 8 ?_;refine zm 4 hY B C U U U (yk I) U U (fun B15 F D=>?_) (fun B15 F D=>?_);rotate_left 1
 ·refine aq aj 5 ?_;refine hQ _ _ _ (g4 (vs:=[]) trivial fun w hs=>I6 4 U F D hs)
 refine aS aj 7 U<|cK bX 12 kr<|jZ 2 [] (mr 3 U mn) U<|dS (LP (aa.cells x.jd) 0 U bP U U U)<|dS (CL (yb s best tsA ts.length tsC x.jd false) (aA) U)<|jZ 3 [] (mr 3 U mn) U<|dS (LP (aa.cells x.kR) 0 U bP U U U)<|dS (CL (yb s best tsA ts.length tsC x.kR true) (aA) U)<|iR 3 U<|cy<|dD aj 10 [] (mc 1 U mn) U<|iY 3<|eh fun R21 L=>aS bS 2 U<|rS (SX (ck (r:= .bool true) U U U g_) U U)<|aS aj 10 U<|rS (SX (qD (vs:=(mG.cells (mG.mk (Value.func (.func 216) [].toArray [].toArray)))) 0 U U U Up bP U dc U) U U)<|AL U Ub fun g=>eN U TS U<|cm aj 9 [0,1] (mc 0 U (mr 4 U mn)) ?_;refine rS (CL (X_ s best tsA ts.length tsC (fy best s ts i) (l4 best false x.jd) hs sd sd) (aA) U) ?_;refine aS aj 6 U<|rS (SX (ck (r:= .int .i64 1) U U U (jw ⟨dc,dc⟩)) U U)<|aS aj 2 U<|KK L<|eh fun R27 M=>aS bS 2 U<|rS (SX (ck (r:= .bool true) U U U g_) U U)<|aS aj 10 U<|rS (SX (qD (vs:=(mG.cells (mG.mk (Value.func (.func 217) [].toArray [].toArray)))) 1 U U U Up bP U dc U) U U)<|AL U Ub fun h=>eN U TS U<|cm aj 9 [0,1] (mc 0 U (mr 5 U mn)) ?_;refine rS (CL (X9 s best tsA ts.length tsC (fy best s ts i) (l4 best false x.jd) hs sd) (aA) U) ?_;refine aS aj 6 U<|rS (SX (ck (r:= .int .i64 2) U U U (jw ⟨dc,dc⟩)) U U)<|aS aj 2 U<|KK M<|eh fun R33 X=>aS bS 2 U<|rS (SX (ck (r:= .bool false) U U U g_) U U)<|aS aj 5 U<|aS fD 4 U<|rS (MX U)<|aq aj 8 ?_;have N:(vI (fy best s ts (i+1)))=(vI (max 0 ((((fy best s ts i)+(l4 best true x.kR))-(min (fy best s ts i) ((fy best s ts i)*l4 best false s.An*(l4 best false x.jd)/(100*l4 best true s.Weight))))-(l4 best false s.Od*(l4 best false x.jd)/100)))):=by rw [Ep K];refine cI ?_;unfold IM P3;omega
 refine aL (AA ⟨((i+1),B15),⟨I,F,D⟩⟩ _ _ _ U os (cx 5<|aQ U N<|aN U) (aB [3,4,5,6]))
theorem U3 (hs:gv s) (hst:∀ x∈ts,bV x) (hlen:ts.length≤12):
 lf Tryz.prog 143 [(vA (gD.cells (gD.mk s (aY.mk (aV.mk tsA ts.length tsC)) best)))] [(gQ tsA ts)] (fun (x:(OA)×Nat)=>(vS x.1 ((j_ best s ts).length) x.2)) (fun (x:(OA)×Nat)=>True) (fun (x:(OA)×Nat)=>[(fB x.1 x.2 (j_ best s ts))]):=by
 refine cR kr Tryz.func143 U U fun P Q hQ hN=>?_
 try dsimp only
 refine aS bS 2 U<|dV U fun O=>aS aj 5 U<|AL U M8 fun J=>cm aj 6 [] (mc 1 U mn) ?_;refine cX (BP s best tsA ts.length tsC) (aA) U fun K M=>?_
 try dsimp only
 refine aq aj 3 ?_;refine iy 3 U (by exact fun _ h=>h)<|eC 3 1 ?_;refine zh (L0:=[(3,(vP J))]) (F:=[(gQ tsA ts).ro,(cb K 234 (gD.cells (gD.mk s (aY.mk (aV.mk tsA ts.length tsC)) best)))]) (xs:=(qg best s ts)) (fun k (y:(OA)×Nat)=>True) (fun k y=>[(fB y.1 y.2 ((j_ best s ts).take k)),(cb J 29 [(vS y.1 (((j_ best s ts).take k).length) y.2)]),(gQ tsA ts).ro]) (fun _ (_:Unit)=>False) (fun _ _=>[]) [0,3,5] [1,2] (none,0) U U (QO s ts tsA tsC best K (by first|assumption|omega|(simp;done)) (by first|assumption|omega|(simp;done)) (by first|assumption|omega|(simp;done))) U U U (by trivial) (by simp only [AAI,h_,AAs,AAv,ABC];exact ⟨⟨_,sm,(df (bL _))⟩,⟨_,sm,(bL _)⟩⟩) (by exact AD) U (aN U) ?_ ?_ (fun _ _ _ h=>h.elim) (fun _ _ h=>h.elim);rotate_left 1
 ·rintro N ⟨a,c⟩ G
  try dsimp only
  rw [AE];refine cm jE 9 [] (mc 4 U mn) ?_;refine hQ _ _ _ (nI 0 U U<|g4 (vs:=[(vS a ((j_ best s ts).length) c)]) ⟨U,trivial⟩ fun w hs=>EO (a,c) [3] ?_ ?_ U U U hs)
  ·rfl
  ·trivial
 rintro k x ⟨a,c⟩ l ra rb S R K10 Qr11 hx E B A H AA;obtain ⟨hk,rfl⟩:=BV hx
 try dsimp only
 refine aq bS 3 ?_;refine aL (B _ _ ?_);refine cm bS 4 [] (mc 2 U mn) ?_;refine dC (xs:=[.tmp 11]) (cs:=[(vI (fy best s ts k))]) U cM jW U U U U (by simp [Value.cells]) U U fun L=>?_;refine cZ (es2:=(map iC ((j_ best s ts).take (k+1)))) (m':=((j_ best s ts).take (k+1)).length) 2 U U U pI U U sm (aM (es:=map iC [(fy best s ts k)]) 0 U U (by simp [br]) U) (j4 _) (by simp [nX];omega) (by simp [nX,maxLen];omega) (by rw [EZ hk];simp) sm U fun C D=>?_
 try dsimp only
 refine ZQ U wM U U<|aq aj 2 ?_;exact A (C,D) _ _ (by trivial) (aB [1,2,3,4])
end
section
open Go.RowKit
theorem qL (lo hi:Int) (l:List aa) (lA:OA) (lC:Nat) (hle:lo≤hi) (hlen:l.length≤1000000):
 de Tryz.prog 215 [(vI lo),(vI hi),(vS lA l.length lC)] [(Kv lA l)] (vB (Dn lo hi l)):=by
 refine bg kr Tryz.func215 U U fun H Q hQ hN=>?_
 try dsimp only
 refine aq bS 14 ?_;have B:(0≤l.length)∧((l.take 0).all (fun s=>decide (s.Lo≤s.Hi∧lo≤s.Lo∧s.Hi≤hi))=true):=by simp
 refine bu (ι:={z:Nat // (z≤l.length)∧((l.take z).all (fun s=>decide (s.Lo≤s.Hi∧lo≤s.Lo∧s.Hi≤hi))=true)}) [0,1,2,9,10] [0] U U (fun z=>[(11,(vI (z.1:Int)))]) (fun z=>[]) (fun _=>rfl) (fun _=>rfl) (fun z=>l.length-z.1) ⟨0,B⟩ (aN U) (aB [0]) ?_;clear B;rintro ⟨i,⟨D,A⟩⟩ J4 C
 try dsimp only
 refine aq bS 6 ?_;refine bE U (aG fun G=>?_) (aH fun G=>?_)
 ·refine aS aW 1 U<|cr fD 8 hQ U U ?_
  first|exact cB (NR hx (bj (by rw [aa.ext_iff] at h;simp only at h;omega))).symm|exact cB (It I A).symm
 refine aq aW 6 ?_;obtain ⟨x,hx⟩:=ax l i I;have E:=bw aa.cells hx;refine rS (IA i U (au 0 U) iA dc I I)<|rS (ld i 0 (aa.cells x) U bP (au 0 U) E U dc U U)<|AL U dA fun F=>eN U cJ U<|dD aj 10 [] (mc 0 U mn) U<|rS (MN U)<|rS (MX U)<|dD aj 5 [] (mc 0 U mn) U<|rS (MX U)<|rS (MN U)<|rS (SX (aU (xs:=[(0,.tmp 22),(1,.tmp 29)]) (cs:=(aa.cells (aa.mk (max lo (min x.Lo x.Hi)) (min hi (max x.Lo x.Hi))))) U U (aT gP U)) U U)<|rS (BI U (Ft _ _ x (aa.mk (max lo (min x.Lo x.Hi)) (min hi (max x.Lo x.Hi)))))<|aq aj 2 ?_;refine bY U (aJ fun h=>?_) (aK fun h=>?_)
 ·refine cr aW 6 hQ U U ?_
  first|exact cB (NR hx (bj (by rw [aa.ext_iff] at h;simp only at h;omega))).symm|exact cB (It I A).symm
 refine aq aW 7 ?_;refine aL (C ⟨(i+1),⟨I,Pf hx A (cT (by rw [aa.ext_iff] at h;simp only at h;omega))⟩⟩ _ _ _ U os (aN U) (aB [1]))
theorem Oa (s:dv):
 de Tryz.prog 186 [(vA (dv.cells s))] [] (vI (if gv s then 0 else 30)):=by
 refine bg kr Tryz.func186 U U fun N Q hQ hN=>?_
 try dsimp only
 refine aS bS 2 U<|dV U fun M=>dD aj 8 [] (mc 0 U mn) U<|rS (BI U g_)<|aq aj 1 ?_;refine bJ (t:=6) U (aH fun K=>?_) (aG fun K=>?_)
 ·refine cr aj 48 hQ U U ?_
  first|exact cI (c1 (by simp only [gv,cO];omega)).symm|exact cI (c0 (by simp only [gv,cO];omega)).symm
 refine dD aj 2 [] (mc 0 U mn) U<|rS (BI U Ot)<|aq aj 2 ?_;refine bJ (t:=11) U (aH fun L=>?_) (aG fun L=>?_)
 ·refine cr aj 43 hQ U U ?_
  first|exact cI (c1 (by simp only [gv,cO];omega)).symm|exact cI (c0 (by simp only [gv,cO];omega)).symm
 refine aq aj 1 ?_;refine rS (LP (aa.cells s.Start) 0 U bP U U U)<|dC (xs:=[.tmp 13]) (cs:=(aa.cells s.Start)) U iA dA U U U U (by simp [Value.cells,aa.aC]) U U fun J=>?_;refine rS (CL (de.eq (qL 0 200000 ([s.Start]) (some ⟨J,0,none⟩) 1 sd sd) oq) (aw (aM 0 U U (by simp [aa.aC]) U)<|aA) U) ?_;refine aq aj 3 ?_;refine bJ (t:=18) U (aJ fun E=>?_) (aK fun E=>?_)
 ·refine cr aj 36 hQ U U ?_
  first|exact cI (c1 (by simp only [gv,cO];omega)).symm|exact cI (c0 (by simp only [gv,cO];omega)).symm
 refine aq aj 1 ?_;refine rS (LP (aa.cells s.Od) 1 U bP U U U)<|dC (xs:=[.tmp 20]) (cs:=(aa.cells s.Od)) U iA dA U U U U (by simp [Value.cells,aa.aC]) U U fun A=>?_;refine rS (CL (de.eq (qL 0 100 ([s.Od]) (some ⟨A,0,none⟩) 1 sd sd) oq) (aw (aM 0 U U (by simp [aa.aC]) U)<|aA) U) ?_;refine aq aj 3 ?_;refine bJ (t:=25) U (aJ fun F=>?_) (aK fun F=>?_)
 ·refine cr aj 29 hQ U U ?_
  first|exact cI (c1 (by simp only [gv,cO];omega)).symm|exact cI (c0 (by simp only [gv,cO];omega)).symm
 refine aq aj 1 ?_;refine rS (LP (aa.cells s.An) 2 U bP U U U)<|dC (xs:=[.tmp 27]) (cs:=(aa.cells s.An)) U iA dA U U U U (by simp [Value.cells,aa.aC]) U U fun B=>?_;refine rS (CL (de.eq (qL 0 1000 ([s.An]) (some ⟨B,0,none⟩) 1 sd sd) oq) (aw (aM 0 U U (by simp [aa.aC]) U)<|aA) U) ?_;refine aq aj 3 ?_;refine bJ (t:=32) U (aJ fun G=>?_) (aK fun G=>?_)
 ·refine cr aj 22 hQ U U ?_
  first|exact cI (c1 (by simp only [gv,cO];omega)).symm|exact cI (c0 (by simp only [gv,cO];omega)).symm
 refine aq aj 1 ?_;refine rS (LP (aa.cells s.Weight) 3 U bP U U U)<|dC (xs:=[.tmp 34]) (cs:=(aa.cells s.Weight)) U iA dA U U U U (by simp [Value.cells,aa.aC]) U U fun C=>?_;refine rS (CL (de.eq (qL 50000 800000 ([s.Weight]) (some ⟨C,0,none⟩) 1 sd sd) oq) (aw (aM 0 U U (by simp [aa.aC]) U)<|aA) U) ?_;refine aq aj 3 ?_;refine bJ (t:=39) U (aJ fun H=>?_) (aK fun H=>?_)
 ·refine cr aj 15 hQ U U ?_
  first|exact cI (c1 (by simp only [gv,cO];omega)).symm|exact cI (c0 (by simp only [gv,cO];omega)).symm
 refine aq aj 1 ?_;refine rS (LP (aa.cells s.Fi) 4 U bP U U U)<|dC (xs:=[.tmp 41]) (cs:=(aa.cells s.Fi)) U iA dA U U U U (by simp [Value.cells,aa.aC]) U U fun D=>?_;refine rS (CL (de.eq (qL (-500) 500 ([s.Fi]) (some ⟨D,0,none⟩) 1 sd sd) oq) (aw (aM 0 U U (by simp [aa.aC]) U)<|aA) U) ?_;refine aq aj 4 ?_;refine bY U (aJ fun AA=>?_) (aK fun AA=>?_)
 ·refine cr aW 6 hQ U U ?_
  first|exact cI (c1 (by simp only [gv,cO];omega)).symm|exact cI (c0 (by simp only [gv,cO];omega)).symm
 refine cr aW 8 hQ U U ?_
 first|exact cI (c1 (by simp only [gv,cO];omega)).symm|exact cI (c0 (by simp only [gv,cO];omega)).symm
end
section
open Go.RowKit
variable (ts:List ai) (tsA:OA) (tsC:Nat) (s:dv)
theorem OT (hlen:ts.length≤1000000) (hside:∀ x∈ts,0≤x.gp∧x.gp≤255) (htr:cE ts=false):
 de Tryz.prog 142 [(vA (aY.cells (aY.mk (aV.mk tsA ts.length tsC)))),(vA (dv.cells s))] [(gQ tsA ts)] (vT [(vA (gD.cells (gD.mk (dv.mk 0 (aa.mk 0 0) (aa.mk 0 0) (aa.mk 0 0) (aa.mk 0 0) (aa.mk 0 0)) (aY.mk (aV.mk none 0 0)) false))),(vA (gD.cells (gD.mk (dv.mk 0 (aa.mk 0 0) (aa.mk 0 0) (aa.mk 0 0) (aa.mk 0 0) (aa.mk 0 0)) (aY.mk (aV.mk none 0 0)) false))),(vI (jz s ts))]):=by
 refine bg kr Tryz.func142 U U fun G Q hQ hN=>?_
 try dsimp only
 refine aS bS 2 U<|dV U fun C=>dV U fun D=>AL U u6 fun E=>AL U u6 fun F=>dD aj 7 [] (mc 3 U mn) U<|rS (CL (wL ts tsA tsC hlen hside) (aP [4]) U)<|aq aj 9 ?_;refine bE U (aK fun h=>?_) (aJ fun h=>?_)
 ·exfalso;simp [htr] at h
 refine aq aW 1 ?_;refine cP bX [3,4] [] [] [0,1,2,3,4] [] U U U U U<|eS U (LW 1 U bP U U)<|eS U (LW 0 U bP U U)<|eS U (MV U)<|eS U (AG U)<|dI U<|bQ U fun T10 A=>o8 U u_ U<|bG (A _ _ (aB [0,1,2,3,4]) ?_);refine bQ U fun T11 B=>eN U u_ U<|bG (B _ _ (aB [0,1,2,3,4]) ?_);refine eJ U<|aq jE 2 ?_;refine mU hQ [0,1] (mc 1 U (mc 0 U mn)) U ?_
 (simp only [htr,Cw htr];rfl)
theorem IS (hlen:ts.length≤1000000) (hside:∀ x∈ts,0≤x.gp∧x.gp≤255) (htr:cE ts=true):
 de Tryz.prog 142 [(vA (aY.cells (aY.mk (aV.mk tsA ts.length tsC)))),(vA (dv.cells s))] [(gQ tsA ts)] (vT [(vA (gD.cells (gD.mk s (aY.mk (aV.mk tsA ts.length tsC)) false))),(vA (gD.cells (gD.mk s (aY.mk (aV.mk tsA ts.length tsC)) true))),(vI (jz s ts))]):=by
 refine bg kr Tryz.func142 U U fun G Q hQ hN=>?_
 try dsimp only
 refine aS bS 2 U<|dV U fun C=>dV U fun D=>AL U u6 fun E=>AL U u6 fun F=>dD aj 7 [] (mc 3 U mn) U<|rS (CL (wL ts tsA tsC hlen hside) (aP [4]) U)<|aq aj 9 ?_;refine bY U (aJ fun h=>?_) (aK fun h=>?_)
 ·exact absurd (by simp [htr]) h
 refine aq aW 3 ?_;refine cP bX [8,9] [] [] [2,3,4] [] U U U U U<|eS U (LW 0 U bP U U)<|eS U (LW 1 U bP U U)<|eS U (SX (aU (xs:=[(0,.tmp 15),(1,.tmp 16),(2,.const (vB false))]) (cs:=(gD.cells (gD.mk s (aY.mk (aV.mk tsA ts.length tsC)) false))) U U (aT UH U)) U U)<|eS U (LW 0 U bP U U)<|eS U (LW 1 U bP U U)<|eS U (SX (aU (xs:=[(0,.tmp 18),(1,.tmp 19),(2,.const (vB true))]) (cs:=(gD.cells (gD.mk s (aY.mk (aV.mk tsA ts.length tsC)) true))) U U (aT UH U)) U U)<|eS U (LW 0 U bP U U)<|eS U (CL (Oa s) (aA) U)<|eS U (AG U)<|dI U<|bQ U fun T10 A=>o8 U u_ U<|bG (A _ _ (aB [2,3,4]) ?_);refine bQ U fun T11 B=>eN U u_ U<|bG (B _ _ (aB [2,3,4]) ?_);refine eJ U<|aq jE 2 ?_;refine mU hQ [0,1] (mc 1 U (mc 0 U mn)) U ?_
 (rw [jz,c0 htr]<;>rfl)
end
section
open Go.RowKit
variable (ts:List ai) (tsA:OA) (tsC:Nat) (s:dv)
theorem LK (hlen:ts.length≤1000000) (hside:∀ x∈ts,0≤x.gp∧x.gp≤255) (htr:cE ts=false):
 de Tryz.prog 93 [(vA (aY.cells (aY.mk (aV.mk tsA ts.length tsC)))),(vA (dv.cells s))] [(gQ tsA ts)] (vT [(vS none 0 0),(vI (jz s ts))]):=by
 have A: ¬ jz s ts=0:=by rw [Cw htr];decide
 refine bg Vb Tryz.func93 U U fun F Q hQ hN=>?_
 try dsimp only
 refine aS bS 2 U<|dV U fun B=>dV U fun C=>dD aj 8 [0,1] (mc 1 U (mc 0 U mn)) U<|rS (CL (OT ts tsA tsC s hlen hside htr) (aP [2]) U)<|aS aj 4 U<|AL U u6 fun D=>AL U u6 fun E=>o8 U u_ U<|eN U u_ U<|aq aj 10 ?_;refine bE U (aK fun he=>?_) (aJ fun he=>?_)
 ·exact absurd he A
 refine aq aW 8 ?_;exact Q2 hQ U U U U U
theorem He (hlen:ts.length≤1000000) (hside:∀ x∈ts,0≤x.gp∧x.gp≤255) (htr:cE ts=true) (hns:¬ gv s):
 de Tryz.prog 93 [(vA (aY.cells (aY.mk (aV.mk tsA ts.length tsC)))),(vA (dv.cells s))] [(gQ tsA ts)] (vT [(vS none 0 0),(vI (jz s ts))]):=by
 have A: ¬ jz s ts=0:=by rw [G9 htr hns];decide
 refine bg Vb Tryz.func93 U U fun F Q hQ hN=>?_
 try dsimp only
 refine aS bS 2 U<|dV U fun B=>dV U fun C=>dD aj 8 [0,1] (mc 1 U (mc 0 U mn)) U<|rS (CL (IS ts tsA tsC s hlen hside htr) (aP [2]) U)<|aS aj 4 U<|AL U u6 fun D=>AL U u6 fun E=>o8 U u_ U<|eN U u_ U<|aq aj 10 ?_;refine bE U (aK fun he=>?_) (aJ fun he=>?_)
 ·exact absurd he A
 refine aq aW 8 ?_;exact Q2 hQ U U U U U
theorem Ok (hlen:ts.length≤1000000) (hside:∀ x∈ts,0≤x.gp∧x.gp≤255) (htr:cE ts=true) (hs:gv s):
 lf Tryz.prog 93 [(vA (aY.cells (aY.mk (aV.mk tsA ts.length tsC)))),(vA (dv.cells s))] [(gQ tsA ts)] (fun (x:(OA)×Nat)=>(vT [(vS x.1 ((je s ts).length) x.2),(vI (jz s ts))])) (fun (x:(OA)×Nat)=>True) (fun (x:(OA)×Nat)=>[(wh x.1 x.2 (je s ts))]):=by
 have L:=s8 htr hs;have f:=jK htr;have X:=kv htr;have d:=EF htr;refine cR Vb Tryz.func93 U U fun q Q hQ hN=>?_
 try dsimp only
 refine aS bS 2 U<|dV U fun i=>dV U fun j=>dD aj 8 [0,1] (mc 1 U (mc 0 U mn)) U<|rS (CL (IS ts tsA tsC s hlen hside htr) (aP [2]) U)<|aS aj 4 U<|AL U u6 fun o=>AL U u6 fun p=>o8 U u_ U<|eN U u_ U<|aq aj 10 ?_;refine bY U (aJ fun he=>?_) (aK fun he=>?_)
 ·exact absurd L he
 refine aS aW 4 U<|AL U JW fun C=>cm aj 5 [] (mc 1 U mn) ?_;refine cX (U3 s ts tsA tsC true hs sd sd) (aP [5]) U fun V Y=>?_;obtain ⟨B,G⟩:=V
 try dsimp only
 refine AL U M8 fun D=>IN U wM U U<|cm aj 6 [] (mc 4 U mn) ?_;refine cX (BP s false tsA ts.length tsC) (aA) U fun E Z=>?_
 try dsimp only
 refine aq aj 3 ?_;refine iy 8 U (by exact fun _ h=>h)<|eC 38 2 ?_;refine zh (L0:=[(9,(vP C)),(10,(vP D))]) (F:=[(gQ tsA ts).ro,(cb E 234 (gD.cells (gD.mk s (aY.mk (aV.mk tsA ts.length tsC)) false)))]) (xs:=(qg false s ts)) (fun k (y:(OA)×Nat)=>True) (fun k y=>[(wh y.1 y.2 ((je s ts).take k)),(cb D 29 [(vS B ((j_ true s ts).length) G)]),(fB B G (j_ true s ts)),(cb C 102 [(vS y.1 (((je s ts).take k).length) y.2)]),(gQ tsA ts).ro]) (fun _ (_:Unit)=>False) (fun _ _=>[]) [0,3,4,5,10] [1,2] (none,0) U U (QO s ts tsA tsC false E (by first|assumption|omega|(simp;done)) (by first|assumption|omega|(simp;done)) (by first|assumption|omega|(simp;done))) U U U (by trivial) (by simp only [AAI,h_,AAs,AAv,ABC];exact ⟨⟨_,sm,(df (bL _))⟩,⟨_,sm,(bL _)⟩⟩) (by exact AD) U (aN U) ?_ ?_ (fun _ _ _ h=>h.elim) (fun _ _ h=>h.elim);rotate_left 1
 ·rintro g ⟨a,c⟩ P
  try dsimp only
  rw [zu];refine cm jE 10 [] (mc 6 U mn) ?_;refine hQ _ _ _ (nI 0 U U<|g4 (vs:=[(vS a ((je s ts).length) c),(vI 0)]) ⟨U,U,trivial⟩ fun w hs=>EO (a,c) [3] ?_ ?_ U U U hs)
  ·rw [L];rfl
  ·trivial
 rintro k x ⟨a,c⟩ l ra rb S r K22 Qr23 hx O H A AA W;obtain ⟨hk,rfl⟩:=BV hx
 try dsimp only
 have e:=nX (best:=true) (s:=s) (ts:=ts);refine aq bS 8 ?_;refine aL (H _ _ ?_);refine aq bS 1 ?_;refine cP bX [7,8,9] [0] [0] [0,2,3,5] [0,1,2,3,4,5] U U U U U<|fS U (FQ 4 U UC U)<|eS U (MV U)<|eS U (FQ 1 U W5 U)<|eS U (MV U) ?_;obtain ⟨m,hm⟩:=ax (j_ true s ts) k I;have R:=bw iC hm;refine eS U (IA k U (ak (n:=(j_ true s ts).length) 2 U sm) cM dc I I) ?_;have T:m=fy true s ts k:=by rw [zS hk] at hm;exact (m3 hm).symm
 refine eS U (gG k 0 (vI m) U vV (ak (n:=(j_ true s ts).length) 2 U sm) R U dc U)<|eS U (SX (aU (xs:=[(0,.tmp 30),(1,.tmp 34)]) (cs:=(aa.cells (aa.mk (fy false s ts k) m))) U U (aT gP U)) U U)<|dI U<|gu U fun T26 AB=>dC (xs:=[.tmp 35]) (cs:=(aa.cells (aa.mk (fy false s ts k) m))) U iA dA U U U U (by simp [Value.cells,aa.aC]) U U fun b=>bG (AB _ _ (aB [1,3,4,6]) (aB [1,2,3,4,5,6]) ?_);refine bQ U fun T28 J=>?_;refine cZ (es2:=(map aa.cells ((je s ts).take (k+1)))) (m':=((je s ts).take (k+1)).length) 2 U U U Cr U U sm (aM (es:=map aa.cells [(aa.mk (fy false s ts k) m)]) 0 U U (by simp [aa.aC]) U) (jF _) (by simp [nW];omega) (by simp [nW,maxLen];omega) (by rw [FL hk,T];simp [Bh]) sm U fun M N=>?_
 try dsimp only
 refine bG (J _ _ (aB [1,3,4,6]) ?_);refine bQ U fun T31 K=>SO5 U Qu U U<|bG (K _ _ (aB [1,3,4,6]) ?_);refine eJ U<|aq jE 1 ?_;exact A (M,N) _ _ (by trivial) (aB [1,2,3,4,5,6])
theorem NX (hlen:ts.length≤1000000) (hside:∀ x∈ts,0≤x.gp∧x.gp≤255) (hb:¬ jz s ts=0):
 de Tryz.prog 93 [(vA (aY.cells (aY.mk (aV.mk tsA ts.length tsC)))),(vA (dv.cells s))] [(gQ tsA ts)] (vT [(vS none 0 0),(vI (jz s ts))]):=by
 by_cases A:cE ts=true
 ·by_cases hs:gv s
  ·exact absurd (s8 A hs) hb
  ·exact He ts tsA tsC s hlen hside A hs
 ·exact LK ts tsA tsC s hlen hside (by simpa using A)
theorem JL (hlen:ts.length≤1000000) (hside:∀ x∈ts,0≤x.gp∧x.gp≤255):
 lf Tryz.prog 93 [(vA (aY.cells (aY.mk (aV.mk tsA ts.length tsC)))),(vA (dv.cells s))] [(gQ tsA ts)] (fun (x:(OA)×Nat)=>(vT [(vS x.1 ((sj s ts).length) x.2),(vI (jz s ts))])) (fun (x:(OA)×Nat)=>True) (fun (x:(OA)×Nat)=>[(wh x.1 x.2 (sj s ts))]):=by
 by_cases hb:jz s ts=0
 ·obtain ⟨A,B⟩:=Bu hb;rw [ye A B];exact Ok ts tsA tsC s hlen hside A B
 ·rw [LS hb];exact de.toX (none,0) (NX ts tsA tsC s hlen hside hb) trivial Pw
end
section
open Go.RowKit
theorem Rw (ts:List ai) (tsA:OA) (tsC:Nat) (s:dv) (i:Int) (hlen:ts.length≤1000000) (hside: ∀ x∈ts,0≤x.gp∧x.gp≤255):
 de Tryz.prog 49 [(vA (aY.cells (aY.mk (aV.mk tsA ts.length tsC)))),(vA (dv.cells s)),(vI i)] [(gQ tsA ts)] (vT [(vA (aa.cells (yh s ts i))),(vI (vx s ts i))]):=by
 refine bg kr Tryz.func49 U U fun AA Q hQ hN=>?_
 try dsimp only
 refine aS bS 2 U<|dV U fun P=>dV U fun R=>AL U dA fun S=>cm aj 7 [0,1] (mc 2 U (mc 1 U mn)) ?_;refine cX (JL ts tsA tsC s hlen hside) (aP [3]) U fun N M=>?_;obtain ⟨O,T⟩:=N
 try dsimp only
 refine aq aj 14 ?_;refine bY U (aJ fun he=>?_) (aK fun he=>?_)
 ·refine aS aW 2 U<|rS (SX (aU (xs:=[]) (cs:=(aa.cells (aa.mk 0 0))) U U (aT gP U)) U U)<|aS aj 1 U<|o8 U cJ U<|aq aj 4 ?_;refine mU hQ [0] (mc 1 U mn) U ?_
  first|(rw [(oj (i:=i) he).1,(oj (i:=i) he).2]<;>rfl)|(rw [(mE (i:=i) he I).1,(mE (i:=i) he I).2]<;>rfl)|(rw [(m0 (i:=i) he I).1,(m0 (i:=i) he I).2,A]<;>rfl)
 refine aq aW 5 ?_;obtain ⟨B,hs⟩:=Bu he;have C:=jK B;have G:=kv B;have L:=nW (s:=s) (ts:=ts);rw [ye B hs];refine aq aj 3 ?_;refine bJ (t:=22) U (aH fun E=>?_) (aG fun E=>?_)
 ·refine aS aj 10 U<|rS (SX (aU (xs:=[]) (cs:=(aa.cells (aa.mk 0 0))) U U (aT gP U)) U U)<|o8 U cJ U<|aq aj 4 ?_;refine mU hQ [0] (mc 1 U mn) U ?_
  first|(rw [(oj (i:=i) he).1,(oj (i:=i) he).2]<;>rfl)|(rw [(mE (i:=i) he I).1,(mE (i:=i) he I).2]<;>rfl)|(rw [(m0 (i:=i) he I).1,(m0 (i:=i) he I).2,A]<;>rfl)
 refine aq aj 7 ?_;refine bY U (aH fun F=>?_) (aG fun F=>?_)
 ·refine aS aW 2 U<|rS (SX (aU (xs:=[]) (cs:=(aa.cells (aa.mk 0 0))) U U (aT gP U)) U U)<|o8 U cJ U<|aq aj 4 ?_;refine mU hQ [0] (mc 1 U mn) U ?_
  first|(rw [(oj (i:=i) he).1,(oj (i:=i) he).2]<;>rfl)|(rw [(mE (i:=i) he I).1,(mE (i:=i) he I).2]<;>rfl)|(rw [(m0 (i:=i) he I).1,(m0 (i:=i) he I).2,A]<;>rfl)
 refine aS aW 3 U<|cK bX 13 kr<|dP 2 [] mn ?_;obtain ⟨y,hy⟩:=ax (je s ts) ((i).toNat) I;have D:=bw aa.cells hy;refine dS (IA ((i).toNat) U (ak (n:=(je s ts).length) 0 U sm) iA dc I I)<|dS (pV (((i).toNat)*2) U (ak (n:=(je s ts).length) 0 U sm) (e6 I dc) eB U) ?_;have J:=Ai (best:=false) hs C i.toNat;have K:=Ai (best:=true) hs C i.toNat;have A:y=Bh s ts i.toNat:=by rw [Bq I] at hy;exact (m3 hy).symm
 have AB:0≤y.Lo∧y.Lo≤400000:=by rw [A];simp only [Bh];omega
 have H:0≤y.Hi∧y.Hi≤400000:=by rw [A];simp only [Bh];omega
 refine dS (gG ((i).toNat) 0 (vI y.Lo) U bP (ak (n:=(je s ts).length) 0 U sm) D U dc U) ?_;refine dS (CL (VG y.Lo sd) (aA) U) ?_;refine dP 2 [] mn ?_;refine dS (IA ((i).toNat) U (ak (n:=(je s ts).length) 0 U sm) iA dc I I)<|dS (pV ((((i).toNat)*2)+1) U (ak (n:=(je s ts).length) 0 U sm) (e6 I dc) eB U)<|dS (gG ((i).toNat) 1 (vI y.Hi) U bP (ak (n:=(je s ts).length) 0 U sm) D U dc U) ?_;refine dS (CL (VW y.Hi sd) (aA) U) ?_;refine dS (SX (aU (xs:=[(0,.tmp 34),(1,.tmp 40)]) (cs:=(aa.cells (aa.mk (kG y.Lo) (qj y.Hi)))) U U (aT gP U)) U U)<|cy<|o8 U cJ U<|aq aj 4 ?_;refine mU hQ [0] (mc 1 U mn) U ?_
 first|(rw [(oj (i:=i) he).1,(oj (i:=i) he).2]<;>rfl)|(rw [(mE (i:=i) he I).1,(mE (i:=i) he I).2]<;>rfl)|(rw [(m0 (i:=i) he I).1,(m0 (i:=i) he I).2,A]<;>rfl)
end
section
open Go.RowKit
theorem LH (n lo hi:Int) (g1 g2:Nat):
 de Tryz.prog 261 [(vI n),(vP g1),(vP g2)] [(cb g1 3 [(vI lo)]),(cb g2 3 [(vI hi)])] (vB (decide (n<lo∨hi<n))):=by
 refine bg kr Tryz.func261 U U fun B Q hQ hN=>?_
 try dsimp only
 refine cm bS 11 [] (mr 0 U mn) ?_;refine bJ (t:=8) U (aH fun A=>?_) (aG fun A=>?_)
 ·exact cr aj 8 hQ U U<|cB (cT I).symm
 exact yY aj 8 hQ [] (mr 1 U mn) U U<|cB (iw.2 I)
theorem w6 (lo hi:Int) (l:List Int) (lA:OA) (lC:Nat) (hlen:l.length≤1000000):
 de Tryz.prog 243 [(vI lo),(vI hi),(vS lA l.length lC)] [(eE lA l)] (vB (oK lo hi l)):=by
 refine bg kr Tryz.func243 U U fun D Q hQ hN=>?_
 try dsimp only
 refine aS bS 2 U<|sR U U fun A=>sR U U fun B=>aq aj 6 ?_;refine rS (FU U) ?_;refine rS (CL (pk l lA lC (Value.func (.func 261) [].toArray [(vP A),(vP B)].toArray) (fun C=>(decide (C<lo∨hi<C))) (iX [(cb A 3 [(vI lo)]),(cb B 3 [(vI hi)])]) (by intro C _;exact kU (fi:=[]) (ca:=[(vP A),(vP B)]) (jP (LH C lo hi A B) (aP [0,1]))) hlen) (gN 2 U U<|aw (jH (aP [1,0]))<|aA) U) ?_;exact cr aj 5 hQ U U U
theorem Of:
 lf Tryz.prog 195 [(vA (qF.cells (qF.mk (aV.mk none 0 0))))] [] (fun (x:Nat×Nat)=>(vT [(Value.pointer (some ⟨x.1,0,none⟩)),(vI 0)])) (fun (x:Nat×Nat)=>True) (fun (x:Nat×Nat)=>[(cb x.1 317 (oI.cells (oI.mk (qF.mk (aV.mk none 0 0)) (Value.map (some x.2))))),(iu iV x.2 (bR (fun s=>vA (js.cells s)) ([]:List (Int×js))))]):=by
 refine cR kr Tryz.func195 U U fun E Q hQ hN=>?_
 try dsimp only
 refine aS bS 2 U<|dV U fun D=>cm aj 7 [] (mc 0 U mn) ?_;refine lj (kV:=iV) U U fun A=>?_
 try dsimp only
 refine rS (SX (aU (xs:=[(0,.tmp 8),(1,.tmp 9)]) (cs:=(oI.cells (oI.mk (qF.mk (aV.mk none 0 0)) (Value.map (some A))))) U U (aT W2 U)) U U)<|dV U fun B=>dD aj 18 [] (mc 2 U mn) U<|iY 1<|eh fun R9 C=>aS bS 2 U<|rS (SX (ck (r:= .bool false) U U U g_) U U)<|aS aj 5 U<|dD fD 8 [] (mc 2 U mn) U<|rS (SX (ck (r:= .bool false) U U U Ot) U U)<|aq aj 13 ?_;refine LX hQ (B,A) [0,1] [] mn U U U U ?_;trivial
variable (f:Value)
theorem Hg:
 de Tryz.prog 247 [(vS none 0 0),f] [] (vI (-1)):=by
 refine bg kr Tryz.func247 U U fun B Q hQ hN=>?_
 try dsimp only
 exact aS bS 14 U<|iY 1<|eh fun R4 A=>aS bS 2 U<|rS (SX (ck (r:= .bool false) U U U g_) U U)<|aS aj 5 U<|cr fD 8 hQ U U<|cI I
theorem Im:
 de Tryz.prog 224 [(vS none 0 0),f] [] (vB false):=by
 refine bg kr Tryz.func224 U U fun A Q hQ hN=>?_
 try dsimp only
 refine aS bS 9 U<|rS (CL (Hg f) (aA) U)<|rS (SX (ck (r:= .bool false) U U U Gy) U U)<|cr aj 4 hQ U U ?_
 first|rfl|(simp;done)
theorem Sj:
 de Tryz.prog 225 [(vA (l_.cells (l_.mk (aV.mk none 0 0) 500 0 0 (aV.mk none 0 0) (aV.mk none 0 0) 0 false)))] [] (vB true):=by
 refine bg kr Tryz.func225 U U fun N Q hQ hN=>?_
 try dsimp only
 refine aS bS 2 U<|dV U fun M=>cm aj 7 [] (mc 0 U mn) ?_;refine dC (xs:=[.tmp 4]) (cs:=[(vI 500)]) U cM jW U U U U (by simp [Value.cells]) U U fun G=>?_;refine rS (CL (de.eq (w6 0 1000000 ([500]) (some ⟨G,0,none⟩) 1 sd) cp) (aw (aM 0 U U (by simp [br]) U)<|aA) U) ?_;refine aq aj 1 ?_;refine cz (t:=7) U (aG fun L=>?_) (aH fun L=>?_)
 ·exfalso;omega
 refine cm aj 2 [] (mc 1 U mn) ?_;refine dC (xs:=[.tmp 9]) (cs:=[(vI 0)]) U cM jW U U U U (by simp [Value.cells]) U U fun H=>?_;refine rS (CL (de.eq (w6 0 1000 ([0]) (some ⟨H,0,none⟩) 1 sd) cp) (aw (aM 0 U U (by simp [br]) U)<|aA) U) ?_;refine aq aj 2 ?_;refine cz (t:=13) U (aG fun E=>?_) (aH fun E=>?_)
 ·exfalso;omega
 refine dD aj 2 [] (mc 2 U mn) U<|dC (xs:=[.tmp 15]) (cs:=[(vI 0)]) U cM jW U U U U (by simp [Value.cells]) U U fun AA=>cm aj 2 [] (mc 3 U mn) ?_;refine g0 (es:=(map iC [0])) (C':=[own (some ⟨AA,0,none⟩) 1 3 1 (map iC [0]),_,_,_]) 0 U (by simp [br]) U (by simp [maxLen]) U ?_;refine cZ (es2:=(map iC (([0])++([])))) (m':=(([0])++([])).length) 0 U U U pI U U sm (vn _ _) sm os (by first|(simp only [maxLen];omega)|(simp [maxLen];omega)) sm sm U fun F K=>?_
 try dsimp only
 refine rS (CL (w6 (-1000) 1000 (([0])++([])) F K sd) (aw (ak (n:=(([0])++([])).length) 0 U sm)<|aA) U) ?_;refine aq aj 2 ?_;refine cz (t:=22) U (fun A=>?_) (fun A=>?_)
 ·exact noConfusion (A.symm.trans (show oK (-1000) 1000 ([0]++[])=true by decide))
 refine dD aj 2 [] (mc 3 U mn) U<|dC (xs:=[.tmp 24]) (cs:=[(vI 0)]) U cM jW U U U U (by simp [Value.cells]) U U fun J=>cm aj 2 [] (mc 4 U mn) ?_;refine g0 (es:=(map iC [0])) (C':=[own (some ⟨J,0,none⟩) 1 3 1 (map iC [0]),_,_,_,_]) 0 U (by simp [br]) U (by simp [maxLen]) U ?_;refine cZ (es2:=(map iC (([0])++([])))) (m':=(([0])++([])).length) 0 U U U pI U U sm (vn _ _) sm os (by first|(simp only [maxLen];omega)|(simp [maxLen];omega)) sm sm U fun C D=>?_
 try dsimp only
 refine rS (CL (w6 0 2000 (([0])++([])) C D sd) (aw (ak (n:=(([0])++([])).length) 0 U sm)<|aA) U) ?_;refine aq aj 2 ?_;refine cz (t:=31) U (fun B=>?_) (fun B=>?_)
 ·exact noConfusion (B.symm.trans (show oK 0 2000 ([0]++[])=true by decide))
 refine dD aj 3 [] (mc 4 U mn) U<|rS (SX (ck (r:= .bool true) U U U Iz) U U)<|dD aj 5 [] (mc 4 U mn) U<|rS (SX (ck (r:= .bool true) U U U Iz) U U)<|cr aj 5 hQ U U ?_
 first|rfl|(simp;done)|(exact cB dc)
theorem S4 (gh gm:Nat):
 de Tryz.prog 196 [(vP gh),(vA (l_.cells (l_.mk (aV.mk none 0 0) 500 0 0 (aV.mk none 0 0) (aV.mk none 0 0) 0 false)))] [(cb gh 317 (oI.cells (oI.mk (qF.mk (aV.mk none 0 0)) (Value.map (some gm))))),(iu iV gm (bR (fun s=>vA (js.cells s)) ([]:List (Int×js))))] (vB true):=by
 refine bg kr Tryz.func196 U U fun C Q hQ hN=>?_
 try dsimp only
 refine aS bS 2 U<|sR U U fun A=>dV U fun B=>aS aj 5 U<|rS (FU U)<|dD aj 8 [] (mc 0 U mn) U<|rS (SX (ck (r:= .bool true) U U U Iz) U U)<|dD aj 4 [] (mc 0 U mn) U<|rS (CL (Im (Value.func (.func 222) [].toArray [(vP A)].toArray)) (aA) U)<|dD aj 4 [] (mc 0 U mn) U<|rS (CL Sj (aA) U)<|cr aj 5 hQ U U ?_
 first|rfl|(simp;done)
end
end Go.Proofs.YtgnlmfdknlbkkaaGreatDoor
