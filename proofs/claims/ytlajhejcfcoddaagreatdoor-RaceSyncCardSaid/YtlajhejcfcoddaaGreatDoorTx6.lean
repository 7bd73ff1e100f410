/-
 The statement raceSync_said, part 6 of 8: B5, B6, Frozen, MarkD, Marks, Follow, OpenM, V2, V1, V4, V3, V5, V6, V8, Wh2, Rc2, Rc3, Rc4, Rs3, Rs4, Rs6, Rs7, Rs8, RkB, RaB, RtB, Rp0, Rp1, Rp2, Rt1.
 Conditions: none.
-/
import Derived.Test.YtlajhejcfcoddaaGreatDoorTx1
import Derived.Test.YtlajhejcfcoddaaGreatDoorTx2
import Derived.Test.YtlajhejcfcoddaaGreatDoorTx3
import Derived.Test.YtlajhejcfcoddaaGreatDoorTx4
import Derived.Test.YtlajhejcfcoddaaGreatDoorTx5
namespace Go.Proofs.YtlajhejcfcoddaaGreatDoor
set_option maxRecDepth 100000
set_option maxHeartbeats 4000000
set_option linter.unusedVariables false
section
open Go.RowKit
theorem P3 (l:aX) (kA:OA) (kC:Nat) (az:List RA) (cA:OA) (cC:Nat) (bA:OA) (bC:Nat) (hin:ew l az):
 eB Tryz.prog 153 [(vA (bZ.cells (lJ l kA kC cA cC bA bC)))] [(rd kA l.aL.length 9 (l.aL.map ak.cells)),(rd cA l.ah.length 2 (List.zipWith ao.cells l.ah az)),(e9 (aW ao.gP l.ah az)),(rd bA l.ae.length 4 (l.ae.map bE.cells))] (vB (decide (gE l))):=by
 have R:=hin.sw
 have P:=hin.sr
 have N:=hin.oo
 have O:=hin.sH
 refine bG kr Tryz.func153 U U fun T Q hQ hN=>?_
 try dsimp only
 refine WS fun _ G=>gd U fun S=>bo 1 U<|RK G<|WS fun _ A=>rP 2 [] (mc 0 U mn) ?_
 refine c_ (xs:=[.tmp 4]) (cs:=[(vI l.gk)]) U cL jA U U U U (by simp [Value.cells]) U U fun H=>?_
 refine rS (CL (eB.eq (jn 1 5000 ([l.gk]) (some ⟨H,0,none⟩) 1 (by (simp; done))) cZ) (au (aZ 0 U U (by simp [bI]) U)<|aI) U) ?_
 refine rP 1 [] mn ?_
 refine cu (t:=7) U (aP fun K=>?_) (aQ fun K=>?_)
 ·refine rP 36 [] mn ?_
  refine RK A<|ar<|Q1 hQ U U U ?_
  exact cB (ct (by unfold gE; omega)).symm
 refine rP 3 [] (mc 1 U mn) ?_
 refine c_ (xs:=[.tmp 10]) (cs:=[(vI (l.ah.length:Int))]) U cL jA U U U U (by simp [Value.cells]) U U fun AA=>?_
 refine rS (CL (eB.eq (jn 1 4 ([(l.ah.length:Int)]) (some ⟨AA,0,none⟩) 1 (by (simp; done))) cZ) (au (aZ 0 U U (by simp [bI]) U)<|aI) U) ?_
 refine rP 2 [] mn ?_
 refine cu (t:=14) U (aP fun L=>?_) (aQ fun L=>?_)
 ·refine rP 29 [] mn ?_
  refine RK A<|ar<|Q1 hQ U U U ?_
  exact cB (ct (by unfold gE; omega)).symm
 refine rP 3 [] (mc 2 U mn) ?_
 refine c_ (xs:=[.tmp 17]) (cs:=[(vI (l.ae.length:Int))]) U cL jA U U U U (by simp [Value.cells]) U U fun J=>?_
 refine rS (CL (eB.eq (jn 1 6 ([(l.ae.length:Int)]) (some ⟨J,0,none⟩) 1 (by (simp; done))) cZ) (au (aZ 0 U U (by simp [bI]) U)<|aI) U) ?_
 refine rP 2 [] mn ?_
 refine cu (t:=21) U (aP fun M=>?_) (aQ fun M=>?_)
 ·refine rP 22 [] mn ?_
  refine RK A<|ar<|Q1 hQ U U U ?_
  exact cB (ct (by unfold gE; omega)).symm
 refine rP 6 [] (mc 3 U mn) ?_
 refine c_ (xs:=[.tmp 27]) (cs:=[(vI l.bU)]) U cL jA U U U U (by simp [Value.cells]) U U fun B=>?_
 refine rS (CL (eB.eq (jn 0 ((l.ae.length:Int)-1) ([l.bU]) (some ⟨B,0,none⟩) 1 (by (simp; done))) cZ) (au (aZ 0 U U (by simp [bI]) U)<|aI) U) ?_
 refine rP 2 [] mn ?_
 refine cu (t:=31) U (aP fun E=>?_) (aQ fun E=>?_)
 ·refine rP 12 [] mn ?_
  refine RK A<|ar<|Q1 hQ U U U ?_
  exact cB (ct (by unfold gE; omega)).symm
 refine rP 2 [] (mc 4 U mn) ?_
 refine c_ (xs:=[.tmp 33]) (cs:=[(vI l.dN)]) U cL jA U U U U (by simp [Value.cells]) U U fun C=>?_
 refine rS (CL (eB.eq (jn 0 3 ([l.dN]) (some ⟨C,0,none⟩) 1 (by (simp; done))) cZ) (au (aZ 0 U U (by simp [bI]) U)<|aI) U) ?_
 refine rP 2 [] mn ?_
 refine cu (t:=37) U (aP fun F=>?_) (aQ fun F=>?_)
 ·refine rP 6 [] mn ?_
  refine RK A<|ar<|Q1 hQ U U U ?_
  exact cB (ct (by unfold gE; omega)).symm
 refine rP 2 [] (mc 5 U mn) ?_
 refine c_ (xs:=[.tmp 39]) (cs:=[(vI l.cw)]) U cL jA U U U U (by simp [Value.cells]) U U fun D=>?_
 refine rS (CL (eB.eq (jn 0 3 ([l.cw]) (some ⟨D,0,none⟩) 1 (by (simp; done))) cZ) (au (aZ 0 U U (by simp [bI]) U)<|aI) U) ?_
 refine rP 2 [] mn ?_
 refine RK A<|ar<|Q1 hQ U U U ?_
 exact cB (gO.2 (by unfold gE; omega))
theorem Qm (l:aX) (kA:OA) (kC:Nat) (az:List RA) (cA:OA) (cC:Nat) (bA:OA) (bC:Nat) (hin:ew l az):
 eB Tryz.prog 154 [(vA (bZ.cells (lJ l kA kC cA cC bA bC)))] [(rd kA l.aL.length 9 (l.aL.map ak.cells)),(rd cA l.ah.length 2 (List.zipWith ao.cells l.ah az)),(e9 (aW ao.gP l.ah az)),(rd bA l.ae.length 4 (l.ae.map bE.cells))] (vB (decide (∀ c∈l.ah,fm c))):=by
 have H:=hin.sw
 have G:=hin.sr
 have E:=hin.oo
 have F:=hin.sH
 refine bG kr Tryz.func154 U U fun K Q hQ hN=>?_
 try dsimp only
 refine WS fun _ C=>gd U fun J=>bo 1 U<|RK C<|WS fun _ D=>rP 2 [] (mc 0 U mn) ?_
 refine rS (CL (AX l.ah az cA cC (Value.func (.func 156) [].toArray [].toArray) (fun m=>(!(decide (fm m)))) (e9 (aW ao.gP l.ah az)) (by intro AA m a B A; exact oi (fi:=[]) (ca:=[]) (TU l.ah az AA m a (by exact B) (by exact A) (by exact hin.LL _ _ _ B A))) asm asm) (NR 2 3 3 U U U U U U) U) ?_
 refine rP 2 [] mn ?_
 refine RK D<|ar<|Q1 hQ U U U ?_
 exact cB (by rw [Bool.eq_iff_iff,decide_eq_true_eq]; exact EO)
theorem Rp (b:bE) (l:aX) (kA:OA) (kC:Nat) (az:List RA) (cA:OA) (cC:Nat) (bA:OA) (bC g1:Nat) (hin:ew l az) (htr:db l.aL=true):
 eB Tryz.prog 160 [(vA (bE.cells b)),(vP g1)] [(rd kA l.aL.length 9 (l.aL.map ak.cells)),(rd cA l.ah.length 2 (List.zipWith ao.cells l.ah az)),(e9 (aW ao.gP l.ah az)),(rd bA l.ae.length 4 (l.ae.map bE.cells)),(cd g1 28 (bZ.cells (lJ l kA kC cA cC bA bC)))] (vB (!(decide (j0 l b)))):=by
 have J:=hin.sw
 have H:=hin.sr
 have F:=hin.oo
 have G:=hin.sH
 have AA:=hin.side
 refine bG kr Tryz.func160 U U fun M Q hQ hN=>?_
 try dsimp only
 refine WS fun _ C=>gd U fun K=>bo 1 U<|RK C<|WS fun _ D=>bo 1 U<|rS (VY (bB.cells (bB.mk (bj.mk kA l.aL.length kC))) 5 U cj U U U)<|bo 1 U<|rS (LP (cN.cells b.mY) 0 U cj U U U)<|rS (CL (Tb l.aL kA kC b.mY asm asm) (bp [1]) U)<|bo 3 U<|AL U dv fun L=>gl U cy U<|bo 1 U<|RK D<|WS fun _ B=>rP 3 [] mn ?_
 refine dp (t:=16) U (bx fun A=>?_) (bw fun A=>?_)
 ·refine rP 11 [] mn ?_
  refine RK B<|ar<|Q1 hQ U U U ?_
  (refine cB ?_; rw [ct (fun h:j0 l b=>A ((Fy htr).2 h.1))]; rfl)
 refine rP 6 [0,1] (mr 6 U (mc 1 U mn)) ?_
 refine c_ (xs:=[.tmp 22]) (cs:=[(vI b.jk)]) U cL jA U U U U (by simp [Value.cells]) U U fun E=>?_
 refine rS (CL (eB.eq (jn 0 ((l.ah.length:Int)-1) ([b.jk]) (some ⟨E,0,none⟩) 1 (by (simp; done))) cZ) (au (aZ 0 U U (by simp [bI]) U)<|aI) U) ?_
 refine rP 3 [] mn ?_
 refine RK B<|ar<|Q1 hQ U U U ?_
 (refine cB ?_; refine congrArg Bool.not (gO.2 ⟨fun h=>⟨(Fy htr).1 A,I,I⟩,fun h=>by have:=h.2; omega⟩))
theorem PT (l:aX) (kA:OA) (kC:Nat) (az:List RA) (cA:OA) (cC:Nat) (bA:OA) (bC:Nat) (hin:ew l az) (htr:db l.aL=true):
 eB Tryz.prog 158 [(vA (bZ.cells (lJ l kA kC cA cC bA bC)))] [(rd kA l.aL.length 9 (l.aL.map ak.cells)),(rd cA l.ah.length 2 (List.zipWith ao.cells l.ah az)),(e9 (aW ao.gP l.ah az)),(rd bA l.ae.length 4 (l.ae.map bE.cells))] (vB (decide (∀ b∈l.ae,j0 l b))):=by
 have H:=hin.sw
 have G:=hin.sr
 have E:=hin.oo
 have F:=hin.sH
 refine bG kr Tryz.func158 U U fun AA Q hQ hN=>?_
 try dsimp only
 refine WS fun _ B=>gd U fun A=>bo 1 U<|RK B<|WS fun _ C=>rP 2 [] (mc 0 U mn) ?_
 refine rS (FU U) ?_
 refine rS (CL (AE l.ae bA bC (Value.func (.func 160) [].toArray [(vP A)].toArray) (fun D=>(!(decide (j0 l D)))) (e9 [(rd kA l.aL.length 9 (l.aL.map ak.cells)),(rd cA l.ah.length 2 (List.zipWith ao.cells l.ah az)),(e9 (aW ao.gP l.ah az)),(rd bA l.ae.length 4 (l.ae.map bE.cells)),(cd A 28 (bZ.cells (lJ l kA kC cA cC bA bC)))]) (by intro D _; exact oi (fi:=[]) (ca:=[(vP A)]) (mA (Rp D l kA kC az cA cC bA bC A (by first|assumption|omega) (by first|assumption|omega)) (bp [0,1,2,3,4]))) asm) (fP 4 U U<|au (mB (bp [1,2,3,4,0]))<|aI) U) ?_
 refine rP 2 [] mn ?_
 refine RK C<|ar<|Q1 hQ U U U ?_
 exact cB (by rw [Bool.eq_iff_iff,decide_eq_true_eq]; exact Hx)
theorem Pw (l:aX) (kA:OA) (kC:Nat) (az:List RA) (cA:OA) (cC:Nat) (bA:OA) (bC:Nat) (n:Int) (hin:ew l az) (htr:db l.aL=true) (hbk: ∀ b∈l.ae,j0 l b) (hn:0≤n∧n<(l.ae.length:Int)):
 eB Tryz.prog 96 [(vA (bZ.cells (lJ l kA kC cA cC bA bC))),(vI n)] [(rd kA l.aL.length 9 (l.aL.map ak.cells)),(rd cA l.ah.length 2 (List.zipWith ao.cells l.ah az)),(e9 (aW ao.gP l.ah az)),(rd bA l.ae.length 4 (l.ae.map bE.cells))] (vI (lS l n.toNat)):=by
 have P:=hin.sw
 have N:=hin.sr
 have L:=hin.oo
 have M:=hin.sH
 have O:=hin.side
 refine bG kr Tryz.func96 U U fun AA Q hQ hN=>?_
 try dsimp only
 refine WS fun _ E=>gd U fun R=>bo 1 U<|RK E<|WS fun _ F=>rP 3 [] (mc 0 U mn) ?_
 obtain ⟨x,hx⟩:=aJ l.ae ((n).toNat) I
 have J:=bO bE.cells hx
 refine rS (IA ((n).toNat) U (aC 4 U) vo dc I I)<|rS (mW (((n).toNat)*4) U (aC 4 U) (Nat.mul_pos I dc) fw U)<|rS (oY ((n).toNat) 0 (cN.cells x.mY) U cj (aC 4 U) J U dc U U)<|AL U Dr fun S=>gl U IU U<|RK F<|WS fun _ G=>bo 1 U<|rS (LP (bB.cells (bB.mk (bj.mk kA l.aL.length kC))) 1 U cj U U U)<|fY 1 [] (mc 0 U mn) U<|rS (CL (Tb l.aL kA kC x.mY asm asm) (bp [2]) U)<|bo 3 U<|AL U dv fun T=>gl U cy U<|bo 1 U<|RK G<|aj fun _ C=>WS fun _ H=>rP 2 [] mn ?_
 refine RK H<|bS U (aP fun D=>?_) (aQ fun D=>?_)
 ·refine WK C<|WS fun _ B=>rP 3 [] (mc 0 U mn) ?_
  refine RK B<|ar<|Q1 hQ U U U ?_
  (refine congrArg (Value.int .i64) ?_; rw [show n.toNat=0 by omega] at hx ⊢; rw [zn hx,(yh htr (hbk _ (List.mem_of_getElem? hx)).1).2])
 refine dK cx [14] [] [] [1,2,3,4,5,6] [] U U U U U<|eS U (FA 0 U fw U)<|eS U (LP (bB.cells (bB.mk (bj.mk kA l.aL.length kC))) 1 U cj U U U)<|eS U (FA 3 U fw U)<|eS U (L1 (vS bA l.ae.length bC) 1 U cj U U)<|eS U (MV U)<|eS U (BI U (su ⟨I,I⟩)) ?_
 obtain ⟨y,hy⟩:=aJ l.ae (((n-1)).toNat) I
 have K:=bO bE.cells hy
 refine eS U (IA (((n-1)).toNat) U (aC 5 U) vo dc I I)<|eS U (mW ((((n-1)).toNat)*4) U (aC 5 U) (Nat.mul_pos I dc) fw U)<|eS U (oY (((n-1)).toNat) 0 (cN.cells y.mY) U cj (aC 5 U) K U dc U U)<|eS U (LW 0 U cj U U)<|eS U (CL (NI l.aL kA kC y.mY x.mY asm asm) (bp [2]) U)<|eS U (MV U)<|eS U (EX U)<|eS U (EX U)<|eT U<|cf U fun T9 AB=>gl U cy U<|aA (AB _ _ (aG [1,2,3,4,5,6]) ?_)
 refine fO U<|KK C<|WS fun _ A=>rP 3 [] (mc 0 U mn) ?_
 refine RK A<|ar<|Q1 hQ U U U ?_
 (refine congrArg (Value.int .i64) ?_; rw [DB I hx (by rw [show n.toNat-1=(n-1).toNat by omega]; exact hy),(lG htr ⟨(hbk _ (List.mem_of_getElem? hy)).1,(hbk _ (List.mem_of_getElem? hx)).1⟩).2])
theorem QK (l:aX) (kA:OA) (kC:Nat) (az:List RA) (cA:OA) (cC:Nat) (bA:OA) (bC:Nat) (hin:ew l az) (htr:db l.aL=true) (hbk: ∀ b∈l.ae,j0 l b):
 eB Tryz.prog 161 [(vA (bZ.cells (lJ l kA kC cA cC bA bC)))] [(rd kA l.aL.length 9 (l.aL.map ak.cells)),(rd cA l.ah.length 2 (List.zipWith ao.cells l.ah az)),(e9 (aW ao.gP l.ah az)),(rd bA l.ae.length 4 (l.ae.map bE.cells))] (vB (decide (∀ i,i<l.ae.length→1≤lS l i))):=by
 have V:=hin.sw
 have AA:=hin.sr
 have S:=hin.oo
 have T:=hin.sH
 refine bG kr Tryz.func161 U U fun X Q hQ hN=>?_
 try dsimp only
 refine WS fun _ J=>gd U fun W=>bo 1 U<|RK J<|aj fun _ K=>WS fun _ L=>rP 4 [] (mc 0 U mn) ?_
 refine RK L<|ax ?_
 have A:(0≤l.ae.length)∧(∀ j,j<0→1≤lS l j):=by exact ⟨Nat.zero_le _,fun j hj=>absurd hj (Nat.not_lt_zero _)⟩
 refine bL (ι:={z:Nat // (z≤l.ae.length)∧(∀ j,j<z→1≤lS l j)}) [1,6] [0,1,2,3,4] U U (fun z=>[(7,(vI (z.1:Int)))]) (fun z=>[]) (fun _=>rfl) (fun _=>rfl) (fun z=>l.ae.length-z.1) ⟨0,A⟩ (aU U) (aG [0,1,2,3,4]) ?_
 clear A
 rintro ⟨i,⟨P,B⟩⟩ J5 AB
 try dsimp only
 refine WS fun _ M=>rP 1 [] mn ?_
 refine RK M<|aj fun _ N=>bS U (aP fun R=>?_) (aQ fun R=>?_)
 ·refine bD<|ab<|ab<|ay<|KK K<|WS fun _ G=>rP 1 [] mn ?_
  refine RK G<|ar<|Q1 hQ U U U ?_
  exact cB (gf (fun j hj=>B j I)).symm
 refine WK N<|aj fun _ O=>ax<|WS fun _ D=>bo 2 U<|RK D<|WS fun _ E=>fY 2 [] (mc 0 U mn) U<|rS (CL (Pw l kA kC az cA cC bA bC (i:Int) hin htr hbk I) (bp [1,2,3,4]) U)<|rP 1 [] mn ?_
 refine RK E<|cP U (aQ fun C=>?_) (aP fun C=>?_)
 ·refine WS fun _ F=>rP 1 [] mn ?_
  refine RK F<|ar<|Q1 hQ U U U ?_
  exact cB (ct (fun h=>by have:=h i I; simp only [Int.toNat_natCast] at C; omega)).symm
 refine cr<|aH<|KK O<|al<|rP 2 [] mn ?_
 refine aA ?_
 have H:(vI (((i+1):Nat):Int))=(vI ((i:Int)+1)):=by exact cI I
 refine aV (AB ⟨(i+1),⟨I,fun j hj=>by rcases Nat.lt_or_ge j i with q|q; exact B j q; (obtain rfl:j=i:=by omega); simp only [Int.toNat_natCast] at C; omega⟩⟩ _ _ _ rfl os (dF.cons rfl<|dF.cons rfl<|bk rfl H<|dF.nil _) (aG [0,1,2,3,4]))
end
section
open Go.RowKit
theorem Rb:
 eB Tryz.prog 111 [] [] (vA ((gY.cells (gY.mk (Value.func (.func 153) [].toArray [].toArray)))++(gY.cells (gY.mk (Value.func (.func 154) [].toArray [].toArray)))++(gY.cells (gY.mk (Value.func (.func 158) [].toArray [].toArray)))++(gY.cells (gY.mk (Value.func (.func 161) [].toArray [].toArray))))):=by
 refine bG kr Tryz.func111 U U fun D Q hQ hN=>?_
 try dsimp only
 refine WS fun _ A=>AL U S7 fun C=>RK A<|WS fun _ B=>rS (SX (bh (xs:=[(0,.func 153)]) (cs:=(gY.cells (gY.mk (Value.func (.func 153) [].toArray [].toArray)))) U U (bg F2 U)) U U)<|rS (SX (bh (xs:=[(0,.func 154)]) (cs:=(gY.cells (gY.mk (Value.func (.func 154) [].toArray [].toArray)))) U U (bg F2 U)) U U)<|rS (SX (bh (xs:=[(0,.func 158)]) (cs:=(gY.cells (gY.mk (Value.func (.func 158) [].toArray [].toArray)))) U U (bg F2 U)) U U)<|rS (SX (bh (xs:=[(0,.func 161)]) (cs:=(gY.cells (gY.mk (Value.func (.func 161) [].toArray [].toArray)))) U U (bg F2 U)) U U)<|rS (SX (bh (xs:=[(0,.tmp 1),(1,.tmp 2),(2,.tmp 3),(3,.tmp 4)]) (cs:=((gY.cells (gY.mk (Value.func (.func 153) [].toArray [].toArray)))++(gY.cells (gY.mk (Value.func (.func 154) [].toArray [].toArray)))++(gY.cells (gY.mk (Value.func (.func 158) [].toArray [].toArray)))++(gY.cells (gY.mk (Value.func (.func 161) [].toArray [].toArray))))) U U (bg Ua U)) U U)<|gl U To U<|RK B<|ar ?_
 exact IC hQ [0] (mc 0 U mn) U U
theorem C5 (l:aX) (kA:OA) (kC:Nat) (az:List RA) (cA:OA) (cC:Nat) (bA:OA) (bC:Nat) (hin:ew l az):
 eB Tryz.prog 73 [(vA (bZ.cells (lJ l kA kC cA cC bA bC)))] [(rd kA l.aL.length 9 (l.aL.map ak.cells)),(rd cA l.ah.length 2 (List.zipWith ao.cells l.ah az)),(e9 (aW ao.gP l.ah az)),(rd bA l.ae.length 4 (l.ae.map bE.cells))] (vI (dD l)):=by
 have A0:=hin.sw
 have Ao:=hin.sr
 have AO:=hin.oo
 have AS:=hin.sH
 have Ap:=hin.side
 refine bG kr Tryz.func73 U U fun w0 Q hQ hN=>?_
 try dsimp only
 refine WS fun _ m=>gd U fun b2=>bo 1 U<|RK m<|aj fun _ n=>WS fun _ o=>bo 1 U<|rS (LP (bB.cells (bB.mk (bj.mk kA l.aL.length kC))) 0 U cj U U U)<|rS (CL (B_ l.aL kA kC asm asm) (bp [1]) U)<|bo 1 U<|RK o<|WS fun _ p=>rP 2 [] mn ?_
 refine RK p<|cP U (bx fun B=>?_) (bw fun B=>?_)
 ·refine WS fun _ q=>rP 2 [] mn ?_
  refine RK q<|ar<|Q1 hQ U U U ?_
  (refine cI ?_; rw [(zx B).2,zc (zx B).1])
 refine WK n<|aj fun _ s=>WS fun _ t=>?_
 have A:=D7 B
 refine rS (CL Rb (aI) U)<|bo 1 U<|RK t<|ax<|kj 5<|eH fun R9 u=>WS fun _ C=>rS (SX (cb (r:= .bool true) U U U hU) U U)<|RK C<|aj fun _ D=>aR U<|WK D<|aj fun _ E=>ax<|WS fun _ F=>rS (SX (uw (vs:=(gY.cells (gY.mk (Value.func (.func 153) [].toArray [].toArray)))) 0 U U U GD cj U dc U) U U)<|AL U FZ fun x=>gl U F5 U<|RK F<|WS fun _ G=>fY 3 [0,1] (mc 0 U (mc 1 U mn)) U<|rS (CL (P3 l kA kC az cA cC bA bC hin) (bp [2,3,4,5]) U)<|rP 1 [] mn ?_
 refine RK G<|cP U (bx fun g=>?_) (bw fun g=>?_)
 ·refine WS fun _ H=>rP 1 [] mn ?_
  refine RK H<|ar<|Q1 hQ U U U ?_
  exact cI (qF A fun h=>absurd h.head asm).symm
 refine cr<|aH<|KK E<|al<|rS (SX (cb (r:= .int .i64 1) U U U (iG ⟨dc,dc⟩)) U U)<|bo 1 U<|RK u<|eH fun R18 d=>WS fun _ AB=>rS (SX (cb (r:= .bool true) U U U hU) U U)<|RK AB<|aj fun _ J=>aR U<|WK J<|aj fun _ K=>ax<|WS fun _ L=>rS (SX (uw (vs:=(gY.cells (gY.mk (Value.func (.func 154) [].toArray [].toArray)))) 1 U U U GD cj U dc U) U U)<|AL U FZ fun y=>gl U F5 U<|RK L<|WS fun _ M=>fY 3 [0,1] (mc 0 U (mc 2 U mn)) U<|rS (CL (Qm l kA kC az cA cC bA bC hin) (bp [3,4,5,6]) U)<|rP 1 [] mn ?_
 refine RK M<|cP U (bx fun i=>?_) (bw fun i=>?_)
 ·refine WS fun _ N=>rP 1 [] mn ?_
  refine RK N<|ar<|Q1 hQ U U U ?_
  exact cI (qF A fun h=>absurd h.clock asm).symm
 refine cr<|aH<|KK K<|al<|rS (SX (cb (r:= .int .i64 2) U U U (iG ⟨dc,dc⟩)) U U)<|bo 1 U<|RK d<|eH fun R27 e=>WS fun _ O=>rS (SX (cb (r:= .bool true) U U U hU) U U)<|RK O<|aj fun _ P=>aR U<|WK P<|aj fun _ R=>ax<|WS fun _ S=>rS (SX (uw (vs:=(gY.cells (gY.mk (Value.func (.func 158) [].toArray [].toArray)))) 2 U U U GD cj U dc U) U U)<|AL U FZ fun z=>gl U F5 U<|RK S<|WS fun _ T=>fY 3 [0,1] (mc 0 U (mc 3 U mn)) U<|rS (CL (PT l kA kC az cA cC bA bC hin asm) (bp [4,5,6,7]) U)<|rP 1 [] mn ?_
 refine RK T<|cP U (bx fun j=>?_) (bw fun j=>?_)
 ·refine WS fun _ AA=>rP 1 [] mn ?_
  refine RK AA<|ar<|Q1 hQ U U U ?_
  exact cI (qF A fun h=>absurd h.td asm).symm
 refine cr<|aH<|KK R<|al<|rS (SX (cb (r:= .int .i64 3) U U U (iG ⟨dc,dc⟩)) U U)<|bo 1 U<|RK e<|eH fun R36 f=>WS fun _ V=>rS (SX (cb (r:= .bool true) U U U hU) U U)<|RK V<|aj fun _ W=>aR U<|WK W<|aj fun _ X=>ax<|WS fun _ Y=>rS (SX (uw (vs:=(gY.cells (gY.mk (Value.func (.func 161) [].toArray [].toArray)))) 3 U U U GD cj U dc U) U U)<|AL U FZ fun AC=>gl U F5 U<|RK Y<|WS fun _ Z=>fY 3 [0,1] (mc 0 U (mc 4 U mn)) U<|rS (CL (QK l kA kC az cA cC bA bC hin asm asm) (bp [5,6,7,8]) U)<|rP 1 [] mn ?_
 refine RK Z<|cP U (bx fun k=>?_) (bw fun k=>?_)
 ·refine WS fun _ a=>rP 1 [] mn ?_
  refine RK a<|ar<|Q1 hQ U U U ?_
  exact cI (qF A fun h=>absurd h.Rw asm).symm
 refine cr<|aH<|KK X<|al<|rS (SX (cb (r:= .int .i64 4) U U U (iG ⟨dc,dc⟩)) U U)<|bo 1 U<|RK f<|eH fun R45 w=>WS fun _ b=>rS (SX (cb (r:= .bool false) U U U hU) U U)<|RK b<|aj fun _ v=>a_ U<|bD<|ab<|ab<|ay<|KK s<|WS fun _ c=>rP 1 [] mn ?_
 refine RK c<|ar<|Q1 hQ U U U ?_
 exact cI (xG A (yO asm asm asm asm)).symm
theorem Cm (lo hi:Int) (f:Value) (p:Int→Bool) (X:av) (r:Int) (hf: ∀ x0,0≤x0∧x0<hi→Ew Tryz.prog f [.int .i64 x0] [X] (.bool (p x0))) (hb:0≤lo∧lo≤r∧r≤hi∧hi≤100000000) (hno: ∀ x,lo≤x→x<r→p x=false) (hyes: ∀ x,r≤x→x<hi→p x=true):
 eB Tryz.prog 137 [(vI lo),(vI hi),f] [X] (vI r):=by
 refine bG kr Tryz.func137 U U fun N Q hQ hN=>?_
 try dsimp only
 refine WS fun _ F=>rP 1 [] mn ?_
 refine RK F<|aj fun _ G=>ax ?_
 have A:(lo≤lo∧lo≤r)∧(r≤hi∧hi≤hi):=by omega
 refine bL (ι:={z:Int×Int // (lo≤z.1∧z.1≤r)∧(r≤z.2∧z.2≤hi)}) [2] [0] U U (fun z=>[(0,(vI z.1.1)),(1,(vI z.1.2))]) (fun z=>[]) (fun _=>rfl) (fun _=>rfl) (fun z=>(z.1.2-z.1.1).toNat) ⟨(lo,hi),A⟩ (aU U) (aG [0]) ?_
 clear A
 rintro ⟨⟨a,b⟩,⟨B,C⟩⟩ J3 D
 try dsimp only at B C
 try dsimp only
 refine aj fun _ H=>WS fun _ AA=>rP 3 [] mn ?_
 refine RK AA<|bS U (aP fun M=>?_) (aQ fun M=>?_)
 ·refine bD<|ab<|ab<|ay<|KK G<|WS fun _ L=>rP 2 [] mn ?_
  refine RK L<|ar<|Q1 hQ U U U ?_
  exact cI I
 refine WK H<|ax<|WS fun _ J=>bo 4 U<|rS (BI U (t_ I I I))<|bo 2 U<|RK J<|WS fun _ K=>rP 2 [] mn ?_
 refine rS (SX (s7 U U U (hf (a+((b-a)/2)) I) (bp [0])) U U)<|RK K<|cP U (fun hp=>?_) (fun hp=>?_)
 ·refine al<|rP 2 [] mn ?_
  refine aA<|aH ?_
  refine aV (D ⟨(a,(a+((b-a)/2))),(by dsimp only; rcases Int.lt_or_le (a+(b-a)/2) r with q|q; (have E:=hno _ I q; (rw [E] at hp; cases hp)); (have E:=hyes _ q I; (refine ⟨⟨I,I⟩,I,I⟩)))⟩ _ _ _ rfl (by simp only []; omega) (aU rfl) (aG [0]))
 refine al<|rP 3 [] mn ?_
 refine aA<|aH ?_
 refine aV (D ⟨(((a+((b-a)/2))+1),b),(by dsimp only; rcases Int.lt_or_le (a+(b-a)/2) r with q|q; (have E:=hno _ I q; (refine ⟨⟨I,I⟩,I,I⟩)); (have E:=hyes _ q I; (rw [E] at hp; cases hp)))⟩ _ _ _ rfl (by simp only []; omega) (aU rfl) (aG [0]))
theorem LD (u:Int) (c:ao) (sA:OA) (sC g1:Nat) (s:aK) (g2:Nat) (hc:fm c) (hu:0≤u∧u≤90000000):
 eB Tryz.prog 138 [(vI u),(vP g1),(vP g2)] [(rd sA c.aN.length 3 (c.aN.map bJ.cells)),(cd g1 53 (dx.cells (dx.mk c.dq (bj.mk sA c.aN.length sC)))),(cd g2 107 (aK.cells s))] (vB (decide (s.Read≤u+(eO c u).Hi))):=by
 have C:=qX hc hu
 refine bG kr Tryz.func138 U U fun D Q hQ hN=>?_
 try dsimp only
 refine WS fun _ A=>bo 1 U<|RK A<|aj fun _ B=>dH cx 10 kr<|mV 3 [] (mr 1 U mn) U<|dS (CL (FV c sA sC u hc hu) (bp [0]) U)<|dS (SX (lk (v:=(vI ((eO c u).Hi))) U U fw AU U) U U)<|dP 5 [] (mr 2 U mn) ?_
 refine cQ<|RK B<|ar ?_
 exact Q1 hQ U U U U
theorem K9 (u:Int) (c:ao) (sA:OA) (sC g1:Nat) (s:aK) (g2:Nat) (hc:fm c) (hu:0≤u∧u≤90000000):
 eB Tryz.prog 140 [(vI u),(vP g1),(vP g2)] [(rd sA c.aN.length 3 (c.aN.map bJ.cells)),(cd g1 53 (dx.cells (dx.mk c.dq (bj.mk sA c.aN.length sC)))),(cd g2 107 (aK.cells s))] (vB (decide (s.Read<u+(eO c u).Lo))):=by
 have C:=qX hc hu
 refine bG kr Tryz.func140 U U fun D Q hQ hN=>?_
 try dsimp only
 refine WS fun _ A=>bo 1 U<|RK A<|aj fun _ B=>dH cx 10 kr<|mV 3 [] (mr 1 U mn) U<|dS (CL (FV c sA sC u hc hu) (bp [0]) U)<|dS (SX (lk (v:=(vI ((eO c u).Lo))) U U fw Af U) U U)<|dP 5 [] (mr 2 U mn) ?_
 refine cQ<|RK B<|ar ?_
 exact Q1 hQ U U U U
theorem Jv (l:aX) (kA:OA) (kC:Nat) (az:List RA) (cA:OA) (cC:Nat) (bA:OA) (bC:Nat) (s:aK) (hin:ew l az) (hok:lK l) (hs:(0≤s.f_∧s.f_≤(l.ae.length:Int)-1)∧0≤s.Read∧s.Read≤86400000):
 eB Tryz.prog 97 [(vA (bZ.cells (lJ l kA kC cA cC bA bC))),(vA (aK.cells s))] [(rd kA l.aL.length 9 (l.aL.map ak.cells)),(rd cA l.ah.length 2 (List.zipWith ao.cells l.ah az)),(e9 (aW ao.gP l.ah az)),(rd bA l.ae.length 4 (l.ae.map bE.cells))] (vA (aa.cells (cJ l s))):=by
 have V:=hin.sw
 have S:=hin.sr
 have P:=hin.oo
 have R:=hin.sH
 refine bG kr Tryz.func97 U U fun Z Q hQ hN=>?_
 try dsimp only
 refine WS fun _ AB=>gd U fun X=>gd U fun D=>AL U dv fun Y=>RK AB<|aj fun _ J=>dK cx [11,12] [] [] [0,1,2,3,4,5,6] [] U U U U U<|eS U (FA 2 U fw U)<|eS U (L1 (vS cA l.ah.length cC) 2 U cj U U)<|eS U (FA 3 U fw U)<|eS U (L1 (vS bA l.ae.length bC) 2 U cj U U)<|eS U (FA 0 U fw U)<|eS U (L1 (vI s.f_) 1 U cj U U) ?_
 obtain ⟨y,hy⟩:=aJ l.ae ((s.f_).toNat) I
 have O:=bO bE.cells hy
 refine eS U (IA ((s.f_).toNat) U (aC 6 U) vo dc I I)<|eS U (mW ((((s.f_).toNat)*4)+3) U (aC 6 U) (Nat.mul_pos I dc) fw U)<|eS U (gi ((s.f_).toNat) 3 (vI y.jk) U cj (aC 6 U) O U dc U) ?_
 have W:=(hok.td _ (aT hy)).2
 obtain ⟨x,hx⟩:=aJ l.ah ((y.jk).toNat) I
 obtain ⟨xa,F⟩:=aJ az ((y.jk).toNat) I
 have N:(List.zipWith ao.cells l.ah az)[(y.jk).toNat]? =some (ao.cells x xa):=dG hx F
 refine eS U (IA ((y.jk).toNat) U (aC 4 U) uQ dc I I)<|eS U (oY ((y.jk).toNat) 0 (dx.cells (dx.mk x.dq (bj.mk xa.1 x.aN.length xa.2))) U cj (aC 4 U) N U dc U U)<|eT U<|cf U fun T6 L=>AL U Ov fun E=>aA (L _ _ (aG [1,2,3,4,5,6,7]) ?_)
 refine cf U fun T8 M=>gl U TZ U<|aA (M _ _ (aG [1,2,3,4,5,6,7]) ?_)
 refine fO U<|KK J<|WS fun _ K=>?_
 have A:=hok.clock _ (aT hx)
 have AA:=hE (p:=fW x s.Read) (n:=86400001)
 have T:=hE (p:=fU x s.Read) (n:=86400001)
 refine rS (FU U) ?_
 refine rS (CL (Cm 0 86400001 (Value.func (.func 138) [].toArray [(vP E),(vP D)].toArray) (fun B=>(decide (s.Read≤B+(eO x B).Hi))) (e9 [(rd xa.1 x.aN.length 3 (x.aN.map bJ.cells)),(cd E 53 (dx.cells (dx.mk x.dq (bj.mk xa.1 x.aN.length xa.2)))),(cd D 107 (aK.cells s))]) (ek (fW x s.Read) 86400001) (by intro B _; exact oi (fi:=[]) (ca:=[(vP E),(vP D)]) (mA (LD B x xa.1 xa.2 E s D (by first|assumption|omega) (by first|assumption|omega)) (NR 0 1 2 U U U U U U))) I (by intro z G hz; exact (k9 A G I).1 hz) (by intro z hz H; exact (k9 A I H).2.1 hz)) (au (mB (au (show iA _ (rd xa.1 x.aN.length 3 (x.aN.map bJ.cells)).holds from (dA 6 U (bM hx F (by simp [ao.gP]))))<|fP 0 U U<|fP 2 U U<|aI))<|aI) U) ?_
 refine rS (FU U) ?_
 refine rS (CL (Cm 0 86400001 (Value.func (.func 140) [].toArray [(vP E),(vP D)].toArray) (fun C=>(decide (s.Read<C+(eO x C).Lo))) (e9 [(rd xa.1 x.aN.length 3 (x.aN.map bJ.cells)),(cd E 53 (dx.cells (dx.mk x.dq (bj.mk xa.1 x.aN.length xa.2)))),(cd D 107 (aK.cells s))]) (ek (fU x s.Read) 86400001) (by intro C _; exact oi (fi:=[]) (ca:=[(vP E),(vP D)]) (mA (K9 C x xa.1 xa.2 E s D (by first|assumption|omega) (by first|assumption|omega)) (NR 0 1 2 U U U U U U))) I (by intro z G hz; exact (k9 A G I).2.2.1 hz) (by intro z hz H; exact (k9 A I H).2.2.2 hz)) (au (mB (au (show iA _ (rd xa.1 x.aN.length 3 (x.aN.map bJ.cells)).holds from (dA 6 U (bM hx F (by simp [ao.gP]))))<|fP 0 U U<|fP 2 U U<|aI))<|aI) U) ?_
 refine rP 1 [] mn ?_
 refine rS (SX (bh (xs:=[(0,.tmp 18),(1,.tmp 21)]) (cs:=(aa.cells (aa.mk (ek (fW x s.Read) 86400001) ((ek (fU x s.Read) 86400001)-1)))) U U (bg gH U)) U U)<|ti U cy U<|RK K<|ar<|IC hQ [0] (mc 1 U mn) U ?_
 unfold cJ m7; rw [wT hy hx]
end
section
open Go.RowKit
structure Ls (S:BS) (w0:World) (X:av) (C0:List av) (w:World) (S':BS):Prop where
 st:St S w0 (X::C0) w
 w_: ∀ b,S'.w b↔ ∃ A∈C0,A.wf b
theorem EP {A B:av} (h:DP A B):DP A.ro B:=fun b C D=>⟨fun h=>h,(h b C D).2⟩
theorem Bu {E:fq} {c:Code} {Q:df} {D:hP} {L:dh} {C C0:List av} {X:av} (i:Nat) (hn:decide (i::(List.range C.length).filter fun k=>k != i).Nodup=true) (hC:kJ C (i::(List.range C.length).filter fun k=>k != i)=X::C0)
 (h: ∀ w S',Ls E.S E.w0 X C0 w S'→WJ ⟨E.P,E.r,E.n,S',w⟩ c Q D L (X.ro::C0)):WJ E c Q D L C:=fun a w hf hs=>by
 have F:=St.kJ _ hn hC hs
 obtain ⟨G,H⟩:=List.pairwise_cons.1 F.sep
 refine h w ⟨fun b=> ∃ A∈C0,A.wf b,fun _=>True⟩ ⟨F,fun b=>Iff.rfl⟩ a w hf ⟨ei.refl _ _,fun A hA=>?_,List.Pairwise.cons (fun B hB=>EP (G B hB)) H,fun A hA b hb=>?_,fun A hA b hb=> .inr trivial⟩
 ·rcases bu.1 hA with rfl|hA
  ·exact F.holds X (cq ..)
  ·exact F.holds A (cV _ hA)
 ·rcases bu.1 hA with rfl|hA
  ·exact hb.elim
  ·exact .inr ⟨A,hA,hb⟩
theorem Bl {E:fq} {S':BS} {w:World} {K:Act→World→Prop} {D:hP} {L:dh} {C0 C1 C2:List av} {X:av} (hz:Ls E.S E.w0 X C0 w S') (is:List Nat) (hn:decide is.Nodup=true) (hC:kJ C2 is=C1) (hwr:C1.all (·.wr)=true)
 (h:KJ E K D L (X::C1)):KJ ⟨E.P,E.r,E.n,S',w⟩ K D L C2:=fun a w' hf hs=>by
 have F:=St.kJ is hn hC hs
 have C:=hz.st
 obtain ⟨J,M⟩:=List.pairwise_cons.1 C.sep
 have AA: ∀ b,X.fK b→ ¬ S'.w b:=fun b hb hw=>by
  obtain ⟨A,hA,hw⟩:=(hz.w_ b).1 hw
  exact (J A hA b hb (A.kK b hw)).2 hw
 have G: ∀ b,S'.w b→E.w0.heap.size≤b∨E.S.w b:=fun b hb=>by
  obtain ⟨A,hA,hw⟩:=(hz.w_ b).1 hb
  exact C.own A (cV _ hA) b hw
 have H: ∀ A∈C1,∀ b,A.fK b→w.heap.size≤b∨S'.w b:=fun A hA b hb=>F.own A hA b (A.whole (cW.1 hwr A hA) b hb)
 refine h a w' hf ⟨?_,fun A hA=>?_,List.Pairwise.cons (fun B hB b hb hb'=>?_) F.sep,fun A hA b hb=>?_,fun A hA b hb=>?_⟩
 ·refine ⟨F.keeps.os.trans C.keeps.os,F.keeps.tape.trans C.keeps.tape,F.keeps.output.trans C.keeps.output,Nat.le_trans C.keeps.size F.keeps.size,fun k hk hn'=>?_⟩
  refine (F.keeps.block k (Nat.lt_of_lt_of_le hk C.keeps.size) fun hw=>?_).trans (C.keeps.block k hk hn')
  rcases G k hw with q|q
  ·omega
  ·exact hn' q
 ·rcases bu.1 hA with rfl|hA
  ·have hh:=C.holds A (cq ..)
   exact A.oV w w' (fun b hb=>F.keeps.block b (A.lt w hh b hb) (AA b hb)) hh
  ·exact F.holds A hA
 ·exfalso
  have hl:=X.lt w (C.holds X (cq ..)) b hb
  rcases H B hB b hb' with q|q
  ·omega
  ·exact AA b hb q
 ·rcases bu.1 hA with rfl|hA
  ·exact C.own A (cq ..) b hb
  ·rcases F.own A hA b hb with q|q
   ·exact .inl (Nat.le_trans C.keeps.size q)
   ·exact G b q
 ·rcases bu.1 hA with rfl|hA
  ·exact C.seen A (cq ..) b hb
  ·rcases H A hA b hb with q|q
   ·exact .inl (Nat.le_trans C.keeps.size q)
   ·obtain ⟨B,hB,hw⟩:=(hz.w_ b).1 q
    exact C.seen B (cV _ hB) b (B.kK b hw)
/-- put back, as it was -/
theorem Ic {M A:Type} {f:M→A→List av} {S:BS} {w0 w:World} {C:List av} {ms:List M} {asl:List A} {k:Nat} {m:M} {a:A} {X:av} (hm:ms[k]? =some m) (ha:asl[k]? =some a) (hf:f m a=[X]) (h:St S w0 (X::br (fM f ms asl k)::C) w):St S w0 (br (aW f ms asl)::C) w:=by
 have B:St S w0 (br (fM f ms asl k)::X::C) w:=h.perm (List.Perm.swap _ _ _)
 have D:St S w0 ((f m a++fM f ms asl k)++C) w:=by
  rw [hf]
  exact B.iK.perm (List.perm_middle (a:=X) (l₁:=fM f ms asl k) (l₂:=C))
 exact lj (lp hm ha).symm D.tied
theorem Lf {E:fq} {K:Act→World→Prop} {D:hP} {L:dh} {C C1:List av} {M A:Type} {f:M→A→List av} {ms:List M} {asl:List A} {k:Nat} {m:M} {a:A} {X:av} (i j:Nat) (hm:ms[k]? =some m) (ha:asl[k]? =some a) (hf:f m a=[X])
 (hn:decide (j::i::(List.range C.length).filter fun k=>k != i&&k != j).Nodup=true) (hC:kJ C (j::i::(List.range C.length).filter fun k=>k != i&&k != j)=X::br (fM f ms asl k)::C1)
 (h:KJ E K D L (br (aW f ms asl)::C1)):KJ E K D L C:=fun a w hf' hs=>h a w hf' (Ic hm ha hf (St.kJ _ hn hC hs))
theorem zf {M A:Type} {f:M→A→List av} {ms:List M} {asl:List A} {m:M} {a:A} {X:av} (hl:ms.length=asl.length) (hf:f m a=[X]):aW f ms asl++[X]=aW f (ms++[m]) (asl++[a]):=by
 rw [jB hl,← hf]; simp [aW]
theorem z3 {E:fq} {K:Act→World→Prop} {D:hP} {L:dh} {C C1:List av} {M A:Type} {f:M→A→List av} {ms:List M} {asl:List A} {m:M} {a:A} {X:av} (i j:Nat) (hf:f m a=[X])
 (hn:decide (j::i::(List.range C.length).filter fun k=>k != i&&k != j).Nodup=true) (hC:kJ C (j::i::(List.range C.length).filter fun k=>k != i&&k != j)=X::br (aW f ms asl)::C1)
 (h:KJ E K D L (br (aW f (m::ms) (a::asl))::C1)):KJ E K D L C:=fun b w hf' hs=>by
 have B:=St.kJ _ hn hC hs
 have F:St E.S E.w0 (br (aW f ms asl)::X::C1) w:=B.perm (List.Perm.swap _ _ _)
 have G:St E.S E.w0 (aW f (m::ms) (a::asl)++C1) w:=by
  show St E.S E.w0 ((f m a++aW f ms asl)++C1) w
  rw [hf]
  exact F.iK.perm (List.perm_middle (a:=X) (l₁:=aW f ms asl) (l₂:=C1))
 exact h b w hf' G.tied
end
section
open Go.RowKit
abbrev lY (r:Nat):av:=lM r (.deferred (some []))
theorem NH (rs:List Nat):(br (rs.map lY)).wr=true:=by
 show (rs.map lY).all (·.wr)=true
 rw [cW]
 intro X hX
 obtain ⟨r,_,rfl⟩:=bX.1 hX
 rfl
theorem wo {E:fq} {c:Code} {Q:df} {D:hP} {L:dh} {C:List av} {ι:Type} (Di:ι→hP) (Li:ι→dh) (Ci:ι→List av) (μ:ι→Nat) (x0:ι)
 (hD:D=Di x0) (h0:dF L (Li x0)) (hC: ∀ w,St E.S E.w0 C w→St E.S E.w0 (Ci x0) w)
 (round: ∀ x (J:Act→World→Prop),(∀ y D' L' C',D'=Di y→μ y<μ x→dF L' (Li y)→(∀ w,St E.S E.w0 C' w→St E.S E.w0 (Ci y) w)→KJ E J D' L' C')→WJ E c (Exit.then J Q) (Di x) (Li x) (Ci x)):WJ E (.loop c) Q D L C:=by
 intro a w hf hs
 subst hD
 have H: ∃ x,Fr E.n (Di x) (Li x) a∧St E.S E.w0 (Ci x) w:=⟨x0,hf.sub h0,hC w hs⟩
 clear hf hs
 have key: ∀ (m:Nat) (a:Act) (w:World),(∃ x,μ x=m∧Fr E.n (Di x) (Li x) a∧St E.S E.w0 (Ci x) w)→(Code.loop c).wpIn (Fw E.r) 0 E.P Q a w:=by
  intro m a w hx
  refine wpIn_loop (fun a w=> ∃ x,Fr E.n (Di x) (Li x) a∧St E.S E.w0 (Ci x) w) (fun a w=>leastOf fun k=> ∃ x,μ x=k∧Fr E.n (Di x) (Li x) a∧St E.S E.w0 (Ci x) w) (by obtain ⟨x,_,h⟩:=hx; exact ⟨x,h⟩) ?_
  intro a w hx
  have F: ∃ k,∃ x,μ x=k∧Fr E.n (Di x) (Li x) a∧St E.S E.w0 (Ci x) w:=by obtain ⟨x,h⟩:=hx; exact ⟨_,x,rfl,h⟩
  obtain ⟨x,K,AA,M⟩:=(leastOf_spec F).1
  refine round x _ ?_ a w AA M
  intro y D' L' C' hD G A B a' w' hf' hs'
  subst hD
  refine ⟨⟨y,hf'.sub A,B _ hs'⟩,?_⟩
  rw [← K]
  exact Nat.lt_of_le_of_lt ((leastOf_spec ⟨_,y,U,hf'.sub A,B _ hs'⟩).2 _ ⟨y,U,hf'.sub A,B _ hs'⟩) G
 obtain ⟨x,h⟩:=H
 exact key _ a w ⟨x,U,h⟩
theorem St.VX {S:BS} {w0 w:World} {C X:List av} {A:av} (h:St S w0 (A::br X::C) w):St S w0 (br (A::X)::C) w:=by
 have B:St S w0 (br X::A::C) w:=h.perm (List.Perm.swap _ _ _)
 have D:St S w0 ((A::X)++C) w:=B.iK.perm (List.perm_middle (a:=A) (l₁:=X) (l₂:=C))
 exact D.tied
theorem Mc {E:fq} {K:Act→World→Prop} {D:hP} {L:dh} {C C1 X:List av} {A:av} (i j:Nat) (hn:decide (j::i::(List.range C.length).filter fun k=>k != i&&k != j).Nodup=true) (hC:kJ C (j::i::(List.range C.length).filter fun k=>k != i&&k != j)=A::br X::C1)
 (h:KJ E K D L (br (A::X)::C1)):KJ E K D L C:=fun a w hf hs=>h a w hf ((St.kJ _ hn hC hs).VX)
theorem EY {E:fq} {K:Act→World→Prop} {D:hP} {L:dh} {C:List av} (h:KJ E K D L (br []::C)):KJ E K D L C:=fun a w hf hs=>h a w hf hs.Qq
theorem Ql {E:fq} {K:Act→World→Prop} {D:hP} {L:dh} (C1 C2:List av) (h:KJ E K D L (br C1::C2)):KJ E K D L (C1++C2):=fun a w hf hs=>h a w hf (St.tied hs)
theorem OW {E:fq} {fn:Func} {R:Ending→World→Prop} {D:hP} {L:dh} {C C1:List av} {rs:List Nat} (i:Nat) (hn:decide (i::(List.range C.length).filter fun k=>k != i).Nodup=true) (hC:kJ C (i::(List.range C.length).filter fun k=>k != i)=br (rs.map lY)::C1)
 (h:LJ E fn R D L C1):LJ E fn R (rs.map lR++D) L C:=by
 have key: ∀ rs:List Nat,LJ E fn R (rs.map lR++D) L (br (rs.map lY)::C1):=by
  intro rs
  induction rs with
  |nil=>exact fun a w hf hs=>h a w hf (hs.take (List.sublist_cons_self _ _))
  |cons r rs ih=>
   have A:LJ E fn R (lR r::(rs.map lR++D)) L (lY r::br (rs.map lY)::C1):=o0 0 rfl rfl (fun a w hf hs=>ih a w hf (hs.take (List.sublist_cons_self _ _)))
   intro a w hf hs
   refine A a w hf ?_
   have B:St E.S E.w0 ((lY r::rs.map lY)++C1) w:=St.iK (C1:=lY r::rs.map lY) hs
   have F:St E.S E.w0 (rs.map lY++(lY r::C1)) w:=B.perm (List.perm_middle (a:=lY r) (l₁:=rs.map lY) (l₂:=C1)).symm
   exact F.tied.perm (List.Perm.swap _ _ _)
 exact fun a w hf hs=>key rs a w hf (St.kJ _ hn hC hs)
theorem JU {E:fq} {fn:Func} {R:Ending→World→Prop} {L:dh} {C C1:List av} {rs:List Nat} (i:Nat) (hn:decide (i::(List.range C.length).filter fun k=>k != i).Nodup=true) (hC:kJ C (i::(List.range C.length).filter fun k=>k != i)=br (rs.map lY)::C1)
 (h:LJ E fn R [] L C1):LJ E fn R (rs.map lR) L C:=by
 have:=OW (D:=[]) i hn hC h
 rwa [List.append_nil] at this
end
section
open Go.RowKit
theorem Lm (fs:List FM) (fb:List Nat):(br (aW oq fs fb)).wr=true:=by
 show (aW oq fs fb).all (·.wr)=true
 rw [cW]
 intro X hX
 obtain ⟨k,m,a,_,_,h⟩:=jJ hX
 simp only [oq,bH] at h
 subst h; rfl
theorem TV (fs:List TM) (fb:List Nat):(br (aW sj fs fb)).wr=true:=by
 show (aW sj fs fb).all (·.wr)=true
 rw [cW]
 intro X hX
 obtain ⟨k,m,a,_,_,h⟩:=jJ hX
 simp only [sj,bH] at h
 subst h; rfl
end
section
def eI (bl:List Nat) (n:Nat):List (Option Nat):=bl.map some++List.replicate (n-bl.length) none
def im (bl:List Nat) (n:Nat):List (Option Nat):=List.replicate (n-bl.length) none++bl.map some
theorem rm {bl:List Nat} {n:Nat} (h:bl.length≤n):(eI bl n).length=n:=by simp [eI]; omega
theorem z5 {bl:List Nat} {n:Nat} (h:bl.length≤n):(im bl n).length=n:=by simp [im]; omega
theorem zb {n:Nat}:List.replicate n none=eI [] n:=by simp [eI]
theorem H_ {n:Nat}:List.replicate n none=im [] n:=by simp [im]
theorem yN {bl:List Nat} {n:Nat} (h:bl.length=n):eI bl n=bl.map some:=by simp [eI,h]
theorem Hh {bl:List Nat} {n:Nat} (h:bl.length=n):im bl n=bl.map some:=by simp [im,h]
theorem pa {bl:List Nat} {n k g:Nat} (h:bl[k]? =some g):(eI bl n)[k]? =some (some g):=by
 have hk:=(aY.1 h).1
 unfold eI
 rw [List.getElem?_append_left (by simpa using hk),fB,h]; rfl
theorem uc {bl:List Nat} {n k i g:Nat} (h:bl[i]? =some g) (hk:k=n-bl.length+i):(im bl n)[k]? =some (some g):=by
 subst hk
 unfold im
 rw [List.getElem?_append_right sm,fB,List.length_replicate,Nat.add_sub_cancel_left,h]; rfl
theorem vf {bl:List Nat} {n k g:Nat} (hk:k=bl.length) (h:bl.length<n):(eI bl n).set k (some g)=eI (bl++[g]) n:=by
 subst hk
 unfold eI
 rw [List.set_append_right _ _ sm]
 have e:n-bl.length=(n-(bl++[g]).length)+1:=by simp; omega
 rw [e,List.replicate_succ]
 simp
theorem Il {bl:List Nat} {n k g:Nat} (hk:k+1+bl.length=n):(im bl n).set k (some g)=im (g::bl) n:=by
 unfold im
 have e:n-bl.length=k+1:=by omega
 have A:n-(g::bl).length=k:=by simp; omega
 rw [e,A,List.set_append_left _ _ sm,List.replicate_succ',List.set_append_right _ _ sm]
 simp
theorem sK {l:List (Option Nat)} {k g:Nat} (h:l[k]? =some (some g)):(l.map oC)[k]? =some (oC (some g)):=by rw [fB,h]; rfl
theorem AH {α:Type} {l:List α} {x:α} {k:Nat} (h:k=l.length):(l++[x])[k]? =some x:=by subst h; simp
theorem I2 {α:Type} {l:List α} {x y:α} {k:Nat} (h:l[k]? =some y):(l++[x])[k]? =some y:=by rw [List.getElem?_append_left (aY.1 h).1]; exact h
structure qd (w:bT) (fs:List FM):Prop where
 all: ∀ (b:Nat) m,fs[b]? =some m→tF m (fwd w b)∧(m.map (·.1)).Nodup
structure iu (w:bT) (k:Nat) (bs:List FM):Prop where
 all: ∀ (i:Nat) m,bs[i]? =some m→vR m (back w (k+i))∧(m.map (·.1)).Nodup
variable {w:bT} {b:Nat} {mb m left:List (aB×Int)} {o:Int×aa} {os:List (Int×aa)} {p:aB×Int}
theorem qd.first:qd w [[(⟨0,0⟩,w.Start)]]:=⟨fun b m h=>by
 match b with
 |0=>simp at h; subst h; exact ⟨H4,sm⟩
 |n+1=>simp at h⟩
theorem qd.add {fs:List FM} (h:qd w fs) (hl:fs.length=b+1) (hmb:fs[b]? =some mb) (hm:xQ w b m) (hd:kh w b mb m left) (h0:left=[]):qd w (fs++[m]):=⟨fun i x hx=>by
 rcases Nat.lt_or_ge i fs.length with q|q
 ·rw [List.getElem?_append_left q] at hx; exact h.all i x hx
 ·rw [List.getElem?_append_right q] at hx
  have hi:i-fs.length=0:=by
   rcases Nat.eq_zero_or_pos (i-fs.length) with z|z
   ·exact z
   ·rw [List.getElem?_eq_none (by simp; omega)] at hx; cases hx
  rw [hi] at hx
  simp at hx; subst hx
  obtain rfl:i=b+1:=by omega
  have A:=h.all b mb hmb
  exact ⟨Kf A.2 A.1 hm.snd (hd.fin h0),hm.keys⟩⟩
theorem qd.ok {fs:List FM} (h:qd w fs) (hl:fs.length=w.n+1):yo w fs:=⟨hl,fun b m hm=>(h.all b m hm).1,fun b m hm=>(h.all b m hm).2⟩
theorem iu.none_:iu w b []:=⟨fun i m h=>by simp at h⟩
theorem iu.last (hb:w.n≤b):iu w b [[(⟨0,0⟩,w.gp)]]:=⟨fun i m h=>by
 match i with
 |0=>simp at h; subst h; exact ⟨Ms I,sm⟩
 |n+1=>simp at h⟩
theorem iu.add {bs:List FM} (h:iu w (b+1) bs) (hb:b<w.n) (hmb:bs[0]? =some mb) (hm:vZ w b m) (hd:jO w b mb m left) (h0:left=[]):iu w b (m::bs):=⟨fun i x hx=>by
 match i with
 |0=>
  simp at hx; subst hx
  have A:=h.all 0 mb hmb
  exact ⟨I1 hb A.2 A.1 hm.snd hm.zero (hd.fin h0),hm.keys⟩
 |n+1=>
  have:=h.all n x (by simpa using hx)
  rw [show b+1+n=b+(n+1) by omega] at this
  exact this⟩
theorem iu.ok {bs:List FM} (h:iu w 0 bs) (hl:bs.length=w.n+1):u3 w bs:=⟨hl,fun b m hm=>by have:=(h.all b m hm).1; rwa [Nat.zero_add] at this,fun b m hm=>(h.all b m hm).2⟩
/-- on the way through one entry's options -/
structure nS (w:bT) (b:Nat) (mb left m:List (aB×Int)) (p:aB×Int) (os:List (Int×aa)):Prop where
 on:xQ w b m
 ub:kh w b mb m left
 done:jr w b m p os
structure od (w:bT) (b:Nat) (mb left m:List (aB×Int)) (p:aB×Int) (os:List (Int×aa)):Prop where
 on:vZ w b m
 ub:jO w b mb m left
 done:jv w b m p os
theorem nS.start (h:xQ w b m) (h2:kh w b mb m left):nS w b mb left m p []:=⟨h,h2,fun o ho=>by cases ho⟩
theorem od.start (h:vZ w b m) (h2:jO w b mb m left):od w b mb left m p []:=⟨h,h2,fun o ho=>by cases ho⟩
theorem HF {q:aB×Int} (h:(m.lookup q.1).isSome=false∨q.2<(m.lookup q.1).getD 0):pA m q=e8 m q.1 q.2:=by
 unfold pA
 cases e:m.lookup q.1 with
 |none=>rfl
 |some v=>rw [e] at h; simp at h; simp only; rw [if_pos h]
theorem D_ {q:aB×Int} (h:(m.lookup q.1).isSome=true) (h2: ¬ q.2<(m.lookup q.1).getD 0):pA m q=m:=by
 unfold pA
 cases e:m.lookup q.1 with
 |none=>rw [e] at h; cases h
 |some v=>rw [e] at h2; simp only [Option.getD_some] at h2; simp only; rw [if_neg h2]
theorem Hu {q:aB×Int} (h:(m.lookup q.1).isSome=false∨(m.lookup q.1).getD 0<q.2):px m q=e8 m q.1 q.2:=by
 unfold px
 cases e:m.lookup q.1 with
 |none=>rfl
 |some v=>rw [e] at h; simp at h; simp only; rw [if_pos h]
theorem Eo {q:aB×Int} (h:(m.lookup q.1).isSome=true) (h2: ¬ (m.lookup q.1).getD 0<q.2):px m q=m:=by
 unfold px
 cases e:m.lookup q.1 with
 |none=>rw [e] at h; cases h
 |some v=>rw [e] at h2; simp only [Option.getD_some] at h2; simp only; rw [if_neg h2]
theorem AV {t:aB} {v y:Int} (hy:w.qg[b]? =some y) (h:max (v+y) o.2.Lo≤min o.2.Hi w.gp):kH w b (t,v) o=some (dw t (fx o.1),max (v+y) o.2.Lo):=by
 have e:=oa hy
 subst e
 exact IW h
theorem Mn {t:aB} {v y:Int} (hy:w.qg[b]? =some y) (h: ¬ max (v+y) o.2.Lo≤min o.2.Hi w.gp):kH w b (t,v) o=none:=by
 have e:=oa hy
 subst e
 exact OU h
theorem AY {t:aB} {v y:Int} (hy:w.qg[b]? =some y) (h:o.2.Lo≤min v o.2.Hi):m_ w b (t,v) o=some (dw t (fx o.1),min v o.2.Hi-y):=by
 have e:=oa hy
 subst e
 exact Jy h
theorem nS.set {q:aB×Int} (h:nS w b mb left m p os) (hp:p∈fwd w b) (ho:o∈iv w b) (he:kH w b p o=some q) (hs:(m.lookup q.1).isSome=false∨q.2<(m.lookup q.1).getD 0):nS w b mb left (e8 m q.1 q.2) p (os++[o]):=by
 rw [← HF hs]
 exact ⟨h.on.add hp ho he,h.ub.lower vx,h.done.I0 he⟩
theorem nS.oV {q:aB×Int} (h:nS w b mb left m p os) (he:kH w b p o=some q) (hs:(m.lookup q.1).isSome=true) (h2: ¬ q.2<(m.lookup q.1).getD 0):nS w b mb left m p (os++[o]):=by
 have:=h.done.I0 he
 rw [D_ hs h2] at this
 exact ⟨h.on,h.ub,this⟩
theorem nS.skip (h:nS w b mb left m p os) (he:kH w b p o=none):nS w b mb left m p (os++[o]):=⟨h.on,h.ub,h.done.none_ he⟩
theorem od.set {q:aB×Int} (hb:b<w.n) (h:od w b mb left m p os) (hp:p∈back w (b+1)) (ho:o∈iv w b) (he:m_ w b p o=some q) (hs:(m.lookup q.1).isSome=false∨(m.lookup q.1).getD 0<q.2):od w b mb left (e8 m q.1 q.2) p (os++[o]):=by
 rw [← Hu hs]
 exact ⟨h.on.add hb hp ho he,h.ub.upper qW,h.done.I0 he⟩
theorem od.oV {q:aB×Int} (h:od w b mb left m p os) (he:m_ w b p o=some q) (hs:(m.lookup q.1).isSome=true) (h2: ¬ (m.lookup q.1).getD 0<q.2):od w b mb left m p (os++[o]):=by
 have:=h.done.I0 he
 rw [Eo hs h2] at this
 exact ⟨h.on,h.ub,this⟩
theorem od.skip (h:od w b mb left m p os) (he:m_ w b p o=none):od w b mb left m p (os++[o]):=⟨h.on,h.ub,h.done.none_ he⟩
theorem nS.next {t:aB} {v:Int} (hn:(left.map (·.1)).Nodup) (hm:(t,v)∈left) (h:nS w b mb left m (t,v) os) (ho: ∀ o∈iv w b,o∈os):kh w b mb m (cH left t):=h.ub.next hn hm h.done ho
theorem od.next {t:aB} {v:Int} (hn:(left.map (·.1)).Nodup) (hm:(t,v)∈left) (h:od w b mb left m (t,v) os) (ho: ∀ o∈iv w b,o∈os):jO w b mb m (cH left t):=h.ub.next hn hm h.done ho
theorem qd.mem {fs:List FM} (h:qd w fs) (hm:fs[b]? =some mb) (hp:p∈mb):p∈fwd w b:=(h.all b mb hm).1.1 _ _ ((fJ (h.all b mb hm).2).1 hp)
theorem iu.Vc {bs:List FM} {k:Nat} (h:iu w k bs) (hk:k=b+1) (hm:bs[0]? =some mb) (hp:p∈mb):p∈back w (b+1):=by
 subst hk
 exact (h.all 0 mb hm).1.1 _ _ ((fJ (h.all 0 mb hm).2).1 hp)
theorem iu.end_ {bs:List FM} {k j:Nat} (h:iu w k bs) (hj:bs.length=0) (hk:j=b) (hb:w.n≤b):iu w j ([(⟨0,0⟩,w.gp)]::bs):=by
 subst hk
 rw [jX hj]
 exact iu.last hb
theorem iu.more {bs:List FM} {k j:Nat} (h:iu w k bs) (hk:k=b+1) (hj:j=b) (hb:b<w.n) (hmb:bs[0]? =some mb) (hm:vZ w b m) (hd:jO w b mb m left) (h0:left=[]):iu w j (m::bs):=by
 subst hk hj
 exact h.add hb hmb hm hd h0
end
section
open Go.RowKit
theorem km {a:OA} {c e sz n:Nat} {es:List (List Value)} (h:es.length=n):MY (own a c e sz es) (rd a n sz es):=by subst h; exact OL
theorem tm {L:List av}:MY (br L) (e9 L):=⟨fun w h=>h.1,fun b h=>h⟩
theorem O1 {b:Nat} {fb:List Nat} {g:Nat} (h:fb.length=b):aW sj (List.replicate b ([]:TM)) fb++[iS iV g (bW er [])]=aW sj (List.replicate (b+1) ([]:TM)) (fb++[g]):=by
 rw [List.replicate_succ']
 exact zf (by rw [List.length_replicate]; exact h.symm) U
theorem UM {α:Type} {ms:List α} {fb:List Nat} {n:Nat} (h:fb.length=n) (h2:ms.length=n):List.map oC (eI fb n)=List.zipWith gT ms fb:=by
 rw [yN h]; exact (AB I).symm
theorem wv {l:aX} {r:cE} {i:Nat} {x:aK} (hx:r.ai[i]? =some x) (h: ¬ kz l r.ai i x): ¬ fD l r:=fun q=>h (q.sig i x hx)
end
section
open Go.RowKit
theorem sY (ln:bZ) (ri:d_) (e:List Int) (tms:List TM) (e_A:OA) (e_C:Nat) (tb:List Nat) (t_A:OA) (t_C:Nat) (fA:OA) (fN fC:Nat) (bA:OA) (bN bC:Nat) (gw b:Nat) (g1 g2:Nat) (hb:b<tms.length) (htb:tb.length=tms.length):
 EG Tryz.prog 141 [] [(vP g1),(vP g2)] [(rd e_A e.length 1 (e.map iC)),(rd t_A tms.length 1 (List.zipWith gT tms tb)),(e9 (aW sj tms tb)),(cd gw 166 (cp.cells (cp.mk ln ri (bj.mk e_A e.length e_C) (bj.mk t_A tms.length t_C) (bj.mk fA fN fC) (bj.mk bA bN bC)))),(cd g1 121 [(vP gw)]),(cd g2 3 [(vI (b:Int))])] ([]:List (Int×aa)) (fun ys x ys'=> ∃ o,o∈iv (cO ln ri e tms) b∧x=Pt o∧ys'=ys++[o]) (fun ys=> ∀ o∈iv (cO ln ri e tms) b,o∈ys):=by
 refine tG kr Tryz.func141 U U fun l J Z A0 d Q hY V AA hQ hN=>?_
 try dsimp only
 refine aj fun _ X=>aj fun _ R=>dH cx 12 kr<|mV 2 [] (mr 5 U mn) U<|dS (SX (bP U U) U U)<|mV 4 [0,1] (mr 4 U (mr 5 U mn)) U<|dS (SX (bP U U) U U)<|dP 3 [] (mr 4 U mn) ?_
 refine dS (SX (bh (xs:=[(0,.tmp 11),(1,.tmp 16)]) (cs:=(aa.cells (aa.mk ri.Start ri.gp))) U U (bg gH U)) U U)<|cQ<|kS (k:=([]:List (Int×aa))) (k':=(([]:List (Int×aa))++[((-1),(aa.mk ri.Start ri.gp))])) 0 (by first|exact hsz|exact Nat.le_refl _) hY V AA U U U (by exact ⟨(-1,⟨ri.Start,ri.gp⟩),cq ..,U,U⟩) U U (fun B3 N M=>?_) (fun B3 N M=>?_)
 rotate_left 1
 ·refine rP 1 [] mn ?_
  refine RK R<|aR U<|ar ?_
  refine hQ _ _ _ (ik (vs:=[]) trivial fun w hs=>sL 0 U N M hs)
 refine bo 1 U<|RK R<|a_ U<|WK X<|aj fun _ Y=>dH cx 7 kr<|mV 1 [] (mr 5 U mn) U<|dS (SX (bP U U) U U)<|dP 3 [0,1] (mr 4 U (mr 6 U mn)) ?_
 obtain ⟨x,hx⟩:=aJ tms b I
 obtain ⟨xa,L⟩:=aJ tb b I
 have a:(List.zipWith gT tms tb)[b]? =some (gT x xa):=dG hx L
 refine dS (IA b U (aC 2 U) Gw dc I I)<|dS (gi b 0 (Value.map (some xa)) U cj (aC 2 U) a U dc U)<|cQ<|j4 (kV:=iV) (m:=bW er x) 3 U U ot U ⟨⟨(iS iV xa (bW er x)),(bM hx L (by simp [sj])),U⟩,fun h=>h⟩ (show iA _ (iS iV xa (bW er x)).holds from dA 3 U (bM hx L (by simp [sj]))) U fun j=>?_
 try dsimp only
 refine RK Y<|ax ?_
 have G:(∀ o∈x,o∈x∨o∈(([]:List (Int×aa))++[((-1),(aa.mk ri.Start ri.gp))]))∧(∀ o∈x,o∈x)∧(J (([]:List (Int×aa))++[((-1),(aa.mk ri.Start ri.gp))]) B3)∧(Fo A0 d B3)∧((-1,(⟨ri.Start,ri.gp⟩:aa))∈(([]:List (Int×aa))++[((-1),(aa.mk ri.Start ri.gp))])):=by exact ⟨fun o ho=> .inl ho,fun o ho=>ho,asm,asm,sm⟩
 refine bL (ι:={z:TM×(List (Int×aa))×av // (∀ o∈x,o∈z.1∨o∈z.2.1)∧(∀ o∈z.1,o∈x)∧(J z.2.1 z.2.2)∧(Fo A0 d z.2.2)∧((-1,(⟨ri.Start,ri.gp⟩:aa))∈z.2.1)}) [0,1,2,27] [2,3,4,6,7] U U (fun z=>[]) (fun z=>[(yX iV j xa (bW er x) (bW er z.1.1) none),z.1.2.2]) (fun _=>rfl) (fun _=>rfl) (fun z=>z.1.1.length) ⟨(x,(([]:List (Int×aa))++[((-1),(aa.mk ri.Start ri.gp))]),B3),G⟩ (dF.nil _) (aG [2,3,4,6,7,0,1]) ?_
 clear G
 rintro ⟨⟨left,ys,A⟩,⟨B,C,D,E,F⟩⟩ J8 W
 try dsimp only at B C D E F
 try dsimp only
 refine WS fun _ S=>jC (eX qp).inj (f:=er) 5 U U U U (fun T=>?_) (fun i z hm hn=>?_)
 ·refine rP 1 [] mn ?_
  refine RK S<|aj fun _ c=>a_ U<|bD<|ab<|ab<|ay ?_
  refine hN _ _ _ (ik (vs:=[]) trivial fun w hs=>Kl 6 U (by exact Iq hx B T F) D E hs)
 try dsimp only
 refine bo 1 U<|RK S<|aj fun _ O=>aR U<|WK O<|ax<|WS fun _ P=>rS (SX (jz 5 U U U) U U)<|bo 2 U<|AL U dv fun g=>bo 1 U<|gl U cy U<|RK P<|WS fun _ K=>rP 3 [] (mc 0 U mn) ?_
 refine kS (k:=ys) (k':=(ys++[(i,z)])) 7 (by first|exact hsz|exact Nat.le_refl _) hY D E U U U (by exact ⟨(i,z),(yg hx).2 (.inr (C _ hm)),U,U⟩) U U (fun B15 AB H=>?_) (fun B15 AB H=>?_)
 rotate_left 1
 ·refine rP 1 [] mn ?_
  refine RK K<|aR U<|ar ?_
  refine hQ _ _ _ (ik (vs:=[]) trivial fun w hs=>sL 7 U AB H hs)
 refine rP 1 [] mn ?_
 refine RK K<|a_ U<|cr<|aH<|ib 6 U fR U ?_
 refine aV (W ⟨((cH left i),(ys++[(i,z)]),B15),⟨HB hn hm B,mH C,asm,asm,by simp [F]⟩⟩ _ _ _ U (fh hm) (aU U) (aG [1,2,3,4,5,6,7]))
theorem u0 (gw b:Nat):
 lB Tryz.prog 102 [(vP gw),(vI (b:Int))] [] (fun (x:Nat×Nat)=>(Value.func (.func 141) [].toArray [(Value.pointer (some ⟨x.1,0,none⟩)),(Value.pointer (some ⟨x.2,0,none⟩))].toArray)) (fun (x:Nat×Nat)=>True) (fun (x:Nat×Nat)=>[(cd x.1 121 [(vP gw)]),(cd x.2 3 [(vI (b:Int))])]):=by
 refine di kr Tryz.func102 U U fun E Q hQ hN=>?_
 try dsimp only
 refine WS fun _ A=>uG U U fun C=>uG U U fun D=>bo 1 U<|RK A<|WS fun _ B=>rS (FU U)<|rP 1 [] mn ?_
 refine RK B<|ar<|LX hQ (C,D) [1,0] [] mn U U U U ?_
 trivial
theorem IL (gw b:Nat):
 lB Tryz.prog 61 [(vP gw),(vI (b:Int))] [] (fun (x:Nat×Nat)=>(Value.func (.func 101) [].toArray [(Value.pointer (some ⟨x.1,0,none⟩)),(Value.pointer (some ⟨x.2,0,none⟩))].toArray)) (fun (x:Nat×Nat)=>True) (fun (x:Nat×Nat)=>[(cd x.1 121 [(vP gw)]),(cd x.2 3 [(vI (b:Int))])]):=by
 refine di kr Tryz.func61 U U fun E Q hQ hN=>?_
 try dsimp only
 refine WS fun _ A=>uG U U fun C=>uG U U fun D=>bo 1 U<|RK A<|WS fun _ B=>rS (FU U)<|rP 1 [] mn ?_
 refine RK B<|ar<|LX hQ (C,D) [1,0] [] mn U U U U ?_
 trivial
end
section
open Go.RowKit
theorem pq:uX Tryz.prog 172 eD:=Oa Pv (fun x y w=>Qo 9998 x y w) (fun x y h=>by cases x; cases y; simp [aB.cells] at h; simp [h]) (fun x=>by simp [aB.cells,Instr.sameBits]) (fun x w=>⟨_,rfl,fun p hp=>by
 simp only [bu,List.not_mem_nil,or_false] at hp
 rcases hp with rfl|rfl
 ·exact ⟨⟨_,kg cj U w⟩,_,qp⟩
 ·exact ⟨⟨_,kg cj U w⟩,_,qp⟩⟩)
theorem L6 (s:Int):
 eB Tryz.prog 105 [(vI s)] [] (vA (aB.cells (fx s))):=by
 refine bG kr Tryz.func105 U U fun H Q hQ hN=>?_
 try dsimp only
 refine WS fun _ B=>AL U uj fun G=>RK B<|aj fun _ C=>WS fun _ D=>rP 2 [] mn ?_
 refine RK D<|cP U (aQ fun A=>?_) (aP fun A=>?_)
 ·refine WS fun _ E=>rS (SX (bh (xs:=[(1,.const (vI 1))]) (cs:=(aB.cells (aB.mk 0 1))) U U (bg CC U)) U U)<|gl U sx U<|RK E<|ar<|IC hQ [0] (mc 0 U mn) U ?_
  unfold fx; first|rw [if_pos A]|rw [if_neg A]
 refine WK C<|WS fun _ F=>rS (SX (bh (xs:=[(0,.const (vI 1))]) (cs:=(aB.cells (aB.mk 1 0))) U U (bg CC U)) U U)<|gl U sx U<|RK F<|ar<|IC hQ [0] (mc 0 U mn) U ?_
 unfold fx; first|rw [if_pos A]|rw [if_neg A]
theorem wB (x:aB) (y:aB) (hx:(0≤x.right∧x.right≤1000)∧0≤x.e7∧x.e7≤1000) (hy:(0≤y.right∧y.right≤1000)∧0≤y.e7∧y.e7≤1000):
 eB Tryz.prog 104 [(vA (aB.cells x)),(vA (aB.cells y))] [] (vA (aB.cells (dw x y))):=by
 refine bG kr Tryz.func104 U U fun F Q hQ hN=>?_
 try dsimp only
 refine WS fun _ A=>gd U fun C=>gd U fun D=>AL U uj fun E=>RK A<|WS fun _ B=>rP 10 [0,1,0,1] (mc 2 U (mc 1 U mn)) ?_
 refine rS (SX (bh (xs:=[(0,.tmp 9),(1,.tmp 14)]) (cs:=(aB.cells (aB.mk (x.right+y.right) (x.e7+y.e7)))) U U (bg CC U)) U U)<|gl U sx U<|RK B<|ar ?_
 exact IC hQ [0] (mc 0 U mn) U U
theorem Pz (ln:bZ) (ri:d_) (e:List Int) (tms:List TM) (e_A:OA) (e_C:Nat) (tb:List Nat) (t_A:OA) (t_C:Nat) (fs:List FM) (bs:List FM) (fb:List Nat) (f_A:OA) (f_C:Nat) (bb:List Nat) (b_A:OA) (b_C gw:Nat) (x:aB) (hx:(0≤x.right∧x.right≤1000)∧0≤x.e7∧x.e7≤1000) (hn:ri.ai.n≤1000):
 eB Tryz.prog 103 [(vP gw),(vA (aB.cells x))] [(rd e_A e.length 1 (e.map iC)),(rd t_A tms.length 1 (List.zipWith gT tms tb)),(e9 (aW sj tms tb)),(rd f_A fs.length 1 (List.zipWith gT fs fb)),(e9 (aW oq fs fb)),(rd b_A bs.length 1 (List.zipWith gT bs bb)),(e9 (aW oq bs bb)),(cd gw 166 (cp.cells (cp.mk ln ri (bj.mk e_A e.length e_C) (bj.mk t_A tms.length t_C) (bj.mk f_A fs.length f_C) (bj.mk b_A bs.length b_C))))] (vB (j_ (cO ln ri e tms) x)):=by
 refine bG kr Tryz.func103 U U fun E Q hQ hN=>?_
 try dsimp only
 refine WS fun _ C=>gd U fun D=>bo 1 U<|RK C<|aj fun _ B=>dH cx 26 kr<|mV 3 [] (mc 0 U mn) U<|dS (SX (bP U U) U U)<|dP 5 [] (mr 8 U mn) ?_
 refine jl (t:=13) U (aP fun A=>?_) (aQ fun A=>?_)
 ·refine dP 17 [] mn ?_
  refine cQ<|RK B<|ar<|Q1 hQ U U U ?_
  exact cB (ct (fun h=>A h.1)).symm
 refine lQ 1 U<|dS (SX (bP U U) U U)<|mV 8 [0,1] (mr 8 U (mc 0 U mn)) U<|dS (SX (bP U U) U U)<|dP 6 [] (mr 8 U mn) ?_
 refine cQ<|RK B<|ar<|Q1 hQ U U U ?_
 exact cB (gO.2 ⟨fun h=>⟨A,h⟩,fun h=>h.2⟩)
end
section
open Go.RowKit
theorem HP (ln:bZ) (ri:d_) (e:List Int) (tms:List TM) (e_A:OA) (e_C:Nat) (tb:List Nat) (t_A:OA) (t_C:Nat) (fs:List FM) (bs:List FM) (fb:List Nat) (f_A:OA) (f_C:Nat) (bb:List Nat) (b_A:OA) (b_C gw:Nat) (b g1 g2:Nat) (mf:FM) (mb:FM) (hb:b<e.length) (hw:H0 (cO ln ri e tms)) (htb:tb.length=tms.length) (hfw:yo (cO ln ri e tms) fs) (hfb:fb.length=fs.length) (hbw:u3 (cO ln ri e tms) bs) (hbb:bb.length=bs.length) (hsg:ri.ai.n≤1000) (hm1:fs[b]? =some mf) (hm2:bs[b+1]? =some mb):
 EG Tryz.prog 101 [] [(vP g1),(vP g2)] [(rd e_A e.length 1 (e.map iC)),(rd t_A tms.length 1 (List.zipWith gT tms tb)),(e9 (aW sj tms tb)),(rd f_A fs.length 1 (List.zipWith gT fs fb)),(e9 (aW oq fs fb)),(rd b_A bs.length 1 (List.zipWith gT bs bb)),(e9 (aW oq bs bb)),(cd gw 166 (cp.cells (cp.mk ln ri (bj.mk e_A e.length e_C) (bj.mk t_A tms.length t_C) (bj.mk f_A fs.length f_C) (bj.mk b_A bs.length b_C)))),(cd g1 121 [(vP gw)]),(cd g2 3 [(vI (b:Int))])] ([]:List (Int×aa)) (fun ys x ys'=> ∃ q,q∈qf (cO ln ri e tms) b mf mb∧x=Pt q∧ys'=ys++[q]) (fun ys=> ∀ q∈qf (cO ln ri e tms) b mf mb,q∈ys):=by
 have J9:e.length≤6:=hw.n
 have KR:tms.length=e.length:=hw.times
 have J3:fs.length=e.length+1:=hfw.len
 have J2:bs.length=e.length+1:=hbw.len
 refine tG kr Tryz.func101 U U fun l J Z A0 w0 Q hY EQ Do hQ hN=>?_
 try dsimp only
 refine WS fun _ Eq=>uG U U fun b2=>RK Eq<|WS fun _ FR=>rP 2 [0,1] (mr 10 U (mr 11 U mn)) ?_
 refine cX (u0 gw b) (aI) U fun y4 KT=>?_
 obtain ⟨C0,C1⟩:=y4
 try dsimp only
 refine RK FR<|ax<|kR 4 U (by exact fun _ h=>h)<|kR 6 U (by exact fun _ h=>h)<|kR 8 U (by exact fun _ h=>h)<|kR 14 U (by exact fun _ h=>h) ?_
 refine nJ (L0:=[(0,(Value.func (.yield l) #[] #[])),(1,(vP g1)),(2,(vP g2)),(3,(vP b2))]) (F:=[(rd e_A e.length 1 (e.map iC)).ro,(rd t_A tms.length 1 (List.zipWith gT tms tb)).ro,(e9 (aW sj tms tb)).ro,(cd gw 166 (cp.cells (cp.mk ln ri (bj.mk e_A e.length e_C) (bj.mk t_A tms.length t_C) (bj.mk f_A fs.length f_C) (bj.mk b_A bs.length b_C)))).ro,(cd C0 121 [(vP gw)]),(cd C1 3 [(vI (b:Int))])]) (fun k (y:(List (Int×aa))×av)=>(lT (cO ln ri e tms) b mf mb k y.1)∧(J y.1 y.2)∧(Fo A0 w0 y.2)) (fun k y=>[(cd b2 169 [(Value.func (.yield l) #[] #[])]),y.2,(rd e_A e.length 1 (e.map iC)).ro,(rd t_A tms.length 1 (List.zipWith gT tms tb)).ro,(e9 (aW sj tms tb)).ro,(rd f_A fs.length 1 (List.zipWith gT fs fb)).ro,(e9 (aW oq fs fb)).ro,(rd b_A bs.length 1 (List.zipWith gT bs bb)).ro,(e9 (aW oq bs bb)).ro,(cd gw 166 (cp.cells (cp.mk ln ri (bj.mk e_A e.length e_C) (bj.mk t_A tms.length t_C) (bj.mk f_A fs.length f_C) (bj.mk b_A bs.length b_C)))).ro,(cd g1 121 [(vP gw)]).ro,(cd g2 3 [(vI (b:Int))]).ro]) (fun c (z:av)=>(c= .ret∧(Z z)∧(Fo A0 w0 z))) (fun _ z=>[(cd b2 169 [(Value.func (.yield l) #[] #[])]),z,(rd e_A e.length 1 (e.map iC)).ro,(rd t_A tms.length 1 (List.zipWith gT tms tb)).ro,(e9 (aW sj tms tb)).ro,(rd f_A fs.length 1 (List.zipWith gT fs fb)).ro,(e9 (aW oq fs fb)).ro,(rd b_A bs.length 1 (List.zipWith gT bs bb)).ro,(e9 (aW oq bs bb)).ro,(cd gw 166 (cp.cells (cp.mk ln ri (bj.mk e_A e.length e_C) (bj.mk t_A tms.length t_C) (bj.mk f_A fs.length f_C) (bj.mk b_A bs.length b_C)))).ro,(cd g1 121 [(vP gw)]).ro,(cd g2 3 [(vI (b:Int))]).ro]) [6,7,8,9,10,11,12,13,14,15,16,17] [3,2,1,0,4,5] (([]:List (Int×aa)),A0) rfl rfl (sY ln ri e tms e_A e_C tb t_A t_C f_A fs.length f_C b_A bs.length b_C gw b C0 C1 I I) rfl rfl rfl (by exact ⟨lT.nil,EQ,Do⟩) (by simp only [List.forall_mem_cons,List.not_mem_nil,false_imp_iff,implies_true,and_true]; exact ⟨⟨_,aT (i:=0) rfl,(dV (bV _))⟩,⟨_,aT (i:=1) rfl,(dV (bV _))⟩,⟨_,aT (i:=2) rfl,(dV (bV _))⟩,⟨_,aT (i:=3) rfl,(dV (bV _))⟩,⟨_,aT (i:=4) rfl,(bV _)⟩,⟨_,aT (i:=5) rfl,(bV _)⟩⟩) (by rintro k x k2 ⟨o,_,rfl,_⟩; rfl) rfl (aU rfl) ?_ ?_ ?_ ?_
 rotate_left 1
 ·rintro KX k ⟨ys,A⟩ Ca AS
  obtain ⟨X,Y,a⟩:=AS
  try dsimp only at X Y a
  try dsimp only
  refine aH ?_
  refine hN _ _ _ (o0 0 U U<|ik (vs:=[]) trivial fun w hs=>Kl 8 U (by exact lT.fin X Ca) Y a hs)
 ·rintro KY id A Cp
  simp at Cp
 ·rintro Kc A Cx
  obtain ⟨hc,Fn,GE⟩:=Cx
  try dsimp only
  refine hQ _ _ _ (o0 0 U U<|ik (vs:=[]) trivial fun w hs=>sL 8 U Fn GE hs)
 rintro k x k2 ⟨ys,A⟩ lr ra rb S w1 K8 Qr9 GT hx AO FS B3 Id C2
 obtain ⟨o,ho,rfl,rfl⟩:=hx
 obtain ⟨X,Y,a⟩:=AO
 try dsimp only at X Y a
 try dsimp only
 refine WS fun _ A3=>rP 1 [] mn ?_
 refine RK A3<|al<|AL U dv fun If=>gl U cy U<|aA<|ja (fun _ _ h=>h) (aG [1,0,2,3,4,5,6,7,8,9,10,11,12,13])<|aV (FS _ _ ?_)
 refine ax<|aj fun _ A4=>dH cx 7 kr<|mV 1 [] (mr 12 U mn) U<|dS (SX (bP U U) U U)<|dP 3 [0,1] (mr 11 U (mr 13 U mn)) ?_
 obtain ⟨ga,s⟩:=aJ fb b I
 have Ci:(List.zipWith gT fs fb)[b]? =some (gT mf ga):=dG hm1 s
 refine dS (IA b U (aC 7 U) oN dc I I)<|dS (gi b 0 (Value.map (some ga)) U cj (aC 7 U) Ci U dc U)<|cQ<|j4 (kV:=eD) (m:=bW iV mf) 8 U U pd U ⟨⟨(iS eD ga (bW iV mf)),(bM hm1 s (by simp [oq])),U⟩,fun h=>h⟩ (show iA _ (iS eD ga (bW iV mf)).holds from dA 8 U (bM hm1 s (by simp [oq]))) U fun Hc=>?_
 try dsimp only
 refine RK A4<|ax ?_
 have C:(∀ p∈mf,p∈mf)∧(nP (cO ln ri e tms) b mf mb o mf ys)∧(lT (cO ln ri e tms) b mf mb k ys)∧(J ys A)∧(Fo A0 w0 A):=by exact ⟨fun p hp=>hp,nP.start,X,Y,a⟩
 refine bL (ι:={z:FM×(List (Int×aa))×av // (∀ p∈z.1,p∈mf)∧(nP (cO ln ri e tms) b mf mb o z.1 z.2.1)∧(lT (cO ln ri e tms) b mf mb k z.2.1)∧(J z.2.1 z.2.2)∧(Fo A0 w0 z.2.2)}) [0,1,2,3,4,5,23] [1,2,3,5,6,7,8,9,10,11,12,13,14] U U (fun z=>[]) (fun z=>[(yX eD Hc ga (bW iV mf) (bW iV z.1.1) none),z.1.2.2]) (fun _=>rfl) (fun _=>rfl) (fun z=>z.1.1.length) ⟨(mf,ys,A),C⟩ (dF.nil _) (aG [1,2,3,5,6,7,8,9,10,11,12,13,14,0,4]) ?_
 clear C
 rintro ⟨⟨left,ys,A⟩,⟨K,M,N,O,P⟩⟩ J15 A1
 try dsimp only at K M N O P
 try dsimp only
 refine WS fun _ j=>jC pq.inj (f:=iV) 13 U U U U (fun DL=>?_) (fun t v hm hn=>?_)
 ·refine rP 1 [] mn ?_
  refine RK j<|aj fun _ IO=>a_ U<|bD<|ab<|ab<|ay<|aH ?_
  exact B3 (ys,A) _ _ (by exact ⟨lT.next N M DL,O,P⟩) (aG [0,2,14,3,4,5,6,7,8,9,10,11,12])
 try dsimp only
 refine bo 1 U<|RK j<|aj fun _ A5=>aR U<|WK A5<|ax<|WS fun _ A6=>rS (SX (jz 13 U U U) U U)<|bo 2 U<|AL U uj fun In=>gl U sx U<|bo 1 U<|RK A6<|aj fun _ A7=>dH cx 8 kr<|mV 1 [] (mr 12 U mn) U<|dS (SX (bP U U) U U)<|dP 4 [0,1] (mr 11 U (mr 13 U mn)) ?_
 obtain ⟨gb,AC⟩:=aJ bb (b+1) I
 have Ck:(List.zipWith gT bs bb)[(b+1)]? =some (gT mb gb):=dG hm2 AC
 refine dS (IA (b+1) U (aC 9 U) oN dc I I)<|dS (gi (b+1) 0 (Value.map (some gb)) U cj (aC 9 U) Ck U dc U)<|cQ<|j4 (kV:=eD) (m:=bW iV mb) 10 U U pd U ⟨⟨(iS eD gb (bW iV mb)),(bM hm2 AC (by simp [oq])),U⟩,fun h=>h⟩ (show iA _ (iS eD gb (bW iV mb)).holds from dA 10 U (bM hm2 AC (by simp [oq]))) U fun H1=>?_
 try dsimp only
 refine RK A7<|ax ?_
 have C:(∀ p∈mb,p∈mb)∧(oc (cO ln ri e tms) b mb o (t,v) mb ys)∧(nP (cO ln ri e tms) b mf mb o left ys)∧(lT (cO ln ri e tms) b mf mb k ys)∧(J ys A)∧(Fo A0 w0 A):=by exact ⟨fun p hp=>hp,oc.start,M,N,O,P⟩
 refine bL (ι:={z:FM×(List (Int×aa))×av // (∀ p∈z.1,p∈mb)∧(oc (cO ln ri e tms) b mb o (t,v) z.1 z.2.1)∧(nP (cO ln ri e tms) b mf mb o left z.2.1)∧(lT (cO ln ri e tms) b mf mb k z.2.1)∧(J z.2.1 z.2.2)∧(Fo A0 w0 z.2.2)}) [0,1,2,3,4,5,6,7,23,37] [1,2,3,4,5,6,7,8,9,10,11,12,13,14,15] U U (fun z=>[]) (fun z=>[(yX eD H1 gb (bW iV mb) (bW iV z.1.1) none),z.1.2.2]) (fun _=>rfl) (fun _=>rfl) (fun z=>z.1.1.length) ⟨(mb,ys,A),C⟩ (dF.nil _) (aG [1,2,3,4,5,6,7,8,9,10,11,12,13,14,15,0,16]) ?_
 clear C
 rintro ⟨⟨l2,T,A2⟩,⟨B,D,E,G,H,AB⟩⟩ J23 V
 try dsimp only at B D E G H AB
 try dsimp only
 refine WS fun _ r=>jC pq.inj (f:=iV) 15 U U U U (fun Di=>?_) (fun u z L Ao=>?_)
 ·refine rP 1 [] mn ?_
  refine RK r<|aj fun _ IR=>a_ U<|bD<|ab<|ab<|ay<|aH<|ib 14 U fR U ?_
  refine aV (A1 ⟨((cH left t),T,A2),⟨mH K,nP.next hn hm E D Di,G,H,AB⟩⟩ _ _ _ U (fh hm) (aU U) (aG [1,2,3,4,5,6,7,8,9,10,11,12,13,14,16]))
 try dsimp only
 refine bo 1 U<|RK r<|aj fun _ A8=>aR U<|WK A8<|ax<|WS fun _ A9=>rS (SX (jz 15 U U U) U U)<|bo 2 U<|AL U uj fun I0=>gl U sx U<|rP 1 [] mn ?_
 refine RK A9<|aj fun _ Bm=>dK cx [17,18] [] [] [0,1,2,3,4,5,6,7,8,9,10,11,12,13,14,15,16,17] [] U U U U U<|eS U (MV U)<|eS U (UE 13 U cj U)<|eS U (SX (bP U U) U U)<|eS U (FA 10 U fw U)<|eS U (ID (vS e_A e.length e_C) 12 U cj U U)<|eS U (UE 14 U cj U) ?_
 obtain ⟨y,hy⟩:=aJ e b I
 have Gm:=bO iC hy
 refine eS U (IA b U (aC 5 U) cL dc I I)<|eS U (gi b 0 (vI y) U cj (aC 5 U) Gm U dc U) ?_
 have J4:=hw.least y (aT hy)
 have Fd:=Jw hw _ _ (hfw.mem hm1 (K _ hm))
 have FT:=Kw hw (hbw.mem hm2 (B _ L))
 have J5:=ve o.1
 have J6:=hw.opt ho
 dsimp only at Fd FT
 refine eS U (BI U (iG ⟨I,I⟩))<|eS U (FA 0 U fw U)<|eS U (L1 (vI o.2.Lo) 3 U cj U U)<|eS U (MX U)<|eS U (MV U)<|eS U (FA 1 U fw U)<|eS U (L1 (vI o.2.Hi) 3 U cj U U)<|eS U (MN U)<|eS U (SX (bh (xs:=[(0,.tmp 54),(1,.tmp 58)]) (cs:=(aa.cells (aa.mk (max (v+y) o.2.Lo) (min z o.2.Hi)))) U U (bg gH U)) U U)<|eT U<|cf U fun T30 B7=>AL U dv fun I4=>aA (B7 _ _ (aG [1,2,3,4,5,6,7,8,9,10,11,12,13,14,15,16,17,18]) ?_)
 refine cf U fun T32 B9=>gl U cy U<|aA (B9 _ _ (aG [1,2,3,4,5,6,7,8,9,10,11,12,13,14,15,16,17,18]) ?_)
 refine fO U<|KK Bm<|aj fun _ R=>dH cx 19 kr<|dP 6 [] (mc 0 U mn) ?_
 refine jl (t:=65) U (aP fun d=>?_) (aQ fun d=>?_)
 ·refine lQ 3 U<|lQ 10 U<|cQ<|rP 3 [] mn ?_
  refine RK R<|a_ U<|cr<|aH<|ib 17 U fR U ?_
  refine aV (V ⟨((cH l2 u),T,A2),⟨mH B,oc.skip Ao L D (by exact Hs hy d),E,G,H,AB⟩⟩ _ _ _ U (fh L) (aU U) (aG [2,3,4,5,6,7,8,9,10,11,12,13,14,15,16,17,18]))
 refine dP 3 [0,1,2] (mr 14 U (mc 2 U (mc 1 U mn))) ?_
 have J8:(0≤(dw t u).right∧(dw t u).right≤1000)∧0≤(dw t u).e7∧(dw t u).e7≤1000:=by simp only [dw]; omega
 have J7:(0≤(dw (dw t u) (fx o.1)).right∧(dw (dw t u) (fx o.1)).right≤1000)∧0≤(dw (dw t u) (fx o.1)).e7∧(dw (dw t u) (fx o.1)).e7≤1000:=by simp only [dw]; omega
 refine dS (CL (wB t u I I) (aI) U)<|lQ 1 U<|dS (CL (L6 o.1) (aI) U)<|dS (CL (wB (dw t u) (fx o.1) asm I) (aI) U)<|dS (CL (Pz ln ri e tms e_A e_C tb t_A t_C fs bs fb f_A f_C bb b_A b_C gw (dw (dw t u) (fx o.1)) asm hsg) (bp [6,7,8,9,10,11,12,13]) U)<|dP 2 [] mn ?_
 refine jl (t:=75) U (fun g=>?_) (fun g=>?_)
 ·refine lQ 3 U<|cQ<|rP 3 [] mn ?_
  refine RK R<|a_ U<|cr<|aH<|ib 17 U fR U ?_
  refine aV (V ⟨((cH l2 u),T,A2),⟨mH B,oc.skip Ao L D (by exact It g),E,G,H,AB⟩⟩ _ _ _ U (fh L) (aU U) (aG [2,3,4,5,6,7,8,9,10,11,12,13,14,15,16,17,18]))
 refine dP 3 [0,1] (mc 5 U (mc 0 U mn)) ?_
 refine cQ<|kS (k:=T) (k':=(T++[(o.1,(aa.mk (max (v+y) o.2.Lo) (min z o.2.Hi)))])) 18 (by first|exact GT|exact Nat.le_refl _) hY H AB U U U (by exact ⟨(o.1,_),gU.2 ⟨o,ho,(t,v),K _ hm,(u,z),B _ L,(Bz hy d g)⟩,U,U⟩) U U (fun B34 W AA=>?_) (fun B34 W AA=>?_)
 rotate_left 1
 ·refine rP 2 [] mn ?_
  refine RK R<|aR U<|ar ?_
  exact C2 B34 _ _ (by exact ⟨U,W,AA⟩) (aG [3,5,18,6,7,8,9,10,11,12,13,14,15])
 refine rP 2 [] mn ?_
 refine RK R<|a_ U<|cr<|aH<|ib 17 U fR U ?_
 refine aV (V ⟨((cH l2 u),(T++[(o.1,(aa.mk (max (v+y) o.2.Lo) (min z o.2.Hi)))]),B34),⟨mH B,oc.VR Ao L D (Bz hy d g),E.app,G.app,W,AA⟩⟩ _ _ _ U (fh L) (aU U) (aG [2,3,4,5,6,7,8,9,10,11,12,13,14,15,16,17,18]))
end
section
open Go.RowKit
theorem HW (ln:bZ) (ri:d_) (e:List Int) (tms:List TM) (e_A:OA) (e_C:Nat) (tb:List Nat) (t_A:OA) (t_C:Nat) (fs:List FM) (bs:List FM) (fb:List Nat) (f_A:OA) (f_C:Nat) (bb:List Nat) (b_A:OA) (b_C gw:Nat) (hw:H0 (cO ln ri e tms)) (hsg:ri.ai.n≤1000) (hn:ln.ae.n=e.length) (hfw:yo (cO ln ri e tms) fs) (hfb:fb.length=fs.length):
 lB Tryz.prog 99 [(vP gw)] [(rd e_A e.length 1 (e.map iC)),(rd t_A tms.length 1 (List.zipWith gT tms tb)),(e9 (aW sj tms tb)),(rd f_A fs.length 1 (List.zipWith gT fs fb)),(e9 (aW oq fs fb)),(rd b_A bs.length 1 (List.zipWith gT bs bb)),(e9 (aW oq bs bb)),(cd gw 166 (cp.cells (cp.mk ln ri (bj.mk e_A e.length e_C) (bj.mk t_A tms.length t_C) (bj.mk f_A fs.length f_C) (bj.mk b_A bs.length b_C))))] (fun (x:(OA)×Nat)=>(vS x.1 ((jW (cO ln ri e tms)).length) x.2)) (fun (x:(OA)×Nat)=>True) (fun (x:(OA)×Nat)=>[(own x.1 x.2 3 1 ((jW (cO ln ri e tms)).map iC))]):=by
 have y:e.length≤6:=hw.n
 have u:fs.length=e.length+1:=hfw.len
 refine di kr Tryz.func99 U U fun w0 Q hQ hN=>?_
 try dsimp only
 refine WS fun _ X=>bo 1 U<|RK X<|WS fun _ Y=>bo 1 U<|RK Y<|aj fun _ Z=>WS fun _ b=>bo 1 U<|rS (SX (bP U U) U U)<|rP 6 [] (mr 7 U mn) ?_
 refine RK b<|ax<|gr 3 1 ?_
 have A:(0≤e.length+1):=by exact Nat.zero_le _
 refine bL (ι:={z:Nat×(OA)×Nat // (z.1≤e.length+1)}) [0,12] [1,2,3,4,5,6,7,8] U U (fun z=>[(3,(vS z.1.2.1 ((kE (cO ln ri e tms) z.1.1).length) z.1.2.2)),(13,(vI (z.1.1:Int)))]) (fun z=>[(own z.1.2.1 z.1.2.2 3 1 ((kE (cO ln ri e tms) z.1.1).map iC))]) (fun _=>rfl) (fun _=>rfl) (fun z=>e.length+1-z.1.1) ⟨(0,none,0),A⟩ (aU U) (aG [1,2,3,4,5,6,7,8,0]) ?_
 clear A
 rintro ⟨⟨n,a,c⟩,G⟩ J5 AB
 try dsimp only at G
 try dsimp only
 refine WS fun _ d=>rP 1 [] mn ?_
 refine RK d<|aj fun _ g=>bS U (aP fun s=>?_) (aQ fun s=>?_)
 ·refine bD<|ab<|ab<|ay<|KK Z<|WS fun _ P=>?_
  rw [show kE (cO ln ri e tms) n=jW (cO ln ri e tms) by (obtain rfl:n=e.length+1:=by omega); rfl]
  refine rP 2 [] mn ?_
  refine RK P<|ar<|LX hQ (a,c) [8] [] mn U U U U ?_
  trivial
 refine WK g<|aj fun _ R=>ax<|WS fun _ J=>bo 2 U<|RK J<|WS fun _ K=>bo 1 U<|rS (SX (bP U U) U U)<|rP 3 [] (mr 7 U mn) ?_
 obtain ⟨m,B⟩:=aJ fs n I
 obtain ⟨ma,hm0a⟩:=aJ fb n I
 have hm0m:(List.zipWith gT fs fb)[n]? =some (gT m ma):=dG B hm0a
 refine rS (IA n U (aC 3 U) oN dc I I)<|rS (gi n 0 (Value.map (some ma)) U cj (aC 3 U) hm0m U dc U)<|j4 (kV:=eD) (m:=bW iV m) 4 U U pd U ⟨⟨(iS eD ma (bW iV m)),(bM B hm0a (by simp [oq])),U⟩,fun h=>h⟩ (show iA _ (iS eD ma (bW iV m)).holds from dA 4 U (bM B hm0a (by simp [oq]))) U fun l=>?_
 try dsimp only
 refine RK K<|ax ?_
 have A:(∀ p∈m,p∈m)∧(∀ p∈m,p∈m∨j_ (cO ln ri e tms) p.1=false):=by exact ⟨fun p hp=>hp,fun p hp=> .inl hp⟩
 refine bL (ι:={z:FM // (∀ p∈z,p∈m)∧(∀ p∈m,p∈z∨j_ (cO ln ri e tms) p.1=false)}) [0,3,4,12,13,23] [1,2,3,4,5,6,7,8,9] U U (fun z=>[]) (fun z=>[(yX eD l ma (bW iV m) (bW iV z.1) none)]) (fun _=>rfl) (fun _=>rfl) (fun z=>z.1.length) ⟨m,A⟩ (dF.nil _) (aG [1,2,3,4,5,6,7,8,9,0]) ?_
 clear A
 rintro ⟨left,⟨C,D⟩⟩ J13 H
 try dsimp only
 refine WS fun _ F=>jC pq.inj (f:=iV) 9 U U U U (fun W=>?_) (fun t v hm i=>?_)
 ·refine bo 1 U<|RK F<|aj fun _ o=>a_ U<|bD<|ab<|ab<|ay<|aH<|KK R<|al<|rP 2 [] mn ?_
  refine aA ?_
  rw [← G7 (w:=(cO ln ri e tms)) (k:=n) ((Db (hfw.min _ _ B) (hfw.keys _ _ B)).symm.trans (LS D W))]
  have S:(vI (((n+1):Nat):Int))=(vI ((n:Int)+1)):=by exact cI I
  refine aV (AB ⟨((n+1),a,c),(by first|omega|(simp only []; omega))⟩ _ _ _ U os (cU 3<|bk U S<|dF.nil _) (aG [0,1,2,3,4,5,6,7,8]))
 try dsimp only
 refine bo 1 U<|RK F<|aj fun _ L=>aR U<|WK L<|ax<|WS fun _ M=>rS (SX (jz 9 U U U) U U)<|bo 1 U<|AL U uj fun q=>gl U sx U<|RK M<|WS fun _ N=>rP 2 [] (mc 0 U mn) ?_
 have j:=Jw hw _ _ (hfw.mem B (C _ hm))
 dsimp only at j
 refine rS (CL (Pz ln ri e tms e_A e_C tb t_A t_C fs bs fb f_A f_C bb b_A b_C gw t I hsg) (bp [1,2,3,4,5,6,7,8]) U)<|RK N<|bS U (fun E=>?_) (fun E=>?_)
 ·refine cr<|aH<|ib 10 U fR U ?_
  refine aV (H ⟨(cH left t),⟨mH C,I7 i hm D (by first|exact E|simpa using E)⟩⟩ _ _ _ U (fh hm) (aU U) (aG [1,2,3,4,5,6,7,8,9,10]))
 refine WS fun _ O=>rP 2 [] mn ?_
 refine c_ (xs:=[.tmp 32]) (cs:=[(vI (n:Int))]) U cL jA U U U U (by simp [Value.cells]) U U fun r=>?_
 have hy:jF (cO ln ri e tms) (fwd (cO ln ri e tms) n)=true:=(Db (hfw.min _ _ B) (hfw.keys _ _ B)).symm.trans (M6 (C _ hm) E)
 refine ck (es2:=(List.map iC (kE (cO ln ri e tms) (n+1)))) (m':=(kE (cO ln ri e tms) (n+1)).length) 10 U U U pw U U sm (aZ (es:=List.map iC [(n:Int)]) 0 U U (by simp [bI]) U) (jP _) (by have:=wN (w:=(cO ln ri e tms)) (k:=n); first|omega|(simp; omega)) (by have:=wN (w:=(cO ln ri e tms)) (k:=n); simp only [maxLen]; omega) (by rw [Ff hy]; simp) sm U fun AA V=>?_
 try dsimp only
 refine bo 1 U<|RK O<|bD<|iX U<|ab<|ay<|aH<|KK R<|al<|rP 2 [] mn ?_
 refine aA ?_
 have T:(vI (((n+1):Nat):Int))=(vI ((n:Int)+1)):=by exact cI I
 refine aV (AB ⟨((n+1),AA,V),(by first|omega|(simp only []; omega))⟩ _ _ _ U os (cU 3<|bk U T<|dF.nil _) (aG [2,3,4,5,6,7,8,9,10]))
end
section
open Go.RowKit
theorem Jf (ln:bZ) (ri:d_) (e:List Int) (tms:List TM) (e_A:OA) (e_C:Nat) (tb:List Nat) (t_A:OA) (t_C gw:Nat) (hw:H0 (cO ln ri e tms)) (hn:ln.ae.n=e.length) (htb:tb.length=tms.length):
 DO Tryz.prog 98 [(vP gw)] [(rd e_A e.length 1 (e.map iC)),(rd t_A tms.length 1 (List.zipWith gT tms tb)),(e9 (aW sj tms tb))] (cd gw 166 (cp.cells (cp.mk ln ri (bj.mk e_A e.length e_C) (bj.mk t_A tms.length t_C) (bj.mk none 0 0) (bj.mk none 0 0)))) (fun (x:(List FM)×(List Nat)×(OA)×Nat×(List FM)×(List Nat)×(OA)×Nat)=>(vT [])) (fun (x:(List FM)×(List Nat)×(OA)×Nat×(List FM)×(List Nat)×(OA)×Nat)=>yo (cO ln ri e tms) x.1∧u3 (cO ln ri e tms) x.2.2.2.2.1∧x.2.1.length=x.1.length∧x.2.2.2.2.2.1.length=x.2.2.2.2.1.length) (fun (x:(List FM)×(List Nat)×(OA)×Nat×(List FM)×(List Nat)×(OA)×Nat)=>(br [(cd gw 166 (cp.cells (cp.mk ln ri (bj.mk e_A e.length e_C) (bj.mk t_A tms.length t_C) (bj.mk x.2.2.1 x.1.length x.2.2.2.1) (bj.mk x.2.2.2.2.2.2.1 x.2.2.2.2.1.length x.2.2.2.2.2.2.2)))),(own x.2.2.1 x.2.2.2.1 170 1 (List.zipWith gT x.1 x.2.1)),(br (aW oq x.1 x.2.1)),(own x.2.2.2.2.2.2.1 x.2.2.2.2.2.2.2 170 1 (List.zipWith gT x.2.2.2.2.1 x.2.2.2.2.2.1)),(br (aW oq x.2.2.2.2.1 x.2.2.2.2.2.1))])):=by
 have WY:e.length≤6:=hw.n
 have WZ:tms.length=e.length:=hw.times
 refine mX kr Tryz.func98 U U fun w0 Q hQ hN=>?_
 try dsimp only
 refine WS fun _ C2=>uG U U fun W=>RK C2<|WS fun _ Di=>fY 1 [] (mc 0 U mn) U<|rS (SX (bP U U) U U)<|rP 5 [] (mc 1 U mn) ?_
 refine RK Di ?_
 refine mw (ι:={z:(OA)×(OA) // True}) [0,1,2] [0,2,3,4] U U (fun z=>[]) (fun z=>[(own z.1.1 (ln.ae.n+1) 170 1 (List.map oC (List.replicate (ln.ae.n+1) (none:Option Nat)))),(own z.1.2 (ln.ae.n+1) 170 1 (List.map oC (List.replicate (ln.ae.n+1) (none:Option Nat)))),(cd gw 166 (cp.cells (cp.mk ln ri (bj.mk e_A e.length e_C) (bj.mk t_A tms.length t_C) (bj.mk z.1.1 (ln.ae.n+1) (ln.ae.n+1)) (bj.mk z.1.2 (ln.ae.n+1) (ln.ae.n+1)))))]) (fun _=>rfl) (fun _=>rfl) ?_ fun K4 Do=>?_
 ·rintro ⟨⟨fA,bA⟩,_⟩
  try dsimp only
  refine Bu 6 U U fun wz Sz hz=>?_
  have WV:(List.replicate (ln.ae.n+1) (none:Option Nat)).length=(ln.ae.n+1):=List.length_replicate
  try dsimp only
  refine mw (ι:={z:Nat // True}) [0,1,2] [0,1,2,3,4,6] U U (fun z=>[]) (fun z=>[(br (aW oq [[((aB.mk 0 0),ri.Start)]] [z.1])),(own fA (ln.ae.n+1) 170 1 (List.map oC (eI [z.1] (ln.ae.n+1))))]) (fun _=>rfl) (fun _=>rfl) ?_ fun K5 T2=>?_
  ·rintro ⟨ga,_⟩
   try dsimp only
   refine aj fun _ EQ=>WS fun _ Eq=>rP 2 [] mn ?_
   refine RK Eq<|ax<|lV ?_
   have C:(0≤ln.ae.n)∧(([[((aB.mk 0 0),ri.Start)]]).length=0+1)∧(([ga]).length=0+1)∧(qd (cO ln ri e tms) ([[((aB.mk 0 0),ri.Start)]])):=by exact ⟨Nat.zero_le _,rfl,rfl,qd.first⟩
   refine wo (ι:={z:Nat×(List FM)×(List Nat)×(List Nat) // (z.1≤ln.ae.n)∧(z.2.1.length=z.1+1)∧(z.2.2.1.length=z.1+1)∧(qd (cO ln ri e tms) z.2.1)}) (fun z=>z.1.2.2.2.map lR) (fun z=>[(0,(vP gw)),(1,(vP W)),(2,(vI (ln.ae.n:Int))),(52,(vI (ln.ae.n:Int))),(53,(vI (z.1.1:Int)))]) (fun z=>[(br (z.1.2.2.2.map lY)),(cd gw 166 (cp.cells (cp.mk ln ri (bj.mk e_A e.length e_C) (bj.mk t_A tms.length t_C) (bj.mk fA (ln.ae.n+1) (ln.ae.n+1)) (bj.mk bA (ln.ae.n+1) (ln.ae.n+1))))).ro,(cd W 121 [(vP gw)]),(rd e_A e.length 1 (e.map iC)).ro,(rd t_A tms.length 1 (List.zipWith gT tms tb)).ro,(e9 (aW sj tms tb)).ro,(own bA (ln.ae.n+1) 170 1 (List.map oC (List.replicate (ln.ae.n+1) (none:Option Nat)))),(br (aW oq z.1.2.1 z.1.2.2.1)),(own fA (ln.ae.n+1) 170 1 (List.map oC (eI z.1.2.2.1 (ln.ae.n+1))))]) (fun z=>ln.ae.n-z.1.1) ⟨(0,[[((aB.mk 0 0),ri.Start)]],[ga],([]:List Nat)),C⟩ U (aU U) (aG [0,1,2,3,4,5,6,7,8]) ?_
   clear C
   rintro ⟨⟨b,fs,fb,S1⟩,⟨IR,A3,Id,M⟩⟩ J8 T0
   try dsimp only at IR A3 Id M
   try dsimp only
   have WW:(eI fb (ln.ae.n+1)).length=(ln.ae.n+1):=rm I
   refine WS fun _ FR=>rP 1 [] mn ?_
   refine RK FR<|aj fun _ AO=>cP U (aQ fun TQ=>?_) (aP fun TQ=>?_)
   ·refine WK AO<|aj fun _ KU=>ax<|WS fun _ KX=>rP 1 [] mn ?_
    refine AL U jA fun s=>GZ U Cs U U<|RK KX<|aj fun _ KY=>dK cx [6,8] [6] [0] [0,1,2,3,4,5,6,7,8] [0,1,2,3,4,5,6,7,8,9] U U U U U<|eS U (Fe 3 U cj U)<|eS U (SX (bP U U) U U)<|eS U (FA 12 U fw U)<|eS U (ID (vS fA (ln.ae.n+1) (ln.ae.n+1)) 2 U cj U U)<|eS U (Fe 0 U cj U)<|eS U (BI U (iG ⟨I,I⟩)) ?_
    obtain ⟨V8,R8⟩:=aJ (eI fb (ln.ae.n+1)) (b+1) I
    have hx17m:(List.map oC (eI fb (ln.ae.n+1)))[(b+1)]? =some (oC V8):=by rw [fB,R8]; rfl
    refine fS U (IA (b+1) U (ag (n:=(ln.ae.n+1)) 9 U sq) oN dc I I) ?_
    refine eT U<|gS U fun T18 Pk=>o_ (kV:=eD) U U fun B=>?_
    try dsimp only
    refine aA (Pk _ _ (aG [1,2,3,4,5,6,7,8,9]) (aG [1,2,3,4,5,6,7,8,9,10]) ?_)
    refine cf U fun T20 Pl=>?_
    have Rw:((eI fb (ln.ae.n+1)).set (b+1) (some B))=(eI (fb++[B]) (ln.ae.n+1)):=by exact vf I I
    refine dk (k:=(b+1)) (o:=0) (vs:=[(Value.map (some B))]) (es':=(List.map oC (eI (fb++[B]) (ln.ae.n+1)))) (C':=[_,_,_,_,_,_,_,_,_,_,(own fA (ln.ae.n+1) 170 1 (List.map oC (eI (fb++[B]) (ln.ae.n+1))))]) 10 U U U LC U U U U hx17m U dc (by exact (List.map_set (f:=oC) (l:=(eI fb (ln.ae.n+1))) (i:=(b+1)) (a:=(some B))).symm.trans (congrArg _ Rw)) U<|aA (Pl _ _ (aG [1,2,3,4,5,6,7,8,9]) ?_)
    refine fO U<|KK KY<|aj fun _ Kc=>?_
    have UQ:(eI (fb++[B]) (ln.ae.n+1)).length=(ln.ae.n+1):=rm (by simp; omega)
    obtain ⟨mb,N⟩:=aJ fs b I
    obtain ⟨ga,Z⟩:=aJ fb b I
    refine Gc 9 N Z U U U ?_
    try dsimp only
    refine dH cx 7 kr<|mV 1 [] (mc 6 U mn) U<|dS (SX (bP U U) U U)<|dP 3 [0,1] (mr 5 U (mc 3 U mn)) ?_
    have R3:(List.map oC (eI (fb++[B]) (ln.ae.n+1)))[b]? =some (oC (some ga)):=sK (pa (I2 Z))
    refine dS (IA b U (ag (n:=(ln.ae.n+1)) 11 U sq) oN dc I I) ?_
    refine dS (gi b 0 (Value.map (some ga)) U cj (ag (n:=(eI (fb++[B]) (ln.ae.n+1)).length) 11 U sm) R3 U dc U)<|cQ<|uU 0 U U pd U U fun Bm=>?_
    try dsimp only
    refine RK Kc<|ax ?_
    have C:(∀ p∈mb,p∈mb)∧(xQ (cO ln ri e tms) b ([]:FM))∧(kh (cO ln ri e tms) b mb ([]:FM) mb):=by exact ⟨fun p hp=>hp,xQ.start,kh.start⟩
    refine wo (ι:={z:FM×FM×(List Nat) // (∀ p∈z.1,p∈mb)∧(xQ (cO ln ri e tms) b z.2.1)∧(kh (cO ln ri e tms) b mb z.2.1 z.1)}) (fun z=>z.1.2.2.map lR) (fun z=>[(0,(vP gw)),(1,(vP W)),(2,(vI (ln.ae.n:Int))),(3,(vP s)),(52,(vI (ln.ae.n:Int))),(53,(vI (b:Int))),(71,(vP Bm))]) (fun z=>[(zt eD Bm ga (bW iV mb) (bW iV z.1.1) none),(br (fM oq fs fb b)),(iS eD B (bW iV z.1.2.1)),(cd s 3 [(vI (b:Int))]),(br (z.1.2.2.map lY)),(cd gw 166 (cp.cells (cp.mk ln ri (bj.mk e_A e.length e_C) (bj.mk t_A tms.length t_C) (bj.mk fA (ln.ae.n+1) (ln.ae.n+1)) (bj.mk bA (ln.ae.n+1) (ln.ae.n+1))))).ro,(cd W 121 [(vP gw)]),(rd e_A e.length 1 (e.map iC)).ro,(rd t_A tms.length 1 (List.zipWith gT tms tb)).ro,(e9 (aW sj tms tb)).ro,(own bA (ln.ae.n+1) 170 1 (List.map oC (List.replicate (ln.ae.n+1) (none:Option Nat)))),(own fA (ln.ae.n+1) 170 1 (List.map oC (eI (fb++[B]) (ln.ae.n+1))))]) (fun z=>z.1.1.length) ⟨(mb,([]:FM),S1),C⟩ U (aU U) (aG [0,1,2,3,4,5,6,7,8,9,10,11]) ?_
    clear C
    rintro ⟨⟨left,m,A4⟩,⟨c,d,g⟩⟩ J26 KR
    try dsimp only at c d g
    try dsimp only
    refine WS fun _ B9=>te pq.inj (f:=iV) 0 U U U U (fun Ta=>?_) (fun t v hm If=>?_)
    ·refine bo 1 U<|RK B9<|aj fun _ WL=>a_ U<|bD<|ab<|ab<|ay<|aH<|KK KU<|al<|rP 2 [] mn ?_
     refine aA<|JD (C':=[(iS eD ga (bW iV mb)),(br (fM oq fs fb b)),(iS eD B (bW iV m)),(cd s 3 [(vI (b:Int))]),(br (A4.map lY)),(cd gw 166 (cp.cells (cp.mk ln ri (bj.mk e_A e.length e_C) (bj.mk t_A tms.length t_C) (bj.mk fA (ln.ae.n+1) (ln.ae.n+1)) (bj.mk bA (ln.ae.n+1) (ln.ae.n+1))))).ro,(cd W 121 [(vP gw)]),(rd e_A e.length 1 (e.map iC)).ro,(rd t_A tms.length 1 (List.zipWith gT tms tb)).ro,(e9 (aW sj tms tb)).ro,(own bA (ln.ae.n+1) 170 1 (List.map oC (List.replicate (ln.ae.n+1) (none:Option Nat)))),(own fA (ln.ae.n+1) 170 1 (List.map oC (eI (fb++[B]) (ln.ae.n+1))))]) 0 U JH U<|Lf 1 0 N Z U U U ?_
     try dsimp only
     refine zA (X':=aW oq (fs++[m]) (fb++[B])) 0 1 U U (zf I U) ?_
     try dsimp only
     have R0:(vI (((b+1):Nat):Int))=(vI ((b:Int)+1)):=by exact cI I
     refine aV (T0 ⟨((b+1),(fs++[m]),(fb++[B]),A4),⟨I,by simp; omega,by simp; omega,M.add A3 N d g Ta⟩⟩ _ _ _ U os (cU 4<|bk U R0<|dF.nil _) (aG [2,3,4,5,6,7,8,0,9]))
    try dsimp only
    refine bo 1 U<|RK B9<|aj fun _ K0=>aR U<|WK K0<|ax<|WS fun _ K8=>rS (SX (sW 0 U U U) U U)<|bo 2 U<|AL U uj fun I4=>AL U jA fun J2=>ti U sx U<|GZ U Cs U U<|RK K8<|WS fun _ LA=>rP 2 [0,1] (mc 8 U (mc 5 U mn)) ?_
    refine cX (u0 gw b) (aI) U fun WE WO=>?_
    obtain ⟨Ck,Cx⟩:=WE
    try dsimp only
    refine RK LA<|ax<|kR 11 U (by exact fun _ h=>h)<|kR 13 U (by exact fun _ h=>h)<|kR 15 U (by exact fun _ h=>h)<|kR 12 U (by exact fun _ h=>h) ?_
    refine nJ (L0:=[(0,(vP gw)),(1,(vP W)),(2,(vI (ln.ae.n:Int))),(3,(vP s)),(4,(vP I4)),(5,(vP J2)),(52,(vI (ln.ae.n:Int))),(53,(vI (b:Int))),(71,(vP Bm))]) (F:=[(rd e_A e.length 1 (e.map iC)).ro,(rd t_A tms.length 1 (List.zipWith gT tms tb)).ro,(e9 (aW sj tms tb)).ro,(cd gw 166 (cp.cells (cp.mk ln ri (bj.mk e_A e.length e_C) (bj.mk t_A tms.length t_C) (bj.mk fA (ln.ae.n+1) (ln.ae.n+1)) (bj.mk bA (ln.ae.n+1) (ln.ae.n+1))))).ro,(cd Ck 121 [(vP gw)]),(cd Cx 3 [(vI (b:Int))])]) (fun k (y:FM)=>(nS (cO ln ri e tms) b mb left y (t,v) k)) (fun k y=>[(cd J2 3 [(vI v)]),(cd I4 172 (aB.cells t)),(zt eD Bm ga (bW iV mb) (bW iV (cH left t)) (some (t,(vI v)))),(br (fM oq fs fb b)),(iS eD B (bW iV y)),(cd s 3 [(vI (b:Int))]),(br (A4.map lY)),(cd gw 166 (cp.cells (cp.mk ln ri (bj.mk e_A e.length e_C) (bj.mk t_A tms.length t_C) (bj.mk fA (ln.ae.n+1) (ln.ae.n+1)) (bj.mk bA (ln.ae.n+1) (ln.ae.n+1))))).ro,(cd W 121 [(vP gw)]),(rd e_A e.length 1 (e.map iC)).ro,(rd t_A tms.length 1 (List.zipWith gT tms tb)).ro,(e9 (aW sj tms tb)).ro,(own bA (ln.ae.n+1) 170 1 (List.map oC (List.replicate (ln.ae.n+1) (none:Option Nat)))),(own fA (ln.ae.n+1) 170 1 (List.map oC (eI (fb++[B]) (ln.ae.n+1))))]) (fun _ (_:Unit)=>False) (fun _ _=>[]) [6,7,8,9,10,11,12,13,14,15,16,17,18,19] [3,2,1,0,4,5] m rfl rfl (sY ln ri e tms e_A e_C tb t_A t_C fA (ln.ae.n+1) (ln.ae.n+1) bA (ln.ae.n+1) (ln.ae.n+1) gw b Ck Cx I I) rfl rfl rfl (by exact nS.start d g) (by simp only [List.forall_mem_cons,List.not_mem_nil,false_imp_iff,implies_true,and_true]; exact ⟨⟨_,aT (i:=0) rfl,(dV (bV _))⟩,⟨_,aT (i:=1) rfl,(dV (bV _))⟩,⟨_,aT (i:=2) rfl,(dV (bV _))⟩,⟨_,aT (i:=3) rfl,(dV (bV _))⟩,⟨_,aT (i:=4) rfl,(bV _)⟩,⟨_,aT (i:=5) rfl,(bV _)⟩⟩) (by rintro k x k2 ⟨o,_,rfl,_⟩; rfl) rfl (aU rfl) ?_ ?_ (fun _ _ _ h=>h.elim) (fun _ _ h=>h.elim)
    rotate_left 1
    ·rintro Vb k O A2 Gm
     have D:=Gm
     try dsimp only
     refine aH<|aH<|Mc (X:=A4.map lY) 13 0 U U ?_
     try dsimp only
     refine ib 9 U wY U ?_
     refine aV (KR ⟨((cH left t),O,(Vb::A4)),⟨mH c,D.on,D.next If hm A2⟩⟩ _ _ _ U (fh hm) (aU U) (aG [9,10,11,12,0,4,14,1,2,3,18,19]))
    rintro k x k2 O l ra rb S w1 K39 Qr40 VQ hx GT LE H WC WG
    obtain ⟨o,ho,rfl,rfl⟩:=hx
    have D:=GT
    try dsimp only
    refine WS fun _ LL=>rP 1 [] mn ?_
    refine RK LL<|al<|AL U dv fun WQ=>gl U cy U<|aA<|ja (fun _ _ h=>h) (aG [1,0,2,3,4,5,6,7,8,9,10,11,12,13,14,15])<|aV (LE _ _ ?_)
    refine ax<|aj fun _ LT=>dK cx [16,18] [] [] [0,1,2,3,4,5,6,7,8,9,10,11,12,13,14,15] [] U U U U U<|eS U (Fe 2 U cj U)<|eS U (Fe 10 U cj U)<|eS U (SX (bP U U) U U)<|eS U (FA 10 U fw U)<|eS U (ID (vS e_A e.length e_C) 9 U cj U U)<|eS U (Fe 7 U cj U) ?_
    obtain ⟨y,hy⟩:=aJ e b I
    have In:=bO iC hy
    refine eS U (IA b U (aC 11 U) cL dc I I)<|eS U (gi b 0 (vI y) U cj (aC 11 U) In U dc U) ?_
    have UC:=hw.least y (aT hy)
    have hp:=M.mem N (c _ hm)
    have T6:=Jw hw _ _ hp
    have UX:=ve o.1
    have VO:=hw.opt ho
    have WX:=hw.now
    dsimp only at T6
    refine eS U (BI U (iG ⟨I,I⟩))<|eS U (FA 0 U fw U)<|eS U (L1 (vI o.2.Lo) 1 U cj U U)<|eS U (MX U)<|eS U (LW 3 U cj U U)<|eS U (MV U)<|eS U (CL (L6 o.1) (aI) U)<|eS U (CL (wB t (fx o.1) I I) (aI) U)<|eS U (AG U)<|eT U<|cf U fun T45 P8=>AL U uj fun WR=>aA (P8 _ _ (aG [1,2,3,4,5,6,7,8,9,10,11,12,13,14,15,16]) ?_)
    refine cf U fun T47 QG=>gl U sx U<|aA (QG _ _ (aG [1,2,3,4,5,6,7,8,9,10,11,12,13,14,15,16]) ?_)
    refine fO U<|KK LT<|aj fun _ La=>dH cx 15 kr<|mV 1 [] (mc 11 U mn) U<|dS (SX (bP U U) U U)<|dP 4 [0,1] (mr 10 U (mc 8 U mn)) ?_
    have R4:(List.map oC (eI (fb++[B]) (ln.ae.n+1)))[(b+1)]? =some (oC (some B)):=sK (pa (AH I))
    refine dS (IA (b+1) U (ag (n:=(ln.ae.n+1)) 16 U sq) oN dc I I) ?_
    refine dS (gi (b+1) 0 (Value.map (some B)) U cj (ag (n:=(eI (fb++[B]) (ln.ae.n+1)).length) 16 U sm) R4 U dc U)<|mV 1 [] (mc 0 U mn) U<|dS (SX (kX (kV:=eD) (x:=(dw t (fx o.1))) (l:=O) (f:=iV) (z:=0) U U U pd pq V4 (by exact aC 7 U)) U U)<|lQ 5 U<|cQ<|RK La<|aj fun _ AS=>dH cx 19 kr<|mV 4 [0,1] (mc 2 U (mc 11 U mn)) U<|dS (SX (bP U U) U U)<|mV 3 [] (mr 10 U mn) U<|dS (MN U)<|dP 2 [] mn ?_
    refine jl (t:=121) U (aP fun P=>?_) (aQ fun P=>?_)
    ·refine dP 8 [] mn ?_
     refine cQ<|RK AS<|a_ U<|cr<|aH ?_
     exact H O _ _ (by exact D.skip (Mn hy P)) (aG [1,3,4,5,6,7,8,9,10,11,12,13,14,15,16])
    refine dP 3 [] mn ?_
    refine js (t:=124) U (fun R=>?_) (fun R=>?_)
    ·rw [Bool.not_eq_true'] at R
     refine lQ 5 U<|cQ<|RK AS<|aR U<|dH cx 10 kr<|mV 1 [] (mc 11 U mn) U<|dS (SX (bP U U) U U)<|dP 4 [0,1] (mr 10 U (mc 8 U mn)) ?_
     have R5:(List.map oC (eI (fb++[B]) (ln.ae.n+1)))[(b+1)]? =some (oC (some B)):=sK (pa (AH I))
     refine dS (IA (b+1) U (ag (n:=(ln.ae.n+1)) 16 U sq) oN dc I I) ?_
     refine dS (gi (b+1) 0 (Value.map (some B)) U cj (ag (n:=(eI (fb++[B]) (ln.ae.n+1)).length) 16 U sm) R5 U dc U)<|dP 2 [] (mc 0 U mn) ?_
     refine cQ<|ko (kV:=eD) (x:=(dw t (fx o.1))) (C':=[_,_,_,_,_,_,_,(iS eD B (bW iV (e8 O (dw t (fx o.1)) (max (v+y) o.2.Lo)))),_,_,_,_,_,_,_,_,_]) 7 U U U U pd pq U (iD _ _ _ _).symm U<|aA<|aH ?_
     exact H (e8 O (dw t (fx o.1)) (max (v+y) o.2.Lo)) _ _ (by exact D.set hp ho (AV hy P) (.inl (by simpa using R))) (aG [1,3,4,5,6,7,8,9,10,11,12,13,14,15,16])
    rw [Bool.not_eq_false'] at R
    refine dP 5 [] mn ?_
    refine cQ<|RK AS<|bS U (aP fun u=>?_) (aQ fun u=>?_)
    ·refine cr<|aH ?_
     exact H O _ _ (by exact D.oV (AV hy P) (by simpa using R) u) (aG [1,3,4,5,6,7,8,9,10,11,12,13,14,15,16])
    refine dH cx 10 kr<|mV 1 [] (mc 11 U mn) U<|dS (SX (bP U U) U U)<|dP 4 [0,1] (mr 10 U (mc 8 U mn)) ?_
    have R6:(List.map oC (eI (fb++[B]) (ln.ae.n+1)))[(b+1)]? =some (oC (some B)):=sK (pa (AH I))
    refine dS (IA (b+1) U (ag (n:=(ln.ae.n+1)) 16 U sq) oN dc I I) ?_
    refine dS (gi (b+1) 0 (Value.map (some B)) U cj (ag (n:=(eI (fb++[B]) (ln.ae.n+1)).length) 16 U sm) R6 U dc U)<|dP 2 [] (mc 0 U mn) ?_
    refine cQ<|ko (kV:=eD) (x:=(dw t (fx o.1))) (C':=[_,_,_,_,_,_,_,(iS eD B (bW iV (e8 O (dw t (fx o.1)) (max (v+y) o.2.Lo)))),_,_,_,_,_,_,_,_,_]) 7 U U U U pd pq U (iD _ _ _ _).symm U<|aA<|aH ?_
    exact H (e8 O (dw t (fx o.1)) (max (v+y) o.2.Lo)) _ _ (by exact D.set hp ho (AV hy P) (.inr u)) (aG [1,3,4,5,6,7,8,9,10,11,12,13,14,15,16])
   refine bD<|ab<|ab<|ay<|KK EQ<|WS fun _ Ao=>rP 1 [] mn ?_
   refine AL U jA fun S2=>GZ U Cs U U<|RK Ao<|ax ?_
   rw [H_]
   refine lV ?_
   have C:(0≤ln.ae.n+1)∧(([]:List FM).length=0)∧(([]:List Nat).length=0)∧(iu (cO ln ri e tms) (ln.ae.n+1-0) ([]:List FM)):=by exact ⟨Nat.zero_le _,rfl,rfl,iu.none_⟩
   refine wo (ι:={z:Nat×(List FM)×(List Nat)×Nat×(List Nat) // (z.1≤ln.ae.n+1)∧(z.2.1.length=z.1)∧(z.2.2.1.length=z.1)∧(iu (cO ln ri e tms) (ln.ae.n+1-z.1) z.2.1)}) (fun z=>z.1.2.2.2.2.map lR) (fun z=>[(0,(vP gw)),(1,(vP W)),(2,(vI (ln.ae.n:Int))),(12,(Value.pointer (some ⟨z.1.2.2.2.1,0,none⟩)))]) (fun z=>[(br (aW oq z.1.2.1 z.1.2.2.1)),(cd z.1.2.2.2.1 3 [(vI ((ln.ae.n:Int)-(z.1.1:Int)))]),(br (z.1.2.2.2.2.map lY)),(cd gw 166 (cp.cells (cp.mk ln ri (bj.mk e_A e.length e_C) (bj.mk t_A tms.length t_C) (bj.mk fA (ln.ae.n+1) (ln.ae.n+1)) (bj.mk bA (ln.ae.n+1) (ln.ae.n+1))))).ro,(cd W 121 [(vP gw)]),(rd e_A e.length 1 (e.map iC)).ro,(rd t_A tms.length 1 (List.zipWith gT tms tb)).ro,(e9 (aW sj tms tb)).ro,(own bA (ln.ae.n+1) 170 1 (List.map oC (im z.1.2.2.1 (ln.ae.n+1)))),(br (aW oq fs fb)),(own fA (ln.ae.n+1) 170 1 (List.map oC (eI fb (ln.ae.n+1))))]) (fun z=>ln.ae.n+1-z.1.1) ⟨(0,([]:List FM),([]:List Nat),S2,S1),C⟩ U (aU U) (aG [0,1,2,3,4,5,6,7,8,9,10]) ?_
   clear C
   rintro ⟨⟨j,bs,bb,gq,q⟩,⟨A7,A8,A9,E⟩⟩ J57 B7
   try dsimp only at A7 A8 A9 E
   try dsimp only
   refine aj fun _ Ap=>WS fun _ A0=>rP 2 [] (mc 1 U mn) ?_
   refine RK A0<|bS U (aP fun J6=>?_) (aQ fun J6=>?_)
   ·refine bD<|ab<|ab<|ay ?_
    rw [show (List.map oC (eI fb (ln.ae.n+1)))=(List.zipWith gT fs fb) from by rw [yN I]; exact (AB I).symm]
    rw [show (List.map oC (im bb (ln.ae.n+1)))=(List.zipWith gT bs bb) from by rw [Hh I]; exact (AB I).symm]
    refine Bl (C1:=[(own fA (ln.ae.n+1) 170 1 (List.zipWith gT fs fb)),(br (aW oq fs fb)),(own bA (ln.ae.n+1) 170 1 (List.zipWith gT bs bb)),(br (aW oq bs bb)),(br (q.map lY))]) hz [10,9,8,0,2] U U (by simp only [fE,List.all_nil,Lm,NH,Bool.and_true]; rfl) ?_
    rw [show (cd gw 166 (cp.cells (cp.mk ln ri (bj.mk e_A e.length e_C) (bj.mk t_A tms.length t_C) (bj.mk fA (ln.ae.n+1) (ln.ae.n+1)) (bj.mk bA (ln.ae.n+1) (ln.ae.n+1)))))=(cd gw 166 (cp.cells (cp.mk ln ri (bj.mk e_A e.length e_C) (bj.mk t_A tms.length t_C) (bj.mk fA fs.length (ln.ae.n+1)) (bj.mk bA bs.length (ln.ae.n+1))))) from by rw [show fs.length=(ln.ae.n+1) from by omega,show bs.length=(ln.ae.n+1) from by omega]]
    refine Ql [(cd gw 166 (cp.cells (cp.mk ln ri (bj.mk e_A e.length e_C) (bj.mk t_A tms.length t_C) (bj.mk fA fs.length (ln.ae.n+1)) (bj.mk bA bs.length (ln.ae.n+1))))),(own fA (ln.ae.n+1) 170 1 (List.zipWith gT fs fb)),(br (aW oq fs fb)),(own bA (ln.ae.n+1) 170 1 (List.zipWith gT bs bb)),(br (aW oq bs bb))] [(br (q.map lY))] ?_
    refine hN _ _ _ (JU 1 U U<|ik (vs:=[]) trivial fun w hs=>Tj (fs,fb,fA,(ln.ae.n+1),bs,bb,bA,(ln.ae.n+1)) 0 ?_ ?_ U (by show List.all _ _=true; simp only [fE,List.all_nil,Lm,Bool.and_true]; rfl) hs)
    ·clear hs w hQ hN A0 Ap Ao AO FR Eq EQ Di C2; rfl
    ·clear hs w hQ hN A0 Ap Ao AO FR Eq EQ Di C2; exact ⟨M.ok (by show fs.length=e.length+1; omega),iu.ok (by have:=E; rwa [show ln.ae.n+1-j=0 by omega] at this) (by show bs.length=e.length+1; omega),dso,dso⟩
   refine WK Ap<|aj fun _ Ca=>ax<|aj fun _ Li=>?_
   obtain ⟨b,WU⟩: ∃ b:Nat,b+j=ln.ae.n:=⟨ln.ae.n-j,I⟩
   rw [show (ln.ae.n:Int)-(j:Int)=(b:Int) from by omega]
   have WN:(im bb (ln.ae.n+1)).length=(ln.ae.n+1):=z5 I
   refine dK cx [5,12,13,15] [11] [0,1,2] [0,1,2,3,4,5,6,7,9,10] [0,1,2,3,4,5,6,7,8,9,10] U U U U U<|eS U (Fe 4 U cj U)<|eS U (SX (bP U U) U U)<|eS U (FA 13 U fw U)<|eS U (ID (vS bA (ln.ae.n+1) (ln.ae.n+1)) 3 U cj U U)<|eS U (Fe 1 U cj U)<|eS U (SX (bh (xs:=[]) (cs:=(aB.cells (aB.mk 0 0))) U U (bg CC U)) U U)<|eS U (Fe 4 U cj U)<|eS U (SX (bP U U) U U)<|eS U (FA 7 U fw U)<|eS U (FA 8 U fw U)<|eS U (ID (vI ri.gp) 3 U cj U U) ?_
   obtain ⟨WB,R9⟩:=aJ (im bb (ln.ae.n+1)) b I
   have hx63m:(List.map oC (im bb (ln.ae.n+1)))[b]? =some (oC WB):=by rw [fB,R9]; rfl
   refine fS U (IA b U (ag (n:=(ln.ae.n+1)) 8 U sq) oN dc I I) ?_
   refine eT U<|gS U fun T64 QL=>o_ (kV:=eD) U U fun A=>?_
   try dsimp only
   refine aA (QL _ _ (aG [1,2,3,4,5,6,7,8,10,11]) (aG [1,2,3,4,5,6,7,8,9,10,11]) ?_)
   refine gS U fun T66 Qq=>?_
   have R1:(e8 ([]:List (aB×Int)) (aB.mk 0 0) ri.gp)=[((aB.mk 0 0),ri.gp)]:=by rfl
   refine zu (kV:=eD) (x:=(aB.mk 0 0)) (C':=[(iS eD A (bW iV ([((aB.mk 0 0),ri.gp)]))),_,_,_,_,_,_,_,_,_,_,_]) 0 U U U U pd pq U ((iD _ _ _ _).symm.trans (congrArg _ R1)) U<|aA (Qq _ _ (aG [1,2,3,4,5,6,7,8,10,11]) (aG [1,2,3,4,5,6,7,8,9,10,11]) ?_)
   refine gS U fun T68 Qr=>rS (MV U)<|aA (Qr _ _ (aG [1,2,3,4,5,6,7,8,10,11]) (aG [1,2,3,4,5,6,7,8,9,10,11]) ?_)
   refine cf U fun T69 Ra=>?_
   have R2:((im bb (ln.ae.n+1)).set b (some A))=(im (A::bb) (ln.ae.n+1)):=by exact Il I
   refine dk (k:=b) (o:=0) (vs:=[(Value.map (some A))]) (es':=(List.map oC (im (A::bb) (ln.ae.n+1)))) (C':=[_,_,_,_,_,_,_,_,_,(own bA (ln.ae.n+1) 170 1 (List.map oC (im (A::bb) (ln.ae.n+1)))),_,_]) 9 U U U LC U U U U hx63m U dc (by exact (List.map_set (f:=oC) (l:=(im bb (ln.ae.n+1))) (i:=b) (a:=(some A))).symm.trans (congrArg _ R2)) U<|aA (Ra _ _ (aG [1,2,3,4,5,6,7,8,10,11]) ?_)
   refine fO U<|KK Li<|aj fun _ Lk=>WS fun _ L2=>rP 3 [] (mc 2 U mn) ?_
   refine RK L2<|cP U (aQ fun J7=>?_) (aP fun J7=>?_)
   ·refine bD<|ab<|ay<|KK Ca<|aj fun _ L3=>WS fun _ M2=>fY 1 [] (mc 2 U mn) U<|RK M2<|al<|AL U jA fun TC=>GZ U Cs U U<|RK L3<|al<|rP 2 [] (mc 0 U mn) ?_
    refine GZ U Cs U U<|aA ?_
    rw [show (b:Int)-1=(ln.ae.n:Int)-(((j+1):Nat):Int) from by omega]
    refine z3 (ms:=bs) (m:=[((aB.mk 0 0),ri.gp)]) (a:=A) 2 1 U U U ?_
    try dsimp only
    refine aV (B7 ⟨((j+1),([((aB.mk 0 0),ri.gp)]::bs),(A::bb),TC,q),⟨I,by simp; omega,by simp; omega,by exact iu.end_ (b:=b) E I I (by show e.length≤b; omega)⟩⟩ _ _ _ U os (aU U) (aG [0,1,3,4,5,6,7,8,9,10,11]))
   refine WK Lk<|aj fun _ M4=>?_
   have UV:(im (A::bb) (ln.ae.n+1)).length=(ln.ae.n+1):=z5 (by simp; omega)
   obtain ⟨mb,N⟩:=aJ bs 0 I
   obtain ⟨ga,Z⟩:=aJ bb 0 I
   refine Gc 1 N Z U U U ?_
   try dsimp only
   refine dH cx 8 kr<|mV 1 [] (mc 6 U mn) U<|dS (SX (bP U U) U U)<|dP 4 [0,1] (mr 5 U (mc 3 U mn)) ?_
   have R7:(List.map oC (im (A::bb) (ln.ae.n+1)))[(b+1)]? =some (oC (some ga)):=sK (uc (i:=1) (by simpa using Z) (by simp; omega))
   refine dS (IA (b+1) U (ag (n:=(ln.ae.n+1)) 10 U sq) oN dc I I) ?_
   refine dS (gi (b+1) 0 (Value.map (some ga)) U cj (ag (n:=(im (A::bb) (ln.ae.n+1)).length) 10 U sm) R7 U dc U)<|cQ<|uU 0 U U pd U U fun B3=>?_
   try dsimp only
   refine RK M4<|ax ?_
   have C:(∀ p∈mb,p∈mb)∧(vZ (cO ln ri e tms) b ([((aB.mk 0 0),ri.gp)]))∧(jO (cO ln ri e tms) b mb ([((aB.mk 0 0),ri.gp)]) mb):=by exact ⟨fun p hp=>hp,vZ.start (by show b<e.length; omega),jO.start⟩
   refine wo (ι:={z:FM×FM×(List Nat) // (∀ p∈z.1,p∈mb)∧(vZ (cO ln ri e tms) b z.2.1)∧(jO (cO ln ri e tms) b mb z.2.1 z.1)}) (fun z=>z.1.2.2.map lR) (fun z=>[(0,(vP gw)),(1,(vP W)),(2,(vI (ln.ae.n:Int))),(12,(vP gq)),(171,(vP B3))]) (fun z=>[(zt eD B3 ga (bW iV mb) (bW iV z.1.1) none),(br (fM oq bs bb 0)),(iS eD A (bW iV z.1.2.1)),(cd gq 3 [(vI (b:Int))]),(br (z.1.2.2.map lY)),(cd gw 166 (cp.cells (cp.mk ln ri (bj.mk e_A e.length e_C) (bj.mk t_A tms.length t_C) (bj.mk fA (ln.ae.n+1) (ln.ae.n+1)) (bj.mk bA (ln.ae.n+1) (ln.ae.n+1))))).ro,(cd W 121 [(vP gw)]),(rd e_A e.length 1 (e.map iC)).ro,(rd t_A tms.length 1 (List.zipWith gT tms tb)).ro,(e9 (aW sj tms tb)).ro,(own bA (ln.ae.n+1) 170 1 (List.map oC (im (A::bb) (ln.ae.n+1)))),(br (aW oq fs fb)),(own fA (ln.ae.n+1) 170 1 (List.map oC (eI fb (ln.ae.n+1))))]) (fun z=>z.1.1.length) ⟨(mb,[((aB.mk 0 0),ri.gp)],q),C⟩ U (aU U) (aG [0,1,2,3,4,5,6,7,8,9,10,11,12]) ?_
   clear C
   rintro ⟨⟨left,m,V⟩,⟨J,K,L⟩⟩ J80 KT
   try dsimp only at J K L
   try dsimp only
   refine WS fun _ Ci=>te pq.inj (f:=iV) 0 U U U U (fun J9=>?_) (fun t v hm If=>?_)
   ·refine bo 1 U<|RK Ci<|aj fun _ WM=>a_ U<|bD<|ab<|ab<|ay<|aH<|KK Ca<|aj fun _ NE=>WS fun _ Ne=>fY 1 [] (mc 3 U mn) U<|RK Ne<|al<|AL U jA fun J3=>GZ U Cs U U<|RK NE<|al<|rP 2 [] (mc 0 U mn) ?_
    refine GZ U Cs U U<|aA<|JD (C':=[(cd J3 3 [(vI ((b:Int)-1))]),(iS eD ga (bW iV mb)),(br (fM oq bs bb 0)),(iS eD A (bW iV m)),(cd gq 3 [(vI (b:Int))]),(br (V.map lY)),(cd gw 166 (cp.cells (cp.mk ln ri (bj.mk e_A e.length e_C) (bj.mk t_A tms.length t_C) (bj.mk fA (ln.ae.n+1) (ln.ae.n+1)) (bj.mk bA (ln.ae.n+1) (ln.ae.n+1))))).ro,(cd W 121 [(vP gw)]),(rd e_A e.length 1 (e.map iC)).ro,(rd t_A tms.length 1 (List.zipWith gT tms tb)).ro,(e9 (aW sj tms tb)).ro,(own bA (ln.ae.n+1) 170 1 (List.map oC (im (A::bb) (ln.ae.n+1)))),(br (aW oq fs fb)),(own fA (ln.ae.n+1) 170 1 (List.map oC (eI fb (ln.ae.n+1))))]) 1 U JH U<|Lf 2 1 N Z U U U ?_
    try dsimp only
    rw [show (b:Int)-1=(ln.ae.n:Int)-(((j+1):Nat):Int) from by omega]
    refine z3 (ms:=bs) (m:=m) (a:=A) 0 2 U U U ?_
    try dsimp only
    refine aV (B7 ⟨((j+1),(m::bs),(A::bb),J3,V),⟨I,by simp; omega,by simp; omega,by exact iu.more (b:=b) E I I (by show b<e.length; omega) N K L J9⟩⟩ _ _ _ U os (aU U) (aG [0,1,3,4,5,6,7,8,9,10,11]))
   try dsimp only
   refine bo 1 U<|RK Ci<|aj fun _ Nx=>aR U<|WK Nx<|ax<|WS fun _ Op=>rS (SX (sW 0 U U U) U U)<|bo 2 U<|AL U uj fun J4=>AL U jA fun J5=>ti U sx U<|GZ U Cs U U<|RK Op<|WS fun _ Or=>rP 2 [0,1] (mc 8 U (mc 5 U mn)) ?_
   refine cX (u0 gw b) (aI) U fun WF WP=>?_
   obtain ⟨Cp,C0⟩:=WF
   try dsimp only
   refine RK Or<|ax<|kR 11 U (by exact fun _ h=>h)<|kR 13 U (by exact fun _ h=>h)<|kR 15 U (by exact fun _ h=>h)<|kR 12 U (by exact fun _ h=>h) ?_
   refine nJ (L0:=[(0,(vP gw)),(1,(vP W)),(2,(vI (ln.ae.n:Int))),(12,(vP gq)),(13,(vP J4)),(14,(vP J5)),(171,(vP B3))]) (F:=[(rd e_A e.length 1 (e.map iC)).ro,(rd t_A tms.length 1 (List.zipWith gT tms tb)).ro,(e9 (aW sj tms tb)).ro,(cd gw 166 (cp.cells (cp.mk ln ri (bj.mk e_A e.length e_C) (bj.mk t_A tms.length t_C) (bj.mk fA (ln.ae.n+1) (ln.ae.n+1)) (bj.mk bA (ln.ae.n+1) (ln.ae.n+1))))).ro,(cd Cp 121 [(vP gw)]),(cd C0 3 [(vI (b:Int))])]) (fun k (y:FM)=>(od (cO ln ri e tms) b mb left y (t,v) k)) (fun k y=>[(cd J5 3 [(vI v)]),(cd J4 172 (aB.cells t)),(zt eD B3 ga (bW iV mb) (bW iV (cH left t)) (some (t,(vI v)))),(br (fM oq bs bb 0)),(iS eD A (bW iV y)),(cd gq 3 [(vI (b:Int))]),(br (V.map lY)),(cd gw 166 (cp.cells (cp.mk ln ri (bj.mk e_A e.length e_C) (bj.mk t_A tms.length t_C) (bj.mk fA (ln.ae.n+1) (ln.ae.n+1)) (bj.mk bA (ln.ae.n+1) (ln.ae.n+1))))).ro,(cd W 121 [(vP gw)]),(rd e_A e.length 1 (e.map iC)).ro,(rd t_A tms.length 1 (List.zipWith gT tms tb)).ro,(e9 (aW sj tms tb)).ro,(own bA (ln.ae.n+1) 170 1 (List.map oC (im (A::bb) (ln.ae.n+1)))),(br (aW oq fs fb)),(own fA (ln.ae.n+1) 170 1 (List.map oC (eI fb (ln.ae.n+1))))]) (fun _ (_:Unit)=>False) (fun _ _=>[]) [6,7,8,9,10,11,12,13,14,15,16,17,18,19,20] [3,2,1,0,4,5] m rfl rfl (sY ln ri e tms e_A e_C tb t_A t_C fA (ln.ae.n+1) (ln.ae.n+1) bA (ln.ae.n+1) (ln.ae.n+1) gw b Cp C0 I I) rfl rfl rfl (by exact od.start K L) (by simp only [List.forall_mem_cons,List.not_mem_nil,false_imp_iff,implies_true,and_true]; exact ⟨⟨_,aT (i:=0) rfl,(dV (bV _))⟩,⟨_,aT (i:=1) rfl,(dV (bV _))⟩,⟨_,aT (i:=2) rfl,(dV (bV _))⟩,⟨_,aT (i:=3) rfl,(dV (bV _))⟩,⟨_,aT (i:=4) rfl,(bV _)⟩,⟨_,aT (i:=5) rfl,(bV _)⟩⟩) (by rintro k x k2 ⟨o,_,rfl,_⟩; rfl) rfl (aU rfl) ?_ ?_ (fun _ _ _ h=>h.elim) (fun _ _ h=>h.elim)
   rotate_left 1
   ·rintro ST k O A2 A6
    have D:=A6
    try dsimp only
    refine aH<|aH<|Mc (X:=V.map lY) 13 0 U U ?_
    try dsimp only
    refine ib 9 U wY U ?_
    refine aV (KT ⟨((cH left t),O,(ST::V)),⟨mH J,D.on,D.next If hm A2⟩⟩ _ _ _ U (fh hm) (aU U) (aG [9,10,11,12,0,4,14,1,2,3,18,19,20]))
   rintro k x k2 O l ra rb S w1 K95 Qr96 VQ hx Go Os AD WD WH
   obtain ⟨o,ho,rfl,rfl⟩:=hx
   have D:=Go
   try dsimp only
   refine WS fun _ PP=>rP 1 [] mn ?_
   refine RK PP<|al<|AL U dv fun WT=>gl U cy U<|aA<|ja (fun _ _ h=>h) (aG [1,0,2,3,4,5,6,7,8,9,10,11,12,13,14,15,16])<|aV (Os _ _ ?_)
   refine ax<|aj fun _ C3=>dK cx [16,18] [] [] [0,1,2,3,4,5,6,7,8,9,10,11,12,13,14,15,16] [] U U U U U<|eS U (Fe 2 U cj U)<|eS U (FA 1 U fw U)<|eS U (L1 (vI o.2.Hi) 1 U cj U U) ?_
   have hp:=E.Vc (b:=b) I N (J _ hm)
   have T4:=Kw hw hp
   have UX:=ve o.1
   have VO:=hw.opt ho
   dsimp only at T4
   refine eS U (MN U)<|eS U (Fe 10 U cj U)<|eS U (SX (bP U U) U U)<|eS U (FA 10 U fw U)<|eS U (ID (vS e_A e.length e_C) 9 U cj U U)<|eS U (Fe 7 U cj U) ?_
   obtain ⟨y,hy⟩:=aJ e b I
   have In:=bO iC hy
   refine eS U (IA b U (aC 11 U) cL dc I I)<|eS U (gi b 0 (vI y) U cj (aC 11 U) In U dc U) ?_
   have UC:=hw.least y (aT hy)
   refine eS U (BI U (su ⟨I,I⟩))<|eS U (LW 3 U cj U U)<|eS U (MV U)<|eS U (CL (L6 o.1) (aI) U)<|eS U (CL (wB t (fx o.1) I I) (aI) U)<|eS U (AG U)<|eT U<|cf U fun T101 FS=>AL U uj fun WI=>aA (FS _ _ (aG [1,2,3,4,5,6,7,8,9,10,11,12,13,14,15,16,17]) ?_)
   refine cf U fun T103 FT=>gl U sx U<|aA (FT _ _ (aG [1,2,3,4,5,6,7,8,9,10,11,12,13,14,15,16,17]) ?_)
   refine fO U<|KK C3<|aj fun _ DL=>dH cx 14 kr<|mV 1 [] (mc 11 U mn) U<|dS (SX (bP U U) U U)<|dP 3 [0,1] (mr 10 U (mc 8 U mn)) ?_
   have Hc:(List.map oC (im (A::bb) (ln.ae.n+1)))[b]? =some (oC (some A)):=sK (uc (i:=0) rfl (by simp; omega))
   refine dS (IA b U (ag (n:=(ln.ae.n+1)) 15 U sq) oN dc I I) ?_
   refine dS (gi b 0 (Value.map (some A)) U cj (ag (n:=(im (A::bb) (ln.ae.n+1)).length) 15 U sm) Hc U dc U)<|mV 1 [] (mc 0 U mn) U<|dS (SX (kX (kV:=eD) (x:=(dw t (fx o.1))) (l:=O) (f:=iV) (z:=0) U U U pd pq V4 (by exact aC 7 U)) U U)<|lQ 5 U<|cQ<|RK DL<|WS fun _ Y=>fY 3 [0,1] (mc 3 U (mc 2 U mn)) U<|rS (MN U)<|rP 4 [] (mc 2 U mn) ?_
   refine cu (t:=217) U (aP fun T=>?_) (aQ fun T=>?_)
   ·refine rP 8 [] mn ?_
    refine RK Y<|a_ U<|cr<|aH ?_
    exact AD O _ _ (by exact D.skip (Nv T)) (aG [1,3,4,5,6,7,8,9,10,11,12,13,14,15,16,17])
   refine rP 3 [] mn ?_
   refine dp (t:=220) U (fun AA=>?_) (fun AA=>?_)
   ·rw [Bool.not_eq_true'] at AA
    refine bo 5 U<|RK Y<|aR U<|dH cx 9 kr<|mV 1 [] (mc 11 U mn) U<|dS (SX (bP U U) U U)<|dP 3 [0,1] (mr 10 U (mc 8 U mn)) ?_
    have H1:(List.map oC (im (A::bb) (ln.ae.n+1)))[b]? =some (oC (some A)):=sK (uc (i:=0) rfl (by simp; omega))
    refine dS (IA b U (ag (n:=(ln.ae.n+1)) 15 U sq) oN dc I I) ?_
    refine dS (gi b 0 (Value.map (some A)) U cj (ag (n:=(im (A::bb) (ln.ae.n+1)).length) 15 U sm) H1 U dc U)<|dP 2 [] (mc 0 U mn) ?_
    refine cQ<|ko (kV:=eD) (x:=(dw t (fx o.1))) (C':=[_,_,_,_,_,_,_,(iS eD A (bW iV (e8 O (dw t (fx o.1)) ((min v o.2.Hi)-y)))),_,_,_,_,_,_,_,_,_,_]) 7 U U U U pd pq U (iD _ _ _ _).symm U<|aA<|aH ?_
    exact AD (e8 O (dw t (fx o.1)) ((min v o.2.Hi)-y)) _ _ (by exact D.set (by show b<e.length; omega) hp ho (AY hy T) (.inl (by simpa using AA))) (aG [1,3,4,5,6,7,8,9,10,11,12,13,14,15,16,17])
   rw [Bool.not_eq_false'] at AA
   refine rP 5 [] mn ?_
   refine RK Y<|bS U (aP fun AC=>?_) (aQ fun AC=>?_)
   ·refine cr<|aH ?_
    exact AD O _ _ (by exact D.oV (AY hy T) (by simpa using AA) AC) (aG [1,3,4,5,6,7,8,9,10,11,12,13,14,15,16,17])
   refine dH cx 9 kr<|mV 1 [] (mc 11 U mn) U<|dS (SX (bP U U) U U)<|dP 3 [0,1] (mr 10 U (mc 8 U mn)) ?_
   have IO:(List.map oC (im (A::bb) (ln.ae.n+1)))[b]? =some (oC (some A)):=sK (uc (i:=0) rfl (by simp; omega))
   refine dS (IA b U (ag (n:=(ln.ae.n+1)) 15 U sq) oN dc I I) ?_
   refine dS (gi b 0 (Value.map (some A)) U cj (ag (n:=(im (A::bb) (ln.ae.n+1)).length) 15 U sm) IO U dc U)<|dP 2 [] (mc 0 U mn) ?_
   refine cQ<|ko (kV:=eD) (x:=(dw t (fx o.1))) (C':=[_,_,_,_,_,_,_,(iS eD A (bW iV (e8 O (dw t (fx o.1)) ((min v o.2.Hi)-y)))),_,_,_,_,_,_,_,_,_,_]) 7 U U U U pd pq U (iD _ _ _ _).symm U<|aA<|aH ?_
   exact AD (e8 O (dw t (fx o.1)) ((min v o.2.Hi)-y)) _ _ (by exact D.set (by show b<e.length; omega) hp ho (AY hy T) (.inr AC)) (aG [1,3,4,5,6,7,8,9,10,11,12,13,14,15,16,17])
  refine dK cx [4,11,12,14] [10] [0,1,2] [0,1,2,3,4,6] [0,1,2,3,4,5,6] U U U U U<|eS U (Fe 1 U cj U)<|eS U (SX (bP U U) U U)<|eS U (FA 12 U fw U)<|eS U (ID (vS fA (ln.ae.n+1) (ln.ae.n+1)) 0 U cj U U)<|eS U (SX (bh (xs:=[]) (cs:=(aB.cells (aB.mk 0 0))) U U (bg CC U)) U U)<|eS U (Fe 1 U cj U)<|eS U (SX (bP U U) U U)<|eS U (FA 7 U fw U)<|eS U (FA 7 U fw U)<|eS U (ID (vI ri.Start) 0 U cj U U) ?_
  obtain ⟨x6,VR⟩:=aJ (List.replicate (ln.ae.n+1) (none:Option Nat)) 0 I
  have hx7m:(List.map oC (List.replicate (ln.ae.n+1) (none:Option Nat)))[0]? =some (oC x6):=by rw [fB,VR]; rfl
  refine fS U (IA 0 U (ag (n:=(ln.ae.n+1)) 5 U sq) oN dc U I) ?_
  refine eT U<|gS U fun T8 Fn=>o_ (kV:=eD) U U fun r=>?_
  try dsimp only
  refine aA (Fn _ _ (aG [1,2,3,4,5,7]) (aG [1,2,3,4,5,6,7]) ?_)
  refine gS U fun T10 G=>?_
  have Re:(e8 ([]:List (aB×Int)) (aB.mk 0 0) ri.Start)=[((aB.mk 0 0),ri.Start)]:=by rfl
  refine zu (kV:=eD) (x:=(aB.mk 0 0)) (C':=[(iS eD r (bW iV ([((aB.mk 0 0),ri.Start)]))),_,_,_,_,_,_,_]) 0 U U U U pd pq U ((iD _ _ _ _).symm.trans (congrArg _ Re)) U<|aA (G _ _ (aG [1,2,3,4,5,7]) (aG [1,2,3,4,5,6,7]) ?_)
  refine gS U fun T12 PX=>rS (MV U)<|aA (PX _ _ (aG [1,2,3,4,5,7]) (aG [1,2,3,4,5,6,7]) ?_)
  refine cf U fun T13 Pi=>?_
  have Rk:((List.replicate (ln.ae.n+1) (none:Option Nat)).set 0 (some r))=(eI [r] (ln.ae.n+1)):=by rw [zb]; exact vf rfl sm
  refine dk (k:=0) (o:=0) (vs:=[(Value.map (some r))]) (es':=(List.map oC (eI [r] (ln.ae.n+1)))) (C':=[_,_,_,_,_,_,(own fA (ln.ae.n+1) 170 1 (List.map oC (eI [r] (ln.ae.n+1)))),_]) 6 U U U LC U U U U hx7m U dc (by exact (List.map_set (f:=oC) (l:=(List.replicate (ln.ae.n+1) (none:Option Nat))) (i:=0) (a:=(some r))).symm.trans (congrArg _ Rk)) U<|aA (Pi _ _ (aG [1,2,3,4,5,7]) ?_)
  refine fO U<|EY<|zA (X:=[]) (X':=aW oq [[((aB.mk 0 0),ri.Start)]] [r]) 0 1 U U U ?_
  try dsimp only
  refine aV (ja (aU U) (aG [1,2,3,4,5,7,0,6]) (T2 ⟨r,trivial⟩))
 refine oJ cx [0,1,2,3,5,6,8,9,11,12] [4,7,10,13] [false,false,false,false,false,false,false,false,false,false] [] [(cd W 121 [(vP gw)]),(rd e_A e.length 1 (e.map iC)).ro,(rd t_A tms.length 1 (List.zipWith gT tms tb)).ro,(e9 (aW sj tms tb)).ro] [] kr (aG [0,2,3,4]) (aG [])<|eS U (Fe 0 U cj U)<|eS U (Fe 0 U cj U)<|eS U (MV U)<|eS U (BI U (iG ⟨I,I⟩))<|eS U (MV U)<|eS U (BI U (iG ⟨I,I⟩))<|eS U (SX (bP U U) U U)<|eS U (FA 12 U fw U)<|eS U (SX (bP U U) U U)<|eS U (FA 13 U fw U)<|eT U<|iE [4,7] kr (ej ?_<|ej ?_<|j5)
 rotate_left 1
 ·refine NO U U [4,10,13] fun T5 Fd=>?_
  refine w6 (n:=(ln.ae.n+1)) (es:=(List.map oC (List.replicate (ln.ae.n+1) (none:Option Nat)))) U U U B0 I I (by simp only [maxLen]; omega) (by rw [List.map_replicate]; rfl) U fun b6=>?_
  try dsimp only
  refine aA (Fd _ _ (aG [1,3,4,5]) ?_)
  refine N1 4<|NO U U [10,13] fun T7 A1=>?_
  refine w6 (n:=(ln.ae.n+1)) (es:=(List.map oC (List.replicate (ln.ae.n+1) (none:Option Nat)))) U U U B0 I I (by simp only [maxLen]; omega) (by rw [List.map_replicate]; rfl) U fun b8=>?_
  try dsimp only
  refine aA (A1 _ _ (aG [2,4,5,6]) ?_)
  refine N1 10<|NO U U [13] fun T9 GE=>QH (cp.cells (cp.mk ln ri (bj.mk e_A e.length e_C) (bj.mk t_A tms.length t_C) (bj.mk (some ⟨b8,0,none⟩) (ln.ae.n+1) (ln.ae.n+1)) (bj.mk none 0 0))) U zi U U<|aA (GE _ _ (aG [2,4,5,6]) ?_)
  refine N1 13<|NO U U [] fun T10 G=>QH (cp.cells (cp.mk ln ri (bj.mk e_A e.length e_C) (bj.mk t_A tms.length t_C) (bj.mk (some ⟨b8,0,none⟩) (ln.ae.n+1) (ln.ae.n+1)) (bj.mk (some ⟨b6,0,none⟩) (ln.ae.n+1) (ln.ae.n+1)))) U zi U U<|aA (G _ _ (aG [2,4,5,6]) ?_)
  refine nW ?_
  refine aV (ja (aU U) (aG [2,4,5,6,0,1,3]) (Do ⟨((some ⟨b8,0,none⟩),(some ⟨b6,0,none⟩)),trivial⟩))
 refine NO U U [7,10,13] fun T5 Fd=>?_
 refine w6 (n:=(ln.ae.n+1)) (es:=(List.map oC (List.replicate (ln.ae.n+1) (none:Option Nat)))) U U U B0 I I (by simp only [maxLen]; omega) (by rw [List.map_replicate]; rfl) U fun b6=>?_
 try dsimp only
 refine aA (Fd _ _ (aG [1,3,4,5]) ?_)
 refine iE [7,10] kr (ej ?_<|ej ?_<|j5)
 rotate_left 1
 ·refine NO U U [7,13] fun T7 A1=>U0 (cp.cells (cp.mk ln ri (bj.mk e_A e.length e_C) (bj.mk t_A tms.length t_C) (bj.mk (some ⟨b6,0,none⟩) (ln.ae.n+1) (ln.ae.n+1)) (bj.mk none 0 0))) U zi U U<|aA (A1 _ _ (aG [1,3,4,5]) ?_)
  refine N1 7<|NO U U [13] fun T8 Fn=>?_
  refine w6 (n:=(ln.ae.n+1)) (es:=(List.map oC (List.replicate (ln.ae.n+1) (none:Option Nat)))) U U U B0 I I (by simp only [maxLen]; omega) (by rw [List.map_replicate]; rfl) U fun r=>?_
  try dsimp only
  refine aA (Fn _ _ (aG [2,4,5,6]) ?_)
  refine N1 13<|NO U U [] fun T10 G=>QH (cp.cells (cp.mk ln ri (bj.mk e_A e.length e_C) (bj.mk t_A tms.length t_C) (bj.mk (some ⟨b6,0,none⟩) (ln.ae.n+1) (ln.ae.n+1)) (bj.mk (some ⟨r,0,none⟩) (ln.ae.n+1) (ln.ae.n+1)))) U zi U U<|aA (G _ _ (aG [2,4,5,6]) ?_)
  refine nW ?_
  refine aV (ja (aU U) (aG [2,4,5,6,1,0,3]) (Do ⟨((some ⟨b6,0,none⟩),(some ⟨r,0,none⟩)),trivial⟩))
 refine NO U U [10,13] fun T7 A1=>?_
 refine w6 (n:=(ln.ae.n+1)) (es:=(List.map oC (List.replicate (ln.ae.n+1) (none:Option Nat)))) U U U B0 I I (by simp only [maxLen]; omega) (by rw [List.map_replicate]; rfl) U fun b8=>?_
 try dsimp only
 refine aA (A1 _ _ (aG [2,4,5,6]) ?_)
 refine N1 10<|NO U U [13] fun T9 GE=>QH (cp.cells (cp.mk ln ri (bj.mk e_A e.length e_C) (bj.mk t_A tms.length t_C) (bj.mk (some ⟨b6,0,none⟩) (ln.ae.n+1) (ln.ae.n+1)) (bj.mk none 0 0))) U zi U U<|aA (GE _ _ (aG [2,4,5,6]) ?_)
 refine N1 13<|NO U U [] fun T10 G=>QH (cp.cells (cp.mk ln ri (bj.mk e_A e.length e_C) (bj.mk t_A tms.length t_C) (bj.mk (some ⟨b6,0,none⟩) (ln.ae.n+1) (ln.ae.n+1)) (bj.mk (some ⟨b8,0,none⟩) (ln.ae.n+1) (ln.ae.n+1)))) U zi U U<|aA (G _ _ (aG [2,4,5,6]) ?_)
 refine nW ?_
 refine aV (ja (aU U) (aG [2,4,5,6,1,0,3]) (Do ⟨((some ⟨b6,0,none⟩),(some ⟨b8,0,none⟩)),trivial⟩))
end
section
open Go.RowKit
theorem En (l:aX) (kA:OA) (kC:Nat) (az:List RA) (cA:OA) (cC:Nat) (bA:OA) (bC g1:Nat) (bm:Int) (g2:Nat) (hin:ew l az):
 eB Tryz.prog 59 [(vP g1),(vP g2)] [(rd kA l.aL.length 9 (l.aL.map ak.cells)),(rd cA l.ah.length 2 (List.zipWith ao.cells l.ah az)),(e9 (aW ao.gP l.ah az)),(rd bA l.ae.length 4 (l.ae.map bE.cells)),(cd g1 28 (bZ.cells (lJ l kA kC cA cC bA bC))),(cd g2 3 [(vI bm)])] (vI (iP l bm)):=by
 have K:=hin.sw
 have J:=hin.sr
 have H:=hin.oo
 have AA:=hin.sH
 refine bG kr Tryz.func59 U U fun L Q hQ hN=>?_
 try dsimp only
 refine WS fun _ B=>bo 1 U<|RK B<|aj fun _ C=>WS fun _ D=>rP 5 [0,1] (mr 4 U (mr 5 U mn)) ?_
 refine c_ (xs:=[.tmp 7]) (cs:=[(vI bm)]) U cL jA U U U U (by simp [Value.cells]) U U fun G=>?_
 refine rS (CL (eB.eq (jn 0 ((l.ae.length:Int)-1) ([bm]) (some ⟨G,0,none⟩) 1 (by (simp; done))) cZ) (au (aZ 0 U U (by simp [bI]) U)<|aI) U) ?_
 refine rP 1 [] mn ?_
 refine RK D<|cP U (bx fun A=>?_) (bw fun A=>?_)
 ·refine WS fun _ E=>rP 1 [] mn ?_
  refine RK E<|ar<|Q1 hQ U U U ?_
  exact cI (if_neg I).symm
 refine WK C<|WS fun _ F=>rP 1 [] mn ?_
 refine RK F<|ar<|Q1 hQ U U U ?_
 exact cI (if_pos I).symm
end
section
open Go.RowKit
theorem M_ (l:aX) (kA:OA) (kC:Nat) (az:List RA) (cA:OA) (cC:Nat) (bA:OA) (bC:Nat) (r:cE) (sgA:OA) (sgC:Nat) (f:Value) (X:av) (me:Int) (gm:Nat) (hf:Ew Tryz.prog f [] [X] (.int .i64 me)) (hin:ew l az) (hsl:r.ai.length≤1000000):
 lB Tryz.prog 58 [(vA (bZ.cells (lJ l kA kC cA cC bA bC))),(vA (d_.cells (mh r sgA sgC))),(vS (some ⟨gm,0,none⟩) 1 1)] [(rd kA l.aL.length 9 (l.aL.map ak.cells)),(rd cA l.ah.length 2 (List.zipWith ao.cells l.ah az)),(e9 (aW ao.gP l.ah az)),(rd bA l.ae.length 4 (l.ae.map bE.cells)),(rd sgA r.ai.length 2 (r.ai.map aK.cells)),X,(cd gm 124 [f])] (fun (x:Bool×Int×Nat×(OA)×Nat×(OA)×Nat×(List Nat)×(List FM)×(List Nat)×(OA)×Nat×(List FM)×(List Nat)×(OA)×Nat)=>bif x.1 then (vT [(Value.pointer (some ⟨x.2.2.1,0,none⟩)),(vI 0)]) else (vT [(Value.pointer none),(vI x.2.1)])) (fun (x:Bool×Int×Nat×(OA)×Nat×(OA)×Nat×(List Nat)×(List FM)×(List Nat)×(OA)×Nat×(List FM)×(List Nat)×(OA)×Nat)=>(x.1=true→(eg l r me=0∧yo (b_ l r) x.2.2.2.2.2.2.2.2.1∧u3 (b_ l r) x.2.2.2.2.2.2.2.2.2.2.2.2.1∧x.2.2.2.2.2.2.2.2.2.1.length=x.2.2.2.2.2.2.2.2.1.length∧x.2.2.2.2.2.2.2.2.2.2.2.2.2.1.length=x.2.2.2.2.2.2.2.2.2.2.2.2.1.length∧x.2.2.2.2.2.2.2.1.length=(dW l r.ai r.ai.length).length))∧(x.1=false→(x.2.1=eg l r me∧ ¬ eg l r me=0))) (fun (x:Bool×Int×Nat×(OA)×Nat×(OA)×Nat×(List Nat)×(List FM)×(List Nat)×(OA)×Nat×(List FM)×(List Nat)×(OA)×Nat)=>bif x.1 then [(cd x.2.2.1 166 (cp.cells (cp.mk (lJ l kA kC cA cC bA bC) (mh r sgA sgC) (bj.mk x.2.2.2.1 ((cG l l.ae.length).length) x.2.2.2.2.1) (bj.mk x.2.2.2.2.2.1 ((dW l r.ai r.ai.length).length) x.2.2.2.2.2.2.1) (bj.mk x.2.2.2.2.2.2.2.2.2.2.1 x.2.2.2.2.2.2.2.2.1.length x.2.2.2.2.2.2.2.2.2.2.2.1) (bj.mk x.2.2.2.2.2.2.2.2.2.2.2.2.2.2.1 x.2.2.2.2.2.2.2.2.2.2.2.2.1.length x.2.2.2.2.2.2.2.2.2.2.2.2.2.2.2)))),(own x.2.2.2.1 x.2.2.2.2.1 3 1 ((cG l l.ae.length).map iC)),(own x.2.2.2.2.2.1 x.2.2.2.2.2.2.1 40 1 (List.zipWith gT (dW l r.ai r.ai.length) x.2.2.2.2.2.2.2.1)),(br (aW sj (dW l r.ai r.ai.length) x.2.2.2.2.2.2.2.1)),(own x.2.2.2.2.2.2.2.2.2.2.1 x.2.2.2.2.2.2.2.2.2.2.2.1 170 1 (List.zipWith gT x.2.2.2.2.2.2.2.2.1 x.2.2.2.2.2.2.2.2.2.1)),(br (aW oq x.2.2.2.2.2.2.2.2.1 x.2.2.2.2.2.2.2.2.2.1)),(own x.2.2.2.2.2.2.2.2.2.2.2.2.2.2.1 x.2.2.2.2.2.2.2.2.2.2.2.2.2.2.2 170 1 (List.zipWith gT x.2.2.2.2.2.2.2.2.2.2.2.2.1 x.2.2.2.2.2.2.2.2.2.2.2.2.2.1)),(br (aW oq x.2.2.2.2.2.2.2.2.2.2.2.2.1 x.2.2.2.2.2.2.2.2.2.2.2.2.2.1))] else []):=by
 have Sz:=hin.sw
 have R9:=hin.sr
 have R7:=hin.oo
 have R8:=hin.sH
 have ST:=hin.side
 refine di kr Tryz.func58 U U fun w0 Q hQ hN=>?_
 try dsimp only
 refine WS fun _ Nx=>gd U fun b2=>gd U fun b3=>bo 2 U<|RK Nx<|aj fun _ Op=>WS fun _ Or=>fY 1 [] (mc 1 U mn) U<|rS (CL (C5 l kA kC az cA cC bA bC hin) (bp [2,3,4,5]) U)<|bo 1 U<|RK Or<|WS fun _ Os=>rP 2 [] mn ?_
 refine RK Os<|cP U (bx fun h=>?_) (bw fun h=>?_)
 ·refine WS fun _ PP=>rP 3 [] mn ?_
  refine RK PP<|ar<|LX hQ (false,(dD l),0,none,0,none,0,[],[],[],none,0,[],[],none,0) [] [] mn U (by rfl) U U ?_
  exact sf<|IJ (oO (r:=r) (me:=me) h) h
 refine WK Op<|aj fun _ PX=>WS fun _ AO=>?_
 have C:dD l=0:=h
 obtain ⟨K8,d⟩:=gj C
 have Pk:=d.head
 unfold gE at Pk
 refine rP 2 [] (mc 0 U mn) ?_
 refine c_ (xs:=[.tmp 24]) (cs:=[(vI r.Start)]) U cL jA U U U U (by simp [Value.cells]) U U fun Li=>?_
 refine rS (CL (eB.eq (jn 0 86400000 ([r.Start]) (some ⟨Li,0,none⟩) 1 (by (simp; done))) cZ) (au (aZ 0 U U (by simp [bI]) U)<|aI) U) ?_
 refine rP 2 [] mn ?_
 refine dp (t:=28) U (bx fun L2=>?_) (bw fun L2=>?_)
 ·refine bo 14 U<|RK AO<|aR U<|WS fun _ A5=>rP 2 [] mn ?_
  refine RK A5<|ar<|LX hQ (false,51,0,none,0,none,0,[],[],[],none,0,[],[],none,0) [] [] mn U (by rfl) U U ?_
  exact sf<|qb (jy (me:=me) C (fun q:fD l r=>by have q1:=q.time; have q2:=q.len; omega))
 refine rP 4 [] (mc 1 U mn) ?_
 refine c_ (xs:=[.tmp 32]) (cs:=[(vI r.gp)]) U cL jA U U U U (by simp [Value.cells]) U U fun Lk=>?_
 refine rS (CL (eB.eq (jn r.Start 86400000 ([r.gp]) (some ⟨Lk,0,none⟩) 1 (by (simp; done))) cZ) (au (aZ 0 U U (by simp [bI]) U)<|aI) U) ?_
 refine rP 3 [] mn ?_
 refine dp (t:=37) U (bx fun M2=>?_) (bw fun M2=>?_)
 ·refine bo 5 U<|RK AO<|aR U<|WS fun _ A6=>rP 2 [] mn ?_
  refine RK A6<|ar<|LX hQ (false,51,0,none,0,none,0,[],[],[],none,0,[],[],none,0) [] [] mn U (by rfl) U U ?_
  exact sf<|qb (jy (me:=me) C (fun q:fD l r=>by have q1:=q.time; have q2:=q.len; omega))
 refine rP 5 [] (mc 2 U mn) ?_
 refine RK AO<|cP U (aQ fun M4=>?_) (aP fun M4=>?_)
 ·refine WS fun _ A7=>rP 2 [] mn ?_
  refine RK A7<|ar<|LX hQ (false,51,0,none,0,none,0,[],[],[],none,0,[],[],none,0) [] [] mn U (by rfl) U U ?_
  exact sf<|qb (jy (me:=me) C (fun q:fD l r=>by have q1:=q.time; have q2:=q.len; omega))
 refine WK PX<|WS fun _ A8=>rS (SX (bh (xs:=[(0,.const (vI (-1)))]) (cs:=(aK.cells (aK.mk (-1) 0))) U U (bg Gh U)) U U)<|AL U FP fun V=>gl U yz U<|RK A8<|aj fun _ A9=>dK cx [5,6,7,8] [] [] [0,1,2,3,4,5,6,7,8,9,10,11] [] U U U U U<|eS U (LW 4 U cj U U)<|eS U (LW 3 U cj U U)<|eS U (FA 3 U fw U)<|eS U (L1 (vS bA l.ae.length bC) 4 U cj U U)<|eS U (LN U QU)<|eT U<|cf U fun T18 Id=>?_
 refine w6 (n:=l.ae.length) (es:=(List.map oC (List.replicate l.ae.length (none:Option Nat)))) U U U RF I I (by simp only [maxLen]; omega) (by rw [List.map_replicate]; rfl) U fun B=>?_
 try dsimp only
 refine aA (Id _ _ (aG [1,2,3,4,5,6,7,8,9,10,11,12]) ?_)
 refine cf U fun T20 If=>rS (SX (bh (xs:=[(0,.tmp 44),(1,.tmp 45),(3,.tmp 49)]) (cs:=(cp.cells (cp.mk (lJ l kA kC cA cC bA bC) (mh r sgA sgC) (bj.mk none 0 0) (bj.mk (some ⟨B,0,none⟩) l.ae.length l.ae.length) (bj.mk none 0 0) (bj.mk none 0 0)))) U U (bg RW U)) U U)<|aA (If _ _ (aG [1,2,3,4,5,6,7,8,9,10,11,12]) ?_)
 refine cf U fun T21 In=>gd U fun AB=>aA (In _ _ (aG [2,3,4,5,6,7,8,9,10,11,12,13]) ?_)
 refine cf U fun T23 I0=>rS (AG U)<|aA (I0 _ _ (aG [2,3,4,5,6,7,8,9,10,11,12,13]) ?_)
 refine fO U<|KK A9<|aj fun _ Bm=>WS fun _ B3=>rP 4 [] (mc 6 U mn) ?_
 refine RK B3<|ax ?_
 rw [zb]
 refine gr 3 1<|lV ?_
 have E:(0≤l.ae.length)∧(([]:List Nat).length=0):=by exact ⟨Nat.zero_le _,rfl⟩
 refine bL (ι:={z:Nat×(OA)×Nat×(List Nat) // (z.1≤l.ae.length)∧(z.2.2.2.length=z.1)}) [2,3,4,6,7,9,10,54] [4,7,8,9,10,11,12,13,14,15] U U (fun z=>[(55,(vI (z.1.1:Int)))]) (fun z=>[(br (aW sj (List.replicate z.1.1 ([]:TM)) z.1.2.2.2)),(own z.1.2.1 z.1.2.2.1 3 1 ((cG l z.1.1).map iC)),(cd AB 166 (cp.cells (cp.mk (lJ l kA kC cA cC bA bC) (mh r sgA sgC) (bj.mk z.1.2.1 ((cG l z.1.1).length) z.1.2.2.1) (bj.mk (some ⟨B,0,none⟩) l.ae.length l.ae.length) (bj.mk none 0 0) (bj.mk none 0 0)))),(own (some ⟨B,0,none⟩) l.ae.length 40 1 (List.map oC (eI z.1.2.2.2 l.ae.length)))]) (fun _=>rfl) (fun _=>rfl) (fun z=>l.ae.length-z.1.1) ⟨(0,none,0,([]:List Nat)),E⟩ (aU U) (aG [4,7,8,9,10,11,12,13,14,15,0,1,2,3]) ?_
 clear E
 rintro ⟨⟨b,a,c,fb⟩,⟨AS,Y⟩⟩ J26 A4
 try dsimp only at AS Y
 try dsimp only
 have Pl:(eI fb l.ae.length).length=l.ae.length:=rm I
 refine WS fun _ B7=>rP 1 [] mn ?_
 refine RK B7<|aj fun _ B9=>cP U (aQ fun L3=>?_) (aP fun L3=>?_)
 ·refine WK B9<|aj fun _ Ca=>ax<|WS fun _ Ci=>rP 2 [] mn ?_
  refine RK Ci<|aj fun _ Ck=>dK cx [12,13,16] [4] [0] [0,1,2,3,4,5,6,7,8,9,10,13] [0,1,2,3,4,5,6,7,8,9,10,11,12,13] U U U U U<|eS U (MV U)<|eS U (MV U)<|eS U (SX (bP U U) U U)<|eS U (FA 10 U fw U)<|fS U (L1 (vS a ((cG l b).length) c) 12 U cj U U)<|eS U (LW 2 U cj U U)<|eS U (MV U)<|eS U (CL (Pw l kA kC az cA cC bA bC (b:Int) hin asm (by exact d.td) I) (bp [3,4,5,6]) U) ?_
  have S1:=GM K8 d.td b
  have S2:=d.Rw b I
  simp only [Int.toNat_natCast]
  refine eS U (BI U (Gt ⟨I,I⟩))<|eS U (FA 1 U fw U)<|eS U (L1 (vI l.gk) 2 U cj U U) ?_
  refine eS U (CL (PL (1000*(lS l (b:Int).toNat)) l.gk I (by (simp; omega))) (aI) U) ?_
  refine eS U (SX (bP U U) U U)<|eS U (FA 10 U fw U)<|eT U<|gS U fun T33 I4=>c_ (xs:=[.tmp 69]) (cs:=[(vI (pC (1000*(lS l (b:Int).toNat)) l.gk))]) U cL jA U U U U (by simp [Value.cells]) U U fun R3=>aA (I4 _ _ (aG [1,2,3,4,5,6,7,8,9,10,11,14]) (aG [1,2,3,4,5,6,7,8,9,10,11,12,13,14]) ?_)
  refine cf U fun T35 J2=>?_
  refine ck (es2:=(List.map iC (cG l (b+1)))) (m':=(cG l (b+1)).length) 12 U U U pw U U (by simp [dR]) (aZ (es:=List.map iC [(pC (1000*(lS l (b:Int).toNat)) l.gk)]) 0 U U (by simp [bI]) U) (jP _) (by have:=dR (l:=l) (n:=b); first|omega|(simp; omega)) (by simp only [maxLen,dR]; omega) (by rw [vH]; simp [dT]) (by simp [dR]) U fun e g=>?_
  try dsimp only
  refine aA (J2 _ _ (aG [1,2,3,4,5,6,7,8,9,10,11,14]) ?_)
  refine cf U fun T38 J3=>jG (vs:=[(vS e ((cG l (b+1)).length) g)]) (cs':=(cp.cells (cp.mk (lJ l kA kC cA cC bA bC) (mh r sgA sgC) (bj.mk e ((cG l (b+1)).length) g) (bj.mk (some ⟨B,0,none⟩) l.ae.length l.ae.length) (bj.mk none 0 0) (bj.mk none 0 0)))) (C':=[_,_,_,_,_,_,_,_,_,_,_,_,_,(cd AB 166 (cp.cells (cp.mk (lJ l kA kC cA cC bA bC) (mh r sgA sgC) (bj.mk e ((cG l (b+1)).length) g) (bj.mk (some ⟨B,0,none⟩) l.ae.length l.ae.length) (bj.mk none 0 0) (bj.mk none 0 0)))),_]) 13 U U U xN U U U U U U U<|aA (J3 _ _ (aG [1,2,3,4,5,6,7,8,9,10,11,14]) ?_)
  refine fO U<|KK Ck<|al<|bo 1 U<|rS (SX (bP U U) U U)<|rP 3 [] (mc 13 U mn) ?_
  refine o_ (kV:=iV) U U fun J=>?_
  try dsimp only
  obtain ⟨Qq,LE⟩:=aJ (eI fb l.ae.length) b I
  have hx41m:(List.map oC (eI fb l.ae.length))[b]? =some (oC Qq):=by rw [fB,LE]; rfl
  refine rS (IA b U (ag (n:=l.ae.length) 15 U sq) Gw dc I I) ?_
  have J4:((eI fb l.ae.length).set b (some J))=(eI (fb++[J]) l.ae.length):=by exact vf I I
  refine dk (k:=b) (o:=0) (vs:=[(Value.map (some J))]) (es':=(List.map oC (eI (fb++[J]) l.ae.length))) (C':=[_,_,_,_,_,_,_,_,_,_,_,_,_,_,_,(own (some ⟨B,0,none⟩) l.ae.length 40 1 (List.map oC (eI (fb++[J]) l.ae.length)))]) 15 U U U N5 U U U U hx41m U dc (by exact (List.map_set (f:=oC) (l:=(eI fb l.ae.length)) (i:=b) (a:=(some J))).symm.trans (congrArg _ J4)) U<|aA<|aH<|KK Ca<|al<|rP 2 [] mn ?_
  refine aA<|zA (X':=aW sj (List.replicate (b+1) ([]:TM)) (fb++[J])) 12 0 U U (O1 Y) ?_
  try dsimp only
  have J5:(vI (((b+1):Nat):Int))=(vI ((b:Int)+1)):=by exact cI I
  refine aV (A4 ⟨((b+1),e,g,(fb++[J])),⟨I,by simp; omega⟩⟩ _ _ _ U os (cU 8<|bk U J5<|dF.nil _) (aG [2,3,4,5,6,7,8,9,10,11,0,12,13,14]))
 refine bD<|ab<|ab<|ay<|KK Bm<|aj fun _ Cp=>WS fun _ Cx=>rP 4 [] (mc 1 U mn) ?_
 refine RK Cx<|ax ?_
 rw [show (List.replicate b ([]:TM))=dW l r.ai 0 from by rw [EA,show b=l.ae.length by omega]]
 rw [show cG l b=cG l l.ae.length from by rw [show b=l.ae.length by omega]]
 have E:(0≤r.ai.length)∧(qP l r.ai 0):=by exact ⟨Nat.zero_le _,z7⟩
 refine bL (ι:={z:Nat // (z≤r.ai.length)∧(qP l r.ai z)}) [2,3,4,6,7,9,10,83,84] [1,2,3,4,5,6,7,8,9,11,12,13] U U (fun z=>[(85,(vI (z.1:Int)))]) (fun z=>[(cd V 107 (aK.cells (m6 r.ai z.1))),(br (aW sj (dW l r.ai z.1) fb))]) (fun _=>rfl) (fun _=>rfl) (fun z=>r.ai.length-z.1) ⟨0,E⟩ (aU U) (aG [1,2,3,4,5,6,7,8,9,11,12,13,0,10]) ?_
 clear E
 rintro ⟨i,⟨La,A⟩⟩ J46 T
 try dsimp only
 have P8:(dW l r.ai i).length=l.ae.length:=jD
 have Pl:(eI fb l.ae.length).length=l.ae.length:=rm I
 refine WS fun _ C0=>rP 1 [] mn ?_
 refine RK C0<|aj fun _ C1=>bS U (aP fun NE=>?_) (aQ fun NE=>?_)
 ·refine bD<|ab<|ab<|ay<|KK Cp<|aj fun _ FT=>aj fun _ Fd=>?_
  have j:fD l r:=CZ I I A I
  refine al<|bo 3 U<|RK Fd<|ax<|kj 2<|eH fun R81 IR=>WS fun _ Fn=>rS (SX (cb (r:= .bool true) U U U hU) U U)<|RK Fn<|aj fun _ GE=>aR U<|WK GE<|aj fun _ GT=>ax<|WS fun _ Gm=>rS (UD 0 0 U Ph U dc U)<|fY 2 [] (mr 8 U mn) U<|RK Gm<|WS fun _ Go=>bo 1 U<|rS (SX (s7 U U U (hf) (bp [7])) U U)<|bo 1 U<|RK Go<|WS fun _ Hc=>rP 2 [] mn ?_
  refine RK Hc<|cP U (bx fun K=>?_) (bw fun K=>?_)
  ·refine WS fun _ Hi=>rP 3 [] mn ?_
   refine RK Hi<|ar<|LX hQ (false,me,0,none,0,none,0,[],[],[],none,0,[],[],none,0) [] [] mn U (by rfl) U U ?_
   exact sf<|IJ (q6 C j K) K
  refine cr<|aH<|KK GT<|al<|rS (SX (cb (r:= .int .i64 1) U U U (iG ⟨dc,dc⟩)) U U)<|rP 1 [] mn ?_
  refine RK IR<|eH fun R89 Rk=>WS fun _ H1=>rS (SX (cb (r:= .bool false) U U U hU) U U)<|RK H1<|aj fun _ Re=>a_ U<|bD<|ab<|ab<|ay<|KK FT<|aj fun _ IO=>?_
  rw [show dW l r.ai i=dW l r.ai r.ai.length from by rw [show i=r.ai.length by omega]]
  have Ap:(dW l r.ai r.ai.length).length=l.ae.length:=jD
  rw [show (List.map oC (eI fb l.ae.length))=(List.zipWith gT (dW l r.ai r.ai.length) fb) from UM I Ap]
  rw [show (cd AB 166 (cp.cells (cp.mk (lJ l kA kC cA cC bA bC) (mh r sgA sgC) (bj.mk a ((cG l l.ae.length).length) c) (bj.mk (some ⟨B,0,none⟩) l.ae.length l.ae.length) (bj.mk none 0 0) (bj.mk none 0 0))))=(cd AB 166 (cp.cells (cp.mk (lJ l kA kC cA cC bA bC) (mh r sgA sgC) (bj.mk a ((cG l l.ae.length).length) c) (bj.mk (some ⟨B,0,none⟩) ((dW l r.ai r.ai.length).length) l.ae.length) (bj.mk none 0 0) (bj.mk none 0 0)))) from by rw [Ap]]
  have LA:=pt K8 d j
  have R0:(cG l l.ae.length).length=l.ae.length:=dR
  refine al<|rP 1 [] mn ?_
  refine jm 10 U U U U (Jf (lJ l kA kC cA cC bA bC) (mh r sgA sgC) (cG l l.ae.length) (dW l r.ai r.ai.length) a c fb (some ⟨B,0,none⟩) l.ae.length AB (by exact LA) (by exact dR.symm) (by rw [Ap]; omega)) U (eA 9 U U (km sm) (eA 11 U U (km (by rw [List.length_zipWith]; omega)) (eA 13 U U tm kG))) U (fun LL Pi=>?_)
  obtain ⟨G,S,P,R,F,O,N,H⟩:=LL
  refine N_ (X:=[(cd AB 166 (cp.cells (cp.mk (lJ l kA kC cA cC bA bC) (mh r sgA sgC) (bj.mk a ((cG l l.ae.length).length) c) (bj.mk (some ⟨B,0,none⟩) ((dW l r.ai r.ai.length).length) l.ae.length) (bj.mk P G.length R) (bj.mk N F.length H)))),(own P R 170 1 (List.zipWith gT G S)),(br (aW oq G S)),(own N H 170 1 (List.zipWith gT F O)),(br (aW oq F O))]) 10 U U ?_
  try dsimp only
  obtain ⟨Ao,K0,K4,K5⟩:=Pi
  dsimp only at Ao K0 K4 K5
  refine RK IO<|aj fun _ v=>WS fun _ w=>rP 1 [] mn ?_
  refine cX (HW (lJ l kA kC cA cC bA bC) (mh r sgA sgC) (cG l l.ae.length) (dW l r.ai r.ai.length) a c fb (some ⟨B,0,none⟩) l.ae.length G F S P R O N H AB (by exact LA) (by (simp; omega)) (by exact dR.symm) (by exact Ao) asm) (au (ag (n:=(cG l l.ae.length).length) 14 U sm)<|au (ag (n:=(dW l r.ai r.ai.length).length) 15 U (by rw [List.length_zipWith]; omega))<|au (cY 17 U yx)<|au (ag (n:=G.length) 1 U (by rw [List.length_zipWith]; omega))<|au (cY 2 U yx)<|au (ag (n:=F.length) 3 U (by rw [List.length_zipWith]; omega))<|au (cY 4 U yx)<|fP 0 U U<|aI) U fun LT QL=>?_
  obtain ⟨Qr,Ra⟩:=LT
  try dsimp only
  refine rP 2 [] mn ?_
  refine RK w<|bS U (aP fun W=>?_) (aQ fun W=>?_)
  ·refine WK v<|WS fun _ AC=>rP 3 [] mn ?_
   refine RK AC<|ar ?_
   refine LX hQ (true,0,AB,a,c,(some ⟨B,0,none⟩),l.ae.length,fb,G,S,P,R,F,O,N,H) [1,15,16,18,2,3,4,5] [] mn U (by (show List.all _ _=true; simp only [cond_true,fE,List.all_nil,Lm,TV,Bool.and_true]; rfl)) U U ?_
   exact ⟨fun _=>⟨lW C j (by first|rfl|exact K) (fun q=>W (congrArg (fun z:List Int=>(z.length:Int)) q)),Ao,K0,K4,K5,dso⟩,OD⟩
  refine WS fun _ y=>rP 2 [] mn ?_
  refine RK y<|ar<|LX hQ (false,8,0,none,0,none,0,[],[],[],none,0,[],[],none,0) [] [] mn U (by rfl) U U ?_
  exact sf<|qb (p6 (me:=me) C j (by first|rfl|exact K) (show jW (b_ l r)=[] from jX (Int.natCast_eq_zero.1 W)))
 refine WK C1<|aj fun _ AA=>ax<|WS fun _ C2=>rP 1 [] mn ?_
 obtain ⟨x,hx⟩:=aJ r.ai i I
 have QG:=bO aK.cells hx
 refine rS (IA i U (aC 6 U) yK dc I I)<|rS (oY i 0 (aK.cells x) U cj (aC 6 U) QG U dc U U)<|AL U FP fun R4=>bo 1 U<|gl U yz U<|RK C2<|aj fun _ p=>WS fun _ L=>rP 6 [0,1] (mc 2 U (mc 0 U mn)) ?_
 refine c_ (xs:=[.tmp 95]) (cs:=[(vI x.f_)]) U cL jA U U U U (by simp [Value.cells]) U U fun Lo=>?_
 refine rS (CL (eB.eq (jn 0 ((l.ae.length:Int)-1) ([x.f_]) (some ⟨Lo,0,none⟩) 1 (by (simp; done))) cZ) (au (aZ 0 U U (by simp [bI]) U)<|aI) U) ?_
 refine rP 2 [] mn ?_
 refine dp (t:=99) U (bx fun Ne=>?_) (bw fun Ne=>?_)
 ·refine bo 27 U<|RK L<|aR U<|WS fun _ C3=>rP 2 [] mn ?_
  refine RK C3<|ar<|LX hQ (false,51,0,none,0,none,0,[],[],[],none,0,[],[],none,0) [] [] mn U (by rfl) U U ?_
  exact sf<|qb (jy (me:=me) C (wv hx (by unfold kz lE; omega)))
 refine rP 2 [] (mc 1 U mn) ?_
 refine c_ (xs:=[.tmp 101]) (cs:=[(vI x.Read)]) U cL jA U U U U (by simp [Value.cells]) U U fun L0=>?_
 refine rS (CL (eB.eq (jn 0 86400000 ([x.Read]) (some ⟨L0,0,none⟩) 1 (by (simp; done))) cZ) (au (aZ 0 U U (by simp [bI]) U)<|aI) U) ?_
 refine rP 3 [] mn ?_
 refine dp (t:=106) U (bx fun A0=>?_) (bw fun A0=>?_)
 ·refine bo 20 U<|RK L<|aR U<|WS fun _ DL=>rP 2 [] mn ?_
  refine RK DL<|ar<|LX hQ (false,51,0,none,0,none,0,[],[],[],none,0,[],[],none,0) [] [] mn U (by rfl) U U ?_
  exact sf<|qb (jy (me:=me) C (wv hx (by unfold kz lE; omega)))
 refine rP 7 [0,1] (mc 2 U (mc 15 U mn)) ?_
 refine dp (t:=113) U (aQ fun A1=>?_) (aP fun A1=>?_)
 ·refine bo 13 U<|RK L<|aR U<|WS fun _ Di=>rP 2 [] mn ?_
  refine RK Di<|ar<|LX hQ (false,51,0,none,0,none,0,[],[],[],none,0,[],[],none,0) [] [] mn U (by rfl) U U ?_
  exact sf<|qb (jy (me:=me) C (wv hx (by unfold kz lE; omega)))
 refine rP 6 [0,1] (mc 2 U (mc 15 U mn)) ?_
 refine cu (t:=119) U (aP fun A2=>?_) (aQ fun A2=>?_)
 ·refine bo 7 U<|RK L<|a_ U<|WK p<|aj fun _ u=>WS fun _ FR=>fY 2 [0,1] (mc 4 U (mc 2 U mn)) U<|rS (CL (Jv l kA kC az cA cC bA bC x hin asm I) (bp [5,6,7,8]) U)<|AL U dv fun R6=>gl U cy U<|RK FR<|WS fun _ FS=>rP 5 [] (mc 0 U mn) ?_
  refine RK FS<|bS U (aP fun D=>?_) (aQ fun D=>?_)
  ·refine WK u<|al<|rP 1 [] (mc 3 U mn) ?_
   refine jG (vs:=(aK.cells x)) (cs':=(aK.cells x)) (C':=[_,_,_,_,_,_,_,_,_,_,_,_,_,_,_,_,(cd V 107 (aK.cells x)),_]) 16 U U U yz U U U U U U U<|aA<|aH<|KK AA ?_
   have KU:(aK.cells x)=(aK.cells (m6 r.ai (i+1))):=by rw [pH hx]
   rw [KU]
   refine al<|rP 2 [] mn ?_
   refine aA ?_
   rw [show (dW l r.ai i)=(dW l r.ai (i+1)) from (xe hx D).symm]
   have KX:(vI (((i+1):Nat):Int))=(vI ((i:Int)+1)):=by exact cI I
   refine aV (T ⟨(i+1),⟨I,l3 A hx (by unfold kz lE; omega)⟩⟩ _ _ _ U os (cU 9<|bk U KX<|dF.nil _) (aG [4,5,6,7,8,9,10,11,12,13,14,15,16,17]))
  obtain ⟨mb,Z⟩:=aJ (dW l r.ai i) ((x.f_).toNat) I
  obtain ⟨ga,M⟩:=aJ fb ((x.f_).toNat) I
  refine Gc 17 Z M U U U ?_
  try dsimp only
  refine dH cx 10 kr<|lQ 1 U<|dS (SX (bP U U) U U)<|dP 4 [0,1] (mc 16 U (mc 5 U mn)) ?_
  have Kc:(List.map oC (eI fb l.ae.length))[(x.f_).toNat]? =some (oC (some ga)):=sK (pa M)
  refine dS (IA ((x.f_).toNat) U (ag (n:=l.ae.length) 17 U sq) Gw dc I I) ?_
  refine dS (gi ((x.f_).toNat) 0 (Value.map (some ga)) U cj (ag (n:=(eI fb l.ae.length).length) 17 U sm) Kc U dc U)<|mV 2 [] (mc 2 U mn) U<|cQ<|ko (kV:=iV) (x:=(i:Int)) (C':=[(iS iV ga (bW er (e8 mb (i:Int) (cJ l x)))),_,_,_,_,_,_,_,_,_,_,_,_,_,_,_,_,_,_]) 0 U U U U ot (eX qp) U (iD _ _ _ _).symm U<|RK u<|al<|rP 1 [] (mc 5 U mn) ?_
  refine jG (vs:=(aK.cells x)) (cs':=(aK.cells x)) (C':=[_,_,_,_,_,_,_,_,_,_,_,_,_,_,_,_,_,_,(cd V 107 (aK.cells x))]) 18 U U U yz U U U U U U U<|aA<|aH<|KK AA ?_
  have KR:(aK.cells x)=(aK.cells (m6 r.ai (i+1))):=by rw [pH hx]
  rw [KR]
  refine al<|rP 2 [] mn ?_
  refine aA ?_
  refine MD (f:=sj) (ms:=(dW l r.ai i)) (m:=(e8 mb (i:Int) (cJ l x))) 1 0 (by rw [jD]; omega) M U U U ?_
  rw [yU hx I D Z]
  have KT:(vI (((i+1):Nat):Int))=(vI ((i:Int)+1)):=by exact cI I
  refine aV (T ⟨(i+1),⟨I,l3 A hx (by unfold kz lE; omega)⟩⟩ _ _ _ U os (cU 9<|bk U KT<|dF.nil _) (aG [5,6,7,8,9,10,11,12,13,14,15,16,17,0]))
 refine rP 7 [0,1] (mc 2 U (mc 15 U mn)) ?_
 refine RK L<|cP U (aQ fun A3=>?_) (aP fun A3=>?_)
 ·refine WS fun _ Do=>rP 2 [] mn ?_
  refine RK Do<|ar<|LX hQ (false,51,0,none,0,none,0,[],[],[],none,0,[],[],none,0) [] [] mn U (by rfl) U U ?_
  exact sf<|qb (jy (me:=me) C (wv hx (by unfold kz lE; omega)))
 refine WK p<|aj fun _ s=>WS fun _ EQ=>fY 2 [0,1] (mc 4 U (mc 2 U mn)) U<|rS (CL (Jv l kA kC az cA cC bA bC x hin asm I) (bp [5,6,7,8]) U)<|AL U dv fun R5=>gl U cy U<|RK EQ<|WS fun _ Eq=>rP 5 [] (mc 0 U mn) ?_
 refine RK Eq<|bS U (aP fun D=>?_) (aQ fun D=>?_)
 ·refine WK s<|al<|rP 1 [] (mc 3 U mn) ?_
  refine jG (vs:=(aK.cells x)) (cs':=(aK.cells x)) (C':=[_,_,_,_,_,_,_,_,_,_,_,_,_,_,_,_,(cd V 107 (aK.cells x)),_]) 16 U U U yz U U U U U U U<|aA<|aH<|KK AA ?_
  have J8:(aK.cells x)=(aK.cells (m6 r.ai (i+1))):=by rw [pH hx]
  rw [J8]
  refine al<|rP 2 [] mn ?_
  refine aA ?_
  rw [show (dW l r.ai i)=(dW l r.ai (i+1)) from (xe hx D).symm]
  have J9:(vI (((i+1):Nat):Int))=(vI ((i:Int)+1)):=by exact cI I
  refine aV (T ⟨(i+1),⟨I,l3 A hx (by unfold kz lE; omega)⟩⟩ _ _ _ U os (cU 9<|bk U J9<|dF.nil _) (aG [4,5,6,7,8,9,10,11,12,13,14,15,16,17]))
 obtain ⟨mb,Z⟩:=aJ (dW l r.ai i) ((x.f_).toNat) I
 obtain ⟨ga,M⟩:=aJ fb ((x.f_).toNat) I
 refine Gc 17 Z M U U U ?_
 try dsimp only
 refine dH cx 10 kr<|lQ 1 U<|dS (SX (bP U U) U U)<|dP 4 [0,1] (mc 16 U (mc 5 U mn)) ?_
 have KY:(List.map oC (eI fb l.ae.length))[(x.f_).toNat]? =some (oC (some ga)):=sK (pa M)
 refine dS (IA ((x.f_).toNat) U (ag (n:=l.ae.length) 17 U sq) Gw dc I I) ?_
 refine dS (gi ((x.f_).toNat) 0 (Value.map (some ga)) U cj (ag (n:=(eI fb l.ae.length).length) 17 U sm) KY U dc U)<|mV 2 [] (mc 2 U mn) U<|cQ<|ko (kV:=iV) (x:=(i:Int)) (C':=[(iS iV ga (bW er (e8 mb (i:Int) (cJ l x)))),_,_,_,_,_,_,_,_,_,_,_,_,_,_,_,_,_,_]) 0 U U U U ot (eX qp) U (iD _ _ _ _).symm U<|RK s<|al<|rP 1 [] (mc 5 U mn) ?_
 refine jG (vs:=(aK.cells x)) (cs':=(aK.cells x)) (C':=[_,_,_,_,_,_,_,_,_,_,_,_,_,_,_,_,_,_,(cd V 107 (aK.cells x))]) 18 U U U yz U U U U U U U<|aA<|aH<|KK AA ?_
 have J6:(aK.cells x)=(aK.cells (m6 r.ai (i+1))):=by rw [pH hx]
 rw [J6]
 refine al<|rP 2 [] mn ?_
 refine aA ?_
 refine MD (f:=sj) (ms:=(dW l r.ai i)) (m:=(e8 mb (i:Int) (cJ l x))) 1 0 (by rw [jD]; omega) M U U U ?_
 rw [yU hx I D Z]
 have J7:(vI (((i+1):Nat):Int))=(vI ((i:Int)+1)):=by exact cI I
 refine aV (T ⟨(i+1),⟨I,l3 A hx (by unfold kz lE; omega)⟩⟩ _ _ _ U os (cU 9<|bk U J7<|dF.nil _) (aG [5,6,7,8,9,10,11,12,13,14,15,16,17,0]))
end
section
open Go.RowKit
theorem Me (l:aX) (kA:OA) (kC:Nat) (az:List RA) (cA:OA) (cC:Nat) (bA:OA) (bC:Nat) (r:cE) (sgA:OA) (sgC:Nat) (bq_:Int) (hin:ew l az) (hsl:r.ai.length≤1000000):
 eB Tryz.prog 25 [(vA (bZ.cells (lJ l kA kC cA cC bA bC))),(vA (d_.cells (mh r sgA sgC))),(vI bq_)] [(rd kA l.aL.length 9 (l.aL.map ak.cells)),(rd cA l.ah.length 2 (List.zipWith ao.cells l.ah az)),(e9 (aW ao.gP l.ah az)),(rd bA l.ae.length 4 (l.ae.map bE.cells)),(rd sgA r.ai.length 2 (r.ai.map aK.cells))] (vT [(vA (aa.cells (dy l r bq_))),(vI (de l r bq_))]):=by
 have J4:=hin.sw
 have Id:=hin.sr
 have Go:=hin.oo
 have IO:=hin.sH
 have J2:=hin.side
 refine bG kr Tryz.func25 U U fun w0 Q hQ hN=>?_
 try dsimp only
 refine WS fun _ A0=>gd U fun b2=>gd U fun b3=>uG U U fun b4=>AL U dv fun b5=>bo 1 U<|RK A0<|WS fun _ p=>rP 2 [0,1] (mc 3 U (mc 2 U mn)) ?_
 refine rS (FU U)<|c_ (xs:=[.tmp 17]) (cs:=[(Value.func (.func 59) [].toArray [(vP b2),(vP b4)].toArray)]) U Ph TB U U U U (by simp [Value.cells]) U U fun b7=>cX (M_ l kA kC az cA cC bA bC r sgA sgC (Value.func (.func 59) [].toArray [(vP b2),(vP b4)].toArray) (e9 [(rd kA l.aL.length 9 (l.aL.map ak.cells)),(rd cA l.ah.length 2 (List.zipWith ao.cells l.ah az)),(e9 (aW ao.gP l.ah az)),(rd bA l.ae.length 4 (l.ae.map bE.cells)),(cd b2 28 (bZ.cells (lJ l kA kC cA cC bA bC))),(cd b4 3 [(vI bq_)])]) (iP l bq_) b7 (by exact oi (fi:=[]) (ca:=[(vP b2),(vP b4)]) (mA (En l kA kC az cA cC bA bC b2 bq_ b4 (by first|assumption|omega)) (bp [0,1,2,3,4,5]))) hin hsl) (l5 [5,6,7,8,9]<|au (mB (bp [5,6,7,8,4,2]))<|fP 0 U U<|aI) U fun y8 Ck=>?_
 obtain ⟨Cp,Fd,E,H,AB,g,j,m,B,L,J,K,A,G,d,f⟩:=y8
 cases Cp
 ·obtain ⟨B7,he⟩:=Ck.2 rfl
  try dsimp only at B7 he
  subst B7
  try dsimp only [cond_true,cond_false,List.cons_append,List.nil_append]
  refine bo 5 U<|RK p<|aj fun _ Fn=>WS fun _ A8=>rP 2 [] mn ?_
  refine RK A8<|bS U (bw fun A7=>?_) (bx fun A7=>?_)
  ·exact absurd A7 he
  refine WS fun _ A9=>rS (SX (bh (xs:=[]) (cs:=(aa.cells (aa.mk 0 0))) U U (bg gH U)) U U)<|bo 1 U<|ti U cy U<|rP 1 [] mn ?_
  refine RK A9<|ar<|lP hQ [0] (mc 1 U mn) U ?_
  (have e:=kb (b:=bq_) he; rw [e.1,e.2]<;>rfl)
 obtain ⟨he,D,C,C2,C1,Di⟩:=Ck.1 rfl
 try dsimp only [cond_true,cond_false,List.cons_append,List.nil_append]
 dsimp only at D C C2 C1 Di
 obtain ⟨C0,A4,DL,In⟩:=j8 he
 obtain ⟨Do,Ca⟩:=gj C0
 have C3:=Ca.head
 unfold gE at C3
 have EQ:=pt Do Ca A4
 have I4:=A4.time
 have I0:=A4.len
 have B9:(cG l l.ae.length).length=l.ae.length:=dR
 have Ci:(dW l r.ai r.ai.length).length=l.ae.length:=jD
 have If:B.length=l.ae.length+1:=by have:=D.len; rw [show (b_ l r).n=l.ae.length from dR] at this; exact this
 have IR:A.length=l.ae.length+1:=by have:=C.len; rw [show (b_ l r).n=l.ae.length from dR] at this; exact this
 obtain ⟨Hc,H1⟩:=EW DL
 obtain ⟨b,A1⟩: ∃ b:Nat,bq_=(b:Int):=⟨bq_.toNat,I⟩
 rw [A1]
 refine bo 5 U<|RK p<|aj fun _ N=>WS fun _ O=>bo 1 U<|rS (SX (cb (r:= .bool false) U U U nK) U U)<|RK O<|a_ U<|WK N<|WS fun _ P=>rS (SX (bh (xs:=[(0,.const (vI 1))]) (cs:=(aa.cells (aa.mk 1 0))) U U (bg gH U)) U U)<|AL U dv fun A5=>gl U cy U<|RK P<|WS fun _ R=>fY 1 [] (mc 0 U mn) U<|AL U dv fun A6=>gl U cy U<|RK R<|aj fun _ T=>WS fun _ AA=>rP 2 [] (mc 12 U mn) ?_
 obtain ⟨mf,Y⟩:=aJ B b I
 obtain ⟨mb,Z⟩:=aJ A (b+1) I
 refine cX (IL E b) (aI) U fun FR GE=>?_
 obtain ⟨AC,AO⟩:=FR
 try dsimp only
 refine RK AA<|ax ?_
 refine nJ (L0:=[(3,(vP b2)),(4,(vP b3)),(5,(vP b4)),(6,(vP b5)),(7,(vI 0)),(10,(vP A5)),(11,(vP A6))]) (F:=[(own H AB 3 1 ((cG l l.ae.length).map iC)),(own g j 40 1 (List.zipWith gT (dW l r.ai r.ai.length) m)),(br (aW sj (dW l r.ai r.ai.length) m)),(own J K 170 1 (List.zipWith gT B L)),(br (aW oq B L)),(own d f 170 1 (List.zipWith gT A G)),(br (aW oq A G)),(cd E 166 (cp.cells (cp.mk (lJ l kA kC cA cC bA bC) (mh r sgA sgC) (bj.mk H ((cG l l.ae.length).length) AB) (bj.mk g ((dW l r.ai r.ai.length).length) j) (bj.mk J B.length K) (bj.mk d A.length f)))),(cd AC 121 [(vP E)]),(cd AO 3 [(vI (b:Int))])]) (fun k (y:aa)=>(kI k y)∧(∀ q∈k,q∈qf (b_ l r) b mf mb)) (fun k y=>[(cd A6 45 (aa.cells y)),(cd A5 45 (aa.cells (aa.mk 1 0))),(cd b5 45 (aa.cells (aa.mk 0 0))),(cd b4 3 [(vI (b:Int))]),(cd b3 60 (d_.cells (mh r sgA sgC))),(cd b2 28 (bZ.cells (lJ l kA kC cA cC bA bC))),(rd kA l.aL.length 9 (l.aL.map ak.cells)).ro,(rd cA l.ah.length 2 (List.zipWith ao.cells l.ah az)).ro,(e9 (aW ao.gP l.ah az)).ro,(rd bA l.ae.length 4 (l.ae.map bE.cells)).ro,(rd sgA r.ai.length 2 (r.ai.map aK.cells)).ro]) (fun _ (_:Unit)=>False) (fun _ _=>[]) [2,3,13,14,15,16,17,18,19,20,21] [5,6,7,8,9,10,11,4,0,1] iT rfl rfl (HP (lJ l kA kC cA cC bA bC) (mh r sgA sgC) (cG l l.ae.length) (dW l r.ai r.ai.length) H AB m g j B A L J K G d f E b AC AO mf mb (by rw [B9]; omega) (by exact EQ) (by rw [Ci]; omega) (by exact D) I (by exact C) I (by show r.ai.length≤1000; omega) (by exact Y) (by exact Z)) rfl rfl rfl (by exact ⟨CR,fun q hq=>by cases hq⟩) (by simp only [List.forall_mem_cons,List.not_mem_nil,false_imp_iff,implies_true,and_true]; exact ⟨⟨_,aT (i:=0) rfl,(km sm)⟩,⟨_,aT (i:=1) rfl,(km (by rw [List.length_zipWith]; omega))⟩,⟨_,aT (i:=2) rfl,tm⟩,⟨_,aT (i:=3) rfl,(km (by rw [List.length_zipWith]; omega))⟩,⟨_,aT (i:=4) rfl,tm⟩,⟨_,aT (i:=5) rfl,(km (by rw [List.length_zipWith]; omega))⟩,⟨_,aT (i:=6) rfl,tm⟩,⟨_,aT (i:=7) rfl,(bV _)⟩,⟨_,aT (i:=8) rfl,(bV _)⟩,⟨_,aT (i:=9) rfl,(bV _)⟩⟩) (by rintro k x k2 ⟨o,_,rfl,_⟩; rfl) rfl (aU rfl) ?_ ?_ (fun _ _ _ h=>h.elim) (fun _ _ h=>h.elim)
 ·rintro k x k2 h lr ra rb S w1 K41 Qr42 J3 hx A2 Bm X Eq FS
  obtain ⟨q,hq,rfl,rfl⟩:=hx
  obtain ⟨a,c⟩:=A2
  try dsimp only
  refine al<|AL U dv fun GT=>gl U cy U<|aA<|ja (fun _ _ h=>h) (aG [1,0,2,3,4,5,6,7,8,9,10,11,12])<|aV (Bm _ _ ?_)
  refine ax<|aj fun _ s=>WS fun _ B3=>rP 2 [0,1] (mc 2 U (mc 3 U mn)) ?_
  refine rS (BI U (SH _ _ h (aa.mk 1 0)))<|RK B3<|bS U (bw fun M=>?_) (bx fun M=>?_)
  ·refine WK s<|al<|rP 1 [] (mc 1 U mn) ?_
   refine Ga U cy U<|aA<|aH ?_
   exact X q.2 _ _ (by refine ⟨zY a (iN hq) ?_,fun z hz=>?_⟩; (first|exact if_neg M|exact if_pos M); (rcases dM.1 hz with hz|hz; exact c z hz; (rw [bH.1 hz]; exact hq))) (aG [0,2,3,4,5,6,7,8,9,10,11,12])
  refine al<|fY 4 [0,1] (mc 1 U (mc 2 U mn)) U<|rS (MN U)<|fY 4 [0,1] (mc 1 U (mc 2 U mn)) U<|rS (MX U)<|rS (SX (bh (xs:=[(0,.tmp 40),(1,.tmp 45)]) (cs:=(aa.cells (aa.mk (min q.2.Lo h.Lo) (max q.2.Hi h.Hi)))) U U (bg gH U)) U U)<|ti U cy U<|RK s<|al<|rP 1 [] (mc 1 U mn) ?_
  refine Ga U cy U<|aA<|aH ?_
  exact X (aa.mk (min q.2.Lo h.Lo) (max q.2.Hi h.Hi)) _ _ (by refine ⟨zY a (iN hq) ?_,fun z hz=>?_⟩; (first|exact if_neg M|exact if_pos M); (rcases dM.1 hz with hz|hz; exact c z hz; (rw [bH.1 hz]; exact hq))) (aG [0,2,3,4,5,6,7,8,9,10,11,12])
 rintro J6 k h v A3
 obtain ⟨a,c⟩:=A3
 try dsimp only
 refine aH<|KK T<|aj fun _ V=>WS fun _ W=>rP 2 [0,1] (mc 11 U (mc 12 U mn)) ?_
 refine rS (BI U (tH _ _ h (aa.mk 1 0)))<|RK W<|bS U (aP fun Ap=>?_) (aQ fun Ap=>?_)
 ·refine WK V<|WS fun _ u=>fY 1 [] (mc 11 U mn) U<|jG (vs:=(aa.cells h)) (cs':=(aa.cells h)) (C':=[_,_,_,_,_,_,_,_,_,_,_,_,_,(cd b5 45 (aa.cells h)),_,_,_,_,_,_,_,_]) 13 U U U cy U U U U U U U<|rP 1 [] mn ?_
  refine RK u<|ar<|hQ _ _ _ (o0 0 U U<|ik (vs:=[(vA (aa.cells h)),(vI 0)]) ⟨⟨_,U,.inl ⟨_,_,cj,pI (vs:=(aa.cells h)) 13 U U,U,U⟩⟩,U,trivial⟩ fun w hs=>Fk ?_ hs)
  show (vT [(vA (aa.cells h)),(vI 0)])=(vT [(vA (aa.cells (dy l r bq_))),(vI (de l r bq_))])
  clear hs w hQ hN u W V AA T R P O N p A0
  (rw [A1] at he ⊢; have hh:h=ky l r b:=zU (D.min _ _ Y) (C.max _ _ Z) (D.keys _ _ Y) (C.keys _ _ Z) c v a; (have e:=iY he (fun q=>Ap (hh.trans q)); rw [e.1,e.2,hh]<;>rfl))
 refine WS fun _ t=>rS (SX (bh (xs:=[]) (cs:=(aa.cells (aa.mk 0 0))) U U (bg gH U)) U U)<|jG (vs:=(aa.cells (aa.mk 0 0))) (cs':=(aa.cells (aa.mk 0 0))) (C':=[_,_,_,_,_,_,_,_,_,_,_,_,_,(cd b5 45 (aa.cells (aa.mk 0 0))),_,_,_,_,_,_,_,_]) 13 U U U cy U U U U U U U<|rP 1 [] mn ?_
 refine RK t<|ar<|hQ _ _ _ (o0 0 U U<|ik (vs:=[(vA (aa.cells (aa.mk 0 0))),(vI 6)]) ⟨⟨_,U,.inl ⟨_,_,cj,pI (vs:=(aa.cells (aa.mk 0 0))) 13 U U,U,U⟩⟩,U,trivial⟩ fun w hs=>Fk ?_ hs)
 show (vT [(vA (aa.cells (aa.mk 0 0))),(vI 6)])=(vT [(vA (aa.cells (dy l r bq_))),(vI (de l r bq_))])
 clear hs w hQ hN t W V AA T R P O N p A0
 (rw [A1] at he ⊢; have hh:h=ky l r b:=zU (D.min _ _ Y) (C.max _ _ Z) (D.keys _ _ Y) (C.keys _ _ Z) c v a; (have e:=lf he (hh.symm.trans Ap); rw [e.1,e.2]<;>rfl))
theorem Sl (l:aX) (kA:OA) (kC:Nat) (az:List RA) (cA:OA) (cC:Nat) (bA:OA) (bC:Nat) (r:cE) (sgA:OA) (sgC:Nat) (hin:ew l az) (hsl:r.ai.length≤1000000):
 eB Tryz.prog 23 [(vA (bZ.cells (lJ l kA kC cA cC bA bC))),(vA (d_.cells (mh r sgA sgC)))] [(rd kA l.aL.length 9 (l.aL.map ak.cells)),(rd cA l.ah.length 2 (List.zipWith ao.cells l.ah az)),(e9 (aW ao.gP l.ah az)),(rd bA l.ae.length 4 (l.ae.map bE.cells)),(rd sgA r.ai.length 2 (r.ai.map aK.cells))] (vT [(vA (aa.cells (se l r))),(vI (de l r l.bU))]):=by
 have N:=hin.sw
 have J:=hin.sr
 have H:=hin.oo
 have AA:=hin.sH
 have M:=hin.side
 refine bG kr Tryz.func23 U U fun T Q hQ hN=>?_
 try dsimp only
 refine WS fun _ C=>gd U fun O=>gd U fun P=>AL U dv fun R=>bo 1 U<|RK C<|WS fun _ D=>fY 4 [0,1] (mc 2 U (mc 1 U mn)) U<|rS (CL (Me l kA kC az cA cC bA bC r sgA sgC l.bU hin hsl) (bp [3,4,5,6,7]) U)<|bo 3 U<|AL U dv fun S=>gl U cy U<|bo 1 U<|RK D<|aj fun _ E=>WS fun _ F=>rP 2 [] mn ?_
 refine RK F<|cP U (bx fun A=>?_) (bw fun A=>?_)
 ·refine WS fun _ G=>rS (SX (bh (xs:=[]) (cs:=(aa.cells (aa.mk 0 0))) U U (bg gH U)) U U)<|bo 1 U<|ti U cy U<|rP 1 [] mn ?_
  refine RK G<|ar<|lP hQ [0] (mc 1 U mn) U ?_
  (rw [Ft A]<;>rfl)
 refine WK E<|WS fun _ B=>rP 4 [0,1] (mc 0 U (mc 2 U mn)) ?_
 have K:=tW A
 have L:=(vL A).time
 refine fY 6 [0,1] (mc 0 U (mc 2 U mn)) U<|rS (SX (bh (xs:=[(0,.tmp 24),(1,.tmp 29)]) (cs:=(aa.cells (aa.mk (((dy l r l.bU).Lo)-r.Start) (((dy l r l.bU).Hi)-r.Start)))) U U (bg gH U)) U U)<|ti U cy U<|rP 1 [] mn ?_
 refine RK B<|ar<|lP hQ [0] (mc 1 U mn) U ?_
 (rw [s_ A,A]<;>rfl)
end
section
open Go.RowKit
theorem Od (l:aX) (kA:OA) (kC:Nat) (az:List RA) (cA:OA) (cC:Nat) (bA:OA) (bC:Nat) (d:aw) (sgA:OA) (sgC:Nat) (hin:ew l az):
 eB Tryz.prog 216 [(vA (bZ.cells (lJ l kA kC cA cC bA bC))),(vA (bq.cells (bq.mk d.Out d.eV d.Time (mh d.cv sgA sgC))))] [(rd kA l.aL.length 9 (l.aL.map ak.cells)),(rd cA l.ah.length 2 (List.zipWith ao.cells l.ah az)),(e9 (aW ao.gP l.ah az)),(rd bA l.ae.length 4 (l.ae.map bE.cells)),(rd sgA d.cv.ai.length 2 (d.cv.ai.map aK.cells))] (vT [(vA (aa.cells d.Time)),(vB (decide (d.eV=false∧d.Time=dJ∧mQ d.cv)))]):=by
 refine bG kr Tryz.func216 U U fun K Q hQ hN=>?_
 try dsimp only
 refine WS fun _ B=>gd U fun H=>gd U fun AA=>AL U dv fun J=>rP 1 [] mn ?_
 refine RK B<|aj fun _ A=>dK cx [15] [] [] [1,2,3,4,5,6,7] [] U U U U U<|eS U (FA 2 U fw U)<|eS U (LP (aa.cells d.Time) 0 U cj U U U)<|eS U (FA 1 U fw U)<|eS U (L1 (vB d.eV) 0 U cj U U)<|eS U (NT U)<|eS U (MV U)<|rH (t:=11) U (fun G=>?_) (fun G=>?_)
 rotate_left 1
 ·rw [Bool.not_eq_false'] at G
  refine eS U (OX U)<|eS U (OX U)<|eS U (OX U)<|eS U (OX U)<|eS U (PK U)<|eS U (MV U)<|eS U (OX U)<|eS U (OX U)<|eS U (PK U)<|eS U (AG U)<|eT U<|cf U fun T10 C=>gl U cy U<|aA (C _ _ (aG [1,2,3,4,5,6,7]) ?_)
  refine fO U<|KK A<|ar<|lP hQ [0] (mc 0 U mn) U ?_
  clear hQ hN C T10 A B
  refine congrArg (fun z=>Value.tuple #[_,vB z]) ?_
  first|rfl|(simp_all [dJ]; done)
 rw [Bool.not_eq_true'] at G
 refine eS U (FA 2 U fw U)<|eS U (LP (aa.cells d.Time) 0 U cj U U U)<|eS U (SX (bh (xs:=[]) (cs:=(aa.cells (aa.mk 0 0))) U U (bg gH U)) U U)<|eS U (BI U (tH _ _ d.Time (aa.mk 0 0)))<|eS U (PK U)<|eS U (MV U)<|rH (t:=17) U (fun D=>?_) (fun D=>?_)
 rotate_left 1
 ·replace D:=DF D
  refine eS U (OX U)<|eS U (OX U)<|eS U (PK U)<|eS U (AG U)<|eT U<|cf U fun T9 F=>gl U cy U<|aA (F _ _ (aG [1,2,3,4,5,6,7]) ?_)
  refine fO U<|KK A<|ar<|lP hQ [0] (mc 0 U mn) U ?_
  clear hQ hN F T9 A B
  refine congrArg (fun z=>Value.tuple #[_,vB z]) ?_
  first|rfl|(simp_all [dJ]; done)
 replace D:=DT D
 refine eS U (LW 0 U cj U U)<|eS U (CL (JP d sgA sgC) (bp [6]) U)<|eS U (PK U)<|eS U (AG U)<|eT U<|cf U fun T8 E=>gl U cy U<|aA (E _ _ (aG [1,2,3,4,5,6,7]) ?_)
 refine fO U<|KK A<|ar<|lP hQ [0] (mc 0 U mn) U ?_
 clear hQ hN E T8 A B
 refine congrArg (fun z=>Value.tuple #[_,vB z]) ?_
 first|rfl|(simp_all [dJ]; done)
theorem Nk (l:aX) (kA:OA) (kC:Nat) (az:List RA) (cA:OA) (cC:Nat) (bA:OA) (bC:Nat) (d:aw) (sgA:OA) (sgC:Nat) (hin:ew l az):
 eB Tryz.prog 219 [(vA (bZ.cells (lJ l kA kC cA cC bA bC))),(vA (bq.cells (bq.mk d.Out d.eV d.Time (mh d.cv sgA sgC))))] [(rd kA l.aL.length 9 (l.aL.map ak.cells)),(rd cA l.ah.length 2 (List.zipWith ao.cells l.ah az)),(e9 (aW ao.gP l.ah az)),(rd bA l.ae.length 4 (l.ae.map bE.cells)),(rd sgA d.cv.ai.length 2 (d.cv.ai.map aK.cells))] (vT [(vA (aa.cells d.Time)),(vB (decide (iU d.Time∧mQ d.cv)))]):=by
 refine bG kr Tryz.func219 U U fun AA Q hQ hN=>?_
 try dsimp only
 refine WS fun _ B=>gd U fun F=>gd U fun G=>AL U dv fun H=>rP 1 [] mn ?_
 refine RK B<|aj fun _ A=>dK cx [9] [] [] [1,2,3,4,5,6,7] [] U U U U U<|eS U (FA 2 U fw U)<|eS U (LP (aa.cells d.Time) 0 U cj U U U)<|eS U (FA 2 U fw U)<|eS U (LP (aa.cells d.Time) 0 U cj U U U)<|eS U (CL (Gk d.Time) (aI) U)<|eS U (MV U)<|rH (t:=11) U (fun C=>?_) (fun C=>?_)
 rotate_left 1
 ·replace C:=DF C
  refine eS U (OX U)<|eS U (OX U)<|eS U (PK U)<|eS U (AG U)<|eT U<|cf U fun T8 E=>gl U cy U<|aA (E _ _ (aG [1,2,3,4,5,6,7]) ?_)
  refine fO U<|KK A<|ar<|lP hQ [0] (mc 0 U mn) U ?_
  clear hQ hN E T8 A B
  refine congrArg (fun z=>Value.tuple #[_,vB z]) ?_
  first|rfl|(simp_all; done)
 replace C:=DT C
 refine eS U (LW 0 U cj U U)<|eS U (CL (JP d sgA sgC) (bp [6]) U)<|eS U (PK U)<|eS U (AG U)<|eT U<|cf U fun T7 D=>gl U cy U<|aA (D _ _ (aG [1,2,3,4,5,6,7]) ?_)
 refine fO U<|KK A<|ar<|lP hQ [0] (mc 0 U mn) U ?_
 clear hQ hN D T7 A B
 refine congrArg (fun z=>Value.tuple #[_,vB z]) ?_
 first|rfl|(simp_all; done)
theorem NX (l:aX) (kA:OA) (kC:Nat) (az:List RA) (cA:OA) (cC:Nat) (bA:OA) (bC:Nat) (d:aw) (sgA:OA) (sgC:Nat) (hin:ew l az) (hsl:d.cv.ai.length≤1000000):
 eB Tryz.prog 221 [(vA (bZ.cells (lJ l kA kC cA cC bA bC))),(vA (bq.cells (bq.mk d.Out d.eV d.Time (mh d.cv sgA sgC))))] [(rd kA l.aL.length 9 (l.aL.map ak.cells)),(rd cA l.ah.length 2 (List.zipWith ao.cells l.ah az)),(e9 (aW ao.gP l.ah az)),(rd bA l.ae.length 4 (l.ae.map bE.cells)),(rd sgA d.cv.ai.length 2 (d.cv.ai.map aK.cells))] (vT [(vA (aa.cells (se l d.cv))),(vB (decide (de l d.cv l.bU=0∧d.Time=dJ)))]):=by
 have K:=hin.sw
 have AA:=hin.sr
 have G:=hin.oo
 have H:=hin.sH
 have J:=hin.side
 refine bG kr Tryz.func221 U U fun P Q hQ hN=>?_
 try dsimp only
 refine WS fun _ C=>gd U fun L=>gd U fun M=>AL U dv fun N=>bo 1 U<|RK C<|WS fun _ D=>fY 2 [] (mc 2 U mn) U<|rS (LP (d_.cells (mh d.cv sgA sgC)) 1 U cj U U U)<|rS (CL (Sl l kA kC az cA cC bA bC d.cv sgA sgC hin hsl) (bp [3,4,5,6,7]) U)<|bo 3 U<|AL U dv fun O=>gl U cy U<|rP 1 [] mn ?_
 refine RK D<|aj fun _ A=>dK cx [9] [] [] [0,2,3,4,5,6,7,8] [] U U U U U<|eS U (LW 0 U cj U U)<|eS U (MV U)<|eS U (BI U mJ)<|eS U (MV U)<|rH (t:=18) U (fun E=>?_) (fun E=>?_)
 rotate_left 1
 ·replace E:=DF E
  refine eS U (OX U)<|eS U (OX U)<|eS U (OX U)<|eS U (OX U)<|eS U (PK U)<|eS U (AG U)<|eT U<|cf U fun T10 B=>ti U cy U<|aA (B _ _ (aG [0,2,3,4,5,6,7,8]) ?_)
  refine fO U<|KK A<|ar<|lP hQ [0] (mc 1 U mn) U ?_
  clear hQ hN B T10 A D C
  refine congrArg (fun z=>Value.tuple #[_,vB z]) ?_
  first|rfl|(simp_all [dJ]; done)
 replace E:=DT E
 refine eS U (FA 2 U fw U)<|eS U (LP (aa.cells d.Time) 1 U cj U U U)<|eS U (SX (bh (xs:=[]) (cs:=(aa.cells (aa.mk 0 0))) U U (bg gH U)) U U)<|eS U (BI U (tH _ _ d.Time (aa.mk 0 0)))<|eS U (PK U)<|eS U (AG U)<|eT U<|cf U fun T9 F=>ti U cy U<|aA (F _ _ (aG [0,2,3,4,5,6,7,8]) ?_)
 refine fO U<|KK A<|ar<|lP hQ [0] (mc 1 U mn) U ?_
 clear hQ hN F T9 A D C
 refine congrArg (fun z=>Value.tuple #[_,vB z]) ?_
 first|rfl|(simp_all [dJ]; done)
theorem Hm (d:aw) (sgA:OA) (sgC g1:Nat):
 eB Tryz.prog 114 [(vA (m0.cells (m0.mk (Value.func (.func 215) [].toArray [].toArray) (Value.func (.func 216) [].toArray [].toArray)))),(vP g1)] [(rd sgA d.cv.ai.length 2 (d.cv.ai.map aK.cells)),(cd g1 62 (bq.cells (bq.mk d.Out d.eV d.Time (mh d.cv sgA sgC))))] (vB d.Out):=by
 refine bG kr Tryz.func114 U U fun D Q hQ hN=>?_
 try dsimp only
 refine WS fun _ A=>gd U fun C=>bo 1 U<|RK A<|WS fun _ B=>fY 3 [0,1] (mc 0 U (mr 2 U mn)) U<|rS (CL (TW d sgA sgC) (bp [1]) U)<|rP 1 [] mn ?_
 refine RK B<|ar<|Q1 hQ U U U ?_
 rfl
theorem Io (d:aw) (sgA:OA) (sgC g1:Nat):
 eB Tryz.prog 114 [(vA (m0.cells (m0.mk (Value.func (.func 218) [].toArray [].toArray) (Value.func (.func 219) [].toArray [].toArray)))),(vP g1)] [(rd sgA d.cv.ai.length 2 (d.cv.ai.map aK.cells)),(cd g1 62 (bq.cells (bq.mk d.Out d.eV d.Time (mh d.cv sgA sgC))))] (vB d.eV):=by
 refine bG kr Tryz.func114 U U fun D Q hQ hN=>?_
 try dsimp only
 refine WS fun _ A=>gd U fun C=>bo 1 U<|RK A<|WS fun _ B=>fY 3 [0,1] (mc 0 U (mr 2 U mn)) U<|rS (CL (TP d sgA sgC) (bp [1]) U)<|rP 1 [] mn ?_
 refine RK B<|ar<|Q1 hQ U U U ?_
 rfl
theorem HL (d:aw) (sgA:OA) (sgC g1:Nat):
 eB Tryz.prog 114 [(vA (m0.cells (m0.mk (Value.func (.func 220) [].toArray [].toArray) (Value.func (.func 221) [].toArray [].toArray)))),(vP g1)] [(rd sgA d.cv.ai.length 2 (d.cv.ai.map aK.cells)),(cd g1 62 (bq.cells (bq.mk d.Out d.eV d.Time (mh d.cv sgA sgC))))] (vB true):=by
 refine bG kr Tryz.func114 U U fun D Q hQ hN=>?_
 try dsimp only
 refine WS fun _ A=>gd U fun C=>bo 1 U<|RK A<|WS fun _ B=>fY 3 [0,1] (mc 0 U (mr 2 U mn)) U<|rS (CL (Sb d sgA sgC) (bp [1]) U)<|rP 1 [] mn ?_
 refine RK B<|ar<|Q1 hQ U U U ?_
 rfl
end
section
open Go.RowKit
theorem xr (d:aw) (sgA:OA) (sgC g1:Nat):
 eB Tryz.prog 113 [(vS fg 3 3),(Value.func (.func 114) [].toArray [(vP g1)].toArray)] [(rd fg 3 2 eu),(rd sgA d.cv.ai.length 2 (d.cv.ai.map aK.cells)),(cd g1 62 (bq.cells (bq.mk d.Out d.eV d.Time (mh d.cv sgA sgC))))] (vI (o2 d)):=by
 refine bG kr Tryz.func113 U U fun b Q hQ hN=>?_
 try dsimp only
 refine WS fun _ F=>bo 1 U<|RK F<|aj fun _ AA=>WS fun _ G=>bo 3 U<|RK G<|ax<|kj 4<|eH fun R4 Z=>WS fun _ H=>rS (SX (cb (r:= .bool true) U U U hU) U U)<|RK H<|aj fun _ AB=>aR U<|WK AB<|aj fun _ J=>ax<|WS fun _ K=>bo 2 U<|RK K<|WS fun _ L=>rP 3 [] mn ?_
 refine rS (IA 0 U (aC 0 U) II dc U I)<|rS (oY 0 0 (m0.cells (m0.mk (Value.func (.func 215) [].toArray [].toArray) (Value.func (.func 216) [].toArray [].toArray))) U cj (aC 0 U) (show eu[0]? =some [(Value.func (.func 215) [].toArray [].toArray),(Value.func (.func 216) [].toArray [].toArray)] from U) U dc U U)<|rS (CL (Hm d sgA sgC g1) (bp [1,2]) U)<|RK L<|cP U (fun X=>?_) (fun X=>?_)
 ·refine WS fun _ M=>rP 2 [] mn ?_
  refine RK M<|ar<|Q1 hQ U U U ?_
  clear hQ hN M L K J AB H G AA F
  refine cI ?_
  simp [o2, *]
 refine cr<|aH<|KK J<|al<|rS (SX (cb (r:= .int .i64 1) U U U (iG ⟨dc,dc⟩)) U U)<|bo 1 U<|RK Z<|eH fun R12 W=>WS fun _ A=>rS (SX (cb (r:= .bool true) U U U hU) U U)<|RK A<|aj fun _ B=>aR U<|WK B<|aj fun _ C=>ax<|WS fun _ D=>bo 2 U<|RK D<|WS fun _ E=>rP 3 [] mn ?_
 refine rS (IA 1 U (aC 0 U) II dc U I)<|rS (oY 1 0 (m0.cells (m0.mk (Value.func (.func 218) [].toArray [].toArray) (Value.func (.func 219) [].toArray [].toArray))) U cj (aC 0 U) (show eu[1]? =some [(Value.func (.func 218) [].toArray [].toArray),(Value.func (.func 219) [].toArray [].toArray)] from U) U dc U U)<|rS (CL (Io d sgA sgC g1) (bp [1,2]) U)<|RK E<|cP U (fun Y=>?_) (fun Y=>?_)
 ·refine WS fun _ N=>rP 2 [] mn ?_
  refine RK N<|ar<|Q1 hQ U U U ?_
  clear hQ hN N E D C B A L K J AB H G AA F
  refine cI ?_
  simp [o2, *]
 refine cr<|aH<|KK C<|al<|rS (SX (cb (r:= .int .i64 2) U U U (iG ⟨dc,dc⟩)) U U)<|bo 1 U<|RK W<|eH fun R20 a=>WS fun _ O=>rS (SX (cb (r:= .bool true) U U U hU) U U)<|RK O<|aj fun _ P=>aR U<|WK P<|aj fun _ V=>ax<|WS fun _ R=>bo 2 U<|RK R<|WS fun _ S=>bo 3 U<|rS (IA 2 U (aC 0 U) II dc U I)<|rS (oY 2 0 (m0.cells (m0.mk (Value.func (.func 220) [].toArray [].toArray) (Value.func (.func 221) [].toArray [].toArray))) U cj (aC 0 U) (show eu[2]? =some [(Value.func (.func 220) [].toArray [].toArray),(Value.func (.func 221) [].toArray [].toArray)] from U) U dc U U)<|rS (CL (HL d sgA sgC g1) (bp [1,2]) U)<|RK S<|aR U<|WS fun _ T=>rP 2 [] mn ?_
 refine RK T<|ar<|Q1 hQ U U U ?_
 clear hQ hN T S R V P O E D C B A L K J AB H G AA F
 refine cI ?_
 simp [o2, *]
end
section
open Go.RowKit
theorem SW (d:aw) (sgA:OA) (sgC g1:Nat) (hk:d.Out=true):
 eB Tryz.prog 113 [(vS fg 3 3),(Value.func (.func 114) [].toArray [(vP g1)].toArray)] [(rd fg 3 2 eu),(rd sgA d.cv.ai.length 2 (d.cv.ai.map aK.cells)),(cd g1 62 (bq.cells (bq.mk d.Out d.eV d.Time (mh d.cv sgA sgC))))] (vI 0):=by
 have h:=xr d sgA sgC g1
 have e:o2 d=0:=by simp [o2,hk]
 rw [e] at h
 exact h
theorem Sx (d:aw) (sgA:OA) (sgC g1:Nat) (hk:d.Out=false∧d.eV=true):
 eB Tryz.prog 113 [(vS fg 3 3),(Value.func (.func 114) [].toArray [(vP g1)].toArray)] [(rd fg 3 2 eu),(rd sgA d.cv.ai.length 2 (d.cv.ai.map aK.cells)),(cd g1 62 (bq.cells (bq.mk d.Out d.eV d.Time (mh d.cv sgA sgC))))] (vI 1):=by
 have h:=xr d sgA sgC g1
 have e:o2 d=1:=by simp [o2,hk]
 rw [e] at h
 exact h
theorem TF (d:aw) (sgA:OA) (sgC g1:Nat) (hk:d.Out=false∧d.eV=false):
 eB Tryz.prog 113 [(vS fg 3 3),(Value.func (.func 114) [].toArray [(vP g1)].toArray)] [(rd fg 3 2 eu),(rd sgA d.cv.ai.length 2 (d.cv.ai.map aK.cells)),(cd g1 62 (bq.cells (bq.mk d.Out d.eV d.Time (mh d.cv sgA sgC))))] (vI 2):=by
 have h:=xr d sgA sgC g1
 have e:o2 d=2:=by simp [o2,hk]
 rw [e] at h
 exact h
theorem CY (l:aX) (kA:OA) (kC:Nat) (az:List RA) (cA:OA) (cC:Nat) (bA:OA) (bC:Nat) (d:aw) (sgA:OA) (sgC:Nat) (hin:ew l az) (hsl:d.cv.ai.length≤1000000) (hk:d.Out=true):
 eB Tryz.prog 75 [(vA (bZ.cells (lJ l kA kC cA cC bA bC))),(vA (bq.cells (bq.mk d.Out d.eV d.Time (mh d.cv sgA sgC))))] [(rd fg 3 2 eu),(rd kA l.aL.length 9 (l.aL.map ak.cells)),(rd cA l.ah.length 2 (List.zipWith ao.cells l.ah az)),(e9 (aW ao.gP l.ah az)),(rd bA l.ae.length 4 (l.ae.map bE.cells)),(rd sgA d.cv.ai.length 2 (d.cv.ai.map aK.cells))] (vT [(vA (aa.cells (dE l d))),(vB (decide (gV l d)))]):=by
 refine bG kr Tryz.func75 U U fun AA Q hQ hN=>?_
 try dsimp only
 refine WS fun _ A=>gd U fun G=>gd U fun D=>AL U dv fun H=>bo 1 U<|RK A<|WS fun _ B=>rS (SX (EI U U z8) U U)<|rS (FU U)<|rS (CL (SW d sgA sgC D hk) (NR 3 8 1 U U U U U U) U)<|bo 1 U<|RK B<|aj fun _ C=>dH cx 9 kr<|lQ 1 U<|dS (SX (Ek (k:=0) U U U z8 U I) U U)<|dS (mW ((0*2)+1) U (aC 3 U) (Nat.mul_pos I dc) fw U)<|dS (gi 0 1 (Value.func (.func 216) [].toArray [].toArray) U cj (aC 3 U) (show eu[0]? =some [(Value.func (.func 215) [].toArray [].toArray),(Value.func (.func 216) [].toArray [].toArray)] from U) U dc U)<|mV 2 [0,1] (mc 2 U (mc 1 U mn)) U<|dS (CL (Od l kA kC az cA cC bA bC d sgA sgC hin) (bp [4,5,6,7,8]) U)<|lQ 2 U<|cQ<|gl U cy U<|rP 1 [] mn ?_
 refine RK C<|ar<|lP hQ [0] (mc 0 U mn) U ?_
 have E:=FJ (l:=l) hk
 have F:=q8 (l:=l) hk
 simp only [E,F]
theorem Ds (l:aX) (kA:OA) (kC:Nat) (az:List RA) (cA:OA) (cC:Nat) (bA:OA) (bC:Nat) (d:aw) (sgA:OA) (sgC:Nat) (hin:ew l az) (hsl:d.cv.ai.length≤1000000) (hk:d.Out=false∧d.eV=true):
 eB Tryz.prog 75 [(vA (bZ.cells (lJ l kA kC cA cC bA bC))),(vA (bq.cells (bq.mk d.Out d.eV d.Time (mh d.cv sgA sgC))))] [(rd fg 3 2 eu),(rd kA l.aL.length 9 (l.aL.map ak.cells)),(rd cA l.ah.length 2 (List.zipWith ao.cells l.ah az)),(e9 (aW ao.gP l.ah az)),(rd bA l.ae.length 4 (l.ae.map bE.cells)),(rd sgA d.cv.ai.length 2 (d.cv.ai.map aK.cells))] (vT [(vA (aa.cells (dE l d))),(vB (decide (gV l d)))]):=by
 refine bG kr Tryz.func75 U U fun AA Q hQ hN=>?_
 try dsimp only
 refine WS fun _ A=>gd U fun G=>gd U fun D=>AL U dv fun H=>bo 1 U<|RK A<|WS fun _ B=>rS (SX (EI U U z8) U U)<|rS (FU U)<|rS (CL (Sx d sgA sgC D hk) (NR 3 8 1 U U U U U U) U)<|bo 1 U<|RK B<|aj fun _ C=>dH cx 9 kr<|lQ 1 U<|dS (SX (Ek (k:=1) U U U z8 U I) U U)<|dS (mW ((1*2)+1) U (aC 3 U) (Nat.mul_pos I dc) fw U)<|dS (gi 1 1 (Value.func (.func 219) [].toArray [].toArray) U cj (aC 3 U) (show eu[1]? =some [(Value.func (.func 218) [].toArray [].toArray),(Value.func (.func 219) [].toArray [].toArray)] from U) U dc U)<|mV 2 [0,1] (mc 2 U (mc 1 U mn)) U<|dS (CL (Nk l kA kC az cA cC bA bC d sgA sgC hin) (bp [4,5,6,7,8]) U)<|lQ 2 U<|cQ<|gl U cy U<|rP 1 [] mn ?_
 refine RK C<|ar<|lP hQ [0] (mc 0 U mn) U ?_
 have E:=tP (l:=l) hk
 have F:=qv (l:=l) hk
 simp only [E,F]
theorem Bt (l:aX) (kA:OA) (kC:Nat) (az:List RA) (cA:OA) (cC:Nat) (bA:OA) (bC:Nat) (d:aw) (sgA:OA) (sgC:Nat) (hin:ew l az) (hsl:d.cv.ai.length≤1000000) (hk:d.Out=false∧d.eV=false):
 eB Tryz.prog 75 [(vA (bZ.cells (lJ l kA kC cA cC bA bC))),(vA (bq.cells (bq.mk d.Out d.eV d.Time (mh d.cv sgA sgC))))] [(rd fg 3 2 eu),(rd kA l.aL.length 9 (l.aL.map ak.cells)),(rd cA l.ah.length 2 (List.zipWith ao.cells l.ah az)),(e9 (aW ao.gP l.ah az)),(rd bA l.ae.length 4 (l.ae.map bE.cells)),(rd sgA d.cv.ai.length 2 (d.cv.ai.map aK.cells))] (vT [(vA (aa.cells (dE l d))),(vB (decide (gV l d)))]):=by
 refine bG kr Tryz.func75 U U fun AA Q hQ hN=>?_
 try dsimp only
 refine WS fun _ A=>gd U fun G=>gd U fun D=>AL U dv fun H=>bo 1 U<|RK A<|WS fun _ B=>rS (SX (EI U U z8) U U)<|rS (FU U)<|rS (CL (TF d sgA sgC D hk) (NR 3 8 1 U U U U U U) U)<|bo 1 U<|RK B<|aj fun _ C=>dH cx 9 kr<|lQ 1 U<|dS (SX (Ek (k:=2) U U U z8 U I) U U)<|dS (mW ((2*2)+1) U (aC 3 U) (Nat.mul_pos I dc) fw U)<|dS (gi 2 1 (Value.func (.func 221) [].toArray [].toArray) U cj (aC 3 U) (show eu[2]? =some [(Value.func (.func 220) [].toArray [].toArray),(Value.func (.func 221) [].toArray [].toArray)] from U) U dc U)<|mV 2 [0,1] (mc 2 U (mc 1 U mn)) U<|dS (CL (NX l kA kC az cA cC bA bC d sgA sgC hin hsl) (bp [4,5,6,7,8]) U)<|lQ 2 U<|cQ<|gl U cy U<|rP 1 [] mn ?_
 refine RK C<|ar<|lP hQ [0] (mc 0 U mn) U ?_
 have E:=rq (l:=l) hk
 have F:=qD (l:=l) hk
 simp only [E,F]
theorem D4 (l:aX) (kA:OA) (kC:Nat) (az:List RA) (cA:OA) (cC:Nat) (bA:OA) (bC:Nat) (d:aw) (sgA:OA) (sgC:Nat) (hin:ew l az) (hsl:d.cv.ai.length≤1000000):
 eB Tryz.prog 75 [(vA (bZ.cells (lJ l kA kC cA cC bA bC))),(vA (bq.cells (bq.mk d.Out d.eV d.Time (mh d.cv sgA sgC))))] [(rd fg 3 2 eu),(rd kA l.aL.length 9 (l.aL.map ak.cells)),(rd cA l.ah.length 2 (List.zipWith ao.cells l.ah az)),(e9 (aW ao.gP l.ah az)),(rd bA l.ae.length 4 (l.ae.map bE.cells)),(rd sgA d.cv.ai.length 2 (d.cv.ai.map aK.cells))] (vT [(vA (aa.cells (dE l d))),(vB (decide (gV l d)))]):=by
 by_cases ho:d.Out=true
 ·exact CY l kA kC az cA cC bA bC d sgA sgC hin hsl ho
 by_cases hf:d.eV=true
 ·exact Ds l kA kC az cA cC bA bC d sgA sgC hin hsl ⟨by simpa using ho,hf⟩
 ·exact Bt l kA kC az cA cC bA bC d sgA sgC hin hsl ⟨by simpa using ho,by simpa using hf⟩
end
section
open Go.RowKit
theorem MB (r:bY) (kA:OA) (kC:Nat) (az:List RA) (cA:OA) (cC:Nat) (bA:OA) (bC:Nat) (slA:OA) (slC:Nat) (drA:OA) (drC:Nat) (ha:List cK) (heA:OA) (heC:Nat) (tz:List RA) (tA:OA) (tC:Nat) (ms:Value) (gw h:Nat) (gm g1 g2:Nat) (hin:fp r az ha) (htz:tz.length=r.aq.length) (hh:h<r.aq.length) (hok:ks r (h+1)):
 DO Tryz.prog 78 [(vI (h:Int)),(vP g1),(vP g2)] [(rd kA r.an.aL.length 9 (r.an.aL.map ak.cells)),(rd cA r.an.ah.length 2 (List.zipWith ao.cells r.an.ah az)),(e9 (aW ao.gP r.an.ah az)),(rd bA r.an.ae.length 4 (r.an.ae.map bE.cells)),(rd slA r.aM.length 1 (r.aM.map iC)),(rd drA r.bK.length 1 (r.bK.map iC)),(rd heA r.aq.length 1 (List.zipWith cD r.aq ha)),(e9 (aW iy r.aq ha)),(rd tA ((cT r).length) 1 (List.zipWith E4 (cT r) tz)),(e9 (aW M1 (cT r) tz)),(cd gw 112 (gh.cells (gh.mk (oz r kA kC cA cC bA bC slA slC drA drC heA heC) (bj.mk tA ((cT r).length) tC) ms))),(cd g1 94 [(vP gw)]),(cd g2 40 [(Value.map (some gm))])] (iS iV gm (bW er (eE r.an r.aq r.aM.length h 0))) (fun (x:Unit)=>(vT [])) (fun (x:Unit)=>True) (fun (x:Unit)=>(iS iV gm (bW er (eE r.an r.aq r.aM.length (h+1) 0)))):=by
 have v:=hin.line
 have A3:=hin.iW
 have A4:=hin.has
 have AS:=hin.jd
 have AC:=hin.draw
 have Ao:=dQ (r:=r)
 refine mX kr Tryz.func78 U U fun w0 Q hQ hN=>?_
 try dsimp only
 refine WS fun _ g=>fY 1 [] (mr 12 U mn) U<|rS (SX (bP U U) U U)<|rP 3 [] (mr 11 U mn) ?_
 obtain ⟨ht,B⟩:=aJ r.aq h I
 obtain ⟨A,C⟩:=aJ ha h I
 have Z:(List.zipWith cD r.aq ha)[h]? =some (cD ht A):=dG B C
 have s:=hin.m8 _ _ _ B C
 have AO:=s.oo
 have N:=hok h ht I B
 obtain ⟨tr,G⟩:=aJ (cT r) h I
 obtain ⟨tra,F⟩:=aJ tz h I
 have c:(List.zipWith E4 (cT r) tz)[h]? =some (E4 tr tra):=dG G F
 refine rS (IA h U (aC 9 U) FG dc I I)<|rS (gi h 0 (vS tra.1 tr.length tra.2) U cj (aC 9 U) c U dc U) ?_
 have AB:=zP B G
 have A0:tr.length=r.aM.length:=by rw [AB,List.length_map]; exact N.1
 have Ap:=N.1
 refine rP 2 [] mn ?_
 refine RK g<|ax ?_
 have E:(0≤r.aM.length):=by exact Nat.zero_le _
 refine bL (ι:={z:Nat // (z≤r.aM.length)}) [0,1,2,14,15] [1,2,3,4,5,6,7,8,9,10,11,12,13] U U (fun z=>[(16,(vI (z.1:Int)))]) (fun z=>[(iS iV gm (bW er (eE r.an r.aq r.aM.length h z.1)))]) (fun _=>rfl) (fun _=>rfl) (fun z=>r.aM.length-z.1) ⟨0,E⟩ (aU U) (aG [1,2,3,4,5,6,7,8,9,10,11,12,13,0]) ?_
 clear E
 rintro ⟨i,u⟩ J2 K
 try dsimp only
 have a:i<r.aM.length→(eE r.an r.aq r.aM.length h i).lookup (i:Int)=fI r.an r.aq i h:=LB
 refine WS fun _ k=>rP 1 [] mn ?_
 refine RK k<|aj fun _ m=>bS U (aP fun h5=>?_) (aQ fun h5=>?_)
 ·refine bD<|ab<|ab<|ay ?_
  rw [show (eE r.an r.aq r.aM.length h i)=(eE r.an r.aq r.aM.length (h+1) 0) from by rw [show i=r.aM.length by omega]; exact NF]
  refine LM hN () 13 [] mn U U U U ?_
  trivial
 refine WK m<|aj fun _ L=>ax<|WS fun _ n=>rP 1 [] mn ?_
 obtain ⟨x,hx⟩:=aJ tr i I
 have y:=bO aa.cells hx
 refine rS (IA i U (show iA _ (rd tra.1 tr.length 2 (tr.map aa.cells)).holds from (dA 9 U (bM G F (by simp [M1])))) g4 dc I I)<|rS (oY i 0 (aa.cells x) U cj (show iA _ (rd tra.1 tr.length 2 (tr.map aa.cells)).holds from (dA 9 U (bM G F (by simp [M1])))) y U dc U U)<|AL U dv fun b8=>bo 1 U<|gl U cy U<|RK n<|WS fun _ o=>fY 2 [] (mr 13 U mn) U<|rS (SX (kX (kV:=iV) (x:=(i:Int)) (l:=(eE r.an r.aq r.aM.length h i)) (f:=er) (z:=(aa.mk 0 0)) U U U ot (eX qp) xy (by exact aC 14 U)) U U)<|bo 3 U<|AL U dv fun A1=>gl U cy U<|bo 1 U<|RK o<|aj fun _ P=>WS fun _ H=>fY 1 [] (mr 13 U mn) U<|rS (SX (bP U U) U U)<|fY 4 [] (mr 12 U mn) U<|rS (IA h U (aC 8 U) ou dc I I)<|rS (gi h 0 (vS A.1.1 ht.length A.1.2) U cj (aC 8 U) Z U dc U)<|rP 1 [] mn ?_
 obtain ⟨d,hd⟩:=aJ ht i I
 obtain ⟨da,p⟩:=aJ A.2 i I
 have q:(List.zipWith aw.cells ht A.2)[i]? =some (aw.cells d da):=dG hd p
 refine rS (IA i U (show iA _ (rd A.1.1 ht.length 7 (List.zipWith aw.cells ht A.2)).holds from (dA 9 U (bM B C cq))) ug dc I I)<|rS (mW (i*7) U (show iA _ (rd A.1.1 ht.length 7 (List.zipWith aw.cells ht A.2)).holds from (dA 9 U (bM B C cq))) (Nat.mul_pos I dc) fw U)<|rS (gi i 0 (vB d.Out) U cj (show iA _ (rd A.1.1 ht.length 7 (List.zipWith aw.cells ht A.2)).holds from (dA 9 U (bM B C cq))) q U dc U)<|rP 1 [] mn ?_
 refine dp (t:=39) U (fun J=>?_) (fun J=>?_)
 ·refine bo 3 U<|RK H<|aR U<|WS fun _ R=>rP 2 [] (mr 14 U mn) ?_
  have T:(cH (eE r.an r.aq r.aM.length h i) (i:Int))=(eE r.an r.aq r.aM.length h (i+1)):=by exact Gx (by exact Ip B hd J)
  refine pE (kV:=iV) (x:=(i:Int)) (C':=[_,_,_,_,_,_,_,_,_,_,_,_,_,_,_,(iS iV gm (bW er (eE r.an r.aq r.aM.length h (i+1))))]) 15 U U U U ot (eX qp) U ((l4 _ _ _).symm.trans (congrArg _ T)) U<|RK R<|bD<|ab<|ay<|KK L<|al<|rP 2 [] mn ?_
  refine aA ?_
  have AA:(vI (((i+1):Nat):Int))=(vI ((i:Int)+1)):=by exact cI I
  refine aV (K ⟨(i+1),(by first|omega|(simp only []; omega))⟩ _ _ _ U os (cU 5<|bk U AA<|dF.nil _) (aG [2,3,4,5,6,7,8,9,10,11,12,13,14,15]))
 refine rP 3 [] mn ?_
 refine RK H<|cP U (fun D=>?_) (fun D=>?_)
 ·rw [Bool.not_eq_true'] at D
  refine WS fun _ S=>rP 2 [] (mr 14 U mn) ?_
  have V:(cH (eE r.an r.aq r.aM.length h i) (i:Int))=(eE r.an r.aq r.aM.length h (i+1)):=by exact Gx (by exact E9 ((a I).symm.trans (Option.not_isSome_iff_eq_none.1 (by rw [D]; decide))))
  refine pE (kV:=iV) (x:=(i:Int)) (C':=[_,_,_,_,_,_,_,_,_,_,_,_,_,_,_,(iS iV gm (bW er (eE r.an r.aq r.aM.length h (i+1))))]) 15 U U U U ot (eX qp) U ((l4 _ _ _).symm.trans (congrArg _ V)) U<|RK S<|bD<|ab<|ay<|KK L<|al<|rP 2 [] mn ?_
  refine aA ?_
  have W:(vI (((i+1):Nat):Int))=(vI ((i:Int)+1)):=by exact cI I
  refine aV (K ⟨(i+1),(by first|omega|(simp only []; omega))⟩ _ _ _ U os (cU 5<|bk U W<|dF.nil _) (aG [2,3,4,5,6,7,8,9,10,11,12,13,14,15]))
 rw [Bool.not_eq_false'] at D
 refine WK P<|al ?_
 obtain ⟨O,b⟩:=Option.isSome_iff_exists.1 D
 have M:fI r.an r.aq i h=some O:=(a I).symm.trans b
 have e:=IG AB hx hd
 have A5:=Ag (fun j x hj hx=>hok j x I hx) I M
 have w:=AW (N.2 d (aT hd))
 rw [← e] at w
 rw [show ((List.lookup (i:Int) (eE r.an r.aq r.aM.length h i)).getD (aa.mk 0 0))=O from by rw [b]; rfl]
 refine fY 6 [0,1,2] (mr 14 U (mc 0 U (mc 1 U mn))) U<|rS (BI U (t_ I I I))<|fY 5 [0,1] (mc 0 U (mc 1 U mn)) U<|rS (BI U (t_ I I I))<|rP 1 [] mn ?_
 refine rS (SX (bh (xs:=[(0,.tmp 52),(1,.tmp 58)]) (cs:=(aa.cells (aa.mk (O.Lo+(x.Lo/10)) (O.Hi+(x.Hi/10))))) U U (bg gH U)) U U) ?_
 have X:(e8 (eE r.an r.aq r.aM.length h i) (i:Int) (aa.mk (O.Lo+(x.Lo/10)) (O.Hi+(x.Hi/10))))=(eE r.an r.aq r.aM.length h (i+1)):=by exact Nr I (by rw [M]; rfl) (by rw [e]; exact Fh B hd (by rw [J]; decide) M)
 refine ko (kV:=iV) (x:=(i:Int)) (C':=[_,_,_,_,_,_,_,_,_,_,_,_,_,_,_,(iS iV gm (bW er (eE r.an r.aq r.aM.length h (i+1))))]) 15 U U U U ot (eX qp) U ((iD _ _ _ _).symm.trans (congrArg _ X)) U<|aA<|aH<|KK L<|al<|rP 2 [] mn ?_
 refine aA ?_
 have Y:(vI (((i+1):Nat):Int))=(vI ((i:Int)+1)):=by exact cI I
 refine aV (K ⟨(i+1),(by first|omega|(simp only []; omega))⟩ _ _ _ U os (cU 5<|bk U Y<|dF.nil _) (aG [2,3,4,5,6,7,8,9,10,11,12,13,14,15]))
theorem Pn (r:bY) (kA:OA) (kC:Nat) (az:List RA) (cA:OA) (cC:Nat) (bA:OA) (bC:Nat) (slA:OA) (slC:Nat) (drA:OA) (drC:Nat) (ha:List cK) (heA:OA) (heC:Nat) (tz:List RA) (tA:OA) (tC:Nat) (ms:Value) (gw n:Nat) (hin:fp r az ha) (htz:tz.length=r.aq.length) (hn:n≤r.aq.length) (hok:ks r n):
 lB Tryz.prog 41 [(vP gw),(vI (n:Int))] [(rd kA r.an.aL.length 9 (r.an.aL.map ak.cells)),(rd cA r.an.ah.length 2 (List.zipWith ao.cells r.an.ah az)),(e9 (aW ao.gP r.an.ah az)),(rd bA r.an.ae.length 4 (r.an.ae.map bE.cells)),(rd slA r.aM.length 1 (r.aM.map iC)),(rd drA r.bK.length 1 (r.bK.map iC)),(rd heA r.aq.length 1 (List.zipWith cD r.aq ha)),(e9 (aW iy r.aq ha)),(rd tA ((cT r).length) 1 (List.zipWith E4 (cT r) tz)),(e9 (aW M1 (cT r) tz)),(cd gw 112 (gh.cells (gh.mk (oz r kA kC cA cC bA bC slA slC drA drC heA heC) (bj.mk tA ((cT r).length) tC) ms)))] (fun (x:Nat)=>(Value.map (some x))) (fun (x:Nat)=>True) (fun (x:Nat)=>[(iS iV x (bW er (eP r n)))]):=by
 have c:=hin.line
 have m:=hin.iW
 have o:=hin.has
 have e:=hin.jd
 have d:=hin.draw
 have f:=dQ (r:=r)
 refine di kr Tryz.func41 U U fun q Q hQ hN=>?_
 try dsimp only
 refine WS fun _ V=>uG U U fun k=>rP 1 [] mn ?_
 refine RK V<|WS fun _ W=>o_ (kV:=iV) U U fun B=>?_
 try dsimp only
 refine AL U RU fun l=>GZ U N5 U U<|RK W<|aj fun _ X=>WS fun _ Y=>fY 1 [] (mc 2 U mn) U<|rS (SX (bP U U) U U)<|rP 5 [] (mr 13 U mn) ?_
 refine RK Y<|ax ?_
 skip
 have A:(0≤r.aM.length):=by exact Nat.zero_le _
 refine bL (ι:={z:Nat // (z≤r.aM.length)}) [1,2,5,15] [0,2,3,4,5,6,7,8,9,10,11,12,13] U U (fun z=>[(16,(vI (z.1:Int)))]) (fun z=>[(iS iV B (bW er (eE r.an r.aq z.1 0 0)))]) (fun _=>rfl) (fun _=>rfl) (fun z=>r.aM.length-z.1) ⟨0,A⟩ (aU U) (aG [0,2,3,4,5,6,7,8,9,10,11,12,13,1]) ?_
 clear A
 rintro ⟨i,a⟩ J8 AA
 try dsimp only
 refine WS fun _ Z=>rP 1 [] mn ?_
 refine RK Z<|aj fun _ D=>cP U (aQ fun S=>?_) (aP fun S=>?_)
 ·refine WK D<|aj fun _ E=>ax<|WS fun _ F=>bo 2 U<|RK F<|al<|rP 2 [] (mc 0 U mn) ?_
  refine rS (SX (bh (xs:=[]) (cs:=(aa.cells (aa.mk 0 0))) U U (bg gH U)) U U) ?_
  have O:(e8 (eE r.an r.aq i 0 0) (i:Int) (aa.mk 0 0))=(eE r.an r.aq (i+1) 0 0):=by exact Oq
  refine ko (kV:=iV) (x:=(i:Int)) (C':=[_,_,_,_,_,_,_,_,_,_,_,_,_,(iS iV B (bW er (eE r.an r.aq (i+1) 0 0)))]) 13 U U U U ot (eX qp) U ((iD _ _ _ _).symm.trans (congrArg _ O)) U<|aA<|aH<|KK E<|al<|rP 2 [] mn ?_
  refine aA ?_
  have P:(vI (((i+1):Nat):Int))=(vI ((i:Int)+1)):=by exact cI I
  refine aV (AA ⟨(i+1),(by first|omega|(simp only []; omega))⟩ _ _ _ U os (cU 4<|bk U P<|dF.nil _) (aG [0,1,2,3,4,5,6,7,8,9,10,11,12,13]))
 refine bD<|ab<|ab<|ay<|KK X<|WS fun _ G=>rS (FU U)<|bo 1 U<|RK G<|aj fun _ H=>WS fun _ AB=>rP 2 [] mn ?_
 refine RK AB<|ax ?_
 rw [show (eE r.an r.aq i 0 0)=(eE r.an r.aq r.aM.length 0 0) from by rw [show i=r.aM.length by omega]]
 have A:(0≤n):=by exact Nat.zero_le _
 refine bL (ι:={z:Nat // (z≤n)}) [2,5,7,24] [0,1,2,3,4,5,6,7,8,9,10,11,12] U U (fun z=>[(25,(vI (z.1:Int)))]) (fun z=>[(iS iV B (bW er (eE r.an r.aq r.aM.length z.1 0)))]) (fun _=>rfl) (fun _=>rfl) (fun z=>n-z.1) ⟨0,A⟩ (aU U) (aG [0,1,2,3,4,5,6,7,8,9,10,11,12,13]) ?_
 clear A
 rintro ⟨h,b⟩ J19 C
 try dsimp only
 refine WS fun _ J=>rP 1 [] mn ?_
 refine RK J<|aj fun _ K=>bS U (aP fun T=>?_) (aQ fun T=>?_)
 ·refine bD<|ab<|ab<|ay<|KK H<|aj fun _ N=>?_
  rw [show (eE r.an r.aq r.aM.length h 0)=(eP r n) from by rw [show h=n by omega]; exact N0]
  refine al<|rP 2 [] (mc 0 U mn) ?_
  refine RK N<|ar<|LX hQ B [13] [] mn U U U U ?_
  trivial
 refine WK K<|aj fun _ L=>ax<|WS fun _ M=>bo 2 U<|RK M<|al<|rP 2 [] mn ?_
 refine jm 13 U U U U (MB r kA kC az cA cC bA bC slA slC drA drC ha heA heC tz tA tC ms gw h B k l hin htz I (by exact fun j x hj hx=>hok j x I hx)) U (eA 2 U U (dV (bV _)) (eA 3 U U (dV (bV _)) (eA 4 U U (dV (bV _)) (eA 5 U U (dV (bV _)) (eA 6 U U (dV (bV _)) (eA 7 U U (dV (bV _)) (eA 8 U U (dV (bV _)) (eA 9 U U (dV (bV _)) (eA 10 U U (dV (bV _)) (eA 11 U U (dV (bV _)) (eA 12 U U (dV (bV _)) (eA 1 U U (bV _) (eA 0 U U (bV _) kG))))))))))))) U (fun p g=>?_)
 try dsimp only
 refine aA<|aH<|KK L<|al<|rP 2 [] mn ?_
 refine aA ?_
 have R:(vI (((h+1):Nat):Int))=(vI ((h:Int)+1)):=by exact cI I
 refine aV (C ⟨(h+1),(by first|omega|(simp only []; omega))⟩ _ _ _ U os (cU 4<|bk U R<|dF.nil _) (aG [0,1,2,3,4,5,6,7,8,9,10,11,12,13]))
end
section
open Go.RowKit
theorem oG (r:bY) (kA:OA) (kC:Nat) (az:List RA) (cA:OA) (cC:Nat) (bA:OA) (bC:Nat) (slA:OA) (slC:Nat) (drA:OA) (drC:Nat) (ha:List cK) (heA:OA) (heC:Nat) (hin:fp r az ha):
 lB Tryz.prog 38 [(vA (cm.cells (oz r kA kC cA cC bA bC slA slC drA drC heA heC)))] [(rd fg 3 2 eu),(rd kA r.an.aL.length 9 (r.an.aL.map ak.cells)),(rd cA r.an.ah.length 2 (List.zipWith ao.cells r.an.ah az)),(e9 (aW ao.gP r.an.ah az)),(rd bA r.an.ae.length 4 (r.an.ae.map bE.cells)),(rd slA r.aM.length 1 (r.aM.map iC)),(rd drA r.bK.length 1 (r.bK.map iC)),(rd heA r.aq.length 1 (List.zipWith cD r.aq ha)),(e9 (aW iy r.aq ha))] (fun (x:Bool×Int×Nat×Nat×(OA)×Nat×(List RA))=>bif x.1 then (vT [(Value.pointer (some ⟨x.2.2.1,0,none⟩)),(vI 0)]) else (vT [(Value.pointer none),(vI x.2.1)])) (fun (x:Bool×Int×Nat×Nat×(OA)×Nat×(List RA))=>(x.1=true→(cM r=0∧x.2.2.2.2.2.2.length=r.aq.length))∧(x.1=false→(x.2.1=cM r∧ ¬ cM r=0))) (fun (x:Bool×Int×Nat×Nat×(OA)×Nat×(List RA))=>bif x.1 then [(cd x.2.2.1 112 (gh.cells (gh.mk (oz r kA kC cA cC bA bC slA slC drA drC heA heC) (bj.mk x.2.2.2.2.1 ((cT r).length) x.2.2.2.2.2.1) (Value.map (some x.2.2.2.1))))),(own x.2.2.2.2.1 x.2.2.2.2.2.1 109 1 (List.zipWith E4 (cT r) x.2.2.2.2.2.2)),(br (aW DM (cT r) x.2.2.2.2.2.2)),(iS iV x.2.2.2.1 (bW er (aF r)))] else []):=by
 have KU:=hin.line
 have M4:=hin.iW
 have NE:=hin.has
 have LL:=hin.jd
 have LA:=hin.draw
 have FS:=dQ (r:=r)
 refine di kr Tryz.func38 U U fun w0 Q hQ hN=>?_
 try dsimp only
 refine WS fun _ J2=>gd U fun b2=>bo 2 U<|RK J2<|aj fun _ J3=>WS fun _ J4=>bo 1 U<|rS (LP (bZ.cells (lJ r.an kA kC cA cC bA bC)) 0 U cj U U U)<|rS (CL (C5 r.an kA kC az cA cC bA bC asm) (bp [2,3,4,5]) U)<|bo 1 U<|RK J4<|WS fun _ J5=>rP 2 [] mn ?_
 refine RK J5<|cP U (bx fun B=>?_) (bw fun B=>?_)
 ·refine WS fun _ J6=>rP 3 [] mn ?_
  refine RK J6<|ar<|LX hQ (false,(dD r.an),0,0,none,0,[]) [] [] mn U (by rfl) U U ?_
  exact sf<|IJ (zM B) B
 refine WK J3<|WS fun _ J7=>fY 4 [] (mc 0 U mn) U<|RK J7<|WS fun _ J8=>rP 2 [] (mc 0 U mn) ?_
 refine cX (xh drA r.bK.length drC) (aI) U fun GE LT=>?_
 try dsimp only
 refine cX (wL r.bK drA drC GE asm) (bp [8,0]) U fun K8 La=>?_
 obtain ⟨Lk,M2⟩:=K8
 try dsimp only
 refine bo 1 U<|RK J8<|aj fun _ e=>WS fun _ H=>rP 1 [] mn ?_
 refine c_ (xs:=[.tmp 29]) (cs:=[(vI (r.aM.length:Int))]) U cL jA U U U U (by simp [Value.cells]) U U fun GT=>?_
 refine rS (CL (eB.eq (kx 1 5 ([(r.aM.length:Int)]) (some ⟨GT,0,none⟩) 1 (by (simp; done))) cZ) (au (aZ 0 U U (by simp [bI]) U)<|aI) U) ?_
 refine rP 2 [] mn ?_
 refine dp (t:=33) U (bx fun Hi=>?_) (bw fun Hi=>?_)
 ·refine bo 26 U<|RK H<|aR U<|WS fun _ f=>rP 2 [] mn ?_
  refine RK f<|ar<|LX hQ (false,60,0,0,none,0,[]) [] [] mn U (by rfl) U U ?_
  exact sf<|qb (kN B (fun q:fj r=>by have q1:=q.num; have q2:=q.xL; have q3:=q.nh; have q4:=q.yI; omega))
 refine rP 6 [] mn ?_
 refine dp (t:=39) U (bx fun H1=>?_) (bw fun H1=>?_)
 ·refine bo 20 U<|RK H<|aR U<|WS fun _ g=>rP 2 [] mn ?_
  refine RK g<|ar<|LX hQ (false,60,0,0,none,0,[]) [] [] mn U (by rfl) U U ?_
  exact sf<|qb (kN B (fun q:fj r=>by have q1:=q.num; have q2:=q.xL; have q3:=q.nh; have q4:=q.yI; omega))
 refine rP 2 [] (mc 3 U mn) ?_
 refine c_ (xs:=[.tmp 41]) (cs:=[(vI r.gX)]) U cL jA U U U U (by simp [Value.cells]) U U fun Gm=>?_
 refine rS (CL (eB.eq (kx 0 5 ([r.gX]) (some ⟨Gm,0,none⟩) 1 (by (simp; done))) cZ) (au (aZ 0 U U (by simp [bI]) U)<|aI) U) ?_
 refine rP 3 [] mn ?_
 refine dp (t:=46) U (bx fun IO=>?_) (bw fun IO=>?_)
 ·refine bo 13 U<|RK H<|aR U<|WS fun _ k=>rP 2 [] mn ?_
  refine RK k<|ar<|LX hQ (false,60,0,0,none,0,[]) [] [] mn U (by rfl) U U ?_
  exact sf<|qb (kN B (fun q:fj r=>by have q1:=q.num; have q2:=q.xL; have q3:=q.nh; have q4:=q.yI; omega))
 refine rP 3 [] (mc 4 U mn) ?_
 refine c_ (xs:=[.tmp 49]) (cs:=[(vI (r.aq.length:Int))]) U cL jA U U U U (by simp [Value.cells]) U U fun Go=>?_
 refine rS (CL (eB.eq (kx 1 3 ([(r.aq.length:Int)]) (some ⟨Go,0,none⟩) 1 (by (simp; done))) cZ) (au (aZ 0 U U (by simp [bI]) U)<|aI) U) ?_
 refine rP 3 [] mn ?_
 refine dp (t:=54) U (bx fun IR=>?_) (bw fun IR=>?_)
 ·refine bo 5 U<|RK H<|aR U<|WS fun _ l=>rP 2 [] mn ?_
  refine RK l<|ar<|LX hQ (false,60,0,0,none,0,[]) [] [] mn U (by rfl) U U ?_
  exact sf<|qb (kN B (fun q:fj r=>by have q1:=q.num; have q2:=q.xL; have q3:=q.nh; have q4:=q.yI; omega))
 refine fY 2 [] (mc 5 U mn) U<|rS (CL (kx 0 9999 r.aM slA slC asm) (bp [11]) U)<|rP 2 [] mn ?_
 refine RK H<|cP U (fun N=>?_) (fun N=>?_)
 ·rw [Bool.not_eq_true'] at N
  refine WS fun _ m=>rP 2 [] mn ?_
  refine RK m<|ar<|LX hQ (false,60,0,0,none,0,[]) [] [] mn U (by rfl) U U ?_
  exact sf<|qb (kN B (fun q:fj r=>by exact absurd (q.ins.symm.trans N) dc))
 rw [Bool.not_eq_false'] at N
 refine WK e<|aj fun _ o=>WS fun _ p=>?_
 have Ne:(dB r.bK).length=r.aM.length:=by rw [gI]; omega
 refine rP 2 [] mn ?_
 refine RK p<|ax ?_
 have A:(0≤r.aM.length)∧(rW r 0):=by exact ⟨Nat.zero_le _,DR⟩
 refine bL (ι:={z:Nat // (z≤r.aM.length)∧(rW r z)}) [1,5,6,60] [3,5,6,7,8,9,10,11,12,13,14] U U (fun z=>[(61,(vI (z.1:Int)))]) (fun z=>[]) (fun _=>rfl) (fun _=>rfl) (fun z=>r.aM.length-z.1) ⟨0,A⟩ (aU U) (aG [3,5,6,7,8,9,10,11,12,13,14]) ?_
 clear A
 rintro ⟨i,⟨KT,J⟩⟩ J28 V
 try dsimp only
 refine WS fun _ s=>rP 1 [] mn ?_
 refine RK s<|aj fun _ w=>cP U (aQ fun If=>?_) (aP fun If=>?_)
 ·refine WK w<|aj fun _ W=>ax<|WS fun _ AC=>bo 2 U<|RK AC<|aj fun _ O=>dH cx 24 kr<|dP 2 [] mn ?_
  obtain ⟨x,hx⟩:=aJ (dB r.bK) i I
  have KX:=bO iC hx
  refine dS (IA i U (ag (n:=r.bK.length) 0 U sq) cL dc I I) ?_
  refine dS (gi i 0 (vI x) U cj (ag (n:=(dB r.bK).length) 0 U sm) KX U dc U)<|dP 3 [] mn ?_
  refine js (t:=70) U (bx fun S=>?_) (bw fun S=>?_)
  ·refine lQ 17 U<|cQ<|RK O<|aR U<|WS fun _ AO=>rP 2 [] mn ?_
   refine RK AO<|ar<|LX hQ (false,60,0,0,none,0,[]) [] [] mn U (by rfl) U U ?_
   exact sf<|qb (kN B (fun q:fj r=>by exact absurd (q.drawn hx) S))
  refine dP 3 [] mn ?_
  refine jl (t:=73) U (aP fun In=>?_) (aQ fun In=>?_)
  ·refine lQ 14 U<|cQ<|RK O<|a_ U<|cr<|aH<|KK W<|al<|rP 2 [] mn ?_
   refine aA ?_
   have DL:(vI (((i+1):Nat):Int))=(vI ((i:Int)+1)):=by exact cI I
   refine aV (V ⟨(i+1),⟨I,yb J hx S (fun u v hu hv hw=>by omega)⟩⟩ _ _ _ U os (cU 4<|bk U DL<|dF.nil _) (aG [0,1,2,3,4,5,6,7,8,9,10]))
  refine dP 3 [] (mc 1 U mn) ?_
  obtain ⟨y,hy⟩:=aJ r.aM i I
  have KY:=bO iC hy
  refine dS (IA i U (aC 7 U) cL dc I I)<|dS (gi i 0 (vI y) U cj (aC 7 U) KY U dc U)<|dP 4 [] (mc 1 U mn) ?_
  obtain ⟨z,hz⟩:=aJ r.aM (i-1) I
  have Kc:=bO iC hz
  refine dS (IA (i-1) U (aC 7 U) cL dc I I)<|dS (gi (i-1) 0 (vI z) U cj (aC 7 U) Kc U dc U)<|dP 3 [] mn ?_
  refine cQ<|RK O<|bS U (aP fun I0=>?_) (aQ fun I0=>?_)
  ·refine cr<|aH<|KK W<|al<|rP 2 [] mn ?_
   refine aA ?_
   have C3:(vI (((i+1):Nat):Int))=(vI ((i:Int)+1)):=by exact cI I
   refine aV (V ⟨(i+1),⟨I,yb J hx S (fun u v hu hv hw=>by (rw [hy] at hu; cases hu; rw [hz] at hw; cases hw; omega))⟩⟩ _ _ _ rfl os (cU 4<|bk rfl C3<|dF.nil _) (aG [0,1,2,3,4,5,6,7,8,9,10]))
  refine WS fun _ AS=>rP 2 [] mn ?_
  refine RK AS<|ar<|LX hQ (false,60,0,0,none,0,[]) [] [] mn U (by rfl) U U ?_
  exact sf<|qb (kN B (fun q:fj r=>by have q1:=(q.ids i y hy).2 z I hz; omega))
 refine bD<|ab<|ab<|ay<|KK o<|WS fun _ Ao=>fY 1 [] (mc 1 U mn) U<|rS (SX (bh (xs:=[(0,.tmp 89)]) (cs:=(gh.cells (gh.mk (oz r kA kC cA cC bA bC slA slC drA drC heA heC) (bj.mk none 0 0) (Value.map none)))) U U (bg Sh U)) U U)<|gd U fun L=>bo 1 U<|RK Ao<|aj fun _ A0=>WS fun _ A1=>rP 4 [] (mc 2 U mn) ?_
 refine RK A1<|ax<|gr 109 1<|lV ?_
 have A:(0≤r.aq.length)∧(([]:List RA).length=0)∧(ks r 0):=by exact ⟨Nat.zero_le _,rfl,yv⟩
 refine bL (ι:={z:Nat×(List RA)×(OA)×Nat // (z.1≤r.aq.length)∧(z.2.1.length=z.1)∧(ks r z.1)}) [1,5,8,93,94] [3,4,5,6,7,8,9,10,11,12,13] U U (fun z=>[(95,(vI (z.1.1:Int)))]) (fun z=>[(br (aW DM (gQ r z.1.1) z.1.2.1)),(own z.1.2.2.1 z.1.2.2.2 109 1 (List.map sC (List.zipWith Dj (gQ r z.1.1) z.1.2.1))),(cd L 112 (gh.cells (gh.mk (oz r kA kC cA cC bA bC slA slC drA drC heA heC) (bj.mk z.1.2.2.1 ((List.zipWith Dj (gQ r z.1.1) z.1.2.1).length) z.1.2.2.2) (Value.map none))))]) (fun _=>rfl) (fun _=>rfl) (fun z=>r.aq.length-z.1.1) ⟨(0,([]:List RA),none,0),A⟩ (aU U) (aG [3,4,5,6,7,8,9,10,11,12,13,0,1,2]) ?_
 clear A
 rintro ⟨⟨h,tz,a,c⟩,⟨T,C,E⟩⟩ J42 Z
 try dsimp only at T C E
 try dsimp only
 refine WS fun _ A2=>rP 1 [] mn ?_
 refine RK A2<|aj fun _ A3=>bS U (aP fun I4=>?_) (aQ fun I4=>?_)
 ·refine bD<|ab<|ab<|ay<|KK A0<|aj fun _ C1=>?_
  have KR:gQ r h=cT r:=by unfold cT; rw [show h=r.aq.length by omega]
  have FT:tz.length=r.aq.length:=by omega
  rw [KR,yQ,show (List.zipWith Dj (cT r) tz).length=(cT r).length from by rw [List.length_zipWith]; omega]
  have X:fj r:=K_ (n:=i) I I I I I N J E I
  refine al<|rP 5 [] (mc 1 U mn) ?_
  refine cX (Pn r kA kC az cA cC bA bC slA slC drA drC ha heA heC tz a c (Value.map none) L r.aq.length hin asm I (by exact X.Ap)) (l5 [3,4,5,6,7,8,9,10]<|au (ag (n:=(cT r).length) 12 U (np (by rw [FS]; exact FT)))<|au (cY 11 U tJ)<|fP 13 U U<|aI) U fun K Li=>?_
  try dsimp only
  refine rS (SX (bP U U) U U)<|rP 1 [] mn ?_
  refine jG (vs:=[(Value.map (some K))]) (cs':=(gh.cells (gh.mk (oz r kA kC cA cC bA bC slA slC drA drC heA heC) (bj.mk a ((cT r).length) c) (Value.map (some K))))) (C':=[_,_,_,_,_,_,_,_,_,_,_,_,_,_,(cd L 112 (gh.cells (gh.mk (oz r kA kC cA cC bA bC slA slC drA drC heA heC) (bj.mk a ((cT r).length) c) (Value.map (some K)))))]) 14 U U U N5 U U U U U U U<|RK C1<|aj fun _ C2=>?_
  rw [show eP r r.aq.length=aF r from rfl]
  refine al<|rP 3 [] mn ?_
  refine RK C2<|ar ?_
  refine LX hQ (true,0,L,K,a,c,tz) [14,13,12,0] [] mn U (by (show List.all _ _=true; simp only [cond_true,fE,List.all_nil,w5,Bool.and_true]; rfl)) U U ?_
  exact ⟨fun _=>⟨Cz B X,FT⟩,OD⟩
 refine WK A3<|aj fun _ A4=>ax<|WS fun _ A5=>?_
 obtain ⟨ht,D⟩:=aJ r.aq h I
 obtain ⟨G,AB⟩:=aJ ha h I
 have FR:(List.zipWith cD r.aq ha)[h]? =some (cD ht G):=dG D AB
 refine rS (IA h U (aC 9 U) ou dc I I)<|rS (gi h 0 (vS G.1.1 ht.length G.1.2) U cj (aC 9 U) FR U dc U)<|rP 1 [] mn ?_
 refine RK A5<|aj fun _ A6=>WS fun _ A7=>?_
 have Eq:=hin.m8 _ _ _ D AB
 have LE:=Eq.oo
 refine rP 4 [] mn ?_
 refine RK A7<|cP U (bx fun Y=>?_) (bw fun Y=>?_)
 ·refine WS fun _ A8=>rP 2 [] mn ?_
  refine RK A8<|ar<|LX hQ (false,60,0,0,none,0,[]) [] [] mn U (by rfl) U U ?_
  exact sf<|qb (kN B (fun q:fj r=>by have q1:=(q.m8 ht (aT D)).1; omega))
 refine WK A6<|WS fun _ A9=>bo 1 U<|RK A9<|aj fun _ Bm=>WS fun _ B3=>rP 3 [] mn ?_
 refine RK B3<|ax<|gr 45 2 ?_
 have A:(0≤ht.length)∧(oy r.an ht 0):=by exact ⟨Nat.zero_le _,vY⟩
 refine bL (ι:={z:Nat×(OA)×Nat // (z.1≤ht.length)∧(oy r.an ht z.1)}) [1,5,8,10,93,94,95,103,104] [1,2,3,4,5,6,7,8,9,10,11,12,13,14] U U (fun z=>[(11,(vS z.1.2.1 (((ht.take z.1.1).map (dE r.an)).length) z.1.2.2)),(105,(vI (z.1.1:Int)))]) (fun z=>[(own z.1.2.1 z.1.2.2 45 2 (((ht.take z.1.1).map (dE r.an)).map aa.cells))]) (fun _=>rfl) (fun _=>rfl) (fun z=>ht.length-z.1.1) ⟨(0,none,0),A⟩ (aU U) (aG [1,2,3,4,5,6,7,8,9,10,11,12,13,14,0]) ?_
 clear A
 rintro ⟨⟨j,la,lc⟩,⟨AA,F⟩⟩ J53 b
 try dsimp only at AA F
 try dsimp only
 refine WS fun _ B7=>rP 1 [] mn ?_
 refine RK B7<|aj fun _ B9=>bS U (aP fun Id=>?_) (aQ fun Id=>?_)
 ·refine bD<|ab<|ab<|ay<|KK Bm<|al<|bo 2 U<|rS (SX (bP U U) U U)<|rP 2 [] (mc 13 U mn) ?_
  rw [show ((ht.take j).map (dE r.an))=ht.map (dE r.an) from by rw [List.take_of_length_le I]]
  refine rP 1 [] mn ?_
  refine c_ (xs:=[.tmp 128]) (cs:=[(vS la ((ht.map (dE r.an)).length) lc)]) U FG Pq U U U U (by simp [Value.cells]) U U fun L3=>?_
  refine ck (es2:=(List.map sC (List.zipWith Dj (gQ r (h+1)) (tz++[(la,lc)])))) (m':=(List.zipWith Dj (gQ r (h+1)) (tz++[(la,lc)])).length) 13 U U U PE U U sm (aZ (es:=List.map sC [(bj.mk la ((ht.map (dE r.an)).length) lc)]) 0 U U (by simp [zB]) U) (Ke _) (by rw [List.length_zipWith,kU I]; omega) (by rw [List.length_zipWith,kU I]; simp only [maxLen]; omega) (by rw [tD D C,List.map_append]; rfl) (by rw [tD D C]; simp) U fun P R=>?_
  try dsimp only
  refine rS (SX (bP U U) U U)<|bo 1 U<|jG (vs:=[(vS P ((List.zipWith Dj (gQ r (h+1)) (tz++[(la,lc)])).length) R)]) (cs':=(gh.cells (gh.mk (oz r kA kC cA cC bA bC slA slC drA drC heA heC) (bj.mk P ((List.zipWith Dj (gQ r (h+1)) (tz++[(la,lc)])).length) R) (Value.map none)))) (C':=[_,_,_,_,_,_,_,_,_,_,_,_,_,_,(cd L 112 (gh.cells (gh.mk (oz r kA kC cA cC bA bC slA slC drA drC heA heC) (bj.mk P ((List.zipWith Dj (gQ r (h+1)) (tz++[(la,lc)])).length) R) (Value.map none)))),_]) 14 U U U Ss U U U U U U U<|aA<|aH<|KK A4<|al<|rP 2 [] mn ?_
  refine aA<|zA (X':=aW DM (gQ r (h+1)) (tz++[(la,lc)])) 12 15 U U (Co (a:=(la,lc)) D C) ?_
  have Do:(vI (((h+1):Nat):Int))=(vI ((h:Int)+1)):=by exact cI I
  refine aV (Z ⟨((h+1),(tz++[(la,lc)]),P,R),⟨I,by simp; omega,yr E D (GL I F I)⟩⟩ _ _ _ U os (cU 5<|bk U Do<|dF.nil _) (aG [2,3,4,5,6,7,8,9,10,11,12,0,13,14]))
 refine WK B9<|aj fun _ Ca=>ax<|WS fun _ Ci=>?_
 obtain ⟨d,hd⟩:=aJ ht j I
 obtain ⟨da,EQ⟩:=aJ G.2 j I
 have J9:(List.zipWith aw.cells ht G.2)[j]? =some (aw.cells d da):=dG hd EQ
 refine rS (IA j U (show iA _ (rd G.1.1 ht.length 7 (List.zipWith aw.cells ht G.2)).holds from (dA 10 U (bM D AB cq))) ug dc I I)<|rS (oY j 0 (bq.cells (bq.mk d.Out d.eV d.Time (d_.mk d.cv.Start d.cv.gp (bj.mk da.1 d.cv.ai.length da.2)))) U cj (show iA _ (rd G.1.1 ht.length 7 (List.zipWith aw.cells ht G.2)).holds from (dA 10 U (bM D AB cq))) J9 U dc U U)<|AL U Ns fun Lo=>gl U Ri U<|RK Ci<|WS fun _ Ck=>bo 1 U<|rS (LP (bZ.cells (lJ r.an kA kC cA cC bA bC)) 2 U cj U U U)<|rP 1 [] (mc 0 U mn) ?_
 have Nx:=Eq.sig d (aT hd)
 refine rS (CL (D4 r.an kA kC az cA cC bA bC d da.1 da.2 asm asm) (l5 [3,4,5,6,7]<|au (show iA _ (rd da.1 d.cv.ai.length 2 (d.cv.ai.map aK.cells)).holds from (dA 11 U (bM D AB (cV _ (bM hd EQ (by simp [aw.gP]))))))<|aI) U)<|bo 3 U<|AL U dv fun L0=>gl U cy U<|bo 1 U<|RK Ck<|aj fun _ Cp=>WS fun _ Cx=>rP 2 [] mn ?_
 refine RK Cx<|bS U (bw fun M=>?_) (bx fun M=>?_)
 ·refine WK Cp<|al<|rP 2 [] (mc 0 U mn) ?_
  refine c_ (xs:=[.tmp 119]) (cs:=(aa.cells (dE r.an d))) U g4 dv U U U U (by simp [Value.cells,aa.aS]) U U fun L2=>?_
  refine ck (es2:=(List.map aa.cells ((ht.take (j+1)).map (dE r.an)))) (m':=((ht.take (j+1)).map (dE r.an)).length) 17 U U U w4 U U sm (aZ (es:=List.map aa.cells [(dE r.an d)]) 0 U U (by simp [aa.aS]) U) (ia _) (by simp only [List.length_map,List.length_take]; omega) (by simp only [maxLen,List.length_map,List.length_take]; omega) (by rw [List.take_add_one,hd]; simp) sq U fun Fn Hc=>?_
  try dsimp only
  refine bo 1 U<|aA<|aH<|KK Ca<|al<|rP 2 [] mn ?_
  refine aA ?_
  have Di:(vI (((j+1):Nat):Int))=(vI ((j:Int)+1)):=by exact cI I
  refine aV (b ⟨((j+1),Fn,Hc),⟨I,vy F hd M⟩⟩ _ _ _ U os (cU 10<|bk U Di<|dF.nil _) (aG [3,4,5,6,7,8,9,10,11,12,13,14,15,16,17]))
 refine WS fun _ C0=>rP 2 [] mn ?_
 refine RK C0<|ar<|LX hQ (false,60,0,0,none,0,[]) [] [] mn U (by rfl) U U ?_
 exact sf<|qb (kN B (fun q:fj r=>by exact M ((q.m8 ht (aT D)).2 d (aT hd))))
end
section
open Go.RowKit
theorem EN (l:List Int) (lA:OA) (lC:Nat) (hlen:l.length=1):
 DO Tryz.prog 81 [(vS lA 1 lC)] [] (own lA lC 3 1 (l.map iC)) (fun (x:Unit)=>(vS lA 1 lC)) (fun (x:Unit)=>True) (fun (x:Unit)=>(own lA lC 3 1 (l.map iC))):=by
 refine mX kr Tryz.func81 U U fun E Q hQ hN=>?_
 try dsimp only
 refine WS fun _ A=>bo 1 U<|RK A<|aj fun _ D=>WS fun _ B=>bo 2 U<|rS (SX (cb (r:= .bool true) U U U hU) U U)<|RK B<|aR U<|WS fun _ C=>rP 2 [] mn ?_
 refine RK C<|ar<|LM hQ () 0 [] mn U U U U ?_
 trivial
theorem El (l:List Int) (lA:OA) (lC:Nat) (hlen:l.length=2):
 DO Tryz.prog 81 [(vS lA 2 lC)] [] (own lA lC 3 1 (l.map iC)) (fun (x:(List Int))=>(vS lA (JJ l) lC)) (fun (x:(List Int))=>True) (fun (x:(List Int))=>(own lA lC 3 1 (x.map iC))):=by
 refine mX kr Tryz.func81 U U fun c Q hQ hN=>?_
 try dsimp only
 refine WS fun _ M=>bo 1 U<|RK M<|aj fun _ N=>WS fun _ O=>bo 2 U<|rS (SX (cb (r:= .bool false) U U U hU) U U)<|RK O<|a_ U<|WK N<|aj fun _ P=>WS fun _ R=>bo 1 U<|RK R<|ax<|kj 3<|eH fun R6 V=>aj fun _ S=>WS fun _ T=>bo 3 U<|rS (SX (cb (r:= .bool true) U U U hU) U U)<|RK T<|aR U<|WK S<|aj fun _ AA=>ax<|aj fun _ B=>dH cx 10 kr<|dP 2 [] mn ?_
 obtain ⟨x,hx⟩:=aJ l 1 I
 have W:=bO iC hx
 refine dS (IA 1 U (ag (n:=2) 0 U sq) cL dc U I) ?_
 refine dS (gi 1 0 (vI x) U cj (ag (n:=l.length) 0 U sm) W U dc U)<|dP 2 [] mn ?_
 refine dS (SX (cb (r:= .int .i64 0) U U U (su ⟨dc,dc⟩)) U U) ?_
 obtain ⟨y,hy⟩:=aJ l 0 I
 have X:=bO iC hy
 refine dS (IA 0 U (ag (n:=2) 0 U sq) cL dc U I) ?_
 refine dS (gi 0 0 (vI y) U cj (ag (n:=l.length) 0 U sm) X U dc U)<|dP 1 [] mn ?_
 refine cQ<|RK B<|bS U (aP fun A=>?_) (aQ fun A=>?_)
 ·refine cr<|aH<|KK AA<|al<|bo 1 U<|rS (SX (cb (r:= .int .i64 2) U U U (iG ⟨dc,dc⟩)) U U)<|bo 1 U<|RK V<|eH fun R19 b=>aj fun _ Z=>WS fun _ AB=>bo 3 U<|rS (SX (cb (r:= .bool false) U U U hU) U U)<|RK AB<|a_ U<|bD<|ab<|ab<|ay<|KK P<|WS fun _ J=>rP 2 [] mn ?_
  refine RK J<|ar ?_
  refine LM hQ l 0 [] mn U U U ?_ ?_
  ·(rw [Cd hlen hy hx A,hlen]; rfl)
  ·trivial
 refine WS fun _ C=>rP 2 [] mn ?_
 refine rS (UU 1 U cL U os) ?_
 refine bo 1 U<|RK C<|aj fun _ D=>WS fun _ E=>bo 1 U<|RK E<|ax<|kj 2<|eH fun R14 a=>aj fun _ Y=>WS fun _ F=>rP 4 [] mn ?_
 refine RK F<|cP U (aQ fun L=>?_) (aP fun L=>?_)
 ·exfalso; omega
 refine bD<|ab<|ab<|ay<|KK D<|WS fun _ G=>rP 2 [] mn ?_
 refine rS (UU 1 U cL U os) ?_
 refine OC (k:=1) 0 rfl rfl pw (by intro v hv; simp [Value.cells] at hv; subst hv; rfl) rfl os I ?_
 try dsimp only
 rw [show (own lA lC 3 1 ((l.map iC).take 1))=(own lA lC 3 1 ((l.take 1).map iC)) from by rw [List.map_take]]
 refine RK G<|WS fun _ H=>JZ 0 U fun K=>?_
 simp only [List.length_map,List.length_take] at K
 refine bo 2 U<|rS (UB 1 U cL U I)<|rP 1 [] mn ?_
 refine RK H<|ar ?_
 refine LM hQ (l.take 1) 0 [] mn U U U ?_ ?_
 ·(rw [yY hlen hy hx A]; rfl)
 ·trivial
end
section
open Go.RowKit
theorem zF (r:bY) (kA:OA) (kC:Nat) (az:List RA) (cA:OA) (cC:Nat) (bA:OA) (bC:Nat) (slA:OA) (slC:Nat) (drA:OA) (drC:Nat) (ha:List cK) (heA:OA) (heC:Nat) (a:Int) (gq:Nat) (hin:fp r az ha):
 lB Tryz.prog 49 [(vA (cm.cells (oz r kA kC cA cC bA bC slA slC drA drC heA heC))),(vS (some ⟨gq,0,none⟩) 1 1)] [(rd fg 3 2 eu),(rd kA r.an.aL.length 9 (r.an.aL.map ak.cells)),(rd cA r.an.ah.length 2 (List.zipWith ao.cells r.an.ah az)),(e9 (aW ao.gP r.an.ah az)),(rd bA r.an.ae.length 4 (r.an.ae.map bE.cells)),(rd slA r.aM.length 1 (r.aM.map iC)),(rd drA r.bK.length 1 (r.bK.map iC)),(rd heA r.aq.length 1 (List.zipWith cD r.aq ha)),(e9 (aW iy r.aq ha)),(cd gq 3 [(vI a)])] (fun (x:Bool×Int×Nat×Nat×(OA)×Nat×(List RA)×(OA)×Nat)=>bif x.1 then (vT [(Value.pointer (some ⟨x.2.2.1,0,none⟩)),(vS x.2.2.2.2.2.2.2.1 1 x.2.2.2.2.2.2.2.2),(vI 0)]) else (vT [(Value.pointer none),(vS none 0 0),(vI x.2.1)])) (fun (x:Bool×Int×Nat×Nat×(OA)×Nat×(List RA)×(OA)×Nat)=>(x.1=true→(jR r a=0∧x.2.2.2.2.2.2.1.length=r.aq.length))∧(x.1=false→(x.2.1=jR r a∧ ¬ jR r a=0))) (fun (x:Bool×Int×Nat×Nat×(OA)×Nat×(List RA)×(OA)×Nat)=>bif x.1 then [(cd x.2.2.1 112 (gh.cells (gh.mk (oz r kA kC cA cC bA bC slA slC drA drC heA heC) (bj.mk x.2.2.2.2.1 ((cT r).length) x.2.2.2.2.2.1) (Value.map (some x.2.2.2.1))))),(own x.2.2.2.2.1 x.2.2.2.2.2.1 109 1 (List.zipWith E4 (cT r) x.2.2.2.2.2.2.1)),(br (aW DM (cT r) x.2.2.2.2.2.2.1)),(iS iV x.2.2.2.1 (bW er (aF r))),(own x.2.2.2.2.2.2.2.1 x.2.2.2.2.2.2.2.2 45 2 ([(aD (aF r) a)].map aa.cells))] else []):=by
 have y:=hin.line
 have A7:=hin.iW
 have A8:=hin.has
 have A0:=hin.jd
 have Ap:=hin.draw
 have g:=dQ (r:=r)
 refine di kr Tryz.func49 U U fun w0 Q hQ hN=>?_
 try dsimp only
 refine WS fun _ w=>gd U fun b2=>bo 3 U<|RK w<|WS fun _ N=>rP 1 [] (mc 0 U mn) ?_
 refine cX (oG r kA kC az cA cC bA bC slA slC drA drC ha heA heC hin) (bp [1,2,3,4,5,6,7,8,9]) U fun y4 j=>?_
 obtain ⟨k,A6,F,E,m,B,C⟩:=y4
 cases k
 ·obtain ⟨e,he⟩:=j.2 rfl
  try dsimp only at e he
  subst e
  try dsimp only [cond_true,cond_false,List.cons_append,List.nil_append]
  refine bo 5 U<|RK N<|aj fun _ AO=>WS fun _ H=>rP 2 [] mn ?_
  refine RK H<|bS U (bw fun G=>?_) (bx fun G=>?_)
  ·exact absurd G he
  refine WS fun _ AB=>rP 4 [] mn ?_
  refine RK AB<|ar<|LX hQ (false,(cM r),0,0,none,0,[],none,0) [] [] mn U (by rfl) U U ?_
  exact sf<|IJ (Kz (i:=a) he) he
 obtain ⟨he,h⟩:=j.1 rfl
 try dsimp only [cond_true,cond_false,List.cons_append,List.nil_append]
 refine bo 5 U<|RK N<|aj fun _ J=>WS fun _ K=>bo 1 U<|rS (SX (cb (r:= .bool false) U U U nK) U U)<|RK K<|a_ U<|WK J<|aj fun _ L=>WS fun _ A=>rP 2 [] mn ?_
 refine rS (CL (eB.eq (Bf r kA kC az cA cC bA bC slA slC drA drC ha heA heC C m B (Value.map (some E)) F ([a]) (some ⟨gq,0,none⟩) 1 hin (by (simp; done))) cZ) (l5 [6,7,8,9,10,11,12,13]<|au (ag (n:=(cT r).length) 1 U (np (by rw [g]; exact h)))<|au (cY 2 U tJ)<|fP 0 U U<|au (oM 14 U U (by simp [bI]) U)<|aI) U) ?_
 refine rP 2 [] mn ?_
 refine dp (t:=26) U (bx fun v=>?_) (bw fun v=>?_)
 ·refine bo 3 U<|bo 4 U<|bo 2 U<|RK A<|aR U<|WS fun _ M=>rP 3 [] mn ?_
  refine RK M<|ar<|LX hQ (false,2,0,0,none,0,[],none,0) [] [] mn U (by rfl) U U ?_
  exact sf<|qb (Jb (i:=a) he I)
 refine rP 1 [] mn ?_
 refine cX (xh (some ⟨gq,0,none⟩) 1 1) (aI) U fun q A1=>?_
 try dsimp only
 refine cX (wL ([a]) (some ⟨gq,0,none⟩) 1 q (by (simp; done))) (au (oM 15 U U (by simp [bI]) U)<|fP 0 U U<|aI) U fun AC A2=>?_
 obtain ⟨o,s⟩:=AC
 try dsimp only
 try dsimp only
 refine jm 0 U U U U (EN (dB ([a])) o s (by (simp; done))) U kG U (fun A9 A3=>?_)
 try dsimp only
 refine bo 3 U<|rS (SX (cb (r:= .bool false) U U U hU) U U)<|bo 1 U<|RK A<|a_ U<|WK L<|WS fun _ O=>bo 1 U<|RK O<|aj fun _ P=>WS fun _ R=>bo 3 U<|RK R<|ax<|kj 2<|eH fun R33 d=>WS fun _ S=>rS (SX (cb (r:= .bool true) U U U hU) U U)<|RK S<|aj fun _ T=>aR U<|WK T<|aj fun _ AA=>ax<|WS fun _ V=>rS (UD 0 0 U cL U dc U)<|fY 2 [] (mr 16 U mn) U<|RK V<|WS fun _ W=>bo 1 U<|rS (SX (bP U U) U U)<|fY 3 [] (mc 2 U mn) U<|rS (SX (kX (kV:=iV) (x:=a) (l:=(aF r)) (f:=er) (z:=(aa.mk 0 0)) U U U ot (eX qp) xy (by exact aC 5 U)) U U)<|bo 3 U<|AL U dv fun A4=>gl U cy U<|rP 1 [] mn ?_
 refine RK W<|aj fun _ X=>WS fun _ Y=>?_
 rw [show ((List.lookup a (aF r)).getD (aa.mk 0 0))=(aD (aF r) a) from rfl]
 refine rP 2 [] mn ?_
 refine RK Y<|cP U (fun D=>?_) (fun D=>?_)
 ·rw [Bool.not_eq_true'] at D
  refine WS fun _ Z=>rP 3 [] mn ?_
  refine RK Z<|ar<|LX hQ (false,6,0,0,none,0,[],none,0) [] [] mn U (by rfl) U U ?_
  exact sf<|qb (uY (i:=a) he I asm)
 rw [Bool.not_eq_false'] at D
 refine WK X<|al<|rP 2 [] (mc 0 U mn) ?_
 refine c_ (xs:=[.tmp 54]) (cs:=(aa.cells (aD (aF r) a))) U g4 dv U U U U (by simp [Value.cells,aa.aS]) U U fun A5=>ed 45 2<|ck (es2:=(List.map aa.cells ([(aD (aF r) a)]))) (m':=([(aD (aF r) a)]).length) 0 U U U w4 U U sm (aZ (es:=List.map aa.cells [(aD (aF r) a)]) 1 U U (by simp [aa.aS]) U) (ia _) sm (by simp [maxLen]) sm sm U fun p u=>?_
 try dsimp only
 refine bo 1 U<|aA<|aH<|KK AA<|al<|rS (SX (cb (r:= .int .i64 1) U U U (iG ⟨dc,dc⟩)) U U)<|bo 1 U<|RK d<|eH fun R46 Ao=>WS fun _ b=>rS (SX (cb (r:= .bool false) U U U hU) U U)<|RK b<|aj fun _ AS=>a_ U<|bD<|ab<|ab<|ay<|KK P<|WS fun _ c=>rP 5 [] mn ?_
 refine RK c<|ar ?_
 refine LX hQ (true,0,F,E,m,B,C,p,u) [5,6,7,8,0] [] mn U (by (show List.all _ _=true; simp only [cond_true,fE,List.all_nil,w5,Bool.and_true]; rfl)) U U ?_
 exact ⟨fun _=>⟨OP he I asm,h⟩,OD⟩
end
section
open Go.RowKit
theorem zr (r:bY) (kA:OA) (kC:Nat) (az:List RA) (cA:OA) (cC:Nat) (bA:OA) (bC:Nat) (slA:OA) (slC:Nat) (drA:OA) (drC:Nat) (ha:List cK) (heA:OA) (heC:Nat) (a b:Int) (gq:Nat) (hin:fp r az ha):
 lB Tryz.prog 49 [(vA (cm.cells (oz r kA kC cA cC bA bC slA slC drA drC heA heC))),(vS (some ⟨gq,0,none⟩) 2 2)] [(rd fg 3 2 eu),(rd kA r.an.aL.length 9 (r.an.aL.map ak.cells)),(rd cA r.an.ah.length 2 (List.zipWith ao.cells r.an.ah az)),(e9 (aW ao.gP r.an.ah az)),(rd bA r.an.ae.length 4 (r.an.ae.map bE.cells)),(rd slA r.aM.length 1 (r.aM.map iC)),(rd drA r.bK.length 1 (r.bK.map iC)),(rd heA r.aq.length 1 (List.zipWith cD r.aq ha)),(e9 (aW iy r.aq ha)),(cd gq 3 [(vI a),(vI b)])] (fun (x:Bool×Int×Nat×Nat×(OA)×Nat×(List RA)×(OA)×Nat)=>bif x.1 then (vT [(Value.pointer (some ⟨x.2.2.1,0,none⟩)),(vS x.2.2.2.2.2.2.2.1 2 x.2.2.2.2.2.2.2.2),(vI 0)]) else (vT [(Value.pointer none),(vS none 0 0),(vI x.2.1)])) (fun (x:Bool×Int×Nat×Nat×(OA)×Nat×(List RA)×(OA)×Nat)=>(x.1=true→(n7 r a b=0∧x.2.2.2.2.2.2.1.length=r.aq.length))∧(x.1=false→(x.2.1=n7 r a b∧ ¬ n7 r a b=0))) (fun (x:Bool×Int×Nat×Nat×(OA)×Nat×(List RA)×(OA)×Nat)=>bif x.1 then [(cd x.2.2.1 112 (gh.cells (gh.mk (oz r kA kC cA cC bA bC slA slC drA drC heA heC) (bj.mk x.2.2.2.2.1 ((cT r).length) x.2.2.2.2.2.1) (Value.map (some x.2.2.2.1))))),(own x.2.2.2.2.1 x.2.2.2.2.2.1 109 1 (List.zipWith E4 (cT r) x.2.2.2.2.2.2.1)),(br (aW DM (cT r) x.2.2.2.2.2.2.1)),(iS iV x.2.2.2.1 (bW er (aF r))),(own x.2.2.2.2.2.2.2.1 x.2.2.2.2.2.2.2.2 45 2 ([(aD (aF r) a),(aD (aF r) b)].map aa.cells))] else []):=by
 have A5:=hin.line
 have DL:=hin.iW
 have Di:=hin.has
 have B3:=hin.jd
 have Bm:=hin.draw
 have v:=dQ (r:=r)
 refine di kr Tryz.func49 U U fun w0 Q hQ hN=>?_
 try dsimp only
 refine WS fun _ A4=>gd U fun b2=>bo 3 U<|RK A4<|WS fun _ N=>rP 1 [] (mc 0 U mn) ?_
 refine cX (oG r kA kC az cA cC bA bC slA slC drA drC ha heA heC hin) (bp [1,2,3,4,5,6,7,8,9]) U fun y4 y=>?_
 obtain ⟨AC,C2,F,E,AO,C,D⟩:=y4
 cases AC
 ·obtain ⟨u,he⟩:=y.2 rfl
  try dsimp only at u he
  subst u
  try dsimp only [cond_true,cond_false,List.cons_append,List.nil_append]
  refine bo 5 U<|RK N<|aj fun _ A7=>WS fun _ H=>rP 2 [] mn ?_
  refine RK H<|bS U (bw fun G=>?_) (bx fun G=>?_)
  ·exact absurd G he
  refine WS fun _ AB=>rP 4 [] mn ?_
  refine RK AB<|ar<|LX hQ (false,(cM r),0,0,none,0,[],none,0) [] [] mn U (by rfl) U U ?_
  exact sf<|IJ (Jd (a:=a) (b:=b) he) he
 obtain ⟨he,w⟩:=y.1 rfl
 try dsimp only [cond_true,cond_false,List.cons_append,List.nil_append]
 refine bo 5 U<|RK N<|aj fun _ J=>WS fun _ K=>bo 1 U<|rS (SX (cb (r:= .bool false) U U U nK) U U)<|RK K<|a_ U<|WK J<|aj fun _ L=>WS fun _ B=>rP 2 [] mn ?_
 refine rS (CL (eB.eq (Bf r kA kC az cA cC bA bC slA slC drA drC ha heA heC D AO C (Value.map (some E)) F ([a,b]) (some ⟨gq,0,none⟩) 2 hin (by (simp; done))) rG) (l5 [6,7,8,9,10,11,12,13]<|au (ag (n:=(cT r).length) 1 U (np (by rw [v]; exact w)))<|au (cY 2 U tJ)<|fP 0 U U<|au (oM 14 U U (by simp [bI]) U)<|aI) U) ?_
 refine rP 2 [] mn ?_
 refine dp (t:=26) U (bx fun A2=>?_) (bw fun A2=>?_)
 ·refine bo 3 U<|bo 4 U<|bo 2 U<|RK B<|aR U<|WS fun _ M=>rP 3 [] mn ?_
  refine RK M<|ar<|LX hQ (false,2,0,0,none,0,[],none,0) [] [] mn U (by rfl) U U ?_
  exact sf<|qb (CP (a:=a) (b:=b) he I)
 refine rP 1 [] mn ?_
 refine cX (xh (some ⟨gq,0,none⟩) 2 2) (aI) U fun Ap B7=>?_
 try dsimp only
 refine cX (wL ([a,b]) (some ⟨gq,0,none⟩) 2 Ap (by (simp; done))) (au (oM 15 U U (by simp [bI]) U)<|fP 0 U U<|aI) U fun A6 B9=>?_
 obtain ⟨AS,A0⟩:=A6
 try dsimp only
 try dsimp only
 refine jm 0 U U U U (El (dB ([a,b])) AS A0 (by (simp; done))) U kG U (fun Do Ca=>?_)
 try dsimp only
 refine rP 3 [] mn ?_
 have C3:=Mx a b
 refine rP 2 [] mn ?_
 refine RK B<|cP U (aQ fun A3=>?_) (aP fun A3=>?_)
 ·refine WS fun _ O=>rP 3 [] mn ?_
  refine RK O<|ar<|LX hQ (false,2,0,0,none,0,[],none,0) [] [] mn U (by rfl) U U ?_
  exact sf<|qb (CP (a:=a) (b:=b) he I)
 refine WK L<|WS fun _ P=>bo 1 U<|RK P<|aj fun _ R=>WS fun _ S=>bo 3 U<|RK S<|ax<|kj 3<|eH fun R35 q=>WS fun _ T=>rS (SX (cb (r:= .bool true) U U U hU) U U)<|RK T<|aj fun _ AA=>aR U<|WK AA<|aj fun _ V=>ax<|WS fun _ W=>rS (UD 0 0 U cL U dc U)<|fY 2 [] (mr 16 U mn) U<|RK W<|WS fun _ X=>bo 1 U<|rS (SX (bP U U) U U)<|fY 3 [] (mc 2 U mn) U<|rS (SX (kX (kV:=iV) (x:=a) (l:=(aF r)) (f:=er) (z:=(aa.mk 0 0)) U U U ot (eX qp) xy (by exact aC 5 U)) U U)<|bo 3 U<|AL U dv fun Ck=>gl U cy U<|rP 1 [] mn ?_
 refine RK X<|aj fun _ Y=>WS fun _ Z=>?_
 rw [show ((List.lookup a (aF r)).getD (aa.mk 0 0))=(aD (aF r) a) from rfl]
 refine rP 2 [] mn ?_
 refine RK Z<|cP U (fun A=>?_) (fun A=>?_)
 ·rw [Bool.not_eq_true'] at A
  refine WS fun _ c=>rP 3 [] mn ?_
  refine RK c<|ar<|LX hQ (false,6,0,0,none,0,[],none,0) [] [] mn U (by rfl) U U ?_
  exact sf<|qb (zO (a:=a) (b:=b) he I (by exact .inl asm))
 rw [Bool.not_eq_false'] at A
 refine WK Y<|al<|rP 2 [] (mc 0 U mn) ?_
 refine c_ (xs:=[.tmp 54]) (cs:=(aa.cells (aD (aF r) a))) U g4 dv U U U U (by simp [Value.cells,aa.aS]) U U fun Cp=>ed 45 2<|ck (es2:=(List.map aa.cells ([(aD (aF r) a)]))) (m':=([(aD (aF r) a)]).length) 0 U U U w4 U U sm (aZ (es:=List.map aa.cells [(aD (aF r) a)]) 1 U U (by simp [aa.aS]) U) (ia _) sm (by simp [maxLen]) sm sm U fun Ci C1=>?_
 try dsimp only
 refine bo 1 U<|aA<|aH<|KK V<|al<|rS (SX (cb (r:= .int .i64 1) U U U (iG ⟨dc,dc⟩)) U U)<|bo 1 U<|RK q<|eH fun R48 s=>WS fun _ d=>rS (SX (cb (r:= .bool true) U U U hU) U U)<|RK d<|aj fun _ e=>aR U<|WK e<|aj fun _ g=>ax<|WS fun _ h=>rS (UD 1 1 U cL U dc U)<|fY 2 [] (mr 19 U mn) U<|RK h<|WS fun _ i=>bo 1 U<|rS (SX (bP U U) U U)<|fY 3 [] (mc 5 U mn) U<|rS (SX (kX (kV:=iV) (x:=b) (l:=(aF r)) (f:=er) (z:=(aa.mk 0 0)) U U U ot (eX qp) xy (by exact aC 8 U)) U U)<|bo 3 U<|AL U dv fun Cx=>gl U cy U<|rP 1 [] mn ?_
 refine RK i<|aj fun _ j=>WS fun _ k=>?_
 rw [show ((List.lookup b (aF r)).getD (aa.mk 0 0))=(aD (aF r) b) from rfl]
 refine rP 2 [] mn ?_
 refine RK k<|cP U (fun A=>?_) (fun A=>?_)
 ·rw [Bool.not_eq_true'] at A
  refine WS fun _ m=>rP 3 [] mn ?_
  refine RK m<|ar<|LX hQ (false,6,0,0,none,0,[],none,0) [] [] mn U (by rfl) U U ?_
  exact sf<|qb (zO (a:=a) (b:=b) he I (by exact .inr asm))
 rw [Bool.not_eq_false'] at A
 refine WK j<|al<|rP 2 [] (mc 0 U mn) ?_
 refine c_ (xs:=[.tmp 54]) (cs:=(aa.cells (aD (aF r) b))) U g4 dv U U U U (by simp [Value.cells,aa.aS]) U U fun C0=>ck (es2:=(List.map aa.cells ([(aD (aF r) a),(aD (aF r) b)]))) (m':=([(aD (aF r) a),(aD (aF r) b)]).length) 2 U U U w4 U U sm (aZ (es:=List.map aa.cells [(aD (aF r) b)]) 0 U U (by simp [aa.aS]) U) (ia _) sm (by simp [maxLen]) sm sm U fun Ao A1=>?_
 try dsimp only
 refine bo 1 U<|aA<|aH<|KK g<|al<|rS (SX (cb (r:= .int .i64 2) U U U (iG ⟨dc,dc⟩)) U U)<|bo 1 U<|RK s<|eH fun R61 A9=>WS fun _ o=>rS (SX (cb (r:= .bool false) U U U hU) U U)<|RK o<|aj fun _ A8=>a_ U<|bD<|ab<|ab<|ay<|KK R<|WS fun _ p=>rP 5 [] mn ?_
 refine RK p<|ar ?_
 refine LX hQ (true,0,F,E,AO,C,D,Ao,A1) [7,8,9,10,2] [] mn U (by (show List.all _ _=true; simp only [cond_true,fE,List.all_nil,w5,Bool.and_true]; rfl)) U U ?_
 exact ⟨fun _=>⟨NW he I asm asm,w⟩,OD⟩
end
section
open Go.RowKit
theorem Ka (m:q7) (gm g1:Nat):
 EG Tryz.prog 119 [] [(vP g1)] [(iS iV gm (bW vB m)),(cd g1 47 [(Value.map (some gm))])] ([]:List Int) (fun ys x ys'=> ∃ n zs,(ys++[n]++zs).Perm (m.map (·.1))∧x=[vI n]∧ys'=ys++[n]) (fun ys=>ys.Perm (m.map (·.1))):=by
 refine tG kr Tryz.func119 U U fun l J Z A0 S Q hY M L hQ hN=>?_
 try dsimp only
 refine WS fun _ O=>rP 1 [] (mr 2 U mn) ?_
 refine j4 (kV:=iV) (m:=bW vB m) 1 U U BW U ⟨U,fun h=>h⟩ (by exact lH 1 U) U fun V=>?_
 try dsimp only
 refine RK O<|ax ?_
 have G:(oW m m ([]:List Int))∧(∀ p∈m,p∈m)∧(J ([]:List Int) A0)∧(Fo A0 S A0):=by exact ⟨vJ,fun p hp=>hp,M,L⟩
 refine bL (ι:={z:q7×(List Int)×av // (oW m z.1 z.2.1)∧(∀ p∈z.1,p∈m)∧(J z.2.1 z.2.2)∧(Fo A0 S z.2.2)}) [0,1,5] [2,3] U U (fun z=>[]) (fun z=>[(yX iV V gm (bW vB m) (bW vB z.1.1) none),z.1.2.2]) (fun _=>rfl) (fun _=>rfl) (fun z=>z.1.1.length) ⟨(m,([]:List Int),A0),G⟩ (dF.nil _) (aG [2,3,0,1]) ?_
 clear G
 rintro ⟨⟨left,ys,A⟩,⟨B,H,C,D⟩⟩ J3 N
 try dsimp only at B H C D
 try dsimp only
 refine WS fun _ AB=>jC (eX qp).inj (f:=Value.bool) 2 U U U U (fun T=>?_) (fun x y hm hn=>?_)
 ·refine rP 1 [] mn ?_
  refine RK AB<|aj fun _ AA=>a_ U<|bD<|ab<|ab<|ay ?_
  refine hN _ _ _ (ik (vs:=[]) trivial fun w hs=>Kl 3 U (by rw [T] at B; exact yf B) C D hs)
 try dsimp only
 refine bo 1 U<|RK AB<|aj fun _ P=>aR U<|WK P<|ax<|WS fun _ R=>rS (SX (jz 2 U U U) U U)<|bo 2 U<|RK R<|WS fun _ K=>rP 2 [] mn ?_
 refine kS (k:=ys) (k':=(ys++[(x)])) 3 (by first|exact hsz|exact Nat.le_refl _) hY C D U U U (by exact ⟨x,_,oT hn hm B,U,U⟩) U U (fun B9 F E=>?_) (fun B9 F E=>?_)
 rotate_left 1
 ·refine rP 1 [] mn ?_
  refine RK K<|aR U<|ar ?_
  refine hQ _ _ _ (ik (vs:=[]) trivial fun w hs=>sL 3 U F E hs)
 refine rP 1 [] mn ?_
 refine RK K<|a_ U<|cr<|aH<|ib 2 U fR U ?_
 refine aV (N ⟨((cH left x),(ys++[(x)]),B9),⟨oT hn hm B,gu H,F,E⟩⟩ _ _ _ U (fh hm) (aU U) (aG [0,1,2,3]))
theorem NC (gm:Nat):
 lB Tryz.prog 84 [(Value.map (some gm))] [] (fun (x:Nat)=>(Value.func (.func 119) [].toArray [(vP x)].toArray)) (fun (x:Nat)=>True) (fun (x:Nat)=>[(cd x 47 [(Value.map (some gm))])]):=by
 refine di kr Tryz.func84 U U fun D Q hQ hN=>?_
 try dsimp only
 refine WS fun _ A=>uG U U fun C=>bo 1 U<|RK A<|WS fun _ B=>rS (FU U)<|rP 1 [] mn ?_
 refine RK B<|ar<|LX hQ C [0] [] mn U U U U ?_
 trivial
end
section
open Go.RowKit
theorem H8 (m:q7) (gm g1:Nat) (hlen:m.length≤12):
 lB Tryz.prog 120 [(vS none 0 0),(Value.func (.func 119) [].toArray [(vP g1)].toArray)] [(iS iV gm (bW vB m)),(cd g1 47 [(Value.map (some gm))])] (fun (x:(List Int)×(OA)×Nat)=>(vS x.2.1 x.1.length x.2.2)) (fun (x:(List Int)×(OA)×Nat)=>x.1.Perm (m.map (·.1))) (fun (x:(List Int)×(OA)×Nat)=>[(own x.2.1 x.2.2 3 1 (x.1.map iC))]):=by
 refine di kr Tryz.func120 U U fun X Q hQ hN=>?_
 try dsimp only
 refine WS fun _ AB=>uG U U fun N=>bo 1 U<|RK AB<|aj fun _ J=>WS fun _ K=>rP 1 [] mn ?_
 refine RK K<|ax<|kR 1 U (by exact fun _ h=>h)<|kR 3 U (by exact fun _ h=>h)<|gr 3 1 ?_
 refine nJ (L0:=[(2,(vP N))]) (F:=[(iS iV gm (bW vB m)).ro,(cd g1 47 [(Value.map (some gm))]).ro]) (fun k (y:(OA)×Nat)=>(∃ zs,(k++zs).Perm (m.map (·.1)))) (fun k y=>[(own y.1 y.2 3 1 (k.map iC)),(cd N 29 [(vS y.1 k.length y.2)]),(iS iV gm (bW vB m)).ro]) (fun _ (_:Unit)=>False) (fun _ _=>[]) [0,3,4] [2,1] (none,0) rfl rfl (Ka m gm g1) rfl rfl rfl (by exact ⟨_,List.Perm.refl _⟩) (by simp only [List.forall_mem_cons,List.not_mem_nil,false_imp_iff,implies_true,and_true]; exact ⟨⟨_,sm,(dV (bV _))⟩,⟨_,sm,(dV (bV _))⟩⟩) (by rintro k x AA ⟨n,zs,_,rfl,_⟩; rfl) rfl (aU rfl) ?_ ?_ (fun _ _ _ h=>h.elim) (fun _ _ h=>h.elim)
 rotate_left 1
 ·rintro V k ⟨a,c⟩ E A
  have B:=A
  try dsimp only at B
  try dsimp only
  refine aH<|KK J<|WS fun _ C=>rP 2 [] (mc 4 U mn) ?_
  refine RK C<|ar<|hQ _ _ _ (o0 0 U U<|ik (vs:=[(vS a k.length c)]) ⟨U,trivial⟩ fun w hs=>JO (k,a,c) [3] ?_ ?_ U U U hs)
  ·rfl
  ·first|exact E|exact hys
 rintro k x AA ⟨a,c⟩ l ra rb S Y K5 Qr6 T hx G L D O P
 obtain ⟨n,zs,hn,rfl,rfl⟩:=hx; have M:=hn.length_eq; simp only [List.length_append,List.length_map,List.length_singleton] at M
 have B:=G
 try dsimp only at B
 try dsimp only
 refine al<|rP 1 [] mn ?_
 refine aA<|aV (L _ _ ?_)
 refine ax<|al<|rP 2 [] (mc 2 U mn) ?_
 refine c_ (xs:=[.tmp 9]) (cs:=[(vI n)]) U cL jA U U U U (by simp [Value.cells]) U U fun W=>?_
 refine ck (es2:=(List.map iC (k++[n]))) (m':=(k++[n]).length) 2 U U U pw U U sm (aZ (es:=List.map iC [n]) 0 U U (by simp [bI]) U) (jP _) os (by simp only [maxLen]; omega) sm sm U fun R H=>?_
 try dsimp only
 refine Vx U xN U U<|aA<|aH ?_
 exact D (R,H) _ _ (by exact ⟨_,hn⟩) (aG [1,2,3,4])
end
section
open Go.RowKit
theorem DY (m:q7) (gm g1:Nat) (hlen:m.length≤12):
 lB Tryz.prog 85 [(Value.func (.func 119) [].toArray [(vP g1)].toArray)] [(iS iV gm (bW vB m)),(cd g1 47 [(Value.map (some gm))])] (fun (x:(List Int)×(OA)×Nat)=>(vS x.2.1 x.1.length x.2.2)) (fun (x:(List Int)×(OA)×Nat)=>x.1.Perm (m.map (·.1))) (fun (x:(List Int)×(OA)×Nat)=>[(own x.2.1 x.2.2 3 1 (x.1.map iC))]):=by
 refine di kr Tryz.func85 U U fun AA Q hQ hN=>?_
 try dsimp only
 refine WS fun _ A=>bo 1 U<|RK A<|WS fun _ B=>rP 1 [] mn ?_
 refine cX (H8 m gm g1 hlen) (bp [0,1]) U fun H C=>?_
 obtain ⟨E,F,G⟩:=H
 try dsimp only
 have D:=C
 refine rP 1 [] mn ?_
 refine RK B<|ar<|LX hQ (E,F,G) [0] [] mn U U U U ?_
 first|exact hfin|exact D
theorem Ik (m:q7) (gm g1:Nat) (hlen:m.length≤12):
 lB Tryz.prog 51 [(Value.func (.func 119) [].toArray [(vP g1)].toArray)] [(iS iV gm (bW vB m)),(cd g1 47 [(Value.map (some gm))])] (fun (x:(OA)×Nat)=>(vS x.1 m.length x.2)) (fun (x:(OA)×Nat)=>True) (fun (x:(OA)×Nat)=>[(own x.1 x.2 3 1 ((dB (m.map (·.1))).map iC))]):=by
 refine di kr Tryz.func51 U U fun M Q hQ hN=>?_
 try dsimp only
 refine WS fun _ E=>bo 1 U<|RK E<|WS fun _ F=>rP 1 [] mn ?_
 refine cX (DY m gm g1 hlen) (bp [0,1]) U fun L H=>?_
 obtain ⟨AA,J,K⟩:=L
 try dsimp only
 have D:=H
 refine bo 1 U<|RK F<|WS fun _ G=>rP 1 [] mn ?_
 have B:=D.length_eq
 simp only [List.length_map] at B
 refine jm 0 U U U U (Ac AA J K I) U kG U (fun ms C=>?_)
 try dsimp only
 refine RK G<|WS fun _ A=>?_
 obtain rfl:=qs (C.1.trans D) C.2
 skip
 refine rP 2 [] mn ?_
 refine RK A<|ar ?_
 refine LX hQ (J,K) [0] [] mn U U U ?_ ?_
 ·first|rfl|(rw [B]; rfl)
 ·trivial
end
section
open Go.RowKit
theorem JQ (m:q7) (gm:Nat):
 lB Tryz.prog 82 [(Value.map (some gm))] [(iS iV gm (bW vB m))] (fun (x:Nat)=>(Value.map (some x))) (fun (x:Nat)=>True) (fun (x:Nat)=>[(iS iV x (bW vB m))]):=by
 refine di US Tryz.func82 U U fun F Q hQ hN=>?_
 try dsimp only
 refine WS fun _ A=>bo 1 U<|RK A<|aj fun _ B=>WS fun _ C=>bo 1 U<|rS (SX (cb (r:= .bool false) U U U (P5 BW)) U U)<|RK C<|a_ U<|WK B<|WS fun _ D=>rP 1 [] mn ?_
 refine rS (SX (Nq U U BW) U U)<|IM (kV:=iV) (fn:=Tryz.f117) U U Tryz.func117 U U U kr (by exact lH 0 U) U fun E=>?_
 try dsimp only
 refine rS (SX (RM U U BW) U U)<|rP 1 [] mn ?_
 refine RK D<|ar<|LX hQ E [0] [] mn U U U U ?_
 trivial
end
section
open Go.RowKit
theorem HN (r:bY) (kA:OA) (kC:Nat) (cA:OA) (cC:Nat) (bA:OA) (bC:Nat) (slA:OA) (slC:Nat) (drA:OA) (drC:Nat) (heA:OA) (heC:Nat) (tA:OA) (tN tC:Nat) (gs gw:Nat) (m:g_) (i:Int) (g1 g2:Nat) (hb: ∀ p∈m,0≤p.2.Lo∧p.2.Lo≤p.2.Hi∧p.2.Hi≤30000000):
 EG Tryz.prog 118 [] [(vP g1),(vP g2)] [(cd gw 112 (gh.cells (gh.mk (oz r kA kC cA cC bA bC slA slC drA drC heA heC) (bj.mk tA tN tC) (Value.map (some gs))))),(iS iV gs (bW er m)),(cd g1 94 [(vP gw)]),(cd g2 3 [(vI i)])] ([]:List Int) (fun ys x ys'=> ∃ n,n∈(jU m i (aD m i))∧x=[vI n]∧ys'=ys++[n]) (fun ys=> ∀ n,n∈ys↔n∈(jU m i (aD m i))):=by
 have K8:=g8 (i:=i) hb
 refine tG kr Tryz.func118 U U fun l J Z A0 w0 Q hY Gm GT hQ hN=>?_
 try dsimp only
 refine aj fun _ Go=>dK cx [6,7] [] [] [0,1,2,3,4] [] U U U U U<|eS U (UE 3 U cj U)<|eS U (SX (bP U U) U U)<|eS U (FA 12 U fw U)<|eS U (ID (Value.map (some gs)) 1 U cj U U)<|eS U (UE 4 U cj U)<|eS U (SX (lg (kV:=iV) (x:=i) (l:=m) (f:=er) (z:=(aa.mk 0 0)) U U U ot (eX qp) xy (by exact lH 2 U)) U U)<|eT U<|cf U fun T2 H1=>AL U dv fun b3=>aA (H1 _ _ (aG [1,2,3,4,5]) ?_)
 refine cf U fun T4 IO=>gl U cy U<|aA (IO _ _ (aG [1,2,3,4,5]) ?_)
 refine fO U<|KK Go<|aj fun _ Hc=>WS fun _ B9=>?_
 rw [show ((List.lookup i m).getD (aa.mk 0 0))=(aD m i) from rfl]
 refine rP 3 [] (mc 0 U mn) ?_
 refine kS (k:=([]:List Int)) (k':=(([]:List Int)++[((aD m i).Lo)])) 1 (by first|exact hsz|exact Nat.le_refl _) hY Gm GT U U U (by exact ⟨_,cq ..,U,U⟩) U U (fun B7 u s=>?_) (fun B7 u s=>?_)
 rotate_left 1
 ·refine rP 1 [] mn ?_
  refine RK B9<|aR U<|ar ?_
  refine hQ _ _ _ (ik (vs:=[]) trivial fun w hs=>sL 1 U u s hs)
 refine bo 1 U<|RK B9<|a_ U<|WK Hc<|WS fun _ AC=>fY 1 [] (mr 4 U mn) U<|rS (SX (bP U U) U U)<|rP 2 [] (mr 2 U mn) ?_
 refine j4 (kV:=iV) (m:=bW er m) 3 U U ot U ⟨U,fun h=>h⟩ (by exact lH 3 U) U fun Id=>?_
 try dsimp only
 refine RK AC<|ax ?_
 have j:(zG m i (aD m i) m (([]:List Int)++[((aD m i).Lo)]))∧(∀ p∈m,p∈m)∧(J (([]:List Int)++[((aD m i).Lo)]) B7)∧(Fo A0 w0 B7):=by exact ⟨Jc,fun p hp=>hp,asm,asm⟩
 refine bL (ι:={z:g_×(List Int)×av // (zG m i (aD m i) z.1 z.2.1)∧(∀ p∈z.1,p∈m)∧(J z.2.1 z.2.2)∧(Fo A0 w0 z.2.2)}) [0,1,2,4,24] [1,3,4,5,6] U U (fun z=>[]) (fun z=>[(yX iV Id gs (bW er m) (bW er z.1.1) none),z.1.2.2]) (fun _=>rfl) (fun _=>rfl) (fun z=>z.1.1.length) ⟨(m,(([]:List Int)++[((aD m i).Lo)]),B7),j⟩ (dF.nil _) (aG [1,3,4,5,6,0,2]) ?_
 clear j
 rintro ⟨⟨left,ys,A⟩,⟨D,B,E,F⟩⟩ J12 G
 try dsimp only at D B E F
 try dsimp only
 refine WS fun _ o=>jC (eX qp).inj (f:=er) 5 U U U U (fun q=>?_) (fun x y hm hn=>?_)
 ·refine rP 1 [] mn ?_
  refine RK o<|aj fun _ If=>a_ U<|bD<|ab<|ab<|ay ?_
  refine hN _ _ _ (ik (vs:=[]) trivial fun w hs=>Kl 6 U (by rw [q] at D; exact OY D) E F hs)
 try dsimp only
 refine bo 1 U<|RK o<|aj fun _ AO=>aR U<|WK AO<|ax<|WS fun _ AS=>rS (SX (jz 5 U U U) U U)<|bo 2 U<|AL U dv fun K5=>bo 1 U<|gl U cy U<|RK AS<|WS fun _ Ao=>rP 1 [] mn ?_
 have IR:=hb _ (B _ hm)
 dsimp only at IR
 refine fY 5 [] (mc 0 U mn) U<|rS (SX (bh (xs:=[(0,.tmp 32),(1,.tmp 35)]) (cs:=[(vI (y.Lo+1)),(vI (y.Hi+1))]) U U (bg Tc U)) U U)<|bo 1 U<|RK Ao<|ax<|kj 3<|eH fun R19 c=>WS fun _ Ap=>rS (SX (cb (r:= .bool true) U U U hU) U U)<|RK Ap<|aj fun _ A1=>aR U<|WK A1<|aj fun _ X=>ax<|WS fun _ A2=>rS (SX (rO (v:=(vI (y.Lo+1))) 0 U U U Gn cj U dc U) U U)<|bo 1 U<|RK A2<|WS fun _ M=>rP 4 [] (mr 5 U mn) ?_
 refine cu (t:=43) U (bw fun q=>?_) (bx fun q=>?_)
 ·refine bo 14 U<|RK M<|a_ U<|cr<|aH<|KK X<|al<|rS (SX (cb (r:= .int .i64 1) U U U (iG ⟨dc,dc⟩)) U U)<|bo 1 U<|RK c<|eH fun R73 g=>WS fun _ Cp=>rS (SX (cb (r:= .bool true) U U U hU) U U)<|RK Cp<|aj fun _ Cx=>aR U<|WK Cx<|aj fun _ b=>ax<|WS fun _ C0=>rS (SX (rO (v:=(vI (y.Hi+1))) 1 U U U Gn cj U dc U) U U)<|bo 1 U<|RK C0<|WS fun _ P=>rP 4 [] (mr 5 U mn) ?_
  refine cu (t:=43) U (bw fun Fn=>?_) (bx fun Fn=>?_)
  ·refine bo 14 U<|RK P<|a_ U<|cr<|aH<|KK b<|al<|rS (SX (cb (r:= .int .i64 2) U U U (iG ⟨dc,dc⟩)) U U)<|rP 1 [] mn ?_
   refine RK g<|eH fun R91 K0=>WS fun _ C3=>rS (SX (cb (r:= .bool false) U U U hU) U U)<|RK C3<|aj fun _ J7=>a_ U<|bD<|ab<|ab<|ay<|aH<|ib 6 U fR U ?_
   refine aV (G ⟨((cH left x),ys,A),⟨ly hn hm B D (fun n C=>by first|exact C|(simp [C]; done)) (fun n C=>by exact .inl C) (fun L n C K=>by simp only [bu,List.not_mem_nil,or_false] at C; rcases C with rfl|rfl<;>first|(simp; done)|(exfalso; omega)),gu B,E,F⟩⟩ _ _ _ rfl (fh hm) (aU rfl) (aG [1,2,3,4,5,6,7]))
  refine fY 5 [] (mc 1 U mn) U<|c_ (xs:=[.tmp 48]) (cs:=[(vI (y.Hi+1))]) U cL jA U U U U (by simp [Value.cells]) U U fun EQ=>rS (CL (eB.eq (kx ((aD m i).Lo) ((aD m i).Hi) ([(y.Hi+1)]) (some ⟨EQ,0,none⟩) 1 I) cZ) (au (aZ 0 U U (by simp [bI]) U)<|aI) U)<|rP 2 [] mn ?_
  refine cu (t:=52) U (aP fun GE=>?_) (aQ fun GE=>?_)
  ·refine bo 5 U<|RK P<|a_ U<|cr<|aH<|KK b<|al<|rS (SX (cb (r:= .int .i64 2) U U U (iG ⟨dc,dc⟩)) U U)<|rP 1 [] mn ?_
   refine RK g<|eH fun R88 Kc=>WS fun _ C2=>rS (SX (cb (r:= .bool false) U U U hU) U U)<|RK C2<|aj fun _ J6=>a_ U<|bD<|ab<|ab<|ay<|aH<|ib 7 U fR U ?_
   refine aV (G ⟨((cH left x),ys,A),⟨ly hn hm B D (fun n C=>by first|exact C|(simp [C]; done)) (fun n C=>by exact .inl C) (fun L n C K=>by simp only [bu,List.not_mem_nil,or_false] at C; rcases C with rfl|rfl<;>first|(simp; done)|(exfalso; omega)),gu B,E,F⟩⟩ _ _ _ rfl (fh hm) (aU rfl) (aG [2,3,4,5,6,7,8]))
  refine rP 2 [] mn ?_
  refine kS (k:=ys) (k':=(ys++[((y.Hi+1))])) 8 (by first|exact hsz|exact Nat.le_refl _) hY E F U U U (by exact ⟨_,nj (B _ hm) dso (by first|exact .inl rfl|exact .inr U) I,U,U⟩) U U (fun B82 W T=>?_) (fun B82 W T=>?_)
  rotate_left 1
  ·refine rP 2 [] mn ?_
   refine RK P<|aR U<|ar ?_
   refine hQ _ _ _ (ik (vs:=[]) trivial fun w hs=>sL 8 U W T hs)
  refine bo 2 U<|RK P<|a_ U<|cr<|aH<|KK b<|al<|rS (SX (cb (r:= .int .i64 2) U U U (iG ⟨dc,dc⟩)) U U)<|rP 1 [] mn ?_
  refine RK g<|eH fun R85 KY=>WS fun _ C1=>rS (SX (cb (r:= .bool false) U U U hU) U U)<|RK C1<|aj fun _ J5=>a_ U<|bD<|ab<|ab<|ay<|aH<|ib 7 U fR U ?_
  refine aV (G ⟨((cH left x),(ys++[((y.Hi+1))]),B82),⟨ly hn hm B D (fun n C=>by first|exact C|(simp [C]; done)) (fun n C=>by (simp only [dM,bH] at C; rcases C with C|rfl<;>first|exact .inl C|exact .inr (nj (B _ hm) dso sm I))) (fun L n C K=>by simp only [bu,List.not_mem_nil,or_false] at C; rcases C with rfl|rfl<;>first|(simp; done)|(exfalso; omega)),gu B,W,T⟩⟩ _ _ _ rfl (fh hm) (aU rfl) (aG [2,3,4,5,6,7,8]))
 refine rP 5 [] (mc 1 U mn) ?_
 refine c_ (xs:=[.tmp 48]) (cs:=[(vI (y.Lo+1))]) U cL jA U U U U (by simp [Value.cells]) U U fun DL=>?_
 refine rS (CL (eB.eq (kx ((aD m i).Lo) ((aD m i).Hi) ([(y.Lo+1)]) (some ⟨DL,0,none⟩) 1 (by (simp; done))) cZ) (au (aZ 0 U U (by simp [bI]) U)<|aI) U) ?_
 refine rP 2 [] mn ?_
 refine cu (t:=52) U (aP fun Eq=>?_) (aQ fun Eq=>?_)
 ·refine bo 5 U<|RK M<|a_ U<|cr<|aH<|KK X<|al<|rS (SX (cb (r:= .int .i64 1) U U U (iG ⟨dc,dc⟩)) U U)<|bo 1 U<|RK c<|eH fun R52 e=>WS fun _ A9=>rS (SX (cb (r:= .bool true) U U U hU) U U)<|RK A9<|aj fun _ Bm=>aR U<|WK Bm<|aj fun _ a=>ax<|WS fun _ B3=>rS (SX (rO (v:=(vI (y.Hi+1))) 1 U U U Gn cj U dc U) U U)<|bo 1 U<|RK B3<|WS fun _ O=>rP 4 [] (mr 6 U mn) ?_
  refine cu (t:=43) U (bw fun FT=>?_) (bx fun FT=>?_)
  ·refine bo 14 U<|RK O<|a_ U<|cr<|aH<|KK a<|al<|rS (SX (cb (r:= .int .i64 2) U U U (iG ⟨dc,dc⟩)) U U)<|rP 1 [] mn ?_
   refine RK e<|eH fun R70 KX=>WS fun _ Ck=>rS (SX (cb (r:= .bool false) U U U hU) U U)<|RK Ck<|aj fun _ J4=>a_ U<|bD<|ab<|ab<|ay<|aH<|ib 7 U fR U ?_
   refine aV (G ⟨((cH left x),ys,A),⟨ly hn hm B D (fun n C=>by first|exact C|(simp [C]; done)) (fun n C=>by exact .inl C) (fun L n C K=>by simp only [bu,List.not_mem_nil,or_false] at C; rcases C with rfl|rfl<;>first|(simp; done)|(exfalso; omega)),gu B,E,F⟩⟩ _ _ _ rfl (fh hm) (aU rfl) (aG [2,3,4,5,6,7,8]))
  refine rP 5 [] (mc 2 U mn) ?_
  refine c_ (xs:=[.tmp 48]) (cs:=[(vI (y.Hi+1))]) U cL jA U U U U (by simp [Value.cells]) U U fun Do=>?_
  refine rS (CL (eB.eq (kx ((aD m i).Lo) ((aD m i).Hi) ([(y.Hi+1)]) (some ⟨Do,0,none⟩) 1 (by (simp; done))) cZ) (au (aZ 0 U U (by simp [bI]) U)<|aI) U) ?_
  refine rP 2 [] mn ?_
  refine cu (t:=52) U (aP fun Fd=>?_) (aQ fun Fd=>?_)
  ·refine bo 5 U<|RK O<|a_ U<|cr<|aH<|KK a<|al<|rS (SX (cb (r:= .int .i64 2) U U U (iG ⟨dc,dc⟩)) U U)<|rP 1 [] mn ?_
   refine RK e<|eH fun R67 KU=>WS fun _ Ci=>rS (SX (cb (r:= .bool false) U U U hU) U U)<|RK Ci<|aj fun _ J3=>a_ U<|bD<|ab<|ab<|ay<|aH<|ib 8 U fR U ?_
   refine aV (G ⟨((cH left x),ys,A),⟨ly hn hm B D (fun n C=>by first|exact C|(simp [C]; done)) (fun n C=>by exact .inl C) (fun L n C K=>by simp only [bu,List.not_mem_nil,or_false] at C; rcases C with rfl|rfl<;>first|(simp; done)|(exfalso; omega)),gu B,E,F⟩⟩ _ _ _ rfl (fh hm) (aU rfl) (aG [3,4,5,6,7,8,9]))
  refine rP 2 [] mn ?_
  refine kS (k:=ys) (k':=(ys++[((y.Hi+1))])) 9 (by first|exact hsz|exact Nat.le_refl _) hY E F U U U (by exact ⟨_,nj (B _ hm) dso (by first|exact .inl rfl|exact .inr U) I,U,U⟩) U U (fun B61 V S=>?_) (fun B61 V S=>?_)
  rotate_left 1
  ·refine rP 2 [] mn ?_
   refine RK O<|aR U<|ar ?_
   refine hQ _ _ _ (ik (vs:=[]) trivial fun w hs=>sL 9 U V S hs)
  refine bo 2 U<|RK O<|a_ U<|cr<|aH<|KK a<|al<|rS (SX (cb (r:= .int .i64 2) U U U (iG ⟨dc,dc⟩)) U U)<|rP 1 [] mn ?_
  refine RK e<|eH fun R64 KT=>WS fun _ Ca=>rS (SX (cb (r:= .bool false) U U U hU) U U)<|RK Ca<|aj fun _ J2=>a_ U<|bD<|ab<|ab<|ay<|aH<|ib 8 U fR U ?_
  refine aV (G ⟨((cH left x),(ys++[((y.Hi+1))]),B61),⟨ly hn hm B D (fun n C=>by first|exact C|(simp [C]; done)) (fun n C=>by (simp only [dM,bH] at C; rcases C with C|rfl<;>first|exact .inl C|exact .inr (nj (B _ hm) dso sm I))) (fun L n C K=>by simp only [bu,List.not_mem_nil,or_false] at C; rcases C with rfl|rfl<;>first|(simp; done)|(exfalso; omega)),gu B,V,S⟩⟩ _ _ _ rfl (fh hm) (aU rfl) (aG [3,4,5,6,7,8,9]))
 refine rP 2 [] mn ?_
 refine kS (k:=ys) (k':=(ys++[((y.Lo+1))])) 8 (by first|exact hsz|exact Nat.le_refl _) hY E F U U U (by exact ⟨_,nj (B _ hm) dso (by first|exact .inl rfl|exact .inr U) I,U,U⟩) U U (fun B28 AB H=>?_) (fun B28 AB H=>?_)
 rotate_left 1
 ·refine rP 2 [] mn ?_
  refine RK M<|aR U<|ar ?_
  refine hQ _ _ _ (ik (vs:=[]) trivial fun w hs=>sL 8 U AB H hs)
 refine bo 2 U<|RK M<|a_ U<|cr<|aH<|KK X<|al<|rS (SX (cb (r:= .int .i64 1) U U U (iG ⟨dc,dc⟩)) U U)<|bo 1 U<|RK c<|eH fun R31 d=>WS fun _ A3=>rS (SX (cb (r:= .bool true) U U U hU) U U)<|RK A3<|aj fun _ A4=>aR U<|WK A4<|aj fun _ Y=>ax<|WS fun _ A5=>rS (SX (rO (v:=(vI (y.Hi+1))) 1 U U U Gn cj U dc U) U U)<|bo 1 U<|RK A5<|WS fun _ N=>rP 4 [] (mr 6 U mn) ?_
 refine cu (t:=43) U (bw fun FR=>?_) (bx fun FR=>?_)
 ·refine bo 14 U<|RK N<|a_ U<|cr<|aH<|KK Y<|al<|rS (SX (cb (r:= .int .i64 2) U U U (iG ⟨dc,dc⟩)) U U)<|rP 1 [] mn ?_
  refine RK d<|eH fun R49 KR=>WS fun _ A8=>rS (SX (cb (r:= .bool false) U U U hU) U U)<|RK A8<|aj fun _ I4=>a_ U<|bD<|ab<|ab<|ay<|aH<|ib 7 U fR U ?_
  refine aV (G ⟨((cH left x),(ys++[((y.Lo+1))]),B28),⟨ly hn hm B D (fun n C=>by first|exact C|(simp [C]; done)) (fun n C=>by (simp only [dM,bH] at C; rcases C with C|rfl<;>first|exact .inl C|exact .inr (nj (B _ hm) dso sm I))) (fun L n C K=>by simp only [bu,List.not_mem_nil,or_false] at C; rcases C with rfl|rfl<;>first|(simp; done)|(exfalso; omega)),gu B,AB,H⟩⟩ _ _ _ rfl (fh hm) (aU rfl) (aG [2,3,4,5,6,7,8]))
 refine rP 5 [] (mc 2 U mn) ?_
 refine c_ (xs:=[.tmp 48]) (cs:=[(vI (y.Hi+1))]) U cL jA U U U U (by simp [Value.cells]) U U fun Di=>?_
 refine rS (CL (eB.eq (kx ((aD m i).Lo) ((aD m i).Hi) ([(y.Hi+1)]) (some ⟨Di,0,none⟩) 1 (by (simp; done))) cZ) (au (aZ 0 U U (by simp [bI]) U)<|aI) U) ?_
 refine rP 2 [] mn ?_
 refine cu (t:=52) U (aP fun FS=>?_) (aQ fun FS=>?_)
 ·refine bo 5 U<|RK N<|a_ U<|cr<|aH<|KK Y<|al<|rS (SX (cb (r:= .int .i64 2) U U U (iG ⟨dc,dc⟩)) U U)<|rP 1 [] mn ?_
  refine RK d<|eH fun R46 J9=>WS fun _ A7=>rS (SX (cb (r:= .bool false) U U U hU) U U)<|RK A7<|aj fun _ I0=>a_ U<|bD<|ab<|ab<|ay<|aH<|ib 8 U fR U ?_
  refine aV (G ⟨((cH left x),(ys++[((y.Lo+1))]),B28),⟨ly hn hm B D (fun n C=>by first|exact C|(simp [C]; done)) (fun n C=>by (simp only [dM,bH] at C; rcases C with C|rfl<;>first|exact .inl C|exact .inr (nj (B _ hm) dso sm I))) (fun L n C K=>by simp only [bu,List.not_mem_nil,or_false] at C; rcases C with rfl|rfl<;>first|(simp; done)|(exfalso; omega)),gu B,AB,H⟩⟩ _ _ _ rfl (fh hm) (aU rfl) (aG [3,4,5,6,7,8,9]))
 refine rP 2 [] mn ?_
 refine kS (k:=(ys++[((y.Lo+1))])) (k':=((ys++[((y.Lo+1))])++[((y.Hi+1))])) 9 (by first|exact hsz|exact Nat.le_refl _) hY AB H U U U (by exact ⟨_,nj (B _ hm) dso (by first|exact .inl rfl|exact .inr U) I,U,U⟩) U U (fun B40 AA R=>?_) (fun B40 AA R=>?_)
 rotate_left 1
 ·refine rP 2 [] mn ?_
  refine RK N<|aR U<|ar ?_
  refine hQ _ _ _ (ik (vs:=[]) trivial fun w hs=>sL 9 U AA R hs)
 refine bo 2 U<|RK N<|a_ U<|cr<|aH<|KK Y<|al<|rS (SX (cb (r:= .int .i64 2) U U U (iG ⟨dc,dc⟩)) U U)<|rP 1 [] mn ?_
 refine RK d<|eH fun R43 J8=>WS fun _ A6=>rS (SX (cb (r:= .bool false) U U U hU) U U)<|RK A6<|aj fun _ In=>a_ U<|bD<|ab<|ab<|ay<|aH<|ib 8 U fR U ?_
 refine aV (G ⟨((cH left x),((ys++[((y.Lo+1))])++[((y.Hi+1))]),B40),⟨ly hn hm B D (fun n C=>by first|exact C|(simp [C]; done)) (fun n C=>by (simp only [dM,bH] at C; rcases C with (C|rfl)|rfl<;>first|exact .inl C|exact .inr (nj (B _ hm) dso sm I))) (fun L n C K=>by simp only [bu,List.not_mem_nil,or_false] at C; rcases C with rfl|rfl<;>first|(simp; done)|(exfalso; omega)),gu B,AA,R⟩⟩ _ _ _ rfl (fh hm) (aU rfl) (aG [3,4,5,6,7,8,9]))
theorem KD (gw:Nat) (i:Int):
 lB Tryz.prog 83 [(vP gw),(vI i)] [] (fun (x:Nat×Nat)=>(Value.func (.func 118) [].toArray [(Value.pointer (some ⟨x.1,0,none⟩)),(Value.pointer (some ⟨x.2,0,none⟩))].toArray)) (fun (x:Nat×Nat)=>True) (fun (x:Nat×Nat)=>[(cd x.1 94 [(vP gw)]),(cd x.2 3 [(vI i)])]):=by
 refine di kr Tryz.func83 U U fun E Q hQ hN=>?_
 try dsimp only
 refine WS fun _ A=>uG U U fun C=>uG U U fun D=>bo 1 U<|RK A<|WS fun _ B=>rS (FU U)<|rP 1 [] mn ?_
 refine RK B<|ar<|LX hQ (C,D) [1,0] [] mn U U U U ?_
 trivial
end
section
open Go.RowKit
theorem Bi (r:bY) (kA:OA) (kC:Nat) (cA:OA) (cC:Nat) (bA:OA) (bC:Nat) (slA:OA) (slC:Nat) (drA:OA) (drC:Nat) (heA:OA) (heC:Nat) (tA:OA) (tN tC:Nat) (gs gw:Nat) (m:g_) (i:Int) (hb: ∀ p∈m,0≤p.2.Lo∧p.2.Lo≤p.2.Hi∧p.2.Hi≤30000000) (hi:m.lookup i≠none) (hm12:m.length≤12):
 lB Tryz.prog 50 [(vP gw),(vI i)] [(cd gw 112 (gh.cells (gh.mk (oz r kA kC cA cC bA bC slA slC drA drC heA heC) (bj.mk tA tN tC) (Value.map (some gs))))),(iS iV gs (bW er m))] (fun (x:(OA)×Nat)=>(vS x.1 ((dI m i (aD m i)).length) x.2)) (fun (x:(OA)×Nat)=>True) (fun (x:(OA)×Nat)=>[(own x.1 x.2 3 1 ((dI m i (aD m i)).map iC))]):=by
 refine di kr Tryz.func50 U U fun w0 Q hQ hN=>?_
 try dsimp only
 refine WS fun _ GT=>uG U U fun b2=>uG U U fun b3=>rP 1 [] mn ?_
 refine RK GT<|WS fun _ Gm=>o_ (kV:=iV) U U fun AA=>?_
 try dsimp only
 refine AL U Vp fun b6=>GZ U UP U U<|RK Gm<|aj fun _ Go=>WS fun _ Hc=>fY 1 [] (mc 3 U mn) U<|rS (SX (bP U U) U U)<|fY 2 [] (mr 4 U mn) U<|rS (SX (E2 U U ot (by exact lH 5 U)) U U)<|rP 1 [] mn ?_
 refine RK Hc<|ax ?_
 have A:(0≤m.length)∧(jt ([]:q7) (fun u=>1≤u∧u≤(0:Int))):=by exact ⟨Nat.zero_le _,MR fun k=>by omega⟩
 refine bL (ι:={z:Nat×q7 // (z.1≤m.length)∧(jt z.2 (fun u=>1≤u∧u≤(z.1:Int)))}) [2,3,5,20] [0,2,3,4,5] U U (fun z=>[(21,(vI (z.1.1:Int)))]) (fun z=>[(iS iV AA (bW vB z.1.2))]) (fun _=>rfl) (fun _=>rfl) (fun z=>m.length-z.1.1) ⟨(0,([]:q7)),A⟩ (aU U) (aG [0,2,3,4,5,1]) ?_
 clear A
 rintro ⟨⟨n,nv⟩,⟨j,K⟩⟩ J9 GE
 try dsimp only at j K
 try dsimp only
 refine WS fun _ Ao=>rP 1 [] mn ?_
 refine RK Ao<|aj fun _ Ap=>cP U (aQ fun FT=>?_) (aP fun FT=>?_)
 ·refine WK Ap<|aj fun _ A0=>ax<|WS fun _ A1=>bo 2 U<|RK A1<|al<|fY 3 [] (mc 0 U mn) U<|ko (kV:=iV) (x:=((n:Int)+1)) (C':=[_,_,_,_,_,(iS iV AA (bW vB (e8 nv ((n:Int)+1) true)))]) 5 U U U U BW (eX qp) U (iD _ _ _ _).symm U<|aA<|aH<|KK A0<|al<|rP 2 [] mn ?_
  refine aA ?_
  have Do:(vI (((n+1):Nat):Int))=(vI ((n:Int)+1)):=by exact cI I
  refine aV (GE ⟨((n+1),(e8 nv ((n:Int)+1) true)),⟨I,(Je K I).yJ fun k=>by omega⟩⟩ _ _ _ U os (cU 4<|bk U Do<|dF.nil _) (aG [0,1,2,3,4,5]))
 refine bD<|ab<|ab<|ay<|KK Go<|WS fun _ A2=>rP 1 [] (mc 0 U mn) ?_
 refine cX (JQ nv AA) (bp [5]) U fun G KR=>?_
 try dsimp only
 refine bo 1 U<|RK A2<|aj fun _ A3=>WS fun _ A4=>rP 2 [0,1] (mc 3 U (mc 2 U mn)) ?_
 refine cX (KD gw i) (aI) U fun I4 KT=>?_
 obtain ⟨Z,c⟩:=I4
 try dsimp only
 refine RK A4<|ax<|kR 6 U (by exact fun _ h=>h)<|kR 8 U (by exact fun _ h=>h) ?_
 refine nJ (L0:=[(2,(vP b2)),(3,(vP b3)),(5,(vP b6)),(7,(Value.map (some G)))]) (F:=[(cd gw 112 (gh.cells (gh.mk (oz r kA kC cA cC bA bC slA slC drA drC heA heC) (bj.mk tA tN tC) (Value.map (some gs))))).ro,(iS iV gs (bW er m)).ro,(cd Z 94 [(vP gw)]),(cd c 3 [(vI i)])]) (fun k (y:q7)=>(jt y (uZ m i k))) (fun k y=>[(iS iV G (bW vB nv)),(cd b6 47 [(Value.map (some AA))]),(cd b3 3 [(vI i)]),(cd b2 94 [(vP gw)]),(cd gw 112 (gh.cells (gh.mk (oz r kA kC cA cC bA bC slA slC drA drC heA heC) (bj.mk tA tN tC) (Value.map (some gs))))).ro,(iS iV gs (bW er m)).ro,(iS iV AA (bW vB y))]) (fun _ (_:Unit)=>False) (fun _ _=>[]) [4,5,6,7,8,9,10] [1,0,2,3] nv rfl rfl (HN r kA kC cA cC bA bC slA slC drA drC heA heC tA tN tC gs gw m i Z c (by exact hb)) rfl rfl rfl (by exact L5 (K.yJ fun k=>by omega)) (by simp only [List.forall_mem_cons,List.not_mem_nil,false_imp_iff,implies_true,and_true]; exact ⟨⟨_,sm,(dV (bV _))⟩,⟨_,sm,(dV (bV _))⟩,⟨_,sm,(bV _)⟩,⟨_,sm,(bV _)⟩⟩) (by rintro k x k2 ⟨n,_,rfl,_⟩; rfl) rfl (aU rfl) ?_ ?_ (fun _ _ _ h=>h.elim) (fun _ _ h=>h.elim)
 rotate_left 1
 ·rintro LL k nw EQ g
  have T:=g
  try dsimp only
  refine aH<|KK A3<|aj fun _ C1=>WS fun _ C2=>rP 1 [] (mc 6 U mn) ?_
  refine uU 11 U U BW U U fun In=>?_
  try dsimp only
  refine RK C2<|ax ?_
  have A:(∀ p∈nw,p∈nw)∧(jt nv (fun u=>(1≤u∧u≤(m.length:Int))∧ ¬ (uZ m i k u∧u ∉ nw.map (·.1)))):=by exact ⟨fun p hp=>hp,K.yJ fun u=>⟨fun q=>⟨I,fun z=>z.2 ((T.2 u).2 z.1)⟩,fun q=>by omega⟩⟩
  refine bL (ι:={z:q7×q7 // (∀ p∈z.1,p∈nw)∧(jt z.2 (fun u=>(1≤u∧u≤(m.length:Int))∧ ¬ (uZ m i k u∧u ∉ z.1.map (·.1))))}) [7,68] [0,1,2,9,10] U U (fun z=>[]) (fun z=>[(iS iV G (bW vB z.1.2)),(zt iV In AA (bW vB nw) (bW vB z.1.1) none)]) (fun _=>rfl) (fun _=>rfl) (fun z=>z.1.1.length) ⟨(nw,nv),A⟩ (dF.nil _) (aG [0,1,2,9,10,5,11]) ?_
  clear A
  rintro ⟨⟨left,rk⟩,⟨AB,J⟩⟩ J55 AS
  try dsimp only at AB J
  try dsimp only
  refine WS fun _ X=>te (eX qp).inj (f:=Value.bool) 6 U U U U (fun Fn=>?_) (fun u v Eq Kc=>?_)
  rotate_left 1
  ·try dsimp only
   refine bo 1 U<|RK X<|aj fun _ DL=>aR U<|WK DL<|ax<|WS fun _ Di=>rS (SX (sW 6 U U U) U U)<|bo 2 U<|RK Di<|al<|rP 2 [] mn ?_
   refine pE (kV:=iV) (x:=u) (C':=[_,_,_,_,_,(iS iV G (bW vB (cH rk u))),_]) 5 U U U U BW (eX qp) U (l4 _ _ _).symm U<|aA<|aH<|ib 6 U wY U ?_
   refine aV (AS ⟨((cH left u),(cH rk u)),⟨gu AB,OV AB T Eq J⟩⟩ _ _ _ U (fh Eq) (aU U) (aG [0,1,2,3,4,5,6]))
  refine rP 1 [] mn ?_
  refine RK X<|aj fun _ J8=>a_ U<|bD<|ab<|ab<|ay<|KK C1<|WS fun _ C3=>?_
  have FR:jt rk (fun u=>(1≤u∧u≤(m.length:Int))∧ ¬ uZ m i k u):=J.yJ fun u=>⟨fun q=>⟨q.1,fun z=>q.2 ⟨z,by rw [Fn]; simp⟩⟩,fun q=>⟨q.1,fun z=>q.2 z.1⟩⟩
  have Y:dB (rk.map (·.1))=(dI m i (aD m i)):=D1 hi EQ FR
  have K4:rk.length≤m.length:=L9 FR fun k q=>q.1
  have H1:rk.length=(dI m i (aD m i)).length:=by rw [← Y]; simp
  refine rP 1 [] mn ?_
  refine cX (NC G) (aI) U fun FS KU=>?_
  try dsimp only
  refine cX (Ik rk G FS I) (bp [6,0]) U fun J2 KX=>?_
  obtain ⟨o,AC⟩:=J2
  try dsimp only
  rw [Y]
  refine rP 1 [] mn ?_
  refine RK C3<|ar<|hQ _ _ _ (o0 2 U U<|ik (vs:=[(vS o rk.length AC)]) ⟨U,trivial⟩ fun w hs=>JO (o,AC) [0] ?_ ?_ U U U hs)
  ·(rw [← H1]; rfl)
  ·trivial
 rintro k x k2 nw l ra rb S w1 K26 Qr27 LA hx e A5 d I0 J3
 obtain ⟨n,K0,rfl,rfl⟩:=hx
 have T:=e
 try dsimp only
 refine al<|rP 1 [] mn ?_
 refine aA<|aV (A5 _ _ ?_)
 refine ax<|WS fun _ A6=>bo 2 U<|RK A6<|aj fun _ A7=>WS fun _ A8=>fY 1 [] (mc 4 U mn) U<|rS (SX (bP U U) U U)<|rP 2 [] (mr 5 U mn) ?_
 refine j4 (kV:=iV) (m:=bW er m) 6 U U ot U ⟨U,fun h=>h⟩ (by exact lH 6 U) U fun If=>?_
 try dsimp only
 refine RK A8<|ax ?_
 have A:((1:Int)+(ij m i n:Int)=1+(ij m i n:Int))∧((1:Int)+(kv m i n:Int)=1+(kv m i n:Int))∧(∀ p∈m,p∈m)∧(1≤(1:Int)∧1≤(1:Int)):=by exact ⟨rfl,rfl,fun p hp=>hp,I⟩
 refine bL (ι:={z:g_×Int×Int // (z.2.1+(ij z.1 i n:Int)=1+(ij m i n:Int))∧(z.2.2+(kv z.1 i n:Int)=1+(kv m i n:Int))∧(∀ p∈z.1,p∈m)∧(1≤z.2.1∧1≤z.2.2)}) [2,3,5,7,8,38] [1,2,3,4,5,6,7,8] U U (fun z=>[(9,(vI z.1.2.1)),(10,(vI z.1.2.2))]) (fun z=>[(yX iV If gs (bW er m) (bW er z.1.1) none)]) (fun _=>rfl) (fun _=>rfl) (fun z=>z.1.1.length) ⟨(m,(1:Int),(1:Int)),A⟩ (aU U) (aG [1,2,3,4,5,6,7,8,0]) ?_
 clear A
 rintro ⟨⟨left,s,t⟩,⟨C,D,B,R⟩⟩ J33 L
 try dsimp only at C D B R
 try dsimp only
 have IO:=Gr (m:=m) (i:=i) (n:=n)
 have IR:=Mu (m:=m) (i:=i) (n:=n)
 refine WS fun _ V=>jC (eX qp).inj (f:=er) 8 U U U U (fun P=>?_) (fun x y hm hn=>?_)
 ·refine bo 1 U<|RK V<|aj fun _ J7=>a_ U<|bD<|ab<|ab<|ay<|KK A7<|WS fun _ A9=>rP 2 [] mn ?_
  refine RK A9<|ax ?_
  have A:(s≤s∧(s≤t+1∨s=s))∧(jt nw (fun u=>uZ m i k u∧ ¬ (s≤u∧u<s))):=by exact ⟨⟨Int.le_refl _,.inr rfl⟩,T.yJ fun u=>⟨fun q=>⟨q,fun z=>by omega⟩,fun q=>q.1⟩⟩
  refine bL (ι:={z:Int×q7 // (s≤z.1∧(z.1≤t+1∨z.1=s))∧(jt z.2 (fun u=>uZ m i k u∧ ¬ (s≤u∧u<z.1)))}) [2,3,5,7,8,9,10] [0,1,2,3,4,5,6,8] U U (fun z=>[(13,(vI z.1.1))]) (fun z=>[(iS iV AA (bW vB z.1.2))]) (fun _=>rfl) (fun _=>rfl) (fun z=>(t+1-z.1.1).toNat) ⟨(s,nw),A⟩ (aU U) (aG [0,1,2,3,4,5,6,8,7]) ?_
  clear A
  rintro ⟨⟨q,n2⟩,⟨N,H⟩⟩ J37 AO
  try dsimp only at N H
  try dsimp only
  have IO:=Gr (m:=m) (i:=i) (n:=n)
  have IR:=Mu (m:=m) (i:=i) (n:=n)
  have K5:s=1+(ij m i n:Int):=by rw [P] at C; simp only [zK] at C; omega
  have K8:t=1+(kv m i n:Int):=by rw [P] at D; simp only [BH] at D; omega
  refine aj fun _ Bm=>WS fun _ B3=>rP 3 [] mn ?_
  refine RK B3<|bS U (aP fun Fd=>?_) (aQ fun Fd=>?_)
  ·refine bD<|ab<|ab<|ay<|aH ?_
   exact d n2 _ _ (by exact KS (a:=s) (b:=t) (by rw [P,zK] at C; omega) (by rw [P,BH] at D; omega) (H.yJ fun u=>⟨fun z=>⟨z.1,fun w=>z.2 I⟩,fun z=>⟨z.1,fun w=>z.2 I⟩⟩)) (aG [0,1,2,3,4,5,6,8])
  refine WK Bm<|aj fun _ B7=>ax<|al<|fY 2 [] (mc 2 U mn) U<|pE (kV:=iV) (x:=q) (C':=[_,_,_,_,_,_,_,_,(iS iV AA (bW vB (cH n2 q)))]) 8 U U U U BW (eX qp) U (l4 _ _ _).symm U<|aA<|aH<|KK B7<|al<|rP 3 [] mn ?_
  refine aA ?_
  refine aV (AO ⟨((q+1),(cH n2 q)),⟨I,EL N.1 H⟩⟩ _ _ _ U dso (aU U) (aG [0,1,2,3,4,5,6,7,8]))
 try dsimp only
 refine bo 1 U<|RK V<|aj fun _ B9=>aR U<|WK B9<|ax<|WS fun _ Ca=>rS (SX (jz 8 U U U) U U)<|bo 2 U<|AL U dv fun KY=>bo 1 U<|gl U cy U<|RK Ca<|aj fun _ Ci=>WS fun _ Ck=>rP 3 [] (mc 4 U mn) ?_
 refine RK Ck<|cP U (aQ fun E=>?_) (aP fun E=>?_)
 ·refine bD<|ab<|ay<|ib 9 U fR U ?_
  refine aV (L ⟨((cH left x),s,t),(by refine ⟨?_,?_,gu B,?_⟩<;>dsimp only <;>first|omega|(rw [← Hw hn hm E]; omega)|(rw [← KN hn hm E]; omega))⟩ _ _ _ U (fh hm) (aU U) (aG [1,2,3,4,5,6,7,8,9]))
 refine WK Ci<|aj fun _ W=>WS fun _ Cp=>rP 4 [] (mc 0 U mn) ?_
 refine RK Cp<|bS U (aP fun O=>?_) (aQ fun O=>?_)
 ·refine WK W<|WS fun _ C0=>rP 4 [] (mc 0 U mn) ?_
  refine RK C0<|bS U (aP fun M=>?_) (aQ fun M=>?_)
  ·refine cr<|aH<|ib 9 U fR U ?_
   refine aV (L ⟨((cH left x),s,t),(by refine ⟨?_,?_,gu B,?_⟩<;>dsimp only <;>first|omega|(have:=Da hn hm E O; omega)|(have:=F_ hn hm E M; omega))⟩ _ _ _ U (fh hm) (aU U) (aG [1,2,3,4,5,6,7,8,9]))
  refine al<|rP 3 [] mn ?_
  refine aA<|aH<|ib 9 U fR U ?_
  refine aV (L ⟨((cH left x),s,(t+1)),(by refine ⟨?_,?_,gu B,?_⟩<;>dsimp only <;>first|omega|(have:=Da hn hm E O; omega)|(have:=BC hn hm E M; omega))⟩ _ _ _ U (fh hm) (aU U) (aG [1,2,3,4,5,6,7,8,9]))
 refine al<|bo 3 U<|RK W<|WS fun _ Cx=>rP 4 [] (mc 0 U mn) ?_
 refine RK Cx<|bS U (aP fun M=>?_) (aQ fun M=>?_)
 ·refine cr<|aH<|ib 9 U fR U ?_
  refine aV (L ⟨((cH left x),(s+1),t),(by refine ⟨?_,?_,gu B,?_⟩<;>dsimp only <;>first|omega|(have:=zX hn hm E O; omega)|(have:=F_ hn hm E M; omega))⟩ _ _ _ U (fh hm) (aU U) (aG [1,2,3,4,5,6,7,8,9]))
 refine al<|rP 3 [] mn ?_
 refine aA<|aH<|ib 9 U fR U ?_
 refine aV (L ⟨((cH left x),(s+1),(t+1)),(by refine ⟨?_,?_,gu B,?_⟩<;>dsimp only <;>first|omega|(have:=zX hn hm E O; omega)|(have:=BC hn hm E M; omega))⟩ _ _ _ U (fh hm) (aU U) (aG [1,2,3,4,5,6,7,8,9]))
end
section
open Go.RowKit
theorem An (i:Int) (r:bY) (kA:OA) (kC:Nat) (az:List RA) (cA:OA) (cC:Nat) (bA:OA) (bC:Nat) (slA:OA) (slC:Nat) (drA:OA) (drC:Nat) (ha:List cK) (heA:OA) (heC:Nat) (hin:fp r az ha):
 lB Tryz.prog 16 [(vA (cm.cells (oz r kA kC cA cC bA bC slA slC drA drC heA heC))),(vI i)] [(rd fg 3 2 eu),(rd kA r.an.aL.length 9 (r.an.aL.map ak.cells)),(rd cA r.an.ah.length 2 (List.zipWith ao.cells r.an.ah az)),(e9 (aW ao.gP r.an.ah az)),(rd bA r.an.ae.length 4 (r.an.ae.map bE.cells)),(rd slA r.aM.length 1 (r.aM.map iC)),(rd drA r.bK.length 1 (r.bK.map iC)),(rd heA r.aq.length 1 (List.zipWith cD r.aq ha)),(e9 (aW iy r.aq ha))] (fun (x:(OA)×Nat)=>(vT [(vS x.1 ((fV r i).length) x.2),(vI (jR r i))])) (fun (x:(OA)×Nat)=>True) (fun (x:(OA)×Nat)=>[(own x.1 x.2 3 1 ((fV r i).map iC))]):=by
 have V:=hin.line
 have k:=hin.iW
 have l:=hin.has
 have c:=hin.jd
 have Z:=hin.draw
 have d:=dQ (r:=r)
 refine di kr Tryz.func16 U U fun o Q hQ hN=>?_
 try dsimp only
 refine WS fun _ AA=>gd U fun n=>bo 2 U<|RK AA<|WS fun _ G=>rP 2 [] (mc 0 U mn) ?_
 refine c_ (xs:=[.tmp 11]) (cs:=[(vI i)]) U cL jA U U U U (by simp [Value.cells]) U U fun h=>cX (zF r kA kC az cA cC bA bC slA slC drA drC ha heA heC i h hin) (bp [2,3,4,5,6,7,8,9,10,0]) U fun m L=>?_
 obtain ⟨M,j,T,S,N,O,AD,f,g⟩:=m
 cases M
 ·obtain ⟨H,he⟩:=L.2 rfl
  try dsimp only at H he
  subst H
  try dsimp only [cond_true,cond_false,List.cons_append,List.nil_append]
  refine bo 7 U<|RK G<|aj fun _ Y=>WS fun _ B=>rP 2 [] mn ?_
  refine RK B<|bS U (bw fun A=>?_) (bx fun A=>?_)
  ·exact absurd A he
  refine WS fun _ C=>ed 3 1 ?_
  rw [show (own none 0 3 1 ([]:List (List Value)))=own none 0 3 1 ((fV r i).map iC) from by rw [u6 he]; rfl]
  refine bo 1 U<|rP 2 [] mn ?_
  refine RK C<|ar ?_
  refine LX hQ (none,0) [0] [] mn U U U ?_ ?_
  ·(rw [u6 he]; rfl)
  ·trivial
 obtain ⟨he,W⟩:=L.1 rfl
 try dsimp only [cond_true,cond_false,List.cons_append,List.nil_append]
 try dsimp only at W
 obtain ⟨J,a,AB⟩:=yP he
 have K:=oh J
 have b:=pk J
 refine bo 7 U<|RK G<|aj fun _ D=>WS fun _ E=>bo 1 U<|rS (SX (cb (r:= .bool false) U U U nK) U U)<|RK E<|a_ U<|WK D<|WS fun _ F=>rP 2 [] mn ?_
 refine cX (Bi r kA kC cA cC bA bC slA slC drA drC heA heC N ((cT r).length) O S T (aF r) i (by exact K) (by exact AB) I) (bp [0,3]) U fun X e=>?_
 obtain ⟨P,R⟩:=X
 try dsimp only
 rw [show (dI (aF r) i (aD (aF r) i))=fV r i from (yR he).symm]
 refine rP 2 [] mn ?_
 refine RK F<|ar ?_
 refine LX hQ (P,R) [0] [] mn U U U ?_ ?_
 ·(rw [he]; rfl)
 ·trivial
theorem Kv (a b:Int) (r:bY) (kA:OA) (kC:Nat) (az:List RA) (cA:OA) (cC:Nat) (bA:OA) (bC:Nat) (slA:OA) (slC:Nat) (drA:OA) (drC:Nat) (ha:List cK) (heA:OA) (heC:Nat) (hin:fp r az ha):
 eB Tryz.prog 27 [(vA (cm.cells (oz r kA kC cA cC bA bC slA slC drA drC heA heC))),(vI a),(vI b)] [(rd fg 3 2 eu),(rd kA r.an.aL.length 9 (r.an.aL.map ak.cells)),(rd cA r.an.ah.length 2 (List.zipWith ao.cells r.an.ah az)),(e9 (aW ao.gP r.an.ah az)),(rd bA r.an.ae.length 4 (r.an.ae.map bE.cells)),(rd slA r.aM.length 1 (r.aM.map iC)),(rd drA r.bK.length 1 (r.bK.map iC)),(rd heA r.aq.length 1 (List.zipWith cD r.aq ha)),(e9 (aW iy r.aq ha))] (vT [(Value.int .u8 (v7 r a b)),(vI (n7 r a b))]):=by
 have M:=hin.line
 have k:=hin.iW
 have l:=hin.has
 have V:=hin.jd
 have R:=hin.draw
 have W:=dQ (r:=r)
 refine bG kr Tryz.func27 U U fun p Q hQ hN=>?_
 try dsimp only
 refine WS fun _ L=>gd U fun o=>bo 2 U<|RK L<|WS fun _ H=>rP 3 [] (mc 0 U mn) ?_
 refine c_ (xs:=[.tmp 13,.tmp 14]) (cs:=[(vI a),(vI b)]) U cL jA U U U U (by simp [Value.cells]) U U fun d=>cX (zr r kA kC az cA cC bA bC slA slC drA drC ha heA heC a b d hin) (bp [2,3,4,5,6,7,8,9,10,0]) U fun m J=>?_
 obtain ⟨K,e,g,f,Z,c,AD,X,Y⟩:=m
 cases K
 ·obtain ⟨AB,he⟩:=J.2 rfl
  try dsimp only at AB he
  subst AB
  try dsimp only [cond_true,cond_false,List.cons_append,List.nil_append]
  refine bo 7 U<|RK H<|aj fun _ P=>WS fun _ C=>rP 2 [] mn ?_
  refine RK C<|bS U (bw fun B=>?_) (bx fun B=>?_)
  ·exact absurd B he
  refine WS fun _ D=>rP 3 [] mn ?_
  refine RK D<|ar<|Q2 hQ U U U U ?_
  (rw [show v7 r a b=0 from if_neg he]; done)
 obtain ⟨he,O⟩:=J.1 rfl
 try dsimp only [cond_true,cond_false,List.cons_append,List.nil_append]
 try dsimp only at O
 obtain ⟨N,S,T,AA⟩:=zm he
 have A:=oh N
 have h:=g8 (i:=a) A
 have j:=g8 (i:=b) A
 refine bo 7 U<|RK H<|aj fun _ E=>WS fun _ F=>bo 1 U<|rS (SX (cb (r:= .bool false) U U U nK) U U)<|RK F<|a_ U<|WK E<|aj fun _ G=>dH cx 21 kr<|dP 1 [] mn ?_
 refine dS (IA 0 U (ag (n:=2) 4 U sq) g4 dc U I) ?_
 refine dS (mW ((0*2)+1) U (ag (n:=([(aD (aF r) a),(aD (aF r) b)]).length) 4 U sm) (Nat.succ_pos _) fw U)<|dS (gi 0 1 (vI ((aD (aF r) a).Hi)) U cj (ag (n:=([(aD (aF r) a),(aD (aF r) b)]).length) 4 U sm) (show ([(aD (aF r) a),(aD (aF r) b)].map aa.cells)[0]? =some [(vI ((aD (aF r) a).Lo)),(vI ((aD (aF r) a).Hi))] from U) U dc U)<|dP 1 [] mn ?_
 refine dS (IA 1 U (ag (n:=2) 4 U sq) g4 dc U I) ?_
 refine dS (mW (1*2) U (ag (n:=([(aD (aF r) a),(aD (aF r) b)]).length) 4 U sm) (Nat.succ_pos _) fw U)<|dS (gi 1 0 (vI ((aD (aF r) b).Lo)) U cj (ag (n:=([(aD (aF r) a),(aD (aF r) b)]).length) 4 U sm) (show ([(aD (aF r) a),(aD (aF r) b)].map aa.cells)[1]? =some [(vI ((aD (aF r) b).Lo)),(vI ((aD (aF r) b).Hi))] from U) U dc U)<|dP 2 [] mn ?_
 refine dS (IA 0 U (ag (n:=2) 4 U sq) g4 dc U I) ?_
 refine dS (mW (0*2) U (ag (n:=([(aD (aF r) a),(aD (aF r) b)]).length) 4 U sm) (Nat.succ_pos _) fw U)<|dS (gi 0 0 (vI ((aD (aF r) a).Lo)) U cj (ag (n:=([(aD (aF r) a),(aD (aF r) b)]).length) 4 U sm) (show ([(aD (aF r) a),(aD (aF r) b)].map aa.cells)[0]? =some [(vI ((aD (aF r) a).Lo)),(vI ((aD (aF r) a).Hi))] from U) U dc U)<|dP 1 [] mn ?_
 refine dS (IA 1 U (ag (n:=2) 4 U sq) g4 dc U I) ?_
 refine dS (mW ((1*2)+1) U (ag (n:=([(aD (aF r) a),(aD (aF r) b)]).length) 4 U sm) (Nat.succ_pos _) fw U)<|dS (gi 1 1 (vI ((aD (aF r) b).Hi)) U cj (ag (n:=([(aD (aF r) a),(aD (aF r) b)]).length) 4 U sm) (show ([(aD (aF r) a),(aD (aF r) b)].map aa.cells)[1]? =some [(vI ((aD (aF r) b).Lo)),(vI ((aD (aF r) b).Hi))] from U) U dc U)<|lQ 1 U<|dS (CL (ym (decide (((aD (aF r) a).Hi)<((aD (aF r) b).Lo))) (decide (((aD (aF r) a).Lo)<((aD (aF r) b).Hi)))) (aI) U)<|dP 2 [] mn ?_
 refine cQ<|RK G<|ar<|Q2 hQ U U U U ?_
 (rw [he,show v7 r a b=CS _ _ from if_pos he,← Ng])
theorem Qd (a b:Int) (r:bY) (kA:OA) (kC:Nat) (az:List RA) (cA:OA) (cC:Nat) (bA:OA) (bC:Nat) (slA:OA) (slC:Nat) (drA:OA) (drC:Nat) (ha:List cK) (heA:OA) (heC:Nat) (hin:fp r az ha):
 eB Tryz.prog 71 [(vA (cm.cells (oz r kA kC cA cC bA bC slA slC drA drC heA heC))),(vI a),(vI b)] [(rd fg 3 2 eu),(rd kA r.an.aL.length 9 (r.an.aL.map ak.cells)),(rd cA r.an.ah.length 2 (List.zipWith ao.cells r.an.ah az)),(e9 (aW ao.gP r.an.ah az)),(rd bA r.an.ae.length 4 (r.an.ae.map bE.cells)),(rd slA r.aM.length 1 (r.aM.map iC)),(rd drA r.bK.length 1 (r.bK.map iC)),(rd heA r.aq.length 1 (List.zipWith cD r.aq ha)),(e9 (aW iy r.aq ha))] (vT [(Value.int .u8 (qC r a b)),(vI (n7 r a b))]):=by
 have T:=hin.line
 have q:=hin.iW
 have s:=hin.has
 have d:=hin.jd
 have X:=hin.draw
 have e:=dQ (r:=r)
 refine bG kr Tryz.func71 U U fun w Q hQ hN=>?_
 try dsimp only
 refine WS fun _ P=>gd U fun v=>bo 2 U<|RK P<|WS fun _ J=>rP 3 [] (mc 0 U mn) ?_
 refine c_ (xs:=[.tmp 14,.tmp 15]) (cs:=[(vI a),(vI b)]) U cL jA U U U U (by simp [Value.cells]) U U fun l=>cX (zr r kA kC az cA cC bA bC slA slC drA drC ha heA heC a b l hin) (bp [2,3,4,5,6,7,8,9,10,0]) U fun u N=>?_
 obtain ⟨O,m,p,o,h,j,AD,f,g⟩:=u
 cases O
 ·obtain ⟨M,he⟩:=N.2 rfl
  try dsimp only at M he
  subst M
  try dsimp only [cond_true,cond_false,List.cons_append,List.nil_append]
  refine bo 7 U<|RK J<|aj fun _ W=>WS fun _ E=>rP 2 [] mn ?_
  refine RK E<|bS U (bw fun D=>?_) (bx fun D=>?_)
  ·exact absurd D he
  refine WS fun _ F=>rP 3 [] mn ?_
  refine RK F<|ar<|Q2 hQ U U U U ?_
  (rw [show qC r a b=0 from if_neg he]; done)
 obtain ⟨he,V⟩:=N.1 rfl
 try dsimp only [cond_true,cond_false,List.cons_append,List.nil_append]
 try dsimp only at V
 obtain ⟨AA,Y,Z,c⟩:=zm he
 have B:=oh AA
 have R:=g8 (i:=a) B
 have S:=g8 (i:=b) B
 refine bo 7 U<|RK J<|aj fun _ G=>WS fun _ H=>rP 1 [] mn ?_
 refine rS (SX (cb (r:= .bool false) U U U nK) U U)<|RK H<|a_ U<|WK G<|aj fun _ AB=>dK cx [19,20] [] [] [0,1,2,3,4,5,6,7,8,9,10,11,12,13,14,15] [] U U U U U<|eS U (MV U) ?_
 refine eS U (IA 0 U (ag (n:=2) 4 U sq) g4 dc U I) ?_
 refine eS U (mW (0*2) U (ag (n:=([(aD (aF r) a),(aD (aF r) b)]).length) 4 U sm) (Nat.succ_pos _) fw U)<|eS U (gi 0 0 (vI ((aD (aF r) a).Lo)) U cj (ag (n:=([(aD (aF r) a),(aD (aF r) b)]).length) 4 U sm) (show ([(aD (aF r) a),(aD (aF r) b)].map aa.cells)[0]? =some [(vI ((aD (aF r) a).Lo)),(vI ((aD (aF r) a).Hi))] from U) U dc U)<|eS U (MV U) ?_
 refine eS U (IA 1 U (ag (n:=2) 4 U sq) g4 dc U I) ?_
 refine eS U (mW (1*2) U (ag (n:=([(aD (aF r) a),(aD (aF r) b)]).length) 4 U sm) (Nat.succ_pos _) fw U)<|eS U (gi 1 0 (vI ((aD (aF r) b).Lo)) U cj (ag (n:=([(aD (aF r) a),(aD (aF r) b)]).length) 4 U sm) (show ([(aD (aF r) a),(aD (aF r) b)].map aa.cells)[1]? =some [(vI ((aD (aF r) b).Lo)),(vI ((aD (aF r) b).Hi))] from U) U dc U)<|eS U (MX U)<|eS U (MV U) ?_
 refine eS U (IA 0 U (ag (n:=2) 4 U sq) g4 dc U I) ?_
 refine eS U (mW ((0*2)+1) U (ag (n:=([(aD (aF r) a),(aD (aF r) b)]).length) 4 U sm) (Nat.succ_pos _) fw U)<|eS U (gi 0 1 (vI ((aD (aF r) a).Hi)) U cj (ag (n:=([(aD (aF r) a),(aD (aF r) b)]).length) 4 U sm) (show ([(aD (aF r) a),(aD (aF r) b)].map aa.cells)[0]? =some [(vI ((aD (aF r) a).Lo)),(vI ((aD (aF r) a).Hi))] from U) U dc U)<|eS U (MV U) ?_
 refine eS U (IA 1 U (ag (n:=2) 4 U sq) g4 dc U I) ?_
 refine eS U (mW ((1*2)+1) U (ag (n:=([(aD (aF r) a),(aD (aF r) b)]).length) 4 U sm) (Nat.succ_pos _) fw U)<|eS U (gi 1 1 (vI ((aD (aF r) b).Hi)) U cj (ag (n:=([(aD (aF r) a),(aD (aF r) b)]).length) 4 U sm) (show ([(aD (aF r) a),(aD (aF r) b)].map aa.cells)[1]? =some [(vI ((aD (aF r) b).Lo)),(vI ((aD (aF r) b).Hi))] from U) U dc U)<|eS U (MN U)<|eS U (SX (bh (xs:=[(0,.tmp 32),(1,.tmp 41)]) (cs:=(aa.cells (aa.mk (max ((aD (aF r) a).Lo) ((aD (aF r) b).Lo)) (min ((aD (aF r) a).Hi) ((aD (aF r) b).Hi))))) U U (bg gH U)) U U)<|eT U<|cf U fun T22 K=>AL U dv fun k=>aA (K _ _ (aG [1,2,3,4,5,6,7,8,9,10,11,12,13,14,15,16]) ?_)
 refine cf U fun T24 L=>gl U cy U<|aA (L _ _ (aG [1,2,3,4,5,6,7,8,9,10,11,12,13,14,15,16]) ?_)
 refine fO U<|KK AB<|aj fun _ A=>dH cx 22 kr<|dP 1 [] mn ?_
 refine dS (IA 0 U (ag (n:=2) 5 U sq) g4 dc U I) ?_
 refine dS (oY 0 0 (aa.cells (aD (aF r) a)) U cj (ag (n:=([(aD (aF r) a),(aD (aF r) b)]).length) 5 U sm) (show ([(aD (aF r) a),(aD (aF r) b)].map aa.cells)[0]? =some [(vI ((aD (aF r) a).Lo)),(vI ((aD (aF r) a).Hi))] from U) U dc U U)<|dP 1 [] mn ?_
 refine dS (IA 1 U (ag (n:=2) 5 U sq) g4 dc U I) ?_
 refine dS (oY 1 0 (aa.cells (aD (aF r) b)) U cj (ag (n:=([(aD (aF r) a),(aD (aF r) b)]).length) 5 U sm) (show ([(aD (aF r) a),(aD (aF r) b)].map aa.cells)[1]? =some [(vI ((aD (aF r) b).Lo)),(vI ((aD (aF r) b).Hi))] from U) U dc U U)<|dS (BI U (tH _ _ (aD (aF r) a) (aD (aF r) b)))<|dP 1 [] mn ?_
 refine jl (t:=50) U (aP fun C=>?_) (aQ fun C=>?_)
 ·refine mV 11 [] (mc 0 U mn) U<|dS (CL (ym false (decide ((max ((aD (aF r) a).Lo) ((aD (aF r) b).Lo))≤(min ((aD (aF r) a).Hi) ((aD (aF r) b).Hi))))) (aI) U)<|dP 2 [] mn ?_
  refine cQ<|RK A<|ar<|Q2 hQ U U U U ?_
  (rw [he,show qC r a b=sE _ _ from if_pos he,← ND R.2.1 S.2.1 C]; done)
 refine mV 11 [] (mc 0 U mn) U<|dS (CL (ym (decide ((max ((aD (aF r) a).Lo) ((aD (aF r) b).Lo))=(min ((aD (aF r) a).Hi) ((aD (aF r) b).Hi)))) (decide ((max ((aD (aF r) a).Lo) ((aD (aF r) b).Lo))≤(min ((aD (aF r) a).Hi) ((aD (aF r) b).Hi))))) (aI) U)<|dP 2 [] mn ?_
 refine cQ<|RK A<|ar<|Q2 hQ U U U U ?_
 (rw [he,show qC r a b=sE _ _ from if_pos he,← J1 C]; done)
end
end Go.Proofs.YtlajhejcfcoddaaGreatDoor
