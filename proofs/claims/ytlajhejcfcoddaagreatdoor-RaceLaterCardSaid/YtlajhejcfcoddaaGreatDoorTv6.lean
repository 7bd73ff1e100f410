/-
 The statement raceLater_said, part 6 of 8: B5, B6, Frozen, MarkD, Marks, Follow, OpenM, V2, V1, V4, V3, V5, V6, V8, Wh2, Rc2, Rc3, Rc4, Rs3, Rs4, Rs6, Rs7, Rs8, RkB, RaB, RtB, Rp0, Rp1, Rp2, Rt1.
 Conditions: none.
-/
import Derived.Test.YtlajhejcfcoddaaGreatDoorTv1
import Derived.Test.YtlajhejcfcoddaaGreatDoorTv2
import Derived.Test.YtlajhejcfcoddaaGreatDoorTv3
import Derived.Test.YtlajhejcfcoddaaGreatDoorTv4
import Derived.Test.YtlajhejcfcoddaaGreatDoorTv5
namespace Go.Proofs.YtlajhejcfcoddaaGreatDoor
set_option maxRecDepth 100000
set_option maxHeartbeats 4000000
set_option linter.unusedVariables false
section
open Go.RowKit
theorem Qs (l:aY) (kA:OA) (kC:Nat) (az:List RA) (cA:OA) (cC:Nat) (bA:OA) (bC:Nat) (hin:eA l az):
 eB Tryz.prog 153 [(vA (b_.cells (lO l kA kC cA cC bA bC)))] [(rd kA l.aL.length 9 (l.aL.map al.cells)),(rd cA l.ai.length 2 (List.zipWith ar.cells l.ai az)),(fp (aR ar.ia l.ai az)),(rd bA l.ag.length 4 (l.ag.map bE.cells))] (vB (decide (gH l))):=by
 have R:=hin.si
 have P:=hin.rr
 have N:=hin.nD
 have O:=hin.su
 refine bG kr Tryz.func153 U U fun T Q hQ hN=>?_
 try dsimp only
 refine WS fun _ G=>fZ U fun S=>bk 1 U<|RK G<|WS fun _ A=>rP 2 [] (mc 0 U mn) ?_
 refine dj (xs:=[.tmp 4]) (cs:=[(vI l.gK)]) U cK jA U U U U (by simp [Value.cells]) U U fun H=>?_
 refine rS (CL (eB.eq (jn 1 5000 ([l.gK]) (some ⟨H,0,none⟩) 1 (by (simp; done))) cZ) (aq (bf 0 U U (by simp [bH]) U)<|aJ) U) ?_
 refine rP 1 [] mn ?_
 refine ck (t:=7) U (aN fun K=>?_) (aO fun K=>?_)
 ·refine rP 36 [] mn ?_
  refine RK A<|av<|Q1 hQ U U U ?_
  exact cB (cy (by unfold gH; omega)).symm
 refine rP 3 [] (mc 1 U mn) ?_
 refine dj (xs:=[.tmp 10]) (cs:=[(vI (l.ai.length:Int))]) U cK jA U U U U (by simp [Value.cells]) U U fun AA=>?_
 refine rS (CL (eB.eq (jn 1 4 ([(l.ai.length:Int)]) (some ⟨AA,0,none⟩) 1 (by (simp; done))) cZ) (aq (bf 0 U U (by simp [bH]) U)<|aJ) U) ?_
 refine rP 2 [] mn ?_
 refine ck (t:=14) U (aN fun L=>?_) (aO fun L=>?_)
 ·refine rP 29 [] mn ?_
  refine RK A<|av<|Q1 hQ U U U ?_
  exact cB (cy (by unfold gH; omega)).symm
 refine rP 3 [] (mc 2 U mn) ?_
 refine dj (xs:=[.tmp 17]) (cs:=[(vI (l.ag.length:Int))]) U cK jA U U U U (by simp [Value.cells]) U U fun J=>?_
 refine rS (CL (eB.eq (jn 1 6 ([(l.ag.length:Int)]) (some ⟨J,0,none⟩) 1 (by (simp; done))) cZ) (aq (bf 0 U U (by simp [bH]) U)<|aJ) U) ?_
 refine rP 2 [] mn ?_
 refine ck (t:=21) U (aN fun M=>?_) (aO fun M=>?_)
 ·refine rP 22 [] mn ?_
  refine RK A<|av<|Q1 hQ U U U ?_
  exact cB (cy (by unfold gH; omega)).symm
 refine rP 6 [] (mc 3 U mn) ?_
 refine dj (xs:=[.tmp 27]) (cs:=[(vI l.bS)]) U cK jA U U U U (by simp [Value.cells]) U U fun B=>?_
 refine rS (CL (eB.eq (jn 0 ((l.ag.length:Int)-1) ([l.bS]) (some ⟨B,0,none⟩) 1 (by (simp; done))) cZ) (aq (bf 0 U U (by simp [bH]) U)<|aJ) U) ?_
 refine rP 2 [] mn ?_
 refine ck (t:=31) U (aN fun E=>?_) (aO fun E=>?_)
 ·refine rP 12 [] mn ?_
  refine RK A<|av<|Q1 hQ U U U ?_
  exact cB (cy (by unfold gH; omega)).symm
 refine rP 2 [] (mc 4 U mn) ?_
 refine dj (xs:=[.tmp 33]) (cs:=[(vI l.eg)]) U cK jA U U U U (by simp [Value.cells]) U U fun C=>?_
 refine rS (CL (eB.eq (jn 0 3 ([l.eg]) (some ⟨C,0,none⟩) 1 (by (simp; done))) cZ) (aq (bf 0 U U (by simp [bH]) U)<|aJ) U) ?_
 refine rP 2 [] mn ?_
 refine ck (t:=37) U (aN fun F=>?_) (aO fun F=>?_)
 ·refine rP 6 [] mn ?_
  refine RK A<|av<|Q1 hQ U U U ?_
  exact cB (cy (by unfold gH; omega)).symm
 refine rP 2 [] (mc 5 U mn) ?_
 refine dj (xs:=[.tmp 39]) (cs:=[(vI l.cM)]) U cK jA U U U U (by simp [Value.cells]) U U fun D=>?_
 refine rS (CL (eB.eq (jn 0 3 ([l.cM]) (some ⟨D,0,none⟩) 1 (by (simp; done))) cZ) (aq (bf 0 U U (by simp [bH]) U)<|aJ) U) ?_
 refine rP 2 [] mn ?_
 refine RK A<|av<|Q1 hQ U U U ?_
 exact cB (gN.2 (by unfold gH; omega))
theorem Q6 (l:aY) (kA:OA) (kC:Nat) (az:List RA) (cA:OA) (cC:Nat) (bA:OA) (bC:Nat) (hin:eA l az):
 eB Tryz.prog 154 [(vA (b_.cells (lO l kA kC cA cC bA bC)))] [(rd kA l.aL.length 9 (l.aL.map al.cells)),(rd cA l.ai.length 2 (List.zipWith ar.cells l.ai az)),(fp (aR ar.ia l.ai az)),(rd bA l.ag.length 4 (l.ag.map bE.cells))] (vB (decide (∀ c∈l.ai,eJ c))):=by
 have H:=hin.si
 have G:=hin.rr
 have E:=hin.nD
 have F:=hin.su
 refine bG kr Tryz.func154 U U fun K Q hQ hN=>?_
 try dsimp only
 refine WS fun _ C=>fZ U fun J=>bk 1 U<|RK C<|WS fun _ D=>rP 2 [] (mc 0 U mn) ?_
 refine rS (CL (AK l.ai az cA cC (Value.func (.func 156) [].toArray [].toArray) (fun m=>(!(decide (eJ m)))) (fp (aR ar.ia l.ai az)) (by intro AA m a B A; exact od (fi:=[]) (ca:=[]) (Sp l.ai az AA m a (by exact B) (by exact A) (by exact hin.Px _ _ _ B A))) asm asm) (OC 2 3 3 U U U U U U) U) ?_
 refine rP 2 [] mn ?_
 refine RK D<|av<|Q1 hQ U U U ?_
 exact cB (by rw [Bool.eq_iff_iff,decide_eq_true_eq]; exact Ed)
theorem QQ (b:bE) (l:aY) (kA:OA) (kC:Nat) (az:List RA) (cA:OA) (cC:Nat) (bA:OA) (bC g1:Nat) (hin:eA l az) (htr:de l.aL=true):
 eB Tryz.prog 160 [(vA (bE.cells b)),(vP g1)] [(rd kA l.aL.length 9 (l.aL.map al.cells)),(rd cA l.ai.length 2 (List.zipWith ar.cells l.ai az)),(fp (aR ar.ia l.ai az)),(rd bA l.ag.length 4 (l.ag.map bE.cells)),(cm g1 28 (b_.cells (lO l kA kC cA cC bA bC)))] (vB (!(decide (kl l b)))):=by
 have J:=hin.si
 have H:=hin.rr
 have F:=hin.nD
 have G:=hin.su
 have AA:=hin.side
 refine bG kr Tryz.func160 U U fun M Q hQ hN=>?_
 try dsimp only
 refine WS fun _ C=>fZ U fun K=>bk 1 U<|RK C<|WS fun _ D=>bk 1 U<|rS (Wj (bD.cells (bD.mk (bp.mk kA l.aL.length kC))) 5 U cp U U U)<|bk 1 U<|rS (LP (cN.cells b.m0) 0 U cp U U U)<|rS (CL (Sr l.aL kA kC b.m0 asm asm) (bo [1]) U)<|bk 3 U<|AL U dA fun L=>gd U cz U<|bk 1 U<|RK D<|WS fun _ B=>rP 3 [] mn ?_
 refine dx (t:=16) U (bw fun A=>?_) (bu fun A=>?_)
 ·refine rP 11 [] mn ?_
  refine RK B<|av<|Q1 hQ U U U ?_
  (refine cB ?_; rw [cy (fun h:kl l b=>A ((FZ htr).2 h.1))]; rfl)
 refine rP 6 [0,1] (mr 6 U (mc 1 U mn)) ?_
 refine dj (xs:=[.tmp 22]) (cs:=[(vI b.jC)]) U cK jA U U U U (by simp [Value.cells]) U U fun E=>?_
 refine rS (CL (eB.eq (jn 0 ((l.ai.length:Int)-1) ([b.jC]) (some ⟨E,0,none⟩) 1 (by (simp; done))) cZ) (aq (bf 0 U U (by simp [bH]) U)<|aJ) U) ?_
 refine rP 3 [] mn ?_
 refine RK B<|av<|Q1 hQ U U U ?_
 (refine cB ?_; refine congrArg Bool.not (gN.2 ⟨fun h=>⟨(FZ htr).1 A,I,I⟩,fun h=>by have:=h.2; omega⟩))
theorem Ri (l:aY) (kA:OA) (kC:Nat) (az:List RA) (cA:OA) (cC:Nat) (bA:OA) (bC:Nat) (hin:eA l az) (htr:de l.aL=true):
 eB Tryz.prog 158 [(vA (b_.cells (lO l kA kC cA cC bA bC)))] [(rd kA l.aL.length 9 (l.aL.map al.cells)),(rd cA l.ai.length 2 (List.zipWith ar.cells l.ai az)),(fp (aR ar.ia l.ai az)),(rd bA l.ag.length 4 (l.ag.map bE.cells))] (vB (decide (∀ b∈l.ag,kl l b))):=by
 have H:=hin.si
 have G:=hin.rr
 have E:=hin.nD
 have F:=hin.su
 refine bG kr Tryz.func158 U U fun AA Q hQ hN=>?_
 try dsimp only
 refine WS fun _ B=>fZ U fun A=>bk 1 U<|RK B<|WS fun _ C=>rP 2 [] (mc 0 U mn) ?_
 refine rS (FU U) ?_
 refine rS (CL (Av l.ag bA bC (Value.func (.func 160) [].toArray [(vP A)].toArray) (fun D=>(!(decide (kl l D)))) (fp [(rd kA l.aL.length 9 (l.aL.map al.cells)),(rd cA l.ai.length 2 (List.zipWith ar.cells l.ai az)),(fp (aR ar.ia l.ai az)),(rd bA l.ag.length 4 (l.ag.map bE.cells)),(cm A 28 (b_.cells (lO l kA kC cA cC bA bC)))]) (by intro D _; exact od (fi:=[]) (ca:=[(vP A)]) (mE (QQ D l kA kC az cA cC bA bC A (by first|assumption|omega) (by first|assumption|omega)) (bo [0,1,2,3,4]))) asm) (fB 4 U U<|aq (mH (bo [1,2,3,4,0]))<|aJ) U) ?_
 refine rP 2 [] mn ?_
 refine RK C<|av<|Q1 hQ U U U ?_
 exact cB (by rw [Bool.eq_iff_iff,decide_eq_true_eq]; exact Hl)
theorem PC (l:aY) (kA:OA) (kC:Nat) (az:List RA) (cA:OA) (cC:Nat) (bA:OA) (bC:Nat) (n:Int) (hin:eA l az) (htr:de l.aL=true) (hbk: ∀ b∈l.ag,kl l b) (hn:0≤n∧n<(l.ag.length:Int)):
 eB Tryz.prog 96 [(vA (b_.cells (lO l kA kC cA cC bA bC))),(vI n)] [(rd kA l.aL.length 9 (l.aL.map al.cells)),(rd cA l.ai.length 2 (List.zipWith ar.cells l.ai az)),(fp (aR ar.ia l.ai az)),(rd bA l.ag.length 4 (l.ag.map bE.cells))] (vI (mB l n.toNat)):=by
 have P:=hin.si
 have N:=hin.rr
 have L:=hin.nD
 have M:=hin.su
 have O:=hin.side
 refine bG kr Tryz.func96 U U fun AA Q hQ hN=>?_
 try dsimp only
 refine WS fun _ E=>fZ U fun R=>bk 1 U<|RK E<|WS fun _ F=>rP 3 [] (mc 0 U mn) ?_
 obtain ⟨x,hx⟩:=aK l.ag ((n).toNat) I
 have J:=bQ bE.cells hx
 refine rS (IA ((n).toNat) U (aA 4 U) vx dc I I)<|rS (lZ (((n).toNat)*4) U (aA 4 U) (Nat.mul_pos I dc) fc U)<|rS (oE ((n).toNat) 0 (cN.cells x.m0) U cp (aA 4 U) J U dc U U)<|AL U Dd fun S=>gd U Mc U<|RK F<|WS fun _ G=>bk 1 U<|rS (LP (bD.cells (bD.mk (bp.mk kA l.aL.length kC))) 1 U cp U U U)<|fP 1 [] (mc 0 U mn) U<|rS (CL (Sr l.aL kA kC x.m0 asm asm) (bo [2]) U)<|bk 3 U<|AL U dA fun T=>gd U cz U<|bk 1 U<|RK G<|aj fun _ C=>WS fun _ H=>rP 2 [] mn ?_
 refine RK H<|bR U (aN fun D=>?_) (aO fun D=>?_)
 ·refine WK C<|WS fun _ B=>rP 3 [] (mc 0 U mn) ?_
  refine RK B<|av<|Q1 hQ U U U ?_
  (refine congrArg (Value.int .i64) ?_; rw [show n.toNat=0 by omega] at hx ⊢; rw [z7 hx,(xB htr (hbk _ (List.mem_of_getElem? hx)).1).2])
 refine dK cE [14] [] [] [1,2,3,4,5,6] [] U U U U U<|eS U (FA 0 U fc U)<|eS U (LP (bD.cells (bD.mk (bp.mk kA l.aL.length kC))) 1 U cp U U U)<|eS U (FA 3 U fc U)<|eS U (L1 (vS bA l.ag.length bC) 1 U cp U U)<|eS U (MV U)<|eS U (BI U (sN ⟨I,I⟩)) ?_
 obtain ⟨y,hy⟩:=aK l.ag (((n-1)).toNat) I
 have K:=bQ bE.cells hy
 refine eS U (IA (((n-1)).toNat) U (aA 5 U) vx dc I I)<|eS U (lZ ((((n-1)).toNat)*4) U (aA 5 U) (Nat.mul_pos I dc) fc U)<|eS U (oE (((n-1)).toNat) 0 (cN.cells y.m0) U cp (aA 5 U) K U dc U U)<|eS U (LW 0 U cp U U)<|eS U (CL (NV l.aL kA kC y.m0 x.m0 asm asm) (bo [2]) U)<|eS U (MV U)<|eS U (EX U)<|eS U (EX U)<|eU U<|cf U fun T9 AB=>gd U cz U<|aB (AB _ _ (aI [1,2,3,4,5,6]) ?_)
 refine fF U<|KK C<|WS fun _ A=>rP 3 [] (mc 0 U mn) ?_
 refine RK A<|av<|Q1 hQ U U U ?_
 (refine congrArg (Value.int .i64) ?_; rw [Dx I hx (by rw [show n.toNat-1=(n-1).toNat by omega]; exact hy),(lI htr ⟨(hbk _ (List.mem_of_getElem? hy)).1,(hbk _ (List.mem_of_getElem? hx)).1⟩).2])
theorem Qz (l:aY) (kA:OA) (kC:Nat) (az:List RA) (cA:OA) (cC:Nat) (bA:OA) (bC:Nat) (hin:eA l az) (htr:de l.aL=true) (hbk: ∀ b∈l.ag,kl l b):
 eB Tryz.prog 161 [(vA (b_.cells (lO l kA kC cA cC bA bC)))] [(rd kA l.aL.length 9 (l.aL.map al.cells)),(rd cA l.ai.length 2 (List.zipWith ar.cells l.ai az)),(fp (aR ar.ia l.ai az)),(rd bA l.ag.length 4 (l.ag.map bE.cells))] (vB (decide (∀ i,i<l.ag.length→1≤mB l i))):=by
 have V:=hin.si
 have AA:=hin.rr
 have S:=hin.nD
 have T:=hin.su
 refine bG kr Tryz.func161 U U fun X Q hQ hN=>?_
 try dsimp only
 refine WS fun _ J=>fZ U fun W=>bk 1 U<|RK J<|aj fun _ K=>WS fun _ L=>rP 4 [] (mc 0 U mn) ?_
 refine RK L<|ax ?_
 have A:(0≤l.ag.length)∧(∀ j,j<0→1≤mB l j):=by exact ⟨Nat.zero_le _,fun j hj=>absurd hj (Nat.not_lt_zero _)⟩
 refine bJ (ι:={z:Nat // (z≤l.ag.length)∧(∀ j,j<z→1≤mB l j)}) [1,6] [0,1,2,3,4] U U (fun z=>[(7,(vI (z.1:Int)))]) (fun z=>[]) (fun _=>rfl) (fun _=>rfl) (fun z=>l.ag.length-z.1) ⟨0,A⟩ (aT U) (aI [0,1,2,3,4]) ?_
 clear A
 rintro ⟨i,⟨P,B⟩⟩ J5 AB
 try dsimp only
 refine WS fun _ M=>rP 1 [] mn ?_
 refine RK M<|aj fun _ N=>bR U (aN fun R=>?_) (aO fun R=>?_)
 ·refine bB<|ab<|ab<|ay<|KK K<|WS fun _ G=>rP 1 [] mn ?_
  refine RK G<|av<|Q1 hQ U U U ?_
  exact cB (gF (fun j hj=>B j I)).symm
 refine WK N<|aj fun _ O=>ax<|WS fun _ D=>bk 2 U<|RK D<|WS fun _ E=>fP 2 [] (mc 0 U mn) U<|rS (CL (PC l kA kC az cA cC bA bC (i:Int) hin htr hbk I) (bo [1,2,3,4]) U)<|rP 1 [] mn ?_
 refine RK E<|cP U (aO fun C=>?_) (aN fun C=>?_)
 ·refine WS fun _ F=>rP 1 [] mn ?_
  refine RK F<|av<|Q1 hQ U U U ?_
  exact cB (cy (fun h=>by have:=h i I; simp only [Int.toNat_natCast] at C; omega)).symm
 refine ct<|aF<|KK O<|ak<|rP 2 [] mn ?_
 refine aB ?_
 have H:(vI (((i+1):Nat):Int))=(vI ((i:Int)+1)):=by exact cI I
 refine aU (AB ⟨(i+1),⟨I,fun j hj=>by rcases Nat.lt_or_ge j i with q|q; exact B j q; (obtain rfl:j=i:=by omega); simp only [Int.toNat_natCast] at C; omega⟩⟩ _ _ _ rfl os (dI.cons rfl<|dI.cons rfl<|bj rfl H<|dI.nil _) (aI [0,1,2,3,4]))
end
section
open Go.RowKit
theorem Qk:
 eB Tryz.prog 111 [] [] (vA ((g0.cells (g0.mk (Value.func (.func 153) [].toArray [].toArray)))++(g0.cells (g0.mk (Value.func (.func 154) [].toArray [].toArray)))++(g0.cells (g0.mk (Value.func (.func 158) [].toArray [].toArray)))++(g0.cells (g0.mk (Value.func (.func 161) [].toArray [].toArray))))):=by
 refine bG kr Tryz.func111 U U fun D Q hQ hN=>?_
 try dsimp only
 refine WS fun _ A=>AL U Ss fun C=>RK A<|WS fun _ B=>rS (SX (bg (xs:=[(0,.func 153)]) (cs:=(g0.cells (g0.mk (Value.func (.func 153) [].toArray [].toArray)))) U U (bh F5 U)) U U)<|rS (SX (bg (xs:=[(0,.func 154)]) (cs:=(g0.cells (g0.mk (Value.func (.func 154) [].toArray [].toArray)))) U U (bh F5 U)) U U)<|rS (SX (bg (xs:=[(0,.func 158)]) (cs:=(g0.cells (g0.mk (Value.func (.func 158) [].toArray [].toArray)))) U U (bh F5 U)) U U)<|rS (SX (bg (xs:=[(0,.func 161)]) (cs:=(g0.cells (g0.mk (Value.func (.func 161) [].toArray [].toArray)))) U U (bh F5 U)) U U)<|rS (SX (bg (xs:=[(0,.tmp 1),(1,.tmp 2),(2,.tmp 3),(3,.tmp 4)]) (cs:=((g0.cells (g0.mk (Value.func (.func 153) [].toArray [].toArray)))++(g0.cells (g0.mk (Value.func (.func 154) [].toArray [].toArray)))++(g0.cells (g0.mk (Value.func (.func 158) [].toArray [].toArray)))++(g0.cells (g0.mk (Value.func (.func 161) [].toArray [].toArray))))) U U (bh TW U)) U U)<|gd U TD U<|RK B<|av ?_
 exact I3 hQ [0] (mc 0 U mn) U U
theorem Cf (l:aY) (kA:OA) (kC:Nat) (az:List RA) (cA:OA) (cC:Nat) (bA:OA) (bC:Nat) (hin:eA l az):
 eB Tryz.prog 73 [(vA (b_.cells (lO l kA kC cA cC bA bC)))] [(rd kA l.aL.length 9 (l.aL.map al.cells)),(rd cA l.ai.length 2 (List.zipWith ar.cells l.ai az)),(fp (aR ar.ia l.ai az)),(rd bA l.ag.length 4 (l.ag.map bE.cells))] (vI (c_ l)):=by
 have A3:=hin.si
 have A1:=hin.rr
 have AO:=hin.nD
 have A0:=hin.su
 have A2:=hin.side
 refine bG kr Tryz.func73 U U fun w0 Q hQ hN=>?_
 try dsimp only
 refine WS fun _ m=>fZ U fun b2=>bk 1 U<|RK m<|aj fun _ n=>WS fun _ o=>bk 1 U<|rS (LP (bD.cells (bD.mk (bp.mk kA l.aL.length kC))) 0 U cp U U U)<|rS (CL (Dw l.aL kA kC asm asm) (bo [1]) U)<|bk 1 U<|RK o<|WS fun _ p=>rP 2 [] mn ?_
 refine RK p<|cP U (bw fun B=>?_) (bu fun B=>?_)
 ·refine WS fun _ q=>rP 2 [] mn ?_
  refine RK q<|av<|Q1 hQ U U U ?_
  (refine cI ?_; rw [(z5 B).2,zR (z5 B).1])
 refine WK n<|aj fun _ s=>WS fun _ t=>?_
 have A:=Fu B
 refine rS (CL Qk (aJ) U)<|bk 1 U<|RK t<|ax<|ki 5<|eH fun R9 u=>WS fun _ C=>rS (SX (cd (r:= .bool true) U U U ib) U U)<|RK C<|aj fun _ D=>aQ U<|WK D<|aj fun _ E=>ax<|WS fun _ F=>rS (SX (tJ (vs:=(g0.cells (g0.mk (Value.func (.func 153) [].toArray [].toArray)))) 0 U U U Gd cp U dc U) U U)<|AL U FX fun x=>gd U GX U<|RK F<|WS fun _ G=>fP 3 [0,1] (mc 0 U (mc 1 U mn)) U<|rS (CL (Qs l kA kC az cA cC bA bC hin) (bo [2,3,4,5]) U)<|rP 1 [] mn ?_
 refine RK G<|cP U (bw fun g=>?_) (bu fun g=>?_)
 ·refine WS fun _ H=>rP 1 [] mn ?_
  refine RK H<|av<|Q1 hQ U U U ?_
  exact cI (rl A fun h=>absurd h.head asm).symm
 refine ct<|aF<|KK E<|ak<|rS (SX (cd (r:= .int .i64 1) U U U (iq ⟨dc,dc⟩)) U U)<|bk 1 U<|RK u<|eH fun R18 d=>WS fun _ AB=>rS (SX (cd (r:= .bool true) U U U ib) U U)<|RK AB<|aj fun _ J=>aQ U<|WK J<|aj fun _ K=>ax<|WS fun _ L=>rS (SX (tJ (vs:=(g0.cells (g0.mk (Value.func (.func 154) [].toArray [].toArray)))) 1 U U U Gd cp U dc U) U U)<|AL U FX fun y=>gd U GX U<|RK L<|WS fun _ M=>fP 3 [0,1] (mc 0 U (mc 2 U mn)) U<|rS (CL (Q6 l kA kC az cA cC bA bC hin) (bo [3,4,5,6]) U)<|rP 1 [] mn ?_
 refine RK M<|cP U (bw fun i=>?_) (bu fun i=>?_)
 ·refine WS fun _ N=>rP 1 [] mn ?_
  refine RK N<|av<|Q1 hQ U U U ?_
  exact cI (rl A fun h=>absurd h.clock asm).symm
 refine ct<|aF<|KK K<|ak<|rS (SX (cd (r:= .int .i64 2) U U U (iq ⟨dc,dc⟩)) U U)<|bk 1 U<|RK d<|eH fun R27 e=>WS fun _ O=>rS (SX (cd (r:= .bool true) U U U ib) U U)<|RK O<|aj fun _ P=>aQ U<|WK P<|aj fun _ R=>ax<|WS fun _ S=>rS (SX (tJ (vs:=(g0.cells (g0.mk (Value.func (.func 158) [].toArray [].toArray)))) 2 U U U Gd cp U dc U) U U)<|AL U FX fun z=>gd U GX U<|RK S<|WS fun _ T=>fP 3 [0,1] (mc 0 U (mc 3 U mn)) U<|rS (CL (Ri l kA kC az cA cC bA bC hin asm) (bo [4,5,6,7]) U)<|rP 1 [] mn ?_
 refine RK T<|cP U (bw fun j=>?_) (bu fun j=>?_)
 ·refine WS fun _ AA=>rP 1 [] mn ?_
  refine RK AA<|av<|Q1 hQ U U U ?_
  exact cI (rl A fun h=>absurd h.sk asm).symm
 refine ct<|aF<|KK R<|ak<|rS (SX (cd (r:= .int .i64 3) U U U (iq ⟨dc,dc⟩)) U U)<|bk 1 U<|RK e<|eH fun R36 f=>WS fun _ V=>rS (SX (cd (r:= .bool true) U U U ib) U U)<|RK V<|aj fun _ W=>aQ U<|WK W<|aj fun _ X=>ax<|WS fun _ Y=>rS (SX (tJ (vs:=(g0.cells (g0.mk (Value.func (.func 161) [].toArray [].toArray)))) 3 U U U Gd cp U dc U) U U)<|AL U FX fun AC=>gd U GX U<|RK Y<|WS fun _ Z=>fP 3 [0,1] (mc 0 U (mc 4 U mn)) U<|rS (CL (Qz l kA kC az cA cC bA bC hin asm asm) (bo [5,6,7,8]) U)<|rP 1 [] mn ?_
 refine RK Z<|cP U (bw fun k=>?_) (bu fun k=>?_)
 ·refine WS fun _ a=>rP 1 [] mn ?_
  refine RK a<|av<|Q1 hQ U U U ?_
  exact cI (rl A fun h=>absurd h.RM asm).symm
 refine ct<|aF<|KK X<|ak<|rS (SX (cd (r:= .int .i64 4) U U U (iq ⟨dc,dc⟩)) U U)<|bk 1 U<|RK f<|eH fun R45 w=>WS fun _ b=>rS (SX (cd (r:= .bool false) U U U ib) U U)<|RK b<|aj fun _ v=>aZ U<|bB<|ab<|ab<|ay<|KK s<|WS fun _ c=>rP 1 [] mn ?_
 refine RK c<|av<|Q1 hQ U U U ?_
 exact cI (yk A (Al asm asm asm asm)).symm
theorem Cy (lo hi:Int) (f:Value) (p:Int→Bool) (X:aw) (r:Int) (hf: ∀ x0,0≤x0∧x0<hi→Fb Tryz.prog f [.int .i64 x0] [X] (.bool (p x0))) (hb:0≤lo∧lo≤r∧r≤hi∧hi≤100000000) (hno: ∀ x,lo≤x→x<r→p x=false) (hyes: ∀ x,r≤x→x<hi→p x=true):
 eB Tryz.prog 137 [(vI lo),(vI hi),f] [X] (vI r):=by
 refine bG kr Tryz.func137 U U fun N Q hQ hN=>?_
 try dsimp only
 refine WS fun _ F=>rP 1 [] mn ?_
 refine RK F<|aj fun _ G=>ax ?_
 have A:(lo≤lo∧lo≤r)∧(r≤hi∧hi≤hi):=by omega
 refine bJ (ι:={z:Int×Int // (lo≤z.1∧z.1≤r)∧(r≤z.2∧z.2≤hi)}) [2] [0] U U (fun z=>[(0,(vI z.1.1)),(1,(vI z.1.2))]) (fun z=>[]) (fun _=>rfl) (fun _=>rfl) (fun z=>(z.1.2-z.1.1).toNat) ⟨(lo,hi),A⟩ (aT U) (aI [0]) ?_
 clear A
 rintro ⟨⟨a,b⟩,⟨B,C⟩⟩ J3 D
 try dsimp only at B C
 try dsimp only
 refine aj fun _ H=>WS fun _ AA=>rP 3 [] mn ?_
 refine RK AA<|bR U (aN fun M=>?_) (aO fun M=>?_)
 ·refine bB<|ab<|ab<|ay<|KK G<|WS fun _ L=>rP 2 [] mn ?_
  refine RK L<|av<|Q1 hQ U U U ?_
  exact cI I
 refine WK H<|ax<|WS fun _ J=>bk 4 U<|rS (BI U (uk I I I))<|bk 2 U<|RK J<|WS fun _ K=>rP 2 [] mn ?_
 refine rS (SX (s7 U U U (hf (a+((b-a)/2)) I) (bo [0])) U U)<|RK K<|cP U (fun hp=>?_) (fun hp=>?_)
 ·refine ak<|rP 2 [] mn ?_
  refine aB<|aF ?_
  refine aU (D ⟨(a,(a+((b-a)/2))),(by dsimp only; rcases Int.lt_or_le (a+(b-a)/2) r with q|q; (have E:=hno _ I q; (rw [E] at hp; cases hp)); (have E:=hyes _ q I; (refine ⟨⟨I,I⟩,I,I⟩)))⟩ _ _ _ rfl (by simp only []; omega) (aT rfl) (aI [0]))
 refine ak<|rP 3 [] mn ?_
 refine aB<|aF ?_
 refine aU (D ⟨(((a+((b-a)/2))+1),b),(by dsimp only; rcases Int.lt_or_le (a+(b-a)/2) r with q|q; (have E:=hno _ I q; (refine ⟨⟨I,I⟩,I,I⟩)); (have E:=hyes _ q I; (rw [E] at hp; cases hp)))⟩ _ _ _ rfl (by simp only []; omega) (aT rfl) (aI [0]))
theorem JE (u:Int) (c:ar) (sA:OA) (sC g1:Nat) (s:aH) (g2:Nat) (hc:eJ c) (hu:0≤u∧u≤90000000):
 eB Tryz.prog 138 [(vI u),(vP g1),(vP g2)] [(rd sA c.aX.length 3 (c.aX.map cr.cells)),(cm g1 53 (dD.cells (dD.mk c.dv (bp.mk sA c.aX.length sC)))),(cm g2 107 (aH.cells s))] (vB (decide (s.Read≤u+(gQ c u).Hi))):=by
 have C:=q8 hc hu
 refine bG kr Tryz.func138 U U fun D Q hQ hN=>?_
 try dsimp only
 refine WS fun _ A=>bk 1 U<|RK A<|aj fun _ B=>dM cE 10 kr<|m_ 3 [] (mr 1 U mn) U<|dS (CL (F4 c sA sC u hc hu) (bo [0]) U)<|dS (SX (lk (v:=(vI ((gQ c u).Hi))) U U fc By U) U U)<|dP 5 [] (mr 2 U mn) ?_
 refine cR<|RK B<|av ?_
 exact Q1 hQ U U U U
theorem Jl (u:Int) (c:ar) (sA:OA) (sC g1:Nat) (s:aH) (g2:Nat) (hc:eJ c) (hu:0≤u∧u≤90000000):
 eB Tryz.prog 140 [(vI u),(vP g1),(vP g2)] [(rd sA c.aX.length 3 (c.aX.map cr.cells)),(cm g1 53 (dD.cells (dD.mk c.dv (bp.mk sA c.aX.length sC)))),(cm g2 107 (aH.cells s))] (vB (decide (s.Read<u+(gQ c u).Lo))):=by
 have C:=q8 hc hu
 refine bG kr Tryz.func140 U U fun D Q hQ hN=>?_
 try dsimp only
 refine WS fun _ A=>bk 1 U<|RK A<|aj fun _ B=>dM cE 10 kr<|m_ 3 [] (mr 1 U mn) U<|dS (CL (F4 c sA sC u hc hu) (bo [0]) U)<|dS (SX (lk (v:=(vI ((gQ c u).Lo))) U U fc AZ U) U U)<|dP 5 [] (mr 2 U mn) ?_
 refine cR<|RK B<|av ?_
 exact Q1 hQ U U U U
theorem LC (l:aY) (kA:OA) (kC:Nat) (az:List RA) (cA:OA) (cC:Nat) (bA:OA) (bC:Nat) (s:aH) (hin:eA l az) (hok:lJ l) (hs:(0≤s.fR∧s.fR≤(l.ag.length:Int)-1)∧0≤s.Read∧s.Read≤86400000):
 eB Tryz.prog 97 [(vA (b_.cells (lO l kA kC cA cC bA bC))),(vA (aH.cells s))] [(rd kA l.aL.length 9 (l.aL.map al.cells)),(rd cA l.ai.length 2 (List.zipWith ar.cells l.ai az)),(fp (aR ar.ia l.ai az)),(rd bA l.ag.length 4 (l.ag.map bE.cells))] (vA (aa.cells (cD l s))):=by
 have V:=hin.si
 have S:=hin.rr
 have P:=hin.nD
 have R:=hin.su
 refine bG kr Tryz.func97 U U fun Z Q hQ hN=>?_
 try dsimp only
 refine WS fun _ AB=>fZ U fun X=>fZ U fun D=>AL U dA fun Y=>RK AB<|aj fun _ J=>dK cE [11,12] [] [] [0,1,2,3,4,5,6] [] U U U U U<|eS U (FA 2 U fc U)<|eS U (L1 (vS cA l.ai.length cC) 2 U cp U U)<|eS U (FA 3 U fc U)<|eS U (L1 (vS bA l.ag.length bC) 2 U cp U U)<|eS U (FA 0 U fc U)<|eS U (L1 (vI s.fR) 1 U cp U U) ?_
 obtain ⟨y,hy⟩:=aK l.ag ((s.fR).toNat) I
 have O:=bQ bE.cells hy
 refine eS U (IA ((s.fR).toNat) U (aA 6 U) vx dc I I)<|eS U (lZ ((((s.fR).toNat)*4)+3) U (aA 6 U) (Nat.mul_pos I dc) fc U)<|eS U (gl ((s.fR).toNat) 3 (vI y.jC) U cp (aA 6 U) O U dc U) ?_
 have W:=(hok.sk _ (aS hy)).2
 obtain ⟨x,hx⟩:=aK l.ai ((y.jC).toNat) I
 obtain ⟨xa,F⟩:=aK az ((y.jC).toNat) I
 have N:(List.zipWith ar.cells l.ai az)[(y.jC).toNat]? =some (ar.cells x xa):=dB hx F
 refine eS U (IA ((y.jC).toNat) U (aA 4 U) uC dc I I)<|eS U (oE ((y.jC).toNat) 0 (dD.cells (dD.mk x.dv (bp.mk xa.1 x.aX.length xa.2))) U cp (aA 4 U) N U dc U U)<|eU U<|cf U fun T6 L=>AL U OY fun E=>aB (L _ _ (aI [1,2,3,4,5,6,7]) ?_)
 refine cf U fun T8 M=>gd U Tj U<|aB (M _ _ (aI [1,2,3,4,5,6,7]) ?_)
 refine fF U<|KK J<|WS fun _ K=>?_
 have A:=hok.clock _ (aS hx)
 have AA:=iE (p:=fU x s.Read) (n:=86400001)
 have T:=iE (p:=fV x s.Read) (n:=86400001)
 refine rS (FU U) ?_
 refine rS (CL (Cy 0 86400001 (Value.func (.func 138) [].toArray [(vP E),(vP D)].toArray) (fun B=>(decide (s.Read≤B+(gQ x B).Hi))) (fp [(rd xa.1 x.aX.length 3 (x.aX.map cr.cells)),(cm E 53 (dD.cells (dD.mk x.dv (bp.mk xa.1 x.aX.length xa.2)))),(cm D 107 (aH.cells s))]) (fu (fU x s.Read) 86400001) (by intro B _; exact od (fi:=[]) (ca:=[(vP E),(vP D)]) (mE (JE B x xa.1 xa.2 E s D (by first|assumption|omega) (by first|assumption|omega)) (OC 0 1 2 U U U U U U))) I (by intro z G hz; exact (km A G I).1 hz) (by intro z hz H; exact (km A I H).2.1 hz)) (aq (mH (aq (show jh _ (rd xa.1 x.aX.length 3 (x.aX.map cr.cells)).holds from (dC 6 U (bY hx F (by simp [ar.ia]))))<|fB 0 U U<|fB 2 U U<|aJ))<|aJ) U) ?_
 refine rS (FU U) ?_
 refine rS (CL (Cy 0 86400001 (Value.func (.func 140) [].toArray [(vP E),(vP D)].toArray) (fun C=>(decide (s.Read<C+(gQ x C).Lo))) (fp [(rd xa.1 x.aX.length 3 (x.aX.map cr.cells)),(cm E 53 (dD.cells (dD.mk x.dv (bp.mk xa.1 x.aX.length xa.2)))),(cm D 107 (aH.cells s))]) (fu (fV x s.Read) 86400001) (by intro C _; exact od (fi:=[]) (ca:=[(vP E),(vP D)]) (mE (Jl C x xa.1 xa.2 E s D (by first|assumption|omega) (by first|assumption|omega)) (OC 0 1 2 U U U U U U))) I (by intro z G hz; exact (km A G I).2.2.1 hz) (by intro z hz H; exact (km A I H).2.2.2 hz)) (aq (mH (aq (show jh _ (rd xa.1 x.aX.length 3 (x.aX.map cr.cells)).holds from (dC 6 U (bY hx F (by simp [ar.ia]))))<|fB 0 U U<|fB 2 U U<|aJ))<|aJ) U) ?_
 refine rP 1 [] mn ?_
 refine rS (SX (bg (xs:=[(0,.tmp 18),(1,.tmp 21)]) (cs:=(aa.cells (aa.mk (fu (fU x s.Read) 86400001) ((fu (fV x s.Read) 86400001)-1)))) U U (bh gJ U)) U U)<|te U cz U<|RK K<|av<|I3 hQ [0] (mc 1 U mn) U ?_
 unfold cD lX; rw [sQ hy hx]
end
section
open Go.RowKit
structure Jn (S:BS) (w0:World) (X:aw) (C0:List aw) (w:World) (S':BS):Prop where
 st:St S w0 (X::C0) w
 w_: ∀ b,S'.w b↔ ∃ A∈C0,A.wf b
theorem ET {A B:aw} (h:Eb A B):Eb A.ro B:=fun b C D=>⟨fun h=>h,(h b C D).2⟩
theorem CX {E:fr} {c:Code} {Q:db} {D:g5} {L:dk} {C C0:List aw} {X:aw} (i:Nat) (hn:decide (i::(List.range C.length).filter fun k=>k != i).Nodup=true) (hC:kD C (i::(List.range C.length).filter fun k=>k != i)=X::C0)
 (h: ∀ w S',Jn E.S E.w0 X C0 w S'→WJ ⟨E.P,E.r,E.n,S',w⟩ c Q D L (X.ro::C0)):WJ E c Q D L C:=fun a w hf hs=>by
 have F:=St.kD _ hn hC hs
 obtain ⟨G,H⟩:=List.pairwise_cons.1 F.sep
 refine h w ⟨fun b=> ∃ A∈C0,A.wf b,fun _=>True⟩ ⟨F,fun b=>Iff.rfl⟩ a w hf ⟨eh.refl _ _,fun A hA=>?_,List.Pairwise.cons (fun B hB=>ET (G B hB)) H,fun A hA b hb=>?_,fun A hA b hb=> .inr trivial⟩
 ·rcases bx.1 hA with rfl|hA
  ·exact F.holds X (cv ..)
  ·exact F.holds A (cY _ hA)
 ·rcases bx.1 hA with rfl|hA
  ·exact hb.elim
  ·exact .inr ⟨A,hA,hb⟩
theorem AV {E:fr} {S':BS} {w:World} {K:Act→World→Prop} {D:g5} {L:dk} {C0 C1 C2:List aw} {X:aw} (hz:Jn E.S E.w0 X C0 w S') (is:List Nat) (hn:decide is.Nodup=true) (hC:kD C2 is=C1) (hwr:C1.all (·.wr)=true)
 (h:KJ E K D L (X::C1)):KJ ⟨E.P,E.r,E.n,S',w⟩ K D L C2:=fun a w' hf hs=>by
 have F:=St.kD is hn hC hs
 have C:=hz.st
 obtain ⟨J,M⟩:=List.pairwise_cons.1 C.sep
 have AA: ∀ b,X.fJ b→ ¬ S'.w b:=fun b hb hw=>by
  obtain ⟨A,hA,hw⟩:=(hz.w_ b).1 hw
  exact (J A hA b hb (A.kT b hw)).2 hw
 have G: ∀ b,S'.w b→E.w0.heap.size≤b∨E.S.w b:=fun b hb=>by
  obtain ⟨A,hA,hw⟩:=(hz.w_ b).1 hb
  exact C.own A (cY _ hA) b hw
 have H: ∀ A∈C1,∀ b,A.fJ b→w.heap.size≤b∨S'.w b:=fun A hA b hb=>F.own A hA b (A.whole (cV.1 hwr A hA) b hb)
 refine h a w' hf ⟨?_,fun A hA=>?_,List.Pairwise.cons (fun B hB b hb hb'=>?_) F.sep,fun A hA b hb=>?_,fun A hA b hb=>?_⟩
 ·refine ⟨F.keeps.os.trans C.keeps.os,F.keeps.tape.trans C.keeps.tape,F.keeps.output.trans C.keeps.output,Nat.le_trans C.keeps.size F.keeps.size,fun k hk hn'=>?_⟩
  refine (F.keeps.block k (Nat.lt_of_lt_of_le hk C.keeps.size) fun hw=>?_).trans (C.keeps.block k hk hn')
  rcases G k hw with q|q
  ·omega
  ·exact hn' q
 ·rcases bx.1 hA with rfl|hA
  ·have hh:=C.holds A (cv ..)
   exact A.o5 w w' (fun b hb=>F.keeps.block b (A.lt w hh b hb) (AA b hb)) hh
  ·exact F.holds A hA
 ·exfalso
  have hl:=X.lt w (C.holds X (cv ..)) b hb
  rcases H B hB b hb' with q|q
  ·omega
  ·exact AA b hb q
 ·rcases bx.1 hA with rfl|hA
  ·exact C.own A (cv ..) b hb
  ·rcases F.own A hA b hb with q|q
   ·exact .inl (Nat.le_trans C.keeps.size q)
   ·exact G b q
 ·rcases bx.1 hA with rfl|hA
  ·exact C.seen A (cv ..) b hb
  ·rcases H A hA b hb with q|q
   ·exact .inl (Nat.le_trans C.keeps.size q)
   ·obtain ⟨B,hB,hw⟩:=(hz.w_ b).1 q
    exact C.seen B (cY _ hB) b (B.kT b hw)
/-- put back, as it was -/
theorem Hr {M A:Type} {f:M→A→List aw} {S:BS} {w0 w:World} {C:List aw} {ms:List M} {asl:List A} {k:Nat} {m:M} {a:A} {X:aw} (hm:ms[k]? =some m) (ha:asl[k]? =some a) (hf:f m a=[X]) (h:St S w0 (X::br (ff f ms asl k)::C) w):St S w0 (br (aR f ms asl)::C) w:=by
 have B:St S w0 (br (ff f ms asl k)::X::C) w:=h.perm (List.Perm.swap _ _ _)
 have D:St S w0 ((f m a++ff f ms asl k)++C) w:=by
  rw [hf]
  exact B.iw.perm (List.perm_middle (a:=X) (l₁:=ff f ms asl k) (l₂:=C))
 exact jT (jU hm ha).symm D.tied
theorem Lv {E:fr} {K:Act→World→Prop} {D:g5} {L:dk} {C C1:List aw} {M A:Type} {f:M→A→List aw} {ms:List M} {asl:List A} {k:Nat} {m:M} {a:A} {X:aw} (i j:Nat) (hm:ms[k]? =some m) (ha:asl[k]? =some a) (hf:f m a=[X])
 (hn:decide (j::i::(List.range C.length).filter fun k=>k != i&&k != j).Nodup=true) (hC:kD C (j::i::(List.range C.length).filter fun k=>k != i&&k != j)=X::br (ff f ms asl k)::C1)
 (h:KJ E K D L (br (aR f ms asl)::C1)):KJ E K D L C:=fun a w hf' hs=>h a w hf' (Hr hm ha hf (St.kD _ hn hC hs))
theorem Ag {M A:Type} {f:M→A→List aw} {ms:List M} {asl:List A} {m:M} {a:A} {X:aw} (hl:ms.length=asl.length) (hf:f m a=[X]):aR f ms asl++[X]=aR f (ms++[m]) (asl++[a]):=by
 rw [jy hl,← hf]; simp [aR]
theorem zu {E:fr} {K:Act→World→Prop} {D:g5} {L:dk} {C C1:List aw} {M A:Type} {f:M→A→List aw} {ms:List M} {asl:List A} {m:M} {a:A} {X:aw} (i j:Nat) (hf:f m a=[X])
 (hn:decide (j::i::(List.range C.length).filter fun k=>k != i&&k != j).Nodup=true) (hC:kD C (j::i::(List.range C.length).filter fun k=>k != i&&k != j)=X::br (aR f ms asl)::C1)
 (h:KJ E K D L (br (aR f (m::ms) (a::asl))::C1)):KJ E K D L C:=fun b w hf' hs=>by
 have B:=St.kD _ hn hC hs
 have F:St E.S E.w0 (br (aR f ms asl)::X::C1) w:=B.perm (List.Perm.swap _ _ _)
 have G:St E.S E.w0 (aR f (m::ms) (a::asl)++C1) w:=by
  show St E.S E.w0 ((f m a++aR f ms asl)++C1) w
  rw [hf]
  exact F.iw.perm (List.perm_middle (a:=X) (l₁:=aR f ms asl) (l₂:=C1))
 exact h b w hf' G.tied
end
section
open Go.RowKit
abbrev mm (r:Nat):aw:=lS r (.deferred (some []))
theorem N6 (rs:List Nat):(br (rs.map mm)).wr=true:=by
 show (rs.map mm).all (·.wr)=true
 rw [cV]
 intro X hX
 obtain ⟨r,_,rfl⟩:=bZ.1 hX
 rfl
theorem wF {E:fr} {c:Code} {Q:db} {D:g5} {L:dk} {C:List aw} {ι:Type} (Di:ι→g5) (Li:ι→dk) (Ci:ι→List aw) (μ:ι→Nat) (x0:ι)
 (hD:D=Di x0) (h0:dI L (Li x0)) (hC: ∀ w,St E.S E.w0 C w→St E.S E.w0 (Ci x0) w)
 (round: ∀ x (J:Act→World→Prop),(∀ y D' L' C',D'=Di y→μ y<μ x→dI L' (Li y)→(∀ w,St E.S E.w0 C' w→St E.S E.w0 (Ci y) w)→KJ E J D' L' C')→WJ E c (Exit.then J Q) (Di x) (Li x) (Ci x)):WJ E (.loop c) Q D L C:=by
 intro a w hf hs
 subst hD
 have H: ∃ x,Fr E.n (Di x) (Li x) a∧St E.S E.w0 (Ci x) w:=⟨x0,hf.sub h0,hC w hs⟩
 clear hf hs
 have key: ∀ (m:Nat) (a:Act) (w:World),(∃ x,μ x=m∧Fr E.n (Di x) (Li x) a∧St E.S E.w0 (Ci x) w)→(Code.loop c).wpIn (Fw E.r) 0 E.P Q a w:=by
  intro m a w hx
  refine wpIn_loop (fun a w=> ∃ x,Fr E.n (Di x) (Li x) a∧St E.S E.w0 (Ci x) w) (fun a w=>leastOf fun k=> ∃ x,μ x=k∧Fr E.n (Di x) (Li x) a∧St E.S E.w0 (Ci x) w) (by obtain ⟨x,_,h⟩:=hx; exact ⟨x,h⟩) ?_
  intro a w hx
  have F: ∃ k,∃ x,μ x=k∧Fr E.n (Di x) (Li x) a∧St E.S E.w0 (Ci x) w:=by obtain ⟨x,h⟩:=hx; exact ⟨_,x,rfl,h⟩
  obtain ⟨x,K,AA,M⟩:=(leastOf_spec F).1
  refine round x _ ?_ a w AA M
  intro y D' L' C' hD G A B a' w' hf' hs'
  subst hD
  refine ⟨⟨y,hf'.sub A,B _ hs'⟩,?_⟩
  rw [← K]
  exact Nat.lt_of_le_of_lt ((leastOf_spec ⟨_,y,U,hf'.sub A,B _ hs'⟩).2 _ ⟨y,U,hf'.sub A,B _ hs'⟩) G
 obtain ⟨x,h⟩:=H
 exact key _ a w ⟨x,U,h⟩
theorem St.Vk {S:BS} {w0 w:World} {C X:List aw} {A:aw} (h:St S w0 (A::br X::C) w):St S w0 (br (A::X)::C) w:=by
 have B:St S w0 (br X::A::C) w:=h.perm (List.Perm.swap _ _ _)
 have D:St S w0 ((A::X)++C) w:=B.iw.perm (List.perm_middle (a:=A) (l₁:=X) (l₂:=C))
 exact D.tied
theorem MR {E:fr} {K:Act→World→Prop} {D:g5} {L:dk} {C C1 X:List aw} {A:aw} (i j:Nat) (hn:decide (j::i::(List.range C.length).filter fun k=>k != i&&k != j).Nodup=true) (hC:kD C (j::i::(List.range C.length).filter fun k=>k != i&&k != j)=A::br X::C1)
 (h:KJ E K D L (br (A::X)::C1)):KJ E K D L C:=fun a w hf hs=>h a w hf ((St.kD _ hn hC hs).Vk)
theorem FL {E:fr} {K:Act→World→Prop} {D:g5} {L:dk} {C:List aw} (h:KJ E K D L (br []::C)):KJ E K D L C:=fun a w hf hs=>h a w hf hs.Rb
theorem Q_ {E:fr} {K:Act→World→Prop} {D:g5} {L:dk} (C1 C2:List aw) (h:KJ E K D L (br C1::C2)):KJ E K D L (C1++C2):=fun a w hf hs=>h a w hf (St.tied hs)
theorem OU {E:fr} {fn:Func} {R:Ending→World→Prop} {D:g5} {L:dk} {C C1:List aw} {rs:List Nat} (i:Nat) (hn:decide (i::(List.range C.length).filter fun k=>k != i).Nodup=true) (hC:kD C (i::(List.range C.length).filter fun k=>k != i)=br (rs.map mm)::C1)
 (h:LJ E fn R D L C1):LJ E fn R (rs.map lW++D) L C:=by
 have key: ∀ rs:List Nat,LJ E fn R (rs.map lW++D) L (br (rs.map mm)::C1):=by
  intro rs
  induction rs with
  |nil=>exact fun a w hf hs=>h a w hf (hs.take (List.sublist_cons_self _ _))
  |cons r rs ih=>
   have A:LJ E fn R (lW r::(rs.map lW++D)) L (mm r::br (rs.map mm)::C1):=o4 0 rfl rfl (fun a w hf hs=>ih a w hf (hs.take (List.sublist_cons_self _ _)))
   intro a w hf hs
   refine A a w hf ?_
   have B:St E.S E.w0 ((mm r::rs.map mm)++C1) w:=St.iw (C1:=mm r::rs.map mm) hs
   have F:St E.S E.w0 (rs.map mm++(mm r::C1)) w:=B.perm (List.perm_middle (a:=mm r) (l₁:=rs.map mm) (l₂:=C1)).symm
   exact F.tied.perm (List.Perm.swap _ _ _)
 exact fun a w hf hs=>key rs a w hf (St.kD _ hn hC hs)
theorem MH {E:fr} {fn:Func} {R:Ending→World→Prop} {L:dk} {C C1:List aw} {rs:List Nat} (i:Nat) (hn:decide (i::(List.range C.length).filter fun k=>k != i).Nodup=true) (hC:kD C (i::(List.range C.length).filter fun k=>k != i)=br (rs.map mm)::C1)
 (h:LJ E fn R [] L C1):LJ E fn R (rs.map lW) L C:=by
 have:=OU (D:=[]) i hn hC h
 rwa [List.append_nil] at this
end
section
open Go.RowKit
theorem Kz (fs:List FM) (fb:List Nat):(br (aR ow fs fb)).wr=true:=by
 show (aR ow fs fb).all (·.wr)=true
 rw [cV]
 intro X hX
 obtain ⟨k,m,a,_,_,h⟩:=j_ hX
 simp only [ow,bI] at h
 subst h; rfl
theorem Tl (fs:List TM) (fb:List Nat):(br (aR sr fs fb)).wr=true:=by
 show (aR sr fs fb).all (·.wr)=true
 rw [cV]
 intro X hX
 obtain ⟨k,m,a,_,_,h⟩:=j_ hX
 simp only [sr,bI] at h
 subst h; rfl
end
section
def eK (bl:List Nat) (n:Nat):List (Option Nat):=bl.map some++List.replicate (n-bl.length) none
def il (bl:List Nat) (n:Nat):List (Option Nat):=List.replicate (n-bl.length) none++bl.map some
theorem rO {bl:List Nat} {n:Nat} (h:bl.length≤n):(eK bl n).length=n:=by simp [eK]; omega
theorem ze {bl:List Nat} {n:Nat} (h:bl.length≤n):(il bl n).length=n:=by simp [il]; omega
theorem zj {n:Nat}:List.replicate n none=eK [] n:=by simp [eK]
theorem HS {n:Nat}:List.replicate n none=il [] n:=by simp [il]
theorem zF {bl:List Nat} {n:Nat} (h:bl.length=n):eK bl n=bl.map some:=by simp [eK,h]
theorem Ii {bl:List Nat} {n:Nat} (h:bl.length=n):il bl n=bl.map some:=by simp [il,h]
theorem pk {bl:List Nat} {n k g:Nat} (h:bl[k]? =some g):(eK bl n)[k]? =some (some g):=by
 have hk:=(aV.1 h).1
 unfold eK
 rw [List.getElem?_append_left (by simpa using hk),eT,h]; rfl
theorem ud {bl:List Nat} {n k i g:Nat} (h:bl[i]? =some g) (hk:k=n-bl.length+i):(il bl n)[k]? =some (some g):=by
 subst hk
 unfold il
 rw [List.getElem?_append_right sm,eT,List.length_replicate,Nat.add_sub_cancel_left,h]; rfl
theorem uW {bl:List Nat} {n k g:Nat} (hk:k=bl.length) (h:bl.length<n):(eK bl n).set k (some g)=eK (bl++[g]) n:=by
 subst hk
 unfold eK
 rw [List.set_append_right _ _ sm]
 have e:n-bl.length=(n-(bl++[g]).length)+1:=by simp; omega
 rw [e,List.replicate_succ]
 simp
theorem Ij {bl:List Nat} {n k g:Nat} (hk:k+1+bl.length=n):(il bl n).set k (some g)=il (g::bl) n:=by
 unfold il
 have e:n-bl.length=k+1:=by omega
 have A:n-(g::bl).length=k:=by simp; omega
 rw [e,A,List.set_append_left _ _ sm,List.replicate_succ',List.set_append_right _ _ sm]
 simp
theorem sK {l:List (Option Nat)} {k g:Nat} (h:l[k]? =some (some g)):(l.map oC)[k]? =some (oC (some g)):=by rw [eT,h]; rfl
theorem Bk {α:Type} {l:List α} {x:α} {k:Nat} (h:k=l.length):(l++[x])[k]? =some x:=by subst h; simp
theorem Mk {α:Type} {l:List α} {x y:α} {k:Nat} (h:l[k]? =some y):(l++[x])[k]? =some y:=by rw [List.getElem?_append_left (aV.1 h).1]; exact h
structure qx (w:bT) (fs:List FM):Prop where
 all: ∀ (b:Nat) m,fs[b]? =some m→uG m (fwd w b)∧(m.map (·.1)).Nodup
structure iz (w:bT) (k:Nat) (bs:List FM):Prop where
 all: ∀ (i:Nat) m,bs[i]? =some m→vC m (back w (k+i))∧(m.map (·.1)).Nodup
variable {w:bT} {b:Nat} {mb m left:List (aC×Int)} {o:Int×aa} {os:List (Int×aa)} {p:aC×Int}
theorem qx.first:qx w [[(⟨0,0⟩,w.Start)]]:=⟨fun b m h=>by
 match b with
 |0=>simp at h; subst h; exact ⟨Im,sm⟩
 |n+1=>simp at h⟩
theorem qx.add {fs:List FM} (h:qx w fs) (hl:fs.length=b+1) (hmb:fs[b]? =some mb) (hm:yc w b m) (hd:kh w b mb m left) (h0:left=[]):qx w (fs++[m]):=⟨fun i x hx=>by
 rcases Nat.lt_or_ge i fs.length with q|q
 ·rw [List.getElem?_append_left q] at hx; exact h.all i x hx
 ·rw [List.getElem?_append_right q] at hx
  have hi:i-fs.length=0:=by
   rcases Nat.eq_zero_or_pos (i-fs.length) with z|z
   ·exact z
   ·rw [List.getElem?_eq_none (by simp; omega)] at hx; cases hx
  rw [hi] at hx
  simp at hx; subst hx
  obtain rfl:i=b+1:=by omega
  have A:=h.all b mb hmb
  exact ⟨KB A.2 A.1 hm.snd (hd.fin h0),hm.keys⟩⟩
theorem qx.ok {fs:List FM} (h:qx w fs) (hl:fs.length=w.n+1):yC w fs:=⟨hl,fun b m hm=>(h.all b m hm).1,fun b m hm=>(h.all b m hm).2⟩
theorem iz.none_:iz w b []:=⟨fun i m h=>by simp at h⟩
theorem iz.last (hb:w.n≤b):iz w b [[(⟨0,0⟩,w.fE)]]:=⟨fun i m h=>by
 match i with
 |0=>simp at h; subst h; exact ⟨I6 I,sm⟩
 |n+1=>simp at h⟩
theorem iz.add {bs:List FM} (h:iz w (b+1) bs) (hb:b<w.n) (hmb:bs[0]? =some mb) (hm:wk w b m) (hd:jY w b mb m left) (h0:left=[]):iz w b (m::bs):=⟨fun i x hx=>by
 match i with
 |0=>
  simp at hx; subst hx
  have A:=h.all 0 mb hmb
  exact ⟨Js hb A.2 A.1 hm.snd hm.zero (hd.fin h0),hm.keys⟩
 |n+1=>
  have:=h.all n x (by simpa using hx)
  rw [show b+1+n=b+(n+1) by omega] at this
  exact this⟩
theorem iz.ok {bs:List FM} (h:iz w 0 bs) (hl:bs.length=w.n+1):vd w bs:=⟨hl,fun b m hm=>by have:=(h.all b m hm).1; rwa [Nat.zero_add] at this,fun b m hm=>(h.all b m hm).2⟩
/-- on the way through one entry's options -/
structure oh (w:bT) (b:Nat) (mb left m:List (aC×Int)) (p:aC×Int) (os:List (Int×aa)):Prop where
 on:yc w b m
 ua:kh w b mb m left
 done:jv w b m p os
structure n8 (w:bT) (b:Nat) (mb left m:List (aC×Int)) (p:aC×Int) (os:List (Int×aa)):Prop where
 on:wk w b m
 ua:jY w b mb m left
 done:jo w b m p os
theorem oh.start (h:yc w b m) (h2:kh w b mb m left):oh w b mb left m p []:=⟨h,h2,fun o ho=>by cases ho⟩
theorem n8.start (h:wk w b m) (h2:jY w b mb m left):n8 w b mb left m p []:=⟨h,h2,fun o ho=>by cases ho⟩
theorem IF {q:aC×Int} (h:(m.lookup q.1).isSome=false∨q.2<(m.lookup q.1).getD 0):pG m q=e_ m q.1 q.2:=by
 unfold pG
 cases e:m.lookup q.1 with
 |none=>rfl
 |some v=>rw [e] at h; simp at h; simp only; rw [if_pos h]
theorem Fj {q:aC×Int} (h:(m.lookup q.1).isSome=true) (h2: ¬ q.2<(m.lookup q.1).getD 0):pG m q=m:=by
 unfold pG
 cases e:m.lookup q.1 with
 |none=>rw [e] at h; cases h
 |some v=>rw [e] at h2; simp only [Option.getD_some] at h2; simp only; rw [if_neg h2]
theorem H8 {q:aC×Int} (h:(m.lookup q.1).isSome=false∨(m.lookup q.1).getD 0<q.2):pf m q=e_ m q.1 q.2:=by
 unfold pf
 cases e:m.lookup q.1 with
 |none=>rfl
 |some v=>rw [e] at h; simp at h; simp only; rw [if_pos h]
theorem FO {q:aC×Int} (h:(m.lookup q.1).isSome=true) (h2: ¬ (m.lookup q.1).getD 0<q.2):pf m q=m:=by
 unfold pf
 cases e:m.lookup q.1 with
 |none=>rw [e] at h; cases h
 |some v=>rw [e] at h2; simp only [Option.getD_some] at h2; simp only; rw [if_neg h2]
theorem A_ {t:aC} {v y:Int} (hy:w.pq[b]? =some y) (h:max (v+y) o.2.Lo≤min o.2.Hi w.fE):lj w b (t,v) o=some (dF t (fD o.1),max (v+y) o.2.Lo):=by
 have e:=oa hy
 subst e
 exact J0 h
theorem LG {t:aC} {v y:Int} (hy:w.pq[b]? =some y) (h: ¬ max (v+y) o.2.Lo≤min o.2.Hi w.fE):lj w b (t,v) o=none:=by
 have e:=oa hy
 subst e
 exact OW h
theorem AF {t:aC} {v y:Int} (hy:w.pq[b]? =some y) (h:o.2.Lo≤min v o.2.Hi):oz w b (t,v) o=some (dF t (fD o.1),min v o.2.Hi-y):=by
 have e:=oa hy
 subst e
 exact Km h
theorem oh.set {q:aC×Int} (h:oh w b mb left m p os) (hp:p∈fwd w b) (ho:o∈iN w b) (he:lj w b p o=some q) (hs:(m.lookup q.1).isSome=false∨q.2<(m.lookup q.1).getD 0):oh w b mb left (e_ m q.1 q.2) p (os++[o]):=by
 rw [← IF hs]
 exact ⟨h.on.add hp ho he,h.ua.lower vX,h.done.JN he⟩
theorem oh.o5 {q:aC×Int} (h:oh w b mb left m p os) (he:lj w b p o=some q) (hs:(m.lookup q.1).isSome=true) (h2: ¬ q.2<(m.lookup q.1).getD 0):oh w b mb left m p (os++[o]):=by
 have:=h.done.JN he
 rw [Fj hs h2] at this
 exact ⟨h.on,h.ua,this⟩
theorem oh.skip (h:oh w b mb left m p os) (he:lj w b p o=none):oh w b mb left m p (os++[o]):=⟨h.on,h.ua,h.done.none_ he⟩
theorem n8.set {q:aC×Int} (hb:b<w.n) (h:n8 w b mb left m p os) (hp:p∈back w (b+1)) (ho:o∈iN w b) (he:oz w b p o=some q) (hs:(m.lookup q.1).isSome=false∨(m.lookup q.1).getD 0<q.2):n8 w b mb left (e_ m q.1 q.2) p (os++[o]):=by
 rw [← H8 hs]
 exact ⟨h.on.add hb hp ho he,h.ua.upper qJ,h.done.JN he⟩
theorem n8.o5 {q:aC×Int} (h:n8 w b mb left m p os) (he:oz w b p o=some q) (hs:(m.lookup q.1).isSome=true) (h2: ¬ (m.lookup q.1).getD 0<q.2):n8 w b mb left m p (os++[o]):=by
 have:=h.done.JN he
 rw [FO hs h2] at this
 exact ⟨h.on,h.ua,this⟩
theorem n8.skip (h:n8 w b mb left m p os) (he:oz w b p o=none):n8 w b mb left m p (os++[o]):=⟨h.on,h.ua,h.done.none_ he⟩
theorem oh.next {t:aC} {v:Int} (hn:(left.map (·.1)).Nodup) (hm:(t,v)∈left) (h:oh w b mb left m (t,v) os) (ho: ∀ o∈iN w b,o∈os):kh w b mb m (cH left t):=h.ua.next hn hm h.done ho
theorem n8.next {t:aC} {v:Int} (hn:(left.map (·.1)).Nodup) (hm:(t,v)∈left) (h:n8 w b mb left m (t,v) os) (ho: ∀ o∈iN w b,o∈os):jY w b mb m (cH left t):=h.ua.next hn hm h.done ho
theorem qx.mem {fs:List FM} (h:qx w fs) (hm:fs[b]? =some mb) (hp:p∈mb):p∈fwd w b:=(h.all b mb hm).1.1 _ _ ((fI (h.all b mb hm).2).1 hp)
theorem iz.V3 {bs:List FM} {k:Nat} (h:iz w k bs) (hk:k=b+1) (hm:bs[0]? =some mb) (hp:p∈mb):p∈back w (b+1):=by
 subst hk
 exact (h.all 0 mb hm).1.1 _ _ ((fI (h.all 0 mb hm).2).1 hp)
theorem iz.end_ {bs:List FM} {k j:Nat} (h:iz w k bs) (hj:bs.length=0) (hk:j=b) (hb:w.n≤b):iz w j ([(⟨0,0⟩,w.fE)]::bs):=by
 subst hk
 rw [j1 hj]
 exact iz.last hb
theorem iz.more {bs:List FM} {k j:Nat} (h:iz w k bs) (hk:k=b+1) (hj:j=b) (hb:b<w.n) (hmb:bs[0]? =some mb) (hm:wk w b m) (hd:jY w b mb m left) (h0:left=[]):iz w j (m::bs):=by
 subst hk hj
 exact h.add hb hmb hm hd h0
end
section
open Go.RowKit
theorem ky {a:OA} {c e sz n:Nat} {es:List (List Value)} (h:es.length=n):Nj (own a c e sz es) (rd a n sz es):=by subst h; exact Og
theorem uw {L:List aw}:Nj (br L) (fp L):=⟨fun w h=>h.1,fun b h=>h⟩
theorem OB {b:Nat} {fb:List Nat} {g:Nat} (h:fb.length=b):aR sr (List.replicate b ([]:TM)) fb++[iP iV g (bW ep [])]=aR sr (List.replicate (b+1) ([]:TM)) (fb++[g]):=by
 rw [List.replicate_succ']
 exact Ag (by rw [List.length_replicate]; exact h.symm) U
theorem Vy {α:Type} {ms:List α} {fb:List Nat} {n:Nat} (h:fb.length=n) (h2:ms.length=n):List.map oC (eK fb n)=List.zipWith gV ms fb:=by
 rw [zF h]; exact (AQ I).symm
theorem wJ {l:aY} {r:cx} {i:Nat} {x:aH} (hx:r.ah[i]? =some x) (h: ¬ kF l r.ah i x): ¬ eX l r:=fun q=>h (q.sig i x hx)
theorem Qo {E:fr} {c:Code} {Q:db} {D:g5} {L:dk} {C C':List aw} (e:C=C') (h:WJ E c Q D L C'):WJ E c Q D L C:=by subst e; exact h
end
section
open Go.RowKit
theorem s8 (ln:b_) (ri:dp) (e:List Int) (tms:List TM) (e_A:OA) (e_C:Nat) (tb:List Nat) (t_A:OA) (t_C:Nat) (fA:OA) (fN fC:Nat) (bA:OA) (bN bC:Nat) (gw b:Nat) (g1 g2:Nat) (hb:b<tms.length) (htb:tb.length=tms.length):
 FF Tryz.prog 141 [] [(vP g1),(vP g2)] [(rd e_A e.length 1 (e.map iC)),(rd t_A tms.length 1 (List.zipWith gV tms tb)),(fp (aR sr tms tb)),(cm gw 166 (cq.cells (cq.mk ln ri (bp.mk e_A e.length e_C) (bp.mk t_A tms.length t_C) (bp.mk fA fN fC) (bp.mk bA bN bC)))),(cm g1 121 [(vP gw)]),(cm g2 3 [(vI (b:Int))])] ([]:List (Int×aa)) (fun ys x ys'=> ∃ o,o∈iN (cO ln ri e tms) b∧x=PQ o∧ys'=ys++[o]) (fun ys=> ∀ o∈iN (cO ln ri e tms) b,o∈ys):=by
 refine tM kr Tryz.func141 U U fun l J Z A0 d Q hY V AA hQ hN=>?_
 try dsimp only
 refine aj fun _ X=>aj fun _ R=>dM cE 12 kr<|m_ 2 [] (mr 5 U mn) U<|dS (SX (bO U U) U U)<|m_ 4 [0,1] (mr 4 U (mr 5 U mn)) U<|dS (SX (bO U U) U U)<|dP 3 [] (mr 4 U mn) ?_
 refine dS (SX (bg (xs:=[(0,.tmp 11),(1,.tmp 16)]) (cs:=(aa.cells (aa.mk ri.Start ri.fE))) U U (bh gJ U)) U U)<|cR<|kR (k:=([]:List (Int×aa))) (k':=(([]:List (Int×aa))++[((-1),(aa.mk ri.Start ri.fE))])) 0 (by first|exact hsz|exact Nat.le_refl _) hY V AA U U U (by exact ⟨(-1,⟨ri.Start,ri.fE⟩),cv ..,U,U⟩) U U (fun B3 N M=>?_) (fun B3 N M=>?_)
 rotate_left 1
 ·refine rP 1 [] mn ?_
  refine RK R<|aQ U<|av ?_
  refine hQ _ _ _ (iu (vs:=[]) trivial fun w hs=>sI 0 U N M hs)
 refine bk 1 U<|RK R<|aZ U<|WK X<|aj fun _ Y=>dM cE 7 kr<|m_ 1 [] (mr 5 U mn) U<|dS (SX (bO U U) U U)<|dP 3 [0,1] (mr 4 U (mr 6 U mn)) ?_
 obtain ⟨x,hx⟩:=aK tms b I
 obtain ⟨xa,L⟩:=aK tb b I
 have a:(List.zipWith gV tms tb)[b]? =some (gV x xa):=dB hx L
 refine dS (IA b U (aA 2 U) Gx dc I I)<|dS (gl b 0 (Value.map (some xa)) U cp (aA 2 U) a U dc U)<|cR<|j4 (kV:=iV) (m:=bW ep x) 3 U U oy U ⟨⟨(iP iV xa (bW ep x)),(bY hx L (by simp [sr])),U⟩,fun h=>h⟩ (show jh _ (iP iV xa (bW ep x)).holds from dC 3 U (bY hx L (by simp [sr]))) U fun j=>?_
 try dsimp only
 refine RK Y<|ax ?_
 have G:(∀ o∈x,o∈x∨o∈(([]:List (Int×aa))++[((-1),(aa.mk ri.Start ri.fE))]))∧(∀ o∈x,o∈x)∧(J (([]:List (Int×aa))++[((-1),(aa.mk ri.Start ri.fE))]) B3)∧(Fo A0 d B3)∧((-1,(⟨ri.Start,ri.fE⟩:aa))∈(([]:List (Int×aa))++[((-1),(aa.mk ri.Start ri.fE))])):=by exact ⟨fun o ho=> .inl ho,fun o ho=>ho,asm,asm,sm⟩
 refine bJ (ι:={z:TM×(List (Int×aa))×aw // (∀ o∈x,o∈z.1∨o∈z.2.1)∧(∀ o∈z.1,o∈x)∧(J z.2.1 z.2.2)∧(Fo A0 d z.2.2)∧((-1,(⟨ri.Start,ri.fE⟩:aa))∈z.2.1)}) [0,1,2,27] [2,3,4,6,7] U U (fun z=>[]) (fun z=>[(zm iV j xa (bW ep x) (bW ep z.1.1) none),z.1.2.2]) (fun _=>rfl) (fun _=>rfl) (fun z=>z.1.1.length) ⟨(x,(([]:List (Int×aa))++[((-1),(aa.mk ri.Start ri.fE))]),B3),G⟩ (dI.nil _) (aI [2,3,4,6,7,0,1]) ?_
 clear G
 rintro ⟨⟨left,ys,A⟩,⟨B,C,D,E,F⟩⟩ J8 W
 try dsimp only at B C D E F
 try dsimp only
 refine WS fun _ S=>jB (eZ qy).inj (f:=ep) 5 U U U U (fun T=>?_) (fun i z hm hn=>?_)
 ·refine rP 1 [] mn ?_
  refine RK S<|aj fun _ c=>aZ U<|bB<|ab<|ab<|ay ?_
  refine hN _ _ _ (iu (vs:=[]) trivial fun w hs=>MT 6 U (by exact Iy hx B T F) D E hs)
 try dsimp only
 refine bk 1 U<|RK S<|aj fun _ O=>aQ U<|WK O<|ax<|WS fun _ P=>rS (SX (jD 5 U U U) U U)<|bk 2 U<|AL U dA fun g=>bk 1 U<|gd U cz U<|RK P<|WS fun _ K=>rP 3 [] (mc 0 U mn) ?_
 refine kR (k:=ys) (k':=(ys++[(i,z)])) 7 (by first|exact hsz|exact Nat.le_refl _) hY D E U U U (by exact ⟨(i,z),(yh hx).2 (.inr (C _ hm)),U,U⟩) U U (fun B15 AB H=>?_) (fun B15 AB H=>?_)
 rotate_left 1
 ·refine rP 1 [] mn ?_
  refine RK K<|aQ U<|av ?_
  refine hQ _ _ _ (iu (vs:=[]) trivial fun w hs=>sI 7 U AB H hs)
 refine rP 1 [] mn ?_
 refine RK K<|aZ U<|ct<|aF<|ij 6 U fQ U ?_
 refine aU (W ⟨((cH left i),(ys++[(i,z)]),B15),⟨Hx hn hm B,mN C,asm,asm,by simp [F]⟩⟩ _ _ _ U (fh hm) (aT U) (aI [1,2,3,4,5,6,7]))
theorem vg (gw b:Nat):
 lB Tryz.prog 102 [(vP gw),(vI (b:Int))] [] (fun (x:Nat×Nat)=>(Value.func (.func 141) [].toArray [(Value.pointer (some ⟨x.1,0,none⟩)),(Value.pointer (some ⟨x.2,0,none⟩))].toArray)) (fun (x:Nat×Nat)=>True) (fun (x:Nat×Nat)=>[(cm x.1 121 [(vP gw)]),(cm x.2 3 [(vI (b:Int))])]):=by
 refine dh kr Tryz.func102 U U fun E Q hQ hN=>?_
 try dsimp only
 refine WS fun _ A=>ve U U fun C=>ve U U fun D=>bk 1 U<|RK A<|WS fun _ B=>rS (FU U)<|rP 1 [] mn ?_
 refine RK B<|av<|LX hQ (C,D) [1,0] [] mn U U U U ?_
 trivial
theorem Le (gw b:Nat):
 lB Tryz.prog 61 [(vP gw),(vI (b:Int))] [] (fun (x:Nat×Nat)=>(Value.func (.func 101) [].toArray [(Value.pointer (some ⟨x.1,0,none⟩)),(Value.pointer (some ⟨x.2,0,none⟩))].toArray)) (fun (x:Nat×Nat)=>True) (fun (x:Nat×Nat)=>[(cm x.1 121 [(vP gw)]),(cm x.2 3 [(vI (b:Int))])]):=by
 refine dh kr Tryz.func61 U U fun E Q hQ hN=>?_
 try dsimp only
 refine WS fun _ A=>ve U U fun C=>ve U U fun D=>bk 1 U<|RK A<|WS fun _ B=>rS (FU U)<|rP 1 [] mn ?_
 refine RK B<|av<|LX hQ (C,D) [1,0] [] mn U U U U ?_
 trivial
end
section
open Go.RowKit
theorem pt:vh Tryz.prog 172 eE:=OE PV (fun x y w=>Qi 9998 x y w) (fun x y h=>by cases x; cases y; simp [aC.cells] at h; simp [h]) (fun x=>by simp [aC.cells,Instr.sameBits]) (fun x w=>⟨_,rfl,fun p hp=>by
 simp only [bx,List.not_mem_nil,or_false] at hp
 rcases hp with rfl|rfl
 ·exact ⟨⟨_,j9 cp U w⟩,_,qy⟩
 ·exact ⟨⟨_,j9 cp U w⟩,_,qy⟩⟩)
theorem M3 (s:Int):
 eB Tryz.prog 105 [(vI s)] [] (vA (aC.cells (fD s))):=by
 refine bG kr Tryz.func105 U U fun H Q hQ hN=>?_
 try dsimp only
 refine WS fun _ B=>AL U uu fun G=>RK B<|aj fun _ C=>WS fun _ D=>rP 2 [] mn ?_
 refine RK D<|cP U (aO fun A=>?_) (aN fun A=>?_)
 ·refine WS fun _ E=>rS (SX (bg (xs:=[(1,.const (vI 1))]) (cs:=(aC.cells (aC.mk 0 1))) U U (bh Cr U)) U U)<|gd U sH U<|RK E<|av<|I3 hQ [0] (mc 0 U mn) U ?_
  unfold fD; first|rw [if_pos A]|rw [if_neg A]
 refine WK C<|WS fun _ F=>rS (SX (bg (xs:=[(0,.const (vI 1))]) (cs:=(aC.cells (aC.mk 1 0))) U U (bh Cr U)) U U)<|gd U sH U<|RK F<|av<|I3 hQ [0] (mc 0 U mn) U ?_
 unfold fD; first|rw [if_pos A]|rw [if_neg A]
theorem wN (x:aC) (y:aC) (hx:(0≤x.right∧x.right≤1000)∧0≤x.e9∧x.e9≤1000) (hy:(0≤y.right∧y.right≤1000)∧0≤y.e9∧y.e9≤1000):
 eB Tryz.prog 104 [(vA (aC.cells x)),(vA (aC.cells y))] [] (vA (aC.cells (dF x y))):=by
 refine bG kr Tryz.func104 U U fun F Q hQ hN=>?_
 try dsimp only
 refine WS fun _ A=>fZ U fun C=>fZ U fun D=>AL U uu fun E=>RK A<|WS fun _ B=>rP 10 [0,1,0,1] (mc 2 U (mc 1 U mn)) ?_
 refine rS (SX (bg (xs:=[(0,.tmp 9),(1,.tmp 14)]) (cs:=(aC.cells (aC.mk (x.right+y.right) (x.e9+y.e9)))) U U (bh Cr U)) U U)<|gd U sH U<|RK B<|av ?_
 exact I3 hQ [0] (mc 0 U mn) U U
theorem PW (ln:b_) (ri:dp) (e:List Int) (tms:List TM) (e_A:OA) (e_C:Nat) (tb:List Nat) (t_A:OA) (t_C:Nat) (fs:List FM) (bs:List FM) (fb:List Nat) (f_A:OA) (f_C:Nat) (bb:List Nat) (b_A:OA) (b_C gw:Nat) (x:aC) (hx:(0≤x.right∧x.right≤1000)∧0≤x.e9∧x.e9≤1000) (hn:ri.ah.n≤1000):
 eB Tryz.prog 103 [(vP gw),(vA (aC.cells x))] [(rd e_A e.length 1 (e.map iC)),(rd t_A tms.length 1 (List.zipWith gV tms tb)),(fp (aR sr tms tb)),(rd f_A fs.length 1 (List.zipWith gV fs fb)),(fp (aR ow fs fb)),(rd b_A bs.length 1 (List.zipWith gV bs bb)),(fp (aR ow bs bb)),(cm gw 166 (cq.cells (cq.mk ln ri (bp.mk e_A e.length e_C) (bp.mk t_A tms.length t_C) (bp.mk f_A fs.length f_C) (bp.mk b_A bs.length b_C))))] (vB (kI (cO ln ri e tms) x)):=by
 refine bG kr Tryz.func103 U U fun E Q hQ hN=>?_
 try dsimp only
 refine WS fun _ C=>fZ U fun D=>bk 1 U<|RK C<|aj fun _ B=>dM cE 26 kr<|m_ 3 [] (mc 0 U mn) U<|dS (SX (bO U U) U U)<|dP 5 [] (mr 8 U mn) ?_
 refine jN (t:=13) U (aN fun A=>?_) (aO fun A=>?_)
 ·refine dP 17 [] mn ?_
  refine cR<|RK B<|av<|Q1 hQ U U U ?_
  exact cB (cy (fun h=>A h.1)).symm
 refine mq 1 U<|dS (SX (bO U U) U U)<|m_ 8 [0,1] (mr 8 U (mc 0 U mn)) U<|dS (SX (bO U U) U U)<|dP 6 [] (mr 8 U mn) ?_
 refine cR<|RK B<|av<|Q1 hQ U U U ?_
 exact cB (gN.2 ⟨fun h=>⟨A,h⟩,fun h=>h.2⟩)
end
section
open Go.RowKit
theorem HI (ln:b_) (ri:dp) (e:List Int) (tms:List TM) (e_A:OA) (e_C:Nat) (tb:List Nat) (t_A:OA) (t_C:Nat) (fs:List FM) (bs:List FM) (fb:List Nat) (f_A:OA) (f_C:Nat) (bb:List Nat) (b_A:OA) (b_C gw:Nat) (b g1 g2:Nat) (mf:FM) (mb:FM) (hb:b<e.length) (hw:II (cO ln ri e tms)) (htb:tb.length=tms.length) (hfw:yC (cO ln ri e tms) fs) (hfb:fb.length=fs.length) (hbw:vd (cO ln ri e tms) bs) (hbb:bb.length=bs.length) (hsg:ri.ah.n≤1000) (hm1:fs[b]? =some mf) (hm2:bs[b+1]? =some mb):
 FF Tryz.prog 101 [] [(vP g1),(vP g2)] [(rd e_A e.length 1 (e.map iC)),(rd t_A tms.length 1 (List.zipWith gV tms tb)),(fp (aR sr tms tb)),(rd f_A fs.length 1 (List.zipWith gV fs fb)),(fp (aR ow fs fb)),(rd b_A bs.length 1 (List.zipWith gV bs bb)),(fp (aR ow bs bb)),(cm gw 166 (cq.cells (cq.mk ln ri (bp.mk e_A e.length e_C) (bp.mk t_A tms.length t_C) (bp.mk f_A fs.length f_C) (bp.mk b_A bs.length b_C)))),(cm g1 121 [(vP gw)]),(cm g2 3 [(vI (b:Int))])] ([]:List (Int×aa)) (fun ys x ys'=> ∃ q,q∈qn (cO ln ri e tms) b mf mb∧x=PQ q∧ys'=ys++[q]) (fun ys=> ∀ q∈qn (cO ln ri e tms) b mf mb,q∈ys):=by
 have J9:e.length≤6:=hw.n
 have KC:tms.length=e.length:=hw.times
 have J3:fs.length=e.length+1:=hfw.len
 have J2:bs.length=e.length+1:=hbw.len
 refine tM kr Tryz.func101 U U fun l J Z A0 w0 Q hY EQ D9 hQ hN=>?_
 try dsimp only
 refine WS fun _ Eq=>ve U U fun b2=>RK Eq<|WS fun _ FS=>rP 2 [0,1] (mr 10 U (mr 11 U mn)) ?_
 refine cX (vg gw b) (aJ) U fun y4 KR=>?_
 obtain ⟨C1,C2⟩:=y4
 try dsimp only
 refine RK FS<|ax<|k6 4 U (by exact fun _ h=>h)<|k6 6 U (by exact fun _ h=>h)<|k6 8 U (by exact fun _ h=>h)<|k6 14 U (by exact fun _ h=>h) ?_
 refine oi (L0:=[(0,(Value.func (.yield l) #[] #[])),(1,(vP g1)),(2,(vP g2)),(3,(vP b2))]) (F:=[(rd e_A e.length 1 (e.map iC)).ro,(rd t_A tms.length 1 (List.zipWith gV tms tb)).ro,(fp (aR sr tms tb)).ro,(cm gw 166 (cq.cells (cq.mk ln ri (bp.mk e_A e.length e_C) (bp.mk t_A tms.length t_C) (bp.mk f_A fs.length f_C) (bp.mk b_A bs.length b_C)))).ro,(cm C1 121 [(vP gw)]),(cm C2 3 [(vI (b:Int))])]) (fun k (y:(List (Int×aa))×aw)=>(l0 (cO ln ri e tms) b mf mb k y.1)∧(J y.1 y.2)∧(Fo A0 w0 y.2)) (fun k y=>[(cm b2 169 [(Value.func (.yield l) #[] #[])]),y.2,(rd e_A e.length 1 (e.map iC)).ro,(rd t_A tms.length 1 (List.zipWith gV tms tb)).ro,(fp (aR sr tms tb)).ro,(rd f_A fs.length 1 (List.zipWith gV fs fb)).ro,(fp (aR ow fs fb)).ro,(rd b_A bs.length 1 (List.zipWith gV bs bb)).ro,(fp (aR ow bs bb)).ro,(cm gw 166 (cq.cells (cq.mk ln ri (bp.mk e_A e.length e_C) (bp.mk t_A tms.length t_C) (bp.mk f_A fs.length f_C) (bp.mk b_A bs.length b_C)))).ro,(cm g1 121 [(vP gw)]).ro,(cm g2 3 [(vI (b:Int))]).ro]) (fun c (z:aw)=>(c= .ret∧(Z z)∧(Fo A0 w0 z))) (fun _ z=>[(cm b2 169 [(Value.func (.yield l) #[] #[])]),z,(rd e_A e.length 1 (e.map iC)).ro,(rd t_A tms.length 1 (List.zipWith gV tms tb)).ro,(fp (aR sr tms tb)).ro,(rd f_A fs.length 1 (List.zipWith gV fs fb)).ro,(fp (aR ow fs fb)).ro,(rd b_A bs.length 1 (List.zipWith gV bs bb)).ro,(fp (aR ow bs bb)).ro,(cm gw 166 (cq.cells (cq.mk ln ri (bp.mk e_A e.length e_C) (bp.mk t_A tms.length t_C) (bp.mk f_A fs.length f_C) (bp.mk b_A bs.length b_C)))).ro,(cm g1 121 [(vP gw)]).ro,(cm g2 3 [(vI (b:Int))]).ro]) [6,7,8,9,10,11,12,13,14,15,16,17] [3,2,1,0,4,5] (([]:List (Int×aa)),A0) rfl rfl (s8 ln ri e tms e_A e_C tb t_A t_C f_A fs.length f_C b_A bs.length b_C gw b C1 C2 I I) rfl rfl rfl (by exact ⟨l0.nil,EQ,D9⟩) (by simp only [List.forall_mem_cons,List.not_mem_nil,false_imp_iff,implies_true,and_true]; exact ⟨⟨_,aS (i:=0) rfl,(dT (bU _))⟩,⟨_,aS (i:=1) rfl,(dT (bU _))⟩,⟨_,aS (i:=2) rfl,(dT (bU _))⟩,⟨_,aS (i:=3) rfl,(dT (bU _))⟩,⟨_,aS (i:=4) rfl,(bU _)⟩,⟨_,aS (i:=5) rfl,(bU _)⟩⟩) (by rintro k x k2 ⟨o,_,rfl,_⟩; rfl) rfl (aT rfl) ?_ ?_ ?_ ?_
 rotate_left 1
 ·rintro K0 k ⟨ys,A⟩ Ci A1
  obtain ⟨X,Y,a⟩:=A1
  try dsimp only at X Y a
  try dsimp only
  refine aF ?_
  refine hN _ _ _ (o4 0 U U<|iu (vs:=[]) trivial fun w hs=>MT 8 U (by exact l0.fin X Ci) Y a hs)
 ·rintro K4 id A Cx
  simp at Cx
 ·rintro K5 A C0
  obtain ⟨hc,GF,GT⟩:=C0
  try dsimp only
  refine hQ _ _ _ (o4 0 U U<|iu (vs:=[]) trivial fun w hs=>sI 8 U GF GT hs)
 rintro k x k2 ⟨ys,A⟩ lr ra rb S w1 K8 Qr9 GZ hx AO Fd B3 If C3
 obtain ⟨o,ho,rfl,rfl⟩:=hx
 obtain ⟨X,Y,a⟩:=AO
 try dsimp only at X Y a
 try dsimp only
 refine WS fun _ A6=>rP 1 [] mn ?_
 refine RK A6<|ak<|AL U dA fun In=>gd U cz U<|aB<|jr (fun _ _ h=>h) (aI [1,0,2,3,4,5,6,7,8,9,10,11,12,13])<|aU (Fd _ _ ?_)
 refine ax<|aj fun _ A7=>dM cE 7 kr<|m_ 1 [] (mr 12 U mn) U<|dS (SX (bO U U) U U)<|dP 3 [0,1] (mr 11 U (mr 13 U mn)) ?_
 obtain ⟨ga,s⟩:=aK fb b I
 have Ck:(List.zipWith gV fs fb)[b]? =some (gV mf ga):=dB hm1 s
 refine dS (IA b U (aA 7 U) oF dc I I)<|dS (gl b 0 (Value.map (some ga)) U cp (aA 7 U) Ck U dc U)<|cR<|j4 (kV:=eE) (m:=bW iV mf) 8 U U pB U ⟨⟨(iP eE ga (bW iV mf)),(bY hm1 s (by simp [ow])),U⟩,fun h=>h⟩ (show jh _ (iP eE ga (bW iV mf)).holds from dC 8 U (bY hm1 s (by simp [ow]))) U fun H1=>?_
 try dsimp only
 refine RK A7<|ax ?_
 have C:(∀ p∈mf,p∈mf)∧(nU (cO ln ri e tms) b mf mb o mf ys)∧(l0 (cO ln ri e tms) b mf mb k ys)∧(J ys A)∧(Fo A0 w0 A):=by exact ⟨fun p hp=>hp,nU.start,X,Y,a⟩
 refine bJ (ι:={z:FM×(List (Int×aa))×aw // (∀ p∈z.1,p∈mf)∧(nU (cO ln ri e tms) b mf mb o z.1 z.2.1)∧(l0 (cO ln ri e tms) b mf mb k z.2.1)∧(J z.2.1 z.2.2)∧(Fo A0 w0 z.2.2)}) [0,1,2,3,4,5,23] [1,2,3,5,6,7,8,9,10,11,12,13,14] U U (fun z=>[]) (fun z=>[(zm eE H1 ga (bW iV mf) (bW iV z.1.1) none),z.1.2.2]) (fun _=>rfl) (fun _=>rfl) (fun z=>z.1.1.length) ⟨(mf,ys,A),C⟩ (dI.nil _) (aI [1,2,3,5,6,7,8,9,10,11,12,13,14,0,4]) ?_
 clear C
 rintro ⟨⟨left,ys,A⟩,⟨K,M,N,O,P⟩⟩ J15 A5
 try dsimp only at K M N O P
 try dsimp only
 refine WS fun _ j=>jB pt.inj (f:=iV) 13 U U U U (fun Do=>?_) (fun t v hm hn=>?_)
 ·refine rP 1 [] mn ?_
  refine RK j<|aj fun _ IR=>aZ U<|bB<|ab<|ab<|ay<|aF ?_
  exact B3 (ys,A) _ _ (by exact ⟨l0.next N M Do,O,P⟩) (aI [0,2,14,3,4,5,6,7,8,9,10,11,12])
 try dsimp only
 refine bk 1 U<|RK j<|aj fun _ A8=>aQ U<|WK A8<|ax<|WS fun _ A9=>rS (SX (jD 13 U U U) U U)<|bk 2 U<|AL U uu fun JN=>gd U sH U<|bk 1 U<|RK A9<|aj fun _ BF=>dM cE 8 kr<|m_ 1 [] (mr 12 U mn) U<|dS (SX (bO U U) U U)<|dP 4 [0,1] (mr 11 U (mr 13 U mn)) ?_
 obtain ⟨gb,AC⟩:=aK bb (b+1) I
 have Cp:(List.zipWith gV bs bb)[(b+1)]? =some (gV mb gb):=dB hm2 AC
 refine dS (IA (b+1) U (aA 9 U) oF dc I I)<|dS (gl (b+1) 0 (Value.map (some gb)) U cp (aA 9 U) Cp U dc U)<|cR<|j4 (kV:=eE) (m:=bW iV mb) 10 U U pB U ⟨⟨(iP eE gb (bW iV mb)),(bY hm2 AC (by simp [ow])),U⟩,fun h=>h⟩ (show jh _ (iP eE gb (bW iV mb)).holds from dC 10 U (bY hm2 AC (by simp [ow]))) U fun IO=>?_
 try dsimp only
 refine RK BF<|ax ?_
 have C:(∀ p∈mb,p∈mb)∧(nO (cO ln ri e tms) b mb o (t,v) mb ys)∧(nU (cO ln ri e tms) b mf mb o left ys)∧(l0 (cO ln ri e tms) b mf mb k ys)∧(J ys A)∧(Fo A0 w0 A):=by exact ⟨fun p hp=>hp,nO.start,M,N,O,P⟩
 refine bJ (ι:={z:FM×(List (Int×aa))×aw // (∀ p∈z.1,p∈mb)∧(nO (cO ln ri e tms) b mb o (t,v) z.1 z.2.1)∧(nU (cO ln ri e tms) b mf mb o left z.2.1)∧(l0 (cO ln ri e tms) b mf mb k z.2.1)∧(J z.2.1 z.2.2)∧(Fo A0 w0 z.2.2)}) [0,1,2,3,4,5,6,7,23,37] [1,2,3,4,5,6,7,8,9,10,11,12,13,14,15] U U (fun z=>[]) (fun z=>[(zm eE IO gb (bW iV mb) (bW iV z.1.1) none),z.1.2.2]) (fun _=>rfl) (fun _=>rfl) (fun z=>z.1.1.length) ⟨(mb,ys,A),C⟩ (dI.nil _) (aI [1,2,3,4,5,6,7,8,9,10,11,12,13,14,15,0,16]) ?_
 clear C
 rintro ⟨⟨l2,T,A2⟩,⟨B,D,E,G,H,AB⟩⟩ J23 V
 try dsimp only at B D E G H AB
 try dsimp only
 refine WS fun _ r=>jB pt.inj (f:=iV) 15 U U U U (fun D2=>?_) (fun u z L A3=>?_)
 ·refine rP 1 [] mn ?_
  refine RK r<|aj fun _ Id=>aZ U<|bB<|ab<|ab<|ay<|aF<|ij 14 U fQ U ?_
  refine aU (A5 ⟨((cH left t),T,A2),⟨mN K,nU.next hn hm E D D2,G,H,AB⟩⟩ _ _ _ U (fh hm) (aT U) (aI [1,2,3,4,5,6,7,8,9,10,11,12,13,14,16]))
 try dsimp only
 refine bk 1 U<|RK r<|aj fun _ Bb=>aQ U<|WK Bb<|ax<|WS fun _ Bg=>rS (SX (jD 15 U U U) U U)<|bk 2 U<|AL U uu fun JO=>gd U sH U<|rP 1 [] mn ?_
 refine RK Bg<|aj fun _ Bs=>dK cE [17,18] [] [] [0,1,2,3,4,5,6,7,8,9,10,11,12,13,14,15,16,17] [] U U U U U<|eS U (MV U)<|eS U (UT 13 U cp U)<|eS U (SX (bO U U) U U)<|eS U (FA 10 U fc U)<|eS U (I5 (vS e_A e.length e_C) 12 U cp U U)<|eS U (UT 14 U cp U) ?_
 obtain ⟨y,hy⟩:=aK e b I
 have Go:=bQ iC hy
 refine eS U (IA b U (aA 5 U) cK dc I I)<|eS U (gl b 0 (vI y) U cp (aA 5 U) Go U dc U) ?_
 have J4:=hw.least y (aS hy)
 have GE:=Lz hw _ _ (hfw.mem hm1 (K _ hm))
 have Fn:=Jt hw (hbw.mem hm2 (B _ L))
 have J5:=u0 o.1
 have J6:=hw.opt ho
 dsimp only at GE Fn
 refine eS U (BI U (iq ⟨I,I⟩))<|eS U (FA 0 U fc U)<|eS U (L1 (vI o.2.Lo) 3 U cp U U)<|eS U (MX U)<|eS U (MV U)<|eS U (FA 1 U fc U)<|eS U (L1 (vI o.2.Hi) 3 U cp U U)<|eS U (MN U)<|eS U (SX (bg (xs:=[(0,.tmp 54),(1,.tmp 58)]) (cs:=(aa.cells (aa.mk (max (v+y) o.2.Lo) (min z o.2.Hi)))) U U (bh gJ U)) U U)<|eU U<|cf U fun T30 B7=>AL U dA fun Jc=>aB (B7 _ _ (aI [1,2,3,4,5,6,7,8,9,10,11,12,13,14,15,16,17,18]) ?_)
 refine cf U fun T32 B9=>gd U cz U<|aB (B9 _ _ (aI [1,2,3,4,5,6,7,8,9,10,11,12,13,14,15,16,17,18]) ?_)
 refine fF U<|KK Bs<|aj fun _ R=>dM cE 19 kr<|dP 6 [] (mc 0 U mn) ?_
 refine jN (t:=65) U (aN fun d=>?_) (aO fun d=>?_)
 ·refine mq 3 U<|mq 10 U<|cR<|rP 3 [] mn ?_
  refine RK R<|aZ U<|ct<|aF<|ij 17 U fQ U ?_
  refine aU (V ⟨((cH l2 u),T,A2),⟨mN B,nO.skip A3 L D (by exact HZ hy d),E,G,H,AB⟩⟩ _ _ _ U (fh L) (aT U) (aI [2,3,4,5,6,7,8,9,10,11,12,13,14,15,16,17,18]))
 refine dP 3 [0,1,2] (mr 14 U (mc 2 U (mc 1 U mn))) ?_
 have J8:(0≤(dF t u).right∧(dF t u).right≤1000)∧0≤(dF t u).e9∧(dF t u).e9≤1000:=by simp only [dF]; omega
 have J7:(0≤(dF (dF t u) (fD o.1)).right∧(dF (dF t u) (fD o.1)).right≤1000)∧0≤(dF (dF t u) (fD o.1)).e9∧(dF (dF t u) (fD o.1)).e9≤1000:=by simp only [dF]; omega
 refine dS (CL (wN t u I I) (aJ) U)<|mq 1 U<|dS (CL (M3 o.1) (aJ) U)<|dS (CL (wN (dF t u) (fD o.1) asm I) (aJ) U)<|dS (CL (PW ln ri e tms e_A e_C tb t_A t_C fs bs fb f_A f_C bb b_A b_C gw (dF (dF t u) (fD o.1)) asm hsg) (bo [6,7,8,9,10,11,12,13]) U)<|dP 2 [] mn ?_
 refine jN (t:=75) U (fun g=>?_) (fun g=>?_)
 ·refine mq 3 U<|cR<|rP 3 [] mn ?_
  refine RK R<|aZ U<|ct<|aF<|ij 17 U fQ U ?_
  refine aU (V ⟨((cH l2 u),T,A2),⟨mN B,nO.skip A3 L D (by exact Hs g),E,G,H,AB⟩⟩ _ _ _ U (fh L) (aT U) (aI [2,3,4,5,6,7,8,9,10,11,12,13,14,15,16,17,18]))
 refine dP 3 [0,1] (mc 5 U (mc 0 U mn)) ?_
 refine cR<|kR (k:=T) (k':=(T++[(o.1,(aa.mk (max (v+y) o.2.Lo) (min z o.2.Hi)))])) 18 (by first|exact GZ|exact Nat.le_refl _) hY H AB U U U (by exact ⟨(o.1,_),iB.2 ⟨o,ho,(t,v),K _ hm,(u,z),B _ L,(DL hy d g)⟩,U,U⟩) U U (fun B34 W AA=>?_) (fun B34 W AA=>?_)
 rotate_left 1
 ·refine rP 2 [] mn ?_
  refine RK R<|aQ U<|av ?_
  exact C3 B34 _ _ (by exact ⟨U,W,AA⟩) (aI [3,5,18,6,7,8,9,10,11,12,13,14,15])
 refine rP 2 [] mn ?_
 refine RK R<|aZ U<|ct<|aF<|ij 17 U fQ U ?_
 refine aU (V ⟨((cH l2 u),(T++[(o.1,(aa.mk (max (v+y) o.2.Lo) (min z o.2.Hi)))]),B34),⟨mN B,nO.Vq A3 L D (DL hy d g),E.app,G.app,W,AA⟩⟩ _ _ _ U (fh L) (aT U) (aI [2,3,4,5,6,7,8,9,10,11,12,13,14,15,16,17,18]))
end
section
open Go.RowKit
theorem Hc (ln:b_) (ri:dp) (e:List Int) (tms:List TM) (e_A:OA) (e_C:Nat) (tb:List Nat) (t_A:OA) (t_C:Nat) (fs:List FM) (bs:List FM) (fb:List Nat) (f_A:OA) (f_C:Nat) (bb:List Nat) (b_A:OA) (b_C gw:Nat) (hw:II (cO ln ri e tms)) (hsg:ri.ah.n≤1000) (hn:ln.ag.n=e.length) (hfw:yC (cO ln ri e tms) fs) (hfb:fb.length=fs.length):
 lB Tryz.prog 99 [(vP gw)] [(rd e_A e.length 1 (e.map iC)),(rd t_A tms.length 1 (List.zipWith gV tms tb)),(fp (aR sr tms tb)),(rd f_A fs.length 1 (List.zipWith gV fs fb)),(fp (aR ow fs fb)),(rd b_A bs.length 1 (List.zipWith gV bs bb)),(fp (aR ow bs bb)),(cm gw 166 (cq.cells (cq.mk ln ri (bp.mk e_A e.length e_C) (bp.mk t_A tms.length t_C) (bp.mk f_A fs.length f_C) (bp.mk b_A bs.length b_C))))] (fun (x:(OA)×Nat)=>(vS x.1 ((jZ (cO ln ri e tms)).length) x.2)) (fun (x:(OA)×Nat)=>True) (fun (x:(OA)×Nat)=>[(own x.1 x.2 3 1 ((jZ (cO ln ri e tms)).map iC))]):=by
 have y:e.length≤6:=hw.n
 have u:fs.length=e.length+1:=hfw.len
 refine dh kr Tryz.func99 U U fun w0 Q hQ hN=>?_
 try dsimp only
 refine WS fun _ X=>bk 1 U<|RK X<|WS fun _ Y=>bk 1 U<|RK Y<|aj fun _ Z=>WS fun _ b=>bk 1 U<|rS (SX (bO U U) U U)<|rP 6 [] (mr 7 U mn) ?_
 refine RK b<|ax<|gu 3 1 ?_
 have A:(0≤e.length+1):=by exact Nat.zero_le _
 refine bJ (ι:={z:Nat×(OA)×Nat // (z.1≤e.length+1)}) [0,12] [1,2,3,4,5,6,7,8] U U (fun z=>[(3,(vS z.1.2.1 ((kK (cO ln ri e tms) z.1.1).length) z.1.2.2)),(13,(vI (z.1.1:Int)))]) (fun z=>[(own z.1.2.1 z.1.2.2 3 1 ((kK (cO ln ri e tms) z.1.1).map iC))]) (fun _=>rfl) (fun _=>rfl) (fun z=>e.length+1-z.1.1) ⟨(0,none,0),A⟩ (aT U) (aI [1,2,3,4,5,6,7,8,0]) ?_
 clear A
 rintro ⟨⟨n,a,c⟩,G⟩ J5 AB
 try dsimp only at G
 try dsimp only
 refine WS fun _ d=>rP 1 [] mn ?_
 refine RK d<|aj fun _ g=>bR U (aN fun s=>?_) (aO fun s=>?_)
 ·refine bB<|ab<|ab<|ay<|KK Z<|WS fun _ P=>?_
  rw [show kK (cO ln ri e tms) n=jZ (cO ln ri e tms) by (obtain rfl:n=e.length+1:=by omega); rfl]
  refine rP 2 [] mn ?_
  refine RK P<|av<|LX hQ (a,c) [8] [] mn U U U U ?_
  trivial
 refine WK g<|aj fun _ R=>ax<|WS fun _ J=>bk 2 U<|RK J<|WS fun _ K=>bk 1 U<|rS (SX (bO U U) U U)<|rP 3 [] (mr 7 U mn) ?_
 obtain ⟨m,B⟩:=aK fs n I
 obtain ⟨ma,hm0a⟩:=aK fb n I
 have hm0m:(List.zipWith gV fs fb)[n]? =some (gV m ma):=dB B hm0a
 refine rS (IA n U (aA 3 U) oF dc I I)<|rS (gl n 0 (Value.map (some ma)) U cp (aA 3 U) hm0m U dc U)<|j4 (kV:=eE) (m:=bW iV m) 4 U U pB U ⟨⟨(iP eE ma (bW iV m)),(bY B hm0a (by simp [ow])),U⟩,fun h=>h⟩ (show jh _ (iP eE ma (bW iV m)).holds from dC 4 U (bY B hm0a (by simp [ow]))) U fun l=>?_
 try dsimp only
 refine RK K<|ax ?_
 have A:(∀ p∈m,p∈m)∧(∀ p∈m,p∈m∨kI (cO ln ri e tms) p.1=false):=by exact ⟨fun p hp=>hp,fun p hp=> .inl hp⟩
 refine bJ (ι:={z:FM // (∀ p∈z,p∈m)∧(∀ p∈m,p∈z∨kI (cO ln ri e tms) p.1=false)}) [0,3,4,12,13,23] [1,2,3,4,5,6,7,8,9] U U (fun z=>[]) (fun z=>[(zm eE l ma (bW iV m) (bW iV z.1) none)]) (fun _=>rfl) (fun _=>rfl) (fun z=>z.1.length) ⟨m,A⟩ (dI.nil _) (aI [1,2,3,4,5,6,7,8,9,0]) ?_
 clear A
 rintro ⟨left,⟨C,D⟩⟩ J13 H
 try dsimp only
 refine WS fun _ F=>jB pt.inj (f:=iV) 9 U U U U (fun W=>?_) (fun t v hm i=>?_)
 ·refine bk 1 U<|RK F<|aj fun _ o=>aZ U<|bB<|ab<|ab<|ay<|aF<|KK R<|ak<|rP 2 [] mn ?_
  refine aB ?_
  rw [← HQ (w:=(cO ln ri e tms)) (k:=n) ((DR (hfw.min _ _ B) (hfw.keys _ _ B)).symm.trans (Mi D W))]
  have S:(vI (((n+1):Nat):Int))=(vI ((n:Int)+1)):=by exact cI I
  refine aU (AB ⟨((n+1),a,c),(by first|omega|(simp only []; omega))⟩ _ _ _ U os (cQ 3<|bj U S<|dI.nil _) (aI [0,1,2,3,4,5,6,7,8]))
 try dsimp only
 refine bk 1 U<|RK F<|aj fun _ L=>aQ U<|WK L<|ax<|WS fun _ M=>rS (SX (jD 9 U U U) U U)<|bk 1 U<|AL U uu fun q=>gd U sH U<|RK M<|WS fun _ N=>rP 2 [] (mc 0 U mn) ?_
 have j:=Lz hw _ _ (hfw.mem B (C _ hm))
 dsimp only at j
 refine rS (CL (PW ln ri e tms e_A e_C tb t_A t_C fs bs fb f_A f_C bb b_A b_C gw t I hsg) (bo [1,2,3,4,5,6,7,8]) U)<|RK N<|bR U (fun E=>?_) (fun E=>?_)
 ·refine ct<|aF<|ij 10 U fQ U ?_
  refine aU (H ⟨(cH left t),⟨mN C,Jq i hm D (by first|exact E|simpa using E)⟩⟩ _ _ _ U (fh hm) (aT U) (aI [1,2,3,4,5,6,7,8,9,10]))
 refine WS fun _ O=>rP 2 [] mn ?_
 refine dj (xs:=[.tmp 32]) (cs:=[(vI (n:Int))]) U cK jA U U U U (by simp [Value.cells]) U U fun r=>?_
 have hy:jH (cO ln ri e tms) (fwd (cO ln ri e tms) n)=true:=(DR (hfw.min _ _ B) (hfw.keys _ _ B)).symm.trans (Oq (C _ hm) E)
 refine cL (es2:=(List.map iC (kK (cO ln ri e tms) (n+1)))) (m':=(kK (cO ln ri e tms) (n+1)).length) 10 U U U o9 U U sm (bf (es:=List.map iC [(n:Int)]) 0 U U (by simp [bH]) U) (jX _) (by have:=w6 (w:=(cO ln ri e tms)) (k:=n); first|omega|(simp; omega)) (by have:=w6 (w:=(cO ln ri e tms)) (k:=n); simp only [maxLen]; omega) (by rw [E9 hy]; simp) sm U fun AA V=>?_
 try dsimp only
 refine bk 1 U<|RK O<|bB<|iZ U<|ab<|ay<|aF<|KK R<|ak<|rP 2 [] mn ?_
 refine aB ?_
 have T:(vI (((n+1):Nat):Int))=(vI ((n:Int)+1)):=by exact cI I
 refine aU (AB ⟨((n+1),AA,V),(by first|omega|(simp only []; omega))⟩ _ _ _ U os (cQ 3<|bj U T<|dI.nil _) (aI [2,3,4,5,6,7,8,9,10]))
end
section
open Go.RowKit
theorem Jh (ln:b_) (ri:dp) (e:List Int) (tms:List TM) (e_A:OA) (e_C:Nat) (tb:List Nat) (t_A:OA) (t_C gw:Nat) (hw:II (cO ln ri e tms)) (hn:ln.ag.n=e.length) (htb:tb.length=tms.length):
 D_ Tryz.prog 98 [(vP gw)] [(rd e_A e.length 1 (e.map iC)),(rd t_A tms.length 1 (List.zipWith gV tms tb)),(fp (aR sr tms tb))] (cm gw 166 (cq.cells (cq.mk ln ri (bp.mk e_A e.length e_C) (bp.mk t_A tms.length t_C) (bp.mk none 0 0) (bp.mk none 0 0)))) (fun (x:(List FM)×(List Nat)×(OA)×Nat×(List FM)×(List Nat)×(OA)×Nat)=>(vT [])) (fun (x:(List FM)×(List Nat)×(OA)×Nat×(List FM)×(List Nat)×(OA)×Nat)=>yC (cO ln ri e tms) x.1∧vd (cO ln ri e tms) x.2.2.2.2.1∧x.2.1.length=x.1.length∧x.2.2.2.2.2.1.length=x.2.2.2.2.1.length) (fun (x:(List FM)×(List Nat)×(OA)×Nat×(List FM)×(List Nat)×(OA)×Nat)=>(br [(cm gw 166 (cq.cells (cq.mk ln ri (bp.mk e_A e.length e_C) (bp.mk t_A tms.length t_C) (bp.mk x.2.2.1 x.1.length x.2.2.2.1) (bp.mk x.2.2.2.2.2.2.1 x.2.2.2.2.1.length x.2.2.2.2.2.2.2)))),(own x.2.2.1 x.2.2.2.1 170 1 (List.zipWith gV x.1 x.2.1)),(br (aR ow x.1 x.2.1)),(own x.2.2.2.2.2.2.1 x.2.2.2.2.2.2.2 170 1 (List.zipWith gV x.2.2.2.2.1 x.2.2.2.2.2.1)),(br (aR ow x.2.2.2.2.1 x.2.2.2.2.2.1))])):=by
 have Ww:e.length≤6:=hw.n
 have Wy:tms.length=e.length:=hw.times
 refine mY kr Tryz.func98 U U fun w0 Q hQ hN=>?_
 try dsimp only
 refine WS fun _ C3=>ve U U fun W=>RK C3<|WS fun _ D2=>fP 1 [] (mc 0 U mn) U<|rS (SX (bO U U) U U)<|rP 5 [] (mc 1 U mn) ?_
 refine RK D2 ?_
 refine np (ι:={z:(OA)×(OA) // True}) [0,1,2] [0,2,3,4] U U (fun z=>[]) (fun z=>[(own z.1.1 (ln.ag.n+1) 170 1 (List.map oC (List.replicate (ln.ag.n+1) (none:Option Nat)))),(own z.1.2 (ln.ag.n+1) 170 1 (List.map oC (List.replicate (ln.ag.n+1) (none:Option Nat)))),(cm gw 166 (cq.cells (cq.mk ln ri (bp.mk e_A e.length e_C) (bp.mk t_A tms.length t_C) (bp.mk z.1.1 (ln.ag.n+1) (ln.ag.n+1)) (bp.mk z.1.2 (ln.ag.n+1) (ln.ag.n+1)))))]) (fun _=>rfl) (fun _=>rfl) ?_ fun K4 D9=>?_
 ·rintro ⟨⟨fA,bA⟩,_⟩
  try dsimp only
  refine CX 6 U U fun wz Sz hz=>?_
  have Wa:(List.replicate (ln.ag.n+1) (none:Option Nat)).length=(ln.ag.n+1):=List.length_replicate
  try dsimp only
  refine np (ι:={z:Nat // True}) [0,1,2] [0,1,2,3,4,6] U U (fun z=>[]) (fun z=>[(br (aR ow [[((aC.mk 0 0),ri.Start)]] [z.1])),(own fA (ln.ag.n+1) 170 1 (List.map oC (eK [z.1] (ln.ag.n+1))))]) (fun _=>rfl) (fun _=>rfl) ?_ fun K5 T4=>?_
  ·rintro ⟨ga,_⟩
   try dsimp only
   refine aj fun _ EQ=>WS fun _ Eq=>rP 2 [] mn ?_
   refine RK Eq<|ax<|l9 ?_
   have C:(0≤ln.ag.n)∧(([[((aC.mk 0 0),ri.Start)]]).length=0+1)∧(([ga]).length=0+1)∧(qx (cO ln ri e tms) ([[((aC.mk 0 0),ri.Start)]])):=by exact ⟨Nat.zero_le _,rfl,rfl,qx.first⟩
   refine wF (ι:={z:Nat×(List FM)×(List Nat)×(List Nat) // (z.1≤ln.ag.n)∧(z.2.1.length=z.1+1)∧(z.2.2.1.length=z.1+1)∧(qx (cO ln ri e tms) z.2.1)}) (fun z=>z.1.2.2.2.map lW) (fun z=>[(0,(vP gw)),(1,(vP W)),(2,(vI (ln.ag.n:Int))),(52,(vI (ln.ag.n:Int))),(53,(vI (z.1.1:Int)))]) (fun z=>[(br (z.1.2.2.2.map mm)),(cm gw 166 (cq.cells (cq.mk ln ri (bp.mk e_A e.length e_C) (bp.mk t_A tms.length t_C) (bp.mk fA (ln.ag.n+1) (ln.ag.n+1)) (bp.mk bA (ln.ag.n+1) (ln.ag.n+1))))).ro,(cm W 121 [(vP gw)]),(rd e_A e.length 1 (e.map iC)).ro,(rd t_A tms.length 1 (List.zipWith gV tms tb)).ro,(fp (aR sr tms tb)).ro,(own bA (ln.ag.n+1) 170 1 (List.map oC (List.replicate (ln.ag.n+1) (none:Option Nat)))),(br (aR ow z.1.2.1 z.1.2.2.1)),(own fA (ln.ag.n+1) 170 1 (List.map oC (eK z.1.2.2.1 (ln.ag.n+1))))]) (fun z=>ln.ag.n-z.1.1) ⟨(0,[[((aC.mk 0 0),ri.Start)]],[ga],([]:List Nat)),C⟩ U (aT U) (aI [0,1,2,3,4,5,6,7,8]) ?_
   clear C
   rintro ⟨⟨b,fs,fb,S2⟩,⟨Id,A6,If,M⟩⟩ J8 T2
   try dsimp only at Id A6 If M
   try dsimp only
   have Wf:(eK fb (ln.ag.n+1)).length=(ln.ag.n+1):=rO I
   refine WS fun _ FS=>rP 1 [] mn ?_
   refine RK FS<|aj fun _ AO=>cP U (aO fun Tp=>?_) (aN fun Tp=>?_)
   ·refine WK AO<|aj fun _ KS=>ax<|WS fun _ K0=>rP 1 [] mn ?_
    refine AL U jA fun s=>IY U zb U U<|RK K0<|aj fun _ K8=>dK cE [6,8] [6] [0] [0,1,2,3,4,5,6,7,8] [0,1,2,3,4,5,6,7,8,9] U U U U U<|eS U (FK 3 U cp U)<|eS U (SX (bO U U) U U)<|eS U (FA 12 U fc U)<|eS U (I5 (vS fA (ln.ag.n+1) (ln.ag.n+1)) 2 U cp U U)<|eS U (FK 0 U cp U)<|eS U (BI U (iq ⟨I,I⟩)) ?_
    obtain ⟨WF,R9⟩:=aK (eK fb (ln.ag.n+1)) (b+1) I
    have hx17m:(List.map oC (eK fb (ln.ag.n+1)))[(b+1)]? =some (oC WF):=by rw [eT,R9]; rfl
    refine fS U (IA (b+1) U (ae (n:=(ln.ag.n+1)) 9 U sq) oF dc I I) ?_
    refine eU U<|gT U fun T18 QD=>pw (kV:=eE) U U fun B=>?_
    try dsimp only
    refine aB (QD _ _ (aI [1,2,3,4,5,6,7,8,9]) (aI [1,2,3,4,5,6,7,8,9,10]) ?_)
    refine cf U fun T20 QH=>?_
    have R0:((eK fb (ln.ag.n+1)).set (b+1) (some B))=(eK (fb++[B]) (ln.ag.n+1)):=by exact uW I I
    refine df (k:=(b+1)) (o:=0) (vs:=[(Value.map (some B))]) (es':=(List.map oC (eK (fb++[B]) (ln.ag.n+1)))) (C':=[_,_,_,_,_,_,_,_,_,_,(own fA (ln.ag.n+1) 170 1 (List.map oC (eK (fb++[B]) (ln.ag.n+1))))]) 10 U U U Kk U U U U hx17m U dc (by exact (List.map_set (f:=oC) (l:=(eK fb (ln.ag.n+1))) (i:=(b+1)) (a:=(some B))).symm.trans (congrArg _ R0)) U<|aB (QH _ _ (aI [1,2,3,4,5,6,7,8,9]) ?_)
    refine fF U<|KK K8<|aj fun _ LA=>?_
    have VO:(eK (fb++[B]) (ln.ag.n+1)).length=(ln.ag.n+1):=rO (by simp; omega)
    obtain ⟨mb,N⟩:=aK fs b I
    obtain ⟨ga,Z⟩:=aK fb b I
    refine DU 9 N Z U U U ?_
    try dsimp only
    refine dM cE 7 kr<|m_ 1 [] (mc 6 U mn) U<|dS (SX (bO U U) U U)<|dP 3 [0,1] (mr 5 U (mc 3 U mn)) ?_
    have R4:(List.map oC (eK (fb++[B]) (ln.ag.n+1)))[b]? =some (oC (some ga)):=sK (pk (Mk Z))
    refine dS (IA b U (ae (n:=(ln.ag.n+1)) 11 U sq) oF dc I I) ?_
    refine dS (gl b 0 (Value.map (some ga)) U cp (ae (n:=(eK (fb++[B]) (ln.ag.n+1)).length) 11 U sm) R4 U dc U)<|cR<|u6 0 U U pB U U fun Bs=>?_
    try dsimp only
    refine RK LA<|ax ?_
    have C:(∀ p∈mb,p∈mb)∧(yc (cO ln ri e tms) b ([]:FM))∧(kh (cO ln ri e tms) b mb ([]:FM) mb):=by exact ⟨fun p hp=>hp,yc.start,kh.start⟩
    refine wF (ι:={z:FM×FM×(List Nat) // (∀ p∈z.1,p∈mb)∧(yc (cO ln ri e tms) b z.2.1)∧(kh (cO ln ri e tms) b mb z.2.1 z.1)}) (fun z=>z.1.2.2.map lW) (fun z=>[(0,(vP gw)),(1,(vP W)),(2,(vI (ln.ag.n:Int))),(3,(vP s)),(52,(vI (ln.ag.n:Int))),(53,(vI (b:Int))),(71,(vP Bs))]) (fun z=>[(zE eE Bs ga (bW iV mb) (bW iV z.1.1) none),(br (ff ow fs fb b)),(iP eE B (bW iV z.1.2.1)),(cm s 3 [(vI (b:Int))]),(br (z.1.2.2.map mm)),(cm gw 166 (cq.cells (cq.mk ln ri (bp.mk e_A e.length e_C) (bp.mk t_A tms.length t_C) (bp.mk fA (ln.ag.n+1) (ln.ag.n+1)) (bp.mk bA (ln.ag.n+1) (ln.ag.n+1))))).ro,(cm W 121 [(vP gw)]),(rd e_A e.length 1 (e.map iC)).ro,(rd t_A tms.length 1 (List.zipWith gV tms tb)).ro,(fp (aR sr tms tb)).ro,(own bA (ln.ag.n+1) 170 1 (List.map oC (List.replicate (ln.ag.n+1) (none:Option Nat)))),(own fA (ln.ag.n+1) 170 1 (List.map oC (eK (fb++[B]) (ln.ag.n+1))))]) (fun z=>z.1.1.length) ⟨(mb,([]:FM),S2),C⟩ U (aT U) (aI [0,1,2,3,4,5,6,7,8,9,10,11]) ?_
    clear C
    rintro ⟨⟨left,m,A7⟩,⟨c,d,g⟩⟩ J26 KC
    try dsimp only at c d g
    try dsimp only
    refine WS fun _ B9=>sS pt.inj (f:=iV) 0 U U U U (fun T0=>?_) (fun t v hm In=>?_)
    ·refine bk 1 U<|RK B9<|aj fun _ WQ=>aZ U<|bB<|ab<|ab<|ay<|aF<|KK KS<|ak<|rP 2 [] mn ?_
     refine aB<|MG (C':=[(iP eE ga (bW iV mb)),(br (ff ow fs fb b)),(iP eE B (bW iV m)),(cm s 3 [(vI (b:Int))]),(br (A7.map mm)),(cm gw 166 (cq.cells (cq.mk ln ri (bp.mk e_A e.length e_C) (bp.mk t_A tms.length t_C) (bp.mk fA (ln.ag.n+1) (ln.ag.n+1)) (bp.mk bA (ln.ag.n+1) (ln.ag.n+1))))).ro,(cm W 121 [(vP gw)]),(rd e_A e.length 1 (e.map iC)).ro,(rd t_A tms.length 1 (List.zipWith gV tms tb)).ro,(fp (aR sr tms tb)).ro,(own bA (ln.ag.n+1) 170 1 (List.map oC (List.replicate (ln.ag.n+1) (none:Option Nat)))),(own fA (ln.ag.n+1) 170 1 (List.map oC (eK (fb++[B]) (ln.ag.n+1))))]) 0 U KZ U<|Lv 1 0 N Z U U U ?_
     try dsimp only
     refine Aj (X':=aR ow (fs++[m]) (fb++[B])) 0 1 U U (Ag I U) ?_
     try dsimp only
     have R1:(vI (((b+1):Nat):Int))=(vI ((b:Int)+1)):=by exact cI I
     refine aU (T2 ⟨((b+1),(fs++[m]),(fb++[B]),A7),⟨I,by simp; omega,by simp; omega,M.add A6 N d g T0⟩⟩ _ _ _ U os (cQ 4<|bj U R1<|dI.nil _) (aI [2,3,4,5,6,7,8,0,9]))
    try dsimp only
    refine bk 1 U<|RK B9<|aj fun _ LE=>aQ U<|WK LE<|ax<|WS fun _ LT=>rS (SX (th 0 U U U) U U)<|bk 2 U<|AL U uu fun Jc=>AL U jA fun J2=>te U sH U<|IY U zb U U<|RK LT<|WS fun _ La=>rP 2 [0,1] (mc 8 U (mc 5 U mn)) ?_
    refine cX (vg gw b) (aJ) U fun WL WU=>?_
    obtain ⟨Cp,C0⟩:=WL
    try dsimp only
    refine RK La<|ax<|k6 11 U (by exact fun _ h=>h)<|k6 13 U (by exact fun _ h=>h)<|k6 15 U (by exact fun _ h=>h)<|k6 12 U (by exact fun _ h=>h) ?_
    refine oi (L0:=[(0,(vP gw)),(1,(vP W)),(2,(vI (ln.ag.n:Int))),(3,(vP s)),(4,(vP Jc)),(5,(vP J2)),(52,(vI (ln.ag.n:Int))),(53,(vI (b:Int))),(71,(vP Bs))]) (F:=[(rd e_A e.length 1 (e.map iC)).ro,(rd t_A tms.length 1 (List.zipWith gV tms tb)).ro,(fp (aR sr tms tb)).ro,(cm gw 166 (cq.cells (cq.mk ln ri (bp.mk e_A e.length e_C) (bp.mk t_A tms.length t_C) (bp.mk fA (ln.ag.n+1) (ln.ag.n+1)) (bp.mk bA (ln.ag.n+1) (ln.ag.n+1))))).ro,(cm Cp 121 [(vP gw)]),(cm C0 3 [(vI (b:Int))])]) (fun k (y:FM)=>(oh (cO ln ri e tms) b mb left y (t,v) k)) (fun k y=>[(cm J2 3 [(vI v)]),(cm Jc 172 (aC.cells t)),(zE eE Bs ga (bW iV mb) (bW iV (cH left t)) (some (t,(vI v)))),(br (ff ow fs fb b)),(iP eE B (bW iV y)),(cm s 3 [(vI (b:Int))]),(br (A7.map mm)),(cm gw 166 (cq.cells (cq.mk ln ri (bp.mk e_A e.length e_C) (bp.mk t_A tms.length t_C) (bp.mk fA (ln.ag.n+1) (ln.ag.n+1)) (bp.mk bA (ln.ag.n+1) (ln.ag.n+1))))).ro,(cm W 121 [(vP gw)]),(rd e_A e.length 1 (e.map iC)).ro,(rd t_A tms.length 1 (List.zipWith gV tms tb)).ro,(fp (aR sr tms tb)).ro,(own bA (ln.ag.n+1) 170 1 (List.map oC (List.replicate (ln.ag.n+1) (none:Option Nat)))),(own fA (ln.ag.n+1) 170 1 (List.map oC (eK (fb++[B]) (ln.ag.n+1))))]) (fun _ (_:Unit)=>False) (fun _ _=>[]) [6,7,8,9,10,11,12,13,14,15,16,17,18,19] [3,2,1,0,4,5] m rfl rfl (s8 ln ri e tms e_A e_C tb t_A t_C fA (ln.ag.n+1) (ln.ag.n+1) bA (ln.ag.n+1) (ln.ag.n+1) gw b Cp C0 I I) rfl rfl rfl (by exact oh.start d g) (by simp only [List.forall_mem_cons,List.not_mem_nil,false_imp_iff,implies_true,and_true]; exact ⟨⟨_,aS (i:=0) rfl,(dT (bU _))⟩,⟨_,aS (i:=1) rfl,(dT (bU _))⟩,⟨_,aS (i:=2) rfl,(dT (bU _))⟩,⟨_,aS (i:=3) rfl,(dT (bU _))⟩,⟨_,aS (i:=4) rfl,(bU _)⟩,⟨_,aS (i:=5) rfl,(bU _)⟩⟩) (by rintro k x k2 ⟨o,_,rfl,_⟩; rfl) rfl (aT rfl) ?_ ?_ (fun _ _ _ h=>h.elim) (fun _ _ h=>h.elim)
    rotate_left 1
    ·rintro WE k O A5 Go
     have D:=Go
     try dsimp only
     refine aF<|aF<|MR (X:=A7.map mm) 13 0 U U ?_
     try dsimp only
     refine ij 9 U wR U ?_
     refine aU (KC ⟨((cH left t),O,(WE::A7)),⟨mN c,D.on,D.next In hm A5⟩⟩ _ _ _ U (fh hm) (aT U) (aI [9,10,11,12,0,4,14,1,2,3,18,19]))
    rintro k x k2 O l ra rb S w1 K39 Qr40 WB hx GZ Li H WH WN
    obtain ⟨o,ho,rfl,rfl⟩:=hx
    have D:=GZ
    try dsimp only
    refine WS fun _ Lk=>rP 1 [] mn ?_
    refine RK Lk<|ak<|AL U dA fun WW=>gd U cz U<|aB<|jr (fun _ _ h=>h) (aI [1,0,2,3,4,5,6,7,8,9,10,11,12,13,14,15])<|aU (Li _ _ ?_)
    refine ax<|aj fun _ Ll=>dK cE [16,18] [] [] [0,1,2,3,4,5,6,7,8,9,10,11,12,13,14,15] [] U U U U U<|eS U (FK 2 U cp U)<|eS U (FK 10 U cp U)<|eS U (SX (bO U U) U U)<|eS U (FA 10 U fc U)<|eS U (I5 (vS e_A e.length e_C) 9 U cp U U)<|eS U (FK 7 U cp U) ?_
    obtain ⟨y,hy⟩:=aK e b I
    have JN:=bQ iC hy
    refine eS U (IA b U (aA 11 U) cK dc I I)<|eS U (gl b 0 (vI y) U cp (aA 11 U) JN U dc U) ?_
    have VN:=hw.least y (aS hy)
    have hp:=M.mem N (c _ hm)
    have UV:=Lz hw _ _ hp
    have Vk:=u0 o.1
    have Vq:=hw.opt ho
    have Wl:=hw.now
    dsimp only at UV
    refine eS U (BI U (iq ⟨I,I⟩))<|eS U (FA 0 U fc U)<|eS U (L1 (vI o.2.Lo) 1 U cp U U)<|eS U (MX U)<|eS U (LW 3 U cp U U)<|eS U (MV U)<|eS U (CL (M3 o.1) (aJ) U)<|eS U (CL (wN t (fD o.1) I I) (aJ) U)<|eS U (AG U)<|eU U<|cf U fun T45 QU=>AL U uu fun WX=>aB (QU _ _ (aI [1,2,3,4,5,6,7,8,9,10,11,12,13,14,15,16]) ?_)
    refine cf U fun T47 Qb=>gd U sH U<|aB (Qb _ _ (aI [1,2,3,4,5,6,7,8,9,10,11,12,13,14,15,16]) ?_)
    refine fF U<|KK Ll<|aj fun _ Ls=>dM cE 15 kr<|m_ 1 [] (mc 11 U mn) U<|dS (SX (bO U U) U U)<|dP 4 [0,1] (mr 10 U (mc 8 U mn)) ?_
    have R5:(List.map oC (eK (fb++[B]) (ln.ag.n+1)))[(b+1)]? =some (oC (some B)):=sK (pk (Bk I))
    refine dS (IA (b+1) U (ae (n:=(ln.ag.n+1)) 16 U sq) oF dc I I) ?_
    refine dS (gl (b+1) 0 (Value.map (some B)) U cp (ae (n:=(eK (fb++[B]) (ln.ag.n+1)).length) 16 U sm) R5 U dc U)<|m_ 1 [] (mc 0 U mn) U<|dS (SX (lf (kV:=eE) (x:=(dF t (fD o.1))) (l:=O) (f:=iV) (z:=0) U U U pB pt Wd (by exact aA 7 U)) U U)<|mq 5 U<|cR<|RK Ls<|aj fun _ A0=>dM cE 19 kr<|m_ 4 [0,1] (mc 2 U (mc 11 U mn)) U<|dS (SX (bO U U) U U)<|m_ 3 [] (mr 10 U mn) U<|dS (MN U)<|dP 2 [] mn ?_
    refine jN (t:=121) U (aN fun P=>?_) (aO fun P=>?_)
    ·refine dP 8 [] mn ?_
     refine cR<|RK A0<|aZ U<|ct<|aF ?_
     exact H O _ _ (by exact D.skip (LG hy P)) (aI [1,3,4,5,6,7,8,9,10,11,12,13,14,15,16])
    refine dP 3 [] mn ?_
    refine jq (t:=124) U (fun R=>?_) (fun R=>?_)
    ·rw [Bool.not_eq_true'] at R
     refine mq 5 U<|cR<|RK A0<|aQ U<|dM cE 10 kr<|m_ 1 [] (mc 11 U mn) U<|dS (SX (bO U U) U U)<|dP 4 [0,1] (mr 10 U (mc 8 U mn)) ?_
     have R6:(List.map oC (eK (fb++[B]) (ln.ag.n+1)))[(b+1)]? =some (oC (some B)):=sK (pk (Bk I))
     refine dS (IA (b+1) U (ae (n:=(ln.ag.n+1)) 16 U sq) oF dc I I) ?_
     refine dS (gl (b+1) 0 (Value.map (some B)) U cp (ae (n:=(eK (fb++[B]) (ln.ag.n+1)).length) 16 U sm) R6 U dc U)<|dP 2 [] (mc 0 U mn) ?_
     refine cR<|ks (kV:=eE) (x:=(dF t (fD o.1))) (C':=[_,_,_,_,_,_,_,(iP eE B (bW iV (e_ O (dF t (fD o.1)) (max (v+y) o.2.Lo)))),_,_,_,_,_,_,_,_,_]) 7 U U U U pB pt U (iG _ _ _ _).symm U<|aB<|aF ?_
     exact H (e_ O (dF t (fD o.1)) (max (v+y) o.2.Lo)) _ _ (by exact D.set hp ho (A_ hy P) (.inl (by simpa using R))) (aI [1,3,4,5,6,7,8,9,10,11,12,13,14,15,16])
    rw [Bool.not_eq_false'] at R
    refine dP 5 [] mn ?_
    refine cR<|RK A0<|bR U (aN fun u=>?_) (aO fun u=>?_)
    ·refine ct<|aF ?_
     exact H O _ _ (by exact D.o5 (A_ hy P) (by simpa using R) u) (aI [1,3,4,5,6,7,8,9,10,11,12,13,14,15,16])
    refine dM cE 10 kr<|m_ 1 [] (mc 11 U mn) U<|dS (SX (bO U U) U U)<|dP 4 [0,1] (mr 10 U (mc 8 U mn)) ?_
    have R7:(List.map oC (eK (fb++[B]) (ln.ag.n+1)))[(b+1)]? =some (oC (some B)):=sK (pk (Bk I))
    refine dS (IA (b+1) U (ae (n:=(ln.ag.n+1)) 16 U sq) oF dc I I) ?_
    refine dS (gl (b+1) 0 (Value.map (some B)) U cp (ae (n:=(eK (fb++[B]) (ln.ag.n+1)).length) 16 U sm) R7 U dc U)<|dP 2 [] (mc 0 U mn) ?_
    refine cR<|ks (kV:=eE) (x:=(dF t (fD o.1))) (C':=[_,_,_,_,_,_,_,(iP eE B (bW iV (e_ O (dF t (fD o.1)) (max (v+y) o.2.Lo)))),_,_,_,_,_,_,_,_,_]) 7 U U U U pB pt U (iG _ _ _ _).symm U<|aB<|aF ?_
    exact H (e_ O (dF t (fD o.1)) (max (v+y) o.2.Lo)) _ _ (by exact D.set hp ho (A_ hy P) (.inr u)) (aI [1,3,4,5,6,7,8,9,10,11,12,13,14,15,16])
   refine bB<|ab<|ab<|ay<|KK EQ<|WS fun _ A1=>rP 1 [] mn ?_
   refine AL U jA fun TV=>IY U zb U U<|RK A1<|ax ?_
   rw [HS]
   refine l9 ?_
   have C:(0≤ln.ag.n+1)∧(([]:List FM).length=0)∧(([]:List Nat).length=0)∧(iz (cO ln ri e tms) (ln.ag.n+1-0) ([]:List FM)):=by exact ⟨Nat.zero_le _,rfl,rfl,iz.none_⟩
   refine wF (ι:={z:Nat×(List FM)×(List Nat)×Nat×(List Nat) // (z.1≤ln.ag.n+1)∧(z.2.1.length=z.1)∧(z.2.2.1.length=z.1)∧(iz (cO ln ri e tms) (ln.ag.n+1-z.1) z.2.1)}) (fun z=>z.1.2.2.2.2.map lW) (fun z=>[(0,(vP gw)),(1,(vP W)),(2,(vI (ln.ag.n:Int))),(12,(Value.pointer (some ⟨z.1.2.2.2.1,0,none⟩)))]) (fun z=>[(br (aR ow z.1.2.1 z.1.2.2.1)),(cm z.1.2.2.2.1 3 [(vI ((ln.ag.n:Int)-(z.1.1:Int)))]),(br (z.1.2.2.2.2.map mm)),(cm gw 166 (cq.cells (cq.mk ln ri (bp.mk e_A e.length e_C) (bp.mk t_A tms.length t_C) (bp.mk fA (ln.ag.n+1) (ln.ag.n+1)) (bp.mk bA (ln.ag.n+1) (ln.ag.n+1))))).ro,(cm W 121 [(vP gw)]),(rd e_A e.length 1 (e.map iC)).ro,(rd t_A tms.length 1 (List.zipWith gV tms tb)).ro,(fp (aR sr tms tb)).ro,(own bA (ln.ag.n+1) 170 1 (List.map oC (il z.1.2.2.1 (ln.ag.n+1)))),(br (aR ow fs fb)),(own fA (ln.ag.n+1) 170 1 (List.map oC (eK fb (ln.ag.n+1))))]) (fun z=>ln.ag.n+1-z.1.1) ⟨(0,([]:List FM),([]:List Nat),TV,S2),C⟩ U (aT U) (aI [0,1,2,3,4,5,6,7,8,9,10]) ?_
   clear C
   rintro ⟨⟨j,bs,bb,gq,q⟩,⟨BF,Bb,Bg,E⟩⟩ J57 B7
   try dsimp only at BF Bb Bg E
   try dsimp only
   refine aj fun _ A2=>WS fun _ A3=>rP 2 [] (mc 1 U mn) ?_
   refine RK A3<|bR U (aN fun J6=>?_) (aO fun J6=>?_)
   ·refine bB<|ab<|ab<|ay ?_
    rw [show (List.map oC (eK fb (ln.ag.n+1)))=(List.zipWith gV fs fb) from by rw [zF I]; exact (AQ I).symm]
    rw [show (List.map oC (il bb (ln.ag.n+1)))=(List.zipWith gV bs bb) from by rw [Ii I]; exact (AQ I).symm]
    refine AV (C1:=[(own fA (ln.ag.n+1) 170 1 (List.zipWith gV fs fb)),(br (aR ow fs fb)),(own bA (ln.ag.n+1) 170 1 (List.zipWith gV bs bb)),(br (aR ow bs bb)),(br (q.map mm))]) hz [10,9,8,0,2] U U (by simp only [fm,List.all_nil,Kz,N6,Bool.and_true]; rfl) ?_
    rw [show (cm gw 166 (cq.cells (cq.mk ln ri (bp.mk e_A e.length e_C) (bp.mk t_A tms.length t_C) (bp.mk fA (ln.ag.n+1) (ln.ag.n+1)) (bp.mk bA (ln.ag.n+1) (ln.ag.n+1)))))=(cm gw 166 (cq.cells (cq.mk ln ri (bp.mk e_A e.length e_C) (bp.mk t_A tms.length t_C) (bp.mk fA fs.length (ln.ag.n+1)) (bp.mk bA bs.length (ln.ag.n+1))))) from by rw [show fs.length=(ln.ag.n+1) from by omega,show bs.length=(ln.ag.n+1) from by omega]]
    refine Q_ [(cm gw 166 (cq.cells (cq.mk ln ri (bp.mk e_A e.length e_C) (bp.mk t_A tms.length t_C) (bp.mk fA fs.length (ln.ag.n+1)) (bp.mk bA bs.length (ln.ag.n+1))))),(own fA (ln.ag.n+1) 170 1 (List.zipWith gV fs fb)),(br (aR ow fs fb)),(own bA (ln.ag.n+1) 170 1 (List.zipWith gV bs bb)),(br (aR ow bs bb))] [(br (q.map mm))] ?_
    refine hN _ _ _ (MH 1 U U<|iu (vs:=[]) trivial fun w hs=>TY (fs,fb,fA,(ln.ag.n+1),bs,bb,bA,(ln.ag.n+1)) 0 ?_ ?_ U (by show List.all _ _=true; simp only [fm,List.all_nil,Kz,Bool.and_true]; rfl) hs)
    ·clear hs w hQ hN A3 A2 A1 AO FS Eq EQ D2 C3; rfl
    ·clear hs w hQ hN A3 A2 A1 AO FS Eq EQ D2 C3; exact ⟨M.ok (by show fs.length=e.length+1; omega),iz.ok (by have:=E; rwa [show ln.ag.n+1-j=0 by omega] at this) (by show bs.length=e.length+1; omega),dso,dso⟩
   refine WK A2<|aj fun _ Ci=>ax<|aj fun _ L2=>?_
   obtain ⟨b,WZ⟩: ∃ b:Nat,b+j=ln.ag.n:=⟨ln.ag.n-j,I⟩
   rw [show (ln.ag.n:Int)-(j:Int)=(b:Int) from by omega]
   have WT:(il bb (ln.ag.n+1)).length=(ln.ag.n+1):=ze I
   refine dK cE [5,12,13,15] [11] [0,1,2] [0,1,2,3,4,5,6,7,9,10] [0,1,2,3,4,5,6,7,8,9,10] U U U U U<|eS U (FK 4 U cp U)<|eS U (SX (bO U U) U U)<|eS U (FA 13 U fc U)<|eS U (I5 (vS bA (ln.ag.n+1) (ln.ag.n+1)) 3 U cp U U)<|eS U (FK 1 U cp U)<|eS U (SX (bg (xs:=[]) (cs:=(aC.cells (aC.mk 0 0))) U U (bh Cr U)) U U)<|eS U (FK 4 U cp U)<|eS U (SX (bO U U) U U)<|eS U (FA 7 U fc U)<|eS U (FA 8 U fc U)<|eS U (I5 (vI ri.fE) 3 U cp U U) ?_
   obtain ⟨WG,ST⟩:=aK (il bb (ln.ag.n+1)) b I
   have hx63m:(List.map oC (il bb (ln.ag.n+1)))[b]? =some (oC WG):=by rw [eT,ST]; rfl
   refine fS U (IA b U (ae (n:=(ln.ag.n+1)) 8 U sq) oF dc I I) ?_
   refine eU U<|gT U fun T64 Qr=>pw (kV:=eE) U U fun A=>?_
   try dsimp only
   refine aB (Qr _ _ (aI [1,2,3,4,5,6,7,8,10,11]) (aI [1,2,3,4,5,6,7,8,9,10,11]) ?_)
   refine gT U fun T66 Qu=>?_
   have R2:(e_ ([]:List (aC×Int)) (aC.mk 0 0) ri.fE)=[((aC.mk 0 0),ri.fE)]:=by rfl
   refine zX (kV:=eE) (x:=(aC.mk 0 0)) (C':=[(iP eE A (bW iV ([((aC.mk 0 0),ri.fE)]))),_,_,_,_,_,_,_,_,_,_,_]) 0 U U U U pB pt U ((iG _ _ _ _).symm.trans (congrArg _ R2)) U<|aB (Qu _ _ (aI [1,2,3,4,5,6,7,8,10,11]) (aI [1,2,3,4,5,6,7,8,9,10,11]) ?_)
   refine gT U fun T68 RG=>rS (MV U)<|aB (RG _ _ (aI [1,2,3,4,5,6,7,8,10,11]) (aI [1,2,3,4,5,6,7,8,9,10,11]) ?_)
   refine cf U fun T69 RM=>?_
   have R3:((il bb (ln.ag.n+1)).set b (some A))=(il (A::bb) (ln.ag.n+1)):=by exact Ij I
   refine df (k:=b) (o:=0) (vs:=[(Value.map (some A))]) (es':=(List.map oC (il (A::bb) (ln.ag.n+1)))) (C':=[_,_,_,_,_,_,_,_,_,(own bA (ln.ag.n+1) 170 1 (List.map oC (il (A::bb) (ln.ag.n+1)))),_,_]) 9 U U U Kk U U U U hx63m U dc (by exact (List.map_set (f:=oC) (l:=(il bb (ln.ag.n+1))) (i:=b) (a:=(some A))).symm.trans (congrArg _ R3)) U<|aB (RM _ _ (aI [1,2,3,4,5,6,7,8,10,11]) ?_)
   refine fF U<|KK L2<|aj fun _ L3=>WS fun _ M2=>rP 3 [] (mc 2 U mn) ?_
   refine RK M2<|cP U (aO fun J7=>?_) (aN fun J7=>?_)
   ·refine bB<|ab<|ay<|KK Ci<|aj fun _ M7=>WS fun _ NE=>fP 1 [] (mc 2 U mn) U<|RK NE<|ak<|AL U jA fun TX=>IY U zb U U<|RK M7<|ak<|rP 2 [] (mc 0 U mn) ?_
    refine IY U zb U U<|aB ?_
    rw [show (b:Int)-1=(ln.ag.n:Int)-(((j+1):Nat):Int) from by omega]
    refine zu (ms:=bs) (m:=[((aC.mk 0 0),ri.fE)]) (a:=A) 2 1 U U U ?_
    try dsimp only
    refine aU (B7 ⟨((j+1),([((aC.mk 0 0),ri.fE)]::bs),(A::bb),TX,q),⟨I,by simp; omega,by simp; omega,by exact iz.end_ (b:=b) E I I (by show e.length≤b; omega)⟩⟩ _ _ _ U os (aT U) (aI [0,1,3,4,5,6,7,8,9,10,11]))
   refine WK L3<|aj fun _ NN=>?_
   have Vc:(il (A::bb) (ln.ag.n+1)).length=(ln.ag.n+1):=ze (by simp; omega)
   obtain ⟨mb,N⟩:=aK bs 0 I
   obtain ⟨ga,Z⟩:=aK bb 0 I
   refine DU 1 N Z U U U ?_
   try dsimp only
   refine dM cE 8 kr<|m_ 1 [] (mc 6 U mn) U<|dS (SX (bO U U) U U)<|dP 4 [0,1] (mr 5 U (mc 3 U mn)) ?_
   have R8:(List.map oC (il (A::bb) (ln.ag.n+1)))[(b+1)]? =some (oC (some ga)):=sK (ud (i:=1) (by simpa using Z) (by simp; omega))
   refine dS (IA (b+1) U (ae (n:=(ln.ag.n+1)) 10 U sq) oF dc I I) ?_
   refine dS (gl (b+1) 0 (Value.map (some ga)) U cp (ae (n:=(il (A::bb) (ln.ag.n+1)).length) 10 U sm) R8 U dc U)<|cR<|u6 0 U U pB U U fun B3=>?_
   try dsimp only
   refine RK NN<|ax ?_
   have C:(∀ p∈mb,p∈mb)∧(wk (cO ln ri e tms) b ([((aC.mk 0 0),ri.fE)]))∧(jY (cO ln ri e tms) b mb ([((aC.mk 0 0),ri.fE)]) mb):=by exact ⟨fun p hp=>hp,wk.start (by show b<e.length; omega),jY.start⟩
   refine wF (ι:={z:FM×FM×(List Nat) // (∀ p∈z.1,p∈mb)∧(wk (cO ln ri e tms) b z.2.1)∧(jY (cO ln ri e tms) b mb z.2.1 z.1)}) (fun z=>z.1.2.2.map lW) (fun z=>[(0,(vP gw)),(1,(vP W)),(2,(vI (ln.ag.n:Int))),(12,(vP gq)),(171,(vP B3))]) (fun z=>[(zE eE B3 ga (bW iV mb) (bW iV z.1.1) none),(br (ff ow bs bb 0)),(iP eE A (bW iV z.1.2.1)),(cm gq 3 [(vI (b:Int))]),(br (z.1.2.2.map mm)),(cm gw 166 (cq.cells (cq.mk ln ri (bp.mk e_A e.length e_C) (bp.mk t_A tms.length t_C) (bp.mk fA (ln.ag.n+1) (ln.ag.n+1)) (bp.mk bA (ln.ag.n+1) (ln.ag.n+1))))).ro,(cm W 121 [(vP gw)]),(rd e_A e.length 1 (e.map iC)).ro,(rd t_A tms.length 1 (List.zipWith gV tms tb)).ro,(fp (aR sr tms tb)).ro,(own bA (ln.ag.n+1) 170 1 (List.map oC (il (A::bb) (ln.ag.n+1)))),(br (aR ow fs fb)),(own fA (ln.ag.n+1) 170 1 (List.map oC (eK fb (ln.ag.n+1))))]) (fun z=>z.1.1.length) ⟨(mb,[((aC.mk 0 0),ri.fE)],q),C⟩ U (aT U) (aI [0,1,2,3,4,5,6,7,8,9,10,11,12]) ?_
   clear C
   rintro ⟨⟨left,m,V⟩,⟨J,K,L⟩⟩ J80 KR
   try dsimp only at J K L
   try dsimp only
   refine WS fun _ Ck=>sS pt.inj (f:=iV) 0 U U U U (fun J9=>?_) (fun t v hm In=>?_)
   ·refine bk 1 U<|RK Ck<|aj fun _ WR=>aZ U<|bB<|ab<|ab<|ay<|aF<|KK Ci<|aj fun _ Ne=>WS fun _ OK=>fP 1 [] (mc 3 U mn) U<|RK OK<|ak<|AL U jA fun J3=>IY U zb U U<|RK Ne<|ak<|rP 2 [] (mc 0 U mn) ?_
    refine IY U zb U U<|aB<|MG (C':=[(cm J3 3 [(vI ((b:Int)-1))]),(iP eE ga (bW iV mb)),(br (ff ow bs bb 0)),(iP eE A (bW iV m)),(cm gq 3 [(vI (b:Int))]),(br (V.map mm)),(cm gw 166 (cq.cells (cq.mk ln ri (bp.mk e_A e.length e_C) (bp.mk t_A tms.length t_C) (bp.mk fA (ln.ag.n+1) (ln.ag.n+1)) (bp.mk bA (ln.ag.n+1) (ln.ag.n+1))))).ro,(cm W 121 [(vP gw)]),(rd e_A e.length 1 (e.map iC)).ro,(rd t_A tms.length 1 (List.zipWith gV tms tb)).ro,(fp (aR sr tms tb)).ro,(own bA (ln.ag.n+1) 170 1 (List.map oC (il (A::bb) (ln.ag.n+1)))),(br (aR ow fs fb)),(own fA (ln.ag.n+1) 170 1 (List.map oC (eK fb (ln.ag.n+1))))]) 1 U KZ U<|Lv 2 1 N Z U U U ?_
    try dsimp only
    rw [show (b:Int)-1=(ln.ag.n:Int)-(((j+1):Nat):Int) from by omega]
    refine zu (ms:=bs) (m:=m) (a:=A) 0 2 U U U ?_
    try dsimp only
    refine aU (B7 ⟨((j+1),(m::bs),(A::bb),J3,V),⟨I,by simp; omega,by simp; omega,by exact iz.more (b:=b) E I I (by show b<e.length; omega) N K L J9⟩⟩ _ _ _ U os (aT U) (aI [0,1,3,4,5,6,7,8,9,10,11]))
   try dsimp only
   refine bk 1 U<|RK Ck<|aj fun _ Op=>aQ U<|WK Op<|ax<|WS fun _ Or=>rS (SX (th 0 U U U) U U)<|bk 2 U<|AL U uu fun J4=>AL U jA fun J5=>te U sH U<|IY U zb U U<|RK Or<|WS fun _ Os=>rP 2 [0,1] (mc 8 U (mc 5 U mn)) ?_
   refine cX (vg gw b) (aJ) U fun WM WV=>?_
   obtain ⟨Cx,C2⟩:=WM
   try dsimp only
   refine RK Os<|ax<|k6 11 U (by exact fun _ h=>h)<|k6 13 U (by exact fun _ h=>h)<|k6 15 U (by exact fun _ h=>h)<|k6 12 U (by exact fun _ h=>h) ?_
   refine oi (L0:=[(0,(vP gw)),(1,(vP W)),(2,(vI (ln.ag.n:Int))),(12,(vP gq)),(13,(vP J4)),(14,(vP J5)),(171,(vP B3))]) (F:=[(rd e_A e.length 1 (e.map iC)).ro,(rd t_A tms.length 1 (List.zipWith gV tms tb)).ro,(fp (aR sr tms tb)).ro,(cm gw 166 (cq.cells (cq.mk ln ri (bp.mk e_A e.length e_C) (bp.mk t_A tms.length t_C) (bp.mk fA (ln.ag.n+1) (ln.ag.n+1)) (bp.mk bA (ln.ag.n+1) (ln.ag.n+1))))).ro,(cm Cx 121 [(vP gw)]),(cm C2 3 [(vI (b:Int))])]) (fun k (y:FM)=>(n8 (cO ln ri e tms) b mb left y (t,v) k)) (fun k y=>[(cm J5 3 [(vI v)]),(cm J4 172 (aC.cells t)),(zE eE B3 ga (bW iV mb) (bW iV (cH left t)) (some (t,(vI v)))),(br (ff ow bs bb 0)),(iP eE A (bW iV y)),(cm gq 3 [(vI (b:Int))]),(br (V.map mm)),(cm gw 166 (cq.cells (cq.mk ln ri (bp.mk e_A e.length e_C) (bp.mk t_A tms.length t_C) (bp.mk fA (ln.ag.n+1) (ln.ag.n+1)) (bp.mk bA (ln.ag.n+1) (ln.ag.n+1))))).ro,(cm W 121 [(vP gw)]),(rd e_A e.length 1 (e.map iC)).ro,(rd t_A tms.length 1 (List.zipWith gV tms tb)).ro,(fp (aR sr tms tb)).ro,(own bA (ln.ag.n+1) 170 1 (List.map oC (il (A::bb) (ln.ag.n+1)))),(br (aR ow fs fb)),(own fA (ln.ag.n+1) 170 1 (List.map oC (eK fb (ln.ag.n+1))))]) (fun _ (_:Unit)=>False) (fun _ _=>[]) [6,7,8,9,10,11,12,13,14,15,16,17,18,19,20] [3,2,1,0,4,5] m rfl rfl (s8 ln ri e tms e_A e_C tb t_A t_C fA (ln.ag.n+1) (ln.ag.n+1) bA (ln.ag.n+1) (ln.ag.n+1) gw b Cx C2 I I) rfl rfl rfl (by exact n8.start K L) (by simp only [List.forall_mem_cons,List.not_mem_nil,false_imp_iff,implies_true,and_true]; exact ⟨⟨_,aS (i:=0) rfl,(dT (bU _))⟩,⟨_,aS (i:=1) rfl,(dT (bU _))⟩,⟨_,aS (i:=2) rfl,(dT (bU _))⟩,⟨_,aS (i:=3) rfl,(dT (bU _))⟩,⟨_,aS (i:=4) rfl,(bU _)⟩,⟨_,aS (i:=5) rfl,(bU _)⟩⟩) (by rintro k x k2 ⟨o,_,rfl,_⟩; rfl) rfl (aT rfl) ?_ ?_ (fun _ _ _ h=>h.elim) (fun _ _ h=>h.elim)
   rotate_left 1
   ·rintro S1 k O A5 A9
    have D:=A9
    try dsimp only
    refine aF<|aF<|MR (X:=V.map mm) 13 0 U U ?_
    try dsimp only
    refine ij 9 U wR U ?_
    refine aU (KR ⟨((cH left t),O,(S1::V)),⟨mN J,D.on,D.next In hm A5⟩⟩ _ _ _ U (fh hm) (aT U) (aI [9,10,11,12,0,4,14,1,2,3,18,19,20]))
   rintro k x k2 O l ra rb S w1 K95 Qr96 WB hx Hy PP AB WI WO
   obtain ⟨o,ho,rfl,rfl⟩:=hx
   have D:=Hy
   try dsimp only
   refine WS fun _ Pi=>rP 1 [] mn ?_
   refine RK Pi<|ak<|AL U dA fun WY=>gd U cz U<|aB<|jr (fun _ _ h=>h) (aI [1,0,2,3,4,5,6,7,8,9,10,11,12,13,14,15,16])<|aU (PP _ _ ?_)
   refine ax<|aj fun _ Di=>dK cE [16,18] [] [] [0,1,2,3,4,5,6,7,8,9,10,11,12,13,14,15,16] [] U U U U U<|eS U (FK 2 U cp U)<|eS U (FA 1 U fc U)<|eS U (L1 (vI o.2.Hi) 1 U cp U U) ?_
   have hp:=E.V3 (b:=b) I N (J _ hm)
   have T6:=Jt hw hp
   have Vk:=u0 o.1
   have Vq:=hw.opt ho
   dsimp only at T6
   refine eS U (MN U)<|eS U (FK 10 U cp U)<|eS U (SX (bO U U) U U)<|eS U (FA 10 U fc U)<|eS U (I5 (vS e_A e.length e_C) 9 U cp U U)<|eS U (FK 7 U cp U) ?_
   obtain ⟨y,hy⟩:=aK e b I
   have JN:=bQ iC hy
   refine eS U (IA b U (aA 11 U) cK dc I I)<|eS U (gl b 0 (vI y) U cp (aA 11 U) JN U dc U) ?_
   have VN:=hw.least y (aS hy)
   refine eS U (BI U (sN ⟨I,I⟩))<|eS U (LW 3 U cp U U)<|eS U (MV U)<|eS U (CL (M3 o.1) (aJ) U)<|eS U (CL (wN t (fD o.1) I I) (aJ) U)<|eS U (AG U)<|eU U<|cf U fun T101 Fd=>AL U uu fun WP=>aB (Fd _ _ (aI [1,2,3,4,5,6,7,8,9,10,11,12,13,14,15,16,17]) ?_)
   refine cf U fun T103 Fn=>gd U sH U<|aB (Fn _ _ (aI [1,2,3,4,5,6,7,8,9,10,11,12,13,14,15,16,17]) ?_)
   refine fF U<|KK Di<|aj fun _ Do=>dM cE 14 kr<|m_ 1 [] (mc 11 U mn) U<|dS (SX (bO U U) U U)<|dP 3 [0,1] (mr 10 U (mc 8 U mn)) ?_
   have H1:(List.map oC (il (A::bb) (ln.ag.n+1)))[b]? =some (oC (some A)):=sK (ud (i:=0) rfl (by simp; omega))
   refine dS (IA b U (ae (n:=(ln.ag.n+1)) 15 U sq) oF dc I I) ?_
   refine dS (gl b 0 (Value.map (some A)) U cp (ae (n:=(il (A::bb) (ln.ag.n+1)).length) 15 U sm) H1 U dc U)<|m_ 1 [] (mc 0 U mn) U<|dS (SX (lf (kV:=eE) (x:=(dF t (fD o.1))) (l:=O) (f:=iV) (z:=0) U U U pB pt Wd (by exact aA 7 U)) U U)<|mq 5 U<|cR<|RK Do<|WS fun _ Y=>fP 3 [0,1] (mc 3 U (mc 2 U mn)) U<|rS (MN U)<|rP 4 [] (mc 2 U mn) ?_
   refine ck (t:=217) U (aN fun T=>?_) (aO fun T=>?_)
   ·refine rP 8 [] mn ?_
    refine RK Y<|aZ U<|ct<|aF ?_
    exact AB O _ _ (by exact D.skip (On T)) (aI [1,3,4,5,6,7,8,9,10,11,12,13,14,15,16,17])
   refine rP 3 [] mn ?_
   refine dx (t:=220) U (fun AA=>?_) (fun AA=>?_)
   ·rw [Bool.not_eq_true'] at AA
    refine bk 5 U<|RK Y<|aQ U<|dM cE 9 kr<|m_ 1 [] (mc 11 U mn) U<|dS (SX (bO U U) U U)<|dP 3 [0,1] (mr 10 U (mc 8 U mn)) ?_
    have IO:(List.map oC (il (A::bb) (ln.ag.n+1)))[b]? =some (oC (some A)):=sK (ud (i:=0) rfl (by simp; omega))
    refine dS (IA b U (ae (n:=(ln.ag.n+1)) 15 U sq) oF dc I I) ?_
    refine dS (gl b 0 (Value.map (some A)) U cp (ae (n:=(il (A::bb) (ln.ag.n+1)).length) 15 U sm) IO U dc U)<|dP 2 [] (mc 0 U mn) ?_
    refine cR<|ks (kV:=eE) (x:=(dF t (fD o.1))) (C':=[_,_,_,_,_,_,_,(iP eE A (bW iV (e_ O (dF t (fD o.1)) ((min v o.2.Hi)-y)))),_,_,_,_,_,_,_,_,_,_]) 7 U U U U pB pt U (iG _ _ _ _).symm U<|aB<|aF ?_
    exact AB (e_ O (dF t (fD o.1)) ((min v o.2.Hi)-y)) _ _ (by exact D.set (by show b<e.length; omega) hp ho (AF hy T) (.inl (by simpa using AA))) (aI [1,3,4,5,6,7,8,9,10,11,12,13,14,15,16,17])
   rw [Bool.not_eq_false'] at AA
   refine rP 5 [] mn ?_
   refine RK Y<|bR U (aN fun AC=>?_) (aO fun AC=>?_)
   ·refine ct<|aF ?_
    exact AB O _ _ (by exact D.o5 (AF hy T) (by simpa using AA) AC) (aI [1,3,4,5,6,7,8,9,10,11,12,13,14,15,16,17])
   refine dM cE 9 kr<|m_ 1 [] (mc 11 U mn) U<|dS (SX (bO U U) U U)<|dP 3 [0,1] (mr 10 U (mc 8 U mn)) ?_
   have IR:(List.map oC (il (A::bb) (ln.ag.n+1)))[b]? =some (oC (some A)):=sK (ud (i:=0) rfl (by simp; omega))
   refine dS (IA b U (ae (n:=(ln.ag.n+1)) 15 U sq) oF dc I I) ?_
   refine dS (gl b 0 (Value.map (some A)) U cp (ae (n:=(il (A::bb) (ln.ag.n+1)).length) 15 U sm) IR U dc U)<|dP 2 [] (mc 0 U mn) ?_
   refine cR<|ks (kV:=eE) (x:=(dF t (fD o.1))) (C':=[_,_,_,_,_,_,_,(iP eE A (bW iV (e_ O (dF t (fD o.1)) ((min v o.2.Hi)-y)))),_,_,_,_,_,_,_,_,_,_]) 7 U U U U pB pt U (iG _ _ _ _).symm U<|aB<|aF ?_
   exact AB (e_ O (dF t (fD o.1)) ((min v o.2.Hi)-y)) _ _ (by exact D.set (by show b<e.length; omega) hp ho (AF hy T) (.inr AC)) (aI [1,3,4,5,6,7,8,9,10,11,12,13,14,15,16,17])
  refine dK cE [4,11,12,14] [10] [0,1,2] [0,1,2,3,4,6] [0,1,2,3,4,5,6] U U U U U<|eS U (FK 1 U cp U)<|eS U (SX (bO U U) U U)<|eS U (FA 12 U fc U)<|eS U (I5 (vS fA (ln.ag.n+1) (ln.ag.n+1)) 0 U cp U U)<|eS U (SX (bg (xs:=[]) (cs:=(aC.cells (aC.mk 0 0))) U U (bh Cr U)) U U)<|eS U (FK 1 U cp U)<|eS U (SX (bO U U) U U)<|eS U (FA 7 U fc U)<|eS U (FA 7 U fc U)<|eS U (I5 (vI ri.Start) 0 U cp U U) ?_
  obtain ⟨x6,WC⟩:=aK (List.replicate (ln.ag.n+1) (none:Option Nat)) 0 I
  have hx7m:(List.map oC (List.replicate (ln.ag.n+1) (none:Option Nat)))[0]? =some (oC x6):=by rw [eT,WC]; rfl
  refine fS U (IA 0 U (ae (n:=(ln.ag.n+1)) 5 U sq) oF dc U I) ?_
  refine eU U<|gT U fun T8 GF=>pw (kV:=eE) U U fun r=>?_
  try dsimp only
  refine aB (GF _ _ (aI [1,2,3,4,5,7]) (aI [1,2,3,4,5,6,7]) ?_)
  refine gT U fun T10 G=>?_
  have Rb:(e_ ([]:List (aC×Int)) (aC.mk 0 0) ri.Start)=[((aC.mk 0 0),ri.Start)]:=by rfl
  refine zX (kV:=eE) (x:=(aC.mk 0 0)) (C':=[(iP eE r (bW iV ([((aC.mk 0 0),ri.Start)]))),_,_,_,_,_,_,_]) 0 U U U U pB pt U ((iG _ _ _ _).symm.trans (congrArg _ Rb)) U<|aB (G _ _ (aI [1,2,3,4,5,7]) (aI [1,2,3,4,5,6,7]) ?_)
  refine gT U fun T12 Pl=>rS (MV U)<|aB (Pl _ _ (aI [1,2,3,4,5,7]) (aI [1,2,3,4,5,6,7]) ?_)
  refine cf U fun T13 Px=>?_
  have Rc:((List.replicate (ln.ag.n+1) (none:Option Nat)).set 0 (some r))=(eK [r] (ln.ag.n+1)):=by rw [zj]; exact uW rfl sm
  refine df (k:=0) (o:=0) (vs:=[(Value.map (some r))]) (es':=(List.map oC (eK [r] (ln.ag.n+1)))) (C':=[_,_,_,_,_,_,(own fA (ln.ag.n+1) 170 1 (List.map oC (eK [r] (ln.ag.n+1)))),_]) 6 U U U Kk U U U U hx7m U dc (by exact (List.map_set (f:=oC) (l:=(List.replicate (ln.ag.n+1) (none:Option Nat))) (i:=0) (a:=(some r))).symm.trans (congrArg _ Rc)) U<|aB (Px _ _ (aI [1,2,3,4,5,7]) ?_)
  refine fF U<|FL<|Aj (X:=[]) (X':=aR ow [[((aC.mk 0 0),ri.Start)]] [r]) 0 1 U U U ?_
  try dsimp only
  refine aU (jr (aT U) (aI [1,2,3,4,5,7,0,6]) (T4 ⟨r,trivial⟩))
 refine p9 cE [0,1,2,3,5,6,8,9,11,12] [4,7,10,13] [false,false,false,false,false,false,false,false,false,false] [] [(cm W 121 [(vP gw)]),(rd e_A e.length 1 (e.map iC)).ro,(rd t_A tms.length 1 (List.zipWith gV tms tb)).ro,(fp (aR sr tms tb)).ro] [] kr (aI [0,2,3,4]) (aI [])<|eS U (FK 0 U cp U)<|eS U (FK 0 U cp U)<|eS U (MV U)<|eS U (BI U (iq ⟨I,I⟩))<|eS U (MV U)<|eS U (BI U (iq ⟨I,I⟩))<|eS U (SX (bO U U) U U)<|eS U (FA 12 U fc U)<|eS U (SX (bO U U) U U)<|eS U (FA 13 U fc U)<|eU U<|je [4,7] kr (eQ ?_<|eQ ?_<|kX)
 rotate_left 1
 ·refine NO U U [4,10,13] fun T5 GE=>?_
  refine xW (n:=(ln.ag.n+1)) (es:=(List.map oC (List.replicate (ln.ag.n+1) (none:Option Nat)))) U U U CM I I (by simp only [maxLen]; omega) (by rw [List.map_replicate]; rfl) U fun b6=>?_
  try dsimp only
  refine aB (GE _ _ (aI [1,3,4,5]) ?_)
  refine N1 4<|NO U U [10,13] fun T7 A4=>?_
  refine xW (n:=(ln.ag.n+1)) (es:=(List.map oC (List.replicate (ln.ag.n+1) (none:Option Nat)))) U U U CM I I (by simp only [maxLen]; omega) (by rw [List.map_replicate]; rfl) U fun b8=>?_
  try dsimp only
  refine aB (A4 _ _ (aI [2,4,5,6]) ?_)
  refine N1 10<|NO U U [13] fun T9 GT=>Qa (cq.cells (cq.mk ln ri (bp.mk e_A e.length e_C) (bp.mk t_A tms.length t_C) (bp.mk (some ⟨b8,0,none⟩) (ln.ag.n+1) (ln.ag.n+1)) (bp.mk none 0 0))) U zG U U<|aB (GT _ _ (aI [2,4,5,6]) ?_)
  refine N1 13<|NO U U [] fun T10 G=>Qa (cq.cells (cq.mk ln ri (bp.mk e_A e.length e_C) (bp.mk t_A tms.length t_C) (bp.mk (some ⟨b8,0,none⟩) (ln.ag.n+1) (ln.ag.n+1)) (bp.mk (some ⟨b6,0,none⟩) (ln.ag.n+1) (ln.ag.n+1)))) U zG U U<|aB (G _ _ (aI [2,4,5,6]) ?_)
  refine qv ?_
  refine aU (jr (aT U) (aI [2,4,5,6,0,1,3]) (D9 ⟨((some ⟨b8,0,none⟩),(some ⟨b6,0,none⟩)),trivial⟩))
 refine NO U U [7,10,13] fun T5 GE=>?_
 refine xW (n:=(ln.ag.n+1)) (es:=(List.map oC (List.replicate (ln.ag.n+1) (none:Option Nat)))) U U U CM I I (by simp only [maxLen]; omega) (by rw [List.map_replicate]; rfl) U fun b6=>?_
 try dsimp only
 refine aB (GE _ _ (aI [1,3,4,5]) ?_)
 refine je [7,10] kr (eQ ?_<|eQ ?_<|kX)
 rotate_left 1
 ·refine NO U U [7,13] fun T7 A4=>V9 (cq.cells (cq.mk ln ri (bp.mk e_A e.length e_C) (bp.mk t_A tms.length t_C) (bp.mk (some ⟨b6,0,none⟩) (ln.ag.n+1) (ln.ag.n+1)) (bp.mk none 0 0))) U zG U U<|aB (A4 _ _ (aI [1,3,4,5]) ?_)
  refine N1 7<|NO U U [13] fun T8 GF=>?_
  refine xW (n:=(ln.ag.n+1)) (es:=(List.map oC (List.replicate (ln.ag.n+1) (none:Option Nat)))) U U U CM I I (by simp only [maxLen]; omega) (by rw [List.map_replicate]; rfl) U fun r=>?_
  try dsimp only
  refine aB (GF _ _ (aI [2,4,5,6]) ?_)
  refine N1 13<|NO U U [] fun T10 G=>Qa (cq.cells (cq.mk ln ri (bp.mk e_A e.length e_C) (bp.mk t_A tms.length t_C) (bp.mk (some ⟨b6,0,none⟩) (ln.ag.n+1) (ln.ag.n+1)) (bp.mk (some ⟨r,0,none⟩) (ln.ag.n+1) (ln.ag.n+1)))) U zG U U<|aB (G _ _ (aI [2,4,5,6]) ?_)
  refine qv ?_
  refine aU (jr (aT U) (aI [2,4,5,6,1,0,3]) (D9 ⟨((some ⟨b6,0,none⟩),(some ⟨r,0,none⟩)),trivial⟩))
 refine NO U U [10,13] fun T7 A4=>?_
 refine xW (n:=(ln.ag.n+1)) (es:=(List.map oC (List.replicate (ln.ag.n+1) (none:Option Nat)))) U U U CM I I (by simp only [maxLen]; omega) (by rw [List.map_replicate]; rfl) U fun b8=>?_
 try dsimp only
 refine aB (A4 _ _ (aI [2,4,5,6]) ?_)
 refine N1 10<|NO U U [13] fun T9 GT=>Qa (cq.cells (cq.mk ln ri (bp.mk e_A e.length e_C) (bp.mk t_A tms.length t_C) (bp.mk (some ⟨b6,0,none⟩) (ln.ag.n+1) (ln.ag.n+1)) (bp.mk none 0 0))) U zG U U<|aB (GT _ _ (aI [2,4,5,6]) ?_)
 refine N1 13<|NO U U [] fun T10 G=>Qa (cq.cells (cq.mk ln ri (bp.mk e_A e.length e_C) (bp.mk t_A tms.length t_C) (bp.mk (some ⟨b6,0,none⟩) (ln.ag.n+1) (ln.ag.n+1)) (bp.mk (some ⟨b8,0,none⟩) (ln.ag.n+1) (ln.ag.n+1)))) U zG U U<|aB (G _ _ (aI [2,4,5,6]) ?_)
 refine qv ?_
 refine aU (jr (aT U) (aI [2,4,5,6,1,0,3]) (D9 ⟨((some ⟨b6,0,none⟩),(some ⟨b8,0,none⟩)),trivial⟩))
end
section
open Go.RowKit
theorem En (l:aY) (kA:OA) (kC:Nat) (az:List RA) (cA:OA) (cC:Nat) (bA:OA) (bC g1:Nat) (bm:Int) (g2:Nat) (hin:eA l az):
 eB Tryz.prog 59 [(vP g1),(vP g2)] [(rd kA l.aL.length 9 (l.aL.map al.cells)),(rd cA l.ai.length 2 (List.zipWith ar.cells l.ai az)),(fp (aR ar.ia l.ai az)),(rd bA l.ag.length 4 (l.ag.map bE.cells)),(cm g1 28 (b_.cells (lO l kA kC cA cC bA bC))),(cm g2 3 [(vI bm)])] (vI (ik l bm)):=by
 have K:=hin.si
 have J:=hin.rr
 have H:=hin.nD
 have AA:=hin.su
 refine bG kr Tryz.func59 U U fun L Q hQ hN=>?_
 try dsimp only
 refine WS fun _ B=>bk 1 U<|RK B<|aj fun _ C=>WS fun _ D=>rP 5 [0,1] (mr 4 U (mr 5 U mn)) ?_
 refine dj (xs:=[.tmp 7]) (cs:=[(vI bm)]) U cK jA U U U U (by simp [Value.cells]) U U fun G=>?_
 refine rS (CL (eB.eq (jn 0 ((l.ag.length:Int)-1) ([bm]) (some ⟨G,0,none⟩) 1 (by (simp; done))) cZ) (aq (bf 0 U U (by simp [bH]) U)<|aJ) U) ?_
 refine rP 1 [] mn ?_
 refine RK D<|cP U (bw fun A=>?_) (bu fun A=>?_)
 ·refine WS fun _ E=>rP 1 [] mn ?_
  refine RK E<|av<|Q1 hQ U U U ?_
  exact cI (if_neg I).symm
 refine WK C<|WS fun _ F=>rP 1 [] mn ?_
 refine RK F<|av<|Q1 hQ U U U ?_
 exact cI (if_pos I).symm
end
section
open Go.RowKit
theorem O1 (l:aY) (kA:OA) (kC:Nat) (az:List RA) (cA:OA) (cC:Nat) (bA:OA) (bC:Nat) (r:cx) (sgA:OA) (sgC:Nat) (f:Value) (X:aw) (me:Int) (gm:Nat) (hf:Fb Tryz.prog f [] [X] (.int .i64 me)) (hin:eA l az) (hsl:r.ah.length≤1000000):
 lB Tryz.prog 58 [(vA (b_.cells (lO l kA kC cA cC bA bC))),(vA (dp.cells (lT r sgA sgC))),(vS (some ⟨gm,0,none⟩) 1 1)] [(rd kA l.aL.length 9 (l.aL.map al.cells)),(rd cA l.ai.length 2 (List.zipWith ar.cells l.ai az)),(fp (aR ar.ia l.ai az)),(rd bA l.ag.length 4 (l.ag.map bE.cells)),(rd sgA r.ah.length 2 (r.ah.map aH.cells)),X,(cm gm 124 [f])] (fun (x:Bool×Int×Nat×(OA)×Nat×(OA)×Nat×(List Nat)×(List FM)×(List Nat)×(OA)×Nat×(List FM)×(List Nat)×(OA)×Nat)=>bif x.1 then (vT [(Value.pointer (some ⟨x.2.2.1,0,none⟩)),(vI 0)]) else (vT [(Value.pointer none),(vI x.2.1)])) (fun (x:Bool×Int×Nat×(OA)×Nat×(OA)×Nat×(List Nat)×(List FM)×(List Nat)×(OA)×Nat×(List FM)×(List Nat)×(OA)×Nat)=>(x.1=true→(dU l r me=0∧yC (bV l r) x.2.2.2.2.2.2.2.2.1∧vd (bV l r) x.2.2.2.2.2.2.2.2.2.2.2.2.1∧x.2.2.2.2.2.2.2.2.2.1.length=x.2.2.2.2.2.2.2.2.1.length∧x.2.2.2.2.2.2.2.2.2.2.2.2.2.1.length=x.2.2.2.2.2.2.2.2.2.2.2.2.1.length∧x.2.2.2.2.2.2.2.1.length=(ew l r.ah r.ah.length).length))∧(x.1=false→(x.2.1=dU l r me∧ ¬ dU l r me=0))) (fun (x:Bool×Int×Nat×(OA)×Nat×(OA)×Nat×(List Nat)×(List FM)×(List Nat)×(OA)×Nat×(List FM)×(List Nat)×(OA)×Nat)=>bif x.1 then [(cm x.2.2.1 166 (cq.cells (cq.mk (lO l kA kC cA cC bA bC) (lT r sgA sgC) (bp.mk x.2.2.2.1 ((cJ l l.ag.length).length) x.2.2.2.2.1) (bp.mk x.2.2.2.2.2.1 ((ew l r.ah r.ah.length).length) x.2.2.2.2.2.2.1) (bp.mk x.2.2.2.2.2.2.2.2.2.2.1 x.2.2.2.2.2.2.2.2.1.length x.2.2.2.2.2.2.2.2.2.2.2.1) (bp.mk x.2.2.2.2.2.2.2.2.2.2.2.2.2.2.1 x.2.2.2.2.2.2.2.2.2.2.2.2.1.length x.2.2.2.2.2.2.2.2.2.2.2.2.2.2.2)))),(own x.2.2.2.1 x.2.2.2.2.1 3 1 ((cJ l l.ag.length).map iC)),(own x.2.2.2.2.2.1 x.2.2.2.2.2.2.1 40 1 (List.zipWith gV (ew l r.ah r.ah.length) x.2.2.2.2.2.2.2.1)),(br (aR sr (ew l r.ah r.ah.length) x.2.2.2.2.2.2.2.1)),(own x.2.2.2.2.2.2.2.2.2.2.1 x.2.2.2.2.2.2.2.2.2.2.2.1 170 1 (List.zipWith gV x.2.2.2.2.2.2.2.2.1 x.2.2.2.2.2.2.2.2.2.1)),(br (aR ow x.2.2.2.2.2.2.2.2.1 x.2.2.2.2.2.2.2.2.2.1)),(own x.2.2.2.2.2.2.2.2.2.2.2.2.2.2.1 x.2.2.2.2.2.2.2.2.2.2.2.2.2.2.2 170 1 (List.zipWith gV x.2.2.2.2.2.2.2.2.2.2.2.2.1 x.2.2.2.2.2.2.2.2.2.2.2.2.2.1)),(br (aR ow x.2.2.2.2.2.2.2.2.2.2.2.2.1 x.2.2.2.2.2.2.2.2.2.2.2.2.2.1))] else []):=by
 have S1:=hin.si
 have ST:=hin.rr
 have R8:=hin.nD
 have R9:=hin.su
 have Sz:=hin.side
 refine dh kr Tryz.func58 U U fun w0 Q hQ hN=>?_
 try dsimp only
 refine WS fun _ Op=>fZ U fun b2=>fZ U fun b3=>bk 2 U<|RK Op<|aj fun _ Or=>WS fun _ Os=>fP 1 [] (mc 1 U mn) U<|rS (CL (Cf l kA kC az cA cC bA bC hin) (bo [2,3,4,5]) U)<|bk 1 U<|RK Os<|WS fun _ PP=>rP 2 [] mn ?_
 refine RK PP<|cP U (bw fun h=>?_) (bu fun h=>?_)
 ·refine WS fun _ Pi=>rP 3 [] mn ?_
  refine RK Pi<|av<|LX hQ (false,(c_ l),0,none,0,none,0,[],[],[],none,0,[],[],none,0) [] [] mn U (by rfl) U U ?_
  exact sw<|MW (oW (r:=r) (me:=me) h) h
 refine WK Or<|aj fun _ Pl=>WS fun _ AO=>?_
 have C:c_ l=0:=h
 obtain ⟨LT,d⟩:=fy C
 have QD:=d.head
 unfold gH at QD
 refine rP 2 [] (mc 0 U mn) ?_
 refine dj (xs:=[.tmp 24]) (cs:=[(vI r.Start)]) U cK jA U U U U (by simp [Value.cells]) U U fun Ls=>?_
 refine rS (CL (eB.eq (jn 0 86400000 ([r.Start]) (some ⟨Ls,0,none⟩) 1 (by (simp; done))) cZ) (aq (bf 0 U U (by simp [bH]) U)<|aJ) U) ?_
 refine rP 2 [] mn ?_
 refine dx (t:=28) U (bw fun M2=>?_) (bu fun M2=>?_)
 ·refine bk 14 U<|RK AO<|aQ U<|WS fun _ A8=>rP 2 [] mn ?_
  refine RK A8<|av<|LX hQ (false,51,0,none,0,none,0,[],[],[],none,0,[],[],none,0) [] [] mn U (by rfl) U U ?_
  exact sw<|qp (jE (me:=me) C (fun q:eX l r=>by have q1:=q.time; have q2:=q.len; omega))
 refine rP 4 [] (mc 1 U mn) ?_
 refine dj (xs:=[.tmp 32]) (cs:=[(vI r.fE)]) U cK jA U U U U (by simp [Value.cells]) U U fun L0=>?_
 refine rS (CL (eB.eq (jn r.Start 86400000 ([r.fE]) (some ⟨L0,0,none⟩) 1 (by (simp; done))) cZ) (aq (bf 0 U U (by simp [bH]) U)<|aJ) U) ?_
 refine rP 3 [] mn ?_
 refine dx (t:=37) U (bw fun NE=>?_) (bu fun NE=>?_)
 ·refine bk 5 U<|RK AO<|aQ U<|WS fun _ A9=>rP 2 [] mn ?_
  refine RK A9<|av<|LX hQ (false,51,0,none,0,none,0,[],[],[],none,0,[],[],none,0) [] [] mn U (by rfl) U U ?_
  exact sw<|qp (jE (me:=me) C (fun q:eX l r=>by have q1:=q.time; have q2:=q.len; omega))
 refine rP 5 [] (mc 2 U mn) ?_
 refine RK AO<|cP U (aO fun NN=>?_) (aN fun NN=>?_)
 ·refine WS fun _ BF=>rP 2 [] mn ?_
  refine RK BF<|av<|LX hQ (false,51,0,none,0,none,0,[],[],[],none,0,[],[],none,0) [] [] mn U (by rfl) U U ?_
  exact sw<|qp (jE (me:=me) C (fun q:eX l r=>by have q1:=q.time; have q2:=q.len; omega))
 refine WK Pl<|WS fun _ Bb=>rS (SX (bg (xs:=[(0,.const (vI (-1)))]) (cs:=(aH.cells (aH.mk (-1) 0))) U U (bh Gl U)) U U)<|AL U GI fun V=>gd U xr U<|RK Bb<|aj fun _ Bg=>dK cE [5,6,7,8] [] [] [0,1,2,3,4,5,6,7,8,9,10,11] [] U U U U U<|eS U (LW 4 U cp U U)<|eS U (LW 3 U cp U U)<|eS U (FA 3 U fc U)<|eS U (L1 (vS bA l.ag.length bC) 4 U cp U U)<|eS U (LN U Q0)<|eU U<|cf U fun T18 If=>?_
 refine xW (n:=l.ag.length) (es:=(List.map oC (List.replicate l.ag.length (none:Option Nat)))) U U U SJ I I (by simp only [maxLen]; omega) (by rw [List.map_replicate]; rfl) U fun B=>?_
 try dsimp only
 refine aB (If _ _ (aI [1,2,3,4,5,6,7,8,9,10,11,12]) ?_)
 refine cf U fun T20 In=>rS (SX (bg (xs:=[(0,.tmp 44),(1,.tmp 45),(3,.tmp 49)]) (cs:=(cq.cells (cq.mk (lO l kA kC cA cC bA bC) (lT r sgA sgC) (bp.mk none 0 0) (bp.mk (some ⟨B,0,none⟩) l.ag.length l.ag.length) (bp.mk none 0 0) (bp.mk none 0 0)))) U U (bh TQ U)) U U)<|aB (In _ _ (aI [1,2,3,4,5,6,7,8,9,10,11,12]) ?_)
 refine cf U fun T21 JN=>fZ U fun AB=>aB (JN _ _ (aI [2,3,4,5,6,7,8,9,10,11,12,13]) ?_)
 refine cf U fun T23 JO=>rS (AG U)<|aB (JO _ _ (aI [2,3,4,5,6,7,8,9,10,11,12,13]) ?_)
 refine fF U<|KK Bg<|aj fun _ Bs=>WS fun _ B3=>rP 4 [] (mc 6 U mn) ?_
 refine RK B3<|ax ?_
 rw [zj]
 refine gu 3 1<|l9 ?_
 have E:(0≤l.ag.length)∧(([]:List Nat).length=0):=by exact ⟨Nat.zero_le _,rfl⟩
 refine bJ (ι:={z:Nat×(OA)×Nat×(List Nat) // (z.1≤l.ag.length)∧(z.2.2.2.length=z.1)}) [2,3,4,6,7,9,10,54] [4,7,8,9,10,11,12,13,14,15] U U (fun z=>[(55,(vI (z.1.1:Int)))]) (fun z=>[(br (aR sr (List.replicate z.1.1 ([]:TM)) z.1.2.2.2)),(own z.1.2.1 z.1.2.2.1 3 1 ((cJ l z.1.1).map iC)),(cm AB 166 (cq.cells (cq.mk (lO l kA kC cA cC bA bC) (lT r sgA sgC) (bp.mk z.1.2.1 ((cJ l z.1.1).length) z.1.2.2.1) (bp.mk (some ⟨B,0,none⟩) l.ag.length l.ag.length) (bp.mk none 0 0) (bp.mk none 0 0)))),(own (some ⟨B,0,none⟩) l.ag.length 40 1 (List.map oC (eK z.1.2.2.2 l.ag.length)))]) (fun _=>rfl) (fun _=>rfl) (fun z=>l.ag.length-z.1.1) ⟨(0,none,0,([]:List Nat)),E⟩ (aT U) (aI [4,7,8,9,10,11,12,13,14,15,0,1,2,3]) ?_
 clear E
 rintro ⟨⟨b,a,c,fb⟩,⟨A0,Y⟩⟩ J26 A7
 try dsimp only at A0 Y
 try dsimp only
 have QH:(eK fb l.ag.length).length=l.ag.length:=rO I
 refine WS fun _ B7=>rP 1 [] mn ?_
 refine RK B7<|aj fun _ B9=>cP U (aO fun M7=>?_) (aN fun M7=>?_)
 ·refine WK B9<|aj fun _ Ci=>ax<|WS fun _ Ck=>rP 2 [] mn ?_
  refine RK Ck<|aj fun _ Cp=>dK cE [12,13,16] [4] [0] [0,1,2,3,4,5,6,7,8,9,10,13] [0,1,2,3,4,5,6,7,8,9,10,11,12,13] U U U U U<|eS U (MV U)<|eS U (MV U)<|eS U (SX (bO U U) U U)<|eS U (FA 10 U fc U)<|fS U (L1 (vS a ((cJ l b).length) c) 12 U cp U U)<|eS U (LW 2 U cp U U)<|eS U (MV U)<|eS U (CL (PC l kA kC az cA cC bA bC (b:Int) hin asm (by exact d.sk) I) (bo [3,4,5,6]) U) ?_
  have S2:=GB LT d.sk b
  have TV:=d.RM b I
  simp only [Int.toNat_natCast]
  refine eS U (BI U (Gj ⟨I,I⟩))<|eS U (FA 1 U fc U)<|eS U (L1 (vI l.gK) 2 U cp U U) ?_
  refine eS U (CL (Pv (1000*(mB l (b:Int).toNat)) l.gK I (by (simp; omega))) (aJ) U) ?_
  refine eS U (SX (bO U U) U U)<|eS U (FA 10 U fc U)<|eU U<|gT U fun T33 Jc=>dj (xs:=[.tmp 69]) (cs:=[(vI (pI (1000*(mB l (b:Int).toNat)) l.gK))]) U cK jA U U U U (by simp [Value.cells]) U U fun R4=>aB (Jc _ _ (aI [1,2,3,4,5,6,7,8,9,10,11,14]) (aI [1,2,3,4,5,6,7,8,9,10,11,12,13,14]) ?_)
  refine cf U fun T35 J2=>?_
  refine cL (es2:=(List.map iC (cJ l (b+1)))) (m':=(cJ l (b+1)).length) 12 U U U o9 U U (by simp [dH]) (bf (es:=List.map iC [(pI (1000*(mB l (b:Int).toNat)) l.gK)]) 0 U U (by simp [bH]) U) (jX _) (by have:=dH (l:=l) (n:=b); first|omega|(simp; omega)) (by simp only [maxLen,dH]; omega) (by rw [wc]; simp [ej]) (by simp [dH]) U fun e g=>?_
  try dsimp only
  refine aB (J2 _ _ (aI [1,2,3,4,5,6,7,8,9,10,11,14]) ?_)
  refine cf U fun T38 J3=>jI (vs:=[(vS e ((cJ l (b+1)).length) g)]) (cs':=(cq.cells (cq.mk (lO l kA kC cA cC bA bC) (lT r sgA sgC) (bp.mk e ((cJ l (b+1)).length) g) (bp.mk (some ⟨B,0,none⟩) l.ag.length l.ag.length) (bp.mk none 0 0) (bp.mk none 0 0)))) (C':=[_,_,_,_,_,_,_,_,_,_,_,_,_,(cm AB 166 (cq.cells (cq.mk (lO l kA kC cA cC bA bC) (lT r sgA sgC) (bp.mk e ((cJ l (b+1)).length) g) (bp.mk (some ⟨B,0,none⟩) l.ag.length l.ag.length) (bp.mk none 0 0) (bp.mk none 0 0)))),_]) 13 U U U xy U U U U U U U<|aB (J3 _ _ (aI [1,2,3,4,5,6,7,8,9,10,11,14]) ?_)
  refine fF U<|KK Cp<|ak<|bk 1 U<|rS (SX (bO U U) U U)<|rP 3 [] (mc 13 U mn) ?_
  refine pw (kV:=iV) U U fun J=>?_
  try dsimp only
  obtain ⟨Qu,Li⟩:=aK (eK fb l.ag.length) b I
  have hx41m:(List.map oC (eK fb l.ag.length))[b]? =some (oC Qu):=by rw [eT,Li]; rfl
  refine rS (IA b U (ae (n:=l.ag.length) 15 U sq) Gx dc I I) ?_
  have J4:((eK fb l.ag.length).set b (some J))=(eK (fb++[J]) l.ag.length):=by exact uW I I
  refine df (k:=b) (o:=0) (vs:=[(Value.map (some J))]) (es':=(List.map oC (eK (fb++[J]) l.ag.length))) (C':=[_,_,_,_,_,_,_,_,_,_,_,_,_,_,_,(own (some ⟨B,0,none⟩) l.ag.length 40 1 (List.map oC (eK (fb++[J]) l.ag.length)))]) 15 U U U OS U U U U hx41m U dc (by exact (List.map_set (f:=oC) (l:=(eK fb l.ag.length)) (i:=b) (a:=(some J))).symm.trans (congrArg _ J4)) U<|aB<|aF<|KK Ci<|ak<|rP 2 [] mn ?_
  refine aB<|Aj (X':=aR sr (List.replicate (b+1) ([]:TM)) (fb++[J])) 12 0 U U (OB Y) ?_
  try dsimp only
  have J5:(vI (((b+1):Nat):Int))=(vI ((b:Int)+1)):=by exact cI I
  refine aU (A7 ⟨((b+1),e,g,(fb++[J])),⟨I,by simp; omega⟩⟩ _ _ _ U os (cQ 8<|bj U J5<|dI.nil _) (aI [2,3,4,5,6,7,8,9,10,11,0,12,13,14]))
 refine bB<|ab<|ab<|ay<|KK Bs<|aj fun _ Cx=>WS fun _ C0=>rP 4 [] (mc 1 U mn) ?_
 refine RK C0<|ax ?_
 rw [show (List.replicate b ([]:TM))=ew l r.ah 0 from by rw [E2,show b=l.ag.length by omega]]
 rw [show cJ l b=cJ l l.ag.length from by rw [show b=l.ag.length by omega]]
 have E:(0≤r.ah.length)∧(q_ l r.ah 0):=by exact ⟨Nat.zero_le _,zD⟩
 refine bJ (ι:={z:Nat // (z≤r.ah.length)∧(q_ l r.ah z)}) [2,3,4,6,7,9,10,83,84] [1,2,3,4,5,6,7,8,9,11,12,13] U U (fun z=>[(85,(vI (z.1:Int)))]) (fun z=>[(cm V 107 (aH.cells (m7 r.ah z.1))),(br (aR sr (ew l r.ah z.1) fb))]) (fun _=>rfl) (fun _=>rfl) (fun z=>r.ah.length-z.1) ⟨0,E⟩ (aT U) (aI [1,2,3,4,5,6,7,8,9,11,12,13,0,10]) ?_
 clear E
 rintro ⟨i,⟨Lo,A⟩⟩ J46 T
 try dsimp only
 have QU:(ew l r.ah i).length=l.ag.length:=jF
 have QH:(eK fb l.ag.length).length=l.ag.length:=rO I
 refine WS fun _ C1=>rP 1 [] mn ?_
 refine RK C1<|aj fun _ C2=>bR U (aN fun Ne=>?_) (aO fun Ne=>?_)
 ·refine bB<|ab<|ab<|ay<|KK Cx<|aj fun _ Fn=>aj fun _ GE=>?_
  have j:eX l r:=Ch I I A I
  refine ak<|bk 3 U<|RK GE<|ax<|ki 2<|eH fun R81 Id=>WS fun _ GF=>rS (SX (cd (r:= .bool true) U U U ib) U U)<|RK GF<|aj fun _ GT=>aQ U<|WK GT<|aj fun _ GZ=>ax<|WS fun _ Go=>rS (UP 0 0 U Py U dc U)<|fP 2 [] (mr 8 U mn) U<|RK Go<|WS fun _ Hi=>bk 1 U<|rS (SX (s7 U U U (hf) (bo [7])) U U)<|bk 1 U<|RK Hi<|WS fun _ Hy=>rP 2 [] mn ?_
  refine RK Hy<|cP U (bw fun K=>?_) (bu fun K=>?_)
  ·refine WS fun _ H1=>rP 3 [] mn ?_
   refine RK H1<|av<|LX hQ (false,me,0,none,0,none,0,[],[],[],none,0,[],[],none,0) [] [] mn U (by rfl) U U ?_
   exact sw<|MW (qX C j K) K
  refine ct<|aF<|KK GZ<|ak<|rS (SX (cd (r:= .int .i64 1) U U U (iq ⟨dc,dc⟩)) U U)<|rP 1 [] mn ?_
  refine RK Id<|eH fun R89 R0=>WS fun _ IO=>rS (SX (cd (r:= .bool false) U U U ib) U U)<|RK IO<|aj fun _ Rc=>aZ U<|bB<|ab<|ab<|ay<|KK Fn<|aj fun _ IR=>?_
  rw [show ew l r.ah i=ew l r.ah r.ah.length from by rw [show i=r.ah.length by omega]]
  have A2:(ew l r.ah r.ah.length).length=l.ag.length:=jF
  rw [show (List.map oC (eK fb l.ag.length))=(List.zipWith gV (ew l r.ah r.ah.length) fb) from Vy I A2]
  rw [show (cm AB 166 (cq.cells (cq.mk (lO l kA kC cA cC bA bC) (lT r sgA sgC) (bp.mk a ((cJ l l.ag.length).length) c) (bp.mk (some ⟨B,0,none⟩) l.ag.length l.ag.length) (bp.mk none 0 0) (bp.mk none 0 0))))=(cm AB 166 (cq.cells (cq.mk (lO l kA kC cA cC bA bC) (lT r sgA sgC) (bp.mk a ((cJ l l.ag.length).length) c) (bp.mk (some ⟨B,0,none⟩) ((ew l r.ah r.ah.length).length) l.ag.length) (bp.mk none 0 0) (bp.mk none 0 0)))) from by rw [A2]]
  have La:=mT LT d j
  have R1:(cJ l l.ag.length).length=l.ag.length:=dH
  refine ak<|rP 1 [] mn ?_
  refine jm 10 U U U U (Jh (lO l kA kC cA cC bA bC) (lT r sgA sgC) (cJ l l.ag.length) (ew l r.ah r.ah.length) a c fb (some ⟨B,0,none⟩) l.ag.length AB (by exact La) (by exact dH.symm) (by rw [A2]; omega)) U (eu 9 U U (ky sm) (eu 11 U U (ky (by rw [List.length_zipWith]; omega)) (eu 13 U U uw kJ))) U (fun Lk Px=>?_)
  obtain ⟨G,S,P,R,F,O,N,H⟩:=Lk
  refine OO (X:=[(cm AB 166 (cq.cells (cq.mk (lO l kA kC cA cC bA bC) (lT r sgA sgC) (bp.mk a ((cJ l l.ag.length).length) c) (bp.mk (some ⟨B,0,none⟩) ((ew l r.ah r.ah.length).length) l.ag.length) (bp.mk P G.length R) (bp.mk N F.length H)))),(own P R 170 1 (List.zipWith gV G S)),(br (aR ow G S)),(own N H 170 1 (List.zipWith gV F O)),(br (aR ow F O))]) 10 U U ?_
  try dsimp only
  obtain ⟨A1,K8,LA,LE⟩:=Px
  dsimp only at A1 K8 LA LE
  refine RK IR<|aj fun _ v=>WS fun _ w=>rP 1 [] mn ?_
  refine cX (Hc (lO l kA kC cA cC bA bC) (lT r sgA sgC) (cJ l l.ag.length) (ew l r.ah r.ah.length) a c fb (some ⟨B,0,none⟩) l.ag.length G F S P R O N H AB (by exact La) (by (simp; omega)) (by exact dH.symm) (by exact A1) asm) (aq (ae (n:=(cJ l l.ag.length).length) 14 U sm)<|aq (ae (n:=(ew l r.ah r.ah.length).length) 15 U (by rw [List.length_zipWith]; omega))<|aq (dg 17 U x5)<|aq (ae (n:=G.length) 1 U (by rw [List.length_zipWith]; omega))<|aq (dg 2 U x5)<|aq (ae (n:=F.length) 3 U (by rw [List.length_zipWith]; omega))<|aq (dg 4 U x5)<|fB 0 U U<|aJ) U fun Ll Qr=>?_
  obtain ⟨RG,Rb⟩:=Ll
  try dsimp only
  refine rP 2 [] mn ?_
  refine RK w<|bR U (aN fun W=>?_) (aO fun W=>?_)
  ·refine WK v<|WS fun _ AC=>rP 3 [] mn ?_
   refine RK AC<|av ?_
   refine LX hQ (true,0,AB,a,c,(some ⟨B,0,none⟩),l.ag.length,fb,G,S,P,R,F,O,N,H) [1,15,16,18,2,3,4,5] [] mn U (by (show List.all _ _=true; simp only [cond_true,fm,List.all_nil,Kz,Tl,Bool.and_true]; rfl)) U U ?_
   exact ⟨fun _=>⟨l6 C j (by first|rfl|exact K) (fun q=>W (congrArg (fun z:List Int=>(z.length:Int)) q)),A1,K8,LA,LE,dso⟩,Nl⟩
  refine WS fun _ y=>rP 2 [] mn ?_
  refine RK y<|av<|LX hQ (false,8,0,none,0,none,0,[],[],[],none,0,[],[],none,0) [] [] mn U (by rfl) U U ?_
  exact sw<|qp (p7 (me:=me) C j (by first|rfl|exact K) (show jZ (bV l r)=[] from j1 (Int.natCast_eq_zero.1 W)))
 refine WK C2<|aj fun _ AA=>ax<|WS fun _ C3=>rP 1 [] mn ?_
 obtain ⟨x,hx⟩:=aK r.ah i I
 have Qb:=bQ aH.cells hx
 refine rS (IA i U (aA 6 U) wh dc I I)<|rS (oE i 0 (aH.cells x) U cp (aA 6 U) Qb U dc U U)<|AL U GI fun R5=>bk 1 U<|gd U xr U<|RK C3<|aj fun _ p=>WS fun _ L=>rP 6 [0,1] (mc 2 U (mc 0 U mn)) ?_
 refine dj (xs:=[.tmp 95]) (cs:=[(vI x.fR)]) U cK jA U U U U (by simp [Value.cells]) U U fun L2=>?_
 refine rS (CL (eB.eq (jn 0 ((l.ag.length:Int)-1) ([x.fR]) (some ⟨L2,0,none⟩) 1 (by (simp; done))) cZ) (aq (bf 0 U U (by simp [bH]) U)<|aJ) U) ?_
 refine rP 2 [] mn ?_
 refine dx (t:=99) U (bw fun OK=>?_) (bu fun OK=>?_)
 ·refine bk 27 U<|RK L<|aQ U<|WS fun _ Di=>rP 2 [] mn ?_
  refine RK Di<|av<|LX hQ (false,51,0,none,0,none,0,[],[],[],none,0,[],[],none,0) [] [] mn U (by rfl) U U ?_
  exact sw<|qp (jE (me:=me) C (wJ hx (by unfold kF lz; omega)))
 refine rP 2 [] (mc 1 U mn) ?_
 refine dj (xs:=[.tmp 101]) (cs:=[(vI x.Read)]) U cK jA U U U U (by simp [Value.cells]) U U fun L3=>?_
 refine rS (CL (eB.eq (jn 0 86400000 ([x.Read]) (some ⟨L3,0,none⟩) 1 (by (simp; done))) cZ) (aq (bf 0 U U (by simp [bH]) U)<|aJ) U) ?_
 refine rP 3 [] mn ?_
 refine dx (t:=106) U (bw fun A3=>?_) (bu fun A3=>?_)
 ·refine bk 20 U<|RK L<|aQ U<|WS fun _ Do=>rP 2 [] mn ?_
  refine RK Do<|av<|LX hQ (false,51,0,none,0,none,0,[],[],[],none,0,[],[],none,0) [] [] mn U (by rfl) U U ?_
  exact sw<|qp (jE (me:=me) C (wJ hx (by unfold kF lz; omega)))
 refine rP 7 [0,1] (mc 2 U (mc 15 U mn)) ?_
 refine dx (t:=113) U (aO fun A4=>?_) (aN fun A4=>?_)
 ·refine bk 13 U<|RK L<|aQ U<|WS fun _ D2=>rP 2 [] mn ?_
  refine RK D2<|av<|LX hQ (false,51,0,none,0,none,0,[],[],[],none,0,[],[],none,0) [] [] mn U (by rfl) U U ?_
  exact sw<|qp (jE (me:=me) C (wJ hx (by unfold kF lz; omega)))
 refine rP 6 [0,1] (mc 2 U (mc 15 U mn)) ?_
 refine ck (t:=119) U (aN fun A5=>?_) (aO fun A5=>?_)
 ·refine bk 7 U<|RK L<|aZ U<|WK p<|aj fun _ u=>WS fun _ FS=>fP 2 [0,1] (mc 4 U (mc 2 U mn)) U<|rS (CL (LC l kA kC az cA cC bA bC x hin asm I) (bo [5,6,7,8]) U)<|AL U dA fun R7=>gd U cz U<|RK FS<|WS fun _ Fd=>rP 5 [] (mc 0 U mn) ?_
  refine RK Fd<|bR U (aN fun D=>?_) (aO fun D=>?_)
  ·refine WK u<|ak<|rP 1 [] (mc 3 U mn) ?_
   refine jI (vs:=(aH.cells x)) (cs':=(aH.cells x)) (C':=[_,_,_,_,_,_,_,_,_,_,_,_,_,_,_,_,(cm V 107 (aH.cells x)),_]) 16 U U U xr U U U U U U U<|aB<|aF<|KK AA ?_
   have KS:(aH.cells x)=(aH.cells (m7 r.ah (i+1))):=by rw [pM hx]
   rw [KS]
   refine ak<|rP 2 [] mn ?_
   refine aB ?_
   rw [show (ew l r.ah i)=(ew l r.ah (i+1)) from (yG hx D).symm]
   have K0:(vI (((i+1):Nat):Int))=(vI ((i:Int)+1)):=by exact cI I
   refine aU (T ⟨(i+1),⟨I,mo A hx (by unfold kF lz; omega)⟩⟩ _ _ _ U os (cQ 9<|bj U K0<|dI.nil _) (aI [4,5,6,7,8,9,10,11,12,13,14,15,16,17]))
  obtain ⟨mb,Z⟩:=aK (ew l r.ah i) ((x.fR).toNat) I
  obtain ⟨ga,M⟩:=aK fb ((x.fR).toNat) I
  refine DU 17 Z M U U U ?_
  try dsimp only
  refine dM cE 10 kr<|mq 1 U<|dS (SX (bO U U) U U)<|dP 4 [0,1] (mc 16 U (mc 5 U mn)) ?_
  have K5:(List.map oC (eK fb l.ag.length))[(x.fR).toNat]? =some (oC (some ga)):=sK (pk M)
  refine dS (IA ((x.fR).toNat) U (ae (n:=l.ag.length) 17 U sq) Gx dc I I) ?_
  refine dS (gl ((x.fR).toNat) 0 (Value.map (some ga)) U cp (ae (n:=(eK fb l.ag.length).length) 17 U sm) K5 U dc U)<|m_ 2 [] (mc 2 U mn) U<|cR<|ks (kV:=iV) (x:=(i:Int)) (C':=[(iP iV ga (bW ep (e_ mb (i:Int) (cD l x)))),_,_,_,_,_,_,_,_,_,_,_,_,_,_,_,_,_,_]) 0 U U U U oy (eZ qy) U (iG _ _ _ _).symm U<|RK u<|ak<|rP 1 [] (mc 5 U mn) ?_
  refine jI (vs:=(aH.cells x)) (cs':=(aH.cells x)) (C':=[_,_,_,_,_,_,_,_,_,_,_,_,_,_,_,_,_,_,(cm V 107 (aH.cells x))]) 18 U U U xr U U U U U U U<|aB<|aF<|KK AA ?_
  have KC:(aH.cells x)=(aH.cells (m7 r.ah (i+1))):=by rw [pM hx]
  rw [KC]
  refine ak<|rP 2 [] mn ?_
  refine aB ?_
  refine E_ (f:=sr) (ms:=(ew l r.ah i)) (m:=(e_ mb (i:Int) (cD l x))) 1 0 (by rw [jF]; omega) M U U U ?_
  rw [zl hx I D Z]
  have KR:(vI (((i+1):Nat):Int))=(vI ((i:Int)+1)):=by exact cI I
  refine aU (T ⟨(i+1),⟨I,mo A hx (by unfold kF lz; omega)⟩⟩ _ _ _ U os (cQ 9<|bj U KR<|dI.nil _) (aI [5,6,7,8,9,10,11,12,13,14,15,16,17,0]))
 refine rP 7 [0,1] (mc 2 U (mc 15 U mn)) ?_
 refine RK L<|cP U (aO fun A6=>?_) (aN fun A6=>?_)
 ·refine WS fun _ D9=>rP 2 [] mn ?_
  refine RK D9<|av<|LX hQ (false,51,0,none,0,none,0,[],[],[],none,0,[],[],none,0) [] [] mn U (by rfl) U U ?_
  exact sw<|qp (jE (me:=me) C (wJ hx (by unfold kF lz; omega)))
 refine WK p<|aj fun _ s=>WS fun _ EQ=>fP 2 [0,1] (mc 4 U (mc 2 U mn)) U<|rS (CL (LC l kA kC az cA cC bA bC x hin asm I) (bo [5,6,7,8]) U)<|AL U dA fun R6=>gd U cz U<|RK EQ<|WS fun _ Eq=>rP 5 [] (mc 0 U mn) ?_
 refine RK Eq<|bR U (aN fun D=>?_) (aO fun D=>?_)
 ·refine WK s<|ak<|rP 1 [] (mc 3 U mn) ?_
  refine jI (vs:=(aH.cells x)) (cs':=(aH.cells x)) (C':=[_,_,_,_,_,_,_,_,_,_,_,_,_,_,_,_,(cm V 107 (aH.cells x)),_]) 16 U U U xr U U U U U U U<|aB<|aF<|KK AA ?_
  have J8:(aH.cells x)=(aH.cells (m7 r.ah (i+1))):=by rw [pM hx]
  rw [J8]
  refine ak<|rP 2 [] mn ?_
  refine aB ?_
  rw [show (ew l r.ah i)=(ew l r.ah (i+1)) from (yG hx D).symm]
  have J9:(vI (((i+1):Nat):Int))=(vI ((i:Int)+1)):=by exact cI I
  refine aU (T ⟨(i+1),⟨I,mo A hx (by unfold kF lz; omega)⟩⟩ _ _ _ U os (cQ 9<|bj U J9<|dI.nil _) (aI [4,5,6,7,8,9,10,11,12,13,14,15,16,17]))
 obtain ⟨mb,Z⟩:=aK (ew l r.ah i) ((x.fR).toNat) I
 obtain ⟨ga,M⟩:=aK fb ((x.fR).toNat) I
 refine DU 17 Z M U U U ?_
 try dsimp only
 refine dM cE 10 kr<|mq 1 U<|dS (SX (bO U U) U U)<|dP 4 [0,1] (mc 16 U (mc 5 U mn)) ?_
 have K4:(List.map oC (eK fb l.ag.length))[(x.fR).toNat]? =some (oC (some ga)):=sK (pk M)
 refine dS (IA ((x.fR).toNat) U (ae (n:=l.ag.length) 17 U sq) Gx dc I I) ?_
 refine dS (gl ((x.fR).toNat) 0 (Value.map (some ga)) U cp (ae (n:=(eK fb l.ag.length).length) 17 U sm) K4 U dc U)<|m_ 2 [] (mc 2 U mn) U<|cR<|ks (kV:=iV) (x:=(i:Int)) (C':=[(iP iV ga (bW ep (e_ mb (i:Int) (cD l x)))),_,_,_,_,_,_,_,_,_,_,_,_,_,_,_,_,_,_]) 0 U U U U oy (eZ qy) U (iG _ _ _ _).symm U<|RK s<|ak<|rP 1 [] (mc 5 U mn) ?_
 refine jI (vs:=(aH.cells x)) (cs':=(aH.cells x)) (C':=[_,_,_,_,_,_,_,_,_,_,_,_,_,_,_,_,_,_,(cm V 107 (aH.cells x))]) 18 U U U xr U U U U U U U<|aB<|aF<|KK AA ?_
 have J6:(aH.cells x)=(aH.cells (m7 r.ah (i+1))):=by rw [pM hx]
 rw [J6]
 refine ak<|rP 2 [] mn ?_
 refine aB ?_
 refine E_ (f:=sr) (ms:=(ew l r.ah i)) (m:=(e_ mb (i:Int) (cD l x))) 1 0 (by rw [jF]; omega) M U U U ?_
 rw [zl hx I D Z]
 have J7:(vI (((i+1):Nat):Int))=(vI ((i:Int)+1)):=by exact cI I
 refine aU (T ⟨(i+1),⟨I,mo A hx (by unfold kF lz; omega)⟩⟩ _ _ _ U os (cQ 9<|bj U J7<|dI.nil _) (aI [5,6,7,8,9,10,11,12,13,14,15,16,17,0]))
end
section
open Go.RowKit
theorem J1 (l:aY) (kA:OA) (kC:Nat) (az:List RA) (cA:OA) (cC:Nat) (bA:OA) (bC:Nat) (r:cx) (sgA:OA) (sgC:Nat) (bq_:Int) (hin:eA l az) (hsl:r.ah.length≤1000000):
 eB Tryz.prog 25 [(vA (b_.cells (lO l kA kC cA cC bA bC))),(vA (dp.cells (lT r sgA sgC))),(vI bq_)] [(rd kA l.aL.length 9 (l.aL.map al.cells)),(rd cA l.ai.length 2 (List.zipWith ar.cells l.ai az)),(fp (aR ar.ia l.ai az)),(rd bA l.ag.length 4 (l.ag.map bE.cells)),(rd sgA r.ah.length 2 (r.ah.map aH.cells))] (vT [(vA (aa.cells (dJ l r bq_))),(vI (dw l r bq_))]):=by
 have J4:=hin.si
 have If:=hin.rr
 have Hy:=hin.nD
 have IR:=hin.su
 have J2:=hin.side
 refine bG kr Tryz.func25 U U fun w0 Q hQ hN=>?_
 try dsimp only
 refine WS fun _ A3=>fZ U fun b2=>fZ U fun b3=>ve U U fun b4=>AL U dA fun b5=>bk 1 U<|RK A3<|WS fun _ p=>rP 2 [0,1] (mc 3 U (mc 2 U mn)) ?_
 refine rS (FU U)<|dj (xs:=[.tmp 17]) (cs:=[(Value.func (.func 59) [].toArray [(vP b2),(vP b4)].toArray)]) U Py Up U U U U (by simp [Value.cells]) U U fun b7=>cX (O1 l kA kC az cA cC bA bC r sgA sgC (Value.func (.func 59) [].toArray [(vP b2),(vP b4)].toArray) (fp [(rd kA l.aL.length 9 (l.aL.map al.cells)),(rd cA l.ai.length 2 (List.zipWith ar.cells l.ai az)),(fp (aR ar.ia l.ai az)),(rd bA l.ag.length 4 (l.ag.map bE.cells)),(cm b2 28 (b_.cells (lO l kA kC cA cC bA bC))),(cm b4 3 [(vI bq_)])]) (ik l bq_) b7 (by exact od (fi:=[]) (ca:=[(vP b2),(vP b4)]) (mE (En l kA kC az cA cC bA bC b2 bq_ b4 (by first|assumption|omega)) (bo [0,1,2,3,4,5]))) hin hsl) (mu [5,6,7,8,9]<|aq (mH (bo [5,6,7,8,4,2]))<|fB 0 U U<|aJ) U fun y8 Cp=>?_
 obtain ⟨Cx,GE,E,H,AB,g,j,m,B,L,J,K,A,G,d,f⟩:=y8
 cases Cx
 ·obtain ⟨B7,he⟩:=Cp.2 rfl
  try dsimp only at B7 he
  subst B7
  try dsimp only [cond_true,cond_false,List.cons_append,List.nil_append]
  refine bk 5 U<|RK p<|aj fun _ GF=>WS fun _ Bb=>rP 2 [] mn ?_
  refine RK Bb<|bR U (bu fun BF=>?_) (bw fun BF=>?_)
  ·exact absurd BF he
  refine WS fun _ Bg=>rS (SX (bg (xs:=[]) (cs:=(aa.cells (aa.mk 0 0))) U U (bh gJ U)) U U)<|bk 1 U<|te U cz U<|rP 1 [] mn ?_
  refine RK Bg<|av<|lU hQ [0] (mc 1 U mn) U ?_
  (have e:=jJ (b:=bq_) he; rw [e.1,e.2]<;>rfl)
 obtain ⟨he,D,C,C3,C2,D2⟩:=Cp.1 rfl
 try dsimp only [cond_true,cond_false,List.cons_append,List.nil_append]
 dsimp only at D C C3 C2 D2
 obtain ⟨C1,A7,Do,JN⟩:=jM he
 obtain ⟨D9,Ci⟩:=fy C1
 have Di:=Ci.head
 unfold gH at Di
 have EQ:=mT D9 Ci A7
 have Jc:=A7.time
 have JO:=A7.len
 have B9:(cJ l l.ag.length).length=l.ag.length:=dH
 have Ck:(ew l r.ah r.ah.length).length=l.ag.length:=jF
 have In:B.length=l.ag.length+1:=by have:=D.len; rw [show (bV l r).n=l.ag.length from dH] at this; exact this
 have Id:A.length=l.ag.length+1:=by have:=C.len; rw [show (bV l r).n=l.ag.length from dH] at this; exact this
 obtain ⟨H1,IO⟩:=EL Do
 obtain ⟨b,A4⟩: ∃ b:Nat,bq_=(b:Int):=⟨bq_.toNat,I⟩
 rw [A4]
 refine bk 5 U<|RK p<|aj fun _ N=>WS fun _ O=>bk 1 U<|rS (SX (cd (r:= .bool false) U U U og) U U)<|RK O<|aZ U<|WK N<|WS fun _ P=>rS (SX (bg (xs:=[(0,.const (vI 1))]) (cs:=(aa.cells (aa.mk 1 0))) U U (bh gJ U)) U U)<|AL U dA fun A8=>gd U cz U<|RK P<|WS fun _ R=>fP 1 [] (mc 0 U mn) U<|AL U dA fun A9=>gd U cz U<|RK R<|aj fun _ T=>WS fun _ AA=>rP 2 [] (mc 12 U mn) ?_
 obtain ⟨mf,Y⟩:=aK B b I
 obtain ⟨mb,Z⟩:=aK A (b+1) I
 refine cX (Le E b) (aJ) U fun FS GT=>?_
 obtain ⟨AC,AO⟩:=FS
 try dsimp only
 refine RK AA<|ax ?_
 refine oi (L0:=[(3,(vP b2)),(4,(vP b3)),(5,(vP b4)),(6,(vP b5)),(7,(vI 0)),(10,(vP A8)),(11,(vP A9))]) (F:=[(own H AB 3 1 ((cJ l l.ag.length).map iC)),(own g j 40 1 (List.zipWith gV (ew l r.ah r.ah.length) m)),(br (aR sr (ew l r.ah r.ah.length) m)),(own J K 170 1 (List.zipWith gV B L)),(br (aR ow B L)),(own d f 170 1 (List.zipWith gV A G)),(br (aR ow A G)),(cm E 166 (cq.cells (cq.mk (lO l kA kC cA cC bA bC) (lT r sgA sgC) (bp.mk H ((cJ l l.ag.length).length) AB) (bp.mk g ((ew l r.ah r.ah.length).length) j) (bp.mk J B.length K) (bp.mk d A.length f)))),(cm AC 121 [(vP E)]),(cm AO 3 [(vI (b:Int))])]) (fun k (y:aa)=>(kO k y)∧(∀ q∈k,q∈qn (bV l r) b mf mb)) (fun k y=>[(cm A9 45 (aa.cells y)),(cm A8 45 (aa.cells (aa.mk 1 0))),(cm b5 45 (aa.cells (aa.mk 0 0))),(cm b4 3 [(vI (b:Int))]),(cm b3 60 (dp.cells (lT r sgA sgC))),(cm b2 28 (b_.cells (lO l kA kC cA cC bA bC))),(rd kA l.aL.length 9 (l.aL.map al.cells)).ro,(rd cA l.ai.length 2 (List.zipWith ar.cells l.ai az)).ro,(fp (aR ar.ia l.ai az)).ro,(rd bA l.ag.length 4 (l.ag.map bE.cells)).ro,(rd sgA r.ah.length 2 (r.ah.map aH.cells)).ro]) (fun _ (_:Unit)=>False) (fun _ _=>[]) [2,3,13,14,15,16,17,18,19,20,21] [5,6,7,8,9,10,11,4,0,1] jk rfl rfl (HI (lO l kA kC cA cC bA bC) (lT r sgA sgC) (cJ l l.ag.length) (ew l r.ah r.ah.length) H AB m g j B A L J K G d f E b AC AO mf mb (by rw [B9]; omega) (by exact EQ) (by rw [Ck]; omega) (by exact D) I (by exact C) I (by show r.ah.length≤1000; omega) (by exact Y) (by exact Z)) rfl rfl rfl (by exact ⟨CW,fun q hq=>by cases hq⟩) (by simp only [List.forall_mem_cons,List.not_mem_nil,false_imp_iff,implies_true,and_true]; exact ⟨⟨_,aS (i:=0) rfl,(ky sm)⟩,⟨_,aS (i:=1) rfl,(ky (by rw [List.length_zipWith]; omega))⟩,⟨_,aS (i:=2) rfl,uw⟩,⟨_,aS (i:=3) rfl,(ky (by rw [List.length_zipWith]; omega))⟩,⟨_,aS (i:=4) rfl,uw⟩,⟨_,aS (i:=5) rfl,(ky (by rw [List.length_zipWith]; omega))⟩,⟨_,aS (i:=6) rfl,uw⟩,⟨_,aS (i:=7) rfl,(bU _)⟩,⟨_,aS (i:=8) rfl,(bU _)⟩,⟨_,aS (i:=9) rfl,(bU _)⟩⟩) (by rintro k x k2 ⟨o,_,rfl,_⟩; rfl) rfl (aT rfl) ?_ ?_ (fun _ _ _ h=>h.elim) (fun _ _ h=>h.elim)
 ·rintro k x k2 h lr ra rb S w1 K41 Qr42 J3 hx A5 Bs X Eq Fd
  obtain ⟨q,hq,rfl,rfl⟩:=hx
  obtain ⟨a,c⟩:=A5
  try dsimp only
  refine ak<|AL U dA fun GZ=>gd U cz U<|aB<|jr (fun _ _ h=>h) (aI [1,0,2,3,4,5,6,7,8,9,10,11,12])<|aU (Bs _ _ ?_)
  refine ax<|aj fun _ s=>WS fun _ B3=>rP 2 [0,1] (mc 2 U (mc 3 U mn)) ?_
  refine rS (BI U (PO _ _ h (aa.mk 1 0)))<|RK B3<|bR U (bu fun M=>?_) (bw fun M=>?_)
  ·refine WK s<|ak<|rP 1 [] (mc 1 U mn) ?_
   refine G0 U cz U<|aB<|aF ?_
   exact X q.2 _ _ (by refine ⟨zM a (iR hq) ?_,fun z hz=>?_⟩; (first|exact if_neg M|exact if_pos M); (rcases dN.1 hz with hz|hz; exact c z hz; (rw [bI.1 hz]; exact hq))) (aI [0,2,3,4,5,6,7,8,9,10,11,12])
  refine ak<|fP 4 [0,1] (mc 1 U (mc 2 U mn)) U<|rS (MN U)<|fP 4 [0,1] (mc 1 U (mc 2 U mn)) U<|rS (MX U)<|rS (SX (bg (xs:=[(0,.tmp 40),(1,.tmp 45)]) (cs:=(aa.cells (aa.mk (min q.2.Lo h.Lo) (max q.2.Hi h.Hi)))) U U (bh gJ U)) U U)<|te U cz U<|RK s<|ak<|rP 1 [] (mc 1 U mn) ?_
  refine G0 U cz U<|aB<|aF ?_
  exact X (aa.mk (min q.2.Lo h.Lo) (max q.2.Hi h.Hi)) _ _ (by refine ⟨zM a (iR hq) ?_,fun z hz=>?_⟩; (first|exact if_neg M|exact if_pos M); (rcases dN.1 hz with hz|hz; exact c z hz; (rw [bI.1 hz]; exact hq))) (aI [0,2,3,4,5,6,7,8,9,10,11,12])
 rintro J6 k h v A6
 obtain ⟨a,c⟩:=A6
 try dsimp only
 refine aF<|KK T<|aj fun _ V=>WS fun _ W=>rP 2 [0,1] (mc 11 U (mc 12 U mn)) ?_
 refine rS (BI U (uD _ _ h (aa.mk 1 0)))<|RK W<|bR U (aN fun A2=>?_) (aO fun A2=>?_)
 ·refine WK V<|WS fun _ u=>fP 1 [] (mc 11 U mn) U<|jI (vs:=(aa.cells h)) (cs':=(aa.cells h)) (C':=[_,_,_,_,_,_,_,_,_,_,_,_,_,(cm b5 45 (aa.cells h)),_,_,_,_,_,_,_,_]) 13 U U U cz U U U U U U U<|rP 1 [] mn ?_
  refine RK u<|av<|hQ _ _ _ (o4 0 U U<|iu (vs:=[(vA (aa.cells h)),(vI 0)]) ⟨⟨_,U,.inl ⟨_,_,cp,qd (vs:=(aa.cells h)) 13 U U,U,U⟩⟩,U,trivial⟩ fun w hs=>E1 ?_ hs)
  show (vT [(vA (aa.cells h)),(vI 0)])=(vT [(vA (aa.cells (dJ l r bq_))),(vI (dw l r bq_))])
  clear hs w hQ hN u W V AA T R P O N p A3
  (rw [A4] at he ⊢; have hh:h=kP l r b:=zO (D.min _ _ Y) (C.max _ _ Z) (D.keys _ _ Y) (C.keys _ _ Z) c v a; (have e:=iW he (fun q=>A2 (hh.trans q)); rw [e.1,e.2,hh]<;>rfl))
 refine WS fun _ t=>rS (SX (bg (xs:=[]) (cs:=(aa.cells (aa.mk 0 0))) U U (bh gJ U)) U U)<|jI (vs:=(aa.cells (aa.mk 0 0))) (cs':=(aa.cells (aa.mk 0 0))) (C':=[_,_,_,_,_,_,_,_,_,_,_,_,_,(cm b5 45 (aa.cells (aa.mk 0 0))),_,_,_,_,_,_,_,_]) 13 U U U cz U U U U U U U<|rP 1 [] mn ?_
 refine RK t<|av<|hQ _ _ _ (o4 0 U U<|iu (vs:=[(vA (aa.cells (aa.mk 0 0))),(vI 6)]) ⟨⟨_,U,.inl ⟨_,_,cp,qd (vs:=(aa.cells (aa.mk 0 0))) 13 U U,U,U⟩⟩,U,trivial⟩ fun w hs=>E1 ?_ hs)
 show (vT [(vA (aa.cells (aa.mk 0 0))),(vI 6)])=(vT [(vA (aa.cells (dJ l r bq_))),(vI (dw l r bq_))])
 clear hs w hQ hN t W V AA T R P O N p A3
 (rw [A4] at he ⊢; have hh:h=kP l r b:=zO (D.min _ _ Y) (C.max _ _ Z) (D.keys _ _ Y) (C.keys _ _ Z) c v a; (have e:=lp he (hh.symm.trans A2); rw [e.1,e.2]<;>rfl))
theorem TU (l:aY) (kA:OA) (kC:Nat) (az:List RA) (cA:OA) (cC:Nat) (bA:OA) (bC:Nat) (r:cx) (sgA:OA) (sgC:Nat) (hin:eA l az) (hsl:r.ah.length≤1000000):
 eB Tryz.prog 23 [(vA (b_.cells (lO l kA kC cA cC bA bC))),(vA (dp.cells (lT r sgA sgC)))] [(rd kA l.aL.length 9 (l.aL.map al.cells)),(rd cA l.ai.length 2 (List.zipWith ar.cells l.ai az)),(fp (aR ar.ia l.ai az)),(rd bA l.ag.length 4 (l.ag.map bE.cells)),(rd sgA r.ah.length 2 (r.ah.map aH.cells))] (vT [(vA (aa.cells (t_ l r))),(vI (dw l r l.bS))]):=by
 have N:=hin.si
 have J:=hin.rr
 have H:=hin.nD
 have AA:=hin.su
 have M:=hin.side
 refine bG kr Tryz.func23 U U fun T Q hQ hN=>?_
 try dsimp only
 refine WS fun _ C=>fZ U fun O=>fZ U fun P=>AL U dA fun R=>bk 1 U<|RK C<|WS fun _ D=>fP 4 [0,1] (mc 2 U (mc 1 U mn)) U<|rS (CL (J1 l kA kC az cA cC bA bC r sgA sgC l.bS hin hsl) (bo [3,4,5,6,7]) U)<|bk 3 U<|AL U dA fun S=>gd U cz U<|bk 1 U<|RK D<|aj fun _ E=>WS fun _ F=>rP 2 [] mn ?_
 refine RK F<|cP U (bw fun A=>?_) (bu fun A=>?_)
 ·refine WS fun _ G=>rS (SX (bg (xs:=[]) (cs:=(aa.cells (aa.mk 0 0))) U U (bh gJ U)) U U)<|bk 1 U<|te U cz U<|rP 1 [] mn ?_
  refine RK G<|av<|lU hQ [0] (mc 1 U mn) U ?_
  (rw [Fq A]<;>rfl)
 refine WK E<|WS fun _ B=>rP 4 [0,1] (mc 0 U (mc 2 U mn)) ?_
 have K:=yu A
 have L:=(mJ A).time
 refine fP 6 [0,1] (mc 0 U (mc 2 U mn)) U<|rS (SX (bg (xs:=[(0,.tmp 24),(1,.tmp 29)]) (cs:=(aa.cells (aa.mk (((dJ l r l.bS).Lo)-r.Start) (((dJ l r l.bS).Hi)-r.Start)))) U U (bh gJ U)) U U)<|te U cz U<|rP 1 [] mn ?_
 refine RK B<|av<|lU hQ [0] (mc 1 U mn) U ?_
 (rw [ye A,A]<;>rfl)
end
section
open Go.RowKit
theorem NM (l:aY) (kA:OA) (kC:Nat) (az:List RA) (cA:OA) (cC:Nat) (bA:OA) (bC:Nat) (d:au) (sgA:OA) (sgC:Nat) (hin:eA l az):
 eB Tryz.prog 216 [(vA (b_.cells (lO l kA kC cA cC bA bC))),(vA (bq.cells (bq.mk d.Out d.ed d.Time (lT d.bX sgA sgC))))] [(rd kA l.aL.length 9 (l.aL.map al.cells)),(rd cA l.ai.length 2 (List.zipWith ar.cells l.ai az)),(fp (aR ar.ia l.ai az)),(rd bA l.ag.length 4 (l.ag.map bE.cells)),(rd sgA d.bX.ah.length 2 (d.bX.ah.map aH.cells))] (vT [(vA (aa.cells d.Time)),(vB (decide (d.ed=false∧d.Time=dL∧iF d.bX)))]):=by
 refine bG kr Tryz.func216 U U fun K Q hQ hN=>?_
 try dsimp only
 refine WS fun _ B=>fZ U fun H=>fZ U fun AA=>AL U dA fun J=>rP 1 [] mn ?_
 refine RK B<|aj fun _ A=>dK cE [15] [] [] [1,2,3,4,5,6,7] [] U U U U U<|eS U (FA 2 U fc U)<|eS U (LP (aa.cells d.Time) 0 U cp U U U)<|eS U (FA 1 U fc U)<|eS U (L1 (vB d.ed) 0 U cp U U)<|eS U (NT U)<|eS U (MV U)<|rY (t:=11) U (fun G=>?_) (fun G=>?_)
 rotate_left 1
 ·rw [Bool.not_eq_false'] at G
  refine eS U (OX U)<|eS U (OX U)<|eS U (OX U)<|eS U (OX U)<|eS U (PK U)<|eS U (MV U)<|eS U (OX U)<|eS U (OX U)<|eS U (PK U)<|eS U (AG U)<|eU U<|cf U fun T10 C=>gd U cz U<|aB (C _ _ (aI [1,2,3,4,5,6,7]) ?_)
  refine fF U<|KK A<|av<|lU hQ [0] (mc 0 U mn) U ?_
  clear hQ hN C T10 A B
  refine congrArg (fun z=>Value.tuple #[_,vB z]) ?_
  first|rfl|(simp_all [dL]; done)
 rw [Bool.not_eq_true'] at G
 refine eS U (FA 2 U fc U)<|eS U (LP (aa.cells d.Time) 0 U cp U U U)<|eS U (SX (bg (xs:=[]) (cs:=(aa.cells (aa.mk 0 0))) U U (bh gJ U)) U U)<|eS U (BI U (uD _ _ d.Time (aa.mk 0 0)))<|eS U (PK U)<|eS U (MV U)<|rY (t:=17) U (fun D=>?_) (fun D=>?_)
 rotate_left 1
 ·replace D:=DF D
  refine eS U (OX U)<|eS U (OX U)<|eS U (PK U)<|eS U (AG U)<|eU U<|cf U fun T9 F=>gd U cz U<|aB (F _ _ (aI [1,2,3,4,5,6,7]) ?_)
  refine fF U<|KK A<|av<|lU hQ [0] (mc 0 U mn) U ?_
  clear hQ hN F T9 A B
  refine congrArg (fun z=>Value.tuple #[_,vB z]) ?_
  first|rfl|(simp_all [dL]; done)
 replace D:=DT D
 refine eS U (LW 0 U cp U U)<|eS U (CL (Jy d sgA sgC) (bo [6]) U)<|eS U (PK U)<|eS U (AG U)<|eU U<|cf U fun T8 E=>gd U cz U<|aB (E _ _ (aI [1,2,3,4,5,6,7]) ?_)
 refine fF U<|KK A<|av<|lU hQ [0] (mc 0 U mn) U ?_
 clear hQ hN E T8 A B
 refine congrArg (fun z=>Value.tuple #[_,vB z]) ?_
 first|rfl|(simp_all [dL]; done)
theorem Nz (l:aY) (kA:OA) (kC:Nat) (az:List RA) (cA:OA) (cC:Nat) (bA:OA) (bC:Nat) (d:au) (sgA:OA) (sgC:Nat) (hin:eA l az):
 eB Tryz.prog 219 [(vA (b_.cells (lO l kA kC cA cC bA bC))),(vA (bq.cells (bq.mk d.Out d.ed d.Time (lT d.bX sgA sgC))))] [(rd kA l.aL.length 9 (l.aL.map al.cells)),(rd cA l.ai.length 2 (List.zipWith ar.cells l.ai az)),(fp (aR ar.ia l.ai az)),(rd bA l.ag.length 4 (l.ag.map bE.cells)),(rd sgA d.bX.ah.length 2 (d.bX.ah.map aH.cells))] (vT [(vA (aa.cells d.Time)),(vB (decide (jf d.Time∧iF d.bX)))]):=by
 refine bG kr Tryz.func219 U U fun AA Q hQ hN=>?_
 try dsimp only
 refine WS fun _ B=>fZ U fun F=>fZ U fun G=>AL U dA fun H=>rP 1 [] mn ?_
 refine RK B<|aj fun _ A=>dK cE [9] [] [] [1,2,3,4,5,6,7] [] U U U U U<|eS U (FA 2 U fc U)<|eS U (LP (aa.cells d.Time) 0 U cp U U U)<|eS U (FA 2 U fc U)<|eS U (LP (aa.cells d.Time) 0 U cp U U U)<|eS U (CL (Ga d.Time) (aJ) U)<|eS U (MV U)<|rY (t:=11) U (fun C=>?_) (fun C=>?_)
 rotate_left 1
 ·replace C:=DF C
  refine eS U (OX U)<|eS U (OX U)<|eS U (PK U)<|eS U (AG U)<|eU U<|cf U fun T8 E=>gd U cz U<|aB (E _ _ (aI [1,2,3,4,5,6,7]) ?_)
  refine fF U<|KK A<|av<|lU hQ [0] (mc 0 U mn) U ?_
  clear hQ hN E T8 A B
  refine congrArg (fun z=>Value.tuple #[_,vB z]) ?_
  first|rfl|(simp_all; done)
 replace C:=DT C
 refine eS U (LW 0 U cp U U)<|eS U (CL (Jy d sgA sgC) (bo [6]) U)<|eS U (PK U)<|eS U (AG U)<|eU U<|cf U fun T7 D=>gd U cz U<|aB (D _ _ (aI [1,2,3,4,5,6,7]) ?_)
 refine fF U<|KK A<|av<|lU hQ [0] (mc 0 U mn) U ?_
 clear hQ hN D T7 A B
 refine congrArg (fun z=>Value.tuple #[_,vB z]) ?_
 first|rfl|(simp_all; done)
theorem Oz (l:aY) (kA:OA) (kC:Nat) (az:List RA) (cA:OA) (cC:Nat) (bA:OA) (bC:Nat) (d:au) (sgA:OA) (sgC:Nat) (hin:eA l az) (hsl:d.bX.ah.length≤1000000):
 eB Tryz.prog 221 [(vA (b_.cells (lO l kA kC cA cC bA bC))),(vA (bq.cells (bq.mk d.Out d.ed d.Time (lT d.bX sgA sgC))))] [(rd kA l.aL.length 9 (l.aL.map al.cells)),(rd cA l.ai.length 2 (List.zipWith ar.cells l.ai az)),(fp (aR ar.ia l.ai az)),(rd bA l.ag.length 4 (l.ag.map bE.cells)),(rd sgA d.bX.ah.length 2 (d.bX.ah.map aH.cells))] (vT [(vA (aa.cells (t_ l d.bX))),(vB (decide (dw l d.bX l.bS=0∧d.Time=dL)))]):=by
 have K:=hin.si
 have AA:=hin.rr
 have G:=hin.nD
 have H:=hin.su
 have J:=hin.side
 refine bG kr Tryz.func221 U U fun P Q hQ hN=>?_
 try dsimp only
 refine WS fun _ C=>fZ U fun L=>fZ U fun M=>AL U dA fun N=>bk 1 U<|RK C<|WS fun _ D=>fP 2 [] (mc 2 U mn) U<|rS (LP (dp.cells (lT d.bX sgA sgC)) 1 U cp U U U)<|rS (CL (TU l kA kC az cA cC bA bC d.bX sgA sgC hin hsl) (bo [3,4,5,6,7]) U)<|bk 3 U<|AL U dA fun O=>gd U cz U<|rP 1 [] mn ?_
 refine RK D<|aj fun _ A=>dK cE [9] [] [] [0,2,3,4,5,6,7,8] [] U U U U U<|eS U (LW 0 U cp U U)<|eS U (MV U)<|eS U (BI U mW)<|eS U (MV U)<|rY (t:=18) U (fun E=>?_) (fun E=>?_)
 rotate_left 1
 ·replace E:=DF E
  refine eS U (OX U)<|eS U (OX U)<|eS U (OX U)<|eS U (OX U)<|eS U (PK U)<|eS U (AG U)<|eU U<|cf U fun T10 B=>te U cz U<|aB (B _ _ (aI [0,2,3,4,5,6,7,8]) ?_)
  refine fF U<|KK A<|av<|lU hQ [0] (mc 1 U mn) U ?_
  clear hQ hN B T10 A D C
  refine congrArg (fun z=>Value.tuple #[_,vB z]) ?_
  first|rfl|(simp_all [dL]; done)
 replace E:=DT E
 refine eS U (FA 2 U fc U)<|eS U (LP (aa.cells d.Time) 1 U cp U U U)<|eS U (SX (bg (xs:=[]) (cs:=(aa.cells (aa.mk 0 0))) U U (bh gJ U)) U U)<|eS U (BI U (uD _ _ d.Time (aa.mk 0 0)))<|eS U (PK U)<|eS U (AG U)<|eU U<|cf U fun T9 F=>te U cz U<|aB (F _ _ (aI [0,2,3,4,5,6,7,8]) ?_)
 refine fF U<|KK A<|av<|lU hQ [0] (mc 1 U mn) U ?_
 clear hQ hN F T9 A D C
 refine congrArg (fun z=>Value.tuple #[_,vB z]) ?_
 first|rfl|(simp_all [dL]; done)
theorem H3 (d:au) (sgA:OA) (sgC g1:Nat):
 eB Tryz.prog 114 [(vA (m8.cells (m8.mk (Value.func (.func 215) [].toArray [].toArray) (Value.func (.func 216) [].toArray [].toArray)))),(vP g1)] [(rd sgA d.bX.ah.length 2 (d.bX.ah.map aH.cells)),(cm g1 62 (bq.cells (bq.mk d.Out d.ed d.Time (lT d.bX sgA sgC))))] (vB d.Out):=by
 refine bG kr Tryz.func114 U U fun D Q hQ hN=>?_
 try dsimp only
 refine WS fun _ A=>fZ U fun C=>bk 1 U<|RK A<|WS fun _ B=>fP 3 [0,1] (mc 0 U (mr 2 U mn)) U<|rS (CL (SG d sgA sgC) (bo [1]) U)<|rP 1 [] mn ?_
 refine RK B<|av<|Q1 hQ U U U ?_
 rfl
theorem IG (d:au) (sgA:OA) (sgC g1:Nat):
 eB Tryz.prog 114 [(vA (m8.cells (m8.mk (Value.func (.func 218) [].toArray [].toArray) (Value.func (.func 219) [].toArray [].toArray)))),(vP g1)] [(rd sgA d.bX.ah.length 2 (d.bX.ah.map aH.cells)),(cm g1 62 (bq.cells (bq.mk d.Out d.ed d.Time (lT d.bX sgA sgC))))] (vB d.ed):=by
 refine bG kr Tryz.func114 U U fun D Q hQ hN=>?_
 try dsimp only
 refine WS fun _ A=>fZ U fun C=>bk 1 U<|RK A<|WS fun _ B=>fP 3 [0,1] (mc 0 U (mr 2 U mn)) U<|rS (CL (Sn d sgA sgC) (bo [1]) U)<|rP 1 [] mn ?_
 refine RK B<|av<|Q1 hQ U U U ?_
 rfl
theorem HW (d:au) (sgA:OA) (sgC g1:Nat):
 eB Tryz.prog 114 [(vA (m8.cells (m8.mk (Value.func (.func 220) [].toArray [].toArray) (Value.func (.func 221) [].toArray [].toArray)))),(vP g1)] [(rd sgA d.bX.ah.length 2 (d.bX.ah.map aH.cells)),(cm g1 62 (bq.cells (bq.mk d.Out d.ed d.Time (lT d.bX sgA sgC))))] (vB true):=by
 refine bG kr Tryz.func114 U U fun D Q hQ hN=>?_
 try dsimp only
 refine WS fun _ A=>fZ U fun C=>bk 1 U<|RK A<|WS fun _ B=>fP 3 [0,1] (mc 0 U (mr 2 U mn)) U<|rS (CL (RW d sgA sgC) (bo [1]) U)<|rP 1 [] mn ?_
 refine RK B<|av<|Q1 hQ U U U ?_
 rfl
end
section
open Go.RowKit
theorem w9 (d:au) (sgA:OA) (sgC g1:Nat):
 eB Tryz.prog 113 [(vS fx 3 3),(Value.func (.func 114) [].toArray [(vP g1)].toArray)] [(rd fx 3 2 eC),(rd sgA d.bX.ah.length 2 (d.bX.ah.map aH.cells)),(cm g1 62 (bq.cells (bq.mk d.Out d.ed d.Time (lT d.bX sgA sgC))))] (vI (o2 d)):=by
 refine bG kr Tryz.func113 U U fun b Q hQ hN=>?_
 try dsimp only
 refine WS fun _ F=>bk 1 U<|RK F<|aj fun _ AA=>WS fun _ G=>bk 3 U<|RK G<|ax<|ki 4<|eH fun R4 Z=>WS fun _ H=>rS (SX (cd (r:= .bool true) U U U ib) U U)<|RK H<|aj fun _ AB=>aQ U<|WK AB<|aj fun _ J=>ax<|WS fun _ K=>bk 2 U<|RK K<|WS fun _ L=>rP 3 [] mn ?_
 refine rS (IA 0 U (aA 0 U) Kw dc U I)<|rS (oE 0 0 (m8.cells (m8.mk (Value.func (.func 215) [].toArray [].toArray) (Value.func (.func 216) [].toArray [].toArray))) U cp (aA 0 U) (show eC[0]? =some [(Value.func (.func 215) [].toArray [].toArray),(Value.func (.func 216) [].toArray [].toArray)] from U) U dc U U)<|rS (CL (H3 d sgA sgC g1) (bo [1,2]) U)<|RK L<|cP U (fun X=>?_) (fun X=>?_)
 ·refine WS fun _ M=>rP 2 [] mn ?_
  refine RK M<|av<|Q1 hQ U U U ?_
  clear hQ hN M L K J AB H G AA F
  refine cI ?_
  simp [o2, *]
 refine ct<|aF<|KK J<|ak<|rS (SX (cd (r:= .int .i64 1) U U U (iq ⟨dc,dc⟩)) U U)<|bk 1 U<|RK Z<|eH fun R12 W=>WS fun _ A=>rS (SX (cd (r:= .bool true) U U U ib) U U)<|RK A<|aj fun _ B=>aQ U<|WK B<|aj fun _ C=>ax<|WS fun _ D=>bk 2 U<|RK D<|WS fun _ E=>rP 3 [] mn ?_
 refine rS (IA 1 U (aA 0 U) Kw dc U I)<|rS (oE 1 0 (m8.cells (m8.mk (Value.func (.func 218) [].toArray [].toArray) (Value.func (.func 219) [].toArray [].toArray))) U cp (aA 0 U) (show eC[1]? =some [(Value.func (.func 218) [].toArray [].toArray),(Value.func (.func 219) [].toArray [].toArray)] from U) U dc U U)<|rS (CL (IG d sgA sgC g1) (bo [1,2]) U)<|RK E<|cP U (fun Y=>?_) (fun Y=>?_)
 ·refine WS fun _ N=>rP 2 [] mn ?_
  refine RK N<|av<|Q1 hQ U U U ?_
  clear hQ hN N E D C B A L K J AB H G AA F
  refine cI ?_
  simp [o2, *]
 refine ct<|aF<|KK C<|ak<|rS (SX (cd (r:= .int .i64 2) U U U (iq ⟨dc,dc⟩)) U U)<|bk 1 U<|RK W<|eH fun R20 a=>WS fun _ O=>rS (SX (cd (r:= .bool true) U U U ib) U U)<|RK O<|aj fun _ P=>aQ U<|WK P<|aj fun _ V=>ax<|WS fun _ R=>bk 2 U<|RK R<|WS fun _ S=>bk 3 U<|rS (IA 2 U (aA 0 U) Kw dc U I)<|rS (oE 2 0 (m8.cells (m8.mk (Value.func (.func 220) [].toArray [].toArray) (Value.func (.func 221) [].toArray [].toArray))) U cp (aA 0 U) (show eC[2]? =some [(Value.func (.func 220) [].toArray [].toArray),(Value.func (.func 221) [].toArray [].toArray)] from U) U dc U U)<|rS (CL (HW d sgA sgC g1) (bo [1,2]) U)<|RK S<|aQ U<|WS fun _ T=>rP 2 [] mn ?_
 refine RK T<|av<|Q1 hQ U U U ?_
 clear hQ hN T S R V P O E D C B A L K J AB H G AA F
 refine cI ?_
 simp [o2, *]
end
section
open Go.RowKit
theorem Te (d:au) (sgA:OA) (sgC g1:Nat) (hk:d.Out=true):
 eB Tryz.prog 113 [(vS fx 3 3),(Value.func (.func 114) [].toArray [(vP g1)].toArray)] [(rd fx 3 2 eC),(rd sgA d.bX.ah.length 2 (d.bX.ah.map aH.cells)),(cm g1 62 (bq.cells (bq.mk d.Out d.ed d.Time (lT d.bX sgA sgC))))] (vI 0):=by
 have h:=w9 d sgA sgC g1
 have e:o2 d=0:=by simp [o2,hk]
 rw [e] at h
 exact h
theorem Tr (d:au) (sgA:OA) (sgC g1:Nat) (hk:d.Out=false∧d.ed=true):
 eB Tryz.prog 113 [(vS fx 3 3),(Value.func (.func 114) [].toArray [(vP g1)].toArray)] [(rd fx 3 2 eC),(rd sgA d.bX.ah.length 2 (d.bX.ah.map aH.cells)),(cm g1 62 (bq.cells (bq.mk d.Out d.ed d.Time (lT d.bX sgA sgC))))] (vI 1):=by
 have h:=w9 d sgA sgC g1
 have e:o2 d=1:=by simp [o2,hk]
 rw [e] at h
 exact h
theorem RV (d:au) (sgA:OA) (sgC g1:Nat) (hk:d.Out=false∧d.ed=false):
 eB Tryz.prog 113 [(vS fx 3 3),(Value.func (.func 114) [].toArray [(vP g1)].toArray)] [(rd fx 3 2 eC),(rd sgA d.bX.ah.length 2 (d.bX.ah.map aH.cells)),(cm g1 62 (bq.cells (bq.mk d.Out d.ed d.Time (lT d.bX sgA sgC))))] (vI 2):=by
 have h:=w9 d sgA sgC g1
 have e:o2 d=2:=by simp [o2,hk]
 rw [e] at h
 exact h
theorem DX (l:aY) (kA:OA) (kC:Nat) (az:List RA) (cA:OA) (cC:Nat) (bA:OA) (bC:Nat) (d:au) (sgA:OA) (sgC:Nat) (hin:eA l az) (hsl:d.bX.ah.length≤1000000) (hk:d.Out=true):
 eB Tryz.prog 75 [(vA (b_.cells (lO l kA kC cA cC bA bC))),(vA (bq.cells (bq.mk d.Out d.ed d.Time (lT d.bX sgA sgC))))] [(rd fx 3 2 eC),(rd kA l.aL.length 9 (l.aL.map al.cells)),(rd cA l.ai.length 2 (List.zipWith ar.cells l.ai az)),(fp (aR ar.ia l.ai az)),(rd bA l.ag.length 4 (l.ag.map bE.cells)),(rd sgA d.bX.ah.length 2 (d.bX.ah.map aH.cells))] (vT [(vA (aa.cells (dq l d))),(vB (decide (hE l d)))]):=by
 refine bG kr Tryz.func75 U U fun AA Q hQ hN=>?_
 try dsimp only
 refine WS fun _ A=>fZ U fun G=>fZ U fun D=>AL U dA fun H=>bk 1 U<|RK A<|WS fun _ B=>rS (SX (Eh U U Aq) U U)<|rS (FU U)<|rS (CL (Te d sgA sgC D hk) (OC 3 8 1 U U U U U U) U)<|bk 1 U<|RK B<|aj fun _ C=>dM cE 9 kr<|mq 1 U<|dS (SX (E3 (k:=0) U U U Aq U I) U U)<|dS (lZ ((0*2)+1) U (aA 3 U) (Nat.mul_pos I dc) fc U)<|dS (gl 0 1 (Value.func (.func 216) [].toArray [].toArray) U cp (aA 3 U) (show eC[0]? =some [(Value.func (.func 215) [].toArray [].toArray),(Value.func (.func 216) [].toArray [].toArray)] from U) U dc U)<|m_ 2 [0,1] (mc 2 U (mc 1 U mn)) U<|dS (CL (NM l kA kC az cA cC bA bC d sgA sgC hin) (bo [4,5,6,7,8]) U)<|mq 2 U<|cR<|gd U cz U<|rP 1 [] mn ?_
 refine RK C<|av<|lU hQ [0] (mc 0 U mn) U ?_
 have E:=wK (l:=l) hk
 have F:=px (l:=l) hk
 simp only [E,F]
theorem BT (l:aY) (kA:OA) (kC:Nat) (az:List RA) (cA:OA) (cC:Nat) (bA:OA) (bC:Nat) (d:au) (sgA:OA) (sgC:Nat) (hin:eA l az) (hsl:d.bX.ah.length≤1000000) (hk:d.Out=false∧d.ed=true):
 eB Tryz.prog 75 [(vA (b_.cells (lO l kA kC cA cC bA bC))),(vA (bq.cells (bq.mk d.Out d.ed d.Time (lT d.bX sgA sgC))))] [(rd fx 3 2 eC),(rd kA l.aL.length 9 (l.aL.map al.cells)),(rd cA l.ai.length 2 (List.zipWith ar.cells l.ai az)),(fp (aR ar.ia l.ai az)),(rd bA l.ag.length 4 (l.ag.map bE.cells)),(rd sgA d.bX.ah.length 2 (d.bX.ah.map aH.cells))] (vT [(vA (aa.cells (dq l d))),(vB (decide (hE l d)))]):=by
 refine bG kr Tryz.func75 U U fun AA Q hQ hN=>?_
 try dsimp only
 refine WS fun _ A=>fZ U fun G=>fZ U fun D=>AL U dA fun H=>bk 1 U<|RK A<|WS fun _ B=>rS (SX (Eh U U Aq) U U)<|rS (FU U)<|rS (CL (Tr d sgA sgC D hk) (OC 3 8 1 U U U U U U) U)<|bk 1 U<|RK B<|aj fun _ C=>dM cE 9 kr<|mq 1 U<|dS (SX (E3 (k:=1) U U U Aq U I) U U)<|dS (lZ ((1*2)+1) U (aA 3 U) (Nat.mul_pos I dc) fc U)<|dS (gl 1 1 (Value.func (.func 219) [].toArray [].toArray) U cp (aA 3 U) (show eC[1]? =some [(Value.func (.func 218) [].toArray [].toArray),(Value.func (.func 219) [].toArray [].toArray)] from U) U dc U)<|m_ 2 [0,1] (mc 2 U (mc 1 U mn)) U<|dS (CL (Nz l kA kC az cA cC bA bC d sgA sgC hin) (bo [4,5,6,7,8]) U)<|mq 2 U<|cR<|gd U cz U<|rP 1 [] mn ?_
 refine RK C<|av<|lU hQ [0] (mc 0 U mn) U ?_
 have E:=uc (l:=l) hk
 have F:=qO (l:=l) hk
 simp only [E,F]
theorem Cq (l:aY) (kA:OA) (kC:Nat) (az:List RA) (cA:OA) (cC:Nat) (bA:OA) (bC:Nat) (d:au) (sgA:OA) (sgC:Nat) (hin:eA l az) (hsl:d.bX.ah.length≤1000000) (hk:d.Out=false∧d.ed=false):
 eB Tryz.prog 75 [(vA (b_.cells (lO l kA kC cA cC bA bC))),(vA (bq.cells (bq.mk d.Out d.ed d.Time (lT d.bX sgA sgC))))] [(rd fx 3 2 eC),(rd kA l.aL.length 9 (l.aL.map al.cells)),(rd cA l.ai.length 2 (List.zipWith ar.cells l.ai az)),(fp (aR ar.ia l.ai az)),(rd bA l.ag.length 4 (l.ag.map bE.cells)),(rd sgA d.bX.ah.length 2 (d.bX.ah.map aH.cells))] (vT [(vA (aa.cells (dq l d))),(vB (decide (hE l d)))]):=by
 refine bG kr Tryz.func75 U U fun AA Q hQ hN=>?_
 try dsimp only
 refine WS fun _ A=>fZ U fun G=>fZ U fun D=>AL U dA fun H=>bk 1 U<|RK A<|WS fun _ B=>rS (SX (Eh U U Aq) U U)<|rS (FU U)<|rS (CL (RV d sgA sgC D hk) (OC 3 8 1 U U U U U U) U)<|bk 1 U<|RK B<|aj fun _ C=>dM cE 9 kr<|mq 1 U<|dS (SX (E3 (k:=2) U U U Aq U I) U U)<|dS (lZ ((2*2)+1) U (aA 3 U) (Nat.mul_pos I dc) fc U)<|dS (gl 2 1 (Value.func (.func 221) [].toArray [].toArray) U cp (aA 3 U) (show eC[2]? =some [(Value.func (.func 220) [].toArray [].toArray),(Value.func (.func 221) [].toArray [].toArray)] from U) U dc U)<|m_ 2 [0,1] (mc 2 U (mc 1 U mn)) U<|dS (CL (Oz l kA kC az cA cC bA bC d sgA sgC hin hsl) (bo [4,5,6,7,8]) U)<|mq 2 U<|cR<|gd U cz U<|rP 1 [] mn ?_
 refine RK C<|av<|lU hQ [0] (mc 0 U mn) U ?_
 have E:=rE (l:=l) hk
 have F:=oq (l:=l) hk
 simp only [E,F]
theorem Ex (l:aY) (kA:OA) (kC:Nat) (az:List RA) (cA:OA) (cC:Nat) (bA:OA) (bC:Nat) (d:au) (sgA:OA) (sgC:Nat) (hin:eA l az) (hsl:d.bX.ah.length≤1000000):
 eB Tryz.prog 75 [(vA (b_.cells (lO l kA kC cA cC bA bC))),(vA (bq.cells (bq.mk d.Out d.ed d.Time (lT d.bX sgA sgC))))] [(rd fx 3 2 eC),(rd kA l.aL.length 9 (l.aL.map al.cells)),(rd cA l.ai.length 2 (List.zipWith ar.cells l.ai az)),(fp (aR ar.ia l.ai az)),(rd bA l.ag.length 4 (l.ag.map bE.cells)),(rd sgA d.bX.ah.length 2 (d.bX.ah.map aH.cells))] (vT [(vA (aa.cells (dq l d))),(vB (decide (hE l d)))]):=by
 by_cases ho:d.Out=true
 ·exact DX l kA kC az cA cC bA bC d sgA sgC hin hsl ho
 by_cases hf:d.ed=true
 ·exact BT l kA kC az cA cC bA bC d sgA sgC hin hsl ⟨by simpa using ho,hf⟩
 ·exact Cq l kA kC az cA cC bA bC d sgA sgC hin hsl ⟨by simpa using ho,by simpa using hf⟩
end
section
open Go.RowKit
theorem JA (r:cj) (kA:OA) (kC:Nat) (az:List RA) (cA:OA) (cC:Nat) (bA:OA) (bC:Nat) (slA:OA) (slC:Nat) (drA:OA) (drC:Nat) (ha:List cb) (heA:OA) (heC:Nat) (tz:List RA) (tA:OA) (tC:Nat) (ms:Value) (gw h:Nat) (gm g1 g2:Nat) (hin:fw r az ha) (htz:tz.length=r.ao.length) (hh:h<r.ao.length) (hok:kq r (h+1)):
 D_ Tryz.prog 78 [(vI (h:Int)),(vP g1),(vP g2)] [(rd kA r.an.aL.length 9 (r.an.aL.map al.cells)),(rd cA r.an.ai.length 2 (List.zipWith ar.cells r.an.ai az)),(fp (aR ar.ia r.an.ai az)),(rd bA r.an.ag.length 4 (r.an.ag.map bE.cells)),(rd slA r.aM.length 1 (r.aM.map iC)),(rd drA r.bL.length 1 (r.bL.map iC)),(rd heA r.ao.length 1 (List.zipWith cw r.ao ha)),(fp (aR iI r.ao ha)),(rd tA ((cT r).length) 1 (List.zipWith EM (cT r) tz)),(fp (aR Nh (cT r) tz)),(cm gw 112 (gh.cells (gh.mk (oY r kA kC cA cC bA bC slA slC drA drC heA heC) (bp.mk tA ((cT r).length) tC) ms))),(cm g1 94 [(vP gw)]),(cm g2 40 [(Value.map (some gm))])] (iP iV gm (bW ep (eG r.an r.ao r.aM.length h 0))) (fun (x:Unit)=>(vT [])) (fun (x:Unit)=>True) (fun (x:Unit)=>(iP iV gm (bW ep (eG r.an r.ao r.aM.length (h+1) 0)))):=by
 have v:=hin.line
 have A6:=hin.iU
 have A7:=hin.has
 have A0:=hin.iY
 have AC:=hin.draw
 have A1:=dQ (r:=r)
 refine mY kr Tryz.func78 U U fun w0 Q hQ hN=>?_
 try dsimp only
 refine WS fun _ g=>fP 1 [] (mr 12 U mn) U<|rS (SX (bO U U) U U)<|rP 3 [] (mr 11 U mn) ?_
 obtain ⟨ht,B⟩:=aK r.ao h I
 obtain ⟨A,C⟩:=aK ha h I
 have Z:(List.zipWith cw r.ao ha)[h]? =some (cw ht A):=dB B C
 have s:=hin.nu _ _ _ B C
 have AO:=s.nD
 have N:=hok h ht I B
 obtain ⟨tr,G⟩:=aK (cT r) h I
 obtain ⟨tra,F⟩:=aK tz h I
 have c:(List.zipWith EM (cT r) tz)[h]? =some (EM tr tra):=dB G F
 refine rS (IA h U (aA 9 U) GG dc I I)<|rS (gl h 0 (vS tra.1 tr.length tra.2) U cp (aA 9 U) c U dc U) ?_
 have AB:=Ah B G
 have A3:tr.length=r.aM.length:=by rw [AB,List.length_map]; exact N.1
 have A2:=N.1
 refine rP 2 [] mn ?_
 refine RK g<|ax ?_
 have E:(0≤r.aM.length):=by exact Nat.zero_le _
 refine bJ (ι:={z:Nat // (z≤r.aM.length)}) [0,1,2,14,15] [1,2,3,4,5,6,7,8,9,10,11,12,13] U U (fun z=>[(16,(vI (z.1:Int)))]) (fun z=>[(iP iV gm (bW ep (eG r.an r.ao r.aM.length h z.1)))]) (fun _=>rfl) (fun _=>rfl) (fun z=>r.aM.length-z.1) ⟨0,E⟩ (aT U) (aI [1,2,3,4,5,6,7,8,9,10,11,12,13,0]) ?_
 clear E
 rintro ⟨i,u⟩ J2 K
 try dsimp only
 have a:i<r.aM.length→(eG r.an r.ao r.aM.length h i).lookup (i:Int)=gv r.an r.ao i h:=Ms
 refine WS fun _ k=>rP 1 [] mn ?_
 refine RK k<|aj fun _ m=>bR U (aN fun h5=>?_) (aO fun h5=>?_)
 ·refine bB<|ab<|ab<|ay ?_
  rw [show (eG r.an r.ao r.aM.length h i)=(eG r.an r.ao r.aM.length (h+1) 0) from by rw [show i=r.aM.length by omega]; exact OQ]
  refine LM hN () 13 [] mn U U U U ?_
  trivial
 refine WK m<|aj fun _ L=>ax<|WS fun _ n=>rP 1 [] mn ?_
 obtain ⟨x,hx⟩:=aK tr i I
 have y:=bQ aa.cells hx
 refine rS (IA i U (show jh _ (rd tra.1 tr.length 2 (tr.map aa.cells)).holds from (dC 9 U (bY G F (by simp [Nh])))) hU dc I I)<|rS (oE i 0 (aa.cells x) U cp (show jh _ (rd tra.1 tr.length 2 (tr.map aa.cells)).holds from (dC 9 U (bY G F (by simp [Nh])))) y U dc U U)<|AL U dA fun b8=>bk 1 U<|gd U cz U<|RK n<|WS fun _ o=>fP 2 [] (mr 13 U mn) U<|rS (SX (lf (kV:=iV) (x:=(i:Int)) (l:=(eG r.an r.ao r.aM.length h i)) (f:=ep) (z:=(aa.mk 0 0)) U U U oy (eZ qy) xI (by exact aA 14 U)) U U)<|bk 3 U<|AL U dA fun A4=>gd U cz U<|bk 1 U<|RK o<|aj fun _ P=>WS fun _ H=>fP 1 [] (mr 13 U mn) U<|rS (SX (bO U U) U U)<|fP 4 [] (mr 12 U mn) U<|rS (IA h U (aA 8 U) nj dc I I)<|rS (gl h 0 (vS A.1.1 ht.length A.1.2) U cp (aA 8 U) Z U dc U)<|rP 1 [] mn ?_
 obtain ⟨d,hd⟩:=aK ht i I
 obtain ⟨da,p⟩:=aK A.2 i I
 have q:(List.zipWith au.cells ht A.2)[i]? =some (au.cells d da):=dB hd p
 refine rS (IA i U (show jh _ (rd A.1.1 ht.length 7 (List.zipWith au.cells ht A.2)).holds from (dC 9 U (bY B C cv))) tm dc I I)<|rS (lZ (i*7) U (show jh _ (rd A.1.1 ht.length 7 (List.zipWith au.cells ht A.2)).holds from (dC 9 U (bY B C cv))) (Nat.mul_pos I dc) fc U)<|rS (gl i 0 (vB d.Out) U cp (show jh _ (rd A.1.1 ht.length 7 (List.zipWith au.cells ht A.2)).holds from (dC 9 U (bY B C cv))) q U dc U)<|rP 1 [] mn ?_
 refine dx (t:=39) U (fun J=>?_) (fun J=>?_)
 ·refine bk 3 U<|RK H<|aQ U<|WS fun _ R=>rP 2 [] (mr 14 U mn) ?_
  have T:(cH (eG r.an r.ao r.aM.length h i) (i:Int))=(eG r.an r.ao r.aM.length h (i+1)):=by exact G5 (by exact Ix B hd J)
  refine qf (kV:=iV) (x:=(i:Int)) (C':=[_,_,_,_,_,_,_,_,_,_,_,_,_,_,_,(iP iV gm (bW ep (eG r.an r.ao r.aM.length h (i+1))))]) 15 U U U U oy (eZ qy) U ((ml _ _ _).symm.trans (congrArg _ T)) U<|RK R<|bB<|ab<|ay<|KK L<|ak<|rP 2 [] mn ?_
  refine aB ?_
  have AA:(vI (((i+1):Nat):Int))=(vI ((i:Int)+1)):=by exact cI I
  refine aU (K ⟨(i+1),(by first|omega|(simp only []; omega))⟩ _ _ _ U os (cQ 5<|bj U AA<|dI.nil _) (aI [2,3,4,5,6,7,8,9,10,11,12,13,14,15]))
 refine rP 3 [] mn ?_
 refine RK H<|cP U (fun D=>?_) (fun D=>?_)
 ·rw [Bool.not_eq_true'] at D
  refine WS fun _ S=>rP 2 [] (mr 14 U mn) ?_
  have V:(cH (eG r.an r.ao r.aM.length h i) (i:Int))=(eG r.an r.ao r.aM.length h (i+1)):=by exact G5 (by exact FE ((a I).symm.trans (Option.not_isSome_iff_eq_none.1 (by rw [D]; decide))))
  refine qf (kV:=iV) (x:=(i:Int)) (C':=[_,_,_,_,_,_,_,_,_,_,_,_,_,_,_,(iP iV gm (bW ep (eG r.an r.ao r.aM.length h (i+1))))]) 15 U U U U oy (eZ qy) U ((ml _ _ _).symm.trans (congrArg _ V)) U<|RK S<|bB<|ab<|ay<|KK L<|ak<|rP 2 [] mn ?_
  refine aB ?_
  have W:(vI (((i+1):Nat):Int))=(vI ((i:Int)+1)):=by exact cI I
  refine aU (K ⟨(i+1),(by first|omega|(simp only []; omega))⟩ _ _ _ U os (cQ 5<|bj U W<|dI.nil _) (aI [2,3,4,5,6,7,8,9,10,11,12,13,14,15]))
 rw [Bool.not_eq_false'] at D
 refine WK P<|ak ?_
 obtain ⟨O,b⟩:=Option.isSome_iff_exists.1 D
 have M:gv r.an r.ao i h=some O:=(a I).symm.trans b
 have e:=MP AB hx hd
 have A8:=As (fun j x hj hx=>hok j x I hx) I M
 have w:=Gr (N.2 d (aS hd))
 rw [← e] at w
 rw [show ((List.lookup (i:Int) (eG r.an r.ao r.aM.length h i)).getD (aa.mk 0 0))=O from by rw [b]; rfl]
 refine fP 6 [0,1,2] (mr 14 U (mc 0 U (mc 1 U mn))) U<|rS (BI U (uk I I I))<|fP 5 [0,1] (mc 0 U (mc 1 U mn)) U<|rS (BI U (uk I I I))<|rP 1 [] mn ?_
 refine rS (SX (bg (xs:=[(0,.tmp 52),(1,.tmp 58)]) (cs:=(aa.cells (aa.mk (O.Lo+(x.Lo/10)) (O.Hi+(x.Hi/10))))) U U (bh gJ U)) U U) ?_
 have X:(e_ (eG r.an r.ao r.aM.length h i) (i:Int) (aa.mk (O.Lo+(x.Lo/10)) (O.Hi+(x.Hi/10))))=(eG r.an r.ao r.aM.length h (i+1)):=by exact No I (by rw [M]; rfl) (by rw [e]; exact E8 B hd (by rw [J]; decide) M)
 refine ks (kV:=iV) (x:=(i:Int)) (C':=[_,_,_,_,_,_,_,_,_,_,_,_,_,_,_,(iP iV gm (bW ep (eG r.an r.ao r.aM.length h (i+1))))]) 15 U U U U oy (eZ qy) U ((iG _ _ _ _).symm.trans (congrArg _ X)) U<|aB<|aF<|KK L<|ak<|rP 2 [] mn ?_
 refine aB ?_
 have Y:(vI (((i+1):Nat):Int))=(vI ((i:Int)+1)):=by exact cI I
 refine aU (K ⟨(i+1),(by first|omega|(simp only []; omega))⟩ _ _ _ U os (cQ 5<|bj U Y<|dI.nil _) (aI [2,3,4,5,6,7,8,9,10,11,12,13,14,15]))
theorem P7 (r:cj) (kA:OA) (kC:Nat) (az:List RA) (cA:OA) (cC:Nat) (bA:OA) (bC:Nat) (slA:OA) (slC:Nat) (drA:OA) (drC:Nat) (ha:List cb) (heA:OA) (heC:Nat) (tz:List RA) (tA:OA) (tC:Nat) (ms:Value) (gw n:Nat) (hin:fw r az ha) (htz:tz.length=r.ao.length) (hn:n≤r.ao.length) (hok:kq r n):
 lB Tryz.prog 41 [(vP gw),(vI (n:Int))] [(rd kA r.an.aL.length 9 (r.an.aL.map al.cells)),(rd cA r.an.ai.length 2 (List.zipWith ar.cells r.an.ai az)),(fp (aR ar.ia r.an.ai az)),(rd bA r.an.ag.length 4 (r.an.ag.map bE.cells)),(rd slA r.aM.length 1 (r.aM.map iC)),(rd drA r.bL.length 1 (r.bL.map iC)),(rd heA r.ao.length 1 (List.zipWith cw r.ao ha)),(fp (aR iI r.ao ha)),(rd tA ((cT r).length) 1 (List.zipWith EM (cT r) tz)),(fp (aR Nh (cT r) tz)),(cm gw 112 (gh.cells (gh.mk (oY r kA kC cA cC bA bC slA slC drA drC heA heC) (bp.mk tA ((cT r).length) tC) ms)))] (fun (x:Nat)=>(Value.map (some x))) (fun (x:Nat)=>True) (fun (x:Nat)=>[(iP iV x (bW ep (eL r n)))]):=by
 have c:=hin.line
 have m:=hin.iU
 have o:=hin.has
 have e:=hin.iY
 have d:=hin.draw
 have f:=dQ (r:=r)
 refine dh kr Tryz.func41 U U fun q Q hQ hN=>?_
 try dsimp only
 refine WS fun _ V=>ve U U fun k=>rP 1 [] mn ?_
 refine RK V<|WS fun _ W=>pw (kV:=iV) U U fun B=>?_
 try dsimp only
 refine AL U Sq fun l=>IY U OS U U<|RK W<|aj fun _ X=>WS fun _ Y=>fP 1 [] (mc 2 U mn) U<|rS (SX (bO U U) U U)<|rP 5 [] (mr 13 U mn) ?_
 refine RK Y<|ax ?_
 skip
 have A:(0≤r.aM.length):=by exact Nat.zero_le _
 refine bJ (ι:={z:Nat // (z≤r.aM.length)}) [1,2,5,15] [0,2,3,4,5,6,7,8,9,10,11,12,13] U U (fun z=>[(16,(vI (z.1:Int)))]) (fun z=>[(iP iV B (bW ep (eG r.an r.ao z.1 0 0)))]) (fun _=>rfl) (fun _=>rfl) (fun z=>r.aM.length-z.1) ⟨0,A⟩ (aT U) (aI [0,2,3,4,5,6,7,8,9,10,11,12,13,1]) ?_
 clear A
 rintro ⟨i,a⟩ J8 AA
 try dsimp only
 refine WS fun _ Z=>rP 1 [] mn ?_
 refine RK Z<|aj fun _ D=>cP U (aO fun S=>?_) (aN fun S=>?_)
 ·refine WK D<|aj fun _ E=>ax<|WS fun _ F=>bk 2 U<|RK F<|ak<|rP 2 [] (mc 0 U mn) ?_
  refine rS (SX (bg (xs:=[]) (cs:=(aa.cells (aa.mk 0 0))) U U (bh gJ U)) U U) ?_
  have O:(e_ (eG r.an r.ao i 0 0) (i:Int) (aa.mk 0 0))=(eG r.an r.ao (i+1) 0 0):=by exact Pg
  refine ks (kV:=iV) (x:=(i:Int)) (C':=[_,_,_,_,_,_,_,_,_,_,_,_,_,(iP iV B (bW ep (eG r.an r.ao (i+1) 0 0)))]) 13 U U U U oy (eZ qy) U ((iG _ _ _ _).symm.trans (congrArg _ O)) U<|aB<|aF<|KK E<|ak<|rP 2 [] mn ?_
  refine aB ?_
  have P:(vI (((i+1):Nat):Int))=(vI ((i:Int)+1)):=by exact cI I
  refine aU (AA ⟨(i+1),(by first|omega|(simp only []; omega))⟩ _ _ _ U os (cQ 4<|bj U P<|dI.nil _) (aI [0,1,2,3,4,5,6,7,8,9,10,11,12,13]))
 refine bB<|ab<|ab<|ay<|KK X<|WS fun _ G=>rS (FU U)<|bk 1 U<|RK G<|aj fun _ H=>WS fun _ AB=>rP 2 [] mn ?_
 refine RK AB<|ax ?_
 rw [show (eG r.an r.ao i 0 0)=(eG r.an r.ao r.aM.length 0 0) from by rw [show i=r.aM.length by omega]]
 have A:(0≤n):=by exact Nat.zero_le _
 refine bJ (ι:={z:Nat // (z≤n)}) [2,5,7,24] [0,1,2,3,4,5,6,7,8,9,10,11,12] U U (fun z=>[(25,(vI (z.1:Int)))]) (fun z=>[(iP iV B (bW ep (eG r.an r.ao r.aM.length z.1 0)))]) (fun _=>rfl) (fun _=>rfl) (fun z=>n-z.1) ⟨0,A⟩ (aT U) (aI [0,1,2,3,4,5,6,7,8,9,10,11,12,13]) ?_
 clear A
 rintro ⟨h,b⟩ J19 C
 try dsimp only
 refine WS fun _ J=>rP 1 [] mn ?_
 refine RK J<|aj fun _ K=>bR U (aN fun T=>?_) (aO fun T=>?_)
 ·refine bB<|ab<|ab<|ay<|KK H<|aj fun _ N=>?_
  rw [show (eG r.an r.ao r.aM.length h 0)=(eL r n) from by rw [show h=n by omega]; exact Nr]
  refine ak<|rP 2 [] (mc 0 U mn) ?_
  refine RK N<|av<|LX hQ B [13] [] mn U U U U ?_
  trivial
 refine WK K<|aj fun _ L=>ax<|WS fun _ M=>bk 2 U<|RK M<|ak<|rP 2 [] mn ?_
 refine jm 13 U U U U (JA r kA kC az cA cC bA bC slA slC drA drC ha heA heC tz tA tC ms gw h B k l hin htz I (by exact fun j x hj hx=>hok j x I hx)) U (eu 2 U U (dT (bU _)) (eu 3 U U (dT (bU _)) (eu 4 U U (dT (bU _)) (eu 5 U U (dT (bU _)) (eu 6 U U (dT (bU _)) (eu 7 U U (dT (bU _)) (eu 8 U U (dT (bU _)) (eu 9 U U (dT (bU _)) (eu 10 U U (dT (bU _)) (eu 11 U U (dT (bU _)) (eu 12 U U (dT (bU _)) (eu 1 U U (bU _) (eu 0 U U (bU _) kJ))))))))))))) U (fun p g=>?_)
 try dsimp only
 refine aB<|aF<|KK L<|ak<|rP 2 [] mn ?_
 refine aB ?_
 have R:(vI (((h+1):Nat):Int))=(vI ((h:Int)+1)):=by exact cI I
 refine aU (C ⟨(h+1),(by first|omega|(simp only []; omega))⟩ _ _ _ U os (cQ 4<|bj U R<|dI.nil _) (aI [0,1,2,3,4,5,6,7,8,9,10,11,12,13]))
end
section
open Go.RowKit
theorem oS (r:cj) (kA:OA) (kC:Nat) (az:List RA) (cA:OA) (cC:Nat) (bA:OA) (bC:Nat) (slA:OA) (slC:Nat) (drA:OA) (drC:Nat) (ha:List cb) (heA:OA) (heC:Nat) (hin:fw r az ha):
 lB Tryz.prog 38 [(vA (cu.cells (oY r kA kC cA cC bA bC slA slC drA drC heA heC)))] [(rd fx 3 2 eC),(rd kA r.an.aL.length 9 (r.an.aL.map al.cells)),(rd cA r.an.ai.length 2 (List.zipWith ar.cells r.an.ai az)),(fp (aR ar.ia r.an.ai az)),(rd bA r.an.ag.length 4 (r.an.ag.map bE.cells)),(rd slA r.aM.length 1 (r.aM.map iC)),(rd drA r.bL.length 1 (r.bL.map iC)),(rd heA r.ao.length 1 (List.zipWith cw r.ao ha)),(fp (aR iI r.ao ha))] (fun (x:Bool×Int×Nat×Nat×(OA)×Nat×(List RA))=>bif x.1 then (vT [(Value.pointer (some ⟨x.2.2.1,0,none⟩)),(vI 0)]) else (vT [(Value.pointer none),(vI x.2.1)])) (fun (x:Bool×Int×Nat×Nat×(OA)×Nat×(List RA))=>(x.1=true→(cG r=0∧x.2.2.2.2.2.2.length=r.ao.length))∧(x.1=false→(x.2.1=cG r∧ ¬ cG r=0))) (fun (x:Bool×Int×Nat×Nat×(OA)×Nat×(List RA))=>bif x.1 then [(cm x.2.2.1 112 (gh.cells (gh.mk (oY r kA kC cA cC bA bC slA slC drA drC heA heC) (bp.mk x.2.2.2.2.1 ((cT r).length) x.2.2.2.2.2.1) (Value.map (some x.2.2.2.1))))),(own x.2.2.2.2.1 x.2.2.2.2.2.1 109 1 (List.zipWith EM (cT r) x.2.2.2.2.2.2)),(br (aR D8 (cT r) x.2.2.2.2.2.2)),(iP iV x.2.2.2.1 (bW ep (aG r)))] else []):=by
 have KS:=hin.line
 have NN:=hin.iU
 have Ne:=hin.has
 have Lk:=hin.iY
 have La:=hin.draw
 have Fd:=dQ (r:=r)
 refine dh kr Tryz.func38 U U fun w0 Q hQ hN=>?_
 try dsimp only
 refine WS fun _ J2=>fZ U fun b2=>bk 2 U<|RK J2<|aj fun _ J3=>WS fun _ J4=>bk 1 U<|rS (LP (b_.cells (lO r.an kA kC cA cC bA bC)) 0 U cp U U U)<|rS (CL (Cf r.an kA kC az cA cC bA bC asm) (bo [2,3,4,5]) U)<|bk 1 U<|RK J4<|WS fun _ J5=>rP 2 [] mn ?_
 refine RK J5<|cP U (bw fun B=>?_) (bu fun B=>?_)
 ·refine WS fun _ J6=>rP 3 [] mn ?_
  refine RK J6<|av<|LX hQ (false,(c_ r.an),0,0,none,0,[]) [] [] mn U (by rfl) U U ?_
  exact sw<|MW (zY B) B
 refine WK J3<|WS fun _ J7=>fP 4 [] (mc 0 U mn) U<|RK J7<|WS fun _ J8=>rP 2 [] (mc 0 U mn) ?_
 refine cX (xV drA r.bL.length drC) (aJ) U fun GT Ll=>?_
 try dsimp only
 refine cX (yn r.bL drA drC GT asm) (bo [8,0]) U fun LT Lo=>?_
 obtain ⟨L0,NE⟩:=LT
 try dsimp only
 refine bk 1 U<|RK J8<|aj fun _ e=>WS fun _ H=>rP 1 [] mn ?_
 refine dj (xs:=[.tmp 29]) (cs:=[(vI (r.aM.length:Int))]) U cK jA U U U U (by simp [Value.cells]) U U fun GZ=>?_
 refine rS (CL (eB.eq (ko 1 5 ([(r.aM.length:Int)]) (some ⟨GZ,0,none⟩) 1 (by (simp; done))) cZ) (aq (bf 0 U U (by simp [bH]) U)<|aJ) U) ?_
 refine rP 2 [] mn ?_
 refine dx (t:=33) U (bw fun H1=>?_) (bu fun H1=>?_)
 ·refine bk 26 U<|RK H<|aQ U<|WS fun _ f=>rP 2 [] mn ?_
  refine RK f<|av<|LX hQ (false,60,0,0,none,0,[]) [] [] mn U (by rfl) U U ?_
  exact sw<|qp (kQ B (fun q:fj r=>by have q1:=q.num; have q2:=q.x7; have q3:=q.nh; have q4:=q.yY; omega))
 refine rP 6 [] mn ?_
 refine dx (t:=39) U (bw fun IO=>?_) (bu fun IO=>?_)
 ·refine bk 20 U<|RK H<|aQ U<|WS fun _ g=>rP 2 [] mn ?_
  refine RK g<|av<|LX hQ (false,60,0,0,none,0,[]) [] [] mn U (by rfl) U U ?_
  exact sw<|qp (kQ B (fun q:fj r=>by have q1:=q.num; have q2:=q.x7; have q3:=q.nh; have q4:=q.yY; omega))
 refine rP 2 [] (mc 3 U mn) ?_
 refine dj (xs:=[.tmp 41]) (cs:=[(vI r.im)]) U cK jA U U U U (by simp [Value.cells]) U U fun Go=>?_
 refine rS (CL (eB.eq (ko 0 5 ([r.im]) (some ⟨Go,0,none⟩) 1 (by (simp; done))) cZ) (aq (bf 0 U U (by simp [bH]) U)<|aJ) U) ?_
 refine rP 3 [] mn ?_
 refine dx (t:=46) U (bw fun IR=>?_) (bu fun IR=>?_)
 ·refine bk 13 U<|RK H<|aQ U<|WS fun _ k=>rP 2 [] mn ?_
  refine RK k<|av<|LX hQ (false,60,0,0,none,0,[]) [] [] mn U (by rfl) U U ?_
  exact sw<|qp (kQ B (fun q:fj r=>by have q1:=q.num; have q2:=q.x7; have q3:=q.nh; have q4:=q.yY; omega))
 refine rP 3 [] (mc 4 U mn) ?_
 refine dj (xs:=[.tmp 49]) (cs:=[(vI (r.ao.length:Int))]) U cK jA U U U U (by simp [Value.cells]) U U fun Hi=>?_
 refine rS (CL (eB.eq (ko 1 3 ([(r.ao.length:Int)]) (some ⟨Hi,0,none⟩) 1 (by (simp; done))) cZ) (aq (bf 0 U U (by simp [bH]) U)<|aJ) U) ?_
 refine rP 3 [] mn ?_
 refine dx (t:=54) U (bw fun Id=>?_) (bu fun Id=>?_)
 ·refine bk 5 U<|RK H<|aQ U<|WS fun _ l=>rP 2 [] mn ?_
  refine RK l<|av<|LX hQ (false,60,0,0,none,0,[]) [] [] mn U (by rfl) U U ?_
  exact sw<|qp (kQ B (fun q:fj r=>by have q1:=q.num; have q2:=q.x7; have q3:=q.nh; have q4:=q.yY; omega))
 refine fP 2 [] (mc 5 U mn) U<|rS (CL (ko 0 9999 r.aM slA slC asm) (bo [11]) U)<|rP 2 [] mn ?_
 refine RK H<|cP U (fun N=>?_) (fun N=>?_)
 ·rw [Bool.not_eq_true'] at N
  refine WS fun _ m=>rP 2 [] mn ?_
  refine RK m<|av<|LX hQ (false,60,0,0,none,0,[]) [] [] mn U (by rfl) U U ?_
  exact sw<|qp (kQ B (fun q:fj r=>by exact absurd (q.ins.symm.trans N) dc))
 rw [Bool.not_eq_false'] at N
 refine WK e<|aj fun _ o=>WS fun _ p=>?_
 have OK:(dE r.bL).length=r.aM.length:=by rw [gL]; omega
 refine rP 2 [] mn ?_
 refine RK p<|ax ?_
 have A:(0≤r.aM.length)∧(rN r 0):=by exact ⟨Nat.zero_le _,Fv⟩
 refine bJ (ι:={z:Nat // (z≤r.aM.length)∧(rN r z)}) [1,5,6,60] [3,5,6,7,8,9,10,11,12,13,14] U U (fun z=>[(61,(vI (z.1:Int)))]) (fun z=>[]) (fun _=>rfl) (fun _=>rfl) (fun z=>r.aM.length-z.1) ⟨0,A⟩ (aT U) (aI [3,5,6,7,8,9,10,11,12,13,14]) ?_
 clear A
 rintro ⟨i,⟨KR,J⟩⟩ J28 V
 try dsimp only
 refine WS fun _ s=>rP 1 [] mn ?_
 refine RK s<|aj fun _ w=>cP U (aO fun In=>?_) (aN fun In=>?_)
 ·refine WK w<|aj fun _ W=>ax<|WS fun _ AC=>bk 2 U<|RK AC<|aj fun _ O=>dM cE 24 kr<|dP 2 [] mn ?_
  obtain ⟨x,hx⟩:=aK (dE r.bL) i I
  have K0:=bQ iC hx
  refine dS (IA i U (ae (n:=r.bL.length) 0 U sq) cK dc I I) ?_
  refine dS (gl i 0 (vI x) U cp (ae (n:=(dE r.bL).length) 0 U sm) K0 U dc U)<|dP 3 [] mn ?_
  refine jq (t:=70) U (bw fun S=>?_) (bu fun S=>?_)
  ·refine mq 17 U<|cR<|RK O<|aQ U<|WS fun _ AO=>rP 2 [] mn ?_
   refine RK AO<|av<|LX hQ (false,60,0,0,none,0,[]) [] [] mn U (by rfl) U U ?_
   exact sw<|qp (kQ B (fun q:fj r=>by exact absurd (q.drawn hx) S))
  refine dP 3 [] mn ?_
  refine jN (t:=73) U (aN fun JN=>?_) (aO fun JN=>?_)
  ·refine mq 14 U<|cR<|RK O<|aZ U<|ct<|aF<|KK W<|ak<|rP 2 [] mn ?_
   refine aB ?_
   have Do:(vI (((i+1):Nat):Int))=(vI ((i:Int)+1)):=by exact cI I
   refine aU (V ⟨(i+1),⟨I,wY J hx S (fun u v hu hv hw=>by omega)⟩⟩ _ _ _ U os (cQ 4<|bj U Do<|dI.nil _) (aI [0,1,2,3,4,5,6,7,8,9,10]))
  refine dP 3 [] (mc 1 U mn) ?_
  obtain ⟨y,hy⟩:=aK r.aM i I
  have K4:=bQ iC hy
  refine dS (IA i U (aA 7 U) cK dc I I)<|dS (gl i 0 (vI y) U cp (aA 7 U) K4 U dc U)<|dP 4 [] (mc 1 U mn) ?_
  obtain ⟨z,hz⟩:=aK r.aM (i-1) I
  have K5:=bQ iC hz
  refine dS (IA (i-1) U (aA 7 U) cK dc I I)<|dS (gl (i-1) 0 (vI z) U cp (aA 7 U) K5 U dc U)<|dP 3 [] mn ?_
  refine cR<|RK O<|bR U (aN fun JO=>?_) (aO fun JO=>?_)
  ·refine ct<|aF<|KK W<|ak<|rP 2 [] mn ?_
   refine aB ?_
   have Di:(vI (((i+1):Nat):Int))=(vI ((i:Int)+1)):=by exact cI I
   refine aU (V ⟨(i+1),⟨I,wY J hx S (fun u v hu hv hw=>by (rw [hy] at hu; cases hu; rw [hz] at hw; cases hw; omega))⟩⟩ _ _ _ rfl os (cQ 4<|bj rfl Di<|dI.nil _) (aI [0,1,2,3,4,5,6,7,8,9,10]))
  refine WS fun _ A0=>rP 2 [] mn ?_
  refine RK A0<|av<|LX hQ (false,60,0,0,none,0,[]) [] [] mn U (by rfl) U U ?_
  exact sw<|qp (kQ B (fun q:fj r=>by have q1:=(q.ids i y hy).2 z I hz; omega))
 refine bB<|ab<|ab<|ay<|KK o<|WS fun _ A1=>fP 1 [] (mc 1 U mn) U<|rS (SX (bg (xs:=[(0,.tmp 89)]) (cs:=(gh.cells (gh.mk (oY r kA kC cA cC bA bC slA slC drA drC heA heC) (bp.mk none 0 0) (Value.map none)))) U U (bh Tg U)) U U)<|fZ U fun L=>bk 1 U<|RK A1<|aj fun _ A2=>WS fun _ A3=>rP 4 [] (mc 2 U mn) ?_
 refine RK A3<|ax<|gu 109 1<|l9 ?_
 have A:(0≤r.ao.length)∧(([]:List RA).length=0)∧(kq r 0):=by exact ⟨Nat.zero_le _,rfl,xO⟩
 refine bJ (ι:={z:Nat×(List RA)×(OA)×Nat // (z.1≤r.ao.length)∧(z.2.1.length=z.1)∧(kq r z.1)}) [1,5,8,93,94] [3,4,5,6,7,8,9,10,11,12,13] U U (fun z=>[(95,(vI (z.1.1:Int)))]) (fun z=>[(br (aR D8 (gR r z.1.1) z.1.2.1)),(own z.1.2.2.1 z.1.2.2.2 109 1 (List.map sC (List.zipWith CQ (gR r z.1.1) z.1.2.1))),(cm L 112 (gh.cells (gh.mk (oY r kA kC cA cC bA bC slA slC drA drC heA heC) (bp.mk z.1.2.2.1 ((List.zipWith CQ (gR r z.1.1) z.1.2.1).length) z.1.2.2.2) (Value.map none))))]) (fun _=>rfl) (fun _=>rfl) (fun z=>r.ao.length-z.1.1) ⟨(0,([]:List RA),none,0),A⟩ (aT U) (aI [3,4,5,6,7,8,9,10,11,12,13,0,1,2]) ?_
 clear A
 rintro ⟨⟨h,tz,a,c⟩,⟨T,C,E⟩⟩ J42 Z
 try dsimp only at T C E
 try dsimp only
 refine WS fun _ A4=>rP 1 [] mn ?_
 refine RK A4<|aj fun _ A5=>bR U (aN fun Jc=>?_) (aO fun Jc=>?_)
 ·refine bB<|ab<|ab<|ay<|KK A2<|aj fun _ C2=>?_
  have KC:gR r h=cT r:=by unfold cT; rw [show h=r.ao.length by omega]
  have Fn:tz.length=r.ao.length:=by omega
  rw [KC,z6,show (List.zipWith CQ (cT r) tz).length=(cT r).length from by rw [List.length_zipWith]; omega]
  have X:fj r:=K9 (n:=i) I I I I I N J E I
  refine ak<|rP 5 [] (mc 1 U mn) ?_
  refine cX (P7 r kA kC az cA cC bA bC slA slC drA drC ha heA heC tz a c (Value.map none) L r.ao.length hin asm I (by exact X.Bg)) (mu [3,4,5,6,7,8,9,10]<|aq (ae (n:=(cT r).length) 12 U (nx (by rw [Fd]; exact Fn)))<|aq (dg 11 U tU)<|fB 13 U U<|aJ) U fun K Ls=>?_
  try dsimp only
  refine rS (SX (bO U U) U U)<|rP 1 [] mn ?_
  refine jI (vs:=[(Value.map (some K))]) (cs':=(gh.cells (gh.mk (oY r kA kC cA cC bA bC slA slC drA drC heA heC) (bp.mk a ((cT r).length) c) (Value.map (some K))))) (C':=[_,_,_,_,_,_,_,_,_,_,_,_,_,_,(cm L 112 (gh.cells (gh.mk (oY r kA kC cA cC bA bC slA slC drA drC heA heC) (bp.mk a ((cT r).length) c) (Value.map (some K)))))]) 14 U U U OS U U U U U U U<|RK C2<|aj fun _ C3=>?_
  rw [show eL r r.ao.length=aG r from rfl]
  refine ak<|rP 3 [] mn ?_
  refine RK C3<|av ?_
  refine LX hQ (true,0,L,K,a,c,tz) [14,13,12,0] [] mn U (by (show List.all _ _=true; simp only [cond_true,fm,List.all_nil,s_,Bool.and_true]; rfl)) U U ?_
  exact ⟨fun _=>⟨Cm B X,Fn⟩,Nl⟩
 refine WK A5<|aj fun _ A6=>ax<|WS fun _ A7=>?_
 obtain ⟨ht,D⟩:=aK r.ao h I
 obtain ⟨G,AB⟩:=aK ha h I
 have FS:(List.zipWith cw r.ao ha)[h]? =some (cw ht G):=dB D AB
 refine rS (IA h U (aA 9 U) nj dc I I)<|rS (gl h 0 (vS G.1.1 ht.length G.1.2) U cp (aA 9 U) FS U dc U)<|rP 1 [] mn ?_
 refine RK A7<|aj fun _ A8=>WS fun _ A9=>?_
 have Eq:=hin.nu _ _ _ D AB
 have Li:=Eq.nD
 refine rP 4 [] mn ?_
 refine RK A9<|cP U (bw fun Y=>?_) (bu fun Y=>?_)
 ·refine WS fun _ BF=>rP 2 [] mn ?_
  refine RK BF<|av<|LX hQ (false,60,0,0,none,0,[]) [] [] mn U (by rfl) U U ?_
  exact sw<|qp (kQ B (fun q:fj r=>by have q1:=(q.nu ht (aS D)).1; omega))
 refine WK A8<|WS fun _ Bb=>bk 1 U<|RK Bb<|aj fun _ Bs=>WS fun _ B3=>rP 3 [] mn ?_
 refine RK B3<|ax<|gu 45 2 ?_
 have A:(0≤ht.length)∧(oP r.an ht 0):=by exact ⟨Nat.zero_le _,vZ⟩
 refine bJ (ι:={z:Nat×(OA)×Nat // (z.1≤ht.length)∧(oP r.an ht z.1)}) [1,5,8,10,93,94,95,103,104] [1,2,3,4,5,6,7,8,9,10,11,12,13,14] U U (fun z=>[(11,(vS z.1.2.1 (((ht.take z.1.1).map (dq r.an)).length) z.1.2.2)),(105,(vI (z.1.1:Int)))]) (fun z=>[(own z.1.2.1 z.1.2.2 45 2 (((ht.take z.1.1).map (dq r.an)).map aa.cells))]) (fun _=>rfl) (fun _=>rfl) (fun z=>ht.length-z.1.1) ⟨(0,none,0),A⟩ (aT U) (aI [1,2,3,4,5,6,7,8,9,10,11,12,13,14,0]) ?_
 clear A
 rintro ⟨⟨j,la,lc⟩,⟨AA,F⟩⟩ J53 b
 try dsimp only at AA F
 try dsimp only
 refine WS fun _ B7=>rP 1 [] mn ?_
 refine RK B7<|aj fun _ B9=>bR U (aN fun If=>?_) (aO fun If=>?_)
 ·refine bB<|ab<|ab<|ay<|KK Bs<|ak<|bk 2 U<|rS (SX (bO U U) U U)<|rP 2 [] (mc 13 U mn) ?_
  rw [show ((ht.take j).map (dq r.an))=ht.map (dq r.an) from by rw [List.take_of_length_le I]]
  refine rP 1 [] mn ?_
  refine dj (xs:=[.tmp 128]) (cs:=[(vS la ((ht.map (dq r.an)).length) lc)]) U GG P0 U U U U (by simp [Value.cells]) U U fun M7=>?_
  refine cL (es2:=(List.map sC (List.zipWith CQ (gR r (h+1)) (tz++[(la,lc)])))) (m':=(List.zipWith CQ (gR r (h+1)) (tz++[(la,lc)])).length) 13 U U U Pw U U sm (bf (es:=List.map sC [(bp.mk la ((ht.map (dq r.an)).length) lc)]) 0 U U (by simp [Ai]) U) (Jr _) (by rw [List.length_zipWith,lg I]; omega) (by rw [List.length_zipWith,lg I]; simp only [maxLen]; omega) (by rw [uA D C,List.map_append]; rfl) (by rw [uA D C]; simp) U fun P R=>?_
  try dsimp only
  refine rS (SX (bO U U) U U)<|bk 1 U<|jI (vs:=[(vS P ((List.zipWith CQ (gR r (h+1)) (tz++[(la,lc)])).length) R)]) (cs':=(gh.cells (gh.mk (oY r kA kC cA cC bA bC slA slC drA drC heA heC) (bp.mk P ((List.zipWith CQ (gR r (h+1)) (tz++[(la,lc)])).length) R) (Value.map none)))) (C':=[_,_,_,_,_,_,_,_,_,_,_,_,_,_,(cm L 112 (gh.cells (gh.mk (oY r kA kC cA cC bA bC slA slC drA drC heA heC) (bp.mk P ((List.zipWith CQ (gR r (h+1)) (tz++[(la,lc)])).length) R) (Value.map none)))),_]) 14 U U U SF U U U U U U U<|aB<|aF<|KK A6<|ak<|rP 2 [] mn ?_
  refine aB<|Aj (X':=aR D8 (gR r (h+1)) (tz++[(la,lc)])) 12 15 U U (Ca (a:=(la,lc)) D C) ?_
  have D9:(vI (((h+1):Nat):Int))=(vI ((h:Int)+1)):=by exact cI I
  refine aU (Z ⟨((h+1),(tz++[(la,lc)]),P,R),⟨I,by simp; omega,w8 E D (Gp I F I)⟩⟩ _ _ _ U os (cQ 5<|bj U D9<|dI.nil _) (aI [2,3,4,5,6,7,8,9,10,11,12,0,13,14]))
 refine WK B9<|aj fun _ Ci=>ax<|WS fun _ Ck=>?_
 obtain ⟨d,hd⟩:=aK ht j I
 obtain ⟨da,EQ⟩:=aK G.2 j I
 have J9:(List.zipWith au.cells ht G.2)[j]? =some (au.cells d da):=dB hd EQ
 refine rS (IA j U (show jh _ (rd G.1.1 ht.length 7 (List.zipWith au.cells ht G.2)).holds from (dC 10 U (bY D AB cv))) tm dc I I)<|rS (oE j 0 (bq.cells (bq.mk d.Out d.ed d.Time (dp.mk d.bX.Start d.bX.fE (bp.mk da.1 d.bX.ah.length da.2)))) U cp (show jh _ (rd G.1.1 ht.length 7 (List.zipWith au.cells ht G.2)).holds from (dC 10 U (bY D AB cv))) J9 U dc U U)<|AL U Oj fun L2=>gd U Q3 U<|RK Ck<|WS fun _ Cp=>bk 1 U<|rS (LP (b_.cells (lO r.an kA kC cA cC bA bC)) 2 U cp U U U)<|rP 1 [] (mc 0 U mn) ?_
 have Op:=Eq.sig d (aS hd)
 refine rS (CL (Ex r.an kA kC az cA cC bA bC d da.1 da.2 asm asm) (mu [3,4,5,6,7]<|aq (show jh _ (rd da.1 d.bX.ah.length 2 (d.bX.ah.map aH.cells)).holds from (dC 11 U (bY D AB (cY _ (bY hd EQ (by simp [au.ia]))))))<|aJ) U)<|bk 3 U<|AL U dA fun L3=>gd U cz U<|bk 1 U<|RK Cp<|aj fun _ Cx=>WS fun _ C0=>rP 2 [] mn ?_
 refine RK C0<|bR U (bu fun M=>?_) (bw fun M=>?_)
 ·refine WK Cx<|ak<|rP 2 [] (mc 0 U mn) ?_
  refine dj (xs:=[.tmp 119]) (cs:=(aa.cells (dq r.an d))) U hU dA U U U U (by simp [Value.cells,aa.aW]) U U fun M2=>?_
  refine cL (es2:=(List.map aa.cells ((ht.take (j+1)).map (dq r.an)))) (m':=((ht.take (j+1)).map (dq r.an)).length) 17 U U U xo U U sm (bf (es:=List.map aa.cells [(dq r.an d)]) 0 U U (by simp [aa.aW]) U) (ic _) (by simp only [List.length_map,List.length_take]; omega) (by simp only [maxLen,List.length_map,List.length_take]; omega) (by rw [List.take_add_one,hd]; simp) sq U fun GF Hy=>?_
  try dsimp only
  refine bk 1 U<|aB<|aF<|KK Ci<|ak<|rP 2 [] mn ?_
  refine aB ?_
  have D2:(vI (((j+1):Nat):Int))=(vI ((j:Int)+1)):=by exact cI I
  refine aU (b ⟨((j+1),GF,Hy),⟨I,vW F hd M⟩⟩ _ _ _ U os (cQ 10<|bj U D2<|dI.nil _) (aI [3,4,5,6,7,8,9,10,11,12,13,14,15,16,17]))
 refine WS fun _ C1=>rP 2 [] mn ?_
 refine RK C1<|av<|LX hQ (false,60,0,0,none,0,[]) [] [] mn U (by rfl) U U ?_
 exact sw<|qp (kQ B (fun q:fj r=>by exact M ((q.nu ht (aS D)).2 d (aS hd))))
end
section
open Go.RowKit
theorem Fx (l:List Int) (lA:OA) (lC:Nat) (hlen:l.length=1):
 D_ Tryz.prog 81 [(vS lA 1 lC)] [] (own lA lC 3 1 (l.map iC)) (fun (x:Unit)=>(vS lA 1 lC)) (fun (x:Unit)=>True) (fun (x:Unit)=>(own lA lC 3 1 (l.map iC))):=by
 refine mY kr Tryz.func81 U U fun E Q hQ hN=>?_
 try dsimp only
 refine WS fun _ A=>bk 1 U<|RK A<|aj fun _ D=>WS fun _ B=>bk 2 U<|rS (SX (cd (r:= .bool true) U U U ib) U U)<|RK B<|aQ U<|WS fun _ C=>rP 2 [] mn ?_
 refine RK C<|av<|LM hQ () 0 [] mn U U U U ?_
 trivial
theorem Fg (l:List Int) (lA:OA) (lC:Nat) (hlen:l.length=2):
 D_ Tryz.prog 81 [(vS lA 2 lC)] [] (own lA lC 3 1 (l.map iC)) (fun (x:(List Int))=>(vS lA (JK l) lC)) (fun (x:(List Int))=>True) (fun (x:(List Int))=>(own lA lC 3 1 (x.map iC))):=by
 refine mY kr Tryz.func81 U U fun c Q hQ hN=>?_
 try dsimp only
 refine WS fun _ M=>bk 1 U<|RK M<|aj fun _ N=>WS fun _ O=>bk 2 U<|rS (SX (cd (r:= .bool false) U U U ib) U U)<|RK O<|aZ U<|WK N<|aj fun _ P=>WS fun _ R=>bk 1 U<|RK R<|ax<|ki 3<|eH fun R6 V=>aj fun _ S=>WS fun _ T=>bk 3 U<|rS (SX (cd (r:= .bool true) U U U ib) U U)<|RK T<|aQ U<|WK S<|aj fun _ AA=>ax<|aj fun _ B=>dM cE 10 kr<|dP 2 [] mn ?_
 obtain ⟨x,hx⟩:=aK l 1 I
 have W:=bQ iC hx
 refine dS (IA 1 U (ae (n:=2) 0 U sq) cK dc U I) ?_
 refine dS (gl 1 0 (vI x) U cp (ae (n:=l.length) 0 U sm) W U dc U)<|dP 2 [] mn ?_
 refine dS (SX (cd (r:= .int .i64 0) U U U (sN ⟨dc,dc⟩)) U U) ?_
 obtain ⟨y,hy⟩:=aK l 0 I
 have X:=bQ iC hy
 refine dS (IA 0 U (ae (n:=2) 0 U sq) cK dc U I) ?_
 refine dS (gl 0 0 (vI y) U cp (ae (n:=l.length) 0 U sm) X U dc U)<|dP 1 [] mn ?_
 refine cR<|RK B<|bR U (aN fun A=>?_) (aO fun A=>?_)
 ·refine ct<|aF<|KK AA<|ak<|bk 1 U<|rS (SX (cd (r:= .int .i64 2) U U U (iq ⟨dc,dc⟩)) U U)<|bk 1 U<|RK V<|eH fun R19 b=>aj fun _ Z=>WS fun _ AB=>bk 3 U<|rS (SX (cd (r:= .bool false) U U U ib) U U)<|RK AB<|aZ U<|bB<|ab<|ab<|ay<|KK P<|WS fun _ J=>rP 2 [] mn ?_
  refine RK J<|av ?_
  refine LM hQ l 0 [] mn U U U ?_ ?_
  ·(rw [CY hlen hy hx A,hlen]; rfl)
  ·trivial
 refine WS fun _ C=>rP 2 [] mn ?_
 refine rS (We 1 U cK U os) ?_
 refine bk 1 U<|RK C<|aj fun _ D=>WS fun _ E=>bk 1 U<|RK E<|ax<|ki 2<|eH fun R14 a=>aj fun _ Y=>WS fun _ F=>rP 4 [] mn ?_
 refine RK F<|cP U (aO fun L=>?_) (aN fun L=>?_)
 ·exfalso; omega
 refine bB<|ab<|ab<|ay<|KK D<|WS fun _ G=>rP 2 [] mn ?_
 refine rS (We 1 U cK U os) ?_
 refine Oe (k:=1) 0 rfl rfl o9 (by intro v hv; simp [Value.cells] at hv; subst hv; rfl) rfl os I ?_
 try dsimp only
 rw [show (own lA lC 3 1 ((l.map iC).take 1))=(own lA lC 3 1 ((l.take 1).map iC)) from by rw [List.map_take]]
 refine RK G<|WS fun _ H=>Jk 0 U fun K=>?_
 simp only [List.length_map,List.length_take] at K
 refine bk 2 U<|rS (VT 1 U cK U I)<|rP 1 [] mn ?_
 refine RK H<|av ?_
 refine LM hQ (l.take 1) 0 [] mn U U U ?_ ?_
 ·(rw [zt hlen hy hx A]; rfl)
 ·trivial
end
section
open Go.RowKit
theorem z9 (r:cj) (kA:OA) (kC:Nat) (az:List RA) (cA:OA) (cC:Nat) (bA:OA) (bC:Nat) (slA:OA) (slC:Nat) (drA:OA) (drC:Nat) (ha:List cb) (heA:OA) (heC:Nat) (a:Int) (gq:Nat) (hin:fw r az ha):
 lB Tryz.prog 49 [(vA (cu.cells (oY r kA kC cA cC bA bC slA slC drA drC heA heC))),(vS (some ⟨gq,0,none⟩) 1 1)] [(rd fx 3 2 eC),(rd kA r.an.aL.length 9 (r.an.aL.map al.cells)),(rd cA r.an.ai.length 2 (List.zipWith ar.cells r.an.ai az)),(fp (aR ar.ia r.an.ai az)),(rd bA r.an.ag.length 4 (r.an.ag.map bE.cells)),(rd slA r.aM.length 1 (r.aM.map iC)),(rd drA r.bL.length 1 (r.bL.map iC)),(rd heA r.ao.length 1 (List.zipWith cw r.ao ha)),(fp (aR iI r.ao ha)),(cm gq 3 [(vI a)])] (fun (x:Bool×Int×Nat×Nat×(OA)×Nat×(List RA)×(OA)×Nat)=>bif x.1 then (vT [(Value.pointer (some ⟨x.2.2.1,0,none⟩)),(vS x.2.2.2.2.2.2.2.1 1 x.2.2.2.2.2.2.2.2),(vI 0)]) else (vT [(Value.pointer none),(vS none 0 0),(vI x.2.1)])) (fun (x:Bool×Int×Nat×Nat×(OA)×Nat×(List RA)×(OA)×Nat)=>(x.1=true→(kM r a=0∧x.2.2.2.2.2.2.1.length=r.ao.length))∧(x.1=false→(x.2.1=kM r a∧ ¬ kM r a=0))) (fun (x:Bool×Int×Nat×Nat×(OA)×Nat×(List RA)×(OA)×Nat)=>bif x.1 then [(cm x.2.2.1 112 (gh.cells (gh.mk (oY r kA kC cA cC bA bC slA slC drA drC heA heC) (bp.mk x.2.2.2.2.1 ((cT r).length) x.2.2.2.2.2.1) (Value.map (some x.2.2.2.1))))),(own x.2.2.2.2.1 x.2.2.2.2.2.1 109 1 (List.zipWith EM (cT r) x.2.2.2.2.2.2.1)),(br (aR D8 (cT r) x.2.2.2.2.2.2.1)),(iP iV x.2.2.2.1 (bW ep (aG r))),(own x.2.2.2.2.2.2.2.1 x.2.2.2.2.2.2.2.2 45 2 ([(aD (aG r) a)].map aa.cells))] else []):=by
 have y:=hin.line
 have BF:=hin.iU
 have Bb:=hin.has
 have A3:=hin.iY
 have A2:=hin.draw
 have g:=dQ (r:=r)
 refine dh kr Tryz.func49 U U fun w0 Q hQ hN=>?_
 try dsimp only
 refine WS fun _ w=>fZ U fun b2=>bk 3 U<|RK w<|WS fun _ N=>rP 1 [] (mc 0 U mn) ?_
 refine cX (oS r kA kC az cA cC bA bC slA slC drA drC ha heA heC hin) (bo [1,2,3,4,5,6,7,8,9]) U fun y4 j=>?_
 obtain ⟨k,A9,F,E,m,B,C⟩:=y4
 cases k
 ·obtain ⟨e,he⟩:=j.2 rfl
  try dsimp only at e he
  subst e
  try dsimp only [cond_true,cond_false,List.cons_append,List.nil_append]
  refine bk 5 U<|RK N<|aj fun _ AO=>WS fun _ H=>rP 2 [] mn ?_
  refine RK H<|bR U (bu fun G=>?_) (bw fun G=>?_)
  ·exact absurd G he
  refine WS fun _ AB=>rP 4 [] mn ?_
  refine RK AB<|av<|LX hQ (false,(cG r),0,0,none,0,[],none,0) [] [] mn U (by rfl) U U ?_
  exact sw<|MW (K6 (i:=a) he) he
 obtain ⟨he,h⟩:=j.1 rfl
 try dsimp only [cond_true,cond_false,List.cons_append,List.nil_append]
 refine bk 5 U<|RK N<|aj fun _ J=>WS fun _ K=>bk 1 U<|rS (SX (cd (r:= .bool false) U U U og) U U)<|RK K<|aZ U<|WK J<|aj fun _ L=>WS fun _ A=>rP 2 [] mn ?_
 refine rS (CL (eB.eq (Bo r kA kC az cA cC bA bC slA slC drA drC ha heA heC C m B (Value.map (some E)) F ([a]) (some ⟨gq,0,none⟩) 1 hin (by (simp; done))) cZ) (mu [6,7,8,9,10,11,12,13]<|aq (ae (n:=(cT r).length) 1 U (nx (by rw [g]; exact h)))<|aq (dg 2 U tU)<|fB 0 U U<|aq (oB 14 U U (by simp [bH]) U)<|aJ) U) ?_
 refine rP 2 [] mn ?_
 refine dx (t:=26) U (bw fun v=>?_) (bu fun v=>?_)
 ·refine bk 3 U<|bk 4 U<|bk 2 U<|RK A<|aQ U<|WS fun _ M=>rP 3 [] mn ?_
  refine RK M<|av<|LX hQ (false,2,0,0,none,0,[],none,0) [] [] mn U (by rfl) U U ?_
  exact sw<|qp (Lu (i:=a) he I)
 refine rP 1 [] mn ?_
 refine cX (xV (some ⟨gq,0,none⟩) 1 1) (aJ) U fun q A4=>?_
 try dsimp only
 refine cX (yn ([a]) (some ⟨gq,0,none⟩) 1 q (by (simp; done))) (aq (oB 15 U U (by simp [bH]) U)<|fB 0 U U<|aJ) U fun AC A5=>?_
 obtain ⟨o,s⟩:=AC
 try dsimp only
 try dsimp only
 refine jm 0 U U U U (Fx (dE ([a])) o s (by (simp; done))) U kJ U (fun Bg A6=>?_)
 try dsimp only
 refine bk 3 U<|rS (SX (cd (r:= .bool false) U U U ib) U U)<|bk 1 U<|RK A<|aZ U<|WK L<|WS fun _ O=>bk 1 U<|RK O<|aj fun _ P=>WS fun _ R=>bk 3 U<|RK R<|ax<|ki 2<|eH fun R33 d=>WS fun _ S=>rS (SX (cd (r:= .bool true) U U U ib) U U)<|RK S<|aj fun _ T=>aQ U<|WK T<|aj fun _ AA=>ax<|WS fun _ V=>rS (UP 0 0 U cK U dc U)<|fP 2 [] (mr 16 U mn) U<|RK V<|WS fun _ W=>bk 1 U<|rS (SX (bO U U) U U)<|fP 3 [] (mc 2 U mn) U<|rS (SX (lf (kV:=iV) (x:=a) (l:=(aG r)) (f:=ep) (z:=(aa.mk 0 0)) U U U oy (eZ qy) xI (by exact aA 5 U)) U U)<|bk 3 U<|AL U dA fun A7=>gd U cz U<|rP 1 [] mn ?_
 refine RK W<|aj fun _ X=>WS fun _ Y=>?_
 rw [show ((List.lookup a (aG r)).getD (aa.mk 0 0))=(aD (aG r) a) from rfl]
 refine rP 2 [] mn ?_
 refine RK Y<|cP U (fun D=>?_) (fun D=>?_)
 ·rw [Bool.not_eq_true'] at D
  refine WS fun _ Z=>rP 3 [] mn ?_
  refine RK Z<|av<|LX hQ (false,6,0,0,none,0,[],none,0) [] [] mn U (by rfl) U U ?_
  exact sw<|qp (HF (i:=a) he I asm)
 rw [Bool.not_eq_false'] at D
 refine WK X<|ak<|rP 2 [] (mc 0 U mn) ?_
 refine dj (xs:=[.tmp 54]) (cs:=(aa.cells (aD (aG r) a))) U hU dA U U U U (by simp [Value.cells,aa.aW]) U U fun A8=>dY 45 2<|cL (es2:=(List.map aa.cells ([(aD (aG r) a)]))) (m':=([(aD (aG r) a)]).length) 0 U U U xo U U sm (bf (es:=List.map aa.cells [(aD (aG r) a)]) 1 U U (by simp [aa.aW]) U) (ic _) sm (by simp [maxLen]) sm sm U fun p u=>?_
 try dsimp only
 refine bk 1 U<|aB<|aF<|KK AA<|ak<|rS (SX (cd (r:= .int .i64 1) U U U (iq ⟨dc,dc⟩)) U U)<|bk 1 U<|RK d<|eH fun R46 A1=>WS fun _ b=>rS (SX (cd (r:= .bool false) U U U ib) U U)<|RK b<|aj fun _ A0=>aZ U<|bB<|ab<|ab<|ay<|KK P<|WS fun _ c=>rP 5 [] mn ?_
 refine RK c<|av ?_
 refine LX hQ (true,0,F,E,m,B,C,p,u) [5,6,7,8,0] [] mn U (by (show List.all _ _=true; simp only [cond_true,fm,List.all_nil,s_,Bool.and_true]; rfl)) U U ?_
 exact ⟨fun _=>⟨NZ he I asm,h⟩,Nl⟩
end
section
open Go.RowKit
theorem zJ (r:cj) (kA:OA) (kC:Nat) (az:List RA) (cA:OA) (cC:Nat) (bA:OA) (bC:Nat) (slA:OA) (slC:Nat) (drA:OA) (drC:Nat) (ha:List cb) (heA:OA) (heC:Nat) (a b:Int) (gq:Nat) (hin:fw r az ha):
 lB Tryz.prog 49 [(vA (cu.cells (oY r kA kC cA cC bA bC slA slC drA drC heA heC))),(vS (some ⟨gq,0,none⟩) 2 2)] [(rd fx 3 2 eC),(rd kA r.an.aL.length 9 (r.an.aL.map al.cells)),(rd cA r.an.ai.length 2 (List.zipWith ar.cells r.an.ai az)),(fp (aR ar.ia r.an.ai az)),(rd bA r.an.ag.length 4 (r.an.ag.map bE.cells)),(rd slA r.aM.length 1 (r.aM.map iC)),(rd drA r.bL.length 1 (r.bL.map iC)),(rd heA r.ao.length 1 (List.zipWith cw r.ao ha)),(fp (aR iI r.ao ha)),(cm gq 3 [(vI a),(vI b)])] (fun (x:Bool×Int×Nat×Nat×(OA)×Nat×(List RA)×(OA)×Nat)=>bif x.1 then (vT [(Value.pointer (some ⟨x.2.2.1,0,none⟩)),(vS x.2.2.2.2.2.2.2.1 2 x.2.2.2.2.2.2.2.2),(vI 0)]) else (vT [(Value.pointer none),(vS none 0 0),(vI x.2.1)])) (fun (x:Bool×Int×Nat×Nat×(OA)×Nat×(List RA)×(OA)×Nat)=>(x.1=true→(nP r a b=0∧x.2.2.2.2.2.2.1.length=r.ao.length))∧(x.1=false→(x.2.1=nP r a b∧ ¬ nP r a b=0))) (fun (x:Bool×Int×Nat×Nat×(OA)×Nat×(List RA)×(OA)×Nat)=>bif x.1 then [(cm x.2.2.1 112 (gh.cells (gh.mk (oY r kA kC cA cC bA bC slA slC drA drC heA heC) (bp.mk x.2.2.2.2.1 ((cT r).length) x.2.2.2.2.2.1) (Value.map (some x.2.2.2.1))))),(own x.2.2.2.2.1 x.2.2.2.2.2.1 109 1 (List.zipWith EM (cT r) x.2.2.2.2.2.2.1)),(br (aR D8 (cT r) x.2.2.2.2.2.2.1)),(iP iV x.2.2.2.1 (bW ep (aG r))),(own x.2.2.2.2.2.2.2.1 x.2.2.2.2.2.2.2.2 45 2 ([(aD (aG r) a),(aD (aG r) b)].map aa.cells))] else []):=by
 have A8:=hin.line
 have Do:=hin.iU
 have D2:=hin.has
 have B3:=hin.iY
 have Bs:=hin.draw
 have v:=dQ (r:=r)
 refine dh kr Tryz.func49 U U fun w0 Q hQ hN=>?_
 try dsimp only
 refine WS fun _ A7=>fZ U fun b2=>bk 3 U<|RK A7<|WS fun _ N=>rP 1 [] (mc 0 U mn) ?_
 refine cX (oS r kA kC az cA cC bA bC slA slC drA drC ha heA heC hin) (bo [1,2,3,4,5,6,7,8,9]) U fun y4 y=>?_
 obtain ⟨AC,C3,F,E,AO,C,D⟩:=y4
 cases AC
 ·obtain ⟨u,he⟩:=y.2 rfl
  try dsimp only at u he
  subst u
  try dsimp only [cond_true,cond_false,List.cons_append,List.nil_append]
  refine bk 5 U<|RK N<|aj fun _ BF=>WS fun _ H=>rP 2 [] mn ?_
  refine RK H<|bR U (bu fun G=>?_) (bw fun G=>?_)
  ·exact absurd G he
  refine WS fun _ AB=>rP 4 [] mn ?_
  refine RK AB<|av<|LX hQ (false,(cG r),0,0,none,0,[],none,0) [] [] mn U (by rfl) U U ?_
  exact sw<|MW (LD (a:=a) (b:=b) he) he
 obtain ⟨he,w⟩:=y.1 rfl
 try dsimp only [cond_true,cond_false,List.cons_append,List.nil_append]
 refine bk 5 U<|RK N<|aj fun _ J=>WS fun _ K=>bk 1 U<|rS (SX (cd (r:= .bool false) U U U og) U U)<|RK K<|aZ U<|WK J<|aj fun _ L=>WS fun _ B=>rP 2 [] mn ?_
 refine rS (CL (eB.eq (Bo r kA kC az cA cC bA bC slA slC drA drC ha heA heC D AO C (Value.map (some E)) F ([a,b]) (some ⟨gq,0,none⟩) 2 hin (by (simp; done))) rM) (mu [6,7,8,9,10,11,12,13]<|aq (ae (n:=(cT r).length) 1 U (nx (by rw [v]; exact w)))<|aq (dg 2 U tU)<|fB 0 U U<|aq (oB 14 U U (by simp [bH]) U)<|aJ) U) ?_
 refine rP 2 [] mn ?_
 refine dx (t:=26) U (bw fun A5=>?_) (bu fun A5=>?_)
 ·refine bk 3 U<|bk 4 U<|bk 2 U<|RK B<|aQ U<|WS fun _ M=>rP 3 [] mn ?_
  refine RK M<|av<|LX hQ (false,2,0,0,none,0,[],none,0) [] [] mn U (by rfl) U U ?_
  exact sw<|qp (CE (a:=a) (b:=b) he I)
 refine rP 1 [] mn ?_
 refine cX (xV (some ⟨gq,0,none⟩) 2 2) (aJ) U fun A2 B7=>?_
 try dsimp only
 refine cX (yn ([a,b]) (some ⟨gq,0,none⟩) 2 A2 (by (simp; done))) (aq (oB 15 U U (by simp [bH]) U)<|fB 0 U U<|aJ) U fun A9 B9=>?_
 obtain ⟨A0,A3⟩:=A9
 try dsimp only
 try dsimp only
 refine jm 0 U U U U (Fg (dE ([a,b])) A0 A3 (by (simp; done))) U kJ U (fun D9 Ci=>?_)
 try dsimp only
 refine rP 3 [] mn ?_
 have Di:=Mh a b
 refine rP 2 [] mn ?_
 refine RK B<|cP U (aO fun A6=>?_) (aN fun A6=>?_)
 ·refine WS fun _ O=>rP 3 [] mn ?_
  refine RK O<|av<|LX hQ (false,2,0,0,none,0,[],none,0) [] [] mn U (by rfl) U U ?_
  exact sw<|qp (CE (a:=a) (b:=b) he I)
 refine WK L<|WS fun _ P=>bk 1 U<|RK P<|aj fun _ R=>WS fun _ S=>bk 3 U<|RK S<|ax<|ki 3<|eH fun R35 q=>WS fun _ T=>rS (SX (cd (r:= .bool true) U U U ib) U U)<|RK T<|aj fun _ AA=>aQ U<|WK AA<|aj fun _ V=>ax<|WS fun _ W=>rS (UP 0 0 U cK U dc U)<|fP 2 [] (mr 16 U mn) U<|RK W<|WS fun _ X=>bk 1 U<|rS (SX (bO U U) U U)<|fP 3 [] (mc 2 U mn) U<|rS (SX (lf (kV:=iV) (x:=a) (l:=(aG r)) (f:=ep) (z:=(aa.mk 0 0)) U U U oy (eZ qy) xI (by exact aA 5 U)) U U)<|bk 3 U<|AL U dA fun Cp=>gd U cz U<|rP 1 [] mn ?_
 refine RK X<|aj fun _ Y=>WS fun _ Z=>?_
 rw [show ((List.lookup a (aG r)).getD (aa.mk 0 0))=(aD (aG r) a) from rfl]
 refine rP 2 [] mn ?_
 refine RK Z<|cP U (fun A=>?_) (fun A=>?_)
 ·rw [Bool.not_eq_true'] at A
  refine WS fun _ c=>rP 3 [] mn ?_
  refine RK c<|av<|LX hQ (false,6,0,0,none,0,[],none,0) [] [] mn U (by rfl) U U ?_
  exact sw<|qp (zo (a:=a) (b:=b) he I (by exact .inl asm))
 rw [Bool.not_eq_false'] at A
 refine WK Y<|ak<|rP 2 [] (mc 0 U mn) ?_
 refine dj (xs:=[.tmp 54]) (cs:=(aa.cells (aD (aG r) a))) U hU dA U U U U (by simp [Value.cells,aa.aW]) U U fun Cx=>dY 45 2<|cL (es2:=(List.map aa.cells ([(aD (aG r) a)]))) (m':=([(aD (aG r) a)]).length) 0 U U U xo U U sm (bf (es:=List.map aa.cells [(aD (aG r) a)]) 1 U U (by simp [aa.aW]) U) (ic _) sm (by simp [maxLen]) sm sm U fun Ck C2=>?_
 try dsimp only
 refine bk 1 U<|aB<|aF<|KK V<|ak<|rS (SX (cd (r:= .int .i64 1) U U U (iq ⟨dc,dc⟩)) U U)<|bk 1 U<|RK q<|eH fun R48 s=>WS fun _ d=>rS (SX (cd (r:= .bool true) U U U ib) U U)<|RK d<|aj fun _ e=>aQ U<|WK e<|aj fun _ g=>ax<|WS fun _ h=>rS (UP 1 1 U cK U dc U)<|fP 2 [] (mr 19 U mn) U<|RK h<|WS fun _ i=>bk 1 U<|rS (SX (bO U U) U U)<|fP 3 [] (mc 5 U mn) U<|rS (SX (lf (kV:=iV) (x:=b) (l:=(aG r)) (f:=ep) (z:=(aa.mk 0 0)) U U U oy (eZ qy) xI (by exact aA 8 U)) U U)<|bk 3 U<|AL U dA fun C0=>gd U cz U<|rP 1 [] mn ?_
 refine RK i<|aj fun _ j=>WS fun _ k=>?_
 rw [show ((List.lookup b (aG r)).getD (aa.mk 0 0))=(aD (aG r) b) from rfl]
 refine rP 2 [] mn ?_
 refine RK k<|cP U (fun A=>?_) (fun A=>?_)
 ·rw [Bool.not_eq_true'] at A
  refine WS fun _ m=>rP 3 [] mn ?_
  refine RK m<|av<|LX hQ (false,6,0,0,none,0,[],none,0) [] [] mn U (by rfl) U U ?_
  exact sw<|qp (zo (a:=a) (b:=b) he I (by exact .inr asm))
 rw [Bool.not_eq_false'] at A
 refine WK j<|ak<|rP 2 [] (mc 0 U mn) ?_
 refine dj (xs:=[.tmp 54]) (cs:=(aa.cells (aD (aG r) b))) U hU dA U U U U (by simp [Value.cells,aa.aW]) U U fun C1=>cL (es2:=(List.map aa.cells ([(aD (aG r) a),(aD (aG r) b)]))) (m':=([(aD (aG r) a),(aD (aG r) b)]).length) 2 U U U xo U U sm (bf (es:=List.map aa.cells [(aD (aG r) b)]) 0 U U (by simp [aa.aW]) U) (ic _) sm (by simp [maxLen]) sm sm U fun A1 A4=>?_
 try dsimp only
 refine bk 1 U<|aB<|aF<|KK g<|ak<|rS (SX (cd (r:= .int .i64 2) U U U (iq ⟨dc,dc⟩)) U U)<|bk 1 U<|RK s<|eH fun R61 Bg=>WS fun _ o=>rS (SX (cd (r:= .bool false) U U U ib) U U)<|RK o<|aj fun _ Bb=>aZ U<|bB<|ab<|ab<|ay<|KK R<|WS fun _ p=>rP 5 [] mn ?_
 refine RK p<|av ?_
 refine LX hQ (true,0,F,E,AO,C,D,A1,A4) [7,8,9,10,2] [] mn U (by (show List.all _ _=true; simp only [cond_true,fm,List.all_nil,s_,Bool.and_true]; rfl)) U U ?_
 exact ⟨fun _=>⟨Pf he I asm asm,w⟩,Nl⟩
end
section
open Go.RowKit
theorem Jx (m:qW) (gm g1:Nat):
 FF Tryz.prog 119 [] [(vP g1)] [(iP iV gm (bW vB m)),(cm g1 47 [(Value.map (some gm))])] ([]:List Int) (fun ys x ys'=> ∃ n zs,(ys++[n]++zs).Perm (m.map (·.1))∧x=[vI n]∧ys'=ys++[n]) (fun ys=>ys.Perm (m.map (·.1))):=by
 refine tM kr Tryz.func119 U U fun l J Z A0 S Q hY M L hQ hN=>?_
 try dsimp only
 refine WS fun _ O=>rP 1 [] (mr 2 U mn) ?_
 refine j4 (kV:=iV) (m:=bW vB m) 1 U U Ct U ⟨U,fun h=>h⟩ (by exact lF 1 U) U fun V=>?_
 try dsimp only
 refine RK O<|ax ?_
 have G:(o1 m m ([]:List Int))∧(∀ p∈m,p∈m)∧(J ([]:List Int) A0)∧(Fo A0 S A0):=by exact ⟨v8,fun p hp=>hp,M,L⟩
 refine bJ (ι:={z:qW×(List Int)×aw // (o1 m z.1 z.2.1)∧(∀ p∈z.1,p∈m)∧(J z.2.1 z.2.2)∧(Fo A0 S z.2.2)}) [0,1,5] [2,3] U U (fun z=>[]) (fun z=>[(zm iV V gm (bW vB m) (bW vB z.1.1) none),z.1.2.2]) (fun _=>rfl) (fun _=>rfl) (fun z=>z.1.1.length) ⟨(m,([]:List Int),A0),G⟩ (dI.nil _) (aI [2,3,0,1]) ?_
 clear G
 rintro ⟨⟨left,ys,A⟩,⟨B,H,C,D⟩⟩ J3 N
 try dsimp only at B H C D
 try dsimp only
 refine WS fun _ AB=>jB (eZ qy).inj (f:=Value.bool) 2 U U U U (fun T=>?_) (fun x y hm hn=>?_)
 ·refine rP 1 [] mn ?_
  refine RK AB<|aj fun _ AA=>aZ U<|bB<|ab<|ab<|ay ?_
  refine hN _ _ _ (iu (vs:=[]) trivial fun w hs=>MT 3 U (by rw [T] at B; exact yi B) C D hs)
 try dsimp only
 refine bk 1 U<|RK AB<|aj fun _ P=>aQ U<|WK P<|ax<|WS fun _ R=>rS (SX (jD 2 U U U) U U)<|bk 2 U<|RK R<|WS fun _ K=>rP 2 [] mn ?_
 refine kR (k:=ys) (k':=(ys++[(x)])) 3 (by first|exact hsz|exact Nat.le_refl _) hY C D U U U (by exact ⟨x,_,oK hn hm B,U,U⟩) U U (fun B9 F E=>?_) (fun B9 F E=>?_)
 rotate_left 1
 ·refine rP 1 [] mn ?_
  refine RK K<|aQ U<|av ?_
  refine hQ _ _ _ (iu (vs:=[]) trivial fun w hs=>sI 3 U F E hs)
 refine rP 1 [] mn ?_
 refine RK K<|aZ U<|ct<|aF<|ij 2 U fQ U ?_
 refine aU (N ⟨((cH left x),(ys++[(x)]),B9),⟨oK hn hm B,gp H,F,E⟩⟩ _ _ _ U (fh hm) (aT U) (aI [0,1,2,3]))
theorem Pe (gm:Nat):
 lB Tryz.prog 84 [(Value.map (some gm))] [] (fun (x:Nat)=>(Value.func (.func 119) [].toArray [(vP x)].toArray)) (fun (x:Nat)=>True) (fun (x:Nat)=>[(cm x 47 [(Value.map (some gm))])]):=by
 refine dh kr Tryz.func84 U U fun D Q hQ hN=>?_
 try dsimp only
 refine WS fun _ A=>ve U U fun C=>bk 1 U<|RK A<|WS fun _ B=>rS (FU U)<|rP 1 [] mn ?_
 refine RK B<|av<|LX hQ C [0] [] mn U U U U ?_
 trivial
end
section
open Go.RowKit
theorem HO (m:qW) (gm g1:Nat) (hlen:m.length≤12):
 lB Tryz.prog 120 [(vS none 0 0),(Value.func (.func 119) [].toArray [(vP g1)].toArray)] [(iP iV gm (bW vB m)),(cm g1 47 [(Value.map (some gm))])] (fun (x:(List Int)×(OA)×Nat)=>(vS x.2.1 x.1.length x.2.2)) (fun (x:(List Int)×(OA)×Nat)=>x.1.Perm (m.map (·.1))) (fun (x:(List Int)×(OA)×Nat)=>[(own x.2.1 x.2.2 3 1 (x.1.map iC))]):=by
 refine dh kr Tryz.func120 U U fun X Q hQ hN=>?_
 try dsimp only
 refine WS fun _ AB=>ve U U fun N=>bk 1 U<|RK AB<|aj fun _ J=>WS fun _ K=>rP 1 [] mn ?_
 refine RK K<|ax<|k6 1 U (by exact fun _ h=>h)<|k6 3 U (by exact fun _ h=>h)<|gu 3 1 ?_
 refine oi (L0:=[(2,(vP N))]) (F:=[(iP iV gm (bW vB m)).ro,(cm g1 47 [(Value.map (some gm))]).ro]) (fun k (y:(OA)×Nat)=>(∃ zs,(k++zs).Perm (m.map (·.1)))) (fun k y=>[(own y.1 y.2 3 1 (k.map iC)),(cm N 29 [(vS y.1 k.length y.2)]),(iP iV gm (bW vB m)).ro]) (fun _ (_:Unit)=>False) (fun _ _=>[]) [0,3,4] [2,1] (none,0) rfl rfl (Jx m gm g1) rfl rfl rfl (by exact ⟨_,List.Perm.refl _⟩) (by simp only [List.forall_mem_cons,List.not_mem_nil,false_imp_iff,implies_true,and_true]; exact ⟨⟨_,sm,(dT (bU _))⟩,⟨_,sm,(dT (bU _))⟩⟩) (by rintro k x AA ⟨n,zs,_,rfl,_⟩; rfl) rfl (aT rfl) ?_ ?_ (fun _ _ _ h=>h.elim) (fun _ _ h=>h.elim)
 rotate_left 1
 ·rintro V k ⟨a,c⟩ E A
  have B:=A
  try dsimp only at B
  try dsimp only
  refine aF<|KK J<|WS fun _ C=>rP 2 [] (mc 4 U mn) ?_
  refine RK C<|av<|hQ _ _ _ (o4 0 U U<|iu (vs:=[(vS a k.length c)]) ⟨U,trivial⟩ fun w hs=>Ke (k,a,c) [3] ?_ ?_ U U U hs)
  ·rfl
  ·first|exact E|exact hys
 rintro k x AA ⟨a,c⟩ l ra rb S Y K5 Qr6 T hx G L D O P
 obtain ⟨n,zs,hn,rfl,rfl⟩:=hx; have M:=hn.length_eq; simp only [List.length_append,List.length_map,List.length_singleton] at M
 have B:=G
 try dsimp only at B
 try dsimp only
 refine ak<|rP 1 [] mn ?_
 refine aB<|aU (L _ _ ?_)
 refine ax<|ak<|rP 2 [] (mc 2 U mn) ?_
 refine dj (xs:=[.tmp 9]) (cs:=[(vI n)]) U cK jA U U U U (by simp [Value.cells]) U U fun W=>?_
 refine cL (es2:=(List.map iC (k++[n]))) (m':=(k++[n]).length) 2 U U U o9 U U sm (bf (es:=List.map iC [n]) 0 U U (by simp [bH]) U) (jX _) os (by simp only [maxLen]; omega) sm sm U fun R H=>?_
 try dsimp only
 refine VD U xy U U<|aB<|aF ?_
 exact D (R,H) _ _ (by exact ⟨_,hn⟩) (aI [1,2,3,4])
end
section
open Go.RowKit
theorem Fm (m:qW) (gm g1:Nat) (hlen:m.length≤12):
 lB Tryz.prog 85 [(Value.func (.func 119) [].toArray [(vP g1)].toArray)] [(iP iV gm (bW vB m)),(cm g1 47 [(Value.map (some gm))])] (fun (x:(List Int)×(OA)×Nat)=>(vS x.2.1 x.1.length x.2.2)) (fun (x:(List Int)×(OA)×Nat)=>x.1.Perm (m.map (·.1))) (fun (x:(List Int)×(OA)×Nat)=>[(own x.2.1 x.2.2 3 1 (x.1.map iC))]):=by
 refine dh kr Tryz.func85 U U fun AA Q hQ hN=>?_
 try dsimp only
 refine WS fun _ A=>bk 1 U<|RK A<|WS fun _ B=>rP 1 [] mn ?_
 refine cX (HO m gm g1 hlen) (bo [0,1]) U fun H C=>?_
 obtain ⟨E,F,G⟩:=H
 try dsimp only
 have D:=C
 refine rP 1 [] mn ?_
 refine RK B<|av<|LX hQ (E,F,G) [0] [] mn U U U U ?_
 first|exact hfin|exact D
theorem Hu (m:qW) (gm g1:Nat) (hlen:m.length≤12):
 lB Tryz.prog 51 [(Value.func (.func 119) [].toArray [(vP g1)].toArray)] [(iP iV gm (bW vB m)),(cm g1 47 [(Value.map (some gm))])] (fun (x:(OA)×Nat)=>(vS x.1 m.length x.2)) (fun (x:(OA)×Nat)=>True) (fun (x:(OA)×Nat)=>[(own x.1 x.2 3 1 ((dE (m.map (·.1))).map iC))]):=by
 refine dh kr Tryz.func51 U U fun M Q hQ hN=>?_
 try dsimp only
 refine WS fun _ E=>bk 1 U<|RK E<|WS fun _ F=>rP 1 [] mn ?_
 refine cX (Fm m gm g1 hlen) (bo [0,1]) U fun L H=>?_
 obtain ⟨AA,J,K⟩:=L
 try dsimp only
 have D:=H
 refine bk 1 U<|RK F<|WS fun _ G=>rP 1 [] mn ?_
 have B:=D.length_eq
 simp only [List.length_map] at B
 refine jm 0 U U U U (Bp AA J K I) U kJ U (fun ms C=>?_)
 try dsimp only
 refine RK G<|WS fun _ A=>?_
 obtain rfl:=re (C.1.trans D) C.2
 skip
 refine rP 2 [] mn ?_
 refine RK A<|av ?_
 refine LX hQ (J,K) [0] [] mn U U U ?_ ?_
 ·first|rfl|(rw [B]; rfl)
 ·trivial
end
section
open Go.RowKit
theorem Mb (m:qW) (gm:Nat):
 lB Tryz.prog 82 [(Value.map (some gm))] [(iP iV gm (bW vB m))] (fun (x:Nat)=>(Value.map (some x))) (fun (x:Nat)=>True) (fun (x:Nat)=>[(iP iV x (bW vB m))]):=by
 refine dh VH Tryz.func82 U U fun F Q hQ hN=>?_
 try dsimp only
 refine WS fun _ A=>bk 1 U<|RK A<|aj fun _ B=>WS fun _ C=>bk 1 U<|rS (SX (cd (r:= .bool false) U U U (Rj Ct)) U U)<|RK C<|aZ U<|WK B<|WS fun _ D=>rP 1 [] mn ?_
 refine rS (SX (NA U U Ct) U U)<|Je (kV:=iV) (fn:=Tryz.f117) U U Tryz.func117 U U U kr (by exact lF 0 U) U fun E=>?_
 try dsimp only
 refine rS (SX (T_ U U Ct) U U)<|rP 1 [] mn ?_
 refine RK D<|av<|LX hQ E [0] [] mn U U U U ?_
 trivial
end
section
open Go.RowKit
theorem He (r:cj) (kA:OA) (kC:Nat) (cA:OA) (cC:Nat) (bA:OA) (bC:Nat) (slA:OA) (slC:Nat) (drA:OA) (drC:Nat) (heA:OA) (heC:Nat) (tA:OA) (tN tC:Nat) (gs gw:Nat) (m:g8) (i:Int) (g1 g2:Nat) (hb: ∀ p∈m,0≤p.2.Lo∧p.2.Lo≤p.2.Hi∧p.2.Hi≤30000000):
 FF Tryz.prog 118 [] [(vP g1),(vP g2)] [(cm gw 112 (gh.cells (gh.mk (oY r kA kC cA cC bA bC slA slC drA drC heA heC) (bp.mk tA tN tC) (Value.map (some gs))))),(iP iV gs (bW ep m)),(cm g1 94 [(vP gw)]),(cm g2 3 [(vI i)])] ([]:List Int) (fun ys x ys'=> ∃ n,n∈(j0 m i (aD m i))∧x=[vI n]∧ys'=ys++[n]) (fun ys=> ∀ n,n∈ys↔n∈(j0 m i (aD m i))):=by
 have LT:=g_ (i:=i) hb
 refine tM kr Tryz.func118 U U fun l J Z A0 w0 Q hY Go GZ hQ hN=>?_
 try dsimp only
 refine aj fun _ Hy=>dK cE [6,7] [] [] [0,1,2,3,4] [] U U U U U<|eS U (UT 3 U cp U)<|eS U (SX (bO U U) U U)<|eS U (FA 12 U fc U)<|eS U (I5 (Value.map (some gs)) 1 U cp U U)<|eS U (UT 4 U cp U)<|eS U (SX (lx (kV:=iV) (x:=i) (l:=m) (f:=ep) (z:=(aa.mk 0 0)) U U U oy (eZ qy) xI (by exact lF 2 U)) U U)<|eU U<|cf U fun T2 IO=>AL U dA fun b3=>aB (IO _ _ (aI [1,2,3,4,5]) ?_)
 refine cf U fun T4 IR=>gd U cz U<|aB (IR _ _ (aI [1,2,3,4,5]) ?_)
 refine fF U<|KK Hy<|aj fun _ H1=>WS fun _ B9=>?_
 rw [show ((List.lookup i m).getD (aa.mk 0 0))=(aD m i) from rfl]
 refine rP 3 [] (mc 0 U mn) ?_
 refine kR (k:=([]:List Int)) (k':=(([]:List Int)++[((aD m i).Lo)])) 1 (by first|exact hsz|exact Nat.le_refl _) hY Go GZ U U U (by exact ⟨_,cv ..,U,U⟩) U U (fun B7 u s=>?_) (fun B7 u s=>?_)
 rotate_left 1
 ·refine rP 1 [] mn ?_
  refine RK B9<|aQ U<|av ?_
  refine hQ _ _ _ (iu (vs:=[]) trivial fun w hs=>sI 1 U u s hs)
 refine bk 1 U<|RK B9<|aZ U<|WK H1<|WS fun _ AC=>fP 1 [] (mr 4 U mn) U<|rS (SX (bO U U) U U)<|rP 2 [] (mr 2 U mn) ?_
 refine j4 (kV:=iV) (m:=bW ep m) 3 U U oy U ⟨U,fun h=>h⟩ (by exact lF 3 U) U fun If=>?_
 try dsimp only
 refine RK AC<|ax ?_
 have j:(zL m i (aD m i) m (([]:List Int)++[((aD m i).Lo)]))∧(∀ p∈m,p∈m)∧(J (([]:List Int)++[((aD m i).Lo)]) B7)∧(Fo A0 w0 B7):=by exact ⟨JP,fun p hp=>hp,asm,asm⟩
 refine bJ (ι:={z:g8×(List Int)×aw // (zL m i (aD m i) z.1 z.2.1)∧(∀ p∈z.1,p∈m)∧(J z.2.1 z.2.2)∧(Fo A0 w0 z.2.2)}) [0,1,2,4,24] [1,3,4,5,6] U U (fun z=>[]) (fun z=>[(zm iV If gs (bW ep m) (bW ep z.1.1) none),z.1.2.2]) (fun _=>rfl) (fun _=>rfl) (fun z=>z.1.1.length) ⟨(m,(([]:List Int)++[((aD m i).Lo)]),B7),j⟩ (dI.nil _) (aI [1,3,4,5,6,0,2]) ?_
 clear j
 rintro ⟨⟨left,ys,A⟩,⟨D,B,E,F⟩⟩ J12 G
 try dsimp only at D B E F
 try dsimp only
 refine WS fun _ o=>jB (eZ qy).inj (f:=ep) 5 U U U U (fun q=>?_) (fun x y hm hn=>?_)
 ·refine rP 1 [] mn ?_
  refine RK o<|aj fun _ In=>aZ U<|bB<|ab<|ab<|ay ?_
  refine hN _ _ _ (iu (vs:=[]) trivial fun w hs=>MT 6 U (by rw [q] at D; exact NK D) E F hs)
 try dsimp only
 refine bk 1 U<|RK o<|aj fun _ AO=>aQ U<|WK AO<|ax<|WS fun _ A1=>rS (SX (jD 5 U U U) U U)<|bk 2 U<|AL U dA fun LE=>bk 1 U<|gd U cz U<|RK A1<|WS fun _ A2=>rP 1 [] mn ?_
 have Id:=hb _ (B _ hm)
 dsimp only at Id
 refine fP 5 [] (mc 0 U mn) U<|rS (SX (bg (xs:=[(0,.tmp 32),(1,.tmp 35)]) (cs:=[(vI (y.Lo+1)),(vI (y.Hi+1))]) U U (bh Sg U)) U U)<|bk 1 U<|RK A2<|ax<|ki 3<|eH fun R19 c=>WS fun _ A3=>rS (SX (cd (r:= .bool true) U U U ib) U U)<|RK A3<|aj fun _ A4=>aQ U<|WK A4<|aj fun _ X=>ax<|WS fun _ A5=>rS (SX (r9 (v:=(vI (y.Lo+1))) 0 U U U Gn cp U dc U) U U)<|bk 1 U<|RK A5<|WS fun _ M=>rP 4 [] (mr 5 U mn) ?_
 refine ck (t:=43) U (bu fun q=>?_) (bw fun q=>?_)
 ·refine bk 14 U<|RK M<|aZ U<|ct<|aF<|KK X<|ak<|rS (SX (cd (r:= .int .i64 1) U U U (iq ⟨dc,dc⟩)) U U)<|bk 1 U<|RK c<|eH fun R73 g=>WS fun _ Cx=>rS (SX (cd (r:= .bool true) U U U ib) U U)<|RK Cx<|aj fun _ C0=>aQ U<|WK C0<|aj fun _ b=>ax<|WS fun _ C1=>rS (SX (r9 (v:=(vI (y.Hi+1))) 1 U U U Gn cp U dc U) U U)<|bk 1 U<|RK C1<|WS fun _ P=>rP 4 [] (mr 5 U mn) ?_
  refine ck (t:=43) U (bu fun GF=>?_) (bw fun GF=>?_)
  ·refine bk 14 U<|RK P<|aZ U<|ct<|aF<|KK b<|ak<|rS (SX (cd (r:= .int .i64 2) U U U (iq ⟨dc,dc⟩)) U U)<|rP 1 [] mn ?_
   refine RK g<|eH fun R91 K8=>WS fun _ Di=>rS (SX (cd (r:= .bool false) U U U ib) U U)<|RK Di<|aj fun _ J7=>aZ U<|bB<|ab<|ab<|ay<|aF<|ij 6 U fQ U ?_
   refine aU (G ⟨((cH left x),ys,A),⟨lE hn hm B D (fun n C=>by first|exact C|(simp [C]; done)) (fun n C=>by exact .inl C) (fun L n C K=>by simp only [bx,List.not_mem_nil,or_false] at C; rcases C with rfl|rfl<;>first|(simp; done)|(exfalso; omega)),gp B,E,F⟩⟩ _ _ _ rfl (fh hm) (aT rfl) (aI [1,2,3,4,5,6,7]))
  refine fP 5 [] (mc 1 U mn) U<|dj (xs:=[.tmp 48]) (cs:=[(vI (y.Hi+1))]) U cK jA U U U U (by simp [Value.cells]) U U fun EQ=>rS (CL (eB.eq (ko ((aD m i).Lo) ((aD m i).Hi) ([(y.Hi+1)]) (some ⟨EQ,0,none⟩) 1 I) cZ) (aq (bf 0 U U (by simp [bH]) U)<|aJ) U)<|rP 2 [] mn ?_
  refine ck (t:=52) U (aN fun GT=>?_) (aO fun GT=>?_)
  ·refine bk 5 U<|RK P<|aZ U<|ct<|aF<|KK b<|ak<|rS (SX (cd (r:= .int .i64 2) U U U (iq ⟨dc,dc⟩)) U U)<|rP 1 [] mn ?_
   refine RK g<|eH fun R88 K5=>WS fun _ C3=>rS (SX (cd (r:= .bool false) U U U ib) U U)<|RK C3<|aj fun _ J6=>aZ U<|bB<|ab<|ab<|ay<|aF<|ij 7 U fQ U ?_
   refine aU (G ⟨((cH left x),ys,A),⟨lE hn hm B D (fun n C=>by first|exact C|(simp [C]; done)) (fun n C=>by exact .inl C) (fun L n C K=>by simp only [bx,List.not_mem_nil,or_false] at C; rcases C with rfl|rfl<;>first|(simp; done)|(exfalso; omega)),gp B,E,F⟩⟩ _ _ _ rfl (fh hm) (aT rfl) (aI [2,3,4,5,6,7,8]))
  refine rP 2 [] mn ?_
  refine kR (k:=ys) (k':=(ys++[((y.Hi+1))])) 8 (by first|exact hsz|exact Nat.le_refl _) hY E F U U U (by exact ⟨_,nz (B _ hm) dso (by first|exact .inl rfl|exact .inr U) I,U,U⟩) U U (fun B82 W T=>?_) (fun B82 W T=>?_)
  rotate_left 1
  ·refine rP 2 [] mn ?_
   refine RK P<|aQ U<|av ?_
   refine hQ _ _ _ (iu (vs:=[]) trivial fun w hs=>sI 8 U W T hs)
  refine bk 2 U<|RK P<|aZ U<|ct<|aF<|KK b<|ak<|rS (SX (cd (r:= .int .i64 2) U U U (iq ⟨dc,dc⟩)) U U)<|rP 1 [] mn ?_
  refine RK g<|eH fun R85 K4=>WS fun _ C2=>rS (SX (cd (r:= .bool false) U U U ib) U U)<|RK C2<|aj fun _ J5=>aZ U<|bB<|ab<|ab<|ay<|aF<|ij 7 U fQ U ?_
  refine aU (G ⟨((cH left x),(ys++[((y.Hi+1))]),B82),⟨lE hn hm B D (fun n C=>by first|exact C|(simp [C]; done)) (fun n C=>by (simp only [dN,bI] at C; rcases C with C|rfl<;>first|exact .inl C|exact .inr (nz (B _ hm) dso sm I))) (fun L n C K=>by simp only [bx,List.not_mem_nil,or_false] at C; rcases C with rfl|rfl<;>first|(simp; done)|(exfalso; omega)),gp B,W,T⟩⟩ _ _ _ rfl (fh hm) (aT rfl) (aI [2,3,4,5,6,7,8]))
 refine rP 5 [] (mc 1 U mn) ?_
 refine dj (xs:=[.tmp 48]) (cs:=[(vI (y.Lo+1))]) U cK jA U U U U (by simp [Value.cells]) U U fun Do=>?_
 refine rS (CL (eB.eq (ko ((aD m i).Lo) ((aD m i).Hi) ([(y.Lo+1)]) (some ⟨Do,0,none⟩) 1 (by (simp; done))) cZ) (aq (bf 0 U U (by simp [bH]) U)<|aJ) U) ?_
 refine rP 2 [] mn ?_
 refine ck (t:=52) U (aN fun Eq=>?_) (aO fun Eq=>?_)
 ·refine bk 5 U<|RK M<|aZ U<|ct<|aF<|KK X<|ak<|rS (SX (cd (r:= .int .i64 1) U U U (iq ⟨dc,dc⟩)) U U)<|bk 1 U<|RK c<|eH fun R52 e=>WS fun _ Bg=>rS (SX (cd (r:= .bool true) U U U ib) U U)<|RK Bg<|aj fun _ Bs=>aQ U<|WK Bs<|aj fun _ a=>ax<|WS fun _ B3=>rS (SX (r9 (v:=(vI (y.Hi+1))) 1 U U U Gn cp U dc U) U U)<|bk 1 U<|RK B3<|WS fun _ O=>rP 4 [] (mr 6 U mn) ?_
  refine ck (t:=43) U (bu fun Fn=>?_) (bw fun Fn=>?_)
  ·refine bk 14 U<|RK O<|aZ U<|ct<|aF<|KK a<|ak<|rS (SX (cd (r:= .int .i64 2) U U U (iq ⟨dc,dc⟩)) U U)<|rP 1 [] mn ?_
   refine RK e<|eH fun R70 K0=>WS fun _ Cp=>rS (SX (cd (r:= .bool false) U U U ib) U U)<|RK Cp<|aj fun _ J4=>aZ U<|bB<|ab<|ab<|ay<|aF<|ij 7 U fQ U ?_
   refine aU (G ⟨((cH left x),ys,A),⟨lE hn hm B D (fun n C=>by first|exact C|(simp [C]; done)) (fun n C=>by exact .inl C) (fun L n C K=>by simp only [bx,List.not_mem_nil,or_false] at C; rcases C with rfl|rfl<;>first|(simp; done)|(exfalso; omega)),gp B,E,F⟩⟩ _ _ _ rfl (fh hm) (aT rfl) (aI [2,3,4,5,6,7,8]))
  refine rP 5 [] (mc 2 U mn) ?_
  refine dj (xs:=[.tmp 48]) (cs:=[(vI (y.Hi+1))]) U cK jA U U U U (by simp [Value.cells]) U U fun D9=>?_
  refine rS (CL (eB.eq (ko ((aD m i).Lo) ((aD m i).Hi) ([(y.Hi+1)]) (some ⟨D9,0,none⟩) 1 (by (simp; done))) cZ) (aq (bf 0 U U (by simp [bH]) U)<|aJ) U) ?_
  refine rP 2 [] mn ?_
  refine ck (t:=52) U (aN fun GE=>?_) (aO fun GE=>?_)
  ·refine bk 5 U<|RK O<|aZ U<|ct<|aF<|KK a<|ak<|rS (SX (cd (r:= .int .i64 2) U U U (iq ⟨dc,dc⟩)) U U)<|rP 1 [] mn ?_
   refine RK e<|eH fun R67 KS=>WS fun _ Ck=>rS (SX (cd (r:= .bool false) U U U ib) U U)<|RK Ck<|aj fun _ J3=>aZ U<|bB<|ab<|ab<|ay<|aF<|ij 8 U fQ U ?_
   refine aU (G ⟨((cH left x),ys,A),⟨lE hn hm B D (fun n C=>by first|exact C|(simp [C]; done)) (fun n C=>by exact .inl C) (fun L n C K=>by simp only [bx,List.not_mem_nil,or_false] at C; rcases C with rfl|rfl<;>first|(simp; done)|(exfalso; omega)),gp B,E,F⟩⟩ _ _ _ rfl (fh hm) (aT rfl) (aI [3,4,5,6,7,8,9]))
  refine rP 2 [] mn ?_
  refine kR (k:=ys) (k':=(ys++[((y.Hi+1))])) 9 (by first|exact hsz|exact Nat.le_refl _) hY E F U U U (by exact ⟨_,nz (B _ hm) dso (by first|exact .inl rfl|exact .inr U) I,U,U⟩) U U (fun B61 V S=>?_) (fun B61 V S=>?_)
  rotate_left 1
  ·refine rP 2 [] mn ?_
   refine RK O<|aQ U<|av ?_
   refine hQ _ _ _ (iu (vs:=[]) trivial fun w hs=>sI 9 U V S hs)
  refine bk 2 U<|RK O<|aZ U<|ct<|aF<|KK a<|ak<|rS (SX (cd (r:= .int .i64 2) U U U (iq ⟨dc,dc⟩)) U U)<|rP 1 [] mn ?_
  refine RK e<|eH fun R64 KR=>WS fun _ Ci=>rS (SX (cd (r:= .bool false) U U U ib) U U)<|RK Ci<|aj fun _ J2=>aZ U<|bB<|ab<|ab<|ay<|aF<|ij 8 U fQ U ?_
  refine aU (G ⟨((cH left x),(ys++[((y.Hi+1))]),B61),⟨lE hn hm B D (fun n C=>by first|exact C|(simp [C]; done)) (fun n C=>by (simp only [dN,bI] at C; rcases C with C|rfl<;>first|exact .inl C|exact .inr (nz (B _ hm) dso sm I))) (fun L n C K=>by simp only [bx,List.not_mem_nil,or_false] at C; rcases C with rfl|rfl<;>first|(simp; done)|(exfalso; omega)),gp B,V,S⟩⟩ _ _ _ rfl (fh hm) (aT rfl) (aI [3,4,5,6,7,8,9]))
 refine rP 2 [] mn ?_
 refine kR (k:=ys) (k':=(ys++[((y.Lo+1))])) 8 (by first|exact hsz|exact Nat.le_refl _) hY E F U U U (by exact ⟨_,nz (B _ hm) dso (by first|exact .inl rfl|exact .inr U) I,U,U⟩) U U (fun B28 AB H=>?_) (fun B28 AB H=>?_)
 rotate_left 1
 ·refine rP 2 [] mn ?_
  refine RK M<|aQ U<|av ?_
  refine hQ _ _ _ (iu (vs:=[]) trivial fun w hs=>sI 8 U AB H hs)
 refine bk 2 U<|RK M<|aZ U<|ct<|aF<|KK X<|ak<|rS (SX (cd (r:= .int .i64 1) U U U (iq ⟨dc,dc⟩)) U U)<|bk 1 U<|RK c<|eH fun R31 d=>WS fun _ A6=>rS (SX (cd (r:= .bool true) U U U ib) U U)<|RK A6<|aj fun _ A7=>aQ U<|WK A7<|aj fun _ Y=>ax<|WS fun _ A8=>rS (SX (r9 (v:=(vI (y.Hi+1))) 1 U U U Gn cp U dc U) U U)<|bk 1 U<|RK A8<|WS fun _ N=>rP 4 [] (mr 6 U mn) ?_
 refine ck (t:=43) U (bu fun FS=>?_) (bw fun FS=>?_)
 ·refine bk 14 U<|RK N<|aZ U<|ct<|aF<|KK Y<|ak<|rS (SX (cd (r:= .int .i64 2) U U U (iq ⟨dc,dc⟩)) U U)<|rP 1 [] mn ?_
  refine RK d<|eH fun R49 KC=>WS fun _ Bb=>rS (SX (cd (r:= .bool false) U U U ib) U U)<|RK Bb<|aj fun _ Jc=>aZ U<|bB<|ab<|ab<|ay<|aF<|ij 7 U fQ U ?_
  refine aU (G ⟨((cH left x),(ys++[((y.Lo+1))]),B28),⟨lE hn hm B D (fun n C=>by first|exact C|(simp [C]; done)) (fun n C=>by (simp only [dN,bI] at C; rcases C with C|rfl<;>first|exact .inl C|exact .inr (nz (B _ hm) dso sm I))) (fun L n C K=>by simp only [bx,List.not_mem_nil,or_false] at C; rcases C with rfl|rfl<;>first|(simp; done)|(exfalso; omega)),gp B,AB,H⟩⟩ _ _ _ rfl (fh hm) (aT rfl) (aI [2,3,4,5,6,7,8]))
 refine rP 5 [] (mc 2 U mn) ?_
 refine dj (xs:=[.tmp 48]) (cs:=[(vI (y.Hi+1))]) U cK jA U U U U (by simp [Value.cells]) U U fun D2=>?_
 refine rS (CL (eB.eq (ko ((aD m i).Lo) ((aD m i).Hi) ([(y.Hi+1)]) (some ⟨D2,0,none⟩) 1 (by (simp; done))) cZ) (aq (bf 0 U U (by simp [bH]) U)<|aJ) U) ?_
 refine rP 2 [] mn ?_
 refine ck (t:=52) U (aN fun Fd=>?_) (aO fun Fd=>?_)
 ·refine bk 5 U<|RK N<|aZ U<|ct<|aF<|KK Y<|ak<|rS (SX (cd (r:= .int .i64 2) U U U (iq ⟨dc,dc⟩)) U U)<|rP 1 [] mn ?_
  refine RK d<|eH fun R46 J9=>WS fun _ BF=>rS (SX (cd (r:= .bool false) U U U ib) U U)<|RK BF<|aj fun _ JO=>aZ U<|bB<|ab<|ab<|ay<|aF<|ij 8 U fQ U ?_
  refine aU (G ⟨((cH left x),(ys++[((y.Lo+1))]),B28),⟨lE hn hm B D (fun n C=>by first|exact C|(simp [C]; done)) (fun n C=>by (simp only [dN,bI] at C; rcases C with C|rfl<;>first|exact .inl C|exact .inr (nz (B _ hm) dso sm I))) (fun L n C K=>by simp only [bx,List.not_mem_nil,or_false] at C; rcases C with rfl|rfl<;>first|(simp; done)|(exfalso; omega)),gp B,AB,H⟩⟩ _ _ _ rfl (fh hm) (aT rfl) (aI [3,4,5,6,7,8,9]))
 refine rP 2 [] mn ?_
 refine kR (k:=(ys++[((y.Lo+1))])) (k':=((ys++[((y.Lo+1))])++[((y.Hi+1))])) 9 (by first|exact hsz|exact Nat.le_refl _) hY AB H U U U (by exact ⟨_,nz (B _ hm) dso (by first|exact .inl rfl|exact .inr U) I,U,U⟩) U U (fun B40 AA R=>?_) (fun B40 AA R=>?_)
 rotate_left 1
 ·refine rP 2 [] mn ?_
  refine RK N<|aQ U<|av ?_
  refine hQ _ _ _ (iu (vs:=[]) trivial fun w hs=>sI 9 U AA R hs)
 refine bk 2 U<|RK N<|aZ U<|ct<|aF<|KK Y<|ak<|rS (SX (cd (r:= .int .i64 2) U U U (iq ⟨dc,dc⟩)) U U)<|rP 1 [] mn ?_
 refine RK d<|eH fun R43 J8=>WS fun _ A9=>rS (SX (cd (r:= .bool false) U U U ib) U U)<|RK A9<|aj fun _ JN=>aZ U<|bB<|ab<|ab<|ay<|aF<|ij 8 U fQ U ?_
 refine aU (G ⟨((cH left x),((ys++[((y.Lo+1))])++[((y.Hi+1))]),B40),⟨lE hn hm B D (fun n C=>by first|exact C|(simp [C]; done)) (fun n C=>by (simp only [dN,bI] at C; rcases C with (C|rfl)|rfl<;>first|exact .inl C|exact .inr (nz (B _ hm) dso sm I))) (fun L n C K=>by simp only [bx,List.not_mem_nil,or_false] at C; rcases C with rfl|rfl<;>first|(simp; done)|(exfalso; omega)),gp B,AA,R⟩⟩ _ _ _ rfl (fh hm) (aT rfl) (aI [3,4,5,6,7,8,9]))
theorem JT (gw:Nat) (i:Int):
 lB Tryz.prog 83 [(vP gw),(vI i)] [] (fun (x:Nat×Nat)=>(Value.func (.func 118) [].toArray [(Value.pointer (some ⟨x.1,0,none⟩)),(Value.pointer (some ⟨x.2,0,none⟩))].toArray)) (fun (x:Nat×Nat)=>True) (fun (x:Nat×Nat)=>[(cm x.1 94 [(vP gw)]),(cm x.2 3 [(vI i)])]):=by
 refine dh kr Tryz.func83 U U fun E Q hQ hN=>?_
 try dsimp only
 refine WS fun _ A=>ve U U fun C=>ve U U fun D=>bk 1 U<|RK A<|WS fun _ B=>rS (FU U)<|rP 1 [] mn ?_
 refine RK B<|av<|LX hQ (C,D) [1,0] [] mn U U U U ?_
 trivial
end
section
open Go.RowKit
theorem AR (r:cj) (kA:OA) (kC:Nat) (cA:OA) (cC:Nat) (bA:OA) (bC:Nat) (slA:OA) (slC:Nat) (drA:OA) (drC:Nat) (heA:OA) (heC:Nat) (tA:OA) (tN tC:Nat) (gs gw:Nat) (m:g8) (i:Int) (hb: ∀ p∈m,0≤p.2.Lo∧p.2.Lo≤p.2.Hi∧p.2.Hi≤30000000) (hi:m.lookup i≠none) (hm12:m.length≤12):
 lB Tryz.prog 50 [(vP gw),(vI i)] [(cm gw 112 (gh.cells (gh.mk (oY r kA kC cA cC bA bC slA slC drA drC heA heC) (bp.mk tA tN tC) (Value.map (some gs))))),(iP iV gs (bW ep m))] (fun (x:(OA)×Nat)=>(vS x.1 ((d_ m i (aD m i)).length) x.2)) (fun (x:(OA)×Nat)=>True) (fun (x:(OA)×Nat)=>[(own x.1 x.2 3 1 ((d_ m i (aD m i)).map iC))]):=by
 refine dh kr Tryz.func50 U U fun w0 Q hQ hN=>?_
 try dsimp only
 refine WS fun _ GZ=>ve U U fun b2=>ve U U fun b3=>rP 1 [] mn ?_
 refine RK GZ<|WS fun _ Go=>pw (kV:=iV) U U fun AA=>?_
 try dsimp only
 refine AL U V7 fun b6=>IY U Vz U U<|RK Go<|aj fun _ Hy=>WS fun _ H1=>fP 1 [] (mc 3 U mn) U<|rS (SX (bO U U) U U)<|fP 2 [] (mr 4 U mn) U<|rS (SX (Et U U oy (by exact lF 5 U)) U U)<|rP 1 [] mn ?_
 refine RK H1<|ax ?_
 have A:(0≤m.length)∧(ju ([]:qW) (fun u=>1≤u∧u≤(0:Int))):=by exact ⟨Nat.zero_le _,M9 fun k=>by omega⟩
 refine bJ (ι:={z:Nat×qW // (z.1≤m.length)∧(ju z.2 (fun u=>1≤u∧u≤(z.1:Int)))}) [2,3,5,20] [0,2,3,4,5] U U (fun z=>[(21,(vI (z.1.1:Int)))]) (fun z=>[(iP iV AA (bW vB z.1.2))]) (fun _=>rfl) (fun _=>rfl) (fun z=>m.length-z.1.1) ⟨(0,([]:qW)),A⟩ (aT U) (aI [0,2,3,4,5,1]) ?_
 clear A
 rintro ⟨⟨n,nv⟩,⟨j,K⟩⟩ J9 GT
 try dsimp only at j K
 try dsimp only
 refine WS fun _ A1=>rP 1 [] mn ?_
 refine RK A1<|aj fun _ A2=>cP U (aO fun Fn=>?_) (aN fun Fn=>?_)
 ·refine WK A2<|aj fun _ A3=>ax<|WS fun _ A4=>bk 2 U<|RK A4<|ak<|fP 3 [] (mc 0 U mn) U<|ks (kV:=iV) (x:=((n:Int)+1)) (C':=[_,_,_,_,_,(iP iV AA (bW vB (e_ nv ((n:Int)+1) true)))]) 5 U U U U Ct (eZ qy) U (iG _ _ _ _).symm U<|aB<|aF<|KK A3<|ak<|rP 2 [] mn ?_
  refine aB ?_
  have D9:(vI (((n+1):Nat):Int))=(vI ((n:Int)+1)):=by exact cI I
  refine aU (GT ⟨((n+1),(e_ nv ((n:Int)+1) true)),⟨I,(Kp K I).yX fun k=>by omega⟩⟩ _ _ _ U os (cQ 4<|bj U D9<|dI.nil _) (aI [0,1,2,3,4,5]))
 refine bB<|ab<|ab<|ay<|KK Hy<|WS fun _ A5=>rP 1 [] (mc 0 U mn) ?_
 refine cX (Mb nv AA) (bo [5]) U fun G KC=>?_
 try dsimp only
 refine bk 1 U<|RK A5<|aj fun _ A6=>WS fun _ A7=>rP 2 [0,1] (mc 3 U (mc 2 U mn)) ?_
 refine cX (JT gw i) (aJ) U fun Jc KR=>?_
 obtain ⟨Z,c⟩:=Jc
 try dsimp only
 refine RK A7<|ax<|k6 6 U (by exact fun _ h=>h)<|k6 8 U (by exact fun _ h=>h) ?_
 refine oi (L0:=[(2,(vP b2)),(3,(vP b3)),(5,(vP b6)),(7,(Value.map (some G)))]) (F:=[(cm gw 112 (gh.cells (gh.mk (oY r kA kC cA cC bA bC slA slC drA drC heA heC) (bp.mk tA tN tC) (Value.map (some gs))))).ro,(iP iV gs (bW ep m)).ro,(cm Z 94 [(vP gw)]),(cm c 3 [(vI i)])]) (fun k (y:qW)=>(ju y (vr m i k))) (fun k y=>[(iP iV G (bW vB nv)),(cm b6 47 [(Value.map (some AA))]),(cm b3 3 [(vI i)]),(cm b2 94 [(vP gw)]),(cm gw 112 (gh.cells (gh.mk (oY r kA kC cA cC bA bC slA slC drA drC heA heC) (bp.mk tA tN tC) (Value.map (some gs))))).ro,(iP iV gs (bW ep m)).ro,(iP iV AA (bW vB y))]) (fun _ (_:Unit)=>False) (fun _ _=>[]) [4,5,6,7,8,9,10] [1,0,2,3] nv rfl rfl (He r kA kC cA cC bA bC slA slC drA drC heA heC tA tN tC gs gw m i Z c (by exact hb)) rfl rfl rfl (by exact Mn (K.yX fun k=>by omega)) (by simp only [List.forall_mem_cons,List.not_mem_nil,false_imp_iff,implies_true,and_true]; exact ⟨⟨_,sm,(dT (bU _))⟩,⟨_,sm,(dT (bU _))⟩,⟨_,sm,(bU _)⟩,⟨_,sm,(bU _)⟩⟩) (by rintro k x k2 ⟨n,_,rfl,_⟩; rfl) rfl (aT rfl) ?_ ?_ (fun _ _ _ h=>h.elim) (fun _ _ h=>h.elim)
 rotate_left 1
 ·rintro Lk k nw EQ g
  have T:=g
  try dsimp only
  refine aF<|KK A6<|aj fun _ C2=>WS fun _ C3=>rP 1 [] (mc 6 U mn) ?_
  refine u6 11 U U Ct U U fun JN=>?_
  try dsimp only
  refine RK C3<|ax ?_
  have A:(∀ p∈nw,p∈nw)∧(ju nv (fun u=>(1≤u∧u≤(m.length:Int))∧ ¬ (vr m i k u∧u ∉ nw.map (·.1)))):=by exact ⟨fun p hp=>hp,K.yX fun u=>⟨fun q=>⟨I,fun z=>z.2 ((T.2 u).2 z.1)⟩,fun q=>by omega⟩⟩
  refine bJ (ι:={z:qW×qW // (∀ p∈z.1,p∈nw)∧(ju z.2 (fun u=>(1≤u∧u≤(m.length:Int))∧ ¬ (vr m i k u∧u ∉ z.1.map (·.1))))}) [7,68] [0,1,2,9,10] U U (fun z=>[]) (fun z=>[(iP iV G (bW vB z.1.2)),(zE iV JN AA (bW vB nw) (bW vB z.1.1) none)]) (fun _=>rfl) (fun _=>rfl) (fun z=>z.1.1.length) ⟨(nw,nv),A⟩ (dI.nil _) (aI [0,1,2,9,10,5,11]) ?_
  clear A
  rintro ⟨⟨left,rk⟩,⟨AB,J⟩⟩ J55 A0
  try dsimp only at AB J
  try dsimp only
  refine WS fun _ X=>sS (eZ qy).inj (f:=Value.bool) 6 U U U U (fun GF=>?_) (fun u v Eq K5=>?_)
  rotate_left 1
  ·try dsimp only
   refine bk 1 U<|RK X<|aj fun _ Do=>aQ U<|WK Do<|ax<|WS fun _ D2=>rS (SX (th 6 U U U) U U)<|bk 2 U<|RK D2<|ak<|rP 2 [] mn ?_
   refine qf (kV:=iV) (x:=u) (C':=[_,_,_,_,_,(iP iV G (bW vB (cH rk u))),_]) 5 U U U U Ct (eZ qy) U (ml _ _ _).symm U<|aB<|aF<|ij 6 U wR U ?_
   refine aU (A0 ⟨((cH left u),(cH rk u)),⟨gp AB,Ns AB T Eq J⟩⟩ _ _ _ U (fh Eq) (aT U) (aI [0,1,2,3,4,5,6]))
  refine rP 1 [] mn ?_
  refine RK X<|aj fun _ J8=>aZ U<|bB<|ab<|ab<|ay<|KK C2<|WS fun _ Di=>?_
  have FS:ju rk (fun u=>(1≤u∧u≤(m.length:Int))∧ ¬ vr m i k u):=J.yX fun u=>⟨fun q=>⟨q.1,fun z=>q.2 ⟨z,by rw [GF]; simp⟩⟩,fun q=>⟨q.1,fun z=>q.2 z.1⟩⟩
  have Y:dE (rk.map (·.1))=(d_ m i (aD m i)):=Fl hi EQ FS
  have LA:rk.length≤m.length:=Mf FS fun k q=>q.1
  have IO:rk.length=(d_ m i (aD m i)).length:=by rw [← Y]; simp
  refine rP 1 [] mn ?_
  refine cX (Pe G) (aJ) U fun Fd KS=>?_
  try dsimp only
  refine cX (Hu rk G Fd I) (bo [6,0]) U fun J2 K0=>?_
  obtain ⟨o,AC⟩:=J2
  try dsimp only
  rw [Y]
  refine rP 1 [] mn ?_
  refine RK Di<|av<|hQ _ _ _ (o4 2 U U<|iu (vs:=[(vS o rk.length AC)]) ⟨U,trivial⟩ fun w hs=>Ke (o,AC) [0] ?_ ?_ U U U hs)
  ·(rw [← IO]; rfl)
  ·trivial
 rintro k x k2 nw l ra rb S w1 K26 Qr27 La hx e A8 d JO J3
 obtain ⟨n,K8,rfl,rfl⟩:=hx
 have T:=e
 try dsimp only
 refine ak<|rP 1 [] mn ?_
 refine aB<|aU (A8 _ _ ?_)
 refine ax<|WS fun _ A9=>bk 2 U<|RK A9<|aj fun _ BF=>WS fun _ Bb=>fP 1 [] (mc 4 U mn) U<|rS (SX (bO U U) U U)<|rP 2 [] (mr 5 U mn) ?_
 refine j4 (kV:=iV) (m:=bW ep m) 6 U U oy U ⟨U,fun h=>h⟩ (by exact lF 6 U) U fun In=>?_
 try dsimp only
 refine RK Bb<|ax ?_
 have A:((1:Int)+(ji m i n:Int)=1+(ji m i n:Int))∧((1:Int)+(kG m i n:Int)=1+(kG m i n:Int))∧(∀ p∈m,p∈m)∧(1≤(1:Int)∧1≤(1:Int)):=by exact ⟨rfl,rfl,fun p hp=>hp,I⟩
 refine bJ (ι:={z:g8×Int×Int // (z.2.1+(ji z.1 i n:Int)=1+(ji m i n:Int))∧(z.2.2+(kG z.1 i n:Int)=1+(kG m i n:Int))∧(∀ p∈z.1,p∈m)∧(1≤z.2.1∧1≤z.2.2)}) [2,3,5,7,8,38] [1,2,3,4,5,6,7,8] U U (fun z=>[(9,(vI z.1.2.1)),(10,(vI z.1.2.2))]) (fun z=>[(zm iV In gs (bW ep m) (bW ep z.1.1) none)]) (fun _=>rfl) (fun _=>rfl) (fun z=>z.1.1.length) ⟨(m,(1:Int),(1:Int)),A⟩ (aT U) (aI [1,2,3,4,5,6,7,8,0]) ?_
 clear A
 rintro ⟨⟨left,s,t⟩,⟨C,D,B,R⟩⟩ J33 L
 try dsimp only at C D B R
 try dsimp only
 have IR:=GU (m:=m) (i:=i) (n:=n)
 have Id:=JB (m:=m) (i:=i) (n:=n)
 refine WS fun _ V=>jB (eZ qy).inj (f:=ep) 8 U U U U (fun P=>?_) (fun x y hm hn=>?_)
 ·refine bk 1 U<|RK V<|aj fun _ J7=>aZ U<|bB<|ab<|ab<|ay<|KK BF<|WS fun _ Bg=>rP 2 [] mn ?_
  refine RK Bg<|ax ?_
  have A:(s≤s∧(s≤t+1∨s=s))∧(ju nw (fun u=>vr m i k u∧ ¬ (s≤u∧u<s))):=by exact ⟨⟨Int.le_refl _,.inr rfl⟩,T.yX fun u=>⟨fun q=>⟨q,fun z=>by omega⟩,fun q=>q.1⟩⟩
  refine bJ (ι:={z:Int×qW // (s≤z.1∧(z.1≤t+1∨z.1=s))∧(ju z.2 (fun u=>vr m i k u∧ ¬ (s≤u∧u<z.1)))}) [2,3,5,7,8,9,10] [0,1,2,3,4,5,6,8] U U (fun z=>[(13,(vI z.1.1))]) (fun z=>[(iP iV AA (bW vB z.1.2))]) (fun _=>rfl) (fun _=>rfl) (fun z=>(t+1-z.1.1).toNat) ⟨(s,nw),A⟩ (aT U) (aI [0,1,2,3,4,5,6,8,7]) ?_
  clear A
  rintro ⟨⟨q,n2⟩,⟨N,H⟩⟩ J37 AO
  try dsimp only at N H
  try dsimp only
  have IR:=GU (m:=m) (i:=i) (n:=n)
  have Id:=JB (m:=m) (i:=i) (n:=n)
  have LE:s=1+(ji m i n:Int):=by rw [P] at C; simp only [zg] at C; omega
  have LT:t=1+(kG m i n:Int):=by rw [P] at D; simp only [B0] at D; omega
  refine aj fun _ Bs=>WS fun _ B3=>rP 3 [] mn ?_
  refine RK B3<|bR U (aN fun GE=>?_) (aO fun GE=>?_)
  ·refine bB<|ab<|ab<|ay<|aF ?_
   exact d n2 _ _ (by exact Jf (a:=s) (b:=t) (by rw [P,zg] at C; omega) (by rw [P,B0] at D; omega) (H.yX fun u=>⟨fun z=>⟨z.1,fun w=>z.2 I⟩,fun z=>⟨z.1,fun w=>z.2 I⟩⟩)) (aI [0,1,2,3,4,5,6,8])
  refine WK Bs<|aj fun _ B7=>ax<|ak<|fP 2 [] (mc 2 U mn) U<|qf (kV:=iV) (x:=q) (C':=[_,_,_,_,_,_,_,_,(iP iV AA (bW vB (cH n2 q)))]) 8 U U U U Ct (eZ qy) U (ml _ _ _).symm U<|aB<|aF<|KK B7<|ak<|rP 3 [] mn ?_
  refine aB ?_
  refine aU (AO ⟨((q+1),(cH n2 q)),⟨I,Em N.1 H⟩⟩ _ _ _ U dso (aT U) (aI [0,1,2,3,4,5,6,7,8]))
 try dsimp only
 refine bk 1 U<|RK V<|aj fun _ B9=>aQ U<|WK B9<|ax<|WS fun _ Ci=>rS (SX (jD 8 U U U) U U)<|bk 2 U<|AL U dA fun K4=>bk 1 U<|gd U cz U<|RK Ci<|aj fun _ Ck=>WS fun _ Cp=>rP 3 [] (mc 4 U mn) ?_
 refine RK Cp<|cP U (aO fun E=>?_) (aN fun E=>?_)
 ·refine bB<|ab<|ay<|ij 9 U fQ U ?_
  refine aU (L ⟨((cH left x),s,t),(by refine ⟨?_,?_,gp B,?_⟩<;>dsimp only <;>first|omega|(rw [← IT hn hm E]; omega)|(rw [← Ka hn hm E]; omega))⟩ _ _ _ U (fh hm) (aT U) (aI [1,2,3,4,5,6,7,8,9]))
 refine WK Ck<|aj fun _ W=>WS fun _ Cx=>rP 4 [] (mc 0 U mn) ?_
 refine RK Cx<|bR U (aN fun O=>?_) (aO fun O=>?_)
 ·refine WK W<|WS fun _ C1=>rP 4 [] (mc 0 U mn) ?_
  refine RK C1<|bR U (aN fun M=>?_) (aO fun M=>?_)
  ·refine ct<|aF<|ij 9 U fQ U ?_
   refine aU (L ⟨((cH left x),s,t),(by refine ⟨?_,?_,gp B,?_⟩<;>dsimp only <;>first|omega|(have:=C_ hn hm E O; omega)|(have:=F_ hn hm E M; omega))⟩ _ _ _ U (fh hm) (aT U) (aI [1,2,3,4,5,6,7,8,9]))
  refine ak<|rP 3 [] mn ?_
  refine aB<|aF<|ij 9 U fQ U ?_
  refine aU (L ⟨((cH left x),s,(t+1)),(by refine ⟨?_,?_,gp B,?_⟩<;>dsimp only <;>first|omega|(have:=C_ hn hm E O; omega)|(have:=Du hn hm E M; omega))⟩ _ _ _ U (fh hm) (aT U) (aI [1,2,3,4,5,6,7,8,9]))
 refine ak<|bk 3 U<|RK W<|WS fun _ C0=>rP 4 [] (mc 0 U mn) ?_
 refine RK C0<|bR U (aN fun M=>?_) (aO fun M=>?_)
 ·refine ct<|aF<|ij 9 U fQ U ?_
  refine aU (L ⟨((cH left x),(s+1),t),(by refine ⟨?_,?_,gp B,?_⟩<;>dsimp only <;>first|omega|(have:=zh hn hm E O; omega)|(have:=F_ hn hm E M; omega))⟩ _ _ _ U (fh hm) (aT U) (aI [1,2,3,4,5,6,7,8,9]))
 refine ak<|rP 3 [] mn ?_
 refine aB<|aF<|ij 9 U fQ U ?_
 refine aU (L ⟨((cH left x),(s+1),(t+1)),(by refine ⟨?_,?_,gp B,?_⟩<;>dsimp only <;>first|omega|(have:=zh hn hm E O; omega)|(have:=Du hn hm E M; omega))⟩ _ _ _ U (fh hm) (aT U) (aI [1,2,3,4,5,6,7,8,9]))
end
section
open Go.RowKit
theorem Ar (i:Int) (r:cj) (kA:OA) (kC:Nat) (az:List RA) (cA:OA) (cC:Nat) (bA:OA) (bC:Nat) (slA:OA) (slC:Nat) (drA:OA) (drC:Nat) (ha:List cb) (heA:OA) (heC:Nat) (hin:fw r az ha):
 lB Tryz.prog 16 [(vA (cu.cells (oY r kA kC cA cC bA bC slA slC drA drC heA heC))),(vI i)] [(rd fx 3 2 eC),(rd kA r.an.aL.length 9 (r.an.aL.map al.cells)),(rd cA r.an.ai.length 2 (List.zipWith ar.cells r.an.ai az)),(fp (aR ar.ia r.an.ai az)),(rd bA r.an.ag.length 4 (r.an.ag.map bE.cells)),(rd slA r.aM.length 1 (r.aM.map iC)),(rd drA r.bL.length 1 (r.bL.map iC)),(rd heA r.ao.length 1 (List.zipWith cw r.ao ha)),(fp (aR iI r.ao ha))] (fun (x:(OA)×Nat)=>(vT [(vS x.1 ((gS r i).length) x.2),(vI (kM r i))])) (fun (x:(OA)×Nat)=>True) (fun (x:(OA)×Nat)=>[(own x.1 x.2 3 1 ((gS r i).map iC))]):=by
 have V:=hin.line
 have k:=hin.iU
 have l:=hin.has
 have c:=hin.iY
 have Z:=hin.draw
 have d:=dQ (r:=r)
 refine dh kr Tryz.func16 U U fun o Q hQ hN=>?_
 try dsimp only
 refine WS fun _ AA=>fZ U fun n=>bk 2 U<|RK AA<|WS fun _ G=>rP 2 [] (mc 0 U mn) ?_
 refine dj (xs:=[.tmp 11]) (cs:=[(vI i)]) U cK jA U U U U (by simp [Value.cells]) U U fun h=>cX (z9 r kA kC az cA cC bA bC slA slC drA drC ha heA heC i h hin) (bo [2,3,4,5,6,7,8,9,10,0]) U fun m L=>?_
 obtain ⟨M,j,T,S,N,O,Bf,f,g⟩:=m
 cases M
 ·obtain ⟨H,he⟩:=L.2 rfl
  try dsimp only at H he
  subst H
  try dsimp only [cond_true,cond_false,List.cons_append,List.nil_append]
  refine bk 7 U<|RK G<|aj fun _ Y=>WS fun _ B=>rP 2 [] mn ?_
  refine RK B<|bR U (bu fun A=>?_) (bw fun A=>?_)
  ·exact absurd A he
  refine WS fun _ C=>dY 3 1 ?_
  rw [show (own none 0 3 1 ([]:List (List Value)))=own none 0 3 1 ((gS r i).map iC) from by rw [Af he]; rfl]
  refine bk 1 U<|rP 2 [] mn ?_
  refine RK C<|av ?_
  refine LX hQ (none,0) [0] [] mn U U U ?_ ?_
  ·(rw [Af he]; rfl)
  ·trivial
 obtain ⟨he,W⟩:=L.1 rfl
 try dsimp only [cond_true,cond_false,List.cons_append,List.nil_append]
 try dsimp only at W
 obtain ⟨J,a,AB⟩:=zT he
 have K:=oZ J
 have b:=pD J
 refine bk 7 U<|RK G<|aj fun _ D=>WS fun _ E=>bk 1 U<|rS (SX (cd (r:= .bool false) U U U og) U U)<|RK E<|aZ U<|WK D<|WS fun _ F=>rP 2 [] mn ?_
 refine cX (AR r kA kC cA cC bA bC slA slC drA drC heA heC N ((cT r).length) O S T (aG r) i (by exact K) (by exact AB) I) (bo [0,3]) U fun X e=>?_
 obtain ⟨P,R⟩:=X
 try dsimp only
 rw [show (d_ (aG r) i (aD (aG r) i))=gS r i from (Hd he).symm]
 refine rP 2 [] mn ?_
 refine RK F<|av ?_
 refine LX hQ (P,R) [0] [] mn U U U ?_ ?_
 ·(rw [he]; rfl)
 ·trivial
theorem Ma (a b:Int) (r:cj) (kA:OA) (kC:Nat) (az:List RA) (cA:OA) (cC:Nat) (bA:OA) (bC:Nat) (slA:OA) (slC:Nat) (drA:OA) (drC:Nat) (ha:List cb) (heA:OA) (heC:Nat) (hin:fw r az ha):
 eB Tryz.prog 27 [(vA (cu.cells (oY r kA kC cA cC bA bC slA slC drA drC heA heC))),(vI a),(vI b)] [(rd fx 3 2 eC),(rd kA r.an.aL.length 9 (r.an.aL.map al.cells)),(rd cA r.an.ai.length 2 (List.zipWith ar.cells r.an.ai az)),(fp (aR ar.ia r.an.ai az)),(rd bA r.an.ag.length 4 (r.an.ag.map bE.cells)),(rd slA r.aM.length 1 (r.aM.map iC)),(rd drA r.bL.length 1 (r.bL.map iC)),(rd heA r.ao.length 1 (List.zipWith cw r.ao ha)),(fp (aR iI r.ao ha))] (vT [(Value.int .u8 (wg r a b)),(vI (nP r a b))]):=by
 have M:=hin.line
 have k:=hin.iU
 have l:=hin.has
 have V:=hin.iY
 have R:=hin.draw
 have W:=dQ (r:=r)
 refine bG kr Tryz.func27 U U fun p Q hQ hN=>?_
 try dsimp only
 refine WS fun _ L=>fZ U fun o=>bk 2 U<|RK L<|WS fun _ H=>rP 3 [] (mc 0 U mn) ?_
 refine dj (xs:=[.tmp 13,.tmp 14]) (cs:=[(vI a),(vI b)]) U cK jA U U U U (by simp [Value.cells]) U U fun d=>cX (zJ r kA kC az cA cC bA bC slA slC drA drC ha heA heC a b d hin) (bo [2,3,4,5,6,7,8,9,10,0]) U fun m J=>?_
 obtain ⟨K,e,g,f,Z,c,Bf,X,Y⟩:=m
 cases K
 ·obtain ⟨AB,he⟩:=J.2 rfl
  try dsimp only at AB he
  subst AB
  try dsimp only [cond_true,cond_false,List.cons_append,List.nil_append]
  refine bk 7 U<|RK H<|aj fun _ P=>WS fun _ C=>rP 2 [] mn ?_
  refine RK C<|bR U (bu fun B=>?_) (bw fun B=>?_)
  ·exact absurd B he
  refine WS fun _ D=>rP 3 [] mn ?_
  refine RK D<|av<|Q2 hQ U U U U ?_
  (rw [show wg r a b=0 from if_neg he]; done)
 obtain ⟨he,O⟩:=J.1 rfl
 try dsimp only [cond_true,cond_false,List.cons_append,List.nil_append]
 try dsimp only at O
 obtain ⟨N,S,T,AA⟩:=zw he
 have A:=oZ N
 have h:=g_ (i:=a) A
 have j:=g_ (i:=b) A
 refine bk 7 U<|RK H<|aj fun _ E=>WS fun _ F=>bk 1 U<|rS (SX (cd (r:= .bool false) U U U og) U U)<|RK F<|aZ U<|WK E<|aj fun _ G=>dM cE 21 kr<|dP 1 [] mn ?_
 refine dS (IA 0 U (ae (n:=2) 4 U sq) hU dc U I) ?_
 refine dS (lZ ((0*2)+1) U (ae (n:=([(aD (aG r) a),(aD (aG r) b)]).length) 4 U sm) (Nat.succ_pos _) fc U)<|dS (gl 0 1 (vI ((aD (aG r) a).Hi)) U cp (ae (n:=([(aD (aG r) a),(aD (aG r) b)]).length) 4 U sm) (show ([(aD (aG r) a),(aD (aG r) b)].map aa.cells)[0]? =some [(vI ((aD (aG r) a).Lo)),(vI ((aD (aG r) a).Hi))] from U) U dc U)<|dP 1 [] mn ?_
 refine dS (IA 1 U (ae (n:=2) 4 U sq) hU dc U I) ?_
 refine dS (lZ (1*2) U (ae (n:=([(aD (aG r) a),(aD (aG r) b)]).length) 4 U sm) (Nat.succ_pos _) fc U)<|dS (gl 1 0 (vI ((aD (aG r) b).Lo)) U cp (ae (n:=([(aD (aG r) a),(aD (aG r) b)]).length) 4 U sm) (show ([(aD (aG r) a),(aD (aG r) b)].map aa.cells)[1]? =some [(vI ((aD (aG r) b).Lo)),(vI ((aD (aG r) b).Hi))] from U) U dc U)<|dP 2 [] mn ?_
 refine dS (IA 0 U (ae (n:=2) 4 U sq) hU dc U I) ?_
 refine dS (lZ (0*2) U (ae (n:=([(aD (aG r) a),(aD (aG r) b)]).length) 4 U sm) (Nat.succ_pos _) fc U)<|dS (gl 0 0 (vI ((aD (aG r) a).Lo)) U cp (ae (n:=([(aD (aG r) a),(aD (aG r) b)]).length) 4 U sm) (show ([(aD (aG r) a),(aD (aG r) b)].map aa.cells)[0]? =some [(vI ((aD (aG r) a).Lo)),(vI ((aD (aG r) a).Hi))] from U) U dc U)<|dP 1 [] mn ?_
 refine dS (IA 1 U (ae (n:=2) 4 U sq) hU dc U I) ?_
 refine dS (lZ ((1*2)+1) U (ae (n:=([(aD (aG r) a),(aD (aG r) b)]).length) 4 U sm) (Nat.succ_pos _) fc U)<|dS (gl 1 1 (vI ((aD (aG r) b).Hi)) U cp (ae (n:=([(aD (aG r) a),(aD (aG r) b)]).length) 4 U sm) (show ([(aD (aG r) a),(aD (aG r) b)].map aa.cells)[1]? =some [(vI ((aD (aG r) b).Lo)),(vI ((aD (aG r) b).Hi))] from U) U dc U)<|mq 1 U<|dS (CL (xH (decide (((aD (aG r) a).Hi)<((aD (aG r) b).Lo))) (decide (((aD (aG r) a).Lo)<((aD (aG r) b).Hi)))) (aJ) U)<|dP 2 [] mn ?_
 refine cR<|RK G<|av<|Q2 hQ U U U U ?_
 (rw [he,show wg r a b=Co _ _ from if_pos he,← OP])
theorem Rq (a b:Int) (r:cj) (kA:OA) (kC:Nat) (az:List RA) (cA:OA) (cC:Nat) (bA:OA) (bC:Nat) (slA:OA) (slC:Nat) (drA:OA) (drC:Nat) (ha:List cb) (heA:OA) (heC:Nat) (hin:fw r az ha):
 eB Tryz.prog 71 [(vA (cu.cells (oY r kA kC cA cC bA bC slA slC drA drC heA heC))),(vI a),(vI b)] [(rd fx 3 2 eC),(rd kA r.an.aL.length 9 (r.an.aL.map al.cells)),(rd cA r.an.ai.length 2 (List.zipWith ar.cells r.an.ai az)),(fp (aR ar.ia r.an.ai az)),(rd bA r.an.ag.length 4 (r.an.ag.map bE.cells)),(rd slA r.aM.length 1 (r.aM.map iC)),(rd drA r.bL.length 1 (r.bL.map iC)),(rd heA r.ao.length 1 (List.zipWith cw r.ao ha)),(fp (aR iI r.ao ha))] (vT [(Value.int .u8 (qF r a b)),(vI (nP r a b))]):=by
 have T:=hin.line
 have q:=hin.iU
 have s:=hin.has
 have d:=hin.iY
 have X:=hin.draw
 have e:=dQ (r:=r)
 refine bG kr Tryz.func71 U U fun w Q hQ hN=>?_
 try dsimp only
 refine WS fun _ P=>fZ U fun v=>bk 2 U<|RK P<|WS fun _ J=>rP 3 [] (mc 0 U mn) ?_
 refine dj (xs:=[.tmp 14,.tmp 15]) (cs:=[(vI a),(vI b)]) U cK jA U U U U (by simp [Value.cells]) U U fun l=>cX (zJ r kA kC az cA cC bA bC slA slC drA drC ha heA heC a b l hin) (bo [2,3,4,5,6,7,8,9,10,0]) U fun u N=>?_
 obtain ⟨O,m,p,o,h,j,Bf,f,g⟩:=u
 cases O
 ·obtain ⟨M,he⟩:=N.2 rfl
  try dsimp only at M he
  subst M
  try dsimp only [cond_true,cond_false,List.cons_append,List.nil_append]
  refine bk 7 U<|RK J<|aj fun _ W=>WS fun _ E=>rP 2 [] mn ?_
  refine RK E<|bR U (bu fun D=>?_) (bw fun D=>?_)
  ·exact absurd D he
  refine WS fun _ F=>rP 3 [] mn ?_
  refine RK F<|av<|Q2 hQ U U U U ?_
  (rw [show qF r a b=0 from if_neg he]; done)
 obtain ⟨he,V⟩:=N.1 rfl
 try dsimp only [cond_true,cond_false,List.cons_append,List.nil_append]
 try dsimp only at V
 obtain ⟨AA,Y,Z,c⟩:=zw he
 have B:=oZ AA
 have R:=g_ (i:=a) B
 have S:=g_ (i:=b) B
 refine bk 7 U<|RK J<|aj fun _ G=>WS fun _ H=>rP 1 [] mn ?_
 refine rS (SX (cd (r:= .bool false) U U U og) U U)<|RK H<|aZ U<|WK G<|aj fun _ AB=>dK cE [19,20] [] [] [0,1,2,3,4,5,6,7,8,9,10,11,12,13,14,15] [] U U U U U<|eS U (MV U) ?_
 refine eS U (IA 0 U (ae (n:=2) 4 U sq) hU dc U I) ?_
 refine eS U (lZ (0*2) U (ae (n:=([(aD (aG r) a),(aD (aG r) b)]).length) 4 U sm) (Nat.succ_pos _) fc U)<|eS U (gl 0 0 (vI ((aD (aG r) a).Lo)) U cp (ae (n:=([(aD (aG r) a),(aD (aG r) b)]).length) 4 U sm) (show ([(aD (aG r) a),(aD (aG r) b)].map aa.cells)[0]? =some [(vI ((aD (aG r) a).Lo)),(vI ((aD (aG r) a).Hi))] from U) U dc U)<|eS U (MV U) ?_
 refine eS U (IA 1 U (ae (n:=2) 4 U sq) hU dc U I) ?_
 refine eS U (lZ (1*2) U (ae (n:=([(aD (aG r) a),(aD (aG r) b)]).length) 4 U sm) (Nat.succ_pos _) fc U)<|eS U (gl 1 0 (vI ((aD (aG r) b).Lo)) U cp (ae (n:=([(aD (aG r) a),(aD (aG r) b)]).length) 4 U sm) (show ([(aD (aG r) a),(aD (aG r) b)].map aa.cells)[1]? =some [(vI ((aD (aG r) b).Lo)),(vI ((aD (aG r) b).Hi))] from U) U dc U)<|eS U (MX U)<|eS U (MV U) ?_
 refine eS U (IA 0 U (ae (n:=2) 4 U sq) hU dc U I) ?_
 refine eS U (lZ ((0*2)+1) U (ae (n:=([(aD (aG r) a),(aD (aG r) b)]).length) 4 U sm) (Nat.succ_pos _) fc U)<|eS U (gl 0 1 (vI ((aD (aG r) a).Hi)) U cp (ae (n:=([(aD (aG r) a),(aD (aG r) b)]).length) 4 U sm) (show ([(aD (aG r) a),(aD (aG r) b)].map aa.cells)[0]? =some [(vI ((aD (aG r) a).Lo)),(vI ((aD (aG r) a).Hi))] from U) U dc U)<|eS U (MV U) ?_
 refine eS U (IA 1 U (ae (n:=2) 4 U sq) hU dc U I) ?_
 refine eS U (lZ ((1*2)+1) U (ae (n:=([(aD (aG r) a),(aD (aG r) b)]).length) 4 U sm) (Nat.succ_pos _) fc U)<|eS U (gl 1 1 (vI ((aD (aG r) b).Hi)) U cp (ae (n:=([(aD (aG r) a),(aD (aG r) b)]).length) 4 U sm) (show ([(aD (aG r) a),(aD (aG r) b)].map aa.cells)[1]? =some [(vI ((aD (aG r) b).Lo)),(vI ((aD (aG r) b).Hi))] from U) U dc U)<|eS U (MN U)<|eS U (SX (bg (xs:=[(0,.tmp 32),(1,.tmp 41)]) (cs:=(aa.cells (aa.mk (max ((aD (aG r) a).Lo) ((aD (aG r) b).Lo)) (min ((aD (aG r) a).Hi) ((aD (aG r) b).Hi))))) U U (bh gJ U)) U U)<|eU U<|cf U fun T22 K=>AL U dA fun k=>aB (K _ _ (aI [1,2,3,4,5,6,7,8,9,10,11,12,13,14,15,16]) ?_)
 refine cf U fun T24 L=>gd U cz U<|aB (L _ _ (aI [1,2,3,4,5,6,7,8,9,10,11,12,13,14,15,16]) ?_)
 refine fF U<|KK AB<|aj fun _ A=>dM cE 22 kr<|dP 1 [] mn ?_
 refine dS (IA 0 U (ae (n:=2) 5 U sq) hU dc U I) ?_
 refine dS (oE 0 0 (aa.cells (aD (aG r) a)) U cp (ae (n:=([(aD (aG r) a),(aD (aG r) b)]).length) 5 U sm) (show ([(aD (aG r) a),(aD (aG r) b)].map aa.cells)[0]? =some [(vI ((aD (aG r) a).Lo)),(vI ((aD (aG r) a).Hi))] from U) U dc U U)<|dP 1 [] mn ?_
 refine dS (IA 1 U (ae (n:=2) 5 U sq) hU dc U I) ?_
 refine dS (oE 1 0 (aa.cells (aD (aG r) b)) U cp (ae (n:=([(aD (aG r) a),(aD (aG r) b)]).length) 5 U sm) (show ([(aD (aG r) a),(aD (aG r) b)].map aa.cells)[1]? =some [(vI ((aD (aG r) b).Lo)),(vI ((aD (aG r) b).Hi))] from U) U dc U U)<|dS (BI U (uD _ _ (aD (aG r) a) (aD (aG r) b)))<|dP 1 [] mn ?_
 refine jN (t:=50) U (aN fun C=>?_) (aO fun C=>?_)
 ·refine m_ 11 [] (mc 0 U mn) U<|dS (CL (xH false (decide ((max ((aD (aG r) a).Lo) ((aD (aG r) b).Lo))≤(min ((aD (aG r) a).Hi) ((aD (aG r) b).Hi))))) (aJ) U)<|dP 2 [] mn ?_
  refine cR<|RK A<|av<|Q2 hQ U U U U ?_
  (rw [he,show qF r a b=sD _ _ from if_pos he,← Pq R.2.1 S.2.1 C]; done)
 refine m_ 11 [] (mc 0 U mn) U<|dS (CL (xH (decide ((max ((aD (aG r) a).Lo) ((aD (aG r) b).Lo))=(min ((aD (aG r) a).Hi) ((aD (aG r) b).Hi)))) (decide ((max ((aD (aG r) a).Lo) ((aD (aG r) b).Lo))≤(min ((aD (aG r) a).Hi) ((aD (aG r) b).Hi))))) (aJ) U)<|dP 2 [] mn ?_
 refine cR<|RK A<|av<|Q2 hQ U U U U ?_
 (rw [he,show qF r a b=sD _ _ from if_pos he,← LK C]; done)
end
end Go.Proofs.YtlajhejcfcoddaaGreatDoor
