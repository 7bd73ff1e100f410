/-
 The statement raceRide_said, part 6 of 7: B5, B6, V2, V5, V6, S1, Wh1, V4, V8, Wh2, Bits, Rc1, Rs5, CloneM, Rs1, S2, Rs2, MapD, Rc2, Rc3, Rc4, Rs3, Rs4, Rs6, Rs7, Rs8, RkB, RaB, RtB, Rp0.
 Conditions: none.
-/
import Derived.Test.YtlajhejcfcoddaaGreatDoorTz1
import Derived.Test.YtlajhejcfcoddaaGreatDoorTz2
import Derived.Test.YtlajhejcfcoddaaGreatDoorTz3
import Derived.Test.YtlajhejcfcoddaaGreatDoorTz4
import Derived.Test.YtlajhejcfcoddaaGreatDoorTz5
import Derived.KernelRfl
import Derived.MapKept
import Derived.Laws.Externs
namespace Go.Proofs.YtlajhejcfcoddaaGreatDoor
set_option maxRecDepth 100000
set_option maxHeartbeats 4000000
set_option linter.unusedVariables false
section
open Go.RowKit
theorem KX (l:bo) (kA:OA) (kC:Nat) (az:List RA) (cA:OA) (cC:Nat) (bA:OA) (bC:Nat) (hin:eA l az):
 dR Tryz.prog 153 [(vA (cu.cells (ko l kA kC cA cC bA bC)))] [(rd kA l.aN.length 9 (l.aN.map ai.cells)),(rd cA l.ak.length 2 (List.zipWith av.cells l.ak az)),(eY (aX av.ja l.ak az)),(rd bA l.ab.length 4 (l.ab.map bM.cells))] (vB (decide (gE l))):=by
 have R:=hin.ux
 have P:=hin.s_
 have N:=hin.o4
 have O:=hin.tW
 refine bE kr Tryz.func153 U U fun T Q hQ hN=>?_
 try dsimp only
 refine WS fun _ G=>fY U fun S=>bh 1 U<|RK G<|WS fun _ A=>rP 2 [] (mc 0 U I) ?_
 refine cH (xs:=[.tmp 4]) (cs:=[(vI l.gN)]) U cy hE U U U U (by simp [Value.cells]) U U fun H=>?_
 refine rS (CL (dR.eq (gf 1 5000 ([l.gN]) (some ⟨H,0,none⟩) 1 (by (simp; done))) cp) (al (aV 0 U U (by simp [bu]) U)<|aD) U) ?_
 refine rP 1 [] I ?_
 refine cb (t:=7) U (aR fun K=>?_) (aQ fun K=>?_)
 ·refine rP 36 [] I ?_
  refine RK A<|ao<|Q1 hQ U U U ?_
  exact cB (cm (by unfold gE; omega)).symm
 refine rP 3 [] (mc 1 U I) ?_
 refine cH (xs:=[.tmp 10]) (cs:=[(vI (l.ak.length:Int))]) U cy hE U U U U (by simp [Value.cells]) U U fun AA=>?_
 refine rS (CL (dR.eq (gf 1 4 ([(l.ak.length:Int)]) (some ⟨AA,0,none⟩) 1 (by (simp; done))) cp) (al (aV 0 U U (by simp [bu]) U)<|aD) U) ?_
 refine rP 2 [] I ?_
 refine cb (t:=14) U (aR fun L=>?_) (aQ fun L=>?_)
 ·refine rP 29 [] I ?_
  refine RK A<|ao<|Q1 hQ U U U ?_
  exact cB (cm (by unfold gE; omega)).symm
 refine rP 3 [] (mc 2 U I) ?_
 refine cH (xs:=[.tmp 17]) (cs:=[(vI (l.ab.length:Int))]) U cy hE U U U U (by simp [Value.cells]) U U fun J=>?_
 refine rS (CL (dR.eq (gf 1 6 ([(l.ab.length:Int)]) (some ⟨J,0,none⟩) 1 (by (simp; done))) cp) (al (aV 0 U U (by simp [bu]) U)<|aD) U) ?_
 refine rP 2 [] I ?_
 refine cb (t:=21) U (aR fun M=>?_) (aQ fun M=>?_)
 ·refine rP 22 [] I ?_
  refine RK A<|ao<|Q1 hQ U U U ?_
  exact cB (cm (by unfold gE; omega)).symm
 refine rP 6 [] (mc 3 U I) ?_
 refine cH (xs:=[.tmp 27]) (cs:=[(vI l.bS)]) U cy hE U U U U (by simp [Value.cells]) U U fun B=>?_
 refine rS (CL (dR.eq (gf 0 ((l.ab.length:Int)-1) ([l.bS]) (some ⟨B,0,none⟩) 1 (by (simp; done))) cp) (al (aV 0 U U (by simp [bu]) U)<|aD) U) ?_
 refine rP 2 [] I ?_
 refine cb (t:=31) U (aR fun E=>?_) (aQ fun E=>?_)
 ·refine rP 12 [] I ?_
  refine RK A<|ao<|Q1 hQ U U U ?_
  exact cB (cm (by unfold gE; omega)).symm
 refine rP 2 [] (mc 4 U I) ?_
 refine cH (xs:=[.tmp 33]) (cs:=[(vI l.e7)]) U cy hE U U U U (by simp [Value.cells]) U U fun C=>?_
 refine rS (CL (dR.eq (gf 0 3 ([l.e7]) (some ⟨C,0,none⟩) 1 (by (simp; done))) cp) (al (aV 0 U U (by simp [bu]) U)<|aD) U) ?_
 refine rP 2 [] I ?_
 refine cb (t:=37) U (aR fun F=>?_) (aQ fun F=>?_)
 ·refine rP 6 [] I ?_
  refine RK A<|ao<|Q1 hQ U U U ?_
  exact cB (cm (by unfold gE; omega)).symm
 refine rP 2 [] (mc 5 U I) ?_
 refine cH (xs:=[.tmp 39]) (cs:=[(vI l.dZ)]) U cy hE U U U U (by simp [Value.cells]) U U fun D=>?_
 refine rS (CL (dR.eq (gf 0 3 ([l.dZ]) (some ⟨D,0,none⟩) 1 (by (simp; done))) cp) (al (aV 0 U U (by simp [bu]) U)<|aD) U) ?_
 refine rP 2 [] I ?_
 refine RK A<|ao<|Q1 hQ U U U ?_
 exact cB (gd.2 (by unfold gE; omega))
theorem Lw (l:bo) (kA:OA) (kC:Nat) (az:List RA) (cA:OA) (cC:Nat) (bA:OA) (bC:Nat) (hin:eA l az):
 dR Tryz.prog 154 [(vA (cu.cells (ko l kA kC cA cC bA bC)))] [(rd kA l.aN.length 9 (l.aN.map ai.cells)),(rd cA l.ak.length 2 (List.zipWith av.cells l.ak az)),(eY (aX av.ja l.ak az)),(rd bA l.ab.length 4 (l.ab.map bM.cells))] (vB (decide (∀ c∈l.ak,eP c))):=by
 have H:=hin.ux
 have G:=hin.s_
 have E:=hin.o4
 have F:=hin.tW
 refine bE kr Tryz.func154 U U fun K Q hQ hN=>?_
 try dsimp only
 refine WS fun _ C=>fY U fun J=>bh 1 U<|RK C<|WS fun _ D=>rP 2 [] (mc 0 U I) ?_
 refine rS (CL (wD l.ak az cA cC (Value.func (.func 156) [].toArray [].toArray) (fun m=>(!(decide (eP m)))) (eY (aX av.ja l.ak az)) (by intro AA m a B A; exact l_ (fi:=[]) (ca:=[]) (M_ l.ak az AA m a (by exact B) (by exact A) (by exact hin.Mi _ _ _ B A))) asm asm) (Jf 2 3 3 U U U U U U) U) ?_
 refine rP 2 [] I ?_
 refine RK D<|ao<|Q1 hQ U U U ?_
 exact cB (by rw [Bool.eq_iff_iff,decide_eq_true_eq]; exact zP)
theorem Lx (b:bM) (l:bo) (kA:OA) (kC:Nat) (az:List RA) (cA:OA) (cC:Nat) (bA:OA) (bC g1:Nat) (hin:eA l az) (htr:cO l.aN=true):
 dR Tryz.prog 160 [(vA (bM.cells b)),(vP g1)] [(rd kA l.aN.length 9 (l.aN.map ai.cells)),(rd cA l.ak.length 2 (List.zipWith av.cells l.ak az)),(eY (aX av.ja l.ak az)),(rd bA l.ab.length 4 (l.ab.map bM.cells)),(bQ g1 28 (cu.cells (ko l kA kC cA cC bA bC)))] (vB (!(decide (iW l b)))):=by
 have J:=hin.ux
 have H:=hin.s_
 have F:=hin.o4
 have G:=hin.tW
 have AA:=hin.side
 refine bE kr Tryz.func160 U U fun M Q hQ hN=>?_
 try dsimp only
 refine WS fun _ C=>fY U fun K=>bh 1 U<|RK C<|WS fun _ D=>bh 1 U<|rS (P_ (bD.cells (bD.mk (bk.mk kA l.aN.length kC))) 5 U ct U U U)<|bh 1 U<|rS (LP (ck.cells b.lu) 0 U ct U U U)<|rS (CL (MP l.aN kA kC b.lu asm asm) (a_ [1]) U)<|bh 3 U<|AL U dk fun L=>fG U cx U<|bh 1 U<|RK D<|WS fun _ B=>rP 3 [] I ?_
 refine cK (t:=16) U (bq fun A=>?_) (bp fun A=>?_)
 ·refine rP 11 [] I ?_
  refine RK B<|ao<|Q1 hQ U U U ?_
  (refine cB ?_; rw [cm (fun h:iW l b=>A ((Ca htr).2 h.1))]; rfl)
 refine rP 6 [0,1] (mr 6 U (mc 1 U I)) ?_
 refine cH (xs:=[.tmp 22]) (cs:=[(vI b.kX)]) U cy hE U U U U (by simp [Value.cells]) U U fun E=>?_
 refine rS (CL (dR.eq (gf 0 ((l.ak.length:Int)-1) ([b.kX]) (some ⟨E,0,none⟩) 1 (by (simp; done))) cp) (al (aV 0 U U (by simp [bu]) U)<|aD) U) ?_
 refine rP 3 [] I ?_
 refine RK B<|ao<|Q1 hQ U U U ?_
 (refine cB ?_; refine congrArg Bool.not (gd.2 ⟨fun h=>⟨(Ca htr).1 A,om,om⟩,fun h=>by have:=h.2; omega⟩))
theorem KF (l:bo) (kA:OA) (kC:Nat) (az:List RA) (cA:OA) (cC:Nat) (bA:OA) (bC:Nat) (hin:eA l az) (htr:cO l.aN=true):
 dR Tryz.prog 158 [(vA (cu.cells (ko l kA kC cA cC bA bC)))] [(rd kA l.aN.length 9 (l.aN.map ai.cells)),(rd cA l.ak.length 2 (List.zipWith av.cells l.ak az)),(eY (aX av.ja l.ak az)),(rd bA l.ab.length 4 (l.ab.map bM.cells))] (vB (decide (∀ b∈l.ab,iW l b))):=by
 have H:=hin.ux
 have G:=hin.s_
 have E:=hin.o4
 have F:=hin.tW
 refine bE kr Tryz.func158 U U fun AA Q hQ hN=>?_
 try dsimp only
 refine WS fun _ B=>fY U fun A=>bh 1 U<|RK B<|WS fun _ C=>rP 2 [] (mc 0 U I) ?_
 refine rS (FU U) ?_
 refine rS (CL (wQ l.ab bA bC (Value.func (.func 160) [].toArray [(vP A)].toArray) (fun D=>(!(decide (iW l D)))) (eY [(rd kA l.aN.length 9 (l.aN.map ai.cells)),(rd cA l.ak.length 2 (List.zipWith av.cells l.ak az)),(eY (aX av.ja l.ak az)),(rd bA l.ab.length 4 (l.ab.map bM.cells)),(bQ A 28 (cu.cells (ko l kA kC cA cC bA bC)))]) (by intro D _; exact l_ (fi:=[]) (ca:=[(vP A)]) (kN (Lx D l kA kC az cA cC bA bC A (by first|assumption|omega) (by first|assumption|omega)) (a_ [0,1,2,3,4]))) asm) (eL 4 U U<|al (kR (a_ [1,2,3,4,0]))<|aD) U) ?_
 refine rP 2 [] I ?_
 refine RK C<|ao<|Q1 hQ U U U ?_
 exact cB (by rw [Bool.eq_iff_iff,decide_eq_true_eq]; exact Dk)
theorem ET (l:bo) (kA:OA) (kC:Nat) (az:List RA) (cA:OA) (cC:Nat) (bA:OA) (bC:Nat) (n:Int) (hin:eA l az) (htr:cO l.aN=true) (hbk: ∀ b∈l.ab,iW l b) (hn:0≤n∧n<(l.ab.length:Int)):
 dR Tryz.prog 96 [(vA (cu.cells (ko l kA kC cA cC bA bC))),(vI n)] [(rd kA l.aN.length 9 (l.aN.map ai.cells)),(rd cA l.ak.length 2 (List.zipWith av.cells l.ak az)),(eY (aX av.ja l.ak az)),(rd bA l.ab.length 4 (l.ab.map bM.cells))] (vI (kp l n.toNat)):=by
 have P:=hin.ux
 have N:=hin.s_
 have L:=hin.o4
 have M:=hin.tW
 have O:=hin.side
 refine bE kr Tryz.func96 U U fun AA Q hQ hN=>?_
 try dsimp only
 refine WS fun _ E=>fY U fun R=>bh 1 U<|RK E<|WS fun _ F=>rP 3 [] (mc 0 U I) ?_
 obtain ⟨x,hx⟩:=aM l.ab ((n).toNat) om
 have J:=bW bM.cells hx
 refine rS (IA ((n).toNat) U (aJ 4 U) tj dc om om)<|rS (pt (((n).toNat)*4) U (aJ 4 U) (Nat.mul_pos om dc) fB U)<|rS (n9 ((n).toNat) 0 (ck.cells x.lu) U ct (aJ 4 U) J U dc U U)<|AL U zd fun S=>fG U GK U<|RK F<|WS fun _ G=>bh 1 U<|rS (LP (bD.cells (bD.mk (bk.mk kA l.aN.length kC))) 1 U ct U U U)<|fr 1 [] (mc 0 U I) U<|rS (CL (MP l.aN kA kC x.lu asm asm) (a_ [2]) U)<|bh 3 U<|AL U dk fun T=>fG U cx U<|bh 1 U<|RK G<|ah fun _ C=>WS fun _ H=>rP 2 [] I ?_
 refine RK H<|bT U (aR fun D=>?_) (aQ fun D=>?_)
 ·refine WK C<|WS fun _ B=>rP 3 [] (mc 0 U I) ?_
  refine RK B<|ao<|Q1 hQ U U U ?_
  (refine congrArg (Value.int .i64) ?_; rw [show n.toNat=0 by omega] at hx ⊢; rw [wa hx,(tY htr (hbk _ (List.mem_of_getElem? hx)).1).2])
 refine ek cE [14] [] [] [1,2,3,4,5,6] [] U U U U U<|eS U (FA 0 U fB U)<|eS U (LP (bD.cells (bD.mk (bk.mk kA l.aN.length kC))) 1 U ct U U U)<|eS U (FA 3 U fB U)<|eS U (L1 (vS bA l.ab.length bC) 1 U ct U U)<|eS U (MV U)<|eS U (BI U (pA ⟨om,om⟩)) ?_
 obtain ⟨y,hy⟩:=aM l.ab (((n-1)).toNat) om
 have K:=bW bM.cells hy
 refine eS U (IA (((n-1)).toNat) U (aJ 5 U) tj dc om om)<|eS U (pt ((((n-1)).toNat)*4) U (aJ 5 U) (Nat.mul_pos om dc) fB U)<|eS U (n9 (((n-1)).toNat) 0 (ck.cells y.lu) U ct (aJ 5 U) K U dc U U)<|eS U (LW 0 U ct U U)<|eS U (CL (H5 l.aN kA kC y.lu x.lu asm asm) (a_ [2]) U)<|eS U (MV U)<|eS U (EX U)<|eS U (EX U)<|ff U<|cf U fun T9 AB=>fG U cx U<|aG (AB _ _ (aK [1,2,3,4,5,6]) ?_)
 refine fV U<|KK C<|WS fun _ A=>rP 3 [] (mc 0 U I) ?_
 refine RK A<|ao<|Q1 hQ U U U ?_
 (refine congrArg (Value.int .i64) ?_; rw [yX om hx (by rw [show n.toNat-1=(n-1).toNat by omega]; exact hy),(j7 htr ⟨(hbk _ (List.mem_of_getElem? hy)).1,(hbk _ (List.mem_of_getElem? hx)).1⟩).2])
theorem KR (l:bo) (kA:OA) (kC:Nat) (az:List RA) (cA:OA) (cC:Nat) (bA:OA) (bC:Nat) (hin:eA l az) (htr:cO l.aN=true) (hbk: ∀ b∈l.ab,iW l b):
 dR Tryz.prog 161 [(vA (cu.cells (ko l kA kC cA cC bA bC)))] [(rd kA l.aN.length 9 (l.aN.map ai.cells)),(rd cA l.ak.length 2 (List.zipWith av.cells l.ak az)),(eY (aX av.ja l.ak az)),(rd bA l.ab.length 4 (l.ab.map bM.cells))] (vB (decide (∀ i,i<l.ab.length→1≤kp l i))):=by
 have V:=hin.ux
 have AA:=hin.s_
 have S:=hin.o4
 have T:=hin.tW
 refine bE kr Tryz.func161 U U fun X Q hQ hN=>?_
 try dsimp only
 refine WS fun _ J=>fY U fun W=>bh 1 U<|RK J<|ah fun _ K=>WS fun _ L=>rP 4 [] (mc 0 U I) ?_
 refine RK L<|aA ?_
 have A:(0≤l.ab.length)∧(∀ j,j<0→1≤kp l j):=by exact ⟨Nat.zero_le _,fun j hj=>absurd hj (Nat.not_lt_zero _)⟩
 refine bR (ι:={z:Nat // (z≤l.ab.length)∧(∀ j,j<z→1≤kp l j)}) [1,6] [0,1,2,3,4] U U (fun z=>[(7,(vI (z.1:Int)))]) (fun z=>[]) (fun _=>rfl) (fun _=>rfl) (fun z=>l.ab.length-z.1) ⟨0,A⟩ (aW U) (aK [0,1,2,3,4]) ?_
 clear A
 rintro ⟨i,⟨P,B⟩⟩ J5 AB
 try dsimp only
 refine WS fun _ M=>rP 1 [] I ?_
 refine RK M<|ah fun _ N=>bT U (aR fun R=>?_) (aQ fun R=>?_)
 ·refine bI<|ae<|ae<|aC<|KK K<|WS fun _ G=>rP 1 [] I ?_
  refine RK G<|ao<|Q1 hQ U U U ?_
  exact cB (dB (fun j hj=>B j om)).symm
 refine WK N<|ah fun _ O=>aA<|WS fun _ D=>bh 2 U<|RK D<|WS fun _ E=>fr 2 [] (mc 0 U I) U<|rS (CL (ET l kA kC az cA cC bA bC (i:Int) hin htr hbk om) (a_ [1,2,3,4]) U)<|rP 1 [] I ?_
 refine RK E<|cM U (aQ fun C=>?_) (aR fun C=>?_)
 ·refine WS fun _ F=>rP 1 [] I ?_
  refine RK F<|ao<|Q1 hQ U U U ?_
  exact cB (cm (fun h=>by have:=h i om; simp only [Int.toNat_natCast] at C; omega)).symm
 refine cr<|aF<|KK O<|an<|rP 2 [] I ?_
 refine aG ?_
 have H:(vI (((i+1):Nat):Int))=(vI ((i:Int)+1)):=by exact cI om
 refine bg (AB ⟨(i+1),⟨om,fun j hj=>by rcases Nat.lt_or_ge j i with q|q; exact B j q; (obtain rfl:j=i:=by omega); simp only [Int.toNat_natCast] at C; omega⟩⟩ _ _ _ rfl os (ee.cons rfl<|ee.cons rfl<|bG rfl H<|ee.nil _) (aK [0,1,2,3,4]))
end
section
open Go.RowKit
theorem LG:
 dR Tryz.prog 111 [] [] (vA ((fM.cells (fM.mk (Value.func (.func 153) [].toArray [].toArray)))++(fM.cells (fM.mk (Value.func (.func 154) [].toArray [].toArray)))++(fM.cells (fM.mk (Value.func (.func 158) [].toArray [].toArray)))++(fM.cells (fM.mk (Value.func (.func 161) [].toArray [].toArray))))):=by
 refine bE kr Tryz.func111 U U fun D Q hQ hN=>?_
 try dsimp only
 refine WS fun _ A=>AL U Nu fun C=>RK A<|WS fun _ B=>rS (SX (aZ (xs:=[(0,.func 153)]) (cs:=(fM.cells (fM.mk (Value.func (.func 153) [].toArray [].toArray)))) U U (bf BO U)) U U)<|rS (SX (aZ (xs:=[(0,.func 154)]) (cs:=(fM.cells (fM.mk (Value.func (.func 154) [].toArray [].toArray)))) U U (bf BO U)) U U)<|rS (SX (aZ (xs:=[(0,.func 158)]) (cs:=(fM.cells (fM.mk (Value.func (.func 158) [].toArray [].toArray)))) U U (bf BO U)) U U)<|rS (SX (aZ (xs:=[(0,.func 161)]) (cs:=(fM.cells (fM.mk (Value.func (.func 161) [].toArray [].toArray)))) U U (bf BO U)) U U)<|rS (SX (aZ (xs:=[(0,.tmp 1),(1,.tmp 2),(2,.tmp 3),(3,.tmp 4)]) (cs:=((fM.cells (fM.mk (Value.func (.func 153) [].toArray [].toArray)))++(fM.cells (fM.mk (Value.func (.func 154) [].toArray [].toArray)))++(fM.cells (fM.mk (Value.func (.func 158) [].toArray [].toArray)))++(fM.cells (fM.mk (Value.func (.func 161) [].toArray [].toArray))))) U U (bf Oh U)) U U)<|fG U MD U<|RK B<|ao ?_
 exact HH hQ [0] (mc 0 U I) U U
theorem uw (l:bo) (kA:OA) (kC:Nat) (az:List RA) (cA:OA) (cC:Nat) (bA:OA) (bC:Nat) (hin:eA l az):
 dR Tryz.prog 73 [(vA (cu.cells (ko l kA kC cA cC bA bC)))] [(rd kA l.aN.length 9 (l.aN.map ai.cells)),(rd cA l.ak.length 2 (List.zipWith av.cells l.ak az)),(eY (aX av.ja l.ak az)),(rd bA l.ab.length 4 (l.ab.map bM.cells))] (vI (eU l)):=by
 have A3:=hin.ux
 have A1:=hin.s_
 have AO:=hin.o4
 have A0:=hin.tW
 have A2:=hin.side
 refine bE kr Tryz.func73 U U fun w0 Q hQ hN=>?_
 try dsimp only
 refine WS fun _ m=>fY U fun b2=>bh 1 U<|RK m<|ah fun _ n=>WS fun _ o=>bh 1 U<|rS (LP (bD.cells (bD.mk (bk.mk kA l.aN.length kC))) 0 U ct U U U)<|rS (CL (yZ l.aN kA kC asm asm) (a_ [1]) U)<|bh 1 U<|RK o<|WS fun _ p=>rP 2 [] I ?_
 refine RK p<|cM U (bq fun B=>?_) (bp fun B=>?_)
 ·refine WS fun _ q=>rP 2 [] I ?_
  refine RK q<|ao<|Q1 hQ U U U ?_
  (refine cI ?_; rw [(we B).2,vR (we B).1])
 refine WK n<|ah fun _ s=>WS fun _ t=>?_
 have A:=AV B
 refine rS (CL LG (aD) U)<|bh 1 U<|RK t<|aA<|iG 5<|dy fun R9 u=>WS fun _ C=>rS (SX (bP (r:= .bool true) U U U fW) U U)<|RK C<|ah fun _ D=>aL U<|WK D<|ah fun _ E=>aA<|WS fun _ F=>rS (SX (qF (vs:=(fM.cells (fM.mk (Value.func (.func 153) [].toArray [].toArray)))) 0 U U U Cl ct U dc U) U U)<|AL U BH fun x=>fG U BV U<|RK F<|WS fun _ G=>fr 3 [0,1] (mc 0 U (mc 1 U I)) U<|rS (CL (KX l kA kC az cA cC bA bC hin) (a_ [2,3,4,5]) U)<|rP 1 [] I ?_
 refine RK G<|cM U (bq fun g=>?_) (bp fun g=>?_)
 ·refine WS fun _ H=>rP 1 [] I ?_
  refine RK H<|ao<|Q1 hQ U U U ?_
  exact cI (ov A fun h=>absurd h.head asm).symm
 refine cr<|aF<|KK E<|an<|rS (SX (bP (r:= .int .i64 1) U U U (gP ⟨dc,dc⟩)) U U)<|bh 1 U<|RK u<|dy fun R18 d=>WS fun _ AB=>rS (SX (bP (r:= .bool true) U U U fW) U U)<|RK AB<|ah fun _ J=>aL U<|WK J<|ah fun _ K=>aA<|WS fun _ L=>rS (SX (qF (vs:=(fM.cells (fM.mk (Value.func (.func 154) [].toArray [].toArray)))) 1 U U U Cl ct U dc U) U U)<|AL U BH fun y=>fG U BV U<|RK L<|WS fun _ M=>fr 3 [0,1] (mc 0 U (mc 2 U I)) U<|rS (CL (Lw l kA kC az cA cC bA bC hin) (a_ [3,4,5,6]) U)<|rP 1 [] I ?_
 refine RK M<|cM U (bq fun i=>?_) (bp fun i=>?_)
 ·refine WS fun _ N=>rP 1 [] I ?_
  refine RK N<|ao<|Q1 hQ U U U ?_
  exact cI (ov A fun h=>absurd h.clock asm).symm
 refine cr<|aF<|KK K<|an<|rS (SX (bP (r:= .int .i64 2) U U U (gP ⟨dc,dc⟩)) U U)<|bh 1 U<|RK d<|dy fun R27 e=>WS fun _ O=>rS (SX (bP (r:= .bool true) U U U fW) U U)<|RK O<|ah fun _ P=>aL U<|WK P<|ah fun _ R=>aA<|WS fun _ S=>rS (SX (qF (vs:=(fM.cells (fM.mk (Value.func (.func 158) [].toArray [].toArray)))) 2 U U U Cl ct U dc U) U U)<|AL U BH fun z=>fG U BV U<|RK S<|WS fun _ T=>fr 3 [0,1] (mc 0 U (mc 3 U I)) U<|rS (CL (KF l kA kC az cA cC bA bC hin asm) (a_ [4,5,6,7]) U)<|rP 1 [] I ?_
 refine RK T<|cM U (bq fun j=>?_) (bp fun j=>?_)
 ·refine WS fun _ AA=>rP 1 [] I ?_
  refine RK AA<|ao<|Q1 hQ U U U ?_
  exact cI (ov A fun h=>absurd h.uT asm).symm
 refine cr<|aF<|KK R<|an<|rS (SX (bP (r:= .int .i64 3) U U U (gP ⟨dc,dc⟩)) U U)<|bh 1 U<|RK e<|dy fun R36 f=>WS fun _ V=>rS (SX (bP (r:= .bool true) U U U fW) U U)<|RK V<|ah fun _ W=>aL U<|WK W<|ah fun _ X=>aA<|WS fun _ Y=>rS (SX (qF (vs:=(fM.cells (fM.mk (Value.func (.func 161) [].toArray [].toArray)))) 3 U U U Cl ct U dc U) U U)<|AL U BH fun AC=>fG U BV U<|RK Y<|WS fun _ Z=>fr 3 [0,1] (mc 0 U (mc 4 U I)) U<|rS (CL (KR l kA kC az cA cC bA bC hin asm asm) (a_ [5,6,7,8]) U)<|rP 1 [] I ?_
 refine RK Z<|cM U (bq fun k=>?_) (bp fun k=>?_)
 ·refine WS fun _ a=>rP 1 [] I ?_
  refine RK a<|ao<|Q1 hQ U U U ?_
  exact cI (ov A fun h=>absurd h.N4 asm).symm
 refine cr<|aF<|KK X<|an<|rS (SX (bP (r:= .int .i64 4) U U U (gP ⟨dc,dc⟩)) U U)<|bh 1 U<|RK f<|dy fun R45 w=>WS fun _ b=>rS (SX (bP (r:= .bool false) U U U fW) U U)<|RK b<|ah fun _ v=>aS U<|bI<|ae<|ae<|aC<|KK s<|WS fun _ c=>rP 1 [] I ?_
 refine RK c<|ao<|Q1 hQ U U U ?_
 exact cI (uD A (vp asm asm asm asm)).symm
theorem yJ (lo hi:Int) (f:Value) (p:Int→Bool) (X:aq) (r:Int) (hf: ∀ x0,0≤x0∧x0<hi→Ai Tryz.prog f [.int .i64 x0] [X] (.bool (p x0))) (hb:0≤lo∧lo≤r∧r≤hi∧hi≤100000000) (hno: ∀ x,lo≤x→x<r→p x=false) (hyes: ∀ x,r≤x→x<hi→p x=true):
 dR Tryz.prog 137 [(vI lo),(vI hi),f] [X] (vI r):=by
 refine bE kr Tryz.func137 U U fun N Q hQ hN=>?_
 try dsimp only
 refine WS fun _ F=>rP 1 [] I ?_
 refine RK F<|ah fun _ G=>aA ?_
 have A:(lo≤lo∧lo≤r)∧(r≤hi∧hi≤hi):=by omega
 refine bR (ι:={z:Int×Int // (lo≤z.1∧z.1≤r)∧(r≤z.2∧z.2≤hi)}) [2] [0] U U (fun z=>[(0,(vI z.1.1)),(1,(vI z.1.2))]) (fun z=>[]) (fun _=>rfl) (fun _=>rfl) (fun z=>(z.1.2-z.1.1).toNat) ⟨(lo,hi),A⟩ (aW U) (aK [0]) ?_
 clear A
 rintro ⟨⟨a,b⟩,⟨B,C⟩⟩ J3 D
 try dsimp only at B C
 try dsimp only
 refine ah fun _ H=>WS fun _ AA=>rP 3 [] I ?_
 refine RK AA<|bT U (aR fun M=>?_) (aQ fun M=>?_)
 ·refine bI<|ae<|ae<|aC<|KK G<|WS fun _ L=>rP 2 [] I ?_
  refine RK L<|ao<|Q1 hQ U U U ?_
  exact cI om
 refine WK H<|aA<|WS fun _ J=>bh 4 U<|rS (BI U (pI om om om))<|bh 2 U<|RK J<|WS fun _ K=>rP 2 [] I ?_
 refine rS (SX (p6 U U U (hf (a+((b-a)/2)) om) (a_ [0])) U U)<|RK K<|cM U (fun hp=>?_) (fun hp=>?_)
 ·refine an<|rP 2 [] I ?_
  refine aG<|aF ?_
  refine bg (D ⟨(a,(a+((b-a)/2))),(by dsimp only; rcases Int.lt_or_le (a+(b-a)/2) r with q|q; (have E:=hno _ om q; (rw [E] at hp; cases hp)); (have E:=hyes _ q om; (refine ⟨⟨om,om⟩,om,om⟩)))⟩ _ _ _ rfl (by simp only []; omega) (aW rfl) (aK [0]))
 refine an<|rP 3 [] I ?_
 refine aG<|aF ?_
 refine bg (D ⟨(((a+((b-a)/2))+1),b),(by dsimp only; rcases Int.lt_or_le (a+(b-a)/2) r with q|q; (have E:=hno _ om q; (refine ⟨⟨om,om⟩,om,om⟩)); (have E:=hyes _ q om; (rw [E] at hp; cases hp)))⟩ _ _ _ rfl (by simp only []; omega) (aW rfl) (aK [0]))
theorem Gj (u:Int) (c:av) (sA:OA) (sC g1:Nat) (s:aH) (g2:Nat) (hc:eP c) (hu:0≤u∧u≤90000000):
 dR Tryz.prog 138 [(vI u),(vP g1),(vP g2)] [(rd sA c.bj.length 3 (c.bj.map cv.cells)),(bQ g1 53 (dn.cells (dn.mk c.eh (bk.mk sA c.bj.length sC)))),(bQ g2 107 (aH.cells s))] (vB (decide (s.Read≤u+(iv c u).Hi))):=by
 have C:=uj hc hu
 refine bE kr Tryz.func138 U U fun D Q hQ hN=>?_
 try dsimp only
 refine WS fun _ A=>bh 1 U<|RK A<|ah fun _ B=>dF cE 10 kr<|mQ 3 [] (mr 1 U I) U<|dS (CL (Cr c sA sC u hc hu) (a_ [0]) U)<|dS (SX (lR (v:=(vI ((iv c u).Hi))) U U fB AP U) U U)<|dP 5 [] (mr 2 U I) ?_
 refine cQ<|RK B<|ao ?_
 exact Q1 hQ U U U U
theorem HK (u:Int) (c:av) (sA:OA) (sC g1:Nat) (s:aH) (g2:Nat) (hc:eP c) (hu:0≤u∧u≤90000000):
 dR Tryz.prog 140 [(vI u),(vP g1),(vP g2)] [(rd sA c.bj.length 3 (c.bj.map cv.cells)),(bQ g1 53 (dn.cells (dn.mk c.eh (bk.mk sA c.bj.length sC)))),(bQ g2 107 (aH.cells s))] (vB (decide (s.Read<u+(iv c u).Lo))):=by
 have C:=uj hc hu
 refine bE kr Tryz.func140 U U fun D Q hQ hN=>?_
 try dsimp only
 refine WS fun _ A=>bh 1 U<|RK A<|ah fun _ B=>dF cE 10 kr<|mQ 3 [] (mr 1 U I) U<|dS (CL (Cr c sA sC u hc hu) (a_ [0]) U)<|dS (SX (lR (v:=(vI ((iv c u).Lo))) U U fB z7 U) U U)<|dP 5 [] (mr 2 U I) ?_
 refine cQ<|RK B<|ao ?_
 exact Q1 hQ U U U U
theorem wC (l:bo) (kA:OA) (kC:Nat) (az:List RA) (cA:OA) (cC:Nat) (bA:OA) (bC:Nat) (s:aH) (hin:eA l az) (hok:mu l) (hs:(0≤s.fD∧s.fD≤(l.ab.length:Int)-1)∧0≤s.Read∧s.Read≤86400000):
 dR Tryz.prog 97 [(vA (cu.cells (ko l kA kC cA cC bA bC))),(vA (aH.cells s))] [(rd kA l.aN.length 9 (l.aN.map ai.cells)),(rd cA l.ak.length 2 (List.zipWith av.cells l.ak az)),(eY (aX av.ja l.ak az)),(rd bA l.ab.length 4 (l.ab.map bM.cells))] (vA (aa.cells (eT l s))):=by
 have V:=hin.ux
 have S:=hin.s_
 have P:=hin.o4
 have R:=hin.tW
 refine bE kr Tryz.func97 U U fun Z Q hQ hN=>?_
 try dsimp only
 refine WS fun _ AB=>fY U fun X=>fY U fun D=>AL U dk fun Y=>RK AB<|ah fun _ J=>ek cE [11,12] [] [] [0,1,2,3,4,5,6] [] U U U U U<|eS U (FA 2 U fB U)<|eS U (L1 (vS cA l.ak.length cC) 2 U ct U U)<|eS U (FA 3 U fB U)<|eS U (L1 (vS bA l.ab.length bC) 2 U ct U U)<|eS U (FA 0 U fB U)<|eS U (L1 (vI s.fD) 1 U ct U U) ?_
 obtain ⟨y,hy⟩:=aM l.ab ((s.fD).toNat) om
 have O:=bW bM.cells hy
 refine eS U (IA ((s.fD).toNat) U (aJ 6 U) tj dc om om)<|eS U (pt ((((s.fD).toNat)*4)+3) U (aJ 6 U) (Nat.mul_pos om dc) fB U)<|eS U (g_ ((s.fD).toNat) 3 (vI y.kX) U ct (aJ 6 U) O U dc U) ?_
 have W:=(hok.uT _ (aT hy)).2
 obtain ⟨x,hx⟩:=aM l.ak ((y.kX).toNat) om
 obtain ⟨xa,F⟩:=aM az ((y.kX).toNat) om
 have N:(List.zipWith av.cells l.ak az)[(y.kX).toNat]? =some (av.cells x xa):=eu hx F
 refine eS U (IA ((y.kX).toNat) U (aJ 4 U) xU dc om om)<|eS U (n9 ((y.kX).toNat) 0 (dn.cells (dn.mk x.eh (bk.mk xa.1 x.bj.length xa.2))) U ct (aJ 4 U) N U dc U U)<|ff U<|cf U fun T6 L=>AL U L3 fun E=>aG (L _ _ (aK [1,2,3,4,5,6,7]) ?_)
 refine cf U fun T8 M=>fG U Pv U<|aG (M _ _ (aK [1,2,3,4,5,6,7]) ?_)
 refine fV U<|KK J<|WS fun _ K=>?_
 have A:=hok.clock _ (aT hx)
 have AA:=mB (p:=jP x s.Read) (n:=86400001)
 have T:=mB (p:=jU x s.Read) (n:=86400001)
 refine rS (FU U) ?_
 refine rS (CL (yJ 0 86400001 (Value.func (.func 138) [].toArray [(vP E),(vP D)].toArray) (fun B=>(decide (s.Read≤B+(iv x B).Hi))) (eY [(rd xa.1 x.bj.length 3 (x.bj.map cv.cells)),(bQ E 53 (dn.cells (dn.mk x.eh (bk.mk xa.1 x.bj.length xa.2)))),(bQ D 107 (aH.cells s))]) (g3 (jP x s.Read) 86400001) (by intro B _; exact l_ (fi:=[]) (ca:=[(vP E),(vP D)]) (kN (Gj B x xa.1 xa.2 E s D (by first|assumption|omega) (by first|assumption|omega)) (Jf 0 1 2 U U U U U U))) om (by intro z G hz; exact (pg A G om).1 hz) (by intro z hz H; exact (pg A om H).2.1 hz)) (al (kR (al (show ju _ (rd xa.1 x.bj.length 3 (x.bj.map cv.cells)).holds from (eN 6 U (cD hx F (by simp [av.ja]))))<|eL 0 U U<|eL 2 U U<|aD))<|aD) U) ?_
 refine rS (FU U) ?_
 refine rS (CL (yJ 0 86400001 (Value.func (.func 140) [].toArray [(vP E),(vP D)].toArray) (fun C=>(decide (s.Read<C+(iv x C).Lo))) (eY [(rd xa.1 x.bj.length 3 (x.bj.map cv.cells)),(bQ E 53 (dn.cells (dn.mk x.eh (bk.mk xa.1 x.bj.length xa.2)))),(bQ D 107 (aH.cells s))]) (g3 (jU x s.Read) 86400001) (by intro C _; exact l_ (fi:=[]) (ca:=[(vP E),(vP D)]) (kN (HK C x xa.1 xa.2 E s D (by first|assumption|omega) (by first|assumption|omega)) (Jf 0 1 2 U U U U U U))) om (by intro z G hz; exact (pg A G om).2.2.1 hz) (by intro z hz H; exact (pg A om H).2.2.2 hz)) (al (kR (al (show ju _ (rd xa.1 x.bj.length 3 (x.bj.map cv.cells)).holds from (eN 6 U (cD hx F (by simp [av.ja]))))<|eL 0 U U<|eL 2 U U<|aD))<|aD) U) ?_
 refine rP 1 [] I ?_
 refine rS (SX (aZ (xs:=[(0,.tmp 18),(1,.tmp 21)]) (cs:=(aa.cells (aa.mk (g3 (jP x s.Read) 86400001) ((g3 (jU x s.Read) 86400001)-1)))) U U (bf gR U)) U U)<|sD U cx U<|RK K<|ao<|HH hQ [0] (mc 1 U I) U ?_
 unfold eT qs; rw [Ad hy hx]
end
section
open Go.RowKit
theorem pN (ln:cu) (ri:eC) (e:List Int) (tms:List TM) (e_A:OA) (e_C:Nat) (tb:List Nat) (t_A:OA) (t_C:Nat) (fA:OA) (fN fC:Nat) (bA:OA) (bN bC:Nat) (gw b:Nat) (g1 g2:Nat) (hb:b<tms.length) (htb:tb.length=tms.length):
 zY Tryz.prog 141 [] [(vP g1),(vP g2)] [(rd e_A e.length 1 (e.map iC)),(rd t_A tms.length 1 (List.zipWith e8 tms tb)),(eY (aX nX tms tb)),(bQ gw 166 (bL.cells (bL.mk ln ri (bk.mk e_A e.length e_C) (bk.mk t_A tms.length t_C) (bk.mk fA fN fC) (bk.mk bA bN bC)))),(bQ g1 121 [(vP gw)]),(bQ g2 3 [(vI (b:Int))])] ([]:List (Int×aa)) (fun ys x ys'=> ∃ o,o∈iE (cj ln ri e tms) b∧x=Ks o∧ys'=ys++[o]) (fun ys=> ∀ o∈iE (cj ln ri e tms) b,o∈ys):=by
 refine qq kr Tryz.func141 U U fun l J Z A0 d Q hY V AA hQ hN=>?_
 try dsimp only
 refine ah fun _ X=>ah fun _ R=>dF cE 12 kr<|mQ 2 [] (mr 5 U I) U<|dS (SX (bx U U) U U)<|mQ 4 [0,1] (mr 4 U (mr 5 U I)) U<|dS (SX (bx U U) U U)<|dP 3 [] (mr 4 U I) ?_
 refine dS (SX (aZ (xs:=[(0,.tmp 11),(1,.tmp 16)]) (cs:=(aa.cells (aa.mk ri.Start ri.iL))) U U (bf gR U)) U U)<|cQ<|jA (k:=([]:List (Int×aa))) (k':=(([]:List (Int×aa))++[((-1),(aa.mk ri.Start ri.iL))])) 0 (by first|exact hsz|exact Nat.le_refl _) hY V AA U U U (by exact ⟨(-1,⟨ri.Start,ri.iL⟩),cq ..,U,U⟩) U U (fun B3 N M=>?_) (fun B3 N M=>?_)
 rotate_left 1
 ·refine rP 1 [] I ?_
  refine RK R<|aL U<|ao ?_
  refine hQ _ _ _ (gp (vs:=[]) trivial fun w hs=>pH 0 U N M hs)
 refine bh 1 U<|RK R<|aS U<|WK X<|ah fun _ Y=>dF cE 7 kr<|mQ 1 [] (mr 5 U I) U<|dS (SX (bx U U) U U)<|dP 3 [0,1] (mr 4 U (mr 6 U I)) ?_
 obtain ⟨x,hx⟩:=aM tms b om
 obtain ⟨xa,L⟩:=aM tb b om
 have a:(List.zipWith e8 tms tb)[b]? =some (e8 x xa):=eu hx L
 refine dS (IA b U (aJ 2 U) th dc om om)<|dS (g_ b 0 (Value.map (some xa)) U ct (aJ 2 U) a U dc U)<|cQ<|jl (kV:=iV) (m:=bK dm x) 3 U U lP U ⟨⟨(gQ iV xa (bK dm x)),(cD hx L (by simp [nX])),U⟩,fun h=>h⟩ (show ju _ (gQ iV xa (bK dm x)).holds from eN 3 U (cD hx L (by simp [nX]))) U fun j=>?_
 try dsimp only
 refine RK Y<|aA ?_
 have G:(∀ o∈x,o∈x∨o∈(([]:List (Int×aa))++[((-1),(aa.mk ri.Start ri.iL))]))∧(∀ o∈x,o∈x)∧(J (([]:List (Int×aa))++[((-1),(aa.mk ri.Start ri.iL))]) B3)∧(Fo A0 d B3)∧((-1,(⟨ri.Start,ri.iL⟩:aa))∈(([]:List (Int×aa))++[((-1),(aa.mk ri.Start ri.iL))])):=by exact ⟨fun o ho=> .inl ho,fun o ho=>ho,asm,asm,sm⟩
 refine bR (ι:={z:TM×(List (Int×aa))×aq // (∀ o∈x,o∈z.1∨o∈z.2.1)∧(∀ o∈z.1,o∈x)∧(J z.2.1 z.2.2)∧(Fo A0 d z.2.2)∧((-1,(⟨ri.Start,ri.iL⟩:aa))∈z.2.1)}) [0,1,2,27] [2,3,4,6,7] U U (fun z=>[]) (fun z=>[(wc iV j xa (bK dm x) (bK dm z.1.1) none),z.1.2.2]) (fun _=>rfl) (fun _=>rfl) (fun z=>z.1.1.length) ⟨(x,(([]:List (Int×aa))++[((-1),(aa.mk ri.Start ri.iL))]),B3),G⟩ (ee.nil _) (aK [2,3,4,6,7,0,1]) ?_
 clear G
 rintro ⟨⟨left,ys,A⟩,⟨B,C,D,E,F⟩⟩ J8 W
 try dsimp only at B C D E F
 try dsimp only
 refine WS fun _ S=>iq (dJ og).inj (f:=dm) 5 U U U U (fun T=>?_) (fun i z hm hn=>?_)
 ·refine rP 1 [] I ?_
  refine RK S<|ah fun _ c=>aS U<|bI<|ae<|ae<|aC ?_
  refine hN _ _ _ (gp (vs:=[]) trivial fun w hs=>Fs 6 U (by exact C_ hx B T F) D E hs)
 try dsimp only
 refine bh 1 U<|RK S<|ah fun _ O=>aL U<|WK O<|aA<|WS fun _ P=>rS (SX (il 5 U U U) U U)<|bh 2 U<|AL U dk fun g=>bh 1 U<|fG U cx U<|RK P<|WS fun _ K=>rP 3 [] (mc 0 U I) ?_
 refine jA (k:=ys) (k':=(ys++[(i,z)])) 7 (by first|exact hsz|exact Nat.le_refl _) hY D E U U U (by exact ⟨(i,z),(ud hx).2 (.inr (C _ hm)),U,U⟩) U U (fun B15 AB H=>?_) (fun B15 AB H=>?_)
 rotate_left 1
 ·refine rP 1 [] I ?_
  refine RK K<|aL U<|ao ?_
  refine hQ _ _ _ (gp (vs:=[]) trivial fun w hs=>pH 7 U AB H hs)
 refine rP 1 [] I ?_
 refine RK K<|aS U<|cr<|aF<|gi 6 U eQ U ?_
 refine bg (W ⟨((bY left i),(ys++[(i,z)]),B15),⟨CI hn hm B,k7 C,asm,asm,by simp [F]⟩⟩ _ _ _ U (er hm) (aW U) (aK [1,2,3,4,5,6,7]))
theorem q9 (gw b:Nat):
 lq Tryz.prog 102 [(vP gw),(vI (b:Int))] [] (fun (x:Nat×Nat)=>(Value.func (.func 141) [].toArray [(Value.pointer (some ⟨x.1,0,none⟩)),(Value.pointer (some ⟨x.2,0,none⟩))].toArray)) (fun (x:Nat×Nat)=>True) (fun (x:Nat×Nat)=>[(bQ x.1 121 [(vP gw)]),(bQ x.2 3 [(vI (b:Int))])]):=by
 refine de kr Tryz.func102 U U fun E Q hQ hN=>?_
 try dsimp only
 refine WS fun _ A=>qM U U fun C=>qM U U fun D=>bh 1 U<|RK A<|WS fun _ B=>rS (FU U)<|rP 1 [] I ?_
 refine RK B<|ao<|LX hQ (C,D) [1,0] [] I U U U U ?_
 trivial
theorem FL (gw b:Nat):
 lq Tryz.prog 61 [(vP gw),(vI (b:Int))] [] (fun (x:Nat×Nat)=>(Value.func (.func 101) [].toArray [(Value.pointer (some ⟨x.1,0,none⟩)),(Value.pointer (some ⟨x.2,0,none⟩))].toArray)) (fun (x:Nat×Nat)=>True) (fun (x:Nat×Nat)=>[(bQ x.1 121 [(vP gw)]),(bQ x.2 3 [(vI (b:Int))])]):=by
 refine de kr Tryz.func61 U U fun E Q hQ hN=>?_
 try dsimp only
 refine WS fun _ A=>qM U U fun C=>qM U U fun D=>bh 1 U<|RK A<|WS fun _ B=>rS (FU U)<|rP 1 [] I ?_
 refine RK B<|ao<|LX hQ (C,D) [1,0] [] I U U U U ?_
 trivial
end
section
open Go.RowKit
theorem yM (ln:cu) (ri:eC) (e:List Int) (tms:List TM) (e_A:OA) (e_C:Nat) (tb:List Nat) (t_A:OA) (t_C gw:Nat) (hw:CY (cj ln ri e tms)) (hn:ln.ab.n=e.length) (htb:tb.length=tms.length):
 Dh Tryz.prog 98 [(vP gw)] [(rd e_A e.length 1 (e.map iC)),(rd t_A tms.length 1 (List.zipWith e8 tms tb)),(eY (aX nX tms tb))] (bQ gw 166 (bL.cells (bL.mk ln ri (bk.mk e_A e.length e_C) (bk.mk t_A tms.length t_C) (bk.mk none 0 0) (bk.mk none 0 0)))) (fun (x:(List FM)×(List Nat)×(OA)×Nat×(List FM)×(List Nat)×(OA)×Nat)=>(vT [])) (fun (x:(List FM)×(List Nat)×(OA)×Nat×(List FM)×(List Nat)×(OA)×Nat)=>rI (cj ln ri e tms) x.1∧pZ (cj ln ri e tms) x.2.2.2.2.1∧x.2.1.length=x.1.length∧x.2.2.2.2.2.1.length=x.2.2.2.2.1.length) (fun (x:(List FM)×(List Nat)×(OA)×Nat×(List FM)×(List Nat)×(OA)×Nat)=>(bB [(bQ gw 166 (bL.cells (bL.mk ln ri (bk.mk e_A e.length e_C) (bk.mk t_A tms.length t_C) (bk.mk x.2.2.1 x.1.length x.2.2.2.1) (bk.mk x.2.2.2.2.2.2.1 x.2.2.2.2.1.length x.2.2.2.2.2.2.2)))),(own x.2.2.1 x.2.2.2.1 170 1 (List.zipWith e8 x.1 x.2.1)),(bB (aX lD x.1 x.2.1)),(own x.2.2.2.2.2.2.1 x.2.2.2.2.2.2.2 170 1 (List.zipWith e8 x.2.2.2.2.1 x.2.2.2.2.2.1)),(bB (aX lD x.2.2.2.2.1 x.2.2.2.2.2.1))])):=by
 have RI:e.length≤6:=hw.n
 have RL:tms.length=e.length:=hw.times
 refine mg kr Tryz.func98 U U fun w0 Q hQ hN=>?_
 try dsimp only
 refine WS fun _ D8=>qM U U fun W=>RK D8<|WS fun _ Ec=>fr 1 [] (mc 0 U I) U<|rS (SX (bx U U) U U)<|rP 5 [] (mc 1 U I) ?_
 refine RK Ec ?_
 refine qu (ι:={z:(OA)×(OA) // True}) [0,1,2] [0,2,3,4] U U (fun z=>[]) (fun z=>[(own z.1.1 (ln.ab.n+1) 170 1 (List.map oC (List.replicate (ln.ab.n+1) (none:Option Nat)))),(own z.1.2 (ln.ab.n+1) 170 1 (List.map oC (List.replicate (ln.ab.n+1) (none:Option Nat)))),(bQ gw 166 (bL.cells (bL.mk ln ri (bk.mk e_A e.length e_C) (bk.mk t_A tms.length t_C) (bk.mk z.1.1 (ln.ab.n+1) (ln.ab.n+1)) (bk.mk z.1.2 (ln.ab.n+1) (ln.ab.n+1)))))]) (fun _=>rfl) (fun _=>rfl) ?_ fun K4 Eq=>?_
 ·rintro ⟨⟨fA,bA⟩,_⟩
  try dsimp only
  refine EG 6 U U fun wz Sz hz=>?_
  have RF:(List.replicate (ln.ab.n+1) (none:Option Nat)).length=(ln.ab.n+1):=List.length_replicate
  try dsimp only
  refine qu (ι:={z:Nat // True}) [0,1,2] [0,1,2,3,4,6] U U (fun z=>[]) (fun z=>[(bB (aX lD [[((ax.mk 0 0),ri.Start)]] [z.1])),(own fA (ln.ab.n+1) 170 1 (List.map oC (cS [z.1] (ln.ab.n+1))))]) (fun _=>rfl) (fun _=>rfl) ?_ fun K5 QZ=>?_
  ·rintro ⟨ga,_⟩
   try dsimp only
   refine ah fun _ Ey=>WS fun _ FS=>rP 2 [] I ?_
   refine RK FS<|aA<|nJ ?_
   have C:(0≤ln.ab.n)∧(([[((ax.mk 0 0),ri.Start)]]).length=0+1)∧(([ga]).length=0+1)∧(ob (cj ln ri e tms) ([[((ax.mk 0 0),ri.Start)]])):=by exact ⟨Nat.zero_le _,rfl,rfl,ob.first⟩
   refine sN (ι:={z:Nat×(List FM)×(List Nat)×(List Nat) // (z.1≤ln.ab.n)∧(z.2.1.length=z.1+1)∧(z.2.2.1.length=z.1+1)∧(ob (cj ln ri e tms) z.2.1)}) (fun z=>z.1.2.2.2.map kq) (fun z=>[(0,(vP gw)),(1,(vP W)),(2,(vI (ln.ab.n:Int))),(52,(vI (ln.ab.n:Int))),(53,(vI (z.1.1:Int)))]) (fun z=>[(bB (z.1.2.2.2.map kI)),(bQ gw 166 (bL.cells (bL.mk ln ri (bk.mk e_A e.length e_C) (bk.mk t_A tms.length t_C) (bk.mk fA (ln.ab.n+1) (ln.ab.n+1)) (bk.mk bA (ln.ab.n+1) (ln.ab.n+1))))).ro,(bQ W 121 [(vP gw)]),(rd e_A e.length 1 (e.map iC)).ro,(rd t_A tms.length 1 (List.zipWith e8 tms tb)).ro,(eY (aX nX tms tb)).ro,(own bA (ln.ab.n+1) 170 1 (List.map oC (List.replicate (ln.ab.n+1) (none:Option Nat)))),(bB (aX lD z.1.2.1 z.1.2.2.1)),(own fA (ln.ab.n+1) 170 1 (List.map oC (cS z.1.2.2.1 (ln.ab.n+1))))]) (fun z=>ln.ab.n-z.1.1) ⟨(0,[[((ax.mk 0 0),ri.Start)]],[ga],([]:List Nat)),C⟩ U (aW U) (aK [0,1,2,3,4,5,6,7,8]) ?_
   clear C
   rintro ⟨⟨b,fs,fb,QT⟩,⟨IO,A6,IR,M⟩⟩ J8 QY
   try dsimp only at IO A6 IR M
   try dsimp only
   have RG:(cS fb (ln.ab.n+1)).length=(ln.ab.n+1):=lY om
   refine WS fun _ Fa=>rP 1 [] I ?_
   refine RK Fa<|ah fun _ AO=>cM U (aQ fun QW=>?_) (aR fun QW=>?_)
   ·refine WK AO<|ah fun _ K0=>aA<|WS fun _ K8=>rP 1 [] I ?_
    refine AL U hE fun s=>CW U AZ U U<|RK K8<|ah fun _ LE=>ek cE [6,8] [6] [0] [0,1,2,3,4,5,6,7,8] [0,1,2,3,4,5,6,7,8,9] U U U U U<|eS U (zU 3 U ct U)<|eS U (SX (bx U U) U U)<|eS U (FA 12 U fB U)<|eS U (Eh (vS fA (ln.ab.n+1) (ln.ab.n+1)) 2 U ct U U)<|eS U (zU 0 U ct U)<|eS U (BI U (gP ⟨om,om⟩)) ?_
    obtain ⟨Qu,QQ⟩:=aM (cS fb (ln.ab.n+1)) (b+1) om
    have hx17m:(List.map oC (cS fb (ln.ab.n+1)))[(b+1)]? =some (oC Qu):=by rw [eX,QQ]; rfl
    refine fS U (IA (b+1) U (ag (n:=(ln.ab.n+1)) 9 U sq) mJ dc om om) ?_
    refine ff U<|gZ U fun T18 Pi=>my (kV:=dH) U U fun B=>?_
    try dsimp only
    refine aG (Pi _ _ (aK [1,2,3,4,5,6,7,8,9]) (aK [1,2,3,4,5,6,7,8,9,10]) ?_)
    refine cf U fun T20 Pl=>?_
    have QH:((cS fb (ln.ab.n+1)).set (b+1) (some B))=(cS (fb++[B]) (ln.ab.n+1)):=by exact pd om om
    refine eg (k:=(b+1)) (o:=0) (vs:=[(Value.map (some B))]) (es':=(List.map oC (cS (fb++[B]) (ln.ab.n+1)))) (C':=[_,_,_,_,_,_,_,_,_,_,(own fA (ln.ab.n+1) 170 1 (List.map oC (cS (fb++[B]) (ln.ab.n+1))))]) 10 U U U EE U U U U hx17m U dc (by exact (List.map_set (f:=oC) (l:=(cS fb (ln.ab.n+1))) (i:=(b+1)) (a:=(some B))).symm.trans (congrArg _ QH)) U<|aG (Pl _ _ (aK [1,2,3,4,5,6,7,8,9]) ?_)
    refine fV U<|KK LE<|ah fun _ LH=>?_
    have Qm:(cS (fb++[B]) (ln.ab.n+1)).length=(ln.ab.n+1):=lY (by simp; omega)
    obtain ⟨mb,N⟩:=aM fs b om
    obtain ⟨ga,Z⟩:=aM fb b om
    refine vW 9 N Z U U U ?_
    try dsimp only
    refine dF cE 7 kr<|mQ 1 [] (mc 6 U I) U<|dS (SX (bx U U) U U)<|dP 3 [0,1] (mr 5 U (mc 3 U I)) ?_
    have QL:(List.map oC (cS (fb++[B]) (ln.ab.n+1)))[b]? =some (oC (some ga)):=oc (kW (Ht Z))
    refine dS (IA b U (ag (n:=(ln.ab.n+1)) 11 U sq) mJ dc om om) ?_
    refine dS (g_ b 0 (Value.map (some ga)) U ct (ag (n:=(cS (fb++[B]) (ln.ab.n+1)).length) 11 U sm) QL U dc U)<|cQ<|qN 0 U U nu U U fun Ci=>?_
    try dsimp only
    refine RK LH<|aA ?_
    have C:(∀ p∈mb,p∈mb)∧(uN (cj ln ri e tms) b ([]:FM))∧(jm (cj ln ri e tms) b mb ([]:FM) mb):=by exact ⟨fun p hp=>hp,uN.start,jm.start⟩
    refine sN (ι:={z:FM×FM×(List Nat) // (∀ p∈z.1,p∈mb)∧(uN (cj ln ri e tms) b z.2.1)∧(jm (cj ln ri e tms) b mb z.2.1 z.1)}) (fun z=>z.1.2.2.map kq) (fun z=>[(0,(vP gw)),(1,(vP W)),(2,(vI (ln.ab.n:Int))),(3,(vP s)),(52,(vI (ln.ab.n:Int))),(53,(vI (b:Int))),(71,(vP Ci))]) (fun z=>[(wk dH Ci ga (bK iV mb) (bK iV z.1.1) none),(bB (eM lD fs fb b)),(gQ dH B (bK iV z.1.2.1)),(bQ s 3 [(vI (b:Int))]),(bB (z.1.2.2.map kI)),(bQ gw 166 (bL.cells (bL.mk ln ri (bk.mk e_A e.length e_C) (bk.mk t_A tms.length t_C) (bk.mk fA (ln.ab.n+1) (ln.ab.n+1)) (bk.mk bA (ln.ab.n+1) (ln.ab.n+1))))).ro,(bQ W 121 [(vP gw)]),(rd e_A e.length 1 (e.map iC)).ro,(rd t_A tms.length 1 (List.zipWith e8 tms tb)).ro,(eY (aX nX tms tb)).ro,(own bA (ln.ab.n+1) 170 1 (List.map oC (List.replicate (ln.ab.n+1) (none:Option Nat)))),(own fA (ln.ab.n+1) 170 1 (List.map oC (cS (fb++[B]) (ln.ab.n+1))))]) (fun z=>z.1.1.length) ⟨(mb,([]:FM),QT),C⟩ U (aW U) (aK [0,1,2,3,4,5,6,7,8,9,10,11]) ?_
    clear C
    rintro ⟨⟨left,m,A7⟩,⟨c,d,g⟩⟩ J26 Kf
    try dsimp only at c d g
    try dsimp only
    refine WS fun _ Cu=>pS nm.inj (f:=iV) 0 U U U U (fun QX=>?_) (fun t v hm Id=>?_)
    ·refine bh 1 U<|RK Cu<|ah fun _ Q5=>aS U<|bI<|ae<|ae<|aC<|aF<|KK K0<|an<|rP 2 [] I ?_
     refine aG<|Fi (C':=[(gQ dH ga (bK iV mb)),(bB (eM lD fs fb b)),(gQ dH B (bK iV m)),(bQ s 3 [(vI (b:Int))]),(bB (A7.map kI)),(bQ gw 166 (bL.cells (bL.mk ln ri (bk.mk e_A e.length e_C) (bk.mk t_A tms.length t_C) (bk.mk fA (ln.ab.n+1) (ln.ab.n+1)) (bk.mk bA (ln.ab.n+1) (ln.ab.n+1))))).ro,(bQ W 121 [(vP gw)]),(rd e_A e.length 1 (e.map iC)).ro,(rd t_A tms.length 1 (List.zipWith e8 tms tb)).ro,(eY (aX nX tms tb)).ro,(own bA (ln.ab.n+1) 170 1 (List.map oC (List.replicate (ln.ab.n+1) (none:Option Nat)))),(own fA (ln.ab.n+1) 170 1 (List.map oC (cS (fb++[B]) (ln.ab.n+1))))]) 0 U Ff U<|Gv 1 0 N Z U U U ?_
     try dsimp only
     refine yl (X':=aX lD (fs++[m]) (fb++[B])) 0 1 U U (wh om U) ?_
     try dsimp only
     have QI:(vI (((b+1):Nat):Int))=(vI ((b:Int)+1)):=by exact cI om
     refine bg (QY ⟨((b+1),(fs++[m]),(fb++[B]),A7),⟨om,by simp; omega,by simp; omega,M.add A6 N d g QX⟩⟩ _ _ _ U os (dx 4<|bG U QI<|ee.nil _) (aK [2,3,4,5,6,7,8,0,9]))
    try dsimp only
    refine bh 1 U<|RK Cu<|ah fun _ LT=>aL U<|WK LT<|aA<|WS fun _ LY=>rS (SX (p9 0 U U U) U U)<|bh 2 U<|AL U qm fun J2=>AL U hE fun J3=>sD U pC U<|CW U AZ U U<|RK LY<|WS fun _ Li=>rP 2 [0,1] (mc 8 U (mc 5 U I)) ?_
    refine cX (q9 gw b) (aD) U fun Qy Q8=>?_
    obtain ⟨C2,Di⟩:=Qy
    try dsimp only
    refine RK Li<|aA<|jC 11 U (by exact fun _ h=>h)<|jC 13 U (by exact fun _ h=>h)<|jC 15 U (by exact fun _ h=>h)<|jC 12 U (by exact fun _ h=>h) ?_
    refine l4 (L0:=[(0,(vP gw)),(1,(vP W)),(2,(vI (ln.ab.n:Int))),(3,(vP s)),(4,(vP J2)),(5,(vP J3)),(52,(vI (ln.ab.n:Int))),(53,(vI (b:Int))),(71,(vP Ci))]) (F:=[(rd e_A e.length 1 (e.map iC)).ro,(rd t_A tms.length 1 (List.zipWith e8 tms tb)).ro,(eY (aX nX tms tb)).ro,(bQ gw 166 (bL.cells (bL.mk ln ri (bk.mk e_A e.length e_C) (bk.mk t_A tms.length t_C) (bk.mk fA (ln.ab.n+1) (ln.ab.n+1)) (bk.mk bA (ln.ab.n+1) (ln.ab.n+1))))).ro,(bQ C2 121 [(vP gw)]),(bQ Di 3 [(vI (b:Int))])]) (fun k (y:FM)=>(mC (cj ln ri e tms) b mb left y (t,v) k)) (fun k y=>[(bQ J3 3 [(vI v)]),(bQ J2 172 (ax.cells t)),(wk dH Ci ga (bK iV mb) (bK iV (bY left t)) (some (t,(vI v)))),(bB (eM lD fs fb b)),(gQ dH B (bK iV y)),(bQ s 3 [(vI (b:Int))]),(bB (A7.map kI)),(bQ gw 166 (bL.cells (bL.mk ln ri (bk.mk e_A e.length e_C) (bk.mk t_A tms.length t_C) (bk.mk fA (ln.ab.n+1) (ln.ab.n+1)) (bk.mk bA (ln.ab.n+1) (ln.ab.n+1))))).ro,(bQ W 121 [(vP gw)]),(rd e_A e.length 1 (e.map iC)).ro,(rd t_A tms.length 1 (List.zipWith e8 tms tb)).ro,(eY (aX nX tms tb)).ro,(own bA (ln.ab.n+1) 170 1 (List.map oC (List.replicate (ln.ab.n+1) (none:Option Nat)))),(own fA (ln.ab.n+1) 170 1 (List.map oC (cS (fb++[B]) (ln.ab.n+1))))]) (fun _ (_:Unit)=>False) (fun _ _=>[]) [6,7,8,9,10,11,12,13,14,15,16,17,18,19] [3,2,1,0,4,5] m rfl rfl (pN ln ri e tms e_A e_C tb t_A t_C fA (ln.ab.n+1) (ln.ab.n+1) bA (ln.ab.n+1) (ln.ab.n+1) gw b C2 Di om om) rfl rfl rfl (by exact mC.start d g) (by simp only [List.forall_mem_cons,List.not_mem_nil,false_imp_iff,implies_true,and_true]; exact ⟨⟨_,aT (i:=0) rfl,(eH (bU _))⟩,⟨_,aT (i:=1) rfl,(eH (bU _))⟩,⟨_,aT (i:=2) rfl,(eH (bU _))⟩,⟨_,aT (i:=3) rfl,(eH (bU _))⟩,⟨_,aT (i:=4) rfl,(bU _)⟩,⟨_,aT (i:=5) rfl,(bU _)⟩⟩) (by rintro k x k2 ⟨o,_,rfl,_⟩; rfl) rfl (aW rfl) ?_ ?_ (fun _ _ _ h=>h.elim) (fun _ _ h=>h.elim)
    rotate_left 1
    ·rintro Qt k O A5 Gy
     have D:=Gy
     try dsimp only
     refine aF<|aF<|FF (X:=A7.map kI) 13 0 U U ?_
     try dsimp only
     refine gi 9 U uM U ?_
     refine bg (Kf ⟨((bY left t),O,(Qt::A7)),⟨k7 c,D.on,D.next Id hm A5⟩⟩ _ _ _ U (er hm) (aW U) (aK [9,10,11,12,0,4,14,1,2,3,18,19]))
    rintro k x k2 O l ra rb S w1 K39 Qr40 Qq hx Go Lk H Qw Q0
    obtain ⟨o,ho,rfl,rfl⟩:=hx
    have D:=Go
    try dsimp only
    refine WS fun _ Lm=>rP 1 [] I ?_
    refine RK Lm<|an<|AL U dk fun Q_=>fG U cx U<|aG<|kv (fun _ _ h=>h) (aK [1,0,2,3,4,5,6,7,8,9,10,11,12,13,14,15])<|bg (Lk _ _ ?_)
    refine aA<|ah fun _ Ls=>ek cE [16,18] [] [] [0,1,2,3,4,5,6,7,8,9,10,11,12,13,14,15] [] U U U U U<|eS U (zU 2 U ct U)<|eS U (zU 10 U ct U)<|eS U (SX (bx U U) U U)<|eS U (FA 10 U fB U)<|eS U (Eh (vS e_A e.length e_C) 9 U ct U U)<|eS U (zU 7 U ct U) ?_
    obtain ⟨y,hy⟩:=aM e b om
    have If:=bW iC hy
    refine eS U (IA b U (aJ 11 U) cy dc om om)<|eS U (g_ b 0 (vI y) U ct (aJ 11 U) If U dc U) ?_
    have Ql:=hw.least y (aT hy)
    have hp:=M.mem N (c _ hm)
    have Qk:=Hs hw _ _ hp
    have Qo:=uE o.1
    have Qp:=hw.opt ho
    have RH:=hw.now
    dsimp only at Qk
    refine eS U (BI U (gP ⟨om,om⟩))<|eS U (FA 0 U fB U)<|eS U (L1 (vI o.2.Lo) 1 U ct U U)<|eS U (MX U)<|eS U (LW 3 U ct U U)<|eS U (MV U)<|eS U (CL (EL o.1) (aD) U)<|eS U (CL (sW t (e9 o.1) om om) (aD) U)<|eS U (AG U)<|ff U<|cf U fun T45 Px=>AL U qm fun RB=>aG (Px _ _ (aK [1,2,3,4,5,6,7,8,9,10,11,12,13,14,15,16]) ?_)
    refine cf U fun T47 P9=>fG U pC U<|aG (P9 _ _ (aK [1,2,3,4,5,6,7,8,9,10,11,12,13,14,15,16]) ?_)
    refine fV U<|KK Ls<|ah fun _ L2=>dF cE 15 kr<|mQ 1 [] (mc 11 U I) U<|dS (SX (bx U U) U U)<|dP 4 [0,1] (mr 10 U (mc 8 U I)) ?_
    have QM:(List.map oC (cS (fb++[B]) (ln.ab.n+1)))[(b+1)]? =some (oC (some B)):=oc (kW (xB om))
    refine dS (IA (b+1) U (ag (n:=(ln.ab.n+1)) 16 U sq) mJ dc om om) ?_
    refine dS (g_ (b+1) 0 (Value.map (some B)) U ct (ag (n:=(cS (fb++[B]) (ln.ab.n+1)).length) 16 U sm) QM U dc U)<|mQ 1 [] (mc 0 U I) U<|dS (SX (jM (kV:=dH) (x:=(d_ t (e9 o.1))) (l:=O) (f:=iV) (z:=0) U U U nu nm P8 (by exact aJ 7 U)) U U)<|lQ 5 U<|cQ<|RK L2<|ah fun _ A0=>dF cE 19 kr<|mQ 4 [0,1] (mc 2 U (mc 11 U I)) U<|dS (SX (bx U U) U U)<|mQ 3 [] (mr 10 U I) U<|dS (MN U)<|dP 2 [] I ?_
    refine jL (t:=121) U (aR fun P=>?_) (aQ fun P=>?_)
    ·refine dP 8 [] I ?_
     refine cQ<|RK A0<|aS U<|cr<|aF ?_
     exact H O _ _ (by exact D.skip (FJ hy P)) (aK [1,3,4,5,6,7,8,9,10,11,12,13,14,15,16])
    refine dP 3 [] I ?_
    refine iY (t:=124) U (fun R=>?_) (fun R=>?_)
    ·rw [Bool.not_eq_true'] at R
     refine lQ 5 U<|cQ<|RK A0<|aL U<|dF cE 10 kr<|mQ 1 [] (mc 11 U I) U<|dS (SX (bx U U) U U)<|dP 4 [0,1] (mr 10 U (mc 8 U I)) ?_
     have QN:(List.map oC (cS (fb++[B]) (ln.ab.n+1)))[(b+1)]? =some (oC (some B)):=oc (kW (xB om))
     refine dS (IA (b+1) U (ag (n:=(ln.ab.n+1)) 16 U sq) mJ dc om om) ?_
     refine dS (g_ (b+1) 0 (Value.map (some B)) U ct (ag (n:=(cS (fb++[B]) (ln.ab.n+1)).length) 16 U sm) QN U dc U)<|dP 2 [] (mc 0 U I) ?_
     refine cQ<|ig (kV:=dH) (x:=(d_ t (e9 o.1))) (C':=[_,_,_,_,_,_,_,(gQ dH B (bK iV (dN O (d_ t (e9 o.1)) (max (v+y) o.2.Lo)))),_,_,_,_,_,_,_,_,_]) 7 U U U U nu nm U (fI _ _ _ _).symm U<|aG<|aF ?_
     exact H (dN O (d_ t (e9 o.1)) (max (v+y) o.2.Lo)) _ _ (by exact D.set hp ho (xg hy P) (.inl (by simpa using R))) (aK [1,3,4,5,6,7,8,9,10,11,12,13,14,15,16])
    rw [Bool.not_eq_false'] at R
    refine dP 5 [] I ?_
    refine cQ<|RK A0<|bT U (aR fun u=>?_) (aQ fun u=>?_)
    ·refine cr<|aF ?_
     exact H O _ _ (by exact D.mZ (xg hy P) (by simpa using R) u) (aK [1,3,4,5,6,7,8,9,10,11,12,13,14,15,16])
    refine dF cE 10 kr<|mQ 1 [] (mc 11 U I) U<|dS (SX (bx U U) U U)<|dP 4 [0,1] (mr 10 U (mc 8 U I)) ?_
    have QO:(List.map oC (cS (fb++[B]) (ln.ab.n+1)))[(b+1)]? =some (oC (some B)):=oc (kW (xB om))
    refine dS (IA (b+1) U (ag (n:=(ln.ab.n+1)) 16 U sq) mJ dc om om) ?_
    refine dS (g_ (b+1) 0 (Value.map (some B)) U ct (ag (n:=(cS (fb++[B]) (ln.ab.n+1)).length) 16 U sm) QO U dc U)<|dP 2 [] (mc 0 U I) ?_
    refine cQ<|ig (kV:=dH) (x:=(d_ t (e9 o.1))) (C':=[_,_,_,_,_,_,_,(gQ dH B (bK iV (dN O (d_ t (e9 o.1)) (max (v+y) o.2.Lo)))),_,_,_,_,_,_,_,_,_]) 7 U U U U nu nm U (fI _ _ _ _).symm U<|aG<|aF ?_
    exact H (dN O (d_ t (e9 o.1)) (max (v+y) o.2.Lo)) _ _ (by exact D.set hp ho (xg hy P) (.inr u)) (aK [1,3,4,5,6,7,8,9,10,11,12,13,14,15,16])
   refine bI<|ae<|ae<|aC<|KK Ey<|WS fun _ A1=>rP 1 [] I ?_
   refine AL U hE fun QU=>CW U AZ U U<|RK A1<|aA ?_
   rw [CQ]
   refine nJ ?_
   have C:(0≤ln.ab.n+1)∧(([]:List FM).length=0)∧(([]:List Nat).length=0)∧(gF (cj ln ri e tms) (ln.ab.n+1-0) ([]:List FM)):=by exact ⟨Nat.zero_le _,rfl,rfl,gF.none_⟩
   refine sN (ι:={z:Nat×(List FM)×(List Nat)×Nat×(List Nat) // (z.1≤ln.ab.n+1)∧(z.2.1.length=z.1)∧(z.2.2.1.length=z.1)∧(gF (cj ln ri e tms) (ln.ab.n+1-z.1) z.2.1)}) (fun z=>z.1.2.2.2.2.map kq) (fun z=>[(0,(vP gw)),(1,(vP W)),(2,(vI (ln.ab.n:Int))),(12,(Value.pointer (some ⟨z.1.2.2.2.1,0,none⟩)))]) (fun z=>[(bB (aX lD z.1.2.1 z.1.2.2.1)),(bQ z.1.2.2.2.1 3 [(vI ((ln.ab.n:Int)-(z.1.1:Int)))]),(bB (z.1.2.2.2.2.map kI)),(bQ gw 166 (bL.cells (bL.mk ln ri (bk.mk e_A e.length e_C) (bk.mk t_A tms.length t_C) (bk.mk fA (ln.ab.n+1) (ln.ab.n+1)) (bk.mk bA (ln.ab.n+1) (ln.ab.n+1))))).ro,(bQ W 121 [(vP gw)]),(rd e_A e.length 1 (e.map iC)).ro,(rd t_A tms.length 1 (List.zipWith e8 tms tb)).ro,(eY (aX nX tms tb)).ro,(own bA (ln.ab.n+1) 170 1 (List.map oC (gr z.1.2.2.1 (ln.ab.n+1)))),(bB (aX lD fs fb)),(own fA (ln.ab.n+1) 170 1 (List.map oC (cS fb (ln.ab.n+1))))]) (fun z=>ln.ab.n+1-z.1.1) ⟨(0,([]:List FM),([]:List Nat),QU,QT),C⟩ U (aW U) (aK [0,1,2,3,4,5,6,7,8,9,10]) ?_
   clear C
   rintro ⟨⟨j,bs,bb,gq,q⟩,⟨B3,B7,B9,E⟩⟩ J57 Cp
   try dsimp only at B3 B7 B9 E
   try dsimp only
   refine ah fun _ A2=>WS fun _ A3=>rP 2 [] (mc 1 U I) ?_
   refine RK A3<|bT U (aR fun J7=>?_) (aQ fun J7=>?_)
   ·refine bI<|ae<|ae<|aC ?_
    rw [show (List.map oC (cS fb (ln.ab.n+1)))=(List.zipWith e8 fs fb) from by rw [u6 om]; exact (w5 om).symm]
    rw [show (List.map oC (gr bb (ln.ab.n+1)))=(List.zipWith e8 bs bb) from by rw [DE om]; exact (w5 om).symm]
    refine LI (C1:=[(own fA (ln.ab.n+1) 170 1 (List.zipWith e8 fs fb)),(bB (aX lD fs fb)),(own bA (ln.ab.n+1) 170 1 (List.zipWith e8 bs bb)),(bB (aX lD bs bb)),(bB (q.map kI))]) hz [10,9,8,0,2] U U (by simp only [eo,List.all_nil,nE,JO,Bool.and_true]; rfl) ?_
    rw [show (bQ gw 166 (bL.cells (bL.mk ln ri (bk.mk e_A e.length e_C) (bk.mk t_A tms.length t_C) (bk.mk fA (ln.ab.n+1) (ln.ab.n+1)) (bk.mk bA (ln.ab.n+1) (ln.ab.n+1)))))=(bQ gw 166 (bL.cells (bL.mk ln ri (bk.mk e_A e.length e_C) (bk.mk t_A tms.length t_C) (bk.mk fA fs.length (ln.ab.n+1)) (bk.mk bA bs.length (ln.ab.n+1))))) from by rw [show fs.length=(ln.ab.n+1) from by omega,show bs.length=(ln.ab.n+1) from by omega]]
    refine Lz [(bQ gw 166 (bL.cells (bL.mk ln ri (bk.mk e_A e.length e_C) (bk.mk t_A tms.length t_C) (bk.mk fA fs.length (ln.ab.n+1)) (bk.mk bA bs.length (ln.ab.n+1))))),(own fA (ln.ab.n+1) 170 1 (List.zipWith e8 fs fb)),(bB (aX lD fs fb)),(own bA (ln.ab.n+1) 170 1 (List.zipWith e8 bs bb)),(bB (aX lD bs bb))] [(bB (q.map kI))] ?_
    refine hN _ _ _ (Et 1 U U<|gp (vs:=[]) trivial fun w hs=>NC (fs,fb,fA,(ln.ab.n+1),bs,bb,bA,(ln.ab.n+1)) 0 ?_ ?_ U (by show List.all _ _=true; simp only [eo,List.all_nil,nE,Bool.and_true]; rfl) hs)
    ·clear hs w hQ hN A3 A2 A1 AO Fa FS Ey Ec D8; rfl
    ·clear hs w hQ hN A3 A2 A1 AO Fa FS Ey Ec D8; exact ⟨M.ok (by show fs.length=e.length+1; omega),gF.ok (by have:=E; rwa [show ln.ab.n+1-j=0 by omega] at this) (by show bs.length=e.length+1; omega),dso,dso⟩
   refine WK A2<|ah fun _ Cx=>aA<|ah fun _ MA=>?_
   obtain ⟨b,RE⟩: ∃ b:Nat,b+j=ln.ab.n:=⟨ln.ab.n-j,om⟩
   rw [show (ln.ab.n:Int)-(j:Int)=(b:Int) from by omega]
   have Q7:(gr bb (ln.ab.n+1)).length=(ln.ab.n+1):=u_ om
   refine ek cE [5,12,13,15] [11] [0,1,2] [0,1,2,3,4,5,6,7,9,10] [0,1,2,3,4,5,6,7,8,9,10] U U U U U<|eS U (zU 4 U ct U)<|eS U (SX (bx U U) U U)<|eS U (FA 13 U fB U)<|eS U (Eh (vS bA (ln.ab.n+1) (ln.ab.n+1)) 3 U ct U U)<|eS U (zU 1 U ct U)<|eS U (SX (aZ (xs:=[]) (cs:=(ax.cells (ax.mk 0 0))) U U (bf yv U)) U U)<|eS U (zU 4 U ct U)<|eS U (SX (bx U U) U U)<|eS U (FA 7 U fB U)<|eS U (FA 8 U fB U)<|eS U (Eh (vI ri.iL) 3 U ct U U) ?_
   obtain ⟨Qv,QR⟩:=aM (gr bb (ln.ab.n+1)) b om
   have hx63m:(List.map oC (gr bb (ln.ab.n+1)))[b]? =some (oC Qv):=by rw [eX,QR]; rfl
   refine fS U (IA b U (ag (n:=(ln.ab.n+1)) 8 U sq) mJ dc om om) ?_
   refine ff U<|gZ U fun T64 QB=>my (kV:=dH) U U fun A=>?_
   try dsimp only
   refine aG (QB _ _ (aK [1,2,3,4,5,6,7,8,10,11]) (aK [1,2,3,4,5,6,7,8,9,10,11]) ?_)
   refine gZ U fun T66 QC=>?_
   have QJ:(dN ([]:List (ax×Int)) (ax.mk 0 0) ri.iL)=[((ax.mk 0 0),ri.iL)]:=by rfl
   refine u9 (kV:=dH) (x:=(ax.mk 0 0)) (C':=[(gQ dH A (bK iV ([((ax.mk 0 0),ri.iL)]))),_,_,_,_,_,_,_,_,_,_,_]) 0 U U U U nu nm U ((fI _ _ _ _).symm.trans (congrArg _ QJ)) U<|aG (QC _ _ (aK [1,2,3,4,5,6,7,8,10,11]) (aK [1,2,3,4,5,6,7,8,9,10,11]) ?_)
   refine gZ U fun T68 QD=>rS (MV U)<|aG (QD _ _ (aK [1,2,3,4,5,6,7,8,10,11]) (aK [1,2,3,4,5,6,7,8,9,10,11]) ?_)
   refine cf U fun T69 QE=>?_
   have QK:((gr bb (ln.ab.n+1)).set b (some A))=(gr (A::bb) (ln.ab.n+1)):=by exact CE om
   refine eg (k:=b) (o:=0) (vs:=[(Value.map (some A))]) (es':=(List.map oC (gr (A::bb) (ln.ab.n+1)))) (C':=[_,_,_,_,_,_,_,_,_,(own bA (ln.ab.n+1) 170 1 (List.map oC (gr (A::bb) (ln.ab.n+1)))),_,_]) 9 U U U EE U U U U hx63m U dc (by exact (List.map_set (f:=oC) (l:=(gr bb (ln.ab.n+1))) (i:=b) (a:=(some A))).symm.trans (congrArg _ QK)) U<|aG (QE _ _ (aK [1,2,3,4,5,6,7,8,10,11]) ?_)
   refine fV U<|KK MA<|ah fun _ Mi=>WS fun _ M2=>rP 3 [] (mc 2 U I) ?_
   refine RK M2<|cM U (aQ fun J9=>?_) (aR fun J9=>?_)
   ·refine bI<|ae<|aC<|KK Cx<|ah fun _ NE=>WS fun _ Ne=>fr 1 [] (mc 2 U I) U<|RK Ne<|an<|AL U hE fun QV=>CW U AZ U U<|RK NE<|an<|rP 2 [] (mc 0 U I) ?_
    refine CW U AZ U U<|aG ?_
    rw [show (b:Int)-1=(ln.ab.n:Int)-(((j+1):Nat):Int) from by omega]
    refine u7 (ms:=bs) (m:=[((ax.mk 0 0),ri.iL)]) (a:=A) 2 1 U U U ?_
    try dsimp only
    refine bg (Cp ⟨((j+1),([((ax.mk 0 0),ri.iL)]::bs),(A::bb),QV,q),⟨om,by simp; omega,by simp; omega,by exact gF.end_ (b:=b) E om om (by show e.length≤b; omega)⟩⟩ _ _ _ U os (aW U) (aK [0,1,3,4,5,6,7,8,9,10,11]))
   refine WK Mi<|ah fun _ Nn=>?_
   have Qn:(gr (A::bb) (ln.ab.n+1)).length=(ln.ab.n+1):=u_ (by simp; omega)
   obtain ⟨mb,N⟩:=aM bs 0 om
   obtain ⟨ga,Z⟩:=aM bb 0 om
   refine vW 1 N Z U U U ?_
   try dsimp only
   refine dF cE 8 kr<|mQ 1 [] (mc 6 U I) U<|dS (SX (bx U U) U U)<|dP 4 [0,1] (mr 5 U (mc 3 U I)) ?_
   have QP:(List.map oC (gr (A::bb) (ln.ab.n+1)))[(b+1)]? =some (oC (some ga)):=oc (qb (i:=1) (by simpa using Z) (by simp; omega))
   refine dS (IA (b+1) U (ag (n:=(ln.ab.n+1)) 10 U sq) mJ dc om om) ?_
   refine dS (g_ (b+1) 0 (Value.map (some ga)) U ct (ag (n:=(gr (A::bb) (ln.ab.n+1)).length) 10 U sm) QP U dc U)<|cQ<|qN 0 U U nu U U fun Ck=>?_
   try dsimp only
   refine RK Nn<|aA ?_
   have C:(∀ p∈mb,p∈mb)∧(sB (cj ln ri e tms) b ([((ax.mk 0 0),ri.iL)]))∧(iN (cj ln ri e tms) b mb ([((ax.mk 0 0),ri.iL)]) mb):=by exact ⟨fun p hp=>hp,sB.start (by show b<e.length; omega),iN.start⟩
   refine sN (ι:={z:FM×FM×(List Nat) // (∀ p∈z.1,p∈mb)∧(sB (cj ln ri e tms) b z.2.1)∧(iN (cj ln ri e tms) b mb z.2.1 z.1)}) (fun z=>z.1.2.2.map kq) (fun z=>[(0,(vP gw)),(1,(vP W)),(2,(vI (ln.ab.n:Int))),(12,(vP gq)),(171,(vP Ck))]) (fun z=>[(wk dH Ck ga (bK iV mb) (bK iV z.1.1) none),(bB (eM lD bs bb 0)),(gQ dH A (bK iV z.1.2.1)),(bQ gq 3 [(vI (b:Int))]),(bB (z.1.2.2.map kI)),(bQ gw 166 (bL.cells (bL.mk ln ri (bk.mk e_A e.length e_C) (bk.mk t_A tms.length t_C) (bk.mk fA (ln.ab.n+1) (ln.ab.n+1)) (bk.mk bA (ln.ab.n+1) (ln.ab.n+1))))).ro,(bQ W 121 [(vP gw)]),(rd e_A e.length 1 (e.map iC)).ro,(rd t_A tms.length 1 (List.zipWith e8 tms tb)).ro,(eY (aX nX tms tb)).ro,(own bA (ln.ab.n+1) 170 1 (List.map oC (gr (A::bb) (ln.ab.n+1)))),(bB (aX lD fs fb)),(own fA (ln.ab.n+1) 170 1 (List.map oC (cS fb (ln.ab.n+1))))]) (fun z=>z.1.1.length) ⟨(mb,[((ax.mk 0 0),ri.iL)],q),C⟩ U (aW U) (aK [0,1,2,3,4,5,6,7,8,9,10,11,12]) ?_
   clear C
   rintro ⟨⟨left,m,V⟩,⟨J,K,L⟩⟩ J80 Kx
   try dsimp only at J K L
   try dsimp only
   refine WS fun _ C0=>pS nm.inj (f:=iV) 0 U U U U (fun KU=>?_) (fun t v hm Id=>?_)
   ·refine bh 1 U<|RK C0<|ah fun _ Q6=>aS U<|bI<|ae<|ae<|aC<|aF<|KK Cx<|ah fun _ Nr=>WS fun _ N4=>fr 1 [] (mc 3 U I) U<|RK N4<|an<|AL U hE fun J4=>CW U AZ U U<|RK Nr<|an<|rP 2 [] (mc 0 U I) ?_
    refine CW U AZ U U<|aG<|Fi (C':=[(bQ J4 3 [(vI ((b:Int)-1))]),(gQ dH ga (bK iV mb)),(bB (eM lD bs bb 0)),(gQ dH A (bK iV m)),(bQ gq 3 [(vI (b:Int))]),(bB (V.map kI)),(bQ gw 166 (bL.cells (bL.mk ln ri (bk.mk e_A e.length e_C) (bk.mk t_A tms.length t_C) (bk.mk fA (ln.ab.n+1) (ln.ab.n+1)) (bk.mk bA (ln.ab.n+1) (ln.ab.n+1))))).ro,(bQ W 121 [(vP gw)]),(rd e_A e.length 1 (e.map iC)).ro,(rd t_A tms.length 1 (List.zipWith e8 tms tb)).ro,(eY (aX nX tms tb)).ro,(own bA (ln.ab.n+1) 170 1 (List.map oC (gr (A::bb) (ln.ab.n+1)))),(bB (aX lD fs fb)),(own fA (ln.ab.n+1) 170 1 (List.map oC (cS fb (ln.ab.n+1))))]) 1 U Ff U<|Gv 2 1 N Z U U U ?_
    try dsimp only
    rw [show (b:Int)-1=(ln.ab.n:Int)-(((j+1):Nat):Int) from by omega]
    refine u7 (ms:=bs) (m:=m) (a:=A) 0 2 U U U ?_
    try dsimp only
    refine bg (Cp ⟨((j+1),(m::bs),(A::bb),J4,V),⟨om,by simp; omega,by simp; omega,by exact gF.more (b:=b) E om om (by show b<e.length; omega) N K L KU⟩⟩ _ _ _ U os (aW U) (aK [0,1,3,4,5,6,7,8,9,10,11]))
   try dsimp only
   refine bh 1 U<|RK C0<|ah fun _ OM=>aL U<|WK OM<|aA<|WS fun _ Op=>rS (SX (p9 0 U U U) U U)<|bh 2 U<|AL U qm fun J5=>AL U hE fun J6=>sD U pC U<|CW U AZ U U<|RK Op<|WS fun _ Or=>rP 2 [0,1] (mc 8 U (mc 5 U I)) ?_
   refine cX (q9 gw b) (aD) U fun Qz Q9=>?_
   obtain ⟨DU,Do⟩:=Qz
   try dsimp only
   refine RK Or<|aA<|jC 11 U (by exact fun _ h=>h)<|jC 13 U (by exact fun _ h=>h)<|jC 15 U (by exact fun _ h=>h)<|jC 12 U (by exact fun _ h=>h) ?_
   refine l4 (L0:=[(0,(vP gw)),(1,(vP W)),(2,(vI (ln.ab.n:Int))),(12,(vP gq)),(13,(vP J5)),(14,(vP J6)),(171,(vP Ck))]) (F:=[(rd e_A e.length 1 (e.map iC)).ro,(rd t_A tms.length 1 (List.zipWith e8 tms tb)).ro,(eY (aX nX tms tb)).ro,(bQ gw 166 (bL.cells (bL.mk ln ri (bk.mk e_A e.length e_C) (bk.mk t_A tms.length t_C) (bk.mk fA (ln.ab.n+1) (ln.ab.n+1)) (bk.mk bA (ln.ab.n+1) (ln.ab.n+1))))).ro,(bQ DU 121 [(vP gw)]),(bQ Do 3 [(vI (b:Int))])]) (fun k (y:FM)=>(mD (cj ln ri e tms) b mb left y (t,v) k)) (fun k y=>[(bQ J6 3 [(vI v)]),(bQ J5 172 (ax.cells t)),(wk dH Ck ga (bK iV mb) (bK iV (bY left t)) (some (t,(vI v)))),(bB (eM lD bs bb 0)),(gQ dH A (bK iV y)),(bQ gq 3 [(vI (b:Int))]),(bB (V.map kI)),(bQ gw 166 (bL.cells (bL.mk ln ri (bk.mk e_A e.length e_C) (bk.mk t_A tms.length t_C) (bk.mk fA (ln.ab.n+1) (ln.ab.n+1)) (bk.mk bA (ln.ab.n+1) (ln.ab.n+1))))).ro,(bQ W 121 [(vP gw)]),(rd e_A e.length 1 (e.map iC)).ro,(rd t_A tms.length 1 (List.zipWith e8 tms tb)).ro,(eY (aX nX tms tb)).ro,(own bA (ln.ab.n+1) 170 1 (List.map oC (gr (A::bb) (ln.ab.n+1)))),(bB (aX lD fs fb)),(own fA (ln.ab.n+1) 170 1 (List.map oC (cS fb (ln.ab.n+1))))]) (fun _ (_:Unit)=>False) (fun _ _=>[]) [6,7,8,9,10,11,12,13,14,15,16,17,18,19,20] [3,2,1,0,4,5] m rfl rfl (pN ln ri e tms e_A e_C tb t_A t_C fA (ln.ab.n+1) (ln.ab.n+1) bA (ln.ab.n+1) (ln.ab.n+1) gw b DU Do om om) rfl rfl rfl (by exact mD.start K L) (by simp only [List.forall_mem_cons,List.not_mem_nil,false_imp_iff,implies_true,and_true]; exact ⟨⟨_,aT (i:=0) rfl,(eH (bU _))⟩,⟨_,aT (i:=1) rfl,(eH (bU _))⟩,⟨_,aT (i:=2) rfl,(eH (bU _))⟩,⟨_,aT (i:=3) rfl,(eH (bU _))⟩,⟨_,aT (i:=4) rfl,(bU _)⟩,⟨_,aT (i:=5) rfl,(bU _)⟩⟩) (by rintro k x k2 ⟨o,_,rfl,_⟩; rfl) rfl (aW rfl) ?_ ?_ (fun _ _ _ h=>h.elim) (fun _ _ h=>h.elim)
   rotate_left 1
   ·rintro QS k O A5 A9
    have D:=A9
    try dsimp only
    refine aF<|aF<|FF (X:=V.map kI) 13 0 U U ?_
    try dsimp only
    refine gi 9 U uM U ?_
    refine bg (Kx ⟨((bY left t),O,(QS::V)),⟨k7 J,D.on,D.next Id hm A5⟩⟩ _ _ _ U (er hm) (aW U) (aK [9,10,11,12,0,4,14,1,2,3,18,19,20]))
   rintro k x k2 O l ra rb S w1 K95 Qr96 Qq hx G6 Os AB Qx Q3
   obtain ⟨o,ho,rfl,rfl⟩:=hx
   have D:=G6
   try dsimp only
   refine WS fun _ PN=>rP 1 [] I ?_
   refine RK PN<|an<|AL U dk fun RC=>fG U cx U<|aG<|kv (fun _ _ h=>h) (aK [1,0,2,3,4,5,6,7,8,9,10,11,12,13,14,15,16])<|bg (Os _ _ ?_)
   refine aA<|ah fun _ EQ=>ek cE [16,18] [] [] [0,1,2,3,4,5,6,7,8,9,10,11,12,13,14,15,16] [] U U U U U<|eS U (zU 2 U ct U)<|eS U (FA 1 U fB U)<|eS U (L1 (vI o.2.Hi) 1 U ct U U) ?_
   have hp:=E.Pc (b:=b) om N (J _ hm)
   have Qi:=E0 hw hp
   have Qo:=uE o.1
   have Qp:=hw.opt ho
   dsimp only at Qi
   refine eS U (MN U)<|eS U (zU 10 U ct U)<|eS U (SX (bx U U) U U)<|eS U (FA 10 U fB U)<|eS U (Eh (vS e_A e.length e_C) 9 U ct U U)<|eS U (zU 7 U ct U) ?_
   obtain ⟨y,hy⟩:=aM e b om
   have If:=bW iC hy
   refine eS U (IA b U (aJ 11 U) cy dc om om)<|eS U (g_ b 0 (vI y) U ct (aJ 11 U) If U dc U) ?_
   have Ql:=hw.least y (aT hy)
   refine eS U (BI U (pA ⟨om,om⟩))<|eS U (LW 3 U ct U U)<|eS U (MV U)<|eS U (CL (EL o.1) (aD) U)<|eS U (CL (sW t (e9 o.1) om om) (aD) U)<|eS U (AG U)<|ff U<|cf U fun T101 Fd=>AL U qm fun Q4=>aG (Fd _ _ (aK [1,2,3,4,5,6,7,8,9,10,11,12,13,14,15,16,17]) ?_)
   refine cf U fun T103 Fn=>fG U pC U<|aG (Fn _ _ (aK [1,2,3,4,5,6,7,8,9,10,11,12,13,14,15,16,17]) ?_)
   refine fV U<|KK EQ<|ah fun _ EY=>dF cE 14 kr<|mQ 1 [] (mc 11 U I) U<|dS (SX (bx U U) U U)<|dP 3 [0,1] (mr 10 U (mc 8 U I)) ?_
   have HA:(List.map oC (gr (A::bb) (ln.ab.n+1)))[b]? =some (oC (some A)):=oc (qb (i:=0) rfl (by simp; omega))
   refine dS (IA b U (ag (n:=(ln.ab.n+1)) 15 U sq) mJ dc om om) ?_
   refine dS (g_ b 0 (Value.map (some A)) U ct (ag (n:=(gr (A::bb) (ln.ab.n+1)).length) 15 U sm) HA U dc U)<|mQ 1 [] (mc 0 U I) U<|dS (SX (jM (kV:=dH) (x:=(d_ t (e9 o.1))) (l:=O) (f:=iV) (z:=0) U U U nu nm P8 (by exact aJ 7 U)) U U)<|lQ 5 U<|cQ<|RK EY<|WS fun _ Y=>fr 3 [0,1] (mc 3 U (mc 2 U I)) U<|rS (MN U)<|rP 4 [] (mc 2 U I) ?_
   refine cb (t:=217) U (aR fun T=>?_) (aQ fun T=>?_)
   ·refine rP 8 [] I ?_
    refine RK Y<|aS U<|cr<|aF ?_
    exact AB O _ _ (by exact D.skip (Ig T)) (aK [1,3,4,5,6,7,8,9,10,11,12,13,14,15,16,17])
   refine rP 3 [] I ?_
   refine cK (t:=220) U (fun AA=>?_) (fun AA=>?_)
   ·rw [Bool.not_eq_true'] at AA
    refine bh 5 U<|RK Y<|aL U<|dF cE 9 kr<|mQ 1 [] (mc 11 U I) U<|dS (SX (bx U U) U U)<|dP 3 [0,1] (mr 10 U (mc 8 U I)) ?_
    have H1:(List.map oC (gr (A::bb) (ln.ab.n+1)))[b]? =some (oC (some A)):=oc (qb (i:=0) rfl (by simp; omega))
    refine dS (IA b U (ag (n:=(ln.ab.n+1)) 15 U sq) mJ dc om om) ?_
    refine dS (g_ b 0 (Value.map (some A)) U ct (ag (n:=(gr (A::bb) (ln.ab.n+1)).length) 15 U sm) H1 U dc U)<|dP 2 [] (mc 0 U I) ?_
    refine cQ<|ig (kV:=dH) (x:=(d_ t (e9 o.1))) (C':=[_,_,_,_,_,_,_,(gQ dH A (bK iV (dN O (d_ t (e9 o.1)) ((min v o.2.Hi)-y)))),_,_,_,_,_,_,_,_,_,_]) 7 U U U U nu nm U (fI _ _ _ _).symm U<|aG<|aF ?_
    exact AB (dN O (d_ t (e9 o.1)) ((min v o.2.Hi)-y)) _ _ (by exact D.set (by show b<e.length; omega) hp ho (xu hy T) (.inl (by simpa using AA))) (aK [1,3,4,5,6,7,8,9,10,11,12,13,14,15,16,17])
   rw [Bool.not_eq_false'] at AA
   refine rP 5 [] I ?_
   refine RK Y<|bT U (aR fun AC=>?_) (aQ fun AC=>?_)
   ·refine cr<|aF ?_
    exact AB O _ _ (by exact D.mZ (xu hy T) (by simpa using AA) AC) (aK [1,3,4,5,6,7,8,9,10,11,12,13,14,15,16,17])
   refine dF cE 9 kr<|mQ 1 [] (mc 11 U I) U<|dS (SX (bx U U) U U)<|dP 3 [0,1] (mr 10 U (mc 8 U I)) ?_
   have IF:(List.map oC (gr (A::bb) (ln.ab.n+1)))[b]? =some (oC (some A)):=oc (qb (i:=0) rfl (by simp; omega))
   refine dS (IA b U (ag (n:=(ln.ab.n+1)) 15 U sq) mJ dc om om) ?_
   refine dS (g_ b 0 (Value.map (some A)) U ct (ag (n:=(gr (A::bb) (ln.ab.n+1)).length) 15 U sm) IF U dc U)<|dP 2 [] (mc 0 U I) ?_
   refine cQ<|ig (kV:=dH) (x:=(d_ t (e9 o.1))) (C':=[_,_,_,_,_,_,_,(gQ dH A (bK iV (dN O (d_ t (e9 o.1)) ((min v o.2.Hi)-y)))),_,_,_,_,_,_,_,_,_,_]) 7 U U U U nu nm U (fI _ _ _ _).symm U<|aG<|aF ?_
   exact AB (dN O (d_ t (e9 o.1)) ((min v o.2.Hi)-y)) _ _ (by exact D.set (by show b<e.length; omega) hp ho (xu hy T) (.inr AC)) (aK [1,3,4,5,6,7,8,9,10,11,12,13,14,15,16,17])
  refine ek cE [4,11,12,14] [10] [0,1,2] [0,1,2,3,4,6] [0,1,2,3,4,5,6] U U U U U<|eS U (zU 1 U ct U)<|eS U (SX (bx U U) U U)<|eS U (FA 12 U fB U)<|eS U (Eh (vS fA (ln.ab.n+1) (ln.ab.n+1)) 0 U ct U U)<|eS U (SX (aZ (xs:=[]) (cs:=(ax.cells (ax.mk 0 0))) U U (bf yv U)) U U)<|eS U (zU 1 U ct U)<|eS U (SX (bx U U) U U)<|eS U (FA 7 U fB U)<|eS U (FA 7 U fB U)<|eS U (Eh (vI ri.Start) 0 U ct U U) ?_
  obtain ⟨x6,Qr⟩:=aM (List.replicate (ln.ab.n+1) (none:Option Nat)) 0 om
  have hx7m:(List.map oC (List.replicate (ln.ab.n+1) (none:Option Nat)))[0]? =some (oC x6):=by rw [eX,Qr]; rfl
  refine fS U (IA 0 U (ag (n:=(ln.ab.n+1)) 5 U sq) mJ dc U om) ?_
  refine ff U<|gZ U fun T8 GE=>my (kV:=dH) U U fun r=>?_
  try dsimp only
  refine aG (GE _ _ (aK [1,2,3,4,5,7]) (aK [1,2,3,4,5,6,7]) ?_)
  refine gZ U fun T10 G=>?_
  have QF:(dN ([]:List (ax×Int)) (ax.mk 0 0) ri.Start)=[((ax.mk 0 0),ri.Start)]:=by rfl
  refine u9 (kV:=dH) (x:=(ax.mk 0 0)) (C':=[(gQ dH r (bK iV ([((ax.mk 0 0),ri.Start)]))),_,_,_,_,_,_,_]) 0 U U U U nu nm U ((fI _ _ _ _).symm.trans (congrArg _ QF)) U<|aG (G _ _ (aK [1,2,3,4,5,7]) (aK [1,2,3,4,5,6,7]) ?_)
  refine gZ U fun T12 PP=>rS (MV U)<|aG (PP _ _ (aK [1,2,3,4,5,7]) (aK [1,2,3,4,5,6,7]) ?_)
  refine cf U fun T13 PX=>?_
  have QG:((List.replicate (ln.ab.n+1) (none:Option Nat)).set 0 (some r))=(cS [r] (ln.ab.n+1)):=by rw [qY]; exact pd rfl sm
  refine eg (k:=0) (o:=0) (vs:=[(Value.map (some r))]) (es':=(List.map oC (cS [r] (ln.ab.n+1)))) (C':=[_,_,_,_,_,_,(own fA (ln.ab.n+1) 170 1 (List.map oC (cS [r] (ln.ab.n+1)))),_]) 6 U U U EE U U U U hx7m U dc (by exact (List.map_set (f:=oC) (l:=(List.replicate (ln.ab.n+1) (none:Option Nat))) (i:=0) (a:=(some r))).symm.trans (congrArg _ QG)) U<|aG (PX _ _ (aK [1,2,3,4,5,7]) ?_)
  refine fV U<|K6<|yl (X:=[]) (X':=aX lD [[((ax.mk 0 0),ri.Start)]] [r]) 0 1 U U U ?_
  try dsimp only
  refine bg (kv (aW U) (aK [1,2,3,4,5,7,0,6]) (QZ ⟨r,trivial⟩))
 refine pj cE [0,1,2,3,5,6,8,9,11,12] [4,7,10,13] [false,false,false,false,false,false,false,false,false,false] [] [(bQ W 121 [(vP gw)]),(rd e_A e.length 1 (e.map iC)).ro,(rd t_A tms.length 1 (List.zipWith e8 tms tb)).ro,(eY (aX nX tms tb)).ro] [] kr (aK [0,2,3,4]) (aK [])<|eS U (zU 0 U ct U)<|eS U (zU 0 U ct U)<|eS U (MV U)<|eS U (BI U (gP ⟨om,om⟩))<|eS U (MV U)<|eS U (BI U (gP ⟨om,om⟩))<|eS U (SX (bx U U) U U)<|eS U (FA 12 U fB U)<|eS U (SX (bx U U) U U)<|eS U (FA 13 U fB U)<|ff U<|g6 [4,7] kr (dW ?_<|dW ?_<|jG)
 rotate_left 1
 ·refine NO U U [4,10,13] fun T5 F2=>?_
  refine uk (n:=(ln.ab.n+1)) (es:=(List.map oC (List.replicate (ln.ab.n+1) (none:Option Nat)))) U U U zf om om (by simp only [maxLen]; omega) (by rw [List.map_replicate]; rfl) U fun b6=>?_
  try dsimp only
  refine aG (F2 _ _ (aK [1,3,4,5]) ?_)
  refine N1 4<|NO U U [10,13] fun T7 A4=>?_
  refine uk (n:=(ln.ab.n+1)) (es:=(List.map oC (List.replicate (ln.ab.n+1) (none:Option Nat)))) U U U zf om om (by simp only [maxLen]; omega) (by rw [List.map_replicate]; rfl) U fun b8=>?_
  try dsimp only
  refine aG (A4 _ _ (aK [2,4,5,6]) ?_)
  refine N1 10<|NO U U [13] fun T9 GT=>Ml (bL.cells (bL.mk ln ri (bk.mk e_A e.length e_C) (bk.mk t_A tms.length t_C) (bk.mk (some ⟨b8,0,none⟩) (ln.ab.n+1) (ln.ab.n+1)) (bk.mk none 0 0))) U wg U U<|aG (GT _ _ (aK [2,4,5,6]) ?_)
  refine N1 13<|NO U U [] fun T10 G=>Ml (bL.cells (bL.mk ln ri (bk.mk e_A e.length e_C) (bk.mk t_A tms.length t_C) (bk.mk (some ⟨b8,0,none⟩) (ln.ab.n+1) (ln.ab.n+1)) (bk.mk (some ⟨b6,0,none⟩) (ln.ab.n+1) (ln.ab.n+1)))) U wg U U<|aG (G _ _ (aK [2,4,5,6]) ?_)
  refine n_ ?_
  refine bg (kv (aW U) (aK [2,4,5,6,0,1,3]) (Eq ⟨((some ⟨b8,0,none⟩),(some ⟨b6,0,none⟩)),trivial⟩))
 refine NO U U [7,10,13] fun T5 F2=>?_
 refine uk (n:=(ln.ab.n+1)) (es:=(List.map oC (List.replicate (ln.ab.n+1) (none:Option Nat)))) U U U zf om om (by simp only [maxLen]; omega) (by rw [List.map_replicate]; rfl) U fun b6=>?_
 try dsimp only
 refine aG (F2 _ _ (aK [1,3,4,5]) ?_)
 refine g6 [7,10] kr (dW ?_<|dW ?_<|jG)
 rotate_left 1
 ·refine NO U U [7,13] fun T7 A4=>Qh (bL.cells (bL.mk ln ri (bk.mk e_A e.length e_C) (bk.mk t_A tms.length t_C) (bk.mk (some ⟨b6,0,none⟩) (ln.ab.n+1) (ln.ab.n+1)) (bk.mk none 0 0))) U wg U U<|aG (A4 _ _ (aK [1,3,4,5]) ?_)
  refine N1 7<|NO U U [13] fun T8 GE=>?_
  refine uk (n:=(ln.ab.n+1)) (es:=(List.map oC (List.replicate (ln.ab.n+1) (none:Option Nat)))) U U U zf om om (by simp only [maxLen]; omega) (by rw [List.map_replicate]; rfl) U fun r=>?_
  try dsimp only
  refine aG (GE _ _ (aK [2,4,5,6]) ?_)
  refine N1 13<|NO U U [] fun T10 G=>Ml (bL.cells (bL.mk ln ri (bk.mk e_A e.length e_C) (bk.mk t_A tms.length t_C) (bk.mk (some ⟨b6,0,none⟩) (ln.ab.n+1) (ln.ab.n+1)) (bk.mk (some ⟨r,0,none⟩) (ln.ab.n+1) (ln.ab.n+1)))) U wg U U<|aG (G _ _ (aK [2,4,5,6]) ?_)
  refine n_ ?_
  refine bg (kv (aW U) (aK [2,4,5,6,1,0,3]) (Eq ⟨((some ⟨b6,0,none⟩),(some ⟨r,0,none⟩)),trivial⟩))
 refine NO U U [10,13] fun T7 A4=>?_
 refine uk (n:=(ln.ab.n+1)) (es:=(List.map oC (List.replicate (ln.ab.n+1) (none:Option Nat)))) U U U zf om om (by simp only [maxLen]; omega) (by rw [List.map_replicate]; rfl) U fun b8=>?_
 try dsimp only
 refine aG (A4 _ _ (aK [2,4,5,6]) ?_)
 refine N1 10<|NO U U [13] fun T9 GT=>Ml (bL.cells (bL.mk ln ri (bk.mk e_A e.length e_C) (bk.mk t_A tms.length t_C) (bk.mk (some ⟨b6,0,none⟩) (ln.ab.n+1) (ln.ab.n+1)) (bk.mk none 0 0))) U wg U U<|aG (GT _ _ (aK [2,4,5,6]) ?_)
 refine N1 13<|NO U U [] fun T10 G=>Ml (bL.cells (bL.mk ln ri (bk.mk e_A e.length e_C) (bk.mk t_A tms.length t_C) (bk.mk (some ⟨b6,0,none⟩) (ln.ab.n+1) (ln.ab.n+1)) (bk.mk (some ⟨b8,0,none⟩) (ln.ab.n+1) (ln.ab.n+1)))) U wg U U<|aG (G _ _ (aK [2,4,5,6]) ?_)
 refine n_ ?_
 refine bg (kv (aW U) (aK [2,4,5,6,1,0,3]) (Eq ⟨((some ⟨b6,0,none⟩),(some ⟨b8,0,none⟩)),trivial⟩))
end
section
open Go.RowKit
theorem zR (l:bo) (kA:OA) (kC:Nat) (az:List RA) (cA:OA) (cC:Nat) (bA:OA) (bC g1:Nat) (bm:Int) (g2:Nat) (hin:eA l az):
 dR Tryz.prog 59 [(vP g1),(vP g2)] [(rd kA l.aN.length 9 (l.aN.map ai.cells)),(rd cA l.ak.length 2 (List.zipWith av.cells l.ak az)),(eY (aX av.ja l.ak az)),(rd bA l.ab.length 4 (l.ab.map bM.cells)),(bQ g1 28 (cu.cells (ko l kA kC cA cC bA bC))),(bQ g2 3 [(vI bm)])] (vI (iS l bm)):=by
 have K:=hin.ux
 have J:=hin.s_
 have H:=hin.o4
 have AA:=hin.tW
 refine bE kr Tryz.func59 U U fun L Q hQ hN=>?_
 try dsimp only
 refine WS fun _ B=>bh 1 U<|RK B<|ah fun _ C=>WS fun _ D=>rP 5 [0,1] (mr 4 U (mr 5 U I)) ?_
 refine cH (xs:=[.tmp 7]) (cs:=[(vI bm)]) U cy hE U U U U (by simp [Value.cells]) U U fun G=>?_
 refine rS (CL (dR.eq (gf 0 ((l.ab.length:Int)-1) ([bm]) (some ⟨G,0,none⟩) 1 (by (simp; done))) cp) (al (aV 0 U U (by simp [bu]) U)<|aD) U) ?_
 refine rP 1 [] I ?_
 refine RK D<|cM U (bq fun A=>?_) (bp fun A=>?_)
 ·refine WS fun _ E=>rP 1 [] I ?_
  refine RK E<|ao<|Q1 hQ U U U ?_
  exact cI (if_neg om).symm
 refine WK C<|WS fun _ F=>rP 1 [] I ?_
 refine RK F<|ao<|Q1 hQ U U U ?_
 exact cI (if_pos om).symm
theorem IY (l:bo) (kA:OA) (kC:Nat) (az:List RA) (cA:OA) (cC:Nat) (bA:OA) (bC:Nat) (r:dw) (sgA:OA) (sgC:Nat) (hin:eA l az) (hsl:r.aj.length≤1000000):
 lq Tryz.prog 58 [(vA (cu.cells (ko l kA kC cA cC bA bC))),(vA (eC.cells (kT r sgA sgC))),(vS none 0 0)] [(rd kA l.aN.length 9 (l.aN.map ai.cells)),(rd cA l.ak.length 2 (List.zipWith av.cells l.ak az)),(eY (aX av.ja l.ak az)),(rd bA l.ab.length 4 (l.ab.map bM.cells)),(rd sgA r.aj.length 2 (r.aj.map aH.cells))] (fun (x:Bool×Int×Nat×(OA)×Nat×(OA)×Nat×(List Nat)×(List FM)×(List Nat)×(OA)×Nat×(List FM)×(List Nat)×(OA)×Nat)=>bif x.1 then (vT [(Value.pointer (some ⟨x.2.2.1,0,none⟩)),(vI 0)]) else (vT [(Value.pointer none),(vI x.2.1)])) (fun (x:Bool×Int×Nat×(OA)×Nat×(OA)×Nat×(List Nat)×(List FM)×(List Nat)×(OA)×Nat×(List FM)×(List Nat)×(OA)×Nat)=>(x.1=true→(ed l r 0=0∧rI (cz l r) x.2.2.2.2.2.2.2.2.1∧pZ (cz l r) x.2.2.2.2.2.2.2.2.2.2.2.2.1∧x.2.2.2.2.2.2.2.2.2.1.length=x.2.2.2.2.2.2.2.2.1.length∧x.2.2.2.2.2.2.2.2.2.2.2.2.2.1.length=x.2.2.2.2.2.2.2.2.2.2.2.2.1.length∧x.2.2.2.2.2.2.2.1.length=(bZ l r.aj r.aj.length).length))∧(x.1=false→(x.2.1=ed l r 0∧ ¬ ed l r 0=0))) (fun (x:Bool×Int×Nat×(OA)×Nat×(OA)×Nat×(List Nat)×(List FM)×(List Nat)×(OA)×Nat×(List FM)×(List Nat)×(OA)×Nat)=>bif x.1 then [(bQ x.2.2.1 166 (bL.cells (bL.mk (ko l kA kC cA cC bA bC) (kT r sgA sgC) (bk.mk x.2.2.2.1 ((cZ l l.ab.length).length) x.2.2.2.2.1) (bk.mk x.2.2.2.2.2.1 ((bZ l r.aj r.aj.length).length) x.2.2.2.2.2.2.1) (bk.mk x.2.2.2.2.2.2.2.2.2.2.1 x.2.2.2.2.2.2.2.2.1.length x.2.2.2.2.2.2.2.2.2.2.2.1) (bk.mk x.2.2.2.2.2.2.2.2.2.2.2.2.2.2.1 x.2.2.2.2.2.2.2.2.2.2.2.2.1.length x.2.2.2.2.2.2.2.2.2.2.2.2.2.2.2)))),(own x.2.2.2.1 x.2.2.2.2.1 3 1 ((cZ l l.ab.length).map iC)),(own x.2.2.2.2.2.1 x.2.2.2.2.2.2.1 40 1 (List.zipWith e8 (bZ l r.aj r.aj.length) x.2.2.2.2.2.2.2.1)),(bB (aX nX (bZ l r.aj r.aj.length) x.2.2.2.2.2.2.2.1)),(own x.2.2.2.2.2.2.2.2.2.2.1 x.2.2.2.2.2.2.2.2.2.2.2.1 170 1 (List.zipWith e8 x.2.2.2.2.2.2.2.2.1 x.2.2.2.2.2.2.2.2.2.1)),(bB (aX lD x.2.2.2.2.2.2.2.2.1 x.2.2.2.2.2.2.2.2.2.1)),(own x.2.2.2.2.2.2.2.2.2.2.2.2.2.2.1 x.2.2.2.2.2.2.2.2.2.2.2.2.2.2.2 170 1 (List.zipWith e8 x.2.2.2.2.2.2.2.2.2.2.2.2.1 x.2.2.2.2.2.2.2.2.2.2.2.2.2.1)),(bB (aX lD x.2.2.2.2.2.2.2.2.2.2.2.2.1 x.2.2.2.2.2.2.2.2.2.2.2.2.2.1))] else []):=by
 have QJ:=hin.ux
 have QH:=hin.s_
 have QF:=hin.o4
 have QG:=hin.tW
 have QI:=hin.side
 refine de kr Tryz.func58 U U fun w0 Q hQ hN=>?_
 try dsimp only
 refine WS fun _ L2=>fY U fun b2=>fY U fun b3=>bh 2 U<|RK L2<|ah fun _ MA=>WS fun _ Mi=>fr 1 [] (mc 1 U I) U<|rS (CL (uw l kA kC az cA cC bA bC hin) (a_ [2,3,4,5]) U)<|bh 1 U<|RK Mi<|WS fun _ M2=>rP 2 [] I ?_
 refine RK M2<|cM U (bq fun B=>?_) (bp fun B=>?_)
 ·refine WS fun _ NE=>rP 3 [] I ?_
  refine RK NE<|ao ?_
  refine LX hQ (false,(eU l),0,none,0,none,0,[],[],[],none,0,[],[],none,0) [] [] I U (by first|rfl|(show List.all _ _=true; simp only [cond_true,eo,List.all_nil,nE,oz,Bool.and_true]; rfl)) U U ?_
  refine ⟨AW,fun _=>?_⟩; first|exact xJ (gH (r:=r) (me:=0) B) B|exact j1 (cJ (me:=0) A (fun q:fh l r=>by have p:=q.time; have s:=q.len; omega))|exact j1 (cJ (me:=0) A (jn hx (by unfold g9 iJ; omega)))|exact j1 (gh (me:=0) A H (by first|rfl|exact h156) (show gl (cz l r)=[] from iz (Int.natCast_eq_zero.1 C)))
 refine WK MA<|ah fun _ Ne=>WS fun _ w=>?_
 have A:eU l=0:=B
 obtain ⟨K0,e⟩:=ji A
 have Nr:=e.head
 unfold gE at Nr
 refine rP 2 [] (mc 0 U I) ?_
 refine cH (xs:=[.tmp 24]) (cs:=[(vI r.Start)]) U cy hE U U U U (by simp [Value.cells]) U U fun LE=>?_
 refine rS (CL (dR.eq (gf 0 86400000 ([r.Start]) (some ⟨LE,0,none⟩) 1 sd) cp) (al (aV 0 U U (by simp [bu]) U)<|aD) U) ?_
 refine rP 2 [] I ?_
 refine cK (t:=28) U (bq fun Li=>?_) (bp fun Li=>?_)
 ·refine bh 14 U<|RK w<|aL U<|WS fun _ A7=>rP 2 [] I ?_
  refine RK A7<|ao ?_
  refine LX hQ (false,51,0,none,0,none,0,[],[],[],none,0,[],[],none,0) [] [] I U (by first|rfl|(show List.all _ _=true; simp only [cond_true,eo,List.all_nil,nE,oz,Bool.and_true]; rfl)) U U ?_
  refine ⟨AW,fun _=>?_⟩; first|exact xJ (gH (r:=r) (me:=0) B) B|exact j1 (cJ (me:=0) A (fun q:fh l r=>by have p:=q.time; have s:=q.len; omega))|exact j1 (cJ (me:=0) A (jn hx (by unfold g9 iJ; omega)))|exact j1 (gh (me:=0) A H (by first|rfl|exact h156) (show gl (cz l r)=[] from iz (Int.natCast_eq_zero.1 C)))
 refine rP 4 [] (mc 1 U I) ?_
 refine cH (xs:=[.tmp 32]) (cs:=[(vI r.iL)]) U cy hE U U U U (by simp [Value.cells]) U U fun LH=>?_
 refine rS (CL (dR.eq (gf r.Start 86400000 ([r.iL]) (some ⟨LH,0,none⟩) 1 sd) cp) (al (aV 0 U U (by simp [bu]) U)<|aD) U) ?_
 refine rP 3 [] I ?_
 refine cK (t:=37) U (bq fun Lm=>?_) (bp fun Lm=>?_)
 ·refine bh 5 U<|RK w<|aL U<|WS fun _ A8=>rP 2 [] I ?_
  refine RK A8<|ao ?_
  refine LX hQ (false,51,0,none,0,none,0,[],[],[],none,0,[],[],none,0) [] [] I U (by first|rfl|(show List.all _ _=true; simp only [cond_true,eo,List.all_nil,nE,oz,Bool.and_true]; rfl)) U U ?_
  refine ⟨AW,fun _=>?_⟩; first|exact xJ (gH (r:=r) (me:=0) B) B|exact j1 (cJ (me:=0) A (fun q:fh l r=>by have p:=q.time; have s:=q.len; omega))|exact j1 (cJ (me:=0) A (jn hx (by unfold g9 iJ; omega)))|exact j1 (gh (me:=0) A H (by first|rfl|exact h156) (show gl (cz l r)=[] from iz (Int.natCast_eq_zero.1 C)))
 refine rP 5 [] (mc 2 U I) ?_
 refine RK w<|cM U (aQ fun Lo=>?_) (aR fun Lo=>?_)
 ·refine WS fun _ A9=>rP 2 [] I ?_
  refine RK A9<|ao ?_
  refine LX hQ (false,51,0,none,0,none,0,[],[],[],none,0,[],[],none,0) [] [] I U (by first|rfl|(show List.all _ _=true; simp only [cond_true,eo,List.all_nil,nE,oz,Bool.and_true]; rfl)) U U ?_
  refine ⟨AW,fun _=>?_⟩; first|exact xJ (gH (r:=r) (me:=0) B) B|exact j1 (cJ (me:=0) A (fun q:fh l r=>by have p:=q.time; have s:=q.len; omega))|exact j1 (cJ (me:=0) A (jn hx (by unfold g9 iJ; omega)))|exact j1 (gh (me:=0) A H (by first|rfl|exact h156) (show gl (cz l r)=[] from iz (Int.natCast_eq_zero.1 C)))
 refine WK Ne<|WS fun _ B3=>rS (SX (aZ (xs:=[(0,.const (vI (-1)))]) (cs:=(aH.cells (aH.mk (-1) 0))) U U (bf zl U)) U U)<|AL U yW fun Y=>fG U n8 U<|RK B3<|ah fun _ B7=>ek cE [5,6,7,8] [] [] [0,1,2,3,4,5,6,7,8,9] [] U U U U U<|eS U (LW 4 U ct U U)<|eS U (LW 3 U ct U U)<|eS U (FA 3 U fB U)<|eS U (L1 (vS bA l.ab.length bC) 4 U ct U U)<|eS U (LN U IQ)<|ff U<|cf U fun T18 Gy=>?_
 refine uk (n:=l.ab.length) (es:=(List.map oC (List.replicate l.ab.length (none:Option Nat)))) U U U Kt om om (by simp only [maxLen]; omega) (by rw [List.map_replicate]; rfl) U fun E=>?_
 try dsimp only
 refine aG (Gy _ _ (aK [1,2,3,4,5,6,7,8,9,10]) ?_)
 refine cf U fun T20 G6=>rS (SX (aZ (xs:=[(0,.tmp 44),(1,.tmp 45),(3,.tmp 49)]) (cs:=(bL.cells (bL.mk (ko l kA kC cA cC bA bC) (kT r sgA sgC) (bk.mk none 0 0) (bk.mk (some ⟨E,0,none⟩) l.ab.length l.ab.length) (bk.mk none 0 0) (bk.mk none 0 0)))) U U (bf J_ U)) U U)<|aG (G6 _ _ (aK [1,2,3,4,5,6,7,8,9,10]) ?_)
 refine cf U fun T21 HA=>fY U fun M=>aG (HA _ _ (aK [2,3,4,5,6,7,8,9,10,11]) ?_)
 refine cf U fun T23 Hi=>rS (AG U)<|aG (Hi _ _ (aK [2,3,4,5,6,7,8,9,10,11]) ?_)
 refine fV U<|KK B7<|ah fun _ B9=>WS fun _ Ci=>rP 4 [] (mc 6 U I) ?_
 refine RK Ci<|aA ?_
 rw [qY]
 refine gI 3 1<|nJ ?_
 have G:(0≤l.ab.length)∧(([]:List Nat).length=0):=by exact ⟨Nat.zero_le _,rfl⟩
 refine bR (ι:={z:Nat×(OA)×Nat×(List Nat) // (z.1≤l.ab.length)∧(z.2.2.2.length=z.1)}) [2,3,4,6,7,9,10,54] [4,7,8,9,10,11,12,13] U U (fun z=>[(55,(vI (z.1.1:Int)))]) (fun z=>[(bB (aX nX (List.replicate z.1.1 ([]:TM)) z.1.2.2.2)),(own z.1.2.1 z.1.2.2.1 3 1 ((cZ l z.1.1).map iC)),(bQ M 166 (bL.cells (bL.mk (ko l kA kC cA cC bA bC) (kT r sgA sgC) (bk.mk z.1.2.1 ((cZ l z.1.1).length) z.1.2.2.1) (bk.mk (some ⟨E,0,none⟩) l.ab.length l.ab.length) (bk.mk none 0 0) (bk.mk none 0 0)))),(own (some ⟨E,0,none⟩) l.ab.length 40 1 (List.map oC (cS z.1.2.2.2 l.ab.length)))]) (fun _=>rfl) (fun _=>rfl) (fun z=>l.ab.length-z.1.1) ⟨(0,none,0,([]:List Nat)),G⟩ (aW U) (aK [4,7,8,9,10,11,12,13,0,1,2,3]) ?_
 clear G
 rintro ⟨⟨b,a,c,fb⟩,⟨y,Z⟩⟩ J26 A6
 try dsimp only at y Z
 try dsimp only
 have OM:(cS fb l.ab.length).length=l.ab.length:=lY om
 refine WS fun _ Ck=>rP 1 [] I ?_
 refine RK Ck<|ah fun _ Cp=>cM U (aQ fun Lk=>?_) (aR fun Lk=>?_)
 ·refine WK Cp<|ah fun _ Cu=>aA<|WS fun _ Cx=>rP 2 [] I ?_
  refine RK Cx<|ah fun _ C0=>ek cE [12,13,16] [4] [0] [0,1,2,3,4,5,6,7,8,11] [0,1,2,3,4,5,6,7,8,9,10,11] U U U U U<|eS U (MV U)<|eS U (MV U)<|eS U (SX (bx U U) U U)<|eS U (FA 10 U fB U)<|fS U (L1 (vS a ((cZ l b).length) c) 10 U ct U U)<|eS U (LW 2 U ct U U)<|eS U (MV U) ?_
  refine eS U (CL (ET l kA kC az cA cC bA bC (b:Int) hin sd (by exact e.uT) sd) (a_ [3,4,5,6]) U) ?_
  have QK:=F_ K0 e.uT b
  have QL:=e.N4 b om
  simp only [Int.toNat_natCast]
  refine eS U (BI U (Bp ⟨om,om⟩))<|eS U (FA 1 U fB U)<|eS U (L1 (vI l.gN) 2 U ct U U) ?_
  refine eS U (CL (EU (1000*(kp l (b:Int).toNat)) l.gN sd sd) (aD) U) ?_
  refine eS U (SX (bx U U) U U)<|eS U (FA 10 U fB U)<|ff U<|gZ U fun T33 H1=>cH (xs:=[.tmp 69]) (cs:=[(vI (sK (1000*(kp l (b:Int).toNat)) l.gN))]) U cy hE U U U U (by simp [Value.cells]) U U fun P9=>aG (H1 _ _ (aK [1,2,3,4,5,6,7,8,9,12]) (aK [1,2,3,4,5,6,7,8,9,10,11,12]) ?_)
  refine cf U fun T35 IF=>?_
  refine ei (es2:=(List.map iC (cZ l (b+1)))) (m':=(cZ l (b+1)).length) 10 U U U rF U U (by simp [cT]) (aV (es:=List.map iC [(sK (1000*(kp l (b:Int).toNat)) l.gN)]) 0 U U (by simp [bu]) U) (ly _) (by have:=cT (l:=l) (n:=b); first|omega|(simp; omega)) (by simp only [maxLen,cT]; omega) (by rw [rV]; simp [pX]) (by simp [cT]) U fun A0 A1=>?_
  try dsimp only
  refine aG (IF _ _ (aK [1,2,3,4,5,6,7,8,9,12]) ?_)
  refine cf U fun T38 IO=>O1 (bL.cells (bL.mk (ko l kA kC cA cC bA bC) (kT r sgA sgC) (bk.mk A0 ((cZ l (b+1)).length) A1) (bk.mk (some ⟨E,0,none⟩) l.ab.length l.ab.length) (bk.mk none 0 0) (bk.mk none 0 0))) U wm U U<|aG (IO _ _ (aK [1,2,3,4,5,6,7,8,9,12]) ?_)
  refine fV U<|KK C0<|an<|bh 1 U<|rS (SX (bx U U) U U)<|rP 3 [] (mc 11 U I) ?_
  refine my (kV:=iV) U U fun K=>?_
  try dsimp only
  obtain ⟨Os,K5⟩:=aM (cS fb l.ab.length) b om
  have hx41m:(List.map oC (cS fb l.ab.length))[b]? =some (oC Os):=by rw [eX,K5]; rfl
  refine rS (IA b U (ag (n:=l.ab.length) 13 U sq) th dc om om) ?_
  have IR:((cS fb l.ab.length).set b (some K))=(cS (fb++[K]) l.ab.length):=by exact pd om om
  refine eg (k:=b) (o:=0) (vs:=[(Value.map (some K))]) (es':=(List.map oC (cS (fb++[K]) l.ab.length))) (C':=[_,_,_,_,_,_,_,_,_,_,_,_,_,(own (some ⟨E,0,none⟩) l.ab.length 40 1 (List.map oC (cS (fb++[K]) l.ab.length)))]) 13 U U U Hh U U U U hx41m U dc (by exact (List.map_set (f:=oC) (l:=(cS fb l.ab.length)) (i:=b) (a:=(some K))).symm.trans (congrArg _ IR)) U<|aG<|aF<|KK Cu<|an<|rP 2 [] I ?_
  refine aG<|yl (X':=aX nX (List.replicate (b+1) ([]:TM)) (fb++[K])) 10 0 U U (B2 Z) ?_
  try dsimp only
  have Id:(vI (((b+1):Nat):Int))=(vI ((b:Int)+1)):=by exact cI om
  refine bg (A6 ⟨((b+1),A0,A1,(fb++[K])),⟨om,by simp; omega⟩⟩ _ _ _ U os (dx 8<|bG U Id<|ee.nil _) (aK [2,3,4,5,6,7,8,9,0,10,11,12]))
 refine bI<|ae<|ae<|aC<|KK B9<|ah fun _ C1=>WS fun _ C2=>rP 4 [] (mc 1 U I) ?_
 refine RK C2<|aA ?_
 rw [show (List.replicate b ([]:TM))=bZ l r.aj 0 from by rw [tc,show b=l.ab.length by omega]]
 rw [show cZ l b=cZ l l.ab.length from by rw [show b=l.ab.length by omega]]
 have G:(0≤r.aj.length)∧(oL l r.aj 0):=by exact ⟨Nat.zero_le _,vX⟩
 refine bR (ι:={z:Nat // (z≤r.aj.length)∧(oL l r.aj z)}) [2,3,4,6,7,9,10,83,84] [1,2,3,4,5,6,7,9,10,11] U U (fun z=>[(85,(vI (z.1:Int)))]) (fun z=>[(bQ Y 107 (aH.cells (ku r.aj z.1))),(bB (aX nX (bZ l r.aj z.1) fb))]) (fun _=>rfl) (fun _=>rfl) (fun z=>r.aj.length-z.1) ⟨0,G⟩ (aW U) (aK [1,2,3,4,5,6,7,9,10,11,0,8]) ?_
 clear G
 rintro ⟨i,⟨K8,D⟩⟩ J46 V
 try dsimp only
 have Op:(bZ l r.aj i).length=l.ab.length:=fu
 have OM:(cS fb l.ab.length).length=l.ab.length:=lY om
 refine WS fun _ DU=>rP 1 [] I ?_
 refine RK DU<|ah fun _ Di=>bT U (aR fun Ls=>?_) (aQ fun Ls=>?_)
 ·refine bI<|ae<|ae<|aC<|KK C1<|ah fun _ Fd=>ah fun _ Fn=>?_
  have H:fh l r:=yL om om D om
  refine an<|rP 3 [] I ?_
  refine RK Fn<|aA<|iG 1<|dy fun R81 Pc=>WS fun _ F2=>rS (SX (bP (r:= .bool false) U U U fW) U U)<|RK F2<|ah fun _ PX=>aS U<|bI<|ae<|ae<|aC<|KK Fd<|ah fun _ GE=>?_
  rw [show bZ l r.aj i=bZ l r.aj r.aj.length from by rw [show i=r.aj.length by omega]]
  have AO:(bZ l r.aj r.aj.length).length=l.ab.length:=fu
  rw [show (List.map oC (cS fb l.ab.length))=(List.zipWith e8 (bZ l r.aj r.aj.length) fb) from Of om AO]
  rw [show (bQ M 166 (bL.cells (bL.mk (ko l kA kC cA cC bA bC) (kT r sgA sgC) (bk.mk a ((cZ l l.ab.length).length) c) (bk.mk (some ⟨E,0,none⟩) l.ab.length l.ab.length) (bk.mk none 0 0) (bk.mk none 0 0))))=(bQ M 166 (bL.cells (bL.mk (ko l kA kC cA cC bA bC) (kT r sgA sgC) (bk.mk a ((cZ l l.ab.length).length) c) (bk.mk (some ⟨E,0,none⟩) ((bZ l r.aj r.aj.length).length) l.ab.length) (bk.mk none 0 0) (bk.mk none 0 0)))) from by rw [AO]]
  have K4:=lg K0 e H
  have Pi:(cZ l l.ab.length).length=l.ab.length:=cT
  refine an<|rP 1 [] I ?_
  refine iy 8 U U U U (yM (ko l kA kC cA cC bA bC) (kT r sgA sgC) (cZ l l.ab.length) (bZ l r.aj r.aj.length) a c fb (some ⟨E,0,none⟩) l.ab.length M (by exact K4) (by exact cT.symm) (by rw [AO]; omega)) U (fz 7 U U (j0 sm) (fz 9 U U (j0 (by rw [List.length_zipWith]; omega)) (fz 11 U U oo jN))) U (fun PN Nn=>?_)
  obtain ⟨J,AA,S,T,AB,R,O,P⟩:=PN
  refine B4 (X:=[(bQ M 166 (bL.cells (bL.mk (ko l kA kC cA cC bA bC) (kT r sgA sgC) (bk.mk a ((cZ l l.ab.length).length) c) (bk.mk (some ⟨E,0,none⟩) ((bZ l r.aj r.aj.length).length) l.ab.length) (bk.mk S J.length T) (bk.mk O AB.length P)))),(own S T 170 1 (List.zipWith e8 J AA)),(bB (aX lD J AA)),(own O P 170 1 (List.zipWith e8 AB R)),(bB (aX lD AB R))]) 8 U U ?_
  try dsimp only
  obtain ⟨AC,KU,Kf,Kx⟩:=Nn
  dsimp only at AC KU Kf Kx
  refine RK GE<|ah fun _ GT=>WS fun _ Go=>rP 1 [] I ?_
  refine cX (rE (ko l kA kC cA cC bA bC) (kT r sgA sgC) (cZ l l.ab.length) (bZ l r.aj r.aj.length) a c fb (some ⟨E,0,none⟩) l.ab.length J AB AA S T R O P M (by exact K4) sd (by exact cT.symm) (by exact AC) sd) (al (ag (n:=(cZ l l.ab.length).length) 12 U sm)<|al (ag (n:=(bZ l r.aj r.aj.length).length) 13 U (by rw [List.length_zipWith]; omega))<|al (cW 15 U ke)<|al (ag (n:=J.length) 1 U (by rw [List.length_zipWith]; omega))<|al (cW 2 U ke)<|al (ag (n:=AB.length) 3 U (by rw [List.length_zipWith]; omega))<|al (cW 4 U ke)<|eL 0 U U<|aD) U fun PP Pl=>?_
  obtain ⟨Px,QE⟩:=PP
  try dsimp only
  refine rP 2 [] I ?_
  refine RK Go<|bT U (aR fun C=>?_) (aQ fun C=>?_)
  ·refine WK GT<|WS fun _ v=>rP 3 [] I ?_
   refine RK v<|ao ?_
   refine LX hQ (true,0,M,a,c,(some ⟨E,0,none⟩),l.ab.length,fb,J,AA,S,T,AB,R,O,P) [1,13,14,16,2,3,4,5] [] I U (by first|rfl|(show List.all _ _=true; simp only [cond_true,eo,List.all_nil,nE,oz,Bool.and_true]; rfl)) U U ?_
   exact ⟨fun _=>⟨lX A H (by first|rfl|exact h156) (fun q=>C (congrArg (fun z:List Int=>(z.length:Int)) q)),AC,KU,Kf,Kx,dso⟩,LR⟩
  refine WS fun _ u=>rP 2 [] I ?_
  refine RK u<|ao ?_
  refine LX hQ (false,8,0,none,0,none,0,[],[],[],none,0,[],[],none,0) [] [] I U (by first|rfl|(show List.all _ _=true; simp only [cond_true,eo,List.all_nil,nE,oz,Bool.and_true]; rfl)) U U ?_
  refine ⟨AW,fun _=>?_⟩; first|exact xJ (gH (r:=r) (me:=0) B) B|exact j1 (cJ (me:=0) A (fun q:fh l r=>by have p:=q.time; have s:=q.len; omega))|exact j1 (cJ (me:=0) A (jn hx (by unfold g9 iJ; omega)))|exact j1 (gh (me:=0) A H (by first|rfl|exact h156) (show gl (cz l r)=[] from iz (Int.natCast_eq_zero.1 C)))
 refine WK Di<|ah fun _ W=>aA<|WS fun _ Do=>rP 1 [] I ?_
 obtain ⟨x,hx⟩:=aM r.aj i om
 have Or:=bW aH.cells hx
 refine rS (IA i U (aJ 6 U) Jj dc om om)<|rS (n9 i 0 (aH.cells x) U ct (aJ 6 U) Or U dc U U)<|AL U yW fun QB=>bh 1 U<|fG U n8 U<|RK Do<|ah fun _ g=>WS fun _ L=>rP 6 [0,1] (mc 2 U (mc 0 U I)) ?_
 refine cH (xs:=[.tmp 95]) (cs:=[(vI x.fD)]) U cy hE U U U U (by simp [Value.cells]) U U fun LT=>?_
 refine rS (CL (dR.eq (gf 0 ((l.ab.length:Int)-1) ([x.fD]) (some ⟨LT,0,none⟩) 1 sd) cp) (al (aV 0 U U (by simp [bu]) U)<|aD) U) ?_
 refine rP 2 [] I ?_
 refine cK (t:=99) U (bq fun L0=>?_) (bp fun L0=>?_)
 ·refine bh 27 U<|RK L<|aL U<|WS fun _ D8=>rP 2 [] I ?_
  refine RK D8<|ao ?_
  refine LX hQ (false,51,0,none,0,none,0,[],[],[],none,0,[],[],none,0) [] [] I U (by first|rfl|(show List.all _ _=true; simp only [cond_true,eo,List.all_nil,nE,oz,Bool.and_true]; rfl)) U U ?_
  refine ⟨AW,fun _=>?_⟩; first|exact xJ (gH (r:=r) (me:=0) B) B|exact j1 (cJ (me:=0) A (fun q:fh l r=>by have p:=q.time; have s:=q.len; omega))|exact j1 (cJ (me:=0) A (jn hx (by unfold g9 iJ; omega)))|exact j1 (gh (me:=0) A H (by first|rfl|exact h156) (show gl (cz l r)=[] from iz (Int.natCast_eq_zero.1 C)))
 refine rP 2 [] (mc 1 U I) ?_
 refine cH (xs:=[.tmp 101]) (cs:=[(vI x.Read)]) U cy hE U U U U (by simp [Value.cells]) U U fun LY=>?_
 refine rS (CL (dR.eq (gf 0 86400000 ([x.Read]) (some ⟨LY,0,none⟩) 1 sd) cp) (al (aV 0 U U (by simp [bu]) U)<|aD) U) ?_
 refine rP 3 [] I ?_
 refine cK (t:=106) U (bq fun A2=>?_) (bp fun A2=>?_)
 ·refine bh 20 U<|RK L<|aL U<|WS fun _ EQ=>rP 2 [] I ?_
  refine RK EQ<|ao ?_
  refine LX hQ (false,51,0,none,0,none,0,[],[],[],none,0,[],[],none,0) [] [] I U (by first|rfl|(show List.all _ _=true; simp only [cond_true,eo,List.all_nil,nE,oz,Bool.and_true]; rfl)) U U ?_
  refine ⟨AW,fun _=>?_⟩; first|exact xJ (gH (r:=r) (me:=0) B) B|exact j1 (cJ (me:=0) A (fun q:fh l r=>by have p:=q.time; have s:=q.len; omega))|exact j1 (cJ (me:=0) A (jn hx (by unfold g9 iJ; omega)))|exact j1 (gh (me:=0) A H (by first|rfl|exact h156) (show gl (cz l r)=[] from iz (Int.natCast_eq_zero.1 C)))
 refine rP 7 [0,1] (mc 2 U (mc 13 U I)) ?_
 refine cK (t:=113) U (aQ fun A3=>?_) (aR fun A3=>?_)
 ·refine bh 13 U<|RK L<|aL U<|WS fun _ EY=>rP 2 [] I ?_
  refine RK EY<|ao ?_
  refine LX hQ (false,51,0,none,0,none,0,[],[],[],none,0,[],[],none,0) [] [] I U (by first|rfl|(show List.all _ _=true; simp only [cond_true,eo,List.all_nil,nE,oz,Bool.and_true]; rfl)) U U ?_
  refine ⟨AW,fun _=>?_⟩; first|exact xJ (gH (r:=r) (me:=0) B) B|exact j1 (cJ (me:=0) A (fun q:fh l r=>by have p:=q.time; have s:=q.len; omega))|exact j1 (cJ (me:=0) A (jn hx (by unfold g9 iJ; omega)))|exact j1 (gh (me:=0) A H (by first|rfl|exact h156) (show gl (cz l r)=[] from iz (Int.natCast_eq_zero.1 C)))
 refine rP 6 [0,1] (mc 2 U (mc 13 U I)) ?_
 refine cb (t:=119) U (aR fun A4=>?_) (aQ fun A4=>?_)
 ·refine bh 7 U<|RK L<|aS U<|WK g<|ah fun _ j=>WS fun _ FS=>rP 2 [0,1] (mc 4 U (mc 2 U I)) ?_
  refine rS (CL (wC l kA kC az cA cC bA bC x hin sd sd) (a_ [5,6,7,8]) U) ?_
  refine AL U dk fun QD=>fG U cx U<|RK FS<|WS fun _ Fa=>rP 5 [] (mc 0 U I) ?_
  refine RK Fa<|bT U (aR fun F=>?_) (aQ fun F=>?_)
  ·refine WK j<|an<|rP 1 [] (mc 3 U I) ?_
   refine gW (vs:=(aH.cells x)) (cs':=(aH.cells x)) (C':=[_,_,_,_,_,_,_,_,_,_,_,_,_,_,(bQ Y 107 (aH.cells x)),_]) 14 U U U n8 U U U U U U U<|aG<|aF<|KK W ?_
   have J6:(aH.cells x)=(aH.cells (ku r.aj (i+1))):=by rw [iX hx]
   rw [J6]
   refine an<|rP 2 [] I ?_
   refine aG ?_
   rw [show (bZ l r.aj i)=(bZ l r.aj (i+1)) from (nZ hx F).symm]
   have J7:(vI (((i+1):Nat):Int))=(vI ((i:Int)+1)):=by exact cI om
   refine bg (V ⟨(i+1),⟨om,jZ D hx (by unfold g9 iJ; omega)⟩⟩ _ _ _ U os (dx 9<|bG U J7<|ee.nil _) (aK [4,5,6,7,8,9,10,11,12,13,14,15]))
  obtain ⟨mb,d⟩:=aM (bZ l r.aj i) ((x.fD).toNat) om
  obtain ⟨ga,N⟩:=aM fb ((x.fD).toNat) om
  refine vW 15 d N U U U ?_
  try dsimp only
  refine dF cE 10 kr<|lQ 1 U<|dS (SX (bx U U) U U)<|dP 4 [0,1] (mc 14 U (mc 5 U I)) ?_
  have J9:(List.map oC (cS fb l.ab.length))[(x.fD).toNat]? =some (oC (some ga)):=oc (kW N)
  refine dS (IA ((x.fD).toNat) U (ag (n:=l.ab.length) 15 U sq) th dc om om) ?_
  refine dS (g_ ((x.fD).toNat) 0 (Value.map (some ga)) U ct (ag (n:=(cS fb l.ab.length).length) 15 U sm) J9 U dc U)<|mQ 2 [] (mc 2 U I) U<|cQ<|ig (kV:=iV) (x:=(i:Int)) (C':=[(gQ iV ga (bK dm (dN mb (i:Int) (eT l x)))),_,_,_,_,_,_,_,_,_,_,_,_,_,_,_,_]) 0 U U U U lP (dJ og) U (fI _ _ _ _).symm U<|RK j<|an<|rP 1 [] (mc 5 U I) ?_
  refine gW (vs:=(aH.cells x)) (cs':=(aH.cells x)) (C':=[_,_,_,_,_,_,_,_,_,_,_,_,_,_,_,_,(bQ Y 107 (aH.cells x))]) 16 U U U n8 U U U U U U U<|aG<|aF<|KK W ?_
  have J4:(aH.cells x)=(aH.cells (ku r.aj (i+1))):=by rw [iX hx]
  rw [J4]
  refine an<|rP 2 [] I ?_
  refine aG ?_
  refine wW (f:=nX) (ms:=(bZ l r.aj i)) (m:=(dN mb (i:Int) (eT l x))) 1 0 (by rw [fu]; omega) N U U U ?_
  rw [o6 hx om F d]
  have J5:(vI (((i+1):Nat):Int))=(vI ((i:Int)+1)):=by exact cI om
  refine bg (V ⟨(i+1),⟨om,jZ D hx (by unfold g9 iJ; omega)⟩⟩ _ _ _ U os (dx 9<|bG U J5<|ee.nil _) (aK [5,6,7,8,9,10,11,12,13,14,15,0]))
 refine rP 7 [0,1] (mc 2 U (mc 13 U I)) ?_
 refine RK L<|cM U (aQ fun A5=>?_) (aR fun A5=>?_)
 ·refine WS fun _ Ec=>rP 2 [] I ?_
  refine RK Ec<|ao ?_
  refine LX hQ (false,51,0,none,0,none,0,[],[],[],none,0,[],[],none,0) [] [] I U (by first|rfl|(show List.all _ _=true; simp only [cond_true,eo,List.all_nil,nE,oz,Bool.and_true]; rfl)) U U ?_
  refine ⟨AW,fun _=>?_⟩; first|exact xJ (gH (r:=r) (me:=0) B) B|exact j1 (cJ (me:=0) A (fun q:fh l r=>by have p:=q.time; have s:=q.len; omega))|exact j1 (cJ (me:=0) A (jn hx (by unfold g9 iJ; omega)))|exact j1 (gh (me:=0) A H (by first|rfl|exact h156) (show gl (cz l r)=[] from iz (Int.natCast_eq_zero.1 C)))
 refine WK g<|ah fun _ h=>WS fun _ Eq=>rP 2 [0,1] (mc 4 U (mc 2 U I)) ?_
 refine rS (CL (wC l kA kC az cA cC bA bC x hin sd sd) (a_ [5,6,7,8]) U) ?_
 refine AL U dk fun QC=>fG U cx U<|RK Eq<|WS fun _ Ey=>rP 5 [] (mc 0 U I) ?_
 refine RK Ey<|bT U (aR fun F=>?_) (aQ fun F=>?_)
 ·refine WK h<|an<|rP 1 [] (mc 3 U I) ?_
  refine gW (vs:=(aH.cells x)) (cs':=(aH.cells x)) (C':=[_,_,_,_,_,_,_,_,_,_,_,_,_,_,(bQ Y 107 (aH.cells x)),_]) 14 U U U n8 U U U U U U U<|aG<|aF<|KK W ?_
  have J2:(aH.cells x)=(aH.cells (ku r.aj (i+1))):=by rw [iX hx]
  rw [J2]
  refine an<|rP 2 [] I ?_
  refine aG ?_
  rw [show (bZ l r.aj i)=(bZ l r.aj (i+1)) from (nZ hx F).symm]
  have J3:(vI (((i+1):Nat):Int))=(vI ((i:Int)+1)):=by exact cI om
  refine bg (V ⟨(i+1),⟨om,jZ D hx (by unfold g9 iJ; omega)⟩⟩ _ _ _ U os (dx 9<|bG U J3<|ee.nil _) (aK [4,5,6,7,8,9,10,11,12,13,14,15]))
 obtain ⟨mb,d⟩:=aM (bZ l r.aj i) ((x.fD).toNat) om
 obtain ⟨ga,N⟩:=aM fb ((x.fD).toNat) om
 refine vW 15 d N U U U ?_
 try dsimp only
 refine dF cE 10 kr<|lQ 1 U<|dS (SX (bx U U) U U)<|dP 4 [0,1] (mc 14 U (mc 5 U I)) ?_
 have J8:(List.map oC (cS fb l.ab.length))[(x.fD).toNat]? =some (oC (some ga)):=oc (kW N)
 refine dS (IA ((x.fD).toNat) U (ag (n:=l.ab.length) 15 U sq) th dc om om) ?_
 refine dS (g_ ((x.fD).toNat) 0 (Value.map (some ga)) U ct (ag (n:=(cS fb l.ab.length).length) 15 U sm) J8 U dc U)<|mQ 2 [] (mc 2 U I) U<|cQ<|ig (kV:=iV) (x:=(i:Int)) (C':=[(gQ iV ga (bK dm (dN mb (i:Int) (eT l x)))),_,_,_,_,_,_,_,_,_,_,_,_,_,_,_,_]) 0 U U U U lP (dJ og) U (fI _ _ _ _).symm U<|RK h<|an<|rP 1 [] (mc 5 U I) ?_
 refine gW (vs:=(aH.cells x)) (cs':=(aH.cells x)) (C':=[_,_,_,_,_,_,_,_,_,_,_,_,_,_,_,_,(bQ Y 107 (aH.cells x))]) 16 U U U n8 U U U U U U U<|aG<|aF<|KK W ?_
 have If:(aH.cells x)=(aH.cells (ku r.aj (i+1))):=by rw [iX hx]
 rw [If]
 refine an<|rP 2 [] I ?_
 refine aG ?_
 refine wW (f:=nX) (ms:=(bZ l r.aj i)) (m:=(dN mb (i:Int) (eT l x))) 1 0 (by rw [fu]; omega) N U U U ?_
 rw [o6 hx om F d]
 have In:(vI (((i+1):Nat):Int))=(vI ((i:Int)+1)):=by exact cI om
 refine bg (V ⟨(i+1),⟨om,jZ D hx (by unfold g9 iJ; omega)⟩⟩ _ _ _ U os (dx 9<|bG U In<|ee.nil _) (aK [5,6,7,8,9,10,11,12,13,14,15,0]))
end
section
open Go.RowKit
theorem MS (l:List Int) (lA:OA) (lC:Nat) (hne:1≤l.length) (hlen:l.length≤1000000):
 dR Tryz.prog 63 [(vS lA l.length lC)] [(rd lA l.length 1 (l.map iC))] (vI (m6 l)):=by
 refine bE kr Tryz.func63 U U fun V Q hQ hN=>?_
 try dsimp only
 refine WS fun _ L=>bh 1 U<|RK L<|ah fun _ M=>WS fun _ N=>rP 3 [] I ?_
 refine RK N<|cM U (aQ fun AA=>?_) (aR fun AA=>?_)
 ·exfalso; omega
 refine WK M<|WS fun _ O=>rP 1 [] I ?_
 obtain ⟨AB,B⟩:=aM l 0 om
 have hx0m:=bW iC B
 refine rS (IA 0 U (aJ 0 U) cy dc U om)<|rS (g_ 0 0 (vI AB) U ct (aJ 0 U) hx0m U dc U)<|bh 1 U<|RK O<|ah fun _ P=>WS fun _ R=>rP 1 [] I ?_
 refine RK R<|aA ?_
 have A:(1≤1∧1≤l.length):=by omega
 have S:(vI (m6 (l.take 1)))=(vI AB):=by rw [C4 B]
 refine bR (ι:={z:Nat // (1≤z∧z≤l.length)}) [0] [0] U U (fun z=>[(3,(vI (m6 (l.take z.1)))),(4,(vI (z.1:Int)))]) (fun z=>[]) (fun _=>rfl) (fun _=>rfl) (fun z=>l.length-z.1) ⟨1,A⟩ (bG U S<|aW U) (aK [0]) ?_
 clear A
 rintro ⟨i,T⟩ J9 K
 try dsimp only
 refine ah fun _ C=>WS fun _ D=>rP 4 [] I ?_
 refine RK D<|bT U (aR fun J=>?_) (aQ fun J=>?_)
 ·refine bI<|ae<|ae<|aC<|KK P<|WS fun _ F=>rP 2 [] I ?_
  refine RK F<|ao<|Q1 hQ U U U ?_
  rw [List.take_of_length_le om]
 refine WK C<|ah fun _ E=>aA<|an<|rP 3 [] I ?_
 obtain ⟨AB,B⟩:=aM l i om
 have hx0m:=bW iC B
 refine rS (IA i U (aJ 0 U) cy dc om om)<|rS (g_ i 0 (vI AB) U ct (aJ 0 U) hx0m U dc U)<|rS (MN U)<|bh 1 U<|aG<|aF<|KK E<|an<|rP 3 [] I ?_
 refine aG ?_
 have G:(vI (m6 (l.take (i+1))))=(vI (min (m6 (l.take i)) AB)):=by rw [EW B om]
 have H:(vI (((i+1):Nat):Int))=(vI ((i:Int)+1)):=by exact cI om
 refine bg (K ⟨(i+1),(by first|omega|(simp only []; omega))⟩ _ _ _ U os (ee.cons U<|bG U G<|bG U H<|ee.nil _) (aK [0]))
theorem MC (l:List Int) (lA:OA) (lC:Nat) (hne:1≤l.length) (hlen:l.length≤1000000):
 dR Tryz.prog 64 [(vS lA l.length lC)] [(rd lA l.length 1 (l.map iC))] (vI (oW l)):=by
 refine bE kr Tryz.func64 U U fun V Q hQ hN=>?_
 try dsimp only
 refine WS fun _ L=>bh 1 U<|RK L<|ah fun _ M=>WS fun _ N=>rP 3 [] I ?_
 refine RK N<|cM U (aQ fun AA=>?_) (aR fun AA=>?_)
 ·exfalso; omega
 refine WK M<|WS fun _ O=>rP 1 [] I ?_
 obtain ⟨AB,B⟩:=aM l 0 om
 have hx0m:=bW iC B
 refine rS (IA 0 U (aJ 0 U) cy dc U om)<|rS (g_ 0 0 (vI AB) U ct (aJ 0 U) hx0m U dc U)<|bh 1 U<|RK O<|ah fun _ P=>WS fun _ R=>rP 1 [] I ?_
 refine RK R<|aA ?_
 have A:(1≤1∧1≤l.length):=by omega
 have S:(vI (oW (l.take 1)))=(vI AB):=by rw [DI B]
 refine bR (ι:={z:Nat // (1≤z∧z≤l.length)}) [0] [0] U U (fun z=>[(3,(vI (oW (l.take z.1)))),(4,(vI (z.1:Int)))]) (fun z=>[]) (fun _=>rfl) (fun _=>rfl) (fun z=>l.length-z.1) ⟨1,A⟩ (bG U S<|aW U) (aK [0]) ?_
 clear A
 rintro ⟨i,T⟩ J9 K
 try dsimp only
 refine ah fun _ C=>WS fun _ D=>rP 4 [] I ?_
 refine RK D<|bT U (aR fun J=>?_) (aQ fun J=>?_)
 ·refine bI<|ae<|ae<|aC<|KK P<|WS fun _ F=>rP 2 [] I ?_
  refine RK F<|ao<|Q1 hQ U U U ?_
  rw [List.take_of_length_le om]
 refine WK C<|ah fun _ E=>aA<|an<|rP 3 [] I ?_
 obtain ⟨AB,B⟩:=aM l i om
 have hx0m:=bW iC B
 refine rS (IA i U (aJ 0 U) cy dc om om)<|rS (g_ i 0 (vI AB) U ct (aJ 0 U) hx0m U dc U)<|rS (MX U)<|bh 1 U<|aG<|aF<|KK E<|an<|rP 3 [] I ?_
 refine aG ?_
 have G:(vI (oW (l.take (i+1))))=(vI (max (oW (l.take i)) AB)):=by rw [G9 B om]
 have H:(vI (((i+1):Nat):Int))=(vI ((i:Int)+1)):=by exact cI om
 refine bg (K ⟨(i+1),(by first|omega|(simp only []; omega))⟩ _ _ _ U os (ee.cons U<|bG U G<|bG U H<|ee.nil _) (aK [0]))
end
section
open Go.RowKit
theorem I0 (l:bo) (kA:OA) (kC:Nat) (az:List RA) (cA:OA) (cC:Nat) (bA:OA) (bC:Nat) (r:dw) (sgA:OA) (sgC:Nat) (hin:eA l az) (hsl:r.aj.length≤1000000):
 lq Tryz.prog 62 [(vA (cu.cells (ko l kA kC cA cC bA bC))),(vA (eC.cells (kT r sgA sgC)))] [(rd kA l.aN.length 9 (l.aN.map ai.cells)),(rd cA l.ak.length 2 (List.zipWith av.cells l.ak az)),(eY (aX av.ja l.ak az)),(rd bA l.ab.length 4 (l.ab.map bM.cells)),(rd sgA r.aj.length 2 (r.aj.map aH.cells))] (fun (x:(OA)×Nat)=>(vT [(vS x.1 ((gk l r).length) x.2),(vI (ed l r 0))])) (fun (x:(OA)×Nat)=>True) (fun (x:(OA)×Nat)=>[(own x.1 x.2 3 1 ((gk l r).map iC))]):=by
 have A5:=hin.ux
 have AC:=hin.s_
 have w:=hin.o4
 have y:=hin.tW
 have A4:=hin.side
 refine de kr Tryz.func62 U U fun w0 Q hQ hN=>?_
 try dsimp only
 refine WS fun _ g=>fY U fun b2=>fY U fun b3=>bh 2 U<|RK g<|WS fun _ P=>rP 2 [0,1] (mc 1 U (mc 0 U I)) ?_
 refine cX (IY l kA kC az cA cC bA bC r sgA sgC hin hsl) (a_ [2,3,4,5,6]) U fun y5 AA=>?_
 obtain ⟨V,v,e,d,F,Y,Z,a,B,AB,G,H,A,E,W,X⟩:=y5
 cases V
 ·obtain ⟨S,he⟩:=AA.2 rfl
  try dsimp only at S he
  subst S
  try dsimp only [cond_true,cond_false,List.cons_append,List.nil_append]
  refine bh 5 U<|RK P<|ah fun _ q=>WS fun _ K=>rP 2 [] I ?_
  refine RK K<|bT U (bp fun J=>?_) (bq fun J=>?_)
  ·exact absurd J he
  refine WS fun _ L=>dY 3 1 ?_
  rw [show (own none 0 3 1 ([]:List (List Value)))=own none 0 3 1 ((gk l r).map iC) from by rw [lU he]; rfl]
  refine bh 1 U<|rP 2 [] I ?_
  refine RK L<|ao ?_
  refine LX hQ (none,0) [0] [] I U U U ?_ ?_
  ·first|rfl|(rw [he]; rfl)|(rw [lU he]; rfl)
  ·trivial
 obtain ⟨he,C,R,i,h,k⟩:=AA.1 rfl
 try dsimp only [cond_true,cond_false,List.cons_append,List.nil_append]
 dsimp only at C R i h k
 obtain ⟨f,D,A0,A1⟩:=iu he
 obtain ⟨m,T⟩:=ji f
 have j:=T.head
 unfold gE at j
 have o:=lg m T D
 have A3:=D.time
 have A2:=D.len
 have s:(cZ l l.ab.length).length=l.ab.length:=cT
 have t:(bZ l r.aj r.aj.length).length=l.ab.length:=fu
 have AO:B.length=l.ab.length+1:=by have:=C.len; rw [show (cz l r).n=l.ab.length from cT] at this; exact this
 have z:A.length=l.ab.length+1:=by have:=R.len; rw [show (cz l r).n=l.ab.length from cT] at this; exact this
 refine bh 5 U<|RK P<|ah fun _ M=>WS fun _ N=>bh 1 U<|rS (SX (bP (r:= .bool false) U U U l9) U U)<|RK N<|aS U<|WK M<|WS fun _ O=>rP 1 [] I ?_
 refine cX (rE (ko l kA kC cA cC bA bC) (kT r sgA sgC) (cZ l l.ab.length) (bZ l r.aj r.aj.length) d F a Y Z B A AB G H E W X e (by exact o) sd (by exact cT.symm) (by exact C) sd) (al (ag (n:=(cZ l l.ab.length).length) 1 U sm)<|al (ag (n:=(bZ l r.aj r.aj.length).length) 2 U (by rw [List.length_zipWith]; omega))<|al (cW 3 U ke)<|al (ag (n:=B.length) 4 U (by rw [List.length_zipWith]; omega))<|al (cW 5 U ke)<|al (ag (n:=A.length) 6 U (by rw [List.length_zipWith]; omega))<|al (cW 7 U ke)<|eL 0 U U<|aD) U fun p u=>?_
 obtain ⟨b,c⟩:=p
 try dsimp only
 rw [show (gl (cj (ko l kA kC cA cC bA bC) (kT r sgA sgC) (cZ l l.ab.length) (bZ l r.aj r.aj.length)))=gk l r from (jr he).symm]
 refine rP 2 [] I ?_
 refine RK O<|ao ?_
 refine LX hQ (b,c) [0] [] I U U U ?_ ?_
 ·first|rfl|(rw [he]; rfl)|(rw [lU he]; rfl)
 ·trivial
theorem I8 (l:bo) (kA:OA) (kC:Nat) (az:List RA) (cA:OA) (cC:Nat) (bA:OA) (bC:Nat) (r:dw) (sgA:OA) (sgC:Nat) (hin:eA l az) (hsl:r.aj.length≤1000000):
 dR Tryz.prog 26 [(vA (cu.cells (ko l kA kC cA cC bA bC))),(vA (eC.cells (kT r sgA sgC)))] [(rd kA l.aN.length 9 (l.aN.map ai.cells)),(rd cA l.ak.length 2 (List.zipWith av.cells l.ak az)),(eY (aX av.ja l.ak az)),(rd bA l.ab.length 4 (l.ab.map bM.cells)),(rd sgA r.aj.length 2 (r.aj.map aH.cells))] (vT [(Value.int .u8 (eZ l r)),(vI (ed l r 0))]):=by
 have AA:=hin.ux
 have S:=hin.s_
 have P:=hin.o4
 have R:=hin.tW
 have T:=hin.side
 refine bE kr Tryz.func26 U U fun Z Q hQ hN=>?_
 try dsimp only
 refine WS fun _ K=>fY U fun X=>fY U fun Y=>bh 2 U<|RK K<|WS fun _ L=>rP 2 [0,1] (mc 1 U (mc 0 U I)) ?_
 refine cX (I0 l kA kC az cA cC bA bC r sgA sgC hin hsl) (a_ [2,3,4,5,6]) U fun W V=>?_
 obtain ⟨N,O⟩:=W
 try dsimp only
 refine bh 5 U<|RK L<|ah fun _ M=>aA<|WS fun _ D=>rP 3 [] I ?_
 refine RK D<|cM U (bq fun A=>?_) (bp fun A=>?_)
 ·refine WS fun _ E=>rP 3 [] I ?_
  refine RK E<|ao<|Q2 hQ U U U U ?_
  first|(rw [show eZ l r=0 from if_neg A]; done)|(rw [A,show eZ l r=2 from by unfold eZ; rw [if_pos A,if_pos B]]; done)|(rw [A,show eZ l r=0 from by unfold eZ; rw [if_pos A,if_neg B,if_pos C]]; done)|(rw [A,show eZ l r=1 from by unfold eZ; rw [if_pos A,if_neg B,if_neg C]]; done)
 refine ah fun _ F=>dF cE 6 kr<|dP 1 [] I ?_
 refine dS (CL (MS (gk l r) N O (by exact ui A) (by have:=s9 (l:=l) (r:=r); omega)) (al (ag (n:=(gk l r).length) 0 U sm)<|aD) U) ?_
 refine dP 4 [] (mc 2 U I) ?_
 refine cQ<|RK F<|cM U (aQ fun B=>?_) (aR fun B=>?_)
 ·refine WS fun _ G=>rP 2 [] I ?_
  refine RK G<|ao<|Q2 hQ U U U U ?_
  first|(rw [show eZ l r=0 from if_neg A]; done)|(rw [A,show eZ l r=2 from by unfold eZ; rw [if_pos A,if_pos B]]; done)|(rw [A,show eZ l r=0 from by unfold eZ; rw [if_pos A,if_neg B,if_pos C]]; done)|(rw [A,show eZ l r=1 from by unfold eZ; rw [if_pos A,if_neg B,if_neg C]]; done)
 refine ah fun _ H=>dF cE 6 kr<|dP 1 [] I ?_
 refine dS (CL (MC (gk l r) N O (by exact ui A) (by have:=s9 (l:=l) (r:=r); omega)) (al (ag (n:=(gk l r).length) 0 U sm)<|aD) U) ?_
 refine dP 4 [] (mc 2 U I) ?_
 refine cQ<|RK H<|cM U (aQ fun C=>?_) (aR fun C=>?_)
 ·refine WS fun _ AB=>rP 2 [] I ?_
  refine RK AB<|ao<|Q2 hQ U U U U ?_
  first|(rw [show eZ l r=0 from if_neg A]; done)|(rw [A,show eZ l r=2 from by unfold eZ; rw [if_pos A,if_pos B]]; done)|(rw [A,show eZ l r=0 from by unfold eZ; rw [if_pos A,if_neg B,if_pos C]]; done)|(rw [A,show eZ l r=1 from by unfold eZ; rw [if_pos A,if_neg B,if_neg C]]; done)
 refine cr<|aF<|KK M<|WS fun _ J=>rP 2 [] I ?_
 refine RK J<|ao<|Q2 hQ U U U U ?_
 first|(rw [show eZ l r=0 from if_neg A]; done)|(rw [A,show eZ l r=2 from by unfold eZ; rw [if_pos A,if_pos B]]; done)|(rw [A,show eZ l r=0 from by unfold eZ; rw [if_pos A,if_neg B,if_pos C]]; done)|(rw [A,show eZ l r=1 from by unfold eZ; rw [if_pos A,if_neg B,if_neg C]]; done)
end
section
open Go.RowKit
theorem Dc (ln:cu) (ri:eC) (e:List Int) (tms:List TM) (e_A:OA) (e_C:Nat) (tb:List Nat) (t_A:OA) (t_C:Nat) (fs:List FM) (bs:List FM) (fb:List Nat) (f_A:OA) (f_C:Nat) (bb:List Nat) (b_A:OA) (b_C gw:Nat) (b g1 g2:Nat) (mf:FM) (mb:FM) (hb:b<e.length) (hw:CY (cj ln ri e tms)) (htb:tb.length=tms.length) (hfw:rI (cj ln ri e tms) fs) (hfb:fb.length=fs.length) (hbw:pZ (cj ln ri e tms) bs) (hbb:bb.length=bs.length) (hsg:ri.aj.n≤1000) (hm1:fs[b]? =some mf) (hm2:bs[b+1]? =some mb):
 zY Tryz.prog 101 [] [(vP g1),(vP g2)] [(rd e_A e.length 1 (e.map iC)),(rd t_A tms.length 1 (List.zipWith e8 tms tb)),(eY (aX nX tms tb)),(rd f_A fs.length 1 (List.zipWith e8 fs fb)),(eY (aX lD fs fb)),(rd b_A bs.length 1 (List.zipWith e8 bs bb)),(eY (aX lD bs bb)),(bQ gw 166 (bL.cells (bL.mk ln ri (bk.mk e_A e.length e_C) (bk.mk t_A tms.length t_C) (bk.mk f_A fs.length f_C) (bk.mk b_A bs.length b_C)))),(bQ g1 121 [(vP gw)]),(bQ g2 3 [(vI (b:Int))])] ([]:List (Int×aa)) (fun ys x ys'=> ∃ q,q∈oa (cj ln ri e tms) b mf mb∧x=Ks q∧ys'=ys++[q]) (fun ys=> ∀ q∈oa (cj ln ri e tms) b mf mb,q∈ys):=by
 have KU:e.length≤6:=hw.n
 have Kf:tms.length=e.length:=hw.times
 have J4:fs.length=e.length+1:=hfw.len
 have J3:bs.length=e.length+1:=hbw.len
 refine qq kr Tryz.func101 U U fun l J Z A0 w0 Q hY Ey Eq hQ hN=>?_
 try dsimp only
 refine WS fun _ FS=>qM U U fun b2=>RK FS<|WS fun _ Fa=>rP 2 [0,1] (mr 10 U (mr 11 U I)) ?_
 refine cX (q9 gw b) (aD) U fun y4 Kx=>?_
 obtain ⟨Di,Do⟩:=y4
 try dsimp only
 refine RK Fa<|aA<|jC 4 U (by exact fun _ h=>h)<|jC 6 U (by exact fun _ h=>h)<|jC 8 U (by exact fun _ h=>h)<|jC 14 U (by exact fun _ h=>h) ?_
 refine l4 (L0:=[(0,(Value.func (.yield l) #[] #[])),(1,(vP g1)),(2,(vP g2)),(3,(vP b2))]) (F:=[(rd e_A e.length 1 (e.map iC)).ro,(rd t_A tms.length 1 (List.zipWith e8 tms tb)).ro,(eY (aX nX tms tb)).ro,(bQ gw 166 (bL.cells (bL.mk ln ri (bk.mk e_A e.length e_C) (bk.mk t_A tms.length t_C) (bk.mk f_A fs.length f_C) (bk.mk b_A bs.length b_C)))).ro,(bQ Di 121 [(vP gw)]),(bQ Do 3 [(vI (b:Int))])]) (fun k (y:(List (Int×aa))×aq)=>(ks (cj ln ri e tms) b mf mb k y.1)∧(J y.1 y.2)∧(Fo A0 w0 y.2)) (fun k y=>[(bQ b2 169 [(Value.func (.yield l) #[] #[])]),y.2,(rd e_A e.length 1 (e.map iC)).ro,(rd t_A tms.length 1 (List.zipWith e8 tms tb)).ro,(eY (aX nX tms tb)).ro,(rd f_A fs.length 1 (List.zipWith e8 fs fb)).ro,(eY (aX lD fs fb)).ro,(rd b_A bs.length 1 (List.zipWith e8 bs bb)).ro,(eY (aX lD bs bb)).ro,(bQ gw 166 (bL.cells (bL.mk ln ri (bk.mk e_A e.length e_C) (bk.mk t_A tms.length t_C) (bk.mk f_A fs.length f_C) (bk.mk b_A bs.length b_C)))).ro,(bQ g1 121 [(vP gw)]).ro,(bQ g2 3 [(vI (b:Int))]).ro]) (fun c (z:aq)=>(c= .ret∧(Z z)∧(Fo A0 w0 z))) (fun _ z=>[(bQ b2 169 [(Value.func (.yield l) #[] #[])]),z,(rd e_A e.length 1 (e.map iC)).ro,(rd t_A tms.length 1 (List.zipWith e8 tms tb)).ro,(eY (aX nX tms tb)).ro,(rd f_A fs.length 1 (List.zipWith e8 fs fb)).ro,(eY (aX lD fs fb)).ro,(rd b_A bs.length 1 (List.zipWith e8 bs bb)).ro,(eY (aX lD bs bb)).ro,(bQ gw 166 (bL.cells (bL.mk ln ri (bk.mk e_A e.length e_C) (bk.mk t_A tms.length t_C) (bk.mk f_A fs.length f_C) (bk.mk b_A bs.length b_C)))).ro,(bQ g1 121 [(vP gw)]).ro,(bQ g2 3 [(vI (b:Int))]).ro]) [6,7,8,9,10,11,12,13,14,15,16,17] [3,2,1,0,4,5] (([]:List (Int×aa)),A0) rfl rfl (pN ln ri e tms e_A e_C tb t_A t_C f_A fs.length f_C b_A bs.length b_C gw b Di Do om om) rfl rfl rfl (by exact ⟨ks.nil,Ey,Eq⟩) (by simp only [List.forall_mem_cons,List.not_mem_nil,false_imp_iff,implies_true,and_true]; exact ⟨⟨_,aT (i:=0) rfl,(eH (bU _))⟩,⟨_,aT (i:=1) rfl,(eH (bU _))⟩,⟨_,aT (i:=2) rfl,(eH (bU _))⟩,⟨_,aT (i:=3) rfl,(eH (bU _))⟩,⟨_,aT (i:=4) rfl,(bU _)⟩,⟨_,aT (i:=5) rfl,(bU _)⟩⟩) (by rintro k x k2 ⟨o,_,rfl,_⟩; rfl) rfl (aW rfl) ?_ ?_ ?_ ?_
 rotate_left 1
 ·rintro K4 k ⟨ys,A⟩ Cx A1
  obtain ⟨X,Y,a⟩:=A1
  try dsimp only at X Y a
  try dsimp only
  refine aF ?_
  refine hN _ _ _ (nc 0 U U<|gp (vs:=[]) trivial fun w hs=>Fs 8 U (by exact ks.fin X Cx) Y a hs)
 ·rintro K5 id A C2
  simp at C2
 ·rintro LE A DU
  obtain ⟨hc,GE,GT⟩:=DU
  try dsimp only
  refine hQ _ _ _ (nc 0 U U<|gp (vs:=[]) trivial fun w hs=>pH 8 U GE GT hs)
 rintro k x k2 ⟨ys,A⟩ lr ra rb S w1 K8 Qr9 Go hx AO Fd Ck IR D8
 obtain ⟨o,ho,rfl,rfl⟩:=hx
 obtain ⟨X,Y,a⟩:=AO
 try dsimp only at X Y a
 try dsimp only
 refine WS fun _ A6=>rP 1 [] I ?_
 refine RK A6<|an<|AL U dk fun Id=>fG U cx U<|aG<|kv (fun _ _ h=>h) (aK [1,0,2,3,4,5,6,7,8,9,10,11,12,13])<|bg (Fd _ _ ?_)
 refine aA<|ah fun _ A7=>dF cE 7 kr<|mQ 1 [] (mr 12 U I) U<|dS (SX (bx U U) U U)<|dP 3 [0,1] (mr 11 U (mr 13 U I)) ?_
 obtain ⟨ga,s⟩:=aM fb b om
 have C0:(List.zipWith e8 fs fb)[b]? =some (e8 mf ga):=eu hm1 s
 refine dS (IA b U (aJ 7 U) mJ dc om om)<|dS (g_ b 0 (Value.map (some ga)) U ct (aJ 7 U) C0 U dc U)<|cQ<|jl (kV:=dH) (m:=bK iV mf) 8 U U nu U ⟨⟨(gQ dH ga (bK iV mf)),(cD hm1 s (by simp [lD])),U⟩,fun h=>h⟩ (show ju _ (gQ dH ga (bK iV mf)).holds from eN 8 U (cD hm1 s (by simp [lD]))) U fun HA=>?_
 try dsimp only
 refine RK A7<|aA ?_
 have C:(∀ p∈mf,p∈mf)∧(ml (cj ln ri e tms) b mf mb o mf ys)∧(ks (cj ln ri e tms) b mf mb k ys)∧(J ys A)∧(Fo A0 w0 A):=by exact ⟨fun p hp=>hp,ml.start,X,Y,a⟩
 refine bR (ι:={z:FM×(List (Int×aa))×aq // (∀ p∈z.1,p∈mf)∧(ml (cj ln ri e tms) b mf mb o z.1 z.2.1)∧(ks (cj ln ri e tms) b mf mb k z.2.1)∧(J z.2.1 z.2.2)∧(Fo A0 w0 z.2.2)}) [0,1,2,3,4,5,23] [1,2,3,5,6,7,8,9,10,11,12,13,14] U U (fun z=>[]) (fun z=>[(wc dH HA ga (bK iV mf) (bK iV z.1.1) none),z.1.2.2]) (fun _=>rfl) (fun _=>rfl) (fun z=>z.1.1.length) ⟨(mf,ys,A),C⟩ (ee.nil _) (aK [1,2,3,5,6,7,8,9,10,11,12,13,14,0,4]) ?_
 clear C
 rintro ⟨⟨left,ys,A⟩,⟨K,M,N,O,P⟩⟩ J15 A5
 try dsimp only at K M N O P
 try dsimp only
 refine WS fun _ j=>iq nm.inj (f:=iV) 13 U U U U (fun EY=>?_) (fun t v hm hn=>?_)
 ·refine rP 1 [] I ?_
  refine RK j<|ah fun _ IF=>aS U<|bI<|ae<|ae<|aC<|aF ?_
  exact Ck (ys,A) _ _ (by exact ⟨ks.next N M EY,O,P⟩) (aK [0,2,14,3,4,5,6,7,8,9,10,11,12])
 try dsimp only
 refine bh 1 U<|RK j<|ah fun _ A8=>aL U<|WK A8<|aA<|WS fun _ A9=>rS (SX (il 13 U U U) U U)<|bh 2 U<|AL U qm fun If=>fG U pC U<|bh 1 U<|RK A9<|ah fun _ B3=>dF cE 8 kr<|mQ 1 [] (mr 12 U I) U<|dS (SX (bx U U) U U)<|dP 4 [0,1] (mr 11 U (mr 13 U I)) ?_
 obtain ⟨gb,AC⟩:=aM bb (b+1) om
 have C1:(List.zipWith e8 bs bb)[(b+1)]? =some (e8 mb gb):=eu hm2 AC
 refine dS (IA (b+1) U (aJ 9 U) mJ dc om om)<|dS (g_ (b+1) 0 (Value.map (some gb)) U ct (aJ 9 U) C1 U dc U)<|cQ<|jl (kV:=dH) (m:=bK iV mb) 10 U U nu U ⟨⟨(gQ dH gb (bK iV mb)),(cD hm2 AC (by simp [lD])),U⟩,fun h=>h⟩ (show ju _ (gQ dH gb (bK iV mb)).holds from eN 10 U (cD hm2 AC (by simp [lD]))) U fun H1=>?_
 try dsimp only
 refine RK B3<|aA ?_
 have C:(∀ p∈mb,p∈mb)∧(mm (cj ln ri e tms) b mb o (t,v) mb ys)∧(ml (cj ln ri e tms) b mf mb o left ys)∧(ks (cj ln ri e tms) b mf mb k ys)∧(J ys A)∧(Fo A0 w0 A):=by exact ⟨fun p hp=>hp,mm.start,M,N,O,P⟩
 refine bR (ι:={z:FM×(List (Int×aa))×aq // (∀ p∈z.1,p∈mb)∧(mm (cj ln ri e tms) b mb o (t,v) z.1 z.2.1)∧(ml (cj ln ri e tms) b mf mb o left z.2.1)∧(ks (cj ln ri e tms) b mf mb k z.2.1)∧(J z.2.1 z.2.2)∧(Fo A0 w0 z.2.2)}) [0,1,2,3,4,5,6,7,23,37] [1,2,3,4,5,6,7,8,9,10,11,12,13,14,15] U U (fun z=>[]) (fun z=>[(wc dH H1 gb (bK iV mb) (bK iV z.1.1) none),z.1.2.2]) (fun _=>rfl) (fun _=>rfl) (fun z=>z.1.1.length) ⟨(mb,ys,A),C⟩ (ee.nil _) (aK [1,2,3,4,5,6,7,8,9,10,11,12,13,14,15,0,16]) ?_
 clear C
 rintro ⟨⟨l2,T,A2⟩,⟨B,D,E,G,H,AB⟩⟩ J23 V
 try dsimp only at B D E G H AB
 try dsimp only
 refine WS fun _ r=>iq nm.inj (f:=iV) 15 U U U U (fun Ec=>?_) (fun u z L A3=>?_)
 ·refine rP 1 [] I ?_
  refine RK r<|ah fun _ IO=>aS U<|bI<|ae<|ae<|aC<|aF<|gi 14 U eQ U ?_
  refine bg (A5 ⟨((bY left t),T,A2),⟨k7 K,ml.next hn hm E D Ec,G,H,AB⟩⟩ _ _ _ U (er hm) (aW U) (aK [1,2,3,4,5,6,7,8,9,10,11,12,13,14,16]))
 try dsimp only
 refine bh 1 U<|RK r<|ah fun _ B7=>aL U<|WK B7<|aA<|WS fun _ B9=>rS (SX (il 15 U U U) U U)<|bh 2 U<|AL U qm fun In=>fG U pC U<|rP 1 [] I ?_
 refine RK B9<|ah fun _ Ci=>ek cE [17,18] [] [] [0,1,2,3,4,5,6,7,8,9,10,11,12,13,14,15,16,17] [] U U U U U<|eS U (MV U)<|eS U (Ox 13 U ct U)<|eS U (SX (bx U U) U U)<|eS U (FA 10 U fB U)<|eS U (Eh (vS e_A e.length e_C) 12 U ct U U)<|eS U (Ox 14 U ct U) ?_
 obtain ⟨y,hy⟩:=aM e b om
 have Gy:=bW iC hy
 refine eS U (IA b U (aJ 5 U) cy dc om om)<|eS U (g_ b 0 (vI y) U ct (aJ 5 U) Gy U dc U) ?_
 have J5:=hw.least y (aT hy)
 have F2:=Hs hw _ _ (hfw.mem hm1 (K _ hm))
 have Fn:=E0 hw (hbw.mem hm2 (B _ L))
 have J6:=uE o.1
 have J7:=hw.opt ho
 dsimp only at F2 Fn
 refine eS U (BI U (gP ⟨om,om⟩))<|eS U (FA 0 U fB U)<|eS U (L1 (vI o.2.Lo) 3 U ct U U)<|eS U (MX U)<|eS U (MV U)<|eS U (FA 1 U fB U)<|eS U (L1 (vI o.2.Hi) 3 U ct U U)<|eS U (MN U)<|eS U (SX (aZ (xs:=[(0,.tmp 54),(1,.tmp 58)]) (cs:=(aa.cells (aa.mk (max (v+y) o.2.Lo) (min z o.2.Hi)))) U U (bf gR U)) U U)<|ff U<|cf U fun T30 Cp=>AL U dk fun J2=>aG (Cp _ _ (aK [1,2,3,4,5,6,7,8,9,10,11,12,13,14,15,16,17,18]) ?_)
 refine cf U fun T32 Cu=>fG U cx U<|aG (Cu _ _ (aK [1,2,3,4,5,6,7,8,9,10,11,12,13,14,15,16,17,18]) ?_)
 refine fV U<|KK Ci<|ah fun _ R=>dF cE 19 kr<|dP 6 [] (mc 0 U I) ?_
 refine jL (t:=65) U (aR fun d=>?_) (aQ fun d=>?_)
 ·refine lQ 3 U<|lQ 10 U<|cQ<|rP 3 [] I ?_
  refine RK R<|aS U<|cr<|aF<|gi 17 U eQ U ?_
  refine bg (V ⟨((bY l2 u),T,A2),⟨k7 B,mm.skip A3 L D (by exact C3 hy d),E,G,H,AB⟩⟩ _ _ _ U (er L) (aW U) (aK [2,3,4,5,6,7,8,9,10,11,12,13,14,15,16,17,18]))
 refine dP 3 [0,1,2] (mr 14 U (mc 2 U (mc 1 U I))) ?_
 have J9:(0≤(d_ t u).right∧(d_ t u).right≤1000)∧0≤(d_ t u).fK∧(d_ t u).fK≤1000:=by simp only [d_]; omega
 have J8:(0≤(d_ (d_ t u) (e9 o.1)).right∧(d_ (d_ t u) (e9 o.1)).right≤1000)∧0≤(d_ (d_ t u) (e9 o.1)).fK∧(d_ (d_ t u) (e9 o.1)).fK≤1000:=by simp only [d_]; omega
 refine dS (CL (sW t u om om) (aD) U)<|lQ 1 U<|dS (CL (EL o.1) (aD) U)<|dS (CL (sW (d_ t u) (e9 o.1) asm om) (aD) U)<|dS (CL (JV ln ri e tms e_A e_C tb t_A t_C fs bs fb f_A f_C bb b_A b_C gw (d_ (d_ t u) (e9 o.1)) asm hsg) (a_ [6,7,8,9,10,11,12,13]) U)<|dP 2 [] I ?_
 refine jL (t:=75) U (fun g=>?_) (fun g=>?_)
 ·refine lQ 3 U<|cQ<|rP 3 [] I ?_
  refine RK R<|aS U<|cr<|aF<|gi 17 U eQ U ?_
  refine bg (V ⟨((bY l2 u),T,A2),⟨k7 B,mm.skip A3 L D (by exact D0 g),E,G,H,AB⟩⟩ _ _ _ U (er L) (aW U) (aK [2,3,4,5,6,7,8,9,10,11,12,13,14,15,16,17,18]))
 refine dP 3 [0,1] (mc 5 U (mc 0 U I)) ?_
 refine cQ<|jA (k:=T) (k':=(T++[(o.1,(aa.mk (max (v+y) o.2.Lo) (min z o.2.Hi)))])) 18 (by first|exact Go|exact Nat.le_refl _) hY H AB U U U (by exact ⟨(o.1,_),gK.2 ⟨o,ho,(t,v),K _ hm,(u,z),B _ L,(yz hy d g)⟩,U,U⟩) U U (fun B34 W AA=>?_) (fun B34 W AA=>?_)
 rotate_left 1
 ·refine rP 2 [] I ?_
  refine RK R<|aL U<|ao ?_
  exact D8 B34 _ _ (by exact ⟨U,W,AA⟩) (aK [3,5,18,6,7,8,9,10,11,12,13,14,15])
 refine rP 2 [] I ?_
 refine RK R<|aS U<|cr<|aF<|gi 17 U eQ U ?_
 refine bg (V ⟨((bY l2 u),(T++[(o.1,(aa.mk (max (v+y) o.2.Lo) (min z o.2.Hi)))]),B34),⟨k7 B,mm.Px A3 L D (yz hy d g),E.app,G.app,W,AA⟩⟩ _ _ _ U (er L) (aW U) (aK [2,3,4,5,6,7,8,9,10,11,12,13,14,15,16,17,18]))
end
section
open Go.RowKit
theorem IG (l:bo) (kA:OA) (kC:Nat) (az:List RA) (cA:OA) (cC:Nat) (bA:OA) (bC:Nat) (r:dw) (sgA:OA) (sgC:Nat) (f:Value) (X:aq) (me:Int) (gm:Nat) (hf:Ai Tryz.prog f [] [X] (.int .i64 me)) (hin:eA l az) (hsl:r.aj.length≤1000000):
 lq Tryz.prog 58 [(vA (cu.cells (ko l kA kC cA cC bA bC))),(vA (eC.cells (kT r sgA sgC))),(vS (some ⟨gm,0,none⟩) 1 1)] [(rd kA l.aN.length 9 (l.aN.map ai.cells)),(rd cA l.ak.length 2 (List.zipWith av.cells l.ak az)),(eY (aX av.ja l.ak az)),(rd bA l.ab.length 4 (l.ab.map bM.cells)),(rd sgA r.aj.length 2 (r.aj.map aH.cells)),X,(bQ gm 124 [f])] (fun (x:Bool×Int×Nat×(OA)×Nat×(OA)×Nat×(List Nat)×(List FM)×(List Nat)×(OA)×Nat×(List FM)×(List Nat)×(OA)×Nat)=>bif x.1 then (vT [(Value.pointer (some ⟨x.2.2.1,0,none⟩)),(vI 0)]) else (vT [(Value.pointer none),(vI x.2.1)])) (fun (x:Bool×Int×Nat×(OA)×Nat×(OA)×Nat×(List Nat)×(List FM)×(List Nat)×(OA)×Nat×(List FM)×(List Nat)×(OA)×Nat)=>(x.1=true→(ed l r me=0∧rI (cz l r) x.2.2.2.2.2.2.2.2.1∧pZ (cz l r) x.2.2.2.2.2.2.2.2.2.2.2.2.1∧x.2.2.2.2.2.2.2.2.2.1.length=x.2.2.2.2.2.2.2.2.1.length∧x.2.2.2.2.2.2.2.2.2.2.2.2.2.1.length=x.2.2.2.2.2.2.2.2.2.2.2.2.1.length∧x.2.2.2.2.2.2.2.1.length=(bZ l r.aj r.aj.length).length))∧(x.1=false→(x.2.1=ed l r me∧ ¬ ed l r me=0))) (fun (x:Bool×Int×Nat×(OA)×Nat×(OA)×Nat×(List Nat)×(List FM)×(List Nat)×(OA)×Nat×(List FM)×(List Nat)×(OA)×Nat)=>bif x.1 then [(bQ x.2.2.1 166 (bL.cells (bL.mk (ko l kA kC cA cC bA bC) (kT r sgA sgC) (bk.mk x.2.2.2.1 ((cZ l l.ab.length).length) x.2.2.2.2.1) (bk.mk x.2.2.2.2.2.1 ((bZ l r.aj r.aj.length).length) x.2.2.2.2.2.2.1) (bk.mk x.2.2.2.2.2.2.2.2.2.2.1 x.2.2.2.2.2.2.2.2.1.length x.2.2.2.2.2.2.2.2.2.2.2.1) (bk.mk x.2.2.2.2.2.2.2.2.2.2.2.2.2.2.1 x.2.2.2.2.2.2.2.2.2.2.2.2.1.length x.2.2.2.2.2.2.2.2.2.2.2.2.2.2.2)))),(own x.2.2.2.1 x.2.2.2.2.1 3 1 ((cZ l l.ab.length).map iC)),(own x.2.2.2.2.2.1 x.2.2.2.2.2.2.1 40 1 (List.zipWith e8 (bZ l r.aj r.aj.length) x.2.2.2.2.2.2.2.1)),(bB (aX nX (bZ l r.aj r.aj.length) x.2.2.2.2.2.2.2.1)),(own x.2.2.2.2.2.2.2.2.2.2.1 x.2.2.2.2.2.2.2.2.2.2.2.1 170 1 (List.zipWith e8 x.2.2.2.2.2.2.2.2.1 x.2.2.2.2.2.2.2.2.2.1)),(bB (aX lD x.2.2.2.2.2.2.2.2.1 x.2.2.2.2.2.2.2.2.2.1)),(own x.2.2.2.2.2.2.2.2.2.2.2.2.2.2.1 x.2.2.2.2.2.2.2.2.2.2.2.2.2.2.2 170 1 (List.zipWith e8 x.2.2.2.2.2.2.2.2.2.2.2.2.1 x.2.2.2.2.2.2.2.2.2.2.2.2.2.1)),(bB (aX lD x.2.2.2.2.2.2.2.2.2.2.2.2.1 x.2.2.2.2.2.2.2.2.2.2.2.2.2.1))] else []):=by
 have QS:=hin.ux
 have QQ:=hin.s_
 have QO:=hin.o4
 have QP:=hin.tW
 have QR:=hin.side
 refine de kr Tryz.func58 U U fun w0 Q hQ hN=>?_
 try dsimp only
 refine WS fun _ Op=>fY U fun b2=>fY U fun b3=>bh 2 U<|RK Op<|ah fun _ Or=>WS fun _ Os=>fr 1 [] (mc 1 U I) U<|rS (CL (uw l kA kC az cA cC bA bC hin) (a_ [2,3,4,5]) U)<|bh 1 U<|RK Os<|WS fun _ PN=>rP 2 [] I ?_
 refine RK PN<|cM U (bq fun h=>?_) (bp fun h=>?_)
 ·refine WS fun _ PP=>rP 3 [] I ?_
  refine RK PP<|ao<|LX hQ (false,(eU l),0,none,0,none,0,[],[],[],none,0,[],[],none,0) [] [] I U (by rfl) U U ?_
  exact qL<|xJ (gH (r:=r) (me:=me) h) h
 refine WK Or<|ah fun _ PX=>WS fun _ AO=>?_
 have C:eU l=0:=h
 obtain ⟨LY,d⟩:=ji C
 have Pi:=d.head
 unfold gE at Pi
 refine rP 2 [] (mc 0 U I) ?_
 refine cH (xs:=[.tmp 24]) (cs:=[(vI r.Start)]) U cy hE U U U U (by simp [Value.cells]) U U fun L0=>?_
 refine rS (CL (dR.eq (gf 0 86400000 ([r.Start]) (some ⟨L0,0,none⟩) 1 (by (simp; done))) cp) (al (aV 0 U U (by simp [bu]) U)<|aD) U) ?_
 refine rP 2 [] I ?_
 refine cK (t:=28) U (bq fun M2=>?_) (bp fun M2=>?_)
 ·refine bh 14 U<|RK AO<|aL U<|WS fun _ A8=>rP 2 [] I ?_
  refine RK A8<|ao<|LX hQ (false,51,0,none,0,none,0,[],[],[],none,0,[],[],none,0) [] [] I U (by rfl) U U ?_
  exact qL<|j1 (cJ (me:=me) C (fun q:fh l r=>by have q1:=q.time; have q2:=q.len; omega))
 refine rP 4 [] (mc 1 U I) ?_
 refine cH (xs:=[.tmp 32]) (cs:=[(vI r.iL)]) U cy hE U U U U (by simp [Value.cells]) U U fun L2=>?_
 refine rS (CL (dR.eq (gf r.Start 86400000 ([r.iL]) (some ⟨L2,0,none⟩) 1 (by (simp; done))) cp) (al (aV 0 U U (by simp [bu]) U)<|aD) U) ?_
 refine rP 3 [] I ?_
 refine cK (t:=37) U (bq fun Ne=>?_) (bp fun Ne=>?_)
 ·refine bh 5 U<|RK AO<|aL U<|WS fun _ A9=>rP 2 [] I ?_
  refine RK A9<|ao<|LX hQ (false,51,0,none,0,none,0,[],[],[],none,0,[],[],none,0) [] [] I U (by rfl) U U ?_
  exact qL<|j1 (cJ (me:=me) C (fun q:fh l r=>by have q1:=q.time; have q2:=q.len; omega))
 refine rP 5 [] (mc 2 U I) ?_
 refine RK AO<|cM U (aQ fun Nn=>?_) (aR fun Nn=>?_)
 ·refine WS fun _ B3=>rP 2 [] I ?_
  refine RK B3<|ao<|LX hQ (false,51,0,none,0,none,0,[],[],[],none,0,[],[],none,0) [] [] I U (by rfl) U U ?_
  exact qL<|j1 (cJ (me:=me) C (fun q:fh l r=>by have q1:=q.time; have q2:=q.len; omega))
 refine WK PX<|WS fun _ B7=>rS (SX (aZ (xs:=[(0,.const (vI (-1)))]) (cs:=(aH.cells (aH.mk (-1) 0))) U U (bf zl U)) U U)<|AL U yW fun V=>fG U n8 U<|RK B7<|ah fun _ B9=>ek cE [5,6,7,8] [] [] [0,1,2,3,4,5,6,7,8,9,10,11] [] U U U U U<|eS U (LW 4 U ct U U)<|eS U (LW 3 U ct U U)<|eS U (FA 3 U fB U)<|eS U (L1 (vS bA l.ab.length bC) 4 U ct U U)<|eS U (LN U IQ)<|ff U<|cf U fun T18 IR=>?_
 refine uk (n:=l.ab.length) (es:=(List.map oC (List.replicate l.ab.length (none:Option Nat)))) U U U Kt om om (by simp only [maxLen]; omega) (by rw [List.map_replicate]; rfl) U fun B=>?_
 try dsimp only
 refine aG (IR _ _ (aK [1,2,3,4,5,6,7,8,9,10,11,12]) ?_)
 refine cf U fun T20 Id=>rS (SX (aZ (xs:=[(0,.tmp 44),(1,.tmp 45),(3,.tmp 49)]) (cs:=(bL.cells (bL.mk (ko l kA kC cA cC bA bC) (kT r sgA sgC) (bk.mk none 0 0) (bk.mk (some ⟨B,0,none⟩) l.ab.length l.ab.length) (bk.mk none 0 0) (bk.mk none 0 0)))) U U (bf J_ U)) U U)<|aG (Id _ _ (aK [1,2,3,4,5,6,7,8,9,10,11,12]) ?_)
 refine cf U fun T21 If=>fY U fun AB=>aG (If _ _ (aK [2,3,4,5,6,7,8,9,10,11,12,13]) ?_)
 refine cf U fun T23 In=>rS (AG U)<|aG (In _ _ (aK [2,3,4,5,6,7,8,9,10,11,12,13]) ?_)
 refine fV U<|KK B9<|ah fun _ Ci=>WS fun _ Ck=>rP 4 [] (mc 6 U I) ?_
 refine RK Ck<|aA ?_
 rw [qY]
 refine gI 3 1<|nJ ?_
 have E:(0≤l.ab.length)∧(([]:List Nat).length=0):=by exact ⟨Nat.zero_le _,rfl⟩
 refine bR (ι:={z:Nat×(OA)×Nat×(List Nat) // (z.1≤l.ab.length)∧(z.2.2.2.length=z.1)}) [2,3,4,6,7,9,10,54] [4,7,8,9,10,11,12,13,14,15] U U (fun z=>[(55,(vI (z.1.1:Int)))]) (fun z=>[(bB (aX nX (List.replicate z.1.1 ([]:TM)) z.1.2.2.2)),(own z.1.2.1 z.1.2.2.1 3 1 ((cZ l z.1.1).map iC)),(bQ AB 166 (bL.cells (bL.mk (ko l kA kC cA cC bA bC) (kT r sgA sgC) (bk.mk z.1.2.1 ((cZ l z.1.1).length) z.1.2.2.1) (bk.mk (some ⟨B,0,none⟩) l.ab.length l.ab.length) (bk.mk none 0 0) (bk.mk none 0 0)))),(own (some ⟨B,0,none⟩) l.ab.length 40 1 (List.map oC (cS z.1.2.2.2 l.ab.length)))]) (fun _=>rfl) (fun _=>rfl) (fun z=>l.ab.length-z.1.1) ⟨(0,none,0,([]:List Nat)),E⟩ (aW U) (aK [4,7,8,9,10,11,12,13,14,15,0,1,2,3]) ?_
 clear E
 rintro ⟨⟨b,a,c,fb⟩,⟨A0,Y⟩⟩ J26 A7
 try dsimp only at A0 Y
 try dsimp only
 have Pl:(cS fb l.ab.length).length=l.ab.length:=lY om
 refine WS fun _ Cp=>rP 1 [] I ?_
 refine RK Cp<|ah fun _ Cu=>cM U (aQ fun NE=>?_) (aR fun NE=>?_)
 ·refine WK Cu<|ah fun _ Cx=>aA<|WS fun _ C0=>rP 2 [] I ?_
  refine RK C0<|ah fun _ C1=>ek cE [12,13,16] [4] [0] [0,1,2,3,4,5,6,7,8,9,10,13] [0,1,2,3,4,5,6,7,8,9,10,11,12,13] U U U U U<|eS U (MV U)<|eS U (MV U)<|eS U (SX (bx U U) U U)<|eS U (FA 10 U fB U)<|fS U (L1 (vS a ((cZ l b).length) c) 12 U ct U U)<|eS U (LW 2 U ct U U)<|eS U (MV U)<|eS U (CL (ET l kA kC az cA cC bA bC (b:Int) hin asm (by exact d.uT) om) (a_ [3,4,5,6]) U) ?_
  have QT:=F_ LY d.uT b
  have QU:=d.N4 b om
  simp only [Int.toNat_natCast]
  refine eS U (BI U (Bp ⟨om,om⟩))<|eS U (FA 1 U fB U)<|eS U (L1 (vI l.gN) 2 U ct U U) ?_
  refine eS U (CL (EU (1000*(kp l (b:Int).toNat)) l.gN om (by (simp; omega))) (aD) U) ?_
  refine eS U (SX (bx U U) U U)<|eS U (FA 10 U fB U)<|ff U<|gZ U fun T33 J2=>cH (xs:=[.tmp 69]) (cs:=[(vI (sK (1000*(kp l (b:Int).toNat)) l.gN))]) U cy hE U U U U (by simp [Value.cells]) U U fun QK=>aG (J2 _ _ (aK [1,2,3,4,5,6,7,8,9,10,11,14]) (aK [1,2,3,4,5,6,7,8,9,10,11,12,13,14]) ?_)
  refine cf U fun T35 J3=>?_
  refine ei (es2:=(List.map iC (cZ l (b+1)))) (m':=(cZ l (b+1)).length) 12 U U U rF U U (by simp [cT]) (aV (es:=List.map iC [(sK (1000*(kp l (b:Int).toNat)) l.gN)]) 0 U U (by simp [bu]) U) (ly _) (by have:=cT (l:=l) (n:=b); first|omega|(simp; omega)) (by simp only [maxLen,cT]; omega) (by rw [rV]; simp [pX]) (by simp [cT]) U fun e g=>?_
  try dsimp only
  refine aG (J3 _ _ (aK [1,2,3,4,5,6,7,8,9,10,11,14]) ?_)
  refine cf U fun T38 J4=>gW (vs:=[(vS e ((cZ l (b+1)).length) g)]) (cs':=(bL.cells (bL.mk (ko l kA kC cA cC bA bC) (kT r sgA sgC) (bk.mk e ((cZ l (b+1)).length) g) (bk.mk (some ⟨B,0,none⟩) l.ab.length l.ab.length) (bk.mk none 0 0) (bk.mk none 0 0)))) (C':=[_,_,_,_,_,_,_,_,_,_,_,_,_,(bQ AB 166 (bL.cells (bL.mk (ko l kA kC cA cC bA bC) (kT r sgA sgC) (bk.mk e ((cZ l (b+1)).length) g) (bk.mk (some ⟨B,0,none⟩) l.ab.length l.ab.length) (bk.mk none 0 0) (bk.mk none 0 0)))),_]) 13 U U U wm U U U U U U U<|aG (J4 _ _ (aK [1,2,3,4,5,6,7,8,9,10,11,14]) ?_)
  refine fV U<|KK C1<|an<|bh 1 U<|rS (SX (bx U U) U U)<|rP 3 [] (mc 13 U I) ?_
  refine my (kV:=iV) U U fun J=>?_
  try dsimp only
  obtain ⟨QC,Lk⟩:=aM (cS fb l.ab.length) b om
  have hx41m:(List.map oC (cS fb l.ab.length))[b]? =some (oC QC):=by rw [eX,Lk]; rfl
  refine rS (IA b U (ag (n:=l.ab.length) 15 U sq) th dc om om) ?_
  have J5:((cS fb l.ab.length).set b (some J))=(cS (fb++[J]) l.ab.length):=by exact pd om om
  refine eg (k:=b) (o:=0) (vs:=[(Value.map (some J))]) (es':=(List.map oC (cS (fb++[J]) l.ab.length))) (C':=[_,_,_,_,_,_,_,_,_,_,_,_,_,_,_,(own (some ⟨B,0,none⟩) l.ab.length 40 1 (List.map oC (cS (fb++[J]) l.ab.length)))]) 15 U U U Hh U U U U hx41m U dc (by exact (List.map_set (f:=oC) (l:=(cS fb l.ab.length)) (i:=b) (a:=(some J))).symm.trans (congrArg _ J5)) U<|aG<|aF<|KK Cx<|an<|rP 2 [] I ?_
  refine aG<|yl (X':=aX nX (List.replicate (b+1) ([]:TM)) (fb++[J])) 12 0 U U (B2 Y) ?_
  try dsimp only
  have J6:(vI (((b+1):Nat):Int))=(vI ((b:Int)+1)):=by exact cI om
  refine bg (A7 ⟨((b+1),e,g,(fb++[J])),⟨om,by simp; omega⟩⟩ _ _ _ U os (dx 8<|bG U J6<|ee.nil _) (aK [2,3,4,5,6,7,8,9,10,11,0,12,13,14]))
 refine bI<|ae<|ae<|aC<|KK Ci<|ah fun _ C2=>WS fun _ DU=>rP 4 [] (mc 1 U I) ?_
 refine RK DU<|aA ?_
 rw [show (List.replicate b ([]:TM))=bZ l r.aj 0 from by rw [tc,show b=l.ab.length by omega]]
 rw [show cZ l b=cZ l l.ab.length from by rw [show b=l.ab.length by omega]]
 have E:(0≤r.aj.length)∧(oL l r.aj 0):=by exact ⟨Nat.zero_le _,vX⟩
 refine bR (ι:={z:Nat // (z≤r.aj.length)∧(oL l r.aj z)}) [2,3,4,6,7,9,10,83,84] [1,2,3,4,5,6,7,8,9,11,12,13] U U (fun z=>[(85,(vI (z.1:Int)))]) (fun z=>[(bQ V 107 (aH.cells (ku r.aj z.1))),(bB (aX nX (bZ l r.aj z.1) fb))]) (fun _=>rfl) (fun _=>rfl) (fun z=>r.aj.length-z.1) ⟨0,E⟩ (aW U) (aK [1,2,3,4,5,6,7,8,9,11,12,13,0,10]) ?_
 clear E
 rintro ⟨i,⟨Ls,A⟩⟩ J46 T
 try dsimp only
 have Px:(bZ l r.aj i).length=l.ab.length:=fu
 have Pl:(cS fb l.ab.length).length=l.ab.length:=lY om
 refine WS fun _ Di=>rP 1 [] I ?_
 refine RK Di<|ah fun _ Do=>bT U (aR fun Nr=>?_) (aQ fun Nr=>?_)
 ·refine bI<|ae<|ae<|aC<|KK C2<|ah fun _ Fn=>ah fun _ F2=>?_
  have j:fh l r:=yL om om A om
  refine an<|bh 3 U<|RK F2<|aA<|iG 2<|dy fun R81 IO=>WS fun _ GE=>rS (SX (bP (r:= .bool true) U U U fW) U U)<|RK GE<|ah fun _ GT=>aL U<|WK GT<|ah fun _ Go=>aA<|WS fun _ Gy=>rS (Ow 0 0 U Kg U dc U)<|fr 2 [] (mr 8 U I) U<|RK Gy<|WS fun _ G6=>bh 1 U<|rS (SX (p6 U U U (hf) (a_ [7])) U U)<|bh 1 U<|RK G6<|WS fun _ HA=>rP 2 [] I ?_
  refine RK HA<|cM U (bq fun K=>?_) (bp fun K=>?_)
  ·refine WS fun _ Hi=>rP 3 [] I ?_
   refine RK Hi<|ao<|LX hQ (false,me,0,none,0,none,0,[],[],[],none,0,[],[],none,0) [] [] I U (by rfl) U U ?_
   exact qL<|xJ (oH C j K) K
  refine cr<|aF<|KK Go<|an<|rS (SX (bP (r:= .int .i64 1) U U U (gP ⟨dc,dc⟩)) U U)<|rP 1 [] I ?_
  refine RK IO<|dy fun R89 QG=>WS fun _ H1=>rS (SX (bP (r:= .bool false) U U U fW) U U)<|RK H1<|ah fun _ QF=>aS U<|bI<|ae<|ae<|aC<|KK Fn<|ah fun _ IF=>?_
  rw [show bZ l r.aj i=bZ l r.aj r.aj.length from by rw [show i=r.aj.length by omega]]
  have A2:(bZ l r.aj r.aj.length).length=l.ab.length:=fu
  rw [show (List.map oC (cS fb l.ab.length))=(List.zipWith e8 (bZ l r.aj r.aj.length) fb) from Of om A2]
  rw [show (bQ AB 166 (bL.cells (bL.mk (ko l kA kC cA cC bA bC) (kT r sgA sgC) (bk.mk a ((cZ l l.ab.length).length) c) (bk.mk (some ⟨B,0,none⟩) l.ab.length l.ab.length) (bk.mk none 0 0) (bk.mk none 0 0))))=(bQ AB 166 (bL.cells (bL.mk (ko l kA kC cA cC bA bC) (kT r sgA sgC) (bk.mk a ((cZ l l.ab.length).length) c) (bk.mk (some ⟨B,0,none⟩) ((bZ l r.aj r.aj.length).length) l.ab.length) (bk.mk none 0 0) (bk.mk none 0 0)))) from by rw [A2]]
  have Li:=lg LY d j
  have QH:(cZ l l.ab.length).length=l.ab.length:=cT
  refine an<|rP 1 [] I ?_
  refine iy 10 U U U U (yM (ko l kA kC cA cC bA bC) (kT r sgA sgC) (cZ l l.ab.length) (bZ l r.aj r.aj.length) a c fb (some ⟨B,0,none⟩) l.ab.length AB (by exact Li) (by exact cT.symm) (by rw [A2]; omega)) U (fz 9 U U (j0 sm) (fz 11 U U (j0 (by rw [List.length_zipWith]; omega)) (fz 13 U U oo jN))) U (fun Lm Pc=>?_)
  obtain ⟨G,S,P,R,F,O,N,H⟩:=Lm
  refine B4 (X:=[(bQ AB 166 (bL.cells (bL.mk (ko l kA kC cA cC bA bC) (kT r sgA sgC) (bk.mk a ((cZ l l.ab.length).length) c) (bk.mk (some ⟨B,0,none⟩) ((bZ l r.aj r.aj.length).length) l.ab.length) (bk.mk P G.length R) (bk.mk N F.length H)))),(own P R 170 1 (List.zipWith e8 G S)),(bB (aX lD G S)),(own N H 170 1 (List.zipWith e8 F O)),(bB (aX lD F O))]) 10 U U ?_
  try dsimp only
  obtain ⟨A1,LE,LH,LT⟩:=Pc
  dsimp only at A1 LE LH LT
  refine RK IF<|ah fun _ v=>WS fun _ w=>rP 1 [] I ?_
  refine cX (rE (ko l kA kC cA cC bA bC) (kT r sgA sgC) (cZ l l.ab.length) (bZ l r.aj r.aj.length) a c fb (some ⟨B,0,none⟩) l.ab.length G F S P R O N H AB (by exact Li) (by (simp; omega)) (by exact cT.symm) (by exact A1) asm) (al (ag (n:=(cZ l l.ab.length).length) 14 U sm)<|al (ag (n:=(bZ l r.aj r.aj.length).length) 15 U (by rw [List.length_zipWith]; omega))<|al (cW 17 U ke)<|al (ag (n:=G.length) 1 U (by rw [List.length_zipWith]; omega))<|al (cW 2 U ke)<|al (ag (n:=F.length) 3 U (by rw [List.length_zipWith]; omega))<|al (cW 4 U ke)<|eL 0 U U<|aD) U fun Lo QB=>?_
  obtain ⟨QD,QE⟩:=Lo
  try dsimp only
  refine rP 2 [] I ?_
  refine RK w<|bT U (aR fun W=>?_) (aQ fun W=>?_)
  ·refine WK v<|WS fun _ AC=>rP 3 [] I ?_
   refine RK AC<|ao ?_
   refine LX hQ (true,0,AB,a,c,(some ⟨B,0,none⟩),l.ab.length,fb,G,S,P,R,F,O,N,H) [1,15,16,18,2,3,4,5] [] I U (by (show List.all _ _=true; simp only [cond_true,eo,List.all_nil,nE,oz,Bool.and_true]; rfl)) U U ?_
   exact ⟨fun _=>⟨lX C j (by first|rfl|exact K) (fun q=>W (congrArg (fun z:List Int=>(z.length:Int)) q)),A1,LE,LH,LT,dso⟩,LR⟩
  refine WS fun _ y=>rP 2 [] I ?_
  refine RK y<|ao<|LX hQ (false,8,0,none,0,none,0,[],[],[],none,0,[],[],none,0) [] [] I U (by rfl) U U ?_
  exact qL<|j1 (gh (me:=me) C j (by first|rfl|exact K) (show gl (cz l r)=[] from iz (Int.natCast_eq_zero.1 W)))
 refine WK Do<|ah fun _ AA=>aA<|WS fun _ D8=>rP 1 [] I ?_
 obtain ⟨x,hx⟩:=aM r.aj i om
 have P9:=bW aH.cells hx
 refine rS (IA i U (aJ 6 U) Jj dc om om)<|rS (n9 i 0 (aH.cells x) U ct (aJ 6 U) P9 U dc U U)<|AL U yW fun QL=>bh 1 U<|fG U n8 U<|RK D8<|ah fun _ p=>WS fun _ L=>rP 6 [0,1] (mc 2 U (mc 0 U I)) ?_
 refine cH (xs:=[.tmp 95]) (cs:=[(vI x.fD)]) U cy hE U U U U (by simp [Value.cells]) U U fun MA=>?_
 refine rS (CL (dR.eq (gf 0 ((l.ab.length:Int)-1) ([x.fD]) (some ⟨MA,0,none⟩) 1 (by (simp; done))) cp) (al (aV 0 U U (by simp [bu]) U)<|aD) U) ?_
 refine rP 2 [] I ?_
 refine cK (t:=99) U (bq fun OM=>?_) (bp fun OM=>?_)
 ·refine bh 27 U<|RK L<|aL U<|WS fun _ EQ=>rP 2 [] I ?_
  refine RK EQ<|ao<|LX hQ (false,51,0,none,0,none,0,[],[],[],none,0,[],[],none,0) [] [] I U (by rfl) U U ?_
  exact qL<|j1 (cJ (me:=me) C (jn hx (by unfold g9 iJ; omega)))
 refine rP 2 [] (mc 1 U I) ?_
 refine cH (xs:=[.tmp 101]) (cs:=[(vI x.Read)]) U cy hE U U U U (by simp [Value.cells]) U U fun Mi=>?_
 refine rS (CL (dR.eq (gf 0 86400000 ([x.Read]) (some ⟨Mi,0,none⟩) 1 (by (simp; done))) cp) (al (aV 0 U U (by simp [bu]) U)<|aD) U) ?_
 refine rP 3 [] I ?_
 refine cK (t:=106) U (bq fun A3=>?_) (bp fun A3=>?_)
 ·refine bh 20 U<|RK L<|aL U<|WS fun _ EY=>rP 2 [] I ?_
  refine RK EY<|ao<|LX hQ (false,51,0,none,0,none,0,[],[],[],none,0,[],[],none,0) [] [] I U (by rfl) U U ?_
  exact qL<|j1 (cJ (me:=me) C (jn hx (by unfold g9 iJ; omega)))
 refine rP 7 [0,1] (mc 2 U (mc 15 U I)) ?_
 refine cK (t:=113) U (aQ fun A4=>?_) (aR fun A4=>?_)
 ·refine bh 13 U<|RK L<|aL U<|WS fun _ Ec=>rP 2 [] I ?_
  refine RK Ec<|ao<|LX hQ (false,51,0,none,0,none,0,[],[],[],none,0,[],[],none,0) [] [] I U (by rfl) U U ?_
  exact qL<|j1 (cJ (me:=me) C (jn hx (by unfold g9 iJ; omega)))
 refine rP 6 [0,1] (mc 2 U (mc 15 U I)) ?_
 refine cb (t:=119) U (aR fun A5=>?_) (aQ fun A5=>?_)
 ·refine bh 7 U<|RK L<|aS U<|WK p<|ah fun _ u=>WS fun _ Fa=>fr 2 [0,1] (mc 4 U (mc 2 U I)) U<|rS (CL (wC l kA kC az cA cC bA bC x hin asm om) (a_ [5,6,7,8]) U)<|AL U dk fun QN=>fG U cx U<|RK Fa<|WS fun _ Fd=>rP 5 [] (mc 0 U I) ?_
  refine RK Fd<|bT U (aR fun D=>?_) (aQ fun D=>?_)
  ·refine WK u<|an<|rP 1 [] (mc 3 U I) ?_
   refine gW (vs:=(aH.cells x)) (cs':=(aH.cells x)) (C':=[_,_,_,_,_,_,_,_,_,_,_,_,_,_,_,_,(bQ V 107 (aH.cells x)),_]) 16 U U U n8 U U U U U U U<|aG<|aF<|KK AA ?_
   have K0:(aH.cells x)=(aH.cells (ku r.aj (i+1))):=by rw [iX hx]
   rw [K0]
   refine an<|rP 2 [] I ?_
   refine aG ?_
   rw [show (bZ l r.aj i)=(bZ l r.aj (i+1)) from (nZ hx D).symm]
   have K4:(vI (((i+1):Nat):Int))=(vI ((i:Int)+1)):=by exact cI om
   refine bg (T ⟨(i+1),⟨om,jZ A hx (by unfold g9 iJ; omega)⟩⟩ _ _ _ U os (dx 9<|bG U K4<|ee.nil _) (aK [4,5,6,7,8,9,10,11,12,13,14,15,16,17]))
  obtain ⟨mb,Z⟩:=aM (bZ l r.aj i) ((x.fD).toNat) om
  obtain ⟨ga,M⟩:=aM fb ((x.fD).toNat) om
  refine vW 17 Z M U U U ?_
  try dsimp only
  refine dF cE 10 kr<|lQ 1 U<|dS (SX (bx U U) U U)<|dP 4 [0,1] (mc 16 U (mc 5 U I)) ?_
  have K8:(List.map oC (cS fb l.ab.length))[(x.fD).toNat]? =some (oC (some ga)):=oc (kW M)
  refine dS (IA ((x.fD).toNat) U (ag (n:=l.ab.length) 17 U sq) th dc om om) ?_
  refine dS (g_ ((x.fD).toNat) 0 (Value.map (some ga)) U ct (ag (n:=(cS fb l.ab.length).length) 17 U sm) K8 U dc U)<|mQ 2 [] (mc 2 U I) U<|cQ<|ig (kV:=iV) (x:=(i:Int)) (C':=[(gQ iV ga (bK dm (dN mb (i:Int) (eT l x)))),_,_,_,_,_,_,_,_,_,_,_,_,_,_,_,_,_,_]) 0 U U U U lP (dJ og) U (fI _ _ _ _).symm U<|RK u<|an<|rP 1 [] (mc 5 U I) ?_
  refine gW (vs:=(aH.cells x)) (cs':=(aH.cells x)) (C':=[_,_,_,_,_,_,_,_,_,_,_,_,_,_,_,_,_,_,(bQ V 107 (aH.cells x))]) 18 U U U n8 U U U U U U U<|aG<|aF<|KK AA ?_
  have Kf:(aH.cells x)=(aH.cells (ku r.aj (i+1))):=by rw [iX hx]
  rw [Kf]
  refine an<|rP 2 [] I ?_
  refine aG ?_
  refine wW (f:=nX) (ms:=(bZ l r.aj i)) (m:=(dN mb (i:Int) (eT l x))) 1 0 (by rw [fu]; omega) M U U U ?_
  rw [o6 hx om D Z]
  have Kx:(vI (((i+1):Nat):Int))=(vI ((i:Int)+1)):=by exact cI om
  refine bg (T ⟨(i+1),⟨om,jZ A hx (by unfold g9 iJ; omega)⟩⟩ _ _ _ U os (dx 9<|bG U Kx<|ee.nil _) (aK [5,6,7,8,9,10,11,12,13,14,15,16,17,0]))
 refine rP 7 [0,1] (mc 2 U (mc 15 U I)) ?_
 refine RK L<|cM U (aQ fun A6=>?_) (aR fun A6=>?_)
 ·refine WS fun _ Eq=>rP 2 [] I ?_
  refine RK Eq<|ao<|LX hQ (false,51,0,none,0,none,0,[],[],[],none,0,[],[],none,0) [] [] I U (by rfl) U U ?_
  exact qL<|j1 (cJ (me:=me) C (jn hx (by unfold g9 iJ; omega)))
 refine WK p<|ah fun _ s=>WS fun _ Ey=>fr 2 [0,1] (mc 4 U (mc 2 U I)) U<|rS (CL (wC l kA kC az cA cC bA bC x hin asm om) (a_ [5,6,7,8]) U)<|AL U dk fun QM=>fG U cx U<|RK Ey<|WS fun _ FS=>rP 5 [] (mc 0 U I) ?_
 refine RK FS<|bT U (aR fun D=>?_) (aQ fun D=>?_)
 ·refine WK s<|an<|rP 1 [] (mc 3 U I) ?_
  refine gW (vs:=(aH.cells x)) (cs':=(aH.cells x)) (C':=[_,_,_,_,_,_,_,_,_,_,_,_,_,_,_,_,(bQ V 107 (aH.cells x)),_]) 16 U U U n8 U U U U U U U<|aG<|aF<|KK AA ?_
  have J9:(aH.cells x)=(aH.cells (ku r.aj (i+1))):=by rw [iX hx]
  rw [J9]
  refine an<|rP 2 [] I ?_
  refine aG ?_
  rw [show (bZ l r.aj i)=(bZ l r.aj (i+1)) from (nZ hx D).symm]
  have KU:(vI (((i+1):Nat):Int))=(vI ((i:Int)+1)):=by exact cI om
  refine bg (T ⟨(i+1),⟨om,jZ A hx (by unfold g9 iJ; omega)⟩⟩ _ _ _ U os (dx 9<|bG U KU<|ee.nil _) (aK [4,5,6,7,8,9,10,11,12,13,14,15,16,17]))
 obtain ⟨mb,Z⟩:=aM (bZ l r.aj i) ((x.fD).toNat) om
 obtain ⟨ga,M⟩:=aM fb ((x.fD).toNat) om
 refine vW 17 Z M U U U ?_
 try dsimp only
 refine dF cE 10 kr<|lQ 1 U<|dS (SX (bx U U) U U)<|dP 4 [0,1] (mc 16 U (mc 5 U I)) ?_
 have K5:(List.map oC (cS fb l.ab.length))[(x.fD).toNat]? =some (oC (some ga)):=oc (kW M)
 refine dS (IA ((x.fD).toNat) U (ag (n:=l.ab.length) 17 U sq) th dc om om) ?_
 refine dS (g_ ((x.fD).toNat) 0 (Value.map (some ga)) U ct (ag (n:=(cS fb l.ab.length).length) 17 U sm) K5 U dc U)<|mQ 2 [] (mc 2 U I) U<|cQ<|ig (kV:=iV) (x:=(i:Int)) (C':=[(gQ iV ga (bK dm (dN mb (i:Int) (eT l x)))),_,_,_,_,_,_,_,_,_,_,_,_,_,_,_,_,_,_]) 0 U U U U lP (dJ og) U (fI _ _ _ _).symm U<|RK s<|an<|rP 1 [] (mc 5 U I) ?_
 refine gW (vs:=(aH.cells x)) (cs':=(aH.cells x)) (C':=[_,_,_,_,_,_,_,_,_,_,_,_,_,_,_,_,_,_,(bQ V 107 (aH.cells x))]) 18 U U U n8 U U U U U U U<|aG<|aF<|KK AA ?_
 have J7:(aH.cells x)=(aH.cells (ku r.aj (i+1))):=by rw [iX hx]
 rw [J7]
 refine an<|rP 2 [] I ?_
 refine aG ?_
 refine wW (f:=nX) (ms:=(bZ l r.aj i)) (m:=(dN mb (i:Int) (eT l x))) 1 0 (by rw [fu]; omega) M U U U ?_
 rw [o6 hx om D Z]
 have J8:(vI (((i+1):Nat):Int))=(vI ((i:Int)+1)):=by exact cI om
 refine bg (T ⟨(i+1),⟨om,jZ A hx (by unfold g9 iJ; omega)⟩⟩ _ _ _ U os (dx 9<|bG U J8<|ee.nil _) (aK [5,6,7,8,9,10,11,12,13,14,15,16,17,0]))
end
section
open Go.RowKit
theorem zt (l:bo) (kA:OA) (kC:Nat) (az:List RA) (cA:OA) (cC:Nat) (bA:OA) (bC:Nat) (r:dw) (sgA:OA) (sgC:Nat) (bq_:Int) (hin:eA l az) (hsl:r.aj.length≤1000000):
 dR Tryz.prog 25 [(vA (cu.cells (ko l kA kC cA cC bA bC))),(vA (eC.cells (kT r sgA sgC))),(vI bq_)] [(rd kA l.aN.length 9 (l.aN.map ai.cells)),(rd cA l.ak.length 2 (List.zipWith av.cells l.ak az)),(eY (aX av.ja l.ak az)),(rd bA l.ab.length 4 (l.ab.map bM.cells)),(rd sgA r.aj.length 2 (r.aj.map aH.cells))] (vT [(vA (aa.cells (eO l r bq_))),(vI (db l r bq_))]):=by
 have J5:=hin.ux
 have IR:=hin.s_
 have G6:=hin.o4
 have IF:=hin.tW
 have J3:=hin.side
 refine bE kr Tryz.func25 U U fun w0 Q hQ hN=>?_
 try dsimp only
 refine WS fun _ A3=>fY U fun b2=>fY U fun b3=>qM U U fun b4=>AL U dk fun b5=>bh 1 U<|RK A3<|WS fun _ p=>rP 2 [0,1] (mc 3 U (mc 2 U I)) ?_
 refine rS (FU U)<|cH (xs:=[.tmp 17]) (cs:=[(Value.func (.func 59) [].toArray [(vP b2),(vP b4)].toArray)]) U Kg Mo U U U U (by simp [Value.cells]) U U fun b7=>cX (IG l kA kC az cA cC bA bC r sgA sgC (Value.func (.func 59) [].toArray [(vP b2),(vP b4)].toArray) (eY [(rd kA l.aN.length 9 (l.aN.map ai.cells)),(rd cA l.ak.length 2 (List.zipWith av.cells l.ak az)),(eY (aX av.ja l.ak az)),(rd bA l.ab.length 4 (l.ab.map bM.cells)),(bQ b2 28 (cu.cells (ko l kA kC cA cC bA bC))),(bQ b4 3 [(vI bq_)])]) (iS l bq_) b7 (by exact l_ (fi:=[]) (ca:=[(vP b2),(vP b4)]) (kN (zR l kA kC az cA cC bA bC b2 bq_ b4 (by first|assumption|omega)) (a_ [0,1,2,3,4,5]))) hin hsl) (kf [5,6,7,8,9]<|al (kR (a_ [5,6,7,8,4,2]))<|eL 0 U U<|aD) U fun y8 C1=>?_
 obtain ⟨C2,F2,E,H,AB,g,j,m,B,L,J,K,A,G,d,f⟩:=y8
 cases C2
 ·obtain ⟨Cp,he⟩:=C1.2 rfl
  try dsimp only at Cp he
  subst Cp
  try dsimp only [cond_true,cond_false,List.cons_append,List.nil_append]
  refine bh 5 U<|RK p<|ah fun _ GE=>WS fun _ B7=>rP 2 [] I ?_
  refine RK B7<|bT U (bp fun B3=>?_) (bq fun B3=>?_)
  ·exact absurd B3 he
  refine WS fun _ B9=>rS (SX (aZ (xs:=[]) (cs:=(aa.cells (aa.mk 0 0))) U U (bf gR U)) U U)<|bh 1 U<|sD U cx U<|rP 1 [] I ?_
  refine RK B9<|ao<|mO hQ [0] (mc 1 U I) U ?_
  (have e:=mw (b:=bq_) he; rw [e.1,e.2]<;>rfl)
 obtain ⟨he,D,C,D8,Do,Ec⟩:=C1.1 rfl
 try dsimp only [cond_true,cond_false,List.cons_append,List.nil_append]
 dsimp only at D C D8 Do Ec
 obtain ⟨Di,A7,EY,If⟩:=iu he
 obtain ⟨Eq,Cx⟩:=ji Di
 have EQ:=Cx.head
 unfold gE at EQ
 have Ey:=lg Eq Cx A7
 have J2:=A7.time
 have In:=A7.len
 have Cu:(cZ l l.ab.length).length=l.ab.length:=cT
 have C0:(bZ l r.aj r.aj.length).length=l.ab.length:=fu
 have Id:B.length=l.ab.length+1:=by have:=D.len; rw [show (cz l r).n=l.ab.length from cT] at this; exact this
 have IO:A.length=l.ab.length+1:=by have:=C.len; rw [show (cz l r).n=l.ab.length from cT] at this; exact this
 obtain ⟨HA,H1⟩:=AD EY
 obtain ⟨b,A4⟩: ∃ b:Nat,bq_=(b:Int):=⟨bq_.toNat,om⟩
 rw [A4]
 refine bh 5 U<|RK p<|ah fun _ N=>WS fun _ O=>bh 1 U<|rS (SX (bP (r:= .bool false) U U U l9) U U)<|RK O<|aS U<|WK N<|WS fun _ P=>rS (SX (aZ (xs:=[(0,.const (vI 1))]) (cs:=(aa.cells (aa.mk 1 0))) U U (bf gR U)) U U)<|AL U dk fun A8=>fG U cx U<|RK P<|WS fun _ R=>fr 1 [] (mc 0 U I) U<|AL U dk fun A9=>fG U cx U<|RK R<|ah fun _ T=>WS fun _ AA=>rP 2 [] (mc 12 U I) ?_
 obtain ⟨mf,Y⟩:=aM B b om
 obtain ⟨mb,Z⟩:=aM A (b+1) om
 refine cX (FL E b) (aD) U fun Fa GT=>?_
 obtain ⟨AC,AO⟩:=Fa
 try dsimp only
 refine RK AA<|aA ?_
 refine l4 (L0:=[(3,(vP b2)),(4,(vP b3)),(5,(vP b4)),(6,(vP b5)),(7,(vI 0)),(10,(vP A8)),(11,(vP A9))]) (F:=[(own H AB 3 1 ((cZ l l.ab.length).map iC)),(own g j 40 1 (List.zipWith e8 (bZ l r.aj r.aj.length) m)),(bB (aX nX (bZ l r.aj r.aj.length) m)),(own J K 170 1 (List.zipWith e8 B L)),(bB (aX lD B L)),(own d f 170 1 (List.zipWith e8 A G)),(bB (aX lD A G)),(bQ E 166 (bL.cells (bL.mk (ko l kA kC cA cC bA bC) (kT r sgA sgC) (bk.mk H ((cZ l l.ab.length).length) AB) (bk.mk g ((bZ l r.aj r.aj.length).length) j) (bk.mk J B.length K) (bk.mk d A.length f)))),(bQ AC 121 [(vP E)]),(bQ AO 3 [(vI (b:Int))])]) (fun k (y:aa)=>(lv k y)∧(∀ q∈k,q∈oa (cz l r) b mf mb)) (fun k y=>[(bQ A9 45 (aa.cells y)),(bQ A8 45 (aa.cells (aa.mk 1 0))),(bQ b5 45 (aa.cells (aa.mk 0 0))),(bQ b4 3 [(vI (b:Int))]),(bQ b3 60 (eC.cells (kT r sgA sgC))),(bQ b2 28 (cu.cells (ko l kA kC cA cC bA bC))),(rd kA l.aN.length 9 (l.aN.map ai.cells)).ro,(rd cA l.ak.length 2 (List.zipWith av.cells l.ak az)).ro,(eY (aX av.ja l.ak az)).ro,(rd bA l.ab.length 4 (l.ab.map bM.cells)).ro,(rd sgA r.aj.length 2 (r.aj.map aH.cells)).ro]) (fun _ (_:Unit)=>False) (fun _ _=>[]) [2,3,13,14,15,16,17,18,19,20,21] [5,6,7,8,9,10,11,4,0,1] l1 rfl rfl (Dc (ko l kA kC cA cC bA bC) (kT r sgA sgC) (cZ l l.ab.length) (bZ l r.aj r.aj.length) H AB m g j B A L J K G d f E b AC AO mf mb (by rw [Cu]; omega) (by exact Ey) (by rw [C0]; omega) (by exact D) om (by exact C) om (by show r.aj.length≤1000; omega) (by exact Y) (by exact Z)) rfl rfl rfl (by exact ⟨xL,fun q hq=>by cases hq⟩) (by simp only [List.forall_mem_cons,List.not_mem_nil,false_imp_iff,implies_true,and_true]; exact ⟨⟨_,aT (i:=0) rfl,(j0 sm)⟩,⟨_,aT (i:=1) rfl,(j0 (by rw [List.length_zipWith]; omega))⟩,⟨_,aT (i:=2) rfl,oo⟩,⟨_,aT (i:=3) rfl,(j0 (by rw [List.length_zipWith]; omega))⟩,⟨_,aT (i:=4) rfl,oo⟩,⟨_,aT (i:=5) rfl,(j0 (by rw [List.length_zipWith]; omega))⟩,⟨_,aT (i:=6) rfl,oo⟩,⟨_,aT (i:=7) rfl,(bU _)⟩,⟨_,aT (i:=8) rfl,(bU _)⟩,⟨_,aT (i:=9) rfl,(bU _)⟩⟩) (by rintro k x k2 ⟨o,_,rfl,_⟩; rfl) rfl (aW rfl) ?_ ?_ (fun _ _ _ h=>h.elim) (fun _ _ h=>h.elim)
 ·rintro k x k2 h lr ra rb S w1 K41 Qr42 J4 hx A5 Ci X FS Fd
  obtain ⟨q,hq,rfl,rfl⟩:=hx
  obtain ⟨a,c⟩:=A5
  try dsimp only
  refine an<|AL U dk fun Go=>fG U cx U<|aG<|kv (fun _ _ h=>h) (aK [1,0,2,3,4,5,6,7,8,9,10,11,12])<|bg (Ci _ _ ?_)
  refine aA<|ah fun _ s=>WS fun _ Ck=>rP 2 [0,1] (mc 2 U (mc 3 U I)) ?_
  refine rS (BI U (Kc _ _ h (aa.mk 1 0)))<|RK Ck<|bT U (bp fun M=>?_) (bq fun M=>?_)
  ·refine WK s<|an<|rP 1 [] (mc 1 U I) ?_
   refine CH U cx U<|aG<|aF ?_
   exact X q.2 _ _ (by refine ⟨wb a (mN hq) ?_,fun z hz=>?_⟩; (first|exact if_neg M|exact if_pos M); (rcases dM.1 hz with hz|hz; exact c z hz; (rw [bJ.1 hz]; exact hq))) (aK [0,2,3,4,5,6,7,8,9,10,11,12])
  refine an<|fr 4 [0,1] (mc 1 U (mc 2 U I)) U<|rS (MN U)<|fr 4 [0,1] (mc 1 U (mc 2 U I)) U<|rS (MX U)<|rS (SX (aZ (xs:=[(0,.tmp 40),(1,.tmp 45)]) (cs:=(aa.cells (aa.mk (min q.2.Lo h.Lo) (max q.2.Hi h.Hi)))) U U (bf gR U)) U U)<|sD U cx U<|RK s<|an<|rP 1 [] (mc 1 U I) ?_
  refine CH U cx U<|aG<|aF ?_
  exact X (aa.mk (min q.2.Lo h.Lo) (max q.2.Hi h.Hi)) _ _ (by refine ⟨wb a (mN hq) ?_,fun z hz=>?_⟩; (first|exact if_neg M|exact if_pos M); (rcases dM.1 hz with hz|hz; exact c z hz; (rw [bJ.1 hz]; exact hq))) (aK [0,2,3,4,5,6,7,8,9,10,11,12])
 rintro J7 k h v A6
 obtain ⟨a,c⟩:=A6
 try dsimp only
 refine aF<|KK T<|ah fun _ V=>WS fun _ W=>rP 2 [0,1] (mc 11 U (mc 12 U I)) ?_
 refine rS (BI U (uB _ _ h (aa.mk 1 0)))<|RK W<|bT U (aR fun A2=>?_) (aQ fun A2=>?_)
 ·refine WK V<|WS fun _ u=>fr 1 [] (mc 11 U I) U<|gW (vs:=(aa.cells h)) (cs':=(aa.cells h)) (C':=[_,_,_,_,_,_,_,_,_,_,_,_,_,(bQ b5 45 (aa.cells h)),_,_,_,_,_,_,_,_]) 13 U U U cx U U U U U U U<|rP 1 [] I ?_
  refine RK u<|ao<|hQ _ _ _ (nc 0 U U<|gp (vs:=[(vA (aa.cells h)),(vI 0)]) ⟨⟨_,U,.inl ⟨_,_,ct,nU (vs:=(aa.cells h)) 13 U U,U,U⟩⟩,U,trivial⟩ fun w hs=>Ab ?_ hs)
  show (vT [(vA (aa.cells h)),(vI 0)])=(vT [(vA (aa.cells (eO l r bq_))),(vI (db l r bq_))])
  clear hs w hQ hN u W V AA T R P O N p A3
  (rw [A4] at he ⊢; have hh:h=lj l r b:=vY (D.min _ _ Y) (C.max _ _ Z) (D.keys _ _ Y) (C.keys _ _ Z) c v a; (have e:=r_ he (fun q=>A2 (hh.trans q)); rw [e.1,e.2,hh]<;>rfl))
 refine WS fun _ t=>rS (SX (aZ (xs:=[]) (cs:=(aa.cells (aa.mk 0 0))) U U (bf gR U)) U U)<|gW (vs:=(aa.cells (aa.mk 0 0))) (cs':=(aa.cells (aa.mk 0 0))) (C':=[_,_,_,_,_,_,_,_,_,_,_,_,_,(bQ b5 45 (aa.cells (aa.mk 0 0))),_,_,_,_,_,_,_,_]) 13 U U U cx U U U U U U U<|rP 1 [] I ?_
 refine RK t<|ao<|hQ _ _ _ (nc 0 U U<|gp (vs:=[(vA (aa.cells (aa.mk 0 0))),(vI 6)]) ⟨⟨_,U,.inl ⟨_,_,ct,nU (vs:=(aa.cells (aa.mk 0 0))) 13 U U,U,U⟩⟩,U,trivial⟩ fun w hs=>Ab ?_ hs)
 show (vT [(vA (aa.cells (aa.mk 0 0))),(vI 6)])=(vT [(vA (aa.cells (eO l r bq_))),(vI (db l r bq_))])
 clear hs w hQ hN t W V AA T R P O N p A3
 (rw [A4] at he ⊢; have hh:h=lj l r b:=vY (D.min _ _ Y) (C.max _ _ Z) (D.keys _ _ Y) (C.keys _ _ Z) c v a; (have e:=yQ he (hh.symm.trans A2); rw [e.1,e.2]<;>rfl))
theorem Kl (l:bo) (kA:OA) (kC:Nat) (az:List RA) (cA:OA) (cC:Nat) (bA:OA) (bC:Nat) (r:dw) (sgA:OA) (sgC:Nat) (hin:eA l az) (hsl:r.aj.length≤1000000):
 dR Tryz.prog 23 [(vA (cu.cells (ko l kA kC cA cC bA bC))),(vA (eC.cells (kT r sgA sgC)))] [(rd kA l.aN.length 9 (l.aN.map ai.cells)),(rd cA l.ak.length 2 (List.zipWith av.cells l.ak az)),(eY (aX av.ja l.ak az)),(rd bA l.ab.length 4 (l.ab.map bM.cells)),(rd sgA r.aj.length 2 (r.aj.map aH.cells))] (vT [(vA (aa.cells (qn l r))),(vI (db l r l.bS))]):=by
 have N:=hin.ux
 have J:=hin.s_
 have H:=hin.o4
 have AA:=hin.tW
 have M:=hin.side
 refine bE kr Tryz.func23 U U fun T Q hQ hN=>?_
 try dsimp only
 refine WS fun _ C=>fY U fun O=>fY U fun P=>AL U dk fun R=>bh 1 U<|RK C<|WS fun _ D=>fr 4 [0,1] (mc 2 U (mc 1 U I)) U<|rS (CL (zt l kA kC az cA cC bA bC r sgA sgC l.bS hin hsl) (a_ [3,4,5,6,7]) U)<|bh 3 U<|AL U dk fun S=>fG U cx U<|bh 1 U<|RK D<|ah fun _ E=>WS fun _ F=>rP 2 [] I ?_
 refine RK F<|cM U (bq fun A=>?_) (bp fun A=>?_)
 ·refine WS fun _ G=>rS (SX (aZ (xs:=[]) (cs:=(aa.cells (aa.mk 0 0))) U U (bf gR U)) U U)<|bh 1 U<|sD U cx U<|rP 1 [] I ?_
  refine RK G<|ao<|mO hQ [0] (mc 1 U I) U ?_
  (rw [KW A]<;>rfl)
 refine WK E<|WS fun _ B=>rP 4 [0,1] (mc 0 U (mc 2 U I)) ?_
 have K:=tS A
 have L:=(oP A).time
 refine fr 6 [0,1] (mc 0 U (mc 2 U I)) U<|rS (SX (aZ (xs:=[(0,.tmp 24),(1,.tmp 29)]) (cs:=(aa.cells (aa.mk (((eO l r l.bS).Lo)-r.Start) (((eO l r l.bS).Hi)-r.Start)))) U U (bf gR U)) U U)<|sD U cx U<|rP 1 [] I ?_
 refine RK B<|ao<|mO hQ [0] (mc 1 U I) U ?_
 (rw [wF A,A]<;>rfl)
end
section
open Go.RowKit
section
variable {P:Program} {t:TypeId} {x y:Operand}
theorem oy {e:TypeId} {a:OA} {n c:Nat} (ht:P.underlying t=some (.slice e)):gO P .eql t x y (.slice a n c) (.slice none 0 0) (.bool (decide (a=none))):=fun w=>by
 have A:(Op.equal t (.slice a n c) (.slice none 0 0)).run P w= .ok (decide (a=none)) w:=by
  unfold Op.equal
  show (Op.equalIn (9999+1) t (.slice a n c) (.slice none 0 0)).run P w=_
  unfold Op.equalIn
  cases a<;>simp [run_underlying ht]
 have B:eqGuard .eql t x y (.slice a n c) (.slice none 0 0)=pure ():=rfl
 rw [B]
 show (Sem.run P (do let b ← Op.equal t (.slice a n c) (.slice none 0 0); pure (vB b)) w)=_
 simp [A]
end
section
variable {E:eD} {ops:Array Oper} {Q:cP} {rest:List Oper} {D:List Deferred} {L:List (Nat×Value)} {C:List aq}
variable {dst:Option Tmp} {d:Nat} {ty:TypeId} {ps:String} {af:Array Edge} {g:Option (Nat×Bool)}
/-- a row that lies nowhere is empty -/
theorem k8 {a:OA} {n sz:Nat} {es:List (List Value)} (hR:ju C (rd a n sz es).holds) (ha:a=none) (hz:0<sz) (k:es=[]→RJ E ops Q rest D L C):RJ E ops Q rest D L C:=fun act w hf hs=>by
 refine k ?_ act w hf hs
 obtain ⟨F,G,B⟩:=hs.has hR
 rcases Nat.eq_zero_or_pos (n*sz) with h|h
 ·have:n=0:=by
   rcases Nat.mul_eq_zero.1 h with h|h
   ·exact h
   ·omega
  exact iz om
 ·obtain ⟨ad,A,_⟩:=B h
  rw [ha] at A; cases A
theorem EO {a:OA} {c e sz:Nat} {es:List (List Value)} (i:Nat) (hC:C[i]? =some (own a c e sz es)) (k:es.length≤c→RJ E ops Q rest D L C):RJ E ops Q rest D L C:=fun act w hf hs=>
 k (BG (hs.holds _ (aT hC))) act w hf hs
theorem j4 {A:aq} (i:Nat) (h:C[i]? =some A.ro):ju C A.holds:=fun w hw=>by
 have B:=hw A.ro (aT h)
 exact B
/-- the end of a row is set to zero: it is no more of it -/
theorem Ir {x:Operand} {t e sz by_ k n c c':Nat} {z:Value} {a:OA} {es:List (List Value)} (i:Nat) (hg:iK ops L g=true) (hx:ev L x=some (.slice (wo a c k sz) (n-k) c')) (ht:tA E.P t=some (e,sz,by_,z)) (hz1: ∀ v∈z.cells.toList,v.oneCell'=true)
 (hC:C[i]? =some (own a c e sz es)) (hn:n=es.length) (hk:k≤n) (K:RJ E ops Q rest D L (C.set i (own a c e sz (es.take k)))):
 RJ E ops Q (⟨none,.call {callee:= .builtin .clear,args:= #[x],argTypes:= #[t]},ty,ps,af,g⟩::rest) D L C:=by
 intro act w A F
 obtain ⟨inf,hu,hi,f,h3,h4,s⟩:=Ae ht
 unfold pw
 rw [if_pos (dv A hg)]
 subst hn
 obtain ⟨W,N⟩:(own a c e sz es).holds w:=F.holds _ (aT hC)
 have B: ∀ y∈es.take k,y.length=sz:=fun y hy=>W y (List.mem_of_mem_take hy)
 have V:(es.take k).flatten=es.flatten.take (k*sz):=by
  have h:=List.take_append_drop k es
  have l:es.flatten=(es.take k).flatten++(es.drop k).flatten:=by rw [← List.flatten_append,h]
  have m:(es.take k).flatten.length=k*sz:=by rw [gX B,List.length_take]; congr 1; omega
  rw [l,← m,List.take_left]
 by_cases r:es.length-k=0
 ·have AA:es.take k=es:=List.take_of_length_le om
  refine fX sm (w':=w) (v:= .tuple #[]) ?_ ?_
  ·rw [r] at hx
   cases hs:wo a c k sz with
   |none=>rw [hs] at hx; simp [execOp,resolve,invoke,builtin,Builtin.clear_,A.ev hx,run_underlying hu]
   |some q=>rw [hs] at hx; simp [execOp,resolve,invoke,builtin,Builtin.clear_,A.ev hx,run_underlying hu]
  ·rw [AA] at K
   exact K _ _ A (by
    have:C.set i (own a c e sz es)=C:=by
     apply List.ext_getElem?
     intro q
     rw [List.getElem?_set]
     by_cases j:i=q
     ·subst j; rw [if_pos rfl,if_pos (aY.1 hC).1,hC]
     ·rw [if_neg j]
    rw [this]; exact F)
 ·rcases N.2 with ⟨l,m⟩|⟨gg,cap,cur,hv,AC,M,Y,T,J,G⟩
  ·omega
  ·injection hv with Z AO d
   subst Z d
   have R:wo (some (⟨gg,0,none⟩:Addr)) c k sz=some ⟨gg,k*sz,none⟩:=by
    unfold wo; rw [if_neg om]; simp [Addr.add_lit]
   rw [R] at hx
   have H:(Builtin.zeroCells z.cells (es.length-k)).toList.length=(es.length-k)*sz:=by
    rw [Array.length_toList,size_zeroCells,s]
   have p:k*sz+(es.length-k)*sz=es.length*sz:=by rw [← Nat.add_mul]; congr 1; omega
   have o:es.length*sz≤cur.size:=by rw [J]; exact Nat.mul_le_mul_right _ Y
   have h1': ∀ v∈(Builtin.zeroCells z.cells (es.length-k)).toList,v.oneCell'=true:=fun v hv=>by
    refine hz1 v ?_
    simp [Builtin.zeroCells] at hv
    obtain ⟨q,hq,hv⟩:=hv
    have O:0<z.cells.size:=by
     rcases Nat.eq_zero_or_pos z.cells.size with AB|AB
     ·rw [AB] at hq; simp at hq
     ·exact AB
    have X:q % z.cells.size<z.cells.size:=Nat.mod_lt _ O
    rw [getElem!_pos z.cells _ X] at hv
    rw [← hv]; simp
   have hst':=run_storeCells_at E.P gg (k*sz) e (Builtin.zeroCells z.cells (es.length-k)).toList 0 cur w M (by rw [H]; omega) h1'
   simp only [Nat.add_zero] at hst'
   obtain ⟨q,hq⟩: ∃ q,es.length-k=q+1:=⟨es.length-k-1,om⟩
   refine fX sm (w':=w.setRow gg (cur.toList.take (k*sz)++(Builtin.zeroCells z.cells (es.length-k)).toList++cur.toList.drop (k*sz+(Builtin.zeroCells z.cells (es.length-k)).toList.length)).toArray) (v:= .tuple #[]) ?_ ?_
   ·rw [hq] at hx hst' ⊢
    simp [execOp,resolve,invoke,builtin,Builtin.clear_,A.ev hx,run_underlying hu,zeroValue,typeInfo,hi,f,hst']
   ·refine K _ _ A ?_
    refine F.move i hC (row:=some gg) (fun b hb=>by cases hb; exact ⟨_,rfl,rfl⟩) rfl ⟨rfl,rfl,rfl,sm,fun k' _ hk'=>setRow_other w gg k' _ (fun e=>hk' (by simp [e]))⟩ (fun y hy=>by
     obtain ⟨ad,AB,rfl⟩:=hy
     cases AB; exact .inl rfl) ?_
    refine ⟨B,?_,.inr ⟨gg,c,_,U,Nat.zero_le _,setRow_heap w gg cur _ e _ M,?_,T,?_,?_⟩⟩
    ·exact gX B
    ·rw [List.length_take]; omega
    ·simp only [List.size_toArray,List.length_append,List.length_take,List.length_drop,Array.length_toList,H]
     have:=J
     simp only [Array.length_toList] at H
     omega
    ·have u:(es.take k).length*sz=k*sz:=by rw [List.length_take]; congr 1; omega
     have S:(cur.toList.take (k*sz)).length=k*sz:=by rw [List.length_take,Array.length_toList]; omega
     rw [u,V,← G,List.take_take,Nat.min_eq_left om]
     show List.take (k*sz) (_++_++_)=_
     rw [List.append_assoc,List.take_left' S]
end
end
section
open Go.RowKit
theorem En (n lo hi:Int) (g1 g2:Nat):
 dR Tryz.prog 77 [(vI n),(vP g1),(vP g2)] [(bQ g1 3 [(vI lo)]),(bQ g2 3 [(vI hi)])] (vB (decide (n<lo∨hi<n))):=by
 refine bE kr Tryz.func77 U U fun D Q hQ hN=>?_
 try dsimp only
 refine WS fun _ B=>bh 1 U<|RK B<|WS fun _ A=>rP 4 [] (mr 0 U I) ?_
 refine cK (t:=8) U (aQ fun C=>?_) (aR fun C=>?_)
 ·refine rP 5 [] I ?_
  refine RK A<|ao<|Q1 hQ U U U ?_
  exact cB (dB om).symm
 refine rP 5 [] (mr 1 U I) ?_
 refine RK A<|ao<|Q1 hQ U U U ?_
 exact cB (gd.2 om)
theorem js (lo hi:Int) (l:List Int) (lA:OA) (lC:Nat) (hlen:l.length≤1000000):
 dR Tryz.prog 39 [(vI lo),(vI hi),(vS lA l.length lC)] [(rd lA l.length 1 (l.map iC))] (vB (n7 lo hi l)):=by
 refine bE kr Tryz.func39 U U fun F Q hQ hN=>?_
 try dsimp only
 refine WS fun _ D=>qM U U fun A=>qM U U fun B=>bh 1 U<|RK D<|WS fun _ E=>rP 1 [] I ?_
 refine rS (FU U) ?_
 refine rS (CL (pR l lA lC (Value.func (.func 77) [].toArray [(vP A),(vP B)].toArray) (fun C=>(decide (C<lo∨hi<C))) (eY [(bQ A 3 [(vI lo)]),(bQ B 3 [(vI hi)])]) (by intro C _; exact l_ (fi:=[]) (ca:=[(vP A),(vP B)]) (kN (En C lo hi A B) (a_ [0,1]))) hlen) (eL 2 U U<|al (kR (a_ [1,0]))<|aD) U) ?_
 refine rP 2 [] I ?_
 refine RK E<|ao ?_
 exact Q1 hQ U U U U
theorem Ch (s:aa):
 dR Tryz.prog 107 [(vA (aa.cells s))] [] (vB (decide (fQ s))):=by
 refine bE kr Tryz.func107 U U fun F Q hQ hN=>?_
 try dsimp only
 refine WS fun _ B=>fY U fun E=>bh 1 U<|RK B<|WS fun _ A=>rP 4 [] (mc 0 U I) ?_
 refine cH (xs:=[.tmp 4,.tmp 6]) (cs:=[(vI s.Lo),(vI s.Hi)]) U cy hE U U U U (by simp [Value.cells]) U U fun C=>?_
 refine rS (CL (dR.eq (js 1 600000 ([s.Lo,s.Hi]) (some ⟨C,0,none⟩) 2 (by (simp; done))) pn) (al (aV 0 U U (by simp [bu]) U)<|aD) U) ?_
 refine rP 1 [] I ?_
 refine cb (t:=9) U (aR fun D=>?_) (aQ fun D=>?_)
 ·refine rP 7 [] I ?_
  refine RK A<|ao<|Q1 hQ U U U ?_
  simp only [fQ]
  exact cB (cm om).symm
 refine rP 7 [] (mc 1 U I) ?_
 refine RK A<|ao<|Q1 hQ U U U ?_
 simp only [fQ]
 exact cB (gd.2 om)
theorem EN (d:aw) (sgA:OA) (sgC:Nat):
 dR Tryz.prog 217 [(vA (br.cells (br.mk d.Out d.fp d.Time (kT d.c_ sgA sgC))))] [(rd sgA d.c_.aj.length 2 (d.c_.aj.map aH.cells))] (vB (decide (nB d.c_))):=by
 refine bE kr Tryz.func217 U U fun F Q hQ hN=>?_
 try dsimp only
 refine WS fun _ B=>fY U fun E=>bh 1 U<|RK B<|WS fun _ A=>rP 5 [] (mc 0 U I) ?_
 refine cb (t:=7) U (aR fun C=>?_) (aQ fun C=>?_)
 ·refine rP 13 [] I ?_
  refine RK A<|ao<|Q1 hQ U U U ?_
  simp only [nB]
  exact cB (cm om).symm
 refine rP 6 [] (mc 0 U I) ?_
 refine cb (t:=13) U (aR fun D=>?_) (aQ fun D=>?_)
 ·refine rP 7 [] I ?_
  refine RK A<|ao<|Q1 hQ U U U ?_
  simp only [nB]
  exact cB (cm om).symm
 refine rP 7 [] (mc 0 U I) ?_
 refine RK A<|ao<|Q1 hQ U U U ?_
 simp only [nB]
 exact cB (gd.2 om)
theorem Np (d:aw) (sgA:OA) (sgC:Nat):
 dR Tryz.prog 215 [(vA (br.cells (br.mk d.Out d.fp d.Time (kT d.c_ sgA sgC))))] [(rd sgA d.c_.aj.length 2 (d.c_.aj.map aH.cells))] (vB d.Out):=by
 refine bE kr Tryz.func215 U U fun D Q hQ hN=>?_
 try dsimp only
 refine WS fun _ A=>fY U fun C=>bh 1 U<|RK A<|WS fun _ B=>rP 3 [] (mc 0 U I) ?_
 refine RK B<|ao<|Q1 hQ U U U ?_
 rfl
theorem NJ (d:aw) (sgA:OA) (sgC:Nat):
 dR Tryz.prog 218 [(vA (br.cells (br.mk d.Out d.fp d.Time (kT d.c_ sgA sgC))))] [(rd sgA d.c_.aj.length 2 (d.c_.aj.map aH.cells))] (vB d.fp):=by
 refine bE kr Tryz.func218 U U fun D Q hQ hN=>?_
 try dsimp only
 refine WS fun _ A=>fY U fun C=>bh 1 U<|RK A<|WS fun _ B=>rP 3 [] (mc 0 U I) ?_
 refine RK B<|ao<|Q1 hQ U U U ?_
 rfl
theorem Nb (d:aw) (sgA:OA) (sgC:Nat):
 dR Tryz.prog 220 [(vA (br.cells (br.mk d.Out d.fp d.Time (kT d.c_ sgA sgC))))] [(rd sgA d.c_.aj.length 2 (d.c_.aj.map aH.cells))] (vB true):=by
 refine bE kr Tryz.func220 U U fun D Q hQ hN=>?_
 try dsimp only
 refine WS fun _ A=>fY U fun C=>bh 1 U<|RK A<|WS fun _ B=>rP 1 [] I ?_
 refine RK B<|ao<|Q1 hQ U U U ?_
 rfl
end
section
open Go.RowKit
theorem w8 (r:bX) (kA:OA) (kC:Nat) (az:List RA) (cA:OA) (cC:Nat) (bA:OA) (bC:Nat) (slA:OA) (slC:Nat) (drA:OA) (drC:Nat) (ha:List cL) (heA:OA) (heC:Nat) (tz:List RA) (tA:OA) (tC:Nat) (ms:Value) (gw:Nat) (l:List Int) (lA:OA) (lC:Nat) (hin:eF r az ha) (hlen:l.length≤1000000):
 dR Tryz.prog 48 [(vP gw),(vS lA l.length lC)] [(rd kA r.ar.aN.length 9 (r.ar.aN.map ai.cells)),(rd cA r.ar.ak.length 2 (List.zipWith av.cells r.ar.ak az)),(eY (aX av.ja r.ar.ak az)),(rd bA r.ar.ab.length 4 (r.ar.ab.map bM.cells)),(rd slA r.aU.length 1 (r.aU.map iC)),(rd drA r.bV.length 1 (r.bV.map iC)),(rd heA r.aB.length 1 (List.zipWith cR r.aB ha)),(eY (aX jk r.aB ha)),(rd tA ((cU r).length) 1 (List.zipWith DV (cU r) tz)),(eY (aX HT (cU r) tz)),(bQ gw 112 (eW.cells (eW.mk (oi r kA kC cA cC bA bC slA slC drA drC heA heC) (bk.mk tA ((cU r).length) tC) ms))),(rd lA l.length 1 (l.map iC))] (vB (n7 0 ((r.aU.length:Int)-1) l)):=by
 have C:=hin.line
 have G:=hin.iZ
 have H:=hin.has
 have E:=hin.je
 have D:=hin.draw
 have F:=dT (r:=r)
 refine bE kr Tryz.func48 U U fun AA Q hQ hN=>?_
 try dsimp only
 refine WS fun _ A=>bh 1 U<|RK A<|WS fun _ B=>bh 1 U<|rS (SX (bx U U) U U)<|fr 6 [] (mr 10 U I) U<|rS (CL (js 0 ((r.aU.length:Int)-1) l lA lC hlen) (a_ [11]) U)<|rP 1 [] I ?_
 refine RK B<|ao ?_
 exact Q1 hQ U U U U
theorem um (a b:Bool):
 dR Tryz.prog 65 [(vB a),(vB b)] [] (Value.int .u8 (if a=true then 2 else if b=true then 1 else 0)):=by
 refine bE kr Tryz.func65 U U fun J Q hQ hN=>?_
 try dsimp only
 refine WS fun _ C=>bh 1 U<|RK C<|ah fun _ D=>aA<|WS fun _ E=>rP 2 [] I ?_
 refine RK E<|cM U (fun A=>?_) (fun A=>?_)
 ·refine WS fun _ F=>rP 1 [] I ?_
  refine RK F<|ao<|Q1 hQ U U U ?_
  rw [if_pos A]
 refine WS fun _ G=>rP 2 [] I ?_
 refine RK G<|cM U (fun B=>?_) (fun B=>?_)
 ·refine WS fun _ H=>rP 1 [] I ?_
  refine RK H<|ao<|Q1 hQ U U U ?_
  (rw [if_neg (by rw [A]; decide),if_pos B])
 refine cr<|aF<|KK D<|WS fun _ AA=>rP 1 [] I ?_
 refine RK AA<|ao<|Q1 hQ U U U ?_
 (rw [if_neg (by rw [A]; decide),if_neg (by rw [B]; decide)])
end
section
open Go.RowKit
theorem KH {P:Program} {t:TypeId} {x y:Operand} {k e:TypeId} {p:Option Nat} (h:P.underlying t=some (.map k e)):gO P .eql t x y (.map p) (.map none) (.bool p.isNone):=fun w=>by
 have A:(Op.equal t (.map p) (.map none)).run P w= .ok p.isNone w:=by
  unfold Op.equal
  show (Op.equalIn (9999+1) t (.map p) (.map none)).run P w=_
  unfold Op.equalIn
  cases p<;>simp [run_underlying h]
 have B:eqGuard .eql t x y (.map p) (.map none)=pure ():=rfl
 rw [B]
 show (Sem.run P (do let b ← Op.equal t (.map p) (.map none); pure (vB b)) w)=_
 simp [A]
theorem Bm {P:Program} {r:Nat} {es:Array MapEntry} {clock:Nat} {w:World} (t:TypeId) (hb:w.heap[r]? =some (.map es clock)):
 (Extern.MapsClone.clone #[.iface t (.map (some r))]).run P w= .ok (.iface t (.map (some w.heap.size))) (w.alloc (.map es clock)):=by
 have e:Extern.MapsClone.clone #[.iface t (.map (some r))]=(getObj r >>= fun o=>match o with
  | .map entries clock=>(newObj (.map entries clock) >>= fun n=>pure (.iface t (.map (some n))))
  |_=>stuck "maps.clone: a map expected"):=rfl
 rw [e]
 simp [MapKept.run_getObj_map hb,Result.andThen,go_sem]
theorem zq {P:Program} {xt t k e:TypeId} {v:Value} {w:World} (h:P.underlying t=some (.map k e)):(Instr.typeAssert (.iface t v) xt t false).run P w= .ok v w:=by
 simp [Instr.typeAssert,run_underlying h,go_sem,Result.andThen]
theorem mI {C:List aq} {g t:Nat} {cs:List Value} {n sz:Nat} {es:List (List Value)} (i:Nat) (hC:C[i]? =some (bQ g t cs).ro) (h1:es.length=n) (h2: ∀ e∈es,e.length=sz) (h3:es.flatten=cs):ju C (rd (some ⟨g,0,none⟩) n sz es).holds:=fun w hw=>
 rf (show (bQ g t cs).holds w from hw (bQ g t cs).ro (aT hC)) h1 h2 ⟨[],by simp [h3]⟩
section
variable {E:eD} {ops:Array Oper} {Q:cP} {rest:List Oper} {D:List Deferred} {L:List (Nat×Value)} {C:List aq}
variable {dst:Option Nat} {d:Nat} {ty:TypeId} {ps:String} {af:Array Edge} {g:Option (Nat×Bool)}
theorem Gq {P:Program} {t k e:TypeId} {v:Value} {w:World} (h:P.underlying t=some (.map k e)):(Instr.makeInterface t v).run P w= .ok (.iface t v) w:=by
 simp [Instr.makeInterface,run_underlying h,Result.andThen]
theorem HZ {t k e:TypeId} {x:Operand} {v:Value} (hg:iK ops L g=true) (hx:ev L x=some v) (ht:E.P.underlying t=some (.map k e)):SD E ops ⟨dst,.makeInterface t x,ty,ps,af,g⟩ D L C (.iface t v):=
 di hg sm fun a w hf _=>by
  have e:=hf.ev hx
  simp only [execOp,e]
  rw [Sem.run_bind,Gq ht]
  simp
theorem Nv {xt t kt et:TypeId} {x:Operand} {v:Value} (hg:iK ops L g=true) (hx:ev L x=some (.iface t v)) (ht:E.P.underlying t=some (.map kt et)):SD E ops ⟨dst,.typeAssert x xt t false,ty,ps,af,g⟩ D L C v:=
 di hg sm fun a w hf _=>by
  have e:=hf.ev hx
  simp only [execOp,e]
  rw [Sem.run_bind,zq ht]
  simp
theorem F3 {K:Type} [DecidableEq K] {kV:K→Value} {x:Operand} {ts:Array TypeId} {f:FuncId} {fn:Func} {t b:Nat} {m:List (K×Value)} (hg:iK ops L g=true) (hx:ev L x=some (.iface t (.map (some b)))) (hf:E.P.funcs[f]? =some fn) (hname:(fn.name=="runtime.NumGoroutine")=false)
 (hb:fn.body.isNone=true) (hn:Extern.findNext fn=none) (he:Extern.find fn=some Extern.MapsClone.clone) (hC:ju C (gQ kV b m).holds) (hd:Nat.blt d E.n=true) (k: ∀ b',RJ E ops Q rest D ((d,.iface t (.map (some b')))::L) (gQ kV b' m::C)):
 RJ E ops Q (⟨some d,.call {callee:= .value (.func f),args:= #[x],argTypes:=ts},ty,ps,af,g⟩::rest) D L C:=by
 intro a w B hs
 have hd':d<E.n:=by rw [← Nat.blt_eq]; exact hd
 obtain ⟨es,c,F,hi⟩:=hC w hs.holds
 unfold pw
 rw [if_pos (dv B hg)]
 refine fX (v:= .iface t (.map (some w.heap.size))) (w':=w.alloc (.map es c)) sm ?_ ?_
 ·have e:=B.ev hx
  have G:a.eval (.func f)= .func (.func f) #[] #[]:=rfl
  simp [execOp,resolve,e,G,Deferred.ofValue,invoke,run_callFunc_extern hf hname hb hn he,Bm t F]
 ·refine k _ _ _ (B.put hd' _) (hs.grow (du.alloc no w _) (N:=[gQ kV w.heap.size m]) ⟨fun A hA=>?_,fun A hA b hb=>?_,List.pairwise_singleton _ _⟩)
  ·simp at hA; subst hA; exact ⟨es,c,heap_alloc_new w _,hi⟩
  ·simp at hA; subst hA; exact Nat.le_of_eq (Eq.symm hb)
end
end
section
open Go.RowKit
theorem uq (lA:OA) (lN lC:Nat):
 lq Tryz.prog 74 [(vS lA lN lC)] [] (fun (x:Nat)=>(Value.func (.func 112) [].toArray [(vP x)].toArray)) (fun (x:Nat)=>True) (fun (x:Nat)=>[(bQ x 29 [(vS lA lN lC)])]):=by
 refine de kr Tryz.func74 U U fun D Q hQ hN=>?_
 try dsimp only
 refine WS fun _ A=>qM U U fun C=>bh 1 U<|RK A<|WS fun _ B=>rS (FU U)<|rP 1 [] I ?_
 refine RK B<|ao<|LX hQ C [0] [] I U U U U ?_
 trivial
theorem E5 (nl:List Int) (nlA:OA) (nlC g1:Nat) (hlen:nl.length≤12):
 JL Tryz.prog 112 [] [(vP g1)] [(rd nlA nl.length 1 (nl.map iC)),(bQ g1 29 [(vS nlA nl.length nlC)])] (oI nl):=by
 refine BN kr Tryz.func112 U U fun l J Z A0 T Q hY K AB hQ hN=>?_
 try dsimp only
 refine WS fun _ M=>rP 3 [] (mr 2 U I) ?_
 refine RK M<|aA ?_
 have F:(0≤nl.length)∧(J 0 A0)∧(Fo A0 T A0):=by exact ⟨Nat.zero_le _,K,AB⟩
 refine bR (ι:={z:Nat×aq // (z.1≤nl.length)∧(J z.1 z.2)∧(Fo A0 T z.2)}) [0,1,5,6] [1] U U (fun z=>[(7,(vI (z.1.1:Int)))]) (fun z=>[z.1.2]) (fun _=>rfl) (fun _=>rfl) (fun z=>nl.length-z.1.1) ⟨(0,A0),F⟩ (aW U) (aK [1,0]) ?_
 clear F
 rintro ⟨⟨i,A⟩,⟨G,B,C⟩⟩ J2 L
 try dsimp only at G B C
 try dsimp only
 refine WS fun _ N=>rP 1 [] I ?_
 refine RK N<|ah fun _ O=>bT U (aR fun AA=>?_) (aQ fun AA=>?_)
 ·refine bI<|ae<|ae<|aC ?_
  refine hN _ _ _ (gp (vs:=[]) trivial fun w hs=>NY 1 U (by rw [qw]; have e:nl.length=i:=om; rw [e]; exact B) C hs)
 refine WK O<|ah fun _ P=>aA<|WS fun _ R=>?_
 obtain ⟨x,hx⟩:=aM nl i om
 have S:=bW iC hx
 refine rS (IA i U (aJ 0 U) cy dc om om)<|rS (g_ i 0 (vI x) U ct (aJ 0 U) S U dc U)<|bh 1 U<|RK R<|WS fun _ H=>rP 2 [] I ?_
 refine Bq 1 hY B C U U U (CM hx) U U (fun B9 E D=>?_) (fun B9 E D=>?_)
 rotate_left 1
 ·refine rP 1 [] I ?_
  refine RK H<|aL U<|ao ?_
  refine hQ _ _ _ (gp (vs:=[]) trivial fun w hs=>JZ 1 U E D hs)
 refine bh 1 U<|RK H<|aS U<|cr<|aF<|KK P<|an<|rP 2 [] I ?_
 refine aG ?_
 refine bg (L ⟨((i+1),B9),⟨om,E,D⟩⟩ _ _ _ U os (aW U) (aK [0,1]))
end
section
open Go.RowKit
theorem Ji (x:Int):
 dR Tryz.prog 169 [(vI x)] [] (vB false):=by
 refine bE kr Tryz.func169 U U fun C Q hQ hN=>?_
 try dsimp only
 refine WS fun _ A=>bh 1 U<|RK A<|WS fun _ B=>rP 4 [] I ?_
 refine RK B<|ao<|Q1 hQ U U U ?_
 simp
theorem IP (x y:Int):
 dR Tryz.prog 127 [(vI x),(vI y)] [] (vB (decide (x<y))):=by
 refine bE kr Tryz.func127 U U fun C Q hQ hN=>?_
 try dsimp only
 refine WS fun _ A=>bh 1 U<|RK A<|WS fun _ B=>bh 1 U<|rS (CL (Ji x) (aD) U)<|rP 11 [] I ?_
 refine RK B<|ao<|Q1 hQ U U U ?_
 exact cB (gd.2 om)
theorem DC (l:List Int) (lA:OA) (lC:Nat) (hlen:l.length≤1000000):
 Dh Tryz.prog 121 [(vS lA l.length lC),(vI 0),(vI (l.length:Int))] [] (own lA lC 3 1 (l.map iC)) (fun (x:(List Int))=>(vT [])) (fun (x:(List Int))=>x.Perm l∧x.Pairwise (· ≤ ·)) (fun (x:(List Int))=>(own lA lC 3 1 (x.map iC))):=by
 refine mg kr Tryz.func121 U U fun g Q hQ hN=>?_
 try dsimp only
 refine WS fun _ X=>bh 1 U<|rS (SX (bP (r:= .int .i64 1) U U U (gP ⟨dc,dc⟩)) U U)<|rP 1 [] I ?_
 refine RK X<|aA ?_
 have A:(1≤1∧(1≤l.length∨1=1))∧(l.length=l.length)∧(l.Perm l)∧(Ld l 1):=by exact ⟨om,rfl,List.Perm.refl _,Js⟩
 refine bR (ι:={z:Nat×(List Int) // (1≤z.1∧(z.1≤l.length∨z.1=1))∧(z.2.length=l.length)∧(z.2.Perm l)∧(Ld z.2 z.1)}) [0,1,2] [] U U (fun z=>[(6,(vI (z.1.1:Int)))]) (fun z=>[(own lA lC 3 1 (z.1.2.map iC))]) (fun _=>rfl) (fun _=>rfl) (fun z=>l.length-z.1.1) ⟨(1,l),A⟩ (aW U) (aK [0]) ?_
 clear A
 rintro ⟨⟨i,m⟩,⟨K,AB,E,F⟩⟩ J2 M
 try dsimp only at K AB E F
 try dsimp only
 refine ah fun _ Y=>WS fun _ Z=>rP 3 [] I ?_
 refine RK Z<|bT U (aR fun e=>?_) (aQ fun e=>?_)
 ·refine bI<|ae<|ae<|aC<|LM hN m 0 [] I U U U U ?_
  exact ⟨E,Iv F om⟩
 refine WK Y<|ah fun _ O=>aA<|WS fun _ b=>rP 2 [] I ?_
 refine RK b<|aA ?_
 have A:(i≤i)∧(m.length=l.length)∧(m.Perm l)∧(Lu m i i):=by exact ⟨Nat.le_refl _,AB,E,C9 F om⟩
 refine bR (ι:={z:Nat×(List Int) // (z.1≤i)∧(z.2.length=l.length)∧(z.2.Perm l)∧(Lu z.2 i z.1)}) [0,1,2,6] [] U U (fun z=>[(7,(vI (z.1.1:Int)))]) (fun z=>[(own lA lC 3 1 (z.1.2.map iC))]) (fun _=>rfl) (fun _=>rfl) (fun z=>z.1.1) ⟨(i,m),A⟩ (aW U) (aK [0]) ?_
 clear A
 rintro ⟨⟨j,q⟩,⟨G,B,C,D⟩⟩ J8 W
 try dsimp only at G B C D
 try dsimp only
 refine ah fun _ c=>ah fun _ J=>dF cE 15 kr<|dP 4 [] I ?_
 refine jL (t:=19) U (aR fun hj=>?_) (aQ fun hj=>?_)
 ·refine lQ 11 U<|cQ<|RK J<|aS U<|bI<|ae<|ae<|aC<|aF<|KK O<|an<|rP 3 [] I ?_
  refine aG ?_
  refine bg (M ⟨((i+1),q),⟨om,B,C,by exact Fj om D⟩⟩ _ _ _ U (by simp only []; omega) (aW U) (aK [0]))
 refine dP 2 [] I ?_
 obtain ⟨x,hx⟩:=aM q j om
 have L:=bW iC hx
 refine dS (IA j U (ag (n:=l.length) 0 U sq) cy dc om om) ?_
 refine dS (g_ j 0 (vI x) U ct (ag (n:=q.length) 0 U sm) L U dc U)<|dP 3 [] I ?_
 obtain ⟨y,hy⟩:=aM q (j-1) om
 have V:=bW iC hy
 refine dS (IA (j-1) U (ag (n:=l.length) 0 U sq) cy dc om om) ?_
 refine dS (g_ (j-1) 0 (vI y) U ct (ag (n:=q.length) 0 U sm) V U dc U)<|dS (CL (IP x y) (aD) U)<|dP 1 [] I ?_
 refine cQ<|RK J<|bT U (aR fun H=>?_) (aQ fun H=>?_)
 ·refine bI<|ae<|ae<|aC<|aF<|KK O<|an<|rP 3 [] I ?_
  refine aG ?_
  refine bg (M ⟨((i+1),q),⟨om,B,C,by exact Gn hx hy om G H D⟩⟩ _ _ _ U (by simp only []; omega) (aW U) (aK [0]))
 refine WK c<|ah fun _ N=>aA<|ek cE [15,16,17] [8,9,12,13,14] [] [] [0] U U U U U<|eS U (MV U)<|eS U (MV U)<|eS U (MV U)<|eS U (MV U)<|eS U (BI U (pA ⟨om,om⟩))<|eS U (MV U)<|eS U (MV U)<|eS U (BI U (pA ⟨om,om⟩)) ?_
 refine fS U (IA (j-1) U (ag (n:=l.length) 0 U sq) cy dc om om) ?_
 refine fS U (g_ (j-1) 0 (vI y) U ct (ag (n:=q.length) 0 U sm) V U dc U)<|eS U (MV U)<|eS U (MV U) ?_
 refine fS U (IA j U (ag (n:=l.length) 0 U sq) cy dc om om) ?_
 refine fS U (g_ j 0 (vI x) U ct (ag (n:=q.length) 0 U sm) L U dc U) ?_
 refine fS U (IA j U (ag (n:=l.length) 0 U sq) cy dc om om) ?_
 refine ff U<|cf U fun T12 P=>eg (k:=j) (o:=0) (vs:=[(vI y)]) (es':=(List.map iC (q.set j y))) (C':=[(own lA lC 3 1 (List.map iC (q.set j y)))]) 0 U U U AZ U U U U L U dc (by exact (List.map_set (f:=iC) (l:=q) (i:=j) (a:=y)).symm) U<|aG (P _ _ (aK []) ?_)
 refine cf U fun T13 R=>?_
 obtain ⟨d,AA⟩:=aM (q.set j y) (j-1) os
 have hx15m:(List.map iC (q.set j y))[(j-1)]? =some (iC d):=by rw [eX,AA]; rfl
 refine rS (IA (j-1) U (ag (n:=l.length) 0 U sq) cy dc om om) ?_
 refine aG (R _ _ (aK []) ?_)
 refine cf U fun T16 S=>eg (k:=(j-1)) (o:=0) (vs:=[(vI x)]) (es':=(List.map iC ((q.set j y).set (j-1) x))) (C':=[(own lA lC 3 1 (List.map iC ((q.set j y).set (j-1) x)))]) 0 U U U AZ U U U U hx15m U dc (by exact (List.map_set (f:=iC) (l:=(q.set j y)) (i:=(j-1)) (a:=x)).symm) U<|aG (S _ _ (aK []) ?_)
 refine fV U<|aF<|KK N<|an<|rP 3 [] I ?_
 refine aG ?_
 have T:(vI (((j-1):Nat):Int))=(vI ((j:Int)-1)):=by exact cI om
 refine bg (W ⟨((j-1),((q.set j y).set (j-1) x)),⟨om,by simp; exact B,(Eg hx hy).trans C,HF hx hy om G H D⟩⟩ _ _ _ U (by simp only []; omega) (dx 4<|bG U T<|ee.nil _) (aK [0]))
theorem JJ (x:Int) (hx:0≤x∧x≤100):
 lq Tryz.prog 131 [(Value.int .u64 x)] [] (fun (x:Int)=>(vI x)) (fun (x:Int)=>True) (fun (x:Int)=>[]):=by
 refine de kr Tryz.func131 U U fun N Q hQ hN=>?_
 try dsimp only
 refine WS fun _ D=>bh 1 U<|RK D<|ah fun _ E=>WS fun _ F=>rP 1 [] I ?_
 refine rS (BI U Ct)<|RK F<|cM U (aQ fun L=>?_) (aR fun L=>?_)
 ·exfalso; omega
 refine WK E<|ah fun _ G=>WS fun _ H=>rP 1 [] I ?_
 refine rS (BI U Ct)<|RK H<|cM U (aQ fun M=>?_) (aR fun M=>?_)
 ·exfalso; omega
 refine WK G<|ah fun _ AA=>WS fun _ J=>rP 1 [] I ?_
 refine rS (BI U Ct)<|RK J<|cM U (aQ fun C=>?_) (aR fun C=>?_)
 ·exfalso; omega
 refine WK AA<|WS fun _ B=>bh 2 U<|rS (SX (sO (m:=x) U U MG Oz (x8 (by first|assumption|omega))) U U)<|KE (k:=(x).toNat) U U U Qg om (Nat.lt_of_lt_of_le (m:=200) om (of_decide_eq_true kr)) U fun A K=>rS (SX (sO (m:=A) U U Oz og (rY (by first|assumption|omega))) U U)<|rP 2 [] I ?_
 refine RK B<|ao<|LX hQ (0+A) [] [] I U U U U ?_
 trivial
theorem L7 (x:Int) (hx:0≤x∧x≤100):
 lq Tryz.prog 88 [(Value.int .u64 x)] [] (fun (x:Int)=>(vI x)) (fun (x:Int)=>True) (fun (x:Int)=>[]):=by
 refine de kr Tryz.func88 U U fun F Q hQ hN=>?_
 try dsimp only
 refine WS fun _ A=>bh 1 U<|RK A<|ah fun _ B=>aS U<|WK B<|WS fun _ C=>rP 1 [] I ?_
 refine cX (JJ x hx) (aD) U fun E D=>?_
 try dsimp only
 refine rP 1 [] I ?_
 refine RK C<|ao<|LX hQ E [] [] I U U U U ?_
 trivial
theorem Nd (l:List Int) (lA:OA) (lC:Nat) (u:Int) (hlen:l.length≤12):
 Dh Tryz.prog 87 [(vS lA l.length lC),(vI 0),(vI (l.length:Int)),(vI u)] [] (own lA lC 3 1 (l.map iC)) (fun (x:(List Int))=>(vT [])) (fun (x:(List Int))=>x.Perm l∧x.Pairwise (· ≤ ·)) (fun (x:(List Int))=>(own lA lC 3 1 (x.map iC))):=by
 refine mg kr Tryz.func87 U U fun K Q hQ hN=>?_
 try dsimp only
 refine WS fun _ A=>bh 1 U<|RK A<|WS fun _ B=>bh 1 U<|RK B<|aA<|iG 1<|dy fun R3 AA=>aA<|WS fun _ C=>bh 4 U<|RK C<|ah fun _ H=>WS fun _ D=>rP 2 [] I ?_
 refine RK D<|bT U (aR fun G=>?_) (aQ fun G=>?_)
 ·exfalso; omega
 refine WS fun _ E=>rP 3 [] I ?_
 refine iy 0 U U U U (DC l lA lC om) U jN U (fun J F=>?_)
 try dsimp only
 refine RK E<|ao<|LM hQ J 0 [] I U U U U ?_
 assumption
theorem wJ (l:List Int) (lA:OA) (lC:Nat) (hlen:l.length≤12):
 Dh Tryz.prog 54 [(vS lA l.length lC)] [] (own lA lC 3 1 (l.map iC)) (fun (x:(List Int))=>(vT [])) (fun (x:(List Int))=>x.Perm l∧x.Pairwise (· ≤ ·)) (fun (x:(List Int))=>(own lA lC 3 1 (x.map iC))):=by
 refine mg kr Tryz.func54 U U fun F Q hQ hN=>?_
 try dsimp only
 refine WS fun _ A=>bh 3 U<|RK A<|an<|rP 3 [] I ?_
 refine rS (SX (sO (m:=(l.length:Int)) U U og Ng (xr (by first|assumption|omega))) U U)<|cX (L7 (l.length:Int) om) (aD) U fun E B=>?_
 try dsimp only
 refine iy 0 U U U U (Nd l lA lC E hlen) U jN U (fun D C=>?_)
 try dsimp only
 refine aG<|LM hN D 0 [] I U U U U ?_
 assumption
end
section
open Go.RowKit
theorem Hy (nl:List Int) (nlA:OA) (nlC g1:Nat) (hlen:nl.length≤12):
 lq Tryz.prog 120 [(vS none 0 0),(Value.func (.func 112) [].toArray [(vP g1)].toArray)] [(rd nlA nl.length 1 (nl.map iC)),(bQ g1 29 [(vS nlA nl.length nlC)])] (fun (x:(OA)×Nat)=>(vS x.1 nl.length x.2)) (fun (x:(OA)×Nat)=>True) (fun (x:(OA)×Nat)=>[(own x.1 x.2 3 1 (nl.map iC))]):=by
 refine de kr Tryz.func120 U U fun R Q hQ hN=>?_
 try dsimp only
 refine WS fun _ D=>qM U U fun J=>bh 1 U<|RK D<|ah fun _ E=>WS fun _ G=>rP 1 [] I ?_
 refine RK G<|aA<|jC 1 U (by exact fun _ h=>h)<|jC 3 U (by exact fun _ h=>h)<|gI 3 1 ?_
 refine BR (L0:=[(2,(vP J))]) (F:=[(rd nlA nl.length 1 (nl.map iC)).ro,(bQ g1 29 [(vS nlA nl.length nlC)]).ro]) (xs:=(oI nl)) (fun k (y:(OA)×Nat)=>True) (fun k y=>[(own y.1 y.2 3 1 ((nl.take k).map iC)),(bQ J 29 [(vS y.1 ((nl.take k).length) y.2)]),(rd nlA nl.length 1 (nl.map iC)).ro]) (fun _ (_:Unit)=>False) (fun _ _=>[]) [0,3,4] [2,1] (none,0) U U (E5 nl nlA nlC g1 (by first|assumption|omega|(simp; done))) U U U (by trivial) (by simp only [List.forall_mem_cons,List.not_mem_nil,false_imp_iff,implies_true,and_true]; exact ⟨⟨_,sm,(eH (bU _))⟩,⟨_,sm,(eH (bU _))⟩⟩) (by exact zW) U (aW U) ?_ ?_ (fun _ _ _ h=>h.elim) (fun _ _ h=>h.elim)
 rotate_left 1
 ·rintro O ⟨a,c⟩ AA
  try dsimp only
  rw [u3]
  refine aF<|KK E<|WS fun _ A=>rP 2 [] (mc 4 U I) ?_
  refine RK A<|ao<|hQ _ _ _ (nc 0 U U<|gp (vs:=[(vS a nl.length c)]) ⟨U,trivial⟩ fun w hs=>ER (a,c) [3] ?_ ?_ U U U hs)
  ·rfl
  ·trivial
 rintro k x ⟨a,c⟩ l ra rb S T K5 Qr6 hx K H B L M
 obtain ⟨y,hy,rfl⟩:=Dt hx
 try dsimp only
 refine an<|rP 1 [] I ?_
 refine aG<|bg (H _ _ ?_)
 refine aA<|an<|rP 2 [] (mc 2 U I) ?_
 refine cH (xs:=[.tmp 9]) (cs:=[(vI y)]) U cy hE U U U U (by simp [Value.cells]) U U fun P=>?_
 refine ei (es2:=(List.map iC (nl.take (k+1)))) (m':=(nl.take (k+1)).length) 2 U U U rF U U sm (aV (es:=List.map iC [y]) 0 U U (by simp [bu]) U) (ly _) (by simp; omega) (by simp [maxLen]; omega) (by rw [kD hy]; simp) sm U fun N C=>?_
 try dsimp only
 refine PY U wm U U<|aG<|aF ?_
 exact B (N,C) _ _ (by trivial) (aK [1,2,3,4])
theorem Cv (nl:List Int) (nlA:OA) (nlC g1:Nat) (hlen:nl.length≤12):
 lq Tryz.prog 85 [(Value.func (.func 112) [].toArray [(vP g1)].toArray)] [(rd nlA nl.length 1 (nl.map iC)),(bQ g1 29 [(vS nlA nl.length nlC)])] (fun (x:(OA)×Nat)=>(vS x.1 nl.length x.2)) (fun (x:(OA)×Nat)=>True) (fun (x:(OA)×Nat)=>[(own x.1 x.2 3 1 (nl.map iC))]):=by
 refine de kr Tryz.func85 U U fun G Q hQ hN=>?_
 try dsimp only
 refine WS fun _ A=>bh 1 U<|RK A<|WS fun _ B=>rP 1 [] I ?_
 refine cX (Hy nl nlA nlC g1 hlen) (a_ [0,1]) U fun F E=>?_
 obtain ⟨C,D⟩:=F
 try dsimp only
 refine rP 1 [] I ?_
 refine RK B<|ao<|LX hQ (C,D) [0] [] I U U U U ?_
 trivial
theorem t_ (nl:List Int) (nlA:OA) (nlC g1:Nat) (hlen:nl.length≤12):
 lq Tryz.prog 51 [(Value.func (.func 112) [].toArray [(vP g1)].toArray)] [(rd nlA nl.length 1 (nl.map iC)),(bQ g1 29 [(vS nlA nl.length nlC)])] (fun (x:(OA)×Nat)=>(vS x.1 nl.length x.2)) (fun (x:(OA)×Nat)=>True) (fun (x:(OA)×Nat)=>[(own x.1 x.2 3 1 ((cV nl).map iC))]):=by
 refine de kr Tryz.func51 U U fun J Q hQ hN=>?_
 try dsimp only
 refine WS fun _ B=>bh 1 U<|RK B<|WS fun _ C=>rP 1 [] I ?_
 refine cX (Cv nl nlA nlC g1 hlen) (a_ [0,1]) U fun AA H=>?_
 obtain ⟨F,G⟩:=AA
 try dsimp only
 refine bh 1 U<|RK C<|WS fun _ D=>rP 1 [] I ?_
 refine iy 0 U U U U (wJ nl F G hlen) U jN U (fun m A=>?_)
 try dsimp only
 refine RK D<|WS fun _ E=>?_
 obtain rfl:=ou A.1 A.2
 skip
 refine rP 2 [] I ?_
 refine RK E<|ao<|LX hQ (F,G) [0] [] I U U U U ?_
 trivial
end
section
open Go.RowKit
section
variable {K:Type} [DecidableEq K] {kV:K→Value}
variable {E:eD} {ops:Array Oper} {Q:cP} {rest:List Oper} {D:List Deferred} {L:List (Nat×Value)} {C:List aq}
variable {ty:TypeId} {ps:String} {af:Array Edge} {g:Option (Nat×Bool)}
theorem nO {t kt et:TypeId} {xm xk:Operand} {ts:Array TypeId} {b:Nat} {x:K} {m m':List (K×Value)} {C':List aq} (i:Nat) (hg:iK ops L g=true) (hm:ev L xm=some (.map (some b))) (hk:ev L xk=some (kV x)) (hts:ts[0]? =some t)
 (ht:E.P.underlying t=some (.map kt et)) (hkt:qS E.P kt kV) (hC:C[i]? =some (gQ kV b m)) (hm':bY m x=m') (hC':C.set i (gQ kV b m')=C') (k:RJ E ops Q rest D L C'):
 RJ E ops Q (⟨none,.call {callee:= .builtin .delete,args:= #[xm,xk],argTypes:=ts},ty,ps,af,g⟩::rest) D L C:=by
 subst hm' hC'
 intro a w A hs
 unfold pw
 rw [if_pos (dv A hg)]
 obtain ⟨es,c,he,hi⟩:=hs.holds _ (aT hC)
 have B:(getObj b).run E.P w= .ok (.map es c) w:=MapKept.run_getObj_map he
 rcases ni (P:=E.P) (w:=w) (x:=x) hkt hi with ⟨F,G⟩|⟨j,AA,F,G,H⟩
 ·refine fX (v:= .tuple #[]) (w':={w with heap:=w.heap.setIfInBounds b (.map es c)}) sm ?_ ?_
  ·simp [execOp,resolve,invoke,builtin,A.ev hm,A.ev hk,Builtin.delete_,hts,run_underlying ht,B,g5 hkt,F,MapKept.run_setObj_map _ he]
  ·refine k _ _ ⟨A.defers,A.size,A.at_⟩ (hs.zI (b:=b) i hC U U (lZ _) (fun _ h=>h) ⟨_,_,nF he,?_⟩)
   rw [AI G]; exact hi
 ·refine fX (v:= .tuple #[]) (w':={w with heap:=w.heap.setIfInBounds b (.map (es.eraseIdxIfInBounds j) c)}) sm ?_ ?_
  ·simp [execOp,resolve,invoke,builtin,A.ev hm,A.ev hk,Builtin.delete_,hts,run_underlying ht,B,g5 hkt,F,MapKept.run_setObj_map _ he]
  ·exact k _ _ ⟨A.defers,A.size,A.at_⟩ (hs.zI (b:=b) i hC U U (lZ _) (fun _ h=>h) ⟨_,_,nF he,hi.del G⟩)
end
end
section
open Go.RowKit
theorem JK (l:bo) (kA:OA) (kC:Nat) (az:List RA) (cA:OA) (cC:Nat) (bA:OA) (bC:Nat) (d:aw) (sgA:OA) (sgC:Nat) (hin:eA l az):
 dR Tryz.prog 216 [(vA (cu.cells (ko l kA kC cA cC bA bC))),(vA (br.cells (br.mk d.Out d.fp d.Time (kT d.c_ sgA sgC))))] [(rd kA l.aN.length 9 (l.aN.map ai.cells)),(rd cA l.ak.length 2 (List.zipWith av.cells l.ak az)),(eY (aX av.ja l.ak az)),(rd bA l.ab.length 4 (l.ab.map bM.cells)),(rd sgA d.c_.aj.length 2 (d.c_.aj.map aH.cells))] (vT [(vA (aa.cells d.Time)),(vB (decide (d.fp=false∧d.Time=dC∧nB d.c_)))]):=by
 refine bE kr Tryz.func216 U U fun K Q hQ hN=>?_
 try dsimp only
 refine WS fun _ B=>fY U fun H=>fY U fun AA=>AL U dk fun J=>rP 1 [] I ?_
 refine RK B<|ah fun _ A=>ek cE [15] [] [] [1,2,3,4,5,6,7] [] U U U U U<|eS U (FA 2 U fB U)<|eS U (LP (aa.cells d.Time) 0 U ct U U U)<|eS U (FA 1 U fB U)<|eS U (L1 (vB d.fp) 0 U ct U U)<|eS U (NT U)<|eS U (MV U)<|sY (t:=11) U (fun G=>?_) (fun G=>?_)
 rotate_left 1
 ·rw [Bool.not_eq_false'] at G
  refine eS U (OX U)<|eS U (OX U)<|eS U (OX U)<|eS U (OX U)<|eS U (PK U)<|eS U (MV U)<|eS U (OX U)<|eS U (OX U)<|eS U (PK U)<|eS U (AG U)<|ff U<|cf U fun T10 C=>fG U cx U<|aG (C _ _ (aK [1,2,3,4,5,6,7]) ?_)
  refine fV U<|KK A<|ao<|mO hQ [0] (mc 0 U I) U ?_
  clear hQ hN C T10 A B
  refine congrArg (fun z=>Value.tuple #[_,vB z]) ?_
  first|rfl|(simp_all [dC]; done)
 rw [Bool.not_eq_true'] at G
 refine eS U (FA 2 U fB U)<|eS U (LP (aa.cells d.Time) 0 U ct U U U)<|eS U (SX (aZ (xs:=[]) (cs:=(aa.cells (aa.mk 0 0))) U U (bf gR U)) U U)<|eS U (BI U (uB _ _ d.Time (aa.mk 0 0)))<|eS U (PK U)<|eS U (MV U)<|sY (t:=17) U (fun D=>?_) (fun D=>?_)
 rotate_left 1
 ·replace D:=DF D
  refine eS U (OX U)<|eS U (OX U)<|eS U (PK U)<|eS U (AG U)<|ff U<|cf U fun T9 F=>fG U cx U<|aG (F _ _ (aK [1,2,3,4,5,6,7]) ?_)
  refine fV U<|KK A<|ao<|mO hQ [0] (mc 0 U I) U ?_
  clear hQ hN F T9 A B
  refine congrArg (fun z=>Value.tuple #[_,vB z]) ?_
  first|rfl|(simp_all [dC]; done)
 replace D:=DT D
 refine eS U (LW 0 U ct U U)<|eS U (CL (EN d sgA sgC) (a_ [6]) U)<|eS U (PK U)<|eS U (AG U)<|ff U<|cf U fun T8 E=>fG U cx U<|aG (E _ _ (aK [1,2,3,4,5,6,7]) ?_)
 refine fV U<|KK A<|ao<|mO hQ [0] (mc 0 U I) U ?_
 clear hQ hN E T8 A B
 refine congrArg (fun z=>Value.tuple #[_,vB z]) ?_
 first|rfl|(simp_all [dC]; done)
theorem IW (l:bo) (kA:OA) (kC:Nat) (az:List RA) (cA:OA) (cC:Nat) (bA:OA) (bC:Nat) (d:aw) (sgA:OA) (sgC:Nat) (hin:eA l az):
 dR Tryz.prog 219 [(vA (cu.cells (ko l kA kC cA cC bA bC))),(vA (br.cells (br.mk d.Out d.fp d.Time (kT d.c_ sgA sgC))))] [(rd kA l.aN.length 9 (l.aN.map ai.cells)),(rd cA l.ak.length 2 (List.zipWith av.cells l.ak az)),(eY (aX av.ja l.ak az)),(rd bA l.ab.length 4 (l.ab.map bM.cells)),(rd sgA d.c_.aj.length 2 (d.c_.aj.map aH.cells))] (vT [(vA (aa.cells d.Time)),(vB (decide (fQ d.Time∧nB d.c_)))]):=by
 refine bE kr Tryz.func219 U U fun AA Q hQ hN=>?_
 try dsimp only
 refine WS fun _ B=>fY U fun F=>fY U fun G=>AL U dk fun H=>rP 1 [] I ?_
 refine RK B<|ah fun _ A=>ek cE [9] [] [] [1,2,3,4,5,6,7] [] U U U U U<|eS U (FA 2 U fB U)<|eS U (LP (aa.cells d.Time) 0 U ct U U U)<|eS U (FA 2 U fB U)<|eS U (LP (aa.cells d.Time) 0 U ct U U U)<|eS U (CL (Ch d.Time) (aD) U)<|eS U (MV U)<|sY (t:=11) U (fun C=>?_) (fun C=>?_)
 rotate_left 1
 ·replace C:=DF C
  refine eS U (OX U)<|eS U (OX U)<|eS U (PK U)<|eS U (AG U)<|ff U<|cf U fun T8 E=>fG U cx U<|aG (E _ _ (aK [1,2,3,4,5,6,7]) ?_)
  refine fV U<|KK A<|ao<|mO hQ [0] (mc 0 U I) U ?_
  clear hQ hN E T8 A B
  refine congrArg (fun z=>Value.tuple #[_,vB z]) ?_
  first|rfl|(simp_all; done)
 replace C:=DT C
 refine eS U (LW 0 U ct U U)<|eS U (CL (EN d sgA sgC) (a_ [6]) U)<|eS U (PK U)<|eS U (AG U)<|ff U<|cf U fun T7 D=>fG U cx U<|aG (D _ _ (aK [1,2,3,4,5,6,7]) ?_)
 refine fV U<|KK A<|ao<|mO hQ [0] (mc 0 U I) U ?_
 clear hQ hN D T7 A B
 refine congrArg (fun z=>Value.tuple #[_,vB z]) ?_
 first|rfl|(simp_all; done)
theorem IK (l:bo) (kA:OA) (kC:Nat) (az:List RA) (cA:OA) (cC:Nat) (bA:OA) (bC:Nat) (d:aw) (sgA:OA) (sgC:Nat) (hin:eA l az) (hsl:d.c_.aj.length≤1000000):
 dR Tryz.prog 221 [(vA (cu.cells (ko l kA kC cA cC bA bC))),(vA (br.cells (br.mk d.Out d.fp d.Time (kT d.c_ sgA sgC))))] [(rd kA l.aN.length 9 (l.aN.map ai.cells)),(rd cA l.ak.length 2 (List.zipWith av.cells l.ak az)),(eY (aX av.ja l.ak az)),(rd bA l.ab.length 4 (l.ab.map bM.cells)),(rd sgA d.c_.aj.length 2 (d.c_.aj.map aH.cells))] (vT [(vA (aa.cells (qn l d.c_))),(vB (decide (db l d.c_ l.bS=0∧d.Time=dC)))]):=by
 have K:=hin.ux
 have AA:=hin.s_
 have G:=hin.o4
 have H:=hin.tW
 have J:=hin.side
 refine bE kr Tryz.func221 U U fun P Q hQ hN=>?_
 try dsimp only
 refine WS fun _ C=>fY U fun L=>fY U fun M=>AL U dk fun N=>bh 1 U<|RK C<|WS fun _ D=>fr 2 [] (mc 2 U I) U<|rS (LP (eC.cells (kT d.c_ sgA sgC)) 1 U ct U U U)<|rS (CL (Kl l kA kC az cA cC bA bC d.c_ sgA sgC hin hsl) (a_ [3,4,5,6,7]) U)<|bh 3 U<|AL U dk fun O=>fG U cx U<|rP 1 [] I ?_
 refine RK D<|ah fun _ A=>ek cE [9] [] [] [0,2,3,4,5,6,7,8] [] U U U U U<|eS U (LW 0 U ct U U)<|eS U (MV U)<|eS U (BI U jX)<|eS U (MV U)<|sY (t:=18) U (fun E=>?_) (fun E=>?_)
 rotate_left 1
 ·replace E:=DF E
  refine eS U (OX U)<|eS U (OX U)<|eS U (OX U)<|eS U (OX U)<|eS U (PK U)<|eS U (AG U)<|ff U<|cf U fun T10 B=>sD U cx U<|aG (B _ _ (aK [0,2,3,4,5,6,7,8]) ?_)
  refine fV U<|KK A<|ao<|mO hQ [0] (mc 1 U I) U ?_
  clear hQ hN B T10 A D C
  refine congrArg (fun z=>Value.tuple #[_,vB z]) ?_
  first|rfl|(simp_all [dC]; done)
 replace E:=DT E
 refine eS U (FA 2 U fB U)<|eS U (LP (aa.cells d.Time) 1 U ct U U U)<|eS U (SX (aZ (xs:=[]) (cs:=(aa.cells (aa.mk 0 0))) U U (bf gR U)) U U)<|eS U (BI U (uB _ _ d.Time (aa.mk 0 0)))<|eS U (PK U)<|eS U (AG U)<|ff U<|cf U fun T9 F=>sD U cx U<|aG (F _ _ (aK [0,2,3,4,5,6,7,8]) ?_)
 refine fV U<|KK A<|ao<|mO hQ [0] (mc 1 U I) U ?_
 clear hQ hN F T9 A D C
 refine congrArg (fun z=>Value.tuple #[_,vB z]) ?_
 first|rfl|(simp_all [dC]; done)
theorem DB (d:aw) (sgA:OA) (sgC g1:Nat):
 dR Tryz.prog 114 [(vA (lB.cells (lB.mk (Value.func (.func 215) [].toArray [].toArray) (Value.func (.func 216) [].toArray [].toArray)))),(vP g1)] [(rd sgA d.c_.aj.length 2 (d.c_.aj.map aH.cells)),(bQ g1 62 (br.cells (br.mk d.Out d.fp d.Time (kT d.c_ sgA sgC))))] (vB d.Out):=by
 refine bE kr Tryz.func114 U U fun D Q hQ hN=>?_
 try dsimp only
 refine WS fun _ A=>fY U fun C=>bh 1 U<|RK A<|WS fun _ B=>fr 3 [0,1] (mc 0 U (mr 2 U I)) U<|rS (CL (Np d sgA sgC) (a_ [1]) U)<|rP 1 [] I ?_
 refine RK B<|ao<|Q1 hQ U U U ?_
 rfl
theorem Dr (d:aw) (sgA:OA) (sgC g1:Nat):
 dR Tryz.prog 114 [(vA (lB.cells (lB.mk (Value.func (.func 218) [].toArray [].toArray) (Value.func (.func 219) [].toArray [].toArray)))),(vP g1)] [(rd sgA d.c_.aj.length 2 (d.c_.aj.map aH.cells)),(bQ g1 62 (br.cells (br.mk d.Out d.fp d.Time (kT d.c_ sgA sgC))))] (vB d.fp):=by
 refine bE kr Tryz.func114 U U fun D Q hQ hN=>?_
 try dsimp only
 refine WS fun _ A=>fY U fun C=>bh 1 U<|RK A<|WS fun _ B=>fr 3 [0,1] (mc 0 U (mr 2 U I)) U<|rS (CL (NJ d sgA sgC) (a_ [1]) U)<|rP 1 [] I ?_
 refine RK B<|ao<|Q1 hQ U U U ?_
 rfl
theorem DS (d:aw) (sgA:OA) (sgC g1:Nat):
 dR Tryz.prog 114 [(vA (lB.cells (lB.mk (Value.func (.func 220) [].toArray [].toArray) (Value.func (.func 221) [].toArray [].toArray)))),(vP g1)] [(rd sgA d.c_.aj.length 2 (d.c_.aj.map aH.cells)),(bQ g1 62 (br.cells (br.mk d.Out d.fp d.Time (kT d.c_ sgA sgC))))] (vB true):=by
 refine bE kr Tryz.func114 U U fun D Q hQ hN=>?_
 try dsimp only
 refine WS fun _ A=>fY U fun C=>bh 1 U<|RK A<|WS fun _ B=>fr 3 [0,1] (mc 0 U (mr 2 U I)) U<|rS (CL (Nb d sgA sgC) (a_ [1]) U)<|rP 1 [] I ?_
 refine RK B<|ao<|Q1 hQ U U U ?_
 rfl
end
section
open Go.RowKit
theorem uu (d:aw) (sgA:OA) (sgC g1:Nat):
 dR Tryz.prog 113 [(vS eB 3 3),(Value.func (.func 114) [].toArray [(vP g1)].toArray)] [(rd eB 3 2 dE),(rd sgA d.c_.aj.length 2 (d.c_.aj.map aH.cells)),(bQ g1 62 (br.cells (br.mk d.Out d.fp d.Time (kT d.c_ sgA sgC))))] (vI (m_ d)):=by
 refine bE kr Tryz.func113 U U fun b Q hQ hN=>?_
 try dsimp only
 refine WS fun _ F=>bh 1 U<|RK F<|ah fun _ AA=>WS fun _ G=>bh 3 U<|RK G<|aA<|iG 4<|dy fun R4 Z=>WS fun _ H=>rS (SX (bP (r:= .bool true) U U U fW) U U)<|RK H<|ah fun _ AB=>aL U<|WK AB<|ah fun _ J=>aA<|WS fun _ K=>bh 2 U<|RK K<|WS fun _ L=>rP 3 [] I ?_
 refine rS (IA 0 U (aJ 0 U) Fx dc U om)<|rS (n9 0 0 (lB.cells (lB.mk (Value.func (.func 215) [].toArray [].toArray) (Value.func (.func 216) [].toArray [].toArray))) U ct (aJ 0 U) (show dE[0]? =some [(Value.func (.func 215) [].toArray [].toArray),(Value.func (.func 216) [].toArray [].toArray)] from U) U dc U U)<|rS (CL (DB d sgA sgC g1) (a_ [1,2]) U)<|RK L<|cM U (fun X=>?_) (fun X=>?_)
 ·refine WS fun _ M=>rP 2 [] I ?_
  refine RK M<|ao<|Q1 hQ U U U ?_
  clear hQ hN M L K J AB H G AA F
  refine cI ?_
  simp [m_, *]
 refine cr<|aF<|KK J<|an<|rS (SX (bP (r:= .int .i64 1) U U U (gP ⟨dc,dc⟩)) U U)<|bh 1 U<|RK Z<|dy fun R12 W=>WS fun _ A=>rS (SX (bP (r:= .bool true) U U U fW) U U)<|RK A<|ah fun _ B=>aL U<|WK B<|ah fun _ C=>aA<|WS fun _ D=>bh 2 U<|RK D<|WS fun _ E=>rP 3 [] I ?_
 refine rS (IA 1 U (aJ 0 U) Fx dc U om)<|rS (n9 1 0 (lB.cells (lB.mk (Value.func (.func 218) [].toArray [].toArray) (Value.func (.func 219) [].toArray [].toArray))) U ct (aJ 0 U) (show dE[1]? =some [(Value.func (.func 218) [].toArray [].toArray),(Value.func (.func 219) [].toArray [].toArray)] from U) U dc U U)<|rS (CL (Dr d sgA sgC g1) (a_ [1,2]) U)<|RK E<|cM U (fun Y=>?_) (fun Y=>?_)
 ·refine WS fun _ N=>rP 2 [] I ?_
  refine RK N<|ao<|Q1 hQ U U U ?_
  clear hQ hN N E D C B A L K J AB H G AA F
  refine cI ?_
  simp [m_, *]
 refine cr<|aF<|KK C<|an<|rS (SX (bP (r:= .int .i64 2) U U U (gP ⟨dc,dc⟩)) U U)<|bh 1 U<|RK W<|dy fun R20 a=>WS fun _ O=>rS (SX (bP (r:= .bool true) U U U fW) U U)<|RK O<|ah fun _ P=>aL U<|WK P<|ah fun _ V=>aA<|WS fun _ R=>bh 2 U<|RK R<|WS fun _ S=>bh 3 U<|rS (IA 2 U (aJ 0 U) Fx dc U om)<|rS (n9 2 0 (lB.cells (lB.mk (Value.func (.func 220) [].toArray [].toArray) (Value.func (.func 221) [].toArray [].toArray))) U ct (aJ 0 U) (show dE[2]? =some [(Value.func (.func 220) [].toArray [].toArray),(Value.func (.func 221) [].toArray [].toArray)] from U) U dc U U)<|rS (CL (DS d sgA sgC g1) (a_ [1,2]) U)<|RK S<|aL U<|WS fun _ T=>rP 2 [] I ?_
 refine RK T<|ao<|Q1 hQ U U U ?_
 clear hQ hN T S R V P O E D C B A L K J AB H G AA F
 refine cI ?_
 simp [m_, *]
end
section
open Go.RowKit
theorem Mw (d:aw) (sgA:OA) (sgC g1:Nat) (hk:d.Out=true):
 dR Tryz.prog 113 [(vS eB 3 3),(Value.func (.func 114) [].toArray [(vP g1)].toArray)] [(rd eB 3 2 dE),(rd sgA d.c_.aj.length 2 (d.c_.aj.map aH.cells)),(bQ g1 62 (br.cells (br.mk d.Out d.fp d.Time (kT d.c_ sgA sgC))))] (vI 0):=by
 have h:=uu d sgA sgC g1
 have e:m_ d=0:=by simp [m_,hk]
 rw [e] at h
 exact h
theorem MH (d:aw) (sgA:OA) (sgC g1:Nat) (hk:d.Out=false∧d.fp=true):
 dR Tryz.prog 113 [(vS eB 3 3),(Value.func (.func 114) [].toArray [(vP g1)].toArray)] [(rd eB 3 2 dE),(rd sgA d.c_.aj.length 2 (d.c_.aj.map aH.cells)),(bQ g1 62 (br.cells (br.mk d.Out d.fp d.Time (kT d.c_ sgA sgC))))] (vI 1):=by
 have h:=uu d sgA sgC g1
 have e:m_ d=1:=by simp [m_,hk]
 rw [e] at h
 exact h
theorem M7 (d:aw) (sgA:OA) (sgC g1:Nat) (hk:d.Out=false∧d.fp=false):
 dR Tryz.prog 113 [(vS eB 3 3),(Value.func (.func 114) [].toArray [(vP g1)].toArray)] [(rd eB 3 2 dE),(rd sgA d.c_.aj.length 2 (d.c_.aj.map aH.cells)),(bQ g1 62 (br.cells (br.mk d.Out d.fp d.Time (kT d.c_ sgA sgC))))] (vI 2):=by
 have h:=uu d sgA sgC g1
 have e:m_ d=2:=by simp [m_,hk]
 rw [e] at h
 exact h
theorem zx (l:bo) (kA:OA) (kC:Nat) (az:List RA) (cA:OA) (cC:Nat) (bA:OA) (bC:Nat) (d:aw) (sgA:OA) (sgC:Nat) (hin:eA l az) (hsl:d.c_.aj.length≤1000000) (hk:d.Out=true):
 dR Tryz.prog 75 [(vA (cu.cells (ko l kA kC cA cC bA bC))),(vA (br.cells (br.mk d.Out d.fp d.Time (kT d.c_ sgA sgC))))] [(rd eB 3 2 dE),(rd kA l.aN.length 9 (l.aN.map ai.cells)),(rd cA l.ak.length 2 (List.zipWith av.cells l.ak az)),(eY (aX av.ja l.ak az)),(rd bA l.ab.length 4 (l.ab.map bM.cells)),(rd sgA d.c_.aj.length 2 (d.c_.aj.map aH.cells))] (vT [(vA (aa.cells (dA l d))),(vB (decide (iO l d)))]):=by
 refine bE kr Tryz.func75 U U fun AA Q hQ hN=>?_
 try dsimp only
 refine WS fun _ A=>fY U fun G=>fY U fun D=>AL U dk fun H=>bh 1 U<|RK A<|WS fun _ B=>rS (SX (Ac U U vl) U U)<|rS (FU U)<|rS (CL (Mw d sgA sgC D hk) (Jf 3 8 1 U U U U U U) U)<|bh 1 U<|RK B<|ah fun _ C=>dF cE 9 kr<|lQ 1 U<|dS (SX (Av (k:=0) U U U vl U om) U U)<|dS (pt ((0*2)+1) U (aJ 3 U) (Nat.mul_pos om dc) fB U)<|dS (g_ 0 1 (Value.func (.func 216) [].toArray [].toArray) U ct (aJ 3 U) (show dE[0]? =some [(Value.func (.func 215) [].toArray [].toArray),(Value.func (.func 216) [].toArray [].toArray)] from U) U dc U)<|mQ 2 [0,1] (mc 2 U (mc 1 U I)) U<|dS (CL (JK l kA kC az cA cC bA bC d sgA sgC hin) (a_ [4,5,6,7,8]) U)<|lQ 2 U<|cQ<|fG U cx U<|rP 1 [] I ?_
 refine RK C<|ao<|mO hQ [0] (mc 0 U I) U ?_
 have E:=IB (l:=l) hk
 have F:=GR (l:=l) hk
 simp only [E,F]
theorem yB (l:bo) (kA:OA) (kC:Nat) (az:List RA) (cA:OA) (cC:Nat) (bA:OA) (bC:Nat) (d:aw) (sgA:OA) (sgC:Nat) (hin:eA l az) (hsl:d.c_.aj.length≤1000000) (hk:d.Out=false∧d.fp=true):
 dR Tryz.prog 75 [(vA (cu.cells (ko l kA kC cA cC bA bC))),(vA (br.cells (br.mk d.Out d.fp d.Time (kT d.c_ sgA sgC))))] [(rd eB 3 2 dE),(rd kA l.aN.length 9 (l.aN.map ai.cells)),(rd cA l.ak.length 2 (List.zipWith av.cells l.ak az)),(eY (aX av.ja l.ak az)),(rd bA l.ab.length 4 (l.ab.map bM.cells)),(rd sgA d.c_.aj.length 2 (d.c_.aj.map aH.cells))] (vT [(vA (aa.cells (dA l d))),(vB (decide (iO l d)))]):=by
 refine bE kr Tryz.func75 U U fun AA Q hQ hN=>?_
 try dsimp only
 refine WS fun _ A=>fY U fun G=>fY U fun D=>AL U dk fun H=>bh 1 U<|RK A<|WS fun _ B=>rS (SX (Ac U U vl) U U)<|rS (FU U)<|rS (CL (MH d sgA sgC D hk) (Jf 3 8 1 U U U U U U) U)<|bh 1 U<|RK B<|ah fun _ C=>dF cE 9 kr<|lQ 1 U<|dS (SX (Av (k:=1) U U U vl U om) U U)<|dS (pt ((1*2)+1) U (aJ 3 U) (Nat.mul_pos om dc) fB U)<|dS (g_ 1 1 (Value.func (.func 219) [].toArray [].toArray) U ct (aJ 3 U) (show dE[1]? =some [(Value.func (.func 218) [].toArray [].toArray),(Value.func (.func 219) [].toArray [].toArray)] from U) U dc U)<|mQ 2 [0,1] (mc 2 U (mc 1 U I)) U<|dS (CL (IW l kA kC az cA cC bA bC d sgA sgC hin) (a_ [4,5,6,7,8]) U)<|lQ 2 U<|cQ<|fG U cx U<|rP 1 [] I ?_
 refine RK C<|ao<|mO hQ [0] (mc 0 U I) U ?_
 have E:=wE (l:=l) hk
 have F:=tL (l:=l) hk
 simp only [E,F]
theorem yj (l:bo) (kA:OA) (kC:Nat) (az:List RA) (cA:OA) (cC:Nat) (bA:OA) (bC:Nat) (d:aw) (sgA:OA) (sgC:Nat) (hin:eA l az) (hsl:d.c_.aj.length≤1000000) (hk:d.Out=false∧d.fp=false):
 dR Tryz.prog 75 [(vA (cu.cells (ko l kA kC cA cC bA bC))),(vA (br.cells (br.mk d.Out d.fp d.Time (kT d.c_ sgA sgC))))] [(rd eB 3 2 dE),(rd kA l.aN.length 9 (l.aN.map ai.cells)),(rd cA l.ak.length 2 (List.zipWith av.cells l.ak az)),(eY (aX av.ja l.ak az)),(rd bA l.ab.length 4 (l.ab.map bM.cells)),(rd sgA d.c_.aj.length 2 (d.c_.aj.map aH.cells))] (vT [(vA (aa.cells (dA l d))),(vB (decide (iO l d)))]):=by
 refine bE kr Tryz.func75 U U fun AA Q hQ hN=>?_
 try dsimp only
 refine WS fun _ A=>fY U fun G=>fY U fun D=>AL U dk fun H=>bh 1 U<|RK A<|WS fun _ B=>rS (SX (Ac U U vl) U U)<|rS (FU U)<|rS (CL (M7 d sgA sgC D hk) (Jf 3 8 1 U U U U U U) U)<|bh 1 U<|RK B<|ah fun _ C=>dF cE 9 kr<|lQ 1 U<|dS (SX (Av (k:=2) U U U vl U om) U U)<|dS (pt ((2*2)+1) U (aJ 3 U) (Nat.mul_pos om dc) fB U)<|dS (g_ 2 1 (Value.func (.func 221) [].toArray [].toArray) U ct (aJ 3 U) (show dE[2]? =some [(Value.func (.func 220) [].toArray [].toArray),(Value.func (.func 221) [].toArray [].toArray)] from U) U dc U)<|mQ 2 [0,1] (mc 2 U (mc 1 U I)) U<|dS (CL (IK l kA kC az cA cC bA bC d sgA sgC hin hsl) (a_ [4,5,6,7,8]) U)<|lQ 2 U<|cQ<|fG U cx U<|rP 1 [] I ?_
 refine RK C<|ao<|mO hQ [0] (mc 0 U I) U ?_
 have E:=qy (l:=l) hk
 have F:=qx (l:=l) hk
 simp only [E,F]
theorem Bh (l:bo) (kA:OA) (kC:Nat) (az:List RA) (cA:OA) (cC:Nat) (bA:OA) (bC:Nat) (d:aw) (sgA:OA) (sgC:Nat) (hin:eA l az) (hsl:d.c_.aj.length≤1000000):
 dR Tryz.prog 75 [(vA (cu.cells (ko l kA kC cA cC bA bC))),(vA (br.cells (br.mk d.Out d.fp d.Time (kT d.c_ sgA sgC))))] [(rd eB 3 2 dE),(rd kA l.aN.length 9 (l.aN.map ai.cells)),(rd cA l.ak.length 2 (List.zipWith av.cells l.ak az)),(eY (aX av.ja l.ak az)),(rd bA l.ab.length 4 (l.ab.map bM.cells)),(rd sgA d.c_.aj.length 2 (d.c_.aj.map aH.cells))] (vT [(vA (aa.cells (dA l d))),(vB (decide (iO l d)))]):=by
 by_cases ho:d.Out=true
 ·exact zx l kA kC az cA cC bA bC d sgA sgC hin hsl ho
 by_cases hf:d.fp=true
 ·exact yB l kA kC az cA cC bA bC d sgA sgC hin hsl ⟨by simpa using ho,hf⟩
 ·exact yj l kA kC az cA cC bA bC d sgA sgC hin hsl ⟨by simpa using ho,by simpa using hf⟩
end
section
open Go.RowKit
theorem FN (r:bX) (kA:OA) (kC:Nat) (az:List RA) (cA:OA) (cC:Nat) (bA:OA) (bC:Nat) (slA:OA) (slC:Nat) (drA:OA) (drC:Nat) (ha:List cL) (heA:OA) (heC:Nat) (tz:List RA) (tA:OA) (tC:Nat) (ms:Value) (gw h:Nat) (gm g1 g2:Nat) (hin:eF r az ha) (htz:tz.length=r.aB.length) (hh:h<r.aB.length) (hok:kM r (h+1)):
 Dh Tryz.prog 78 [(vI (h:Int)),(vP g1),(vP g2)] [(rd kA r.ar.aN.length 9 (r.ar.aN.map ai.cells)),(rd cA r.ar.ak.length 2 (List.zipWith av.cells r.ar.ak az)),(eY (aX av.ja r.ar.ak az)),(rd bA r.ar.ab.length 4 (r.ar.ab.map bM.cells)),(rd slA r.aU.length 1 (r.aU.map iC)),(rd drA r.bV.length 1 (r.bV.map iC)),(rd heA r.aB.length 1 (List.zipWith cR r.aB ha)),(eY (aX jk r.aB ha)),(rd tA ((cU r).length) 1 (List.zipWith DV (cU r) tz)),(eY (aX HT (cU r) tz)),(bQ gw 112 (eW.cells (eW.mk (oi r kA kC cA cC bA bC slA slC drA drC heA heC) (bk.mk tA ((cU r).length) tC) ms))),(bQ g1 94 [(vP gw)]),(bQ g2 40 [(Value.map (some gm))])] (gQ iV gm (bK dm (dD r.ar r.aB r.aU.length h 0))) (fun (x:Unit)=>(vT [])) (fun (x:Unit)=>True) (fun (x:Unit)=>(gQ iV gm (bK dm (dD r.ar r.aB r.aU.length (h+1) 0)))):=by
 have v:=hin.line
 have A6:=hin.iZ
 have A7:=hin.has
 have A0:=hin.je
 have AC:=hin.draw
 have A1:=dT (r:=r)
 refine mg kr Tryz.func78 U U fun w0 Q hQ hN=>?_
 try dsimp only
 refine WS fun _ g=>fr 1 [] (mr 12 U I) U<|rS (SX (bx U U) U U)<|rP 3 [] (mr 11 U I) ?_
 obtain ⟨ht,B⟩:=aM r.aB h om
 obtain ⟨A,C⟩:=aM ha h om
 have Z:(List.zipWith cR r.aB ha)[h]? =some (cR ht A):=eu B C
 have s:=hin.oQ _ _ _ B C
 have AO:=s.o4
 have N:=hok h ht om B
 obtain ⟨tr,G⟩:=aM (cU r) h om
 obtain ⟨tra,F⟩:=aM tz h om
 have c:(List.zipWith DV (cU r) tz)[h]? =some (DV tr tra):=eu G F
 refine rS (IA h U (aJ 9 U) FT dc om om)<|rS (g_ h 0 (vS tra.1 tr.length tra.2) U ct (aJ 9 U) c U dc U) ?_
 have AB:=vn B G
 have A3:tr.length=r.aU.length:=by rw [AB,List.length_map]; exact N.1
 have A2:=N.1
 refine rP 2 [] I ?_
 refine RK g<|aA ?_
 have E:(0≤r.aU.length):=by exact Nat.zero_le _
 refine bR (ι:={z:Nat // (z≤r.aU.length)}) [0,1,2,14,15] [1,2,3,4,5,6,7,8,9,10,11,12,13] U U (fun z=>[(16,(vI (z.1:Int)))]) (fun z=>[(gQ iV gm (bK dm (dD r.ar r.aB r.aU.length h z.1)))]) (fun _=>rfl) (fun _=>rfl) (fun z=>r.aU.length-z.1) ⟨0,E⟩ (aW U) (aK [1,2,3,4,5,6,7,8,9,10,11,12,13,0]) ?_
 clear E
 rintro ⟨i,u⟩ J2 K
 try dsimp only
 have a:i<r.aU.length→(dD r.ar r.aB r.aU.length h i).lookup (i:Int)=fF r.ar r.aB i h:=FO
 refine WS fun _ k=>rP 1 [] I ?_
 refine RK k<|ah fun _ m=>bT U (aR fun h5=>?_) (aQ fun h5=>?_)
 ·refine bI<|ae<|ae<|aC ?_
  rw [show (dD r.ar r.aB r.aU.length h i)=(dD r.ar r.aB r.aU.length (h+1) 0) from by rw [show i=r.aU.length by omega]; exact Ih]
  refine LM hN () 13 [] I U U U U ?_
  trivial
 refine WK m<|ah fun _ L=>aA<|WS fun _ n=>rP 1 [] I ?_
 obtain ⟨x,hx⟩:=aM tr i om
 have y:=bW aa.cells hx
 refine rS (IA i U (show ju _ (rd tra.1 tr.length 2 (tr.map aa.cells)).holds from (eN 9 U (cD G F (by simp [HT])))) gS dc om om)<|rS (n9 i 0 (aa.cells x) U ct (show ju _ (rd tra.1 tr.length 2 (tr.map aa.cells)).holds from (eN 9 U (cD G F (by simp [HT])))) y U dc U U)<|AL U dk fun b8=>bh 1 U<|fG U cx U<|RK n<|WS fun _ o=>fr 2 [] (mr 13 U I) U<|rS (SX (jM (kV:=iV) (x:=(i:Int)) (l:=(dD r.ar r.aB r.aU.length h i)) (f:=dm) (z:=(aa.mk 0 0)) U U U lP (dJ og) uh (by exact aJ 14 U)) U U)<|bh 3 U<|AL U dk fun A4=>fG U cx U<|bh 1 U<|RK o<|ah fun _ P=>WS fun _ H=>fr 1 [] (mr 13 U I) U<|rS (SX (bx U U) U U)<|fr 4 [] (mr 12 U I) U<|rS (IA h U (aJ 8 U) sH dc om om)<|rS (g_ h 0 (vS A.1.1 ht.length A.1.2) U ct (aJ 8 U) Z U dc U)<|rP 1 [] I ?_
 obtain ⟨d,hd⟩:=aM ht i om
 obtain ⟨da,p⟩:=aM A.2 i om
 have q:(List.zipWith aw.cells ht A.2)[i]? =some (aw.cells d da):=eu hd p
 refine rS (IA i U (show ju _ (rd A.1.1 ht.length 7 (List.zipWith aw.cells ht A.2)).holds from (eN 9 U (cD B C cq))) uS dc om om)<|rS (pt (i*7) U (show ju _ (rd A.1.1 ht.length 7 (List.zipWith aw.cells ht A.2)).holds from (eN 9 U (cD B C cq))) (Nat.mul_pos om dc) fB U)<|rS (g_ i 0 (vB d.Out) U ct (show ju _ (rd A.1.1 ht.length 7 (List.zipWith aw.cells ht A.2)).holds from (eN 9 U (cD B C cq))) q U dc U)<|rP 1 [] I ?_
 refine cK (t:=39) U (fun J=>?_) (fun J=>?_)
 ·refine bh 3 U<|RK H<|aL U<|WS fun _ R=>rP 2 [] (mr 14 U I) ?_
  have T:(bY (dD r.ar r.aB r.aU.length h i) (i:Int))=(dD r.ar r.aB r.aU.length h (i+1)):=by exact Bu (by exact Dl B hd J)
  refine nO (kV:=iV) (x:=(i:Int)) (C':=[_,_,_,_,_,_,_,_,_,_,_,_,_,_,_,(gQ iV gm (bK dm (dD r.ar r.aB r.aU.length h (i+1))))]) 15 U U U U lP (dJ og) U ((ky _ _ _).symm.trans (congrArg _ T)) U<|RK R<|bI<|ae<|aC<|KK L<|an<|rP 2 [] I ?_
  refine aG ?_
  have AA:(vI (((i+1):Nat):Int))=(vI ((i:Int)+1)):=by exact cI om
  refine bg (K ⟨(i+1),(by first|omega|(simp only []; omega))⟩ _ _ _ U os (dx 5<|bG U AA<|ee.nil _) (aK [2,3,4,5,6,7,8,9,10,11,12,13,14,15]))
 refine rP 3 [] I ?_
 refine RK H<|cM U (fun D=>?_) (fun D=>?_)
 ·rw [Bool.not_eq_true'] at D
  refine WS fun _ S=>rP 2 [] (mr 14 U I) ?_
  have V:(bY (dD r.ar r.aB r.aU.length h i) (i:Int))=(dD r.ar r.aB r.aU.length h (i+1)):=by exact Bu (by exact z8 ((a om).symm.trans (Option.not_isSome_iff_eq_none.1 (by rw [D]; decide))))
  refine nO (kV:=iV) (x:=(i:Int)) (C':=[_,_,_,_,_,_,_,_,_,_,_,_,_,_,_,(gQ iV gm (bK dm (dD r.ar r.aB r.aU.length h (i+1))))]) 15 U U U U lP (dJ og) U ((ky _ _ _).symm.trans (congrArg _ V)) U<|RK S<|bI<|ae<|aC<|KK L<|an<|rP 2 [] I ?_
  refine aG ?_
  have W:(vI (((i+1):Nat):Int))=(vI ((i:Int)+1)):=by exact cI om
  refine bg (K ⟨(i+1),(by first|omega|(simp only []; omega))⟩ _ _ _ U os (dx 5<|bG U W<|ee.nil _) (aK [2,3,4,5,6,7,8,9,10,11,12,13,14,15]))
 rw [Bool.not_eq_false'] at D
 refine WK P<|an ?_
 obtain ⟨O,b⟩:=Option.isSome_iff_exists.1 D
 have M:fF r.ar r.aB i h=some O:=(a om).symm.trans b
 have e:=Fm AB hx hd
 have A8:=wS (fun j x hj hx=>hok j x om hx) om M
 have w:=Bx (N.2 d (aT hd))
 rw [← e] at w
 rw [show ((List.lookup (i:Int) (dD r.ar r.aB r.aU.length h i)).getD (aa.mk 0 0))=O from by rw [b]; rfl]
 refine fr 6 [0,1,2] (mr 14 U (mc 0 U (mc 1 U I))) U<|rS (BI U (pI om om om))<|fr 5 [0,1] (mc 0 U (mc 1 U I)) U<|rS (BI U (pI om om om))<|rP 1 [] I ?_
 refine rS (SX (aZ (xs:=[(0,.tmp 52),(1,.tmp 58)]) (cs:=(aa.cells (aa.mk (O.Lo+(x.Lo/10)) (O.Hi+(x.Hi/10))))) U U (bf gR U)) U U) ?_
 have X:(dN (dD r.ar r.aB r.aU.length h i) (i:Int) (aa.mk (O.Lo+(x.Lo/10)) (O.Hi+(x.Hi/10))))=(dD r.ar r.aB r.aU.length h (i+1)):=by exact Jm om (by rw [M]; rfl) (by rw [e]; exact Ay B hd (by rw [J]; decide) M)
 refine ig (kV:=iV) (x:=(i:Int)) (C':=[_,_,_,_,_,_,_,_,_,_,_,_,_,_,_,(gQ iV gm (bK dm (dD r.ar r.aB r.aU.length h (i+1))))]) 15 U U U U lP (dJ og) U ((fI _ _ _ _).symm.trans (congrArg _ X)) U<|aG<|aF<|KK L<|an<|rP 2 [] I ?_
 refine aG ?_
 have Y:(vI (((i+1):Nat):Int))=(vI ((i:Int)+1)):=by exact cI om
 refine bg (K ⟨(i+1),(by first|omega|(simp only []; omega))⟩ _ _ _ U os (dx 5<|bG U Y<|ee.nil _) (aK [2,3,4,5,6,7,8,9,10,11,12,13,14,15]))
theorem Ki (r:bX) (kA:OA) (kC:Nat) (az:List RA) (cA:OA) (cC:Nat) (bA:OA) (bC:Nat) (slA:OA) (slC:Nat) (drA:OA) (drC:Nat) (ha:List cL) (heA:OA) (heC:Nat) (tz:List RA) (tA:OA) (tC:Nat) (ms:Value) (gw n:Nat) (hin:eF r az ha) (htz:tz.length=r.aB.length) (hn:n≤r.aB.length) (hok:kM r n):
 lq Tryz.prog 41 [(vP gw),(vI (n:Int))] [(rd kA r.ar.aN.length 9 (r.ar.aN.map ai.cells)),(rd cA r.ar.ak.length 2 (List.zipWith av.cells r.ar.ak az)),(eY (aX av.ja r.ar.ak az)),(rd bA r.ar.ab.length 4 (r.ar.ab.map bM.cells)),(rd slA r.aU.length 1 (r.aU.map iC)),(rd drA r.bV.length 1 (r.bV.map iC)),(rd heA r.aB.length 1 (List.zipWith cR r.aB ha)),(eY (aX jk r.aB ha)),(rd tA ((cU r).length) 1 (List.zipWith DV (cU r) tz)),(eY (aX HT (cU r) tz)),(bQ gw 112 (eW.cells (eW.mk (oi r kA kC cA cC bA bC slA slC drA drC heA heC) (bk.mk tA ((cU r).length) tC) ms)))] (fun (x:Nat)=>(Value.map (some x))) (fun (x:Nat)=>True) (fun (x:Nat)=>[(gQ iV x (bK dm (dV r n)))]):=by
 have c:=hin.line
 have m:=hin.iZ
 have o:=hin.has
 have e:=hin.je
 have d:=hin.draw
 have f:=dT (r:=r)
 refine de kr Tryz.func41 U U fun q Q hQ hN=>?_
 try dsimp only
 refine WS fun _ V=>qM U U fun k=>rP 1 [] I ?_
 refine RK V<|WS fun _ W=>my (kV:=iV) U U fun B=>?_
 try dsimp only
 refine AL U Og fun l=>CW U Hh U U<|RK W<|ah fun _ X=>WS fun _ Y=>fr 1 [] (mc 2 U I) U<|rS (SX (bx U U) U U)<|rP 5 [] (mr 13 U I) ?_
 refine RK Y<|aA ?_
 skip
 have A:(0≤r.aU.length):=by exact Nat.zero_le _
 refine bR (ι:={z:Nat // (z≤r.aU.length)}) [1,2,5,15] [0,2,3,4,5,6,7,8,9,10,11,12,13] U U (fun z=>[(16,(vI (z.1:Int)))]) (fun z=>[(gQ iV B (bK dm (dD r.ar r.aB z.1 0 0)))]) (fun _=>rfl) (fun _=>rfl) (fun z=>r.aU.length-z.1) ⟨0,A⟩ (aW U) (aK [0,2,3,4,5,6,7,8,9,10,11,12,13,1]) ?_
 clear A
 rintro ⟨i,a⟩ J8 AA
 try dsimp only
 refine WS fun _ Z=>rP 1 [] I ?_
 refine RK Z<|ah fun _ D=>cM U (aQ fun S=>?_) (aR fun S=>?_)
 ·refine WK D<|ah fun _ E=>aA<|WS fun _ F=>bh 2 U<|RK F<|an<|rP 2 [] (mc 0 U I) ?_
  refine rS (SX (aZ (xs:=[]) (cs:=(aa.cells (aa.mk 0 0))) U U (bf gR U)) U U) ?_
  have O:(dN (dD r.ar r.aB i 0 0) (i:Int) (aa.mk 0 0))=(dD r.ar r.aB (i+1) 0 0):=by exact IU
  refine ig (kV:=iV) (x:=(i:Int)) (C':=[_,_,_,_,_,_,_,_,_,_,_,_,_,(gQ iV B (bK dm (dD r.ar r.aB (i+1) 0 0)))]) 13 U U U U lP (dJ og) U ((fI _ _ _ _).symm.trans (congrArg _ O)) U<|aG<|aF<|KK E<|an<|rP 2 [] I ?_
  refine aG ?_
  have P:(vI (((i+1):Nat):Int))=(vI ((i:Int)+1)):=by exact cI om
  refine bg (AA ⟨(i+1),(by first|omega|(simp only []; omega))⟩ _ _ _ U os (dx 4<|bG U P<|ee.nil _) (aK [0,1,2,3,4,5,6,7,8,9,10,11,12,13]))
 refine bI<|ae<|ae<|aC<|KK X<|WS fun _ G=>rS (FU U)<|bh 1 U<|RK G<|ah fun _ H=>WS fun _ AB=>rP 2 [] I ?_
 refine RK AB<|aA ?_
 rw [show (dD r.ar r.aB i 0 0)=(dD r.ar r.aB r.aU.length 0 0) from by rw [show i=r.aU.length by omega]]
 have A:(0≤n):=by exact Nat.zero_le _
 refine bR (ι:={z:Nat // (z≤n)}) [2,5,7,24] [0,1,2,3,4,5,6,7,8,9,10,11,12] U U (fun z=>[(25,(vI (z.1:Int)))]) (fun z=>[(gQ iV B (bK dm (dD r.ar r.aB r.aU.length z.1 0)))]) (fun _=>rfl) (fun _=>rfl) (fun z=>n-z.1) ⟨0,A⟩ (aW U) (aK [0,1,2,3,4,5,6,7,8,9,10,11,12,13]) ?_
 clear A
 rintro ⟨h,b⟩ J19 C
 try dsimp only
 refine WS fun _ J=>rP 1 [] I ?_
 refine RK J<|ah fun _ K=>bT U (aR fun T=>?_) (aQ fun T=>?_)
 ·refine bI<|ae<|ae<|aC<|KK H<|ah fun _ N=>?_
  rw [show (dD r.ar r.aB r.aU.length h 0)=(dV r n) from by rw [show h=n by omega]; exact H9]
  refine an<|rP 2 [] (mc 0 U I) ?_
  refine RK N<|ao<|LX hQ B [13] [] I U U U U ?_
  trivial
 refine WK K<|ah fun _ L=>aA<|WS fun _ M=>bh 2 U<|RK M<|an<|rP 2 [] I ?_
 refine iy 13 U U U U (FN r kA kC az cA cC bA bC slA slC drA drC ha heA heC tz tA tC ms gw h B k l hin htz om (by exact fun j x hj hx=>hok j x om hx)) U (fz 2 U U (eH (bU _)) (fz 3 U U (eH (bU _)) (fz 4 U U (eH (bU _)) (fz 5 U U (eH (bU _)) (fz 6 U U (eH (bU _)) (fz 7 U U (eH (bU _)) (fz 8 U U (eH (bU _)) (fz 9 U U (eH (bU _)) (fz 10 U U (eH (bU _)) (fz 11 U U (eH (bU _)) (fz 12 U U (eH (bU _)) (fz 1 U U (bU _) (fz 0 U U (bU _) jN))))))))))))) U (fun p g=>?_)
 try dsimp only
 refine aG<|aF<|KK L<|an<|rP 2 [] I ?_
 refine aG ?_
 have R:(vI (((h+1):Nat):Int))=(vI ((h:Int)+1)):=by exact cI om
 refine bg (C ⟨(h+1),(by first|omega|(simp only []; omega))⟩ _ _ _ U os (dx 4<|bG U R<|ee.nil _) (aK [0,1,2,3,4,5,6,7,8,9,10,11,12,13]))
end
section
open Go.RowKit
theorem lO (r:bX) (kA:OA) (kC:Nat) (az:List RA) (cA:OA) (cC:Nat) (bA:OA) (bC:Nat) (slA:OA) (slC:Nat) (drA:OA) (drC:Nat) (ha:List cL) (heA:OA) (heC:Nat) (hin:eF r az ha):
 lq Tryz.prog 38 [(vA (cw.cells (oi r kA kC cA cC bA bC slA slC drA drC heA heC)))] [(rd eB 3 2 dE),(rd kA r.ar.aN.length 9 (r.ar.aN.map ai.cells)),(rd cA r.ar.ak.length 2 (List.zipWith av.cells r.ar.ak az)),(eY (aX av.ja r.ar.ak az)),(rd bA r.ar.ab.length 4 (r.ar.ab.map bM.cells)),(rd slA r.aU.length 1 (r.aU.map iC)),(rd drA r.bV.length 1 (r.bV.map iC)),(rd heA r.aB.length 1 (List.zipWith cR r.aB ha)),(eY (aX jk r.aB ha))] (fun (x:Bool×Int×Nat×Nat×(OA)×Nat×(List RA))=>bif x.1 then (vT [(Value.pointer (some ⟨x.2.2.1,0,none⟩)),(vI 0)]) else (vT [(Value.pointer none),(vI x.2.1)])) (fun (x:Bool×Int×Nat×Nat×(OA)×Nat×(List RA))=>(x.1=true→(cG r=0∧x.2.2.2.2.2.2.length=r.aB.length))∧(x.1=false→(x.2.1=cG r∧ ¬ cG r=0))) (fun (x:Bool×Int×Nat×Nat×(OA)×Nat×(List RA))=>bif x.1 then [(bQ x.2.2.1 112 (eW.cells (eW.mk (oi r kA kC cA cC bA bC slA slC drA drC heA heC) (bk.mk x.2.2.2.2.1 ((cU r).length) x.2.2.2.2.2.1) (Value.map (some x.2.2.2.1))))),(own x.2.2.2.2.1 x.2.2.2.2.2.1 109 1 (List.zipWith DV (cU r) x.2.2.2.2.2.2)),(bB (aX Ej (cU r) x.2.2.2.2.2.2)),(gQ iV x.2.2.2.1 (bK dm (ay r)))] else []):=by
 have K4:=hin.line
 have Nr:=hin.iZ
 have N4:=hin.has
 have Lo:=hin.je
 have Lk:=hin.draw
 have Fn:=dT (r:=r)
 refine de kr Tryz.func38 U U fun w0 Q hQ hN=>?_
 try dsimp only
 refine WS fun _ J4=>fY U fun b2=>bh 2 U<|RK J4<|ah fun _ J5=>WS fun _ J6=>bh 1 U<|rS (LP (cu.cells (ko r.ar kA kC cA cC bA bC)) 0 U ct U U U)<|rS (CL (uw r.ar kA kC az cA cC bA bC asm) (a_ [2,3,4,5]) U)<|bh 1 U<|RK J6<|WS fun _ J7=>rP 2 [] I ?_
 refine RK J7<|cM U (bq fun B=>?_) (bp fun B=>?_)
 ·refine WS fun _ J8=>rP 3 [] I ?_
  refine RK J8<|ao<|LX hQ (false,(eU r.ar),0,0,none,0,[]) [] [] I U (by rfl) U U ?_
  exact qL<|xJ (Ef B) B
 refine WK J5<|WS fun _ J9=>fr 4 [] (mc 0 U I) U<|RK J9<|WS fun _ KU=>rP 2 [] (mc 0 U I) ?_
 refine cX (uq drA r.bV.length drC) (aD) U fun Go Ls=>?_
 try dsimp only
 refine cX (t_ r.bV drA drC Go asm) (a_ [8,0]) U fun Li L0=>?_
 obtain ⟨MA,Nn⟩:=Li
 try dsimp only
 refine bh 1 U<|RK KU<|ah fun _ e=>WS fun _ H=>rP 1 [] I ?_
 refine cH (xs:=[.tmp 29]) (cs:=[(vI (r.aU.length:Int))]) U cy hE U U U U (by simp [Value.cells]) U U fun Gy=>?_
 refine rS (CL (dR.eq (js 1 5 ([(r.aU.length:Int)]) (some ⟨Gy,0,none⟩) 1 (by (simp; done))) cp) (al (aV 0 U U (by simp [bu]) U)<|aD) U) ?_
 refine rP 2 [] I ?_
 refine cK (t:=33) U (bq fun H1=>?_) (bp fun H1=>?_)
 ·refine bh 26 U<|RK H<|aL U<|WS fun _ f=>rP 2 [] I ?_
  refine RK f<|ao<|LX hQ (false,60,0,0,none,0,[]) [] [] I U (by rfl) U U ?_
  exact qL<|j1 (kd B (fun q:fm r=>by have q1:=q.num; have q2:=q.DU; have q3:=q.nh; have q4:=q.Ey; omega))
 refine rP 6 [] I ?_
 refine cK (t:=39) U (bq fun IF=>?_) (bp fun IF=>?_)
 ·refine bh 20 U<|RK H<|aL U<|WS fun _ g=>rP 2 [] I ?_
  refine RK g<|ao<|LX hQ (false,60,0,0,none,0,[]) [] [] I U (by rfl) U U ?_
  exact qL<|j1 (kd B (fun q:fm r=>by have q1:=q.num; have q2:=q.DU; have q3:=q.nh; have q4:=q.Ey; omega))
 refine rP 2 [] (mc 3 U I) ?_
 refine cH (xs:=[.tmp 41]) (cs:=[(vI r.iP)]) U cy hE U U U U (by simp [Value.cells]) U U fun G6=>?_
 refine rS (CL (dR.eq (js 0 5 ([r.iP]) (some ⟨G6,0,none⟩) 1 (by (simp; done))) cp) (al (aV 0 U U (by simp [bu]) U)<|aD) U) ?_
 refine rP 3 [] I ?_
 refine cK (t:=46) U (bq fun IO=>?_) (bp fun IO=>?_)
 ·refine bh 13 U<|RK H<|aL U<|WS fun _ k=>rP 2 [] I ?_
  refine RK k<|ao<|LX hQ (false,60,0,0,none,0,[]) [] [] I U (by rfl) U U ?_
  exact qL<|j1 (kd B (fun q:fm r=>by have q1:=q.num; have q2:=q.DU; have q3:=q.nh; have q4:=q.Ey; omega))
 refine rP 3 [] (mc 4 U I) ?_
 refine cH (xs:=[.tmp 49]) (cs:=[(vI (r.aB.length:Int))]) U cy hE U U U U (by simp [Value.cells]) U U fun HA=>?_
 refine rS (CL (dR.eq (js 1 3 ([(r.aB.length:Int)]) (some ⟨HA,0,none⟩) 1 (by (simp; done))) cp) (al (aV 0 U U (by simp [bu]) U)<|aD) U) ?_
 refine rP 3 [] I ?_
 refine cK (t:=54) U (bq fun IR=>?_) (bp fun IR=>?_)
 ·refine bh 5 U<|RK H<|aL U<|WS fun _ l=>rP 2 [] I ?_
  refine RK l<|ao<|LX hQ (false,60,0,0,none,0,[]) [] [] I U (by rfl) U U ?_
  exact qL<|j1 (kd B (fun q:fm r=>by have q1:=q.num; have q2:=q.DU; have q3:=q.nh; have q4:=q.Ey; omega))
 refine fr 2 [] (mc 5 U I) U<|rS (CL (js 0 9999 r.aU slA slC asm) (a_ [11]) U)<|rP 2 [] I ?_
 refine RK H<|cM U (fun N=>?_) (fun N=>?_)
 ·rw [Bool.not_eq_true'] at N
  refine WS fun _ m=>rP 2 [] I ?_
  refine RK m<|ao<|LX hQ (false,60,0,0,none,0,[]) [] [] I U (by rfl) U U ?_
  exact qL<|j1 (kd B (fun q:fm r=>by exact absurd (q.ins.symm.trans N) dc))
 rw [Bool.not_eq_false'] at N
 refine WK e<|ah fun _ o=>WS fun _ p=>?_
 have OM:(cV r.bV).length=r.aU.length:=by rw [fO]; omega
 refine rP 2 [] I ?_
 refine RK p<|aA ?_
 have A:(0≤r.aU.length)∧(pc r 0):=by exact ⟨Nat.zero_le _,zX⟩
 refine bR (ι:={z:Nat // (z≤r.aU.length)∧(pc r z)}) [1,5,6,60] [3,5,6,7,8,9,10,11,12,13,14] U U (fun z=>[(61,(vI (z.1:Int)))]) (fun z=>[]) (fun _=>rfl) (fun _=>rfl) (fun z=>r.aU.length-z.1) ⟨0,A⟩ (aW U) (aK [3,5,6,7,8,9,10,11,12,13,14]) ?_
 clear A
 rintro ⟨i,⟨K0,J⟩⟩ J28 V
 try dsimp only
 refine WS fun _ s=>rP 1 [] I ?_
 refine RK s<|ah fun _ w=>cM U (aQ fun If=>?_) (aR fun If=>?_)
 ·refine WK w<|ah fun _ W=>aA<|WS fun _ AC=>bh 2 U<|RK AC<|ah fun _ O=>dF cE 24 kr<|dP 2 [] I ?_
  obtain ⟨x,hx⟩:=aM (cV r.bV) i om
  have K5:=bW iC hx
  refine dS (IA i U (ag (n:=r.bV.length) 0 U sq) cy dc om om) ?_
  refine dS (g_ i 0 (vI x) U ct (ag (n:=(cV r.bV).length) 0 U sm) K5 U dc U)<|dP 3 [] I ?_
  refine iY (t:=70) U (bq fun S=>?_) (bp fun S=>?_)
  ·refine lQ 17 U<|cQ<|RK O<|aL U<|WS fun _ AO=>rP 2 [] I ?_
   refine RK AO<|ao<|LX hQ (false,60,0,0,none,0,[]) [] [] I U (by rfl) U U ?_
   exact qL<|j1 (kd B (fun q:fm r=>by exact absurd (q.drawn hx) S))
  refine dP 3 [] I ?_
  refine jL (t:=73) U (aR fun In=>?_) (aQ fun In=>?_)
  ·refine lQ 14 U<|cQ<|RK O<|aS U<|cr<|aF<|KK W<|an<|rP 2 [] I ?_
   refine aG ?_
   have EY:(vI (((i+1):Nat):Int))=(vI ((i:Int)+1)):=by exact cI om
   refine bg (V ⟨(i+1),⟨om,uA J hx S (fun u v hu hv hw=>by omega)⟩⟩ _ _ _ U os (dx 4<|bG U EY<|ee.nil _) (aK [0,1,2,3,4,5,6,7,8,9,10]))
  refine dP 3 [] (mc 1 U I) ?_
  obtain ⟨y,hy⟩:=aM r.aU i om
  have K8:=bW iC hy
  refine dS (IA i U (aJ 7 U) cy dc om om)<|dS (g_ i 0 (vI y) U ct (aJ 7 U) K8 U dc U)<|dP 4 [] (mc 1 U I) ?_
  obtain ⟨z,hz⟩:=aM r.aU (i-1) om
  have LE:=bW iC hz
  refine dS (IA (i-1) U (aJ 7 U) cy dc om om)<|dS (g_ (i-1) 0 (vI z) U ct (aJ 7 U) LE U dc U)<|dP 3 [] I ?_
  refine cQ<|RK O<|bT U (aR fun J2=>?_) (aQ fun J2=>?_)
  ·refine cr<|aF<|KK W<|an<|rP 2 [] I ?_
   refine aG ?_
   have EQ:(vI (((i+1):Nat):Int))=(vI ((i:Int)+1)):=by exact cI om
   refine bg (V ⟨(i+1),⟨om,uA J hx S (fun u v hu hv hw=>by (rw [hy] at hu; cases hu; rw [hz] at hw; cases hw; omega))⟩⟩ _ _ _ rfl os (dx 4<|bG rfl EQ<|ee.nil _) (aK [0,1,2,3,4,5,6,7,8,9,10]))
  refine WS fun _ A0=>rP 2 [] I ?_
  refine RK A0<|ao<|LX hQ (false,60,0,0,none,0,[]) [] [] I U (by rfl) U U ?_
  exact qL<|j1 (kd B (fun q:fm r=>by have q1:=(q.ids i y hy).2 z om hz; omega))
 refine bI<|ae<|ae<|aC<|KK o<|WS fun _ A1=>fr 1 [] (mc 1 U I) U<|rS (SX (aZ (xs:=[(0,.tmp 89)]) (cs:=(eW.cells (eW.mk (oi r kA kC cA cC bA bC slA slC drA drC heA heC) (bk.mk none 0 0) (Value.map none)))) U U (bf Ol U)) U U)<|fY U fun L=>bh 1 U<|RK A1<|ah fun _ A2=>WS fun _ A3=>rP 4 [] (mc 2 U I) ?_
 refine RK A3<|aA<|gI 109 1<|nJ ?_
 have A:(0≤r.aB.length)∧(([]:List RA).length=0)∧(kM r 0):=by exact ⟨Nat.zero_le _,rfl,Bg⟩
 refine bR (ι:={z:Nat×(List RA)×(OA)×Nat // (z.1≤r.aB.length)∧(z.2.1.length=z.1)∧(kM r z.1)}) [1,5,8,93,94] [3,4,5,6,7,8,9,10,11,12,13] U U (fun z=>[(95,(vI (z.1.1:Int)))]) (fun z=>[(bB (aX Ej (g4 r z.1.1) z.1.2.1)),(own z.1.2.2.1 z.1.2.2.2 109 1 (List.map sC (List.zipWith Ei (g4 r z.1.1) z.1.2.1))),(bQ L 112 (eW.cells (eW.mk (oi r kA kC cA cC bA bC slA slC drA drC heA heC) (bk.mk z.1.2.2.1 ((List.zipWith Ei (g4 r z.1.1) z.1.2.1).length) z.1.2.2.2) (Value.map none))))]) (fun _=>rfl) (fun _=>rfl) (fun z=>r.aB.length-z.1.1) ⟨(0,([]:List RA),none,0),A⟩ (aW U) (aK [3,4,5,6,7,8,9,10,11,12,13,0,1,2]) ?_
 clear A
 rintro ⟨⟨h,tz,a,c⟩,⟨T,C,E⟩⟩ J42 Z
 try dsimp only at T C E
 try dsimp only
 refine WS fun _ A4=>rP 1 [] I ?_
 refine RK A4<|ah fun _ A5=>bT U (aR fun J3=>?_) (aQ fun J3=>?_)
 ·refine bI<|ae<|ae<|aC<|KK A2<|ah fun _ Do=>?_
  have Kx:g4 r h=cU r:=by unfold cU; rw [show h=r.aB.length by omega]
  have F2:tz.length=r.aB.length:=by omega
  rw [Kx,Cw,show (List.zipWith Ei (cU r) tz).length=(cU r).length from by rw [List.length_zipWith]; omega]
  have X:fm r:=EK (n:=i) om om om om om N J E om
  refine an<|rP 5 [] (mc 1 U I) ?_
  refine cX (Ki r kA kC az cA cC bA bC slA slC drA drC ha heA heC tz a c (Value.map none) L r.aB.length hin asm om (by exact X.w9)) (kf [3,4,5,6,7,8,9,10]<|al (ag (n:=(cU r).length) 12 U (lK (by rw [Fn]; exact F2)))<|al (cW 11 U qC)<|eL 13 U U<|aD) U fun K L2=>?_
  try dsimp only
  refine rS (SX (bx U U) U U)<|rP 1 [] I ?_
  refine gW (vs:=[(Value.map (some K))]) (cs':=(eW.cells (eW.mk (oi r kA kC cA cC bA bC slA slC drA drC heA heC) (bk.mk a ((cU r).length) c) (Value.map (some K))))) (C':=[_,_,_,_,_,_,_,_,_,_,_,_,_,_,(bQ L 112 (eW.cells (eW.mk (oi r kA kC cA cC bA bC slA slC drA drC heA heC) (bk.mk a ((cU r).length) c) (Value.map (some K)))))]) 14 U U U Hh U U U U U U U<|RK Do<|ah fun _ D8=>?_
  rw [show dV r r.aB.length=ay r from rfl]
  refine an<|rP 3 [] I ?_
  refine RK D8<|ao ?_
  refine LX hQ (true,0,L,K,a,c,tz) [14,13,12,0] [] I U (by (show List.all _ _=true; simp only [cond_true,eo,List.all_nil,zZ,Bool.and_true]; rfl)) U U ?_
  exact ⟨fun _=>⟨Gx B X,F2⟩,LR⟩
 refine WK A5<|ah fun _ A6=>aA<|WS fun _ A7=>?_
 obtain ⟨ht,D⟩:=aM r.aB h om
 obtain ⟨G,AB⟩:=aM ha h om
 have Fd:(List.zipWith cR r.aB ha)[h]? =some (cR ht G):=eu D AB
 refine rS (IA h U (aJ 9 U) sH dc om om)<|rS (g_ h 0 (vS G.1.1 ht.length G.1.2) U ct (aJ 9 U) Fd U dc U)<|rP 1 [] I ?_
 refine RK A7<|ah fun _ A8=>WS fun _ A9=>?_
 have Fa:=hin.oQ _ _ _ D AB
 have Lm:=Fa.o4
 refine rP 4 [] I ?_
 refine RK A9<|cM U (bq fun Y=>?_) (bp fun Y=>?_)
 ·refine WS fun _ B3=>rP 2 [] I ?_
  refine RK B3<|ao<|LX hQ (false,60,0,0,none,0,[]) [] [] I U (by rfl) U U ?_
  exact qL<|j1 (kd B (fun q:fm r=>by have q1:=(q.oQ ht (aT D)).1; omega))
 refine WK A8<|WS fun _ B7=>bh 1 U<|RK B7<|ah fun _ B9=>WS fun _ Ci=>rP 3 [] I ?_
 refine RK Ci<|aA<|gI 45 2 ?_
 have A:(0≤ht.length)∧(ph r.ar ht 0):=by exact ⟨Nat.zero_le _,x_⟩
 refine bR (ι:={z:Nat×(OA)×Nat // (z.1≤ht.length)∧(ph r.ar ht z.1)}) [1,5,8,10,93,94,95,103,104] [1,2,3,4,5,6,7,8,9,10,11,12,13,14] U U (fun z=>[(11,(vS z.1.2.1 (((ht.take z.1.1).map (dA r.ar)).length) z.1.2.2)),(105,(vI (z.1.1:Int)))]) (fun z=>[(own z.1.2.1 z.1.2.2 45 2 (((ht.take z.1.1).map (dA r.ar)).map aa.cells))]) (fun _=>rfl) (fun _=>rfl) (fun z=>ht.length-z.1.1) ⟨(0,none,0),A⟩ (aW U) (aK [1,2,3,4,5,6,7,8,9,10,11,12,13,14,0]) ?_
 clear A
 rintro ⟨⟨j,la,lc⟩,⟨AA,F⟩⟩ J53 b
 try dsimp only at AA F
 try dsimp only
 refine WS fun _ Ck=>rP 1 [] I ?_
 refine RK Ck<|ah fun _ Cp=>bT U (aR fun Id=>?_) (aQ fun Id=>?_)
 ·refine bI<|ae<|ae<|aC<|KK B9<|an<|bh 2 U<|rS (SX (bx U U) U U)<|rP 2 [] (mc 13 U I) ?_
  rw [show ((ht.take j).map (dA r.ar))=ht.map (dA r.ar) from by rw [List.take_of_length_le om]]
  refine rP 1 [] I ?_
  refine cH (xs:=[.tmp 128]) (cs:=[(vS la ((ht.map (dA r.ar)).length) lc)]) U FT MQ U U U U (by simp [Value.cells]) U U fun Ne=>?_
  refine ei (es2:=(List.map sC (List.zipWith Ei (g4 r (h+1)) (tz++[(la,lc)])))) (m':=(List.zipWith Ei (g4 r (h+1)) (tz++[(la,lc)])).length) 13 U U U On U U sm (aV (es:=List.map sC [(bk.mk la ((ht.map (dA r.ar)).length) lc)]) 0 U U (by simp [D6]) U) (KL _) (by rw [List.length_zipWith,mz om]; omega) (by rw [List.length_zipWith,mz om]; simp only [maxLen]; omega) (by rw [yN D C,List.map_append]; rfl) (by rw [yN D C]; simp) U fun P R=>?_
  try dsimp only
  refine rS (SX (bx U U) U U)<|bh 1 U<|gW (vs:=[(vS P ((List.zipWith Ei (g4 r (h+1)) (tz++[(la,lc)])).length) R)]) (cs':=(eW.cells (eW.mk (oi r kA kC cA cC bA bC slA slC drA drC heA heC) (bk.mk P ((List.zipWith Ei (g4 r (h+1)) (tz++[(la,lc)])).length) R) (Value.map none)))) (C':=[_,_,_,_,_,_,_,_,_,_,_,_,_,_,(bQ L 112 (eW.cells (eW.mk (oi r kA kC cA cC bA bC slA slC drA drC heA heC) (bk.mk P ((List.zipWith Ei (g4 r (h+1)) (tz++[(la,lc)])).length) R) (Value.map none)))),_]) 14 U U U Na U U U U U U U<|aG<|aF<|KK A6<|an<|rP 2 [] I ?_
  refine aG<|yl (X':=aX Ej (g4 r (h+1)) (tz++[(la,lc)])) 12 15 U U (Gr (a:=(la,lc)) D C) ?_
  have Eq:(vI (((h+1):Nat):Int))=(vI ((h:Int)+1)):=by exact cI om
  refine bg (Z ⟨((h+1),(tz++[(la,lc)]),P,R),⟨om,by simp; omega,Ag E D (Jl om F om)⟩⟩ _ _ _ U os (dx 5<|bG U Eq<|ee.nil _) (aK [2,3,4,5,6,7,8,9,10,11,12,0,13,14]))
 refine WK Cp<|ah fun _ Cu=>aA<|WS fun _ Cx=>?_
 obtain ⟨d,hd⟩:=aM ht j om
 obtain ⟨da,FS⟩:=aM G.2 j om
 have Kf:(List.zipWith aw.cells ht G.2)[j]? =some (aw.cells d da):=eu hd FS
 refine rS (IA j U (show ju _ (rd G.1.1 ht.length 7 (List.zipWith aw.cells ht G.2)).holds from (eN 10 U (cD D AB cq))) uS dc om om)<|rS (n9 j 0 (br.cells (br.mk d.Out d.fp d.Time (eC.mk d.c_.Start d.c_.iL (bk.mk da.1 d.c_.aj.length da.2)))) U ct (show ju _ (rd G.1.1 ht.length 7 (List.zipWith aw.cells ht G.2)).holds from (eN 10 U (cD D AB cq))) Kf U dc U U)<|AL U GS fun Mi=>fG U LB U<|RK Cx<|WS fun _ C0=>bh 1 U<|rS (LP (cu.cells (ko r.ar kA kC cA cC bA bC)) 2 U ct U U U)<|rP 1 [] (mc 0 U I) ?_
 have Op:=Fa.sig d (aT hd)
 refine rS (CL (Bh r.ar kA kC az cA cC bA bC d da.1 da.2 asm asm) (kf [3,4,5,6,7]<|al (show ju _ (rd da.1 d.c_.aj.length 2 (d.c_.aj.map aH.cells)).holds from (eN 11 U (cD D AB (df _ (cD hd FS (by simp [aw.ja]))))))<|aD) U)<|bh 3 U<|AL U dk fun M2=>fG U cx U<|bh 1 U<|RK C0<|ah fun _ C1=>WS fun _ C2=>rP 2 [] I ?_
 refine RK C2<|bT U (bp fun M=>?_) (bq fun M=>?_)
 ·refine WK C1<|an<|rP 2 [] (mc 0 U I) ?_
  refine cH (xs:=[.tmp 119]) (cs:=(aa.cells (dA r.ar d))) U gS dk U U U U (by simp [Value.cells,aa.aO]) U U fun NE=>?_
  refine ei (es2:=(List.map aa.cells ((ht.take (j+1)).map (dA r.ar)))) (m':=((ht.take (j+1)).map (dA r.ar)).length) 17 U U U yr U U sm (aV (es:=List.map aa.cells [(dA r.ar d)]) 0 U U (by simp [aa.aO]) U) (iI _) (by simp only [List.length_map,List.length_take]; omega) (by simp only [maxLen,List.length_map,List.length_take]; omega) (by rw [List.take_add_one,hd]; simp) sq U fun GT Hi=>?_
  try dsimp only
  refine bh 1 U<|aG<|aF<|KK Cu<|an<|rP 2 [] I ?_
  refine aG ?_
  have Ec:(vI (((j+1):Nat):Int))=(vI ((j:Int)+1)):=by exact cI om
  refine bg (b ⟨((j+1),GT,Hi),⟨om,zc F hd M⟩⟩ _ _ _ U os (dx 10<|bG U Ec<|ee.nil _) (aK [3,4,5,6,7,8,9,10,11,12,13,14,15,16,17]))
 refine WS fun _ Di=>rP 2 [] I ?_
 refine RK Di<|ao<|LX hQ (false,60,0,0,none,0,[]) [] [] I U (by rfl) U U ?_
 exact qL<|j1 (kd B (fun q:fm r=>by exact M ((q.oQ ht (aT D)).2 d (aT hd))))
end
section
open Go.RowKit
theorem Ah (l:List Int) (lA:OA) (lC:Nat) (hlen:l.length=1):
 Dh Tryz.prog 81 [(vS lA 1 lC)] [] (own lA lC 3 1 (l.map iC)) (fun (x:Unit)=>(vS lA 1 lC)) (fun (x:Unit)=>True) (fun (x:Unit)=>(own lA lC 3 1 (l.map iC))):=by
 refine mg kr Tryz.func81 U U fun E Q hQ hN=>?_
 try dsimp only
 refine WS fun _ A=>bh 1 U<|RK A<|ah fun _ D=>WS fun _ B=>bh 2 U<|rS (SX (bP (r:= .bool true) U U U fW) U U)<|RK B<|aL U<|WS fun _ C=>rP 2 [] I ?_
 refine RK C<|ao<|LM hQ () 0 [] I U U U U ?_
 trivial
theorem Au (l:List Int) (lA:OA) (lC:Nat) (hlen:l.length=2):
 Dh Tryz.prog 81 [(vS lA 2 lC)] [] (own lA lC 3 1 (l.map iC)) (fun (x:(List Int))=>(vS lA (E8 l) lC)) (fun (x:(List Int))=>True) (fun (x:(List Int))=>(own lA lC 3 1 (x.map iC))):=by
 refine mg kr Tryz.func81 U U fun c Q hQ hN=>?_
 try dsimp only
 refine WS fun _ M=>bh 1 U<|RK M<|ah fun _ N=>WS fun _ O=>bh 2 U<|rS (SX (bP (r:= .bool false) U U U fW) U U)<|RK O<|aS U<|WK N<|ah fun _ P=>WS fun _ R=>bh 1 U<|RK R<|aA<|iG 3<|dy fun R6 V=>ah fun _ S=>WS fun _ T=>bh 3 U<|rS (SX (bP (r:= .bool true) U U U fW) U U)<|RK T<|aL U<|WK S<|ah fun _ AA=>aA<|ah fun _ B=>dF cE 10 kr<|dP 2 [] I ?_
 obtain ⟨x,hx⟩:=aM l 1 om
 have W:=bW iC hx
 refine dS (IA 1 U (ag (n:=2) 0 U sq) cy dc U om) ?_
 refine dS (g_ 1 0 (vI x) U ct (ag (n:=l.length) 0 U sm) W U dc U)<|dP 2 [] I ?_
 refine dS (SX (bP (r:= .int .i64 0) U U U (pA ⟨dc,dc⟩)) U U) ?_
 obtain ⟨y,hy⟩:=aM l 0 om
 have X:=bW iC hy
 refine dS (IA 0 U (ag (n:=2) 0 U sq) cy dc U om) ?_
 refine dS (g_ 0 0 (vI y) U ct (ag (n:=l.length) 0 U sm) X U dc U)<|dP 1 [] I ?_
 refine cQ<|RK B<|bT U (aR fun A=>?_) (aQ fun A=>?_)
 ·refine cr<|aF<|KK AA<|an<|bh 1 U<|rS (SX (bP (r:= .int .i64 2) U U U (gP ⟨dc,dc⟩)) U U)<|bh 1 U<|RK V<|dy fun R19 b=>ah fun _ Z=>WS fun _ AB=>bh 3 U<|rS (SX (bP (r:= .bool false) U U U fW) U U)<|RK AB<|aS U<|bI<|ae<|ae<|aC<|KK P<|WS fun _ J=>rP 2 [] I ?_
  refine RK J<|ao ?_
  refine LM hQ l 0 [] I U U U ?_ ?_
  ·(rw [yT hlen hy hx A,hlen]; rfl)
  ·trivial
 refine WS fun _ C=>rP 2 [] I ?_
 refine rS (P6 1 U cy U os) ?_
 refine bh 1 U<|RK C<|ah fun _ D=>WS fun _ E=>bh 1 U<|RK E<|aA<|iG 2<|dy fun R14 a=>ah fun _ Y=>WS fun _ F=>rP 4 [] I ?_
 refine RK F<|cM U (aQ fun L=>?_) (aR fun L=>?_)
 ·exfalso; omega
 refine bI<|ae<|ae<|aC<|KK D<|WS fun _ G=>rP 2 [] I ?_
 refine rS (P6 1 U cy U os) ?_
 refine Ir (k:=1) 0 rfl rfl rF (by intro v hv; simp [Value.cells] at hv; subst hv; rfl) rfl os om ?_
 try dsimp only
 rw [show (own lA lC 3 1 ((l.map iC).take 1))=(own lA lC 3 1 ((l.take 1).map iC)) from by rw [List.map_take]]
 refine RK G<|WS fun _ H=>EO 0 U fun K=>?_
 simp only [List.length_map,List.length_take] at K
 refine bh 2 U<|rS (OK 1 U cy U om)<|rP 1 [] I ?_
 refine RK H<|ao ?_
 refine LM hQ (l.take 1) 0 [] I U U U ?_ ?_
 ·(rw [vJ hlen hy hx A]; rfl)
 ·trivial
end
section
open Go.RowKit
theorem vO (r:bX) (kA:OA) (kC:Nat) (az:List RA) (cA:OA) (cC:Nat) (bA:OA) (bC:Nat) (slA:OA) (slC:Nat) (drA:OA) (drC:Nat) (ha:List cL) (heA:OA) (heC:Nat) (a:Int) (gq:Nat) (hin:eF r az ha):
 lq Tryz.prog 49 [(vA (cw.cells (oi r kA kC cA cC bA bC slA slC drA drC heA heC))),(vS (some ⟨gq,0,none⟩) 1 1)] [(rd eB 3 2 dE),(rd kA r.ar.aN.length 9 (r.ar.aN.map ai.cells)),(rd cA r.ar.ak.length 2 (List.zipWith av.cells r.ar.ak az)),(eY (aX av.ja r.ar.ak az)),(rd bA r.ar.ab.length 4 (r.ar.ab.map bM.cells)),(rd slA r.aU.length 1 (r.aU.map iC)),(rd drA r.bV.length 1 (r.bV.map iC)),(rd heA r.aB.length 1 (List.zipWith cR r.aB ha)),(eY (aX jk r.aB ha)),(bQ gq 3 [(vI a)])] (fun (x:Bool×Int×Nat×Nat×(OA)×Nat×(List RA)×(OA)×Nat)=>bif x.1 then (vT [(Value.pointer (some ⟨x.2.2.1,0,none⟩)),(vS x.2.2.2.2.2.2.2.1 1 x.2.2.2.2.2.2.2.2),(vI 0)]) else (vT [(Value.pointer none),(vS none 0 0),(vI x.2.1)])) (fun (x:Bool×Int×Nat×Nat×(OA)×Nat×(List RA)×(OA)×Nat)=>(x.1=true→(km r a=0∧x.2.2.2.2.2.2.1.length=r.aB.length))∧(x.1=false→(x.2.1=km r a∧ ¬ km r a=0))) (fun (x:Bool×Int×Nat×Nat×(OA)×Nat×(List RA)×(OA)×Nat)=>bif x.1 then [(bQ x.2.2.1 112 (eW.cells (eW.mk (oi r kA kC cA cC bA bC slA slC drA drC heA heC) (bk.mk x.2.2.2.2.1 ((cU r).length) x.2.2.2.2.2.1) (Value.map (some x.2.2.2.1))))),(own x.2.2.2.2.1 x.2.2.2.2.2.1 109 1 (List.zipWith DV (cU r) x.2.2.2.2.2.2.1)),(bB (aX Ej (cU r) x.2.2.2.2.2.2.1)),(gQ iV x.2.2.2.1 (bK dm (ay r))),(own x.2.2.2.2.2.2.2.1 x.2.2.2.2.2.2.2.2 45 2 ([(au (ay r) a)].map aa.cells))] else []):=by
 have y:=hin.line
 have B3:=hin.iZ
 have B7:=hin.has
 have A3:=hin.je
 have A2:=hin.draw
 have g:=dT (r:=r)
 refine de kr Tryz.func49 U U fun w0 Q hQ hN=>?_
 try dsimp only
 refine WS fun _ w=>fY U fun b2=>bh 3 U<|RK w<|WS fun _ N=>rP 1 [] (mc 0 U I) ?_
 refine cX (lO r kA kC az cA cC bA bC slA slC drA drC ha heA heC hin) (a_ [1,2,3,4,5,6,7,8,9]) U fun y4 j=>?_
 obtain ⟨k,A9,F,E,m,B,C⟩:=y4
 cases k
 ·obtain ⟨e,he⟩:=j.2 rfl
  try dsimp only at e he
  subst e
  try dsimp only [cond_true,cond_false,List.cons_append,List.nil_append]
  refine bh 5 U<|RK N<|ah fun _ AO=>WS fun _ H=>rP 2 [] I ?_
  refine RK H<|bT U (bp fun G=>?_) (bq fun G=>?_)
  ·exact absurd G he
  refine WS fun _ AB=>rP 4 [] I ?_
  refine RK AB<|ao<|LX hQ (false,(cG r),0,0,none,0,[],none,0) [] [] I U (by rfl) U U ?_
  exact qL<|xJ (HE (i:=a) he) he
 obtain ⟨he,h⟩:=j.1 rfl
 try dsimp only [cond_true,cond_false,List.cons_append,List.nil_append]
 refine bh 5 U<|RK N<|ah fun _ J=>WS fun _ K=>bh 1 U<|rS (SX (bP (r:= .bool false) U U U l9) U U)<|RK K<|aS U<|WK J<|ah fun _ L=>WS fun _ A=>rP 2 [] I ?_
 refine rS (CL (dR.eq (w8 r kA kC az cA cC bA bC slA slC drA drC ha heA heC C m B (Value.map (some E)) F ([a]) (some ⟨gq,0,none⟩) 1 hin (by (simp; done))) cp) (kf [6,7,8,9,10,11,12,13]<|al (ag (n:=(cU r).length) 1 U (lK (by rw [g]; exact h)))<|al (cW 2 U qC)<|eL 0 U U<|al (mI 14 U U (by simp [bu]) U)<|aD) U) ?_
 refine rP 2 [] I ?_
 refine cK (t:=26) U (bq fun v=>?_) (bp fun v=>?_)
 ·refine bh 3 U<|bh 4 U<|bh 2 U<|RK A<|aL U<|WS fun _ M=>rP 3 [] I ?_
  refine RK M<|ao<|LX hQ (false,2,0,0,none,0,[],none,0) [] [] I U (by rfl) U U ?_
  exact qL<|j1 (GX (i:=a) he om)
 refine rP 1 [] I ?_
 refine cX (uq (some ⟨gq,0,none⟩) 1 1) (aD) U fun q A4=>?_
 try dsimp only
 refine cX (t_ ([a]) (some ⟨gq,0,none⟩) 1 q (by (simp; done))) (al (mI 15 U U (by simp [bu]) U)<|eL 0 U U<|aD) U fun AC A5=>?_
 obtain ⟨o,s⟩:=AC
 try dsimp only
 try dsimp only
 refine iy 0 U U U U (Ah (cV ([a])) o s (by (simp; done))) U jN U (fun B9 A6=>?_)
 try dsimp only
 refine bh 3 U<|rS (SX (bP (r:= .bool false) U U U fW) U U)<|bh 1 U<|RK A<|aS U<|WK L<|WS fun _ O=>bh 1 U<|RK O<|ah fun _ P=>WS fun _ R=>bh 3 U<|RK R<|aA<|iG 2<|dy fun R33 d=>WS fun _ S=>rS (SX (bP (r:= .bool true) U U U fW) U U)<|RK S<|ah fun _ T=>aL U<|WK T<|ah fun _ AA=>aA<|WS fun _ V=>rS (Ow 0 0 U cy U dc U)<|fr 2 [] (mr 16 U I) U<|RK V<|WS fun _ W=>bh 1 U<|rS (SX (bx U U) U U)<|fr 3 [] (mc 2 U I) U<|rS (SX (jM (kV:=iV) (x:=a) (l:=(ay r)) (f:=dm) (z:=(aa.mk 0 0)) U U U lP (dJ og) uh (by exact aJ 5 U)) U U)<|bh 3 U<|AL U dk fun A7=>fG U cx U<|rP 1 [] I ?_
 refine RK W<|ah fun _ X=>WS fun _ Y=>?_
 rw [show ((List.lookup a (ay r)).getD (aa.mk 0 0))=(au (ay r) a) from rfl]
 refine rP 2 [] I ?_
 refine RK Y<|cM U (fun D=>?_) (fun D=>?_)
 ·rw [Bool.not_eq_true'] at D
  refine WS fun _ Z=>rP 3 [] I ?_
  refine RK Z<|ao<|LX hQ (false,6,0,0,none,0,[],none,0) [] [] I U (by rfl) U U ?_
  exact qL<|j1 (DA (i:=a) he om asm)
 rw [Bool.not_eq_false'] at D
 refine WK X<|an<|rP 2 [] (mc 0 U I) ?_
 refine cH (xs:=[.tmp 54]) (cs:=(aa.cells (au (ay r) a))) U gS dk U U U U (by simp [Value.cells,aa.aO]) U U fun A8=>dY 45 2<|ei (es2:=(List.map aa.cells ([(au (ay r) a)]))) (m':=([(au (ay r) a)]).length) 0 U U U yr U U sm (aV (es:=List.map aa.cells [(au (ay r) a)]) 1 U U (by simp [aa.aO]) U) (iI _) sm (by simp [maxLen]) sm sm U fun p u=>?_
 try dsimp only
 refine bh 1 U<|aG<|aF<|KK AA<|an<|rS (SX (bP (r:= .int .i64 1) U U U (gP ⟨dc,dc⟩)) U U)<|bh 1 U<|RK d<|dy fun R46 A1=>WS fun _ b=>rS (SX (bP (r:= .bool false) U U U fW) U U)<|RK b<|ah fun _ A0=>aS U<|bI<|ae<|ae<|aC<|KK P<|WS fun _ c=>rP 5 [] I ?_
 refine RK c<|ao ?_
 refine LX hQ (true,0,F,E,m,B,C,p,u) [5,6,7,8,0] [] I U (by (show List.all _ _=true; simp only [cond_true,eo,List.all_nil,zZ,Bool.and_true]; rfl)) U U ?_
 exact ⟨fun _=>⟨Jx he om asm,h⟩,LR⟩
end
section
open Go.RowKit
theorem vo (r:bX) (kA:OA) (kC:Nat) (az:List RA) (cA:OA) (cC:Nat) (bA:OA) (bC:Nat) (slA:OA) (slC:Nat) (drA:OA) (drC:Nat) (ha:List cL) (heA:OA) (heC:Nat) (a b:Int) (gq:Nat) (hin:eF r az ha):
 lq Tryz.prog 49 [(vA (cw.cells (oi r kA kC cA cC bA bC slA slC drA drC heA heC))),(vS (some ⟨gq,0,none⟩) 2 2)] [(rd eB 3 2 dE),(rd kA r.ar.aN.length 9 (r.ar.aN.map ai.cells)),(rd cA r.ar.ak.length 2 (List.zipWith av.cells r.ar.ak az)),(eY (aX av.ja r.ar.ak az)),(rd bA r.ar.ab.length 4 (r.ar.ab.map bM.cells)),(rd slA r.aU.length 1 (r.aU.map iC)),(rd drA r.bV.length 1 (r.bV.map iC)),(rd heA r.aB.length 1 (List.zipWith cR r.aB ha)),(eY (aX jk r.aB ha)),(bQ gq 3 [(vI a),(vI b)])] (fun (x:Bool×Int×Nat×Nat×(OA)×Nat×(List RA)×(OA)×Nat)=>bif x.1 then (vT [(Value.pointer (some ⟨x.2.2.1,0,none⟩)),(vS x.2.2.2.2.2.2.2.1 2 x.2.2.2.2.2.2.2.2),(vI 0)]) else (vT [(Value.pointer none),(vS none 0 0),(vI x.2.1)])) (fun (x:Bool×Int×Nat×Nat×(OA)×Nat×(List RA)×(OA)×Nat)=>(x.1=true→(lk r a b=0∧x.2.2.2.2.2.2.1.length=r.aB.length))∧(x.1=false→(x.2.1=lk r a b∧ ¬ lk r a b=0))) (fun (x:Bool×Int×Nat×Nat×(OA)×Nat×(List RA)×(OA)×Nat)=>bif x.1 then [(bQ x.2.2.1 112 (eW.cells (eW.mk (oi r kA kC cA cC bA bC slA slC drA drC heA heC) (bk.mk x.2.2.2.2.1 ((cU r).length) x.2.2.2.2.2.1) (Value.map (some x.2.2.2.1))))),(own x.2.2.2.2.1 x.2.2.2.2.2.1 109 1 (List.zipWith DV (cU r) x.2.2.2.2.2.2.1)),(bB (aX Ej (cU r) x.2.2.2.2.2.2.1)),(gQ iV x.2.2.2.1 (bK dm (ay r))),(own x.2.2.2.2.2.2.2.1 x.2.2.2.2.2.2.2.2 45 2 ([(au (ay r) a),(au (ay r) b)].map aa.cells))] else []):=by
 have A8:=hin.line
 have EY:=hin.iZ
 have Ec:=hin.has
 have Ck:=hin.je
 have Ci:=hin.draw
 have v:=dT (r:=r)
 refine de kr Tryz.func49 U U fun w0 Q hQ hN=>?_
 try dsimp only
 refine WS fun _ A7=>fY U fun b2=>bh 3 U<|RK A7<|WS fun _ N=>rP 1 [] (mc 0 U I) ?_
 refine cX (lO r kA kC az cA cC bA bC slA slC drA drC ha heA heC hin) (a_ [1,2,3,4,5,6,7,8,9]) U fun y4 y=>?_
 obtain ⟨AC,D8,F,E,AO,C,D⟩:=y4
 cases AC
 ·obtain ⟨u,he⟩:=y.2 rfl
  try dsimp only at u he
  subst u
  try dsimp only [cond_true,cond_false,List.cons_append,List.nil_append]
  refine bh 5 U<|RK N<|ah fun _ B3=>WS fun _ H=>rP 2 [] I ?_
  refine RK H<|bT U (bp fun G=>?_) (bq fun G=>?_)
  ·exact absurd G he
  refine WS fun _ AB=>rP 4 [] I ?_
  refine RK AB<|ao<|LX hQ (false,(cG r),0,0,none,0,[],none,0) [] [] I U (by rfl) U U ?_
  exact qL<|xJ (GA (a:=a) (b:=b) he) he
 obtain ⟨he,w⟩:=y.1 rfl
 try dsimp only [cond_true,cond_false,List.cons_append,List.nil_append]
 refine bh 5 U<|RK N<|ah fun _ J=>WS fun _ K=>bh 1 U<|rS (SX (bP (r:= .bool false) U U U l9) U U)<|RK K<|aS U<|WK J<|ah fun _ L=>WS fun _ B=>rP 2 [] I ?_
 refine rS (CL (dR.eq (w8 r kA kC az cA cC bA bC slA slC drA drC ha heA heC D AO C (Value.map (some E)) F ([a,b]) (some ⟨gq,0,none⟩) 2 hin (by (simp; done))) pn) (kf [6,7,8,9,10,11,12,13]<|al (ag (n:=(cU r).length) 1 U (lK (by rw [v]; exact w)))<|al (cW 2 U qC)<|eL 0 U U<|al (mI 14 U U (by simp [bu]) U)<|aD) U) ?_
 refine rP 2 [] I ?_
 refine cK (t:=26) U (bq fun A5=>?_) (bp fun A5=>?_)
 ·refine bh 3 U<|bh 4 U<|bh 2 U<|RK B<|aL U<|WS fun _ M=>rP 3 [] I ?_
  refine RK M<|ao<|LX hQ (false,2,0,0,none,0,[],none,0) [] [] I U (by rfl) U U ?_
  exact qL<|j1 (zr (a:=a) (b:=b) he om)
 refine rP 1 [] I ?_
 refine cX (uq (some ⟨gq,0,none⟩) 2 2) (aD) U fun A2 Cp=>?_
 try dsimp only
 refine cX (t_ ([a,b]) (some ⟨gq,0,none⟩) 2 A2 (by (simp; done))) (al (mI 15 U U (by simp [bu]) U)<|eL 0 U U<|aD) U fun A9 Cu=>?_
 obtain ⟨A0,A3⟩:=A9
 try dsimp only
 try dsimp only
 refine iy 0 U U U U (Au (cV ([a,b])) A0 A3 (by (simp; done))) U jN U (fun Eq Cx=>?_)
 try dsimp only
 refine rP 3 [] I ?_
 have EQ:=E1 a b
 refine rP 2 [] I ?_
 refine RK B<|cM U (aQ fun A6=>?_) (aR fun A6=>?_)
 ·refine WS fun _ O=>rP 3 [] I ?_
  refine RK O<|ao<|LX hQ (false,2,0,0,none,0,[],none,0) [] [] I U (by rfl) U U ?_
  exact qL<|j1 (zr (a:=a) (b:=b) he om)
 refine WK L<|WS fun _ P=>bh 1 U<|RK P<|ah fun _ R=>WS fun _ S=>bh 3 U<|RK S<|aA<|iG 3<|dy fun R35 q=>WS fun _ T=>rS (SX (bP (r:= .bool true) U U U fW) U U)<|RK T<|ah fun _ AA=>aL U<|WK AA<|ah fun _ V=>aA<|WS fun _ W=>rS (Ow 0 0 U cy U dc U)<|fr 2 [] (mr 16 U I) U<|RK W<|WS fun _ X=>bh 1 U<|rS (SX (bx U U) U U)<|fr 3 [] (mc 2 U I) U<|rS (SX (jM (kV:=iV) (x:=a) (l:=(ay r)) (f:=dm) (z:=(aa.mk 0 0)) U U U lP (dJ og) uh (by exact aJ 5 U)) U U)<|bh 3 U<|AL U dk fun C1=>fG U cx U<|rP 1 [] I ?_
 refine RK X<|ah fun _ Y=>WS fun _ Z=>?_
 rw [show ((List.lookup a (ay r)).getD (aa.mk 0 0))=(au (ay r) a) from rfl]
 refine rP 2 [] I ?_
 refine RK Z<|cM U (fun A=>?_) (fun A=>?_)
 ·rw [Bool.not_eq_true'] at A
  refine WS fun _ c=>rP 3 [] I ?_
  refine RK c<|ao<|LX hQ (false,6,0,0,none,0,[],none,0) [] [] I U (by rfl) U U ?_
  exact qL<|j1 (vD (a:=a) (b:=b) he om (by exact .inl asm))
 rw [Bool.not_eq_false'] at A
 refine WK Y<|an<|rP 2 [] (mc 0 U I) ?_
 refine cH (xs:=[.tmp 54]) (cs:=(aa.cells (au (ay r) a))) U gS dk U U U U (by simp [Value.cells,aa.aO]) U U fun C2=>dY 45 2<|ei (es2:=(List.map aa.cells ([(au (ay r) a)]))) (m':=([(au (ay r) a)]).length) 0 U U U yr U U sm (aV (es:=List.map aa.cells [(au (ay r) a)]) 1 U U (by simp [aa.aO]) U) (iI _) sm (by simp [maxLen]) sm sm U fun C0 Do=>?_
 try dsimp only
 refine bh 1 U<|aG<|aF<|KK V<|an<|rS (SX (bP (r:= .int .i64 1) U U U (gP ⟨dc,dc⟩)) U U)<|bh 1 U<|RK q<|dy fun R48 s=>WS fun _ d=>rS (SX (bP (r:= .bool true) U U U fW) U U)<|RK d<|ah fun _ e=>aL U<|WK e<|ah fun _ g=>aA<|WS fun _ h=>rS (Ow 1 1 U cy U dc U)<|fr 2 [] (mr 19 U I) U<|RK h<|WS fun _ i=>bh 1 U<|rS (SX (bx U U) U U)<|fr 3 [] (mc 5 U I) U<|rS (SX (jM (kV:=iV) (x:=b) (l:=(ay r)) (f:=dm) (z:=(aa.mk 0 0)) U U U lP (dJ og) uh (by exact aJ 8 U)) U U)<|bh 3 U<|AL U dk fun DU=>fG U cx U<|rP 1 [] I ?_
 refine RK i<|ah fun _ j=>WS fun _ k=>?_
 rw [show ((List.lookup b (ay r)).getD (aa.mk 0 0))=(au (ay r) b) from rfl]
 refine rP 2 [] I ?_
 refine RK k<|cM U (fun A=>?_) (fun A=>?_)
 ·rw [Bool.not_eq_true'] at A
  refine WS fun _ m=>rP 3 [] I ?_
  refine RK m<|ao<|LX hQ (false,6,0,0,none,0,[],none,0) [] [] I U (by rfl) U U ?_
  exact qL<|j1 (vD (a:=a) (b:=b) he om (by exact .inr asm))
 rw [Bool.not_eq_false'] at A
 refine WK j<|an<|rP 2 [] (mc 0 U I) ?_
 refine cH (xs:=[.tmp 54]) (cs:=(aa.cells (au (ay r) b))) U gS dk U U U U (by simp [Value.cells,aa.aO]) U U fun Di=>ei (es2:=(List.map aa.cells ([(au (ay r) a),(au (ay r) b)]))) (m':=([(au (ay r) a),(au (ay r) b)]).length) 2 U U U yr U U sm (aV (es:=List.map aa.cells [(au (ay r) b)]) 0 U U (by simp [aa.aO]) U) (iI _) sm (by simp [maxLen]) sm sm U fun A1 A4=>?_
 try dsimp only
 refine bh 1 U<|aG<|aF<|KK g<|an<|rS (SX (bP (r:= .int .i64 2) U U U (gP ⟨dc,dc⟩)) U U)<|bh 1 U<|RK s<|dy fun R61 B9=>WS fun _ o=>rS (SX (bP (r:= .bool false) U U U fW) U U)<|RK o<|ah fun _ B7=>aS U<|bI<|ae<|ae<|aC<|KK R<|WS fun _ p=>rP 5 [] I ?_
 refine RK p<|ao ?_
 refine LX hQ (true,0,F,E,AO,C,D,A1,A4) [7,8,9,10,2] [] I U (by (show List.all _ _=true; simp only [cond_true,eo,List.all_nil,zZ,Bool.and_true]; rfl)) U U ?_
 exact ⟨fun _=>⟨JG he om asm asm,w⟩,LR⟩
end
section
open Go.RowKit
theorem Fz (m:oD) (gm g1:Nat):
 zY Tryz.prog 119 [] [(vP g1)] [(gQ iV gm (bK vB m)),(bQ g1 47 [(Value.map (some gm))])] ([]:List Int) (fun ys x ys'=> ∃ n zs,(ys++[n]++zs).Perm (m.map (·.1))∧x=[vI n]∧ys'=ys++[n]) (fun ys=>ys.Perm (m.map (·.1))):=by
 refine qq kr Tryz.func119 U U fun l J Z A0 S Q hY M L hQ hN=>?_
 try dsimp only
 refine WS fun _ O=>rP 1 [] (mr 2 U I) ?_
 refine jl (kV:=iV) (m:=bK vB m) 1 U U yF U ⟨U,fun h=>h⟩ (by exact j4 1 U) U fun V=>?_
 try dsimp only
 refine RK O<|aA ?_
 have G:(m8 m m ([]:List Int))∧(∀ p∈m,p∈m)∧(J ([]:List Int) A0)∧(Fo A0 S A0):=by exact ⟨rH,fun p hp=>hp,M,L⟩
 refine bR (ι:={z:oD×(List Int)×aq // (m8 m z.1 z.2.1)∧(∀ p∈z.1,p∈m)∧(J z.2.1 z.2.2)∧(Fo A0 S z.2.2)}) [0,1,5] [2,3] U U (fun z=>[]) (fun z=>[(wc iV V gm (bK vB m) (bK vB z.1.1) none),z.1.2.2]) (fun _=>rfl) (fun _=>rfl) (fun z=>z.1.1.length) ⟨(m,([]:List Int),A0),G⟩ (ee.nil _) (aK [2,3,0,1]) ?_
 clear G
 rintro ⟨⟨left,ys,A⟩,⟨B,H,C,D⟩⟩ J3 N
 try dsimp only at B H C D
 try dsimp only
 refine WS fun _ AB=>iq (dJ og).inj (f:=Value.bool) 2 U U U U (fun T=>?_) (fun x y hm hn=>?_)
 ·refine rP 1 [] I ?_
  refine RK AB<|ah fun _ AA=>aS U<|bI<|ae<|ae<|aC ?_
  refine hN _ _ _ (gp (vs:=[]) trivial fun w hs=>Fs 3 U (by rw [T] at B; exact tx B) C D hs)
 try dsimp only
 refine bh 1 U<|RK AB<|ah fun _ P=>aL U<|WK P<|aA<|WS fun _ R=>rS (SX (il 2 U U U) U U)<|bh 2 U<|RK R<|WS fun _ K=>rP 2 [] I ?_
 refine jA (k:=ys) (k':=(ys++[(x)])) 3 (by first|exact hsz|exact Nat.le_refl _) hY C D U U U (by exact ⟨x,_,mR hn hm B,U,U⟩) U U (fun B9 F E=>?_) (fun B9 F E=>?_)
 rotate_left 1
 ·refine rP 1 [] I ?_
  refine RK K<|aL U<|ao ?_
  refine hQ _ _ _ (gp (vs:=[]) trivial fun w hs=>pH 3 U F E hs)
 refine rP 1 [] I ?_
 refine RK K<|aS U<|cr<|aF<|gi 2 U eQ U ?_
 refine bg (N ⟨((bY left x),(ys++[(x)]),B9),⟨mR hn hm B,e_ H,F,E⟩⟩ _ _ _ U (er hm) (aW U) (aK [0,1,2,3]))
theorem Iq (gm:Nat):
 lq Tryz.prog 84 [(Value.map (some gm))] [] (fun (x:Nat)=>(Value.func (.func 119) [].toArray [(vP x)].toArray)) (fun (x:Nat)=>True) (fun (x:Nat)=>[(bQ x 47 [(Value.map (some gm))])]):=by
 refine de kr Tryz.func84 U U fun D Q hQ hN=>?_
 try dsimp only
 refine WS fun _ A=>qM U U fun C=>bh 1 U<|RK A<|WS fun _ B=>rS (FU U)<|rP 1 [] I ?_
 refine RK B<|ao<|LX hQ C [0] [] I U U U U ?_
 trivial
end
section
open Go.RowKit
theorem Dv (m:oD) (gm g1:Nat) (hlen:m.length≤12):
 lq Tryz.prog 120 [(vS none 0 0),(Value.func (.func 119) [].toArray [(vP g1)].toArray)] [(gQ iV gm (bK vB m)),(bQ g1 47 [(Value.map (some gm))])] (fun (x:(List Int)×(OA)×Nat)=>(vS x.2.1 x.1.length x.2.2)) (fun (x:(List Int)×(OA)×Nat)=>x.1.Perm (m.map (·.1))) (fun (x:(List Int)×(OA)×Nat)=>[(own x.2.1 x.2.2 3 1 (x.1.map iC))]):=by
 refine de kr Tryz.func120 U U fun X Q hQ hN=>?_
 try dsimp only
 refine WS fun _ AB=>qM U U fun N=>bh 1 U<|RK AB<|ah fun _ J=>WS fun _ K=>rP 1 [] I ?_
 refine RK K<|aA<|jC 1 U (by exact fun _ h=>h)<|jC 3 U (by exact fun _ h=>h)<|gI 3 1 ?_
 refine l4 (L0:=[(2,(vP N))]) (F:=[(gQ iV gm (bK vB m)).ro,(bQ g1 47 [(Value.map (some gm))]).ro]) (fun k (y:(OA)×Nat)=>(∃ zs,(k++zs).Perm (m.map (·.1)))) (fun k y=>[(own y.1 y.2 3 1 (k.map iC)),(bQ N 29 [(vS y.1 k.length y.2)]),(gQ iV gm (bK vB m)).ro]) (fun _ (_:Unit)=>False) (fun _ _=>[]) [0,3,4] [2,1] (none,0) rfl rfl (Fz m gm g1) rfl rfl rfl (by exact ⟨_,List.Perm.refl _⟩) (by simp only [List.forall_mem_cons,List.not_mem_nil,false_imp_iff,implies_true,and_true]; exact ⟨⟨_,sm,(eH (bU _))⟩,⟨_,sm,(eH (bU _))⟩⟩) (by rintro k x AA ⟨n,zs,_,rfl,_⟩; rfl) rfl (aW rfl) ?_ ?_ (fun _ _ _ h=>h.elim) (fun _ _ h=>h.elim)
 rotate_left 1
 ·rintro V k ⟨a,c⟩ E A
  have B:=A
  try dsimp only at B
  try dsimp only
  refine aF<|KK J<|WS fun _ C=>rP 2 [] (mc 4 U I) ?_
  refine RK C<|ao<|hQ _ _ _ (nc 0 U U<|gp (vs:=[(vS a k.length c)]) ⟨U,trivial⟩ fun w hs=>ER (k,a,c) [3] ?_ ?_ U U U hs)
  ·rfl
  ·first|exact E|exact hys
 rintro k x AA ⟨a,c⟩ l ra rb S Y K5 Qr6 T hx G L D O P
 obtain ⟨n,zs,hn,rfl,rfl⟩:=hx; have M:=hn.length_eq; simp only [List.length_append,List.length_map,List.length_singleton] at M
 have B:=G
 try dsimp only at B
 try dsimp only
 refine an<|rP 1 [] I ?_
 refine aG<|bg (L _ _ ?_)
 refine aA<|an<|rP 2 [] (mc 2 U I) ?_
 refine cH (xs:=[.tmp 9]) (cs:=[(vI n)]) U cy hE U U U U (by simp [Value.cells]) U U fun W=>?_
 refine ei (es2:=(List.map iC (k++[n]))) (m':=(k++[n]).length) 2 U U U rF U U sm (aV (es:=List.map iC [n]) 0 U U (by simp [bu]) U) (ly _) os (by simp only [maxLen]; omega) sm sm U fun R H=>?_
 try dsimp only
 refine PY U wm U U<|aG<|aF ?_
 exact D (R,H) _ _ (by exact ⟨_,hn⟩) (aK [1,2,3,4])
end
section
open Go.RowKit
theorem Ap (m:oD) (gm g1:Nat) (hlen:m.length≤12):
 lq Tryz.prog 85 [(Value.func (.func 119) [].toArray [(vP g1)].toArray)] [(gQ iV gm (bK vB m)),(bQ g1 47 [(Value.map (some gm))])] (fun (x:(List Int)×(OA)×Nat)=>(vS x.2.1 x.1.length x.2.2)) (fun (x:(List Int)×(OA)×Nat)=>x.1.Perm (m.map (·.1))) (fun (x:(List Int)×(OA)×Nat)=>[(own x.2.1 x.2.2 3 1 (x.1.map iC))]):=by
 refine de kr Tryz.func85 U U fun AA Q hQ hN=>?_
 try dsimp only
 refine WS fun _ A=>bh 1 U<|RK A<|WS fun _ B=>rP 1 [] I ?_
 refine cX (Dv m gm g1 hlen) (a_ [0,1]) U fun H C=>?_
 obtain ⟨E,F,G⟩:=H
 try dsimp only
 have D:=C
 refine rP 1 [] I ?_
 refine RK B<|ao<|LX hQ (E,F,G) [0] [] I U U U U ?_
 first|exact hfin|exact D
theorem C8 (m:oD) (gm g1:Nat) (hlen:m.length≤12):
 lq Tryz.prog 51 [(Value.func (.func 119) [].toArray [(vP g1)].toArray)] [(gQ iV gm (bK vB m)),(bQ g1 47 [(Value.map (some gm))])] (fun (x:(OA)×Nat)=>(vS x.1 m.length x.2)) (fun (x:(OA)×Nat)=>True) (fun (x:(OA)×Nat)=>[(own x.1 x.2 3 1 ((cV (m.map (·.1))).map iC))]):=by
 refine de kr Tryz.func51 U U fun M Q hQ hN=>?_
 try dsimp only
 refine WS fun _ E=>bh 1 U<|RK E<|WS fun _ F=>rP 1 [] I ?_
 refine cX (Ap m gm g1 hlen) (a_ [0,1]) U fun L H=>?_
 obtain ⟨AA,J,K⟩:=L
 try dsimp only
 have D:=H
 refine bh 1 U<|RK F<|WS fun _ G=>rP 1 [] I ?_
 have B:=D.length_eq
 simp only [List.length_map] at B
 refine iy 0 U U U U (wJ AA J K om) U jN U (fun ms C=>?_)
 try dsimp only
 refine RK G<|WS fun _ A=>?_
 obtain rfl:=ou (C.1.trans D) C.2
 skip
 refine rP 2 [] I ?_
 refine RK A<|ao ?_
 refine LX hQ (J,K) [0] [] I U U U ?_ ?_
 ·first|rfl|(rw [B]; rfl)
 ·trivial
end
section
open Go.RowKit
theorem E7 (m:oD) (gm:Nat):
 lq Tryz.prog 82 [(Value.map (some gm))] [(gQ iV gm (bK vB m))] (fun (x:Nat)=>(Value.map (some x))) (fun (x:Nat)=>True) (fun (x:Nat)=>[(gQ iV x (bK vB m))]):=by
 refine de PW Tryz.func82 U U fun F Q hQ hN=>?_
 try dsimp only
 refine WS fun _ A=>bh 1 U<|RK A<|ah fun _ B=>WS fun _ C=>bh 1 U<|rS (SX (bP (r:= .bool false) U U U (KH yF)) U U)<|RK C<|aS U<|WK B<|WS fun _ D=>rP 1 [] I ?_
 refine rS (SX (HZ U U yF) U U)<|F3 (kV:=iV) (fn:=Tryz.f117) U U Tryz.func117 U U U kr (by exact j4 0 U) U fun E=>?_
 try dsimp only
 refine rS (SX (Nv U U yF) U U)<|rP 1 [] I ?_
 refine RK D<|ao<|LX hQ E [0] [] I U U U U ?_
 trivial
end
end Go.Proofs.YtlajhejcfcoddaaGreatDoor
