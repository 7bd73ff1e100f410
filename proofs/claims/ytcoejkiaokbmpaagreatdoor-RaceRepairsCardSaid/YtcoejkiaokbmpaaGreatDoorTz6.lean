/-
 The statement raceRepairs_said, part 6 of 8: B5, B6, Rc1, Frozen, Marks, Follow, OpenM, V2, V1, V4, V3, V5, V6, V8, Wh2, Rc2, Rc3, Rc4, Rs1, Rs2, Rs3, Rs4, RkS, RaS, RtS, Rx1, Rx3, B10, WLe, Z1.
 Conditions: none.
-/
import Derived.Test.YtcoejkiaokbmpaaGreatDoorTz1
import Derived.Test.YtcoejkiaokbmpaaGreatDoorTz2
import Derived.Test.YtcoejkiaokbmpaaGreatDoorTz3
import Derived.Test.YtcoejkiaokbmpaaGreatDoorTz4
import Derived.Test.YtcoejkiaokbmpaaGreatDoorTz5
namespace Go.Proofs.YtcoejkiaokbmpaaGreatDoor
set_option maxRecDepth 100000
set_option maxHeartbeats 4000000
set_option linter.unusedVariables false
section
open Go.RowKit
theorem OQ (l:aW) (kA:OA) (kC:Nat) (az:List RA) (cA:OA) (cC:Nat) (bA:OA) (bC:Nat) (hin:ej l az):
 eA Tryz.prog 127 [(vA (bT.cells (kH l kA kC cA cC bA bC)))] [(rd kA l.aM.length 9 (l.aM.map al.cells)),(rd cA l.aj.length 2 (List.zipWith ao.cells l.aj az)),(eH (aU ao.gh l.aj az)),(rd bA l.ae.length 4 (l.ae.map bI.cells))] (vB (decide (gi l))):=by
 have R:=hin.rK
 have P:=hin.rD
 have N:=hin.mE
 have O:=hin.ry
 refine bH kr Tryz.func127 U U fun T Q hQ hN=>?_
 try dsimp only
 refine WS fun _ G=>fm U fun S=>aY 1 U<|RK G<|WS fun _ A=>rP 2 [] (mc 0 U mn) ?_
 refine eX (xs:=[.tmp 4]) (cs:=[(vI l.gG)]) U di lh U U U U (by simp [Value.cells]) U U fun H=>?_
 refine rS (CL (eA.eq (iD 1 5000 ([l.gG]) (some ⟨H,0,none⟩) 1 (by (simp; done))) dj) (aC (a_ 0 U U (by simp [bU]) U)<|aS) U) ?_
 refine rP 1 [] mn ?_
 refine cv (t:=7) U (aQ fun K=>?_) (aP fun K=>?_)
 ·refine rP 36 [] mn ?_
  refine RK A<|an<|Q1 hQ U U U ?_
  exact cB (bD (by unfold gi; omega)).symm
 refine rP 3 [] (mc 1 U mn) ?_
 refine eX (xs:=[.tmp 10]) (cs:=[(vI (l.aj.length:Int))]) U di lh U U U U (by simp [Value.cells]) U U fun AA=>?_
 refine rS (CL (eA.eq (iD 1 4 ([(l.aj.length:Int)]) (some ⟨AA,0,none⟩) 1 (by (simp; done))) dj) (aC (a_ 0 U U (by simp [bU]) U)<|aS) U) ?_
 refine rP 2 [] mn ?_
 refine cv (t:=14) U (aQ fun L=>?_) (aP fun L=>?_)
 ·refine rP 29 [] mn ?_
  refine RK A<|an<|Q1 hQ U U U ?_
  exact cB (bD (by unfold gi; omega)).symm
 refine rP 3 [] (mc 2 U mn) ?_
 refine eX (xs:=[.tmp 17]) (cs:=[(vI (l.ae.length:Int))]) U di lh U U U U (by simp [Value.cells]) U U fun J=>?_
 refine rS (CL (eA.eq (iD 1 6 ([(l.ae.length:Int)]) (some ⟨J,0,none⟩) 1 (by (simp; done))) dj) (aC (a_ 0 U U (by simp [bU]) U)<|aS) U) ?_
 refine rP 2 [] mn ?_
 refine cv (t:=21) U (aQ fun M=>?_) (aP fun M=>?_)
 ·refine rP 22 [] mn ?_
  refine RK A<|an<|Q1 hQ U U U ?_
  exact cB (bD (by unfold gi; omega)).symm
 refine rP 6 [] (mc 3 U mn) ?_
 refine eX (xs:=[.tmp 27]) (cs:=[(vI l.cG)]) U di lh U U U U (by simp [Value.cells]) U U fun B=>?_
 refine rS (CL (eA.eq (iD 0 ((l.ae.length:Int)-1) ([l.cG]) (some ⟨B,0,none⟩) 1 (by (simp; done))) dj) (aC (a_ 0 U U (by simp [bU]) U)<|aS) U) ?_
 refine rP 2 [] mn ?_
 refine cv (t:=31) U (aQ fun E=>?_) (aP fun E=>?_)
 ·refine rP 12 [] mn ?_
  refine RK A<|an<|Q1 hQ U U U ?_
  exact cB (bD (by unfold gi; omega)).symm
 refine rP 2 [] (mc 4 U mn) ?_
 refine eX (xs:=[.tmp 33]) (cs:=[(vI l.eg)]) U di lh U U U U (by simp [Value.cells]) U U fun C=>?_
 refine rS (CL (eA.eq (iD 0 3 ([l.eg]) (some ⟨C,0,none⟩) 1 (by (simp; done))) dj) (aC (a_ 0 U U (by simp [bU]) U)<|aS) U) ?_
 refine rP 2 [] mn ?_
 refine cv (t:=37) U (aQ fun F=>?_) (aP fun F=>?_)
 ·refine rP 6 [] mn ?_
  refine RK A<|an<|Q1 hQ U U U ?_
  exact cB (bD (by unfold gi; omega)).symm
 refine rP 2 [] (mc 5 U mn) ?_
 refine eX (xs:=[.tmp 39]) (cs:=[(vI l.cN)]) U di lh U U U U (by simp [Value.cells]) U U fun D=>?_
 refine rS (CL (eA.eq (iD 0 3 ([l.cN]) (some ⟨D,0,none⟩) 1 (by (simp; done))) dj) (aC (a_ 0 U U (by simp [bU]) U)<|aS) U) ?_
 refine rP 2 [] mn ?_
 refine RK A<|an<|Q1 hQ U U U ?_
 exact cB (decide_eq_decide.2 (by unfold gi; omega))
theorem Ok (l:aW) (kA:OA) (kC:Nat) (az:List RA) (cA:OA) (cC:Nat) (bA:OA) (bC:Nat) (hin:ej l az):
 eA Tryz.prog 129 [(vA (bT.cells (kH l kA kC cA cC bA bC)))] [(rd kA l.aM.length 9 (l.aM.map al.cells)),(rd cA l.aj.length 2 (List.zipWith ao.cells l.aj az)),(eH (aU ao.gh l.aj az)),(rd bA l.ae.length 4 (l.ae.map bI.cells))] (vB (decide (∀ c∈l.aj,eL c))):=by
 have H:=hin.rK
 have G:=hin.rD
 have E:=hin.mE
 have F:=hin.ry
 refine bH kr Tryz.func129 U U fun K Q hQ hN=>?_
 try dsimp only
 refine WS fun _ C=>fm U fun J=>aY 1 U<|RK C<|WS fun _ D=>rP 2 [] (mc 0 U mn) ?_
 refine rS (CL (zR l.aj az cA cC (Value.func (.func 131) [].toArray [].toArray) (fun m=>(!(decide (eL m)))) (eH (aU ao.gh l.aj az)) (by intro AA m a B A; exact ov (fi:=[]) (ca:=[]) (P2 l.aj az AA m a (by exact B) (by exact A) (by exact hin.PY _ _ _ B A))) asm asm) (MH 2 3 3 U U U U U U) U) ?_
 refine rP 2 [] mn ?_
 refine RK D<|an<|Q1 hQ U U U ?_
 exact cB (by rw [Bool.eq_iff_iff,decide_eq_true_eq]; exact CY)
theorem PD (b:bI) (l:aW) (kA:OA) (kC:Nat) (az:List RA) (cA:OA) (cC:Nat) (bA:OA) (bC g1:Nat) (hin:ej l az) (htr:cV l.aM=true):
 eA Tryz.prog 135 [(vA (bI.cells b)),(vP g1)] [(rd kA l.aM.length 9 (l.aM.map al.cells)),(rd cA l.aj.length 2 (List.zipWith ao.cells l.aj az)),(eH (aU ao.gh l.aj az)),(rd bA l.ae.length 4 (l.ae.map bI.cells)),(cq g1 28 (bT.cells (kH l kA kC cA cC bA bC)))] (vB (!(decide (jX l b)))):=by
 have J:=hin.rK
 have H:=hin.rD
 have F:=hin.mE
 have G:=hin.ry
 have AA:=hin.side
 refine bH kr Tryz.func135 U U fun M Q hQ hN=>?_
 try dsimp only
 refine WS fun _ C=>fm U fun K=>aY 1 U<|RK C<|WS fun _ D=>aY 1 U<|rS (Ue (bo.cells (bo.mk (bf.mk kA l.aM.length kC))) 5 U bX U U U)<|aY 1 U<|rS (LP (cP.cells b.kv) 0 U bX U U U)<|rS (CL (P5 l.aM kA kC b.kv asm asm) (aZ [1]) U)<|aY 3 U<|AL U dk fun L=>fq U cu U<|aY 1 U<|RK D<|WS fun _ B=>rP 3 [] mn ?_
 refine cE (t:=16) U (bg fun A=>?_) (bh fun A=>?_)
 ·refine rP 11 [] mn ?_
  refine RK B<|an<|Q1 hQ U U U ?_
  (refine cB ?_; rw [bD (fun h:jX l b=>A ((FP htr).2 h.1))]; rfl)
 refine rP 6 [0,1] (mr 6 U (mc 1 U mn)) ?_
 refine eX (xs:=[.tmp 22]) (cs:=[(vI b.jr)]) U di lh U U U U (by simp [Value.cells]) U U fun E=>?_
 refine rS (CL (eA.eq (iD 0 ((l.aj.length:Int)-1) ([b.jr]) (some ⟨E,0,none⟩) 1 (by (simp; done))) dj) (aC (a_ 0 U U (by simp [bU]) U)<|aS) U) ?_
 refine rP 3 [] mn ?_
 refine RK B<|an<|Q1 hQ U U U ?_
 (refine cB ?_; refine congrArg Bool.not (decide_eq_decide.2 ⟨fun h=>⟨(FP htr).1 A,I,I⟩,fun h=>by have:=h.2; omega⟩))
theorem Pm (l:aW) (kA:OA) (kC:Nat) (az:List RA) (cA:OA) (cC:Nat) (bA:OA) (bC:Nat) (hin:ej l az) (htr:cV l.aM=true):
 eA Tryz.prog 133 [(vA (bT.cells (kH l kA kC cA cC bA bC)))] [(rd kA l.aM.length 9 (l.aM.map al.cells)),(rd cA l.aj.length 2 (List.zipWith ao.cells l.aj az)),(eH (aU ao.gh l.aj az)),(rd bA l.ae.length 4 (l.ae.map bI.cells))] (vB (decide (∀ b∈l.ae,jX l b))):=by
 have H:=hin.rK
 have G:=hin.rD
 have E:=hin.mE
 have F:=hin.ry
 refine bH kr Tryz.func133 U U fun AA Q hQ hN=>?_
 try dsimp only
 refine WS fun _ B=>fm U fun A=>aY 1 U<|RK B<|WS fun _ C=>rP 2 [] (mc 0 U mn) ?_
 refine rS (FU U) ?_
 refine rS (CL (zN l.ae bA bC (Value.func (.func 135) [].toArray [(vP A)].toArray) (fun D=>(!(decide (jX l D)))) (eH [(rd kA l.aM.length 9 (l.aM.map al.cells)),(rd cA l.aj.length 2 (List.zipWith ao.cells l.aj az)),(eH (aU ao.gh l.aj az)),(rd bA l.ae.length 4 (l.ae.map bI.cells)),(cq A 28 (bT.cells (kH l kA kC cA cC bA bC)))]) (by intro D _; exact ov (fi:=[]) (ca:=[(vP A)]) (mO (PD D l kA kC az cA cC bA bC A (by first|assumption|omega) (by first|assumption|omega)) (aZ [0,1,2,3,4]))) asm) (fG 4 U U<|aC (mH (aZ [1,2,3,4,0]))<|aS) U) ?_
 refine rP 2 [] mn ?_
 refine RK C<|an<|Q1 hQ U U U ?_
 exact cB (by rw [Bool.eq_iff_iff,decide_eq_true_eq]; exact GI)
theorem N2 (l:aW) (kA:OA) (kC:Nat) (az:List RA) (cA:OA) (cC:Nat) (bA:OA) (bC:Nat) (n:Int) (hin:ej l az) (htr:cV l.aM=true) (hbk: ∀ b∈l.ae,jX l b) (hn:0≤n∧n<(l.ae.length:Int)):
 eA Tryz.prog 138 [(vA (bT.cells (kH l kA kC cA cC bA bC))),(vI n)] [(rd kA l.aM.length 9 (l.aM.map al.cells)),(rd cA l.aj.length 2 (List.zipWith ao.cells l.aj az)),(eH (aU ao.gh l.aj az)),(rd bA l.ae.length 4 (l.ae.map bI.cells))] (vI (mQ l n.toNat)):=by
 have P:=hin.rK
 have N:=hin.rD
 have L:=hin.mE
 have M:=hin.ry
 have O:=hin.side
 refine bH kr Tryz.func138 U U fun AA Q hQ hN=>?_
 try dsimp only
 refine WS fun _ E=>fm U fun R=>aY 1 U<|RK E<|WS fun _ F=>rP 3 [] (mc 0 U mn) ?_
 obtain ⟨x,hx⟩:=aG l.ae ((n).toNat) I
 have J:=bG bI.cells hx
 refine rS (IA ((n).toNat) U (ay 4 U) sQ dc I I)<|rS (nP (((n).toNat)*4) U (ay 4 U) (Nat.mul_pos I dc) e_ U)<|rS (l4 ((n).toNat) 0 (cP.cells x.kv) U bX (ay 4 U) J U dc U U)<|AL U EK fun S=>fq U N5 U<|RK F<|WS fun _ G=>aY 1 U<|rS (LP (bo.cells (bo.mk (bf.mk kA l.aM.length kC))) 1 U bX U U U)<|e7 1 [] (mc 0 U mn) U<|rS (CL (P5 l.aM kA kC x.kv asm asm) (aZ [2]) U)<|aY 3 U<|AL U dk fun T=>fq U cu U<|aY 1 U<|RK G<|ai fun _ C=>WS fun _ H=>rP 2 [] mn ?_
 refine RK H<|bE U (aQ fun D=>?_) (aP fun D=>?_)
 ·refine WK C<|WS fun _ B=>rP 3 [] (mc 0 U mn) ?_
  refine RK B<|an<|Q1 hQ U U U ?_
  (refine congrArg (Value.int .i64) ?_; rw [show n.toNat=0 by omega] at hx ⊢; rw [yk hx,(wj htr (hbk _ (List.mem_of_getElem? hx)).1).2])
 refine dp cf [14] [] [] [1,2,3,4,5,6] [] U U U U U<|eS U (FA 0 U e_ U)<|eS U (LP (bo.cells (bo.mk (bf.mk kA l.aM.length kC))) 1 U bX U U U)<|eS U (FA 3 U e_ U)<|eS U (L1 (vS bA l.ae.length bC) 1 U bX U U)<|eS U (MV U)<|eS U (BI U (s8 ⟨I,I⟩)) ?_
 obtain ⟨y,hy⟩:=aG l.ae (((n-1)).toNat) I
 have K:=bG bI.cells hy
 refine eS U (IA (((n-1)).toNat) U (ay 5 U) sQ dc I I)<|eS U (nP ((((n-1)).toNat)*4) U (ay 5 U) (Nat.mul_pos I dc) e_ U)<|eS U (l4 (((n-1)).toNat) 0 (cP.cells y.kv) U bX (ay 5 U) K U dc U U)<|eS U (LW 0 U bX U U)<|eS U (CL (LK l.aM kA kC y.kv x.kv asm asm) (aZ [2]) U)<|eS U (MV U)<|eS U (EX U)<|eS U (EX U)<|eu U<|bS U fun T9 AB=>fq U cu U<|ax (AB _ _ (aD [1,2,3,4,5,6]) ?_)
 refine eY U<|KK C<|WS fun _ A=>rP 3 [] (mc 0 U mn) ?_
 refine RK A<|an<|Q1 hQ U U U ?_
 (refine congrArg (Value.int .i64) ?_; rw [Aq I hx (by rw [show n.toNat-1=(n-1).toNat by omega]; exact hy),(k6 htr ⟨(hbk _ (List.mem_of_getElem? hy)).1,(hbk _ (List.mem_of_getElem? hx)).1⟩).2])
theorem Pr (l:aW) (kA:OA) (kC:Nat) (az:List RA) (cA:OA) (cC:Nat) (bA:OA) (bC:Nat) (hin:ej l az) (htr:cV l.aM=true) (hbk: ∀ b∈l.ae,jX l b):
 eA Tryz.prog 137 [(vA (bT.cells (kH l kA kC cA cC bA bC)))] [(rd kA l.aM.length 9 (l.aM.map al.cells)),(rd cA l.aj.length 2 (List.zipWith ao.cells l.aj az)),(eH (aU ao.gh l.aj az)),(rd bA l.ae.length 4 (l.ae.map bI.cells))] (vB (decide (∀ i,i<l.ae.length→1≤mQ l i))):=by
 have V:=hin.rK
 have AA:=hin.rD
 have S:=hin.mE
 have T:=hin.ry
 refine bH kr Tryz.func137 U U fun X Q hQ hN=>?_
 try dsimp only
 refine WS fun _ J=>fm U fun W=>aY 1 U<|RK J<|ai fun _ K=>WS fun _ L=>rP 4 [] (mc 0 U mn) ?_
 refine RK L<|ar ?_
 have A:(0≤l.ae.length)∧(∀ j,j<0→1≤mQ l j):=by exact ⟨Nat.zero_le _,fun j hj=>absurd hj (Nat.not_lt_zero _)⟩
 refine bx (ι:={z:Nat // (z≤l.ae.length)∧(∀ j,j<z→1≤mQ l j)}) [1,6] [0,1,2,3,4] U U (fun z=>[(7,(vI (z.1:Int)))]) (fun z=>[]) (fun _=>rfl) (fun _=>rfl) (fun z=>l.ae.length-z.1) ⟨0,A⟩ (aN U) (aD [0,1,2,3,4]) ?_
 clear A
 rintro ⟨i,⟨P,B⟩⟩ J5 AB
 try dsimp only
 refine WS fun _ M=>rP 1 [] mn ?_
 refine RK M<|ai fun _ N=>bE U (aQ fun R=>?_) (aP fun R=>?_)
 ·refine bj<|aa<|aa<|au<|KK K<|WS fun _ G=>rP 1 [] mn ?_
  refine RK G<|an<|Q1 hQ U U U ?_
  exact cB (dh (fun j hj=>B j I)).symm
 refine WK N<|ai fun _ O=>ar<|WS fun _ D=>aY 2 U<|RK D<|WS fun _ E=>e7 2 [] (mc 0 U mn) U<|rS (CL (N2 l kA kC az cA cC bA bC (i:Int) hin htr hbk I) (aZ [1,2,3,4]) U)<|rP 1 [] mn ?_
 refine RK E<|cK U (aP fun C=>?_) (aQ fun C=>?_)
 ·refine WS fun _ F=>rP 1 [] mn ?_
  refine RK F<|an<|Q1 hQ U U U ?_
  exact cB (bD (fun h=>by have:=h i I; simp only [Int.toNat_natCast] at C; omega)).symm
 refine bM<|aB<|KK O<|ag<|rP 2 [] mn ?_
 refine ax ?_
 have H:(vI (((i+1):Nat):Int))=(vI ((i:Int)+1)):=by exact cI I
 refine aI (AB ⟨(i+1),⟨I,fun j hj=>by rcases Nat.lt_or_ge j i with q|q; exact B j q; (obtain rfl:j=i:=by omega); simp only [Int.toNat_natCast] at C; omega⟩⟩ _ _ _ rfl os (cO.cons rfl<|cO.cons rfl<|aO rfl H<|cO.nil _) (aD [0,1,2,3,4]))
end
section
open Go.RowKit
theorem Pt:
 eA Tryz.prog 93 [] [] (vA ((gJ.cells (gJ.mk (Value.func (.func 127) [].toArray [].toArray)))++(gJ.cells (gJ.mk (Value.func (.func 129) [].toArray [].toArray)))++(gJ.cells (gJ.mk (Value.func (.func 133) [].toArray [].toArray)))++(gJ.cells (gJ.mk (Value.func (.func 137) [].toArray [].toArray))))):=by
 refine bH kr Tryz.func93 U U fun D Q hQ hN=>?_
 try dsimp only
 refine WS fun _ A=>AL U Qg fun C=>RK A<|WS fun _ B=>rS (SX (bq (xs:=[(0,.func 127)]) (cs:=(gJ.cells (gJ.mk (Value.func (.func 127) [].toArray [].toArray)))) U U (br E_ U)) U U)<|rS (SX (bq (xs:=[(0,.func 129)]) (cs:=(gJ.cells (gJ.mk (Value.func (.func 129) [].toArray [].toArray)))) U U (br E_ U)) U U)<|rS (SX (bq (xs:=[(0,.func 133)]) (cs:=(gJ.cells (gJ.mk (Value.func (.func 133) [].toArray [].toArray)))) U U (br E_ U)) U U)<|rS (SX (bq (xs:=[(0,.func 137)]) (cs:=(gJ.cells (gJ.mk (Value.func (.func 137) [].toArray [].toArray)))) U U (br E_ U)) U U)<|rS (SX (bq (xs:=[(0,.tmp 1),(1,.tmp 2),(2,.tmp 3),(3,.tmp 4)]) (cs:=((gJ.cells (gJ.mk (Value.func (.func 127) [].toArray [].toArray)))++(gJ.cells (gJ.mk (Value.func (.func 129) [].toArray [].toArray)))++(gJ.cells (gJ.mk (Value.func (.func 133) [].toArray [].toArray)))++(gJ.cells (gJ.mk (Value.func (.func 137) [].toArray [].toArray))))) U U (br P7 U)) U U)<|fq U Sr U<|RK B<|an ?_
 exact Lt hQ [0] (mc 0 U mn) U U
theorem AB (l:aW) (kA:OA) (kC:Nat) (az:List RA) (cA:OA) (cC:Nat) (bA:OA) (bC:Nat) (hin:ej l az):
 eA Tryz.prog 70 [(vA (bT.cells (kH l kA kC cA cC bA bC)))] [(rd kA l.aM.length 9 (l.aM.map al.cells)),(rd cA l.aj.length 2 (List.zipWith ao.cells l.aj az)),(eH (aU ao.gh l.aj az)),(rd bA l.ae.length 4 (l.ae.map bI.cells))] (vI (du l)):=by
 have AH:=hin.rK
 have AF:=hin.rD
 have AD:=hin.mE
 have AE:=hin.ry
 have AG:=hin.side
 refine bH kr Tryz.func70 U U fun w0 Q hQ hN=>?_
 try dsimp only
 refine WS fun _ m=>fm U fun b2=>aY 1 U<|RK m<|ai fun _ o=>WS fun _ p=>aY 1 U<|rS (LP (bo.cells (bo.mk (bf.mk kA l.aM.length kC))) 0 U bX U U U)<|rS (CL (As l.aM kA kC asm asm) (aZ [1]) U)<|aY 1 U<|RK p<|WS fun _ q=>rP 2 [] mn ?_
 refine RK q<|cK U (bg fun B=>?_) (bh fun B=>?_)
 ·refine WS fun _ s=>rP 2 [] mn ?_
  refine RK s<|an<|Q1 hQ U U U ?_
  (refine cI ?_; rw [(yG B).2,ym (yG B).1])
 refine WK o<|ai fun _ t=>WS fun _ u=>?_
 have A:=CV B
 refine rS (CL Pt (aS) U)<|aY 1 U<|RK u<|ar<|nx 5<|fz fun R9 v=>WS fun _ C=>rS (SX (cM (r:= .bool true) U U U jG) U U)<|RK C<|ai fun _ D=>aL U<|WK D<|ai fun _ E=>ar<|WS fun _ F=>rS (SX (tj (vs:=(gJ.cells (gJ.mk (Value.func (.func 127) [].toArray [].toArray)))) 0 U U U EA bX U dc U) U U)<|AL U Fk fun y=>fq U EZ U<|RK F<|WS fun _ G=>e7 3 [0,1] (mc 0 U (mc 1 U mn)) U<|rS (CL (OQ l kA kC az cA cC bA bC hin) (aZ [2,3,4,5]) U)<|rP 1 [] mn ?_
 refine RK G<|cK U (bg fun g=>?_) (bh fun g=>?_)
 ·refine WS fun _ H=>rP 1 [] mn ?_
  refine RK H<|an<|Q1 hQ U U U ?_
  exact cI (qz A fun h=>absurd h.head asm).symm
 refine bM<|aB<|KK E<|ag<|rS (SX (cM (r:= .int .i64 1) U U U (iP ⟨dc,dc⟩)) U U)<|aY 1 U<|RK v<|fz fun R18 d=>WS fun _ AJ=>rS (SX (cM (r:= .bool true) U U U jG) U U)<|RK AJ<|ai fun _ J=>aL U<|WK J<|ai fun _ K=>ar<|WS fun _ L=>rS (SX (tj (vs:=(gJ.cells (gJ.mk (Value.func (.func 129) [].toArray [].toArray)))) 1 U U U EA bX U dc U) U U)<|AL U Fk fun z=>fq U EZ U<|RK L<|WS fun _ M=>e7 3 [0,1] (mc 0 U (mc 2 U mn)) U<|rS (CL (Ok l kA kC az cA cC bA bC hin) (aZ [3,4,5,6]) U)<|rP 1 [] mn ?_
 refine RK M<|cK U (bg fun i=>?_) (bh fun i=>?_)
 ·refine WS fun _ N=>rP 1 [] mn ?_
  refine RK N<|an<|Q1 hQ U U U ?_
  exact cI (qz A fun h=>absurd h.clock asm).symm
 refine bM<|aB<|KK K<|ag<|rS (SX (cM (r:= .int .i64 2) U U U (iP ⟨dc,dc⟩)) U U)<|aY 1 U<|RK d<|fz fun R27 e=>WS fun _ O=>rS (SX (cM (r:= .bool true) U U U jG) U U)<|RK O<|ai fun _ P=>aL U<|WK P<|ai fun _ R=>ar<|WS fun _ S=>rS (SX (tj (vs:=(gJ.cells (gJ.mk (Value.func (.func 133) [].toArray [].toArray)))) 2 U U U EA bX U dc U) U U)<|AL U Fk fun AA=>fq U EZ U<|RK S<|WS fun _ T=>e7 3 [0,1] (mc 0 U (mc 3 U mn)) U<|rS (CL (Pm l kA kC az cA cC bA bC hin asm) (aZ [4,5,6,7]) U)<|rP 1 [] mn ?_
 refine RK T<|cK U (bg fun j=>?_) (bh fun j=>?_)
 ·refine WS fun _ AI=>rP 1 [] mn ?_
  refine RK AI<|an<|Q1 hQ U U U ?_
  exact cI (qz A fun h=>absurd h.vh asm).symm
 refine bM<|aB<|KK R<|ag<|rS (SX (cM (r:= .int .i64 3) U U U (iP ⟨dc,dc⟩)) U U)<|aY 1 U<|RK e<|fz fun R36 f=>WS fun _ V=>rS (SX (cM (r:= .bool true) U U U jG) U U)<|RK V<|ai fun _ W=>aL U<|WK W<|ai fun _ X=>ar<|WS fun _ Y=>rS (SX (tj (vs:=(gJ.cells (gJ.mk (Value.func (.func 137) [].toArray [].toArray)))) 3 U U U EA bX U dc U) U U)<|AL U Fk fun AC=>fq U EZ U<|RK Y<|WS fun _ Z=>e7 3 [0,1] (mc 0 U (mc 4 U mn)) U<|rS (CL (Pr l kA kC az cA cC bA bC hin asm asm) (aZ [5,6,7,8]) U)<|rP 1 [] mn ?_
 refine RK Z<|cK U (bg fun k=>?_) (bh fun k=>?_)
 ·refine WS fun _ a=>rP 1 [] mn ?_
  refine RK a<|an<|Q1 hQ U U U ?_
  exact cI (qz A fun h=>absurd h.PZ asm).symm
 refine bM<|aB<|KK X<|ag<|rS (SX (cM (r:= .int .i64 4) U U U (iP ⟨dc,dc⟩)) U U)<|aY 1 U<|RK f<|fz fun R45 x=>WS fun _ b=>rS (SX (cM (r:= .bool false) U U U jG) U U)<|RK b<|ai fun _ w=>aX U<|bj<|aa<|aa<|au<|KK t<|WS fun _ c=>rP 1 [] mn ?_
 refine RK c<|an<|Q1 hQ U U U ?_
 exact cI (Bv A (yz asm asm asm asm)).symm
theorem Cj (lo hi:Int) (f:Value) (p:Int→Bool) (X:aw) (r:Int) (hf: ∀ x0,0≤x0∧x0<hi→Dc Tryz.prog f [.int .i64 x0] [X] (.bool (p x0))) (hb:0≤lo∧lo≤r∧r≤hi∧hi≤100000000) (hno: ∀ x,lo≤x→x<r→p x=false) (hyes: ∀ x,r≤x→x<hi→p x=true):
 eA Tryz.prog 216 [(vI lo),(vI hi),f] [X] (vI r):=by
 refine bH kr Tryz.func216 U U fun N Q hQ hN=>?_
 try dsimp only
 refine WS fun _ F=>rP 1 [] mn ?_
 refine RK F<|ai fun _ G=>ar ?_
 have A:(lo≤lo∧lo≤r)∧(r≤hi∧hi≤hi):=by omega
 refine bx (ι:={z:Int×Int // (lo≤z.1∧z.1≤r)∧(r≤z.2∧z.2≤hi)}) [2] [0] U U (fun z=>[(0,(vI z.1.1)),(1,(vI z.1.2))]) (fun z=>[]) (fun _=>rfl) (fun _=>rfl) (fun z=>(z.1.2-z.1.1).toNat) ⟨(lo,hi),A⟩ (aN U) (aD [0]) ?_
 clear A
 rintro ⟨⟨a,b⟩,⟨B,C⟩⟩ J3 D
 try dsimp only at B C
 try dsimp only
 refine ai fun _ H=>WS fun _ AA=>rP 3 [] mn ?_
 refine RK AA<|bE U (aQ fun M=>?_) (aP fun M=>?_)
 ·refine bj<|aa<|aa<|au<|KK G<|WS fun _ L=>rP 2 [] mn ?_
  refine RK L<|an<|Q1 hQ U U U ?_
  exact cI I
 refine WK H<|ar<|WS fun _ J=>aY 4 U<|rS (BI U (qk I I I))<|aY 2 U<|RK J<|WS fun _ K=>rP 2 [] mn ?_
 refine rS (SX (sk U U U (hf (a+((b-a)/2)) I) (aZ [0])) U U)<|RK K<|cK U (fun hp=>?_) (fun hp=>?_)
 ·refine ag<|rP 2 [] mn ?_
  refine ax<|aB ?_
  refine aI (D ⟨(a,(a+((b-a)/2))),(by dsimp only; rcases Int.lt_or_le (a+(b-a)/2) r with q|q; (have E:=hno _ I q; (rw [E] at hp; cases hp)); (have E:=hyes _ q I; (refine ⟨⟨I,I⟩,I,I⟩)))⟩ _ _ _ rfl (by simp only []; omega) (aN rfl) (aD [0]))
 refine ag<|rP 3 [] mn ?_
 refine ax<|aB ?_
 refine aI (D ⟨(((a+((b-a)/2))+1),b),(by dsimp only; rcases Int.lt_or_le (a+(b-a)/2) r with q|q; (have E:=hno _ I q; (refine ⟨⟨I,I⟩,I,I⟩)); (have E:=hyes _ q I; (rw [E] at hp; cases hp)))⟩ _ _ _ rfl (by simp only []; omega) (aN rfl) (aD [0]))
theorem HI (u:Int) (c:ao) (sA:OA) (sC g1:Nat) (s:aK) (g2:Nat) (hc:eL c) (hu:0≤u∧u≤90000000):
 eA Tryz.prog 217 [(vI u),(vP g1),(vP g2)] [(rd sA c.aT.length 3 (c.aT.map ck.cells)),(cq g1 119 (de.cells (de.mk c.cU (bf.mk sA c.aT.length sC)))),(cq g2 165 (aK.cells s))] (vB (decide (s.Read≤u+(hH c u).Hi))):=by
 have C:=qE hc hu
 refine bH kr Tryz.func217 U U fun D Q hQ hN=>?_
 try dsimp only
 refine WS fun _ A=>aY 1 U<|RK A<|ai fun _ B=>cS cf 10 kr<|l0 3 [] (mr 1 U mn) U<|dS (CL (Fg c sA sC u hc hu) (aZ [0]) U)<|dS (SX (j7 (v:=(vI ((hH c u).Hi))) U U e_ Ds U) U U)<|dP 5 [] (mr 2 U mn) ?_
 refine cy<|RK B<|an ?_
 exact Q1 hQ U U U U
theorem IE (u:Int) (c:ao) (sA:OA) (sC g1:Nat) (s:aK) (g2:Nat) (hc:eL c) (hu:0≤u∧u≤90000000):
 eA Tryz.prog 219 [(vI u),(vP g1),(vP g2)] [(rd sA c.aT.length 3 (c.aT.map ck.cells)),(cq g1 119 (de.cells (de.mk c.cU (bf.mk sA c.aT.length sC)))),(cq g2 165 (aK.cells s))] (vB (decide (s.Read<u+(hH c u).Lo))):=by
 have C:=qE hc hu
 refine bH kr Tryz.func219 U U fun D Q hQ hN=>?_
 try dsimp only
 refine WS fun _ A=>aY 1 U<|RK A<|ai fun _ B=>cS cf 10 kr<|l0 3 [] (mr 1 U mn) U<|dS (CL (Fg c sA sC u hc hu) (aZ [0]) U)<|dS (SX (j7 (v:=(vI ((hH c u).Lo))) U U e_ uc U) U U)<|dP 5 [] (mr 2 U mn) ?_
 refine cy<|RK B<|an ?_
 exact Q1 hQ U U U U
theorem Jt (l:aW) (kA:OA) (kC:Nat) (az:List RA) (cA:OA) (cC:Nat) (bA:OA) (bC:Nat) (s:aK) (hin:ej l az) (hok:lI l) (hs:(0≤s.fM∧s.fM≤(l.ae.length:Int)-1)∧0≤s.Read∧s.Read≤86400000):
 eA Tryz.prog 208 [(vA (bT.cells (kH l kA kC cA cC bA bC))),(vA (aK.cells s))] [(rd kA l.aM.length 9 (l.aM.map al.cells)),(rd cA l.aj.length 2 (List.zipWith ao.cells l.aj az)),(eH (aU ao.gh l.aj az)),(rd bA l.ae.length 4 (l.ae.map bI.cells))] (vA (ab.cells (cR l s))):=by
 have V:=hin.rK
 have S:=hin.rD
 have P:=hin.mE
 have R:=hin.ry
 refine bH kr Tryz.func208 U U fun Z Q hQ hN=>?_
 try dsimp only
 refine WS fun _ AB=>fm U fun X=>fm U fun D=>AL U dk fun Y=>RK AB<|ai fun _ J=>dp cf [11,12] [] [] [0,1,2,3,4,5,6] [] U U U U U<|eS U (FA 2 U e_ U)<|eS U (L1 (vS cA l.aj.length cC) 2 U bX U U)<|eS U (FA 3 U e_ U)<|eS U (L1 (vS bA l.ae.length bC) 2 U bX U U)<|eS U (FA 0 U e_ U)<|eS U (L1 (vI s.fM) 1 U bX U U) ?_
 obtain ⟨y,hy⟩:=aG l.ae ((s.fM).toNat) I
 have O:=bG bI.cells hy
 refine eS U (IA ((s.fM).toNat) U (ay 6 U) sQ dc I I)<|eS U (nP ((((s.fM).toNat)*4)+3) U (ay 6 U) (Nat.mul_pos I dc) e_ U)<|eS U (fI ((s.fM).toNat) 3 (vI y.jr) U bX (ay 6 U) O U dc U) ?_
 have W:=(hok.vh _ (aR hy)).2
 obtain ⟨x,hx⟩:=aG l.aj ((y.jr).toNat) I
 obtain ⟨xa,F⟩:=aG az ((y.jr).toNat) I
 have N:(List.zipWith ao.cells l.aj az)[(y.jr).toNat]? =some (ao.cells x xa):=cH hx F
 refine eS U (IA ((y.jr).toNat) U (ay 4 U) uq dc I I)<|eS U (l4 ((y.jr).toNat) 0 (de.cells (de.mk x.cU (bf.mk xa.1 x.aT.length xa.2))) U bX (ay 4 U) N U dc U U)<|eu U<|bS U fun T6 L=>AL U zm fun E=>ax (L _ _ (aD [1,2,3,4,5,6,7]) ?_)
 refine bS U fun T8 M=>fq U yV U<|ax (M _ _ (aD [1,2,3,4,5,6,7]) ?_)
 refine eY U<|KK J<|WS fun _ K=>?_
 have A:=hok.clock _ (aR hx)
 have AA:=ik (p:=gR x s.Read) (n:=86400001)
 have T:=ik (p:=gS x s.Read) (n:=86400001)
 refine rS (FU U) ?_
 refine rS (CL (Cj 0 86400001 (Value.func (.func 217) [].toArray [(vP E),(vP D)].toArray) (fun B=>(decide (s.Read≤B+(hH x B).Hi))) (eH [(rd xa.1 x.aT.length 3 (x.aT.map ck.cells)),(cq E 119 (de.cells (de.mk x.cU (bf.mk xa.1 x.aT.length xa.2)))),(cq D 165 (aK.cells s))]) (fH (gR x s.Read) 86400001) (by intro B _; exact ov (fi:=[]) (ca:=[(vP E),(vP D)]) (mO (HI B x xa.1 xa.2 E s D (by first|assumption|omega) (by first|assumption|omega)) (MH 0 1 2 U U U U U U))) I (by intro z G hz; exact (kJ A G I).1 hz) (by intro z hz H; exact (kJ A I H).2.1 hz)) (aC (mH (aC (show gI _ (rd xa.1 x.aT.length 3 (x.aT.map ck.cells)).holds from (b_ 6 U (bu hx F (by simp [ao.gh]))))<|fG 0 U U<|fG 2 U U<|aS))<|aS) U) ?_
 refine rS (FU U) ?_
 refine rS (CL (Cj 0 86400001 (Value.func (.func 219) [].toArray [(vP E),(vP D)].toArray) (fun C=>(decide (s.Read<C+(hH x C).Lo))) (eH [(rd xa.1 x.aT.length 3 (x.aT.map ck.cells)),(cq E 119 (de.cells (de.mk x.cU (bf.mk xa.1 x.aT.length xa.2)))),(cq D 165 (aK.cells s))]) (fH (gS x s.Read) 86400001) (by intro C _; exact ov (fi:=[]) (ca:=[(vP E),(vP D)]) (mO (IE C x xa.1 xa.2 E s D (by first|assumption|omega) (by first|assumption|omega)) (MH 0 1 2 U U U U U U))) I (by intro z G hz; exact (kJ A G I).2.2.1 hz) (by intro z hz H; exact (kJ A I H).2.2.2 hz)) (aC (mH (aC (show gI _ (rd xa.1 x.aT.length 3 (x.aT.map ck.cells)).holds from (b_ 6 U (bu hx F (by simp [ao.gh]))))<|fG 0 U U<|fG 2 U U<|aS))<|aS) U) ?_
 refine rP 1 [] mn ?_
 refine rS (SX (bq (xs:=[(0,.tmp 18),(1,.tmp 21)]) (cs:=(ab.cells (ab.mk (fH (gR x s.Read) 86400001) ((fH (gS x s.Read) 86400001)-1)))) U U (br gK U)) U U)<|sK U cu U<|RK K<|an<|Lt hQ [0] (mc 1 U mn) U ?_
 unfold cR Ao; rw [wS hy hx]
end
section
open Go.RowKit
theorem H6 (n lo hi:Int) (g1 g2:Nat):
 eA Tryz.prog 73 [(vI n),(vP g1),(vP g2)] [(cq g1 3 [(vI lo)]),(cq g2 3 [(vI hi)])] (vB (decide (n<lo∨hi<n))):=by
 refine bH kr Tryz.func73 U U fun D Q hQ hN=>?_
 try dsimp only
 refine WS fun _ B=>aY 1 U<|RK B<|WS fun _ A=>rP 4 [] (mr 0 U mn) ?_
 refine cE (t:=8) U (aP fun C=>?_) (aQ fun C=>?_)
 ·refine rP 5 [] mn ?_
  refine RK A<|an<|Q1 hQ U U U ?_
  exact cB (dh I).symm
 refine rP 5 [] (mr 1 U mn) ?_
 refine RK A<|an<|Q1 hQ U U U ?_
 exact cB (decide_eq_decide.2 I)
theorem kZ (lo hi:Int) (l:List Int) (lA:OA) (lC:Nat) (hlen:l.length≤1000000):
 eA Tryz.prog 43 [(vI lo),(vI hi),(vS lA l.length lC)] [(rd lA l.length 1 (l.map iC))] (vB (p9 lo hi l)):=by
 refine bH kr Tryz.func43 U U fun F Q hQ hN=>?_
 try dsimp only
 refine WS fun _ D=>ux U U fun A=>ux U U fun B=>aY 1 U<|RK D<|WS fun _ E=>rP 1 [] mn ?_
 refine rS (FU U) ?_
 refine rS (CL (su l lA lC (Value.func (.func 73) [].toArray [(vP A),(vP B)].toArray) (fun C=>(decide (C<lo∨hi<C))) (eH [(cq A 3 [(vI lo)]),(cq B 3 [(vI hi)])]) (by intro C _; exact ov (fi:=[]) (ca:=[(vP A),(vP B)]) (mO (H6 C lo hi A B) (aZ [0,1]))) hlen) (fG 2 U U<|aC (mH (aZ [1,0]))<|aS) U) ?_
 refine rP 2 [] mn ?_
 refine RK E<|an ?_
 exact Q1 hQ U U U U
theorem FQ (s:ab):
 eA Tryz.prog 82 [(vA (ab.cells s))] [] (vB (decide (iG s))):=by
 refine bH kr Tryz.func82 U U fun F Q hQ hN=>?_
 try dsimp only
 refine WS fun _ B=>fm U fun E=>aY 1 U<|RK B<|WS fun _ A=>rP 4 [] (mc 0 U mn) ?_
 refine eX (xs:=[.tmp 4,.tmp 6]) (cs:=[(vI s.Lo),(vI s.Hi)]) U di lh U U U U (by simp [Value.cells]) U U fun C=>?_
 refine rS (CL (eA.eq (kZ 1 600000 ([s.Lo,s.Hi]) (some ⟨C,0,none⟩) 2 (by (simp; done))) ug) (aC (a_ 0 U U (by simp [bU]) U)<|aS) U) ?_
 refine rP 1 [] mn ?_
 refine cv (t:=9) U (aQ fun D=>?_) (aP fun D=>?_)
 ·refine rP 7 [] mn ?_
  refine RK A<|an<|Q1 hQ U U U ?_
  simp only [iG]
  exact cB (bD I).symm
 refine rP 7 [] (mc 1 U mn) ?_
 refine RK A<|an<|Q1 hQ U U U ?_
 simp only [iG]
 exact cB (decide_eq_decide.2 I)
theorem HY (d:av) (sgA:OA) (sgC:Nat):
 eA Tryz.prog 198 [(vA (bp.cells (bp.mk d.Out d.dE d.Time (lv d.bW sgA sgC))))] [(rd sgA d.bW.ah.length 2 (d.bW.ah.map aK.cells))] (vB (decide (l6 d.bW))):=by
 refine bH kr Tryz.func198 U U fun F Q hQ hN=>?_
 try dsimp only
 refine WS fun _ B=>fm U fun E=>aY 1 U<|RK B<|WS fun _ A=>rP 5 [] (mc 0 U mn) ?_
 refine cv (t:=7) U (aQ fun C=>?_) (aP fun C=>?_)
 ·refine rP 13 [] mn ?_
  refine RK A<|an<|Q1 hQ U U U ?_
  simp only [l6]
  exact cB (bD I).symm
 refine rP 6 [] (mc 0 U mn) ?_
 refine cv (t:=13) U (aQ fun D=>?_) (aP fun D=>?_)
 ·refine rP 7 [] mn ?_
  refine RK A<|an<|Q1 hQ U U U ?_
  simp only [l6]
  exact cB (bD I).symm
 refine rP 7 [] (mc 0 U mn) ?_
 refine RK A<|an<|Q1 hQ U U U ?_
 simp only [l6]
 exact cB (decide_eq_decide.2 I)
theorem Re (d:av) (sgA:OA) (sgC:Nat):
 eA Tryz.prog 196 [(vA (bp.cells (bp.mk d.Out d.dE d.Time (lv d.bW sgA sgC))))] [(rd sgA d.bW.ah.length 2 (d.bW.ah.map aK.cells))] (vB d.Out):=by
 refine bH kr Tryz.func196 U U fun D Q hQ hN=>?_
 try dsimp only
 refine WS fun _ A=>fm U fun C=>aY 1 U<|RK A<|WS fun _ B=>rP 3 [] (mc 0 U mn) ?_
 refine RK B<|an<|Q1 hQ U U U ?_
 rfl
theorem Qc (d:av) (sgA:OA) (sgC:Nat):
 eA Tryz.prog 199 [(vA (bp.cells (bp.mk d.Out d.dE d.Time (lv d.bW sgA sgC))))] [(rd sgA d.bW.ah.length 2 (d.bW.ah.map aK.cells))] (vB d.dE):=by
 refine bH kr Tryz.func199 U U fun D Q hQ hN=>?_
 try dsimp only
 refine WS fun _ A=>fm U fun C=>aY 1 U<|RK A<|WS fun _ B=>rP 3 [] (mc 0 U mn) ?_
 refine RK B<|an<|Q1 hQ U U U ?_
 rfl
theorem QF (d:av) (sgA:OA) (sgC:Nat):
 eA Tryz.prog 201 [(vA (bp.cells (bp.mk d.Out d.dE d.Time (lv d.bW sgA sgC))))] [(rd sgA d.bW.ah.length 2 (d.bW.ah.map aK.cells))] (vB true):=by
 refine bH kr Tryz.func201 U U fun D Q hQ hN=>?_
 try dsimp only
 refine WS fun _ A=>fm U fun C=>aY 1 U<|RK A<|WS fun _ B=>rP 1 [] mn ?_
 refine RK B<|an<|Q1 hQ U U U ?_
 rfl
end
section
open Go.RowKit
structure Kk (S:BS) (w0:World) (X:aw) (C0:List aw) (w:World) (S':BS):Prop where
 st:St S w0 (X::C0) w
 w_: ∀ b,S'.w b↔ ∃ A∈C0,A.wf b
theorem De {A B:aw} (h:CK A B):CK A.ro B:=fun b C D=>⟨fun h=>h,(h b C D).2⟩
theorem Bi {E:eU} {c:Code} {Q:cY} {D:List Deferred} {L:List (Nat×Value)} {C C0:List aw} {X:aw} (i:Nat) (hn:decide (i::(List.range C.length).filter fun k=>k != i).Nodup=true) (hC:kz C (i::(List.range C.length).filter fun k=>k != i)=X::C0)
 (h: ∀ w S',Kk E.S E.w0 X C0 w S'→WJ ⟨E.P,E.r,E.n,S',w⟩ c Q D L (X.ro::C0)):WJ E c Q D L C:=fun a w hf hs=>by
 have F:=St.kz _ hn hC hs
 obtain ⟨G,H⟩:=List.pairwise_cons.1 F.sep
 refine h w ⟨fun b=> ∃ A∈C0,A.wf b,fun _=>True⟩ ⟨F,fun b=>Iff.rfl⟩ a w hf ⟨dI.refl _ _,fun A hA=>?_,List.Pairwise.cons (fun B hB=>De (G B hB)) H,fun A hA b hb=>?_,fun A hA b hb=> .inr trivial⟩
 ·rcases List.mem_cons.1 hA with rfl|hA
  ·exact F.holds X (bZ ..)
  ·exact F.holds A (cW _ hA)
 ·rcases List.mem_cons.1 hA with rfl|hA
  ·exact hb.elim
  ·exact .inr ⟨A,hA,hb⟩
theorem zS {E:eU} {S':BS} {w:World} {K:Act→World→Prop} {D:List Deferred} {L:List (Nat×Value)} {C0 C1 C2:List aw} {X:aw} (hz:Kk E.S E.w0 X C0 w S') (is:List Nat) (hn:decide is.Nodup=true) (hC:kz C2 is=C1) (hwr:C1.all (·.wr)=true)
 (h:KJ E K D L (X::C1)):KJ ⟨E.P,E.r,E.n,S',w⟩ K D L C2:=fun a w' hf hs=>by
 have F:=St.kz is hn hC hs
 have C:=hz.st
 obtain ⟨J,M⟩:=List.pairwise_cons.1 C.sep
 have AA: ∀ b,X.e9 b→ ¬ S'.w b:=fun b hb hw=>by
  obtain ⟨A,hA,hw⟩:=(hz.w_ b).1 hw
  exact (J A hA b hb (A.kq b hw)).2 hw
 have G: ∀ b,S'.w b→E.w0.heap.size≤b∨E.S.w b:=fun b hb=>by
  obtain ⟨A,hA,hw⟩:=(hz.w_ b).1 hb
  exact C.own A (cW _ hA) b hw
 have H: ∀ A∈C1,∀ b,A.e9 b→w.heap.size≤b∨S'.w b:=fun A hA b hb=>F.own A hA b (A.whole (List.all_eq_true.1 hwr A hA) b hb)
 refine h a w' hf ⟨?_,fun A hA=>?_,List.Pairwise.cons (fun B hB b hb hb'=>?_) F.sep,fun A hA b hb=>?_,fun A hA b hb=>?_⟩
 ·refine ⟨F.keeps.os.trans C.keeps.os,F.keeps.tape.trans C.keeps.tape,F.keeps.output.trans C.keeps.output,Nat.le_trans C.keeps.size F.keeps.size,fun k hk hn'=>?_⟩
  refine (F.keeps.block k (Nat.lt_of_lt_of_le hk C.keeps.size) fun hw=>?_).trans (C.keeps.block k hk hn')
  rcases G k hw with q|q
  ·omega
  ·exact hn' q
 ·rcases List.mem_cons.1 hA with rfl|hA
  ·have hh:=C.holds A (bZ ..)
   exact A.oq w w' (fun b hb=>F.keeps.block b (A.lt w hh b hb) (AA b hb)) hh
  ·exact F.holds A hA
 ·exfalso
  have hl:=X.lt w (C.holds X (bZ ..)) b hb
  rcases H B hB b hb' with q|q
  ·omega
  ·exact AA b hb q
 ·rcases List.mem_cons.1 hA with rfl|hA
  ·exact C.own A (bZ ..) b hb
  ·rcases F.own A hA b hb with q|q
   ·exact .inl (Nat.le_trans C.keeps.size q)
   ·exact G b q
 ·rcases List.mem_cons.1 hA with rfl|hA
  ·exact C.seen A (bZ ..) b hb
  ·rcases H A hA b hb with q|q
   ·exact .inl (Nat.le_trans C.keeps.size q)
   ·obtain ⟨B,hB,hw⟩:=(hz.w_ b).1 q
    exact C.seen B (cW _ hB) b (B.kq b hw)
/-- put back, as it was -/
theorem Hj {M A:Type} {f:M→A→List aw} {S:BS} {w0 w:World} {C:List aw} {ms:List M} {asl:List A} {k:Nat} {m:M} {a:A} {X:aw} (hm:ms[k]? =some m) (ha:asl[k]? =some a) (hf:f m a=[X]) (h:St S w0 (X::bB (fc f ms asl k)::C) w):St S w0 (bB (aU f ms asl)::C) w:=by
 have B:St S w0 (bB (fc f ms asl k)::X::C) w:=h.perm (List.Perm.swap _ _ _)
 have D:St S w0 ((f m a++fc f ms asl k)++C) w:=by
  rw [hf]
  exact B.g8.perm (List.perm_middle (a:=X) (l₁:=fc f ms asl k) (l₂:=C))
 exact kK (kI hm ha).symm D.tied
theorem HL {E:eU} {K:Act→World→Prop} {D:List Deferred} {L:List (Nat×Value)} {C C1:List aw} {M A:Type} {f:M→A→List aw} {ms:List M} {asl:List A} {k:Nat} {m:M} {a:A} {X:aw} (i j:Nat) (hm:ms[k]? =some m) (ha:asl[k]? =some a) (hf:f m a=[X])
 (hn:decide (j::i::(List.range C.length).filter fun k=>k != i&&k != j).Nodup=true) (hC:kz C (j::i::(List.range C.length).filter fun k=>k != i&&k != j)=X::bB (fc f ms asl k)::C1)
 (h:KJ E K D L (bB (aU f ms asl)::C1)):KJ E K D L C:=fun a w hf' hs=>h a w hf' (Hj hm ha hf (St.kz _ hn hC hs))
theorem yi {M A:Type} {f:M→A→List aw} {ms:List M} {asl:List A} {m:M} {a:A} {X:aw} (hl:ms.length=asl.length) (hf:f m a=[X]):aU f ms asl++[X]=aU f (ms++[m]) (asl++[a]):=by
 rw [iX hl,← hf]; simp [aU]
theorem yv {E:eU} {K:Act→World→Prop} {D:List Deferred} {L:List (Nat×Value)} {C C1:List aw} {M A:Type} {f:M→A→List aw} {ms:List M} {asl:List A} {m:M} {a:A} {X:aw} (i j:Nat) (hf:f m a=[X])
 (hn:decide (j::i::(List.range C.length).filter fun k=>k != i&&k != j).Nodup=true) (hC:kz C (j::i::(List.range C.length).filter fun k=>k != i&&k != j)=X::bB (aU f ms asl)::C1)
 (h:KJ E K D L (bB (aU f (m::ms) (a::asl))::C1)):KJ E K D L C:=fun b w hf' hs=>by
 have B:=St.kz _ hn hC hs
 have F:St E.S E.w0 (bB (aU f ms asl)::X::C1) w:=B.perm (List.Perm.swap _ _ _)
 have G:St E.S E.w0 (aU f (m::ms) (a::asl)++C1) w:=by
  show St E.S E.w0 ((f m a++aU f ms asl)++C1) w
  rw [hf]
  exact F.g8.perm (List.perm_middle (a:=X) (l₁:=aU f ms asl) (l₂:=C1))
 exact h b w hf' G.tied
end
section
open Go.RowKit
theorem KO (fs:List FM) (fb:List Nat):(bB (aU nO fs fb)).wr=true:=by
 show (aU nO fs fb).all (·.wr)=true
 rw [eM]
 intro X hX
 obtain ⟨k,m,a,_,_,h⟩:=jm hX
 simp only [nO,bK] at h
 subst h; rfl
theorem QR (fs:List TM) (fb:List Nat):(bB (aU rH fs fb)).wr=true:=by
 show (aU rH fs fb).all (·.wr)=true
 rw [eM]
 intro X hX
 obtain ⟨k,m,a,_,_,h⟩:=jm hX
 simp only [rH,bK] at h
 subst h; rfl
end
section
def eh (bl:List Nat) (n:Nat):List (Option Nat):=bl.map some++List.replicate (n-bl.length) none
def gX (bl:List Nat) (n:Nat):List (Option Nat):=List.replicate (n-bl.length) none++bl.map some
theorem qX {bl:List Nat} {n:Nat} (h:bl.length≤n):(eh bl n).length=n:=by simp [eh]; omega
theorem yj {bl:List Nat} {n:Nat} (h:bl.length≤n):(gX bl n).length=n:=by simp [gX]; omega
theorem zk {n:Nat}:List.replicate n none=eh [] n:=by simp [eh]
theorem G_ {n:Nat}:List.replicate n none=gX [] n:=by simp [gX]
theorem zc {bl:List Nat} {n:Nat} (h:bl.length=n):eh bl n=bl.map some:=by simp [eh,h]
theorem Gy {bl:List Nat} {n:Nat} (h:bl.length=n):gX bl n=bl.map some:=by simp [gX,h]
theorem oJ {bl:List Nat} {n k g:Nat} (h:bl[k]? =some g):(eh bl n)[k]? =some (some g):=by
 have hk:=(List.getElem?_eq_some_iff.1 h).1
 unfold eh
 rw [List.getElem?_append_left (by simpa using hk),fj,h]; rfl
theorem sX {bl:List Nat} {n k i g:Nat} (h:bl[i]? =some g) (hk:k=n-bl.length+i):(gX bl n)[k]? =some (some g):=by
 subst hk
 unfold gX
 rw [List.getElem?_append_right sm,fj,List.length_replicate,Nat.add_sub_cancel_left,h]; rfl
theorem uj {bl:List Nat} {n k g:Nat} (hk:k=bl.length) (h:bl.length<n):(eh bl n).set k (some g)=eh (bl++[g]) n:=by
 subst hk
 unfold eh
 rw [List.set_append_right _ _ sm]
 have e:n-bl.length=(n-(bl++[g]).length)+1:=by simp; omega
 rw [e,List.replicate_succ]
 simp
theorem FT {bl:List Nat} {n k g:Nat} (hk:k+1+bl.length=n):(gX bl n).set k (some g)=gX (g::bl) n:=by
 unfold gX
 have e:n-bl.length=k+1:=by omega
 have A:n-(g::bl).length=k:=by simp; omega
 rw [e,A,List.set_append_left _ _ sm,List.replicate_succ',List.set_append_right _ _ sm]
 simp
theorem rX {l:List (Option Nat)} {k g:Nat} (h:l[k]? =some (some g)):(l.map oC)[k]? =some (oC (some g)):=by rw [fj,h]; rfl
theorem zV {α:Type} {l:List α} {x:α} {k:Nat} (h:k=l.length):(l++[x])[k]? =some x:=by subst h; simp
theorem Jy {α:Type} {l:List α} {x y:α} {k:Nat} (h:l[k]? =some y):(l++[x])[k]? =some y:=by rw [List.getElem?_append_left (List.getElem?_eq_some_iff.1 h).1]; exact h
structure p7 (w:bP) (fs:List FM):Prop where
 all: ∀ (b:Nat) m,fs[b]? =some m→sS m (fwd w b)∧(m.map (·.1)).Nodup
structure gY (w:bP) (k:Nat) (bs:List FM):Prop where
 all: ∀ (i:Nat) m,bs[i]? =some m→vb m (back w (k+i))∧(m.map (·.1)).Nodup
variable {w:bP} {b:Nat} {mb m left:List (aF×Int)} {o:Int×ab} {os:List (Int×ab)} {p:aF×Int}
theorem p7.first:p7 w [[(⟨0,0⟩,w.Start)]]:=⟨fun b m h=>by
 match b with
 |0=>simp at h; subst h; exact ⟨Hu,sm⟩
 |n+1=>simp at h⟩
theorem p7.add {fs:List FM} (h:p7 w fs) (hl:fs.length=b+1) (hmb:fs[b]? =some mb) (hm:xz w b m) (hd:jP w b mb m left) (h0:left=[]):p7 w (fs++[m]):=⟨fun i x hx=>by
 rcases Nat.lt_or_ge i fs.length with q|q
 ·rw [List.getElem?_append_left q] at hx; exact h.all i x hx
 ·rw [List.getElem?_append_right q] at hx
  have hi:i-fs.length=0:=by
   rcases Nat.eq_zero_or_pos (i-fs.length) with z|z
   ·exact z
   ·rw [List.getElem?_eq_none (by simp; omega)] at hx; cases hx
  rw [hi] at hx
  simp at hx; subst hx
  obtain rfl:i=b+1:=by omega
  have A:=h.all b mb hmb
  exact ⟨Kl A.2 A.1 hm.snd (hd.fin h0),hm.keys⟩⟩
theorem p7.ok {fs:List FM} (h:p7 w fs) (hl:fs.length=w.n+1):xq w fs:=⟨hl,fun b m hm=>(h.all b m hm).1,fun b m hm=>(h.all b m hm).2⟩
theorem gY.none_:gY w b []:=⟨fun i m h=>by simp at h⟩
theorem gY.last (hb:w.n≤b):gY w b [[(⟨0,0⟩,w.fK)]]:=⟨fun i m h=>by
 match i with
 |0=>simp at h; subst h; exact ⟨KS I,sm⟩
 |n+1=>simp at h⟩
theorem gY.add {bs:List FM} (h:gY w (b+1) bs) (hb:b<w.n) (hmb:bs[0]? =some mb) (hm:vg w b m) (hd:jz w b mb m left) (h0:left=[]):gY w b (m::bs):=⟨fun i x hx=>by
 match i with
 |0=>
  simp at hx; subst hx
  have A:=h.all 0 mb hmb
  exact ⟨HV hb A.2 A.1 hm.snd hm.zero (hd.fin h0),hm.keys⟩
 |n+1=>
  have:=h.all n x (by simpa using hx)
  rw [show b+1+n=b+(n+1) by omega] at this
  exact this⟩
theorem gY.ok {bs:List FM} (h:gY w 0 bs) (hl:bs.length=w.n+1):uo w bs:=⟨hl,fun b m hm=>by have:=(h.all b m hm).1; rwa [Nat.zero_add] at this,fun b m hm=>(h.all b m hm).2⟩
/-- on the way through one entry's options -/
structure nq (w:bP) (b:Nat) (mb left m:List (aF×Int)) (p:aF×Int) (os:List (Int×ab)):Prop where
 on:xz w b m
 sW:jP w b mb m left
 done:iH w b m p os
structure nJ (w:bP) (b:Nat) (mb left m:List (aF×Int)) (p:aF×Int) (os:List (Int×ab)):Prop where
 on:vg w b m
 sW:jz w b mb m left
 done:iQ w b m p os
theorem nq.start (h:xz w b m) (h2:jP w b mb m left):nq w b mb left m p []:=⟨h,h2,fun o ho=>by cases ho⟩
theorem nJ.start (h:vg w b m) (h2:jz w b mb m left):nJ w b mb left m p []:=⟨h,h2,fun o ho=>by cases ho⟩
theorem Hn {q:aF×Int} (h:(m.lookup q.1).isSome=false∨q.2<(m.lookup q.1).getD 0):o7 m q=er m q.1 q.2:=by
 unfold o7
 cases e:m.lookup q.1 with
 |none=>rfl
 |some v=>rw [e] at h; simp at h; simp only; rw [if_pos h]
theorem Ee {q:aF×Int} (h:(m.lookup q.1).isSome=true) (h2: ¬ q.2<(m.lookup q.1).getD 0):o7 m q=m:=by
 unfold o7
 cases e:m.lookup q.1 with
 |none=>rw [e] at h; cases h
 |some v=>rw [e] at h2; simp only [Option.getD_some] at h2; simp only; rw [if_neg h2]
theorem Hc {q:aF×Int} (h:(m.lookup q.1).isSome=false∨(m.lookup q.1).getD 0<q.2):oN m q=er m q.1 q.2:=by
 unfold oN
 cases e:m.lookup q.1 with
 |none=>rfl
 |some v=>rw [e] at h; simp at h; simp only; rw [if_pos h]
theorem Db {q:aF×Int} (h:(m.lookup q.1).isSome=true) (h2: ¬ (m.lookup q.1).getD 0<q.2):oN m q=m:=by
 unfold oN
 cases e:m.lookup q.1 with
 |none=>rw [e] at h; cases h
 |some v=>rw [e] at h2; simp only [Option.getD_some] at h2; simp only; rw [if_neg h2]
theorem z6 {t:aF} {v y:Int} (hy:w.p8[b]? =some y) (h:max (v+y) o.2.Lo≤min o.2.Hi w.fK):kB w b (t,v) o=some (dg t (eQ o.1),max (v+y) o.2.Lo):=by
 have e:=nk hy
 subst e
 exact IF h
theorem K9 {t:aF} {v y:Int} (hy:w.p8[b]? =some y) (h: ¬ max (v+y) o.2.Lo≤min o.2.Hi w.fK):kB w b (t,v) o=none:=by
 have e:=nk hy
 subst e
 exact L8 h
theorem zM {t:aF} {v y:Int} (hy:w.p8[b]? =some y) (h:o.2.Lo≤min v o.2.Hi):nQ w b (t,v) o=some (dg t (eQ o.1),min v o.2.Hi-y):=by
 have e:=nk hy
 subst e
 exact Ih h
theorem nq.set {q:aF×Int} (h:nq w b mb left m p os) (hp:p∈fwd w b) (ho:o∈hO w b) (he:kB w b p o=some q) (hs:(m.lookup q.1).isSome=false∨q.2<(m.lookup q.1).getD 0):nq w b mb left (er m q.1 q.2) p (os++[o]):=by
 rw [← Hn hs]
 exact ⟨h.on.add hp ho he,h.sW.lower uY,h.done.Kd he⟩
theorem nq.oq {q:aF×Int} (h:nq w b mb left m p os) (he:kB w b p o=some q) (hs:(m.lookup q.1).isSome=true) (h2: ¬ q.2<(m.lookup q.1).getD 0):nq w b mb left m p (os++[o]):=by
 have:=h.done.Kd he
 rw [Ee hs h2] at this
 exact ⟨h.on,h.sW,this⟩
theorem nq.skip (h:nq w b mb left m p os) (he:kB w b p o=none):nq w b mb left m p (os++[o]):=⟨h.on,h.sW,h.done.none_ he⟩
theorem nJ.set {q:aF×Int} (hb:b<w.n) (h:nJ w b mb left m p os) (hp:p∈back w (b+1)) (ho:o∈hO w b) (he:nQ w b p o=some q) (hs:(m.lookup q.1).isSome=false∨(m.lookup q.1).getD 0<q.2):nJ w b mb left (er m q.1 q.2) p (os++[o]):=by
 rw [← Hc hs]
 exact ⟨h.on.add hb hp ho he,h.sW.upper qn,h.done.Kd he⟩
theorem nJ.oq {q:aF×Int} (h:nJ w b mb left m p os) (he:nQ w b p o=some q) (hs:(m.lookup q.1).isSome=true) (h2: ¬ (m.lookup q.1).getD 0<q.2):nJ w b mb left m p (os++[o]):=by
 have:=h.done.Kd he
 rw [Db hs h2] at this
 exact ⟨h.on,h.sW,this⟩
theorem nJ.skip (h:nJ w b mb left m p os) (he:nQ w b p o=none):nJ w b mb left m p (os++[o]):=⟨h.on,h.sW,h.done.none_ he⟩
theorem nq.next {t:aF} {v:Int} (hn:(left.map (·.1)).Nodup) (hm:(t,v)∈left) (h:nq w b mb left m (t,v) os) (ho: ∀ o∈hO w b,o∈os):jP w b mb m (ct left t):=h.sW.next hn hm h.done ho
theorem nJ.next {t:aF} {v:Int} (hn:(left.map (·.1)).Nodup) (hm:(t,v)∈left) (h:nJ w b mb left m (t,v) os) (ho: ∀ o∈hO w b,o∈os):jz w b mb m (ct left t):=h.sW.next hn hm h.done ho
theorem p7.mem {fs:List FM} (h:p7 w fs) (hm:fs[b]? =some mb) (hp:p∈mb):p∈fwd w b:=(h.all b mb hm).1.1 _ _ ((e8 (h.all b mb hm).2).1 hp)
theorem gY.Ti {bs:List FM} {k:Nat} (h:gY w k bs) (hk:k=b+1) (hm:bs[0]? =some mb) (hp:p∈mb):p∈back w (b+1):=by
 subst hk
 exact (h.all 0 mb hm).1.1 _ _ ((e8 (h.all 0 mb hm).2).1 hp)
theorem gY.end_ {bs:List FM} {k j:Nat} (h:gY w k bs) (hj:bs.length=0) (hk:j=b) (hb:w.n≤b):gY w j ([(⟨0,0⟩,w.fK)]::bs):=by
 subst hk
 rw [jH hj]
 exact gY.last hb
theorem gY.more {bs:List FM} {k j:Nat} (h:gY w k bs) (hk:k=b+1) (hj:j=b) (hb:b<w.n) (hmb:bs[0]? =some mb) (hm:vg w b m) (hd:jz w b mb m left) (h0:left=[]):gY w j (m::bs):=by
 subst hk hj
 exact h.add hb hmb hm hd h0
end
section
open Go.RowKit
theorem j1 {a:OA} {c e sz n:Nat} {es:List (List Value)} (h:es.length=n):Lh (own a c e sz es) (rd a n sz es):=by subst h; exact Mb
theorem tw {L:List aw}:Lh (bB L) (eH L):=⟨fun w h=>h.1,fun b h=>h⟩
theorem LF {b:Nat} {fb:List Nat} {g:Nat} (h:fb.length=b):aU rH (List.replicate b ([]:TM)) fb++[hU iV g (bQ dB [])]=aU rH (List.replicate (b+1) ([]:TM)) (fb++[g]):=by
 rw [List.replicate_succ']
 exact yi (by rw [List.length_replicate]; exact h.symm) U
theorem TK {α:Type} {ms:List α} {fb:List Nat} {n:Nat} (h:fb.length=n) (h2:ms.length=n):List.map oC (eh fb n)=List.zipWith gv ms fb:=by
 rw [zc h]; exact (zP I).symm
theorem vz {l:aW} {r:cx} {i:Nat} {x:aK} (hx:r.ah[i]? =some x) (h: ¬ kQ l r.ah i x): ¬ eW l r:=fun q=>h (q.sig i x hx)
end
section
open Go.RowKit
theorem r8 (ln:bT) (ri:ew) (e:List Int) (tms:List TM) (e_A:OA) (e_C:Nat) (tb:List Nat) (t_A:OA) (t_C:Nat) (fA:OA) (fN fC:Nat) (bA:OA) (bN bC:Nat) (gw b:Nat) (g1 g2:Nat) (hb:b<tms.length) (htb:tb.length=tms.length):
 Eb Tryz.prog 220 [] [(vP g1),(vP g2)] [(rd e_A e.length 1 (e.map iC)),(rd t_A tms.length 1 (List.zipWith gv tms tb)),(eH (aU rH tms tb)),(cq gw 276 (cb.cells (cb.mk ln ri (bf.mk e_A e.length e_C) (bf.mk t_A tms.length t_C) (bf.mk fA fN fC) (bf.mk bA bN bC)))),(cq g1 265 [(vP gw)]),(cq g2 3 [(vI (b:Int))])] ([]:List (Int×ab)) (fun ys x ys'=> ∃ o,o∈hO (cJ ln ri e tms) b∧x=Nw o∧ys'=ys++[o]) (fun ys=> ∀ o∈hO (cJ ln ri e tms) b,o∈ys):=by
 refine tD kr Tryz.func220 U U fun l J Z A0 d Q hY V AA hQ hN=>?_
 try dsimp only
 refine ai fun _ X=>ai fun _ R=>cS cf 12 kr<|l0 2 [] (mr 5 U mn) U<|dS (SX (bL U U) U U)<|l0 4 [0,1] (mr 4 U (mr 5 U mn)) U<|dS (SX (bL U U) U U)<|dP 3 [] (mr 4 U mn) ?_
 refine dS (SX (bq (xs:=[(0,.tmp 11),(1,.tmp 16)]) (cs:=(ab.cells (ab.mk ri.Start ri.fK))) U U (br gK U)) U U)<|cy<|kj (k:=([]:List (Int×ab))) (k':=(([]:List (Int×ab))++[((-1),(ab.mk ri.Start ri.fK))])) 0 (by first|exact hsz|exact Nat.le_refl _) hY V AA U U U (by exact ⟨(-1,⟨ri.Start,ri.fK⟩),bZ ..,U,U⟩) U U (fun B3 N M=>?_) (fun B3 N M=>?_)
 rotate_left 1
 ·refine rP 1 [] mn ?_
  refine RK R<|aL U<|an ?_
  refine hQ _ _ _ (g3 (vs:=[]) trivial fun w hs=>rW 0 U N M hs)
 refine aY 1 U<|RK R<|aX U<|WK X<|ai fun _ Y=>cS cf 7 kr<|l0 1 [] (mr 5 U mn) U<|dS (SX (bL U U) U U)<|dP 3 [0,1] (mr 4 U (mr 6 U mn)) ?_
 obtain ⟨x,hx⟩:=aG tms b I
 obtain ⟨xa,L⟩:=aG tb b I
 have a:(List.zipWith gv tms tb)[b]? =some (gv x xa):=cH hx L
 refine dS (IA b U (ay 2 U) EN dc I I)<|dS (fI b 0 (Value.map (some xa)) U bX (ay 2 U) a U dc U)<|cy<|jI (kV:=iV) (m:=bQ dB x) 3 U U lH U ⟨⟨(hU iV xa (bQ dB x)),(bu hx L (by simp [rH])),U⟩,fun h=>h⟩ (show gI _ (hU iV xa (bQ dB x)).holds from b_ 3 U (bu hx L (by simp [rH]))) U fun j=>?_
 try dsimp only
 refine RK Y<|ar ?_
 have G:(∀ o∈x,o∈x∨o∈(([]:List (Int×ab))++[((-1),(ab.mk ri.Start ri.fK))]))∧(∀ o∈x,o∈x)∧(J (([]:List (Int×ab))++[((-1),(ab.mk ri.Start ri.fK))]) B3)∧(Fo A0 d B3)∧((-1,(⟨ri.Start,ri.fK⟩:ab))∈(([]:List (Int×ab))++[((-1),(ab.mk ri.Start ri.fK))])):=by exact ⟨fun o ho=> .inl ho,fun o ho=>ho,asm,asm,sm⟩
 refine bx (ι:={z:TM×(List (Int×ab))×aw // (∀ o∈x,o∈z.1∨o∈z.2.1)∧(∀ o∈z.1,o∈x)∧(J z.2.1 z.2.2)∧(Fo A0 d z.2.2)∧((-1,(⟨ri.Start,ri.fK⟩:ab))∈z.2.1)}) [0,1,2,27] [2,3,4,6,7] U U (fun z=>[]) (fun z=>[(yc iV j xa (bQ dB x) (bQ dB z.1.1) none),z.1.2.2]) (fun _=>rfl) (fun _=>rfl) (fun z=>z.1.1.length) ⟨(x,(([]:List (Int×ab))++[((-1),(ab.mk ri.Start ri.fK))]),B3),G⟩ (cO.nil _) (aD [2,3,4,6,7,0,1]) ?_
 clear G
 rintro ⟨⟨left,ys,A⟩,⟨B,C,D,E,F⟩⟩ J8 W
 try dsimp only at B C D E F
 try dsimp only
 refine WS fun _ S=>iZ (dG mF).inj (f:=dB) 5 U U U U (fun T=>?_) (fun i z hm hn=>?_)
 ·refine rP 1 [] mn ?_
  refine RK S<|ai fun _ c=>aX U<|bj<|aa<|aa<|au ?_
  refine hN _ _ _ (g3 (vs:=[]) trivial fun w hs=>JH 6 U (by exact GX hx B T F) D E hs)
 try dsimp only
 refine aY 1 U<|RK S<|ai fun _ O=>aL U<|WK O<|ar<|WS fun _ P=>rS (SX (iT 5 U U U) U U)<|aY 2 U<|AL U dk fun g=>aY 1 U<|fq U cu U<|RK P<|WS fun _ K=>rP 3 [] (mc 0 U mn) ?_
 refine kj (k:=ys) (k':=(ys++[(i,z)])) 7 (by first|exact hsz|exact Nat.le_refl _) hY D E U U U (by exact ⟨(i,z),(xS hx).2 (.inr (C _ hm)),U,U⟩) U U (fun B15 AB H=>?_) (fun B15 AB H=>?_)
 rotate_left 1
 ·refine rP 1 [] mn ?_
  refine RK K<|aL U<|an ?_
  refine hQ _ _ _ (g3 (vs:=[]) trivial fun w hs=>rW 7 U AB H hs)
 refine rP 1 [] mn ?_
 refine RK K<|aX U<|bM<|aB<|gP 6 U fr U ?_
 refine aI (W ⟨((ct left i),(ys++[(i,z)]),B15),⟨Gt hn hm B,l9 C,asm,asm,by simp [F]⟩⟩ _ _ _ U (eI hm) (aN U) (aD [1,2,3,4,5,6,7]))
theorem tU (gw b:Nat):
 lg Tryz.prog 212 [(vP gw),(vI (b:Int))] [] (fun (x:Nat×Nat)=>(Value.func (.func 220) [].toArray [(Value.pointer (some ⟨x.1,0,none⟩)),(Value.pointer (some ⟨x.2,0,none⟩))].toArray)) (fun (x:Nat×Nat)=>True) (fun (x:Nat×Nat)=>[(cq x.1 265 [(vP gw)]),(cq x.2 3 [(vI (b:Int))])]):=by
 refine db kr Tryz.func212 U U fun E Q hQ hN=>?_
 try dsimp only
 refine WS fun _ A=>ux U U fun C=>ux U U fun D=>aY 1 U<|RK A<|WS fun _ B=>rS (FU U)<|rP 1 [] mn ?_
 refine RK B<|an<|LX hQ (C,D) [1,0] [] mn U U U U ?_
 trivial
theorem KE (gw b:Nat):
 lg Tryz.prog 207 [(vP gw),(vI (b:Int))] [] (fun (x:Nat×Nat)=>(Value.func (.func 211) [].toArray [(Value.pointer (some ⟨x.1,0,none⟩)),(Value.pointer (some ⟨x.2,0,none⟩))].toArray)) (fun (x:Nat×Nat)=>True) (fun (x:Nat×Nat)=>[(cq x.1 265 [(vP gw)]),(cq x.2 3 [(vI (b:Int))])]):=by
 refine db kr Tryz.func207 U U fun E Q hQ hN=>?_
 try dsimp only
 refine WS fun _ A=>ux U U fun C=>ux U U fun D=>aY 1 U<|RK A<|WS fun _ B=>rS (FU U)<|rP 1 [] mn ?_
 refine RK B<|an<|LX hQ (C,D) [1,0] [] mn U U U U ?_
 trivial
end
section
open Go.RowKit
theorem oZ:ua Tryz.prog 282 dW:=Lv NX (fun x y w=>Oz 9998 x y w) (fun x y h=>by cases x; cases y; simp [aF.cells] at h; simp [h]) (fun x=>by simp [aF.cells,Instr.sameBits]) (fun x w=>⟨_,rfl,fun p hp=>by
 simp only [dL,List.not_mem_nil,or_false] at hp
 rcases hp with rfl|rfl
 ·exact ⟨⟨_,eo bX U w⟩,_,mF⟩
 ·exact ⟨⟨_,eo bX U w⟩,_,mF⟩⟩)
theorem Km (s:Int):
 eA Tryz.prog 215 [(vI s)] [] (vA (aF.cells (eQ s))):=by
 refine bH kr Tryz.func215 U U fun H Q hQ hN=>?_
 try dsimp only
 refine WS fun _ B=>AL U sO fun G=>RK B<|ai fun _ C=>WS fun _ D=>rP 2 [] mn ?_
 refine RK D<|cK U (aP fun A=>?_) (aQ fun A=>?_)
 ·refine WS fun _ E=>rS (SX (bq (xs:=[(1,.const (vI 1))]) (cs:=(aF.cells (aF.mk 0 1))) U U (br AA U)) U U)<|fq U rV U<|RK E<|an<|Lt hQ [0] (mc 0 U mn) U ?_
  unfold eQ; first|rw [if_pos A]|rw [if_neg A]
 refine WK C<|WS fun _ F=>rS (SX (bq (xs:=[(0,.const (vI 1))]) (cs:=(aF.cells (aF.mk 1 0))) U U (br AA U)) U U)<|fq U rV U<|RK F<|an<|Lt hQ [0] (mc 0 U mn) U ?_
 unfold eQ; first|rw [if_pos A]|rw [if_neg A]
theorem vy (x:aF) (y:aF) (hx:(0≤x.right∧x.right≤1000)∧0≤x.eE∧x.eE≤1000) (hy:(0≤y.right∧y.right≤1000)∧0≤y.eE∧y.eE≤1000):
 eA Tryz.prog 214 [(vA (aF.cells x)),(vA (aF.cells y))] [] (vA (aF.cells (dg x y))):=by
 refine bH kr Tryz.func214 U U fun F Q hQ hN=>?_
 try dsimp only
 refine WS fun _ A=>fm U fun C=>fm U fun D=>AL U sO fun E=>RK A<|WS fun _ B=>rP 10 [0,1,0,1] (mc 2 U (mc 1 U mn)) ?_
 refine rS (SX (bq (xs:=[(0,.tmp 9),(1,.tmp 14)]) (cs:=(aF.cells (aF.mk (x.right+y.right) (x.eE+y.eE)))) U U (br AA U)) U U)<|fq U rV U<|RK B<|an ?_
 exact Lt hQ [0] (mc 0 U mn) U U
theorem NK (ln:bT) (ri:ew) (e:List Int) (tms:List TM) (e_A:OA) (e_C:Nat) (tb:List Nat) (t_A:OA) (t_C:Nat) (fs:List FM) (bs:List FM) (fb:List Nat) (f_A:OA) (f_C:Nat) (bb:List Nat) (b_A:OA) (b_C gw:Nat) (x:aF) (hx:(0≤x.right∧x.right≤1000)∧0≤x.eE∧x.eE≤1000) (hn:ri.ah.n≤1000):
 eA Tryz.prog 213 [(vP gw),(vA (aF.cells x))] [(rd e_A e.length 1 (e.map iC)),(rd t_A tms.length 1 (List.zipWith gv tms tb)),(eH (aU rH tms tb)),(rd f_A fs.length 1 (List.zipWith gv fs fb)),(eH (aU nO fs fb)),(rd b_A bs.length 1 (List.zipWith gv bs bb)),(eH (aU nO bs bb)),(cq gw 276 (cb.cells (cb.mk ln ri (bf.mk e_A e.length e_C) (bf.mk t_A tms.length t_C) (bf.mk f_A fs.length f_C) (bf.mk b_A bs.length b_C))))] (vB (kp (cJ ln ri e tms) x)):=by
 refine bH kr Tryz.func213 U U fun E Q hQ hN=>?_
 try dsimp only
 refine WS fun _ C=>fm U fun D=>aY 1 U<|RK C<|ai fun _ B=>cS cf 26 kr<|l0 3 [] (mc 0 U mn) U<|dS (SX (bL U U) U U)<|dP 5 [] (mr 8 U mn) ?_
 refine j2 (t:=13) U (aQ fun A=>?_) (aP fun A=>?_)
 ·refine dP 17 [] mn ?_
  refine cy<|RK B<|an<|Q1 hQ U U U ?_
  exact cB (bD (fun h=>A h.1)).symm
 refine lq 1 U<|dS (SX (bL U U) U U)<|l0 8 [0,1] (mr 8 U (mc 0 U mn)) U<|dS (SX (bL U U) U U)<|dP 6 [] (mr 8 U mn) ?_
 refine cy<|RK B<|an<|Q1 hQ U U U ?_
 exact cB (decide_eq_decide.2 ⟨fun h=>⟨A,h⟩,fun h=>h.2⟩)
end
section
open Go.RowKit
theorem F3 (ln:bT) (ri:ew) (e:List Int) (tms:List TM) (e_A:OA) (e_C:Nat) (tb:List Nat) (t_A:OA) (t_C:Nat) (fs:List FM) (bs:List FM) (fb:List Nat) (f_A:OA) (f_C:Nat) (bb:List Nat) (b_A:OA) (b_C gw:Nat) (b g1 g2:Nat) (mf:FM) (mb:FM) (hb:b<e.length) (hw:HB (cJ ln ri e tms)) (htb:tb.length=tms.length) (hfw:xq (cJ ln ri e tms) fs) (hfb:fb.length=fs.length) (hbw:uo (cJ ln ri e tms) bs) (hbb:bb.length=bs.length) (hsg:ri.ah.n≤1000) (hm1:fs[b]? =some mf) (hm2:bs[b+1]? =some mb):
 Eb Tryz.prog 211 [] [(vP g1),(vP g2)] [(rd e_A e.length 1 (e.map iC)),(rd t_A tms.length 1 (List.zipWith gv tms tb)),(eH (aU rH tms tb)),(rd f_A fs.length 1 (List.zipWith gv fs fb)),(eH (aU nO fs fb)),(rd b_A bs.length 1 (List.zipWith gv bs bb)),(eH (aU nO bs bb)),(cq gw 276 (cb.cells (cb.mk ln ri (bf.mk e_A e.length e_C) (bf.mk t_A tms.length t_C) (bf.mk f_A fs.length f_C) (bf.mk b_A bs.length b_C)))),(cq g1 265 [(vP gw)]),(cq g2 3 [(vI (b:Int))])] ([]:List (Int×ab)) (fun ys x ys'=> ∃ q,q∈qa (cJ ln ri e tms) b mf mb∧x=Nw q∧ys'=ys++[q]) (fun ys=> ∀ q∈qa (cJ ln ri e tms) b mf mb,q∈ys):=by
 have A7:e.length≤6:=hw.n
 have A8:tms.length=e.length:=hw.times
 have Az:fs.length=e.length+1:=hfw.len
 have Ay:bs.length=e.length+1:=hbw.len
 refine tD kr Tryz.func211 U U fun l J Z A0 w0 Q hY Ae Ad hQ hN=>?_
 try dsimp only
 refine WS fun _ Af=>ux U U fun b2=>RK Af<|WS fun _ Ag=>rP 2 [0,1] (mr 10 U (mr 11 U mn)) ?_
 refine cX (tU gw b) (aS) U fun y4 A9=>?_
 obtain ⟨AX,AY⟩:=y4
 try dsimp only
 refine RK Ag<|ar<|kl 4 U (by exact fun _ h=>h)<|kl 6 U (by exact fun _ h=>h)<|kl 8 U (by exact fun _ h=>h)<|kl 14 U (by exact fun _ h=>h) ?_
 refine m_ (L0:=[(0,(Value.func (.yield l) #[] #[])),(1,(vP g1)),(2,(vP g2)),(3,(vP b2))]) (F:=[(rd e_A e.length 1 (e.map iC)).ro,(rd t_A tms.length 1 (List.zipWith gv tms tb)).ro,(eH (aU rH tms tb)).ro,(cq gw 276 (cb.cells (cb.mk ln ri (bf.mk e_A e.length e_C) (bf.mk t_A tms.length t_C) (bf.mk f_A fs.length f_C) (bf.mk b_A bs.length b_C)))).ro,(cq AX 265 [(vP gw)]),(cq AY 3 [(vI (b:Int))])]) (fun k (y:(List (Int×ab))×aw)=>(lu (cJ ln ri e tms) b mf mb k y.1)∧(J y.1 y.2)∧(Fo A0 w0 y.2)) (fun k y=>[(cq b2 279 [(Value.func (.yield l) #[] #[])]),y.2,(rd e_A e.length 1 (e.map iC)).ro,(rd t_A tms.length 1 (List.zipWith gv tms tb)).ro,(eH (aU rH tms tb)).ro,(rd f_A fs.length 1 (List.zipWith gv fs fb)).ro,(eH (aU nO fs fb)).ro,(rd b_A bs.length 1 (List.zipWith gv bs bb)).ro,(eH (aU nO bs bb)).ro,(cq gw 276 (cb.cells (cb.mk ln ri (bf.mk e_A e.length e_C) (bf.mk t_A tms.length t_C) (bf.mk f_A fs.length f_C) (bf.mk b_A bs.length b_C)))).ro,(cq g1 265 [(vP gw)]).ro,(cq g2 3 [(vI (b:Int))]).ro]) (fun c (z:aw)=>(c= .ret∧(Z z)∧(Fo A0 w0 z))) (fun _ z=>[(cq b2 279 [(Value.func (.yield l) #[] #[])]),z,(rd e_A e.length 1 (e.map iC)).ro,(rd t_A tms.length 1 (List.zipWith gv tms tb)).ro,(eH (aU rH tms tb)).ro,(rd f_A fs.length 1 (List.zipWith gv fs fb)).ro,(eH (aU nO fs fb)).ro,(rd b_A bs.length 1 (List.zipWith gv bs bb)).ro,(eH (aU nO bs bb)).ro,(cq gw 276 (cb.cells (cb.mk ln ri (bf.mk e_A e.length e_C) (bf.mk t_A tms.length t_C) (bf.mk f_A fs.length f_C) (bf.mk b_A bs.length b_C)))).ro,(cq g1 265 [(vP gw)]).ro,(cq g2 3 [(vI (b:Int))]).ro]) [6,7,8,9,10,11,12,13,14,15,16,17] [3,2,1,0,4,5] (([]:List (Int×ab)),A0) rfl rfl (r8 ln ri e tms e_A e_C tb t_A t_C f_A fs.length f_C b_A bs.length b_C gw b AX AY I I) rfl rfl rfl (by exact ⟨lu.nil,Ae,Ad⟩) (by simp only [List.forall_mem_cons,List.not_mem_nil,false_imp_iff,implies_true,and_true]; exact ⟨⟨_,aR (i:=0) rfl,(dA (bO _))⟩,⟨_,aR (i:=1) rfl,(dA (bO _))⟩,⟨_,aR (i:=2) rfl,(dA (bO _))⟩,⟨_,aR (i:=3) rfl,(dA (bO _))⟩,⟨_,aR (i:=4) rfl,(bO _)⟩,⟨_,aR (i:=5) rfl,(bO _)⟩⟩) (by rintro k x k2 ⟨o,_,rfl,_⟩; rfl) rfl (aN rfl) ?_ ?_ ?_ ?_
 rotate_left 1
 ·rintro BA k ⟨ys,A⟩ AS AC
  obtain ⟨X,Y,a⟩:=AC
  try dsimp only at X Y a
  try dsimp only
  refine aB ?_
  refine hN _ _ _ (oG 0 U U<|g3 (vs:=[]) trivial fun w hs=>JH 8 U (by exact lu.fin X AS) Y a hs)
 ·rintro BB id A AV
  simp at AV
 ·rintro BC A AW
  obtain ⟨hc,Ak,Al⟩:=AW
  try dsimp only
  refine hQ _ _ _ (oG 0 U U<|g3 (vs:=[]) trivial fun w hs=>rW 8 U Ak Al hs)
 rintro k x k2 ⟨ys,A⟩ lr ra rb S w1 K8 Qr9 Am hx AB Ah AP At AZ
 obtain ⟨o,ho,rfl,rfl⟩:=hx
 obtain ⟨X,Y,a⟩:=AB
 try dsimp only at X Y a
 try dsimp only
 refine WS fun _ AG=>rP 1 [] mn ?_
 refine RK AG<|ag<|AL U dk fun Au=>fq U cu U<|ax<|jF (fun _ _ h=>h) (aD [1,0,2,3,4,5,6,7,8,9,10,11,12,13])<|aI (Ah _ _ ?_)
 refine ar<|ai fun _ AH=>cS cf 7 kr<|l0 1 [] (mr 12 U mn) U<|dS (SX (bL U U) U U)<|dP 3 [0,1] (mr 11 U (mr 13 U mn)) ?_
 obtain ⟨ga,s⟩:=aG fb b I
 have AT:(List.zipWith gv fs fb)[b]? =some (gv mf ga):=cH hm1 s
 refine dS (IA b U (ay 7 U) nZ dc I I)<|dS (fI b 0 (Value.map (some ga)) U bX (ay 7 U) AT U dc U)<|cy<|jI (kV:=dW) (m:=bQ iV mf) 8 U U oM U ⟨⟨(hU dW ga (bQ iV mf)),(bu hm1 s (by simp [nO])),U⟩,fun h=>h⟩ (show gI _ (hU dW ga (bQ iV mf)).holds from b_ 8 U (bu hm1 s (by simp [nO]))) U fun Ap=>?_
 try dsimp only
 refine RK AH<|ar ?_
 have C:(∀ p∈mf,p∈mf)∧(nj (cJ ln ri e tms) b mf mb o mf ys)∧(lu (cJ ln ri e tms) b mf mb k ys)∧(J ys A)∧(Fo A0 w0 A):=by exact ⟨fun p hp=>hp,nj.start,X,Y,a⟩
 refine bx (ι:={z:FM×(List (Int×ab))×aw // (∀ p∈z.1,p∈mf)∧(nj (cJ ln ri e tms) b mf mb o z.1 z.2.1)∧(lu (cJ ln ri e tms) b mf mb k z.2.1)∧(J z.2.1 z.2.2)∧(Fo A0 w0 z.2.2)}) [0,1,2,3,4,5,23] [1,2,3,5,6,7,8,9,10,11,12,13,14] U U (fun z=>[]) (fun z=>[(yc dW Ap ga (bQ iV mf) (bQ iV z.1.1) none),z.1.2.2]) (fun _=>rfl) (fun _=>rfl) (fun z=>z.1.1.length) ⟨(mf,ys,A),C⟩ (cO.nil _) (aD [1,2,3,5,6,7,8,9,10,11,12,13,14,0,4]) ?_
 clear C
 rintro ⟨⟨left,ys,A⟩,⟨K,M,N,O,P⟩⟩ J15 AF
 try dsimp only at K M N O P
 try dsimp only
 refine WS fun _ j=>iZ oZ.inj (f:=iV) 13 U U U U (fun Ab=>?_) (fun t v hm hn=>?_)
 ·refine rP 1 [] mn ?_
  refine RK j<|ai fun _ Ar=>aX U<|bj<|aa<|aa<|au<|aB ?_
  exact AP (ys,A) _ _ (by exact ⟨lu.next N M Ab,O,P⟩) (aD [0,2,14,3,4,5,6,7,8,9,10,11,12])
 try dsimp only
 refine aY 1 U<|RK j<|ai fun _ AI=>aL U<|WK AI<|ar<|WS fun _ AJ=>rS (SX (iT 13 U U U) U U)<|aY 2 U<|AL U sO fun Av=>fq U rV U<|aY 1 U<|RK AJ<|ai fun _ AK=>cS cf 8 kr<|l0 1 [] (mr 12 U mn) U<|dS (SX (bL U U) U U)<|dP 4 [0,1] (mr 11 U (mr 13 U mn)) ?_
 obtain ⟨gb,AA⟩:=aG bb (b+1) I
 have AU:(List.zipWith gv bs bb)[(b+1)]? =some (gv mb gb):=cH hm2 AA
 refine dS (IA (b+1) U (ay 9 U) nZ dc I I)<|dS (fI (b+1) 0 (Value.map (some gb)) U bX (ay 9 U) AU U dc U)<|cy<|jI (kV:=dW) (m:=bQ iV mb) 10 U U oM U ⟨⟨(hU dW gb (bQ iV mb)),(bu hm2 AA (by simp [nO])),U⟩,fun h=>h⟩ (show gI _ (hU dW gb (bQ iV mb)).holds from b_ 10 U (bu hm2 AA (by simp [nO]))) U fun Aq=>?_
 try dsimp only
 refine RK AK<|ar ?_
 have C:(∀ p∈mb,p∈mb)∧(nG (cJ ln ri e tms) b mb o (t,v) mb ys)∧(nj (cJ ln ri e tms) b mf mb o left ys)∧(lu (cJ ln ri e tms) b mf mb k ys)∧(J ys A)∧(Fo A0 w0 A):=by exact ⟨fun p hp=>hp,nG.start,M,N,O,P⟩
 refine bx (ι:={z:FM×(List (Int×ab))×aw // (∀ p∈z.1,p∈mb)∧(nG (cJ ln ri e tms) b mb o (t,v) z.1 z.2.1)∧(nj (cJ ln ri e tms) b mf mb o left z.2.1)∧(lu (cJ ln ri e tms) b mf mb k z.2.1)∧(J z.2.1 z.2.2)∧(Fo A0 w0 z.2.2)}) [0,1,2,3,4,5,6,7,23,37] [1,2,3,4,5,6,7,8,9,10,11,12,13,14,15] U U (fun z=>[]) (fun z=>[(yc dW Aq gb (bQ iV mb) (bQ iV z.1.1) none),z.1.2.2]) (fun _=>rfl) (fun _=>rfl) (fun z=>z.1.1.length) ⟨(mb,ys,A),C⟩ (cO.nil _) (aD [1,2,3,4,5,6,7,8,9,10,11,12,13,14,15,0,16]) ?_
 clear C
 rintro ⟨⟨l2,T,A2⟩,⟨B,D,E,G,H,Aa⟩⟩ J23 V
 try dsimp only at B D E G H Aa
 try dsimp only
 refine WS fun _ r=>iZ oZ.inj (f:=iV) 15 U U U U (fun Ac=>?_) (fun u z L AD=>?_)
 ·refine rP 1 [] mn ?_
  refine RK r<|ai fun _ As=>aX U<|bj<|aa<|aa<|au<|aB<|gP 14 U fr U ?_
  refine aI (AF ⟨((ct left t),T,A2),⟨l9 K,nj.next hn hm E D Ac,G,H,Aa⟩⟩ _ _ _ U (eI hm) (aN U) (aD [1,2,3,4,5,6,7,8,9,10,11,12,13,14,16]))
 try dsimp only
 refine aY 1 U<|RK r<|ai fun _ AM=>aL U<|WK AM<|ar<|WS fun _ AN=>rS (SX (iT 15 U U U) U U)<|aY 2 U<|AL U sO fun Aw=>fq U rV U<|rP 1 [] mn ?_
 refine RK AN<|ai fun _ AO=>dp cf [17,18] [] [] [0,1,2,3,4,5,6,7,8,9,10,11,12,13,14,15,16,17] [] U U U U U<|eS U (MV U)<|eS U (SJ 13 U bX U)<|eS U (SX (bL U U) U U)<|eS U (FA 10 U e_ U)<|eS U (HG (vS e_A e.length e_C) 12 U bX U U)<|eS U (SJ 14 U bX U) ?_
 obtain ⟨y,hy⟩:=aG e b I
 have An:=bG iC hy
 refine eS U (IA b U (ay 5 U) di dc I I)<|eS U (fI b 0 (vI y) U bX (ay 5 U) An U dc U) ?_
 have A1:=hw.least y (aR hy)
 have Aj:=J0 hw _ _ (hfw.mem hm1 (K _ hm))
 have Ai:=KZ hw (hbw.mem hm2 (B _ L))
 have A3:=ub o.1
 have A4:=hw.opt ho
 dsimp only at Aj Ai
 refine eS U (BI U (iP ⟨I,I⟩))<|eS U (FA 0 U e_ U)<|eS U (L1 (vI o.2.Lo) 3 U bX U U)<|eS U (MX U)<|eS U (MV U)<|eS U (FA 1 U e_ U)<|eS U (L1 (vI o.2.Hi) 3 U bX U U)<|eS U (MN U)<|eS U (SX (bq (xs:=[(0,.tmp 54),(1,.tmp 58)]) (cs:=(ab.cells (ab.mk (max (v+y) o.2.Lo) (min z o.2.Hi)))) U U (br gK U)) U U)<|eu U<|bS U fun T30 AQ=>AL U dk fun Ax=>ax (AQ _ _ (aD [1,2,3,4,5,6,7,8,9,10,11,12,13,14,15,16,17,18]) ?_)
 refine bS U fun T32 AR=>fq U cu U<|ax (AR _ _ (aD [1,2,3,4,5,6,7,8,9,10,11,12,13,14,15,16,17,18]) ?_)
 refine eY U<|KK AO<|ai fun _ R=>cS cf 19 kr<|dP 6 [] (mc 0 U mn) ?_
 refine j2 (t:=65) U (aQ fun d=>?_) (aP fun d=>?_)
 ·refine lq 3 U<|lq 10 U<|cy<|rP 3 [] mn ?_
  refine RK R<|aX U<|bM<|aB<|gP 17 U fr U ?_
  refine aI (V ⟨((ct l2 u),T,A2),⟨l9 B,nG.skip AD L D (by exact G9 hy d),E,G,H,Aa⟩⟩ _ _ _ U (eI L) (aN U) (aD [2,3,4,5,6,7,8,9,10,11,12,13,14,15,16,17,18]))
 refine dP 3 [0,1,2] (mr 14 U (mc 2 U (mc 1 U mn))) ?_
 have A6:(0≤(dg t u).right∧(dg t u).right≤1000)∧0≤(dg t u).eE∧(dg t u).eE≤1000:=by simp only [dg]; omega
 have A5:(0≤(dg (dg t u) (eQ o.1)).right∧(dg (dg t u) (eQ o.1)).right≤1000)∧0≤(dg (dg t u) (eQ o.1)).eE∧(dg (dg t u) (eQ o.1)).eE≤1000:=by simp only [dg]; omega
 refine dS (CL (vy t u I I) (aS) U)<|lq 1 U<|dS (CL (Km o.1) (aS) U)<|dS (CL (vy (dg t u) (eQ o.1) asm I) (aS) U)<|dS (CL (NK ln ri e tms e_A e_C tb t_A t_C fs bs fb f_A f_C bb b_A b_C gw (dg (dg t u) (eQ o.1)) asm hsg) (aZ [6,7,8,9,10,11,12,13]) U)<|dP 2 [] mn ?_
 refine j2 (t:=75) U (fun g=>?_) (fun g=>?_)
 ·refine lq 3 U<|cy<|rP 3 [] mn ?_
  refine RK R<|aX U<|bM<|aB<|gP 17 U fr U ?_
  refine aI (V ⟨((ct l2 u),T,A2),⟨l9 B,nG.skip AD L D (by exact He g),E,G,H,Aa⟩⟩ _ _ _ U (eI L) (aN U) (aD [2,3,4,5,6,7,8,9,10,11,12,13,14,15,16,17,18]))
 refine dP 3 [0,1] (mc 5 U (mc 0 U mn)) ?_
 refine cy<|kj (k:=T) (k':=(T++[(o.1,(ab.mk (max (v+y) o.2.Lo) (min z o.2.Hi)))])) 18 (by first|exact Am|exact Nat.le_refl _) hY H Aa U U U (by exact ⟨(o.1,_),g6.2 ⟨o,ho,(t,v),K _ hm,(u,z),B _ L,(BD hy d g)⟩,U,U⟩) U U (fun B34 W AE=>?_) (fun B34 W AE=>?_)
 rotate_left 1
 ·refine rP 2 [] mn ?_
  refine RK R<|aL U<|an ?_
  exact AZ B34 _ _ (by exact ⟨U,W,AE⟩) (aD [3,5,18,6,7,8,9,10,11,12,13,14,15])
 refine rP 2 [] mn ?_
 refine RK R<|aX U<|bM<|aB<|gP 17 U fr U ?_
 refine aI (V ⟨((ct l2 u),(T++[(o.1,(ab.mk (max (v+y) o.2.Lo) (min z o.2.Hi)))]),B34),⟨l9 B,nG.SV AD L D (BD hy d g),E.app,G.app,W,AE⟩⟩ _ _ _ U (eI L) (aN U) (aD [2,3,4,5,6,7,8,9,10,11,12,13,14,15,16,17,18]))
end
section
open Go.RowKit
theorem FZ (ln:bT) (ri:ew) (e:List Int) (tms:List TM) (e_A:OA) (e_C:Nat) (tb:List Nat) (t_A:OA) (t_C:Nat) (fs:List FM) (bs:List FM) (fb:List Nat) (f_A:OA) (f_C:Nat) (bb:List Nat) (b_A:OA) (b_C gw:Nat) (hw:HB (cJ ln ri e tms)) (hsg:ri.ah.n≤1000) (hn:ln.ae.n=e.length) (hfw:xq (cJ ln ri e tms) fs) (hfb:fb.length=fs.length):
 lg Tryz.prog 210 [(vP gw)] [(rd e_A e.length 1 (e.map iC)),(rd t_A tms.length 1 (List.zipWith gv tms tb)),(eH (aU rH tms tb)),(rd f_A fs.length 1 (List.zipWith gv fs fb)),(eH (aU nO fs fb)),(rd b_A bs.length 1 (List.zipWith gv bs bb)),(eH (aU nO bs bb)),(cq gw 276 (cb.cells (cb.mk ln ri (bf.mk e_A e.length e_C) (bf.mk t_A tms.length t_C) (bf.mk f_A fs.length f_C) (bf.mk b_A bs.length b_C))))] (fun (x:(OA)×Nat)=>(vS x.1 ((jW (cJ ln ri e tms)).length) x.2)) (fun (x:(OA)×Nat)=>True) (fun (x:(OA)×Nat)=>[(own x.1 x.2 3 1 ((jW (cJ ln ri e tms)).map iC))]):=by
 have y:e.length≤6:=hw.n
 have u:fs.length=e.length+1:=hfw.len
 refine db kr Tryz.func210 U U fun w0 Q hQ hN=>?_
 try dsimp only
 refine WS fun _ X=>aY 1 U<|RK X<|WS fun _ Y=>aY 1 U<|RK Y<|ai fun _ Z=>WS fun _ b=>aY 1 U<|rS (SX (bL U U) U U)<|rP 6 [] (mr 7 U mn) ?_
 refine RK b<|ar<|eP 3 1 ?_
 have A:(0≤e.length+1):=by exact Nat.zero_le _
 refine bx (ι:={z:Nat×(OA)×Nat // (z.1≤e.length+1)}) [0,12] [1,2,3,4,5,6,7,8] U U (fun z=>[(3,(vS z.1.2.1 ((ke (cJ ln ri e tms) z.1.1).length) z.1.2.2)),(13,(vI (z.1.1:Int)))]) (fun z=>[(own z.1.2.1 z.1.2.2 3 1 ((ke (cJ ln ri e tms) z.1.1).map iC))]) (fun _=>rfl) (fun _=>rfl) (fun z=>e.length+1-z.1.1) ⟨(0,none,0),A⟩ (aN U) (aD [1,2,3,4,5,6,7,8,0]) ?_
 clear A
 rintro ⟨⟨n,a,c⟩,G⟩ J5 AB
 try dsimp only at G
 try dsimp only
 refine WS fun _ d=>rP 1 [] mn ?_
 refine RK d<|ai fun _ g=>bE U (aQ fun s=>?_) (aP fun s=>?_)
 ·refine bj<|aa<|aa<|au<|KK Z<|WS fun _ P=>?_
  rw [show ke (cJ ln ri e tms) n=jW (cJ ln ri e tms) by (obtain rfl:n=e.length+1:=by omega); rfl]
  refine rP 2 [] mn ?_
  refine RK P<|an<|LX hQ (a,c) [8] [] mn U U U U ?_
  trivial
 refine WK g<|ai fun _ R=>ar<|WS fun _ J=>aY 2 U<|RK J<|WS fun _ K=>aY 1 U<|rS (SX (bL U U) U U)<|rP 3 [] (mr 7 U mn) ?_
 obtain ⟨m,B⟩:=aG fs n I
 obtain ⟨ma,hm0a⟩:=aG fb n I
 have hm0m:(List.zipWith gv fs fb)[n]? =some (gv m ma):=cH B hm0a
 refine rS (IA n U (ay 3 U) nZ dc I I)<|rS (fI n 0 (Value.map (some ma)) U bX (ay 3 U) hm0m U dc U)<|jI (kV:=dW) (m:=bQ iV m) 4 U U oM U ⟨⟨(hU dW ma (bQ iV m)),(bu B hm0a (by simp [nO])),U⟩,fun h=>h⟩ (show gI _ (hU dW ma (bQ iV m)).holds from b_ 4 U (bu B hm0a (by simp [nO]))) U fun l=>?_
 try dsimp only
 refine RK K<|ar ?_
 have A:(∀ p∈m,p∈m)∧(∀ p∈m,p∈m∨kp (cJ ln ri e tms) p.1=false):=by exact ⟨fun p hp=>hp,fun p hp=> .inl hp⟩
 refine bx (ι:={z:FM // (∀ p∈z,p∈m)∧(∀ p∈m,p∈z∨kp (cJ ln ri e tms) p.1=false)}) [0,3,4,12,13,23] [1,2,3,4,5,6,7,8,9] U U (fun z=>[]) (fun z=>[(yc dW l ma (bQ iV m) (bQ iV z.1) none)]) (fun _=>rfl) (fun _=>rfl) (fun z=>z.1.length) ⟨m,A⟩ (cO.nil _) (aD [1,2,3,4,5,6,7,8,9,0]) ?_
 clear A
 rintro ⟨left,⟨C,D⟩⟩ J13 H
 try dsimp only
 refine WS fun _ F=>iZ oZ.inj (f:=iV) 9 U U U U (fun W=>?_) (fun t v hm i=>?_)
 ·refine aY 1 U<|RK F<|ai fun _ o=>aX U<|bj<|aa<|aa<|au<|aB<|KK R<|ag<|rP 2 [] mn ?_
  refine ax ?_
  rw [← Gj (w:=(cJ ln ri e tms)) (k:=n) ((Ca (hfw.min _ _ B) (hfw.keys _ _ B)).symm.trans (KH D W))]
  have S:(vI (((n+1):Nat):Int))=(vI ((n:Int)+1)):=by exact cI I
  refine aI (AB ⟨((n+1),a,c),(by first|omega|(simp only []; omega))⟩ _ _ _ U os (bY 3<|aO U S<|cO.nil _) (aD [0,1,2,3,4,5,6,7,8]))
 try dsimp only
 refine aY 1 U<|RK F<|ai fun _ L=>aL U<|WK L<|ar<|WS fun _ M=>rS (SX (iT 9 U U U) U U)<|aY 1 U<|AL U sO fun q=>fq U rV U<|RK M<|WS fun _ N=>rP 2 [] (mc 0 U mn) ?_
 have j:=J0 hw _ _ (hfw.mem B (C _ hm))
 dsimp only at j
 refine rS (CL (NK ln ri e tms e_A e_C tb t_A t_C fs bs fb f_A f_C bb b_A b_C gw t I hsg) (aZ [1,2,3,4,5,6,7,8]) U)<|RK N<|bE U (fun E=>?_) (fun E=>?_)
 ·refine bM<|aB<|gP 10 U fr U ?_
  refine aI (H ⟨(ct left t),⟨l9 C,I3 i hm D (by first|exact E|simpa using E)⟩⟩ _ _ _ U (eI hm) (aN U) (aD [1,2,3,4,5,6,7,8,9,10]))
 refine WS fun _ O=>rP 2 [] mn ?_
 refine eX (xs:=[.tmp 32]) (cs:=[(vI (n:Int))]) U di lh U U U U (by simp [Value.cells]) U U fun r=>?_
 have hy:jc (cJ ln ri e tms) (fwd (cJ ln ri e tms) n)=true:=(Ca (hfw.min _ _ B) (hfw.keys _ _ B)).symm.trans (MD (C _ hm) E)
 refine cp (es2:=(List.map iC (ke (cJ ln ri e tms) (n+1)))) (m':=(ke (cJ ln ri e tms) (n+1)).length) 10 U U U mJ U U sm (a_ (es:=List.map iC [(n:Int)]) 0 U U (by simp [bU]) U) (g_ _) (by have:=wP (w:=(cJ ln ri e tms)) (k:=n); first|omega|(simp; omega)) (by have:=wP (w:=(cJ ln ri e tms)) (k:=n); simp only [maxLen]; omega) (by rw [DP hy]; simp) sm U fun AA V=>?_
 try dsimp only
 refine aY 1 U<|RK O<|bj<|im U<|aa<|au<|aB<|KK R<|ag<|rP 2 [] mn ?_
 refine ax ?_
 have T:(vI (((n+1):Nat):Int))=(vI ((n:Int)+1)):=by exact cI I
 refine aI (AB ⟨((n+1),AA,V),(by first|omega|(simp only []; omega))⟩ _ _ _ U os (bY 3<|aO U T<|cO.nil _) (aD [2,3,4,5,6,7,8,9,10]))
end
section
open Go.RowKit
theorem Ij (ln:bT) (ri:ew) (e:List Int) (tms:List TM) (e_A:OA) (e_C:Nat) (tb:List Nat) (t_A:OA) (t_C gw:Nat) (hw:HB (cJ ln ri e tms)) (hn:ln.ae.n=e.length) (htb:tb.length=tms.length):
 Gz Tryz.prog 209 [(vP gw)] [(rd e_A e.length 1 (e.map iC)),(rd t_A tms.length 1 (List.zipWith gv tms tb)),(eH (aU rH tms tb))] (cq gw 276 (cb.cells (cb.mk ln ri (bf.mk e_A e.length e_C) (bf.mk t_A tms.length t_C) (bf.mk none 0 0) (bf.mk none 0 0)))) (fun (x:(List FM)×(List Nat)×(OA)×Nat×(List FM)×(List Nat)×(OA)×Nat)=>(vT [])) (fun (x:(List FM)×(List Nat)×(OA)×Nat×(List FM)×(List Nat)×(OA)×Nat)=>xq (cJ ln ri e tms) x.1∧uo (cJ ln ri e tms) x.2.2.2.2.1∧x.2.1.length=x.1.length∧x.2.2.2.2.2.1.length=x.2.2.2.2.1.length) (fun (x:(List FM)×(List Nat)×(OA)×Nat×(List FM)×(List Nat)×(OA)×Nat)=>(bB [(cq gw 276 (cb.cells (cb.mk ln ri (bf.mk e_A e.length e_C) (bf.mk t_A tms.length t_C) (bf.mk x.2.2.1 x.1.length x.2.2.2.1) (bf.mk x.2.2.2.2.2.2.1 x.2.2.2.2.1.length x.2.2.2.2.2.2.2)))),(own x.2.2.1 x.2.2.2.1 280 1 (List.zipWith gv x.1 x.2.1)),(bB (aU nO x.1 x.2.1)),(own x.2.2.2.2.2.2.1 x.2.2.2.2.2.2.2 280 1 (List.zipWith gv x.2.2.2.2.1 x.2.2.2.2.2.1)),(bB (aU nO x.2.2.2.2.1 x.2.2.2.2.2.1))])):=by
 have Cb:e.length≤6:=hw.n
 have Cc:tms.length=e.length:=hw.times
 refine pj kr Tryz.func209 U U fun w0 Q hQ hN=>?_
 try dsimp only
 refine WS fun _ Ac=>ux U U fun W=>RK Ac<|WS fun _ Af=>e7 1 [] (mc 0 U mn) U<|rS (SX (bL U U) U U)<|rP 5 [] (mc 1 U mn) ?_
 refine RK Af ?_
 refine nV (ι:={z:(OA)×(OA) // True}) [0,1,2] [0,2,3,4] U U (fun z=>[]) (fun z=>[(own z.1.1 (ln.ae.n+1) 280 1 (List.map oC (List.replicate (ln.ae.n+1) (none:Option Nat)))),(own z.1.2 (ln.ae.n+1) 280 1 (List.map oC (List.replicate (ln.ae.n+1) (none:Option Nat)))),(cq gw 276 (cb.cells (cb.mk ln ri (bf.mk e_A e.length e_C) (bf.mk t_A tms.length t_C) (bf.mk z.1.1 (ln.ae.n+1) (ln.ae.n+1)) (bf.mk z.1.2 (ln.ae.n+1) (ln.ae.n+1)))))]) (fun _=>rfl) (fun _=>rfl) ?_ fun K4 Ag=>?_
 ·rintro ⟨⟨fA,bA⟩,_⟩
  try dsimp only
  refine Bi 6 U U fun wz Sz hz=>?_
  have CY:(List.replicate (ln.ae.n+1) (none:Option Nat)).length=(ln.ae.n+1):=List.length_replicate
  try dsimp only
  refine nV (ι:={z:Nat // True}) [0,1,2] [0,1,2,3,4,6] U U (fun z=>[]) (fun z=>[(bB (aU nO [[((aF.mk 0 0),ri.Start)]] [z.1])),(own fA (ln.ae.n+1) 280 1 (List.map oC (eh [z.1] (ln.ae.n+1))))]) (fun _=>rfl) (fun _=>rfl) ?_ fun K5 B4=>?_
  ·rintro ⟨ga,_⟩
   try dsimp only
   refine ai fun _ Ah=>WS fun _ Ai=>rP 2 [] mn ?_
   refine RK Ai<|ar<|kW ?_
   have C:(0≤ln.ae.n)∧(([[((aF.mk 0 0),ri.Start)]]).length=0+1)∧(([ga]).length=0+1)∧(p7 (cJ ln ri e tms) ([[((aF.mk 0 0),ri.Start)]])):=by exact ⟨Nat.zero_le _,rfl,rfl,p7.first⟩
   refine vr (ι:={z:Nat×(List FM)×(List Nat)×(List Nat) // (z.1≤ln.ae.n)∧(z.2.1.length=z.1+1)∧(z.2.2.1.length=z.1+1)∧(p7 (cJ ln ri e tms) z.2.1)}) (fun z=>z.1.2.2.2.map lp) (fun z=>[(0,(vP gw)),(1,(vP W)),(2,(vI (ln.ae.n:Int))),(52,(vI (ln.ae.n:Int))),(53,(vI (z.1.1:Int)))]) (fun z=>[(bB (z.1.2.2.2.map lU)),(cq gw 276 (cb.cells (cb.mk ln ri (bf.mk e_A e.length e_C) (bf.mk t_A tms.length t_C) (bf.mk fA (ln.ae.n+1) (ln.ae.n+1)) (bf.mk bA (ln.ae.n+1) (ln.ae.n+1))))).ro,(cq W 265 [(vP gw)]),(rd e_A e.length 1 (e.map iC)).ro,(rd t_A tms.length 1 (List.zipWith gv tms tb)).ro,(eH (aU rH tms tb)).ro,(own bA (ln.ae.n+1) 280 1 (List.map oC (List.replicate (ln.ae.n+1) (none:Option Nat)))),(bB (aU nO z.1.2.1 z.1.2.2.1)),(own fA (ln.ae.n+1) 280 1 (List.map oC (eh z.1.2.2.1 (ln.ae.n+1))))]) (fun z=>ln.ae.n-z.1.1) ⟨(0,[[((aF.mk 0 0),ri.Start)]],[ga],([]:List Nat)),C⟩ U (aN U) (aD [0,1,2,3,4,5,6,7,8]) ?_
   clear C
   rintro ⟨⟨b,fs,fb,By⟩,⟨Av,AK,Aw,M⟩⟩ J8 B3
   try dsimp only at Av AK Aw M
   try dsimp only
   have CZ:(eh fb (ln.ae.n+1)).length=(ln.ae.n+1):=qX I
   refine WS fun _ Aj=>rP 1 [] mn ?_
   refine RK Aj<|ai fun _ AC=>cK U (aP fun B1=>?_) (aQ fun B1=>?_)
   ·refine WK AC<|ai fun _ A_=>ar<|WS fun _ BA=>rP 1 [] mn ?_
    refine AL U lh fun s=>HH U DL U U<|RK BA<|ai fun _ BB=>dp cf [6,8] [6] [0] [0,1,2,3,4,5,6,7,8] [0,1,2,3,4,5,6,7,8,9] U U U U U<|eS U (C9 3 U bX U)<|eS U (SX (bL U U) U U)<|eS U (FA 12 U e_ U)<|eS U (HG (vS fA (ln.ae.n+1) (ln.ae.n+1)) 2 U bX U U)<|eS U (C9 0 U bX U)<|eS U (BI U (iP ⟨I,I⟩)) ?_
    obtain ⟨CF,Bv⟩:=aG (eh fb (ln.ae.n+1)) (b+1) I
    have hx17m:(List.map oC (eh fb (ln.ae.n+1)))[(b+1)]? =some (oC CF):=by rw [fj,Bv]; rfl
    refine fS U (IA (b+1) U (ak (n:=(ln.ae.n+1)) 9 U sq) nZ dc I I) ?_
    refine eu U<|gl U fun T18 Bb=>nA (kV:=dW) U U fun B=>?_
    try dsimp only
    refine ax (Bb _ _ (aD [1,2,3,4,5,6,7,8,9]) (aD [1,2,3,4,5,6,7,8,9,10]) ?_)
    refine bS U fun T20 Bc=>?_
    have Bm:((eh fb (ln.ae.n+1)).set (b+1) (some B))=(eh (fb++[B]) (ln.ae.n+1)):=by exact uj I I
    refine c_ (k:=(b+1)) (o:=0) (vs:=[(Value.map (some B))]) (es':=(List.map oC (eh (fb++[B]) (ln.ae.n+1)))) (C':=[_,_,_,_,_,_,_,_,_,_,(own fA (ln.ae.n+1) 280 1 (List.map oC (eh (fb++[B]) (ln.ae.n+1))))]) 10 U U U Ir U U U U hx17m U dc (by exact (List.map_set (f:=oC) (l:=(eh fb (ln.ae.n+1))) (i:=(b+1)) (a:=(some B))).symm.trans (congrArg _ Bm)) U<|ax (Bc _ _ (aD [1,2,3,4,5,6,7,8,9]) ?_)
    refine eY U<|KK BB<|ai fun _ BC=>?_
    have B8:(eh (fb++[B]) (ln.ae.n+1)).length=(ln.ae.n+1):=qX (by simp; omega)
    obtain ⟨mb,N⟩:=aG fs b I
    obtain ⟨ga,Z⟩:=aG fb b I
    refine Fa 9 N Z U U U ?_
    try dsimp only
    refine cS cf 7 kr<|l0 1 [] (mc 6 U mn) U<|dS (SX (bL U U) U U)<|dP 3 [0,1] (mr 5 U (mc 3 U mn)) ?_
    have Bq:(List.map oC (eh (fb++[B]) (ln.ae.n+1)))[b]? =some (oC (some ga)):=rX (oJ (Jy Z))
    refine dS (IA b U (ak (n:=(ln.ae.n+1)) 11 U sq) nZ dc I I) ?_
    refine dS (fI b 0 (Value.map (some ga)) U bX (ak (n:=(eh (fb++[B]) (ln.ae.n+1)).length) 11 U sm) Bq U dc U)<|cy<|tY 0 U U oM U U fun AS=>?_
    try dsimp only
    refine RK BC<|ar ?_
    have C:(∀ p∈mb,p∈mb)∧(xz (cJ ln ri e tms) b ([]:FM))∧(jP (cJ ln ri e tms) b mb ([]:FM) mb):=by exact ⟨fun p hp=>hp,xz.start,jP.start⟩
    refine vr (ι:={z:FM×FM×(List Nat) // (∀ p∈z.1,p∈mb)∧(xz (cJ ln ri e tms) b z.2.1)∧(jP (cJ ln ri e tms) b mb z.2.1 z.1)}) (fun z=>z.1.2.2.map lp) (fun z=>[(0,(vP gw)),(1,(vP W)),(2,(vI (ln.ae.n:Int))),(3,(vP s)),(52,(vI (ln.ae.n:Int))),(53,(vI (b:Int))),(71,(vP AS))]) (fun z=>[(yo dW AS ga (bQ iV mb) (bQ iV z.1.1) none),(bB (fc nO fs fb b)),(hU dW B (bQ iV z.1.2.1)),(cq s 3 [(vI (b:Int))]),(bB (z.1.2.2.map lU)),(cq gw 276 (cb.cells (cb.mk ln ri (bf.mk e_A e.length e_C) (bf.mk t_A tms.length t_C) (bf.mk fA (ln.ae.n+1) (ln.ae.n+1)) (bf.mk bA (ln.ae.n+1) (ln.ae.n+1))))).ro,(cq W 265 [(vP gw)]),(rd e_A e.length 1 (e.map iC)).ro,(rd t_A tms.length 1 (List.zipWith gv tms tb)).ro,(eH (aU rH tms tb)).ro,(own bA (ln.ae.n+1) 280 1 (List.map oC (List.replicate (ln.ae.n+1) (none:Option Nat)))),(own fA (ln.ae.n+1) 280 1 (List.map oC (eh (fb++[B]) (ln.ae.n+1))))]) (fun z=>z.1.1.length) ⟨(mb,([]:FM),By),C⟩ U (aN U) (aD [0,1,2,3,4,5,6,7,8,9,10,11]) ?_
    clear C
    rintro ⟨⟨left,m,AM⟩,⟨c,d,g⟩⟩ J26 A8
    try dsimp only at c d g
    try dsimp only
    refine WS fun _ AV=>sv oZ.inj (f:=iV) 0 U U U U (fun B2=>?_) (fun t v hm Ax=>?_)
    ·refine aY 1 U<|RK AV<|ai fun _ CP=>aX U<|bj<|aa<|aa<|au<|aB<|KK A_<|ag<|rP 2 [] mn ?_
     refine ax<|It (C':=[(hU dW ga (bQ iV mb)),(bB (fc nO fs fb b)),(hU dW B (bQ iV m)),(cq s 3 [(vI (b:Int))]),(bB (AM.map lU)),(cq gw 276 (cb.cells (cb.mk ln ri (bf.mk e_A e.length e_C) (bf.mk t_A tms.length t_C) (bf.mk fA (ln.ae.n+1) (ln.ae.n+1)) (bf.mk bA (ln.ae.n+1) (ln.ae.n+1))))).ro,(cq W 265 [(vP gw)]),(rd e_A e.length 1 (e.map iC)).ro,(rd t_A tms.length 1 (List.zipWith gv tms tb)).ro,(eH (aU rH tms tb)).ro,(own bA (ln.ae.n+1) 280 1 (List.map oC (List.replicate (ln.ae.n+1) (none:Option Nat)))),(own fA (ln.ae.n+1) 280 1 (List.map oC (eh (fb++[B]) (ln.ae.n+1))))]) 0 U KT U<|HL 1 0 N Z U U U ?_
     try dsimp only
     refine zn (X':=aU nO (fs++[m]) (fb++[B])) 0 1 U U (yi I U) ?_
     try dsimp only
     have Bn:(vI (((b+1):Nat):Int))=(vI ((b:Int)+1)):=by exact cI I
     refine aI (B3 ⟨((b+1),(fs++[m]),(fb++[B]),AM),⟨I,by simp; omega,by simp; omega,M.add AK N d g B2⟩⟩ _ _ _ U os (bY 4<|aO U Bn<|cO.nil _) (aD [2,3,4,5,6,7,8,0,9]))
    try dsimp only
    refine aY 1 U<|RK AV<|ai fun _ BD=>aL U<|WK BD<|ar<|WS fun _ BE=>rS (SX (sD 0 U U U) U U)<|aY 2 U<|AL U sO fun A0=>AL U lh fun A1=>sK U rV U<|HH U DL U U<|RK BE<|WS fun _ BF=>rP 2 [0,1] (mc 8 U (mc 5 U mn)) ?_
    refine cX (tU gw b) (aS) U fun CJ CS=>?_
    obtain ⟨AY,Aa⟩:=CJ
    try dsimp only
    refine RK BF<|ar<|kl 11 U (by exact fun _ h=>h)<|kl 13 U (by exact fun _ h=>h)<|kl 15 U (by exact fun _ h=>h)<|kl 12 U (by exact fun _ h=>h) ?_
    refine m_ (L0:=[(0,(vP gw)),(1,(vP W)),(2,(vI (ln.ae.n:Int))),(3,(vP s)),(4,(vP A0)),(5,(vP A1)),(52,(vI (ln.ae.n:Int))),(53,(vI (b:Int))),(71,(vP AS))]) (F:=[(rd e_A e.length 1 (e.map iC)).ro,(rd t_A tms.length 1 (List.zipWith gv tms tb)).ro,(eH (aU rH tms tb)).ro,(cq gw 276 (cb.cells (cb.mk ln ri (bf.mk e_A e.length e_C) (bf.mk t_A tms.length t_C) (bf.mk fA (ln.ae.n+1) (ln.ae.n+1)) (bf.mk bA (ln.ae.n+1) (ln.ae.n+1))))).ro,(cq AY 265 [(vP gw)]),(cq Aa 3 [(vI (b:Int))])]) (fun k (y:FM)=>(nq (cJ ln ri e tms) b mb left y (t,v) k)) (fun k y=>[(cq A1 3 [(vI v)]),(cq A0 282 (aF.cells t)),(yo dW AS ga (bQ iV mb) (bQ iV (ct left t)) (some (t,(vI v)))),(bB (fc nO fs fb b)),(hU dW B (bQ iV y)),(cq s 3 [(vI (b:Int))]),(bB (AM.map lU)),(cq gw 276 (cb.cells (cb.mk ln ri (bf.mk e_A e.length e_C) (bf.mk t_A tms.length t_C) (bf.mk fA (ln.ae.n+1) (ln.ae.n+1)) (bf.mk bA (ln.ae.n+1) (ln.ae.n+1))))).ro,(cq W 265 [(vP gw)]),(rd e_A e.length 1 (e.map iC)).ro,(rd t_A tms.length 1 (List.zipWith gv tms tb)).ro,(eH (aU rH tms tb)).ro,(own bA (ln.ae.n+1) 280 1 (List.map oC (List.replicate (ln.ae.n+1) (none:Option Nat)))),(own fA (ln.ae.n+1) 280 1 (List.map oC (eh (fb++[B]) (ln.ae.n+1))))]) (fun _ (_:Unit)=>False) (fun _ _=>[]) [6,7,8,9,10,11,12,13,14,15,16,17,18,19] [3,2,1,0,4,5] m rfl rfl (r8 ln ri e tms e_A e_C tb t_A t_C fA (ln.ae.n+1) (ln.ae.n+1) bA (ln.ae.n+1) (ln.ae.n+1) gw b AY Aa I I) rfl rfl rfl (by exact nq.start d g) (by simp only [List.forall_mem_cons,List.not_mem_nil,false_imp_iff,implies_true,and_true]; exact ⟨⟨_,aR (i:=0) rfl,(dA (bO _))⟩,⟨_,aR (i:=1) rfl,(dA (bO _))⟩,⟨_,aR (i:=2) rfl,(dA (bO _))⟩,⟨_,aR (i:=3) rfl,(dA (bO _))⟩,⟨_,aR (i:=4) rfl,(bO _)⟩,⟨_,aR (i:=5) rfl,(bO _)⟩⟩) (by rintro k x k2 ⟨o,_,rfl,_⟩; rfl) rfl (aN rfl) ?_ ?_ (fun _ _ _ h=>h.elim) (fun _ _ h=>h.elim)
    rotate_left 1
    ·rintro CE k O AJ Aq
     have D:=Aq
     try dsimp only
     refine aB<|aB<|HK (X:=AM.map lU) 13 0 U U ?_
     try dsimp only
     refine gP 9 U wZ U ?_
     refine aI (A8 ⟨((ct left t),O,(CE::AM)),⟨l9 c,D.on,D.next Ax hm AJ⟩⟩ _ _ _ U (eI hm) (aN U) (aD [9,10,11,12,0,4,14,1,2,3,18,19]))
    rintro k x k2 O l ra rb S w1 K39 Qr40 CB hx Ap BG H CH CM
    obtain ⟨o,ho,rfl,rfl⟩:=hx
    have D:=Ap
    try dsimp only
    refine WS fun _ BH=>rP 1 [] mn ?_
    refine RK BH<|ag<|AL U dk fun CU=>fq U cu U<|ax<|jF (fun _ _ h=>h) (aD [1,0,2,3,4,5,6,7,8,9,10,11,12,13,14,15])<|aI (BG _ _ ?_)
    refine ar<|ai fun _ BJ=>dp cf [16,18] [] [] [0,1,2,3,4,5,6,7,8,9,10,11,12,13,14,15] [] U U U U U<|eS U (C9 2 U bX U)<|eS U (C9 10 U bX U)<|eS U (SX (bL U U) U U)<|eS U (FA 10 U e_ U)<|eS U (HG (vS e_A e.length e_C) 9 U bX U U)<|eS U (C9 7 U bX U) ?_
    obtain ⟨y,hy⟩:=aG e b I
    have Ay:=bG iC hy
    refine eS U (IA b U (ay 11 U) di dc I I)<|eS U (fI b 0 (vI y) U bX (ay 11 U) Ay U dc U) ?_
    have B7:=hw.least y (aR hy)
    have hp:=M.mem N (c _ hm)
    have B6:=J0 hw _ _ hp
    have B_:=ub o.1
    have CA:=hw.opt ho
    have Ca:=hw.now
    dsimp only at B6
    refine eS U (BI U (iP ⟨I,I⟩))<|eS U (FA 0 U e_ U)<|eS U (L1 (vI o.2.Lo) 1 U bX U U)<|eS U (MX U)<|eS U (LW 3 U bX U U)<|eS U (MV U)<|eS U (CL (Km o.1) (aS) U)<|eS U (CL (vy t (eQ o.1) I I) (aS) U)<|eS U (AG U)<|eu U<|bS U fun T45 Bd=>AL U sO fun CV=>ax (Bd _ _ (aD [1,2,3,4,5,6,7,8,9,10,11,12,13,14,15,16]) ?_)
    refine bS U fun T47 Be=>fq U rV U<|ax (Be _ _ (aD [1,2,3,4,5,6,7,8,9,10,11,12,13,14,15,16]) ?_)
    refine eY U<|KK BJ<|ai fun _ BK=>cS cf 15 kr<|l0 1 [] (mc 11 U mn) U<|dS (SX (bL U U) U U)<|dP 4 [0,1] (mr 10 U (mc 8 U mn)) ?_
    have Br:(List.map oC (eh (fb++[B]) (ln.ae.n+1)))[(b+1)]? =some (oC (some B)):=rX (oJ (zV I))
    refine dS (IA (b+1) U (ak (n:=(ln.ae.n+1)) 16 U sq) nZ dc I I) ?_
    refine dS (fI (b+1) 0 (Value.map (some B)) U bX (ak (n:=(eh (fb++[B]) (ln.ae.n+1)).length) 16 U sm) Br U dc U)<|l0 1 [] (mc 0 U mn) U<|dS (SX (jd (kV:=dW) (x:=(dg t (eQ o.1))) (l:=O) (f:=iV) (z:=0) U U U oM oZ T1 (by exact ay 7 U)) U U)<|lq 5 U<|cy<|RK BK<|ai fun _ AD=>cS cf 19 kr<|l0 4 [0,1] (mc 2 U (mc 11 U mn)) U<|dS (SX (bL U U) U U)<|l0 3 [] (mr 10 U mn) U<|dS (MN U)<|dP 2 [] mn ?_
    refine j2 (t:=121) U (aQ fun P=>?_) (aP fun P=>?_)
    ·refine dP 8 [] mn ?_
     refine cy<|RK AD<|aX U<|bM<|aB ?_
     exact H O _ _ (by exact D.skip (K9 hy P)) (aD [1,3,4,5,6,7,8,9,10,11,12,13,14,15,16])
    refine dP 3 [] mn ?_
    refine iO (t:=124) U (fun R=>?_) (fun R=>?_)
    ·rw [Bool.not_eq_true'] at R
     refine lq 5 U<|cy<|RK AD<|aL U<|cS cf 10 kr<|l0 1 [] (mc 11 U mn) U<|dS (SX (bL U U) U U)<|dP 4 [0,1] (mr 10 U (mc 8 U mn)) ?_
     have Bs:(List.map oC (eh (fb++[B]) (ln.ae.n+1)))[(b+1)]? =some (oC (some B)):=rX (oJ (zV I))
     refine dS (IA (b+1) U (ak (n:=(ln.ae.n+1)) 16 U sq) nZ dc I I) ?_
     refine dS (fI (b+1) 0 (Value.map (some B)) U bX (ak (n:=(eh (fb++[B]) (ln.ae.n+1)).length) 16 U sm) Bs U dc U)<|dP 2 [] (mc 0 U mn) ?_
     refine cy<|jw (kV:=dW) (x:=(dg t (eQ o.1))) (C':=[_,_,_,_,_,_,_,(hU dW B (bQ iV (er O (dg t (eQ o.1)) (max (v+y) o.2.Lo)))),_,_,_,_,_,_,_,_,_]) 7 U U U U oM oZ U (gT _ _ _ _).symm U<|ax<|aB ?_
     exact H (er O (dg t (eQ o.1)) (max (v+y) o.2.Lo)) _ _ (by exact D.set hp ho (z6 hy P) (.inl (by simpa using R))) (aD [1,3,4,5,6,7,8,9,10,11,12,13,14,15,16])
    rw [Bool.not_eq_false'] at R
    refine dP 5 [] mn ?_
    refine cy<|RK AD<|bE U (aQ fun u=>?_) (aP fun u=>?_)
    ·refine bM<|aB ?_
     exact H O _ _ (by exact D.oq (z6 hy P) (by simpa using R) u) (aD [1,3,4,5,6,7,8,9,10,11,12,13,14,15,16])
    refine cS cf 10 kr<|l0 1 [] (mc 11 U mn) U<|dS (SX (bL U U) U U)<|dP 4 [0,1] (mr 10 U (mc 8 U mn)) ?_
    have Bt:(List.map oC (eh (fb++[B]) (ln.ae.n+1)))[(b+1)]? =some (oC (some B)):=rX (oJ (zV I))
    refine dS (IA (b+1) U (ak (n:=(ln.ae.n+1)) 16 U sq) nZ dc I I) ?_
    refine dS (fI (b+1) 0 (Value.map (some B)) U bX (ak (n:=(eh (fb++[B]) (ln.ae.n+1)).length) 16 U sm) Bt U dc U)<|dP 2 [] (mc 0 U mn) ?_
    refine cy<|jw (kV:=dW) (x:=(dg t (eQ o.1))) (C':=[_,_,_,_,_,_,_,(hU dW B (bQ iV (er O (dg t (eQ o.1)) (max (v+y) o.2.Lo)))),_,_,_,_,_,_,_,_,_]) 7 U U U U oM oZ U (gT _ _ _ _).symm U<|ax<|aB ?_
    exact H (er O (dg t (eQ o.1)) (max (v+y) o.2.Lo)) _ _ (by exact D.set hp ho (z6 hy P) (.inr u)) (aD [1,3,4,5,6,7,8,9,10,11,12,13,14,15,16])
   refine bj<|aa<|aa<|au<|KK Ah<|WS fun _ AE=>rP 1 [] mn ?_
   refine AL U lh fun Bz=>HH U DL U U<|RK AE<|ar ?_
   rw [G_]
   refine kW ?_
   have C:(0≤ln.ae.n+1)∧(([]:List FM).length=0)∧(([]:List Nat).length=0)∧(gY (cJ ln ri e tms) (ln.ae.n+1-0) ([]:List FM)):=by exact ⟨Nat.zero_le _,rfl,rfl,gY.none_⟩
   refine vr (ι:={z:Nat×(List FM)×(List Nat)×Nat×(List Nat) // (z.1≤ln.ae.n+1)∧(z.2.1.length=z.1)∧(z.2.2.1.length=z.1)∧(gY (cJ ln ri e tms) (ln.ae.n+1-z.1) z.2.1)}) (fun z=>z.1.2.2.2.2.map lp) (fun z=>[(0,(vP gw)),(1,(vP W)),(2,(vI (ln.ae.n:Int))),(12,(Value.pointer (some ⟨z.1.2.2.2.1,0,none⟩)))]) (fun z=>[(bB (aU nO z.1.2.1 z.1.2.2.1)),(cq z.1.2.2.2.1 3 [(vI ((ln.ae.n:Int)-(z.1.1:Int)))]),(bB (z.1.2.2.2.2.map lU)),(cq gw 276 (cb.cells (cb.mk ln ri (bf.mk e_A e.length e_C) (bf.mk t_A tms.length t_C) (bf.mk fA (ln.ae.n+1) (ln.ae.n+1)) (bf.mk bA (ln.ae.n+1) (ln.ae.n+1))))).ro,(cq W 265 [(vP gw)]),(rd e_A e.length 1 (e.map iC)).ro,(rd t_A tms.length 1 (List.zipWith gv tms tb)).ro,(eH (aU rH tms tb)).ro,(own bA (ln.ae.n+1) 280 1 (List.map oC (gX z.1.2.2.1 (ln.ae.n+1)))),(bB (aU nO fs fb)),(own fA (ln.ae.n+1) 280 1 (List.map oC (eh fb (ln.ae.n+1))))]) (fun z=>ln.ae.n+1-z.1.1) ⟨(0,([]:List FM),([]:List Nat),Bz,By),C⟩ U (aN U) (aD [0,1,2,3,4,5,6,7,8,9,10]) ?_
   clear C
   rintro ⟨⟨j,bs,bb,gq,q⟩,⟨AP,AQ,AR,E⟩⟩ J57 AU
   try dsimp only at AP AQ AR E
   try dsimp only
   refine ai fun _ AF=>WS fun _ AH=>rP 2 [] (mc 1 U mn) ?_
   refine RK AH<|bE U (aQ fun A5=>?_) (aP fun A5=>?_)
   ·refine bj<|aa<|aa<|au ?_
    rw [show (List.map oC (eh fb (ln.ae.n+1)))=(List.zipWith gv fs fb) from by rw [zc I]; exact (zP I).symm]
    rw [show (List.map oC (gX bb (ln.ae.n+1)))=(List.zipWith gv bs bb) from by rw [Gy I]; exact (zP I).symm]
    refine zS (C1:=[(own fA (ln.ae.n+1) 280 1 (List.zipWith gv fs fb)),(bB (aU nO fs fb)),(own bA (ln.ae.n+1) 280 1 (List.zipWith gv bs bb)),(bB (aU nO bs bb)),(bB (q.map lU))]) hz [10,9,8,0,2] U U (by simp only [dY,List.all_nil,KO,Mp,Bool.and_true]; rfl) ?_
    rw [show (cq gw 276 (cb.cells (cb.mk ln ri (bf.mk e_A e.length e_C) (bf.mk t_A tms.length t_C) (bf.mk fA (ln.ae.n+1) (ln.ae.n+1)) (bf.mk bA (ln.ae.n+1) (ln.ae.n+1)))))=(cq gw 276 (cb.cells (cb.mk ln ri (bf.mk e_A e.length e_C) (bf.mk t_A tms.length t_C) (bf.mk fA fs.length (ln.ae.n+1)) (bf.mk bA bs.length (ln.ae.n+1))))) from by rw [show fs.length=(ln.ae.n+1) from by omega,show bs.length=(ln.ae.n+1) from by omega]]
    refine O5 [(cq gw 276 (cb.cells (cb.mk ln ri (bf.mk e_A e.length e_C) (bf.mk t_A tms.length t_C) (bf.mk fA fs.length (ln.ae.n+1)) (bf.mk bA bs.length (ln.ae.n+1))))),(own fA (ln.ae.n+1) 280 1 (List.zipWith gv fs fb)),(bB (aU nO fs fb)),(own bA (ln.ae.n+1) 280 1 (List.zipWith gv bs bb)),(bB (aU nO bs bb))] [(bB (q.map lU))] ?_
    refine hN _ _ _ (KM 1 U U<|g3 (vs:=[]) trivial fun w hs=>Si (fs,fb,fA,(ln.ae.n+1),bs,bb,bA,(ln.ae.n+1)) 0 ?_ ?_ U (by show List.all _ _=true; simp only [dY,List.all_nil,KO,Bool.and_true]; rfl) hs)
    ·clear hs w hQ hN AH AF AE AC Aj Ai Ah Af Ac; rfl
    ·clear hs w hQ hN AH AF AE AC Aj Ai Ah Af Ac; exact ⟨M.ok (by show fs.length=e.length+1; omega),gY.ok (by have:=E; rwa [show ln.ae.n+1-j=0 by omega] at this) (by show bs.length=e.length+1; omega),dso,dso⟩
   refine WK AF<|ai fun _ AW=>ar<|ai fun _ BL=>?_
   obtain ⟨b,CX⟩: ∃ b:Nat,b+j=ln.ae.n:=⟨ln.ae.n-j,I⟩
   rw [show (ln.ae.n:Int)-(j:Int)=(b:Int) from by omega]
   have CR:(gX bb (ln.ae.n+1)).length=(ln.ae.n+1):=yj I
   refine dp cf [5,12,13,15] [11] [0,1,2] [0,1,2,3,4,5,6,7,9,10] [0,1,2,3,4,5,6,7,8,9,10] U U U U U<|eS U (C9 4 U bX U)<|eS U (SX (bL U U) U U)<|eS U (FA 13 U e_ U)<|eS U (HG (vS bA (ln.ae.n+1) (ln.ae.n+1)) 3 U bX U U)<|eS U (C9 1 U bX U)<|eS U (SX (bq (xs:=[]) (cs:=(aF.cells (aF.mk 0 0))) U U (br AA U)) U U)<|eS U (C9 4 U bX U)<|eS U (SX (bL U U) U U)<|eS U (FA 7 U e_ U)<|eS U (FA 8 U e_ U)<|eS U (HG (vI ri.fK) 3 U bX U U) ?_
   obtain ⟨CG,Bw⟩:=aG (gX bb (ln.ae.n+1)) b I
   have hx63m:(List.map oC (gX bb (ln.ae.n+1)))[b]? =some (oC CG):=by rw [fj,Bw]; rfl
   refine fS U (IA b U (ak (n:=(ln.ae.n+1)) 8 U sq) nZ dc I I) ?_
   refine eu U<|gl U fun T64 Bf=>nA (kV:=dW) U U fun A=>?_
   try dsimp only
   refine ax (Bf _ _ (aD [1,2,3,4,5,6,7,8,10,11]) (aD [1,2,3,4,5,6,7,8,9,10,11]) ?_)
   refine gl U fun T66 Bg=>?_
   have Bo:(er ([]:List (aF×Int)) (aF.mk 0 0) ri.fK)=[((aF.mk 0 0),ri.fK)]:=by rfl
   refine zr (kV:=dW) (x:=(aF.mk 0 0)) (C':=[(hU dW A (bQ iV ([((aF.mk 0 0),ri.fK)]))),_,_,_,_,_,_,_,_,_,_,_]) 0 U U U U oM oZ U ((gT _ _ _ _).symm.trans (congrArg _ Bo)) U<|ax (Bg _ _ (aD [1,2,3,4,5,6,7,8,10,11]) (aD [1,2,3,4,5,6,7,8,9,10,11]) ?_)
   refine gl U fun T68 Bh=>rS (MV U)<|ax (Bh _ _ (aD [1,2,3,4,5,6,7,8,10,11]) (aD [1,2,3,4,5,6,7,8,9,10,11]) ?_)
   refine bS U fun T69 Bj=>?_
   have Bp:((gX bb (ln.ae.n+1)).set b (some A))=(gX (A::bb) (ln.ae.n+1)):=by exact FT I
   refine c_ (k:=b) (o:=0) (vs:=[(Value.map (some A))]) (es':=(List.map oC (gX (A::bb) (ln.ae.n+1)))) (C':=[_,_,_,_,_,_,_,_,_,(own bA (ln.ae.n+1) 280 1 (List.map oC (gX (A::bb) (ln.ae.n+1)))),_,_]) 9 U U U Ir U U U U hx63m U dc (by exact (List.map_set (f:=oC) (l:=(gX bb (ln.ae.n+1))) (i:=b) (a:=(some A))).symm.trans (congrArg _ Bp)) U<|ax (Bj _ _ (aD [1,2,3,4,5,6,7,8,10,11]) ?_)
   refine eY U<|KK BL<|ai fun _ BM=>WS fun _ BN=>rP 3 [] (mc 2 U mn) ?_
   refine RK BN<|cK U (aP fun A6=>?_) (aQ fun A6=>?_)
   ·refine bj<|aa<|au<|KK AW<|ai fun _ BO=>WS fun _ BP=>e7 1 [] (mc 2 U mn) U<|RK BP<|ag<|AL U lh fun B0=>HH U DL U U<|RK BO<|ag<|rP 2 [] (mc 0 U mn) ?_
    refine HH U DL U U<|ax ?_
    rw [show (b:Int)-1=(ln.ae.n:Int)-(((j+1):Nat):Int) from by omega]
    refine yv (ms:=bs) (m:=[((aF.mk 0 0),ri.fK)]) (a:=A) 2 1 U U U ?_
    try dsimp only
    refine aI (AU ⟨((j+1),([((aF.mk 0 0),ri.fK)]::bs),(A::bb),B0,q),⟨I,by simp; omega,by simp; omega,by exact gY.end_ (b:=b) E I I (by show e.length≤b; omega)⟩⟩ _ _ _ U os (aN U) (aD [0,1,3,4,5,6,7,8,9,10,11]))
   refine WK BM<|ai fun _ BQ=>?_
   have B9:(gX (A::bb) (ln.ae.n+1)).length=(ln.ae.n+1):=yj (by simp; omega)
   obtain ⟨mb,N⟩:=aG bs 0 I
   obtain ⟨ga,Z⟩:=aG bb 0 I
   refine Fa 1 N Z U U U ?_
   try dsimp only
   refine cS cf 8 kr<|l0 1 [] (mc 6 U mn) U<|dS (SX (bL U U) U U)<|dP 4 [0,1] (mr 5 U (mc 3 U mn)) ?_
   have Bu:(List.map oC (gX (A::bb) (ln.ae.n+1)))[(b+1)]? =some (oC (some ga)):=rX (sX (i:=1) (by simpa using Z) (by simp; omega))
   refine dS (IA (b+1) U (ak (n:=(ln.ae.n+1)) 10 U sq) nZ dc I I) ?_
   refine dS (fI (b+1) 0 (Value.map (some ga)) U bX (ak (n:=(gX (A::bb) (ln.ae.n+1)).length) 10 U sm) Bu U dc U)<|cy<|tY 0 U U oM U U fun AT=>?_
   try dsimp only
   refine RK BQ<|ar ?_
   have C:(∀ p∈mb,p∈mb)∧(vg (cJ ln ri e tms) b ([((aF.mk 0 0),ri.fK)]))∧(jz (cJ ln ri e tms) b mb ([((aF.mk 0 0),ri.fK)]) mb):=by exact ⟨fun p hp=>hp,vg.start (by show b<e.length; omega),jz.start⟩
   refine vr (ι:={z:FM×FM×(List Nat) // (∀ p∈z.1,p∈mb)∧(vg (cJ ln ri e tms) b z.2.1)∧(jz (cJ ln ri e tms) b mb z.2.1 z.1)}) (fun z=>z.1.2.2.map lp) (fun z=>[(0,(vP gw)),(1,(vP W)),(2,(vI (ln.ae.n:Int))),(12,(vP gq)),(171,(vP AT))]) (fun z=>[(yo dW AT ga (bQ iV mb) (bQ iV z.1.1) none),(bB (fc nO bs bb 0)),(hU dW A (bQ iV z.1.2.1)),(cq gq 3 [(vI (b:Int))]),(bB (z.1.2.2.map lU)),(cq gw 276 (cb.cells (cb.mk ln ri (bf.mk e_A e.length e_C) (bf.mk t_A tms.length t_C) (bf.mk fA (ln.ae.n+1) (ln.ae.n+1)) (bf.mk bA (ln.ae.n+1) (ln.ae.n+1))))).ro,(cq W 265 [(vP gw)]),(rd e_A e.length 1 (e.map iC)).ro,(rd t_A tms.length 1 (List.zipWith gv tms tb)).ro,(eH (aU rH tms tb)).ro,(own bA (ln.ae.n+1) 280 1 (List.map oC (gX (A::bb) (ln.ae.n+1)))),(bB (aU nO fs fb)),(own fA (ln.ae.n+1) 280 1 (List.map oC (eh fb (ln.ae.n+1))))]) (fun z=>z.1.1.length) ⟨(mb,[((aF.mk 0 0),ri.fK)],q),C⟩ U (aN U) (aD [0,1,2,3,4,5,6,7,8,9,10,11,12]) ?_
   clear C
   rintro ⟨⟨left,m,V⟩,⟨J,K,L⟩⟩ J80 A9
   try dsimp only at J K L
   try dsimp only
   refine WS fun _ AX=>sv oZ.inj (f:=iV) 0 U U U U (fun A7=>?_) (fun t v hm Ax=>?_)
   ·refine aY 1 U<|RK AX<|ai fun _ CQ=>aX U<|bj<|aa<|aa<|au<|aB<|KK AW<|ai fun _ BR=>WS fun _ BS=>e7 1 [] (mc 3 U mn) U<|RK BS<|ag<|AL U lh fun A2=>HH U DL U U<|RK BR<|ag<|rP 2 [] (mc 0 U mn) ?_
    refine HH U DL U U<|ax<|It (C':=[(cq A2 3 [(vI ((b:Int)-1))]),(hU dW ga (bQ iV mb)),(bB (fc nO bs bb 0)),(hU dW A (bQ iV m)),(cq gq 3 [(vI (b:Int))]),(bB (V.map lU)),(cq gw 276 (cb.cells (cb.mk ln ri (bf.mk e_A e.length e_C) (bf.mk t_A tms.length t_C) (bf.mk fA (ln.ae.n+1) (ln.ae.n+1)) (bf.mk bA (ln.ae.n+1) (ln.ae.n+1))))).ro,(cq W 265 [(vP gw)]),(rd e_A e.length 1 (e.map iC)).ro,(rd t_A tms.length 1 (List.zipWith gv tms tb)).ro,(eH (aU rH tms tb)).ro,(own bA (ln.ae.n+1) 280 1 (List.map oC (gX (A::bb) (ln.ae.n+1)))),(bB (aU nO fs fb)),(own fA (ln.ae.n+1) 280 1 (List.map oC (eh fb (ln.ae.n+1))))]) 1 U KT U<|HL 2 1 N Z U U U ?_
    try dsimp only
    rw [show (b:Int)-1=(ln.ae.n:Int)-(((j+1):Nat):Int) from by omega]
    refine yv (ms:=bs) (m:=m) (a:=A) 0 2 U U U ?_
    try dsimp only
    refine aI (AU ⟨((j+1),(m::bs),(A::bb),A2,V),⟨I,by simp; omega,by simp; omega,by exact gY.more (b:=b) E I I (by show b<e.length; omega) N K L A7⟩⟩ _ _ _ U os (aN U) (aD [0,1,3,4,5,6,7,8,9,10,11]))
   try dsimp only
   refine aY 1 U<|RK AX<|ai fun _ BT=>aL U<|WK BT<|ar<|WS fun _ BV=>rS (SX (sD 0 U U U) U U)<|aY 2 U<|AL U sO fun A3=>AL U lh fun A4=>sK U rV U<|HH U DL U U<|RK BV<|WS fun _ BW=>rP 2 [0,1] (mc 8 U (mc 5 U mn)) ?_
   refine cX (tU gw b) (aS) U fun CK CT=>?_
   obtain ⟨AZ,Ab⟩:=CK
   try dsimp only
   refine RK BW<|ar<|kl 11 U (by exact fun _ h=>h)<|kl 13 U (by exact fun _ h=>h)<|kl 15 U (by exact fun _ h=>h)<|kl 12 U (by exact fun _ h=>h) ?_
   refine m_ (L0:=[(0,(vP gw)),(1,(vP W)),(2,(vI (ln.ae.n:Int))),(12,(vP gq)),(13,(vP A3)),(14,(vP A4)),(171,(vP AT))]) (F:=[(rd e_A e.length 1 (e.map iC)).ro,(rd t_A tms.length 1 (List.zipWith gv tms tb)).ro,(eH (aU rH tms tb)).ro,(cq gw 276 (cb.cells (cb.mk ln ri (bf.mk e_A e.length e_C) (bf.mk t_A tms.length t_C) (bf.mk fA (ln.ae.n+1) (ln.ae.n+1)) (bf.mk bA (ln.ae.n+1) (ln.ae.n+1))))).ro,(cq AZ 265 [(vP gw)]),(cq Ab 3 [(vI (b:Int))])]) (fun k (y:FM)=>(nJ (cJ ln ri e tms) b mb left y (t,v) k)) (fun k y=>[(cq A4 3 [(vI v)]),(cq A3 282 (aF.cells t)),(yo dW AT ga (bQ iV mb) (bQ iV (ct left t)) (some (t,(vI v)))),(bB (fc nO bs bb 0)),(hU dW A (bQ iV y)),(cq gq 3 [(vI (b:Int))]),(bB (V.map lU)),(cq gw 276 (cb.cells (cb.mk ln ri (bf.mk e_A e.length e_C) (bf.mk t_A tms.length t_C) (bf.mk fA (ln.ae.n+1) (ln.ae.n+1)) (bf.mk bA (ln.ae.n+1) (ln.ae.n+1))))).ro,(cq W 265 [(vP gw)]),(rd e_A e.length 1 (e.map iC)).ro,(rd t_A tms.length 1 (List.zipWith gv tms tb)).ro,(eH (aU rH tms tb)).ro,(own bA (ln.ae.n+1) 280 1 (List.map oC (gX (A::bb) (ln.ae.n+1)))),(bB (aU nO fs fb)),(own fA (ln.ae.n+1) 280 1 (List.map oC (eh fb (ln.ae.n+1))))]) (fun _ (_:Unit)=>False) (fun _ _=>[]) [6,7,8,9,10,11,12,13,14,15,16,17,18,19,20] [3,2,1,0,4,5] m rfl rfl (r8 ln ri e tms e_A e_C tb t_A t_C fA (ln.ae.n+1) (ln.ae.n+1) bA (ln.ae.n+1) (ln.ae.n+1) gw b AZ Ab I I) rfl rfl rfl (by exact nJ.start K L) (by simp only [List.forall_mem_cons,List.not_mem_nil,false_imp_iff,implies_true,and_true]; exact ⟨⟨_,aR (i:=0) rfl,(dA (bO _))⟩,⟨_,aR (i:=1) rfl,(dA (bO _))⟩,⟨_,aR (i:=2) rfl,(dA (bO _))⟩,⟨_,aR (i:=3) rfl,(dA (bO _))⟩,⟨_,aR (i:=4) rfl,(bO _)⟩,⟨_,aR (i:=5) rfl,(bO _)⟩⟩) (by rintro k x k2 ⟨o,_,rfl,_⟩; rfl) rfl (aN rfl) ?_ ?_ (fun _ _ _ h=>h.elim) (fun _ _ h=>h.elim)
   rotate_left 1
   ·rintro Bx k O AJ AO
    have D:=AO
    try dsimp only
    refine aB<|aB<|HK (X:=V.map lU) 13 0 U U ?_
    try dsimp only
    refine gP 9 U wZ U ?_
    refine aI (A9 ⟨((ct left t),O,(Bx::V)),⟨l9 J,D.on,D.next Ax hm AJ⟩⟩ _ _ _ U (eI hm) (aN U) (aD [9,10,11,12,0,4,14,1,2,3,18,19,20]))
   rintro k x k2 O l ra rb S w1 K95 Qr96 CB hx Ar BX Az CI CN
   obtain ⟨o,ho,rfl,rfl⟩:=hx
   have D:=Ar
   try dsimp only
   refine WS fun _ BY=>rP 1 [] mn ?_
   refine RK BY<|ag<|AL U dk fun CW=>fq U cu U<|ax<|jF (fun _ _ h=>h) (aD [1,0,2,3,4,5,6,7,8,9,10,11,12,13,14,15,16])<|aI (BX _ _ ?_)
   refine ar<|ai fun _ Ad=>dp cf [16,18] [] [] [0,1,2,3,4,5,6,7,8,9,10,11,12,13,14,15,16] [] U U U U U<|eS U (C9 2 U bX U)<|eS U (FA 1 U e_ U)<|eS U (L1 (vI o.2.Hi) 1 U bX U U) ?_
   have hp:=E.Ti (b:=b) I N (J _ hm)
   have B5:=KZ hw hp
   have B_:=ub o.1
   have CA:=hw.opt ho
   dsimp only at B5
   refine eS U (MN U)<|eS U (C9 10 U bX U)<|eS U (SX (bL U U) U U)<|eS U (FA 10 U e_ U)<|eS U (HG (vS e_A e.length e_C) 9 U bX U U)<|eS U (C9 7 U bX U) ?_
   obtain ⟨y,hy⟩:=aG e b I
   have Ay:=bG iC hy
   refine eS U (IA b U (ay 11 U) di dc I I)<|eS U (fI b 0 (vI y) U bX (ay 11 U) Ay U dc U) ?_
   have B7:=hw.least y (aR hy)
   refine eS U (BI U (s8 ⟨I,I⟩))<|eS U (LW 3 U bX U U)<|eS U (MV U)<|eS U (CL (Km o.1) (aS) U)<|eS U (CL (vy t (eQ o.1) I I) (aS) U)<|eS U (AG U)<|eu U<|bS U fun T101 Ak=>AL U sO fun CO=>ax (Ak _ _ (aD [1,2,3,4,5,6,7,8,9,10,11,12,13,14,15,16,17]) ?_)
   refine bS U fun T103 Al=>fq U rV U<|ax (Al _ _ (aD [1,2,3,4,5,6,7,8,9,10,11,12,13,14,15,16,17]) ?_)
   refine eY U<|KK Ad<|ai fun _ Ae=>cS cf 14 kr<|l0 1 [] (mc 11 U mn) U<|dS (SX (bL U U) U U)<|dP 3 [0,1] (mr 10 U (mc 8 U mn)) ?_
   have As:(List.map oC (gX (A::bb) (ln.ae.n+1)))[b]? =some (oC (some A)):=rX (sX (i:=0) rfl (by simp; omega))
   refine dS (IA b U (ak (n:=(ln.ae.n+1)) 15 U sq) nZ dc I I) ?_
   refine dS (fI b 0 (Value.map (some A)) U bX (ak (n:=(gX (A::bb) (ln.ae.n+1)).length) 15 U sm) As U dc U)<|l0 1 [] (mc 0 U mn) U<|dS (SX (jd (kV:=dW) (x:=(dg t (eQ o.1))) (l:=O) (f:=iV) (z:=0) U U U oM oZ T1 (by exact ay 7 U)) U U)<|lq 5 U<|cy<|RK Ae<|WS fun _ Y=>e7 3 [0,1] (mc 3 U (mc 2 U mn)) U<|rS (MN U)<|rP 4 [] (mc 2 U mn) ?_
   refine cv (t:=217) U (aQ fun T=>?_) (aP fun T=>?_)
   ·refine rP 8 [] mn ?_
    refine RK Y<|aX U<|bM<|aB ?_
    exact Az O _ _ (by exact D.skip (MP T)) (aD [1,3,4,5,6,7,8,9,10,11,12,13,14,15,16,17])
   refine rP 3 [] mn ?_
   refine cE (t:=220) U (fun AN=>?_) (fun AN=>?_)
   ·rw [Bool.not_eq_true'] at AN
    refine aY 5 U<|RK Y<|aL U<|cS cf 9 kr<|l0 1 [] (mc 11 U mn) U<|dS (SX (bL U U) U U)<|dP 3 [0,1] (mr 10 U (mc 8 U mn)) ?_
    have At:(List.map oC (gX (A::bb) (ln.ae.n+1)))[b]? =some (oC (some A)):=rX (sX (i:=0) rfl (by simp; omega))
    refine dS (IA b U (ak (n:=(ln.ae.n+1)) 15 U sq) nZ dc I I) ?_
    refine dS (fI b 0 (Value.map (some A)) U bX (ak (n:=(gX (A::bb) (ln.ae.n+1)).length) 15 U sm) At U dc U)<|dP 2 [] (mc 0 U mn) ?_
    refine cy<|jw (kV:=dW) (x:=(dg t (eQ o.1))) (C':=[_,_,_,_,_,_,_,(hU dW A (bQ iV (er O (dg t (eQ o.1)) ((min v o.2.Hi)-y)))),_,_,_,_,_,_,_,_,_,_]) 7 U U U U oM oZ U (gT _ _ _ _).symm U<|ax<|aB ?_
    exact Az (er O (dg t (eQ o.1)) ((min v o.2.Hi)-y)) _ _ (by exact D.set (by show b<e.length; omega) hp ho (zM hy T) (.inl (by simpa using AN))) (aD [1,3,4,5,6,7,8,9,10,11,12,13,14,15,16,17])
   rw [Bool.not_eq_false'] at AN
   refine rP 5 [] mn ?_
   refine RK Y<|bE U (aQ fun AB=>?_) (aP fun AB=>?_)
   ·refine bM<|aB ?_
    exact Az O _ _ (by exact D.oq (zM hy T) (by simpa using AN) AB) (aD [1,3,4,5,6,7,8,9,10,11,12,13,14,15,16,17])
   refine cS cf 9 kr<|l0 1 [] (mc 11 U mn) U<|dS (SX (bL U U) U U)<|dP 3 [0,1] (mr 10 U (mc 8 U mn)) ?_
   have Au:(List.map oC (gX (A::bb) (ln.ae.n+1)))[b]? =some (oC (some A)):=rX (sX (i:=0) rfl (by simp; omega))
   refine dS (IA b U (ak (n:=(ln.ae.n+1)) 15 U sq) nZ dc I I) ?_
   refine dS (fI b 0 (Value.map (some A)) U bX (ak (n:=(gX (A::bb) (ln.ae.n+1)).length) 15 U sm) Au U dc U)<|dP 2 [] (mc 0 U mn) ?_
   refine cy<|jw (kV:=dW) (x:=(dg t (eQ o.1))) (C':=[_,_,_,_,_,_,_,(hU dW A (bQ iV (er O (dg t (eQ o.1)) ((min v o.2.Hi)-y)))),_,_,_,_,_,_,_,_,_,_]) 7 U U U U oM oZ U (gT _ _ _ _).symm U<|ax<|aB ?_
   exact Az (er O (dg t (eQ o.1)) ((min v o.2.Hi)-y)) _ _ (by exact D.set (by show b<e.length; omega) hp ho (zM hy T) (.inr AB)) (aD [1,3,4,5,6,7,8,9,10,11,12,13,14,15,16,17])
  refine dp cf [4,11,12,14] [10] [0,1,2] [0,1,2,3,4,6] [0,1,2,3,4,5,6] U U U U U<|eS U (C9 1 U bX U)<|eS U (SX (bL U U) U U)<|eS U (FA 12 U e_ U)<|eS U (HG (vS fA (ln.ae.n+1) (ln.ae.n+1)) 0 U bX U U)<|eS U (SX (bq (xs:=[]) (cs:=(aF.cells (aF.mk 0 0))) U U (br AA U)) U U)<|eS U (C9 1 U bX U)<|eS U (SX (bL U U) U U)<|eS U (FA 7 U e_ U)<|eS U (FA 7 U e_ U)<|eS U (HG (vI ri.Start) 0 U bX U U) ?_
  obtain ⟨x6,CC⟩:=aG (List.replicate (ln.ae.n+1) (none:Option Nat)) 0 I
  have hx7m:(List.map oC (List.replicate (ln.ae.n+1) (none:Option Nat)))[0]? =some (oC x6):=by rw [fj,CC]; rfl
  refine fS U (IA 0 U (ak (n:=(ln.ae.n+1)) 5 U sq) nZ dc U I) ?_
  refine eu U<|gl U fun T8 An=>nA (kV:=dW) U U fun r=>?_
  try dsimp only
  refine ax (An _ _ (aD [1,2,3,4,5,7]) (aD [1,2,3,4,5,6,7]) ?_)
  refine gl U fun T10 G=>?_
  have Bk:(er ([]:List (aF×Int)) (aF.mk 0 0) ri.Start)=[((aF.mk 0 0),ri.Start)]:=by rfl
  refine zr (kV:=dW) (x:=(aF.mk 0 0)) (C':=[(hU dW r (bQ iV ([((aF.mk 0 0),ri.Start)]))),_,_,_,_,_,_,_]) 0 U U U U oM oZ U ((gT _ _ _ _).symm.trans (congrArg _ Bk)) U<|ax (G _ _ (aD [1,2,3,4,5,7]) (aD [1,2,3,4,5,6,7]) ?_)
  refine gl U fun T12 BZ=>rS (MV U)<|ax (BZ _ _ (aD [1,2,3,4,5,7]) (aD [1,2,3,4,5,6,7]) ?_)
  refine bS U fun T13 Ba=>?_
  have Bl:((List.replicate (ln.ae.n+1) (none:Option Nat)).set 0 (some r))=(eh [r] (ln.ae.n+1)):=by rw [zk]; exact uj rfl sm
  refine c_ (k:=0) (o:=0) (vs:=[(Value.map (some r))]) (es':=(List.map oC (eh [r] (ln.ae.n+1)))) (C':=[_,_,_,_,_,_,(own fA (ln.ae.n+1) 280 1 (List.map oC (eh [r] (ln.ae.n+1)))),_]) 6 U U U Ir U U U U hx7m U dc (by exact (List.map_set (f:=oC) (l:=(List.replicate (ln.ae.n+1) (none:Option Nat))) (i:=0) (a:=(some r))).symm.trans (congrArg _ Bl)) U<|ax (Ba _ _ (aD [1,2,3,4,5,7]) ?_)
  refine eY U<|DC<|zn (X:=[]) (X':=aU nO [[((aF.mk 0 0),ri.Start)]] [r]) 0 1 U U U ?_
  try dsimp only
  refine aI (jF (aN U) (aD [1,2,3,4,5,7,0,6]) (B4 ⟨r,trivial⟩))
 refine pD cf [0,1,2,3,5,6,8,9,11,12] [4,7,10,13] [false,false,false,false,false,false,false,false,false,false] [] [(cq W 265 [(vP gw)]),(rd e_A e.length 1 (e.map iC)).ro,(rd t_A tms.length 1 (List.zipWith gv tms tb)).ro,(eH (aU rH tms tb)).ro] [] kr (aD [0,2,3,4]) (aD [])<|eS U (C9 0 U bX U)<|eS U (C9 0 U bX U)<|eS U (MV U)<|eS U (BI U (iP ⟨I,I⟩))<|eS U (MV U)<|eS U (BI U (iP ⟨I,I⟩))<|eS U (SX (bL U U) U U)<|eS U (FA 12 U e_ U)<|eS U (SX (bL U U) U U)<|eS U (FA 13 U e_ U)<|eu U<|oH [4,7] kr (jg ?_<|jg ?_<|rT)
 rotate_left 1
 ·refine NO U U [4,10,13] fun T5 Am=>?_
  refine sP (n:=(ln.ae.n+1)) (es:=(List.map oC (List.replicate (ln.ae.n+1) (none:Option Nat)))) U U U BU I I (by simp only [maxLen]; omega) (by rw [List.map_replicate]; rfl) U fun b6=>?_
  try dsimp only
  refine ax (Am _ _ (aD [1,3,4,5]) ?_)
  refine N1 4<|NO U U [10,13] fun T7 AI=>?_
  refine sP (n:=(ln.ae.n+1)) (es:=(List.map oC (List.replicate (ln.ae.n+1) (none:Option Nat)))) U U U BU I I (by simp only [maxLen]; omega) (by rw [List.map_replicate]; rfl) U fun b8=>?_
  try dsimp only
  refine ax (AI _ _ (aD [2,4,5,6]) ?_)
  refine N1 10<|NO U U [13] fun T9 Ao=>OY (cb.cells (cb.mk ln ri (bf.mk e_A e.length e_C) (bf.mk t_A tms.length t_C) (bf.mk (some ⟨b8,0,none⟩) (ln.ae.n+1) (ln.ae.n+1)) (bf.mk none 0 0))) U yM U U<|ax (Ao _ _ (aD [2,4,5,6]) ?_)
  refine N1 13<|NO U U [] fun T10 G=>OY (cb.cells (cb.mk ln ri (bf.mk e_A e.length e_C) (bf.mk t_A tms.length t_C) (bf.mk (some ⟨b8,0,none⟩) (ln.ae.n+1) (ln.ae.n+1)) (bf.mk (some ⟨b6,0,none⟩) (ln.ae.n+1) (ln.ae.n+1)))) U yM U U<|ax (G _ _ (aD [2,4,5,6]) ?_)
  refine nR ?_
  refine aI (jF (aN U) (aD [2,4,5,6,0,1,3]) (Ag ⟨((some ⟨b8,0,none⟩),(some ⟨b6,0,none⟩)),trivial⟩))
 refine NO U U [7,10,13] fun T5 Am=>?_
 refine sP (n:=(ln.ae.n+1)) (es:=(List.map oC (List.replicate (ln.ae.n+1) (none:Option Nat)))) U U U BU I I (by simp only [maxLen]; omega) (by rw [List.map_replicate]; rfl) U fun b6=>?_
 try dsimp only
 refine ax (Am _ _ (aD [1,3,4,5]) ?_)
 refine oH [7,10] kr (jg ?_<|jg ?_<|rT)
 rotate_left 1
 ·refine NO U U [7,13] fun T7 AI=>Tc (cb.cells (cb.mk ln ri (bf.mk e_A e.length e_C) (bf.mk t_A tms.length t_C) (bf.mk (some ⟨b6,0,none⟩) (ln.ae.n+1) (ln.ae.n+1)) (bf.mk none 0 0))) U yM U U<|ax (AI _ _ (aD [1,3,4,5]) ?_)
  refine N1 7<|NO U U [13] fun T8 An=>?_
  refine sP (n:=(ln.ae.n+1)) (es:=(List.map oC (List.replicate (ln.ae.n+1) (none:Option Nat)))) U U U BU I I (by simp only [maxLen]; omega) (by rw [List.map_replicate]; rfl) U fun r=>?_
  try dsimp only
  refine ax (An _ _ (aD [2,4,5,6]) ?_)
  refine N1 13<|NO U U [] fun T10 G=>OY (cb.cells (cb.mk ln ri (bf.mk e_A e.length e_C) (bf.mk t_A tms.length t_C) (bf.mk (some ⟨b6,0,none⟩) (ln.ae.n+1) (ln.ae.n+1)) (bf.mk (some ⟨r,0,none⟩) (ln.ae.n+1) (ln.ae.n+1)))) U yM U U<|ax (G _ _ (aD [2,4,5,6]) ?_)
  refine nR ?_
  refine aI (jF (aN U) (aD [2,4,5,6,1,0,3]) (Ag ⟨((some ⟨b6,0,none⟩),(some ⟨r,0,none⟩)),trivial⟩))
 refine NO U U [10,13] fun T7 AI=>?_
 refine sP (n:=(ln.ae.n+1)) (es:=(List.map oC (List.replicate (ln.ae.n+1) (none:Option Nat)))) U U U BU I I (by simp only [maxLen]; omega) (by rw [List.map_replicate]; rfl) U fun b8=>?_
 try dsimp only
 refine ax (AI _ _ (aD [2,4,5,6]) ?_)
 refine N1 10<|NO U U [13] fun T9 Ao=>OY (cb.cells (cb.mk ln ri (bf.mk e_A e.length e_C) (bf.mk t_A tms.length t_C) (bf.mk (some ⟨b6,0,none⟩) (ln.ae.n+1) (ln.ae.n+1)) (bf.mk none 0 0))) U yM U U<|ax (Ao _ _ (aD [2,4,5,6]) ?_)
 refine N1 13<|NO U U [] fun T10 G=>OY (cb.cells (cb.mk ln ri (bf.mk e_A e.length e_C) (bf.mk t_A tms.length t_C) (bf.mk (some ⟨b6,0,none⟩) (ln.ae.n+1) (ln.ae.n+1)) (bf.mk (some ⟨b8,0,none⟩) (ln.ae.n+1) (ln.ae.n+1)))) U yM U U<|ax (G _ _ (aD [2,4,5,6]) ?_)
 refine nR ?_
 refine aI (jF (aN U) (aD [2,4,5,6,1,0,3]) (Ag ⟨((some ⟨b6,0,none⟩),(some ⟨b8,0,none⟩)),trivial⟩))
end
section
open Go.RowKit
theorem DQ (l:aW) (kA:OA) (kC:Nat) (az:List RA) (cA:OA) (cC:Nat) (bA:OA) (bC g1:Nat) (bm:Int) (g2:Nat) (hin:ej l az):
 eA Tryz.prog 206 [(vP g1),(vP g2)] [(rd kA l.aM.length 9 (l.aM.map al.cells)),(rd cA l.aj.length 2 (List.zipWith ao.cells l.aj az)),(eH (aU ao.gh l.aj az)),(rd bA l.ae.length 4 (l.ae.map bI.cells)),(cq g1 28 (bT.cells (kH l kA kC cA cC bA bC))),(cq g2 3 [(vI bm)])] (vI (jJ l bm)):=by
 have K:=hin.rK
 have J:=hin.rD
 have H:=hin.mE
 have AA:=hin.ry
 refine bH kr Tryz.func206 U U fun L Q hQ hN=>?_
 try dsimp only
 refine WS fun _ B=>aY 1 U<|RK B<|ai fun _ C=>WS fun _ D=>rP 5 [0,1] (mr 4 U (mr 5 U mn)) ?_
 refine eX (xs:=[.tmp 7]) (cs:=[(vI bm)]) U di lh U U U U (by simp [Value.cells]) U U fun G=>?_
 refine rS (CL (eA.eq (iD 0 ((l.ae.length:Int)-1) ([bm]) (some ⟨G,0,none⟩) 1 (by (simp; done))) dj) (aC (a_ 0 U U (by simp [bU]) U)<|aS) U) ?_
 refine rP 1 [] mn ?_
 refine RK D<|cK U (bg fun A=>?_) (bh fun A=>?_)
 ·refine WS fun _ E=>rP 1 [] mn ?_
  refine RK E<|an<|Q1 hQ U U U ?_
  exact cI (if_neg I).symm
 refine WK C<|WS fun _ F=>rP 1 [] mn ?_
 refine RK F<|an<|Q1 hQ U U U ?_
 exact cI (if_pos I).symm
end
section
open Go.RowKit
theorem My (l:aW) (kA:OA) (kC:Nat) (az:List RA) (cA:OA) (cC:Nat) (bA:OA) (bC:Nat) (r:cx) (sgA:OA) (sgC:Nat) (f:Value) (X:aw) (me:Int) (gm:Nat) (hf:Dc Tryz.prog f [] [X] (.int .i64 me)) (hin:ej l az) (hsl:r.ah.length≤1000000):
 lg Tryz.prog 205 [(vA (bT.cells (kH l kA kC cA cC bA bC))),(vA (ew.cells (lv r sgA sgC))),(vS (some ⟨gm,0,none⟩) 1 1)] [(rd kA l.aM.length 9 (l.aM.map al.cells)),(rd cA l.aj.length 2 (List.zipWith ao.cells l.aj az)),(eH (aU ao.gh l.aj az)),(rd bA l.ae.length 4 (l.ae.map bI.cells)),(rd sgA r.ah.length 2 (r.ah.map aK.cells)),X,(cq gm 268 [f])] (fun (x:Bool×Int×Nat×(OA)×Nat×(OA)×Nat×(List Nat)×(List FM)×(List Nat)×(OA)×Nat×(List FM)×(List Nat)×(OA)×Nat)=>bif x.1 then (vT [(Value.pointer (some ⟨x.2.2.1,0,none⟩)),(vI 0)]) else (vT [(Value.pointer none),(vI x.2.1)])) (fun (x:Bool×Int×Nat×(OA)×Nat×(OA)×Nat×(List Nat)×(List FM)×(List Nat)×(OA)×Nat×(List FM)×(List Nat)×(OA)×Nat)=>(x.1=true→(eB l r me=0∧xq (cw l r) x.2.2.2.2.2.2.2.2.1∧uo (cw l r) x.2.2.2.2.2.2.2.2.2.2.2.2.1∧x.2.2.2.2.2.2.2.2.2.1.length=x.2.2.2.2.2.2.2.2.1.length∧x.2.2.2.2.2.2.2.2.2.2.2.2.2.1.length=x.2.2.2.2.2.2.2.2.2.2.2.2.1.length∧x.2.2.2.2.2.2.2.1.length=(dU l r.ah r.ah.length).length))∧(x.1=false→(x.2.1=eB l r me∧ ¬ eB l r me=0))) (fun (x:Bool×Int×Nat×(OA)×Nat×(OA)×Nat×(List Nat)×(List FM)×(List Nat)×(OA)×Nat×(List FM)×(List Nat)×(OA)×Nat)=>bif x.1 then [(cq x.2.2.1 276 (cb.cells (cb.mk (kH l kA kC cA cC bA bC) (lv r sgA sgC) (bf.mk x.2.2.2.1 ((cL l l.ae.length).length) x.2.2.2.2.1) (bf.mk x.2.2.2.2.2.1 ((dU l r.ah r.ah.length).length) x.2.2.2.2.2.2.1) (bf.mk x.2.2.2.2.2.2.2.2.2.2.1 x.2.2.2.2.2.2.2.2.1.length x.2.2.2.2.2.2.2.2.2.2.2.1) (bf.mk x.2.2.2.2.2.2.2.2.2.2.2.2.2.2.1 x.2.2.2.2.2.2.2.2.2.2.2.2.1.length x.2.2.2.2.2.2.2.2.2.2.2.2.2.2.2)))),(own x.2.2.2.1 x.2.2.2.2.1 3 1 ((cL l l.ae.length).map iC)),(own x.2.2.2.2.2.1 x.2.2.2.2.2.2.1 86 1 (List.zipWith gv (dU l r.ah r.ah.length) x.2.2.2.2.2.2.2.1)),(bB (aU rH (dU l r.ah r.ah.length) x.2.2.2.2.2.2.2.1)),(own x.2.2.2.2.2.2.2.2.2.2.1 x.2.2.2.2.2.2.2.2.2.2.2.1 280 1 (List.zipWith gv x.2.2.2.2.2.2.2.2.1 x.2.2.2.2.2.2.2.2.2.1)),(bB (aU nO x.2.2.2.2.2.2.2.2.1 x.2.2.2.2.2.2.2.2.2.1)),(own x.2.2.2.2.2.2.2.2.2.2.2.2.2.2.1 x.2.2.2.2.2.2.2.2.2.2.2.2.2.2.2 280 1 (List.zipWith gv x.2.2.2.2.2.2.2.2.2.2.2.2.1 x.2.2.2.2.2.2.2.2.2.2.2.2.2.1)),(bB (aU nO x.2.2.2.2.2.2.2.2.2.2.2.2.1 x.2.2.2.2.2.2.2.2.2.2.2.2.2.1))] else []):=by
 have B3:=hin.rK
 have B1:=hin.rD
 have Bz:=hin.mE
 have B0:=hin.ry
 have B2:=hin.side
 refine db kr Tryz.func205 U U fun w0 Q hQ hN=>?_
 try dsimp only
 refine WS fun _ Bb=>fm U fun b2=>fm U fun b3=>aY 2 U<|RK Bb<|ai fun _ Bc=>WS fun _ Bd=>e7 1 [] (mc 1 U mn) U<|rS (CL (AB l kA kC az cA cC bA bC hin) (aZ [2,3,4,5]) U)<|aY 1 U<|RK Bd<|WS fun _ Be=>rP 2 [] mn ?_
 refine RK Be<|cK U (bg fun j=>?_) (bh fun j=>?_)
 ·refine WS fun _ Bf=>rP 3 [] mn ?_
  refine RK Bf<|an<|LX hQ (false,(du l),0,none,0,none,0,[],[],[],none,0,[],[],none,0) [] [] mn U (by rfl) U U ?_
  exact vj<|HE (nS (r:=r) (me:=me) j) j
 refine WK Bc<|ai fun _ Bg=>WS fun _ AD=>?_
 have C:du l=0:=j
 obtain ⟨BL,d⟩:=gF C
 have Bi:=d.head
 unfold gi at Bi
 refine rP 2 [] (mc 0 U mn) ?_
 refine eX (xs:=[.tmp 24]) (cs:=[(vI r.Start)]) U di lh U U U U (by simp [Value.cells]) U U fun BR=>?_
 refine rS (CL (eA.eq (iD 0 86400000 ([r.Start]) (some ⟨BR,0,none⟩) 1 (by (simp; done))) dj) (aC (a_ 0 U U (by simp [bU]) U)<|aS) U) ?_
 refine rP 2 [] mn ?_
 refine cE (t:=28) U (bg fun BV=>?_) (bh fun BV=>?_)
 ·refine aY 14 U<|RK AD<|aL U<|WS fun _ AO=>rP 2 [] mn ?_
  refine RK AO<|an<|LX hQ (false,51,0,none,0,none,0,[],[],[],none,0,[],[],none,0) [] [] mn U (by rfl) U U ?_
  exact vj<|od (iY (me:=me) C (fun q:eW l r=>by have q1:=q.time; have q2:=q.len; omega))
 refine rP 4 [] (mc 1 U mn) ?_
 refine eX (xs:=[.tmp 32]) (cs:=[(vI r.fK)]) U di lh U U U U (by simp [Value.cells]) U U fun BS=>?_
 refine rS (CL (eA.eq (iD r.Start 86400000 ([r.fK]) (some ⟨BS,0,none⟩) 1 (by (simp; done))) dj) (aC (a_ 0 U U (by simp [bU]) U)<|aS) U) ?_
 refine rP 3 [] mn ?_
 refine cE (t:=37) U (bg fun BX=>?_) (bh fun BX=>?_)
 ·refine aY 5 U<|RK AD<|aL U<|WS fun _ AP=>rP 2 [] mn ?_
  refine RK AP<|an<|LX hQ (false,51,0,none,0,none,0,[],[],[],none,0,[],[],none,0) [] [] mn U (by rfl) U U ?_
  exact vj<|od (iY (me:=me) C (fun q:eW l r=>by have q1:=q.time; have q2:=q.len; omega))
 refine rP 5 [] (mc 2 U mn) ?_
 refine RK AD<|cK U (aP fun BY=>?_) (aQ fun BY=>?_)
 ·refine WS fun _ AQ=>rP 2 [] mn ?_
  refine RK AQ<|an<|LX hQ (false,51,0,none,0,none,0,[],[],[],none,0,[],[],none,0) [] [] mn U (by rfl) U U ?_
  exact vj<|od (iY (me:=me) C (fun q:eW l r=>by have q1:=q.time; have q2:=q.len; omega))
 refine WK Bg<|WS fun _ AR=>rS (SX (bq (xs:=[(0,.const (vI (-1)))]) (cs:=(aK.cells (aK.mk (-1) 0))) U U (br Rv U)) U U)<|AL U Kg fun V=>fq U wT U<|RK AR<|ai fun _ AS=>dp cf [5,6,7,8] [] [] [0,1,2,3,4,5,6,7,8,9,10,11] [] U U U U U<|eS U (LW 4 U bX U U)<|eS U (LW 3 U bX U U)<|eS U (FA 3 U e_ U)<|eS U (L1 (vS bA l.ae.length bC) 4 U bX U U)<|eS U (LN U Pa)<|eu U<|bS U fun T18 Az=>?_
 refine sP (n:=l.ae.length) (es:=(List.map oC (List.replicate l.ae.length (none:Option Nat)))) U U U QD I I (by simp only [maxLen]; omega) (by rw [List.map_replicate]; rfl) U fun B=>?_
 try dsimp only
 refine ax (Az _ _ (aD [1,2,3,4,5,6,7,8,9,10,11,12]) ?_)
 refine bS U fun T20 A0=>rS (SX (bq (xs:=[(0,.tmp 44),(1,.tmp 45),(3,.tmp 49)]) (cs:=(cb.cells (cb.mk (kH l kA kC cA cC bA bC) (lv r sgA sgC) (bf.mk none 0 0) (bf.mk (some ⟨B,0,none⟩) l.ae.length l.ae.length) (bf.mk none 0 0) (bf.mk none 0 0)))) U U (br Qh U)) U U)<|ax (A0 _ _ (aD [1,2,3,4,5,6,7,8,9,10,11,12]) ?_)
 refine bS U fun T21 A1=>fm U fun Bu=>ax (A1 _ _ (aD [2,3,4,5,6,7,8,9,10,11,12,13]) ?_)
 refine bS U fun T23 A2=>rS (AG U)<|ax (A2 _ _ (aD [2,3,4,5,6,7,8,9,10,11,12,13]) ?_)
 refine eY U<|KK AS<|ai fun _ AT=>WS fun _ AU=>rP 4 [] (mc 6 U mn) ?_
 refine RK AU<|ar ?_
 rw [zk]
 refine eP 3 1<|kW ?_
 have E:(0≤l.ae.length)∧(([]:List Nat).length=0):=by exact ⟨Nat.zero_le _,rfl⟩
 refine bx (ι:={z:Nat×(OA)×Nat×(List Nat) // (z.1≤l.ae.length)∧(z.2.2.2.length=z.1)}) [2,3,4,6,7,9,10,54] [4,7,8,9,10,11,12,13,14,15] U U (fun z=>[(55,(vI (z.1.1:Int)))]) (fun z=>[(bB (aU rH (List.replicate z.1.1 ([]:TM)) z.1.2.2.2)),(own z.1.2.1 z.1.2.2.1 3 1 ((cL l z.1.1).map iC)),(cq Bu 276 (cb.cells (cb.mk (kH l kA kC cA cC bA bC) (lv r sgA sgC) (bf.mk z.1.2.1 ((cL l z.1.1).length) z.1.2.2.1) (bf.mk (some ⟨B,0,none⟩) l.ae.length l.ae.length) (bf.mk none 0 0) (bf.mk none 0 0)))),(own (some ⟨B,0,none⟩) l.ae.length 86 1 (List.map oC (eh z.1.2.2.2 l.ae.length)))]) (fun _=>rfl) (fun _=>rfl) (fun z=>l.ae.length-z.1.1) ⟨(0,none,0,([]:List Nat)),E⟩ (aN U) (aD [4,7,8,9,10,11,12,13,14,15,0,1,2,3]) ?_
 clear E
 rintro ⟨⟨b,a,c,fb⟩,⟨AE,Y⟩⟩ J26 AN
 try dsimp only at AE Y
 try dsimp only
 have Bj:(eh fb l.ae.length).length=l.ae.length:=qX I
 refine WS fun _ AV=>rP 1 [] mn ?_
 refine RK AV<|ai fun _ AW=>cK U (aP fun BW=>?_) (aQ fun BW=>?_)
 ·refine WK AW<|ai fun _ AX=>ar<|WS fun _ AY=>rP 2 [] mn ?_
  refine RK AY<|ai fun _ AZ=>dp cf [12,13,16] [4] [0] [0,1,2,3,4,5,6,7,8,9,10,13] [0,1,2,3,4,5,6,7,8,9,10,11,12,13] U U U U U<|eS U (MV U)<|eS U (MV U)<|eS U (SX (bL U U) U U)<|eS U (FA 10 U e_ U)<|fS U (L1 (vS a ((cL l b).length) c) 12 U bX U U)<|eS U (LW 2 U bX U U)<|eS U (MV U)<|eS U (CL (N2 l kA kC az cA cC bA bC (b:Int) hin asm (by exact d.vh) I) (aZ [3,4,5,6]) U) ?_
  have B4:=E9 BL d.vh b
  have B5:=d.PZ b I
  simp only [Int.toNat_natCast]
  refine eS U (BI U (FG ⟨I,I⟩))<|eS U (FA 1 U e_ U)<|eS U (L1 (vI l.gG) 2 U bX U U) ?_
  refine eS U (CL (NR (1000*(mQ l (b:Int).toNat)) l.gG I (by (simp; omega))) (aS) U) ?_
  refine eS U (SX (bL U U) U U)<|eS U (FA 10 U e_ U)<|eu U<|gl U fun T33 A3=>eX (xs:=[.tmp 69]) (cs:=[(vI (o8 (1000*(mQ l (b:Int).toNat)) l.gG))]) U di lh U U U U (by simp [Value.cells]) U U fun Bv=>ax (A3 _ _ (aD [1,2,3,4,5,6,7,8,9,10,11,14]) (aD [1,2,3,4,5,6,7,8,9,10,11,12,13,14]) ?_)
  refine bS U fun T35 A4=>?_
  refine cp (es2:=(List.map iC (cL l (b+1)))) (m':=(cL l (b+1)).length) 12 U U U mJ U U (by simp [dT]) (a_ (es:=List.map iC [(o8 (1000*(mQ l (b:Int).toNat)) l.gG)]) 0 U U (by simp [bU]) U) (g_ _) (by have:=dT (l:=l) (n:=b); first|omega|(simp; omega)) (by simp only [maxLen,dT]; omega) (by rw [uO]; simp [dN]) (by simp [dT]) U fun e g=>?_
  try dsimp only
  refine ax (A4 _ _ (aD [1,2,3,4,5,6,7,8,9,10,11,14]) ?_)
  refine bS U fun T38 A5=>iB (vs:=[(vS e ((cL l (b+1)).length) g)]) (cs':=(cb.cells (cb.mk (kH l kA kC cA cC bA bC) (lv r sgA sgC) (bf.mk e ((cL l (b+1)).length) g) (bf.mk (some ⟨B,0,none⟩) l.ae.length l.ae.length) (bf.mk none 0 0) (bf.mk none 0 0)))) (C':=[_,_,_,_,_,_,_,_,_,_,_,_,_,(cq Bu 276 (cb.cells (cb.mk (kH l kA kC cA cC bA bC) (lv r sgA sgC) (bf.mk e ((cL l (b+1)).length) g) (bf.mk (some ⟨B,0,none⟩) l.ae.length l.ae.length) (bf.mk none 0 0) (bf.mk none 0 0)))),_]) 13 U U U wq U U U U U U U<|ax (A5 _ _ (aD [1,2,3,4,5,6,7,8,9,10,11,14]) ?_)
  refine eY U<|KK AZ<|ag<|aY 1 U<|rS (SX (bL U U) U U)<|rP 3 [] (mc 13 U mn) ?_
  refine nA (kV:=iV) U U fun J=>?_
  try dsimp only
  obtain ⟨Bn,BN⟩:=aG (eh fb l.ae.length) b I
  have hx41m:(List.map oC (eh fb l.ae.length))[b]? =some (oC Bn):=by rw [fj,BN]; rfl
  refine rS (IA b U (ak (n:=l.ae.length) 15 U sq) EN dc I I) ?_
  have A6:((eh fb l.ae.length).set b (some J))=(eh (fb++[J]) l.ae.length):=by exact uj I I
  refine c_ (k:=b) (o:=0) (vs:=[(Value.map (some J))]) (es':=(List.map oC (eh (fb++[J]) l.ae.length))) (C':=[_,_,_,_,_,_,_,_,_,_,_,_,_,_,_,(own (some ⟨B,0,none⟩) l.ae.length 86 1 (List.map oC (eh (fb++[J]) l.ae.length)))]) 15 U U U OO U U U U hx41m U dc (by exact (List.map_set (f:=oC) (l:=(eh fb l.ae.length)) (i:=b) (a:=(some J))).symm.trans (congrArg _ A6)) U<|ax<|aB<|KK AX<|ag<|rP 2 [] mn ?_
  refine ax<|zn (X':=aU rH (List.replicate (b+1) ([]:TM)) (fb++[J])) 12 0 U U (LF Y) ?_
  try dsimp only
  have A7:(vI (((b+1):Nat):Int))=(vI ((b:Int)+1)):=by exact cI I
  refine aI (AN ⟨((b+1),e,g,(fb++[J])),⟨I,by simp; omega⟩⟩ _ _ _ U os (bY 8<|aO U A7<|cO.nil _) (aD [2,3,4,5,6,7,8,9,10,11,0,12,13,14]))
 refine bj<|aa<|aa<|au<|KK AT<|ai fun _ Aa=>WS fun _ Ab=>rP 4 [] (mc 1 U mn) ?_
 refine RK Ab<|ar ?_
 rw [show (List.replicate b ([]:TM))=dU l r.ah 0 from by rw [Dv,show b=l.ae.length by omega]]
 rw [show cL l b=cL l l.ae.length from by rw [show b=l.ae.length by omega]]
 have E:(0≤r.ah.length)∧(qh l r.ah 0):=by exact ⟨Nat.zero_le _,yF⟩
 refine bx (ι:={z:Nat // (z≤r.ah.length)∧(qh l r.ah z)}) [2,3,4,6,7,9,10,83,84] [1,2,3,4,5,6,7,8,9,11,12,13] U U (fun z=>[(85,(vI (z.1:Int)))]) (fun z=>[(cq V 165 (aK.cells (o5 r.ah z.1))),(bB (aU rH (dU l r.ah z.1) fb))]) (fun _=>rfl) (fun _=>rfl) (fun z=>r.ah.length-z.1) ⟨0,E⟩ (aN U) (aD [1,2,3,4,5,6,7,8,9,11,12,13,0,10]) ?_
 clear E
 rintro ⟨i,⟨BQ,A⟩⟩ J46 T
 try dsimp only
 have Bk:(dU l r.ah i).length=l.ae.length:=i_
 have Bj:(eh fb l.ae.length).length=l.ae.length:=qX I
 refine WS fun _ Ac=>rP 1 [] mn ?_
 refine RK Ac<|ai fun _ Ad=>bE U (aQ fun BZ=>?_) (aP fun BZ=>?_)
 ·refine bj<|aa<|aa<|au<|KK Aa<|ai fun _ An=>ai fun _ Ao=>?_
  have p:eW l r:=Cu I I A I
  refine ag<|aY 3 U<|RK Ao<|ar<|nx 2<|fz fun R81 Ay=>WS fun _ Ap=>rS (SX (cM (r:= .bool true) U U U jG) U U)<|RK Ap<|ai fun _ Aq=>aL U<|WK Aq<|ai fun _ Ar=>ar<|WS fun _ As=>rS (Us 0 0 U Ns U dc U)<|e7 2 [] (mr 8 U mn) U<|RK As<|WS fun _ At=>aY 1 U<|rS (SX (sk U U U (hf) (aZ [7])) U U)<|aY 1 U<|RK At<|WS fun _ Au=>rP 2 [] mn ?_
  refine RK Au<|cK U (bg fun K=>?_) (bh fun K=>?_)
  ·refine WS fun _ Av=>rP 3 [] mn ?_
   refine RK Av<|an<|LX hQ (false,me,0,none,0,none,0,[],[],[],none,0,[],[],none,0) [] [] mn U (by rfl) U U ?_
   exact vj<|HE (qv C p K) K
  refine bM<|aB<|KK Ar<|ag<|rS (SX (cM (r:= .int .i64 1) U U U (iP ⟨dc,dc⟩)) U U)<|rP 1 [] mn ?_
  refine RK Ay<|fz fun R89 Br=>WS fun _ Aw=>rS (SX (cM (r:= .bool false) U U U jG) U U)<|RK Aw<|ai fun _ Bq=>aX U<|bj<|aa<|aa<|au<|KK An<|ai fun _ Ax=>?_
  rw [show dU l r.ah i=dU l r.ah r.ah.length from by rw [show i=r.ah.length by omega]]
  have AH:(dU l r.ah r.ah.length).length=l.ae.length:=i_
  rw [show (List.map oC (eh fb l.ae.length))=(List.zipWith gv (dU l r.ah r.ah.length) fb) from TK I AH]
  rw [show (cq Bu 276 (cb.cells (cb.mk (kH l kA kC cA cC bA bC) (lv r sgA sgC) (bf.mk a ((cL l l.ae.length).length) c) (bf.mk (some ⟨B,0,none⟩) l.ae.length l.ae.length) (bf.mk none 0 0) (bf.mk none 0 0))))=(cq Bu 276 (cb.cells (cb.mk (kH l kA kC cA cC bA bC) (lv r sgA sgC) (bf.mk a ((cL l l.ae.length).length) c) (bf.mk (some ⟨B,0,none⟩) ((dU l r.ah r.ah.length).length) l.ae.length) (bf.mk none 0 0) (bf.mk none 0 0)))) from by rw [AH]]
  have BM:=o2 BL d p
  have Bs:(cL l l.ae.length).length=l.ae.length:=dT
  refine ag<|rP 1 [] mn ?_
  refine j8 10 U U U U (Ij (kH l kA kC cA cC bA bC) (lv r sgA sgC) (cL l l.ae.length) (dU l r.ah r.ah.length) a c fb (some ⟨B,0,none⟩) l.ae.length Bu (by exact BM) (by exact dT.symm) (by rw [AH]; omega)) U (dM 9 U U (j1 sm) (dM 11 U U (j1 (by rw [List.length_zipWith]; omega)) (dM 13 U U tw lG))) U (fun BO Bh=>?_)
  obtain ⟨G,S,P,R,F,O,N,H⟩:=BO
  refine MQ (X:=[(cq Bu 276 (cb.cells (cb.mk (kH l kA kC cA cC bA bC) (lv r sgA sgC) (bf.mk a ((cL l l.ae.length).length) c) (bf.mk (some ⟨B,0,none⟩) ((dU l r.ah r.ah.length).length) l.ae.length) (bf.mk P G.length R) (bf.mk N F.length H)))),(own P R 280 1 (List.zipWith gv G S)),(bB (aU nO G S)),(own N H 280 1 (List.zipWith gv F O)),(bB (aU nO F O))]) 10 U U ?_
  try dsimp only
  obtain ⟨AF,BH,BJ,BK⟩:=Bh
  dsimp only at AF BH BJ BK
  refine RK Ax<|ai fun _ w=>WS fun _ y=>rP 1 [] mn ?_
  refine cX (FZ (kH l kA kC cA cC bA bC) (lv r sgA sgC) (cL l l.ae.length) (dU l r.ah r.ah.length) a c fb (some ⟨B,0,none⟩) l.ae.length G F S P R O N H Bu (by exact BM) (by (simp; omega)) (by exact dT.symm) (by exact AF) asm) (aC (ak (n:=(cL l l.ae.length).length) 14 U sm)<|aC (ak (n:=(dU l r.ah r.ah.length).length) 15 U (by rw [List.length_zipWith]; omega))<|aC (eN 17 U xN)<|aC (ak (n:=G.length) 1 U (by rw [List.length_zipWith]; omega))<|aC (eN 2 U xN)<|aC (ak (n:=F.length) 3 U (by rw [List.length_zipWith]; omega))<|aC (eN 4 U xN)<|fG 0 U U<|aS) U fun BP Bm=>?_
  obtain ⟨Bo,Bp⟩:=BP
  try dsimp only
  refine rP 2 [] mn ?_
  refine RK y<|bE U (aQ fun W=>?_) (aP fun W=>?_)
  ·refine WK w<|WS fun _ AC=>rP 3 [] mn ?_
   refine RK AC<|an ?_
   refine LX hQ (true,0,Bu,a,c,(some ⟨B,0,none⟩),l.ae.length,fb,G,S,P,R,F,O,N,H) [1,15,16,18,2,3,4,5] [] mn U (by (show List.all _ _=true; simp only [cond_true,dY,List.all_nil,KO,QR,Bool.and_true]; rfl)) U U ?_
   exact ⟨fun _=>⟨mV C p (by first|rfl|exact K) (fun q=>W (congrArg (fun z:List Int=>(z.length:Int)) q)),AF,BH,BJ,BK,dso⟩,Lw⟩
  refine WS fun _ AA=>rP 2 [] mn ?_
  refine RK AA<|an<|LX hQ (false,8,0,none,0,none,0,[],[],[],none,0,[],[],none,0) [] [] mn U (by rfl) U U ?_
  exact vj<|od (pL (me:=me) C p (by first|rfl|exact K) (show jW (cw l r)=[] from jH (Int.natCast_eq_zero.1 W)))
 refine WK Ad<|ai fun _ Bt=>ar<|WS fun _ Ae=>rP 1 [] mn ?_
 obtain ⟨x,hx⟩:=aG r.ah i I
 have Bl:=bG aK.cells hx
 refine rS (IA i U (ay 6 U) wv dc I I)<|rS (l4 i 0 (aK.cells x) U bX (ay 6 U) Bl U dc U U)<|AL U Kg fun Bw=>aY 1 U<|fq U wT U<|RK Ae<|ai fun _ s=>WS fun _ L=>rP 6 [0,1] (mc 2 U (mc 0 U mn)) ?_
 refine eX (xs:=[.tmp 95]) (cs:=[(vI x.fM)]) U di lh U U U U (by simp [Value.cells]) U U fun BT=>?_
 refine rS (CL (eA.eq (iD 0 ((l.ae.length:Int)-1) ([x.fM]) (some ⟨BT,0,none⟩) 1 (by (simp; done))) dj) (aC (a_ 0 U U (by simp [bU]) U)<|aS) U) ?_
 refine rP 2 [] mn ?_
 refine cE (t:=99) U (bg fun Ba=>?_) (bh fun Ba=>?_)
 ·refine aY 27 U<|RK L<|aL U<|WS fun _ Af=>rP 2 [] mn ?_
  refine RK Af<|an<|LX hQ (false,51,0,none,0,none,0,[],[],[],none,0,[],[],none,0) [] [] mn U (by rfl) U U ?_
  exact vj<|od (iY (me:=me) C (vz hx (by unfold kQ mB; omega)))
 refine rP 2 [] (mc 1 U mn) ?_
 refine eX (xs:=[.tmp 101]) (cs:=[(vI x.Read)]) U di lh U U U U (by simp [Value.cells]) U U fun BU=>?_
 refine rS (CL (eA.eq (iD 0 86400000 ([x.Read]) (some ⟨BU,0,none⟩) 1 (by (simp; done))) dj) (aC (a_ 0 U U (by simp [bU]) U)<|aS) U) ?_
 refine rP 3 [] mn ?_
 refine cE (t:=106) U (bg fun AI=>?_) (bh fun AI=>?_)
 ·refine aY 20 U<|RK L<|aL U<|WS fun _ Ag=>rP 2 [] mn ?_
  refine RK Ag<|an<|LX hQ (false,51,0,none,0,none,0,[],[],[],none,0,[],[],none,0) [] [] mn U (by rfl) U U ?_
  exact vj<|od (iY (me:=me) C (vz hx (by unfold kQ mB; omega)))
 refine rP 7 [0,1] (mc 2 U (mc 15 U mn)) ?_
 refine cE (t:=113) U (aP fun AJ=>?_) (aQ fun AJ=>?_)
 ·refine aY 13 U<|RK L<|aL U<|WS fun _ Ah=>rP 2 [] mn ?_
  refine RK Ah<|an<|LX hQ (false,51,0,none,0,none,0,[],[],[],none,0,[],[],none,0) [] [] mn U (by rfl) U U ?_
  exact vj<|od (iY (me:=me) C (vz hx (by unfold kQ mB; omega)))
 refine rP 6 [0,1] (mc 2 U (mc 15 U mn)) ?_
 refine cv (t:=119) U (aQ fun AK=>?_) (aP fun AK=>?_)
 ·refine aY 7 U<|RK L<|aX U<|WK s<|ai fun _ v=>WS fun _ Al=>e7 2 [0,1] (mc 4 U (mc 2 U mn)) U<|rS (CL (Jt l kA kC az cA cC bA bC x hin asm I) (aZ [5,6,7,8]) U)<|AL U dk fun By=>fq U cu U<|RK Al<|WS fun _ Am=>rP 5 [] (mc 0 U mn) ?_
  refine RK Am<|bE U (aQ fun D=>?_) (aP fun D=>?_)
  ·refine WK v<|ag<|rP 1 [] (mc 3 U mn) ?_
   refine iB (vs:=(aK.cells x)) (cs':=(aK.cells x)) (C':=[_,_,_,_,_,_,_,_,_,_,_,_,_,_,_,_,(cq V 165 (aK.cells x)),_]) 16 U U U wT U U U U U U U<|ax<|aB<|KK Bt ?_
   have BD:(aK.cells x)=(aK.cells (o5 r.ah (i+1))):=by rw [pS hx]
   rw [BD]
   refine ag<|rP 2 [] mn ?_
   refine ax ?_
   rw [show (dU l r.ah i)=(dU l r.ah (i+1)) from (xn hx D).symm]
   have BE:(vI (((i+1):Nat):Int))=(vI ((i:Int)+1)):=by exact cI I
   refine aI (T ⟨(i+1),⟨I,lL A hx (by unfold kQ mB; omega)⟩⟩ _ _ _ U os (bY 9<|aO U BE<|cO.nil _) (aD [4,5,6,7,8,9,10,11,12,13,14,15,16,17]))
  obtain ⟨mb,Z⟩:=aG (dU l r.ah i) ((x.fM).toNat) I
  obtain ⟨ga,M⟩:=aG fb ((x.fM).toNat) I
  refine Fa 17 Z M U U U ?_
  try dsimp only
  refine cS cf 10 kr<|lq 1 U<|dS (SX (bL U U) U U)<|dP 4 [0,1] (mc 16 U (mc 5 U mn)) ?_
  have BG:(List.map oC (eh fb l.ae.length))[(x.fM).toNat]? =some (oC (some ga)):=rX (oJ M)
  refine dS (IA ((x.fM).toNat) U (ak (n:=l.ae.length) 17 U sq) EN dc I I) ?_
  refine dS (fI ((x.fM).toNat) 0 (Value.map (some ga)) U bX (ak (n:=(eh fb l.ae.length).length) 17 U sm) BG U dc U)<|l0 2 [] (mc 2 U mn) U<|cy<|jw (kV:=iV) (x:=(i:Int)) (C':=[(hU iV ga (bQ dB (er mb (i:Int) (cR l x)))),_,_,_,_,_,_,_,_,_,_,_,_,_,_,_,_,_,_]) 0 U U U U lH (dG mF) U (gT _ _ _ _).symm U<|RK v<|ag<|rP 1 [] (mc 5 U mn) ?_
  refine iB (vs:=(aK.cells x)) (cs':=(aK.cells x)) (C':=[_,_,_,_,_,_,_,_,_,_,_,_,_,_,_,_,_,_,(cq V 165 (aK.cells x))]) 18 U U U wT U U U U U U U<|ax<|aB<|KK Bt ?_
  have BB:(aK.cells x)=(aK.cells (o5 r.ah (i+1))):=by rw [pS hx]
  rw [BB]
  refine ag<|rP 2 [] mn ?_
  refine ax ?_
  refine KF (f:=rH) (ms:=(dU l r.ah i)) (m:=(er mb (i:Int) (cR l x))) 1 0 (by rw [i_]; omega) M U U U ?_
  rw [yT hx I D Z]
  have BC:(vI (((i+1):Nat):Int))=(vI ((i:Int)+1)):=by exact cI I
  refine aI (T ⟨(i+1),⟨I,lL A hx (by unfold kQ mB; omega)⟩⟩ _ _ _ U os (bY 9<|aO U BC<|cO.nil _) (aD [5,6,7,8,9,10,11,12,13,14,15,16,17,0]))
 refine rP 7 [0,1] (mc 2 U (mc 15 U mn)) ?_
 refine RK L<|cK U (aP fun AM=>?_) (aQ fun AM=>?_)
 ·refine WS fun _ Ai=>rP 2 [] mn ?_
  refine RK Ai<|an<|LX hQ (false,51,0,none,0,none,0,[],[],[],none,0,[],[],none,0) [] [] mn U (by rfl) U U ?_
  exact vj<|od (iY (me:=me) C (vz hx (by unfold kQ mB; omega)))
 refine WK s<|ai fun _ u=>WS fun _ Aj=>e7 2 [0,1] (mc 4 U (mc 2 U mn)) U<|rS (CL (Jt l kA kC az cA cC bA bC x hin asm I) (aZ [5,6,7,8]) U)<|AL U dk fun Bx=>fq U cu U<|RK Aj<|WS fun _ Ak=>rP 5 [] (mc 0 U mn) ?_
 refine RK Ak<|bE U (aQ fun D=>?_) (aP fun D=>?_)
 ·refine WK u<|ag<|rP 1 [] (mc 3 U mn) ?_
  refine iB (vs:=(aK.cells x)) (cs':=(aK.cells x)) (C':=[_,_,_,_,_,_,_,_,_,_,_,_,_,_,_,_,(cq V 165 (aK.cells x)),_]) 16 U U U wT U U U U U U U<|ax<|aB<|KK Bt ?_
  have A_:(aK.cells x)=(aK.cells (o5 r.ah (i+1))):=by rw [pS hx]
  rw [A_]
  refine ag<|rP 2 [] mn ?_
  refine ax ?_
  rw [show (dU l r.ah i)=(dU l r.ah (i+1)) from (xn hx D).symm]
  have BA:(vI (((i+1):Nat):Int))=(vI ((i:Int)+1)):=by exact cI I
  refine aI (T ⟨(i+1),⟨I,lL A hx (by unfold kQ mB; omega)⟩⟩ _ _ _ U os (bY 9<|aO U BA<|cO.nil _) (aD [4,5,6,7,8,9,10,11,12,13,14,15,16,17]))
 obtain ⟨mb,Z⟩:=aG (dU l r.ah i) ((x.fM).toNat) I
 obtain ⟨ga,M⟩:=aG fb ((x.fM).toNat) I
 refine Fa 17 Z M U U U ?_
 try dsimp only
 refine cS cf 10 kr<|lq 1 U<|dS (SX (bL U U) U U)<|dP 4 [0,1] (mc 16 U (mc 5 U mn)) ?_
 have BF:(List.map oC (eh fb l.ae.length))[(x.fM).toNat]? =some (oC (some ga)):=rX (oJ M)
 refine dS (IA ((x.fM).toNat) U (ak (n:=l.ae.length) 17 U sq) EN dc I I) ?_
 refine dS (fI ((x.fM).toNat) 0 (Value.map (some ga)) U bX (ak (n:=(eh fb l.ae.length).length) 17 U sm) BF U dc U)<|l0 2 [] (mc 2 U mn) U<|cy<|jw (kV:=iV) (x:=(i:Int)) (C':=[(hU iV ga (bQ dB (er mb (i:Int) (cR l x)))),_,_,_,_,_,_,_,_,_,_,_,_,_,_,_,_,_,_]) 0 U U U U lH (dG mF) U (gT _ _ _ _).symm U<|RK u<|ag<|rP 1 [] (mc 5 U mn) ?_
 refine iB (vs:=(aK.cells x)) (cs':=(aK.cells x)) (C':=[_,_,_,_,_,_,_,_,_,_,_,_,_,_,_,_,_,_,(cq V 165 (aK.cells x))]) 18 U U U wT U U U U U U U<|ax<|aB<|KK Bt ?_
 have A8:(aK.cells x)=(aK.cells (o5 r.ah (i+1))):=by rw [pS hx]
 rw [A8]
 refine ag<|rP 2 [] mn ?_
 refine ax ?_
 refine KF (f:=rH) (ms:=(dU l r.ah i)) (m:=(er mb (i:Int) (cR l x))) 1 0 (by rw [i_]; omega) M U U U ?_
 rw [yT hx I D Z]
 have A9:(vI (((i+1):Nat):Int))=(vI ((i:Int)+1)):=by exact cI I
 refine aI (T ⟨(i+1),⟨I,lL A hx (by unfold kQ mB; omega)⟩⟩ _ _ _ U os (bY 9<|aO U A9<|cO.nil _) (aD [5,6,7,8,9,10,11,12,13,14,15,16,17,0]))
end
section
open Go.RowKit
theorem JC (l:aW) (kA:OA) (kC:Nat) (az:List RA) (cA:OA) (cC:Nat) (bA:OA) (bC:Nat) (r:cx) (sgA:OA) (sgC:Nat) (bq_:Int) (hin:ej l az) (hsl:r.ah.length≤1000000):
 eA Tryz.prog 204 [(vA (bT.cells (kH l kA kC cA cC bA bC))),(vA (ew.cells (lv r sgA sgC))),(vI bq_)] [(rd kA l.aM.length 9 (l.aM.map al.cells)),(rd cA l.aj.length 2 (List.zipWith ao.cells l.aj az)),(eH (aU ao.gh l.aj az)),(rd bA l.ae.length 4 (l.ae.map bI.cells)),(rd sgA r.ah.length 2 (r.ah.map aK.cells))] (vT [(vA (ab.cells (ff l r bq_))),(vI (eT l r bq_))]):=by
 have A2:=hin.rK
 have Av:=hin.rD
 have Aq:=hin.mE
 have At:=hin.ry
 have A0:=hin.side
 refine bH kr Tryz.func204 U U fun w0 Q hQ hN=>?_
 try dsimp only
 refine WS fun _ AF=>fm U fun b2=>fm U fun b3=>ux U U fun b4=>AL U dk fun b5=>aY 1 U<|RK AF<|WS fun _ p=>rP 2 [0,1] (mc 3 U (mc 2 U mn)) ?_
 refine rS (FU U)<|eX (xs:=[.tmp 17]) (cs:=[(Value.func (.func 206) [].toArray [(vP b2),(vP b4)].toArray)]) U Ns Rg U U U U (by simp [Value.cells]) U U fun b7=>cX (My l kA kC az cA cC bA bC r sgA sgC (Value.func (.func 206) [].toArray [(vP b2),(vP b4)].toArray) (eH [(rd kA l.aM.length 9 (l.aM.map al.cells)),(rd cA l.aj.length 2 (List.zipWith ao.cells l.aj az)),(eH (aU ao.gh l.aj az)),(rd bA l.ae.length 4 (l.ae.map bI.cells)),(cq b2 28 (bT.cells (kH l kA kC cA cC bA bC))),(cq b4 3 [(vI bq_)])]) (jJ l bq_) b7 (by exact ov (fi:=[]) (ca:=[(vP b2),(vP b4)]) (mO (DQ l kA kC az cA cC bA bC b2 bq_ b4 (by first|assumption|omega)) (aZ [0,1,2,3,4,5]))) hin hsl) (nt [5,6,7,8,9]<|aC (mH (aZ [5,6,7,8,4,2]))<|fG 0 U U<|aS) U fun y8 AW=>?_
 obtain ⟨AX,Al,E,H,AD,g,j,m,B,L,J,K,A,G,d,f⟩:=y8
 cases AX
 ·obtain ⟨AS,he⟩:=AW.2 rfl
  try dsimp only at AS he
  subst AS
  try dsimp only [cond_true,cond_false,List.cons_append,List.nil_append]
  refine aY 5 U<|RK p<|ai fun _ Am=>WS fun _ AO=>rP 2 [] mn ?_
  refine RK AO<|bE U (bh fun AN=>?_) (bg fun AN=>?_)
  ·exact absurd AN he
  refine WS fun _ AP=>rS (SX (bq (xs:=[]) (cs:=(ab.cells (ab.mk 0 0))) U U (br gK U)) U U)<|aY 1 U<|sK U cu U<|rP 1 [] mn ?_
  refine RK AP<|an<|mo hQ [0] (mc 1 U mn) U ?_
  (have e:=m7 (b:=bq_) he; rw [e.1,e.2]<;>rfl)
 obtain ⟨he,D,C,Ab,Aa,Ae⟩:=AW.1 rfl
 try dsimp only [cond_true,cond_false,List.cons_append,List.nil_append]
 dsimp only at D C Ab Aa Ae
 obtain ⟨AZ,AJ,Ad,Ax⟩:=jR he
 obtain ⟨Af,AU⟩:=gF AZ
 have Ac:=AU.head
 unfold gi at Ac
 have Ag:=o2 Af AU AJ
 have Az:=AJ.time
 have Ay:=AJ.len
 have AT:(cL l l.ae.length).length=l.ae.length:=dT
 have AV:(dU l r.ah r.ah.length).length=l.ae.length:=i_
 have Aw:B.length=l.ae.length+1:=by have:=D.len; rw [show (cw l r).n=l.ae.length from dT] at this; exact this
 have Au:A.length=l.ae.length+1:=by have:=C.len; rw [show (cw l r).n=l.ae.length from dT] at this; exact this
 obtain ⟨Ar,As⟩:=CX Ad
 obtain ⟨b,AG⟩: ∃ b:Nat,bq_=(b:Int):=⟨bq_.toNat,I⟩
 rw [AG]
 refine aY 5 U<|RK p<|ai fun _ N=>WS fun _ O=>aY 1 U<|rS (SX (cM (r:= .bool false) U U U rQ) U U)<|RK O<|aX U<|WK N<|WS fun _ P=>rS (SX (bq (xs:=[(0,.const (vI 1))]) (cs:=(ab.cells (ab.mk 1 0))) U U (br gK U)) U U)<|AL U dk fun AK=>fq U cu U<|RK P<|WS fun _ R=>e7 1 [] (mc 0 U mn) U<|AL U dk fun AM=>fq U cu U<|RK R<|ai fun _ T=>WS fun _ AC=>rP 2 [] (mc 12 U mn) ?_
 obtain ⟨mf,Y⟩:=aG B b I
 obtain ⟨mb,Z⟩:=aG A (b+1) I
 refine cX (KE E b) (aS) U fun Ai An=>?_
 obtain ⟨AA,AB⟩:=Ai
 try dsimp only
 refine RK AC<|ar ?_
 refine m_ (L0:=[(3,(vP b2)),(4,(vP b3)),(5,(vP b4)),(6,(vP b5)),(7,(vI 0)),(10,(vP AK)),(11,(vP AM))]) (F:=[(own H AD 3 1 ((cL l l.ae.length).map iC)),(own g j 86 1 (List.zipWith gv (dU l r.ah r.ah.length) m)),(bB (aU rH (dU l r.ah r.ah.length) m)),(own J K 280 1 (List.zipWith gv B L)),(bB (aU nO B L)),(own d f 280 1 (List.zipWith gv A G)),(bB (aU nO A G)),(cq E 276 (cb.cells (cb.mk (kH l kA kC cA cC bA bC) (lv r sgA sgC) (bf.mk H ((cL l l.ae.length).length) AD) (bf.mk g ((dU l r.ah r.ah.length).length) j) (bf.mk J B.length K) (bf.mk d A.length f)))),(cq AA 265 [(vP E)]),(cq AB 3 [(vI (b:Int))])]) (fun k (y:ab)=>(kb k y)∧(∀ q∈k,q∈qa (cw l r) b mf mb)) (fun k y=>[(cq AM 47 (ab.cells y)),(cq AK 47 (ab.cells (ab.mk 1 0))),(cq b5 47 (ab.cells (ab.mk 0 0))),(cq b4 3 [(vI (b:Int))]),(cq b3 74 (ew.cells (lv r sgA sgC))),(cq b2 28 (bT.cells (kH l kA kC cA cC bA bC))),(rd kA l.aM.length 9 (l.aM.map al.cells)).ro,(rd cA l.aj.length 2 (List.zipWith ao.cells l.aj az)).ro,(eH (aU ao.gh l.aj az)).ro,(rd bA l.ae.length 4 (l.ae.map bI.cells)).ro,(rd sgA r.ah.length 2 (r.ah.map aK.cells)).ro]) (fun _ (_:Unit)=>False) (fun _ _=>[]) [2,3,13,14,15,16,17,18,19,20,21] [5,6,7,8,9,10,11,4,0,1] mA rfl rfl (F3 (kH l kA kC cA cC bA bC) (lv r sgA sgC) (cL l l.ae.length) (dU l r.ah r.ah.length) H AD m g j B A L J K G d f E b AA AB mf mb (by rw [AT]; omega) (by exact Ag) (by rw [AV]; omega) (by exact D) I (by exact C) I (by show r.ah.length≤1000; omega) (by exact Y) (by exact Z)) rfl rfl rfl (by exact ⟨BT,fun q hq=>by cases hq⟩) (by simp only [List.forall_mem_cons,List.not_mem_nil,false_imp_iff,implies_true,and_true]; exact ⟨⟨_,aR (i:=0) rfl,(j1 sm)⟩,⟨_,aR (i:=1) rfl,(j1 (by rw [List.length_zipWith]; omega))⟩,⟨_,aR (i:=2) rfl,tw⟩,⟨_,aR (i:=3) rfl,(j1 (by rw [List.length_zipWith]; omega))⟩,⟨_,aR (i:=4) rfl,tw⟩,⟨_,aR (i:=5) rfl,(j1 (by rw [List.length_zipWith]; omega))⟩,⟨_,aR (i:=6) rfl,tw⟩,⟨_,aR (i:=7) rfl,(bO _)⟩,⟨_,aR (i:=8) rfl,(bO _)⟩,⟨_,aR (i:=9) rfl,(bO _)⟩⟩) (by rintro k x k2 ⟨o,_,rfl,_⟩; rfl) rfl (aN rfl) ?_ ?_ (fun _ _ _ h=>h.elim) (fun _ _ h=>h.elim)
 ·rintro k x k2 h lr ra rb S w1 K41 Qr42 A1 hx AH AQ X Ah Aj
  obtain ⟨q,hq,rfl,rfl⟩:=hx
  obtain ⟨a,c⟩:=AH
  try dsimp only
  refine ag<|AL U dk fun Ao=>fq U cu U<|ax<|jF (fun _ _ h=>h) (aD [1,0,2,3,4,5,6,7,8,9,10,11,12])<|aI (AQ _ _ ?_)
  refine ar<|ai fun _ s=>WS fun _ AR=>rP 2 [0,1] (mc 2 U (mc 3 U mn)) ?_
  refine rS (BI U (Ru _ _ h (ab.mk 1 0)))<|RK AR<|bE U (bh fun M=>?_) (bg fun M=>?_)
  ·refine WK s<|ag<|rP 1 [] (mc 1 U mn) ?_
   refine Fi U cu U<|ax<|aB ?_
   exact X q.2 _ _ (by refine ⟨yO a (mI hq) ?_,fun z hz=>?_⟩; (first|exact if_neg M|exact if_pos M); (rcases List.mem_append.1 hz with hz|hz; exact c z hz; (rw [List.mem_singleton.1 hz]; exact hq))) (aD [0,2,3,4,5,6,7,8,9,10,11,12])
  refine ag<|e7 4 [0,1] (mc 1 U (mc 2 U mn)) U<|rS (MN U)<|e7 4 [0,1] (mc 1 U (mc 2 U mn)) U<|rS (MX U)<|rS (SX (bq (xs:=[(0,.tmp 40),(1,.tmp 45)]) (cs:=(ab.cells (ab.mk (min q.2.Lo h.Lo) (max q.2.Hi h.Hi)))) U U (br gK U)) U U)<|sK U cu U<|RK s<|ag<|rP 1 [] (mc 1 U mn) ?_
  refine Fi U cu U<|ax<|aB ?_
  exact X (ab.mk (min q.2.Lo h.Lo) (max q.2.Hi h.Hi)) _ _ (by refine ⟨yO a (mI hq) ?_,fun z hz=>?_⟩; (first|exact if_neg M|exact if_pos M); (rcases List.mem_append.1 hz with hz|hz; exact c z hz; (rw [List.mem_singleton.1 hz]; exact hq))) (aD [0,2,3,4,5,6,7,8,9,10,11,12])
 rintro A4 k h v AI
 obtain ⟨a,c⟩:=AI
 try dsimp only
 refine aB<|KK T<|ai fun _ V=>WS fun _ W=>rP 2 [0,1] (mc 11 U (mc 12 U mn)) ?_
 refine rS (BI U (xh _ _ h (ab.mk 1 0)))<|RK W<|bE U (aQ fun AE=>?_) (aP fun AE=>?_)
 ·refine WK V<|WS fun _ u=>e7 1 [] (mc 11 U mn) U<|iB (vs:=(ab.cells h)) (cs':=(ab.cells h)) (C':=[_,_,_,_,_,_,_,_,_,_,_,_,_,(cq b5 47 (ab.cells h)),_,_,_,_,_,_,_,_]) 13 U U U cu U U U U U U U<|rP 1 [] mn ?_
  refine RK u<|an<|hQ _ _ _ (oG 0 U U<|g3 (vs:=[(vA (ab.cells h)),(vI 0)]) ⟨⟨_,U,.inl ⟨_,_,bX,pc (vs:=(ab.cells h)) 13 U U,U,U⟩⟩,U,trivial⟩ fun w hs=>G7 ?_ hs)
  show (vT [(vA (ab.cells h)),(vI 0)])=(vT [(vA (ab.cells (ff l r bq_))),(vI (eT l r bq_))])
  clear hs w hQ hN u W V AC T R P O N p AF
  (rw [AG] at he ⊢; have hh:h=ni l r b:=ze (D.min _ _ Y) (C.max _ _ Z) (D.keys _ _ Y) (C.keys _ _ Z) c v a; (have e:=qs he (fun q=>AE (hh.trans q)); rw [e.1,e.2,hh]<;>rfl))
 refine WS fun _ t=>rS (SX (bq (xs:=[]) (cs:=(ab.cells (ab.mk 0 0))) U U (br gK U)) U U)<|iB (vs:=(ab.cells (ab.mk 0 0))) (cs':=(ab.cells (ab.mk 0 0))) (C':=[_,_,_,_,_,_,_,_,_,_,_,_,_,(cq b5 47 (ab.cells (ab.mk 0 0))),_,_,_,_,_,_,_,_]) 13 U U U cu U U U U U U U<|rP 1 [] mn ?_
 refine RK t<|an<|hQ _ _ _ (oG 0 U U<|g3 (vs:=[(vA (ab.cells (ab.mk 0 0))),(vI 6)]) ⟨⟨_,U,.inl ⟨_,_,bX,pc (vs:=(ab.cells (ab.mk 0 0))) 13 U U,U,U⟩⟩,U,trivial⟩ fun w hs=>G7 ?_ hs)
 show (vT [(vA (ab.cells (ab.mk 0 0))),(vI 6)])=(vT [(vA (ab.cells (ff l r bq_))),(vI (eT l r bq_))])
 clear hs w hQ hN t W V AC T R P O N p AF
 (rw [AG] at he ⊢; have hh:h=ni l r b:=ze (D.min _ _ Y) (C.max _ _ Z) (D.keys _ _ Y) (C.keys _ _ Z) c v a; (have e:=qL he (hh.symm.trans AE); rw [e.1,e.2]<;>rfl))
theorem Sn (l:aW) (kA:OA) (kC:Nat) (az:List RA) (cA:OA) (cC:Nat) (bA:OA) (bC:Nat) (r:cx) (sgA:OA) (sgC:Nat) (hin:ej l az) (hsl:r.ah.length≤1000000):
 eA Tryz.prog 203 [(vA (bT.cells (kH l kA kC cA cC bA bC))),(vA (ew.cells (lv r sgA sgC)))] [(rd kA l.aM.length 9 (l.aM.map al.cells)),(rd cA l.aj.length 2 (List.zipWith ao.cells l.aj az)),(eH (aU ao.gh l.aj az)),(rd bA l.ae.length 4 (l.ae.map bI.cells)),(rd sgA r.ah.length 2 (r.ah.map aK.cells))] (vT [(vA (ab.cells (BK l r))),(vI (eT l r l.cG))]):=by
 have N:=hin.rK
 have J:=hin.rD
 have H:=hin.mE
 have AA:=hin.ry
 have M:=hin.side
 refine bH kr Tryz.func203 U U fun T Q hQ hN=>?_
 try dsimp only
 refine WS fun _ C=>fm U fun O=>fm U fun P=>AL U dk fun R=>aY 1 U<|RK C<|WS fun _ D=>e7 4 [0,1] (mc 2 U (mc 1 U mn)) U<|rS (CL (JC l kA kC az cA cC bA bC r sgA sgC l.cG hin hsl) (aZ [3,4,5,6,7]) U)<|aY 3 U<|AL U dk fun S=>fq U cu U<|aY 1 U<|RK D<|ai fun _ E=>WS fun _ F=>rP 2 [] mn ?_
 refine RK F<|cK U (bg fun A=>?_) (bh fun A=>?_)
 ·refine WS fun _ G=>rS (SX (bq (xs:=[]) (cs:=(ab.cells (ab.mk 0 0))) U U (br gK U)) U U)<|aY 1 U<|sK U cu U<|rP 1 [] mn ?_
  refine RK G<|an<|mo hQ [0] (mc 1 U mn) U ?_
  (rw [Ef A]<;>rfl)
 refine WK E<|WS fun _ B=>rP 4 [0,1] (mc 0 U (mc 2 U mn)) ?_
 have K:=wW A
 have L:=(vd A).time
 refine e7 6 [0,1] (mc 0 U (mc 2 U mn)) U<|rS (SX (bq (xs:=[(0,.tmp 24),(1,.tmp 29)]) (cs:=(ab.cells (ab.mk (((ff l r l.cG).Lo)-r.Start) (((ff l r l.cG).Hi)-r.Start)))) U U (br gK U)) U U)<|sK U cu U<|rP 1 [] mn ?_
 refine RK B<|an<|mo hQ [0] (mc 1 U mn) U ?_
 (rw [DX A,A]<;>rfl)
end
section
open Go.RowKit
theorem MG (l:aW) (kA:OA) (kC:Nat) (az:List RA) (cA:OA) (cC:Nat) (bA:OA) (bC:Nat) (d:av) (sgA:OA) (sgC:Nat) (hin:ej l az):
 eA Tryz.prog 197 [(vA (bT.cells (kH l kA kC cA cC bA bC))),(vA (bp.cells (bp.mk d.Out d.dE d.Time (lv d.bW sgA sgC))))] [(rd kA l.aM.length 9 (l.aM.map al.cells)),(rd cA l.aj.length 2 (List.zipWith ao.cells l.aj az)),(eH (aU ao.gh l.aj az)),(rd bA l.ae.length 4 (l.ae.map bI.cells)),(rd sgA d.bW.ah.length 2 (d.bW.ah.map aK.cells))] (vT [(vA (ab.cells d.Time)),(vB (decide (d.dE=false∧d.Time=fF∧l6 d.bW)))]):=by
 refine bH kr Tryz.func197 U U fun K Q hQ hN=>?_
 try dsimp only
 refine WS fun _ B=>fm U fun H=>fm U fun AA=>AL U dk fun J=>rP 1 [] mn ?_
 refine RK B<|ai fun _ A=>dp cf [15] [] [] [1,2,3,4,5,6,7] [] U U U U U<|eS U (FA 2 U e_ U)<|eS U (LP (ab.cells d.Time) 0 U bX U U U)<|eS U (FA 1 U e_ U)<|eS U (L1 (vB d.dE) 0 U bX U U)<|eS U (NT U)<|eS U (MV U)<|px (t:=11) U (fun G=>?_) (fun G=>?_)
 rotate_left 1
 ·rw [Bool.not_eq_false'] at G
  refine eS U (OX U)<|eS U (OX U)<|eS U (OX U)<|eS U (OX U)<|eS U (PK U)<|eS U (MV U)<|eS U (OX U)<|eS U (OX U)<|eS U (PK U)<|eS U (AG U)<|eu U<|bS U fun T10 C=>fq U cu U<|ax (C _ _ (aD [1,2,3,4,5,6,7]) ?_)
  refine eY U<|KK A<|an<|mo hQ [0] (mc 0 U mn) U ?_
  clear hQ hN C T10 A B
  refine congrArg (fun z=>Value.tuple #[_,vB z]) ?_
  first|rfl|(simp_all [fF]; done)
 rw [Bool.not_eq_true'] at G
 refine eS U (FA 2 U e_ U)<|eS U (LP (ab.cells d.Time) 0 U bX U U U)<|eS U (SX (bq (xs:=[]) (cs:=(ab.cells (ab.mk 0 0))) U U (br gK U)) U U)<|eS U (BI U (xh _ _ d.Time (ab.mk 0 0)))<|eS U (PK U)<|eS U (MV U)<|px (t:=17) U (fun D=>?_) (fun D=>?_)
 rotate_left 1
 ·replace D:=DF D
  refine eS U (OX U)<|eS U (OX U)<|eS U (PK U)<|eS U (AG U)<|eu U<|bS U fun T9 F=>fq U cu U<|ax (F _ _ (aD [1,2,3,4,5,6,7]) ?_)
  refine eY U<|KK A<|an<|mo hQ [0] (mc 0 U mn) U ?_
  clear hQ hN F T9 A B
  refine congrArg (fun z=>Value.tuple #[_,vB z]) ?_
  first|rfl|(simp_all [fF]; done)
 replace D:=DT D
 refine eS U (LW 0 U bX U U)<|eS U (CL (HY d sgA sgC) (aZ [6]) U)<|eS U (PK U)<|eS U (AG U)<|eu U<|bS U fun T8 E=>fq U cu U<|ax (E _ _ (aD [1,2,3,4,5,6,7]) ?_)
 refine eY U<|KK A<|an<|mo hQ [0] (mc 0 U mn) U ?_
 clear hQ hN E T8 A B
 refine congrArg (fun z=>Value.tuple #[_,vB z]) ?_
 first|rfl|(simp_all [fF]; done)
theorem Lz (l:aW) (kA:OA) (kC:Nat) (az:List RA) (cA:OA) (cC:Nat) (bA:OA) (bC:Nat) (d:av) (sgA:OA) (sgC:Nat) (hin:ej l az):
 eA Tryz.prog 200 [(vA (bT.cells (kH l kA kC cA cC bA bC))),(vA (bp.cells (bp.mk d.Out d.dE d.Time (lv d.bW sgA sgC))))] [(rd kA l.aM.length 9 (l.aM.map al.cells)),(rd cA l.aj.length 2 (List.zipWith ao.cells l.aj az)),(eH (aU ao.gh l.aj az)),(rd bA l.ae.length 4 (l.ae.map bI.cells)),(rd sgA d.bW.ah.length 2 (d.bW.ah.map aK.cells))] (vT [(vA (ab.cells d.Time)),(vB (decide (iG d.Time∧l6 d.bW)))]):=by
 refine bH kr Tryz.func200 U U fun AA Q hQ hN=>?_
 try dsimp only
 refine WS fun _ B=>fm U fun F=>fm U fun G=>AL U dk fun H=>rP 1 [] mn ?_
 refine RK B<|ai fun _ A=>dp cf [9] [] [] [1,2,3,4,5,6,7] [] U U U U U<|eS U (FA 2 U e_ U)<|eS U (LP (ab.cells d.Time) 0 U bX U U U)<|eS U (FA 2 U e_ U)<|eS U (LP (ab.cells d.Time) 0 U bX U U U)<|eS U (CL (FQ d.Time) (aS) U)<|eS U (MV U)<|px (t:=11) U (fun C=>?_) (fun C=>?_)
 rotate_left 1
 ·replace C:=DF C
  refine eS U (OX U)<|eS U (OX U)<|eS U (PK U)<|eS U (AG U)<|eu U<|bS U fun T8 E=>fq U cu U<|ax (E _ _ (aD [1,2,3,4,5,6,7]) ?_)
  refine eY U<|KK A<|an<|mo hQ [0] (mc 0 U mn) U ?_
  clear hQ hN E T8 A B
  refine congrArg (fun z=>Value.tuple #[_,vB z]) ?_
  first|rfl|(simp_all; done)
 replace C:=DT C
 refine eS U (LW 0 U bX U U)<|eS U (CL (HY d sgA sgC) (aZ [6]) U)<|eS U (PK U)<|eS U (AG U)<|eu U<|bS U fun T7 D=>fq U cu U<|ax (D _ _ (aD [1,2,3,4,5,6,7]) ?_)
 refine eY U<|KK A<|an<|mo hQ [0] (mc 0 U mn) U ?_
 clear hQ hN D T7 A B
 refine congrArg (fun z=>Value.tuple #[_,vB z]) ?_
 first|rfl|(simp_all; done)
theorem M8 (l:aW) (kA:OA) (kC:Nat) (az:List RA) (cA:OA) (cC:Nat) (bA:OA) (bC:Nat) (d:av) (sgA:OA) (sgC:Nat) (hin:ej l az) (hsl:d.bW.ah.length≤1000000):
 eA Tryz.prog 202 [(vA (bT.cells (kH l kA kC cA cC bA bC))),(vA (bp.cells (bp.mk d.Out d.dE d.Time (lv d.bW sgA sgC))))] [(rd kA l.aM.length 9 (l.aM.map al.cells)),(rd cA l.aj.length 2 (List.zipWith ao.cells l.aj az)),(eH (aU ao.gh l.aj az)),(rd bA l.ae.length 4 (l.ae.map bI.cells)),(rd sgA d.bW.ah.length 2 (d.bW.ah.map aK.cells))] (vT [(vA (ab.cells (BK l d.bW))),(vB (decide (eT l d.bW l.cG=0∧d.Time=fF)))]):=by
 have K:=hin.rK
 have AA:=hin.rD
 have G:=hin.mE
 have H:=hin.ry
 have J:=hin.side
 refine bH kr Tryz.func202 U U fun P Q hQ hN=>?_
 try dsimp only
 refine WS fun _ C=>fm U fun L=>fm U fun M=>AL U dk fun N=>aY 1 U<|RK C<|WS fun _ D=>e7 2 [] (mc 2 U mn) U<|rS (LP (ew.cells (lv d.bW sgA sgC)) 1 U bX U U U)<|rS (CL (Sn l kA kC az cA cC bA bC d.bW sgA sgC hin hsl) (aZ [3,4,5,6,7]) U)<|aY 3 U<|AL U dk fun O=>fq U cu U<|rP 1 [] mn ?_
 refine RK D<|ai fun _ A=>dp cf [9] [] [] [0,2,3,4,5,6,7,8] [] U U U U U<|eS U (LW 0 U bX U U)<|eS U (MV U)<|eS U (BI U qp)<|eS U (MV U)<|px (t:=18) U (fun E=>?_) (fun E=>?_)
 rotate_left 1
 ·replace E:=DF E
  refine eS U (OX U)<|eS U (OX U)<|eS U (OX U)<|eS U (OX U)<|eS U (PK U)<|eS U (AG U)<|eu U<|bS U fun T10 B=>sK U cu U<|ax (B _ _ (aD [0,2,3,4,5,6,7,8]) ?_)
  refine eY U<|KK A<|an<|mo hQ [0] (mc 1 U mn) U ?_
  clear hQ hN B T10 A D C
  refine congrArg (fun z=>Value.tuple #[_,vB z]) ?_
  first|rfl|(simp_all [fF]; done)
 replace E:=DT E
 refine eS U (FA 2 U e_ U)<|eS U (LP (ab.cells d.Time) 1 U bX U U U)<|eS U (SX (bq (xs:=[]) (cs:=(ab.cells (ab.mk 0 0))) U U (br gK U)) U U)<|eS U (BI U (xh _ _ d.Time (ab.mk 0 0)))<|eS U (PK U)<|eS U (AG U)<|eu U<|bS U fun T9 F=>sK U cu U<|ax (F _ _ (aD [0,2,3,4,5,6,7,8]) ?_)
 refine eY U<|KK A<|an<|mo hQ [0] (mc 1 U mn) U ?_
 clear hQ hN F T9 A D C
 refine congrArg (fun z=>Value.tuple #[_,vB z]) ?_
 first|rfl|(simp_all [fF]; done)
theorem GN (d:av) (sgA:OA) (sgC g1:Nat):
 eA Tryz.prog 95 [(vA (mz.cells (mz.mk (Value.func (.func 196) [].toArray [].toArray) (Value.func (.func 197) [].toArray [].toArray)))),(vP g1)] [(rd sgA d.bW.ah.length 2 (d.bW.ah.map aK.cells)),(cq g1 76 (bp.cells (bp.mk d.Out d.dE d.Time (lv d.bW sgA sgC))))] (vB d.Out):=by
 refine bH kr Tryz.func95 U U fun D Q hQ hN=>?_
 try dsimp only
 refine WS fun _ A=>fm U fun C=>aY 1 U<|RK A<|WS fun _ B=>e7 3 [0,1] (mc 0 U (mr 2 U mn)) U<|rS (CL (Re d sgA sgC) (aZ [1]) U)<|rP 1 [] mn ?_
 refine RK B<|an<|Q1 hQ U U U ?_
 rfl
theorem Gr (d:av) (sgA:OA) (sgC g1:Nat):
 eA Tryz.prog 95 [(vA (mz.cells (mz.mk (Value.func (.func 199) [].toArray [].toArray) (Value.func (.func 200) [].toArray [].toArray)))),(vP g1)] [(rd sgA d.bW.ah.length 2 (d.bW.ah.map aK.cells)),(cq g1 76 (bp.cells (bp.mk d.Out d.dE d.Time (lv d.bW sgA sgC))))] (vB d.dE):=by
 refine bH kr Tryz.func95 U U fun D Q hQ hN=>?_
 try dsimp only
 refine WS fun _ A=>fm U fun C=>aY 1 U<|RK A<|WS fun _ B=>e7 3 [0,1] (mc 0 U (mr 2 U mn)) U<|rS (CL (Qc d sgA sgC) (aZ [1]) U)<|rP 1 [] mn ?_
 refine RK B<|an<|Q1 hQ U U U ?_
 rfl
theorem F_ (d:av) (sgA:OA) (sgC g1:Nat):
 eA Tryz.prog 95 [(vA (mz.cells (mz.mk (Value.func (.func 201) [].toArray [].toArray) (Value.func (.func 202) [].toArray [].toArray)))),(vP g1)] [(rd sgA d.bW.ah.length 2 (d.bW.ah.map aK.cells)),(cq g1 76 (bp.cells (bp.mk d.Out d.dE d.Time (lv d.bW sgA sgC))))] (vB true):=by
 refine bH kr Tryz.func95 U U fun D Q hQ hN=>?_
 try dsimp only
 refine WS fun _ A=>fm U fun C=>aY 1 U<|RK A<|WS fun _ B=>e7 3 [0,1] (mc 0 U (mr 2 U mn)) U<|rS (CL (QF d sgA sgC) (aZ [1]) U)<|rP 1 [] mn ?_
 refine RK B<|an<|Q1 hQ U U U ?_
 rfl
end
section
open Go.RowKit
theorem wh (d:av) (sgA:OA) (sgC g1:Nat):
 eA Tryz.prog 94 [(vS jA 3 3),(Value.func (.func 95) [].toArray [(vP g1)].toArray)] [(rd jA 3 2 gZ),(rd sgA d.bW.ah.length 2 (d.bW.ah.map aK.cells)),(cq g1 76 (bp.cells (bp.mk d.Out d.dE d.Time (lv d.bW sgA sgC))))] (vI (oz d)):=by
 refine bH kr Tryz.func94 U U fun b Q hQ hN=>?_
 try dsimp only
 refine WS fun _ F=>aY 1 U<|RK F<|ai fun _ AA=>WS fun _ G=>aY 3 U<|RK G<|ar<|nx 4<|fz fun R4 Z=>WS fun _ H=>rS (SX (cM (r:= .bool true) U U U jG) U U)<|RK H<|ai fun _ AB=>aL U<|WK AB<|ai fun _ J=>ar<|WS fun _ K=>aY 2 U<|RK K<|WS fun _ L=>rP 3 [] mn ?_
 refine rS (IA 0 U (ay 0 U) IB dc U I)<|rS (l4 0 0 (mz.cells (mz.mk (Value.func (.func 196) [].toArray [].toArray) (Value.func (.func 197) [].toArray [].toArray))) U bX (ay 0 U) (show gZ[0]? =some [(Value.func (.func 196) [].toArray [].toArray),(Value.func (.func 197) [].toArray [].toArray)] from U) U dc U U)<|rS (CL (GN d sgA sgC g1) (aZ [1,2]) U)<|RK L<|cK U (fun X=>?_) (fun X=>?_)
 ·refine WS fun _ M=>rP 2 [] mn ?_
  refine RK M<|an<|Q1 hQ U U U ?_
  clear hQ hN M L K J AB H G AA F
  refine cI ?_
  simp [oz, *]
 refine bM<|aB<|KK J<|ag<|rS (SX (cM (r:= .int .i64 1) U U U (iP ⟨dc,dc⟩)) U U)<|aY 1 U<|RK Z<|fz fun R12 W=>WS fun _ A=>rS (SX (cM (r:= .bool true) U U U jG) U U)<|RK A<|ai fun _ B=>aL U<|WK B<|ai fun _ C=>ar<|WS fun _ D=>aY 2 U<|RK D<|WS fun _ E=>rP 3 [] mn ?_
 refine rS (IA 1 U (ay 0 U) IB dc U I)<|rS (l4 1 0 (mz.cells (mz.mk (Value.func (.func 199) [].toArray [].toArray) (Value.func (.func 200) [].toArray [].toArray))) U bX (ay 0 U) (show gZ[1]? =some [(Value.func (.func 199) [].toArray [].toArray),(Value.func (.func 200) [].toArray [].toArray)] from U) U dc U U)<|rS (CL (Gr d sgA sgC g1) (aZ [1,2]) U)<|RK E<|cK U (fun Y=>?_) (fun Y=>?_)
 ·refine WS fun _ N=>rP 2 [] mn ?_
  refine RK N<|an<|Q1 hQ U U U ?_
  clear hQ hN N E D C B A L K J AB H G AA F
  refine cI ?_
  simp [oz, *]
 refine bM<|aB<|KK C<|ag<|rS (SX (cM (r:= .int .i64 2) U U U (iP ⟨dc,dc⟩)) U U)<|aY 1 U<|RK W<|fz fun R20 a=>WS fun _ O=>rS (SX (cM (r:= .bool true) U U U jG) U U)<|RK O<|ai fun _ P=>aL U<|WK P<|ai fun _ V=>ar<|WS fun _ R=>aY 2 U<|RK R<|WS fun _ S=>aY 3 U<|rS (IA 2 U (ay 0 U) IB dc U I)<|rS (l4 2 0 (mz.cells (mz.mk (Value.func (.func 201) [].toArray [].toArray) (Value.func (.func 202) [].toArray [].toArray))) U bX (ay 0 U) (show gZ[2]? =some [(Value.func (.func 201) [].toArray [].toArray),(Value.func (.func 202) [].toArray [].toArray)] from U) U dc U U)<|rS (CL (F_ d sgA sgC g1) (aZ [1,2]) U)<|RK S<|aL U<|WS fun _ T=>rP 2 [] mn ?_
 refine RK T<|an<|Q1 hQ U U U ?_
 clear hQ hN T S R V P O E D C B A L K J AB H G AA F
 refine cI ?_
 simp [oz, *]
end
section
open Go.RowKit
theorem RN (d:av) (sgA:OA) (sgC g1:Nat) (hk:d.Out=true):
 eA Tryz.prog 94 [(vS jA 3 3),(Value.func (.func 95) [].toArray [(vP g1)].toArray)] [(rd jA 3 2 gZ),(rd sgA d.bW.ah.length 2 (d.bW.ah.map aK.cells)),(cq g1 76 (bp.cells (bp.mk d.Out d.dE d.Time (lv d.bW sgA sgC))))] (vI 0):=by
 have h:=wh d sgA sgC g1
 have e:oz d=0:=by simp [oz,hk]
 rw [e] at h
 exact h
theorem Rl (d:av) (sgA:OA) (sgC g1:Nat) (hk:d.Out=false∧d.dE=true):
 eA Tryz.prog 94 [(vS jA 3 3),(Value.func (.func 95) [].toArray [(vP g1)].toArray)] [(rd jA 3 2 gZ),(rd sgA d.bW.ah.length 2 (d.bW.ah.map aK.cells)),(cq g1 76 (bp.cells (bp.mk d.Out d.dE d.Time (lv d.bW sgA sgC))))] (vI 1):=by
 have h:=wh d sgA sgC g1
 have e:oz d=1:=by simp [oz,hk]
 rw [e] at h
 exact h
theorem Qj (d:av) (sgA:OA) (sgC g1:Nat) (hk:d.Out=false∧d.dE=false):
 eA Tryz.prog 94 [(vS jA 3 3),(Value.func (.func 95) [].toArray [(vP g1)].toArray)] [(rd jA 3 2 gZ),(rd sgA d.bW.ah.length 2 (d.bW.ah.map aK.cells)),(cq g1 76 (bp.cells (bp.mk d.Out d.dE d.Time (lv d.bW sgA sgC))))] (vI 2):=by
 have h:=wh d sgA sgC g1
 have e:oz d=2:=by simp [oz,hk]
 rw [e] at h
 exact h
theorem BF (l:aW) (kA:OA) (kC:Nat) (az:List RA) (cA:OA) (cC:Nat) (bA:OA) (bC:Nat) (d:av) (sgA:OA) (sgC:Nat) (hin:ej l az) (hsl:d.bW.ah.length≤1000000) (hk:d.Out=true):
 eA Tryz.prog 71 [(vA (bT.cells (kH l kA kC cA cC bA bC))),(vA (bp.cells (bp.mk d.Out d.dE d.Time (lv d.bW sgA sgC))))] [(rd jA 3 2 gZ),(rd kA l.aM.length 9 (l.aM.map al.cells)),(rd cA l.aj.length 2 (List.zipWith ao.cells l.aj az)),(eH (aU ao.gh l.aj az)),(rd bA l.ae.length 4 (l.ae.map bI.cells)),(rd sgA d.bW.ah.length 2 (d.bW.ah.map aK.cells))] (vT [(vA (ab.cells (fB l d))),(vB (decide (ia l d)))]):=by
 refine bH kr Tryz.func71 U U fun AA Q hQ hN=>?_
 try dsimp only
 refine WS fun _ A=>fm U fun G=>fm U fun D=>AL U dk fun H=>aY 1 U<|RK A<|WS fun _ B=>rS (SX (Ek U U yU) U U)<|rS (FU U)<|rS (CL (RN d sgA sgC D hk) (MH 3 8 1 U U U U U U) U)<|aY 1 U<|RK B<|ai fun _ C=>cS cf 9 kr<|lq 1 U<|dS (SX (DG (k:=0) U U U yU U I) U U)<|dS (nP ((0*2)+1) U (ay 3 U) (Nat.mul_pos I dc) e_ U)<|dS (fI 0 1 (Value.func (.func 197) [].toArray [].toArray) U bX (ay 3 U) (show gZ[0]? =some [(Value.func (.func 196) [].toArray [].toArray),(Value.func (.func 197) [].toArray [].toArray)] from U) U dc U)<|l0 2 [0,1] (mc 2 U (mc 1 U mn)) U<|dS (CL (MG l kA kC az cA cC bA bC d sgA sgC hin) (aZ [4,5,6,7,8]) U)<|lq 2 U<|cy<|fq U cu U<|rP 1 [] mn ?_
 refine RK C<|an<|mo hQ [0] (mc 0 U mn) U ?_
 have E:=EV (l:=l) hk
 have F:=qq (l:=l) hk
 simp only [E,F]
theorem Bl (l:aW) (kA:OA) (kC:Nat) (az:List RA) (cA:OA) (cC:Nat) (bA:OA) (bC:Nat) (d:av) (sgA:OA) (sgC:Nat) (hin:ej l az) (hsl:d.bW.ah.length≤1000000) (hk:d.Out=false∧d.dE=true):
 eA Tryz.prog 71 [(vA (bT.cells (kH l kA kC cA cC bA bC))),(vA (bp.cells (bp.mk d.Out d.dE d.Time (lv d.bW sgA sgC))))] [(rd jA 3 2 gZ),(rd kA l.aM.length 9 (l.aM.map al.cells)),(rd cA l.aj.length 2 (List.zipWith ao.cells l.aj az)),(eH (aU ao.gh l.aj az)),(rd bA l.ae.length 4 (l.ae.map bI.cells)),(rd sgA d.bW.ah.length 2 (d.bW.ah.map aK.cells))] (vT [(vA (ab.cells (fB l d))),(vB (decide (ia l d)))]):=by
 refine bH kr Tryz.func71 U U fun AA Q hQ hN=>?_
 try dsimp only
 refine WS fun _ A=>fm U fun G=>fm U fun D=>AL U dk fun H=>aY 1 U<|RK A<|WS fun _ B=>rS (SX (Ek U U yU) U U)<|rS (FU U)<|rS (CL (Rl d sgA sgC D hk) (MH 3 8 1 U U U U U U) U)<|aY 1 U<|RK B<|ai fun _ C=>cS cf 9 kr<|lq 1 U<|dS (SX (DG (k:=1) U U U yU U I) U U)<|dS (nP ((1*2)+1) U (ay 3 U) (Nat.mul_pos I dc) e_ U)<|dS (fI 1 1 (Value.func (.func 200) [].toArray [].toArray) U bX (ay 3 U) (show gZ[1]? =some [(Value.func (.func 199) [].toArray [].toArray),(Value.func (.func 200) [].toArray [].toArray)] from U) U dc U)<|l0 2 [0,1] (mc 2 U (mc 1 U mn)) U<|dS (CL (Lz l kA kC az cA cC bA bC d sgA sgC hin) (aZ [4,5,6,7,8]) U)<|lq 2 U<|cy<|fq U cu U<|rP 1 [] mn ?_
 refine RK C<|an<|mo hQ [0] (mc 0 U mn) U ?_
 have E:=EC (l:=l) hk
 have F:=vR (l:=l) hk
 simp only [E,F]
theorem AH (l:aW) (kA:OA) (kC:Nat) (az:List RA) (cA:OA) (cC:Nat) (bA:OA) (bC:Nat) (d:av) (sgA:OA) (sgC:Nat) (hin:ej l az) (hsl:d.bW.ah.length≤1000000) (hk:d.Out=false∧d.dE=false):
 eA Tryz.prog 71 [(vA (bT.cells (kH l kA kC cA cC bA bC))),(vA (bp.cells (bp.mk d.Out d.dE d.Time (lv d.bW sgA sgC))))] [(rd jA 3 2 gZ),(rd kA l.aM.length 9 (l.aM.map al.cells)),(rd cA l.aj.length 2 (List.zipWith ao.cells l.aj az)),(eH (aU ao.gh l.aj az)),(rd bA l.ae.length 4 (l.ae.map bI.cells)),(rd sgA d.bW.ah.length 2 (d.bW.ah.map aK.cells))] (vT [(vA (ab.cells (fB l d))),(vB (decide (ia l d)))]):=by
 refine bH kr Tryz.func71 U U fun AA Q hQ hN=>?_
 try dsimp only
 refine WS fun _ A=>fm U fun G=>fm U fun D=>AL U dk fun H=>aY 1 U<|RK A<|WS fun _ B=>rS (SX (Ek U U yU) U U)<|rS (FU U)<|rS (CL (Qj d sgA sgC D hk) (MH 3 8 1 U U U U U U) U)<|aY 1 U<|RK B<|ai fun _ C=>cS cf 9 kr<|lq 1 U<|dS (SX (DG (k:=2) U U U yU U I) U U)<|dS (nP ((2*2)+1) U (ay 3 U) (Nat.mul_pos I dc) e_ U)<|dS (fI 2 1 (Value.func (.func 202) [].toArray [].toArray) U bX (ay 3 U) (show gZ[2]? =some [(Value.func (.func 201) [].toArray [].toArray),(Value.func (.func 202) [].toArray [].toArray)] from U) U dc U)<|l0 2 [0,1] (mc 2 U (mc 1 U mn)) U<|dS (CL (M8 l kA kC az cA cC bA bC d sgA sgC hin hsl) (aZ [4,5,6,7,8]) U)<|lq 2 U<|cy<|fq U cu U<|rP 1 [] mn ?_
 refine RK C<|an<|mo hQ [0] (mc 0 U mn) U ?_
 have E:=E2 (l:=l) hk
 have F:=xr (l:=l) hk
 simp only [E,F]
theorem Dj (l:aW) (kA:OA) (kC:Nat) (az:List RA) (cA:OA) (cC:Nat) (bA:OA) (bC:Nat) (d:av) (sgA:OA) (sgC:Nat) (hin:ej l az) (hsl:d.bW.ah.length≤1000000):
 eA Tryz.prog 71 [(vA (bT.cells (kH l kA kC cA cC bA bC))),(vA (bp.cells (bp.mk d.Out d.dE d.Time (lv d.bW sgA sgC))))] [(rd jA 3 2 gZ),(rd kA l.aM.length 9 (l.aM.map al.cells)),(rd cA l.aj.length 2 (List.zipWith ao.cells l.aj az)),(eH (aU ao.gh l.aj az)),(rd bA l.ae.length 4 (l.ae.map bI.cells)),(rd sgA d.bW.ah.length 2 (d.bW.ah.map aK.cells))] (vT [(vA (ab.cells (fB l d))),(vB (decide (ia l d)))]):=by
 by_cases ho:d.Out=true
 ·exact BF l kA kC az cA cC bA bC d sgA sgC hin hsl ho
 by_cases hf:d.dE=true
 ·exact Bl l kA kC az cA cC bA bC d sgA sgC hin hsl ⟨by simpa using ho,hf⟩
 ·exact AH l kA kC az cA cC bA bC d sgA sgC hin hsl ⟨by simpa using ho,by simpa using hf⟩
end
section
open Go.RowKit
theorem KN (lA:OA) (lN lC:Nat):
 lg Tryz.prog 63 [(vS lA lN lC)] [] (fun (x:Nat)=>(Value.func (.func 85) [].toArray [(vP x)].toArray)) (fun (x:Nat)=>True) (fun (x:Nat)=>[(cq x 29 [(vS lA lN lC)])]):=by
 refine db kr Tryz.func63 U U fun D Q hQ hN=>?_
 try dsimp only
 refine WS fun _ A=>ux U U fun C=>aY 1 U<|RK A<|WS fun _ B=>rS (FU U)<|rP 1 [] mn ?_
 refine RK B<|an<|LX hQ C [0] [] mn U U U U ?_
 trivial
theorem Je (nl:List Int) (nlA:OA) (nlC g1:Nat) (hlen:nl.length≤12):
 MA Tryz.prog 85 [] [(vP g1)] [(rd nlA nl.length 1 (nl.map iC)),(cq g1 29 [(vS nlA nl.length nlC)])] (qy nl):=by
 refine Fe kr Tryz.func85 U U fun l J Z A0 T Q hY K AB hQ hN=>?_
 try dsimp only
 refine WS fun _ M=>rP 3 [] (mr 2 U mn) ?_
 refine RK M<|ar ?_
 have F:(0≤nl.length)∧(J 0 A0)∧(Fo A0 T A0):=by exact ⟨Nat.zero_le _,K,AB⟩
 refine bx (ι:={z:Nat×aw // (z.1≤nl.length)∧(J z.1 z.2)∧(Fo A0 T z.2)}) [0,1,5,6] [1] U U (fun z=>[(7,(vI (z.1.1:Int)))]) (fun z=>[z.1.2]) (fun _=>rfl) (fun _=>rfl) (fun z=>nl.length-z.1.1) ⟨(0,A0),F⟩ (aN U) (aD [1,0]) ?_
 clear F
 rintro ⟨⟨i,A⟩,⟨G,B,C⟩⟩ J2 L
 try dsimp only at G B C
 try dsimp only
 refine WS fun _ N=>rP 1 [] mn ?_
 refine RK N<|ai fun _ O=>bE U (aQ fun AA=>?_) (aP fun AA=>?_)
 ·refine bj<|aa<|aa<|au ?_
  refine hN _ _ _ (g3 (vs:=[]) trivial fun w hs=>Sb 1 U (by rw [tv]; have e:nl.length=i:=I; rw [e]; exact B) C hs)
 refine WK O<|ai fun _ P=>ar<|WS fun _ R=>?_
 obtain ⟨x,hx⟩:=aG nl i I
 have S:=bG iC hx
 refine rS (IA i U (ay 0 U) di dc I I)<|rS (fI i 0 (vI x) U bX (ay 0 U) S U dc U)<|aY 1 U<|RK R<|WS fun _ H=>rP 2 [] mn ?_
 refine Ff 1 hY B C U U U (Gb hx) U U (fun B9 E D=>?_) (fun B9 E D=>?_)
 rotate_left 1
 ·refine rP 1 [] mn ?_
  refine RK H<|aL U<|an ?_
  refine hQ _ _ _ (g3 (vs:=[]) trivial fun w hs=>NV 1 U E D hs)
 refine aY 1 U<|RK H<|aX U<|bM<|aB<|KK P<|ag<|rP 2 [] mn ?_
 refine ax ?_
 refine aI (L ⟨((i+1),B9),⟨I,E,D⟩⟩ _ _ _ U os (aN U) (aD [0,1]))
end
section
open Go.RowKit
theorem Kb (nl:List Int) (nlA:OA) (nlC g1:Nat) (hlen:nl.length≤12):
 lg Tryz.prog 98 [(vS none 0 0),(Value.func (.func 85) [].toArray [(vP g1)].toArray)] [(rd nlA nl.length 1 (nl.map iC)),(cq g1 29 [(vS nlA nl.length nlC)])] (fun (x:(OA)×Nat)=>(vS x.1 nl.length x.2)) (fun (x:(OA)×Nat)=>True) (fun (x:(OA)×Nat)=>[(own x.1 x.2 3 1 (nl.map iC))]):=by
 refine db kr Tryz.func98 U U fun R Q hQ hN=>?_
 try dsimp only
 refine WS fun _ D=>ux U U fun J=>aY 1 U<|RK D<|ai fun _ E=>WS fun _ G=>rP 1 [] mn ?_
 refine RK G<|ar<|kl 1 U (by exact fun _ h=>h)<|kl 3 U (by exact fun _ h=>h)<|eP 3 1 ?_
 refine FD (L0:=[(2,(vP J))]) (F:=[(rd nlA nl.length 1 (nl.map iC)).ro,(cq g1 29 [(vS nlA nl.length nlC)]).ro]) (xs:=(qy nl)) (fun k (y:(OA)×Nat)=>True) (fun k y=>[(own y.1 y.2 3 1 ((nl.take k).map iC)),(cq J 29 [(vS y.1 ((nl.take k).length) y.2)]),(rd nlA nl.length 1 (nl.map iC)).ro]) (fun _ (_:Unit)=>False) (fun _ _=>[]) [0,3,4] [2,1] (none,0) U U (Je nl nlA nlC g1 (by first|assumption|omega|(simp; done))) U U U (by trivial) (by simp only [List.forall_mem_cons,List.not_mem_nil,false_imp_iff,implies_true,and_true]; exact ⟨⟨_,sm,(dA (bO _))⟩,⟨_,sm,(dA (bO _))⟩⟩) (by exact D4) U (aN U) ?_ ?_ (fun _ _ _ h=>h.elim) (fun _ _ h=>h.elim)
 rotate_left 1
 ·rintro O ⟨a,c⟩ AA
  try dsimp only
  rw [x8]
  refine aB<|KK E<|WS fun _ A=>rP 2 [] (mc 4 U mn) ?_
  refine RK A<|an<|hQ _ _ _ (oG 0 U U<|g3 (vs:=[(vS a nl.length c)]) ⟨U,trivial⟩ fun w hs=>Kp (a,c) [3] ?_ ?_ U U U hs)
  ·rfl
  ·trivial
 rintro k x ⟨a,c⟩ l ra rb S T K5 Qr6 hx K H B L M
 obtain ⟨y,hy,rfl⟩:=Ha hx
 try dsimp only
 refine ag<|rP 1 [] mn ?_
 refine ax<|aI (H _ _ ?_)
 refine ar<|ag<|rP 2 [] (mc 2 U mn) ?_
 refine eX (xs:=[.tmp 9]) (cs:=[(vI y)]) U di lh U U U U (by simp [Value.cells]) U U fun P=>?_
 refine cp (es2:=(List.map iC (nl.take (k+1)))) (m':=(nl.take (k+1)).length) 2 U U U mJ U U sm (a_ (es:=List.map iC [y]) 0 U U (by simp [bU]) U) (g_ _) (by simp; omega) (by simp [maxLen]; omega) (by rw [lx hy]; simp) sm U fun N C=>?_
 try dsimp only
 refine S4 U wq U U<|ax<|aB ?_
 exact B (N,C) _ _ (by trivial) (aD [1,2,3,4])
theorem Gu (nl:List Int) (nlA:OA) (nlC g1:Nat) (hlen:nl.length≤12):
 lg Tryz.prog 78 [(Value.func (.func 85) [].toArray [(vP g1)].toArray)] [(rd nlA nl.length 1 (nl.map iC)),(cq g1 29 [(vS nlA nl.length nlC)])] (fun (x:(OA)×Nat)=>(vS x.1 nl.length x.2)) (fun (x:(OA)×Nat)=>True) (fun (x:(OA)×Nat)=>[(own x.1 x.2 3 1 (nl.map iC))]):=by
 refine db kr Tryz.func78 U U fun G Q hQ hN=>?_
 try dsimp only
 refine WS fun _ A=>aY 1 U<|RK A<|WS fun _ B=>rP 1 [] mn ?_
 refine cX (Kb nl nlA nlC g1 hlen) (aZ [0,1]) U fun F E=>?_
 obtain ⟨C,D⟩:=F
 try dsimp only
 refine rP 1 [] mn ?_
 refine RK B<|an<|LX hQ (C,D) [0] [] mn U U U U ?_
 trivial
theorem JW (nl:List Int) (nlA:OA) (nlC g1:Nat) (hlen:nl.length≤12):
 lg Tryz.prog 54 [(Value.func (.func 85) [].toArray [(vP g1)].toArray)] [(rd nlA nl.length 1 (nl.map iC)),(cq g1 29 [(vS nlA nl.length nlC)])] (fun (x:(OA)×Nat)=>(vS x.1 nl.length x.2)) (fun (x:(OA)×Nat)=>True) (fun (x:(OA)×Nat)=>[(own x.1 x.2 3 1 ((dx nl).map iC))]):=by
 refine db kr Tryz.func54 U U fun J Q hQ hN=>?_
 try dsimp only
 refine WS fun _ B=>aY 1 U<|RK B<|WS fun _ C=>rP 1 [] mn ?_
 refine cX (Gu nl nlA nlC g1 hlen) (aZ [0,1]) U fun AA H=>?_
 obtain ⟨F,G⟩:=AA
 try dsimp only
 refine aY 1 U<|RK C<|WS fun _ D=>rP 1 [] mn ?_
 refine j8 0 U U U U (z4 nl F G hlen) U lG U (fun m A=>?_)
 try dsimp only
 refine RK D<|WS fun _ E=>?_
 obtain rfl:=qm A.1 A.2
 skip
 refine rP 2 [] mn ?_
 refine RK E<|an<|LX hQ (F,G) [0] [] mn U U U U ?_
 trivial
end
section
open Go.RowKit
theorem IV (r:cr) (kA:OA) (kC:Nat) (az:List RA) (cA:OA) (cC:Nat) (bA:OA) (bC:Nat) (slA:OA) (slC:Nat) (drA:OA) (drC:Nat) (ha:List cD) (heA:OA) (heC:Nat) (tz:List RA) (tA:OA) (tC:Nat) (ms:Value) (gw h:Nat) (gm g1 g2:Nat) (hin:fw r az ha) (htz:tz.length=r.aq.length) (hh:h<r.aq.length) (hok:jh r (h+1)):
 Gz Tryz.prog 74 [(vI (h:Int)),(vP g1),(vP g2)] [(rd kA r.aA.aM.length 9 (r.aA.aM.map al.cells)),(rd cA r.aA.aj.length 2 (List.zipWith ao.cells r.aA.aj az)),(eH (aU ao.gh r.aA.aj az)),(rd bA r.aA.ae.length 4 (r.aA.ae.map bI.cells)),(rd slA r.aH.length 1 (r.aH.map iC)),(rd drA r.cm.length 1 (r.cm.map iC)),(rd heA r.aq.length 1 (List.zipWith cz r.aq ha)),(eH (aU iA r.aq ha)),(rd tA ((bV r).length) 1 (List.zipWith rM (bV r) tz)),(eH (aU yC (bV r) tz)),(cq gw 100 (gd.cells (gd.mk (pZ r kA kC cA cC bA bC slA slC drA drC heA heC) (bf.mk tA ((bV r).length) tC) ms))),(cq g1 77 [(vP gw)]),(cq g2 86 [(Value.map (some gm))])] (hU iV gm (bQ dB (dQ r.aA r.aq r.aH.length h 0))) (fun (x:Unit)=>(vT [])) (fun (x:Unit)=>True) (fun (x:Unit)=>(hU iV gm (bQ dB (dQ r.aA r.aq r.aH.length (h+1) 0)))):=by
 have w:=hin.line
 have AJ:=hin.iR
 have AK:=hin.has
 have AD:=hin.iK
 have AB:=hin.draw
 have AE:=dw (r:=r)
 refine pj kr Tryz.func74 U U fun w0 Q hQ hN=>?_
 try dsimp only
 refine WS fun _ g=>e7 1 [] (mr 12 U mn) U<|rS (SX (bL U U) U U)<|rP 3 [] (mr 11 U mn) ?_
 obtain ⟨ht,B⟩:=aG r.aq h I
 obtain ⟨A,C⟩:=aG ha h I
 have Z:(List.zipWith cz r.aq ha)[h]? =some (cz ht A):=cH B C
 have u:=hin.my _ _ _ B C
 have AC:=u.mE
 have N:=hok h ht I B
 obtain ⟨tr,G⟩:=aG (bV r) h I
 obtain ⟨tra,F⟩:=aG tz h I
 have c:(List.zipWith rM (bV r) tz)[h]? =some (rM tr tra):=cH G F
 refine rS (IA h U (ay 9 U) zD dc I I)<|rS (fI h 0 (vS tra.1 tr.length tra.2) U bX (ay 9 U) c U dc U) ?_
 have AN:=rj B G
 have AG:tr.length=r.aH.length:=by rw [AN,List.length_map]; exact N.1
 have AF:=N.1
 refine rP 2 [] mn ?_
 refine RK g<|ar ?_
 have E:(0≤r.aH.length):=by exact Nat.zero_le _
 refine bx (ι:={z:Nat // (z≤r.aH.length)}) [0,1,2,14,15] [1,2,3,4,5,6,7,8,9,10,11,12,13] U U (fun z=>[(16,(vI (z.1:Int)))]) (fun z=>[(hU iV gm (bQ dB (dQ r.aA r.aq r.aH.length h z.1)))]) (fun _=>rfl) (fun _=>rfl) (fun z=>r.aH.length-z.1) ⟨0,E⟩ (aN U) (aD [1,2,3,4,5,6,7,8,9,10,11,12,13,0]) ?_
 clear E
 rintro ⟨i,v⟩ J2 K
 try dsimp only
 have a:i<r.aH.length→(dQ r.aA r.aq r.aH.length h i).lookup (i:Int)=dK r.aA r.aq i h:=IM
 refine WS fun _ k=>rP 1 [] mn ?_
 refine RK k<|ai fun _ m=>bE U (aQ fun h5=>?_) (aP fun h5=>?_)
 ·refine bj<|aa<|aa<|au ?_
  rw [show (dQ r.aA r.aq r.aH.length h i)=(dQ r.aA r.aq r.aH.length (h+1) 0) from by rw [show i=r.aH.length by omega]; exact Me]
  refine LM hN () 13 [] mn U U U U ?_
  trivial
 refine WK m<|ai fun _ L=>ar<|WS fun _ o=>rP 1 [] mn ?_
 obtain ⟨x,hx⟩:=aG tr i I
 have AA:=bG ab.cells hx
 refine rS (IA i U (show gI _ (rd tra.1 tr.length 2 (tr.map ab.cells)).holds from (b_ 9 U (bu G F (by simp [yC])))) mM dc I I)<|rS (l4 i 0 (ab.cells x) U bX (show gI _ (rd tra.1 tr.length 2 (tr.map ab.cells)).holds from (b_ 9 U (bu G F (by simp [yC])))) AA U dc U U)<|AL U dk fun b8=>aY 1 U<|fq U cu U<|RK o<|WS fun _ p=>e7 2 [] (mr 13 U mn) U<|rS (SX (jd (kV:=iV) (x:=(i:Int)) (l:=(dQ r.aA r.aq r.aH.length h i)) (f:=dB) (z:=(ab.mk 0 0)) U U U lH (dG mF) si (by exact ay 14 U)) U U)<|aY 3 U<|AL U dk fun AH=>fq U cu U<|aY 1 U<|RK p<|ai fun _ P=>WS fun _ H=>e7 1 [] (mr 13 U mn) U<|rS (SX (bL U U) U U)<|e7 4 [] (mr 12 U mn) U<|rS (IA h U (ay 8 U) lk dc I I)<|rS (fI h 0 (vS A.1.1 ht.length A.1.2) U bX (ay 8 U) Z U dc U)<|rP 1 [] mn ?_
 obtain ⟨d,hd⟩:=aG ht i I
 obtain ⟨da,q⟩:=aG A.2 i I
 have s:(List.zipWith av.cells ht A.2)[i]? =some (av.cells d da):=cH hd q
 refine rS (IA i U (show gI _ (rd A.1.1 ht.length 7 (List.zipWith av.cells ht A.2)).holds from (b_ 9 U (bu B C bZ))) rI dc I I)<|rS (nP (i*7) U (show gI _ (rd A.1.1 ht.length 7 (List.zipWith av.cells ht A.2)).holds from (b_ 9 U (bu B C bZ))) (Nat.mul_pos I dc) e_ U)<|rS (fI i 0 (vB d.Out) U bX (show gI _ (rd A.1.1 ht.length 7 (List.zipWith av.cells ht A.2)).holds from (b_ 9 U (bu B C bZ))) s U dc U)<|rP 1 [] mn ?_
 refine cE (t:=39) U (fun J=>?_) (fun J=>?_)
 ·refine aY 3 U<|RK H<|aL U<|WS fun _ R=>rP 2 [] (mr 14 U mn) ?_
  have T:(ct (dQ r.aA r.aq r.aH.length h i) (i:Int))=(dQ r.aA r.aq r.aH.length h (i+1)):=by exact EI (by exact yR B hd J)
  refine o_ (kV:=iV) (x:=(i:Int)) (C':=[_,_,_,_,_,_,_,_,_,_,_,_,_,_,_,(hU iV gm (bQ dB (dQ r.aA r.aq r.aH.length h (i+1))))]) 15 U U U U lH (dG mF) U ((lR _ _ _).symm.trans (congrArg _ T)) U<|RK R<|bj<|aa<|au<|KK L<|ag<|rP 2 [] mn ?_
  refine ax ?_
  have AI:(vI (((i+1):Nat):Int))=(vI ((i:Int)+1)):=by exact cI I
  refine aI (K ⟨(i+1),(by first|omega|(simp only []; omega))⟩ _ _ _ U os (bY 5<|aO U AI<|cO.nil _) (aD [2,3,4,5,6,7,8,9,10,11,12,13,14,15]))
 refine rP 3 [] mn ?_
 refine RK H<|cK U (fun D=>?_) (fun D=>?_)
 ·rw [Bool.not_eq_true'] at D
  refine WS fun _ S=>rP 2 [] (mr 14 U mn) ?_
  have V:(ct (dQ r.aA r.aq r.aH.length h i) (i:Int))=(dQ r.aA r.aq r.aH.length h (i+1)):=by exact EI (by exact xK ((a I).symm.trans (Option.not_isSome_iff_eq_none.1 (by rw [D]; decide))))
  refine o_ (kV:=iV) (x:=(i:Int)) (C':=[_,_,_,_,_,_,_,_,_,_,_,_,_,_,_,(hU iV gm (bQ dB (dQ r.aA r.aq r.aH.length h (i+1))))]) 15 U U U U lH (dG mF) U ((lR _ _ _).symm.trans (congrArg _ V)) U<|RK S<|bj<|aa<|au<|KK L<|ag<|rP 2 [] mn ?_
  refine ax ?_
  have W:(vI (((i+1):Nat):Int))=(vI ((i:Int)+1)):=by exact cI I
  refine aI (K ⟨(i+1),(by first|omega|(simp only []; omega))⟩ _ _ _ U os (bY 5<|aO U W<|cO.nil _) (aD [2,3,4,5,6,7,8,9,10,11,12,13,14,15]))
 rw [Bool.not_eq_false'] at D
 refine WK P<|ag ?_
 obtain ⟨O,b⟩:=Option.isSome_iff_exists.1 D
 have M:dK r.aA r.aq i h=some O:=(a I).symm.trans b
 have e:=Kx AN hx hd
 have AM:=vw (fun j x hj hx=>hok j x I hx) I M
 have y:=Ag (N.2 d (aR hd))
 rw [← e] at y
 rw [show ((List.lookup (i:Int) (dQ r.aA r.aq r.aH.length h i)).getD (ab.mk 0 0))=O from by rw [b]; rfl]
 refine e7 6 [0,1,2] (mr 14 U (mc 0 U (mc 1 U mn))) U<|rS (BI U (qk I I I))<|e7 5 [0,1] (mc 0 U (mc 1 U mn)) U<|rS (BI U (qk I I I))<|rP 1 [] mn ?_
 refine rS (SX (bq (xs:=[(0,.tmp 52),(1,.tmp 58)]) (cs:=(ab.cells (ab.mk (O.Lo+(x.Lo/10)) (O.Hi+(x.Hi/10))))) U U (br gK U)) U U) ?_
 have X:(er (dQ r.aA r.aq r.aH.length h i) (i:Int) (ab.mk (O.Lo+(x.Lo/10)) (O.Hi+(x.Hi/10))))=(dQ r.aA r.aq r.aH.length h (i+1)):=by exact M5 I (by rw [M]; rfl) (by rw [e]; exact vU B hd (by rw [J]; decide) M)
 refine jw (kV:=iV) (x:=(i:Int)) (C':=[_,_,_,_,_,_,_,_,_,_,_,_,_,_,_,(hU iV gm (bQ dB (dQ r.aA r.aq r.aH.length h (i+1))))]) 15 U U U U lH (dG mF) U ((gT _ _ _ _).symm.trans (congrArg _ X)) U<|ax<|aB<|KK L<|ag<|rP 2 [] mn ?_
 refine ax ?_
 have Y:(vI (((i+1):Nat):Int))=(vI ((i:Int)+1)):=by exact cI I
 refine aI (K ⟨(i+1),(by first|omega|(simp only []; omega))⟩ _ _ _ U os (bY 5<|aO U Y<|cO.nil _) (aD [2,3,4,5,6,7,8,9,10,11,12,13,14,15]))
theorem P_ (r:cr) (kA:OA) (kC:Nat) (az:List RA) (cA:OA) (cC:Nat) (bA:OA) (bC:Nat) (slA:OA) (slC:Nat) (drA:OA) (drC:Nat) (ha:List cD) (heA:OA) (heC:Nat) (tz:List RA) (tA:OA) (tC:Nat) (ms:Value) (gw n:Nat) (hin:fw r az ha) (htz:tz.length=r.aq.length) (hn:n≤r.aq.length) (hok:jh r n):
 lg Tryz.prog 48 [(vP gw),(vI (n:Int))] [(rd kA r.aA.aM.length 9 (r.aA.aM.map al.cells)),(rd cA r.aA.aj.length 2 (List.zipWith ao.cells r.aA.aj az)),(eH (aU ao.gh r.aA.aj az)),(rd bA r.aA.ae.length 4 (r.aA.ae.map bI.cells)),(rd slA r.aH.length 1 (r.aH.map iC)),(rd drA r.cm.length 1 (r.cm.map iC)),(rd heA r.aq.length 1 (List.zipWith cz r.aq ha)),(eH (aU iA r.aq ha)),(rd tA ((bV r).length) 1 (List.zipWith rM (bV r) tz)),(eH (aU yC (bV r) tz)),(cq gw 100 (gd.cells (gd.mk (pZ r kA kC cA cC bA bC slA slC drA drC heA heC) (bf.mk tA ((bV r).length) tC) ms)))] (fun (x:Nat)=>(Value.map (some x))) (fun (x:Nat)=>True) (fun (x:Nat)=>[(hU iV x (bQ dB (n8 r n)))]):=by
 have c:=hin.line
 have m:=hin.iR
 have o:=hin.has
 have e:=hin.iK
 have d:=hin.draw
 have f:=dw (r:=r)
 refine db kr Tryz.func48 U U fun q Q hQ hN=>?_
 try dsimp only
 refine WS fun _ V=>ux U U fun k=>rP 1 [] mn ?_
 refine RK V<|WS fun _ W=>nA (kV:=iV) U U fun B=>?_
 try dsimp only
 refine AL U SP fun l=>HH U OO U U<|RK W<|ai fun _ X=>WS fun _ Y=>e7 1 [] (mc 2 U mn) U<|rS (SX (bL U U) U U)<|rP 5 [] (mr 13 U mn) ?_
 refine RK Y<|ar ?_
 skip
 have A:(0≤r.aH.length):=by exact Nat.zero_le _
 refine bx (ι:={z:Nat // (z≤r.aH.length)}) [1,2,5,15] [0,2,3,4,5,6,7,8,9,10,11,12,13] U U (fun z=>[(16,(vI (z.1:Int)))]) (fun z=>[(hU iV B (bQ dB (dQ r.aA r.aq z.1 0 0)))]) (fun _=>rfl) (fun _=>rfl) (fun z=>r.aH.length-z.1) ⟨0,A⟩ (aN U) (aD [0,2,3,4,5,6,7,8,9,10,11,12,13,1]) ?_
 clear A
 rintro ⟨i,a⟩ J8 AA
 try dsimp only
 refine WS fun _ Z=>rP 1 [] mn ?_
 refine RK Z<|ai fun _ D=>cK U (aP fun S=>?_) (aQ fun S=>?_)
 ·refine WK D<|ai fun _ E=>ar<|WS fun _ F=>aY 2 U<|RK F<|ag<|rP 2 [] (mc 0 U mn) ?_
  refine rS (SX (bq (xs:=[]) (cs:=(ab.cells (ab.mk 0 0))) U U (br gK U)) U U) ?_
  have O:(er (dQ r.aA r.aq i 0 0) (i:Int) (ab.mk 0 0))=(dQ r.aA r.aq (i+1) 0 0):=by exact MC
  refine jw (kV:=iV) (x:=(i:Int)) (C':=[_,_,_,_,_,_,_,_,_,_,_,_,_,(hU iV B (bQ dB (dQ r.aA r.aq (i+1) 0 0)))]) 13 U U U U lH (dG mF) U ((gT _ _ _ _).symm.trans (congrArg _ O)) U<|ax<|aB<|KK E<|ag<|rP 2 [] mn ?_
  refine ax ?_
  have P:(vI (((i+1):Nat):Int))=(vI ((i:Int)+1)):=by exact cI I
  refine aI (AA ⟨(i+1),(by first|omega|(simp only []; omega))⟩ _ _ _ U os (bY 4<|aO U P<|cO.nil _) (aD [0,1,2,3,4,5,6,7,8,9,10,11,12,13]))
 refine bj<|aa<|aa<|au<|KK X<|WS fun _ G=>rS (FU U)<|aY 1 U<|RK G<|ai fun _ H=>WS fun _ AB=>rP 2 [] mn ?_
 refine RK AB<|ar ?_
 rw [show (dQ r.aA r.aq i 0 0)=(dQ r.aA r.aq r.aH.length 0 0) from by rw [show i=r.aH.length by omega]]
 have A:(0≤n):=by exact Nat.zero_le _
 refine bx (ι:={z:Nat // (z≤n)}) [2,5,7,24] [0,1,2,3,4,5,6,7,8,9,10,11,12] U U (fun z=>[(25,(vI (z.1:Int)))]) (fun z=>[(hU iV B (bQ dB (dQ r.aA r.aq r.aH.length z.1 0)))]) (fun _=>rfl) (fun _=>rfl) (fun z=>n-z.1) ⟨0,A⟩ (aN U) (aD [0,1,2,3,4,5,6,7,8,9,10,11,12,13]) ?_
 clear A
 rintro ⟨h,b⟩ J19 C
 try dsimp only
 refine WS fun _ J=>rP 1 [] mn ?_
 refine RK J<|ai fun _ K=>bE U (aQ fun T=>?_) (aP fun T=>?_)
 ·refine bj<|aa<|aa<|au<|KK H<|ai fun _ N=>?_
  rw [show (dQ r.aA r.aq r.aH.length h 0)=(n8 r n) from by rw [show h=n by omega]; exact M6]
  refine ag<|rP 2 [] (mc 0 U mn) ?_
  refine RK N<|an<|LX hQ B [13] [] mn U U U U ?_
  trivial
 refine WK K<|ai fun _ L=>ar<|WS fun _ M=>aY 2 U<|RK M<|ag<|rP 2 [] mn ?_
 refine j8 13 U U U U (IV r kA kC az cA cC bA bC slA slC drA drC ha heA heC tz tA tC ms gw h B k l hin htz I (by exact fun j x hj hx=>hok j x I hx)) U (dM 2 U U (dA (bO _)) (dM 3 U U (dA (bO _)) (dM 4 U U (dA (bO _)) (dM 5 U U (dA (bO _)) (dM 6 U U (dA (bO _)) (dM 7 U U (dA (bO _)) (dM 8 U U (dA (bO _)) (dM 9 U U (dA (bO _)) (dM 10 U U (dA (bO _)) (dM 11 U U (dA (bO _)) (dM 12 U U (dA (bO _)) (dM 1 U U (bO _) (dM 0 U U (bO _) lG))))))))))))) U (fun p g=>?_)
 try dsimp only
 refine ax<|aB<|KK L<|ag<|rP 2 [] mn ?_
 refine ax ?_
 have R:(vI (((h+1):Nat):Int))=(vI ((h:Int)+1)):=by exact cI I
 refine aI (C ⟨(h+1),(by first|omega|(simp only []; omega))⟩ _ _ _ U os (bY 4<|aO U R<|cO.nil _) (aD [0,1,2,3,4,5,6,7,8,9,10,11,12,13]))
end
section
open Go.RowKit
theorem vu (r:cr) (kA:OA) (kC:Nat) (az:List RA) (cA:OA) (cC:Nat) (bA:OA) (bC:Nat) (slA:OA) (slC:Nat) (drA:OA) (drC:Nat) (ha:List cD) (heA:OA) (heC:Nat) (hin:fw r az ha):
 lg Tryz.prog 42 [(vA (cj.cells (pZ r kA kC cA cC bA bC slA slC drA drC heA heC)))] [(rd jA 3 2 gZ),(rd kA r.aA.aM.length 9 (r.aA.aM.map al.cells)),(rd cA r.aA.aj.length 2 (List.zipWith ao.cells r.aA.aj az)),(eH (aU ao.gh r.aA.aj az)),(rd bA r.aA.ae.length 4 (r.aA.ae.map bI.cells)),(rd slA r.aH.length 1 (r.aH.map iC)),(rd drA r.cm.length 1 (r.cm.map iC)),(rd heA r.aq.length 1 (List.zipWith cz r.aq ha)),(eH (aU iA r.aq ha))] (fun (x:Bool×Int×Nat×Nat×(OA)×Nat×(List RA))=>bif x.1 then (vT [(Value.pointer (some ⟨x.2.2.1,0,none⟩)),(vI 0)]) else (vT [(Value.pointer none),(vI x.2.1)])) (fun (x:Bool×Int×Nat×Nat×(OA)×Nat×(List RA))=>(x.1=true→(gr r=0∧x.2.2.2.2.2.2.length=r.aq.length))∧(x.1=false→(x.2.1=gr r∧ ¬ gr r=0))) (fun (x:Bool×Int×Nat×Nat×(OA)×Nat×(List RA))=>bif x.1 then [(cq x.2.2.1 100 (gd.cells (gd.mk (pZ r kA kC cA cC bA bC slA slC drA drC heA heC) (bf.mk x.2.2.2.2.1 ((bV r).length) x.2.2.2.2.2.1) (Value.map (some x.2.2.2.1))))),(own x.2.2.2.2.1 x.2.2.2.2.2.1 78 1 (List.zipWith rM (bV r) x.2.2.2.2.2.2)),(bB (aU Dd (bV r) x.2.2.2.2.2.2)),(hU iV x.2.2.2.1 (bQ dB (aJ r)))] else []):=by
 have BA:=hin.line
 have BU:=hin.iR
 have BV:=hin.has
 have BK:=hin.iK
 have BI:=hin.draw
 have Aj:=dw (r:=r)
 refine db kr Tryz.func42 U U fun w0 Q hQ hN=>?_
 try dsimp only
 refine WS fun _ A1=>fm U fun b2=>aY 2 U<|RK A1<|ai fun _ A2=>WS fun _ A3=>aY 1 U<|rS (LP (bT.cells (kH r.aA kA kC cA cC bA bC)) 0 U bX U U U)<|rS (CL (AB r.aA kA kC az cA cC bA bC asm) (aZ [2,3,4,5]) U)<|aY 1 U<|RK A3<|WS fun _ A4=>rP 2 [] mn ?_
 refine RK A4<|cK U (bg fun B=>?_) (bh fun B=>?_)
 ·refine WS fun _ A5=>rP 3 [] mn ?_
  refine RK A5<|an<|LX hQ (false,(du r.aA),0,0,none,0,[]) [] [] mn U (by rfl) U U ?_
  exact vj<|HE (yd B) B
 refine WK A2<|WS fun _ A6=>e7 4 [] (mc 0 U mn) U<|RK A6<|WS fun _ A7=>rP 2 [] (mc 0 U mn) ?_
 refine cX (KN drA r.cm.length drC) (aS) U fun An BL=>?_
 try dsimp only
 refine cX (JW r.cm drA drC An asm) (aZ [8,0]) U fun BH BM=>?_
 obtain ⟨BO,BT⟩:=BH
 try dsimp only
 refine aY 1 U<|RK A7<|ai fun _ e=>WS fun _ H=>rP 1 [] mn ?_
 refine eX (xs:=[.tmp 29]) (cs:=[(vI (r.aH.length:Int))]) U di lh U U U U (by simp [Value.cells]) U U fun Ao=>?_
 refine rS (CL (eA.eq (kZ 1 5 ([(r.aH.length:Int)]) (some ⟨Ao,0,none⟩) 1 (by (simp; done))) dj) (aC (a_ 0 U U (by simp [bU]) U)<|aS) U) ?_
 refine rP 2 [] mn ?_
 refine cE (t:=33) U (bg fun As=>?_) (bh fun As=>?_)
 ·refine aY 26 U<|RK H<|aL U<|WS fun _ f=>rP 2 [] mn ?_
  refine RK f<|an<|LX hQ (false,60,0,0,none,0,[]) [] [] mn U (by rfl) U U ?_
  exact vj<|od (ko B (fun q:eJ r=>by have q1:=q.num; have q2:=q.x5; have q3:=q.nh; have q4:=q.zU; omega))
 refine rP 6 [] mn ?_
 refine cE (t:=39) U (bg fun At=>?_) (bh fun At=>?_)
 ·refine aY 20 U<|RK H<|aL U<|WS fun _ g=>rP 2 [] mn ?_
  refine RK g<|an<|LX hQ (false,60,0,0,none,0,[]) [] [] mn U (by rfl) U U ?_
  exact vj<|od (ko B (fun q:eJ r=>by have q1:=q.num; have q2:=q.x5; have q3:=q.nh; have q4:=q.zU; omega))
 refine rP 2 [] (mc 3 U mn) ?_
 refine eX (xs:=[.tmp 41]) (cs:=[(vI r.iN)]) U di lh U U U U (by simp [Value.cells]) U U fun Ap=>?_
 refine rS (CL (eA.eq (kZ 0 5 ([r.iN]) (some ⟨Ap,0,none⟩) 1 (by (simp; done))) dj) (aC (a_ 0 U U (by simp [bU]) U)<|aS) U) ?_
 refine rP 3 [] mn ?_
 refine cE (t:=46) U (bg fun Au=>?_) (bh fun Au=>?_)
 ·refine aY 13 U<|RK H<|aL U<|WS fun _ k=>rP 2 [] mn ?_
  refine RK k<|an<|LX hQ (false,60,0,0,none,0,[]) [] [] mn U (by rfl) U U ?_
  exact vj<|od (ko B (fun q:eJ r=>by have q1:=q.num; have q2:=q.x5; have q3:=q.nh; have q4:=q.zU; omega))
 refine rP 3 [] (mc 4 U mn) ?_
 refine eX (xs:=[.tmp 49]) (cs:=[(vI (r.aq.length:Int))]) U di lh U U U U (by simp [Value.cells]) U U fun Aq=>?_
 refine rS (CL (eA.eq (kZ 1 3 ([(r.aq.length:Int)]) (some ⟨Aq,0,none⟩) 1 (by (simp; done))) dj) (aC (a_ 0 U U (by simp [bU]) U)<|aS) U) ?_
 refine rP 3 [] mn ?_
 refine cE (t:=54) U (bg fun Av=>?_) (bh fun Av=>?_)
 ·refine aY 5 U<|RK H<|aL U<|WS fun _ l=>rP 2 [] mn ?_
  refine RK l<|an<|LX hQ (false,60,0,0,none,0,[]) [] [] mn U (by rfl) U U ?_
  exact vj<|od (ko B (fun q:eJ r=>by have q1:=q.num; have q2:=q.x5; have q3:=q.nh; have q4:=q.zU; omega))
 refine e7 2 [] (mc 5 U mn) U<|rS (CL (kZ 0 9999 r.aH slA slC asm) (aZ [11]) U)<|rP 2 [] mn ?_
 refine RK H<|cK U (fun N=>?_) (fun N=>?_)
 ·rw [Bool.not_eq_true'] at N
  refine WS fun _ m=>rP 2 [] mn ?_
  refine RK m<|an<|LX hQ (false,60,0,0,none,0,[]) [] [] mn U (by rfl) U U ?_
  exact vj<|od (ko B (fun q:eJ r=>by exact absurd (q.ins.symm.trans N) dc))
 rw [Bool.not_eq_false'] at N
 refine WK e<|ai fun _ o=>WS fun _ p=>?_
 have BW:(dx r.cm).length=r.aH.length:=by rw [fW]; omega
 refine rP 2 [] mn ?_
 refine RK p<|ar ?_
 have A:(0≤r.aH.length)∧(qW r 0):=by exact ⟨Nat.zero_le _,C7⟩
 refine bx (ι:={z:Nat // (z≤r.aH.length)∧(qW r z)}) [1,5,6,60] [3,5,6,7,8,9,10,11,12,13,14] U U (fun z=>[(61,(vI (z.1:Int)))]) (fun z=>[]) (fun _=>rfl) (fun _=>rfl) (fun z=>r.aH.length-z.1) ⟨0,A⟩ (aN U) (aD [3,5,6,7,8,9,10,11,12,13,14]) ?_
 clear A
 rintro ⟨i,⟨A_,J⟩⟩ J28 V
 try dsimp only
 refine WS fun _ s=>rP 1 [] mn ?_
 refine RK s<|ai fun _ w=>cK U (aP fun Ax=>?_) (aQ fun Ax=>?_)
 ·refine WK w<|ai fun _ W=>ar<|WS fun _ AA=>aY 2 U<|RK AA<|ai fun _ O=>cS cf 24 kr<|dP 2 [] mn ?_
  obtain ⟨x,hx⟩:=aG (dx r.cm) i I
  have BB:=bG iC hx
  refine dS (IA i U (ak (n:=r.cm.length) 0 U sq) di dc I I) ?_
  refine dS (fI i 0 (vI x) U bX (ak (n:=(dx r.cm).length) 0 U sm) BB U dc U)<|dP 3 [] mn ?_
  refine iO (t:=70) U (bg fun S=>?_) (bh fun S=>?_)
  ·refine lq 17 U<|cy<|RK O<|aL U<|WS fun _ AC=>rP 2 [] mn ?_
   refine RK AC<|an<|LX hQ (false,60,0,0,none,0,[]) [] [] mn U (by rfl) U U ?_
   exact vj<|od (ko B (fun q:eJ r=>by exact absurd (q.drawn hx) S))
  refine dP 3 [] mn ?_
  refine j2 (t:=73) U (aQ fun Ay=>?_) (aP fun Ay=>?_)
  ·refine lq 14 U<|cy<|RK O<|aX U<|bM<|aB<|KK W<|ag<|rP 2 [] mn ?_
   refine ax ?_
   have Ad:(vI (((i+1):Nat):Int))=(vI ((i:Int)+1)):=by exact cI I
   refine aI (V ⟨(i+1),⟨I,wL J hx S (fun u v hu hv hw=>by omega)⟩⟩ _ _ _ U os (bY 4<|aO U Ad<|cO.nil _) (aD [0,1,2,3,4,5,6,7,8,9,10]))
  refine dP 3 [] (mc 1 U mn) ?_
  obtain ⟨y,hy⟩:=aG r.aH i I
  have BC:=bG iC hy
  refine dS (IA i U (ay 7 U) di dc I I)<|dS (fI i 0 (vI y) U bX (ay 7 U) BC U dc U)<|dP 4 [] (mc 1 U mn) ?_
  obtain ⟨z,hz⟩:=aG r.aH (i-1) I
  have BD:=bG iC hz
  refine dS (IA (i-1) U (ay 7 U) di dc I I)<|dS (fI (i-1) 0 (vI z) U bX (ay 7 U) BD U dc U)<|dP 3 [] mn ?_
  refine cy<|RK O<|bE U (aQ fun Az=>?_) (aP fun Az=>?_)
  ·refine bM<|aB<|KK W<|ag<|rP 2 [] mn ?_
   refine ax ?_
   have Ac:(vI (((i+1):Nat):Int))=(vI ((i:Int)+1)):=by exact cI I
   refine aI (V ⟨(i+1),⟨I,wL J hx S (fun u v hu hv hw=>by (rw [hy] at hu; cases hu; rw [hz] at hw; cases hw; omega))⟩⟩ _ _ _ rfl os (bY 4<|aO rfl Ac<|cO.nil _) (aD [0,1,2,3,4,5,6,7,8,9,10]))
  refine WS fun _ AD=>rP 2 [] mn ?_
  refine RK AD<|an<|LX hQ (false,60,0,0,none,0,[]) [] [] mn U (by rfl) U U ?_
  exact vj<|od (ko B (fun q:eJ r=>by have q1:=(q.ids i y hy).2 z I hz; omega))
 refine bj<|aa<|aa<|au<|KK o<|WS fun _ AE=>e7 1 [] (mc 1 U mn) U<|rS (SX (bq (xs:=[(0,.tmp 89)]) (cs:=(gd.cells (gd.mk (pZ r kA kC cA cC bA bC slA slC drA drC heA heC) (bf.mk none 0 0) (Value.map none)))) U U (br Rq U)) U U)<|fm U fun L=>aY 1 U<|RK AE<|ai fun _ AF=>WS fun _ AG=>rP 4 [] (mc 2 U mn) ?_
 refine RK AG<|ar<|eP 78 1<|kW ?_
 have A:(0≤r.aq.length)∧(([]:List RA).length=0)∧(jh r 0):=by exact ⟨Nat.zero_le _,rfl,xE⟩
 refine bx (ι:={z:Nat×(List RA)×(OA)×Nat // (z.1≤r.aq.length)∧(z.2.1.length=z.1)∧(jh r z.1)}) [1,5,8,93,94] [3,4,5,6,7,8,9,10,11,12,13] U U (fun z=>[(95,(vI (z.1.1:Int)))]) (fun z=>[(bB (aU Dd (fY r z.1.1) z.1.2.1)),(own z.1.2.2.1 z.1.2.2.2 78 1 (List.map sC (List.zipWith Cm (fY r z.1.1) z.1.2.1))),(cq L 100 (gd.cells (gd.mk (pZ r kA kC cA cC bA bC slA slC drA drC heA heC) (bf.mk z.1.2.2.1 ((List.zipWith Cm (fY r z.1.1) z.1.2.1).length) z.1.2.2.2) (Value.map none))))]) (fun _=>rfl) (fun _=>rfl) (fun z=>r.aq.length-z.1.1) ⟨(0,([]:List RA),none,0),A⟩ (aN U) (aD [3,4,5,6,7,8,9,10,11,12,13,0,1,2]) ?_
 clear A
 rintro ⟨⟨h,tz,a,c⟩,⟨T,C,E⟩⟩ J42 Z
 try dsimp only at T C E
 try dsimp only
 refine WS fun _ AH=>rP 1 [] mn ?_
 refine RK AH<|ai fun _ AI=>bE U (aQ fun A0=>?_) (aP fun A0=>?_)
 ·refine bj<|aa<|aa<|au<|KK AF<|ai fun _ Aa=>?_
  have A9:fY r h=bV r:=by unfold bV; rw [show h=r.aq.length by omega]
  have Ak:tz.length=r.aq.length:=by omega
  rw [A9,yw,show (List.zipWith Cm (bV r) tz).length=(bV r).length from by rw [List.length_zipWith]; omega]
  have X:eJ r:=KB (n:=i) I I I I I N J E I
  refine ag<|rP 5 [] (mc 1 U mn) ?_
  refine cX (P_ r kA kC az cA cC bA bC slA slC drA drC ha heA heC tz a c (Value.map none) L r.aq.length hin asm I (by exact X.tI)) (nt [3,4,5,6,7,8,9,10]<|aC (ak (n:=(bV r).length) 12 U (j3 (by rw [Aj]; exact Ak)))<|aC (eN 11 U xA)<|fG 13 U U<|aS) U fun K BN=>?_
  try dsimp only
  refine rS (SX (bL U U) U U)<|rP 1 [] mn ?_
  refine iB (vs:=[(Value.map (some K))]) (cs':=(gd.cells (gd.mk (pZ r kA kC cA cC bA bC slA slC drA drC heA heC) (bf.mk a ((bV r).length) c) (Value.map (some K))))) (C':=[_,_,_,_,_,_,_,_,_,_,_,_,_,_,(cq L 100 (gd.cells (gd.mk (pZ r kA kC cA cC bA bC slA slC drA drC heA heC) (bf.mk a ((bV r).length) c) (Value.map (some K)))))]) 14 U U U OO U U U U U U U<|RK Aa<|ai fun _ Ab=>?_
  rw [show n8 r r.aq.length=aJ r from rfl]
  refine ag<|rP 3 [] mn ?_
  refine RK Ab<|an ?_
  refine LX hQ (true,0,L,K,a,c,tz) [14,13,12,0] [] mn U (by (show List.all _ _=true; simp only [cond_true,dY,List.all_nil,Dm,Bool.and_true]; rfl)) U U ?_
  exact ⟨fun _=>⟨B0 B X,Ak⟩,Lw⟩
 refine WK AI<|ai fun _ AJ=>ar<|WS fun _ AK=>?_
 obtain ⟨ht,D⟩:=aG r.aq h I
 obtain ⟨G,BE⟩:=aG ha h I
 have Ai:(List.zipWith cz r.aq ha)[h]? =some (cz ht G):=cH D BE
 refine rS (IA h U (ay 9 U) lk dc I I)<|rS (fI h 0 (vS G.1.1 ht.length G.1.2) U bX (ay 9 U) Ai U dc U)<|rP 1 [] mn ?_
 refine RK AK<|ai fun _ AM=>WS fun _ AN=>?_
 have Ah:=hin.my _ _ _ D BE
 have BJ:=Ah.mE
 refine rP 4 [] mn ?_
 refine RK AN<|cK U (bg fun Y=>?_) (bh fun Y=>?_)
 ·refine WS fun _ AO=>rP 2 [] mn ?_
  refine RK AO<|an<|LX hQ (false,60,0,0,none,0,[]) [] [] mn U (by rfl) U U ?_
  exact vj<|od (ko B (fun q:eJ r=>by have q1:=(q.my ht (aR D)).1; omega))
 refine WK AM<|WS fun _ AP=>aY 1 U<|RK AP<|ai fun _ AQ=>WS fun _ AR=>rP 3 [] mn ?_
 refine RK AR<|ar<|eP 47 2 ?_
 have A:(0≤ht.length)∧(oe r.aA ht 0):=by exact ⟨Nat.zero_le _,u0⟩
 refine bx (ι:={z:Nat×(OA)×Nat // (z.1≤ht.length)∧(oe r.aA ht z.1)}) [1,5,8,10,93,94,95,103,104] [1,2,3,4,5,6,7,8,9,10,11,12,13,14] U U (fun z=>[(11,(vS z.1.2.1 (((ht.take z.1.1).map (fB r.aA)).length) z.1.2.2)),(105,(vI (z.1.1:Int)))]) (fun z=>[(own z.1.2.1 z.1.2.2 47 2 (((ht.take z.1.1).map (fB r.aA)).map ab.cells))]) (fun _=>rfl) (fun _=>rfl) (fun z=>ht.length-z.1.1) ⟨(0,none,0),A⟩ (aN U) (aD [1,2,3,4,5,6,7,8,9,10,11,12,13,14,0]) ?_
 clear A
 rintro ⟨⟨j,la,lc⟩,⟨Al,F⟩⟩ J53 b
 try dsimp only at Al F
 try dsimp only
 refine WS fun _ AS=>rP 1 [] mn ?_
 refine RK AS<|ai fun _ AT=>bE U (aQ fun Aw=>?_) (aP fun Aw=>?_)
 ·refine bj<|aa<|aa<|au<|KK AQ<|ag<|aY 2 U<|rS (SX (bL U U) U U)<|rP 2 [] (mc 13 U mn) ?_
  rw [show ((ht.take j).map (fB r.aA))=ht.map (fB r.aA) from by rw [List.take_of_length_le I]]
  refine rP 1 [] mn ?_
  refine eX (xs:=[.tmp 128]) (cs:=[(vS la ((ht.map (fB r.aA)).length) lc)]) U zD Qy U U U U (by simp [Value.cells]) U U fun BS=>?_
  refine cp (es2:=(List.map sC (List.zipWith Cm (fY r (h+1)) (tz++[(la,lc)])))) (m':=(List.zipWith Cm (fY r (h+1)) (tz++[(la,lc)])).length) 13 U U U O4 U U sm (a_ (es:=List.map sC [(bf.mk la ((ht.map (fB r.aA)).length) lc)]) 0 U U (by simp [zg]) U) (HS _) (by rw [List.length_zipWith,kD I]; omega) (by rw [List.length_zipWith,kD I]; simp only [maxLen]; omega) (by rw [s9 D C,List.map_append]; rfl) (by rw [s9 D C]; simp) U fun P R=>?_
  try dsimp only
  refine rS (SX (bL U U) U U)<|aY 1 U<|iB (vs:=[(vS P ((List.zipWith Cm (fY r (h+1)) (tz++[(la,lc)])).length) R)]) (cs':=(gd.cells (gd.mk (pZ r kA kC cA cC bA bC slA slC drA drC heA heC) (bf.mk P ((List.zipWith Cm (fY r (h+1)) (tz++[(la,lc)])).length) R) (Value.map none)))) (C':=[_,_,_,_,_,_,_,_,_,_,_,_,_,_,(cq L 100 (gd.cells (gd.mk (pZ r kA kC cA cC bA bC slA slC drA drC heA heC) (bf.mk P ((List.zipWith Cm (fY r (h+1)) (tz++[(la,lc)])).length) R) (Value.map none)))),_]) 14 U U U S9 U U U U U U U<|ax<|aB<|KK AJ<|ag<|rP 2 [] mn ?_
  refine ax<|zn (X':=aU Dd (fY r (h+1)) (tz++[(la,lc)])) 12 15 U U (Cc (a:=(la,lc)) D C) ?_
  have Af:(vI (((h+1):Nat):Int))=(vI ((h:Int)+1)):=by exact cI I
  refine aI (Z ⟨((h+1),(tz++[(la,lc)]),P,R),⟨I,by simp; omega,wg E D (EY I F I)⟩⟩ _ _ _ U os (bY 5<|aO U Af<|cO.nil _) (aD [2,3,4,5,6,7,8,9,10,11,12,0,13,14]))
 refine WK AT<|ai fun _ AU=>ar<|WS fun _ AV=>?_
 obtain ⟨d,hd⟩:=aG ht j I
 obtain ⟨da,Ag⟩:=aG G.2 j I
 have A8:(List.zipWith av.cells ht G.2)[j]? =some (av.cells d da):=cH hd Ag
 refine rS (IA j U (show gI _ (rd G.1.1 ht.length 7 (List.zipWith av.cells ht G.2)).holds from (b_ 10 U (bu D BE bZ))) rI dc I I)<|rS (l4 j 0 (bp.cells (bp.mk d.Out d.dE d.Time (ew.mk d.bW.Start d.bW.fK (bf.mk da.1 d.bW.ah.length da.2)))) U bX (show gI _ (rd G.1.1 ht.length 7 (List.zipWith av.cells ht G.2)).holds from (b_ 10 U (bu D BE bZ))) A8 U dc U U)<|AL U Ty fun BP=>fq U Pv U<|RK AV<|WS fun _ AW=>aY 1 U<|rS (LP (bT.cells (kH r.aA kA kC cA cC bA bC)) 2 U bX U U U)<|rP 1 [] (mc 0 U mn) ?_
 have BX:=Ah.sig d (aR hd)
 refine rS (CL (Dj r.aA kA kC az cA cC bA bC d da.1 da.2 asm asm) (nt [3,4,5,6,7]<|aC (show gI _ (rd da.1 d.bW.ah.length 2 (d.bW.ah.map aK.cells)).holds from (b_ 11 U (bu D BE (cW _ (bu hd Ag (by simp [av.gh]))))))<|aS) U)<|aY 3 U<|AL U dk fun BQ=>fq U cu U<|aY 1 U<|RK AW<|ai fun _ AX=>WS fun _ AY=>rP 2 [] mn ?_
 refine RK AY<|bE U (bh fun M=>?_) (bg fun M=>?_)
 ·refine WK AX<|ag<|rP 2 [] (mc 0 U mn) ?_
  refine eX (xs:=[.tmp 119]) (cs:=(ab.cells (fB r.aA d))) U mM dk U U U U (by simp [Value.cells,ab.bw]) U U fun BR=>?_
  refine cp (es2:=(List.map ab.cells ((ht.take (j+1)).map (fB r.aA)))) (m':=((ht.take (j+1)).map (fB r.aA)).length) 17 U U U K1 U U sm (a_ (es:=List.map ab.cells [(fB r.aA d)]) 0 U U (by simp [ab.bw]) U) (jl _) (by simp only [List.length_map,List.length_take]; omega) (by simp only [maxLen,List.length_map,List.length_take]; omega) (by rw [List.take_add_one,hd]; simp) sq U fun Am Ar=>?_
  try dsimp only
  refine aY 1 U<|ax<|aB<|KK AU<|ag<|rP 2 [] mn ?_
  refine ax ?_
  have Ae:(vI (((j+1):Nat):Int))=(vI ((j:Int)+1)):=by exact cI I
  refine aI (b ⟨((j+1),Am,Ar),⟨I,u3 F hd M⟩⟩ _ _ _ U os (bY 10<|aO U Ae<|cO.nil _) (aD [3,4,5,6,7,8,9,10,11,12,13,14,15,16,17]))
 refine WS fun _ AZ=>rP 2 [] mn ?_
 refine RK AZ<|an<|LX hQ (false,60,0,0,none,0,[]) [] [] mn U (by rfl) U U ?_
 exact vj<|od (ko B (fun q:eJ r=>by exact M ((q.my ht (aR D)).2 d (aR hd))))
end
section
open Go.RowKit
theorem IK (m:g7) (gm g1:Nat):
 Eb Tryz.prog 79 [] [(vP g1)] [(hU iV gm (bQ dB m)),(cq g1 86 [(Value.map (some gm))])] ([]:List Int) (fun ys x ys'=> ∃ n zs,(ys++[n]++zs).Perm (m.map (·.1))∧x=[vI n]∧ys'=ys++[n]) (fun ys=>ys.Perm (m.map (·.1))):=by
 refine tD kr Tryz.func79 U U fun l J Z A0 S Q hY M L hQ hN=>?_
 try dsimp only
 refine WS fun _ O=>rP 1 [] (mr 2 U mn) ?_
 refine jI (kV:=iV) (m:=bQ dB m) 1 U U lH U ⟨U,fun h=>h⟩ (by exact ku 1 U) U fun V=>?_
 try dsimp only
 refine RK O<|ar ?_
 have G:(oF m m ([]:List Int))∧(∀ p∈m,p∈m)∧(J ([]:List Int) A0)∧(Fo A0 S A0):=by exact ⟨u_,fun p hp=>hp,M,L⟩
 refine bx (ι:={z:g7×(List Int)×aw // (oF m z.1 z.2.1)∧(∀ p∈z.1,p∈m)∧(J z.2.1 z.2.2)∧(Fo A0 S z.2.2)}) [0,1,5] [2,3] U U (fun z=>[]) (fun z=>[(yc iV V gm (bQ dB m) (bQ dB z.1.1) none),z.1.2.2]) (fun _=>rfl) (fun _=>rfl) (fun z=>z.1.1.length) ⟨(m,([]:List Int),A0),G⟩ (cO.nil _) (aD [2,3,0,1]) ?_
 clear G
 rintro ⟨⟨left,ys,A⟩,⟨B,H,C,D⟩⟩ J3 N
 try dsimp only at B H C D
 try dsimp only
 refine WS fun _ AB=>iZ (dG mF).inj (f:=dB) 2 U U U U (fun T=>?_) (fun x y hm hn=>?_)
 ·refine rP 1 [] mn ?_
  refine RK AB<|ai fun _ AA=>aX U<|bj<|aa<|aa<|au ?_
  refine hN _ _ _ (g3 (vs:=[]) trivial fun w hs=>JH 3 U (by rw [T] at B; exact wX B) C D hs)
 try dsimp only
 refine aY 1 U<|RK AB<|ai fun _ P=>aL U<|WK P<|ar<|WS fun _ R=>rS (SX (iT 2 U U U) U U)<|aY 2 U<|RK R<|WS fun _ K=>rP 2 [] mn ?_
 refine kj (k:=ys) (k':=(ys++[(x)])) 3 (by first|exact hsz|exact Nat.le_refl _) hY C D U U U (by exact ⟨x,_,n7 hn hm B,U,U⟩) U U (fun B9 F E=>?_) (fun B9 F E=>?_)
 rotate_left 1
 ·refine rP 1 [] mn ?_
  refine RK K<|aL U<|an ?_
  refine hQ _ _ _ (g3 (vs:=[]) trivial fun w hs=>rW 3 U F E hs)
 refine rP 1 [] mn ?_
 refine RK K<|aX U<|bM<|aB<|gP 2 U fr U ?_
 refine aI (N ⟨((ct left x),(ys++[(x)]),B9),⟨n7 hn hm B,fO H,F,E⟩⟩ _ _ _ U (eI hm) (aN U) (aD [0,1,2,3]))
theorem Eu (gm:Nat):
 lg Tryz.prog 55 [(Value.map (some gm))] [] (fun (x:Nat)=>(Value.func (.func 79) [].toArray [(vP x)].toArray)) (fun (x:Nat)=>True) (fun (x:Nat)=>[(cq x 86 [(Value.map (some gm))])]):=by
 refine db kr Tryz.func55 U U fun D Q hQ hN=>?_
 try dsimp only
 refine WS fun _ A=>ux U U fun C=>aY 1 U<|RK A<|WS fun _ B=>rS (FU U)<|rP 1 [] mn ?_
 refine RK B<|an<|LX hQ C [0] [] mn U U U U ?_
 trivial
end
section
open Go.RowKit
theorem GU (m:g7) (gm g1:Nat) (hlen:m.length≤12):
 lg Tryz.prog 98 [(vS none 0 0),(Value.func (.func 79) [].toArray [(vP g1)].toArray)] [(hU iV gm (bQ dB m)),(cq g1 86 [(Value.map (some gm))])] (fun (x:(List Int)×(OA)×Nat)=>(vS x.2.1 x.1.length x.2.2)) (fun (x:(List Int)×(OA)×Nat)=>x.1.Perm (m.map (·.1))) (fun (x:(List Int)×(OA)×Nat)=>[(own x.2.1 x.2.2 3 1 (x.1.map iC))]):=by
 refine db kr Tryz.func98 U U fun X Q hQ hN=>?_
 try dsimp only
 refine WS fun _ AB=>ux U U fun N=>aY 1 U<|RK AB<|ai fun _ J=>WS fun _ K=>rP 1 [] mn ?_
 refine RK K<|ar<|kl 1 U (by exact fun _ h=>h)<|kl 3 U (by exact fun _ h=>h)<|eP 3 1 ?_
 refine m_ (L0:=[(2,(vP N))]) (F:=[(hU iV gm (bQ dB m)).ro,(cq g1 86 [(Value.map (some gm))]).ro]) (fun k (y:(OA)×Nat)=>(∃ zs,(k++zs).Perm (m.map (·.1)))) (fun k y=>[(own y.1 y.2 3 1 (k.map iC)),(cq N 29 [(vS y.1 k.length y.2)]),(hU iV gm (bQ dB m)).ro]) (fun _ (_:Unit)=>False) (fun _ _=>[]) [0,3,4] [2,1] (none,0) rfl rfl (IK m gm g1) rfl rfl rfl (by exact ⟨_,List.Perm.refl _⟩) (by simp only [List.forall_mem_cons,List.not_mem_nil,false_imp_iff,implies_true,and_true]; exact ⟨⟨_,sm,(dA (bO _))⟩,⟨_,sm,(dA (bO _))⟩⟩) (by rintro k x AA ⟨n,zs,_,rfl,_⟩; rfl) rfl (aN rfl) ?_ ?_ (fun _ _ _ h=>h.elim) (fun _ _ h=>h.elim)
 rotate_left 1
 ·rintro V k ⟨a,c⟩ E A
  have B:=A
  try dsimp only at B
  try dsimp only
  refine aB<|KK J<|WS fun _ C=>rP 2 [] (mc 4 U mn) ?_
  refine RK C<|an<|hQ _ _ _ (oG 0 U U<|g3 (vs:=[(vS a k.length c)]) ⟨U,trivial⟩ fun w hs=>Kp (k,a,c) [3] ?_ ?_ U U U hs)
  ·rfl
  ·first|exact E|exact hys
 rintro k x AA ⟨a,c⟩ l ra rb S Y K5 Qr6 T hx G L D O P
 obtain ⟨n,zs,hn,rfl,rfl⟩:=hx; have M:=hn.length_eq; simp only [List.length_append,List.length_map,List.length_singleton] at M
 have B:=G
 try dsimp only at B
 try dsimp only
 refine ag<|rP 1 [] mn ?_
 refine ax<|aI (L _ _ ?_)
 refine ar<|ag<|rP 2 [] (mc 2 U mn) ?_
 refine eX (xs:=[.tmp 9]) (cs:=[(vI n)]) U di lh U U U U (by simp [Value.cells]) U U fun W=>?_
 refine cp (es2:=(List.map iC (k++[n]))) (m':=(k++[n]).length) 2 U U U mJ U U sm (a_ (es:=List.map iC [n]) 0 U U (by simp [bU]) U) (g_ _) os (by simp only [maxLen]; omega) sm sm U fun R H=>?_
 try dsimp only
 refine S4 U wq U U<|ax<|aB ?_
 exact D (R,H) _ _ (by exact ⟨_,hn⟩) (aD [1,2,3,4])
end
section
open Go.RowKit
theorem Ed (m:g7) (gm g1:Nat) (hlen:m.length≤12):
 lg Tryz.prog 78 [(Value.func (.func 79) [].toArray [(vP g1)].toArray)] [(hU iV gm (bQ dB m)),(cq g1 86 [(Value.map (some gm))])] (fun (x:(List Int)×(OA)×Nat)=>(vS x.2.1 x.1.length x.2.2)) (fun (x:(List Int)×(OA)×Nat)=>x.1.Perm (m.map (·.1))) (fun (x:(List Int)×(OA)×Nat)=>[(own x.2.1 x.2.2 3 1 (x.1.map iC))]):=by
 refine db kr Tryz.func78 U U fun AA Q hQ hN=>?_
 try dsimp only
 refine WS fun _ A=>aY 1 U<|RK A<|WS fun _ B=>rP 1 [] mn ?_
 refine cX (GU m gm g1 hlen) (aZ [0,1]) U fun H C=>?_
 obtain ⟨E,F,G⟩:=H
 try dsimp only
 have D:=C
 refine rP 1 [] mn ?_
 refine RK B<|an<|LX hQ (E,F,G) [0] [] mn U U U U ?_
 first|exact hfin|exact D
theorem za (m:g7) (gm g1:Nat) (hlen:m.length≤12):
 lg Tryz.prog 54 [(Value.func (.func 79) [].toArray [(vP g1)].toArray)] [(hU iV gm (bQ dB m)),(cq g1 86 [(Value.map (some gm))])] (fun (x:(OA)×Nat)=>(vS x.1 m.length x.2)) (fun (x:(OA)×Nat)=>True) (fun (x:(OA)×Nat)=>[(own x.1 x.2 3 1 ((dx (m.map (·.1))).map iC))]):=by
 refine db kr Tryz.func54 U U fun M Q hQ hN=>?_
 try dsimp only
 refine WS fun _ E=>aY 1 U<|RK E<|WS fun _ F=>rP 1 [] mn ?_
 refine cX (Ed m gm g1 hlen) (aZ [0,1]) U fun L H=>?_
 obtain ⟨AA,J,K⟩:=L
 try dsimp only
 have D:=H
 refine aY 1 U<|RK F<|WS fun _ G=>rP 1 [] mn ?_
 have B:=D.length_eq
 simp only [List.length_map] at B
 refine j8 0 U U U U (z4 AA J K sd) U lG U (fun ms C=>?_)
 try dsimp only
 refine RK G<|WS fun _ A=>?_
 obtain rfl:=qm (C.1.trans D) C.2
 skip
 refine rP 2 [] mn ?_
 refine RK A<|an ?_
 refine LX hQ (J,K) [0] [] mn U U U ?_ ?_
 ·first|rfl|(rw [B]; rfl)
 ·trivial
end
section
open Go.RowKit
theorem zw (l:List Int) (lA:OA) (lC:Nat) (hlen:l.length≤1000000):
 lg Tryz.prog 47 [(vS lA l.length lC)] [(rd lA l.length 1 (l.map iC))] (fun (x:(OA)×Nat)=>(vS x.1 l.length x.2)) (fun (x:(OA)×Nat)=>True) (fun (x:(OA)×Nat)=>[(own x.1 x.2 3 1 (l.map iC))]):=by
 refine db kr Tryz.func47 U U fun L Q hQ hN=>?_
 try dsimp only
 refine WS fun _ D=>aY 1 U<|RK D<|ai fun _ E=>WS fun _ F=>rP 1 [] mn ?_
 refine rS (BI U (qt Rr))<|RK F<|cK U (aP fun B=>?_) (aQ fun B=>?_)
 ·refine WS fun _ G=>mj (ay 0 U) B dc fun C=>?_
  have A:l=[]:=by simpa using C
  refine fg 3 1 ?_
  rw [show (own none 0 3 1 ([]:List (List Value)))=own none 0 3 1 (l.map iC) from by rw [A]; rfl]
  refine rP 1 [] mn ?_
  refine RK G<|an ?_
  refine LX hQ (none,0) [0] [] mn U U U ?_ ?_
  ·first|rfl|(rw [A]; rfl)
  ·trivial
 refine WK E<|WS fun _ H=>kN U di U fun J=>rP 1 [] mn ?_
 refine eK (es:=(List.map iC [])) (C':=[own (some ⟨J,0,none⟩) 0 3 1 (List.map iC []),_]) 0 U sm U (by simp [maxLen]) U ?_
 refine cp (es2:=(List.map iC l)) (m':=l.length) 0 U U U mJ U U sm (ay 1 U) (g_ _) os (by first|(simp only [maxLen]; omega)|(simp [maxLen]; omega)) sm sm U fun AA K=>?_
 try dsimp only
 refine rP 1 [] mn ?_
 refine RK H<|an ?_
 refine LX hQ (AA,K) [0] [] mn U U U ?_ ?_
 ·first|rfl|(rw [A]; rfl)
 ·trivial
theorem B_ (l:List Int) (lA:OA) (lC:Nat) (f:Value) (key:Int→Int) (X:aw) (hf: ∀ x0 x1,x0∈l∧x1∈l→Dc Tryz.prog f [.int .i64 x0,.int .i64 x1] [X] (.int .i64 (key x0-key x1))) (hkb: ∀ x∈l,0≤key x∧key x≤30000000) (hlen:l.length≤1000000):
 Gz Tryz.prog 139 [(vS lA l.length lC),(vI 0),(vI (l.length:Int)),f] [X] (own lA lC 3 1 (l.map iC)) (fun (x:Unit)=>(vT [])) (fun (x:Unit)=>True) (fun (x:Unit)=>(own lA lC 3 1 ((fD key l).map iC))):=by
 refine pj kr Tryz.func139 U U fun s Q hQ hN=>?_
 try dsimp only
 refine WS fun _ Z=>aY 1 U<|rS (SX (cM (r:= .int .i64 1) U U U (iP ⟨dc,dc⟩)) U U)<|rP 1 [] mn ?_
 refine RK Z<|ar ?_
 have C:(1≤1∧(1≤l.length∨1=1))∧(l.length=l.length)∧(1=1∧l=[]∨tO key l 1 l)∧(∀ x∈l,x∈l):=by exact ⟨I,rfl,GZ,fun x h=>h⟩
 refine bx (ι:={z:Nat×(List Int) // (1≤z.1∧(z.1≤l.length∨z.1=1))∧(z.2.length=l.length)∧(z.1=1∧l=[]∨tO key l z.1 z.2)∧(∀ x∈z.2,x∈l)}) [0,1,2,3] [1] U U (fun z=>[(8,(vI (z.1.1:Int)))]) (fun z=>[(own lA lC 3 1 (z.1.2.map iC))]) (fun _=>rfl) (fun _=>rfl) (fun z=>l.length-z.1.1) ⟨(1,l),C⟩ (aN U) (aD [1,0]) ?_
 clear C
 rintro ⟨⟨i,m⟩,⟨AB,E,F,G⟩⟩ J2 L
 try dsimp only at AB E F G
 try dsimp only
 refine ai fun _ b=>WS fun _ c=>rP 3 [] mn ?_
 refine RK c<|bE U (aQ fun p=>?_) (aP fun p=>?_)
 ·refine bj<|aa<|aa<|au ?_
  rw [show m=fD key l from Jk I E F]
  refine LM hN () 1 [] mn U U U U ?_
  trivial
 refine WK b<|ai fun _ N=>ar<|WS fun _ d=>rP 2 [] mn ?_
 refine RK d<|ar ?_
 have C:(i≤i)∧(m.length=l.length)∧(∀ x∈m,x∈l)∧(Cb key l i i m):=by exact ⟨Nat.le_refl _,E,G,Dr I (Mc I F)⟩
 refine bx (ι:={z:Nat×(List Int) // (z.1≤i)∧(z.2.length=l.length)∧(∀ x∈z.2,x∈l)∧(Cb key l i z.1 z.2)}) [0,1,2,3,8] [0] U U (fun z=>[(9,(vI (z.1.1:Int)))]) (fun z=>[(own lA lC 3 1 (z.1.2.map iC))]) (fun _=>rfl) (fun _=>rfl) (fun z=>z.1.1) ⟨(i,m),C⟩ (aN U) (aD [0,1]) ?_
 clear C
 rintro ⟨⟨j,q⟩,⟨J,D,A,B⟩⟩ J8 Y
 try dsimp only at J D A B
 try dsimp only
 refine ai fun _ e=>ai fun _ H=>cS cf 17 kr<|dP 4 [] mn ?_
 refine j2 (t:=21) U (aQ fun V=>?_) (aP fun V=>?_)
 ·refine lq 13 U<|cy<|RK H<|aX U<|bj<|aa<|aa<|au<|aB<|KK N<|ag<|rP 3 [] mn ?_
  refine ax ?_
  refine aI (L ⟨((i+1),q),⟨I,D,.inr (by first|exact ye I B|exact yS I B hx hy I),A⟩⟩ _ _ _ U (by simp only []; omega) (aN U) (aD [0,1]))
 refine dP 3 [] mn ?_
 obtain ⟨x,hx⟩:=aG q j I
 have K:=bG iC hx
 refine dS (IA j U (ak (n:=l.length) 1 U sq) di dc I I) ?_
 refine dS (fI j 0 (vI x) U bX (ak (n:=q.length) 1 U sm) K U dc U)<|dP 3 [] mn ?_
 obtain ⟨y,hy⟩:=aG q (j-1) I
 have AA:=bG iC hy
 refine dS (IA (j-1) U (ak (n:=l.length) 1 U sq) di dc I I) ?_
 refine dS (fI (j-1) 0 (vI y) U bX (ak (n:=q.length) 1 U sm) AA U dc U)<|dS (SX (sk U U U (hf x y ⟨A _ (aR hx),A _ (aR hy)⟩) (aZ [0])) U U)<|dP 2 [] mn ?_
 refine cy<|RK H<|bE U (aQ fun W=>?_) (aP fun W=>?_)
 ·refine bj<|aa<|aa<|au<|aB<|KK N<|ag<|rP 3 [] mn ?_
  refine ax ?_
  refine aI (L ⟨((i+1),q),⟨I,D,.inr (by first|exact ye I B|exact yS I B hx hy I),A⟩⟩ _ _ _ U (by simp only []; omega) (aN U) (aD [0,1]))
 refine WK e<|ai fun _ M=>ar<|dp cf [15,16,17] [8,9,12,13,14] [] [0] [0,1] U U U U U<|eS U (MV U)<|eS U (MV U)<|eS U (MV U)<|eS U (MV U)<|eS U (BI U (s8 ⟨I,I⟩))<|eS U (MV U)<|eS U (MV U)<|eS U (BI U (s8 ⟨I,I⟩)) ?_
 refine fS U (IA (j-1) U (ak (n:=l.length) 1 U sq) di dc I I) ?_
 refine fS U (fI (j-1) 0 (vI y) U bX (ak (n:=q.length) 1 U sm) AA U dc U)<|eS U (MV U)<|eS U (MV U) ?_
 refine fS U (IA j U (ak (n:=l.length) 1 U sq) di dc I I) ?_
 refine fS U (fI j 0 (vI x) U bX (ak (n:=q.length) 1 U sm) K U dc U) ?_
 refine fS U (IA j U (ak (n:=l.length) 1 U sq) di dc I I) ?_
 refine eu U<|bS U fun T14 O=>c_ (k:=j) (o:=0) (vs:=[(vI y)]) (es':=(List.map iC (q.set j y))) (C':=[_,(own lA lC 3 1 (List.map iC (q.set j y)))]) 1 U U U DL U U U U K U dc (by exact (List.map_set (f:=iC) (l:=q) (i:=j) (a:=y)).symm) U<|ax (O _ _ (aD [0]) ?_)
 refine bS U fun T15 P=>?_
 obtain ⟨g,T⟩:=aG (q.set j y) (j-1) os
 have hx17m:(List.map iC (q.set j y))[(j-1)]? =some (iC g):=by rw [fj,T]; rfl
 refine rS (IA (j-1) U (ak (n:=l.length) 1 U sq) di dc I I) ?_
 refine ax (P _ _ (aD [0]) ?_)
 refine bS U fun T18 R=>c_ (k:=(j-1)) (o:=0) (vs:=[(vI x)]) (es':=(List.map iC ((q.set j y).set (j-1) x))) (C':=[_,(own lA lC 3 1 (List.map iC ((q.set j y).set (j-1) x)))]) 1 U U U DL U U U U hx17m U dc (by exact (List.map_set (f:=iC) (l:=(q.set j y)) (i:=(j-1)) (a:=x)).symm) U<|ax (R _ _ (aD [0]) ?_)
 refine eY U<|aB<|KK M<|ag<|rP 3 [] mn ?_
 refine ax ?_
 have S:(vI (((j-1):Nat):Int))=(vI ((j:Int)-1)):=by exact cI I
 refine aI (Y ⟨((j-1),((q.set j y).set (j-1) x)),⟨I,by simp; exact D,IH hx hy A,Hm I B hx hy I⟩⟩ _ _ _ U (by simp only []; omega) (bY 5<|aO U S<|cO.nil _) (aD [0,1]))
theorem Ja (l:List Int) (lA:OA) (lC:Nat) (f:Value) (key:Int→Int) (X:aw) (hf: ∀ x0 x1,x0∈l∧x1∈l→Dc Tryz.prog f [.int .i64 x0,.int .i64 x1] [X] (.int .i64 (key x0-key x1))) (hkb: ∀ x∈l,0≤key x∧key x≤30000000) (hlen:l.length≤12):
 Gz Tryz.prog 97 [(vS lA l.length lC),(vI (l.length:Int)),f] [X] (own lA lC 3 1 (l.map iC)) (fun (x:Unit)=>(vT [])) (fun (x:Unit)=>True) (fun (x:Unit)=>(own lA lC 3 1 ((fD key l).map iC))):=by
 refine pj kr Tryz.func97 U U fun N Q hQ hN=>?_
 try dsimp only
 refine WS fun _ C=>aY 1 U<|RK C<|WS fun _ D=>aY 3 U<|RK D<|ai fun _ E=>ar<|nx 1<|fz fun R4 M=>ai fun _ L=>WS fun _ F=>rP 3 [] mn ?_
 refine RK F<|cK U (aP fun K=>?_) (aQ fun K=>?_)
 ·exfalso; omega
 refine bj<|aa<|aa<|au<|KK E<|WS fun _ G=>rP 4 [] mn ?_
 refine j8 0 U U U U (B_ l lA lC f key X (by exact hf) hkb sd) U (dM 1 U U (dA (bO _)) lG) U (fun O J=>?_)
 try dsimp only
 refine RK G<|ar<|nx 1<|fz fun R11 AA=>ai fun _ H=>WS fun _ A=>rP 3 [] mn ?_
 refine RK A<|cK U (aP fun B=>?_) (aQ fun B=>?_)
 ·exfalso; omega
 refine bj<|aa<|aa<|au<|LM hN () 0 [] mn U U U U ?_
 trivial
theorem Aa (l:List Int) (lA:OA) (lC:Nat) (f:Value) (key:Int→Int) (X:aw) (hf: ∀ x0 x1,x0∈l∧x1∈l→Dc Tryz.prog f [.int .i64 x0,.int .i64 x1] [X] (.int .i64 (key x0-key x1))) (hkb: ∀ x∈l,0≤key x∧key x≤30000000) (hlen:l.length≤12):
 Gz Tryz.prog 75 [(vS lA l.length lC),f] [X] (own lA lC 3 1 (l.map iC)) (fun (x:Unit)=>(vT [])) (fun (x:Unit)=>True) (fun (x:Unit)=>(own lA lC 3 1 ((fD key l).map iC))):=by
 refine pj kr Tryz.func75 U U fun B Q hQ hN=>?_
 try dsimp only
 refine ag<|rP 4 [] mn ?_
 refine j8 0 U U U U (Ja l lA lC f key X (by exact hf) hkb hlen) U (dM 1 U U (dA (bO _)) lG) U (fun C A=>?_)
 try dsimp only
 refine ax<|LM hN () 0 [] mn U U U U ?_
 trivial
theorem GW (l:List Int) (lA:OA) (lC:Nat) (f:Value) (key:Int→Int) (X:aw) (hf: ∀ x0 x1,x0∈l∧x1∈l→Dc Tryz.prog f [.int .i64 x0,.int .i64 x1] [X] (.int .i64 (key x0-key x1))) (hkb: ∀ x∈l,0≤key x∧key x≤30000000) (hlen:l.length≤12):
 lg Tryz.prog 49 [(vS lA l.length lC),f] [(rd lA l.length 1 (l.map iC)),X] (fun (x:(OA)×Nat)=>(vS x.1 ((fD key l).length) x.2)) (fun (x:(OA)×Nat)=>True) (fun (x:(OA)×Nat)=>[(own x.1 x.2 3 1 ((fD key l).map iC))]):=by
 refine db kr Tryz.func49 U U fun J Q hQ hN=>?_
 try dsimp only
 refine WS fun _ B=>aY 1 U<|RK B<|WS fun _ C=>rP 1 [] mn ?_
 refine cX (zw l lA lC sd) (aZ [0]) U fun AA G=>?_
 obtain ⟨E,F⟩:=AA
 try dsimp only
 refine aY 1 U<|RK C<|WS fun _ D=>rP 2 [] mn ?_
 refine j8 0 U U U U (Aa l E F f key X (by exact hf) hkb hlen) U (dM 2 U U (dA (bO _)) lG) U (fun K H=>?_)
 try dsimp only
 refine RK D<|WS fun _ A=>rP 2 [] mn ?_
 refine RK A<|an ?_
 refine LX hQ (E,F) [0] [] mn U U U ?_ ?_
 ·first|rfl|(rw [oE]; rfl)
 ·trivial
end
section
open Go.RowKit
theorem Kj (a b:Int) (r:cr) (kA:OA) (kC:Nat) (cA:OA) (cC:Nat) (bA:OA) (bC:Nat) (slA:OA) (slC:Nat) (drA:OA) (drC:Nat) (heA:OA) (heC:Nat) (tA:OA) (tN tC:Nat) (gs gw:Nat) (m:g7) (g1:Nat) (hb: ∀ p∈m,0≤p.2.Lo∧p.2.Lo≤p.2.Hi∧p.2.Hi≤30000000):
 eA Tryz.prog 56 [(vI a),(vI b),(vP g1)] [(cq gw 100 (gd.cells (gd.mk (pZ r kA kC cA cC bA bC slA slC drA drC heA heC) (bf.mk tA tN tC) (Value.map (some gs))))),(hU iV gs (bQ dB m)),(cq g1 77 [(vP gw)])] (vI ((bk m a).Lo-(bk m b).Lo)):=by
 have A:=gN (i:=a) hb
 have B:=gN (i:=b) hb
 refine bH kr Tryz.func56 U U fun E Q hQ hN=>?_
 try dsimp only
 refine WS fun _ C=>aY 1 U<|RK C<|ai fun _ D=>cS cf 16 kr<|l0 1 [] (mr 2 U mn) U<|dS (SX (bL U U) U U)<|l0 3 [] (mr 0 U mn) U<|dS (SX (iU (kV:=iV) (x:=a) (l:=m) (f:=dB) (z:=(ab.mk 0 0)) U U U lH (dG mF) si (by exact ku 1 U)) U U)<|dS (SX (j7 (v:=(vI (((List.lookup a m).getD (ab.mk 0 0)).Lo))) U U e_ uc U) U U)<|l0 1 [] (mr 2 U mn) U<|dS (SX (bL U U) U U)<|dP 3 [] (mr 0 U mn) ?_
 refine dS (SX (iU (kV:=iV) (x:=b) (l:=m) (f:=dB) (z:=(ab.mk 0 0)) U U U lH (dG mF) si (by exact ku 1 U)) U U)<|dS (SX (j7 (v:=(vI (((List.lookup b m).getD (ab.mk 0 0)).Lo))) U U e_ uc U) U U) ?_
 unfold bk at A B
 simp only [fF] at A B
 refine dP 2 [] mn ?_
 refine cy<|RK D<|an ?_
 exact Q1 hQ U U U U
theorem MI (r:cr) (kA:OA) (kC:Nat) (az:List RA) (cA:OA) (cC:Nat) (bA:OA) (bC:Nat) (slA:OA) (slC:Nat) (drA:OA) (drC:Nat) (ha:List cD) (heA:OA) (heC:Nat) (hin:fw r az ha):
 lg Tryz.prog 24 [(vA (cj.cells (pZ r kA kC cA cC bA bC slA slC drA drC heA heC)))] [(rd jA 3 2 gZ),(rd kA r.aA.aM.length 9 (r.aA.aM.map al.cells)),(rd cA r.aA.aj.length 2 (List.zipWith ao.cells r.aA.aj az)),(eH (aU ao.gh r.aA.aj az)),(rd bA r.aA.ae.length 4 (r.aA.ae.map bI.cells)),(rd slA r.aH.length 1 (r.aH.map iC)),(rd drA r.cm.length 1 (r.cm.map iC)),(rd heA r.aq.length 1 (List.zipWith cz r.aq ha)),(eH (aU iA r.aq ha))] (fun (x:(List RA)×(OA)×Nat)=>(vT [(vS x.2.1 ((fu r).length) x.2.2),(vI (gr r))])) (fun (x:(List RA)×(OA)×Nat)=>x.1.length=(fu r).length) (fun (x:(List RA)×(OA)×Nat)=>[(own x.2.1 x.2.2 29 1 (List.zipWith qd (fu r) x.1)),(bB (aU zQ (fu r) x.1))]):=by
 have Ar:=hin.line
 have BH:=hin.iR
 have BI:=hin.has
 have A2:=hin.iK
 have Az:=hin.draw
 have A3:=dw (r:=r)
 refine db kr Tryz.func24 U U fun w0 Q hQ hN=>?_
 try dsimp only
 refine WS fun _ Am=>fm U fun b2=>aY 2 U<|RK Am<|WS fun _ AD=>rP 1 [] (mc 0 U mn) ?_
 refine cX (vu r kA kC az cA cC bA bC slA slC drA drC ha heA heC hin) (aZ [1,2,3,4,5,6,7,8,9]) U fun y4 Ad=>?_
 obtain ⟨Ae,BE,X,O,Af,W,A7⟩:=y4
 cases Ae
 ·obtain ⟨Aa,he⟩:=Ad.2 rfl
  try dsimp only at Aa he
  subst Aa
  try dsimp only [cond_true,cond_false,List.cons_append,List.nil_append]
  refine aY 3 U<|AL U RC fun A9=>HH U QK U U<|aY 1 U<|RK AD<|ai fun _ Ay=>WS fun _ s=>rP 2 [] mn ?_
  refine RK s<|bE U (bh fun g=>?_) (bg fun g=>?_)
  ·exact absurd g he
  refine WS fun _ t=>rP 1 [] mn ?_
  have E:fu r=[]:=xx he
  have Z:([]:List RA).length=(fu r).length:=by rw [E]; rfl
  refine fg 29 1<|wm ?_
  rw [show (own none 0 29 1 ([]:List (List Value)))=own none 0 29 1 (List.zipWith qd (fu r) []) from by rw [E]; rfl,show bB []=bB (aU zQ (fu r) []) from by rw [E]; rfl]
  refine rP 2 [] mn ?_
  refine RK t<|an ?_
  refine LX hQ ([],none,0) [1,0] [] mn U (by show List.all _ _=true; simp only [dY,List.all_nil,z7,Bool.and_true]; rfl) U ?_ ?_
  ·first|rfl|(rw [E]; rfl)|(rw [he,← E,List.length_map]; rfl)|(rw [he,E]; rfl)
  ·exact Z
 obtain ⟨he,BK⟩:=Ad.1 rfl
 try dsimp only [cond_true,cond_false,List.cons_append,List.nil_append]
 have BM:=pR he
 have A1:=nH he
 refine aY 3 U<|AL U RC fun R=>HH U QK U U<|aY 1 U<|RK AD<|ai fun _ v=>WS fun _ w=>aY 1 U<|rS (SX (cM (r:= .bool false) U U U rQ) U U)<|RK w<|aX U<|WK v<|WS fun _ y=>aY 1 U<|RK y<|WS fun _ AA=>aY 1 U<|RK AA<|ai fun _ AB=>WS fun _ AC=>e7 1 [] (mc 0 U mn) U<|rS (SX (bL U U) U U)<|rP 2 [] (mc 1 U mn) ?_
 refine cX (Eu O) (aS) U fun Ai A4=>?_
 try dsimp only
 refine cX (za (aJ r) O Ai sd) (aZ [5,0]) U fun Aw A5=>?_
 obtain ⟨Ah,Aj⟩:=Aw
 try dsimp only
 rw [show (aJ r).length=(dx ((aJ r).map (·.1))).length from by rw [fW,List.length_map]]
 refine rS (FU U) ?_
 refine cX (GW (dx ((aJ r).map (·.1))) Ah Aj (Value.func (.func 56) [].toArray [(vP R)].toArray) (fun u=>(bk (aJ r) u).Lo) (eH [(cq X 100 (gd.cells (gd.mk (pZ r kA kC cA cC bA bC slA slC drA drC heA heC) (bf.mk Af ((bV r).length) W) (Value.map (some O))))),(hU iV O (bQ dB (aJ r))),(cq R 77 [(vP X)])]) (by intro Au Av _; exact ov (fi:=[]) (ca:=[(vP R)]) (mO (Kj Au Av r kA kC cA cC bA bC slA slC drA drC heA heC Af ((bV r).length) W O X (aJ r) R (by first|assumption|omega)) (MH 0 1 2 U U U U U U))) (by exact Ri BM) (by rw [fW,List.length_map]; omega)) (aC (ak (n:=(dx ((aJ r).map (·.1))).length) 0 U sm)<|aC (mH (MH 3 6 2 U U U U U U))<|aS) U fun Ax A6=>?_
 obtain ⟨A8,BD⟩:=Ax
 try dsimp only
 have BJ:(fD (fun u=>(bk (aJ r) u).Lo) (dx ((aJ r).map (·.1)))).length=(aJ r).length:=by rw [oE,fW,List.length_map]
 have Ac:Dh (fun u=>(bk (aJ r) u).Lo) (fD (fun u=>(bk (aJ r) u).Lo) (dx ((aJ r).map (·.1)))):=ur
 refine rP 2 [] mn ?_
 refine RK AC<|ar<|eP 29 1<|kW ?_
 have H:(0≤(fD (fun u=>(bk (aJ r) u).Lo) (dx ((aJ r).map (·.1)))).length)∧(([]:List RA).length=([]:List (List Int)).length)∧(l7 (bk (aJ r)) ((fD (fun u=>(bk (aJ r) u).Lo) (dx ((aJ r).map (·.1)))).take 0) ([]:List (List Int)) (-1))∧(-1≤(-1)∧(-1)≤30000000):=by exact ⟨Nat.zero_le _,rfl,EJ,I⟩
 refine bx (ι:={z:Nat×(List (List Int))×(List RA)×(OA)×Nat×Int // (z.1≤(fD (fun u=>(bk (aJ r) u).Lo) (dx ((aJ r).map (·.1)))).length)∧(z.2.2.1.length=z.2.1.length)∧(l7 (bk (aJ r)) ((fD (fun u=>(bk (aJ r) u).Lo) (dx ((aJ r).map (·.1)))).take z.1) z.2.1 z.2.2.2.2.2)∧(-1≤z.2.2.2.2.2∧z.2.2.2.2.2≤30000000)}) [1,4,29,30] [2,3,5,6,7,8,9,11,12,13,14,15,16,17,18,19] U U (fun z=>[(6,(vS z.1.2.2.2.1 z.1.2.1.length z.1.2.2.2.2.1)),(7,(vI z.1.2.2.2.2.2)),(31,(vI (z.1.1:Int)))]) (fun z=>[(bB (aU zQ z.1.2.1 z.1.2.2.1)),(own z.1.2.2.2.1 z.1.2.2.2.2.1 29 1 (List.zipWith qd z.1.2.1 z.1.2.2.1))]) (fun _=>rfl) (fun _=>rfl) (fun z=>(fD (fun u=>(bk (aJ r) u).Lo) (dx ((aJ r).map (·.1)))).length-z.1.1) ⟨(0,([]:List (List Int)),([]:List RA),none,0,(-1)),H⟩ (aN U) (aD [2,3,5,6,7,8,9,11,12,13,14,15,16,17,18,19,0,1]) ?_
 clear H
 rintro ⟨⟨i,G,gz,a,c,last⟩,⟨b,C,A,d⟩⟩ J37 T
 try dsimp only at b C A d
 try dsimp only
 have Ao:G.length≤12:=by have:=Fv A; omega
 have BF:(G++[([]:List Int)]).length=G.length+1:=by simp
 have A0:(gz++[((none,0):RA)]).length=gz.length+1:=by simp
 refine WS fun _ AE=>rP 1 [] mn ?_
 refine RK AE<|ai fun _ AF=>bE U (aQ fun Ak=>?_) (aP fun Ak=>?_)
 ·refine bj<|aa<|aa<|au<|KK AB<|ai fun _ AO=>ai fun _ AP=>?_
  have Ao:G.length≤12:=by have:=Fv A; omega
  refine ag<|rP 3 [] mn ?_
  refine RK AP<|ar ?_
  have H:(0≤G.length):=by exact Nat.zero_le _
  refine bx (ι:={z:Nat // (z≤G.length)}) [1,6,66,67] [0,1,3,4,5,6,7,8,9,10,11,12,13,14,15,17] U U (fun z=>[(68,(vI (z.1:Int)))]) (fun z=>[(bB (aU zQ (nz G z.1) gz))]) (fun _=>rfl) (fun _=>rfl) (fun z=>G.length-z.1) ⟨0,H⟩ (aN U) (aD [0,1,3,4,5,6,7,8,9,10,11,12,13,14,15,17,16]) ?_
  clear H
  rintro ⟨j,Ag⟩ J65 p
  try dsimp only
  refine WS fun _ AQ=>rP 1 [] mn ?_
  refine RK AQ<|ai fun _ AR=>bE U (aQ fun Al=>?_) (aP fun Al=>?_)
  ·refine bj<|aa<|aa<|au<|KK AO<|ai fun _ AU=>?_
   have Aq:G.length≤j:=by omega
   have Y:=uV A.ok
   rw [List.take_of_length_le I] at Y
   have E:G.map dx=fu r:=v8 he (n_ Y.1 (qi.trans eV)) Y.2
   have Z:gz.length=(fu r).length:=by rw [← E,List.length_map]; omega
   rw [Dg Aq,E,← JQ,E]
   refine ag<|aY 1 U<|rP 2 [] mn ?_
   refine RK AU<|an ?_
   refine LX hQ (gz,a,c) [15,16] [] mn U (by show List.all _ _=true; simp only [dY,List.all_nil,z7,Bool.and_true]; rfl) U ?_ ?_
   ·first|rfl|(rw [E]; rfl)|(rw [he,← E,List.length_map]; rfl)|(rw [he,E]; rfl)
   ·exact Z
  refine WK AR<|ai fun _ AS=>ar<|ai fun _ AT=>?_
  obtain ⟨cg,B⟩:=aG G j I
  obtain ⟨cga,D⟩:=aG gz j I
  have F:(List.zipWith qd G gz)[j]? =some (qd cg cga):=cH B D
  refine D9 (f:=zQ) 16 (F2 B) D U U U ?_
  try dsimp only
  refine ag<|rS (IA j U (ak (n:=G.length) 17 U (jC C)) zZ dc I I)<|rS (fI j 0 (vS cga.1 cg.length cga.2) U bX (ak (n:=G.length) 17 U (jC C)) F U dc U)<|aY 1 U<|RK AT<|ag<|rP 1 [] mn ?_
  refine j8 0 U U U U (z4 cg cga.1 cga.2 (by have:=z9 A (aR B); omega)) U lG U (fun msrt Ab=>?_)
  try dsimp only
  refine ax<|aB<|KK AS<|ag<|rP 2 [] mn ?_
  refine ax ?_
  obtain rfl:=qm Ab.1 Ab.2
  refine L7 (f:=zQ) (ms:=nz G j) (m:=dx cg) 1 0 (by rw [Ej]; omega) D U U U ?_
  rw [CT B]
  have AZ:(vI (((j+1):Nat):Int))=(vI ((j:Int)+1)):=by exact cI I
  refine aI (p ⟨(j+1),(by first|omega|(simp only []; omega))⟩ _ _ _ U os (bY 4<|aO U AZ<|cO.nil _) (aD [1,2,3,4,5,6,7,8,9,10,11,12,13,14,15,16,0]))
 refine WK AF<|ai fun _ BL=>ar<|WS fun _ AG=>?_
 obtain ⟨x,hx⟩:=aG (fD (fun u=>(bk (aJ r) u).Lo) (dx ((aJ r).map (·.1)))) i I
 have At:=bG iC hx
 refine rS (IA i U (ak (n:=(fD (fun u=>(bk (aJ r) u).Lo) (dx ((aJ r).map (·.1)))).length) 0 U sm) di dc I I)<|rS (fI i 0 (vI x) U bX (ak (n:=(fD (fun u=>(bk (aJ r) u).Lo) (dx ((aJ r).map (·.1)))).length) 0 U sm) At U dc U)<|aY 1 U<|RK AG<|WS fun _ AH=>e7 1 [] (mc 2 U mn) U<|rS (SX (bL U U) U U)<|rP 2 [] (mc 3 U mn) ?_
 have As:=gN (i:=x) BM
 refine rP 1 [] mn ?_
 refine rS (SX (iU (kV:=iV) (x:=x) (l:=(aJ r)) (f:=dB) (z:=(ab.mk 0 0)) U U U lH (dG mF) si (by exact ay 6 U)) U U)<|AL U dk fun A_=>fq U cu U<|RK AH<|ai fun _ V=>WS fun _ AI=>?_
 rw [show ((List.lookup x (aJ r)).getD (ab.mk 0 0))=(bk (aJ r) x) from rfl]
 refine rP 4 [] (mc 0 U mn) ?_
 refine RK AI<|bE U (aQ fun N=>?_) (aP fun N=>?_)
 ·refine WK V<|ai fun _ AM=>?_
  have BG:1≤G.length:=Fz As.1 A N
  refine ag<|rP 4 [] mn ?_
  refine RK AM<|ai fun _ AN=>?_
  have Ap:(G.length-1)<G.length:=by first|omega|(simp; done)
  obtain ⟨cg,B⟩:=aG G (G.length-1) I
  obtain ⟨cga,D⟩:=aG gz (G.length-1) I
  have F:(List.zipWith qd G gz)[(G.length-1)]? =some (qd cg cga):=cH B D
  refine D9 (f:=zQ) 17 B D U U U ?_
  try dsimp only
  refine ag<|aY 4 U<|rS (IA (G.length-1) U (ak (n:=G.length) 19 U (jC C)) zZ dc I I)<|rS (fI (G.length-1) 0 (vS cga.1 cg.length cga.2) U bX (ak (n:=G.length) 19 U (jC C)) F U dc U)<|rP 1 [] mn ?_
  have An:cg.length≤12:=(List.mem_append.1 (show cg∈G++[[]] from by first|exact aR B|exact List.mem_append_left _ (aR B))).elim (fun q=>by have:=z9 A q; omega) (fun q=>by simp at q; subst q; simp)
  refine eX (xs:=[.tmp 57]) (cs:=[(vI x)]) U di lh U U U U (by simp [Value.cells]) U U fun BC=>?_
  refine cp (es2:=(List.map iC (cg++[x]))) (m':=(cg++[x]).length) 1 U U U mJ U U sm (a_ (es:=List.map iC [x]) 0 U U (by simp [bU]) U) (g_ _) os (by first|(simp only [maxLen]; omega)|(simp [maxLen]; omega)) sm sm U fun K M=>?_
  try dsimp only
  refine rS (IA (G.length-1) U (ak (n:=G.length) 20 U (jC C)) zZ dc I I)<|c_ (k:=(G.length-1)) (o:=0) (vs:=[(vS K ((cg++[x]).length) M)]) (es':=(List.zipWith qd (G.set (G.length-1) (cg++[x])) (gz.set (G.length-1) (K,M)))) (C':=[_,_,_,_,_,_,_,_,_,_,_,_,_,_,_,_,_,_,_,_,(own a c 29 1 (List.zipWith qd (G.set (G.length-1) (cg++[x])) (gz.set (G.length-1) (K,M))))]) 20 U U U wq U U U U F U dc (by exact nM (c:=qd) (m:=(cg++[x])) (a:=(K,M))) U<|EW (f:=zQ) (ms:=G) (asl:=gz) (m:=(cg++[x])) (a:=(K,M)) 2 1 I I U U U<|RK AN<|ag<|e7 3 [] (mc 2 U mn) U<|rS (MX U)<|aY 1 U<|ax<|aB<|KK BL<|ag<|rP 2 [] mn ?_
  refine ax ?_
  have AX:(vS a ((G.set (G.length-1) (cg++[x])).length) c)=(vS a G.length c):=by rw [List.length_set]
  have AY:(vI (((i+1):Nat):Int))=(vI ((i:Int)+1)):=by exact cI I
  refine aI (T ⟨((i+1),(G.set (G.length-1) (cg++[x])),(gz.set (G.length-1) (K,M)),a,c,(max last ((bk (aJ r) x).Hi))),⟨I,by simp; omega,by first|exact pB I hx B A N|exact ox I (fun u _=>(gN (i:=u) BM).2.1) Ac hx B A N,dso⟩⟩ _ _ _ U os (bY 4<|aO U AX<|cO.cons U<|aO U AY<|cO.nil _) (aD [3,4,5,6,7,8,9,10,11,12,13,14,15,16,17,18,0,19]))
 refine ag<|rP 1 [] mn ?_
 refine eX (xs:=[.const (vS none 0 0)]) (cs:=[(vS none 0 0)]) U zZ Sa U U U U (by simp [Value.cells]) U U fun BA=>?_
 refine cp (es2:=(List.zipWith qd (G++[[]]) (gz++[(none,0)]))) (m':=(G++[[]]).length) 19 rfl rfl rfl Qz rfl rfl (jC C).symm (a_ (es:=List.zipWith qd [[]] [(none,0)]) 0 rfl rfl (by intro e he; simp [qd] at he; subst he; rfl) rfl) (Fh _ _) I (by simp only [maxLen]; omega) (zb I) (by simp; omega) rfl fun P S=>?_
 try dsimp only
 refine fg 3 1<|OF (Y':=aU zQ (G++[[]]) (gz++[(none,0)])) 19 0 U U (wx I U)<|aY 1 U<|RK V<|WS fun _ AJ=>rP 4 [] mn ?_
 refine RK AJ<|ai fun _ AK=>?_
 have Ap:((G++[[]]).length-1)<(G++[[]]).length:=by first|omega|(simp; done)
 obtain ⟨cg,B⟩: ∃ y_,(G++[[]])[((G++[[]]).length-1)]? =some y_:=⟨(G++[[]])[((G++[[]]).length-1)]'I,ei _⟩
 obtain ⟨cga,D⟩: ∃ y_,(gz++[(none,0)])[((G++[[]]).length-1)]? =some y_:=⟨(gz++[(none,0)])[((G++[[]]).length-1)]'I,ei _⟩
 have F:(List.zipWith qd (G++[[]]) (gz++[(none,0)]))[((G++[[]]).length-1)]? =some (qd cg cga):=cH B D
 refine D9 (f:=zQ) 0 B D U U U ?_
 try dsimp only
 refine ag<|rP 4 [] mn ?_
 refine rS (IA ((G++[[]]).length-1) U (ak (n:=(G++[[]]).length) 20 U (jC (by simp; omega))) zZ dc I I) ?_
 refine rS (fI ((G++[[]]).length-1) 0 (vS cga.1 cg.length cga.2) U bX (ak (n:=(G++[[]]).length) 20 U (jC (by simp; omega))) F U dc U) ?_
 refine rP 1 [] mn ?_
 have An:cg.length≤12:=(List.mem_append.1 (show cg∈G++[[]] from by first|exact aR B|exact List.mem_append_left _ (aR B))).elim (fun q=>by have:=z9 A q; omega) (fun q=>by simp at q; subst q; simp)
 refine eX (xs:=[.tmp 57]) (cs:=[(vI x)]) U di lh U U U U (by simp [Value.cells]) U U fun BB=>?_
 refine cp (es2:=(List.map iC (cg++[x]))) (m':=(cg++[x]).length) 1 U U U mJ U U sm (a_ (es:=List.map iC [x]) 0 U U (by simp [bU]) U) (g_ _) os (by first|(simp only [maxLen]; omega)|(simp [maxLen]; omega)) sm sm U fun J L=>?_
 try dsimp only
 refine rS (IA ((G++[[]]).length-1) U (ak (n:=(G++[[]]).length) 21 U (jC (by simp; omega))) zZ dc I I) ?_
 refine c_ (k:=((G++[[]]).length-1)) (o:=0) (vs:=[(vS J ((cg++[x]).length) L)]) (es':=(List.zipWith qd ((G++[[]]).set ((G++[[]]).length-1) (cg++[x])) ((gz++[(none,0)]).set ((G++[[]]).length-1) (J,L)))) (C':=[_,_,_,_,_,_,_,_,_,_,_,_,_,_,_,_,_,_,_,_,_,(own P S 29 1 (List.zipWith qd ((G++[[]]).set ((G++[[]]).length-1) (cg++[x])) ((gz++[(none,0)]).set ((G++[[]]).length-1) (J,L))))]) 21 U U U wq U U U U F U dc (by exact nM (c:=qd) (m:=(cg++[x])) (a:=(J,L))) U<|EW (f:=zQ) (ms:=(G++[[]])) (asl:=(gz++[(none,0)])) (m:=(cg++[x])) (a:=(J,L)) 2 1 I I U U U<|RK AK<|ag<|e7 3 [] (mc 3 U mn) U<|rS (MX U)<|aY 1 U<|ax<|aB<|KK BL<|ag<|rP 2 [] mn ?_
 refine ax ?_
 have AV:(vS P (((G++[[]]).set ((G++[[]]).length-1) (cg++[x])).length) S)=(vS P ((G++[[]]).length) S):=by rw [List.length_set]
 have AW:(vI (((i+1):Nat):Int))=(vI ((i:Int)+1)):=by exact cI I
 refine aI (T ⟨((i+1),((G++[[]]).set ((G++[[]]).length-1) (cg++[x])),((gz++[(none,0)]).set ((G++[[]]).length-1) (J,L)),P,S,(max last ((bk (aJ r) x).Hi))),⟨I,by simp; omega,by first|exact pB I hx B A N|exact ox I (fun u _=>(gN (i:=u) BM).2.1) Ac hx B A N,dso⟩⟩ _ _ _ U os (bY 4<|aO U AV<|cO.cons U<|aO U AW<|cO.nil _) (aD [4,5,6,7,8,9,10,11,12,13,14,15,16,17,18,19,0,20]))
end
section
open Go.RowKit
theorem Nj (l:aW) (kA:OA) (kC:Nat) (az:List RA) (cA:OA) (cC:Nat) (bA:OA) (bC:Nat) (hin:ej l az) (hng: ¬ jN l):
 lg Tryz.prog 40 [(vA (bT.cells (kH l kA kC cA cC bA bC)))] [(rd kA l.aM.length 9 (l.aM.map al.cells)),(rd cA l.aj.length 2 (List.zipWith ao.cells l.aj az)),(eH (aU ao.gh l.aj az)),(rd bA l.ae.length 4 (l.ae.map bI.cells))] (fun (x:(OA)×Nat×(OA)×Nat×(List RA)×(OA)×Nat)=>(vA (bT.cells (bT.mk (bo.mk (bf.mk x.1 l.aM.length x.2.1)) l.gG (bf.mk x.2.2.1 l.aj.length x.2.2.2.1) (bf.mk x.2.2.2.2.2.1 l.ae.length x.2.2.2.2.2.2) l.cG l.eg l.cN)))) (fun (x:(OA)×Nat×(OA)×Nat×(List RA)×(OA)×Nat)=>x.2.2.2.2.1.length=l.aj.length∧mC l.aj x.2.2.2.2.1) (fun (x:(OA)×Nat×(OA)×Nat×(List RA)×(OA)×Nat)=>[(own x.1 x.2.1 163 9 (l.aM.map al.cells)),(own x.2.2.1 x.2.2.2.1 119 2 (List.zipWith ao.cells l.aj x.2.2.2.2.1)),(bB (aU ao.owns l.aj x.2.2.2.2.1)),(own x.2.2.2.2.2.1 x.2.2.2.2.2.2 141 4 (l.ae.map bI.cells))]):=by
 have v:=hin.rK
 have u:=hin.rD
 have G:=hin.mE
 have t:=hin.ry
 have Z:=tL hng
 refine db Tw Tryz.func40 U U fun w0 Q hQ hN=>?_
 try dsimp only
 refine WS fun _ p=>fm U fun b2=>AL U TU fun b3=>RK p<|WS fun _ q=>rP 1 [] mn ?_
 refine rS (LP (bo.cells (bo.mk (bf.mk kA l.aM.length kC))) 1 U RS U U U) ?_
 refine cX (OD l.aM kA kC sd) (aZ [2]) U fun y w=>?_
 obtain ⟨c,d⟩:=y
 try dsimp only
 refine aY 1 U<|Tc (bT.cells (bT.mk (bo.mk (bf.mk c l.aM.length d)) l.gG (bf.mk cA l.aj.length cC) (bf.mk bA l.ae.length bC) l.cG l.eg l.cN)) U Qe U U<|RK q<|WS fun _ r=>kN U uq U fun e=>rP 2 [] (mc 3 U mn) ?_
 refine eK (es:=(List.map de.cells [])) (C':=[own (some ⟨e,0,none⟩) 0 119 2 (List.map de.cells []),_,_,_,_,_,_,_]) 0 U sm U (by simp [maxLen]) U ?_
 refine cp (es2:=(List.zipWith ao.cells l.aj az)) (m':=l.aj.length) 0 U U U Su U U sm (ay 5 U) (xD _ _) os (by first|(simp only [maxLen]; omega)|(simp [maxLen]; omega)) sm (gn G) U fun B D=>?_
 try dsimp only
 refine aY 1 U<|OY (bT.cells (bT.mk (bo.mk (bf.mk c l.aM.length d)) l.gG (bf.mk B l.aj.length D) (bf.mk bA l.ae.length bC) l.cG l.eg l.cN)) U RM U U<|RK r<|ai fun _ N=>WS fun _ O=>rP 1 [] mn ?_
 refine RK O<|ar<|kW ?_
 have H:(0≤l.aj.length)∧(([]:List RA).length=0)∧(mC l.aj ([]:List RA)):=by exact ⟨Nat.zero_le _,rfl,fun k m a _ h=>by simp at h⟩
 refine bx (ι:={z:Nat×(List RA) // (z.1≤l.aj.length)∧(z.2.length=z.1)∧(mC l.aj z.2)}) [1,2] [2,3,4,5,6,7,8] U U (fun z=>[(3,(vI (z.1.1:Int)))]) (fun z=>[(bB (aU ao.owns (l.aj.take z.1.1) z.1.2)),(own B D 119 2 (List.zipWith ao.cells l.aj (rE z.1.2 az z.1.1)))]) (fun _=>rfl) (fun _=>rfl) (fun z=>l.aj.length-z.1.1) ⟨(0,([]:List RA)),H⟩ (aN U) (aD [2,3,4,5,6,7,8,0,1]) ?_
 clear H
 rintro ⟨⟨i,bz⟩,⟨AB,A,F⟩⟩ J15 M
 try dsimp only at AB A F
 try dsimp only
 refine ai fun _ P=>WS fun _ R=>rP 5 [] (mc 2 U mn) ?_
 refine RK R<|bE U (aQ fun j=>?_) (aP fun j=>?_)
 ·refine bj<|aa<|aa<|au<|KK N<|WS fun _ T=>kN U sQ U fun g=>?_
  rw [show rE bz az i=bz from HP I]
  rw [show l.aj.take i=l.aj from List.take_of_length_le I]
  refine rP 2 [] (mc 3 U mn) ?_
  refine eK (es:=(List.map bI.cells [])) (C':=[own (some ⟨g,0,none⟩) 0 141 4 (List.map bI.cells []),_,_,_,_,_,_,_,_,_]) 0 U sm U (by simp [maxLen]) U ?_
  refine cp (es2:=(List.map bI.cells l.ae)) (m':=l.ae.length) 0 U U U QZ U U sm (ay 7 U) (pY _) os (by first|(simp only [maxLen]; omega)|(simp [maxLen]; omega)) sm sm U fun K L=>?_
  try dsimp only
  refine aY 1 U<|OY (bT.cells (bT.mk (bo.mk (bf.mk c l.aM.length d)) l.gG (bf.mk B l.aj.length D) (bf.mk K l.ae.length L) l.cG l.eg l.cN)) U Sc U U<|RK T<|WS fun _ AA=>rP 1 [] (mc 3 U mn) ?_
  refine Fi U RW U<|RK AA<|an ?_
  refine LX hQ (c,d,B,D,bz,K,L) [1,9,8,0] [0] (mc 2 U mn) U (by simp only [dY,List.all_nil,dv,Bool.and_true]; rfl) U U ?_
  exact ⟨dso,F⟩
 refine WK P<|ai fun _ S=>ar<|dp cf [3,10,13] [6,7,8,9,10] [0,1] [0,1,2,3,4,5,6,7] [0,1,2,3,4,5,6,7,8] U U U U U<|eS U (FA 2 U K7 U)<|eS U (L1 (vS B l.aj.length D) 2 U Pj U U)<|eS U (MV U)<|eS U (FA 2 U K7 U)<|eS U (L1 (vS B l.aj.length D) 2 U Pj U U)<|eS U (MV U) ?_
 obtain ⟨x,hx⟩:=aG l.aj i I
 obtain ⟨xa,J⟩:=aG az i I
 have b:(List.zipWith ao.cells l.aj (rE bz az i))[i]? =some (ao.cells x xa):=cH hx (ED A J)
 refine fS U (IA i U (ak (n:=l.aj.length) 8 U (gn (by rw [qo A I]; exact G))) uq dc I I) ?_
 refine fS U (nP ((i*2)+1) U (ak (n:=l.aj.length) 8 U (gn (by rw [qo A I]; exact G))) (Nat.mul_pos I dc) FN U) ?_
 refine fS U (fI i 1 (vS xa.1 x.aT.length xa.2) U NN (ak (n:=l.aj.length) 8 U (gn (by rw [qo A I]; exact G))) b U dc U) ?_
 refine fS U (IA i U (ak (n:=l.aj.length) 8 U (gn (by rw [qo A I]; exact G))) uq dc I I) ?_
 refine fS U (nP ((i*2)+1) U (ak (n:=l.aj.length) 8 U (gn (by rw [qo A I]; exact G))) (Nat.mul_pos I dc) FN U) ?_
 refine eu U<|gl U fun T20 V=>kN U nF U fun f=>ax (V _ _ (aD [1,2,3,4,5,6,7,8]) (aD [1,2,3,4,5,6,7,8,9]) ?_)
 refine gl U fun T22 W=>eK (es:=(List.map ck.cells [])) (C':=[own (some ⟨f,0,none⟩) 0 137 3 (List.map ck.cells []),_,_,_,_,_,_,_,_,_]) 0 U sm U (by simp [maxLen]) U ?_
 refine cp (es2:=(List.map ck.cells x.aT)) (m':=x.aT.length) 0 U U U N9 U U sm (show gI _ (rd xa.1 x.aT.length 3 (x.aT.map ck.cells)).holds from (b_ 6 U (bu hx J (by simp [ao.gh])))) (p6 _) (by have:=Z.2.2.2 x (aR hx); simp; omega) (by have:=Z.2.2.2 x (aR hx); simp only [maxLen]; simp; omega) sm sm U fun C E=>?_
 try dsimp only
 refine Sg 0 U fun s=>ax (W _ _ (aD [1,2,3,4,5,6,7,8]) (aD [1,2,3,4,5,6,7,8,9]) ?_)
 refine bS U fun T25 X=>c_ (k:=i) (o:=1) (vs:=[(vS C x.aT.length E)]) (es':=(List.zipWith ao.cells l.aj (rE (bz++[(C,E)]) az (i+1)))) (C':=[_,_,_,_,_,_,_,_,_,(own B D 119 2 (List.zipWith ao.cells l.aj (rE (bz++[(C,E)]) az (i+1))))]) 9 U U U Nn U U U U b U dc (by exact Mr (nw:=(C,E)) hx A J) U<|ax (X _ _ (aD [1,2,3,4,5,6,7,8]) ?_)
 refine eY U<|aB<|KK S<|ag<|rP 3 [] mn ?_
 refine ax<|zn (X':=aU ao.owns (l.aj.take (i+1)) (bz++[(C,E)])) 8 0 U U (Hy (nw:=(C,E)) hx A) ?_
 have Y:(vI (((i+1):Nat):Int))=(vI ((i:Int)+1)):=by exact cI I
 refine aI (M ⟨((i+1),(bz++[(C,E)])),⟨I,by simp; omega,B6 F A hx (by simpa using s)⟩⟩ _ _ _ U os (cO.cons U<|cO.cons U<|aO U Y<|cO.nil _) (aD [1,2,3,4,5,6,7,0,8]))
end
section
structure Dy (w w':bP):Prop where
 start:w'.Start=w.Start
 now:w.fK≤w'.fK
 n:w'.n=w.n
 least: ∀ b,bR w' b≤bR w b
 times:w'.uN=w.uN
 OB:w.cN≤w'.cN
 Q4:w.eg≤w'.eg
 sigs:w'.On=w.On
variable {w w':bP}
theorem Dy.opt (h:Dy w w') {b:Nat} {o:Int×ab} (ho:o∈hO w b): ∃ o'∈hO w' b,o'.1=o.1∧o'.2.Lo≤o.2.Lo∧o.2.Hi≤o'.2.Hi:=by
 unfold hO at ho
 rcases List.mem_cons.1 ho with rfl|ho
 ·exact ⟨(-1,⟨w'.Start,w'.fK⟩),bZ ..,U,by simp only [h.start]; omega,h.now⟩
 ·refine ⟨o,cW _ ?_,U,Int.le_refl _,Int.le_refl _⟩
  unfold td at ho ⊢; rw [h.times]; exact ho
theorem Dy.may (h:Dy w w') {t:aF} (ht:kp w t=true):kp w' t=true:=by
 unfold kp at ht ⊢
 have:=of_decide_eq_true ht
 have A:=h.OB
 have B:=h.Q4
 have C:=h.sigs
 exact dh I
theorem Dy.fwd (h:Dy w w'): ∀ (b:Nat) (p:aF×Int),p∈fwd w b→ ∃ p'∈Go.Proofs.YtcoejkiaokbmpaaGreatDoor.fwd w' b,p'.1=p.1∧p'.2≤p.2:=by
 intro b
 induction b with
 |zero=>
  intro p hp
  simp only [Go.Proofs.YtcoejkiaokbmpaaGreatDoor.fwd,bK] at hp ⊢
  subst hp
  exact ⟨_,U,U,by simp only [h.start]; omega⟩
 |succ b ih=>
  intro q hq
  obtain ⟨p,hp,o,ho,e⟩:=fE.1 hq
  obtain ⟨p',hp',A,D⟩:=ih p hp
  obtain ⟨o',ho',B,E,F⟩:=h.opt ho
  have hl:=h.least b
  have hn:=h.now
  unfold kB at e
  split at e
  ·rename_i C
   simp only [Option.some.injEq] at e
   subst e
   refine ⟨(dg p'.1 (eQ o'.1),max (p'.2+bR w' b) o'.2.Lo),fE.2 ⟨p',hp',o',ho',by unfold kB; rw [if_pos I]⟩,by simp only [A,B],by simp only; omega⟩
  ·cases e
theorem Dy.bwd (h:Dy w w'): ∀ (k:Nat) (p:aF×Int),p∈bwd w k→ ∃ p'∈Go.Proofs.YtcoejkiaokbmpaaGreatDoor.bwd w' k,p'.1=p.1∧p.2≤p'.2:=by
 intro k
 induction k with
 |zero=>
  intro p hp
  simp only [Go.Proofs.YtcoejkiaokbmpaaGreatDoor.bwd,bK] at hp ⊢
  subst hp
  exact ⟨_,U,U,h.now⟩
 |succ k ih=>
  intro q hq
  simp only [Go.Proofs.YtcoejkiaokbmpaaGreatDoor.bwd,dL,List.mem_flatMap,List.mem_filterMap] at hq ⊢
  rcases hq with rfl|⟨p,hp,o,ho,e⟩
  ·exact ⟨_,.inl U,U,h.now⟩
  ·obtain ⟨p',hp',A,D⟩:=ih p hp
   obtain ⟨o',ho',B,E,F⟩:=h.opt ho
   have hl:=h.least (w.n-(k+1))
   rw [h.n]
   unfold nQ at e
   split at e
   ·rename_i C
    simp only [Option.some.injEq] at e
    subst e
    exact ⟨(dg p'.1 (eQ o'.1),min p'.2 o'.2.Hi-bR w' (w.n-(k+1))),.inr ⟨p',hp',o',ho',by unfold nQ; rw [if_pos I]⟩,by simp only [A,B],by simp only; omega⟩
   ·cases e
theorem Dy.back (h:Dy w w') {b:Nat} {p:aF×Int} (hp:p∈back w b): ∃ p'∈Go.Proofs.YtcoejkiaokbmpaaGreatDoor.back w' b,p'.1=p.1∧p.2≤p'.2:=by
 unfold Go.Proofs.YtcoejkiaokbmpaaGreatDoor.back at hp ⊢
 rw [h.n]
 exact h.bwd _ p hp
theorem Dy.pass (h:Dy w w') {b:Nat} {q:Int×ab} (hq:q∈mD w b): ∃ q'∈mD w' b,q'.1=q.1∧q'.2.Lo≤q.2.Lo∧q.2.Hi≤q'.2.Hi:=by
 obtain ⟨o,ho,p,hp,u,hu,e⟩:=g6.1 hq
 obtain ⟨D,E,rfl⟩:=ja.1 e
 obtain ⟨o',ho',A,F,G⟩:=h.opt ho
 obtain ⟨p',hp',B,H⟩:=h.fwd _ p hp
 obtain ⟨u',hu',C,AA⟩:=h.back hu
 have hl:=h.least b
 simp only [js] at D
 refine ⟨(o'.1,js w' b p' u' o'),g6.2 ⟨o',ho',p',hp',u',hu',ja.2 ⟨?_,?_,U⟩⟩,A,?_,?_⟩
 ·simp only [js]; omega
 ·have:=h.may E
  unfold wi at this ⊢
  rw [A,B,C]; exact this
 ·simp only [js]; omega
 ·simp only [js]; omega
theorem o3 {k:Int}:k∈jW w↔ ∃ i:Nat,k=(i:Int)∧i≤w.n∧jc w (fwd w i)=true:=by
 unfold jW ke
 simp only [q_,List.mem_filter,List.mem_range]
 constructor
 ·rintro ⟨i,⟨B,A⟩,rfl⟩; exact ⟨i,rfl,I,A⟩
 ·rintro ⟨i,rfl,B,A⟩; exact ⟨i,⟨I,A⟩,rfl⟩
theorem Dy.Hw (h:Dy w w') {k:Int} (hk:k∈jW w):k∈jW w':=by
 obtain ⟨i,rfl,C,A⟩:=o3.1 hk
 refine o3.2 ⟨i,U,by rw [h.n]; exact C,?_⟩
 unfold jc at A ⊢
 obtain ⟨p,hp,D⟩:=List.any_eq_true.1 A
 obtain ⟨p',hp',B,_⟩:=h.fwd _ p hp
 exact List.any_eq_true.2 ⟨p',hp',by rw [B]; exact h.may D⟩
/-- two rides, of two lines, of which one allows more -/
structure SB (l:aW) (r:cx) (l':aW) (r':cx):Prop where
 line:du l=0
 line':du l'=0
 xZ:eW l r
 ride':eW l' r'
 w:Dy (cw l r) (cw l' r')
 NH:l'.ae.length=l.ae.length
variable {l l':aW} {r r':cx}
theorem SB.ok (h:SB l r l' r') (he:eB l r 0=0):eB l' r' 0=0:=by
 refine mV h.line' h.ride' U fun e=>?_
 obtain ⟨k,hk⟩:=List.exists_mem_of_ne_nil _ (jR he).2.2.2
 have:=h.w.Hw hk
 rw [e] at this; cases this
theorem SB.Dq (h:SB l r l' r') {k:Int} (hk:k∈mq l r):k∈mq l' r':=by
 by_cases he:eB l r 0=0
 ·rw [lE he] at hk
  rw [lE (h.ok he)]
  exact h.w.Hw hk
 ·rw [tW he] at hk; cases hk
theorem Gh {b:Nat} (hb:b<l.ae.length):eB l r (jJ l b)=eB l r 0:=by rw [Bx I]
theorem yn {b:Nat}:bR (cw l r) b=if b<l.ae.length then dN l b else 0:=by
 unfold bR cw cL
 split
 ·rename_i h
  simp [h]
 ·rename_i h
  simp [h]
theorem Gk {sg:List aK} {i:Nat} (h:i=0):o5 sg i=⟨-1,0⟩:=by subst h; rfl
theorem re {sg:List aK} {i:Nat} {y:aK} (h:0<i) (hy:sg[i-1]? =some y):o5 sg i=y:=by unfold o5; rw [if_neg I,hy]; rfl
def PQ (l:aW):Prop:= ¬ jN l∧du l=0
noncomputable instance (l:aW):Decidable (PQ l):=Classical.propDecidable _
end
section
open Go.RowKit
theorem LL (r:cx) (sgA:OA) (sgC:Nat) (hsl:r.ah.length≤1000000):
 lg Tryz.prog 41 [(vA (ew.cells (lv r sgA sgC)))] [(rd sgA r.ah.length 2 (r.ah.map aK.cells))] (fun (x:(OA)×Nat)=>(vA (ew.cells (ew.mk r.Start r.fK (bf.mk x.1 r.ah.length x.2))))) (fun (x:(OA)×Nat)=>True) (fun (x:(OA)×Nat)=>[(own x.1 x.2 165 2 (r.ah.map aK.cells))]):=by
 refine db kr Tryz.func41 U U fun AA Q hQ hN=>?_
 try dsimp only
 refine WS fun _ A=>fm U fun G=>AL U Td fun H=>RK A<|WS fun _ B=>kN U wv U fun F=>rP 2 [] (mc 2 U mn) ?_
 refine eK (es:=(List.map aK.cells [])) (C':=[own (some ⟨F,0,none⟩) 0 165 2 (List.map aK.cells []),_,_,_]) 0 U sm U (by simp [maxLen]) U ?_
 refine cp (es2:=(List.map aK.cells r.ah)) (m':=r.ah.length) 0 U U U Qa U U sm (ay 3 U) (nT _) os (by first|(simp only [maxLen]; omega)|(simp [maxLen]; omega)) sm sm U fun D E=>?_
 try dsimp only
 refine aY 1 U<|Tc (ew.cells (lv r D E)) U R_ U U<|RK B<|WS fun _ C=>rP 1 [] (mc 2 U mn) ?_
 refine sK U RR U<|RK C<|an<|LX hQ (D,E) [0] [0] (mc 1 U mn) U U U U ?_
 trivial
end
end Go.Proofs.YtcoejkiaokbmpaaGreatDoor
