/-
 The statement raceTable_said, part 8 of 8: Rx9, Rx10, Rx11, Rx12, Rz1, Rz2, Rt2, Rx2, Rz3, Rz4, Rr2, Rr3, Rr4, Rr5, Rra, Ry1, Ry5, Ry8, LineOpen, RaceOpen, Table0.
 Conditions: none.
-/
import Derived.Test.YtadjgjnicdcjbaaGreatDoorTy1
import Derived.Test.YtadjgjnicdcjbaaGreatDoorTy2
import Derived.Test.YtadjgjnicdcjbaaGreatDoorTy3
import Derived.Test.YtadjgjnicdcjbaaGreatDoorTy4
import Derived.Test.YtadjgjnicdcjbaaGreatDoorTy5
import Derived.Test.YtadjgjnicdcjbaaGreatDoorTy6
import Derived.Test.YtadjgjnicdcjbaaGreatDoorTy7
import Derived.Test.YtadjgjnicdcjbaaGreatDoorCards
import Derived.Test.YtadjgjnicdcjbaaGreatDoorTie
import Derived.SevenTiedAt
import Derived.LaidMore
import Derived.Stop.Joined
import Derived.Test.YtadjgjnicdcjbaaGreatDoorRows
import Derived.Test.YtadjgjnicdcjbaaGreatDoorProg
import Derived.KernelRfl
namespace Go.Proofs.YtadjgjnicdcjbaaGreatDoor
set_option maxRecDepth 100000
set_option maxHeartbeats 4000000
set_option linter.unusedVariables false
section
open Go.RowKit
theorem Ow (r:bT) (kA:OA) (kC:Nat) (az:List RA) (cA:OA) (cC:Nat) (bA:OA) (bC:Nat) (slA:OA) (slC:Nat) (drA:OA) (drC:Nat) (ha:List cO) (heA:OA) (heC:Nat) (hin:e9 r az ha):
 ly Tryz.prog 66 [(vA (cv.cells (oH r kA kC cA cC bA bC slA slC drA drC heA heC)))] [(rd kA r.ao.aP.length 9 (r.ao.aP.map al.cells)),(rd cA r.ao.ak.length 2 (List.zipWith ar.cells r.ao.ak az)),(eW (aV ar.g0 r.ao.ak az)),(rd bA r.ao.ae.length 4 (r.ao.ae.map bD.cells)),(rd slA r.aQ.length 1 (r.aQ.map iC)),(rd drA r.bQ.length 1 (r.bQ.map iC)),(rd heA r.ay.length 1 (List.zipWith cP r.ay ha)),(eW (aV iu r.ay ha))] (fun (x:(OA)×Nat×(OA)×Nat×(List RA)×(OA)×Nat×(OA)×Nat×(OA)×Nat×(OA)×Nat×(List cO))=>(vA (cv.cells (cv.mk (ck.mk (bE.mk (br.mk x.1 r.ao.aP.length x.2.1)) r.ao.hE (br.mk x.2.2.1 r.ao.ak.length x.2.2.2.1) (br.mk x.2.2.2.2.2.1 r.ao.ae.length x.2.2.2.2.2.2.1) r.ao.cJ r.ao.eU r.ao.cW) (br.mk x.2.2.2.2.2.2.2.1 r.aQ.length x.2.2.2.2.2.2.2.2.1) (br.mk x.2.2.2.2.2.2.2.2.2.1 r.bQ.length x.2.2.2.2.2.2.2.2.2.2.1) r.iK (br.mk x.2.2.2.2.2.2.2.2.2.2.2.1 r.ay.length x.2.2.2.2.2.2.2.2.2.2.2.2.1))))) (fun (x:(OA)×Nat×(OA)×Nat×(List RA)×(OA)×Nat×(OA)×Nat×(OA)×Nat×(OA)×Nat×(List cO))=>(x.2.2.2.2.1.length=r.ao.ak.length∧rJ r.ao.ak x.2.2.2.2.1)∧tM r.ay x.2.2.2.2.2.2.2.2.2.2.2.2.2) (fun (x:(OA)×Nat×(OA)×Nat×(List RA)×(OA)×Nat×(OA)×Nat×(OA)×Nat×(OA)×Nat×(List cO))=>[(own x.1 x.2.1 114 9 (r.ao.aP.map al.cells)),(own x.2.2.1 x.2.2.2.1 119 2 (List.zipWith ar.cells r.ao.ak x.2.2.2.2.1)),(bw (aV ar.owns r.ao.ak x.2.2.2.2.1)),(own x.2.2.2.2.2.1 x.2.2.2.2.2.2.1 121 4 (r.ao.ae.map bD.cells)),(own x.2.2.2.2.2.2.2.1 x.2.2.2.2.2.2.2.2.1 3 1 (r.aQ.map iC)),(own x.2.2.2.2.2.2.2.2.2.1 x.2.2.2.2.2.2.2.2.2.2.1 3 1 (r.bQ.map iC)),(own x.2.2.2.2.2.2.2.2.2.2.2.1 x.2.2.2.2.2.2.2.2.2.2.2.2.1 46 1 (List.zipWith cP r.ay x.2.2.2.2.2.2.2.2.2.2.2.2.2)),(bw (aV je r.ay x.2.2.2.2.2.2.2.2.2.2.2.2.2))]):=by
 have C:=hin.line
 have KW:=hin.iO
 have M:=hin.has
 have Lo:=hin.iN
 have Li:=hin.draw
 have Ls:=dA (r:=r)
 have PP:=C.sH
 have Or:=C.sI
 have Op:=C.sG
 have J7:=C.oF
 refine dj kr Tryz.func66 U U fun w0 Q hQ hN=>?_
 try dsimp only
 refine WS fun _ J3=>fK U fun b2=>AL U CS fun b3=>RK J3<|WS fun _ J4=>rP 2 [] mn ?_
 refine RK J4<|ah fun _ J5=>dG cu [8,13,18,22,25,28] [7,11,15] [0,1,2] [0,2,3,4,5,6,7,8,9] [0,1,2,3,4,5,6,7,8,9] U U U U U<|eS U (MV U)<|eS U (MV U)<|eS U (MV U)<|eS U (MV U)<|eS U (SX (bI U U) U U)<|eS U (FA 0 U fu U)<|eS U (FA 0 U fu U)<|fS U (L1 (vS kA r.ao.aP.length kC) 1 U bX U U)<|eS U (MV U)<|eS U (SX (bI U U) U U)<|eS U (FA 2 U fu U)<|fS U (L1 (vS cA r.ao.ak.length cC) 1 U bX U U)<|eS U (MV U)<|eS U (SX (bI U U) U U)<|eS U (FA 3 U fu U)<|fS U (L1 (vS bA r.ao.ae.length bC) 1 U bX U U)<|eS U (SX (bI U U) U U)<|eS U (FA 0 U fu U)<|eS U (FA 0 U fu U)<|eS U (SX (bI U U) U U)<|eS U (FA 2 U fu U)<|eS U (SX (bI U U) U U)<|eS U (FA 3 U fu U)<|eV U<|iE U fun T6 J6=>?_
 refine cX (Lz r.ao.aP kA kC sd) (bj [2]) U fun y7 PU=>?_
 obtain ⟨a9,S⟩:=y7
 try dsimp only
 refine aC (J6 _ _ (aH [1,3,4,5,6,7,8,9,10]) (aH [1,2,3,4,5,6,7,8,9,10]) ?_)
 refine iE U fun T11 Dr=>?_
 refine cX (Ka (List.zipWith ar.cells r.ao.ak az) cA r.ao.ak.length cC sd (by exact g7 J7) (by exact Eh _ _)) (bj [4]) U fun K4 L0=>?_
 obtain ⟨J,K⟩:=K4
 try dsimp only
 refine aC (Dr _ _ (aH [2,4,5,6,7,8,9,10,11]) (aH [2,3,4,5,6,7,8,9,10,11]) ?_)
 refine iE U fun T16 EQ=>?_
 refine cX (Kq r.ao.ae bA bC sd) (bj [7]) U fun K5 L2=>?_
 obtain ⟨Y,Z⟩:=K5
 try dsimp only
 refine aC (EQ _ _ (aH [3,5,6,7,8,9,10,11,12]) (aH [3,4,5,6,7,8,9,10,11,12]) ?_)
 refine bY U fun T21 Eq=>Vj (cv.cells (cv.mk (ck.mk (bE.mk (br.mk a9 r.ao.aP.length S)) r.ao.hE (br.mk cA r.ao.ak.length cC) (br.mk bA r.ao.ae.length bC) r.ao.cJ r.ao.eU r.ao.cW) (br.mk slA r.aQ.length slC) (br.mk drA r.bQ.length drC) r.iK (br.mk heA r.ay.length heC))) U U0 U U<|aC (Eq _ _ (aH [3,5,6,7,8,9,10,11,12]) ?_)
 refine bY U fun T22 FS=>Vj (cv.cells (cv.mk (ck.mk (bE.mk (br.mk a9 r.ao.aP.length S)) r.ao.hE (br.mk J r.ao.ak.length K) (br.mk bA r.ao.ae.length bC) r.ao.cJ r.ao.eU r.ao.cW) (br.mk slA r.aQ.length slC) (br.mk drA r.bQ.length drC) r.iK (br.mk heA r.ay.length heC))) U Uq U U<|aC (FS _ _ (aH [3,5,6,7,8,9,10,11,12]) ?_)
 refine bY U fun T23 Fd=>Vj (cv.cells (cv.mk (ck.mk (bE.mk (br.mk a9 r.ao.aP.length S)) r.ao.hE (br.mk J r.ao.ak.length K) (br.mk Y r.ao.ae.length Z) r.ao.cJ r.ao.eU r.ao.cW) (br.mk slA r.aQ.length slC) (br.mk drA r.bQ.length drC) r.iK (br.mk heA r.ay.length heC))) U Ub U U<|aC (Fd _ _ (aH [3,5,6,7,8,9,10,11,12]) ?_)
 refine fF U<|KK J5<|ah fun _ A3=>WS fun _ A4=>bf 1 U<|rS (SX (bI U U) U U)<|rP 4 [] (mc 4 U mn) ?_
 refine RK A4<|av<|oG ?_
 have E:(0≤r.ao.ak.length)∧(([]:List RA).length=0)∧(rJ r.ao.ak ([]:List RA)):=by exact ⟨Nat.zero_le _,rfl,fun k m a _ h=>by simp at h⟩
 refine bH (ι:={z:Nat×(List RA) // (z.1≤r.ao.ak.length)∧(z.2.length=z.1)∧(rJ r.ao.ak z.2)}) [1,2,3,39] [1,3,4,5,6,7,8,9,10,11,12,13] U U (fun z=>[(40,(vI (z.1.1:Int)))]) (fun z=>[(bw (aV ar.owns (r.ao.ak.take z.1.1) z.1.2)),(own J K 119 2 (List.zipWith ar.cells r.ao.ak (kq z.1.2 az z.1.1)))]) (fun _=>rfl) (fun _=>rfl) (fun z=>r.ao.ak.length-z.1.1) ⟨(0,([]:List RA)),E⟩ (aT U) (aH [1,3,4,5,6,7,8,9,10,11,12,13,0,2]) ?_
 clear E
 rintro ⟨⟨i,bz⟩,⟨Ay,B,V⟩⟩ J26 A0
 try dsimp only at Ay B V
 try dsimp only
 refine WS fun _ A5=>rP 1 [] mn ?_
 refine RK A5<|ah fun _ A6=>cy U (aM fun I0=>?_) (aL fun I0=>?_)
 ·refine WK A6<|ah fun _ A7=>av<|WS fun _ A8=>rP 2 [] mn ?_
  refine RK A8<|dG cu [13,16] [10,11,12,13,14] [0] [0,1,2,3,4,5,6,7,8,9,10,11,12] [0,1,2,3,4,5,6,7,8,9,10,11,12,13] U U U U U<|eS U (MV U)<|eS U (SX (bI U U) U U)<|eS U (FA 2 U fu U)<|eS U (L1 (vS J r.ao.ak.length K) 3 U bX U U)<|eS U (MV U)<|eS U (MV U)<|eS U (SX (bI U U) U U)<|eS U (FA 2 U fu U)<|eS U (L1 (vS J r.ao.ak.length K) 3 U bX U U)<|eS U (MV U) ?_
  obtain ⟨x,hx⟩:=aJ r.ao.ak i I
  obtain ⟨xa,s⟩:=aJ az i I
  have In:(List.zipWith ar.cells r.ao.ak (kq bz az i))[i]? =some (ar.cells x xa):=dy hx (AD B s)
  have PF:=(C.Q9 _ _ _ hx s).2
  refine fS U (IA i U (ai (n:=r.ao.ak.length) 13 U (g7 (by rw [iB B I]; exact C.oF))) AB dc I I) ?_
  refine fS U (nS ((i*2)+1) U (ai (n:=r.ao.ak.length) 13 U (g7 (by rw [iB B I]; exact C.oF))) (Nat.mul_pos I dc) fu U) ?_
  refine fS U (fV i 1 (vS xa.1 x.bo.length xa.2) U bX (ai (n:=r.ao.ak.length) 13 U (g7 (by rw [iB B I]; exact C.oF))) In U dc U) ?_
  refine fS U (IA i U (ai (n:=r.ao.ak.length) 13 U (g7 (by rw [iB B I]; exact C.oF))) AB dc I I) ?_
  refine fS U (nS ((i*2)+1) U (ai (n:=r.ao.ak.length) 13 U (g7 (by rw [iB B I]; exact C.oF))) (Nat.mul_pos I dc) fu U) ?_
  refine eV U<|iE U fun T32 Fn=>?_
  refine cX (JV x.bo xa.1 xa.2 sd) (aw (show il _ (rd xa.1 x.bo.length 3 (x.bo.map cx.cells)).holds from (du 6 U (bM hx s (by simp [ar.g0]))))<|aI) U fun K8 L3=>?_
  obtain ⟨P,T⟩:=K8
  try dsimp only
  refine aC (Fn _ _ (aH [1,2,3,4,5,6,7,8,9,10,11,12,13]) (aH [1,2,3,4,5,6,7,8,9,10,11,12,13,14]) ?_)
  refine bY U fun T37 F0=>ew (k:=i) (o:=1) (vs:=[(vS P x.bo.length T)]) (es':=(List.zipWith ar.cells r.ao.ak (kq (bz++[(P,T)]) az (i+1)))) (C':=[_,_,_,_,_,_,_,_,_,_,_,_,_,_,(own J K 119 2 (List.zipWith ar.cells r.ao.ak (kq (bz++[(P,T)]) az (i+1))))]) 14 U U U Tw U U U U In U dc (by exact xB (c:=ar.cells) (b:=(P,T)) hx B s) U<|aC (F0 _ _ (aH [1,2,3,4,5,6,7,8,9,10,11,12,13]) ?_)
  refine fF U<|aG<|KK A7<|aj<|rP 2 [] mn ?_
  refine aC<|Qu 0 U fun t=>?_
  simp only [List.length_map] at t
  refine IG (Y':=aV ar.owns (r.ao.ak.take (i+1)) (bz++[(P,T)])) 13 0 U U (rZ (f:=ar.owns) (b:=(P,T)) hx B) ?_
  have IR:(vI (((i+1):Nat):Int))=(vI ((i:Int)+1)):=by exact cI I
  refine aS (A0 ⟨((i+1),(bz++[(P,T)])),⟨I,by simp; omega,JZ V B hx t⟩⟩ _ _ _ U os (ct 4<|aX U IR<|dh.nil _) (aH [1,2,3,4,5,6,7,8,9,10,11,12,0,13]))
 refine bu<|ab<|ab<|au<|KK A3<|ah fun _ A9=>?_
 have J8:bz.length=r.ao.ak.length:=by omega
 have J9:=V
 rw [show (kq bz az i)=bz from wS I,show r.ao.ak.take i=r.ao.ak from List.take_of_length_le I]
 refine dG cu [2,5,8,10,12,14] [1,3,5] [0,1,2] [0,1,2,4,5,6,7,8,9,10,11,12,13] [0,1,2,3,4,5,6,7,8,9,10,11,12,13] U U U U U<|eS U (FA 7 U fu U)<|fS U (L1 (vS slA r.aQ.length slC) 3 U bX U U)<|eS U (FA 8 U fu U)<|fS U (L1 (vS drA r.bQ.length drC) 3 U bX U U)<|eS U (FA 10 U fu U)<|fS U (L1 (vS heA r.ay.length heC) 3 U bX U U)<|eS U (FA 7 U fu U)<|eS U (FA 8 U fu U)<|eS U (FA 10 U fu U)<|eV U<|iE U fun T40 F6=>?_
 refine cX (vW r.aQ slA slC sd) (bj [8]) U fun K_ M2=>?_
 obtain ⟨g,j⟩:=K_
 try dsimp only
 refine aC (F6 _ _ (aH [1,2,3,5,6,7,8,9,10,11,12,13,14]) (aH [1,2,3,4,5,6,7,8,9,10,11,12,13,14]) ?_)
 refine iE U fun T45 GE=>?_
 refine cX (vW r.bQ drA drC sd) (bj [10]) U fun LA NE=>?_
 obtain ⟨w,AK⟩:=LA
 try dsimp only
 refine aC (GE _ _ (aH [2,3,4,6,7,8,9,10,11,12,13,14,15]) (aH [2,3,4,5,6,7,8,9,10,11,12,13,14,15]) ?_)
 refine iE U fun T50 GT=>?_
 refine cX (I7 (List.zipWith cP r.ay ha) heA r.ay.length heC sd (by exact fg M) (by exact HT _ _)) (bj [12]) U fun LE NU=>?_
 obtain ⟨W,X⟩:=LE
 try dsimp only
 refine aC (GT _ _ (aH [3,4,5,7,8,9,10,11,12,13,14,15,16]) (aH [3,4,5,6,7,8,9,10,11,12,13,14,15,16]) ?_)
 refine bY U fun T55 GV=>Vn (cv.cells (cv.mk (ck.mk (bE.mk (br.mk a9 r.ao.aP.length S)) r.ao.hE (br.mk J r.ao.ak.length K) (br.mk Y r.ao.ae.length Z) r.ao.cJ r.ao.eU r.ao.cW) (br.mk g r.aQ.length j) (br.mk drA r.bQ.length drC) r.iK (br.mk heA r.ay.length heC))) U AM U U<|aC (GV _ _ (aH [3,4,5,7,8,9,10,11,12,13,14,15,16]) ?_)
 refine bY U fun T56 Go=>Vn (cv.cells (cv.mk (ck.mk (bE.mk (br.mk a9 r.ao.aP.length S)) r.ao.hE (br.mk J r.ao.ak.length K) (br.mk Y r.ao.ae.length Z) r.ao.cJ r.ao.eU r.ao.cW) (br.mk g r.aQ.length j) (br.mk w r.bQ.length AK) r.iK (br.mk heA r.ay.length heC))) U AM U U<|aC (Go _ _ (aH [3,4,5,7,8,9,10,11,12,13,14,15,16]) ?_)
 refine bY U fun T57 Hi=>Vn (cv.cells (cv.mk (ck.mk (bE.mk (br.mk a9 r.ao.aP.length S)) r.ao.hE (br.mk J r.ao.ak.length K) (br.mk Y r.ao.ae.length Z) r.ao.cJ r.ao.eU r.ao.cW) (br.mk g r.aQ.length j) (br.mk w r.bQ.length AK) r.iK (br.mk W r.ay.length X))) U UU U U<|aC (Hi _ _ (aH [3,4,5,7,8,9,10,11,12,13,14,15,16]) ?_)
 refine fF U<|KK A9<|ah fun _ BX=>WS fun _ B3=>rP 4 [] (mc 6 U mn) ?_
 refine RK B3<|av<|oG ?_
 have E:(0≤r.ay.length)∧(([]:List cO).length=0)∧(∀ (k:Nat) y (a:cO),r.ay[k]? =some y→([]:List cO)[k]? =some a→a.2.length=y.length):=by exact ⟨Nat.zero_le _,rfl,fun k y a _ q=>by simp at q⟩
 refine bH (ι:={z:Nat×(List cO) // (z.1≤r.ay.length)∧(z.2.length=z.1)∧(∀ (k:Nat) y (a:cO),r.ay[k]? =some y→z.2[k]? =some a→a.2.length=y.length)}) [1,2,74] [2,3,4,5,6,7,8,9,10,11,12,13,14,15,16,17] U U (fun z=>[(75,(vI (z.1.1:Int)))]) (fun z=>[(bw (aV je (r.ay.take z.1.1) z.1.2)),(own W X 46 1 (List.zipWith cP r.ay (kq z.1.2 ha z.1.1)))]) (fun _=>rfl) (fun _=>rfl) (fun z=>r.ay.length-z.1.1) ⟨(0,([]:List cO)),E⟩ (aT U) (aH [2,3,4,5,6,7,8,9,10,11,12,13,14,15,16,17,0,1]) ?_
 clear E
 rintro ⟨⟨h,hz⟩,⟨l,A,L⟩⟩ J60 A1
 try dsimp only at l A L
 try dsimp only
 refine WS fun _ B7=>rP 1 [] mn ?_
 refine RK B7<|ah fun _ B9=>bL U (aL fun JL=>?_) (aM fun JL=>?_)
 ·refine bu<|ab<|ab<|au<|KK BX<|ah fun _ Do=>?_
  have K0:tM r.ay hz:=⟨I,L⟩
  rw [show (kq hz ha h)=hz from wS I,show r.ay.take h=r.ay from List.take_of_length_le I]
  refine aj<|rP 1 [] (mc 5 U mn) ?_
  refine Ps U tj U<|RK Do<|an ?_
  refine LX hQ (a9,S,J,K,bz,Y,Z,g,j,w,AK,W,X,hz) [3,15,14,2,1,0,17,16] [0] (mc 4 U mn) U (by show List.all _ _=true; simp only [fz,List.all_nil,gh,kB,Bool.and_true]; rfl) U U ?_
  exact ⟨⟨J8,J9⟩,K0⟩
 refine WK B9<|ah fun _ Ci=>av<|WS fun _ Ck=>rP 2 [] mn ?_
 refine RK Ck<|ah fun _ Cp=>dG cu [8,10] [6,7,8] [0] [0,1,2,3,4,5,6,7,8,9,10,11,12,13,14,15,16] [0,1,2,3,4,5,6,7,8,9,10,11,12,13,14,15,16,17] U U U U U<|eS U (FA 10 U fu U)<|eS U (L1 (vS W r.ay.length X) 5 U bX U U)<|eS U (MV U)<|eS U (FA 10 U fu U)<|eS U (L1 (vS W r.ay.length X) 5 U bX U U)<|eS U (MV U) ?_
 obtain ⟨ht,N⟩:=aJ r.ay h I
 obtain ⟨D,O⟩:=aJ ha h I
 have u:(List.zipWith cP r.ay (kq hz ha h))[h]? =some (cP ht D):=dy N (AD A O)
 have An:=hin.o5 _ _ _ N O
 have e:=An.oF
 have KW:=An.len
 refine fS U (IA h U (ai (n:=r.ay.length) 17 U (fg (by rw [iB A I]; exact M))) rz dc I I) ?_
 refine fS U (fV h 0 (vS D.1.1 ht.length D.1.2) U bX (ai (n:=r.ay.length) 17 U (fg (by rw [iB A I]; exact M))) u U dc U) ?_
 refine fS U (IA h U (ai (n:=r.ay.length) 17 U (fg (by rw [iB A I]; exact M))) rz dc I I) ?_
 refine eV U<|iE U fun T67 H1=>?_
 refine cX (J0 (List.zipWith ax.cells ht D.2) D.1.1 ht.length D.1.2 sd (by exact p_ e) (by exact N8 _ _)) (aw (show il _ (rd D.1.1 ht.length 7 (List.zipWith ax.cells ht D.2)).holds from (du 13 U (bM N O cb)))<|aI) U fun LS Ne=>?_
 obtain ⟨G,H⟩:=LS
 try dsimp only
 refine aC (H1 _ _ (aH [1,2,3,4,5,6,7,8,9,10,11,12,13,14,15,16,17]) (aH [1,2,3,4,5,6,7,8,9,10,11,12,13,14,15,16,17,18]) ?_)
 refine bY U fun T72 IO=>ew (k:=h) (o:=0) (vs:=[(vS G ht.length H)]) (es':=(List.zipWith cP r.ay (kq (hz++[((G,H),D.2)]) ha (h+1)))) (C':=[_,_,_,_,_,_,_,_,_,_,_,_,_,_,_,_,_,_,(own W X 46 1 (List.zipWith cP r.ay (kq (hz++[((G,H),D.2)]) ha (h+1))))]) 18 U U U Vt U U U U u U dc (by exact xB (b:=((G,H),D.2)) N A O) U<|aC (IO _ _ (aH [1,2,3,4,5,6,7,8,9,10,11,12,13,14,15,16,17]) ?_)
 refine fF U<|KK Cp<|WS fun _ Cx=>rP 3 [] (mc 6 U mn) ?_
 have v:(List.zipWith cP r.ay (kq (hz++[((G,H),D.2)]) ha (h+1)))[h]? =some (cP ht ((G,H),D.2)):=dy N (LH A)
 refine rS (IA h U (ai (n:=r.ay.length) 18 U (fg (by rw [iB (by simp; omega) I]; exact M))) rz dc I I) ?_
 refine rS (fV h 0 (vS G ht.length H) U bX (ai (n:=r.ay.length) 18 U (fg (by rw [iB (by simp; omega) I]; exact M))) v U dc U) ?_
 refine rP 2 [] mn ?_
 refine RK Cx<|av<|oG ?_
 have E:(0≤ht.length)∧(([]:List RA).length=0):=by exact ⟨Nat.zero_le _,rfl⟩
 refine bH (ι:={z:Nat×(List RA) // (z.1≤ht.length)∧(z.2.length=z.1)}) [1,2,5,74,75,93] [2,3,4,5,6,7,8,9,10,11,12,13,14,15,16,17,18,19] U U (fun z=>[(94,(vI (z.1.1:Int)))]) (fun z=>[(bw (aV oD (ht.take z.1.1) z.1.2)),(own G H 45 7 (List.zipWith ax.cells ht (kq z.1.2 D.2 z.1.1)))]) (fun _=>rfl) (fun _=>rfl) (fun z=>ht.length-z.1.1) ⟨(0,([]:List RA)),E⟩ (aT U) (aH [2,3,4,5,6,7,8,9,10,11,12,13,14,15,16,17,18,19,0,1]) ?_
 clear E
 rintro ⟨⟨i,dz⟩,⟨p,F⟩⟩ J74 A2
 try dsimp only at p F
 try dsimp only
 refine WS fun _ C0=>rP 1 [] mn ?_
 refine RK C0<|ah fun _ C1=>bL U (aL fun J2=>?_) (aM fun J2=>?_)
 ·refine bu<|ab<|ab<|au<|aG<|KK Ci<|aj<|rP 2 [] mn ?_
  refine aC ?_
  have Lk:dz.length=ht.length:=by omega
  rw [show (kq dz D.2 i)=dz from wS I,show ht.take i=ht from List.take_of_length_le I]
  refine Qy (Z':=aV je (r.ay.take (h+1)) (hz++[((G,H),dz)])) 16 18 19 U U (rZ (f:=je) (b:=((G,H),dz)) N A) ?_
  rw [Kg (y:=dz)]
  have If:(vI (((h+1):Nat):Int))=(vI ((h:Int)+1)):=by exact cI I
  refine aS (A1 ⟨((h+1),(hz++[((G,H),dz)])),⟨I,by simp; omega,Nu N L A dso⟩⟩ _ _ _ U os (ct 3<|aX U If<|dh.nil _) (aH [1,2,3,4,5,6,7,8,9,10,11,12,13,14,15,16,0,17]))
 refine WK C1<|ah fun _ C2=>av<|WS fun _ C3=>rP 2 [] mn ?_
 refine RK C3<|ah fun _ Di=>?_
 refine Ea 19 U (by rw [p_ (by rw [iB F I]; exact e)]; omega) (fun La AC=>?_)
 refine aj<|rP 3 [] (mc 5 U mn) ?_
 refine rS (IA h U (ai (n:=r.ay.length) 17 U (fg (by rw [iB (by simp; omega) I]; exact M))) rz dc I I) ?_
 refine rS (fV h 0 (vS G ht.length H) U bX (ai (n:=r.ay.length) 17 U (fg (by rw [iB (by simp; omega) I]; exact M))) v U dc U) ?_
 refine rP 1 [] mn ?_
 obtain ⟨d,hd⟩:=aJ ht i I
 obtain ⟨da,AO⟩:=aJ D.2 i I
 have Ij:(List.zipWith ax.cells ht (kq dz D.2 i))[i]? =some (ax.cells d da):=dy hd (AD F AO)
 have Os:=An.sig d (aR hd)
 refine rS (VE i U AC wE I I)<|rS (Uz ((i*7)+4) U AC fu U)<|bf 1 U<|RK Di<|aj<|rP 2 [] mn ?_
 refine rS (SX (zp U U AC) U U)<|rS (Uz (((i*7)+4)+2) U AC fu U) ?_
 refine rS (fV i 6 (vS da.1 d.cr.ag.length da.2) U bX (ai (n:=ht.length) 19 U (p_ (by rw [iB F I]; exact e))) Ij U dc U) ?_
 refine cX (KM d.cr.ag da.1 da.2 sd) (aw (show il _ (rd da.1 d.cr.ag.length 2 (d.cr.ag.map aK.cells)).holds from (du 13 U (bM N O (cR _ (bM hd AO (by simp [ax.g0]))))))<|aI) U fun LT OP=>?_
 obtain ⟨R,AA⟩:=LT
 try dsimp only
 refine rS (SX (zp U U AC) U U)<|rS (Uz (((i*7)+4)+2) U AC fu U)<|ew (k:=i) (o:=6) (vs:=[(vS R d.cr.ag.length AA)]) (es':=(List.zipWith ax.cells ht (kq (dz++[(R,AA)]) D.2 (i+1)))) (C':=[_,_,_,_,_,_,_,_,_,_,_,_,_,_,_,_,_,_,_,_,(own G H 45 7 (List.zipWith ax.cells ht (kq (dz++[(R,AA)]) D.2 (i+1))))]) 20 U U U UY U U U U Ij U dc (by exact xB (c:=ax.cells) (b:=(R,AA)) hd F AO) U<|aC<|aG<|KK C2<|aj<|rP 2 [] mn ?_
 refine aC<|IG (Y':=aV oD (ht.take (i+1)) (dz++[(R,AA)])) 19 0 U U (rZ (f:=oD) (b:=(R,AA)) hd F) ?_
 have Id:(vI (((i+1):Nat):Int))=(vI ((i:Int)+1)):=by exact cI I
 refine aS (A2 ⟨((i+1),(dz++[(R,AA)])),⟨I,by simp; omega⟩⟩ _ _ _ U os (ct 6<|aX U Id<|dh.nil _) (aH [1,2,3,4,5,6,7,8,9,10,11,12,13,14,15,16,17,18,0,19]))
end
section
open Go.RowKit
theorem w8 (r:bT) (kA:OA) (kC:Nat) (az:List RA) (cA:OA) (cC:Nat) (bA:OA) (bC:Nat) (slA:OA) (slC:Nat) (drA:OA) (drC:Nat) (ha:List cO) (heA:OA) (heC:Nat) (tz:List RA) (tA:OA) (tC:Nat) (ms:Value) (gw:Nat) (h i:Int) (t:aa) (hin:e9 r az ha) (hok:eP r):
 ly Tryz.prog 40 [(vP gw),(vI h),(vI i),(vA (aa.cells t))] [(rd kA r.ao.aP.length 9 (r.ao.aP.map al.cells)),(rd cA r.ao.ak.length 2 (List.zipWith ar.cells r.ao.ak az)),(eW (aV ar.g0 r.ao.ak az)),(rd bA r.ao.ae.length 4 (r.ao.ae.map bD.cells)),(rd slA r.aQ.length 1 (r.aQ.map iC)),(rd drA r.bQ.length 1 (r.bQ.map iC)),(rd heA r.ay.length 1 (List.zipWith cP r.ay ha)),(eW (aV iu r.ay ha)),(rd tA ((cN r).length) 1 (List.zipWith DC (cN r) tz)),(eW (aV MA (cN r) tz)),(bV gw 91 (fI.cells (fI.mk (oH r kA kC cA cC bA bC slA slC drA drC heA heC) (br.mk tA ((cN r).length) tC) ms)))] (fun (x:Bool×Int×(OA)×Nat×(OA)×Nat×(List RA)×(OA)×Nat×(OA)×Nat×(OA)×Nat×(OA)×Nat×(List cO))=>bif x.1 then (vT [(vA (cv.cells (cv.mk (ck.mk (bE.mk (br.mk x.2.2.1 r.ao.aP.length x.2.2.2.1)) r.ao.hE (br.mk x.2.2.2.2.1 r.ao.ak.length x.2.2.2.2.2.1) (br.mk x.2.2.2.2.2.2.2.1 r.ao.ae.length x.2.2.2.2.2.2.2.2.1) r.ao.cJ r.ao.eU r.ao.cW) (br.mk x.2.2.2.2.2.2.2.2.2.1 r.aQ.length x.2.2.2.2.2.2.2.2.2.2.1) (br.mk x.2.2.2.2.2.2.2.2.2.2.2.1 r.bQ.length x.2.2.2.2.2.2.2.2.2.2.2.2.1) r.iK (br.mk x.2.2.2.2.2.2.2.2.2.2.2.2.2.1 ((gP r.ay h i t).length) x.2.2.2.2.2.2.2.2.2.2.2.2.2.2.1)))),(vI 0)]) else (vT [(vA (cv.cells (cv.mk (ck.mk (bE.mk (br.mk none 0 0)) 0 (br.mk none 0 0) (br.mk none 0 0) 0 0 0) (br.mk none 0 0) (br.mk none 0 0) 0 (br.mk none 0 0)))),(vI x.2.1)])) (fun (x:Bool×Int×(OA)×Nat×(OA)×Nat×(List RA)×(OA)×Nat×(OA)×Nat×(OA)×Nat×(OA)×Nat×(List cO))=>(x.1=true→((qm r h i t)=0∧(x.2.2.2.2.2.2.1.length=r.ao.ak.length∧rJ r.ao.ak x.2.2.2.2.2.2.1)∧tM (gP r.ay h i t) x.2.2.2.2.2.2.2.2.2.2.2.2.2.2.2))∧(x.1=false→(x.2.1=(qm r h i t)∧ ¬ (qm r h i t)=0))) (fun (x:Bool×Int×(OA)×Nat×(OA)×Nat×(List RA)×(OA)×Nat×(OA)×Nat×(OA)×Nat×(OA)×Nat×(List cO))=>bif x.1 then [(own x.2.2.1 x.2.2.2.1 114 9 (r.ao.aP.map al.cells)),(own x.2.2.2.2.1 x.2.2.2.2.2.1 119 2 (List.zipWith ar.cells r.ao.ak x.2.2.2.2.2.2.1)),(bw (aV ar.owns r.ao.ak x.2.2.2.2.2.2.1)),(own x.2.2.2.2.2.2.2.1 x.2.2.2.2.2.2.2.2.1 121 4 (r.ao.ae.map bD.cells)),(own x.2.2.2.2.2.2.2.2.2.1 x.2.2.2.2.2.2.2.2.2.2.1 3 1 (r.aQ.map iC)),(own x.2.2.2.2.2.2.2.2.2.2.2.1 x.2.2.2.2.2.2.2.2.2.2.2.2.1 3 1 (r.bQ.map iC)),(own x.2.2.2.2.2.2.2.2.2.2.2.2.2.1 x.2.2.2.2.2.2.2.2.2.2.2.2.2.2.1 46 1 (List.zipWith cP (gP r.ay h i t) x.2.2.2.2.2.2.2.2.2.2.2.2.2.2.2)),(bw (aV je (gP r.ay h i t) x.2.2.2.2.2.2.2.2.2.2.2.2.2.2.2))] else []):=by
 have A3:=hin.line
 have Ci:=hin.iO
 have Cp:=hin.has
 have A9:=hin.iN
 have A6:=hin.draw
 have BX:=dA (r:=r)
 have C0:=hok.num
 have Cx:=hok.nh
 refine dj Va Tryz.func40 U U fun w0 Q hQ hN=>?_
 try dsimp only
 refine WS fun _ AO=>fK U fun b2=>AL U CS fun b3=>bf 1 U<|RK AO<|ah fun _ An=>WS fun _ J=>bf 1 U<|rS (SX (bI U U) U U)<|rP 6 [] (mr 12 U mn) ?_
 refine cY (xs:=[.tmp 18]) (cs:=[(vI h)]) U cp ja U U U U (by simp [Value.cells]) U U fun b6=>?_
 refine rS (CL (dT.eq (j4 0 ((r.ay.length:Int)-1) ([h]) (some ⟨b6,0,none⟩) 1 sd) cS) (aw (aZ 0 U U (by simp [bB]) U)<|aI) U) ?_
 refine rP 2 [] mn ?_
 refine cQ (t:=22) U (bp fun AC=>?_) (bq fun AC=>?_)
 ·refine bf 11 U<|RK J<|aO U<|WS fun _ Ay=>rS (SX (bh (xs:=[]) (cs:=(cv.cells (cv.mk (ck.mk (bE.mk (br.mk none 0 0)) 0 (br.mk none 0 0) (br.mk none 0 0) 0 0 0) (br.mk none 0 0) (br.mk none 0 0) 0 (br.mk none 0 0)))) U U (bg H2 U)) U U)<|ub U tj U<|rP 1 [] mn ?_
  refine RK Ay<|an ?_
  refine LX hQ (false,2,none,0,none,0,[],none,0,none,0,none,0,none,0,[]) [] [0] (mc 1 U mn) U (by first|rfl|(show List.all _ _=true; simp only [cond_true,fz,List.all_nil,gh,kB,Bool.and_true]; rfl)) U ?_ ?_
  ·first|rfl|(simp only [cond_true,iU]; rfl)
  ·refine ⟨Ba,fun _=>?_⟩; first|exact pS (mD (r:=r) (h:=h) (i:=i) (t:=t) I)|exact pS (mD (r:=r) (h:=h) (i:=i) (t:=t) (fun q=>absurd q.2 asm))|exact pS (sS (r:=r) (t:=t) ⟨I,asm⟩ A hd H)
 refine rP 2 [] mn ?_
 refine cY (xs:=[.tmp 24]) (cs:=[(vI i)]) U cp ja U U U U (by simp [Value.cells]) U U fun b8=>?_
 refine rS (CL (dT.eq (Au r kA kC az cA cC bA bC slA slC drA drC ha heA heC tz tA tC ms gw ([i]) (some ⟨b8,0,none⟩) 1 hin sd) cS) (lM [4,5,6,7,8,9,10,11,12,13,14]<|aw (aZ 0 U U (by simp [bB]) U)<|aI) U) ?_
 refine rP 3 [] mn ?_
 refine cQ (t:=29) U (bp fun AK=>?_) (bq fun AK=>?_)
 ·refine bf 4 U<|RK J<|aO U<|WS fun _ A0=>rS (SX (bh (xs:=[]) (cs:=(cv.cells (cv.mk (ck.mk (bE.mk (br.mk none 0 0)) 0 (br.mk none 0 0) (br.mk none 0 0) 0 0 0) (br.mk none 0 0) (br.mk none 0 0) 0 (br.mk none 0 0)))) U U (bg H2 U)) U U)<|GB U tj U<|rP 1 [] mn ?_
  refine RK A0<|an ?_
  refine LX hQ (false,2,none,0,none,0,[],none,0,none,0,none,0,none,0,[]) [] [0] (mc 2 U mn) U (by first|rfl|(show List.all _ _=true; simp only [cond_true,fz,List.all_nil,gh,kB,Bool.and_true]; rfl)) U ?_ ?_
  ·first|rfl|(simp only [cond_true,iU]; rfl)
  ·refine ⟨Ba,fun _=>?_⟩; first|exact pS (mD (r:=r) (h:=h) (i:=i) (t:=t) I)|exact pS (mD (r:=r) (h:=h) (i:=i) (t:=t) (fun q=>absurd q.2 asm))|exact pS (sS (r:=r) (t:=t) ⟨I,asm⟩ A hd H)
 refine fw 1 [] (mc 3 U mn) U<|rS (CL (Fk t) (aI) U)<|rP 2 [] mn ?_
 refine RK J<|cy U (bp fun Z=>?_) (bq fun Z=>?_)
 ·refine WS fun _ b=>rS (SX (bh (xs:=[]) (cs:=(cv.cells (cv.mk (ck.mk (bE.mk (br.mk none 0 0)) 0 (br.mk none 0 0) (br.mk none 0 0) 0 0 0) (br.mk none 0 0) (br.mk none 0 0) 0 (br.mk none 0 0)))) U U (bg H2 U)) U U)<|GB U tj U<|rP 1 [] mn ?_
  refine RK b<|an ?_
  refine LX hQ (false,2,none,0,none,0,[],none,0,none,0,none,0,none,0,[]) [] [0] (mc 2 U mn) U (by first|rfl|(show List.all _ _=true; simp only [cond_true,fz,List.all_nil,gh,kB,Bool.and_true]; rfl)) U ?_ ?_
  ·first|rfl|(simp only [cond_true,iU]; rfl)
  ·refine ⟨Ba,fun _=>?_⟩; first|exact pS (mD (r:=r) (h:=h) (i:=i) (t:=t) I)|exact pS (mD (r:=r) (h:=h) (i:=i) (t:=t) (fun q=>absurd q.2 asm))|exact pS (sS (r:=r) (t:=t) ⟨I,asm⟩ A hd H)
 refine WK An<|ah fun _ e=>WS fun _ f=>bf 1 U<|rS (SX (bI U U) U U)<|rP 4 [] (mr 14 U mn) ?_
 obtain ⟨ht,A⟩:=aJ r.ay ((h).toNat) I
 obtain ⟨C,E⟩:=aJ ha ((h).toNat) I
 have w:(List.zipWith cP r.ay ha)[(h).toNat]? =some (cP ht C):=dy A E
 refine rS (IA ((h).toNat) U (aD 10 U) rz dc I I) ?_
 have A2:=hin.o5 _ _ _ A E
 have A7:=A2.oF
 have Ck:=(hok.o5 ht (aR A)).1
 refine rS (fV ((h).toNat) 0 (vS C.1.1 ht.length C.1.2) U PR (aD 10 U) w U dc U)<|rP 1 [] mn ?_
 obtain ⟨d,hd⟩:=aJ ht ((i).toNat) I
 obtain ⟨da,K⟩:=aJ C.2 ((i).toNat) I
 have A1:(List.zipWith ax.cells ht C.2)[(i).toNat]? =some (ax.cells d da):=dy hd K
 refine rS (IA ((i).toNat) U (show il _ (rd C.1.1 ht.length 7 (List.zipWith ax.cells ht C.2)).holds from (du 11 U (bM A E cb))) wE dc I I)<|rS (nS (((i).toNat)*7) U (show il _ (rd C.1.1 ht.length 7 (List.zipWith ax.cells ht C.2)).holds from (du 11 U (bM A E cb))) (Nat.mul_pos I dc) QY U)<|rS (fV ((i).toNat) 0 (vB d.Out) U VM (show il _ (rd C.1.1 ht.length 7 (List.zipWith ax.cells ht C.2)).holds from (du 11 U (bM A E cb))) A1 U dc U)<|RK f<|cy U (fun H=>?_) (fun H=>?_)
 ·refine WS fun _ g=>rS (SX (bh (xs:=[]) (cs:=(cv.cells (cv.mk (ck.mk (bE.mk (br.mk none 0 0)) 0 (br.mk none 0 0) (br.mk none 0 0) 0 0 0) (br.mk none 0 0) (br.mk none 0 0) 0 (br.mk none 0 0)))) U U (bg H2 U)) U U)<|GB U tj U<|rP 1 [] mn ?_
  refine RK g<|an ?_
  refine LX hQ (false,8,none,0,none,0,[],none,0,none,0,none,0,none,0,[]) [] [0] (mc 2 U mn) U (by first|rfl|(show List.all _ _=true; simp only [cond_true,fz,List.all_nil,gh,kB,Bool.and_true]; rfl)) U ?_ ?_
  ·first|rfl|(simp only [cond_true,iU]; rfl)
  ·refine ⟨Ba,fun _=>?_⟩; first|exact pS (mD (r:=r) (h:=h) (i:=i) (t:=t) I)|exact pS (mD (r:=r) (h:=h) (i:=i) (t:=t) (fun q=>absurd q.2 asm))|exact pS (sS (r:=r) (t:=t) ⟨I,asm⟩ A hd H)
 refine WK e<|WS fun _ j=>bf 1 U<|rS (SX (bI U U) U U)<|rP 1 [] mn ?_
 refine rS (VC (cv.cells (oH r kA kC cA cC bA bC slA slC drA drC heA heC)) 14 U S_ U U U)<|cX (Ow r kA kC az cA cC bA bC slA slC drA drC ha heA heC hin) (bj [4,5,6,7,8,9,10,11]) U fun A5 z=>?_
 obtain ⟨L,T,M,AA,S,N,V,O,W,P,X,R,Y,G⟩:=A5
 try dsimp only
 obtain ⟨⟨s,u⟩,D⟩:=z
 try dsimp only at s u D
 have A8:=D.1
 refine AL U CS fun B3=>fP U tj U<|RK j<|ah fun _ l=>?_
 obtain ⟨B,F⟩:=aJ G ((h).toNat) (by have:=D.1; omega)
 have y:(List.zipWith cP r.ay G)[(h).toNat]? =some (cP ht B):=dy A F
 have A4:=D.2 _ _ _ A F
 refine QU 8 A F U U ?_
 try dsimp only
 refine dB cu 9 kr<|mL 3 [] (mc 3 U mn) U<|dS (IA ((h).toNat) U (ai (n:=r.ay.length) 10 U (fg D.1)) rz dc I I)<|dS (fV ((h).toNat) 0 (vS B.1.1 ht.length B.1.2) U PR (ai (n:=r.ay.length) 10 U (fg D.1)) y U dc U)<|dP 2 [] (mc 14 U mn) ?_
 refine dS (SX (bh (xs:=[(1,.const (vB true)),(2,.tmp 59)]) (cs:=(bk.cells (bk.mk false true t (eB.mk 0 0 (br.mk none 0 0))))) U U (bg Qh U)) U U) ?_
 obtain ⟨K,AB⟩:=aJ B.2 ((i).toNat) I
 have v:(List.zipWith ax.cells ht B.2)[(i).toNat]? =some (ax.cells d K):=dy hd AB
 refine dS (IA ((i).toNat) U (ai (n:=ht.length) 0 U (p_ A4)) wE dc I I)<|cM<|ew (k:=(i).toNat) (o:=0) (vs:=(bk.cells (bk.mk false true t (eB.mk 0 0 (br.mk none 0 0))))) (es':=(List.zipWith ax.cells (ht.set (i).toNat (kK t)) (B.2.set (i).toNat (none,0)))) (C':=[(own B.1.1 B.1.2 45 7 (List.zipWith ax.cells (ht.set (i).toNat (kK t)) (B.2.set (i).toNat (none,0)))),_,_,_,_,_,_,_,_,_,_,_,_,_,_,_,_,_,_,_,_,_,_,_,_,_]) 0 U U U QK U U U U v U dc (by exact qN (c:=ax.cells) (m:=kK t) (a:=(none,0))) U<|RK l<|ah fun _ p=>P5 (d':=kK t) 1 hd AB U U U ?_
 refine Nd (h':=(ht.set (i).toNat (kK t))) (a':=(B.1,(B.2.set (i).toNat (none,0)))) 2 0 1 I (by have:=D.1; omega) U U ?_
 rw [← vR A,show List.zipWith cP r.ay G=List.zipWith cP (gP r.ay h i t) (G.set (h).toNat (B.1,(B.2.set (i).toNat (none,0)))) from by rw [vR A]; exact (Hf A F (by rw [List.length_set])).symm]
 replace D:=Qo (i:=i) (t:=t) D A F
 refine aj<|fw 1 [] (mc 1 U mn) U<|Vs U tj U<|rP 1 [] mn ?_
 refine RK p<|an ?_
 refine LX hQ (true,0,L,T,M,AA,S,N,V,O,W,P,X,R,Y,(G.set (h).toNat (B.1,(B.2.set (i).toNat (none,0))))) [2,3,4,5,6,7,8,0] [0] (mc 11 U mn) U (by first|rfl|(show List.all _ _=true; simp only [cond_true,fz,List.all_nil,gh,kB,Bool.and_true]; rfl)) U ?_ ?_
 ·first|rfl|(simp only [cond_true,iU]; rfl)
 ·exact ⟨fun _=>⟨Nn ⟨I,Z⟩ A hd H,⟨s,u⟩,D⟩,MT⟩
end
section
open Go.RowKit
theorem Mo (h i:Int) (t:aa) (r:bT) (kA:OA) (kC:Nat) (az:List RA) (cA:OA) (cC:Nat) (bA:OA) (bC:Nat) (slA:OA) (slC:Nat) (drA:OA) (drC:Nat) (ha:List cO) (heA:OA) (heC:Nat) (hin:e9 r az ha):
 ly Tryz.prog 17 [(vA (cv.cells (oH r kA kC cA cC bA bC slA slC drA drC heA heC))),(vI h),(vI i),(vA (aa.cells t))] [(rd eX 3 2 dW),(rd kA r.ao.aP.length 9 (r.ao.aP.map al.cells)),(rd cA r.ao.ak.length 2 (List.zipWith ar.cells r.ao.ak az)),(eW (aV ar.g0 r.ao.ak az)),(rd bA r.ao.ae.length 4 (r.ao.ae.map bD.cells)),(rd slA r.aQ.length 1 (r.aQ.map iC)),(rd drA r.bQ.length 1 (r.bQ.map iC)),(rd heA r.ay.length 1 (List.zipWith cP r.ay ha)),(eW (aV iu r.ay ha))] (fun (x:Bool×Int×(OA)×Nat×(OA)×Nat×(List RA)×(OA)×Nat×(OA)×Nat×(OA)×Nat×(OA)×Nat×(List cO))=>bif x.1 then (vT [(vA (cv.cells (cv.mk (ck.mk (bE.mk (br.mk x.2.2.1 r.ao.aP.length x.2.2.2.1)) r.ao.hE (br.mk x.2.2.2.2.1 r.ao.ak.length x.2.2.2.2.2.1) (br.mk x.2.2.2.2.2.2.2.1 r.ao.ae.length x.2.2.2.2.2.2.2.2.1) r.ao.cJ r.ao.eU r.ao.cW) (br.mk x.2.2.2.2.2.2.2.2.2.1 r.aQ.length x.2.2.2.2.2.2.2.2.2.2.1) (br.mk x.2.2.2.2.2.2.2.2.2.2.2.1 r.bQ.length x.2.2.2.2.2.2.2.2.2.2.2.2.1) r.iK (br.mk x.2.2.2.2.2.2.2.2.2.2.2.2.2.1 ((gP r.ay h i t).length) x.2.2.2.2.2.2.2.2.2.2.2.2.2.2.1)))),(vI 0)]) else (vT [(vA (cv.cells (cv.mk (ck.mk (bE.mk (br.mk none 0 0)) 0 (br.mk none 0 0) (br.mk none 0 0) 0 0 0) (br.mk none 0 0) (br.mk none 0 0) 0 (br.mk none 0 0)))),(vI x.2.1)])) (fun (x:Bool×Int×(OA)×Nat×(OA)×Nat×(List RA)×(OA)×Nat×(OA)×Nat×(OA)×Nat×(OA)×Nat×(List cO))=>(x.1=true→((gI r h i t)=0∧(x.2.2.2.2.2.2.1.length=r.ao.ak.length∧rJ r.ao.ak x.2.2.2.2.2.2.1)∧tM (gP r.ay h i t) x.2.2.2.2.2.2.2.2.2.2.2.2.2.2.2))∧(x.1=false→(x.2.1=(gI r h i t)∧ ¬ (gI r h i t)=0))) (fun (x:Bool×Int×(OA)×Nat×(OA)×Nat×(List RA)×(OA)×Nat×(OA)×Nat×(OA)×Nat×(OA)×Nat×(List cO))=>bif x.1 then [(own x.2.2.1 x.2.2.2.1 114 9 (r.ao.aP.map al.cells)),(own x.2.2.2.2.1 x.2.2.2.2.2.1 119 2 (List.zipWith ar.cells r.ao.ak x.2.2.2.2.2.2.1)),(bw (aV ar.owns r.ao.ak x.2.2.2.2.2.2.1)),(own x.2.2.2.2.2.2.2.1 x.2.2.2.2.2.2.2.2.1 121 4 (r.ao.ae.map bD.cells)),(own x.2.2.2.2.2.2.2.2.2.1 x.2.2.2.2.2.2.2.2.2.2.1 3 1 (r.aQ.map iC)),(own x.2.2.2.2.2.2.2.2.2.2.2.1 x.2.2.2.2.2.2.2.2.2.2.2.2.1 3 1 (r.bQ.map iC)),(own x.2.2.2.2.2.2.2.2.2.2.2.2.2.1 x.2.2.2.2.2.2.2.2.2.2.2.2.2.2.1 46 1 (List.zipWith cP (gP r.ay h i t) x.2.2.2.2.2.2.2.2.2.2.2.2.2.2.2)),(bw (aV je (gP r.ay h i t) x.2.2.2.2.2.2.2.2.2.2.2.2.2.2.2))] else []):=by
 have u:=hin.line
 have An:=hin.iO
 have Ay:=hin.has
 have AC:=hin.iN
 have z:=hin.draw
 have e:=dA (r:=r)
 refine dj kr Tryz.func17 U U fun w0 Q hQ hN=>?_
 try dsimp only
 refine WS fun _ s=>fK U fun b2=>fK U fun b3=>AL U CS fun b4=>bf 1 U<|RK s<|WS fun _ Y=>rP 1 [] (mc 2 U mn) ?_
 refine cX (og r kA kC az cA cC bA bC slA slC drA drC ha heA heC hin) (bj [3,4,5,6,7,8,9,10,11]) U fun y6 g=>?_
 obtain ⟨k,AO,q,S,m,o,p⟩:=y6
 cases k
 ·obtain ⟨M,he⟩:=g.2 rfl
  try dsimp only at M he
  subst M
  try dsimp only [cond_true,cond_false,List.cons_append,List.nil_append]
  refine bf 5 U<|RK Y<|ah fun _ y=>WS fun _ AA=>rP 2 [] mn ?_
  refine RK AA<|bL U (bq fun T=>?_) (bp fun T=>?_)
  ·exact absurd T he
  refine WS fun _ V=>rS (SX (bh (xs:=[]) (cs:=(cv.cells (cv.mk (ck.mk (bE.mk (br.mk none 0 0)) 0 (br.mk none 0 0) (br.mk none 0 0) 0 0 0) (br.mk none 0 0) (br.mk none 0 0) 0 (br.mk none 0 0)))) U U (bg H2 U)) U U)<|bf 1 U<|fP U tj U<|rP 1 [] mn ?_
  refine RK V<|an ?_
  refine LX hQ (false,(cK r),none,0,none,0,[],none,0,none,0,none,0,none,0,[]) [] [0] (mc 0 U mn) U (by first|rfl|(show List.all _ _=true; simp only [cond_true,fz,List.all_nil,gh,kB,Bool.and_true]; rfl)) U ?_ ?_
  ·first|rfl|(simp only [cond_true,iU]; rfl)
  ·refine ⟨Ba,fun _=>?_⟩; first|exact II (sw (h:=h) (i:=i) (t:=t) he) he|exact II (o3 (h:=h) (i:=i) (t:=t) b) he
 obtain ⟨he,f⟩:=g.1 rfl
 try dsimp only [cond_true,cond_false,List.cons_append,List.nil_append]
 have b:=he
 try dsimp only at f
 have d:=(iG he).2
 refine bf 5 U<|RK Y<|ah fun _ W=>WS fun _ X=>bf 1 U<|rS (SX (bU (r:= .bool false) U U U mz) U U)<|RK X<|aW U<|WK W<|WS fun _ N=>rP 4 [] (mc 5 U mn) ?_
 refine cX (w8 r kA kC az cA cC bA bC slA slC drA drC ha heA heC p m o (Value.map (some S)) q h i t hin (by exact d)) (lM [8,9,10,11,12,13,14,15]<|aw (ai (n:=(cN r).length) 1 U (mW (by rw [e]; exact f)))<|aw (cL 2 U tn)<|fD 0 U U<|aI) U fun v P=>?_
 obtain ⟨l,w,A,G,B,H,R,C,AB,D,J,E,K,F,L,j⟩:=v
 cases l
 ·obtain ⟨M,he⟩:=P.2 rfl
  try dsimp only at M he
  subst M
  try dsimp only [cond_true,cond_false,List.cons_append,List.nil_append]
  refine bf 2 U<|Ps U tj U<|rP 1 [] mn ?_
  refine RK N<|an ?_
  refine LX hQ (false,(qm r h i t),none,0,none,0,[],none,0,none,0,none,0,none,0,[]) [] [0] (mc 4 U mn) U (by first|rfl|(show List.all _ _=true; simp only [cond_true,fz,List.all_nil,gh,kB,Bool.and_true]; rfl)) U ?_ ?_
  ·first|rfl|(simp only [cond_true,iU]; rfl)
  ·refine ⟨Ba,fun _=>?_⟩; first|exact II (sw (h:=h) (i:=i) (t:=t) he) he|exact II (o3 (h:=h) (i:=i) (t:=t) b) he
 obtain ⟨O,⟨Z,a⟩,c⟩:=P.1 rfl
 try dsimp only [cond_true,cond_false,List.cons_append,List.nil_append]
 try dsimp only at O Z a c
 refine bf 2 U<|jm (vs:=(cv.cells (cv.mk (ck.mk (bE.mk (br.mk A r.ao.aP.length G)) r.ao.hE (br.mk B r.ao.ak.length H) (br.mk C r.ao.ae.length AB) r.ao.cJ r.ao.eU r.ao.cW) (br.mk D r.aQ.length J) (br.mk E r.bQ.length K) r.iK (br.mk F ((gP r.ay h i t).length) L)))) (cs':=(cv.cells (cv.mk (ck.mk (bE.mk (br.mk A r.ao.aP.length G)) r.ao.hE (br.mk B r.ao.ak.length H) (br.mk C r.ao.ae.length AB) r.ao.cJ r.ao.eU r.ao.cW) (br.mk D r.aQ.length J) (br.mk E r.bQ.length K) r.iK (br.mk F ((gP r.ay h i t).length) L)))) (C':=[_,_,_,_,_,_,_,_,_,_,_,_,(bV b4 35 (cv.cells (cv.mk (ck.mk (bE.mk (br.mk A r.ao.aP.length G)) r.ao.hE (br.mk B r.ao.ak.length H) (br.mk C r.ao.ae.length AB) r.ao.cJ r.ao.eU r.ao.cW) (br.mk D r.aQ.length J) (br.mk E r.bQ.length K) r.iK (br.mk F ((gP r.ay h i t).length) L)))),_,_,_,_,_,_,_,_,_,_,_]) 12 U U U tj U U U U U U U<|rP 1 [] mn ?_
 refine RK N<|an ?_
 refine LX hQ (true,0,A,G,B,H,R,C,AB,D,J,E,K,F,L,j) [0,1,2,3,4,5,6,7] [0] (mc 12 U mn) U (by first|rfl|(show List.all _ _=true; simp only [cond_true,fz,List.all_nil,gh,kB,Bool.and_true]; rfl)) U ?_ ?_
 ·first|rfl|(simp only [cond_true,iU]; rfl)
 ·exact ⟨fun _=>⟨(o3 he).trans O,⟨Z,a⟩,c⟩,MT⟩
end
section
open Go.RowKit
theorem N4 (la:List Int) (laA:OA) (laC:Nat) (lb:List Int) (lbA:OA) (lbC:Nat) (h1:la.length≤1000000) (h2:lb.length≤1000000):
 dT Tryz.prog 43 [(vS laA la.length laC),(vS lbA lb.length lbC)] [(rd laA la.length 1 (la.map iC)),(rd lbA lb.length 1 (lb.map iC))] (vB (decide (la=lb))):=by
 refine bx kr Tryz.func43 U U fun W Q hQ hN=>?_
 try dsimp only
 refine WS fun _ K=>bf 1 U<|RK K<|ah fun _ L=>WS fun _ M=>rP 5 [] mn ?_
 refine RK M<|cy U (bp fun hl=>?_) (bq fun hl=>?_)
 ·refine WS fun _ N=>rP 1 [] mn ?_
  refine RK N<|an<|Q1 hQ U U U ?_
  first|exact cB (cf (nM hx hy h)).symm|exact cB (fH (nA I A I)).symm|exact cB (cf (fun e=>by subst e; omega)).symm
 refine WK L<|ah fun _ O=>WS fun _ P=>rP 3 [] mn ?_
 refine RK P<|av ?_
 have B:(0≤la.length)∧(la.take 0=lb.take 0):=by simp
 refine bH (ι:={z:Nat // (z≤la.length)∧(la.take z=lb.take z)}) [0,1,12] [0,1] U U (fun z=>[(13,(vI (z.1:Int)))]) (fun z=>[]) (fun _=>rfl) (fun _=>rfl) (fun z=>la.length-z.1) ⟨0,B⟩ (aT U) (aH [0,1]) ?_
 clear B
 rintro ⟨i,⟨T,A⟩⟩ J7 J
 try dsimp only
 refine WS fun _ R=>rP 1 [] mn ?_
 refine RK R<|ah fun _ S=>bL U (aL fun AB=>?_) (aM fun AB=>?_)
 ·refine bu<|ab<|ab<|au<|KK O<|WS fun _ G=>rP 1 [] mn ?_
  refine RK G<|an<|Q1 hQ U U U ?_
  first|exact cB (cf (nM hx hy h)).symm|exact cB (fH (nA I A I)).symm|exact cB (cf (fun e=>by subst e; omega)).symm
 refine WK S<|ah fun _ C=>av<|WS fun _ D=>bf 2 U<|RK D<|ah fun _ E=>dB cu 9 kr<|dP 2 [] mn ?_
 obtain ⟨x,hx⟩:=aJ la i I
 have AA:=bG iC hx
 refine dS (IA i U (aD 0 U) cp dc I I)<|dS (fV i 0 (vI x) U bX (aD 0 U) AA U dc U)<|dP 2 [] mn ?_
 obtain ⟨y,hy⟩:=aJ lb i I
 have V:=bG iC hy
 refine dS (IA i U (aD 1 U) cp dc I I)<|dS (fV i 0 (vI y) U bX (aD 1 U) V U dc U)<|dP 1 [] mn ?_
 refine cM<|RK E<|cy U (bp fun h=>?_) (bq fun h=>?_)
 ·refine WS fun _ F=>rP 1 [] mn ?_
  refine RK F<|an<|Q1 hQ U U U ?_
  first|exact cB (cf (nM hx hy h)).symm|exact cB (fH (nA I A I)).symm|exact cB (cf (fun e=>by subst e; omega)).symm
 refine b_<|aG<|KK C<|aj<|rP 2 [] mn ?_
 refine aC ?_
 have H:(vI (((i+1):Nat):Int))=(vI ((i:Int)+1)):=by exact cI I
 refine aS (J ⟨(i+1),⟨I,uA A hx hy h⟩⟩ _ _ _ U os (ct 3<|aX U H<|dh.nil _) (aH [0,1]))
theorem H7 (h i:Int) (t:aa) (r:bT) (kA:OA) (kC:Nat) (az:List RA) (cA:OA) (cC:Nat) (bA:OA) (bC:Nat) (slA:OA) (slC:Nat) (drA:OA) (drC:Nat) (ha:List cO) (heA:OA) (heC:Nat) (hin:e9 r az ha):
 ly Tryz.prog 19 [(vA (cv.cells (oH r kA kC cA cC bA bC slA slC drA drC heA heC))),(vI h),(vI i),(vA (aa.cells t))] [(rd eX 3 2 dW),(rd kA r.ao.aP.length 9 (r.ao.aP.map al.cells)),(rd cA r.ao.ak.length 2 (List.zipWith ar.cells r.ao.ak az)),(eW (aV ar.g0 r.ao.ak az)),(rd bA r.ao.ae.length 4 (r.ao.ae.map bD.cells)),(rd slA r.aQ.length 1 (r.aQ.map iC)),(rd drA r.bQ.length 1 (r.bQ.map iC)),(rd heA r.ay.length 1 (List.zipWith cP r.ay ha)),(eW (aV iu r.ay ha))] (fun (x:(OA)×Nat)=>(vT [(vS x.1 ((eO r h i t).length) x.2),(vI (gI r h i t))])) (fun (x:(OA)×Nat)=>True) (fun (x:(OA)×Nat)=>[(own x.1 x.2 3 1 ((eO r h i t).map iC))]):=by
 have IO:=hin.line
 have La:=hin.iO
 have Li:=hin.has
 have J7:=hin.iN
 have J5:=hin.draw
 have C3:=dA (r:=r)
 refine dj kr Tryz.func19 U U fun w0 Q hQ hN=>?_
 try dsimp only
 refine WS fun _ H1=>fK U fun b2=>fK U fun b3=>bf 2 U<|RK H1<|WS fun _ Ay=>rP 1 [] (mc 1 U mn) ?_
 refine cX (og r kA kC az cA cC bA bC slA slC drA drC ha heA heC hin) (bj [2,3,4,5,6,7,8,9,10]) U fun y5 Di=>?_
 obtain ⟨Dr,LS,v,G,f,g,Ao⟩:=y5
 cases Dr
 ·obtain ⟨B,he⟩:=Di.2 rfl
  try dsimp only at B he
  subst B
  try dsimp only [cond_true,cond_false,List.cons_append,List.nil_append]
  refine bf 5 U<|RK Ay<|ah fun _ J3=>WS fun _ AC=>rP 2 [] mn ?_
  refine RK AC<|bL U (bq fun w=>?_) (bp fun w=>?_)
  ·exact absurd w he
  refine WS fun _ AK=>rP 1 [] mn ?_
  have A:gI r h i t=cK r:=sw he
  have C:eO r h i t=[]:=wI (by rw [A]; exact he)
  refine dH 3 1 ?_
  rw [show (own none 0 3 1 ([]:List (List Value)))=own none 0 3 1 ((eO r h i t).map iC) from by rw [C]; rfl]
  refine rP 2 [] mn ?_
  refine RK AK<|an ?_
  refine LX hQ (none,0) [0] [] mn U U U ?_ ?_
  ·first|rfl|(rw [A,C]; rfl)|(rw [A]; rfl)
  ·trivial
 obtain ⟨he,m⟩:=Di.1 rfl
 try dsimp only [cond_true,cond_false,List.cons_append,List.nil_append]
 have AB:=he
 try dsimp only at m
 have C0:=(iG he).2
 refine bf 5 U<|RK Ay<|ah fun _ AO=>WS fun _ An=>bf 1 U<|rS (SX (bU (r:= .bool false) U U U mz) U U)<|RK An<|aW U<|WK AO<|WS fun _ Z=>rP 4 [] (mc 4 U mn) ?_
 refine cX (w8 r kA kC az cA cC bA bC slA slC drA drC ha heA heC Ao f g (Value.map (some G)) v h i t hin (by exact C0)) (lM [7,8,9,10,11,12,13,14]<|aw (ai (n:=(cN r).length) 1 U (mW (by rw [C3]; exact m)))<|aw (cL 2 U tn)<|fD 0 U U<|aI) U fun Id d=>?_
 obtain ⟨EQ,JL,L,S,M,T,o,N,AA,O,V,P,W,R,X,Do⟩:=Id
 cases EQ
 ·obtain ⟨B,he⟩:=d.2 rfl
  try dsimp only at B he
  subst B
  try dsimp only [cond_true,cond_false,List.cons_append,List.nil_append]
  refine bf 3 U<|AL U CS fun K8=>fP U tj U<|bf 1 U<|RK Z<|ah fun _ J4=>WS fun _ A0=>rP 2 [] mn ?_
  refine RK A0<|bL U (bq fun y=>?_) (bp fun y=>?_)
  ·exact absurd y he
  refine WS fun _ A1=>rP 1 [] mn ?_
  have A:gI r h i t=qm r h i t:=o3 AB
  have C:eO r h i t=[]:=wI (by rw [A]; exact he)
  refine dH 3 1 ?_
  rw [show (own none 0 3 1 ([]:List (List Value)))=own none 0 3 1 ((eO r h i t).map iC) from by rw [C]; rfl]
  refine rP 2 [] mn ?_
  refine RK A1<|an ?_
  refine LX hQ (none,0) [0] [] mn U U U ?_ ?_
  ·first|rfl|(rw [A,C]; rfl)|(rw [A]; rfl)
  ·trivial
 obtain ⟨E,⟨j,Ck⟩,J⟩:=d.1 rfl
 try dsimp only [cond_true,cond_false,List.cons_append,List.nil_append]
 try dsimp only at E j Ck J
 have l:gI r h i t=0:=(o3 AB).trans E
 have Cp:=hin.rep j Ck J
 refine bf 3 U<|AL U CS fun K_=>fP U tj U<|bf 1 U<|RK Z<|ah fun _ A2=>WS fun _ A3=>bf 1 U<|rS (SX (bU (r:= .bool false) U U U mz) U U)<|RK A3<|aW U<|WK A2<|WS fun _ A4=>rP 1 [] (mc 0 U mn) ?_
 refine cX (og (jw r h i t) L S o M T N AA O V P W Do R X (by exact Cp)) (fD 15 U U<|aw (ai (n:=r.ao.aP.length) 1 U sm)<|aw (ai (n:=r.ao.ak.length) 2 U (g7 j))<|aw (cL 3 U iW)<|aw (ai (n:=r.ao.ae.length) 4 U sm)<|aw (ai (n:=r.aQ.length) 5 U sm)<|aw (ai (n:=r.bQ.length) 6 U sm)<|aw (ai (n:=(gP r.ay h i t).length) 7 U (fg J.1))<|aw (hP 8 U J)<|aI) U fun If e=>?_
 obtain ⟨Eq,J2,s,p,FS,Fd,K4⟩:=If
 cases Eq
 ·obtain ⟨B,he⟩:=e.2 rfl
  try dsimp only at B he
  subst B
  try dsimp only [cond_true,cond_false,List.cons_append,List.nil_append]
  exact absurd (yX l) he
 obtain ⟨he,m⟩:=e.1 rfl
 try dsimp only [cond_true,cond_false,List.cons_append,List.nil_append]
 have C1:=np AB
 have F:=mA AB
 have C2:=np he
 have J6:=mA he
 refine bf 5 U<|RK A4<|WS fun _ A5=>bf 1 U<|RK A5<|ah fun _ A6=>WS fun _ A7=>bf 1 U<|rS (SX (bI U U) U U)<|rP 2 [] (mc 13 U mn) ?_
 refine cX (Gk G) (aI) U fun GE J8=>?_
 try dsimp only
 refine cX (zo (aF r) G GE sd) (bj [17,0]) U fun Ij J9=>?_
 obtain ⟨K5,LE⟩:=Ij
 try dsimp only
 rw [show (aF r).length=(df ((aF r).map (·.1))).length from by rw [gf,List.length_map]]
 refine rP 1 [] mn ?_
 have Cx:(df ((aF r).map (·.1))).length≤5:=by rw [gf,List.length_map]; exact F
 refine rP 1 [] mn ?_
 refine RK A7<|av<|fQ 3 1 ?_
 have D:(0≤(df ((aF r).map (·.1))).length):=by exact Nat.zero_le _
 refine bH (ι:={z:Nat×(OA)×Nat // (z.1≤(df ((aF r).map (·.1))).length)}) [10,13,47,48] [1,3,4,5,6,8,9,10,11,12,13,14,15,16,17,18,19,22,23,24,25,26,27,28,29,30] U U (fun z=>[(15,(vS z.1.2.1 ((((df ((aF r).map (·.1))).take z.1.1).filter (fun u=> !decide (c_ (aF r) u (aA (aF r) u)=c_ (aF (jw r h i t)) u (aA (aF (jw r h i t)) u)))).length) z.1.2.2)),(49,(vI (z.1.1:Int)))]) (fun z=>[(own z.1.2.1 z.1.2.2 3 1 ((((df ((aF r).map (·.1))).take z.1.1).filter (fun u=> !decide (c_ (aF r) u (aA (aF r) u)=c_ (aF (jw r h i t)) u (aA (aF (jw r h i t)) u)))).map iC))]) (fun _=>rfl) (fun _=>rfl) (fun z=>(df ((aF r).map (·.1))).length-z.1.1) ⟨(0,none,0),D⟩ (aT U) (aH [1,3,4,5,6,8,9,10,11,12,13,14,15,16,17,18,19,22,23,24,25,26,27,28,29,30,0]) ?_
 clear D
 rintro ⟨⟨k,a,c⟩,K⟩ J65 Y
 try dsimp only at K
 try dsimp only
 have LT:((((df ((aF r).map (·.1))).take k).filter (fun u=> !decide (c_ (aF r) u (aA (aF r) u)=c_ (aF (jw r h i t)) u (aA (aF (jw r h i t)) u))))).length≤12:=Nat.le_trans (List.length_filter_le _ _) (by rw [List.length_take]; omega)
 refine WS fun _ A8=>rP 1 [] mn ?_
 refine RK A8<|ah fun _ A9=>bL U (aL fun Hi=>?_) (aM fun Hi=>?_)
 ·refine bu<|ab<|ab<|au<|KK A6<|WS fun _ B7=>rP 1 [] mn ?_
  have A:=l
  have C:eO r h i t=(((df ((aF r).map (·.1))).take k).filter (fun u=> !decide (c_ (aF r) u (aA (aF r) u)=c_ (aF (jw r h i t)) u (aA (aF (jw r h i t)) u)))):=by rw [DK l,List.take_of_length_le I]
  rw [← C]
  refine rP 2 [] mn ?_
  refine RK B7<|an ?_
  refine LX hQ (a,c) [26] [] mn U U U ?_ ?_
  ·first|rfl|(rw [A,C]; rfl)|(rw [A]; rfl)
  ·trivial
 refine WK A9<|ah fun _ b=>av<|WS fun _ BX=>?_
 obtain ⟨x,hx⟩:=aJ (df ((aF r).map (·.1))) k I
 have IR:=bG iC hx
 refine rS (IA k U (ai (n:=(df ((aF r).map (·.1))).length) 0 U sm) cp dc I I)<|rS (fV k 0 (vI x) U bX (ai (n:=(df ((aF r).map (·.1))).length) 0 U sm) IR U dc U)<|bf 1 U<|RK BX<|WS fun _ B3=>rP 2 [] mn ?_
 refine cX (AV r kA kC cA cC bA bC slA slC drA drC heA heC f ((cN r).length) g G v (aF r) x (by exact C1) (by exact Ct (aR hx)) I) (bj [13,16]) U fun In KW=>?_
 obtain ⟨Fn,GT⟩:=In
 try dsimp only
 refine rP 2 [] mn ?_
 refine cX (AV (bT.mk r.ao r.aQ r.bQ r.iK (gP r.ay h i t)) L S M T N AA O V P W R X FS ((cN (jw r h i t)).length) Fd p s (aF (jw r h i t)) x (by exact C2) (by exact fun q=>by have:=LG E x; rw [q] at this; exact Ct (aR hx) (Option.not_isSome_iff_eq_none.1 (by rw [← this]; decide))) I) (bj [2,5]) U fun I0 K0=>?_
 obtain ⟨F0,GV⟩:=I0
 try dsimp only
 refine rS (CL (N4 (c_ (aF r) x (aA (aF r) x)) Fn GT (c_ (aF (jw r h i t)) x (aA (aF (jw r h i t)) x)) F0 GV (by exact Nat.le_trans wk I) (by exact Nat.le_trans wk I)) (aw (ai (n:=(c_ (aF r) x (aA (aF r) x)).length) 1 U sm)<|aw (ai (n:=(c_ (aF (jw r h i t)) x (aA (aF (jw r h i t)) x)).length) 0 U sm)<|aI) U)<|rP 1 [] mn ?_
 refine RK B3<|bL U (bq fun H=>?_) (bp fun H=>?_)
 ·refine b_<|aG<|KK b<|aj<|rP 1 [] mn ?_
  have Cx:(df ((aF r).map (·.1))).length≤5:=by rw [gf,List.length_map]; exact F
  refine rP 1 [] mn ?_
  refine aC ?_
  rw [show (((df ((aF r).map (·.1))).take k).filter (fun u=> !decide (c_ (aF r) u (aA (aF r) u)=c_ (aF (jw r h i t)) u (aA (aF (jw r h i t)) u))))=(((df ((aF r).map (·.1))).take (k+1)).filter (fun u=> !decide (c_ (aF r) u (aA (aF r) u)=c_ (aF (jw r h i t)) u (aA (aF (jw r h i t)) u)))) from (Fy hx (by simpa using H)).symm]
  have Ci:(vI (((k+1):Nat):Int))=(vI ((k:Int)+1)):=by exact cI I
  refine aS (Y ⟨((k+1),a,c),(by first|omega|(simp only []; omega))⟩ _ _ _ U (by first|omega|(dsimp only; omega)) (ct 5<|aX U Ci<|dh.nil _) (aH [2,3,4,5,6,7,8,9,10,11,12,13,14,15,16,17,18,19,20,21,22,23,24,25,26,27,28]))
 refine aj<|rP 2 [] mn ?_
 refine cY (xs:=[.tmp 62]) (cs:=[(vI x)]) U cp ja U U U U (by simp [Value.cells]) U U fun LA=>?_
 refine db (es2:=(List.map iC (((df ((aF r).map (·.1))).take (k+1)).filter (fun u=> !decide (c_ (aF r) u (aA (aF r) u)=c_ (aF (jw r h i t)) u (aA (aF (jw r h i t)) u)))))) (m':=(((df ((aF r).map (·.1))).take (k+1)).filter (fun u=> !decide (c_ (aF r) u (aA (aF r) u)=c_ (aF (jw r h i t)) u (aA (aF (jw r h i t)) u)))).length) 29 U U U p7 U U sm (aZ (es:=List.map iC [x]) 0 U U (by simp [bB]) U) (kf _) os (by simp only [maxLen]; first|omega|(simp; omega)) (by rw [x_ hx (by simpa using H)]; simp) (by rw [x_ hx (by simpa using H)]; simp) U fun F6 Go=>?_
 try dsimp only
 refine bf 1 U<|aC<|aG<|KK b<|aj<|rP 1 [] mn ?_
 have Cx:(df ((aF r).map (·.1))).length≤5:=by rw [gf,List.length_map]; exact F
 refine rP 1 [] mn ?_
 refine aC ?_
 have B9:(vI (((k+1):Nat):Int))=(vI ((k:Int)+1)):=by exact cI I
 refine aS (Y ⟨((k+1),F6,Go),(by first|omega|(simp only []; omega))⟩ _ _ _ U (by first|omega|(dsimp only; omega)) (ct 5<|aX U B9<|dh.nil _) (aH [3,4,5,6,7,8,9,10,11,12,13,14,15,16,17,18,19,20,21,22,23,24,25,26,27,28,29]))
end
section
open Go.RowKit
theorem lZ (x y:Int):
 dT Tryz.prog 18 [(vI x),(vI y)] [] (vA (aa.cells (aa.mk x y))):=by
 refine bx kr Tryz.func18 U U fun D Q hQ hN=>?_
 try dsimp only
 refine WS fun _ A=>AL U de fun C=>RK A<|WS fun _ B=>rP 2 [] mn ?_
 refine rS (SX (bh (xs:=[(0,.tmp 5),(1,.tmp 6)]) (cs:=(aa.cells (aa.mk x y))) U U (bg gp U)) U U)<|fP U cm U<|RK B<|an ?_
 exact Ik hQ [0] (mc 0 U mn) U U
theorem AS (x:Int):
 dT Tryz.prog 58 [(vI x)] [] (vA (cz.cells (cz.mk 0 (aa.mk x x)))):=by
 refine bx kr Tryz.func58 U U fun D Q hQ hN=>?_
 try dsimp only
 refine WS fun _ A=>AL U Bu fun C=>RK A<|WS fun _ B=>rP 2 [] mn ?_
 refine rS (CL (lZ x x) (aI) U)<|rS (SX (bh (xs:=[(1,.tmp 5)]) (cs:=(cz.cells (cz.mk 0 (aa.mk x x)))) U U (bg Rh U)) U U)<|fP U Kl U<|RK B<|an ?_
 exact Ik hQ [0] (mc 0 U mn) U U
theorem qJ (x y:Int):
 dT Tryz.prog 34 [(vI x),(vI y)] [] (vA (bk.cells (bk.mk false true (aa.mk x y) (eB.mk 0 0 (br.mk none 0 0))))):=by
 refine bx kr Tryz.func34 U U fun D Q hQ hN=>?_
 try dsimp only
 refine WS fun _ A=>AL U Of fun C=>RK A<|WS fun _ B=>rP 2 [] mn ?_
 refine rS (CL (lZ x y) (aI) U)<|rS (SX (bh (xs:=[(1,.const (vB true)),(2,.tmp 7)]) (cs:=(bk.cells (bk.mk false true (aa.mk x y) (eB.mk 0 0 (br.mk none 0 0))))) U U (bg Qh U)) U U)<|fP U QK U<|RK B<|an ?_
 exact Ik hQ [0] (mc 0 U mn) U U
theorem Ni:
 ly Tryz.prog 32 [] [] (fun (x:(OA)×Nat×(OA)×Nat×(List RA)×(OA)×Nat)=>(vA (ck.cells (ck.mk (bE.mk (br.mk x.1 aN.ao.aP.length x.2.1)) aN.ao.hE (br.mk x.2.2.1 aN.ao.ak.length x.2.2.2.1) (br.mk x.2.2.2.2.2.1 aN.ao.ae.length x.2.2.2.2.2.2) aN.ao.cJ aN.ao.eU aN.ao.cW)))) (fun (x:(OA)×Nat×(OA)×Nat×(List RA)×(OA)×Nat)=>x.2.2.2.2.1.length=aN.ao.ak.length∧er aN.ao x.2.2.2.2.1) (fun (x:(OA)×Nat×(OA)×Nat×(List RA)×(OA)×Nat)=>[(own x.1 x.2.1 114 9 (aN.ao.aP.map al.cells)),(own x.2.2.1 x.2.2.2.1 119 2 (List.zipWith ar.cells aN.ao.ak x.2.2.2.2.1)),(bw (aV ar.owns aN.ao.ak x.2.2.2.2.1)),(own x.2.2.2.2.2.1 x.2.2.2.2.2.2 121 4 (aN.ao.ae.map bD.cells))]):=by
 refine dj kr Tryz.func32 U U fun AA Q hQ hN=>?_
 try dsimp only
 refine WS fun _ E=>AL U Ue fun H=>RK E<|WS fun _ F=>bf 1 U<|RK F<|WS fun _ G=>rS (CL (lZ 10000 10200) (aI) U)<|rS (CL (lZ 0 100) (aI) U)<|rS (SX (bh (xs:=[(0,.const (vI 1)),(1,.tmp 2),(2,.tmp 3)]) (cs:=(al.cells (al.mk 1 (aa.mk 10000 10200) (aa.mk 0 100) (aa.mk 0 0) 0 0))) U U (bg RX U)) U U)<|cY (xs:=[.tmp 4]) (cs:=(al.cells (al.mk 1 (aa.mk 10000 10200) (aa.mk 0 100) (aa.mk 0 0) 0 0))) U yr Gi U U U U (by simp [Value.cells,al.aU]) U U fun B=>rS (SX (bh (xs:=[(0,.tmp 5)]) (cs:=(bE.cells (bE.mk (br.mk (some ⟨B,0,none⟩) 1 1)))) U U (bg Ua U)) U U)<|rS (CL (lZ 0 2) (aI) U)<|rS (SX (bh (xs:=[(0,.const (vI 0)),(1,.tmp 7)]) (cs:=(cx.cells (cx.mk 0 (aa.mk 0 2)))) U U (bg OT U)) U U)<|rS (CL (lZ 5 6) (aI) U)<|rS (SX (bh (xs:=[(0,.const (vI 100000)),(1,.tmp 9)]) (cs:=(cx.cells (cx.mk 100000 (aa.mk 5 6)))) U U (bg OT U)) U U)<|cY (xs:=[.tmp 8,.tmp 10]) (cs:=((cx.cells (cx.mk 0 (aa.mk 0 2)))++(cx.cells (cx.mk 100000 (aa.mk 5 6))))) U qh rM U U U U (by simp [Value.cells,cx.aU]) U U fun A=>rS (SX (bh (xs:=[(0,.const (vI 100)),(1,.tmp 11)]) (cs:=(dp.cells (dp.mk 100 (br.mk (some ⟨A,0,none⟩) 2 2)))) U U (bg TA U)) U U)<|cY (xs:=[.tmp 12]) (cs:=(dp.cells (dp.mk 100 (br.mk (some ⟨A,0,none⟩) 2 2)))) U AB LI U U U U (by simp [Value.cells,dp.aU]) U U fun C=>bf 1 U<|rS (CL (AS 1000) (aI) U)<|rS (SX (bh (xs:=[(0,.tmp 15)]) (cs:=(bD.cells (bD.mk (cz.mk 0 (aa.mk 1000 1000)) 0))) U U (bg Je U)) U U)<|bf 1 U<|rS (CL (AS 4000) (aI) U)<|rS (SX (bh (xs:=[(0,.tmp 18)]) (cs:=(bD.cells (bD.mk (cz.mk 0 (aa.mk 4000 4000)) 0))) U U (bg Je U)) U U)<|rP 1 [] mn ?_
 refine rS (CL (AS 9000) (aI) U)<|rS (SX (bh (xs:=[(0,.tmp 21)]) (cs:=(bD.cells (bD.mk (cz.mk 0 (aa.mk 9000 9000)) 0))) U U (bg Je U)) U U)<|cY (xs:=[.tmp 16,.tmp 19,.tmp 22]) (cs:=((bD.cells (bD.mk (cz.mk 0 (aa.mk 1000 1000)) 0))++(bD.cells (bD.mk (cz.mk 0 (aa.mk 4000 4000)) 0))++(bD.cells (bD.mk (cz.mk 0 (aa.mk 9000 9000)) 0)))) U vx SY U U U U (by simp [Value.cells,bD.aU]) U U fun D=>rS (SX (bh (xs:=[(0,.tmp 6),(1,.const (vI 2000)),(4,.const (vI 1)),(5,.const (vI 1)),(6,.const (vI 1)),(2,.tmp 13),(3,.tmp 23)]) (cs:=(ck.cells (ck.mk (bE.mk (br.mk (some ⟨B,0,none⟩) 1 1)) 2000 (br.mk (some ⟨C,0,none⟩) 1 1) (br.mk (some ⟨D,0,none⟩) 3 3) 1 1 1))) U U (bg U4 U)) U U) ?_
 refine dM (es:=(aN.ao.aP.map al.cells)) (C':=[_,_,_,(own (some ⟨B,0,none⟩) 1 114 9 (aN.ao.aP.map al.cells)),_]) 3 U (mX al.aU _) U (by show _≤maxLen; exact Nat.le_trans (m:=10) (show (1:Nat)≤10 by decide) dc) U ?_
 refine dM (es:=(yp.bo.map cx.cells)) (C':=[_,_,(own (some ⟨A,0,none⟩) 2 116 3 (yp.bo.map cx.cells)),_,_]) 2 U (mX cx.aU _) U (by show _≤maxLen; exact Nat.le_trans (m:=10) (show (2:Nat)≤10 by decide) dc) U ?_
 refine dM (es:=(List.zipWith ar.cells aN.ao.ak [((some ⟨A,0,none⟩),2)])) (C':=[_,(own (some ⟨C,0,none⟩) 1 119 2 (List.zipWith ar.cells aN.ao.ak [((some ⟨A,0,none⟩),2)])),_,_,_]) 1 U (by intro x hx; change x∈[ar.cells yp ((some ⟨A,0,none⟩),2)] at hx; rw [List.mem_singleton.1 hx]; rfl) U (by show _≤maxLen; exact Nat.le_trans (m:=10) (show (1:Nat)≤10 by decide) dc) U ?_
 refine dM (es:=(aN.ao.ae.map bD.cells)) (C':=[(own (some ⟨D,0,none⟩) 3 121 4 (aN.ao.ae.map bD.cells)),_,_,_,_]) 0 U (mX bD.aU _) U (by show _≤maxLen; exact Nat.le_trans (m:=10) (show (3:Nat)≤10 by decide) dc) U ?_
 refine x8<|OZ (X:=[]) (X':=aV ar.owns aN.ao.ak [((some ⟨A,0,none⟩),2)]) 0 3 U U U<|Ps U Ut U<|RK G<|an ?_
 refine LX hQ ((some ⟨B,0,none⟩),1,(some ⟨C,0,none⟩),1,[((some ⟨A,0,none⟩),2)],(some ⟨D,0,none⟩),3) [3,2,0,1] [0] (mc 4 U mn) U (by simp only [fz,List.all_nil,gh,Bool.and_true]; rfl) U U ?_
 exact ⟨U,Sg 1 dc⟩
theorem NF:
 ly Tryz.prog 33 [] [] (fun (x:(OA)×Nat)=>(vA (eB.cells (eB.mk mI.Start mI.fZ (br.mk x.1 mI.ag.length x.2))))) (fun (x:(OA)×Nat)=>True) (fun (x:(OA)×Nat)=>[(own x.1 x.2 123 2 (mI.ag.map aK.cells))]):=by
 refine dj kr Tryz.func33 U U fun E Q hQ hN=>?_
 try dsimp only
 refine WS fun _ B=>AL U Us fun D=>RK B<|WS fun _ C=>rS (SX (bh (xs:=[(0,.const (vI 0)),(1,.const (vI 10600))]) (cs:=(aK.cells (aK.mk 0 10600))) U U (bg Fc U)) U U)<|rS (SX (bh (xs:=[(0,.const (vI 0)),(1,.const (vI 11000))]) (cs:=(aK.cells (aK.mk 0 11000))) U U (bg Fc U)) U U)<|rS (SX (bh (xs:=[(0,.const (vI 1)),(1,.const (vI 12600))]) (cs:=(aK.cells (aK.mk 1 12600))) U U (bg Fc U)) U U)<|cY (xs:=[.tmp 1,.tmp 2,.tmp 3]) (cs:=((aK.cells (aK.mk 0 10600))++(aK.cells (aK.mk 0 11000))++(aK.cells (aK.mk 1 12600)))) U zY F7 U U U U (by simp [Value.cells,aK.aU]) U U fun A=>rS (SX (bh (xs:=[(0,.const (vI 10000)),(1,.const (vI 20000)),(2,.tmp 4)]) (cs:=(eB.cells (eB.mk 10000 20000 (br.mk (some ⟨A,0,none⟩) 3 3)))) U U (bg U8 U)) U U)<|dM (es:=(mI.ag.map aK.cells)) (C':=[(own (some ⟨A,0,none⟩) 3 123 2 (mI.ag.map aK.cells)),_]) 0 U (mX aK.aU _) U dc U<|ub U Up U<|RK C<|an<|LX hQ ((some ⟨A,0,none⟩),3) [0] [0] (mc 1 U mn) U U U U ?_
 trivial
end
section
open Go.RowKit
theorem jt:
 ly Tryz.prog 10 [] [] (fun (x:(OA)×Nat×(OA)×Nat×(List RA)×(OA)×Nat×(OA)×Nat×(OA)×Nat×(OA)×Nat×(List cO))=>(vA (cv.cells (cv.mk (ck.mk (bE.mk (br.mk x.1 aN.ao.aP.length x.2.1)) aN.ao.hE (br.mk x.2.2.1 aN.ao.ak.length x.2.2.2.1) (br.mk x.2.2.2.2.2.1 aN.ao.ae.length x.2.2.2.2.2.2.1) aN.ao.cJ aN.ao.eU aN.ao.cW) (br.mk x.2.2.2.2.2.2.2.1 aN.aQ.length x.2.2.2.2.2.2.2.2.1) (br.mk x.2.2.2.2.2.2.2.2.2.1 aN.bQ.length x.2.2.2.2.2.2.2.2.2.2.1) aN.iK (br.mk x.2.2.2.2.2.2.2.2.2.2.2.1 aN.ay.length x.2.2.2.2.2.2.2.2.2.2.2.2.1))))) (fun (x:(OA)×Nat×(OA)×Nat×(List RA)×(OA)×Nat×(OA)×Nat×(OA)×Nat×(OA)×Nat×(List cO))=>e9 aN x.2.2.2.2.1 x.2.2.2.2.2.2.2.2.2.2.2.2.2∧x.2.2.2.2.1.length=aN.ao.ak.length∧tM aN.ay x.2.2.2.2.2.2.2.2.2.2.2.2.2) (fun (x:(OA)×Nat×(OA)×Nat×(List RA)×(OA)×Nat×(OA)×Nat×(OA)×Nat×(OA)×Nat×(List cO))=>[(own x.1 x.2.1 114 9 (aN.ao.aP.map al.cells)),(own x.2.2.1 x.2.2.2.1 119 2 (List.zipWith ar.cells aN.ao.ak x.2.2.2.2.1)),(bw (aV ar.owns aN.ao.ak x.2.2.2.2.1)),(own x.2.2.2.2.2.1 x.2.2.2.2.2.2.1 121 4 (aN.ao.ae.map bD.cells)),(own x.2.2.2.2.2.2.2.1 x.2.2.2.2.2.2.2.2.1 3 1 (aN.aQ.map iC)),(own x.2.2.2.2.2.2.2.2.2.1 x.2.2.2.2.2.2.2.2.2.2.1 3 1 (aN.bQ.map iC)),(own x.2.2.2.2.2.2.2.2.2.2.2.1 x.2.2.2.2.2.2.2.2.2.2.2.2.1 46 1 (List.zipWith cP aN.ay x.2.2.2.2.2.2.2.2.2.2.2.2.2)),(bw (aV je aN.ay x.2.2.2.2.2.2.2.2.2.2.2.2.2))]):=by
 refine dj kr Tryz.func10 U U fun Y Q hQ hN=>?_
 try dsimp only
 refine WS fun _ P=>AL U CS fun X=>RK P<|WS fun _ R=>cX Ni (aI) U fun W T=>?_
 obtain ⟨J,M,K,N,L,E,F⟩:=W
 try dsimp only
 obtain ⟨S,O⟩:=T
 refine cY (xs:=[.const (vI 4),.const (vI 7),.const (vI 9)]) (cs:=[(vI 4),(vI 7),(vI 9)]) U cp ja U U U U (by simp [Value.cells]) U U fun G=>cY (xs:=[.const (vI 2),.const (vI 0),.const (vI 1)]) (cs:=[(vI 2),(vI 0),(vI 1)]) U cp ja U U U U (by simp [Value.cells]) U U fun H=>cX NF (aI) U fun AA V=>?_
 obtain ⟨A,B⟩:=AA
 try dsimp only
 refine rS (SX (bh (xs:=[(3,.tmp 4)]) (cs:=(bk.cells (bk.mk false false (aa.mk 0 0) (eB.mk mI.Start mI.fZ (br.mk A mI.ag.length B))))) U U (bg Qh U)) U U)<|rS (CL (qJ 2600 2600) (aI) U)<|rS (CL (qJ 2580 2609) (aI) U)<|cY (xs:=[.tmp 5,.tmp 6,.tmp 7]) (cs:=((bk.cells (bk.mk false false (aa.mk 0 0) (eB.mk mI.Start mI.fZ (br.mk A mI.ag.length B))))++(bk.cells (bk.mk false true (aa.mk 2600 2600) (eB.mk 0 0 (br.mk none 0 0))))++(bk.cells (bk.mk false true (aa.mk 2580 2609) (eB.mk 0 0 (br.mk none 0 0)))))) U wE Of U U U U (by simp [Value.cells,bk.aU]) U U fun C=>rS (CL (qJ 2555 2559) (aI) U)<|rS (CL (qJ 2540 2549) (aI) U)<|rS (CL (qJ 2570 2575) (aI) U)<|cY (xs:=[.tmp 9,.tmp 10,.tmp 11]) (cs:=((bk.cells (bk.mk false true (aa.mk 2555 2559) (eB.mk 0 0 (br.mk none 0 0))))++(bk.cells (bk.mk false true (aa.mk 2540 2549) (eB.mk 0 0 (br.mk none 0 0))))++(bk.cells (bk.mk false true (aa.mk 2570 2575) (eB.mk 0 0 (br.mk none 0 0)))))) U wE Of U U U U (by simp [Value.cells,bk.aU]) U U fun D=>cY (xs:=[.tmp 8,.tmp 12]) (cs:=[(vS (some ⟨C,0,none⟩) 3 3),(vS (some ⟨D,0,none⟩) 3 3)]) U rz UZ U U U U (by simp [Value.cells]) U U fun AB=>rS (SX (bh (xs:=[(0,.tmp 1),(1,.tmp 2),(2,.tmp 3),(3,.const (vI 2)),(4,.tmp 13)]) (cs:=(cv.cells (cv.mk (ck.mk (bE.mk (br.mk J aN.ao.aP.length M)) aN.ao.hE (br.mk K aN.ao.ak.length N) (br.mk E aN.ao.ae.length F) aN.ao.cJ aN.ao.eU aN.ao.cW) (br.mk (some ⟨G,0,none⟩) 3 3) (br.mk (some ⟨H,0,none⟩) 3 3) 2 (br.mk (some ⟨AB,0,none⟩) 2 2)))) U U (bg H2 U)) U U) ?_
 refine dM (es:=(aN.aQ.map iC)) (C':=[_,_,_,_,_,(own (some ⟨G,0,none⟩) 3 3 1 (aN.aQ.map iC)),_,_,_,_,_]) 5 U (mX bB _) U (by show _≤maxLen; exact Nat.le_trans (m:=10) (show (3:Nat)≤10 by decide) dc) U ?_
 refine dM (es:=(aN.bQ.map iC)) (C':=[_,_,_,_,(own (some ⟨H,0,none⟩) 3 3 1 (aN.bQ.map iC)),_,_,_,_,_,_]) 4 U (mX bB _) U (by show _≤maxLen; exact Nat.le_trans (m:=10) (show (3:Nat)≤10 by decide) dc) U ?_
 refine dM (es:=(List.zipWith ax.cells Re [(A,B),(none,0),(none,0)])) (C':=[_,_,(own (some ⟨C,0,none⟩) 3 45 7 (List.zipWith ax.cells Re [(A,B),(none,0),(none,0)])),_,_,_,_,_,_,_,_]) 2 U (oZ FD) U (by show _≤maxLen; exact Nat.le_trans (m:=10) (show (3:Nat)≤10 by decide) dc) U ?_
 refine dM (es:=(List.zipWith ax.cells Te [(none,0),(none,0),(none,0)])) (C':=[_,(own (some ⟨D,0,none⟩) 3 45 7 (List.zipWith ax.cells Te [(none,0),(none,0),(none,0)])),_,_,_,_,_,_,_,_,_]) 1 U (oZ FD) U (by show _≤maxLen; exact Nat.le_trans (m:=10) (show (3:Nat)≤10 by decide) dc) U ?_
 refine dM (es:=(List.zipWith cP aN.ay [(((some ⟨C,0,none⟩),3),[(A,B),(none,0),(none,0)]),(((some ⟨D,0,none⟩),3),[(none,0),(none,0),(none,0)])])) (C':=[(own (some ⟨AB,0,none⟩) 2 46 1 (List.zipWith cP aN.ay [(((some ⟨C,0,none⟩),3),[(A,B),(none,0),(none,0)]),(((some ⟨D,0,none⟩),3),[(none,0),(none,0),(none,0)])])),_,_,_,_,_,_,_,_,_,_]) 0 U (oZ KO) U (by show _≤maxLen; exact Nat.le_trans (m:=10) (show (2:Nat)≤10 by decide) dc) U ?_
 refine dH 123 2<|dH 123 2<|dH 123 2<|dH 123 2<|dH 123 2<|ur (aV je aN.ay [(((some ⟨C,0,none⟩),3),[(A,B),(none,0),(none,0)]),(((some ⟨D,0,none⟩),3),[(none,0),(none,0),(none,0)])]) [7,8,0,1,6,2,3,4] [5,9,10,11,12,13,14,15] U U<|VJ U tj U<|RK R<|an ?_
 refine LX hQ (J,M,K,N,L,E,F,(some ⟨G,0,none⟩),3,(some ⟨H,0,none⟩),3,(some ⟨AB,0,none⟩),2,[(((some ⟨C,0,none⟩),3),[(A,B),(none,0),(none,0)]),(((some ⟨D,0,none⟩),3),[(none,0),(none,0),(none,0)])]) [4,5,6,7,3,2,1,0] [0] (mc 8 U mn) U (by show List.all _ _=true; simp only [fz,List.all_nil,gh,kB,Bool.and_true]; rfl) U U ?_
 exact ⟨QQ O Jo,S,Jo⟩
end
section
open Go.RowKit
theorem O5 (i:Int) (r:bT) (kA:OA) (kC:Nat) (az:List RA) (cA:OA) (cC:Nat) (bA:OA) (bC:Nat) (slA:OA) (slC:Nat) (drA:OA) (drC:Nat) (ha:List cO) (heA:OA) (heC:Nat) (hin:e9 r az ha):
 dT Tryz.prog 13 [(vA (cv.cells (oH r kA kC cA cC bA bC slA slC drA drC heA heC))),(vI i)] [(rd eX 3 2 dW),(rd kA r.ao.aP.length 9 (r.ao.aP.map al.cells)),(rd cA r.ao.ak.length 2 (List.zipWith ar.cells r.ao.ak az)),(eW (aV ar.g0 r.ao.ak az)),(rd bA r.ao.ae.length 4 (r.ao.ae.map bD.cells)),(rd slA r.aQ.length 1 (r.aQ.map iC)),(rd drA r.bQ.length 1 (r.bQ.map iC)),(rd heA r.ay.length 1 (List.zipWith cP r.ay ha)),(eW (aV iu r.ay ha))] (vT [(vA (aa.cells (pD r i))),(vI (jS r i))]):=by
 have M:=hin.line
 have g:=hin.iO
 have h:=hin.has
 have W:=hin.iN
 have R:=hin.draw
 have X:=dA (r:=r)
 refine bx kr Tryz.func13 U U fun m Q hQ hN=>?_
 try dsimp only
 refine WS fun _ L=>fK U fun k=>AL U de fun l=>bf 1 U<|RK L<|WS fun _ G=>rP 2 [] (mc 1 U mn) ?_
 refine cY (xs:=[.tmp 11]) (cs:=[(vI i)]) U cp ja U U U U (by simp [Value.cells]) U U fun d=>cX (zI r kA kC az cA cC bA bC slA slC drA drC ha heA heC i d hin) (bj [3,4,5,6,7,8,9,10,11,0]) U fun j J=>?_
 obtain ⟨K,e,f,O,a,b,c,Y,Z⟩:=j
 cases K
 ·obtain ⟨H,he⟩:=J.2 rfl
  try dsimp only at H he
  subst H
  try dsimp only [cond_true,cond_false,List.cons_append,List.nil_append]
  refine bf 7 U<|RK G<|ah fun _ P=>WS fun _ B=>rP 2 [] mn ?_
  refine RK B<|bL U (bq fun A=>?_) (bp fun A=>?_)
  ·exact absurd A he
  refine WS fun _ C=>rS (SX (bh (xs:=[]) (cs:=(aa.cells (aa.mk 0 0))) U U (bg gp U)) U U)<|bf 1 U<|ub U cm U<|rP 1 [] mn ?_
  refine RK C<|an<|lj hQ [0] (mc 1 U mn) U ?_
  first|(rw [show pD r i=dv from if_neg he]; rfl)|(rw [he,show pD r i=aA _ _ from if_pos he]; done)
 obtain ⟨he,N⟩:=J.1 rfl
 try dsimp only [cond_true,cond_false,List.cons_append,List.nil_append]
 try dsimp only at N
 obtain ⟨AB,S,T⟩:=uP he
 have AA:=np AB
 have V:=mA AB
 refine bf 7 U<|RK G<|ah fun _ D=>WS fun _ E=>bf 1 U<|rS (SX (bU (r:= .bool false) U U U mz) U U)<|RK E<|aW U<|WK D<|WS fun _ F=>rP 1 [] mn ?_
 refine rS (IA 0 U (ai (n:=1) 4 U sq) jJ dc U I) ?_
 refine rS (oI 0 0 (aa.cells (aA (aF r) i)) U bX (ai (n:=([(aA (aF r) i)]).length) 4 U sm) (show ([(aA (aF r) i)].map aa.cells)[0]? =some [(vI ((aA (aF r) i).Lo)),(vI ((aA (aF r) i).Hi))] from U) U dc U U)<|O_ U cm U<|rP 1 [] mn ?_
 refine RK F<|an<|lj hQ [0] (mc 6 U mn) U ?_
 first|(rw [show pD r i=dv from if_neg he]; rfl)|(rw [he,show pD r i=aA _ _ from if_pos he]; done)
end
section
open Go.RowKit
theorem Ke (a b:Int) (m:gV) (gm g1:Nat) (hb: ∀ p∈m,0≤p.2.Lo∧p.2.Lo≤p.2.Hi∧p.2.Hi≤30000000):
 dT Tryz.prog 48 [(vI a),(vI b),(vP g1)] [(gW iV gm (bK dw m)),(bV g1 64 [(Value.map (some gm))])] (vI ((aA m a).Hi-(aA m b).Hi)):=by
 have A:=gJ (i:=a) hb
 have B:=gJ (i:=b) hb
 refine bx kr Tryz.func48 U U fun E Q hQ hN=>?_
 try dsimp only
 refine WS fun _ C=>bf 1 U<|RK C<|WS fun _ D=>fw 2 [] (mr 1 U mn) U<|rS (SX (jW (kV:=iV) (x:=a) (l:=m) (f:=dw) (z:=(aa.mk 0 0)) U U U mC (dC oJ) vy (by exact j_ 0 U)) U U)<|rS (SX (kP (v:=(vI (((List.lookup a m).getD (aa.mk 0 0)).Hi))) U U fu Ae U) U U)<|rP 2 [] (mr 1 U mn) ?_
 refine rS (SX (jW (kV:=iV) (x:=b) (l:=m) (f:=dw) (z:=(aa.mk 0 0)) U U U mC (dC oJ) vy (by exact j_ 0 U)) U U)<|rS (SX (kP (v:=(vI (((List.lookup b m).getD (aa.mk 0 0)).Hi))) U U fu Ae U) U U) ?_
 unfold aA at A B
 simp only [dv] at A B
 refine rP 2 [] mn ?_
 refine RK D<|an ?_
 exact Q1 hQ U U U U
theorem Ok (heatX:Int) (r:bT) (kA:OA) (kC:Nat) (az:List RA) (cA:OA) (cC:Nat) (bA:OA) (bC:Nat) (slA:OA) (slC:Nat) (drA:OA) (drC:Nat) (ha:List cO) (heA:OA) (heC:Nat) (hin:e9 r az ha):
 ly Tryz.prog 20 [(vA (cv.cells (oH r kA kC cA cC bA bC slA slC drA drC heA heC))),(vI heatX)] [(rd eX 3 2 dW),(rd kA r.ao.aP.length 9 (r.ao.aP.map al.cells)),(rd cA r.ao.ak.length 2 (List.zipWith ar.cells r.ao.ak az)),(eW (aV ar.g0 r.ao.ak az)),(rd bA r.ao.ae.length 4 (r.ao.ae.map bD.cells)),(rd slA r.aQ.length 1 (r.aQ.map iC)),(rd drA r.bQ.length 1 (r.bQ.map iC)),(rd heA r.ay.length 1 (List.zipWith cP r.ay ha)),(eW (aV iu r.ay ha))] (fun (x:(OA)×Nat)=>(vT [(vS x.1 ((g5 r heatX).length) x.2),(vI (iI r heatX))])) (fun (x:(OA)×Nat)=>True) (fun (x:(OA)×Nat)=>[(own x.1 x.2 3 1 ((g5 r heatX).map iC))]):=by
 have Ck:=hin.line
 have Go:=hin.iO
 have H1:=hin.has
 have EQ:=hin.iN
 have Ay:=hin.draw
 have A2:=dA (r:=r)
 refine dj kr Tryz.func20 U U fun w0 Q hQ hN=>?_
 try dsimp only
 refine WS fun _ Ci=>fK U fun b2=>bf 2 U<|RK Ci<|Ac U<|WS fun _ e=>rP 1 [] (mc 0 U mn) ?_
 refine cX (og r kA kC az cA cC bA bC slA slC drA drC ha heA heC hin) (bj [1,2,3,4,5,6,7,8,9]) U fun y4 A3=>?_
 obtain ⟨A4,GE,B3,BX,C1,A5,A6⟩:=y4
 cases A4
 ·obtain ⟨A0,he⟩:=A3.2 rfl
  try dsimp only at A0 he
  subst A0
  try dsimp only [cond_true,cond_false,List.cons_append,List.nil_append]
  refine bf 5 U<|RK e<|ah fun _ Dr=>WS fun _ R=>rP 2 [] mn ?_
  refine RK R<|bL U (bq fun P=>?_) (bp fun P=>?_)
  ·exact absurd P he
  refine WS fun _ S=>rP 1 [] mn ?_
  have A:iI r heatX=cK r:=EP he
  have B:g5 r heatX=[]:=yP (by rw [A]; exact he)
  refine dH 3 1 ?_
  rw [show (own none 0 3 1 ([]:List (List Value)))=own none 0 3 1 ((g5 r heatX).map iC) from by rw [B]; rfl]
  refine rP 2 [] mn ?_
  refine RK S<|an ?_
  refine LX hQ (none,0) [0] [] mn U U U ?_ ?_
  ·first|rfl|(rw [A,B]; rfl)|(rw [A]; rfl)|(rw [A,B,j3]; rfl)
  ·trivial
 obtain ⟨he,Cx⟩:=A3.1 rfl
 try dsimp only [cond_true,cond_false,List.cons_append,List.nil_append]
 have G:=(iG he).2
 have IO:=G.xo
 have GV:=G.yo
 refine bf 5 U<|RK e<|ah fun _ T=>WS fun _ AA=>bf 1 U<|rS (SX (bU (r:= .bool false) U U U mz) U U)<|RK AA<|aW U<|WK T<|ah fun _ V=>WS fun _ W=>rP 4 [] (mc 4 U mn) ?_
 refine cY (xs:=[.tmp 25]) (cs:=[(vI heatX)]) U cp ja U U U U (by simp [Value.cells]) U U fun A8=>?_
 refine rS (CL (dT.eq (j4 0 (r.ay.length:Int) ([heatX]) (some ⟨A8,0,none⟩) 1 sd) cS) (aw (aZ 0 U U (by simp [bB]) U)<|aI) U) ?_
 refine rP 1 [] mn ?_
 refine RK W<|cy U (bp fun B7=>?_) (bq fun B7=>?_)
 ·refine WS fun _ X=>?_
  have A:iI r heatX=2:=E8 he I
  have B:g5 r heatX=[]:=yP (by rw [A]; decide)
  refine dH 3 1 ?_
  rw [show (own none 0 3 1 ([]:List (List Value)))=own none 0 3 1 ((g5 r heatX).map iC) from by rw [B]; rfl]
  refine rP 2 [] mn ?_
  refine RK X<|an ?_
  refine LX hQ (none,0) [0] [] mn U U U ?_ ?_
  ·first|rfl|(rw [A,B]; rfl)|(rw [A]; rfl)|(rw [A,B,j3]; rfl)
  ·trivial
 refine WK V<|ah fun _ Y=>WS fun _ Z=>rP 2 [] mn ?_
 refine RK Z<|cy U (aM fun D=>?_) (aL fun D=>?_)
 ·refine WS fun _ b=>rP 2 [] (mc 5 U mn) ?_
  refine cX (vW r.bQ drA drC sd) (bj [12]) U fun Di Eq=>?_
  obtain ⟨N,O⟩:=Di
  try dsimp only
  have A:iI r heatX=0:=yD he I
  have B:g5 r heatX=r.bQ:=vu A D
  rw [show (own N O 3 1 (r.bQ.map iC))=(own N O 3 1 ((g5 r heatX).map iC)) from by rw [vu A D]]
  refine rP 2 [] mn ?_
  refine RK b<|an ?_
  refine LX hQ (N,O) [0] [] mn U U U ?_ ?_
  ·first|rfl|(rw [A,B]; rfl)|(rw [A]; rfl)|(rw [A,B,j3]; rfl)
  ·trivial
 refine WK Y<|WS fun _ d=>?_
 obtain ⟨n,rfl⟩: ∃ n:Nat,heatX=(n:Int):=⟨heatX.toNat,I⟩
 refine rP 2 [] mn ?_
 refine cX (O3 r kA kC az cA cC bA bC slA slC drA drC ha heA heC A6 C1 A5 (Value.map (some BX)) B3 n hin I sd (by exact G.AK)) (lM [7,8,9,10,11,12,13,14]<|aw (ai (n:=(cN r).length) 2 U (mW (by rw [A2]; exact Cx)))<|aw (cL 3 U tn)<|fD 1 U U<|aI) U fun C FS=>?_
 try dsimp only
 refine AL U SR fun AB=>G1 U NY U U<|RK d<|WS fun _ g=>bf 1 U<|RK g<|ah fun _ h=>zV<|KK h<|ah fun _ j=>WS fun _ k=>rP 4 [] (mc 7 U mn) ?_
 refine RK k<|av<|fQ 3 1 ?_
 have F:(0≤r.bQ.length):=by exact Nat.zero_le _
 refine bH (ι:={z:Nat×(OA)×Nat // (z.1≤r.bQ.length)}) [1,2,6,8,38,39] [1,2,5,6,7,8,9,10,11,12,13,14,15,16,17] U U (fun z=>[(9,(vS z.1.2.1 (((r.bQ.take z.1.1).filter fun u=>(List.lookup u (eG r n)).isSome).length) z.1.2.2)),(40,(vI (z.1.1:Int)))]) (fun z=>[(own z.1.2.1 z.1.2.2 3 1 (((r.bQ.take z.1.1).filter fun u=>(List.lookup u (eG r n)).isSome).map iC))]) (fun _=>rfl) (fun _=>rfl) (fun z=>r.bQ.length-z.1.1) ⟨(0,none,0),F⟩ (aT U) (aH [1,2,5,6,7,8,9,10,11,12,13,14,15,16,17,0]) ?_
 clear F
 rintro ⟨⟨i,a,c⟩,K⟩ J38 L
 try dsimp only at K
 try dsimp only
 refine WS fun _ m=>rP 1 [] mn ?_
 refine RK m<|ah fun _ o=>bL U (aL fun B9=>?_) (aM fun B9=>?_)
 ·refine bu<|ab<|ab<|au<|KK j<|ah fun _ v=>?_
  rw [show r.bQ.take i=r.bQ from List.take_of_length_le I]
  refine aj<|rP 1 [] mn ?_
  have Cp:=Fu he (show n≤r.ay.length by omega)
  have A1:=Nat.le_trans (List.length_filter_le (fun u=>(List.lookup u (eG r n)).isSome) r.bQ) Ay
  have GT:(ep (fun u=>(aA (eG r n) u).Hi) (r.bQ.filter fun u=>(List.lookup u (eG r n)).isSome)).length≤12:=by rw [kp]; exact A1
  refine rS (FU U) ?_
  refine cX (zj (r.bQ.filter fun u=>(List.lookup u (eG r n)).isSome) a c (Value.func (.func 48) [].toArray [(vP AB)].toArray) (fun u=>(aA (eG r n) u).Hi) (eW [(gW iV C (bK dw (eG r n))),(bV AB 64 [(Value.map (some C))])]) (by intro C2 C3 _; exact nj (fi:=[]) (ca:=[(vP AB)]) (l3 (Ke C2 C3 (eG r n) C AB (by first|assumption|omega)) (bj [0,1]))) (by exact TB Cp) (by exact A1)) (aw (ai (n:=(r.bQ.filter fun u=>(List.lookup u (eG r n)).isSome).length) 15 U sm)<|aw (l6 (bj [1,0]))<|aI) U fun Do Fd=>?_
  obtain ⟨H,J⟩:=Do
  try dsimp only
  refine bf 1 U<|RK v<|WS fun _ w=>rP 5 [] (mc 6 U mn) ?_
  refine rS (MN U)<|IE 0 U fun An=>?_
  simp only [List.length_map] at An
  refine rS (UT (((min r.iK (((ep (fun u=>(aA (eG r n) u).Hi) (r.bQ.filter fun u=>(List.lookup u (eG r n)).isSome)).length:Nat):Int))).toNat) U cp I (by first|omega|exact Nat.zero_le _|(simp; omega))) ?_
  refine iP 0 U U U U (H6 (ep (fun u=>(aA (eG r n) u).Hi) (r.bQ.filter fun u=>(List.lookup u (eG r n)).isSome)) H J (((min r.iK (((ep (fun u=>(aA (eG r n) u).Hi) (r.bQ.filter fun u=>(List.lookup u (eG r n)).isSome)).length:Nat):Int))).toNat) I I) U kd U (fun Id Fn=>?_)
  try dsimp only
  refine RK w<|WS fun _ y=>rP 1 [] mn ?_
  have A:iI r (n:Int)=0:=yD he I
  have B:g5 r (n:Int)=(rH (((min r.iK (((ep (fun u=>(aA (eG r n) u).Hi) (r.bQ.filter fun u=>(List.lookup u (eG r n)).isSome)).length:Nat):Int))).toNat) (ep (fun u=>(aA (eG r n) u).Hi) (r.bQ.filter fun u=>(List.lookup u (eG r n)).isSome))):=by rw [vw A D]; exact (yV rfl I).symm
  rw [show (own H J 3 1 ((rH (((min r.iK (((ep (fun u=>(aA (eG r n) u).Hi) (r.bQ.filter fun u=>(List.lookup u (eG r n)).isSome)).length:Nat):Int))).toNat) (ep (fun u=>(aA (eG r n) u).Hi) (r.bQ.filter fun u=>(List.lookup u (eG r n)).isSome))).map iC))=(own H J 3 1 ((g5 r (n:Int)).map iC)) from by rw [vw A D]; exact congrArg (fun z=>own _ _ _ _ (List.map iC z)) (yV rfl I)]
  refine rP 2 [] mn ?_
  refine RK y<|an ?_
  refine LX hQ (H,J) [0] [] mn U U U ?_ ?_
  ·first|rfl|(rw [A,B]; rfl)|(rw [A]; rfl)|(rw [A,B,j3]; rfl)
  ·trivial
 refine WK o<|ah fun _ M=>av<|WS fun _ p=>?_
 obtain ⟨x,hx⟩:=aJ r.bQ i I
 have C0:=bG iC hx
 refine rS (IA i U (aD 12 U) cp dc I I)<|rS (fV i 0 (vI x) U bX (aD 12 U) C0 U dc U)<|bf 1 U<|RK p<|ah fun _ q=>WS fun _ s=>fw 2 [] (mc 0 U mn) U<|rS (SX (jN (kV:=iV) (x:=x) (l:=(eG r n)) (f:=dw) (z:=(aa.mk 0 0)) U U U mC (dC oJ) vy (by exact aD 1 U)) U U)<|bf 3 U<|AL U de fun F0=>fP U cm U<|bf 1 U<|RK s<|WS fun _ t=>rP 2 [] mn ?_
 refine RK t<|cy U (fun E=>?_) (fun E=>?_)
 ·rw [Bool.not_eq_true'] at E
  refine bu<|ab<|au<|KK M<|aj<|rP 2 [] mn ?_
  refine aC ?_
  rw [show ((r.bQ.take i).filter fun u=>(List.lookup u (eG r n)).isSome)=((r.bQ.take (i+1)).filter fun u=>(List.lookup u (eG r n)).isSome) from (Fy hx E).symm]
  have AC:(vI (((i+1):Nat):Int))=(vI ((i:Int)+1)):=by exact cI I
  refine aS (L ⟨((i+1),a,c),(by first|omega|(simp only []; omega))⟩ _ _ _ U os (ct 7<|aX U AC<|dh.nil _) (aH [1,2,3,4,5,6,7,8,9,10,11,12,13,14,15,16]))
 rw [Bool.not_eq_false'] at E
 refine WK q<|aj<|rP 2 [] mn ?_
 refine cY (xs:=[.tmp 53]) (cs:=[(vI x)]) U cp ja U U U U (by simp [Value.cells]) U U fun F6=>?_
 refine db (es2:=(List.map iC ((r.bQ.take (i+1)).filter fun u=>(List.lookup u (eG r n)).isSome))) (m':=((r.bQ.take (i+1)).filter fun u=>(List.lookup u (eG r n)).isSome).length) 17 U U U p7 U U sm (aZ (es:=List.map iC [x]) 0 U U (by simp [bB]) U) (kf _) (by have:=List.length_filter_le (fun u=>(List.lookup u (eG r n)).isSome) (r.bQ.take i); rw [List.length_take] at this; first|omega|(simp; omega)) (by have:=List.length_filter_le (fun u=>(List.lookup u (eG r n)).isSome) (r.bQ.take i); rw [List.length_take] at this; simp only [maxLen]; first|omega|(simp; omega)) (by rw [x_ hx E]; simp) sm U fun A7 A9=>?_
 try dsimp only
 refine bf 1 U<|aC<|aG<|KK M<|aj<|rP 2 [] mn ?_
 refine aC ?_
 have AO:(vI (((i+1):Nat):Int))=(vI ((i:Int)+1)):=by exact cI I
 refine aS (L ⟨((i+1),A7,A9),(by first|omega|(simp only []; omega))⟩ _ _ _ U os (ct 7<|aX U AO<|dh.nil _) (aH [2,3,4,5,6,7,8,9,10,11,12,13,14,15,16,17]))
end
section
open Go.RowKit
theorem yT (i lo hi:Int) (r:bT) (kA:OA) (kC:Nat) (az:List RA) (cA:OA) (cC:Nat) (bA:OA) (bC:Nat) (slA:OA) (slC:Nat) (drA:OA) (drC:Nat) (ha:List cO) (heA:OA) (heC:Nat) (hin:e9 r az ha):
 dT Tryz.prog 9 [(vA (cv.cells (oH r kA kC cA cC bA bC slA slC drA drC heA heC))),(vI i),(vI lo),(vI hi)] [(rd eX 3 2 dW),(rd kA r.ao.aP.length 9 (r.ao.aP.map al.cells)),(rd cA r.ao.ak.length 2 (List.zipWith ar.cells r.ao.ak az)),(eW (aV ar.g0 r.ao.ak az)),(rd bA r.ao.ae.length 4 (r.ao.ae.map bD.cells)),(rd slA r.aQ.length 1 (r.aQ.map iC)),(rd drA r.bQ.length 1 (r.bQ.map iC)),(rd heA r.ay.length 1 (List.zipWith cP r.ay ha)),(eW (aV iu r.ay ha))] (vB (decide (jS r i=0∧pD r i=aa.mk lo hi))):=by
 have E:=hin.line
 have AA:=hin.iO
 have J:=hin.has
 have G:=hin.iN
 have F:=hin.draw
 have H:=dA (r:=r)
 refine bx kr Tryz.func9 U U fun M Q hQ hN=>?_
 try dsimp only
 refine WS fun _ C=>fK U fun K=>bf 1 U<|RK C<|WS fun _ D=>fw 2 [] (mc 0 U mn) U<|rS (CL (O5 i r kA kC az cA cC bA bC slA slC drA drC ha heA heC hin) (bj [1,2,3,4,5,6,7,8,9]) U)<|bf 3 U<|AL U de fun L=>fP U cm U<|bf 1 U<|RK D<|ah fun _ B=>dB cu 10 kr<|dP 3 [] mn ?_
 refine jo (t:=19) U (aL fun A=>?_) (aM fun A=>?_)
 ·refine dP 7 [] mn ?_
  refine cM<|RK B<|an<|Q1 hQ U U U ?_
  first|exact cB (cf fun q=>A q.1).symm|exact cB (decide_eq_decide.2 ⟨fun q=>⟨A,q⟩,fun q=>q.2⟩)
 refine mL 3 [] (mc 0 U mn) U<|dS (CL (lZ lo hi) (aI) U)<|dS (BI U (s8 _ _ (pD r i) (aa.mk lo hi)))<|dP 2 [] mn ?_
 refine cM<|RK B<|an<|Q1 hQ U U U ?_
 first|exact cB (cf fun q=>A q.1).symm|exact cB (decide_eq_decide.2 ⟨fun q=>⟨A,q⟩,fun q=>q.2⟩)
theorem yC (i:Int) (want:List Int) (wantA:OA) (wantC:Nat) (r:bT) (kA:OA) (kC:Nat) (az:List RA) (cA:OA) (cC:Nat) (bA:OA) (bC:Nat) (slA:OA) (slC:Nat) (drA:OA) (drC:Nat) (ha:List cO) (heA:OA) (heC:Nat) (hin:e9 r az ha) (hwl:want.length≤12):
 dT Tryz.prog 11 [(vA (cv.cells (oH r kA kC cA cC bA bC slA slC drA drC heA heC))),(vI i),(vS wantA want.length wantC)] [(rd wantA want.length 1 (want.map iC)),(rd eX 3 2 dW),(rd kA r.ao.aP.length 9 (r.ao.aP.map al.cells)),(rd cA r.ao.ak.length 2 (List.zipWith ar.cells r.ao.ak az)),(eW (aV ar.g0 r.ao.ak az)),(rd bA r.ao.ae.length 4 (r.ao.ae.map bD.cells)),(rd slA r.aQ.length 1 (r.aQ.map iC)),(rd drA r.bQ.length 1 (r.bQ.map iC)),(rd heA r.ay.length 1 (List.zipWith cP r.ay ha)),(eW (aV iu r.ay ha))] (vB (decide (jS r i=0∧gL r i=want))):=by
 have E:=hin.line
 have K:=hin.iO
 have L:=hin.has
 have G:=hin.iN
 have F:=hin.draw
 have H:=dA (r:=r)
 have M:=DA (r:=r) (i:=i)
 refine bx kr Tryz.func11 U U fun R Q hQ hN=>?_
 try dsimp only
 refine WS fun _ C=>fK U fun P=>bf 1 U<|RK C<|WS fun _ D=>rP 2 [] (mc 0 U mn) ?_
 refine cX (Oz i r kA kC az cA cC bA bC slA slC drA drC ha heA heC hin) (bj [2,3,4,5,6,7,8,9,10]) U fun O N=>?_
 obtain ⟨AA,J⟩:=O
 try dsimp only
 refine bf 5 U<|RK D<|WS fun _ B=>rP 3 [] mn ?_
 refine bZ (t:=17) U (aL fun A=>?_) (aM fun A=>?_)
 ·refine rP 5 [] mn ?_
  refine RK B<|an<|Q1 hQ U U U ?_
  first|exact cB (cf fun q=>A q.1).symm|exact cB (decide_eq_decide.2 ⟨fun q=>⟨A,q⟩,fun q=>q.2⟩)
 refine bf 2 U<|rS (CL (oe (gL r i) AA J want wantA wantC I I) (aw (ai (n:=(gL r i).length) 0 U sm)<|fD 2 U U<|aI) U)<|rP 2 [] mn ?_
 refine RK B<|an<|Q1 hQ U U U ?_
 first|exact cB (cf fun q=>A q.1).symm|exact cB (decide_eq_decide.2 ⟨fun q=>⟨A,q⟩,fun q=>q.2⟩)
theorem yB (heatX:Int) (want:List Int) (wantA:OA) (wantC:Nat) (hwl:want.length≤12):
 dT Tryz.prog 8 [(vI heatX),(vS wantA want.length wantC)] [(rd eX 3 2 dW),(rd wantA want.length 1 (want.map iC))] (vB (decide (iI aN heatX=0∧g5 aN heatX=want))):=by
 have b:=EB (r:=aN) (h:=heatX) dc
 refine bx kr Tryz.func8 U U fun d Q hQ hN=>?_
 try dsimp only
 refine WS fun _ V=>rP 1 [] mn ?_
 refine RK V<|WS fun _ W=>cX jt (aI) U fun c Y=>?_
 obtain ⟨N,S,P,AA,R,C,G,D,H,E,AB,F,J,M⟩:=c
 try dsimp only
 obtain ⟨L,X,K⟩:=Y
 refine rP 1 [] mn ?_
 refine cX (Ok heatX aN N S R P AA C G D H E AB M F J (by exact L)) (fD 8 U U<|aw (ai (n:=aN.ao.aP.length) 0 U sm)<|aw (ai (n:=aN.ao.ak.length) 1 U (g7 X))<|aw (cL 2 U iW)<|aw (ai (n:=aN.ao.ae.length) 3 U sm)<|aw (ai (n:=aN.aQ.length) 4 U sm)<|aw (ai (n:=aN.bQ.length) 5 U sm)<|aw (ai (n:=aN.ay.length) 6 U (fg K.1))<|aw (hP 7 U K)<|aI) U fun Z a=>?_
 obtain ⟨O,T⟩:=Z
 try dsimp only
 refine bf 5 U<|RK W<|WS fun _ B=>rP 3 [] mn ?_
 refine bZ (t:=15) U (aL fun A=>?_) (aM fun A=>?_)
 ·refine rP 5 [] mn ?_
  refine RK B<|an<|Q1 hQ U U U ?_
  first|exact cB (cf fun q=>A q.1).symm|exact cB (decide_eq_decide.2 ⟨fun q=>⟨A,q⟩,fun q=>q.2⟩)
 refine bf 2 U<|rS (CL (oe (g5 aN heatX) O T want wantA wantC I I) (aw (ai (n:=(g5 aN heatX).length) 0 U sm)<|fD 10 U U<|aI) U)<|rP 2 [] mn ?_
 refine RK B<|an<|Q1 hQ U U U ?_
 first|exact cB (cf fun q=>A q.1).symm|exact cB (decide_eq_decide.2 ⟨fun q=>⟨A,q⟩,fun q=>q.2⟩)
theorem C4 (a b:Int) (x y:Int):
 dT Tryz.prog 12 [(vI a),(vI b),(Value.int .u8 x),(Value.int .u8 y)] [(rd eX 3 2 dW)] (vB (decide (((mq aN a b=0∧oB aN a b=x)∧mq aN a b=0)∧pU aN a b=y))):=by
 refine bx kr Tryz.func12 U U fun w Q hQ hN=>?_
 try dsimp only
 refine WS fun _ p=>rP 1 [] mn ?_
 refine RK p<|WS fun _ r=>cX jt (aI) U fun v s=>?_
 obtain ⟨j,m,k,o,l,J,V,L,X,N,Z,P,d,h⟩:=v
 try dsimp only
 obtain ⟨F,G,E⟩:=s
 refine bf 2 U<|rS (CL (ti a b aN j m l k o J V L X N Z h P d (by exact F)) (fD 8 U U<|aw (ai (n:=aN.ao.aP.length) 0 U sm)<|aw (ai (n:=aN.ao.ak.length) 1 U (g7 G))<|aw (cL 2 U iW)<|aw (ai (n:=aN.ao.ae.length) 3 U sm)<|aw (ai (n:=aN.aQ.length) 4 U sm)<|aw (ai (n:=aN.bQ.length) 5 U sm)<|aw (ai (n:=aN.ay.length) 6 U (fg E.1))<|aw (hP 7 U E)<|aI) U)<|qF [8] U U<|rP 5 [] mn ?_
 refine RK r<|WS fun _ f=>cX jt (aI) U fun u g=>?_
 obtain ⟨H,T,AB,AA,S,K,W,M,Y,O,c,R,e,i⟩:=u
 try dsimp only
 obtain ⟨F,G,E⟩:=g
 refine bf 2 U<|rS (CL (QP a b aN H T S AB AA K W M Y O c i R e (by exact F)) (fD 8 U U<|aw (ai (n:=aN.ao.aP.length) 0 U sm)<|aw (ai (n:=aN.ao.ak.length) 1 U (g7 G))<|aw (cL 2 U iW)<|aw (ai (n:=aN.ao.ae.length) 3 U sm)<|aw (ai (n:=aN.aQ.length) 4 U sm)<|aw (ai (n:=aN.bQ.length) 5 U sm)<|aw (ai (n:=aN.ay.length) 6 U (fg E.1))<|aw (hP 7 U E)<|aI) U)<|bf 5 U<|RK f<|WS fun _ D=>rP 3 [] mn ?_
 refine bZ (t:=29) U (aL fun A=>?_) (aM fun A=>?_)
 ·refine rP 14 [] mn ?_
  refine RK D<|an<|Q1 hQ U U U ?_
  first|exact cB (cf fun q=>A q.1.1.1).symm|exact cB (cf fun q=>B q.1.1.2).symm|exact cB (cf fun q=>C q.1.2).symm|exact cB (decide_eq_decide.2 ⟨fun q=>⟨⟨⟨A,B⟩,C⟩,q⟩,fun q=>q.2⟩)
 refine bf 2 U<|rS (BI U lu)<|rP 2 [] mn ?_
 refine bZ (t:=34) U (aL fun B=>?_) (aM fun B=>?_)
 ·refine rP 9 [] mn ?_
  refine RK D<|an<|Q1 hQ U U U ?_
  first|exact cB (cf fun q=>A q.1.1.1).symm|exact cB (cf fun q=>B q.1.1.2).symm|exact cB (cf fun q=>C q.1.2).symm|exact cB (decide_eq_decide.2 ⟨fun q=>⟨⟨⟨A,B⟩,C⟩,q⟩,fun q=>q.2⟩)
 refine rP 4 [] mn ?_
 refine bZ (t:=38) U (aL fun C=>?_) (aM fun C=>?_)
 ·refine rP 5 [] mn ?_
  refine RK D<|an<|Q1 hQ U U U ?_
  first|exact cB (cf fun q=>A q.1.1.1).symm|exact cB (cf fun q=>B q.1.1.2).symm|exact cB (cf fun q=>C q.1.2).symm|exact cB (decide_eq_decide.2 ⟨fun q=>⟨⟨⟨A,B⟩,C⟩,q⟩,fun q=>q.2⟩)
 refine bf 2 U<|rS (BI U lu)<|rP 2 [] mn ?_
 refine RK D<|an<|Q1 hQ U U U ?_
 first|exact cB (cf fun q=>A q.1.1.1).symm|exact cB (cf fun q=>B q.1.1.2).symm|exact cB (cf fun q=>C q.1.2).symm|exact cB (decide_eq_decide.2 ⟨fun q=>⟨⟨⟨A,B⟩,C⟩,q⟩,fun q=>q.2⟩)
end
section
open Go.RowKit
theorem Mg:
 dT Tryz.prog 7 [] [(rd eX 3 2 dW)] (vB true):=by
 have FS:=qf (r:=aN)
 have C1:=qf (r:=k8)
 have Y6:=BD (r:=aN) (h:=0) (i:=2) (t:=aa.mk 2590 2599)
 have Y5:aN.aQ.length=3:=rfl
 refine bx kr Tryz.func7 U U fun w0 Q hQ hN=>?_
 try dsimp only
 refine WS fun _ Yu=>rP 1 [] mn ?_
 refine RK Yu<|WS fun _ Yv=>cX jt (aI) U fun y3 Yx=>?_
 obtain ⟨Yp,Ys,Yq,Yt,Yr,XM,X5,XQ,X9,XV,YC,XZ,YG,Ye⟩:=y3
 try dsimp only
 obtain ⟨A,F,B⟩:=Yx
 refine rS (CL (PG 0 0 aN Yp Ys Yr Yq Yt XM X5 XQ X9 XV YC Ye XZ YG (by exact A)) (fD 8 U U<|aw (ai (n:=aN.ao.aP.length) 0 U sm)<|aw (ai (n:=aN.ao.ak.length) 1 U (g7 F))<|aw (cL 2 U iW)<|aw (ai (n:=aN.ao.ae.length) 3 U sm)<|aw (ai (n:=aN.aQ.length) 4 U sm)<|aw (ai (n:=aN.bQ.length) 5 U sm)<|aw (ai (n:=aN.ay.length) 6 U (fg B.1))<|aw (hP 7 U B)<|aI) U)<|bf 1 U<|qF [8] U U<|bf 2 U<|AL U de fun C3=>fP U cm U<|rP 1 [] mn ?_
 refine RK Yv<|WS fun _ YS=>cX jt (aI) U fun Yy YZ=>?_
 obtain ⟨XG,Xz,XJ,X2,Xw,XN,X6,XR,X_,XW,YD,Xa,YH,Yf⟩:=Yy
 try dsimp only
 obtain ⟨A,F,B⟩:=YZ
 refine cX (zS aN XG Xz Xw XJ X2 XN X6 XR X_ XW YD Yf Xa YH (by exact A)) (fD 9 U U<|aw (ai (n:=aN.ao.aP.length) 0 U sm)<|aw (ai (n:=aN.ao.ak.length) 1 U (g7 F))<|aw (cL 2 U iW)<|aw (ai (n:=aN.ao.ae.length) 3 U sm)<|aw (ai (n:=aN.aQ.length) 4 U sm)<|aw (ai (n:=aN.bQ.length) 5 U sm)<|aw (ai (n:=aN.ay.length) 6 U (fg B.1))<|aw (hP 7 U B)<|aI) U fun Yz Ya=>?_
 obtain ⟨a,B7,B9⟩:=Yz
 try dsimp only
 have W4:=Ya
 have H1:=W4
 refine bf 1 U<|qF [0,1,10,11] U U<|rP 4 [] mn ?_
 refine RK YS<|WS fun _ YT=>cX jt (aI) U fun Y0 Yb=>?_
 obtain ⟨XH,X0,XK,X3,Xx,XO,X7,XS,YA,XX,YE,Xb,YI,Yg⟩:=Y0
 try dsimp only
 obtain ⟨A,F,B⟩:=Yb
 refine rS (CL (lZ 2590 2599) (aI) U)<|cX (Mo 0 2 (aa.mk 2590 2599) aN XH X0 Xx XK X3 XO X7 XS YA XX YE Yg Xb YI (by exact A)) (fD 11 U U<|aw (ai (n:=aN.ao.aP.length) 0 U sm)<|aw (ai (n:=aN.ao.ak.length) 1 U (g7 F))<|aw (cL 2 U iW)<|aw (ai (n:=aN.ao.ae.length) 3 U sm)<|aw (ai (n:=aN.aQ.length) 4 U sm)<|aw (ai (n:=aN.bQ.length) 5 U sm)<|aw (ai (n:=aN.ay.length) 6 U (fg B.1))<|aw (hP 7 U B)<|aI) U fun Y1 Id=>?_
 obtain ⟨Yh,Y4,G,N,H,O,M,AB,P,J,R,K,S,L,T,AA⟩:=Y1
 cases Yh
 ·obtain ⟨YX,he⟩:=Id.2 rfl
  try dsimp only at YX he
  subst YX
  try dsimp only [cond_true,cond_false,List.cons_append,List.nil_append]
  exact absurd B_ he
 obtain ⟨YY,⟨Eq,YW⟩,C2⟩:=Id.1 rfl
 try dsimp only [cond_true,cond_false,List.cons_append,List.nil_append]
 try dsimp only at YY Eq YW C2
 have IR:e9 k8 _ _:=e9.rep A Eq YW C2
 refine bf 1 U<|qF [0,1,2,3,4,5,6,7,16,17,18,19] U U<|bf 2 U<|AL U CS fun Ci=>fP U tj U<|bf 1 U<|RK YT<|WS fun _ YU=>rP 1 [] (mc 0 U mn) ?_
 refine cX (zS k8 G N M H O AB P J R K S AA L T (by exact IR)) (fD 12 U U<|aw (ai (n:=aN.ao.aP.length) 1 U (by rw [List.length_map]; rfl))<|aw (ai (n:=aN.ao.ak.length) 2 U (g7 Eq))<|aw (cL 3 U iW)<|aw (ai (n:=aN.ao.ae.length) 4 U (by rw [List.length_map]; rfl))<|aw (ai (n:=aN.aQ.length) 5 U (by rw [List.length_map]; rfl))<|aw (ai (n:=aN.bQ.length) 6 U (by rw [List.length_map]; rfl))<|aw (ai (n:=(gP aN.ay 0 2 (aa.mk 2590 2599)).length) 7 U (fg C2.1))<|aw (hP 8 U C2)<|aI) U fun Y2 Yc=>?_
 obtain ⟨b,A7,A8⟩:=Y2
 try dsimp only
 have W4:=Yc
 have IO:=W4
 refine rP 5 [] mn ?_
 refine RK YU<|WS fun _ YV=>cX jt (aI) U fun Y3 Yd=>?_
 obtain ⟨XI,X1,XL,X4,Xy,XP,X8,XU,YB,XY,YF,Xc,YJ,W_⟩:=Y3
 try dsimp only
 obtain ⟨A,F,B⟩:=Yd
 refine rS (CL (lZ 2590 2599) (aI) U)<|cX (H7 0 2 (aa.mk 2590 2599) aN XI X1 Xy XL X4 XP X8 XU YB XY YF W_ Xc YJ (by exact A)) (fD 22 U U<|aw (ai (n:=aN.ao.aP.length) 0 U sm)<|aw (ai (n:=aN.ao.ak.length) 1 U (g7 F))<|aw (cL 2 U iW)<|aw (ai (n:=aN.ao.ae.length) 3 U sm)<|aw (ai (n:=aN.aQ.length) 4 U sm)<|aw (ai (n:=aN.bQ.length) 5 U sm)<|aw (ai (n:=aN.ay.length) 6 U (fg B.1))<|aw (hP 7 U B)<|aI) U fun Yi Yw=>?_
 obtain ⟨W,Z⟩:=Yi
 try dsimp only
 refine bf 1 U<|qF [0,9,10,11,12,13,14,15,16,17,18,19,20,21,22,23] U U<|rP 4 [] mn ?_
 refine RK YV<|ah fun _ R9=>JS cu [8,9,10,11,12,13,14,15,16,17,18,19,20,21,22,23,24,25,26,27,28,29,30,31,32,33,34,35,36,37,38,39,40,41,42,43,44,45,46,47,48,49,50,51,52,53,54,55,56,57,58,59,60,61,62,63,64,65,66,67,68,69,70,71,72,73] [0,1,2,3,4,5,6,7,8,9,10,11,12,13,14,15] U U U<|eS U (MV U)<|eS U (BI U lu)<|eS U (MV U)<|I5 (t:=40) U (aL fun YK=>?_) (aM fun YK=>?_)
 ·exact absurd (Ph.1) YK
 refine eS U (LW 14 U bX U U)<|eS U (CL (lZ 2596 2602) (aI) U)<|eS U (BI U (s8 _ _ (hU aN 0 0) (aa.mk 2596 2602)))<|eS U (PK U)<|eS U (MV U)<|eV U<|gU U fun T106 SQ=>bZ (t:=45) U (aL fun YL=>?_) (aM fun YL=>?_)
 ·exact absurd (Ph.2) YL
 refine cX jt (aI) U fun Yj W5=>?_
 obtain ⟨If,OP,J2,PP,L3,J7,P3,K4,Ql,LE,Rz,Lk,R4,XA⟩:=Yj
 try dsimp only
 obtain ⟨A,F,B⟩:=W5
 refine RD SQ 8 U<|gU U fun T123 ST=>rS (CL (yT 0 514 515 aN If OP L3 J2 PP J7 P3 K4 Ql LE Rz XA Lk R4 (by exact A)) (fD 23 U U<|aw (ai (n:=aN.ao.aP.length) 0 U sm)<|aw (ai (n:=aN.ao.ak.length) 1 U (g7 F))<|aw (cL 2 U iW)<|aw (ai (n:=aN.ao.ae.length) 3 U sm)<|aw (ai (n:=aN.aQ.length) 4 U sm)<|aw (ai (n:=aN.bQ.length) 5 U sm)<|aw (ai (n:=aN.ay.length) 6 U (fg B.1))<|aw (hP 7 U B)<|aI) U)<|RD ST 8 U<|gU U fun T124 Sz=>qF [8,9,10,11,12,13,14,15,16,17,18,19,20,21,22,23] U U<|rS (PK U)<|RD Sz 0 U<|gU U fun T125 S1=>rS (MV U)<|RD S1 0 U ?_
 refine wZ (V:=OA×Nat×OA×Nat×List RA×OA×Nat×OA×Nat×OA×Nat×OA×Nat×List cO×Nat) (fun (j,z,l,AK,X,p,An,s,A0,v,A2,x,A4,c,e)=>e9 aN X c∧X.length=aN.ao.ak.length∧tM aN.ay c) (fun (j,z,l,AK,X,p,An,s,A0,v,A2,x,A4,c,e)=>[(3,(vS B7 ((cd aN).length) B9)),(4,(vI (cK aN))),(5,(vP Ci)),(6,(vI 0)),(7,(vS A7 ((cd k8).length) A8)),(8,(vI (cK k8))),(9,(vS W ((eO aN 0 2 (aa.mk 2590 2599)).length) Z)),(10,(vI (gI aN 0 2 (aa.mk 2590 2599)))),(49,(vB true)),(50,(vA (cv.cells (cv.mk (ck.mk (bE.mk (br.mk j aN.ao.aP.length z)) aN.ao.hE (br.mk l aN.ao.ak.length AK) (br.mk p aN.ao.ae.length An) aN.ao.cJ aN.ao.eU aN.ao.cW) (br.mk s aN.aQ.length A0) (br.mk v aN.bQ.length A2) aN.iK (br.mk x aN.ay.length A4))))),(51,(vS (some ⟨e,0,none⟩) 2 2))]) (fun (j,z,l,AK,X,p,An,s,A0,v,A2,x,A4,c,e)=>[(bV e 3 [(vI 1),(vI 2)]),(own j z 114 9 (aN.ao.aP.map al.cells)),(own l AK 119 2 (List.zipWith ar.cells aN.ao.ak X)),(bw (aV ar.owns aN.ao.ak X)),(own p An 121 4 (aN.ao.ae.map bD.cells)),(own s A0 3 1 (aN.aQ.map iC)),(own v A2 3 1 (aN.bQ.map iC)),(own x A4 46 1 (List.zipWith cP aN.ay c)),(bw (aV je aN.ay c)),(own W Z 3 1 ((eO aN 0 2 (aa.mk 2590 2599)).map iC)),(own A7 A8 32 1 (List.zipWith lX (cd k8) b)),(bw (aV sE (cd k8) b)),(bV Ci 35 (cv.cells (cv.mk (ck.mk (bE.mk (br.mk G aN.ao.aP.length N)) aN.ao.hE (br.mk H aN.ao.ak.length O) (br.mk AB aN.ao.ae.length P) aN.ao.cJ aN.ao.eU aN.ao.cW) (br.mk J aN.aQ.length R) (br.mk K aN.bQ.length S) aN.iK (br.mk L ((gP aN.ay 0 2 (aa.mk 2590 2599)).length) T)))),(own G N 114 9 (aN.ao.aP.map al.cells)),(own H O 119 2 (List.zipWith ar.cells aN.ao.ak M)),(bw (aV ar.owns aN.ao.ak M)),(own AB P 121 4 (aN.ao.ae.map bD.cells)),(own J R 3 1 (aN.aQ.map iC)),(own K S 3 1 (aN.bQ.map iC)),(own L T 46 1 (List.zipWith cP (gP aN.ay 0 2 (aa.mk 2590 2599)) AA)),(bw (aV je (gP aN.ay 0 2 (aa.mk 2590 2599)) AA)),(own B7 B9 32 1 (List.zipWith lX (cd aN) a)),(bw (aV sE (cd aN) a)),(bV C3 40 (aa.cells (hU aN 0 0))),(rd eX 3 2 dW).ro]) 60 [14,15,16,17,18,19,20,21,22,23,24,25,26,27,28,29,30,31,32,33,34,35,36,37,38,39,40,41,42,43,44,45,46,47,48,49,50,51,52,53,54,55,56,57,58,59,60,61,62,63,64,65,66,67,68,69,70,71,72,73] (fun hJ=>?_) ?_
 ·refine iH [12,13] kr (eE ?_<|eE ?_<|km)
  rotate_left 1
  ·refine ik U U U fun T162 T2=>bZ (t:=49) U (aL fun Di=>?_) (aM fun Di=>?_)
   ·exact absurd (⟨mj.1,mj.2.1⟩) Di
   refine cY (xs:=[.const (vI 1),.const (vI 2)]) (cs:=[(vI 1),(vI 2)]) U cp ja U U U U (by simp [Value.cells]) U U fun Xe=>RD T2 1 U<|N1 12<|ik U U U fun T164 T4=>cX jt (aI) U fun Ym W7=>?_
   obtain ⟨In,Or,J4,Pi,NE,J9,QF,K8,Q9,LT,R1,Ls,R6,XC⟩:=Ym
   try dsimp only
   obtain ⟨A,F,B⟩:=W7
   refine RD T4 9 U ?_
   exact jY hJ (In,Or,J4,Pi,NE,J9,QF,K8,Q9,LT,R1,Ls,R6,XC,Xe) ⟨A,F,B⟩ [8,0,1,2,3,4,5,6,7,9,10,11,12,13,14,15,16,17,18,19,20,21,22,23,24] U U U
  refine ik U U U fun T143 S2=>bZ (t:=49) U (aL fun Di=>?_) (aM fun Di=>?_)
  ·exact absurd (⟨mj.1,mj.2.1⟩) Di
  refine cX jt (aI) U fun Yk W6=>?_
  obtain ⟨Ij,Op,J3,PU,M2,J8,QA,K5,Qr,LS,R0,Lo,R5,XB⟩:=Yk
  try dsimp only
  obtain ⟨A,F,B⟩:=W6
  refine RD S2 8 U<|N1 13<|ik U U U fun T160 T0=>cY (xs:=[.const (vI 1),.const (vI 2)]) (cs:=[(vI 1),(vI 2)]) U cp ja U U U U (by simp [Value.cells]) U U fun Xd=>RD T0 9 U ?_
  exact jY hJ (Ij,Op,J3,PU,M2,J8,QA,K5,Qr,LS,R0,Lo,R5,XB,Xd) ⟨A,F,B⟩ [0,1,2,3,4,5,6,7,8,9,10,11,12,13,14,15,16,17,18,19,20,21,22,23,24] U U U
 rintro ⟨j,z,l,AK,X,p,An,s,A0,v,A2,x,A4,c,e⟩ ⟨A,F,B⟩
 try dsimp only
 refine gU U fun T181 T5=>rS (CL (yC 0 ([1,2]) (some ⟨e,0,none⟩) 2 aN j z X l AK p An s A0 v A2 c x A4 (by exact A) dc) (aw (aZ 0 U U (by simp [bB]) U)<|fD 24 U U<|aw (ai (n:=aN.ao.aP.length) 1 U sm)<|aw (ai (n:=aN.ao.ak.length) 2 U (g7 F))<|aw (cL 3 U iW)<|aw (ai (n:=aN.ao.ae.length) 4 U sm)<|aw (ai (n:=aN.aQ.length) 5 U sm)<|aw (ai (n:=aN.bQ.length) 6 U sm)<|aw (ai (n:=aN.ay.length) 7 U (fg B.1))<|aw (hP 8 U B)<|aI) U)<|RD T5 9 U<|gU U fun T182 T6=>qF [0,9,10,11,12,13,14,15,16,17,18,19,20,21,22,23,24] U U<|rS (PK U)<|RD T6 1 U<|gU U fun T183 T7=>rS (MV U)<|RD T7 1 U ?_
 refine wZ (V:=OA×Nat×OA×Nat×List RA×OA×Nat×OA×Nat×OA×Nat×OA×Nat×List cO×Nat) (fun (k,AC,o,AO,Y,q,Ay,u,A1,w,A3,y,A5,d,f)=>e9 aN Y d∧Y.length=aN.ao.ak.length∧tM aN.ay d) (fun (k,AC,o,AO,Y,q,Ay,u,A1,w,A3,y,A5,d,f)=>[(3,(vS B7 ((cd aN).length) B9)),(4,(vI (cK aN))),(5,(vP Ci)),(6,(vI 0)),(7,(vS A7 ((cd k8).length) A8)),(8,(vI (cK k8))),(9,(vS W ((eO aN 0 2 (aa.mk 2590 2599)).length) Z)),(10,(vI (gI aN 0 2 (aa.mk 2590 2599)))),(54,(vB true)),(55,(vA (cv.cells (cv.mk (ck.mk (bE.mk (br.mk k aN.ao.aP.length AC)) aN.ao.hE (br.mk o aN.ao.ak.length AO) (br.mk q aN.ao.ae.length Ay) aN.ao.cJ aN.ao.eU aN.ao.cW) (br.mk u aN.aQ.length A1) (br.mk w aN.bQ.length A3) aN.iK (br.mk y aN.ay.length A5))))),(56,(vS (some ⟨f,0,none⟩) 2 2))]) (fun (k,AC,o,AO,Y,q,Ay,u,A1,w,A3,y,A5,d,f)=>[(bV f 3 [(vI 2),(vI 3)]),(own k AC 114 9 (aN.ao.aP.map al.cells)),(own o AO 119 2 (List.zipWith ar.cells aN.ao.ak Y)),(bw (aV ar.owns aN.ao.ak Y)),(own q Ay 121 4 (aN.ao.ae.map bD.cells)),(own u A1 3 1 (aN.aQ.map iC)),(own w A3 3 1 (aN.bQ.map iC)),(own y A5 46 1 (List.zipWith cP aN.ay d)),(bw (aV je aN.ay d)),(bV e 3 [(vI 1),(vI 2)]),(own W Z 3 1 ((eO aN 0 2 (aa.mk 2590 2599)).map iC)),(own A7 A8 32 1 (List.zipWith lX (cd k8) b)),(bw (aV sE (cd k8) b)),(bV Ci 35 (cv.cells (cv.mk (ck.mk (bE.mk (br.mk G aN.ao.aP.length N)) aN.ao.hE (br.mk H aN.ao.ak.length O) (br.mk AB aN.ao.ae.length P) aN.ao.cJ aN.ao.eU aN.ao.cW) (br.mk J aN.aQ.length R) (br.mk K aN.bQ.length S) aN.iK (br.mk L ((gP aN.ay 0 2 (aa.mk 2590 2599)).length) T)))),(own G N 114 9 (aN.ao.aP.map al.cells)),(own H O 119 2 (List.zipWith ar.cells aN.ao.ak M)),(bw (aV ar.owns aN.ao.ak M)),(own AB P 121 4 (aN.ao.ae.map bD.cells)),(own J R 3 1 (aN.aQ.map iC)),(own K S 3 1 (aN.bQ.map iC)),(own L T 46 1 (List.zipWith cP (gP aN.ay 0 2 (aa.mk 2590 2599)) AA)),(bw (aV je (gP aN.ay 0 2 (aa.mk 2590 2599)) AA)),(own B7 B9 32 1 (List.zipWith lX (cd aN) a)),(bw (aV sE (cd aN) a)),(bV C3 40 (aa.cells (hU aN 0 0))),(rd eX 3 2 dW).ro]) 55 [19,20,21,22,23,24,25,26,27,28,29,30,31,32,33,34,35,36,37,38,39,40,41,42,43,44,45,46,47,48,49,50,51,52,53,54,55,56,57,58,59,60,61,62,63,64,65,66,67,68,69,70,71,72,73] (fun hJ=>?_) ?_
 ·refine iH [17,18] kr (eE ?_<|eE ?_<|km)
  rotate_left 1
  ·refine ik U U U fun T220 UQ=>bZ (t:=54) U (aL fun Do=>?_) (aM fun Do=>?_)
   ·exact absurd (⟨mj.1,mj.2.2⟩) Do
   refine cY (xs:=[.const (vI 2),.const (vI 3)]) (cs:=[(vI 2),(vI 3)]) U cp ja U U U U (by simp [Value.cells]) U U fun Xg=>RD UQ 2 U<|N1 17<|ik U U U fun T222 UR=>cX jt (aI) U fun Yo W9=>?_
   obtain ⟨JL,PF,J6,P1,Ne,K0,QJ,LA,Rb,Li,R3,L2,R8,XE⟩:=Yo
   try dsimp only
   obtain ⟨A,F,B⟩:=W9
   refine RD UR 10 U ?_
   exact jY hJ (JL,PF,J6,P1,Ne,K0,QJ,LA,Rb,Li,R3,L2,R8,XE,Xg) ⟨A,F,B⟩ [8,0,1,2,3,4,5,6,7,9,10,11,12,13,14,15,16,17,18,19,20,21,22,23,24,25] U U U
  refine ik U U U fun T201 T8=>bZ (t:=54) U (aL fun Do=>?_) (aM fun Do=>?_)
  ·exact absurd (⟨mj.1,mj.2.2⟩) Do
  refine cX jt (aI) U fun Yn W8=>?_
  obtain ⟨I0,Os,J5,Pl,NU,KW,QI,K_,RR,La,R2,L0,R7,XD⟩:=Yn
  try dsimp only
  obtain ⟨A,F,B⟩:=W8
  refine RD T8 9 U<|N1 18<|ik U U U fun T218 T9=>cY (xs:=[.const (vI 2),.const (vI 3)]) (cs:=[(vI 2),(vI 3)]) U cp ja U U U U (by simp [Value.cells]) U U fun Xf=>RD T9 10 U ?_
  exact jY hJ (I0,Os,J5,Pl,NU,KW,QI,K_,RR,La,R2,L0,R7,XD,Xf) ⟨A,F,B⟩ [0,1,2,3,4,5,6,7,8,9,10,11,12,13,14,15,16,17,18,19,20,21,22,23,24,25] U U U
 rintro ⟨k,AC,o,AO,Y,q,Ay,u,A1,w,A3,y,A5,d,f⟩ ⟨A,F,B⟩
 try dsimp only
 refine gU U fun T239 UV=>rS (CL (yC 2 ([2,3]) (some ⟨f,0,none⟩) 2 aN k AC Y o AO q Ay u A1 w A3 d y A5 (by exact A) dc) (aw (aZ 0 U U (by simp [bB]) U)<|fD 25 U U<|aw (ai (n:=aN.ao.aP.length) 1 U sm)<|aw (ai (n:=aN.ao.ak.length) 2 U (g7 F))<|aw (cL 3 U iW)<|aw (ai (n:=aN.ao.ae.length) 4 U sm)<|aw (ai (n:=aN.aQ.length) 5 U sm)<|aw (ai (n:=aN.bQ.length) 6 U sm)<|aw (ai (n:=aN.ay.length) 7 U (fg B.1))<|aw (hP 8 U B)<|aI) U)<|RD UV 10 U<|gU U fun T240 UW=>qF [0,9,10,11,12,13,14,15,16,17,18,19,20,21,22,23,24,25] U U<|rS (PK U)<|RD UW 2 U<|gU U fun T241 Un=>rS (MV U)<|RD Un 2 U<|gU U fun T242 VA=>bZ (t:=59) U (aL fun YM=>?_) (aM fun YM=>?_)
 ·exact absurd (⟨Dj.1,Dj.2.2⟩) YM
 refine rS (CL (C4 1 2 2 0) (bj [17]) U)<|RD VA 2 U<|gU U fun T243 VK=>rS (PK U)<|RD VK 2 U<|gU U fun T244 VO=>rS (MV U)<|RD VO 2 U<|gU U fun T245 VR=>bZ (t:=62) U (aL fun YN=>?_) (aM fun YN=>?_)
 ·exact absurd (⟨⟨⟨Af.1,Af.2.1⟩,Af.1⟩,Af.2.2⟩) YN
 refine rS (CL (C4 0 1 0 1) (bj [17]) U)<|RD VR 2 U<|gU U fun T246 VS=>rS (PK U)<|RD VS 2 U<|gU U fun T247 VT=>rS (MV U)<|RD VT 2 U<|gU U fun T248 VU=>bZ (t:=65) U (aL fun YO=>?_) (aM fun YO=>?_)
 ·exact absurd (⟨⟨⟨As.1,As.2.1⟩,As.1⟩,As.2.2⟩) YO
 refine rS (MV U)<|RD VU 2 U<|gU U fun T249 VV=>rS (BI U lu)<|RD VV 2 U<|gU U fun T250 VW=>rS (PK U)<|RD VW 2 U<|gU U fun T251 VX=>rS (MV U)<|RD VX 2 U ?_
 refine wZ (V:=Nat×Nat) (fun (C,g)=>True) (fun (C,g)=>[(5,(vP Ci)),(6,(vI 0)),(7,(vS A7 ((cd k8).length) A8)),(8,(vI (cK k8))),(9,(vS W ((eO aN 0 2 (aa.mk 2590 2599)).length) Z)),(10,(vI (gI aN 0 2 (aa.mk 2590 2599)))),(69,(vB true)),(70,(vS B7 ((cd aN).length) B9)),(71,(vS (some ⟨C,0,none⟩) 3 3)),(72,(vS (some ⟨g,0,none⟩) 1 1))]) (fun (C,g)=>[(bV g 32 [(vS (some ⟨C,0,none⟩) 3 3)]),(bV C 3 [(vI 0),(vI 1),(vI 2)]),(bV f 3 [(vI 2),(vI 3)]),(bV e 3 [(vI 1),(vI 2)]),(own W Z 3 1 ((eO aN 0 2 (aa.mk 2590 2599)).map iC)),(own A7 A8 32 1 (List.zipWith lX (cd k8) b)),(bw (aV sE (cd k8) b)),(bV Ci 35 (cv.cells (cv.mk (ck.mk (bE.mk (br.mk G aN.ao.aP.length N)) aN.ao.hE (br.mk H aN.ao.ak.length O) (br.mk AB aN.ao.ae.length P) aN.ao.cJ aN.ao.eU aN.ao.cW) (br.mk J aN.aQ.length R) (br.mk K aN.bQ.length S) aN.iK (br.mk L ((gP aN.ay 0 2 (aa.mk 2590 2599)).length) T)))),(own G N 114 9 (aN.ao.aP.map al.cells)),(own H O 119 2 (List.zipWith ar.cells aN.ao.ak M)),(bw (aV ar.owns aN.ao.ak M)),(own AB P 121 4 (aN.ao.ae.map bD.cells)),(own J R 3 1 (aN.aQ.map iC)),(own K S 3 1 (aN.bQ.map iC)),(own L T 46 1 (List.zipWith cP (gP aN.ay 0 2 (aa.mk 2590 2599)) AA)),(bw (aV je (gP aN.ay 0 2 (aa.mk 2590 2599)) AA)),(own B7 B9 32 1 (List.zipWith lX (cd aN) a)),(bw (aV sE (cd aN) a)),(bV C3 40 (aa.cells (hU aN 0 0))),(rd eX 3 2 dW).ro]) 39 [35,36,37,38,39,40,41,42,43,44,45,46,47,48,49,50,51,52,53,54,55,56,57,58,59,60,61,62,63,64,65,66,67,68,69,70,71,72,73] (fun hJ=>?_) ?_
 ·refine iH [32,33] kr (eE ?_<|eE ?_<|km)
  ·refine ik U U U fun T254 VY=>bZ (t:=69) U (aL fun Dr=>?_) (aM fun Dr=>?_)
   ·exact absurd (qi) Dr
   refine rS (MV U)<|RD VY 2 U<|N1 33<|ik U U U fun T255 VZ=>cY (xs:=[.const (vI 0),.const (vI 1),.const (vI 2)]) (cs:=[(vI 0),(vI 1),(vI 2)]) U cp ja U U U U (by simp [Value.cells]) U U fun Fd=>RD VZ 3 U<|N1 34<|ik U U U fun T257 Vv=>cY (xs:=[.tmp 71]) (cs:=[(vS (some ⟨Fd,0,none⟩) 3 3)]) U nU vK U U U U (by simp [Value.cells]) U U fun Xh=>RD Vv 4 U ?_
   exact jY hJ (Fd,Xh) trivial [0,1,2,3,4,5,6,7,8,9,10,11,12,13,14,15,16,17,18,19] U U U
  refine ik U U U fun T259 V0=>bZ (t:=69) U (aL fun Dr=>?_) (aM fun Dr=>?_)
  ·exact absurd (qi) Dr
  refine cY (xs:=[.const (vI 0),.const (vI 1),.const (vI 2)]) (cs:=[(vI 0),(vI 1),(vI 2)]) U cp ja U U U U (by simp [Value.cells]) U U fun Cp=>RD V0 3 U<|iH [32,34] kr (eE ?_<|eE ?_<|km)
  rotate_left 1
  ·refine ik U U U fun T264 V3=>cY (xs:=[.tmp 71]) (cs:=[(vS (some ⟨Cp,0,none⟩) 3 3)]) U nU vK U U U U (by simp [Value.cells]) U U fun Xj=>RD V3 4 U<|N1 32<|ik U U U fun T266 V4=>rS (MV U)<|RD V4 4 U ?_
   exact jY hJ (Cp,Xj) trivial [0,1,2,3,4,5,6,7,8,9,10,11,12,13,14,15,16,17,18,19] U U U
  refine ik U U U fun T261 V1=>rS (MV U)<|RD V1 3 U<|N1 34<|ik U U U fun T262 V2=>cY (xs:=[.tmp 71]) (cs:=[(vS (some ⟨Cp,0,none⟩) 3 3)]) U nU vK U U U U (by simp [Value.cells]) U U fun Xi=>RD V2 4 U ?_
  exact jY hJ (Cp,Xi) trivial [0,1,2,3,4,5,6,7,8,9,10,11,12,13,14,15,16,17,18,19] U U U
 rintro ⟨C,g⟩-
 try dsimp only
 refine gU U fun T267 V5=>?_
 refine dM (es:=(([0,1,2]:List Int).map iC)) (C':=[_,(own (some ⟨C,0,none⟩) 3 3 1 (([0,1,2]:List Int).map iC)),_,_,_,_,_,_,_,_,_,_,_,_,_,_,_,_,_,_]) 1 U (mX bB _) U (by show _≤maxLen; exact Nat.le_trans (m:=10) (show (3:Nat)≤10 by decide) dc) U ?_
 refine dM (es:=(List.zipWith lX [([0,1,2]:List Int)] [((some ⟨C,0,none⟩),3)])) (C':=[(own (some ⟨g,0,none⟩) 1 32 1 (List.zipWith lX [([0,1,2]:List Int)] [((some ⟨C,0,none⟩),3)])),_,_,_,_,_,_,_,_,_,_,_,_,_,_,_,_,_,_,_]) 0 U (oZ Jq) U (by show _≤maxLen; exact Nat.le_trans (m:=10) (show (1:Nat)≤10 by decide) dc) U ?_
 refine ur (aV sE [([0,1,2]:List Int)] [((some ⟨C,0,none⟩),3)]) [1] [0,2,3,4,5,6,7,8,9,10,11,12,13,14,15,16,17,18,19] U U<|rS (CL (vv (cd aN) ([([0,1,2]:List Int)]) a B7 B9 ([((some ⟨C,0,none⟩),3)]) (some ⟨g,0,none⟩) 1 (by first|exact FS.1|exact C1.1) dc (by first|exact FS.2|exact C1.2) dc (by exact H1) (by rfl)) (aw (ai (n:=(cd aN).length) 16 U (iA H1))<|aw (cL 17 U mO)<|aw (ai (n:=([([0,1,2]:List Int)]).length) 1 U sm)<|aw (cL 0 U mO)<|aI) U)<|RD V5 4 U<|gU U fun T268 V6=>rS (PK U)<|RD V6 4 U<|gU U fun T269 V7=>rS (MV U)<|RD V7 4 U<|gU U fun T270 V8=>bZ (t:=75) U (aL fun YP=>?_) (aM fun YP=>?_)
 ·exact absurd (Nv) YP
 refine rS (MV U)<|RD V8 4 U<|gU U fun T271 V9=>rS (SX (bU (r:= .bool true) U U U lu) U U)<|RD V9 4 U<|gU U fun T272 V_=>rS (PK U)<|RD V_ 4 U<|gU U fun T273 WA=>rS (MV U)<|RD WA 4 U<|gU U fun T274 WB=>rS (LW 7 U bX U U)<|RD WB 4 U<|gU U fun T275 WC=>?_
 refine rS (CL (yT 2 516 516 k8 G N M H O AB P J R K S AA L T (by exact IR)) (fD 19 U U<|aw (ai (n:=aN.ao.aP.length) 8 U (by rw [List.length_map]; rfl))<|aw (ai (n:=aN.ao.ak.length) 9 U (g7 Eq))<|aw (cL 10 U iW)<|aw (ai (n:=aN.ao.ae.length) 11 U (by rw [List.length_map]; rfl))<|aw (ai (n:=aN.aQ.length) 12 U (by rw [List.length_map]; rfl))<|aw (ai (n:=aN.bQ.length) 13 U (by rw [List.length_map]; rfl))<|aw (ai (n:=(gP aN.ay 0 2 (aa.mk 2590 2599)).length) 14 U (fg C2.1))<|aw (hP 15 U C2)<|aI) U) ?_
 refine RD WC 4 U<|gU U fun T276 WD=>rS (PK U)<|RD WD 4 U<|gU U fun T277 WE=>rS (MV U)<|RD WE 4 U<|gU U fun T278 WF=>bZ (t:=83) U (aL fun YQ=>?_) (aM fun YQ=>?_)
 ·exact absurd (Lq) YQ
 refine rS (MV U)<|RD WF 4 U<|gU U fun T279 WG=>rS (BI U lu)<|RD WG 4 U<|gU U fun T280 WH=>rS (PK U)<|RD WH 4 U<|gU U fun T281 WI=>rS (MV U)<|RD WI 4 U ?_
 refine wZ (V:=Nat×Nat×Nat) (fun (D,E,A6)=>True) (fun (D,E,A6)=>[(9,(vS W ((eO aN 0 2 (aa.mk 2590 2599)).length) Z)),(10,(vI (gI aN 0 2 (aa.mk 2590 2599)))),(71,(vS (some ⟨C,0,none⟩) 3 3)),(87,(vB true)),(88,(vS A7 ((cd k8).length) A8)),(89,(vS (some ⟨D,0,none⟩) 2 2)),(90,(vS (some ⟨E,0,none⟩) 1 1)),(91,(vS (some ⟨A6,0,none⟩) 2 2))]) (fun (D,E,A6)=>[(bV A6 32 [(vS (some ⟨D,0,none⟩) 2 2),(vS (some ⟨E,0,none⟩) 1 1)]),(bV E 3 [(vI 2)]),(bV D 3 [(vI 0),(vI 1)]),(bw (aV sE [([0,1,2]:List Int)] [((some ⟨C,0,none⟩),3)])),(own (some ⟨g,0,none⟩) 1 32 1 (List.zipWith lX [([0,1,2]:List Int)] [((some ⟨C,0,none⟩),3)])),(bV f 3 [(vI 2),(vI 3)]),(bV e 3 [(vI 1),(vI 2)]),(own W Z 3 1 ((eO aN 0 2 (aa.mk 2590 2599)).map iC)),(own A7 A8 32 1 (List.zipWith lX (cd k8) b)),(bw (aV sE (cd k8) b)),(bV Ci 35 (cv.cells (cv.mk (ck.mk (bE.mk (br.mk G aN.ao.aP.length N)) aN.ao.hE (br.mk H aN.ao.ak.length O) (br.mk AB aN.ao.ae.length P) aN.ao.cJ aN.ao.eU aN.ao.cW) (br.mk J aN.aQ.length R) (br.mk K aN.bQ.length S) aN.iK (br.mk L ((gP aN.ay 0 2 (aa.mk 2590 2599)).length) T)))),(own G N 114 9 (aN.ao.aP.map al.cells)),(own H O 119 2 (List.zipWith ar.cells aN.ao.ak M)),(bw (aV ar.owns aN.ao.ak M)),(own AB P 121 4 (aN.ao.ae.map bD.cells)),(own J R 3 1 (aN.aQ.map iC)),(own K S 3 1 (aN.bQ.map iC)),(own L T 46 1 (List.zipWith cP (gP aN.ay 0 2 (aa.mk 2590 2599)) AA)),(bw (aV je (gP aN.ay 0 2 (aa.mk 2590 2599)) AA)),(own B7 B9 32 1 (List.zipWith lX (cd aN) a)),(bw (aV sE (cd aN) a)),(bV C3 40 (aa.cells (hU aN 0 0))),(rd eX 3 2 dW).ro]) 20 [54,55,56,57,58,59,60,61,62,63,64,65,66,67,68,69,70,71,72,73] (fun hJ=>?_) ?_
 ·refine iH [50,51,52] kr (eE ?_<|eE ?_<|eE ?_<|km)
  ·refine ik U U U fun T285 WL=>bZ (t:=87) U (aL fun Ck=>?_) (aM fun Ck=>?_)
   ·exact absurd (xr) Ck
   refine rS (MV U)<|RD WL 4 U<|iH [51,52] kr (eE ?_<|eE ?_<|km)
   rotate_left 1
   ·refine ik U U U fun T292 WP=>cY (xs:=[.const (vI 2)]) (cs:=[(vI 2)]) U cp ja U U U U (by simp [Value.cells]) U U fun F6=>RD WP 5 U<|N1 51<|ik U U U fun T294 WQ=>cY (xs:=[.const (vI 0),.const (vI 1)]) (cs:=[(vI 0),(vI 1)]) U cp ja U U U U (by simp [Value.cells]) U U fun GE=>RD WQ 6 U<|N1 53<|ik U U U fun T296 WR=>cY (xs:=[.tmp 89,.tmp 90]) (cs:=[(vS (some ⟨GE,0,none⟩) 2 2),(vS (some ⟨F6,0,none⟩) 1 1)]) U nU vK U U U U (by simp [Value.cells]) U U fun Xl=>RD WR 7 U ?_
    exact jY hJ (GE,F6,Xl) trivial [0,2,1,3,4,5,6,7,8,9,10,11,12,13,14,15,16,17,18,19,20,21,22] U U U
   refine ik U U U fun T286 WM=>cY (xs:=[.const (vI 0),.const (vI 1)]) (cs:=[(vI 0),(vI 1)]) U cp ja U U U U (by simp [Value.cells]) U U fun Fn=>RD WM 5 U<|N1 52<|ik U U U fun T288 WN=>cY (xs:=[.const (vI 2)]) (cs:=[(vI 2)]) U cp ja U U U U (by simp [Value.cells]) U U fun F0=>RD WN 6 U<|N1 53<|ik U U U fun T290 WO=>cY (xs:=[.tmp 89,.tmp 90]) (cs:=[(vS (some ⟨Fn,0,none⟩) 2 2),(vS (some ⟨F0,0,none⟩) 1 1)]) U nU vK U U U U (by simp [Value.cells]) U U fun Xk=>RD WO 7 U ?_
   exact jY hJ (Fn,F0,Xk) trivial [0,1,2,3,4,5,6,7,8,9,10,11,12,13,14,15,16,17,18,19,20,21,22] U U U
  ·refine ik U U U fun T298 WT=>bZ (t:=87) U (aL fun Ck=>?_) (aM fun Ck=>?_)
   ·exact absurd (xr) Ck
   refine cY (xs:=[.const (vI 0),.const (vI 1)]) (cs:=[(vI 0),(vI 1)]) U cp ja U U U U (by simp [Value.cells]) U U fun A9=>RD WT 5 U<|iH [50,52] kr (eE ?_<|eE ?_<|km)
   ·refine ik U U U fun T300 WU=>rS (MV U)<|RD WU 5 U<|N1 52<|ik U U U fun T301 WV=>cY (xs:=[.const (vI 2)]) (cs:=[(vI 2)]) U cp ja U U U U (by simp [Value.cells]) U U fun GT=>RD WV 6 U<|N1 53<|ik U U U fun T303 WW=>cY (xs:=[.tmp 89,.tmp 90]) (cs:=[(vS (some ⟨A9,0,none⟩) 2 2),(vS (some ⟨GT,0,none⟩) 1 1)]) U nU vK U U U U (by simp [Value.cells]) U U fun Xm=>RD WW 7 U ?_
    exact jY hJ (A9,GT,Xm) trivial [0,1,2,3,4,5,6,7,8,9,10,11,12,13,14,15,16,17,18,19,20,21,22] U U U
   refine ik U U U fun T305 WX=>cY (xs:=[.const (vI 2)]) (cs:=[(vI 2)]) U cp ja U U U U (by simp [Value.cells]) U U fun Cx=>RD WX 6 U<|iH [50,53] kr (eE ?_<|eE ?_<|km)
   rotate_left 1
   ·refine ik U U U fun T310 Wa=>cY (xs:=[.tmp 89,.tmp 90]) (cs:=[(vS (some ⟨A9,0,none⟩) 2 2),(vS (some ⟨Cx,0,none⟩) 1 1)]) U nU vK U U U U (by simp [Value.cells]) U U fun Xo=>RD Wa 7 U<|N1 50<|ik U U U fun T312 Wb=>rS (MV U)<|RD Wb 7 U ?_
    exact jY hJ (A9,Cx,Xo) trivial [0,1,2,3,4,5,6,7,8,9,10,11,12,13,14,15,16,17,18,19,20,21,22] U U U
   refine ik U U U fun T307 WY=>rS (MV U)<|RD WY 6 U<|N1 53<|ik U U U fun T308 WZ=>cY (xs:=[.tmp 89,.tmp 90]) (cs:=[(vS (some ⟨A9,0,none⟩) 2 2),(vS (some ⟨Cx,0,none⟩) 1 1)]) U nU vK U U U U (by simp [Value.cells]) U U fun Xn=>RD WZ 7 U ?_
   exact jY hJ (A9,Cx,Xn) trivial [0,1,2,3,4,5,6,7,8,9,10,11,12,13,14,15,16,17,18,19,20,21,22] U U U
  refine ik U U U fun T313 Wc=>bZ (t:=87) U (aL fun Ck=>?_) (aM fun Ck=>?_)
  ·exact absurd (xr) Ck
  refine cY (xs:=[.const (vI 2)]) (cs:=[(vI 2)]) U cp ja U U U U (by simp [Value.cells]) U U fun BX=>RD Wc 5 U<|iH [50,51] kr (eE ?_<|eE ?_<|km)
  ·refine ik U U U fun T315 Wd=>rS (MV U)<|RD Wd 5 U<|N1 51<|ik U U U fun T316 We=>cY (xs:=[.const (vI 0),.const (vI 1)]) (cs:=[(vI 0),(vI 1)]) U cp ja U U U U (by simp [Value.cells]) U U fun GV=>RD We 6 U<|N1 53<|ik U U U fun T318 Wf=>cY (xs:=[.tmp 89,.tmp 90]) (cs:=[(vS (some ⟨GV,0,none⟩) 2 2),(vS (some ⟨BX,0,none⟩) 1 1)]) U nU vK U U U U (by simp [Value.cells]) U U fun Xp=>RD Wf 7 U ?_
   exact jY hJ (GV,BX,Xp) trivial [0,2,1,3,4,5,6,7,8,9,10,11,12,13,14,15,16,17,18,19,20,21,22] U U U
  refine ik U U U fun T320 Wg=>cY (xs:=[.const (vI 0),.const (vI 1)]) (cs:=[(vI 0),(vI 1)]) U cp ja U U U U (by simp [Value.cells]) U U fun C0=>RD Wg 6 U<|iH [50,53] kr (eE ?_<|eE ?_<|km)
  rotate_left 1
  ·refine ik U U U fun T325 Wj=>cY (xs:=[.tmp 89,.tmp 90]) (cs:=[(vS (some ⟨C0,0,none⟩) 2 2),(vS (some ⟨BX,0,none⟩) 1 1)]) U nU vK U U U U (by simp [Value.cells]) U U fun Xr=>RD Wj 7 U<|N1 50<|ik U U U fun T327 Wk=>rS (MV U)<|RD Wk 7 U ?_
   exact jY hJ (C0,BX,Xr) trivial [0,2,1,3,4,5,6,7,8,9,10,11,12,13,14,15,16,17,18,19,20,21,22] U U U
  refine ik U U U fun T322 Wh=>rS (MV U)<|RD Wh 6 U<|N1 53<|ik U U U fun T323 Wi=>cY (xs:=[.tmp 89,.tmp 90]) (cs:=[(vS (some ⟨C0,0,none⟩) 2 2),(vS (some ⟨BX,0,none⟩) 1 1)]) U nU vK U U U U (by simp [Value.cells]) U U fun Xq=>RD Wi 7 U ?_
  exact jY hJ (C0,BX,Xq) trivial [0,2,1,3,4,5,6,7,8,9,10,11,12,13,14,15,16,17,18,19,20,21,22] U U U
 rintro ⟨D,E,A6⟩-
 try dsimp only
 refine gU U fun T328 Wl=>?_
 refine dM (es:=(([0,1]:List Int).map iC)) (C':=[_,_,(own (some ⟨D,0,none⟩) 2 3 1 (([0,1]:List Int).map iC)),_,_,_,_,_,_,_,_,_,_,_,_,_,_,_,_,_,_,_,_]) 2 U (mX bB _) U (by show _≤maxLen; exact Nat.le_trans (m:=10) (show (2:Nat)≤10 by decide) dc) U ?_
 refine dM (es:=(([2]:List Int).map iC)) (C':=[_,(own (some ⟨E,0,none⟩) 1 3 1 (([2]:List Int).map iC)),_,_,_,_,_,_,_,_,_,_,_,_,_,_,_,_,_,_,_,_,_]) 1 U (mX bB _) U (by show _≤maxLen; exact Nat.le_trans (m:=10) (show (1:Nat)≤10 by decide) dc) U ?_
 refine dM (es:=(List.zipWith lX [([0,1]:List Int),([2]:List Int)] [((some ⟨D,0,none⟩),2),((some ⟨E,0,none⟩),1)])) (C':=[(own (some ⟨A6,0,none⟩) 2 32 1 (List.zipWith lX [([0,1]:List Int),([2]:List Int)] [((some ⟨D,0,none⟩),2),((some ⟨E,0,none⟩),1)])),_,_,_,_,_,_,_,_,_,_,_,_,_,_,_,_,_,_,_,_,_,_]) 0 U (oZ Jq) U (by show _≤maxLen; exact Nat.le_trans (m:=10) (show (2:Nat)≤10 by decide) dc) U ?_
 refine ur (aV sE [([0,1]:List Int),([2]:List Int)] [((some ⟨D,0,none⟩),2),((some ⟨E,0,none⟩),1)]) [2,1] [0,3,4,5,6,7,8,9,10,11,12,13,14,15,16,17,18,19,20,21,22] U U<|rS (CL (vv (cd k8) ([([0,1]:List Int),([2]:List Int)]) b A7 A8 ([((some ⟨D,0,none⟩),2),((some ⟨E,0,none⟩),1)]) (some ⟨A6,0,none⟩) 2 (by first|exact FS.1|exact C1.1) dc (by first|exact FS.2|exact C1.2) dc (by exact IO) (by rfl)) (aw (ai (n:=(cd k8).length) 7 U (iA IO))<|aw (cL 8 U mO)<|aw (ai (n:=([([0,1]:List Int),([2]:List Int)]).length) 1 U sm)<|aw (cL 0 U mO)<|aI) U)<|RD Wl 6 U<|gU U fun T329 Wm=>rS (PK U)<|RD Wm 6 U<|gU U fun T330 Wn=>rS (MV U)<|RD Wn 6 U<|gU U fun T331 Wo=>bZ (t:=94) U (aL fun YR=>?_) (aM fun YR=>?_)
 ·exact absurd (KQ) YR
 refine rS (MV U)<|RD Wo 6 U<|gU U fun T332 Wp=>rS (BI U lu)<|RD Wp 6 U<|gU U fun T333 Wq=>rS (PK U)<|RD Wq 6 U<|gU U fun T334 Wr=>rS (MV U)<|RD Wr 6 U ?_
 refine wZ (V:=Nat) (fun B3=>True) (fun B3=>[(71,(vS (some ⟨C,0,none⟩) 3 3)),(89,(vS (some ⟨D,0,none⟩) 2 2)),(90,(vS (some ⟨E,0,none⟩) 1 1)),(98,(vB true)),(99,(vS W ((eO aN 0 2 (aa.mk 2590 2599)).length) Z)),(100,(vS (some ⟨B3,0,none⟩) 1 1))]) (fun B3=>[(bV B3 3 [(vI 2)]),(bw (aV sE [([0,1]:List Int),([2]:List Int)] [((some ⟨D,0,none⟩),2),((some ⟨E,0,none⟩),1)])),(own (some ⟨A6,0,none⟩) 2 32 1 (List.zipWith lX [([0,1]:List Int),([2]:List Int)] [((some ⟨D,0,none⟩),2),((some ⟨E,0,none⟩),1)])),(bw (aV sE [([0,1,2]:List Int)] [((some ⟨C,0,none⟩),3)])),(own (some ⟨g,0,none⟩) 1 32 1 (List.zipWith lX [([0,1,2]:List Int)] [((some ⟨C,0,none⟩),3)])),(bV f 3 [(vI 2),(vI 3)]),(bV e 3 [(vI 1),(vI 2)]),(own W Z 3 1 ((eO aN 0 2 (aa.mk 2590 2599)).map iC)),(own A7 A8 32 1 (List.zipWith lX (cd k8) b)),(bw (aV sE (cd k8) b)),(bV Ci 35 (cv.cells (cv.mk (ck.mk (bE.mk (br.mk G aN.ao.aP.length N)) aN.ao.hE (br.mk H aN.ao.ak.length O) (br.mk AB aN.ao.ae.length P) aN.ao.cJ aN.ao.eU aN.ao.cW) (br.mk J aN.aQ.length R) (br.mk K aN.bQ.length S) aN.iK (br.mk L ((gP aN.ay 0 2 (aa.mk 2590 2599)).length) T)))),(own G N 114 9 (aN.ao.aP.map al.cells)),(own H O 119 2 (List.zipWith ar.cells aN.ao.ak M)),(bw (aV ar.owns aN.ao.ak M)),(own AB P 121 4 (aN.ao.ae.map bD.cells)),(own J R 3 1 (aN.aQ.map iC)),(own K S 3 1 (aN.bQ.map iC)),(own L T 46 1 (List.zipWith cP (gP aN.ay 0 2 (aa.mk 2590 2599)) AA)),(bw (aV je (gP aN.ay 0 2 (aa.mk 2590 2599)) AA)),(own B7 B9 32 1 (List.zipWith lX (cd aN) a)),(bw (aV sE (cd aN) a)),(bV C3 40 (aa.cells (hU aN 0 0))),(rd eX 3 2 dW).ro]) 11 [63,64,65,66,67,68,69,70,71,72,73] (fun hJ=>?_) ?_
 ·refine iH [61,62] kr (eE ?_<|eE ?_<|km)
  rotate_left 1
  ·refine ik U U U fun T339 Wu=>bZ (t:=98) U (aL fun EQ=>?_) (aM fun EQ=>?_)
   ·exact absurd (B_) EQ
   refine cY (xs:=[.const (vI 2)]) (cs:=[(vI 2)]) U cp ja U U U U (by simp [Value.cells]) U U fun Xt=>RD Wu 7 U<|N1 61<|ik U U U fun T341 Wv=>rS (MV U)<|RD Wv 7 U ?_
   exact jY hJ Xt trivial [0,1,2,3,4,5,6,7,8,9,10,11,12,13,14,15,16,17,18,19,20,21,22] U U U
  refine ik U U U fun T336 Ws=>bZ (t:=98) U (aL fun EQ=>?_) (aM fun EQ=>?_)
  ·exact absurd (B_) EQ
  refine rS (MV U)<|RD Ws 6 U<|N1 62<|ik U U U fun T337 Wt=>cY (xs:=[.const (vI 2)]) (cs:=[(vI 2)]) U cp ja U U U U (by simp [Value.cells]) U U fun Xs=>RD Wt 7 U ?_
  exact jY hJ Xs trivial [0,1,2,3,4,5,6,7,8,9,10,11,12,13,14,15,16,17,18,19,20,21,22] U U U
 rintro B3-
 try dsimp only
 refine gU U fun T342 Ww=>rS (CL (oe (eO aN 0 2 (aa.mk 2590 2599)) W Z ([2]) (some ⟨B3,0,none⟩) 1 I dc) (aw (ai (n:=(eO aN 0 2 (aa.mk 2590 2599)).length) 7 U sm)<|aw (aZ 0 U U (by simp [bB]) U)<|aI) U)<|RD Ww 7 U<|gU U fun T343 Wx=>rS (PK U)<|RD Wx 7 U<|gU U fun T344 Wy=>rS (MV U)<|RD Wy 7 U<|gU U fun T345 Wz=>bZ (t:=103) U (aL fun Go=>?_) (aM fun Go=>?_)
 ·exact absurd (MP) Go
 refine cY (xs:=[.const (vI 0),.const (vI 2),.const (vI 1)]) (cs:=[(vI 0),(vI 2),(vI 1)]) U cp ja U U U U (by simp [Value.cells]) U U fun Xu=>RD Wz 8 U<|gU U fun T347 W0=>rS (CL (yB 1 ([0,2,1]) (some ⟨Xu,0,none⟩) 3 dc) (fD 23 U U<|aw (aZ 0 U U (by simp [bB]) U)<|aI) U)<|RD W0 8 U<|gU U fun T348 W1=>rS (PK U)<|RD W1 8 U<|gU U fun T349 W2=>rS (MV U)<|RD W2 8 U<|gU U fun T350 W3=>bZ (t:=107) U (aL fun Hi=>?_) (aM fun Hi=>?_)
 ·exact absurd (Kc) Hi
 refine cY (xs:=[.const (vI 0),.const (vI 1),.const (vI 2)]) (cs:=[(vI 0),(vI 1),(vI 2)]) U cp ja U U U U (by simp [Value.cells]) U U fun Xv=>RD W3 9 U<|Ju [109,110,0] kr kr U _ U U (aH [9,10,11,12,13,14,15,16,17,18,19,20,21,22,23,24])<|dS (CL (yB 2 ([0,1,2]) (some ⟨Xv,0,none⟩) 3 dc) (fD 24 U U<|aw (aZ 0 U U (by simp [bB]) U)<|aI) U)<|dP 2 [] mn ?_
 refine cM<|RK R9<|an<|Q1 hQ U U U ?_
 exact cB (fH KV)
end
section
open Go.RowKit
theorem Df (r:bT) (kA:OA) (kC:Nat) (az:List RA) (cA:OA) (cC:Nat) (bA:OA) (bC:Nat) (slA:OA) (slC:Nat) (drA:OA) (drC:Nat) (ha:List cO) (heA:OA) (heC:Nat) (hraw:rf r az ha):
 dT Tryz.prog 52 [(vA (cv.cells (oH r kA kC cA cC bA bC slA slC drA drC heA heC)))] [(rd kA r.ao.aP.length 9 (r.ao.aP.map al.cells)),(rd cA r.ao.ak.length 2 (List.zipWith ar.cells r.ao.ak az)),(eW (aV ar.g0 r.ao.ak az)),(rd bA r.ao.ae.length 4 (r.ao.ae.map bD.cells)),(rd slA r.aQ.length 1 (r.aQ.map iC)),(rd drA r.bQ.length 1 (r.bQ.map iC)),(rd heA r.ay.length 1 (List.zipWith cP r.ay ha)),(eW (aV iu r.ay ha))] (vB (decide (ox r))):=by
 have AC:=hraw.line
 have Ay:=hraw.iO
 have A1:=hraw.has
 have An:=hraw.iN
 have AK:=hraw.draw
 refine bx kr Tryz.func52 U U fun w0 Q hQ hN=>?_
 try dsimp only
 refine WS fun _ l=>fK U fun b2=>bf 1 U<|RK l<|ah fun _ m=>WS fun _ H=>bf 1 U<|rS (LP (ck.cells (lk r.ao kA kC cA cC bA bC)) 0 U bX U U U)<|rS (CL (Jc r.ao kA kC az cA cC bA bC asm) (bj [1,2,3,4]) U)<|rP 1 [] mn ?_
 refine cQ (t:=8) U (aM fun k=>?_) (aL fun k=>?_)
 ·refine bf 17 U<|RK H<|aO U<|WS fun _ n=>rP 1 [] mn ?_
  refine RK n<|an<|Q1 hQ U U U ?_
  exact cB (fH (pJ (.inl k))).symm
 refine rP 6 [] (mc 0 U mn) ?_
 refine cQ (t:=14) U (aM fun AB=>?_) (aL fun AB=>?_)
 ·refine bf 11 U<|RK H<|aO U<|WS fun _ o=>rP 1 [] mn ?_
  refine RK o<|an<|Q1 hQ U U U ?_
  exact cB (fH (pJ (.inr I))).symm
 refine rP 6 [] (mc 0 U mn) ?_
 refine cQ (t:=20) U (aM fun f=>?_) (aL fun f=>?_)
 ·refine bf 5 U<|RK H<|aO U<|WS fun _ p=>rP 1 [] mn ?_
  refine RK p<|an<|Q1 hQ U U U ?_
  exact cB (fH (pJ (.inr I))).symm
 refine rP 5 [] (mc 0 U mn) ?_
 refine RK H<|cy U (aM fun h=>?_) (aL fun h=>?_)
 ·refine WS fun _ q=>rP 1 [] mn ?_
  refine RK q<|an<|Q1 hQ U U U ?_
  exact cB (fH (pJ (.inr I))).symm
 refine WK m<|ah fun _ s=>WS fun _ N=>rP 1 [] mn ?_
 refine RK N<|av ?_
 have B:(0≤r.ay.length)∧(lL r 0):=by exact ⟨Nat.zero_le _,Dh⟩
 refine bH (ι:={z:Nat // (z≤r.ay.length)∧(lL r z)}) [1] [0,1,2,3,4,5,6,7,8] U U (fun z=>[(3,(vI (z.1:Int)))]) (fun z=>[]) (fun _=>rfl) (fun _=>rfl) (fun z=>r.ay.length-z.1) ⟨0,B⟩ (aT U) (aH [0,1,2,3,4,5,6,7,8]) ?_
 clear B
 rintro ⟨i,⟨x,F⟩⟩ J11 L
 try dsimp only
 refine ah fun _ O=>WS fun _ P=>rP 5 [] (mc 0 U mn) ?_
 refine RK P<|bL U (aL fun AB=>?_) (aM fun AB=>?_)
 ·refine bu<|ab<|ab<|au<|KK s<|WS fun _ b=>rP 1 [] mn ?_
  refine RK b<|an<|Q1 hQ U U U ?_
  exact cB (cf (GD k I F I)).symm
 refine WK O<|ah fun _ R=>av<|ah fun _ S=>WS fun _ T=>rP 3 [] (mc 0 U mn) ?_
 obtain ⟨ht,D⟩:=aJ r.ay i I
 obtain ⟨A,C⟩:=aJ ha i I
 have E:(List.zipWith cP r.ay ha)[i]? =some (cP ht A):=dy D C
 refine rS (IA i U (aD 7 U) rz dc I I)<|rS (fV i 0 (vS A.1.1 ht.length A.1.2) U bX (aD 7 U) E U dc U) ?_
 obtain ⟨A0,AO,w⟩:=hraw.o5 _ _ _ D C
 refine rP 2 [] mn ?_
 refine RK T<|cy U (aM fun J=>?_) (aL fun J=>?_)
 ·refine WS fun _ AA=>rP 1 [] mn ?_
  refine RK AA<|an<|Q1 hQ U U U ?_
  exact cB (fH (BL D J)).symm
 refine WK S<|WS fun _ V=>rP 1 [] mn ?_
 refine RK V<|av ?_
 have B:(0≤ht.length)∧(m0 ht 0):=by exact ⟨Nat.zero_le _,Cs⟩
 refine bH (ι:={z:Nat // (z≤ht.length)∧(m0 ht z)}) [1,3] [0,1,2,3,4,5,6,7,8] U U (fun z=>[(4,(vI (z.1:Int)))]) (fun z=>[]) (fun _=>rfl) (fun _=>rfl) (fun z=>ht.length-z.1) ⟨0,B⟩ (aT U) (aH [0,1,2,3,4,5,6,7,8]) ?_
 clear B
 rintro ⟨j,⟨y,G⟩⟩ J20 M
 try dsimp only
 refine ah fun _ W=>WS fun _ X=>fw 4 [] (mc 0 U mn) U<|rS (IA i U (aD 7 U) rz dc I I)<|rS (fV i 0 (vS A.1.1 ht.length A.1.2) U bX (aD 7 U) E U dc U)<|rP 2 [] mn ?_
 refine RK X<|bL U (aL fun g=>?_) (aM fun g=>?_)
 ·refine bu<|ab<|ab<|au<|aG<|KK R<|aj<|rP 3 [] mn ?_
  refine aC ?_
  have e:(vI (((i+1):Nat):Int))=(vI ((i:Int)+1)):=by exact cI I
  refine aS (L ⟨(i+1),⟨I,CB F D (E7 J G I)⟩⟩ _ _ _ U os (dh.cons U<|aX U e<|dh.nil _) (aH [0,1,2,3,4,5,6,7,8]))
 refine WK W<|ah fun _ Y=>av<|WS fun _ Z=>fw 3 [] (mc 0 U mn) U<|rS (IA i U (aD 7 U) rz dc I I)<|rS (fV i 0 (vS A.1.1 ht.length A.1.2) U bX (aD 7 U) E U dc U)<|rP 1 [] mn ?_
 obtain ⟨d,hd⟩:=aJ ht j I
 obtain ⟨da,u⟩:=aJ A.2 j I
 have v:(List.zipWith ax.cells ht A.2)[j]? =some (ax.cells d da):=dy hd u
 refine rS (IA j U (show il _ (rd A.1.1 ht.length 7 (List.zipWith ax.cells ht A.2)).holds from (du 8 U (bM D C cb))) wE dc I I)<|rS (nS ((j*7)+4) U (show il _ (rd A.1.1 ht.length 7 (List.zipWith ax.cells ht A.2)).holds from (du 8 U (bM D C cb))) (Nat.mul_pos I dc) fu U)<|rS (nS (((j*7)+4)+2) U (show il _ (rd A.1.1 ht.length 7 (List.zipWith ax.cells ht A.2)).holds from (du 8 U (bM D C cb))) (Nat.mul_pos I dc) fu U)<|rS (fV j 6 (vS da.1 d.cr.ag.length da.2) U bX (show il _ (rd A.1.1 ht.length 7 (List.zipWith ax.cells ht A.2)).holds from (du 8 U (bM D C cb))) v U dc U) ?_
 have A2:=w d (aR hd)
 refine rP 2 [] mn ?_
 refine RK Z<|bL U (aL fun K=>?_) (aM fun K=>?_)
 ·refine b_<|aG<|KK Y<|aj<|rP 3 [] mn ?_
  refine aC ?_
  have c:(vI (((j+1):Nat):Int))=(vI ((j:Int)+1)):=by exact cI I
  refine aS (M ⟨(j+1),⟨I,Cj G hd K⟩⟩ _ _ _ U os (dh.cons U<|dh.cons U<|aX U c<|dh.nil _) (aH [0,1,2,3,4,5,6,7,8]))
 refine WS fun _ a=>rP 1 [] mn ?_
 refine RK a<|an<|Q1 hQ U U U ?_
 exact cB (fH (DR D hd K)).symm
end
section
open Go.RowKit
theorem ES (l:a_) (kA:OA) (kC:Nat) (az:List RA) (cA:OA) (cC:Nat) (bA:OA) (bC:Nat) (d:ax) (sgA:OA) (sgC:Nat) (hin:er l az) (hle:dq l=0) (hsl:d.cr.ag.length≤1000000) (hk:d.Out=true):
 dT Tryz.prog 138 [(vA (ck.cells (lk l kA kC cA cC bA bC))),(vA (bk.cells (bk.mk d.Out d.eH d.Time (mG d.cr sgA sgC))))] [(rd kA l.aP.length 9 (l.aP.map al.cells)),(rd cA l.ak.length 2 (List.zipWith ar.cells l.ak az)),(eW (aV ar.g0 l.ak az)),(rd bA l.ae.length 4 (l.ae.map bD.cells)),(rd sgA d.cr.ag.length 2 (d.cr.ag.map aK.cells))] (vT [(vA (aa.cells (oW l d))),(vB (decide (ib l d)))]):=by
 have K:=hin.sH
 have J:=hin.sI
 have H:=hin.oF
 have AA:=hin.sG
 refine bx kr Tryz.func138 U U fun O Q hQ hN=>?_
 try dsimp only
 refine WS fun _ B=>fK U fun L=>fK U fun M=>AL U de fun N=>bf 1 U<|RK B<|ah fun _ E=>av<|WS fun _ C=>rP 3 [] (mc 1 U mn) ?_
 refine RK C<|bL U (fun G=>?_) (fun G=>?_)
 ·exact absurd ((hk).symm.trans G) dc
 refine WS fun _ A=>rS (SX (bh (xs:=[]) (cs:=(aa.cells (aa.mk 0 0))) U U (bg gp U)) U U)<|rP 4 [] (mc 1 U mn) ?_
 refine bZ (t:=15) U (fun D=>?_) (fun D=>?_)
 ·rw [Bool.not_eq_false'] at D
  refine bf 10 U<|fP U cm U<|rP 1 [] mn ?_
  refine RK A<|an<|lj hQ [0] (mc 0 U mn) U ?_
  clear hQ hN A C E B
  rw [AF hk]
  simp only [qE hk]
  refine congrArg (fun z=>Value.tuple #[_,vB z]) ?_
  first|rfl|(simp_all [dv]; done)
 rw [Bool.not_eq_true'] at D
 refine bf 1 U<|rS (LP (aa.cells d.Time) 1 U bX U U U)<|rS (SX (bh (xs:=[]) (cs:=(aa.cells (aa.mk 0 0))) U U (bg gp U)) U U)<|rS (BI U (s8 _ _ d.Time (aa.mk 0 0)))<|rP 2 [] mn ?_
 refine bZ (t:=21) U (aL fun F=>?_) (aM fun F=>?_)
 ·refine bf 4 U<|fP U cm U<|rP 1 [] mn ?_
  refine RK A<|an<|lj hQ [0] (mc 0 U mn) U ?_
  clear hQ hN A C E B
  rw [AF hk]
  simp only [qE hk]
  refine congrArg (fun z=>Value.tuple #[_,vB z]) ?_
  first|rfl|(simp_all [dv]; done)
 refine bf 1 U<|rS (LP (eB.cells (mG d.cr sgA sgC)) 1 U bX U U U)<|rS (CL (Gf d.cr sgA sgC) (bj [7]) U)<|bf 1 U<|fP U cm U<|rP 1 [] mn ?_
 refine RK A<|an<|lj hQ [0] (mc 0 U mn) U ?_
 clear hQ hN A C E B
 rw [AF hk]
 simp only [qE hk]
 refine congrArg (fun z=>Value.tuple #[_,vB z]) ?_
 first|rfl|(simp_all [dv]; done)
theorem EI (l:a_) (kA:OA) (kC:Nat) (az:List RA) (cA:OA) (cC:Nat) (bA:OA) (bC:Nat) (d:ax) (sgA:OA) (sgC:Nat) (hin:er l az) (hle:dq l=0) (hsl:d.cr.ag.length≤1000000) (hk:d.Out=false∧d.eH=true):
 dT Tryz.prog 138 [(vA (ck.cells (lk l kA kC cA cC bA bC))),(vA (bk.cells (bk.mk d.Out d.eH d.Time (mG d.cr sgA sgC))))] [(rd kA l.aP.length 9 (l.aP.map al.cells)),(rd cA l.ak.length 2 (List.zipWith ar.cells l.ak az)),(eW (aV ar.g0 l.ak az)),(rd bA l.ae.length 4 (l.ae.map bD.cells)),(rd sgA d.cr.ag.length 2 (d.cr.ag.map aK.cells))] (vT [(vA (aa.cells (oW l d))),(vB (decide (ib l d)))]):=by
 have N:=hin.sH
 have M:=hin.sI
 have K:=hin.oF
 have L:=hin.sG
 refine bx kr Tryz.func138 U U fun S Q hQ hN=>?_
 try dsimp only
 refine WS fun _ D=>fK U fun O=>fK U fun P=>AL U de fun R=>bf 1 U<|RK D<|ah fun _ H=>av<|WS fun _ E=>rP 3 [] (mc 1 U mn) ?_
 refine RK E<|cy U (fun J=>?_) (fun J=>?_)
 ·exact absurd ((hk.1).symm.trans J) dc
 refine WS fun _ F=>rP 3 [] (mc 1 U mn) ?_
 refine RK F<|bL U (fun G=>?_) (fun G=>?_)
 ·exact absurd ((hk.2).symm.trans G) dc
 refine ah fun _ B=>dG cu [10] [] [] [1,2,3,4,5,6,7] [] U U U U U<|eS U (FA 2 U fu U)<|eS U (LP (aa.cells d.Time) 0 U bX U U U)<|eS U (FA 2 U fu U)<|eS U (LP (aa.cells d.Time) 0 U bX U U U)<|eS U (CL (MK d.Time) (aI) U)<|eS U (MV U)<|rp (t:=34) U (fun A=>?_) (fun A=>?_)
 rotate_left 1
 ·replace A:=DF A
  refine eS U (OX U)<|eS U (OX U)<|eS U (OX U)<|eS U (PK U)<|eS U (AG U)<|eV U<|bY U fun T10 C=>fP U cm U<|aC (C _ _ (aH [1,2,3,4,5,6,7]) ?_)
  refine fF U<|KK B<|an<|lj hQ [0] (mc 0 U mn) U ?_
  clear hQ hN C T10 B F E H D
  rw [Fv hk]
  simp only [sX hk]
  refine congrArg (fun z=>Value.tuple #[_,vB z]) ?_
  first|rfl|(simp_all; done)
 replace A:=DT A
 refine eS U (FA 4 U fu U)<|eS U (LP (eB.cells (mG d.cr sgA sgC)) 0 U bX U U U)<|eS U (CL (Gf d.cr sgA sgC) (bj [6]) U)<|eS U (PK U)<|eS U (AG U)<|eV U<|bY U fun T9 AA=>fP U cm U<|aC (AA _ _ (aH [1,2,3,4,5,6,7]) ?_)
 refine fF U<|KK B<|an<|lj hQ [0] (mc 0 U mn) U ?_
 clear hQ hN AA T9 B F E H D
 rw [Fv hk]
 simp only [sX hk]
 refine congrArg (fun z=>Value.tuple #[_,vB z]) ?_
 first|rfl|(simp_all; done)
theorem EC (l:a_) (kA:OA) (kC:Nat) (az:List RA) (cA:OA) (cC:Nat) (bA:OA) (bC:Nat) (d:ax) (sgA:OA) (sgC:Nat) (hin:er l az) (hle:dq l=0) (hsl:d.cr.ag.length≤1000000) (hk:d.Out=false∧d.eH=false):
 dT Tryz.prog 138 [(vA (ck.cells (lk l kA kC cA cC bA bC))),(vA (bk.cells (bk.mk d.Out d.eH d.Time (mG d.cr sgA sgC))))] [(rd kA l.aP.length 9 (l.aP.map al.cells)),(rd cA l.ak.length 2 (List.zipWith ar.cells l.ak az)),(eW (aV ar.g0 l.ak az)),(rd bA l.ae.length 4 (l.ae.map bD.cells)),(rd sgA d.cr.ag.length 2 (d.cr.ag.map aK.cells))] (vT [(vA (aa.cells (oW l d))),(vB (decide (ib l d)))]):=by
 have O:=hin.sH
 have N:=hin.sI
 have L:=hin.oF
 have M:=hin.sG
 refine bx kr Tryz.func138 U U fun AA Q hQ hN=>?_
 try dsimp only
 refine WS fun _ E=>fK U fun P=>fK U fun R=>AL U de fun S=>bf 1 U<|RK E<|ah fun _ F=>av<|WS fun _ G=>rP 3 [] (mc 1 U mn) ?_
 refine RK G<|cy U (fun K=>?_) (fun K=>?_)
 ·exact absurd ((hk.1).symm.trans K) dc
 refine WS fun _ H=>rP 3 [] (mc 1 U mn) ?_
 refine RK H<|cy U (fun J=>?_) (fun J=>?_)
 ·exact absurd ((hk.2).symm.trans J) dc
 refine b_<|aG<|KK F<|WS fun _ AB=>fw 2 [] (mc 2 U mn) U<|rS (LP (eB.cells (mG d.cr sgA sgC)) 1 U bX U U U)<|rS (CL (P0 l kA kC az cA cC bA bC d.cr sgA sgC hin hsl) (bj [3,4,5,6,7]) U)<|bf 3 U<|AL U de fun T=>fP U cm U<|rP 1 [] mn ?_
 refine RK AB<|ah fun _ A=>dG cu [9] [] [] [0,2,3,4,5,6,7,8] [] U U U U U<|eS U (LW 0 U bX U U)<|eS U (MV U)<|eS U (BI U lu)<|eS U (MV U)<|rp (t:=49) U (fun B=>?_) (fun B=>?_)
 rotate_left 1
 ·replace B:=DF B
  refine eS U (OX U)<|eS U (OX U)<|eS U (OX U)<|eS U (OX U)<|eS U (PK U)<|eS U (AG U)<|eV U<|bY U fun T12 D=>ub U cm U<|aC (D _ _ (aH [0,2,3,4,5,6,7,8]) ?_)
  refine fF U<|KK A<|an<|lj hQ [0] (mc 1 U mn) U ?_
  clear hQ hN D T12 A AB H G F E
  rw [Gp hk]
  simp only [sU hk]
  refine congrArg (fun z=>Value.tuple #[_,vB z]) ?_
  first|rfl|(simp_all [dv]; done)
 replace B:=DT B
 refine eS U (FA 2 U fu U)<|eS U (LP (aa.cells d.Time) 1 U bX U U U)<|eS U (SX (bh (xs:=[]) (cs:=(aa.cells (aa.mk 0 0))) U U (bg gp U)) U U)<|eS U (BI U (s8 _ _ d.Time (aa.mk 0 0)))<|eS U (PK U)<|eS U (AG U)<|eV U<|bY U fun T11 C=>ub U cm U<|aC (C _ _ (aH [0,2,3,4,5,6,7,8]) ?_)
 refine fF U<|KK A<|an<|lj hQ [0] (mc 1 U mn) U ?_
 clear hQ hN C T11 A AB H G F E
 rw [Gp hk]
 simp only [sU hk]
 refine congrArg (fun z=>Value.tuple #[_,vB z]) ?_
 first|rfl|(simp_all [dv]; done)
theorem HL (l:a_) (kA:OA) (kC:Nat) (az:List RA) (cA:OA) (cC:Nat) (bA:OA) (bC:Nat) (d:ax) (sgA:OA) (sgC:Nat) (hin:er l az) (hle:dq l=0) (hsl:d.cr.ag.length≤1000000):
 dT Tryz.prog 138 [(vA (ck.cells (lk l kA kC cA cC bA bC))),(vA (bk.cells (bk.mk d.Out d.eH d.Time (mG d.cr sgA sgC))))] [(rd kA l.aP.length 9 (l.aP.map al.cells)),(rd cA l.ak.length 2 (List.zipWith ar.cells l.ak az)),(eW (aV ar.g0 l.ak az)),(rd bA l.ae.length 4 (l.ae.map bD.cells)),(rd sgA d.cr.ag.length 2 (d.cr.ag.map aK.cells))] (vT [(vA (aa.cells (oW l d))),(vB (decide (ib l d)))]):=by
 by_cases ho:d.Out=true
 ·exact ES l kA kC az cA cC bA bC d sgA sgC hin hle hsl ho
 by_cases hf:d.eH=true
 ·exact EI l kA kC az cA cC bA bC d sgA sgC hin hle hsl ⟨by simpa using ho,hf⟩
 ·exact EC l kA kC az cA cC bA bC d sgA sgC hin hle hsl ⟨by simpa using ho,by simpa using hf⟩
end
section
open Go.RowKit
theorem DP (r:bT) (kA:OA) (kC:Nat) (az:List RA) (cA:OA) (cC:Nat) (bA:OA) (bC:Nat) (slA:OA) (slC:Nat) (drA:OA) (drC:Nat) (ha:List cO) (heA:OA) (heC:Nat) (hin:e9 r az ha) (hle:dq r.ao=0):
 ly Tryz.prog 112 [(vA (cv.cells (oH r kA kC cA cC bA bC slA slC drA drC heA heC)))] [(rd kA r.ao.aP.length 9 (r.ao.aP.map al.cells)),(rd cA r.ao.ak.length 2 (List.zipWith ar.cells r.ao.ak az)),(eW (aV ar.g0 r.ao.ak az)),(rd bA r.ao.ae.length 4 (r.ao.ae.map bD.cells)),(rd slA r.aQ.length 1 (r.aQ.map iC)),(rd drA r.bQ.length 1 (r.bQ.map iC)),(rd heA r.ay.length 1 (List.zipWith cP r.ay ha)),(eW (aV iu r.ay ha))] (fun (x:Bool×Int×(OA)×Nat×(List RA))=>bif x.1 then (vT [(vS x.2.2.1 ((cN r).length) x.2.2.2.1),(vB true)]) else (vT [(vS none 0 0),(vB false)])) (fun (x:Bool×Int×(OA)×Nat×(List RA))=>(x.1=true→(eP r∧x.2.2.2.2.length=r.ay.length))∧(x.1=false→(x.2.1=0∧ ¬ eP r))) (fun (x:Bool×Int×(OA)×Nat×(List RA))=>bif x.1 then [(own x.2.2.1 x.2.2.2.1 82 1 (List.zipWith DC (cN r) x.2.2.2.2)),(bw (aV Du (cN r) x.2.2.2.2))] else []):=by
 have L2:=hin.line
 have PF:=hin.iO
 have PP:=hin.has
 have Ne:=hin.iN
 have NE:=hin.draw
 have OP:=dA (r:=r)
 refine dj kr Tryz.func112 U U fun w0 Q hQ hN=>?_
 try dsimp only
 refine WS fun _ LA=>fK U fun b2=>bf 2 U<|RK LA<|WS fun _ LE=>fw 4 [] (mc 0 U mn) U<|RK LE<|ah fun _ LS=>WS fun _ N=>bf 1 U<|rS (CL (oR (r.aQ.length:Int) 1 5) (aI) U)<|rP 2 [] mn ?_
 refine cQ (t:=19) U (bp fun J6=>?_) (bq fun J6=>?_)
 ·refine bf 19 U<|RK N<|aO U<|WS fun _ LT=>rP 2 [] mn ?_
  refine RK LT<|an<|LX hQ (false,0,none,0,[]) [] [] mn U (by rfl) U U ?_
  (exact ⟨Ba,fun _=>⟨rfl,fun q=>by have S:=q.num; have q2:=q.xo; have q3:=q.nh; have q4:=q.yo; omega⟩⟩)
 refine rP 7 [] (mc 0 U mn) ?_
 refine cQ (t:=26) U (bp fun X=>?_) (bq fun X=>?_)
 ·refine bf 12 U<|RK N<|aO U<|WS fun _ La=>rP 2 [] mn ?_
  refine RK La<|an<|LX hQ (false,0,none,0,[]) [] [] mn U (by rfl) U U ?_
  (exact ⟨Ba,fun _=>⟨rfl,fun q=>by have S:=q.num; have q2:=q.xo; have q3:=q.nh; have q4:=q.yo; omega⟩⟩)
 refine fw 2 [] (mc 0 U mn) U<|rS (CL (oR r.iK 0 5) (aI) U)<|rP 3 [] mn ?_
 refine cQ (t:=32) U (bp fun J7=>?_) (bq fun J7=>?_)
 ·refine bf 6 U<|RK N<|aO U<|WS fun _ Li=>rP 2 [] mn ?_
  refine RK Li<|an<|LX hQ (false,0,none,0,[]) [] [] mn U (by rfl) U U ?_
  (exact ⟨Ba,fun _=>⟨rfl,fun q=>by have S:=q.num; have q2:=q.xo; have q3:=q.nh; have q4:=q.yo; omega⟩⟩)
 refine fw 3 [] (mc 0 U mn) U<|rS (CL (oR (r.ay.length:Int) 1 3) (aI) U)<|rP 2 [] mn ?_
 refine RK N<|cy U (bp fun J9=>?_) (bq fun J9=>?_)
 ·refine WS fun _ Lk=>rP 2 [] mn ?_
  refine RK Lk<|an<|LX hQ (false,0,none,0,[]) [] [] mn U (by rfl) U U ?_
  (exact ⟨Ba,fun _=>⟨rfl,fun q=>by have S:=q.num; have q2:=q.xo; have q3:=q.nh; have q4:=q.yo; omega⟩⟩)
 refine WK LS<|ah fun _ o=>WS fun _ p=>rP 1 [] mn ?_
 refine RK p<|av ?_
 have A:(0≤r.aQ.length)∧(xG r 0):=by exact ⟨Nat.zero_le _,L5⟩
 refine bH (ι:={z:Nat // (z≤r.aQ.length)∧(xG r z)}) [1,4] [0,1,2,3,4,5,6,7,8] U U (fun z=>[(5,(vI (z.1:Int)))]) (fun z=>[]) (fun _=>rfl) (fun _=>rfl) (fun z=>r.aQ.length-z.1) ⟨0,A⟩ (aT U) (aH [0,1,2,3,4,5,6,7,8]) ?_
 clear A
 rintro ⟨i,⟨L0,AB⟩⟩ J12 T
 try dsimp only
 refine ah fun _ s=>WS fun _ v=>rP 3 [] mn ?_
 refine RK v<|bL U (aL fun J5=>?_) (aM fun J5=>?_)
 ·refine bu<|ab<|ab<|au<|KK o<|WS fun _ BX=>bf 1 U<|RK BX<|ah fun _ B3=>WS fun _ B7=>rP 1 [] mn ?_
  refine RK B7<|av<|fQ 82 1<|oG ?_
  have A:(0≤r.ay.length)∧(([]:List RA).length=0)∧(j6 r 0):=by exact ⟨Nat.zero_le _,rfl,xI⟩
  refine bH (ι:={z:Nat×(List RA)×(OA)×Nat // (z.1≤r.ay.length)∧(z.2.1.length=z.1)∧(j6 r z.1)}) [1,4] [2,3,4,5,6,7,8,9,10] U U (fun z=>[(7,(vS z.1.2.2.1 ((List.zipWith CM (gu r z.1.1) z.1.2.1).length) z.1.2.2.2)),(8,(vI (z.1.1:Int)))]) (fun z=>[(bw (aV Du (gu r z.1.1) z.1.2.1)),(own z.1.2.2.1 z.1.2.2.2 82 1 (List.map sC (List.zipWith CM (gu r z.1.1) z.1.2.1)))]) (fun _=>rfl) (fun _=>rfl) (fun z=>r.ay.length-z.1.1) ⟨(0,([]:List RA),none,0),A⟩ (aT U) (aH [2,3,4,5,6,7,8,9,10,0,1]) ?_
  clear A
  rintro ⟨⟨h,tz,a,c⟩,⟨P,C,F⟩⟩ J46 l
  try dsimp only at P C F
  try dsimp only
  refine ah fun _ B9=>WS fun _ Ci=>rP 5 [] (mc 0 U mn) ?_
  refine RK Ci<|bL U (aL fun K0=>?_) (aM fun K0=>?_)
  ·refine bu<|ab<|ab<|au<|KK B3<|ah fun _ Fn=>?_
   have Ls:gu r h=cN r:=by unfold cN; rw [show h=r.ay.length by omega]
   have L3:tz.length=r.ay.length:=by omega
   rw [Ls,yQ,show (List.zipWith CM (cN r) tz).length=(cN r).length from by rw [List.length_zipWith]; omega]
   have Id:eP r:=Hv (n:=i) I I I I I AB F I
   refine aj<|rP 3 [] mn ?_
   refine RK Fn<|an ?_
   refine LX hQ (true,0,a,c,tz) [10,9] [] mn U (by (show List.all _ _=true; simp only [cond_true,fz,List.all_nil,xx,Bool.and_true]; rfl)) U U ?_
   exact ⟨fun _=>⟨Id,L3⟩,MT⟩
  refine WK B9<|ah fun _ Ck=>av<|ah fun _ Cp=>WS fun _ Cx=>rP 3 [] (mc 0 U mn) ?_
  obtain ⟨ht,D⟩:=aJ r.ay h I
  obtain ⟨E,H⟩:=aJ ha h I
  have W:(List.zipWith cP r.ay ha)[h]? =some (cP ht E):=dy D H
  refine rS (IA h U (aD 7 U) rz dc I I) ?_
  have IR:=hin.o5 _ _ _ D H
  have NU:=IR.oF
  refine rS (fV h 0 (vS E.1.1 ht.length E.1.2) U bX (aD 7 U) W U dc U)<|rP 3 [] mn ?_
  refine RK Cx<|cy U (bp fun e=>?_) (bq fun e=>?_)
  ·refine WS fun _ C0=>rP 2 [] mn ?_
   refine RK C0<|an<|LX hQ (false,0,none,0,[]) [] [] mn U (by rfl) U U ?_
   (exact ⟨Ba,fun _=>⟨rfl,fun q=>by have S:=(q.o5 ht (aR D)).1; omega⟩⟩)
  refine WK Cp<|WS fun _ C1=>bf 1 U<|RK C1<|ah fun _ C2=>WS fun _ C3=>rP 1 [] mn ?_
  refine RK C3<|av<|fQ 40 2 ?_
  have A:(0≤ht.length)∧(n7 r.ao ht 0):=by exact ⟨Nat.zero_le _,vh⟩
  refine bH (ι:={z:Nat×(OA)×Nat // (z.1≤ht.length)∧(n7 r.ao ht z.1)}) [1,4,7,8] [1,2,3,4,5,6,7,8,9,10,11] U U (fun z=>[(9,(vS z.1.2.1 (((ht.take z.1.1).map (dx r.ao)).length) z.1.2.2)),(10,(vI (z.1.1:Int)))]) (fun z=>[(own z.1.2.1 z.1.2.2 40 2 (((ht.take z.1.1).map (dx r.ao)).map aa.cells))]) (fun _=>rfl) (fun _=>rfl) (fun z=>ht.length-z.1.1) ⟨(0,none,0),A⟩ (aT U) (aH [1,2,3,4,5,6,7,8,9,10,11,0]) ?_
  clear A
  rintro ⟨⟨j,la,lc⟩,⟨R,G⟩⟩ J57 m
  try dsimp only at R G
  try dsimp only
  refine ah fun _ Di=>WS fun _ Do=>rP 3 [] mn ?_
  refine RK Do<|bL U (aL fun K8=>?_) (aM fun K8=>?_)
  ·refine bu<|ab<|ab<|au<|KK C2<|aj ?_
   rw [show ((ht.take j).map (dx r.ao))=ht.map (dx r.ao) from by rw [List.take_of_length_le I]]
   refine rP 2 [] mn ?_
   refine cY (xs:=[.tmp 137]) (cs:=[(vS la ((ht.map (dx r.ao)).length) lc)]) U Nl SM U U U U (by simp [Value.cells]) U U fun Os=>?_
   refine db (es2:=(List.map sC (List.zipWith CM (gu r (h+1)) (tz++[(la,lc)])))) (m':=(List.zipWith CM (gu r (h+1)) (tz++[(la,lc)])).length) 11 U U U RL U U sm (aZ (es:=List.map sC [(br.mk la ((ht.map (dx r.ao)).length) lc)]) 0 U U (by simp [zF]) U) (Lu _) (by rw [List.length_zipWith,kI I]; omega) (by rw [List.length_zipWith,kI I]; simp only [maxLen]; omega) (by rw [tI D C,List.map_append]; rfl) (by rw [tI D C]; simp) U fun J2 J4=>?_
   try dsimp only
   refine bf 1 U<|aC<|aG<|KK Ck<|aj<|rP 3 [] mn ?_
   refine aC<|Cq (X':=aV Du (gu r (h+1)) (tz++[(la,lc)])) 10 12 U U (Cn (a:=(la,lc)) D C) ?_
   have H1:(vI (((h+1):Nat):Int))=(vI ((h:Int)+1)):=by exact cI I
   refine aS (l ⟨((h+1),(tz++[(la,lc)]),J2,J4),⟨I,by simp; omega,wo F D (F_ I G I)⟩⟩ _ _ _ U os (ct 3<|aX U H1<|dh.nil _) (aH [2,3,4,5,6,7,8,9,10,0,11]))
  refine WK Di<|ah fun _ Dr=>av<|ah fun _ EQ=>dG cu [14,15] [] [] [0,1,2,3,4,5,6,7,8,9,10,11] [] U U U U U<|eS U (FA 0 U fu U)<|eS U (LP (ck.cells (lk r.ao kA kC cA cC bA bC)) 0 U bX U U U)<|eS U (FA 10 U fu U)<|eS U (L1 (vS heA r.ay.length heC) 0 U bX U U)<|eS U (MV U)<|eS U (IA h U (aD 7 U) rz dc I I)<|eS U (fV h 0 (vS E.1.1 ht.length E.1.2) U bX (aD 7 U) W U dc U)<|eS U (MV U) ?_
  obtain ⟨d,hd⟩:=aJ ht j I
  obtain ⟨da,IO⟩:=aJ E.2 j I
  have Lo:(List.zipWith ax.cells ht E.2)[j]? =some (ax.cells d da):=dy hd IO
  refine eS U (IA j U (show il _ (rd E.1.1 ht.length 7 (List.zipWith ax.cells ht E.2)).holds from (du 8 U (bM D H cb))) wE dc I I)<|eS U (oI j 0 (bk.cells (bk.mk d.Out d.eH d.Time (eB.mk d.cr.Start d.cr.fZ (br.mk da.1 d.cr.ag.length da.2)))) U bX (show il _ (rd E.1.1 ht.length 7 (List.zipWith ax.cells ht E.2)).holds from (du 8 U (bM D H cb))) Lo U dc U U) ?_
  have PU:=IR.sig d (aR hd)
  refine eS U (CL (HL r.ao kA kC az cA cC bA bC d da.1 da.2 asm hle asm) (lM [1,2,3,4]<|aw (show il _ (rd da.1 d.cr.ag.length 2 (d.cr.ag.map aK.cells)).holds from (du 8 U (bM D H (cR _ (bM hd IO (by simp [ax.g0]))))))<|aI) U)<|eS U (MV U)<|eS U (EX U)<|eS U (EX U)<|eS U (AG U)<|eV U<|bY U fun T63 F0=>AL U de fun Op=>aC (F0 _ _ (aH [1,2,3,4,5,6,7,8,9,10,11,12]) ?_)
  refine bY U fun T65 F6=>fP U cm U<|aC (F6 _ _ (aH [1,2,3,4,5,6,7,8,9,10,11,12]) ?_)
  refine fF U<|KK EQ<|ah fun _ Eq=>WS fun _ FS=>rP 2 [] mn ?_
  refine RK FS<|cy U (bp fun J=>?_) (bq fun J=>?_)
  ·refine WS fun _ Fd=>rP 2 [] mn ?_
   refine RK Fd<|an<|LX hQ (false,0,none,0,[]) [] [] mn U (by rfl) U U ?_
   (exact ⟨Ba,fun _=>⟨rfl,fun q=>by exact J ((q.o5 ht (aR D)).2 d (aR hd))⟩⟩)
  refine WK Eq<|aj<|rP 2 [] (mc 0 U mn) ?_
  refine cY (xs:=[.tmp 133]) (cs:=(aa.cells (oW r.ao d))) U jJ de U U U U (by simp [Value.cells,aa.aU]) U U fun Or=>?_
  refine db (es2:=(List.map aa.cells ((ht.take (j+1)).map (dx r.ao)))) (m':=((ht.take (j+1)).map (dx r.ao)).length) 13 U U U EF U U sm (aZ (es:=List.map aa.cells [(oW r.ao d)]) 0 U U (by simp [aa.aU]) U) (gS _) (by simp only [List.length_map,List.length_take]; omega) (by simp only [maxLen,List.length_map,List.length_take]; omega) (by rw [List.take_add_one,hd]; simp [Mm J]) sq U fun JL J3=>?_
  try dsimp only
  refine bf 1 U<|aC<|aG<|KK Dr<|aj<|rP 3 [] mn ?_
  refine aC ?_
  have Hi:(vI (((j+1):Nat):Int))=(vI ((j:Int)+1)):=by exact cI I
  refine aS (m ⟨((j+1),JL,J3),⟨I,vo G hd J⟩⟩ _ _ _ U os (ct 5<|aX U Hi<|dh.nil _) (aH [2,3,4,5,6,7,8,9,10,11,12,13]))
 refine WK s<|ah fun _ AA=>av<|ah fun _ V=>ah fun _ K=>dB cu 36 kr<|dP 3 [] (mc 0 U mn) ?_
 obtain ⟨y,hy⟩:=aJ r.aQ i I
 have If:=bG iC hy
 refine dS (IA i U (aD 5 U) cp dc I I)<|dS (fV i 0 (vI y) U bX (aD 5 U) If U dc U)<|dS (CL (oR y 0 9999) (aI) U)<|dP 2 [] mn ?_
 refine iZ (t:=51) U (bp fun K4=>?_) (bq fun K4=>?_)
 ·refine lz 28 U<|cM<|RK K<|aO U<|WS fun _ w=>rP 2 [] mn ?_
  refine RK w<|an<|LX hQ (false,0,none,0,[]) [] [] mn U (by rfl) U U ?_
  (exact ⟨Ba,fun _=>⟨rfl,fun q=>by have S:=(q.ids i y hy).1; omega⟩⟩)
 refine dP 3 [] mn ?_
 refine jo (t:=54) U (aL fun K5=>?_) (aM fun K5=>?_)
 ·refine dP 18 [] (mc 0 U mn) ?_
  obtain ⟨x,hx⟩:=aJ r.bQ i I
  have M:=bG iC hx
  refine dS (IA i U (aD 6 U) cp dc I I)<|dS (fV i 0 (vI x) U bX (aD 6 U) M U dc U)<|lz 2 U<|dS (CL (oR x 0 ((r.aQ.length:Int)-1)) (aI) U)<|dP 2 [] mn ?_
  refine cM<|RK K<|cy U (bp fun Y=>?_) (bq fun Y=>?_)
  ·refine WS fun _ A3=>rP 2 [] mn ?_
   refine RK A3<|an<|LX hQ (false,0,none,0,[]) [] [] mn U (by rfl) U U ?_
   (exact ⟨Ba,fun _=>⟨rfl,fun q=>by have S:=q.KW hx; omega⟩⟩)
  refine WK V<|WS fun _ A4=>rP 1 [] mn ?_
  refine RK A4<|av ?_
  have A:(0≤i)∧(∀ (q:Nat) y,q<0→r.bQ[q]? =some y→y≠x):=by exact ⟨Nat.zero_le _,fun q y hq=>absurd hq (Nat.not_lt_zero _)⟩
  refine bH (ι:={z:Nat // (z≤i)∧(∀ (q:Nat) y,q<z→r.bQ[q]? =some y→y≠x)}) [1,4,5] [0,1,2,3,4,5,6,7,8] U U (fun z=>[(6,(vI (z.1:Int)))]) (fun z=>[]) (fun _=>rfl) (fun _=>rfl) (fun z=>i-z.1) ⟨0,A⟩ (aT U) (aH [0,1,2,3,4,5,6,7,8]) ?_
  clear A
  rintro ⟨k,⟨O,B⟩⟩ J34 g
  try dsimp only
  refine ah fun _ A5=>WS fun _ A6=>rP 3 [] mn ?_
  refine RK A6<|bL U (aL fun J8=>?_) (aM fun J8=>?_)
  ·refine bu<|ab<|ab<|au<|aG<|KK AA<|aj<|rP 3 [] mn ?_
   refine aC ?_
   have Go:(vI (((i+1):Nat):Int))=(vI ((i:Int)+1)):=by exact cI I
   refine aS (T ⟨(i+1),⟨I,B8 AB (fun a ha=>by rw [hy] at ha; cases ha; exact ⟨I,fun b hb hc=>by omega⟩) (fun a ha=>by rw [hx] at ha; cases ha; exact ⟨I,fun k b hk hb=>B k b I hb⟩)⟩⟩ _ _ _ rfl os (dh.cons rfl<|dh.cons rfl<|aX rfl Go<|dh.nil _) (aH [0,1,2,3,4,5,6,7,8]))
  refine WK A5<|ah fun _ A7=>av<|ah fun _ A8=>dB cu 11 kr<|dP 3 [] (mc 0 U mn) ?_
  obtain ⟨u,hu⟩:=aJ r.bQ k I
  have Z:=bG iC hu
  refine dS (IA k U (aD 6 U) cp dc I I)<|dS (fV k 0 (vI u) U bX (aD 6 U) Z U dc U)<|mL 3 [] (mc 0 U mn) U<|dS (IA i U (aD 6 U) cp dc I I)<|dS (fV i 0 (vI x) U bX (aD 6 U) M U dc U)<|dP 1 [] mn ?_
  refine cM<|RK A8<|bL U (aL fun L=>?_) (aM fun L=>?_)
  ·refine b_<|aG<|KK A7<|aj<|rP 3 [] mn ?_
   refine aC ?_
   have GV:(vI (((k+1):Nat):Int))=(vI ((k:Int)+1)):=by exact cI I
   refine aS (g ⟨(k+1),⟨I,xu B hu L⟩⟩ _ _ _ U os (ct 3<|aX U GV<|dh.nil _) (aH [0,1,2,3,4,5,6,7,8]))
  refine WS fun _ A9=>rP 2 [] mn ?_
  refine RK A9<|an<|LX hQ (false,0,none,0,[]) [] [] mn U (by rfl) U U ?_
  (exact ⟨Ba,fun _=>⟨rfl,fun q=>by have S:=q.num; have q2:=q.xo; have q3:=q.nh; have q4:=q.yo; omega⟩⟩)
 refine mL 3 [] (mc 0 U mn) U<|dS (IA i U (aD 5 U) cp dc I I)<|dS (fV i 0 (vI y) U bX (aD 5 U) If U dc U)<|dP 4 [] (mc 0 U mn) ?_
 obtain ⟨z,hz⟩:=aJ r.aQ (i-1) I
 have M2:=bG iC hz
 refine dS (IA (i-1) U (aD 5 U) cp dc I I)<|dS (fV (i-1) 0 (vI z) U bX (aD 5 U) M2 U dc U)<|dP 4 [] mn ?_
 refine iZ (t:=69) U (aM fun K_=>?_) (aL fun K_=>?_)
 ·refine lz 10 U<|cM<|RK K<|aO U<|WS fun _ AC=>rP 2 [] mn ?_
  refine RK AC<|an<|LX hQ (false,0,none,0,[]) [] [] mn U (by rfl) U U ?_
  (exact ⟨Ba,fun _=>⟨rfl,fun q=>by have S:=(q.ids i y hy).2 z I hz; omega⟩⟩)
 refine dP 3 [] (mc 0 U mn) ?_
 obtain ⟨x,hx⟩:=aJ r.bQ i I
 have M:=bG iC hx
 refine dS (IA i U (aD 6 U) cp dc I I)<|dS (fV i 0 (vI x) U bX (aD 6 U) M U dc U)<|lz 2 U<|dS (CL (oR x 0 ((r.aQ.length:Int)-1)) (aI) U)<|dP 2 [] mn ?_
 refine cM<|RK K<|cy U (bp fun Y=>?_) (bq fun Y=>?_)
 ·refine WS fun _ AK=>rP 2 [] mn ?_
  refine RK AK<|an<|LX hQ (false,0,none,0,[]) [] [] mn U (by rfl) U U ?_
  (exact ⟨Ba,fun _=>⟨rfl,fun q=>by have S:=q.KW hx; omega⟩⟩)
 refine WK V<|WS fun _ AO=>rP 1 [] mn ?_
 refine RK AO<|av ?_
 have A:(0≤i)∧(∀ (q:Nat) y,q<0→r.bQ[q]? =some y→y≠x):=by exact ⟨Nat.zero_le _,fun q y hq=>absurd hq (Nat.not_lt_zero _)⟩
 refine bH (ι:={z:Nat // (z≤i)∧(∀ (q:Nat) y,q<z→r.bQ[q]? =some y→y≠x)}) [1,4,5] [0,1,2,3,4,5,6,7,8] U U (fun z=>[(6,(vI (z.1:Int)))]) (fun z=>[]) (fun _=>rfl) (fun _=>rfl) (fun z=>i-z.1) ⟨0,A⟩ (aT U) (aH [0,1,2,3,4,5,6,7,8]) ?_
 clear A
 rintro ⟨k,⟨O,B⟩⟩ J23 f
 try dsimp only
 refine ah fun _ An=>WS fun _ Ay=>rP 3 [] mn ?_
 refine RK Ay<|bL U (aL fun X=>?_) (aM fun X=>?_)
 ·refine bu<|ab<|ab<|au<|aG<|KK AA<|aj<|rP 3 [] mn ?_
  refine aC ?_
  have GT:(vI (((i+1):Nat):Int))=(vI ((i:Int)+1)):=by exact cI I
  refine aS (T ⟨(i+1),⟨I,B8 AB (fun a ha=>by rw [hy] at ha; cases ha; exact ⟨I,fun b hb hc=>by (rw [hz] at hc; cases hc; omega)⟩) (fun a ha=>by rw [hx] at ha; cases ha; exact ⟨I,fun k b hk hb=>B k b I hb⟩)⟩⟩ _ _ _ rfl os (dh.cons rfl<|dh.cons rfl<|aX rfl GT<|dh.nil _) (aH [0,1,2,3,4,5,6,7,8]))
 refine WK An<|ah fun _ A0=>av<|ah fun _ A1=>dB cu 11 kr<|dP 3 [] (mc 0 U mn) ?_
 obtain ⟨u,hu⟩:=aJ r.bQ k I
 have Z:=bG iC hu
 refine dS (IA k U (aD 6 U) cp dc I I)<|dS (fV k 0 (vI u) U bX (aD 6 U) Z U dc U)<|mL 3 [] (mc 0 U mn) U<|dS (IA i U (aD 6 U) cp dc I I)<|dS (fV i 0 (vI x) U bX (aD 6 U) M U dc U)<|dP 1 [] mn ?_
 refine cM<|RK A1<|bL U (aL fun L=>?_) (aM fun L=>?_)
 ·refine b_<|aG<|KK A0<|aj<|rP 3 [] mn ?_
  refine aC ?_
  have GE:(vI (((k+1):Nat):Int))=(vI ((k:Int)+1)):=by exact cI I
  refine aS (f ⟨(k+1),⟨I,xu B hu L⟩⟩ _ _ _ U os (ct 3<|aX U GE<|dh.nil _) (aH [0,1,2,3,4,5,6,7,8]))
 refine WS fun _ A2=>rP 2 [] mn ?_
 refine RK A2<|an<|LX hQ (false,0,none,0,[]) [] [] mn U (by rfl) U U ?_
 (exact ⟨Ba,fun _=>⟨rfl,fun q=>by exact q.P3 I hu hx L⟩⟩)
end
section
open Go.RowKit
theorem HF (r:bT) (kA:OA) (kC:Nat) (az:List RA) (cA:OA) (cC:Nat) (bA:OA) (bC:Nat) (slA:OA) (slC:Nat) (drA:OA) (drC:Nat) (ha:List cO) (heA:OA) (heC:Nat) (hin:e9 r az ha):
 ly Tryz.prog 77 [(vA (cv.cells (oH r kA kC cA cC bA bC slA slC drA drC heA heC)))] [(rd kA r.ao.aP.length 9 (r.ao.aP.map al.cells)),(rd cA r.ao.ak.length 2 (List.zipWith ar.cells r.ao.ak az)),(eW (aV ar.g0 r.ao.ak az)),(rd bA r.ao.ae.length 4 (r.ao.ae.map bD.cells)),(rd slA r.aQ.length 1 (r.aQ.map iC)),(rd drA r.bQ.length 1 (r.bQ.map iC)),(rd heA r.ay.length 1 (List.zipWith cP r.ay ha)),(eW (aV iu r.ay ha))] (fun (x:Bool×Int×(OA)×Nat×(List RA))=>bif x.1 then (vT [(vS x.2.2.1 ((cN r).length) x.2.2.2.1),(vI 0)]) else (vT [(vS none 0 0),(vI x.2.1)])) (fun (x:Bool×Int×(OA)×Nat×(List RA))=>(x.1=true→(cK r=0∧x.2.2.2.2.length=r.ay.length))∧(x.1=false→(x.2.1=cK r∧ ¬ cK r=0))) (fun (x:Bool×Int×(OA)×Nat×(List RA))=>bif x.1 then [(own x.2.2.1 x.2.2.2.1 82 1 (List.zipWith DC (cN r) x.2.2.2.2)),(bw (aV Du (cN r) x.2.2.2.2))] else []):=by
 have AA:=hin.line
 have b:=hin.iO
 have c:=hin.has
 have Z:=hin.iN
 have Y:=hin.draw
 have a:=dA (r:=r)
 refine dj kr Tryz.func77 U U fun f Q hQ hN=>?_
 try dsimp only
 refine WS fun _ O=>fK U fun e=>bf 2 U<|RK O<|ah fun _ P=>WS fun _ R=>bf 1 U<|rS (LP (ck.cells (lk r.ao kA kC cA cC bA bC)) 0 U bX U U U)<|rS (CL (CD r.ao kA kC az cA cC bA bC asm) (bj [1,2,3,4]) U)<|bf 1 U<|RK R<|WS fun _ S=>rP 2 [] mn ?_
 refine RK S<|cy U (bp fun A=>?_) (bq fun A=>?_)
 ·refine WS fun _ T=>rP 3 [] mn ?_
  refine RK T<|an<|LX hQ (false,(dq r.ao),none,0,[]) [] [] mn U (by rfl) U U ?_
  exact ry<|II (zn A) A
 refine WK P<|WS fun _ G=>rP 1 [] (mc 0 U mn) ?_
 refine cX (DP r kA kC az cA cC bA bC slA slC drA drC ha heA heC hin (by exact A)) (bj [1,2,3,4,5,6,7,8]) U fun d J=>?_
 obtain ⟨K,W,L,M,N⟩:=d
 cases K
 rotate_left 1
 ·obtain ⟨AB,V⟩:=J.1 rfl
  try dsimp only [cond_true,cond_false,List.cons_append,List.nil_append]
  refine bf 5 U<|RK G<|ah fun _ D=>WS fun _ E=>bf 2 U<|RK E<|aW U<|WK D<|WS fun _ F=>rP 3 [] mn ?_
  refine RK F<|an ?_
  refine LX hQ (true,0,L,M,N) [0,1] [] mn U (by (show List.all _ _=true; simp only [cond_true,fz,List.all_nil,xx,Bool.and_true]; rfl)) U U ?_
  exact ⟨fun _=>⟨Cd A AB,V⟩,MT⟩
 obtain ⟨H,he⟩:=J.2 rfl
 try dsimp only at H he
 subst H
 try dsimp only [cond_true,cond_false,List.cons_append,List.nil_append]
 refine bf 5 U<|RK G<|ah fun _ X=>WS fun _ B=>bf 2 U<|RK B<|aO U<|WS fun _ C=>rP 2 [] mn ?_
 refine RK C<|an<|LX hQ (false,60,none,0,[]) [] [] mn U (by rfl) U U ?_
 exact ry<|pS (kz A he)
end
section
open Go.RowKit
theorem Ho (r:bT) (kA:OA) (kC:Nat) (az:List RA) (cA:OA) (cC:Nat) (bA:OA) (bC:Nat) (slA:OA) (slC:Nat) (drA:OA) (drC:Nat) (ha:List cO) (heA:OA) (heC:Nat) (hin:e9 r az ha):
 dT Tryz.prog 53 [(vA (cv.cells (oH r kA kC cA cC bA bC slA slC drA drC heA heC)))] [(rd kA r.ao.aP.length 9 (r.ao.aP.map al.cells)),(rd cA r.ao.ak.length 2 (List.zipWith ar.cells r.ao.ak az)),(eW (aV ar.g0 r.ao.ak az)),(rd bA r.ao.ae.length 4 (r.ao.ae.map bD.cells)),(rd slA r.aQ.length 1 (r.aQ.map iC)),(rd drA r.bQ.length 1 (r.bQ.map iC)),(rd heA r.ay.length 1 (List.zipWith cP r.ay ha)),(eW (aV iu r.ay ha))] (vI (cK r)):=by
 have H:=hin.line
 have M:=hin.iO
 have N:=hin.has
 have J:=hin.iN
 have AB:=hin.draw
 have K:=dA (r:=r)
 refine bx kr Tryz.func53 U U fun V Q hQ hN=>?_
 try dsimp only
 refine WS fun _ G=>fK U fun AA=>bf 1 U<|RK G<|WS fun _ C=>rP 1 [] (mc 0 U mn) ?_
 refine cX (HF r kA kC az cA cC bA bC slA slC drA drC ha heA heC hin) (bj [1,2,3,4,5,6,7,8]) U fun T E=>?_
 obtain ⟨F,L,P,R,S⟩:=T
 cases F
 rotate_left 1
 ·obtain ⟨he,O⟩:=E.1 rfl
  try dsimp only [cond_true,cond_false,List.cons_append,List.nil_append]
  refine bf 5 U<|RK C<|WS fun _ B=>rP 2 [] mn ?_
  refine RK B<|an<|Q1 hQ U U U ?_
  first|rfl|(rw [he])
 obtain ⟨D,he⟩:=E.2 rfl
 try dsimp only at D he
 subst D
 try dsimp only [cond_true,cond_false,List.cons_append,List.nil_append]
 refine bf 5 U<|RK C<|WS fun _ A=>rP 2 [] mn ?_
 refine RK A<|an<|Q1 hQ U U U ?_
 first|rfl|(rw [he])
end
section
open Go.RowKit
theorem KR (r:bT) (kA:OA) (kC:Nat) (az:List RA) (cA:OA) (cC:Nat) (bA:OA) (bC:Nat) (slA:OA) (slC:Nat) (drA:OA) (drC:Nat) (ha:List cO) (heA:OA) (heC:Nat) (hraw:rf r az ha):
 dT Tryz.prog 23 [(vA (cv.cells (oH r kA kC cA cC bA bC slA slC drA drC heA heC)))] [(rd kA r.ao.aP.length 9 (r.ao.aP.map al.cells)),(rd cA r.ao.ak.length 2 (List.zipWith ar.cells r.ao.ak az)),(eW (aV ar.g0 r.ao.ak az)),(rd bA r.ao.ae.length 4 (r.ao.ae.map bD.cells)),(rd slA r.aQ.length 1 (r.aQ.map iC)),(rd drA r.bQ.length 1 (r.bQ.map iC)),(rd heA r.ay.length 1 (List.zipWith cP r.ay ha)),(eW (aV iu r.ay ha))] (vB (decide (¬ ox r∧cK r=0))):=by
 refine bx kr Tryz.func23 U U fun F Q hQ hN=>?_
 try dsimp only
 refine WS fun _ C=>fK U fun E=>bf 1 U<|RK C<|WS fun _ B=>fw 1 [] (mc 0 U mn) U<|rS (CL (Df r kA kC az cA cC bA bC slA slC drA drC ha heA heC hraw) (bj [1,2,3,4,5,6,7,8]) U)<|rP 2 [] mn ?_
 refine bZ (t:=6) U (bq fun A=>?_) (bp fun A=>?_)
 ·refine bf 1 U<|rP 4 [] mn ?_
  refine RK B<|an<|Q1 hQ U U U ?_
  first|exact cB (cf fun q=>q.1 A).symm|exact cB (decide_eq_decide.2 ⟨fun q=>⟨A,q⟩,fun q=>q.2⟩)
 refine rP 1 [] (mc 0 U mn) ?_
 have D:=hraw.small A
 refine rS (CL (Ho r kA kC az cA cC bA bC slA slC drA drC ha heA heC sd) (bj [1,2,3,4,5,6,7,8]) U) ?_
 refine rP 3 [] mn ?_
 refine RK B<|an<|Q1 hQ U U U ?_
 first|exact cB (cf fun q=>q.1 A).symm|exact cB (decide_eq_decide.2 ⟨fun q=>⟨A,q⟩,fun q=>q.2⟩)
end
section
open Go.RowKit
theorem Ox (r:bT) (kA:OA) (kC:Nat) (az:List RA) (cA:OA) (cC:Nat) (bA:OA) (bC:Nat) (slA:OA) (slC:Nat) (drA:OA) (drC:Nat) (ha:List cO) (heA:OA) (heC:Nat) (hin:e9 r az ha) (he:cK r=0):
 ly Tryz.prog 24 [(vA (cv.cells (oH r kA kC cA cC bA bC slA slC drA drC heA heC)))] [(rd eX 3 2 dW),(rd kA r.ao.aP.length 9 (r.ao.aP.map al.cells)),(rd cA r.ao.ak.length 2 (List.zipWith ar.cells r.ao.ak az)),(eW (aV ar.g0 r.ao.ak az)),(rd bA r.ao.ae.length 4 (r.ao.ae.map bD.cells)),(rd slA r.aQ.length 1 (r.aQ.map iC)),(rd drA r.bQ.length 1 (r.bQ.map iC)),(rd heA r.ay.length 1 (List.zipWith cP r.ay ha)),(eW (aV iu r.ay ha))] (fun (x:Nat)=>(vT [(Value.map (some x)),(vB true)])) (fun (x:Nat)=>True) (fun (x:Nat)=>[(gW iV x (bK dw (aF r)))]):=by
 have e:=hin.line
 have l:=hin.iO
 have m:=hin.has
 have g:=hin.iN
 have f:=hin.draw
 have h:=dA (r:=r)
 have AA:=(iG he).2
 have n:=AA.num
 refine dj kr Tryz.func24 U U fun p Q hQ hN=>?_
 try dsimp only
 refine WS fun _ X=>fK U fun o=>rP 2 [] mn ?_
 refine RK X<|WS fun _ Y=>l7 (kV:=iV) U U fun V=>?_
 try dsimp only
 refine bf 1 U<|RK Y<|ah fun _ Z=>WS fun _ a=>rP 4 [] (mc 1 U mn) ?_
 refine RK a<|av ?_
 skip
 have C:(0≤r.aQ.length):=by exact Nat.zero_le _
 refine bH (ι:={z:Nat // (z≤r.aQ.length)}) [1,4,11] [1,2,3,4,5,6,7,8,9,10] U U (fun z=>[(12,(vI (z.1:Int)))]) (fun z=>[(gW iV V (bK dw (jP r z.1)))]) (fun _=>rfl) (fun _=>rfl) (fun z=>r.aQ.length-z.1) ⟨0,C⟩ (aT U) (aH [1,2,3,4,5,6,7,8,9,10,0]) ?_
 clear C
 rintro ⟨i,d⟩ J7 D
 try dsimp only
 refine WS fun _ b=>rP 1 [] mn ?_
 refine RK b<|ah fun _ c=>bL U (aL fun W=>?_) (aM fun W=>?_)
 ·refine bu<|ab<|ab<|au<|KK Z<|ah fun _ M=>?_
  rw [show jP r i=aF r from by rw [show i=r.aQ.length by omega]; rfl]
  refine aj<|rP 3 [] mn ?_
  refine RK M<|an<|LX hQ V [10] [] mn U U U U ?_
  trivial
 refine WK c<|ah fun _ B=>av<|WS fun _ AB=>bf 2 U<|RK AB<|WS fun _ J=>fw 2 [] (mc 0 U mn) U<|rS (CL (O5 (i:Int) r kA kC az cA cC bA bC slA slC drA drC ha heA heC hin) (bj [1,2,3,4,5,6,7,8,9]) U)<|bf 3 U<|AL U de fun j=>fP U cm U<|bf 1 U<|RK J<|ah fun _ E=>WS fun _ F=>rP 3 [] mn ?_
 refine bZ (t:=23) U (bq fun G=>?_) (bp fun G=>?_)
 ·refine bf 3 U<|RK F<|aW U<|WK E<|WS fun _ L=>rP 2 [] mn ?_
  refine RK L<|bL U (aL fun A=>?_) (aM fun A=>?_)
  ·refine b_<|aG<|KK B<|aj<|rP 2 [] mn ?_
   refine aC ?_
   rw [yE he I A]
   have T:(vI (((i+1):Nat):Int))=(vI ((i:Int)+1)):=by exact cI I
   refine aS (D ⟨(i+1),(by first|omega|(simp only []; omega))⟩ _ _ _ U os (ct 3<|aX U T<|dh.nil _) (aH [1,2,3,4,5,6,7,8,9,10,11]))
  refine aj<|rP 3 [] (mc 0 U mn) ?_
  have R:(dL (jP r i) (i:Int) (pD r (i:Int)))=(jP r (i+1)):=by exact CR he I A
  refine g_ (kV:=iV) (x:=(i:Int)) (C':=[_,_,_,_,_,_,_,_,_,_,_,(gW iV V (bK dw (jP r (i+1))))]) 11 U U U U mC (dC oJ) U ((fM _ _ _ _).symm.trans (congrArg _ R)) U<|aC<|aG<|KK B<|aj<|rP 2 [] mn ?_
  refine aC ?_
  have S:(vI (((i+1):Nat):Int))=(vI ((i:Int)+1)):=by exact cI I
  refine aS (D ⟨(i+1),(by first|omega|(simp only []; omega))⟩ _ _ _ U os (ct 3<|aX U S<|dh.nil _) (aH [1,2,3,4,5,6,7,8,9,10,11]))
 refine rP 3 [] mn ?_
 refine RK F<|cy U (bp fun H=>?_) (bq fun H=>?_)
 ·exfalso; exact (BA he (k:=(i:Int)) (by unfold rv; omega)).elim (fun q=>G q.1) (fun q=>H q.1)
 refine WK E<|WS fun _ K=>rP 2 [] mn ?_
 refine RK K<|bL U (aL fun A=>?_) (aM fun A=>?_)
 ·refine b_<|aG<|KK B<|aj<|rP 2 [] mn ?_
  refine aC ?_
  rw [yE he I A]
  have P:(vI (((i+1):Nat):Int))=(vI ((i:Int)+1)):=by exact cI I
  refine aS (D ⟨(i+1),(by first|omega|(simp only []; omega))⟩ _ _ _ U os (ct 3<|aX U P<|dh.nil _) (aH [1,2,3,4,5,6,7,8,9,10,11]))
 refine aj<|rP 3 [] (mc 0 U mn) ?_
 have N:(dL (jP r i) (i:Int) (pD r (i:Int)))=(jP r (i+1)):=by exact CR he I A
 refine g_ (kV:=iV) (x:=(i:Int)) (C':=[_,_,_,_,_,_,_,_,_,_,_,(gW iV V (bK dw (jP r (i+1))))]) 11 U U U U mC (dC oJ) U ((fM _ _ _ _).symm.trans (congrArg _ N)) U<|aC<|aG<|KK B<|aj<|rP 2 [] mn ?_
 refine aC ?_
 have O:(vI (((i+1):Nat):Int))=(vI ((i:Int)+1)):=by exact cI I
 refine aS (D ⟨(i+1),(by first|omega|(simp only []; omega))⟩ _ _ _ U os (ct 3<|aX U O<|dh.nil _) (aH [1,2,3,4,5,6,7,8,9,10,11]))
end
section
open Go.RowKit
theorem Cm (r:bT) (kA:OA) (kC:Nat) (az:List RA) (cA:OA) (cC:Nat) (bA:OA) (bC:Nat) (slA:OA) (slC:Nat) (drA:OA) (drC:Nat) (ha:List cO) (heA:OA) (heC:Nat) (hraw:rf r az ha):
 dT Tryz.prog 4 [(vA (cv.cells (oH r kA kC cA cC bA bC slA slC drA drC heA heC)))] [(rd eX 3 2 dW),(rd kA r.ao.aP.length 9 (r.ao.aP.map al.cells)),(rd cA r.ao.ak.length 2 (List.zipWith ar.cells r.ao.ak az)),(eW (aV ar.g0 r.ao.ak az)),(rd bA r.ao.ae.length 4 (r.ao.ae.map bD.cells)),(rd slA r.aQ.length 1 (r.aQ.map iC)),(rd drA r.bQ.length 1 (r.bQ.map iC)),(rd heA r.ay.length 1 (List.zipWith cP r.ay ha)),(eW (aV iu r.ay ha))] (vB true):=by
 refine bx kr Tryz.func4 U U fun w0 Q hQ hN=>?_
 try dsimp only
 refine WS fun _ Qr=>fK U fun b2=>bf 1 U<|RK Qr<|WS fun _ Q9=>rS (CL Mg (bj [1]) U)<|bf 1 U<|RK Q9<|ah fun _ RR=>WS fun _ Rb=>bf 2 U<|RK Rb<|aW U<|WK RR<|ah fun _ Rz=>WS fun _ R0=>fw 1 [] (mc 0 U mn) U<|rS (CL (KR r kA kC az cA cC bA bC slA slC drA drC ha heA heC hraw) (bj [2,3,4,5,6,7,8,9]) U)<|rP 1 [] mn ?_
 refine RK R0<|cy U (bp fun D=>?_) (bq fun D=>?_)
 ·refine WS fun _ R1=>rP 2 [] mn ?_
  refine RK R1<|an<|Q1 hQ U U U ?_
  first|rfl|exact cB (fH (by have h_:=C.count; simp only [my,List.length_map]; rw [List.take_of_length_le I]; omega))
 refine WK Rz<|WS fun _ R2=>?_
 have X:=hraw.small D.1
 have R6:=X.line
 have T6:=X.iO
 have T7:=X.has
 have S1:=X.iN
 have ST:=X.draw
 have S2:=dA (r:=r)
 have Op:=(iG D.2).2
 have T8:=Op.num
 have C:=QO D.2
 have UR:=qf (r:=r)
 have Sz:=mA D.2
 refine rP 1 [] (mc 0 U mn) ?_
 refine cX (zS r kA kC az cA cC bA bC slA slC drA drC ha heA heC sd) (bj [1,2,3,4,5,6,7,8,9]) U fun R9 Or=>?_
 obtain ⟨H,T2,T5⟩:=R9
 try dsimp only
 have R5:=Or
 have G:=R5
 try dsimp only at G
 refine bf 5 U<|RK R2<|WS fun _ Ci=>rP 1 [] (mc 2 U mn) ?_
 refine cX (Ox r kA kC az cA cC bA bC slA slC drA drC ha heA heC sd (by exact D.2)) (bj [3,4,5,6,7,8,9,10,11]) U fun A3 T0=>?_
 try dsimp only
 refine bf 5 U<|RK Ci<|ah fun _ Ck=>WS fun _ Cp=>rP 3 [] mn ?_
 refine cQ (t:=46) U (bp fun A8=>?_) (bq fun A8=>?_)
 ·exact absurd (D.2) A8
 refine rP 3 [] mn ?_
 refine RK Cp<|aW U<|WK Ck<|ah fun _ Cx=>Jd (C':=[(gW iV A3 (bK dw (aF r))).ro,_,_,_,_,_,_,_,_,_,_,_,_]) 0 U U<|aj<|l7 (kV:=iV) U U fun Y=>?_
 try dsimp only
 refine bf 1 U<|RK Cx<|ah fun _ C0=>WS fun _ C1=>rP 3 [] mn ?_
 refine RK C1<|av ?_
 skip
 have A:(0≤(cd r).length):=by exact Nat.zero_le _
 refine bH (ι:={z:Nat // (z≤(cd r).length)}) [1,3,4,6,8,51,52] [1,2,3,4,5,6,7,8,9,10,11,12,13] U U (fun z=>[(53,(vI (z.1:Int)))]) (fun z=>[(gW iV Y (bK vB (my ((cd r).take z.1).flatten)))]) (fun _=>rfl) (fun _=>rfl) (fun z=>(cd r).length-z.1) ⟨0,A⟩ (aT U) (aH [1,2,3,4,5,6,7,8,9,10,11,12,13,0]) ?_
 clear A
 rintro ⟨a,PF⟩ J25 A9
 try dsimp only
 refine WS fun _ C2=>rP 1 [] mn ?_
 refine RK C2<|ah fun _ C3=>bL U (aL fun Pi=>?_) (aM fun Pi=>?_)
 ·refine bu<|ab<|ab<|au<|KK C0<|WS fun _ s=>bf 3 U<|rS (SX (rW U U vD (by exact aD 13 U)) U U)<|bf 1 U<|rS (SX (rW U U mC (by exact j_ 0 U)) U U)<|rP 3 [] mn ?_
  refine RK s<|an<|Q1 hQ U U U ?_
  first|rfl|exact cB (fH (by have h_:=C.count; simp only [my,List.length_map]; rw [List.take_of_length_le I]; omega))
 refine WK C3<|ah fun _ Di=>av<|WS fun _ Do=>rP 1 [] mn ?_
 obtain ⟨g,hg⟩:=aJ (cd r) a I
 obtain ⟨ga,J⟩:=aJ H a I
 have R3:(List.zipWith lX (cd r) H)[a]? =some (lX g ga):=dy hg J
 refine rS (IA a U (ai (n:=(cd r).length) 1 U (iA G)) nU dc I I)<|rS (fV a 0 (vS ga.1 g.length ga.2) U bX (ai (n:=(cd r).length) 1 U (iA G)) R3 U dc U)<|rP 2 [] mn ?_
 refine RK Do<|ah fun _ Dr=>ah fun _ EQ=>?_
 have R4:=C.small D.2 hg
 have UQ:2^g.length≤32:=Nat.pow_le_pow_right (n:=2) dc R4
 have T9:1≤2^g.length:=Nat.one_le_two_pow
 refine aj<|rP 3 [] mn ?_
 refine RK EQ<|cy U (aM fun P3=>?_) (aL fun P3=>?_)
 ·exact absurd (List.length_eq_zero_iff.1 I) (C.ok.some_ _ (aR hg))
 refine WK Dr<|ah fun _ Eq=>WS fun _ FS=>rP 3 [] mn ?_
 refine RK FS<|av ?_
 rw [show (my ((cd r).take a).flatten)=(my (((cd r).take a).flatten++g.take 0)) from by simp]
 have A:(0≤g.length):=by exact Nat.zero_le _
 refine bH (ι:={z:Nat // (z≤g.length)}) [1,3,4,6,8,9,10,51,52,53,61,62] [0,1,2,3,4,5,6,7,8,9,10,11,12] U U (fun z=>[(63,(vI (z.1:Int)))]) (fun z=>[(gW iV Y (bK vB (my (((cd r).take a).flatten++g.take z.1))))]) (fun _=>rfl) (fun _=>rfl) (fun z=>g.length-z.1) ⟨0,A⟩ (aT U) (aH [0,1,2,3,4,5,6,7,8,9,10,11,12,13]) ?_
 clear A
 rintro ⟨x,PP⟩ J35 R
 try dsimp only
 refine WS fun _ Fd=>rP 1 [] mn ?_
 refine RK Fd<|ah fun _ Fn=>bL U (aL fun Pl=>?_) (aM fun Pl=>?_)
 ·refine bu<|ab<|ab<|au<|KK Eq<|ah fun _ J8=>?_
  rw [show ((cd r).take a).flatten++g.take x=((cd r).take (a+1)).flatten from by rw [show g.take x=g from List.take_of_length_le I]; exact Le hg]
  refine aj<|rP 1 [] mn ?_
  refine RK J8<|av ?_
  have A:(1≤1∧(1+1≤2^g.length∨1=1)):=by exact ⟨Nat.le_refl _,.inr rfl⟩
  refine bH (ι:={z:Nat // (1≤z∧(z+1≤2^g.length∨z=1))}) [1,3,4,6,8,9,10,51,52,53] [0,1,2,3,4,5,6,7,8,9,10,11,12,13] U U (fun z=>[(19,(vI (z.1:Int)))]) (fun z=>[]) (fun _=>rfl) (fun _=>rfl) (fun z=>2^g.length-z.1) ⟨1,A⟩ (aT U) (aH [0,1,2,3,4,5,6,7,8,9,10,11,12,13]) ?_
  clear A
  rintro ⟨bt,PU⟩ J78 B7
  try dsimp only
  refine ah fun _ J9=>WS fun _ KW=>bf 3 U<|rS (BI U (PH (i:=g.length) I I))<|rP 2 [] mn ?_
  refine RK KW<|bL U (aL fun A4=>?_) (aM fun A4=>?_)
  ·refine bu<|ab<|ab<|au<|aG<|KK Di<|aj<|rP 2 [] mn ?_
   refine aC ?_
   have A0:(vI (((a+1):Nat):Int))=(vI ((a:Int)+1)):=by exact cI I
   refine aS (A9 ⟨(a+1),(by first|omega|(simp only []; omega))⟩ _ _ _ U os (ct 7<|aX U A0<|dh.nil _) (aH [0,1,2,3,4,5,6,7,8,9,10,11,12,13]))
  refine WK J9<|ah fun _ K0=>av<|WS fun _ K4=>bf 1 U<|RK K4<|ah fun _ K5=>WS fun _ K8=>rP 3 [] mn ?_
  refine RK K8<|av ?_
  have A:(0≤g.length)∧(lG r g bt 0 0 true):=by exact ⟨Nat.zero_le _,Gz⟩
  refine bH (ι:={z:Nat×Bool // (z.1≤g.length)∧(lG r g bt z.1 0 z.2)}) [1,3,4,6,8,9,10,19,51,52,53,134,135] [0,1,2,3,4,5,6,7,8,9,10,11,12,13] U U (fun z=>[(20,(vB z.1.2)),(136,(vI (z.1.1:Int)))]) (fun z=>[]) (fun _=>rfl) (fun _=>rfl) (fun z=>g.length-z.1.1) ⟨(0,true),A⟩ (aT U) (aH [0,1,2,3,4,5,6,7,8,9,10,11,12,13]) ?_
  clear A
  rintro ⟨⟨x,p⟩,⟨b,K⟩⟩ J85 B9
  try dsimp only at b K
  try dsimp only
  refine WS fun _ K_=>rP 1 [] mn ?_
  refine RK K_<|ah fun _ LA=>bL U (aL fun QI=>?_) (aM fun QI=>?_)
  ·refine bu<|ab<|ab<|au<|KK K5<|WS fun _ q=>rP 1 [] mn ?_
   refine RK q<|cy U (fun AA=>?_) (fun AA=>?_)
   ·exfalso; rw [JT C D.2 hg I I K I] at AA; cases AA
   refine b_<|aG<|KK K0<|aj<|rP 3 [] mn ?_
   refine aC ?_
   have Ay:(vI (((bt+1):Nat):Int))=(vI ((bt:Int)+1)):=by exact cI I
   refine aS (B7 ⟨(bt+1),(by first|omega|(dsimp only; omega))⟩ _ _ _ U (by first|omega|(dsimp only; omega)) (ct 10<|aX U Ay<|dh.nil _) (aH [0,1,2,3,4,5,6,7,8,9,10,11,12,13]))
  refine WK LA<|ah fun _ LE=>av<|WS fun _ LS=>rP 1 [] mn ?_
  obtain ⟨i,hi⟩:=aJ g x I
  have A1:=bG iC hi
  refine rS (IA x U (show il _ (rd ga.1 g.length 1 (g.map iC)).holds from (fun w hw=>(cL 2 U mO) w hw _ (bM hg J (by simp [AY])))) cp dc I I)<|rS (fV x 0 (vI i) U bX (show il _ (rd ga.1 g.length 1 (g.map iC)).holds from (fun w hw=>(cL 2 U mO) w hw _ (bM hg J (by simp [AY])))) A1 U dc U)<|bf 2 U<|RK LS<|WS fun _ LT=>rP 3 [] mn ?_
  refine RK LT<|av ?_
  have A:(0≤g.length)∧(lG r g bt x 0 p):=by exact ⟨Nat.zero_le _,K⟩
  refine bH (ι:={z:Nat×Bool // (z.1≤g.length)∧(lG r g bt x z.1 z.2)}) [1,3,4,6,8,9,10,19,21,22,51,52,53,134,135,136,141,142] [0,1,2,3,4,5,6,7,8,9,10,11,12,13] U U (fun z=>[(20,(vB z.1.2)),(143,(vI (z.1.1:Int)))]) (fun z=>[]) (fun _=>rfl) (fun _=>rfl) (fun z=>g.length-z.1.1) ⟨(0,p),A⟩ (aT U) (aH [0,1,2,3,4,5,6,7,8,9,10,11,12,13]) ?_
  clear A
  rintro ⟨⟨y,p2⟩,⟨c,B⟩⟩ J92 N
  try dsimp only at c B
  try dsimp only
  refine WS fun _ La=>rP 1 [] mn ?_
  refine RK La<|ah fun _ Li=>bL U (aL fun Ql=>?_) (aM fun Ql=>?_)
  ·refine bu<|ab<|ab<|au<|aG<|KK LE<|aj<|rP 2 [] mn ?_
   refine aC ?_
   have An:(vI (((x+1):Nat):Int))=(vI ((x:Int)+1)):=by exact cI I
   refine aS (B9 ⟨((x+1),p2),⟨I,KF B I⟩⟩ _ _ _ U os (ct 14<|aX U An<|dh.nil _) (aH [0,1,2,3,4,5,6,7,8,9,10,11,12,13]))
  refine WK Li<|ah fun _ O=>av<|WS fun _ Lk=>rP 1 [] mn ?_
  obtain ⟨k,hk⟩:=aJ g y I
  have A2:=bG iC hk
  refine rS (IA y U (show il _ (rd ga.1 g.length 1 (g.map iC)).holds from (fun w hw=>(cL 2 U mO) w hw _ (bM hg J (by simp [AY])))) cp dc I I)<|rS (fV y 0 (vI k) U bX (show il _ (rd ga.1 g.length 1 (g.map iC)).holds from (fun w hw=>(cL 2 U mO) w hw _ (bM hg J (by simp [AY])))) A2 U dc U)<|bf 2 U<|RK Lk<|ah fun _ Lo=>WS fun _ h=>bf 2 U<|rS (BI U (Kv (i:=x) I I))<|rS (BI U (IP (m:=(bt/2^x)) I (Nat.lt_of_le_of_lt (Nat.div_le_self _ _) I)))<|rP 2 [] mn ?_
  refine cQ (t:=153) U (aM fun A5=>?_) (aL fun A5=>?_)
  ·refine bf 6 U<|RK h<|aO U<|bu<|ab<|au<|KK O<|aj<|rP 2 [] mn ?_
   refine aC ?_
   have u:(vI (((y+1):Nat):Int))=(vI ((y:Int)+1)):=by exact cI I
   refine aS (N ⟨((y+1),p2),⟨I,by first|exact tS|exact qc B AB hi hk|exact o8 B I⟩⟩ _ _ _ U os (ct 19<|aX U u<|dh.nil _) (aH [0,1,2,3,4,5,6,7,8,9,10,11,12,13]))
  refine bf 2 U<|rS (BI U (Kv (i:=y) I I))<|rS (BI U (IP (m:=(bt/2^y)) I (Nat.lt_of_le_of_lt (Nat.div_le_self _ _) I)))<|rP 2 [] mn ?_
  refine RK h<|cy U (aM fun A6=>?_) (aL fun A6=>?_)
  ·refine bu<|ab<|au<|KK O<|aj<|rP 2 [] mn ?_
   refine aC ?_
   have v:(vI (((y+1):Nat):Int))=(vI ((y:Int)+1)):=by exact cI I
   refine aS (N ⟨((y+1),p2),⟨I,by first|exact tS|exact qc B AB hi hk|exact o8 B I⟩⟩ _ _ _ U os (ct 19<|aX U v<|dh.nil _) (aH [0,1,2,3,4,5,6,7,8,9,10,11,12,13]))
  refine WK Lo<|WS fun _ o=>rP 3 [] (mc 3 U mn) ?_
  refine rS (CL (ti i k r kA kC az cA cC bA bC slA slC drA drC ha heA heC sd) (bj [4,5,6,7,8,9,10,11,12]) U) ?_
  refine bf 5 U<|RK o<|aj<|rP 2 [] mn ?_
  refine bZ (t:=168) U (fun AB=>?_) (fun AB=>?_)
  ·refine bf 8 U<|aC<|aG<|KK O<|aj<|rP 2 [] mn ?_
   refine aC ?_
   have AO:(vI (((y+1):Nat):Int))=(vI ((y:Int)+1)):=by exact cI I
   refine aS (N ⟨((y+1),false),⟨I,by first|exact tS|exact qc B AB hi hk|exact o8 B I⟩⟩ _ _ _ U os (ct 19<|aX U AO<|dh.nil _) (aH [0,1,2,3,4,5,6,7,8,9,10,11,12,13]))
  refine rP 4 [] mn ?_
  refine bZ (t:=172) U (aL fun A7=>?_) (aM fun A7=>?_)
  ·refine bf 4 U<|aC<|aG<|KK O<|aj<|rP 2 [] mn ?_
   refine aC ?_
   have AK:(vI (((y+1):Nat):Int))=(vI ((y:Int)+1)):=by exact cI I
   refine aS (N ⟨((y+1),false),⟨I,by first|exact tS|exact qc B AB hi hk|exact o8 B I⟩⟩ _ _ _ U os (ct 19<|aX U AK<|dh.nil _) (aH [0,1,2,3,4,5,6,7,8,9,10,11,12,13]))
  refine bf 1 U<|rS (BI U lu)<|bf 2 U<|aC<|aG<|KK O<|aj<|rP 2 [] mn ?_
  refine aC ?_
  have AC:(vI (((y+1):Nat):Int))=(vI ((y:Int)+1)):=by exact cI I
  refine aS (N ⟨((y+1),(decide ((oB r i k)=2))),⟨I,by first|exact tS|exact qc B AB hi hk|exact o8 B I⟩⟩ _ _ _ U os (ct 19<|aX U AC<|dh.nil _) (aH [0,1,2,3,4,5,6,7,8,9,10,11,12,13]))
 refine WK Fn<|ah fun _ S=>av<|WS fun _ F0=>rP 1 [] mn ?_
 obtain ⟨i,hi⟩:=aJ g x I
 have A1:=bG iC hi
 refine rS (IA x U (show il _ (rd ga.1 g.length 1 (g.map iC)).holds from (fun w hw=>(cL 2 U mO) w hw _ (bM hg J (by simp [AY])))) cp dc I I)<|rS (fV x 0 (vI i) U bX (show il _ (rd ga.1 g.length 1 (g.map iC)).holds from (fun w hw=>(cL 2 U mO) w hw _ (bM hg J (by simp [AY])))) A1 U dc U)<|bf 2 U<|RK F0<|WS fun _ F6=>bf 2 U<|rS (SX (jN (kV:=iV) (x:=i) (l:=(aF r)) (f:=dw) (z:=(aa.mk 0 0)) U U U mC (dC oJ) vy (by exact j_ 0 U)) U U)<|bf 3 U<|AL U de fun T4=>fP U cm U<|bf 1 U<|RK F6<|ah fun _ d=>WS fun _ e=>rP 3 [] mn ?_
 refine cQ (t:=76) U (fun V=>?_) (fun V=>?_)
 ·rw [Bool.not_eq_true'] at V
  exfalso; obtain ⟨s_,R7⟩:=C.runs hg hi; rw [R7] at V; simp at V
 rw [Bool.not_eq_false'] at V
 refine bf 2 U<|rS (SX (jW (kV:=iV) (x:=i) (l:=(my (((cd r).take a).flatten++g.take x))) (f:=Value.bool) (z:=false) U U U vD (dC oJ) VG (by exact aD 14 U)) U U)<|rP 2 [] mn ?_
 refine cQ (t:=81) U (fun j=>?_) (fun j=>?_)
 ·exfalso; rw [Fj (C.new hg hi)] at j; simp at j
 refine rP 3 [] mn ?_
 refine bZ (t:=84) U (aL fun QF=>?_) (aM fun QF=>?_)
 ·refine bf 9 U<|RK e<|aW U<|WK d<|WS fun _ Ij=>rP 2 [] mn ?_
  have M2:(dL (my (((cd r).take a).flatten++g.take x)) i true)=(my (((cd r).take a).flatten++g.take (x+1))):=by rw [Bi (C.new hg hi),jU hi,List.append_assoc]
  refine g_ (kV:=iV) (x:=i) (C':=[_,_,_,_,_,_,_,_,_,_,_,_,_,_,(gW iV Y (bK vB (my (((cd r).take a).flatten++g.take (x+1)))))]) 14 U U U U vD (dC oJ) U ((fM _ _ _ _).symm.trans (congrArg _ M2)) U<|RK Ij<|ah fun _ In=>WS fun _ I0=>rP 5 [] mn ?_
  refine RK I0<|cy U (aM fun T=>?_) (aL fun T=>?_)
  ·refine bu<|ab<|au<|KK S<|aj<|rP 2 [] mn ?_
   refine aC ?_
   have NE:(vI (((x+1):Nat):Int))=(vI ((x:Int)+1)):=by exact cI I
   refine aS (R ⟨(x+1),(by first|omega|(simp only []; omega))⟩ _ _ _ U os (ct 12<|aX U NE<|dh.nil _) (aH [1,2,3,4,5,6,7,8,9,10,11,12,13,14]))
  refine WK In<|WS fun _ JL=>rP 3 [] mn ?_
  obtain ⟨gg,E⟩:=aJ (cd r) (a+1) I
  obtain ⟨gga,F⟩:=aJ H (a+1) I
  have W:(List.zipWith lX (cd r) H)[(a+1)]? =some (lX gg gga):=dy E F
  refine rS (IA (a+1) U (ai (n:=(cd r).length) 2 U (iA G)) nU dc I I)<|rS (fV (a+1) 0 (vS gga.1 gg.length gga.2) U bX (ai (n:=(cd r).length) 2 U (iA G)) W U dc U)<|rP 2 [] mn ?_
  refine RK JL<|av ?_
  have A:(0≤gg.length):=by exact Nat.zero_le _
  refine bH (ι:={z:Nat // (z≤gg.length)}) [1,3,4,6,8,9,10,11,12,51,52,53,61,62,63,105,106] [1,2,3,4,5,6,7,8,9,10,11,12,13,14] U U (fun z=>[(107,(vI (z.1:Int)))]) (fun z=>[]) (fun _=>rfl) (fun _=>rfl) (fun z=>gg.length-z.1) ⟨0,A⟩ (aT U) (aH [1,2,3,4,5,6,7,8,9,10,11,12,13,14]) ?_
  clear A
  rintro ⟨y,Z⟩ J67 B3
  try dsimp only
  have OP:=C.small D.2 E
  refine WS fun _ J2=>rP 1 [] mn ?_
  refine RK J2<|ah fun _ J3=>bL U (aL fun QA=>?_) (aM fun QA=>?_)
  ·refine bu<|ab<|ab<|au<|aG<|KK S<|aj<|rP 2 [] mn ?_
   refine aC ?_
   have Ne:(vI (((x+1):Nat):Int))=(vI ((x:Int)+1)):=by exact cI I
   refine aS (R ⟨(x+1),(by first|omega|(simp only []; omega))⟩ _ _ _ U os (ct 12<|aX U Ne<|dh.nil _) (aH [0,1,2,3,4,5,6,7,8,9,10,11,12,13]))
  refine WK J3<|ah fun _ J4=>av<|WS fun _ J5=>?_
  obtain ⟨k2,P⟩:=aJ gg y I
  have hk2m:=bG iC P
  refine rS (IA y U (show il _ (rd gga.1 gg.length 1 (gg.map iC)).holds from (fun w hw=>(cL 2 U mO) w hw _ (bM E F (by simp [AY])))) cp dc I I)<|rS (fV y 0 (vI k2) U bX (show il _ (rd gga.1 gg.length 1 (gg.map iC)).holds from (fun w hw=>(cL 2 U mO) w hw _ (bM E F (by simp [AY])))) hk2m U dc U)<|bf 1 U<|RK J5<|WS fun _ J6=>rP 3 [] (mc 3 U mn) ?_
  refine rS (CL (ti i k2 r kA kC az cA cC bA bC slA slC drA drC ha heA heC sd) (bj [4,5,6,7,8,9,10,11,12]) U) ?_
  refine bf 5 U<|RK J6<|WS fun _ J7=>rP 3 [] mn ?_
  refine cQ (t:=120) U (bp fun L=>?_) (bq fun L=>?_)
  ·exact absurd (C.before D.2 hg E (aR hi) (aR P)).1 L
  refine bf 1 U<|rS (BI U mz)<|rP 1 [] mn ?_
  refine RK J7<|cy U (bp fun M=>?_) (bq fun M=>?_)
  ·exact absurd (C.before D.2 hg E (aR hi) (aR P)).2 M
  refine b_<|aG<|KK J4<|aj<|rP 2 [] mn ?_
  refine aC ?_
  have NU:(vI (((y+1):Nat):Int))=(vI ((y:Int)+1)):=by exact cI I
  refine aS (B3 ⟨(y+1),(by first|omega|(simp only []; omega))⟩ _ _ _ U os (ct 17<|aX U NU<|dh.nil _) (aH [0,1,2,3,4,5,6,7,8,9,10,11,12,13]))
 refine rP 4 [] mn ?_
 obtain ⟨k,hk⟩:=aJ g (x-1) I
 have A2:=bG iC hk
 refine rS (IA (x-1) U (show il _ (rd ga.1 g.length 1 (g.map iC)).holds from (fun w hw=>(cL 3 U mO) w hw _ (bM hg J (by simp [AY])))) cp dc I I)<|rS (fV (x-1) 0 (vI k) U bX (show il _ (rd ga.1 g.length 1 (g.map iC)).holds from (fun w hw=>(cL 3 U mO) w hw _ (bM hg J (by simp [AY])))) A2 U dc U)<|rP 3 [] mn ?_
 refine RK e<|cy U (aM fun QJ=>?_) (aL fun QJ=>?_)
 ·exfalso; have h_:=C.up hg hi I hk; omega
 refine WK d<|WS fun _ GE=>rP 2 [] mn ?_
 have Ls:(dL (my (((cd r).take a).flatten++g.take x)) i true)=(my (((cd r).take a).flatten++g.take (x+1))):=by rw [Bi (C.new hg hi),jU hi,List.append_assoc]
 refine g_ (kV:=iV) (x:=i) (C':=[_,_,_,_,_,_,_,_,_,_,_,_,_,_,(gW iV Y (bK vB (my (((cd r).take a).flatten++g.take (x+1)))))]) 14 U U U U vD (dC oJ) U ((fM _ _ _ _).symm.trans (congrArg _ Ls)) U<|RK GE<|ah fun _ GT=>WS fun _ GV=>rP 5 [] mn ?_
 refine RK GV<|cy U (aM fun T=>?_) (aL fun T=>?_)
 ·refine bu<|ab<|au<|KK S<|aj<|rP 2 [] mn ?_
  refine aC ?_
  have L0:(vI (((x+1):Nat):Int))=(vI ((x:Int)+1)):=by exact cI I
  refine aS (R ⟨(x+1),(by first|omega|(simp only []; omega))⟩ _ _ _ U os (ct 12<|aX U L0<|dh.nil _) (aH [1,2,3,4,5,6,7,8,9,10,11,12,13,14]))
 refine WK GT<|WS fun _ Go=>rP 3 [] mn ?_
 obtain ⟨gg,E⟩:=aJ (cd r) (a+1) I
 obtain ⟨gga,F⟩:=aJ H (a+1) I
 have W:(List.zipWith lX (cd r) H)[(a+1)]? =some (lX gg gga):=dy E F
 refine rS (IA (a+1) U (ai (n:=(cd r).length) 2 U (iA G)) nU dc I I)<|rS (fV (a+1) 0 (vS gga.1 gg.length gga.2) U bX (ai (n:=(cd r).length) 2 U (iA G)) W U dc U)<|rP 2 [] mn ?_
 refine RK Go<|av ?_
 have A:(0≤gg.length):=by exact Nat.zero_le _
 refine bH (ι:={z:Nat // (z≤gg.length)}) [1,3,4,6,8,9,10,11,12,51,52,53,61,62,63,105,106] [1,2,3,4,5,6,7,8,9,10,11,12,13,14] U U (fun z=>[(107,(vI (z.1:Int)))]) (fun z=>[]) (fun _=>rfl) (fun _=>rfl) (fun z=>gg.length-z.1) ⟨0,A⟩ (aT U) (aH [1,2,3,4,5,6,7,8,9,10,11,12,13,14]) ?_
 clear A
 rintro ⟨y,Z⟩ J51 BX
 try dsimp only
 have OP:=C.small D.2 E
 refine WS fun _ Hi=>rP 1 [] mn ?_
 refine RK Hi<|ah fun _ H1=>bL U (aL fun P1=>?_) (aM fun P1=>?_)
 ·refine bu<|ab<|ab<|au<|aG<|KK S<|aj<|rP 2 [] mn ?_
  refine aC ?_
  have L3:(vI (((x+1):Nat):Int))=(vI ((x:Int)+1)):=by exact cI I
  refine aS (R ⟨(x+1),(by first|omega|(simp only []; omega))⟩ _ _ _ U os (ct 12<|aX U L3<|dh.nil _) (aH [0,1,2,3,4,5,6,7,8,9,10,11,12,13]))
 refine WK H1<|ah fun _ IO=>av<|WS fun _ IR=>?_
 obtain ⟨k2,P⟩:=aJ gg y I
 have hk2m:=bG iC P
 refine rS (IA y U (show il _ (rd gga.1 gg.length 1 (gg.map iC)).holds from (fun w hw=>(cL 2 U mO) w hw _ (bM E F (by simp [AY])))) cp dc I I)<|rS (fV y 0 (vI k2) U bX (show il _ (rd gga.1 gg.length 1 (gg.map iC)).holds from (fun w hw=>(cL 2 U mO) w hw _ (bM E F (by simp [AY])))) hk2m U dc U)<|bf 1 U<|RK IR<|WS fun _ Id=>rP 3 [] (mc 3 U mn) ?_
 refine rS (CL (ti i k2 r kA kC az cA cC bA bC slA slC drA drC ha heA heC sd) (bj [4,5,6,7,8,9,10,11,12]) U) ?_
 refine bf 5 U<|RK Id<|WS fun _ If=>rP 3 [] mn ?_
 refine cQ (t:=120) U (bp fun L=>?_) (bq fun L=>?_)
 ·exact absurd (C.before D.2 hg E (aR hi) (aR P)).1 L
 refine bf 1 U<|rS (BI U mz)<|rP 1 [] mn ?_
 refine RK If<|cy U (bp fun M=>?_) (bq fun M=>?_)
 ·exact absurd (C.before D.2 hg E (aR hi) (aR P)).2 M
 refine b_<|aG<|KK IO<|aj<|rP 2 [] mn ?_
 refine aC ?_
 have L2:(vI (((y+1):Nat):Int))=(vI ((y:Int)+1)):=by exact cI I
 refine aS (BX ⟨(y+1),(by first|omega|(simp only []; omega))⟩ _ _ _ U os (ct 17<|aX U L2<|dh.nil _) (aH [0,1,2,3,4,5,6,7,8,9,10,11,12,13]))
end
section
open Go.RowKit
def iF {α:Type} (cells:α→List Value) (sz:Nat) (R:World→α→Prop) (w:World) (s:br):Prop:= ∃ l:List α,s.n=l.length∧(rd s.a l.length sz (l.map cells)).holds w∧(∀ x∈l,R w x)∧l.length≤maxLen∧s.n≤s.c
theorem vj {w:World} {R:World→cx→Prop}: ∀ {l:List dp},(∀ x∈l,iF cx.cells 3 R w x.bo)→ ∃ (ms:List ar) (az:List RA),l.map dp.cells=List.zipWith ar.cells ms az∧ms.length=l.length∧az.length=l.length∧(∀ X∈aV ar.g0 ms az,X.holds w)∧
 (∀ (k:Nat) m (a:RA),ms[k]? =some m→az[k]? =some a→m.bo.length≤a.2∧m.bo.length≤9223372036854775807)∧ms.map (fun m=>m.dg)=l.map (fun x=>x.dg)∧ ∀ (k:Nat) m y,ms[k]? =some m→y∈m.bo→R w y
 |[],_=>⟨[],[],rfl,rfl,rfl,(fun X hX=>by cases hX),(fun k m a h=>by simp at h),rfl,(fun k m y h=>by simp at h)⟩
 |x::l,h=>by
  obtain ⟨ms,az,E,F,G,H,AA,J,K⟩:=vj (fun y hy=>h y (cR _ hy))
  obtain ⟨sy,A,B,C,D,L⟩:=h x sm
  have e4':sy.length≤9223372036854775807:=D
  refine ⟨⟨x.dg,sy⟩::ms,(x.bo.a,x.bo.c)::az,?_,by simp [F],by simp [G],fun X hX=>?_,fun k m a hm ha=>?_,by simp [J],fun k m y hm hy=>?_⟩
  ·obtain ⟨dr,⟨a,n,c⟩⟩:=x
   simp only at A
   subst A
   simp only [List.map_cons,List.zipWith_cons_cons,E]
   rfl
  ·rcases List.mem_append.1 hX with hX|hX
   ·simp only [ar.g0,bS] at hX
    subst hX; exact B
   ·exact H X hX
  ·cases k with
   |zero=>
    simp only [List.getElem?_cons_zero,Option.some.injEq] at hm ha
    subst hm ha
    exact ⟨by simp only; omega,e4'⟩
   |succ k=>exact AA k m a (by simpa using hm) (by simpa using ha)
  ·cases k with
   |zero=>
    simp only [List.getElem?_cons_zero,Option.some.injEq] at hm
    subst hm
    exact C y hy
   |succ k=>exact K k m y (by simpa using hm) hy
theorem Hn {w:World} {s:ck} {R1:World→al→Prop} {R2:World→dp→Prop} {R3:World→bD→Prop} {R4:World→cx→Prop} (h1:iF al.cells 9 R1 w s.aP.kO) (hs: ∀ x,R1 w x→0≤x.iY∧x.iY≤255) (h2:iF dp.cells 2 R2 w s.ak) (hc: ∀ x,R2 w x→iF cx.cells 3 R4 w x.bo) (h3:iF bD.cells 4 R3 w s.ae):
 ∃ (l:a_) (az:List RA) (kA:OA) (kC:Nat) (cA:OA) (cC:Nat) (bA:OA) (bC:Nat),s=ck.mk (bE.mk (br.mk kA l.aP.length kC)) l.hE (br.mk cA l.ak.length cC) (br.mk bA l.ae.length bC) l.cJ l.eU l.cW∧sV l az∧
  ((rd kA l.aP.length 9 (l.aP.map al.cells)).holds w∧(rd cA l.ak.length 2 (List.zipWith ar.cells l.ak az)).holds w∧(eW (aV ar.g0 l.ak az)).holds w∧(rd bA l.ae.length 4 (l.ae.map bD.cells)).holds w)∧l.hE=s.hE∧l.cJ=s.cJ∧l.eU=s.eU∧l.cW=s.cW:=by
 obtain ⟨⟨⟨ka,kn,kc⟩⟩,fa,⟨ca,cn,cc⟩,⟨ba,bn,bc⟩,fi,fk,mi⟩:=s
 obtain ⟨ts,E,M,N,O,T⟩:=h1
 obtain ⟨cs,B,C,H,AA,R⟩:=h2
 obtain ⟨bs,A,F,P,G,Q⟩:=h3
 simp only at E B A
 subst E B A
 obtain ⟨ms,az,J,D,S,K,L,_⟩:=vj (fun x hx=>hc x (H x hx))
 have t4':ts.length≤9223372036854775807:=O
 have c4':cs.length≤9223372036854775807:=AA
 have b4':bs.length≤9223372036854775807:=G
 refine ⟨⟨ts,fa,ms,bs,fi,fk,mi⟩,az,ka,kc,ca,cc,ba,bc,by simp only [D],⟨t4',fun x hx=>hs x (N x hx),by simp only; omega,by simp only; omega,b4',L⟩,⟨M,?_,K,F⟩,U,U,U,U⟩
 simp only at C ⊢
 rw [D,← J]; exact C
end
section
open Go.RowKit
theorem xb {w:World} {R:World→aK→Prop}: ∀ {l:List bk},(∀ x∈l,iF aK.cells 2 R w x.cr.ag)→ ∃ (ms:List ax) (az:List RA),l.map bk.cells=List.zipWith ax.cells ms az∧ms.length=l.length∧az.length=l.length∧(∀ X∈aV ax.g0 ms az,X.holds w)∧
 ∀ d∈ms,d.cr.ag.length≤9223372036854775807
 |[],_=>⟨[],[],rfl,rfl,rfl,(fun X hX=>by cases hX),fun d h=>by cases h⟩
 |x::l,h=>by
  obtain ⟨ms,az,D,E,F,G,H⟩:=xb (fun y hy=>h y (cR _ hy))
  obtain ⟨sg,A,B,AA,C,J⟩:=h x sm
  have e4':sg.length≤9223372036854775807:=C
  refine ⟨⟨x.Out,x.eH,x.Time,⟨x.cr.Start,x.cr.fZ,sg⟩⟩::ms,(x.cr.ag.a,x.cr.ag.c)::az,?_,by simp [E],by simp [F],fun X hX=>?_,fun d hd=>?_⟩
  ·obtain ⟨o,f,t,⟨st,nw,⟨a,n,c⟩⟩⟩:=x
   simp only at A
   subst A
   simp only [List.map_cons,List.zipWith_cons_cons,D]
   rfl
  ·rcases List.mem_append.1 hX with hX|hX
   ·simp only [ax.g0,bS] at hX
    subst hX; exact B
   ·exact G X hX
  ·rcases List.mem_cons.1 hd with rfl|hd
   ·exact e4'
   ·exact H d hd
theorem xK {w:World} {R2:World→bk→Prop} {R:World→aK→Prop} (hc: ∀ x,R2 w x→iF aK.cells 2 R w x.cr.ag): ∀ {l:List br},(∀ x∈l,iF bk.cells 7 R2 w x)→ ∃ (ms:List (List ax)) (ha:List cO),(l.map fun s=>[vS s.a s.n s.c])=List.zipWith cP ms ha∧ms.length=l.length∧ha.length=l.length∧(∀ X∈aV iu ms ha,X.holds w)∧
 ∀ (k:Nat) h (a:cO),ms[k]? =some h→ha[k]? =some a→h.length≤9223372036854775807∧a.2.length=h.length∧ ∀ d∈h,d.cr.ag.length≤9223372036854775807
 |[],_=>⟨[],[],rfl,rfl,rfl,(fun X hX=>by cases hX),(fun k h a q=>by simp at q)⟩
 |x::l,h=>by
  obtain ⟨ms,ha,J,K,L,M,N⟩:=xK hc (fun y hy=>h y (cR _ hy))
  obtain ⟨ds,C,G,H,AA,P⟩:=h x sm
  obtain ⟨dm,az,D,B,O,E,F⟩:=xb fun y hy=>hc y (H y hy)
  have e4':ds.length≤9223372036854775807:=AA
  refine ⟨dm::ms,((x.a,x.c),az)::ha,?_,by simp [K],by simp [L],fun X hX=>?_,fun k m a hm A=>?_⟩
  ·obtain ⟨a,n,c⟩:=x
   simp only at C
   subst C
   simp only [List.map_cons,List.zipWith_cons_cons,J,cP,B]
  ·rcases List.mem_append.1 hX with hX|hX
   ·unfold iu at hX
    rcases List.mem_cons.1 hX with rfl|hX
    ·simp only
     rw [B,← D]; exact G
    ·exact E X hX
   ·exact M X hX
  ·cases k with
   |zero=>
    simp only [List.getElem?_cons_zero,Option.some.injEq] at hm A
    subst hm A
    exact ⟨I,by simp only; omega,F⟩
   |succ k=>exact N k m a (by simpa using hm) (by simpa using A)
theorem HE {w:World} {s:cv} {R1:World→al→Prop} {R2:World→dp→Prop} {R3:World→bD→Prop} {R4:World→cx→Prop} {R5:World→Int→Prop} {R6:World→br→Prop} {R7:World→bk→Prop} {R8:World→aK→Prop}
 (h1:iF al.cells 9 R1 w s.ao.aP.kO) (hs: ∀ x,R1 w x→0≤x.iY∧x.iY≤255) (h2:iF dp.cells 2 R2 w s.ao.ak) (hc: ∀ x,R2 w x→iF cx.cells 3 R4 w x.bo) (h3:iF bD.cells 4 R3 w s.ao.ae)
 (h4:iF iC 1 R5 w s.aQ) (h5:iF iC 1 R5 w s.bQ) (h6:iF (fun s=>[vS s.a s.n s.c]) 1 R6 w s.ay) (h7: ∀ x,R6 w x→iF bk.cells 7 R7 w x) (h8: ∀ x,R7 w x→iF aK.cells 2 R8 w x.cr.ag):
 ∃ (r:bT) (az:List RA) (ha:List cO) (kA:OA) (kC:Nat) (cA:OA) (cC:Nat) (bA:OA) (bC:Nat) (slA:OA) (slC:Nat) (drA:OA) (drC:Nat) (heA:OA) (heC:Nat),
  s=cv.mk (ck.mk (bE.mk (br.mk kA r.ao.aP.length kC)) r.ao.hE (br.mk cA r.ao.ak.length cC) (br.mk bA r.ao.ae.length bC) r.ao.cJ r.ao.eU r.ao.cW) (br.mk slA r.aQ.length slC) (br.mk drA r.bQ.length drC) r.iK (br.mk heA r.ay.length heC)∧rf r az ha∧
  ((rd kA r.ao.aP.length 9 (r.ao.aP.map al.cells)).holds w∧(rd cA r.ao.ak.length 2 (List.zipWith ar.cells r.ao.ak az)).holds w∧(eW (aV ar.g0 r.ao.ak az)).holds w∧(rd bA r.ao.ae.length 4 (r.ao.ae.map bD.cells)).holds w∧
   (rd slA r.aQ.length 1 (r.aQ.map iC)).holds w∧(rd drA r.bQ.length 1 (r.bQ.map iC)).holds w∧(rd heA r.ay.length 1 (List.zipWith cP r.ay ha)).holds w∧(eW (aV iu r.ay ha)).holds w):=by
 obtain ⟨ln,⟨sa,sn,sc⟩,⟨da,dn,dc⟩,tu,⟨ea,en,ec⟩⟩:=s
 obtain ⟨l,az,kA,kC,cA,cC,bA,bC,e,A,hh,_⟩:=Hn (s:=ln) h1 hs h2 hc h3
 subst e
 obtain ⟨sl,F,N,T,O,AA⟩:=h4
 obtain ⟨dr,B,G,P,H,Q⟩:=h5
 obtain ⟨he,D,E,L,M,S⟩:=h6
 obtain ⟨ms,ha,AB,C,R,J,K⟩:=xK h8 (fun x hx=>h7 x (L x hx))
 simp only at F B D
 subst F B D
 have s4':sl.length≤9223372036854775807:=O
 have d4':dr.length≤9223372036854775807:=H
 have q4':he.length≤9223372036854775807:=M
 refine ⟨⟨l,sl,dr,tu,ms⟩,az,ha,kA,kC,cA,cC,bA,bC,sa,sc,da,dc,ea,ec,by simp only [C],⟨A,s4',d4',by simp only; omega,by simp only; omega,K⟩,hh.1,hh.2.1,hh.2.2.1,hh.2.2.2,N,G,?_,J⟩
 simp only at E ⊢
 rw [C,← AB]; exact E
end
section
open Go.ChangeShapes Go.WideShapes Go.ChangeAt Go.RowKit
theorem Vm:Tryz.prog.cellsOf 35=11:=by kernel_rfl
theorem Sm:Tryz.prog.cellsOf 31=7:=by kernel_rfl
theorem Ts:Tryz.prog.cellsOf 27=1:=by kernel_rfl
theorem Uw:Tryz.prog.cellsOf 25=1:=by kernel_rfl
theorem O8:Tryz.prog.cellsOf 114=9:=by kernel_rfl
theorem Bb:Tryz.prog.cellsOf 3=1:=by kernel_rfl
def zw (w:World) (n:Int):Prop:=qp n
theorem A_:sJ Tryz.prog 3 Int iC zw:=PL oJ
theorem DE:Tryz.prog.cellsOf 40=2:=by kernel_rfl
structure ER (w:World) (s:aa):Prop where
 Lo:zw w s.Lo
 Hi:zw w s.Hi
theorem UA:fL Tryz.prog 40=some [(3,0),(3,1)]:=by kernel_rfl
theorem HV:sJ Tryz.prog 40 aa aa.cells ER:=fun {H} enc w base sp A fuel cs x h=>by
 obtain ⟨hl,hp⟩:=jq UA h
 obtain ⟨M,O,F⟩:=hp 0 3 0 rfl
 obtain ⟨K,B,AA⟩:=A_ _ _ _ _ _ _ _ _ F
 obtain ⟨N,P,G⟩:=hp 1 3 1 rfl
 obtain ⟨L,C,J⟩:=A_ _ _ _ _ _ _ _ _ G
 refine ⟨⟨K,L⟩,?_,⟨AA,J⟩⟩
 have E:=gR (hl.trans DE) (by rw [Bb]) C
 have D:=di B (m:=1) (by rw [Bb]) E
 exact D
theorem VH:Tryz.prog.cellsOf 5=1:=by kernel_rfl
def Vz (w:World) (n:Int):Prop:=0≤n∧n≤255
theorem VF:sJ Tryz.prog 5 Int Ji Vz:=SC TU
structure LC (w:World) (s:al):Prop where
 Id:zw w s.Id
 ku:ER w s.ku
 lP:ER w s.lP
 eD:ER w s.eD
 iY:Vz w s.iY
 Ay:zw w s.Ay
theorem Sd:fL Tryz.prog 114=some [(3,0),(40,1),(40,3),(40,5),(5,7),(3,8)]:=by kernel_rfl
theorem Rt:sJ Tryz.prog 114 al al.cells LC:=fun {H} enc w base sp A fuel cs x h=>by
 obtain ⟨hl,hp⟩:=jq Sd h
 obtain ⟨g,o,O⟩:=hp 0 3 0 rfl
 obtain ⟨a,B,AA⟩:=A_ _ _ _ _ _ _ _ _ O
 obtain ⟨i,p,P⟩:=hp 1 40 1 rfl
 obtain ⟨b,C,V⟩:=HV _ _ _ _ _ _ _ _ P
 obtain ⟨j,q,Q⟩:=hp 2 40 3 rfl
 obtain ⟨c,D,W⟩:=HV _ _ _ _ _ _ _ _ Q
 obtain ⟨k,r,R⟩:=hp 3 40 5 rfl
 obtain ⟨d,E,X⟩:=HV _ _ _ _ _ _ _ _ R
 obtain ⟨l,s,S⟩:=hp 4 5 7 rfl
 obtain ⟨e,F,Y⟩:=VF _ _ _ _ _ _ _ _ S
 obtain ⟨n,t,T⟩:=hp 5 3 8 rfl
 obtain ⟨f,G,Z⟩:=A_ _ _ _ _ _ _ _ _ T
 refine ⟨⟨a,b,c,d,e,f⟩,?_,⟨AA,V,W,X,Y,Z⟩⟩
 have N:=gR (hl.trans O8) (by rw [Bb]) G
 have M:=di F (m:=8) (by rw [VH]) N
 have L:=di E (m:=7) (by rw [DE]) M
 have K:=di D (m:=5) (by rw [DE]) L
 have J:=di C (m:=3) (by rw [DE]) K
 have AB:=di B (m:=1) (by rw [Bb]) J
 exact AB
def Rr (w:World) (s:br):Prop:= ∃ l:List al,s.n=l.length∧(rd s.a l.length 9 (l.map al.cells)).holds w∧(∀ x∈l,LC w x)∧l.length≤maxLen∧s.n≤s.c
theorem Ui:sJ Tryz.prog 25 br (fun s=>[vS s.a s.n s.c]) Rr:=l_ PE O8 Rt
structure SI (w:World) (s:bE):Prop where
 kO:Rr w s.kO
theorem T1:fL Tryz.prog 27=some [(25,0)]:=by kernel_rfl
theorem T_:sJ Tryz.prog 27 bE bE.cells SI:=fun {H} enc w base sp A fuel cs x h=>by
 obtain ⟨hl,hp⟩:=jq T1 h
 obtain ⟨G,AA,D⟩:=hp 0 25 0 rfl
 obtain ⟨F,B,E⟩:=Ui _ _ _ _ _ _ _ _ D
 refine ⟨⟨F⟩,?_,⟨E⟩⟩
 have C:=gR (hl.trans Ts) (by rw [Uw]) B
 exact C
theorem Ug:Tryz.prog.cellsOf 28=1:=by kernel_rfl
theorem O2:Tryz.prog.cellsOf 119=2:=by kernel_rfl
theorem Sb:Tryz.prog.cellsOf 117=1:=by kernel_rfl
theorem OU:Tryz.prog.cellsOf 116=3:=by kernel_rfl
structure JI (w:World) (s:cx):Prop where
 At:zw w s.At
 ek:ER w s.ek
theorem Tc:fL Tryz.prog 116=some [(3,0),(40,1)]:=by kernel_rfl
theorem To:sJ Tryz.prog 116 cx cx.cells JI:=fun {H} enc w base sp A fuel cs x h=>by
 obtain ⟨hl,hp⟩:=jq Tc h
 obtain ⟨M,O,F⟩:=hp 0 3 0 rfl
 obtain ⟨K,B,AA⟩:=A_ _ _ _ _ _ _ _ _ F
 obtain ⟨N,P,G⟩:=hp 1 40 1 rfl
 obtain ⟨L,C,J⟩:=HV _ _ _ _ _ _ _ _ G
 refine ⟨⟨K,L⟩,?_,⟨AA,J⟩⟩
 have E:=gR (hl.trans OU) (by rw [DE]) C
 have D:=di B (m:=1) (by rw [Bb]) E
 exact D
def Pq (w:World) (s:br):Prop:= ∃ l:List cx,s.n=l.length∧(rd s.a l.length 3 (l.map cx.cells)).holds w∧(∀ x∈l,JI w x)∧l.length≤maxLen∧s.n≤s.c
theorem S8:sJ Tryz.prog 117 br (fun s=>[vS s.a s.n s.c]) Pq:=l_ Pd OU To
structure Jf (w:World) (s:dp):Prop where
 dg:zw w s.dg
 bo:Pq w s.bo
theorem Tf:fL Tryz.prog 119=some [(3,0),(117,1)]:=by kernel_rfl
theorem Rj:sJ Tryz.prog 119 dp dp.cells Jf:=fun {H} enc w base sp A fuel cs x h=>by
 obtain ⟨hl,hp⟩:=jq Tf h
 obtain ⟨M,O,F⟩:=hp 0 3 0 rfl
 obtain ⟨K,B,AA⟩:=A_ _ _ _ _ _ _ _ _ F
 obtain ⟨N,P,G⟩:=hp 1 117 1 rfl
 obtain ⟨L,C,J⟩:=S8 _ _ _ _ _ _ _ _ G
 refine ⟨⟨K,L⟩,?_,⟨AA,J⟩⟩
 have E:=gR (hl.trans O2) (by rw [Sb]) C
 have D:=di B (m:=1) (by rw [Bb]) E
 exact D
def Rp (w:World) (s:br):Prop:= ∃ l:List dp,s.n=l.length∧(rd s.a l.length 2 (l.map dp.cells)).holds w∧(∀ x∈l,Jf w x)∧l.length≤maxLen∧s.n≤s.c
theorem Uu:sJ Tryz.prog 28 br (fun s=>[vS s.a s.n s.c]) Rp:=l_ Tz O2 Rj
theorem Vr:Tryz.prog.cellsOf 29=1:=by kernel_rfl
theorem Pa:Tryz.prog.cellsOf 121=4:=by kernel_rfl
theorem Py:Tryz.prog.cellsOf 111=3:=by kernel_rfl
structure O7 (w:World) (s:cz):Prop where
 aY:zw w s.aY
 mF:ER w s.mF
theorem Ti:fL Tryz.prog 111=some [(3,0),(40,1)]:=by kernel_rfl
theorem SA:sJ Tryz.prog 111 cz cz.cells O7:=fun {H} enc w base sp A fuel cs x h=>by
 obtain ⟨hl,hp⟩:=jq Ti h
 obtain ⟨M,O,F⟩:=hp 0 3 0 rfl
 obtain ⟨K,B,AA⟩:=A_ _ _ _ _ _ _ _ _ F
 obtain ⟨N,P,G⟩:=hp 1 40 1 rfl
 obtain ⟨L,C,J⟩:=HV _ _ _ _ _ _ _ _ G
 refine ⟨⟨K,L⟩,?_,⟨AA,J⟩⟩
 have E:=gR (hl.trans Py) (by rw [DE]) C
 have D:=di B (m:=1) (by rw [Bb]) E
 exact D
structure Kj (w:World) (s:bD):Prop where
 mK:O7 w s.mK
 jR:zw w s.jR
theorem Su:fL Tryz.prog 121=some [(111,0),(3,3)]:=by kernel_rfl
theorem Rs:sJ Tryz.prog 121 bD bD.cells Kj:=fun {H} enc w base sp A fuel cs x h=>by
 obtain ⟨hl,hp⟩:=jq Su h
 obtain ⟨M,O,F⟩:=hp 0 111 0 rfl
 obtain ⟨K,B,AA⟩:=SA _ _ _ _ _ _ _ _ F
 obtain ⟨N,P,G⟩:=hp 1 3 3 rfl
 obtain ⟨L,C,J⟩:=A_ _ _ _ _ _ _ _ _ G
 refine ⟨⟨K,L⟩,?_,⟨AA,J⟩⟩
 have E:=gR (hl.trans Pa) (by rw [Bb]) C
 have D:=di B (m:=3) (by rw [Py]) E
 exact D
def Tb (w:World) (s:br):Prop:= ∃ l:List bD,s.n=l.length∧(rd s.a l.length 4 (l.map bD.cells)).holds w∧(∀ x∈l,Kj w x)∧l.length≤maxLen∧s.n≤s.c
theorem UP:sJ Tryz.prog 29 br (fun s=>[vS s.a s.n s.c]) Tb:=l_ QN Pa Rs
structure TF (w:World) (s:ck):Prop where
 aP:SI w s.aP
 hE:zw w s.hE
 ak:Rp w s.ak
 ae:Tb w s.ae
 cJ:zw w s.cJ
 eU:zw w s.eU
 cW:zw w s.cW
theorem U2:fL Tryz.prog 31=some [(27,0),(3,1),(28,2),(29,3),(3,4),(3,5),(3,6)]:=by kernel_rfl
theorem Ud:sJ Tryz.prog 31 ck ck.cells TF:=fun {H} enc w base sp A fuel cs x h=>by
 obtain ⟨hl,hp⟩:=jq U2 h
 obtain ⟨n,u,Q⟩:=hp 0 27 0 rfl
 obtain ⟨e,B,X⟩:=T_ _ _ _ _ _ _ _ _ Q
 obtain ⟨o,v,R⟩:=hp 1 3 1 rfl
 obtain ⟨f,C,Y⟩:=A_ _ _ _ _ _ _ _ _ R
 obtain ⟨p,y,S⟩:=hp 2 28 2 rfl
 obtain ⟨g,D,Z⟩:=Uu _ _ _ _ _ _ _ _ S
 obtain ⟨q,z,T⟩:=hp 3 29 3 rfl
 obtain ⟨i,E,a⟩:=UP _ _ _ _ _ _ _ _ T
 obtain ⟨r,y4,AA⟩:=hp 4 3 4 rfl
 obtain ⟨j,F,b⟩:=A_ _ _ _ _ _ _ _ _ AA
 obtain ⟨s,y5,V⟩:=hp 5 3 5 rfl
 obtain ⟨k,G,c⟩:=A_ _ _ _ _ _ _ _ _ V
 obtain ⟨t,y6,W⟩:=hp 6 3 6 rfl
 obtain ⟨l,AB,d⟩:=A_ _ _ _ _ _ _ _ _ W
 refine ⟨⟨e,f,g,i,j,k,l⟩,?_,⟨X,Y,Z,a,b,c,d⟩⟩
 have P:=gR (hl.trans Sm) (by rw [Bb]) AB
 have O:=di G (m:=6) (by rw [Bb]) P
 have N:=di F (m:=5) (by rw [Bb]) O
 have M:=di E (m:=4) (by rw [Vr]) N
 have L:=di D (m:=3) (by rw [Ug]) M
 have K:=di C (m:=2) (by rw [Bb]) L
 have J:=di B (m:=1) (by rw [Ts]) K
 exact J
theorem S5:Tryz.prog.cellsOf 32=1:=by kernel_rfl
def QR (w:World) (s:br):Prop:= ∃ l:List Int,s.n=l.length∧(rd s.a l.length 1 (l.map iC)).holds w∧(∀ x∈l,zw w x)∧l.length≤maxLen∧s.n≤s.c
theorem Ry:sJ Tryz.prog 32 br (fun s=>[vS s.a s.n s.c]) QR:=l_ Rl Bb A_
theorem Uf:Tryz.prog.cellsOf 33=1:=by kernel_rfl
theorem U_:Tryz.prog.cellsOf 46=1:=by kernel_rfl
theorem Rw:Tryz.prog.cellsOf 45=7:=by kernel_rfl
theorem VB:Tryz.prog.cellsOf 4=1:=by kernel_rfl
def UN (w:World) (n:Bool):Prop:=True
theorem Vx:sJ Tryz.prog 4 Bool (fun b=>[vB b]) UN:=OF Vw
theorem Sq:Tryz.prog.cellsOf 43=3:=by kernel_rfl
theorem U9:Tryz.prog.cellsOf 41=1:=by kernel_rfl
theorem Pn:Tryz.prog.cellsOf 123=2:=by kernel_rfl
structure Me (w:World) (s:aK):Prop where
 gd:zw w s.gd
 Read:zw w s.Read
theorem Rk:fL Tryz.prog 123=some [(3,0),(3,1)]:=by kernel_rfl
theorem Sk:sJ Tryz.prog 123 aK aK.cells Me:=fun {H} enc w base sp A fuel cs x h=>by
 obtain ⟨hl,hp⟩:=jq Rk h
 obtain ⟨M,O,F⟩:=hp 0 3 0 rfl
 obtain ⟨K,B,AA⟩:=A_ _ _ _ _ _ _ _ _ F
 obtain ⟨N,P,G⟩:=hp 1 3 1 rfl
 obtain ⟨L,C,J⟩:=A_ _ _ _ _ _ _ _ _ G
 refine ⟨⟨K,L⟩,?_,⟨AA,J⟩⟩
 have E:=gR (hl.trans Pn) (by rw [Bb]) C
 have D:=di B (m:=1) (by rw [Bb]) E
 exact D
def RP (w:World) (s:br):Prop:= ∃ l:List aK,s.n=l.length∧(rd s.a l.length 2 (l.map aK.cells)).holds w∧(∀ x∈l,Me w x)∧l.length≤maxLen∧s.n≤s.c
theorem Vf:sJ Tryz.prog 41 br (fun s=>[vS s.a s.n s.c]) RP:=l_ Se Pn Sk
structure SL (w:World) (s:eB):Prop where
 Start:zw w s.Start
 fZ:zw w s.fZ
 ag:RP w s.ag
theorem UD:fL Tryz.prog 43=some [(3,0),(3,1),(41,2)]:=by kernel_rfl
theorem Um:sJ Tryz.prog 43 eB eB.cells SL:=fun {H} enc w base sp A fuel cs x h=>by
 obtain ⟨hl,hp⟩:=jq UD h
 obtain ⟨R,AA,AB⟩:=hp 0 3 0 rfl
 obtain ⟨O,B,L⟩:=A_ _ _ _ _ _ _ _ _ AB
 obtain ⟨S,V,J⟩:=hp 1 3 1 rfl
 obtain ⟨P,C,M⟩:=A_ _ _ _ _ _ _ _ _ J
 obtain ⟨T,W,K⟩:=hp 2 41 2 rfl
 obtain ⟨Q,D,N⟩:=Vf _ _ _ _ _ _ _ _ K
 refine ⟨⟨O,P,Q⟩,?_,⟨L,M,N⟩⟩
 have G:=gR (hl.trans Sq) (by rw [U9]) D
 have F:=di C (m:=2) (by rw [Bb]) G
 have E:=di B (m:=1) (by rw [Bb]) F
 exact E
structure P4 (w:World) (s:bk):Prop where
 Out:UN w s.Out
 eH:UN w s.eH
 Time:ER w s.Time
 cr:SL w s.cr
theorem UI:fL Tryz.prog 45=some [(4,0),(4,1),(40,2),(43,4)]:=by kernel_rfl
theorem Vh:sJ Tryz.prog 45 bk bk.cells P4:=fun {H} enc w base sp A fuel cs x h=>by
 obtain ⟨hl,hp⟩:=jq UI h
 obtain ⟨W,a,K⟩:=hp 0 4 0 rfl
 obtain ⟨S,B,O⟩:=Vx _ _ _ _ _ _ _ _ K
 obtain ⟨X,b,L⟩:=hp 1 4 1 rfl
 obtain ⟨T,C,P⟩:=Vx _ _ _ _ _ _ _ _ L
 obtain ⟨Y,c,M⟩:=hp 2 40 2 rfl
 obtain ⟨AA,D,Q⟩:=HV _ _ _ _ _ _ _ _ M
 obtain ⟨Z,d,N⟩:=hp 3 43 4 rfl
 obtain ⟨V,E,R⟩:=Um _ _ _ _ _ _ _ _ N
 refine ⟨⟨S,T,AA,V⟩,?_,⟨O,P,Q,R⟩⟩
 have J:=gR (hl.trans Rw) (by rw [Sq]) E
 have AB:=di D (m:=4) (by rw [DE]) J
 have G:=di C (m:=2) (by rw [VB]) AB
 have F:=di B (m:=1) (by rw [VB]) G
 exact F
def Qi (w:World) (s:br):Prop:= ∃ l:List bk,s.n=l.length∧(rd s.a l.length 7 (l.map bk.cells)).holds w∧(∀ x∈l,P4 w x)∧l.length≤maxLen∧s.n≤s.c
theorem TZ:sJ Tryz.prog 46 br (fun s=>[vS s.a s.n s.c]) Qi:=l_ Th Rw Vh
def RI (w:World) (s:br):Prop:= ∃ l:List br,s.n=l.length∧(rd s.a l.length 1 (l.map (fun s=>[vS s.a s.n s.c]))).holds w∧(∀ x∈l,Qi w x)∧l.length≤maxLen∧s.n≤s.c
theorem Uj:sJ Tryz.prog 33 br (fun s=>[vS s.a s.n s.c]) RI:=l_ S4 U_ TZ
structure U5 (w:World) (s:cv):Prop where
 ao:TF w s.ao
 aQ:QR w s.aQ
 bQ:QR w s.bQ
 iK:zw w s.iK
 ay:RI w s.ay
theorem S6:fL Tryz.prog 35=some [(31,0),(32,7),(32,8),(3,9),(33,10)]:=by kernel_rfl
theorem U1:sJ Tryz.prog 35 cv cv.cells U5:=fun {H} enc w base sp A fuel cs x h=>by
 obtain ⟨hl,hp⟩:=jq S6 h
 obtain ⟨b,g,M⟩:=hp 0 31 0 rfl
 obtain ⟨W,B,R⟩:=Ud _ _ _ _ _ _ _ _ M
 obtain ⟨c,i,N⟩:=hp 1 32 7 rfl
 obtain ⟨X,C,S⟩:=Ry _ _ _ _ _ _ _ _ N
 obtain ⟨d,j,O⟩:=hp 2 32 8 rfl
 obtain ⟨Y,D,T⟩:=Ry _ _ _ _ _ _ _ _ O
 obtain ⟨e,k,P⟩:=hp 3 3 9 rfl
 obtain ⟨Z,E,AA⟩:=A_ _ _ _ _ _ _ _ _ P
 obtain ⟨f,l,Q⟩:=hp 4 33 10 rfl
 obtain ⟨a,F,V⟩:=Uj _ _ _ _ _ _ _ _ Q
 refine ⟨⟨W,X,Y,Z,a⟩,?_,⟨R,S,T,AA,V⟩⟩
 have L:=gR (hl.trans Vm) (by rw [Uf]) F
 have K:=di E (m:=10) (by rw [Bb]) L
 have J:=di D (m:=9) (by rw [S5]) K
 have AB:=di C (m:=8) (by rw [S5]) J
 have G:=di B (m:=7) (by rw [Sm]) AB
 exact G
theorem yi:ownKnob Tryz.prog.godebug=none:=by kernel_rfl
theorem wv:laidOutB Tryz.prog=true:=by kernel_rfl
theorem uI (os:Os) (started:os.Started) (H:Type) (enc:TypeId×Value→H):
 ReturnsInHanded {} Tryz.checked os 4 .any (fun w args=>(Rows.raceTableSpec.pre enc Tryz.prog Tryz.f4 [] false w args∧laidMetH Tryz.prog [("kreisel/race.table",Rows.laid_kreisel_race_table)] w)∧sizedMet enc Tryz.prog Tryz.f4 (OpenSpec.ofChange Rows.raceTableSpec) false w args) (Rows.raceTableSpec.post enc Tryz.prog Tryz.f4 false true false false):=by
 refine returnsInHanded_of_change_and (C:=Tryz.checked) (X:=(fun w _=>laidMetH Tryz.prog [("kreisel/race.table",Rows.laid_kreisel_race_table)] w)) (fun _ _ _ hh h=>h.of_heap hh) yi started kr Tryz.func4
  (ChangeSpec.witness_shaped (enc:=enc) (C:=Tryz.checked) (os:=os) (X:=(fun w _=>laidMetH Tryz.prog [("kreisel/race.table",Rows.laid_kreisel_race_table)] w)) false (World.doorLaid Tryz.prog 400 os) #[.agg #[(vS none 0 0),(vI 0),(vS none 0 0),(vS none 0 0),(vI 0),(vI 0),(vI 0),(vS none 0 0),(vS none 0 0),(vI 0),(vS none 0 0)]] 8 rfl (World.shaped_of_RefB kr kr) kr kr kr (DQ os _)) ?_
 intro W base args ds gs before E hW _ _ hL _
 have D: ∀ (j:Nat) t v,Tryz.f4.params[j]? =some t→args[j]? =some v→Value.okWide Tryz.prog W .any base t v:=E
 have hW':=hW
 obtain ⟨p,q,K,hV,rfl,T,AA⟩:=hW
 have hA:DataW.TrodAll enc Tryz.prog W 0 (fun _=>true) true Tryz.f4.params.toList args.toList ds p:=K
 have F:=hA
 rw [Tryz.params4] at hA D
 obtain ⟨Q,Y,Z,R,a,b,L,rfl,rfl,S,V⟩:=trodAll_cons hA
 obtain ⟨rfl,rfl,rfl⟩:=trodAll_nil V
 obtain rfl:args= #[Q]:=by cases args; simp_all
 obtain ⟨rfl,rfl⟩:=trodVars_none hV
 obtain ⟨c,rfl,R0⟩:=Eu S6 U1 (D 0 35 Q rfl rfl) S
 simp only [List.append_nil] at hW' F
 have J:=yn hL
 obtain ⟨r,az,ha,kA,kC,cA,cC,bA,bC,O,P,drA,drC,M,N,rfl,G,B⟩:=HE (R1:=LC) (R2:=Jf) (R3:=Kj) (R4:=JI) (R5:=zw) (R6:=Qi) (R7:=P4) (R8:=Me) R0.ao.aP.kO (fun x hx=>hx.iY) R0.ao.ak (fun x hx=>hx.bo) R0.ao.ae R0.aQ R0.bQ R0.ay (fun x hx=>hx) (fun x hx=>hx.cr.ag)
 have AB:=(Cm r kA kC az cA cC bA bC O P drA drC ha M N G).run W (by intro A hA; simp only [ed,List.not_mem_nil,or_false] at hA; rcases hA with rfl|rfl|rfl|rfl|rfl|rfl|rfl|rfl|rfl; exact J; exact B.1; exact B.2.1; exact B.2.2.1; exact B.2.2.2.1; exact B.2.2.2.2.1; exact B.2.2.2.2.2.1; exact B.2.2.2.2.2.2.1; exact B.2.2.2.2.2.2.2)
 refine (AB).mono fun e W' ⟨he,hk⟩=>?_
 subst he
 exact ⟨_,U,L7 wv hW' F U U kr hk.below kr Vw⟩
theorem vE:Rows.RaceTableSaid:=
 OpenClaim.holds_of_wide 4 Tryz.f4 rfl rfl rfl rfl rfl rfl rfl ⟨rfl,rfl,rfl,rfl,rfl⟩ rfl rfl rfl rfl rfl kr Tryz.func4 uv
  (of_decide_eq_true kr) (by unfold Func.isWrapper; first|(rw [if_pos (by decide+kernel)]; kernel_rfl)|(rw [if_neg (by decide+kernel)]; exact ⟨rfl,rfl⟩))
  (fun os started H enc _=>uI os started H enc)
/-- the statement -/
theorem raceTable_said:Rows.RaceTableCardSaid:=
 Claim7.holds_tied_plain_at .later [] [.funcsDeep] true (true,"088415838787c5430f0abdddd979ed2a5db6662ea085e3210461bc02ff0f1fa1") true
  vE (fun _ h=>by cases h) kr (fun _ h=>by cases h) raceTable_row_tie rfl ⟨rfl,rfl⟩ kr rfl
  (fun f fn hf B=>by
   obtain rfl:f=4:=Option.some.inj ((show Tryz.prog.funcNamed "kreisel/kreisellaw06.RaceTable"=some 4 by kernel_rfl).symm.trans hf) |>.symm
   obtain rfl:fn=Tryz.f4:=(Option.some.inj (Tryz.func4.symm.trans B)).symm
   exact ⟨kr,fun j t ht=>by
    rw [Tryz.params4] at ht
    have hm:t∈([35]:List Nat):=by simpa using Array.mem_of_getElem? ht
    have A:(([35]:List Nat).all fun u=> !Tryz.prog.wantsStandIn u)=true:=by kernel_rfl
    exact (show Tryz.prog.wantsStandIn t=false by simpa using List.all_eq_true.1 A t hm)⟩)
  kr
#print axioms raceTable_said
end
end Go.Proofs.YtadjgjnicdcjbaaGreatDoor
