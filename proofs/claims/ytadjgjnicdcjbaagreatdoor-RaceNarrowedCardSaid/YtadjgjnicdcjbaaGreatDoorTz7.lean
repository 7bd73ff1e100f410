/-
 The statement raceNarrowed_said, part 7 of 8: Rx9, Rx10, Rx11, Rz1, DrawB, Rep6, Async, NJoin, RkS, RaS, RtS, Rx3, WLe, Ends5, Can, False, Sim, Told, Clear, Ways, WayM, B7, B8, B9, R1, Y1.
 Conditions: none.
-/
import Derived.Test.YtadjgjnicdcjbaaGreatDoorTz1
import Derived.Test.YtadjgjnicdcjbaaGreatDoorTz2
import Derived.Test.YtadjgjnicdcjbaaGreatDoorTz3
import Derived.Test.YtadjgjnicdcjbaaGreatDoorTz4
import Derived.Test.YtadjgjnicdcjbaaGreatDoorTz5
import Derived.Test.YtadjgjnicdcjbaaGreatDoorTz6
namespace Go.Proofs.YtadjgjnicdcjbaaGreatDoor
set_option maxRecDepth 100000
set_option maxHeartbeats 4000000
set_option linter.unusedVariables false
section
open Go.RowKit
theorem NI (r:bT) (kA:OA) (kC:Nat) (az:List RA) (cA:OA) (cC:Nat) (bA:OA) (bC:Nat) (slA:OA) (slC:Nat) (drA:OA) (drC:Nat) (ha:List cM) (heA:OA) (heC:Nat) (hin:eW r az ha):
 lD Tryz.prog 66 [(vA (cm.cells (oD r kA kC cA cC bA bC slA slC drA drC heA heC)))] [(rd kA r.an.aN.length 9 (r.an.aN.map al.cells)),(rd cA r.an.aj.length 2 (List.zipWith av.cells r.an.aj az)),(e7 (aU av.g0 r.an.aj az)),(rd bA r.an.ae.length 4 (r.an.ae.map bB.cells)),(rd slA r.aK.length 1 (r.aK.map iC)),(rd drA r.bL.length 1 (r.bL.map iC)),(rd heA r.ar.length 1 (List.zipWith cJ r.ar ha)),(e7 (aU im r.ar ha))] (fun (x:(OA)×Nat×(OA)×Nat×(List RA)×(OA)×Nat×(OA)×Nat×(OA)×Nat×(OA)×Nat×(List cM))=>(vA (cm.cells (cm.mk (cb.mk (bD.mk (bp.mk x.1 r.an.aN.length x.2.1)) r.an.gT (bp.mk x.2.2.1 r.an.aj.length x.2.2.2.1) (bp.mk x.2.2.2.2.2.1 r.an.ae.length x.2.2.2.2.2.2.1) r.an.cu r.an.eM r.an.cQ) (bp.mk x.2.2.2.2.2.2.2.1 r.aK.length x.2.2.2.2.2.2.2.2.1) (bp.mk x.2.2.2.2.2.2.2.2.2.1 r.bL.length x.2.2.2.2.2.2.2.2.2.2.1) r.ik (bp.mk x.2.2.2.2.2.2.2.2.2.2.2.1 r.ar.length x.2.2.2.2.2.2.2.2.2.2.2.2.1))))) (fun (x:(OA)×Nat×(OA)×Nat×(List RA)×(OA)×Nat×(OA)×Nat×(OA)×Nat×(OA)×Nat×(List cM))=>(x.2.2.2.2.1.length=r.an.aj.length∧rN r.an.aj x.2.2.2.2.1)∧tI r.ar x.2.2.2.2.2.2.2.2.2.2.2.2.2) (fun (x:(OA)×Nat×(OA)×Nat×(List RA)×(OA)×Nat×(OA)×Nat×(OA)×Nat×(OA)×Nat×(List cM))=>[(own x.1 x.2.1 114 9 (r.an.aN.map al.cells)),(own x.2.2.1 x.2.2.2.1 119 2 (List.zipWith av.cells r.an.aj x.2.2.2.2.1)),(bu (aU av.owns r.an.aj x.2.2.2.2.1)),(own x.2.2.2.2.2.1 x.2.2.2.2.2.2.1 121 4 (r.an.ae.map bB.cells)),(own x.2.2.2.2.2.2.2.1 x.2.2.2.2.2.2.2.2.1 3 1 (r.aK.map iC)),(own x.2.2.2.2.2.2.2.2.2.1 x.2.2.2.2.2.2.2.2.2.2.1 3 1 (r.bL.map iC)),(own x.2.2.2.2.2.2.2.2.2.2.2.1 x.2.2.2.2.2.2.2.2.2.2.2.2.1 46 1 (List.zipWith cJ r.ar x.2.2.2.2.2.2.2.2.2.2.2.2.2)),(bu (aU iA r.ar x.2.2.2.2.2.2.2.2.2.2.2.2.2))]):=by
 have C:=hin.line
 have BA:=hin.iN
 have M:=hin.has
 have BN:=hin.iM
 have BL:=hin.draw
 have BO:=dB (r:=r)
 have Bb:=C.sM
 have BY:=C.sO
 have BX:=C.sN
 have A8:=C.oq
 refine di kr Tryz.func66 U U fun w0 Q hQ hN=>?_
 try dsimp only
 refine WS fun _ A4=>fQ U fun b2=>AL U z_ fun b3=>RK A4<|WS fun _ A5=>rP 2 [] I ?_
 refine RK A5<|ai fun _ A6=>dD cq [8,13,18,22,25,28] [7,11,15] [0,1,2] [0,2,3,4,5,6,7,8,9] [0,1,2,3,4,5,6,7,8,9] U U U U U<|eS U (MV U)<|eS U (MV U)<|eS U (MV U)<|eS U (MV U)<|eS U (SX (bI U U) U U)<|eS U (FA 0 U fx U)<|eS U (FA 0 U fx U)<|fS U (L1 (vS kA r.an.aN.length kC) 1 U b_ U U)<|eS U (MV U)<|eS U (SX (bI U U) U U)<|eS U (FA 2 U fx U)<|fS U (L1 (vS cA r.an.aj.length cC) 1 U b_ U U)<|eS U (MV U)<|eS U (SX (bI U U) U U)<|eS U (FA 3 U fx U)<|fS U (L1 (vS bA r.an.ae.length bC) 1 U b_ U U)<|eS U (SX (bI U U) U U)<|eS U (FA 0 U fx U)<|eS U (FA 0 U fx U)<|eS U (SX (bI U U) U U)<|eS U (FA 2 U fx U)<|eS U (SX (bI U U) U U)<|eS U (FA 3 U fx U)<|eX U<|iD U fun T6 A7=>?_
 refine cX (L5 r.an.aN kA kC sd) (bf [2]) U fun y7 Bc=>?_
 obtain ⟨a9,S⟩:=y7
 try dsimp only
 refine aF (A7 _ _ (aI [1,3,4,5,6,7,8,9,10]) (aI [1,2,3,4,5,6,7,8,9,10]) ?_)
 refine iD U fun T11 Ae=>?_
 refine cX (JJ (List.zipWith av.cells r.an.aj az) cA r.an.aj.length cC sd (by exact gE A8) (by exact EN _ _)) (bf [4]) U fun BC BP=>?_
 obtain ⟨J,K⟩:=BC
 try dsimp only
 refine aF (Ae _ _ (aI [2,4,5,6,7,8,9,10,11]) (aI [2,3,4,5,6,7,8,9,10,11]) ?_)
 refine iD U fun T16 Af=>?_
 refine cX (Ls r.an.ae bA bC sd) (bf [7]) U fun BD BQ=>?_
 obtain ⟨Y,Z⟩:=BD
 try dsimp only
 refine aF (Af _ _ (aI [3,5,6,7,8,9,10,11,12]) (aI [3,4,5,6,7,8,9,10,11,12]) ?_)
 refine bX U fun T21 Ag=>Vq (cm.cells (cm.mk (cb.mk (bD.mk (bp.mk a9 r.an.aN.length S)) r.an.gT (bp.mk cA r.an.aj.length cC) (bp.mk bA r.an.ae.length bC) r.an.cu r.an.eM r.an.cQ) (bp.mk slA r.aK.length slC) (bp.mk drA r.bL.length drC) r.ik (bp.mk heA r.ar.length heC))) U UI U U<|aF (Ag _ _ (aI [3,5,6,7,8,9,10,11,12]) ?_)
 refine bX U fun T22 Ah=>Vq (cm.cells (cm.mk (cb.mk (bD.mk (bp.mk a9 r.an.aN.length S)) r.an.gT (bp.mk J r.an.aj.length K) (bp.mk bA r.an.ae.length bC) r.an.cu r.an.eM r.an.cQ) (bp.mk slA r.aK.length slC) (bp.mk drA r.bL.length drC) r.ik (bp.mk heA r.ar.length heC))) U Uf U U<|aF (Ah _ _ (aI [3,5,6,7,8,9,10,11,12]) ?_)
 refine bX U fun T23 Aj=>Vq (cm.cells (cm.mk (cb.mk (bD.mk (bp.mk a9 r.an.aN.length S)) r.an.gT (bp.mk J r.an.aj.length K) (bp.mk Y r.an.ae.length Z) r.an.cu r.an.eM r.an.cQ) (bp.mk slA r.aK.length slC) (bp.mk drA r.bL.length drC) r.ik (bp.mk heA r.ar.length heC))) U UH U U<|aF (Aj _ _ (aI [3,5,6,7,8,9,10,11,12]) ?_)
 refine fF U<|KK A6<|ai fun _ AI=>WS fun _ AJ=>a_ 1 U<|rS (SX (bI U U) U U)<|rP 4 [] (mc 4 U I) ?_
 refine RK AJ<|ax<|oh ?_
 have E:(0≤r.an.aj.length)∧(([]:List RA).length=0)∧(rN r.an.aj ([]:List RA)):=by exact ⟨Nat.zero_le _,rfl,fun k m a _ h=>by simp at h⟩
 refine bK (ι:={z:Nat×(List RA) // (z.1≤r.an.aj.length)∧(z.2.length=z.1)∧(rN r.an.aj z.2)}) [1,2,3,39] [1,3,4,5,6,7,8,9,10,11,12,13] U U (fun z=>[(40,(vI (z.1.1:Int)))]) (fun z=>[(bu (aU av.owns (r.an.aj.take z.1.1) z.1.2)),(own J K 119 2 (List.zipWith av.cells r.an.aj (kg z.1.2 az z.1.1)))]) (fun _=>rfl) (fun _=>rfl) (fun z=>r.an.aj.length-z.1.1) ⟨(0,([]:List RA)),E⟩ (aS U) (aI [1,3,4,5,6,7,8,9,10,11,12,13,0,2]) ?_
 clear E
 rintro ⟨⟨i,bz⟩,⟨AE,B,V⟩⟩ J26 AF
 try dsimp only at AE B V
 try dsimp only
 refine WS fun _ AK=>rP 1 [] I ?_
 refine RK AK<|ai fun _ AM=>cy U (aP fun A1=>?_) (aQ fun A1=>?_)
 ·refine WK AM<|ai fun _ AN=>ax<|WS fun _ AO=>rP 2 [] I ?_
  refine RK AO<|dD cq [13,16] [10,11,12,13,14] [0] [0,1,2,3,4,5,6,7,8,9,10,11,12] [0,1,2,3,4,5,6,7,8,9,10,11,12,13] U U U U U<|eS U (MV U)<|eS U (SX (bI U U) U U)<|eS U (FA 2 U fx U)<|eS U (L1 (vS J r.an.aj.length K) 3 U b_ U U)<|eS U (MV U)<|eS U (MV U)<|eS U (SX (bI U U) U U)<|eS U (FA 2 U fx U)<|eS U (L1 (vS J r.an.aj.length K) 3 U b_ U U)<|eS U (MV U) ?_
  obtain ⟨x,hx⟩:=aL r.an.aj i om
  obtain ⟨xa,s⟩:=aL az i om
  have A0:(List.zipWith av.cells r.an.aj (kg bz az i))[i]? =some (av.cells x xa):=dM hx (Am B s)
  have Ba:=(C.QZ _ _ _ hx s).2
  refine fS U (IA i U (ag (n:=r.an.aj.length) 13 U (gE (by rw [iG B om]; exact C.oq))) Ar dc om om) ?_
  refine fS U (nN ((i*2)+1) U (ag (n:=r.an.aj.length) 13 U (gE (by rw [iG B om]; exact C.oq))) (Nat.mul_pos om dc) fx U) ?_
  refine fS U (gp i 1 (vS xa.1 x.br.length xa.2) U b_ (ag (n:=r.an.aj.length) 13 U (gE (by rw [iG B om]; exact C.oq))) A0 U dc U) ?_
  refine fS U (IA i U (ag (n:=r.an.aj.length) 13 U (gE (by rw [iG B om]; exact C.oq))) Ar dc om om) ?_
  refine fS U (nN ((i*2)+1) U (ag (n:=r.an.aj.length) 13 U (gE (by rw [iG B om]; exact C.oq))) (Nat.mul_pos om dc) fx U) ?_
  refine eX U<|iD U fun T32 Ak=>?_
  refine cX (JQ x.br xa.1 xa.2 sd) (aq (show i_ _ (rd xa.1 x.br.length 3 (x.br.map cw.cells)).holds from (dx 6 U (bW hx s (by simp [av.g0]))))<|aJ) U fun BE BR=>?_
  obtain ⟨P,T⟩:=BE
  try dsimp only
  refine aF (Ak _ _ (aI [1,2,3,4,5,6,7,8,9,10,11,12,13]) (aI [1,2,3,4,5,6,7,8,9,10,11,12,13,14]) ?_)
  refine bX U fun T37 Al=>eC (k:=i) (o:=1) (vs:=[(vS P x.br.length T)]) (es':=(List.zipWith av.cells r.an.aj (kg (bz++[(P,T)]) az (i+1)))) (C':=[_,_,_,_,_,_,_,_,_,_,_,_,_,_,(own J K 119 2 (List.zipWith av.cells r.an.aj (kg (bz++[(P,T)]) az (i+1))))]) 14 U U U SO U U U U A0 U dc (by exact xK (c:=av.cells) (b:=(P,T)) hx B s) U<|aF (Al _ _ (aI [1,2,3,4,5,6,7,8,9,10,11,12,13]) ?_)
  refine fF U<|aG<|KK AN<|ak<|rP 2 [] I ?_
  refine aF<|PD 0 U fun t=>?_
  simp only [List.length_map] at t
  refine IH (Y':=aU av.owns (r.an.aj.take (i+1)) (bz++[(P,T)])) 13 0 U U (si (f:=av.owns) (b:=(P,T)) hx B) ?_
  have Aw:(vI (((i+1):Nat):Int))=(vI ((i:Int)+1)):=by exact cI om
  refine aR (AF ⟨((i+1),(bz++[(P,T)])),⟨om,by simp; omega,I6 V B hx t⟩⟩ _ _ _ U os (cO 4<|bo U Aw<|dw.nil _) (aI [1,2,3,4,5,6,7,8,9,10,11,12,0,13]))
 refine bw<|ab<|ab<|ay<|KK AI<|ai fun _ AP=>?_
 have A9:bz.length=r.an.aj.length:=by omega
 have A_:=V
 rw [show (kg bz az i)=bz from xE om,show r.an.aj.take i=r.an.aj from List.take_of_length_le om]
 refine dD cq [2,5,8,10,12,14] [1,3,5] [0,1,2] [0,1,2,4,5,6,7,8,9,10,11,12,13] [0,1,2,3,4,5,6,7,8,9,10,11,12,13] U U U U U<|eS U (FA 7 U fx U)<|fS U (L1 (vS slA r.aK.length slC) 3 U b_ U U)<|eS U (FA 8 U fx U)<|fS U (L1 (vS drA r.bL.length drC) 3 U b_ U U)<|eS U (FA 10 U fx U)<|fS U (L1 (vS heA r.ar.length heC) 3 U b_ U U)<|eS U (FA 7 U fx U)<|eS U (FA 8 U fx U)<|eS U (FA 10 U fx U)<|eX U<|iD U fun T40 An=>?_
 refine cX (vO r.aK slA slC sd) (bf [8]) U fun BF BS=>?_
 obtain ⟨g,j⟩:=BF
 try dsimp only
 refine aF (An _ _ (aI [1,2,3,5,6,7,8,9,10,11,12,13,14]) (aI [1,2,3,4,5,6,7,8,9,10,11,12,13,14]) ?_)
 refine iD U fun T45 Ao=>?_
 refine cX (vO r.bL drA drC sd) (bf [10]) U fun BG BT=>?_
 obtain ⟨w,AB⟩:=BG
 try dsimp only
 refine aF (Ao _ _ (aI [2,3,4,6,7,8,9,10,11,12,13,14,15]) (aI [2,3,4,5,6,7,8,9,10,11,12,13,14,15]) ?_)
 refine iD U fun T50 Ap=>?_
 refine cX (JO (List.zipWith cJ r.ar ha) heA r.ar.length heC sd (by exact eL M) (by exact G1 _ _)) (bf [12]) U fun BH BU=>?_
 obtain ⟨W,X⟩:=BH
 try dsimp only
 refine aF (Ap _ _ (aI [3,4,5,7,8,9,10,11,12,13,14,15,16]) (aI [3,4,5,6,7,8,9,10,11,12,13,14,15,16]) ?_)
 refine bX U fun T55 Aq=>Vs (cm.cells (cm.mk (cb.mk (bD.mk (bp.mk a9 r.an.aN.length S)) r.an.gT (bp.mk J r.an.aj.length K) (bp.mk Y r.an.ae.length Z) r.an.cu r.an.eM r.an.cQ) (bp.mk g r.aK.length j) (bp.mk drA r.bL.length drC) r.ik (bp.mk heA r.ar.length heC))) U Ai U U<|aF (Aq _ _ (aI [3,4,5,7,8,9,10,11,12,13,14,15,16]) ?_)
 refine bX U fun T56 As=>Vs (cm.cells (cm.mk (cb.mk (bD.mk (bp.mk a9 r.an.aN.length S)) r.an.gT (bp.mk J r.an.aj.length K) (bp.mk Y r.an.ae.length Z) r.an.cu r.an.eM r.an.cQ) (bp.mk g r.aK.length j) (bp.mk w r.bL.length AB) r.ik (bp.mk heA r.ar.length heC))) U Ai U U<|aF (As _ _ (aI [3,4,5,7,8,9,10,11,12,13,14,15,16]) ?_)
 refine bX U fun T57 At=>Vs (cm.cells (cm.mk (cb.mk (bD.mk (bp.mk a9 r.an.aN.length S)) r.an.gT (bp.mk J r.an.aj.length K) (bp.mk Y r.an.ae.length Z) r.an.cu r.an.eM r.an.cQ) (bp.mk g r.aK.length j) (bp.mk w r.bL.length AB) r.ik (bp.mk W r.ar.length X))) U UD U U<|aF (At _ _ (aI [3,4,5,7,8,9,10,11,12,13,14,15,16]) ?_)
 refine fF U<|KK AP<|ai fun _ AQ=>WS fun _ AR=>rP 4 [] (mc 6 U I) ?_
 refine RK AR<|ax<|oh ?_
 have E:(0≤r.ar.length)∧(([]:List cM).length=0)∧(∀ (k:Nat) y (a:cM),r.ar[k]? =some y→([]:List cM)[k]? =some a→a.2.length=y.length):=by exact ⟨Nat.zero_le _,rfl,fun k y a _ q=>by simp at q⟩
 refine bK (ι:={z:Nat×(List cM) // (z.1≤r.ar.length)∧(z.2.length=z.1)∧(∀ (k:Nat) y (a:cM),r.ar[k]? =some y→z.2[k]? =some a→a.2.length=y.length)}) [1,2,74] [2,3,4,5,6,7,8,9,10,11,12,13,14,15,16,17] U U (fun z=>[(75,(vI (z.1.1:Int)))]) (fun z=>[(bu (aU iA (r.ar.take z.1.1) z.1.2)),(own W X 46 1 (List.zipWith cJ r.ar (kg z.1.2 ha z.1.1)))]) (fun _=>rfl) (fun _=>rfl) (fun z=>r.ar.length-z.1.1) ⟨(0,([]:List cM)),E⟩ (aS U) (aI [2,3,4,5,6,7,8,9,10,11,12,13,14,15,16,17,0,1]) ?_
 clear E
 rintro ⟨⟨h,hz⟩,⟨l,A,L⟩⟩ J60 AG
 try dsimp only at l A L
 try dsimp only
 refine WS fun _ AS=>rP 1 [] I ?_
 refine RK AS<|ai fun _ AT=>bM U (aQ fun A2=>?_) (aP fun A2=>?_)
 ·refine bw<|ab<|ab<|ay<|KK AQ<|ai fun _ Ad=>?_
  have BB:tI r.ar hz:=⟨om,L⟩
  rw [show (kg hz ha h)=hz from xE om,show r.ar.take h=r.ar from List.take_of_length_le om]
  refine ak<|rP 1 [] (mc 5 U I) ?_
  refine Ps U sE U<|RK Ad<|ao ?_
  refine LX hQ (a9,S,J,K,bz,Y,Z,g,j,w,AB,W,X,hz) [3,15,14,2,1,0,17,16] [0] (mc 4 U I) U (by show List.all _ _=true; simp only [fG,List.all_nil,gi,kj,Bool.and_true]; rfl) U U ?_
  exact ⟨⟨A9,A_⟩,BB⟩
 refine WK AT<|ai fun _ AU=>ax<|WS fun _ AV=>rP 2 [] I ?_
 refine RK AV<|ai fun _ AW=>dD cq [8,10] [6,7,8] [0] [0,1,2,3,4,5,6,7,8,9,10,11,12,13,14,15,16] [0,1,2,3,4,5,6,7,8,9,10,11,12,13,14,15,16,17] U U U U U<|eS U (FA 10 U fx U)<|eS U (L1 (vS W r.ar.length X) 5 U b_ U U)<|eS U (MV U)<|eS U (FA 10 U fx U)<|eS U (L1 (vS W r.ar.length X) 5 U b_ U U)<|eS U (MV U) ?_
 obtain ⟨ht,N⟩:=aL r.ar h om
 obtain ⟨D,O⟩:=aL ha h om
 have u:(List.zipWith cJ r.ar (kg hz ha h))[h]? =some (cJ ht D):=dM N (Am A O)
 have AD:=hin.lq _ _ _ N O
 have e:=AD.oq
 have BA:=AD.len
 refine fS U (IA h U (ag (n:=r.ar.length) 17 U (eL (by rw [iG A om]; exact M))) rF dc om om) ?_
 refine fS U (gp h 0 (vS D.1.1 ht.length D.1.2) U b_ (ag (n:=r.ar.length) 17 U (eL (by rw [iG A om]; exact M))) u U dc U) ?_
 refine fS U (IA h U (ag (n:=r.ar.length) 17 U (eL (by rw [iG A om]; exact M))) rF dc om om) ?_
 refine eX U<|iD U fun T67 Au=>?_
 refine cX (LL (List.zipWith aw.cells ht D.2) D.1.1 ht.length D.1.2 sd (by exact qu e) (by exact M5 _ _)) (aq (show i_ _ (rd D.1.1 ht.length 7 (List.zipWith aw.cells ht D.2)).holds from (dx 13 U (bW N O cf)))<|aJ) U fun BI BV=>?_
 obtain ⟨G,H⟩:=BI
 try dsimp only
 refine aF (Au _ _ (aI [1,2,3,4,5,6,7,8,9,10,11,12,13,14,15,16,17]) (aI [1,2,3,4,5,6,7,8,9,10,11,12,13,14,15,16,17,18]) ?_)
 refine bX U fun T72 Av=>eC (k:=h) (o:=0) (vs:=[(vS G ht.length H)]) (es':=(List.zipWith cJ r.ar (kg (hz++[((G,H),D.2)]) ha (h+1)))) (C':=[_,_,_,_,_,_,_,_,_,_,_,_,_,_,_,_,_,_,(own W X 46 1 (List.zipWith cJ r.ar (kg (hz++[((G,H),D.2)]) ha (h+1))))]) 18 U U U TV U U U U u U dc (by exact xK (b:=((G,H),D.2)) N A O) U<|aF (Av _ _ (aI [1,2,3,4,5,6,7,8,9,10,11,12,13,14,15,16,17]) ?_)
 refine fF U<|KK AW<|WS fun _ AX=>rP 3 [] (mc 6 U I) ?_
 have v:(List.zipWith cJ r.ar (kg (hz++[((G,H),D.2)]) ha (h+1)))[h]? =some (cJ ht ((G,H),D.2)):=dM N (LH A)
 refine rS (IA h U (ag (n:=r.ar.length) 18 U (eL (by rw [iG (by simp; omega) om]; exact M))) rF dc om om) ?_
 refine rS (gp h 0 (vS G ht.length H) U b_ (ag (n:=r.ar.length) 18 U (eL (by rw [iG (by simp; omega) om]; exact M))) v U dc U) ?_
 refine rP 2 [] I ?_
 refine RK AX<|ax<|oh ?_
 have E:(0≤ht.length)∧(([]:List RA).length=0):=by exact ⟨Nat.zero_le _,rfl⟩
 refine bK (ι:={z:Nat×(List RA) // (z.1≤ht.length)∧(z.2.length=z.1)}) [1,2,5,74,75,93] [2,3,4,5,6,7,8,9,10,11,12,13,14,15,16,17,18,19] U U (fun z=>[(94,(vI (z.1.1:Int)))]) (fun z=>[(bu (aU oj (ht.take z.1.1) z.1.2)),(own G H 45 7 (List.zipWith aw.cells ht (kg z.1.2 D.2 z.1.1)))]) (fun _=>rfl) (fun _=>rfl) (fun z=>ht.length-z.1.1) ⟨(0,([]:List RA)),E⟩ (aS U) (aI [2,3,4,5,6,7,8,9,10,11,12,13,14,15,16,17,18,19,0,1]) ?_
 clear E
 rintro ⟨⟨i,dz⟩,⟨p,F⟩⟩ J74 AH
 try dsimp only at p F
 try dsimp only
 refine WS fun _ AY=>rP 1 [] I ?_
 refine RK AY<|ai fun _ AZ=>bM U (aQ fun A3=>?_) (aP fun A3=>?_)
 ·refine bw<|ab<|ab<|ay<|aG<|KK AU<|ak<|rP 2 [] I ?_
  refine aF ?_
  have BM:dz.length=ht.length:=by omega
  rw [show (kg dz D.2 i)=dz from xE om,show ht.take i=ht from List.take_of_length_le om]
  refine Px (Z':=aU iA (r.ar.take (h+1)) (hz++[((G,H),dz)])) 16 18 19 U U (si (f:=iA) (b:=((G,H),dz)) N A) ?_
  rw [Ku (y:=dz)]
  have Ay:(vI (((h+1):Nat):Int))=(vI ((h:Int)+1)):=by exact cI om
  refine aR (AG ⟨((h+1),(hz++[((G,H),dz)])),⟨om,by simp; omega,MO N L A dso⟩⟩ _ _ _ U os (cO 3<|bo U Ay<|dw.nil _) (aI [1,2,3,4,5,6,7,8,9,10,11,12,13,14,15,16,0,17]))
 refine WK AZ<|ai fun _ Aa=>ax<|WS fun _ Ab=>rP 2 [] I ?_
 refine RK Ab<|ai fun _ Ac=>?_
 refine Ew 19 U (by rw [qu (by rw [iG F om]; exact e)]; omega) (fun BK Bd=>?_)
 refine ak<|rP 3 [] (mc 5 U I) ?_
 refine rS (IA h U (ag (n:=r.ar.length) 17 U (eL (by rw [iG (by simp; omega) om]; exact M))) rF dc om om) ?_
 refine rS (gp h 0 (vS G ht.length H) U b_ (ag (n:=r.ar.length) 17 U (eL (by rw [iG (by simp; omega) om]; exact M))) v U dc U) ?_
 refine rP 1 [] I ?_
 obtain ⟨d,hd⟩:=aL ht i om
 obtain ⟨da,AC⟩:=aL D.2 i om
 have Az:(List.zipWith aw.cells ht (kg dz D.2 i))[i]? =some (aw.cells d da):=dM hd (Am F AC)
 have BZ:=AD.sig d (aT hd)
 refine rS (VF i U Bd wK om om)<|rS (UL ((i*7)+4) U Bd fx U)<|a_ 1 U<|RK Ac<|ak<|rP 2 [] I ?_
 refine rS (SX (ze U U Bd) U U)<|rS (UL (((i*7)+4)+2) U Bd fx U) ?_
 refine rS (gp i 6 (vS da.1 d.ct.ah.length da.2) U b_ (ag (n:=ht.length) 19 U (qu (by rw [iG F om]; exact e))) Az U dc U) ?_
 refine cX (Me d.ct.ah da.1 da.2 sd) (aq (show i_ _ (rd da.1 d.ct.ah.length 2 (d.ct.ah.map aM.cells)).holds from (dx 13 U (bW N O (cS _ (bW hd AC (by simp [aw.g0]))))))<|aJ) U fun BJ BW=>?_
 obtain ⟨R,AA⟩:=BJ
 try dsimp only
 refine rS (SX (ze U U Bd) U U)<|rS (UL (((i*7)+4)+2) U Bd fx U)<|eC (k:=i) (o:=6) (vs:=[(vS R d.ct.ah.length AA)]) (es':=(List.zipWith aw.cells ht (kg (dz++[(R,AA)]) D.2 (i+1)))) (C':=[_,_,_,_,_,_,_,_,_,_,_,_,_,_,_,_,_,_,_,_,(own G H 45 7 (List.zipWith aw.cells ht (kg (dz++[(R,AA)]) D.2 (i+1))))]) 20 U U U UO U U U U Az U dc (by exact xK (c:=aw.cells) (b:=(R,AA)) hd F AC) U<|aF<|aG<|KK Aa<|ak<|rP 2 [] I ?_
 refine aF<|IH (Y':=aU oj (ht.take (i+1)) (dz++[(R,AA)])) 19 0 U U (si (f:=oj) (b:=(R,AA)) hd F) ?_
 have Ax:(vI (((i+1):Nat):Int))=(vI ((i:Int)+1)):=by exact cI om
 refine aR (AH ⟨((i+1),(dz++[(R,AA)])),⟨om,by simp; omega⟩⟩ _ _ _ U os (cO 6<|bo U Ax<|dw.nil _) (aI [1,2,3,4,5,6,7,8,9,10,11,12,13,14,15,16,17,18,0,19]))
end
section
open Go.RowKit
theorem wq (r:bT) (kA:OA) (kC:Nat) (az:List RA) (cA:OA) (cC:Nat) (bA:OA) (bC:Nat) (slA:OA) (slC:Nat) (drA:OA) (drC:Nat) (ha:List cM) (heA:OA) (heC:Nat) (tz:List RA) (tA:OA) (tC:Nat) (ms:Value) (gw:Nat) (h i:Int) (t:aa) (hin:eW r az ha) (hok:eV r):
 lD Tryz.prog 40 [(vP gw),(vI h),(vI i),(vA (aa.cells t))] [(rd kA r.an.aN.length 9 (r.an.aN.map al.cells)),(rd cA r.an.aj.length 2 (List.zipWith av.cells r.an.aj az)),(e7 (aU av.g0 r.an.aj az)),(rd bA r.an.ae.length 4 (r.an.ae.map bB.cells)),(rd slA r.aK.length 1 (r.aK.map iC)),(rd drA r.bL.length 1 (r.bL.map iC)),(rd heA r.ar.length 1 (List.zipWith cJ r.ar ha)),(e7 (aU im r.ar ha)),(rd tA ((cL r).length) 1 (List.zipWith D7 (cL r) tz)),(e7 (aU Mo (cL r) tz)),(bU gw 91 (fM.cells (fM.mk (oD r kA kC cA cC bA bC slA slC drA drC heA heC) (bp.mk tA ((cL r).length) tC) ms)))] (fun (x:Bool×Int×(OA)×Nat×(OA)×Nat×(List RA)×(OA)×Nat×(OA)×Nat×(OA)×Nat×(OA)×Nat×(List cM))=>bif x.1 then (vT [(vA (cm.cells (cm.mk (cb.mk (bD.mk (bp.mk x.2.2.1 r.an.aN.length x.2.2.2.1)) r.an.gT (bp.mk x.2.2.2.2.1 r.an.aj.length x.2.2.2.2.2.1) (bp.mk x.2.2.2.2.2.2.2.1 r.an.ae.length x.2.2.2.2.2.2.2.2.1) r.an.cu r.an.eM r.an.cQ) (bp.mk x.2.2.2.2.2.2.2.2.2.1 r.aK.length x.2.2.2.2.2.2.2.2.2.2.1) (bp.mk x.2.2.2.2.2.2.2.2.2.2.2.1 r.bL.length x.2.2.2.2.2.2.2.2.2.2.2.2.1) r.ik (bp.mk x.2.2.2.2.2.2.2.2.2.2.2.2.2.1 ((fz r.ar h i t).length) x.2.2.2.2.2.2.2.2.2.2.2.2.2.2.1)))),(vI 0)]) else (vT [(vA (cm.cells (cm.mk (cb.mk (bD.mk (bp.mk none 0 0)) 0 (bp.mk none 0 0) (bp.mk none 0 0) 0 0 0) (bp.mk none 0 0) (bp.mk none 0 0) 0 (bp.mk none 0 0)))),(vI x.2.1)])) (fun (x:Bool×Int×(OA)×Nat×(OA)×Nat×(List RA)×(OA)×Nat×(OA)×Nat×(OA)×Nat×(OA)×Nat×(List cM))=>(x.1=true→((p6 r h i t)=0∧(x.2.2.2.2.2.2.1.length=r.an.aj.length∧rN r.an.aj x.2.2.2.2.2.2.1)∧tI (fz r.ar h i t) x.2.2.2.2.2.2.2.2.2.2.2.2.2.2.2))∧(x.1=false→(x.2.1=(p6 r h i t)∧ ¬ (p6 r h i t)=0))) (fun (x:Bool×Int×(OA)×Nat×(OA)×Nat×(List RA)×(OA)×Nat×(OA)×Nat×(OA)×Nat×(OA)×Nat×(List cM))=>bif x.1 then [(own x.2.2.1 x.2.2.2.1 114 9 (r.an.aN.map al.cells)),(own x.2.2.2.2.1 x.2.2.2.2.2.1 119 2 (List.zipWith av.cells r.an.aj x.2.2.2.2.2.2.1)),(bu (aU av.owns r.an.aj x.2.2.2.2.2.2.1)),(own x.2.2.2.2.2.2.2.1 x.2.2.2.2.2.2.2.2.1 121 4 (r.an.ae.map bB.cells)),(own x.2.2.2.2.2.2.2.2.2.1 x.2.2.2.2.2.2.2.2.2.2.1 3 1 (r.aK.map iC)),(own x.2.2.2.2.2.2.2.2.2.2.2.1 x.2.2.2.2.2.2.2.2.2.2.2.2.1 3 1 (r.bL.map iC)),(own x.2.2.2.2.2.2.2.2.2.2.2.2.2.1 x.2.2.2.2.2.2.2.2.2.2.2.2.2.2.1 46 1 (List.zipWith cJ (fz r.ar h i t) x.2.2.2.2.2.2.2.2.2.2.2.2.2.2.2)),(bu (aU iA (fz r.ar h i t) x.2.2.2.2.2.2.2.2.2.2.2.2.2.2.2))] else []):=by
 have AJ:=hin.line
 have AV:=hin.iN
 have AY:=hin.has
 have AQ:=hin.iM
 have AN:=hin.draw
 have AR:=dB (r:=r)
 have Aa:=hok.num
 have AZ:=hok.nh
 refine di UN Tryz.func40 U U fun w0 Q hQ hN=>?_
 try dsimp only
 refine WS fun _ AC=>fQ U fun b2=>AL U z_ fun b3=>a_ 1 U<|RK AC<|ai fun _ AE=>WS fun _ J=>a_ 1 U<|rS (SX (bI U U) U U)<|rP 6 [] (mr 12 U I) ?_
 refine cV (xs:=[.tmp 18]) (cs:=[(vI h)]) U cv ja U U U U (by simp [Value.cells]) U U fun b6=>?_
 refine rS (CL (dV.eq (j2 0 ((r.ar.length:Int)-1) ([h]) (some ⟨b6,0,none⟩) 1 sd) cR) (aq (aZ 0 U U (by simp [bE]) U)<|aJ) U) ?_
 refine rP 2 [] I ?_
 refine cN (t:=22) U (bk fun AA=>?_) (bj fun AA=>?_)
 ·refine a_ 11 U<|RK J<|aO U<|WS fun _ AF=>rS (SX (bh (xs:=[]) (cs:=(cm.cells (cm.mk (cb.mk (bD.mk (bp.mk none 0 0)) 0 (bp.mk none 0 0) (bp.mk none 0 0) 0 0 0) (bp.mk none 0 0) (bp.mk none 0 0) 0 (bp.mk none 0 0)))) U U (bg Hm U)) U U)<|t_ U sE U<|rP 1 [] I ?_
  refine RK AF<|ao ?_
  refine LX hQ (false,2,none,0,none,0,[],none,0,none,0,none,0,none,0,[]) [] [0] (mc 1 U I) U (by first|rfl|(show List.all _ _=true; simp only [cond_true,fG,List.all_nil,gi,kj,Bool.and_true]; rfl)) U ?_ ?_
  ·first|rfl|(simp only [cond_true,iF]; rfl)
  ·refine ⟨AX,fun _=>?_⟩; first|exact pQ (l7 (r:=r) (h:=h) (i:=i) (t:=t) om)|exact pQ (l7 (r:=r) (h:=h) (i:=i) (t:=t) (fun q=>absurd q.2 asm))|exact pQ (tf (r:=r) (t:=t) ⟨om,asm⟩ A hd H)
 refine rP 2 [] I ?_
 refine cV (xs:=[.tmp 24]) (cs:=[(vI i)]) U cv ja U U U U (by simp [Value.cells]) U U fun b8=>?_
 refine rS (CL (dV.eq (AD r kA kC az cA cC bA bC slA slC drA drC ha heA heC tz tA tC ms gw ([i]) (some ⟨b8,0,none⟩) 1 hin sd) cR) (lH [4,5,6,7,8,9,10,11,12,13,14]<|aq (aZ 0 U U (by simp [bE]) U)<|aJ) U) ?_
 refine rP 3 [] I ?_
 refine cN (t:=29) U (bk fun AB=>?_) (bj fun AB=>?_)
 ·refine a_ 4 U<|RK J<|aO U<|WS fun _ AG=>rS (SX (bh (xs:=[]) (cs:=(cm.cells (cm.mk (cb.mk (bD.mk (bp.mk none 0 0)) 0 (bp.mk none 0 0) (bp.mk none 0 0) 0 0 0) (bp.mk none 0 0) (bp.mk none 0 0) 0 (bp.mk none 0 0)))) U U (bg Hm U)) U U)<|HO U sE U<|rP 1 [] I ?_
  refine RK AG<|ao ?_
  refine LX hQ (false,2,none,0,none,0,[],none,0,none,0,none,0,none,0,[]) [] [0] (mc 2 U I) U (by first|rfl|(show List.all _ _=true; simp only [cond_true,fG,List.all_nil,gi,kj,Bool.and_true]; rfl)) U ?_ ?_
  ·first|rfl|(simp only [cond_true,iF]; rfl)
  ·refine ⟨AX,fun _=>?_⟩; first|exact pQ (l7 (r:=r) (h:=h) (i:=i) (t:=t) om)|exact pQ (l7 (r:=r) (h:=h) (i:=i) (t:=t) (fun q=>absurd q.2 asm))|exact pQ (tf (r:=r) (t:=t) ⟨om,asm⟩ A hd H)
 refine fy 1 [] (mc 3 U I) U<|rS (CL (F6 t) (aJ) U)<|rP 2 [] I ?_
 refine RK J<|cy U (bk fun Z=>?_) (bj fun Z=>?_)
 ·refine WS fun _ b=>rS (SX (bh (xs:=[]) (cs:=(cm.cells (cm.mk (cb.mk (bD.mk (bp.mk none 0 0)) 0 (bp.mk none 0 0) (bp.mk none 0 0) 0 0 0) (bp.mk none 0 0) (bp.mk none 0 0) 0 (bp.mk none 0 0)))) U U (bg Hm U)) U U)<|HO U sE U<|rP 1 [] I ?_
  refine RK b<|ao ?_
  refine LX hQ (false,2,none,0,none,0,[],none,0,none,0,none,0,none,0,[]) [] [0] (mc 2 U I) U (by first|rfl|(show List.all _ _=true; simp only [cond_true,fG,List.all_nil,gi,kj,Bool.and_true]; rfl)) U ?_ ?_
  ·first|rfl|(simp only [cond_true,iF]; rfl)
  ·refine ⟨AX,fun _=>?_⟩; first|exact pQ (l7 (r:=r) (h:=h) (i:=i) (t:=t) om)|exact pQ (l7 (r:=r) (h:=h) (i:=i) (t:=t) (fun q=>absurd q.2 asm))|exact pQ (tf (r:=r) (t:=t) ⟨om,asm⟩ A hd H)
 refine WK AE<|ai fun _ e=>WS fun _ f=>a_ 1 U<|rS (SX (bI U U) U U)<|rP 4 [] (mr 14 U I) ?_
 obtain ⟨ht,A⟩:=aL r.ar ((h).toNat) om
 obtain ⟨C,E⟩:=aL ha ((h).toNat) om
 have w:(List.zipWith cJ r.ar ha)[(h).toNat]? =some (cJ ht C):=dM A E
 refine rS (IA ((h).toNat) U (aD 10 U) rF dc om om) ?_
 have AI:=hin.lq _ _ _ A E
 have AO:=AI.oq
 have AW:=(hok.lq ht (aT A)).1
 refine rS (gp ((h).toNat) 0 (vS C.1.1 ht.length C.1.2) U Qd (aD 10 U) w U dc U)<|rP 1 [] I ?_
 obtain ⟨d,hd⟩:=aL ht ((i).toNat) om
 obtain ⟨da,K⟩:=aL C.2 ((i).toNat) om
 have AH:(List.zipWith aw.cells ht C.2)[(i).toNat]? =some (aw.cells d da):=dM hd K
 refine rS (IA ((i).toNat) U (show i_ _ (rd C.1.1 ht.length 7 (List.zipWith aw.cells ht C.2)).holds from (dx 11 U (bW A E cf))) wK dc om om)<|rS (nN (((i).toNat)*7) U (show i_ _ (rd C.1.1 ht.length 7 (List.zipWith aw.cells ht C.2)).holds from (dx 11 U (bW A E cf))) (Nat.mul_pos om dc) Pu U)<|rS (gp ((i).toNat) 0 (vB d.Out) U VM (show i_ _ (rd C.1.1 ht.length 7 (List.zipWith aw.cells ht C.2)).holds from (dx 11 U (bW A E cf))) AH U dc U)<|RK f<|cy U (fun H=>?_) (fun H=>?_)
 ·refine WS fun _ g=>rS (SX (bh (xs:=[]) (cs:=(cm.cells (cm.mk (cb.mk (bD.mk (bp.mk none 0 0)) 0 (bp.mk none 0 0) (bp.mk none 0 0) 0 0 0) (bp.mk none 0 0) (bp.mk none 0 0) 0 (bp.mk none 0 0)))) U U (bg Hm U)) U U)<|HO U sE U<|rP 1 [] I ?_
  refine RK g<|ao ?_
  refine LX hQ (false,8,none,0,none,0,[],none,0,none,0,none,0,none,0,[]) [] [0] (mc 2 U I) U (by first|rfl|(show List.all _ _=true; simp only [cond_true,fG,List.all_nil,gi,kj,Bool.and_true]; rfl)) U ?_ ?_
  ·first|rfl|(simp only [cond_true,iF]; rfl)
  ·refine ⟨AX,fun _=>?_⟩; first|exact pQ (l7 (r:=r) (h:=h) (i:=i) (t:=t) om)|exact pQ (l7 (r:=r) (h:=h) (i:=i) (t:=t) (fun q=>absurd q.2 asm))|exact pQ (tf (r:=r) (t:=t) ⟨om,asm⟩ A hd H)
 refine WK e<|WS fun _ j=>a_ 1 U<|rS (SX (bI U U) U U)<|rP 1 [] I ?_
 refine rS (Vz (cm.cells (oD r kA kC cA cC bA bC slA slC drA drC heA heC)) 14 U RS U U U)<|cX (NI r kA kC az cA cC bA bC slA slC drA drC ha heA heC hin) (bf [4,5,6,7,8,9,10,11]) U fun AM z=>?_
 obtain ⟨L,T,M,AT,S,N,V,O,W,P,X,R,Y,G⟩:=AM
 try dsimp only
 obtain ⟨⟨s,u⟩,D⟩:=z
 try dsimp only at s u D
 have AP:=D.1
 refine AL U z_ fun AS=>fO U sE U<|RK j<|ai fun _ l=>?_
 obtain ⟨B,F⟩:=aL G ((h).toNat) (by have:=D.1; omega)
 have y:(List.zipWith cJ r.ar G)[(h).toNat]? =some (cJ ht B):=dM A F
 have AK:=D.2 _ _ _ A F
 refine P3 8 A F U U ?_
 try dsimp only
 refine du cq 9 kr<|my 3 [] (mc 3 U I) U<|dS (IA ((h).toNat) U (ag (n:=r.ar.length) 10 U (eL D.1)) rF dc om om)<|dS (gp ((h).toNat) 0 (vS B.1.1 ht.length B.1.2) U Qd (ag (n:=r.ar.length) 10 U (eL D.1)) y U dc U)<|dP 2 [] (mc 14 U I) ?_
 refine dS (SX (bh (xs:=[(1,.const (vB true)),(2,.tmp 59)]) (cs:=(bq.cells (bq.mk false true t (eH.mk 0 0 (bp.mk none 0 0))))) U U (bg QG U)) U U) ?_
 obtain ⟨K,AU⟩:=aL B.2 ((i).toNat) om
 have v:(List.zipWith aw.cells ht B.2)[(i).toNat]? =some (aw.cells d K):=dM hd AU
 refine dS (IA ((i).toNat) U (ag (n:=ht.length) 0 U (qu AK)) wK dc om om)<|cH<|eC (k:=(i).toNat) (o:=0) (vs:=(bq.cells (bq.mk false true t (eH.mk 0 0 (bp.mk none 0 0))))) (es':=(List.zipWith aw.cells (ht.set (i).toNat (j9 t)) (B.2.set (i).toNat (none,0)))) (C':=[(own B.1.1 B.1.2 45 7 (List.zipWith aw.cells (ht.set (i).toNat (j9 t)) (B.2.set (i).toNat (none,0)))),_,_,_,_,_,_,_,_,_,_,_,_,_,_,_,_,_,_,_,_,_,_,_,_,_]) 0 U U U Qy U U U U v U dc (by exact qB (c:=aw.cells) (m:=j9 t) (a:=(none,0))) U<|RK l<|ai fun _ p=>PF (d':=j9 t) 1 hd AU U U U ?_
 refine NB (h':=(ht.set (i).toNat (j9 t))) (a':=(B.1,(B.2.set (i).toNat (none,0)))) 2 0 1 om (by have:=D.1; omega) U U ?_
 rw [← vR A,show List.zipWith cJ r.ar G=List.zipWith cJ (fz r.ar h i t) (G.set (h).toNat (B.1,(B.2.set (i).toNat (none,0)))) from by rw [vR A]; exact (Hv A F (by rw [List.length_set])).symm]
 replace D:=PL (i:=i) (t:=t) D A F
 refine ak<|fy 1 [] (mc 1 U I) U<|UQ U sE U<|rP 1 [] I ?_
 refine RK p<|ao ?_
 refine LX hQ (true,0,L,T,M,AT,S,N,V,O,W,P,X,R,Y,(G.set (h).toNat (B.1,(B.2.set (i).toNat (none,0))))) [2,3,4,5,6,7,8,0] [0] (mc 11 U I) U (by first|rfl|(show List.all _ _=true; simp only [cond_true,fG,List.all_nil,gi,kj,Bool.and_true]; rfl)) U ?_ ?_
 ·first|rfl|(simp only [cond_true,iF]; rfl)
 ·exact ⟨fun _=>⟨M4 ⟨om,Z⟩ A hd H,⟨s,u⟩,D⟩,Ng⟩
end
section
open Go.RowKit
theorem BT (h i:Int) (t:aa) (r:bT) (kA:OA) (kC:Nat) (az:List RA) (cA:OA) (cC:Nat) (bA:OA) (bC:Nat) (slA:OA) (slC:Nat) (drA:OA) (drC:Nat) (ha:List cM) (heA:OA) (heC:Nat) (hin:eW r az ha):
 lD Tryz.prog 17 [(vA (cm.cells (oD r kA kC cA cC bA bC slA slC drA drC heA heC))),(vI h),(vI i),(vA (aa.cells t))] [(rd eJ 3 2 dJ),(rd kA r.an.aN.length 9 (r.an.aN.map al.cells)),(rd cA r.an.aj.length 2 (List.zipWith av.cells r.an.aj az)),(e7 (aU av.g0 r.an.aj az)),(rd bA r.an.ae.length 4 (r.an.ae.map bB.cells)),(rd slA r.aK.length 1 (r.aK.map iC)),(rd drA r.bL.length 1 (r.bL.map iC)),(rd heA r.ar.length 1 (List.zipWith cJ r.ar ha)),(e7 (aU im r.ar ha))] (fun (x:Bool×Int×(OA)×Nat×(OA)×Nat×(List RA)×(OA)×Nat×(OA)×Nat×(OA)×Nat×(OA)×Nat×(List cM))=>bif x.1 then (vT [(vA (cm.cells (cm.mk (cb.mk (bD.mk (bp.mk x.2.2.1 r.an.aN.length x.2.2.2.1)) r.an.gT (bp.mk x.2.2.2.2.1 r.an.aj.length x.2.2.2.2.2.1) (bp.mk x.2.2.2.2.2.2.2.1 r.an.ae.length x.2.2.2.2.2.2.2.2.1) r.an.cu r.an.eM r.an.cQ) (bp.mk x.2.2.2.2.2.2.2.2.2.1 r.aK.length x.2.2.2.2.2.2.2.2.2.2.1) (bp.mk x.2.2.2.2.2.2.2.2.2.2.2.1 r.bL.length x.2.2.2.2.2.2.2.2.2.2.2.2.1) r.ik (bp.mk x.2.2.2.2.2.2.2.2.2.2.2.2.2.1 ((fz r.ar h i t).length) x.2.2.2.2.2.2.2.2.2.2.2.2.2.2.1)))),(vI 0)]) else (vT [(vA (cm.cells (cm.mk (cb.mk (bD.mk (bp.mk none 0 0)) 0 (bp.mk none 0 0) (bp.mk none 0 0) 0 0 0) (bp.mk none 0 0) (bp.mk none 0 0) 0 (bp.mk none 0 0)))),(vI x.2.1)])) (fun (x:Bool×Int×(OA)×Nat×(OA)×Nat×(List RA)×(OA)×Nat×(OA)×Nat×(OA)×Nat×(OA)×Nat×(List cM))=>(x.1=true→((fJ r h i t)=0∧(x.2.2.2.2.2.2.1.length=r.an.aj.length∧rN r.an.aj x.2.2.2.2.2.2.1)∧tI (fz r.ar h i t) x.2.2.2.2.2.2.2.2.2.2.2.2.2.2.2))∧(x.1=false→(x.2.1=(fJ r h i t)∧ ¬ (fJ r h i t)=0))) (fun (x:Bool×Int×(OA)×Nat×(OA)×Nat×(List RA)×(OA)×Nat×(OA)×Nat×(OA)×Nat×(OA)×Nat×(List cM))=>bif x.1 then [(own x.2.2.1 x.2.2.2.1 114 9 (r.an.aN.map al.cells)),(own x.2.2.2.2.1 x.2.2.2.2.2.1 119 2 (List.zipWith av.cells r.an.aj x.2.2.2.2.2.2.1)),(bu (aU av.owns r.an.aj x.2.2.2.2.2.2.1)),(own x.2.2.2.2.2.2.2.1 x.2.2.2.2.2.2.2.2.1 121 4 (r.an.ae.map bB.cells)),(own x.2.2.2.2.2.2.2.2.2.1 x.2.2.2.2.2.2.2.2.2.2.1 3 1 (r.aK.map iC)),(own x.2.2.2.2.2.2.2.2.2.2.2.1 x.2.2.2.2.2.2.2.2.2.2.2.2.1 3 1 (r.bL.map iC)),(own x.2.2.2.2.2.2.2.2.2.2.2.2.2.1 x.2.2.2.2.2.2.2.2.2.2.2.2.2.2.1 46 1 (List.zipWith cJ (fz r.ar h i t) x.2.2.2.2.2.2.2.2.2.2.2.2.2.2.2)),(bu (aU iA (fz r.ar h i t) x.2.2.2.2.2.2.2.2.2.2.2.2.2.2.2))] else []):=by
 have u:=hin.line
 have AD:=hin.iN
 have AE:=hin.has
 have AA:=hin.iM
 have z:=hin.draw
 have e:=dB (r:=r)
 refine di kr Tryz.func17 U U fun w0 Q hQ hN=>?_
 try dsimp only
 refine WS fun _ s=>fQ U fun b2=>fQ U fun b3=>AL U z_ fun b4=>a_ 1 U<|RK s<|WS fun _ Y=>rP 1 [] (mc 2 U I) ?_
 refine cX (ob r kA kC az cA cC bA bC slA slC drA drC ha heA heC hin) (bf [3,4,5,6,7,8,9,10,11]) U fun y6 g=>?_
 obtain ⟨k,AC,q,S,m,o,p⟩:=y6
 cases k
 ·obtain ⟨M,he⟩:=g.2 rfl
  try dsimp only at M he
  subst M
  try dsimp only [cond_true,cond_false,List.cons_append,List.nil_append]
  refine a_ 5 U<|RK Y<|ai fun _ y=>WS fun _ AB=>rP 2 [] I ?_
  refine RK AB<|bM U (bj fun T=>?_) (bk fun T=>?_)
  ·exact absurd T he
  refine WS fun _ V=>rS (SX (bh (xs:=[]) (cs:=(cm.cells (cm.mk (cb.mk (bD.mk (bp.mk none 0 0)) 0 (bp.mk none 0 0) (bp.mk none 0 0) 0 0 0) (bp.mk none 0 0) (bp.mk none 0 0) 0 (bp.mk none 0 0)))) U U (bg Hm U)) U U)<|a_ 1 U<|fO U sE U<|rP 1 [] I ?_
  refine RK V<|ao ?_
  refine LX hQ (false,(cr r),none,0,none,0,[],none,0,none,0,none,0,none,0,[]) [] [0] (mc 0 U I) U (by first|rfl|(show List.all _ _=true; simp only [cond_true,fG,List.all_nil,gi,kj,Bool.and_true]; rfl)) U ?_ ?_
  ·first|rfl|(simp only [cond_true,iF]; rfl)
  ·refine ⟨AX,fun _=>?_⟩; first|exact LS (r_ (h:=h) (i:=i) (t:=t) he) he|exact LS (oV (h:=h) (i:=i) (t:=t) b) he
 obtain ⟨he,f⟩:=g.1 rfl
 try dsimp only [cond_true,cond_false,List.cons_append,List.nil_append]
 have b:=he
 try dsimp only at f
 have d:=(ib he).2
 refine a_ 5 U<|RK Y<|ai fun _ W=>WS fun _ X=>a_ 1 U<|rS (SX (bS (r:= .bool false) U U U j6) U U)<|RK X<|aW U<|WK W<|WS fun _ N=>rP 4 [] (mc 5 U I) ?_
 refine cX (wq r kA kC az cA cC bA bC slA slC drA drC ha heA heC p m o (Value.map (some S)) q h i t hin (by exact d)) (lH [8,9,10,11,12,13,14,15]<|aq (ag (n:=(cL r).length) 1 U (mR (by rw [e]; exact f)))<|aq (dy 2 U s7)<|fq 0 U U<|aJ) U fun v P=>?_
 obtain ⟨l,w,A,G,B,H,R,C,AF,D,J,E,K,F,L,j⟩:=v
 cases l
 ·obtain ⟨M,he⟩:=P.2 rfl
  try dsimp only at M he
  subst M
  try dsimp only [cond_true,cond_false,List.cons_append,List.nil_append]
  refine a_ 2 U<|Ps U sE U<|rP 1 [] I ?_
  refine RK N<|ao ?_
  refine LX hQ (false,(p6 r h i t),none,0,none,0,[],none,0,none,0,none,0,none,0,[]) [] [0] (mc 4 U I) U (by first|rfl|(show List.all _ _=true; simp only [cond_true,fG,List.all_nil,gi,kj,Bool.and_true]; rfl)) U ?_ ?_
  ·first|rfl|(simp only [cond_true,iF]; rfl)
  ·refine ⟨AX,fun _=>?_⟩; first|exact LS (r_ (h:=h) (i:=i) (t:=t) he) he|exact LS (oV (h:=h) (i:=i) (t:=t) b) he
 obtain ⟨O,⟨Z,a⟩,c⟩:=P.1 rfl
 try dsimp only [cond_true,cond_false,List.cons_append,List.nil_append]
 try dsimp only at O Z a c
 refine a_ 2 U<|jf (vs:=(cm.cells (cm.mk (cb.mk (bD.mk (bp.mk A r.an.aN.length G)) r.an.gT (bp.mk B r.an.aj.length H) (bp.mk C r.an.ae.length AF) r.an.cu r.an.eM r.an.cQ) (bp.mk D r.aK.length J) (bp.mk E r.bL.length K) r.ik (bp.mk F ((fz r.ar h i t).length) L)))) (cs':=(cm.cells (cm.mk (cb.mk (bD.mk (bp.mk A r.an.aN.length G)) r.an.gT (bp.mk B r.an.aj.length H) (bp.mk C r.an.ae.length AF) r.an.cu r.an.eM r.an.cQ) (bp.mk D r.aK.length J) (bp.mk E r.bL.length K) r.ik (bp.mk F ((fz r.ar h i t).length) L)))) (C':=[_,_,_,_,_,_,_,_,_,_,_,_,(bU b4 35 (cm.cells (cm.mk (cb.mk (bD.mk (bp.mk A r.an.aN.length G)) r.an.gT (bp.mk B r.an.aj.length H) (bp.mk C r.an.ae.length AF) r.an.cu r.an.eM r.an.cQ) (bp.mk D r.aK.length J) (bp.mk E r.bL.length K) r.ik (bp.mk F ((fz r.ar h i t).length) L)))),_,_,_,_,_,_,_,_,_,_,_]) 12 U U U sE U U U U U U U<|rP 1 [] I ?_
 refine RK N<|ao ?_
 refine LX hQ (true,0,A,G,B,H,R,C,AF,D,J,E,K,F,L,j) [0,1,2,3,4,5,6,7] [0] (mc 12 U I) U (by first|rfl|(show List.all _ _=true; simp only [cond_true,fG,List.all_nil,gi,kj,Bool.and_true]; rfl)) U ?_ ?_
 ·first|rfl|(simp only [cond_true,iF]; rfl)
 ·exact ⟨fun _=>⟨(oV he).trans O,⟨Z,a⟩,c⟩,Ng⟩
end
section
open Go.RowKit
theorem kZ (x y:Int):
 dV Tryz.prog 18 [(vI x),(vI y)] [] (vA (aa.cells (aa.mk x y))):=by
 refine bx kr Tryz.func18 U U fun D Q hQ hN=>?_
 try dsimp only
 refine WS fun _ A=>AL U cZ fun C=>RK A<|WS fun _ B=>rP 2 [] I ?_
 refine rS (SX (bh (xs:=[(0,.tmp 5),(1,.tmp 6)]) (cs:=(aa.cells (aa.mk x y))) U U (bg gn U)) U U)<|fO U cp U<|RK B<|ao ?_
 exact Ic hQ [0] (mc 0 U I) U U
theorem zV (x:Int):
 dV Tryz.prog 58 [(vI x)] [] (vA (cD.cells (cD.mk 0 (aa.mk x x)))):=by
 refine bx kr Tryz.func58 U U fun D Q hQ hN=>?_
 try dsimp only
 refine WS fun _ A=>AL U BE fun C=>RK A<|WS fun _ B=>rP 2 [] I ?_
 refine rS (CL (kZ x x) (aJ) U)<|rS (SX (bh (xs:=[(1,.tmp 5)]) (cs:=(cD.cells (cD.mk 0 (aa.mk x x)))) U U (bg RL U)) U U)<|fO U KG U<|RK B<|ao ?_
 exact Ic hQ [0] (mc 0 U I) U U
theorem p_ (x y:Int):
 dV Tryz.prog 34 [(vI x),(vI y)] [] (vA (bq.cells (bq.mk false true (aa.mk x y) (eH.mk 0 0 (bp.mk none 0 0))))):=by
 refine bx kr Tryz.func34 U U fun D Q hQ hN=>?_
 try dsimp only
 refine WS fun _ A=>AL U Oe fun C=>RK A<|WS fun _ B=>rP 2 [] I ?_
 refine rS (CL (kZ x y) (aJ) U)<|rS (SX (bh (xs:=[(1,.const (vB true)),(2,.tmp 7)]) (cs:=(bq.cells (bq.mk false true (aa.mk x y) (eH.mk 0 0 (bp.mk none 0 0))))) U U (bg QG U)) U U)<|fO U Qy U<|RK B<|ao ?_
 exact Ic hQ [0] (mc 0 U I) U U
theorem N2:
 lD Tryz.prog 32 [] [] (fun (x:(OA)×Nat×(OA)×Nat×(List RA)×(OA)×Nat)=>(vA (cb.cells (cb.mk (bD.mk (bp.mk x.1 aH.an.aN.length x.2.1)) aH.an.gT (bp.mk x.2.2.1 aH.an.aj.length x.2.2.2.1) (bp.mk x.2.2.2.2.2.1 aH.an.ae.length x.2.2.2.2.2.2) aH.an.cu aH.an.eM aH.an.cQ)))) (fun (x:(OA)×Nat×(OA)×Nat×(List RA)×(OA)×Nat)=>x.2.2.2.2.1.length=aH.an.aj.length∧eu aH.an x.2.2.2.2.1) (fun (x:(OA)×Nat×(OA)×Nat×(List RA)×(OA)×Nat)=>[(own x.1 x.2.1 114 9 (aH.an.aN.map al.cells)),(own x.2.2.1 x.2.2.2.1 119 2 (List.zipWith av.cells aH.an.aj x.2.2.2.2.1)),(bu (aU av.owns aH.an.aj x.2.2.2.2.1)),(own x.2.2.2.2.2.1 x.2.2.2.2.2.2 121 4 (aH.an.ae.map bB.cells))]):=by
 refine di kr Tryz.func32 U U fun AA Q hQ hN=>?_
 try dsimp only
 refine WS fun _ E=>AL U U6 fun H=>RK E<|WS fun _ F=>a_ 1 U<|RK F<|WS fun _ G=>rS (CL (kZ 10000 10200) (aJ) U)<|rS (CL (kZ 0 100) (aJ) U)<|rS (SX (bh (xs:=[(0,.const (vI 1)),(1,.tmp 2),(2,.tmp 3)]) (cs:=(al.cells (al.mk 1 (aa.mk 10000 10200) (aa.mk 0 100) (aa.mk 0 0) 0 0))) U U (bg Td U)) U U)<|cV (xs:=[.tmp 4]) (cs:=(al.cells (al.mk 1 (aa.mk 10000 10200) (aa.mk 0 100) (aa.mk 0 0) 0 0))) U yi Fa U U U U (by simp [Value.cells,al.aV]) U U fun B=>rS (SX (bh (xs:=[(0,.tmp 5)]) (cs:=(bD.cells (bD.mk (bp.mk (some ⟨B,0,none⟩) 1 1)))) U U (bg Uj U)) U U)<|rS (CL (kZ 0 2) (aJ) U)<|rS (SX (bh (xs:=[(0,.const (vI 0)),(1,.tmp 7)]) (cs:=(cw.cells (cw.mk 0 (aa.mk 0 2)))) U U (bg O4 U)) U U)<|rS (CL (kZ 5 6) (aJ) U)<|rS (SX (bh (xs:=[(0,.const (vI 100000)),(1,.tmp 9)]) (cs:=(cw.cells (cw.mk 100000 (aa.mk 5 6)))) U U (bg O4 U)) U U)<|cV (xs:=[.tmp 8,.tmp 10]) (cs:=((cw.cells (cw.mk 0 (aa.mk 0 2)))++(cw.cells (cw.mk 100000 (aa.mk 5 6))))) U qE rR U U U U (by simp [Value.cells,cw.aV]) U U fun A=>rS (SX (bh (xs:=[(0,.const (vI 100)),(1,.tmp 11)]) (cs:=(dk.cells (dk.mk 100 (bp.mk (some ⟨A,0,none⟩) 2 2)))) U U (bg Rf U)) U U)<|cV (xs:=[.tmp 12]) (cs:=(dk.cells (dk.mk 100 (bp.mk (some ⟨A,0,none⟩) 2 2)))) U Ar Jl U U U U (by simp [Value.cells,dk.aV]) U U fun C=>a_ 1 U<|rS (CL (zV 1000) (aJ) U)<|rS (SX (bh (xs:=[(0,.tmp 15)]) (cs:=(bB.cells (bB.mk (cD.mk 0 (aa.mk 1000 1000)) 0))) U U (bg Ig U)) U U)<|a_ 1 U<|rS (CL (zV 4000) (aJ) U)<|rS (SX (bh (xs:=[(0,.tmp 18)]) (cs:=(bB.cells (bB.mk (cD.mk 0 (aa.mk 4000 4000)) 0))) U U (bg Ig U)) U U)<|rP 1 [] I ?_
 refine rS (CL (zV 9000) (aJ) U)<|rS (SX (bh (xs:=[(0,.tmp 21)]) (cs:=(bB.cells (bB.mk (cD.mk 0 (aa.mk 9000 9000)) 0))) U U (bg Ig U)) U U)<|cV (xs:=[.tmp 16,.tmp 19,.tmp 22]) (cs:=((bB.cells (bB.mk (cD.mk 0 (aa.mk 1000 1000)) 0))++(bB.cells (bB.mk (cD.mk 0 (aa.mk 4000 4000)) 0))++(bB.cells (bB.mk (cD.mk 0 (aa.mk 9000 9000)) 0)))) U vw Sd U U U U (by simp [Value.cells,bB.aV]) U U fun D=>rS (SX (bh (xs:=[(0,.tmp 6),(1,.const (vI 2000)),(4,.const (vI 1)),(5,.const (vI 1)),(6,.const (vI 1)),(2,.tmp 13),(3,.tmp 23)]) (cs:=(cb.cells (cb.mk (bD.mk (bp.mk (some ⟨B,0,none⟩) 1 1)) 2000 (bp.mk (some ⟨C,0,none⟩) 1 1) (bp.mk (some ⟨D,0,none⟩) 3 3) 1 1 1))) U U (bg Ur U)) U U) ?_
 refine dQ (es:=(aH.an.aN.map al.cells)) (C':=[_,_,_,(own (some ⟨B,0,none⟩) 1 114 9 (aH.an.aN.map al.cells)),_]) 3 U (mP al.aV _) U (by show _≤maxLen; exact Nat.le_trans (m:=10) (show (1:Nat)≤10 by decide) dc) U ?_
 refine dQ (es:=(yj.br.map cw.cells)) (C':=[_,_,(own (some ⟨A,0,none⟩) 2 116 3 (yj.br.map cw.cells)),_,_]) 2 U (mP cw.aV _) U (by show _≤maxLen; exact Nat.le_trans (m:=10) (show (2:Nat)≤10 by decide) dc) U ?_
 refine dQ (es:=(List.zipWith av.cells aH.an.aj [((some ⟨A,0,none⟩),2)])) (C':=[_,(own (some ⟨C,0,none⟩) 1 119 2 (List.zipWith av.cells aH.an.aj [((some ⟨A,0,none⟩),2)])),_,_,_]) 1 U (by intro x hx; change x∈[av.cells yj ((some ⟨A,0,none⟩),2)] at hx; rw [List.mem_singleton.1 hx]; rfl) U (by show _≤maxLen; exact Nat.le_trans (m:=10) (show (1:Nat)≤10 by decide) dc) U ?_
 refine dQ (es:=(aH.an.ae.map bB.cells)) (C':=[(own (some ⟨D,0,none⟩) 3 121 4 (aH.an.ae.map bB.cells)),_,_,_,_]) 0 U (mP bB.aV _) U (by show _≤maxLen; exact Nat.le_trans (m:=10) (show (3:Nat)≤10 by decide) dc) U ?_
 refine xb<|OZ (X:=[]) (X':=aU av.owns aH.an.aj [((some ⟨A,0,none⟩),2)]) 0 3 U U U<|Ps U U2 U<|RK G<|ao ?_
 refine LX hQ ((some ⟨B,0,none⟩),1,(some ⟨C,0,none⟩),1,[((some ⟨A,0,none⟩),2)],(some ⟨D,0,none⟩),3) [3,2,0,1] [0] (mc 4 U I) U (by simp only [fG,List.all_nil,gi,Bool.and_true]; rfl) U U ?_
 exact ⟨U,Rh 1 dc⟩
theorem Og:
 lD Tryz.prog 33 [] [] (fun (x:(OA)×Nat)=>(vA (eH.cells (eH.mk mD.Start mD.f_ (bp.mk x.1 mD.ah.length x.2))))) (fun (x:(OA)×Nat)=>True) (fun (x:(OA)×Nat)=>[(own x.1 x.2 123 2 (mD.ah.map aM.cells))]):=by
 refine di kr Tryz.func33 U U fun E Q hQ hN=>?_
 try dsimp only
 refine WS fun _ B=>AL U US fun D=>RK B<|WS fun _ C=>rS (SX (bh (xs:=[(0,.const (vI 0)),(1,.const (vI 10600))]) (cs:=(aM.cells (aM.mk 0 10600))) U U (bg Ga U)) U U)<|rS (SX (bh (xs:=[(0,.const (vI 0)),(1,.const (vI 11000))]) (cs:=(aM.cells (aM.mk 0 11000))) U U (bg Ga U)) U U)<|rS (SX (bh (xs:=[(0,.const (vI 1)),(1,.const (vI 12600))]) (cs:=(aM.cells (aM.mk 1 12600))) U U (bg Ga U)) U U)<|cV (xs:=[.tmp 1,.tmp 2,.tmp 3]) (cs:=((aM.cells (aM.mk 0 10600))++(aM.cells (aM.mk 0 11000))++(aM.cells (aM.mk 1 12600)))) U z5 FH U U U U (by simp [Value.cells,aM.aV]) U U fun A=>rS (SX (bh (xs:=[(0,.const (vI 10000)),(1,.const (vI 20000)),(2,.tmp 4)]) (cs:=(eH.cells (eH.mk 10000 20000 (bp.mk (some ⟨A,0,none⟩) 3 3)))) U U (bg UJ U)) U U)<|dQ (es:=(mD.ah.map aM.cells)) (C':=[(own (some ⟨A,0,none⟩) 3 123 2 (mD.ah.map aM.cells)),_]) 0 U (mP aM.aV _) U dc U<|t_ U UK U<|RK C<|ao<|LX hQ ((some ⟨A,0,none⟩),3) [0] [0] (mc 1 U I) U U U U ?_
 trivial
end
section
theorem TN.sub {E:e_} {ops:Array Oper} {Q:cW} {D:List Deferred} {C' C1 C:List au} {tb rem:List Nat}: ∀ {n:Nat} {L L':List (Nat×Value)},dw L L'→TN E ops D C' C1 (fun L C=>KJ E (Q .normal) D L C) tb n rem L' C→TN E ops D C' C1 (fun L C=>KJ E (Q .normal) D L C) tb n rem L C:=by
 intro n
 cases n with
 |zero=>intro L L' hs h; exact jB hs (fun _ h=>h) h
 |succ n=>intro L L' hs h i hi o ho K hK; exact OI hs (fun _ h=>h) (h i hi o ho K hK)
theorem MU {E:e_} {ops:Array Oper} {Q:cW} {D:List Deferred} {C' C1 C:List au} {bs:List Bool} {os:List Oper} {L:List (Nat×Value)} {tb rem:List Nat} {n:Nat} {t:Nat} {b:Bool} (h:L.lookup t=some (.bool b))
 (h1:b=true→p8 E ops D C' C1 (fun L'=>TN E ops D C' C1 (fun L C=>KJ E (Q .normal) D L C) tb n rem L' C) bs os ((t,.bool true)::L)) (h2:b=false→p8 E ops D C' C1 (fun L'=>TN E ops D C' C1 (fun L C=>KJ E (Q .normal) D L C) tb n rem L' C) bs os ((t,.bool false)::L)):
 p8 E ops D C' C1 (fun L'=>TN E ops D C' C1 (fun L C=>KJ E (Q .normal) D L C) tb n rem L' C) bs os L:=by
 have A: ∀ v:Bool,b=v→dw L ((t,.bool v)::L):=fun v hv=>dw.cons (hv▸h) (fun _ _ h=>h)
 cases b
 ·exact p8.mono (fun _ _=>TN.sub) (A _ U) (h2 U)
 ·exact p8.mono (fun _ _=>TN.sub) (A _ U) (h1 U)
theorem KF {E:e_} {ops:Array Oper} {Q:cW} {D:List Deferred} {L:List (Nat×Value)} {C1 C2 C:List au} {t n:Nat} {b:Bool} {bs:List Bool} {os:List Oper} {tb rem:List Nat} (h:L.lookup t=some (.bool b)) (h2:b=false→p8 E ops D C2 C1 (fun L2=>TN E ops D C2 C1 (fun L C=>KJ E (Q .normal) D L C) tb n rem L2 C) bs os ((t,.bool false)::L)) (h1:b=true→p8 E ops D C2 C1 (fun L2=>TN E ops D C2 C1 (fun L C=>KJ E (Q .normal) D L C) tb n rem L2 C) bs os ((t,.bool true)::L)):p8 E ops D C2 C1 (fun L2=>TN E ops D C2 C1 (fun L C=>KJ E (Q .normal) D L C) tb n rem L2 C) bs os L:=MU h h1 h2
end
section
open Go.RowKit
section
variable {r:bT} {h i:Int} {t:aa} {k:Nat}
end
/-- there is a table -/
theorem Ax {r:bT} (he:cr r=0): ∃ G,hU (aB (aA r)) ((aA r).map (·.1)) G∧Bp G:=by
 have key: ∀ (L:List Int),DM (fun u=>(aB (aA r) u).Lo) L→ ∀ i,i≤L.length→ ∃ G last,mw (aB (aA r)) (L.take i) G last:=fun L B i=>by
  induction i with
  |zero=>intro _; exact ⟨[],-1,Gi⟩
  |succ i ih=>
   intro hi
   obtain ⟨G,last,hG⟩:=ih om
   have hx:L[i]? =some (L[i]'om):=e8 _
   have C:=gP (i:=L[i]'om) (m0 he)
   by_cases hl:last<(aB (aA r) (L[i]'om)).Lo
   ·obtain ⟨g,hg⟩: ∃ g,(G++[[]])[(G++[([]:List Int)]).length-1]? =some g:=⟨_,e8 sm⟩
    exact ⟨_,_,pk om hx hg hG hl⟩
   ·have hp:=F5 C.1 hG hl
    obtain ⟨g,hg⟩: ∃ g,G[G.length-1]? =some g:=⟨_,e8 om⟩
    exact ⟨_,_,oi om (fun u _=>(gP (i:=u) (m0 he)).2.1) B hx hg hG hl⟩
 obtain ⟨G,last,hG⟩:=key (er (fun u=>(aB (aA r) u).Lo) ((aA r).map (·.1))) uH _ (Nat.le_refl _)
 have A:=uZ hG.ok
 rw [List.take_length] at A
 exact ⟨_,qF A.1 qP,A.2⟩
theorem vd {r:bT}:(cP r).length≤1000000∧ ∀ l∈cP r,l.length≤1000000:=by
 by_cases he:cr r=0
 ·have E:(aA r).length≤5:=oH he
  have A: ∃ G,hU (aB (aA r)) ((aA r).map (·.1)) G∧Bp G:=by
   refine Classical.byContradiction fun hn=>?_
   exact hn (Ax he)
  obtain ⟨G,hG,hA⟩:=A
  rw [← tD he hG hA]
  have C:=hG.perm.length_eq
  rw [List.length_map] at C
  have B: ∀ G:List (List Int),(∀ g∈G,g≠[])→G.length≤G.flatten.length:=fun G=>by
   induction G with
   |nil=>intro _; simp
   |cons g G ih=>
    intro hG
    have B:=ih fun y hy=>hG y (cS _ hy)
    have D:=List.length_pos_iff.2 (hG g cf)
    simp only [List.flatten_cons,List.length_cons,List.length_append]; omega
  refine ⟨by have:=B G hG.some_; omega,fun l hl=>?_⟩
  have D:l.length≤G.flatten.length:=(List.sublist_flatten_of_mem hl).length_le
  omega
 ·rw [Bq he]; simp
theorem BD {r:bT} {h i:Int} {t:aa}:(ek r h i t).length≤r.aK.length:=by
 unfold ek
 split
 ·refine Nat.le_trans (List.length_filter_le _ _) ?_
  rw [gk,List.length_map]
  exact uJ
 ·simp
end
section
open Go.RowKit
/-- a row is taken that was made before; an operation -/
inductive fD where
 |take (i:Nat)
 |op (j:Nat)
def fD.ix:fD→Nat
 | .take i=>i
 | .op j=>j
def C5 (dO:Nat→Nat):List fD→List Nat
 |[]=>[]
 | .take i::s=>dO i::C5 dO s
 | .op _::s=>C5 dO s
theorem sW {dO:Nat→Nat} {i:Nat}: ∀ {s:List fD},fD.take i∈s→dO i∈C5 dO s
 | .take k::s,h=>by
  rcases List.mem_cons.1 h with e|h
  ·cases e; exact cf ..
  ·exact cS _ (sW h)
 | .op k::s,h=>by
  rcases List.mem_cons.1 h with e|h
  ·cases e
  ·exact sW (s:=s) h
def rB (m:Array Nat) (dO:Nat→Nat) (x y:fD):Bool:=x.ix != y.ix&&(match y with | .op j=>iu m x.ix j| .take i=>match x with | .take k=>dO k != dO i| .op _=>true)
def TU (m:Array Nat) (dO:Nat→Nat):List fD→Bool
 |[]=>true
 |x::s=>s.all (rB m dO x)&&TU m dO s
theorem Fj {m:Array Nat} {dO:Nat→Nat}: ∀ {s:List fD},TU m dO s=true→s.Pairwise fun x y=>rB m dO x y=true
 |[],_=>List.Pairwise.nil
 |x::s,h=>by
  simp only [TU,cK] at h
  exact List.Pairwise.cons (fun y hy=>List.all_eq_true.1 h.1 y hy) (Fj h.2)
/-- what is known of the slots B is known in L -/
def CG (B L:List (Nat×Value)):Prop:= ∀ t v,B.lookup t=some v→L.lookup t=some v
theorem wa {B L:List (Nat×Value)} (h:B.map (fun p=>L.lookup p.1)=B.map (fun p=>some p.2)):CG B L:=by
 induction B with
 |nil=>intro t v h; simp at h
 |cons p B ih=>
  obtain ⟨k,u⟩:=p
  simp only [List.map_cons,List.cons.injEq] at h
  intro t v hl
  by_cases e:t=k
  ·subst e
   simp only [List.lookup,beq_self_eq_true,Option.some.injEq] at hl
   rw [h.1,hl]
  ·have:(t==k)=false:=by simpa using e
   simp only [List.lookup,this] at hl
   exact ih h.2 t v hl
theorem nK {L Y:List (Nat×Value)} {t:Nat}:(L++Y).lookup t=match L.lookup t with |some v=>some v|none=>Y.lookup t:=by
 induction L with
 |nil=>rfl
 |cons p L ih=>
  obtain ⟨k,u⟩:=p
  by_cases e:t==k
  ·simp [List.lookup,e]
  ·have:(t==k)=false:=by simpa using e
   simp only [List.cons_append,List.lookup,this,ih]
theorem CG.app {B L Y:List (Nat×Value)} (h:CG B L):CG B (L++Y):=fun t v ht=>by rw [nK,h t v ht]
theorem PV {B L:List (Nat×Value)} (h:CG B L) {x:Operand} {v:Value} (hv:ev B x=some v):ev L x=some v:=by
 cases x<;>simp only [ev] at hv ⊢ <;>first|exact h _ _ hv|exact hv
theorem F9 {B L:List (Nat×Value)} (h:CG B L): ∀ {xs:List Operand} {vs:List Value},evs B xs=some vs→evs L xs=some vs
 |[],vs,hv=>hv
 |x::xs,vs,hv=>by
  simp only [evs] at hv ⊢
  cases e1:ev B x with
  |none=>rw [e1] at hv; simp at hv
  |some v=>
   cases e2:evs B xs with
   |none=>rw [e1,e2] at hv; simp at hv
   |some us=>
    rw [e1,e2] at hv
    rw [PV h e1,F9 h e2]; exact hv
section
variable (E:e_) (ops:Array Oper) (D:List Deferred) (C':List au) (K0:Act→World→Prop) (B:List (Nat×Value)) (dO:Nat→Nat) (VO:Nat→Nat→Value) (AO:Nat→Nat→au)
def CH:List fD→List (Nat×Value)→List au→Prop
 |[],L,C=>KJ E K0 D L C
 | .take i::s,L,C=> ∀ b,CH s ((dO i,VO i b)::L) (AO i b::C)
 | .op j::s,L,C=> ∀ o,ops[j]? =some o→ ∀ (Y:List (Nat×Value)) (X:List au) (K:Act→World→Prop),(∀ L' C'',(∀ w,St E.S E.w0 C'' w→St E.S E.w0 C' w)→((C5 dO s).all fun d=>(L'.lookup d).isNone)=true→B.map (fun p=>L'.lookup p.1)=B.map (fun p=>some p.2)→CH s L' C''→KJ E K D (L'++Y) (C''++X))→RJ E ops (NQ K) [o] D (L++Y) (C++X)
/-- a row that is made at any time -/
def SP (i:Nat):Prop:= ∀ o,ops[i]? =some o→ ∀ (L:List (Nat×Value)) (C:List au) (K:Act→World→Prop),CG B L→(∀ b,KJ E K D ((dO i,VO i b)::L) (AO i b::C))→RJ E ops (NQ K) [o] D L C
end
section
variable {E:e_} {ops:Array Oper} {D:List Deferred} {C' C1:List au} {K0:Act→World→Prop} {B:List (Nat×Value)} {dO:Nat→Nat} {VO:Nat→Nat→Value} {AO:Nat→Nat→au}
theorem Fx {Q:cW} {rest:List Oper} {L L2:List (Nat×Value)} {C C2:List au} (hL: ∀ a,Fr E.n D L a→Fr E.n D L2 a) (hC: ∀ w,St E.S E.w0 C w→St E.S E.w0 C2 w) (h:RJ E ops Q rest D L2 C2):RJ E ops Q rest D L C:=fun a w hf hs=>h a w (hL a hf) (hC w hs)
theorem AP {K:Act→World→Prop} {L L2:List (Nat×Value)} {C C2:List au} (hL: ∀ a,Fr E.n D L a→Fr E.n D L2 a) (hC: ∀ w,St E.S E.w0 C w→St E.S E.w0 C2 w) (h:KJ E K D L2 C2):KJ E K D L C:=fun a w hf hs=>h a w (hL a hf) (hC w hs)
theorem CU {n:Nat} {L L2:List (Nat×Value)} (h: ∀ t v,L2.lookup t=some v→L.lookup t=some v) (a:Act) (hf:Fr n D L a):Fr n D L2 a:=⟨hf.defers,hf.size,fun t v ht=>hf.at_ t v (h t v ht)⟩
theorem D6: ∀ (T0 s':List fD) (dn:List (Nat×Nat)) (L Y:List (Nat×Value)) (C:List au),(∀ x∈T0,∃ i b,x= .take i∧(i,b)∈dn)→(T0++s').Pairwise (fun x y=>rB (p5 ops) dO x y=true)→(dn.map (·.1)).Nodup→(∀ p∈dn,fD.take p.1∈T0++s')→(∀ p∈dn,Y.lookup (dO p.1)=some (VO p.1 p.2))→(∀ i,fD.take i∈T0++s'→L.lookup (dO i)=none)→
 CH E ops D C' K0 B dO VO AO (T0++s') L C→ ∃ (dn':List (Nat×Nat)) (L':List (Nat×Value)) (C2:List au),CH E ops D C' K0 B dO VO AO s' L' C2∧(dn'.map (·.1)).Nodup∧(∀ p,p∈dn'↔p∈dn∧fD.take p.1∈s')∧(∀ t v,(L'++Y).lookup t=some v→(L++Y).lookup t=some v)∧(∀ i,fD.take i∈s'→L'.lookup (dO i)=none)∧(∀ w,St E.S E.w0 (C++dn.map fun p=>AO p.1 p.2) w→St E.S E.w0 (C2++dn'.map fun p=>AO p.1 p.2) w)
 |[],s',dn,L,Y,C,_,_,hn,hm,_,hl,h=>⟨dn,L,C,h,hn,fun p=>⟨fun q=>⟨q,hm p q⟩,fun q=>q.1⟩,fun t v q=>q,hl,fun w q=>q⟩
 |x::T0,s',dn,L,Y,C,ht,hp,hn,hm,hy,hl,h=>by
  obtain ⟨i,b,rfl,hb⟩:=ht x (cf ..)
  obtain ⟨J,P⟩:=List.pairwise_cons.1 hp
  have AB: ∀ y∈T0++s',i≠y.ix:=fun y hy e=>by
   have:=J y hy
   simp only [rB,cK,bne_iff_ne,fD.ix] at this
   exact this.1 e
  have N: ∀ k,fD.take k∈T0++s'→dO k≠dO i:=fun k hk e=>by
   have:=J _ hk
   simp only [rB,cK,bne_iff_ne] at this
   exact this.2 e.symm
  have K:dn.Perm ((i,b)::dn.erase (i,b)):=List.perm_cons_erase hb
  have H:((dn.erase (i,b)).map (·.1)).Nodup∧i ∉ (dn.erase (i,b)).map (·.1):=by
   have:=(K.map (·.1)).nodup_iff.1 hn
   exact ⟨(List.nodup_cons.1 this).2,(List.nodup_cons.1 this).1⟩
  have A: ∀ p∈dn.erase (i,b),p∈dn∧p.1≠i:=fun p hp=>⟨List.mem_of_mem_erase hp,fun e=>by have q:=List.mem_map_of_mem (f:=fun p:Nat×Nat=>p.1) hp; simp only [e] at q; exact H.2 q⟩
  have O:L.lookup (dO i)=none:=hl i (cf ..)
  obtain ⟨dn',L',C2,R,T,AA,V,W,X⟩:=D6 T0 s' (dn.erase (i,b)) ((dO i,VO i b)::L) Y (AO i b::C) (fun x hx=>by
   obtain ⟨k,c,rfl,hk⟩:=ht x (cS _ hx)
   refine ⟨k,c,U,?_⟩
   have F:k≠i:=fun e=>AB _ (List.mem_append_left _ hx) e.symm
   exact (List.mem_erase_of_ne (fun e=>F (congrArg Prod.fst e))).2 hk) P H.1 (fun p hp=>by
   obtain ⟨M,G⟩:=A p hp
   rcases List.mem_cons.1 (hm p M) with e|e
   ·injection e with e; exact absurd e G
   ·exact e) (fun p hp=>hy p (A p hp).1) (fun k hk=>by
   have:(dO k==dO i)=false:=by simpa using N k hk
   simp only [List.lookup,this]
   exact hl k (cS _ hk)) (h b)
  refine ⟨dn',L',C2,R,T,fun p=>?_,fun t v hv=>?_,W,fun w hw=>X w ?_⟩
  ·rw [AA]
   constructor
   ·rintro ⟨M,G⟩; exact ⟨(A p M).1,G⟩
   ·rintro ⟨M,G⟩
    have F:p.1≠i:=fun e=>AB _ (List.mem_append_right _ G) e.symm
    exact ⟨(List.mem_erase_of_ne (fun e=>F (congrArg Prod.fst e))).2 M,G⟩
  ·have:=V t v hv
   rw [nK] at this ⊢
   by_cases e:t=dO i
   ·subst e
    simp only [List.lookup,beq_self_eq_true] at this
    rw [O]; simp only
    rw [hy _ hb]; exact this
   ·have Q:(t==dO i)=false:=by simpa using e
    simp only [List.lookup,Q] at this
    exact this
  ·refine hw.perm ?_
   show (C++dn.map fun p=>AO p.1 p.2).Perm (AO i b::(C++(dn.erase (i,b)).map fun p=>AO p.1 p.2))
   refine ((K.map fun p:Nat×Nat=>AO p.1 p.2).append_left C).trans ?_
   exact List.perm_middle
theorem BX: ∀ (s:List fD) (j:Nat),fD.op j∈s→ ∃ T0 k s',s=T0++fD.op k::s'∧ ∀ x∈T0,∃ i,x=fD.take i
 | .take i::s,j,h=>by
  rcases List.mem_cons.1 h with e|h
  ·cases e
  ·obtain ⟨T0,k,s',rfl,A⟩:=BX s j h
   exact ⟨.take i::T0,k,s',U,fun x hx=>by
    rcases List.mem_cons.1 hx with rfl|hx
    ·exact ⟨i,U⟩
    ·exact A x hx⟩
 | .op k::s,j,_=>⟨[],k,s,rfl,fun x hx=>by cases hx⟩
def kh (s:List fD) (dn:List (Nat×Nat)):List Nat:=(s.map fD.ix).filter fun i=> !(dn.map (·.1)).contains i
theorem rr {s:List fD} {dn:List (Nat×Nat)} {i:Nat}:i∈kh s dn↔(∃ x∈s,x.ix=i)∧ ∀ p∈dn,p.1≠i:=by
 unfold kh
 rw [List.mem_filter,sZ]
 refine and_congr Iff.rfl ?_
 rw [Bool.not_eq_true',← Bool.not_eq_true,List.contains_iff_mem,sZ]
 constructor
 ·intro h p hp e; exact h ⟨p,hp,e⟩
 ·rintro h ⟨p,hp,e⟩; exact h p hp e
theorem qA (hal: ∀ i,SP E ops D B dO VO AO i∨True): ∀ (n:Nat) (s:List fD) (dn:List (Nat×Nat)) (L Y:List (Nat×Value)) (C:List au),(∀ i,fD.take i∈s→SP E ops D B dO VO AO i)→s.Pairwise (fun x y=>rB (p5 ops) dO x y=true)→(kh s dn).length=n→(dn.map (·.1)).Nodup→(∀ p∈dn,fD.take p.1∈s)→(∀ p∈dn,Y.lookup (dO p.1)=some (VO p.1 p.2))→(∀ i,fD.take i∈s→L.lookup (dO i)=none)→CG B L→
 (∀ w,St E.S E.w0 C w→St E.S E.w0 C' w)→CH E ops D C' K0 B dO VO AO s L C→TN E ops D C' C1 (fun L C=>KJ E K0 D L C) [] n (kh s dn) (L++Y) (C++dn.map fun p=>AO p.1 p.2)
 |0,s,dn,L,Y,C,_,hp,hlen,hn,hm,hy,hl,hB,hC,h=>by
  have hr:kh s dn=[]:=jC hlen
  have Q: ∀ x∈s,∃ i b,x=fD.take i∧(i,b)∈dn:=fun x hx=>by
   have hx':x.ix ∉ kh s dn:=by rw [hr]; exact List.not_mem_nil
   rw [rr] at hx'
   have: ∃ p∈dn,p.1=x.ix:=by
    apply Classical.byContradiction
    intro q
    exact hx' ⟨⟨x,hx,U⟩,fun p hp e=>q ⟨p,hp,e⟩⟩
   obtain ⟨p,T,AF⟩:=this
   have ht:=hm p T
   rcases List.mem_iff_getElem.1 hx with ⟨a,ha,ea⟩
   rcases List.mem_iff_getElem.1 ht with ⟨c,hc,ec⟩
   have d:a=c:=by
    rcases Nat.lt_trichotomy a c with q|q|q
    ·have:=List.pairwise_iff_getElem.1 hp a c ha hc q
     simp only [rB,cK,bne_iff_ne,ea,ec] at this
     exact absurd AF.symm this.1
    ·exact q
    ·have:=List.pairwise_iff_getElem.1 hp c a hc ha q
     simp only [rB,cK,bne_iff_ne,ea,ec] at this
     exact absurd AF this.1
   subst d
   exact ⟨p.1,p.2,by rw [← ea,ec],T⟩
  obtain ⟨dn',L',C2,V,J,O,W,h5,X⟩:=D6 s [] dn L Y C Q (by simpa using hp) hn (by simpa using hm) hy (by simpa using hl) (by simpa using h)
  show KJ E K0 D _ _
  have hd:dn'=[]:=List.eq_nil_iff_forall_not_mem.2 fun p hp=>by have:=((O p).1 hp).2; cases this
  subst hd
  refine AP (L2:=L') (C2:=C2) (fun a hf=>CU (fun t v ht=>W t v (by rw [nK,ht])) a hf) (fun w hw=>by have:=X w hw; simpa using this) V
 |n+1,s,dn,L,Y,C,hal',hp,hlen,hn,hm,hy,hl,hB,hC,h=>by
  intro i hi o ho K hK
  obtain ⟨G,m⟩:=List.mem_filter.1 hi
  obtain ⟨⟨x,hx,rfl⟩,H⟩:=rr.1 G
  have A: ∀ k∈kh s dn,iu (p5 ops) k x.ix=false:=fun k hk=>by
   have:=List.all_eq_true.1 m k hk
   simpa using this
  cases x with
  |take i=>
   simp only [fD.ix] at H A ho hK G ⊢
   refine hal' i hx o ho _ _ K hB.app fun b=>?_
   have l:=hl i hx
   have AG:(kh s dn).filter (· != i)=kh s ((i,b)::dn):=by
    unfold kh
    rw [List.filter_filter]
    apply List.filter_congr
    intro k _
    simp only [List.map_cons,List.contains_cons,Bool.not_or]
    rfl
   have N:(kh s dn).Nodup:=by
    unfold kh
    refine List.Nodup.sublist List.filter_sublist<|List.pairwise_map.2 (hp.imp fun {a c} q=>?_)
    simp only [rB,cK,bne_iff_ne] at q
    exact q.1
   have M: ∀ k,fD.take k∈s→k≠i→dO k≠dO i:=fun k hk AA e=>by
    rcases List.mem_iff_getElem.1 hx with ⟨a,ha,ea⟩
    rcases List.mem_iff_getElem.1 hk with ⟨c,hc,ec⟩
    rcases Nat.lt_trichotomy a c with q|q|q
    ·have:=List.pairwise_iff_getElem.1 hp a c ha hc q
     simp only [rB,cK,bne_iff_ne,ea,ec] at this
     exact this.2 e.symm
    ·subst q; rw [ea] at ec; cases ec; exact AA rfl
    ·have:=List.pairwise_iff_getElem.1 hp c a hc ha q
     simp only [rB,cK,bne_iff_ne,ea,ec] at this
     exact this.2 e
   refine AP (L2:=L++((dO i,VO i b)::Y)) (C2:=C++((i,b)::dn).map fun p=>AO p.1 p.2) (fun a hf=>CU (fun t v ht=>?_) a hf) (fun w hw=>hw.perm (List.perm_middle).symm) (hK _ _ (fun w hw=>hC w (hw.take (List.sublist_append_left _ _))) (fun q=>by cases q) ?_)
   ·rw [nK] at ht
    by_cases e:t=dO i
    ·subst e
     rw [l] at ht
     simp only [List.lookup,beq_self_eq_true] at ht ⊢
     exact ht
    ·have e2:(t==dO i)=false:=by simpa using e
     simp only [List.lookup,e2] at ht ⊢
     rw [nK]; exact ht
   ·rw [AG]
    refine qA hal n s ((i,b)::dn) L ((dO i,VO i b)::Y) C hal' hp ?_ (List.nodup_cons.2 ⟨fun q=>?_,hn⟩) (fun p hp'=>?_) (fun p hp'=>?_) hl hB hC h
    ·rw [← AG,← List.Nodup.erase_eq_filter N,List.length_erase_of_mem G,hlen]; rfl
    ·obtain ⟨p,hp',e⟩:=List.mem_map.1 q
     exact H p hp' e
    ·rcases List.mem_cons.1 hp' with rfl|hp'
     ·exact hx
     ·exact hm p hp'
    ·rcases List.mem_cons.1 hp' with rfl|hp'
     ·simp [List.lookup]
     ·have:(dO p.1==dO i)=false:=by simpa using M p.1 (hm p hp') (H p hp')
      simp only [List.lookup,this]
      exact hy p hp'
  |op j=>
   simp only [fD.ix] at H A ho hK G ⊢
   obtain ⟨T0,k,s',rfl,hT⟩:=BX s j hx
   obtain ⟨q1,q2,q3⟩:=List.pairwise_append.1 hp
   obtain ⟨q4,q5⟩:=List.pairwise_cons.1 q2
   have R: ∀ k',fD.op k'∈T0++fD.op k::s'→k'∈kh (T0++fD.op k::s') dn:=fun k' hk'=>by
    refine rr.2 ⟨⟨_,hk',U⟩,fun p hp' e=>?_⟩
    have ht:=hm p hp'
    rcases List.mem_iff_getElem.1 hk' with ⟨a,ha,ea⟩
    rcases List.mem_iff_getElem.1 ht with ⟨c,hc,ec⟩
    rcases Nat.lt_trichotomy a c with q|q|q
    ·have:=List.pairwise_iff_getElem.1 hp a c ha hc q
     simp only [rB,cK,bne_iff_ne,ea,ec,fD.ix] at this
     exact this.1 e.symm
    ·subst q; rw [ea] at ec; cases ec
    ·have:=List.pairwise_iff_getElem.1 hp c a hc ha q
     simp only [rB,cK,bne_iff_ne,ea,ec,fD.ix] at this
     exact this.1 e
   have AB:k=j:=by
    apply Classical.byContradiction
    intro AC
    have hj':fD.op j∈s':=by
     rcases List.mem_append.1 hx with q|q
     ·obtain ⟨i,e⟩:=hT _ q; cases e
     ·rcases List.mem_cons.1 q with e|q
      ·injection e with e; exact absurd e.symm AC
      ·exact q
    have:=q4 _ hj'
    simp only [rB,cK,fD.ix] at this
    have J:=A k (R k sm)
    rw [this.2] at J; cases J
   subst AB
   have F: ∀ x∈T0,∃ i b,x=fD.take i∧(i,b)∈dn:=fun x hx'=>by
    obtain ⟨i,rfl⟩:=hT x hx'
    apply Classical.byContradiction
    intro q
    have r:i∈kh (T0++fD.op k::s') dn:=rr.2 ⟨⟨_,List.mem_append_left _ hx',rfl⟩,fun p hp' e=>q ⟨i,p.2,rfl,by rw [← e]; exact hp'⟩⟩
    have:=q3 _ hx' _ (cf ..)
    simp only [rB,cK,fD.ix] at this
    have J:=A i r
    rw [this.2] at J; cases J
   obtain ⟨dn',L',C2,V,J,O,W,h5,X⟩:=D6 T0 (fD.op k::s') dn L Y C F hp hn hm hy hl h
   refine Fx (fun a hf=>CU W a hf) X (V o ho Y (dn'.map fun p=>AO p.1 p.2) K fun L3 C3 P AD Z g=>?_)
   have AG:(kh (T0++fD.op k::s') dn).filter (· != k)=kh s' dn':=by
    unfold kh
    rw [List.map_append,List.filter_append,List.map_cons,List.filter_append]
    have e1:(List.map fD.ix T0).filter (fun i=> !(dn.map (·.1)).contains i)=[]:=by
     apply List.filter_eq_nil_iff.2
     intro z hz
     obtain ⟨x,hx',rfl⟩:=List.mem_map.1 hz
     obtain ⟨i,b,rfl,hb⟩:=F x hx'
     simp only [fD.ix,Bool.not_eq_true',Bool.not_eq_false,List.contains_iff_mem]
     exact List.mem_map_of_mem (f:=(·.1)) hb
    rw [e1]
    simp only [List.filter_nil,List.nil_append]
    have u:k ∉ dn.map (·.1):=fun q=>by
     obtain ⟨p,hp',e⟩:=List.mem_map.1 q
     exact H p hp' e
    rw [List.filter_cons_of_pos (by simpa [fD.ix] using u),List.filter_cons_of_neg (by simp [fD.ix]),List.filter_filter]
    apply List.filter_congr
    intro z hz
    obtain ⟨y,hy',rfl⟩:=List.mem_map.1 hz
    have AE:y.ix≠k:=fun e=>by
     have:=q4 y hy'
     simp only [rB,cK,bne_iff_ne,fD.ix] at this
     exact this.1 e.symm
    rw [Bool.eq_iff_iff]
    simp only [cK,bne_iff_ne,Bool.not_eq_true',← Bool.not_eq_true,List.contains_iff_mem]
    constructor
    ·rintro ⟨_,hq⟩ hc
     obtain ⟨p,hp',e⟩:=List.mem_map.1 hc
     exact hq (by rw [← e]; exact List.mem_map_of_mem (f:=(·.1)) ((O p).1 hp').1)
    ·intro hq
     refine ⟨AE,fun hc=>?_⟩
     obtain ⟨p,hp',e⟩:=List.mem_map.1 hc
     apply hq
     rw [← e]
     refine List.mem_map_of_mem (f:=(·.1)) ((O p).2 ⟨hp',?_⟩)
     have ht:=hm p hp'
     rcases List.mem_append.1 ht with ht|ht
     ·exfalso
      have:=q3 _ ht _ (cS _ hy')
      simp only [rB,cK,bne_iff_ne,fD.ix] at this
      exact this.1 e
     ·exact ht
   have N:(kh (T0++fD.op k::s') dn).Nodup:=by
    unfold kh
    refine List.Nodup.sublist List.filter_sublist<|List.pairwise_map.2 (hp.imp fun {a c} q=>?_)
    simp only [rB,cK,bne_iff_ne] at q
    exact q.1
   refine hK _ _ (fun w hw=>P w (hw.take (List.sublist_append_left _ _))) (fun q=>by cases q) ?_
   rw [AG]
   have hdn': ∀ p∈dn',fD.take p.1∈s':=fun p hp'=>by
    rcases List.mem_cons.1 ((O p).1 hp').2 with e|e
    ·cases e
    ·exact e
   refine qA hal n s' dn' L3 Y C3 (fun i hi=>hal' i (by simp [hi])) q5 ?_ J hdn' (fun p hp'=>hy p ((O p).1 hp').1) (fun i hi=>?_) (wa Z) P g
   ·rw [← AG,← List.Nodup.erase_eq_filter N,List.length_erase_of_mem G,hlen]; rfl
   ·have:=List.all_eq_true.1 AD _ (sW hi)
    simpa using this
/-- the rows, at any time; the others, one after the other -/
theorem NJ {tb rem:List Nat} {L:List (Nat×Value)} {C:List au} (s:List fD) (B:List (Nat×Value)) (dO:Nat→Nat) (VO:Nat→Nat→Value) (AO:Nat→Nat→au) {n:Nat} (htb:tb=[]) (hr:s.map fD.ix=rem) (hn:rem.length=n) (hp:TU (p5 ops) dO s=true) (hl:((C5 dO s).all fun d=>(L.lookup d).isNone)=true) (hB:B.map (fun p=>L.lookup p.1)=B.map (fun p=>some p.2)) (hC: ∀ w,St E.S E.w0 C w→St E.S E.w0 C' w)
 (hal: ∀ i,fD.take i∈s→SP E ops D B dO VO AO i) (h:CH E ops D C' K0 B dO VO AO s L C):TN E ops D C' C1 (fun L C=>KJ E K0 D L C) tb n rem L C:=by
 subst htb hr
 have e:kh s []=s.map fD.ix:=by unfold kh; simp
 have:=qA (C1:=C1) (fun i=> .inr trivial) n s [] L [] C hal (Fj hp) (by rw [e]; exact hn) List.nodup_nil (fun p hp=>by cases hp) (fun p hp=>by cases hp) (fun i hi=>by
  have:=List.all_eq_true.1 hl _ (sW hi)
  simpa using this) (wa hB) hC h
 simpa [e] using this
theorem Qz {p:Nat→Prop}: ∀ i,fD.take i∈([]:List fD)→p i:=fun i h=>by cases h
theorem x3 {p:Nat→Prop} {j:Nat} {s:List fD} (h: ∀ i,fD.take i∈s→p i): ∀ i,fD.take i∈fD.op j::s→p i:=fun i hi=>by
 rcases List.mem_cons.1 hi with e|hi
 ·cases e
 ·exact h i hi
theorem vW {p:Nat→Prop} {j:Nat} {s:List fD} (hj:p j) (h: ∀ i,fD.take i∈s→p i): ∀ i,fD.take i∈fD.take j::s→p i:=fun i hi=>by
 rcases List.mem_cons.1 hi with e|hi
 ·cases e; exact hj
 ·exact h i hi
end
section
variable {E:e_} {ops:Array Oper} {D:List Deferred} {B:List (Nat×Value)} {dO:Nat→Nat} {VO:Nat→Nat→Value} {AO:Nat→Nat→au}
variable {d:Nat} {ty:TypeId} {ps:String} {af:Array Edge}
theorem Kc {i t e sz:Nat} (ho:ops[i]? =some ⟨some d,.buildSlice t 0 #[],ty,ps,af,none⟩) (ht:tE E.P t=some (e,sz)) (hd:Nat.blt d E.n=true) (h1:dO i=d) (h2: ∀ b,VO i b= .slice (some ⟨b,0,none⟩) 0 0) (h3: ∀ b,AO i b=bU b e []):SP E ops D B dO VO AO i:=fun o ho' L C K hB hk=>by
 rw [ho] at ho'; cases ho'
 exact tm U ht hd fun b=>aF (by have:=hk b; rw [h1,h2,h3] at this; exact this)
theorem Pp {i t e sz n:Nat} {xs:List Operand} {vs:List Value} {cs zs:List Value} (ho:ops[i]? =some ⟨some d,.buildSlice t n ((xs.zipIdx.map fun p=>(p.2,p.1)).toArray),ty,ps,af,none⟩) (ht:tE E.P t=some (e,sz)) (hz:tZ E.P e=some zs) (hx:evs B xs=some vs) (hn:xs.length=n) (hp:Nat.blt 0 (n*sz)=true) (hb:Nat.ble (n*sz) 16777216=true) (hv: ∀ v∈vs,v.cells.size=sz)
 (hc:(vs.map (·.cells.toList)).flatten=cs) (hd:Nat.blt d E.n=true) (h1:dO i=d) (h2: ∀ b,VO i b= .slice (some ⟨b,0,none⟩) n n) (h3: ∀ b,AO i b=bU b e cs):SP E ops D B dO VO AO i:=fun o ho' L C K hB hk=>by
 rw [ho] at ho'; cases ho'
 exact cV U ht hz (F9 hB hx) hn hp hb hv hc hd fun b=>aF (by have:=hk b; rw [h1,h2,h3] at this; exact this)
end
section
variable {E:e_} {ops:Array Oper} {D:List Deferred} {C':List au} {K0:Act→World→Prop} {B:List (Nat×Value)} {dO:Nat→Nat} {VO:Nat→Nat→Value} {AO:Nat→Nat→au}
theorem xd {j:Nat} {s:List fD} {L:List (Nat×Value)} {C:List au} {o:Oper} (ho:ops[j]? =some o)
 (h: ∀ (Y:List (Nat×Value)) (X:List au) (K:Act→World→Prop),(∀ L' C'',(∀ w,St E.S E.w0 C'' w→St E.S E.w0 C' w)→((C5 dO s).all fun d=>(L'.lookup d).isNone)=true→B.map (fun p=>L'.lookup p.1)=B.map (fun p=>some p.2)→CH E ops D C' K0 B dO VO AO s L' C''→KJ E K D (L'++Y) (C''++X))→RJ E ops (NQ K) [o] D (L++Y) (C++X)):CH E ops D C' K0 B dO VO AO (.op j::s) L C:=fun o' ho'=>by
 rw [ho] at ho'; cases ho'
 exact h
theorem sk {s:List fD} {L Y:List (Nat×Value)} {C X:List au} {K:Act→World→Prop} (hT: ∀ L' C'',(∀ w,St E.S E.w0 C'' w→St E.S E.w0 C' w)→((C5 dO s).all fun d=>(L'.lookup d).isNone)=true→B.map (fun p=>L'.lookup p.1)=B.map (fun p=>some p.2)→CH E ops D C' K0 B dO VO AO s L' C''→KJ E K D (L'++Y) (C''++X)) (nL nC:Nat)
 (hL:L.take nL++Y=L) (hC:C.take nC++X=C) (h1: ∀ w,St E.S E.w0 (C.take nC) w→St E.S E.w0 C' w) (h2:((C5 dO s).all fun d=>((L.take nL).lookup d).isNone)=true) (h3:B.map (fun p=>(L.take nL).lookup p.1)=B.map (fun p=>some p.2)) (h:CH E ops D C' K0 B dO VO AO s (L.take nL) (C.take nC)):RJ E ops (NQ K) [] D L C:=by
 have:=hT _ _ h1 h2 h3 h
 rw [hL,hC] at this
 exact aF this
theorem Rk {c:Code} {Q:cW} {L L':List (Nat×Value)} {C:List au} (h:L'.map (fun p=>L.lookup p.1)=L'.map (fun p=>some p.2)) (k:WJ E c Q D L' C):WJ E c Q D L C:=fun a w hf hs=>k a w (CU (wa h) a hf) hs
theorem wY: ∀ {C:List au} {i:Nat} {A:au},C[i]? =some A→C.Perm (A::C.eraseIdx i)
 |[],i,A,h=>by simp at h
 |x::C,0,A,h=>by
  simp at h; subst h
  exact List.Perm.refl _
 |x::C,i+1,A,h=>((wY (C:=C) (i:=i) (by simpa using h)).cons x).trans (List.Perm.swap _ _ _)
theorem St.front {S:BS} {w0 w:World} {C:List au} {A:au} (i:Nat) (hi:C[i]? =some A) (h:St S w0 C w):St S w0 (A::C.eraseIdx i) w:=h.perm (wY hi)
theorem Fg {K:Act→World→Prop} {L:List (Nat×Value)} {C:List au} {A:au} (i:Nat) (hi:C[i]? =some A) (h:KJ E K D L (A::C.eraseIdx i)):KJ E K D L C:=fun a w hf hs=>h a w hf (hs.front i hi)
theorem qW {Q:cW} {rest:List Oper} {L:List (Nat×Value)} {C:List au} {A:au} (i:Nat) (hi:C[i]? =some A) (h:RJ E ops Q rest D L (A::C.eraseIdx i)):RJ E ops Q rest D L C:=fun a w hf hs=>h a w hf (hs.front i hi)
end
end
section
open Go.RowKit
section
variable {E:e_} {ops:Array Oper} {D:List Deferred} {C' C1:List au} {tb:List Nat}
theorem wG {V:Type} {F:List (Nat×Value)→List au→Prop} (P:V→Prop) (fL:V→List (Nat×Value)) (fC:V→List au) (n:Nat) (rest:List Nat) {m:Nat} {rem:List Nat} {L:List (Nat×Value)} {C:List au} (h1:(∀ v,P v→TN E ops D C' C1 F tb n rest (fL v) (fC v))→TN E ops D C' C1 F tb m rem L C) (h2: ∀ v,P v→TN E ops D C' C1 F tb n rest (fL v) (fC v)):TN E ops D C' C1 F tb m rem L C:=h1 h2
theorem Qs {K0:Act→World→Prop} {n:Nat} {rem:List Nat} {L L2:List (Nat×Value)} {C C2:List au} (hL: ∀ a,Fr E.n D L a→Fr E.n D L2 a) (hC: ∀ w,St E.S E.w0 C w→St E.S E.w0 C2 w) (h:TN E ops D C' C1 (fun L C=>KJ E K0 D L C) tb n rem L2 C2):TN E ops D C' C1 (fun L C=>KJ E K0 D L C) tb n rem L C:=by
 cases n with
 |zero=>exact AP hL hC h
 |succ n=>exact fun i hi o ho K hK=>Fx hL hC (h i hi o ho K hK)
theorem jI {V:Type} {P:V→Prop} {fL:V→List (Nat×Value)} {fC:V→List au} {K0:Act→World→Prop} {n:Nat} {rem:List Nat} {L:List (Nat×Value)} {C:List au} (hJ: ∀ v,P v→TN E ops D C' C1 (fun L C=>KJ E K0 D L C) tb n rem (fL v) (fC v)) (v:V) (hp:P v) (ix:List Nat) (hL:(fL v).map (fun p=>L.lookup p.1)=(fL v).map (fun p=>some p.2)) (hn:decide ix.Nodup=true) (hC:o6 C ix=some (fC v)):TN E ops D C' C1 (fun L C=>KJ E K0 D L C) tb n rem L C:=
 Qs (fun a hf=>CU (wa hL) a hf) (fun w hs=>St.kf _ hn (jz hC) hs) (hJ v hp)
end
end
section
open Go.RowKit
theorem IC (m:gF) (gm g1:Nat):
 EF Tryz.prog 68 [] [(vP g1)] [(hE iV gm (bG db m)),(bU g1 64 [(Value.map (some gm))])] ([]:List Int) (fun ys x ys'=> ∃ n zs,(ys++[n]++zs).Perm (m.map (·.1))∧x=[vI n]∧ys'=ys++[n]) (fun ys=>ys.Perm (m.map (·.1))):=by
 refine sV kr Tryz.func68 U U fun l J Z A0 S Q hY M L hQ hN=>?_
 try dsimp only
 refine WS fun _ O=>rP 1 [] (mr 2 U I) ?_
 refine iH (kV:=iV) (m:=bG db m) 1 U U l8 U ⟨U,fun h=>h⟩ (by exact jW 1 U) U fun V=>?_
 try dsimp only
 refine RK O<|ax ?_
 have G:(ot m m ([]:List Int))∧(∀ p∈m,p∈m)∧(J ([]:List Int) A0)∧(Fo A0 S A0):=by exact ⟨u0,fun p hp=>hp,M,L⟩
 refine bK (ι:={z:gF×(List Int)×au // (ot m z.1 z.2.1)∧(∀ p∈z.1,p∈m)∧(J z.2.1 z.2.2)∧(Fo A0 S z.2.2)}) [0,1,5] [2,3] U U (fun z=>[]) (fun z=>[(yf iV V gm (bG db m) (bG db z.1.1) none),z.1.2.2]) (fun _=>rfl) (fun _=>rfl) (fun z=>z.1.1.length) ⟨(m,([]:List Int),A0),G⟩ (dw.nil _) (aI [2,3,0,1]) ?_
 clear G
 rintro ⟨⟨left,ys,A⟩,⟨B,H,C,D⟩⟩ J3 N
 try dsimp only at B H C D
 try dsimp only
 refine WS fun _ AB=>g9 (dK oz).inj (f:=db) 2 U U U U (fun T=>?_) (fun x y hm hn=>?_)
 ·refine rP 1 [] I ?_
  refine RK AB<|ai fun _ AA=>aW U<|bw<|ab<|ab<|ay ?_
  refine hN _ _ _ (gX (vs:=[]) trivial fun w hs=>JF 3 U (by rw [T] at B; exact xR B) C D hs)
 try dsimp only
 refine a_ 1 U<|RK AB<|ai fun _ P=>aO U<|WK P<|ax<|WS fun _ R=>rS (SX (g8 2 U U U) U U)<|a_ 2 U<|RK R<|WS fun _ K=>rP 2 [] I ?_
 refine kq (k:=ys) (k':=(ys++[(x)])) 3 (by first|exact hsz|exact Nat.le_refl _) hY C D U U U (by exact ⟨x,_,nQ hn hm B,U,U⟩) U U (fun B9 F E=>?_) (fun B9 F E=>?_)
 rotate_left 1
 ·refine rP 1 [] I ?_
  refine RK K<|aO U<|ao ?_
  refine hQ _ _ _ (gX (vs:=[]) trivial fun w hs=>rQ 3 U F E hs)
 refine rP 1 [] I ?_
 refine RK K<|aW U<|bV<|aG<|fP 2 U ep U ?_
 refine aR (N ⟨((cj left x),(ys++[(x)]),B9),⟨nQ hn hm B,eG H,F,E⟩⟩ _ _ _ U (dF hm) (aS U) (aI [0,1,2,3]))
theorem FC (gm:Nat):
 lD Tryz.prog 42 [(Value.map (some gm))] [] (fun (x:Nat)=>(Value.func (.func 68) [].toArray [(vP x)].toArray)) (fun (x:Nat)=>True) (fun (x:Nat)=>[(bU x 64 [(Value.map (some gm))])]):=by
 refine di kr Tryz.func42 U U fun D Q hQ hN=>?_
 try dsimp only
 refine WS fun _ A=>uT U U fun C=>a_ 1 U<|RK A<|WS fun _ B=>rS (FU U)<|rP 1 [] I ?_
 refine RK B<|ao<|LX hQ C [0] [] I U U U U ?_
 trivial
end
section
open Go.RowKit
theorem HB (m:gF) (gm g1:Nat) (hlen:m.length≤12):
 lD Tryz.prog 94 [(vS none 0 0),(Value.func (.func 68) [].toArray [(vP g1)].toArray)] [(hE iV gm (bG db m)),(bU g1 64 [(Value.map (some gm))])] (fun (x:(List Int)×(OA)×Nat)=>(vS x.2.1 x.1.length x.2.2)) (fun (x:(List Int)×(OA)×Nat)=>x.1.Perm (m.map (·.1))) (fun (x:(List Int)×(OA)×Nat)=>[(own x.2.1 x.2.2 3 1 (x.1.map iC))]):=by
 refine di kr Tryz.func94 U U fun X Q hQ hN=>?_
 try dsimp only
 refine WS fun _ AB=>uT U U fun N=>a_ 1 U<|RK AB<|ai fun _ J=>WS fun _ K=>rP 1 [] I ?_
 refine RK K<|ax<|kl 1 U (by exact fun _ h=>h)<|kl 3 U (by exact fun _ h=>h)<|fV 3 1 ?_
 refine nq (L0:=[(2,(vP N))]) (F:=[(hE iV gm (bG db m)).ro,(bU g1 64 [(Value.map (some gm))]).ro]) (fun k (y:(OA)×Nat)=>(∃ zs,(k++zs).Perm (m.map (·.1)))) (fun k y=>[(own y.1 y.2 3 1 (k.map iC)),(bU N 32 [(vS y.1 k.length y.2)]),(hE iV gm (bG db m)).ro]) (fun _ (_:Unit)=>False) (fun _ _=>[]) [0,3,4] [2,1] (none,0) rfl rfl (IC m gm g1) rfl rfl rfl (by exact ⟨_,List.Perm.refl _⟩) (by simp only [List.forall_mem_cons,List.not_mem_nil,false_imp_iff,implies_true,and_true]; exact ⟨⟨_,sm,(dC (bP _))⟩,⟨_,sm,(dC (bP _))⟩⟩) (by rintro k x AA ⟨n,zs,_,rfl,_⟩; rfl) rfl (aS rfl) ?_ ?_ (fun _ _ _ h=>h.elim) (fun _ _ h=>h.elim)
 rotate_left 1
 ·rintro V k ⟨a,c⟩ E A
  have B:=A
  try dsimp only at B
  try dsimp only
  refine aG<|KK J<|WS fun _ C=>rP 2 [] (mc 4 U I) ?_
  refine RK C<|ao<|hQ _ _ _ (ox 0 U U<|gX (vs:=[(vS a k.length c)]) ⟨U,trivial⟩ fun w hs=>JB (k,a,c) [3] ?_ ?_ U U U hs)
  ·rfl
  ·first|exact E|exact hys
 rintro k x AA ⟨a,c⟩ l ra rb S Y K5 Qr6 T hx G L D O P
 obtain ⟨n,zs,hn,rfl,rfl⟩:=hx; have M:=hn.length_eq; simp only [List.length_append,List.length_map,List.length_singleton] at M
 have B:=G
 try dsimp only at B
 try dsimp only
 refine ak<|rP 1 [] I ?_
 refine aF<|aR (L _ _ ?_)
 refine ax<|ak<|rP 2 [] (mc 2 U I) ?_
 refine cV (xs:=[.tmp 9]) (cs:=[(vI n)]) U cv ja U U U U (by simp [Value.cells]) U U fun W=>?_
 refine c_ (es2:=(List.map iC (k++[n]))) (m':=(k++[n]).length) 2 U U U pZ U U sm (aZ (es:=List.map iC [n]) 0 U U (by simp [bE]) U) (kb _) os (by simp only [maxLen]; omega) sm sm U fun R H=>?_
 try dsimp only
 refine Ul U Ai U U<|aF<|aG ?_
 exact D (R,H) _ _ (by exact ⟨_,hn⟩) (aI [1,2,3,4])
end
section
open Go.RowKit
theorem Eu (m:gF) (gm g1:Nat) (hlen:m.length≤12):
 lD Tryz.prog 67 [(Value.func (.func 68) [].toArray [(vP g1)].toArray)] [(hE iV gm (bG db m)),(bU g1 64 [(Value.map (some gm))])] (fun (x:(List Int)×(OA)×Nat)=>(vS x.2.1 x.1.length x.2.2)) (fun (x:(List Int)×(OA)×Nat)=>x.1.Perm (m.map (·.1))) (fun (x:(List Int)×(OA)×Nat)=>[(own x.2.1 x.2.2 3 1 (x.1.map iC))]):=by
 refine di kr Tryz.func67 U U fun AA Q hQ hN=>?_
 try dsimp only
 refine WS fun _ A=>a_ 1 U<|RK A<|WS fun _ B=>rP 1 [] I ?_
 refine cX (HB m gm g1 hlen) (bf [0,1]) U fun H C=>?_
 obtain ⟨E,F,G⟩:=H
 try dsimp only
 have D:=C
 refine rP 1 [] I ?_
 refine RK B<|ao<|LX hQ (E,F,G) [0] [] I U U U U ?_
 first|exact hfin|exact D
theorem zq (m:gF) (gm g1:Nat) (hlen:m.length≤12):
 lD Tryz.prog 41 [(Value.func (.func 68) [].toArray [(vP g1)].toArray)] [(hE iV gm (bG db m)),(bU g1 64 [(Value.map (some gm))])] (fun (x:(OA)×Nat)=>(vS x.1 m.length x.2)) (fun (x:(OA)×Nat)=>True) (fun (x:(OA)×Nat)=>[(own x.1 x.2 3 1 ((dg (m.map (·.1))).map iC))]):=by
 refine di kr Tryz.func41 U U fun M Q hQ hN=>?_
 try dsimp only
 refine WS fun _ E=>a_ 1 U<|RK E<|WS fun _ F=>rP 1 [] I ?_
 refine cX (Eu m gm g1 hlen) (bf [0,1]) U fun L H=>?_
 obtain ⟨AA,J,K⟩:=L
 try dsimp only
 have D:=H
 refine a_ 1 U<|RK F<|WS fun _ G=>rP 1 [] I ?_
 have B:=D.length_eq
 simp only [List.length_map] at B
 refine iP 0 U U U U (AJ AA J K sd) U kd U (fun ms C=>?_)
 try dsimp only
 refine RK G<|WS fun _ A=>?_
 obtain rfl:=qs (C.1.trans D) C.2
 skip
 refine rP 2 [] I ?_
 refine RK A<|ao ?_
 refine LX hQ (J,K) [0] [] I U U U ?_ ?_
 ·first|rfl|(rw [B]; rfl)
 ·trivial
end
section
open Go.RowKit
theorem Iq (a b:Int) (r:bT) (kA:OA) (kC:Nat) (cA:OA) (cC:Nat) (bA:OA) (bC:Nat) (slA:OA) (slC:Nat) (drA:OA) (drC:Nat) (heA:OA) (heC:Nat) (tA:OA) (tN tC:Nat) (gs gw:Nat) (m:gF) (g1:Nat) (hb: ∀ p∈m,0≤p.2.Lo∧p.2.Lo≤p.2.Hi∧p.2.Hi≤30000000):
 dV Tryz.prog 50 [(vI a),(vI b),(vP g1)] [(bU gw 91 (fM.cells (fM.mk (oD r kA kC cA cC bA bC slA slC drA drC heA heC) (bp.mk tA tN tC) (Value.map (some gs))))),(hE iV gs (bG db m)),(bU g1 81 [(vP gw)])] (vI ((aB m a).Lo-(aB m b).Lo)):=by
 have A:=gP (i:=a) hb
 have B:=gP (i:=b) hb
 refine bx kr Tryz.func50 U U fun E Q hQ hN=>?_
 try dsimp only
 refine WS fun _ C=>a_ 1 U<|RK C<|ai fun _ D=>du cq 16 kr<|my 1 [] (mr 2 U I) U<|dS (SX (bI U U) U U)<|my 3 [] (mr 0 U I) U<|dS (SX (kM (kV:=iV) (x:=a) (l:=m) (f:=db) (z:=(aa.mk 0 0)) U U U l8 (dK oz) xH (by exact jW 1 U)) U U)<|dS (SX (kK (v:=(vI (((List.lookup a m).getD (aa.mk 0 0)).Lo))) U U fx AE U) U U)<|my 1 [] (mr 2 U I) U<|dS (SX (bI U U) U U)<|dP 3 [] (mr 0 U I) ?_
 refine dS (SX (kM (kV:=iV) (x:=b) (l:=m) (f:=db) (z:=(aa.mk 0 0)) U U U l8 (dK oz) xH (by exact jW 1 U)) U U)<|dS (SX (kK (v:=(vI (((List.lookup b m).getD (aa.mk 0 0)).Lo))) U U fx AE U) U U) ?_
 unfold aB at A B
 simp only [dv] at A B
 refine dP 2 [] I ?_
 refine cH<|RK D<|ao ?_
 exact Q1 hQ U U U U
theorem Fc (r:bT) (kA:OA) (kC:Nat) (az:List RA) (cA:OA) (cC:Nat) (bA:OA) (bC:Nat) (slA:OA) (slC:Nat) (drA:OA) (drC:Nat) (ha:List cM) (heA:OA) (heC:Nat) (hin:eW r az ha):
 lD Tryz.prog 21 [(vA (cm.cells (oD r kA kC cA cC bA bC slA slC drA drC heA heC)))] [(rd eJ 3 2 dJ),(rd kA r.an.aN.length 9 (r.an.aN.map al.cells)),(rd cA r.an.aj.length 2 (List.zipWith av.cells r.an.aj az)),(e7 (aU av.g0 r.an.aj az)),(rd bA r.an.ae.length 4 (r.an.ae.map bB.cells)),(rd slA r.aK.length 1 (r.aK.map iC)),(rd drA r.bL.length 1 (r.bL.map iC)),(rd heA r.ar.length 1 (List.zipWith cJ r.ar ha)),(e7 (aU im r.ar ha))] (fun (x:(List RA)×(OA)×Nat)=>(vT [(vS x.2.1 ((cP r).length) x.2.2),(vI (cr r))])) (fun (x:(List RA)×(OA)×Nat)=>x.1.length=(cP r).length) (fun (x:(List RA)×(OA)×Nat)=>[(own x.2.1 x.2.2 32 1 (List.zipWith lu (cP r) x.1)),(bu (aU p7 (cP r) x.1))]):=by
 have At:=hin.line
 have BJ:=hin.iN
 have BK:=hin.has
 have A4:=hin.iM
 have A1:=hin.draw
 have A5:=dB (r:=r)
 refine di kr Tryz.func21 U U fun w0 Q hQ hN=>?_
 try dsimp only
 refine WS fun _ Ao=>fQ U fun b2=>a_ 2 U<|RK Ao<|WS fun _ AC=>rP 1 [] (mc 0 U I) ?_
 refine cX (ob r kA kC az cA cC bA bC slA slC drA drC ha heA heC hin) (bf [1,2,3,4,5,6,7,8,9]) U fun y4 Ae=>?_
 obtain ⟨Af,BG,X,O,Ag,W,A9⟩:=y4
 cases Af
 ·obtain ⟨Ab,he⟩:=Ae.2 rfl
  try dsimp only at Ab he
  subst Ab
  try dsimp only [cond_true,cond_false,List.cons_append,List.nil_append]
  refine a_ 3 U<|AL U Sp fun BA=>HJ U SU U U<|a_ 1 U<|RK AC<|ai fun _ A0=>WS fun _ p=>rP 2 [] I ?_
  refine RK p<|bM U (bj fun g=>?_) (bk fun g=>?_)
  ·exact absurd g he
  refine WS fun _ s=>rP 1 [] I ?_
  have E:cP r=[]:=Bq he
  have Z:([]:List RA).length=(cP r).length:=by rw [E]; rfl
  refine dH 32 1<|xb ?_
  rw [show (own none 0 32 1 ([]:List (List Value)))=own none 0 32 1 (List.zipWith lu (cP r) []) from by rw [E]; rfl,show bu []=bu (aU p7 (cP r) []) from by rw [E]; rfl]
  refine rP 2 [] I ?_
  refine RK s<|ao ?_
  refine LX hQ ([],none,0) [1,0] [] I U (by show List.all _ _=true; simp only [fG,List.all_nil,IN,Bool.and_true]; rfl) U ?_ ?_
  ·first|rfl|(rw [E]; rfl)|(rw [he,← E,List.length_map]; rfl)|(rw [he,E]; rfl)
  ·exact Z
 obtain ⟨he,BM⟩:=Ae.1 rfl
 try dsimp only [cond_true,cond_false,List.cons_append,List.nil_append]
 have BO:=m0 he
 have A3:=oH he
 refine a_ 3 U<|AL U Sp fun R=>HJ U SU U U<|a_ 1 U<|RK AC<|ai fun _ t=>WS fun _ v=>a_ 1 U<|rS (SX (bS (r:= .bool false) U U U j6) U U)<|RK v<|aW U<|WK t<|WS fun _ w=>a_ 1 U<|RK w<|WS fun _ y=>a_ 1 U<|RK y<|ai fun _ AA=>WS fun _ AB=>fy 1 [] (mc 0 U I) U<|rS (SX (bI U U) U U)<|rP 2 [] (mc 1 U I) ?_
 refine cX (FC O) (aJ) U fun Ak A6=>?_
 try dsimp only
 refine cX (zq (aA r) O Ak sd) (bf [5,0]) U fun Ay A7=>?_
 obtain ⟨Aj,Al⟩:=Ay
 try dsimp only
 rw [show (aA r).length=(dg ((aA r).map (·.1))).length from by rw [gk,List.length_map]]
 refine rS (FU U) ?_
 refine cX (zE (dg ((aA r).map (·.1))) Aj Al (Value.func (.func 50) [].toArray [(vP R)].toArray) (fun u=>(aB (aA r) u).Lo) (e7 [(bU X 91 (fM.cells (fM.mk (oD r kA kC cA cC bA bC slA slC drA drC heA heC) (bp.mk Ag ((cL r).length) W) (Value.map (some O))))),(hE iV O (bG db (aA r))),(bU R 81 [(vP X)])]) (by intro Aw Ax _; exact nc (fi:=[]) (ca:=[(vP R)]) (l4 (Iq Aw Ax r kA kC cA cC bA bC slA slC drA drC heA heC Ag ((cL r).length) W O X (aA r) R (by first|assumption|omega)) (M8 0 1 2 U U U U U U))) (by exact SB BO) (by rw [gk,List.length_map]; omega)) (aq (ag (n:=(dg ((aA r).map (·.1))).length) 0 U sm)<|aq (l0 (M8 3 6 2 U U U U U U))<|aJ) U fun Az A8=>?_
 obtain ⟨A_,BF⟩:=Az
 try dsimp only
 have BL:(er (fun u=>(aB (aA r) u).Lo) (dg ((aA r).map (·.1)))).length=(aA r).length:=by rw [kp,gk,List.length_map]
 have Ad:DM (fun u=>(aB (aA r) u).Lo) (er (fun u=>(aB (aA r) u).Lo) (dg ((aA r).map (·.1)))):=uH
 refine rP 2 [] I ?_
 refine RK AB<|ax<|fV 32 1<|oh ?_
 have H:(0≤(er (fun u=>(aB (aA r) u).Lo) (dg ((aA r).map (·.1)))).length)∧(([]:List RA).length=([]:List (List Int)).length)∧(mw (aB (aA r)) ((er (fun u=>(aB (aA r) u).Lo) (dg ((aA r).map (·.1)))).take 0) ([]:List (List Int)) (-1))∧(-1≤(-1)∧(-1)≤30000000):=by exact ⟨Nat.zero_le _,rfl,Gi,om⟩
 refine bK (ι:={z:Nat×(List (List Int))×(List RA)×(OA)×Nat×Int // (z.1≤(er (fun u=>(aB (aA r) u).Lo) (dg ((aA r).map (·.1)))).length)∧(z.2.2.1.length=z.2.1.length)∧(mw (aB (aA r)) ((er (fun u=>(aB (aA r) u).Lo) (dg ((aA r).map (·.1)))).take z.1) z.2.1 z.2.2.2.2.2)∧(-1≤z.2.2.2.2.2∧z.2.2.2.2.2≤30000000)}) [1,4,29,30] [2,3,5,6,7,8,9,11,12,13,14,15,16,17,18,19] U U (fun z=>[(6,(vS z.1.2.2.2.1 z.1.2.1.length z.1.2.2.2.2.1)),(7,(vI z.1.2.2.2.2.2)),(31,(vI (z.1.1:Int)))]) (fun z=>[(bu (aU p7 z.1.2.1 z.1.2.2.1)),(own z.1.2.2.2.1 z.1.2.2.2.2.1 32 1 (List.zipWith lu z.1.2.1 z.1.2.2.1))]) (fun _=>rfl) (fun _=>rfl) (fun z=>(er (fun u=>(aB (aA r) u).Lo) (dg ((aA r).map (·.1)))).length-z.1.1) ⟨(0,([]:List (List Int)),([]:List RA),none,0,(-1)),H⟩ (aS U) (aI [2,3,5,6,7,8,9,11,12,13,14,15,16,17,18,19,0,1]) ?_
 clear H
 rintro ⟨⟨i,G,gz,a,c,last⟩,⟨b,C,A,d⟩⟩ J37 T
 try dsimp only at b C A d
 try dsimp only
 have Aq:G.length≤12:=by have:=Fq A; omega
 have BH:(G++[([]:List Int)]).length=G.length+1:=by simp
 have A2:(gz++[((none,0):RA)]).length=gz.length+1:=by simp
 refine WS fun _ AD=>rP 1 [] I ?_
 refine RK AD<|ai fun _ AE=>bM U (aQ fun Am=>?_) (aP fun Am=>?_)
 ·refine bw<|ab<|ab<|ay<|KK AA<|ai fun _ AO=>ai fun _ AP=>?_
  have Aq:G.length≤12:=by have:=Fq A; omega
  refine ak<|rP 3 [] I ?_
  refine RK AP<|ax ?_
  have H:(0≤G.length):=by exact Nat.zero_le _
  refine bK (ι:={z:Nat // (z≤G.length)}) [1,6,66,67] [0,1,3,4,5,6,7,8,9,10,11,12,13,14,15,17] U U (fun z=>[(68,(vI (z.1:Int)))]) (fun z=>[(bu (aU p7 (nE G z.1) gz))]) (fun _=>rfl) (fun _=>rfl) (fun z=>G.length-z.1) ⟨0,H⟩ (aS U) (aI [0,1,3,4,5,6,7,8,9,10,11,12,13,14,15,17,16]) ?_
  clear H
  rintro ⟨j,Ah⟩ J65 h
  try dsimp only
  refine WS fun _ AQ=>rP 1 [] I ?_
  refine RK AQ<|ai fun _ AS=>bM U (aQ fun An=>?_) (aP fun An=>?_)
  ·refine bw<|ab<|ab<|ay<|KK AO<|ai fun _ AV=>?_
   have As:G.length≤j:=by omega
   have Y:=uZ A.ok
   rw [List.take_of_length_le om] at Y
   have E:G.map dg=cP r:=tD he (qF Y.1 (qP.trans fB)) Y.2
   have Z:gz.length=(cP r).length:=by rw [← E,List.length_map]; omega
   rw [Ea As,E,← Ir,E]
   refine ak<|a_ 1 U<|rP 2 [] I ?_
   refine RK AV<|ao ?_
   refine LX hQ (gz,a,c) [15,16] [] I U (by show List.all _ _=true; simp only [fG,List.all_nil,IN,Bool.and_true]; rfl) U ?_ ?_
   ·first|rfl|(rw [E]; rfl)|(rw [he,← E,List.length_map]; rfl)|(rw [he,E]; rfl)
   ·exact Z
  refine WK AS<|ai fun _ AT=>ax<|ai fun _ AU=>?_
  obtain ⟨cg,B⟩:=aL G j om
  obtain ⟨cga,D⟩:=aL gz j om
  have F:(List.zipWith lu G gz)[j]? =some (lu cg cga):=dM B D
  refine ED (f:=p7) 16 (GQ B) D U U U ?_
  try dsimp only
  refine ak<|rS (IA j U (ag (n:=G.length) 17 U (k6 C)) pg dc om om)<|rS (gp j 0 (vS cga.1 cg.length cga.2) U b_ (ag (n:=G.length) 17 U (k6 C)) F U dc U)<|a_ 1 U<|RK AU<|ak<|rP 1 [] I ?_
  refine iP 0 U U U U (AJ cg cga.1 cga.2 (by have:=AR A (aT B); omega)) U kd U (fun msrt Ac=>?_)
  try dsimp only
  refine aF<|aG<|KK AT<|ak<|rP 2 [] I ?_
  refine aF ?_
  obtain rfl:=qs Ac.1 Ac.2
  refine N_ (f:=p7) (ms:=nE G j) (m:=dg cg) 1 0 (by rw [DD]; omega) D U U U ?_
  rw [DU B]
  have Aa:(vI (((j+1):Nat):Int))=(vI ((j:Int)+1)):=by exact cI om
  refine aR (h ⟨(j+1),(by first|omega|(simp only []; omega))⟩ _ _ _ U os (cO 4<|bo U Aa<|dw.nil _) (aI [1,2,3,4,5,6,7,8,9,10,11,12,13,14,15,16,0]))
 refine WK AE<|ai fun _ BN=>ax<|WS fun _ AF=>?_
 obtain ⟨x,hx⟩:=aL (er (fun u=>(aB (aA r) u).Lo) (dg ((aA r).map (·.1)))) i om
 have Av:=bH iC hx
 refine rS (IA i U (ag (n:=(er (fun u=>(aB (aA r) u).Lo) (dg ((aA r).map (·.1)))).length) 0 U sm) cv dc om om)<|rS (gp i 0 (vI x) U b_ (ag (n:=(er (fun u=>(aB (aA r) u).Lo) (dg ((aA r).map (·.1)))).length) 0 U sm) Av U dc U)<|a_ 1 U<|RK AF<|WS fun _ AG=>fy 1 [] (mc 2 U I) U<|rS (SX (bI U U) U U)<|rP 2 [] (mc 3 U I) ?_
 have Au:=gP (i:=x) BO
 refine rP 1 [] I ?_
 refine rS (SX (kM (kV:=iV) (x:=x) (l:=(aA r)) (f:=db) (z:=(aa.mk 0 0)) U U U l8 (dK oz) xH (by exact aD 6 U)) U U)<|AL U cZ fun BB=>fO U cp U<|RK AG<|ai fun _ V=>WS fun _ AH=>?_
 rw [show ((List.lookup x (aA r)).getD (aa.mk 0 0))=(aB (aA r) x) from rfl]
 refine rP 4 [] (mc 0 U I) ?_
 refine RK AH<|bM U (aQ fun N=>?_) (aP fun N=>?_)
 ·refine WK V<|ai fun _ AM=>?_
  have BI:1≤G.length:=F5 Au.1 A N
  refine ak<|rP 4 [] I ?_
  refine RK AM<|ai fun _ AN=>?_
  have Ar:(G.length-1)<G.length:=by first|omega|(simp; done)
  obtain ⟨cg,B⟩:=aL G (G.length-1) om
  obtain ⟨cga,D⟩:=aL gz (G.length-1) om
  have F:(List.zipWith lu G gz)[(G.length-1)]? =some (lu cg cga):=dM B D
  refine ED (f:=p7) 17 B D U U U ?_
  try dsimp only
  refine ak<|a_ 4 U<|rS (IA (G.length-1) U (ag (n:=G.length) 19 U (k6 C)) pg dc om om)<|rS (gp (G.length-1) 0 (vS cga.1 cg.length cga.2) U b_ (ag (n:=G.length) 19 U (k6 C)) F U dc U)<|rP 1 [] I ?_
  have Ap:cg.length≤12:=(List.mem_append.1 (show cg∈G++[[]] from by first|exact aT B|exact List.mem_append_left _ (aT B))).elim (fun q=>by have:=AR A q; omega) (fun q=>by simp at q; subst q; simp)
  refine cV (xs:=[.tmp 57]) (cs:=[(vI x)]) U cv ja U U U U (by simp [Value.cells]) U U fun BE=>?_
  refine c_ (es2:=(List.map iC (cg++[x]))) (m':=(cg++[x]).length) 1 U U U pZ U U sm (aZ (es:=List.map iC [x]) 0 U U (by simp [bE]) U) (kb _) os (by first|(simp only [maxLen]; omega)|(simp [maxLen]; omega)) sm sm U fun K M=>?_
  try dsimp only
  refine rS (IA (G.length-1) U (ag (n:=G.length) 20 U (k6 C)) pg dc om om)<|eC (k:=(G.length-1)) (o:=0) (vs:=[(vS K ((cg++[x]).length) M)]) (es':=(List.zipWith lu (G.set (G.length-1) (cg++[x])) (gz.set (G.length-1) (K,M)))) (C':=[_,_,_,_,_,_,_,_,_,_,_,_,_,_,_,_,_,_,_,_,(own a c 32 1 (List.zipWith lu (G.set (G.length-1) (cg++[x])) (gz.set (G.length-1) (K,M))))]) 20 U U U Ai U U U U F U dc (by exact qB (c:=lu) (m:=(cg++[x])) (a:=(K,M))) U<|Gh (f:=p7) (ms:=G) (asl:=gz) (m:=(cg++[x])) (a:=(K,M)) 2 1 om om U U U<|RK AN<|ak<|fy 3 [] (mc 2 U I) U<|rS (MX U)<|a_ 1 U<|aF<|aG<|KK BN<|ak<|rP 2 [] I ?_
  refine aF ?_
  have AY:(vS a ((G.set (G.length-1) (cg++[x])).length) c)=(vS a G.length c):=by rw [List.length_set]
  have AZ:(vI (((i+1):Nat):Int))=(vI ((i:Int)+1)):=by exact cI om
  refine aR (T ⟨((i+1),(G.set (G.length-1) (cg++[x])),(gz.set (G.length-1) (K,M)),a,c,(max last ((aB (aA r) x).Hi))),⟨om,by simp; omega,by first|exact pk om hx B A N|exact oi om (fun u _=>(gP (i:=u) BO).2.1) Ad hx B A N,dso⟩⟩ _ _ _ U os (cO 4<|bo U AY<|dw.cons U<|bo U AZ<|dw.nil _) (aI [3,4,5,6,7,8,9,10,11,12,13,14,15,16,17,18,0,19]))
 refine ak<|rP 1 [] I ?_
 refine cV (xs:=[.const (vS none 0 0)]) (cs:=[(vS none 0 0)]) U pg vu U U U U (by simp [Value.cells]) U U fun BC=>?_
 refine c_ (es2:=(List.zipWith lu (G++[[]]) (gz++[(none,0)]))) (m':=(G++[[]]).length) 19 rfl rfl rfl U_ rfl rfl (k6 C).symm (aZ (es:=List.zipWith lu [[]] [(none,0)]) 0 rfl rfl (by intro e he; simp [lu] at he; subst he; rfl) rfl) (Oq _ _) om (by simp only [maxLen]; omega) (GB om) (by simp; omega) rfl fun P S=>?_
 try dsimp only
 refine dH 3 1<|Qe (Y':=aU p7 (G++[[]]) (gz++[(none,0)])) 19 0 U U (En om U)<|a_ 1 U<|RK V<|WS fun _ AI=>rP 4 [] I ?_
 refine RK AI<|ai fun _ AK=>?_
 have Ar:((G++[[]]).length-1)<(G++[[]]).length:=by first|omega|(simp; done)
 obtain ⟨cg,B⟩: ∃ y_,(G++[[]])[((G++[[]]).length-1)]? =some y_:=⟨(G++[[]])[((G++[[]]).length-1)]'om,e8 _⟩
 obtain ⟨cga,D⟩: ∃ y_,(gz++[(none,0)])[((G++[[]]).length-1)]? =some y_:=⟨(gz++[(none,0)])[((G++[[]]).length-1)]'om,e8 _⟩
 have F:(List.zipWith lu (G++[[]]) (gz++[(none,0)]))[((G++[[]]).length-1)]? =some (lu cg cga):=dM B D
 refine ED (f:=p7) 0 B D U U U ?_
 try dsimp only
 refine ak<|rP 4 [] I ?_
 refine rS (IA ((G++[[]]).length-1) U (ag (n:=(G++[[]]).length) 20 U (k6 (by simp; omega))) pg dc om om) ?_
 refine rS (gp ((G++[[]]).length-1) 0 (vS cga.1 cg.length cga.2) U b_ (ag (n:=(G++[[]]).length) 20 U (k6 (by simp; omega))) F U dc U) ?_
 refine rP 1 [] I ?_
 have Ap:cg.length≤12:=(List.mem_append.1 (show cg∈G++[[]] from by first|exact aT B|exact List.mem_append_left _ (aT B))).elim (fun q=>by have:=AR A q; omega) (fun q=>by simp at q; subst q; simp)
 refine cV (xs:=[.tmp 57]) (cs:=[(vI x)]) U cv ja U U U U (by simp [Value.cells]) U U fun BD=>?_
 refine c_ (es2:=(List.map iC (cg++[x]))) (m':=(cg++[x]).length) 1 U U U pZ U U sm (aZ (es:=List.map iC [x]) 0 U U (by simp [bE]) U) (kb _) os (by first|(simp only [maxLen]; omega)|(simp [maxLen]; omega)) sm sm U fun J L=>?_
 try dsimp only
 refine rS (IA ((G++[[]]).length-1) U (ag (n:=(G++[[]]).length) 21 U (k6 (by simp; omega))) pg dc om om) ?_
 refine eC (k:=((G++[[]]).length-1)) (o:=0) (vs:=[(vS J ((cg++[x]).length) L)]) (es':=(List.zipWith lu ((G++[[]]).set ((G++[[]]).length-1) (cg++[x])) ((gz++[(none,0)]).set ((G++[[]]).length-1) (J,L)))) (C':=[_,_,_,_,_,_,_,_,_,_,_,_,_,_,_,_,_,_,_,_,_,(own P S 32 1 (List.zipWith lu ((G++[[]]).set ((G++[[]]).length-1) (cg++[x])) ((gz++[(none,0)]).set ((G++[[]]).length-1) (J,L))))]) 21 U U U Ai U U U U F U dc (by exact qB (c:=lu) (m:=(cg++[x])) (a:=(J,L))) U<|Gh (f:=p7) (ms:=(G++[[]])) (asl:=(gz++[(none,0)])) (m:=(cg++[x])) (a:=(J,L)) 2 1 om om U U U<|RK AK<|ak<|fy 3 [] (mc 3 U I) U<|rS (MX U)<|a_ 1 U<|aF<|aG<|KK BN<|ak<|rP 2 [] I ?_
 refine aF ?_
 have AW:(vS P (((G++[[]]).set ((G++[[]]).length-1) (cg++[x])).length) S)=(vS P ((G++[[]]).length) S):=by rw [List.length_set]
 have AX:(vI (((i+1):Nat):Int))=(vI ((i:Int)+1)):=by exact cI om
 refine aR (T ⟨((i+1),((G++[[]]).set ((G++[[]]).length-1) (cg++[x])),((gz++[(none,0)]).set ((G++[[]]).length-1) (J,L)),P,S,(max last ((aB (aA r) x).Hi))),⟨om,by simp; omega,by first|exact pk om hx B A N|exact oi om (fun u _=>(gP (i:=u) BO).2.1) Ad hx B A N,dso⟩⟩ _ _ _ U os (cO 4<|bo U AW<|dw.cons U<|bo U AX<|dw.nil _) (aI [4,5,6,7,8,9,10,11,12,13,14,15,16,17,18,19,0,20]))
end
section
structure DS (w w':bO):Prop where
 start:w'.Start=w.Start
 now:w.f_≤w'.f_
 n:w'.n=w.n
 least: ∀ b,bQ w' b≤bQ w b
 times:w'.vq=w.vq
 PG:w.cQ≤w'.cQ
 Sy:w.eM≤w'.eM
 sigs:w'.QU=w.QU
variable {w w':bO}
theorem DS.opt (h:DS w w') {b:Nat} {o:Int×aa} (ho:o∈il w b): ∃ o'∈il w' b,o'.1=o.1∧o'.2.Lo≤o.2.Lo∧o.2.Hi≤o'.2.Hi:=by
 unfold il at ho
 rcases List.mem_cons.1 ho with rfl|ho
 ·exact ⟨(-1,⟨w'.Start,w'.f_⟩),cf ..,U,by simp only [h.start]; omega,h.now⟩
 ·refine ⟨o,cS _ ?_,U,Int.le_refl _,Int.le_refl _⟩
  unfold s8 at ho ⊢; rw [h.times]; exact ho
theorem DS.may (h:DS w w') {t:aC} (ht:ku w t=true):ku w' t=true:=by
 unfold ku at ht ⊢
 have:=of_decide_eq_true ht
 have A:=h.PG
 have B:=h.Sy
 have C:=h.sigs
 exact fI om
theorem DS.fwd (h:DS w w'): ∀ (b:Nat) (p:aC×Int),p∈fwd w b→ ∃ p'∈Go.Proofs.YtadjgjnicdcjbaaGreatDoor.fwd w' b,p'.1=p.1∧p'.2≤p.2:=by
 intro b
 induction b with
 |zero=>
  intro p hp
  simp only [Go.Proofs.YtadjgjnicdcjbaaGreatDoor.fwd,bR] at hp ⊢
  subst hp
  exact ⟨_,U,U,by simp only [h.start]; omega⟩
 |succ b ih=>
  intro q hq
  obtain ⟨p,hp,o,ho,e⟩:=fK.1 hq
  obtain ⟨p',hp',A,D⟩:=ih p hp
  obtain ⟨o',ho',B,E,F⟩:=h.opt ho
  have hl:=h.least b
  have hn:=h.now
  unfold kH at e
  split at e
  ·rename_i C
   simp only [Option.some.injEq] at e
   subst e
   refine ⟨(dj p'.1 (fh o'.1),max (p'.2+bQ w' b) o'.2.Lo),fK.2 ⟨p',hp',o',ho',by unfold kH; rw [if_pos om]⟩,by simp only [A,B],by simp only; omega⟩
  ·cases e
theorem DS.bwd (h:DS w w'): ∀ (k:Nat) (p:aC×Int),p∈bwd w k→ ∃ p'∈Go.Proofs.YtadjgjnicdcjbaaGreatDoor.bwd w' k,p'.1=p.1∧p.2≤p'.2:=by
 intro k
 induction k with
 |zero=>
  intro p hp
  simp only [Go.Proofs.YtadjgjnicdcjbaaGreatDoor.bwd,bR] at hp ⊢
  subst hp
  exact ⟨_,U,U,h.now⟩
 |succ k ih=>
  intro q hq
  simp only [Go.Proofs.YtadjgjnicdcjbaaGreatDoor.bwd,ed,List.mem_flatMap,List.mem_filterMap] at hq ⊢
  rcases hq with rfl|⟨p,hp,o,ho,e⟩
  ·exact ⟨_,.inl U,U,h.now⟩
  ·obtain ⟨p',hp',A,D⟩:=ih p hp
   obtain ⟨o',ho',B,E,F⟩:=h.opt ho
   have hl:=h.least (w.n-(k+1))
   rw [h.n]
   unfold nP at e
   split at e
   ·rename_i C
    simp only [Option.some.injEq] at e
    subst e
    exact ⟨(dj p'.1 (fh o'.1),min p'.2 o'.2.Hi-bQ w' (w.n-(k+1))),.inr ⟨p',hp',o',ho',by unfold nP; rw [if_pos om]⟩,by simp only [A,B],by simp only; omega⟩
   ·cases e
theorem DS.back (h:DS w w') {b:Nat} {p:aC×Int} (hp:p∈back w b): ∃ p'∈Go.Proofs.YtadjgjnicdcjbaaGreatDoor.back w' b,p'.1=p.1∧p.2≤p'.2:=by
 unfold Go.Proofs.YtadjgjnicdcjbaaGreatDoor.back at hp ⊢
 rw [h.n]
 exact h.bwd _ p hp
theorem DS.pass (h:DS w w') {b:Nat} {q:Int×aa} (hq:q∈mg w b): ∃ q'∈mg w' b,q'.1=q.1∧q'.2.Lo≤q.2.Lo∧q.2.Hi≤q'.2.Hi:=by
 obtain ⟨o,ho,p,hp,u,hu,e⟩:=hO.1 hq
 obtain ⟨D,E,rfl⟩:=jl.1 e
 obtain ⟨o',ho',A,F,G⟩:=h.opt ho
 obtain ⟨p',hp',B,H⟩:=h.fwd _ p hp
 obtain ⟨u',hu',C,AA⟩:=h.back hu
 have hl:=h.least b
 simp only [jm] at D
 refine ⟨(o'.1,jm w' b p' u' o'),hO.2 ⟨o',ho',p',hp',u',hu',jl.2 ⟨?_,?_,U⟩⟩,A,?_,?_⟩
 ·simp only [jm]; omega
 ·have:=h.may E
  unfold xn at this ⊢
  rw [A,B,C]; exact this
 ·simp only [jm]; omega
 ·simp only [jm]; omega
theorem o2 {k:Int}:k∈jy w↔ ∃ i:Nat,k=(i:Int)∧i≤w.n∧jk w (fwd w i)=true:=by
 unfold jy j7
 simp only [sZ,List.mem_filter,List.mem_range]
 constructor
 ·rintro ⟨i,⟨B,A⟩,rfl⟩; exact ⟨i,rfl,om,A⟩
 ·rintro ⟨i,rfl,B,A⟩; exact ⟨i,⟨om,A⟩,rfl⟩
theorem DS.Hh (h:DS w w') {k:Int} (hk:k∈jy w):k∈jy w':=by
 obtain ⟨i,rfl,C,A⟩:=o2.1 hk
 refine o2.2 ⟨i,U,by rw [h.n]; exact C,?_⟩
 unfold jk at A ⊢
 obtain ⟨p,hp,D⟩:=List.any_eq_true.1 A
 obtain ⟨p',hp',B,_⟩:=h.fwd _ p hp
 exact List.any_eq_true.2 ⟨p',hp',by rw [B]; exact h.may D⟩
/-- two rides, of two lines, of which one allows more -/
structure TS (l:aX) (r:cx) (l':aX) (r':cx):Prop where
 line:dp l=0
 line':dp l'=0
 yg:ff l r
 ride':ff l' r'
 w:DS (ck l r) (ck l' r')
 OU:l'.ae.length=l.ae.length
variable {l l':aX} {r r':cx}
theorem TS.ok (h:TS l r l' r') (he:eA l r 0=0):eA l' r' 0=0:=by
 refine lR h.line' h.ride' U fun e=>?_
 obtain ⟨k,hk⟩:=List.exists_mem_of_ne_nil _ (jH he).2.2.2
 have:=h.w.Hh hk
 rw [e] at this; cases this
theorem TS.AU (h:TS l r l' r') {k:Int} (hk:k∈kX l r):k∈kX l' r':=by
 by_cases he:eA l r 0=0
 ·rw [lT he] at hk
  rw [lT (h.ok he)]
  exact h.w.Hh hk
 ·rw [uD he] at hk; cases hk
theorem GW {b:Nat} (hb:b<l.ae.length):eA l r (ju l b)=eA l r 0:=by rw [wJ om]
theorem zC {b:Nat}:bQ (ck l r) b=if b<l.ae.length then dR l b else 0:=by
 unfold bQ ck cG
 split
 ·rename_i h
  simp [h]
 ·rename_i h
  simp [h]
theorem HF {sg:List aM} {i:Nat} (h:i=0):mG sg i=⟨-1,0⟩:=by subst h; rfl
theorem q7 {sg:List aM} {i:Nat} {y:aM} (h:0<i) (hy:sg[i-1]? =some y):mG sg i=y:=by unfold mG; rw [if_neg om,hy]; rfl
def P6 (l:aX):Prop:= ¬ mF l∧dp l=0
noncomputable instance (l:aX):Decidable (P6 l):=Classical.propDecidable _
end
section
/-- where a sled may be after k beams more -/
def fT (w:bO):Nat→Nat→aC×Int→List (aC×Int)
 |0,_,p=>[p]
 |k+1,b,p=>(il w b).flatMap fun o=>match kH w b p o with
  |some q=>fT w k (b+1) q
  |none=>[]
variable {w:bO}
theorem hP {k b:Nat} {p q:aC×Int}:q∈fT w (k+1) b p↔ ∃ o∈il w b,∃ p',kH w b p o=some p'∧q∈fT w k (b+1) p':=by
 simp only [fT,List.mem_flatMap]
 constructor
 ·rintro ⟨o,ho,h⟩
  cases e:kH w b p o with
  |none=>rw [e] at h; cases h
  |some p'=>rw [e] at h; exact ⟨o,ho,p',e,h⟩
 ·rintro ⟨o,ho,p',e,h⟩
  exact ⟨o,ho,by rw [e]; exact h⟩
theorem qR: ∀ (k b:Nat) (q:aC×Int),q∈fwd w (b+k)↔ ∃ p∈fwd w b,q∈fT w k b p:=by
 intro k
 induction k with
 |zero=>
  intro b q
  simp only [Nat.add_zero,fT,bR]
  exact ⟨fun h=>⟨q,h,rfl⟩,fun ⟨p,hp,e⟩=>e▸hp⟩
 |succ k ih=>
  intro b q
  rw [show b+(k+1)=(b+1)+k by omega,ih]
  constructor
  ·rintro ⟨p',hp',h⟩
   obtain ⟨p,hp,o,ho,e⟩:=fK.1 hp'
   exact ⟨p,hp,hP.2 ⟨o,ho,p',e,h⟩⟩
  ·rintro ⟨p,hp,h⟩
   obtain ⟨o,ho,p',e,h'⟩:=hP.1 h
   exact ⟨p',fK.2 ⟨p,hp,o,ho,e⟩,h'⟩
theorem gJ {b:Nat} {p q:aC×Int} {o:Int×aa}:kH w b p o=some q↔max (p.2+bQ w b) o.2.Lo≤min o.2.Hi w.f_∧q=(dj p.1 (fh o.1),max (p.2+bQ w b) o.2.Lo):=by
 unfold kH
 split
 ·rename_i h
  constructor
  ·intro e; cases e; exact ⟨h,rfl⟩
  ·rintro ⟨_,rfl⟩; rfl
 ·rename_i h
  constructor
  ·intro e; cases e
  ·rintro ⟨h',_⟩; exact absurd h' h
theorem ua {b:Nat} {p q:aC×Int} {o:Int×aa}:nP w b p o=some q↔o.2.Lo≤min p.2 o.2.Hi∧q=(dj p.1 (fh o.1),min p.2 o.2.Hi-bQ w b):=by
 unfold nP
 split
 ·rename_i h
  constructor
  ·intro e; cases e; exact ⟨h,rfl⟩
  ·rintro ⟨_,rfl⟩; rfl
 ·rename_i h
  constructor
  ·intro e; cases e
  ·rintro ⟨h',_⟩; exact absurd h' h
theorem HD {b:Nat} (hb:b≤w.n):((⟨0,0⟩:aC),w.f_)∈back w b:=by
 rcases Nat.lt_or_ge b w.n with h|h
 ·exact (oI h).2 (.inl U)
 ·rw [uI h]; simp
theorem mS (t:aC):dj t ⟨0,0⟩=t:=by cases t; simp [dj]
theorem yv (a o u:aC):dj (dj a o) u=dj a (dj u o):=by simp only [dj,aC.mk.injEq]; omega
theorem Fm (hl: ∀ b,0≤bQ w b): ∀ (k:Nat) (u:aC×Int),u∈bwd w k→u.2≤w.f_:=by
 intro k
 induction k with
 |zero=>intro u hu; simp only [bwd,bR] at hu; subst hu; exact Int.le_refl _
 |succ k ih=>
  intro u hu
  simp only [bwd,ed,List.mem_flatMap,List.mem_filterMap] at hu
  rcases hu with rfl|⟨p,hp,o,ho,e⟩
  ·exact Int.le_refl _
  ·obtain ⟨_,rfl⟩:=ua.1 e
   have:=ih p hp
   have:=hl (w.n-(k+1))
   simp only; omega
/-- what follows a passing is told by the way back -/
theorem N0: ∀ (k b:Nat) (p q:aC×Int),b+k≤w.n→p.2≤w.f_→q∈fT w k b p→ ∃ u∈back w b,p.2≤u.2∧q.1=dj p.1 u.1:=by
 intro k
 induction k with
 |zero=>
  intro b p q hb hp hq
  simp only [fT,bR] at hq
  subst hq
  exact ⟨_,HD om,hp,(mS _).symm⟩
 |succ k ih=>
  intro b p q hb hp hq
  obtain ⟨o,ho,p',e,h⟩:=hP.1 hq
  obtain ⟨C,rfl⟩:=gJ.1 e
  obtain ⟨u',hu',B,A⟩:=ih (b+1) _ q om (by simp only; omega) h
  simp only at B A
  refine ⟨(dj u'.1 (fh o.1),min u'.2 o.2.Hi-bQ w b),(oI om).2 (.inr ⟨u',hu',o,ho,ua.2 ⟨om,U⟩⟩),by simp only; omega,?_⟩
  rw [A,yv]
theorem Jc (hl: ∀ b,0≤bQ w b): ∀ (d b:Nat) (p u:aC×Int),w.n=b+d→p.2≤u.2→u∈back w b→ ∃ k,b+k≤w.n∧ ∃ q∈fT w k b p,q.1=dj p.1 u.1:=by
 intro d
 induction d with
 |zero=>
  intro b p u hd hp hu
  rw [uI om] at hu
  simp only [bR] at hu
  subst hu
  exact ⟨0,om,p,by simp [fT],(mS _).symm⟩
 |succ d ih=>
  intro b p u hd hp hu
  rcases (oI om).1 hu with rfl|⟨u',hu',o,ho,e⟩
  ·exact ⟨0,om,p,by simp [fT],(mS _).symm⟩
  ·obtain ⟨B,rfl⟩:=ua.1 e
   have hn:u'.2≤w.f_:=Fm hl _ _ hu'
   simp only at hp
   obtain ⟨k,hk,q,hq,A⟩:=ih (b+1) (dj p.1 (fh o.1),max (p.2+bQ w b) o.2.Lo) u' om (by simp only; omega) hu'
   refine ⟨k+1,om,q,hP.2 ⟨o,ho,_,gJ.2 ⟨om,U⟩,hq⟩,?_⟩
   rw [A]; simp only; rw [yv]
end
section
section
variable {l:aX} {r:cx} {one at_:Int} {d:Nat} {f g m:Int} {rec:Int→Int→Int→Bool} {i:Int}
end
theorem qj {l:aX} {r:cx} {d:Nat} (hd:d<l.ae.length) {o:Int×aa}:o∈il (ck l r) d↔o=(-1,⟨r.Start,r.f_⟩)∨ ∃ k,k<r.ah.length∧ ∃ s,r.ah[k]? =some s∧(s.gf=(d:Int)∧(cz l s).Lo≤(cz l s).Hi)∧o=((k:Int),cz l s):=by
 unfold il s8
 show o∈(-1,(⟨r.Start,r.f_⟩:aa))::((dT l r.ah r.ah.length)[d]?).getD []↔_
 rw [oK hd,Option.getD_some,ed,rX]
theorem pw {l:aX} {r:cx} {d:Nat} (hd:d<l.ae.length):bQ (ck l r) d=dR l d:=by rw [zC,if_pos hd]
theorem ui {l:aX} {n d:Nat} {y:Int} (h:(cG l n)[d]? =some y):y=dR l d:=by
 unfold cG at h
 rw [fw] at h
 have hd:d<n:=by
  rcases Nat.lt_or_ge d n with q|q
  ·exact q
  ·rw [List.getElem?_eq_none (by simpa using q)] at h; cases h
 rw [List.getElem?_range hd] at h
 exact (Option.some.inj h).symm
end
section
def QS (w:bO) (b:Nat) (i:Int):Prop:= ∃ b',b'<b∧ ∃ q∈mg w b',q.1=i
noncomputable instance (w:bO) (b:Nat) (i:Int):Decidable (QS w b i):=Classical.propDecidable _
def v_ (w:bO) (b:Nat):Bool:=(mg w b).any fun q=>decide (0≤q.1)
def Au (w:bO) (k:Nat):List Int:=((List.range k).filter fun b=> !v_ w b).map fun (b:Nat)=>(b:Int)
noncomputable def vL (l:aX) (r:cx):List Int:=if eA l r 0=0 then Au (ck l r) (wF (kX l r)).toNat else []
theorem w8 {l:aX} {r:cx} (h:eA l r 0=0):vL l r=Au (ck l r) (wF (kX l r)).toNat:=if_pos h
theorem x_ {l:aX} {r:cx} (h: ¬ eA l r 0=0):vL l r=[]:=if_neg h
theorem RN {l:aX} {r:cx} (h:eA l r 0=0):0≤wF (kX l r)∧wF (kX l r)≤(l.ae.length:Int):=by
 have A:=(Gq (uM h)).1
 rw [lT h] at A ⊢
 obtain ⟨i,e,hi,_⟩:=o2.1 A
 have hn:(ck l r).n=l.ae.length:=dW
 omega
end
section
/-- a truth goes on from here -/
def sv (w:bO) (b:Nat) (p:aC×Int):Prop:= ∃ k,b+k≤w.n∧ ∃ q∈fT w k b p,ku w q.1=true
/-- a truth may have come here, or earlier -/
def Df (w:bO) (b:Nat) (p:aC×Int):Prop:= ∃ v,(p.1,v)∈fwd w b∧v≤p.2
def Is (n:Int) (p:aC×Int):aC×Int:=(p.1,p.2+n)
section
variable {w:bO}
theorem G5: ∀ (k j b:Nat) (p q z:aC×Int),q∈fT w k b p→z∈fT w j (b+k) q→z∈fT w (k+j) b p:=by
 intro k
 induction k with
 |zero=>
  intro j b p q z A B
  simp only [fT,bR] at A
  subst A
  rw [Nat.zero_add]; exact B
 |succ k ih=>
  intro j b p q z A B
  obtain ⟨o,ho,p',e,h⟩:=hP.1 A
  rw [show k+1+j=(k+j)+1 by omega]
  exact hP.2 ⟨o,ho,p',e,ih j (b+1) p' q z h (by rw [show b+1+k=b+(k+1) by omega]; exact B)⟩
theorem CC: ∀ (k b:Nat) (t:aC) (x y:Int) (q:aC×Int),y≤x→q∈fT w k b (t,x)→ ∃ q'∈fT w k b (t,y),q'.1=q.1∧q'.2≤q.2:=by
 intro k
 induction k with
 |zero=>
  intro b t x y q A hq
  simp only [fT,bR] at hq ⊢
  subst hq
  exact ⟨_,U,U,A⟩
 |succ k ih=>
  intro b t x y q A hq
  obtain ⟨o,ho,p',e,h⟩:=hP.1 hq
  obtain ⟨B,rfl⟩:=gJ.1 e
  simp only at B h
  obtain ⟨q',hq',C,D⟩:=ih (b+1) _ _ (max (y+bQ w b) o.2.Lo) q om h
  exact ⟨q',hP.2 ⟨o,ho,_,gJ.2 ⟨by simp only; omega,U⟩,hq'⟩,C,D⟩
theorem wV {b:Nat} {t:aC} {x y:Int} (h:sv w b (t,x)) (hy:y≤x):sv w b (t,y):=by
 obtain ⟨k,hk,q,hq,hm⟩:=h
 obtain ⟨q',hq',e,_⟩:=CC k b t x y q hy hq
 exact ⟨k,hk,q',hq',by rw [e]; exact hm⟩
theorem uc {k b:Nat} {p q:aC×Int} (h:q∈fT w k b p) (hv:sv w (b+k) q):sv w b p:=by
 obtain ⟨j,hj,z,hz,hm⟩:=hv
 exact ⟨k+j,om,z,G5 k j b p q z h hz,hm⟩
theorem HP {b:Nat} {p q:aC×Int} {o:Int×aa} (h:Df w b p) (ho:o∈il w b) (e:kH w b p o=some q):Df w (b+1) q:=by
 obtain ⟨v,hv,A⟩:=h
 obtain ⟨B,rfl⟩:=gJ.1 e
 exact ⟨max (v+bQ w b) o.2.Lo,fK.2 ⟨_,hv,o,ho,gJ.2 ⟨by simp only; omega,U⟩⟩,by simp only; omega⟩
theorem Cb {b:Nat} {p:aC×Int} (h:p∈fwd w b):Df w b p:=⟨p.2,h,Int.le_refl _⟩
theorem yM (hl: ∀ b,0≤bQ w b): ∀ (b:Nat) (p:aC×Int),p∈fwd w b→w.Start≤p.2:=by
 intro b
 induction b with
 |zero=>intro p hp; simp only [fwd,bR] at hp; subst hp; exact Int.le_refl _
 |succ b ih=>
  intro q hq
  obtain ⟨p,hp,o,ho,e⟩:=fK.1 hq
  obtain ⟨_,rfl⟩:=gJ.1 e
  have:=ih p hp
  have:=hl b
  simp only; omega
/-- a beam is passed at a time, by a signal -/
def wH (w:bO) (b:Nat) (s t:Int):Prop:= ∃ p∈fwd w b,∃ o∈il w b,o.1=s∧(max (p.2+bQ w b) o.2.Lo≤t∧t≤min o.2.Hi w.f_)∧sv w (b+1) (dj p.1 (fh o.1),t)
theorem AA (hl: ∀ b,0≤bQ w b) {b:Nat} (hb:b<w.n) {s t:Int}:(∃ q∈mg w b,q.1=s∧q.2.Lo≤t∧t≤q.2.Hi)↔wH w b s t:=by
 constructor
 ·rintro ⟨q,hq,hs,C,D⟩
  obtain ⟨o,ho,p,hp,u,hu,e⟩:=hO.1 hq
  obtain ⟨B,A,rfl⟩:=jl.1 e
  simp only [jm] at C D B
  have hn:u.2≤w.f_:=Fm hl _ _ hu
  obtain ⟨k,hk,q,hq',E⟩:=Jc hl (w.n-(b+1)) (b+1) (dj p.1 (fh o.1),t) u om (by simp only; omega) hu
  refine ⟨p,hp,o,ho,hs,⟨om,om⟩,k,hk,q,hq',?_⟩
  rw [E]
  unfold xn at A
  rw [show dj (dj p.1 (fh o.1)) u.1=dj (dj p.1 u.1) (fh o.1) by simp only [dj,aC.mk.injEq]; omega]
  exact A
 ·rintro ⟨p,hp,o,ho,hs,⟨C,D⟩,k,hk,q,hq,hm⟩
  obtain ⟨u,hu,B,A⟩:=N0 k (b+1) _ q hk (by simp only; omega) hq
  simp only at B A
  refine ⟨(o.1,jm w b p u o),hO.2 ⟨o,ho,p,hp,u,hu,jl.2 ⟨by simp only [jm]; omega,?_,U⟩⟩,hs,by simp only [jm]; omega,by simp only [jm]; omega⟩
  unfold xn
  rw [A] at hm
  rw [show dj (dj p.1 u.1) (fh o.1)=dj (dj p.1 (fh o.1)) u.1 by simp only [dj,aC.mk.injEq]; omega]
  exact hm
end
structure yk (w w':bO) (n:Int) (f:Int→Int):Prop where
 start:w'.Start=w.Start+n
 now:w'.f_=w.f_+n
 wn:w'.n=w.n
 low: ∀ b,0≤bQ w b
 least: ∀ b,bQ w' b=bQ w b
 may: ∀ t,ku w t=true→ku w' t=true
 Uh: ∀ s,0≤f s↔0≤s
 opt: ∀ (b:Nat) (p:aC×Int) (o:Int×aa),b<w.n→w.Start≤p.2→Df w b p→o∈il w b→max (p.2+bQ w b) o.2.Lo≤min o.2.Hi w.f_→sv w (b+1) (dj p.1 (fh o.1),max (p.2+bQ w b) o.2.Lo)→
  ∃ o'∈il w' b,o'.1=f o.1∧ ∀ t,w.Start≤t→t≤w.f_→((o.2.Lo≤t∧t≤o.2.Hi)↔(o'.2.Lo≤t+n∧t+n≤o'.2.Hi))
section
variable {w w':bO} {n:Int} {f g:Int→Int}
theorem yk.one (h:yk w w' n f) (s:Int):fh (f s)=fh s:=by
 unfold fh
 have:=h.Uh s
 by_cases q:s<0
 ·rw [if_pos q,if_pos om]
 ·rw [if_neg q,if_neg om]
theorem yk.step (h:yk w w' n f) {b:Nat} {p q:aC×Int} {o:Int×aa} (hb:b<w.n) (hs:w.Start≤p.2) (hl:Df w b p) (ho:o∈il w b) (e:kH w b p o=some q) (hv:sv w (b+1) q):
 ∃ o'∈il w' b,kH w' b (Is n p) o'=some (Is n q):=by
 obtain ⟨E,rfl⟩:=gJ.1 e
 obtain ⟨o',ho',D,A⟩:=h.opt b p o hb hs hl ho E hv
 have F:=h.low b
 have B:=A (max (p.2+bQ w b) o.2.Lo) om om
 have C:=A (max (p.2+n+bQ w b) o'.2.Lo-n) om
 refine ⟨o',ho',gJ.2 ?_⟩
 simp only [Is,h.least,h.now]
 rw [D,h.one]
 have G:=B.1 om
 have H:=(C om).2 om
 refine ⟨om,?_⟩
 simp only [Prod.mk.injEq,true_and]
 omega
theorem yk.reach (h:yk w w' n f): ∀ (k b:Nat) (p q:aC×Int),b+k≤w.n→w.Start≤p.2→Df w b p→q∈fT w k b p→sv w (b+k) q→Is n q∈fT w' k b (Is n p):=by
 intro k
 induction k with
 |zero=>
  intro b p q _ _ _ hq _
  simp only [fT,bR] at hq ⊢
  rw [hq]
 |succ k ih=>
  intro b p q hb hs hl hq hv
  obtain ⟨o,ho,p',e,hq'⟩:=hP.1 hq
  have hv':sv w (b+1) p':=uc hq' (by rw [show b+1+k=b+(k+1) by omega]; exact hv)
  obtain ⟨o',ho',e'⟩:=h.step om hs hl ho e hv'
  have A:=gJ.1 e
  have B:=h.low b
  exact hP.2 ⟨o',ho',_,e',ih (b+1) p' q om (by rw [A.2]; simp only; omega) (HP hl ho e) hq' (by rw [show b+1+k=b+(k+1) by omega]; exact hv)⟩
theorem yk.Qp (h:yk w w' n f) {b:Nat} {p:aC×Int} (hs:w.Start≤p.2) (hl:Df w b p) (hv:sv w b p):sv w' b (Is n p):=by
 obtain ⟨k,hk,q,hq,hm⟩:=hv
 exact ⟨k,by rw [h.wn]; exact hk,_,h.reach k b p q hk hs hl hq ⟨0,om,q,by simp [fT],hm⟩,h.may _ hm⟩
theorem yk.fwd (h:yk w w' n f) {b:Nat} {q:aC×Int} (hb:b≤w.n) (hq:q∈fwd w b) (hv:sv w b q):Is n q∈Go.Proofs.YtadjgjnicdcjbaaGreatDoor.fwd w' b:=by
 obtain ⟨p,hp,hr⟩:=(qR b 0 q).1 (by rw [Nat.zero_add]; exact hq)
 have hr':=h.reach b 0 p q om (yM h.low 0 p hp) (Cb hp) hr (by rw [Nat.zero_add]; exact hv)
 have:Is n p∈Go.Proofs.YtadjgjnicdcjbaaGreatDoor.fwd w' 0:=by
  simp only [Go.Proofs.YtadjgjnicdcjbaaGreatDoor.fwd,bR] at hp ⊢
  subst hp
  rw [h.start]; rfl
 have A:=(qR b 0 (Is n q)).2 ⟨_,this,hr'⟩
 rwa [Nat.zero_add] at A
theorem yk.any (h:yk w w' n f) {b:Nat} (hb:b≤w.n) (hm:jk w (Go.Proofs.YtadjgjnicdcjbaaGreatDoor.fwd w b)=true):jk w' (Go.Proofs.YtadjgjnicdcjbaaGreatDoor.fwd w' b)=true:=by
 unfold jk at hm ⊢
 obtain ⟨p,hp,A⟩:=List.any_eq_true.1 hm
 exact List.any_eq_true.2 ⟨_,h.fwd hb hp ⟨0,om,p,by simp [fT],A⟩,h.may _ A⟩
theorem yk.pass (h:yk w w' n f) {b:Nat} (hb:b<w.n) {s t:Int} (hp:wH w b s t):wH w' b (f s) (t+n):=by
 obtain ⟨p,hp,o,ho,rfl,⟨D,G⟩,hv⟩:=hp
 have hs:=yM h.low b p hp
 have hl:=h.low b
 have A:sv w (b+1) (dj p.1 (fh o.1),max (p.2+bQ w b) o.2.Lo):=wV hv D
 have e:kH w b p o=some (dj p.1 (fh o.1),max (p.2+bQ w b) o.2.Lo):=gJ.2 ⟨om,rfl⟩
 have B:sv w b p:=uc (k:=1) (hP.2 ⟨o,ho,_,e,by simp [fT]⟩) A
 obtain ⟨o',ho',C,E⟩:=h.opt b p o hb hs (Cb hp) ho om A
 have c:=(E t om om).1 om
 refine ⟨Is n p,h.fwd om hp B,o',ho',C,?_,?_⟩
 ·simp only [Is,h.least,h.now]; omega
 ·have F:=h.Qp (b:=b+1) (p:=(dj p.1 (fh o.1),t)) (by simp only; omega) ⟨_,fK.2 ⟨p,hp,o,ho,e⟩,D⟩ hv
  rw [C,h.one]; exact F
theorem JE (h:yk w w' n f) (h':yk w' w (-n) g):jy w'=jy w:=by
 unfold jy
 rw [h.wn]
 unfold j7
 congr 1
 refine List.filter_congr fun b hb=>?_
 have hb:=List.mem_range.1 hb
 rw [Bool.eq_iff_iff]
 exact ⟨h'.any (by rw [h.wn]; omega),h.any om⟩
theorem Cg (h:yk w w' n f) (hl': ∀ b,0≤bQ w' b) {b:Nat} (hb:b<w.n) {s:Int} (hq: ∃ q∈mg w b,q.1=s): ∃ q∈mg w' b,q.1=f s:=by
 obtain ⟨q,hq,e⟩:=hq
 have A:q.2.Lo≤q.2.Hi:=mK hq
 obtain ⟨q',hq',e',_⟩:=(AA hl' (by rw [h.wn]; exact hb)).2 (h.pass hb ((AA h.low hb).1 ⟨q,hq,e,Int.le_refl _,A⟩))
 exact ⟨q',hq',e'⟩
theorem H0 (h:yk w w' n f) (h':yk w' w (-n) g) {b:Nat} (hb:b<w.n):v_ w' b=v_ w b:=by
 rw [Bool.eq_iff_iff]
 unfold v_
 simp only [List.any_eq_true,decide_eq_true_eq]
 constructor
 ·rintro ⟨q,hq,A⟩
  obtain ⟨q',hq',e⟩:=Cg h' h.low (by rw [h.wn]; exact hb) ⟨q,hq,rfl⟩
  exact ⟨q',hq',by rw [e]; exact (h'.Uh _).2 A⟩
 ·rintro ⟨q,hq,A⟩
  obtain ⟨q',hq',e⟩:=Cg h h'.low hb ⟨q,hq,rfl⟩
  exact ⟨q',hq',by rw [e]; exact (h.Uh _).2 A⟩
end
section
variable {l l':aX} {r r':cx} {n:Int} {f g:Int→Int}
structure vD (l:aX) (r:cx) (l':aX) (r':cx) (n:Int) (f g:Int→Int):Prop where
 line:dp l=0
 line':dp l'=0
 yg:ff l r
 ride':ff l' r'
 OU:l'.ae.length=l.ae.length
 to:yk (ck l r) (ck l' r') n f
 Vx:yk (ck l' r') (ck l r) (-n) g
theorem vD.Hh (h:vD l r l' r' n f g):jy (ck l' r')=jy (ck l r):=JE h.to h.Vx
theorem vD.e (h:vD l r l' r' n f g) {me:Int}:eA l' r' me=eA l r me:=by
 by_cases hm:me=0
 ·by_cases q:jy (ck l r)=[]
  ·rw [pM h.line h.yg hm q,pM h.line' h.ride' hm (h.Hh.trans q)]
  ·rw [lR h.line h.yg hm q,lR h.line' h.ride' hm (by rw [h.Hh]; exact q)]
 ·rw [qp h.line h.yg hm,qp h.line' h.ride' hm]
theorem vD.AU (h:vD l r l' r' n f g):kX l' r'=kX l r:=by
 by_cases q:eA l r 0=0
 ·rw [lT q,lT (h.e.trans q),h.Hh]
 ·rw [uD q,uD (by rw [h.e]; exact q)]
theorem vD.vy (h:vD l r l' r' n f g) {b:Int}:ju l' b=ju l b:=by unfold ju; rw [h.OU]
theorem vD.bn (h:vD l r l' r' n f g):(ck l r).n=l.ae.length:=dW
theorem vD.eQ (h:vD l r l' r' n f g):vL l' r'=vL l r:=by
 by_cases q:eA l r 0=0
 ·rw [w8 q,w8 (h.e.trans q),h.AU]
  have hb:=RN q
  unfold Au
  congr 1
  refine List.filter_congr fun b A=>?_
  have A:=List.mem_range.1 A
  rw [H0 h.to h.Vx (by rw [h.bn]; omega)]
 ·rw [x_ q,x_ (by rw [h.e]; exact q)]
end
end
section
theorem Fh (a b:Int) (ha:0≤a) (hb:0<b):0≤a % b∧a % b<b:=⟨Int.emod_nonneg _ (Int.ne_of_gt hb),Int.emod_lt_of_pos _ hb⟩
theorem mY {l:aX} (ht:cT l.aN=true) (h:kW l) {i:Nat} (hi:i<l.ae.length):1≤dR l i∧dR l i≤500000000:=by
 have A:=h.Q0 i hi
 have B:=FV ht h.vy i
 have hf:=h.head.1
 unfold dR o7
 refine ⟨(Int.le_ediv_iff_mul_le om).2 om,?_⟩
 have:(1000*lX l i+l.gT-1)/l.gT≤1000*lX l i+l.gT-1:=Int.ediv_le_self _ om
 omega
end
section
def cU (good:List Int):aC:=good.foldl (fun t g=>dj t (fh g)) ⟨0,0⟩
theorem jU {l:List Int} {g:Int}:cU (l++[g])=dj (cU l) (fh g):=by unfold cU; rw [List.foldl_append]; rfl
def sY (r:cx) (times:List Int) (b:Nat):Int:=if b=0 then r.Start else (times[b-1]?).getD 0
theorem pC {r:cx} {times:List Int} {b:Nat} {t:Int} (h:times[b]? =some t):sY r times (b+1)=t:=by unfold sY; rw [if_neg om,Nat.add_sub_cancel,h]; rfl
structure ir (l:aX) (r:cx) (times good:List Int):Prop where
 yg:ff l r
 len:good.length=times.length
 le:times.length≤l.ae.length
 step: ∀ (b:Nat) t,times[b]? =some t→sY r times b+dR l b≤t∧t≤r.f_
 sig: ∀ (b:Nat) t g,times[b]? =some t→good[b]? =some g→g= -1∨ ∃ (k:Nat) (s:aM),g=(k:Int)∧r.ah[k]? =some s∧s.gf=(b:Int)∧(cz l s).Lo≤t∧t≤(cz l s).Hi
 Mg:(cU good).eQ≤l.cQ
 Tv:(r.ah.length:Int)-(cU good).right≤l.eM
section
variable {l:aX} {r:cx} {times good:List Int}
theorem ir.low (h:ir l r times good) (hl:dp l=0): ∀ b,0≤bQ (ck l r) b:=fun b=>by
 obtain ⟨ht,A⟩:=gH hl
 exact ((oM ht A h.yg).bQ b).1
theorem ir.least (h:ir l r times good) {b:Nat} (hb:b<times.length):bQ (ck l r) b=dR l b:=by
 have:=h.le
 rw [zC,if_pos om]
theorem ir.from_ (h:ir l r times good) (hl:dp l=0): ∀ b:Nat,b≤times.length→r.Start≤sY r times b∧sY r times b≤r.f_:=by
 intro b
 induction b with
 |zero=>intro _; have:=h.yg.time; unfold sY; rw [if_pos rfl]; omega
 |succ b ih=>
  intro hb
  have ht:times[b]? =some (times[b]'om):=e8 _
  have B:=ih om
  have C:=h.step b _ ht
  have A:=h.low hl b
  rw [h.least om] at A
  rw [pC ht]
  omega
/-- what comes next, in the truth -/
theorem ir.opt (h:ir l r times good) (hl:dp l=0) {b:Nat} {t g:Int} (ht:times[b]? =some t) (hg:good[b]? =some g): ∃ o∈il (ck l r) b,o.1=g∧o.2.Lo≤t∧t≤o.2.Hi:=by
 have hb:=(List.getElem?_eq_some_iff.1 ht).1
 have E:=h.le
 have F:=h.step b t ht
 have G:=h.from_ hl b om
 have B:=h.low hl b
 rw [h.least hb] at B
 rcases h.sig b t g ht hg with rfl|⟨k,s,rfl,hs,A,C,D⟩
 ·exact ⟨(-1,⟨r.Start,r.f_⟩),(qj om).2 (.inl U),U,by simp only; omega,by simp only; omega⟩
 ·exact ⟨((k:Int),cz l s),(qj om).2 (.inr ⟨k,(List.getElem?_eq_some_iff.1 hs).1,s,hs,⟨A,om⟩,U⟩),U,C,D⟩
theorem lS {α:Type} {l:List α} {b:Nat} {x:α} (h:l[b]? =some x):l.take (b+1)=l.take b++[x]:=by rw [List.take_add_one,h]; rfl
theorem ir.live (h:ir l r times good) (hl:dp l=0): ∀ b:Nat,b≤times.length→Df (ck l r) b (cU (good.take b),sY r times b):=by
 intro b
 induction b with
 |zero=>intro _; exact ⟨r.Start,by simp [fwd,cU]; rfl,by unfold sY; rw [if_pos rfl]; exact Int.le_refl _⟩
 |succ b ih=>
  intro hb
  have B:=h.len
  have ht:times[b]? =some (times[b]'om):=e8 _
  have hg:good[b]? =some (good[b]'om):=e8 _
  obtain ⟨v,hv,A⟩:=ih om
  obtain ⟨o,ho,e,C,D⟩:=h.opt hl ht hg
  have E:=h.step b _ ht
  have F:=h.least (b:=b) om
  simp only at A hv
  rw [pC ht,lS hg,jU,← e]
  refine ⟨max (v+bQ (ck l r) b) o.2.Lo,fK.2 ⟨_,hv,o,ho,gJ.2 ⟨?_,U⟩⟩,?_⟩
  ·have G:(ck l r).f_=r.f_:=rfl
   simp only; omega
  ·simp only; omega
theorem ir.Qp (h:ir l r times good) (hl:dp l=0): ∀ (d b:Nat),b+d=times.length→sv (ck l r) b (cU (good.take b),sY r times b):=by
 intro d
 induction d with
 |zero=>
  intro b hb
  have hn:(ck l r).n=l.ae.length:=dW
  have C:=h.len
  have D:=h.le
  refine ⟨0,om,_,by simp [fT]; rfl,?_⟩
  rw [List.take_of_length_le om]
  unfold ku
  have A:=h.Mg
  have B:=h.Tv
  exact fI ⟨A,B⟩
 |succ d ih=>
  intro b hb
  have C:=h.len
  have ht:times[b]? =some (times[b]'om):=e8 _
  have hg:good[b]? =some (good[b]'om):=e8 _
  obtain ⟨o,ho,e,D,A⟩:=h.opt hl ht hg
  have B:=h.step b _ ht
  have E:=h.least (b:=b) om
  have F:(ck l r).f_=r.f_:=rfl
  have hv:=ih (b+1) om
  rw [pC ht,lS hg,jU,← e] at hv
  exact uc (k:=1) (hP.2 ⟨o,ho,_,gJ.2 ⟨by first|omega|(simp only; omega),U⟩,by simp [fT]; rfl⟩) (wV hv (by first|omega|(simp only; omega)))
theorem ir.pass (h:ir l r times good) (hl:dp l=0) {b:Nat} {t g:Int} (ht:times[b]? =some t) (hg:good[b]? =some g):wH (ck l r) b g t:=by
 have hb:=(List.getElem?_eq_some_iff.1 ht).1
 obtain ⟨v,hv,A⟩:=h.live hl b om
 obtain ⟨o,ho,e,B,C⟩:=h.opt hl ht hg
 have D:=h.step b _ ht
 have E:=h.least (b:=b) hb
 have F:(ck l r).f_=r.f_:=rfl
 have hw:=h.Qp hl (times.length-(b+1)) (b+1) om
 rw [pC ht,lS hg,jU,← e] at hw
 simp only at A
 exact ⟨_,hv,o,ho,e,⟨by simp only; omega,om⟩,hw⟩
theorem ir.num (h:ir l r times good) (hl:dp l=0):(times.length:Int)∈jy (ck l r):=by
 obtain ⟨v,hv,_⟩:=h.live hl times.length (Nat.le_refl _)
 have hn:(ck l r).n=l.ae.length:=dW
 have B:=h.le
 refine o2.2 ⟨times.length,U,om,?_⟩
 unfold jk
 refine List.any_eq_true.2 ⟨_,hv,?_⟩
 have A:=h.len
 rw [List.take_of_length_le om]
 unfold ku
 exact fI ⟨h.Mg,h.Tv⟩
theorem ir.e (h:ir l r times good) (hl:dp l=0):eA l r 0=0:=lR hl h.yg rfl fun e=>by have:=h.num hl; rw [e] at this; cases this
theorem ir.AU (h:ir l r times good) (hl:dp l=0):(times.length:Int)∈kX l r:=by rw [lT (h.e hl)]; exact h.num hl
theorem ir.clear (h:ir l r times good) (hl:dp l=0):(Ey l r=2→l.cu<(times.length:Int))∧(Ey l r=0→(times.length:Int)≤l.cu):=by
 have hm:=h.AU hl
 have A:=(Gq (uM (h.e hl))).2 _ hm
 have B:=(OE (uM (h.e hl))).2 _ hm
 unfold Ey
 rw [if_pos (h.e hl)]
 constructor
 ·intro q
  split at q
  ·omega
  ·split at q<;>omega
 ·intro q
  split at q
  ·omega
  ·split at q<;>omega
end
end
section
def gD (hi:Int→Int) (least:Nat→Int) (now:Int):Nat→List Int→List Int×Int
 |_,[]=>([],now)
 |b,x::xs=>((if 0≤x then min (gD hi least now (b+1) xs).2 (hi x) else (gD hi least now (b+1) xs).2)::(gD hi least now (b+1) xs).1,(if 0≤x then min (gD hi least now (b+1) xs).2 (hi x) else (gD hi least now (b+1) xs).2)-least b)
def fW (t:Int):List Int→Int
 |[]=>t
 |x::xs=>fW x xs
def jV (w:bO):Nat→Int→List Int→List Int→Prop
 |_,_,[],[]=>True
 |b,t,x::rs,y::fs=>(∃ o∈il w b,o.1=x∧max (t+bQ w b) o.2.Lo≤min o.2.Hi w.f_∧y=max (t+bQ w b) o.2.Lo)∧jV w (b+1) y rs fs
 |_,_,_,_=>False
section
variable {w:bO} {hi:Int→Int} {least:Nat→Int} {now:Int}
theorem q_: ∀ (b:Nat) (rs:List Int),(gD hi least now b rs).1.length=rs.length
 |_,[]=>rfl
 |b,x::xs=>by simp only [gD,List.length_cons]; rw [q_]
theorem mW: ∀ (t:Int) (fs:List Int) (y:Int),fW t (fs++[y])=y
 |_,[],_=>rfl
 |t,x::fs,y=>mW x fs y
theorem BG: ∀ (t:Int) (fs:List Int) (y:Int),fs[fs.length-1]? =some y→fW t fs=y
 |t,[],y,h=>by simp at h
 |t,[x],y,h=>by simpa [fW] using h
 |t,x::x2::fs,y,h=>by
  show fW x (x2::fs)=y
  exact BG x (x2::fs) y (by simpa using h)
theorem sS: ∀ (b:Nat) (rs:List Int) (x:Int) (ss:List Int),(gD hi least now b (rs++x::ss)).1[rs.length]? =some (if 0≤x then min (gD hi least now (b+rs.length+1) ss).2 (hi x) else (gD hi least now (b+rs.length+1) ss).2)
 |b,[],x,ss=>by simp [gD]
 |b,z::rs,x,ss=>by
  have:=sS (b+1) rs x ss
  simp only [List.cons_append,gD,List.length_cons,List.getElem?_cons_succ]
  rw [this,show b+1+rs.length+1=b+(rs.length+1)+1 by omega]
theorem jZ: ∀ (b:Nat) (t:Int) (rs fs:List Int),jV w b t rs fs→fs.length=rs.length
 |_,_,[],[],_=>rfl
 |b,t,x::rs,y::fs,h=>by simp [jZ _ _ rs fs h.2]
 |_,_,[],_::_,h=>h.elim
 |_,_,_::_,[],h=>h.elim
theorem qU: ∀ (b:Nat) (t:Int) (rs fs ss gs:List Int),fs.length=rs.length→(jV w b t (rs++ss) (fs++gs)↔jV w b t rs fs∧jV w (b+rs.length) (fW t fs) ss gs)
 |b,t,[],[],ss,gs,_=>by simp [jV,fW]
 |b,t,x::rs,y::fs,ss,gs,h=>by
  have ih:=qU (b+1) y rs fs ss gs (by simpa using h)
  simp only [List.cons_append,jV,List.length_cons,fW]
  rw [ih,show b+1+rs.length=b+(rs.length+1) by omega,and_assoc]
 |_,_,[],_::_,_,_,h=>by simp at h
 |_,_,_::_,[],_,_,h=>by simp at h
theorem DZ (b:List Int): ∀ t:aC,b.foldl (fun t g=>dj t (fh g)) t=dj t (cU b):=by
 induction b with
 |nil=>intro t; exact (mS t).symm
 |cons x b ih=>
  intro t
  show b.foldl (fun t g=>dj t (fh g)) (dj t (fh x))=dj t (b.foldl (fun t g=>dj t (fh g)) (dj ⟨0,0⟩ (fh x)))
  rw [ih,ih]; simp only [dj,aC.mk.injEq]; omega
theorem rv (a b:List Int):cU (a++b)=dj (cU a) (cU b):=by
 show (a++b).foldl _ _=_
 rw [List.foldl_append,DZ]; rfl
theorem qT:cU []=(⟨0,0⟩:aC):=rfl
theorem pj (l:List Int):dj (⟨0,0⟩:aC) (cU l)=cU l:=by simp [dj]
theorem sw (x:Int) (l:List Int):cU (x::l)=dj (fh x) (cU l):=by
 rw [show x::l=[x]++l from rfl,rv,show cU [x]=fh x from (jU (l:=[])).trans (by rw [qT]; simp [dj])]
theorem td: ∀ l:List Int,0≤(cU l).right∧0≤(cU l).eQ∧(cU l).right+(cU l).eQ=(l.length:Int)
 |[]=>by rw [qT]; simp
 |x::l=>by
  rw [sw]
  have:=uA x
  have:=td l
  simp only [dj,List.length_cons]
  omega
/-- chains are what the watch goes through -/
theorem jR: ∀ (k b:Nat) (p q:aC×Int),q∈fT w k b p↔ ∃ rs fs,rs.length=k∧jV w b p.2 rs fs∧q=(dj p.1 (cU rs),fW p.2 fs):=by
 intro k
 induction k with
 |zero=>
  intro b p q
  simp only [fT,bR]
  constructor
  ·rintro rfl; exact ⟨[],[],rfl,trivial,by rw [qT,mS]; rfl⟩
  ·rintro ⟨rs,fs,A,B,rfl⟩
   have A:=jC A
   subst A
   have:=jC (jZ _ _ _ _ B)
   subst this
   rw [qT,mS]; rfl
 |succ k ih=>
  intro b p q
  rw [hP]
  constructor
  ·rintro ⟨o,ho,p',e,h⟩
   obtain ⟨A,rfl⟩:=gJ.1 e
   obtain ⟨rs,fs,B,C,rfl⟩:=(ih _ _ _).1 h
   refine ⟨o.1::rs,max (p.2+bQ w b) o.2.Lo::fs,by simp [B],⟨⟨o,ho,U,A,U⟩,C⟩,?_⟩
   rw [sw]
   simp only [fW,dj,Prod.mk.injEq,aC.mk.injEq,and_true]; omega
  ·rintro ⟨rs,fs,A,B,rfl⟩
   cases rs with
   |nil=>simp at A
   |cons x rs=>
    cases fs with
    |nil=>exact B.elim
    |cons y fs=>
     obtain ⟨⟨o,ho,rfl,C,rfl⟩,D⟩:=B
     refine ⟨o,ho,_,gJ.2 ⟨C,U⟩,(ih _ _ _).2 ⟨rs,fs,by simpa using A,D,?_⟩⟩
     rw [sw]
     simp only [fW,dj,Prod.mk.injEq,aC.mk.injEq,and_true]; omega
/-- what the reference's rows of last times know -/
structure IM (w:bO) (hi:Int→Int) (least:Nat→Int) (now:Int):Prop where
 low: ∀ b,0≤bQ w b
 least: ∀ b,b<w.n→least b=bQ w b
 now:now=w.f_
 hi: ∀ b o,b<w.n→o∈il w b→0≤o.1→o.2.Hi=hi o.1
 none_: ∀ b o,b<w.n→o∈il w b→ ¬ 0≤o.1→o.2.Hi=w.f_
theorem xJ (h:IM w hi least now): ∀ (b:Nat) (rs:List Int),b+rs.length≤w.n→(gD hi least now b rs).2≤w.f_
 |_,[],_=>by simp only [gD]; exact Int.le_of_eq h.now
 |b,x::xs,hb=>by
  simp only [List.length_cons] at hb
  have B:=xJ h (b+1) xs om
  have A:=h.low b
  rw [← h.least b om] at A
  simp only [gD]
  split<;>omega
theorem qV (h:IM w hi least now): ∀ (b:Nat) (t:Int) (rs fs:List Int),b+rs.length≤w.n→t≤w.f_→jV w b t rs fs→t≤(gD hi least now b rs).2
 |_,t,[],[],_,ht,_=>by simp only [gD]; rw [h.now]; exact ht
 |b,t,x::rs,y::fs,hb,ht,hc=>by
  simp only [List.length_cons] at hb
  obtain ⟨⟨o,ho,rfl,D,rfl⟩,A⟩:=hc
  have B:=qV h (b+1) _ rs fs om om A
  have C:=h.least b om
  simp only [gD]
  split
  ·rename_i q
   have:=h.hi b o om ho q
   omega
  ·omega
 |_,_,[],_::_,_,_,hc=>hc.elim
 |_,_,_::_,[],_,_,hc=>hc.elim
theorem xB (h:IM w hi least now): ∀ (b:Nat) (t t':Int) (rs fs:List Int),b+rs.length≤w.n→t≤t'→t'≤(gD hi least now b rs).2→jV w b t rs fs→ ∃ gs,jV w b t' rs gs
 |_,t,_,[],[],_,_,_,_=>⟨[],trivial⟩
 |b,t,t',x::rs,y::fs,hb,ht,he,hc=>by
  simp only [List.length_cons] at hb
  obtain ⟨⟨o,ho,rfl,E,rfl⟩,A⟩:=hc
  have C:=qV h (b+1) _ rs fs om om A
  have D:=h.least b om
  have F:=xJ h (b+1) rs om
  simp only [gD] at he
  have B:max (t'+bQ w b) o.2.Lo≤min o.2.Hi w.f_∧max (t'+bQ w b) o.2.Lo≤(gD hi least now (b+1) rs).2:=by
   split at he
   ·rename_i q
    have:=h.hi b o om ho q
    omega
   ·rename_i q
    have:=h.none_ b o om ho q
    omega
  obtain ⟨gs,hg⟩:=xB h (b+1) _ (max (t'+bQ w b) o.2.Lo) rs fs om om B.2 A
  exact ⟨_::gs,⟨o,ho,U,B.1,U⟩,hg⟩
 |_,_,_,[],_::_,_,_,_,hc=>hc.elim
 |_,_,_,_::_,[],_,_,_,hc=>hc.elim
theorem Bb (b:Nat) (t t':Int) (rs fs:List Int) (ht:t'≤t) (hc:jV w b t rs fs): ∃ gs,jV w b t' rs gs:=by
 have A:(dj ⟨0,0⟩ (cU rs),fW t fs)∈fT w rs.length b (⟨0,0⟩,t):=(jR _ _ _ _).2 ⟨rs,fs,rfl,hc,rfl⟩
 clear A
 induction rs generalizing b t t' fs with
 |nil=>exact ⟨[],trivial⟩
 |cons x rs ih=>
  cases fs with
  |nil=>exact hc.elim
  |cons y fs=>
   obtain ⟨⟨o,ho,rfl,C,rfl⟩,B⟩:=hc
   obtain ⟨gs,hg⟩:=ih (b+1) _ (max (t'+bQ w b) o.2.Lo) fs om B
   exact ⟨_::gs,⟨o,ho,U,om,U⟩,hg⟩
/-- a way, as it is asked for -/
structure OK (w:bO) (hi:Int→Int) (least:Nat→Int) (now:Int) (y:cY):Prop where
 chain:jV w 0 w.Start y.gh y.iB
 len:y.gh.length≤w.n
 last:y.lQ=(gD hi least now 0 y.gh).1
 may:ku w (cU y.gh)=true
theorem Dc {k:Nat}:jk w (fwd w k)=true↔ ∃ rs fs,rs.length=k∧jV w 0 w.Start rs fs∧ku w (cU rs)=true:=by
 unfold jk
 rw [List.any_eq_true]
 have e:=fun q=>(qR (w:=w) k 0 q)
 rw [Nat.zero_add] at e
 constructor
 ·rintro ⟨q,hq,hm⟩
  obtain ⟨p,hp,h⟩:=(e q).1 hq
  simp only [fwd,bR] at hp
  subst hp
  obtain ⟨rs,fs,A,B,rfl⟩:=(jR _ _ _ _).1 h
  refine ⟨rs,fs,A,B,?_⟩
  rwa [pj] at hm
 ·rintro ⟨rs,fs,A,B,C⟩
  refine ⟨_,(e _).2 ⟨((⟨0,0⟩:aC),w.Start),List.mem_singleton.2 U,(jR _ _ _ _).2 ⟨rs,fs,A,B,U⟩⟩,?_⟩
  simp only [pj]; exact C
theorem LF (h:IM w hi least now) (hs:w.Start≤w.f_) {b:Nat} (hb:b<w.n) {s t:Int}:wH w b s t↔ ∃ y,OK w hi least now y∧ ∃ f e,y.gh[b]? =some s∧y.iB[b]? =some f∧y.lQ[b]? =some e∧f≤t∧t≤e:=by
 have ef:=fun q=>(qR (w:=w) b 0 q)
 rw [Nat.zero_add] at ef
 constructor
 ·rintro ⟨p,hp,o,ho,rfl,⟨C,L⟩,k,hk,q,hq,hm⟩
  obtain ⟨Y,AB,hp⟩:=(ef p).1 hp
  simp only [fwd,bR] at AB
  subst AB
  obtain ⟨rs,fs,K,D,rfl⟩:=(jR _ _ _ _).1 hp
  obtain ⟨ss,gs,AA,E,rfl⟩:=(jR _ _ _ _).1 hq
  simp only at C L D E hm
  obtain ⟨gs',J⟩:=Bb (b+1) t (max (fW w.Start fs+bQ w b) o.2.Lo) ss gs C E
  have H:=jZ _ _ _ _ D
  have T:=jZ _ _ _ _ J
  have hc:jV w 0 w.Start (rs++o.1::ss) (fs++max (fW w.Start fs+bQ w b) o.2.Lo::gs'):=(qU _ _ _ _ _ _ H).2 ⟨D,by rw [Nat.zero_add,K]; exact ⟨⟨o,ho,rfl,om,rfl⟩,J⟩⟩
  have he:=qV h (b+1) t ss gs om om E
  have A:=sS (hi:=hi) (least:=least) (now:=now) 0 rs o.1 ss
  rw [Nat.zero_add,K] at A
  refine ⟨⟨rs++o.1::ss,fs++max (fW w.Start fs+bQ w b) o.2.Lo::gs',(gD hi least now 0 (rs++o.1::ss)).1⟩,⟨hc,by simp; omega,U,?_⟩,max (fW w.Start fs+bQ w b) o.2.Lo,_,?_,?_,A,C,?_⟩
  ·show ku w (cU (rs++o.1::ss))=true
   rw [show rs++o.1::ss=(rs++[o.1])++ss by simp,rv,jU]
   rwa [pj] at hm
  ·show (rs++o.1::ss)[b]? =some o.1
   rw [List.getElem?_append_right om,K,Nat.sub_self]; rfl
  ·show (fs++_::gs')[b]? =_
   rw [List.getElem?_append_right om,H,K,Nat.sub_self]; rfl
  ·split
   ·rename_i q
    have:=h.hi b o hb ho q
    omega
   ·exact he
 ·rintro ⟨y,hy,f,e,C,L,P,Q,V⟩
  obtain ⟨R,F,La⟩:=y
  obtain ⟨hc,hn,A,hm⟩:=hy
  simp only at C L P hc hn A hm
  have N:=(List.getElem?_eq_some_iff.1 C).1
  have S:=jZ _ _ _ _ hc
  have eR:R=R.take b++s::R.drop (b+1):=by rw [← (List.getElem?_eq_some_iff.1 C).2]; exact (List.take_append_drop b R).symm.trans (by rw [List.drop_eq_getElem_cons N])
  have M:b<F.length:=by omega
  have eF:F=F.take b++f::F.drop (b+1):=by rw [← (List.getElem?_eq_some_iff.1 L).2]; exact (List.take_append_drop b F).symm.trans (by rw [List.drop_eq_getElem_cons M])
  rw [eR,eF,qU _ _ _ _ _ _ (by simp only [List.length_take]; omega)] at hc
  have O:(R.take b).length=b:=by rw [List.length_take]; omega
  rw [O,Nat.zero_add] at hc
  obtain ⟨D,⟨o,ho,rfl,W,rfl⟩,E⟩:=hc
  have B:=sS (hi:=hi) (least:=least) (now:=now) 0 (R.take b) o.1 (R.drop (b+1))
  rw [← eR,O,Nat.zero_add,← A,P] at B
  have B:=Option.some.inj B
  have G:t≤(gD hi least now (b+1) (R.drop (b+1))).2∧t≤min o.2.Hi w.f_:=by
   have X:=xJ h (b+1) (R.drop (b+1)) (by rw [List.length_drop]; omega)
   split at B
   ·rename_i q
    have:=h.hi b o hb ho q
    omega
   ·rename_i q
    have:=h.none_ b o hb ho q
    omega
  obtain ⟨gs,J⟩:=xB h (b+1) _ t (R.drop (b+1)) (F.drop (b+1)) (by rw [List.length_drop]; omega) Q G.1 E
  refine ⟨(dj ⟨0,0⟩ (cU (R.take b)),fW w.Start (F.take b)),(ef _).2 ⟨((⟨0,0⟩:aC),w.Start),List.mem_singleton.2 U,(jR _ _ _ _).2 ⟨_,_,O,D,U⟩⟩,o,ho,U,⟨Q,G.2⟩,(R.drop (b+1)).length,by rw [List.length_drop]; omega,_,(jR _ _ _ _).2 ⟨_,gs,U,J,U⟩,?_⟩
  show ku w (dj (dj (dj ⟨0,0⟩ (cU (R.take b))) (fh o.1)) (cU (R.drop (b+1))))=true
  rw [pj,← jU,← rv,show R.take b++[o.1]++R.drop (b+1)=R from by rw [List.append_assoc]; exact eR.symm]
  exact hm
end
noncomputable def Ms (l:aX) (r:cx) (x:Int):Int:=match r.ah[x.toNat]? with
 |some s=>(cz l s).Hi
 |none=>0
theorem EE {l:aX} {r:cx} {x:Int} {s:aM} (h:r.ah[x.toNat]? =some s):Ms l r x=(cz l s).Hi:=by unfold Ms; rw [h]
noncomputable def je (l:aX) (r:cx) (rs:List Int):List Int:=(gD (Ms l r) (dR l) r.f_ 0 rs).1
noncomputable def oS (l:aX) (r:cx) (n:Nat) (t i:Int):Option Int:=
 if i<0 then (if t≤r.f_ then some t else none) else match r.ah[i.toNat]? with
  |some s=>if (s.gf=(n:Int)∧(cz l s).Lo≤(cz l s).Hi)∧max t (cz l s).Lo≤min r.f_ (cz l s).Hi then some (max t (cz l s).Lo) else none
  |none=>none
noncomputable def gL (l:aX) (r:cx) (rs fs:List Int):List cY:=if (r.ah.length:Int)-(cU rs).right≤l.eM then [⟨rs,fs,je l r rs⟩] else []
noncomputable def g_ (l:aX) (r:cx):Nat→List Int→List Int→List cY
 |0,rs,fs=>if l.cQ<(cU rs).eQ then [] else gL l r rs fs
 |k+1,rs,fs=>if l.cQ<(cU rs).eQ then [] else gL l r rs fs++(List.range (r.ah.length+1)).flatMap fun (j:Nat)=>match oS l r rs.length (fW r.Start fs+dR l rs.length) ((j:Int)-1) with
  |some t=>g_ l r k (rs++[(j:Int)-1]) (fs++[t])
  |none=>[]
noncomputable def EH (l:aX) (r:cx) (k:Nat) (rs fs:List Int) (j:Nat):List cY:=gL l r rs fs++(List.range j).flatMap fun (j:Nat)=>match oS l r rs.length (fW r.Start fs+dR l rs.length) ((j:Int)-1) with
 |some t=>g_ l r k (rs++[(j:Int)-1]) (fs++[t])
 |none=>[]
noncomputable def ia (l:aX) (r:cx) (k:Nat) (rs fs:List Int) (j:Nat):List cY:=(List.range j).flatMap fun (j:Nat)=>match oS l r rs.length (fW r.Start fs+dR l rs.length) ((j:Int)-1) with
 |some t=>g_ l r k (rs++[(j:Int)-1]) (fs++[t])
 |none=>[]
section
variable {l:aX} {r:cx} {k j:Nat} {rs fs:List Int} {t:Int}
theorem qS:EH l r k rs fs j=gL l r rs fs++ia l r k rs fs j:=rfl
theorem mV (h:oS l r rs.length (fW r.Start fs+dR l rs.length) ((j:Int)-1)=some t):ia l r k rs fs (j+1)=ia l r k rs fs j++g_ l r k (rs++[(j:Int)-1]) (fs++[t]):=by
 unfold ia; rw [List.range_succ,List.flatMap_append]; simp [h]
theorem qx (h:oS l r rs.length (fW r.Start fs+dR l rs.length) ((j:Int)-1)=none):ia l r k rs fs (j+1)=ia l r k rs fs j:=by
 unfold ia; rw [List.range_succ,List.flatMap_append]; simp [h]
theorem nA (h:l.cQ<(cU rs).eQ):g_ l r k rs fs=[]:=by cases k<;>exact if_pos h
theorem nt (h: ¬ l.cQ<(cU rs).eQ):g_ l r 0 rs fs=gL l r rs fs:=if_neg h
theorem nF (h: ¬ l.cQ<(cU rs).eQ):g_ l r (k+1) rs fs=EH l r k rs fs (r.ah.length+1):=if_neg h
theorem Bl {n:Nat} (hn:n<l.ae.length) (hl:0≤dR l n) (ht:r.Start≤t) {i y:Int} (hi: -1≤i):oS l r n (t+dR l n) i=some y↔ ∃ o∈il (ck l r) n,o.1=i∧max (t+bQ (ck l r) n) o.2.Lo≤min o.2.Hi (ck l r).f_∧y=max (t+bQ (ck l r) n) o.2.Lo:=by
 rw [pw hn]
 have hw:(ck l r).f_=r.f_:=rfl
 unfold oS
 constructor
 ·intro h
  split at h
  ·rename_i B
   split at h
   ·cases h
    exact ⟨(-1,⟨r.Start,r.f_⟩),(qj hn).2 (.inl U),by simp only; omega,by simp only; omega,by simp only; omega⟩
   ·cases h
  ·rename_i B
   split at h
   ·rename_i s hs
    split at h
    ·rename_i q
     cases h
     exact ⟨((i.toNat:Nat),cz l s),(qj hn).2 (.inr ⟨i.toNat,(List.getElem?_eq_some_iff.1 hs).1,s,hs,q.1,U⟩),by simp only; omega,by simp only; omega,U⟩
    ·cases h
   ·cases h
 ·rintro ⟨o,ho,rfl,A,rfl⟩
  rcases (qj hn).1 ho with rfl|⟨k,hk,s,hs,q,rfl⟩
  ·simp only at A ⊢
   rw [if_pos om,if_pos om]
   congr 1; omega
  ·simp only at A ⊢
   rw [if_neg om,Int.toNat_natCast,hs]
   simp only
   rw [if_pos ⟨q,om⟩]
theorem I1 (hl: ∀ n,n<l.ae.length→0≤dR l n): ∀ (k:Nat) (rs fs:List Int) (y:cY),rs.length+k=l.ae.length→fs.length=rs.length→r.Start≤fW r.Start fs→
 (y∈g_ l r k rs fs↔ ∃ ss gs,jV (ck l r) rs.length (fW r.Start fs) ss gs∧ss.length≤k∧y=⟨rs++ss,fs++gs,je l r (rs++ss)⟩∧ku (ck l r) (cU (rs++ss))=true):=by
 have D: ∀ (rs fs:List Int) (y:cY),¬ l.cQ<(cU rs).eQ→(y∈gL l r rs fs↔y=⟨rs++[],fs++[],je l r (rs++[])⟩∧ku (ck l r) (cU (rs++[]))=true):=by
  intro rs fs y hm
  unfold gL
  rw [List.append_nil,List.append_nil]
  have e:ku (ck l r) (cU rs)=true↔(r.ah.length:Int)-(cU rs).right≤l.eM:=by
   unfold ku
   rw [decide_eq_true_eq]
   exact ⟨fun q=>q.2,fun q=>⟨by have:(ck l r).cQ=l.cQ:=rfl; omega,q⟩⟩
  split
  ·rename_i q
   rw [bR]
   exact ⟨fun h=>⟨h,e.2 q⟩,fun h=>h.1⟩
  ·rename_i q
   exact ⟨fun h=>(by cases h),fun h=>absurd (e.1 h.2) q⟩
 have Mg: ∀ (rs ss:List Int),l.cQ<(cU rs).eQ→ ¬ ku (ck l r) (cU (rs++ss))=true:=by
  intro rs ss h q
  unfold ku at q
  have:=(of_decide_eq_true q).1
  rw [rv] at this
  have C:=td ss
  simp only [dj] at this
  have:(ck l r).cQ=l.cQ:=rfl
  omega
 intro k
 induction k with
 |zero=>
  intro rs fs y hn hf hs
  by_cases hm:l.cQ<(cU rs).eQ
  ·rw [nA hm]
   exact ⟨fun h=>(by cases h),fun ⟨ss,gs,_,_,_,q⟩=>absurd q (Mg rs ss hm)⟩
  ·rw [nt hm,D _ _ _ hm]
   constructor
   ·rintro ⟨B,C⟩; exact ⟨[],[],trivial,sm,B,C⟩
   ·rintro ⟨ss,gs,B,C,E,F⟩
    have e:=jC (Nat.le_zero.1 C)
    subst e
    have e:=jC (jZ _ _ _ _ B)
    subst e
    exact ⟨E,F⟩
 |succ k ih=>
  intro rs fs y hn hf hs
  by_cases hm:l.cQ<(cU rs).eQ
  ·rw [nA hm]
   exact ⟨fun h=>(by cases h),fun ⟨ss,gs,_,_,_,q⟩=>absurd q (Mg rs ss hm)⟩
  ·rw [nF hm]
   unfold EH
   rw [kB,D _ _ _ hm,List.mem_flatMap]
   have A: ∀ (x y:Int),(rs++[x]).length+k=l.ae.length∧(fs++[y]).length=(rs++[x]).length:=fun x y=>by simp; omega
   constructor
   ·rintro (⟨B,C⟩|⟨j,hj,h⟩)
    ·exact ⟨[],[],trivial,sm,B,C⟩
    ·cases e:oS l r rs.length (fW r.Start fs+dR l rs.length) ((j:Int)-1) with
     |none=>rw [e] at h; cases h
     |some t=>
      rw [e] at h
      simp only at h
      obtain ⟨o,ho,B,C,E⟩:=(Bl om (hl _ om) hs om).1 e
      have G:r.Start≤t:=by
       have:=hl rs.length om
       rw [pw om] at E
       omega
      obtain ⟨ss,gs,F,J,H,AA⟩:=(ih _ _ y (A _ t).1 (A _ t).2 (by rw [mW]; exact G)).1 h
      rw [mW,List.length_append] at F
      refine ⟨((j:Int)-1)::ss,t::gs,⟨⟨o,ho,B,C,E⟩,F⟩,by simp; omega,by simpa using H,by simpa using AA⟩
   ·rintro ⟨ss,gs,B,C,E,F⟩
    cases ss with
    |nil=>
     have e:=jC (jZ _ _ _ _ B)
     subst e
     exact .inl ⟨E,F⟩
    |cons x ss=>
     cases gs with
     |nil=>exact B.elim
     |cons t gs=>
      obtain ⟨⟨o,ho,rfl,J,H⟩,AA⟩:=B
      right
      have hx: -1≤o.1∧o.1<(r.ah.length:Int):=by
       rcases (qj om).1 ho with rfl|⟨k,hk,s,hs,q,rfl⟩
       ·simp only; omega
       ·simp only; omega
      have G:r.Start≤t:=by
       have:=hl rs.length om
       rw [pw om] at H
       omega
      have K:((o.1+1).toNat:Int)-1=o.1:=by omega
      refine ⟨(o.1+1).toNat,List.mem_range.2 om,?_⟩
      rw [K,(Bl om (hl _ om) hs om).2 ⟨o,ho,rfl,J,H⟩]
      simp only
      refine (ih _ _ y (A _ t).1 (A _ t).2 (by rw [mW]; exact G)).2 ⟨ss,gs,?_,?_,?_,?_⟩
      ·rw [mW,List.length_append]; exact AA
      ·simp only [List.length_cons] at C; omega
      ·simpa using E
      ·simpa using F
end
theorem zp {l:aX} {r:cx} {rs fs:List Int} (h:(r.ah.length:Int)-(cU rs).right≤l.eM):gL l r rs fs=[⟨rs,fs,je l r rs⟩]:=if_pos h
theorem xU {l:aX} {r:cx} {rs fs:List Int} (h: ¬ (r.ah.length:Int)-(cU rs).right≤l.eM):gL l r rs fs=[]:=if_neg h
noncomputable def eT (l:aX) (r:cx) (i:Nat):List aa:=(r.ah.take i).map (cz l)
noncomputable def fc (l:aX) (r:cx) (i:Nat):List Bool:=(r.ah.take i).map fun s=>decide ((cz l s).Lo≤(cz l s).Hi)
section
variable {l:aX} {r:cx} {i n:Nat} {s:aM} {rs:List Int}
theorem D5 (h:r.ah[i]? =some s):eT l r (i+1)=eT l r i++[cz l s]:=by unfold eT; rw [List.take_add_one,h,List.map_append]; rfl
theorem E1 (h:r.ah[i]? =some s):fc l r (i+1)=fc l r i++[decide ((cz l s).Lo≤(cz l s).Hi)]:=by unfold fc; rw [List.take_add_one,h,List.map_append]; rfl
theorem rl (h:i≤r.ah.length):(eT l r i).length=i:=by unfold eT; rw [List.length_map,List.length_take]; omega
theorem uU (h:i≤r.ah.length):(fc l r i).length=i:=by unfold fc; rw [List.length_map,List.length_take]; omega
theorem LC {k:Nat} {z:aa} (hs:r.ah[k]? =some s) (hz:(eT l r r.ah.length)[k]? =some z):z=cz l s:=by
 unfold eT at hz
 rw [List.take_length,fw,hs] at hz
 exact (Option.some.inj hz).symm
theorem K1 {k:Nat} {z:aa} (hz:(eT l r r.ah.length)[k]? =some z): ∃ s,r.ah[k]? =some s∧z=cz l s:=by
 unfold eT at hz
 rw [List.take_length,fw] at hz
 cases h:r.ah[k]? with
 |none=>rw [h] at hz; cases hz
 |some s=>rw [h] at hz; exact ⟨s,rfl,(Option.some.inj hz).symm⟩
theorem Cc {k:Nat} {z:Bool} (hs:r.ah[k]? =some s) (hz:(fc l r r.ah.length)[k]? =some z):z=true↔(cz l s).Lo≤(cz l s).Hi:=by
 unfold fc at hz
 rw [List.take_length,fw,hs] at hz
 rw [← Option.some.inj hz]
 exact decide_eq_true_iff
theorem xI (l:aX) (s:aM):(0≤(cz l s).Lo∧(cz l s).Lo≤86400001)∧ -1≤(cz l s).Hi∧(cz l s).Hi≤86400000:=by
 have A:=ig (p:=fX (pN l s) s.Read) (n:=86400001)
 have B:=ig (p:=fY (pN l s) s.Read) (n:=86400001)
 unfold cz qf
 simp only
 omega
/-- the last times from a beam on -/
noncomputable def jw (l:aX) (r:cx) (rs:List Int) (j:Nat):List Int×Int:=gD (Ms l r) (dR l) r.f_ j (rs.drop j)
noncomputable def jv (l:aX) (r:cx) (rs:List Int) (j:Nat):List Int:=List.replicate j 0++(jw l r rs j).1
noncomputable def tM (l:aX) (r:cx) (rs:List Int) (j:Nat) (x:Int):Int:=if 0≤x then min (jw l r rs j).2 (Ms l r x) else (jw l r rs j).2
theorem ux:jw l r rs rs.length=([],r.f_):=by unfold jw; rw [List.drop_length]; rfl
theorem GO:jv l r rs rs.length=List.replicate rs.length 0:=by unfold jv; rw [ux]; simp
theorem ER:jv l r rs 0=je l r rs:=by unfold jv jw je; simp
theorem pz {j:Nat} {x:Int} (hj:0<j) (hx:rs[j-1]? =some x):jw l r rs (j-1)=(tM l r rs j x::(jw l r rs j).1,tM l r rs j x-dR l (j-1)):=by
 unfold jw tM
 have hb:=(List.getElem?_eq_some_iff.1 hx).1
 rw [List.drop_eq_getElem_cons hb,(List.getElem?_eq_some_iff.1 hx).2,show j-1+1=j by omega]
 simp only [gD]
 rw [show j-1+1=j by omega]
 rfl
theorem Hp {j:Nat} (h:j≤rs.length):(jv l r rs j).length=rs.length:=by unfold jv jw; rw [List.length_append,List.length_replicate,q_,List.length_drop]; omega
theorem yJ {j:Nat} {x:Int} (hj:0<j) (hx:rs[j-1]? =some x):(jv l r rs j).set (j-1) (tM l r rs j x)=jv l r rs (j-1):=by
 unfold jv
 rw [pz hj hx]
 simp only
 obtain ⟨k,rfl⟩: ∃ k,j=k+1:=⟨j-1,om⟩
 rw [Nat.add_sub_cancel,List.replicate_succ',List.append_assoc,List.set_append_right _ _ sm,List.length_replicate,Nat.sub_self]
 rfl
theorem Fy (hr:0≤r.f_∧r.f_≤86400000) (hl: ∀ b,b<rs.length→0≤dR l b∧dR l b≤500000000) (hrs: ∀ x∈rs,0≤x→x<(r.ah.length:Int)): ∀ (d j:Nat),j+d=rs.length→(-1-500000000*(d:Int))≤(jw l r rs j).2∧(jw l r rs j).2≤86400000
 |0,j,h=>by
  obtain rfl:j=rs.length:=by omega
  rw [ux]; simp only; omega
 |d+1,j,h=>by
  have ih:=Fy hr hl hrs d (j+1) om
  have hx:rs[j+1-1]? =some (rs[j]'om):=by rw [Nat.add_sub_cancel]; exact e8 _
  have e:=pz (l:=l) (r:=r) (j:=j+1) om hx
  rw [Nat.add_sub_cancel] at e
  rw [e]
  simp only
  have A:=hl j om
  unfold tM
  split
  ·rename_i q
   have B:=hrs _ (List.getElem_mem (by omega:j<rs.length)) q
   obtain ⟨s,hs⟩: ∃ s,r.ah[(rs[j]'om).toNat]? =some s:=⟨r.ah[(rs[j]'om).toNat]'om,e8 _⟩
   rw [EE hs]
   have C:=xI l s
   omega
  ·omega
theorem IB {t i:Int} (hi:i<0):(t≤r.f_→oS l r n t i=some t)∧(¬ t≤r.f_→oS l r n t i=none):=by
 unfold oS; rw [if_pos hi]; exact ⟨fun h=>if_pos h,fun h=>if_neg h⟩
theorem K3 {t i:Int} (hi: ¬ i<0) (hs:r.ah[i.toNat]? =some s) (hb:s.gf=(n:Int)) (hw:(cz l s).Lo≤(cz l s).Hi):(max t (cz l s).Lo≤min r.f_ (cz l s).Hi→oS l r n t i=some (max t (cz l s).Lo))∧(¬ max t (cz l s).Lo≤min r.f_ (cz l s).Hi→oS l r n t i=none):=by
 unfold oS; rw [if_neg hi,hs]
 exact ⟨fun h=>if_pos ⟨⟨hb,hw⟩,h⟩,fun h=>if_neg fun q=>h q.2⟩
theorem wx {t i:Int} (hi: ¬ i<0) (hs:r.ah[i.toNat]? =some s) (hb: ¬ (s.gf=(n:Int)∧(cz l s).Lo≤(cz l s).Hi)):oS l r n t i=none:=by
 unfold oS; rw [if_neg hi,hs]
 exact if_neg fun q=>hb q.1
theorem tn {x:Int} (hx:rs[i]? =some x):(cU (rs.take (i+1))).right=(cU (rs.take i)).right+(if 0≤x then 1 else 0):=by
 rw [lS hx,jU]
 unfold fh
 simp only [dj]
 by_cases h:x<0
 ·rw [if_pos h,if_neg om]
 ·rw [if_neg h,if_pos om]
end
theorem xq {l:aX} {r:cx} {rs fs:List Int}:(gL l r rs fs).length≤1:=by unfold gL; split<;>simp
theorem xr {l:aX} {r:cx} (hr:r.ah.length≤10): ∀ (k:Nat) (rs fs:List Int),(g_ l r k rs fs).length≤12^(k+1)
 |0,rs,fs=>by
  unfold g_
  split
  ·simp
  ·have:=xq (l:=l) (r:=r) (rs:=rs) (fs:=fs); omega
 |k+1,rs,fs=>by
  unfold g_
  split
  ·simp
  ·rw [List.length_append]
   have B:=xq (l:=l) (r:=r) (rs:=rs) (fs:=fs)
   have A: ∀ j,(ia l r k rs fs j).length≤j*12^(k+1):=by
    intro j
    induction j with
    |zero=>simp [ia]
    |succ j ih=>
     cases e:oS l r rs.length (fW r.Start fs+dR l rs.length) ((j:Int)-1) with
     |none=>rw [qx e,Nat.succ_mul]; exact Nat.le_trans ih (Nat.le_add_right _ _)
     |some t=>rw [mV e,List.length_append,Nat.succ_mul]; exact Nat.add_le_add ih (xr hr k (rs++[(j:Int)-1]) (fs++[t]))
   have C:=A (r.ah.length+1)
   have D:(r.ah.length+1)*12^(k+1)≤11*12^(k+1):=Nat.mul_le_mul_right _ om
   have E:0<12^(k+1):=Nat.pow_pos dc
   have F:12^(k+1+1)=12*12^(k+1):=by rw [Nat.pow_succ,Nat.mul_comm]
   show (gL l r rs fs).length+(ia l r k rs fs (r.ah.length+1)).length≤_
   omega
theorem Ke {l:aX} {r:cx} (hr:r.ah.length≤10) {k j:Nat} {rs fs:List Int} (hk:k≤5) (hj:j≤11):(ia l r k rs fs j).length≤40000000:=by
 have A: ∀ j,(ia l r k rs fs j).length≤j*12^(k+1):=by
  intro j
  induction j with
  |zero=>simp [ia]
  |succ j ih=>
   cases e:oS l r rs.length (fW r.Start fs+dR l rs.length) ((j:Int)-1) with
   |none=>rw [qx e,Nat.succ_mul]; exact Nat.le_trans ih (Nat.le_add_right _ _)
   |some t=>rw [mV e,List.length_append,Nat.succ_mul]; exact Nat.add_le_add ih (xr hr k (rs++[(j:Int)-1]) (fs++[t]))
 have C:=A j
 have B:12^(k+1)≤12^6:=Nat.pow_le_pow_right dc om
 have D:j*12^(k+1)≤11*12^6:=Nat.mul_le_mul hj B
 omega
theorem uC {l:aX} {r:cx} (hr:r.ah.length≤10) {k:Nat} {rs fs:List Int} (hk:k≤6):(g_ l r k rs fs).length≤40000000:=by
 have A:=xr hr k rs fs (l:=l)
 have B:12^(k+1)≤12^7:=Nat.pow_le_pow_right dc om
 omega
noncomputable def pY (l:aX) (r:cx):List cY:=g_ l r l.ae.length [] []
section
variable {l:aX} {r:cx}
theorem l5:(ck l r).n=l.ae.length:=dW
theorem Pd (hle:dp l=0) (hr:ff l r):IM (ck l r) (Ms l r) (dR l) r.f_:=by
 obtain ⟨ht,B⟩:=gH hle
 refine ⟨fun b=>((oM ht B hr).bQ b).1,fun b hb=>(pw (by rw [l5] at hb; exact hb)).symm,U,fun b o hb ho A=>?_,fun b o hb ho A=>?_⟩
 ·rw [l5] at hb
  rcases (qj hb).1 ho with rfl|⟨k,hk,s,hs,q,rfl⟩
  ·simp only at A; omega
  ·exact (EE (by simpa using hs)).symm
 ·rw [l5] at hb
  rcases (qj hb).1 ho with rfl|⟨k,hk,s,hs,q,rfl⟩
  ·rfl
  ·simp only at A; omega
theorem pB (hle:dp l=0) (hr:ff l r) {y:cY}:y∈pY l r↔OK (ck l r) (Ms l r) (dR l) r.f_ y:=by
 obtain ⟨ht,D⟩:=gH hle
 have hl: ∀ n,n<l.ae.length→0≤dR l n:=fun n hn=>by have:=mY ht D (i:=n) hn; omega
 unfold pY
 rw [I1 hl _ _ _ _ sm rfl (Int.le_refl _)]
 constructor
 ·rintro ⟨ss,gs,B,A,rfl,C⟩
  exact ⟨B,by rw [l5]; exact A,U,C⟩
 ·rintro ⟨B,A,E,C⟩
  rw [l5] at A
  exact ⟨y.gh,y.iB,B,A,by rw [List.nil_append,List.nil_append]; unfold je; rw [← E],C⟩
theorem Ij (hle:dp l=0) (hr:ff l r) {k:Nat} (hk:k≤l.ae.length):((pY l r).any fun y=>decide (y.gh.length=k))=jk (ck l r) (fwd (ck l r) k):=by
 rw [Bool.eq_iff_iff,Dc,List.any_eq_true]
 constructor
 ·rintro ⟨y,hy,e⟩
  have h:=(pB hle hr).1 hy
  exact ⟨y.gh,y.iB,of_decide_eq_true e,h.chain,h.may⟩
 ·rintro ⟨rs,fs,e,A,B⟩
  exact ⟨⟨rs,fs,(gD (Ms l r) (dR l) r.f_ 0 rs).1⟩,(pB hle hr).2 ⟨A,by rw [l5]; simp only; omega,U,B⟩,fI e⟩
theorem fH (hle:dp l=0) (hr:ff l r):pY l r=[]↔jy (ck l r)=[]:=by
 constructor
 ·intro h
  apply List.eq_nil_iff_forall_not_mem.2
  intro x hx
  obtain ⟨k,rfl,hk,hm⟩:=o2.1 hx
  rw [l5] at hk
  rw [← Ij hle hr hk,h] at hm
  cases hm
 ·intro h
  apply List.eq_nil_iff_forall_not_mem.2
  intro y hy
  have hw:=(pB hle hr).1 hy
  have:(y.gh.length:Int)∈jy (ck l r):=o2.2 ⟨y.gh.length,rfl,hw.len,Dc.2 ⟨_,_,rfl,hw.chain,hw.may⟩⟩
  rw [h] at this; cases this
/-- the times at a beam, by all ways -/
def iL (b:Nat) (ws:List cY):List (Int×aa):=ws.filterMap fun y=>match y.gh[b]?,y.iB[b]?,y.lQ[b]? with
 |some s,some f,some e=>some (s,⟨f,e⟩)
 |_,_,_=>none
theorem np {b:Nat} {ws:List cY} {q:Int×aa}:q∈iL b ws↔ ∃ y∈ws,y.gh[b]? =some q.1∧y.iB[b]? =some q.2.Lo∧y.lQ[b]? =some q.2.Hi:=by
 unfold iL
 rw [List.mem_filterMap]
 constructor
 ·rintro ⟨y,hy,h⟩
  cases e1:y.gh[b]? with
  |none=>rw [e1] at h; cases h
  |some s=>
   cases e2:y.iB[b]? with
   |none=>rw [e1,e2] at h; cases h
   |some f=>
    cases e3:y.lQ[b]? with
    |none=>rw [e1,e2,e3] at h; cases h
    |some e=>
     rw [e1,e2,e3] at h; cases h
     exact ⟨y,hy,e1,e2,e3⟩
 ·rintro ⟨y,hy,A,B,C⟩
  exact ⟨y,hy,by rw [A,B,C]⟩
theorem x8 {b:Nat} {ws:List cY} {y:cY} (h:y.gh.length≤b):iL b (ws++[y])=iL b ws:=by
 unfold iL; rw [List.filterMap_append]; simp [List.getElem?_eq_none h]
theorem pV {b:Nat} {ws:List cY} {y:cY} {s f e:Int} (h1:y.gh[b]? =some s) (h2:y.iB[b]? =some f) (h3:y.lQ[b]? =some e):iL b (ws++[y])=iL b ws++[(s,⟨f,e⟩)]:=by
 unfold iL; rw [List.filterMap_append]; simp [h1,h2,h3]
theorem K2 (hle:dp l=0) (hr:ff l r) {y:cY} (hy:y∈pY l r):y.iB.length=y.gh.length∧y.lQ.length=y.gh.length∧y.gh.length≤l.ae.length:=by
 have h:=(pB hle hr).1 hy
 exact ⟨jZ _ _ _ _ h.chain,by rw [h.last,q_],by have:=h.len; rwa [l5] at this⟩
theorem tv (hle:dp l=0) (hr:ff l r) {b:Nat} (hb:b<l.ae.length) {s t:Int}:(∃ q∈mg (ck l r) b,q.1=s∧q.2.Lo≤t∧t≤q.2.Hi)↔ ∃ q∈iL b (pY l r),q.1=s∧q.2.Lo≤t∧t≤q.2.Hi:=by
 have hh:=Pd hle hr
 rw [AA hh.low (by rw [l5]; exact hb),LF hh hr.time.2.1 (by rw [l5]; exact hb)]
 constructor
 ·rintro ⟨y,hy,f,e,A,B,C,D,E⟩
  exact ⟨(s,⟨f,e⟩),np.2 ⟨y,(pB hle hr).2 hy,A,B,C⟩,U,D,E⟩
 ·rintro ⟨q,hq,rfl,D,E⟩
  obtain ⟨y,hy,A,B,C⟩:=np.1 hq
  exact ⟨y,(pB hle hr).1 hy,_,_,A,B,C,D,E⟩
/-- a way's span is none that is empty -/
theorem xX (hle:dp l=0) (hr:ff l r) {b:Nat} {q:Int×aa} (hq:q∈iL b (pY l r)):q.2.Lo≤q.2.Hi:=by
 have hh:=Pd hle hr
 obtain ⟨y,hy,C,D,H⟩:=np.1 hq
 obtain ⟨hc,hn,B,hm⟩:=(pB hle hr).1 hy
 obtain ⟨R,F,La⟩:=y
 simp only at C D H hc hn B
 have G:=(List.getElem?_eq_some_iff.1 C).1
 have E:=(List.getElem?_eq_some_iff.1 D).1
 have L:=jZ _ _ _ _ hc
 have eR:R=R.take b++q.1::R.drop (b+1):=by rw [← (List.getElem?_eq_some_iff.1 C).2]; exact (List.take_append_drop b R).symm.trans (by rw [List.drop_eq_getElem_cons G])
 have eF:F=F.take b++q.2.Lo::F.drop (b+1):=by rw [← (List.getElem?_eq_some_iff.1 D).2]; exact (List.take_append_drop b F).symm.trans (by rw [List.drop_eq_getElem_cons E])
 rw [eR,eF,qU _ _ _ _ _ _ (by simp only [List.length_take]; omega)] at hc
 have AA:(R.take b).length=b:=by rw [List.length_take]; omega
 rw [AA,Nat.zero_add] at hc
 obtain ⟨M,⟨o,ho,K,N,O⟩,J⟩:=hc
 have A:=sS (hi:=Ms l r) (least:=dR l) (now:=r.f_) 0 (R.take b) q.1 (R.drop (b+1))
 rw [← eR,AA,Nat.zero_add,← B,H] at A
 have A:=Option.some.inj A
 have he:=qV hh (b+1) q.2.Lo (R.drop (b+1)) (F.drop (b+1)) (by rw [List.length_drop]; omega) om J
 rw [← K] at A
 split at A
 ·rename_i z
  have:=hh.hi b o om ho z
  omega
 ·omega
theorem Cf {a b:List (Int×aa)} {h k:aa} (ha:j8 a h) (hb:j8 b k) (hab: ∀ x∈b,(∃ y∈a,y.2.Lo≤x.2.Lo)∧ ∃ y∈a,x.2.Hi≤y.2.Hi) (hba: ∀ x∈a,(∃ y∈b,y.2.Lo≤x.2.Lo)∧ ∃ y∈b,x.2.Hi≤y.2.Hi):h=k:=by
 rcases ha with ⟨rfl,rfl⟩|ha
 ·rcases hb with ⟨rfl,rfl⟩|hb
  ·rfl
  ·obtain ⟨x,hx,_⟩:=hb.lo
   obtain ⟨⟨y,hy,_⟩,_⟩:=hab x hx
   cases hy
 ·rcases hb with ⟨rfl,rfl⟩|hb
  ·obtain ⟨x,hx,_⟩:=ha.lo
   obtain ⟨⟨y,hy,_⟩,_⟩:=hba x hx
   cases hy
  ·obtain ⟨M,E,AA⟩:=ha.lo
   obtain ⟨N,F,V⟩:=ha.hi
   obtain ⟨O,G,W⟩:=hb.lo
   obtain ⟨P,H,X⟩:=hb.hi
   obtain ⟨⟨AB,A,Y⟩,_⟩:=hba M E
   obtain ⟨_,J,B,Z⟩:=hba N F
   obtain ⟨⟨K,C,c⟩,_⟩:=hab O G
   obtain ⟨_,L,D,d⟩:=hab P H
   have Q:=hb.all AB A
   have R:=hb.all J B
   have S:=ha.all K C
   have T:=ha.all L D
   apply aa.ext
   ·omega
   ·omega
theorem Km (hle:dp l=0) (hr:ff l r) {b:Nat} (hb:b<l.ae.length) {h:aa} (hh:j8 (iL b (pY l r)) h):h=mm l r b:=by
 have hk:=uR (l:=mg (ck l r) b) (fun q hq=>mK hq)
 refine Cf hh hk (fun x hx=>?_) (fun x hx=>?_)
 ·have hle':=mK hx
  obtain ⟨y,hy,_,A,C⟩:=(tv hle hr hb (s:=x.1) (t:=x.2.Lo)).1 ⟨x,hx,rfl,Int.le_refl _,hle'⟩
  obtain ⟨z,hz,_,D,B⟩:=(tv hle hr hb (s:=x.1) (t:=x.2.Hi)).1 ⟨x,hx,rfl,hle',Int.le_refl _⟩
  exact ⟨⟨y,hy,A⟩,z,hz,B⟩
 ·have hle':=xX hle hr hx
  obtain ⟨y,hy,_,A,C⟩:=(tv hle hr hb (s:=x.1) (t:=x.2.Lo)).2 ⟨x,hx,rfl,Int.le_refl _,hle'⟩
  obtain ⟨z,hz,_,D,B⟩:=(tv hle hr hb (s:=x.1) (t:=x.2.Hi)).2 ⟨x,hx,rfl,hle',Int.le_refl _⟩
  exact ⟨⟨y,hy,A⟩,z,hz,B⟩
end
def o8 (ws:List cY) (b:Nat):Int:=if u7 (iL b ws)=l6 then 6 else 0
def pE (ws:List cY) (b:Nat):aa:=if u7 (iL b ws)=l6 then ⟨0,0⟩ else u7 (iL b ws)
theorem Oj {l:List (Int×aa)} {h:aa} (hh:j8 l h) (hl: ∀ q∈l,q.2.Lo≤q.2.Hi):u7 l=h:=
 Cf (uR hl) hh (fun x hx=>⟨⟨x,hx,Int.le_refl _⟩,x,hx,Int.le_refl _⟩) (fun x hx=>⟨⟨x,hx,Int.le_refl _⟩,x,hx,Int.le_refl _⟩)
theorem EM {ws:List cY} {b:Nat} (h:iL b ws=[]):o8 ws b=6∧pE ws b=⟨0,0⟩:=by
 unfold o8 pE; rw [h]; exact ⟨if_pos rfl,if_pos rfl⟩
theorem DX {ws:List cY} {b:Nat} {o:aa} (hl: ∀ q∈iL b ws,q.2.Lo≤q.2.Hi) (h:oy (iL b ws) o):o8 ws b=0∧pE ws b=o:=by
 have e:=Oj (.inr h) hl
 unfold o8 pE; rw [e]; exact ⟨if_neg h.ne,if_neg h.ne⟩
/-- what was found until now -/
def ng (b:Nat) (ws:List cY) (fd:Bool) (o:aa):Prop:=(fd=false∧iL b ws=[])∨(fd=true∧oy (iL b ws) o)
theorem GM {b:Nat} {o:aa}:ng b [] false o:= .inl ⟨rfl,rfl⟩
theorem CD {q:Int×aa} (hq:q.2.Lo≤q.2.Hi):oy [q] q.2:=⟨hq,⟨q,sm,rfl⟩,⟨q,sm,rfl⟩,fun x hx=>by simp at hx; subst hx; exact ⟨Int.le_refl _,Int.le_refl _⟩⟩
theorem Al {l:List (Int×aa)} {h:aa} {q:Int×aa} (hh:oy l h) (hq:q.2.Lo≤q.2.Hi):oy (l++[q]) ⟨min q.2.Lo h.Lo,max q.2.Hi h.Hi⟩:=by
 have:=ub (.inr hh) hq
 unfold mo at this
 rw [if_neg hh.ne] at this
 rcases this with ⟨e,_⟩|this
 ·simp at e
 ·exact this
theorem E3 {b:Nat} {ws:List cY} {fd:Bool} {o:aa} {y:cY} (h:ng b ws fd o) (hy:y.gh.length≤b):ng b (ws++[y]) fd o:=by
 unfold ng; rw [x8 hy]; exact h
theorem Cw {b:Nat} {ws:List cY} {fd:Bool} {o:aa} {y:cY} {s f e:Int} (h:ng b ws fd o) (hf:fd=false) (h1:y.gh[b]? =some s) (h2:y.iB[b]? =some f) (h3:y.lQ[b]? =some e) (hle:f≤e):ng b (ws++[y]) true ⟨f,e⟩:=by
 rcases h with ⟨_,q⟩|⟨q,_⟩
 ·right
  rw [pV h1 h2 h3,q]
  exact ⟨U,CD hle⟩
 ·rw [q] at hf; cases hf
theorem D2 {b:Nat} {ws:List cY} {fd:Bool} {o:aa} {y:cY} {s f e:Int} (h:ng b ws fd o) (hf:fd=true) (h1:y.gh[b]? =some s) (h2:y.iB[b]? =some f) (h3:y.lQ[b]? =some e) (hle:f≤e):ng b (ws++[y]) true ⟨min f o.Lo,max e o.Hi⟩:=by
 rcases h with ⟨q,_⟩|⟨_,q⟩
 ·rw [q] at hf; cases hf
 ·right
  rw [pV h1 h2 h3]
  exact ⟨U,Al q hle⟩
theorem zj {b:Nat} {ws:List cY} {fd:Bool} {o:aa} (h:ng b ws fd o) (hl: ∀ q∈iL b ws,q.2.Lo≤q.2.Hi):(fd=false→o8 ws b=6∧pE ws b=⟨0,0⟩)∧(fd=true→o8 ws b=0∧pE ws b=o):=by
 rcases h with ⟨q,h⟩|⟨q,h⟩
 ·exact ⟨fun _=>EM h,fun e=>(by rw [q] at e; cases e)⟩
 ·exact ⟨fun e=>(by rw [q] at e; cases e),fun _=>DX hl h⟩
section
variable {l:aX} {r:cx}
theorem JU (he:eA l r 0=0) {b:Nat} (hb:b<l.ae.length):o8 (pY l r) b=eP l r b∧pE (pY l r) b=eZ l r b:=by
 obtain ⟨A,hr,_,_⟩:=jH he
 have h:=Km A hr hb (uR fun q hq=>xX A hr hq)
 have ho:eA l r (ju l b)=0:=by rw [GW hb]; exact he
 unfold o8 pE
 rw [h]
 by_cases e:mm l r b=l6
 ·rw [if_pos e,if_pos e,(qt ho e).1,(qt ho e).2]; exact ⟨rfl,rfl⟩
 ·rw [if_neg e,if_neg e,(nT ho e).1,(nT ho e).2]; exact ⟨rfl,rfl⟩
theorem Ql (hle:dp l=0) (hr:ff l r) {y:cY} (hy:y∈pY l r) {b:Nat} {f e:Int} (hb:b<y.gh.length) (h2:y.iB[b]? =some f) (h3:y.lQ[b]? =some e):f≤e:=
 xX hle hr (q:=(y.gh[b],⟨f,e⟩)) (np.2 ⟨y,hy,e8 _,h2,h3⟩)
theorem A_:eA l r (ju l l.cu)=eA l r 0:=by
 by_cases h:dp l=0
 ·obtain ⟨_,A⟩:=gH h
  have hh:=A.head
  unfold gl at hh
  rw [wJ om]
 ·rw [nV h,nV h]
theorem vm (h: ¬ eA l r 0=0):eP l r l.cu=eA l r 0:=by
 have:=(nm (b:=l.cu) (by rw [A_]; exact h)).1
 rw [this,A_]
/-- rows of times that are those of ways -/
structure NX (ws:List cY):Prop where
 lens: ∀ y∈ws,y.iB.length=y.gh.length∧y.lQ.length=y.gh.length∧y.gh.length≤6
 le: ∀ y∈ws,∀ (b:Nat) f e,b<y.gh.length→y.iB[b]? =some f→y.lQ[b]? =some e→f≤e
 num:ws.length≤40000000
theorem NX.Fi {ws:List cY} (h:NX ws) {b:Nat}: ∀ q∈iL b ws,q.2.Lo≤q.2.Hi:=fun q hq=>by
 obtain ⟨y,hy,A,B,C⟩:=np.1 hq
 exact h.le y hy b _ _ (List.getElem?_eq_some_iff.1 A).1 B C
theorem Qw (hle:dp l=0) (hr:ff l r):NX (pY l r):=by
 obtain ⟨ht,B⟩:=gH hle
 have hh:=B.head
 unfold gl at hh
 refine ⟨fun y hy=>?_,fun y hy b f e hb A C=>Ql hle hr hy hb A C,uC hr.len om⟩
 obtain ⟨D,A,C⟩:=K2 hle hr hy
 exact ⟨D,A,om⟩
end
end
section
open Go.RowKit
theorem B_ (l:List cY) (az:List km): ∀ v∈(List.zipWith cY.cells l az).flatten,v.oneCell'=true:=by
 induction l generalizing az with
 |nil=>intro v hv; simp at hv
 |cons x l ih=>
  cases az with
  |nil=>intro v hv; simp at hv
  |cons a az=>
   intro v hv
   simp only [List.zipWith_cons_cons,List.flatten_cons,kB] at hv
   rcases hv with hv|hv
   ·simp only [cY.cells,wT.cells,ed,List.not_mem_nil,or_false] at hv
    rcases hv with rfl|rfl|rfl<;>rfl
   ·exact ih az v hv
theorem MI: ∀ (m:cY) (a:km) (w:World),(∀ X∈cY.owns m a,X.holds w)→ ∀ X∈cY.g0 m a,X.holds w:=fun m a w h X hX=>by
 simp only [cY.g0,ed,List.not_mem_nil,or_false] at hX
 have A:=nx (h (own a.1.1 a.1.2 lO 1 (m.gh.map iC)) (by simp [cY.owns]))
 have B:=nx (h (own a.2.1.1 a.2.1.2 lO 1 (m.iB.map iC)) (by simp [cY.owns]))
 have C:=nx (h (own a.2.2.1 a.2.2.2 lO 1 (m.lQ.map iC)) (by simp [cY.owns]))
 rcases hX with rfl|rfl|rfl
 ·simpa using A
 ·simpa using B
 ·simpa using C
theorem pA: ∀ (l:List cY) (az:List km),(aU cY.owns l az).all (·.wr)=true
 |[],_=>rfl
 |_::_,[]=>rfl
 |x::l,a::az=>by
  simp only [aU,List.all_append,cK]
  exact ⟨U,pA l az⟩
theorem Ln (l:List cY) (az:List km):(bu (aU cY.owns l az)).wr=true:=pA l az
theorem K_ {l m:List cY} {az bz:List km} (h:az.length=l.length):List.zipWith cY.cells (l++m) (az++bz)=List.zipWith cY.cells l az++List.zipWith cY.cells m bz:=List.zipWith_append h.symm
theorem ti {l:List cY} {az:List km} (h:az.length=l.length):(List.zipWith cY.cells l az).length=l.length:=by rw [List.length_zipWith]; omega
/-- what is read of a thing that is tied, and frozen -/
theorem pc {C L:List au} {a:OA} {c e sz n:Nat} {es:List (List Value)} (i:Nat) (hC:C[i]? =some (bu L).ro) (hm:own a c e sz es∈L) (hn:es.length=n):i_ C (rd a n sz es).holds:=fun w hw=>by
 subst hn
 exact nx ((show (bu L).holds w from (hw _ (aT hC):(bu L).ro.holds w)).1 _ hm)
section
variable {E:e_} {ops:Array Oper} {Q:cW} {rest:List Oper} {D:List Deferred} {L:List (Nat×Value)} {C C1:List au}
theorem St.PO {S:BS} {w0 w:World} {X C:List au} {A:au} (h:St S w0 (bu (X++[A])::C) w):St S w0 (A::bu X::C) w:=by
 have B:=h.hZ
 have D:St S w0 (X++(A::C)) w:=by simpa using B
 exact D.tied.perm (List.Perm.swap _ _ _)
theorem St.merge {S:BS} {w0 w:World} {X Y C:List au} (h:St S w0 (bu X::bu Y::C) w):St S w0 (bu (X++Y)::C) w:=by
 have A:St S w0 (bu Y::(X++C)) w:=(h.hZ).perm (List.perm_middle (a:=bu Y) (l₁:=X) (l₂:=C))
 have B:St S w0 (Y++(X++C)) w:=A.hZ
 have D:St S w0 ((X++Y)++C) w:=B.perm (by rw [← List.append_assoc]; exact List.perm_append_comm.append_right _)
 exact D.tied
end
section
variable {E:e_} {ops:Array Oper} {Q:cW} {rest:List Oper} {D:List Deferred} {L:List (Nat×Value)} {C:List au}
theorem Ab {A:au} {X X':List au} (e:X++[A]=X') (h:RJ E ops Q rest D L (bu X'::C)):RJ E ops Q rest D L (A::bu X::C):=fun a w hf hs=>h a w hf (hs.tie e)
theorem yC {X:List au} {A:au} (h:RJ E ops Q rest D L (A::bu X::C)):RJ E ops Q rest D L (bu (X++[A])::C):=fun a w hf hs=>h a w hf hs.PO
theorem JL {K:Act→World→Prop} {ms ns:List cY} {az bz:List km} (hl:az.length=ms.length) (h:KJ E K D L (bu (aU cY.owns (ms++ns) (az++bz))::C)):KJ E K D L (bu (aU cY.owns ms az)::bu (aU cY.owns ns bz)::C):=fun a w hf hs=>h a w hf (by rw [jS hl.symm]; exact hs.merge)
end
/-- the head of the ways: the way that ends here, if it may -/
def wh (l:aX) (r:cx) (rs fs:List Int) (ra fa:RA) (hz:List km) (LA:List au):Prop:=
 ((r.ah.length:Int)-(cU rs).right≤l.eM∧ ∃ la:RA,hz=[(ra,fa,la)]∧LA=[own la.1 la.2 lO 1 ((je l r rs).map iC)])∨(¬ (r.ah.length:Int)-(cU rs).right≤l.eM∧hz=[]∧LA=[])
theorem wh.len {l:aX} {r:cx} {rs fs:List Int} {ra fa:RA} {hz:List km} {LA:List au} (h:wh l r rs fs ra fa hz LA):hz.length=(gL l r rs fs).length:=by
 unfold gL
 rcases h with ⟨q,la,rfl,rfl⟩|⟨q,rfl,rfl⟩
 ·rw [if_pos q]; rfl
 ·rw [if_neg q]; rfl
theorem wh.wr {l:aX} {r:cx} {rs fs:List Int} {ra fa:RA} {hz:List km} {LA:List au} (h:wh l r rs fs ra fa hz LA):LA.all (·.wr)=true:=by
 rcases h with ⟨q,la,rfl,rfl⟩|⟨q,rfl,rfl⟩<;>rfl
theorem Ly {S:BS} {w0 w:World} {l:aX} {r:cx} {rs fs:List Int} {ra fa:RA} {hz az:List km} {LA:List au} {R:List cY} {A:au} (hh:wh l r rs fs ra fa hz LA)
 (h:St S w0 [bu [own ra.1 ra.2 lO 1 (rs.map iC),own fa.1 fa.2 lO 1 (fs.map iC)],A,bu LA,bu (aU cY.owns R az)] w):St S w0 [bu (aU cY.owns (gL l r rs fs++R) (hz++az)++[A])] w:=by
 rw [jS hh.len.symm]
 have D:St S w0 [own ra.1 ra.2 lO 1 (rs.map iC),own fa.1 fa.2 lO 1 (fs.map iC),A,bu LA,bu (aU cY.owns R az)] w:=h.hZ
 rcases hh with ⟨q,la,rfl,rfl⟩|⟨q,rfl,rfl⟩
 ·unfold gL
  rw [if_pos q]
  have B:=(St.kf [3,0,1,2,4] rfl rfl D).hZ
  have E:=(St.kf [4,1,2,0,3] rfl rfl B).hZ
  have C:St S w0 (((aU cY.owns [(⟨rs,fs,je l r rs⟩:cY)] [(ra,fa,la)]++aU cY.owns R az)++[A])++[]) w:=by
   rw [List.append_nil]
   refine E.perm ?_
   show (aU cY.owns R az++(aU cY.owns [(⟨rs,fs,je l r rs⟩:cY)] [(ra,fa,la)]++[A])).Perm _
   rw [← List.append_assoc]
   exact List.perm_append_comm.append_right _
  exact C.tied
 ·unfold gL
  rw [if_neg q]
  have B:=(St.kf [4,2] rfl rfl D).hZ
  have C:St S w0 (((aU cY.owns [] []++aU cY.owns R az)++[A])++[]) w:=by
   rw [List.append_nil]; exact B
  exact C.tied
theorem Ik {E:e_} {K:Act→World→Prop} {D:List Deferred} {L:List (Nat×Value)} {l:aX} {r:cx} {rs fs:List Int} {ra fa:RA} {hz az z:List km} {LA:List au} {R W:List cY} {A A':au} (hh:wh l r rs fs ra fa hz LA) (hW:gL l r rs fs++R=W) (hz':hz++az=z) (hA:A=A')
 (h:KJ E K D L [bu (aU cY.owns W z++[A'])]):KJ E K D L [bu [own ra.1 ra.2 lO 1 (rs.map iC),own fa.1 fa.2 lO 1 (fs.map iC)],A,bu LA,bu (aU cY.owns R az)]:=fun a w hf hs=>h a w hf (by subst hW hz' hA; exact Ly hh hs)
theorem PN {E:e_} {K:Act→World→Prop} {D:List Deferred} {L:List (Nat×Value)} {X A:au} {W:List cY} (h:KJ E K D L [bu (aU cY.owns W []++[A])]):KJ E K D L [X,A]:=fun a w hf hs=>h a w hf (by
 have B:St E.S E.w0 [A] w:=St.kf [1] rfl rfl hs
 have C:St E.S E.w0 (([]++[A])++[]) w:=B
 have e:aU cY.owns W []=[]:=by cases W<;>rfl
 rw [e]
 exact C.tied)
theorem HT {E:e_} {K:Act→World→Prop} {D:List Deferred} {L:List (Nat×Value)} {C:List au} (e sz:Nat) (k:KJ E K D L (own none 0 e sz []::C)):KJ E K D L C:=fun a w hf hs=>k a w hf (hs.qZ e sz)
end
section
open Go.RowKit
theorem iy (n lo hi:Int):
 dV Tryz.prog 153 [(vI n),(vI lo),(vI hi)] [] (vB (decide (lo≤n∧n≤hi))):=by
 refine bx kr Tryz.func153 U U fun D Q hQ hN=>?_
 try dsimp only
 refine WS fun _ B=>a_ 1 U<|RK B<|WS fun _ A=>rP 4 [] I ?_
 refine cN (t:=10) U (aP fun C=>?_) (aQ fun C=>?_)
 ·refine rP 5 [] I ?_
  refine RK A<|ao<|Q1 hQ U U U ?_
  exact cB (decide_eq_decide.2 om)
 refine rP 5 [] I ?_
 refine RK A<|ao<|Q1 hQ U U U ?_
 exact cB (cd om).symm
theorem Bz (ts:List al) (tsA:OA) (tsC:Nat) (hst: ∀ x∈ts,bJ x) (hlen:ts.length≤12):
 lD Tryz.prog 170 [(vA (bD.cells (bD.mk (bp.mk tsA ts.length tsC))))] [(rd tsA ts.length 9 (ts.map al.cells))] (fun (x:(OA)×Nat)=>(vS x.1 ((g6 ts (ts.length+1)).length) x.2)) (fun (x:(OA)×Nat)=>True) (fun (x:(OA)×Nat)=>[(own x.1 x.2 40 2 ((g6 ts (ts.length+1)).map aa.cells))]):=by
 refine di kr Tryz.func170 U U fun V Q hQ hN=>?_
 try dsimp only
 refine WS fun _ J=>fQ U fun AA=>a_ 1 U<|RK J<|WS fun _ K=>a_ 1 U<|RK K<|ai fun _ L=>WS fun _ M=>rP 1 [] I ?_
 refine RK M<|ax<|fV 40 2 ?_
 have A:(0≤ts.length+1):=by exact Nat.zero_le _
 refine bK (ι:={z:Nat×(OA)×Nat // (z.1≤ts.length+1)}) [1] [1,2] U U (fun z=>[(3,(vS z.1.2.1 ((g6 ts z.1.1).length) z.1.2.2)),(4,(vI (z.1.1:Int)))]) (fun z=>[(own z.1.2.1 z.1.2.2 40 2 ((g6 ts z.1.1).map aa.cells))]) (fun _=>rfl) (fun _=>rfl) (fun z=>ts.length+1-z.1.1) ⟨(0,none,0),A⟩ (aS U) (aI [1,2,0]) ?_
 clear A
 rintro ⟨⟨i,a,c⟩,B⟩ J6 AB
 try dsimp only at B
 try dsimp only
 refine ai fun _ N=>WS fun _ O=>rP 5 [] (mc 0 U I) ?_
 refine RK O<|bM U (aQ fun T=>?_) (aP fun T=>?_)
 ·refine bw<|ab<|ab<|ay<|KK L<|WS fun _ E=>?_
  obtain rfl:i=ts.length+1:=by omega
  refine rP 2 [] I ?_
  refine RK E<|ao<|LX hQ (a,c) [2] [] I U U U U ?_
  trivial
 refine WK N<|ai fun _ C=>ax<|WS fun _ D=>fy 2 [] (mc 0 U I) U<|rS (CL (zJ ts tsA tsC 0 (i:Int) hst hlen om) (bf [1]) U)<|a_ 3 U<|AL U cZ fun P=>AL U cZ fun R=>t_ U cp U<|fO U cp U<|RK D<|ak<|rP 2 [] (mc 1 U I) ?_
 refine cV (xs:=[.tmp 21]) (cs:=(aa.cells (eD ts (0:Int).toNat ((i:Int)-0).toNat))) U jF cZ U U U U (by simp [Value.cells,aa.aV]) U U fun S=>?_
 refine c_ (es2:=(List.map aa.cells (g6 ts (i+1)))) (m':=(g6 ts (i+1)).length) 5 U U U Ei U U sm (aZ (es:=List.map aa.cells [(eD ts (0:Int).toNat ((i:Int)-0).toNat)]) 0 U U (by simp [aa.aV]) U) (gU _) (by simp only [oo]; omega) (by simp only [maxLen,oo]; omega) (by rw [BY]; simp) sm U fun G H=>?_
 try dsimp only
 refine a_ 1 U<|aF<|aG<|KK C<|ak<|rP 3 [] I ?_
 refine aF ?_
 have F:(vI (((i+1):Nat):Int))=(vI ((i:Int)+1)):=by exact cI om
 refine aR (AB ⟨((i+1),G,H),(by first|omega|(simp only []; omega))⟩ _ _ _ U os (dw.cons U<|dw.cons U<|bo U F<|dw.nil _) (aI [3,4,5]))
theorem TA (ts:List al) (tsA:OA) (tsC:Nat) (s:cD) (hlen:ts.length≤1000000) (hside: ∀ x∈ts,0≤x.iX∧x.iX≤255):
 dV Tryz.prog 165 [(vA (bD.cells (bD.mk (bp.mk tsA ts.length tsC)))),(vA (cD.cells s))] [(rd tsA ts.length 9 (ts.map al.cells))] (vT [(vA (aa.cells (QA ts s))),(vI (E_ ts s))]):=by
 refine bx kr Tryz.func165 U U fun r Q hQ hN=>?_
 try dsimp only
 refine WS fun _ R=>fQ U fun i=>fQ U fun k=>AL U cZ fun l=>a_ 1 U<|RK R<|ai fun _ S=>WS fun _ T=>fy 1 [] (mc 2 U I) U<|rS (CL (v8 ts tsA tsC hlen) (bf [3]) U)<|rP 1 [] I ?_
 refine RK T<|cy U (fun AB=>?_) (fun AB=>?_)
 ·rw [Bool.not_eq_true'] at AB
  refine WS fun _ AA=>rS (SX (bh (xs:=[]) (cs:=(aa.cells (aa.mk 0 0))) U U (bg gn U)) U U)<|fO U cp U<|rP 1 [] I ?_
  refine RK AA<|ao<|lp hQ [0] (mc 0 U I) U ?_
  (have e:=LQ (s:=s) (by simpa using AB); rw [e.1,e.2]<;>rfl)
 rw [Bool.not_eq_false'] at AB
 refine WK S<|ai fun _ V=>WS fun _ W=>?_
 have M:=jN AB
 have Z:=kD AB
 refine fy 2 [0,1] (mc 2 U (mc 1 U I)) U<|rS (CL (q8 ts tsA tsC s asm asm) (bf [3]) U)<|rP 1 [] I ?_
 refine RK W<|cy U (bk fun D=>?_) (bj fun D=>?_)
 ·refine WS fun _ O=>rS (SX (bh (xs:=[]) (cs:=(aa.cells (aa.mk 0 0))) U U (bg gn U)) U U)<|fO U cp U<|rP 1 [] I ?_
  refine RK O<|ao<|lp hQ [0] (mc 0 U I) U ?_
  (have e:=KA AB D; rw [e.1,e.2]<;>rfl)
 refine WK V<|ai fun _ H=>pa cq [0,2,3] [1,4,5,6,7] [false,false,false] [] [(bU l 40 (aa.cells (aa.mk 0 0))),(bU k 111 (cD.cells s)),(bU i 27 (bD.cells (bD.mk (bp.mk tsA ts.length tsC)))),(rd tsA ts.length 9 (ts.map al.cells)).ro] [] kr (aI [0,1,2,3]) (aI []) ?_
 have q:=D.1
 have N:=p9 M D
 have p:(g6 ts (ts.length+1)).length=ts.length+1:=oo
 refine eS U (LW 2 U b_ U U)<|eS U (FA 0 U fx U)<|eS U (L1 (vI s.aY) 1 U b_ U U)<|eX U<|iQ [1,6] kr (eI ?_<|eI ?_<|kQ)
 rotate_left 1
 ·refine NO U U [1,4,5,7] fun T12 J=>AL U cZ fun f=>RD J 1 U<|N1 1<|NO U U [4,5,7] fun T14 P=>cX (Bz ts tsA tsC asm asm) (bf [4]) U fun Y b=>?_
  obtain ⟨d,o⟩:=Y
  try dsimp only
  refine RD P 2 U<|N1 4<|NO U U [5,7] fun T19 E=>?_
  obtain ⟨z,hz⟩:=aL (g6 ts (ts.length+1)) ((s.aY).toNat) om
  have A:=bH aa.cells hz
  refine rS (IA ((s.aY).toNat) U (ag (n:=(g6 ts (ts.length+1)).length) 0 U sm) jF dc om om)<|RD E 2 U<|N1 5<|NO U U [7] fun T20 F=>rS (oE ((s.aY).toNat) 0 (aa.cells z) U b_ (ag (n:=(g6 ts (ts.length+1)).length) 0 U sm) A U dc U U)<|RD F 2 U<|N1 7<|NO U U [] fun T21 C=>t_ U cp U<|RD C 2 U<|pW<|KK H<|WS fun _ B=>rP 1 [] I ?_
  have A:=pJ hz
  have G:=lY M 0 s.aY.toNat
  unfold lx at N
  rw [← A] at G
  refine fy 11 [0,1,0,1] (mc 1 U (mc 3 U I)) U<|rS (SX (bh (xs:=[(0,.tmp 27),(1,.tmp 33)]) (cs:=(aa.cells (aa.mk (z.Lo+s.mB.Lo) (z.Hi+s.mB.Hi)))) U U (bg gn U)) U U)<|HO U cp U<|rP 1 [] I ?_
  refine RK B<|ao<|lp hQ [0] (mc 2 U I) U ?_
  (have e:=wU AB D; subst A; rw [e.1,e.2]<;>rfl)
 refine NO U U [4,5,6,7] fun T12 J=>cX (Bz ts tsA tsC asm asm) (bf [3]) U fun X a=>?_
 obtain ⟨c,m⟩:=X
 try dsimp only
 refine RD J 1 U<|iQ [4,6] kr (eI ?_<|eI ?_<|kQ)
 rotate_left 1
 ·refine NO U U [4,5,7] fun T17 K=>AL U cZ fun g=>RD K 2 U<|N1 4<|NO U U [5,7] fun T19 E=>?_
  obtain ⟨z,hz⟩:=aL (g6 ts (ts.length+1)) ((s.aY).toNat) om
  have A:=bH aa.cells hz
  refine rS (IA ((s.aY).toNat) U (ag (n:=(g6 ts (ts.length+1)).length) 1 U sm) jF dc om om)<|RD E 2 U<|N1 5<|NO U U [7] fun T20 F=>rS (oE ((s.aY).toNat) 0 (aa.cells z) U b_ (ag (n:=(g6 ts (ts.length+1)).length) 1 U sm) A U dc U U)<|RD F 2 U<|N1 7<|NO U U [] fun T21 C=>fO U cp U<|RD C 2 U<|pW<|KK H<|WS fun _ B=>rP 1 [] I ?_
  have A:=pJ hz
  have G:=lY M 0 s.aY.toNat
  unfold lx at N
  rw [← A] at G
  refine fy 11 [0,1,0,1] (mc 0 U (mc 3 U I)) U<|rS (SX (bh (xs:=[(0,.tmp 27),(1,.tmp 33)]) (cs:=(aa.cells (aa.mk (z.Lo+s.mB.Lo) (z.Hi+s.mB.Hi)))) U U (bg gn U)) U U)<|HO U cp U<|rP 1 [] I ?_
  refine RK B<|ao<|lp hQ [0] (mc 2 U I) U ?_
  (have e:=wU AB D; subst A; rw [e.1,e.2]<;>rfl)
 refine NO U U [5,6,7] fun T17 K=>?_
 obtain ⟨z,hz⟩:=aL (g6 ts (ts.length+1)) ((s.aY).toNat) om
 have A:=bH aa.cells hz
 refine rS (IA ((s.aY).toNat) U (ag (n:=(g6 ts (ts.length+1)).length) 0 U sm) jF dc om om)<|RD K 1 U<|iQ [5,6] kr (eI ?_<|eI ?_<|kQ)
 rotate_left 1
 ·refine NO U U [5,7] fun T18 L=>AL U cZ fun h=>RD L 2 U<|N1 5<|NO U U [7] fun T20 F=>rS (oE ((s.aY).toNat) 0 (aa.cells z) U b_ (ag (n:=(g6 ts (ts.length+1)).length) 1 U sm) A U dc U U)<|RD F 2 U<|N1 7<|NO U U [] fun T21 C=>fO U cp U<|RD C 2 U<|pW<|KK H<|WS fun _ B=>rP 1 [] I ?_
  have A:=pJ hz
  have G:=lY M 0 s.aY.toNat
  unfold lx at N
  rw [← A] at G
  refine fy 11 [0,1,0,1] (mc 0 U (mc 3 U I)) U<|rS (SX (bh (xs:=[(0,.tmp 27),(1,.tmp 33)]) (cs:=(aa.cells (aa.mk (z.Lo+s.mB.Lo) (z.Hi+s.mB.Hi)))) U U (bg gn U)) U U)<|HO U cp U<|rP 1 [] I ?_
  refine RK B<|ao<|lp hQ [0] (mc 2 U I) U ?_
  (have e:=wU AB D; subst A; rw [e.1,e.2]<;>rfl)
 refine NO U U [6,7] fun T18 L=>rS (oE ((s.aY).toNat) 0 (aa.cells z) U b_ (ag (n:=(g6 ts (ts.length+1)).length) 0 U sm) A U dc U U)<|RD L 1 U<|N1 6<|NO U U [7] fun T19 E=>AL U cZ fun j=>RD E 2 U<|N1 7<|NO U U [] fun T21 C=>fO U cp U<|RD C 2 U<|pW<|KK H<|WS fun _ B=>rP 1 [] I ?_
 have A:=pJ hz
 have G:=lY M 0 s.aY.toNat
 unfold lx at N
 rw [← A] at G
 refine fy 11 [0,1,0,1] (mc 0 U (mc 3 U I)) U<|rS (SX (bh (xs:=[(0,.tmp 27),(1,.tmp 33)]) (cs:=(aa.cells (aa.mk (z.Lo+s.mB.Lo) (z.Hi+s.mB.Hi)))) U U (bg gn U)) U U)<|HO U cp U<|rP 1 [] I ?_
 refine RK B<|ao<|lp hQ [0] (mc 2 U I) U ?_
 (have e:=wU AB D; subst A; rw [e.1,e.2]<;>rfl)
theorem G6 (ts:List al) (tsA:OA) (tsC:Nat) (p:cD) (q:cD) (hlen:ts.length≤1000000) (hside: ∀ x∈ts,0≤x.iX∧x.iX≤255) (hord: ¬ q.aY<p.aY):
 dV Tryz.prog 166 [(vA (bD.cells (bD.mk (bp.mk tsA ts.length tsC)))),(vA (cD.cells p)),(vA (cD.cells q))] [(rd tsA ts.length 9 (ts.map al.cells))] (vT [(vA (aa.cells (kE ts p q))),(vI (lK ts p q))]):=by
 refine bx kr Tryz.func166 U U fun k Q hQ hN=>?_
 try dsimp only
 refine WS fun _ N=>fQ U fun f=>fQ U fun g=>fQ U fun i=>AL U cZ fun j=>a_ 1 U<|RK N<|ai fun _ O=>WS fun _ P=>fy 1 [] (mc 3 U I) U<|rS (CL (v8 ts tsA tsC hlen) (bf [4]) U)<|rP 1 [] I ?_
 refine RK P<|cy U (fun A=>?_) (fun A=>?_)
 ·rw [Bool.not_eq_true'] at A
  refine WS fun _ R=>rS (SX (bh (xs:=[]) (cs:=(aa.cells (aa.mk 0 0))) U U (bg gn U)) U U)<|fO U cp U<|rP 1 [] I ?_
  refine RK R<|ao<|lp hQ [0] (mc 0 U I) U ?_
  (have e:=uE (a:=p) (b:=q) (by simpa using A); rw [e.1,e.2]<;>rfl)
 rw [Bool.not_eq_false'] at A
 refine WK O<|ai fun _ S=>WS fun _ E=>?_
 have D:=jN A
 have M:=kD A
 refine fy 2 [0,1] (mc 3 U (mc 2 U I)) U<|rS (CL (q8 ts tsA tsC p asm asm) (bf [4]) U)<|rP 2 [] I ?_
 refine cN (t:=20) U (bk fun B=>?_) (bj fun B=>?_)
 ·refine a_ 5 U<|RK E<|aO U<|WS fun _ G=>rS (SX (bh (xs:=[]) (cs:=(aa.cells (aa.mk 0 0))) U U (bg gn U)) U U)<|fO U cp U<|rP 1 [] I ?_
  refine RK G<|ao<|lp hQ [0] (mc 0 U I) U ?_
  (have e:=oT (a:=p) (b:=q) A (fun h=>by first|exact B h.1|exact C h.2); rw [e.1,e.2]<;>rfl)
 refine fy 2 [0,1] (mc 3 U (mc 1 U I)) U<|rS (CL (q8 ts tsA tsC q asm asm) (bf [4]) U)<|rP 2 [] I ?_
 refine RK E<|cy U (bk fun C=>?_) (bj fun C=>?_)
 ·refine WS fun _ H=>rS (SX (bh (xs:=[]) (cs:=(aa.cells (aa.mk 0 0))) U U (bg gn U)) U U)<|fO U cp U<|rP 1 [] I ?_
  refine RK H<|ao<|lp hQ [0] (mc 0 U I) U ?_
  (have e:=oT (a:=p) (b:=q) A (fun h=>by first|exact B h.1|exact C h.2); rw [e.1,e.2]<;>rfl)
 refine WK S<|ai fun _ AB=>WS fun _ J=>?_
 have AA:fj ts p∧fj ts q:=⟨B,C⟩
 have T:=p9 D B
 have V:=p9 D C
 have c:=B.1
 have d:=C.1
 have Y:=xP D M C B
 unfold lx at T V
 refine rP 5 [0,1] (mc 1 U (mc 2 U I)) ?_
 refine RK J<|cy U (aP fun F=>?_) (aQ fun F=>?_)
 ·exfalso; omega
 refine WK AB<|WS fun _ K=>rP 2 [] (mc 3 U I) ?_
 have Z:=lY D p.aY.toNat (q.aY-p.aY).toNat
 refine fy 3 [0,1] (mc 2 U (mc 1 U I)) U<|rS (CL (zJ ts tsA tsC p.aY q.aY asm asm om) (bf [4]) U)<|a_ 3 U<|AL U cZ fun W=>AL U cZ fun X=>t_ U cp U<|fO U cp U<|RK K<|WS fun _ L=>fy 20 [0,1,2,0,1,2] (mc 1 U (mc 3 U (mc 4 U I))) U<|rS (SX (bh (xs:=[(0,.tmp 64),(1,.tmp 74)]) (cs:=(aa.cells (aa.mk ((((eD ts p.aY.toNat (q.aY-p.aY).toNat).Lo)+q.mB.Lo)-p.mB.Hi) ((((eD ts p.aY.toNat (q.aY-p.aY).toNat).Hi)+q.mB.Hi)-p.mB.Lo)))) U U (bg gn U)) U U)<|HO U cp U<|rP 1 [] I ?_
 refine RK L<|ao<|lp hQ [0] (mc 2 U I) U ?_
 (have e:=k7 A AA; rw [e.1,e.2,qw F]<;>rfl)
theorem Jy (ts:List al) (tsA:OA) (tsC:Nat) (p:cD) (q:cD) (hlen:ts.length≤1000000) (hside: ∀ x∈ts,0≤x.iX∧x.iX≤255):
 dV Tryz.prog 166 [(vA (bD.cells (bD.mk (bp.mk tsA ts.length tsC)))),(vA (cD.cells p)),(vA (cD.cells q))] [(rd tsA ts.length 9 (ts.map al.cells))] (vT [(vA (aa.cells (kE ts p q))),(vI (lK ts p q))]):=by
 refine bx kr Tryz.func166 U U fun u Q hQ hN=>?_
 try dsimp only
 refine WS fun _ S=>fQ U fun n=>fQ U fun o=>fQ U fun r=>AL U cZ fun s=>a_ 1 U<|RK S<|ai fun _ T=>WS fun _ AA=>fy 1 [] (mc 3 U I) U<|rS (CL (v8 ts tsA tsC hlen) (bf [4]) U)<|rP 1 [] I ?_
 refine RK AA<|cy U (fun A=>?_) (fun A=>?_)
 ·rw [Bool.not_eq_true'] at A
  refine WS fun _ V=>rS (SX (bh (xs:=[]) (cs:=(aa.cells (aa.mk 0 0))) U U (bg gn U)) U U)<|fO U cp U<|rP 1 [] I ?_
  refine RK V<|ao<|lp hQ [0] (mc 0 U I) U ?_
  (have e:=uE (a:=p) (b:=q) (by simpa using A); rw [e.1,e.2]<;>rfl)
 rw [Bool.not_eq_false'] at A
 refine WK T<|ai fun _ W=>WS fun _ E=>?_
 have D:=jN A
 have P:=kD A
 refine fy 2 [0,1] (mc 3 U (mc 2 U I)) U<|rS (CL (q8 ts tsA tsC p asm asm) (bf [4]) U)<|rP 2 [] I ?_
 refine cN (t:=20) U (bk fun B=>?_) (bj fun B=>?_)
 ·refine a_ 5 U<|RK E<|aO U<|WS fun _ G=>rS (SX (bh (xs:=[]) (cs:=(aa.cells (aa.mk 0 0))) U U (bg gn U)) U U)<|fO U cp U<|rP 1 [] I ?_
  refine RK G<|ao<|lp hQ [0] (mc 0 U I) U ?_
  (have e:=oT (a:=p) (b:=q) A (fun h=>by first|exact B h.1|exact C h.2); rw [e.1,e.2]<;>rfl)
 refine fy 2 [0,1] (mc 3 U (mc 1 U I)) U<|rS (CL (q8 ts tsA tsC q asm asm) (bf [4]) U)<|rP 2 [] I ?_
 refine RK E<|cy U (bk fun C=>?_) (bj fun C=>?_)
 ·refine WS fun _ H=>rS (SX (bh (xs:=[]) (cs:=(aa.cells (aa.mk 0 0))) U U (bg gn U)) U U)<|fO U cp U<|rP 1 [] I ?_
  refine RK H<|ao<|lp hQ [0] (mc 0 U I) U ?_
  (have e:=oT (a:=p) (b:=q) A (fun h=>by first|exact B h.1|exact C h.2); rw [e.1,e.2]<;>rfl)
 refine WK W<|ai fun _ AB=>WS fun _ J=>?_
 have R:fj ts p∧fj ts q:=⟨B,C⟩
 have X:=p9 D B
 have Y:=p9 D C
 have l:=B.1
 have m:=C.1
 have j:=xP D P C B
 unfold lx at X Y
 refine rP 5 [0,1] (mc 1 U (mc 2 U I)) ?_
 refine RK J<|cy U (aP fun F=>?_) (aQ fun F=>?_)
 ·refine WS fun _ K=>fy 3 [0,1,2] (mc 3 U (mc 1 U (mc 2 U I))) U<|rS (CL (G6 ts tsA tsC q p hlen hside om) (bf [4]) U)<|a_ 3 U<|AL U cZ fun d=>fO U cp U<|a_ 1 U<|RK K<|WS fun _ L=>rP 2 [] (mc 0 U I) ?_
  have O:kE ts q p=jP ts q p:=(k7 A ⟨C,B⟩).2
  have Z: -400000≤(kE ts q p).Lo∧(kE ts q p).Hi≤400000:=by rw [O]; omega
  have c:(kE ts q p).Lo≤(kE ts q p).Hi:=by rw [O]; omega
  refine rS (NG U ⟨om,om⟩)<|fy 2 [] (mc 0 U I) U<|rS (NG U ⟨om,om⟩)<|rS (SX (bh (xs:=[(0,.tmp 41),(1,.tmp 44)]) (cs:=(aa.cells (aa.mk (-((kE ts q p).Hi)) (-((kE ts q p).Lo))))) U U (bg gn U)) U U)<|t_ U cp U<|rP 1 [] I ?_
  refine RK L<|ao<|lp hQ [0] (mc 1 U I) U ?_
  (have e:=k7 A R; have i:=k7 A ⟨C,B⟩; rw [e.1,e.2,i.2,DH F]<;>rfl)
 refine WK AB<|WS fun _ M=>rP 2 [] (mc 3 U I) ?_
 have k:=lY D p.aY.toNat (q.aY-p.aY).toNat
 refine fy 3 [0,1] (mc 2 U (mc 1 U I)) U<|rS (CL (zJ ts tsA tsC p.aY q.aY asm asm om) (bf [4]) U)<|a_ 3 U<|AL U cZ fun f=>AL U cZ fun g=>t_ U cp U<|fO U cp U<|RK M<|WS fun _ N=>fy 20 [0,1,2,0,1,2] (mc 1 U (mc 3 U (mc 4 U I))) U<|rS (SX (bh (xs:=[(0,.tmp 64),(1,.tmp 74)]) (cs:=(aa.cells (aa.mk ((((eD ts p.aY.toNat (q.aY-p.aY).toNat).Lo)+q.mB.Lo)-p.mB.Hi) ((((eD ts p.aY.toNat (q.aY-p.aY).toNat).Hi)+q.mB.Hi)-p.mB.Lo)))) U U (bg gn U)) U U)<|HO U cp U<|rP 1 [] I ?_
 refine RK N<|ao<|lp hQ [0] (mc 2 U I) U ?_
 (have e:=k7 A R; rw [e.1,e.2,qw F]<;>rfl)
end
section
open Go.RowKit
theorem LB (l:aX) (kA:OA) (kC:Nat) (az:List RA) (cA:OA) (cC:Nat) (bA:OA) (bC:Nat) (hraw:th l az):
 dV Tryz.prog 76 [(vA (cb.cells (ly l kA kC cA cC bA bC)))] [(rd kA l.aN.length 9 (l.aN.map al.cells)),(rd cA l.aj.length 2 (List.zipWith av.cells l.aj az)),(e7 (aU av.g0 l.aj az)),(rd bA l.ae.length 4 (l.ae.map bB.cells))] (vB (decide (mF l))):=by
 have e:=hraw.sM
 have d:=hraw.sO
 have a:=hraw.oq
 have b:=hraw.sN
 refine bx kr Tryz.func76 U U fun g Q hQ hN=>?_
 try dsimp only
 refine WS fun _ O=>fQ U fun f=>a_ 1 U<|RK O<|ai fun _ P=>WS fun _ D=>a_ 1 U<|rS (LP (bD.cells (bD.mk (bp.mk kA l.aN.length kC))) 0 U b_ U U U)<|rS (CL (N8 l.aN kA kC) (bf [1]) U)<|rP 1 [] I ?_
 refine cN (t:=7) U (aP fun Z=>?_) (aQ fun Z=>?_)
 ·refine a_ 11 U<|RK D<|aO U<|WS fun _ R=>rP 1 [] I ?_
  refine RK R<|ao<|Q1 hQ U U U ?_
  exact cB (fI (.inl om)).symm
 refine rP 6 [] (mc 0 U I) ?_
 refine cN (t:=13) U (aP fun C=>?_) (aQ fun C=>?_)
 ·refine a_ 5 U<|RK D<|aO U<|WS fun _ S=>rP 1 [] I ?_
  refine RK S<|ao<|Q1 hQ U U U ?_
  exact cB (fI (.inl om)).symm
 refine rP 5 [] (mc 0 U I) ?_
 refine RK D<|cy U (aP fun N=>?_) (aQ fun N=>?_)
 ·refine WS fun _ T=>rP 1 [] I ?_
  refine RK T<|ao<|Q1 hQ U U U ?_
  exact cB (fI (.inl om)).symm
 refine WK P<|ai fun _ AA=>WS fun _ V=>rP 1 [] I ?_
 refine RK V<|ax ?_
 have A:(0≤l.aj.length)∧(AB l 0):=by exact ⟨Nat.zero_le _,fun j c hj=>absurd hj (Nat.not_lt_zero _)⟩
 refine bK (ι:={z:Nat // (z≤l.aj.length)∧(AB l z)}) [1] [0,1,2,3,4] U U (fun z=>[(3,(vI (z.1:Int)))]) (fun z=>[]) (fun _=>rfl) (fun _=>rfl) (fun z=>l.aj.length-z.1) ⟨0,A⟩ (aS U) (aI [0,1,2,3,4]) ?_
 clear A
 rintro ⟨i,⟨W,B⟩⟩ J10 F
 try dsimp only
 refine ai fun _ G=>WS fun _ H=>rP 5 [] (mc 0 U I) ?_
 refine RK H<|bM U (aQ fun C=>?_) (aP fun C=>?_)
 ·refine bw<|ab<|ab<|ay<|KK AA<|WS fun _ L=>rP 1 [] I ?_
  refine RK L<|ao<|Q1 hQ U U U ?_
  exact cB (cd (JG om om B)).symm
 refine WK G<|ai fun _ AC=>ax<|WS fun _ J=>rP 3 [] (mc 0 U I) ?_
 obtain ⟨x,hx⟩:=aL l.aj i om
 obtain ⟨xa,X⟩:=aL az i om
 have Y:(List.zipWith av.cells l.aj az)[i]? =some (av.cells x xa):=dM hx X
 refine rS (IA i U (aD 2 U) Ar dc om om)<|rS (nN ((i*2)+1) U (aD 2 U) (Nat.mul_pos om dc) fx U)<|rS (gp i 1 (vS xa.1 x.br.length xa.2) U b_ (aD 2 U) Y U dc U)<|rP 2 [] I ?_
 refine RK J<|cy U (aP fun E=>?_) (aQ fun E=>?_)
 ·refine WS fun _ K=>rP 1 [] I ?_
  refine RK K<|ao<|Q1 hQ U U U ?_
  exact cB (fI (Ix hx E)).symm
 refine bV<|aG<|KK AC<|ak<|rP 3 [] I ?_
 refine aF ?_
 have M:(vI (((i+1):Nat):Int))=(vI ((i:Int)+1)):=by exact cI om
 refine aR (F ⟨(i+1),⟨om,kN B hx om⟩⟩ _ _ _ U os (dw.cons U<|bo U M<|dw.nil _) (aI [0,1,2,3,4]))
theorem xg (d m:Int) (hd:0≤d∧d≤1000) (hm:0≤m∧m≤90000000):
 dV Tryz.prog 164 [(vI d),(vI m)] [] (vI (o7 (d*m) 1000000)):=by
 have J:=P4 (a:=d) (b:=m) (A:=1000) (B:=90000000) hd.1 hd.2 hm.1 hm.2
 refine bx kr Tryz.func164 U U fun K Q hQ hN=>?_
 try dsimp only
 refine WS fun _ C=>a_ 1 U<|RK C<|WS fun _ D=>a_ 2 U<|rS (BI U (Gf ⟨om,om⟩))<|a_ 1 U<|RK D<|ai fun _ E=>WS fun _ F=>a_ 1 U<|rS (BI U (yE om om))<|rP 1 [] I ?_
 refine RK F<|cy U (aP fun AA=>?_) (aQ fun AA=>?_)
 ·refine WS fun _ G=>a_ 1 U<|rS (BI U (s9 om om om))<|rP 2 [] I ?_
  refine RK G<|ao<|Q1 hQ U U U ?_
  exact cI (by unfold o7; omega)
 refine WK E<|WS fun _ H=>a_ 1 U<|rS (BI U (s9 om om om))<|rP 1 [] I ?_
 refine RK H<|ao<|Q1 hQ U U U ?_
 exact cI (by unfold o7; omega)
theorem Jb (c:av) (sA:OA) (sC:Nat) (hlen:c.br.length≤1000000):
 dV Tryz.prog 154 [(vA (dk.cells (dk.mk c.de (bp.mk sA c.br.length sC))))] [(rd sA c.br.length 3 (c.br.map cw.cells))] (vB (decide (eY c))):=by
 refine bx kr Tryz.func154 U U fun w0 Q hQ hN=>?_
 try dsimp only
 refine WS fun _ Ac=>fQ U fun b2=>a_ 1 U<|RK Ac<|ai fun _ Ad=>WS fun _ AK=>fy 2 [] (mc 0 U I) U<|rS (CL (iy c.de 0 1000) (aJ) U)<|rP 2 [] I ?_
 refine cN (t:=14) U (bk fun AU=>?_) (bj fun AU=>?_)
 ·refine a_ 6 U<|RK AK<|aO U<|WS fun _ Ae=>rP 1 [] I ?_
  refine RK Ae<|ao<|Q1 hQ U U U ?_
  exact cB (cd fun h=>by have q1:=h.rU; have q2:=h.len; omega).symm
 refine fy 3 [] (mc 0 U I) U<|rS (CL (iy (c.br.length:Int) 1 5) (aJ) U)<|rP 2 [] I ?_
 refine RK AK<|cy U (bk fun AV=>?_) (bj fun AV=>?_)
 ·refine WS fun _ Af=>rP 1 [] I ?_
  refine RK Af<|ao<|Q1 hQ U U U ?_
  exact cB (cd fun h=>by have q1:=h.rU; have q2:=h.len; omega).symm
 refine WK Ad<|ai fun _ Ag=>WS fun _ Ah=>rP 1 [] I ?_
 refine RK Ah<|ax ?_
 have A:(0≤c.br.length)∧(∀ (j:Nat) y,j<0→c.br[j]? =some y→fm c j y):=by exact ⟨Nat.zero_le _,fun j y hj=>absurd hj (Nat.not_lt_zero _)⟩
 refine bK (ι:={z:Nat // (z≤c.br.length)∧(∀ (j:Nat) y,j<z→c.br[j]? =some y→fm c j y)}) [1] [0,1] U U (fun z=>[(3,(vI (z.1:Int)))]) (fun z=>[]) (fun _=>rfl) (fun _=>rfl) (fun z=>c.br.length-z.1) ⟨0,A⟩ (aS U) (aI [0,1]) ?_
 clear A
 rintro ⟨i,⟨a,C⟩⟩ J9 f
 try dsimp only
 have An:=KI a C
 refine ai fun _ g=>WS fun _ l=>rP 5 [] (mc 0 U I) ?_
 refine RK l<|cy U (aP fun AW=>?_) (aQ fun AW=>?_)
 ·refine WK g<|ai fun _ Am=>ax<|WS fun _ n=>rP 3 [] (mc 0 U I) ?_
  obtain ⟨x,hx⟩:=aL c.br i om
  have b:=bH cw.cells hx
  refine rS (IA i U (aD 1 U) qE dc om om)<|rS (oE i 0 (cw.cells x) U b_ (aD 1 U) b U dc U U)<|AL U rR fun Al=>fO U sR U<|RK n<|ai fun _ B=>du cq 41 kr<|my 2 [] (mc 0 U I) U<|dS (CL (iy x.At 0 86400000) (aJ) U)<|dP 2 [] I ?_
  refine iR (t:=37) U (bk fun AX=>?_) (bj fun AX=>?_)
  ·refine lv 36 U<|cH<|RK B<|aO U<|WS fun _ p=>rP 1 [] I ?_
   refine RK p<|ao<|Q1 hQ U U U ?_
   exact cB (cd fun h=>by have q:=h.sync i x hx; unfold fm at q; (rw [gu om] at q; omega)).symm
  refine dP 3 [] I ?_
  refine ji (t:=40) U (aQ fun AY=>?_) (aP fun AY=>?_)
  ·refine dP 19 [] (mc 0 U I) ?_
   refine iR (t:=59) U (aP fun X=>?_) (aQ fun X=>?_)
   ·refine lv 14 U<|cH<|RK B<|aO U<|WS fun _ w=>rP 1 [] I ?_
    refine RK w<|ao<|Q1 hQ U U U ?_
    exact cB (cd fun h=>by have q:=h.sync i x hx; unfold fm at q; (rw [gu om] at q; omega)).symm
   refine dP 9 [] (mc 0 U I) ?_
   refine iR (t:=68) U (aP fun Y=>?_) (aQ fun Y=>?_)
   ·refine lv 5 U<|cH<|RK B<|aO U<|WS fun _ AA=>rP 1 [] I ?_
    refine RK AA<|ao<|Q1 hQ U U U ?_
    exact cB (cd fun h=>by have q:=h.sync i x hx; unfold fm at q; (rw [gu om] at q; omega)).symm
   refine dP 5 [] (mc 0 U I) ?_
   refine cH<|RK B<|bM U (aQ fun Z=>?_) (aP fun Z=>?_)
   ·refine bV<|aG<|KK Am<|ak<|rP 3 [] I ?_
    refine aF ?_
    have AO:(vI (((i+1):Nat):Int))=(vI ((i:Int)+1)):=by exact cI om
    refine aR (f ⟨(i+1),⟨om,kN C hx (by unfold fm; (rw [gu om]; omega))⟩⟩ _ _ _ U os (dw.cons U<|bo U AO<|dw.nil _) (aI [1,2]))
   refine WS fun _ AB=>rP 1 [] I ?_
   refine RK AB<|ao<|Q1 hQ U U U ?_
   exact cB (cd fun h=>by have q:=h.sync i x hx; unfold fm at q; (rw [gu om] at q; omega)).symm
  refine dP 6 [0,1] (mc 0 U (mc 1 U I)) ?_
  obtain ⟨y,hy⟩:=aL c.br (i-1) om
  have d:=bH cw.cells hy
  refine dS (IA (i-1) U (aD 2 U) qE dc om om)<|dS (nN ((i-1)*3) U (aD 2 U) (Nat.mul_pos om dc) fx U)<|dS (gp (i-1) 0 (vI y.At) U b_ (aD 2 U) d U dc U)<|dP 4 [] I ?_
  refine iR (t:=53) U (aP fun AZ=>?_) (aQ fun AZ=>?_)
  ·refine lv 20 U<|cH<|RK B<|aO U<|WS fun _ r=>rP 1 [] I ?_
   refine RK r<|ao<|Q1 hQ U U U ?_
   exact cB (cd fun h=>by have q:=h.sync i x hx; unfold fm at q; (rw [wg om hy] at q; omega)).symm
  refine dP 6 [] (mc 0 U I) ?_
  refine iR (t:=59) U (aP fun X=>?_) (aQ fun X=>?_)
  ·refine lv 14 U<|cH<|RK B<|aO U<|WS fun _ s=>rP 1 [] I ?_
   refine RK s<|ao<|Q1 hQ U U U ?_
   exact cB (cd fun h=>by have q:=h.sync i x hx; unfold fm at q; (rw [gu om] at q; omega)).symm
  refine dP 9 [] (mc 0 U I) ?_
  refine iR (t:=68) U (aP fun Y=>?_) (aQ fun Y=>?_)
  ·refine lv 5 U<|cH<|RK B<|aO U<|WS fun _ u=>rP 1 [] I ?_
   refine RK u<|ao<|Q1 hQ U U U ?_
   exact cB (cd fun h=>by have q:=h.sync i x hx; unfold fm at q; (rw [gu om] at q; omega)).symm
  refine dP 5 [] (mc 0 U I) ?_
  refine cH<|RK B<|bM U (aQ fun Z=>?_) (aP fun Z=>?_)
  ·refine bV<|aG<|KK Am<|ak<|rP 3 [] I ?_
   refine aF ?_
   have AN:(vI (((i+1):Nat):Int))=(vI ((i:Int)+1)):=by exact cI om
   refine aR (f ⟨(i+1),⟨om,kN C hx (by unfold fm; (rw [wg om hy]; omega))⟩⟩ _ _ _ U os (dw.cons U<|bo U AN<|dw.nil _) (aI [1,2]))
  refine WS fun _ v=>rP 1 [] I ?_
  refine RK v<|ao<|Q1 hQ U U U ?_
  exact cB (cd fun h=>by have q:=h.sync i x hx; unfold fm at q; (rw [gu om] at q; omega)).symm
 refine bw<|ab<|ab<|ay<|KK Ag<|ai fun _ AC=>WS fun _ AD=>rP 1 [] I ?_
 refine RK AD<|ax ?_
 have A:(0≤c.br.length)∧(tQ c 0):=by exact ⟨Nat.zero_le _,fun j y hj=>absurd hj (Nat.not_lt_zero _)⟩
 refine bK (ι:={z:Nat // (z≤c.br.length)∧(tQ c z)}) [1] [0,1] U U (fun z=>[(5,(vI (z.1:Int)))]) (fun z=>[]) (fun _=>rfl) (fun _=>rfl) (fun z=>c.br.length-z.1) ⟨0,A⟩ (aS U) (aI [0,1]) ?_
 clear A
 rintro ⟨m,⟨AQ,G⟩⟩ J28 e
 try dsimp only
 have F:=wu (P:=fm c) om C
 refine ai fun _ AE=>WS fun _ AF=>rP 5 [] (mc 0 U I) ?_
 refine RK AF<|bM U (aQ fun Aa=>?_) (aP fun Aa=>?_)
 ·refine bw<|ab<|ab<|ay<|KK AC<|WS fun _ AM=>rP 1 [] I ?_
  refine RK AM<|ao<|Q1 hQ U U U ?_
  exact cB (fI (Lm om om (wu om C) om G)).symm
 refine WK AE<|ai fun _ AG=>ax<|WS fun _ AH=>rP 1 [] I ?_
 refine RK AH<|ax ?_
 have A:(0≤m)∧(∀ y,c.br[m]? =some y→Gb c y 0):=by exact ⟨Nat.zero_le _,fun y _ j o hj=>absurd hj (Nat.not_lt_zero _)⟩
 refine bK (ι:={z:Nat // (z≤m)∧(∀ y,c.br[m]? =some y→Gb c y z)}) [1,5] [0,1] U U (fun z=>[(6,(vI (z.1:Int)))]) (fun z=>[]) (fun _=>rfl) (fun _=>rfl) (fun z=>m-z.1) ⟨0,A⟩ (aS U) (aI [0,1]) ?_
 clear A
 rintro ⟨k,⟨AR,D⟩⟩ J33 T
 try dsimp only
 refine ai fun _ AI=>WS fun _ AJ=>rP 3 [] I ?_
 refine RK AJ<|bM U (aQ fun Ab=>?_) (aP fun Ab=>?_)
 ·refine bw<|ab<|ab<|ay<|aG<|KK AG<|ak<|rP 3 [] I ?_
  refine aF ?_
  have AP:(vI (((m+1):Nat):Int))=(vI ((m:Int)+1)):=by exact cI om
  refine aR (e ⟨(m+1),⟨om,DW G D om⟩⟩ _ _ _ U os (dw.cons U<|bo U AP<|dw.nil _) (aI [0,1]))
 refine WK AI<|ai fun _ V=>ax<|ai fun _ W=>pa cq [0,1,2,3,4,5,6,7,8,9] [10,11,12,13] [false,false,false,false,false,false,false,false,false,false] [] [(bU b2 119 (dk.cells (dk.mk c.de (bp.mk sA c.br.length sC)))),(rd sA c.br.length 3 (c.br.map cw.cells)).ro] [] kr (aI [0,1]) (aI [])<|eS U (FA 1 U fx U)<|eS U (L1 (vS sA c.br.length sC) 0 U b_ U U)<|eS U (MV U) ?_
 obtain ⟨x,hx⟩:=aL c.br k om
 have b:=bH cw.cells hx
 refine eS U (IA k U (aD 1 U) qE dc om om)<|eS U (oE k 0 (cw.cells x) U b_ (aD 1 U) b U dc U U)<|eS U (FA 1 U fx U)<|eS U (L1 (vS sA c.br.length sC) 0 U b_ U U)<|eS U (MV U) ?_
 obtain ⟨y,hy⟩:=aL c.br m om
 have d:=bH cw.cells hy
 refine eS U (IA m U (aD 1 U) qE dc om om)<|eS U (oE m 0 (cw.cells y) U b_ (aD 1 U) d U dc U U)<|eX U<|iQ [10,11] kr (eI ?_<|eI ?_<|kQ)
 rotate_left 1
 ·refine NO U U [10,12,13] fun T38 M=>AL U rR fun AS=>RD M 1 U<|N1 10<|NO U U [12,13] fun T40 N=>AL U rR fun AT=>RD N 2 U<|N1 12<|NO U U [13] fun T42 O=>fO U sR U<|RD O 2 U<|N1 13<|NO U U [] fun T43 R=>t_ U sR U<|RD R 2 U<|pW<|KK W<|WS fun _ J=>rP 6 [0,1,2] (mc 2 U (mc 1 U (mc 0 U I))) ?_
  obtain ⟨Ai,Aj,Ak⟩:=uP (fun j z _ hz=>F j z hz) hy (F _ _ hy) (show k<m by omega) hx
  refine a_ 1 U<|rS (CL (xg c.de (y.At-x.At) om om) (aJ) U)<|a_ 1 U<|RK J<|WS fun _ E=>rP 10 [0,1] (mc 0 U (mc 1 U I)) ?_
  refine cN (t:=113) U (aP fun H=>?_) (aQ fun H=>?_)
  ·refine a_ 10 U<|RK E<|aO U<|WS fun _ K=>rP 1 [] I ?_
   refine RK K<|ao<|Q1 hQ U U U ?_
   exact cB (cd fun h=>by have q:=h.pair m k y x hy om hx; unfold nI at q; omega).symm
  refine rP 10 [0,1] (mc 1 U (mc 0 U I)) ?_
  refine RK E<|bM U (aQ fun Ao=>?_) (aP fun Ao=>?_)
  ·refine bV<|aG<|KK V<|ak<|rP 3 [] I ?_
   refine aF ?_
   have S:(vI (((k+1):Nat):Int))=(vI ((k:Int)+1)):=by exact cI om
   refine aR (T ⟨(k+1),⟨om,fun z hz=>by rw [hy] at hz; cases hz; exact kN (D _ hy) hx (by unfold nI; omega)⟩⟩ _ _ _ rfl os (dw.cons rfl<|dw.cons rfl<|bo rfl S<|dw.nil _) (aI [2,3]))
  refine WS fun _ L=>rP 1 [] I ?_
  refine RK L<|ao<|Q1 hQ U U U ?_
  exact cB (cd fun h=>by have q:=h.pair m k y x hy om hx; unfold nI at q; omega).symm
 refine NO U U [11,12,13] fun T38 M=>AL U rR fun AS=>RD M 1 U<|N1 11<|NO U U [12,13] fun T40 N=>AL U rR fun AT=>RD N 2 U<|N1 12<|NO U U [13] fun T42 O=>t_ U sR U<|RD O 2 U<|N1 13<|NO U U [] fun T43 R=>fO U sR U<|RD R 2 U<|pW<|KK W<|WS fun _ J=>rP 6 [0,1,2] (mc 2 U (mc 0 U (mc 1 U I))) ?_
 obtain ⟨Ai,Aj,Ak⟩:=uP (fun j z _ hz=>F j z hz) hy (F _ _ hy) (show k<m by omega) hx
 refine a_ 1 U<|rS (CL (xg c.de (y.At-x.At) om om) (aJ) U)<|a_ 1 U<|RK J<|WS fun _ E=>rP 10 [0,1] (mc 1 U (mc 0 U I)) ?_
 refine cN (t:=113) U (aP fun H=>?_) (aQ fun H=>?_)
 ·refine a_ 10 U<|RK E<|aO U<|WS fun _ K=>rP 1 [] I ?_
  refine RK K<|ao<|Q1 hQ U U U ?_
  exact cB (cd fun h=>by have q:=h.pair m k y x hy om hx; unfold nI at q; omega).symm
 refine rP 10 [0,1] (mc 0 U (mc 1 U I)) ?_
 refine RK E<|bM U (aQ fun Ao=>?_) (aP fun Ao=>?_)
 ·refine bV<|aG<|KK V<|ak<|rP 3 [] I ?_
  refine aF ?_
  have S:(vI (((k+1):Nat):Int))=(vI ((k:Int)+1)):=by exact cI om
  refine aR (T ⟨(k+1),⟨om,fun z hz=>by rw [hy] at hz; cases hz; exact kN (D _ hy) hx (by unfold nI; omega)⟩⟩ _ _ _ rfl os (dw.cons rfl<|dw.cons rfl<|bo rfl S<|dw.nil _) (aI [2,3]))
 refine WS fun _ L=>rP 1 [] I ?_
 refine RK L<|ao<|Q1 hQ U U U ?_
 exact cB (cd fun h=>by have q:=h.pair m k y x hy om hx; unfold nI at q; omega).symm
theorem CF (c:av) (sA:OA) (sC:Nat) (at_:Int) (hc:eY c) (ha:0≤at_∧at_≤90000000):
 dV Tryz.prog 178 [(vA (dk.cells (dk.mk c.de (bp.mk sA c.br.length sC)))),(vI at_)] [(rd sA c.br.length 3 (c.br.map cw.cells))] (vA (aa.cells (ij c at_))):=by
 have e:=hc.len
 have W:=hc.rU
 refine bx kr Tryz.func178 U U fun j Q hQ hN=>?_
 try dsimp only
 refine WS fun _ R=>fQ U fun g=>AL U cZ fun h=>RK R<|WS fun _ S=>AL U cZ fun d=>RK S<|ai fun _ T=>WS fun _ AA=>rP 1 [] I ?_
 refine RK AA<|ax ?_
 have A:(0≤c.br.length):=by exact Nat.zero_le _
 refine bK (ι:={z:Nat // (z≤c.br.length)}) [1,2,4,5] [1,2,3] U U (fun z=>[(6,(vI (z.1:Int)))]) (fun z=>[(bU d 40 (aa.cells (ky c at_ z.1)))]) (fun _=>rfl) (fun _=>rfl) (fun z=>c.br.length-z.1) ⟨0,A⟩ (aS U) (aI [1,2,3,0]) ?_
 clear A
 rintro ⟨i,X⟩ J8 D
 try dsimp only
 refine ai fun _ V=>WS fun _ E=>rP 5 [] (mc 1 U I) ?_
 refine RK E<|bM U (aQ fun O=>?_) (aP fun O=>?_)
 ·refine bw<|ab<|ab<|ay<|KK T<|WS fun _ J=>rP 1 [] (mc 3 U I) ?_
  refine fO U cp U<|RK J<|ao<|Ic hQ [0] (mc 0 U I) U ?_
  rw [EK hc (show c.br.length≤i by omega)]
 refine WK V<|ai fun _ B=>ax<|WS fun _ F=>rP 3 [] (mc 1 U I) ?_
 obtain ⟨x,hx⟩:=aL c.br i om
 have Z:=bH cw.cells hx
 refine rS (IA i U (aD 2 U) qE dc om om)<|rS (oE i 0 (cw.cells x) U b_ (aD 2 U) Z U dc U U)<|AL U rR fun a=>fO U sR U<|RK F<|WS fun _ G=>rP 2 [] (mc 2 U I) ?_
 have Y:=hc.uy hx
 have f:0≤o7 (c.de*max (at_-x.At) (x.At-at_)) 1000000∧o7 (c.de*max (at_-x.At) (x.At-at_)) 1000000≤90001:=uv W ha Y.1
 refine fy 8 [] (mc 0 U I) U<|rS (MX U)<|rS (CL (xg c.de (max (at_-x.At) (x.At-at_)) om om) (aJ) U)<|a_ 1 U<|RK G<|WS fun _ H=>fy 10 [] (mc 0 U I) U<|rS (SX (bh (xs:=[(0,.tmp 38),(1,.tmp 43)]) (cs:=(aa.cells (aa.mk (x.ei.Lo-(o7 (c.de*(max (at_-x.At) (x.At-at_))) 1000000)) (x.ei.Hi+(o7 (c.de*(max (at_-x.At) (x.At-at_))) 1000000))))) U U (bg gn U)) U U)<|AL U cZ fun b=>fO U cp U<|RK H<|ai fun _ C=>WS fun _ AB=>rP 2 [] I ?_
 refine RK AB<|bM U (aQ fun P=>?_) (aP fun P=>?_)
 ·refine WK C<|ak<|fy 4 [0,1] (mc 5 U (mc 0 U I)) U<|rS (MX U)<|rP 4 [0,1] (mc 5 U (mc 0 U I)) ?_
  refine rS (MN U)<|rS (SX (bh (xs:=[(0,.tmp 52),(1,.tmp 57)]) (cs:=(aa.cells (aa.mk (max ((ky c at_ i).Lo) (x.ei.Lo-(o7 (c.de*(max (at_-x.At) (x.At-at_))) 1000000))) (min ((ky c at_ i).Hi) (x.ei.Hi+(o7 (c.de*(max (at_-x.At) (x.At-at_))) 1000000)))))) U U (bg gn U)) U U)<|Ia U cp U<|aF<|aG<|KK B ?_
  have M:(aa.cells (aa.mk (max ((ky c at_ i).Lo) (x.ei.Lo-(o7 (c.de*(max (at_-x.At) (x.At-at_))) 1000000))) (min ((ky c at_ i).Hi) (x.ei.Hi+(o7 (c.de*(max (at_-x.At) (x.At-at_))) 1000000)))))=(aa.cells (ky c at_ (i+1))):=by exact congrArg aa.cells (BW hx om).symm
  rw [M]
  refine ak<|rP 3 [] I ?_
  refine aF ?_
  have N:(vI (((i+1):Nat):Int))=(vI ((i:Int)+1)):=by exact cI om
  refine aR (D ⟨(i+1),(by first|omega|(simp only []; omega))⟩ _ _ _ U os (cO 4<|bo U N<|dw.nil _) (aI [2,3,4,5]))
 refine ak<|fy 1 [] (mc 0 U I) U<|Ia U cp U<|RK C<|ak<|fy 4 [0,1] (mc 5 U (mc 0 U I)) U<|rS (MX U)<|rP 4 [0,1] (mc 5 U (mc 0 U I)) ?_
 refine rS (MN U)<|rS (SX (bh (xs:=[(0,.tmp 52),(1,.tmp 57)]) (cs:=(aa.cells (aa.mk (max (x.ei.Lo-(o7 (c.de*(max (at_-x.At) (x.At-at_))) 1000000)) (x.ei.Lo-(o7 (c.de*(max (at_-x.At) (x.At-at_))) 1000000))) (min (x.ei.Hi+(o7 (c.de*(max (at_-x.At) (x.At-at_))) 1000000)) (x.ei.Hi+(o7 (c.de*(max (at_-x.At) (x.At-at_))) 1000000)))))) U U (bg gn U)) U U)<|Ia U cp U<|aF<|aG<|KK B ?_
 have K:(aa.cells (aa.mk (max (x.ei.Lo-(o7 (c.de*(max (at_-x.At) (x.At-at_))) 1000000)) (x.ei.Lo-(o7 (c.de*(max (at_-x.At) (x.At-at_))) 1000000))) (min (x.ei.Hi+(o7 (c.de*(max (at_-x.At) (x.At-at_))) 1000000)) (x.ei.Hi+(o7 (c.de*(max (at_-x.At) (x.At-at_))) 1000000)))))=(aa.cells (ky c at_ (i+1))):=by exact congrArg aa.cells (AS hc ha hx om).symm
 rw [K]
 refine ak<|rP 3 [] I ?_
 refine aF ?_
 have L:(vI (((i+1):Nat):Int))=(vI ((i:Int)+1)):=by exact cI om
 refine aR (D ⟨(i+1),(by first|omega|(simp only []; omega))⟩ _ _ _ U os (cO 4<|bo U L<|dw.nil _) (aI [2,3,4,5]))
theorem Lt (l:aX) (kA:OA) (kC:Nat) (az:List RA) (cA:OA) (cC:Nat) (bA:OA) (bC:Nat) (n:Int) (hin:eu l az) (htr:cT l.aN=true) (hbk: ∀ b∈l.ae,jT l b) (hn:0≤n∧n<(l.ae.length:Int)):
 dV Tryz.prog 156 [(vA (cb.cells (ly l kA kC cA cC bA bC))),(vI n)] [(rd kA l.aN.length 9 (l.aN.map al.cells)),(rd cA l.aj.length 2 (List.zipWith av.cells l.aj az)),(e7 (aU av.g0 l.aj az)),(rd bA l.ae.length 4 (l.ae.map bB.cells))] (vI (lX l n.toNat)):=by
 have AA:=hin.sM
 have S:=hin.sO
 have P:=hin.oq
 have R:=hin.sN
 have T:=hin.side
 refine bx kr Tryz.func156 U U fun X Q hQ hN=>?_
 try dsimp only
 refine WS fun _ G=>fQ U fun V=>a_ 1 U<|RK G<|ai fun _ H=>WS fun _ AB=>rP 2 [] I ?_
 refine RK AB<|cy U (aP fun F=>?_) (aQ fun F=>?_)
 ·refine ai fun _ J=>dD cq [11,12] [] [] [0,1,2,3,4] [] U U U U U<|eS U (FA 0 U fx U)<|eS U (LP (bD.cells (bD.mk (bp.mk kA l.aN.length kC))) 0 U b_ U U U)<|eS U (FA 3 U fx U)<|eS U (L1 (vS bA l.ae.length bC) 0 U b_ U U) ?_
  obtain ⟨y,hy⟩:=aL l.ae 0 om
  have A:=bH bB.cells hy
  refine eS U (IA 0 U (aD 4 U) vw dc U om)<|eS U (nN (0*4) U (aD 4 U) (Nat.mul_pos om dc) fx U)<|eS U (oE 0 0 (cD.cells y.mC) U b_ (aD 4 U) A U dc U U)<|eS U (CL (TA l.aN kA kC y.mC asm asm) (bf [1]) U)<|eS U (MV U)<|eS U (EX U)<|eS U (EX U)<|eS U (AG U)<|eX U<|bX U fun T6 L=>AL U cZ fun W=>aF (L _ _ (aI [1,2,3,4,5]) ?_)
  refine bX U fun T8 M=>fO U cp U<|aF (M _ _ (aI [1,2,3,4,5]) ?_)
  refine fF U<|KK J<|WS fun _ K=>rP 3 [] (mc 0 U I) ?_
  refine RK K<|ao<|Q1 hQ U U U ?_
  (refine congrArg (Value.int .i64) ?_; rw [show n.toNat=0 by omega]; rw [yD hy,(wU htr (hbk _ (List.mem_of_getElem? hy)).1).2])
 refine WK H<|ai fun _ B=>dD cq [19,20] [] [] [0,1,2,3,4] [] U U U U U<|eS U (FA 0 U fx U)<|eS U (LP (bD.cells (bD.mk (bp.mk kA l.aN.length kC))) 0 U b_ U U U)<|eS U (FA 3 U fx U)<|eS U (L1 (vS bA l.ae.length bC) 0 U b_ U U)<|eS U (MV U)<|eS U (BI U (qk ⟨om,om⟩)) ?_
 obtain ⟨y,hy⟩:=aL l.ae (((n-1)).toNat) om
 have A:=bH bB.cells hy
 refine eS U (IA (((n-1)).toNat) U (aD 4 U) vw dc om om)<|eS U (nN ((((n-1)).toNat)*4) U (aD 4 U) (Nat.mul_pos om dc) fx U)<|eS U (oE (((n-1)).toNat) 0 (cD.cells y.mC) U b_ (aD 4 U) A U dc U U)<|eS U (FA 3 U fx U)<|eS U (L1 (vS bA l.ae.length bC) 0 U b_ U U)<|eS U (MV U) ?_
 obtain ⟨x,hx⟩:=aL l.ae ((n).toNat) om
 have N:=bH bB.cells hx
 refine eS U (IA ((n).toNat) U (aD 4 U) vw dc om om)<|eS U (nN (((n).toNat)*4) U (aD 4 U) (Nat.mul_pos om dc) fx U)<|eS U (oE ((n).toNat) 0 (cD.cells x.mC) U b_ (aD 4 U) N U dc U U)<|eS U (CL (Jy l.aN kA kC y.mC x.mC asm asm) (bf [1]) U)<|eS U (MV U)<|eS U (EX U)<|eS U (EX U)<|eS U (AG U)<|eX U<|bX U fun T11 D=>AL U cZ fun O=>aF (D _ _ (aI [1,2,3,4,5]) ?_)
 refine bX U fun T13 E=>fO U cp U<|aF (E _ _ (aI [1,2,3,4,5]) ?_)
 refine fF U<|KK B<|WS fun _ C=>rP 3 [] (mc 0 U I) ?_
 refine RK C<|ao<|Q1 hQ U U U ?_
 (refine congrArg (Value.int .i64) ?_; rw [Da om hx (by rw [show n.toNat-1=(n-1).toNat by omega]; exact hy),(k7 htr ⟨(hbk _ (List.mem_of_getElem? hy)).1,(hbk _ (List.mem_of_getElem? hx)).1⟩).2])
theorem Jo (l:aX) (kA:OA) (kC:Nat) (az:List RA) (cA:OA) (cC:Nat) (bA:OA) (bC:Nat) (n:Int) (hin:eu l az) (htr:cT l.aN=true) (hok:kW l) (hn:0≤n∧n<(l.ae.length:Int)):
 dV Tryz.prog 176 [(vA (cb.cells (ly l kA kC cA cC bA bC))),(vI n)] [(rd kA l.aN.length 9 (l.aN.map al.cells)),(rd cA l.aj.length 2 (List.zipWith av.cells l.aj az)),(e7 (aU av.g0 l.aj az)),(rd bA l.ae.length 4 (l.ae.map bB.cells))] (vI (dR l n.toNat)):=by
 have G:=hin.sM
 have F:=hin.sO
 have D:=hin.oq
 have E:=hin.sN
 have C:=hok.head
 unfold gl at C
 have H:=FV htr hok.vy n.toNat
 have AA:=hok.Q0 n.toNat om
 refine bx kr Tryz.func176 U U fun K Q hQ hN=>?_
 try dsimp only
 refine WS fun _ A=>fQ U fun J=>a_ 1 U<|RK A<|ai fun _ B=>du cq 12 kr<|my 2 [] (mc 0 U I) U<|dS (CL (Lt l kA kC az cA cC bA bC n hin htr (by exact hok.vy) hn) (bf [1,2,3,4]) U)<|dS (BI U (Gf ⟨om,om⟩))<|my 6 [] (mc 0 U I) U<|dS (BI U (s9 om om om))<|dP 1 [] I ?_
 refine cH<|RK B<|ao<|Q1 hQ U U U ?_
 exact cI (by unfold dR o7; rw [Int.mul_comm])
theorem Oa (l:aX) (kA:OA) (kC:Nat) (az:List RA) (cA:OA) (cC:Nat) (bA:OA) (bC:Nat) (hin:eu l az) (htr:cT l.aN=true):
 dV Tryz.prog 136 [(vA (cb.cells (ly l kA kC cA cC bA bC)))] [(rd kA l.aN.length 9 (l.aN.map al.cells)),(rd cA l.aj.length 2 (List.zipWith av.cells l.aj az)),(e7 (aU av.g0 l.aj az)),(rd bA l.ae.length 4 (l.ae.map bB.cells))] (vB (decide (kW l))):=by
 have Ae:=hin.sM
 have Aa:=hin.sO
 have AX:=hin.oq
 have AZ:=hin.sN
 have Ab:=hin.side
 have Ac:=jN htr
 have AW:=kD htr
 refine bx kr Tryz.func136 U U fun w0 Q hQ hN=>?_
 try dsimp only
 refine WS fun _ AM=>fQ U fun b2=>a_ 1 U<|RK AM<|ai fun _ AN=>WS fun _ D=>fy 2 [] (mc 0 U I) U<|rS (CL (iy l.gT 1 5000) (aJ) U)<|rP 2 [] I ?_
 refine cN (t:=10) U (bk fun AC=>?_) (bj fun AC=>?_)
 ·refine a_ 35 U<|RK D<|aO U<|WS fun _ AO=>rP 1 [] I ?_
  refine RK AO<|ao<|Q1 hQ U U U ?_
  exact cB (cd fun h=>by have q:=h.head; unfold gl at q; omega).symm
 refine fy 3 [] (mc 0 U I) U<|rS (CL (iy (l.aj.length:Int) 1 4) (aJ) U)<|rP 3 [] I ?_
 refine cN (t:=17) U (bk fun AD=>?_) (bj fun AD=>?_)
 ·refine a_ 28 U<|RK D<|aO U<|WS fun _ AP=>rP 1 [] I ?_
  refine RK AP<|ao<|Q1 hQ U U U ?_
  exact cB (cd fun h=>by have q:=h.head; unfold gl at q; omega).symm
 refine fy 3 [] (mc 0 U I) U<|rS (CL (iy (l.ae.length:Int) 1 6) (aJ) U)<|rP 3 [] I ?_
 refine cN (t:=24) U (bk fun AE=>?_) (bj fun AE=>?_)
 ·refine a_ 21 U<|RK D<|aO U<|WS fun _ AQ=>rP 1 [] I ?_
  refine RK AQ<|ao<|Q1 hQ U U U ?_
  exact cB (cd fun h=>by have q:=h.head; unfold gl at q; omega).symm
 refine fy 6 [] (mc 0 U I) U<|rS (CL (iy l.cu 0 ((l.ae.length:Int)-1)) (aJ) U)<|rP 3 [] I ?_
 refine cN (t:=34) U (bk fun AF=>?_) (bj fun AF=>?_)
 ·refine a_ 11 U<|RK D<|aO U<|WS fun _ AR=>rP 1 [] I ?_
  refine RK AR<|ao<|Q1 hQ U U U ?_
  exact cB (cd fun h=>by have q:=h.head; unfold gl at q; omega).symm
 refine fy 2 [] (mc 0 U I) U<|rS (CL (iy l.eM 0 3) (aJ) U)<|rP 3 [] I ?_
 refine cN (t:=40) U (bk fun AG=>?_) (bj fun AG=>?_)
 ·refine a_ 5 U<|RK D<|aO U<|WS fun _ AS=>rP 1 [] I ?_
  refine RK AS<|ao<|Q1 hQ U U U ?_
  exact cB (cd fun h=>by have q:=h.head; unfold gl at q; omega).symm
 refine fy 2 [] (mc 0 U I) U<|rS (CL (iy l.cQ 0 3) (aJ) U)<|rP 2 [] I ?_
 refine RK D<|cy U (bk fun AH=>?_) (bj fun AH=>?_)
 ·refine WS fun _ N=>rP 1 [] I ?_
  refine RK N<|ao<|Q1 hQ U U U ?_
  exact cB (cd fun h=>by have q:=h.head; unfold gl at q; omega).symm
 refine WK AN<|ai fun _ O=>WS fun _ R=>rP 1 [] I ?_
 refine RK R<|ax ?_
 have A:(0≤l.aj.length)∧(∀ (j:Nat) y,j<0→l.aj[j]? =some y→eY y):=by exact ⟨Nat.zero_le _,fun j y hj=>absurd hj (Nat.not_lt_zero _)⟩
 refine bK (ι:={z:Nat // (z≤l.aj.length)∧(∀ (j:Nat) y,j<z→l.aj[j]? =some y→eY y)}) [1] [0,1,2,3,4] U U (fun z=>[(3,(vI (z.1:Int)))]) (fun z=>[]) (fun _=>rfl) (fun _=>rfl) (fun z=>l.aj.length-z.1) ⟨0,A⟩ (aS U) (aI [0,1,2,3,4]) ?_
 clear A
 rintro ⟨i,⟨AT,F⟩⟩ J13 K
 try dsimp only
 refine ai fun _ S=>WS fun _ T=>rP 5 [] (mc 0 U I) ?_
 refine RK T<|cy U (aP fun AI=>?_) (aQ fun AI=>?_)
 ·refine WK S<|ai fun _ Af=>ax<|WS fun _ V=>rP 3 [] (mc 0 U I) ?_
  obtain ⟨x,hx⟩:=aL l.aj i om
  obtain ⟨xa,J⟩:=aL az i om
  have AV:(List.zipWith av.cells l.aj az)[i]? =some (av.cells x xa):=dM hx J
  refine rS (IA i U (aD 2 U) Ar dc om om)<|rS (oE i 0 (dk.cells (dk.mk x.de (bp.mk xa.1 x.br.length xa.2))) U b_ (aD 2 U) AV U dc U U) ?_
  have Ad:=(hin.QZ _ _ _ hx J).2
  refine rS (CL (Jb x xa.1 xa.2 asm) (aq (show i_ _ (rd xa.1 x.br.length 3 (x.br.map cw.cells)).holds from (dx 3 U (bW hx J (by simp [av.g0]))))<|aJ) U)<|rP 1 [] I ?_
  refine RK V<|bM U (bj fun Ag=>?_) (bk fun Ag=>?_)
  ·refine bV<|aG<|KK Af<|ak<|rP 3 [] I ?_
   refine aF ?_
   have u:(vI (((i+1):Nat):Int))=(vI ((i:Int)+1)):=by exact cI om
   refine aR (K ⟨(i+1),⟨om,kN (P:=fun _ y=>eY y) F hx Ag⟩⟩ _ _ _ U os (dw.cons U<|bo U u<|dw.nil _) (aI [0,1,2,3,4]))
  refine WS fun _ W=>rP 1 [] I ?_
  refine RK W<|ao<|Q1 hQ U U U ?_
  exact cB (cd fun h=>Ag (h.clock _ (aT hx))).symm
 refine bw<|ab<|ab<|ay<|KK O<|ai fun _ X=>WS fun _ Y=>rP 1 [] I ?_
 refine RK Y<|ax ?_
 have A:(0≤l.ae.length)∧(∀ (j:Nat) y,j<0→l.ae[j]? =some y→jT l y):=by exact ⟨Nat.zero_le _,fun j y hj=>absurd hj (Nat.not_lt_zero _)⟩
 refine bK (ι:={z:Nat // (z≤l.ae.length)∧(∀ (j:Nat) y,j<z→l.ae[j]? =some y→jT l y)}) [1] [0,1,2,3,4] U U (fun z=>[(4,(vI (z.1:Int)))]) (fun z=>[]) (fun _=>rfl) (fun _=>rfl) (fun z=>l.ae.length-z.1) ⟨0,A⟩ (aS U) (aI [0,1,2,3,4]) ?_
 clear A
 rintro ⟨m,⟨AU,B⟩⟩ J22 L
 try dsimp only
 refine ai fun _ Z=>WS fun _ a=>rP 5 [] (mc 0 U I) ?_
 refine RK a<|bM U (aQ fun AJ=>?_) (aP fun AJ=>?_)
 ·refine bw<|ab<|ab<|ay<|KK X<|ai fun _ e=>WS fun _ f=>rP 1 [] I ?_
  refine RK f<|ax ?_
  have A:(0≤l.ae.length)∧(∀ j,j<0→1≤lX l j):=by exact ⟨Nat.zero_le _,fun j hj=>absurd hj (Nat.not_lt_zero _)⟩
  refine bK (ι:={z:Nat // (z≤l.ae.length)∧(∀ j,j<z→1≤lX l j)}) [1] [0,1,2,3,4] U U (fun z=>[(5,(vI (z.1:Int)))]) (fun z=>[]) (fun _=>rfl) (fun _=>rfl) (fun z=>l.ae.length-z.1) ⟨0,A⟩ (aS U) (aI [0,1,2,3,4]) ?_
  clear A
  rintro ⟨n,⟨AB,C⟩⟩ J32 M
  try dsimp only
  have AY:=qd (P:=jT l) om B
  refine ai fun _ g=>WS fun _ k=>rP 5 [] (mc 0 U I) ?_
  refine RK k<|bM U (aQ fun AL=>?_) (aP fun AL=>?_)
  ·refine bw<|ab<|ab<|ay<|KK e<|WS fun _ s=>rP 1 [] I ?_
   refine RK s<|ao<|Q1 hQ U U U ?_
   exact cB (fI (zA (by unfold gl; omega) (qd om F) (qd om B) (fun j hj=>C j om))).symm
  refine WK g<|ai fun _ o=>ax<|WS fun _ p=>fy 2 [] (mc 0 U I) U<|rS (CL (Lt l kA kC az cA cC bA bC (n:Int) hin htr asm om) (bf [1,2,3,4]) U)<|rP 1 [] I ?_
  refine RK p<|bM U (aQ fun E=>?_) (aP fun E=>?_)
  ·refine bV<|aG<|KK o<|ak<|rP 3 [] I ?_
   refine aF ?_
   have w:(vI (((n+1):Nat):Int))=(vI ((n:Int)+1)):=by exact cI om
   refine aR (M ⟨(n+1),⟨om,fun j hj=>by rcases Nat.lt_or_ge j n with q|q; exact C j q; (obtain rfl:j=n:=by omega); simp only [Int.toNat_natCast] at E; omega⟩⟩ _ _ _ rfl os (dw.cons rfl<|bo rfl w<|dw.nil _) (aI [0,1,2,3,4]))
  refine WS fun _ r=>rP 1 [] I ?_
  refine RK r<|ao<|Q1 hQ U U U ?_
  exact cB (cd fun h=>by have q:=h.Q0 n om; simp only [Int.toNat_natCast] at E; omega).symm
 refine WK Z<|ai fun _ b=>ax<|ai fun _ H=>du cq 24 kr<|lv 1 U<|dS (LP (bD.cells (bD.mk (bp.mk kA l.aN.length kC))) 0 U b_ U U U)<|dP 3 [] (mc 0 U I) ?_
 obtain ⟨y,hy⟩:=aL l.ae m om
 have AA:=bH bB.cells hy
 refine dS (IA m U (aD 4 U) vw dc om om)<|dS (nN (m*4) U (aD 4 U) (Nat.mul_pos om dc) fx U)<|dS (oE m 0 (cD.cells y.mC) U b_ (aD 4 U) AA U dc U U)<|dS (CL (q8 l.aN kA kC y.mC asm asm) (bf [1]) U)<|dP 2 [] I ?_
 refine iR (t:=77) U (bk fun G=>?_) (bj fun G=>?_)
 ·refine lv 13 U<|cH<|RK H<|aO U<|WS fun _ c=>rP 1 [] I ?_
  refine RK c<|ao<|Q1 hQ U U U ?_
  exact cB (cd fun h=>by have q:=h.vy _ (aT hy); have q2:=q.2; first|exact G q.1|omega).symm
 refine my 3 [] (mc 0 U I) U<|dS (IA m U (aD 4 U) vw dc om om)<|dS (nN ((m*4)+3) U (aD 4 U) (Nat.mul_pos om dc) fx U)<|dS (gp m 3 (vI y.jG) U b_ (aD 4 U) AA U dc U)<|my 4 [] (mc 0 U I) U<|dS (CL (iy y.jG 0 ((l.aj.length:Int)-1)) (aJ) U)<|dP 2 [] I ?_
 refine cH<|RK H<|bM U (bj fun AK=>?_) (bk fun AK=>?_)
 ·refine bV<|aG<|KK b<|ak<|rP 3 [] I ?_
  refine aF ?_
  have v:(vI (((m+1):Nat):Int))=(vI ((m:Int)+1)):=by exact cI om
  refine aR (L ⟨(m+1),⟨om,kN (P:=fun _ y=>jT l y) B hy ⟨G,om,om⟩⟩⟩ _ _ _ U os (dw.cons U<|bo U v<|dw.nil _) (aI [0,1,2,3,4]))
 refine WS fun _ d=>rP 1 [] I ?_
 refine RK d<|ao<|Q1 hQ U U U ?_
 exact cB (cd fun h=>by have q:=h.vy _ (aT hy); have q2:=q.2; first|exact G q.1|omega).symm
end
section
open Go.RowKit
theorem Cj (l:aX) (kA:OA) (kC:Nat) (az:List RA) (cA:OA) (cC:Nat) (bA:OA) (bC:Nat) (hin:eu l az):
 dV Tryz.prog 111 [(vA (cb.cells (ly l kA kC cA cC bA bC)))] [(rd kA l.aN.length 9 (l.aN.map al.cells)),(rd cA l.aj.length 2 (List.zipWith av.cells l.aj az)),(e7 (aU av.g0 l.aj az)),(rd bA l.ae.length 4 (l.ae.map bB.cells))] (vI (dp l)):=by
 have N:=hin.sM
 have M:=hin.sO
 have K:=hin.oq
 have L:=hin.sN
 refine bx kr Tryz.func111 U U fun P Q hQ hN=>?_
 try dsimp only
 refine WS fun _ C=>fQ U fun O=>a_ 1 U<|RK C<|ai fun _ D=>WS fun _ E=>a_ 1 U<|rS (LP (bD.cells (bD.mk (bp.mk kA l.aN.length kC))) 0 U b_ U U U)<|rS (CL (v8 l.aN kA kC asm) (bf [1]) U)<|rP 1 [] I ?_
 refine RK E<|cy U (fun A=>?_) (fun A=>?_)
 ·rw [Bool.not_eq_true'] at A
  refine WS fun _ F=>rP 1 [] I ?_
  refine RK F<|ao<|Q1 hQ U U U ?_
  exact cI (zm (by simpa using A)).symm
 rw [Bool.not_eq_false'] at A
 refine WK D<|ai fun _ G=>WS fun _ H=>fy 1 [] (mc 0 U I) U<|rS (CL (Oa l kA kC az cA cC bA bC hin asm) (bf [1,2,3,4]) U)<|rP 1 [] I ?_
 refine RK H<|cy U (bk fun B=>?_) (bj fun B=>?_)
 ·refine WS fun _ AA=>rP 1 [] I ?_
  refine RK AA<|ao<|Q1 hQ U U U ?_
  exact cI (qb A B).symm
 refine WK G<|WS fun _ J=>rP 1 [] I ?_
 refine RK J<|ao<|Q1 hQ U U U ?_
 exact cI (xA A B).symm
theorem MP (l:aX) (kA:OA) (kC:Nat) (az:List RA) (cA:OA) (cC:Nat) (bA:OA) (bC:Nat) (s:aM) (hin:eu l az) (hok:kW l) (hs:(0≤s.gf∧s.gf≤(l.ae.length:Int)-1)∧0≤s.Read∧s.Read≤86400000):
 dV Tryz.prog 177 [(vA (cb.cells (ly l kA kC cA cC bA bC))),(vA (aM.cells s))] [(rd kA l.aN.length 9 (l.aN.map al.cells)),(rd cA l.aj.length 2 (List.zipWith av.cells l.aj az)),(e7 (aU av.g0 l.aj az)),(rd bA l.ae.length 4 (l.ae.map bB.cells))] (vT [(vA (aa.cells (cz l s))),(vB (decide ((cz l s).Lo≤(cz l s).Hi)))]):=by
 have AF:=hin.sM
 have AD:=hin.sO
 have AB:=hin.oq
 have AC:=hin.sN
 refine bx kr Tryz.func177 U U fun w0 Q hQ hN=>?_
 try dsimp only
 refine WS fun _ i=>fQ U fun b2=>fQ U fun b3=>AL U cZ fun b4=>rP 1 [] I ?_
 refine RK i<|ai fun _ j=>dD cq [11,12] [] [] [0,1,2,3,4,5,6] [] U U U U U<|eS U (FA 2 U fx U)<|eS U (L1 (vS cA l.aj.length cC) 2 U b_ U U)<|eS U (FA 3 U fx U)<|eS U (L1 (vS bA l.ae.length bC) 2 U b_ U U)<|eS U (FA 0 U fx U)<|eS U (L1 (vI s.gf) 1 U b_ U U) ?_
 obtain ⟨y,hy⟩:=aL l.ae ((s.gf).toNat) om
 have w:=bH bB.cells hy
 refine eS U (IA ((s.gf).toNat) U (aD 6 U) vw dc om om)<|eS U (nN ((((s.gf).toNat)*4)+3) U (aD 6 U) (Nat.mul_pos om dc) fx U)<|eS U (gp ((s.gf).toNat) 3 (vI y.jG) U b_ (aD 6 U) w U dc U) ?_
 have AG:=(hok.vy _ (aT hy)).2
 obtain ⟨x,hx⟩:=aL l.aj ((y.jG).toNat) om
 obtain ⟨xa,J⟩:=aL az ((y.jG).toNat) om
 have u:(List.zipWith av.cells l.aj az)[(y.jG).toNat]? =some (av.cells x xa):=dM hx J
 refine eS U (IA ((y.jG).toNat) U (aD 4 U) Ar dc om om)<|eS U (oE ((y.jG).toNat) 0 (dk.cells (dk.mk x.de (bp.mk xa.1 x.br.length xa.2))) U b_ (aD 4 U) u U dc U U)<|eX U<|bX U fun T6 m=>AL U Jl fun b7=>aF (m _ _ (aI [1,2,3,4,5,6,7]) ?_)
 refine bX U fun T8 o=>fO U O5 U<|aF (o _ _ (aI [1,2,3,4,5,6,7]) ?_)
 refine fF U<|KK j<|WS fun _ k=>rP 2 [] I ?_
 refine RK k<|ai fun _ K=>ax ?_
 have A:(0≤(0:Int)∧(0:Int)≤(fp (fX x s.Read) 86400001))∧((fp (fX x s.Read) 86400001)≤(86400001:Int)∧(86400001:Int)≤86400001):=by (have Z:=ig (p:=fX x s.Read) (n:=86400001); omega)
 refine bK (ι:={z:Int×Int // (0≤z.1∧z.1≤(fp (fX x s.Read) 86400001))∧((fp (fX x s.Read) 86400001)≤z.2∧z.2≤86400001)}) [2,3,4,6] [0,1,2,3,4,5,6,7] U U (fun z=>[(7,(vI z.1.1)),(8,(vI z.1.2))]) (fun z=>[]) (fun _=>rfl) (fun _=>rfl) (fun z=>(z.1.2-z.1.1).toNat) ⟨((0:Int),(86400001:Int)),A⟩ (aS U) (aI [0,1,2,3,4,5,6,7]) ?_
 clear A
 rintro ⟨⟨a,b⟩,⟨H,AH⟩⟩ J11 F
 try dsimp only at H AH
 try dsimp only
 have B:=hok.clock _ (aT hx)
 have Z:=ig (p:=fX x s.Read) (n:=86400001)
 have Y:=ig (p:=fY x s.Read) (n:=86400001)
 refine ai fun _ L=>WS fun _ M=>rP 3 [] I ?_
 refine RK M<|cy U (aP fun c=>?_) (aQ fun c=>?_)
 ·refine WK L<|ax<|WS fun _ N=>a_ 3 U<|rS (BI U (s9 om om om))<|a_ 1 U<|RK N<|ai fun _ O=>du cq 9 kr<|dP 3 [] (mc 0 U I) ?_
  refine dS (CL (CF x xa.1 xa.2 ((a+b)/2) asm om) (aq (show i_ _ (rd xa.1 x.br.length 3 (x.br.map cw.cells)).holds from (dx 6 U (bW hx J (by simp [av.g0]))))<|aJ) U)<|dS (SX (kK (v:=(vI ((ij x ((a+b)/2)).Hi))) U U fx Az U) U U) ?_
  have t:=qM B (show 0≤(a+b)/2∧(a+b)/2≤90000000 by omega)
  refine dP 4 [] (mc 2 U I) ?_
  refine cH<|RK O<|cy U (aP fun g=>?_) (aQ fun g=>?_)
  ·refine ak<|rP 2 [] I ?_
   refine aF<|aG ?_
   refine aR (F ⟨(a,((a+b)/2)),(by dsimp only; have hm:=kI (r:=s.Read) B (x:=(a+b)/2) om om; rcases Int.lt_or_le ((a+b)/2) (fp (fX x s.Read) 86400001) with q|q; (have C:=hm.1 q; simp only [fX,decide_eq_false_iff_not] at C; omega); (have C:=hm.2.1 q; simp only [fX,decide_eq_true_eq] at C; omega))⟩ _ _ _ rfl (by simp only []; omega) (aS rfl) (aI [0,1,2,3,4,5,6,7]))
  refine ak<|rP 3 [] I ?_
  refine aF<|aG ?_
  refine aR (F ⟨((((a+b)/2)+1),b),(by dsimp only; have hm:=kI (r:=s.Read) B (x:=(a+b)/2) om om; rcases Int.lt_or_le ((a+b)/2) (fp (fX x s.Read) 86400001) with q|q; (have C:=hm.1 q; simp only [fX,decide_eq_false_iff_not] at C; omega); (have C:=hm.2.1 q; simp only [fX,decide_eq_true_eq] at C; omega))⟩ _ _ _ rfl (by simp only []; omega) (aS rfl) (aI [0,1,2,3,4,5,6,7]))
 refine bw<|ab<|ab<|ay<|KK K<|WS fun _ P=>a_ 2 U<|RK P<|WS fun _ R=>rP 2 [] I ?_
 refine RK R<|ai fun _ S=>ax ?_
 have A:(-1≤((-1):Int)∧((-1):Int)≤(fp (fY x s.Read) 86400001)-1)∧((fp (fY x s.Read) 86400001)-1≤(86400000:Int)∧(86400000:Int)≤86400000):=by (have Y:=ig (p:=fY x s.Read) (n:=86400001); omega)
 refine bK (ι:={z:Int×Int // (-1≤z.1∧z.1≤(fp (fY x s.Read) 86400001)-1)∧((fp (fY x s.Read) 86400001)-1≤z.2∧z.2≤86400000)}) [2,3,4,6,10] [0,1,2,3,4,5,6,7] U U (fun z=>[(7,(vI z.1.1)),(8,(vI z.1.2))]) (fun z=>[]) (fun _=>rfl) (fun _=>rfl) (fun z=>(z.1.2-z.1.1).toNat) ⟨(((-1):Int),(86400000:Int)),A⟩ (aS U) (aI [0,1,2,3,4,5,6,7]) ?_
 clear A
 rintro ⟨⟨d,e⟩,⟨D,E⟩⟩ J20 G
 try dsimp only at D E
 try dsimp only
 have B:=hok.clock _ (aT hx)
 have Z:=ig (p:=fX x s.Read) (n:=86400001)
 have Y:=ig (p:=fY x s.Read) (n:=86400001)
 refine ai fun _ T=>WS fun _ AA=>rP 3 [] I ?_
 refine RK AA<|bM U (aQ fun f=>?_) (aP fun f=>?_)
 ·refine bw<|ab<|ab<|ay<|KK S<|WS fun _ X=>a_ 2 U<|rS (SX (bh (xs:=[(0,.tmp 63),(1,.tmp 64)]) (cs:=(aa.cells (aa.mk a d))) U U (bg gn U)) U U)<|a_ 3 U<|t_ U cp U<|rP 1 [] I ?_
  refine RK X<|ao<|lp hQ [0] (mc 1 U I) U ?_
  have e0:cz l s=⟨a,d⟩:=by (unfold cz qf; rw [xh hy hx,show a=(fp (fX x s.Read) 86400001) by omega,show d=(fp (fY x s.Read) 86400001)-1 by omega])
  rw [e0]
 refine WK T<|ax<|WS fun _ V=>a_ 4 U<|rS (BI U (s9 om om om))<|a_ 1 U<|RK V<|ai fun _ W=>du cq 9 kr<|dP 3 [] (mc 0 U I) ?_
 refine dS (CL (CF x xa.1 xa.2 (((d+e)+1)/2) asm om) (aq (show i_ _ (rd xa.1 x.br.length 3 (x.br.map cw.cells)).holds from (dx 6 U (bW hx J (by simp [av.g0]))))<|aJ) U)<|dS (SX (kK (v:=(vI ((ij x (((d+e)+1)/2)).Lo))) U U fx AE U) U U) ?_
 have t:=qM B (show 0≤(d+e+1)/2∧(d+e+1)/2≤90000000 by omega)
 refine dP 4 [] (mc 2 U I) ?_
 refine cH<|RK W<|cy U (aP fun h=>?_) (aQ fun h=>?_)
 ·refine ak<|rP 2 [] I ?_
  refine aF<|aG ?_
  refine aR (G ⟨((((d+e)+1)/2),e),(by dsimp only; have hm:=kI (r:=s.Read) B (x:=(d+e+1)/2) om om; rcases Int.lt_or_le ((d+e+1)/2) (fp (fY x s.Read) 86400001) with q|q; (have C:=hm.2.2.1 q; simp only [fY,decide_eq_false_iff_not] at C; omega); (have C:=hm.2.2.2 q; simp only [fY,decide_eq_true_eq] at C; omega))⟩ _ _ _ rfl (by simp only []; omega) (aS rfl) (aI [0,1,2,3,4,5,6,7]))
 refine ak<|rP 3 [] I ?_
 refine aF<|aG ?_
 refine aR (G ⟨(d,((((d+e)+1)/2)-1)),(by dsimp only; have hm:=kI (r:=s.Read) B (x:=(d+e+1)/2) om om; rcases Int.lt_or_le ((d+e+1)/2) (fp (fY x s.Read) 86400001) with q|q; (have C:=hm.2.2.1 q; simp only [fY,decide_eq_false_iff_not] at C; omega); (have C:=hm.2.2.2 q; simp only [fY,decide_eq_true_eq] at C; omega))⟩ _ _ _ rfl (by simp only []; omega) (aS rfl) (aI [0,1,2,3,4,5,6,7]))
end
section
open Go.RowKit
theorem Na (l:aX) (kA:OA) (kC:Nat) (az:List RA) (cA:OA) (cC:Nat) (bA:OA) (bC:Nat) (r:cx) (sgA:OA) (sgC:Nat) (hin:eu l az) (hsl:r.ah.length≤1000000):
 dV Tryz.prog 172 [(vA (cb.cells (ly l kA kC cA cC bA bC))),(vA (eH.cells (mA r sgA sgC)))] [(rd kA l.aN.length 9 (l.aN.map al.cells)),(rd cA l.aj.length 2 (List.zipWith av.cells l.aj az)),(e7 (aU av.g0 l.aj az)),(rd bA l.ae.length 4 (l.ae.map bB.cells)),(rd sgA r.ah.length 2 (r.ah.map aM.cells))] (vB (decide (ff l r))):=by
 have AC:=hin.sM
 have AB:=hin.sO
 have w:=hin.oq
 have AA:=hin.sN
 refine bx kr Tryz.func172 U U fun w0 Q hQ hN=>?_
 try dsimp only
 refine WS fun _ h=>fQ U fun b2=>fQ U fun b3=>a_ 1 U<|RK h<|ai fun _ j=>WS fun _ H=>fy 2 [] (mc 0 U I) U<|rS (CL (iy r.Start 0 86400000) (aJ) U)<|rP 2 [] I ?_
 refine cN (t:=11) U (bk fun X=>?_) (bj fun X=>?_)
 ·refine a_ 13 U<|RK H<|aO U<|WS fun _ k=>rP 1 [] I ?_
  refine RK k<|ao<|Q1 hQ U U U ?_
  exact cB (cd fun q=>by have C:=q.time; have u:=q.len; omega).symm
 refine fy 4 [] (mc 0 U I) U<|rS (CL (iy r.f_ r.Start 86400000) (aJ) U)<|rP 3 [] I ?_
 refine cN (t:=19) U (bk fun Z=>?_) (bj fun Z=>?_)
 ·refine a_ 5 U<|RK H<|aO U<|WS fun _ m=>rP 1 [] I ?_
  refine RK m<|ao<|Q1 hQ U U U ?_
  exact cB (cd fun q=>by have C:=q.time; have u:=q.len; omega).symm
 refine rP 5 [] (mc 0 U I) ?_
 refine RK H<|cy U (aP fun a=>?_) (aQ fun a=>?_)
 ·refine WS fun _ n=>rP 1 [] I ?_
  refine RK n<|ao<|Q1 hQ U U U ?_
  exact cB (cd fun q=>by have C:=q.time; have u:=q.len; omega).symm
 refine WK j<|ai fun _ o=>WS fun _ J=>rP 1 [] I ?_
 refine RK J<|ax ?_
 have F:(0≤r.ah.length)∧(qJ l r.ah 0):=by exact ⟨Nat.zero_le _,zy⟩
 refine bK (ι:={z:Nat // (z≤r.ah.length)∧(qJ l r.ah z)}) [2,3] [0,1,2,3,4,5,6] U U (fun z=>[(5,(vI (z.1:Int)))]) (fun z=>[]) (fun _=>rfl) (fun _=>rfl) (fun z=>r.ah.length-z.1) ⟨0,F⟩ (aS U) (aI [0,1,2,3,4,5,6]) ?_
 clear F
 rintro ⟨i,⟨p,A⟩⟩ J11 D
 try dsimp only
 refine ai fun _ K=>WS fun _ L=>rP 5 [] (mc 0 U I) ?_
 refine RK L<|bM U (aQ fun Y=>?_) (aP fun Y=>?_)
 ·refine bw<|ab<|ab<|ay<|KK o<|WS fun _ T=>rP 1 [] I ?_
  refine RK T<|ao<|Q1 hQ U U U ?_
  exact cB (fI (Co om om A om)).symm
 refine WK K<|ai fun _ E=>ax<|WS fun _ M=>rP 3 [] (mc 0 U I) ?_
 obtain ⟨x,hx⟩:=aL r.ah i om
 have s:=bH aM.cells hx
 refine rS (IA i U (aD 6 U) z5 dc om om)<|rS (oE i 0 (aM.cells x) U b_ (aD 6 U) s U dc U U)<|AL U FH fun v=>fO U wi U<|RK M<|ai fun _ N=>WS fun _ G=>fy 6 [0,1] (mc 0 U (mc 2 U I)) U<|rS (CL (iy x.gf 0 ((l.ae.length:Int)-1)) (aJ) U)<|rP 2 [] I ?_
 refine cN (t:=45) U (bk fun b=>?_) (bj fun b=>?_)
 ·refine a_ 5 U<|RK G<|aO U<|WS fun _ O=>rP 1 [] I ?_
  refine RK O<|ao<|Q1 hQ U U U ?_
  exact cB (cd fun q=>by have C:=q.sig i x hx; unfold j5 lf at C; omega).symm
 refine fy 2 [] (mc 0 U I) U<|rS (CL (iy x.Read 0 86400000) (aJ) U)<|rP 2 [] I ?_
 refine RK G<|cy U (bk fun c=>?_) (bj fun c=>?_)
 ·refine WS fun _ P=>rP 1 [] I ?_
  refine RK P<|ao<|Q1 hQ U U U ?_
  exact cB (cd fun q=>by have C:=q.sig i x hx; unfold j5 lf at C; omega).symm
 refine WK N<|ai fun _ B=>du cq 38 kr<|dP 3 [] I ?_
 refine ji (t:=53) U (aQ fun d=>?_) (aP fun d=>?_)
 ·refine lv 35 U<|cH<|RK B<|aW U<|bV<|aG<|KK E<|ak<|rP 3 [] I ?_
  refine aF ?_
  have W:(vI (((i+1):Nat):Int))=(vI ((i:Int)+1)):=by exact cI om
  refine aR (D ⟨(i+1),⟨om,lI A hx (by unfold j5 lf; (rw [HF om]; simp only; omega))⟩⟩ _ _ _ U os (dw.cons U<|dw.cons U<|bo U W<|dw.nil _) (aI [1,2,3,4,5,6,7]))
 refine dP 6 [0,1] (mc 0 U (mc 1 U I)) ?_
 obtain ⟨y,hy⟩:=aL r.ah (i-1) om
 have AE:=bH aM.cells hy
 refine dS (IA (i-1) U (aD 7 U) z5 dc om om)<|dS (nN ((i-1)*2) U (aD 7 U) (Nat.mul_pos om dc) fx U)<|dS (gp (i-1) 0 (vI y.gf) U b_ (aD 7 U) AE U dc U)<|dP 2 [] I ?_
 refine iR (t:=64) U (aP fun e=>?_) (aQ fun e=>?_)
 ·refine lv 24 U<|cH<|RK B<|aO U<|WS fun _ R=>rP 1 [] I ?_
  refine RK R<|ao<|Q1 hQ U U U ?_
  exact cB (cd fun q=>by have C:=q.sig i x hx; unfold j5 lf at C; (rw [q7 om hy] at C; omega)).symm
 refine my 6 [0,1] (mc 0 U (mc 1 U I)) U<|dS (IA (i-1) U (aD 7 U) z5 dc om om)<|dS (nN ((i-1)*2) U (aD 7 U) (Nat.mul_pos om dc) fx U)<|dS (gp (i-1) 0 (vI y.gf) U b_ (aD 7 U) AE U dc U)<|dP 2 [] I ?_
 refine ji (t:=75) U (aQ fun f=>?_) (aP fun f=>?_)
 ·refine lv 13 U<|cH<|RK B<|aW U<|bV<|aG<|KK E<|ak<|rP 3 [] I ?_
  refine aF ?_
  have V:(vI (((i+1):Nat):Int))=(vI ((i:Int)+1)):=by exact cI om
  refine aR (D ⟨(i+1),⟨om,lI A hx (by unfold j5 lf; (rw [q7 om hy]; omega))⟩⟩ _ _ _ U os (dw.cons U<|dw.cons U<|bo U V<|dw.nil _) (aI [1,2,3,4,5,6,7]))
 refine my 6 [0,1] (mc 0 U (mc 1 U I)) U<|dS (IA (i-1) U (aD 7 U) z5 dc om om)<|dS (nN (((i-1)*2)+1) U (aD 7 U) (Nat.mul_pos om dc) fx U)<|dS (gp (i-1) 1 (vI y.Read) U b_ (aD 7 U) AE U dc U)<|dP 4 [] I ?_
 refine cH<|RK B<|cy U (aP fun g=>?_) (aQ fun g=>?_)
 ·refine WS fun _ S=>rP 1 [] I ?_
  refine RK S<|ao<|Q1 hQ U U U ?_
  exact cB (cd fun q=>by have C:=q.sig i x hx; unfold j5 lf at C; (rw [q7 om hy] at C; omega)).symm
 refine bV<|aG<|KK E<|ak<|rP 3 [] I ?_
 refine aF ?_
 have AD:(vI (((i+1):Nat):Int))=(vI ((i:Int)+1)):=by exact cI om
 refine aR (D ⟨(i+1),⟨om,lI A hx (by unfold j5 lf; (rw [q7 om hy]; omega))⟩⟩ _ _ _ U os (dw.cons U<|dw.cons U<|bo U AD<|dw.nil _) (aI [1,2,3,4,5,6,7]))
end
section
open Go.RowKit
theorem NR (l:aX) (kA:OA) (kC:Nat) (az:List RA) (cA:OA) (cC:Nat) (bA:OA) (bC:Nat) (r:cx) (sgA:OA) (sgC:Nat) (hin:eu l az) (hle:dp l=0) (hr:ff l r):
 lD Tryz.prog 174 [(vA (cb.cells (ly l kA kC cA cC bA bC))),(vA (eH.cells (mA r sgA sgC)))] [(rd kA l.aN.length 9 (l.aN.map al.cells)),(rd cA l.aj.length 2 (List.zipWith av.cells l.aj az)),(e7 (aU av.g0 l.aj az)),(rd bA l.ae.length 4 (l.ae.map bB.cells)),(rd sgA r.ah.length 2 (r.ah.map aM.cells))] (fun (x:(OA)×Nat×(OA)×Nat×(OA)×Nat)=>(vA (iq.cells (iq.mk (bp.mk x.1 ((cG l l.ae.length).length) x.2.1) (bp.mk x.2.2.1 ((eT l r r.ah.length).length) x.2.2.2.1) (bp.mk x.2.2.2.2.1 ((fc l r r.ah.length).length) x.2.2.2.2.2))))) (fun (x:(OA)×Nat×(OA)×Nat×(OA)×Nat)=>True) (fun (x:(OA)×Nat×(OA)×Nat×(OA)×Nat)=>[(own x.1 x.2.1 3 1 ((cG l l.ae.length).map iC)),(own x.2.2.1 x.2.2.2.1 40 2 ((eT l r r.ah.length).map aa.cells)),(own x.2.2.2.2.1 x.2.2.2.2.2 4 1 ((fc l r r.ah.length).map pU))]):=by
 have AK:=hin.sM
 have AF:=hin.sO
 have AD:=hin.oq
 have AE:=hin.sN
 obtain ⟨w,g⟩:=gH hle
 have t:=g.head
 unfold gl at t
 have AI:=hr.len
 have AJ:=hr.time
 refine di kr Tryz.func174 U U fun w0 Q hQ hN=>?_
 try dsimp only
 refine WS fun _ n=>fQ U fun b2=>fQ U fun b3=>AL U O6 fun b4=>RK n<|WS fun _ o=>AL U O6 fun h=>RK o<|ai fun _ p=>WS fun _ q=>rP 1 [] I ?_
 refine RK q<|ax<|fV 3 1 ?_
 have A:(0≤l.ae.length):=by exact Nat.zero_le _
 refine bK (ι:={z:Nat×(OA)×Nat // (z.1≤l.ae.length)}) [2,3,4,5] [2,3,4,5,6,7,8,9] U U (fun z=>[(6,(vI (z.1.1:Int)))]) (fun z=>[(own z.1.2.1 z.1.2.2 3 1 ((cG l z.1.1).map iC)),(bU h 238 (iq.cells (iq.mk (bp.mk z.1.2.1 ((cG l z.1.1).length) z.1.2.2) (bp.mk none 0 0) (bp.mk none 0 0))))]) (fun _=>rfl) (fun _=>rfl) (fun z=>l.ae.length-z.1.1) ⟨(0,none,0),A⟩ (aS U) (aI [2,3,4,5,6,7,8,9,0,1]) ?_
 clear A
 rintro ⟨⟨b,a,c⟩,F⟩ J9 m
 try dsimp only at F
 try dsimp only
 refine ai fun _ K=>WS fun _ L=>rP 5 [] (mc 2 U I) ?_
 refine RK L<|cy U (aP fun j=>?_) (aQ fun j=>?_)
 ·refine WK K<|ai fun _ M=>ax<|dD cq [5,6,8] [1] [0] [0,1,2,3,4,5,6,7] [0,1,2,3,4,5,6,7,8,9] U U U U U<|eS U (FA 0 U fx U)<|fS U (L1 (vS a ((cG l b).length) c) 9 U b_ U U)<|eS U (LW 2 U b_ U U)<|eS U (MV U) ?_
  have AH:=mY w g (i:=b) om
  refine eS U (CL (Jo l kA kC az cA cC bA bC (b:Int) hin asm asm om) (bf [3,4,5,6]) U)<|eS U (FA 0 U fx U)<|eX U<|iD U fun T14 W=>cV (xs:=[.tmp 21]) (cs:=[(vI (dR l (b:Int).toNat))]) U cv ja U U U U (by simp [Value.cells]) U U fun y=>aF (W _ _ (aI [1,2,3,4,5,6,7,8]) (aI [1,2,3,4,5,6,7,8,9,10]) ?_)
  refine bX U fun T16 X=>?_
  refine c_ (es2:=(List.map iC (cG l (b+1)))) (m':=(cG l (b+1)).length) 9 U U U pZ U U sm (aZ (es:=List.map iC [(dR l (b:Int).toNat)]) 0 U U (by simp [bE]) U) (kb _) (by simp only [dW]; omega) (by simp only [maxLen,dW]; omega) (by rw [uX]; simp) sm U fun H AN=>?_
  try dsimp only
  refine aF (X _ _ (aI [1,2,3,4,5,6,7,8]) ?_)
  refine bX U fun T19 Y=>Up (iq.cells (iq.mk (bp.mk H ((cG l (b+1)).length) AN) (bp.mk none 0 0) (bp.mk none 0 0))) U Ai U U<|aF (Y _ _ (aI [1,2,3,4,5,6,7,8]) ?_)
  refine fF U<|aG<|KK M<|ak<|rP 3 [] I ?_
  refine aF ?_
  have e:(vI (((b+1):Nat):Int))=(vI ((b:Int)+1)):=by exact cI om
  refine aR (m ⟨((b+1),H,AN),(by first|omega|(simp only []; omega))⟩ _ _ _ U os (cO 4<|bo U e<|dw.nil _) (aI [1,2,3,4,5,6,7,8,9,10]))
 refine bw<|ab<|ab<|ay<|KK p<|ai fun _ N=>WS fun _ O=>?_
 rw [show cG l b=(cG l l.ae.length) from by rw [show b=l.ae.length by omega]]
 refine rP 1 [] I ?_
 refine RK O<|ax<|fV 40 2<|fV 4 1 ?_
 have A:(0≤r.ah.length):=by exact Nat.zero_le _
 refine bK (ι:={z:Nat×(OA)×Nat×(OA)×Nat // (z.1≤r.ah.length)}) [2,3,4,5] [2,3,4,5,6,7,8,9,10] U U (fun z=>[(7,(vI (z.1.1:Int)))]) (fun z=>[(own z.1.2.2.2.1 z.1.2.2.2.2 4 1 ((fc l r z.1.1).map pU)),(own z.1.2.1 z.1.2.2.1 40 2 ((eT l r z.1.1).map aa.cells)),(bU h 238 (iq.cells (iq.mk (bp.mk a ((cG l l.ae.length).length) c) (bp.mk z.1.2.1 ((eT l r z.1.1).length) z.1.2.2.1) (bp.mk z.1.2.2.2.1 ((fc l r z.1.1).length) z.1.2.2.2.2))))]) (fun _=>rfl) (fun _=>rfl) (fun z=>r.ah.length-z.1.1) ⟨(0,none,0,none,0),A⟩ (aS U) (aI [2,3,4,5,6,7,8,9,10,0,1,11]) ?_
 clear A
 rintro ⟨⟨i,ta,tc,sa,sc⟩,G⟩ J23 J
 try dsimp only at G
 try dsimp only
 refine ai fun _ P=>WS fun _ R=>rP 5 [] (mc 1 U I) ?_
 refine RK R<|bM U (aQ fun k=>?_) (aP fun k=>?_)
 ·refine bw<|ab<|ab<|ay<|KK N<|WS fun _ V=>?_
  rw [show eT l r i=(eT l r r.ah.length) from by rw [show i=r.ah.length by omega]]
  rw [show fc l r i=(fc l r r.ah.length) from by rw [show i=r.ah.length by omega]]
  refine rP 1 [] (mc 11 U I) ?_
  refine fO U Tr U<|RK V<|ao<|LX hQ (a,c,ta,tc,sa,sc) [8,10,9] [0] (mc 0 U I) U U U U ?_
  trivial
 refine WK P<|ai fun _ S=>ax<|ai fun _ T=>dD cq [10,11] [] [] [0,1,2,3,4,5,6,7,8,9,10,11] [] U U U U U<|eS U (LW 2 U b_ U U)<|eS U (FA 2 U fx U)<|eS U (L1 (vS sgA r.ah.length sgC) 1 U b_ U U)<|eS U (MV U) ?_
 obtain ⟨s,hs⟩:=aL r.ah i om
 have v:=bH aM.cells hs
 refine eS U (IA i U (aD 7 U) z5 dc om om)<|eS U (oE i 0 (aM.cells s) U b_ (aD 7 U) v U dc U U) ?_
 have u:=(hr.sig i s hs).1
 refine eS U (CL (MP l kA kC az cA cC bA bC s hin asm (by exact u)) (bf [3,4,5,6]) U)<|eS U (MV U)<|eS U (EX U)<|eS U (EX U)<|eS U (AG U)<|eX U<|bX U fun T29 Z=>AL U cZ fun AA=>aF (Z _ _ (aI [1,2,3,4,5,6,7,8,9,10,11,12]) ?_)
 refine bX U fun T31 d=>fO U cp U<|aF (d _ _ (aI [1,2,3,4,5,6,7,8,9,10,11,12]) ?_)
 refine fF U<|KK T<|WS fun _ AM=>rP 3 [0,1] (mc 12 U (mc 0 U I)) ?_
 refine cV (xs:=[.tmp 44]) (cs:=(aa.cells (cz l s))) U jF cZ U U U U (by simp [Value.cells,aa.aV]) U U fun AB=>?_
 refine c_ (es2:=(List.map aa.cells (eT l r (i+1)))) (m':=(eT l r (i+1)).length) 12 U U U Ei U U sm (aZ (es:=List.map aa.cells [(cz l s)]) 0 U U (by simp [aa.aV]) U) (gU _) (by rw [rl om]; omega) (by rw [rl om]; simp only [maxLen]; omega) (by rw [D5 hs]; simp) sm U fun B C=>?_
 try dsimp only
 refine a_ 1 U<|jf (vs:=[(vS B ((eT l r (i+1)).length) C)]) (cs':=(iq.cells (iq.mk (bp.mk a ((cG l l.ae.length).length) c) (bp.mk B ((eT l r (i+1)).length) C) (bp.mk sa ((fc l r i).length) sc)))) (C':=[_,_,_,_,_,_,_,_,_,_,_,_,_,(bU h 238 (iq.cells (iq.mk (bp.mk a ((cG l l.ae.length).length) c) (bp.mk B ((eT l r (i+1)).length) C) (bp.mk sa ((fc l r i).length) sc))))]) 13 U U U UX U U U U U U U<|RK AM<|ak<|rP 3 [] (mc 13 U I) ?_
 refine cV (xs:=[.tmp 50]) (cs:=[(vB (decide ((cz l s).Lo≤(cz l s).Hi)))]) U O0 VL U U U U (by simp [Value.cells]) U U fun AC=>?_
 refine c_ (es2:=(List.map pU (fc l r (i+1)))) (m':=(fc l r (i+1)).length) 12 U U U RV U U sm (aZ (es:=List.map pU [(decide ((cz l s).Lo≤(cz l s).Hi))]) 0 U U (by simp [zK]) U) (Hl _) (by rw [uU om]; omega) (by rw [uU om]; simp only [maxLen]; omega) (by rw [E1 hs]; simp) sm U fun D E=>?_
 try dsimp only
 refine a_ 1 U<|jf (vs:=[(vS D ((fc l r (i+1)).length) E)]) (cs':=(iq.cells (iq.mk (bp.mk a ((cG l l.ae.length).length) c) (bp.mk B ((eT l r (i+1)).length) C) (bp.mk D ((fc l r (i+1)).length) E)))) (C':=[_,_,_,_,_,_,_,_,_,_,_,_,_,_,(bU h 238 (iq.cells (iq.mk (bp.mk a ((cG l l.ae.length).length) c) (bp.mk B ((eT l r (i+1)).length) C) (bp.mk D ((fc l r (i+1)).length) E))))]) 14 U U U Tg U U U U U U U<|aF<|aG<|KK S<|ak<|a_ 2 U<|rP 1 [] I ?_
 refine aF ?_
 have f:(vI (((i+1):Nat):Int))=(vI ((i:Int)+1)):=by exact cI om
 refine aR (J ⟨((i+1),B,C,D,E),(by first|omega|(simp only []; omega))⟩ _ _ _ U os (cO 4<|bo U f<|dw.nil _) (aI [3,4,5,6,7,8,9,10,11,12,13,14]))
theorem Lp (r:cx) (sgA:OA) (sgC:Nat) (l:aX) (wA:OA) (wC:Nat) (tA:OA) (tC:Nat) (bA:OA) (bC:Nat) (rs:List Int) (rsA:OA) (rsC:Nat) (hle:dp l=0) (hr:ff l r) (hn:rs.length≤l.ae.length) (hrs: ∀ x∈rs,0≤x→x<(r.ah.length:Int)):
 lD Tryz.prog 175 [(vA (eH.cells (mA r sgA sgC))),(vA (iq.cells (iq.mk (bp.mk wA ((cG l l.ae.length).length) wC) (bp.mk tA ((eT l r r.ah.length).length) tC) (bp.mk bA ((fc l r r.ah.length).length) bC)))),(vS rsA rs.length rsC)] [(rd sgA r.ah.length 2 (r.ah.map aM.cells)),(rd wA ((cG l l.ae.length).length) 1 ((cG l l.ae.length).map iC)),(rd tA ((eT l r r.ah.length).length) 2 ((eT l r r.ah.length).map aa.cells)),(rd bA ((fc l r r.ah.length).length) 1 ((fc l r r.ah.length).map pU)),(rd rsA rs.length 1 (rs.map iC))] (fun (x:(OA)×Nat)=>(vS x.1 ((je l r rs).length) x.2)) (fun (x:(OA)×Nat)=>True) (fun (x:(OA)×Nat)=>[(own x.1 x.2 3 1 ((je l r rs).map iC))]):=by
 obtain ⟨J,D⟩:=gH hle
 have v:=D.head
 unfold gl at v
 have AG:=hr.len
 have AH:=hr.time
 have w:=Fy (l:=l) (rs:=rs) ⟨om,om⟩ (fun b hb=>by have:=mY J D (i:=b) om; omega) hrs
 have AE:=dW (l:=l) (n:=l.ae.length)
 have AI:=rl (l:=l) (Nat.le_refl r.ah.length)
 refine di kr Tryz.func175 U U fun w0 Q hQ hN=>?_
 try dsimp only
 refine WS fun _ h=>fQ U fun b2=>fQ U fun b3=>a_ 1 U<|RK h<|WS fun _ m=>rP 2 [] I ?_
 refine xS (n:=rs.length) (es:=(List.map iC (List.replicate rs.length 0))) U U U pZ om om (by simp only [maxLen]; omega) (by rw [List.map_replicate]; rfl) U fun E=>?_
 try dsimp only
 refine a_ 1 U<|RK m<|WS fun _ p=>fy 3 [] (mc 2 U I) U<|RK p<|ai fun _ q=>WS fun _ t=>rP 4 [] I ?_
 refine RK t<|ax ?_
 rw [show (own (some ⟨E,0,none⟩) rs.length 3 1 (List.map iC (List.replicate rs.length 0)))=(own (some ⟨E,0,none⟩) rs.length 3 1 ((jv l r rs rs.length).map iC)) from by rw [GO]]
 have B:(rs.length≤rs.length):=by exact Nat.le_refl _
 have u:(vI ((jw l r rs rs.length).2))=(vI r.f_):=by rw [ux]
 refine bK (ι:={z:Nat // (z≤rs.length)}) [2,3,4,7] [1,2,3,4,5,6,7] U U (fun z=>[(8,(vI ((jw l r rs z.1).2))),(9,(vI ((z.1:Int)-1)))]) (fun z=>[(own (some ⟨E,0,none⟩) rs.length 3 1 ((jv l r rs z.1).map iC))]) (fun _=>rfl) (fun _=>rfl) (fun z=>z.1) ⟨rs.length,B⟩ (bo U u<|aS U) (aI [1,2,3,4,5,6,7,0]) ?_
 clear B
 rintro ⟨j,AA⟩ J10 F
 try dsimp only
 have AF:=Hp (l:=l) (r:=r) (rs:=rs) (j:=j) om
 refine ai fun _ L=>WS fun _ M=>rP 2 [] I ?_
 refine RK M<|bM U (aQ fun g=>?_) (aP fun g=>?_)
 ·refine bw<|ab<|ab<|ay<|KK q<|WS fun _ R=>rP 1 [] I ?_
  rw [show (Value.slice (some ⟨E,0,none⟩) rs.length rs.length)=(Value.slice (some ⟨E,0,none⟩) ((je l r rs).length) rs.length) from by rw [show (je l r rs).length=rs.length from q_ _ _]]
  rw [show jv l r rs j=je l r rs from by rw [show j=0 by omega]; exact ER]
  refine rP 1 [] I ?_
  refine RK R<|ao<|LX hQ ((some ⟨E,0,none⟩),rs.length) [7] [] I U U U U ?_
  trivial
 refine WK L<|ai fun _ G=>ax<|ai fun _ H=>WS fun _ N=>rP 2 [] I ?_
 have AD:=w (rs.length-j) j om
 obtain ⟨x,hx⟩:=aL rs (j-1) om
 have d:=bH iC hx
 refine rS (IA (j-1) U (aD 6 U) cv dc om om)<|rS (gp (j-1) 0 (vI x) U b_ (aD 6 U) d U dc U)<|rP 1 [] I ?_
 refine RK N<|bM U (aQ fun A=>?_) (aP fun A=>?_)
 ·refine WK H<|WS fun _ P=>rP 3 [] I ?_
  obtain ⟨AL,c⟩:=aL (jv l r rs j) (j-1) om
  have hx25m:=bH iC c
  refine rS (IA (j-1) U (ag (n:=rs.length) 7 U sq) cv dc om om) ?_
  have V:((jv l r rs j).set (j-1) ((jw l r rs j).2))=(jv l r rs (j-1)):=by (rw [← yJ om hx]; congr 1; unfold tM; (rw [if_neg A]; done))
  refine eC (k:=(j-1)) (o:=0) (vs:=[(vI ((jw l r rs j).2))]) (es':=(List.map iC (jv l r rs (j-1)))) (C':=[_,_,_,_,_,_,_,(own (some ⟨E,0,none⟩) rs.length 3 1 (List.map iC (jv l r rs (j-1))))]) 7 U U U B1 U U U U hx25m U dc (by exact (List.map_set (f:=iC) (l:=(jv l r rs j)) (i:=(j-1)) (a:=(jw l r rs j).2)).symm.trans (congrArg _ V)) U<|RK P<|ak<|rP 4 [] (mc 0 U I) ?_
  obtain ⟨y,hy⟩:=aL (cG l l.ae.length) (j-1) om
  have K:=bH iC hy
  refine rS (IA (j-1) U (aD 3 U) cv dc om om)<|rS (gp (j-1) 0 (vI y) U b_ (aD 3 U) K U dc U) ?_
  have C:=ui hy
  have AN:=mY J D (i:=j-1) om
  rw [← C] at AN
  refine a_ 2 U<|aF<|aG<|KK G<|ak<|rP 3 [] I ?_
  refine aF ?_
  have W:(vI ((jw l r rs (j-1)).2))=(vI (((jw l r rs j).2)-y)):=by exact cI (by rw [pz om hx]; simp only; unfold tM; rw [C]; (rw [if_neg A]; done))
  have X:(vI ((((j-1):Nat):Int)-1))=(vI (((j:Int)-1)-1)):=by exact cI om
  refine aR (F ⟨(j-1),(by first|omega|(simp only []; omega))⟩ _ _ _ U os (cO 4<|bo U W<|bo U X<|dw.nil _) (aI [0,1,2,3,4,5,6,7]))
 refine du cq 12 kr<|dP 5 [] (mc 0 U I) ?_
 refine dS (IA (j-1) U (aD 6 U) cv dc om om)<|dS (gp (j-1) 0 (vI x) U b_ (aD 6 U) d U dc U) ?_
 have AJ:=hrs x (aT hx) A
 obtain ⟨z,hz⟩:=aL (eT l r r.ah.length) ((x).toNat) om
 have AC:=bH aa.cells hz
 refine dS (IA ((x).toNat) U (aD 4 U) jF dc om om)<|dS (nN ((((x).toNat)*2)+1) U (aD 4 U) (Nat.mul_pos om dc) fx U) ?_
 obtain ⟨s,hs,e⟩:=K1 hz
 have AB:=xI l s
 rw [← e] at AB
 have Y:Ms l r x=z.Hi:=by rw [EE hs,e]
 refine dS (gp ((x).toNat) 1 (vI z.Hi) U b_ (aD 4 U) AC U dc U)<|dS (MN U)<|lv 1 U<|cH<|RK H<|WS fun _ O=>rP 3 [] I ?_
 obtain ⟨AK,Z⟩:=aL (jv l r rs j) (j-1) om
 have hx19m:=bH iC Z
 refine rS (IA (j-1) U (ag (n:=rs.length) 7 U sq) cv dc om om) ?_
 have S:((jv l r rs j).set (j-1) (min ((jw l r rs j).2) z.Hi))=(jv l r rs (j-1)):=by (rw [← yJ om hx]; congr 1; unfold tM; (rw [if_pos A,Y]; done))
 refine eC (k:=(j-1)) (o:=0) (vs:=[(vI (min ((jw l r rs j).2) z.Hi))]) (es':=(List.map iC (jv l r rs (j-1)))) (C':=[_,_,_,_,_,_,_,(own (some ⟨E,0,none⟩) rs.length 3 1 (List.map iC (jv l r rs (j-1))))]) 7 U U U B1 U U U U hx19m U dc (by exact (List.map_set (f:=iC) (l:=(jv l r rs j)) (i:=(j-1)) (a:=(min ((jw l r rs j).2) z.Hi))).symm.trans (congrArg _ S)) U<|RK O<|ak<|rP 4 [] (mc 0 U I) ?_
 obtain ⟨y,hy⟩:=aL (cG l l.ae.length) (j-1) om
 have K:=bH iC hy
 refine rS (IA (j-1) U (aD 3 U) cv dc om om)<|rS (gp (j-1) 0 (vI y) U b_ (aD 3 U) K U dc U) ?_
 have C:=ui hy
 have AN:=mY J D (i:=j-1) om
 rw [← C] at AN
 refine a_ 2 U<|aF<|aG<|KK G<|ak<|rP 3 [] I ?_
 refine aF ?_
 have T:(vI ((jw l r rs (j-1)).2))=(vI ((min ((jw l r rs j).2) z.Hi)-y)):=by exact cI (by rw [pz om hx]; simp only; unfold tM; rw [C]; (rw [if_pos A,Y]; done))
 have AM:(vI ((((j-1):Nat):Int)-1))=(vI (((j:Int)-1)-1)):=by exact cI om
 refine aR (F ⟨(j-1),(by first|omega|(simp only []; omega))⟩ _ _ _ U os (cO 4<|bo U T<|bo U AM<|dw.nil _) (aI [0,1,2,3,4,5,6,7]))
end
end Go.Proofs.YtadjgjnicdcjbaaGreatDoor
