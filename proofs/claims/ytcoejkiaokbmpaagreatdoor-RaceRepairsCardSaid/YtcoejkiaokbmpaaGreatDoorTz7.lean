/-
 The statement raceRepairs_said, part 7 of 8: Rx4, B11, Ends5, Can, False, Sim, Told, Clear, Ways, Async, WayM, DrawB, B9, R1, Y1, Y2, Y3, Y5, Rx5, Rs5, Rx8, Rx9, Rx10.
 Conditions: none.
-/
import Derived.Test.YtcoejkiaokbmpaaGreatDoorTz1
import Derived.Test.YtcoejkiaokbmpaaGreatDoorTz2
import Derived.Test.YtcoejkiaokbmpaaGreatDoorTz3
import Derived.Test.YtcoejkiaokbmpaaGreatDoorTz4
import Derived.Test.YtcoejkiaokbmpaaGreatDoorTz5
import Derived.Test.YtcoejkiaokbmpaaGreatDoorTz6
namespace Go.Proofs.YtcoejkiaokbmpaaGreatDoor
set_option maxRecDepth 100000
set_option maxHeartbeats 4000000
set_option linter.unusedVariables false
section
open Go.RowKit
theorem v9 (r:cr) (kA:OA) (kC:Nat) (az:List RA) (cA:OA) (cC:Nat) (bA:OA) (bC:Nat) (slA:OA) (slC:Nat) (drA:OA) (drC:Nat) (ha:List cD) (heA:OA) (heC:Nat) (hin:fw r az ha) (hng: ¬ je r):
 lg Tryz.prog 14 [(vA (cj.cells (pZ r kA kC cA cC bA bC slA slC drA drC heA heC)))] [(rd kA r.aA.aM.length 9 (r.aA.aM.map al.cells)),(rd cA r.aA.aj.length 2 (List.zipWith ao.cells r.aA.aj az)),(eH (aU ao.gh r.aA.aj az)),(rd bA r.aA.ae.length 4 (r.aA.ae.map bI.cells)),(rd slA r.aH.length 1 (r.aH.map iC)),(rd drA r.cm.length 1 (r.cm.map iC)),(rd heA r.aq.length 1 (List.zipWith cz r.aq ha)),(eH (aU iA r.aq ha))] (fun (x:(OA)×Nat×(OA)×Nat×(List RA)×(OA)×Nat×(OA)×Nat×(OA)×Nat×(OA)×Nat×(List cD))=>(vA (cj.cells (cj.mk (bT.mk (bo.mk (bf.mk x.1 r.aA.aM.length x.2.1)) r.aA.gG (bf.mk x.2.2.1 r.aA.aj.length x.2.2.2.1) (bf.mk x.2.2.2.2.2.1 r.aA.ae.length x.2.2.2.2.2.2.1) r.aA.cG r.aA.eg r.aA.cN) (bf.mk x.2.2.2.2.2.2.2.1 r.aH.length x.2.2.2.2.2.2.2.2.1) (bf.mk x.2.2.2.2.2.2.2.2.2.1 r.cm.length x.2.2.2.2.2.2.2.2.2.2.1) r.iN (bf.mk x.2.2.2.2.2.2.2.2.2.2.2.1 r.aq.length x.2.2.2.2.2.2.2.2.2.2.2.2.1))))) (fun (x:(OA)×Nat×(OA)×Nat×(List RA)×(OA)×Nat×(OA)×Nat×(OA)×Nat×(OA)×Nat×(List cD))=>(x.2.2.2.2.1.length=r.aA.aj.length∧mC r.aA.aj x.2.2.2.2.1)∧uJ r.aq x.2.2.2.2.2.2.2.2.2.2.2.2.2) (fun (x:(OA)×Nat×(OA)×Nat×(List RA)×(OA)×Nat×(OA)×Nat×(OA)×Nat×(OA)×Nat×(List cD))=>[(own x.1 x.2.1 163 9 (r.aA.aM.map al.cells)),(own x.2.2.1 x.2.2.2.1 119 2 (List.zipWith ao.cells r.aA.aj x.2.2.2.2.1)),(bB (aU ao.owns r.aA.aj x.2.2.2.2.1)),(own x.2.2.2.2.2.1 x.2.2.2.2.2.2.1 141 4 (r.aA.ae.map bI.cells)),(own x.2.2.2.2.2.2.2.1 x.2.2.2.2.2.2.2.2.1 3 1 (r.aH.map iC)),(own x.2.2.2.2.2.2.2.2.2.1 x.2.2.2.2.2.2.2.2.2.2.1 3 1 (r.cm.map iC)),(own x.2.2.2.2.2.2.2.2.2.2.2.1 x.2.2.2.2.2.2.2.2.2.2.2.2.1 71 1 (List.zipWith cz r.aq x.2.2.2.2.2.2.2.2.2.2.2.2.2)),(bB (aU jV r.aq x.2.2.2.2.2.2.2.2.2.2.2.2.2))]):=by
 have p:=hin.line
 have As:=hin.iR
 have G:=hin.has
 have Ap:=hin.iK
 have Am:=hin.draw
 have Aq:=dw (r:=r)
 have AV:=qT hng
 refine db kr Tryz.func14 U U fun w0 Q hQ hN=>?_
 try dsimp only
 refine WS fun _ Ae=>fm U fun b2=>AL U qC fun b3=>RK Ae<|WS fun _ Af=>rP 1 [] mn ?_
 refine rS (LP (bT.cells (kH r.aA kA kC cA cC bA bC)) 1 U bX U U U)<|cX (Nj r.aA kA kC az cA cC bA bC (by exact p) (by exact AV.1)) (aZ [2,3,4,5]) U fun y5 Ak=>?_
 obtain ⟨T,V,At,L,s,K,N⟩:=y5
 try dsimp only
 obtain ⟨Ag,Ah⟩:=Ak
 refine aY 1 U<|Ul (cj.cells (cj.mk (bT.mk (bo.mk (bf.mk T r.aA.aM.length V)) r.aA.gG (bf.mk At r.aA.aj.length L) (bf.mk K r.aA.ae.length N) r.aA.cG r.aA.eg r.aA.cN) (bf.mk slA r.aH.length slC) (bf.mk drA r.cm.length drC) r.iN (bf.mk heA r.aq.length heC))) U RW U U<|RK Af<|WS fun _ v=>kN U di U fun AY=>rP 2 [] (mc 6 U mn) ?_
 refine eK (es:=(List.map iC [])) (C':=[own (some ⟨AY,0,none⟩) 0 3 1 (List.map iC []),_,_,_,_,_,_,_,_,_,_,_,_,_,_]) 0 U sm U (by simp [maxLen]) U ?_
 refine cp (es2:=(List.map iC r.aH)) (m':=r.aH.length) 0 U U U mJ U U sm (ay 11 U) (g_ _) (by simp; omega) (by simp only [maxLen]; simp; omega) sm sm U fun X Y=>?_
 try dsimp only
 refine aY 1 U<|SF (cj.cells (cj.mk (bT.mk (bo.mk (bf.mk T r.aA.aM.length V)) r.aA.gG (bf.mk At r.aA.aj.length L) (bf.mk K r.aA.ae.length N) r.aA.cG r.aA.eg r.aA.cN) (bf.mk X r.aH.length Y) (bf.mk drA r.cm.length drC) r.iN (bf.mk heA r.aq.length heC))) U wq U U<|RK v<|WS fun _ w=>kN U di U fun AZ=>rP 2 [] (mc 7 U mn) ?_
 refine eK (es:=(List.map iC [])) (C':=[own (some ⟨AZ,0,none⟩) 0 3 1 (List.map iC []),_,_,_,_,_,_,_,_,_,_,_,_,_,_,_]) 0 U sm U (by simp [maxLen]) U ?_
 refine cp (es2:=(List.map iC r.cm)) (m':=r.cm.length) 0 U U U mJ U U sm (ay 13 U) (g_ _) (by simp; omega) (by simp only [maxLen]; simp; omega) sm sm U fun g j=>?_
 try dsimp only
 refine aY 1 U<|Uh (cj.cells (cj.mk (bT.mk (bo.mk (bf.mk T r.aA.aM.length V)) r.aA.gG (bf.mk At r.aA.aj.length L) (bf.mk K r.aA.ae.length N) r.aA.cG r.aA.eg r.aA.cN) (bf.mk X r.aH.length Y) (bf.mk g r.cm.length j) r.iN (bf.mk heA r.aq.length heC))) U wq U U<|RK w<|WS fun _ AA=>kN U lk U fun Aa=>rP 2 [] (mc 8 U mn) ?_
 refine eK (es:=(List.map sC [])) (C':=[own (some ⟨Aa,0,none⟩) 0 71 1 (List.map sC []),_,_,_,_,_,_,_,_,_,_,_,_,_,_,_,_]) 0 U sm U (by simp [maxLen]) U ?_
 refine cp (es2:=(List.zipWith cz r.aq ha)) (m':=r.aq.length) 0 U U U Qf U U sm (ay 15 U) (zo _ _) (by simp; omega) (by simp only [maxLen]; simp; omega) sm (dy G) U fun J M=>?_
 try dsimp only
 refine aY 1 U<|Uo (cj.cells (cj.mk (bT.mk (bo.mk (bf.mk T r.aA.aM.length V)) r.aA.gG (bf.mk At r.aA.aj.length L) (bf.mk K r.aA.ae.length N) r.aA.cG r.aA.eg r.aA.cN) (bf.mk X r.aH.length Y) (bf.mk g r.cm.length j) r.iN (bf.mk J r.aq.length M))) U QC U U<|RK AA<|ai fun _ AB=>WS fun _ AC=>rP 1 [] mn ?_
 refine RK AC<|ar<|kW ?_
 have F:(0≤r.aq.length)∧(([]:List cD).length=0)∧(∀ (k:Nat) y (a:cD),r.aq[k]? =some y→([]:List cD)[k]? =some a→a.2.length=y.length):=by exact ⟨Nat.zero_le _,rfl,fun k y a _ q=>by simp at q⟩
 refine bx (ι:={z:Nat×(List cD) // (z.1≤r.aq.length)∧(z.2.length=z.1)∧(∀ (k:Nat) y (a:cD),r.aq[k]? =some y→z.2[k]? =some a→a.2.length=y.length)}) [1,2] [2,3,4,5,6,7,8,9,10,11,12,13,14,15,16,17] U U (fun z=>[(3,(vI (z.1.1:Int)))]) (fun z=>[(bB (aU jV (r.aq.take z.1.1) z.1.2)),(own J M 71 1 (List.zipWith cz r.aq (ir z.1.2 ha z.1.1)))]) (fun _=>rfl) (fun _=>rfl) (fun z=>r.aq.length-z.1.1) ⟨(0,([]:List cD)),F⟩ (aN U) (aD [2,3,4,5,6,7,8,9,10,11,12,13,14,15,16,17,0,1]) ?_
 clear F
 rintro ⟨⟨h,hz⟩,⟨m,B,S⟩⟩ J28 t
 try dsimp only at m B S
 try dsimp only
 refine ai fun _ AD=>WS fun _ AE=>rP 5 [] (mc 7 U mn) ?_
 refine RK AE<|bE U (aQ fun Ac=>?_) (aP fun Ac=>?_)
 ·refine bj<|aa<|aa<|au<|KK AB<|ai fun _ AM=>?_
  have Ai:uJ r.aq hz:=⟨I,S⟩
  rw [show (ir hz ha h)=hz from qG I,show r.aq.take h=r.aq from List.take_of_length_le I]
  refine ag<|rP 1 [] (mc 7 U mn) ?_
  refine Qq U kT U<|RK AM<|an ?_
  refine LX hQ (T,V,At,L,s,K,N,X,Y,g,j,J,M,hz) [2,3,4,5,1,0,17,16] [0] (mc 6 U mn) U (by show List.all _ _=true; simp only [dY,List.all_nil,dv,gp,Bool.and_true]; rfl) U U ?_
  exact ⟨⟨Ag,Ah⟩,Ai⟩
 refine WK AD<|ai fun _ AF=>ar<|ai fun _ AG=>dp cf [3,9,11] [6,7,8] [0,1] [0,1,2,3,4,5,6,7,8,9,10,11,12,13,14,15,16] [0,1,2,3,4,5,6,7,8,9,10,11,12,13,14,15,16,17] U U U U U<|eS U (FA 10 U e_ U)<|eS U (L1 (vS J r.aq.length M) 7 U bX U U)<|eS U (MV U)<|eS U (FA 10 U e_ U)<|eS U (L1 (vS J r.aq.length M) 7 U bX U U)<|eS U (MV U) ?_
 obtain ⟨ht,Au⟩:=aG r.aq h I
 obtain ⟨C,O⟩:=aG ha h I
 have e:(List.zipWith cz r.aq (ir hz ha h))[h]? =some (cz ht C):=cH Au (sU B O)
 have AW:=hin.my _ _ _ Au O
 have H:=AW.mE
 have AX:=AV.2.2.2.2 ht (aR Au)
 refine fS U (IA h U (ak (n:=r.aq.length) 17 U (dy (by rw [ed B I]; exact G))) lk dc I I) ?_
 refine fS U (fI h 0 (vS C.1.1 ht.length C.1.2) U bX (ak (n:=r.aq.length) 17 U (dy (by rw [ed B I]; exact G))) e U dc U) ?_
 refine fS U (IA h U (ak (n:=r.aq.length) 17 U (dy (by rw [ed B I]; exact G))) lk dc I I) ?_
 refine eu U<|gl U fun T34 AN=>kN U rI U fun Ab=>ax (AN _ _ (aD [1,2,3,4,5,6,7,8,9,10,11,12,13,14,15,16,17]) (aD [1,2,3,4,5,6,7,8,9,10,11,12,13,14,15,16,17,18]) ?_)
 refine gl U fun T36 AO=>eK (es:=(List.map bp.cells [])) (C':=[own (some ⟨Ab,0,none⟩) 0 76 7 (List.map bp.cells []),_,_,_,_,_,_,_,_,_,_,_,_,_,_,_,_,_,_]) 0 U sm U (by simp [maxLen]) U ?_
 refine cp (es2:=(List.zipWith av.cells ht C.2)) (m':=ht.length) 0 U U U P4 U U sm (show gI _ (rd C.1.1 ht.length 7 (List.zipWith av.cells ht C.2)).holds from (b_ 16 U (bu Au O bZ))) (EG _ _) (by simp; omega) (by simp only [maxLen]; simp; omega) sm (jq H) U fun D E=>?_
 try dsimp only
 refine ax (AO _ _ (aD [1,2,3,4,5,6,7,8,9,10,11,12,13,14,15,16,17]) (aD [1,2,3,4,5,6,7,8,9,10,11,12,13,14,15,16,17,18]) ?_)
 refine bS U fun T39 AP=>c_ (k:=h) (o:=0) (vs:=[(vS D ht.length E)]) (es':=(List.zipWith cz r.aq (ir (hz++[((D,E),C.2)]) ha (h+1)))) (C':=[_,_,_,_,_,_,_,_,_,_,_,_,_,_,_,_,_,_,(own J M 71 1 (List.zipWith cz r.aq (ir (hz++[((D,E),C.2)]) ha (h+1))))]) 18 U U U Q2 U U U U e U dc (by exact qH (b:=((D,E),C.2)) Au B O) U<|ax (AP _ _ (aD [1,2,3,4,5,6,7,8,9,10,11,12,13,14,15,16,17]) ?_)
 refine eY U<|KK AG<|WS fun _ AH=>rP 1 [] mn ?_
 refine RK AH<|ar<|kW ?_
 have F:(0≤ht.length)∧(([]:List RA).length=0):=by exact ⟨Nat.zero_le _,rfl⟩
 refine bx (ι:={z:Nat×(List RA) // (z.1≤ht.length)∧(z.2.length=z.1)}) [1,2,3] [2,3,4,5,6,7,8,9,10,11,12,13,14,15,16,17,18,19] U U (fun z=>[(4,(vI (z.1.1:Int)))]) (fun z=>[(bB (aU mP (ht.take z.1.1) z.1.2)),(own D E 76 7 (List.zipWith av.cells ht (ir z.1.2 C.2 z.1.1)))]) (fun _=>rfl) (fun _=>rfl) (fun z=>ht.length-z.1.1) ⟨(0,([]:List RA)),F⟩ (aN U) (aD [2,3,4,5,6,7,8,9,10,11,12,13,14,15,16,17,18,19,0,1]) ?_
 clear F
 rintro ⟨⟨i,dz⟩,⟨Z,A⟩⟩ J41 u
 try dsimp only at Z A
 try dsimp only
 refine ai fun _ AI=>WS fun _ AJ=>rP 4 [] (mc 7 U mn) ?_
 have W:(List.zipWith cz r.aq (ir (hz++[((D,E),C.2)]) ha (h+1)))[h]? =some (cz ht ((D,E),C.2)):=cH Au (CB B)
 refine rS (IA h U (ak (n:=r.aq.length) 17 U (dy (by rw [ed (by simp; omega) I]; exact G))) lk dc I I) ?_
 refine rS (fI h 0 (vS D ht.length E) U bX (ak (n:=r.aq.length) 17 U (dy (by rw [ed (by simp; omega) I]; exact G))) W U dc U) ?_
 refine rP 2 [] mn ?_
 refine RK AJ<|bE U (aQ fun Ad=>?_) (aP fun Ad=>?_)
 ·refine bj<|aa<|aa<|au<|aB<|KK AF<|ag<|rP 3 [] mn ?_
  refine ax ?_
  have An:dz.length=ht.length:=by omega
  rw [show (ir dz C.2 i)=dz from qG I,show ht.take i=ht from List.take_of_length_le I]
  refine I8 (Z':=aU jV (r.aq.take (h+1)) (hz++[((D,E),dz)])) 16 18 19 U U (ng (f:=jV) (b:=((D,E),dz)) Au B) ?_
  rw [By (y:=dz)]
  have AT:(vI (((h+1):Nat):Int))=(vI ((h:Int)+1)):=by exact cI I
  refine aI (t ⟨((h+1),(hz++[((D,E),dz)])),⟨I,by simp; omega,ES Au S B dso⟩⟩ _ _ _ U os (cO.cons U<|cO.cons U<|aO U AT<|cO.nil _) (aD [1,2,3,4,5,6,7,8,9,10,11,12,13,14,15,16,0,17]))
 refine WK AI<|ai fun _ AK=>ar<|dp cf [15,18] [12,13,14,15,16] [0] [0,1,2,3,4,5,6,7,8,9,10,11,12,13,14,15,16,17,18] [0,1,2,3,4,5,6,7,8,9,10,11,12,13,14,15,16,17,18,19] U U U U U<|eS U (FA 10 U e_ U)<|eS U (L1 (vS J r.aq.length M) 7 U bX U U)<|eS U (MV U) ?_
 refine eS U (IA h U (ak (n:=r.aq.length) 17 U (dy (by rw [ed (by simp; omega) I]; exact G))) lk dc I I) ?_
 refine eS U (fI h 0 (vS D ht.length E) U bX (ak (n:=r.aq.length) 17 U (dy (by rw [ed (by simp; omega) I]; exact G))) W U dc U) ?_
 refine eS U (MV U)<|eS U (FA 10 U e_ U)<|eS U (L1 (vS J r.aq.length M) 7 U bX U U)<|eS U (MV U) ?_
 refine eS U (IA h U (ak (n:=r.aq.length) 17 U (dy (by rw [ed (by simp; omega) I]; exact G))) lk dc I I) ?_
 refine eS U (fI h 0 (vS D ht.length E) U bX (ak (n:=r.aq.length) 17 U (dy (by rw [ed (by simp; omega) I]; exact G))) W U dc U) ?_
 refine eS U (MV U) ?_
 obtain ⟨d,hd⟩:=aG ht i I
 obtain ⟨da,l⟩:=aG C.2 i I
 have AU:(List.zipWith av.cells ht (ir dz C.2 i))[i]? =some (av.cells d da):=cH hd (sU A l)
 have Aj:=AW.sig d (aR hd)
 have Ao:=AX.2 d (aR hd)
 refine fS U (IA i U (ak (n:=ht.length) 19 U (jq (by rw [ed A I]; exact H))) rI dc I I) ?_
 refine fS U (nP ((i*7)+4) U (ak (n:=ht.length) 19 U (jq (by rw [ed A I]; exact H))) (Nat.mul_pos I dc) e_ U) ?_
 refine fS U (l4 i 4 (ew.cells (ew.mk d.bW.Start d.bW.fK (bf.mk da.1 d.bW.ah.length da.2))) U bX (ak (n:=ht.length) 19 U (jq (by rw [ed A I]; exact H))) AU U dc U U) ?_
 refine fS U (IA i U (ak (n:=ht.length) 19 U (jq (by rw [ed A I]; exact H))) rI dc I I) ?_
 refine fS U (nP ((i*7)+4) U (ak (n:=ht.length) 19 U (jq (by rw [ed A I]; exact H))) (Nat.mul_pos I dc) e_ U) ?_
 refine eu U<|gl U fun T46 AQ=>cX (LL d.bW da.1 da.2 (by exact Aj)) (aC (show gI _ (rd da.1 d.bW.ah.length 2 (d.bW.ah.map aK.cells)).holds from (b_ 15 U (bu Au O (cW _ (bu hd l (by simp [av.gh]))))))<|aS) U fun Al Ar=>?_
 obtain ⟨P,R⟩:=Al
 try dsimp only
 refine ax (AQ _ _ (aD [1,2,3,4,5,6,7,8,9,10,11,12,13,14,15,16,17,18,19]) (aD [1,2,3,4,5,6,7,8,9,10,11,12,13,14,15,16,17,18,19,20]) ?_)
 refine bS U fun T51 AR=>c_ (k:=i) (o:=4) (vs:=(ew.cells (lv d.bW P R))) (es':=(List.zipWith av.cells ht (ir (dz++[(P,R)]) C.2 (i+1)))) (C':=[_,_,_,_,_,_,_,_,_,_,_,_,_,_,_,_,_,_,_,_,(own D E 76 7 (List.zipWith av.cells ht (ir (dz++[(P,R)]) C.2 (i+1))))]) 20 U U U RR U U U U AU U dc (by exact qH (c:=av.cells) (b:=(P,R)) hd A l) U<|ax (AR _ _ (aD [1,2,3,4,5,6,7,8,9,10,11,12,13,14,15,16,17,18,19]) ?_)
 refine eY U<|aB<|KK AK<|ag<|rP 3 [] mn ?_
 refine ax<|zO (Y':=aU mP (ht.take (i+1)) (dz++[(P,R)])) 19 0 U U (ng (f:=mP) (b:=(P,R)) hd A) ?_
 have AS:(vI (((i+1):Nat):Int))=(vI ((i:Int)+1)):=by exact cI I
 refine aI (u ⟨((i+1),(dz++[(P,R)])),⟨I,by simp; omega⟩⟩ _ _ _ U os (bY 3<|aO U AS<|cO.nil _) (aD [1,2,3,4,5,6,7,8,9,10,11,12,13,14,15,16,17,18,0,19]))
end
section
open Go.RowKit
theorem MW (l:aW) (kA:OA) (kC:Nat) (az:List RA) (cA:OA) (cC:Nat) (bA:OA) (bC:Nat) (m:aW) (k2A:OA) (k2C:Nat) (az2:List RA) (c2A:OA) (c2C:Nat) (b2A:OA) (b2C:Nat) (hin:ej l az) (hin2:ej m az2) (hsm: ¬ jN l) (hsm2: ¬ jN m):
 eA Tryz.prog 52 [(vA (bT.cells (kH l kA kC cA cC bA bC))),(vA (bT.cells (bT.mk (bo.mk (bf.mk k2A m.aM.length k2C)) m.gG (bf.mk c2A m.aj.length c2C) (bf.mk b2A m.ae.length b2C) m.cG m.eg m.cN)))] [(rd kA l.aM.length 9 (l.aM.map al.cells)),(rd cA l.aj.length 2 (List.zipWith ao.cells l.aj az)),(eH (aU ao.gh l.aj az)),(rd bA l.ae.length 4 (l.ae.map bI.cells)),(rd k2A m.aM.length 9 (m.aM.map al.cells)),(rd c2A m.aj.length 2 (List.zipWith ao.cells m.aj az2)),(eH (aU ao.gh m.aj az2)),(rd b2A m.ae.length 4 (m.ae.map bI.cells))] (vB (decide (l=m))):=by
 have A0:=hin.rK
 have Az:=hin.rD
 have Ax:=hin.mE
 have Ay:=hin.ry
 have Au:=hin2.rK
 have At:=hin2.rD
 have Ar:=hin2.mE
 have As:=hin2.ry
 have AS:=tL hsm
 have j:=tL hsm2
 refine bH kr Tryz.func52 U U fun w0 Q hQ hN=>?_
 try dsimp only
 refine WS fun _ Ae=>fm U fun b2=>fm U fun b3=>aY 1 U<|RK Ae<|ai fun _ Af=>WS fun _ Aw=>aY 1 U<|rS (LP (bo.cells (bo.mk (bf.mk kA l.aM.length kC))) 1 U bX U U U)<|rP 1 [] mn ?_
 refine rS (LP (bo.cells (bo.mk (bf.mk k2A m.aM.length k2C))) 0 U bX U U U) ?_
 refine rS (CL (Ob l.aM kA kC m.aM k2A k2C sd sd) (aZ [2,6]) U) ?_
 refine rP 2 [] mn ?_
 refine cE (t:=16) U (bg fun C=>?_) (bh fun C=>?_)
 ·refine aY 45 U<|RK Aw<|aL U<|WS fun _ Ag=>rP 1 [] mn ?_
  refine RK Ag<|an<|Q1 hQ U U U ?_
  first|exact cB (bD (fun e=>by subst e; first|exact C rfl|omega)).symm|exact cB (bD (fun e=>by subst e; rw [hp] at hq; cases hq; exact E rfl)).symm|exact cB (bD (fun e=>by subst e; rw [hx] at hy; cases hy; first|(rw [hz] at hu; cases hu; exact D rfl)|omega)).symm|exact cB (dh (gH C I I I I (cd I B I) (cd I A I))).symm
 refine rP 7 [0,1] (mc 1 U (mc 0 U mn)) ?_
 refine cE (t:=23) U (bg fun AX=>?_) (bh fun AX=>?_)
 ·refine aY 38 U<|RK Aw<|aL U<|WS fun _ Ah=>rP 1 [] mn ?_
  refine RK Ah<|an<|Q1 hQ U U U ?_
  first|exact cB (bD (fun e=>by subst e; first|exact C rfl|omega)).symm|exact cB (bD (fun e=>by subst e; rw [hp] at hq; cases hq; exact E rfl)).symm|exact cB (bD (fun e=>by subst e; rw [hx] at hy; cases hy; first|(rw [hz] at hu; cases hu; exact D rfl)|omega)).symm|exact cB (dh (gH C I I I I (cd I B I) (cd I A I))).symm
 refine rP 7 [0,1] (mc 1 U (mc 0 U mn)) ?_
 refine cE (t:=30) U (bg fun AY=>?_) (bh fun AY=>?_)
 ·refine aY 31 U<|RK Aw<|aL U<|WS fun _ Ai=>rP 1 [] mn ?_
  refine RK Ai<|an<|Q1 hQ U U U ?_
  first|exact cB (bD (fun e=>by subst e; first|exact C rfl|omega)).symm|exact cB (bD (fun e=>by subst e; rw [hp] at hq; cases hq; exact E rfl)).symm|exact cB (bD (fun e=>by subst e; rw [hx] at hy; cases hy; first|(rw [hz] at hu; cases hu; exact D rfl)|omega)).symm|exact cB (dh (gH C I I I I (cd I B I) (cd I A I))).symm
 refine rP 7 [0,1] (mc 1 U (mc 0 U mn)) ?_
 refine cE (t:=37) U (bg fun AZ=>?_) (bh fun AZ=>?_)
 ·refine aY 24 U<|RK Aw<|aL U<|WS fun _ Aj=>rP 1 [] mn ?_
  refine RK Aj<|an<|Q1 hQ U U U ?_
  first|exact cB (bD (fun e=>by subst e; first|exact C rfl|omega)).symm|exact cB (bD (fun e=>by subst e; rw [hp] at hq; cases hq; exact E rfl)).symm|exact cB (bD (fun e=>by subst e; rw [hx] at hy; cases hy; first|(rw [hz] at hu; cases hu; exact D rfl)|omega)).symm|exact cB (dh (gH C I I I I (cd I B I) (cd I A I))).symm
 refine rP 7 [0,1] (mc 1 U (mc 0 U mn)) ?_
 refine cE (t:=44) U (bg fun Aa=>?_) (bh fun Aa=>?_)
 ·refine aY 17 U<|RK Aw<|aL U<|WS fun _ AB=>rP 1 [] mn ?_
  refine RK AB<|an<|Q1 hQ U U U ?_
  first|exact cB (bD (fun e=>by subst e; first|exact C rfl|omega)).symm|exact cB (bD (fun e=>by subst e; rw [hp] at hq; cases hq; exact E rfl)).symm|exact cB (bD (fun e=>by subst e; rw [hx] at hy; cases hy; first|(rw [hz] at hu; cases hu; exact D rfl)|omega)).symm|exact cB (dh (gH C I I I I (cd I B I) (cd I A I))).symm
 refine rP 9 [0,1] (mc 1 U (mc 0 U mn)) ?_
 refine cE (t:=53) U (bg fun Ac=>?_) (bh fun Ac=>?_)
 ·refine aY 8 U<|RK Aw<|aL U<|WS fun _ AC=>rP 1 [] mn ?_
  refine RK AC<|an<|Q1 hQ U U U ?_
  first|exact cB (bD (fun e=>by subst e; first|exact C rfl|omega)).symm|exact cB (bD (fun e=>by subst e; rw [hp] at hq; cases hq; exact E rfl)).symm|exact cB (bD (fun e=>by subst e; rw [hx] at hy; cases hy; first|(rw [hz] at hu; cases hu; exact D rfl)|omega)).symm|exact cB (dh (gH C I I I I (cd I B I) (cd I A I))).symm
 refine rP 8 [0,1] (mc 1 U (mc 0 U mn)) ?_
 refine RK Aw<|cK U (bg fun Ad=>?_) (bh fun Ad=>?_)
 ·refine WS fun _ AD=>rP 1 [] mn ?_
  refine RK AD<|an<|Q1 hQ U U U ?_
  first|exact cB (bD (fun e=>by subst e; first|exact C rfl|omega)).symm|exact cB (bD (fun e=>by subst e; rw [hp] at hq; cases hq; exact E rfl)).symm|exact cB (bD (fun e=>by subst e; rw [hx] at hy; cases hy; first|(rw [hz] at hu; cases hu; exact D rfl)|omega)).symm|exact cB (dh (gH C I I I I (cd I B I) (cd I A I))).symm
 refine WK Af<|ai fun _ AE=>WS fun _ AF=>rP 1 [] mn ?_
 refine RK AF<|ar ?_
 have F:(0≤l.aj.length)∧(l.aj.take 0=m.aj.take 0):=by simp
 refine bx (ι:={z:Nat // (z≤l.aj.length)∧(l.aj.take z=m.aj.take z)}) [2,3] [0,1,2,3,4,5,6,7,8,9] U U (fun z=>[(5,(vI (z.1:Int)))]) (fun z=>[]) (fun _=>rfl) (fun _=>rfl) (fun z=>l.aj.length-z.1) ⟨0,F⟩ (aN U) (aD [0,1,2,3,4,5,6,7,8,9]) ?_
 clear F
 rintro ⟨i,⟨Ak,B⟩⟩ J15 d
 try dsimp only
 refine ai fun _ AG=>WS fun _ AH=>rP 5 [] (mc 1 U mn) ?_
 refine RK AH<|bE U (aQ fun AW=>?_) (aP fun AW=>?_)
 ·refine bj<|aa<|aa<|au<|KK AE<|ai fun _ AI=>WS fun _ AJ=>rP 1 [] mn ?_
  refine RK AJ<|ar ?_
  have F:(0≤l.ae.length)∧(l.ae.take 0=m.ae.take 0):=by simp
  refine bx (ι:={z:Nat // (z≤l.ae.length)∧(l.ae.take z=m.ae.take z)}) [2,3] [0,1,2,3,4,5,6,7,8,9] U U (fun z=>[(9,(vI (z.1:Int)))]) (fun z=>[]) (fun _=>rfl) (fun _=>rfl) (fun z=>l.ae.length-z.1) ⟨0,F⟩ (aN U) (aD [0,1,2,3,4,5,6,7,8,9]) ?_
  clear F
  rintro ⟨n,⟨AT,A⟩⟩ J43 AA
  try dsimp only
  refine ai fun _ AK=>WS fun _ AM=>rP 5 [] (mc 1 U mn) ?_
  refine RK AM<|bE U (aQ fun Ab=>?_) (aP fun Ab=>?_)
  ·refine bj<|aa<|aa<|au<|KK AI<|WS fun _ AQ=>rP 1 [] mn ?_
   refine RK AQ<|an<|Q1 hQ U U U ?_
   first|exact cB (bD (fun e=>by subst e; first|exact C rfl|omega)).symm|exact cB (bD (fun e=>by subst e; rw [hp] at hq; cases hq; exact E rfl)).symm|exact cB (bD (fun e=>by subst e; rw [hx] at hy; cases hy; first|(rw [hz] at hu; cases hu; exact D rfl)|omega)).symm|exact cB (dh (gH C I I I I (cd I B I) (cd I A I))).symm
  refine WK AK<|ai fun _ AN=>ar<|ai fun _ AO=>cS cf 11 kr<|dP 3 [] (mc 1 U mn) ?_
  obtain ⟨p,hp⟩:=aG l.ae n I
  have Al:=bG bI.cells hp
  refine dS (IA n U (ay 5 U) sQ dc I I)<|dS (l4 n 0 (bI.cells p) U bX (ay 5 U) Al U dc U U)<|dP 3 [] (mc 0 U mn) ?_
  obtain ⟨q,hq⟩:=aG m.ae n I
  have Am:=bG bI.cells hq
  refine dS (IA n U (ay 9 U) sQ dc I I)<|dS (l4 n 0 (bI.cells q) U bX (ay 9 U) Am U dc U U)<|dS (BI U (PG _ _ p q))<|cy<|RK AO<|bE U (bh fun E=>?_) (bg fun E=>?_)
  ·refine bM<|aB<|KK AN<|ag<|rP 3 [] mn ?_
   refine ax ?_
   have AR:(vI (((n+1):Nat):Int))=(vI ((n:Int)+1)):=by exact cI I
   refine aI (AA ⟨(n+1),⟨I,ic A hp hq E⟩⟩ _ _ _ U os (cO.cons U<|cO.cons U<|aO U AR<|cO.nil _) (aD [0,1,2,3,4,5,6,7,8,9]))
  refine WS fun _ AP=>rP 1 [] mn ?_
  refine RK AP<|an<|Q1 hQ U U U ?_
  first|exact cB (bD (fun e=>by subst e; first|exact C rfl|omega)).symm|exact cB (bD (fun e=>by subst e; rw [hp] at hq; cases hq; exact E rfl)).symm|exact cB (bD (fun e=>by subst e; rw [hx] at hy; cases hy; first|(rw [hz] at hu; cases hu; exact D rfl)|omega)).symm|exact cB (dh (gH C I I I I (cd I B I) (cd I A I))).symm
 refine WK AG<|ai fun _ f=>ar<|ai fun _ g=>pD cf [0,1,2,3,4,5,6,7,8,9] [10,11,12,13] [false,false,false,false,false,false,false,false,false,false] [] [(cq b3 28 (bT.cells (bT.mk (bo.mk (bf.mk k2A m.aM.length k2C)) m.gG (bf.mk c2A m.aj.length c2C) (bf.mk b2A m.ae.length b2C) m.cG m.eg m.cN))),(cq b2 28 (bT.cells (kH l kA kC cA cC bA bC))),(rd kA l.aM.length 9 (l.aM.map al.cells)).ro,(rd cA l.aj.length 2 (List.zipWith ao.cells l.aj az)).ro,(eH (aU ao.gh l.aj az)).ro,(rd bA l.ae.length 4 (l.ae.map bI.cells)).ro,(rd k2A m.aM.length 9 (m.aM.map al.cells)).ro,(rd c2A m.aj.length 2 (List.zipWith ao.cells m.aj az2)).ro,(eH (aU ao.gh m.aj az2)).ro,(rd b2A m.ae.length 4 (m.ae.map bI.cells)).ro] [] kr (aD [0,1,2,3,4,5,6,7,8,9]) (aD [])<|eS U (FA 2 U e_ U)<|eS U (L1 (vS cA l.aj.length cC) 1 U bX U U)<|eS U (MV U) ?_
 obtain ⟨x,hx⟩:=aG l.aj i I
 obtain ⟨xa,a⟩:=aG az i I
 have Ao:(List.zipWith ao.cells l.aj az)[i]? =some (ao.cells x xa):=cH hx a
 refine eS U (IA i U (ay 3 U) uq dc I I)<|eS U (l4 i 0 (de.cells (de.mk x.cU (bf.mk xa.1 x.aT.length xa.2))) U bX (ay 3 U) Ao U dc U U)<|eS U (FA 2 U e_ U)<|eS U (L1 (vS c2A m.aj.length c2C) 0 U bX U U)<|eS U (MV U) ?_
 obtain ⟨y,hy⟩:=aG m.aj i I
 obtain ⟨ya,b⟩:=aG az2 i I
 have Aq:(List.zipWith ao.cells m.aj az2)[i]? =some (ao.cells y ya):=cH hy b
 refine eS U (IA i U (ay 7 U) uq dc I I)<|eS U (l4 i 0 (de.cells (de.mk y.cU (bf.mk ya.1 y.aT.length ya.2))) U bX (ay 7 U) Aq U dc U U)<|eu U<|oH [10,11] kr (jg ?_<|jg ?_<|rT)
 rotate_left 1
 ·refine NO U U [10,12,13] fun T21 Av=>AL U zm fun AU=>RD Av 1 U<|N1 10<|NO U U [12,13] fun T23 V=>AL U zm fun AV=>RD V 2 U<|N1 12<|NO U U [13] fun T25 W=>fq U yV U<|RD W 2 U<|N1 13<|NO U U [] fun T26 X=>sK U yV U<|RD X 2 U<|nR<|KK g<|ai fun _ K=>WS fun _ H=>rP 6 [0,1] (mc 0 U (mc 1 U mn)) ?_
  refine cE (t:=84) U (bg fun r=>?_) (bh fun r=>?_)
  ·refine aY 8 U<|RK H<|aL U<|WS fun _ L=>rP 1 [] mn ?_
   refine RK L<|an<|Q1 hQ U U U ?_
   first|exact cB (bD (fun e=>by subst e; first|exact C rfl|omega)).symm|exact cB (bD (fun e=>by subst e; rw [hp] at hq; cases hq; exact E rfl)).symm|exact cB (bD (fun e=>by subst e; rw [hx] at hy; cases hy; first|(rw [hz] at hu; cases hu; exact D rfl)|omega)).symm|exact cB (dh (gH C I I I I (cd I B I) (cd I A I))).symm
  refine rP 8 [0,1] (mc 0 U (mc 1 U mn)) ?_
  refine RK H<|cK U (bg fun s=>?_) (bh fun s=>?_)
  ·refine WS fun _ M=>rP 1 [] mn ?_
   refine RK M<|an<|Q1 hQ U U U ?_
   first|exact cB (bD (fun e=>by subst e; first|exact C rfl|omega)).symm|exact cB (bD (fun e=>by subst e; rw [hp] at hq; cases hq; exact E rfl)).symm|exact cB (bD (fun e=>by subst e; rw [hx] at hy; cases hy; first|(rw [hz] at hu; cases hu; exact D rfl)|omega)).symm|exact cB (dh (gH C I I I I (cd I B I) (cd I A I))).symm
  refine WK K<|WS fun _ N=>rP 1 [] mn ?_
  refine RK N<|ar ?_
  have F:(0≤x.aT.length)∧(x.aT.take 0=y.aT.take 0):=by simp
  refine bx (ι:={z:Nat // (z≤x.aT.length)∧(x.aT.take z=y.aT.take z)}) [2,3,5,6,7] [0,1,2,3,4,5,6,7,8,9,10,11] U U (fun z=>[(8,(vI (z.1:Int)))]) (fun z=>[]) (fun _=>rfl) (fun _=>rfl) (fun z=>x.aT.length-z.1) ⟨0,F⟩ (aN U) (aD [0,1,2,3,4,5,6,7,8,9,10,11]) ?_
  clear F
  rintro ⟨k,⟨c,G⟩⟩ J32 J
  try dsimp only
  have An:=AS.2.2.2 x (aR hx)
  have Ap:=j.2.2.2 y (aR hy)
  refine ai fun _ O=>WS fun _ P=>rP 5 [] (mc 0 U mn) ?_
  refine RK P<|bE U (aQ fun o=>?_) (aP fun o=>?_)
  ·refine bj<|aa<|aa<|au<|aB<|KK f<|ag<|rP 3 [] mn ?_
   refine ax ?_
   have Z:(vI (((i+1):Nat):Int))=(vI ((i:Int)+1)):=by exact cI I
   refine aI (d ⟨(i+1),⟨I,ic B hx hy (wo I I I G)⟩⟩ _ _ _ U os (cO.cons U<|cO.cons U<|aO U Z<|cO.nil _) (aD [2,3,4,5,6,7,8,9,10,11]))
  refine WK O<|ai fun _ R=>ar<|ai fun _ S=>cS cf 11 kr<|dP 3 [] (mc 0 U mn) ?_
  obtain ⟨z,hz⟩:=aG x.aT k I
  have w:=bG ck.cells hz
  refine dS (IA k U (show gI _ (rd xa.1 x.aT.length 3 (x.aT.map ck.cells)).holds from (b_ 6 U (bu hx a (by simp [ao.gh])))) nF dc I I)<|dS (l4 k 0 (ck.cells z) U bX (show gI _ (rd xa.1 x.aT.length 3 (x.aT.map ck.cells)).holds from (b_ 6 U (bu hx a (by simp [ao.gh])))) w U dc U U)<|dP 3 [] (mc 1 U mn) ?_
  obtain ⟨u,hu⟩:=aG y.aT k I
  have v:=bG ck.cells hu
  refine dS (IA k U (show gI _ (rd ya.1 y.aT.length 3 (y.aT.map ck.cells)).holds from (b_ 10 U (bu hy b (by simp [ao.gh])))) nF dc I I)<|dS (l4 k 0 (ck.cells u) U bX (show gI _ (rd ya.1 y.aT.length 3 (y.aT.map ck.cells)).holds from (b_ 10 U (bu hy b (by simp [ao.gh])))) v U dc U U)<|dS (BI U (Jm _ _ z u))<|cy<|RK S<|bE U (bh fun D=>?_) (bg fun D=>?_)
  ·refine bM<|aB<|KK R<|ag<|rP 3 [] mn ?_
   refine ax ?_
   have Y:(vI (((k+1):Nat):Int))=(vI ((k:Int)+1)):=by exact cI I
   refine aI (J ⟨(k+1),⟨I,ic G hz hu D⟩⟩ _ _ _ U os (bY 5<|aO U Y<|cO.nil _) (aD [0,1,2,3,4,5,6,7,8,9,10,11]))
  refine WS fun _ T=>rP 1 [] mn ?_
  refine RK T<|an<|Q1 hQ U U U ?_
  first|exact cB (bD (fun e=>by subst e; first|exact C rfl|omega)).symm|exact cB (bD (fun e=>by subst e; rw [hp] at hq; cases hq; exact E rfl)).symm|exact cB (bD (fun e=>by subst e; rw [hx] at hy; cases hy; first|(rw [hz] at hu; cases hu; exact D rfl)|omega)).symm|exact cB (dh (gH C I I I I (cd I B I) (cd I A I))).symm
 refine NO U U [11,12,13] fun T21 Av=>AL U zm fun AU=>RD Av 1 U<|N1 11<|NO U U [12,13] fun T23 V=>AL U zm fun AV=>RD V 2 U<|N1 12<|NO U U [13] fun T25 W=>sK U yV U<|RD W 2 U<|N1 13<|NO U U [] fun T26 X=>fq U yV U<|RD X 2 U<|nR<|KK g<|ai fun _ K=>WS fun _ H=>rP 6 [0,1] (mc 1 U (mc 0 U mn)) ?_
 refine cE (t:=84) U (bg fun r=>?_) (bh fun r=>?_)
 ·refine aY 8 U<|RK H<|aL U<|WS fun _ L=>rP 1 [] mn ?_
  refine RK L<|an<|Q1 hQ U U U ?_
  first|exact cB (bD (fun e=>by subst e; first|exact C rfl|omega)).symm|exact cB (bD (fun e=>by subst e; rw [hp] at hq; cases hq; exact E rfl)).symm|exact cB (bD (fun e=>by subst e; rw [hx] at hy; cases hy; first|(rw [hz] at hu; cases hu; exact D rfl)|omega)).symm|exact cB (dh (gH C I I I I (cd I B I) (cd I A I))).symm
 refine rP 8 [0,1] (mc 1 U (mc 0 U mn)) ?_
 refine RK H<|cK U (bg fun s=>?_) (bh fun s=>?_)
 ·refine WS fun _ M=>rP 1 [] mn ?_
  refine RK M<|an<|Q1 hQ U U U ?_
  first|exact cB (bD (fun e=>by subst e; first|exact C rfl|omega)).symm|exact cB (bD (fun e=>by subst e; rw [hp] at hq; cases hq; exact E rfl)).symm|exact cB (bD (fun e=>by subst e; rw [hx] at hy; cases hy; first|(rw [hz] at hu; cases hu; exact D rfl)|omega)).symm|exact cB (dh (gH C I I I I (cd I B I) (cd I A I))).symm
 refine WK K<|WS fun _ N=>rP 1 [] mn ?_
 refine RK N<|ar ?_
 have F:(0≤x.aT.length)∧(x.aT.take 0=y.aT.take 0):=by simp
 refine bx (ι:={z:Nat // (z≤x.aT.length)∧(x.aT.take z=y.aT.take z)}) [2,3,5,6,7] [0,1,2,3,4,5,6,7,8,9,10,11] U U (fun z=>[(8,(vI (z.1:Int)))]) (fun z=>[]) (fun _=>rfl) (fun _=>rfl) (fun z=>x.aT.length-z.1) ⟨0,F⟩ (aN U) (aD [0,1,2,3,4,5,6,7,8,9,10,11]) ?_
 clear F
 rintro ⟨k,⟨c,G⟩⟩ J32 J
 try dsimp only
 have An:=AS.2.2.2 x (aR hx)
 have Ap:=j.2.2.2 y (aR hy)
 refine ai fun _ O=>WS fun _ P=>rP 5 [] (mc 1 U mn) ?_
 refine RK P<|bE U (aQ fun o=>?_) (aP fun o=>?_)
 ·refine bj<|aa<|aa<|au<|aB<|KK f<|ag<|rP 3 [] mn ?_
  refine ax ?_
  have Z:(vI (((i+1):Nat):Int))=(vI ((i:Int)+1)):=by exact cI I
  refine aI (d ⟨(i+1),⟨I,ic B hx hy (wo I I I G)⟩⟩ _ _ _ U os (cO.cons U<|cO.cons U<|aO U Z<|cO.nil _) (aD [2,3,4,5,6,7,8,9,10,11]))
 refine WK O<|ai fun _ R=>ar<|ai fun _ S=>cS cf 11 kr<|dP 3 [] (mc 1 U mn) ?_
 obtain ⟨z,hz⟩:=aG x.aT k I
 have w:=bG ck.cells hz
 refine dS (IA k U (show gI _ (rd xa.1 x.aT.length 3 (x.aT.map ck.cells)).holds from (b_ 6 U (bu hx a (by simp [ao.gh])))) nF dc I I)<|dS (l4 k 0 (ck.cells z) U bX (show gI _ (rd xa.1 x.aT.length 3 (x.aT.map ck.cells)).holds from (b_ 6 U (bu hx a (by simp [ao.gh])))) w U dc U U)<|dP 3 [] (mc 0 U mn) ?_
 obtain ⟨u,hu⟩:=aG y.aT k I
 have v:=bG ck.cells hu
 refine dS (IA k U (show gI _ (rd ya.1 y.aT.length 3 (y.aT.map ck.cells)).holds from (b_ 10 U (bu hy b (by simp [ao.gh])))) nF dc I I)<|dS (l4 k 0 (ck.cells u) U bX (show gI _ (rd ya.1 y.aT.length 3 (y.aT.map ck.cells)).holds from (b_ 10 U (bu hy b (by simp [ao.gh])))) v U dc U U)<|dS (BI U (Jm _ _ z u))<|cy<|RK S<|bE U (bh fun D=>?_) (bg fun D=>?_)
 ·refine bM<|aB<|KK R<|ag<|rP 3 [] mn ?_
  refine ax ?_
  have Y:(vI (((k+1):Nat):Int))=(vI ((k:Int)+1)):=by exact cI I
  refine aI (J ⟨(k+1),⟨I,ic G hz hu D⟩⟩ _ _ _ U os (bY 5<|aO U Y<|cO.nil _) (aD [0,1,2,3,4,5,6,7,8,9,10,11]))
 refine WS fun _ T=>rP 1 [] mn ?_
 refine RK T<|an<|Q1 hQ U U U ?_
 first|exact cB (bD (fun e=>by subst e; first|exact C rfl|omega)).symm|exact cB (bD (fun e=>by subst e; rw [hp] at hq; cases hq; exact E rfl)).symm|exact cB (bD (fun e=>by subst e; rw [hx] at hy; cases hy; first|(rw [hz] at hu; cases hu; exact D rfl)|omega)).symm|exact cB (dh (gH C I I I I (cd I B I) (cd I A I))).symm
end
section
/-- where a sled may be after k beams more -/
def fJ (w:bP):Nat→Nat→aF×Int→List (aF×Int)
 |0,_,p=>[p]
 |k+1,b,p=>(hO w b).flatMap fun o=>match kB w b p o with
  |some q=>fJ w k (b+1) q
  |none=>[]
variable {w:bP}
theorem g5 {k b:Nat} {p q:aF×Int}:q∈fJ w (k+1) b p↔ ∃ o∈hO w b,∃ p',kB w b p o=some p'∧q∈fJ w k (b+1) p':=by
 simp only [fJ,List.mem_flatMap]
 constructor
 ·rintro ⟨o,ho,h⟩
  cases e:kB w b p o with
  |none=>rw [e] at h; cases h
  |some p'=>rw [e] at h; exact ⟨o,ho,p',e,h⟩
 ·rintro ⟨o,ho,p',e,h⟩
  exact ⟨o,ho,by rw [e]; exact h⟩
theorem rf: ∀ (k b:Nat) (q:aF×Int),q∈fwd w (b+k)↔ ∃ p∈fwd w b,q∈fJ w k b p:=by
 intro k
 induction k with
 |zero=>
  intro b q
  simp only [Nat.add_zero,fJ,bK]
  exact ⟨fun h=>⟨q,h,rfl⟩,fun ⟨p,hp,e⟩=>e▸hp⟩
 |succ k ih=>
  intro b q
  rw [show b+(k+1)=(b+1)+k by omega,ih]
  constructor
  ·rintro ⟨p',hp',h⟩
   obtain ⟨p,hp,o,ho,e⟩:=fE.1 hp'
   exact ⟨p,hp,g5.2 ⟨o,ho,p',e,h⟩⟩
  ·rintro ⟨p,hp,h⟩
   obtain ⟨o,ho,p',e,h'⟩:=g5.1 h
   exact ⟨p',fE.2 ⟨p,hp,o,ho,e⟩,h'⟩
theorem gE {b:Nat} {p q:aF×Int} {o:Int×ab}:kB w b p o=some q↔max (p.2+bR w b) o.2.Lo≤min o.2.Hi w.fK∧q=(dg p.1 (eQ o.1),max (p.2+bR w b) o.2.Lo):=by
 unfold kB
 split
 ·rename_i h
  constructor
  ·intro e; cases e; exact ⟨h,rfl⟩
  ·rintro ⟨_,rfl⟩; rfl
 ·rename_i h
  constructor
  ·intro e; cases e
  ·rintro ⟨h',_⟩; exact absurd h' h
theorem uC {b:Nat} {p q:aF×Int} {o:Int×ab}:nQ w b p o=some q↔o.2.Lo≤min p.2 o.2.Hi∧q=(dg p.1 (eQ o.1),min p.2 o.2.Hi-bR w b):=by
 unfold nQ
 split
 ·rename_i h
  constructor
  ·intro e; cases e; exact ⟨h,rfl⟩
  ·rintro ⟨_,rfl⟩; rfl
 ·rename_i h
  constructor
  ·intro e; cases e
  ·rintro ⟨h',_⟩; exact absurd h' h
theorem Hp {b:Nat} (hb:b≤w.n):((⟨0,0⟩:aF),w.fK)∈back w b:=by
 rcases Nat.lt_or_ge b w.n with h|h
 ·exact (o0 h).2 (.inl U)
 ·rw [uH h]; simp
theorem mR (t:aF):dg t ⟨0,0⟩=t:=by cases t; simp [dg]
theorem yl (a o u:aF):dg (dg a o) u=dg a (dg u o):=by simp only [dg,aF.mk.injEq]; omega
theorem E7 (hl: ∀ b,0≤bR w b): ∀ (k:Nat) (u:aF×Int),u∈bwd w k→u.2≤w.fK:=by
 intro k
 induction k with
 |zero=>intro u hu; simp only [bwd,bK] at hu; subst hu; exact Int.le_refl _
 |succ k ih=>
  intro u hu
  simp only [bwd,dL,List.mem_flatMap,List.mem_filterMap] at hu
  rcases hu with rfl|⟨p,hp,o,ho,e⟩
  ·exact Int.le_refl _
  ·obtain ⟨_,rfl⟩:=uC.1 e
   have:=ih p hp
   have:=hl (w.n-(k+1))
   simp only; omega
/-- what follows a passing is told by the way back -/
theorem LB: ∀ (k b:Nat) (p q:aF×Int),b+k≤w.n→p.2≤w.fK→q∈fJ w k b p→ ∃ u∈back w b,p.2≤u.2∧q.1=dg p.1 u.1:=by
 intro k
 induction k with
 |zero=>
  intro b p q hb hp hq
  simp only [fJ,bK] at hq
  subst hq
  exact ⟨_,Hp I,hp,(mR _).symm⟩
 |succ k ih=>
  intro b p q hb hp hq
  obtain ⟨o,ho,p',e,h⟩:=g5.1 hq
  obtain ⟨C,rfl⟩:=gE.1 e
  obtain ⟨u',hu',B,A⟩:=ih (b+1) _ q I (by simp only; omega) h
  simp only at B A
  refine ⟨(dg u'.1 (eQ o.1),min u'.2 o.2.Hi-bR w b),(o0 I).2 (.inr ⟨u',hu',o,ho,uC.2 ⟨I,U⟩⟩),by simp only; omega,?_⟩
  rw [A,yl]
theorem I7 (hl: ∀ b,0≤bR w b): ∀ (d b:Nat) (p u:aF×Int),w.n=b+d→p.2≤u.2→u∈back w b→ ∃ k,b+k≤w.n∧ ∃ q∈fJ w k b p,q.1=dg p.1 u.1:=by
 intro d
 induction d with
 |zero=>
  intro b p u hd hp hu
  rw [uH I] at hu
  simp only [bK] at hu
  subst hu
  exact ⟨0,I,p,by simp [fJ],(mR _).symm⟩
 |succ d ih=>
  intro b p u hd hp hu
  rcases (o0 I).1 hu with rfl|⟨u',hu',o,ho,e⟩
  ·exact ⟨0,I,p,by simp [fJ],(mR _).symm⟩
  ·obtain ⟨B,rfl⟩:=uC.1 e
   have hn:u'.2≤w.fK:=E7 hl _ _ hu'
   simp only at hp
   obtain ⟨k,hk,q,hq,A⟩:=ih (b+1) (dg p.1 (eQ o.1),max (p.2+bR w b) o.2.Lo) u' I (by simp only; omega) hu'
   refine ⟨k+1,I,q,g5.2 ⟨o,ho,_,gE.2 ⟨I,U⟩,hq⟩,?_⟩
   rw [A]; simp only; rw [yl]
end
section
section
variable {l:aW} {r:cx} {one at_:Int} {d:Nat} {f g m:Int} {rec:Int→Int→Int→Bool} {i:Int}
end
theorem qB {l:aW} {r:cx} {d:Nat} (hd:d<l.ae.length) {o:Int×ab}:o∈hO (cw l r) d↔o=(-1,⟨r.Start,r.fK⟩)∨ ∃ k,k<r.ah.length∧ ∃ s,r.ah[k]? =some s∧(s.fM=(d:Int)∧(cR l s).Lo≤(cR l s).Hi)∧o=((k:Int),cR l s):=by
 unfold hO td
 show o∈(-1,(⟨r.Start,r.fK⟩:ab))::((dU l r.ah r.ah.length)[d]?).getD []↔_
 rw [oP hd,Option.getD_some,dL,sw]
theorem py {l:aW} {r:cx} {d:Nat} (hd:d<l.ae.length):bR (cw l r) d=dN l d:=by rw [yn,if_pos hd]
theorem ue {l:aW} {n d:Nat} {y:Int} (h:(cL l n)[d]? =some y):y=dN l d:=by
 unfold cL at h
 rw [fj] at h
 have hd:d<n:=by
  rcases Nat.lt_or_ge d n with q|q
  ·exact q
  ·rw [List.getElem?_eq_none (by simpa using q)] at h; cases h
 rw [List.getElem?_range hd] at h
 exact (Option.some.inj h).symm
end
section
def O0 (w:bP) (b:Nat) (i:Int):Prop:= ∃ b',b'<b∧ ∃ q∈mD w b',q.1=i
noncomputable instance (w:bP) (b:Nat) (i:Int):Decidable (O0 w b i):=Classical.propDecidable _
def vK (w:bP) (b:Nat):Bool:=(mD w b).any fun q=>decide (0≤q.1)
def zF (w:bP) (k:Nat):List Int:=((List.range k).filter fun b=> !vK w b).map fun (b:Nat)=>(b:Int)
noncomputable def vv (l:aW) (r:cx):List Int:=if eB l r 0=0 then zF (cw l r) (x4 (mq l r)).toNat else []
theorem xe {l:aW} {r:cx} (h:eB l r 0=0):vv l r=zF (cw l r) (x4 (mq l r)).toNat:=if_pos h
theorem w8 {l:aW} {r:cx} (h: ¬ eB l r 0=0):vv l r=[]:=if_neg h
theorem Sh {l:aW} {r:cx} (h:eB l r 0=0):0≤x4 (mq l r)∧x4 (mq l r)≤(l.ae.length:Int):=by
 have A:=(Nm (GQ h)).1
 rw [lE h] at A ⊢
 obtain ⟨i,e,hi,_⟩:=o3.1 A
 have hn:(cw l r).n=l.ae.length:=dT
 omega
end
section
/-- a truth goes on from here -/
def sE (w:bP) (b:Nat) (p:aF×Int):Prop:= ∃ k,b+k≤w.n∧ ∃ q∈fJ w k b p,kp w q.1=true
/-- a truth may have come here, or earlier -/
def CD (w:bP) (b:Nat) (p:aF×Int):Prop:= ∃ v,(p.1,v)∈fwd w b∧v≤p.2
def HM (n:Int) (p:aF×Int):aF×Int:=(p.1,p.2+n)
section
variable {w:bP}
theorem Hz: ∀ (k j b:Nat) (p q z:aF×Int),q∈fJ w k b p→z∈fJ w j (b+k) q→z∈fJ w (k+j) b p:=by
 intro k
 induction k with
 |zero=>
  intro j b p q z A B
  simp only [fJ,bK] at A
  subst A
  rw [Nat.zero_add]; exact B
 |succ k ih=>
  intro j b p q z A B
  obtain ⟨o,ho,p',e,h⟩:=g5.1 A
  rw [show k+1+j=(k+j)+1 by omega]
  exact g5.2 ⟨o,ho,p',e,ih j (b+1) p' q z h (by rw [show b+1+k=b+(k+1) by omega]; exact B)⟩
theorem Ax: ∀ (k b:Nat) (t:aF) (x y:Int) (q:aF×Int),y≤x→q∈fJ w k b (t,x)→ ∃ q'∈fJ w k b (t,y),q'.1=q.1∧q'.2≤q.2:=by
 intro k
 induction k with
 |zero=>
  intro b t x y q A hq
  simp only [fJ,bK] at hq ⊢
  subst hq
  exact ⟨_,U,U,A⟩
 |succ k ih=>
  intro b t x y q A hq
  obtain ⟨o,ho,p',e,h⟩:=g5.1 hq
  obtain ⟨B,rfl⟩:=gE.1 e
  simp only at B h
  obtain ⟨q',hq',C,D⟩:=ih (b+1) _ _ (max (y+bR w b) o.2.Lo) q I h
  exact ⟨q',g5.2 ⟨o,ho,_,gE.2 ⟨by simp only; omega,U⟩,hq'⟩,C,D⟩
theorem vQ {b:Nat} {t:aF} {x y:Int} (h:sE w b (t,x)) (hy:y≤x):sE w b (t,y):=by
 obtain ⟨k,hk,q,hq,hm⟩:=h
 obtain ⟨q',hq',e,_⟩:=Ax k b t x y q hy hq
 exact ⟨k,hk,q',hq',by rw [e]; exact hm⟩
theorem ud {k b:Nat} {p q:aF×Int} (h:q∈fJ w k b p) (hv:sE w (b+k) q):sE w b p:=by
 obtain ⟨j,hj,z,hz,hm⟩:=hv
 exact ⟨k+j,I,z,Hz k j b p q z h hz,hm⟩
theorem GF {b:Nat} {p q:aF×Int} {o:Int×ab} (h:CD w b p) (ho:o∈hO w b) (e:kB w b p o=some q):CD w (b+1) q:=by
 obtain ⟨v,hv,A⟩:=h
 obtain ⟨B,rfl⟩:=gE.1 e
 exact ⟨max (v+bR w b) o.2.Lo,fE.2 ⟨_,hv,o,ho,gE.2 ⟨by simp only; omega,U⟩⟩,by simp only; omega⟩
theorem BJ {b:Nat} {p:aF×Int} (h:p∈fwd w b):CD w b p:=⟨p.2,h,Int.le_refl _⟩
theorem yZ (hl: ∀ b,0≤bR w b): ∀ (b:Nat) (p:aF×Int),p∈fwd w b→w.Start≤p.2:=by
 intro b
 induction b with
 |zero=>intro p hp; simp only [fwd,bK] at hp; subst hp; exact Int.le_refl _
 |succ b ih=>
  intro q hq
  obtain ⟨p,hp,o,ho,e⟩:=fE.1 hq
  obtain ⟨_,rfl⟩:=gE.1 e
  have:=ih p hp
  have:=hl b
  simp only; omega
/-- a beam is passed at a time, by a signal -/
def wU (w:bP) (b:Nat) (s t:Int):Prop:= ∃ p∈fwd w b,∃ o∈hO w b,o.1=s∧(max (p.2+bR w b) o.2.Lo≤t∧t≤min o.2.Hi w.fK)∧sE w (b+1) (dg p.1 (eQ o.1),t)
theorem zT (hl: ∀ b,0≤bR w b) {b:Nat} (hb:b<w.n) {s t:Int}:(∃ q∈mD w b,q.1=s∧q.2.Lo≤t∧t≤q.2.Hi)↔wU w b s t:=by
 constructor
 ·rintro ⟨q,hq,hs,C,D⟩
  obtain ⟨o,ho,p,hp,u,hu,e⟩:=g6.1 hq
  obtain ⟨B,A,rfl⟩:=ja.1 e
  simp only [js] at C D B
  have hn:u.2≤w.fK:=E7 hl _ _ hu
  obtain ⟨k,hk,q,hq',E⟩:=I7 hl (w.n-(b+1)) (b+1) (dg p.1 (eQ o.1),t) u I (by simp only; omega) hu
  refine ⟨p,hp,o,ho,hs,⟨I,I⟩,k,hk,q,hq',?_⟩
  rw [E]
  unfold wi at A
  rw [show dg (dg p.1 (eQ o.1)) u.1=dg (dg p.1 u.1) (eQ o.1) by simp only [dg,aF.mk.injEq]; omega]
  exact A
 ·rintro ⟨p,hp,o,ho,hs,⟨C,D⟩,k,hk,q,hq,hm⟩
  obtain ⟨u,hu,B,A⟩:=LB k (b+1) _ q hk (by simp only; omega) hq
  simp only at B A
  refine ⟨(o.1,js w b p u o),g6.2 ⟨o,ho,p,hp,u,hu,ja.2 ⟨by simp only [js]; omega,?_,U⟩⟩,hs,by simp only [js]; omega,by simp only [js]; omega⟩
  unfold wi
  rw [A] at hm
  rw [show dg (dg p.1 u.1) (eQ o.1)=dg (dg p.1 (eQ o.1)) u.1 by simp only [dg,aF.mk.injEq]; omega]
  exact hm
end
structure yb (w w':bP) (n:Int) (f:Int→Int):Prop where
 start:w'.Start=w.Start+n
 now:w'.fK=w.fK+n
 wn:w'.n=w.n
 low: ∀ b,0≤bR w b
 least: ∀ b,bR w' b=bR w b
 may: ∀ t,kp w t=true→kp w' t=true
 S3: ∀ s,0≤f s↔0≤s
 opt: ∀ (b:Nat) (p:aF×Int) (o:Int×ab),b<w.n→w.Start≤p.2→CD w b p→o∈hO w b→max (p.2+bR w b) o.2.Lo≤min o.2.Hi w.fK→sE w (b+1) (dg p.1 (eQ o.1),max (p.2+bR w b) o.2.Lo)→
  ∃ o'∈hO w' b,o'.1=f o.1∧ ∀ t,w.Start≤t→t≤w.fK→((o.2.Lo≤t∧t≤o.2.Hi)↔(o'.2.Lo≤t+n∧t+n≤o'.2.Hi))
section
variable {w w':bP} {n:Int} {f g:Int→Int}
theorem yb.one (h:yb w w' n f) (s:Int):eQ (f s)=eQ s:=by
 unfold eQ
 have:=h.S3 s
 by_cases q:s<0
 ·rw [if_pos q,if_pos I]
 ·rw [if_neg q,if_neg I]
theorem yb.step (h:yb w w' n f) {b:Nat} {p q:aF×Int} {o:Int×ab} (hb:b<w.n) (hs:w.Start≤p.2) (hl:CD w b p) (ho:o∈hO w b) (e:kB w b p o=some q) (hv:sE w (b+1) q):
 ∃ o'∈hO w' b,kB w' b (HM n p) o'=some (HM n q):=by
 obtain ⟨E,rfl⟩:=gE.1 e
 obtain ⟨o',ho',D,A⟩:=h.opt b p o hb hs hl ho E hv
 have F:=h.low b
 have B:=A (max (p.2+bR w b) o.2.Lo) I I
 have C:=A (max (p.2+n+bR w b) o'.2.Lo-n) I
 refine ⟨o',ho',gE.2 ?_⟩
 simp only [HM,h.least,h.now]
 rw [D,h.one]
 have G:=B.1 I
 have H:=(C I).2 I
 refine ⟨I,?_⟩
 simp only [Prod.mk.injEq,true_and]
 omega
theorem yb.reach (h:yb w w' n f): ∀ (k b:Nat) (p q:aF×Int),b+k≤w.n→w.Start≤p.2→CD w b p→q∈fJ w k b p→sE w (b+k) q→HM n q∈fJ w' k b (HM n p):=by
 intro k
 induction k with
 |zero=>
  intro b p q _ _ _ hq _
  simp only [fJ,bK] at hq ⊢
  rw [hq]
 |succ k ih=>
  intro b p q hb hs hl hq hv
  obtain ⟨o,ho,p',e,hq'⟩:=g5.1 hq
  have hv':sE w (b+1) p':=ud hq' (by rw [show b+1+k=b+(k+1) by omega]; exact hv)
  obtain ⟨o',ho',e'⟩:=h.step I hs hl ho e hv'
  have A:=gE.1 e
  have B:=h.low b
  exact g5.2 ⟨o',ho',_,e',ih (b+1) p' q I (by rw [A.2]; simp only; omega) (GF hl ho e) hq' (by rw [show b+1+k=b+(k+1) by omega]; exact hv)⟩
theorem yb.PL (h:yb w w' n f) {b:Nat} {p:aF×Int} (hs:w.Start≤p.2) (hl:CD w b p) (hv:sE w b p):sE w' b (HM n p):=by
 obtain ⟨k,hk,q,hq,hm⟩:=hv
 exact ⟨k,by rw [h.wn]; exact hk,_,h.reach k b p q hk hs hl hq ⟨0,I,q,by simp [fJ],hm⟩,h.may _ hm⟩
theorem yb.fwd (h:yb w w' n f) {b:Nat} {q:aF×Int} (hb:b≤w.n) (hq:q∈fwd w b) (hv:sE w b q):HM n q∈Go.Proofs.YtcoejkiaokbmpaaGreatDoor.fwd w' b:=by
 obtain ⟨p,hp,hr⟩:=(rf b 0 q).1 (by rw [Nat.zero_add]; exact hq)
 have hr':=h.reach b 0 p q I (yZ h.low 0 p hp) (BJ hp) hr (by rw [Nat.zero_add]; exact hv)
 have:HM n p∈Go.Proofs.YtcoejkiaokbmpaaGreatDoor.fwd w' 0:=by
  simp only [Go.Proofs.YtcoejkiaokbmpaaGreatDoor.fwd,bK] at hp ⊢
  subst hp
  rw [h.start]; rfl
 have A:=(rf b 0 (HM n q)).2 ⟨_,this,hr'⟩
 rwa [Nat.zero_add] at A
theorem yb.any (h:yb w w' n f) {b:Nat} (hb:b≤w.n) (hm:jc w (Go.Proofs.YtcoejkiaokbmpaaGreatDoor.fwd w b)=true):jc w' (Go.Proofs.YtcoejkiaokbmpaaGreatDoor.fwd w' b)=true:=by
 unfold jc at hm ⊢
 obtain ⟨p,hp,A⟩:=List.any_eq_true.1 hm
 exact List.any_eq_true.2 ⟨_,h.fwd hb hp ⟨0,I,p,by simp [fJ],A⟩,h.may _ A⟩
theorem yb.pass (h:yb w w' n f) {b:Nat} (hb:b<w.n) {s t:Int} (hp:wU w b s t):wU w' b (f s) (t+n):=by
 obtain ⟨p,hp,o,ho,rfl,⟨D,G⟩,hv⟩:=hp
 have hs:=yZ h.low b p hp
 have hl:=h.low b
 have A:sE w (b+1) (dg p.1 (eQ o.1),max (p.2+bR w b) o.2.Lo):=vQ hv D
 have e:kB w b p o=some (dg p.1 (eQ o.1),max (p.2+bR w b) o.2.Lo):=gE.2 ⟨I,rfl⟩
 have B:sE w b p:=ud (k:=1) (g5.2 ⟨o,ho,_,e,by simp [fJ]⟩) A
 obtain ⟨o',ho',C,E⟩:=h.opt b p o hb hs (BJ hp) ho I A
 have c:=(E t I I).1 I
 refine ⟨HM n p,h.fwd I hp B,o',ho',C,?_,?_⟩
 ·simp only [HM,h.least,h.now]; omega
 ·have F:=h.PL (b:=b+1) (p:=(dg p.1 (eQ o.1),t)) (by simp only; omega) ⟨_,fE.2 ⟨p,hp,o,ho,e⟩,D⟩ hv
  rw [C,h.one]; exact F
theorem JZ (h:yb w w' n f) (h':yb w' w (-n) g):jW w'=jW w:=by
 unfold jW
 rw [h.wn]
 unfold ke
 congr 1
 refine List.filter_congr fun b hb=>?_
 have hb:=List.mem_range.1 hb
 rw [Bool.eq_iff_iff]
 exact ⟨h'.any (by rw [h.wn]; omega),h.any I⟩
theorem Bs (h:yb w w' n f) (hl': ∀ b,0≤bR w' b) {b:Nat} (hb:b<w.n) {s:Int} (hq: ∃ q∈mD w b,q.1=s): ∃ q∈mD w' b,q.1=f s:=by
 obtain ⟨q,hq,e⟩:=hq
 have A:q.2.Lo≤q.2.Hi:=mI hq
 obtain ⟨q',hq',e',_⟩:=(zT hl' (by rw [h.wn]; exact hb)).2 (h.pass hb ((zT h.low hb).1 ⟨q,hq,e,Int.le_refl _,A⟩))
 exact ⟨q',hq',e'⟩
theorem Hx (h:yb w w' n f) (h':yb w' w (-n) g) {b:Nat} (hb:b<w.n):vK w' b=vK w b:=by
 rw [Bool.eq_iff_iff]
 unfold vK
 simp only [List.any_eq_true,decide_eq_true_eq]
 constructor
 ·rintro ⟨q,hq,A⟩
  obtain ⟨q',hq',e⟩:=Bs h' h.low (by rw [h.wn]; exact hb) ⟨q,hq,rfl⟩
  exact ⟨q',hq',by rw [e]; exact (h'.S3 _).2 A⟩
 ·rintro ⟨q,hq,A⟩
  obtain ⟨q',hq',e⟩:=Bs h h'.low hb ⟨q,hq,rfl⟩
  exact ⟨q',hq',by rw [e]; exact (h.S3 _).2 A⟩
end
section
variable {l l':aW} {r r':cx} {n:Int} {f g:Int→Int}
structure vm (l:aW) (r:cx) (l':aW) (r':cx) (n:Int) (f g:Int→Int):Prop where
 line:du l=0
 line':du l'=0
 xZ:eW l r
 ride':eW l' r'
 NH:l'.ae.length=l.ae.length
 to:yb (cw l r) (cw l' r') n f
 TZ:yb (cw l' r') (cw l r) (-n) g
theorem vm.Hw (h:vm l r l' r' n f g):jW (cw l' r')=jW (cw l r):=JZ h.to h.TZ
theorem vm.e (h:vm l r l' r' n f g) {me:Int}:eB l' r' me=eB l r me:=by
 by_cases hm:me=0
 ·by_cases q:jW (cw l r)=[]
  ·rw [pL h.line h.xZ hm q,pL h.line' h.ride' hm (h.Hw.trans q)]
  ·rw [mV h.line h.xZ hm q,mV h.line' h.ride' hm (by rw [h.Hw]; exact q)]
 ·rw [qv h.line h.xZ hm,qv h.line' h.ride' hm]
theorem vm.Dq (h:vm l r l' r' n f g):mq l' r'=mq l r:=by
 by_cases q:eB l r 0=0
 ·rw [lE q,lE (h.e.trans q),h.Hw]
 ·rw [tW q,tW (by rw [h.e]; exact q)]
theorem vm.vh (h:vm l r l' r' n f g) {b:Int}:jJ l' b=jJ l b:=by unfold jJ; rw [h.NH]
theorem vm.bn (h:vm l r l' r' n f g):(cw l r).n=l.ae.length:=dT
theorem vm.eE (h:vm l r l' r' n f g):vv l' r'=vv l r:=by
 by_cases q:eB l r 0=0
 ·rw [xe q,xe (h.e.trans q),h.Dq]
  have hb:=Sh q
  unfold zF
  congr 1
  refine List.filter_congr fun b A=>?_
  have A:=List.mem_range.1 A
  rw [Hx h.to h.TZ (by rw [h.bn]; omega)]
 ·rw [w8 q,w8 (by rw [h.e]; exact q)]
end
end
section
theorem m6 {l:aW} (ht:cV l.aM=true) (h:lI l) {i:Nat} (hi:i<l.ae.length):1≤dN l i∧dN l i≤500000000:=by
 have A:=h.PZ i hi
 have B:=E9 ht h.vh i
 have hf:=h.head.1
 unfold dN o8
 refine ⟨(Int.le_ediv_iff_mul_le I).2 I,?_⟩
 have:(1000*mQ l i+l.gG-1)/l.gG≤1000*mQ l i+l.gG-1:=Int.ediv_le_self _ I
 omega
end
section
def cT (good:List Int):aF:=good.foldl (fun t g=>dg t (eQ g)) ⟨0,0⟩
theorem jT {l:List Int} {g:Int}:cT (l++[g])=dg (cT l) (eQ g):=by unfold cT; rw [List.foldl_append]; rfl
def sN (r:cx) (times:List Int) (b:Nat):Int:=if b=0 then r.Start else (times[b-1]?).getD 0
theorem pI {r:cx} {times:List Int} {b:Nat} {t:Int} (h:times[b]? =some t):sN r times (b+1)=t:=by unfold sN; rw [if_neg I,Nat.add_sub_cancel,h]; rfl
structure iS (l:aW) (r:cx) (times good:List Int):Prop where
 xZ:eW l r
 len:good.length=times.length
 le:times.length≤l.ae.length
 step: ∀ (b:Nat) t,times[b]? =some t→sN r times b+dN l b≤t∧t≤r.fK
 sig: ∀ (b:Nat) t g,times[b]? =some t→good[b]? =some g→g= -1∨ ∃ (k:Nat) (s:aK),g=(k:Int)∧r.ah[k]? =some s∧s.fM=(b:Int)∧(cR l s).Lo≤t∧t≤(cR l s).Hi
 H7:(cT good).eE≤l.cN
 Q9:(r.ah.length:Int)-(cT good).right≤l.eg
section
variable {l:aW} {r:cx} {times good:List Int}
theorem iS.low (h:iS l r times good) (hl:du l=0): ∀ b,0≤bR (cw l r) b:=fun b=>by
 obtain ⟨ht,A⟩:=gF hl
 exact ((o2 ht A h.xZ).bR b).1
theorem iS.least (h:iS l r times good) {b:Nat} (hb:b<times.length):bR (cw l r) b=dN l b:=by
 have:=h.le
 rw [yn,if_pos I]
theorem iS.from_ (h:iS l r times good) (hl:du l=0): ∀ b:Nat,b≤times.length→r.Start≤sN r times b∧sN r times b≤r.fK:=by
 intro b
 induction b with
 |zero=>intro _; have:=h.xZ.time; unfold sN; rw [if_pos rfl]; omega
 |succ b ih=>
  intro hb
  have ht:times[b]? =some (times[b]'I):=ei _
  have B:=ih I
  have C:=h.step b _ ht
  have A:=h.low hl b
  rw [h.least I] at A
  rw [pI ht]
  omega
/-- what comes next, in the truth -/
theorem iS.opt (h:iS l r times good) (hl:du l=0) {b:Nat} {t g:Int} (ht:times[b]? =some t) (hg:good[b]? =some g): ∃ o∈hO (cw l r) b,o.1=g∧o.2.Lo≤t∧t≤o.2.Hi:=by
 have hb:=(List.getElem?_eq_some_iff.1 ht).1
 have E:=h.le
 have F:=h.step b t ht
 have G:=h.from_ hl b I
 have B:=h.low hl b
 rw [h.least hb] at B
 rcases h.sig b t g ht hg with rfl|⟨k,s,rfl,hs,A,C,D⟩
 ·exact ⟨(-1,⟨r.Start,r.fK⟩),(qB I).2 (.inl U),U,by simp only; omega,by simp only; omega⟩
 ·exact ⟨((k:Int),cR l s),(qB I).2 (.inr ⟨k,(List.getElem?_eq_some_iff.1 hs).1,s,hs,⟨A,I⟩,U⟩),U,C,D⟩
theorem lO {α:Type} {l:List α} {b:Nat} {x:α} (h:l[b]? =some x):l.take (b+1)=l.take b++[x]:=by rw [List.take_add_one,h]; rfl
theorem iS.live (h:iS l r times good) (hl:du l=0): ∀ b:Nat,b≤times.length→CD (cw l r) b (cT (good.take b),sN r times b):=by
 intro b
 induction b with
 |zero=>intro _; exact ⟨r.Start,by simp [fwd,cT]; rfl,by unfold sN; rw [if_pos rfl]; exact Int.le_refl _⟩
 |succ b ih=>
  intro hb
  have B:=h.len
  have ht:times[b]? =some (times[b]'I):=ei _
  have hg:good[b]? =some (good[b]'I):=ei _
  obtain ⟨v,hv,A⟩:=ih I
  obtain ⟨o,ho,e,C,D⟩:=h.opt hl ht hg
  have E:=h.step b _ ht
  have F:=h.least (b:=b) I
  simp only at A hv
  rw [pI ht,lO hg,jT,← e]
  refine ⟨max (v+bR (cw l r) b) o.2.Lo,fE.2 ⟨_,hv,o,ho,gE.2 ⟨?_,U⟩⟩,?_⟩
  ·have G:(cw l r).fK=r.fK:=rfl
   simp only; omega
  ·simp only; omega
theorem iS.PL (h:iS l r times good) (hl:du l=0): ∀ (d b:Nat),b+d=times.length→sE (cw l r) b (cT (good.take b),sN r times b):=by
 intro d
 induction d with
 |zero=>
  intro b hb
  have hn:(cw l r).n=l.ae.length:=dT
  have C:=h.len
  have D:=h.le
  refine ⟨0,I,_,by simp [fJ]; rfl,?_⟩
  rw [List.take_of_length_le I]
  unfold kp
  have A:=h.H7
  have B:=h.Q9
  exact dh ⟨A,B⟩
 |succ d ih=>
  intro b hb
  have C:=h.len
  have ht:times[b]? =some (times[b]'I):=ei _
  have hg:good[b]? =some (good[b]'I):=ei _
  obtain ⟨o,ho,e,D,A⟩:=h.opt hl ht hg
  have B:=h.step b _ ht
  have E:=h.least (b:=b) I
  have F:(cw l r).fK=r.fK:=rfl
  have hv:=ih (b+1) I
  rw [pI ht,lO hg,jT,← e] at hv
  exact ud (k:=1) (g5.2 ⟨o,ho,_,gE.2 ⟨by first|omega|(simp only; omega),U⟩,by simp [fJ]; rfl⟩) (vQ hv (by first|omega|(simp only; omega)))
theorem iS.pass (h:iS l r times good) (hl:du l=0) {b:Nat} {t g:Int} (ht:times[b]? =some t) (hg:good[b]? =some g):wU (cw l r) b g t:=by
 have hb:=(List.getElem?_eq_some_iff.1 ht).1
 obtain ⟨v,hv,A⟩:=h.live hl b I
 obtain ⟨o,ho,e,B,C⟩:=h.opt hl ht hg
 have D:=h.step b _ ht
 have E:=h.least (b:=b) hb
 have F:(cw l r).fK=r.fK:=rfl
 have hw:=h.PL hl (times.length-(b+1)) (b+1) I
 rw [pI ht,lO hg,jT,← e] at hw
 simp only at A
 exact ⟨_,hv,o,ho,e,⟨by simp only; omega,I⟩,hw⟩
theorem iS.num (h:iS l r times good) (hl:du l=0):(times.length:Int)∈jW (cw l r):=by
 obtain ⟨v,hv,_⟩:=h.live hl times.length (Nat.le_refl _)
 have hn:(cw l r).n=l.ae.length:=dT
 have B:=h.le
 refine o3.2 ⟨times.length,U,I,?_⟩
 unfold jc
 refine List.any_eq_true.2 ⟨_,hv,?_⟩
 have A:=h.len
 rw [List.take_of_length_le I]
 unfold kp
 exact dh ⟨h.H7,h.Q9⟩
theorem iS.e (h:iS l r times good) (hl:du l=0):eB l r 0=0:=mV hl h.xZ rfl fun e=>by have:=h.num hl; rw [e] at this; cases this
theorem iS.Dq (h:iS l r times good) (hl:du l=0):(times.length:Int)∈mq l r:=by rw [lE (h.e hl)]; exact h.num hl
end
end
section
def gk (hi:Int→Int) (least:Nat→Int) (now:Int):Nat→List Int→List Int×Int
 |_,[]=>([],now)
 |b,x::xs=>((if 0≤x then min (gk hi least now (b+1) xs).2 (hi x) else (gk hi least now (b+1) xs).2)::(gk hi least now (b+1) xs).1,(if 0≤x then min (gk hi least now (b+1) xs).2 (hi x) else (gk hi least now (b+1) xs).2)-least b)
def fQ (t:Int):List Int→Int
 |[]=>t
 |x::xs=>fQ x xs
def jY (w:bP):Nat→Int→List Int→List Int→Prop
 |_,_,[],[]=>True
 |b,t,x::rs,y::fs=>(∃ o∈hO w b,o.1=x∧max (t+bR w b) o.2.Lo≤min o.2.Hi w.fK∧y=max (t+bR w b) o.2.Lo)∧jY w (b+1) y rs fs
 |_,_,_,_=>False
section
variable {w:bP} {hi:Int→Int} {least:Nat→Int} {now:Int}
theorem rr: ∀ (b:Nat) (rs:List Int),(gk hi least now b rs).1.length=rs.length
 |_,[]=>rfl
 |b,x::xs=>by simp only [gk,List.length_cons]; rw [rr]
theorem mU: ∀ (t:Int) (fs:List Int) (y:Int),fQ t (fs++[y])=y
 |_,[],_=>rfl
 |t,x::fs,y=>mU x fs y
theorem Ch: ∀ (t:Int) (fs:List Int) (y:Int),fs[fs.length-1]? =some y→fQ t fs=y
 |t,[],y,h=>by simp at h
 |t,[x],y,h=>by simpa [fQ] using h
 |t,x::x2::fs,y,h=>by
  show fQ x (x2::fs)=y
  exact Ch x (x2::fs) y (by simpa using h)
theorem tJ: ∀ (b:Nat) (rs:List Int) (x:Int) (ss:List Int),(gk hi least now b (rs++x::ss)).1[rs.length]? =some (if 0≤x then min (gk hi least now (b+rs.length+1) ss).2 (hi x) else (gk hi least now (b+rs.length+1) ss).2)
 |b,[],x,ss=>by simp [gk]
 |b,z::rs,x,ss=>by
  have:=tJ (b+1) rs x ss
  simp only [List.cons_append,gk,List.length_cons,List.getElem?_cons_succ]
  rw [this,show b+1+rs.length+1=b+(rs.length+1)+1 by omega]
theorem j6: ∀ (b:Nat) (t:Int) (rs fs:List Int),jY w b t rs fs→fs.length=rs.length
 |_,_,[],[],_=>rfl
 |b,t,x::rs,y::fs,h=>by simp [j6 _ _ rs fs h.2]
 |_,_,[],_::_,h=>h.elim
 |_,_,_::_,[],h=>h.elim
theorem rn: ∀ (b:Nat) (t:Int) (rs fs ss gs:List Int),fs.length=rs.length→(jY w b t (rs++ss) (fs++gs)↔jY w b t rs fs∧jY w (b+rs.length) (fQ t fs) ss gs)
 |b,t,[],[],ss,gs,_=>by simp [jY,fQ]
 |b,t,x::rs,y::fs,ss,gs,h=>by
  have ih:=rn (b+1) y rs fs ss gs (by simpa using h)
  simp only [List.cons_append,jY,List.length_cons,fQ]
  rw [ih,show b+1+rs.length=b+(rs.length+1) by omega,and_assoc]
 |_,_,[],_::_,_,_,h=>by simp at h
 |_,_,_::_,[],_,_,h=>by simp at h
theorem Dp (b:List Int): ∀ t:aF,b.foldl (fun t g=>dg t (eQ g)) t=dg t (cT b):=by
 induction b with
 |nil=>intro t; exact (mR t).symm
 |cons x b ih=>
  intro t
  show b.foldl (fun t g=>dg t (eQ g)) (dg t (eQ x))=dg t (b.foldl (fun t g=>dg t (eQ g)) (dg ⟨0,0⟩ (eQ x)))
  rw [ih,ih]; simp only [dg,aF.mk.injEq]; omega
theorem q7 (a b:List Int):cT (a++b)=dg (cT a) (cT b):=by
 show (a++b).foldl _ _=_
 rw [List.foldl_append,Dp]; rfl
theorem qR:cT []=(⟨0,0⟩:aF):=rfl
theorem pd (l:List Int):dg (⟨0,0⟩:aF) (cT l)=cT l:=by simp [dg]
theorem sH (x:Int) (l:List Int):cT (x::l)=dg (eQ x) (cT l):=by
 rw [show x::l=[x]++l from rfl,q7,show cT [x]=eQ x from (jT (l:=[])).trans (by rw [qR]; simp [dg])]
theorem tf: ∀ l:List Int,0≤(cT l).right∧0≤(cT l).eE∧(cT l).right+(cT l).eE=(l.length:Int)
 |[]=>by rw [qR]; simp
 |x::l=>by
  rw [sH]
  have:=ub x
  have:=tf l
  simp only [dg,List.length_cons]
  omega
/-- chains are what the watch goes through -/
theorem jU: ∀ (k b:Nat) (p q:aF×Int),q∈fJ w k b p↔ ∃ rs fs,rs.length=k∧jY w b p.2 rs fs∧q=(dg p.1 (cT rs),fQ p.2 fs):=by
 intro k
 induction k with
 |zero=>
  intro b p q
  simp only [fJ,bK]
  constructor
  ·rintro rfl; exact ⟨[],[],rfl,trivial,by rw [qR,mR]; rfl⟩
  ·rintro ⟨rs,fs,A,B,rfl⟩
   have A:=jH A
   subst A
   have:=jH (j6 _ _ _ _ B)
   subst this
   rw [qR,mR]; rfl
 |succ k ih=>
  intro b p q
  rw [g5]
  constructor
  ·rintro ⟨o,ho,p',e,h⟩
   obtain ⟨A,rfl⟩:=gE.1 e
   obtain ⟨rs,fs,B,C,rfl⟩:=(ih _ _ _).1 h
   refine ⟨o.1::rs,max (p.2+bR w b) o.2.Lo::fs,by simp [B],⟨⟨o,ho,U,A,U⟩,C⟩,?_⟩
   rw [sH]
   simp only [fQ,dg,Prod.mk.injEq,aF.mk.injEq,and_true]; omega
  ·rintro ⟨rs,fs,A,B,rfl⟩
   cases rs with
   |nil=>simp at A
   |cons x rs=>
    cases fs with
    |nil=>exact B.elim
    |cons y fs=>
     obtain ⟨⟨o,ho,rfl,C,rfl⟩,D⟩:=B
     refine ⟨o,ho,_,gE.2 ⟨C,U⟩,(ih _ _ _).2 ⟨rs,fs,by simpa using A,D,?_⟩⟩
     rw [sH]
     simp only [fQ,dg,Prod.mk.injEq,aF.mk.injEq,and_true]; omega
/-- what the reference's rows of last times know -/
structure IG (w:bP) (hi:Int→Int) (least:Nat→Int) (now:Int):Prop where
 low: ∀ b,0≤bR w b
 least: ∀ b,b<w.n→least b=bR w b
 now:now=w.fK
 hi: ∀ b o,b<w.n→o∈hO w b→0≤o.1→o.2.Hi=hi o.1
 none_: ∀ b o,b<w.n→o∈hO w b→ ¬ 0≤o.1→o.2.Hi=w.fK
theorem xL (h:IG w hi least now): ∀ (b:Nat) (rs:List Int),b+rs.length≤w.n→(gk hi least now b rs).2≤w.fK
 |_,[],_=>by simp only [gk]; exact Int.le_of_eq h.now
 |b,x::xs,hb=>by
  simp only [List.length_cons] at hb
  have B:=xL h (b+1) xs I
  have A:=h.low b
  rw [← h.least b I] at A
  simp only [gk]
  split<;>omega
theorem qS (h:IG w hi least now): ∀ (b:Nat) (t:Int) (rs fs:List Int),b+rs.length≤w.n→t≤w.fK→jY w b t rs fs→t≤(gk hi least now b rs).2
 |_,t,[],[],_,ht,_=>by simp only [gk]; rw [h.now]; exact ht
 |b,t,x::rs,y::fs,hb,ht,hc=>by
  simp only [List.length_cons] at hb
  obtain ⟨⟨o,ho,rfl,D,rfl⟩,A⟩:=hc
  have B:=qS h (b+1) _ rs fs I I A
  have C:=h.least b I
  simp only [gk]
  split
  ·rename_i q
   have:=h.hi b o I ho q
   omega
  ·omega
 |_,_,[],_::_,_,_,hc=>hc.elim
 |_,_,_::_,[],_,_,hc=>hc.elim
theorem xp (h:IG w hi least now): ∀ (b:Nat) (t t':Int) (rs fs:List Int),b+rs.length≤w.n→t≤t'→t'≤(gk hi least now b rs).2→jY w b t rs fs→ ∃ gs,jY w b t' rs gs
 |_,t,_,[],[],_,_,_,_=>⟨[],trivial⟩
 |b,t,t',x::rs,y::fs,hb,ht,he,hc=>by
  simp only [List.length_cons] at hb
  obtain ⟨⟨o,ho,rfl,E,rfl⟩,A⟩:=hc
  have C:=qS h (b+1) _ rs fs I I A
  have D:=h.least b I
  have F:=xL h (b+1) rs I
  simp only [gk] at he
  have B:max (t'+bR w b) o.2.Lo≤min o.2.Hi w.fK∧max (t'+bR w b) o.2.Lo≤(gk hi least now (b+1) rs).2:=by
   split at he
   ·rename_i q
    have:=h.hi b o I ho q
    omega
   ·rename_i q
    have:=h.none_ b o I ho q
    omega
  obtain ⟨gs,hg⟩:=xp h (b+1) _ (max (t'+bR w b) o.2.Lo) rs fs I I B.2 A
  exact ⟨_::gs,⟨o,ho,U,B.1,U⟩,hg⟩
 |_,_,_,[],_::_,_,_,_,hc=>hc.elim
 |_,_,_,_::_,[],_,_,_,hc=>hc.elim
theorem Bc (b:Nat) (t t':Int) (rs fs:List Int) (ht:t'≤t) (hc:jY w b t rs fs): ∃ gs,jY w b t' rs gs:=by
 have A:(dg ⟨0,0⟩ (cT rs),fQ t fs)∈fJ w rs.length b (⟨0,0⟩,t):=(jU _ _ _ _).2 ⟨rs,fs,rfl,hc,rfl⟩
 clear A
 induction rs generalizing b t t' fs with
 |nil=>exact ⟨[],trivial⟩
 |cons x rs ih=>
  cases fs with
  |nil=>exact hc.elim
  |cons y fs=>
   obtain ⟨⟨o,ho,rfl,C,rfl⟩,B⟩:=hc
   obtain ⟨gs,hg⟩:=ih (b+1) _ (max (t'+bR w b) o.2.Lo) fs I B
   exact ⟨_::gs,⟨o,ho,U,I,U⟩,hg⟩
/-- a way, as it is asked for -/
structure N7 (w:bP) (hi:Int→Int) (least:Nat→Int) (now:Int) (y:cZ):Prop where
 chain:jY w 0 w.Start y.f_ y.iq
 len:y.f_.length≤w.n
 last:y.lz=(gk hi least now 0 y.f_).1
 may:kp w (cT y.f_)=true
theorem Cw {k:Nat}:jc w (fwd w k)=true↔ ∃ rs fs,rs.length=k∧jY w 0 w.Start rs fs∧kp w (cT rs)=true:=by
 unfold jc
 rw [List.any_eq_true]
 have e:=fun q=>(rf (w:=w) k 0 q)
 rw [Nat.zero_add] at e
 constructor
 ·rintro ⟨q,hq,hm⟩
  obtain ⟨p,hp,h⟩:=(e q).1 hq
  simp only [fwd,bK] at hp
  subst hp
  obtain ⟨rs,fs,A,B,rfl⟩:=(jU _ _ _ _).1 h
  refine ⟨rs,fs,A,B,?_⟩
  rwa [pd] at hm
 ·rintro ⟨rs,fs,A,B,C⟩
  refine ⟨_,(e _).2 ⟨((⟨0,0⟩:aF),w.Start),List.mem_singleton.2 U,(jU _ _ _ _).2 ⟨rs,fs,A,B,U⟩⟩,?_⟩
  simp only [pd]; exact C
theorem Jv (h:IG w hi least now) (hs:w.Start≤w.fK) {b:Nat} (hb:b<w.n) {s t:Int}:wU w b s t↔ ∃ y,N7 w hi least now y∧ ∃ f e,y.f_[b]? =some s∧y.iq[b]? =some f∧y.lz[b]? =some e∧f≤t∧t≤e:=by
 have ef:=fun q=>(rf (w:=w) b 0 q)
 rw [Nat.zero_add] at ef
 constructor
 ·rintro ⟨p,hp,o,ho,rfl,⟨C,L⟩,k,hk,q,hq,hm⟩
  obtain ⟨Y,AB,hp⟩:=(ef p).1 hp
  simp only [fwd,bK] at AB
  subst AB
  obtain ⟨rs,fs,K,D,rfl⟩:=(jU _ _ _ _).1 hp
  obtain ⟨ss,gs,AA,E,rfl⟩:=(jU _ _ _ _).1 hq
  simp only at C L D E hm
  obtain ⟨gs',J⟩:=Bc (b+1) t (max (fQ w.Start fs+bR w b) o.2.Lo) ss gs C E
  have H:=j6 _ _ _ _ D
  have T:=j6 _ _ _ _ J
  have hc:jY w 0 w.Start (rs++o.1::ss) (fs++max (fQ w.Start fs+bR w b) o.2.Lo::gs'):=(rn _ _ _ _ _ _ H).2 ⟨D,by rw [Nat.zero_add,K]; exact ⟨⟨o,ho,rfl,I,rfl⟩,J⟩⟩
  have he:=qS h (b+1) t ss gs I I E
  have A:=tJ (hi:=hi) (least:=least) (now:=now) 0 rs o.1 ss
  rw [Nat.zero_add,K] at A
  refine ⟨⟨rs++o.1::ss,fs++max (fQ w.Start fs+bR w b) o.2.Lo::gs',(gk hi least now 0 (rs++o.1::ss)).1⟩,⟨hc,by simp; omega,U,?_⟩,max (fQ w.Start fs+bR w b) o.2.Lo,_,?_,?_,A,C,?_⟩
  ·show kp w (cT (rs++o.1::ss))=true
   rw [show rs++o.1::ss=(rs++[o.1])++ss by simp,q7,jT]
   rwa [pd] at hm
  ·show (rs++o.1::ss)[b]? =some o.1
   rw [List.getElem?_append_right I,K,Nat.sub_self]; rfl
  ·show (fs++_::gs')[b]? =_
   rw [List.getElem?_append_right I,H,K,Nat.sub_self]; rfl
  ·split
   ·rename_i q
    have:=h.hi b o hb ho q
    omega
   ·exact he
 ·rintro ⟨y,hy,f,e,C,L,P,Q,V⟩
  obtain ⟨R,F,La⟩:=y
  obtain ⟨hc,hn,A,hm⟩:=hy
  simp only at C L P hc hn A hm
  have N:=(List.getElem?_eq_some_iff.1 C).1
  have S:=j6 _ _ _ _ hc
  have eR:R=R.take b++s::R.drop (b+1):=by rw [← (List.getElem?_eq_some_iff.1 C).2]; exact (List.take_append_drop b R).symm.trans (by rw [List.drop_eq_getElem_cons N])
  have M:b<F.length:=by omega
  have eF:F=F.take b++f::F.drop (b+1):=by rw [← (List.getElem?_eq_some_iff.1 L).2]; exact (List.take_append_drop b F).symm.trans (by rw [List.drop_eq_getElem_cons M])
  rw [eR,eF,rn _ _ _ _ _ _ (by simp only [List.length_take]; omega)] at hc
  have O:(R.take b).length=b:=by rw [List.length_take]; omega
  rw [O,Nat.zero_add] at hc
  obtain ⟨D,⟨o,ho,rfl,W,rfl⟩,E⟩:=hc
  have B:=tJ (hi:=hi) (least:=least) (now:=now) 0 (R.take b) o.1 (R.drop (b+1))
  rw [← eR,O,Nat.zero_add,← A,P] at B
  have B:=Option.some.inj B
  have G:t≤(gk hi least now (b+1) (R.drop (b+1))).2∧t≤min o.2.Hi w.fK:=by
   have X:=xL h (b+1) (R.drop (b+1)) (by rw [List.length_drop]; omega)
   split at B
   ·rename_i q
    have:=h.hi b o hb ho q
    omega
   ·rename_i q
    have:=h.none_ b o hb ho q
    omega
  obtain ⟨gs,J⟩:=xp h (b+1) _ t (R.drop (b+1)) (F.drop (b+1)) (by rw [List.length_drop]; omega) Q G.1 E
  refine ⟨(dg ⟨0,0⟩ (cT (R.take b)),fQ w.Start (F.take b)),(ef _).2 ⟨((⟨0,0⟩:aF),w.Start),List.mem_singleton.2 U,(jU _ _ _ _).2 ⟨_,_,O,D,U⟩⟩,o,ho,U,⟨Q,G.2⟩,(R.drop (b+1)).length,by rw [List.length_drop]; omega,_,(jU _ _ _ _).2 ⟨_,gs,U,J,U⟩,?_⟩
  show kp w (dg (dg (dg ⟨0,0⟩ (cT (R.take b))) (eQ o.1)) (cT (R.drop (b+1))))=true
  rw [pd,← jT,← q7,show R.take b++[o.1]++R.drop (b+1)=R from by rw [List.append_assoc]; exact eR.symm]
  exact hm
end
noncomputable def Lm (l:aW) (r:cx) (x:Int):Int:=match r.ah[x.toNat]? with
 |some s=>(cR l s).Hi
 |none=>0
theorem CS {l:aW} {r:cx} {x:Int} {s:aK} (h:r.ah[x.toNat]? =some s):Lm l r x=(cR l s).Hi:=by unfold Lm; rw [h]
noncomputable def jk (l:aW) (r:cx) (rs:List Int):List Int:=(gk (Lm l r) (dN l) r.fK 0 rs).1
noncomputable def oI (l:aW) (r:cx) (n:Nat) (t i:Int):Option Int:=
 if i<0 then (if t≤r.fK then some t else none) else match r.ah[i.toNat]? with
  |some s=>if (s.fM=(n:Int)∧(cR l s).Lo≤(cR l s).Hi)∧max t (cR l s).Lo≤min r.fK (cR l s).Hi then some (max t (cR l s).Lo) else none
  |none=>none
noncomputable def gL (l:aW) (r:cx) (rs fs:List Int):List cZ:=if (r.ah.length:Int)-(cT rs).right≤l.eg then [⟨rs,fs,jk l r rs⟩] else []
noncomputable def g4 (l:aW) (r:cx):Nat→List Int→List Int→List cZ
 |0,rs,fs=>if l.cN<(cT rs).eE then [] else gL l r rs fs
 |k+1,rs,fs=>if l.cN<(cT rs).eE then [] else gL l r rs fs++(List.range (r.ah.length+1)).flatMap fun (j:Nat)=>match oI l r rs.length (fQ r.Start fs+dN l rs.length) ((j:Int)-1) with
  |some t=>g4 l r k (rs++[(j:Int)-1]) (fs++[t])
  |none=>[]
noncomputable def Ec (l:aW) (r:cx) (k:Nat) (rs fs:List Int) (j:Nat):List cZ:=gL l r rs fs++(List.range j).flatMap fun (j:Nat)=>match oI l r rs.length (fQ r.Start fs+dN l rs.length) ((j:Int)-1) with
 |some t=>g4 l r k (rs++[(j:Int)-1]) (fs++[t])
 |none=>[]
noncomputable def g9 (l:aW) (r:cx) (k:Nat) (rs fs:List Int) (j:Nat):List cZ:=(List.range j).flatMap fun (j:Nat)=>match oI l r rs.length (fQ r.Start fs+dN l rs.length) ((j:Int)-1) with
 |some t=>g4 l r k (rs++[(j:Int)-1]) (fs++[t])
 |none=>[]
section
variable {l:aW} {r:cx} {k j:Nat} {rs fs:List Int} {t:Int}
theorem qV:Ec l r k rs fs j=gL l r rs fs++g9 l r k rs fs j:=rfl
theorem m0 (h:oI l r rs.length (fQ r.Start fs+dN l rs.length) ((j:Int)-1)=some t):g9 l r k rs fs (j+1)=g9 l r k rs fs j++g4 l r k (rs++[(j:Int)-1]) (fs++[t]):=by
 unfold g9; rw [List.range_succ,List.flatMap_append]; simp [h]
theorem qj (h:oI l r rs.length (fQ r.Start fs+dN l rs.length) ((j:Int)-1)=none):g9 l r k rs fs (j+1)=g9 l r k rs fs j:=by
 unfold g9; rw [List.range_succ,List.flatMap_append]; simp [h]
theorem nm (h:l.cN<(cT rs).eE):g4 l r k rs fs=[]:=by cases k<;>exact if_pos h
theorem nu (h: ¬ l.cN<(cT rs).eE):g4 l r 0 rs fs=gL l r rs fs:=if_neg h
theorem np (h: ¬ l.cN<(cT rs).eE):g4 l r (k+1) rs fs=Ec l r k rs fs (r.ah.length+1):=if_neg h
theorem Bn {n:Nat} (hn:n<l.ae.length) (hl:0≤dN l n) (ht:r.Start≤t) {i y:Int} (hi: -1≤i):oI l r n (t+dN l n) i=some y↔ ∃ o∈hO (cw l r) n,o.1=i∧max (t+bR (cw l r) n) o.2.Lo≤min o.2.Hi (cw l r).fK∧y=max (t+bR (cw l r) n) o.2.Lo:=by
 rw [py hn]
 have hw:(cw l r).fK=r.fK:=rfl
 unfold oI
 constructor
 ·intro h
  split at h
  ·rename_i B
   split at h
   ·cases h
    exact ⟨(-1,⟨r.Start,r.fK⟩),(qB hn).2 (.inl U),by simp only; omega,by simp only; omega,by simp only; omega⟩
   ·cases h
  ·rename_i B
   split at h
   ·rename_i s hs
    split at h
    ·rename_i q
     cases h
     exact ⟨((i.toNat:Nat),cR l s),(qB hn).2 (.inr ⟨i.toNat,(List.getElem?_eq_some_iff.1 hs).1,s,hs,q.1,U⟩),by simp only; omega,by simp only; omega,U⟩
    ·cases h
   ·cases h
 ·rintro ⟨o,ho,rfl,A,rfl⟩
  rcases (qB hn).1 ho with rfl|⟨k,hk,s,hs,q,rfl⟩
  ·simp only at A ⊢
   rw [if_pos I,if_pos I]
   congr 1; omega
  ·simp only at A ⊢
   rw [if_neg I,Int.toNat_natCast,hs]
   simp only
   rw [if_pos ⟨q,I⟩]
theorem Kw (hl: ∀ n,n<l.ae.length→0≤dN l n): ∀ (k:Nat) (rs fs:List Int) (y:cZ),rs.length+k=l.ae.length→fs.length=rs.length→r.Start≤fQ r.Start fs→
 (y∈g4 l r k rs fs↔ ∃ ss gs,jY (cw l r) rs.length (fQ r.Start fs) ss gs∧ss.length≤k∧y=⟨rs++ss,fs++gs,jk l r (rs++ss)⟩∧kp (cw l r) (cT (rs++ss))=true):=by
 have D: ∀ (rs fs:List Int) (y:cZ),¬ l.cN<(cT rs).eE→(y∈gL l r rs fs↔y=⟨rs++[],fs++[],jk l r (rs++[])⟩∧kp (cw l r) (cT (rs++[]))=true):=by
  intro rs fs y hm
  unfold gL
  rw [List.append_nil,List.append_nil]
  have e:kp (cw l r) (cT rs)=true↔(r.ah.length:Int)-(cT rs).right≤l.eg:=by
   unfold kp
   rw [decide_eq_true_eq]
   exact ⟨fun q=>q.2,fun q=>⟨by have:(cw l r).cN=l.cN:=rfl; omega,q⟩⟩
  split
  ·rename_i q
   rw [bK]
   exact ⟨fun h=>⟨h,e.2 q⟩,fun h=>h.1⟩
  ·rename_i q
   exact ⟨fun h=>(by cases h),fun h=>absurd (e.1 h.2) q⟩
 have H7: ∀ (rs ss:List Int),l.cN<(cT rs).eE→ ¬ kp (cw l r) (cT (rs++ss))=true:=by
  intro rs ss h q
  unfold kp at q
  have:=(of_decide_eq_true q).1
  rw [q7] at this
  have C:=tf ss
  simp only [dg] at this
  have:(cw l r).cN=l.cN:=rfl
  omega
 intro k
 induction k with
 |zero=>
  intro rs fs y hn hf hs
  by_cases hm:l.cN<(cT rs).eE
  ·rw [nm hm]
   exact ⟨fun h=>(by cases h),fun ⟨ss,gs,_,_,_,q⟩=>absurd q (H7 rs ss hm)⟩
  ·rw [nu hm,D _ _ _ hm]
   constructor
   ·rintro ⟨B,C⟩; exact ⟨[],[],trivial,sm,B,C⟩
   ·rintro ⟨ss,gs,B,C,E,F⟩
    have e:=jH (Nat.le_zero.1 C)
    subst e
    have e:=jH (j6 _ _ _ _ B)
    subst e
    exact ⟨E,F⟩
 |succ k ih=>
  intro rs fs y hn hf hs
  by_cases hm:l.cN<(cT rs).eE
  ·rw [nm hm]
   exact ⟨fun h=>(by cases h),fun ⟨ss,gs,_,_,_,q⟩=>absurd q (H7 rs ss hm)⟩
  ·rw [np hm]
   unfold Ec
   rw [jB,D _ _ _ hm,List.mem_flatMap]
   have A: ∀ (x y:Int),(rs++[x]).length+k=l.ae.length∧(fs++[y]).length=(rs++[x]).length:=fun x y=>by simp; omega
   constructor
   ·rintro (⟨B,C⟩|⟨j,hj,h⟩)
    ·exact ⟨[],[],trivial,sm,B,C⟩
    ·cases e:oI l r rs.length (fQ r.Start fs+dN l rs.length) ((j:Int)-1) with
     |none=>rw [e] at h; cases h
     |some t=>
      rw [e] at h
      simp only at h
      obtain ⟨o,ho,B,C,E⟩:=(Bn I (hl _ I) hs I).1 e
      have G:r.Start≤t:=by
       have:=hl rs.length I
       rw [py I] at E
       omega
      obtain ⟨ss,gs,F,J,H,AA⟩:=(ih _ _ y (A _ t).1 (A _ t).2 (by rw [mU]; exact G)).1 h
      rw [mU,List.length_append] at F
      refine ⟨((j:Int)-1)::ss,t::gs,⟨⟨o,ho,B,C,E⟩,F⟩,by simp; omega,by simpa using H,by simpa using AA⟩
   ·rintro ⟨ss,gs,B,C,E,F⟩
    cases ss with
    |nil=>
     have e:=jH (j6 _ _ _ _ B)
     subst e
     exact .inl ⟨E,F⟩
    |cons x ss=>
     cases gs with
     |nil=>exact B.elim
     |cons t gs=>
      obtain ⟨⟨o,ho,rfl,J,H⟩,AA⟩:=B
      right
      have hx: -1≤o.1∧o.1<(r.ah.length:Int):=by
       rcases (qB I).1 ho with rfl|⟨k,hk,s,hs,q,rfl⟩
       ·simp only; omega
       ·simp only; omega
      have G:r.Start≤t:=by
       have:=hl rs.length I
       rw [py I] at H
       omega
      have K:((o.1+1).toNat:Int)-1=o.1:=by omega
      refine ⟨(o.1+1).toNat,List.mem_range.2 I,?_⟩
      rw [K,(Bn I (hl _ I) hs I).2 ⟨o,ho,rfl,J,H⟩]
      simp only
      refine (ih _ _ y (A _ t).1 (A _ t).2 (by rw [mU]; exact G)).2 ⟨ss,gs,?_,?_,?_,?_⟩
      ·rw [mU,List.length_append]; exact AA
      ·simp only [List.length_cons] at C; omega
      ·simpa using E
      ·simpa using F
end
theorem yE {l:aW} {r:cx} {rs fs:List Int} (h:(r.ah.length:Int)-(cT rs).right≤l.eg):gL l r rs fs=[⟨rs,fs,jk l r rs⟩]:=if_pos h
theorem xQ {l:aW} {r:cx} {rs fs:List Int} (h: ¬ (r.ah.length:Int)-(cT rs).right≤l.eg):gL l r rs fs=[]:=if_neg h
noncomputable def eD (l:aW) (r:cx) (i:Nat):List ab:=(r.ah.take i).map (cR l)
noncomputable def eO (l:aW) (r:cx) (i:Nat):List Bool:=(r.ah.take i).map fun s=>decide ((cR l s).Lo≤(cR l s).Hi)
section
variable {l:aW} {r:cx} {i n:Nat} {s:aK} {rs:List Int}
theorem DW (h:r.ah[i]? =some s):eD l r (i+1)=eD l r i++[cR l s]:=by unfold eD; rw [List.take_add_one,h,List.map_append]; rfl
theorem C8 (h:r.ah[i]? =some s):eO l r (i+1)=eO l r i++[decide ((cR l s).Lo≤(cR l s).Hi)]:=by unfold eO; rw [List.take_add_one,h,List.map_append]; rfl
theorem qQ (h:i≤r.ah.length):(eD l r i).length=i:=by unfold eD; rw [List.length_map,List.length_take]; omega
theorem uA (h:i≤r.ah.length):(eO l r i).length=i:=by unfold eO; rw [List.length_map,List.length_take]; omega
theorem Iw {k:Nat} {z:ab} (hs:r.ah[k]? =some s) (hz:(eD l r r.ah.length)[k]? =some z):z=cR l s:=by
 unfold eD at hz
 rw [List.take_length,fj,hs] at hz
 exact (Option.some.inj hz).symm
theorem Is {k:Nat} {z:ab} (hz:(eD l r r.ah.length)[k]? =some z): ∃ s,r.ah[k]? =some s∧z=cR l s:=by
 unfold eD at hz
 rw [List.take_length,fj] at hz
 cases h:r.ah[k]? with
 |none=>rw [h] at hz; cases hz
 |some s=>rw [h] at hz; exact ⟨s,rfl,(Option.some.inj hz).symm⟩
theorem CA {k:Nat} {z:Bool} (hs:r.ah[k]? =some s) (hz:(eO l r r.ah.length)[k]? =some z):z=true↔(cR l s).Lo≤(cR l s).Hi:=by
 unfold eO at hz
 rw [List.take_length,fj,hs] at hz
 rw [← Option.some.inj hz]
 exact decide_eq_true_iff
theorem xP (l:aW) (s:aK):(0≤(cR l s).Lo∧(cR l s).Lo≤86400001)∧ -1≤(cR l s).Hi∧(cR l s).Hi≤86400000:=by
 have A:=ik (p:=gR (pX l s) s.Read) (n:=86400001)
 have B:=ik (p:=gS (pX l s) s.Read) (n:=86400001)
 unfold cR Ao
 simp only
 omega
/-- the last times from a beam on -/
noncomputable def jD (l:aW) (r:cx) (rs:List Int) (j:Nat):List Int×Int:=gk (Lm l r) (dN l) r.fK j (rs.drop j)
noncomputable def jE (l:aW) (r:cx) (rs:List Int) (j:Nat):List Int:=List.replicate j 0++(jD l r rs j).1
noncomputable def sY (l:aW) (r:cx) (rs:List Int) (j:Nat) (x:Int):Int:=if 0≤x then min (jD l r rs j).2 (Lm l r x) else (jD l r rs j).2
theorem uy:jD l r rs rs.length=([],r.fK):=by unfold jD; rw [List.drop_length]; rfl
theorem G5:jE l r rs rs.length=List.replicate rs.length 0:=by unfold jE; rw [uy]; simp
theorem Dt:jE l r rs 0=jk l r rs:=by unfold jE jD jk; simp
theorem pk {j:Nat} {x:Int} (hj:0<j) (hx:rs[j-1]? =some x):jD l r rs (j-1)=(sY l r rs j x::(jD l r rs j).1,sY l r rs j x-dN l (j-1)):=by
 unfold jD sY
 have hb:=(List.getElem?_eq_some_iff.1 hx).1
 rw [List.drop_eq_getElem_cons hb,(List.getElem?_eq_some_iff.1 hx).2,show j-1+1=j by omega]
 simp only [gk]
 rw [show j-1+1=j by omega]
 rfl
theorem Gg {j:Nat} (h:j≤rs.length):(jE l r rs j).length=rs.length:=by unfold jE jD; rw [List.length_append,List.length_replicate,rr,List.length_drop]; omega
theorem yX {j:Nat} {x:Int} (hj:0<j) (hx:rs[j-1]? =some x):(jE l r rs j).set (j-1) (sY l r rs j x)=jE l r rs (j-1):=by
 unfold jE
 rw [pk hj hx]
 simp only
 obtain ⟨k,rfl⟩: ∃ k,j=k+1:=⟨j-1,I⟩
 rw [Nat.add_sub_cancel,List.replicate_succ',List.append_assoc,List.set_append_right _ _ sm,List.length_replicate,Nat.sub_self]
 rfl
theorem FJ (hr:0≤r.fK∧r.fK≤86400000) (hl: ∀ b,b<rs.length→0≤dN l b∧dN l b≤500000000) (hrs: ∀ x∈rs,0≤x→x<(r.ah.length:Int)): ∀ (d j:Nat),j+d=rs.length→(-1-500000000*(d:Int))≤(jD l r rs j).2∧(jD l r rs j).2≤86400000
 |0,j,h=>by
  obtain rfl:j=rs.length:=by omega
  rw [uy]; simp only; omega
 |d+1,j,h=>by
  have ih:=FJ hr hl hrs d (j+1) I
  have hx:rs[j+1-1]? =some (rs[j]'I):=by rw [Nat.add_sub_cancel]; exact ei _
  have e:=pk (l:=l) (r:=r) (j:=j+1) I hx
  rw [Nat.add_sub_cancel] at e
  rw [e]
  simp only
  have A:=hl j I
  unfold sY
  split
  ·rename_i q
   have B:=hrs _ (List.getElem_mem (by omega:j<rs.length)) q
   obtain ⟨s,hs⟩: ∃ s,r.ah[(rs[j]'I).toNat]? =some s:=⟨r.ah[(rs[j]'I).toNat]'I,ei _⟩
   rw [CS hs]
   have C:=xP l s
   omega
  ·omega
theorem Ka {t i:Int} (hi:i<0):(t≤r.fK→oI l r n t i=some t)∧(¬ t≤r.fK→oI l r n t i=none):=by
 unfold oI; rw [if_pos hi]; exact ⟨fun h=>if_pos h,fun h=>if_neg h⟩
theorem Kr {t i:Int} (hi: ¬ i<0) (hs:r.ah[i.toNat]? =some s) (hb:s.fM=(n:Int)) (hw:(cR l s).Lo≤(cR l s).Hi):(max t (cR l s).Lo≤min r.fK (cR l s).Hi→oI l r n t i=some (max t (cR l s).Lo))∧(¬ max t (cR l s).Lo≤min r.fK (cR l s).Hi→oI l r n t i=none):=by
 unfold oI; rw [if_neg hi,hs]
 exact ⟨fun h=>if_pos ⟨⟨hb,hw⟩,h⟩,fun h=>if_neg fun q=>h q.2⟩
theorem xy {t i:Int} (hi: ¬ i<0) (hs:r.ah[i.toNat]? =some s) (hb: ¬ (s.fM=(n:Int)∧(cR l s).Lo≤(cR l s).Hi)):oI l r n t i=none:=by
 unfold oI; rw [if_neg hi,hs]
 exact if_neg fun q=>hb q.1
theorem sM {x:Int} (hx:rs[i]? =some x):(cT (rs.take (i+1))).right=(cT (rs.take i)).right+(if 0≤x then 1 else 0):=by
 rw [lO hx,jT]
 unfold eQ
 simp only [dg]
 by_cases h:x<0
 ·rw [if_pos h,if_neg I]
 ·rw [if_neg h,if_pos I]
end
theorem wY {l:aW} {r:cx} {rs fs:List Int}:(gL l r rs fs).length≤1:=by unfold gL; split<;>simp
theorem wM {l:aW} {r:cx} (hr:r.ah.length≤10): ∀ (k:Nat) (rs fs:List Int),(g4 l r k rs fs).length≤12^(k+1)
 |0,rs,fs=>by
  unfold g4
  split
  ·simp
  ·have:=wY (l:=l) (r:=r) (rs:=rs) (fs:=fs); omega
 |k+1,rs,fs=>by
  unfold g4
  split
  ·simp
  ·rw [List.length_append]
   have B:=wY (l:=l) (r:=r) (rs:=rs) (fs:=fs)
   have A: ∀ j,(g9 l r k rs fs j).length≤j*12^(k+1):=by
    intro j
    induction j with
    |zero=>simp [g9]
    |succ j ih=>
     cases e:oI l r rs.length (fQ r.Start fs+dN l rs.length) ((j:Int)-1) with
     |none=>rw [qj e,Nat.succ_mul]; exact Nat.le_trans ih (Nat.le_add_right _ _)
     |some t=>rw [m0 e,List.length_append,Nat.succ_mul]; exact Nat.add_le_add ih (wM hr k (rs++[(j:Int)-1]) (fs++[t]))
   have C:=A (r.ah.length+1)
   have D:(r.ah.length+1)*12^(k+1)≤11*12^(k+1):=Nat.mul_le_mul_right _ I
   have E:0<12^(k+1):=Nat.pow_pos dc
   have F:12^(k+1+1)=12*12^(k+1):=by rw [Nat.pow_succ,Nat.mul_comm]
   show (gL l r rs fs).length+(g9 l r k rs fs (r.ah.length+1)).length≤_
   omega
theorem Ic {l:aW} {r:cx} (hr:r.ah.length≤10) {k j:Nat} {rs fs:List Int} (hk:k≤5) (hj:j≤11):(g9 l r k rs fs j).length≤40000000:=by
 have A: ∀ j,(g9 l r k rs fs j).length≤j*12^(k+1):=by
  intro j
  induction j with
  |zero=>simp [g9]
  |succ j ih=>
   cases e:oI l r rs.length (fQ r.Start fs+dN l rs.length) ((j:Int)-1) with
   |none=>rw [qj e,Nat.succ_mul]; exact Nat.le_trans ih (Nat.le_add_right _ _)
   |some t=>rw [m0 e,List.length_append,Nat.succ_mul]; exact Nat.add_le_add ih (wM hr k (rs++[(j:Int)-1]) (fs++[t]))
 have C:=A j
 have B:12^(k+1)≤12^6:=Nat.pow_le_pow_right dc I
 have D:j*12^(k+1)≤11*12^6:=Nat.mul_le_mul hj B
 omega
theorem um {l:aW} {r:cx} (hr:r.ah.length≤10) {k:Nat} {rs fs:List Int} (hk:k≤6):(g4 l r k rs fs).length≤40000000:=by
 have A:=wM hr k rs fs (l:=l)
 have B:12^(k+1)≤12^7:=Nat.pow_le_pow_right dc I
 omega
noncomputable def qb (l:aW) (r:cx):List cZ:=g4 l r l.ae.length [] []
section
variable {l:aW} {r:cx}
theorem lZ:(cw l r).n=l.ae.length:=dT
theorem N4 (hle:du l=0) (hr:eW l r):IG (cw l r) (Lm l r) (dN l) r.fK:=by
 obtain ⟨ht,B⟩:=gF hle
 refine ⟨fun b=>((o2 ht B hr).bR b).1,fun b hb=>(py (by rw [lZ] at hb; exact hb)).symm,U,fun b o hb ho A=>?_,fun b o hb ho A=>?_⟩
 ·rw [lZ] at hb
  rcases (qB hb).1 ho with rfl|⟨k,hk,s,hs,q,rfl⟩
  ·simp only at A; omega
  ·exact (CS (by simpa using hs)).symm
 ·rw [lZ] at hb
  rcases (qB hb).1 ho with rfl|⟨k,hk,s,hs,q,rfl⟩
  ·rfl
  ·simp only at A; omega
theorem pW (hle:du l=0) (hr:eW l r) {y:cZ}:y∈qb l r↔N7 (cw l r) (Lm l r) (dN l) r.fK y:=by
 obtain ⟨ht,D⟩:=gF hle
 have hl: ∀ n,n<l.ae.length→0≤dN l n:=fun n hn=>by have:=m6 ht D (i:=n) hn; omega
 unfold qb
 rw [Kw hl _ _ _ _ sm rfl (Int.le_refl _)]
 constructor
 ·rintro ⟨ss,gs,B,A,rfl,C⟩
  exact ⟨B,by rw [lZ]; exact A,U,C⟩
 ·rintro ⟨B,A,E,C⟩
  rw [lZ] at A
  exact ⟨y.f_,y.iq,B,A,by rw [List.nil_append,List.nil_append]; unfold jk; rw [← E],C⟩
theorem HZ (hle:du l=0) (hr:eW l r) {k:Nat} (hk:k≤l.ae.length):((qb l r).any fun y=>decide (y.f_.length=k))=jc (cw l r) (fwd (cw l r) k):=by
 rw [Bool.eq_iff_iff,Cw,List.any_eq_true]
 constructor
 ·rintro ⟨y,hy,e⟩
  have h:=(pW hle hr).1 hy
  exact ⟨y.f_,y.iq,of_decide_eq_true e,h.chain,h.may⟩
 ·rintro ⟨rs,fs,e,A,B⟩
  exact ⟨⟨rs,fs,(gk (Lm l r) (dN l) r.fK 0 rs).1⟩,(pW hle hr).2 ⟨A,by rw [lZ]; simp only; omega,U,B⟩,dh e⟩
theorem d_ (hle:du l=0) (hr:eW l r):qb l r=[]↔jW (cw l r)=[]:=by
 constructor
 ·intro h
  apply List.eq_nil_iff_forall_not_mem.2
  intro x hx
  obtain ⟨k,rfl,hk,hm⟩:=o3.1 hx
  rw [lZ] at hk
  rw [← HZ hle hr hk,h] at hm
  cases hm
 ·intro h
  apply List.eq_nil_iff_forall_not_mem.2
  intro y hy
  have hw:=(pW hle hr).1 hy
  have:(y.f_.length:Int)∈jW (cw l r):=o3.2 ⟨y.f_.length,rfl,hw.len,Cw.2 ⟨_,_,rfl,hw.chain,hw.may⟩⟩
  rw [h] at this; cases this
/-- the times at a beam, by all ways -/
def iz (b:Nat) (ws:List cZ):List (Int×ab):=ws.filterMap fun y=>match y.f_[b]?,y.iq[b]?,y.lz[b]? with
 |some s,some f,some e=>some (s,⟨f,e⟩)
 |_,_,_=>none
theorem nE {b:Nat} {ws:List cZ} {q:Int×ab}:q∈iz b ws↔ ∃ y∈ws,y.f_[b]? =some q.1∧y.iq[b]? =some q.2.Lo∧y.lz[b]? =some q.2.Hi:=by
 unfold iz
 rw [List.mem_filterMap]
 constructor
 ·rintro ⟨y,hy,h⟩
  cases e1:y.f_[b]? with
  |none=>rw [e1] at h; cases h
  |some s=>
   cases e2:y.iq[b]? with
   |none=>rw [e1,e2] at h; cases h
   |some f=>
    cases e3:y.lz[b]? with
    |none=>rw [e1,e2,e3] at h; cases h
    |some e=>
     rw [e1,e2,e3] at h; cases h
     exact ⟨y,hy,e1,e2,e3⟩
 ·rintro ⟨y,hy,A,B,C⟩
  exact ⟨y,hy,by rw [A,B,C]⟩
theorem w6 {b:Nat} {ws:List cZ} {y:cZ} (h:y.f_.length≤b):iz b (ws++[y])=iz b ws:=by
 unfold iz; rw [List.filterMap_append]; simp [List.getElem?_eq_none h]
theorem p_ {b:Nat} {ws:List cZ} {y:cZ} {s f e:Int} (h1:y.f_[b]? =some s) (h2:y.iq[b]? =some f) (h3:y.lz[b]? =some e):iz b (ws++[y])=iz b ws++[(s,⟨f,e⟩)]:=by
 unfold iz; rw [List.filterMap_append]; simp [h1,h2,h3]
theorem Ii (hle:du l=0) (hr:eW l r) {y:cZ} (hy:y∈qb l r):y.iq.length=y.f_.length∧y.lz.length=y.f_.length∧y.f_.length≤l.ae.length:=by
 have h:=(pW hle hr).1 hy
 exact ⟨j6 _ _ _ _ h.chain,by rw [h.last,rr],by have:=h.len; rwa [lZ] at this⟩
theorem tH (hle:du l=0) (hr:eW l r) {b:Nat} (hb:b<l.ae.length) {s t:Int}:(∃ q∈mD (cw l r) b,q.1=s∧q.2.Lo≤t∧t≤q.2.Hi)↔ ∃ q∈iz b (qb l r),q.1=s∧q.2.Lo≤t∧t≤q.2.Hi:=by
 have hh:=N4 hle hr
 rw [zT hh.low (by rw [lZ]; exact hb),Jv hh hr.time.2.1 (by rw [lZ]; exact hb)]
 constructor
 ·rintro ⟨y,hy,f,e,A,B,C,D,E⟩
  exact ⟨(s,⟨f,e⟩),nE.2 ⟨y,(pW hle hr).2 hy,A,B,C⟩,U,D,E⟩
 ·rintro ⟨q,hq,rfl,D,E⟩
  obtain ⟨y,hy,A,B,C⟩:=nE.1 hq
  exact ⟨y,(pW hle hr).1 hy,_,_,A,B,C,D,E⟩
/-- a way's span is none that is empty -/
theorem wN (hle:du l=0) (hr:eW l r) {b:Nat} {q:Int×ab} (hq:q∈iz b (qb l r)):q.2.Lo≤q.2.Hi:=by
 have hh:=N4 hle hr
 obtain ⟨y,hy,C,D,H⟩:=nE.1 hq
 obtain ⟨hc,hn,B,hm⟩:=(pW hle hr).1 hy
 obtain ⟨R,F,La⟩:=y
 simp only at C D H hc hn B
 have G:=(List.getElem?_eq_some_iff.1 C).1
 have E:=(List.getElem?_eq_some_iff.1 D).1
 have L:=j6 _ _ _ _ hc
 have eR:R=R.take b++q.1::R.drop (b+1):=by rw [← (List.getElem?_eq_some_iff.1 C).2]; exact (List.take_append_drop b R).symm.trans (by rw [List.drop_eq_getElem_cons G])
 have eF:F=F.take b++q.2.Lo::F.drop (b+1):=by rw [← (List.getElem?_eq_some_iff.1 D).2]; exact (List.take_append_drop b F).symm.trans (by rw [List.drop_eq_getElem_cons E])
 rw [eR,eF,rn _ _ _ _ _ _ (by simp only [List.length_take]; omega)] at hc
 have AA:(R.take b).length=b:=by rw [List.length_take]; omega
 rw [AA,Nat.zero_add] at hc
 obtain ⟨M,⟨o,ho,K,N,O⟩,J⟩:=hc
 have A:=tJ (hi:=Lm l r) (least:=dN l) (now:=r.fK) 0 (R.take b) q.1 (R.drop (b+1))
 rw [← eR,AA,Nat.zero_add,← B,H] at A
 have A:=Option.some.inj A
 have he:=qS hh (b+1) q.2.Lo (R.drop (b+1)) (F.drop (b+1)) (by rw [List.length_drop]; omega) I J
 rw [← K] at A
 split at A
 ·rename_i z
  have:=hh.hi b o I ho z
  omega
 ·omega
theorem Az {a b:List (Int×ab)} {h k:ab} (ha:kb a h) (hb:kb b k) (hab: ∀ x∈b,(∃ y∈a,y.2.Lo≤x.2.Lo)∧ ∃ y∈a,x.2.Hi≤y.2.Hi) (hba: ∀ x∈a,(∃ y∈b,y.2.Lo≤x.2.Lo)∧ ∃ y∈b,x.2.Hi≤y.2.Hi):h=k:=by
 rcases ha with ⟨rfl,rfl⟩|ha
 ·rcases hb with ⟨rfl,rfl⟩|hb
  ·rfl
  ·obtain ⟨x,hx,_⟩:=hb.lo
   obtain ⟨⟨y,hy,_⟩,_⟩:=hab x hx
   cases hy
 ·rcases hb with ⟨rfl,rfl⟩|hb
  ·obtain ⟨x,hx,_⟩:=ha.lo
   obtain ⟨⟨y,hy,_⟩,_⟩:=hba x hx
   cases hy
  ·obtain ⟨M,E,AA⟩:=ha.lo
   obtain ⟨N,F,V⟩:=ha.hi
   obtain ⟨O,G,W⟩:=hb.lo
   obtain ⟨P,H,X⟩:=hb.hi
   obtain ⟨⟨AB,A,Y⟩,_⟩:=hba M E
   obtain ⟨_,J,B,Z⟩:=hba N F
   obtain ⟨⟨K,C,c⟩,_⟩:=hab O G
   obtain ⟨_,L,D,d⟩:=hab P H
   have Q:=hb.all AB A
   have R:=hb.all J B
   have S:=ha.all K C
   have T:=ha.all L D
   apply ab.ext
   ·omega
   ·omega
theorem IT (hle:du l=0) (hr:eW l r) {b:Nat} (hb:b<l.ae.length) {h:ab} (hh:kb (iz b (qb l r)) h):h=ni l r b:=by
 have hk:=t_ (l:=mD (cw l r) b) (fun q hq=>mI hq)
 refine Az hh hk (fun x hx=>?_) (fun x hx=>?_)
 ·have hle':=mI hx
  obtain ⟨y,hy,_,A,C⟩:=(tH hle hr hb (s:=x.1) (t:=x.2.Lo)).1 ⟨x,hx,rfl,Int.le_refl _,hle'⟩
  obtain ⟨z,hz,_,D,B⟩:=(tH hle hr hb (s:=x.1) (t:=x.2.Hi)).1 ⟨x,hx,rfl,hle',Int.le_refl _⟩
  exact ⟨⟨y,hy,A⟩,z,hz,B⟩
 ·have hle':=wN hle hr hx
  obtain ⟨y,hy,_,A,C⟩:=(tH hle hr hb (s:=x.1) (t:=x.2.Lo)).2 ⟨x,hx,rfl,Int.le_refl _,hle'⟩
  obtain ⟨z,hz,_,D,B⟩:=(tH hle hr hb (s:=x.1) (t:=x.2.Hi)).2 ⟨x,hx,rfl,hle',Int.le_refl _⟩
  exact ⟨⟨y,hy,A⟩,z,hz,B⟩
end
def pA (ws:List cZ) (b:Nat):Int:=if wy (iz b ws)=mA then 6 else 0
def pK (ws:List cZ) (b:Nat):ab:=if wy (iz b ws)=mA then ⟨0,0⟩ else wy (iz b ws)
theorem LH {l:List (Int×ab)} {h:ab} (hh:kb l h) (hl: ∀ q∈l,q.2.Lo≤q.2.Hi):wy l=h:=
 Az (t_ hl) hh (fun x hx=>⟨⟨x,hx,Int.le_refl _⟩,x,hx,Int.le_refl _⟩) (fun x hx=>⟨⟨x,hx,Int.le_refl _⟩,x,hx,Int.le_refl _⟩)
theorem D3 {ws:List cZ} {b:Nat} (h:iz b ws=[]):pA ws b=6∧pK ws b=⟨0,0⟩:=by
 unfold pA pK; rw [h]; exact ⟨if_pos rfl,if_pos rfl⟩
theorem CO {ws:List cZ} {b:Nat} {o:ab} (hl: ∀ q∈iz b ws,q.2.Lo≤q.2.Hi) (h:ot (iz b ws) o):pA ws b=0∧pK ws b=o:=by
 have e:=LH (.inr h) hl
 unfold pA pK; rw [e]; exact ⟨if_neg h.ne,if_neg h.ne⟩
/-- what was found until now -/
def nc (b:Nat) (ws:List cZ) (fd:Bool) (o:ab):Prop:=(fd=false∧iz b ws=[])∨(fd=true∧ot (iz b ws) o)
theorem Hd {b:Nat} {o:ab}:nc b [] false o:= .inl ⟨rfl,rfl⟩
theorem Cq {q:Int×ab} (hq:q.2.Lo≤q.2.Hi):ot [q] q.2:=⟨hq,⟨q,sm,rfl⟩,⟨q,sm,rfl⟩,fun x hx=>by simp at hx; subst hx; exact ⟨Int.le_refl _,Int.le_refl _⟩⟩
theorem zz {l:List (Int×ab)} {h:ab} {q:Int×ab} (hh:ot l h) (hq:q.2.Lo≤q.2.Hi):ot (l++[q]) ⟨min q.2.Lo h.Lo,max q.2.Hi h.Hi⟩:=by
 have:=tT (.inr hh) hq
 unfold ml at this
 rw [if_neg hh.ne] at this
 rcases this with ⟨e,_⟩|this
 ·simp at e
 ·exact this
theorem D7 {b:Nat} {ws:List cZ} {fd:Bool} {o:ab} {y:cZ} (h:nc b ws fd o) (hy:y.f_.length≤b):nc b (ws++[y]) fd o:=by
 unfold nc; rw [w6 hy]; exact h
theorem Aw {b:Nat} {ws:List cZ} {fd:Bool} {o:ab} {y:cZ} {s f e:Int} (h:nc b ws fd o) (hf:fd=false) (h1:y.f_[b]? =some s) (h2:y.iq[b]? =some f) (h3:y.lz[b]? =some e) (hle:f≤e):nc b (ws++[y]) true ⟨f,e⟩:=by
 rcases h with ⟨_,q⟩|⟨q,_⟩
 ·right
  rw [p_ h1 h2 h3,q]
  exact ⟨U,Cq hle⟩
 ·rw [q] at hf; cases hf
theorem D5 {b:Nat} {ws:List cZ} {fd:Bool} {o:ab} {y:cZ} {s f e:Int} (h:nc b ws fd o) (hf:fd=true) (h1:y.f_[b]? =some s) (h2:y.iq[b]? =some f) (h3:y.lz[b]? =some e) (hle:f≤e):nc b (ws++[y]) true ⟨min f o.Lo,max e o.Hi⟩:=by
 rcases h with ⟨q,_⟩|⟨_,q⟩
 ·rw [q] at hf; cases hf
 ·right
  rw [p_ h1 h2 h3]
  exact ⟨U,zz q hle⟩
theorem yB {b:Nat} {ws:List cZ} {fd:Bool} {o:ab} (h:nc b ws fd o) (hl: ∀ q∈iz b ws,q.2.Lo≤q.2.Hi):(fd=false→pA ws b=6∧pK ws b=⟨0,0⟩)∧(fd=true→pA ws b=0∧pK ws b=o):=by
 rcases h with ⟨q,h⟩|⟨q,h⟩
 ·exact ⟨fun _=>D3 h,fun e=>(by rw [q] at e; cases e)⟩
 ·exact ⟨fun e=>(by rw [q] at e; cases e),fun _=>CO hl h⟩
section
variable {l:aW} {r:cx}
theorem IY (he:eB l r 0=0) {b:Nat} (hb:b<l.ae.length):pA (qb l r) b=eT l r b∧pK (qb l r) b=ff l r b:=by
 obtain ⟨A,hr,_,_⟩:=jR he
 have h:=IT A hr hb (t_ fun q hq=>wN A hr hq)
 have ho:eB l r (jJ l b)=0:=by rw [Gh hb]; exact he
 unfold pA pK
 rw [h]
 by_cases e:ni l r b=mA
 ·rw [if_pos e,if_pos e,(qL ho e).1,(qL ho e).2]; exact ⟨rfl,rfl⟩
 ·rw [if_neg e,if_neg e,(qs ho e).1,(qs ho e).2]; exact ⟨rfl,rfl⟩
theorem OS (hle:du l=0) (hr:eW l r) {y:cZ} (hy:y∈qb l r) {b:Nat} {f e:Int} (hb:b<y.f_.length) (h2:y.iq[b]? =some f) (h3:y.lz[b]? =some e):f≤e:=
 wN hle hr (q:=(y.f_[b],⟨f,e⟩)) (nE.2 ⟨y,hy,ei _,h2,h3⟩)
theorem Br:eB l r (jJ l l.cG)=eB l r 0:=by
 by_cases h:du l=0
 ·obtain ⟨_,A⟩:=gF h
  have hh:=A.head
  unfold gi at hh
  rw [Bx I]
 ·rw [nS h,nS h]
theorem ve (h: ¬ eB l r 0=0):eT l r l.cG=eB l r 0:=by
 have:=(m7 (b:=l.cG) (by rw [Br]; exact h)).1
 rw [this,Br]
/-- rows of times that are those of ways -/
structure Ml (ws:List cZ):Prop where
 lens: ∀ y∈ws,y.iq.length=y.f_.length∧y.lz.length=y.f_.length∧y.f_.length≤6
 le: ∀ y∈ws,∀ (b:Nat) f e,b<y.f_.length→y.iq[b]? =some f→y.lz[b]? =some e→f≤e
 num:ws.length≤40000000
theorem Ml.E5 {ws:List cZ} (h:Ml ws) {b:Nat}: ∀ q∈iz b ws,q.2.Lo≤q.2.Hi:=fun q hq=>by
 obtain ⟨y,hy,A,B,C⟩:=nE.1 hq
 exact h.le y hy b _ _ (List.getElem?_eq_some_iff.1 A).1 B C
theorem PF (hle:du l=0) (hr:eW l r):Ml (qb l r):=by
 obtain ⟨ht,B⟩:=gF hle
 have hh:=B.head
 unfold gi at hh
 refine ⟨fun y hy=>?_,fun y hy b f e hb A C=>OS hle hr hy hb A C,um hr.len I⟩
 obtain ⟨D,A,C⟩:=Ii hle hr hy
 exact ⟨D,A,I⟩
end
end
section
open Go.RowKit
/-- a row is taken that was made before; an operation -/
inductive fx where
 |take (i:Nat)
 |op (j:Nat)
def fx.ix:fx→Nat
 | .take i=>i
 | .op j=>j
def Bz (dO:Nat→Nat):List fx→List Nat
 |[]=>[]
 | .take i::s=>dO i::Bz dO s
 | .op _::s=>Bz dO s
theorem tg {dO:Nat→Nat} {i:Nat}: ∀ {s:List fx},fx.take i∈s→dO i∈Bz dO s
 | .take k::s,h=>by
  rcases List.mem_cons.1 h with e|h
  ·cases e; exact bZ ..
  ·exact cW _ (tg h)
 | .op k::s,h=>by
  rcases List.mem_cons.1 h with e|h
  ·cases e
  ·exact tg (s:=s) h
def rB (m:Array Nat) (dO:Nat→Nat) (x y:fx):Bool:=x.ix != y.ix&&(match y with | .op j=>ib m x.ix j| .take i=>match x with | .take k=>dO k != dO i| .op _=>true)
def SK (m:Array Nat) (dO:Nat→Nat):List fx→Bool
 |[]=>true
 |x::s=>s.all (rB m dO x)&&SK m dO s
theorem ET {m:Array Nat} {dO:Nat→Nat}: ∀ {s:List fx},SK m dO s=true→s.Pairwise fun x y=>rB m dO x y=true
 |[],_=>List.Pairwise.nil
 |x::s,h=>by
  simp only [SK,cQ] at h
  exact List.Pairwise.cons (fun y hy=>List.all_eq_true.1 h.1 y hy) (ET h.2)
/-- what is known of the slots B is known in L -/
def BH (B L:List (Nat×Value)):Prop:= ∀ t v,B.lookup t=some v→L.lookup t=some v
theorem Ab {B L:List (Nat×Value)} (h:B.map (fun p=>L.lookup p.1)=B.map (fun p=>some p.2)):BH B L:=by
 induction B with
 |nil=>intro t v h; simp at h
 |cons p B ih=>
  obtain ⟨k,u⟩:=p
  simp only [List.map_cons,List.cons.injEq] at h
  intro t v hl
  by_cases e:t=k
  ·subst e
   simp only [List.lookup,beq_self_eq_true,Option.some.injEq] at hl
   rw [h.1,hl]
  ·have:(t==k)=false:=by simpa using e
   simp only [List.lookup,this] at hl
   exact ih h.2 t v hl
theorem nN {L Y:List (Nat×Value)} {t:Nat}:(L++Y).lookup t=match L.lookup t with |some v=>some v|none=>Y.lookup t:=by
 induction L with
 |nil=>rfl
 |cons p L ih=>
  obtain ⟨k,u⟩:=p
  by_cases e:t==k
  ·simp [List.lookup,e]
  ·have:(t==k)=false:=by simpa using e
   simp only [List.cons_append,List.lookup,this,ih]
theorem BH.app {B L Y:List (Nat×Value)} (h:BH B L):BH B (L++Y):=fun t v ht=>by rw [nN,h t v ht]
theorem Pd {B L:List (Nat×Value)} (h:BH B L) {x:Operand} {v:Value} (hv:ev B x=some v):ev L x=some v:=by
 cases x<;>simp only [ev] at hv ⊢ <;>first|exact h _ _ hv|exact hv
theorem Fq {B L:List (Nat×Value)} (h:BH B L): ∀ {xs:List Operand} {vs:List Value},evs B xs=some vs→evs L xs=some vs
 |[],vs,hv=>hv
 |x::xs,vs,hv=>by
  simp only [evs] at hv ⊢
  cases e1:ev B x with
  |none=>rw [e1] at hv; simp at hv
  |some v=>
   cases e2:evs B xs with
   |none=>rw [e1,e2] at hv; simp at hv
   |some us=>
    rw [e1,e2] at hv
    rw [Pd h e1,Fq h e2]; exact hv
section
variable (E:eU) (ops:Array Oper) (D:List Deferred) (C':List aw) (K0:Act→World→Prop) (B:List (Nat×Value)) (dO:Nat→Nat) (VO:Nat→Nat→Value) (AO:Nat→Nat→aw)
def CH:List fx→List (Nat×Value)→List aw→Prop
 |[],L,C=>KJ E K0 D L C
 | .take i::s,L,C=> ∀ b,CH s ((dO i,VO i b)::L) (AO i b::C)
 | .op j::s,L,C=> ∀ o,ops[j]? =some o→ ∀ (Y:List (Nat×Value)) (X:List aw) (K:Act→World→Prop),(∀ L' C'',(∀ w,St E.S E.w0 C'' w→St E.S E.w0 C' w)→((Bz dO s).all fun d=>(L'.lookup d).isNone)=true→B.map (fun p=>L'.lookup p.1)=B.map (fun p=>some p.2)→CH s L' C''→KJ E K D (L'++Y) (C''++X))→RJ E ops (NQ K) [o] D (L++Y) (C++X)
/-- a row that is made at any time -/
def Qt (i:Nat):Prop:= ∀ o,ops[i]? =some o→ ∀ (L:List (Nat×Value)) (C:List aw) (K:Act→World→Prop),BH B L→(∀ b,KJ E K D ((dO i,VO i b)::L) (AO i b::C))→RJ E ops (NQ K) [o] D L C
end
section
variable {E:eU} {ops:Array Oper} {D:List Deferred} {C' C1:List aw} {K0:Act→World→Prop} {B:List (Nat×Value)} {dO:Nat→Nat} {VO:Nat→Nat→Value} {AO:Nat→Nat→aw}
theorem MZ {Q:cY} {rest:List Oper} {L L2:List (Nat×Value)} {C C2:List aw} (hL: ∀ a,Fr E.n D L a→Fr E.n D L2 a) (hC: ∀ w,St E.S E.w0 C w→St E.S E.w0 C2 w) (h:RJ E ops Q rest D L2 C2):RJ E ops Q rest D L C:=fun a w hf hs=>h a w (hL a hf) (hC w hs)
theorem Et {K:Act→World→Prop} {L L2:List (Nat×Value)} {C C2:List aw} (hL: ∀ a,Fr E.n D L a→Fr E.n D L2 a) (hC: ∀ w,St E.S E.w0 C w→St E.S E.w0 C2 w) (h:KJ E K D L2 C2):KJ E K D L C:=fun a w hf hs=>h a w (hL a hf) (hC w hs)
theorem Ex {n:Nat} {L L2:List (Nat×Value)} (h: ∀ t v,L2.lookup t=some v→L.lookup t=some v) (a:Act) (hf:Fr n D L a):Fr n D L2 a:=⟨hf.defers,hf.size,fun t v ht=>hf.at_ t v (h t v ht)⟩
theorem CZ: ∀ (T0 s':List fx) (dn:List (Nat×Nat)) (L Y:List (Nat×Value)) (C:List aw),(∀ x∈T0,∃ i b,x= .take i∧(i,b)∈dn)→(T0++s').Pairwise (fun x y=>rB (qc ops) dO x y=true)→(dn.map (·.1)).Nodup→(∀ p∈dn,fx.take p.1∈T0++s')→(∀ p∈dn,Y.lookup (dO p.1)=some (VO p.1 p.2))→(∀ i,fx.take i∈T0++s'→L.lookup (dO i)=none)→
 CH E ops D C' K0 B dO VO AO (T0++s') L C→ ∃ (dn':List (Nat×Nat)) (L':List (Nat×Value)) (C2:List aw),CH E ops D C' K0 B dO VO AO s' L' C2∧(dn'.map (·.1)).Nodup∧(∀ p,p∈dn'↔p∈dn∧fx.take p.1∈s')∧(∀ t v,(L'++Y).lookup t=some v→(L++Y).lookup t=some v)∧(∀ i,fx.take i∈s'→L'.lookup (dO i)=none)∧(∀ w,St E.S E.w0 (C++dn.map fun p=>AO p.1 p.2) w→St E.S E.w0 (C2++dn'.map fun p=>AO p.1 p.2) w)
 |[],s',dn,L,Y,C,_,_,hn,hm,_,hl,h=>⟨dn,L,C,h,hn,fun p=>⟨fun q=>⟨q,hm p q⟩,fun q=>q.1⟩,fun t v q=>q,hl,fun w q=>q⟩
 |x::T0,s',dn,L,Y,C,ht,hp,hn,hm,hy,hl,h=>by
  obtain ⟨i,b,rfl,hb⟩:=ht x (bZ ..)
  obtain ⟨J,P⟩:=List.pairwise_cons.1 hp
  have AB: ∀ y∈T0++s',i≠y.ix:=fun y hy e=>by
   have:=J y hy
   simp only [rB,cQ,bne_iff_ne,fx.ix] at this
   exact this.1 e
  have N: ∀ k,fx.take k∈T0++s'→dO k≠dO i:=fun k hk e=>by
   have:=J _ hk
   simp only [rB,cQ,bne_iff_ne] at this
   exact this.2 e.symm
  have K:dn.Perm ((i,b)::dn.erase (i,b)):=List.perm_cons_erase hb
  have H:((dn.erase (i,b)).map (·.1)).Nodup∧i ∉ (dn.erase (i,b)).map (·.1):=by
   have:=(K.map (·.1)).nodup_iff.1 hn
   exact ⟨(List.nodup_cons.1 this).2,(List.nodup_cons.1 this).1⟩
  have A: ∀ p∈dn.erase (i,b),p∈dn∧p.1≠i:=fun p hp=>⟨List.mem_of_mem_erase hp,fun e=>by have q:=List.mem_map_of_mem (f:=fun p:Nat×Nat=>p.1) hp; simp only [e] at q; exact H.2 q⟩
  have O:L.lookup (dO i)=none:=hl i (bZ ..)
  obtain ⟨dn',L',C2,R,T,AA,V,W,X⟩:=CZ T0 s' (dn.erase (i,b)) ((dO i,VO i b)::L) Y (AO i b::C) (fun x hx=>by
   obtain ⟨k,c,rfl,hk⟩:=ht x (cW _ hx)
   refine ⟨k,c,U,?_⟩
   have F:k≠i:=fun e=>AB _ (List.mem_append_left _ hx) e.symm
   exact (List.mem_erase_of_ne (fun e=>F (congrArg Prod.fst e))).2 hk) P H.1 (fun p hp=>by
   obtain ⟨M,G⟩:=A p hp
   rcases List.mem_cons.1 (hm p M) with e|e
   ·injection e with e; exact absurd e G
   ·exact e) (fun p hp=>hy p (A p hp).1) (fun k hk=>by
   have:(dO k==dO i)=false:=by simpa using N k hk
   simp only [List.lookup,this]
   exact hl k (cW _ hk)) (h b)
  refine ⟨dn',L',C2,R,T,fun p=>?_,fun t v hv=>?_,W,fun w hw=>X w ?_⟩
  ·rw [AA]
   constructor
   ·rintro ⟨M,G⟩; exact ⟨(A p M).1,G⟩
   ·rintro ⟨M,G⟩
    have F:p.1≠i:=fun e=>AB _ (List.mem_append_right _ G) e.symm
    exact ⟨(List.mem_erase_of_ne (fun e=>F (congrArg Prod.fst e))).2 M,G⟩
  ·have:=V t v hv
   rw [nN] at this ⊢
   by_cases e:t=dO i
   ·subst e
    simp only [List.lookup,beq_self_eq_true] at this
    rw [O]; simp only
    rw [hy _ hb]; exact this
   ·have Q:(t==dO i)=false:=by simpa using e
    simp only [List.lookup,Q] at this
    exact this
  ·refine hw.perm ?_
   show (C++dn.map fun p=>AO p.1 p.2).Perm (AO i b::(C++(dn.erase (i,b)).map fun p=>AO p.1 p.2))
   refine ((K.map fun p:Nat×Nat=>AO p.1 p.2).append_left C).trans ?_
   exact List.perm_middle
theorem AZ: ∀ (s:List fx) (j:Nat),fx.op j∈s→ ∃ T0 k s',s=T0++fx.op k::s'∧ ∀ x∈T0,∃ i,x=fx.take i
 | .take i::s,j,h=>by
  rcases List.mem_cons.1 h with e|h
  ·cases e
  ·obtain ⟨T0,k,s',rfl,A⟩:=AZ s j h
   exact ⟨.take i::T0,k,s',U,fun x hx=>by
    rcases List.mem_cons.1 hx with rfl|hx
    ·exact ⟨i,U⟩
    ·exact A x hx⟩
 | .op k::s,j,_=>⟨[],k,s,rfl,fun x hx=>by cases hx⟩
def kf (s:List fx) (dn:List (Nat×Nat)):List Nat:=(s.map fx.ix).filter fun i=> !(dn.map (·.1)).contains i
theorem rm {s:List fx} {dn:List (Nat×Nat)} {i:Nat}:i∈kf s dn↔(∃ x∈s,x.ix=i)∧ ∀ p∈dn,p.1≠i:=by
 unfold kf
 rw [List.mem_filter,q_]
 refine and_congr Iff.rfl ?_
 rw [Bool.not_eq_true',← Bool.not_eq_true,List.contains_iff_mem,q_]
 constructor
 ·intro h p hp e; exact h ⟨p,hp,e⟩
 ·rintro h ⟨p,hp,e⟩; exact h p hp e
theorem qu (hal: ∀ i,Qt E ops D B dO VO AO i∨True): ∀ (n:Nat) (s:List fx) (dn:List (Nat×Nat)) (L Y:List (Nat×Value)) (C:List aw),(∀ i,fx.take i∈s→Qt E ops D B dO VO AO i)→s.Pairwise (fun x y=>rB (qc ops) dO x y=true)→(kf s dn).length=n→(dn.map (·.1)).Nodup→(∀ p∈dn,fx.take p.1∈s)→(∀ p∈dn,Y.lookup (dO p.1)=some (VO p.1 p.2))→(∀ i,fx.take i∈s→L.lookup (dO i)=none)→BH B L→
 (∀ w,St E.S E.w0 C w→St E.S E.w0 C' w)→CH E ops D C' K0 B dO VO AO s L C→TN E ops D C' C1 (fun L C=>KJ E K0 D L C) [] n (kf s dn) (L++Y) (C++dn.map fun p=>AO p.1 p.2)
 |0,s,dn,L,Y,C,_,hp,hlen,hn,hm,hy,hl,hB,hC,h=>by
  have hr:kf s dn=[]:=jH hlen
  have Q: ∀ x∈s,∃ i b,x=fx.take i∧(i,b)∈dn:=fun x hx=>by
   have hx':x.ix ∉ kf s dn:=by rw [hr]; exact List.not_mem_nil
   rw [rm] at hx'
   have: ∃ p∈dn,p.1=x.ix:=by
    apply Classical.byContradiction
    intro q
    exact hx' ⟨⟨x,hx,U⟩,fun p hp e=>q ⟨p,hp,e⟩⟩
   obtain ⟨p,T,AF⟩:=this
   have ht:=hm p T
   rcases List.mem_iff_getElem.1 hx with ⟨a,ha,ea⟩
   rcases List.mem_iff_getElem.1 ht with ⟨c,hc,ec⟩
   have d:a=c:=by
    rcases Nat.lt_trichotomy a c with q|q|q
    ·have:=List.pairwise_iff_getElem.1 hp a c ha hc q
     simp only [rB,cQ,bne_iff_ne,ea,ec] at this
     exact absurd AF.symm this.1
    ·exact q
    ·have:=List.pairwise_iff_getElem.1 hp c a hc ha q
     simp only [rB,cQ,bne_iff_ne,ea,ec] at this
     exact absurd AF this.1
   subst d
   exact ⟨p.1,p.2,by rw [← ea,ec],T⟩
  obtain ⟨dn',L',C2,V,J,O,W,h5,X⟩:=CZ s [] dn L Y C Q (by simpa using hp) hn (by simpa using hm) hy (by simpa using hl) (by simpa using h)
  show KJ E K0 D _ _
  have hd:dn'=[]:=List.eq_nil_iff_forall_not_mem.2 fun p hp=>by have:=((O p).1 hp).2; cases this
  subst hd
  refine Et (L2:=L') (C2:=C2) (fun a hf=>Ex (fun t v ht=>W t v (by rw [nN,ht])) a hf) (fun w hw=>by have:=X w hw; simpa using this) V
 |n+1,s,dn,L,Y,C,hal',hp,hlen,hn,hm,hy,hl,hB,hC,h=>by
  intro i hi o ho K hK
  obtain ⟨G,m⟩:=List.mem_filter.1 hi
  obtain ⟨⟨x,hx,rfl⟩,H⟩:=rm.1 G
  have A: ∀ k∈kf s dn,ib (qc ops) k x.ix=false:=fun k hk=>by
   have:=List.all_eq_true.1 m k hk
   simpa using this
  cases x with
  |take i=>
   simp only [fx.ix] at H A ho hK G ⊢
   refine hal' i hx o ho _ _ K hB.app fun b=>?_
   have l:=hl i hx
   have AG:(kf s dn).filter (· != i)=kf s ((i,b)::dn):=by
    unfold kf
    rw [List.filter_filter]
    apply List.filter_congr
    intro k _
    simp only [List.map_cons,List.contains_cons,Bool.not_or]
    rfl
   have N:(kf s dn).Nodup:=by
    unfold kf
    refine List.Nodup.sublist List.filter_sublist<|List.pairwise_map.2 (hp.imp fun {a c} q=>?_)
    simp only [rB,cQ,bne_iff_ne] at q
    exact q.1
   have M: ∀ k,fx.take k∈s→k≠i→dO k≠dO i:=fun k hk AA e=>by
    rcases List.mem_iff_getElem.1 hx with ⟨a,ha,ea⟩
    rcases List.mem_iff_getElem.1 hk with ⟨c,hc,ec⟩
    rcases Nat.lt_trichotomy a c with q|q|q
    ·have:=List.pairwise_iff_getElem.1 hp a c ha hc q
     simp only [rB,cQ,bne_iff_ne,ea,ec] at this
     exact this.2 e.symm
    ·subst q; rw [ea] at ec; cases ec; exact AA rfl
    ·have:=List.pairwise_iff_getElem.1 hp c a hc ha q
     simp only [rB,cQ,bne_iff_ne,ea,ec] at this
     exact this.2 e
   refine Et (L2:=L++((dO i,VO i b)::Y)) (C2:=C++((i,b)::dn).map fun p=>AO p.1 p.2) (fun a hf=>Ex (fun t v ht=>?_) a hf) (fun w hw=>hw.perm (List.perm_middle).symm) (hK _ _ (fun w hw=>hC w (hw.take (List.sublist_append_left _ _))) (fun q=>by cases q) ?_)
   ·rw [nN] at ht
    by_cases e:t=dO i
    ·subst e
     rw [l] at ht
     simp only [List.lookup,beq_self_eq_true] at ht ⊢
     exact ht
    ·have e2:(t==dO i)=false:=by simpa using e
     simp only [List.lookup,e2] at ht ⊢
     rw [nN]; exact ht
   ·rw [AG]
    refine qu hal n s ((i,b)::dn) L ((dO i,VO i b)::Y) C hal' hp ?_ (List.nodup_cons.2 ⟨fun q=>?_,hn⟩) (fun p hp'=>?_) (fun p hp'=>?_) hl hB hC h
    ·rw [← AG,← List.Nodup.erase_eq_filter N,List.length_erase_of_mem G,hlen]; rfl
    ·obtain ⟨p,hp',e⟩:=List.mem_map.1 q
     exact H p hp' e
    ·rcases List.mem_cons.1 hp' with rfl|hp'
     ·exact hx
     ·exact hm p hp'
    ·rcases List.mem_cons.1 hp' with rfl|hp'
     ·simp [List.lookup]
     ·have:(dO p.1==dO i)=false:=by simpa using M p.1 (hm p hp') (H p hp')
      simp only [List.lookup,this]
      exact hy p hp'
  |op j=>
   simp only [fx.ix] at H A ho hK G ⊢
   obtain ⟨T0,k,s',rfl,hT⟩:=AZ s j hx
   obtain ⟨q1,q2,q3⟩:=List.pairwise_append.1 hp
   obtain ⟨q4,q5⟩:=List.pairwise_cons.1 q2
   have R: ∀ k',fx.op k'∈T0++fx.op k::s'→k'∈kf (T0++fx.op k::s') dn:=fun k' hk'=>by
    refine rm.2 ⟨⟨_,hk',U⟩,fun p hp' e=>?_⟩
    have ht:=hm p hp'
    rcases List.mem_iff_getElem.1 hk' with ⟨a,ha,ea⟩
    rcases List.mem_iff_getElem.1 ht with ⟨c,hc,ec⟩
    rcases Nat.lt_trichotomy a c with q|q|q
    ·have:=List.pairwise_iff_getElem.1 hp a c ha hc q
     simp only [rB,cQ,bne_iff_ne,ea,ec,fx.ix] at this
     exact this.1 e.symm
    ·subst q; rw [ea] at ec; cases ec
    ·have:=List.pairwise_iff_getElem.1 hp c a hc ha q
     simp only [rB,cQ,bne_iff_ne,ea,ec,fx.ix] at this
     exact this.1 e
   have AB:k=j:=by
    apply Classical.byContradiction
    intro AC
    have hj':fx.op j∈s':=by
     rcases List.mem_append.1 hx with q|q
     ·obtain ⟨i,e⟩:=hT _ q; cases e
     ·rcases List.mem_cons.1 q with e|q
      ·injection e with e; exact absurd e.symm AC
      ·exact q
    have:=q4 _ hj'
    simp only [rB,cQ,fx.ix] at this
    have J:=A k (R k sm)
    rw [this.2] at J; cases J
   subst AB
   have F: ∀ x∈T0,∃ i b,x=fx.take i∧(i,b)∈dn:=fun x hx'=>by
    obtain ⟨i,rfl⟩:=hT x hx'
    apply Classical.byContradiction
    intro q
    have r:i∈kf (T0++fx.op k::s') dn:=rm.2 ⟨⟨_,List.mem_append_left _ hx',rfl⟩,fun p hp' e=>q ⟨i,p.2,rfl,by rw [← e]; exact hp'⟩⟩
    have:=q3 _ hx' _ (bZ ..)
    simp only [rB,cQ,fx.ix] at this
    have J:=A i r
    rw [this.2] at J; cases J
   obtain ⟨dn',L',C2,V,J,O,W,h5,X⟩:=CZ T0 (fx.op k::s') dn L Y C F hp hn hm hy hl h
   refine MZ (fun a hf=>Ex W a hf) X (V o ho Y (dn'.map fun p=>AO p.1 p.2) K fun L3 C3 P AD Z g=>?_)
   have AG:(kf (T0++fx.op k::s') dn).filter (· != k)=kf s' dn':=by
    unfold kf
    rw [List.map_append,List.filter_append,List.map_cons,List.filter_append]
    have e1:(List.map fx.ix T0).filter (fun i=> !(dn.map (·.1)).contains i)=[]:=by
     apply List.filter_eq_nil_iff.2
     intro z hz
     obtain ⟨x,hx',rfl⟩:=List.mem_map.1 hz
     obtain ⟨i,b,rfl,hb⟩:=F x hx'
     simp only [fx.ix,Bool.not_eq_true',Bool.not_eq_false,List.contains_iff_mem]
     exact List.mem_map_of_mem (f:=(·.1)) hb
    rw [e1]
    simp only [List.filter_nil,List.nil_append]
    have u:k ∉ dn.map (·.1):=fun q=>by
     obtain ⟨p,hp',e⟩:=List.mem_map.1 q
     exact H p hp' e
    rw [List.filter_cons_of_pos (by simpa [fx.ix] using u),List.filter_cons_of_neg (by simp [fx.ix]),List.filter_filter]
    apply List.filter_congr
    intro z hz
    obtain ⟨y,hy',rfl⟩:=List.mem_map.1 hz
    have AE:y.ix≠k:=fun e=>by
     have:=q4 y hy'
     simp only [rB,cQ,bne_iff_ne,fx.ix] at this
     exact this.1 e.symm
    rw [Bool.eq_iff_iff]
    simp only [cQ,bne_iff_ne,Bool.not_eq_true',← Bool.not_eq_true,List.contains_iff_mem]
    constructor
    ·rintro ⟨_,hq⟩ hc
     obtain ⟨p,hp',e⟩:=List.mem_map.1 hc
     exact hq (by rw [← e]; exact List.mem_map_of_mem (f:=(·.1)) ((O p).1 hp').1)
    ·intro hq
     refine ⟨AE,fun hc=>?_⟩
     obtain ⟨p,hp',e⟩:=List.mem_map.1 hc
     apply hq
     rw [← e]
     refine List.mem_map_of_mem (f:=(·.1)) ((O p).2 ⟨hp',?_⟩)
     have ht:=hm p hp'
     rcases List.mem_append.1 ht with ht|ht
     ·exfalso
      have:=q3 _ ht _ (cW _ hy')
      simp only [rB,cQ,bne_iff_ne,fx.ix] at this
      exact this.1 e
     ·exact ht
   have N:(kf (T0++fx.op k::s') dn).Nodup:=by
    unfold kf
    refine List.Nodup.sublist List.filter_sublist<|List.pairwise_map.2 (hp.imp fun {a c} q=>?_)
    simp only [rB,cQ,bne_iff_ne] at q
    exact q.1
   refine hK _ _ (fun w hw=>P w (hw.take (List.sublist_append_left _ _))) (fun q=>by cases q) ?_
   rw [AG]
   have hdn': ∀ p∈dn',fx.take p.1∈s':=fun p hp'=>by
    rcases List.mem_cons.1 ((O p).1 hp').2 with e|e
    ·cases e
    ·exact e
   refine qu hal n s' dn' L3 Y C3 (fun i hi=>hal' i (by simp [hi])) q5 ?_ J hdn' (fun p hp'=>hy p ((O p).1 hp').1) (fun i hi=>?_) (Ab Z) P g
   ·rw [← AG,← List.Nodup.erase_eq_filter N,List.length_erase_of_mem G,hlen]; rfl
   ·have:=List.all_eq_true.1 AD _ (tg hi)
    simpa using this
/-- the rows, at any time; the others, one after the other -/
theorem ML {tb rem:List Nat} {L:List (Nat×Value)} {C:List aw} (s:List fx) (B:List (Nat×Value)) (dO:Nat→Nat) (VO:Nat→Nat→Value) (AO:Nat→Nat→aw) {n:Nat} (htb:tb=[]) (hr:s.map fx.ix=rem) (hn:rem.length=n) (hp:SK (qc ops) dO s=true) (hl:((Bz dO s).all fun d=>(L.lookup d).isNone)=true) (hB:B.map (fun p=>L.lookup p.1)=B.map (fun p=>some p.2)) (hC: ∀ w,St E.S E.w0 C w→St E.S E.w0 C' w)
 (hal: ∀ i,fx.take i∈s→Qt E ops D B dO VO AO i) (h:CH E ops D C' K0 B dO VO AO s L C):TN E ops D C' C1 (fun L C=>KJ E K0 D L C) tb n rem L C:=by
 subst htb hr
 have e:kf s []=s.map fx.ix:=by unfold kf; simp
 have:=qu (C1:=C1) (fun i=> .inr trivial) n s [] L [] C hal (ET hp) (by rw [e]; exact hn) List.nodup_nil (fun p hp=>by cases hp) (fun p hp=>by cases hp) (fun i hi=>by
  have:=List.all_eq_true.1 hl _ (tg hi)
  simpa using this) (Ab hB) hC h
 simpa [e] using this
theorem OH {p:Nat→Prop}: ∀ i,fx.take i∈([]:List fx)→p i:=fun i h=>by cases h
theorem vX {p:Nat→Prop} {j:Nat} {s:List fx} (h: ∀ i,fx.take i∈s→p i): ∀ i,fx.take i∈fx.op j::s→p i:=fun i hi=>by
 rcases List.mem_cons.1 hi with e|hi
 ·cases e
 ·exact h i hi
theorem vD {p:Nat→Prop} {j:Nat} {s:List fx} (hj:p j) (h: ∀ i,fx.take i∈s→p i): ∀ i,fx.take i∈fx.take j::s→p i:=fun i hi=>by
 rcases List.mem_cons.1 hi with e|hi
 ·cases e; exact hj
 ·exact h i hi
end
section
variable {E:eU} {ops:Array Oper} {D:List Deferred} {B:List (Nat×Value)} {dO:Nat→Nat} {VO:Nat→Nat→Value} {AO:Nat→Nat→aw}
variable {d:Nat} {ty:TypeId} {ps:String} {af:Array Edge}
theorem ID {i t e sz:Nat} (ho:ops[i]? =some ⟨some d,.buildSlice t 0 #[],ty,ps,af,none⟩) (ht:tE E.P t=some (e,sz)) (hd:Nat.blt d E.n=true) (h1:dO i=d) (h2: ∀ b,VO i b= .slice (some ⟨b,0,none⟩) 0 0) (h3: ∀ b,AO i b=cq b e []):Qt E ops D B dO VO AO i:=fun o ho' L C K hB hk=>by
 rw [ho] at ho'; cases ho'
 exact kN U ht hd fun b=>ax (by have:=hk b; rw [h1,h2,h3] at this; exact this)
theorem No {i t e sz n:Nat} {xs:List Operand} {vs:List Value} {cs zs:List Value} (ho:ops[i]? =some ⟨some d,.buildSlice t n ((xs.zipIdx.map fun p=>(p.2,p.1)).toArray),ty,ps,af,none⟩) (ht:tE E.P t=some (e,sz)) (hz:tZ E.P e=some zs) (hx:evs B xs=some vs) (hn:xs.length=n) (hp:Nat.blt 0 (n*sz)=true) (hb:Nat.ble (n*sz) 16777216=true) (hv: ∀ v∈vs,v.cells.size=sz)
 (hc:(vs.map (·.cells.toList)).flatten=cs) (hd:Nat.blt d E.n=true) (h1:dO i=d) (h2: ∀ b,VO i b= .slice (some ⟨b,0,none⟩) n n) (h3: ∀ b,AO i b=cq b e cs):Qt E ops D B dO VO AO i:=fun o ho' L C K hB hk=>by
 rw [ho] at ho'; cases ho'
 exact eX U ht hz (Fq hB hx) hn hp hb hv hc hd fun b=>ax (by have:=hk b; rw [h1,h2,h3] at this; exact this)
end
section
variable {E:eU} {ops:Array Oper} {D:List Deferred} {C':List aw} {K0:Act→World→Prop} {B:List (Nat×Value)} {dO:Nat→Nat} {VO:Nat→Nat→Value} {AO:Nat→Nat→aw}
theorem wV {j:Nat} {s:List fx} {L:List (Nat×Value)} {C:List aw} {o:Oper} (ho:ops[j]? =some o)
 (h: ∀ (Y:List (Nat×Value)) (X:List aw) (K:Act→World→Prop),(∀ L' C'',(∀ w,St E.S E.w0 C'' w→St E.S E.w0 C' w)→((Bz dO s).all fun d=>(L'.lookup d).isNone)=true→B.map (fun p=>L'.lookup p.1)=B.map (fun p=>some p.2)→CH E ops D C' K0 B dO VO AO s L' C''→KJ E K D (L'++Y) (C''++X))→RJ E ops (NQ K) [o] D (L++Y) (C++X)):CH E ops D C' K0 B dO VO AO (.op j::s) L C:=fun o' ho'=>by
 rw [ho] at ho'; cases ho'
 exact h
theorem sf {s:List fx} {L Y:List (Nat×Value)} {C X:List aw} {K:Act→World→Prop} (hT: ∀ L' C'',(∀ w,St E.S E.w0 C'' w→St E.S E.w0 C' w)→((Bz dO s).all fun d=>(L'.lookup d).isNone)=true→B.map (fun p=>L'.lookup p.1)=B.map (fun p=>some p.2)→CH E ops D C' K0 B dO VO AO s L' C''→KJ E K D (L'++Y) (C''++X)) (nL nC:Nat)
 (hL:L.take nL++Y=L) (hC:C.take nC++X=C) (h1: ∀ w,St E.S E.w0 (C.take nC) w→St E.S E.w0 C' w) (h2:((Bz dO s).all fun d=>((L.take nL).lookup d).isNone)=true) (h3:B.map (fun p=>(L.take nL).lookup p.1)=B.map (fun p=>some p.2)) (h:CH E ops D C' K0 B dO VO AO s (L.take nL) (C.take nC)):RJ E ops (NQ K) [] D L C:=by
 have:=hT _ _ h1 h2 h3 h
 rw [hL,hC] at this
 exact ax this
theorem Rk {c:Code} {Q:cY} {L L':List (Nat×Value)} {C:List aw} (h:L'.map (fun p=>L.lookup p.1)=L'.map (fun p=>some p.2)) (k:WJ E c Q D L' C):WJ E c Q D L C:=fun a w hf hs=>k a w (Ex (Ab h) a hf) hs
theorem vZ: ∀ {C:List aw} {i:Nat} {A:aw},C[i]? =some A→C.Perm (A::C.eraseIdx i)
 |[],i,A,h=>by simp at h
 |x::C,0,A,h=>by
  simp at h; subst h
  exact List.Perm.refl _
 |x::C,i+1,A,h=>((vZ (C:=C) (i:=i) (by simpa using h)).cons x).trans (List.Perm.swap _ _ _)
theorem St.front {S:BS} {w0 w:World} {C:List aw} {A:aw} (i:Nat) (hi:C[i]? =some A) (h:St S w0 C w):St S w0 (A::C.eraseIdx i) w:=h.perm (vZ hi)
theorem FI {K:Act→World→Prop} {L:List (Nat×Value)} {C:List aw} {A:aw} (i:Nat) (hi:C[i]? =some A) (h:KJ E K D L (A::C.eraseIdx i)):KJ E K D L C:=fun a w hf hs=>h a w hf (hs.front i hi)
theorem q6 {Q:cY} {rest:List Oper} {L:List (Nat×Value)} {C:List aw} {A:aw} (i:Nat) (hi:C[i]? =some A) (h:RJ E ops Q rest D L (A::C.eraseIdx i)):RJ E ops Q rest D L C:=fun a w hf hs=>h a w hf (hs.front i hi)
end
end
section
open Go.RowKit
theorem BR (l:List cZ) (az:List kg): ∀ v∈(List.zipWith cZ.cells l az).flatten,v.oneCell'=true:=by
 induction l generalizing az with
 |nil=>intro v hv; simp at hv
 |cons x l ih=>
  cases az with
  |nil=>intro v hv; simp at hv
  |cons a az=>
   intro v hv
   simp only [List.zipWith_cons_cons,List.flatten_cons,jB] at hv
   rcases hv with hv|hv
   ·simp only [cZ.cells,vV.cells,dL,List.not_mem_nil,or_false] at hv
    rcases hv with rfl|rfl|rfl<;>rfl
   ·exact ih az v hv
theorem Nk: ∀ (m:cZ) (a:kg) (w:World),(∀ X∈cZ.owns m a,X.holds w)→ ∀ X∈cZ.gh m a,X.holds w:=fun m a w h X hX=>by
 simp only [cZ.gh,dL,List.not_mem_nil,or_false] at hX
 have A:=mu (h (own a.1.1 a.1.2 lD 1 (m.f_.map iC)) (by simp [cZ.owns]))
 have B:=mu (h (own a.2.1.1 a.2.1.2 lD 1 (m.iq.map iC)) (by simp [cZ.owns]))
 have C:=mu (h (own a.2.2.1 a.2.2.2 lD 1 (m.lz.map iC)) (by simp [cZ.owns]))
 rcases hX with rfl|rfl|rfl
 ·simpa using A
 ·simpa using B
 ·simpa using C
theorem pz: ∀ (l:List cZ) (az:List kg),(aU cZ.owns l az).all (·.wr)=true
 |[],_=>rfl
 |_::_,[]=>rfl
 |x::l,a::az=>by
  simp only [aU,List.all_append,cQ]
  exact ⟨U,pz l az⟩
theorem JK (l:List cZ) (az:List kg):(bB (aU cZ.owns l az)).wr=true:=pz l az
theorem IQ {l m:List cZ} {az bz:List kg} (h:az.length=l.length):List.zipWith cZ.cells (l++m) (az++bz)=List.zipWith cZ.cells l az++List.zipWith cZ.cells m bz:=List.zipWith_append h.symm
theorem sT {l:List cZ} {az:List kg} (h:az.length=l.length):(List.zipWith cZ.cells l az).length=l.length:=by rw [List.length_zipWith]; omega
/-- what is read of a thing that is tied, and frozen -/
theorem pw {C L:List aw} {a:OA} {c e sz n:Nat} {es:List (List Value)} (i:Nat) (hC:C[i]? =some (bB L).ro) (hm:own a c e sz es∈L) (hn:es.length=n):gI C (rd a n sz es).holds:=fun w hw=>by
 subst hn
 exact mu ((show (bB L).holds w from (hw _ (aR hC):(bB L).ro.holds w)).1 _ hm)
section
variable {E:eU} {ops:Array Oper} {Q:cY} {rest:List Oper} {D:List Deferred} {L:List (Nat×Value)} {C C1:List aw}
theorem St.PE {S:BS} {w0 w:World} {X C:List aw} {A:aw} (h:St S w0 (bB (X++[A])::C) w):St S w0 (A::bB X::C) w:=by
 have B:=h.g8
 have D:St S w0 (X++(A::C)) w:=by simpa using B
 exact D.tied.perm (List.Perm.swap _ _ _)
theorem St.merge {S:BS} {w0 w:World} {X Y C:List aw} (h:St S w0 (bB X::bB Y::C) w):St S w0 (bB (X++Y)::C) w:=by
 have A:St S w0 (bB Y::(X++C)) w:=(h.g8).perm (List.perm_middle (a:=bB Y) (l₁:=X) (l₂:=C))
 have B:St S w0 (Y++(X++C)) w:=A.g8
 have D:St S w0 ((X++Y)++C) w:=B.perm (by rw [← List.append_assoc]; exact List.perm_append_comm.append_right _)
 exact D.tied
end
section
variable {E:eU} {ops:Array Oper} {Q:cY} {rest:List Oper} {D:List Deferred} {L:List (Nat×Value)} {C:List aw}
theorem Ac {A:aw} {X X':List aw} (e:X++[A]=X') (h:RJ E ops Q rest D L (bB X'::C)):RJ E ops Q rest D L (A::bB X::C):=fun a w hf hs=>h a w hf (hs.tie e)
theorem yQ {X:List aw} {A:aw} (h:RJ E ops Q rest D L (A::bB X::C)):RJ E ops Q rest D L (bB (X++[A])::C):=fun a w hf hs=>h a w hf hs.PE
theorem HU {K:Act→World→Prop} {ms ns:List cZ} {az bz:List kg} (hl:az.length=ms.length) (h:KJ E K D L (bB (aU cZ.owns (ms++ns) (az++bz))::C)):KJ E K D L (bB (aU cZ.owns ms az)::bB (aU cZ.owns ns bz)::C):=fun a w hf hs=>h a w hf (by rw [iX hl.symm]; exact hs.merge)
end
/-- the head of the ways: the way that ends here, if it may -/
def wK (l:aW) (r:cx) (rs fs:List Int) (ra fa:RA) (hz:List kg) (LA:List aw):Prop:=
 ((r.ah.length:Int)-(cT rs).right≤l.eg∧ ∃ la:RA,hz=[(ra,fa,la)]∧LA=[own la.1 la.2 lD 1 ((jk l r rs).map iC)])∨(¬ (r.ah.length:Int)-(cT rs).right≤l.eg∧hz=[]∧LA=[])
theorem wK.len {l:aW} {r:cx} {rs fs:List Int} {ra fa:RA} {hz:List kg} {LA:List aw} (h:wK l r rs fs ra fa hz LA):hz.length=(gL l r rs fs).length:=by
 unfold gL
 rcases h with ⟨q,la,rfl,rfl⟩|⟨q,rfl,rfl⟩
 ·rw [if_pos q]; rfl
 ·rw [if_neg q]; rfl
theorem wK.wr {l:aW} {r:cx} {rs fs:List Int} {ra fa:RA} {hz:List kg} {LA:List aw} (h:wK l r rs fs ra fa hz LA):LA.all (·.wr)=true:=by
 rcases h with ⟨q,la,rfl,rfl⟩|⟨q,rfl,rfl⟩<;>rfl
theorem Iq {S:BS} {w0 w:World} {l:aW} {r:cx} {rs fs:List Int} {ra fa:RA} {hz az:List kg} {LA:List aw} {R:List cZ} {A:aw} (hh:wK l r rs fs ra fa hz LA)
 (h:St S w0 [bB [own ra.1 ra.2 lD 1 (rs.map iC),own fa.1 fa.2 lD 1 (fs.map iC)],A,bB LA,bB (aU cZ.owns R az)] w):St S w0 [bB (aU cZ.owns (gL l r rs fs++R) (hz++az)++[A])] w:=by
 rw [iX hh.len.symm]
 have D:St S w0 [own ra.1 ra.2 lD 1 (rs.map iC),own fa.1 fa.2 lD 1 (fs.map iC),A,bB LA,bB (aU cZ.owns R az)] w:=h.g8
 rcases hh with ⟨q,la,rfl,rfl⟩|⟨q,rfl,rfl⟩
 ·unfold gL
  rw [if_pos q]
  have B:=(St.kz [3,0,1,2,4] rfl rfl D).g8
  have E:=(St.kz [4,1,2,0,3] rfl rfl B).g8
  have C:St S w0 (((aU cZ.owns [(⟨rs,fs,jk l r rs⟩:cZ)] [(ra,fa,la)]++aU cZ.owns R az)++[A])++[]) w:=by
   rw [List.append_nil]
   refine E.perm ?_
   show (aU cZ.owns R az++(aU cZ.owns [(⟨rs,fs,jk l r rs⟩:cZ)] [(ra,fa,la)]++[A])).Perm _
   rw [← List.append_assoc]
   exact List.perm_append_comm.append_right _
  exact C.tied
 ·unfold gL
  rw [if_neg q]
  have B:=(St.kz [4,2] rfl rfl D).g8
  have C:St S w0 (((aU cZ.owns [] []++aU cZ.owns R az)++[A])++[]) w:=by
   rw [List.append_nil]; exact B
  exact C.tied
theorem KW {E:eU} {K:Act→World→Prop} {D:List Deferred} {L:List (Nat×Value)} {l:aW} {r:cx} {rs fs:List Int} {ra fa:RA} {hz az z:List kg} {LA:List aw} {R W:List cZ} {A A':aw} (hh:wK l r rs fs ra fa hz LA) (hW:gL l r rs fs++R=W) (hz':hz++az=z) (hA:A=A')
 (h:KJ E K D L [bB (aU cZ.owns W z++[A'])]):KJ E K D L [bB [own ra.1 ra.2 lD 1 (rs.map iC),own fa.1 fa.2 lD 1 (fs.map iC)],A,bB LA,bB (aU cZ.owns R az)]:=fun a w hf hs=>h a w hf (by subst hW hz' hA; exact Iq hh hs)
theorem Pu {E:eU} {K:Act→World→Prop} {D:List Deferred} {L:List (Nat×Value)} {X A:aw} {W:List cZ} (h:KJ E K D L [bB (aU cZ.owns W []++[A])]):KJ E K D L [X,A]:=fun a w hf hs=>h a w hf (by
 have B:St E.S E.w0 [A] w:=St.kz [1] rfl rfl hs
 have C:St E.S E.w0 (([]++[A])++[]) w:=B
 have e:aU cZ.owns W []=[]:=by cases W<;>rfl
 rw [e]
 exact C.tied)
theorem Hv {E:eU} {K:Act→World→Prop} {D:List Deferred} {L:List (Nat×Value)} {C:List aw} (e sz:Nat) (k:KJ E K D L (own none 0 e sz []::C)):KJ E K D L C:=fun a w hf hs=>k a w hf (hs.rq e sz)
end
section
theorem TN.sub {E:eU} {ops:Array Oper} {Q:cY} {D:List Deferred} {C' C1 C:List aw} {tb rem:List Nat}: ∀ {n:Nat} {L L':List (Nat×Value)},cO L L'→TN E ops D C' C1 (fun L C=>KJ E (Q .normal) D L C) tb n rem L' C→TN E ops D C' C1 (fun L C=>KJ E (Q .normal) D L C) tb n rem L C:=by
 intro n
 cases n with
 |zero=>intro L L' hs h; exact jF hs (fun _ h=>h) h
 |succ n=>intro L L' hs h i hi o ho K hK; exact NL hs (fun _ h=>h) (h i hi o ho K hK)
theorem MO {E:eU} {ops:Array Oper} {Q:cY} {D:List Deferred} {C' C1 C:List aw} {bs:List Bool} {os:List Oper} {L:List (Nat×Value)} {tb rem:List Nat} {n:Nat} {t:Nat} {b:Bool} (h:L.lookup t=some (.bool b))
 (h1:b=true→qe E ops D C' C1 (fun L'=>TN E ops D C' C1 (fun L C=>KJ E (Q .normal) D L C) tb n rem L' C) bs os ((t,.bool true)::L)) (h2:b=false→qe E ops D C' C1 (fun L'=>TN E ops D C' C1 (fun L C=>KJ E (Q .normal) D L C) tb n rem L' C) bs os ((t,.bool false)::L)):
 qe E ops D C' C1 (fun L'=>TN E ops D C' C1 (fun L C=>KJ E (Q .normal) D L C) tb n rem L' C) bs os L:=by
 have A: ∀ v:Bool,b=v→cO L ((t,.bool v)::L):=fun v hv=>cO.cons (hv▸h) (fun _ _ h=>h)
 cases b
 ·exact qe.mono (fun _ _=>TN.sub) (A _ U) (h2 U)
 ·exact qe.mono (fun _ _=>TN.sub) (A _ U) (h1 U)
theorem Sk {E:eU} {ops:Array Oper} {Q:cY} {D:List Deferred} {L:List (Nat×Value)} {C1 C2 C:List aw} {t n:Nat} {b:Bool} {bs:List Bool} {os:List Oper} {tb rem:List Nat} (h:L.lookup t=some (.bool b)) (h2:b=false→qe E ops D C2 C1 (fun L2=>TN E ops D C2 C1 (fun L C=>KJ E (Q .normal) D L C) tb n rem L2 C) bs os ((t,.bool false)::L)) (h1:b=true→qe E ops D C2 C1 (fun L2=>TN E ops D C2 C1 (fun L C=>KJ E (Q .normal) D L C) tb n rem L2 C) bs os ((t,.bool true)::L)):qe E ops D C2 C1 (fun L2=>TN E ops D C2 C1 (fun L C=>KJ E (Q .normal) D L C) tb n rem L2 C) bs os L:=MO h h1 h2
end
section
open Go.RowKit
theorem An (l:aW) (kA:OA) (kC:Nat) (az:List RA) (cA:OA) (cC:Nat) (bA:OA) (bC:Nat) (hin:ej l az):
 eA Tryz.prog 67 [(vA (bT.cells (kH l kA kC cA cC bA bC)))] [(rd kA l.aM.length 9 (l.aM.map al.cells)),(rd cA l.aj.length 2 (List.zipWith ao.cells l.aj az)),(eH (aU ao.gh l.aj az)),(rd bA l.ae.length 4 (l.ae.map bI.cells))] (vI (du l)):=by
 have N:=hin.rK
 have M:=hin.rD
 have K:=hin.mE
 have L:=hin.ry
 refine bH kr Tryz.func67 U U fun P Q hQ hN=>?_
 try dsimp only
 refine WS fun _ C=>fm U fun O=>aY 1 U<|RK C<|ai fun _ D=>WS fun _ E=>aY 1 U<|rS (LP (bo.cells (bo.mk (bf.mk kA l.aM.length kC))) 0 U bX U U U)<|rS (CL (vC l.aM kA kC asm) (aZ [1]) U)<|rP 1 [] mn ?_
 refine RK E<|cK U (fun A=>?_) (fun A=>?_)
 ·rw [Bool.not_eq_true'] at A
  refine WS fun _ F=>rP 1 [] mn ?_
  refine RK F<|an<|Q1 hQ U U U ?_
  exact cI (ym (by simpa using A)).symm
 rw [Bool.not_eq_false'] at A
 refine WK D<|ai fun _ G=>WS fun _ H=>e7 1 [] (mc 0 U mn) U<|rS (CL (M7 l kA kC az cA cC bA bC hin asm) (aZ [1,2,3,4]) U)<|rP 1 [] mn ?_
 refine RK H<|cK U (bg fun B=>?_) (bh fun B=>?_)
 ·refine WS fun _ AA=>rP 1 [] mn ?_
  refine RK AA<|an<|Q1 hQ U U U ?_
  exact cI (qz A B).symm
 refine WK G<|WS fun _ J=>rP 1 [] mn ?_
 refine RK J<|an<|Q1 hQ U U U ?_
 exact cI (Bv A B).symm
theorem L5 (l:aW) (kA:OA) (kC:Nat) (az:List RA) (cA:OA) (cC:Nat) (bA:OA) (bC:Nat) (s:aK) (hin:ej l az) (hok:lI l) (hs:(0≤s.fM∧s.fM≤(l.ae.length:Int)-1)∧0≤s.Read∧s.Read≤86400000):
 eA Tryz.prog 176 [(vA (bT.cells (kH l kA kC cA cC bA bC))),(vA (aK.cells s))] [(rd kA l.aM.length 9 (l.aM.map al.cells)),(rd cA l.aj.length 2 (List.zipWith ao.cells l.aj az)),(eH (aU ao.gh l.aj az)),(rd bA l.ae.length 4 (l.ae.map bI.cells))] (vT [(vA (ab.cells (cR l s))),(vB (decide ((cR l s).Lo≤(cR l s).Hi)))]):=by
 have AE:=hin.rK
 have AD:=hin.rD
 have AB:=hin.mE
 have AC:=hin.ry
 refine bH kr Tryz.func176 U U fun w0 Q hQ hN=>?_
 try dsimp only
 refine WS fun _ i=>fm U fun b2=>fm U fun b3=>AL U dk fun b4=>rP 1 [] mn ?_
 refine RK i<|ai fun _ j=>dp cf [11,12] [] [] [0,1,2,3,4,5,6] [] U U U U U<|eS U (FA 2 U e_ U)<|eS U (L1 (vS cA l.aj.length cC) 2 U bX U U)<|eS U (FA 3 U e_ U)<|eS U (L1 (vS bA l.ae.length bC) 2 U bX U U)<|eS U (FA 0 U e_ U)<|eS U (L1 (vI s.fM) 1 U bX U U) ?_
 obtain ⟨y,hy⟩:=aG l.ae ((s.fM).toNat) I
 have w:=bG bI.cells hy
 refine eS U (IA ((s.fM).toNat) U (ay 6 U) sQ dc I I)<|eS U (nP ((((s.fM).toNat)*4)+3) U (ay 6 U) (Nat.mul_pos I dc) e_ U)<|eS U (fI ((s.fM).toNat) 3 (vI y.jr) U bX (ay 6 U) w U dc U) ?_
 have AF:=(hok.vh _ (aR hy)).2
 obtain ⟨x,hx⟩:=aG l.aj ((y.jr).toNat) I
 obtain ⟨xa,AG⟩:=aG az ((y.jr).toNat) I
 have u:(List.zipWith ao.cells l.aj az)[(y.jr).toNat]? =some (ao.cells x xa):=cH hx AG
 refine eS U (IA ((y.jr).toNat) U (ay 4 U) uq dc I I)<|eS U (l4 ((y.jr).toNat) 0 (de.cells (de.mk x.cU (bf.mk xa.1 x.aT.length xa.2))) U bX (ay 4 U) u U dc U U)<|eu U<|bS U fun T6 m=>AL U zm fun b7=>ax (m _ _ (aD [1,2,3,4,5,6,7]) ?_)
 refine bS U fun T8 o=>fq U yV U<|ax (o _ _ (aD [1,2,3,4,5,6,7]) ?_)
 refine eY U<|KK j<|WS fun _ k=>rP 2 [] mn ?_
 refine RK k<|ai fun _ J=>ar ?_
 have A:(0≤(0:Int)∧(0:Int)≤(fH (gR x s.Read) 86400001))∧((fH (gR x s.Read) 86400001)≤(86400001:Int)∧(86400001:Int)≤86400001):=by (have Y:=ik (p:=gR x s.Read) (n:=86400001); omega)
 refine bx (ι:={z:Int×Int // (0≤z.1∧z.1≤(fH (gR x s.Read) 86400001))∧((fH (gR x s.Read) 86400001)≤z.2∧z.2≤86400001)}) [2,3,4,6] [0,1,2,3,4,5,6,7] U U (fun z=>[(7,(vI z.1.1)),(8,(vI z.1.2))]) (fun z=>[]) (fun _=>rfl) (fun _=>rfl) (fun z=>(z.1.2-z.1.1).toNat) ⟨((0:Int),(86400001:Int)),A⟩ (aN U) (aD [0,1,2,3,4,5,6,7]) ?_
 clear A
 rintro ⟨⟨a,b⟩,⟨H,hl3_1⟩⟩ J11 F
 try dsimp only at H hl3_1
 try dsimp only
 have B:=hok.clock _ (aR hx)
 have Y:=ik (p:=gR x s.Read) (n:=86400001)
 have X:=ik (p:=gS x s.Read) (n:=86400001)
 refine ai fun _ K=>WS fun _ L=>rP 3 [] mn ?_
 refine RK L<|cK U (aP fun Z=>?_) (aQ fun Z=>?_)
 ·refine WK K<|ar<|WS fun _ M=>aY 3 U<|rS (BI U (qk I I I))<|aY 1 U<|RK M<|ai fun _ N=>cS cf 9 kr<|dP 3 [] (mc 0 U mn) ?_
  refine dS (CL (BP x xa.1 xa.2 ((a+b)/2) asm I) (aC (show gI _ (rd xa.1 x.aT.length 3 (x.aT.map ck.cells)).holds from (b_ 6 U (bu hx AG (by simp [ao.gh]))))<|aS) U)<|dS (SX (j7 (v:=(vI ((hH x ((a+b)/2)).Hi))) U U e_ Ds U) U U) ?_
  have t:=qE B (show 0≤(a+b)/2∧(a+b)/2≤90000000 by omega)
  refine dP 4 [] (mc 2 U mn) ?_
  refine cy<|RK N<|cK U (aP fun f=>?_) (aQ fun f=>?_)
  ·refine ag<|rP 2 [] mn ?_
   refine ax<|aB ?_
   refine aI (F ⟨(a,((a+b)/2)),(by dsimp only; have hm:=kJ (r:=s.Read) B (x:=(a+b)/2) I I; rcases Int.lt_or_le ((a+b)/2) (fH (gR x s.Read) 86400001) with q|q; (have C:=hm.1 q; simp only [gR,decide_eq_false_iff_not] at C; omega); (have C:=hm.2.1 q; simp only [gR,decide_eq_true_eq] at C; omega))⟩ _ _ _ rfl (by simp only []; omega) (aN rfl) (aD [0,1,2,3,4,5,6,7]))
  refine ag<|rP 3 [] mn ?_
  refine ax<|aB ?_
  refine aI (F ⟨((((a+b)/2)+1),b),(by dsimp only; have hm:=kJ (r:=s.Read) B (x:=(a+b)/2) I I; rcases Int.lt_or_le ((a+b)/2) (fH (gR x s.Read) 86400001) with q|q; (have C:=hm.1 q; simp only [gR,decide_eq_false_iff_not] at C; omega); (have C:=hm.2.1 q; simp only [gR,decide_eq_true_eq] at C; omega))⟩ _ _ _ rfl (by simp only []; omega) (aN rfl) (aD [0,1,2,3,4,5,6,7]))
 refine bj<|aa<|aa<|au<|KK J<|WS fun _ O=>aY 2 U<|RK O<|WS fun _ P=>rP 2 [] mn ?_
 refine RK P<|ai fun _ R=>ar ?_
 have A:(-1≤((-1):Int)∧((-1):Int)≤(fH (gS x s.Read) 86400001)-1)∧((fH (gS x s.Read) 86400001)-1≤(86400000:Int)∧(86400000:Int)≤86400000):=by (have X:=ik (p:=gS x s.Read) (n:=86400001); omega)
 refine bx (ι:={z:Int×Int // (-1≤z.1∧z.1≤(fH (gS x s.Read) 86400001)-1)∧((fH (gS x s.Read) 86400001)-1≤z.2∧z.2≤86400000)}) [2,3,4,6,10] [0,1,2,3,4,5,6,7] U U (fun z=>[(7,(vI z.1.1)),(8,(vI z.1.2))]) (fun z=>[]) (fun _=>rfl) (fun _=>rfl) (fun z=>(z.1.2-z.1.1).toNat) ⟨(((-1):Int),(86400000:Int)),A⟩ (aN U) (aD [0,1,2,3,4,5,6,7]) ?_
 clear A
 rintro ⟨⟨d,e⟩,⟨D,E⟩⟩ J20 G
 try dsimp only at D E
 try dsimp only
 have B:=hok.clock _ (aR hx)
 have Y:=ik (p:=gR x s.Read) (n:=86400001)
 have X:=ik (p:=gS x s.Read) (n:=86400001)
 refine ai fun _ S=>WS fun _ T=>rP 3 [] mn ?_
 refine RK T<|bE U (aQ fun c=>?_) (aP fun c=>?_)
 ·refine bj<|aa<|aa<|au<|KK R<|WS fun _ W=>aY 2 U<|rS (SX (bq (xs:=[(0,.tmp 63),(1,.tmp 64)]) (cs:=(ab.cells (ab.mk a d))) U U (br gK U)) U U)<|aY 3 U<|sK U cu U<|rP 1 [] mn ?_
  refine RK W<|an<|mo hQ [0] (mc 1 U mn) U ?_
  have e0:cR l s=⟨a,d⟩:=by (unfold cR Ao; rw [wS hy hx,show a=(fH (gR x s.Read) 86400001) by omega,show d=(fH (gS x s.Read) 86400001)-1 by omega])
  rw [e0]
 refine WK S<|ar<|WS fun _ AA=>aY 4 U<|rS (BI U (qk I I I))<|aY 1 U<|RK AA<|ai fun _ V=>cS cf 9 kr<|dP 3 [] (mc 0 U mn) ?_
 refine dS (CL (BP x xa.1 xa.2 (((d+e)+1)/2) asm I) (aC (show gI _ (rd xa.1 x.aT.length 3 (x.aT.map ck.cells)).holds from (b_ 6 U (bu hx AG (by simp [ao.gh]))))<|aS) U)<|dS (SX (j7 (v:=(vI ((hH x (((d+e)+1)/2)).Lo))) U U e_ uc U) U U) ?_
 have t:=qE B (show 0≤(d+e+1)/2∧(d+e+1)/2≤90000000 by omega)
 refine dP 4 [] (mc 2 U mn) ?_
 refine cy<|RK V<|cK U (aP fun g=>?_) (aQ fun g=>?_)
 ·refine ag<|rP 2 [] mn ?_
  refine ax<|aB ?_
  refine aI (G ⟨((((d+e)+1)/2),e),(by dsimp only; have hm:=kJ (r:=s.Read) B (x:=(d+e+1)/2) I I; rcases Int.lt_or_le ((d+e+1)/2) (fH (gS x s.Read) 86400001) with q|q; (have C:=hm.2.2.1 q; simp only [gS,decide_eq_false_iff_not] at C; omega); (have C:=hm.2.2.2 q; simp only [gS,decide_eq_true_eq] at C; omega))⟩ _ _ _ rfl (by simp only []; omega) (aN rfl) (aD [0,1,2,3,4,5,6,7]))
 refine ag<|rP 3 [] mn ?_
 refine ax<|aB ?_
 refine aI (G ⟨(d,((((d+e)+1)/2)-1)),(by dsimp only; have hm:=kJ (r:=s.Read) B (x:=(d+e+1)/2) I I; rcases Int.lt_or_le ((d+e+1)/2) (fH (gS x s.Read) 86400001) with q|q; (have C:=hm.2.2.1 q; simp only [gS,decide_eq_false_iff_not] at C; omega); (have C:=hm.2.2.2 q; simp only [gS,decide_eq_true_eq] at C; omega))⟩ _ _ _ rfl (by simp only []; omega) (aN rfl) (aD [0,1,2,3,4,5,6,7]))
end
section
open Go.RowKit
theorem LQ (l:aW) (kA:OA) (kC:Nat) (az:List RA) (cA:OA) (cC:Nat) (bA:OA) (bC:Nat) (r:cx) (sgA:OA) (sgC:Nat) (hin:ej l az) (hsl:r.ah.length≤1000000):
 eA Tryz.prog 166 [(vA (bT.cells (kH l kA kC cA cC bA bC))),(vA (ew.cells (lv r sgA sgC)))] [(rd kA l.aM.length 9 (l.aM.map al.cells)),(rd cA l.aj.length 2 (List.zipWith ao.cells l.aj az)),(eH (aU ao.gh l.aj az)),(rd bA l.ae.length 4 (l.ae.map bI.cells)),(rd sgA r.ah.length 2 (r.ah.map aK.cells))] (vB (decide (eW l r))):=by
 have AE:=hin.rK
 have AD:=hin.rD
 have AB:=hin.mE
 have AC:=hin.ry
 refine bH kr Tryz.func166 U U fun w0 Q hQ hN=>?_
 try dsimp only
 refine WS fun _ j=>fm U fun b2=>fm U fun b3=>aY 1 U<|RK j<|ai fun _ k=>WS fun _ H=>e7 2 [] (mc 0 U mn) U<|rS (CL (ig r.Start 0 86400000) (aS) U)<|rP 2 [] mn ?_
 refine cE (t:=11) U (bg fun X=>?_) (bh fun X=>?_)
 ·refine aY 13 U<|RK H<|aL U<|WS fun _ m=>rP 1 [] mn ?_
  refine RK m<|an<|Q1 hQ U U U ?_
  exact cB (bD fun q=>by have C:=q.time; have w:=q.len; omega).symm
 refine e7 4 [] (mc 0 U mn) U<|rS (CL (ig r.fK r.Start 86400000) (aS) U)<|rP 3 [] mn ?_
 refine cE (t:=19) U (bg fun Z=>?_) (bh fun Z=>?_)
 ·refine aY 5 U<|RK H<|aL U<|WS fun _ o=>rP 1 [] mn ?_
  refine RK o<|an<|Q1 hQ U U U ?_
  exact cB (bD fun q=>by have C:=q.time; have w:=q.len; omega).symm
 refine rP 5 [] (mc 0 U mn) ?_
 refine RK H<|cK U (aP fun a=>?_) (aQ fun a=>?_)
 ·refine WS fun _ p=>rP 1 [] mn ?_
  refine RK p<|an<|Q1 hQ U U U ?_
  exact cB (bD fun q=>by have C:=q.time; have w:=q.len; omega).symm
 refine WK k<|ai fun _ s=>WS fun _ J=>rP 1 [] mn ?_
 refine RK J<|ar ?_
 have F:(0≤r.ah.length)∧(qh l r.ah 0):=by exact ⟨Nat.zero_le _,yF⟩
 refine bx (ι:={z:Nat // (z≤r.ah.length)∧(qh l r.ah z)}) [2,3] [0,1,2,3,4,5,6] U U (fun z=>[(5,(vI (z.1:Int)))]) (fun z=>[]) (fun _=>rfl) (fun _=>rfl) (fun z=>r.ah.length-z.1) ⟨0,F⟩ (aN U) (aD [0,1,2,3,4,5,6]) ?_
 clear F
 rintro ⟨i,⟨u,A⟩⟩ J11 D
 try dsimp only
 refine ai fun _ K=>WS fun _ L=>rP 5 [] (mc 0 U mn) ?_
 refine RK L<|bE U (aQ fun Y=>?_) (aP fun Y=>?_)
 ·refine bj<|aa<|aa<|au<|KK s<|WS fun _ T=>rP 1 [] mn ?_
  refine RK T<|an<|Q1 hQ U U U ?_
  exact cB (dh (Cu I I A I)).symm
 refine WK K<|ai fun _ E=>ar<|WS fun _ M=>rP 3 [] (mc 0 U mn) ?_
 obtain ⟨x,hx⟩:=aG r.ah i I
 have v:=bG aK.cells hx
 refine rS (IA i U (ay 6 U) wv dc I I)<|rS (l4 i 0 (aK.cells x) U bX (ay 6 U) v U dc U U)<|AL U Kg fun AA=>fq U wT U<|RK M<|ai fun _ N=>WS fun _ G=>e7 6 [0,1] (mc 0 U (mc 2 U mn)) U<|rS (CL (ig x.fM 0 ((l.ae.length:Int)-1)) (aS) U)<|rP 2 [] mn ?_
 refine cE (t:=45) U (bg fun b=>?_) (bh fun b=>?_)
 ·refine aY 5 U<|RK G<|aL U<|WS fun _ O=>rP 1 [] mn ?_
  refine RK O<|an<|Q1 hQ U U U ?_
  exact cB (bD fun q=>by have C:=q.sig i x hx; unfold kQ mB at C; omega).symm
 refine e7 2 [] (mc 0 U mn) U<|rS (CL (ig x.Read 0 86400000) (aS) U)<|rP 2 [] mn ?_
 refine RK G<|cK U (bg fun c=>?_) (bh fun c=>?_)
 ·refine WS fun _ P=>rP 1 [] mn ?_
  refine RK P<|an<|Q1 hQ U U U ?_
  exact cB (bD fun q=>by have C:=q.sig i x hx; unfold kQ mB at C; omega).symm
 refine WK N<|ai fun _ B=>cS cf 38 kr<|dP 3 [] mn ?_
 refine j2 (t:=53) U (aQ fun d=>?_) (aP fun d=>?_)
 ·refine lq 35 U<|cy<|RK B<|aX U<|bM<|aB<|KK E<|ag<|rP 3 [] mn ?_
  refine ax ?_
  have W:(vI (((i+1):Nat):Int))=(vI ((i:Int)+1)):=by exact cI I
  refine aI (D ⟨(i+1),⟨I,lL A hx (by unfold kQ mB; (rw [Gk I]; simp only; omega))⟩⟩ _ _ _ U os (cO.cons U<|cO.cons U<|aO U W<|cO.nil _) (aD [1,2,3,4,5,6,7]))
 refine dP 6 [0,1] (mc 0 U (mc 1 U mn)) ?_
 obtain ⟨y,hy⟩:=aG r.ah (i-1) I
 have AG:=bG aK.cells hy
 refine dS (IA (i-1) U (ay 7 U) wv dc I I)<|dS (nP ((i-1)*2) U (ay 7 U) (Nat.mul_pos I dc) e_ U)<|dS (fI (i-1) 0 (vI y.fM) U bX (ay 7 U) AG U dc U)<|dP 2 [] mn ?_
 refine iO (t:=64) U (aP fun e=>?_) (aQ fun e=>?_)
 ·refine lq 24 U<|cy<|RK B<|aL U<|WS fun _ R=>rP 1 [] mn ?_
  refine RK R<|an<|Q1 hQ U U U ?_
  exact cB (bD fun q=>by have C:=q.sig i x hx; unfold kQ mB at C; (rw [re I hy] at C; omega)).symm
 refine l0 6 [0,1] (mc 0 U (mc 1 U mn)) U<|dS (IA (i-1) U (ay 7 U) wv dc I I)<|dS (nP ((i-1)*2) U (ay 7 U) (Nat.mul_pos I dc) e_ U)<|dS (fI (i-1) 0 (vI y.fM) U bX (ay 7 U) AG U dc U)<|dP 2 [] mn ?_
 refine j2 (t:=75) U (aQ fun f=>?_) (aP fun f=>?_)
 ·refine lq 13 U<|cy<|RK B<|aX U<|bM<|aB<|KK E<|ag<|rP 3 [] mn ?_
  refine ax ?_
  have V:(vI (((i+1):Nat):Int))=(vI ((i:Int)+1)):=by exact cI I
  refine aI (D ⟨(i+1),⟨I,lL A hx (by unfold kQ mB; (rw [re I hy]; omega))⟩⟩ _ _ _ U os (cO.cons U<|cO.cons U<|aO U V<|cO.nil _) (aD [1,2,3,4,5,6,7]))
 refine l0 6 [0,1] (mc 0 U (mc 1 U mn)) U<|dS (IA (i-1) U (ay 7 U) wv dc I I)<|dS (nP (((i-1)*2)+1) U (ay 7 U) (Nat.mul_pos I dc) e_ U)<|dS (fI (i-1) 1 (vI y.Read) U bX (ay 7 U) AG U dc U)<|dP 4 [] mn ?_
 refine cy<|RK B<|cK U (aP fun g=>?_) (aQ fun g=>?_)
 ·refine WS fun _ S=>rP 1 [] mn ?_
  refine RK S<|an<|Q1 hQ U U U ?_
  exact cB (bD fun q=>by have C:=q.sig i x hx; unfold kQ mB at C; (rw [re I hy] at C; omega)).symm
 refine bM<|aB<|KK E<|ag<|rP 3 [] mn ?_
 refine ax ?_
 have AF:(vI (((i+1):Nat):Int))=(vI ((i:Int)+1)):=by exact cI I
 refine aI (D ⟨(i+1),⟨I,lL A hx (by unfold kQ mB; (rw [re I hy]; omega))⟩⟩ _ _ _ U os (cO.cons U<|cO.cons U<|aO U AF<|cO.nil _) (aD [1,2,3,4,5,6,7]))
end
section
open Go.RowKit
theorem MJ (l:aW) (kA:OA) (kC:Nat) (az:List RA) (cA:OA) (cC:Nat) (bA:OA) (bC:Nat) (r:cx) (sgA:OA) (sgC:Nat) (hin:ej l az) (hle:du l=0) (hr:eW l r):
 lg Tryz.prog 168 [(vA (bT.cells (kH l kA kC cA cC bA bC))),(vA (ew.cells (lv r sgA sgC)))] [(rd kA l.aM.length 9 (l.aM.map al.cells)),(rd cA l.aj.length 2 (List.zipWith ao.cells l.aj az)),(eH (aU ao.gh l.aj az)),(rd bA l.ae.length 4 (l.ae.map bI.cells)),(rd sgA r.ah.length 2 (r.ah.map aK.cells))] (fun (x:(OA)×Nat×(OA)×Nat×(OA)×Nat)=>(vA (hP.cells (hP.mk (bf.mk x.1 ((cL l l.ae.length).length) x.2.1) (bf.mk x.2.2.1 ((eD l r r.ah.length).length) x.2.2.2.1) (bf.mk x.2.2.2.2.1 ((eO l r r.ah.length).length) x.2.2.2.2.2))))) (fun (x:(OA)×Nat×(OA)×Nat×(OA)×Nat)=>True) (fun (x:(OA)×Nat×(OA)×Nat×(OA)×Nat)=>[(own x.1 x.2.1 3 1 ((cL l l.ae.length).map iC)),(own x.2.2.1 x.2.2.2.1 47 2 ((eD l r r.ah.length).map ab.cells)),(own x.2.2.2.2.1 x.2.2.2.2.2 4 1 ((eO l r r.ah.length).map hZ))]):=by
 have AN:=hin.rK
 have AI:=hin.rD
 have AF:=hin.mE
 have AH:=hin.ry
 obtain ⟨AA,g⟩:=gF hle
 have v:=g.head
 unfold gi at v
 have AK:=hr.len
 have AM:=hr.time
 refine db kr Tryz.func168 U U fun w0 Q hQ hN=>?_
 try dsimp only
 refine WS fun _ p=>fm U fun b2=>fm U fun b3=>AL U NA fun b4=>RK p<|WS fun _ q=>AL U NA fun j=>RK q<|ai fun _ t=>WS fun _ u=>rP 1 [] mn ?_
 refine RK u<|ar<|eP 3 1 ?_
 have A:(0≤l.ae.length):=by exact Nat.zero_le _
 refine bx (ι:={z:Nat×(OA)×Nat // (z.1≤l.ae.length)}) [2,3,4,5] [2,3,4,5,6,7,8,9] U U (fun z=>[(6,(vI (z.1.1:Int)))]) (fun z=>[(own z.1.2.1 z.1.2.2 3 1 ((cL l z.1.1).map iC)),(cq j 232 (hP.cells (hP.mk (bf.mk z.1.2.1 ((cL l z.1.1).length) z.1.2.2) (bf.mk none 0 0) (bf.mk none 0 0))))]) (fun _=>rfl) (fun _=>rfl) (fun z=>l.ae.length-z.1.1) ⟨(0,none,0),A⟩ (aN U) (aD [2,3,4,5,6,7,8,9,0,1]) ?_
 clear A
 rintro ⟨⟨b,a,c⟩,F⟩ J9 o
 try dsimp only at F
 try dsimp only
 refine ai fun _ K=>WS fun _ L=>rP 5 [] (mc 2 U mn) ?_
 refine RK L<|cK U (aP fun k=>?_) (aQ fun k=>?_)
 ·refine WK K<|ai fun _ M=>ar<|dp cf [5,6,8] [1] [0] [0,1,2,3,4,5,6,7] [0,1,2,3,4,5,6,7,8,9] U U U U U<|eS U (FA 0 U e_ U)<|fS U (L1 (vS a ((cL l b).length) c) 9 U bX U U)<|eS U (LW 2 U bX U U)<|eS U (MV U) ?_
  have AJ:=m6 AA g (i:=b) I
  refine eS U (CL (Kz l kA kC az cA cC bA bC (b:Int) hin asm asm I) (aZ [3,4,5,6]) U)<|eS U (FA 0 U e_ U)<|eu U<|gl U fun T14 W=>eX (xs:=[.tmp 21]) (cs:=[(vI (dN l (b:Int).toNat))]) U di lh U U U U (by simp [Value.cells]) U U fun AB=>ax (W _ _ (aD [1,2,3,4,5,6,7,8]) (aD [1,2,3,4,5,6,7,8,9,10]) ?_)
  refine bS U fun T16 X=>?_
  refine cp (es2:=(List.map iC (cL l (b+1)))) (m':=(cL l (b+1)).length) 9 U U U mJ U U sm (a_ (es:=List.map iC [(dN l (b:Int).toNat)]) 0 U U (by simp [bU]) U) (g_ _) (by simp only [dT]; omega) (by simp only [maxLen,dT]; omega) (by rw [uO]; simp) sm U fun H AP=>?_
  try dsimp only
  refine ax (X _ _ (aD [1,2,3,4,5,6,7,8]) ?_)
  refine bS U fun T19 Y=>SW (hP.cells (hP.mk (bf.mk H ((cL l (b+1)).length) AP) (bf.mk none 0 0) (bf.mk none 0 0))) U wq U U<|ax (Y _ _ (aD [1,2,3,4,5,6,7,8]) ?_)
  refine eY U<|aB<|KK M<|ag<|rP 3 [] mn ?_
  refine ax ?_
  have e:(vI (((b+1):Nat):Int))=(vI ((b:Int)+1)):=by exact cI I
  refine aI (o ⟨((b+1),H,AP),(by first|omega|(simp only []; omega))⟩ _ _ _ U os (bY 4<|aO U e<|cO.nil _) (aD [1,2,3,4,5,6,7,8,9,10]))
 refine bj<|aa<|aa<|au<|KK t<|ai fun _ N=>WS fun _ O=>?_
 rw [show cL l b=(cL l l.ae.length) from by rw [show b=l.ae.length by omega]]
 refine rP 1 [] mn ?_
 refine RK O<|ar<|eP 47 2<|eP 4 1 ?_
 have A:(0≤r.ah.length):=by exact Nat.zero_le _
 refine bx (ι:={z:Nat×(OA)×Nat×(OA)×Nat // (z.1≤r.ah.length)}) [2,3,4,5] [2,3,4,5,6,7,8,9,10] U U (fun z=>[(7,(vI (z.1.1:Int)))]) (fun z=>[(own z.1.2.2.2.1 z.1.2.2.2.2 4 1 ((eO l r z.1.1).map hZ)),(own z.1.2.1 z.1.2.2.1 47 2 ((eD l r z.1.1).map ab.cells)),(cq j 232 (hP.cells (hP.mk (bf.mk a ((cL l l.ae.length).length) c) (bf.mk z.1.2.1 ((eD l r z.1.1).length) z.1.2.2.1) (bf.mk z.1.2.2.2.1 ((eO l r z.1.1).length) z.1.2.2.2.2))))]) (fun _=>rfl) (fun _=>rfl) (fun z=>r.ah.length-z.1.1) ⟨(0,none,0,none,0),A⟩ (aN U) (aD [2,3,4,5,6,7,8,9,10,0,1,11]) ?_
 clear A
 rintro ⟨⟨i,ta,tc,sa,sc⟩,G⟩ J23 J
 try dsimp only at G
 try dsimp only
 refine ai fun _ P=>WS fun _ R=>rP 5 [] (mc 1 U mn) ?_
 refine RK R<|bE U (aQ fun m=>?_) (aP fun m=>?_)
 ·refine bj<|aa<|aa<|au<|KK N<|WS fun _ V=>?_
  rw [show eD l r i=(eD l r r.ah.length) from by rw [show i=r.ah.length by omega]]
  rw [show eO l r i=(eO l r r.ah.length) from by rw [show i=r.ah.length by omega]]
  refine rP 1 [] (mc 11 U mn) ?_
  refine fq U Q3 U<|RK V<|an<|LX hQ (a,c,ta,tc,sa,sc) [8,10,9] [0] (mc 0 U mn) U U U U ?_
  trivial
 refine WK P<|ai fun _ S=>ar<|ai fun _ T=>dp cf [10,11] [] [] [0,1,2,3,4,5,6,7,8,9,10,11] [] U U U U U<|eS U (LW 2 U bX U U)<|eS U (FA 2 U e_ U)<|eS U (L1 (vS sgA r.ah.length sgC) 1 U bX U U)<|eS U (MV U) ?_
 obtain ⟨s,hs⟩:=aG r.ah i I
 have y:=bG aK.cells hs
 refine eS U (IA i U (ay 7 U) wv dc I I)<|eS U (l4 i 0 (aK.cells s) U bX (ay 7 U) y U dc U U) ?_
 have w:=(hr.sig i s hs).1
 refine eS U (CL (L5 l kA kC az cA cC bA bC s hin asm (by exact w)) (aZ [3,4,5,6]) U)<|eS U (MV U)<|eS U (EX U)<|eS U (EX U)<|eS U (AG U)<|eu U<|bS U fun T29 Z=>AL U dk fun AC=>ax (Z _ _ (aD [1,2,3,4,5,6,7,8,9,10,11,12]) ?_)
 refine bS U fun T31 d=>fq U cu U<|ax (d _ _ (aD [1,2,3,4,5,6,7,8,9,10,11,12]) ?_)
 refine eY U<|KK T<|WS fun _ AO=>rP 3 [0,1] (mc 12 U (mc 0 U mn)) ?_
 refine eX (xs:=[.tmp 44]) (cs:=(ab.cells (cR l s))) U mM dk U U U U (by simp [Value.cells,ab.bw]) U U fun AD=>?_
 refine cp (es2:=(List.map ab.cells (eD l r (i+1)))) (m':=(eD l r (i+1)).length) 12 U U U K1 U U sm (a_ (es:=List.map ab.cells [(cR l s)]) 0 U U (by simp [ab.bw]) U) (jl _) (by rw [qQ I]; omega) (by rw [qQ I]; simp only [maxLen]; omega) (by rw [DW hs]; simp) sm U fun B C=>?_
 try dsimp only
 refine aY 1 U<|iB (vs:=[(vS B ((eD l r (i+1)).length) C)]) (cs':=(hP.cells (hP.mk (bf.mk a ((cL l l.ae.length).length) c) (bf.mk B ((eD l r (i+1)).length) C) (bf.mk sa ((eO l r i).length) sc)))) (C':=[_,_,_,_,_,_,_,_,_,_,_,_,_,(cq j 232 (hP.cells (hP.mk (bf.mk a ((cL l l.ae.length).length) c) (bf.mk B ((eD l r (i+1)).length) C) (bf.mk sa ((eO l r i).length) sc))))]) 13 U U U QB U U U U U U U<|RK AO<|ag<|rP 3 [] (mc 13 U mn) ?_
 refine eX (xs:=[.tmp 50]) (cs:=[(vB (decide ((cR l s).Lo≤(cR l s).Hi)))]) U uT Uq U U U U (by simp [Value.cells]) U U fun AE=>?_
 refine cp (es2:=(List.map hZ (eO l r (i+1)))) (m':=(eO l r (i+1)).length) 12 U U U K3 U U sm (a_ (es:=List.map hZ [(decide ((cR l s).Lo≤(cR l s).Hi))]) 0 U U (by simp [Af]) U) (Hh _) (by rw [uA I]; omega) (by rw [uA I]; simp only [maxLen]; omega) (by rw [C8 hs]; simp) sm U fun D E=>?_
 try dsimp only
 refine aY 1 U<|iB (vs:=[(vS D ((eO l r (i+1)).length) E)]) (cs':=(hP.cells (hP.mk (bf.mk a ((cL l l.ae.length).length) c) (bf.mk B ((eD l r (i+1)).length) C) (bf.mk D ((eO l r (i+1)).length) E)))) (C':=[_,_,_,_,_,_,_,_,_,_,_,_,_,_,(cq j 232 (hP.cells (hP.mk (bf.mk a ((cL l l.ae.length).length) c) (bf.mk B ((eD l r (i+1)).length) C) (bf.mk D ((eO l r (i+1)).length) E))))]) 14 U U U Qi U U U U U U U<|ax<|aB<|KK S<|ag<|aY 2 U<|rP 1 [] mn ?_
 refine ax ?_
 have f:(vI (((i+1):Nat):Int))=(vI ((i:Int)+1)):=by exact cI I
 refine aI (J ⟨((i+1),B,C,D,E),(by first|omega|(simp only []; omega))⟩ _ _ _ U os (bY 4<|aO U f<|cO.nil _) (aD [3,4,5,6,7,8,9,10,11,12,13,14]))
theorem Il (r:cx) (sgA:OA) (sgC:Nat) (l:aW) (wA:OA) (wC:Nat) (tA:OA) (tC:Nat) (bA:OA) (bC:Nat) (rs:List Int) (rsA:OA) (rsC:Nat) (hle:du l=0) (hr:eW l r) (hn:rs.length≤l.ae.length) (hrs: ∀ x∈rs,0≤x→x<(r.ah.length:Int)):
 lg Tryz.prog 174 [(vA (ew.cells (lv r sgA sgC))),(vA (hP.cells (hP.mk (bf.mk wA ((cL l l.ae.length).length) wC) (bf.mk tA ((eD l r r.ah.length).length) tC) (bf.mk bA ((eO l r r.ah.length).length) bC)))),(vS rsA rs.length rsC)] [(rd sgA r.ah.length 2 (r.ah.map aK.cells)),(rd wA ((cL l l.ae.length).length) 1 ((cL l l.ae.length).map iC)),(rd tA ((eD l r r.ah.length).length) 2 ((eD l r r.ah.length).map ab.cells)),(rd bA ((eO l r r.ah.length).length) 1 ((eO l r r.ah.length).map hZ)),(rd rsA rs.length 1 (rs.map iC))] (fun (x:(OA)×Nat)=>(vS x.1 ((jk l r rs).length) x.2)) (fun (x:(OA)×Nat)=>True) (fun (x:(OA)×Nat)=>[(own x.1 x.2 3 1 ((jk l r rs).map iC))]):=by
 obtain ⟨J,D⟩:=gF hle
 have w:=D.head
 unfold gi at w
 have AH:=hr.len
 have AI:=hr.time
 have AA:=FJ (l:=l) (rs:=rs) ⟨I,I⟩ (fun b hb=>by have:=m6 J D (i:=b) I; omega) hrs
 have AF:=dT (l:=l) (n:=l.ae.length)
 have AJ:=qQ (l:=l) (Nat.le_refl r.ah.length)
 refine db kr Tryz.func174 U U fun w0 Q hQ hN=>?_
 try dsimp only
 refine WS fun _ m=>fm U fun b2=>fm U fun b3=>aY 1 U<|RK m<|WS fun _ p=>rP 2 [] mn ?_
 refine sP (n:=rs.length) (es:=(List.map iC (List.replicate rs.length 0))) U U U mJ I I (by simp only [maxLen]; omega) (by rw [List.map_replicate]; rfl) U fun E=>?_
 try dsimp only
 refine aY 1 U<|RK p<|WS fun _ q=>e7 3 [] (mc 2 U mn) U<|RK q<|ai fun _ t=>WS fun _ u=>rP 4 [] mn ?_
 refine RK u<|ar ?_
 rw [show (own (some ⟨E,0,none⟩) rs.length 3 1 (List.map iC (List.replicate rs.length 0)))=(own (some ⟨E,0,none⟩) rs.length 3 1 ((jE l r rs rs.length).map iC)) from by rw [G5]]
 have B:(rs.length≤rs.length):=by exact Nat.le_refl _
 have v:(vI ((jD l r rs rs.length).2))=(vI r.fK):=by rw [uy]
 refine bx (ι:={z:Nat // (z≤rs.length)}) [2,3,4,7] [1,2,3,4,5,6,7] U U (fun z=>[(8,(vI ((jD l r rs z.1).2))),(9,(vI ((z.1:Int)-1)))]) (fun z=>[(own (some ⟨E,0,none⟩) rs.length 3 1 ((jE l r rs z.1).map iC))]) (fun _=>rfl) (fun _=>rfl) (fun z=>z.1) ⟨rs.length,B⟩ (aO U v<|aN U) (aD [1,2,3,4,5,6,7,0]) ?_
 clear B
 rintro ⟨j,AB⟩ J10 F
 try dsimp only
 have AG:=Gg (l:=l) (r:=r) (rs:=rs) (j:=j) I
 refine ai fun _ L=>WS fun _ M=>rP 2 [] mn ?_
 refine RK M<|bE U (aQ fun g=>?_) (aP fun g=>?_)
 ·refine bj<|aa<|aa<|au<|KK t<|WS fun _ R=>rP 1 [] mn ?_
  rw [show (Value.slice (some ⟨E,0,none⟩) rs.length rs.length)=(Value.slice (some ⟨E,0,none⟩) ((jk l r rs).length) rs.length) from by rw [show (jk l r rs).length=rs.length from rr _ _]]
  rw [show jE l r rs j=jk l r rs from by rw [show j=0 by omega]; exact Dt]
  refine rP 1 [] mn ?_
  refine RK R<|an<|LX hQ ((some ⟨E,0,none⟩),rs.length) [7] [] mn U U U U ?_
  trivial
 refine WK L<|ai fun _ G=>ar<|ai fun _ H=>WS fun _ N=>rP 2 [] mn ?_
 have AE:=AA (rs.length-j) j I
 obtain ⟨x,hx⟩:=aG rs (j-1) I
 have d:=bG iC hx
 refine rS (IA (j-1) U (ay 6 U) di dc I I)<|rS (fI (j-1) 0 (vI x) U bX (ay 6 U) d U dc U)<|rP 1 [] mn ?_
 refine RK N<|bE U (aQ fun A=>?_) (aP fun A=>?_)
 ·refine WK H<|WS fun _ P=>rP 3 [] mn ?_
  obtain ⟨AM,c⟩:=aG (jE l r rs j) (j-1) I
  have hx25m:=bG iC c
  refine rS (IA (j-1) U (ak (n:=rs.length) 7 U sq) di dc I I) ?_
  have V:((jE l r rs j).set (j-1) ((jD l r rs j).2))=(jE l r rs (j-1)):=by (rw [← yX I hx]; congr 1; unfold sY; (rw [if_neg A]; done))
  refine c_ (k:=(j-1)) (o:=0) (vs:=[(vI ((jD l r rs j).2))]) (es':=(List.map iC (jE l r rs (j-1)))) (C':=[_,_,_,_,_,_,_,(own (some ⟨E,0,none⟩) rs.length 3 1 (List.map iC (jE l r rs (j-1))))]) 7 U U U DL U U U U hx25m U dc (by exact (List.map_set (f:=iC) (l:=(jE l r rs j)) (i:=(j-1)) (a:=(jD l r rs j).2)).symm.trans (congrArg _ V)) U<|RK P<|ag<|rP 4 [] (mc 0 U mn) ?_
  obtain ⟨y,hy⟩:=aG (cL l l.ae.length) (j-1) I
  have K:=bG iC hy
  refine rS (IA (j-1) U (ay 3 U) di dc I I)<|rS (fI (j-1) 0 (vI y) U bX (ay 3 U) K U dc U) ?_
  have C:=ue hy
  have AO:=m6 J D (i:=j-1) I
  rw [← C] at AO
  refine aY 2 U<|ax<|aB<|KK G<|ag<|rP 3 [] mn ?_
  refine ax ?_
  have W:(vI ((jD l r rs (j-1)).2))=(vI (((jD l r rs j).2)-y)):=by exact cI (by rw [pk I hx]; simp only; unfold sY; rw [C]; (rw [if_neg A]; done))
  have X:(vI ((((j-1):Nat):Int)-1))=(vI (((j:Int)-1)-1)):=by exact cI I
  refine aI (F ⟨(j-1),(by first|omega|(simp only []; omega))⟩ _ _ _ U os (bY 4<|aO U W<|aO U X<|cO.nil _) (aD [0,1,2,3,4,5,6,7]))
 refine cS cf 12 kr<|dP 5 [] (mc 0 U mn) ?_
 refine dS (IA (j-1) U (ay 6 U) di dc I I)<|dS (fI (j-1) 0 (vI x) U bX (ay 6 U) d U dc U) ?_
 have AK:=hrs x (aR hx) A
 obtain ⟨z,hz⟩:=aG (eD l r r.ah.length) ((x).toNat) I
 have AD:=bG ab.cells hz
 refine dS (IA ((x).toNat) U (ay 4 U) mM dc I I)<|dS (nP ((((x).toNat)*2)+1) U (ay 4 U) (Nat.mul_pos I dc) e_ U) ?_
 obtain ⟨s,hs,e⟩:=Is hz
 have AC:=xP l s
 rw [← e] at AC
 have Y:Lm l r x=z.Hi:=by rw [CS hs,e]
 refine dS (fI ((x).toNat) 1 (vI z.Hi) U bX (ay 4 U) AD U dc U)<|dS (MN U)<|lq 1 U<|cy<|RK H<|WS fun _ O=>rP 3 [] mn ?_
 obtain ⟨AL,Z⟩:=aG (jE l r rs j) (j-1) I
 have hx19m:=bG iC Z
 refine rS (IA (j-1) U (ak (n:=rs.length) 7 U sq) di dc I I) ?_
 have S:((jE l r rs j).set (j-1) (min ((jD l r rs j).2) z.Hi))=(jE l r rs (j-1)):=by (rw [← yX I hx]; congr 1; unfold sY; (rw [if_pos A,Y]; done))
 refine c_ (k:=(j-1)) (o:=0) (vs:=[(vI (min ((jD l r rs j).2) z.Hi))]) (es':=(List.map iC (jE l r rs (j-1)))) (C':=[_,_,_,_,_,_,_,(own (some ⟨E,0,none⟩) rs.length 3 1 (List.map iC (jE l r rs (j-1))))]) 7 U U U DL U U U U hx19m U dc (by exact (List.map_set (f:=iC) (l:=(jE l r rs j)) (i:=(j-1)) (a:=(min ((jD l r rs j).2) z.Hi))).symm.trans (congrArg _ S)) U<|RK O<|ag<|rP 4 [] (mc 0 U mn) ?_
 obtain ⟨y,hy⟩:=aG (cL l l.ae.length) (j-1) I
 have K:=bG iC hy
 refine rS (IA (j-1) U (ay 3 U) di dc I I)<|rS (fI (j-1) 0 (vI y) U bX (ay 3 U) K U dc U) ?_
 have C:=ue hy
 have AO:=m6 J D (i:=j-1) I
 rw [← C] at AO
 refine aY 2 U<|ax<|aB<|KK G<|ag<|rP 3 [] mn ?_
 refine ax ?_
 have T:(vI ((jD l r rs (j-1)).2))=(vI ((min ((jD l r rs j).2) z.Hi)-y)):=by exact cI (by rw [pk I hx]; simp only; unfold sY; rw [C]; (rw [if_pos A,Y]; done))
 have AN:(vI ((((j-1):Nat):Int)-1))=(vI (((j:Int)-1)-1)):=by exact cI I
 refine aI (F ⟨(j-1),(by first|omega|(simp only []; omega))⟩ _ _ _ U os (bY 4<|aO U T<|aO U AN<|cO.nil _) (aD [0,1,2,3,4,5,6,7]))
end
section
open Go.RowKit
theorem GY (l:aW) (kA:OA) (kC:Nat) (az:List RA) (cA:OA) (cC:Nat) (bA:OA) (bC:Nat) (r:cx) (sgA:OA) (sgC:Nat) (vwA:OA) (vwC:Nat) (vtA:OA) (vtC:Nat) (vbA:OA) (vbC k:Nat) (rs:List Int) (rA:OA) (rC:Nat) (fs:List Int) (fA:OA) (fC:Nat) (hin:ej l az) (hle:du l=0) (hr:eW l r) (hk:rs.length+k=l.ae.length) (hfl:fs.length=rs.length) (hst:r.Start≤fQ r.Start fs∧fQ r.Start fs≤r.fK) (hrs: ∀ x∈rs,-1≤x∧x<(r.ah.length:Int)) (hrec: ∀ (k2:Nat) (rs2:List Int) (rA2:OA) (rC2:Nat) (fs2:List Int) (fA2:OA) (fC2:Nat),(k2<k)→(rs2.length+k2=l.ae.length)→(fs2.length=rs2.length)→(r.Start≤fQ r.Start fs2∧fQ r.Start fs2≤r.fK)→(∀ x∈rs2,-1≤x∧x<(r.ah.length:Int))→Gz Tryz.prog 167 [(vA (bT.cells (kH l kA kC cA cC bA bC))),(vA (ew.cells (lv r sgA sgC))),(vA (hP.cells (hP.mk (bf.mk vwA ((cL l l.ae.length).length) vwC) (bf.mk vtA ((eD l r r.ah.length).length) vtC) (bf.mk vbA ((eO l r r.ah.length).length) vbC)))),(vS rA2 rs2.length rC2),(vS fA2 fs2.length fC2)] [(rd kA l.aM.length 9 (l.aM.map al.cells)),(rd cA l.aj.length 2 (List.zipWith ao.cells l.aj az)),(eH (aU ao.gh l.aj az)),(rd bA l.ae.length 4 (l.ae.map bI.cells)),(rd sgA r.ah.length 2 (r.ah.map aK.cells)),(rd vwA ((cL l l.ae.length).length) 1 ((cL l l.ae.length).map iC)),(rd vtA ((eD l r r.ah.length).length) 2 ((eD l r r.ah.length).map ab.cells)),(rd vbA ((eO l r r.ah.length).length) 1 ((eO l r r.ah.length).map hZ))] (bB [own rA2 rC2 3 1 (rs2.map iC),own fA2 fC2 3 1 (fs2.map iC)]) (fun (x:(OA)×Nat×(List kg))=>(vS x.1 ((g4 l r k2 rs2 fs2).length) x.2.1)) (fun (x:(OA)×Nat×(List kg))=>x.2.2.length=(g4 l r k2 rs2 fs2).length) (fun (x:(OA)×Nat×(List kg))=>(bB (aU cZ.owns (g4 l r k2 rs2 fs2) x.2.2++[own x.1 x.2.1 235 3 (List.zipWith cZ.cells (g4 l r k2 rs2 fs2) x.2.2)])))):
 Gz Tryz.prog 167 [(vA (bT.cells (kH l kA kC cA cC bA bC))),(vA (ew.cells (lv r sgA sgC))),(vA (hP.cells (hP.mk (bf.mk vwA ((cL l l.ae.length).length) vwC) (bf.mk vtA ((eD l r r.ah.length).length) vtC) (bf.mk vbA ((eO l r r.ah.length).length) vbC)))),(vS rA rs.length rC),(vS fA fs.length fC)] [(rd kA l.aM.length 9 (l.aM.map al.cells)),(rd cA l.aj.length 2 (List.zipWith ao.cells l.aj az)),(eH (aU ao.gh l.aj az)),(rd bA l.ae.length 4 (l.ae.map bI.cells)),(rd sgA r.ah.length 2 (r.ah.map aK.cells)),(rd vwA ((cL l l.ae.length).length) 1 ((cL l l.ae.length).map iC)),(rd vtA ((eD l r r.ah.length).length) 2 ((eD l r r.ah.length).map ab.cells)),(rd vbA ((eO l r r.ah.length).length) 1 ((eO l r r.ah.length).map hZ))] (bB [own rA rC 3 1 (rs.map iC),own fA fC 3 1 (fs.map iC)]) (fun (x:(OA)×Nat×(List kg))=>(vS x.1 ((g4 l r k rs fs).length) x.2.1)) (fun (x:(OA)×Nat×(List kg))=>x.2.2.length=(g4 l r k rs fs).length) (fun (x:(OA)×Nat×(List kg))=>(bB (aU cZ.owns (g4 l r k rs fs) x.2.2++[own x.1 x.2.1 235 3 (List.zipWith cZ.cells (g4 l r k rs fs) x.2.2)]))):=by
 have Bn:=hin.rK
 have Be:=hin.rD
 have Bc:=hin.mE
 have Bd:=hin.ry
 obtain ⟨BJ,Am⟩:=gF hle
 have BD:=Am.head
 unfold gi at BD
 have AE:=hr.len
 have Bk:=hr.time
 have Bj:=dT (l:=l) (n:=l.ae.length)
 have Bo:=qQ (l:=l) (Nat.le_refl r.ah.length)
 have Bm:=uA (l:=l) (Nat.le_refl r.ah.length)
 have Bp:=tf rs
 refine pj kr Tryz.func167 U U fun w0 Q hQ hN=>?_
 try dsimp only
 refine Bi 0 U U fun wz Sz hz=>?_
 try dsimp only
 refine WS fun _ A7=>fm U fun b2=>fm U fun b3=>fm U fun b4=>aY 1 U<|RK A7<|WS fun _ A8=>aY 1 U<|RK A8<|WS fun _ A9=>aY 4 U<|RK A9<|ai fun _ A_=>WS fun _ BA=>rP 1 [] mn ?_
 refine RK BA<|ar ?_
 have C:(0≤rs.length):=by exact Nat.zero_le _
 have BB:(vI ((cT (rs.take 0)).right))=(vI 0):=by rfl
 refine bx (ι:={z:Nat // (z≤rs.length)}) [3,4,5,6,7,11,12] [0,1,2,3,4,5,6,7,8,9,10,11] U U (fun z=>[(13,(vI ((cT (rs.take z.1)).right))),(14,(vI (z.1:Int)))]) (fun z=>[]) (fun _=>rfl) (fun _=>rfl) (fun z=>rs.length-z.1) ⟨0,C⟩ (aO U BB<|aN U) (aD [0,1,2,3,4,5,6,7,8,9,10,11]) ?_
 clear C
 rintro ⟨i,BF⟩ J10 g
 try dsimp only
 have BH:=tf (rs.take i)
 rw [List.length_take] at BH
 refine ai fun _ AI=>WS fun _ AJ=>rP 3 [] mn ?_
 refine RK AJ<|cK U (aP fun A1=>?_) (aQ fun A1=>?_)
 ·refine WK AI<|ai fun _ m=>ar<|WS fun _ AK=>rP 2 [] mn ?_
  obtain ⟨x,hx⟩:=aG rs i I
  have BK:=bG iC hx
  refine rS (IA i U (show gI _ (rd rA rs.length 1 (rs.map iC)).holds from (pw (c:=rC) (e:=3) 3 U sm sm)) di dc I I)<|rS (fI i 0 (vI x) U bX (show gI _ (rd rA rs.length 1 (rs.map iC)).holds from (pw (c:=rC) (e:=3) 3 U sm sm)) BK U dc U)<|rP 1 [] mn ?_
  refine RK AK<|bE U (aQ fun AC=>?_) (aP fun AC=>?_)
  ·refine bM<|aB<|KK m<|ag<|rP 3 [] mn ?_
   refine ax ?_
   have Aa:(vI ((cT (rs.take (i+1))).right))=(vI ((cT (rs.take i)).right)):=by exact cI (by rw [sM hx]; (rw [if_neg AC]; exact Int.add_zero _))
   have Ab:(vI (((i+1):Nat):Int))=(vI ((i:Int)+1)):=by exact cI I
   refine aI (g ⟨(i+1),(by first|omega|(simp only []; omega))⟩ _ _ _ U os (bY 7<|aO U Aa<|aO U Ab<|cO.nil _) (aD [0,1,2,3,4,5,6,7,8,9,10,11]))
  refine ag<|aY 3 U<|ax<|aB<|KK m<|ag<|rP 3 [] mn ?_
  refine ax ?_
  have AY:(vI ((cT (rs.take (i+1))).right))=(vI (((cT (rs.take i)).right)+1)):=by exact cI (by rw [sM hx]; (rw [if_pos AC]; done))
  have AZ:(vI (((i+1):Nat):Int))=(vI ((i:Int)+1)):=by exact cI I
  refine aI (g ⟨(i+1),(by first|omega|(simp only []; omega))⟩ _ _ _ U os (bY 7<|aO U AY<|aO U AZ<|cO.nil _) (aD [0,1,2,3,4,5,6,7,8,9,10,11]))
 refine bj<|aa<|aa<|au<|KK A_<|ai fun _ AL=>ai fun _ AM=>?_
 rw [show rs.take i=rs from List.take_of_length_le I]
 refine ag<|rP 6 [] (mc 2 U mn) ?_
 refine RK AM<|cK U (aP fun A3=>?_) (aQ fun A3=>?_)
 ·refine WS fun _ AN=>fg 235 3<|rP 1 [] mn ?_
  refine RK AN<|an<|zS (C1:=[(own none 0 235 3 [])]) hz [0] U U U<|Pu (W:=g4 l r k rs fs) ?_
  rw [show (own none 0 235 3 [])=(own none 0 235 3 (List.zipWith cZ.cells (g4 l r k rs fs) [])) from by rw [nm I]; rfl]
  refine LM hQ (none,0,[]) 0 [] mn U (by show List.all _ _=true; rw [List.all_append,pz]; rfl) U ?_ ?_
  ·exact (by rw [nm I]; rfl)
  ·rw [nm I]; rfl
 refine WK AL ?_
 refine nV (ι:={z:(OA)×Nat×(List kg)×(List aw) // (wK l r rs fs (rA,rC) (fA,fC) z.2.2.1 z.2.2.2)}) [3,4,5,6,7,12] [0,1,2,3,4,5,6,7,8,9,10,11] U U (fun z=>[(11,(vS z.1.1 ((gL l r rs fs).length) z.1.2.1))]) (fun z=>[(own z.1.1 z.1.2.1 235 3 (List.zipWith cZ.cells (gL l r rs fs) z.1.2.2.1)),(bB z.1.2.2.2)]) (fun _=>rfl) (fun _=>rfl) ?_ fun K23 o=>?_
 ·rintro ⟨⟨oA,oC,E,LA⟩,H⟩
  try dsimp only at H
  try dsimp only
  have D:=H
  have BE:=D.len
  have Bf:=wY (l:=l) (r:=r) (rs:=rs) (fs:=fs)
  refine ai fun _ V=>WS fun _ AO=>rP 4 [] (mc 2 U mn) ?_
  have Bq:=um (l:=l) (r:=r) (rs:=rs) (fs:=fs) AE (k:=k) I
  refine rP 1 [] mn ?_
  refine RK AO<|cK U (aP fun A4=>?_) (aQ fun A4=>?_)
  ·refine WS fun _ AP=>aY 1 U<|rP 1 [] mn ?_
   refine RK AP<|an ?_
   obtain rfl:k=0:=by omega
   refine DC ?_
   try dsimp only
   refine zS (C1:=[(own oA oC 235 3 (List.zipWith cZ.cells (gL l r rs fs) E)),(bB LA),(bB (aU cZ.owns [] []))]) hz [13,14,0] U U (by simp only [dY,List.all_nil,Bool.and_true,cQ]; exact ⟨U,D.wr,pz _ _⟩) ?_
   refine KW (ra:=(rA,rC)) (fa:=(fA,fC)) (A':=(own oA oC 235 3 (List.zipWith cZ.cells (g4 l r 0 rs fs) E))) D ((List.append_nil _).trans (nu I).symm) (List.append_nil _) (by rw [nu I]) ?_
   refine LM hQ (oA,oC,E) 0 [] mn U (by show List.all _ _=true; rw [List.all_append,pz]; rfl) U ?_ ?_
   ·exact (by (rw [nu I]; rfl))
   ·rw [nu I]; exact BE
  refine WK V<|WS fun _ AQ=>?_
  obtain ⟨B,rfl⟩: ∃ B,k=B+1:=⟨k-1,I⟩
  refine rP 3 [] (mc 1 U mn) ?_
  refine RK AQ ?_
  refine nV (ι:=Unit) [3,4,5,6,7,11,12] [0,1,2,3,4,5,6,7,8,9,10,11,12,13] U U (fun z=>[(15,(vI (fQ r.Start fs)))]) (fun z=>[]) (fun _=>rfl) (fun _=>rfl) ?_ fun K28 p=>?_
  ·intro _
   try dsimp only
   refine WS fun _ Z=>rP 4 [] (mc 0 U mn) ?_
   obtain ⟨yls,Ap⟩:=aG (cL l l.ae.length) (rs.length) I
   have Aq:=bG iC Ap
   refine rS (IA rs.length U (ay 9 U) di dc I I)<|rS (fI rs.length 0 (vI yls) U bX (ay 9 U) Aq U dc U) ?_
   have Bh:=m6 BJ Am (i:=rs.length) I
   rw [ue Ap]
   refine aY 2 U<|RK Z<|ai fun _ AR=>WS fun _ AS=>rP 1 [] mn ?_
   refine RK AS<|ar ?_
   rw [show (gL l r rs fs)=((gL l r rs fs)++(g9 l r B rs fs 0)) from (List.append_nil _).symm]
   rw [show E=E++[] from (List.append_nil _).symm]
   refine kW ?_
   try dsimp only
   have C:(0≤r.ah.length+1)∧(([]:List kg).length=(g9 l r B rs fs 0).length):=by exact ⟨Nat.zero_le _,rfl⟩
   have d:(vI ((0:Int)-1))=(vI (-1)):=by exact cI I
   refine bx (ι:={z:Nat×(OA)×Nat×(List kg) // (z.1≤r.ah.length+1)∧(z.2.2.2.length=(g9 l r B rs fs z.1).length)}) [3,4,5,6,7,12,15] [1,2,3,4,5,6,7,8,9,10,11,12,14] U U (fun z=>[(11,(vS z.1.2.1 (((gL l r rs fs)++(g9 l r B rs fs z.1.1)).length) z.1.2.2.1)),(16,(vI ((z.1.1:Int)-1)))]) (fun z=>[(bB (aU cZ.owns (g9 l r B rs fs z.1.1) z.1.2.2.2)),(own z.1.2.1 z.1.2.2.1 235 3 (List.zipWith cZ.cells ((gL l r rs fs)++(g9 l r B rs fs z.1.1)) (E++z.1.2.2.2)))]) (fun _=>rfl) (fun _=>rfl) (fun z=>r.ah.length+1-z.1.1) ⟨(0,oA,oC,([]:List kg)),C⟩ (cO.cons U<|aO U d<|cO.nil _) (aD [1,2,3,4,5,6,7,8,9,10,11,12,14,0,13]) ?_
   clear C
   rintro ⟨⟨j,M,N,azW⟩,⟨f,A⟩⟩ J33 O
   try dsimp only at f A
   try dsimp only
   have BI:=Ic (l:=l) (r:=r) (k:=B) (j:=j) (rs:=rs) (fs:=fs) AE I I
   refine ai fun _ AT=>WS fun _ AU=>rP 5 [] (mc 1 U mn) ?_
   refine RK AU<|bE U (aQ fun A2=>?_) (aP fun A2=>?_)
   ·refine bj<|aa<|aa<|au<|KK AR<|WS fun _ AX=>aY 1 U<|rP 1 [] mn ?_
    refine RK AX<|an ?_
    refine zS (C1:=[(own M N 235 3 (List.zipWith cZ.cells ((gL l r rs fs)++(g9 l r B rs fs j)) (E++azW))),(bB LA),(bB (aU cZ.owns (g9 l r B rs fs j) azW))]) hz [14,12,13] U U (by simp only [dY,List.all_nil,Bool.and_true,cQ]; exact ⟨U,D.wr,pz _ _⟩) ?_
    refine KW (ra:=(rA,rC)) (fa:=(fA,fC)) (W:=g4 l r (B+1) rs fs) (A':=(own M N 235 3 (List.zipWith cZ.cells (g4 l r (B+1) rs fs) (E++azW)))) D (by rw [np I,qV,show r.ah.length+1=j by omega]) U (by rw [np I,qV,show r.ah.length+1=j by omega]) ?_
    refine LM hQ (M,N,(E++azW)) 0 [] mn U (by show List.all _ _=true; rw [List.all_append,pz]; rfl) U ?_ ?_
    ·exact (by (rw [np I,qV,show r.ah.length+1=j by omega]; rfl))
    ·rw [np I,qV,show r.ah.length+1=j by omega]; simp only [List.length_append]; omega
   refine WK AT<|ai fun _ P=>ar<|ai fun _ AV=>cS cf 5 kr<|dP 5 [] (mc 1 U mn) ?_
   refine cy<|RK AV ?_
   refine nV (ι:={z:Int×Int // ((z.1≤z.2→oI l r rs.length (fQ r.Start fs+dN l rs.length) ((j:Int)-1)=some z.1)∧(¬ z.1≤z.2→oI l r rs.length (fQ r.Start fs+dN l rs.length) ((j:Int)-1)=none))∧(r.Start≤z.1∧z.2≤r.fK)}) [3,4,5,6,7,11,12,15,16] [0,1,2,3,4,5,6,7,8,9,10,11,12,13,14] U U (fun z=>[(17,(vI z.1.1)),(18,(vI z.1.2))]) (fun z=>[]) (fun _=>rfl) (fun _=>rfl) ?_ fun K39 u=>?_
   ·rintro ⟨⟨tt,ee⟩,⟨BP,J⟩⟩
    try dsimp only at BP J
    try dsimp only
    have Al:=BP
    have Bg:=J
    refine WS fun _ a=>rP 3 [] mn ?_
    refine RK a<|bE U (aQ fun BO=>?_) (aP fun BO=>?_)
    ·refine bM<|aB<|KK P<|ag<|rP 3 [] mn ?_
     refine ax ?_
     have L:(g9 l r B rs fs (j+1))=(g9 l r B rs fs j):=by exact qj (Al.2 BO)
     rw [← L]
     have Aj:(vI ((((j+1):Nat):Int)-1))=(vI (((j:Int)-1)+1)):=by exact cI I
     refine aI (O ⟨((j+1),M,N,azW),⟨I,by dsimp only; (rw [L]; exact A)⟩⟩ _ _ _ U os (bY 8<|aO U Aj<|cO.nil _) (aD [0,1,2,3,4,5,6,7,8,9,10,11,12,13,14]))
    refine Rk (L':=[(3,(vS rA rs.length rC)),(4,(vS fA fs.length fC)),(5,(vP b2)),(6,(vP b3)),(7,(vP b4)),(11,(vS M (((gL l r rs fs)++(g9 l r B rs fs j)).length) N)),(12,(vI (rs.length:Int))),(15,(vI ((fQ r.Start fs)+(dN l rs.length)))),(16,(vI ((j:Int)-1))),(17,(vI tt)),(18,(vI ee)),(123,(vI tt)),(124,(vI ee)),(125,(vB (decide (tt≤ee))))]) rfl<|pD cf [0,1,2,3,5,7,11,13] [4,6,8,9,10,12,14,15,16,17,18] [false,false,false,false,false,false,false,false] [] [(cq b4 232 (hP.cells (hP.mk (bf.mk vwA ((cL l l.ae.length).length) vwC) (bf.mk vtA ((eD l r r.ah.length).length) vtC) (bf.mk vbA ((eO l r r.ah.length).length) vbC)))),(cq b3 74 (ew.cells (lv r sgA sgC))),(cq b2 28 (bT.cells (kH l kA kC cA cC bA bC))),(bB [own rA rC 3 1 (rs.map iC),own fA fC 3 1 (fs.map iC)]).ro,(rd kA l.aM.length 9 (l.aM.map al.cells)).ro,(rd cA l.aj.length 2 (List.zipWith ao.cells l.aj az)).ro,(eH (aU ao.gh l.aj az)).ro,(rd bA l.ae.length 4 (l.ae.map bI.cells)).ro,(rd sgA r.ah.length 2 (r.ah.map aK.cells)).ro,(rd vwA ((cL l l.ae.length).length) 1 ((cL l l.ae.length).map iC)).ro,(rd vtA ((eD l r r.ah.length).length) 2 ((eD l r r.ah.length).map ab.cells)).ro,(rd vbA ((eO l r r.ah.length).length) 1 ((eO l r r.ah.length).map hZ)).ro,(bB LA),(bB (aU cZ.owns (g9 l r B rs fs j) azW))] [] kr (aD [0,1,2,3,4,5,6,7,8,9,10,11,12,13]) (aD [])<|eS rfl (MV rfl)<|eS rfl (LW 2 rfl bX rfl rfl)<|eS rfl (LW 1 rfl bX rfl rfl)<|eS rfl (LW 0 rfl bX rfl rfl)<|eS rfl (MV rfl)<|eS rfl (MV rfl)<|eS rfl (MV rfl)<|eS rfl (MV rfl)<|eu rfl<|ML [.take 4,.op 6,.take 8,.op 9,.take 10,.op 12,.take 14,.op 15,.op 16,.op 17,.op 18] [(133,(vI ((j:Int)-1))),(139,(vI tt))] (fun i=>match i with |4=>130|8=>134|10=>136|14=>140|_=>0) (fun i b=>match i with |4=> .slice (some ⟨b,0,none⟩) 0 0|8=> .slice (some ⟨b,0,none⟩) 1 1|10=> .slice (some ⟨b,0,none⟩) 0 0|14=> .slice (some ⟨b,0,none⟩) 1 1|_=>undef) (fun i b=>match i with |4=>cq b 3 []|8=>cq b 3 [(vI ((j:Int)-1))]|10=>cq b 3 []|14=>cq b 3 [(vI tt)]|_=>cq b 0 []) rfl rfl rfl kr rfl rfl (aD [0,1,2,3,4,5,6,7,8,9,10,11,12,13]) (vD (ID rfl di rfl rfl (fun _=>rfl) fun _=>rfl)<|vX<|vD (No (xs:=[.tmp 133]) (cs:=[(vI ((j:Int)-1))]) rfl di lh rfl rfl rfl rfl (by simp [Value.cells]) rfl rfl rfl (fun _=>rfl) fun _=>rfl)<|vX<|vD (ID rfl di rfl rfl (fun _=>rfl) fun _=>rfl)<|vX<|vD (No (xs:=[.tmp 139]) (cs:=[(vI tt)]) rfl di lh rfl rfl rfl rfl (by simp [Value.cells]) rfl rfl rfl (fun _=>rfl) fun _=>rfl)<|vX<|vX<|vX<|vX<|OH) ?_
    intro Aw
    try dsimp only
    refine wV U fun Y X K hT=>eK (es:=(List.map iC [])) (C':=[own (some ⟨Aw,0,none⟩) 0 3 1 (List.map iC []),_,_,_,_,_,_,_,_,_,_,_,_,_,_,_]++X) 0 U sm U (by simp [maxLen]) U ?_
    refine cp (es2:=(List.map iC rs)) (m':=rs.length) 0 U U U mJ U U sm (show gI _ (rd rA rs.length 1 (rs.map iC)).holds from (pw (c:=rC) (e:=3) 4 U sm sm)) (g_ _) (by first|omega|(simp; done)|(simp; omega)) (by (simp only [maxLen]; omega)) sm sm U fun BV Ba=>?_
    try dsimp only
    refine sf hT 24 16 U U (fun w hs=>St.kz [1,2,3,4,5,6,7,8,9,10,11,12,13,14] U U hs) U U ?_
    try dsimp only [List.take]
    intro BY
    try dsimp only
    refine wV U fun Y X K hT=>?_
    refine cp (es2:=(List.map iC (rs++[(j:Int)-1]))) (m':=(rs++[(j:Int)-1]).length) 1 U U U mJ U U sm (a_ (es:=List.map iC [((j:Int)-1)]) 0 U U (by simp [bU]) U) (g_ _) (by first|omega|(simp; done)|(simp; omega)) (by (simp only [maxLen]; omega)) sm sm U fun At Ay=>?_
    try dsimp only
    refine sf hT 26 17 U U (fun w hs=>St.kz [2,3,4,5,6,7,8,9,10,11,12,13,14,15] U U hs) U U ?_
    try dsimp only [List.take]
    intro Ax
    try dsimp only
    refine wV U fun Y X K hT=>eK (es:=(List.map iC [])) (C':=[own (some ⟨Ax,0,none⟩) 0 3 1 (List.map iC []),_,_,_,_,_,_,_,_,_,_,_,_,_,_,_,_,_]++X) 0 U sm U (by simp [maxLen]) U ?_
    refine cp (es2:=(List.map iC fs)) (m':=fs.length) 0 U U U mJ U U sm (show gI _ (rd fA fs.length 1 (fs.map iC)).holds from (pw (c:=fC) (e:=3) 6 U sm sm)) (g_ _) (by first|omega|(simp; done)|(simp; omega)) (by (simp only [maxLen]; omega)) sm sm U fun BW Bb=>?_
    try dsimp only
    refine sf hT 28 18 U U (fun w hs=>St.kz [3,4,5,6,7,8,9,10,11,12,13,14,15,16] U U hs) U U ?_
    try dsimp only [List.take]
    intro BZ
    try dsimp only
    refine wV U fun Y X K hT=>?_
    refine cp (es2:=(List.map iC (fs++[tt]))) (m':=(fs++[tt]).length) 1 U U U mJ U U sm (a_ (es:=List.map iC [tt]) 0 U U (by simp [bU]) U) (g_ _) (by first|omega|(simp; done)|(simp; omega)) (by (simp only [maxLen]; omega)) sm sm U fun Au Az=>?_
    try dsimp only
    refine sf hT 30 19 U U (fun w hs=>St.kz [4,5,6,7,8,9,10,11,12,13,14,15,16,17] U U hs) U U ?_
    try dsimp only [List.take]
    refine wV U fun Y X K hT=>?_
    have R:=Al.1 BO
    refine wm<|q6 4 U ?_
    try dsimp only [List.eraseIdx]
    refine Ac U<|q6 2 U ?_
    try dsimp only [List.eraseIdx]
    refine Ac U ?_
    try dsimp only
    refine j8 0 rfl rfl rfl rfl (hrec B (rs++[(j:Int)-1]) At Ay (fs++[tt]) Au Az I (by simp only [List.length_append,List.length_singleton]; omega) (by simp only [List.length_append,List.length_singleton]; omega) (by rw [mU]; omega) (by intro x hx; rcases List.mem_append.1 hx with hx|hx; exact hrs x hx; rw [List.mem_singleton.1 hx]; omega)) rfl (dM 7 rfl rfl (dA (bO _)) (dM 8 rfl rfl (dA (bO _)) (dM 9 rfl rfl (dA (bO _)) (dM 10 rfl rfl (dA (bO _)) (dM 11 rfl rfl (dA (bO _)) (dM 12 rfl rfl (dA (bO _)) (dM 13 rfl rfl (dA (bO _)) (dM 14 rfl rfl (dA (bO _)) lG)))))))) rfl (fun BN AF=>?_)
    obtain ⟨BT,BU,y⟩:=BN
    try dsimp only
    dsimp only at AF
    refine sf hT 31 18 U U (fun w hs=>St.kz [3,4,5,6,7,8,9,10,11,12,13,14,15,16] U U hs) U U ?_
    try dsimp only [List.take]
    refine wV U fun Y X K hT=>q6 0 U ?_
    try dsimp only [List.eraseIdx]
    refine yQ ?_
    have Br:=um (l:=l) (r:=r) (k:=B) (rs:=(rs++[(j:Int)-1])) (fs:=(fs++[tt])) AE I
    refine cp (es2:=(List.zipWith cZ.cells ((gL l r rs fs)++(g9 l r B rs fs (j+1))) (E++(azW++y)))) (m':=((gL l r rs fs)++(g9 l r B rs fs (j+1))).length) 18 U U U NU U U (sT (by simp only [List.length_append]; omega)).symm (ak (n:=(g4 l r B (rs++[(j:Int)-1]) (fs++[tt])).length) 0 U (sT AF)) (BR _ _) (by simp only [List.length_append]; omega) (by simp only [List.length_append,maxLen]; omega) (by rw [m0 R,← List.append_assoc,← List.append_assoc]; exact (IQ (by simp only [List.length_append]; omega)).symm) (sT (by rw [m0 R]; simp only [List.length_append]; omega)) U fun Av A0=>?_
    try dsimp only
    refine sf hT 32 19 U U (fun w hs=>St.kz [4,5,6,7,8,9,10,11,12,13,14,15,16,17] U U hs) U U ?_
    try dsimp only [List.take]
    refine wV U fun Y X K hT=>rS (AG U)<|sf hT 33 19 U U (fun w hs=>St.kz [4,5,6,7,8,9,10,11,12,13,14,15,16,17] U U hs) U U ?_
    try dsimp only [List.take]
    refine aB<|KK P<|ag<|rP 3 [] mn ?_
    refine ax<|FI 1 U ?_
    try dsimp only [List.eraseIdx]
    refine FI 17 U ?_
    try dsimp only [List.eraseIdx]
    refine HU A ?_
    rw [← m0 R]
    try dsimp only
    have Ai:(vI ((((j+1):Nat):Int)-1))=(vI (((j:Int)-1)+1)):=by exact cI I
    refine aI (O ⟨((j+1),Av,A0,(azW++y)),⟨I,by dsimp only; (rw [m0 R,List.length_append,List.length_append,A,AF])⟩⟩ _ _ _ U os (bY 8<|aO U Ai<|cO.nil _) (aD [4,5,6,7,8,9,10,11,12,13,14,15,16,0,17]))
   refine WS fun _ a=>rP 2 [] mn ?_
   refine RK a<|bE U (aQ fun A6=>?_) (aP fun A6=>?_)
   ·refine bM ?_
    refine aI (jF (aN U) (aD [0,1,2,3,4,5,6,7,8,9,10,11,12,13,14]) (u ⟨(((fQ r.Start fs)+(dN l rs.length)),r.fK),⟨by exact Ka I,I⟩⟩))
   refine ai fun _ AW=>WS fun _ v=>rP 3 [] (mc 1 U mn) ?_
   obtain ⟨s,hs⟩:=aG r.ah ((((j:Int)-1)).toNat) I
   have BG:=bG aK.cells hs
   refine rS (IA ((((j:Int)-1)).toNat) U (ay 8 U) wv dc I I)<|rS (nP (((((j:Int)-1)).toNat)*2) U (ay 8 U) (Nat.mul_pos I dc) e_ U)<|rS (fI ((((j:Int)-1)).toNat) 0 (vI s.fM) U bX (ay 8 U) BG U dc U) ?_
   have Bl:=(hr.sig _ s hs).1
   refine rP 3 [] mn ?_
   refine cE (t:=99) U (bg fun AH=>?_) (bh fun AH=>?_)
   ·refine aY 7 U<|RK v<|aL U<|bj<|aa<|aa<|au<|KK P<|ag<|rP 3 [] mn ?_
    refine ax ?_
    have L:(g9 l r B rs fs (j+1))=(g9 l r B rs fs j):=by exact qj (xy I hs (fun q=>AH I))
    rw [← L]
    have Ag:(vI ((((j+1):Nat):Int)-1))=(vI (((j:Int)-1)+1)):=by exact cI I
    refine aI (O ⟨((j+1),M,N,azW),⟨I,by dsimp only; (rw [L]; exact A)⟩⟩ _ _ _ U os (bY 8<|aO U Ag<|cO.nil _) (aD [0,1,2,3,4,5,6,7,8,9,10,11,12,13,14]))
   refine rP 3 [] (mc 0 U mn) ?_
   obtain ⟨bs,AD⟩:=aG (eO l r r.ah.length) ((((j:Int)-1)).toNat) I
   have Ak:=bG hZ AD
   refine rS (IA ((((j:Int)-1)).toNat) U (ay 11 U) uT dc I I)<|rS (fI ((((j:Int)-1)).toNat) 0 (vB bs) U bX (ay 11 U) Ak U dc U)<|rP 2 [] mn ?_
   refine RK v<|cK U (fun F=>?_) (fun F=>?_)
   ·rw [Bool.not_eq_true'] at F
    refine bj<|aa<|aa<|au<|KK P<|ag<|rP 3 [] mn ?_
    refine ax ?_
    have L:(g9 l r B rs fs (j+1))=(g9 l r B rs fs j):=by exact qj (xy I hs (fun q=>by rw [(CA hs AD).2 q.2] at F; cases F))
    rw [← L]
    have Ah:(vI ((((j+1):Nat):Int)-1))=(vI (((j:Int)-1)+1)):=by exact cI I
    refine aI (O ⟨((j+1),M,N,azW),⟨I,by dsimp only; (rw [L]; exact A)⟩⟩ _ _ _ U os (bY 8<|aO U Ah<|cO.nil _) (aD [0,1,2,3,4,5,6,7,8,9,10,11,12,13,14]))
   rw [Bool.not_eq_false'] at F
   refine WK AW<|cS cf 18 kr<|dP 4 [] (mc 0 U mn) ?_
   obtain ⟨z,hz⟩:=aG (eD l r r.ah.length) ((((j:Int)-1)).toNat) I
   have Ar:=bG ab.cells hz
   refine dS (IA ((((j:Int)-1)).toNat) U (ay 10 U) mM dc I I)<|dS (nP (((((j:Int)-1)).toNat)*2) U (ay 10 U) (Nat.mul_pos I dc) e_ U) ?_
   have As:=Iw hs hz
   have BL:=xP l s
   rw [← As] at BL
   have BC:(cR l s).Lo≤(cR l s).Hi:=(CA hs AD).1 F
   refine dS (fI ((((j:Int)-1)).toNat) 0 (vI z.Lo) U bX (ay 10 U) Ar U dc U)<|dS (MX U)<|l0 4 [] (mc 0 U mn) U<|dS (IA ((((j:Int)-1)).toNat) U (ay 10 U) mM dc I I)<|dS (nP ((((((j:Int)-1)).toNat)*2)+1) U (ay 10 U) (Nat.mul_pos I dc) e_ U)<|dS (fI ((((j:Int)-1)).toNat) 1 (vI z.Hi) U bX (ay 10 U) Ar U dc U)<|dS (MN U)<|dP 2 [] mn ?_
   refine cy<|ax ?_
   refine aI (jF (aN U) (aD [0,1,2,3,4,5,6,7,8,9,10,11,12,13,14]) (u ⟨((max ((fQ r.Start fs)+(dN l rs.length)) z.Lo),(min r.fK z.Hi)),⟨by (rw [As]; exact Kr I hs I BC),I⟩⟩))
  refine WS fun _ Z=>rP 2 [] mn ?_
  refine RK Z<|bE U (aQ fun A5=>?_) (aP fun A5=>?_)
  ·refine bM ?_
   have Ae:(vI (fQ r.Start fs))=(vI r.Start):=by exact cI (by have e:fs=[]:=jH I; rw [e]; rfl)
   refine aI (jF (bY 7<|aO U Ae<|cO.nil _) (aD [0,1,2,3,4,5,6,7,8,9,10,11,12,13]) (p ()))
  refine ag<|rP 3 [] mn ?_
  obtain ⟨xf,An⟩:=aG fs (rs.length-1) I
  have Ao:=bG iC An
  refine rS (IA (rs.length-1) U (show gI _ (rd fA fs.length 1 (fs.map iC)).holds from (pw (c:=fC) (e:=3) 3 U sm sm)) di dc I I)<|rS (fI (rs.length-1) 0 (vI xf) U bX (show gI _ (rd fA fs.length 1 (fs.map iC)).holds from (pw (c:=fC) (e:=3) 3 U sm sm)) Ao U dc U)<|rP 1 [] mn ?_
  refine ax ?_
  have Ad:(vI (fQ r.Start fs))=(vI xf):=by exact cI (Ch _ _ _ (by rw [hfl]; exact An))
  refine aI (jF (bY 7<|aO U Ad<|cO.nil _) (aD [0,1,2,3,4,5,6,7,8,9,10,11,12,13]) (p ()))
 refine WS fun _ V=>rP 8 [0,1] (mc 1 U (mc 2 U mn)) ?_
 refine RK V<|bE U (aQ fun G=>?_) (aP fun G=>?_)
 ·refine bM<|DC<|Hv 235 3 ?_
  rw [show (own none 0 235 3 [])=(own none 0 235 3 (List.zipWith cZ.cells (gL l r rs fs) [])) from by rw [xQ G]; rfl]
  have Af:(vS none ((gL l r rs fs).length) 0)=(vS none 0 0):=by first|rfl|(rw [xQ G]; rfl)
  refine aI (jF (bY 6<|aO U Af<|cO.nil _) (aD [2,3,4,5,6,7,8,9,10,11,12,13,0,1]) (o ⟨(none,0,[],[]),(by exact .inr ⟨G,U,U⟩)⟩))
 refine ag<|rP 6 [0,1] (mc 1 U (mc 0 U mn)) ?_
 refine cX (Il r sgA sgC l vwA vwC vtA vtC vbA vbC rs rA rC hle hr I (by exact fun x hx h0=>(hrs x hx).2)) (nt [8,9,10,11]<|aC (show gI _ (rd rA rs.length 1 (rs.map iC)).holds from (pw (c:=rC) (e:=3) 3 U sm sm))<|aS) U fun BM BS=>?_
 obtain ⟨S,T⟩:=BM
 try dsimp only
 refine rS (SX (bq (xs:=[(0,.tmp 48),(1,.tmp 49),(2,.tmp 53)]) (cs:=(vV.cells (vV.mk (bf.mk rA rs.length rC) (bf.mk fA fs.length fC) (bf.mk S ((jk l r rs).length) T)))) U U (br Rw U)) U U)<|eX (xs:=[.tmp 54]) (cs:=(vV.cells (vV.mk (bf.mk rA rs.length rC) (bf.mk fA fs.length fC) (bf.mk S ((jk l r rs).length) T)))) U Ey Sq U U U U (by simp [Value.cells,vV.bw]) U U fun BX=>fg 235 3 ?_
 refine cp (es2:=(List.zipWith cZ.cells (gL l r rs fs) ([((rA,rC),(fA,fC),(S,T))]))) (m':=(gL l r rs fs).length) 0 rfl rfl rfl NU rfl rfl rfl (a_ (es:=List.zipWith cZ.cells [(cZ.mk rs fs (jk l r rs))] [((rA,rC),(fA,fC),(S,T))]) 1 rfl rfl (by intro e he; simp at he; subst he; rfl) rfl) (BR _ _) dc dc (by rw [yE G]; rfl) (by rw [yE G]; rfl) rfl fun AA AB=>?_
 try dsimp only
 refine wm<|RX 0 3 U U U ?_
 try dsimp only
 refine rP 1 [] mn ?_
 refine ax ?_
 have d:(vS AA ((gL l r rs fs).length) AB)=(vS AA ((gL l r rs fs).length) AB):=by first|rfl|(rw [xQ G]; rfl)
 refine aI (jF (bY 6<|aO U d<|cO.nil _) (aD [3,4,5,6,7,8,9,10,11,12,13,14,1,0]) (o ⟨(AA,AB,[((rA,rC),(fA,fC),(S,T))],[(own S T 3 1 ((jk l r rs).map iC))]),(by exact .inl ⟨G,_,U,U⟩)⟩))
theorem Pk (l:aW) (kA:OA) (kC:Nat) (az:List RA) (cA:OA) (cC:Nat) (bA:OA) (bC:Nat) (r:cx) (sgA:OA) (sgC:Nat) (vwA:OA) (vwC:Nat) (vtA:OA) (vtC:Nat) (vbA:OA) (vbC k:Nat) (rs:List Int) (rA:OA) (rC:Nat) (fs:List Int) (fA:OA) (fC:Nat) (hin:ej l az) (hle:du l=0) (hr:eW l r) (hk:rs.length+k=l.ae.length) (hfl:fs.length=rs.length) (hst:r.Start≤fQ r.Start fs∧fQ r.Start fs≤r.fK) (hrs: ∀ x∈rs,-1≤x∧x<(r.ah.length:Int)):
 Gz Tryz.prog 167 [(vA (bT.cells (kH l kA kC cA cC bA bC))),(vA (ew.cells (lv r sgA sgC))),(vA (hP.cells (hP.mk (bf.mk vwA ((cL l l.ae.length).length) vwC) (bf.mk vtA ((eD l r r.ah.length).length) vtC) (bf.mk vbA ((eO l r r.ah.length).length) vbC)))),(vS rA rs.length rC),(vS fA fs.length fC)] [(rd kA l.aM.length 9 (l.aM.map al.cells)),(rd cA l.aj.length 2 (List.zipWith ao.cells l.aj az)),(eH (aU ao.gh l.aj az)),(rd bA l.ae.length 4 (l.ae.map bI.cells)),(rd sgA r.ah.length 2 (r.ah.map aK.cells)),(rd vwA ((cL l l.ae.length).length) 1 ((cL l l.ae.length).map iC)),(rd vtA ((eD l r r.ah.length).length) 2 ((eD l r r.ah.length).map ab.cells)),(rd vbA ((eO l r r.ah.length).length) 1 ((eO l r r.ah.length).map hZ))] (bB [own rA rC 3 1 (rs.map iC),own fA fC 3 1 (fs.map iC)]) (fun (x:(OA)×Nat×(List kg))=>(vS x.1 ((g4 l r k rs fs).length) x.2.1)) (fun (x:(OA)×Nat×(List kg))=>x.2.2.length=(g4 l r k rs fs).length) (fun (x:(OA)×Nat×(List kg))=>(bB (aU cZ.owns (g4 l r k rs fs) x.2.2++[own x.1 x.2.1 235 3 (List.zipWith cZ.cells (g4 l r k rs fs) x.2.2)]))):=by
 induction k using Nat.strongRecOn generalizing rs rA rC fs fA fC with
 |ind k ih=>exact GY l kA kC az cA cC bA bC r sgA sgC vwA vwC vtA vtC vbA vbC k rs rA rC fs fA fC hin hle hr hk hfl hst hrs (fun L F D E C A B G H AA J K=>ih L G F D E C A B H AA J K)
end
section
open Go.RowKit
theorem MF (l:aW) (kA:OA) (kC:Nat) (az:List RA) (cA:OA) (cC:Nat) (bA:OA) (bC:Nat) (r:cx) (sgA:OA) (sgC:Nat) (hin:ej l az) (hsl:r.ah.length≤1000000):
 lg Tryz.prog 150 [(vA (bT.cells (kH l kA kC cA cC bA bC))),(vA (ew.cells (lv r sgA sgC)))] [(rd kA l.aM.length 9 (l.aM.map al.cells)),(rd cA l.aj.length 2 (List.zipWith ao.cells l.aj az)),(eH (aU ao.gh l.aj az)),(rd bA l.ae.length 4 (l.ae.map bI.cells)),(rd sgA r.ah.length 2 (r.ah.map aK.cells))] (fun (x:Bool×Int×(OA)×Nat×(List kg))=>bif x.1 then (vT [(vS x.2.2.1 ((qb l r).length) x.2.2.2.1),(vI 0)]) else (vT [(vS none 0 0),(vI x.2.1)])) (fun (x:Bool×Int×(OA)×Nat×(List kg))=>(x.1=true→(eB l r 0=0∧x.2.2.2.2.length=(qb l r).length))∧(x.1=false→(x.2.1=eB l r 0∧ ¬ eB l r 0=0))) (fun (x:Bool×Int×(OA)×Nat×(List kg))=>bif x.1 then [(own x.2.2.1 x.2.2.2.1 235 3 (List.zipWith cZ.cells (qb l r) x.2.2.2.2)),(bB (aU cZ.owns (qb l r) x.2.2.2.2))] else []):=by
 have m:=hin.rK
 have k:=hin.rD
 have i:=hin.mE
 have j:=hin.ry
 refine db kr Tryz.func150 U U fun s Q hQ hN=>?_
 try dsimp only
 refine WS fun _ X=>fm U fun o=>fm U fun p=>aY 2 U<|RK X<|ai fun _ Y=>WS fun _ Z=>e7 1 [] (mc 1 U mn) U<|rS (CL (An l kA kC az cA cC bA bC hin) (aZ [2,3,4,5]) U)<|aY 1 U<|RK Z<|WS fun _ a=>rP 2 [] mn ?_
 refine RK a<|cK U (bg fun A=>?_) (bh fun A=>?_)
 ·refine WS fun _ b=>rP 3 [] mn ?_
  refine RK b<|an<|LX hQ (false,(du l),none,0,[]) [] [] mn U (by rfl) U U ?_
  exact vj<|HE (nS (r:=r) (me:=0) A) A
 refine WK Y<|ai fun _ c=>WS fun _ d=>e7 2 [0,1] (mc 1 U (mc 0 U mn)) U<|rS (CL (LQ l kA kC az cA cC bA bC r sgA sgC hin (by exact hsl)) (aZ [2,3,4,5,6]) U)<|rP 1 [] mn ?_
 refine RK d<|cK U (bg fun B=>?_) (bh fun B=>?_)
 ·refine WS fun _ D=>rP 2 [] mn ?_
  refine RK D<|an<|LX hQ (false,51,none,0,[]) [] [] mn U (by rfl) U U ?_
  exact vj<|od (iY (me:=0) A B)
 refine WK c<|ai fun _ E=>dp cf [4,5,6] [] [] [0,1,2,3,4,5,6] [] U U U U U<|eS U (LW 1 U bX U U)<|eS U (LW 0 U bX U U)<|eS U (LW 1 U bX U U)<|eS U (LW 0 U bX U U)<|eu U<|bS U fun T12 J=>cX (MJ l kA kC az cA cC bA bC r sgA sgC hin (by exact A) (by exact B)) (aZ [2,3,4,5,6]) U fun e g=>?_
 obtain ⟨V,W,T,AA,R,S⟩:=e
 try dsimp only
 refine ax (J _ _ (aD [3,4,5,6,7,8,9]) ?_)
 refine bS U fun T21 K=>fg 3 1<|fg 3 1<|wm<|q6 1 U ?_
 try dsimp only [List.eraseIdx]
 refine Ac U<|q6 1 U ?_
 try dsimp only [List.eraseIdx]
 refine Ac U ?_
 try dsimp only
 refine j8 0 rfl rfl rfl rfl (Pk l kA kC az cA cC bA bC r sgA sgC V W T AA R S l.ae.length ([]:List Int) none 0 ([]:List Int) none 0 hin (by exact A) (by exact B) sm (by rfl) (by exact ⟨Int.le_refl _,B.time.2.1⟩) (by intro x hx; cases hx)) rfl (dM 6 rfl rfl (dA (bO _)) (dM 7 rfl rfl (dA (bO _)) (dM 8 rfl rfl (dA (bO _)) (dM 9 rfl rfl (dA (bO _)) (dM 10 rfl rfl (dA (bO _)) (dM 1 rfl rfl (j1 sm) (dM 2 rfl rfl (j1 sm) (dM 3 rfl rfl (j1 sm) lG)))))))) rfl (fun f M=>?_)
 obtain ⟨N,O,P⟩:=f
 try dsimp only
 refine ax (K _ _ (aD [4,5,6,7,8,9,10]) ?_)
 refine bS U fun T26 L=>q6 0 U ?_
 try dsimp only [List.eraseIdx]
 refine yQ ?_
 dsimp only at M
 refine rS (AG U)<|ax (L _ _ (aD [5,6,7,8,9,10,11]) ?_)
 refine eY U<|KK E<|ai fun _ F=>WS fun _ G=>rP 3 [] mn ?_
 refine RK G<|bE U (aQ fun C=>?_) (aP fun C=>?_)
 ·refine WK F<|WS fun _ AB=>rP 3 [] mn ?_
  refine RK AB<|an ?_
  refine LX hQ (true,0,N,O,P) [0,1] [] mn U (by (show List.all _ _=true; simp only [cond_true,dY,List.all_nil,JK,Bool.and_true]; rfl)) U U ?_
  exact ⟨fun _=>⟨mV A B U fun q=>C (by rw [show g4 l r l.ae.length [] []=[] from (d_ A B).2 q]; rfl),M⟩,Lw⟩
 refine WS fun _ H=>rP 2 [] mn ?_
 refine RK H<|an<|LX hQ (false,8,none,0,[]) [] [] mn U (by rfl) U U ?_
 exact vj<|od (pL (me:=0) A B U ((d_ A B).1 (jH (Int.natCast_eq_zero.1 C))))
theorem Ga (ws:List cZ) (wz:List kg) (wA:OA) (wC b:Nat) (hws:Ml ws) (hwz:wz.length=ws.length) (hb:b≤6):
 eA Tryz.prog 151 [(vS wA ws.length wC),(vI (b:Int))] [(rd wA ws.length 3 (List.zipWith cZ.cells ws wz)),(eH (aU cZ.gh ws wz))] (vT [(vA (ab.cells (pK ws b))),(vI (pA ws b))]):=by
 have w:=hws.num
 refine bH kr Tryz.func151 U U fun w0 Q hQ hN=>?_
 try dsimp only
 refine WS fun _ g=>AL U dk fun b2=>aY 1 U<|RK g<|WS fun _ j=>AL U dk fun v=>RK j<|WS fun _ k=>aY 1 U<|RK k<|ai fun _ l=>WS fun _ m=>rP 1 [] mn ?_
 refine RK m<|ar ?_
 have D:(0≤ws.length)∧(nc b (ws.take 0) false (ab.mk 0 0)):=by exact ⟨Nat.zero_le _,Hd⟩
 refine bx (ι:={z:Nat×Bool×ab // (z.1≤ws.length)∧(nc b (ws.take z.1) z.2.1 z.2.2)}) [0,1,4,5,6] [1,2,3] U U (fun z=>[(7,(vB z.1.2.1)),(8,(vI (z.1.1:Int)))]) (fun z=>[(cq v 47 (ab.cells z.1.2.2))]) (fun _=>rfl) (fun _=>rfl) (fun z=>ws.length-z.1.1) ⟨(0,false,(ab.mk 0 0)),D⟩ (aN U) (aD [1,2,3,0]) ?_
 clear D
 rintro ⟨⟨i,fd,o⟩,⟨J,A⟩⟩ J8 H
 try dsimp only at J A
 try dsimp only
 refine ai fun _ p=>WS fun _ L=>rP 4 [] mn ?_
 refine RK L<|bE U (aQ fun c=>?_) (aP fun c=>?_)
 ·refine bj<|aa<|aa<|au<|KK l<|ai fun _ R=>WS fun _ S=>rP 2 [] mn ?_
  refine RK S<|bE U (fun B=>?_) (fun B=>?_)
  ·rw [Bool.not_eq_false'] at B
   refine WK R<|WS fun _ AA=>e7 1 [] (mc 3 U mn) U<|fq U cu U<|rP 1 [] mn ?_
   refine RK AA<|an<|mo hQ [0] (mc 0 U mn) U ?_
   have AB:=yB (by have q:=A; rwa [List.take_of_length_le I] at q) hws.E5
   (have q:=AB.2 B; rw [q.1,q.2]; done)
  rw [Bool.not_eq_true'] at B
  refine WS fun _ T=>rS (SX (bq (xs:=[]) (cs:=(ab.cells (ab.mk 0 0))) U U (br gK U)) U U)<|fq U cu U<|rP 1 [] mn ?_
  refine RK T<|an<|mo hQ [0] (mc 0 U mn) U ?_
  have AB:=yB (by have q:=A; rwa [List.take_of_length_le I] at q) hws.E5
  (have q:=AB.1 B; rw [q.1,q.2]; done)
 refine WK p<|ai fun _ C=>ar<|ai fun _ M=>WS fun _ N=>rP 2 [] mn ?_
 obtain ⟨y,hy⟩:=aG ws i I
 obtain ⟨ya,E⟩:=aG wz i I
 have K:(List.zipWith cZ.cells ws wz)[i]? =some (cZ.cells y ya):=cH hy E
 refine rS (IA i U (ay 1 U) Ey dc I I)<|rS (nP (i*3) U (ay 1 U) (Nat.mul_pos I dc) e_ U)<|rS (fI i 0 (vS ya.1.1 y.f_.length ya.1.2) U bX (ay 1 U) K U dc U)<|rP 3 [] mn ?_
 refine RK N<|cK U (aP fun d=>?_) (aQ fun d=>?_)
 ·refine bj<|aa<|au<|KK C<|ag<|rP 3 [] mn ?_
  refine ax ?_
  have X:(vI (((i+1):Nat):Int))=(vI ((i:Int)+1)):=by exact cI I
  refine aI (H ⟨((i+1),fd,o),⟨I,by dsimp only; rw [lO hy]; exact D7 A I⟩⟩ _ _ _ U os (bY 6<|aO U X<|cO.nil _) (aD [0,1,2,3]))
 refine WK M<|ai fun _ O=>dp cf [17,18] [] [] [0,1,2,3] [] U U U U U ?_
 have x:=hws.lens y (aR hy)
 obtain ⟨s,hs⟩: ∃ s,y.f_[b]? =some s:=⟨y.f_[b]'I,ei _⟩
 refine eS U (MV U)<|eS U (MV U)<|eS U (IA i U (ay 1 U) Ey dc I I)<|eS U (nP ((i*3)+1) U (ay 1 U) (Nat.mul_pos I dc) e_ U)<|eS U (fI i 1 (vS ya.2.1.1 y.iq.length ya.2.1.2) U bX (ay 1 U) K U dc U)<|eS U (MV U) ?_
 obtain ⟨f,hf⟩:=aG y.iq b I
 have t:=bG iC hf
 refine eS U (IA b U (show gI _ (rd ya.2.1.1 y.iq.length 1 (y.iq.map iC)).holds from (b_ 2 U (bu hy E (by simp [cZ.gh])))) di dc I I)<|eS U (fI b 0 (vI f) U bX (show gI _ (rd ya.2.1.1 y.iq.length 1 (y.iq.map iC)).holds from (b_ 2 U (bu hy E (by simp [cZ.gh])))) t U dc U)<|eS U (MV U)<|eS U (MV U)<|eS U (IA i U (ay 1 U) Ey dc I I)<|eS U (nP ((i*3)+2) U (ay 1 U) (Nat.mul_pos I dc) e_ U)<|eS U (fI i 2 (vS ya.2.2.1 y.lz.length ya.2.2.2) U bX (ay 1 U) K U dc U)<|eS U (MV U) ?_
 obtain ⟨e,he⟩:=aG y.lz b I
 have r:=bG iC he
 refine eS U (IA b U (show gI _ (rd ya.2.2.1 y.lz.length 1 (y.lz.map iC)).holds from (b_ 2 U (bu hy E (by simp [cZ.gh])))) di dc I I)<|eS U (fI b 0 (vI e) U bX (show gI _ (rd ya.2.2.1 y.lz.length 1 (y.lz.map iC)).holds from (b_ 2 U (bu hy E (by simp [cZ.gh])))) r U dc U)<|eS U (SX (bq (xs:=[(0,.tmp 31),(1,.tmp 39)]) (cs:=(ab.cells (ab.mk f e))) U U (br gK U)) U U)<|eu U<|bS U fun T17 V=>AL U dk fun u=>ax (V _ _ (aD [1,2,3,4]) ?_)
 refine bS U fun T19 W=>fq U cu U<|ax (W _ _ (aD [1,2,3,4]) ?_)
 refine eY U<|KK O<|ai fun _ F=>WS fun _ P=>?_
 have a:=hws.le y (aR hy) b f e I hf he
 refine rP 1 [] mn ?_
 refine RK P<|bE U (fun G=>?_) (fun G=>?_)
 ·refine WK F<|ag<|e7 1 [] (mc 0 U mn) U<|O7 U cu U<|aY 1 U<|ax<|aB<|KK C<|ag<|rP 3 [] mn ?_
  refine ax ?_
  have Z:(vI (((i+1):Nat):Int))=(vI ((i:Int)+1)):=by exact cI I
  refine aI (H ⟨((i+1),true,(ab.mk f e)),⟨I,by dsimp only; rw [lO hy]; exact Aw A G hs hf he a⟩⟩ _ _ _ U os (bY 6<|aO U Z<|cO.nil _) (aD [1,2,3,4]))
 refine ag<|e7 4 [0,1] (mc 0 U (mc 4 U mn)) U<|rS (MN U)<|e7 4 [0,1] (mc 0 U (mc 4 U mn)) U<|rS (MX U)<|rS (SX (bq (xs:=[(0,.tmp 46),(1,.tmp 51)]) (cs:=(ab.cells (ab.mk (min f o.Lo) (max e o.Hi)))) U U (br gK U)) U U)<|fq U cu U<|RK F<|ag<|e7 1 [] (mc 0 U mn) U<|O7 U cu U<|aY 1 U<|ax<|aB<|KK C<|ag<|rP 3 [] mn ?_
 refine ax ?_
 have Y:(vI (((i+1):Nat):Int))=(vI ((i:Int)+1)):=by exact cI I
 refine aI (H ⟨((i+1),true,(ab.mk (min f o.Lo) (max e o.Hi))),⟨I,by dsimp only; rw [lO hy]; exact D5 A G hs hf he a⟩⟩ _ _ _ U os (bY 6<|aO U Y<|cO.nil _) (aD [1,2,3,4]))
end
section
open Go.RowKit
theorem Ox (l:aW) (kA:OA) (kC:Nat) (az:List RA) (cA:OA) (cC:Nat) (bA:OA) (bC:Nat) (r:cx) (sgA:OA) (sgC:Nat) (hin:ej l az) (hsl:r.ah.length≤1000000):
 eA Tryz.prog 124 [(vA (bT.cells (bT.mk (bo.mk (bf.mk kA l.aM.length kC)) l.gG (bf.mk cA l.aj.length cC) (bf.mk bA l.ae.length bC) l.cG l.eg l.cN))),(vA (ew.cells (lv r sgA sgC)))] [(rd kA l.aM.length 9 (l.aM.map al.cells)),(rd cA l.aj.length 2 (List.zipWith ao.cells l.aj az)),(eH (aU ao.gh l.aj az)),(rd bA l.ae.length 4 (l.ae.map bI.cells)),(rd sgA r.ah.length 2 (r.ah.map aK.cells))] (vT [(vA (ab.cells (BK l r))),(vI (eT l r l.cG))]):=by
 have s:=hin.rK
 have k:=hin.rD
 have i:=hin.mE
 have j:=hin.ry
 refine bH kr Tryz.func124 U U fun w0 Q hQ hN=>?_
 try dsimp only
 refine WS fun _ Z=>fm U fun w=>fm U fun x=>AL U dk fun y=>aY 1 U<|RK Z<|WS fun _ P=>rP 2 [0,1] (mc 2 U (mc 1 U mn)) ?_
 refine cX (MF l kA kC az cA cC bA bC r sgA sgC hin hsl) (aZ [3,4,5,6,7]) U fun v V=>?_
 obtain ⟨W,g,e,Y,X⟩:=v
 cases W
 ·obtain ⟨R,he⟩:=V.2 rfl
  try dsimp only at R he
  subst R
  try dsimp only [cond_true,cond_false,List.cons_append,List.nil_append]
  refine aY 5 U<|RK P<|ai fun _ d=>WS fun _ G=>rP 2 [] mn ?_
  refine RK G<|bE U (bh fun F=>?_) (bg fun F=>?_)
  ·exact absurd F he
  refine WS fun _ H=>rS (SX (bq (xs:=[]) (cs:=(ab.cells (ab.mk 0 0))) U U (br gK U)) U U)<|aY 1 U<|fq U cu U<|rP 1 [] mn ?_
  refine RK H<|an<|mo hQ [0] (mc 0 U mn) U ?_
  (rw [Ef (fun z=>he ((ve he).symm.trans z)),ve he]<;>rfl)
 obtain ⟨he,C⟩:=V.1 rfl
 try dsimp only [cond_true,cond_false,List.cons_append,List.nil_append]
 try dsimp only at he C
 obtain ⟨T,E,_,m⟩:=jR he
 obtain ⟨t,c⟩:=gF T
 have a:=c.head
 unfold gi at a
 have AA:=PF T E
 have u:=AA.num
 have p:=E.len
 have q:=E.time
 refine aY 5 U<|RK P<|ai fun _ AB=>WS fun _ J=>rP 1 [] mn ?_
 refine rS (SX (cM (r:= .bool false) U U U rQ) U U)<|RK J<|aX U<|WK AB<|ai fun _ K=>?_
 obtain ⟨b,S⟩: ∃ b:Nat,l.cG=(b:Int):=⟨l.cG.toNat,I⟩
 have A:=IY he (b:=b) I
 rw [← S] at A
 rw [S]
 refine ag<|e7 3 [] (mc 4 U mn) U<|rS (CL (Ga (qb l r) X e Y b (by exact AA) (by exact C) I) (aC (ak (n:=(qb l r).length) 0 U (sT C))<|aC (eN 1 U Nk)<|aS) U)<|aY 3 U<|AL U dk fun f=>fq U cu U<|aY 1 U<|RK K<|ai fun _ L=>WS fun _ M=>rP 2 [] mn ?_
 refine RK M<|cK U (bg fun B=>?_) (bh fun B=>?_)
 ·refine WS fun _ N=>rS (SX (bq (xs:=[]) (cs:=(ab.cells (ab.mk 0 0))) U U (br gK U)) U U)<|aY 1 U<|SG U cu U<|rP 1 [] mn ?_
  refine RK N<|an<|mo hQ [0] (mc 3 U mn) U ?_
  (rw [Ef (fun z=>B (A.1.trans z)),← A.1]<;>rfl)
 refine WK L<|ai fun _ O=>?_
 have D:eT l r l.cG=0:=A.1.symm.trans B
 have o:=wW D
 rw [A.2]
 refine ag<|e7 10 [0,1,0,1] (mc 0 U (mc 4 U mn)) U<|rS (SX (bq (xs:=[(0,.tmp 34),(1,.tmp 39)]) (cs:=(ab.cells (ab.mk (((ff l r l.cG).Lo)-r.Start) (((ff l r l.cG).Hi)-r.Start)))) U U (br gK U)) U U)<|SG U cu U<|rP 1 [] mn ?_
 refine RK O<|an<|mo hQ [0] (mc 3 U mn) U ?_
 (rw [DX D,D])
theorem Dn (la:List aK) (laA:OA) (laC:Nat) (lb:List aK) (lbA:OA) (lbC:Nat) (h1:la.length≤1000000) (h2:lb.length≤1000000):
 eA Tryz.prog 77 [(vS laA la.length laC),(vS lbA lb.length lbC)] [(rd laA la.length 2 (la.map aK.cells)),(rd lbA lb.length 2 (lb.map aK.cells))] (vB (decide (la=lb))):=by
 refine bH kr Tryz.func77 U U fun V Q hQ hN=>?_
 try dsimp only
 refine WS fun _ J=>aY 1 U<|RK J<|ai fun _ K=>WS fun _ L=>rP 5 [] mn ?_
 refine RK L<|cK U (bg fun hl=>?_) (bh fun hl=>?_)
 ·refine WS fun _ M=>rP 1 [] mn ?_
  refine RK M<|an<|Q1 hQ U U U ?_
  first|exact cB (bD (iM hx hy h)).symm|exact cB (dh (cd I A I)).symm|exact cB (bD (fun e=>by subst e; omega)).symm
 refine WK K<|ai fun _ N=>WS fun _ O=>rP 1 [] mn ?_
 refine RK O<|ar ?_
 have B:(0≤la.length)∧(la.take 0=lb.take 0):=by simp
 refine bx (ι:={z:Nat // (z≤la.length)∧(la.take z=lb.take z)}) [0,1] [0,1] U U (fun z=>[(5,(vI (z.1:Int)))]) (fun z=>[]) (fun _=>rfl) (fun _=>rfl) (fun z=>la.length-z.1) ⟨0,B⟩ (aN U) (aD [0,1]) ?_
 clear B
 rintro ⟨i,⟨S,A⟩⟩ J7 AB
 try dsimp only
 refine ai fun _ P=>WS fun _ R=>rP 4 [] mn ?_
 refine RK R<|bE U (aQ fun H=>?_) (aP fun H=>?_)
 ·refine bj<|aa<|aa<|au<|KK N<|WS fun _ F=>rP 1 [] mn ?_
  refine RK F<|an<|Q1 hQ U U U ?_
  first|exact cB (bD (iM hx hy h)).symm|exact cB (dh (cd I A I)).symm|exact cB (bD (fun e=>by subst e; omega)).symm
 refine WK P<|ai fun _ C=>ar<|ai fun _ D=>cS cf 9 kr<|dP 2 [] mn ?_
 obtain ⟨x,hx⟩:=aG la i I
 have T:=bG aK.cells hx
 refine dS (IA i U (ay 0 U) wv dc I I)<|dS (l4 i 0 (aK.cells x) U bX (ay 0 U) T U dc U U)<|dP 2 [] mn ?_
 obtain ⟨y,hy⟩:=aG lb i I
 have AA:=bG aK.cells hy
 refine dS (IA i U (ay 1 U) wv dc I I)<|dS (l4 i 0 (aK.cells y) U bX (ay 1 U) AA U dc U U)<|dS (BI U (OL _ _ x y))<|cy<|RK D<|cK U (bg fun h=>?_) (bh fun h=>?_)
 ·refine WS fun _ E=>rP 1 [] mn ?_
  refine RK E<|an<|Q1 hQ U U U ?_
  first|exact cB (bD (iM hx hy h)).symm|exact cB (dh (cd I A I)).symm|exact cB (bD (fun e=>by subst e; omega)).symm
 refine bM<|aB<|KK C<|ag<|rP 3 [] mn ?_
 refine ax ?_
 have G:(vI (((i+1):Nat):Int))=(vI ((i:Int)+1)):=by exact cI I
 refine aI (AB ⟨(i+1),⟨I,ic A hx hy h⟩⟩ _ _ _ U os (cO.cons U<|cO.cons U<|aO U G<|cO.nil _) (aD [0,1]))
end
section
open Go.RowKit
theorem C5 (d:av) (sgA:OA) (sgC:Nat) (e:av) (shA:OA) (shC:Nat) (h1:d.bW.ah.length≤1000000) (h2:e.bW.ah.length≤1000000):
 eA Tryz.prog 53 [(vA (bp.cells (bp.mk d.Out d.dE d.Time (lv d.bW sgA sgC)))),(vA (bp.cells (bp.mk e.Out e.dE e.Time (ew.mk e.bW.Start e.bW.fK (bf.mk shA e.bW.ah.length shC)))))] [(rd sgA d.bW.ah.length 2 (d.bW.ah.map aK.cells)),(rd shA e.bW.ah.length 2 (e.bW.ah.map aK.cells))] (vB (decide (d=e))):=by
 refine bH kr Tryz.func53 U U fun J Q hQ hN=>?_
 try dsimp only
 refine WS fun _ B=>fm U fun H=>fm U fun AA=>aY 1 U<|RK B<|WS fun _ A=>e7 4 [0,1] (mc 1 U (mc 0 U mn)) U<|rS (BI U (KQ SI))<|rP 1 [] mn ?_
 refine cv (t:=10) U (fun C=>?_) (fun C=>?_)
 ·replace C: ¬ d.Out=e.Out:=by simpa using C
  refine rP 41 [] mn ?_
  refine RK A<|an<|Q1 hQ U U U ?_
  clear hQ hN A B
  refine cB ?_
  simp [oO, *]
 replace C:d.Out=e.Out:=by simpa using C
 refine e7 4 [0,1] (mc 1 U (mc 0 U mn)) U<|rS (BI U (KQ SI))<|rP 2 [] mn ?_
 refine cv (t:=17) U (fun D=>?_) (fun D=>?_)
 ·replace D: ¬ d.dE=e.dE:=by simpa using D
  refine rP 34 [] mn ?_
  refine RK A<|an<|Q1 hQ U U U ?_
  clear hQ hN A B
  refine cB ?_
  simp [oO, *]
 replace D:d.dE=e.dE:=by simpa using D
 refine aY 1 U<|rS (LP (ab.cells d.Time) 1 U bX U U U)<|aY 1 U<|rS (LP (ab.cells e.Time) 0 U bX U U U)<|rS (BI U (xh _ _ d.Time e.Time))<|rP 2 [] mn ?_
 refine cv (t:=24) U (aQ fun E=>?_) (aP fun E=>?_)
 ·refine rP 27 [] mn ?_
  refine RK A<|an<|Q1 hQ U U U ?_
  clear hQ hN A B
  refine cB ?_
  simp [oO, *]
 refine rP 9 [0,1] (mc 1 U (mc 0 U mn)) ?_
 refine cv (t:=33) U (aQ fun F=>?_) (aP fun F=>?_)
 ·refine rP 18 [] mn ?_
  refine RK A<|an<|Q1 hQ U U U ?_
  clear hQ hN A B
  refine cB ?_
  simp [oO, *]
 refine rP 9 [0,1] (mc 1 U (mc 0 U mn)) ?_
 refine cv (t:=42) U (aQ fun G=>?_) (aP fun G=>?_)
 ·refine rP 9 [] mn ?_
  refine RK A<|an<|Q1 hQ U U U ?_
  clear hQ hN A B
  refine cB ?_
  simp [oO, *]
 refine e7 6 [0,1] (mc 1 U (mc 0 U mn)) U<|rS (CL (Dn d.bW.ah sgA sgC e.bW.ah shA shC h1 h2) (aZ [2,3]) U)<|rP 2 [] mn ?_
 refine RK A<|an<|Q1 hQ U U U ?_
 clear hQ hN A B
 refine cB ?_
 simp [oO, *]
theorem ph (r:cr) (kA:OA) (kC:Nat) (az:List RA) (cA:OA) (cC:Nat) (bA:OA) (bC:Nat) (slA:OA) (slC:Nat) (drA:OA) (drC:Nat) (ha:List cD) (heA:OA) (heC:Nat) (q:cr) (k2A:OA) (k2C:Nat) (az2:List RA) (c2A:OA) (c2C:Nat) (b2A:OA) (b2C:Nat) (sl2A:OA) (sl2C:Nat) (dr2A:OA) (dr2C:Nat) (ha2:List cD) (he2A:OA) (he2C:Nat) (hin:fw r az ha) (hin2:fw q az2 ha2) (hsm: ¬ je r) (hsm2: ¬ je q):
 eA Tryz.prog 23 [(vA (cj.cells (pZ r kA kC cA cC bA bC slA slC drA drC heA heC))),(vA (cj.cells (cj.mk (bT.mk (bo.mk (bf.mk k2A q.aA.aM.length k2C)) q.aA.gG (bf.mk c2A q.aA.aj.length c2C) (bf.mk b2A q.aA.ae.length b2C) q.aA.cG q.aA.eg q.aA.cN) (bf.mk sl2A q.aH.length sl2C) (bf.mk dr2A q.cm.length dr2C) q.iN (bf.mk he2A q.aq.length he2C))))] [(rd kA r.aA.aM.length 9 (r.aA.aM.map al.cells)),(rd cA r.aA.aj.length 2 (List.zipWith ao.cells r.aA.aj az)),(eH (aU ao.gh r.aA.aj az)),(rd bA r.aA.ae.length 4 (r.aA.ae.map bI.cells)),(rd slA r.aH.length 1 (r.aH.map iC)),(rd drA r.cm.length 1 (r.cm.map iC)),(rd heA r.aq.length 1 (List.zipWith cz r.aq ha)),(eH (aU iA r.aq ha)),(rd k2A q.aA.aM.length 9 (q.aA.aM.map al.cells)),(rd c2A q.aA.aj.length 2 (List.zipWith ao.cells q.aA.aj az2)),(eH (aU ao.gh q.aA.aj az2)),(rd b2A q.aA.ae.length 4 (q.aA.ae.map bI.cells)),(rd sl2A q.aH.length 1 (q.aH.map iC)),(rd dr2A q.cm.length 1 (q.cm.map iC)),(rd he2A q.aq.length 1 (List.zipWith cz q.aq ha2)),(eH (aU iA q.aq ha2))] (vB (decide (r=q))):=by
 have W:=hin.line
 have Ab:=hin.iR
 have Ac:=hin.has
 have AZ:=hin.iK
 have AU:=hin.draw
 have Aa:=dw (r:=r)
 have hline2:=hin2.line
 have AW:=hin2.iR
 have AY:=hin2.has
 have AT:=hin2.iK
 have AP:=hin2.draw
 have AC:=qT hsm
 have AD:=qT hsm2
 refine bH kr Tryz.func23 U U fun w0 Q hQ hN=>?_
 try dsimp only
 refine WS fun _ AI=>fm U fun b2=>fm U fun b3=>aY 1 U<|RK AI<|ai fun _ AJ=>WS fun _ P=>aY 1 U<|rS (LP (bT.cells (kH r.aA kA kC cA cC bA bC)) 1 U bX U U U)<|aY 1 U<|rS (LP (bT.cells (bT.mk (bo.mk (bf.mk k2A q.aA.aM.length k2C)) q.aA.gG (bf.mk c2A q.aA.aj.length c2C) (bf.mk b2A q.aA.ae.length b2C) q.aA.cG q.aA.eg q.aA.cN)) 0 U bX U U U)<|rS (CL (MW r.aA kA kC az cA cC bA bC q.aA k2A k2C az2 c2A c2C b2A b2C (by exact W) (by exact hline2) (by exact AC.1) (by exact AD.1)) (aZ [2,3,4,5,10,11,12,13]) U)<|rP 2 [] mn ?_
 refine cE (t:=13) U (bg fun D=>?_) (bh fun D=>?_)
 ·refine aY 31 U<|RK P<|aL U<|WS fun _ AK=>rP 1 [] mn ?_
  refine RK AK<|an<|Q1 hQ U U U ?_
  first|exact cB (bD (fun e=>by cases e; first|exact D rfl|exact E rfl|exact F rfl|exact G rfl|exact M rfl)).symm|exact cB (dh (kO D E F G (cd I C I))).symm|exact cB (bD (fun z=>by cases z; rw [H] at A; cases A; first|omega|(rw [hd] at B; cases B; exact L rfl))).symm
 refine rP 4 [0,1] (mc 1 U (mc 0 U mn)) ?_
 refine rS (CL (kM r.aH slA slC q.aH sl2A sl2C sd sd) (aZ [6,14]) U) ?_
 refine rP 3 [] mn ?_
 refine cE (t:=21) U (bg fun E=>?_) (bh fun E=>?_)
 ·refine aY 23 U<|RK P<|aL U<|WS fun _ AL=>rP 1 [] mn ?_
  refine RK AL<|an<|Q1 hQ U U U ?_
  first|exact cB (bD (fun e=>by cases e; first|exact D rfl|exact E rfl|exact F rfl|exact G rfl|exact M rfl)).symm|exact cB (dh (kO D E F G (cd I C I))).symm|exact cB (bD (fun z=>by cases z; rw [H] at A; cases A; first|omega|(rw [hd] at B; cases B; exact L rfl))).symm
 refine rP 4 [0,1] (mc 1 U (mc 0 U mn)) ?_
 refine rS (CL (kM r.cm drA drC q.cm dr2A dr2C sd sd) (aZ [7,15]) U) ?_
 refine rP 3 [] mn ?_
 refine cE (t:=29) U (bg fun F=>?_) (bh fun F=>?_)
 ·refine aY 15 U<|RK P<|aL U<|WS fun _ AM=>rP 1 [] mn ?_
  refine RK AM<|an<|Q1 hQ U U U ?_
  first|exact cB (bD (fun e=>by cases e; first|exact D rfl|exact E rfl|exact F rfl|exact G rfl|exact M rfl)).symm|exact cB (dh (kO D E F G (cd I C I))).symm|exact cB (bD (fun z=>by cases z; rw [H] at A; cases A; first|omega|(rw [hd] at B; cases B; exact L rfl))).symm
 refine rP 7 [0,1] (mc 1 U (mc 0 U mn)) ?_
 refine cE (t:=36) U (bg fun G=>?_) (bh fun G=>?_)
 ·refine aY 8 U<|RK P<|aL U<|WS fun _ AN=>rP 1 [] mn ?_
  refine RK AN<|an<|Q1 hQ U U U ?_
  first|exact cB (bD (fun e=>by cases e; first|exact D rfl|exact E rfl|exact F rfl|exact G rfl|exact M rfl)).symm|exact cB (dh (kO D E F G (cd I C I))).symm|exact cB (bD (fun z=>by cases z; rw [H] at A; cases A; first|omega|(rw [hd] at B; cases B; exact L rfl))).symm
 refine rP 8 [0,1] (mc 1 U (mc 0 U mn)) ?_
 refine RK P<|cK U (bg fun M=>?_) (bh fun M=>?_)
 ·refine WS fun _ Z=>rP 1 [] mn ?_
  refine RK Z<|an<|Q1 hQ U U U ?_
  first|exact cB (bD (fun e=>by cases e; first|exact D rfl|exact E rfl|exact F rfl|exact G rfl|exact M rfl)).symm|exact cB (dh (kO D E F G (cd I C I))).symm|exact cB (bD (fun z=>by cases z; rw [H] at A; cases A; first|omega|(rw [hd] at B; cases B; exact L rfl))).symm
 refine WK AJ<|ai fun _ a=>WS fun _ b=>rP 1 [] mn ?_
 refine RK b<|ar ?_
 have J:(0≤r.aq.length)∧(r.aq.take 0=q.aq.take 0):=by exact ⟨Nat.zero_le _,rfl⟩
 refine bx (ι:={z:Nat // (z≤r.aq.length)∧(r.aq.take z=q.aq.take z)}) [2,3] [0,1,2,3,4,5,6,7,8,9,10,11,12,13,14,15,16,17] U U (fun z=>[(5,(vI (z.1:Int)))]) (fun z=>[]) (fun _=>rfl) (fun _=>rfl) (fun z=>r.aq.length-z.1) ⟨0,J⟩ (aN U) (aD [0,1,2,3,4,5,6,7,8,9,10,11,12,13,14,15,16,17]) ?_
 clear J
 rintro ⟨h,⟨AR,C⟩⟩ J13 X
 try dsimp only
 refine ai fun _ c=>WS fun _ f=>rP 5 [] (mc 1 U mn) ?_
 refine RK f<|bE U (aQ fun AF=>?_) (aP fun AF=>?_)
 ·refine bj<|aa<|aa<|au<|KK a<|WS fun _ w=>rP 1 [] mn ?_
  refine RK w<|an<|Q1 hQ U U U ?_
  first|exact cB (bD (fun e=>by cases e; first|exact D rfl|exact E rfl|exact F rfl|exact G rfl|exact M rfl)).symm|exact cB (dh (kO D E F G (cd I C I))).symm|exact cB (bD (fun z=>by cases z; rw [H] at A; cases A; first|omega|(rw [hd] at B; cases B; exact L rfl))).symm
 refine WK c<|ai fun _ g=>ar<|ai fun _ j=>ai fun _ k=>cS cf 13 kr<|dP 3 [] (mc 1 U mn) ?_
 obtain ⟨ht,H⟩:=aG r.aq h I
 obtain ⟨Ae,N⟩:=aG ha h I
 have R:(List.zipWith cz r.aq ha)[h]? =some (cz ht Ae):=cH H N
 refine dS (IA h U (ay 8 U) lk dc I I)<|dS (fI h 0 (vS Ae.1.1 ht.length Ae.1.2) U bX (ay 8 U) R U dc U)<|dP 4 [] (mc 0 U mn) ?_
 obtain ⟨hu,A⟩:=aG q.aq h I
 obtain ⟨K,O⟩:=aG ha2 h I
 have V:(List.zipWith cz q.aq ha2)[h]? =some (cz hu K):=cH A O
 refine dS (IA h U (ay 16 U) lk dc I I)<|dS (fI h 0 (vS K.1.1 hu.length K.1.2) U bX (ay 16 U) V U dc U)<|dP 1 [] mn ?_
 have AE:=hin.my _ _ _ H N
 have AV:=AE.mE
 have Ad:=hin2.my _ _ _ A O
 have AQ:=Ad.mE
 have AX:=AC.2.2.2.2 ht (aR H)
 refine dP 1 [] mn ?_
 refine cy<|RK k<|cK U (bg fun AH=>?_) (bh fun AH=>?_)
 ·refine WS fun _ l=>rP 1 [] mn ?_
  refine RK l<|an<|Q1 hQ U U U ?_
  first|exact cB (bD (fun e=>by cases e; first|exact D rfl|exact E rfl|exact F rfl|exact G rfl|exact M rfl)).symm|exact cB (dh (kO D E F G (cd I C I))).symm|exact cB (bD (fun z=>by cases z; rw [H] at A; cases A; first|omega|(rw [hd] at B; cases B; exact L rfl))).symm
 refine WK j<|WS fun _ m=>rP 1 [] mn ?_
 refine RK m<|ar ?_
 have J:(0≤ht.length)∧(ht.take 0=hu.take 0):=by exact ⟨Nat.zero_le _,rfl⟩
 refine bx (ι:={z:Nat // (z≤ht.length)∧(ht.take z=hu.take z)}) [2,3,5] [0,1,2,3,4,5,6,7,8,9,10,11,12,13,14,15,16,17] U U (fun z=>[(6,(vI (z.1:Int)))]) (fun z=>[]) (fun _=>rfl) (fun _=>rfl) (fun z=>ht.length-z.1) ⟨0,J⟩ (aN U) (aD [0,1,2,3,4,5,6,7,8,9,10,11,12,13,14,15,16,17]) ?_
 clear J
 rintro ⟨i,⟨AS,S⟩⟩ J22 Y
 try dsimp only
 refine ai fun _ o=>WS fun _ p=>e7 4 [] (mc 1 U mn) U<|rS (IA h U (ay 8 U) lk dc I I)<|rS (fI h 0 (vS Ae.1.1 ht.length Ae.1.2) U bX (ay 8 U) R U dc U)<|rP 2 [] mn ?_
 refine RK p<|bE U (aQ fun AG=>?_) (aP fun AG=>?_)
 ·refine bj<|aa<|aa<|au<|aB<|KK g<|ag<|rP 3 [] mn ?_
  refine ax ?_
  have y:(vI (((h+1):Nat):Int))=(vI ((h:Int)+1)):=by exact cI I
  refine aI (X ⟨(h+1),⟨I,ic C H A (cd I S I)⟩⟩ _ _ _ U os (cO.cons U<|cO.cons U<|aO U y<|cO.nil _) (aD [0,1,2,3,4,5,6,7,8,9,10,11,12,13,14,15,16,17]))
 refine WK o<|ai fun _ s=>ar<|ai fun _ u=>cS cf 18 kr<|l0 3 [] (mc 1 U mn) U<|dS (IA h U (ay 8 U) lk dc I I)<|dS (fI h 0 (vS Ae.1.1 ht.length Ae.1.2) U bX (ay 8 U) R U dc U)<|dP 1 [] mn ?_
 obtain ⟨d,hd⟩:=aG ht i I
 obtain ⟨da,AA⟩:=aG Ae.2 i I
 have AO:(List.zipWith av.cells ht Ae.2)[i]? =some (av.cells d da):=cH hd AA
 refine dS (IA i U (show gI _ (rd Ae.1.1 ht.length 7 (List.zipWith av.cells ht Ae.2)).holds from (b_ 9 U (bu H N bZ))) rI dc I I)<|dS (l4 i 0 (bp.cells (bp.mk d.Out d.dE d.Time (ew.mk d.bW.Start d.bW.fK (bf.mk da.1 d.bW.ah.length da.2)))) U bX (show gI _ (rd Ae.1.1 ht.length 7 (List.zipWith av.cells ht Ae.2)).holds from (b_ 9 U (bu H N bZ))) AO U dc U U)<|l0 3 [] (mc 0 U mn) U<|dS (IA h U (ay 16 U) lk dc I I)<|dS (fI h 0 (vS K.1.1 hu.length K.1.2) U bX (ay 16 U) V U dc U)<|dP 1 [] mn ?_
 obtain ⟨e,B⟩:=aG hu i I
 obtain ⟨ea,T⟩:=aG K.2 i I
 have AB:(List.zipWith av.cells hu K.2)[i]? =some (av.cells e ea):=cH B T
 refine dS (IA i U (show gI _ (rd K.1.1 hu.length 7 (List.zipWith av.cells hu K.2)).holds from (b_ 17 U (bu A O bZ))) rI dc I I)<|dS (l4 i 0 (bp.cells (bp.mk e.Out e.dE e.Time (ew.mk e.bW.Start e.bW.fK (bf.mk ea.1 e.bW.ah.length ea.2)))) U bX (show gI _ (rd K.1.1 hu.length 7 (List.zipWith av.cells hu K.2)).holds from (b_ 17 U (bu A O bZ))) AB U dc U U)<|dS (CL (C5 d da.1 da.2 e ea.1 ea.2 (by exact AE.sig d (aR hd)) (by exact Ad.sig e (aR B))) (aC (show gI _ (rd da.1 d.bW.ah.length 2 (d.bW.ah.map aK.cells)).holds from (b_ 9 U (bu H N (cW _ (bu hd AA (by simp [av.gh]))))))<|aC (show gI _ (rd ea.1 e.bW.ah.length 2 (e.bW.ah.map aK.cells)).holds from (b_ 17 U (bu A O (cW _ (bu B T (by simp [av.gh]))))))<|aS) U)<|dP 1 [] mn ?_
 refine cy<|RK u<|bE U (bh fun L=>?_) (bg fun L=>?_)
 ·refine bM<|aB<|KK s<|ag<|rP 3 [] mn ?_
  refine ax ?_
  have x:(vI (((i+1):Nat):Int))=(vI ((i:Int)+1)):=by exact cI I
  refine aI (Y ⟨(i+1),⟨I,ic S hd B L⟩⟩ _ _ _ U os (bY 3<|aO U x<|cO.nil _) (aD [0,1,2,3,4,5,6,7,8,9,10,11,12,13,14,15,16,17]))
 refine WS fun _ v=>rP 1 [] mn ?_
 refine RK v<|an<|Q1 hQ U U U ?_
 first|exact cB (bD (fun e=>by cases e; first|exact D rfl|exact E rfl|exact F rfl|exact G rfl|exact M rfl)).symm|exact cB (dh (kO D E F G (cd I C I))).symm|exact cB (bD (fun z=>by cases z; rw [H] at A; cases A; first|omega|(rw [hd] at B; cases B; exact L rfl))).symm
theorem u9 (G:List (List Int)) (H:List (List Int)) (gz:List RA) (gA:OA) (gC:Nat) (hz:List RA) (hA:OA) (hC:Nat) (h1:G.length≤1000000) (h2:H.length≤1000000) (h3: ∀ l∈G,l.length≤1000000) (h4: ∀ l∈H,l.length≤1000000) (hgz:gz.length=G.length) (hhz:hz.length=H.length):
 eA Tryz.prog 30 [(vS gA G.length gC),(vS hA H.length hC)] [(rd gA G.length 1 (List.zipWith qd G gz)),(eH (aU PV G gz)),(rd hA H.length 1 (List.zipWith qd H hz)),(eH (aU PV H hz))] (vB (decide (G=H))):=by
 refine bH kr Tryz.func30 U U fun Z Q hQ hN=>?_
 try dsimp only
 refine WS fun _ N=>aY 1 U<|RK N<|ai fun _ O=>WS fun _ P=>rP 5 [] mn ?_
 refine RK P<|cK U (bg fun hl=>?_) (bh fun hl=>?_)
 ·refine WS fun _ R=>rP 1 [] mn ?_
  refine RK R<|an<|Q1 hQ U U U ?_
  first|exact cB (bD (iM hx hy h)).symm|exact cB (dh (cd I A I)).symm|exact cB (bD (fun e=>by subst e; omega)).symm
 refine WK O<|ai fun _ S=>WS fun _ T=>rP 1 [] mn ?_
 refine RK T<|ar ?_
 have B:(0≤G.length)∧(G.take 0=H.take 0):=by exact ⟨Nat.zero_le _,rfl⟩
 refine bx (ι:={z:Nat // (z≤G.length)∧(G.take z=H.take z)}) [0,1] [0,1,2,3] U U (fun z=>[(5,(vI (z.1:Int)))]) (fun z=>[]) (fun _=>rfl) (fun _=>rfl) (fun z=>G.length-z.1) ⟨0,B⟩ (aN U) (aD [0,1,2,3]) ?_
 clear B
 rintro ⟨i,⟨W,A⟩⟩ J7 M
 try dsimp only
 refine ai fun _ AA=>WS fun _ V=>rP 4 [] mn ?_
 refine RK V<|bE U (aQ fun L=>?_) (aP fun L=>?_)
 ·refine bj<|aa<|aa<|au<|KK S<|WS fun _ F=>rP 1 [] mn ?_
  refine RK F<|an<|Q1 hQ U U U ?_
  first|exact cB (bD (iM hx hy h)).symm|exact cB (dh (cd I A I)).symm|exact cB (bD (fun e=>by subst e; omega)).symm
 refine WK AA<|ai fun _ C=>ar<|ai fun _ D=>cS cf 10 kr<|dP 2 [] mn ?_
 obtain ⟨x,hx⟩:=aG G i I
 obtain ⟨xa,J⟩:=aG gz i I
 have X:(List.zipWith qd G gz)[i]? =some (qd x xa):=cH hx J
 refine dS (IA i U (ay 0 U) zZ dc I I)<|dS (fI i 0 (vS xa.1 x.length xa.2) U bX (ay 0 U) X U dc U)<|dP 2 [] mn ?_
 obtain ⟨y,hy⟩:=aG H i I
 obtain ⟨ya,K⟩:=aG hz i I
 have Y:(List.zipWith qd H hz)[i]? =some (qd y ya):=cH hy K
 refine dS (IA i U (ay 2 U) zZ dc I I)<|dS (fI i 0 (vS ya.1 y.length ya.2) U bX (ay 2 U) Y U dc U)<|dS (CL (kM x xa.1 xa.2 y ya.1 ya.2 (by exact h3 x (aR hx)) (by exact h4 y (aR hy))) (aC (show gI _ (rd xa.1 x.length 1 (x.map iC)).holds from (b_ 1 U (bu hx J (by simp [PV]))))<|aC (show gI _ (rd ya.1 y.length 1 (y.map iC)).holds from (b_ 3 U (bu hy K (by simp [PV]))))<|aS) U)<|dP 1 [] mn ?_
 refine cy<|RK D<|cK U (bg fun h=>?_) (bh fun h=>?_)
 ·refine WS fun _ E=>rP 1 [] mn ?_
  refine RK E<|an<|Q1 hQ U U U ?_
  first|exact cB (bD (iM hx hy h)).symm|exact cB (dh (cd I A I)).symm|exact cB (bD (fun e=>by subst e; omega)).symm
 refine bM<|aB<|KK C<|ag<|rP 3 [] mn ?_
 refine ax ?_
 have AB:(vI (((i+1):Nat):Int))=(vI ((i:Int)+1)):=by exact cI I
 refine aI (M ⟨(i+1),⟨I,ic A hx hy h⟩⟩ _ _ _ U os (cO.cons U<|cO.cons U<|aO U AB<|cO.nil _) (aD [0,1,2,3]))
end
section
open Go.RowKit
theorem Oo (r:cr) (kA:OA) (kC:Nat) (az:List RA) (cA:OA) (cC:Nat) (bA:OA) (bC:Nat) (slA:OA) (slC:Nat) (drA:OA) (drC:Nat) (ha:List cD) (heA:OA) (heC:Nat) (tz:List RA) (tA:OA) (tC:Nat) (ms:Value) (gw:Nat) (l:List Int) (lA:OA) (lC:Nat) (hin:fw r az ha) (hlen:l.length≤1000000):
 eA Tryz.prog 44 [(vP gw),(vS lA l.length lC)] [(rd kA r.aA.aM.length 9 (r.aA.aM.map al.cells)),(rd cA r.aA.aj.length 2 (List.zipWith ao.cells r.aA.aj az)),(eH (aU ao.gh r.aA.aj az)),(rd bA r.aA.ae.length 4 (r.aA.ae.map bI.cells)),(rd slA r.aH.length 1 (r.aH.map iC)),(rd drA r.cm.length 1 (r.cm.map iC)),(rd heA r.aq.length 1 (List.zipWith cz r.aq ha)),(eH (aU iA r.aq ha)),(rd tA ((bV r).length) 1 (List.zipWith rM (bV r) tz)),(eH (aU yC (bV r) tz)),(cq gw 100 (gd.cells (gd.mk (pZ r kA kC cA cC bA bC slA slC drA drC heA heC) (bf.mk tA ((bV r).length) tC) ms))),(rd lA l.length 1 (l.map iC))] (vB (p9 0 ((r.aH.length:Int)-1) l)):=by
 have C:=hin.line
 have G:=hin.iR
 have H:=hin.has
 have E:=hin.iK
 have D:=hin.draw
 have F:=dw (r:=r)
 refine bH kr Tryz.func44 U U fun AA Q hQ hN=>?_
 try dsimp only
 refine WS fun _ A=>aY 1 U<|RK A<|WS fun _ B=>aY 1 U<|rS (SX (bL U U) U U)<|e7 6 [] (mr 10 U mn) U<|rS (CL (kZ 0 ((r.aH.length:Int)-1) l lA lC hlen) (aZ [11]) U)<|rP 1 [] mn ?_
 refine RK B<|an ?_
 exact Q1 hQ U U U U
end
section
open Go.RowKit
theorem JU (l:List al) (lA:OA) (lC:Nat) (hlen:l.length≤1000000):
 lg Tryz.prog 110 [(vS lA l.length lC)] [(rd lA l.length 9 (l.map al.cells))] (fun (x:(OA)×Nat)=>(vS x.1 l.length x.2)) (fun (x:(OA)×Nat)=>True) (fun (x:(OA)×Nat)=>[(own x.1 x.2 163 9 (l.map al.cells))]):=by
 refine db kr Tryz.func110 U U fun L Q hQ hN=>?_
 try dsimp only
 refine WS fun _ D=>aY 1 U<|RK D<|ai fun _ E=>WS fun _ F=>rP 1 [] mn ?_
 refine rS (BI U (qt O9))<|RK F<|cK U (aP fun B=>?_) (aQ fun B=>?_)
 ·refine WS fun _ G=>mj (ay 0 U) B dc fun C=>?_
  have A:l=[]:=by simpa using C
  refine fg 163 9 ?_
  rw [show (own none 0 163 9 ([]:List (List Value)))=own none 0 163 9 (l.map al.cells) from by rw [A]; rfl]
  refine rP 1 [] mn ?_
  refine RK G<|an ?_
  refine LX hQ (none,0) [0] [] mn U U U ?_ ?_
  ·first|rfl|(rw [A]; rfl)
  ·trivial
 refine WK E<|WS fun _ H=>kN U vf U fun J=>rP 1 [] mn ?_
 refine eK (es:=(List.map al.cells [])) (C':=[own (some ⟨J,0,none⟩) 0 163 9 (List.map al.cells []),_]) 0 U sm U (by simp [maxLen]) U ?_
 refine cp (es2:=(List.map al.cells l)) (m':=l.length) 0 U U U P3 U U sm (ay 1 U) (nI _) os (by first|(simp only [maxLen]; omega)|(simp [maxLen]; omega)) sm sm U fun AA K=>?_
 try dsimp only
 refine rP 1 [] mn ?_
 refine RK H<|an ?_
 refine LX hQ (AA,K) [0] [] mn U U U ?_ ?_
 ·first|rfl|(rw [A]; rfl)
 ·trivial
theorem HR (l:List bI) (lA:OA) (lC:Nat) (hlen:l.length≤1000000):
 lg Tryz.prog 112 [(vS lA l.length lC)] [(rd lA l.length 4 (l.map bI.cells))] (fun (x:(OA)×Nat)=>(vS x.1 l.length x.2)) (fun (x:(OA)×Nat)=>True) (fun (x:(OA)×Nat)=>[(own x.1 x.2 141 4 (l.map bI.cells))]):=by
 refine db kr Tryz.func112 U U fun L Q hQ hN=>?_
 try dsimp only
 refine WS fun _ D=>aY 1 U<|RK D<|ai fun _ E=>WS fun _ F=>rP 1 [] mn ?_
 refine rS (BI U (qt Pa))<|RK F<|cK U (aP fun B=>?_) (aQ fun B=>?_)
 ·refine WS fun _ G=>mj (ay 0 U) B dc fun C=>?_
  have A:l=[]:=by simpa using C
  refine fg 141 4 ?_
  rw [show (own none 0 141 4 ([]:List (List Value)))=own none 0 141 4 (l.map bI.cells) from by rw [A]; rfl]
  refine rP 1 [] mn ?_
  refine RK G<|an ?_
  refine LX hQ (none,0) [0] [] mn U U U ?_ ?_
  ·first|rfl|(rw [A]; rfl)
  ·trivial
 refine WK E<|WS fun _ H=>kN U sQ U fun J=>rP 1 [] mn ?_
 refine eK (es:=(List.map bI.cells [])) (C':=[own (some ⟨J,0,none⟩) 0 141 4 (List.map bI.cells []),_]) 0 U sm U (by simp [maxLen]) U ?_
 refine cp (es2:=(List.map bI.cells l)) (m':=l.length) 0 U U U QZ U U sm (ay 1 U) (pY _) os (by first|(simp only [maxLen]; omega)|(simp [maxLen]; omega)) sm sm U fun AA K=>?_
 try dsimp only
 refine rP 1 [] mn ?_
 refine RK H<|an ?_
 refine LX hQ (AA,K) [0] [] mn U U U ?_ ?_
 ·first|rfl|(rw [A]; rfl)
 ·trivial
theorem JS (l:List ck) (lA:OA) (lC:Nat) (hlen:l.length≤1000000):
 lg Tryz.prog 113 [(vS lA l.length lC)] [(rd lA l.length 3 (l.map ck.cells))] (fun (x:(OA)×Nat)=>(vS x.1 l.length x.2)) (fun (x:(OA)×Nat)=>True) (fun (x:(OA)×Nat)=>[(own x.1 x.2 137 3 (l.map ck.cells))]):=by
 refine db kr Tryz.func113 U U fun L Q hQ hN=>?_
 try dsimp only
 refine WS fun _ D=>aY 1 U<|RK D<|ai fun _ E=>WS fun _ F=>rP 1 [] mn ?_
 refine rS (BI U (qt N6))<|RK F<|cK U (aP fun B=>?_) (aQ fun B=>?_)
 ·refine WS fun _ G=>mj (ay 0 U) B dc fun C=>?_
  have A:l=[]:=by simpa using C
  refine fg 137 3 ?_
  rw [show (own none 0 137 3 ([]:List (List Value)))=own none 0 137 3 (l.map ck.cells) from by rw [A]; rfl]
  refine rP 1 [] mn ?_
  refine RK G<|an ?_
  refine LX hQ (none,0) [0] [] mn U U U ?_ ?_
  ·first|rfl|(rw [A]; rfl)
  ·trivial
 refine WK E<|WS fun _ H=>kN U nF U fun J=>rP 1 [] mn ?_
 refine eK (es:=(List.map ck.cells [])) (C':=[own (some ⟨J,0,none⟩) 0 137 3 (List.map ck.cells []),_]) 0 U sm U (by simp [maxLen]) U ?_
 refine cp (es2:=(List.map ck.cells l)) (m':=l.length) 0 U U U N9 U U sm (ay 1 U) (p6 _) os (by first|(simp only [maxLen]; omega)|(simp [maxLen]; omega)) sm sm U fun AA K=>?_
 try dsimp only
 refine rP 1 [] mn ?_
 refine RK H<|an ?_
 refine LX hQ (AA,K) [0] [] mn U U U ?_ ?_
 ·first|rfl|(rw [A]; rfl)
 ·trivial
theorem KC (l:List aK) (lA:OA) (lC:Nat) (hlen:l.length≤1000000):
 lg Tryz.prog 116 [(vS lA l.length lC)] [(rd lA l.length 2 (l.map aK.cells))] (fun (x:(OA)×Nat)=>(vS x.1 l.length x.2)) (fun (x:(OA)×Nat)=>True) (fun (x:(OA)×Nat)=>[(own x.1 x.2 165 2 (l.map aK.cells))]):=by
 refine db kr Tryz.func116 U U fun L Q hQ hN=>?_
 try dsimp only
 refine WS fun _ D=>aY 1 U<|RK D<|ai fun _ E=>WS fun _ F=>rP 1 [] mn ?_
 refine rS (BI U (qt Qv))<|RK F<|cK U (aP fun B=>?_) (aQ fun B=>?_)
 ·refine WS fun _ G=>mj (ay 0 U) B dc fun C=>?_
  have A:l=[]:=by simpa using C
  refine fg 165 2 ?_
  rw [show (own none 0 165 2 ([]:List (List Value)))=own none 0 165 2 (l.map aK.cells) from by rw [A]; rfl]
  refine rP 1 [] mn ?_
  refine RK G<|an ?_
  refine LX hQ (none,0) [0] [] mn U U U ?_ ?_
  ·first|rfl|(rw [A]; rfl)
  ·trivial
 refine WK E<|WS fun _ H=>kN U wv U fun J=>rP 1 [] mn ?_
 refine eK (es:=(List.map aK.cells [])) (C':=[own (some ⟨J,0,none⟩) 0 165 2 (List.map aK.cells []),_]) 0 U sm U (by simp [maxLen]) U ?_
 refine cp (es2:=(List.map aK.cells l)) (m':=l.length) 0 U U U Qa U U sm (ay 1 U) (nT _) os (by first|(simp only [maxLen]; omega)|(simp [maxLen]; omega)) sm sm U fun AA K=>?_
 try dsimp only
 refine rP 1 [] mn ?_
 refine RK H<|an ?_
 refine LX hQ (AA,K) [0] [] mn U U U ?_ ?_
 ·first|rfl|(rw [A]; rfl)
 ·trivial
theorem Io (es:List (List Value)) (lA:OA) (n lC:Nat) (hlen:n≤1000000) (hes:es.length=n) (hone: ∀ v∈es.flatten,v.oneCell'=true):
 lg Tryz.prog 111 [(vS lA n lC)] [(rd lA n 2 es)] (fun (x:(OA)×Nat)=>(vS x.1 n x.2)) (fun (x:(OA)×Nat)=>True) (fun (x:(OA)×Nat)=>[(own x.1 x.2 119 2 es)]):=by
 refine db kr Tryz.func111 U U fun L Q hQ hN=>?_
 try dsimp only
 refine WS fun _ D=>aY 1 U<|RK D<|ai fun _ E=>WS fun _ F=>rP 1 [] mn ?_
 refine rS (BI U (qt Ra))<|RK F<|cK U (aP fun B=>?_) (aQ fun B=>?_)
 ·refine WS fun _ G=>mj (ay 0 U) B dc fun C=>?_
  have A:es=[]:=C
  refine fg 119 2 ?_
  rw [show (own none 0 119 2 ([]:List (List Value)))=own none 0 119 2 es from by rw [A]]
  refine rP 1 [] mn ?_
  refine RK G<|an ?_
  refine LX hQ (none,0) [0] [] mn U U U ?_ ?_
  ·first|rfl|(rw [hes]; rfl)|(rw [← hes,A]; rfl)
  ·trivial
 refine WK E<|WS fun _ H=>kN U uq U fun J=>rP 1 [] mn ?_
 refine eK (es:=(List.map de.cells [])) (C':=[own (some ⟨J,0,none⟩) 0 119 2 (List.map de.cells []),_]) 0 U sm U (by simp [maxLen]) U ?_
 refine cp (es2:=es) (m':=es.length) 0 U U U Su U U sm (ay 1 U) hone (by simp; omega) (by simp [maxLen]; omega) sm U U fun AA K=>?_
 try dsimp only
 refine rP 1 [] mn ?_
 refine RK H<|an ?_
 refine LX hQ (AA,K) [0] [] mn U U U ?_ ?_
 ·first|rfl|(rw [hes]; rfl)|(rw [← hes,A]; rfl)
 ·trivial
theorem I6 (es:List (List Value)) (lA:OA) (n lC:Nat) (hlen:n≤1000000) (hes:es.length=n) (hone: ∀ v∈es.flatten,v.oneCell'=true):
 lg Tryz.prog 115 [(vS lA n lC)] [(rd lA n 7 es)] (fun (x:(OA)×Nat)=>(vS x.1 n x.2)) (fun (x:(OA)×Nat)=>True) (fun (x:(OA)×Nat)=>[(own x.1 x.2 76 7 es)]):=by
 refine db kr Tryz.func115 U U fun L Q hQ hN=>?_
 try dsimp only
 refine WS fun _ D=>aY 1 U<|RK D<|ai fun _ E=>WS fun _ F=>rP 1 [] mn ?_
 refine rS (BI U (qt Sv))<|RK F<|cK U (aP fun B=>?_) (aQ fun B=>?_)
 ·refine WS fun _ G=>mj (ay 0 U) B dc fun C=>?_
  have A:es=[]:=C
  refine fg 76 7 ?_
  rw [show (own none 0 76 7 ([]:List (List Value)))=own none 0 76 7 es from by rw [A]]
  refine rP 1 [] mn ?_
  refine RK G<|an ?_
  refine LX hQ (none,0) [0] [] mn U U U ?_ ?_
  ·first|rfl|(rw [hes]; rfl)|(rw [← hes,A]; rfl)
  ·trivial
 refine WK E<|WS fun _ H=>kN U rI U fun J=>rP 1 [] mn ?_
 refine eK (es:=(List.map bp.cells [])) (C':=[own (some ⟨J,0,none⟩) 0 76 7 (List.map bp.cells []),_]) 0 U sm U (by simp [maxLen]) U ?_
 refine cp (es2:=es) (m':=es.length) 0 U U U P4 U U sm (ay 1 U) hone (by simp; omega) (by simp [maxLen]; omega) sm U U fun AA K=>?_
 try dsimp only
 refine rP 1 [] mn ?_
 refine RK H<|an ?_
 refine LX hQ (AA,K) [0] [] mn U U U ?_ ?_
 ·first|rfl|(rw [hes]; rfl)|(rw [← hes,A]; rfl)
 ·trivial
theorem HJ (es:List (List Value)) (lA:OA) (n lC:Nat) (hlen:n≤1000000) (hes:es.length=n) (hone: ∀ v∈es.flatten,v.oneCell'=true):
 lg Tryz.prog 114 [(vS lA n lC)] [(rd lA n 1 es)] (fun (x:(OA)×Nat)=>(vS x.1 n x.2)) (fun (x:(OA)×Nat)=>True) (fun (x:(OA)×Nat)=>[(own x.1 x.2 71 1 es)]):=by
 refine db kr Tryz.func114 U U fun L Q hQ hN=>?_
 try dsimp only
 refine WS fun _ D=>aY 1 U<|RK D<|ai fun _ E=>WS fun _ F=>rP 1 [] mn ?_
 refine rS (BI U (qt QU))<|RK F<|cK U (aP fun B=>?_) (aQ fun B=>?_)
 ·refine WS fun _ G=>mj (ay 0 U) B dc fun C=>?_
  have A:es=[]:=C
  refine fg 71 1 ?_
  rw [show (own none 0 71 1 ([]:List (List Value)))=own none 0 71 1 es from by rw [A]]
  refine rP 1 [] mn ?_
  refine RK G<|an ?_
  refine LX hQ (none,0) [0] [] mn U U U ?_ ?_
  ·first|rfl|(rw [hes]; rfl)|(rw [← hes,A]; rfl)
  ·trivial
 refine WK E<|WS fun _ H=>kN U lk U fun J=>rP 1 [] mn ?_
 refine eK (es:=(List.map sC [])) (C':=[own (some ⟨J,0,none⟩) 0 71 1 (List.map sC []),_]) 0 U sm U (by simp [maxLen]) U ?_
 refine cp (es2:=es) (m':=es.length) 0 U U U Qf U U sm (ay 1 U) hone (by simp; omega) (by simp [maxLen]; omega) sm U U fun AA K=>?_
 try dsimp only
 refine rP 1 [] mn ?_
 refine RK H<|an ?_
 refine LX hQ (AA,K) [0] [] mn U U U ?_ ?_
 ·first|rfl|(rw [hes]; rfl)|(rw [← hes,A]; rfl)
 ·trivial
end
section
open Go.RowKit
theorem LC (r:cr) (kA:OA) (kC:Nat) (az:List RA) (cA:OA) (cC:Nat) (bA:OA) (bC:Nat) (slA:OA) (slC:Nat) (drA:OA) (drC:Nat) (ha:List cD) (heA:OA) (heC:Nat) (hin:fw r az ha):
 lg Tryz.prog 83 [(vA (cj.cells (pZ r kA kC cA cC bA bC slA slC drA drC heA heC)))] [(rd kA r.aA.aM.length 9 (r.aA.aM.map al.cells)),(rd cA r.aA.aj.length 2 (List.zipWith ao.cells r.aA.aj az)),(eH (aU ao.gh r.aA.aj az)),(rd bA r.aA.ae.length 4 (r.aA.ae.map bI.cells)),(rd slA r.aH.length 1 (r.aH.map iC)),(rd drA r.cm.length 1 (r.cm.map iC)),(rd heA r.aq.length 1 (List.zipWith cz r.aq ha)),(eH (aU iA r.aq ha))] (fun (x:(OA)×Nat×(OA)×Nat×(List RA)×(OA)×Nat×(OA)×Nat×(OA)×Nat×(OA)×Nat×(List cD))=>(vA (cj.cells (cj.mk (bT.mk (bo.mk (bf.mk x.1 r.aA.aM.length x.2.1)) r.aA.gG (bf.mk x.2.2.1 r.aA.aj.length x.2.2.2.1) (bf.mk x.2.2.2.2.2.1 r.aA.ae.length x.2.2.2.2.2.2.1) r.aA.cG r.aA.eg r.aA.cN) (bf.mk x.2.2.2.2.2.2.2.1 r.aH.length x.2.2.2.2.2.2.2.2.1) (bf.mk x.2.2.2.2.2.2.2.2.2.1 r.cm.length x.2.2.2.2.2.2.2.2.2.2.1) r.iN (bf.mk x.2.2.2.2.2.2.2.2.2.2.2.1 r.aq.length x.2.2.2.2.2.2.2.2.2.2.2.2.1))))) (fun (x:(OA)×Nat×(OA)×Nat×(List RA)×(OA)×Nat×(OA)×Nat×(OA)×Nat×(OA)×Nat×(List cD))=>(x.2.2.2.2.1.length=r.aA.aj.length∧mC r.aA.aj x.2.2.2.2.1)∧uJ r.aq x.2.2.2.2.2.2.2.2.2.2.2.2.2) (fun (x:(OA)×Nat×(OA)×Nat×(List RA)×(OA)×Nat×(OA)×Nat×(OA)×Nat×(OA)×Nat×(List cD))=>[(own x.1 x.2.1 163 9 (r.aA.aM.map al.cells)),(own x.2.2.1 x.2.2.2.1 119 2 (List.zipWith ao.cells r.aA.aj x.2.2.2.2.1)),(bB (aU ao.owns r.aA.aj x.2.2.2.2.1)),(own x.2.2.2.2.2.1 x.2.2.2.2.2.2.1 141 4 (r.aA.ae.map bI.cells)),(own x.2.2.2.2.2.2.2.1 x.2.2.2.2.2.2.2.2.1 3 1 (r.aH.map iC)),(own x.2.2.2.2.2.2.2.2.2.1 x.2.2.2.2.2.2.2.2.2.2.1 3 1 (r.cm.map iC)),(own x.2.2.2.2.2.2.2.2.2.2.2.1 x.2.2.2.2.2.2.2.2.2.2.2.2.1 71 1 (List.zipWith cz r.aq x.2.2.2.2.2.2.2.2.2.2.2.2.2)),(bB (aU jV r.aq x.2.2.2.2.2.2.2.2.2.2.2.2.2))]):=by
 have C:=hin.line
 have A8:=hin.iR
 have M:=hin.has
 have BK:=hin.iK
 have BI:=hin.draw
 have BL:=dw (r:=r)
 have BY:=C.rK
 have BV:=C.rD
 have BU:=C.ry
 have A5:=C.mE
 refine db kr Tryz.func83 U U fun w0 Q hQ hN=>?_
 try dsimp only
 refine WS fun _ A1=>fm U fun b2=>AL U qC fun b3=>RK A1<|WS fun _ A2=>rP 2 [] mn ?_
 refine RK A2<|ai fun _ A3=>dp cf [8,13,18,22,25,28] [7,11,15] [0,1,2] [0,2,3,4,5,6,7,8,9] [0,1,2,3,4,5,6,7,8,9] U U U U U<|eS U (MV U)<|eS U (MV U)<|eS U (MV U)<|eS U (MV U)<|eS U (SX (bL U U) U U)<|eS U (FA 0 U e_ U)<|eS U (FA 0 U e_ U)<|fS U (L1 (vS kA r.aA.aM.length kC) 1 U bX U U)<|eS U (MV U)<|eS U (SX (bL U U) U U)<|eS U (FA 2 U e_ U)<|fS U (L1 (vS cA r.aA.aj.length cC) 1 U bX U U)<|eS U (MV U)<|eS U (SX (bL U U) U U)<|eS U (FA 3 U e_ U)<|fS U (L1 (vS bA r.aA.ae.length bC) 1 U bX U U)<|eS U (SX (bL U U) U U)<|eS U (FA 0 U e_ U)<|eS U (FA 0 U e_ U)<|eS U (SX (bL U U) U U)<|eS U (FA 2 U e_ U)<|eS U (SX (bL U U) U U)<|eS U (FA 3 U e_ U)<|eu U<|gl U fun T6 A4=>?_
 refine cX (JU r.aA.aM kA kC sd) (aZ [2]) U fun y7 BZ=>?_
 obtain ⟨a9,S⟩:=y7
 try dsimp only
 refine ax (A4 _ _ (aD [1,3,4,5,6,7,8,9,10]) (aD [1,2,3,4,5,6,7,8,9,10]) ?_)
 refine gl U fun T11 Ae=>?_
 refine cX (Io (List.zipWith ao.cells r.aA.aj az) cA r.aA.aj.length cC sd (by exact gn A5) (by exact xD _ _)) (aZ [4]) U fun A_ BM=>?_
 obtain ⟨J,K⟩:=A_
 try dsimp only
 refine ax (Ae _ _ (aD [2,4,5,6,7,8,9,10,11]) (aD [2,3,4,5,6,7,8,9,10,11]) ?_)
 refine gl U fun T16 Af=>?_
 refine cX (HR r.aA.ae bA bC sd) (aZ [7]) U fun BA BN=>?_
 obtain ⟨Y,Z⟩:=BA
 try dsimp only
 refine ax (Af _ _ (aD [3,5,6,7,8,9,10,11,12]) (aD [3,4,5,6,7,8,9,10,11,12]) ?_)
 refine bS U fun T21 Ag=>Tu (cj.cells (cj.mk (bT.mk (bo.mk (bf.mk a9 r.aA.aM.length S)) r.aA.gG (bf.mk cA r.aA.aj.length cC) (bf.mk bA r.aA.ae.length bC) r.aA.cG r.aA.eg r.aA.cN) (bf.mk slA r.aH.length slC) (bf.mk drA r.cm.length drC) r.iN (bf.mk heA r.aq.length heC))) U Ta U U<|ax (Ag _ _ (aD [3,5,6,7,8,9,10,11,12]) ?_)
 refine bS U fun T22 Ah=>Tu (cj.cells (cj.mk (bT.mk (bo.mk (bf.mk a9 r.aA.aM.length S)) r.aA.gG (bf.mk J r.aA.aj.length K) (bf.mk bA r.aA.ae.length bC) r.aA.cG r.aA.eg r.aA.cN) (bf.mk slA r.aH.length slC) (bf.mk drA r.cm.length drC) r.iN (bf.mk heA r.aq.length heC))) U RM U U<|ax (Ah _ _ (aD [3,5,6,7,8,9,10,11,12]) ?_)
 refine bS U fun T23 Ai=>Tu (cj.cells (cj.mk (bT.mk (bo.mk (bf.mk a9 r.aA.aM.length S)) r.aA.gG (bf.mk J r.aA.aj.length K) (bf.mk Y r.aA.ae.length Z) r.aA.cG r.aA.eg r.aA.cN) (bf.mk slA r.aH.length slC) (bf.mk drA r.cm.length drC) r.iN (bf.mk heA r.aq.length heC))) U Sc U U<|ax (Ai _ _ (aD [3,5,6,7,8,9,10,11,12]) ?_)
 refine eY U<|KK A3<|ai fun _ AI=>WS fun _ AJ=>aY 1 U<|rS (SX (bL U U) U U)<|rP 4 [] (mc 4 U mn) ?_
 refine RK AJ<|ar<|kW ?_
 have E:(0≤r.aA.aj.length)∧(([]:List RA).length=0)∧(mC r.aA.aj ([]:List RA)):=by exact ⟨Nat.zero_le _,rfl,fun k m a _ h=>by simp at h⟩
 refine bx (ι:={z:Nat×(List RA) // (z.1≤r.aA.aj.length)∧(z.2.length=z.1)∧(mC r.aA.aj z.2)}) [1,2,3,39] [1,3,4,5,6,7,8,9,10,11,12,13] U U (fun z=>[(40,(vI (z.1.1:Int)))]) (fun z=>[(bB (aU ao.owns (r.aA.aj.take z.1.1) z.1.2)),(own J K 119 2 (List.zipWith ao.cells r.aA.aj (ir z.1.2 az z.1.1)))]) (fun _=>rfl) (fun _=>rfl) (fun z=>r.aA.aj.length-z.1.1) ⟨(0,([]:List RA)),E⟩ (aN U) (aD [1,3,4,5,6,7,8,9,10,11,12,13,0,2]) ?_
 clear E
 rintro ⟨⟨i,bz⟩,⟨AE,B,V⟩⟩ J26 AF
 try dsimp only at AE B V
 try dsimp only
 refine WS fun _ AK=>rP 1 [] mn ?_
 refine RK AK<|ai fun _ AM=>cK U (aP fun Ay=>?_) (aQ fun Ay=>?_)
 ·refine WK AM<|ai fun _ AN=>ar<|WS fun _ AO=>rP 2 [] mn ?_
  refine RK AO<|dp cf [13,16] [10,11,12,13,14] [0] [0,1,2,3,4,5,6,7,8,9,10,11,12] [0,1,2,3,4,5,6,7,8,9,10,11,12,13] U U U U U<|eS U (MV U)<|eS U (SX (bL U U) U U)<|eS U (FA 2 U e_ U)<|eS U (L1 (vS J r.aA.aj.length K) 3 U bX U U)<|eS U (MV U)<|eS U (MV U)<|eS U (SX (bL U U) U U)<|eS U (FA 2 U e_ U)<|eS U (L1 (vS J r.aA.aj.length K) 3 U bX U U)<|eS U (MV U) ?_
  obtain ⟨x,hx⟩:=aG r.aA.aj i I
  obtain ⟨xa,s⟩:=aG az i I
  have Ax:(List.zipWith ao.cells r.aA.aj (ir bz az i))[i]? =some (ao.cells x xa):=cH hx (sU B s)
  have BX:=(C.PY _ _ _ hx s).2
  refine fS U (IA i U (ak (n:=r.aA.aj.length) 13 U (gn (by rw [ed B I]; exact C.mE))) uq dc I I) ?_
  refine fS U (nP ((i*2)+1) U (ak (n:=r.aA.aj.length) 13 U (gn (by rw [ed B I]; exact C.mE))) (Nat.mul_pos I dc) e_ U) ?_
  refine fS U (fI i 1 (vS xa.1 x.aT.length xa.2) U bX (ak (n:=r.aA.aj.length) 13 U (gn (by rw [ed B I]; exact C.mE))) Ax U dc U) ?_
  refine fS U (IA i U (ak (n:=r.aA.aj.length) 13 U (gn (by rw [ed B I]; exact C.mE))) uq dc I I) ?_
  refine fS U (nP ((i*2)+1) U (ak (n:=r.aA.aj.length) 13 U (gn (by rw [ed B I]; exact C.mE))) (Nat.mul_pos I dc) e_ U) ?_
  refine eu U<|gl U fun T32 Aj=>?_
  refine cX (JS x.aT xa.1 xa.2 sd) (aC (show gI _ (rd xa.1 x.aT.length 3 (x.aT.map ck.cells)).holds from (b_ 6 U (bu hx s (by simp [ao.gh]))))<|aS) U fun BB BO=>?_
  obtain ⟨P,T⟩:=BB
  try dsimp only
  refine ax (Aj _ _ (aD [1,2,3,4,5,6,7,8,9,10,11,12,13]) (aD [1,2,3,4,5,6,7,8,9,10,11,12,13,14]) ?_)
  refine bS U fun T37 Ak=>c_ (k:=i) (o:=1) (vs:=[(vS P x.aT.length T)]) (es':=(List.zipWith ao.cells r.aA.aj (ir (bz++[(P,T)]) az (i+1)))) (C':=[_,_,_,_,_,_,_,_,_,_,_,_,_,_,(own J K 119 2 (List.zipWith ao.cells r.aA.aj (ir (bz++[(P,T)]) az (i+1))))]) 14 U U U Nn U U U U Ax U dc (by exact qH (c:=ao.cells) (b:=(P,T)) hx B s) U<|ax (Ak _ _ (aD [1,2,3,4,5,6,7,8,9,10,11,12,13]) ?_)
  refine eY U<|aB<|KK AN<|ag<|rP 2 [] mn ?_
  refine ax<|OT 0 U fun t=>?_
  simp only [List.length_map] at t
  refine zO (Y':=aU ao.owns (r.aA.aj.take (i+1)) (bz++[(P,T)])) 13 0 U U (ng (f:=ao.owns) (b:=(P,T)) hx B) ?_
  have At:(vI (((i+1):Nat):Int))=(vI ((i:Int)+1)):=by exact cI I
  refine aI (AF ⟨((i+1),(bz++[(P,T)])),⟨I,by simp; omega,B6 V B hx t⟩⟩ _ _ _ U os (bY 4<|aO U At<|cO.nil _) (aD [1,2,3,4,5,6,7,8,9,10,11,12,0,13]))
 refine bj<|aa<|aa<|au<|KK AI<|ai fun _ AP=>?_
 have A6:bz.length=r.aA.aj.length:=by omega
 have A7:=V
 rw [show (ir bz az i)=bz from qG I,show r.aA.aj.take i=r.aA.aj from List.take_of_length_le I]
 refine dp cf [2,5,8,10,12,14] [1,3,5] [0,1,2] [0,1,2,4,5,6,7,8,9,10,11,12,13] [0,1,2,3,4,5,6,7,8,9,10,11,12,13] U U U U U<|eS U (FA 7 U e_ U)<|fS U (L1 (vS slA r.aH.length slC) 3 U bX U U)<|eS U (FA 8 U e_ U)<|fS U (L1 (vS drA r.cm.length drC) 3 U bX U U)<|eS U (FA 10 U e_ U)<|fS U (L1 (vS heA r.aq.length heC) 3 U bX U U)<|eS U (FA 7 U e_ U)<|eS U (FA 8 U e_ U)<|eS U (FA 10 U e_ U)<|eu U<|gl U fun T40 Al=>?_
 refine cX (zw r.aH slA slC sd) (aZ [8]) U fun BC BP=>?_
 obtain ⟨g,j⟩:=BC
 try dsimp only
 refine ax (Al _ _ (aD [1,2,3,5,6,7,8,9,10,11,12,13,14]) (aD [1,2,3,4,5,6,7,8,9,10,11,12,13,14]) ?_)
 refine gl U fun T45 Am=>?_
 refine cX (zw r.cm drA drC sd) (aZ [10]) U fun BD BQ=>?_
 obtain ⟨w,AB⟩:=BD
 try dsimp only
 refine ax (Am _ _ (aD [2,3,4,6,7,8,9,10,11,12,13,14,15]) (aD [2,3,4,5,6,7,8,9,10,11,12,13,14,15]) ?_)
 refine gl U fun T50 An=>?_
 refine cX (HJ (List.zipWith cz r.aq ha) heA r.aq.length heC sd (by exact dy M) (by exact zo _ _)) (aZ [12]) U fun BE BR=>?_
 obtain ⟨W,X⟩:=BE
 try dsimp only
 refine ax (An _ _ (aD [3,4,5,7,8,9,10,11,12,13,14,15,16]) (aD [3,4,5,6,7,8,9,10,11,12,13,14,15,16]) ?_)
 refine bS U fun T55 Ao=>SF (cj.cells (cj.mk (bT.mk (bo.mk (bf.mk a9 r.aA.aM.length S)) r.aA.gG (bf.mk J r.aA.aj.length K) (bf.mk Y r.aA.ae.length Z) r.aA.cG r.aA.eg r.aA.cN) (bf.mk g r.aH.length j) (bf.mk drA r.cm.length drC) r.iN (bf.mk heA r.aq.length heC))) U wq U U<|ax (Ao _ _ (aD [3,4,5,7,8,9,10,11,12,13,14,15,16]) ?_)
 refine bS U fun T56 Ap=>SF (cj.cells (cj.mk (bT.mk (bo.mk (bf.mk a9 r.aA.aM.length S)) r.aA.gG (bf.mk J r.aA.aj.length K) (bf.mk Y r.aA.ae.length Z) r.aA.cG r.aA.eg r.aA.cN) (bf.mk g r.aH.length j) (bf.mk w r.cm.length AB) r.iN (bf.mk heA r.aq.length heC))) U wq U U<|ax (Ap _ _ (aD [3,4,5,7,8,9,10,11,12,13,14,15,16]) ?_)
 refine bS U fun T57 Aq=>SF (cj.cells (cj.mk (bT.mk (bo.mk (bf.mk a9 r.aA.aM.length S)) r.aA.gG (bf.mk J r.aA.aj.length K) (bf.mk Y r.aA.ae.length Z) r.aA.cG r.aA.eg r.aA.cN) (bf.mk g r.aH.length j) (bf.mk w r.cm.length AB) r.iN (bf.mk W r.aq.length X))) U QC U U<|ax (Aq _ _ (aD [3,4,5,7,8,9,10,11,12,13,14,15,16]) ?_)
 refine eY U<|KK AP<|ai fun _ AQ=>WS fun _ AR=>rP 4 [] (mc 6 U mn) ?_
 refine RK AR<|ar<|kW ?_
 have E:(0≤r.aq.length)∧(([]:List cD).length=0)∧(∀ (k:Nat) y (a:cD),r.aq[k]? =some y→([]:List cD)[k]? =some a→a.2.length=y.length):=by exact ⟨Nat.zero_le _,rfl,fun k y a _ q=>by simp at q⟩
 refine bx (ι:={z:Nat×(List cD) // (z.1≤r.aq.length)∧(z.2.length=z.1)∧(∀ (k:Nat) y (a:cD),r.aq[k]? =some y→z.2[k]? =some a→a.2.length=y.length)}) [1,2,74] [2,3,4,5,6,7,8,9,10,11,12,13,14,15,16,17] U U (fun z=>[(75,(vI (z.1.1:Int)))]) (fun z=>[(bB (aU jV (r.aq.take z.1.1) z.1.2)),(own W X 71 1 (List.zipWith cz r.aq (ir z.1.2 ha z.1.1)))]) (fun _=>rfl) (fun _=>rfl) (fun z=>r.aq.length-z.1.1) ⟨(0,([]:List cD)),E⟩ (aN U) (aD [2,3,4,5,6,7,8,9,10,11,12,13,14,15,16,17,0,1]) ?_
 clear E
 rintro ⟨⟨h,hz⟩,⟨l,A,L⟩⟩ J60 AG
 try dsimp only at l A L
 try dsimp only
 refine WS fun _ AS=>rP 1 [] mn ?_
 refine RK AS<|ai fun _ AT=>bE U (aQ fun Az=>?_) (aP fun Az=>?_)
 ·refine bj<|aa<|aa<|au<|KK AQ<|ai fun _ Ad=>?_
  have A9:uJ r.aq hz:=⟨I,L⟩
  rw [show (ir hz ha h)=hz from qG I,show r.aq.take h=r.aq from List.take_of_length_le I]
  refine ag<|rP 1 [] (mc 5 U mn) ?_
  refine O7 U kT U<|RK Ad<|an ?_
  refine LX hQ (a9,S,J,K,bz,Y,Z,g,j,w,AB,W,X,hz) [3,15,14,2,1,0,17,16] [0] (mc 4 U mn) U (by show List.all _ _=true; simp only [dY,List.all_nil,dv,gp,Bool.and_true]; rfl) U U ?_
  exact ⟨⟨A6,A7⟩,A9⟩
 refine WK AT<|ai fun _ AU=>ar<|WS fun _ AV=>rP 2 [] mn ?_
 refine RK AV<|ai fun _ AW=>dp cf [8,10] [6,7,8] [0] [0,1,2,3,4,5,6,7,8,9,10,11,12,13,14,15,16] [0,1,2,3,4,5,6,7,8,9,10,11,12,13,14,15,16,17] U U U U U<|eS U (FA 10 U e_ U)<|eS U (L1 (vS W r.aq.length X) 5 U bX U U)<|eS U (MV U)<|eS U (FA 10 U e_ U)<|eS U (L1 (vS W r.aq.length X) 5 U bX U U)<|eS U (MV U) ?_
 obtain ⟨ht,N⟩:=aG r.aq h I
 obtain ⟨D,O⟩:=aG ha h I
 have u:(List.zipWith cz r.aq (ir hz ha h))[h]? =some (cz ht D):=cH N (sU A O)
 have AD:=hin.my _ _ _ N O
 have e:=AD.mE
 have A8:=AD.len
 refine fS U (IA h U (ak (n:=r.aq.length) 17 U (dy (by rw [ed A I]; exact M))) lk dc I I) ?_
 refine fS U (fI h 0 (vS D.1.1 ht.length D.1.2) U bX (ak (n:=r.aq.length) 17 U (dy (by rw [ed A I]; exact M))) u U dc U) ?_
 refine fS U (IA h U (ak (n:=r.aq.length) 17 U (dy (by rw [ed A I]; exact M))) lk dc I I) ?_
 refine eu U<|gl U fun T67 Ar=>?_
 refine cX (I6 (List.zipWith av.cells ht D.2) D.1.1 ht.length D.1.2 sd (by exact jq e) (by exact EG _ _)) (aC (show gI _ (rd D.1.1 ht.length 7 (List.zipWith av.cells ht D.2)).holds from (b_ 13 U (bu N O bZ)))<|aS) U fun BF BS=>?_
 obtain ⟨G,H⟩:=BF
 try dsimp only
 refine ax (Ar _ _ (aD [1,2,3,4,5,6,7,8,9,10,11,12,13,14,15,16,17]) (aD [1,2,3,4,5,6,7,8,9,10,11,12,13,14,15,16,17,18]) ?_)
 refine bS U fun T72 As=>c_ (k:=h) (o:=0) (vs:=[(vS G ht.length H)]) (es':=(List.zipWith cz r.aq (ir (hz++[((G,H),D.2)]) ha (h+1)))) (C':=[_,_,_,_,_,_,_,_,_,_,_,_,_,_,_,_,_,_,(own W X 71 1 (List.zipWith cz r.aq (ir (hz++[((G,H),D.2)]) ha (h+1))))]) 18 U U U Q2 U U U U u U dc (by exact qH (b:=((G,H),D.2)) N A O) U<|ax (As _ _ (aD [1,2,3,4,5,6,7,8,9,10,11,12,13,14,15,16,17]) ?_)
 refine eY U<|KK AW<|WS fun _ AX=>rP 3 [] (mc 6 U mn) ?_
 have v:(List.zipWith cz r.aq (ir (hz++[((G,H),D.2)]) ha (h+1)))[h]? =some (cz ht ((G,H),D.2)):=cH N (CB A)
 refine rS (IA h U (ak (n:=r.aq.length) 18 U (dy (by rw [ed (by simp; omega) I]; exact M))) lk dc I I) ?_
 refine rS (fI h 0 (vS G ht.length H) U bX (ak (n:=r.aq.length) 18 U (dy (by rw [ed (by simp; omega) I]; exact M))) v U dc U) ?_
 refine rP 2 [] mn ?_
 refine RK AX<|ar<|kW ?_
 have E:(0≤ht.length)∧(([]:List RA).length=0):=by exact ⟨Nat.zero_le _,rfl⟩
 refine bx (ι:={z:Nat×(List RA) // (z.1≤ht.length)∧(z.2.length=z.1)}) [1,2,5,74,75,93] [2,3,4,5,6,7,8,9,10,11,12,13,14,15,16,17,18,19] U U (fun z=>[(94,(vI (z.1.1:Int)))]) (fun z=>[(bB (aU mP (ht.take z.1.1) z.1.2)),(own G H 76 7 (List.zipWith av.cells ht (ir z.1.2 D.2 z.1.1)))]) (fun _=>rfl) (fun _=>rfl) (fun z=>ht.length-z.1.1) ⟨(0,([]:List RA)),E⟩ (aN U) (aD [2,3,4,5,6,7,8,9,10,11,12,13,14,15,16,17,18,19,0,1]) ?_
 clear E
 rintro ⟨⟨i,dz⟩,⟨p,F⟩⟩ J74 AH
 try dsimp only at p F
 try dsimp only
 refine WS fun _ AY=>rP 1 [] mn ?_
 refine RK AY<|ai fun _ AZ=>bE U (aQ fun A0=>?_) (aP fun A0=>?_)
 ·refine bj<|aa<|aa<|au<|aB<|KK AU<|ag<|rP 2 [] mn ?_
  refine ax ?_
  have BJ:dz.length=ht.length:=by omega
  rw [show (ir dz D.2 i)=dz from qG I,show ht.take i=ht from List.take_of_length_le I]
  refine I8 (Z':=aU jV (r.aq.take (h+1)) (hz++[((G,H),dz)])) 16 18 19 U U (ng (f:=jV) (b:=((G,H),dz)) N A) ?_
  rw [By (y:=dz)]
  have Av:(vI (((h+1):Nat):Int))=(vI ((h:Int)+1)):=by exact cI I
  refine aI (AG ⟨((h+1),(hz++[((G,H),dz)])),⟨I,by simp; omega,ES N L A dso⟩⟩ _ _ _ U os (bY 3<|aO U Av<|cO.nil _) (aD [1,2,3,4,5,6,7,8,9,10,11,12,13,14,15,16,0,17]))
 refine WK AZ<|ai fun _ Aa=>ar<|WS fun _ Ab=>rP 2 [] mn ?_
 refine RK Ab<|ai fun _ Ac=>?_
 refine DM 19 U (by rw [jq (by rw [ed F I]; exact e)]; omega) (fun BH Ba=>?_)
 refine ag<|rP 3 [] (mc 5 U mn) ?_
 refine rS (IA h U (ak (n:=r.aq.length) 17 U (dy (by rw [ed (by simp; omega) I]; exact M))) lk dc I I) ?_
 refine rS (fI h 0 (vS G ht.length H) U bX (ak (n:=r.aq.length) 17 U (dy (by rw [ed (by simp; omega) I]; exact M))) v U dc U) ?_
 refine rP 1 [] mn ?_
 obtain ⟨d,hd⟩:=aG ht i I
 obtain ⟨da,AC⟩:=aG D.2 i I
 have Aw:(List.zipWith av.cells ht (ir dz D.2 i))[i]? =some (av.cells d da):=cH hd (sU F AC)
 have BW:=AD.sig d (aR hd)
 refine rS (Um i U Ba rI I I)<|rS (S5 ((i*7)+4) U Ba e_ U)<|aY 1 U<|RK Ac<|ag<|rP 2 [] mn ?_
 refine rS (SX (yN U U Ba) U U)<|rS (S5 (((i*7)+4)+2) U Ba e_ U) ?_
 refine rS (fI i 6 (vS da.1 d.bW.ah.length da.2) U bX (ak (n:=ht.length) 19 U (jq (by rw [ed F I]; exact e))) Aw U dc U) ?_
 refine cX (KC d.bW.ah da.1 da.2 sd) (aC (show gI _ (rd da.1 d.bW.ah.length 2 (d.bW.ah.map aK.cells)).holds from (b_ 13 U (bu N O (cW _ (bu hd AC (by simp [av.gh]))))))<|aS) U fun BG BT=>?_
 obtain ⟨R,AA⟩:=BG
 try dsimp only
 refine rS (SX (yN U U Ba) U U)<|rS (S5 (((i*7)+4)+2) U Ba e_ U)<|c_ (k:=i) (o:=6) (vs:=[(vS R d.bW.ah.length AA)]) (es':=(List.zipWith av.cells ht (ir (dz++[(R,AA)]) D.2 (i+1)))) (C':=[_,_,_,_,_,_,_,_,_,_,_,_,_,_,_,_,_,_,_,_,(own G H 76 7 (List.zipWith av.cells ht (ir (dz++[(R,AA)]) D.2 (i+1))))]) 20 U U U R_ U U U U Aw U dc (by exact qH (c:=av.cells) (b:=(R,AA)) hd F AC) U<|ax<|aB<|KK Aa<|ag<|rP 2 [] mn ?_
 refine ax<|zO (Y':=aU mP (ht.take (i+1)) (dz++[(R,AA)])) 19 0 U U (ng (f:=mP) (b:=(R,AA)) hd F) ?_
 have Au:(vI (((i+1):Nat):Int))=(vI ((i:Int)+1)):=by exact cI I
 refine aI (AH ⟨((i+1),(dz++[(R,AA)])),⟨I,by simp; omega⟩⟩ _ _ _ U os (bY 6<|aO U Au<|cO.nil _) (aD [1,2,3,4,5,6,7,8,9,10,11,12,13,14,15,16,17,18,0,19]))
end
section
open Go.RowKit
theorem xV (r:cr) (kA:OA) (kC:Nat) (az:List RA) (cA:OA) (cC:Nat) (bA:OA) (bC:Nat) (slA:OA) (slC:Nat) (drA:OA) (drC:Nat) (ha:List cD) (heA:OA) (heC:Nat) (tz:List RA) (tA:OA) (tC:Nat) (ms:Value) (gw:Nat) (h i:Int) (t:ab) (hin:fw r az ha) (hok:eJ r):
 lg Tryz.prog 58 [(vP gw),(vI h),(vI i),(vA (ab.cells t))] [(rd kA r.aA.aM.length 9 (r.aA.aM.map al.cells)),(rd cA r.aA.aj.length 2 (List.zipWith ao.cells r.aA.aj az)),(eH (aU ao.gh r.aA.aj az)),(rd bA r.aA.ae.length 4 (r.aA.ae.map bI.cells)),(rd slA r.aH.length 1 (r.aH.map iC)),(rd drA r.cm.length 1 (r.cm.map iC)),(rd heA r.aq.length 1 (List.zipWith cz r.aq ha)),(eH (aU iA r.aq ha)),(rd tA ((bV r).length) 1 (List.zipWith rM (bV r) tz)),(eH (aU yC (bV r) tz)),(cq gw 100 (gd.cells (gd.mk (pZ r kA kC cA cC bA bC slA slC drA drC heA heC) (bf.mk tA ((bV r).length) tC) ms)))] (fun (x:Bool×Int×(OA)×Nat×(OA)×Nat×(List RA)×(OA)×Nat×(OA)×Nat×(OA)×Nat×(OA)×Nat×(List cD))=>bif x.1 then (vT [(vA (cj.cells (cj.mk (bT.mk (bo.mk (bf.mk x.2.2.1 r.aA.aM.length x.2.2.2.1)) r.aA.gG (bf.mk x.2.2.2.2.1 r.aA.aj.length x.2.2.2.2.2.1) (bf.mk x.2.2.2.2.2.2.2.1 r.aA.ae.length x.2.2.2.2.2.2.2.2.1) r.aA.cG r.aA.eg r.aA.cN) (bf.mk x.2.2.2.2.2.2.2.2.2.1 r.aH.length x.2.2.2.2.2.2.2.2.2.2.1) (bf.mk x.2.2.2.2.2.2.2.2.2.2.2.1 r.cm.length x.2.2.2.2.2.2.2.2.2.2.2.2.1) r.iN (bf.mk x.2.2.2.2.2.2.2.2.2.2.2.2.2.1 ((gO r.aq h i t).length) x.2.2.2.2.2.2.2.2.2.2.2.2.2.2.1)))),(vI 0)]) else (vT [(vA (cj.cells (cj.mk (bT.mk (bo.mk (bf.mk none 0 0)) 0 (bf.mk none 0 0) (bf.mk none 0 0) 0 0 0) (bf.mk none 0 0) (bf.mk none 0 0) 0 (bf.mk none 0 0)))),(vI x.2.1)])) (fun (x:Bool×Int×(OA)×Nat×(OA)×Nat×(List RA)×(OA)×Nat×(OA)×Nat×(OA)×Nat×(OA)×Nat×(List cD))=>(x.1=true→((ou r h i t)=0∧(x.2.2.2.2.2.2.1.length=r.aA.aj.length∧mC r.aA.aj x.2.2.2.2.2.2.1)∧uJ (gO r.aq h i t) x.2.2.2.2.2.2.2.2.2.2.2.2.2.2.2))∧(x.1=false→(x.2.1=(ou r h i t)∧ ¬ (ou r h i t)=0))) (fun (x:Bool×Int×(OA)×Nat×(OA)×Nat×(List RA)×(OA)×Nat×(OA)×Nat×(OA)×Nat×(OA)×Nat×(List cD))=>bif x.1 then [(own x.2.2.1 x.2.2.2.1 163 9 (r.aA.aM.map al.cells)),(own x.2.2.2.2.1 x.2.2.2.2.2.1 119 2 (List.zipWith ao.cells r.aA.aj x.2.2.2.2.2.2.1)),(bB (aU ao.owns r.aA.aj x.2.2.2.2.2.2.1)),(own x.2.2.2.2.2.2.2.1 x.2.2.2.2.2.2.2.2.1 141 4 (r.aA.ae.map bI.cells)),(own x.2.2.2.2.2.2.2.2.2.1 x.2.2.2.2.2.2.2.2.2.2.1 3 1 (r.aH.map iC)),(own x.2.2.2.2.2.2.2.2.2.2.2.1 x.2.2.2.2.2.2.2.2.2.2.2.2.1 3 1 (r.cm.map iC)),(own x.2.2.2.2.2.2.2.2.2.2.2.2.2.1 x.2.2.2.2.2.2.2.2.2.2.2.2.2.2.1 71 1 (List.zipWith cz (gO r.aq h i t) x.2.2.2.2.2.2.2.2.2.2.2.2.2.2.2)),(bB (aU jV (gO r.aq h i t) x.2.2.2.2.2.2.2.2.2.2.2.2.2.2.2))] else []):=by
 have AI:=hin.line
 have AU:=hin.iR
 have AW:=hin.has
 have AP:=hin.iK
 have AM:=hin.draw
 have AQ:=dw (r:=r)
 have AY:=hok.num
 have AX:=hok.nh
 refine db Tz Tryz.func58 U U fun w0 Q hQ hN=>?_
 try dsimp only
 refine WS fun _ AC=>fm U fun b2=>AL U qC fun b3=>aY 1 U<|RK AC<|ai fun _ AD=>WS fun _ J=>aY 1 U<|rS (SX (bL U U) U U)<|rP 6 [] (mr 12 U mn) ?_
 refine eX (xs:=[.tmp 18]) (cs:=[(vI h)]) U di lh U U U U (by simp [Value.cells]) U U fun b6=>?_
 refine rS (CL (eA.eq (kZ 0 ((r.aq.length:Int)-1) ([h]) (some ⟨b6,0,none⟩) 1 sd) dj) (aC (a_ 0 U U (by simp [bU]) U)<|aS) U) ?_
 refine rP 2 [] mn ?_
 refine cE (t:=22) U (bg fun AA=>?_) (bh fun AA=>?_)
 ·refine aY 11 U<|RK J<|aL U<|WS fun _ AE=>rS (SX (bq (xs:=[]) (cs:=(cj.cells (cj.mk (bT.mk (bo.mk (bf.mk none 0 0)) 0 (bf.mk none 0 0) (bf.mk none 0 0) 0 0 0) (bf.mk none 0 0) (bf.mk none 0 0) 0 (bf.mk none 0 0)))) U U (br x_ U)) U U)<|sK U kT U<|rP 1 [] mn ?_
  refine RK AE<|an ?_
  refine LX hQ (false,2,none,0,none,0,[],none,0,none,0,none,0,none,0,[]) [] [0] (mc 1 U mn) U (by first|rfl|(show List.all _ _=true; simp only [cond_true,dY,List.all_nil,dv,gp,Bool.and_true]; rfl)) U ?_ ?_
  ·first|rfl|(simp only [cond_true,eZ]; rfl)
  ·refine ⟨vE,fun _=>?_⟩; first|exact od (gW (r:=r) (h:=h) (i:=i) (t:=t) I)|exact od (gW (r:=r) (h:=h) (i:=i) (t:=t) (fun q=>absurd q.2 asm))|exact od (mh (r:=r) (t:=t) ⟨I,asm⟩ A hd H)
 refine rP 2 [] mn ?_
 refine eX (xs:=[.tmp 24]) (cs:=[(vI i)]) U di lh U U U U (by simp [Value.cells]) U U fun b8=>?_
 refine rS (CL (eA.eq (Oo r kA kC az cA cC bA bC slA slC drA drC ha heA heC tz tA tC ms gw ([i]) (some ⟨b8,0,none⟩) 1 hin sd) dj) (nt [4,5,6,7,8,9,10,11,12,13,14]<|aC (a_ 0 U U (by simp [bU]) U)<|aS) U) ?_
 refine rP 3 [] mn ?_
 refine cE (t:=29) U (bg fun AB=>?_) (bh fun AB=>?_)
 ·refine aY 4 U<|RK J<|aL U<|WS fun _ AF=>rS (SX (bq (xs:=[]) (cs:=(cj.cells (cj.mk (bT.mk (bo.mk (bf.mk none 0 0)) 0 (bf.mk none 0 0) (bf.mk none 0 0) 0 0 0) (bf.mk none 0 0) (bf.mk none 0 0) 0 (bf.mk none 0 0)))) U U (br x_ U)) U U)<|Fi U kT U<|rP 1 [] mn ?_
  refine RK AF<|an ?_
  refine LX hQ (false,2,none,0,none,0,[],none,0,none,0,none,0,none,0,[]) [] [0] (mc 2 U mn) U (by first|rfl|(show List.all _ _=true; simp only [cond_true,dY,List.all_nil,dv,gp,Bool.and_true]; rfl)) U ?_ ?_
  ·first|rfl|(simp only [cond_true,eZ]; rfl)
  ·refine ⟨vE,fun _=>?_⟩; first|exact od (gW (r:=r) (h:=h) (i:=i) (t:=t) I)|exact od (gW (r:=r) (h:=h) (i:=i) (t:=t) (fun q=>absurd q.2 asm))|exact od (mh (r:=r) (t:=t) ⟨I,asm⟩ A hd H)
 refine e7 1 [] (mc 3 U mn) U<|rS (CL (FQ t) (aS) U)<|rP 2 [] mn ?_
 refine RK J<|cK U (bg fun Z=>?_) (bh fun Z=>?_)
 ·refine WS fun _ b=>rS (SX (bq (xs:=[]) (cs:=(cj.cells (cj.mk (bT.mk (bo.mk (bf.mk none 0 0)) 0 (bf.mk none 0 0) (bf.mk none 0 0) 0 0 0) (bf.mk none 0 0) (bf.mk none 0 0) 0 (bf.mk none 0 0)))) U U (br x_ U)) U U)<|Fi U kT U<|rP 1 [] mn ?_
  refine RK b<|an ?_
  refine LX hQ (false,2,none,0,none,0,[],none,0,none,0,none,0,none,0,[]) [] [0] (mc 2 U mn) U (by first|rfl|(show List.all _ _=true; simp only [cond_true,dY,List.all_nil,dv,gp,Bool.and_true]; rfl)) U ?_ ?_
  ·first|rfl|(simp only [cond_true,eZ]; rfl)
  ·refine ⟨vE,fun _=>?_⟩; first|exact od (gW (r:=r) (h:=h) (i:=i) (t:=t) I)|exact od (gW (r:=r) (h:=h) (i:=i) (t:=t) (fun q=>absurd q.2 asm))|exact od (mh (r:=r) (t:=t) ⟨I,asm⟩ A hd H)
 refine WK AD<|ai fun _ e=>WS fun _ f=>aY 1 U<|rS (SX (bL U U) U U)<|rP 4 [] (mr 14 U mn) ?_
 obtain ⟨ht,A⟩:=aG r.aq ((h).toNat) I
 obtain ⟨C,E⟩:=aG ha ((h).toNat) I
 have w:(List.zipWith cz r.aq ha)[(h).toNat]? =some (cz ht C):=cH A E
 refine rS (IA ((h).toNat) U (ay 10 U) lk dc I I) ?_
 have AH:=hin.my _ _ _ A E
 have AN:=AH.mE
 have AV:=(hok.my ht (aR A)).1
 refine rS (fI ((h).toNat) 0 (vS C.1.1 ht.length C.1.2) U Pf (ay 10 U) w U dc U)<|rP 1 [] mn ?_
 obtain ⟨d,hd⟩:=aG ht ((i).toNat) I
 obtain ⟨da,K⟩:=aG C.2 ((i).toNat) I
 have AG:(List.zipWith av.cells ht C.2)[(i).toNat]? =some (av.cells d da):=cH hd K
 refine rS (IA ((i).toNat) U (show gI _ (rd C.1.1 ht.length 7 (List.zipWith av.cells ht C.2)).holds from (b_ 11 U (bu A E bZ))) rI dc I I)<|rS (nP (((i).toNat)*7) U (show gI _ (rd C.1.1 ht.length 7 (List.zipWith av.cells ht C.2)).holds from (b_ 11 U (bu A E bZ))) (Nat.mul_pos I dc) Py U)<|rS (fI ((i).toNat) 0 (vB d.Out) U Ug (show gI _ (rd C.1.1 ht.length 7 (List.zipWith av.cells ht C.2)).holds from (b_ 11 U (bu A E bZ))) AG U dc U)<|RK f<|cK U (fun H=>?_) (fun H=>?_)
 ·refine WS fun _ g=>rS (SX (bq (xs:=[]) (cs:=(cj.cells (cj.mk (bT.mk (bo.mk (bf.mk none 0 0)) 0 (bf.mk none 0 0) (bf.mk none 0 0) 0 0 0) (bf.mk none 0 0) (bf.mk none 0 0) 0 (bf.mk none 0 0)))) U U (br x_ U)) U U)<|Fi U kT U<|rP 1 [] mn ?_
  refine RK g<|an ?_
  refine LX hQ (false,8,none,0,none,0,[],none,0,none,0,none,0,none,0,[]) [] [0] (mc 2 U mn) U (by first|rfl|(show List.all _ _=true; simp only [cond_true,dY,List.all_nil,dv,gp,Bool.and_true]; rfl)) U ?_ ?_
  ·first|rfl|(simp only [cond_true,eZ]; rfl)
  ·refine ⟨vE,fun _=>?_⟩; first|exact od (gW (r:=r) (h:=h) (i:=i) (t:=t) I)|exact od (gW (r:=r) (h:=h) (i:=i) (t:=t) (fun q=>absurd q.2 asm))|exact od (mh (r:=r) (t:=t) ⟨I,asm⟩ A hd H)
 refine WK e<|WS fun _ j=>aY 1 U<|rS (SX (bL U U) U U)<|rP 1 [] mn ?_
 refine rS (Ue (cj.cells (pZ r kA kC cA cC bA bC slA slC drA drC heA heC)) 14 U Rx U U U)<|cX (LC r kA kC az cA cC bA bC slA slC drA drC ha heA heC hin) (aZ [4,5,6,7,8,9,10,11]) U fun AK z=>?_
 obtain ⟨L,T,M,AS,S,N,V,O,W,P,X,R,Y,G⟩:=AK
 try dsimp only
 obtain ⟨⟨s,u⟩,D⟩:=z
 try dsimp only at s u D
 have AO:=D.1
 refine AL U qC fun AR=>fq U kT U<|RK j<|ai fun _ l=>?_
 obtain ⟨B,F⟩:=aG G ((h).toNat) (by have:=D.1; omega)
 have y:(List.zipWith cz r.aq G)[(h).toNat]? =some (cz ht B):=cH A F
 have AJ:=D.2 _ _ _ A F
 refine H5 8 A F U U ?_
 try dsimp only
 refine cS cf 9 kr<|l0 3 [] (mc 3 U mn) U<|dS (IA ((h).toNat) U (ak (n:=r.aq.length) 10 U (dy D.1)) lk dc I I)<|dS (fI ((h).toNat) 0 (vS B.1.1 ht.length B.1.2) U Pf (ak (n:=r.aq.length) 10 U (dy D.1)) y U dc U)<|dP 2 [] (mc 14 U mn) ?_
 refine dS (SX (bq (xs:=[(1,.const (vB true)),(2,.tmp 59)]) (cs:=(bp.cells (bp.mk false true t (ew.mk 0 0 (bf.mk none 0 0))))) U U (br Qw U)) U U) ?_
 obtain ⟨K,AT⟩:=aG B.2 ((i).toNat) I
 have v:(List.zipWith av.cells ht B.2)[(i).toNat]? =some (av.cells d K):=cH hd AT
 refine dS (IA ((i).toNat) U (ak (n:=ht.length) 0 U (jq AJ)) rI dc I I)<|cy<|c_ (k:=(i).toNat) (o:=0) (vs:=(bp.cells (bp.mk false true t (ew.mk 0 0 (bf.mk none 0 0))))) (es':=(List.zipWith av.cells (ht.set (i).toNat (iF t)) (B.2.set (i).toNat (none,0)))) (C':=[(own B.1.1 B.1.2 76 7 (List.zipWith av.cells (ht.set (i).toNat (iF t)) (B.2.set (i).toNat (none,0)))),_,_,_,_,_,_,_,_,_,_,_,_,_,_,_,_,_,_,_,_,_,_,_,_,_]) 0 U U U Pv U U U U v U dc (by exact nM (c:=av.cells) (m:=iF t) (a:=(none,0))) U<|RK l<|ai fun _ p=>Jd (d':=iF t) 1 hd AT U U U ?_
 refine Fy (h':=(ht.set (i).toNat (iF t))) (a':=(B.1,(B.2.set (i).toNat (none,0)))) 2 0 1 I (by have:=D.1; omega) U U ?_
 rw [← pU A,show List.zipWith cz r.aq G=List.zipWith cz (gO r.aq h i t) (G.set (h).toNat (B.1,(B.2.set (i).toNat (none,0)))) from by rw [pU A]; exact (yH A F (by rw [List.length_set])).symm]
 replace D:=Ji (i:=i) (t:=t) D A F
 refine ag<|e7 1 [] (mc 1 U mn) U<|S0 U kT U<|rP 1 [] mn ?_
 refine RK p<|an ?_
 refine LX hQ (true,0,L,T,M,AS,S,N,V,O,W,P,X,R,Y,(G.set (h).toNat (B.1,(B.2.set (i).toNat (none,0))))) [2,3,4,5,6,7,8,0] [0] (mc 11 U mn) U (by first|rfl|(show List.all _ _=true; simp only [cond_true,dY,List.all_nil,dv,gp,Bool.and_true]; rfl)) U ?_ ?_
 ·first|rfl|(simp only [cond_true,eZ]; rfl)
 ·exact ⟨fun _=>⟨Fu ⟨I,Z⟩ A hd H,⟨s,u⟩,D⟩,Lw⟩
end
end Go.Proofs.YtcoejkiaokbmpaaGreatDoor
