/-
 The statement juryReplaced_said, part 8 of 9: Jwb, Rr2, Jr1, Rr3, Rr4, Rr5, Rra, Jr2, Jr3, Jz1, Jw7, Jz2, Jz3, Jz4, Rx8, Jx1, Rx1, Jx2, Jx3, Jx4, LineOpen, RaceOpen, JOpen, DesOpen.
 Conditions: none.
-/
import Derived.Test.YtkaenmjhfajbkaaGreatDoorTx1
import Derived.Test.YtkaenmjhfajbkaaGreatDoorTx2
import Derived.Test.YtkaenmjhfajbkaaGreatDoorTx3
import Derived.Test.YtkaenmjhfajbkaaGreatDoorTx4
import Derived.Test.YtkaenmjhfajbkaaGreatDoorTx5
import Derived.Test.YtkaenmjhfajbkaaGreatDoorTx6
import Derived.Test.YtkaenmjhfajbkaaGreatDoorTx7
namespace Go.Proofs.YtkaenmjhfajbkaaGreatDoor
set_option maxRecDepth 100000
set_option maxHeartbeats 4000000
set_option linter.unusedVariables false
section
open Go.RowKit
theorem zg (j:cS) (kA:OA) (kC:Nat) (az:List RA) (cA:OA) (cC:Nat) (bA:OA) (bC:Nat) (slA:OA) (slC:Nat) (drA:OA) (drC:Nat) (ha:List cD) (heA:OA) (heC:Nat) (faA:OA) (faC:Nat) (prA:OA) (prC:Nat) (hin:gZ j az ha) (hok:dG j=0):
 nz Tryz.prog 45 [(vA (df.cells (df.mk (nq j kA kC cA cC bA bC slA slC drA drC heA heC faA faC prA prC))))] [(rd kA j.Race.ao.aO.length 9 (j.Race.ao.aO.map au.cells)),(rd cA j.Race.ao.aj.length 2 (List.zipWith ax.cells j.Race.ao.aj az)),(dE (bg ax.e_ j.Race.ao.aj az)),(rd bA j.Race.ao.ab.length 4 (j.Race.ao.ab.map bK.cells)),(rd slA j.Race.aV.length 1 (j.Race.aV.map iC)),(rd drA j.Race.bV.length 1 (j.Race.bV.map iC)),(rd heA j.Race.av.length 1 (List.zipWith bW j.Race.av ha)),(dE (bg er j.Race.av ha)),(rd faA j.aS.length 4 (j.aS.map aZ.cells)),(rd prA j.aJ.length 5 (j.aJ.map br.cells))] (fun (x:(List RA)×(OA)×Nat)=>(vS x.2.1 ((fF j).length) x.2.2)) (fun (x:(List RA)×(OA)×Nat)=>x.1.length=(fF j).length) (fun (x:(List RA)×(OA)×Nat)=>[(own x.2.1 x.2.2 29 1 (List.zipWith tM (fF j) x.1)),(bM (bg Fp (fF j) x.1))]):=by
 have AC:=hin.race
 have i:=hin.race.line
 have A4:=hin.race.g6
 have A5:=hin.race.has
 have AO:=hin.race.g7
 have u:=hin.nf
 have y:=hin.np
 have P:=(eA hok).1
 have O:=(eA hok).2
 have h:=(eg P).1
 have A8:=(eg P).2
 have d:=(d_ h).2.head
 unfold e7 at d
 have A6:=O.np
 have w:=xL (j:=j)
 refine eO kr Tryz.func45 U U fun w0 Q hQ hN=>?_
 try dsimp only
 refine WS fun _ Y=>eG U fun b2=>rP 1 [] mn ?_
 refine RK Y<|WS fun _ Z=>mU (kV:=iV) U U fun T=>?_
 try dsimp only
 refine bI 1 U<|RK Z<|aq fun _ a=>WS fun _ b=>rP 4 [] (mc 1 U mn) ?_
 refine rS (FU U) ?_
 refine cX (zZ j.aJ prA prC (Value.func (.func 42) [(vA (df.cells (df.mk (nq j kA kC cA cC bA bC slA slC drA drC heA heC faA faC prA prC))))].toArray [].toArray) (fun q S=>(iD j S)) (dE [(rd kA j.Race.ao.aO.length 9 (j.Race.ao.aO.map au.cells)),(rd cA j.Race.ao.aj.length 2 (List.zipWith ax.cells j.Race.ao.aj az)),(dE (bg ax.e_ j.Race.ao.aj az)),(rd bA j.Race.ao.ab.length 4 (j.Race.ao.ab.map bK.cells)),(rd slA j.Race.aV.length 1 (j.Race.aV.map iC)),(rd drA j.Race.bV.length 1 (j.Race.bV.map iC)),(rd heA j.Race.av.length 1 (List.zipWith bW j.Race.av ha)),(dE (bg er j.Race.av ha)),(rd faA j.aS.length 4 (j.aS.map aZ.cells)),(rd prA j.aJ.length 5 (j.aJ.map br.cells))]) (by intro q S k; exact k9 (fi:=[(vA (df.cells (df.mk (nq j kA kC cA cC bA bC slA slC drA drC heA heC faA faC prA prC))))]) (ca:=[]) (j3 (vG j kA kC az cA cC bA bC slA slC drA drC ha heA heC faA faC prA prC q S asm asm (by (obtain ⟨i_,_,e⟩:=k; exact ⟨i_,e⟩))) (bk [0,1,2,3,4,5,6,7,8,9]))) asm) (dM 11 rfl rfl<|aD (j2 (bk [2,3,4,5,6,7,8,9,10,11]))<|aL) rfl fun y9 Ab=>?_
 obtain ⟨A1,A2⟩:=y9
 try dsimp only
 rw [show (l_ (iu j.aJ (fun q S=>(iD j S))) j.aJ.length)=iP j from rfl]
 refine rP 2 [] mn ?_
 refine RK b<|aH ?_
 skip
 have A:(0≤(iP j).length):=by exact Nat.zero_le _
 refine bS (ι:={z:Nat // (z≤(iP j).length)}) [1,3,12,13] [0,2,3,4,5,6,7,8,9,10,11,12] U U (fun z=>[(14,(vI (z.1:Int)))]) (fun z=>[(ku iV T (cV vB (wD j.aS (GS j z.1))))]) (fun _=>rfl) (fun _=>rfl) (fun z=>(iP j).length-z.1) ⟨0,A⟩ (bD U) (aR [0,2,3,4,5,6,7,8,9,10,11,12,1]) ?_
 clear A
 rintro ⟨t,g⟩ J13 E
 try dsimp only
 refine WS fun _ F=>rP 1 [] mn ?_
 refine RK F<|aq fun _ G=>bR U (aU fun X=>?_) (aT fun X=>?_)
 ·refine bQ<|ag<|ag<|aI<|KK a<|WS fun _ J=>rP 2 [] (mc 1 U mn) ?_
  refine cX (QU T j kA kC cA cC bA bC slA slC drA drC heA heC faA faC prA prC) (aL) U fun r A0=>?_
  obtain ⟨V,C⟩:=r
  try dsimp only
  refine cX (M_ (wD j.aS (GS j t)) T j kA kC az cA cC bA bC slA slC drA drC ha heA heC faA faC prA prC V C hin hok) (bk [14,4,5,6,7,8,9,10,11,12,13,0,1]) U fun s R=>?_
  obtain ⟨D,AA,W⟩:=s
  try dsimp only
  have N:=R
  have o:(hZ j (lL j.aS (wD j.aS (GS j t))))=(fF j):=by exact DY I
  rw [o] at N ⊢
  refine rP 1 [] mn ?_
  refine RK J<|ar ?_
  refine LX hQ (D,AA,W) [0,1] [] mn U (by show List.all _ _=true; simp only [il,List.all_nil,xK,Bool.and_true]; rfl) U U ?_
  exact N
 refine WK G<|aq fun _ H=>aH<|WS fun _ AB=>?_
 obtain ⟨gi,B⟩:=aC (iP j) t I
 have M:=bO iC B
 refine rS (IA t U (aB (n:=(iP j).length) 0 U sm) dy dc I I)<|rS (gD t 0 (vI gi) U bU (aB (n:=(iP j).length) 0 U sm) M U dc U)<|bI 1 U<|RK AB<|cU cg 17 kr<|dP 10 [] (mc 1 U mn) ?_
 obtain ⟨gk,A3,v⟩:=HH B
 refine dP 1 [] mn ?_
 obtain ⟨p,hp⟩:=aC j.aJ ((gi).toNat) I
 have l:=bO br.cells hp
 refine dS (IA ((gi).toNat) U (ay 11 U) DK dc I I)<|dS (pO ((((gi).toNat)*5)+3) U (ay 11 U) (Nat.mul_pos I dc) eU U) ?_
 have m:=O.ic _ p hp
 have A7:=m.fault
 refine dS (gD ((gi).toNat) 3 (vI p.j5) U bU (ay 11 U) l U dc U) ?_
 obtain ⟨f,hf⟩:=aC j.aS ((p.j5).toNat) I
 have c:=bO aZ.cells hf
 refine dS (IA ((p.j5).toNat) U (ay 10 U) Br dc I I)<|dS (jE ((p.j5).toNat) 0 (aZ.cells f) U bU (ay 10 U) c U dc U U)<|dS (CL (BO j.aS faA faC f asm) (bk [10]) U)<|cx ?_
 have K:(eB (wD j.aS (GS j t)) (oS j.aS f) true)=(wD j.aS (GS j (t+1))):=by rw [I2 B hp hf,Hj]
 refine iX (kV:=iV) (x:=(oS j.aS f)) (C':=[_,_,_,_,_,_,_,_,_,_,_,_,(ku iV T (cV vB (wD j.aS (GS j (t+1)))))]) 12 U U U U Bi (iH qu) U ((gP _ _ _ _).symm.trans (congrArg _ K)) U<|aK<|aP<|KK H<|aw<|rP 2 [] mn ?_
 refine aK ?_
 have L:(vI (((t+1):Nat):Int))=(vI ((t:Int)+1)):=by exact cI I
 refine bu (E ⟨(t+1),(by first|omega|(simp only []; omega))⟩ _ _ _ U os (cP 4<|bw U L<|dp.nil _) (aR [0,1,2,3,4,5,6,7,8,9,10,11,12]))
theorem sf (j:cS) (kA:OA) (kC:Nat) (az:List RA) (cA:OA) (cC:Nat) (bA:OA) (bC:Nat) (slA:OA) (slC:Nat) (drA:OA) (drC:Nat) (ha:List cD) (heA:OA) (heC:Nat) (faA:OA) (faC:Nat) (prA:OA) (prC:Nat) (hin:gZ j az ha):
 nz Tryz.prog 10 [(vA (gh.cells (nq j kA kC cA cC bA bC slA slC drA drC heA heC faA faC prA prC)))] [(rd gd 3 2 fj),(rd kA j.Race.ao.aO.length 9 (j.Race.ao.aO.map au.cells)),(rd cA j.Race.ao.aj.length 2 (List.zipWith ax.cells j.Race.ao.aj az)),(dE (bg ax.e_ j.Race.ao.aj az)),(rd bA j.Race.ao.ab.length 4 (j.Race.ao.ab.map bK.cells)),(rd slA j.Race.aV.length 1 (j.Race.aV.map iC)),(rd drA j.Race.bV.length 1 (j.Race.bV.map iC)),(rd heA j.Race.av.length 1 (List.zipWith bW j.Race.av ha)),(dE (bg er j.Race.av ha)),(rd faA j.aS.length 4 (j.aS.map aZ.cells)),(rd prA j.aJ.length 5 (j.aJ.map br.cells))] (fun (x:(List RA)×(OA)×Nat)=>(vT [(vS x.2.1 ((dD j).length) x.2.2),(vI (dG j))])) (fun (x:(List RA)×(OA)×Nat)=>x.1.length=(dD j).length) (fun (x:(List RA)×(OA)×Nat)=>[(own x.2.1 x.2.2 29 1 (List.zipWith tM (dD j) x.1)),(bM (bg Fp (dD j) x.1))]):=by
 have S:=hin.race
 have N:=hin.race.line
 have AA:=hin.race.g6
 have V:=hin.race.has
 have T:=hin.race.g7
 have P:=hin.nf
 have R:=hin.np
 refine eO kr Tryz.func10 U U fun Z Q hQ hN=>?_
 try dsimp only
 refine WS fun _ H=>eG U fun X=>bI 1 U<|bI 1 U<|RK H<|WS fun _ AB=>eV 1 [] (mc 0 U mn) U<|rS (CL (r8 j kA kC az cA cC bA bC slA slC drA drC ha heA heC faA faC prA prC hin) (bk [1,2,3,4,5,6,7,8,9,10,11]) U)<|bI 3 U<|AL U Dn fun Y=>eN U EA U<|bI 1 U<|RK AB<|aq fun _ J=>WS fun _ K=>rP 2 [] mn ?_
 refine RK K<|ck U (aW fun A=>?_) (aY fun A=>?_)
 ·refine WS fun _ L=>?_
  have C:(dD j)=[]:=wj A
  have B:([]:List RA).length=(dD j).length:=by rw [C]; rfl
  refine gT 29 1<|yp ?_
  rw [show (own none 0 29 1 ([]:List (List Value)))=own none 0 29 1 (List.zipWith tM (dD j) []) from by rw [C]; rfl,show bM []=bM (bg Fp (dD j) []) from by rw [C]; rfl]
  refine bI 2 U<|rP 1 [] mn ?_
  refine RK L<|ar ?_
  refine LX hQ ([],none,0) [1,0] [] mn U (by show List.all _ _=true; simp only [il,List.all_nil,xK,Bool.and_true]; rfl) U ?_ ?_
  ·(rw [wj A]; rfl)
  ·exact B
 refine WK J<|WS fun _ M=>rP 1 [] (mc 0 U mn) ?_
 refine cX (zg j kA kC az cA cC bA bC slA slC drA drC ha heA heC faA faC prA prC hin asm) (bk [3,4,5,6,7,8,9,10,11,12]) U fun W E=>?_
 obtain ⟨D,F,G⟩:=W
 try dsimp only
 have B:=E
 refine rP 1 [] mn ?_
 have O:(fF j)=(dD j):=by exact (jy A).symm
 rw [O] at B ⊢
 refine rP 1 [] mn ?_
 refine RK M<|ar ?_
 refine LX hQ (D,F,G) [0,1] [] mn U (by show List.all _ _=true; simp only [il,List.all_nil,xK,Bool.and_true]; rfl) U ?_ ?_
 ·(rw [A]; rfl)
 ·exact B
end
section
open Go.RowKit
theorem Cq (r:eD) (kA:OA) (kC:Nat) (az:List RA) (cA:OA) (cC:Nat) (bA:OA) (bC:Nat) (slA:OA) (slC:Nat) (drA:OA) (drC:Nat) (ha:List cD) (heA:OA) (heC:Nat) (hraw:uJ r az ha):
 dA Tryz.prog 38 [(vA (cW.cells (vx r kA kC cA cC bA bC slA slC drA drC heA heC)))] [(rd kA r.ao.aO.length 9 (r.ao.aO.map au.cells)),(rd cA r.ao.aj.length 2 (List.zipWith ax.cells r.ao.aj az)),(dE (bg ax.e_ r.ao.aj az)),(rd bA r.ao.ab.length 4 (r.ao.ab.map bK.cells)),(rd slA r.aV.length 1 (r.aV.map iC)),(rd drA r.bV.length 1 (r.bV.map iC)),(rd heA r.av.length 1 (List.zipWith bW r.av ha)),(dE (bg er r.av ha))] (vB (decide (lQ r))):=by
 have AC:=hraw.line
 have A1:=hraw.g6
 have A3:=hraw.has
 have A0:=hraw.g7
 have AO:=hraw.draw
 refine bJ kr Tryz.func38 U U fun w0 Q hQ hN=>?_
 try dsimp only
 refine WS fun _ l=>eG U fun b2=>bI 1 U<|RK l<|aq fun _ m=>WS fun _ H=>bI 1 U<|rS (LP (cm.cells (jR r.ao kA kC cA cC bA bC)) 0 U bU U U U)<|rS (CL (JS r.ao kA kC az cA cC bA bC asm) (bk [1,2,3,4]) U)<|rP 1 [] mn ?_
 refine bT (t:=8) U (aT fun k=>?_) (aU fun k=>?_)
 ·refine bI 17 U<|RK H<|aN U<|WS fun _ n=>rP 1 [] mn ?_
  refine RK n<|ar<|Q1 hQ U U U ?_
  exact cB (cO (pT (.inl k))).symm
 refine rP 6 [] (mc 0 U mn) ?_
 refine bT (t:=14) U (aT fun AB=>?_) (aU fun AB=>?_)
 ·refine bI 11 U<|RK H<|aN U<|WS fun _ o=>rP 1 [] mn ?_
  refine RK o<|ar<|Q1 hQ U U U ?_
  exact cB (cO (pT (.inr I))).symm
 refine rP 6 [] (mc 0 U mn) ?_
 refine bT (t:=20) U (aT fun f=>?_) (aU fun f=>?_)
 ·refine bI 5 U<|RK H<|aN U<|WS fun _ p=>rP 1 [] mn ?_
  refine RK p<|ar<|Q1 hQ U U U ?_
  exact cB (cO (pT (.inr I))).symm
 refine rP 5 [] (mc 0 U mn) ?_
 refine RK H<|ck U (aT fun h=>?_) (aU fun h=>?_)
 ·refine WS fun _ q=>rP 1 [] mn ?_
  refine RK q<|ar<|Q1 hQ U U U ?_
  exact cB (cO (pT (.inr I))).symm
 refine WK m<|aq fun _ s=>WS fun _ N=>rP 1 [] mn ?_
 refine RK N<|aH ?_
 have B:(0≤r.av.length)∧(mm r 0):=by exact ⟨Nat.zero_le _,BY⟩
 refine bS (ι:={z:Nat // (z≤r.av.length)∧(mm r z)}) [1] [0,1,2,3,4,5,6,7,8] U U (fun z=>[(3,(vI (z.1:Int)))]) (fun z=>[]) (fun _=>rfl) (fun _=>rfl) (fun z=>r.av.length-z.1) ⟨0,B⟩ (bD U) (aR [0,1,2,3,4,5,6,7,8]) ?_
 clear B
 rintro ⟨i,⟨x,F⟩⟩ J11 L
 try dsimp only
 refine aq fun _ O=>WS fun _ P=>rP 5 [] (mc 0 U mn) ?_
 refine RK P<|bR U (aU fun AB=>?_) (aT fun AB=>?_)
 ·refine bQ<|ag<|ag<|aI<|KK s<|WS fun _ b=>rP 1 [] mn ?_
  refine RK b<|ar<|Q1 hQ U U U ?_
  exact cB (bj (Ho k I F I)).symm
 refine WK O<|aq fun _ R=>aH<|aq fun _ S=>WS fun _ T=>rP 3 [] (mc 0 U mn) ?_
 obtain ⟨ht,D⟩:=aC r.av i I
 obtain ⟨A,C⟩:=aC ha i I
 have E:(List.zipWith bW r.av ha)[i]? =some (bW ht A):=cv D C
 refine rS (IA i U (ay 7 U) j7 dc I I)<|rS (gD i 0 (vS A.1.1 ht.length A.1.2) U bU (ay 7 U) E U dc U) ?_
 obtain ⟨A2,Ab,w⟩:=hraw.eo _ _ _ D C
 refine rP 2 [] mn ?_
 refine RK T<|ck U (aT fun J=>?_) (aU fun J=>?_)
 ·refine WS fun _ AA=>rP 1 [] mn ?_
  refine RK AA<|ar<|Q1 hQ U U U ?_
  exact cB (cO (CO D J)).symm
 refine WK S<|WS fun _ V=>rP 1 [] mn ?_
 refine RK V<|aH ?_
 have B:(0≤ht.length)∧(nE ht 0):=by exact ⟨Nat.zero_le _,BD⟩
 refine bS (ι:={z:Nat // (z≤ht.length)∧(nE ht z)}) [1,3] [0,1,2,3,4,5,6,7,8] U U (fun z=>[(4,(vI (z.1:Int)))]) (fun z=>[]) (fun _=>rfl) (fun _=>rfl) (fun z=>ht.length-z.1) ⟨0,B⟩ (bD U) (aR [0,1,2,3,4,5,6,7,8]) ?_
 clear B
 rintro ⟨j,⟨y,G⟩⟩ J20 M
 try dsimp only
 refine aq fun _ W=>WS fun _ X=>eV 4 [] (mc 0 U mn) U<|rS (IA i U (ay 7 U) j7 dc I I)<|rS (gD i 0 (vS A.1.1 ht.length A.1.2) U bU (ay 7 U) E U dc U)<|rP 2 [] mn ?_
 refine RK X<|bR U (aU fun g=>?_) (aT fun g=>?_)
 ·refine bQ<|ag<|ag<|aI<|aP<|KK R<|aw<|rP 3 [] mn ?_
  refine aK ?_
  have e:(vI (((i+1):Nat):Int))=(vI ((i:Int)+1)):=by exact cI I
  refine bu (L ⟨(i+1),⟨I,Bm F D (El J G I)⟩⟩ _ _ _ U os (dp.cons U<|bw U e<|dp.nil _) (aR [0,1,2,3,4,5,6,7,8]))
 refine WK W<|aq fun _ Y=>aH<|WS fun _ Z=>eV 3 [] (mc 0 U mn) U<|rS (IA i U (ay 7 U) j7 dc I I)<|rS (gD i 0 (vS A.1.1 ht.length A.1.2) U bU (ay 7 U) E U dc U)<|rP 1 [] mn ?_
 obtain ⟨d,hd⟩:=aC ht j I
 obtain ⟨da,u⟩:=aC A.2 j I
 have v:(List.zipWith ak.cells ht A.2)[j]? =some (ak.cells d da):=cv hd u
 refine rS (IA j U (show fY _ (rd A.1.1 ht.length 7 (List.zipWith ak.cells ht A.2)).holds from (bY 8 U (a_ D C bX))) mJ dc I I)<|rS (pO ((j*7)+4) U (show fY _ (rd A.1.1 ht.length 7 (List.zipWith ak.cells ht A.2)).holds from (bY 8 U (a_ D C bX))) (Nat.mul_pos I dc) eU U)<|rS (pO (((j*7)+4)+2) U (show fY _ (rd A.1.1 ht.length 7 (List.zipWith ak.cells ht A.2)).holds from (bY 8 U (a_ D C bX))) (Nat.mul_pos I dc) eU U)<|rS (gD j 6 (vS da.1 d.aX.aa.length da.2) U bU (show fY _ (rd A.1.1 ht.length 7 (List.zipWith ak.cells ht A.2)).holds from (bY 8 U (a_ D C bX))) v U dc U) ?_
 have A4:=w d (aM hd)
 refine rP 2 [] mn ?_
 refine RK Z<|bR U (aU fun K=>?_) (aT fun K=>?_)
 ·refine cj<|aP<|KK Y<|aw<|rP 3 [] mn ?_
  refine aK ?_
  have c:(vI (((j+1):Nat):Int))=(vI ((j:Int)+1)):=by exact cI I
  refine bu (M ⟨(j+1),⟨I,B4 G hd K⟩⟩ _ _ _ U os (dp.cons U<|dp.cons U<|bw U c<|dp.nil _) (aR [0,1,2,3,4,5,6,7,8]))
 refine WS fun _ a=>rP 1 [] mn ?_
 refine RK a<|ar<|Q1 hQ U U U ?_
 exact cB (cO (DB D hd K)).symm
end
section
open Go.RowKit
theorem jc (n lo hi:Int):
 dA Tryz.prog 50 [(vI n),(vI lo),(vI hi)] [] (vB (decide (lo≤n∧n≤hi))):=by
 refine bJ kr Tryz.func50 U U fun D Q hQ hN=>?_
 try dsimp only
 refine WS fun _ B=>bI 1 U<|RK B<|WS fun _ A=>rP 4 [] mn ?_
 refine bT (t:=10) U (aT fun C=>?_) (aU fun C=>?_)
 ·refine rP 5 [] mn ?_
  refine RK A<|ar<|Q1 hQ U U U ?_
  exact cB (gV.2 I)
 refine rP 5 [] mn ?_
 refine RK A<|ar<|Q1 hQ U U U ?_
 exact cB (bj I).symm
theorem Fi (o fx:Bool) (tm:ai) (rv:cL):
 dA Tryz.prog 102 [(vA (aG.cells (aG.mk o fx tm rv)))] [] (vB (decide (o=false∧fx=false))):=by
 refine bJ kr Tryz.func102 U U fun E Q hQ hN=>?_
 try dsimp only
 refine WS fun _ B=>eG U fun D=>bI 1 U<|RK B<|WS fun _ A=>rP 4 [] (mc 0 U mn) ?_
 refine cG (t:=6) U (fun C=>?_) (fun C=>?_)
 ·rw [Bool.not_eq_false'] at C
  refine rP 5 [] mn ?_
  refine RK A<|ar<|Q1 hQ U U U ?_
  clear hQ hN A B
  refine cB ?_
  (simp_all; done)
 rw [Bool.not_eq_true'] at C
 refine rP 5 [] (mc 0 U mn) ?_
 refine RK A<|ar<|Q1 hQ U U U ?_
 clear hQ hN A B
 refine cB ?_
 (simp_all; done)
theorem Kh (j:cS) (kA:OA) (kC:Nat) (az:List RA) (cA:OA) (cC:Nat) (bA:OA) (bC:Nat) (slA:OA) (slC:Nat) (drA:OA) (drC:Nat) (ha:List cD) (heA:OA) (heC:Nat) (faA:OA) (faC:Nat) (prA:OA) (prC:Nat) (hraw:sB j az ha):
 dA Tryz.prog 6 [(vA (gh.cells (nq j kA kC cA cC bA bC slA slC drA drC heA heC faA faC prA prC)))] [(rd kA j.Race.ao.aO.length 9 (j.Race.ao.aO.map au.cells)),(rd cA j.Race.ao.aj.length 2 (List.zipWith ax.cells j.Race.ao.aj az)),(dE (bg ax.e_ j.Race.ao.aj az)),(rd bA j.Race.ao.ab.length 4 (j.Race.ao.ab.map bK.cells)),(rd slA j.Race.aV.length 1 (j.Race.aV.map iC)),(rd drA j.Race.bV.length 1 (j.Race.bV.map iC)),(rd heA j.Race.av.length 1 (List.zipWith bW j.Race.av ha)),(dE (bg er j.Race.av ha)),(rd faA j.aS.length 4 (j.aS.map aZ.cells)),(rd prA j.aJ.length 5 (j.aJ.map br.cells))] (vB (decide (pU j))):=by
 have E:=hraw.race
 have F:=hraw.nf
 have G:=hraw.np
 refine bJ kr Tryz.func6 U U fun AA Q hQ hN=>?_
 try dsimp only
 refine WS fun _ D=>eG U fun H=>bI 1 U<|RK D<|WS fun _ B=>bI 1 U<|rS (LP (cW.cells (vx j.Race kA kC cA cC bA bC slA slC drA drC heA heC)) 0 U bU U U U)<|rS (CL (Cq j.Race kA kC az cA cC bA bC slA slC drA drC ha heA heC asm) (bk [1,2,3,4,5,6,7,8]) U)<|rP 1 [] mn ?_
 refine bT (t:=6) U (aT fun C=>?_) (aU fun C=>?_)
 ·refine rP 12 [] mn ?_
  refine RK B<|ar<|Q1 hQ U U U ?_
  (exact cB (cO (show pU j from .inl (.inl C))).symm)
 refine rP 6 [] (mc 0 U mn) ?_
 refine bT (t:=12) U (aT fun A=>?_) (aU fun A=>?_)
 ·refine rP 6 [] mn ?_
  refine RK B<|ar<|Q1 hQ U U U ?_
  (exact cB (cO (show pU j from .inl (.inr A))).symm)
 refine rP 6 [] (mc 0 U mn) ?_
 refine RK B<|ar<|Q1 hQ U U U ?_
 (exact cB (gV.2 (show _↔pU j from ⟨.inr,fun q=>Or.elim q (fun q=>Or.elim q (fun q=>absurd q C) (fun q=>absurd q A)) id⟩)))
end
section
open Go.RowKit
theorem Dw (l:bG) (kA:OA) (kC:Nat) (az:List RA) (cA:OA) (cC:Nat) (bA:OA) (bC:Nat) (d:ak) (sgA:OA) (sgC:Nat) (hin:ej l az) (hle:eT l=0) (hsl:d.aX.aa.length≤1000000) (hk:d.Out=true):
 dA Tryz.prog 129 [(vA (cm.cells (jR l kA kC cA cC bA bC))),(vA (aG.cells (aG.mk d.Out d.cJ d.Time (iM d.aX sgA sgC))))] [(rd kA l.aO.length 9 (l.aO.map au.cells)),(rd cA l.aj.length 2 (List.zipWith ax.cells l.aj az)),(dE (bg ax.e_ l.aj az)),(rd bA l.ab.length 4 (l.ab.map bK.cells)),(rd sgA d.aX.aa.length 2 (d.aX.aa.map aF.cells))] (vT [(vA (ai.cells (pt l d))),(vB (decide (iU l d)))]):=by
 have K:=hin.sj
 have J:=hin.r_
 have H:=hin.lz
 have AA:=hin.sh
 refine bJ kr Tryz.func129 U U fun O Q hQ hN=>?_
 try dsimp only
 refine WS fun _ B=>eG U fun L=>eG U fun M=>AL U dT fun N=>bI 1 U<|RK B<|aq fun _ E=>aH<|WS fun _ C=>rP 3 [] (mc 1 U mn) ?_
 refine RK C<|bR U (fun G=>?_) (fun G=>?_)
 ·exact absurd ((hk).symm.trans G) dc
 refine WS fun _ A=>rS (SX (bq (xs:=[]) (cs:=(ai.cells (ai.mk 0 0))) U U (bp gM U)) U U)<|rP 4 [] (mc 1 U mn) ?_
 refine cG (t:=15) U (fun D=>?_) (fun D=>?_)
 ·rw [Bool.not_eq_false'] at D
  refine bI 10 U<|eN U cT U<|rP 1 [] mn ?_
  refine RK A<|ar<|l4 hQ [0] (mc 0 U mn) U ?_
  clear hQ hN A C E B
  rw [AU hk]
  simp only [rm hk]
  refine congrArg (fun z=>Value.tuple #[_,vB z]) ?_
  first|rfl|(simp_all [eQ]; done)
 rw [Bool.not_eq_true'] at D
 refine bI 1 U<|rS (LP (ai.cells d.Time) 1 U bU U U U)<|rS (SX (bq (xs:=[]) (cs:=(ai.cells (ai.mk 0 0))) U U (bp gM U)) U U)<|rS (BI U (uS _ _ d.Time (ai.mk 0 0)))<|rP 2 [] mn ?_
 refine cG (t:=21) U (aU fun F=>?_) (aT fun F=>?_)
 ·refine bI 4 U<|eN U cT U<|rP 1 [] mn ?_
  refine RK A<|ar<|l4 hQ [0] (mc 0 U mn) U ?_
  clear hQ hN A C E B
  rw [AU hk]
  simp only [rm hk]
  refine congrArg (fun z=>Value.tuple #[_,vB z]) ?_
  first|rfl|(simp_all [eQ]; done)
 refine bI 1 U<|rS (LP (cL.cells (iM d.aX sgA sgC)) 1 U bU U U U)<|rS (CL (Fv d.aX sgA sgC) (bk [7]) U)<|bI 1 U<|eN U cT U<|rP 1 [] mn ?_
 refine RK A<|ar<|l4 hQ [0] (mc 0 U mn) U ?_
 clear hQ hN A C E B
 rw [AU hk]
 simp only [rm hk]
 refine congrArg (fun z=>Value.tuple #[_,vB z]) ?_
 first|rfl|(simp_all [eQ]; done)
theorem Ef (l:bG) (kA:OA) (kC:Nat) (az:List RA) (cA:OA) (cC:Nat) (bA:OA) (bC:Nat) (d:ak) (sgA:OA) (sgC:Nat) (hin:ej l az) (hle:eT l=0) (hsl:d.aX.aa.length≤1000000) (hk:d.Out=false∧d.cJ=true):
 dA Tryz.prog 129 [(vA (cm.cells (jR l kA kC cA cC bA bC))),(vA (aG.cells (aG.mk d.Out d.cJ d.Time (iM d.aX sgA sgC))))] [(rd kA l.aO.length 9 (l.aO.map au.cells)),(rd cA l.aj.length 2 (List.zipWith ax.cells l.aj az)),(dE (bg ax.e_ l.aj az)),(rd bA l.ab.length 4 (l.ab.map bK.cells)),(rd sgA d.aX.aa.length 2 (d.aX.aa.map aF.cells))] (vT [(vA (ai.cells (pt l d))),(vB (decide (iU l d)))]):=by
 have N:=hin.sj
 have M:=hin.r_
 have K:=hin.lz
 have L:=hin.sh
 refine bJ kr Tryz.func129 U U fun S Q hQ hN=>?_
 try dsimp only
 refine WS fun _ D=>eG U fun O=>eG U fun P=>AL U dT fun R=>bI 1 U<|RK D<|aq fun _ H=>aH<|WS fun _ E=>rP 3 [] (mc 1 U mn) ?_
 refine RK E<|ck U (fun J=>?_) (fun J=>?_)
 ·exact absurd ((hk.1).symm.trans J) dc
 refine WS fun _ F=>rP 3 [] (mc 1 U mn) ?_
 refine RK F<|bR U (fun G=>?_) (fun G=>?_)
 ·exact absurd ((hk.2).symm.trans G) dc
 refine aq fun _ B=>dH cg [10] [] [] [1,2,3,4,5,6,7] [] U U U U U<|eS U (FA 2 U eU U)<|eS U (LP (ai.cells d.Time) 0 U bU U U U)<|eS U (FA 2 U eU U)<|eS U (LP (ai.cells d.Time) 0 U bU U U U)<|eS U (CL (Nr d.Time) (aL) U)<|eS U (MV U)<|r9 (t:=34) U (fun A=>?_) (fun A=>?_)
 rotate_left 1
 ·replace A:=DF A
  refine eS U (OX U)<|eS U (OX U)<|eS U (OX U)<|eS U (PK U)<|eS U (AG U)<|ek U<|cq U fun T10 C=>eN U cT U<|aK (C _ _ (aR [1,2,3,4,5,6,7]) ?_)
  refine fJ U<|KK B<|ar<|l4 hQ [0] (mc 0 U mn) U ?_
  clear hQ hN C T10 B F E H D
  rw [FP hk]
  simp only [ue hk]
  refine congrArg (fun z=>Value.tuple #[_,vB z]) ?_
  first|rfl|(simp_all; done)
 replace A:=DT A
 refine eS U (FA 4 U eU U)<|eS U (LP (cL.cells (iM d.aX sgA sgC)) 0 U bU U U U)<|eS U (CL (Fv d.aX sgA sgC) (bk [6]) U)<|eS U (PK U)<|eS U (AG U)<|ek U<|cq U fun T9 AA=>eN U cT U<|aK (AA _ _ (aR [1,2,3,4,5,6,7]) ?_)
 refine fJ U<|KK B<|ar<|l4 hQ [0] (mc 0 U mn) U ?_
 clear hQ hN AA T9 B F E H D
 rw [FP hk]
 simp only [ue hk]
 refine congrArg (fun z=>Value.tuple #[_,vB z]) ?_
 first|rfl|(simp_all; done)
theorem Eo (l:bG) (kA:OA) (kC:Nat) (az:List RA) (cA:OA) (cC:Nat) (bA:OA) (bC:Nat) (d:ak) (sgA:OA) (sgC:Nat) (hin:ej l az) (hle:eT l=0) (hsl:d.aX.aa.length≤1000000) (hk:d.Out=false∧d.cJ=false):
 dA Tryz.prog 129 [(vA (cm.cells (jR l kA kC cA cC bA bC))),(vA (aG.cells (aG.mk d.Out d.cJ d.Time (iM d.aX sgA sgC))))] [(rd kA l.aO.length 9 (l.aO.map au.cells)),(rd cA l.aj.length 2 (List.zipWith ax.cells l.aj az)),(dE (bg ax.e_ l.aj az)),(rd bA l.ab.length 4 (l.ab.map bK.cells)),(rd sgA d.aX.aa.length 2 (d.aX.aa.map aF.cells))] (vT [(vA (ai.cells (pt l d))),(vB (decide (iU l d)))]):=by
 have O:=hin.sj
 have N:=hin.r_
 have L:=hin.lz
 have M:=hin.sh
 refine bJ kr Tryz.func129 U U fun AA Q hQ hN=>?_
 try dsimp only
 refine WS fun _ E=>eG U fun P=>eG U fun R=>AL U dT fun S=>bI 1 U<|RK E<|aq fun _ F=>aH<|WS fun _ G=>rP 3 [] (mc 1 U mn) ?_
 refine RK G<|ck U (fun K=>?_) (fun K=>?_)
 ·exact absurd ((hk.1).symm.trans K) dc
 refine WS fun _ H=>rP 3 [] (mc 1 U mn) ?_
 refine RK H<|ck U (fun J=>?_) (fun J=>?_)
 ·exact absurd ((hk.2).symm.trans J) dc
 refine cj<|aP<|KK F<|WS fun _ AB=>eV 2 [] (mc 2 U mn) U<|rS (LP (cL.cells (iM d.aX sgA sgC)) 1 U bU U U U)<|rS (CL (Po l kA kC az cA cC bA bC d.aX sgA sgC hin hsl) (bk [3,4,5,6,7]) U)<|bI 3 U<|AL U dT fun T=>eN U cT U<|rP 1 [] mn ?_
 refine RK AB<|aq fun _ A=>dH cg [9] [] [] [0,2,3,4,5,6,7,8] [] U U U U U<|eS U (LW 0 U bU U U)<|eS U (MV U)<|eS U (BI U m_)<|eS U (MV U)<|r9 (t:=49) U (fun B=>?_) (fun B=>?_)
 rotate_left 1
 ·replace B:=DF B
  refine eS U (OX U)<|eS U (OX U)<|eS U (OX U)<|eS U (OX U)<|eS U (PK U)<|eS U (AG U)<|ek U<|cq U fun T12 D=>qN U cT U<|aK (D _ _ (aR [0,2,3,4,5,6,7,8]) ?_)
  refine fJ U<|KK A<|ar<|l4 hQ [0] (mc 1 U mn) U ?_
  clear hQ hN D T12 A AB H G F E
  rw [F6 hk]
  simp only [uo hk]
  refine congrArg (fun z=>Value.tuple #[_,vB z]) ?_
  first|rfl|(simp_all [eQ]; done)
 replace B:=DT B
 refine eS U (FA 2 U eU U)<|eS U (LP (ai.cells d.Time) 1 U bU U U U)<|eS U (SX (bq (xs:=[]) (cs:=(ai.cells (ai.mk 0 0))) U U (bp gM U)) U U)<|eS U (BI U (uS _ _ d.Time (ai.mk 0 0)))<|eS U (PK U)<|eS U (AG U)<|ek U<|cq U fun T11 C=>qN U cT U<|aK (C _ _ (aR [0,2,3,4,5,6,7,8]) ?_)
 refine fJ U<|KK A<|ar<|l4 hQ [0] (mc 1 U mn) U ?_
 clear hQ hN C T11 A AB H G F E
 rw [F6 hk]
 simp only [uo hk]
 refine congrArg (fun z=>Value.tuple #[_,vB z]) ?_
 first|rfl|(simp_all [eQ]; done)
theorem Ht (l:bG) (kA:OA) (kC:Nat) (az:List RA) (cA:OA) (cC:Nat) (bA:OA) (bC:Nat) (d:ak) (sgA:OA) (sgC:Nat) (hin:ej l az) (hle:eT l=0) (hsl:d.aX.aa.length≤1000000):
 dA Tryz.prog 129 [(vA (cm.cells (jR l kA kC cA cC bA bC))),(vA (aG.cells (aG.mk d.Out d.cJ d.Time (iM d.aX sgA sgC))))] [(rd kA l.aO.length 9 (l.aO.map au.cells)),(rd cA l.aj.length 2 (List.zipWith ax.cells l.aj az)),(dE (bg ax.e_ l.aj az)),(rd bA l.ab.length 4 (l.ab.map bK.cells)),(rd sgA d.aX.aa.length 2 (d.aX.aa.map aF.cells))] (vT [(vA (ai.cells (pt l d))),(vB (decide (iU l d)))]):=by
 by_cases ho:d.Out=true
 ·exact Dw l kA kC az cA cC bA bC d sgA sgC hin hle hsl ho
 by_cases hf:d.cJ=true
 ·exact Ef l kA kC az cA cC bA bC d sgA sgC hin hle hsl ⟨by simpa using ho,hf⟩
 ·exact Eo l kA kC az cA cC bA bC d sgA sgC hin hle hsl ⟨by simpa using ho,by simpa using hf⟩
end
section
open Go.RowKit
theorem Du (r:eD) (kA:OA) (kC:Nat) (az:List RA) (cA:OA) (cC:Nat) (bA:OA) (bC:Nat) (slA:OA) (slC:Nat) (drA:OA) (drC:Nat) (ha:List cD) (heA:OA) (heC:Nat) (hin:iL r az ha) (hle:eT r.ao=0):
 nz Tryz.prog 106 [(vA (cW.cells (vx r kA kC cA cC bA bC slA slC drA drC heA heC)))] [(rd kA r.ao.aO.length 9 (r.ao.aO.map au.cells)),(rd cA r.ao.aj.length 2 (List.zipWith ax.cells r.ao.aj az)),(dE (bg ax.e_ r.ao.aj az)),(rd bA r.ao.ab.length 4 (r.ao.ab.map bK.cells)),(rd slA r.aV.length 1 (r.aV.map iC)),(rd drA r.bV.length 1 (r.bV.map iC)),(rd heA r.av.length 1 (List.zipWith bW r.av ha)),(dE (bg er r.av ha))] (fun (x:Bool×Int×(OA)×Nat×(List RA))=>bif x.1 then (vT [(vS x.2.2.1 ((eJ r).length) x.2.2.2.1),(vB true)]) else (vT [(vS none 0 0),(vB false)])) (fun (x:Bool×Int×(OA)×Nat×(List RA))=>(x.1=true→(fB r∧x.2.2.2.2.length=r.av.length))∧(x.1=false→(x.2.1=0∧ ¬ fB r))) (fun (x:Bool×Int×(OA)×Nat×(List RA))=>bif x.1 then [(own x.2.2.1 x.2.2.2.1 121 1 (List.zipWith HU (eJ r) x.2.2.2.2)),(bM (bg EL (eJ r) x.2.2.2.2))] else []):=by
 have Or:=hin.line
 have Qx:=hin.g6
 have Q7:=hin.has
 have Pi:=hin.g7
 have PS:=hin.draw
 have Pl:=iI (r:=r)
 refine eO kr Tryz.func106 U U fun w0 Q hQ hN=>?_
 try dsimp only
 refine WS fun _ Lo=>eG U fun b2=>bI 2 U<|RK Lo<|WS fun _ L0=>eV 4 [] (mc 0 U mn) U<|RK L0<|aq fun _ L2=>WS fun _ N=>bI 1 U<|rS (CL (pH (r.aV.length:Int) 1 5) (aL) U)<|rP 2 [] mn ?_
 refine bT (t:=19) U (aW fun K4=>?_) (aY fun K4=>?_)
 ·refine bI 19 U<|RK N<|aN U<|WS fun _ L3=>rP 2 [] mn ?_
  refine RK L3<|ar<|LX hQ (false,0,none,0,[]) [] [] mn U (by rfl) U U ?_
  (exact ⟨Ga,fun _=>⟨rfl,fun q=>by have S:=q.num; have q2:=q.Ab; have q3:=q.nh; have q4:=q.zY; omega⟩⟩)
 refine rP 7 [] (mc 0 U mn) ?_
 refine bT (t:=26) U (aW fun X=>?_) (aY fun X=>?_)
 ·refine bI 12 U<|RK N<|aN U<|WS fun _ MQ=>rP 2 [] mn ?_
  refine RK MQ<|ar<|LX hQ (false,0,none,0,[]) [] [] mn U (by rfl) U U ?_
  (exact ⟨Ga,fun _=>⟨rfl,fun q=>by have S:=q.num; have q2:=q.Ab; have q3:=q.nh; have q4:=q.zY; omega⟩⟩)
 refine eV 2 [] (mc 0 U mn) U<|rS (CL (pH r.j9 0 5) (aL) U)<|rP 3 [] mn ?_
 refine bT (t:=32) U (aW fun K5=>?_) (aY fun K5=>?_)
 ·refine bI 6 U<|RK N<|aN U<|WS fun _ Md=>rP 2 [] mn ?_
  refine RK Md<|ar<|LX hQ (false,0,none,0,[]) [] [] mn U (by rfl) U U ?_
  (exact ⟨Ga,fun _=>⟨rfl,fun q=>by have S:=q.num; have q2:=q.Ab; have q3:=q.nh; have q4:=q.zY; omega⟩⟩)
 refine eV 3 [] (mc 0 U mn) U<|rS (CL (pH (r.av.length:Int) 1 3) (aL) U)<|rP 2 [] mn ?_
 refine RK N<|ck U (aW fun LA=>?_) (aY fun LA=>?_)
 ·refine WS fun _ M2=>rP 2 [] mn ?_
  refine RK M2<|ar<|LX hQ (false,0,none,0,[]) [] [] mn U (by rfl) U U ?_
  (exact ⟨Ga,fun _=>⟨rfl,fun q=>by have S:=q.num; have q2:=q.Ab; have q3:=q.nh; have q4:=q.zY; omega⟩⟩)
 refine WK L2<|aq fun _ o=>WS fun _ p=>rP 1 [] mn ?_
 refine RK p<|aH ?_
 have A:(0≤r.aV.length)∧(yC r 0):=by exact ⟨Nat.zero_le _,Lt⟩
 refine bS (ι:={z:Nat // (z≤r.aV.length)∧(yC r z)}) [1,4] [0,1,2,3,4,5,6,7,8] U U (fun z=>[(5,(vI (z.1:Int)))]) (fun z=>[]) (fun _=>rfl) (fun _=>rfl) (fun z=>r.aV.length-z.1) ⟨0,A⟩ (bD U) (aR [0,1,2,3,4,5,6,7,8]) ?_
 clear A
 rintro ⟨i,⟨Op,AB⟩⟩ J12 T
 try dsimp only
 refine aq fun _ s=>WS fun _ v=>rP 3 [] mn ?_
 refine RK v<|bR U (aU fun K0=>?_) (aT fun K0=>?_)
 ·refine bQ<|ag<|ag<|aI<|KK o<|WS fun _ Ci=>bI 1 U<|RK Ci<|aq fun _ Ck=>WS fun _ Cp=>rP 1 [] mn ?_
  refine RK Cp<|aH<|eX 121 1<|n9 ?_
  have A:(0≤r.av.length)∧(([]:List RA).length=0)∧(ky r 0):=by exact ⟨Nat.zero_le _,rfl,wZ⟩
  refine bS (ι:={z:Nat×(List RA)×(OA)×Nat // (z.1≤r.av.length)∧(z.2.1.length=z.1)∧(ky r z.1)}) [1,4] [2,3,4,5,6,7,8,9,10] U U (fun z=>[(7,(vS z.1.2.2.1 ((List.zipWith CQ (g0 r z.1.1) z.1.2.1).length) z.1.2.2.2)),(8,(vI (z.1.1:Int)))]) (fun z=>[(bM (bg EL (g0 r z.1.1) z.1.2.1)),(own z.1.2.2.1 z.1.2.2.2 121 1 (List.map sC (List.zipWith CQ (g0 r z.1.1) z.1.2.1)))]) (fun _=>rfl) (fun _=>rfl) (fun z=>r.av.length-z.1.1) ⟨(0,([]:List RA),none,0),A⟩ (bD U) (aR [2,3,4,5,6,7,8,9,10,0,1]) ?_
  clear A
  rintro ⟨⟨h,tz,a,c⟩,⟨P,C,F⟩⟩ J46 l
  try dsimp only at P C F
  try dsimp only
  refine aq fun _ Cx=>WS fun _ C0=>rP 5 [] (mc 0 U mn) ?_
  refine RK C0<|bR U (aU fun LE=>?_) (aT fun LE=>?_)
  ·refine bQ<|ag<|ag<|aI<|KK Ck<|aq fun _ Go=>?_
   have Ne:g0 r h=eJ r:=by unfold eJ; rw [show h=r.av.length by omega]
   have Os:tz.length=r.av.length:=by omega
   rw [Ne,ze,show (List.zipWith CQ (eJ r) tz).length=(eJ r).length from by rw [List.length_zipWith]; omega]
   have J2:fB r:=HP (n:=i) I I I I I AB F I
   refine aw<|rP 3 [] mn ?_
   refine RK Go<|ar ?_
   refine LX hQ (true,0,a,c,tz) [10,9] [] mn U (by (show List.all _ _=true; simp only [cond_true,il,List.all_nil,EH,Bool.and_true]; rfl)) U U ?_
   exact ⟨fun _=>⟨J2,Os⟩,Pm⟩
  refine WK Cx<|aq fun _ C1=>aH<|aq fun _ C2=>WS fun _ C3=>rP 3 [] (mc 0 U mn) ?_
  obtain ⟨ht,D⟩:=aC r.av h I
  obtain ⟨E,H⟩:=aC ha h I
  have W:(List.zipWith bW r.av ha)[h]? =some (bW ht E):=cv D H
  refine rS (IA h U (ay 7 U) j7 dc I I) ?_
  have Jm:=hin.eo _ _ _ D H
  have PT:=Jm.lz
  refine rS (gD h 0 (vS E.1.1 ht.length E.1.2) U bU (ay 7 U) W U dc U)<|rP 3 [] mn ?_
  refine RK C3<|ck U (aW fun e=>?_) (aY fun e=>?_)
  ·refine WS fun _ Df=>rP 2 [] mn ?_
   refine RK Df<|ar<|LX hQ (false,0,none,0,[]) [] [] mn U (by rfl) U U ?_
   (exact ⟨Ga,fun _=>⟨rfl,fun q=>by have S:=(q.eo ht (aM D)).1; omega⟩⟩)
  refine WK C2<|WS fun _ Di=>bI 1 U<|RK Di<|aq fun _ Do=>WS fun _ EQ=>rP 1 [] mn ?_
  refine RK EQ<|aH<|eX 38 2 ?_
  have A:(0≤ht.length)∧(oK r.ao ht 0):=by exact ⟨Nat.zero_le _,wc⟩
  refine bS (ι:={z:Nat×(OA)×Nat // (z.1≤ht.length)∧(oK r.ao ht z.1)}) [1,4,7,8] [1,2,3,4,5,6,7,8,9,10,11] U U (fun z=>[(9,(vS z.1.2.1 (((ht.take z.1.1).map (fW r.ao)).length) z.1.2.2)),(10,(vI (z.1.1:Int)))]) (fun z=>[(own z.1.2.1 z.1.2.2 38 2 (((ht.take z.1.1).map (fW r.ao)).map ai.cells))]) (fun _=>rfl) (fun _=>rfl) (fun z=>ht.length-z.1.1) ⟨(0,none,0),A⟩ (bD U) (aR [1,2,3,4,5,6,7,8,9,10,11,0]) ?_
  clear A
  rintro ⟨⟨j,la,lc⟩,⟨R,G⟩⟩ J57 m
  try dsimp only at R G
  try dsimp only
  refine aq fun _ Eq=>WS fun _ FO=>rP 3 [] mn ?_
  refine RK FO<|bR U (aU fun Li=>?_) (aT fun Li=>?_)
  ·refine bQ<|ag<|ag<|aI<|KK Do<|aw ?_
   rw [show ((ht.take j).map (fW r.ao))=ht.map (fW r.ao) from by rw [List.take_of_length_le I]]
   refine rP 2 [] mn ?_
   refine eu (xs:=[.tmp 137]) (cs:=[(vS la ((ht.map (fW r.ao)).length) lc)]) U EV OU U U U U (by simp [Value.cells]) U U fun Qr=>?_
   refine eh (es2:=(List.map sC (List.zipWith CQ (g0 r (h+1)) (tz++[(la,lc)])))) (m':=(List.zipWith CQ (g0 r (h+1)) (tz++[(la,lc)])).length) 11 U U U Ox U U sm (bx (es:=List.map sC [(bE.mk la ((ht.map (fW r.ao)).length) lc)]) 0 U U (by simp [zK]) U) (Iu _) (by rw [List.length_zipWith,k8 I]; omega) (by rw [List.length_zipWith,k8 I]; simp only [maxLen]; omega) (by rw [uy D C,List.map_append]; rfl) (by rw [uy D C]; simp) U fun J8 Kq=>?_
   try dsimp only
   refine bI 1 U<|aK<|aP<|KK C1<|aw<|rP 3 [] mn ?_
   refine aK<|zM (X':=bg EL (g0 r (h+1)) (tz++[(la,lc)])) 10 12 U U (C9 (a:=(la,lc)) D C) ?_
   have In:(vI (((h+1):Nat):Int))=(vI ((h:Int)+1)):=by exact cI I
   refine bu (l ⟨((h+1),(tz++[(la,lc)]),J8,Kq),⟨I,by simp; omega,x5 F D (FE I G I)⟩⟩ _ _ _ U os (cP 3<|bw U In<|dp.nil _) (aR [2,3,4,5,6,7,8,9,10,0,11]))
  refine WK Eq<|aq fun _ FS=>aH<|aq fun _ Fd=>dH cg [14,15] [] [] [0,1,2,3,4,5,6,7,8,9,10,11] [] U U U U U<|eS U (FA 0 U eU U)<|eS U (LP (cm.cells (jR r.ao kA kC cA cC bA bC)) 0 U bU U U U)<|eS U (FA 10 U eU U)<|eS U (L1 (vS heA r.av.length heC) 0 U bU U U)<|eS U (MV U)<|eS U (IA h U (ay 7 U) j7 dc I I)<|eS U (gD h 0 (vS E.1.1 ht.length E.1.2) U bU (ay 7 U) W U dc U)<|eS U (MV U) ?_
  obtain ⟨d,hd⟩:=aC ht j I
  obtain ⟨da,JU⟩:=aC E.2 j I
  have NE:(List.zipWith ak.cells ht E.2)[j]? =some (ak.cells d da):=cv hd JU
  refine eS U (IA j U (show fY _ (rd E.1.1 ht.length 7 (List.zipWith ak.cells ht E.2)).holds from (bY 8 U (a_ D H bX))) mJ dc I I)<|eS U (jE j 0 (aG.cells (aG.mk d.Out d.cJ d.Time (cL.mk d.aX.Start d.aX.gj (bE.mk da.1 d.aX.aa.length da.2)))) U bU (show fY _ (rd E.1.1 ht.length 7 (List.zipWith ak.cells ht E.2)).holds from (bY 8 U (a_ D H bX))) NE U dc U U) ?_
  have R0:=Jm.sig d (aM hd)
  refine eS U (CL (Ht r.ao kA kC az cA cC bA bC d da.1 da.2 asm hle asm) (ld [1,2,3,4]<|aD (show fY _ (rd da.1 d.aX.aa.length 2 (d.aX.aa.map aF.cells)).holds from (bY 8 U (a_ D H (dh _ (a_ hd JU (by simp [ak.e_]))))))<|aL) U)<|eS U (MV U)<|eS U (EX U)<|eS U (EX U)<|eS U (AG U)<|ek U<|cq U fun T63 Hi=>AL U dT fun QS=>aK (Hi _ _ (aR [1,2,3,4,5,6,7,8,9,10,11,12]) ?_)
  refine cq U fun T65 H1=>eN U cT U<|aK (H1 _ _ (aR [1,2,3,4,5,6,7,8,9,10,11,12]) ?_)
  refine fJ U<|KK Fd<|aq fun _ Fn=>WS fun _ GE=>rP 2 [] mn ?_
  refine RK GE<|ck U (aW fun J=>?_) (aY fun J=>?_)
  ·refine WS fun _ GT=>rP 2 [] mn ?_
   refine RK GT<|ar<|LX hQ (false,0,none,0,[]) [] [] mn U (by rfl) U U ?_
   (exact ⟨Ga,fun _=>⟨rfl,fun q=>by exact J ((q.eo ht (aM D)).2 d (aM hd))⟩⟩)
  refine WK Fn<|aw<|rP 2 [] (mc 0 U mn) ?_
  refine eu (xs:=[.tmp 133]) (cs:=(ai.cells (pt r.ao d))) U kT dT U U U U (by simp [Value.cells,ai.bo]) U U fun Qa=>?_
  refine eh (es2:=(List.map ai.cells ((ht.take (j+1)).map (fW r.ao)))) (m':=((ht.take (j+1)).map (fW r.ao)).length) 13 U U U Ff U U sm (bx (es:=List.map ai.cells [(pt r.ao d)]) 0 U U (by simp [ai.bo]) U) (kZ _) (by simp only [List.length_map,List.length_take]; omega) (by simp only [maxLen,List.length_map,List.length_take]; omega) (by rw [List.take_add_one,hd]; simp [JJ J]) sq U fun J7 J9=>?_
  try dsimp only
  refine bI 1 U<|aK<|aP<|KK FS<|aw<|rP 3 [] mn ?_
  refine aK ?_
  have If:(vI (((j+1):Nat):Int))=(vI ((j:Int)+1)):=by exact cI I
  refine bu (m ⟨((j+1),J7,J9),⟨I,wa G hd J⟩⟩ _ _ _ U os (cP 5<|bw U If<|dp.nil _) (aR [2,3,4,5,6,7,8,9,10,11,12,13]))
 refine WK s<|aq fun _ AA=>aH<|aq fun _ V=>aq fun _ K=>cU cg 36 kr<|dP 3 [] (mc 0 U mn) ?_
 obtain ⟨y,hy⟩:=aC r.aV i I
 have J3:=bO iC hy
 refine dS (IA i U (ay 5 U) dy dc I I)<|dS (gD i 0 (vI y) U bU (ay 5 U) J3 U dc U)<|dS (CL (pH y 0 9999) (aL) U)<|dP 2 [] mn ?_
 refine gN (t:=51) U (aW fun LT=>?_) (aY fun LT=>?_)
 ·refine kR 28 U<|cx<|RK K<|aN U<|WS fun _ w=>rP 2 [] mn ?_
  refine RK w<|ar<|LX hQ (false,0,none,0,[]) [] [] mn U (by rfl) U U ?_
  (exact ⟨Ga,fun _=>⟨rfl,fun q=>by have S:=(q.ids i y hy).1; omega⟩⟩)
 refine dP 3 [] mn ?_
 refine hP (t:=54) U (aU fun La=>?_) (aT fun La=>?_)
 ·refine dP 18 [] (mc 0 U mn) ?_
  obtain ⟨x,hx⟩:=aC r.bV i I
  have M:=bO iC hx
  refine dS (IA i U (ay 6 U) dy dc I I)<|dS (gD i 0 (vI x) U bU (ay 6 U) M U dc U)<|kR 2 U<|dS (CL (pH x 0 ((r.aV.length:Int)-1)) (aL) U)<|dP 2 [] mn ?_
  refine cx<|RK K<|ck U (aW fun Y=>?_) (aY fun Y=>?_)
  ·refine WS fun _ A6=>rP 2 [] mn ?_
   refine RK A6<|ar<|LX hQ (false,0,none,0,[]) [] [] mn U (by rfl) U U ?_
   (exact ⟨Ga,fun _=>⟨rfl,fun q=>by have S:=q.I1 hx; omega⟩⟩)
  refine WK V<|WS fun _ A7=>rP 1 [] mn ?_
  refine RK A7<|aH ?_
  have A:(0≤i)∧(∀ (q:Nat) y,q<0→r.bV[q]? =some y→y≠x):=by exact ⟨Nat.zero_le _,fun q y hq=>absurd hq (Nat.not_lt_zero _)⟩
  refine bS (ι:={z:Nat // (z≤i)∧(∀ (q:Nat) y,q<z→r.bV[q]? =some y→y≠x)}) [1,4,5] [0,1,2,3,4,5,6,7,8] U U (fun z=>[(6,(vI (z.1:Int)))]) (fun z=>[]) (fun _=>rfl) (fun _=>rfl) (fun z=>i-z.1) ⟨0,A⟩ (bD U) (aR [0,1,2,3,4,5,6,7,8]) ?_
  clear A
  rintro ⟨k,⟨O,B⟩⟩ J34 g
  try dsimp only
  refine aq fun _ A8=>WS fun _ A9=>rP 3 [] mn ?_
  refine RK A9<|bR U (aU fun K8=>?_) (aT fun K8=>?_)
  ·refine bQ<|ag<|ag<|aI<|aP<|KK AA<|aw<|rP 3 [] mn ?_
   refine aK ?_
   have Id:(vI (((i+1):Nat):Int))=(vI ((i:Int)+1)):=by exact cI I
   refine bu (T ⟨(i+1),⟨I,Bf AB (fun a ha=>by rw [hy] at ha; cases ha; exact ⟨I,fun b hb hc=>by omega⟩) (fun a ha=>by rw [hx] at ha; cases ha; exact ⟨I,fun k b hk hb=>B k b I hb⟩)⟩⟩ _ _ _ rfl os (dp.cons rfl<|dp.cons rfl<|bw rfl Id<|dp.nil _) (aR [0,1,2,3,4,5,6,7,8]))
  refine WK A8<|aq fun _ Bh=>aH<|aq fun _ B3=>cU cg 11 kr<|dP 3 [] (mc 0 U mn) ?_
  obtain ⟨u,hu⟩:=aC r.bV k I
  have Z:=bO iC hu
  refine dS (IA k U (ay 6 U) dy dc I I)<|dS (gD k 0 (vI u) U bU (ay 6 U) Z U dc U)<|kv 3 [] (mc 0 U mn) U<|dS (IA i U (ay 6 U) dy dc I I)<|dS (gD i 0 (vI x) U bU (ay 6 U) M U dc U)<|dP 1 [] mn ?_
  refine cx<|RK B3<|bR U (aU fun L=>?_) (aT fun L=>?_)
  ·refine cj<|aP<|KK Bh<|aw<|rP 3 [] mn ?_
   refine aK ?_
   have Ia:(vI (((k+1):Nat):Int))=(vI ((k:Int)+1)):=by exact cI I
   refine bu (g ⟨(k+1),⟨I,w5 B hu L⟩⟩ _ _ _ U os (cP 3<|bw U Ia<|dp.nil _) (aR [0,1,2,3,4,5,6,7,8]))
  refine WS fun _ B9=>rP 2 [] mn ?_
  refine RK B9<|ar<|LX hQ (false,0,none,0,[]) [] [] mn U (by rfl) U U ?_
  (exact ⟨Ga,fun _=>⟨rfl,fun q=>by have S:=q.num; have q2:=q.Ab; have q3:=q.nh; have q4:=q.zY; omega⟩⟩)
 refine kv 3 [] (mc 0 U mn) U<|dS (IA i U (ay 5 U) dy dc I I)<|dS (gD i 0 (vI y) U bU (ay 5 U) J3 U dc U)<|dP 4 [] (mc 0 U mn) ?_
 obtain ⟨z,hz⟩:=aC r.aV (i-1) I
 have PP:=bO iC hz
 refine dS (IA (i-1) U (ay 5 U) dy dc I I)<|dS (gD (i-1) 0 (vI z) U bU (ay 5 U) PP U dc U)<|dP 4 [] mn ?_
 refine gN (t:=69) U (aT fun Lk=>?_) (aU fun Lk=>?_)
 ·refine kR 10 U<|cx<|RK K<|aN U<|WS fun _ AC=>rP 2 [] mn ?_
  refine RK AC<|ar<|LX hQ (false,0,none,0,[]) [] [] mn U (by rfl) U U ?_
  (exact ⟨Ga,fun _=>⟨rfl,fun q=>by have S:=(q.ids i y hy).2 z I hz; omega⟩⟩)
 refine dP 3 [] (mc 0 U mn) ?_
 obtain ⟨x,hx⟩:=aC r.bV i I
 have M:=bO iC hx
 refine dS (IA i U (ay 6 U) dy dc I I)<|dS (gD i 0 (vI x) U bU (ay 6 U) M U dc U)<|kR 2 U<|dS (CL (pH x 0 ((r.aV.length:Int)-1)) (aL) U)<|dP 2 [] mn ?_
 refine cx<|RK K<|ck U (aW fun Y=>?_) (aY fun Y=>?_)
 ·refine WS fun _ AO=>rP 2 [] mn ?_
  refine RK AO<|ar<|LX hQ (false,0,none,0,[]) [] [] mn U (by rfl) U U ?_
  (exact ⟨Ga,fun _=>⟨rfl,fun q=>by have S:=q.I1 hx; omega⟩⟩)
 refine WK V<|WS fun _ A0=>rP 1 [] mn ?_
 refine RK A0<|aH ?_
 have A:(0≤i)∧(∀ (q:Nat) y,q<0→r.bV[q]? =some y→y≠x):=by exact ⟨Nat.zero_le _,fun q y hq=>absurd hq (Nat.not_lt_zero _)⟩
 refine bS (ι:={z:Nat // (z≤i)∧(∀ (q:Nat) y,q<z→r.bV[q]? =some y→y≠x)}) [1,4,5] [0,1,2,3,4,5,6,7,8] U U (fun z=>[(6,(vI (z.1:Int)))]) (fun z=>[]) (fun _=>rfl) (fun _=>rfl) (fun z=>i-z.1) ⟨0,A⟩ (bD U) (aR [0,1,2,3,4,5,6,7,8]) ?_
 clear A
 rintro ⟨k,⟨O,B⟩⟩ J23 f
 try dsimp only
 refine aq fun _ A1=>WS fun _ A2=>rP 3 [] mn ?_
 refine RK A2<|bR U (aU fun X=>?_) (aT fun X=>?_)
 ·refine bQ<|ag<|ag<|aI<|aP<|KK AA<|aw<|rP 3 [] mn ?_
  refine aK ?_
  have IR:(vI (((i+1):Nat):Int))=(vI ((i:Int)+1)):=by exact cI I
  refine bu (T ⟨(i+1),⟨I,Bf AB (fun a ha=>by rw [hy] at ha; cases ha; exact ⟨I,fun b hb hc=>by (rw [hz] at hc; cases hc; omega)⟩) (fun a ha=>by rw [hx] at ha; cases ha; exact ⟨I,fun k b hk hb=>B k b I hb⟩)⟩⟩ _ _ _ rfl os (dp.cons rfl<|dp.cons rfl<|bw rfl IR<|dp.nil _) (aR [0,1,2,3,4,5,6,7,8]))
 refine WK A1<|aq fun _ A3=>aH<|aq fun _ A4=>cU cg 11 kr<|dP 3 [] (mc 0 U mn) ?_
 obtain ⟨u,hu⟩:=aC r.bV k I
 have Z:=bO iC hu
 refine dS (IA k U (ay 6 U) dy dc I I)<|dS (gD k 0 (vI u) U bU (ay 6 U) Z U dc U)<|kv 3 [] (mc 0 U mn) U<|dS (IA i U (ay 6 U) dy dc I I)<|dS (gD i 0 (vI x) U bU (ay 6 U) M U dc U)<|dP 1 [] mn ?_
 refine cx<|RK A4<|bR U (aU fun L=>?_) (aT fun L=>?_)
 ·refine cj<|aP<|KK A3<|aw<|rP 3 [] mn ?_
  refine aK ?_
  have IO:(vI (((k+1):Nat):Int))=(vI ((k:Int)+1)):=by exact cI I
  refine bu (f ⟨(k+1),⟨I,w5 B hu L⟩⟩ _ _ _ U os (cP 3<|bw U IO<|dp.nil _) (aR [0,1,2,3,4,5,6,7,8]))
 refine WS fun _ A5=>rP 2 [] mn ?_
 refine RK A5<|ar<|LX hQ (false,0,none,0,[]) [] [] mn U (by rfl) U U ?_
 (exact ⟨Ga,fun _=>⟨rfl,fun q=>by exact q.PG I hu hx L⟩⟩)
end
section
open Go.RowKit
theorem Hp (r:eD) (kA:OA) (kC:Nat) (az:List RA) (cA:OA) (cC:Nat) (bA:OA) (bC:Nat) (slA:OA) (slC:Nat) (drA:OA) (drC:Nat) (ha:List cD) (heA:OA) (heC:Nat) (hin:iL r az ha):
 nz Tryz.prog 86 [(vA (cW.cells (vx r kA kC cA cC bA bC slA slC drA drC heA heC)))] [(rd kA r.ao.aO.length 9 (r.ao.aO.map au.cells)),(rd cA r.ao.aj.length 2 (List.zipWith ax.cells r.ao.aj az)),(dE (bg ax.e_ r.ao.aj az)),(rd bA r.ao.ab.length 4 (r.ao.ab.map bK.cells)),(rd slA r.aV.length 1 (r.aV.map iC)),(rd drA r.bV.length 1 (r.bV.map iC)),(rd heA r.av.length 1 (List.zipWith bW r.av ha)),(dE (bg er r.av ha))] (fun (x:Bool×Int×(OA)×Nat×(List RA))=>bif x.1 then (vT [(vS x.2.2.1 ((eJ r).length) x.2.2.2.1),(vI 0)]) else (vT [(vS none 0 0),(vI x.2.1)])) (fun (x:Bool×Int×(OA)×Nat×(List RA))=>(x.1=true→(gf r=0∧x.2.2.2.2.length=r.av.length))∧(x.1=false→(x.2.1=gf r∧ ¬ gf r=0))) (fun (x:Bool×Int×(OA)×Nat×(List RA))=>bif x.1 then [(own x.2.2.1 x.2.2.2.1 121 1 (List.zipWith HU (eJ r) x.2.2.2.2)),(bM (bg EL (eJ r) x.2.2.2.2))] else []):=by
 have AA:=hin.line
 have b:=hin.g6
 have c:=hin.has
 have Z:=hin.g7
 have Y:=hin.draw
 have a:=iI (r:=r)
 refine eO kr Tryz.func86 U U fun f Q hQ hN=>?_
 try dsimp only
 refine WS fun _ O=>eG U fun e=>bI 2 U<|RK O<|aq fun _ P=>WS fun _ R=>bI 1 U<|rS (LP (cm.cells (jR r.ao kA kC cA cC bA bC)) 0 U bU U U U)<|rS (CL (CU r.ao kA kC az cA cC bA bC asm) (bk [1,2,3,4]) U)<|bI 1 U<|RK R<|WS fun _ S=>rP 2 [] mn ?_
 refine RK S<|ck U (aW fun A=>?_) (aY fun A=>?_)
 ·refine WS fun _ T=>rP 3 [] mn ?_
  refine RK T<|ar<|LX hQ (false,(eT r.ao),none,0,[]) [] [] mn U (by rfl) U U ?_
  exact qH<|Q0 (zf A) A
 refine WK P<|WS fun _ G=>rP 1 [] (mc 0 U mn) ?_
 refine cX (Du r kA kC az cA cC bA bC slA slC drA drC ha heA heC hin (by exact A)) (bk [1,2,3,4,5,6,7,8]) U fun d J=>?_
 obtain ⟨K,W,L,M,N⟩:=d
 cases K
 rotate_left 1
 ·obtain ⟨AB,V⟩:=J.1 rfl
  try dsimp only [cond_true,cond_false,List.cons_append,List.nil_append]
  refine bI 5 U<|RK G<|aq fun _ D=>WS fun _ E=>bI 2 U<|RK E<|cp U<|WK D<|WS fun _ F=>rP 3 [] mn ?_
  refine RK F<|ar ?_
  refine LX hQ (true,0,L,M,N) [0,1] [] mn U (by (show List.all _ _=true; simp only [cond_true,il,List.all_nil,EH,Bool.and_true]; rfl)) U U ?_
  exact ⟨fun _=>⟨CN A AB,V⟩,Pm⟩
 obtain ⟨H,he⟩:=J.2 rfl
 try dsimp only at H he
 subst H
 try dsimp only [cond_true,cond_false,List.cons_append,List.nil_append]
 refine bI 5 U<|RK G<|aq fun _ X=>WS fun _ B=>bI 2 U<|RK B<|aN U<|WS fun _ C=>rP 2 [] mn ?_
 refine RK C<|ar<|LX hQ (false,60,none,0,[]) [] [] mn U (by rfl) U U ?_
 exact qH<|sZ (kW A he)
end
section
open Go.RowKit
theorem Hs (r:eD) (kA:OA) (kC:Nat) (az:List RA) (cA:OA) (cC:Nat) (bA:OA) (bC:Nat) (slA:OA) (slC:Nat) (drA:OA) (drC:Nat) (ha:List cD) (heA:OA) (heC:Nat) (hin:iL r az ha):
 dA Tryz.prog 56 [(vA (cW.cells (vx r kA kC cA cC bA bC slA slC drA drC heA heC)))] [(rd kA r.ao.aO.length 9 (r.ao.aO.map au.cells)),(rd cA r.ao.aj.length 2 (List.zipWith ax.cells r.ao.aj az)),(dE (bg ax.e_ r.ao.aj az)),(rd bA r.ao.ab.length 4 (r.ao.ab.map bK.cells)),(rd slA r.aV.length 1 (r.aV.map iC)),(rd drA r.bV.length 1 (r.bV.map iC)),(rd heA r.av.length 1 (List.zipWith bW r.av ha)),(dE (bg er r.av ha))] (vI (gf r)):=by
 have H:=hin.line
 have M:=hin.g6
 have N:=hin.has
 have J:=hin.g7
 have AB:=hin.draw
 have K:=iI (r:=r)
 refine bJ kr Tryz.func56 U U fun V Q hQ hN=>?_
 try dsimp only
 refine WS fun _ G=>eG U fun AA=>bI 1 U<|RK G<|WS fun _ C=>rP 1 [] (mc 0 U mn) ?_
 refine cX (Hp r kA kC az cA cC bA bC slA slC drA drC ha heA heC hin) (bk [1,2,3,4,5,6,7,8]) U fun T E=>?_
 obtain ⟨F,L,P,R,S⟩:=T
 cases F
 rotate_left 1
 ·obtain ⟨he,O⟩:=E.1 rfl
  try dsimp only [cond_true,cond_false,List.cons_append,List.nil_append]
  refine bI 5 U<|RK C<|WS fun _ B=>rP 2 [] mn ?_
  refine RK B<|ar<|Q1 hQ U U U ?_
  first|rfl|(rw [he])
 obtain ⟨D,he⟩:=E.2 rfl
 try dsimp only at D he
 subst D
 try dsimp only [cond_true,cond_false,List.cons_append,List.nil_append]
 refine bI 5 U<|RK C<|WS fun _ A=>rP 2 [] mn ?_
 refine RK A<|ar<|Q1 hQ U U U ?_
 first|rfl|(rw [he])
end
section
open Go.RowKit
theorem Gs (j:cS) (kA:OA) (kC:Nat) (az:List RA) (cA:OA) (cC:Nat) (bA:OA) (bC:Nat) (slA:OA) (slC:Nat) (drA:OA) (drC:Nat) (ha:List cD) (heA:OA) (heC:Nat) (faA:OA) (faC:Nat) (prA:OA) (prC:Nat) (hin:gZ j az ha) (hjr:gf j.Race=0):
 dA Tryz.prog 72 [(vA (gh.cells (nq j kA kC cA cC bA bC slA slC drA drC heA heC faA faC prA prC)))] [(rd kA j.Race.ao.aO.length 9 (j.Race.ao.aO.map au.cells)),(rd cA j.Race.ao.aj.length 2 (List.zipWith ax.cells j.Race.ao.aj az)),(dE (bg ax.e_ j.Race.ao.aj az)),(rd bA j.Race.ao.ab.length 4 (j.Race.ao.ab.map bK.cells)),(rd slA j.Race.aV.length 1 (j.Race.aV.map iC)),(rd drA j.Race.bV.length 1 (j.Race.bV.map iC)),(rd heA j.Race.av.length 1 (List.zipWith bW j.Race.av ha)),(dE (bg er j.Race.av ha)),(rd faA j.aS.length 4 (j.aS.map aZ.cells)),(rd prA j.aJ.length 5 (j.aJ.map br.cells))] (vB (decide (pW j))):=by
 have n:=hin.race
 have PS:=hin.race.line
 have R5:=hin.race.g6
 have R6:=hin.race.has
 have Qa:=hin.race.g7
 have Pl:=hin.nf
 have QS:=hin.np
 have R7:=(eg hjr).1
 have J3:=(eg hjr).2
 refine bJ kr Tryz.func72 U U fun w0 Q hQ hN=>?_
 try dsimp only
 refine WS fun _ Ne=>eG U fun b2=>bI 1 U<|RK Ne<|aq fun _ Op=>WS fun _ a=>rP 5 [] (mc 0 U mn) ?_
 refine bT (t:=12) U (aT fun h5=>?_) (aU fun h5=>?_)
 ·refine bI 17 U<|RK a<|aN U<|WS fun _ Or=>rP 1 [] mn ?_
  refine RK Or<|ar<|Q1 hQ U U U ?_
  first|exact cB (bj (fun q=>by have C:=q.nf; have H:=q.min_; have J:=q.tf; have K:=q.np; omega)).symm|exact cB (bj (fun q=>by have C:=q.fault f (aM hf); unfold eZ at C; split at C<;>omega)).symm|exact cB (bj (fun q=>by have A:=q.ic _ p hp; have C:=A.id; have H:=A.jT; have J:=A.eo; have K:=A.fault; simp only [mD] at H; first|omega|(have V:=A.up AA I L; omega))).symm|exact cB (bj (fun q=>by obtain ⟨R,G,AB,T⟩:=(q.ic _ p hp).lZ; rw [F] at G; cases G; first|exact E AB|exact h148 AB|omega)).symm|exact cB (cO ⟨I,dN D I,I,I,I,fun i p hi=>B i p (by have:=(bf.1 hi).1; omega) hi⟩).symm
 refine eV 2 [] (mc 0 U mn) U<|rS (CL (jc j.iw 0 60) (aL) U)<|rP 3 [] mn ?_
 refine bT (t:=18) U (aW fun h7=>?_) (aY fun h7=>?_)
 ·refine bI 11 U<|RK a<|aN U<|WS fun _ Os=>rP 1 [] mn ?_
  refine RK Os<|ar<|Q1 hQ U U U ?_
  first|exact cB (bj (fun q=>by have C:=q.nf; have H:=q.min_; have J:=q.tf; have K:=q.np; omega)).symm|exact cB (bj (fun q=>by have C:=q.fault f (aM hf); unfold eZ at C; split at C<;>omega)).symm|exact cB (bj (fun q=>by have A:=q.ic _ p hp; have C:=A.id; have H:=A.jT; have J:=A.eo; have K:=A.fault; simp only [mD] at H; first|omega|(have V:=A.up AA I L; omega))).symm|exact cB (bj (fun q=>by obtain ⟨R,G,AB,T⟩:=(q.ic _ p hp).lZ; rw [F] at G; cases G; first|exact E AB|exact h148 AB|omega)).symm|exact cB (cO ⟨I,dN D I,I,I,I,fun i p hi=>B i p (by have:=(bf.1 hi).1; omega) hi⟩).symm
 refine eV 2 [] (mc 0 U mn) U<|rS (CL (jc j.Df 0 100000) (aL) U)<|rP 3 [] mn ?_
 refine bT (t:=24) U (aW fun h9=>?_) (aY fun h9=>?_)
 ·refine bI 5 U<|RK a<|aN U<|WS fun _ s=>rP 1 [] mn ?_
  refine RK s<|ar<|Q1 hQ U U U ?_
  first|exact cB (bj (fun q=>by have C:=q.nf; have H:=q.min_; have J:=q.tf; have K:=q.np; omega)).symm|exact cB (bj (fun q=>by have C:=q.fault f (aM hf); unfold eZ at C; split at C<;>omega)).symm|exact cB (bj (fun q=>by have A:=q.ic _ p hp; have C:=A.id; have H:=A.jT; have J:=A.eo; have K:=A.fault; simp only [mD] at H; first|omega|(have V:=A.up AA I L; omega))).symm|exact cB (bj (fun q=>by obtain ⟨R,G,AB,T⟩:=(q.ic _ p hp).lZ; rw [F] at G; cases G; first|exact E AB|exact h148 AB|omega)).symm|exact cB (cO ⟨I,dN D I,I,I,I,fun i p hi=>B i p (by have:=(bf.1 hi).1; omega) hi⟩).symm
 refine rP 5 [] (mc 0 U mn) ?_
 refine RK a<|ck U (aT fun J5=>?_) (aU fun J5=>?_)
 ·refine WS fun _ u=>rP 1 [] mn ?_
  refine RK u<|ar<|Q1 hQ U U U ?_
  first|exact cB (bj (fun q=>by have C:=q.nf; have H:=q.min_; have J:=q.tf; have K:=q.np; omega)).symm|exact cB (bj (fun q=>by have C:=q.fault f (aM hf); unfold eZ at C; split at C<;>omega)).symm|exact cB (bj (fun q=>by have A:=q.ic _ p hp; have C:=A.id; have H:=A.jT; have J:=A.eo; have K:=A.fault; simp only [mD] at H; first|omega|(have V:=A.up AA I L; omega))).symm|exact cB (bj (fun q=>by obtain ⟨R,G,AB,T⟩:=(q.ic _ p hp).lZ; rw [F] at G; cases G; first|exact E AB|exact h148 AB|omega)).symm|exact cB (cO ⟨I,dN D I,I,I,I,fun i p hi=>B i p (by have:=(bf.1 hi).1; omega) hi⟩).symm
 refine WK Op<|aq fun _ v=>WS fun _ w=>rP 1 [] mn ?_
 refine RK w<|aH ?_
 have S:(0≤j.aS.length)∧(pA j 0):=by exact ⟨Nat.zero_le _,B0⟩
 refine bS (ι:={z:Nat // (z≤j.aS.length)∧(pA j z)}) [1] [0,1,2,3,4,5,6,7,8,9,10] U U (fun z=>[(3,(vI (z.1:Int)))]) (fun z=>[]) (fun _=>rfl) (fun _=>rfl) (fun z=>j.aS.length-z.1) ⟨0,S⟩ (bD U) (aR [0,1,2,3,4,5,6,7,8,9,10]) ?_
 clear S
 rintro ⟨i,⟨PP,D⟩⟩ J15 W
 try dsimp only
 refine aq fun _ x=>WS fun _ y=>rP 5 [] (mc 0 U mn) ?_
 refine RK y<|ck U (aT fun J6=>?_) (aU fun J6=>?_)
 ·refine WK x<|aq fun _ X=>aH<|WS fun _ AC=>rP 3 [] (mc 0 U mn) ?_
  obtain ⟨f,hf⟩:=aC j.aS i I
  have PG:=bO aZ.cells hf
  refine rS (IA i U (ay 9 U) Br dc I I)<|rS (jE i 0 (aZ.cells f) U bU (ay 9 U) PG U dc U U)<|AL U QR fun Qr=>eN U SC U<|RK AC<|aq fun _ AO=>WS fun _ c=>eV 4 [] (mc 0 U mn) U<|rS (CL (jc f.mY 0 f.To) (aL) U)<|rP 2 [] mn ?_
  refine bT (t:=48) U (aW fun J8=>?_) (aY fun J8=>?_)
  ·refine bI 4 U<|RK c<|aN U<|WS fun _ Ab=>rP 1 [] mn ?_
   refine RK Ab<|ar<|Q1 hQ U U U ?_
   first|exact cB (bj (fun q=>by have C:=q.nf; have H:=q.min_; have J:=q.tf; have K:=q.np; omega)).symm|exact cB (bj (fun q=>by have C:=q.fault f (aM hf); unfold eZ at C; split at C<;>omega)).symm|exact cB (bj (fun q=>by have A:=q.ic _ p hp; have C:=A.id; have H:=A.jT; have J:=A.eo; have K:=A.fault; simp only [mD] at H; first|omega|(have V:=A.up AA I L; omega))).symm|exact cB (bj (fun q=>by obtain ⟨R,G,AB,T⟩:=(q.ic _ p hp).lZ; rw [F] at G; cases G; first|exact E AB|exact h148 AB|omega)).symm|exact cB (cO ⟨I,dN D I,I,I,I,fun i p hi=>B i p (by have:=(bf.1 hi).1; omega) hi⟩).symm
  refine rP 4 [] (mc 0 U mn) ?_
  refine RK c<|ck U (aT fun J9=>?_) (aU fun J9=>?_)
  ·refine WS fun _ A0=>rP 1 [] mn ?_
   refine RK A0<|ar<|Q1 hQ U U U ?_
   first|exact cB (bj (fun q=>by have C:=q.nf; have H:=q.min_; have J:=q.tf; have K:=q.np; omega)).symm|exact cB (bj (fun q=>by have C:=q.fault f (aM hf); unfold eZ at C; split at C<;>omega)).symm|exact cB (bj (fun q=>by have A:=q.ic _ p hp; have C:=A.id; have H:=A.jT; have J:=A.eo; have K:=A.fault; simp only [mD] at H; first|omega|(have V:=A.up AA I L; omega))).symm|exact cB (bj (fun q=>by obtain ⟨R,G,AB,T⟩:=(q.ic _ p hp).lZ; rw [F] at G; cases G; first|exact E AB|exact h148 AB|omega)).symm|exact cB (cO ⟨I,dN D I,I,I,I,fun i p hi=>B i p (by have:=(bf.1 hi).1; omega) hi⟩).symm
  refine WK AO<|WS fun _ A1=>eV 2 [] (mc 0 U mn) U<|RK A1<|aH<|WS fun _ A2=>rS (BI U m_)<|rP 1 [] mn ?_
  refine RK A2<|ck U (aT fun Kq=>?_) (aU fun Kq=>?_)
  ·refine WS fun _ A3=>rP 3 [] (mc 0 U mn) ?_
   refine RK A3<|bR U (aY fun K0=>?_) (aW fun K0=>?_)
   ·refine cj<|aP<|aP<|KK X<|aw<|rP 3 [] mn ?_
    refine aK ?_
    have Ia:(vI (((i+1):Nat):Int))=(vI ((i:Int)+1)):=by exact cI I
    refine bu (W ⟨(i+1),⟨I,rp D hf (by refine ⟨I,I,I,?_⟩; split<;>omega)⟩⟩ _ _ _ U os (dp.cons U<|bw U Ia<|dp.nil _) (aR [1,2,3,4,5,6,7,8,9,10,11]))
   refine WS fun _ A4=>rP 1 [] mn ?_
   refine RK A4<|ar<|Q1 hQ U U U ?_
   first|exact cB (bj (fun q=>by have C:=q.nf; have H:=q.min_; have J:=q.tf; have K:=q.np; omega)).symm|exact cB (bj (fun q=>by have C:=q.fault f (aM hf); unfold eZ at C; split at C<;>omega)).symm|exact cB (bj (fun q=>by have A:=q.ic _ p hp; have C:=A.id; have H:=A.jT; have J:=A.eo; have K:=A.fault; simp only [mD] at H; first|omega|(have V:=A.up AA I L; omega))).symm|exact cB (bj (fun q=>by obtain ⟨R,G,AB,T⟩:=(q.ic _ p hp).lZ; rw [F] at G; cases G; first|exact E AB|exact h148 AB|omega)).symm|exact cB (cO ⟨I,dN D I,I,I,I,fun i p hi=>B i p (by have:=(bf.1 hi).1; omega) hi⟩).symm
  refine aq fun _ e=>WS fun _ A5=>rS (BI U m_)<|rP 1 [] mn ?_
  refine RK A5<|ck U (aT fun K4=>?_) (aU fun K4=>?_)
  ·refine WK e<|bR U (aU fun K5=>?_) (aT fun K5=>?_)
   ·refine WS fun _ A8=>rP 1 [] mn ?_
    refine RK A8<|ar<|Q1 hQ U U U ?_
    first|exact cB (bj (fun q=>by have C:=q.nf; have H:=q.min_; have J:=q.tf; have K:=q.np; omega)).symm|exact cB (bj (fun q=>by have C:=q.fault f (aM hf); unfold eZ at C; split at C<;>omega)).symm|exact cB (bj (fun q=>by have A:=q.ic _ p hp; have C:=A.id; have H:=A.jT; have J:=A.eo; have K:=A.fault; simp only [mD] at H; first|omega|(have V:=A.up AA I L; omega))).symm|exact cB (bj (fun q=>by obtain ⟨R,G,AB,T⟩:=(q.ic _ p hp).lZ; rw [F] at G; cases G; first|exact E AB|exact h148 AB|omega)).symm|exact cB (cO ⟨I,dN D I,I,I,I,fun i p hi=>B i p (by have:=(bf.1 hi).1; omega) hi⟩).symm
   refine WS fun _ A6=>eV 6 [0,1] (mc 0 U (mc 1 U mn)) U<|rS (CL (jc f.ig 0 j.Race.ao.cd) (aL) U)<|rP 1 [] mn ?_
   refine RK A6<|bR U (aY fun K8=>?_) (aW fun K8=>?_)
   ·refine cj<|aP<|aP<|KK X<|aw<|rP 3 [] mn ?_
    refine aK ?_
    have If:(vI (((i+1):Nat):Int))=(vI ((i:Int)+1)):=by exact cI I
    refine bu (W ⟨(i+1),⟨I,rp D hf (by refine ⟨I,I,I,?_⟩; split<;>omega)⟩⟩ _ _ _ U os (dp.cons U<|bw U If<|dp.nil _) (aR [1,2,3,4,5,6,7,8,9,10,11]))
   refine WS fun _ A7=>rP 1 [] mn ?_
   refine RK A7<|ar<|Q1 hQ U U U ?_
   first|exact cB (bj (fun q=>by have C:=q.nf; have H:=q.min_; have J:=q.tf; have K:=q.np; omega)).symm|exact cB (bj (fun q=>by have C:=q.fault f (aM hf); unfold eZ at C; split at C<;>omega)).symm|exact cB (bj (fun q=>by have A:=q.ic _ p hp; have C:=A.id; have H:=A.jT; have J:=A.eo; have K:=A.fault; simp only [mD] at H; first|omega|(have V:=A.up AA I L; omega))).symm|exact cB (bj (fun q=>by obtain ⟨R,G,AB,T⟩:=(q.ic _ p hp).lZ; rw [F] at G; cases G; first|exact E AB|exact h148 AB|omega)).symm|exact cB (cO ⟨I,dN D I,I,I,I,fun i p hi=>B i p (by have:=(bf.1 hi).1; omega) hi⟩).symm
  refine aw<|rS (BI U m_)<|rP 1 [] mn ?_
  refine RK e<|bR U (aU fun LA=>?_) (aT fun LA=>?_)
  ·refine WS fun _ B3=>rP 1 [] mn ?_
   refine RK B3<|ar<|Q1 hQ U U U ?_
   first|exact cB (bj (fun q=>by have C:=q.nf; have H:=q.min_; have J:=q.tf; have K:=q.np; omega)).symm|exact cB (bj (fun q=>by have C:=q.fault f (aM hf); unfold eZ at C; split at C<;>omega)).symm|exact cB (bj (fun q=>by have A:=q.ic _ p hp; have C:=A.id; have H:=A.jT; have J:=A.eo; have K:=A.fault; simp only [mD] at H; first|omega|(have V:=A.up AA I L; omega))).symm|exact cB (bj (fun q=>by obtain ⟨R,G,AB,T⟩:=(q.ic _ p hp).lZ; rw [F] at G; cases G; first|exact E AB|exact h148 AB|omega)).symm|exact cB (cO ⟨I,dN D I,I,I,I,fun i p hi=>B i p (by have:=(bf.1 hi).1; omega) hi⟩).symm
  refine WS fun _ A9=>eV 6 [0,1] (mc 0 U (mc 1 U mn)) U<|rS (CL (jc f.ig 0 j.Race.ao.cd) (aL) U)<|rP 1 [] mn ?_
  refine RK A9<|bR U (aY fun LE=>?_) (aW fun LE=>?_)
  ·refine cj<|aP<|aP<|KK X<|aw<|rP 3 [] mn ?_
   refine aK ?_
   have In:(vI (((i+1):Nat):Int))=(vI ((i:Int)+1)):=by exact cI I
   refine bu (W ⟨(i+1),⟨I,rp D hf (by refine ⟨I,I,I,?_⟩; split<;>omega)⟩⟩ _ _ _ U os (dp.cons U<|bw U In<|dp.nil _) (aR [1,2,3,4,5,6,7,8,9,10,11]))
  refine WS fun _ Bh=>rP 1 [] mn ?_
  refine RK Bh<|ar<|Q1 hQ U U U ?_
  first|exact cB (bj (fun q=>by have C:=q.nf; have H:=q.min_; have J:=q.tf; have K:=q.np; omega)).symm|exact cB (bj (fun q=>by have C:=q.fault f (aM hf); unfold eZ at C; split at C<;>omega)).symm|exact cB (bj (fun q=>by have A:=q.ic _ p hp; have C:=A.id; have H:=A.jT; have J:=A.eo; have K:=A.fault; simp only [mD] at H; first|omega|(have V:=A.up AA I L; omega))).symm|exact cB (bj (fun q=>by obtain ⟨R,G,AB,T⟩:=(q.ic _ p hp).lZ; rw [F] at G; cases G; first|exact E AB|exact h148 AB|omega)).symm|exact cB (cO ⟨I,dN D I,I,I,I,fun i p hi=>B i p (by have:=(bf.1 hi).1; omega) hi⟩).symm
 refine bQ<|ag<|ag<|aI<|KK v<|aq fun _ B9=>WS fun _ Ci=>rP 1 [] mn ?_
 refine RK Ci<|aH ?_
 have S:(0≤j.aJ.length)∧(oE j 0):=by exact ⟨Nat.zero_le _,yk⟩
 refine bS (ι:={z:Nat // (z≤j.aJ.length)∧(oE j z)}) [1] [0,1,2,3,4,5,6,7,8,9,10] U U (fun z=>[(5,(vI (z.1:Int)))]) (fun z=>[]) (fun _=>rfl) (fun _=>rfl) (fun z=>j.aJ.length-z.1) ⟨0,S⟩ (bD U) (aR [0,1,2,3,4,5,6,7,8,9,10]) ?_
 clear S
 rintro ⟨k,⟨J4,B⟩⟩ J52 b
 try dsimp only
 refine aq fun _ Ck=>WS fun _ Cp=>rP 5 [] (mc 0 U mn) ?_
 refine RK Cp<|bR U (aU fun LT=>?_) (aT fun LT=>?_)
 ·refine bQ<|ag<|ag<|aI<|KK B9<|WS fun _ Go=>rP 1 [] mn ?_
  refine RK Go<|ar<|Q1 hQ U U U ?_
  first|exact cB (bj (fun q=>by have C:=q.nf; have H:=q.min_; have J:=q.tf; have K:=q.np; omega)).symm|exact cB (bj (fun q=>by have C:=q.fault f (aM hf); unfold eZ at C; split at C<;>omega)).symm|exact cB (bj (fun q=>by have A:=q.ic _ p hp; have C:=A.id; have H:=A.jT; have J:=A.eo; have K:=A.fault; simp only [mD] at H; first|omega|(have V:=A.up AA I L; omega))).symm|exact cB (bj (fun q=>by obtain ⟨R,G,AB,T⟩:=(q.ic _ p hp).lZ; rw [F] at G; cases G; first|exact E AB|exact h148 AB|omega)).symm|exact cB (cO ⟨I,dN D I,I,I,I,fun i p hi=>B i p (by have:=(bf.1 hi).1; omega) hi⟩).symm
 refine WK Ck<|aq fun _ g=>aH<|WS fun _ Cx=>rP 3 [] (mc 0 U mn) ?_
 obtain ⟨p,hp⟩:=aC j.aJ k I
 have PT:=bO br.cells hp
 refine rS (IA k U (ay 10 U) DK dc I I)<|rS (jE k 0 (br.cells p) U bU (ay 10 U) PT U dc U U)<|AL U FB fun Qx=>eN U Ly U<|RK Cx<|aq fun _ h=>aq fun _ P=>cU cg 52 kr<|kv 2 [] (mc 0 U mn) U<|dS (CL (jc p.Id 0 9999) (aL) U)<|dP 2 [] mn ?_
 refine gN (t:=87) U (aW fun La=>?_) (aY fun La=>?_)
 ·refine kR 47 U<|cx<|RK P<|aN U<|WS fun _ C0=>rP 1 [] mn ?_
  refine RK C0<|ar<|Q1 hQ U U U ?_
  first|exact cB (bj (fun q=>by have C:=q.nf; have H:=q.min_; have J:=q.tf; have K:=q.np; omega)).symm|exact cB (bj (fun q=>by have C:=q.fault f (aM hf); unfold eZ at C; split at C<;>omega)).symm|exact cB (bj (fun q=>by have A:=q.ic _ p hp; have C:=A.id; have H:=A.jT; have J:=A.eo; have K:=A.fault; simp only [mD] at H; omega)).symm|exact cB (bj (fun q=>by obtain ⟨R,G,AB,T⟩:=(q.ic _ p hp).lZ; rw [F] at G; cases G; first|exact E AB|exact h148 AB|omega)).symm|exact cB (cO ⟨I,dN D I,I,I,I,fun i p hi=>B i p (by have:=(bf.1 hi).1; omega) hi⟩).symm
 refine dP 3 [] mn ?_
 refine hP (t:=90) U (aU fun Li=>?_) (aT fun Li=>?_)
 ·refine kv 20 [0,1] (mc 0 U (mc 1 U mn)) U<|dS (CL (jc p.iQ 0 ((j.Race.aV.length:Int)-1)) (aL) U)<|dP 3 [] mn ?_
  refine gN (t:=114) U (aW fun MQ=>?_) (aY fun MQ=>?_)
  ·refine kR 20 U<|cx<|RK P<|aN U<|WS fun _ FO=>rP 1 [] mn ?_
   refine RK FO<|ar<|Q1 hQ U U U ?_
   first|exact cB (bj (fun q=>by have C:=q.nf; have H:=q.min_; have J:=q.tf; have K:=q.np; omega)).symm|exact cB (bj (fun q=>by have C:=q.fault f (aM hf); unfold eZ at C; split at C<;>omega)).symm|exact cB (bj (fun q=>by have A:=q.ic _ p hp; have C:=A.id; have H:=A.jT; have J:=A.eo; have K:=A.fault; simp only [mD] at H; omega)).symm|exact cB (bj (fun q=>by obtain ⟨R,G,AB,T⟩:=(q.ic _ p hp).lZ; rw [F] at G; cases G; first|exact E AB|exact h148 AB|omega)).symm|exact cB (cO ⟨I,dN D I,I,I,I,fun i p hi=>B i p (by have:=(bf.1 hi).1; omega) hi⟩).symm
  refine kv 7 [0,1] (mc 0 U (mc 1 U mn)) U<|dS (CL (jc p.jm 0 ((j.Race.av.length:Int)-1)) (aL) U)<|dP 3 [] mn ?_
  refine gN (t:=125) U (aW fun Md=>?_) (aY fun Md=>?_)
  ·refine kR 9 U<|cx<|RK P<|aN U<|WS fun _ FS=>rP 1 [] mn ?_
   refine RK FS<|ar<|Q1 hQ U U U ?_
   first|exact cB (bj (fun q=>by have C:=q.nf; have H:=q.min_; have J:=q.tf; have K:=q.np; omega)).symm|exact cB (bj (fun q=>by have C:=q.fault f (aM hf); unfold eZ at C; split at C<;>omega)).symm|exact cB (bj (fun q=>by have A:=q.ic _ p hp; have C:=A.id; have H:=A.jT; have J:=A.eo; have K:=A.fault; simp only [mD] at H; omega)).symm|exact cB (bj (fun q=>by obtain ⟨R,G,AB,T⟩:=(q.ic _ p hp).lZ; rw [F] at G; cases G; first|exact E AB|exact h148 AB|omega)).symm|exact cB (cO ⟨I,dN D I,I,I,I,fun i p hi=>B i p (by have:=(bf.1 hi).1; omega) hi⟩).symm
  refine kv 6 [0,1] (mc 0 U (mc 1 U mn)) U<|dS (CL (jc p.j5 0 ((j.aS.length:Int)-1)) (aL) U)<|dP 2 [] mn ?_
  refine cx<|RK P<|ck U (aW fun M2=>?_) (aY fun M2=>?_)
  ·refine WS fun _ Fd=>rP 1 [] mn ?_
   refine RK Fd<|ar<|Q1 hQ U U U ?_
   first|exact cB (bj (fun q=>by have C:=q.nf; have H:=q.min_; have J:=q.tf; have K:=q.np; omega)).symm|exact cB (bj (fun q=>by have C:=q.fault f (aM hf); unfold eZ at C; split at C<;>omega)).symm|exact cB (bj (fun q=>by have A:=q.ic _ p hp; have C:=A.id; have H:=A.jT; have J:=A.eo; have K:=A.fault; simp only [mD] at H; omega)).symm|exact cB (bj (fun q=>by obtain ⟨R,G,AB,T⟩:=(q.ic _ p hp).lZ; rw [F] at G; cases G; first|exact E AB|exact h148 AB|omega)).symm|exact cB (cO ⟨I,dN D I,I,I,I,fun i p hi=>B i p (by have:=(bf.1 hi).1; omega) hi⟩).symm
  refine WK h<|aq fun _ Fn=>dH cg [11,12] [] [] [0,1,2,3,4,5,6,7,8,9,10,11] [] U U U U U<|eS U (FA 0 U eU U)<|eS U (FA 10 U eU U)<|eS U (L1 (vS heA j.Race.av.length heC) 1 U bU U U)<|eS U (FA 2 U eU U)<|eS U (L1 (vI p.jm) 0 U bU U U) ?_
  obtain ⟨ht,O⟩:=aC j.Race.av ((p.jm).toNat) I
  obtain ⟨M,N⟩:=aC ha ((p.jm).toNat) I
  have Z:(List.zipWith bW j.Race.av ha)[(p.jm).toNat]? =some (bW ht M):=cv O N
  refine eS U (IA ((p.jm).toNat) U (ay 8 U) j7 dc I I) ?_
  have Y:=n.eo _ _ _ O N
  have Jm:=Y.lz
  have J2:=(J3.eo ht (aM O)).1
  refine eS U (gD ((p.jm).toNat) 0 (vS M.1.1 ht.length M.1.2) U bU (ay 8 U) Z U dc U)<|eS U (FA 1 U eU U)<|eS U (L1 (vI p.iQ) 0 U bU U U) ?_
  obtain ⟨d,hd⟩:=aC ht ((p.iQ).toNat) I
  obtain ⟨da,o⟩:=aC M.2 ((p.iQ).toNat) I
  have r:(List.zipWith ak.cells ht M.2)[(p.iQ).toNat]? =some (ak.cells d da):=cv hd o
  refine eS U (IA ((p.iQ).toNat) U (show fY _ (rd M.1.1 ht.length 7 (List.zipWith ak.cells ht M.2)).holds from (bY 9 U (a_ O N bX))) mJ dc I I) ?_
  have F:=o3 (j:=j) (p:=p) O hd
  have Pi:=Y.sig d (aM hd)
  refine eS U (jE ((p.iQ).toNat) 0 (aG.cells (aG.mk d.Out d.cJ d.Time (cL.mk d.aX.Start d.aX.gj (bE.mk da.1 d.aX.aa.length da.2)))) U bU (show fY _ (rd M.1.1 ht.length 7 (List.zipWith ak.cells ht M.2)).holds from (bY 9 U (a_ O N bX))) r U dc U U)<|ek U<|cq U fun T88 IO=>AL U Bx fun R0=>aK (IO _ _ (aR [1,2,3,4,5,6,7,8,9,10,11,12]) ?_)
  refine cq U fun T90 IR=>eN U DN U<|aK (IR _ _ (aR [1,2,3,4,5,6,7,8,9,10,11,12]) ?_)
  refine fJ U<|KK Fn<|WS fun _ m=>eV 1 [] (mc 0 U mn) U<|rS (CL (Fi d.Out d.cJ d.Time (cL.mk d.aX.Start d.aX.gj (bE.mk da.1 d.aX.aa.length da.2))) (aL) U)<|rP 2 [] mn ?_
  refine bT (t:=149) U (aW fun E=>?_) (aY fun E=>?_)
  ·refine bI 8 U<|RK m<|aN U<|WS fun _ GE=>rP 1 [] mn ?_
   refine RK GE<|ar<|Q1 hQ U U U ?_
   first|exact cB (bj (fun q=>by have C:=q.nf; have H:=q.min_; have J:=q.tf; have K:=q.np; omega)).symm|exact cB (bj (fun q=>by have C:=q.fault f (aM hf); unfold eZ at C; split at C<;>omega)).symm|exact cB (bj (fun q=>by have A:=q.ic _ p hp; have C:=A.id; have H:=A.jT; have J:=A.eo; have K:=A.fault; simp only [mD] at H; first|omega|(have V:=A.up AA I L; omega))).symm|exact cB (bj (fun q=>by obtain ⟨R,G,AB,T⟩:=(q.ic _ p hp).lZ; rw [F] at G; cases G; exact E AB)).symm|exact cB (cO ⟨I,dN D I,I,I,I,fun i p hi=>B i p (by have:=(bf.1 hi).1; omega) hi⟩).symm
  refine eV 5 [0,1] (mc 1 U (mc 0 U mn)) U<|rS (CL (jc p.At d.aX.Start 86400000) (aL) U)<|rP 2 [] mn ?_
  refine RK m<|bR U (aY fun NE=>?_) (aW fun NE=>?_)
  ·refine cj<|aP<|KK g<|aw<|rP 3 [] mn ?_
   refine aK ?_
   have JU:(vI (((k+1):Nat):Int))=(vI ((k:Int)+1)):=by exact cI I
   refine bu (b ⟨(k+1),⟨I,tw B hp ⟨I,fun q h1 h2=>by omega,by simp only [mD]; omega,I,I,d,F,by first|exact E|exact h148,I⟩⟩⟩ _ _ _ U os (dp.cons U<|bw U JU<|dp.nil _) (aR [2,3,4,5,6,7,8,9,10,11,12]))
  refine WS fun _ GT=>rP 1 [] mn ?_
  refine RK GT<|ar<|Q1 hQ U U U ?_
  first|exact cB (bj (fun q=>by have C:=q.nf; have H:=q.min_; have J:=q.tf; have K:=q.np; omega)).symm|exact cB (bj (fun q=>by have C:=q.fault f (aM hf); unfold eZ at C; split at C<;>omega)).symm|exact cB (bj (fun q=>by have A:=q.ic _ p hp; have C:=A.id; have H:=A.jT; have J:=A.eo; have K:=A.fault; simp only [mD] at H; first|omega|(have V:=A.up AA I L; omega))).symm|exact cB (bj (fun q=>by obtain ⟨R,G,AB,T⟩:=(q.ic _ p hp).lZ; rw [F] at G; cases G; omega)).symm|exact cB (cO ⟨I,dN D I,I,I,I,fun i p hi=>B i p (by have:=(bf.1 hi).1; omega) hi⟩).symm
 refine dP 6 [0,1] (mc 0 U (mc 1 U mn)) ?_
 obtain ⟨AA,L⟩:=aC j.aJ (k-1) I
 have hp0m:=bO br.cells L
 refine dS (IA (k-1) U (ay 11 U) DK dc I I)<|dS (pO ((k-1)*5) U (ay 11 U) (Nat.mul_pos I dc) eU U)<|dS (gD (k-1) 0 (vI AA.Id) U bU (ay 11 U) hp0m U dc U)<|dP 4 [] mn ?_
 refine gN (t:=103) U (aT fun Lk=>?_) (aU fun Lk=>?_)
 ·refine kR 31 U<|cx<|RK P<|aN U<|WS fun _ C1=>rP 1 [] mn ?_
  refine RK C1<|ar<|Q1 hQ U U U ?_
  first|exact cB (bj (fun q=>by have C:=q.nf; have H:=q.min_; have J:=q.tf; have K:=q.np; omega)).symm|exact cB (bj (fun q=>by have C:=q.fault f (aM hf); unfold eZ at C; split at C<;>omega)).symm|exact cB (bj (fun q=>by have A:=q.ic _ p hp; have C:=A.id; have H:=A.jT; have J:=A.eo; have K:=A.fault; simp only [mD] at H; (have V:=A.up AA I L; omega))).symm|exact cB (bj (fun q=>by obtain ⟨R,G,AB,T⟩:=(q.ic _ p hp).lZ; rw [F] at G; cases G; first|exact E AB|exact h148 AB|omega)).symm|exact cB (cO ⟨I,dN D I,I,I,I,fun i p hi=>B i p (by have:=(bf.1 hi).1; omega) hi⟩).symm
 refine kv 7 [0,1] (mc 0 U (mc 1 U mn)) U<|dS (CL (jc p.iQ 0 ((j.Race.aV.length:Int)-1)) (aL) U)<|dP 3 [] mn ?_
 refine gN (t:=114) U (aW fun Lo=>?_) (aY fun Lo=>?_)
 ·refine kR 20 U<|cx<|RK P<|aN U<|WS fun _ C2=>rP 1 [] mn ?_
  refine RK C2<|ar<|Q1 hQ U U U ?_
  first|exact cB (bj (fun q=>by have C:=q.nf; have H:=q.min_; have J:=q.tf; have K:=q.np; omega)).symm|exact cB (bj (fun q=>by have C:=q.fault f (aM hf); unfold eZ at C; split at C<;>omega)).symm|exact cB (bj (fun q=>by have A:=q.ic _ p hp; have C:=A.id; have H:=A.jT; have J:=A.eo; have K:=A.fault; simp only [mD] at H; omega)).symm|exact cB (bj (fun q=>by obtain ⟨R,G,AB,T⟩:=(q.ic _ p hp).lZ; rw [F] at G; cases G; first|exact E AB|exact h148 AB|omega)).symm|exact cB (cO ⟨I,dN D I,I,I,I,fun i p hi=>B i p (by have:=(bf.1 hi).1; omega) hi⟩).symm
 refine kv 7 [0,1] (mc 0 U (mc 1 U mn)) U<|dS (CL (jc p.jm 0 ((j.Race.av.length:Int)-1)) (aL) U)<|dP 3 [] mn ?_
 refine gN (t:=125) U (aW fun L0=>?_) (aY fun L0=>?_)
 ·refine kR 9 U<|cx<|RK P<|aN U<|WS fun _ C3=>rP 1 [] mn ?_
  refine RK C3<|ar<|Q1 hQ U U U ?_
  first|exact cB (bj (fun q=>by have C:=q.nf; have H:=q.min_; have J:=q.tf; have K:=q.np; omega)).symm|exact cB (bj (fun q=>by have C:=q.fault f (aM hf); unfold eZ at C; split at C<;>omega)).symm|exact cB (bj (fun q=>by have A:=q.ic _ p hp; have C:=A.id; have H:=A.jT; have J:=A.eo; have K:=A.fault; simp only [mD] at H; omega)).symm|exact cB (bj (fun q=>by obtain ⟨R,G,AB,T⟩:=(q.ic _ p hp).lZ; rw [F] at G; cases G; first|exact E AB|exact h148 AB|omega)).symm|exact cB (cO ⟨I,dN D I,I,I,I,fun i p hi=>B i p (by have:=(bf.1 hi).1; omega) hi⟩).symm
 refine kv 6 [0,1] (mc 0 U (mc 1 U mn)) U<|dS (CL (jc p.j5 0 ((j.aS.length:Int)-1)) (aL) U)<|dP 2 [] mn ?_
 refine cx<|RK P<|ck U (aW fun L2=>?_) (aY fun L2=>?_)
 ·refine WS fun _ Di=>rP 1 [] mn ?_
  refine RK Di<|ar<|Q1 hQ U U U ?_
  first|exact cB (bj (fun q=>by have C:=q.nf; have H:=q.min_; have J:=q.tf; have K:=q.np; omega)).symm|exact cB (bj (fun q=>by have C:=q.fault f (aM hf); unfold eZ at C; split at C<;>omega)).symm|exact cB (bj (fun q=>by have A:=q.ic _ p hp; have C:=A.id; have H:=A.jT; have J:=A.eo; have K:=A.fault; simp only [mD] at H; omega)).symm|exact cB (bj (fun q=>by obtain ⟨R,G,AB,T⟩:=(q.ic _ p hp).lZ; rw [F] at G; cases G; first|exact E AB|exact h148 AB|omega)).symm|exact cB (cO ⟨I,dN D I,I,I,I,fun i p hi=>B i p (by have:=(bf.1 hi).1; omega) hi⟩).symm
 refine WK h<|aq fun _ Do=>dH cg [11,12] [] [] [0,1,2,3,4,5,6,7,8,9,10,11] [] U U U U U<|eS U (FA 0 U eU U)<|eS U (FA 10 U eU U)<|eS U (L1 (vS heA j.Race.av.length heC) 1 U bU U U)<|eS U (FA 2 U eU U)<|eS U (L1 (vI p.jm) 0 U bU U U) ?_
 obtain ⟨ht,O⟩:=aC j.Race.av ((p.jm).toNat) I
 obtain ⟨M,N⟩:=aC ha ((p.jm).toNat) I
 have Z:(List.zipWith bW j.Race.av ha)[(p.jm).toNat]? =some (bW ht M):=cv O N
 refine eS U (IA ((p.jm).toNat) U (ay 8 U) j7 dc I I) ?_
 have Y:=n.eo _ _ _ O N
 have Jm:=Y.lz
 have J2:=(J3.eo ht (aM O)).1
 refine eS U (gD ((p.jm).toNat) 0 (vS M.1.1 ht.length M.1.2) U bU (ay 8 U) Z U dc U)<|eS U (FA 1 U eU U)<|eS U (L1 (vI p.iQ) 0 U bU U U) ?_
 obtain ⟨d,hd⟩:=aC ht ((p.iQ).toNat) I
 obtain ⟨da,o⟩:=aC M.2 ((p.iQ).toNat) I
 have r:(List.zipWith ak.cells ht M.2)[(p.iQ).toNat]? =some (ak.cells d da):=cv hd o
 refine eS U (IA ((p.iQ).toNat) U (show fY _ (rd M.1.1 ht.length 7 (List.zipWith ak.cells ht M.2)).holds from (bY 9 U (a_ O N bX))) mJ dc I I) ?_
 have F:=o3 (j:=j) (p:=p) O hd
 have Pi:=Y.sig d (aM hd)
 refine eS U (jE ((p.iQ).toNat) 0 (aG.cells (aG.mk d.Out d.cJ d.Time (cL.mk d.aX.Start d.aX.gj (bE.mk da.1 d.aX.aa.length da.2)))) U bU (show fY _ (rd M.1.1 ht.length 7 (List.zipWith ak.cells ht M.2)).holds from (bY 9 U (a_ O N bX))) r U dc U U)<|ek U<|cq U fun T73 Hi=>AL U Bx fun Q7=>aK (Hi _ _ (aR [1,2,3,4,5,6,7,8,9,10,11,12]) ?_)
 refine cq U fun T75 H1=>eN U DN U<|aK (H1 _ _ (aR [1,2,3,4,5,6,7,8,9,10,11,12]) ?_)
 refine fJ U<|KK Do<|WS fun _ l=>eV 1 [] (mc 0 U mn) U<|rS (CL (Fi d.Out d.cJ d.Time (cL.mk d.aX.Start d.aX.gj (bE.mk da.1 d.aX.aa.length da.2))) (aL) U)<|rP 2 [] mn ?_
 refine bT (t:=149) U (aW fun E=>?_) (aY fun E=>?_)
 ·refine bI 8 U<|RK l<|aN U<|WS fun _ EQ=>rP 1 [] mn ?_
  refine RK EQ<|ar<|Q1 hQ U U U ?_
  first|exact cB (bj (fun q=>by have C:=q.nf; have H:=q.min_; have J:=q.tf; have K:=q.np; omega)).symm|exact cB (bj (fun q=>by have C:=q.fault f (aM hf); unfold eZ at C; split at C<;>omega)).symm|exact cB (bj (fun q=>by have A:=q.ic _ p hp; have C:=A.id; have H:=A.jT; have J:=A.eo; have K:=A.fault; simp only [mD] at H; first|omega|(have V:=A.up AA I L; omega))).symm|exact cB (bj (fun q=>by obtain ⟨R,G,AB,T⟩:=(q.ic _ p hp).lZ; rw [F] at G; cases G; exact E AB)).symm|exact cB (cO ⟨I,dN D I,I,I,I,fun i p hi=>B i p (by have:=(bf.1 hi).1; omega) hi⟩).symm
 refine eV 5 [0,1] (mc 1 U (mc 0 U mn)) U<|rS (CL (jc p.At d.aX.Start 86400000) (aL) U)<|rP 2 [] mn ?_
 refine RK l<|bR U (aY fun L3=>?_) (aW fun L3=>?_)
 ·refine cj<|aP<|KK g<|aw<|rP 3 [] mn ?_
  refine aK ?_
  have I1:(vI (((k+1):Nat):Int))=(vI ((k:Int)+1)):=by exact cI I
  refine bu (b ⟨(k+1),⟨I,tw B hp ⟨I,fun q h1 h2=>by (rw [L] at h2; cases h2; omega),by simp only [mD]; omega,I,I,d,F,by first|exact E|exact h148,I⟩⟩⟩ _ _ _ rfl os (dp.cons rfl<|bw rfl I1<|dp.nil _) (aR [2,3,4,5,6,7,8,9,10,11,12]))
 refine WS fun _ Eq=>rP 1 [] mn ?_
 refine RK Eq<|ar<|Q1 hQ U U U ?_
 first|exact cB (bj (fun q=>by have C:=q.nf; have H:=q.min_; have J:=q.tf; have K:=q.np; omega)).symm|exact cB (bj (fun q=>by have C:=q.fault f (aM hf); unfold eZ at C; split at C<;>omega)).symm|exact cB (bj (fun q=>by have A:=q.ic _ p hp; have C:=A.id; have H:=A.jT; have J:=A.eo; have K:=A.fault; simp only [mD] at H; first|omega|(have V:=A.up AA I L; omega))).symm|exact cB (bj (fun q=>by obtain ⟨R,G,AB,T⟩:=(q.ic _ p hp).lZ; rw [F] at G; cases G; omega)).symm|exact cB (cO ⟨I,dN D I,I,I,I,fun i p hi=>B i p (by have:=(bf.1 hi).1; omega) hi⟩).symm
end
section
open Go.RowKit
theorem Cj (j:cS) (kA:OA) (kC:Nat) (az:List RA) (cA:OA) (cC:Nat) (bA:OA) (bC:Nat) (slA:OA) (slC:Nat) (drA:OA) (drC:Nat) (ha:List cD) (heA:OA) (heC:Nat) (faA:OA) (faC:Nat) (prA:OA) (prC:Nat) (hin:gZ j az ha):
 dA Tryz.prog 43 [(vA (gh.cells (nq j kA kC cA cC bA bC slA slC drA drC heA heC faA faC prA prC)))] [(rd kA j.Race.ao.aO.length 9 (j.Race.ao.aO.map au.cells)),(rd cA j.Race.ao.aj.length 2 (List.zipWith ax.cells j.Race.ao.aj az)),(dE (bg ax.e_ j.Race.ao.aj az)),(rd bA j.Race.ao.ab.length 4 (j.Race.ao.ab.map bK.cells)),(rd slA j.Race.aV.length 1 (j.Race.aV.map iC)),(rd drA j.Race.bV.length 1 (j.Race.bV.map iC)),(rd heA j.Race.av.length 1 (List.zipWith bW j.Race.av ha)),(dE (bg er j.Race.av ha)),(rd faA j.aS.length 4 (j.aS.map aZ.cells)),(rd prA j.aJ.length 5 (j.aJ.map br.cells))] (vI (dG j)):=by
 have O:=hin.race
 have L:=hin.race.line
 have R:=hin.race.g6
 have S:=hin.race.has
 have P:=hin.race.g7
 have M:=hin.nf
 have N:=hin.np
 refine bJ kr Tryz.func43 U U fun AA Q hQ hN=>?_
 try dsimp only
 refine WS fun _ D=>eG U fun T=>bI 1 U<|RK D<|aq fun _ E=>WS fun _ F=>bI 1 U<|rS (LP (cW.cells (vx j.Race kA kC cA cC bA bC slA slC drA drC heA heC)) 0 U bU U U U)<|rS (CL (Hs j.Race kA kC az cA cC bA bC slA slC drA drC ha heA heC asm) (bk [1,2,3,4,5,6,7,8]) U)<|bI 1 U<|RK F<|WS fun _ G=>rP 2 [] mn ?_
 refine RK G<|ck U (aW fun C=>?_) (aY fun C=>?_)
 ·refine WS fun _ H=>rP 2 [] mn ?_
  refine RK H<|ar<|Q1 hQ U U U ?_
  exact cI (zy C).symm
 refine WK E<|aq fun _ AB=>WS fun _ J=>eV 1 [] (mc 0 U mn) U<|rS (CL (Gs j kA kC az cA cC bA bC slA slC drA drC ha heA heC faA faC prA prC hin asm) (bk [1,2,3,4,5,6,7,8,9,10]) U)<|rP 1 [] mn ?_
 refine RK J<|ck U (aW fun A=>?_) (aY fun A=>?_)
 ·refine WS fun _ K=>rP 1 [] mn ?_
  refine RK K<|ar<|Q1 hQ U U U ?_
  exact cI (jH C A).symm
 refine WK AB<|WS fun _ B=>rP 1 [] mn ?_
 refine RK B<|ar<|Q1 hQ U U U ?_
 exact cI (xy C A).symm
end
section
open Go.RowKit
theorem p6 (x y:Int):
 dA Tryz.prog 36 [(vI x),(vI y)] [] (vA (ai.cells (ai.mk x y))):=by
 refine bJ kr Tryz.func36 U U fun D Q hQ hN=>?_
 try dsimp only
 refine WS fun _ A=>AL U dT fun C=>RK A<|WS fun _ B=>rP 2 [] mn ?_
 refine rS (SX (bq (xs:=[(0,.tmp 5),(1,.tmp 6)]) (cs:=(ai.cells (ai.mk x y))) U U (bp gM U)) U U)<|eN U cT U<|RK B<|ar ?_
 exact Dj hQ [0] (mc 0 U mn) U U
theorem qY (x y:Int):
 dA Tryz.prog 35 [(vI x),(vI y)] [] (vA (aG.cells (aG.mk false true (ai.mk x y) (cL.mk 0 0 (bE.mk none 0 0))))):=by
 refine bJ kr Tryz.func35 U U fun D Q hQ hN=>?_
 try dsimp only
 refine WS fun _ A=>AL U Bx fun C=>RK A<|WS fun _ B=>rP 2 [] mn ?_
 refine rS (CL (p6 x y) (aL) U)<|rS (SX (bq (xs:=[(1,.const (vB true)),(2,.tmp 7)]) (cs:=(aG.cells (aG.mk false true (ai.mk x y) (cL.mk 0 0 (bE.mk none 0 0))))) U U (bp TS U)) U U)<|eN U DN U<|RK B<|ar ?_
 exact Dj hQ [0] (mc 0 U mn) U U
theorem J_ (j:cS) (kA:OA) (kC:Nat) (az:List RA) (cA:OA) (cC:Nat) (bA:OA) (bC:Nat) (slA:OA) (slC:Nat) (drA:OA) (drC:Nat) (ha:List cD) (heA:OA) (heC:Nat) (faA:OA) (faC:Nat) (prA:OA) (prC:Nat) (hraw:sB j az ha):
 dA Tryz.prog 23 [(vA (gh.cells (nq j kA kC cA cC bA bC slA slC drA drC heA heC faA faC prA prC)))] [(rd kA j.Race.ao.aO.length 9 (j.Race.ao.aO.map au.cells)),(rd cA j.Race.ao.aj.length 2 (List.zipWith ax.cells j.Race.ao.aj az)),(dE (bg ax.e_ j.Race.ao.aj az)),(rd bA j.Race.ao.ab.length 4 (j.Race.ao.ab.map bK.cells)),(rd slA j.Race.aV.length 1 (j.Race.aV.map iC)),(rd drA j.Race.bV.length 1 (j.Race.bV.map iC)),(rd heA j.Race.av.length 1 (List.zipWith bW j.Race.av ha)),(dE (bg er j.Race.av ha)),(rd faA j.aS.length 4 (j.aS.map aZ.cells)),(rd prA j.aJ.length 5 (j.aJ.map br.cells))] (vB (decide (¬ pU j∧dG j=0))):=by
 refine bJ kr Tryz.func23 U U fun F Q hQ hN=>?_
 try dsimp only
 refine WS fun _ C=>eG U fun E=>bI 1 U<|RK C<|WS fun _ A=>eV 1 [] (mc 0 U mn) U<|rS (CL (Kh j kA kC az cA cC bA bC slA slC drA drC ha heA heC faA faC prA prC hraw) (bk [1,2,3,4,5,6,7,8,9,10]) U)<|rP 2 [] mn ?_
 refine cG (t:=6) U (aY fun B=>?_) (aW fun B=>?_)
 ·refine bI 1 U<|rP 4 [] mn ?_
  refine RK A<|ar<|Q1 hQ U U U ?_
  exact cB (bj fun q=>q.1 B).symm
 refine rP 1 [] (mc 0 U mn) ?_
 have D:=hraw.small B
 refine rS (CL (Cj j kA kC az cA cC bA bC slA slC drA drC ha heA heC faA faC prA prC asm) (bk [1,2,3,4,5,6,7,8,9,10]) U)<|rP 3 [] mn ?_
 refine RK A<|ar<|Q1 hQ U U U ?_
 exact cB (gV.2 ⟨fun q=>⟨B,q⟩,fun q=>q.2⟩)
theorem KM (o fx:Bool) (tm:ai) (rv:cL):
 dA Tryz.prog 28 [(vA (aG.cells (aG.mk o fx tm rv)))] [] (vB (decide (o=false∧fx=false))):=by
 refine bJ kr Tryz.func28 U U fun E Q hQ hN=>?_
 try dsimp only
 refine WS fun _ B=>eG U fun D=>bI 1 U<|RK B<|WS fun _ A=>rP 4 [] (mc 0 U mn) ?_
 refine cG (t:=6) U (fun C=>?_) (fun C=>?_)
 ·rw [Bool.not_eq_false'] at C
  refine rP 5 [] mn ?_
  refine RK A<|ar<|Q1 hQ U U U ?_
  clear hQ hN A B
  refine cB ?_
  (simp_all; done)
 rw [Bool.not_eq_true'] at C
 refine rP 5 [] (mc 0 U mn) ?_
 refine RK A<|ar<|Q1 hQ U U U ?_
 clear hQ hN A B
 refine cB ?_
 (simp_all; done)
theorem D3 (la:List Int) (laA:OA) (laC:Nat) (n:Int) (hlen:la.length≤1000000):
 dA Tryz.prog 24 [(vS laA la.length laC),(vI n)] [(rd laA la.length 1 (la.map iC))] (vB (decide (n∈la))):=by
 refine bJ kr Tryz.func24 U U fun T Q hQ hN=>?_
 try dsimp only
 refine WS fun _ AA=>bI 1 U<|RK AA<|aq fun _ J=>WS fun _ K=>rP 3 [] mn ?_
 refine RK K<|aH ?_
 have B:(0≤la.length)∧(n ∉ la.take 0):=by exact ⟨Nat.zero_le _,sm⟩
 refine bS (ι:={z:Nat // (z≤la.length)∧(n ∉ la.take z)}) [1,7,8] [0] U U (fun z=>[(9,(vI (z.1:Int)))]) (fun z=>[]) (fun _=>rfl) (fun _=>rfl) (fun z=>la.length-z.1) ⟨0,B⟩ (bD U) (aR [0]) ?_
 clear B
 rintro ⟨i,⟨P,A⟩⟩ J4 H
 try dsimp only
 refine WS fun _ L=>rP 1 [] mn ?_
 refine RK L<|aq fun _ M=>bR U (aU fun S=>?_) (aT fun S=>?_)
 ·refine bQ<|ag<|ag<|aI<|KK J<|WS fun _ F=>rP 1 [] mn ?_
  refine RK F<|ar<|Q1 hQ U U U ?_
  exact cB (bj (by rw [List.take_of_length_le I] at A; exact A)).symm
 refine WK M<|aq fun _ N=>aH<|WS fun _ O=>?_
 obtain ⟨x,hx⟩:=aC la i I
 have R:=bO iC hx
 refine rS (IA i U (ay 0 U) dy dc I I)<|rS (gD i 0 (vI x) U bU (ay 0 U) R U dc U)<|bI 1 U<|RK O<|WS fun _ D=>rP 3 [] mn ?_
 refine RK D<|ck U (aT fun C=>?_) (aU fun C=>?_)
 ·refine WS fun _ E=>rP 1 [] mn ?_
  refine RK E<|ar<|Q1 hQ U U U ?_
  exact cB (cO (by rw [← C]; exact aM hx)).symm
 refine cj<|aP<|KK N<|aw<|rP 2 [] mn ?_
 refine aK ?_
 have G:(vI (((i+1):Nat):Int))=(vI ((i:Int)+1)):=by exact cI I
 refine bu (H ⟨(i+1),⟨I,fun q=>by rw [yI hx] at q; rcases gK.1 q with q|q; exact A q; exact C (cE.1 q).symm⟩⟩ _ _ _ rfl os (cP 3<|bw rfl G<|dp.nil _) (aR [0]))
end
section
open Go.RowKit
theorem M0 (j:cS) (kA:OA) (kC:Nat) (az:List RA) (cA:OA) (cC:Nat) (bA:OA) (bC:Nat) (slA:OA) (slC:Nat) (drA:OA) (drC:Nat) (ha:List cD) (heA:OA) (heC:Nat) (faA:OA) (faC:Nat) (prA:OA) (prC:Nat) (kq hq sq:Int) (hin:gZ j az ha):
 dA Tryz.prog 32 [(vA (gh.cells (nq j kA kC cA cC bA bC slA slC drA drC heA heC faA faC prA prC))),(vI kq),(vI hq),(vI sq)] [(rd gd 3 2 fj),(rd kA j.Race.ao.aO.length 9 (j.Race.ao.aO.map au.cells)),(rd cA j.Race.ao.aj.length 2 (List.zipWith ax.cells j.Race.ao.aj az)),(dE (bg ax.e_ j.Race.ao.aj az)),(rd bA j.Race.ao.ab.length 4 (j.Race.ao.ab.map bK.cells)),(rd slA j.Race.aV.length 1 (j.Race.aV.map iC)),(rd drA j.Race.bV.length 1 (j.Race.bV.map iC)),(rd heA j.Race.av.length 1 (List.zipWith bW j.Race.av ha)),(dE (bg er j.Race.av ha)),(rd faA j.aS.length 4 (j.aS.map aZ.cells)),(rd prA j.aJ.length 5 (j.aJ.map br.cells))] (vT [(Value.int .u8 (qo j kq hq sq)),(vI (oY j kq hq sq))]):=by
 have O:=hin.race
 have n:=hin.race.line
 have AC:=hin.race.g6
 have AO:=hin.race.has
 have x:=hin.race.g7
 have r:=hin.nf
 have w:=hin.np
 refine bJ kr Tryz.func32 U U fun w0 Q hQ hN=>?_
 try dsimp only
 refine WS fun _ W=>eG U fun b2=>bI 2 U<|RK W<|WS fun _ X=>eV 1 [] (mc 0 U mn) U<|rS (CL (r8 j kA kC az cA cC bA bC slA slC drA drC ha heA heC faA faC prA prC hin) (bk [1,2,3,4,5,6,7,8,9,10,11]) U)<|bI 3 U<|AL U Dn fun b4=>eN U EA U<|bI 1 U<|RK X<|aq fun _ Y=>WS fun _ Z=>rP 2 [] mn ?_
 refine RK Z<|ck U (aW fun B=>?_) (aY fun B=>?_)
 ·refine WS fun _ a=>rP 3 [] mn ?_
  refine RK a<|ar<|Q2 hQ U U U U ?_
  (have e:=GA (k:=kq) (h:=hq) (s:=sq) B; rw [e.1,e.2]; done)
 refine WK Y<|aq fun _ b=>WS fun _ E=>rP 5 [] (mc 1 U mn) ?_
 refine eu (xs:=[.tmp 24]) (cs:=[(vI kq)]) U dy j8 U U U U (by simp [Value.cells]) U U fun P=>?_
 refine rS (CL (dA.eq (ik 0 ((j.aS.length:Int)-1) ([kq]) (some ⟨P,0,none⟩) 1 (by (simp; done))) cy) (aD (bx 0 U U (by simp [bP]) U)<|aL) U) ?_
 refine rP 2 [] mn ?_
 refine bT (t:=28) U (aW fun T=>?_) (aY fun T=>?_)
 ·refine bI 21 U<|RK E<|aN U<|WS fun _ F=>rP 2 [] mn ?_
  refine RK F<|ar<|Q2 hQ U U U U ?_
  (have e:=vX (k:=kq) (h:=hq) (s:=sq) B (fun q=>by unfold mH at q; omega); rw [e.1,e.2]; done)
 refine rP 6 [] (mc 2 U mn) ?_
 refine eu (xs:=[.tmp 34]) (cs:=[(vI hq)]) U dy j8 U U U U (by simp [Value.cells]) U U fun R=>?_
 refine rS (CL (dA.eq (ik 0 ((j.Race.av.length:Int)-1) ([hq]) (some ⟨R,0,none⟩) 1 (by (simp; done))) cy) (aD (bx 0 U U (by simp [bP]) U)<|aL) U) ?_
 refine rP 3 [] mn ?_
 refine bT (t:=39) U (aW fun AA=>?_) (aY fun AA=>?_)
 ·refine bI 10 U<|RK E<|aN U<|WS fun _ G=>rP 2 [] mn ?_
  refine RK G<|ar<|Q2 hQ U U U U ?_
  (have e:=vX (k:=kq) (h:=hq) (s:=sq) B (fun q=>by unfold mH at q; omega); rw [e.1,e.2]; done)
 refine rP 6 [] (mc 3 U mn) ?_
 refine eu (xs:=[.tmp 45]) (cs:=[(vI sq)]) U dy j8 U U U U (by simp [Value.cells]) U U fun S=>?_
 refine rS (CL (dA.eq (ik 0 ((j.Race.aV.length:Int)-1) ([sq]) (some ⟨S,0,none⟩) 1 (by (simp; done))) cy) (aD (bx 0 U U (by simp [bP]) U)<|aL) U) ?_
 refine rP 2 [] mn ?_
 refine RK E<|ck U (aW fun V=>?_) (aY fun V=>?_)
 ·refine WS fun _ H=>rP 2 [] mn ?_
  refine RK H<|ar<|Q2 hQ U U U U ?_
  (have e:=vX (k:=kq) (h:=hq) (s:=sq) B (fun q=>by unfold mH at q; omega); rw [e.1,e.2]; done)
 refine WK b<|aq fun _ AB=>cU cg 18 kr<|dP 4 [0,1] (mc 3 U (mc 4 U mn)) ?_
 have N:=(eA B).1
 have l:=(eA B).2
 have m:=(eg N).1
 have o:=(eg N).2
 have i:=(d_ m).2.head
 unfold e7 at i
 obtain ⟨f,hf⟩:=aC j.aS ((kq).toNat) I
 have g:=bO aZ.cells hf
 refine dS (IA ((kq).toNat) U (ay 14 U) Br dc I I)<|dS (jE ((kq).toNat) 0 (aZ.cells f) U bU (ay 14 U) g U dc U U)<|dP 4 [] (mc 4 U mn) ?_
 obtain ⟨ht,D⟩:=aC j.Race.av ((hq).toNat) I
 obtain ⟨A,C⟩:=aC ha ((hq).toNat) I
 have M:(List.zipWith bW j.Race.av ha)[(hq).toNat]? =some (bW ht A):=cv D C
 refine dS (IA ((hq).toNat) U (ay 12 U) j7 dc I I) ?_
 have L:=O.eo _ _ _ D C
 have u:=L.lz
 have v:=(o.eo ht (aM D)).1
 refine dS (gD ((hq).toNat) 0 (vS A.1.1 ht.length A.1.2) U bU (ay 12 U) M U dc U)<|dP 1 [] mn ?_
 have p:=L.sig
 have K:=l.fault f (aM hf)
 have z:0≤f.ig∧f.ig≤1000000:=by have y:=K.2.2; split at y<;>omega
 obtain ⟨d,hd⟩:=aC ht ((sq).toNat) I
 obtain ⟨da,J⟩:=aC A.2 ((sq).toNat) I
 have c:(List.zipWith ak.cells ht A.2)[(sq).toNat]? =some (ak.cells d da):=cv hd J
 refine dS (IA ((sq).toNat) U (show fY _ (rd A.1.1 ht.length 7 (List.zipWith ak.cells ht A.2)).holds from (bY 13 U (a_ D C bX))) mJ dc I I)<|dS (jE ((sq).toNat) 0 (aG.cells (aG.mk d.Out d.cJ d.Time (cL.mk d.aX.Start d.aX.gj (bE.mk da.1 d.aX.aa.length da.2)))) U bU (show fY _ (rd A.1.1 ht.length 7 (List.zipWith ak.cells ht A.2)).holds from (bY 13 U (a_ D C bX))) c U dc U U) ?_
 have Ab:=p d (aM hd)
 refine dS (CL (Av j kA kC az cA cC bA bC slA slC drA drC ha heA heC faA faC prA prC f d da.1 da.2 hin (by exact K.1) asm asm) (ld [6,7,8,9,10,11,12,13,14,15]<|aD (show fY _ (rd da.1 d.aX.aa.length 2 (d.aX.aa.map aF.cells)).holds from (bY 13 U (a_ D C (dh _ (a_ hd J (by simp [ak.e_]))))))<|aL) U)<|dP 2 [] mn ?_
 refine cx<|RK AB<|ar<|Q2 hQ U U U U ?_
 (have e:=uL (k:=kq) (h:=hq) (s:=sq) B (by unfold mH; omega) hf D hd; rw [e.1,e.2]; done)
theorem P0 (j:cS) (kA:OA) (kC:Nat) (az:List RA) (cA:OA) (cC:Nat) (bA:OA) (bC:Nat) (slA:OA) (slC:Nat) (drA:OA) (drC:Nat) (ha:List cD) (heA:OA) (heC:Nat) (faA:OA) (faC:Nat) (prA:OA) (prC:Nat) (iq:Int) (hin:gZ j az ha):
 dA Tryz.prog 34 [(vA (gh.cells (nq j kA kC cA cC bA bC slA slC drA drC heA heC faA faC prA prC))),(vI iq)] [(rd gd 3 2 fj),(rd kA j.Race.ao.aO.length 9 (j.Race.ao.aO.map au.cells)),(rd cA j.Race.ao.aj.length 2 (List.zipWith ax.cells j.Race.ao.aj az)),(dE (bg ax.e_ j.Race.ao.aj az)),(rd bA j.Race.ao.ab.length 4 (j.Race.ao.ab.map bK.cells)),(rd slA j.Race.aV.length 1 (j.Race.aV.map iC)),(rd drA j.Race.bV.length 1 (j.Race.bV.map iC)),(rd heA j.Race.av.length 1 (List.zipWith bW j.Race.av ha)),(dE (bg er j.Race.av ha)),(rd faA j.aS.length 4 (j.aS.map aZ.cells)),(rd prA j.aJ.length 5 (j.aJ.map br.cells))] (vT [(Value.int .u8 (wm j iq)),(vI (uQ j iq))]):=by
 have R:=hin.race
 have M:=hin.race.line
 have T:=hin.race.g6
 have AA:=hin.race.has
 have S:=hin.race.g7
 have O:=hin.nf
 have P:=hin.np
 refine bJ kr Tryz.func34 U U fun X Q hQ hN=>?_
 try dsimp only
 refine WS fun _ F=>eG U fun V=>bI 2 U<|RK F<|WS fun _ G=>eV 1 [] (mc 0 U mn) U<|rS (CL (r8 j kA kC az cA cC bA bC slA slC drA drC ha heA heC faA faC prA prC hin) (bk [1,2,3,4,5,6,7,8,9,10,11]) U)<|bI 3 U<|AL U Dn fun W=>eN U EA U<|bI 1 U<|RK G<|aq fun _ H=>WS fun _ AB=>rP 2 [] mn ?_
 refine RK AB<|ck U (aW fun A=>?_) (aY fun A=>?_)
 ·refine WS fun _ J=>rP 3 [] mn ?_
  refine RK J<|ar<|Q2 hQ U U U U ?_
  (have e:=KH (i:=iq) A; rw [e.1,e.2]; done)
 refine WK H<|aq fun _ K=>WS fun _ L=>rP 5 [] (mc 1 U mn) ?_
 refine eu (xs:=[.tmp 20]) (cs:=[(vI iq)]) U dy j8 U U U U (by simp [Value.cells]) U U fun D=>?_
 refine rS (CL (dA.eq (ik 0 ((j.aJ.length:Int)-1) ([iq]) (some ⟨D,0,none⟩) 1 (by (simp; done))) cy) (aD (bx 0 U U (by simp [bP]) U)<|aL) U) ?_
 refine rP 1 [] mn ?_
 refine RK L<|ck U (aW fun E=>?_) (aY fun E=>?_)
 ·refine WS fun _ B=>rP 2 [] mn ?_
  refine RK B<|ar<|Q2 hQ U U U U ?_
  (have e:=Ld (i:=iq) A I; rw [e.1,e.2]; done)
 refine WK K<|aq fun _ C=>cU cg 9 kr<|dP 4 [0,1] (mc 1 U (mc 2 U mn)) ?_
 obtain ⟨p,hp⟩:=aC j.aJ ((iq).toNat) I
 have N:=bO br.cells hp
 refine dS (IA ((iq).toNat) U (ay 13 U) DK dc I I)<|dS (jE ((iq).toNat) 0 (br.cells p) U bU (ay 13 U) N U dc U U)<|dS (CL (Kg j kA kC az cA cC bA bC slA slC drA drC ha heA heC faA faC prA prC p hin asm (by exact ⟨_,hp⟩)) (bk [4,5,6,7,8,9,10,11,12,13]) U)<|dP 2 [] mn ?_
 refine cx<|RK C<|ar<|Q2 hQ U U U U ?_
 (have e:=AZ (i:=iq) A I hp; rw [e.1,e.2]; done)
theorem CR (j:cS) (kA:OA) (kC:Nat) (az:List RA) (cA:OA) (cC:Nat) (bA:OA) (bC:Nat) (slA:OA) (slC:Nat) (drA:OA) (drC:Nat) (ha:List cD) (heA:OA) (heC:Nat) (faA:OA) (faC:Nat) (prA:OA) (prC:Nat) (hin:gZ j az ha):
 nz Tryz.prog 8 [(vA (gh.cells (nq j kA kC cA cC bA bC slA slC drA drC heA heC faA faC prA prC)))] [(rd gd 3 2 fj),(rd kA j.Race.ao.aO.length 9 (j.Race.ao.aO.map au.cells)),(rd cA j.Race.ao.aj.length 2 (List.zipWith ax.cells j.Race.ao.aj az)),(dE (bg ax.e_ j.Race.ao.aj az)),(rd bA j.Race.ao.ab.length 4 (j.Race.ao.ab.map bK.cells)),(rd slA j.Race.aV.length 1 (j.Race.aV.map iC)),(rd drA j.Race.bV.length 1 (j.Race.bV.map iC)),(rd heA j.Race.av.length 1 (List.zipWith bW j.Race.av ha)),(dE (bg er j.Race.av ha)),(rd faA j.aS.length 4 (j.aS.map aZ.cells)),(rd prA j.aJ.length 5 (j.aJ.map br.cells))] (fun (x:(OA)×Nat)=>(vT [(vS x.1 ((kx j).length) x.2),(vI (dG j))])) (fun (x:(OA)×Nat)=>True) (fun (x:(OA)×Nat)=>[(own x.1 x.2 3 1 ((kx j).map iC))]):=by
 have S:=hin.race
 have L:=hin.race.line
 have V:=hin.race.g6
 have W:=hin.race.has
 have T:=hin.race.g7
 have P:=hin.nf
 have R:=hin.np
 refine eO kr Tryz.func8 U U fun a Q hQ hN=>?_
 try dsimp only
 refine WS fun _ E=>eG U fun Y=>bI 1 U<|bI 1 U<|RK E<|WS fun _ F=>eV 1 [] (mc 0 U mn) U<|rS (CL (r8 j kA kC az cA cC bA bC slA slC drA drC ha heA heC faA faC prA prC hin) (bk [1,2,3,4,5,6,7,8,9,10,11]) U)<|bI 3 U<|AL U Dn fun Z=>eN U EA U<|bI 1 U<|RK F<|aq fun _ G=>WS fun _ H=>rP 2 [] mn ?_
 refine RK H<|ck U (aW fun A=>?_) (aY fun A=>?_)
 ·refine WS fun _ AB=>gT 3 1 ?_
  rw [show (own none 0 3 1 ([]:List (List Value)))=own none 0 3 1 ((kx j).map iC) from by rw [yD A]; rfl]
  refine bI 2 U<|rP 1 [] mn ?_
  refine RK AB<|ar ?_
  refine LX hQ (none,0) [0] [] mn U U U ?_ ?_
  ·(rw [yD A]; rfl)
  ·trivial
 refine WK G<|WS fun _ J=>rP 3 [0,1] (mc 1 U (mc 0 U mn)) ?_
 refine rS (FU U) ?_
 refine cX (zZ j.aJ prA prC (Value.func (.func 42) [(vA (df.cells (df.mk (nq j kA kC cA cC bA bC slA slC drA drC heA heC faA faC prA prC))))].toArray [].toArray) (fun N B=>(iD j B)) (dE [(rd kA j.Race.ao.aO.length 9 (j.Race.ao.aO.map au.cells)),(rd cA j.Race.ao.aj.length 2 (List.zipWith ax.cells j.Race.ao.aj az)),(dE (bg ax.e_ j.Race.ao.aj az)),(rd bA j.Race.ao.ab.length 4 (j.Race.ao.ab.map bK.cells)),(rd slA j.Race.aV.length 1 (j.Race.aV.map iC)),(rd drA j.Race.bV.length 1 (j.Race.bV.map iC)),(rd heA j.Race.av.length 1 (List.zipWith bW j.Race.av ha)),(dE (bg er j.Race.av ha)),(rd faA j.aS.length 4 (j.aS.map aZ.cells)),(rd prA j.aJ.length 5 (j.aJ.map br.cells))]) (by intro N B M; exact k9 (fi:=[(vA (df.cells (df.mk (nq j kA kC cA cC bA bC slA slC drA drC heA heC faA faC prA prC))))]) (ca:=[]) (j3 (vG j kA kC az cA cC bA bC slA slC drA drC ha heA heC faA faC prA prC N B asm asm (by (obtain ⟨X,_,K⟩:=M; exact ⟨X,K⟩))) (bk [0,1,2,3,4,5,6,7,8,9]))) asm) (dM 12 rfl rfl<|aD (j2 (bk [3,4,5,6,7,8,9,10,11,12]))<|aL) rfl fun O AA=>?_
 obtain ⟨C,D⟩:=O
 try dsimp only
 refine rP 1 [] mn ?_
 rw [show (l_ (iu j.aJ (fun N B=>(iD j B))) j.aJ.length)=kx j from by rw [qh A]; rfl]
 refine rP 1 [] mn ?_
 refine RK J<|ar ?_
 refine LX hQ (C,D) [0] [] mn U U U ?_ ?_
 ·(rw [A]; rfl)
 ·trivial
theorem Mr (j:cS) (kA:OA) (kC:Nat) (az:List RA) (cA:OA) (cC:Nat) (bA:OA) (bC:Nat) (slA:OA) (slC:Nat) (drA:OA) (drC:Nat) (ha:List cD) (heA:OA) (heC:Nat) (faA:OA) (faC:Nat) (prA:OA) (prC:Nat) (hin:gZ j az ha):
 dA Tryz.prog 14 [(vA (gh.cells (nq j kA kC cA cC bA bC slA slC drA drC heA heC faA faC prA prC)))] [(rd gd 3 2 fj),(rd kA j.Race.ao.aO.length 9 (j.Race.ao.aO.map au.cells)),(rd cA j.Race.ao.aj.length 2 (List.zipWith ax.cells j.Race.ao.aj az)),(dE (bg ax.e_ j.Race.ao.aj az)),(rd bA j.Race.ao.ab.length 4 (j.Race.ao.ab.map bK.cells)),(rd slA j.Race.aV.length 1 (j.Race.aV.map iC)),(rd drA j.Race.bV.length 1 (j.Race.bV.map iC)),(rd heA j.Race.av.length 1 (List.zipWith bW j.Race.av ha)),(dE (bg er j.Race.av ha)),(rd faA j.aS.length 4 (j.aS.map aZ.cells)),(rd prA j.aJ.length 5 (j.aJ.map br.cells))] (vT [(vI (AA j)),(vI (Ad j)),(vI (dG j))]):=by
 have R:=hin.race
 have M:=hin.race.line
 have Y:=hin.race.g6
 have Z:=hin.race.has
 have S:=hin.race.g7
 have O:=hin.nf
 have P:=hin.np
 refine bJ kr Tryz.func14 U U fun k Q hQ hN=>?_
 try dsimp only
 refine WS fun _ G=>eG U fun f=>bI 3 U<|RK G<|WS fun _ H=>rP 1 [] (mc 0 U mn) ?_
 refine cX (CR j kA kC az cA cC bA bC slA slC drA drC ha heA heC faA faC prA prC hin) (bk [1,2,3,4,5,6,7,8,9,10,11]) U fun c b=>?_
 obtain ⟨d,g⟩:=c
 try dsimp only
 refine bI 5 U<|RK H<|aq fun _ AC=>WS fun _ J=>rP 2 [] mn ?_
 refine RK J<|ck U (aW fun A=>?_) (aY fun A=>?_)
 ·refine WS fun _ D=>rP 4 [] mn ?_
  refine RK D<|ar<|Q3 hQ U U U U U ?_
  (have e:=HL A; rw [e.1,e.2]; done)
 refine WK AC<|WS fun _ E=>?_
 have C:=(eA A).2
 have X:(kx j).length≤8:=by have h:=C.np; have i:=xL (j:=j); rw [qh A]; omega
 have B:=C.tf
 have N:=C.np
 have K:=Dz (a:=((kx j).length:Int)) ⟨I,I⟩ B
 have L:=Dz (a:=(j.aJ.length:Int)) ⟨I,I⟩ B
 have T:=Int.mul_le_mul_of_nonneg_right (show (0:Int)≤((kx j).length:Int) by omega) B.1
 have AB:=Int.mul_le_mul_of_nonneg_right (show ((kx j).length:Int)≤8 by omega) B.1
 have V:=Int.mul_le_mul_of_nonneg_right (show (0:Int)≤(j.aJ.length:Int) by omega) B.1
 have W:=Int.mul_le_mul_of_nonneg_right N B.1
 refine eV 4 [] (mc 1 U mn) U<|rS (BI U (ux K))<|bI 1 U<|RK E<|aq fun _ F=>cU cg 12 kr<|kv 6 [] (mc 1 U mn) U<|dS (BI U (ux L))<|dP 5 [] mn ?_
 refine cx<|RK F<|ar<|Q3 hQ U U U U U ?_
 (have e:=xP A; rw [e.1,e.2,A,qh A]; rfl)
theorem Kb (i:Int) (p:br) (sq:Int) (g1:Nat) (j:cS) (kA:OA) (kC:Nat) (az:List RA) (cA:OA) (cC:Nat) (bA:OA) (bC:Nat) (slA:OA) (slC:Nat) (drA:OA) (drC:Nat) (ha:List cD) (heA:OA) (heC:Nat) (faA:OA) (faC:Nat) (prA:OA) (prC g2:Nat) (hin:gZ j az ha) (hok:dG j=0) (hp: ∃ i:Nat,j.aJ[i]? =some p):
 dA Tryz.prog 49 [(vI i),(vA (br.cells p)),(vP g1),(vP g2)] [(cz g1 3 [(vI sq)]),(rd kA j.Race.ao.aO.length 9 (j.Race.ao.aO.map au.cells)),(rd cA j.Race.ao.aj.length 2 (List.zipWith ax.cells j.Race.ao.aj az)),(dE (bg ax.e_ j.Race.ao.aj az)),(rd bA j.Race.ao.ab.length 4 (j.Race.ao.ab.map bK.cells)),(rd slA j.Race.aV.length 1 (j.Race.aV.map iC)),(rd drA j.Race.bV.length 1 (j.Race.bV.map iC)),(rd heA j.Race.av.length 1 (List.zipWith bW j.Race.av ha)),(dE (bg er j.Race.av ha)),(rd faA j.aS.length 4 (j.aS.map aZ.cells)),(rd prA j.aJ.length 5 (j.aJ.map br.cells)),(cz g2 97 (df.cells (df.mk (nq j kA kC cA cC bA bC slA slC drA drC heA heC faA faC prA prC))))] (vB (Aj j sq p)):=by
 refine bJ kr Tryz.func49 U U fun E Q hQ hN=>?_
 try dsimp only
 refine WS fun _ C=>eG U fun D=>bI 1 U<|RK C<|WS fun _ B=>rP 5 [0,1] (mc 0 U (mr 1 U mn)) ?_
 refine cG (t:=11) U (aU fun A=>?_) (aT fun A=>?_)
 ·refine rP 7 [] mn ?_
  refine RK B<|ar<|Q1 hQ U U U ?_
  (rw [N5 A]; done)
 refine eV 3 [0,1] (mr 12 U (mc 0 U mn)) U<|rS (CL (vG j kA kC az cA cC bA bC slA slC drA drC ha heA heC faA faC prA prC i p hin hok hp) (bk [2,3,4,5,6,7,8,9,10,11]) U)<|rP 3 [] mn ?_
 refine RK B<|ar<|Q1 hQ U U U ?_
 (rw [KN A]; done)
theorem Na (j:cS) (kA:OA) (kC:Nat) (az:List RA) (cA:OA) (cC:Nat) (bA:OA) (bC:Nat) (slA:OA) (slC:Nat) (drA:OA) (drC:Nat) (ha:List cD) (heA:OA) (heC:Nat) (faA:OA) (faC:Nat) (prA:OA) (prC:Nat) (sq:Int) (hin:gZ j az ha):
 dA Tryz.prog 16 [(vA (gh.cells (nq j kA kC cA cC bA bC slA slC drA drC heA heC faA faC prA prC))),(vI sq)] [(rd gd 3 2 fj),(rd kA j.Race.ao.aO.length 9 (j.Race.ao.aO.map au.cells)),(rd cA j.Race.ao.aj.length 2 (List.zipWith ax.cells j.Race.ao.aj az)),(dE (bg ax.e_ j.Race.ao.aj az)),(rd bA j.Race.ao.ab.length 4 (j.Race.ao.ab.map bK.cells)),(rd slA j.Race.aV.length 1 (j.Race.aV.map iC)),(rd drA j.Race.bV.length 1 (j.Race.bV.map iC)),(rd heA j.Race.av.length 1 (List.zipWith bW j.Race.av ha)),(dE (bg er j.Race.av ha)),(rd faA j.aS.length 4 (j.aS.map aZ.cells)),(rd prA j.aJ.length 5 (j.aJ.map br.cells))] (vT [(vI (tO j sq)),(vI (re j sq))]):=by
 have c:=hin.race
 have W:=hin.race.line
 have i:=hin.race.g6
 have k:=hin.race.has
 have d:=hin.race.g7
 have Z:=hin.nf
 have b:=hin.np
 refine bJ kr Tryz.func16 U U fun q Q hQ hN=>?_
 try dsimp only
 refine WS fun _ M=>eG U fun o=>wO U U fun AB=>bI 2 U<|RK M<|WS fun _ N=>eV 1 [] (mc 1 U mn) U<|rS (CL (r8 j kA kC az cA cC bA bC slA slC drA drC ha heA heC faA faC prA prC hin) (bk [2,3,4,5,6,7,8,9,10,11,12]) U)<|bI 3 U<|AL U Dn fun J=>eN U EA U<|bI 1 U<|RK N<|aq fun _ O=>WS fun _ P=>rP 2 [] mn ?_
 refine RK P<|ck U (aW fun A=>?_) (aY fun A=>?_)
 ·refine WS fun _ R=>rP 3 [] mn ?_
  refine RK R<|ar<|Q2 hQ U U U U ?_
  (have e:=GH (s:=sq) A; rw [e.1,e.2]; done)
 refine WK O<|aq fun _ S=>WS fun _ C=>rP 6 [0,1] (mc 2 U (mc 1 U mn)) ?_
 refine eu (xs:=[.tmp 22]) (cs:=[(vI sq)]) U dy j8 U U U U (by simp [Value.cells]) U U fun K=>?_
 refine rS (CL (dA.eq (ik 0 ((j.Race.aV.length:Int)-1) ([sq]) (some ⟨K,0,none⟩) 1 (by (simp; done))) cy) (aD (bx 0 U U (by simp [bP]) U)<|aL) U) ?_
 refine rP 1 [] mn ?_
 refine RK C<|ck U (aW fun L=>?_) (aY fun L=>?_)
 ·refine WS fun _ D=>rP 2 [] mn ?_
  refine RK D<|ar<|Q2 hQ U U U U ?_
  (have e:=F_ (s:=sq) A I; rw [e.1,e.2]; done)
 refine WK S<|WS fun _ E=>rP 2 [] (mc 3 U mn) ?_
 refine rS (FU U) ?_
 refine cX (zZ j.aJ prA prC (Value.func (.func 49) [].toArray [(vP AB),(vP J)].toArray) (fun H B=>(Aj j sq B)) (dE [(cz AB 3 [(vI sq)]),(rd kA j.Race.ao.aO.length 9 (j.Race.ao.aO.map au.cells)),(rd cA j.Race.ao.aj.length 2 (List.zipWith ax.cells j.Race.ao.aj az)),(dE (bg ax.e_ j.Race.ao.aj az)),(rd bA j.Race.ao.ab.length 4 (j.Race.ao.ab.map bK.cells)),(rd slA j.Race.aV.length 1 (j.Race.aV.map iC)),(rd drA j.Race.bV.length 1 (j.Race.bV.map iC)),(rd heA j.Race.av.length 1 (List.zipWith bW j.Race.av ha)),(dE (bg er j.Race.av ha)),(rd faA j.aS.length 4 (j.aS.map aZ.cells)),(rd prA j.aJ.length 5 (j.aJ.map br.cells)),(cz J 97 (df.cells (df.mk (nq j kA kC cA cC bA bC slA slC drA drC heA heC faA faC prA prC))))]) (by intro H B X; exact k9 (fi:=[]) (ca:=[(vP AB),(vP J)]) (j3 (Kb H B sq AB j kA kC az cA cC bA bC slA slC drA drC ha heA heC faA faC prA prC J asm asm (by (obtain ⟨n,_,V⟩:=X; exact ⟨n,V⟩))) (bk [0,1,2,3,4,5,6,7,8,9,10,11]))) asm) (dM 14 rfl rfl<|aD (j2 (bk [2,5,6,7,8,9,10,11,12,13,14,1]))<|aL) rfl fun Y f=>?_
 obtain ⟨g,h⟩:=Y
 try dsimp only
 refine bI 1 U<|RK E<|WS fun _ F=>rP 1 [] mn ?_
 have G:=(eA A).2
 have m:=G.np
 have AA:=G.tf
 have l:(l_ (iu j.aJ fun _ p=>Aj j sq p) j.aJ.length).length≤8:=Nat.le_trans qs I
 have T:=Dz (a:= -(((l_ (iu j.aJ fun _ p=>Aj j sq p) j.aJ.length).length:Nat):Int)) ⟨I,I⟩ AA
 refine bI 1 U<|rS (NG U ⟨I,I⟩)<|eV 2 [] (mc 4 U mn) U<|rS (BI U (ux T))<|rP 2 [] mn ?_
 refine RK F<|ar<|Q2 hQ U U U U ?_
 (have e:=Ii (s:=sq) A I; rw [e.1,e.2]; done)
end
section
open Go.RowKit
theorem sP:
 nz Tryz.prog 31 [] [] (fun (x:(OA)×Nat×(OA)×Nat×(List RA)×(OA)×Nat×(OA)×Nat×(OA)×Nat×(OA)×Nat×(List cD)×(OA)×Nat×(OA)×Nat)=>(vA (gh.cells (gh.mk (cW.mk (cm.mk (bL.mk (bE.mk x.1 ep.Race.ao.aO.length x.2.1)) ep.Race.ao.hU (bE.mk x.2.2.1 ep.Race.ao.aj.length x.2.2.2.1) (bE.mk x.2.2.2.2.2.1 ep.Race.ao.ab.length x.2.2.2.2.2.2.1) ep.Race.ao.cd ep.Race.ao.fK ep.Race.ao.dC) (bE.mk x.2.2.2.2.2.2.2.1 ep.Race.aV.length x.2.2.2.2.2.2.2.2.1) (bE.mk x.2.2.2.2.2.2.2.2.2.1 ep.Race.bV.length x.2.2.2.2.2.2.2.2.2.2.1) ep.Race.j9 (bE.mk x.2.2.2.2.2.2.2.2.2.2.2.1 ep.Race.av.length x.2.2.2.2.2.2.2.2.2.2.2.2.1)) (bE.mk x.2.2.2.2.2.2.2.2.2.2.2.2.2.2.1 ep.aS.length x.2.2.2.2.2.2.2.2.2.2.2.2.2.2.2.1) (bE.mk x.2.2.2.2.2.2.2.2.2.2.2.2.2.2.2.2.1 ep.aJ.length x.2.2.2.2.2.2.2.2.2.2.2.2.2.2.2.2.2) ep.iw ep.Df)))) (fun (x:(OA)×Nat×(OA)×Nat×(List RA)×(OA)×Nat×(OA)×Nat×(OA)×Nat×(OA)×Nat×(List cD)×(OA)×Nat×(OA)×Nat)=>gZ ep x.2.2.2.2.1 x.2.2.2.2.2.2.2.2.2.2.2.2.2.1∧x.2.2.2.2.1.length=ep.Race.ao.aj.length∧sQ ep.Race.av x.2.2.2.2.2.2.2.2.2.2.2.2.2.1) (fun (x:(OA)×Nat×(OA)×Nat×(List RA)×(OA)×Nat×(OA)×Nat×(OA)×Nat×(OA)×Nat×(List cD)×(OA)×Nat×(OA)×Nat)=>[(own x.1 x.2.1 128 9 (ep.Race.ao.aO.map au.cells)),(own x.2.2.1 x.2.2.2.1 133 2 (List.zipWith ax.cells ep.Race.ao.aj x.2.2.2.2.1)),(bM (bg ax.owns ep.Race.ao.aj x.2.2.2.2.1)),(own x.2.2.2.2.2.1 x.2.2.2.2.2.2.1 137 4 (ep.Race.ao.ab.map bK.cells)),(own x.2.2.2.2.2.2.2.1 x.2.2.2.2.2.2.2.2.1 3 1 (ep.Race.aV.map iC)),(own x.2.2.2.2.2.2.2.2.2.1 x.2.2.2.2.2.2.2.2.2.2.1 3 1 (ep.Race.bV.map iC)),(own x.2.2.2.2.2.2.2.2.2.2.2.1 x.2.2.2.2.2.2.2.2.2.2.2.2.1 75 1 (List.zipWith bW ep.Race.av x.2.2.2.2.2.2.2.2.2.2.2.2.2.1)),(bM (bg jN ep.Race.av x.2.2.2.2.2.2.2.2.2.2.2.2.2.1)),(own x.2.2.2.2.2.2.2.2.2.2.2.2.2.2.1 x.2.2.2.2.2.2.2.2.2.2.2.2.2.2.2.1 86 4 (ep.aS.map aZ.cells)),(own x.2.2.2.2.2.2.2.2.2.2.2.2.2.2.2.2.1 x.2.2.2.2.2.2.2.2.2.2.2.2.2.2.2.2.2 102 5 (ep.aJ.map br.cells))]):=by
 refine eO kr Tryz.func31 U U fun V Q hQ hN=>?_
 try dsimp only
 refine WS fun _ P=>AL U U8 fun T=>RK P<|WS fun _ R=>rS (CL (p6 10000 10200) (aL) U)<|rS (SX (bq (xs:=[(0,.const (vI 1)),(1,.tmp 3)]) (cs:=(au.cells (au.mk 1 (ai.mk 10000 10200) (ai.mk 0 0) (ai.mk 0 0) 0 0))) U U (bp Tx U)) U U)<|eu (xs:=[.tmp 4]) (cs:=(au.cells (au.mk 1 (ai.mk 10000 10200) (ai.mk 0 0) (ai.mk 0 0) 0 0))) U wy FL U U U U (by simp [Value.cells,au.bo]) U U fun E=>rS (SX (bq (xs:=[(0,.tmp 5)]) (cs:=(bL.cells (bL.mk (bE.mk (some ⟨E,0,none⟩) 1 1)))) U U (bp Vo U)) U U)<|rS (CL (p6 0 2) (aL) U)<|rS (SX (bq (xs:=[(0,.const (vI 0)),(1,.tmp 7)]) (cs:=(ct.cells (ct.mk 0 (ai.mk 0 2)))) U U (bp O1 U)) U U)<|rS (CL (p6 5 6) (aL) U)<|rS (SX (bq (xs:=[(0,.const (vI 100000)),(1,.tmp 9)]) (cs:=(ct.cells (ct.mk 100000 (ai.mk 5 6)))) U U (bp O1 U)) U U)<|eu (xs:=[.tmp 8,.tmp 10]) (cs:=((ct.cells (ct.mk 0 (ai.mk 0 2)))++(ct.cells (ct.mk 100000 (ai.mk 5 6))))) U nT s9 U U U U (by simp [Value.cells,ct.bo]) U U fun J=>rS (SX (bq (xs:=[(0,.const (vI 100)),(1,.tmp 11)]) (cs:=(dk.cells (dk.mk 100 (bE.mk (some ⟨J,0,none⟩) 2 2)))) U U (bp RN U)) U U)<|eu (xs:=[.tmp 12]) (cs:=(dk.cells (dk.mk 100 (bE.mk (some ⟨J,0,none⟩) 2 2)))) U xZ xA U U U U (by simp [Value.cells,dk.bo]) U U fun L=>rS (CL (p6 1000 1000) (aL) U)<|rS (SX (bq (xs:=[(1,.tmp 14)]) (cs:=(cH.cells (cH.mk 0 (ai.mk 1000 1000)))) U U (bp Is U)) U U)<|rS (SX (bq (xs:=[(0,.tmp 15)]) (cs:=(bK.cells (bK.mk (cH.mk 0 (ai.mk 1000 1000)) 0))) U U (bp Ko U)) U U)<|rS (CL (p6 4000 4000) (aL) U)<|rS (SX (bq (xs:=[(1,.tmp 17)]) (cs:=(cH.cells (cH.mk 0 (ai.mk 4000 4000)))) U U (bp Is U)) U U)<|rS (SX (bq (xs:=[(0,.tmp 18)]) (cs:=(bK.cells (bK.mk (cH.mk 0 (ai.mk 4000 4000)) 0))) U U (bp Ko U)) U U)<|rS (CL (p6 9000 9000) (aL) U)<|rS (SX (bq (xs:=[(1,.tmp 20)]) (cs:=(cH.cells (cH.mk 0 (ai.mk 9000 9000)))) U U (bp Is U)) U U)<|rS (SX (bq (xs:=[(0,.tmp 21)]) (cs:=(bK.cells (bK.mk (cH.mk 0 (ai.mk 9000 9000)) 0))) U U (bp Ko U)) U U)<|eu (xs:=[.tmp 16,.tmp 19,.tmp 22]) (cs:=((bK.cells (bK.mk (cH.mk 0 (ai.mk 1000 1000)) 0))++(bK.cells (bK.mk (cH.mk 0 (ai.mk 4000 4000)) 0))++(bK.cells (bK.mk (cH.mk 0 (ai.mk 9000 9000)) 0)))) U uZ Tq U U U U (by simp [Value.cells,bK.bo]) U U fun M=>rS (SX (bq (xs:=[(0,.tmp 6),(1,.const (vI 2000)),(4,.const (vI 1)),(5,.const (vI 1)),(6,.const (vI 1)),(2,.tmp 13),(3,.tmp 23)]) (cs:=(cm.cells (cm.mk (bL.mk (bE.mk (some ⟨E,0,none⟩) 1 1)) 2000 (bE.mk (some ⟨L,0,none⟩) 1 1) (bE.mk (some ⟨M,0,none⟩) 3 3) 1 1 1))) U U (bp Vt U)) U U)<|AL U Uc fun AA=>?_
 refine gv (es:=(ep.Race.ao.aO.map au.cells)) (C':=[_,_,_,_,(own (some ⟨E,0,none⟩) 1 128 9 (ep.Race.ao.aO.map au.cells)),_]) 4 U (nj au.bo _) U (by show _≤maxLen; exact Nat.le_trans (m:=10) (show (1:Nat)≤10 by decide) dc) U ?_
 refine gv (es:=(yR.bB.map ct.cells)) (C':=[_,_,_,(own (some ⟨J,0,none⟩) 2 130 3 (yR.bB.map ct.cells)),_,_]) 3 U (nj ct.bo _) U (by show _≤maxLen; exact Nat.le_trans (m:=10) (show (2:Nat)≤10 by decide) dc) U ?_
 refine gv (es:=(List.zipWith ax.cells ep.Race.ao.aj [((some ⟨J,0,none⟩),2)])) (C':=[_,_,(own (some ⟨L,0,none⟩) 1 133 2 (List.zipWith ax.cells ep.Race.ao.aj [((some ⟨J,0,none⟩),2)])),_,_,_]) 2 U (by intro x hx; change x∈[ax.cells yR ((some ⟨J,0,none⟩),2)] at hx; rw [cE.1 hx]; rfl) U (by show _≤maxLen; exact Nat.le_trans (m:=10) (show (1:Nat)≤10 by decide) dc) U ?_
 refine gv (es:=(ep.Race.ao.ab.map bK.cells)) (C':=[_,(own (some ⟨M,0,none⟩) 3 137 4 (ep.Race.ao.ab.map bK.cells)),_,_,_,_]) 1 U (nj bK.bo _) U (by show _≤maxLen; exact Nat.le_trans (m:=10) (show (3:Nat)≤10 by decide) dc) U ?_
 refine yp<|Od (X:=[]) (X':=bg ax.owns ep.Race.ao.aj [((some ⟨J,0,none⟩),2)]) 0 4 rfl rfl rfl<|qN rfl Uy rfl<|RK R<|WS fun _ S=>rS (SX (bq (xs:=[(0,.const (vI 0)),(1,.const (vI 10600))]) (cs:=(aF.cells (aF.mk 0 10600))) rfl rfl (bp Bd rfl)) rfl rfl)<|rS (SX (bq (xs:=[(0,.const (vI 0)),(1,.const (vI 11000))]) (cs:=(aF.cells (aF.mk 0 11000))) rfl rfl (bp Bd rfl)) rfl rfl)<|rS (SX (bq (xs:=[(0,.const (vI 1)),(1,.const (vI 12600))]) (cs:=(aF.cells (aF.mk 1 12600))) rfl rfl (bp Bd rfl)) rfl rfl)<|eu (xs:=[.tmp 25,.tmp 26,.tmp 27]) (cs:=((aF.cells (aF.mk 0 10600))++(aF.cells (aF.mk 0 11000))++(aF.cells (aF.mk 1 12600)))) rfl wB yX rfl rfl rfl rfl (by simp [Value.cells,aF.bo]) rfl rfl fun A=>rS (SX (bq (xs:=[(0,.const (vI 10000)),(1,.const (vI 20000)),(2,.tmp 28)]) (cs:=(cL.cells (cL.mk 10000 20000 (bE.mk (some ⟨A,0,none⟩) 3 3)))) rfl rfl (bp U2 rfl)) rfl rfl)<|AL rfl Vg fun N=>gv (es:=(mB.aa.map aF.cells)) (C':=[_,(own (some ⟨A,0,none⟩) 3 113 2 (mB.aa.map aF.cells)),_,_,_,_,_,_]) 1 rfl (nj aF.bo _) rfl dc rfl<|eN rfl Va rfl<|RK S<|aq fun _ O=>OR (L':=[(0,(vP T)),(1,(vP AA)),(2,(vP N)),(3,(vA (ai.cells (ai.mk 10000 10200)))),(4,(vA (au.cells (au.mk 1 (ai.mk 10000 10200) (ai.mk 0 0) (ai.mk 0 0) 0 0)))),(5,(vS (some ⟨E,0,none⟩) 1 1)),(6,(vA (bL.cells (bL.mk (bE.mk (some ⟨E,0,none⟩) 1 1))))),(7,(vA (ai.cells (ai.mk 0 2)))),(8,(vA (ct.cells (ct.mk 0 (ai.mk 0 2))))),(9,(vA (ai.cells (ai.mk 5 6)))),(10,(vA (ct.cells (ct.mk 100000 (ai.mk 5 6))))),(11,(vS (some ⟨J,0,none⟩) 2 2)),(12,(vA (dk.cells (dk.mk 100 (bE.mk (some ⟨J,0,none⟩) 2 2))))),(13,(vS (some ⟨L,0,none⟩) 1 1)),(14,(vA (ai.cells (ai.mk 1000 1000)))),(15,(vA (cH.cells (cH.mk 0 (ai.mk 1000 1000))))),(16,(vA (bK.cells (bK.mk (cH.mk 0 (ai.mk 1000 1000)) 0)))),(17,(vA (ai.cells (ai.mk 4000 4000)))),(18,(vA (cH.cells (cH.mk 0 (ai.mk 4000 4000))))),(19,(vA (bK.cells (bK.mk (cH.mk 0 (ai.mk 4000 4000)) 0)))),(20,(vA (ai.cells (ai.mk 9000 9000)))),(21,(vA (cH.cells (cH.mk 0 (ai.mk 9000 9000))))),(22,(vA (bK.cells (bK.mk (cH.mk 0 (ai.mk 9000 9000)) 0)))),(23,(vS (some ⟨M,0,none⟩) 3 3)),(24,(vA (cm.cells (cm.mk (bL.mk (bE.mk (some ⟨E,0,none⟩) 1 1)) 2000 (bE.mk (some ⟨L,0,none⟩) 1 1) (bE.mk (some ⟨M,0,none⟩) 3 3) 1 1 1)))),(25,(vA (aF.cells (aF.mk 0 10600)))),(26,(vA (aF.cells (aF.mk 0 11000)))),(27,(vA (aF.cells (aF.mk 1 12600)))),(28,(vS (some ⟨A,0,none⟩) 3 3)),(29,(vA (cL.cells (cL.mk 10000 20000 (bE.mk (some ⟨A,0,none⟩) 3 3)))))]) rfl<|k6 cg [0,3,4,5,6,8,9,10,14,15,16,17,19,20,21] [7,11,12,1,2,13,18,22,23,24] [false,false,false,false,false,false,false,false,false,false,false,false,false,false,false] [] [(cz N 41 (cL.cells (cL.mk 10000 20000 (bE.mk (some ⟨A,0,none⟩) 3 3)))),(own (some ⟨A,0,none⟩) 3 113 2 (mB.aa.map aF.cells)),(bM (bg ax.owns ep.Race.ao.aj [((some ⟨J,0,none⟩),2)])),(cz AA 28 (cm.cells (cm.mk (bL.mk (bE.mk (some ⟨E,0,none⟩) 1 1)) 2000 (bE.mk (some ⟨L,0,none⟩) 1 1) (bE.mk (some ⟨M,0,none⟩) 3 3) 1 1 1))),(own (some ⟨M,0,none⟩) 3 137 4 (ep.Race.ao.ab.map bK.cells)),(own (some ⟨L,0,none⟩) 1 133 2 (List.zipWith ax.cells ep.Race.ao.aj [((some ⟨J,0,none⟩),2)])),(own (some ⟨E,0,none⟩) 1 128 9 (ep.Race.ao.aO.map au.cells))] [] kr (aR [0,1,2,3,4,5,6]) (aR [])<|eS rfl (LW 3 rfl bU rfl rfl)<|eS rfl (LW 0 rfl bU rfl rfl)<|eS rfl (SX (bq (xs:=[(3,.tmp 33)]) (cs:=(aG.cells (aG.mk false false (ai.mk 0 0) (cL.mk 10000 20000 (bE.mk (some ⟨A,0,none⟩) 3 3))))) rfl rfl (bp TS rfl)) rfl rfl)<|eS rfl (CL (qY 2600 2600) (aL) rfl)<|eS rfl (CL (qY 2580 2609) (aL) rfl)<|eS rfl (CL (qY 2555 2559) (aL) rfl)<|eS rfl (CL (qY 2540 2549) (aL) rfl)<|eS rfl (CL (qY 2570 2575) (aL) rfl)<|eS rfl (SX (bq (xs:=[(0,.const (Value.int .u8 1)),(2,.const (vI 12600)),(3,.const (vI 13000))]) (cs:=(aZ.cells (aZ.mk 1 0 12600 13000))) rfl rfl (bp NA rfl)) rfl rfl)<|eS rfl (SX (bq (xs:=[(0,.const (Value.int .u8 2)),(1,.const (vI 1)),(2,.const (vI 11003)),(3,.const (vI 11100))]) (cs:=(aZ.cells (aZ.mk 2 1 11003 11100))) rfl rfl (bp NA rfl)) rfl rfl)<|eS rfl (SX (bq (xs:=[(0,.const (Value.int .u8 3)),(2,.const (vI 10700)),(3,.const (vI 10900))]) (cs:=(aZ.cells (aZ.mk 3 0 10700 10900))) rfl rfl (bp NA rfl)) rfl rfl)<|eS rfl (SX (bq (xs:=[(0,.const (Value.int .u8 1)),(2,.const (vI 13000)),(3,.const (vI 14000))]) (cs:=(aZ.cells (aZ.mk 1 0 13000 14000))) rfl rfl (bp NA rfl)) rfl rfl)<|eS rfl (SX (bq (xs:=[(0,.const (vI 2)),(3,.const (vI 0)),(4,.const (vI 72596))]) (cs:=(br.cells (br.mk 2 0 0 0 72596))) rfl rfl (bp IL rfl)) rfl rfl)<|eS rfl (SX (bq (xs:=[(0,.const (vI 5)),(3,.const (vI 1)),(4,.const (vI 72603))]) (cs:=(br.cells (br.mk 5 0 0 1 72603))) rfl rfl (bp IL rfl)) rfl rfl)<|eS rfl (SX (bq (xs:=[(0,.const (vI 6)),(3,.const (vI 3)),(4,.const (vI 20000))]) (cs:=(br.cells (br.mk 6 0 0 3 20000))) rfl rfl (bp IL rfl)) rfl rfl)<|ek rfl<|EN [.take 7,.take 11,.op 12,.take 1,.take 2,.op 13,.take 18,.take 22,.op 23,.op 24] [(34,(vA (aG.cells (aG.mk false false (ai.mk 0 0) (cL.mk 10000 20000 (bE.mk (some ⟨A,0,none⟩) 3 3)))))),(35,(vA (aG.cells (aG.mk false true (ai.mk 2600 2600) (cL.mk 0 0 (bE.mk none 0 0)))))),(36,(vA (aG.cells (aG.mk false true (ai.mk 2580 2609) (cL.mk 0 0 (bE.mk none 0 0)))))),(38,(vA (aG.cells (aG.mk false true (ai.mk 2555 2559) (cL.mk 0 0 (bE.mk none 0 0)))))),(39,(vA (aG.cells (aG.mk false true (ai.mk 2540 2549) (cL.mk 0 0 (bE.mk none 0 0)))))),(40,(vA (aG.cells (aG.mk false true (ai.mk 2570 2575) (cL.mk 0 0 (bE.mk none 0 0)))))),(44,(vA (aZ.cells (aZ.mk 1 0 12600 13000)))),(45,(vA (aZ.cells (aZ.mk 2 1 11003 11100)))),(46,(vA (aZ.cells (aZ.mk 3 0 10700 10900)))),(47,(vA (aZ.cells (aZ.mk 1 0 13000 14000)))),(49,(vA (br.cells (br.mk 2 0 0 0 72596)))),(50,(vA (br.cells (br.mk 5 0 0 1 72603)))),(51,(vA (br.cells (br.mk 6 0 0 3 20000))))] (fun i=>match i with |7=>37|11=>41|1=>31|2=>32|18=>48|22=>52|_=>0) (fun i b=>match i with |7=> .slice (some ⟨b,0,none⟩) 3 3|11=> .slice (some ⟨b,0,none⟩) 3 3|1=> .slice (some ⟨b,0,none⟩) 3 3|2=> .slice (some ⟨b,0,none⟩) 3 3|18=> .slice (some ⟨b,0,none⟩) 4 4|22=> .slice (some ⟨b,0,none⟩) 3 3|_=>undef) (fun i b=>match i with |7=>cz b 43 ((aG.cells (aG.mk false false (ai.mk 0 0) (cL.mk 10000 20000 (bE.mk (some ⟨A,0,none⟩) 3 3))))++(aG.cells (aG.mk false true (ai.mk 2600 2600) (cL.mk 0 0 (bE.mk none 0 0))))++(aG.cells (aG.mk false true (ai.mk 2580 2609) (cL.mk 0 0 (bE.mk none 0 0)))))|11=>cz b 43 ((aG.cells (aG.mk false true (ai.mk 2555 2559) (cL.mk 0 0 (bE.mk none 0 0))))++(aG.cells (aG.mk false true (ai.mk 2540 2549) (cL.mk 0 0 (bE.mk none 0 0))))++(aG.cells (aG.mk false true (ai.mk 2570 2575) (cL.mk 0 0 (bE.mk none 0 0)))))|1=>cz b 3 [(vI 4),(vI 7),(vI 9)]|2=>cz b 3 [(vI 2),(vI 0),(vI 1)]|18=>cz b 86 ((aZ.cells (aZ.mk 1 0 12600 13000))++(aZ.cells (aZ.mk 2 1 11003 11100))++(aZ.cells (aZ.mk 3 0 10700 10900))++(aZ.cells (aZ.mk 1 0 13000 14000)))|22=>cz b 102 ((br.cells (br.mk 2 0 0 0 72596))++(br.cells (br.mk 5 0 0 1 72603))++(br.cells (br.mk 6 0 0 3 20000)))|_=>cz b 0 []) rfl rfl rfl kr rfl rfl (aR [0,1,2,3,4,5,6]) (mC (wv (xs:=[.tmp 34,.tmp 35,.tmp 36]) (cs:=((aG.cells (aG.mk false false (ai.mk 0 0) (cL.mk 10000 20000 (bE.mk (some ⟨A,0,none⟩) 3 3))))++(aG.cells (aG.mk false true (ai.mk 2600 2600) (cL.mk 0 0 (bE.mk none 0 0))))++(aG.cells (aG.mk false true (ai.mk 2580 2609) (cL.mk 0 0 (bE.mk none 0 0)))))) rfl mJ Bx rfl rfl rfl rfl (by simp [Value.cells,aG.bo]) rfl rfl rfl (fun _=>rfl) fun _=>rfl)<|mC (wv (xs:=[.tmp 38,.tmp 39,.tmp 40]) (cs:=((aG.cells (aG.mk false true (ai.mk 2555 2559) (cL.mk 0 0 (bE.mk none 0 0))))++(aG.cells (aG.mk false true (ai.mk 2540 2549) (cL.mk 0 0 (bE.mk none 0 0))))++(aG.cells (aG.mk false true (ai.mk 2570 2575) (cL.mk 0 0 (bE.mk none 0 0)))))) rfl mJ Bx rfl rfl rfl rfl (by simp [Value.cells,aG.bo]) rfl rfl rfl (fun _=>rfl) fun _=>rfl)<|q9<|mC (wv (xs:=[.const (vI 4),.const (vI 7),.const (vI 9)]) (cs:=[(vI 4),(vI 7),(vI 9)]) rfl dy j8 rfl rfl rfl rfl (by simp [Value.cells]) rfl rfl rfl (fun _=>rfl) fun _=>rfl)<|mC (wv (xs:=[.const (vI 2),.const (vI 0),.const (vI 1)]) (cs:=[(vI 2),(vI 0),(vI 1)]) rfl dy j8 rfl rfl rfl rfl (by simp [Value.cells]) rfl rfl rfl (fun _=>rfl) fun _=>rfl)<|q9<|mC (wv (xs:=[.tmp 44,.tmp 45,.tmp 46,.tmp 47]) (cs:=((aZ.cells (aZ.mk 1 0 12600 13000))++(aZ.cells (aZ.mk 2 1 11003 11100))++(aZ.cells (aZ.mk 3 0 10700 10900))++(aZ.cells (aZ.mk 1 0 13000 14000)))) rfl Br QR rfl rfl rfl rfl (by simp [Value.cells,aZ.bo]) rfl rfl rfl (fun _=>rfl) fun _=>rfl)<|mC (wv (xs:=[.tmp 49,.tmp 50,.tmp 51]) (cs:=((br.cells (br.mk 2 0 0 0 72596))++(br.cells (br.mk 5 0 0 1 72603))++(br.cells (br.mk 6 0 0 3 20000)))) rfl DK FB rfl rfl rfl rfl (by simp [Value.cells,br.bo]) rfl rfl rfl (fun _=>rfl) fun _=>rfl)<|q9<|q9<|IZ) ?_
 intro F
 try dsimp only
 intro G
 try dsimp only
 refine rq U fun Y X K hT=>eu (xs:=[.tmp 37,.tmp 41]) (cs:=[(vS (some ⟨F,0,none⟩) 3 3),(vS (some ⟨G,0,none⟩) 3 3)]) U j7 UT U U U U (by simp [Value.cells]) U U fun B=>nM hT 48 11 U U (fun w hs=>St.j1 [3,4,5,6,7,8,9] U U hs) U U ?_
 try dsimp only [List.take]
 intro C
 try dsimp only
 intro D
 try dsimp only
 refine rq U fun Y X K hT=>rS (SX (bq (xs:=[(0,.tmp 30),(1,.tmp 31),(2,.tmp 32),(3,.const (vI 2)),(4,.tmp 42)]) (cs:=(cW.cells (cW.mk (cm.mk (bL.mk (bE.mk (some ⟨E,0,none⟩) 1 1)) 2000 (bE.mk (some ⟨L,0,none⟩) 1 1) (bE.mk (some ⟨M,0,none⟩) 3 3) 1 1 1) (bE.mk (some ⟨C,0,none⟩) 3 3) (bE.mk (some ⟨D,0,none⟩) 3 3) 2 (bE.mk (some ⟨B,0,none⟩) 2 2)))) U U (bp Hm U)) U U)<|nM hT 51 13 U U (fun w hs=>St.j1 [5,6,7,8,9,10,11] U U hs) U U ?_
 try dsimp only [List.take]
 intro H
 try dsimp only
 intro AB
 try dsimp only
 refine rq U fun Y X K hT=>rS (SX (bq (xs:=[(0,.tmp 43),(1,.tmp 48),(2,.tmp 52),(3,.const (vI 1)),(4,.const (vI 500))]) (cs:=(gh.cells (gh.mk (cW.mk (cm.mk (bL.mk (bE.mk (some ⟨E,0,none⟩) 1 1)) 2000 (bE.mk (some ⟨L,0,none⟩) 1 1) (bE.mk (some ⟨M,0,none⟩) 3 3) 1 1 1) (bE.mk (some ⟨C,0,none⟩) 3 3) (bE.mk (some ⟨D,0,none⟩) 3 3) 2 (bE.mk (some ⟨B,0,none⟩) 2 2)) (bE.mk (some ⟨H,0,none⟩) 4 4) (bE.mk (some ⟨AB,0,none⟩) 3 3) 1 500))) U U (bp Ug U)) U U)<|nM hT 54 15 U U (fun w hs=>St.j1 [7,8,9,10,11,12,13] U U hs) U U ?_
 try dsimp only [List.take]
 refine rq U fun Y X K hT=>g5 (vs:=(gh.cells (gh.mk (cW.mk (cm.mk (bL.mk (bE.mk (some ⟨E,0,none⟩) 1 1)) 2000 (bE.mk (some ⟨L,0,none⟩) 1 1) (bE.mk (some ⟨M,0,none⟩) 3 3) 1 1 1) (bE.mk (some ⟨C,0,none⟩) 3 3) (bE.mk (some ⟨D,0,none⟩) 3 3) 2 (bE.mk (some ⟨B,0,none⟩) 2 2)) (bE.mk (some ⟨H,0,none⟩) 4 4) (bE.mk (some ⟨AB,0,none⟩) 3 3) 1 500))) (cs':=(gh.cells (gh.mk (cW.mk (cm.mk (bL.mk (bE.mk (some ⟨E,0,none⟩) 1 1)) 2000 (bE.mk (some ⟨L,0,none⟩) 1 1) (bE.mk (some ⟨M,0,none⟩) 3 3) 1 1 1) (bE.mk (some ⟨C,0,none⟩) 3 3) (bE.mk (some ⟨D,0,none⟩) 3 3) 2 (bE.mk (some ⟨B,0,none⟩) 2 2)) (bE.mk (some ⟨H,0,none⟩) 4 4) (bE.mk (some ⟨AB,0,none⟩) 3 3) 1 500))) (C':=[_,_,_,_,_,_,_,_,_,_,_,_,_,_,(cz T 36 (gh.cells (gh.mk (cW.mk (cm.mk (bL.mk (bE.mk (some ⟨E,0,none⟩) 1 1)) 2000 (bE.mk (some ⟨L,0,none⟩) 1 1) (bE.mk (some ⟨M,0,none⟩) 3 3) 1 1 1) (bE.mk (some ⟨C,0,none⟩) 3 3) (bE.mk (some ⟨D,0,none⟩) 3 3) 2 (bE.mk (some ⟨B,0,none⟩) 2 2)) (bE.mk (some ⟨H,0,none⟩) 4 4) (bE.mk (some ⟨AB,0,none⟩) 3 3) 1 500)))]++X) 14 U U U VD U U U U U U U<|nM hT 54 15 U U (fun w hs=>St.j1 [7,8,9,10,11,12,13] U U hs) U U ?_
 try dsimp only [List.take]
 refine KK O ?_
 refine my (es:=(ep.Race.aV.map iC)) (C':=[_,_,_,(own (some ⟨C,0,none⟩) 3 3 1 (ep.Race.aV.map iC)),_,_,_,_,_,_,_,_,_,_,_]) 3 U (nj bP _) U (by show _≤maxLen; exact Nat.le_trans (m:=10) (show (3:Nat)≤10 by decide) dc) U ?_
 refine my (es:=(ep.Race.bV.map iC)) (C':=[_,_,(own (some ⟨D,0,none⟩) 3 3 1 (ep.Race.bV.map iC)),_,_,_,_,_,_,_,_,_,_,_,_]) 2 U (nj bP _) U (by show _≤maxLen; exact Nat.le_trans (m:=10) (show (3:Nat)≤10 by decide) dc) U ?_
 refine my (es:=(ep.aS.map aZ.cells)) (C':=[_,(own (some ⟨H,0,none⟩) 4 86 4 (ep.aS.map aZ.cells)),_,_,_,_,_,_,_,_,_,_,_,_,_]) 1 U (nj aZ.bo _) U (by show _≤maxLen; exact Nat.le_trans (m:=10) (show (4:Nat)≤10 by decide) dc) U ?_
 refine my (es:=(ep.aJ.map br.cells)) (C':=[(own (some ⟨AB,0,none⟩) 3 102 5 (ep.aJ.map br.cells)),_,_,_,_,_,_,_,_,_,_,_,_,_,_]) 0 U (nj br.bo _) U (by show _≤maxLen; exact Nat.le_trans (m:=10) (show (3:Nat)≤10 by decide) dc) U ?_
 refine my (es:=(List.zipWith ak.cells HZ [((some ⟨A,0,none⟩),3),(none,0),(none,0)])) (C':=[_,_,_,_,_,_,(own (some ⟨F,0,none⟩) 3 43 7 (List.zipWith ak.cells HZ [((some ⟨A,0,none⟩),3),(none,0),(none,0)])),_,_,_,_,_,_,_,_]) 6 U (rM Ft) U (by show _≤maxLen; exact Nat.le_trans (m:=10) (show (3:Nat)≤10 by decide) dc) U ?_
 refine my (es:=(List.zipWith ak.cells Sb [(none,0),(none,0),(none,0)])) (C':=[_,_,_,_,_,(own (some ⟨G,0,none⟩) 3 43 7 (List.zipWith ak.cells Sb [(none,0),(none,0),(none,0)])),_,_,_,_,_,_,_,_,_]) 5 U (rM Ft) U (by show _≤maxLen; exact Nat.le_trans (m:=10) (show (3:Nat)≤10 by decide) dc) U ?_
 refine my (es:=(List.zipWith bW ep.Race.av [(((some ⟨F,0,none⟩),3),[((some ⟨A,0,none⟩),3),(none,0),(none,0)]),(((some ⟨G,0,none⟩),3),[(none,0),(none,0),(none,0)])])) (C':=[_,_,_,_,(own (some ⟨B,0,none⟩) 2 75 1 (List.zipWith bW ep.Race.av [(((some ⟨F,0,none⟩),3),[((some ⟨A,0,none⟩),3),(none,0),(none,0)]),(((some ⟨G,0,none⟩),3),[(none,0),(none,0),(none,0)])])),_,_,_,_,_,_,_,_,_,_]) 4 U (rM Jg) U (by show _≤maxLen; exact Nat.le_trans (m:=10) (show (2:Nat)≤10 by decide) dc) U ?_
 refine eX 113 2<|eX 113 2<|eX 113 2<|eX 113 2<|eX 113 2<|G2 (bg jN ep.Race.av [(((some ⟨F,0,none⟩),3),[((some ⟨A,0,none⟩),3),(none,0),(none,0)]),(((some ⟨G,0,none⟩),3),[(none,0),(none,0),(none,0)])]) [11,13,0,1,10,2,3,4] [5,6,7,8,9,12,14,15,16,17,18,19] U U<|ar ?_
 refine LX hQ ((some ⟨E,0,none⟩),1,(some ⟨L,0,none⟩),1,[((some ⟨J,0,none⟩),2)],(some ⟨M,0,none⟩),3,(some ⟨C,0,none⟩),3,(some ⟨D,0,none⟩),3,(some ⟨B,0,none⟩),2,[(((some ⟨F,0,none⟩),3),[((some ⟨A,0,none⟩),3),(none,0),(none,0)]),(((some ⟨G,0,none⟩),3),[(none,0),(none,0),(none,0)])],(some ⟨H,0,none⟩),4,(some ⟨AB,0,none⟩),3) [11,10,7,9,4,3,5,0,2,1] [0] (mc 12 U mn) U (by show List.all _ _=true; simp only [il,List.all_nil,qb,xz,Bool.and_true]; rfl) U U ?_
 exact ⟨PD (Tu 1 dc) Kn,U,Kn⟩
end
section
open Go.RowKit
theorem z4 (G:List (List Int)) (H:List (List Int)) (gz:List RA) (gA:OA) (gC:Nat) (hz:List RA) (hA:OA) (hC:Nat) (h1:G.length≤1000000) (h2:H.length≤1000000) (h3: ∀ l∈G,l.length≤1000000) (h4: ∀ l∈H,l.length≤1000000) (hgz:gz.length=G.length) (hhz:hz.length=H.length):
 dA Tryz.prog 13 [(vS gA G.length gC),(vS hA H.length hC)] [(rd gA G.length 1 (List.zipWith tM G gz)),(dE (bg L4 G gz)),(rd hA H.length 1 (List.zipWith tM H hz)),(dE (bg L4 H hz))] (vB (decide (G=H))):=by
 refine bJ kr Tryz.func13 U U fun Z Q hQ hN=>?_
 try dsimp only
 refine WS fun _ N=>bI 1 U<|RK N<|aq fun _ O=>WS fun _ P=>rP 5 [] mn ?_
 refine RK P<|ck U (aW fun hl=>?_) (aY fun hl=>?_)
 ·refine WS fun _ R=>rP 1 [] mn ?_
  refine RK R<|ar<|Q1 hQ U U U ?_
  exact cB (bj (fun e=>by subst e; omega)).symm
 refine WK O<|aq fun _ S=>WS fun _ T=>rP 1 [] mn ?_
 refine RK T<|aH ?_
 have A:(0≤G.length)∧(G.take 0=H.take 0):=by exact ⟨Nat.zero_le _,rfl⟩
 refine bS (ι:={z:Nat // (z≤G.length)∧(G.take z=H.take z)}) [0,1] [0,1,2,3] U U (fun z=>[(5,(vI (z.1:Int)))]) (fun z=>[]) (fun _=>rfl) (fun _=>rfl) (fun z=>G.length-z.1) ⟨0,A⟩ (bD U) (aR [0,1,2,3]) ?_
 clear A
 rintro ⟨i,⟨W,B⟩⟩ J7 M
 try dsimp only
 refine aq fun _ AA=>WS fun _ V=>rP 4 [] mn ?_
 refine RK V<|bR U (aU fun L=>?_) (aT fun L=>?_)
 ·refine bQ<|ag<|ag<|aI<|KK S<|WS fun _ F=>rP 1 [] mn ?_
  refine RK F<|ar<|Q1 hQ U U U ?_
  exact cB (cO (cR I B I)).symm
 refine WK AA<|aq fun _ C=>aH<|aq fun _ D=>cU cg 10 kr<|dP 2 [] mn ?_
 obtain ⟨x,hx⟩:=aC G i I
 obtain ⟨xa,J⟩:=aC gz i I
 have X:(List.zipWith tM G gz)[i]? =some (tM x xa):=cv hx J
 refine dS (IA i U (ay 0 U) CC dc I I)<|dS (gD i 0 (vS xa.1 x.length xa.2) U bU (ay 0 U) X U dc U)<|dP 2 [] mn ?_
 obtain ⟨y,hy⟩:=aC H i I
 obtain ⟨ya,K⟩:=aC hz i I
 have Y:(List.zipWith tM H hz)[i]? =some (tM y ya):=cv hy K
 refine dS (IA i U (ay 2 U) CC dc I I)<|dS (gD i 0 (vS ya.1 y.length ya.2) U bU (ay 2 U) Y U dc U)<|dS (CL (q6 x xa.1 xa.2 y ya.1 ya.2 (by exact h3 x (aM hx)) (by exact h4 y (aM hy))) (aD (show fY _ (rd xa.1 x.length 1 (x.map iC)).holds from (bY 1 U (a_ hx J (by simp [L4]))))<|aD (show fY _ (rd ya.1 y.length 1 (y.map iC)).holds from (bY 3 U (a_ hy K (by simp [L4]))))<|aL) U)<|dP 1 [] mn ?_
 refine cx<|RK D<|ck U (aW fun h=>?_) (aY fun h=>?_)
 ·refine WS fun _ E=>rP 1 [] mn ?_
  refine RK E<|ar<|Q1 hQ U U U ?_
  exact cB (bj (nZ hx hy h)).symm
 refine cj<|aP<|KK C<|aw<|rP 3 [] mn ?_
 refine aK ?_
 have AB:(vI (((i+1):Nat):Int))=(vI ((i:Int)+1)):=by exact cI I
 refine bu (M ⟨(i+1),⟨I,iY B hx hy h⟩⟩ _ _ _ U os (dp.cons U<|dp.cons U<|bw U AB<|dp.nil _) (aR [0,1,2,3]))
theorem w4 (fq sq x:Int):
 dA Tryz.prog 29 [(vI fq),(vI sq),(Value.int .u8 x)] [(rd gd 3 2 fj)] (vB (decide (oY ep fq 0 sq=0∧qo ep fq 0 sq=x))):=by
 refine bJ kr Tryz.func29 U U fun c Q hQ hN=>?_
 try dsimp only
 refine WS fun _ X=>rP 1 [] mn ?_
 refine RK X<|WS fun _ Y=>cX sP (aL) U fun b a=>?_
 obtain ⟨S,V,T,W,AA,C,G,D,H,E,AB,F,J,O,K,L,P,R⟩:=b
 try dsimp only
 obtain ⟨N,Z,M⟩:=a
 refine bI 2 U<|rS (CL (M0 ep S V AA T W C G D H E AB O F J K L P R fq 0 sq (by exact N)) (dM 10 U U<|aD (aB (n:=ep.Race.ao.aO.length) 0 U sm)<|aD (aB (n:=ep.Race.ao.aj.length) 1 U (iO Z))<|aD (dR 2 U jJ)<|aD (aB (n:=ep.Race.ao.ab.length) 3 U sm)<|aD (aB (n:=ep.Race.aV.length) 4 U sm)<|aD (aB (n:=ep.Race.bV.length) 5 U sm)<|aD (aB (n:=ep.Race.av.length) 6 U (gr M.1))<|aD (jO 7 U M)<|aD (aB (n:=ep.aS.length) 8 U sm)<|aD (aB (n:=ep.aJ.length) 9 U sm)<|aL) U)<|bI 5 U<|RK Y<|WS fun _ A=>rP 3 [] mn ?_
 refine cG (t:=18) U (aU fun B=>?_) (aT fun B=>?_)
 ·refine rP 5 [] mn ?_
  refine RK A<|ar<|Q1 hQ U U U ?_
  exact cB (bj fun q=>B q.1).symm
 refine bI 2 U<|rS (BI U m_)<|rP 2 [] mn ?_
 refine RK A<|ar<|Q1 hQ U U U ?_
 exact cB (gV.2 ⟨fun q=>⟨B,q⟩,fun q=>q.2⟩)
theorem Fl (iq x:Int):
 dA Tryz.prog 30 [(vI iq),(Value.int .u8 x)] [(rd gd 3 2 fj)] (vB (decide (uQ ep iq=0∧wm ep iq=x))):=by
 refine bJ kr Tryz.func30 U U fun c Q hQ hN=>?_
 try dsimp only
 refine WS fun _ X=>rP 1 [] mn ?_
 refine RK X<|WS fun _ Y=>cX sP (aL) U fun b a=>?_
 obtain ⟨S,V,T,W,AA,C,G,D,H,E,AB,F,J,O,K,L,P,R⟩:=b
 try dsimp only
 obtain ⟨N,Z,M⟩:=a
 refine bI 1 U<|rS (CL (P0 ep S V AA T W C G D H E AB O F J K L P R iq (by exact N)) (dM 10 U U<|aD (aB (n:=ep.Race.ao.aO.length) 0 U sm)<|aD (aB (n:=ep.Race.ao.aj.length) 1 U (iO Z))<|aD (dR 2 U jJ)<|aD (aB (n:=ep.Race.ao.ab.length) 3 U sm)<|aD (aB (n:=ep.Race.aV.length) 4 U sm)<|aD (aB (n:=ep.Race.bV.length) 5 U sm)<|aD (aB (n:=ep.Race.av.length) 6 U (gr M.1))<|aD (jO 7 U M)<|aD (aB (n:=ep.aS.length) 8 U sm)<|aD (aB (n:=ep.aJ.length) 9 U sm)<|aL) U)<|bI 5 U<|RK Y<|WS fun _ A=>rP 3 [] mn ?_
 refine cG (t:=15) U (aU fun B=>?_) (aT fun B=>?_)
 ·refine rP 5 [] mn ?_
  refine RK A<|ar<|Q1 hQ U U U ?_
  exact cB (bj fun q=>B q.1).symm
 refine bI 2 U<|rS (BI U m_)<|rP 2 [] mn ?_
 refine RK A<|ar<|Q1 hQ U U U ?_
 exact cB (gV.2 ⟨fun q=>⟨B,q⟩,fun q=>q.2⟩)
end
section
open Go.RowKit
theorem JX:
 dA Tryz.prog 22 [] [(rd gd 3 2 fj)] (vB true):=by
 refine bJ kr Tryz.func22 U U fun w0 Q hQ hN=>?_
 try dsimp only
 refine WS fun _ K4=>rP 1 [] mn ?_
 refine RK K4<|WS fun _ K5=>cX sP (aL) U fun y3 K8=>?_
 obtain ⟨J2,J8,J4,Kq,J7,K,l,O,r,T,w,X,AC,Go,A1,A5,IR,In⟩:=y3
 try dsimp only
 obtain ⟨B,C,A⟩:=K8
 refine cX (CR ep J2 J8 J7 J4 Kq K l O r T w Go X AC A1 A5 IR In (by exact B)) (dM 10 U U<|aD (aB (n:=ep.Race.ao.aO.length) 0 U sm)<|aD (aB (n:=ep.Race.ao.aj.length) 1 U (iO C))<|aD (dR 2 U jJ)<|aD (aB (n:=ep.Race.ao.ab.length) 3 U sm)<|aD (aB (n:=ep.Race.aV.length) 4 U sm)<|aD (aB (n:=ep.Race.bV.length) 5 U sm)<|aD (aB (n:=ep.Race.av.length) 6 U (gr A.1))<|aD (jO 7 U A)<|aD (aB (n:=ep.aS.length) 8 U sm)<|aD (aB (n:=ep.aJ.length) 9 U sm)<|aL) U fun LA Lk=>?_
 obtain ⟨J3,J9⟩:=LA
 try dsimp only
 refine AN [0,11] U U<|rP 5 [] mn ?_
 refine RK K5<|WS fun _ Do=>cX sP (aL) U fun LE Fd=>?_
 obtain ⟨E,f,H,i,c,L,o,P,s,AA,x,Y,AO,Hi,A2,A6,Ia,I1⟩:=LE
 try dsimp only
 obtain ⟨B,C,A⟩:=Fd
 refine cX (sf ep E f c H i L o P s AA x Hi Y AO A2 A6 Ia I1 (by exact B)) (dM 11 U U<|aD (aB (n:=ep.Race.ao.aO.length) 0 U sm)<|aD (aB (n:=ep.Race.ao.aj.length) 1 U (iO C))<|aD (dR 2 U jJ)<|aD (aB (n:=ep.Race.ao.ab.length) 3 U sm)<|aD (aB (n:=ep.Race.aV.length) 4 U sm)<|aD (aB (n:=ep.Race.bV.length) 5 U sm)<|aD (aB (n:=ep.Race.av.length) 6 U (gr A.1))<|aD (jO 7 U A)<|aD (aB (n:=ep.aS.length) 8 U sm)<|aD (aB (n:=ep.aJ.length) 9 U sm)<|aL) U fun LT Fn=>?_
 obtain ⟨A9,J5,K0⟩:=LT
 try dsimp only
 have FS:=Fn
 refine AN [0,1,12,13] U U<|rP 5 [] mn ?_
 refine RK Do<|WS fun _ EQ=>cX sP (aL) U fun La GE=>?_
 obtain ⟨F,g,AB,j,d,M,p,R,u,V,y,Z,Ab,H1,A3,A7,Id,JU⟩:=La
 try dsimp only
 obtain ⟨B,C,A⟩:=GE
 refine rS (CL (Mr ep F g d AB j M p R u V y H1 Z Ab A3 A7 Id JU (by exact B)) (dM 13 U U<|aD (aB (n:=ep.Race.ao.aO.length) 0 U sm)<|aD (aB (n:=ep.Race.ao.aj.length) 1 U (iO C))<|aD (dR 2 U jJ)<|aD (aB (n:=ep.Race.ao.ab.length) 3 U sm)<|aD (aB (n:=ep.Race.aV.length) 4 U sm)<|aD (aB (n:=ep.Race.bV.length) 5 U sm)<|aD (aB (n:=ep.Race.av.length) 6 U (gr A.1))<|aD (jO 7 U A)<|aD (aB (n:=ep.aS.length) 8 U sm)<|aD (aB (n:=ep.aJ.length) 9 U sm)<|aL) U)<|AN [10,11,12,13] U U<|rP 7 [] mn ?_
 refine RK EQ<|WS fun _ Eq=>cX sP (aL) U fun Li GT=>?_
 obtain ⟨G,h,J,k,e,N,q,S,v,W,z,a,A0,IO,A4,A8,If,Jm⟩:=Li
 try dsimp only
 obtain ⟨B,C,A⟩:=GT
 refine rS (CL (Na ep G h e J k N q S v W z IO a A0 A4 A8 If Jm 0 (by exact B)) (dM 13 U U<|aD (aB (n:=ep.Race.ao.aO.length) 0 U sm)<|aD (aB (n:=ep.Race.ao.aj.length) 1 U (iO C))<|aD (dR 2 U jJ)<|aD (aB (n:=ep.Race.ao.ab.length) 3 U sm)<|aD (aB (n:=ep.Race.aV.length) 4 U sm)<|aD (aB (n:=ep.Race.bV.length) 5 U sm)<|aD (aB (n:=ep.Race.av.length) 6 U (gr A.1))<|aD (jO 7 U A)<|aD (aB (n:=ep.aS.length) 8 U sm)<|aD (aB (n:=ep.aJ.length) 9 U sm)<|aL) U)<|AN [10,11,12,13] U U<|bI 5 U<|RK Eq<|WS fun _ FO=>rS (CL (w4 0 0 1) (bk [3]) U)<|rP 1 [] mn ?_
 refine cG (t:=32) U (aU fun Bh=>?_) (aT fun Bh=>?_)
 ·exact absurd (PW) Bh
 refine rS (CL (w4 1 0 2) (bk [3]) U)<|rP 2 [] mn ?_
 refine cG (t:=35) U (aU fun B3=>?_) (aT fun B3=>?_)
 ·exact absurd (P7) B3
 refine rS (CL (w4 3 0 0) (bk [3]) U)<|rP 2 [] mn ?_
 refine cG (t:=38) U (aU fun B9=>?_) (aT fun B9=>?_)
 ·exact absurd (PR) B9
 refine rS (CL (Fl 0 0) (bk [3]) U)<|rP 2 [] mn ?_
 refine cG (t:=41) U (aU fun Ci=>?_) (aT fun Ci=>?_)
 ·exact absurd (PC) Ci
 refine rS (CL (Fl 1 2) (bk [3]) U)<|rP 2 [] mn ?_
 refine cG (t:=44) U (aU fun Ck=>?_) (aT fun Ck=>?_)
 ·exact absurd (Qd) Ck
 refine rP 4 [] mn ?_
 refine cG (t:=48) U (aU fun Cp=>?_) (aT fun Cp=>?_)
 ·exact absurd (oI) Cp
 refine rP 1 [] mn ?_
 refine eu (xs:=[.const (vI 0)]) (cs:=[(vI 0)]) U dy j8 U U U U (by simp [Value.cells]) U U fun J6=>?_
 refine rS (CL (DO (kx ep) J3 J9 ([0]) (some ⟨J6,0,none⟩) 1 (by rw [OI]; decide) dc) (aD (aB (n:=(kx ep).length) 3 U sm)<|aD (bx 0 U U (by simp [bP]) U)<|aL) U) ?_
 refine rP 2 [] mn ?_
 refine cG (t:=53) U (aU fun Cx=>?_) (aT fun Cx=>?_)
 ·exact absurd (OI) Cx
 refine rP 4 [] mn ?_
 refine cG (t:=57) U (aU fun C0=>?_) (aT fun C0=>?_)
 ·exact absurd (oI) C0
 refine rP 1 [] mn ?_
 refine eu (xs:=[.const (vI 0)]) (cs:=[(vI 0)]) U dy j8 U U U U (by simp [Value.cells]) U U fun D=>eu (xs:=[.tmp 59,.const (vS none 0 0)]) (cs:=[(vS (some ⟨D,0,none⟩) 1 1),(vS none 0 0)]) U CC SU U U U U (by simp [Value.cells]) U U fun b=>?_
 refine gv (es:=(([0]:List Int).map iC)) (C':=[_,(own (some ⟨D,0,none⟩) 1 3 1 (([0]:List Int).map iC)),_,_,_,_,_]) 1 U (nj bP _) U (by show _≤maxLen; exact Nat.le_trans (m:=10) (show (1:Nat)≤10 by decide) dc) U ?_
 refine gT 3 1 ?_
 refine gv (es:=(List.zipWith tM [([0]:List Int),([]:List Int)] [((some ⟨D,0,none⟩),1),(none,0)])) (C':=[_,(own (some ⟨b,0,none⟩) 2 29 1 (List.zipWith tM [([0]:List Int),([]:List Int)] [((some ⟨D,0,none⟩),1),(none,0)])),_,_,_,_,_,_]) 1 U (rM QT) U (by show _≤maxLen; exact Nat.le_trans (m:=10) (show (2:Nat)≤10 by decide) dc) U ?_
 refine Ge (bg Fp [([0]:List Int),([]:List Int)] [((some ⟨D,0,none⟩),1),(none,0)]) [2,0] [1,3,4,5,6,7] U U ?_
 refine rS (CL (z4 (dD ep) ([([0]:List Int),([]:List Int)]) A9 J5 K0 ([((some ⟨D,0,none⟩),1),(none,0)]) (some ⟨b,0,none⟩) 2 (by rw [IK]; decide) dc (by rw [IK]; decide) dc (by exact FS) (by rfl)) (aD (aB (n:=(dD ep).length) 3 U (lJ FS))<|aD (dR 4 U zr)<|aD (aB (n:=([([0]:List Int),([]:List Int)]).length) 1 U sm)<|aD (dR 0 U zr)<|aL) U) ?_
 refine rP 2 [] mn ?_
 refine cG (t:=63) U (aU fun C1=>?_) (aT fun C1=>?_)
 ·exact absurd (IK) C1
 refine rP 4 [] mn ?_
 refine cG (t:=67) U (aU fun C2=>?_) (aT fun C2=>?_)
 ·exact absurd (oI) C2
 refine rP 4 [] mn ?_
 refine cG (t:=71) U (aU fun C3=>?_) (aT fun C3=>?_)
 ·exact absurd (Oq.1) C3
 refine rP 4 [] mn ?_
 refine cG (t:=75) U (aU fun Df=>?_) (aT fun Df=>?_)
 ·exact absurd (Oq.2) Df
 refine rP 4 [] mn ?_
 refine cG (t:=79) U (aU fun Di=>?_) (aT fun Di=>?_)
 ·exact absurd (Oz.1) Di
 refine rP 4 [] mn ?_
 refine RK FO<|ar<|Q1 hQ U U U ?_
 exact cB (cO Oz.2)
end
section
open Go.RowKit
theorem H2 (l:List au) (lA:OA) (lC:Nat) (hlen:l.length≤1000000):
 nz Tryz.prog 79 [(vS lA l.length lC)] [(rd lA l.length 9 (l.map au.cells))] (fun (x:(OA)×Nat)=>(vS x.1 l.length x.2)) (fun (x:(OA)×Nat)=>True) (fun (x:(OA)×Nat)=>[(own x.1 x.2 128 9 (l.map au.cells))]):=by
 refine eO kr Tryz.func79 U U fun L Q hQ hN=>?_
 try dsimp only
 refine WS fun _ D=>bI 1 U<|RK D<|aq fun _ E=>WS fun _ F=>rP 1 [] mn ?_
 refine rS (BI U (qW O9))<|RK F<|ck U (aT fun B=>?_) (aU fun B=>?_)
 ·refine WS fun _ G=>mX (ay 0 U) B dc fun C=>?_
  have A:l=[]:=by simpa using C
  refine gT 128 9 ?_
  rw [show (own none 0 128 9 ([]:List (List Value)))=own none 0 128 9 (l.map au.cells) from by rw [A]; rfl]
  refine rP 1 [] mn ?_
  refine RK G<|ar ?_
  refine LX hQ (none,0) [0] [] mn U U U ?_ ?_
  ·first|rfl|(rw [A]; rfl)
  ·trivial
 refine WK E<|WS fun _ H=>uf U wy U fun J=>rP 1 [] mn ?_
 refine gv (es:=(List.map au.cells [])) (C':=[own (some ⟨J,0,none⟩) 0 128 9 (List.map au.cells []),_]) 0 U sm U (by simp [maxLen]) U ?_
 refine eh (es2:=(List.map au.cells l)) (m':=l.length) 0 U U U Uv U U sm (ay 1 U) (tI _) os (by first|(simp only [maxLen]; omega)|(simp [maxLen]; omega)) sm sm U fun AA K=>?_
 try dsimp only
 refine rP 1 [] mn ?_
 refine RK H<|ar ?_
 refine LX hQ (AA,K) [0] [] mn U U U ?_ ?_
 ·first|rfl|(rw [A]; rfl)
 ·trivial
theorem JZ (l:List bK) (lA:OA) (lC:Nat) (hlen:l.length≤1000000):
 nz Tryz.prog 80 [(vS lA l.length lC)] [(rd lA l.length 4 (l.map bK.cells))] (fun (x:(OA)×Nat)=>(vS x.1 l.length x.2)) (fun (x:(OA)×Nat)=>True) (fun (x:(OA)×Nat)=>[(own x.1 x.2 137 4 (l.map bK.cells))]):=by
 refine eO kr Tryz.func80 U U fun L Q hQ hN=>?_
 try dsimp only
 refine WS fun _ D=>bI 1 U<|RK D<|aq fun _ E=>WS fun _ F=>rP 1 [] mn ?_
 refine rS (BI U (qW NC))<|RK F<|ck U (aT fun B=>?_) (aU fun B=>?_)
 ·refine WS fun _ G=>mX (ay 0 U) B dc fun C=>?_
  have A:l=[]:=by simpa using C
  refine gT 137 4 ?_
  rw [show (own none 0 137 4 ([]:List (List Value)))=own none 0 137 4 (l.map bK.cells) from by rw [A]; rfl]
  refine rP 1 [] mn ?_
  refine RK G<|ar ?_
  refine LX hQ (none,0) [0] [] mn U U U ?_ ?_
  ·first|rfl|(rw [A]; rfl)
  ·trivial
 refine WK E<|WS fun _ H=>uf U uZ U fun J=>rP 1 [] mn ?_
 refine gv (es:=(List.map bK.cells [])) (C':=[own (some ⟨J,0,none⟩) 0 137 4 (List.map bK.cells []),_]) 0 U sm U (by simp [maxLen]) U ?_
 refine eh (es2:=(List.map bK.cells l)) (m':=l.length) 0 U U U Uj U U sm (ay 1 U) (wH _) os (by first|(simp only [maxLen]; omega)|(simp [maxLen]; omega)) sm sm U fun AA K=>?_
 try dsimp only
 refine rP 1 [] mn ?_
 refine RK H<|ar ?_
 refine LX hQ (AA,K) [0] [] mn U U U ?_ ?_
 ·first|rfl|(rw [A]; rfl)
 ·trivial
theorem H0 (l:List ct) (lA:OA) (lC:Nat) (hlen:l.length≤1000000):
 nz Tryz.prog 82 [(vS lA l.length lC)] [(rd lA l.length 3 (l.map ct.cells))] (fun (x:(OA)×Nat)=>(vS x.1 l.length x.2)) (fun (x:(OA)×Nat)=>True) (fun (x:(OA)×Nat)=>[(own x.1 x.2 130 3 (l.map ct.cells))]):=by
 refine eO kr Tryz.func82 U U fun L Q hQ hN=>?_
 try dsimp only
 refine WS fun _ D=>bI 1 U<|RK D<|aq fun _ E=>WS fun _ F=>rP 1 [] mn ?_
 refine rS (BI U (qW OO))<|RK F<|ck U (aT fun B=>?_) (aU fun B=>?_)
 ·refine WS fun _ G=>mX (ay 0 U) B dc fun C=>?_
  have A:l=[]:=by simpa using C
  refine gT 130 3 ?_
  rw [show (own none 0 130 3 ([]:List (List Value)))=own none 0 130 3 (l.map ct.cells) from by rw [A]; rfl]
  refine rP 1 [] mn ?_
  refine RK G<|ar ?_
  refine LX hQ (none,0) [0] [] mn U U U ?_ ?_
  ·first|rfl|(rw [A]; rfl)
  ·trivial
 refine WK E<|WS fun _ H=>uf U nT U fun J=>rP 1 [] mn ?_
 refine gv (es:=(List.map ct.cells [])) (C':=[own (some ⟨J,0,none⟩) 0 130 3 (List.map ct.cells []),_]) 0 U sm U (by simp [maxLen]) U ?_
 refine eh (es2:=(List.map ct.cells l)) (m':=l.length) 0 U U U Se U U sm (ay 1 U) (wF _) os (by first|(simp only [maxLen]; omega)|(simp [maxLen]; omega)) sm sm U fun AA K=>?_
 try dsimp only
 refine rP 1 [] mn ?_
 refine RK H<|ar ?_
 refine LX hQ (AA,K) [0] [] mn U U U ?_ ?_
 ·first|rfl|(rw [A]; rfl)
 ·trivial
theorem CM (l:List aF) (lA:OA) (lC:Nat) (hlen:l.length≤1000000):
 nz Tryz.prog 53 [(vS lA l.length lC)] [(rd lA l.length 2 (l.map aF.cells))] (fun (x:(OA)×Nat)=>(vS x.1 l.length x.2)) (fun (x:(OA)×Nat)=>True) (fun (x:(OA)×Nat)=>[(own x.1 x.2 113 2 (l.map aF.cells))]):=by
 refine eO kr Tryz.func53 U U fun L Q hQ hN=>?_
 try dsimp only
 refine WS fun _ D=>bI 1 U<|RK D<|aq fun _ E=>WS fun _ F=>rP 1 [] mn ?_
 refine rS (BI U (qW TR))<|RK F<|ck U (aT fun B=>?_) (aU fun B=>?_)
 ·refine WS fun _ G=>mX (ay 0 U) B dc fun C=>?_
  have A:l=[]:=by simpa using C
  refine gT 113 2 ?_
  rw [show (own none 0 113 2 ([]:List (List Value)))=own none 0 113 2 (l.map aF.cells) from by rw [A]; rfl]
  refine rP 1 [] mn ?_
  refine RK G<|ar ?_
  refine LX hQ (none,0) [0] [] mn U U U ?_ ?_
  ·first|rfl|(rw [A]; rfl)
  ·trivial
 refine WK E<|WS fun _ H=>uf U wB U fun J=>rP 1 [] mn ?_
 refine gv (es:=(List.map aF.cells [])) (C':=[own (some ⟨J,0,none⟩) 0 113 2 (List.map aF.cells []),_]) 0 U sm U (by simp [maxLen]) U ?_
 refine eh (es2:=(List.map aF.cells l)) (m':=l.length) 0 U U U UA U U sm (ay 1 U) (tS _) os (by first|(simp only [maxLen]; omega)|(simp [maxLen]; omega)) sm sm U fun AA K=>?_
 try dsimp only
 refine rP 1 [] mn ?_
 refine RK H<|ar ?_
 refine LX hQ (AA,K) [0] [] mn U U U ?_ ?_
 ·first|rfl|(rw [A]; rfl)
 ·trivial
theorem JQ (es:List (List Value)) (lA:OA) (n lC:Nat) (hlen:n≤1000000) (hes:es.length=n) (hone: ∀ v∈es.flatten,v.oneCell'=true):
 nz Tryz.prog 81 [(vS lA n lC)] [(rd lA n 2 es)] (fun (x:(OA)×Nat)=>(vS x.1 n x.2)) (fun (x:(OA)×Nat)=>True) (fun (x:(OA)×Nat)=>[(own x.1 x.2 133 2 es)]):=by
 refine eO kr Tryz.func81 U U fun L Q hQ hN=>?_
 try dsimp only
 refine WS fun _ D=>bI 1 U<|RK D<|aq fun _ E=>WS fun _ F=>rP 1 [] mn ?_
 refine rS (BI U (qW Sj))<|RK F<|ck U (aT fun B=>?_) (aU fun B=>?_)
 ·refine WS fun _ G=>mX (ay 0 U) B dc fun C=>?_
  have A:es=[]:=C
  refine gT 133 2 ?_
  rw [show (own none 0 133 2 ([]:List (List Value)))=own none 0 133 2 es from by rw [A]]
  refine rP 1 [] mn ?_
  refine RK G<|ar ?_
  refine LX hQ (none,0) [0] [] mn U U U ?_ ?_
  ·first|rfl|(rw [hes]; rfl)|(rw [← hes,A]; rfl)
  ·trivial
 refine WK E<|WS fun _ H=>uf U xZ U fun J=>rP 1 [] mn ?_
 refine gv (es:=(List.map dk.cells [])) (C':=[own (some ⟨J,0,none⟩) 0 133 2 (List.map dk.cells []),_]) 0 U sm U (by simp [maxLen]) U ?_
 refine eh (es2:=es) (m':=es.length) 0 U U U U_ U U sm (ay 1 U) hone (by simp; omega) (by simp [maxLen]; omega) sm U U fun AA K=>?_
 try dsimp only
 refine rP 1 [] mn ?_
 refine RK H<|ar ?_
 refine LX hQ (AA,K) [0] [] mn U U U ?_ ?_
 ·first|rfl|(rw [hes]; rfl)|(rw [← hes,A]; rfl)
 ·trivial
theorem Iw (es:List (List Value)) (lA:OA) (n lC:Nat) (hlen:n≤1000000) (hes:es.length=n) (hone: ∀ v∈es.flatten,v.oneCell'=true):
 nz Tryz.prog 85 [(vS lA n lC)] [(rd lA n 7 es)] (fun (x:(OA)×Nat)=>(vS x.1 n x.2)) (fun (x:(OA)×Nat)=>True) (fun (x:(OA)×Nat)=>[(own x.1 x.2 43 7 es)]):=by
 refine eO kr Tryz.func85 U U fun L Q hQ hN=>?_
 try dsimp only
 refine WS fun _ D=>bI 1 U<|RK D<|aq fun _ E=>WS fun _ F=>rP 1 [] mn ?_
 refine rS (BI U (qW RU))<|RK F<|ck U (aT fun B=>?_) (aU fun B=>?_)
 ·refine WS fun _ G=>mX (ay 0 U) B dc fun C=>?_
  have A:es=[]:=C
  refine gT 43 7 ?_
  rw [show (own none 0 43 7 ([]:List (List Value)))=own none 0 43 7 es from by rw [A]]
  refine rP 1 [] mn ?_
  refine RK G<|ar ?_
  refine LX hQ (none,0) [0] [] mn U U U ?_ ?_
  ·first|rfl|(rw [hes]; rfl)|(rw [← hes,A]; rfl)
  ·trivial
 refine WK E<|WS fun _ H=>uf U mJ U fun J=>rP 1 [] mn ?_
 refine gv (es:=(List.map aG.cells [])) (C':=[own (some ⟨J,0,none⟩) 0 43 7 (List.map aG.cells []),_]) 0 U sm U (by simp [maxLen]) U ?_
 refine eh (es2:=es) (m':=es.length) 0 U U U UJ U U sm (ay 1 U) hone (by simp; omega) (by simp [maxLen]; omega) sm U U fun AA K=>?_
 try dsimp only
 refine rP 1 [] mn ?_
 refine RK H<|ar ?_
 refine LX hQ (AA,K) [0] [] mn U U U ?_ ?_
 ·first|rfl|(rw [hes]; rfl)|(rw [← hes,A]; rfl)
 ·trivial
theorem KB (es:List (List Value)) (lA:OA) (n lC:Nat) (hlen:n≤1000000) (hes:es.length=n) (hone: ∀ v∈es.flatten,v.oneCell'=true):
 nz Tryz.prog 84 [(vS lA n lC)] [(rd lA n 1 es)] (fun (x:(OA)×Nat)=>(vS x.1 n x.2)) (fun (x:(OA)×Nat)=>True) (fun (x:(OA)×Nat)=>[(own x.1 x.2 75 1 es)]):=by
 refine eO kr Tryz.func84 U U fun L Q hQ hN=>?_
 try dsimp only
 refine WS fun _ D=>bI 1 U<|RK D<|aq fun _ E=>WS fun _ F=>rP 1 [] mn ?_
 refine rS (BI U (qW RR))<|RK F<|ck U (aT fun B=>?_) (aU fun B=>?_)
 ·refine WS fun _ G=>mX (ay 0 U) B dc fun C=>?_
  have A:es=[]:=C
  refine gT 75 1 ?_
  rw [show (own none 0 75 1 ([]:List (List Value)))=own none 0 75 1 es from by rw [A]]
  refine rP 1 [] mn ?_
  refine RK G<|ar ?_
  refine LX hQ (none,0) [0] [] mn U U U ?_ ?_
  ·first|rfl|(rw [hes]; rfl)|(rw [← hes,A]; rfl)
  ·trivial
 refine WK E<|WS fun _ H=>uf U j7 U fun J=>rP 1 [] mn ?_
 refine gv (es:=(List.map sC [])) (C':=[own (some ⟨J,0,none⟩) 0 75 1 (List.map sC []),_]) 0 U sm U (by simp [maxLen]) U ?_
 refine eh (es2:=es) (m':=es.length) 0 U U U Ut U U sm (ay 1 U) hone (by simp; omega) (by simp [maxLen]; omega) sm U U fun AA K=>?_
 try dsimp only
 refine rP 1 [] mn ?_
 refine RK H<|ar ?_
 refine LX hQ (AA,K) [0] [] mn U U U ?_ ?_
 ·first|rfl|(rw [hes]; rfl)|(rw [← hes,A]; rfl)
 ·trivial
end
section
open Go.RowKit
theorem Kr (l:List Int) (lA:OA) (lC:Nat) (n:Int) (hlen:l.length≤1000000):
 nz Tryz.prog 78 [(vS lA l.length lC),(vI n)] [(rd lA l.length 1 (l.map iC))] (fun (x:Int)=>(vI x)) (fun (x:Int)=>(0≤x↔n∈l)) (fun (x:Int)=>[]):=by
 refine eO kr Tryz.func78 U U fun AA Q hQ hN=>?_
 try dsimp only
 refine WS fun _ AB=>bI 1 U<|RK AB<|aq fun _ J=>WS fun _ K=>rP 3 [] mn ?_
 refine RK K<|aH ?_
 have A:(0≤l.length)∧(∀ y∈l.take 0,y≠n):=by exact ⟨Nat.zero_le _,fun y hy=>by simp at hy⟩
 refine bS (ι:={z:Nat // (z≤l.length)∧(∀ y∈l.take z,y≠n)}) [0,1,7] [0] U U (fun z=>[(8,(vI (z.1:Int)))]) (fun z=>[]) (fun _=>rfl) (fun _=>rfl) (fun z=>l.length-z.1) ⟨0,A⟩ (bD U) (aR [0]) ?_
 clear A
 rintro ⟨i,⟨P,B⟩⟩ J4 H
 try dsimp only
 refine WS fun _ L=>rP 1 [] mn ?_
 refine RK L<|aq fun _ M=>bR U (aU fun S=>?_) (aT fun S=>?_)
 ·refine bQ<|ag<|ag<|aI<|KK J<|WS fun _ F=>rP 1 [] mn ?_
  refine RK F<|ar<|LX hQ (-1) [] [] mn U U U U ?_
  exact ⟨fun q=>absurd q dc,fun q=>absurd q (fun T=>B _ (by rw [List.take_of_length_le I]; exact T) U)⟩
 refine WK M<|aq fun _ N=>aH<|WS fun _ O=>bI 2 U<|RK O<|WS fun _ D=>rP 3 [] mn ?_
 obtain ⟨x,hx⟩:=aC l i I
 have R:=bO iC hx
 refine rS (IA i U (ay 0 U) dy dc I I)<|rS (gD i 0 (vI x) U bU (ay 0 U) R U dc U)<|rP 1 [] mn ?_
 refine RK D<|ck U (aT fun C=>?_) (aU fun C=>?_)
 ·refine WS fun _ E=>rP 2 [] mn ?_
  refine RK E<|ar<|LX hQ (i:Int) [] [] mn U U U U ?_
  exact ⟨fun _=>by rw [C]; exact aM hx,fun _=>by omega⟩
 refine cj<|aP<|KK N<|aw<|rP 2 [] mn ?_
 refine aK ?_
 have G:(vI (((i+1):Nat):Int))=(vI ((i:Int)+1)):=by exact cI I
 refine bu (H ⟨(i+1),⟨I,fun y hy=>by rw [List.take_add_one,hx] at hy; rcases gK.1 hy with q|q; exact B y q; exact (cE.1 q)▸fun e=>C e.symm⟩⟩ _ _ _ rfl os (cP 3<|bw rfl G<|dp.nil _) (aR [0]))
theorem BX (l:List Int) (lA:OA) (lC:Nat) (n:Int) (hlen:l.length≤1000000):
 dA Tryz.prog 51 [(vS lA l.length lC),(vI n)] [(rd lA l.length 1 (l.map iC))] (vB (decide (n∈l))):=by
 refine bJ kr Tryz.func51 U U fun F Q hQ hN=>?_
 try dsimp only
 refine WS fun _ A=>bI 1 U<|RK A<|WS fun _ B=>rP 2 [] mn ?_
 refine cX (Kr l lA lC n hlen) (bk [0]) U fun E D=>?_
 try dsimp only
 have C:=D
 refine rP 2 [] mn ?_
 refine RK B<|ar<|Q1 hQ U U U ?_
 exact cB (gV.2 C)
end
section
open Go.RowKit
theorem F8 (l:List Int) (lA:OA) (lC:Nat) (hlen:l.length≤1000000):
 nz Tryz.prog 83 [(vS lA l.length lC)] [(rd lA l.length 1 (l.map iC))] (fun (x:(OA)×Nat)=>(vS x.1 l.length x.2)) (fun (x:(OA)×Nat)=>True) (fun (x:(OA)×Nat)=>[(own x.1 x.2 3 1 (l.map iC))]):=by
 refine eO kr Tryz.func83 U U fun L Q hQ hN=>?_
 try dsimp only
 refine WS fun _ D=>bI 1 U<|RK D<|aq fun _ E=>WS fun _ F=>rP 1 [] mn ?_
 refine rS (BI U (qW Rd))<|RK F<|ck U (aT fun B=>?_) (aU fun B=>?_)
 ·refine WS fun _ G=>mX (ay 0 U) B dc fun C=>?_
  have A:l=[]:=by simpa using C
  refine gT 3 1 ?_
  rw [show (own none 0 3 1 ([]:List (List Value)))=own none 0 3 1 (l.map iC) from by rw [A]; rfl]
  refine rP 1 [] mn ?_
  refine RK G<|ar ?_
  refine LX hQ (none,0) [0] [] mn U U U ?_ ?_
  ·first|rfl|(rw [A]; rfl)
  ·trivial
 refine WK E<|WS fun _ H=>uf U dy U fun J=>rP 1 [] mn ?_
 refine gv (es:=(List.map iC [])) (C':=[own (some ⟨J,0,none⟩) 0 3 1 (List.map iC []),_]) 0 U sm U (by simp [maxLen]) U ?_
 refine eh (es2:=(List.map iC l)) (m':=l.length) 0 U U U tj U U sm (ay 1 U) (lU _) os (by first|(simp only [maxLen]; omega)|(simp [maxLen]; omega)) sm sm U fun AA K=>?_
 try dsimp only
 refine rP 1 [] mn ?_
 refine RK H<|ar ?_
 refine LX hQ (AA,K) [0] [] mn U U U ?_ ?_
 ·first|rfl|(rw [A]; rfl)
 ·trivial
end
section
open Go.RowKit
theorem Jv (r:eD) (kA:OA) (kC:Nat) (az:List RA) (cA:OA) (cC:Nat) (bA:OA) (bC:Nat) (slA:OA) (slC:Nat) (drA:OA) (drC:Nat) (ha:List cD) (heA:OA) (heC:Nat) (hin:iL r az ha):
 nz Tryz.prog 52 [(vA (cW.cells (vx r kA kC cA cC bA bC slA slC drA drC heA heC)))] [(rd kA r.ao.aO.length 9 (r.ao.aO.map au.cells)),(rd cA r.ao.aj.length 2 (List.zipWith ax.cells r.ao.aj az)),(dE (bg ax.e_ r.ao.aj az)),(rd bA r.ao.ab.length 4 (r.ao.ab.map bK.cells)),(rd slA r.aV.length 1 (r.aV.map iC)),(rd drA r.bV.length 1 (r.bV.map iC)),(rd heA r.av.length 1 (List.zipWith bW r.av ha)),(dE (bg er r.av ha))] (fun (x:(OA)×Nat×(OA)×Nat×(List RA)×(OA)×Nat×(OA)×Nat×(OA)×Nat×(OA)×Nat×(List cD))=>(vA (cW.cells (cW.mk (cm.mk (bL.mk (bE.mk x.1 r.ao.aO.length x.2.1)) r.ao.hU (bE.mk x.2.2.1 r.ao.aj.length x.2.2.2.1) (bE.mk x.2.2.2.2.2.1 r.ao.ab.length x.2.2.2.2.2.2.1) r.ao.cd r.ao.fK r.ao.dC) (bE.mk x.2.2.2.2.2.2.2.1 r.aV.length x.2.2.2.2.2.2.2.2.1) (bE.mk x.2.2.2.2.2.2.2.2.2.1 r.bV.length x.2.2.2.2.2.2.2.2.2.2.1) r.j9 (bE.mk x.2.2.2.2.2.2.2.2.2.2.2.1 r.av.length x.2.2.2.2.2.2.2.2.2.2.2.2.1))))) (fun (x:(OA)×Nat×(OA)×Nat×(List RA)×(OA)×Nat×(OA)×Nat×(OA)×Nat×(OA)×Nat×(List cD))=>(x.2.2.2.2.1.length=r.ao.aj.length∧qC r.ao.aj x.2.2.2.2.1)∧sQ r.av x.2.2.2.2.2.2.2.2.2.2.2.2.2) (fun (x:(OA)×Nat×(OA)×Nat×(List RA)×(OA)×Nat×(OA)×Nat×(OA)×Nat×(OA)×Nat×(List cD))=>[(own x.1 x.2.1 128 9 (r.ao.aO.map au.cells)),(own x.2.2.1 x.2.2.2.1 133 2 (List.zipWith ax.cells r.ao.aj x.2.2.2.2.1)),(bM (bg ax.owns r.ao.aj x.2.2.2.2.1)),(own x.2.2.2.2.2.1 x.2.2.2.2.2.2.1 137 4 (r.ao.ab.map bK.cells)),(own x.2.2.2.2.2.2.2.1 x.2.2.2.2.2.2.2.2.1 3 1 (r.aV.map iC)),(own x.2.2.2.2.2.2.2.2.2.1 x.2.2.2.2.2.2.2.2.2.2.1 3 1 (r.bV.map iC)),(own x.2.2.2.2.2.2.2.2.2.2.2.1 x.2.2.2.2.2.2.2.2.2.2.2.2.1 75 1 (List.zipWith bW r.av x.2.2.2.2.2.2.2.2.2.2.2.2.2)),(bM (bg jN r.av x.2.2.2.2.2.2.2.2.2.2.2.2.2))]):=by
 have C:=hin.line
 have K8:=hin.g6
 have M:=hin.has
 have M2:=hin.g7
 have MQ:=hin.draw
 have NE:=iI (r:=r)
 have Qr:=C.sj
 have Pl:=C.r_
 have Pi:=C.sh
 have K0:=C.lz
 refine eO kr Tryz.func52 U U fun w0 Q hQ hN=>?_
 try dsimp only
 refine WS fun _ J7=>eG U fun b2=>AL U pd fun b3=>RK J7<|WS fun _ J8=>rP 2 [] mn ?_
 refine RK J8<|aq fun _ J9=>dH cg [8,13,18,22,25,28] [7,11,15] [0,1,2] [0,2,3,4,5,6,7,8,9] [0,1,2,3,4,5,6,7,8,9] U U U U U<|eS U (MV U)<|eS U (MV U)<|eS U (MV U)<|eS U (MV U)<|eS U (SX (cw U U) U U)<|eS U (FA 0 U eU U)<|eS U (FA 0 U eU U)<|fS U (L1 (vS kA r.ao.aO.length kC) 1 U bU U U)<|eS U (MV U)<|eS U (SX (cw U U) U U)<|eS U (FA 3 U eU U)<|fS U (L1 (vS bA r.ao.ab.length bC) 1 U bU U U)<|eS U (MV U)<|eS U (SX (cw U U) U U)<|eS U (FA 2 U eU U)<|fS U (L1 (vS cA r.ao.aj.length cC) 1 U bU U U)<|eS U (SX (cw U U) U U)<|eS U (FA 0 U eU U)<|eS U (FA 0 U eU U)<|eS U (SX (cw U U) U U)<|eS U (FA 3 U eU U)<|eS U (SX (cw U U) U U)<|eS U (FA 2 U eU U)<|ek U<|iN U fun T6 Kq=>cX (H2 r.ao.aO kA kC asm) (bk [2]) U fun y7 Qx=>?_
 obtain ⟨a9,S⟩:=y7
 try dsimp only
 refine aK (Kq _ _ (aR [1,3,4,5,6,7,8,9,10]) (aR [1,2,3,4,5,6,7,8,9,10]) ?_)
 refine iN U fun T11 FO=>cX (JZ r.ao.ab bA bC asm) (bk [6]) U fun LE Ne=>?_
 obtain ⟨W,Y⟩:=LE
 try dsimp only
 refine aK (FO _ _ (aR [2,4,5,6,7,8,9,10,11]) (aR [2,3,4,5,6,7,8,9,10,11]) ?_)
 refine iN U fun T16 FS=>cX (JQ (List.zipWith ax.cells r.ao.aj az) cA r.ao.aj.length cC asm (by exact iO K0) (by exact DC _ _)) (bk [5]) U fun LT Op=>?_
 obtain ⟨J,K⟩:=LT
 try dsimp only
 refine aK (FS _ _ (aR [3,5,6,7,8,9,10,11,12]) (aR [3,4,5,6,7,8,9,10,11,12]) ?_)
 refine cq U fun T21 Fd=>UM (cW.cells (cW.mk (cm.mk (bL.mk (bE.mk a9 r.ao.aO.length S)) r.ao.hU (bE.mk cA r.ao.aj.length cC) (bE.mk bA r.ao.ab.length bC) r.ao.cd r.ao.fK r.ao.dC) (bE.mk slA r.aV.length slC) (bE.mk drA r.bV.length drC) r.j9 (bE.mk heA r.av.length heC))) U Ux U U<|aK (Fd _ _ (aR [3,5,6,7,8,9,10,11,12]) ?_)
 refine cq U fun T22 Fn=>UM (cW.cells (cW.mk (cm.mk (bL.mk (bE.mk a9 r.ao.aO.length S)) r.ao.hU (bE.mk cA r.ao.aj.length cC) (bE.mk W r.ao.ab.length Y) r.ao.cd r.ao.fK r.ao.dC) (bE.mk slA r.aV.length slC) (bE.mk drA r.bV.length drC) r.j9 (bE.mk heA r.av.length heC))) U Ub U U<|aK (Fn _ _ (aR [3,5,6,7,8,9,10,11,12]) ?_)
 refine cq U fun T23 GE=>UM (cW.cells (cW.mk (cm.mk (bL.mk (bE.mk a9 r.ao.aO.length S)) r.ao.hU (bE.mk J r.ao.aj.length K) (bE.mk W r.ao.ab.length Y) r.ao.cd r.ao.fK r.ao.dC) (bE.mk slA r.aV.length slC) (bE.mk drA r.bV.length drC) r.j9 (bE.mk heA r.av.length heC))) U Vu U U<|aK (GE _ _ (aR [3,5,6,7,8,9,10,11,12]) ?_)
 refine fJ U<|KK J9<|aq fun _ A5=>WS fun _ A6=>bI 1 U<|rS (SX (cw U U) U U)<|rP 4 [] (mc 4 U mn) ?_
 refine RK A6<|aH<|n9 ?_
 have E:(0≤r.ao.aj.length)∧(([]:List RA).length=0)∧(qC r.ao.aj ([]:List RA)):=by exact ⟨Nat.zero_le _,rfl,fun k m a _ h=>by simp at h⟩
 refine bS (ι:={z:Nat×(List RA) // (z.1≤r.ao.aj.length)∧(z.2.length=z.1)∧(qC r.ao.aj z.2)}) [1,2,3,39] [2,3,4,5,6,7,8,9,10,11,12,13] U U (fun z=>[(40,(vI (z.1.1:Int)))]) (fun z=>[(bM (bg ax.owns (r.ao.aj.take z.1.1) z.1.2)),(own J K 133 2 (List.zipWith ax.cells r.ao.aj (kO z.1.2 az z.1.1)))]) (fun _=>rfl) (fun _=>rfl) (fun z=>r.ao.aj.length-z.1.1) ⟨(0,([]:List RA)),E⟩ (bD U) (aR [2,3,4,5,6,7,8,9,10,11,12,13,0,1]) ?_
 clear E
 rintro ⟨⟨i,bz⟩,⟨A1,B,V⟩⟩ J26 A2
 try dsimp only at A1 B V
 try dsimp only
 refine WS fun _ A7=>rP 1 [] mn ?_
 refine RK A7<|aq fun _ A8=>ck U (aT fun J4=>?_) (aU fun J4=>?_)
 ·refine WK A8<|aq fun _ A9=>aH<|WS fun _ Bh=>rP 2 [] mn ?_
  refine RK Bh<|dH cg [13,16] [10,11,12,13,14] [0] [0,1,2,3,4,5,6,7,8,9,10,11,12] [0,1,2,3,4,5,6,7,8,9,10,11,12,13] U U U U U<|eS U (MV U)<|eS U (SX (cw U U) U U)<|eS U (FA 2 U eU U)<|eS U (L1 (vS J r.ao.aj.length K) 3 U bU U U)<|eS U (MV U)<|eS U (MV U)<|eS U (SX (cw U U) U U)<|eS U (FA 2 U eU U)<|eS U (L1 (vS J r.ao.aj.length K) 3 U bU U U)<|eS U (MV U) ?_
  obtain ⟨x,hx⟩:=aC r.ao.aj i I
  obtain ⟨xa,s⟩:=aC az i I
  have J3:(List.zipWith ax.cells r.ao.aj (kO bz az i))[i]? =some (ax.cells x xa):=cv hx (z7 B s)
  have Qa:=(C.Q7 _ _ _ hx s).2
  refine fS U (IA i U (aB (n:=r.ao.aj.length) 13 U (iO (by rw [ja B I]; exact C.lz))) xZ dc I I) ?_
  refine fS U (pO ((i*2)+1) U (aB (n:=r.ao.aj.length) 13 U (iO (by rw [ja B I]; exact C.lz))) (Nat.mul_pos I dc) eU U) ?_
  refine fS U (gD i 1 (vS xa.1 x.bB.length xa.2) U bU (aB (n:=r.ao.aj.length) 13 U (iO (by rw [ja B I]; exact C.lz))) J3 U dc U) ?_
  refine fS U (IA i U (aB (n:=r.ao.aj.length) 13 U (iO (by rw [ja B I]; exact C.lz))) xZ dc I I) ?_
  refine fS U (pO ((i*2)+1) U (aB (n:=r.ao.aj.length) 13 U (iO (by rw [ja B I]; exact C.lz))) (Nat.mul_pos I dc) eU U) ?_
  refine ek U<|iN U fun T32 GT=>cX (H0 x.bB xa.1 xa.2 asm) (aD (show fY _ (rd xa.1 x.bB.length 3 (x.bB.map ct.cells)).holds from (bY 6 U (a_ hx s (by simp [ax.e_]))))<|aL) U fun La Or=>?_
  obtain ⟨P,T⟩:=La
  try dsimp only
  refine aK (GT _ _ (aR [1,2,3,4,5,6,7,8,9,10,11,12,13]) (aR [1,2,3,4,5,6,7,8,9,10,11,12,13,14]) ?_)
  refine cq U fun T37 Go=>gu (k:=i) (o:=1) (vs:=[(vS P x.bB.length T)]) (es':=(List.zipWith ax.cells r.ao.aj (kO (bz++[(P,T)]) az (i+1)))) (C':=[_,_,_,_,_,_,_,_,_,_,_,_,_,_,(own J K 133 2 (List.zipWith ax.cells r.ao.aj (kO (bz++[(P,T)]) az (i+1))))]) 14 U U U SW U U U U J3 U dc (by exact yz (c:=ax.cells) (b:=(P,T)) hx B s) U<|aK (Go _ _ (aR [1,2,3,4,5,6,7,8,9,10,11,12,13]) ?_)
  refine fJ U<|aP<|KK A9<|aw<|rP 2 [] mn ?_
  refine aK<|P9 0 U fun t=>?_
  simp only [List.length_map] at t
  refine HX (Y':=bg ax.owns (r.ao.aj.take (i+1)) (bz++[(P,T)])) 13 0 U U (tG (f:=ax.owns) (b:=(P,T)) hx B) ?_
  have I1:(vI (((i+1):Nat):Int))=(vI ((i:Int)+1)):=by exact cI I
  refine bu (A2 ⟨((i+1),(bz++[(P,T)])),⟨I,by simp; omega,Ke V B hx t⟩⟩ _ _ _ U os (cP 4<|bw U I1<|dp.nil _) (aR [1,2,3,4,5,6,7,8,9,10,11,12,0,13]))
 refine bQ<|ag<|ag<|aI<|KK A5<|aq fun _ B3=>?_
 have K4:bz.length=r.ao.aj.length:=by omega
 have K5:=V
 rw [show (kO bz az i)=bz from xe I,show r.ao.aj.take i=r.ao.aj from List.take_of_length_le I]
 refine dH cg [2,5,8,10,12,14] [1,3,5] [0,1,2] [0,1,2,4,5,6,7,8,9,10,11,12,13] [0,1,2,3,4,5,6,7,8,9,10,11,12,13] U U U U U<|eS U (FA 7 U eU U)<|fS U (L1 (vS slA r.aV.length slC) 3 U bU U U)<|eS U (FA 8 U eU U)<|fS U (L1 (vS drA r.bV.length drC) 3 U bU U U)<|eS U (FA 10 U eU U)<|fS U (L1 (vS heA r.av.length heC) 3 U bU U U)<|eS U (FA 7 U eU U)<|eS U (FA 8 U eU U)<|eS U (FA 10 U eU U)<|ek U<|iN U fun T40 Hi=>cX (F8 r.aV slA slC asm) (bk [8]) U fun Li Os=>?_
 obtain ⟨g,j⟩:=Li
 try dsimp only
 refine aK (Hi _ _ (aR [1,2,3,5,6,7,8,9,10,11,12,13,14]) (aR [1,2,3,4,5,6,7,8,9,10,11,12,13,14]) ?_)
 refine iN U fun T45 H1=>cX (F8 r.bV drA drC I) (bk [10]) U fun Lk PG=>?_
 obtain ⟨w,AO⟩:=Lk
 try dsimp only
 refine aK (H1 _ _ (aR [2,3,4,6,7,8,9,10,11,12,13,14,15]) (aR [2,3,4,5,6,7,8,9,10,11,12,13,14,15]) ?_)
 refine iN U fun T50 IO=>cX (KB (List.zipWith bW r.av ha) heA r.av.length heC asm (by exact gr M) (by exact G8 _ _)) (bk [12]) U fun Lo PP=>?_
 obtain ⟨X,Z⟩:=Lo
 try dsimp only
 refine aK (IO _ _ (aR [3,4,5,7,8,9,10,11,12,13,14,15,16]) (aR [3,4,5,6,7,8,9,10,11,12,13,14,15,16]) ?_)
 refine cq U fun T55 IR=>Vk (cW.cells (cW.mk (cm.mk (bL.mk (bE.mk a9 r.ao.aO.length S)) r.ao.hU (bE.mk J r.ao.aj.length K) (bE.mk W r.ao.ab.length Y) r.ao.cd r.ao.fK r.ao.dC) (bE.mk g r.aV.length j) (bE.mk drA r.bV.length drC) r.j9 (bE.mk heA r.av.length heC))) U HJ U U<|aK (IR _ _ (aR [3,4,5,7,8,9,10,11,12,13,14,15,16]) ?_)
 refine cq U fun T56 Ia=>Vk (cW.cells (cW.mk (cm.mk (bL.mk (bE.mk a9 r.ao.aO.length S)) r.ao.hU (bE.mk J r.ao.aj.length K) (bE.mk W r.ao.ab.length Y) r.ao.cd r.ao.fK r.ao.dC) (bE.mk g r.aV.length j) (bE.mk w r.bV.length AO) r.j9 (bE.mk heA r.av.length heC))) U HJ U U<|aK (Ia _ _ (aR [3,4,5,7,8,9,10,11,12,13,14,15,16]) ?_)
 refine cq U fun T57 Id=>Vk (cW.cells (cW.mk (cm.mk (bL.mk (bE.mk a9 r.ao.aO.length S)) r.ao.hU (bE.mk J r.ao.aj.length K) (bE.mk W r.ao.ab.length Y) r.ao.cd r.ao.fK r.ao.dC) (bE.mk g r.aV.length j) (bE.mk w r.bV.length AO) r.j9 (bE.mk X r.av.length Z))) U Vb U U<|aK (Id _ _ (aR [3,4,5,7,8,9,10,11,12,13,14,15,16]) ?_)
 refine fJ U<|KK B3<|aq fun _ B9=>WS fun _ Ci=>rP 4 [] (mc 6 U mn) ?_
 refine RK Ci<|aH<|n9 ?_
 have E:(0≤r.av.length)∧(([]:List cD).length=0)∧(∀ (k:Nat) y (a:cD),r.av[k]? =some y→([]:List cD)[k]? =some a→a.2.length=y.length):=by exact ⟨Nat.zero_le _,rfl,fun k y a _ q=>by simp at q⟩
 refine bS (ι:={z:Nat×(List cD) // (z.1≤r.av.length)∧(z.2.length=z.1)∧(∀ (k:Nat) y (a:cD),r.av[k]? =some y→z.2[k]? =some a→a.2.length=y.length)}) [1,2,74] [2,3,4,5,6,7,8,9,10,11,12,13,14,15,16,17] U U (fun z=>[(75,(vI (z.1.1:Int)))]) (fun z=>[(bM (bg jN (r.av.take z.1.1) z.1.2)),(own X Z 75 1 (List.zipWith bW r.av (kO z.1.2 ha z.1.1)))]) (fun _=>rfl) (fun _=>rfl) (fun z=>r.av.length-z.1.1) ⟨(0,([]:List cD)),E⟩ (bD U) (aR [2,3,4,5,6,7,8,9,10,11,12,13,14,15,16,17,0,1]) ?_
 clear E
 rintro ⟨⟨h,hz⟩,⟨l,A,L⟩⟩ J60 A3
 try dsimp only at l A L
 try dsimp only
 refine WS fun _ Ck=>rP 1 [] mn ?_
 refine RK Ck<|aq fun _ Cp=>bR U (aU fun J5=>?_) (aT fun J5=>?_)
 ·refine bQ<|ag<|ag<|aI<|KK B9<|aq fun _ Eq=>?_
  have LA:sQ r.av hz:=⟨I,L⟩
  rw [show (kO hz ha h)=hz from xe I,show r.av.take h=r.av from List.take_of_length_le I]
  refine aw<|rP 1 [] (mc 5 U mn) ?_
  refine Q5 U jC U<|RK Eq<|ar ?_
  refine LX hQ (a9,S,J,K,bz,W,Y,g,j,w,AO,X,Z,hz) [3,15,14,2,1,0,17,16] [0] (mc 4 U mn) U (by show List.all _ _=true; simp only [il,List.all_nil,qb,xz,Bool.and_true]; rfl) U U ?_
  exact ⟨⟨K4,K5⟩,LA⟩
 refine WK Cp<|aq fun _ Cx=>aH<|WS fun _ C0=>rP 2 [] mn ?_
 refine RK C0<|aq fun _ C1=>dH cg [8,10] [6,7,8] [0] [0,1,2,3,4,5,6,7,8,9,10,11,12,13,14,15,16] [0,1,2,3,4,5,6,7,8,9,10,11,12,13,14,15,16,17] U U U U U<|eS U (FA 10 U eU U)<|eS U (L1 (vS X r.av.length Z) 5 U bU U U)<|eS U (MV U)<|eS U (FA 10 U eU U)<|eS U (L1 (vS X r.av.length Z) 5 U bU U U)<|eS U (MV U) ?_
 obtain ⟨ht,N⟩:=aC r.av h I
 obtain ⟨D,O⟩:=aC ha h I
 have u:(List.zipWith bW r.av (kO hz ha h))[h]? =some (bW ht D):=cv N (z7 A O)
 have A0:=hin.eo _ _ _ N O
 have e:=A0.lz
 have K8:=A0.len
 refine fS U (IA h U (aB (n:=r.av.length) 17 U (gr (by rw [ja A I]; exact M))) j7 dc I I) ?_
 refine fS U (gD h 0 (vS D.1.1 ht.length D.1.2) U bU (aB (n:=r.av.length) 17 U (gr (by rw [ja A I]; exact M))) u U dc U) ?_
 refine fS U (IA h U (aB (n:=r.av.length) 17 U (gr (by rw [ja A I]; exact M))) j7 dc I I) ?_
 refine ek U<|iN U fun T67 If=>cX (Iw (List.zipWith ak.cells ht D.2) D.1.1 ht.length D.1.2 asm (by exact rI e) (by exact Mg _ _)) (aD (show fY _ (rd D.1.1 ht.length 7 (List.zipWith ak.cells ht D.2)).holds from (bY 13 U (a_ N O bX)))<|aL) U fun L0 PS=>?_
 obtain ⟨G,H⟩:=L0
 try dsimp only
 refine aK (If _ _ (aR [1,2,3,4,5,6,7,8,9,10,11,12,13,14,15,16,17]) (aR [1,2,3,4,5,6,7,8,9,10,11,12,13,14,15,16,17,18]) ?_)
 refine cq U fun T72 In=>gu (k:=h) (o:=0) (vs:=[(vS G ht.length H)]) (es':=(List.zipWith bW r.av (kO (hz++[((G,H),D.2)]) ha (h+1)))) (C':=[_,_,_,_,_,_,_,_,_,_,_,_,_,_,_,_,_,_,(own X Z 75 1 (List.zipWith bW r.av (kO (hz++[((G,H),D.2)]) ha (h+1))))]) 18 U U U U0 U U U U u U dc (by exact yz (b:=((G,H),D.2)) N A O) U<|aK (In _ _ (aR [1,2,3,4,5,6,7,8,9,10,11,12,13,14,15,16,17]) ?_)
 refine fJ U<|KK C1<|WS fun _ C2=>rP 3 [] (mc 6 U mn) ?_
 have v:(List.zipWith bW r.av (kO (hz++[((G,H),D.2)]) ha (h+1)))[h]? =some (bW ht ((G,H),D.2)):=cv N (Jf A)
 refine rS (IA h U (aB (n:=r.av.length) 18 U (gr (by rw [ja (by simp; omega) I]; exact M))) j7 dc I I) ?_
 refine rS (gD h 0 (vS G ht.length H) U bU (aB (n:=r.av.length) 18 U (gr (by rw [ja (by simp; omega) I]; exact M))) v U dc U) ?_
 refine rP 2 [] mn ?_
 refine RK C2<|aH<|n9 ?_
 have E:(0≤ht.length)∧(([]:List RA).length=0):=by exact ⟨Nat.zero_le _,rfl⟩
 refine bS (ι:={z:Nat×(List RA) // (z.1≤ht.length)∧(z.2.length=z.1)}) [1,2,5,74,75,93] [2,3,4,5,6,7,8,9,10,11,12,13,14,15,16,17,18,19] U U (fun z=>[(94,(vI (z.1.1:Int)))]) (fun z=>[(bM (bg pb (ht.take z.1.1) z.1.2)),(own G H 43 7 (List.zipWith ak.cells ht (kO z.1.2 D.2 z.1.1)))]) (fun _=>rfl) (fun _=>rfl) (fun z=>ht.length-z.1.1) ⟨(0,([]:List RA)),E⟩ (bD U) (aR [2,3,4,5,6,7,8,9,10,11,12,13,14,15,16,17,18,19,0,1]) ?_
 clear E
 rintro ⟨⟨i,dz⟩,⟨p,F⟩⟩ J74 A4
 try dsimp only at p F
 try dsimp only
 refine WS fun _ C3=>rP 1 [] mn ?_
 refine RK C3<|aq fun _ Df=>bR U (aU fun J6=>?_) (aT fun J6=>?_)
 ·refine bQ<|ag<|ag<|aI<|aP<|KK Cx<|aw<|rP 2 [] mn ?_
  refine aK ?_
  have Md:dz.length=ht.length:=by omega
  rw [show (kO dz D.2 i)=dz from xe I,show ht.take i=ht from List.take_of_length_le I]
  refine QJ (Z':=bg jN (r.av.take (h+1)) (hz++[((G,H),dz)])) 16 18 19 U U (tG (f:=jN) (b:=((G,H),dz)) N A) ?_
  rw [Ja (y:=dz)]
  have Jm:(vI (((h+1):Nat):Int))=(vI ((h:Int)+1)):=by exact cI I
  refine bu (A3 ⟨((h+1),(hz++[((G,H),dz)])),⟨I,by simp; omega,Mf N L A dso⟩⟩ _ _ _ U os (cP 3<|bw U Jm<|dp.nil _) (aR [1,2,3,4,5,6,7,8,9,10,11,12,13,14,15,16,0,17]))
 refine WK Df<|aq fun _ Di=>aH<|WS fun _ Do=>rP 2 [] mn ?_
 refine RK Do<|aq fun _ EQ=>?_
 refine Em 19 U (by rw [rI (by rw [ja F I]; exact e)]; omega) (fun L3 AB=>?_)
 refine aw<|rP 3 [] (mc 5 U mn) ?_
 refine rS (IA h U (aB (n:=r.av.length) 17 U (gr (by rw [ja (by simp; omega) I]; exact M))) j7 dc I I) ?_
 refine rS (gD h 0 (vS G ht.length H) U bU (aB (n:=r.av.length) 17 U (gr (by rw [ja (by simp; omega) I]; exact M))) v U dc U) ?_
 refine rP 1 [] mn ?_
 obtain ⟨d,hd⟩:=aC ht i I
 obtain ⟨da,Ab⟩:=aC D.2 i I
 have J2:(List.zipWith ak.cells ht (kO dz D.2 i))[i]? =some (ak.cells d da):=cv hd (z7 F Ab)
 have QS:=A0.sig d (aM hd)
 refine rS (VU i U AB mJ I I)<|rS (VM ((i*7)+4) U AB eU U)<|rS (VM (((i*7)+4)+2) U AB eU U)<|bI 1 U<|RK EQ<|aw<|rP 2 [] mn ?_
 refine rS (SX (zL U U AB) U U) ?_
 refine rS (gD i 6 (vS da.1 d.aX.aa.length da.2) U bU (aB (n:=ht.length) 19 U (rI (by rw [ja F I]; exact e))) J2 U dc U) ?_
 refine cX (CM d.aX.aa da.1 da.2 asm) (aD (show fY _ (rd da.1 d.aX.aa.length 2 (d.aX.aa.map aF.cells)).holds from (bY 13 U (a_ N O (dh _ (a_ hd Ab (by simp [ak.e_]))))))<|aL) U fun L2 PT=>?_
 obtain ⟨R,AA⟩:=L2
 try dsimp only
 refine rS (SX (zL U U AB) U U)<|gu (k:=i) (o:=6) (vs:=[(vS R d.aX.aa.length AA)]) (es':=(List.zipWith ak.cells ht (kO (dz++[(R,AA)]) D.2 (i+1)))) (C':=[_,_,_,_,_,_,_,_,_,_,_,_,_,_,_,_,_,_,_,_,(own G H 43 7 (List.zipWith ak.cells ht (kO (dz++[(R,AA)]) D.2 (i+1))))]) 20 U U U Rh U U U U J2 U dc (by exact yz (c:=ak.cells) (b:=(R,AA)) hd F Ab) U<|aK<|aP<|KK Di<|aw<|rP 2 [] mn ?_
 refine aK<|HX (Y':=bg pb (ht.take (i+1)) (dz++[(R,AA)])) 19 0 U U (tG (f:=pb) (b:=(R,AA)) hd F) ?_
 have JU:(vI (((i+1):Nat):Int))=(vI ((i:Int)+1)):=by exact cI I
 refine bu (A4 ⟨((i+1),(dz++[(R,AA)])),⟨I,by simp; omega⟩⟩ _ _ _ U os (cP 6<|bw U JU<|dp.nil _) (aR [1,2,3,4,5,6,7,8,9,10,11,12,13,14,15,16,17,18,0,19]))
end
section
open Go.RowKit
theorem p8 (j:cS) (kA:OA) (kC:Nat) (az:List RA) (cA:OA) (cC:Nat) (bA:OA) (bC:Nat) (slA:OA) (slC:Nat) (drA:OA) (drC:Nat) (ha:List cD) (heA:OA) (heC:Nat) (faA:OA) (faC:Nat) (prA:OA) (prC:Nat) (h i:Int) (d:ak) (sgA:OA) (sgC:Nat) (hin:gZ j az ha) (hsl:d.aX.aa.length≤1000000):
 nz Tryz.prog 18 [(vA (gh.cells (nq j kA kC cA cC bA bC slA slC drA drC heA heC faA faC prA prC))),(vI h),(vI i),(vA (aG.cells (aG.mk d.Out d.cJ d.Time (iM d.aX sgA sgC))))] [(rd gd 3 2 fj),(rd kA j.Race.ao.aO.length 9 (j.Race.ao.aO.map au.cells)),(rd cA j.Race.ao.aj.length 2 (List.zipWith ax.cells j.Race.ao.aj az)),(dE (bg ax.e_ j.Race.ao.aj az)),(rd bA j.Race.ao.ab.length 4 (j.Race.ao.ab.map bK.cells)),(rd slA j.Race.aV.length 1 (j.Race.aV.map iC)),(rd drA j.Race.bV.length 1 (j.Race.bV.map iC)),(rd heA j.Race.av.length 1 (List.zipWith bW j.Race.av ha)),(dE (bg er j.Race.av ha)),(rd faA j.aS.length 4 (j.aS.map aZ.cells)),(rd prA j.aJ.length 5 (j.aJ.map br.cells)),(rd sgA d.aX.aa.length 2 (d.aX.aa.map aF.cells))] (fun (x:Bool×Int×(OA)×Nat×(OA)×Nat×(List RA)×(OA)×Nat×(OA)×Nat×(OA)×Nat×(OA)×Nat×(List cD))=>bif x.1 then (vT [(vA (cW.cells (cW.mk (cm.mk (bL.mk (bE.mk x.2.2.1 j.Race.ao.aO.length x.2.2.2.1)) j.Race.ao.hU (bE.mk x.2.2.2.2.1 j.Race.ao.aj.length x.2.2.2.2.2.1) (bE.mk x.2.2.2.2.2.2.2.1 j.Race.ao.ab.length x.2.2.2.2.2.2.2.2.1) j.Race.ao.cd j.Race.ao.fK j.Race.ao.dC) (bE.mk x.2.2.2.2.2.2.2.2.2.1 j.Race.aV.length x.2.2.2.2.2.2.2.2.2.2.1) (bE.mk x.2.2.2.2.2.2.2.2.2.2.2.1 j.Race.bV.length x.2.2.2.2.2.2.2.2.2.2.2.2.1) j.Race.j9 (bE.mk x.2.2.2.2.2.2.2.2.2.2.2.2.2.1 ((g9 j.Race.av h i d).length) x.2.2.2.2.2.2.2.2.2.2.2.2.2.2.1)))),(vI 0)]) else (vT [(vA (cW.cells (cW.mk (cm.mk (bL.mk (bE.mk none 0 0)) 0 (bE.mk none 0 0) (bE.mk none 0 0) 0 0 0) (bE.mk none 0 0) (bE.mk none 0 0) 0 (bE.mk none 0 0)))),(vI x.2.1)])) (fun (x:Bool×Int×(OA)×Nat×(OA)×Nat×(List RA)×(OA)×Nat×(OA)×Nat×(OA)×Nat×(OA)×Nat×(List cD))=>(x.1=true→((lu j h i d)=0∧(x.2.2.2.2.2.2.1.length=j.Race.ao.aj.length∧qC j.Race.ao.aj x.2.2.2.2.2.2.1)∧sQ (g9 j.Race.av h i d) x.2.2.2.2.2.2.2.2.2.2.2.2.2.2.2))∧(x.1=false→(x.2.1=(lu j h i d)∧ ¬ (lu j h i d)=0))) (fun (x:Bool×Int×(OA)×Nat×(OA)×Nat×(List RA)×(OA)×Nat×(OA)×Nat×(OA)×Nat×(OA)×Nat×(List cD))=>bif x.1 then [(own x.2.2.1 x.2.2.2.1 128 9 (j.Race.ao.aO.map au.cells)),(own x.2.2.2.2.1 x.2.2.2.2.2.1 133 2 (List.zipWith ax.cells j.Race.ao.aj x.2.2.2.2.2.2.1)),(bM (bg ax.owns j.Race.ao.aj x.2.2.2.2.2.2.1)),(own x.2.2.2.2.2.2.2.1 x.2.2.2.2.2.2.2.2.1 137 4 (j.Race.ao.ab.map bK.cells)),(own x.2.2.2.2.2.2.2.2.2.1 x.2.2.2.2.2.2.2.2.2.2.1 3 1 (j.Race.aV.map iC)),(own x.2.2.2.2.2.2.2.2.2.2.2.1 x.2.2.2.2.2.2.2.2.2.2.2.2.1 3 1 (j.Race.bV.map iC)),(own x.2.2.2.2.2.2.2.2.2.2.2.2.2.1 x.2.2.2.2.2.2.2.2.2.2.2.2.2.2.1 75 1 (List.zipWith bW (g9 j.Race.av h i d) x.2.2.2.2.2.2.2.2.2.2.2.2.2.2.2)),(bM (bg jN (g9 j.Race.av h i d) x.2.2.2.2.2.2.2.2.2.2.2.2.2.2.2))] else []):=by
 have B3:=hin.race
 have FO:=hin.race.line
 have J2:=hin.race.g6
 have J4:=hin.race.has
 have Ia:=hin.race.g7
 have Hi:=hin.nf
 have IO:=hin.np
 refine eO kr Tryz.func18 U U fun w0 Q hQ hN=>?_
 try dsimp only
 refine WS fun _ C1=>eG U fun b2=>eG U fun b3=>AL U pd fun b4=>bI 1 U<|RK C1<|WS fun _ C2=>eV 1 [] (mc 2 U mn) U<|rS (CL (r8 j kA kC az cA cC bA bC slA slC drA drC ha heA heC faA faC prA prC hin) (bk [3,4,5,6,7,8,9,10,11,12,13]) U)<|bI 3 U<|AL U Dn fun b6=>eN U EA U<|bI 1 U<|RK C2<|aq fun _ C3=>WS fun _ Df=>rP 2 [] mn ?_
 refine RK Df<|ck U (aW fun E=>?_) (aY fun E=>?_)
 ·refine WS fun _ Di=>rS (SX (bq (xs:=[]) (cs:=(cW.cells (cW.mk (cm.mk (bL.mk (bE.mk none 0 0)) 0 (bE.mk none 0 0) (bE.mk none 0 0) 0 0 0) (bE.mk none 0 0) (bE.mk none 0 0) 0 (bE.mk none 0 0)))) U U (bp Hm U)) U U)<|bI 1 U<|qN U jC U<|rP 1 [] mn ?_
  refine RK Di<|ar ?_
  refine LX hQ (false,(dG j),none,0,none,0,[],none,0,none,0,none,0,none,0,[]) [] [0] (mc 1 U mn) U (by rfl) U ?_ ?_
  ·rfl
  ·refine ⟨Ga,fun _=>?_⟩; have e:=I7 (h:=h) (i:=i) (d:=d) E; exact ⟨e.symm,fun q=>E (e.symm.trans q)⟩
 refine WK C3<|aq fun _ u=>WS fun _ f=>rP 6 [] (mc 3 U mn) ?_
 refine eu (xs:=[.tmp 27]) (cs:=[(vI h)]) U dy j8 U U U U (by simp [Value.cells]) U U fun Ck=>?_
 refine rS (CL (dA.eq (ik 0 ((j.Race.av.length:Int)-1) ([h]) (some ⟨Ck,0,none⟩) 1 (by (simp; done))) cy) (aD (bx 0 U U (by simp [bP]) U)<|aL) U) ?_
 refine rP 2 [] mn ?_
 refine bT (t:=31) U (aW fun Cx=>?_) (aY fun Cx=>?_)
 ·refine bI 10 U<|RK f<|aN U<|WS fun _ v=>rS (SX (bq (xs:=[]) (cs:=(cW.cells (cW.mk (cm.mk (bL.mk (bE.mk none 0 0)) 0 (bE.mk none 0 0) (bE.mk none 0 0) 0 0 0) (bE.mk none 0 0) (bE.mk none 0 0) 0 (bE.mk none 0 0)))) U U (bp Hm U)) U U)<|Hc U jC U<|rP 1 [] mn ?_
  refine RK v<|ar ?_
  refine LX hQ (false,2,none,0,none,0,[],none,0,none,0,none,0,none,0,[]) [] [0] (mc 2 U mn) U (by rfl) U ?_ ?_
  ·rfl
  ·exact qH<|sZ (By (h:=h) (i:=i) (d:=d) E I)
 refine rP 6 [] (mc 4 U mn) ?_
 refine eu (xs:=[.tmp 37]) (cs:=[(vI i)]) U dy j8 U U U U (by simp [Value.cells]) U U fun Cp=>?_
 refine rS (CL (dA.eq (ik 0 ((j.Race.aV.length:Int)-1) ([i]) (some ⟨Cp,0,none⟩) 1 (by (simp; done))) cy) (aD (bx 0 U U (by simp [bP]) U)<|aL) U) ?_
 refine rP 2 [] mn ?_
 refine RK f<|ck U (aW fun C0=>?_) (aY fun C0=>?_)
 ·refine WS fun _ y=>rS (SX (bq (xs:=[]) (cs:=(cW.cells (cW.mk (cm.mk (bL.mk (bE.mk none 0 0)) 0 (bE.mk none 0 0) (bE.mk none 0 0) 0 0 0) (bE.mk none 0 0) (bE.mk none 0 0) 0 (bE.mk none 0 0)))) U U (bp Hm U)) U U)<|Sx U jC U<|rP 1 [] mn ?_
  refine RK y<|ar ?_
  refine LX hQ (false,2,none,0,none,0,[],none,0,none,0,none,0,none,0,[]) [] [0] (mc 3 U mn) U (by rfl) U ?_ ?_
  ·rfl
  ·exact qH<|sZ (By (h:=h) (i:=i) (d:=d) E I)
 refine WK u<|aq fun _ z=>aq fun _ AC=>?_
 have A9:=(eA E).1
 have J5:=(eA E).2
 have Eq:=(eg A9).1
 have FS:=(eg A9).2
 have EQ:=(d_ Eq).2.head
 unfold e7 at EQ
 refine aw<|rP 1 [] (mc 2 U mn) ?_
 refine cX (zg j kA kC az cA cC bA bC slA slC drA drC ha heA heC faA faC prA prC hin asm) (bk [7,8,9,10,11,12,13,14,15,16]) U fun Fn B9=>?_
 obtain ⟨b,If,JU⟩:=Fn
 try dsimp only
 have r:=B9
 try dsimp only at r
 refine rP 1 [] mn ?_
 have J6:(fF j).length=j.Race.av.length:=yc
 obtain ⟨row,H⟩:=aC (fF j) ((h).toNat) I
 obtain ⟨rowa,W⟩:=aC b ((h).toNat) I
 have s:(List.zipWith tM (fF j) b)[(h).toNat]? =some (tM row rowa):=cv H W
 refine rS (IA ((h).toNat) U (aB (n:=(fF j).length) 0 U (lJ r)) CC dc I I)<|rS (gD ((h).toNat) 0 (vS rowa.1 row.length rowa.2) U bU (aB (n:=(fF j).length) 0 U (lJ r)) s U dc U)<|rP 1 [] mn ?_
 have IR:row.length≤1000000:=ur E _ (by rw [jy E]; exact aM H)
 refine rS (CL (BX row rowa.1 rowa.2 i asm) (aD (show fY _ (rd rowa.1 row.length 1 (row.map iC)).holds from (fun w hw=>(dR 1 U zr) w hw _ (a_ H W (by simp [L4]))))<|aL) U)<|rP 1 [] mn ?_
 refine RK AC<|ck U (aW fun X=>?_) (aY fun X=>?_)
 ·refine WS fun _ AO=>rS (SX (bq (xs:=[]) (cs:=(cW.cells (cW.mk (cm.mk (bL.mk (bE.mk none 0 0)) 0 (bE.mk none 0 0) (bE.mk none 0 0) 0 0 0) (bE.mk none 0 0) (bE.mk none 0 0) 0 (bE.mk none 0 0)))) U U (bp Hm U)) U U)<|Gk U jC U<|rP 1 [] mn ?_
  refine RK AO<|ar ?_
  refine LX hQ (false,8,none,0,none,0,[],none,0,none,0,none,0,none,0,[]) [] [0] (mc 5 U mn) U (by rfl) U ?_ ?_
  ·rfl
  ·exact qH<|sZ (F3 (h:=h) (i:=i) (d:=d) E ⟨I,I⟩ H X)
 refine WK z<|WS fun _ Ab=>rP 1 [] mn ?_
 refine rS (LP (cW.cells (vx j.Race kA kC cA cC bA bC slA slC drA drC heA heC)) 7 U bU U U U)<|cX (Jv j.Race kA kC az cA cC bA bC slA slC drA drC ha heA heC asm) (bk [9,10,11,12,13,14,15,16]) U fun GE Ci=>?_
 obtain ⟨J,O,K,P,Z,L,R,M,S,N,T,F,G,AB⟩:=GE
 try dsimp only
 obtain ⟨⟨Y,p⟩,D⟩:=Ci
 try dsimp only at Y p D
 have H1:=D.1
 refine AL U pd fun I1=>eN U jC U<|RK Ab<|WS fun _ A0=>rP 3 [] (mc 15 U mn) ?_
 refine cX (CM d.aX.aa sgA sgC hsl) (bk [28]) U fun GT Id=>?_
 obtain ⟨B,C⟩:=GT
 try dsimp only
 refine rP 2 [] mn ?_
 refine g5 (vs:=[(vS B d.aX.aa.length C)]) (cs':=(aG.cells (aG.mk d.Out d.cJ d.Time (iM d.aX B C)))) (C':=[_,_,_,_,_,_,_,_,_,_,_,_,_,_,_,_,(cz b3 43 (aG.cells (aG.mk d.Out d.cJ d.Time (iM d.aX B C)))),_,_,_,_,_,_,_,_,_,_,_,_,_]) 16 U U U Rh U U U U U U U<|RK A0<|aq fun _ A1=>?_
 obtain ⟨ht,AA⟩:=aC j.Race.av ((h).toNat) I
 obtain ⟨A,V⟩:=aC AB ((h).toNat) (by have:=D.1; omega)
 have A8:(List.zipWith bW j.Race.av AB)[(h).toNat]? =some (bW ht A):=cv AA V
 have Fd:=D.2 _ _ _ AA V
 have J3:=(FS.eo ht (aM AA)).1
 refine Qn 9 AA V U U ?_
 try dsimp only
 refine cU cg 8 kr<|kv 3 [] (mc 4 U mn) U<|dS (IA ((h).toNat) U (aB (n:=j.Race.av.length) 11 U (gr D.1)) j7 dc I I)<|dS (gD ((h).toNat) 0 (vS A.1.1 ht.length A.1.2) U bU (aB (n:=j.Race.av.length) 11 U (gr D.1)) A8 U dc U)<|dP 2 [] (mc 18 U mn) ?_
 obtain ⟨d0,A6⟩:=aC ht ((i).toNat) I
 obtain ⟨Do,g⟩:=aC A.2 ((i).toNat) I
 have A7:(List.zipWith ak.cells ht A.2)[(i).toNat]? =some (ak.cells d0 Do):=cv A6 g
 refine dS (IA ((i).toNat) U (aB (n:=ht.length) 0 U (rI Fd)) mJ dc I I)<|cx<|gu (k:=(i).toNat) (o:=0) (vs:=(aG.cells (aG.mk d.Out d.cJ d.Time (iM d.aX B C)))) (es':=(List.zipWith ak.cells (ht.set (i).toNat d) (A.2.set (i).toNat (B,C)))) (C':=[(own A.1.1 A.1.2 43 7 (List.zipWith ak.cells (ht.set (i).toNat d) (A.2.set (i).toNat (B,C)))),_,_,_,_,_,_,_,_,_,_,_,_,_,_,_,_,_,_,_,_,_,_,_,_,_,_,_,_,_,_,_]) 0 U U U DN U U U U A7 U dc (by exact xo (c:=ak.cells) (m:=d) (a:=(B,C))) U<|RK A1<|aq fun _ A2=>aq fun _ A3=>P3 (d':=d) (b':=(B,C)) 1 3 A6 g U U ?_
 refine MZ (h':=(ht.set (i).toNat d)) (a':=(A.1,(A.2.set (i).toNat (B,C)))) 2 0 1 I (by have:=D.1; omega) U U ?_
 rw [← qk AA,show List.zipWith bW j.Race.av AB=List.zipWith bW (g9 j.Race.av h i d) (AB.set (h).toNat (A.1,(A.2.set (i).toNat (B,C)))) from by rw [qk AA]; exact (HR AA V (by rw [List.length_set])).symm]
 replace D:=PU (d:=d) (i:=i) (x:=(B,C)) D AA V
 rw [show bE.mk F j.Race.av.length G=bE.mk F ((g9 j.Race.av h i d).length) G from by rw [o2]]
 have Bh:iL (jS j.Race h i d) _ _:=B3.put Y p D hsl
 refine aw<|rP 1 [] (mc 1 U mn) ?_
 refine rS (CL (yF (jS j.Race h i d) J O Z K P L R M S N T (AB.set (h).toNat (A.1,(A.2.set (i).toNat (B,C)))) F G (by exact Bh)) (dM 17 U U<|aD (aB (n:=j.Race.ao.aO.length) 2 U (by (rw [List.length_map]; rfl)))<|aD (aB (n:=j.Race.ao.aj.length) 3 U (iO Y))<|aD (dR 4 U jJ)<|aD (aB (n:=j.Race.ao.ab.length) 5 U (by (rw [List.length_map]; rfl)))<|aD (aB (n:=j.Race.aV.length) 6 U (by (rw [List.length_map]; rfl)))<|aD (aB (n:=j.Race.bV.length) 7 U (by (rw [List.length_map]; rfl)))<|aD (aB (n:=(g9 j.Race.av h i d).length) 8 U (gr D.1))<|aD (jO 0 U D)<|aL) U) ?_
 refine rP 1 [] mn ?_
 refine RK A3<|ck U (aW fun l=>?_) (aY fun l=>?_)
 ·refine WS fun _ A4=>rS (SX (bq (xs:=[]) (cs:=(cW.cells (cW.mk (cm.mk (bL.mk (bE.mk none 0 0)) 0 (bE.mk none 0 0) (bE.mk none 0 0) 0 0 0) (bE.mk none 0 0) (bE.mk none 0 0) 0 (bE.mk none 0 0)))) U U (bp Hm U)) U U)<|g5 (vs:=(cW.cells (cW.mk (cm.mk (bL.mk (bE.mk none 0 0)) 0 (bE.mk none 0 0) (bE.mk none 0 0) 0 0 0) (bE.mk none 0 0) (bE.mk none 0 0) 0 (bE.mk none 0 0)))) (cs':=(cW.cells (cW.mk (cm.mk (bL.mk (bE.mk none 0 0)) 0 (bE.mk none 0 0) (bE.mk none 0 0) 0 0 0) (bE.mk none 0 0) (bE.mk none 0 0) 0 (bE.mk none 0 0)))) (C':=[_,_,_,_,_,_,_,_,_,_,_,_,_,_,(cz b4 32 (cW.cells (cW.mk (cm.mk (bL.mk (bE.mk none 0 0)) 0 (bE.mk none 0 0) (bE.mk none 0 0) 0 0 0) (bE.mk none 0 0) (bE.mk none 0 0) 0 (bE.mk none 0 0)))),_,_,_,_,_,_,_,_,_,_,_,_,_,_]) 14 U U U jC U U U U U U U<|rP 1 [] mn ?_
  refine RK A4<|ar ?_
  refine LX hQ (false,60,none,0,none,0,[],none,0,none,0,none,0,none,0,[]) [] [0] (mc 14 U mn) U (by rfl) U ?_ ?_
  ·rfl
  ·exact qH<|sZ (zq (h:=h) (i:=i) (d:=d) E ⟨I,I⟩ H X l)
 refine WK A2<|WS fun _ A5=>eV 1 [] (mc 1 U mn) U<|g5 (vs:=(cW.cells (cW.mk (cm.mk (bL.mk (bE.mk J j.Race.ao.aO.length O)) j.Race.ao.hU (bE.mk K j.Race.ao.aj.length P) (bE.mk L j.Race.ao.ab.length R) j.Race.ao.cd j.Race.ao.fK j.Race.ao.dC) (bE.mk M j.Race.aV.length S) (bE.mk N j.Race.bV.length T) j.Race.j9 (bE.mk F ((g9 j.Race.av h i d).length) G)))) (cs':=(cW.cells (cW.mk (cm.mk (bL.mk (bE.mk J j.Race.ao.aO.length O)) j.Race.ao.hU (bE.mk K j.Race.ao.aj.length P) (bE.mk L j.Race.ao.ab.length R) j.Race.ao.cd j.Race.ao.fK j.Race.ao.dC) (bE.mk M j.Race.aV.length S) (bE.mk N j.Race.bV.length T) j.Race.j9 (bE.mk F ((g9 j.Race.av h i d).length) G)))) (C':=[_,_,_,_,_,_,_,_,_,_,_,_,_,_,(cz b4 32 (cW.cells (cW.mk (cm.mk (bL.mk (bE.mk J j.Race.ao.aO.length O)) j.Race.ao.hU (bE.mk K j.Race.ao.aj.length P) (bE.mk L j.Race.ao.ab.length R) j.Race.ao.cd j.Race.ao.fK j.Race.ao.dC) (bE.mk M j.Race.aV.length S) (bE.mk N j.Race.bV.length T) j.Race.j9 (bE.mk F ((g9 j.Race.av h i d).length) G)))),_,_,_,_,_,_,_,_,_,_,_,_,_,_]) 14 U U U jC U U U U U U U<|rP 1 [] mn ?_
 refine RK A5<|ar ?_
 refine LX hQ (true,0,J,O,K,P,Z,L,R,M,S,N,T,F,G,(AB.set (h).toNat (A.1,(A.2.set (i).toNat (B,C))))) [2,3,4,5,6,7,8,0] [0] (mc 14 U mn) U (by (show List.all _ _=true; simp only [cond_true,il,List.all_nil,qb,xz,Bool.and_true]; rfl)) U ?_ ?_
 ·rfl
 ·exact ⟨fun _=>⟨AS E ⟨I,I⟩ H X l,⟨Y,p⟩,D⟩,Pm⟩
theorem nk (j:cS) (kA:OA) (kC:Nat) (az:List RA) (cA:OA) (cC:Nat) (bA:OA) (bC:Nat) (slA:OA) (slC:Nat) (drA:OA) (drC:Nat) (ha:List cD) (heA:OA) (heC:Nat) (faA:OA) (faC:Nat) (prA:OA) (prC:Nat) (h i:Int) (d:ak) (sgA:OA) (sgC:Nat) (hin:gZ j az ha) (hsl:d.aX.aa.length≤1000000) (hok:(lu j h i d)=0):
 nz Tryz.prog 18 [(vA (gh.cells (nq j kA kC cA cC bA bC slA slC drA drC heA heC faA faC prA prC))),(vI h),(vI i),(vA (aG.cells (aG.mk d.Out d.cJ d.Time (iM d.aX sgA sgC))))] [(rd gd 3 2 fj),(rd kA j.Race.ao.aO.length 9 (j.Race.ao.aO.map au.cells)),(rd cA j.Race.ao.aj.length 2 (List.zipWith ax.cells j.Race.ao.aj az)),(dE (bg ax.e_ j.Race.ao.aj az)),(rd bA j.Race.ao.ab.length 4 (j.Race.ao.ab.map bK.cells)),(rd slA j.Race.aV.length 1 (j.Race.aV.map iC)),(rd drA j.Race.bV.length 1 (j.Race.bV.map iC)),(rd heA j.Race.av.length 1 (List.zipWith bW j.Race.av ha)),(dE (bg er j.Race.av ha)),(rd faA j.aS.length 4 (j.aS.map aZ.cells)),(rd prA j.aJ.length 5 (j.aJ.map br.cells)),(rd sgA d.aX.aa.length 2 (d.aX.aa.map aF.cells))] (fun (x:(OA)×Nat×(OA)×Nat×(List RA)×(OA)×Nat×(OA)×Nat×(OA)×Nat×(OA)×Nat×(List cD))=>(vT [(vA (cW.cells (cW.mk (cm.mk (bL.mk (bE.mk x.1 j.Race.ao.aO.length x.2.1)) j.Race.ao.hU (bE.mk x.2.2.1 j.Race.ao.aj.length x.2.2.2.1) (bE.mk x.2.2.2.2.2.1 j.Race.ao.ab.length x.2.2.2.2.2.2.1) j.Race.ao.cd j.Race.ao.fK j.Race.ao.dC) (bE.mk x.2.2.2.2.2.2.2.1 j.Race.aV.length x.2.2.2.2.2.2.2.2.1) (bE.mk x.2.2.2.2.2.2.2.2.2.1 j.Race.bV.length x.2.2.2.2.2.2.2.2.2.2.1) j.Race.j9 (bE.mk x.2.2.2.2.2.2.2.2.2.2.2.1 ((g9 j.Race.av h i d).length) x.2.2.2.2.2.2.2.2.2.2.2.2.1)))),(vI 0)])) (fun (x:(OA)×Nat×(OA)×Nat×(List RA)×(OA)×Nat×(OA)×Nat×(OA)×Nat×(OA)×Nat×(List cD))=>((lu j h i d)=0∧(x.2.2.2.2.1.length=j.Race.ao.aj.length∧qC j.Race.ao.aj x.2.2.2.2.1)∧sQ (g9 j.Race.av h i d) x.2.2.2.2.2.2.2.2.2.2.2.2.2)) (fun (x:(OA)×Nat×(OA)×Nat×(List RA)×(OA)×Nat×(OA)×Nat×(OA)×Nat×(OA)×Nat×(List cD))=>[(own x.1 x.2.1 128 9 (j.Race.ao.aO.map au.cells)),(own x.2.2.1 x.2.2.2.1 133 2 (List.zipWith ax.cells j.Race.ao.aj x.2.2.2.2.1)),(bM (bg ax.owns j.Race.ao.aj x.2.2.2.2.1)),(own x.2.2.2.2.2.1 x.2.2.2.2.2.2.1 137 4 (j.Race.ao.ab.map bK.cells)),(own x.2.2.2.2.2.2.2.1 x.2.2.2.2.2.2.2.2.1 3 1 (j.Race.aV.map iC)),(own x.2.2.2.2.2.2.2.2.2.1 x.2.2.2.2.2.2.2.2.2.2.1 3 1 (j.Race.bV.map iC)),(own x.2.2.2.2.2.2.2.2.2.2.2.1 x.2.2.2.2.2.2.2.2.2.2.2.2.1 75 1 (List.zipWith bW (g9 j.Race.av h i d) x.2.2.2.2.2.2.2.2.2.2.2.2.2)),(bM (bg jN (g9 j.Race.av h i d) x.2.2.2.2.2.2.2.2.2.2.2.2.2))]):=by
 exact Me (p8 j kA kC az cA cC bA bC slA slC drA drC ha heA heC faA faC prA prC h i d sgA sgC hin hsl) (fun x q=>q.2 hok)
end
section
open Go.RowKit
theorem xR (j:cS) (kA:OA) (kC:Nat) (az:List RA) (cA:OA) (cC:Nat) (bA:OA) (bC:Nat) (slA:OA) (slC:Nat) (drA:OA) (drC:Nat) (ha:List cD) (heA:OA) (heC:Nat) (faA:OA) (faC:Nat) (prA:OA) (prC:Nat) (eo jT:Int) (d:ak) (sgA:OA) (sgC:Nat) (hraw:sB j az ha) (h1b:0≤eo∧eo≤255) (h2b:0≤jT∧jT≤255) (hdr:d.aX.aa.length≤9223372036854775807):
 dA Tryz.prog 4 [(vA (gh.cells (nq j kA kC cA cC bA bC slA slC drA drC heA heC faA faC prA prC))),(Value.int .u8 eo),(Value.int .u8 jT),(vA (aG.cells (aG.mk d.Out d.cJ d.Time (iM d.aX sgA sgC))))] [(rd gd 3 2 fj),(rd kA j.Race.ao.aO.length 9 (j.Race.ao.aO.map au.cells)),(rd cA j.Race.ao.aj.length 2 (List.zipWith ax.cells j.Race.ao.aj az)),(dE (bg ax.e_ j.Race.ao.aj az)),(rd bA j.Race.ao.ab.length 4 (j.Race.ao.ab.map bK.cells)),(rd slA j.Race.aV.length 1 (j.Race.aV.map iC)),(rd drA j.Race.bV.length 1 (j.Race.bV.map iC)),(rd heA j.Race.av.length 1 (List.zipWith bW j.Race.av ha)),(dE (bg er j.Race.av ha)),(rd faA j.aS.length 4 (j.aS.map aZ.cells)),(rd prA j.aJ.length 5 (j.aJ.map br.cells)),(rd sgA d.aX.aa.length 2 (d.aX.aa.map aF.cells))] (vB true):=by
 refine bJ kr Tryz.func4 U U fun w0 Q hQ hN=>?_
 try dsimp only
 refine WS fun _ Z2=>eG U fun b2=>eG U fun b3=>bI 1 U<|RK Z2<|WS fun _ Z5=>rS (CL JX (bk [2]) U)<|bI 1 U<|RK Z5<|aq fun _ Z6=>WS fun _ W9=>eV 1 [] (mc 1 U mn) U<|rS (CL (J_ j kA kC az cA cC bA bC slA slC drA drC ha heA heC faA faC prA prC hraw) (bk [3,4,5,6,7,8,9,10,11,12]) U)<|rP 2 [] mn ?_
 refine bT (t:=30) U (aW fun L=>?_) (aY fun L=>?_)
 ·refine bI 10 U<|RK W9<|aN U<|WS fun _ Z7=>rP 2 [] mn ?_
  refine RK Z7<|ar<|Q1 hQ U U U ?_
  rfl
 refine rP 7 [] (mc 0 U mn) ?_
 refine bT (t:=37) U (aT fun Z1=>?_) (aU fun Z1=>?_)
 ·refine bI 3 U<|RK W9<|aN U<|WS fun _ Z8=>rP 2 [] mn ?_
  refine RK Z8<|ar<|Q1 hQ U U U ?_
  rfl
 refine rP 3 [] mn ?_
 refine RK W9<|cp U<|WK Z6<|aq fun _ Z9=>cU cg 16 kr ?_
 have R5:=hraw.small L.1
 have A7:=R5.race
 have ad:=R5.race.line
 have bB:=R5.race.g6
 have bH:=R5.race.has
 have a8:=R5.race.g7
 have a5:=R5.nf
 have a7:=R5.np
 have ZD:=(eA L.2).1
 have YS:=(eA L.2).2
 have ac:=(eg ZD).1
 have T0:=(eg ZD).2
 have Z_:=(d_ ac).2.head
 unfold e7 at Z_
 have bd:=T0.num
 have bc:=T0.nh
 have bb:=YS.nf
 have be:=YS.np
 have a9:=YS.tf
 have WA:d.aX.aa.length≤1000000:=by omega
 have To:=(FC L.1).1
 refine kR 1 U<|dS (SX (ow (m:=eo) U U HT qu (lx (by first|assumption|omega))) U U)<|kv 4 [] (mc 1 U mn) U<|dS (BI U (LB I I))<|kR 1 U<|dS (SX (ow (m:=jT) U U HT qu (lx (by first|assumption|omega))) U U)<|kv 4 [] (mc 1 U mn) U<|dS (BI U (LB I I))<|dP 2 [] mn ?_
 refine cx<|RK Z9<|aq fun _ VO=>?_
 obtain ⟨h,hq,hb⟩: ∃ q:Int,(eo % (j.Race.av.length:Int))=q∧0≤q∧q≤(j.Race.av.length:Int)-1:=⟨_,rfl,by have:=O3 eo (j.Race.av.length:Int) I I; omega⟩; rw [hq]; obtain ⟨i,hi,ZB⟩: ∃ q:Int,(jT % (j.Race.aV.length:Int))=q∧mD j.Race q:=⟨_,rfl,by unfold mD; have:=O3 jT (j.Race.aV.length:Int) I I; omega⟩; rw [hi]; have R6:(0≤h∧h≤(j.Race.av.length:Int)-1)∧mD j.Race i:=⟨hb,ZB⟩; have ZC:=ZB; unfold mD at ZC; obtain ⟨row,S2⟩:=Kl L.2 hb; obtain ⟨bh,S1,d0,V_⟩:=Mo T0 R6; rcases Dm (d:=d) L.2 R6 S2 with ⟨hm,hx,R7⟩|⟨hm,hx,R7⟩|⟨hm,R7⟩
 rotate_left 1
 ·try dsimp only
  refine aw<|rP 1 [] (mc 1 U mn) ?_
  refine cX (sf j kA kC az cA cC bA bC slA slC drA drC ha heA heC faA faC prA prC asm) (bk [2,3,4,5,6,7,8,9,10,11,12]) U fun ZK YU=>?_
  obtain ⟨JU,Ya,Yg⟩:=ZK
  try dsimp only
  have FO:=YU
  try dsimp only at FO
  refine bI 5 U<|RK VO<|WS fun _ Wu=>rP 4 [0,1] (mc 3 U (mc 2 U mn)) ?_
  refine cX (p8 j kA kC az cA cC bA bC slA slC drA drC ha heA heC faA faC prA prC h i d sgA sgC asm asm) (bk [4,5,6,7,8,9,10,11,12,13,14,15]) U fun ZL V8=>?_
  obtain ⟨YY,Zz,ZU,Zm,ZX,Zp,Zk,ZZ,Zr,Zb,Zt,Zd,Zv,Zf,Zx,ae⟩:=ZL
  cases YY
  rotate_left 1
  ·obtain ⟨A,⟨D,E⟩,B⟩:=V8.1 rfl
   try dsimp only [cond_true,cond_false,List.cons_append,List.nil_append]
   exact absurd (A.symm.trans R7) dc
  obtain ⟨Li,he⟩:=V8.2 rfl
  try dsimp only at Li he
  subst Li
  try dsimp only [cond_true,cond_false,List.cons_append,List.nil_append]
  refine bI 3 U<|AL U pd fun WC=>eN U jC U<|rP 1 [] mn ?_
  refine RK Wu<|aq fun _ Wv=>aq fun _ Ww=>?_
  have ZA:=he
  refine aw<|rP 3 [] mn ?_
  refine bT (t:=71) U (aW fun LT=>?_) (aY fun LT=>?_)
  ·exact absurd L.2 LT
  refine rP 8 [] (mc 4 U mn) ?_
  refine RK Ww<|ck U (aW fun Uu=>?_) (aY fun Uu=>?_)
  ·exact absurd (rZ L.2) I
  refine WK Wv<|aq fun _ Wx=>WS fun _ Wy=>rP 2 [] mn ?_
  have WT:=rZ L.2
  obtain ⟨J,H⟩:=aC (dD j) ((h).toNat) I
  obtain ⟨row2a,hrow2a⟩:=aC JU ((h).toNat) I
  have hrow2m:(List.zipWith tM (dD j) JU)[(h).toNat]? =some (tM J row2a):=cv H hrow2a
  refine rS (IA ((h).toNat) U (aB (n:=(dD j).length) 1 U (lJ FO)) CC dc I I)<|rS (gD ((h).toNat) 0 (vS row2a.1 J.length row2a.2) U bU (aB (n:=(dD j).length) 1 U (lJ FO)) hrow2m U dc U) ?_
  obtain rfl:J=row:=Option.some.inj (H.symm.trans S2)
  refine bI 1 U<|rS (CL (D3 J row2a.1 row2a.2 i (by exact ur L.2 _ (aM H))) (aD (show fY _ (rd row2a.1 J.length 1 (J.map iC)).holds from (fun w hw=>(dR 2 U zr) w hw _ (a_ H hrow2a (by simp [L4]))))<|aL) U)<|rP 1 [] mn ?_
  refine RK Wy<|ck U (aW fun La=>?_) (aY fun La=>?_)
  ·exact absurd hm La
  refine WK Wx<|aq fun _ Wz=>Bq cg [12,13,14,15,16,17,18] [0,1,2,3,4,5,6,7,8,9,10,11,12,13,14,15,16] U U U<|eS U (LW 4 U bU U U)<|eS U (MV U)<|eS U (MV U)<|eS U (FA 0 U eU U)<|eS U (FA 10 U eU U)<|eS U (L1 (vS heA j.Race.av.length heC) 4 U bU U U)<|eS U (MV U) ?_
  obtain ⟨K,C⟩:=aC j.Race.av ((h).toNat) I
  obtain ⟨ht1a,hht1a⟩:=aC ha ((h).toNat) I
  have hht1m:(List.zipWith bW j.Race.av ha)[(h).toNat]? =some (bW K ht1a):=cv C hht1a
  refine eS U (IA ((h).toNat) U (ay 12 U) j7 dc I I)<|eS U (gD ((h).toNat) 0 (vS ht1a.1.1 K.length ht1a.1.2) U bU (ay 12 U) hht1m U dc U)<|eS U (MV U) ?_
  have WU:=(A7.eo _ _ _ C hht1a).lz
  have WV:=(T0.eo _ (aM C)).1
  have Lk:=(A7.eo _ _ _ C hht1a).sig
  obtain ⟨M,f⟩:=aC K ((i).toNat) I
  obtain ⟨d1a,hd1a⟩:=aC ht1a.2 ((i).toNat) I
  have hd1m:(List.zipWith ak.cells K ht1a.2)[(i).toNat]? =some (ak.cells M d1a):=cv f hd1a
  refine eS U (IA ((i).toNat) U (show fY _ (rd ht1a.1.1 K.length 7 (List.zipWith ak.cells K ht1a.2)).holds from (bY 13 U (a_ C hht1a bX))) mJ dc I I)<|eS U (jE ((i).toNat) 0 (aG.cells (aG.mk M.Out M.cJ M.Time (cL.mk M.aX.Start M.aX.gj (bE.mk d1a.1 M.aX.aa.length d1a.2)))) U bU (show fY _ (rd ht1a.1.1 K.length 7 (List.zipWith ak.cells K ht1a.2)).holds from (bY 13 U (a_ C hht1a bX))) hd1m U dc U U)<|ek U ?_
  refine IT (V:=OA×Nat×OA×Nat×List RA×OA×Nat×OA×Nat×OA×Nat×OA×Nat×List cD×Nat) (fun (B3,C0,B9,C1,AC,Ci,C2,Ck,C3,Cp,Df,Cx,Di,A9,J9)=>((lu j h i M)=0∧(AC.length=j.Race.ao.aj.length∧qC j.Race.ao.aj AC)∧sQ (g9 j.Race.av h i M) A9)) (fun (B3,C0,B9,C1,AC,Ci,C2,Ck,C3,Cp,Df,Cx,Di,A9,J9)=>[(4,(vP b2)),(7,(vP b3)),(9,(vB true)),(10,(vI h)),(11,(vI i)),(14,(vP WC)),(15,(vI (lu j h i d))),(16,(vP J9)),(107,(vI 0))]) (fun (B3,C0,B9,C1,AC,Ci,C2,Ck,C3,Cp,Df,Cx,Di,A9,J9)=>[(cz J9 32 (cW.cells (cW.mk (cm.mk (bL.mk (bE.mk B3 j.Race.ao.aO.length C0)) j.Race.ao.hU (bE.mk B9 j.Race.ao.aj.length C1) (bE.mk Ci j.Race.ao.ab.length C2) j.Race.ao.cd j.Race.ao.fK j.Race.ao.dC) (bE.mk Ck j.Race.aV.length C3) (bE.mk Cp j.Race.bV.length Df) j.Race.j9 (bE.mk Cx ((g9 j.Race.av h i M).length) Di)))),(own B3 C0 128 9 (j.Race.ao.aO.map au.cells)),(own B9 C1 133 2 (List.zipWith ax.cells j.Race.ao.aj AC)),(bM (bg ax.owns j.Race.ao.aj AC)),(own Ci C2 137 4 (j.Race.ao.ab.map bK.cells)),(own Ck C3 3 1 (j.Race.aV.map iC)),(own Cp Df 3 1 (j.Race.bV.map iC)),(own Cx Di 75 1 (List.zipWith bW (g9 j.Race.av h i M) A9)),(bM (bg jN (g9 j.Race.av h i M) A9)),(cz WC 32 (cW.cells (cW.mk (cm.mk (bL.mk (bE.mk none 0 0)) 0 (bE.mk none 0 0) (bE.mk none 0 0) 0 0 0) (bE.mk none 0 0) (bE.mk none 0 0) 0 (bE.mk none 0 0)))),(own Ya Yg 29 1 (List.zipWith tM (dD j) JU)),(bM (bg Fp (dD j) JU)),(cz b3 43 (aG.cells (aG.mk d.Out d.cJ d.Time (iM d.aX sgA sgC)))),(cz b2 36 (gh.cells (nq j kA kC cA cC bA bC slA slC drA drC heA heC faA faC prA prC))),(rd gd 3 2 fj).ro,(rd kA j.Race.ao.aO.length 9 (j.Race.ao.aO.map au.cells)).ro,(rd cA j.Race.ao.aj.length 2 (List.zipWith ax.cells j.Race.ao.aj az)).ro,(dE (bg ax.e_ j.Race.ao.aj az)).ro,(rd bA j.Race.ao.ab.length 4 (j.Race.ao.ab.map bK.cells)).ro,(rd slA j.Race.aV.length 1 (j.Race.aV.map iC)).ro,(rd drA j.Race.bV.length 1 (j.Race.bV.map iC)).ro,(rd heA j.Race.av.length 1 (List.zipWith bW j.Race.av ha)).ro,(dE (bg er j.Race.av ha)).ro,(rd faA j.aS.length 4 (j.aS.map aZ.cells)).ro,(rd prA j.aJ.length 5 (j.aJ.map br.cells)).ro,(rd sgA d.aX.aa.length 2 (d.aX.aa.map aF.cells)).ro]) 1 [18] (fun hJ=>?_) ?_
  ·refine fu [12,16] kr (cK ?_<|cK ?_<|gU)
   rotate_left 1
   ·refine dU U U U fun T282 YD=>AL U pd fun T8=>RD YD 1 U<|N1 12<|dU U U U fun T284 YE=>cX (nk j kA kC az cA cC bA bC slA slC drA drC ha heA heC faA faC prA prC h i M d1a.1 d1a.2 asm (by exact Lk _ (aM f)) (by exact rT L.2 R6 H hm C f)) (ld [6,7,8,9,10,11,12,13,14,15,16]<|aD (show fY _ (rd d1a.1 M.aX.aa.length 2 (M.aX.aa.map aF.cells)).holds from (bY 14 U (a_ C hht1a (dh _ (a_ f hd1a (by simp [ak.e_]))))))<|aL) U fun ZN YW=>?_
    obtain ⟨L2,Pi,MQ,QS,PS,M2,Qr,Ne,Q7,Or,R1,PG,R3,R9⟩:=ZN
    try dsimp only
    obtain ⟨A,⟨D,E⟩,B⟩:=YW
    refine RD YE 9 U<|N1 13<|dU U U U fun T301 YF=>rS (MV U)<|RD YF 9 U<|fu [14,15] kr (cK ?_<|cK ?_<|gU)
    rotate_left 1
    ·refine dU U U U fun T307 YL=>rS (EX U)<|RD YL 9 U<|N1 14<|dU U U U fun T308 YM=>rS (EX U)<|RD YM 9 U<|N1 17<|dU U U U fun T309 YN=>Q4 U jC U<|RD YN 9 U ?_
     exact gY hJ (L2,Pi,MQ,QS,PS,M2,Qr,Ne,Q7,Or,R1,PG,R3,R9,T8) ⟨A,⟨D,E⟩,B⟩ [8,0,1,2,3,4,5,6,7,9,10,11,12,13,14,15,16,17,18,19,20,21,22,23,24,25] U U U
    refine dU U U U fun T302 YG=>rS (EX U)<|RD YG 9 U<|fu [15,17] kr (cK ?_<|cK ?_<|gU)
    rotate_left 1
    ·refine dU U U U fun T305 YJ=>Q4 U jC U<|RD YJ 9 U<|N1 15<|dU U U U fun T306 YK=>rS (EX U)<|RD YK 9 U ?_
     exact gY hJ (L2,Pi,MQ,QS,PS,M2,Qr,Ne,Q7,Or,R1,PG,R3,R9,T8) ⟨A,⟨D,E⟩,B⟩ [8,0,1,2,3,4,5,6,7,9,10,11,12,13,14,15,16,17,18,19,20,21,22,23,24,25] U U U
    refine dU U U U fun T303 YH=>rS (EX U)<|RD YH 9 U<|N1 17<|dU U U U fun T304 YI=>Q4 U jC U<|RD YI 9 U ?_
    exact gY hJ (L2,Pi,MQ,QS,PS,M2,Qr,Ne,Q7,Or,R1,PG,R3,R9,T8) ⟨A,⟨D,E⟩,B⟩ [8,0,1,2,3,4,5,6,7,9,10,11,12,13,14,15,16,17,18,19,20,21,22,23,24,25] U U U
   refine dU U U U fun T223 Xd=>cX (nk j kA kC az cA cC bA bC slA slC drA drC ha heA heC faA faC prA prC h i M d1a.1 d1a.2 asm (by exact Lk _ (aM f)) (by exact rT L.2 R6 H hm C f)) (ld [5,6,7,8,9,10,11,12,13,14,15]<|aD (show fY _ (rd d1a.1 M.aX.aa.length 2 (M.aX.aa.map aF.cells)).holds from (bY 13 U (a_ C hht1a (dh _ (a_ f hd1a (by simp [ak.e_]))))))<|aL) U fun ZM YV=>?_
   obtain ⟨N,W,O,X,AA,P,Y,R,Z,S,a,T,b,c⟩:=ZM
   try dsimp only
   obtain ⟨A,⟨D,E⟩,B⟩:=YV
   refine RD Xd 8 U<|fu [13,16] kr (cK ?_<|cK ?_<|gU)
   rotate_left 1
   ·refine dU U U U fun T271 X4=>AL U pd fun T7=>RD X4 9 U<|N1 13<|dU U U U fun T273 X5=>rS (MV U)<|RD X5 9 U<|fu [14,15] kr (cK ?_<|cK ?_<|gU)
    rotate_left 1
    ·refine dU U U U fun T279 YA=>rS (EX U)<|RD YA 9 U<|N1 14<|dU U U U fun T280 YB=>rS (EX U)<|RD YB 9 U<|N1 17<|dU U U U fun T281 YC=>eN U jC U<|RD YC 9 U ?_
     exact gY hJ (N,W,O,X,AA,P,Y,R,Z,S,a,T,b,c,T7) ⟨A,⟨D,E⟩,B⟩ [0,1,2,3,4,5,6,7,8,9,10,11,12,13,14,15,16,17,18,19,20,21,22,23,24,25] U U U
    refine dU U U U fun T274 X6=>rS (EX U)<|RD X6 9 U<|fu [15,17] kr (cK ?_<|cK ?_<|gU)
    rotate_left 1
    ·refine dU U U U fun T277 X9=>eN U jC U<|RD X9 9 U<|N1 15<|dU U U U fun T278 X_=>rS (EX U)<|RD X_ 9 U ?_
     exact gY hJ (N,W,O,X,AA,P,Y,R,Z,S,a,T,b,c,T7) ⟨A,⟨D,E⟩,B⟩ [0,1,2,3,4,5,6,7,8,9,10,11,12,13,14,15,16,17,18,19,20,21,22,23,24,25] U U U
    refine dU U U U fun T275 X7=>rS (EX U)<|RD X7 9 U<|N1 17<|dU U U U fun T276 X8=>eN U jC U<|RD X8 9 U ?_
    exact gY hJ (N,W,O,X,AA,P,Y,R,Z,S,a,T,b,c,T7) ⟨A,⟨D,E⟩,B⟩ [0,1,2,3,4,5,6,7,8,9,10,11,12,13,14,15,16,17,18,19,20,21,22,23,24,25] U U U
   refine dU U U U fun T240 Xe=>rS (MV U)<|RD Xe 8 U<|fu [14,15,16] kr (cK ?_<|cK ?_<|cK ?_<|gU)
   rotate_left 1
   ·refine dU U U U fun T252 Xo=>rS (EX U)<|RD Xo 8 U<|fu [14,16] kr (cK ?_<|cK ?_<|gU)
    rotate_left 1
    ·refine dU U U U fun T257 Xs=>AL U pd fun Yd=>RD Xs 9 U<|N1 14<|dU U U U fun T259 Xt=>rS (EX U)<|RD Xt 9 U<|N1 17<|dU U U U fun T260 Xu=>eN U jC U<|RD Xu 9 U ?_
     exact gY hJ (N,W,O,X,AA,P,Y,R,Z,S,a,T,b,c,Yd) ⟨A,⟨D,E⟩,B⟩ [0,1,2,3,4,5,6,7,8,9,10,11,12,13,14,15,16,17,18,19,20,21,22,23,24,25] U U U
    refine dU U U U fun T253 Xp=>rS (EX U)<|RD Xp 8 U<|N1 16<|dU U U U fun T254 Xq=>AL U pd fun Yc=>RD Xq 9 U<|N1 17<|dU U U U fun T256 Xr=>eN U jC U<|RD Xr 9 U ?_
    exact gY hJ (N,W,O,X,AA,P,Y,R,Z,S,a,T,b,c,Yc) ⟨A,⟨D,E⟩,B⟩ [0,1,2,3,4,5,6,7,8,9,10,11,12,13,14,15,16,17,18,19,20,21,22,23,24,25] U U U
   ·refine dU U U U fun T261 Xv=>AL U pd fun T6=>RD Xv 9 U<|fu [14,15] kr (cK ?_<|cK ?_<|gU)
    rotate_left 1
    ·refine dU U U U fun T268 X1=>rS (EX U)<|RD X1 9 U<|N1 14<|dU U U U fun T269 X2=>rS (EX U)<|RD X2 9 U<|N1 17<|dU U U U fun T270 X3=>eN U jC U<|RD X3 9 U ?_
     exact gY hJ (N,W,O,X,AA,P,Y,R,Z,S,a,T,b,c,T6) ⟨A,⟨D,E⟩,B⟩ [0,1,2,3,4,5,6,7,8,9,10,11,12,13,14,15,16,17,18,19,20,21,22,23,24,25] U U U
    refine dU U U U fun T263 Xw=>rS (EX U)<|RD Xw 9 U<|fu [15,17] kr (cK ?_<|cK ?_<|gU)
    rotate_left 1
    ·refine dU U U U fun T266 Xz=>eN U jC U<|RD Xz 9 U<|N1 15<|dU U U U fun T267 X0=>rS (EX U)<|RD X0 9 U ?_
     exact gY hJ (N,W,O,X,AA,P,Y,R,Z,S,a,T,b,c,T6) ⟨A,⟨D,E⟩,B⟩ [0,1,2,3,4,5,6,7,8,9,10,11,12,13,14,15,16,17,18,19,20,21,22,23,24,25] U U U
    refine dU U U U fun T264 Xx=>rS (EX U)<|RD Xx 9 U<|N1 17<|dU U U U fun T265 Xy=>eN U jC U<|RD Xy 9 U ?_
    exact gY hJ (N,W,O,X,AA,P,Y,R,Z,S,a,T,b,c,T6) ⟨A,⟨D,E⟩,B⟩ [0,1,2,3,4,5,6,7,8,9,10,11,12,13,14,15,16,17,18,19,20,21,22,23,24,25] U U U
   refine dU U U U fun T241 Xf=>rS (EX U)<|RD Xf 8 U<|fu [15,16] kr (cK ?_<|cK ?_<|gU)
   ·refine dU U U U fun T242 Xg=>rS (EX U)<|RD Xg 8 U<|N1 16<|dU U U U fun T243 Xh=>AL U pd fun Yb=>RD Xh 9 U<|N1 17<|dU U U U fun T245 Xi=>eN U jC U<|RD Xi 9 U ?_
    exact gY hJ (N,W,O,X,AA,P,Y,R,Z,S,a,T,b,c,Yb) ⟨A,⟨D,E⟩,B⟩ [0,1,2,3,4,5,6,7,8,9,10,11,12,13,14,15,16,17,18,19,20,21,22,23,24,25] U U U
   refine dU U U U fun T246 Xj=>AL U pd fun WD=>RD Xj 9 U<|fu [15,17] kr (cK ?_<|cK ?_<|gU)
   rotate_left 1
   ·refine dU U U U fun T250 Xm=>eN U jC U<|RD Xm 9 U<|N1 15<|dU U U U fun T251 Xn=>rS (EX U)<|RD Xn 9 U ?_
    exact gY hJ (N,W,O,X,AA,P,Y,R,Z,S,a,T,b,c,WD) ⟨A,⟨D,E⟩,B⟩ [0,1,2,3,4,5,6,7,8,9,10,11,12,13,14,15,16,17,18,19,20,21,22,23,24,25] U U U
   refine dU U U U fun T248 Xk=>rS (EX U)<|RD Xk 9 U<|N1 17<|dU U U U fun T249 Xl=>eN U jC U<|RD Xl 9 U ?_
   exact gY hJ (N,W,O,X,AA,P,Y,R,Z,S,a,T,b,c,WD) ⟨A,⟨D,E⟩,B⟩ [0,1,2,3,4,5,6,7,8,9,10,11,12,13,14,15,16,17,18,19,20,21,22,23,24,25] U U U
  rintro ⟨B3,C0,B9,C1,AC,Ci,C2,Ck,C3,Cp,Df,Cx,Di,A9,J9⟩ ⟨A,⟨D,E⟩,B⟩
  try dsimp only
  refine Rv U fun T310 YO=>rS (AG U)<|RD YO 9 U<|kH<|KK Wz<|aq fun _ W0=>aq fun _ W1=>?_
  try dsimp only at A D E B
  rw [FV C f] at B ⊢
  have V4:=A7.Jm D E B
  refine aw<|bI 1 U<|rS (SX (fO (r:= .bool false) U U U rE) U U)<|eV 3 [] (mc 0 U mn) U<|rS (LP (cW.cells (vx j.Race kA kC cA cC bA bC slA slC drA drC heA heC)) 13 U bU U U U)<|rS (CL (yg j.Race B3 C0 AC B9 C1 Ci C2 Ck C3 Cp Df A9 Cx Di j.Race kA kC az cA cC bA bC slA slC drA drC ha heA heC (by exact V4) (by exact A7) (by exact To) (by exact To)) (aD (aB (n:=j.Race.ao.aO.length) 1 U sm)<|aD (aB (n:=j.Race.ao.aj.length) 2 U (iO D))<|aD (dR 3 U jJ)<|aD (aB (n:=j.Race.ao.ab.length) 4 U sm)<|aD (aB (n:=j.Race.aV.length) 5 U sm)<|aD (aB (n:=j.Race.bV.length) 6 U sm)<|aD (aB (n:=j.Race.av.length) 7 U (gr B.1))<|aD (jO 8 U B)<|dM 15 U U<|dM 16 U U<|dM 17 U U<|dM 18 U U<|dM 19 U U<|dM 20 U U<|dM 21 U U<|dM 22 U U<|aL) U)<|rP 2 [] mn ?_
  refine RK W1<|ck U (aW fun LE=>?_) (aY fun LE=>?_)
  ·exact absurd U LE
  refine WK W0<|aq fun _ Z3=>WS fun _ W2=>rP 2 [] mn ?_
  refine RK W2<|bR U (aY fun WE=>?_) (aW fun WE=>?_)
  ·exact absurd WE ZA
  refine WS fun _ W3=>rP 6 [] mn ?_
  refine RK W3<|ar<|Q1 hQ U U U ?_
  exact cB (cO R7)
 ·try dsimp only
  refine aw<|rP 1 [] (mc 1 U mn) ?_
  refine cX (sf j kA kC az cA cC bA bC slA slC drA drC ha heA heC faA faC prA prC asm) (bk [2,3,4,5,6,7,8,9,10,11,12]) U fun ZO YX=>?_
  obtain ⟨UN,an,a2⟩:=ZO
  try dsimp only
  have FO:=YX
  try dsimp only at FO
  refine bI 5 U<|RK VO<|WS fun _ W4=>rP 4 [0,1] (mc 3 U (mc 2 U mn)) ?_
  refine cX (p8 j kA kC az cA cC bA bC slA slC drA drC ha heA heC faA faC prA prC h i d sgA sgC asm asm) (bk [4,5,6,7,8,9,10,11,12,13,14,15]) U fun ZP V9=>?_
  obtain ⟨YZ,Z0,ZV,Zn,ZY,Zq,Zl,Za,Zs,Zc,Zu,Ze,Zw,Zg,Zy,af⟩:=ZP
  cases YZ
  rotate_left 1
  ·obtain ⟨A,⟨D,E⟩,B⟩:=V9.1 rfl
   try dsimp only [cond_true,cond_false,List.cons_append,List.nil_append]
   exact absurd (A.symm.trans R7) dc
  obtain ⟨Li,he⟩:=V9.2 rfl
  try dsimp only at Li he
  subst Li
  try dsimp only [cond_true,cond_false,List.cons_append,List.nil_append]
  refine bI 3 U<|AL U pd fun a1=>eN U jC U<|rP 1 [] mn ?_
  refine RK W4<|aq fun _ W5=>aq fun _ W6=>?_
  have ZA:=he
  refine aw<|rP 3 [] mn ?_
  refine bT (t:=71) U (aW fun LT=>?_) (aY fun LT=>?_)
  ·exact absurd L.2 LT
  refine rP 8 [] (mc 4 U mn) ?_
  refine RK W6<|ck U (aW fun Uu=>?_) (aY fun Uu=>?_)
  ·exact absurd (rZ L.2) I
  refine WK W5<|aq fun _ Z4=>WS fun _ W7=>rP 2 [] mn ?_
  have WT:=rZ L.2
  obtain ⟨J,H⟩:=aC (dD j) ((h).toNat) I
  obtain ⟨row2a,hrow2a⟩:=aC UN ((h).toNat) I
  have hrow2m:(List.zipWith tM (dD j) UN)[(h).toNat]? =some (tM J row2a):=cv H hrow2a
  refine rS (IA ((h).toNat) U (aB (n:=(dD j).length) 1 U (lJ FO)) CC dc I I)<|rS (gD ((h).toNat) 0 (vS row2a.1 J.length row2a.2) U bU (aB (n:=(dD j).length) 1 U (lJ FO)) hrow2m U dc U) ?_
  obtain rfl:J=row:=Option.some.inj (H.symm.trans S2)
  refine bI 1 U<|rS (CL (D3 J row2a.1 row2a.2 i (by exact ur L.2 _ (aM H))) (aD (show fY _ (rd row2a.1 J.length 1 (J.map iC)).holds from (fun w hw=>(dR 2 U zr) w hw _ (a_ H hrow2a (by simp [L4]))))<|aL) U)<|rP 1 [] mn ?_
  refine RK W7<|bR U (aY fun La=>?_) (aW fun La=>?_)
  ·exact absurd La hm
  refine WS fun _ W8=>rP 6 [] mn ?_
  refine RK W8<|ar<|Q1 hQ U U U ?_
  exact cB (cO R7)
 try dsimp only
 refine aw<|rP 1 [] (mc 1 U mn) ?_
 refine cX (sf j kA kC az cA cC bA bC slA slC drA drC ha heA heC faA faC prA prC asm) (bk [2,3,4,5,6,7,8,9,10,11,12]) U fun ah ZG=>?_
 obtain ⟨Sz,ZW,Zo⟩:=ah
 try dsimp only
 have FO:=ZG
 try dsimp only at FO
 refine bI 5 U<|RK VO<|WS fun _ Yj=>rP 4 [0,1] (mc 3 U (mc 2 U mn)) ?_
 refine cX (p8 j kA kC az cA cC bA bC slA slC drA drC ha heA heC faA faC prA prC h i d sgA sgC asm asm) (bk [4,5,6,7,8,9,10,11,12,13,14,15]) U fun al WW=>?_
 obtain ⟨ZI,a3,J3,K0,J4,K4,Kq,J5,K5,J6,K8,J7,LA,J8,ST,g⟩:=al
 cases ZI
 ·obtain ⟨Li,he⟩:=WW.2 rfl
  try dsimp only at Li he
  subst Li
  try dsimp only [cond_true,cond_false,List.cons_append,List.nil_append]
  exact absurd R7 he
 obtain ⟨A,⟨D,E⟩,B⟩:=WW.1 rfl
 try dsimp only [cond_true,cond_false,List.cons_append,List.nil_append]
 refine bI 3 U<|AL U pd fun Ye=>eN U jC U<|rP 1 [] mn ?_
 refine RK Yj<|aq fun _ Yk=>aq fun _ Ym=>?_
 try dsimp only at A D E B
 have Vm:=D
 have a4:=E
 have V3:=B
 have A6:iL (jS j.Race h i d) _ _:=A7.put D E B WA
 have Lo:=(eg hx).2
 have ZF:(g9 j.Race.av h i d).length=j.Race.av.length:=o2
 have a6:=V3.1
 refine H_ 7 U (Ic (gr V3.1)) U<|H_ 8 U (Hb V3) U<|aw<|rP 3 [] mn ?_
 refine bT (t:=71) U (aW fun LT=>?_) (aY fun LT=>?_)
 ·exact absurd L.2 LT
 refine rP 8 [] (mc 12 U mn) ?_
 refine RK Ym<|ck U (aW fun Uu=>?_) (aY fun Uu=>?_)
 ·exact absurd (rZ L.2) I
 refine WK Yk<|aq fun _ Yn=>WS fun _ Yo=>rP 2 [] mn ?_
 have WT:=rZ L.2
 obtain ⟨J,H⟩:=aC (dD j) ((h).toNat) I
 obtain ⟨row2a,hrow2a⟩:=aC Sz ((h).toNat) I
 have hrow2m:(List.zipWith tM (dD j) Sz)[(h).toNat]? =some (tM J row2a):=cv H hrow2a
 refine rS (IA ((h).toNat) U (aB (n:=(dD j).length) 9 U (lJ FO)) CC dc I I)<|rS (gD ((h).toNat) 0 (vS row2a.1 J.length row2a.2) U bU (aB (n:=(dD j).length) 9 U (lJ FO)) hrow2m U dc U) ?_
 obtain rfl:J=row:=Option.some.inj (H.symm.trans S2)
 refine bI 1 U<|rS (CL (D3 J row2a.1 row2a.2 i (by exact ur L.2 _ (aM H))) (aD (show fY _ (rd row2a.1 J.length 1 (J.map iC)).holds from (fun w hw=>(dR 10 U zr) w hw _ (a_ H hrow2a (by simp [L4]))))<|aL) U)<|rP 1 [] mn ?_
 refine RK Yo<|ck U (aW fun La=>?_) (aY fun La=>?_)
 ·exact absurd hm La
 refine WK Yn<|aq fun _ Yp=>Bq cg [12,13,14,15,16,17,18] [0,1,2,3,4,5,6,7,8,9,10,11,12,13,14,15,16,17,18,19,20,21,22,23,24] U U U<|eS U (LW 12 U bU U U)<|eS U (MV U)<|eS U (MV U)<|eS U (FA 0 U eU U)<|eS U (FA 10 U eU U)<|eS U (L1 (vS heA j.Race.av.length heC) 12 U bU U U)<|eS U (MV U) ?_
 obtain ⟨K,C⟩:=aC j.Race.av ((h).toNat) I
 obtain ⟨ht1a,hht1a⟩:=aC ha ((h).toNat) I
 have hht1m:(List.zipWith bW j.Race.av ha)[(h).toNat]? =some (bW K ht1a):=cv C hht1a
 refine eS U (IA ((h).toNat) U (ay 20 U) j7 dc I I)<|eS U (gD ((h).toNat) 0 (vS ht1a.1.1 K.length ht1a.1.2) U bU (ay 20 U) hht1m U dc U)<|eS U (MV U) ?_
 have WU:=(A7.eo _ _ _ C hht1a).lz
 have WV:=(T0.eo _ (aM C)).1
 have Lk:=(A7.eo _ _ _ C hht1a).sig
 obtain ⟨M,f⟩:=aC K ((i).toNat) I
 obtain ⟨d1a,hd1a⟩:=aC ht1a.2 ((i).toNat) I
 have hd1m:(List.zipWith ak.cells K ht1a.2)[(i).toNat]? =some (ak.cells M d1a):=cv f hd1a
 refine eS U (IA ((i).toNat) U (show fY _ (rd ht1a.1.1 K.length 7 (List.zipWith ak.cells K ht1a.2)).holds from (bY 21 U (a_ C hht1a bX))) mJ dc I I)<|eS U (jE ((i).toNat) 0 (aG.cells (aG.mk M.Out M.cJ M.Time (cL.mk M.aX.Start M.aX.gj (bE.mk d1a.1 M.aX.aa.length d1a.2)))) U bU (show fY _ (rd ht1a.1.1 K.length 7 (List.zipWith ak.cells K ht1a.2)).holds from (bY 21 U (a_ C hht1a bX))) hd1m U dc U U)<|ek U ?_
 refine IT (V:=OA×Nat×OA×Nat×List RA×OA×Nat×OA×Nat×OA×Nat×OA×Nat×List cD×Nat) (fun (Fn,IO,GE,IR,Do,GT,Ia,Go,Id,Hi,If,H1,In,Fd,T9)=>((lu j h i M)=0∧(Do.length=j.Race.ao.aj.length∧qC j.Race.ao.aj Do)∧sQ (g9 j.Race.av h i M) Fd)) (fun (Fn,IO,GE,IR,Do,GT,Ia,Go,Id,Hi,If,H1,In,Fd,T9)=>[(4,(vP b2)),(7,(vP b3)),(9,(vB true)),(10,(vI h)),(11,(vI i)),(14,(vP Ye)),(15,(vI 0)),(16,(vP T9)),(107,(vI 0))]) (fun (Fn,IO,GE,IR,Do,GT,Ia,Go,Id,Hi,If,H1,In,Fd,T9)=>[(cz T9 32 (cW.cells (cW.mk (cm.mk (bL.mk (bE.mk Fn j.Race.ao.aO.length IO)) j.Race.ao.hU (bE.mk GE j.Race.ao.aj.length IR) (bE.mk GT j.Race.ao.ab.length Ia) j.Race.ao.cd j.Race.ao.fK j.Race.ao.dC) (bE.mk Go j.Race.aV.length Id) (bE.mk Hi j.Race.bV.length If) j.Race.j9 (bE.mk H1 ((g9 j.Race.av h i M).length) In)))),(own Fn IO 128 9 (j.Race.ao.aO.map au.cells)),(own GE IR 133 2 (List.zipWith ax.cells j.Race.ao.aj Do)),(bM (bg ax.owns j.Race.ao.aj Do)),(own GT Ia 137 4 (j.Race.ao.ab.map bK.cells)),(own Go Id 3 1 (j.Race.aV.map iC)),(own Hi If 3 1 (j.Race.bV.map iC)),(own H1 In 75 1 (List.zipWith bW (g9 j.Race.av h i M) Fd)),(bM (bg jN (g9 j.Race.av h i M) Fd)),(cz Ye 32 (cW.cells (cW.mk (cm.mk (bL.mk (bE.mk J3 j.Race.ao.aO.length K0)) j.Race.ao.hU (bE.mk J4 j.Race.ao.aj.length K4) (bE.mk J5 j.Race.ao.ab.length K5) j.Race.ao.cd j.Race.ao.fK j.Race.ao.dC) (bE.mk J6 j.Race.aV.length K8) (bE.mk J7 j.Race.bV.length LA) j.Race.j9 (bE.mk J8 ((g9 j.Race.av h i d).length) ST)))),(own J3 K0 128 9 (j.Race.ao.aO.map au.cells)),(own J4 K4 133 2 (List.zipWith ax.cells j.Race.ao.aj Kq)),(bM (bg ax.owns j.Race.ao.aj Kq)),(own J5 K5 137 4 (j.Race.ao.ab.map bK.cells)),(own J6 K8 3 1 (j.Race.aV.map iC)),(own J7 LA 3 1 (j.Race.bV.map iC)),(rd J8 ((g9 j.Race.av h i d).length) 1 (List.zipWith bW (g9 j.Race.av h i d) g)),(dE (bg er (g9 j.Race.av h i d) g)),(own ZW Zo 29 1 (List.zipWith tM (dD j) Sz)),(bM (bg Fp (dD j) Sz)),(cz b3 43 (aG.cells (aG.mk d.Out d.cJ d.Time (iM d.aX sgA sgC)))),(cz b2 36 (gh.cells (nq j kA kC cA cC bA bC slA slC drA drC heA heC faA faC prA prC))),(rd gd 3 2 fj).ro,(rd kA j.Race.ao.aO.length 9 (j.Race.ao.aO.map au.cells)).ro,(rd cA j.Race.ao.aj.length 2 (List.zipWith ax.cells j.Race.ao.aj az)).ro,(dE (bg ax.e_ j.Race.ao.aj az)).ro,(rd bA j.Race.ao.ab.length 4 (j.Race.ao.ab.map bK.cells)).ro,(rd slA j.Race.aV.length 1 (j.Race.aV.map iC)).ro,(rd drA j.Race.bV.length 1 (j.Race.bV.map iC)).ro,(rd heA j.Race.av.length 1 (List.zipWith bW j.Race.av ha)).ro,(dE (bg er j.Race.av ha)).ro,(rd faA j.aS.length 4 (j.aS.map aZ.cells)).ro,(rd prA j.aJ.length 5 (j.aJ.map br.cells)).ro,(rd sgA d.aX.aa.length 2 (d.aX.aa.map aF.cells)).ro]) 1 [18] (fun hJ=>?_) ?_
 ·refine fu [12,16] kr (cK ?_<|cK ?_<|gU)
  rotate_left 1
  ·refine dU U U U fun T117 XQ=>AL U pd fun T5=>RD XQ 1 U<|N1 12<|dU U U U fun T119 XR=>cX (nk j kA kC az cA cC bA bC slA slC drA drC ha heA heC faA faC prA prC h i M d1a.1 d1a.2 asm (by exact Lk _ (aM f)) (by exact rT L.2 R6 H hm C f)) (ld [14,15,16,17,18,19,20,21,22,23,24]<|aD (show fY _ (rd d1a.1 M.aX.aa.length 2 (M.aX.aa.map aF.cells)).holds from (bY 22 U (a_ C hht1a (dh _ (a_ f hd1a (by simp [ak.e_]))))))<|aL) U fun ZJ YT=>?_
   obtain ⟨L0,PT,L3,Pl,PP,Md,Qa,NE,Qx,Op,R0,Os,R2,R8⟩:=ZJ
   try dsimp only
   obtain ⟨A,⟨D,E⟩,B⟩:=YT
   refine RD XR 9 U<|N1 13<|dU U U U fun T136 XS=>rS (MV U)<|RD XS 9 U<|fu [14,15] kr (cK ?_<|cK ?_<|gU)
   rotate_left 1
   ·refine dU U U U fun T142 XZ=>rS (EX U)<|RD XZ 9 U<|N1 14<|dU U U U fun T143 Xa=>rS (EX U)<|RD Xa 9 U<|N1 17<|dU U U U fun T144 Xb=>Q4 U jC U<|RD Xb 9 U ?_
    exact gY hJ (L0,PT,L3,Pl,PP,Md,Qa,NE,Qx,Op,R0,Os,R2,R8,T5) ⟨A,⟨D,E⟩,B⟩ [8,0,1,2,3,4,5,6,7,9,10,11,12,13,14,15,16,17,18,19,20,21,22,23,24,25,26,27,28,29,30,31,32,33] U U U
   refine dU U U U fun T137 XU=>rS (EX U)<|RD XU 9 U<|fu [15,17] kr (cK ?_<|cK ?_<|gU)
   rotate_left 1
   ·refine dU U U U fun T140 XX=>Q4 U jC U<|RD XX 9 U<|N1 15<|dU U U U fun T141 XY=>rS (EX U)<|RD XY 9 U ?_
    exact gY hJ (L0,PT,L3,Pl,PP,Md,Qa,NE,Qx,Op,R0,Os,R2,R8,T5) ⟨A,⟨D,E⟩,B⟩ [8,0,1,2,3,4,5,6,7,9,10,11,12,13,14,15,16,17,18,19,20,21,22,23,24,25,26,27,28,29,30,31,32,33] U U U
   refine dU U U U fun T138 XV=>rS (EX U)<|RD XV 9 U<|N1 17<|dU U U U fun T139 XW=>Q4 U jC U<|RD XW 9 U ?_
   exact gY hJ (L0,PT,L3,Pl,PP,Md,Qa,NE,Qx,Op,R0,Os,R2,R8,T5) ⟨A,⟨D,E⟩,B⟩ [8,0,1,2,3,4,5,6,7,9,10,11,12,13,14,15,16,17,18,19,20,21,22,23,24,25,26,27,28,29,30,31,32,33] U U U
  refine dU U U U fun T58 Yq=>cX (nk j kA kC az cA cC bA bC slA slC drA drC ha heA heC faA faC prA prC h i M d1a.1 d1a.2 asm (by exact Lk _ (aM f)) (by exact rT L.2 R6 H hm C f)) (ld [13,14,15,16,17,18,19,20,21,22,23]<|aD (show fY _ (rd d1a.1 M.aX.aa.length 2 (M.aX.aa.map aF.cells)).holds from (bY 21 U (a_ C hht1a (dh _ (a_ f hd1a (by simp [ak.e_]))))))<|aL) U fun am ZH=>?_
  obtain ⟨l,Ab,o,A0,AO,p,A1,s,A2,u,A3,v,A4,A8⟩:=am
  try dsimp only
  obtain ⟨A,⟨D,E⟩,B⟩:=ZH
  refine RD Yq 8 U<|fu [13,16] kr (cK ?_<|cK ?_<|gU)
  rotate_left 1
  ·refine dU U U U fun T106 XG=>AL U pd fun T4=>RD XG 9 U<|N1 13<|dU U U U fun T108 XH=>rS (MV U)<|RD XH 9 U<|fu [14,15] kr (cK ?_<|cK ?_<|gU)
   rotate_left 1
   ·refine dU U U U fun T114 XN=>rS (EX U)<|RD XN 9 U<|N1 14<|dU U U U fun T115 XO=>rS (EX U)<|RD XO 9 U<|N1 17<|dU U U U fun T116 XP=>eN U jC U<|RD XP 9 U ?_
    exact gY hJ (l,Ab,o,A0,AO,p,A1,s,A2,u,A3,v,A4,A8,T4) ⟨A,⟨D,E⟩,B⟩ [0,1,2,3,4,5,6,7,8,9,10,11,12,13,14,15,16,17,18,19,20,21,22,23,24,25,26,27,28,29,30,31,32,33] U U U
   refine dU U U U fun T109 XI=>rS (EX U)<|RD XI 9 U<|fu [15,17] kr (cK ?_<|cK ?_<|gU)
   rotate_left 1
   ·refine dU U U U fun T112 XL=>eN U jC U<|RD XL 9 U<|N1 15<|dU U U U fun T113 XM=>rS (EX U)<|RD XM 9 U ?_
    exact gY hJ (l,Ab,o,A0,AO,p,A1,s,A2,u,A3,v,A4,A8,T4) ⟨A,⟨D,E⟩,B⟩ [0,1,2,3,4,5,6,7,8,9,10,11,12,13,14,15,16,17,18,19,20,21,22,23,24,25,26,27,28,29,30,31,32,33] U U U
   refine dU U U U fun T110 XJ=>rS (EX U)<|RD XJ 9 U<|N1 17<|dU U U U fun T111 XK=>eN U jC U<|RD XK 9 U ?_
   exact gY hJ (l,Ab,o,A0,AO,p,A1,s,A2,u,A3,v,A4,A8,T4) ⟨A,⟨D,E⟩,B⟩ [0,1,2,3,4,5,6,7,8,9,10,11,12,13,14,15,16,17,18,19,20,21,22,23,24,25,26,27,28,29,30,31,32,33] U U U
  refine dU U U U fun T75 Yr=>rS (MV U)<|RD Yr 8 U<|fu [14,15,16] kr (cK ?_<|cK ?_<|cK ?_<|gU)
  ·refine dU U U U fun T76 Ys=>rS (EX U)<|RD Ys 8 U<|fu [15,16] kr (cK ?_<|cK ?_<|gU)
   ·refine dU U U U fun T77 Yt=>rS (EX U)<|RD Yt 8 U<|N1 16<|dU U U U fun T78 Yu=>AL U pd fun Zh=>RD Yu 9 U<|N1 17<|dU U U U fun T80 Yv=>eN U jC U<|RD Yv 9 U ?_
    exact gY hJ (l,Ab,o,A0,AO,p,A1,s,A2,u,A3,v,A4,A8,Zh) ⟨A,⟨D,E⟩,B⟩ [0,1,2,3,4,5,6,7,8,9,10,11,12,13,14,15,16,17,18,19,20,21,22,23,24,25,26,27,28,29,30,31,32,33] U U U
   refine dU U U U fun T81 Yw=>AL U pd fun Yf=>RD Yw 9 U<|fu [15,17] kr (cK ?_<|cK ?_<|gU)
   rotate_left 1
   ·refine dU U U U fun T85 Yz=>eN U jC U<|RD Yz 9 U<|N1 15<|dU U U U fun T86 Y0=>rS (EX U)<|RD Y0 9 U ?_
    exact gY hJ (l,Ab,o,A0,AO,p,A1,s,A2,u,A3,v,A4,A8,Yf) ⟨A,⟨D,E⟩,B⟩ [0,1,2,3,4,5,6,7,8,9,10,11,12,13,14,15,16,17,18,19,20,21,22,23,24,25,26,27,28,29,30,31,32,33] U U U
   refine dU U U U fun T83 Yx=>rS (EX U)<|RD Yx 9 U<|N1 17<|dU U U U fun T84 Yy=>eN U jC U<|RD Yy 9 U ?_
   exact gY hJ (l,Ab,o,A0,AO,p,A1,s,A2,u,A3,v,A4,A8,Yf) ⟨A,⟨D,E⟩,B⟩ [0,1,2,3,4,5,6,7,8,9,10,11,12,13,14,15,16,17,18,19,20,21,22,23,24,25,26,27,28,29,30,31,32,33] U U U
  ·refine dU U U U fun T87 Y1=>rS (EX U)<|RD Y1 8 U<|fu [14,16] kr (cK ?_<|cK ?_<|gU)
   rotate_left 1
   ·refine dU U U U fun T92 Y5=>AL U pd fun Zj=>RD Y5 9 U<|N1 14<|dU U U U fun T94 Y6=>rS (EX U)<|RD Y6 9 U<|N1 17<|dU U U U fun T95 Y7=>eN U jC U<|RD Y7 9 U ?_
    exact gY hJ (l,Ab,o,A0,AO,p,A1,s,A2,u,A3,v,A4,A8,Zj) ⟨A,⟨D,E⟩,B⟩ [0,1,2,3,4,5,6,7,8,9,10,11,12,13,14,15,16,17,18,19,20,21,22,23,24,25,26,27,28,29,30,31,32,33] U U U
   refine dU U U U fun T88 Y2=>rS (EX U)<|RD Y2 8 U<|N1 16<|dU U U U fun T89 Y3=>AL U pd fun Zi=>RD Y3 9 U<|N1 17<|dU U U U fun T91 Y4=>eN U jC U<|RD Y4 9 U ?_
   exact gY hJ (l,Ab,o,A0,AO,p,A1,s,A2,u,A3,v,A4,A8,Zi) ⟨A,⟨D,E⟩,B⟩ [0,1,2,3,4,5,6,7,8,9,10,11,12,13,14,15,16,17,18,19,20,21,22,23,24,25,26,27,28,29,30,31,32,33] U U U
  refine dU U U U fun T96 Y8=>AL U pd fun WX=>RD Y8 9 U<|fu [14,15] kr (cK ?_<|cK ?_<|gU)
  rotate_left 1
  ·refine dU U U U fun T103 XC=>rS (EX U)<|RD XC 9 U<|N1 14<|dU U U U fun T104 XD=>rS (EX U)<|RD XD 9 U<|N1 17<|dU U U U fun T105 XE=>eN U jC U<|RD XE 9 U ?_
   exact gY hJ (l,Ab,o,A0,AO,p,A1,s,A2,u,A3,v,A4,A8,WX) ⟨A,⟨D,E⟩,B⟩ [0,1,2,3,4,5,6,7,8,9,10,11,12,13,14,15,16,17,18,19,20,21,22,23,24,25,26,27,28,29,30,31,32,33] U U U
  refine dU U U U fun T98 Y9=>rS (EX U)<|RD Y9 9 U<|fu [15,17] kr (cK ?_<|cK ?_<|gU)
  ·refine dU U U U fun T99 Y_=>rS (EX U)<|RD Y_ 9 U<|N1 17<|dU U U U fun T100 W_=>eN U jC U<|RD W_ 9 U ?_
   exact gY hJ (l,Ab,o,A0,AO,p,A1,s,A2,u,A3,v,A4,A8,WX) ⟨A,⟨D,E⟩,B⟩ [0,1,2,3,4,5,6,7,8,9,10,11,12,13,14,15,16,17,18,19,20,21,22,23,24,25,26,27,28,29,30,31,32,33] U U U
  refine dU U U U fun T101 XA=>eN U jC U<|RD XA 9 U<|N1 15<|dU U U U fun T102 XB=>rS (EX U)<|RD XB 9 U ?_
  exact gY hJ (l,Ab,o,A0,AO,p,A1,s,A2,u,A3,v,A4,A8,WX) ⟨A,⟨D,E⟩,B⟩ [0,1,2,3,4,5,6,7,8,9,10,11,12,13,14,15,16,17,18,19,20,21,22,23,24,25,26,27,28,29,30,31,32,33] U U U
 rintro ⟨Fn,IO,GE,IR,Do,GT,Ia,Go,Id,Hi,If,H1,In,Fd,T9⟩ ⟨A,⟨D,E⟩,B⟩
 try dsimp only
 refine Rv U fun T145 Xc=>rS (AG U)<|RD Xc 9 U<|kH<|KK Yp<|aq fun _ WZ=>aq fun _ Wa=>?_
 try dsimp only at A D E B
 rw [FV C f] at B ⊢
 have V4:=A7.Jm D E B
 refine aw<|bI 1 U<|rS (SX (fO (r:= .bool false) U U U rE) U U)<|eV 3 [] (mc 0 U mn) U<|rS (LP (cW.cells (vx j.Race kA kC cA cC bA bC slA slC drA drC heA heC)) 21 U bU U U U)<|rS (CL (yg j.Race Fn IO Do GE IR GT Ia Go Id Hi If Fd H1 In j.Race kA kC az cA cC bA bC slA slC drA drC ha heA heC (by exact V4) (by exact A7) (by exact To) (by exact To)) (aD (aB (n:=j.Race.ao.aO.length) 1 U sm)<|aD (aB (n:=j.Race.ao.aj.length) 2 U (iO D))<|aD (dR 3 U jJ)<|aD (aB (n:=j.Race.ao.ab.length) 4 U sm)<|aD (aB (n:=j.Race.aV.length) 5 U sm)<|aD (aB (n:=j.Race.bV.length) 6 U sm)<|aD (aB (n:=j.Race.av.length) 7 U (gr B.1))<|aD (jO 8 U B)<|dM 23 U U<|dM 24 U U<|dM 25 U U<|dM 26 U U<|dM 27 U U<|dM 28 U U<|dM 29 U U<|dM 30 U U<|aL) U)<|rP 2 [] mn ?_
 refine RK Wa<|ck U (aW fun LE=>?_) (aY fun LE=>?_)
 ·exact absurd U LE
 refine WK WZ<|aq fun _ Wb=>WS fun _ Wc=>bI 1 U<|rS (SX (fO (r:= .bool false) U U U rE) U U)<|RK Wc<|cp U<|WK Wb<|aq fun _ Wd=>WS fun _ We=>rP 1 [] (mc 9 U mn) ?_
 refine rS (CL (yF (jS j.Race h i d) J3 K0 Kq J4 K4 J5 K5 J6 K8 J7 LA g J8 ST (by exact A6)) (dM 22 U U<|aD (aB (n:=j.Race.ao.aO.length) 10 U (by (rw [List.length_map]; rfl)))<|aD (aB (n:=j.Race.ao.aj.length) 11 U (iO Vm))<|aD (dR 12 U jJ)<|aD (aB (n:=j.Race.ao.ab.length) 13 U (by (rw [List.length_map]; rfl)))<|aD (aB (n:=j.Race.aV.length) 14 U (by (rw [List.length_map]; rfl)))<|aD (aB (n:=j.Race.bV.length) 15 U (by (rw [List.length_map]; rfl)))<|dM 16 U U<|dM 17 U U<|aL) U) ?_
 refine rP 2 [] mn ?_
 refine bT (t:=127) U (aW fun WF=>?_) (aY fun WF=>?_)
 ·exact absurd hx WF
 refine rP 9 [0,1] (mc 9 U (mc 21 U mn)) ?_
 refine RK We<|ck U (aW fun WG=>?_) (aY fun WG=>?_)
 ·exact absurd (congrArg (fun q:Nat=>(q:Int)) ZF) WG
 refine WK Wd<|aq fun _ Wf=>aq fun _ Wg=>Pj [9,10,11,12,13,14,15,16,17,20,21,22,23,24,25,26,27,28,29,30,31,32,33] U<|aw<|rP 4 [] (mc 0 U mn) ?_
 refine RK Wg<|aH ?_
 have FS:(0≤(g9 j.Race.av h i d).length):=by exact Nat.zero_le _
 refine bS (ι:={z:Nat // (z≤(g9 j.Race.av h i d).length)}) [4,7,9,10,11,14,138,139] [0,1,2,3,4,5,6,7,8,9,10,11,12,13,14,15,16,17,18,19,20,21,22] U U (fun z=>[(140,(vI (z.1:Int)))]) (fun z=>[]) (fun _=>rfl) (fun _=>rfl) (fun z=>(g9 j.Race.av h i d).length-z.1) ⟨0,FS⟩ (bD U) (aR [0,1,2,3,4,5,6,7,8,9,10,11,12,13,14,15,16,17,18,19,20,21,22]) ?_
 clear FS
 rintro ⟨x,ZS⟩ J154 WY
 try dsimp only
 refine WS fun _ Wh=>rP 1 [] mn ?_
 refine RK Wh<|aq fun _ Wi=>bR U (aU fun Yh=>?_) (aT fun Yh=>?_)
 ·refine bQ<|ag<|ag<|aI<|KK Wf<|WS fun _ Ws=>rP 3 [] (mc 0 U mn) ?_
  refine rS (CL (EG h i (jS j.Race h i d) J3 K0 Kq J4 K4 J5 K5 J6 K8 J7 LA g J8 ST (by exact A6)) (dM 11 U U<|aD (aB (n:=j.Race.ao.aO.length) 1 U (by (rw [List.length_map]; rfl)))<|aD (aB (n:=j.Race.ao.aj.length) 2 U (iO Vm))<|aD (dR 3 U jJ)<|aD (aB (n:=j.Race.ao.ab.length) 4 U (by (rw [List.length_map]; rfl)))<|aD (aB (n:=j.Race.aV.length) 5 U (by (rw [List.length_map]; rfl)))<|aD (aB (n:=j.Race.bV.length) 6 U (by (rw [List.length_map]; rfl)))<|dM 7 U U<|dM 8 U U<|aL) U) ?_
  refine bI 3 U<|AL U dT fun a0=>eN U cT U<|rP 1 [] mn ?_
  refine RK Ws<|aq fun _ R4=>?_
  have WB:=Ax hx R6 (by rw [S1]; exact V_)
  refine cU cg 44 kr<|dP 5 [] (mc 10 U mn) ?_
  refine gN (t:=228) U (fun EQ=>?_) (fun EQ=>?_)
  ·refine dP 4 [] mn ?_
   refine hP (t:=232) U (aU fun WN=>?_) (aT fun WN=>?_)
   ·exact absurd (WB.1 EQ) WN
   refine dP 26 [] (mc 1 U mn) ?_
   obtain ⟨hu,AB⟩:=aC (g9 j.Race.av h i d) ((h).toNat) I
   obtain ⟨F,G⟩:=aC g ((h).toNat) I
   have Bh:(List.zipWith bW (g9 j.Race.av h i d) g)[(h).toNat]? =some (bW hu F):=cv AB G
   refine dS (IA ((h).toNat) U (ay 8 U) j7 dc I I)<|dS (gD ((h).toNat) 0 (vS F.1.1 hu.length F.1.2) U bU (ay 8 U) Bh U dc U) ?_
   have V5:=(A6.eo _ _ _ AB G).lz
   have V6:=rQ Lo AB
   refine dP 1 [] mn ?_
   obtain ⟨e,k⟩:=aC hu ((i).toNat) I
   obtain ⟨ea,A5⟩:=aC F.2 ((i).toNat) I
   have Eq:(List.zipWith ak.cells hu F.2)[(i).toNat]? =some (ak.cells e ea):=cv k A5
   refine dS (IA ((i).toNat) U (show fY _ (rd F.1.1 hu.length 7 (List.zipWith ak.cells hu F.2)).holds from (m6 9 U (a_ AB G bX))) mJ dc I I)<|dS (jE ((i).toNat) 0 (aG.cells (aG.mk e.Out e.cJ e.Time (cL.mk e.aX.Start e.aX.gj (bE.mk ea.1 e.aX.aa.length ea.2)))) U bU (show fY _ (rd F.1.1 hu.length 7 (List.zipWith ak.cells hu F.2)).holds from (m6 9 U (a_ AB G bX))) Eq U dc U U)<|kv 1 [] (mc 10 U mn) U<|dS (CL (n7 e ea.1 ea.2 d sgA sgC (by exact (A6.eo _ _ _ AB G).sig _ (aM k)) (by exact WA)) (aD (show fY _ (rd ea.1 e.aX.aa.length 2 (e.aX.aa.map aF.cells)).holds from (m6 9 U (a_ AB G (dh _ (a_ k A5 (by simp [ak.e_]))))))<|dM 23 U U<|aL) U)<|dP 2 [] mn ?_
   refine cx<|RK R4<|ar<|Q1 hQ U U U ?_
   exact cB (cO (Am AB k S1 V_))
  refine dP 7 [] (mc 10 U mn) ?_
  refine hP (t:=235) U (fun UV=>?_) (fun UV=>?_)
  ·refine kv 12 [] (mc 10 U mn) U<|dS (CL (KM d.Out d.cJ d.Time (iM d.aX sgA sgC)) (aL) U)<|dP 1 [] mn ?_
   refine hP (t:=249) U (aU fun WQ=>?_) (aT fun WQ=>?_)
   ·exact absurd ⟨EQ,UV⟩ WQ
   refine dP 6 [] mn ?_
   refine hP (t:=255) U (aU fun WR=>?_) (aT fun WR=>?_)
   ·exact absurd (WB.2 EQ).1 WR
   refine dP 3 [] (mc 1 U mn) ?_
   obtain ⟨hu,AB⟩:=aC (g9 j.Race.av h i d) ((h).toNat) I
   obtain ⟨F,G⟩:=aC g ((h).toNat) I
   have Bh:(List.zipWith bW (g9 j.Race.av h i d) g)[(h).toNat]? =some (bW hu F):=cv AB G
   refine dS (IA ((h).toNat) U (ay 8 U) j7 dc I I)<|dS (gD ((h).toNat) 0 (vS F.1.1 hu.length F.1.2) U bU (ay 8 U) Bh U dc U) ?_
   have V5:=(A6.eo _ _ _ AB G).lz
   have V6:=rQ Lo AB
   refine dP 1 [] mn ?_
   obtain ⟨e,k⟩:=aC hu ((i).toNat) I
   obtain ⟨ea,A5⟩:=aC F.2 ((i).toNat) I
   have Eq:(List.zipWith ak.cells hu F.2)[(i).toNat]? =some (ak.cells e ea):=cv k A5
   refine dS (IA ((i).toNat) U (show fY _ (rd F.1.1 hu.length 7 (List.zipWith ak.cells hu F.2)).holds from (m6 9 U (a_ AB G bX))) mJ dc I I)<|dS (jE ((i).toNat) 0 (aG.cells (aG.mk e.Out e.cJ e.Time (cL.mk e.aX.Start e.aX.gj (bE.mk ea.1 e.aX.aa.length ea.2)))) U bU (show fY _ (rd F.1.1 hu.length 7 (List.zipWith ak.cells hu F.2)).holds from (m6 9 U (a_ AB G bX))) Eq U dc U U)<|kv 1 [] (mc 10 U mn) U<|dS (CL (n7 e ea.1 ea.2 d sgA sgC (by exact (A6.eo _ _ _ AB G).sig _ (aM k)) (by exact WA)) (aD (show fY _ (rd ea.1 e.aX.aa.length 2 (e.aX.aa.map aF.cells)).holds from (m6 9 U (a_ AB G (dh _ (a_ k A5 (by simp [ak.e_]))))))<|dM 23 U U<|aL) U)<|dP 2 [] mn ?_
   refine cx<|RK R4<|ar<|Q1 hQ U U U ?_
   exact cB (cO (Am AB k S1 V_))
  refine dP 4 [] mn ?_
  refine hP (t:=239) U (aU fun WO=>?_) (aT fun WO=>?_)
  ·exact absurd (WB.2 EQ).1 WO
  refine kv 2 [] (mc 0 U mn) U<|dS (LP (ai.cells d.Time) 10 U bU U U U)<|dS (BI U (uS _ _ (jB (jS j.Race h i d) h i) d.Time))<|dP 3 [] mn ?_
  refine hP (t:=246) U (aU fun WP=>?_) (aT fun WP=>?_)
  ·exact absurd ((WB.2 EQ).2.trans (Ao ⟨EQ,UV⟩)) WP
  refine dP 12 [] (mc 1 U mn) ?_
  obtain ⟨hu,AB⟩:=aC (g9 j.Race.av h i d) ((h).toNat) I
  obtain ⟨F,G⟩:=aC g ((h).toNat) I
  have Bh:(List.zipWith bW (g9 j.Race.av h i d) g)[(h).toNat]? =some (bW hu F):=cv AB G
  refine dS (IA ((h).toNat) U (ay 8 U) j7 dc I I)<|dS (gD ((h).toNat) 0 (vS F.1.1 hu.length F.1.2) U bU (ay 8 U) Bh U dc U) ?_
  have V5:=(A6.eo _ _ _ AB G).lz
  have V6:=rQ Lo AB
  refine dP 1 [] mn ?_
  obtain ⟨e,k⟩:=aC hu ((i).toNat) I
  obtain ⟨ea,A5⟩:=aC F.2 ((i).toNat) I
  have Eq:(List.zipWith ak.cells hu F.2)[(i).toNat]? =some (ak.cells e ea):=cv k A5
  refine dS (IA ((i).toNat) U (show fY _ (rd F.1.1 hu.length 7 (List.zipWith ak.cells hu F.2)).holds from (m6 9 U (a_ AB G bX))) mJ dc I I)<|dS (jE ((i).toNat) 0 (aG.cells (aG.mk e.Out e.cJ e.Time (cL.mk e.aX.Start e.aX.gj (bE.mk ea.1 e.aX.aa.length ea.2)))) U bU (show fY _ (rd F.1.1 hu.length 7 (List.zipWith ak.cells hu F.2)).holds from (m6 9 U (a_ AB G bX))) Eq U dc U U)<|kv 1 [] (mc 10 U mn) U<|dS (CL (n7 e ea.1 ea.2 d sgA sgC (by exact (A6.eo _ _ _ AB G).sig _ (aM k)) (by exact WA)) (aD (show fY _ (rd ea.1 e.aX.aa.length 2 (e.aX.aa.map aF.cells)).holds from (m6 9 U (a_ AB G (dh _ (a_ k A5 (by simp [ak.e_]))))))<|dM 23 U U<|aL) U)<|dP 2 [] mn ?_
  refine cx<|RK R4<|ar<|Q1 hQ U U U ?_
  exact cB (cO (Am AB k S1 V_))
 refine WK Wi<|aq fun _ Wj=>aH<|WS fun _ Wk=>bI 2 U<|RK Wk<|aq fun _ Wl=>aq fun _ Wm=>cU cg 11 kr<|dP 3 [] (mc 0 U mn) ?_
 obtain ⟨hu,AB⟩:=aC (g9 j.Race.av h i d) x I
 obtain ⟨F,G⟩:=aC g x I
 have Bh:(List.zipWith bW (g9 j.Race.av h i d) g)[x]? =some (bW hu F):=cv AB G
 refine dS (IA x U (ay 7 U) j7 dc I I)<|dS (gD x 0 (vS F.1.1 hu.length F.1.2) U bU (ay 7 U) Bh U dc U) ?_
 have V5:=(A6.eo _ _ _ AB G).lz
 refine dP 6 [] (mc 10 U mn) ?_
 refine cx<|RK Wm<|ck U (aW fun WH=>?_) (aY fun WH=>?_)
 ·exact absurd (congrArg (fun q:Nat=>(q:Int)) (rQ Lo AB)) WH
 refine WK Wl<|WS fun _ Wn=>eV 3 [] (mc 0 U mn) U<|rS (IA x U (ay 7 U) j7 dc I I)<|rS (gD x 0 (vS F.1.1 hu.length F.1.2) U bU (ay 7 U) Bh U dc U)<|rP 2 [] mn ?_
 refine RK Wn<|aH ?_
 have FS:(0≤hu.length):=by exact Nat.zero_le _
 refine bS (ι:={z:Nat // (z≤hu.length)}) [4,7,9,10,11,14,18,138,139,140,158,159] [0,1,2,3,4,5,6,7,8,9,10,11,12,13,14,15,16,17,18,19,20,21,22] U U (fun z=>[(160,(vI (z.1:Int)))]) (fun z=>[]) (fun _=>rfl) (fun _=>rfl) (fun z=>hu.length-z.1) ⟨0,FS⟩ (bD U) (aR [0,1,2,3,4,5,6,7,8,9,10,11,12,13,14,15,16,17,18,19,20,21,22]) ?_
 clear FS
 rintro ⟨y,ZT⟩ J163 VF
 try dsimp only
 refine WS fun _ Wo=>rP 1 [] mn ?_
 refine RK Wo<|aq fun _ Wp=>bR U (aU fun UO=>?_) (aT fun UO=>?_)
 ·refine bQ<|ag<|ag<|aI<|aP<|KK Wj<|aw<|rP 2 [] mn ?_
  refine aK ?_
  have YQ:(vI (((x+1):Nat):Int))=(vI ((x:Int)+1)):=by exact cI I
  refine bu (WY ⟨(x+1),(by first|omega|(simp only []; omega))⟩ _ _ _ U os (cP 8<|bw U YQ<|dp.nil _) (aR [0,1,2,3,4,5,6,7,8,9,10,11,12,13,14,15,16,17,18,19,20,21,22]))
 refine WK Wp<|aq fun _ VS=>aH<|WS fun _ Wq=>rP 2 [] mn ?_
 refine RK Wq ?_
 refine nv (ι:={z:Unit // (¬ ((x:Int)=h∧(y:Int)=i))}) [4,7,9,10,11,14,18,19,138,139,140,158,159,160] [0,1,2,3,4,5,6,7,8,9,10,11,12,13,14,15,16,17,18,19,20,21,22] U U (fun z=>[]) (fun z=>[]) (fun _=>rfl) (fun _=>rfl) ?_ fun K169 Vh=>?_
 ·rintro ⟨uu,I1⟩
  try dsimp only
  have bN:=I1
  have ZE:=x_ (x:=(x:Int)) (y:=(y:Int)) (eA L.2).1 hx I
  have ba:=I1
  refine WS fun _ J2=>bI 1 U<|rS (LP (cW.cells (vx j.Race kA kC cA cC bA bC slA slC drA drC heA heC)) 10 U bU U U U)<|bI 2 U<|rS (CL (EG (x:Int) (y:Int) j.Race kA kC az cA cC bA bC slA slC drA drC ha heA heC asm) (bk [11,12,13,14,15,16,17,18,19]) U)<|bI 3 U<|AL U dT fun ap=>eN U cT U<|bI 1 U<|RK J2<|WS fun _ Wr=>rP 3 [] (mc 1 U mn) ?_
  refine rS (CL (EG (x:Int) (y:Int) (jS j.Race h i d) J3 K0 Kq J4 K4 J5 K5 J6 K8 J7 LA g J8 ST (by exact A6)) (dM 12 U U<|aD (aB (n:=j.Race.ao.aO.length) 2 U (by (rw [List.length_map]; rfl)))<|aD (aB (n:=j.Race.ao.aj.length) 3 U (iO Vm))<|aD (dR 4 U jJ)<|aD (aB (n:=j.Race.ao.ab.length) 5 U (by (rw [List.length_map]; rfl)))<|aD (aB (n:=j.Race.aV.length) 6 U (by (rw [List.length_map]; rfl)))<|aD (aB (n:=j.Race.bV.length) 7 U (by (rw [List.length_map]; rfl)))<|dM 8 U U<|dM 9 U U<|aL) U) ?_
  refine bI 3 U<|AL U dT fun as=>eN U cT U<|bI 1 U<|RK Wr<|aq fun _ Wt=>cU cg 29 kr<|dP 4 [] mn ?_
  refine gN (t:=189) U (aW fun WI=>?_) (aY fun WI=>?_)
  ·exact absurd ZE.1.symm WI
  refine kv 2 [0,1] (mc 1 U (mc 0 U mn)) U<|dS (BI U (Ok _ _ (jB j.Race (x:Int) (y:Int)) (jB (jS j.Race h i d) (x:Int) (y:Int))))<|dP 2 [] mn ?_
  refine gN (t:=194) U (aW fun WL=>?_) (aY fun WL=>?_)
  ·exact absurd ZE.2.symm WL
  refine kv 3 [] (mc 2 U mn) U<|dS (IA x U (ay 9 U) j7 dc I I)<|dS (gD x 0 (vS F.1.1 hu.length F.1.2) U bU (ay 9 U) Bh U dc U)<|dP 1 [] mn ?_
  obtain ⟨e,k⟩:=aC hu y I
  obtain ⟨ea,A5⟩:=aC F.2 y I
  have Eq:(List.zipWith ak.cells hu F.2)[y]? =some (ak.cells e ea):=cv k A5
  refine dS (IA y U (show fY _ (rd F.1.1 hu.length 7 (List.zipWith ak.cells hu F.2)).holds from (m6 10 U (a_ AB G bX))) mJ dc I I)<|dS (jE y 0 (aG.cells (aG.mk e.Out e.cJ e.Time (cL.mk e.aX.Start e.aX.gj (bE.mk ea.1 e.aX.aa.length ea.2)))) U bU (show fY _ (rd F.1.1 hu.length 7 (List.zipWith ak.cells hu F.2)).holds from (m6 10 U (a_ AB G bX))) Eq U dc U U)<|dP 4 [] (mc 12 U mn) ?_
  obtain ⟨K,C⟩:=aC j.Race.av x I
  obtain ⟨ht1a,hht1a⟩:=aC ha x I
  have hht1m:(List.zipWith bW j.Race.av ha)[x]? =some (bW K ht1a):=cv C hht1a
  refine dS (IA x U (ay 20 U) j7 dc I I) ?_
  have WU:=(A7.eo _ _ _ C hht1a).lz
  have WV:=(T0.eo _ (aM C)).1
  have V6:=rQ Lo AB
  refine dS (gD x 0 (vS ht1a.1.1 K.length ht1a.1.2) U bU (ay 20 U) hht1m U dc U)<|dP 1 [] mn ?_
  obtain ⟨M,f⟩:=aC K y I
  obtain ⟨d1a,hd1a⟩:=aC ht1a.2 y I
  have hd1m:(List.zipWith ak.cells K ht1a.2)[y]? =some (ak.cells M d1a):=cv f hd1a
  refine dS (IA y U (show fY _ (rd ht1a.1.1 K.length 7 (List.zipWith ak.cells K ht1a.2)).holds from (bY 21 U (a_ C hht1a bX))) mJ dc I I)<|dS (jE y 0 (aG.cells (aG.mk M.Out M.cJ M.Time (cL.mk M.aX.Start M.aX.gj (bE.mk d1a.1 M.aX.aa.length d1a.2)))) U bU (show fY _ (rd ht1a.1.1 K.length 7 (List.zipWith ak.cells K ht1a.2)).holds from (bY 21 U (a_ C hht1a bX))) hd1m U dc U U)<|dS (CL (n7 e ea.1 ea.2 M d1a.1 d1a.2 (by exact (A6.eo _ _ _ AB G).sig _ (aM k)) (by exact (A7.eo _ _ _ C hht1a).sig _ (aM f))) (aD (show fY _ (rd ea.1 e.aX.aa.length 2 (e.aX.aa.map aF.cells)).holds from (m6 10 U (a_ AB G (dh _ (a_ k A5 (by simp [ak.e_]))))))<|aD (show fY _ (rd d1a.1 M.aX.aa.length 2 (M.aX.aa.map aF.cells)).holds from (bY 21 U (a_ C hht1a (dh _ (a_ f hd1a (by simp [ak.e_]))))))<|aL) U)<|dP 2 [] mn ?_
  refine cx<|RK Wt<|ck U (aW fun WM=>?_) (aY fun WM=>?_)
  ·exact absurd (HB AB k C f I) WM
  refine cj<|aP<|KK VS<|aw<|rP 2 [] mn ?_
  refine aK ?_
  have YR:(vI (((y+1):Nat):Int))=(vI ((y:Int)+1)):=by exact cI I
  refine bu (VF ⟨(y+1),(by first|omega|(simp only []; omega))⟩ _ _ _ U os (cP 12<|bw U YR<|dp.nil _) (aR [2,3,4,5,6,7,8,9,10,11,12,13,14,15,16,17,18,19,20,21,22,23,24]))
 refine WS fun _ J2=>rP 4 [] mn ?_
 refine cG (t:=166) U (aU fun UO=>?_) (aT fun UO=>?_)
 ·refine rP 4 [] mn ?_
  refine RK J2<|cp U<|cj ?_
  refine bu (jA (bD U) (aR [0,1,2,3,4,5,6,7,8,9,10,11,12,13,14,15,16,17,18,19,20,21,22]) (Vh ⟨(),I⟩))
 refine rP 4 [] mn ?_
 refine RK J2<|bR U (aU fun Yi=>?_) (aT fun Yi=>?_)
 ·refine cj ?_
  refine bu (jA (bD U) (aR [0,1,2,3,4,5,6,7,8,9,10,11,12,13,14,15,16,17,18,19,20,21,22]) (Vh ⟨(),I⟩))
 refine bQ<|ag<|aI<|KK VS<|aw<|rP 2 [] mn ?_
 refine aK ?_
 have YP:(vI (((y+1):Nat):Int))=(vI ((y:Int)+1)):=by exact cI I
 refine bu (VF ⟨(y+1),(by first|omega|(simp only []; omega))⟩ _ _ _ U os (cP 12<|bw U YP<|dp.nil _) (aR [0,1,2,3,4,5,6,7,8,9,10,11,12,13,14,15,16,17,18,19,20,21,22]))
end
section
open Go.RowKit
def fE {α:Type} (cells:α→List Value) (sz:Nat) (R:World→α→Prop) (w:World) (s:bE):Prop:= ∃ l:List α,s.n=l.length∧(rd s.a l.length sz (l.map cells)).holds w∧(∀ x∈l,R w x)∧l.length≤maxLen∧s.n≤s.c
theorem wu {w:World} {R:World→ct→Prop}: ∀ {l:List dk},(∀ x∈l,fE ct.cells 3 R w x.bB)→ ∃ (ms:List ax) (az:List RA),l.map dk.cells=List.zipWith ax.cells ms az∧ms.length=l.length∧az.length=l.length∧(∀ X∈bg ax.e_ ms az,X.holds w)∧
 (∀ (k:Nat) m (a:RA),ms[k]? =some m→az[k]? =some a→m.bB.length≤a.2∧m.bB.length≤9223372036854775807)∧ms.map (fun m=>m.dw)=l.map (fun x=>x.dw)∧ ∀ (k:Nat) m y,ms[k]? =some m→y∈m.bB→R w y
 |[],_=>⟨[],[],rfl,rfl,rfl,(fun X hX=>by cases hX),(fun k m a h=>by simp at h),rfl,(fun k m y h=>by simp at h)⟩
 |x::l,h=>by
  obtain ⟨ms,az,E,F,G,H,AA,J,K⟩:=wu (fun y hy=>h y (dh _ hy))
  obtain ⟨sy,A,B,C,D,L⟩:=h x sm
  have e4':sy.length≤9223372036854775807:=D
  refine ⟨⟨x.dw,sy⟩::ms,(x.bB.a,x.bB.c)::az,?_,by simp [F],by simp [G],fun X hX=>?_,fun k m a hm ha=>?_,by simp [J],fun k m y hm hy=>?_⟩
  ·obtain ⟨dr,⟨a,n,c⟩⟩:=x
   simp only at A
   subst A
   simp only [List.map_cons,List.zipWith_cons_cons,E]
   rfl
  ·rcases gK.1 hX with hX|hX
   ·simp only [ax.e_,cE] at hX
    subst hX; exact B
   ·exact H X hX
  ·cases k with
   |zero=>
    simp only [List.getElem?_cons_zero,Option.some.injEq] at hm ha
    subst hm ha
    exact ⟨by simp only; omega,e4'⟩
   |succ k=>exact AA k m a (by simpa using hm) (by simpa using ha)
  ·cases k with
   |zero=>
    simp only [List.getElem?_cons_zero,Option.some.injEq] at hm
    subst hm
    exact C y hy
   |succ k=>exact K k m y (by simpa using hm) hy
theorem G3 {w:World} {s:cm} {R1:World→au→Prop} {R2:World→dk→Prop} {R3:World→bK→Prop} {R4:World→ct→Prop} (h1:fE au.cells 9 R1 w s.aO.kz) (hs: ∀ x,R1 w x→0≤x.iW∧x.iW≤255) (h2:fE dk.cells 2 R2 w s.aj) (hc: ∀ x,R2 w x→fE ct.cells 3 R4 w x.bB) (h3:fE bK.cells 4 R3 w s.ab):
 ∃ (l:bG) (az:List RA) (kA:OA) (kC:Nat) (cA:OA) (cC:Nat) (bA:OA) (bC:Nat),s=cm.mk (bL.mk (bE.mk kA l.aO.length kC)) l.hU (bE.mk cA l.aj.length cC) (bE.mk bA l.ab.length bC) l.cd l.fK l.dC∧uA l az∧
  ((rd kA l.aO.length 9 (l.aO.map au.cells)).holds w∧(rd cA l.aj.length 2 (List.zipWith ax.cells l.aj az)).holds w∧(dE (bg ax.e_ l.aj az)).holds w∧(rd bA l.ab.length 4 (l.ab.map bK.cells)).holds w)∧l.hU=s.hU∧l.cd=s.cd∧l.fK=s.fK∧l.dC=s.dC:=by
 obtain ⟨⟨⟨ka,kn,kc⟩⟩,fa,⟨ca,cn,cc⟩,⟨ba,bn,bc⟩,fi,fk,mi⟩:=s
 obtain ⟨ts,E,M,N,O,T⟩:=h1
 obtain ⟨cs,B,C,H,AA,R⟩:=h2
 obtain ⟨bs,A,F,P,G,Q⟩:=h3
 simp only at E B A
 subst E B A
 obtain ⟨ms,az,J,D,S,K,L,_⟩:=wu (fun x hx=>hc x (H x hx))
 have t4':ts.length≤9223372036854775807:=O
 have c4':cs.length≤9223372036854775807:=AA
 have b4':bs.length≤9223372036854775807:=G
 refine ⟨⟨ts,fa,ms,bs,fi,fk,mi⟩,az,ka,kc,ca,cc,ba,bc,by simp only [D],⟨t4',fun x hx=>hs x (N x hx),by simp only; omega,by simp only; omega,b4',L⟩,⟨M,?_,K,F⟩,U,U,U,U⟩
 simp only at C ⊢
 rw [D,← J]; exact C
end
section
open Go.RowKit
theorem yo {w:World} {R:World→aF→Prop}: ∀ {l:List aG},(∀ x∈l,fE aF.cells 2 R w x.aX.aa)→ ∃ (ms:List ak) (az:List RA),l.map aG.cells=List.zipWith ak.cells ms az∧ms.length=l.length∧az.length=l.length∧(∀ X∈bg ak.e_ ms az,X.holds w)∧
 ∀ d∈ms,d.aX.aa.length≤9223372036854775807
 |[],_=>⟨[],[],rfl,rfl,rfl,(fun X hX=>by cases hX),fun d h=>by cases h⟩
 |x::l,h=>by
  obtain ⟨ms,az,D,E,F,G,H⟩:=yo (fun y hy=>h y (dh _ hy))
  obtain ⟨sg,A,B,AA,C,J⟩:=h x sm
  have e4':sg.length≤9223372036854775807:=C
  refine ⟨⟨x.Out,x.cJ,x.Time,⟨x.aX.Start,x.aX.gj,sg⟩⟩::ms,(x.aX.aa.a,x.aX.aa.c)::az,?_,by simp [E],by simp [F],fun X hX=>?_,fun d hd=>?_⟩
  ·obtain ⟨o,f,t,⟨st,nw,⟨a,n,c⟩⟩⟩:=x
   simp only at A
   subst A
   simp only [List.map_cons,List.zipWith_cons_cons,D]
   rfl
  ·rcases gK.1 hX with hX|hX
   ·simp only [ak.e_,cE] at hX
    subst hX; exact B
   ·exact G X hX
  ·rcases b_.1 hd with rfl|hd
   ·exact e4'
   ·exact H d hd
theorem xY {w:World} {R2:World→aG→Prop} {R:World→aF→Prop} (hc: ∀ x,R2 w x→fE aF.cells 2 R w x.aX.aa): ∀ {l:List bE},(∀ x∈l,fE aG.cells 7 R2 w x)→ ∃ (ms:List (List ak)) (ha:List cD),(l.map fun s=>[vS s.a s.n s.c])=List.zipWith bW ms ha∧ms.length=l.length∧ha.length=l.length∧(∀ X∈bg er ms ha,X.holds w)∧
 ∀ (k:Nat) h (a:cD),ms[k]? =some h→ha[k]? =some a→h.length≤9223372036854775807∧a.2.length=h.length∧ ∀ d∈h,d.aX.aa.length≤9223372036854775807
 |[],_=>⟨[],[],rfl,rfl,rfl,(fun X hX=>by cases hX),(fun k h a q=>by simp at q)⟩
 |x::l,h=>by
  obtain ⟨ms,ha,J,K,L,M,N⟩:=xY hc (fun y hy=>h y (dh _ hy))
  obtain ⟨ds,C,G,H,AA,P⟩:=h x sm
  obtain ⟨dm,az,D,B,O,E,F⟩:=yo fun y hy=>hc y (H y hy)
  have e4':ds.length≤9223372036854775807:=AA
  refine ⟨dm::ms,((x.a,x.c),az)::ha,?_,by simp [K],by simp [L],fun X hX=>?_,fun k m a hm A=>?_⟩
  ·obtain ⟨a,n,c⟩:=x
   simp only at C
   subst C
   simp only [List.map_cons,List.zipWith_cons_cons,J,bW,B]
  ·rcases gK.1 hX with hX|hX
   ·unfold er at hX
    rcases b_.1 hX with rfl|hX
    ·simp only
     rw [B,← D]; exact G
    ·exact E X hX
   ·exact M X hX
  ·cases k with
   |zero=>
    simp only [List.getElem?_cons_zero,Option.some.injEq] at hm A
    subst hm A
    exact ⟨I,by simp only; omega,F⟩
   |succ k=>exact N k m a (by simpa using hm) (by simpa using A)
theorem HA {w:World} {s:cW} {R1:World→au→Prop} {R2:World→dk→Prop} {R3:World→bK→Prop} {R4:World→ct→Prop} {R5:World→Int→Prop} {R6:World→bE→Prop} {R7:World→aG→Prop} {R8:World→aF→Prop}
 (h1:fE au.cells 9 R1 w s.ao.aO.kz) (hs: ∀ x,R1 w x→0≤x.iW∧x.iW≤255) (h2:fE dk.cells 2 R2 w s.ao.aj) (hc: ∀ x,R2 w x→fE ct.cells 3 R4 w x.bB) (h3:fE bK.cells 4 R3 w s.ao.ab)
 (h4:fE iC 1 R5 w s.aV) (h5:fE iC 1 R5 w s.bV) (h6:fE (fun s=>[vS s.a s.n s.c]) 1 R6 w s.av) (h7: ∀ x,R6 w x→fE aG.cells 7 R7 w x) (h8: ∀ x,R7 w x→fE aF.cells 2 R8 w x.aX.aa):
 ∃ (r:eD) (az:List RA) (ha:List cD) (kA:OA) (kC:Nat) (cA:OA) (cC:Nat) (bA:OA) (bC:Nat) (slA:OA) (slC:Nat) (drA:OA) (drC:Nat) (heA:OA) (heC:Nat),
  s=cW.mk (cm.mk (bL.mk (bE.mk kA r.ao.aO.length kC)) r.ao.hU (bE.mk cA r.ao.aj.length cC) (bE.mk bA r.ao.ab.length bC) r.ao.cd r.ao.fK r.ao.dC) (bE.mk slA r.aV.length slC) (bE.mk drA r.bV.length drC) r.j9 (bE.mk heA r.av.length heC)∧uJ r az ha∧
  ((rd kA r.ao.aO.length 9 (r.ao.aO.map au.cells)).holds w∧(rd cA r.ao.aj.length 2 (List.zipWith ax.cells r.ao.aj az)).holds w∧(dE (bg ax.e_ r.ao.aj az)).holds w∧(rd bA r.ao.ab.length 4 (r.ao.ab.map bK.cells)).holds w∧
   (rd slA r.aV.length 1 (r.aV.map iC)).holds w∧(rd drA r.bV.length 1 (r.bV.map iC)).holds w∧(rd heA r.av.length 1 (List.zipWith bW r.av ha)).holds w∧(dE (bg er r.av ha)).holds w):=by
 obtain ⟨ln,⟨sa,sn,sc⟩,⟨da,dn,dc⟩,tu,⟨ea,en,ec⟩⟩:=s
 obtain ⟨l,az,kA,kC,cA,cC,bA,bC,e,A,hh,_⟩:=G3 (s:=ln) h1 hs h2 hc h3
 subst e
 obtain ⟨sl,F,N,T,O,AA⟩:=h4
 obtain ⟨dr,B,G,P,H,Q⟩:=h5
 obtain ⟨he,D,E,L,M,S⟩:=h6
 obtain ⟨ms,ha,AB,C,R,J,K⟩:=xY h8 (fun x hx=>h7 x (L x hx))
 simp only at F B D
 subst F B D
 have s4':sl.length≤9223372036854775807:=O
 have d4':dr.length≤9223372036854775807:=H
 have q4':he.length≤9223372036854775807:=M
 refine ⟨⟨l,sl,dr,tu,ms⟩,az,ha,kA,kC,cA,cC,bA,bC,sa,sc,da,dc,ea,ec,by simp only [C],⟨A,s4',d4',by simp only; omega,by simp only; omega,K⟩,hh.1,hh.2.1,hh.2.2.1,hh.2.2.2,N,G,?_,J⟩
 simp only at E ⊢
 rw [C,← AB]; exact E
end
section
open Go.RowKit
theorem He {w:World} {s:gh} {R1:World→au→Prop} {R2:World→dk→Prop} {R3:World→bK→Prop} {R4:World→ct→Prop} {R5:World→Int→Prop} {R6:World→bE→Prop} {R7:World→aG→Prop} {R8:World→aF→Prop} {R9:World→aZ→Prop} {R10:World→br→Prop}
 (h1:fE au.cells 9 R1 w s.Race.ao.aO.kz) (hs: ∀ x,R1 w x→0≤x.iW∧x.iW≤255) (h2:fE dk.cells 2 R2 w s.Race.ao.aj) (hc: ∀ x,R2 w x→fE ct.cells 3 R4 w x.bB) (h3:fE bK.cells 4 R3 w s.Race.ao.ab)
 (h4:fE iC 1 R5 w s.Race.aV) (h5:fE iC 1 R5 w s.Race.bV) (h6:fE (fun s=>[vS s.a s.n s.c]) 1 R6 w s.Race.av) (h7: ∀ x,R6 w x→fE aG.cells 7 R7 w x) (h8: ∀ x,R7 w x→fE aF.cells 2 R8 w x.aX.aa)
 (h9:fE aZ.cells 4 R9 w s.aS) (hk: ∀ x,R9 w x→0≤x.Kind∧x.Kind≤255) (h10:fE br.cells 5 R10 w s.aJ):
 ∃ (j:cS) (az:List RA) (ha:List cD) (kA:OA) (kC:Nat) (cA:OA) (cC:Nat) (bA:OA) (bC:Nat) (slA:OA) (slC:Nat) (drA:OA) (drC:Nat) (heA:OA) (heC:Nat) (faA:OA) (faC:Nat) (prA:OA) (prC:Nat),
  s=gh.mk (cW.mk (cm.mk (bL.mk (bE.mk kA j.Race.ao.aO.length kC)) j.Race.ao.hU (bE.mk cA j.Race.ao.aj.length cC) (bE.mk bA j.Race.ao.ab.length bC) j.Race.ao.cd j.Race.ao.fK j.Race.ao.dC) (bE.mk slA j.Race.aV.length slC) (bE.mk drA j.Race.bV.length drC) j.Race.j9 (bE.mk heA j.Race.av.length heC)) (bE.mk faA j.aS.length faC) (bE.mk prA j.aJ.length prC) j.iw j.Df∧sB j az ha∧
  ((rd kA j.Race.ao.aO.length 9 (j.Race.ao.aO.map au.cells)).holds w∧(rd cA j.Race.ao.aj.length 2 (List.zipWith ax.cells j.Race.ao.aj az)).holds w∧(dE (bg ax.e_ j.Race.ao.aj az)).holds w∧(rd bA j.Race.ao.ab.length 4 (j.Race.ao.ab.map bK.cells)).holds w∧
   (rd slA j.Race.aV.length 1 (j.Race.aV.map iC)).holds w∧(rd drA j.Race.bV.length 1 (j.Race.bV.map iC)).holds w∧(rd heA j.Race.av.length 1 (List.zipWith bW j.Race.av ha)).holds w∧(dE (bg er j.Race.av ha)).holds w∧
   (rd faA j.aS.length 4 (j.aS.map aZ.cells)).holds w∧(rd prA j.aJ.length 5 (j.aJ.map br.cells)).holds w):=by
 obtain ⟨rc,⟨fa,fn,fc⟩,⟨pa,pn,pc⟩,mi,fe⟩:=s
 obtain ⟨r,az,ha,kA,kC,cA,cC,bA,bC,slA,slC,drA,drC,heA,heC,e,A,hm⟩:=HA (s:=rc) h1 hs h2 hc h3 h4 h5 h6 h7 h8
 subst e
 obtain ⟨fl,B,D,E,F,AA⟩:=h9
 obtain ⟨pr,C,G,J,H,K⟩:=h10
 simp only at B C
 subst B C
 have f4':fl.length≤9223372036854775807:=F
 have p4':pr.length≤9223372036854775807:=H
 exact ⟨⟨r,fl,pr,mi,fe⟩,az,ha,kA,kC,cA,cC,bA,bC,slA,slC,drA,drC,heA,heC,fa,fc,pa,pc,U,⟨A,f4',p4',fun f hf=>hk f (E f hf)⟩,hm.1,hm.2.1,hm.2.2.1,hm.2.2.2.1,hm.2.2.2.2.1,hm.2.2.2.2.2.1,hm.2.2.2.2.2.2.1,hm.2.2.2.2.2.2.2,D,G⟩
end
section
open Go.RowKit
theorem HN {w:World} {s:aG} {R:World→aF→Prop} (h:fE aF.cells 2 R w s.aX.aa):
 ∃ (d:ak) (gA:OA) (gC:Nat),s=aG.mk d.Out d.cJ d.Time (iM d.aX gA gC)∧d.aX.aa.length≤9223372036854775807∧(rd gA d.aX.aa.length 2 (d.aX.aa.map aF.cells)).holds w:=by
 obtain ⟨o,f,t,⟨st,nw,⟨a,n,c⟩⟩⟩:=s
 obtain ⟨l,A,B,D,C,E⟩:=h
 simp only at A
 subst A
 exact ⟨⟨o,f,t,⟨st,nw,l⟩⟩,a,c,U,C,B⟩
end
end Go.Proofs.YtkaenmjhfajbkaaGreatDoor
