/-
 The statement juryReplaced_said, part 8 of 9: Jwb, Rr2, Jr1, Rr3, Rr4, Rr5, Rra, Jr2, Jr3, Jz1, Jw7, Jz2, Jz3, Jz4, Rx8, Jx1, Rx1, Jx2, Jx3, Jx4, LineOpen, RaceOpen, JOpen, DesOpen.
 Conditions: none.
-/
import Derived.Test.YtkaenmjhfajbkaaGreatDoorTx1
import Derived.Test.YtkaenmjhfajbkaaGreatDoorTx2
import Derived.Test.YtkaenmjhfajbkaaGreatDoorTx3
import Derived.Test.YtkaenmjhfajbkaaGreatDoorTx4
import Derived.Test.YtkaenmjhfajbkaaGreatDoorTx5
import Derived.Test.YtkaenmjhfajbkaaGreatDoorTx6
import Derived.Test.YtkaenmjhfajbkaaGreatDoorTx7
namespace Go.Proofs.YtkaenmjhfajbkaaGreatDoor
set_option maxRecDepth 100000
set_option maxHeartbeats 4000000
set_option linter.unusedVariables false
section
open Go.RowKit
theorem zQ (j:cS) (kA:OA) (kC:Nat) (az:List RA) (cA:OA) (cC:Nat) (bA:OA) (bC:Nat) (slA:OA) (slC:Nat) (drA:OA) (drC:Nat) (ha:List cD) (heA:OA) (heC:Nat) (faA:OA) (faC:Nat) (prA:OA) (prC:Nat) (hin:gX j az ha) (hok:dG j=0):
 nG Tryz.prog 45 [(vA (dg.cells (dg.mk (nt j kA kC cA cC bA bC slA slC drA drC heA heC faA faC prA prC))))] [(rd kA j.Race.ao.aO.length 9 (j.Race.ao.aO.map au.cells)),(rd cA j.Race.ao.aj.length 2 (List.zipWith ax.cells j.Race.ao.aj az)),(dE (bg ax.e_ j.Race.ao.aj az)),(rd bA j.Race.ao.ab.length 4 (j.Race.ao.ab.map bK.cells)),(rd slA j.Race.aV.length 1 (j.Race.aV.map iC)),(rd drA j.Race.bV.length 1 (j.Race.bV.map iC)),(rd heA j.Race.av.length 1 (List.zipWith bW j.Race.av ha)),(dE (bg er j.Race.av ha)),(rd faA j.aS.length 4 (j.aS.map aZ.cells)),(rd prA j.aJ.length 5 (j.aJ.map br.cells))] (fun (x:(List RA)×(OA)×Nat)=>(vS x.2.1 ((fF j).length) x.2.2)) (fun (x:(List RA)×(OA)×Nat)=>x.1.length=(fF j).length) (fun (x:(List RA)×(OA)×Nat)=>[(own x.2.1 x.2.2 29 1 (List.zipWith tw (fF j) x.1)),(bM (bg F1 (fF j) x.1))]):=by
 have AC:=hin.race
 have i:=hin.race.line
 have A4:=hin.race.g8
 have A5:=hin.race.has
 have AK:=hin.race.g7
 have u:=hin.nf
 have y:=hin.np
 have P:=(eA hok).1
 have O:=(eA hok).2
 have h:=(d_ P).1
 have A8:=(d_ P).2
 have d:=(eh h).2.head
 unfold eZ at d
 have A6:=O.np
 have w:=w9 (j:=j)
 refine eO kr Tryz.func45 U U fun w0 Q hQ hN=>?_
 try dsimp only
 refine WS fun _ Y=>eJ U fun b2=>rP 1 [] mn ?_
 refine RK Y<|WS fun _ Z=>mJ (kV:=iV) U U fun T=>?_
 try dsimp only
 refine bI 1 U<|RK Z<|aq fun _ a=>WS fun _ b=>rP 4 [] (mc 1 U mn) ?_
 refine rS (FU U) ?_
 refine cX (Ak j.aJ prA prC (Value.func (.func 42) [(vA (dg.cells (dg.mk (nt j kA kC cA cC bA bC slA slC drA drC heA heC faA faC prA prC))))].toArray [].toArray) (fun q S=>(iD j S)) (dE [(rd kA j.Race.ao.aO.length 9 (j.Race.ao.aO.map au.cells)),(rd cA j.Race.ao.aj.length 2 (List.zipWith ax.cells j.Race.ao.aj az)),(dE (bg ax.e_ j.Race.ao.aj az)),(rd bA j.Race.ao.ab.length 4 (j.Race.ao.ab.map bK.cells)),(rd slA j.Race.aV.length 1 (j.Race.aV.map iC)),(rd drA j.Race.bV.length 1 (j.Race.bV.map iC)),(rd heA j.Race.av.length 1 (List.zipWith bW j.Race.av ha)),(dE (bg er j.Race.av ha)),(rd faA j.aS.length 4 (j.aS.map aZ.cells)),(rd prA j.aJ.length 5 (j.aJ.map br.cells))]) (by intro q S k; exact k7 (fi:=[(vA (dg.cells (dg.mk (nt j kA kC cA cC bA bC slA slC drA drC heA heC faA faC prA prC))))]) (ca:=[]) (j1 (vu j kA kC az cA cC bA bC slA slC drA drC ha heA heC faA faC prA prC q S asm asm (by (obtain ⟨i_,_,e⟩:=k; exact ⟨i_,e⟩))) (bo [0,1,2,3,4,5,6,7,8,9]))) asm) (dM 11 rfl rfl<|aD (jZ (bo [2,3,4,5,6,7,8,9,10,11]))<|aL) rfl fun y9 AO=>?_
 obtain ⟨A1,A2⟩:=y9
 try dsimp only
 rw [show (mh (ir j.aJ (fun q S=>(iD j S))) j.aJ.length)=iM j from rfl]
 refine rP 2 [] mn ?_
 refine RK b<|aH ?_
 skip
 have A:(0≤(iM j).length):=by exact Nat.zero_le _
 refine bS (ι:={z:Nat // (z≤(iM j).length)}) [1,3,12,13] [0,2,3,4,5,6,7,8,9,10,11,12] U U (fun z=>[(14,(vI (z.1:Int)))]) (fun z=>[(ku iV T (cU vB (wB j.aS (Gd j z.1))))]) (fun _=>rfl) (fun _=>rfl) (fun z=>(iM j).length-z.1) ⟨0,A⟩ (bD U) (aR [0,2,3,4,5,6,7,8,9,10,11,12,1]) ?_
 clear A
 rintro ⟨t,g⟩ J13 E
 try dsimp only
 refine WS fun _ F=>rP 1 [] mn ?_
 refine RK F<|aq fun _ G=>bR U (aU fun X=>?_) (aT fun X=>?_)
 ·refine bQ<|ag<|ag<|aI<|KK a<|WS fun _ J=>rP 2 [] (mc 1 U mn) ?_
  refine cX (Py T j kA kC cA cC bA bC slA slC drA drC heA heC faA faC prA prC) (aL) U fun r A0=>?_
  obtain ⟨V,C⟩:=r
  try dsimp only
  refine cX (Mr (wB j.aS (Gd j t)) T j kA kC az cA cC bA bC slA slC drA drC ha heA heC faA faC prA prC V C hin hok) (bo [14,4,5,6,7,8,9,10,11,12,13,0,1]) U fun s R=>?_
  obtain ⟨D,AA,W⟩:=s
  try dsimp only
  have N:=R
  have o:(hU j (lP j.aS (wB j.aS (Gd j t))))=(fF j):=by exact D3 I
  rw [o] at N ⊢
  refine rP 1 [] mn ?_
  refine RK J<|ar ?_
  refine LX hQ (D,AA,W) [0,1] [] mn U (by show List.all _ _=true; simp only [il,List.all_nil,xd,Bool.and_true]; rfl) U U ?_
  exact N
 refine WK G<|aq fun _ H=>aH<|WS fun _ AB=>?_
 obtain ⟨gi,B⟩:=aC (iM j) t I
 have M:=bO iC B
 refine rS (IA t U (aB (n:=(iM j).length) 0 U sm) dy dc I I)<|rS (gD t 0 (vI gi) U bU (aB (n:=(iM j).length) 0 U sm) M U dc U)<|bI 1 U<|RK AB<|cW cg 17 kr<|dP 10 [] (mc 1 U mn) ?_
 obtain ⟨gk,A3,v⟩:=GB B
 refine dP 1 [] mn ?_
 obtain ⟨p,hp⟩:=aC j.aJ ((gi).toNat) I
 have l:=bO br.cells hp
 refine dS (IA ((gi).toNat) U (ay 11 U) D_ dc I I)<|dS (pO ((((gi).toNat)*5)+3) U (ay 11 U) (Nat.mul_pos I dc) eU U) ?_
 have m:=O.ib _ p hp
 have A7:=m.fault
 refine dS (gD ((gi).toNat) 3 (vI p.jX) U bU (ay 11 U) l U dc U) ?_
 obtain ⟨f,hf⟩:=aC j.aS ((p.jX).toNat) I
 have c:=bO aZ.cells hf
 refine dS (IA ((p.jX).toNat) U (ay 10 U) C5 dc I I)<|dS (jD ((p.jX).toNat) 0 (aZ.cells f) U bU (ay 10 U) c U dc U U)<|dS (CL (Cd j.aS faA faC f asm) (bo [10]) U)<|cx ?_
 have K:(eB (wB j.aS (Gd j t)) (oV j.aS f) true)=(wB j.aS (Gd j (t+1))):=by rw [Iu B hp hf,GU]
 refine iY (kV:=iV) (x:=(oV j.aS f)) (C':=[_,_,_,_,_,_,_,_,_,_,_,_,(ku iV T (cU vB (wB j.aS (Gd j (t+1)))))]) 12 U U U U CM (iJ qn) U ((gR _ _ _ _).symm.trans (congrArg _ K)) U<|aK<|aP<|KK H<|aw<|rP 2 [] mn ?_
 refine aK ?_
 have L:(vI (((t+1):Nat):Int))=(vI ((t:Int)+1)):=by exact cI I
 refine bu (E ⟨(t+1),(by first|omega|(simp only []; omega))⟩ _ _ _ U os (cP 4<|bw U L<|dp.nil _) (aR [0,1,2,3,4,5,6,7,8,9,10,11,12]))
theorem sE (j:cS) (kA:OA) (kC:Nat) (az:List RA) (cA:OA) (cC:Nat) (bA:OA) (bC:Nat) (slA:OA) (slC:Nat) (drA:OA) (drC:Nat) (ha:List cD) (heA:OA) (heC:Nat) (faA:OA) (faC:Nat) (prA:OA) (prC:Nat) (hin:gX j az ha):
 nG Tryz.prog 10 [(vA (gh.cells (nt j kA kC cA cC bA bC slA slC drA drC heA heC faA faC prA prC)))] [(rd gd 3 2 fr),(rd kA j.Race.ao.aO.length 9 (j.Race.ao.aO.map au.cells)),(rd cA j.Race.ao.aj.length 2 (List.zipWith ax.cells j.Race.ao.aj az)),(dE (bg ax.e_ j.Race.ao.aj az)),(rd bA j.Race.ao.ab.length 4 (j.Race.ao.ab.map bK.cells)),(rd slA j.Race.aV.length 1 (j.Race.aV.map iC)),(rd drA j.Race.bV.length 1 (j.Race.bV.map iC)),(rd heA j.Race.av.length 1 (List.zipWith bW j.Race.av ha)),(dE (bg er j.Race.av ha)),(rd faA j.aS.length 4 (j.aS.map aZ.cells)),(rd prA j.aJ.length 5 (j.aJ.map br.cells))] (fun (x:(List RA)×(OA)×Nat)=>(vT [(vS x.2.1 ((dD j).length) x.2.2),(vI (dG j))])) (fun (x:(List RA)×(OA)×Nat)=>x.1.length=(dD j).length) (fun (x:(List RA)×(OA)×Nat)=>[(own x.2.1 x.2.2 29 1 (List.zipWith tw (dD j) x.1)),(bM (bg F1 (dD j) x.1))]):=by
 have S:=hin.race
 have N:=hin.race.line
 have AA:=hin.race.g8
 have V:=hin.race.has
 have T:=hin.race.g7
 have P:=hin.nf
 have R:=hin.np
 refine eO kr Tryz.func10 U U fun Z Q hQ hN=>?_
 try dsimp only
 refine WS fun _ H=>eJ U fun X=>bI 1 U<|bI 1 U<|RK H<|WS fun _ AB=>eV 1 [] (mc 0 U mn) U<|rS (CL (sv j kA kC az cA cC bA bC slA slC drA drC ha heA heC faA faC prA prC hin) (bo [1,2,3,4,5,6,7,8,9,10,11]) U)<|bI 3 U<|AL U DH fun Y=>eN U Er U<|bI 1 U<|RK AB<|aq fun _ J=>WS fun _ K=>rP 2 [] mn ?_
 refine RK K<|ck U (aX fun A=>?_) (aW fun A=>?_)
 ·refine WS fun _ L=>?_
  have C:(dD j)=[]:=wv A
  have B:([]:List RA).length=(dD j).length:=by rw [C]; rfl
  refine gT 29 1<|yr ?_
  rw [show (own none 0 29 1 ([]:List (List Value)))=own none 0 29 1 (List.zipWith tw (dD j) []) from by rw [C]; rfl,show bM []=bM (bg F1 (dD j) []) from by rw [C]; rfl]
  refine bI 2 U<|rP 1 [] mn ?_
  refine RK L<|ar ?_
  refine LX hQ ([],none,0) [1,0] [] mn U (by show List.all _ _=true; simp only [il,List.all_nil,xd,Bool.and_true]; rfl) U ?_ ?_
  ·(rw [wv A]; rfl)
  ·exact B
 refine WK J<|WS fun _ M=>rP 1 [] (mc 0 U mn) ?_
 refine cX (zQ j kA kC az cA cC bA bC slA slC drA drC ha heA heC faA faC prA prC hin asm) (bo [3,4,5,6,7,8,9,10,11,12]) U fun W E=>?_
 obtain ⟨D,F,G⟩:=W
 try dsimp only
 have B:=E
 refine rP 1 [] mn ?_
 have O:(fF j)=(dD j):=by exact (jz A).symm
 rw [O] at B ⊢
 refine rP 1 [] mn ?_
 refine RK M<|ar ?_
 refine LX hQ (D,F,G) [0,1] [] mn U (by show List.all _ _=true; simp only [il,List.all_nil,xd,Bool.and_true]; rfl) U ?_ ?_
 ·(rw [A]; rfl)
 ·exact B
end
section
open Go.RowKit
theorem Bf (r:eD) (kA:OA) (kC:Nat) (az:List RA) (cA:OA) (cC:Nat) (bA:OA) (bC:Nat) (slA:OA) (slC:Nat) (drA:OA) (drC:Nat) (ha:List cD) (heA:OA) (heC:Nat) (hraw:u3 r az ha):
 dB Tryz.prog 38 [(vA (cY.cells (vJ r kA kC cA cC bA bC slA slC drA drC heA heC)))] [(rd kA r.ao.aO.length 9 (r.ao.aO.map au.cells)),(rd cA r.ao.aj.length 2 (List.zipWith ax.cells r.ao.aj az)),(dE (bg ax.e_ r.ao.aj az)),(rd bA r.ao.ab.length 4 (r.ao.ab.map bK.cells)),(rd slA r.aV.length 1 (r.aV.map iC)),(rd drA r.bV.length 1 (r.bV.map iC)),(rd heA r.av.length 1 (List.zipWith bW r.av ha)),(dE (bg er r.av ha))] (vB (decide (lT r))):=by
 have AC:=hraw.line
 have A1:=hraw.g8
 have A3:=hraw.has
 have A0:=hraw.g7
 have AK:=hraw.draw
 refine bJ kr Tryz.func38 U U fun w0 Q hQ hN=>?_
 try dsimp only
 refine WS fun _ l=>eJ U fun b2=>bI 1 U<|RK l<|aq fun _ m=>WS fun _ H=>bI 1 U<|rS (LP (cm.cells (jR r.ao kA kC cA cC bA bC)) 0 U bU U U U)<|rS (CL (KO r.ao kA kC az cA cC bA bC asm) (bo [1,2,3,4]) U)<|rP 1 [] mn ?_
 refine bT (t:=8) U (aT fun k=>?_) (aU fun k=>?_)
 ·refine bI 17 U<|RK H<|aN U<|WS fun _ n=>rP 1 [] mn ?_
  refine RK n<|ar<|Q1 hQ U U U ?_
  exact cB (cO (p6 (.inl k))).symm
 refine rP 6 [] (mc 0 U mn) ?_
 refine bT (t:=14) U (aT fun AB=>?_) (aU fun AB=>?_)
 ·refine bI 11 U<|RK H<|aN U<|WS fun _ o=>rP 1 [] mn ?_
  refine RK o<|ar<|Q1 hQ U U U ?_
  exact cB (cO (p6 (.inr I))).symm
 refine rP 6 [] (mc 0 U mn) ?_
 refine bT (t:=20) U (aT fun f=>?_) (aU fun f=>?_)
 ·refine bI 5 U<|RK H<|aN U<|WS fun _ p=>rP 1 [] mn ?_
  refine RK p<|ar<|Q1 hQ U U U ?_
  exact cB (cO (p6 (.inr I))).symm
 refine rP 5 [] (mc 0 U mn) ?_
 refine RK H<|ck U (aT fun h=>?_) (aU fun h=>?_)
 ·refine WS fun _ q=>rP 1 [] mn ?_
  refine RK q<|ar<|Q1 hQ U U U ?_
  exact cB (cO (p6 (.inr I))).symm
 refine WK m<|aq fun _ s=>WS fun _ N=>rP 1 [] mn ?_
 refine RK N<|aH ?_
 have B:(0≤r.av.length)∧(l_ r 0):=by exact ⟨Nat.zero_le _,BC⟩
 refine bS (ι:={z:Nat // (z≤r.av.length)∧(l_ r z)}) [1] [0,1,2,3,4,5,6,7,8] U U (fun z=>[(3,(vI (z.1:Int)))]) (fun z=>[]) (fun _=>rfl) (fun _=>rfl) (fun z=>r.av.length-z.1) ⟨0,B⟩ (bD U) (aR [0,1,2,3,4,5,6,7,8]) ?_
 clear B
 rintro ⟨i,⟨x,F⟩⟩ J11 L
 try dsimp only
 refine aq fun _ O=>WS fun _ P=>rP 5 [] (mc 0 U mn) ?_
 refine RK P<|bR U (aU fun AB=>?_) (aT fun AB=>?_)
 ·refine bQ<|ag<|ag<|aI<|KK s<|WS fun _ b=>rP 1 [] mn ?_
  refine RK b<|ar<|Q1 hQ U U U ?_
  exact cB (bj (Gz k I F I)).symm
 refine WK O<|aq fun _ R=>aH<|aq fun _ S=>WS fun _ T=>rP 3 [] (mc 0 U mn) ?_
 obtain ⟨ht,D⟩:=aC r.av i I
 obtain ⟨A,C⟩:=aC ha i I
 have E:(List.zipWith bW r.av ha)[i]? =some (bW ht A):=cv D C
 refine rS (IA i U (ay 7 U) j8 dc I I)<|rS (gD i 0 (vS A.1.1 ht.length A.1.2) U bU (ay 7 U) E U dc U) ?_
 obtain ⟨A2,AO,w⟩:=hraw.ek _ _ _ D C
 refine rP 2 [] mn ?_
 refine RK T<|ck U (aT fun J=>?_) (aU fun J=>?_)
 ·refine WS fun _ AA=>rP 1 [] mn ?_
  refine RK AA<|ar<|Q1 hQ U U U ?_
  exact cB (cO (Bz D J)).symm
 refine WK S<|WS fun _ V=>rP 1 [] mn ?_
 refine RK V<|aH ?_
 have B:(0≤ht.length)∧(nz ht 0):=by exact ⟨Nat.zero_le _,Bv⟩
 refine bS (ι:={z:Nat // (z≤ht.length)∧(nz ht z)}) [1,3] [0,1,2,3,4,5,6,7,8] U U (fun z=>[(4,(vI (z.1:Int)))]) (fun z=>[]) (fun _=>rfl) (fun _=>rfl) (fun z=>ht.length-z.1) ⟨0,B⟩ (bD U) (aR [0,1,2,3,4,5,6,7,8]) ?_
 clear B
 rintro ⟨j,⟨y,G⟩⟩ J20 M
 try dsimp only
 refine aq fun _ W=>WS fun _ X=>eV 4 [] (mc 0 U mn) U<|rS (IA i U (ay 7 U) j8 dc I I)<|rS (gD i 0 (vS A.1.1 ht.length A.1.2) U bU (ay 7 U) E U dc U)<|rP 2 [] mn ?_
 refine RK X<|bR U (aU fun g=>?_) (aT fun g=>?_)
 ·refine bQ<|ag<|ag<|aI<|aP<|KK R<|aw<|rP 3 [] mn ?_
  refine aK ?_
  have e:(vI (((i+1):Nat):Int))=(vI ((i:Int)+1)):=by exact cI I
  refine bu (L ⟨(i+1),⟨I,Cm F D (D8 J G I)⟩⟩ _ _ _ U os (dp.cons U<|bw U e<|dp.nil _) (aR [0,1,2,3,4,5,6,7,8]))
 refine WK W<|aq fun _ Y=>aH<|WS fun _ Z=>eV 3 [] (mc 0 U mn) U<|rS (IA i U (ay 7 U) j8 dc I I)<|rS (gD i 0 (vS A.1.1 ht.length A.1.2) U bU (ay 7 U) E U dc U)<|rP 1 [] mn ?_
 obtain ⟨d,hd⟩:=aC ht j I
 obtain ⟨da,u⟩:=aC A.2 j I
 have v:(List.zipWith ak.cells ht A.2)[j]? =some (ak.cells d da):=cv hd u
 refine rS (IA j U (show fY _ (rd A.1.1 ht.length 7 (List.zipWith ak.cells ht A.2)).holds from (bX 8 U (a_ D C bY))) mM dc I I)<|rS (pO ((j*7)+4) U (show fY _ (rd A.1.1 ht.length 7 (List.zipWith ak.cells ht A.2)).holds from (bX 8 U (a_ D C bY))) (Nat.mul_pos I dc) eU U)<|rS (pO (((j*7)+4)+2) U (show fY _ (rd A.1.1 ht.length 7 (List.zipWith ak.cells ht A.2)).holds from (bX 8 U (a_ D C bY))) (Nat.mul_pos I dc) eU U)<|rS (gD j 6 (vS da.1 d.aY.aa.length da.2) U bU (show fY _ (rd A.1.1 ht.length 7 (List.zipWith ak.cells ht A.2)).holds from (bX 8 U (a_ D C bY))) v U dc U) ?_
 have A4:=w d (aM hd)
 refine rP 2 [] mn ?_
 refine RK Z<|bR U (aU fun K=>?_) (aT fun K=>?_)
 ·refine cj<|aP<|KK Y<|aw<|rP 3 [] mn ?_
  refine aK ?_
  have c:(vI (((j+1):Nat):Int))=(vI ((j:Int)+1)):=by exact cI I
  refine bu (M ⟨(j+1),⟨I,Cl G hd K⟩⟩ _ _ _ U os (dp.cons U<|dp.cons U<|bw U c<|dp.nil _) (aR [0,1,2,3,4,5,6,7,8]))
 refine WS fun _ a=>rP 1 [] mn ?_
 refine RK a<|ar<|Q1 hQ U U U ?_
 exact cB (cO (EH D hd K)).symm
end
section
open Go.RowKit
theorem jc (n lo hi:Int):
 dB Tryz.prog 50 [(vI n),(vI lo),(vI hi)] [] (vB (decide (lo≤n∧n≤hi))):=by
 refine bJ kr Tryz.func50 U U fun D Q hQ hN=>?_
 try dsimp only
 refine WS fun _ B=>bI 1 U<|RK B<|WS fun _ A=>rP 4 [] mn ?_
 refine bT (t:=10) U (aT fun C=>?_) (aU fun C=>?_)
 ·refine rP 5 [] mn ?_
  refine RK A<|ar<|Q1 hQ U U U ?_
  exact cB (gU.2 I)
 refine rP 5 [] mn ?_
 refine RK A<|ar<|Q1 hQ U U U ?_
 exact cB (bj I).symm
theorem EN (o fx:Bool) (tm:ai) (rv:cL):
 dB Tryz.prog 102 [(vA (aG.cells (aG.mk o fx tm rv)))] [] (vB (decide (o=false∧fx=false))):=by
 refine bJ kr Tryz.func102 U U fun E Q hQ hN=>?_
 try dsimp only
 refine WS fun _ B=>eJ U fun D=>bI 1 U<|RK B<|WS fun _ A=>rP 4 [] (mc 0 U mn) ?_
 refine cG (t:=6) U (fun C=>?_) (fun C=>?_)
 ·rw [Bool.not_eq_false'] at C
  refine rP 5 [] mn ?_
  refine RK A<|ar<|Q1 hQ U U U ?_
  clear hQ hN A B
  refine cB ?_
  (simp_all; done)
 rw [Bool.not_eq_true'] at C
 refine rP 5 [] (mc 0 U mn) ?_
 refine RK A<|ar<|Q1 hQ U U U ?_
 clear hQ hN A B
 refine cB ?_
 (simp_all; done)
theorem Jz (j:cS) (kA:OA) (kC:Nat) (az:List RA) (cA:OA) (cC:Nat) (bA:OA) (bC:Nat) (slA:OA) (slC:Nat) (drA:OA) (drC:Nat) (ha:List cD) (heA:OA) (heC:Nat) (faA:OA) (faC:Nat) (prA:OA) (prC:Nat) (hraw:sB j az ha):
 dB Tryz.prog 6 [(vA (gh.cells (nt j kA kC cA cC bA bC slA slC drA drC heA heC faA faC prA prC)))] [(rd kA j.Race.ao.aO.length 9 (j.Race.ao.aO.map au.cells)),(rd cA j.Race.ao.aj.length 2 (List.zipWith ax.cells j.Race.ao.aj az)),(dE (bg ax.e_ j.Race.ao.aj az)),(rd bA j.Race.ao.ab.length 4 (j.Race.ao.ab.map bK.cells)),(rd slA j.Race.aV.length 1 (j.Race.aV.map iC)),(rd drA j.Race.bV.length 1 (j.Race.bV.map iC)),(rd heA j.Race.av.length 1 (List.zipWith bW j.Race.av ha)),(dE (bg er j.Race.av ha)),(rd faA j.aS.length 4 (j.aS.map aZ.cells)),(rd prA j.aJ.length 5 (j.aJ.map br.cells))] (vB (decide (qo j))):=by
 have E:=hraw.race
 have F:=hraw.nf
 have G:=hraw.np
 refine bJ kr Tryz.func6 U U fun AA Q hQ hN=>?_
 try dsimp only
 refine WS fun _ D=>eJ U fun H=>bI 1 U<|RK D<|WS fun _ B=>bI 1 U<|rS (LP (cY.cells (vJ j.Race kA kC cA cC bA bC slA slC drA drC heA heC)) 0 U bU U U U)<|rS (CL (Bf j.Race kA kC az cA cC bA bC slA slC drA drC ha heA heC asm) (bo [1,2,3,4,5,6,7,8]) U)<|rP 1 [] mn ?_
 refine bT (t:=6) U (aT fun C=>?_) (aU fun C=>?_)
 ·refine rP 12 [] mn ?_
  refine RK B<|ar<|Q1 hQ U U U ?_
  (exact cB (cO (show qo j from .inl (.inl C))).symm)
 refine rP 6 [] (mc 0 U mn) ?_
 refine bT (t:=12) U (aT fun A=>?_) (aU fun A=>?_)
 ·refine rP 6 [] mn ?_
  refine RK B<|ar<|Q1 hQ U U U ?_
  (exact cB (cO (show qo j from .inl (.inr A))).symm)
 refine rP 6 [] (mc 0 U mn) ?_
 refine RK B<|ar<|Q1 hQ U U U ?_
 (exact cB (gU.2 (show _↔qo j from ⟨.inr,fun q=>Or.elim q (fun q=>Or.elim q (fun q=>absurd q C) (fun q=>absurd q A)) id⟩)))
end
section
open Go.RowKit
theorem Ev (l:bH) (kA:OA) (kC:Nat) (az:List RA) (cA:OA) (cC:Nat) (bA:OA) (bC:Nat) (d:ak) (sgA:OA) (sgC:Nat) (hin:ej l az) (hle:eT l=0) (hsl:d.aY.aa.length≤1000000) (hk:d.Out=true):
 dB Tryz.prog 129 [(vA (cm.cells (jR l kA kC cA cC bA bC))),(vA (aG.cells (aG.mk d.Out d.cJ d.Time (iN d.aY sgA sgC))))] [(rd kA l.aO.length 9 (l.aO.map au.cells)),(rd cA l.aj.length 2 (List.zipWith ax.cells l.aj az)),(dE (bg ax.e_ l.aj az)),(rd bA l.ab.length 4 (l.ab.map bK.cells)),(rd sgA d.aY.aa.length 2 (d.aY.aa.map aF.cells))] (vT [(vA (ai.cells (o_ l d))),(vB (decide (iW l d)))]):=by
 have K:=hin.rW
 have J:=hin.sG
 have H:=hin.ly
 have AA:=hin.se
 refine bJ kr Tryz.func129 U U fun O Q hQ hN=>?_
 try dsimp only
 refine WS fun _ B=>eJ U fun L=>eJ U fun M=>AL U dU fun N=>bI 1 U<|RK B<|aq fun _ E=>aH<|WS fun _ C=>rP 3 [] (mc 1 U mn) ?_
 refine RK C<|bR U (fun G=>?_) (fun G=>?_)
 ·exact absurd ((hk).symm.trans G) dc
 refine WS fun _ A=>rS (SX (bp (xs:=[]) (cs:=(ai.cells (ai.mk 0 0))) U U (bq gM U)) U U)<|rP 4 [] (mc 1 U mn) ?_
 refine cG (t:=15) U (fun D=>?_) (fun D=>?_)
 ·rw [Bool.not_eq_false'] at D
  refine bI 10 U<|eN U cT U<|rP 1 [] mn ?_
  refine RK A<|ar<|l5 hQ [0] (mc 0 U mn) U ?_
  clear hQ hN A C E B
  rw [Ao hk]
  simp only [rO hk]
  refine congrArg (fun z=>Value.tuple #[_,vB z]) ?_
  first|rfl|(simp_all [eQ]; done)
 rw [Bool.not_eq_true'] at D
 refine bI 1 U<|rS (LP (ai.cells d.Time) 1 U bU U U U)<|rS (SX (bp (xs:=[]) (cs:=(ai.cells (ai.mk 0 0))) U U (bq gM U)) U U)<|rS (BI U (tU _ _ d.Time (ai.mk 0 0)))<|rP 2 [] mn ?_
 refine cG (t:=21) U (aU fun F=>?_) (aT fun F=>?_)
 ·refine bI 4 U<|eN U cT U<|rP 1 [] mn ?_
  refine RK A<|ar<|l5 hQ [0] (mc 0 U mn) U ?_
  clear hQ hN A C E B
  rw [Ao hk]
  simp only [rO hk]
  refine congrArg (fun z=>Value.tuple #[_,vB z]) ?_
  first|rfl|(simp_all [eQ]; done)
 refine bI 1 U<|rS (LP (cL.cells (iN d.aY sgA sgC)) 1 U bU U U U)<|rS (CL (Fi d.aY sgA sgC) (bo [7]) U)<|bI 1 U<|eN U cT U<|rP 1 [] mn ?_
 refine RK A<|ar<|l5 hQ [0] (mc 0 U mn) U ?_
 clear hQ hN A C E B
 rw [Ao hk]
 simp only [rO hk]
 refine congrArg (fun z=>Value.tuple #[_,vB z]) ?_
 first|rfl|(simp_all [eQ]; done)
theorem Dv (l:bH) (kA:OA) (kC:Nat) (az:List RA) (cA:OA) (cC:Nat) (bA:OA) (bC:Nat) (d:ak) (sgA:OA) (sgC:Nat) (hin:ej l az) (hle:eT l=0) (hsl:d.aY.aa.length≤1000000) (hk:d.Out=false∧d.cJ=true):
 dB Tryz.prog 129 [(vA (cm.cells (jR l kA kC cA cC bA bC))),(vA (aG.cells (aG.mk d.Out d.cJ d.Time (iN d.aY sgA sgC))))] [(rd kA l.aO.length 9 (l.aO.map au.cells)),(rd cA l.aj.length 2 (List.zipWith ax.cells l.aj az)),(dE (bg ax.e_ l.aj az)),(rd bA l.ab.length 4 (l.ab.map bK.cells)),(rd sgA d.aY.aa.length 2 (d.aY.aa.map aF.cells))] (vT [(vA (ai.cells (o_ l d))),(vB (decide (iW l d)))]):=by
 have N:=hin.rW
 have M:=hin.sG
 have K:=hin.ly
 have L:=hin.se
 refine bJ kr Tryz.func129 U U fun S Q hQ hN=>?_
 try dsimp only
 refine WS fun _ D=>eJ U fun O=>eJ U fun P=>AL U dU fun R=>bI 1 U<|RK D<|aq fun _ H=>aH<|WS fun _ E=>rP 3 [] (mc 1 U mn) ?_
 refine RK E<|ck U (fun J=>?_) (fun J=>?_)
 ·exact absurd ((hk.1).symm.trans J) dc
 refine WS fun _ F=>rP 3 [] (mc 1 U mn) ?_
 refine RK F<|bR U (fun G=>?_) (fun G=>?_)
 ·exact absurd ((hk.2).symm.trans G) dc
 refine aq fun _ B=>dH cg [10] [] [] [1,2,3,4,5,6,7] [] U U U U U<|eS U (FA 2 U eU U)<|eS U (LP (ai.cells d.Time) 0 U bU U U U)<|eS U (FA 2 U eU U)<|eS U (LP (ai.cells d.Time) 0 U bU U U U)<|eS U (CL (ML d.Time) (aL) U)<|eS U (MV U)<|sJ (t:=34) U (fun A=>?_) (fun A=>?_)
 rotate_left 1
 ·replace A:=DF A
  refine eS U (OX U)<|eS U (OX U)<|eS U (OX U)<|eS U (PK U)<|eS U (AG U)<|eo U<|cp U fun T10 C=>eN U cT U<|aK (C _ _ (aR [1,2,3,4,5,6,7]) ?_)
  refine fK U<|KK B<|ar<|l5 hQ [0] (mc 0 U mn) U ?_
  clear hQ hN C T10 B F E H D
  rw [FW hk]
  simp only [tY hk]
  refine congrArg (fun z=>Value.tuple #[_,vB z]) ?_
  first|rfl|(simp_all; done)
 replace A:=DT A
 refine eS U (FA 4 U eU U)<|eS U (LP (cL.cells (iN d.aY sgA sgC)) 0 U bU U U U)<|eS U (CL (Fi d.aY sgA sgC) (bo [6]) U)<|eS U (PK U)<|eS U (AG U)<|eo U<|cp U fun T9 AA=>eN U cT U<|aK (AA _ _ (aR [1,2,3,4,5,6,7]) ?_)
 refine fK U<|KK B<|ar<|l5 hQ [0] (mc 0 U mn) U ?_
 clear hQ hN AA T9 B F E H D
 rw [FW hk]
 simp only [tY hk]
 refine congrArg (fun z=>Value.tuple #[_,vB z]) ?_
 first|rfl|(simp_all; done)
theorem EG (l:bH) (kA:OA) (kC:Nat) (az:List RA) (cA:OA) (cC:Nat) (bA:OA) (bC:Nat) (d:ak) (sgA:OA) (sgC:Nat) (hin:ej l az) (hle:eT l=0) (hsl:d.aY.aa.length≤1000000) (hk:d.Out=false∧d.cJ=false):
 dB Tryz.prog 129 [(vA (cm.cells (jR l kA kC cA cC bA bC))),(vA (aG.cells (aG.mk d.Out d.cJ d.Time (iN d.aY sgA sgC))))] [(rd kA l.aO.length 9 (l.aO.map au.cells)),(rd cA l.aj.length 2 (List.zipWith ax.cells l.aj az)),(dE (bg ax.e_ l.aj az)),(rd bA l.ab.length 4 (l.ab.map bK.cells)),(rd sgA d.aY.aa.length 2 (d.aY.aa.map aF.cells))] (vT [(vA (ai.cells (o_ l d))),(vB (decide (iW l d)))]):=by
 have O:=hin.rW
 have N:=hin.sG
 have L:=hin.ly
 have M:=hin.se
 refine bJ kr Tryz.func129 U U fun AA Q hQ hN=>?_
 try dsimp only
 refine WS fun _ E=>eJ U fun P=>eJ U fun R=>AL U dU fun S=>bI 1 U<|RK E<|aq fun _ F=>aH<|WS fun _ G=>rP 3 [] (mc 1 U mn) ?_
 refine RK G<|ck U (fun K=>?_) (fun K=>?_)
 ·exact absurd ((hk.1).symm.trans K) dc
 refine WS fun _ H=>rP 3 [] (mc 1 U mn) ?_
 refine RK H<|ck U (fun J=>?_) (fun J=>?_)
 ·exact absurd ((hk.2).symm.trans J) dc
 refine cj<|aP<|KK F<|WS fun _ AB=>eV 2 [] (mc 2 U mn) U<|rS (LP (cL.cells (iN d.aY sgA sgC)) 1 U bU U U U)<|rS (CL (Qe l kA kC az cA cC bA bC d.aY sgA sgC hin hsl) (bo [3,4,5,6,7]) U)<|bI 3 U<|AL U dU fun T=>eN U cT U<|rP 1 [] mn ?_
 refine RK AB<|aq fun _ A=>dH cg [9] [] [] [0,2,3,4,5,6,7,8] [] U U U U U<|eS U (LW 0 U bU U U)<|eS U (MV U)<|eS U (BI U m8)<|eS U (MV U)<|sJ (t:=49) U (fun B=>?_) (fun B=>?_)
 rotate_left 1
 ·replace B:=DF B
  refine eS U (OX U)<|eS U (OX U)<|eS U (OX U)<|eS U (OX U)<|eS U (PK U)<|eS U (AG U)<|eo U<|cp U fun T12 D=>qN U cT U<|aK (D _ _ (aR [0,2,3,4,5,6,7,8]) ?_)
  refine fK U<|KK A<|ar<|l5 hQ [0] (mc 1 U mn) U ?_
  clear hQ hN D T12 A AB H G F E
  rw [Fl hk]
  simp only [ur hk]
  refine congrArg (fun z=>Value.tuple #[_,vB z]) ?_
  first|rfl|(simp_all [eQ]; done)
 replace B:=DT B
 refine eS U (FA 2 U eU U)<|eS U (LP (ai.cells d.Time) 1 U bU U U U)<|eS U (SX (bp (xs:=[]) (cs:=(ai.cells (ai.mk 0 0))) U U (bq gM U)) U U)<|eS U (BI U (tU _ _ d.Time (ai.mk 0 0)))<|eS U (PK U)<|eS U (AG U)<|eo U<|cp U fun T11 C=>qN U cT U<|aK (C _ _ (aR [0,2,3,4,5,6,7,8]) ?_)
 refine fK U<|KK A<|ar<|l5 hQ [0] (mc 1 U mn) U ?_
 clear hQ hN C T11 A AB H G F E
 rw [Fl hk]
 simp only [ur hk]
 refine congrArg (fun z=>Value.tuple #[_,vB z]) ?_
 first|rfl|(simp_all [eQ]; done)
theorem G3 (l:bH) (kA:OA) (kC:Nat) (az:List RA) (cA:OA) (cC:Nat) (bA:OA) (bC:Nat) (d:ak) (sgA:OA) (sgC:Nat) (hin:ej l az) (hle:eT l=0) (hsl:d.aY.aa.length≤1000000):
 dB Tryz.prog 129 [(vA (cm.cells (jR l kA kC cA cC bA bC))),(vA (aG.cells (aG.mk d.Out d.cJ d.Time (iN d.aY sgA sgC))))] [(rd kA l.aO.length 9 (l.aO.map au.cells)),(rd cA l.aj.length 2 (List.zipWith ax.cells l.aj az)),(dE (bg ax.e_ l.aj az)),(rd bA l.ab.length 4 (l.ab.map bK.cells)),(rd sgA d.aY.aa.length 2 (d.aY.aa.map aF.cells))] (vT [(vA (ai.cells (o_ l d))),(vB (decide (iW l d)))]):=by
 by_cases ho:d.Out=true
 ·exact Ev l kA kC az cA cC bA bC d sgA sgC hin hle hsl ho
 by_cases hf:d.cJ=true
 ·exact Dv l kA kC az cA cC bA bC d sgA sgC hin hle hsl ⟨by simpa using ho,hf⟩
 ·exact EG l kA kC az cA cC bA bC d sgA sgC hin hle hsl ⟨by simpa using ho,by simpa using hf⟩
end
section
open Go.RowKit
theorem ED (r:eD) (kA:OA) (kC:Nat) (az:List RA) (cA:OA) (cC:Nat) (bA:OA) (bC:Nat) (slA:OA) (slC:Nat) (drA:OA) (drC:Nat) (ha:List cD) (heA:OA) (heC:Nat) (hin:iF r az ha) (hle:eT r.ao=0):
 nG Tryz.prog 106 [(vA (cY.cells (vJ r kA kC cA cC bA bC slA slC drA drC heA heC)))] [(rd kA r.ao.aO.length 9 (r.ao.aO.map au.cells)),(rd cA r.ao.aj.length 2 (List.zipWith ax.cells r.ao.aj az)),(dE (bg ax.e_ r.ao.aj az)),(rd bA r.ao.ab.length 4 (r.ao.ab.map bK.cells)),(rd slA r.aV.length 1 (r.aV.map iC)),(rd drA r.bV.length 1 (r.bV.map iC)),(rd heA r.av.length 1 (List.zipWith bW r.av ha)),(dE (bg er r.av ha))] (fun (x:Bool×Int×(OA)×Nat×(List RA))=>bif x.1 then (vT [(vS x.2.2.1 ((eK r).length) x.2.2.2.1),(vB true)]) else (vT [(vS none 0 0),(vB false)])) (fun (x:Bool×Int×(OA)×Nat×(List RA))=>(x.1=true→(fD r∧x.2.2.2.2.length=r.av.length))∧(x.1=false→(x.2.1=0∧ ¬ fD r))) (fun (x:Bool×Int×(OA)×Nat×(List RA))=>bif x.1 then [(own x.2.2.1 x.2.2.2.1 121 1 (List.zipWith HT (eK r) x.2.2.2.2)),(bM (bg F5 (eK r) x.2.2.2.2))] else []):=by
 have Op:=hin.line
 have Qr:=hin.g8
 have Qx:=hin.has
 have Pl:=hin.g7
 have PP:=hin.draw
 have Pn:=iL (r:=r)
 refine eO kr Tryz.func106 U U fun w0 Q hQ hN=>?_
 try dsimp only
 refine WS fun _ Lk=>eJ U fun b2=>bI 2 U<|RK Lk<|WS fun _ Lo=>eV 4 [] (mc 0 U mn) U<|RK Lo<|aq fun _ L0=>WS fun _ N=>bI 1 U<|rS (CL (pt (r.aV.length:Int) 1 5) (aL) U)<|rP 2 [] mn ?_
 refine bT (t:=19) U (aX fun K4=>?_) (aW fun K4=>?_)
 ·refine bI 19 U<|RK N<|aN U<|WS fun _ L2=>rP 2 [] mn ?_
  refine RK L2<|ar<|LX hQ (false,0,none,0,[]) [] [] mn U (by rfl) U U ?_
  (exact ⟨Hz,fun _=>⟨rfl,fun q=>by have S:=q.num; have q2:=q.z4; have q3:=q.nh; have q4:=q.zY; omega⟩⟩)
 refine rP 7 [] (mc 0 U mn) ?_
 refine bT (t:=26) U (aX fun X=>?_) (aW fun X=>?_)
 ·refine bI 12 U<|RK N<|aN U<|WS fun _ L3=>rP 2 [] mn ?_
  refine RK L3<|ar<|LX hQ (false,0,none,0,[]) [] [] mn U (by rfl) U U ?_
  (exact ⟨Hz,fun _=>⟨rfl,fun q=>by have S:=q.num; have q2:=q.z4; have q3:=q.nh; have q4:=q.zY; omega⟩⟩)
 refine eV 2 [] (mc 0 U mn) U<|rS (CL (pt r.j9 0 5) (aL) U)<|rP 3 [] mn ?_
 refine bT (t:=32) U (aX fun K5=>?_) (aW fun K5=>?_)
 ·refine bI 6 U<|RK N<|aN U<|WS fun _ MI=>rP 2 [] mn ?_
  refine RK MI<|ar<|LX hQ (false,0,none,0,[]) [] [] mn U (by rfl) U U ?_
  (exact ⟨Hz,fun _=>⟨rfl,fun q=>by have S:=q.num; have q2:=q.z4; have q3:=q.nh; have q4:=q.zY; omega⟩⟩)
 refine eV 3 [] (mc 0 U mn) U<|rS (CL (pt (r.av.length:Int) 1 3) (aL) U)<|rP 2 [] mn ?_
 refine RK N<|ck U (aX fun LA=>?_) (aW fun LA=>?_)
 ·refine WS fun _ MQ=>rP 2 [] mn ?_
  refine RK MQ<|ar<|LX hQ (false,0,none,0,[]) [] [] mn U (by rfl) U U ?_
  (exact ⟨Hz,fun _=>⟨rfl,fun q=>by have S:=q.num; have q2:=q.z4; have q3:=q.nh; have q4:=q.zY; omega⟩⟩)
 refine WK L0<|aq fun _ o=>WS fun _ p=>rP 1 [] mn ?_
 refine RK p<|aH ?_
 have A:(0≤r.aV.length)∧(yq r 0):=by exact ⟨Nat.zero_le _,JS⟩
 refine bS (ι:={z:Nat // (z≤r.aV.length)∧(yq r z)}) [1,4] [0,1,2,3,4,5,6,7,8] U U (fun z=>[(5,(vI (z.1:Int)))]) (fun z=>[]) (fun _=>rfl) (fun _=>rfl) (fun z=>r.aV.length-z.1) ⟨0,A⟩ (bD U) (aR [0,1,2,3,4,5,6,7,8]) ?_
 clear A
 rintro ⟨i,⟨Ne,AB⟩⟩ J12 T
 try dsimp only
 refine aq fun _ s=>WS fun _ v=>rP 3 [] mn ?_
 refine RK v<|bR U (aU fun K0=>?_) (aT fun K0=>?_)
 ·refine bQ<|ag<|ag<|aI<|KK o<|WS fun _ CC=>bI 1 U<|RK CC<|aq fun _ Ci=>WS fun _ Ck=>rP 1 [] mn ?_
  refine RK Ck<|aH<|eX 121 1<|nN ?_
  have A:(0≤r.av.length)∧(([]:List RA).length=0)∧(kz r 0):=by exact ⟨Nat.zero_le _,rfl,yz⟩
  refine bS (ι:={z:Nat×(List RA)×(OA)×Nat // (z.1≤r.av.length)∧(z.2.1.length=z.1)∧(kz r z.1)}) [1,4] [2,3,4,5,6,7,8,9,10] U U (fun z=>[(7,(vS z.1.2.2.1 ((List.zipWith C_ (g0 r z.1.1) z.1.2.1).length) z.1.2.2.2)),(8,(vI (z.1.1:Int)))]) (fun z=>[(bM (bg F5 (g0 r z.1.1) z.1.2.1)),(own z.1.2.2.1 z.1.2.2.2 121 1 (List.map sC (List.zipWith C_ (g0 r z.1.1) z.1.2.1)))]) (fun _=>rfl) (fun _=>rfl) (fun z=>r.av.length-z.1.1) ⟨(0,([]:List RA),none,0),A⟩ (bD U) (aR [2,3,4,5,6,7,8,9,10,0,1]) ?_
  clear A
  rintro ⟨⟨h,tz,a,c⟩,⟨P,C,F⟩⟩ J46 l
  try dsimp only at P C F
  try dsimp only
  refine aq fun _ Cp=>WS fun _ Cx=>rP 5 [] (mc 0 U mn) ?_
  refine RK Cx<|bR U (aU fun LD=>?_) (aT fun LD=>?_)
  ·refine bQ<|ag<|ag<|aI<|KK Ci<|aq fun _ GT=>?_
   have NE:g0 r h=eK r:=by unfold eK; rw [show h=r.av.length by omega]
   have Or:tz.length=r.av.length:=by omega
   rw [NE,zp,show (List.zipWith C_ (eK r) tz).length=(eK r).length from by rw [List.length_zipWith]; omega]
   have J2:fD r:=GZ (n:=i) I I I I I AB F I
   refine aw<|rP 3 [] mn ?_
   refine RK GT<|ar ?_
   refine LX hQ (true,0,a,c,tz) [10,9] [] mn U (by (show List.all _ _=true; simp only [cond_true,il,List.all_nil,Ep,Bool.and_true]; rfl)) U U ?_
   exact ⟨fun _=>⟨J2,Or⟩,Pj⟩
  refine WK Cp<|aq fun _ C0=>aH<|aq fun _ C1=>WS fun _ C2=>rP 3 [] (mc 0 U mn) ?_
  obtain ⟨ht,D⟩:=aC r.av h I
  obtain ⟨E,H⟩:=aC ha h I
  have W:(List.zipWith bW r.av ha)[h]? =some (bW ht E):=cv D H
  refine rS (IA h U (ay 7 U) j8 dc I I) ?_
  have Je:=hin.ek _ _ _ D H
  have Pi:=Je.ly
  refine rS (gD h 0 (vS E.1.1 ht.length E.1.2) U bU (ay 7 U) W U dc U)<|rP 3 [] mn ?_
  refine RK C2<|ck U (aX fun e=>?_) (aW fun e=>?_)
  ·refine WS fun _ C3=>rP 2 [] mn ?_
   refine RK C3<|ar<|LX hQ (false,0,none,0,[]) [] [] mn U (by rfl) U U ?_
   (exact ⟨Hz,fun _=>⟨rfl,fun q=>by have S:=(q.ek ht (aM D)).1; omega⟩⟩)
  refine WK C1<|WS fun _ Di=>bI 1 U<|RK Di<|aq fun _ Dj=>WS fun _ Do=>rP 1 [] mn ?_
  refine RK Do<|aH<|eX 38 2 ?_
  have A:(0≤ht.length)∧(oI r.ao ht 0):=by exact ⟨Nat.zero_le _,wm⟩
  refine bS (ι:={z:Nat×(OA)×Nat // (z.1≤ht.length)∧(oI r.ao ht z.1)}) [1,4,7,8] [1,2,3,4,5,6,7,8,9,10,11] U U (fun z=>[(9,(vS z.1.2.1 (((ht.take z.1.1).map (fX r.ao)).length) z.1.2.2)),(10,(vI (z.1.1:Int)))]) (fun z=>[(own z.1.2.1 z.1.2.2 38 2 (((ht.take z.1.1).map (fX r.ao)).map ai.cells))]) (fun _=>rfl) (fun _=>rfl) (fun z=>ht.length-z.1.1) ⟨(0,none,0),A⟩ (bD U) (aR [1,2,3,4,5,6,7,8,9,10,11,0]) ?_
  clear A
  rintro ⟨⟨j,la,lc⟩,⟨R,G⟩⟩ J57 m
  try dsimp only at R G
  try dsimp only
  refine aq fun _ EQ=>WS fun _ Eq=>rP 3 [] mn ?_
  refine RK Eq<|bR U (aU fun La=>?_) (aT fun La=>?_)
  ·refine bQ<|ag<|ag<|aI<|KK Dj<|aw ?_
   rw [show ((ht.take j).map (fX r.ao))=ht.map (fX r.ao) from by rw [List.take_of_length_le I]]
   refine rP 2 [] mn ?_
   refine ew (xs:=[.tmp 137]) (cs:=[(vS la ((ht.map (fX r.ao)).length) lc)]) U Fq Oy U U U U (by simp [Value.cells]) U U fun Qh=>?_
   refine ed (es2:=(List.map sC (List.zipWith C_ (g0 r (h+1)) (tz++[(la,lc)])))) (m':=(List.zipWith C_ (g0 r (h+1)) (tz++[(la,lc)])).length) 11 U U U On U U sm (bx (es:=List.map sC [(bE.mk la ((ht.map (fX r.ao)).length) lc)]) 0 U U (by simp [zV]) U) (Ka _) (by rw [List.length_zipWith,lk I]; omega) (by rw [List.length_zipWith,lk I]; simp only [maxLen]; omega) (by rw [uQ D C,List.map_append]; rfl) (by rw [uQ D C]; simp) U fun J8 Kl=>?_
   try dsimp only
   refine bI 1 U<|aK<|aP<|KK C0<|aw<|rP 3 [] mn ?_
   refine aK<|zS (X':=bg F5 (g0 r (h+1)) (tz++[(la,lc)])) 10 12 U U (Bo (a:=(la,lc)) D C) ?_
   have In:(vI (((h+1):Nat):Int))=(vI ((h:Int)+1)):=by exact cI I
   refine bu (l ⟨((h+1),(tz++[(la,lc)]),J8,Kl),⟨I,by simp; omega,xI F D (F3 I G I)⟩⟩ _ _ _ U os (cP 3<|bw U In<|dp.nil _) (aR [2,3,4,5,6,7,8,9,10,0,11]))
  refine WK EQ<|aq fun _ FQ=>aH<|aq fun _ FS=>dH cg [14,15] [] [] [0,1,2,3,4,5,6,7,8,9,10,11] [] U U U U U<|eS U (FA 0 U eU U)<|eS U (LP (cm.cells (jR r.ao kA kC cA cC bA bC)) 0 U bU U U U)<|eS U (FA 10 U eU U)<|eS U (L1 (vS heA r.av.length heC) 0 U bU U U)<|eS U (MV U)<|eS U (IA h U (ay 7 U) j8 dc I I)<|eS U (gD h 0 (vS E.1.1 ht.length E.1.2) U bU (ay 7 U) W U dc U)<|eS U (MV U) ?_
  obtain ⟨d,hd⟩:=aC ht j I
  obtain ⟨da,I0⟩:=aC E.2 j I
  have M2:(List.zipWith ak.cells ht E.2)[j]? =some (ak.cells d da):=cv hd I0
  refine eS U (IA j U (show fY _ (rd E.1.1 ht.length 7 (List.zipWith ak.cells ht E.2)).holds from (bX 8 U (a_ D H bY))) mM dc I I)<|eS U (jD j 0 (aG.cells (aG.mk d.Out d.cJ d.Time (cL.mk d.aY.Start d.aY.gj (bE.mk da.1 d.aY.aa.length da.2)))) U bU (show fY _ (rd E.1.1 ht.length 7 (List.zipWith ak.cells ht E.2)).holds from (bX 8 U (a_ D H bY))) M2 U dc U U) ?_
  have Q0:=Je.sig d (aM hd)
  refine eS U (CL (G3 r.ao kA kC az cA cC bA bC d da.1 da.2 asm hle asm) (ld [1,2,3,4]<|aD (show fY _ (rd da.1 d.aY.aa.length 2 (d.aY.aa.map aF.cells)).holds from (bX 8 U (a_ D H (dh _ (a_ hd I0 (by simp [ak.e_]))))))<|aL) U)<|eS U (MV U)<|eS U (EX U)<|eS U (EX U)<|eS U (AG U)<|eo U<|cp U fun T63 Go=>AL U dU fun Ps=>aK (Go _ _ (aR [1,2,3,4,5,6,7,8,9,10,11,12]) ?_)
  refine cp U fun T65 Hi=>eN U cT U<|aK (Hi _ _ (aR [1,2,3,4,5,6,7,8,9,10,11,12]) ?_)
  refine fK U<|KK FS<|aq fun _ Fd=>WS fun _ Fn=>rP 2 [] mn ?_
  refine RK Fn<|ck U (aX fun J=>?_) (aW fun J=>?_)
  ·refine WS fun _ GE=>rP 2 [] mn ?_
   refine RK GE<|ar<|LX hQ (false,0,none,0,[]) [] [] mn U (by rfl) U U ?_
   (exact ⟨Hz,fun _=>⟨rfl,fun q=>by exact J ((q.ek ht (aM D)).2 d (aM hd))⟩⟩)
  refine WK Fd<|aw<|rP 2 [] (mc 0 U mn) ?_
  refine ew (xs:=[.tmp 133]) (cs:=(ai.cells (o_ r.ao d))) U kX dU U U U U (by simp [Value.cells,ai.bk]) U U fun QS=>?_
  refine ed (es2:=(List.map ai.cells ((ht.take (j+1)).map (fX r.ao)))) (m':=((ht.take (j+1)).map (fX r.ao)).length) 13 U U U EP U U sm (bx (es:=List.map ai.cells [(o_ r.ao d)]) 0 U U (by simp [ai.bk]) U) (kY _) (by simp only [List.length_map,List.length_take]; omega) (by simp only [maxLen,List.length_map,List.length_take]; omega) (by rw [List.take_add_one,hd]; simp [JN J]) sq U fun J7 J9=>?_
  try dsimp only
  refine bI 1 U<|aK<|aP<|KK FQ<|aw<|rP 3 [] mn ?_
  refine aK ?_
  have If:(vI (((j+1):Nat):Int))=(vI ((j:Int)+1)):=by exact cI I
  refine bu (m ⟨((j+1),J7,J9),⟨I,vY G hd J⟩⟩ _ _ _ U os (cP 5<|bw U If<|dp.nil _) (aR [2,3,4,5,6,7,8,9,10,11,12,13]))
 refine WK s<|aq fun _ AA=>aH<|aq fun _ V=>aq fun _ K=>cW cg 36 kr<|dP 3 [] (mc 0 U mn) ?_
 obtain ⟨y,hy⟩:=aC r.aV i I
 have J3:=bO iC hy
 refine dS (IA i U (ay 5 U) dy dc I I)<|dS (gD i 0 (vI y) U bU (ay 5 U) J3 U dc U)<|dS (CL (pt y 0 9999) (aL) U)<|dP 2 [] mn ?_
 refine gP (t:=51) U (aX fun LE=>?_) (aW fun LE=>?_)
 ·refine kR 28 U<|cx<|RK K<|aN U<|WS fun _ w=>rP 2 [] mn ?_
  refine RK w<|ar<|LX hQ (false,0,none,0,[]) [] [] mn U (by rfl) U U ?_
  (exact ⟨Hz,fun _=>⟨rfl,fun q=>by have S:=(q.ids i y hy).1; omega⟩⟩)
 refine dP 3 [] mn ?_
 refine hP (t:=54) U (aU fun LT=>?_) (aT fun LT=>?_)
 ·refine dP 18 [] (mc 0 U mn) ?_
  obtain ⟨x,hx⟩:=aC r.bV i I
  have M:=bO iC hx
  refine dS (IA i U (ay 6 U) dy dc I I)<|dS (gD i 0 (vI x) U bU (ay 6 U) M U dc U)<|kR 2 U<|dS (CL (pt x 0 ((r.aV.length:Int)-1)) (aL) U)<|dP 2 [] mn ?_
  refine cx<|RK K<|ck U (aX fun Y=>?_) (aW fun Y=>?_)
  ·refine WS fun _ A5=>rP 2 [] mn ?_
   refine RK A5<|ar<|LX hQ (false,0,none,0,[]) [] [] mn U (by rfl) U U ?_
   (exact ⟨Hz,fun _=>⟨rfl,fun q=>by have S:=q.Kw hx; omega⟩⟩)
  refine WK V<|WS fun _ A6=>rP 1 [] mn ?_
  refine RK A6<|aH ?_
  have A:(0≤i)∧(∀ (q:Nat) y,q<0→r.bV[q]? =some y→y≠x):=by exact ⟨Nat.zero_le _,fun q y hq=>absurd hq (Nat.not_lt_zero _)⟩
  refine bS (ι:={z:Nat // (z≤i)∧(∀ (q:Nat) y,q<z→r.bV[q]? =some y→y≠x)}) [1,4,5] [0,1,2,3,4,5,6,7,8] U U (fun z=>[(6,(vI (z.1:Int)))]) (fun z=>[]) (fun _=>rfl) (fun _=>rfl) (fun z=>i-z.1) ⟨0,A⟩ (bD U) (aR [0,1,2,3,4,5,6,7,8]) ?_
  clear A
  rintro ⟨k,⟨O,B⟩⟩ J34 g
  try dsimp only
  refine aq fun _ A7=>WS fun _ A8=>rP 3 [] mn ?_
  refine RK A8<|bR U (aU fun K8=>?_) (aT fun K8=>?_)
  ·refine bQ<|ag<|ag<|aI<|aP<|KK AA<|aw<|rP 3 [] mn ?_
   refine aK ?_
   have Id:(vI (((i+1):Nat):Int))=(vI ((i:Int)+1)):=by exact cI I
   refine bu (T ⟨(i+1),⟨I,Ca AB (fun a ha=>by rw [hy] at ha; cases ha; exact ⟨I,fun b hb hc=>by omega⟩) (fun a ha=>by rw [hx] at ha; cases ha; exact ⟨I,fun k b hk hb=>B k b I hb⟩)⟩⟩ _ _ _ rfl os (dp.cons rfl<|dp.cons rfl<|bw rfl Id<|dp.nil _) (aR [0,1,2,3,4,5,6,7,8]))
  refine WK A7<|aq fun _ A9=>aH<|aq fun _ B3=>cW cg 11 kr<|dP 3 [] (mc 0 U mn) ?_
  obtain ⟨u,hu⟩:=aC r.bV k I
  have Z:=bO iC hu
  refine dS (IA k U (ay 6 U) dy dc I I)<|dS (gD k 0 (vI u) U bU (ay 6 U) Z U dc U)<|kv 3 [] (mc 0 U mn) U<|dS (IA i U (ay 6 U) dy dc I I)<|dS (gD i 0 (vI x) U bU (ay 6 U) M U dc U)<|dP 1 [] mn ?_
  refine cx<|RK B3<|bR U (aU fun L=>?_) (aT fun L=>?_)
  ·refine cj<|aP<|KK A9<|aw<|rP 3 [] mn ?_
   refine aK ?_
   have IR:(vI (((k+1):Nat):Int))=(vI ((k:Int)+1)):=by exact cI I
   refine bu (g ⟨(k+1),⟨I,xp B hu L⟩⟩ _ _ _ U os (cP 3<|bw U IR<|dp.nil _) (aR [0,1,2,3,4,5,6,7,8]))
  refine WS fun _ B9=>rP 2 [] mn ?_
  refine RK B9<|ar<|LX hQ (false,0,none,0,[]) [] [] mn U (by rfl) U U ?_
  (exact ⟨Hz,fun _=>⟨rfl,fun q=>by have S:=q.num; have q2:=q.z4; have q3:=q.nh; have q4:=q.zY; omega⟩⟩)
 refine kv 3 [] (mc 0 U mn) U<|dS (IA i U (ay 5 U) dy dc I I)<|dS (gD i 0 (vI y) U bU (ay 5 U) J3 U dc U)<|dP 4 [] (mc 0 U mn) ?_
 obtain ⟨z,hz⟩:=aC r.aV (i-1) I
 have Os:=bO iC hz
 refine dS (IA (i-1) U (ay 5 U) dy dc I I)<|dS (gD (i-1) 0 (vI z) U bU (ay 5 U) Os U dc U)<|dP 4 [] mn ?_
 refine gP (t:=69) U (aT fun Li=>?_) (aU fun Li=>?_)
 ·refine kR 10 U<|cx<|RK K<|aN U<|WS fun _ AC=>rP 2 [] mn ?_
  refine RK AC<|ar<|LX hQ (false,0,none,0,[]) [] [] mn U (by rfl) U U ?_
  (exact ⟨Hz,fun _=>⟨rfl,fun q=>by have S:=(q.ids i y hy).2 z I hz; omega⟩⟩)
 refine dP 3 [] (mc 0 U mn) ?_
 obtain ⟨x,hx⟩:=aC r.bV i I
 have M:=bO iC hx
 refine dS (IA i U (ay 6 U) dy dc I I)<|dS (gD i 0 (vI x) U bU (ay 6 U) M U dc U)<|kR 2 U<|dS (CL (pt x 0 ((r.aV.length:Int)-1)) (aL) U)<|dP 2 [] mn ?_
 refine cx<|RK K<|ck U (aX fun Y=>?_) (aW fun Y=>?_)
 ·refine WS fun _ AK=>rP 2 [] mn ?_
  refine RK AK<|ar<|LX hQ (false,0,none,0,[]) [] [] mn U (by rfl) U U ?_
  (exact ⟨Hz,fun _=>⟨rfl,fun q=>by have S:=q.Kw hx; omega⟩⟩)
 refine WK V<|WS fun _ AO=>rP 1 [] mn ?_
 refine RK AO<|aH ?_
 have A:(0≤i)∧(∀ (q:Nat) y,q<0→r.bV[q]? =some y→y≠x):=by exact ⟨Nat.zero_le _,fun q y hq=>absurd hq (Nat.not_lt_zero _)⟩
 refine bS (ι:={z:Nat // (z≤i)∧(∀ (q:Nat) y,q<z→r.bV[q]? =some y→y≠x)}) [1,4,5] [0,1,2,3,4,5,6,7,8] U U (fun z=>[(6,(vI (z.1:Int)))]) (fun z=>[]) (fun _=>rfl) (fun _=>rfl) (fun z=>i-z.1) ⟨0,A⟩ (bD U) (aR [0,1,2,3,4,5,6,7,8]) ?_
 clear A
 rintro ⟨k,⟨O,B⟩⟩ J23 f
 try dsimp only
 refine aq fun _ A0=>WS fun _ A1=>rP 3 [] mn ?_
 refine RK A1<|bR U (aU fun X=>?_) (aT fun X=>?_)
 ·refine bQ<|ag<|ag<|aI<|aP<|KK AA<|aw<|rP 3 [] mn ?_
  refine aK ?_
  have IO:(vI (((i+1):Nat):Int))=(vI ((i:Int)+1)):=by exact cI I
  refine bu (T ⟨(i+1),⟨I,Ca AB (fun a ha=>by rw [hy] at ha; cases ha; exact ⟨I,fun b hb hc=>by (rw [hz] at hc; cases hc; omega)⟩) (fun a ha=>by rw [hx] at ha; cases ha; exact ⟨I,fun k b hk hb=>B k b I hb⟩)⟩⟩ _ _ _ rfl os (dp.cons rfl<|dp.cons rfl<|bw rfl IO<|dp.nil _) (aR [0,1,2,3,4,5,6,7,8]))
 refine WK A0<|aq fun _ A2=>aH<|aq fun _ A3=>cW cg 11 kr<|dP 3 [] (mc 0 U mn) ?_
 obtain ⟨u,hu⟩:=aC r.bV k I
 have Z:=bO iC hu
 refine dS (IA k U (ay 6 U) dy dc I I)<|dS (gD k 0 (vI u) U bU (ay 6 U) Z U dc U)<|kv 3 [] (mc 0 U mn) U<|dS (IA i U (ay 6 U) dy dc I I)<|dS (gD i 0 (vI x) U bU (ay 6 U) M U dc U)<|dP 1 [] mn ?_
 refine cx<|RK A3<|bR U (aU fun L=>?_) (aT fun L=>?_)
 ·refine cj<|aP<|KK A2<|aw<|rP 3 [] mn ?_
  refine aK ?_
  have H1:(vI (((k+1):Nat):Int))=(vI ((k:Int)+1)):=by exact cI I
  refine bu (f ⟨(k+1),⟨I,xp B hu L⟩⟩ _ _ _ U os (cP 3<|bw U H1<|dp.nil _) (aR [0,1,2,3,4,5,6,7,8]))
 refine WS fun _ A4=>rP 2 [] mn ?_
 refine RK A4<|ar<|LX hQ (false,0,none,0,[]) [] [] mn U (by rfl) U U ?_
 (exact ⟨Hz,fun _=>⟨rfl,fun q=>by exact q.O8 I hu hx L⟩⟩)
end
section
open Go.RowKit
theorem GC (r:eD) (kA:OA) (kC:Nat) (az:List RA) (cA:OA) (cC:Nat) (bA:OA) (bC:Nat) (slA:OA) (slC:Nat) (drA:OA) (drC:Nat) (ha:List cD) (heA:OA) (heC:Nat) (hin:iF r az ha):
 nG Tryz.prog 86 [(vA (cY.cells (vJ r kA kC cA cC bA bC slA slC drA drC heA heC)))] [(rd kA r.ao.aO.length 9 (r.ao.aO.map au.cells)),(rd cA r.ao.aj.length 2 (List.zipWith ax.cells r.ao.aj az)),(dE (bg ax.e_ r.ao.aj az)),(rd bA r.ao.ab.length 4 (r.ao.ab.map bK.cells)),(rd slA r.aV.length 1 (r.aV.map iC)),(rd drA r.bV.length 1 (r.bV.map iC)),(rd heA r.av.length 1 (List.zipWith bW r.av ha)),(dE (bg er r.av ha))] (fun (x:Bool×Int×(OA)×Nat×(List RA))=>bif x.1 then (vT [(vS x.2.2.1 ((eK r).length) x.2.2.2.1),(vI 0)]) else (vT [(vS none 0 0),(vI x.2.1)])) (fun (x:Bool×Int×(OA)×Nat×(List RA))=>(x.1=true→(gf r=0∧x.2.2.2.2.length=r.av.length))∧(x.1=false→(x.2.1=gf r∧ ¬ gf r=0))) (fun (x:Bool×Int×(OA)×Nat×(List RA))=>bif x.1 then [(own x.2.2.1 x.2.2.2.1 121 1 (List.zipWith HT (eK r) x.2.2.2.2)),(bM (bg F5 (eK r) x.2.2.2.2))] else []):=by
 have AA:=hin.line
 have b:=hin.g8
 have c:=hin.has
 have Z:=hin.g7
 have Y:=hin.draw
 have a:=iL (r:=r)
 refine eO kr Tryz.func86 U U fun f Q hQ hN=>?_
 try dsimp only
 refine WS fun _ O=>eJ U fun e=>bI 2 U<|RK O<|aq fun _ P=>WS fun _ R=>bI 1 U<|rS (LP (cm.cells (jR r.ao kA kC cA cC bA bC)) 0 U bU U U U)<|rS (CL (C9 r.ao kA kC az cA cC bA bC asm) (bo [1,2,3,4]) U)<|bI 1 U<|RK R<|WS fun _ S=>rP 2 [] mn ?_
 refine RK S<|ck U (aX fun A=>?_) (aW fun A=>?_)
 ·refine WS fun _ T=>rP 3 [] mn ?_
  refine RK T<|ar<|LX hQ (false,(eT r.ao),none,0,[]) [] [] mn U (by rfl) U U ?_
  exact qF<|QZ (zL A) A
 refine WK P<|WS fun _ G=>rP 1 [] (mc 0 U mn) ?_
 refine cX (ED r kA kC az cA cC bA bC slA slC drA drC ha heA heC hin (by exact A)) (bo [1,2,3,4,5,6,7,8]) U fun d J=>?_
 obtain ⟨K,W,L,M,N⟩:=d
 cases K
 rotate_left 1
 ·obtain ⟨AB,V⟩:=J.1 rfl
  try dsimp only [cond_true,cond_false,List.cons_append,List.nil_append]
  refine bI 5 U<|RK G<|aq fun _ D=>WS fun _ E=>bI 2 U<|RK E<|cq U<|WK D<|WS fun _ F=>rP 3 [] mn ?_
  refine RK F<|ar ?_
  refine LX hQ (true,0,L,M,N) [0,1] [] mn U (by (show List.all _ _=true; simp only [cond_true,il,List.all_nil,Ep,Bool.and_true]; rfl)) U U ?_
  exact ⟨fun _=>⟨Cb A AB,V⟩,Pj⟩
 obtain ⟨H,he⟩:=J.2 rfl
 try dsimp only at H he
 subst H
 try dsimp only [cond_true,cond_false,List.cons_append,List.nil_append]
 refine bI 5 U<|RK G<|aq fun _ X=>WS fun _ B=>bI 2 U<|RK B<|aN U<|WS fun _ C=>rP 2 [] mn ?_
 refine RK C<|ar<|LX hQ (false,60,none,0,[]) [] [] mn U (by rfl) U U ?_
 exact qF<|sT (kN A he)
end
section
open Go.RowKit
theorem G8 (r:eD) (kA:OA) (kC:Nat) (az:List RA) (cA:OA) (cC:Nat) (bA:OA) (bC:Nat) (slA:OA) (slC:Nat) (drA:OA) (drC:Nat) (ha:List cD) (heA:OA) (heC:Nat) (hin:iF r az ha):
 dB Tryz.prog 56 [(vA (cY.cells (vJ r kA kC cA cC bA bC slA slC drA drC heA heC)))] [(rd kA r.ao.aO.length 9 (r.ao.aO.map au.cells)),(rd cA r.ao.aj.length 2 (List.zipWith ax.cells r.ao.aj az)),(dE (bg ax.e_ r.ao.aj az)),(rd bA r.ao.ab.length 4 (r.ao.ab.map bK.cells)),(rd slA r.aV.length 1 (r.aV.map iC)),(rd drA r.bV.length 1 (r.bV.map iC)),(rd heA r.av.length 1 (List.zipWith bW r.av ha)),(dE (bg er r.av ha))] (vI (gf r)):=by
 have H:=hin.line
 have M:=hin.g8
 have N:=hin.has
 have J:=hin.g7
 have AB:=hin.draw
 have K:=iL (r:=r)
 refine bJ kr Tryz.func56 U U fun V Q hQ hN=>?_
 try dsimp only
 refine WS fun _ G=>eJ U fun AA=>bI 1 U<|RK G<|WS fun _ C=>rP 1 [] (mc 0 U mn) ?_
 refine cX (GC r kA kC az cA cC bA bC slA slC drA drC ha heA heC hin) (bo [1,2,3,4,5,6,7,8]) U fun T E=>?_
 obtain ⟨F,L,P,R,S⟩:=T
 cases F
 rotate_left 1
 ·obtain ⟨he,O⟩:=E.1 rfl
  try dsimp only [cond_true,cond_false,List.cons_append,List.nil_append]
  refine bI 5 U<|RK C<|WS fun _ B=>rP 2 [] mn ?_
  refine RK B<|ar<|Q1 hQ U U U ?_
  first|rfl|(rw [he])
 obtain ⟨D,he⟩:=E.2 rfl
 try dsimp only at D he
 subst D
 try dsimp only [cond_true,cond_false,List.cons_append,List.nil_append]
 refine bI 5 U<|RK C<|WS fun _ A=>rP 2 [] mn ?_
 refine RK A<|ar<|Q1 hQ U U U ?_
 first|rfl|(rw [he])
end
section
open Go.RowKit
theorem G_ (j:cS) (kA:OA) (kC:Nat) (az:List RA) (cA:OA) (cC:Nat) (bA:OA) (bC:Nat) (slA:OA) (slC:Nat) (drA:OA) (drC:Nat) (ha:List cD) (heA:OA) (heC:Nat) (faA:OA) (faC:Nat) (prA:OA) (prC:Nat) (hin:gX j az ha) (hjr:gf j.Race=0):
 dB Tryz.prog 72 [(vA (gh.cells (nt j kA kC cA cC bA bC slA slC drA drC heA heC faA faC prA prC)))] [(rd kA j.Race.ao.aO.length 9 (j.Race.ao.aO.map au.cells)),(rd cA j.Race.ao.aj.length 2 (List.zipWith ax.cells j.Race.ao.aj az)),(dE (bg ax.e_ j.Race.ao.aj az)),(rd bA j.Race.ao.ab.length 4 (j.Race.ao.ab.map bK.cells)),(rd slA j.Race.aV.length 1 (j.Race.aV.map iC)),(rd drA j.Race.bV.length 1 (j.Race.bV.map iC)),(rd heA j.Race.av.length 1 (List.zipWith bW j.Race.av ha)),(dE (bg er j.Race.av ha)),(rd faA j.aS.length 4 (j.aS.map aZ.cells)),(rd prA j.aJ.length 5 (j.aJ.map br.cells))] (vB (decide (pV j))):=by
 have n:=hin.race
 have Pi:=hin.race.line
 have R5:=hin.race.g8
 have R6:=hin.race.has
 have Qh:=hin.race.g7
 have Ps:=hin.nf
 have QS:=hin.np
 have R7:=(d_ hjr).1
 have J5:=(d_ hjr).2
 refine bJ kr Tryz.func72 U U fun w0 Q hQ hN=>?_
 try dsimp only
 refine WS fun _ Ne=>eJ U fun b2=>bI 1 U<|RK Ne<|aq fun _ Op=>WS fun _ a=>rP 5 [] (mc 0 U mn) ?_
 refine bT (t:=12) U (aT fun h5=>?_) (aU fun h5=>?_)
 ·refine bI 17 U<|RK a<|aN U<|WS fun _ Or=>rP 1 [] mn ?_
  refine RK Or<|ar<|Q1 hQ U U U ?_
  first|exact cB (bj (fun q=>by have C:=q.nf; have H:=q.min_; have J:=q.tn; have K:=q.np; omega)).symm|exact cB (bj (fun q=>by have C:=q.fault f (aM hf); unfold e7 at C; split at C<;>omega)).symm|exact cB (bj (fun q=>by have A:=q.ib _ p hp; have C:=A.id; have H:=A.jT; have J:=A.ek; have K:=A.fault; simp only [mD] at H; first|omega|(have V:=A.up AA I L; omega))).symm|exact cB (bj (fun q=>by obtain ⟨R,G,AB,T⟩:=(q.ib _ p hp).lY; rw [F] at G; cases G; first|exact E AB|exact h148 AB|omega)).symm|exact cB (cO ⟨I,dQ D I,I,I,I,fun i p hi=>B i p (by have:=(bf.1 hi).1; omega) hi⟩).symm
 refine eV 2 [] (mc 0 U mn) U<|rS (CL (jc j.iy 0 60) (aL) U)<|rP 3 [] mn ?_
 refine bT (t:=18) U (aX fun h7=>?_) (aW fun h7=>?_)
 ·refine bI 11 U<|RK a<|aN U<|WS fun _ Os=>rP 1 [] mn ?_
  refine RK Os<|ar<|Q1 hQ U U U ?_
  first|exact cB (bj (fun q=>by have C:=q.nf; have H:=q.min_; have J:=q.tn; have K:=q.np; omega)).symm|exact cB (bj (fun q=>by have C:=q.fault f (aM hf); unfold e7 at C; split at C<;>omega)).symm|exact cB (bj (fun q=>by have A:=q.ib _ p hp; have C:=A.id; have H:=A.jT; have J:=A.ek; have K:=A.fault; simp only [mD] at H; first|omega|(have V:=A.up AA I L; omega))).symm|exact cB (bj (fun q=>by obtain ⟨R,G,AB,T⟩:=(q.ib _ p hp).lY; rw [F] at G; cases G; first|exact E AB|exact h148 AB|omega)).symm|exact cB (cO ⟨I,dQ D I,I,I,I,fun i p hi=>B i p (by have:=(bf.1 hi).1; omega) hi⟩).symm
 refine eV 2 [] (mc 0 U mn) U<|rS (CL (jc j.Dj 0 100000) (aL) U)<|rP 3 [] mn ?_
 refine bT (t:=24) U (aX fun h9=>?_) (aW fun h9=>?_)
 ·refine bI 5 U<|RK a<|aN U<|WS fun _ s=>rP 1 [] mn ?_
  refine RK s<|ar<|Q1 hQ U U U ?_
  first|exact cB (bj (fun q=>by have C:=q.nf; have H:=q.min_; have J:=q.tn; have K:=q.np; omega)).symm|exact cB (bj (fun q=>by have C:=q.fault f (aM hf); unfold e7 at C; split at C<;>omega)).symm|exact cB (bj (fun q=>by have A:=q.ib _ p hp; have C:=A.id; have H:=A.jT; have J:=A.ek; have K:=A.fault; simp only [mD] at H; first|omega|(have V:=A.up AA I L; omega))).symm|exact cB (bj (fun q=>by obtain ⟨R,G,AB,T⟩:=(q.ib _ p hp).lY; rw [F] at G; cases G; first|exact E AB|exact h148 AB|omega)).symm|exact cB (cO ⟨I,dQ D I,I,I,I,fun i p hi=>B i p (by have:=(bf.1 hi).1; omega) hi⟩).symm
 refine rP 5 [] (mc 0 U mn) ?_
 refine RK a<|ck U (aT fun J7=>?_) (aU fun J7=>?_)
 ·refine WS fun _ u=>rP 1 [] mn ?_
  refine RK u<|ar<|Q1 hQ U U U ?_
  first|exact cB (bj (fun q=>by have C:=q.nf; have H:=q.min_; have J:=q.tn; have K:=q.np; omega)).symm|exact cB (bj (fun q=>by have C:=q.fault f (aM hf); unfold e7 at C; split at C<;>omega)).symm|exact cB (bj (fun q=>by have A:=q.ib _ p hp; have C:=A.id; have H:=A.jT; have J:=A.ek; have K:=A.fault; simp only [mD] at H; first|omega|(have V:=A.up AA I L; omega))).symm|exact cB (bj (fun q=>by obtain ⟨R,G,AB,T⟩:=(q.ib _ p hp).lY; rw [F] at G; cases G; first|exact E AB|exact h148 AB|omega)).symm|exact cB (cO ⟨I,dQ D I,I,I,I,fun i p hi=>B i p (by have:=(bf.1 hi).1; omega) hi⟩).symm
 refine WK Op<|aq fun _ v=>WS fun _ w=>rP 1 [] mn ?_
 refine RK w<|aH ?_
 have S:(0≤j.aS.length)∧(pd j 0):=by exact ⟨Nat.zero_le _,CG⟩
 refine bS (ι:={z:Nat // (z≤j.aS.length)∧(pd j z)}) [1] [0,1,2,3,4,5,6,7,8,9,10] U U (fun z=>[(3,(vI (z.1:Int)))]) (fun z=>[]) (fun _=>rfl) (fun _=>rfl) (fun z=>j.aS.length-z.1) ⟨0,S⟩ (bD U) (aR [0,1,2,3,4,5,6,7,8,9,10]) ?_
 clear S
 rintro ⟨i,⟨PP,D⟩⟩ J15 W
 try dsimp only
 refine aq fun _ x=>WS fun _ y=>rP 5 [] (mc 0 U mn) ?_
 refine RK y<|ck U (aT fun J8=>?_) (aU fun J8=>?_)
 ·refine WK x<|aq fun _ X=>aH<|WS fun _ AC=>rP 3 [] (mc 0 U mn) ?_
  obtain ⟨f,hf⟩:=aC j.aS i I
  have O8:=bO aZ.cells hf
  refine rS (IA i U (ay 9 U) C5 dc I I)<|rS (jD i 0 (aZ.cells f) U bU (ay 9 U) O8 U dc U U)<|AL U Ql fun Qr=>eN U RL U<|RK AC<|aq fun _ AK=>WS fun _ c=>eV 4 [] (mc 0 U mn) U<|rS (CL (jc f.mN 0 f.To) (aL) U)<|rP 2 [] mn ?_
  refine bT (t:=48) U (aX fun Kl=>?_) (aW fun Kl=>?_)
  ·refine bI 4 U<|RK c<|aN U<|WS fun _ AO=>rP 1 [] mn ?_
   refine RK AO<|ar<|Q1 hQ U U U ?_
   first|exact cB (bj (fun q=>by have C:=q.nf; have H:=q.min_; have J:=q.tn; have K:=q.np; omega)).symm|exact cB (bj (fun q=>by have C:=q.fault f (aM hf); unfold e7 at C; split at C<;>omega)).symm|exact cB (bj (fun q=>by have A:=q.ib _ p hp; have C:=A.id; have H:=A.jT; have J:=A.ek; have K:=A.fault; simp only [mD] at H; first|omega|(have V:=A.up AA I L; omega))).symm|exact cB (bj (fun q=>by obtain ⟨R,G,AB,T⟩:=(q.ib _ p hp).lY; rw [F] at G; cases G; first|exact E AB|exact h148 AB|omega)).symm|exact cB (cO ⟨I,dQ D I,I,I,I,fun i p hi=>B i p (by have:=(bf.1 hi).1; omega) hi⟩).symm
  refine rP 4 [] (mc 0 U mn) ?_
  refine RK c<|ck U (aT fun Kw=>?_) (aU fun Kw=>?_)
  ·refine WS fun _ A0=>rP 1 [] mn ?_
   refine RK A0<|ar<|Q1 hQ U U U ?_
   first|exact cB (bj (fun q=>by have C:=q.nf; have H:=q.min_; have J:=q.tn; have K:=q.np; omega)).symm|exact cB (bj (fun q=>by have C:=q.fault f (aM hf); unfold e7 at C; split at C<;>omega)).symm|exact cB (bj (fun q=>by have A:=q.ib _ p hp; have C:=A.id; have H:=A.jT; have J:=A.ek; have K:=A.fault; simp only [mD] at H; first|omega|(have V:=A.up AA I L; omega))).symm|exact cB (bj (fun q=>by obtain ⟨R,G,AB,T⟩:=(q.ib _ p hp).lY; rw [F] at G; cases G; first|exact E AB|exact h148 AB|omega)).symm|exact cB (cO ⟨I,dQ D I,I,I,I,fun i p hi=>B i p (by have:=(bf.1 hi).1; omega) hi⟩).symm
  refine WK AK<|WS fun _ A1=>eV 2 [] (mc 0 U mn) U<|RK A1<|aH<|WS fun _ A2=>rS (BI U m8)<|rP 1 [] mn ?_
  refine RK A2<|ck U (aT fun K0=>?_) (aU fun K0=>?_)
  ·refine WS fun _ A3=>rP 3 [] (mc 0 U mn) ?_
   refine RK A3<|bR U (aW fun K4=>?_) (aX fun K4=>?_)
   ·refine cj<|aP<|aP<|KK X<|aw<|rP 3 [] mn ?_
    refine aK ?_
    have If:(vI (((i+1):Nat):Int))=(vI ((i:Int)+1)):=by exact cI I
    refine bu (W ⟨(i+1),⟨I,qV D hf (by refine ⟨I,I,I,?_⟩; split<;>omega)⟩⟩ _ _ _ U os (dp.cons U<|bw U If<|dp.nil _) (aR [1,2,3,4,5,6,7,8,9,10,11]))
   refine WS fun _ A4=>rP 1 [] mn ?_
   refine RK A4<|ar<|Q1 hQ U U U ?_
   first|exact cB (bj (fun q=>by have C:=q.nf; have H:=q.min_; have J:=q.tn; have K:=q.np; omega)).symm|exact cB (bj (fun q=>by have C:=q.fault f (aM hf); unfold e7 at C; split at C<;>omega)).symm|exact cB (bj (fun q=>by have A:=q.ib _ p hp; have C:=A.id; have H:=A.jT; have J:=A.ek; have K:=A.fault; simp only [mD] at H; first|omega|(have V:=A.up AA I L; omega))).symm|exact cB (bj (fun q=>by obtain ⟨R,G,AB,T⟩:=(q.ib _ p hp).lY; rw [F] at G; cases G; first|exact E AB|exact h148 AB|omega)).symm|exact cB (cO ⟨I,dQ D I,I,I,I,fun i p hi=>B i p (by have:=(bf.1 hi).1; omega) hi⟩).symm
  refine aq fun _ e=>WS fun _ A5=>rS (BI U m8)<|rP 1 [] mn ?_
  refine RK A5<|ck U (aT fun K5=>?_) (aU fun K5=>?_)
  ·refine WK e<|bR U (aU fun K8=>?_) (aT fun K8=>?_)
   ·refine WS fun _ A8=>rP 1 [] mn ?_
    refine RK A8<|ar<|Q1 hQ U U U ?_
    first|exact cB (bj (fun q=>by have C:=q.nf; have H:=q.min_; have J:=q.tn; have K:=q.np; omega)).symm|exact cB (bj (fun q=>by have C:=q.fault f (aM hf); unfold e7 at C; split at C<;>omega)).symm|exact cB (bj (fun q=>by have A:=q.ib _ p hp; have C:=A.id; have H:=A.jT; have J:=A.ek; have K:=A.fault; simp only [mD] at H; first|omega|(have V:=A.up AA I L; omega))).symm|exact cB (bj (fun q=>by obtain ⟨R,G,AB,T⟩:=(q.ib _ p hp).lY; rw [F] at G; cases G; first|exact E AB|exact h148 AB|omega)).symm|exact cB (cO ⟨I,dQ D I,I,I,I,fun i p hi=>B i p (by have:=(bf.1 hi).1; omega) hi⟩).symm
   refine WS fun _ A6=>eV 6 [0,1] (mc 0 U (mc 1 U mn)) U<|rS (CL (jc f.ig 0 j.Race.ao.cf) (aL) U)<|rP 1 [] mn ?_
   refine RK A6<|bR U (aW fun LA=>?_) (aX fun LA=>?_)
   ·refine cj<|aP<|aP<|KK X<|aw<|rP 3 [] mn ?_
    refine aK ?_
    have In:(vI (((i+1):Nat):Int))=(vI ((i:Int)+1)):=by exact cI I
    refine bu (W ⟨(i+1),⟨I,qV D hf (by refine ⟨I,I,I,?_⟩; split<;>omega)⟩⟩ _ _ _ U os (dp.cons U<|bw U In<|dp.nil _) (aR [1,2,3,4,5,6,7,8,9,10,11]))
   refine WS fun _ A7=>rP 1 [] mn ?_
   refine RK A7<|ar<|Q1 hQ U U U ?_
   first|exact cB (bj (fun q=>by have C:=q.nf; have H:=q.min_; have J:=q.tn; have K:=q.np; omega)).symm|exact cB (bj (fun q=>by have C:=q.fault f (aM hf); unfold e7 at C; split at C<;>omega)).symm|exact cB (bj (fun q=>by have A:=q.ib _ p hp; have C:=A.id; have H:=A.jT; have J:=A.ek; have K:=A.fault; simp only [mD] at H; first|omega|(have V:=A.up AA I L; omega))).symm|exact cB (bj (fun q=>by obtain ⟨R,G,AB,T⟩:=(q.ib _ p hp).lY; rw [F] at G; cases G; first|exact E AB|exact h148 AB|omega)).symm|exact cB (cO ⟨I,dQ D I,I,I,I,fun i p hi=>B i p (by have:=(bf.1 hi).1; omega) hi⟩).symm
  refine aw<|rS (BI U m8)<|rP 1 [] mn ?_
  refine RK e<|bR U (aU fun LD=>?_) (aT fun LD=>?_)
  ·refine WS fun _ B9=>rP 1 [] mn ?_
   refine RK B9<|ar<|Q1 hQ U U U ?_
   first|exact cB (bj (fun q=>by have C:=q.nf; have H:=q.min_; have J:=q.tn; have K:=q.np; omega)).symm|exact cB (bj (fun q=>by have C:=q.fault f (aM hf); unfold e7 at C; split at C<;>omega)).symm|exact cB (bj (fun q=>by have A:=q.ib _ p hp; have C:=A.id; have H:=A.jT; have J:=A.ek; have K:=A.fault; simp only [mD] at H; first|omega|(have V:=A.up AA I L; omega))).symm|exact cB (bj (fun q=>by obtain ⟨R,G,AB,T⟩:=(q.ib _ p hp).lY; rw [F] at G; cases G; first|exact E AB|exact h148 AB|omega)).symm|exact cB (cO ⟨I,dQ D I,I,I,I,fun i p hi=>B i p (by have:=(bf.1 hi).1; omega) hi⟩).symm
  refine WS fun _ A9=>eV 6 [0,1] (mc 0 U (mc 1 U mn)) U<|rS (CL (jc f.ig 0 j.Race.ao.cf) (aL) U)<|rP 1 [] mn ?_
  refine RK A9<|bR U (aW fun LE=>?_) (aX fun LE=>?_)
  ·refine cj<|aP<|aP<|KK X<|aw<|rP 3 [] mn ?_
   refine aK ?_
   have I0:(vI (((i+1):Nat):Int))=(vI ((i:Int)+1)):=by exact cI I
   refine bu (W ⟨(i+1),⟨I,qV D hf (by refine ⟨I,I,I,?_⟩; split<;>omega)⟩⟩ _ _ _ U os (dp.cons U<|bw U I0<|dp.nil _) (aR [1,2,3,4,5,6,7,8,9,10,11]))
  refine WS fun _ B3=>rP 1 [] mn ?_
  refine RK B3<|ar<|Q1 hQ U U U ?_
  first|exact cB (bj (fun q=>by have C:=q.nf; have H:=q.min_; have J:=q.tn; have K:=q.np; omega)).symm|exact cB (bj (fun q=>by have C:=q.fault f (aM hf); unfold e7 at C; split at C<;>omega)).symm|exact cB (bj (fun q=>by have A:=q.ib _ p hp; have C:=A.id; have H:=A.jT; have J:=A.ek; have K:=A.fault; simp only [mD] at H; first|omega|(have V:=A.up AA I L; omega))).symm|exact cB (bj (fun q=>by obtain ⟨R,G,AB,T⟩:=(q.ib _ p hp).lY; rw [F] at G; cases G; first|exact E AB|exact h148 AB|omega)).symm|exact cB (cO ⟨I,dQ D I,I,I,I,fun i p hi=>B i p (by have:=(bf.1 hi).1; omega) hi⟩).symm
 refine bQ<|ag<|ag<|aI<|KK v<|aq fun _ CC=>WS fun _ Ci=>rP 1 [] mn ?_
 refine RK Ci<|aH ?_
 have S:(0≤j.aJ.length)∧(oD j 0):=by exact ⟨Nat.zero_le _,xo⟩
 refine bS (ι:={z:Nat // (z≤j.aJ.length)∧(oD j z)}) [1] [0,1,2,3,4,5,6,7,8,9,10] U U (fun z=>[(5,(vI (z.1:Int)))]) (fun z=>[]) (fun _=>rfl) (fun _=>rfl) (fun z=>j.aJ.length-z.1) ⟨0,S⟩ (bD U) (aR [0,1,2,3,4,5,6,7,8,9,10]) ?_
 clear S
 rintro ⟨k,⟨J6,B⟩⟩ J52 b
 try dsimp only
 refine aq fun _ Ck=>WS fun _ Cp=>rP 5 [] (mc 0 U mn) ?_
 refine RK Cp<|bR U (aU fun LT=>?_) (aT fun LT=>?_)
 ·refine bQ<|ag<|ag<|aI<|KK CC<|WS fun _ Go=>rP 1 [] mn ?_
  refine RK Go<|ar<|Q1 hQ U U U ?_
  first|exact cB (bj (fun q=>by have C:=q.nf; have H:=q.min_; have J:=q.tn; have K:=q.np; omega)).symm|exact cB (bj (fun q=>by have C:=q.fault f (aM hf); unfold e7 at C; split at C<;>omega)).symm|exact cB (bj (fun q=>by have A:=q.ib _ p hp; have C:=A.id; have H:=A.jT; have J:=A.ek; have K:=A.fault; simp only [mD] at H; first|omega|(have V:=A.up AA I L; omega))).symm|exact cB (bj (fun q=>by obtain ⟨R,G,AB,T⟩:=(q.ib _ p hp).lY; rw [F] at G; cases G; first|exact E AB|exact h148 AB|omega)).symm|exact cB (cO ⟨I,dQ D I,I,I,I,fun i p hi=>B i p (by have:=(bf.1 hi).1; omega) hi⟩).symm
 refine WK Ck<|aq fun _ g=>aH<|WS fun _ Cx=>rP 3 [] (mc 0 U mn) ?_
 obtain ⟨p,hp⟩:=aC j.aJ k I
 have Pl:=bO br.cells hp
 refine rS (IA k U (ay 10 U) D_ dc I I)<|rS (jD k 0 (br.cells p) U bU (ay 10 U) Pl U dc U U)<|AL U E7 fun Qx=>eN U Jj U<|RK Cx<|aq fun _ h=>aq fun _ P=>cW cg 52 kr<|kv 2 [] (mc 0 U mn) U<|dS (CL (jc p.Id 0 9999) (aL) U)<|dP 2 [] mn ?_
 refine gP (t:=87) U (aX fun La=>?_) (aW fun La=>?_)
 ·refine kR 47 U<|cx<|RK P<|aN U<|WS fun _ C0=>rP 1 [] mn ?_
  refine RK C0<|ar<|Q1 hQ U U U ?_
  first|exact cB (bj (fun q=>by have C:=q.nf; have H:=q.min_; have J:=q.tn; have K:=q.np; omega)).symm|exact cB (bj (fun q=>by have C:=q.fault f (aM hf); unfold e7 at C; split at C<;>omega)).symm|exact cB (bj (fun q=>by have A:=q.ib _ p hp; have C:=A.id; have H:=A.jT; have J:=A.ek; have K:=A.fault; simp only [mD] at H; omega)).symm|exact cB (bj (fun q=>by obtain ⟨R,G,AB,T⟩:=(q.ib _ p hp).lY; rw [F] at G; cases G; first|exact E AB|exact h148 AB|omega)).symm|exact cB (cO ⟨I,dQ D I,I,I,I,fun i p hi=>B i p (by have:=(bf.1 hi).1; omega) hi⟩).symm
 refine dP 3 [] mn ?_
 refine hP (t:=90) U (aU fun Li=>?_) (aT fun Li=>?_)
 ·refine kv 20 [0,1] (mc 0 U (mc 1 U mn)) U<|dS (CL (jc p.iQ 0 ((j.Race.aV.length:Int)-1)) (aL) U)<|dP 3 [] mn ?_
  refine gP (t:=114) U (aX fun MI=>?_) (aW fun MI=>?_)
  ·refine kR 20 U<|cx<|RK P<|aN U<|WS fun _ FQ=>rP 1 [] mn ?_
   refine RK FQ<|ar<|Q1 hQ U U U ?_
   first|exact cB (bj (fun q=>by have C:=q.nf; have H:=q.min_; have J:=q.tn; have K:=q.np; omega)).symm|exact cB (bj (fun q=>by have C:=q.fault f (aM hf); unfold e7 at C; split at C<;>omega)).symm|exact cB (bj (fun q=>by have A:=q.ib _ p hp; have C:=A.id; have H:=A.jT; have J:=A.ek; have K:=A.fault; simp only [mD] at H; omega)).symm|exact cB (bj (fun q=>by obtain ⟨R,G,AB,T⟩:=(q.ib _ p hp).lY; rw [F] at G; cases G; first|exact E AB|exact h148 AB|omega)).symm|exact cB (cO ⟨I,dQ D I,I,I,I,fun i p hi=>B i p (by have:=(bf.1 hi).1; omega) hi⟩).symm
  refine kv 7 [0,1] (mc 0 U (mc 1 U mn)) U<|dS (CL (jc p.jm 0 ((j.Race.av.length:Int)-1)) (aL) U)<|dP 3 [] mn ?_
  refine gP (t:=125) U (aX fun MQ=>?_) (aW fun MQ=>?_)
  ·refine kR 9 U<|cx<|RK P<|aN U<|WS fun _ FS=>rP 1 [] mn ?_
   refine RK FS<|ar<|Q1 hQ U U U ?_
   first|exact cB (bj (fun q=>by have C:=q.nf; have H:=q.min_; have J:=q.tn; have K:=q.np; omega)).symm|exact cB (bj (fun q=>by have C:=q.fault f (aM hf); unfold e7 at C; split at C<;>omega)).symm|exact cB (bj (fun q=>by have A:=q.ib _ p hp; have C:=A.id; have H:=A.jT; have J:=A.ek; have K:=A.fault; simp only [mD] at H; omega)).symm|exact cB (bj (fun q=>by obtain ⟨R,G,AB,T⟩:=(q.ib _ p hp).lY; rw [F] at G; cases G; first|exact E AB|exact h148 AB|omega)).symm|exact cB (cO ⟨I,dQ D I,I,I,I,fun i p hi=>B i p (by have:=(bf.1 hi).1; omega) hi⟩).symm
  refine kv 6 [0,1] (mc 0 U (mc 1 U mn)) U<|dS (CL (jc p.jX 0 ((j.aS.length:Int)-1)) (aL) U)<|dP 2 [] mn ?_
  refine cx<|RK P<|ck U (aX fun M2=>?_) (aW fun M2=>?_)
  ·refine WS fun _ Fd=>rP 1 [] mn ?_
   refine RK Fd<|ar<|Q1 hQ U U U ?_
   first|exact cB (bj (fun q=>by have C:=q.nf; have H:=q.min_; have J:=q.tn; have K:=q.np; omega)).symm|exact cB (bj (fun q=>by have C:=q.fault f (aM hf); unfold e7 at C; split at C<;>omega)).symm|exact cB (bj (fun q=>by have A:=q.ib _ p hp; have C:=A.id; have H:=A.jT; have J:=A.ek; have K:=A.fault; simp only [mD] at H; omega)).symm|exact cB (bj (fun q=>by obtain ⟨R,G,AB,T⟩:=(q.ib _ p hp).lY; rw [F] at G; cases G; first|exact E AB|exact h148 AB|omega)).symm|exact cB (cO ⟨I,dQ D I,I,I,I,fun i p hi=>B i p (by have:=(bf.1 hi).1; omega) hi⟩).symm
  refine WK h<|aq fun _ Fn=>dH cg [11,12] [] [] [0,1,2,3,4,5,6,7,8,9,10,11] [] U U U U U<|eS U (FA 0 U eU U)<|eS U (FA 10 U eU U)<|eS U (L1 (vS heA j.Race.av.length heC) 1 U bU U U)<|eS U (FA 2 U eU U)<|eS U (L1 (vI p.jm) 0 U bU U U) ?_
  obtain ⟨ht,O⟩:=aC j.Race.av ((p.jm).toNat) I
  obtain ⟨M,N⟩:=aC ha ((p.jm).toNat) I
  have Z:(List.zipWith bW j.Race.av ha)[(p.jm).toNat]? =some (bW ht M):=cv O N
  refine eS U (IA ((p.jm).toNat) U (ay 8 U) j8 dc I I) ?_
  have Y:=n.ek _ _ _ O N
  have J3:=Y.ly
  have J4:=(J5.ek ht (aM O)).1
  refine eS U (gD ((p.jm).toNat) 0 (vS M.1.1 ht.length M.1.2) U bU (ay 8 U) Z U dc U)<|eS U (FA 1 U eU U)<|eS U (L1 (vI p.iQ) 0 U bU U U) ?_
  obtain ⟨d,hd⟩:=aC ht ((p.iQ).toNat) I
  obtain ⟨da,o⟩:=aC M.2 ((p.iQ).toNat) I
  have r:(List.zipWith ak.cells ht M.2)[(p.iQ).toNat]? =some (ak.cells d da):=cv hd o
  refine eS U (IA ((p.iQ).toNat) U (show fY _ (rd M.1.1 ht.length 7 (List.zipWith ak.cells ht M.2)).holds from (bX 9 U (a_ O N bY))) mM dc I I) ?_
  have F:=pC (j:=j) (p:=p) O hd
  have Pn:=Y.sig d (aM hd)
  refine eS U (jD ((p.iQ).toNat) 0 (aG.cells (aG.mk d.Out d.cJ d.Time (cL.mk d.aY.Start d.aY.gj (bE.mk da.1 d.aY.aa.length da.2)))) U bU (show fY _ (rd M.1.1 ht.length 7 (List.zipWith ak.cells ht M.2)).holds from (bX 9 U (a_ O N bY))) r U dc U U)<|eo U<|cp U fun T88 IO=>AL U BX fun R0=>aK (IO _ _ (aR [1,2,3,4,5,6,7,8,9,10,11,12]) ?_)
  refine cp U fun T90 IR=>eN U Ef U<|aK (IR _ _ (aR [1,2,3,4,5,6,7,8,9,10,11,12]) ?_)
  refine fK U<|KK Fn<|WS fun _ m=>eV 1 [] (mc 0 U mn) U<|rS (CL (EN d.Out d.cJ d.Time (cL.mk d.aY.Start d.aY.gj (bE.mk da.1 d.aY.aa.length da.2))) (aL) U)<|rP 2 [] mn ?_
  refine bT (t:=149) U (aX fun E=>?_) (aW fun E=>?_)
  ·refine bI 8 U<|RK m<|aN U<|WS fun _ GE=>rP 1 [] mn ?_
   refine RK GE<|ar<|Q1 hQ U U U ?_
   first|exact cB (bj (fun q=>by have C:=q.nf; have H:=q.min_; have J:=q.tn; have K:=q.np; omega)).symm|exact cB (bj (fun q=>by have C:=q.fault f (aM hf); unfold e7 at C; split at C<;>omega)).symm|exact cB (bj (fun q=>by have A:=q.ib _ p hp; have C:=A.id; have H:=A.jT; have J:=A.ek; have K:=A.fault; simp only [mD] at H; first|omega|(have V:=A.up AA I L; omega))).symm|exact cB (bj (fun q=>by obtain ⟨R,G,AB,T⟩:=(q.ib _ p hp).lY; rw [F] at G; cases G; exact E AB)).symm|exact cB (cO ⟨I,dQ D I,I,I,I,fun i p hi=>B i p (by have:=(bf.1 hi).1; omega) hi⟩).symm
  refine eV 5 [0,1] (mc 1 U (mc 0 U mn)) U<|rS (CL (jc p.At d.aY.Start 86400000) (aL) U)<|rP 2 [] mn ?_
  refine RK m<|bR U (aW fun NE=>?_) (aX fun NE=>?_)
  ·refine cj<|aP<|KK g<|aw<|rP 3 [] mn ?_
   refine aK ?_
   have J2:(vI (((k+1):Nat):Int))=(vI ((k:Int)+1)):=by exact cI I
   refine bu (b ⟨(k+1),⟨I,td B hp ⟨I,fun q h1 h2=>by omega,by simp only [mD]; omega,I,I,d,F,by first|exact E|exact h148,I⟩⟩⟩ _ _ _ U os (dp.cons U<|bw U J2<|dp.nil _) (aR [2,3,4,5,6,7,8,9,10,11,12]))
  refine WS fun _ GT=>rP 1 [] mn ?_
  refine RK GT<|ar<|Q1 hQ U U U ?_
  first|exact cB (bj (fun q=>by have C:=q.nf; have H:=q.min_; have J:=q.tn; have K:=q.np; omega)).symm|exact cB (bj (fun q=>by have C:=q.fault f (aM hf); unfold e7 at C; split at C<;>omega)).symm|exact cB (bj (fun q=>by have A:=q.ib _ p hp; have C:=A.id; have H:=A.jT; have J:=A.ek; have K:=A.fault; simp only [mD] at H; first|omega|(have V:=A.up AA I L; omega))).symm|exact cB (bj (fun q=>by obtain ⟨R,G,AB,T⟩:=(q.ib _ p hp).lY; rw [F] at G; cases G; omega)).symm|exact cB (cO ⟨I,dQ D I,I,I,I,fun i p hi=>B i p (by have:=(bf.1 hi).1; omega) hi⟩).symm
 refine dP 6 [0,1] (mc 0 U (mc 1 U mn)) ?_
 obtain ⟨AA,L⟩:=aC j.aJ (k-1) I
 have hp0m:=bO br.cells L
 refine dS (IA (k-1) U (ay 11 U) D_ dc I I)<|dS (pO ((k-1)*5) U (ay 11 U) (Nat.mul_pos I dc) eU U)<|dS (gD (k-1) 0 (vI AA.Id) U bU (ay 11 U) hp0m U dc U)<|dP 4 [] mn ?_
 refine gP (t:=103) U (aT fun Lk=>?_) (aU fun Lk=>?_)
 ·refine kR 31 U<|cx<|RK P<|aN U<|WS fun _ C1=>rP 1 [] mn ?_
  refine RK C1<|ar<|Q1 hQ U U U ?_
  first|exact cB (bj (fun q=>by have C:=q.nf; have H:=q.min_; have J:=q.tn; have K:=q.np; omega)).symm|exact cB (bj (fun q=>by have C:=q.fault f (aM hf); unfold e7 at C; split at C<;>omega)).symm|exact cB (bj (fun q=>by have A:=q.ib _ p hp; have C:=A.id; have H:=A.jT; have J:=A.ek; have K:=A.fault; simp only [mD] at H; (have V:=A.up AA I L; omega))).symm|exact cB (bj (fun q=>by obtain ⟨R,G,AB,T⟩:=(q.ib _ p hp).lY; rw [F] at G; cases G; first|exact E AB|exact h148 AB|omega)).symm|exact cB (cO ⟨I,dQ D I,I,I,I,fun i p hi=>B i p (by have:=(bf.1 hi).1; omega) hi⟩).symm
 refine kv 7 [0,1] (mc 0 U (mc 1 U mn)) U<|dS (CL (jc p.iQ 0 ((j.Race.aV.length:Int)-1)) (aL) U)<|dP 3 [] mn ?_
 refine gP (t:=114) U (aX fun Lo=>?_) (aW fun Lo=>?_)
 ·refine kR 20 U<|cx<|RK P<|aN U<|WS fun _ C2=>rP 1 [] mn ?_
  refine RK C2<|ar<|Q1 hQ U U U ?_
  first|exact cB (bj (fun q=>by have C:=q.nf; have H:=q.min_; have J:=q.tn; have K:=q.np; omega)).symm|exact cB (bj (fun q=>by have C:=q.fault f (aM hf); unfold e7 at C; split at C<;>omega)).symm|exact cB (bj (fun q=>by have A:=q.ib _ p hp; have C:=A.id; have H:=A.jT; have J:=A.ek; have K:=A.fault; simp only [mD] at H; omega)).symm|exact cB (bj (fun q=>by obtain ⟨R,G,AB,T⟩:=(q.ib _ p hp).lY; rw [F] at G; cases G; first|exact E AB|exact h148 AB|omega)).symm|exact cB (cO ⟨I,dQ D I,I,I,I,fun i p hi=>B i p (by have:=(bf.1 hi).1; omega) hi⟩).symm
 refine kv 7 [0,1] (mc 0 U (mc 1 U mn)) U<|dS (CL (jc p.jm 0 ((j.Race.av.length:Int)-1)) (aL) U)<|dP 3 [] mn ?_
 refine gP (t:=125) U (aX fun L0=>?_) (aW fun L0=>?_)
 ·refine kR 9 U<|cx<|RK P<|aN U<|WS fun _ C3=>rP 1 [] mn ?_
  refine RK C3<|ar<|Q1 hQ U U U ?_
  first|exact cB (bj (fun q=>by have C:=q.nf; have H:=q.min_; have J:=q.tn; have K:=q.np; omega)).symm|exact cB (bj (fun q=>by have C:=q.fault f (aM hf); unfold e7 at C; split at C<;>omega)).symm|exact cB (bj (fun q=>by have A:=q.ib _ p hp; have C:=A.id; have H:=A.jT; have J:=A.ek; have K:=A.fault; simp only [mD] at H; omega)).symm|exact cB (bj (fun q=>by obtain ⟨R,G,AB,T⟩:=(q.ib _ p hp).lY; rw [F] at G; cases G; first|exact E AB|exact h148 AB|omega)).symm|exact cB (cO ⟨I,dQ D I,I,I,I,fun i p hi=>B i p (by have:=(bf.1 hi).1; omega) hi⟩).symm
 refine kv 6 [0,1] (mc 0 U (mc 1 U mn)) U<|dS (CL (jc p.jX 0 ((j.aS.length:Int)-1)) (aL) U)<|dP 2 [] mn ?_
 refine cx<|RK P<|ck U (aX fun L2=>?_) (aW fun L2=>?_)
 ·refine WS fun _ Di=>rP 1 [] mn ?_
  refine RK Di<|ar<|Q1 hQ U U U ?_
  first|exact cB (bj (fun q=>by have C:=q.nf; have H:=q.min_; have J:=q.tn; have K:=q.np; omega)).symm|exact cB (bj (fun q=>by have C:=q.fault f (aM hf); unfold e7 at C; split at C<;>omega)).symm|exact cB (bj (fun q=>by have A:=q.ib _ p hp; have C:=A.id; have H:=A.jT; have J:=A.ek; have K:=A.fault; simp only [mD] at H; omega)).symm|exact cB (bj (fun q=>by obtain ⟨R,G,AB,T⟩:=(q.ib _ p hp).lY; rw [F] at G; cases G; first|exact E AB|exact h148 AB|omega)).symm|exact cB (cO ⟨I,dQ D I,I,I,I,fun i p hi=>B i p (by have:=(bf.1 hi).1; omega) hi⟩).symm
 refine WK h<|aq fun _ Do=>dH cg [11,12] [] [] [0,1,2,3,4,5,6,7,8,9,10,11] [] U U U U U<|eS U (FA 0 U eU U)<|eS U (FA 10 U eU U)<|eS U (L1 (vS heA j.Race.av.length heC) 1 U bU U U)<|eS U (FA 2 U eU U)<|eS U (L1 (vI p.jm) 0 U bU U U) ?_
 obtain ⟨ht,O⟩:=aC j.Race.av ((p.jm).toNat) I
 obtain ⟨M,N⟩:=aC ha ((p.jm).toNat) I
 have Z:(List.zipWith bW j.Race.av ha)[(p.jm).toNat]? =some (bW ht M):=cv O N
 refine eS U (IA ((p.jm).toNat) U (ay 8 U) j8 dc I I) ?_
 have Y:=n.ek _ _ _ O N
 have J3:=Y.ly
 have J4:=(J5.ek ht (aM O)).1
 refine eS U (gD ((p.jm).toNat) 0 (vS M.1.1 ht.length M.1.2) U bU (ay 8 U) Z U dc U)<|eS U (FA 1 U eU U)<|eS U (L1 (vI p.iQ) 0 U bU U U) ?_
 obtain ⟨d,hd⟩:=aC ht ((p.iQ).toNat) I
 obtain ⟨da,o⟩:=aC M.2 ((p.iQ).toNat) I
 have r:(List.zipWith ak.cells ht M.2)[(p.iQ).toNat]? =some (ak.cells d da):=cv hd o
 refine eS U (IA ((p.iQ).toNat) U (show fY _ (rd M.1.1 ht.length 7 (List.zipWith ak.cells ht M.2)).holds from (bX 9 U (a_ O N bY))) mM dc I I) ?_
 have F:=pC (j:=j) (p:=p) O hd
 have Pn:=Y.sig d (aM hd)
 refine eS U (jD ((p.iQ).toNat) 0 (aG.cells (aG.mk d.Out d.cJ d.Time (cL.mk d.aY.Start d.aY.gj (bE.mk da.1 d.aY.aa.length da.2)))) U bU (show fY _ (rd M.1.1 ht.length 7 (List.zipWith ak.cells ht M.2)).holds from (bX 9 U (a_ O N bY))) r U dc U U)<|eo U<|cp U fun T73 Hi=>AL U BX fun Q0=>aK (Hi _ _ (aR [1,2,3,4,5,6,7,8,9,10,11,12]) ?_)
 refine cp U fun T75 H1=>eN U Ef U<|aK (H1 _ _ (aR [1,2,3,4,5,6,7,8,9,10,11,12]) ?_)
 refine fK U<|KK Do<|WS fun _ l=>eV 1 [] (mc 0 U mn) U<|rS (CL (EN d.Out d.cJ d.Time (cL.mk d.aY.Start d.aY.gj (bE.mk da.1 d.aY.aa.length da.2))) (aL) U)<|rP 2 [] mn ?_
 refine bT (t:=149) U (aX fun E=>?_) (aW fun E=>?_)
 ·refine bI 8 U<|RK l<|aN U<|WS fun _ EQ=>rP 1 [] mn ?_
  refine RK EQ<|ar<|Q1 hQ U U U ?_
  first|exact cB (bj (fun q=>by have C:=q.nf; have H:=q.min_; have J:=q.tn; have K:=q.np; omega)).symm|exact cB (bj (fun q=>by have C:=q.fault f (aM hf); unfold e7 at C; split at C<;>omega)).symm|exact cB (bj (fun q=>by have A:=q.ib _ p hp; have C:=A.id; have H:=A.jT; have J:=A.ek; have K:=A.fault; simp only [mD] at H; first|omega|(have V:=A.up AA I L; omega))).symm|exact cB (bj (fun q=>by obtain ⟨R,G,AB,T⟩:=(q.ib _ p hp).lY; rw [F] at G; cases G; exact E AB)).symm|exact cB (cO ⟨I,dQ D I,I,I,I,fun i p hi=>B i p (by have:=(bf.1 hi).1; omega) hi⟩).symm
 refine eV 5 [0,1] (mc 1 U (mc 0 U mn)) U<|rS (CL (jc p.At d.aY.Start 86400000) (aL) U)<|rP 2 [] mn ?_
 refine RK l<|bR U (aW fun L3=>?_) (aX fun L3=>?_)
 ·refine cj<|aP<|KK g<|aw<|rP 3 [] mn ?_
  refine aK ?_
  have Je:(vI (((k+1):Nat):Int))=(vI ((k:Int)+1)):=by exact cI I
  refine bu (b ⟨(k+1),⟨I,td B hp ⟨I,fun q h1 h2=>by (rw [L] at h2; cases h2; omega),by simp only [mD]; omega,I,I,d,F,by first|exact E|exact h148,I⟩⟩⟩ _ _ _ rfl os (dp.cons rfl<|bw rfl Je<|dp.nil _) (aR [2,3,4,5,6,7,8,9,10,11,12]))
 refine WS fun _ Eq=>rP 1 [] mn ?_
 refine RK Eq<|ar<|Q1 hQ U U U ?_
 first|exact cB (bj (fun q=>by have C:=q.nf; have H:=q.min_; have J:=q.tn; have K:=q.np; omega)).symm|exact cB (bj (fun q=>by have C:=q.fault f (aM hf); unfold e7 at C; split at C<;>omega)).symm|exact cB (bj (fun q=>by have A:=q.ib _ p hp; have C:=A.id; have H:=A.jT; have J:=A.ek; have K:=A.fault; simp only [mD] at H; first|omega|(have V:=A.up AA I L; omega))).symm|exact cB (bj (fun q=>by obtain ⟨R,G,AB,T⟩:=(q.ib _ p hp).lY; rw [F] at G; cases G; omega)).symm|exact cB (cO ⟨I,dQ D I,I,I,I,fun i p hi=>B i p (by have:=(bf.1 hi).1; omega) hi⟩).symm
end
section
open Go.RowKit
theorem CF (j:cS) (kA:OA) (kC:Nat) (az:List RA) (cA:OA) (cC:Nat) (bA:OA) (bC:Nat) (slA:OA) (slC:Nat) (drA:OA) (drC:Nat) (ha:List cD) (heA:OA) (heC:Nat) (faA:OA) (faC:Nat) (prA:OA) (prC:Nat) (hin:gX j az ha):
 dB Tryz.prog 43 [(vA (gh.cells (nt j kA kC cA cC bA bC slA slC drA drC heA heC faA faC prA prC)))] [(rd kA j.Race.ao.aO.length 9 (j.Race.ao.aO.map au.cells)),(rd cA j.Race.ao.aj.length 2 (List.zipWith ax.cells j.Race.ao.aj az)),(dE (bg ax.e_ j.Race.ao.aj az)),(rd bA j.Race.ao.ab.length 4 (j.Race.ao.ab.map bK.cells)),(rd slA j.Race.aV.length 1 (j.Race.aV.map iC)),(rd drA j.Race.bV.length 1 (j.Race.bV.map iC)),(rd heA j.Race.av.length 1 (List.zipWith bW j.Race.av ha)),(dE (bg er j.Race.av ha)),(rd faA j.aS.length 4 (j.aS.map aZ.cells)),(rd prA j.aJ.length 5 (j.aJ.map br.cells))] (vI (dG j)):=by
 have O:=hin.race
 have L:=hin.race.line
 have R:=hin.race.g8
 have S:=hin.race.has
 have P:=hin.race.g7
 have M:=hin.nf
 have N:=hin.np
 refine bJ kr Tryz.func43 U U fun AA Q hQ hN=>?_
 try dsimp only
 refine WS fun _ D=>eJ U fun T=>bI 1 U<|RK D<|aq fun _ E=>WS fun _ F=>bI 1 U<|rS (LP (cY.cells (vJ j.Race kA kC cA cC bA bC slA slC drA drC heA heC)) 0 U bU U U U)<|rS (CL (G8 j.Race kA kC az cA cC bA bC slA slC drA drC ha heA heC asm) (bo [1,2,3,4,5,6,7,8]) U)<|bI 1 U<|RK F<|WS fun _ G=>rP 2 [] mn ?_
 refine RK G<|ck U (aX fun C=>?_) (aW fun C=>?_)
 ·refine WS fun _ H=>rP 2 [] mn ?_
  refine RK H<|ar<|Q1 hQ U U U ?_
  exact cI (zC C).symm
 refine WK E<|aq fun _ AB=>WS fun _ J=>eV 1 [] (mc 0 U mn) U<|rS (CL (G_ j kA kC az cA cC bA bC slA slC drA drC ha heA heC faA faC prA prC hin asm) (bo [1,2,3,4,5,6,7,8,9,10]) U)<|rP 1 [] mn ?_
 refine RK J<|ck U (aX fun A=>?_) (aW fun A=>?_)
 ·refine WS fun _ K=>rP 1 [] mn ?_
  refine RK K<|ar<|Q1 hQ U U U ?_
  exact cI (jN C A).symm
 refine WK AB<|WS fun _ B=>rP 1 [] mn ?_
 refine RK B<|ar<|Q1 hQ U U U ?_
 exact cI (yJ C A).symm
end
section
open Go.RowKit
theorem pU (x y:Int):
 dB Tryz.prog 36 [(vI x),(vI y)] [] (vA (ai.cells (ai.mk x y))):=by
 refine bJ kr Tryz.func36 U U fun D Q hQ hN=>?_
 try dsimp only
 refine WS fun _ A=>AL U dU fun C=>RK A<|WS fun _ B=>rP 2 [] mn ?_
 refine rS (SX (bp (xs:=[(0,.tmp 5),(1,.tmp 6)]) (cs:=(ai.cells (ai.mk x y))) U U (bq gM U)) U U)<|eN U cT U<|RK B<|ar ?_
 exact Dg hQ [0] (mc 0 U mn) U U
theorem qS (x y:Int):
 dB Tryz.prog 35 [(vI x),(vI y)] [] (vA (aG.cells (aG.mk false true (ai.mk x y) (cL.mk 0 0 (bE.mk none 0 0))))):=by
 refine bJ kr Tryz.func35 U U fun D Q hQ hN=>?_
 try dsimp only
 refine WS fun _ A=>AL U BX fun C=>RK A<|WS fun _ B=>rP 2 [] mn ?_
 refine rS (CL (pU x y) (aL) U)<|rS (SX (bp (xs:=[(1,.const (vB true)),(2,.tmp 7)]) (cs:=(aG.cells (aG.mk false true (ai.mk x y) (cL.mk 0 0 (bE.mk none 0 0))))) U U (bq SY U)) U U)<|eN U Ef U<|RK B<|ar ?_
 exact Dg hQ [0] (mc 0 U mn) U U
theorem IV (j:cS) (kA:OA) (kC:Nat) (az:List RA) (cA:OA) (cC:Nat) (bA:OA) (bC:Nat) (slA:OA) (slC:Nat) (drA:OA) (drC:Nat) (ha:List cD) (heA:OA) (heC:Nat) (faA:OA) (faC:Nat) (prA:OA) (prC:Nat) (hraw:sB j az ha):
 dB Tryz.prog 23 [(vA (gh.cells (nt j kA kC cA cC bA bC slA slC drA drC heA heC faA faC prA prC)))] [(rd kA j.Race.ao.aO.length 9 (j.Race.ao.aO.map au.cells)),(rd cA j.Race.ao.aj.length 2 (List.zipWith ax.cells j.Race.ao.aj az)),(dE (bg ax.e_ j.Race.ao.aj az)),(rd bA j.Race.ao.ab.length 4 (j.Race.ao.ab.map bK.cells)),(rd slA j.Race.aV.length 1 (j.Race.aV.map iC)),(rd drA j.Race.bV.length 1 (j.Race.bV.map iC)),(rd heA j.Race.av.length 1 (List.zipWith bW j.Race.av ha)),(dE (bg er j.Race.av ha)),(rd faA j.aS.length 4 (j.aS.map aZ.cells)),(rd prA j.aJ.length 5 (j.aJ.map br.cells))] (vB (decide (¬ qo j∧dG j=0))):=by
 refine bJ kr Tryz.func23 U U fun F Q hQ hN=>?_
 try dsimp only
 refine WS fun _ C=>eJ U fun E=>bI 1 U<|RK C<|WS fun _ A=>eV 1 [] (mc 0 U mn) U<|rS (CL (Jz j kA kC az cA cC bA bC slA slC drA drC ha heA heC faA faC prA prC hraw) (bo [1,2,3,4,5,6,7,8,9,10]) U)<|rP 2 [] mn ?_
 refine cG (t:=6) U (aW fun B=>?_) (aX fun B=>?_)
 ·refine bI 1 U<|rP 4 [] mn ?_
  refine RK A<|ar<|Q1 hQ U U U ?_
  exact cB (bj fun q=>q.1 B).symm
 refine rP 1 [] (mc 0 U mn) ?_
 have D:=hraw.small B
 refine rS (CL (CF j kA kC az cA cC bA bC slA slC drA drC ha heA heC faA faC prA prC asm) (bo [1,2,3,4,5,6,7,8,9,10]) U)<|rP 3 [] mn ?_
 refine RK A<|ar<|Q1 hQ U U U ?_
 exact cB (gU.2 ⟨fun q=>⟨B,q⟩,fun q=>q.2⟩)
theorem KC (o fx:Bool) (tm:ai) (rv:cL):
 dB Tryz.prog 28 [(vA (aG.cells (aG.mk o fx tm rv)))] [] (vB (decide (o=false∧fx=false))):=by
 refine bJ kr Tryz.func28 U U fun E Q hQ hN=>?_
 try dsimp only
 refine WS fun _ B=>eJ U fun D=>bI 1 U<|RK B<|WS fun _ A=>rP 4 [] (mc 0 U mn) ?_
 refine cG (t:=6) U (fun C=>?_) (fun C=>?_)
 ·rw [Bool.not_eq_false'] at C
  refine rP 5 [] mn ?_
  refine RK A<|ar<|Q1 hQ U U U ?_
  clear hQ hN A B
  refine cB ?_
  (simp_all; done)
 rw [Bool.not_eq_true'] at C
 refine rP 5 [] (mc 0 U mn) ?_
 refine RK A<|ar<|Q1 hQ U U U ?_
 clear hQ hN A B
 refine cB ?_
 (simp_all; done)
theorem Dm (la:List Int) (laA:OA) (laC:Nat) (n:Int) (hlen:la.length≤1000000):
 dB Tryz.prog 24 [(vS laA la.length laC),(vI n)] [(rd laA la.length 1 (la.map iC))] (vB (decide (n∈la))):=by
 refine bJ kr Tryz.func24 U U fun T Q hQ hN=>?_
 try dsimp only
 refine WS fun _ AA=>bI 1 U<|RK AA<|aq fun _ J=>WS fun _ K=>rP 3 [] mn ?_
 refine RK K<|aH ?_
 have B:(0≤la.length)∧(n ∉ la.take 0):=by exact ⟨Nat.zero_le _,sm⟩
 refine bS (ι:={z:Nat // (z≤la.length)∧(n ∉ la.take z)}) [1,7,8] [0] U U (fun z=>[(9,(vI (z.1:Int)))]) (fun z=>[]) (fun _=>rfl) (fun _=>rfl) (fun z=>la.length-z.1) ⟨0,B⟩ (bD U) (aR [0]) ?_
 clear B
 rintro ⟨i,⟨P,A⟩⟩ J4 H
 try dsimp only
 refine WS fun _ L=>rP 1 [] mn ?_
 refine RK L<|aq fun _ M=>bR U (aU fun S=>?_) (aT fun S=>?_)
 ·refine bQ<|ag<|ag<|aI<|KK J<|WS fun _ F=>rP 1 [] mn ?_
  refine RK F<|ar<|Q1 hQ U U U ?_
  exact cB (bj (by rw [List.take_of_length_le I] at A; exact A)).symm
 refine WK M<|aq fun _ N=>aH<|WS fun _ O=>?_
 obtain ⟨x,hx⟩:=aC la i I
 have R:=bO iC hx
 refine rS (IA i U (ay 0 U) dy dc I I)<|rS (gD i 0 (vI x) U bU (ay 0 U) R U dc U)<|bI 1 U<|RK O<|WS fun _ D=>rP 3 [] mn ?_
 refine RK D<|ck U (aT fun C=>?_) (aU fun C=>?_)
 ·refine WS fun _ E=>rP 1 [] mn ?_
  refine RK E<|ar<|Q1 hQ U U U ?_
  exact cB (cO (by rw [← C]; exact aM hx)).symm
 refine cj<|aP<|KK N<|aw<|rP 2 [] mn ?_
 refine aK ?_
 have G:(vI (((i+1):Nat):Int))=(vI ((i:Int)+1)):=by exact cI I
 refine bu (H ⟨(i+1),⟨I,fun q=>by rw [yL hx] at q; rcases gH.1 q with q|q; exact A q; exact C (cE.1 q).symm⟩⟩ _ _ _ rfl os (cP 3<|bw rfl G<|dp.nil _) (aR [0]))
end
section
open Go.RowKit
theorem Ny (j:cS) (kA:OA) (kC:Nat) (az:List RA) (cA:OA) (cC:Nat) (bA:OA) (bC:Nat) (slA:OA) (slC:Nat) (drA:OA) (drC:Nat) (ha:List cD) (heA:OA) (heC:Nat) (faA:OA) (faC:Nat) (prA:OA) (prC:Nat) (kq hq sq:Int) (hin:gX j az ha):
 dB Tryz.prog 32 [(vA (gh.cells (nt j kA kC cA cC bA bC slA slC drA drC heA heC faA faC prA prC))),(vI kq),(vI hq),(vI sq)] [(rd gd 3 2 fr),(rd kA j.Race.ao.aO.length 9 (j.Race.ao.aO.map au.cells)),(rd cA j.Race.ao.aj.length 2 (List.zipWith ax.cells j.Race.ao.aj az)),(dE (bg ax.e_ j.Race.ao.aj az)),(rd bA j.Race.ao.ab.length 4 (j.Race.ao.ab.map bK.cells)),(rd slA j.Race.aV.length 1 (j.Race.aV.map iC)),(rd drA j.Race.bV.length 1 (j.Race.bV.map iC)),(rd heA j.Race.av.length 1 (List.zipWith bW j.Race.av ha)),(dE (bg er j.Race.av ha)),(rd faA j.aS.length 4 (j.aS.map aZ.cells)),(rd prA j.aJ.length 5 (j.aJ.map br.cells))] (vT [(Value.int .u8 (qb j kq hq sq)),(vI (o0 j kq hq sq))]):=by
 have O:=hin.race
 have n:=hin.race.line
 have AC:=hin.race.g8
 have AK:=hin.race.has
 have x:=hin.race.g7
 have r:=hin.nf
 have w:=hin.np
 refine bJ kr Tryz.func32 U U fun w0 Q hQ hN=>?_
 try dsimp only
 refine WS fun _ W=>eJ U fun b2=>bI 2 U<|RK W<|WS fun _ X=>eV 1 [] (mc 0 U mn) U<|rS (CL (sv j kA kC az cA cC bA bC slA slC drA drC ha heA heC faA faC prA prC hin) (bo [1,2,3,4,5,6,7,8,9,10,11]) U)<|bI 3 U<|AL U DH fun b4=>eN U Er U<|bI 1 U<|RK X<|aq fun _ Y=>WS fun _ Z=>rP 2 [] mn ?_
 refine RK Z<|ck U (aX fun B=>?_) (aW fun B=>?_)
 ·refine WS fun _ a=>rP 3 [] mn ?_
  refine RK a<|ar<|Q2 hQ U U U U ?_
  (have e:=G2 (k:=kq) (h:=hq) (s:=sq) B; rw [e.1,e.2]; done)
 refine WK Y<|aq fun _ b=>WS fun _ E=>rP 5 [] (mc 1 U mn) ?_
 refine ew (xs:=[.tmp 24]) (cs:=[(vI kq)]) U dy j7 U U U U (by simp [Value.cells]) U U fun P=>?_
 refine rS (CL (dB.eq (ij 0 ((j.aS.length:Int)-1) ([kq]) (some ⟨P,0,none⟩) 1 (by (simp; done))) cy) (aD (bx 0 U U (by simp [bP]) U)<|aL) U) ?_
 refine rP 2 [] mn ?_
 refine bT (t:=28) U (aX fun T=>?_) (aW fun T=>?_)
 ·refine bI 21 U<|RK E<|aN U<|WS fun _ F=>rP 2 [] mn ?_
  refine RK F<|ar<|Q2 hQ U U U U ?_
  (have e:=vO (k:=kq) (h:=hq) (s:=sq) B (fun q=>by unfold mG at q; omega); rw [e.1,e.2]; done)
 refine rP 6 [] (mc 2 U mn) ?_
 refine ew (xs:=[.tmp 34]) (cs:=[(vI hq)]) U dy j7 U U U U (by simp [Value.cells]) U U fun R=>?_
 refine rS (CL (dB.eq (ij 0 ((j.Race.av.length:Int)-1) ([hq]) (some ⟨R,0,none⟩) 1 (by (simp; done))) cy) (aD (bx 0 U U (by simp [bP]) U)<|aL) U) ?_
 refine rP 3 [] mn ?_
 refine bT (t:=39) U (aX fun AA=>?_) (aW fun AA=>?_)
 ·refine bI 10 U<|RK E<|aN U<|WS fun _ G=>rP 2 [] mn ?_
  refine RK G<|ar<|Q2 hQ U U U U ?_
  (have e:=vO (k:=kq) (h:=hq) (s:=sq) B (fun q=>by unfold mG at q; omega); rw [e.1,e.2]; done)
 refine rP 6 [] (mc 3 U mn) ?_
 refine ew (xs:=[.tmp 45]) (cs:=[(vI sq)]) U dy j7 U U U U (by simp [Value.cells]) U U fun S=>?_
 refine rS (CL (dB.eq (ij 0 ((j.Race.aV.length:Int)-1) ([sq]) (some ⟨S,0,none⟩) 1 (by (simp; done))) cy) (aD (bx 0 U U (by simp [bP]) U)<|aL) U) ?_
 refine rP 2 [] mn ?_
 refine RK E<|ck U (aX fun V=>?_) (aW fun V=>?_)
 ·refine WS fun _ H=>rP 2 [] mn ?_
  refine RK H<|ar<|Q2 hQ U U U U ?_
  (have e:=vO (k:=kq) (h:=hq) (s:=sq) B (fun q=>by unfold mG at q; omega); rw [e.1,e.2]; done)
 refine WK b<|aq fun _ AB=>cW cg 18 kr<|dP 4 [0,1] (mc 3 U (mc 4 U mn)) ?_
 have N:=(eA B).1
 have l:=(eA B).2
 have m:=(d_ N).1
 have o:=(d_ N).2
 have i:=(eh m).2.head
 unfold eZ at i
 obtain ⟨f,hf⟩:=aC j.aS ((kq).toNat) I
 have g:=bO aZ.cells hf
 refine dS (IA ((kq).toNat) U (ay 14 U) C5 dc I I)<|dS (jD ((kq).toNat) 0 (aZ.cells f) U bU (ay 14 U) g U dc U U)<|dP 4 [] (mc 4 U mn) ?_
 obtain ⟨ht,D⟩:=aC j.Race.av ((hq).toNat) I
 obtain ⟨A,C⟩:=aC ha ((hq).toNat) I
 have M:(List.zipWith bW j.Race.av ha)[(hq).toNat]? =some (bW ht A):=cv D C
 refine dS (IA ((hq).toNat) U (ay 12 U) j8 dc I I) ?_
 have L:=O.ek _ _ _ D C
 have u:=L.ly
 have v:=(o.ek ht (aM D)).1
 refine dS (gD ((hq).toNat) 0 (vS A.1.1 ht.length A.1.2) U bU (ay 12 U) M U dc U)<|dP 1 [] mn ?_
 have p:=L.sig
 have K:=l.fault f (aM hf)
 have z:0≤f.ig∧f.ig≤1000000:=by have y:=K.2.2; split at y<;>omega
 obtain ⟨d,hd⟩:=aC ht ((sq).toNat) I
 obtain ⟨da,J⟩:=aC A.2 ((sq).toNat) I
 have c:(List.zipWith ak.cells ht A.2)[(sq).toNat]? =some (ak.cells d da):=cv hd J
 refine dS (IA ((sq).toNat) U (show fY _ (rd A.1.1 ht.length 7 (List.zipWith ak.cells ht A.2)).holds from (bX 13 U (a_ D C bY))) mM dc I I)<|dS (jD ((sq).toNat) 0 (aG.cells (aG.mk d.Out d.cJ d.Time (cL.mk d.aY.Start d.aY.gj (bE.mk da.1 d.aY.aa.length da.2)))) U bU (show fY _ (rd A.1.1 ht.length 7 (List.zipWith ak.cells ht A.2)).holds from (bX 13 U (a_ D C bY))) c U dc U U) ?_
 have AO:=p d (aM hd)
 refine dS (CL (AH j kA kC az cA cC bA bC slA slC drA drC ha heA heC faA faC prA prC f d da.1 da.2 hin (by exact K.1) asm asm) (ld [6,7,8,9,10,11,12,13,14,15]<|aD (show fY _ (rd da.1 d.aY.aa.length 2 (d.aY.aa.map aF.cells)).holds from (bX 13 U (a_ D C (dh _ (a_ hd J (by simp [ak.e_]))))))<|aL) U)<|dP 2 [] mn ?_
 refine cx<|RK AB<|ar<|Q2 hQ U U U U ?_
 (have e:=uZ (k:=kq) (h:=hq) (s:=sq) B (by unfold mG; omega) hf D hd; rw [e.1,e.2]; done)
theorem QL (j:cS) (kA:OA) (kC:Nat) (az:List RA) (cA:OA) (cC:Nat) (bA:OA) (bC:Nat) (slA:OA) (slC:Nat) (drA:OA) (drC:Nat) (ha:List cD) (heA:OA) (heC:Nat) (faA:OA) (faC:Nat) (prA:OA) (prC:Nat) (iq:Int) (hin:gX j az ha):
 dB Tryz.prog 34 [(vA (gh.cells (nt j kA kC cA cC bA bC slA slC drA drC heA heC faA faC prA prC))),(vI iq)] [(rd gd 3 2 fr),(rd kA j.Race.ao.aO.length 9 (j.Race.ao.aO.map au.cells)),(rd cA j.Race.ao.aj.length 2 (List.zipWith ax.cells j.Race.ao.aj az)),(dE (bg ax.e_ j.Race.ao.aj az)),(rd bA j.Race.ao.ab.length 4 (j.Race.ao.ab.map bK.cells)),(rd slA j.Race.aV.length 1 (j.Race.aV.map iC)),(rd drA j.Race.bV.length 1 (j.Race.bV.map iC)),(rd heA j.Race.av.length 1 (List.zipWith bW j.Race.av ha)),(dE (bg er j.Race.av ha)),(rd faA j.aS.length 4 (j.aS.map aZ.cells)),(rd prA j.aJ.length 5 (j.aJ.map br.cells))] (vT [(Value.int .u8 (v7 j iq)),(vI (uS j iq))]):=by
 have R:=hin.race
 have M:=hin.race.line
 have T:=hin.race.g8
 have AA:=hin.race.has
 have S:=hin.race.g7
 have O:=hin.nf
 have P:=hin.np
 refine bJ kr Tryz.func34 U U fun X Q hQ hN=>?_
 try dsimp only
 refine WS fun _ F=>eJ U fun V=>bI 2 U<|RK F<|WS fun _ G=>eV 1 [] (mc 0 U mn) U<|rS (CL (sv j kA kC az cA cC bA bC slA slC drA drC ha heA heC faA faC prA prC hin) (bo [1,2,3,4,5,6,7,8,9,10,11]) U)<|bI 3 U<|AL U DH fun W=>eN U Er U<|bI 1 U<|RK G<|aq fun _ H=>WS fun _ AB=>rP 2 [] mn ?_
 refine RK AB<|ck U (aX fun A=>?_) (aW fun A=>?_)
 ·refine WS fun _ J=>rP 3 [] mn ?_
  refine RK J<|ar<|Q2 hQ U U U U ?_
  (have e:=ID (i:=iq) A; rw [e.1,e.2]; done)
 refine WK H<|aq fun _ K=>WS fun _ L=>rP 5 [] (mc 1 U mn) ?_
 refine ew (xs:=[.tmp 20]) (cs:=[(vI iq)]) U dy j7 U U U U (by simp [Value.cells]) U U fun D=>?_
 refine rS (CL (dB.eq (ij 0 ((j.aJ.length:Int)-1) ([iq]) (some ⟨D,0,none⟩) 1 (by (simp; done))) cy) (aD (bx 0 U U (by simp [bP]) U)<|aL) U) ?_
 refine rP 1 [] mn ?_
 refine RK L<|ck U (aX fun E=>?_) (aW fun E=>?_)
 ·refine WS fun _ B=>rP 2 [] mn ?_
  refine RK B<|ar<|Q2 hQ U U U U ?_
  (have e:=Ly (i:=iq) A I; rw [e.1,e.2]; done)
 refine WK K<|aq fun _ C=>cW cg 9 kr<|dP 4 [0,1] (mc 1 U (mc 2 U mn)) ?_
 obtain ⟨p,hp⟩:=aC j.aJ ((iq).toNat) I
 have N:=bO br.cells hp
 refine dS (IA ((iq).toNat) U (ay 13 U) D_ dc I I)<|dS (jD ((iq).toNat) 0 (br.cells p) U bU (ay 13 U) N U dc U U)<|dS (CL (KG j kA kC az cA cC bA bC slA slC drA drC ha heA heC faA faC prA prC p hin asm (by exact ⟨_,hp⟩)) (bo [4,5,6,7,8,9,10,11,12,13]) U)<|dP 2 [] mn ?_
 refine cx<|RK C<|ar<|Q2 hQ U U U U ?_
 (have e:=Am (i:=iq) A I hp; rw [e.1,e.2]; done)
theorem BN (j:cS) (kA:OA) (kC:Nat) (az:List RA) (cA:OA) (cC:Nat) (bA:OA) (bC:Nat) (slA:OA) (slC:Nat) (drA:OA) (drC:Nat) (ha:List cD) (heA:OA) (heC:Nat) (faA:OA) (faC:Nat) (prA:OA) (prC:Nat) (hin:gX j az ha):
 nG Tryz.prog 8 [(vA (gh.cells (nt j kA kC cA cC bA bC slA slC drA drC heA heC faA faC prA prC)))] [(rd gd 3 2 fr),(rd kA j.Race.ao.aO.length 9 (j.Race.ao.aO.map au.cells)),(rd cA j.Race.ao.aj.length 2 (List.zipWith ax.cells j.Race.ao.aj az)),(dE (bg ax.e_ j.Race.ao.aj az)),(rd bA j.Race.ao.ab.length 4 (j.Race.ao.ab.map bK.cells)),(rd slA j.Race.aV.length 1 (j.Race.aV.map iC)),(rd drA j.Race.bV.length 1 (j.Race.bV.map iC)),(rd heA j.Race.av.length 1 (List.zipWith bW j.Race.av ha)),(dE (bg er j.Race.av ha)),(rd faA j.aS.length 4 (j.aS.map aZ.cells)),(rd prA j.aJ.length 5 (j.aJ.map br.cells))] (fun (x:(OA)×Nat)=>(vT [(vS x.1 ((kE j).length) x.2),(vI (dG j))])) (fun (x:(OA)×Nat)=>True) (fun (x:(OA)×Nat)=>[(own x.1 x.2 3 1 ((kE j).map iC))]):=by
 have S:=hin.race
 have L:=hin.race.line
 have V:=hin.race.g8
 have W:=hin.race.has
 have T:=hin.race.g7
 have P:=hin.nf
 have R:=hin.np
 refine eO kr Tryz.func8 U U fun a Q hQ hN=>?_
 try dsimp only
 refine WS fun _ E=>eJ U fun Y=>bI 1 U<|bI 1 U<|RK E<|WS fun _ F=>eV 1 [] (mc 0 U mn) U<|rS (CL (sv j kA kC az cA cC bA bC slA slC drA drC ha heA heC faA faC prA prC hin) (bo [1,2,3,4,5,6,7,8,9,10,11]) U)<|bI 3 U<|AL U DH fun Z=>eN U Er U<|bI 1 U<|RK F<|aq fun _ G=>WS fun _ H=>rP 2 [] mn ?_
 refine RK H<|ck U (aX fun A=>?_) (aW fun A=>?_)
 ·refine WS fun _ AB=>gT 3 1 ?_
  rw [show (own none 0 3 1 ([]:List (List Value)))=own none 0 3 1 ((kE j).map iC) from by rw [xC A]; rfl]
  refine bI 2 U<|rP 1 [] mn ?_
  refine RK AB<|ar ?_
  refine LX hQ (none,0) [0] [] mn U U U ?_ ?_
  ·(rw [xC A]; rfl)
  ·trivial
 refine WK G<|WS fun _ J=>rP 3 [0,1] (mc 1 U (mc 0 U mn)) ?_
 refine rS (FU U) ?_
 refine cX (Ak j.aJ prA prC (Value.func (.func 42) [(vA (dg.cells (dg.mk (nt j kA kC cA cC bA bC slA slC drA drC heA heC faA faC prA prC))))].toArray [].toArray) (fun N B=>(iD j B)) (dE [(rd kA j.Race.ao.aO.length 9 (j.Race.ao.aO.map au.cells)),(rd cA j.Race.ao.aj.length 2 (List.zipWith ax.cells j.Race.ao.aj az)),(dE (bg ax.e_ j.Race.ao.aj az)),(rd bA j.Race.ao.ab.length 4 (j.Race.ao.ab.map bK.cells)),(rd slA j.Race.aV.length 1 (j.Race.aV.map iC)),(rd drA j.Race.bV.length 1 (j.Race.bV.map iC)),(rd heA j.Race.av.length 1 (List.zipWith bW j.Race.av ha)),(dE (bg er j.Race.av ha)),(rd faA j.aS.length 4 (j.aS.map aZ.cells)),(rd prA j.aJ.length 5 (j.aJ.map br.cells))]) (by intro N B M; exact k7 (fi:=[(vA (dg.cells (dg.mk (nt j kA kC cA cC bA bC slA slC drA drC heA heC faA faC prA prC))))]) (ca:=[]) (j1 (vu j kA kC az cA cC bA bC slA slC drA drC ha heA heC faA faC prA prC N B asm asm (by (obtain ⟨X,_,K⟩:=M; exact ⟨X,K⟩))) (bo [0,1,2,3,4,5,6,7,8,9]))) asm) (dM 12 rfl rfl<|aD (jZ (bo [3,4,5,6,7,8,9,10,11,12]))<|aL) rfl fun O AA=>?_
 obtain ⟨C,D⟩:=O
 try dsimp only
 refine rP 1 [] mn ?_
 rw [show (mh (ir j.aJ (fun N B=>(iD j B))) j.aJ.length)=kE j from by rw [qj A]; rfl]
 refine rP 1 [] mn ?_
 refine RK J<|ar ?_
 refine LX hQ (C,D) [0] [] mn U U U ?_ ?_
 ·(rw [A]; rfl)
 ·trivial
theorem Ms (j:cS) (kA:OA) (kC:Nat) (az:List RA) (cA:OA) (cC:Nat) (bA:OA) (bC:Nat) (slA:OA) (slC:Nat) (drA:OA) (drC:Nat) (ha:List cD) (heA:OA) (heC:Nat) (faA:OA) (faC:Nat) (prA:OA) (prC:Nat) (hin:gX j az ha):
 dB Tryz.prog 14 [(vA (gh.cells (nt j kA kC cA cC bA bC slA slC drA drC heA heC faA faC prA prC)))] [(rd gd 3 2 fr),(rd kA j.Race.ao.aO.length 9 (j.Race.ao.aO.map au.cells)),(rd cA j.Race.ao.aj.length 2 (List.zipWith ax.cells j.Race.ao.aj az)),(dE (bg ax.e_ j.Race.ao.aj az)),(rd bA j.Race.ao.ab.length 4 (j.Race.ao.ab.map bK.cells)),(rd slA j.Race.aV.length 1 (j.Race.aV.map iC)),(rd drA j.Race.bV.length 1 (j.Race.bV.map iC)),(rd heA j.Race.av.length 1 (List.zipWith bW j.Race.av ha)),(dE (bg er j.Race.av ha)),(rd faA j.aS.length 4 (j.aS.map aZ.cells)),(rd prA j.aJ.length 5 (j.aJ.map br.cells))] (vT [(vI (z5 j)),(vI (Al j)),(vI (dG j))]):=by
 have R:=hin.race
 have M:=hin.race.line
 have Y:=hin.race.g8
 have Z:=hin.race.has
 have S:=hin.race.g7
 have O:=hin.nf
 have P:=hin.np
 refine bJ kr Tryz.func14 U U fun k Q hQ hN=>?_
 try dsimp only
 refine WS fun _ G=>eJ U fun f=>bI 3 U<|RK G<|WS fun _ H=>rP 1 [] (mc 0 U mn) ?_
 refine cX (BN j kA kC az cA cC bA bC slA slC drA drC ha heA heC faA faC prA prC hin) (bo [1,2,3,4,5,6,7,8,9,10,11]) U fun c b=>?_
 obtain ⟨d,g⟩:=c
 try dsimp only
 refine bI 5 U<|RK H<|aq fun _ AB=>WS fun _ J=>rP 2 [] mn ?_
 refine RK J<|ck U (aX fun A=>?_) (aW fun A=>?_)
 ·refine WS fun _ D=>rP 4 [] mn ?_
  refine RK D<|ar<|Q3 hQ U U U U U ?_
  (have e:=Hw A; rw [e.1,e.2]; done)
 refine WK AB<|WS fun _ E=>?_
 have C:=(eA A).2
 have X:(kE j).length≤8:=by have h:=C.np; have i:=w9 (j:=j); rw [qj A]; omega
 have B:=C.tn
 have N:=C.np
 have K:=Eg (a:=((kE j).length:Int)) ⟨I,I⟩ B
 have L:=Eg (a:=(j.aJ.length:Int)) ⟨I,I⟩ B
 have T:=Int.mul_le_mul_of_nonneg_right (show (0:Int)≤((kE j).length:Int) by omega) B.1
 have AA:=Int.mul_le_mul_of_nonneg_right (show ((kE j).length:Int)≤8 by omega) B.1
 have V:=Int.mul_le_mul_of_nonneg_right (show (0:Int)≤(j.aJ.length:Int) by omega) B.1
 have W:=Int.mul_le_mul_of_nonneg_right N B.1
 refine eV 4 [] (mc 1 U mn) U<|rS (BI U (uT K))<|bI 1 U<|RK E<|aq fun _ F=>cW cg 12 kr<|kv 6 [] (mc 1 U mn) U<|dS (BI U (uT L))<|dP 5 [] mn ?_
 refine cx<|RK F<|ar<|Q3 hQ U U U U U ?_
 (have e:=xU A; rw [e.1,e.2,A,qj A]; rfl)
theorem JL (i:Int) (p:br) (sq:Int) (g1:Nat) (j:cS) (kA:OA) (kC:Nat) (az:List RA) (cA:OA) (cC:Nat) (bA:OA) (bC:Nat) (slA:OA) (slC:Nat) (drA:OA) (drC:Nat) (ha:List cD) (heA:OA) (heC:Nat) (faA:OA) (faC:Nat) (prA:OA) (prC g2:Nat) (hin:gX j az ha) (hok:dG j=0) (hp: ∃ i:Nat,j.aJ[i]? =some p):
 dB Tryz.prog 49 [(vI i),(vA (br.cells p)),(vP g1),(vP g2)] [(cz g1 3 [(vI sq)]),(rd kA j.Race.ao.aO.length 9 (j.Race.ao.aO.map au.cells)),(rd cA j.Race.ao.aj.length 2 (List.zipWith ax.cells j.Race.ao.aj az)),(dE (bg ax.e_ j.Race.ao.aj az)),(rd bA j.Race.ao.ab.length 4 (j.Race.ao.ab.map bK.cells)),(rd slA j.Race.aV.length 1 (j.Race.aV.map iC)),(rd drA j.Race.bV.length 1 (j.Race.bV.map iC)),(rd heA j.Race.av.length 1 (List.zipWith bW j.Race.av ha)),(dE (bg er j.Race.av ha)),(rd faA j.aS.length 4 (j.aS.map aZ.cells)),(rd prA j.aJ.length 5 (j.aJ.map br.cells)),(cz g2 97 (dg.cells (dg.mk (nt j kA kC cA cC bA bC slA slC drA drC heA heC faA faC prA prC))))] (vB (Ar j sq p)):=by
 refine bJ kr Tryz.func49 U U fun E Q hQ hN=>?_
 try dsimp only
 refine WS fun _ C=>eJ U fun D=>bI 1 U<|RK C<|WS fun _ B=>rP 5 [0,1] (mc 0 U (mr 1 U mn)) ?_
 refine cG (t:=11) U (aU fun A=>?_) (aT fun A=>?_)
 ·refine rP 7 [] mn ?_
  refine RK B<|ar<|Q1 hQ U U U ?_
  (rw [No A]; done)
 refine eV 3 [0,1] (mr 12 U (mc 0 U mn)) U<|rS (CL (vu j kA kC az cA cC bA bC slA slC drA drC ha heA heC faA faC prA prC i p hin hok hp) (bo [2,3,4,5,6,7,8,9,10,11]) U)<|rP 3 [] mn ?_
 refine RK B<|ar<|Q1 hQ U U U ?_
 (rw [Kr A]; done)
theorem Nn (j:cS) (kA:OA) (kC:Nat) (az:List RA) (cA:OA) (cC:Nat) (bA:OA) (bC:Nat) (slA:OA) (slC:Nat) (drA:OA) (drC:Nat) (ha:List cD) (heA:OA) (heC:Nat) (faA:OA) (faC:Nat) (prA:OA) (prC:Nat) (sq:Int) (hin:gX j az ha):
 dB Tryz.prog 16 [(vA (gh.cells (nt j kA kC cA cC bA bC slA slC drA drC heA heC faA faC prA prC))),(vI sq)] [(rd gd 3 2 fr),(rd kA j.Race.ao.aO.length 9 (j.Race.ao.aO.map au.cells)),(rd cA j.Race.ao.aj.length 2 (List.zipWith ax.cells j.Race.ao.aj az)),(dE (bg ax.e_ j.Race.ao.aj az)),(rd bA j.Race.ao.ab.length 4 (j.Race.ao.ab.map bK.cells)),(rd slA j.Race.aV.length 1 (j.Race.aV.map iC)),(rd drA j.Race.bV.length 1 (j.Race.bV.map iC)),(rd heA j.Race.av.length 1 (List.zipWith bW j.Race.av ha)),(dE (bg er j.Race.av ha)),(rd faA j.aS.length 4 (j.aS.map aZ.cells)),(rd prA j.aJ.length 5 (j.aJ.map br.cells))] (vT [(vI (tv j sq)),(vI (rr j sq))]):=by
 have c:=hin.race
 have W:=hin.race.line
 have i:=hin.race.g8
 have k:=hin.race.has
 have d:=hin.race.g7
 have Z:=hin.nf
 have b:=hin.np
 refine bJ kr Tryz.func16 U U fun q Q hQ hN=>?_
 try dsimp only
 refine WS fun _ M=>eJ U fun o=>wM U U fun AB=>bI 2 U<|RK M<|WS fun _ N=>eV 1 [] (mc 1 U mn) U<|rS (CL (sv j kA kC az cA cC bA bC slA slC drA drC ha heA heC faA faC prA prC hin) (bo [2,3,4,5,6,7,8,9,10,11,12]) U)<|bI 3 U<|AL U DH fun J=>eN U Er U<|bI 1 U<|RK N<|aq fun _ O=>WS fun _ P=>rP 2 [] mn ?_
 refine RK P<|ck U (aX fun A=>?_) (aW fun A=>?_)
 ·refine WS fun _ R=>rP 3 [] mn ?_
  refine RK R<|ar<|Q2 hQ U U U U ?_
  (have e:=Hf (s:=sq) A; rw [e.1,e.2]; done)
 refine WK O<|aq fun _ S=>WS fun _ C=>rP 6 [0,1] (mc 2 U (mc 1 U mn)) ?_
 refine ew (xs:=[.tmp 22]) (cs:=[(vI sq)]) U dy j7 U U U U (by simp [Value.cells]) U U fun K=>?_
 refine rS (CL (dB.eq (ij 0 ((j.Race.aV.length:Int)-1) ([sq]) (some ⟨K,0,none⟩) 1 (by (simp; done))) cy) (aD (bx 0 U U (by simp [bP]) U)<|aL) U) ?_
 refine rP 1 [] mn ?_
 refine RK C<|ck U (aX fun L=>?_) (aW fun L=>?_)
 ·refine WS fun _ D=>rP 2 [] mn ?_
  refine RK D<|ar<|Q2 hQ U U U U ?_
  (have e:=GD (s:=sq) A I; rw [e.1,e.2]; done)
 refine WK S<|WS fun _ E=>rP 2 [] (mc 3 U mn) ?_
 refine rS (FU U) ?_
 refine cX (Ak j.aJ prA prC (Value.func (.func 49) [].toArray [(vP AB),(vP J)].toArray) (fun H B=>(Ar j sq B)) (dE [(cz AB 3 [(vI sq)]),(rd kA j.Race.ao.aO.length 9 (j.Race.ao.aO.map au.cells)),(rd cA j.Race.ao.aj.length 2 (List.zipWith ax.cells j.Race.ao.aj az)),(dE (bg ax.e_ j.Race.ao.aj az)),(rd bA j.Race.ao.ab.length 4 (j.Race.ao.ab.map bK.cells)),(rd slA j.Race.aV.length 1 (j.Race.aV.map iC)),(rd drA j.Race.bV.length 1 (j.Race.bV.map iC)),(rd heA j.Race.av.length 1 (List.zipWith bW j.Race.av ha)),(dE (bg er j.Race.av ha)),(rd faA j.aS.length 4 (j.aS.map aZ.cells)),(rd prA j.aJ.length 5 (j.aJ.map br.cells)),(cz J 97 (dg.cells (dg.mk (nt j kA kC cA cC bA bC slA slC drA drC heA heC faA faC prA prC))))]) (by intro H B X; exact k7 (fi:=[]) (ca:=[(vP AB),(vP J)]) (j1 (JL H B sq AB j kA kC az cA cC bA bC slA slC drA drC ha heA heC faA faC prA prC J asm asm (by (obtain ⟨n,_,V⟩:=X; exact ⟨n,V⟩))) (bo [0,1,2,3,4,5,6,7,8,9,10,11]))) asm) (dM 14 rfl rfl<|aD (jZ (bo [2,5,6,7,8,9,10,11,12,13,14,1]))<|aL) rfl fun Y f=>?_
 obtain ⟨g,h⟩:=Y
 try dsimp only
 refine bI 1 U<|RK E<|WS fun _ F=>rP 1 [] mn ?_
 have G:=(eA A).2
 have m:=G.np
 have AA:=G.tn
 have l:(mh (ir j.aJ fun _ p=>Ar j sq p) j.aJ.length).length≤8:=Nat.le_trans qv I
 have T:=Eg (a:= -(((mh (ir j.aJ fun _ p=>Ar j sq p) j.aJ.length).length:Nat):Int)) ⟨I,I⟩ AA
 refine bI 1 U<|rS (NG U ⟨I,I⟩)<|eV 2 [] (mc 4 U mn) U<|rS (BI U (uT T))<|rP 2 [] mn ?_
 refine RK F<|ar<|Q2 hQ U U U U ?_
 (have e:=Lq (s:=sq) A I; rw [e.1,e.2]; done)
end
section
open Go.RowKit
theorem sO:
 nG Tryz.prog 31 [] [] (fun (x:(OA)×Nat×(OA)×Nat×(List RA)×(OA)×Nat×(OA)×Nat×(OA)×Nat×(OA)×Nat×(List cD)×(OA)×Nat×(OA)×Nat)=>(vA (gh.cells (gh.mk (cY.mk (cm.mk (bL.mk (bE.mk x.1 ep.Race.ao.aO.length x.2.1)) ep.Race.ao.h_ (bE.mk x.2.2.1 ep.Race.ao.aj.length x.2.2.2.1) (bE.mk x.2.2.2.2.2.1 ep.Race.ao.ab.length x.2.2.2.2.2.2.1) ep.Race.ao.cf ep.Race.ao.fJ ep.Race.ao.dC) (bE.mk x.2.2.2.2.2.2.2.1 ep.Race.aV.length x.2.2.2.2.2.2.2.2.1) (bE.mk x.2.2.2.2.2.2.2.2.2.1 ep.Race.bV.length x.2.2.2.2.2.2.2.2.2.2.1) ep.Race.j9 (bE.mk x.2.2.2.2.2.2.2.2.2.2.2.1 ep.Race.av.length x.2.2.2.2.2.2.2.2.2.2.2.2.1)) (bE.mk x.2.2.2.2.2.2.2.2.2.2.2.2.2.2.1 ep.aS.length x.2.2.2.2.2.2.2.2.2.2.2.2.2.2.2.1) (bE.mk x.2.2.2.2.2.2.2.2.2.2.2.2.2.2.2.2.1 ep.aJ.length x.2.2.2.2.2.2.2.2.2.2.2.2.2.2.2.2.2) ep.iy ep.Dj)))) (fun (x:(OA)×Nat×(OA)×Nat×(List RA)×(OA)×Nat×(OA)×Nat×(OA)×Nat×(OA)×Nat×(List cD)×(OA)×Nat×(OA)×Nat)=>gX ep x.2.2.2.2.1 x.2.2.2.2.2.2.2.2.2.2.2.2.2.1∧x.2.2.2.2.1.length=ep.Race.ao.aj.length∧sQ ep.Race.av x.2.2.2.2.2.2.2.2.2.2.2.2.2.1) (fun (x:(OA)×Nat×(OA)×Nat×(List RA)×(OA)×Nat×(OA)×Nat×(OA)×Nat×(OA)×Nat×(List cD)×(OA)×Nat×(OA)×Nat)=>[(own x.1 x.2.1 128 9 (ep.Race.ao.aO.map au.cells)),(own x.2.2.1 x.2.2.2.1 133 2 (List.zipWith ax.cells ep.Race.ao.aj x.2.2.2.2.1)),(bM (bg ax.owns ep.Race.ao.aj x.2.2.2.2.1)),(own x.2.2.2.2.2.1 x.2.2.2.2.2.2.1 137 4 (ep.Race.ao.ab.map bK.cells)),(own x.2.2.2.2.2.2.2.1 x.2.2.2.2.2.2.2.2.1 3 1 (ep.Race.aV.map iC)),(own x.2.2.2.2.2.2.2.2.2.1 x.2.2.2.2.2.2.2.2.2.2.1 3 1 (ep.Race.bV.map iC)),(own x.2.2.2.2.2.2.2.2.2.2.2.1 x.2.2.2.2.2.2.2.2.2.2.2.2.1 75 1 (List.zipWith bW ep.Race.av x.2.2.2.2.2.2.2.2.2.2.2.2.2.1)),(bM (bg jF ep.Race.av x.2.2.2.2.2.2.2.2.2.2.2.2.2.1)),(own x.2.2.2.2.2.2.2.2.2.2.2.2.2.2.1 x.2.2.2.2.2.2.2.2.2.2.2.2.2.2.2.1 86 4 (ep.aS.map aZ.cells)),(own x.2.2.2.2.2.2.2.2.2.2.2.2.2.2.2.2.1 x.2.2.2.2.2.2.2.2.2.2.2.2.2.2.2.2.2 102 5 (ep.aJ.map br.cells))]):=by
 refine eO kr Tryz.func31 U U fun V Q hQ hN=>?_
 try dsimp only
 refine WS fun _ P=>AL U UD fun T=>RK P<|WS fun _ R=>rS (CL (pU 10000 10200) (aL) U)<|rS (SX (bp (xs:=[(0,.const (vI 1)),(1,.tmp 3)]) (cs:=(au.cells (au.mk 1 (ai.mk 10000 10200) (ai.mk 0 0) (ai.mk 0 0) 0 0))) U U (bq SP U)) U U)<|ew (xs:=[.tmp 4]) (cs:=(au.cells (au.mk 1 (ai.mk 10000 10200) (ai.mk 0 0) (ai.mk 0 0) 0 0))) U wG E2 U U U U (by simp [Value.cells,au.bk]) U U fun E=>rS (SX (bp (xs:=[(0,.tmp 5)]) (cs:=(bL.cells (bL.mk (bE.mk (some ⟨E,0,none⟩) 1 1)))) U U (bq Vx U)) U U)<|rS (CL (pU 0 2) (aL) U)<|rS (SX (bp (xs:=[(0,.const (vI 0)),(1,.tmp 7)]) (cs:=(ct.cells (ct.mk 0 (ai.mk 0 2)))) U U (bq Oj U)) U U)<|rS (CL (pU 5 6) (aL) U)<|rS (SX (bp (xs:=[(0,.const (vI 100000)),(1,.tmp 9)]) (cs:=(ct.cells (ct.mk 100000 (ai.mk 5 6)))) U U (bq Oj U)) U U)<|ew (xs:=[.tmp 8,.tmp 10]) (cs:=((ct.cells (ct.mk 0 (ai.mk 0 2)))++(ct.cells (ct.mk 100000 (ai.mk 5 6))))) U nR sV U U U U (by simp [Value.cells,ct.bk]) U U fun J=>rS (SX (bp (xs:=[(0,.const (vI 100)),(1,.tmp 11)]) (cs:=(dk.cells (dk.mk 100 (bE.mk (some ⟨J,0,none⟩) 2 2)))) U U (bq Sk U)) U U)<|ew (xs:=[.tmp 12]) (cs:=(dk.cells (dk.mk 100 (bE.mk (some ⟨J,0,none⟩) 2 2)))) U yf xA U U U U (by simp [Value.cells,dk.bk]) U U fun L=>rS (CL (pU 1000 1000) (aL) U)<|rS (SX (bp (xs:=[(1,.tmp 14)]) (cs:=(cH.cells (cH.mk 0 (ai.mk 1000 1000)))) U U (bq Ld U)) U U)<|rS (SX (bp (xs:=[(0,.tmp 15)]) (cs:=(bK.cells (bK.mk (cH.mk 0 (ai.mk 1000 1000)) 0))) U U (bq H4 U)) U U)<|rS (CL (pU 4000 4000) (aL) U)<|rS (SX (bp (xs:=[(1,.tmp 17)]) (cs:=(cH.cells (cH.mk 0 (ai.mk 4000 4000)))) U U (bq Ld U)) U U)<|rS (SX (bp (xs:=[(0,.tmp 18)]) (cs:=(bK.cells (bK.mk (cH.mk 0 (ai.mk 4000 4000)) 0))) U U (bq H4 U)) U U)<|rS (CL (pU 9000 9000) (aL) U)<|rS (SX (bp (xs:=[(1,.tmp 20)]) (cs:=(cH.cells (cH.mk 0 (ai.mk 9000 9000)))) U U (bq Ld U)) U U)<|rS (SX (bp (xs:=[(0,.tmp 21)]) (cs:=(bK.cells (bK.mk (cH.mk 0 (ai.mk 9000 9000)) 0))) U U (bq H4 U)) U U)<|ew (xs:=[.tmp 16,.tmp 19,.tmp 22]) (cs:=((bK.cells (bK.mk (cH.mk 0 (ai.mk 1000 1000)) 0))++(bK.cells (bK.mk (cH.mk 0 (ai.mk 4000 4000)) 0))++(bK.cells (bK.mk (cH.mk 0 (ai.mk 9000 9000)) 0)))) U uE Ra U U U U (by simp [Value.cells,bK.bk]) U U fun M=>rS (SX (bp (xs:=[(0,.tmp 6),(1,.const (vI 2000)),(4,.const (vI 1)),(5,.const (vI 1)),(6,.const (vI 1)),(2,.tmp 13),(3,.tmp 23)]) (cs:=(cm.cells (cm.mk (bL.mk (bE.mk (some ⟨E,0,none⟩) 1 1)) 2000 (bE.mk (some ⟨L,0,none⟩) 1 1) (bE.mk (some ⟨M,0,none⟩) 3 3) 1 1 1))) U U (bq Uo U)) U U)<|AL U US fun AA=>?_
 refine gv (es:=(ep.Race.ao.aO.map au.cells)) (C':=[_,_,_,_,(own (some ⟨E,0,none⟩) 1 128 9 (ep.Race.ao.aO.map au.cells)),_]) 4 U (ni au.bk _) U (by show _≤maxLen; exact Nat.le_trans (m:=10) (show (1:Nat)≤10 by decide) dc) U ?_
 refine gv (es:=(yQ.bB.map ct.cells)) (C':=[_,_,_,(own (some ⟨J,0,none⟩) 2 130 3 (yQ.bB.map ct.cells)),_,_]) 3 U (ni ct.bk _) U (by show _≤maxLen; exact Nat.le_trans (m:=10) (show (2:Nat)≤10 by decide) dc) U ?_
 refine gv (es:=(List.zipWith ax.cells ep.Race.ao.aj [((some ⟨J,0,none⟩),2)])) (C':=[_,_,(own (some ⟨L,0,none⟩) 1 133 2 (List.zipWith ax.cells ep.Race.ao.aj [((some ⟨J,0,none⟩),2)])),_,_,_]) 2 U (by intro x hx; change x∈[ax.cells yQ ((some ⟨J,0,none⟩),2)] at hx; rw [cE.1 hx]; rfl) U (by show _≤maxLen; exact Nat.le_trans (m:=10) (show (1:Nat)≤10 by decide) dc) U ?_
 refine gv (es:=(ep.Race.ao.ab.map bK.cells)) (C':=[_,(own (some ⟨M,0,none⟩) 3 137 4 (ep.Race.ao.ab.map bK.cells)),_,_,_,_]) 1 U (ni bK.bk _) U (by show _≤maxLen; exact Nat.le_trans (m:=10) (show (3:Nat)≤10 by decide) dc) U ?_
 refine yr<|OG (X:=[]) (X':=bg ax.owns ep.Race.ao.aj [((some ⟨J,0,none⟩),2)]) 0 4 rfl rfl rfl<|qN rfl UT rfl<|RK R<|WS fun _ S=>rS (SX (bp (xs:=[(0,.const (vI 0)),(1,.const (vI 10600))]) (cs:=(aF.cells (aF.mk 0 10600))) rfl rfl (bq Bi rfl)) rfl rfl)<|rS (SX (bp (xs:=[(0,.const (vI 0)),(1,.const (vI 11000))]) (cs:=(aF.cells (aF.mk 0 11000))) rfl rfl (bq Bi rfl)) rfl rfl)<|rS (SX (bp (xs:=[(0,.const (vI 1)),(1,.const (vI 12600))]) (cs:=(aF.cells (aF.mk 1 12600))) rfl rfl (bq Bi rfl)) rfl rfl)<|ew (xs:=[.tmp 25,.tmp 26,.tmp 27]) (cs:=((aF.cells (aF.mk 0 10600))++(aF.cells (aF.mk 0 11000))++(aF.cells (aF.mk 1 12600)))) rfl wD zG rfl rfl rfl rfl (by simp [Value.cells,aF.bk]) rfl rfl fun A=>rS (SX (bp (xs:=[(0,.const (vI 10000)),(1,.const (vI 20000)),(2,.tmp 28)]) (cs:=(cL.cells (cL.mk 10000 20000 (bE.mk (some ⟨A,0,none⟩) 3 3)))) rfl rfl (bq Ve rfl)) rfl rfl)<|AL rfl UQ fun N=>gv (es:=(ml.aa.map aF.cells)) (C':=[_,(own (some ⟨A,0,none⟩) 3 113 2 (ml.aa.map aF.cells)),_,_,_,_,_,_]) 1 rfl (ni aF.bk _) rfl dc rfl<|eN rfl U5 rfl<|RK S<|aq fun _ O=>OO (L':=[(0,(vP T)),(1,(vP AA)),(2,(vP N)),(3,(vA (ai.cells (ai.mk 10000 10200)))),(4,(vA (au.cells (au.mk 1 (ai.mk 10000 10200) (ai.mk 0 0) (ai.mk 0 0) 0 0)))),(5,(vS (some ⟨E,0,none⟩) 1 1)),(6,(vA (bL.cells (bL.mk (bE.mk (some ⟨E,0,none⟩) 1 1))))),(7,(vA (ai.cells (ai.mk 0 2)))),(8,(vA (ct.cells (ct.mk 0 (ai.mk 0 2))))),(9,(vA (ai.cells (ai.mk 5 6)))),(10,(vA (ct.cells (ct.mk 100000 (ai.mk 5 6))))),(11,(vS (some ⟨J,0,none⟩) 2 2)),(12,(vA (dk.cells (dk.mk 100 (bE.mk (some ⟨J,0,none⟩) 2 2))))),(13,(vS (some ⟨L,0,none⟩) 1 1)),(14,(vA (ai.cells (ai.mk 1000 1000)))),(15,(vA (cH.cells (cH.mk 0 (ai.mk 1000 1000))))),(16,(vA (bK.cells (bK.mk (cH.mk 0 (ai.mk 1000 1000)) 0)))),(17,(vA (ai.cells (ai.mk 4000 4000)))),(18,(vA (cH.cells (cH.mk 0 (ai.mk 4000 4000))))),(19,(vA (bK.cells (bK.mk (cH.mk 0 (ai.mk 4000 4000)) 0)))),(20,(vA (ai.cells (ai.mk 9000 9000)))),(21,(vA (cH.cells (cH.mk 0 (ai.mk 9000 9000))))),(22,(vA (bK.cells (bK.mk (cH.mk 0 (ai.mk 9000 9000)) 0)))),(23,(vS (some ⟨M,0,none⟩) 3 3)),(24,(vA (cm.cells (cm.mk (bL.mk (bE.mk (some ⟨E,0,none⟩) 1 1)) 2000 (bE.mk (some ⟨L,0,none⟩) 1 1) (bE.mk (some ⟨M,0,none⟩) 3 3) 1 1 1)))),(25,(vA (aF.cells (aF.mk 0 10600)))),(26,(vA (aF.cells (aF.mk 0 11000)))),(27,(vA (aF.cells (aF.mk 1 12600)))),(28,(vS (some ⟨A,0,none⟩) 3 3)),(29,(vA (cL.cells (cL.mk 10000 20000 (bE.mk (some ⟨A,0,none⟩) 3 3)))))]) rfl<|k6 cg [0,3,4,5,6,8,9,10,14,15,16,17,19,20,21] [7,11,12,1,2,13,18,22,23,24] [false,false,false,false,false,false,false,false,false,false,false,false,false,false,false] [] [(cz N 41 (cL.cells (cL.mk 10000 20000 (bE.mk (some ⟨A,0,none⟩) 3 3)))),(own (some ⟨A,0,none⟩) 3 113 2 (ml.aa.map aF.cells)),(bM (bg ax.owns ep.Race.ao.aj [((some ⟨J,0,none⟩),2)])),(cz AA 28 (cm.cells (cm.mk (bL.mk (bE.mk (some ⟨E,0,none⟩) 1 1)) 2000 (bE.mk (some ⟨L,0,none⟩) 1 1) (bE.mk (some ⟨M,0,none⟩) 3 3) 1 1 1))),(own (some ⟨M,0,none⟩) 3 137 4 (ep.Race.ao.ab.map bK.cells)),(own (some ⟨L,0,none⟩) 1 133 2 (List.zipWith ax.cells ep.Race.ao.aj [((some ⟨J,0,none⟩),2)])),(own (some ⟨E,0,none⟩) 1 128 9 (ep.Race.ao.aO.map au.cells))] [] kr (aR [0,1,2,3,4,5,6]) (aR [])<|eS rfl (LW 3 rfl bU rfl rfl)<|eS rfl (LW 0 rfl bU rfl rfl)<|eS rfl (SX (bp (xs:=[(3,.tmp 33)]) (cs:=(aG.cells (aG.mk false false (ai.mk 0 0) (cL.mk 10000 20000 (bE.mk (some ⟨A,0,none⟩) 3 3))))) rfl rfl (bq SY rfl)) rfl rfl)<|eS rfl (CL (qS 2600 2600) (aL) rfl)<|eS rfl (CL (qS 2580 2609) (aL) rfl)<|eS rfl (CL (qS 2555 2559) (aL) rfl)<|eS rfl (CL (qS 2540 2549) (aL) rfl)<|eS rfl (CL (qS 2570 2575) (aL) rfl)<|eS rfl (SX (bp (xs:=[(0,.const (Value.int .u8 1)),(2,.const (vI 12600)),(3,.const (vI 13000))]) (cs:=(aZ.cells (aZ.mk 1 0 12600 13000))) rfl rfl (bq MP rfl)) rfl rfl)<|eS rfl (SX (bp (xs:=[(0,.const (Value.int .u8 2)),(1,.const (vI 1)),(2,.const (vI 11003)),(3,.const (vI 11100))]) (cs:=(aZ.cells (aZ.mk 2 1 11003 11100))) rfl rfl (bq MP rfl)) rfl rfl)<|eS rfl (SX (bp (xs:=[(0,.const (Value.int .u8 3)),(2,.const (vI 10700)),(3,.const (vI 10900))]) (cs:=(aZ.cells (aZ.mk 3 0 10700 10900))) rfl rfl (bq MP rfl)) rfl rfl)<|eS rfl (SX (bp (xs:=[(0,.const (Value.int .u8 1)),(2,.const (vI 13000)),(3,.const (vI 14000))]) (cs:=(aZ.cells (aZ.mk 1 0 13000 14000))) rfl rfl (bq MP rfl)) rfl rfl)<|eS rfl (SX (bp (xs:=[(0,.const (vI 2)),(3,.const (vI 0)),(4,.const (vI 72596))]) (cs:=(br.cells (br.mk 2 0 0 0 72596))) rfl rfl (bq Jv rfl)) rfl rfl)<|eS rfl (SX (bp (xs:=[(0,.const (vI 5)),(3,.const (vI 1)),(4,.const (vI 72603))]) (cs:=(br.cells (br.mk 5 0 0 1 72603))) rfl rfl (bq Jv rfl)) rfl rfl)<|eS rfl (SX (bp (xs:=[(0,.const (vI 6)),(3,.const (vI 3)),(4,.const (vI 20000))]) (cs:=(br.cells (br.mk 6 0 0 3 20000))) rfl rfl (bq Jv rfl)) rfl rfl)<|eo rfl<|E8 [.take 7,.take 11,.op 12,.take 1,.take 2,.op 13,.take 18,.take 22,.op 23,.op 24] [(34,(vA (aG.cells (aG.mk false false (ai.mk 0 0) (cL.mk 10000 20000 (bE.mk (some ⟨A,0,none⟩) 3 3)))))),(35,(vA (aG.cells (aG.mk false true (ai.mk 2600 2600) (cL.mk 0 0 (bE.mk none 0 0)))))),(36,(vA (aG.cells (aG.mk false true (ai.mk 2580 2609) (cL.mk 0 0 (bE.mk none 0 0)))))),(38,(vA (aG.cells (aG.mk false true (ai.mk 2555 2559) (cL.mk 0 0 (bE.mk none 0 0)))))),(39,(vA (aG.cells (aG.mk false true (ai.mk 2540 2549) (cL.mk 0 0 (bE.mk none 0 0)))))),(40,(vA (aG.cells (aG.mk false true (ai.mk 2570 2575) (cL.mk 0 0 (bE.mk none 0 0)))))),(44,(vA (aZ.cells (aZ.mk 1 0 12600 13000)))),(45,(vA (aZ.cells (aZ.mk 2 1 11003 11100)))),(46,(vA (aZ.cells (aZ.mk 3 0 10700 10900)))),(47,(vA (aZ.cells (aZ.mk 1 0 13000 14000)))),(49,(vA (br.cells (br.mk 2 0 0 0 72596)))),(50,(vA (br.cells (br.mk 5 0 0 1 72603)))),(51,(vA (br.cells (br.mk 6 0 0 3 20000))))] (fun i=>match i with |7=>37|11=>41|1=>31|2=>32|18=>48|22=>52|_=>0) (fun i b=>match i with |7=> .slice (some ⟨b,0,none⟩) 3 3|11=> .slice (some ⟨b,0,none⟩) 3 3|1=> .slice (some ⟨b,0,none⟩) 3 3|2=> .slice (some ⟨b,0,none⟩) 3 3|18=> .slice (some ⟨b,0,none⟩) 4 4|22=> .slice (some ⟨b,0,none⟩) 3 3|_=>undef) (fun i b=>match i with |7=>cz b 43 ((aG.cells (aG.mk false false (ai.mk 0 0) (cL.mk 10000 20000 (bE.mk (some ⟨A,0,none⟩) 3 3))))++(aG.cells (aG.mk false true (ai.mk 2600 2600) (cL.mk 0 0 (bE.mk none 0 0))))++(aG.cells (aG.mk false true (ai.mk 2580 2609) (cL.mk 0 0 (bE.mk none 0 0)))))|11=>cz b 43 ((aG.cells (aG.mk false true (ai.mk 2555 2559) (cL.mk 0 0 (bE.mk none 0 0))))++(aG.cells (aG.mk false true (ai.mk 2540 2549) (cL.mk 0 0 (bE.mk none 0 0))))++(aG.cells (aG.mk false true (ai.mk 2570 2575) (cL.mk 0 0 (bE.mk none 0 0)))))|1=>cz b 3 [(vI 4),(vI 7),(vI 9)]|2=>cz b 3 [(vI 2),(vI 0),(vI 1)]|18=>cz b 86 ((aZ.cells (aZ.mk 1 0 12600 13000))++(aZ.cells (aZ.mk 2 1 11003 11100))++(aZ.cells (aZ.mk 3 0 10700 10900))++(aZ.cells (aZ.mk 1 0 13000 14000)))|22=>cz b 102 ((br.cells (br.mk 2 0 0 0 72596))++(br.cells (br.mk 5 0 0 1 72603))++(br.cells (br.mk 6 0 0 3 20000)))|_=>cz b 0 []) rfl rfl rfl kr rfl rfl (aR [0,1,2,3,4,5,6]) (mH (wb (xs:=[.tmp 34,.tmp 35,.tmp 36]) (cs:=((aG.cells (aG.mk false false (ai.mk 0 0) (cL.mk 10000 20000 (bE.mk (some ⟨A,0,none⟩) 3 3))))++(aG.cells (aG.mk false true (ai.mk 2600 2600) (cL.mk 0 0 (bE.mk none 0 0))))++(aG.cells (aG.mk false true (ai.mk 2580 2609) (cL.mk 0 0 (bE.mk none 0 0)))))) rfl mM BX rfl rfl rfl rfl (by simp [Value.cells,aG.bk]) rfl rfl rfl (fun _=>rfl) fun _=>rfl)<|mH (wb (xs:=[.tmp 38,.tmp 39,.tmp 40]) (cs:=((aG.cells (aG.mk false true (ai.mk 2555 2559) (cL.mk 0 0 (bE.mk none 0 0))))++(aG.cells (aG.mk false true (ai.mk 2540 2549) (cL.mk 0 0 (bE.mk none 0 0))))++(aG.cells (aG.mk false true (ai.mk 2570 2575) (cL.mk 0 0 (bE.mk none 0 0)))))) rfl mM BX rfl rfl rfl rfl (by simp [Value.cells,aG.bk]) rfl rfl rfl (fun _=>rfl) fun _=>rfl)<|qT<|mH (wb (xs:=[.const (vI 4),.const (vI 7),.const (vI 9)]) (cs:=[(vI 4),(vI 7),(vI 9)]) rfl dy j7 rfl rfl rfl rfl (by simp [Value.cells]) rfl rfl rfl (fun _=>rfl) fun _=>rfl)<|mH (wb (xs:=[.const (vI 2),.const (vI 0),.const (vI 1)]) (cs:=[(vI 2),(vI 0),(vI 1)]) rfl dy j7 rfl rfl rfl rfl (by simp [Value.cells]) rfl rfl rfl (fun _=>rfl) fun _=>rfl)<|qT<|mH (wb (xs:=[.tmp 44,.tmp 45,.tmp 46,.tmp 47]) (cs:=((aZ.cells (aZ.mk 1 0 12600 13000))++(aZ.cells (aZ.mk 2 1 11003 11100))++(aZ.cells (aZ.mk 3 0 10700 10900))++(aZ.cells (aZ.mk 1 0 13000 14000)))) rfl C5 Ql rfl rfl rfl rfl (by simp [Value.cells,aZ.bk]) rfl rfl rfl (fun _=>rfl) fun _=>rfl)<|mH (wb (xs:=[.tmp 49,.tmp 50,.tmp 51]) (cs:=((br.cells (br.mk 2 0 0 0 72596))++(br.cells (br.mk 5 0 0 1 72603))++(br.cells (br.mk 6 0 0 3 20000)))) rfl D_ E7 rfl rfl rfl rfl (by simp [Value.cells,br.bk]) rfl rfl rfl (fun _=>rfl) fun _=>rfl)<|qT<|qT<|Jr) ?_
 intro F
 try dsimp only
 intro G
 try dsimp only
 refine rM U fun Y X K hT=>ew (xs:=[.tmp 37,.tmp 41]) (cs:=[(vS (some ⟨F,0,none⟩) 3 3),(vS (some ⟨G,0,none⟩) 3 3)]) U j8 UJ U U U U (by simp [Value.cells]) U U fun B=>nY hT 48 11 U U (fun w hs=>St.j5 [3,4,5,6,7,8,9] U U hs) U U ?_
 try dsimp only [List.take]
 intro C
 try dsimp only
 intro D
 try dsimp only
 refine rM U fun Y X K hT=>rS (SX (bp (xs:=[(0,.tmp 30),(1,.tmp 31),(2,.tmp 32),(3,.const (vI 2)),(4,.tmp 42)]) (cs:=(cY.cells (cY.mk (cm.mk (bL.mk (bE.mk (some ⟨E,0,none⟩) 1 1)) 2000 (bE.mk (some ⟨L,0,none⟩) 1 1) (bE.mk (some ⟨M,0,none⟩) 3 3) 1 1 1) (bE.mk (some ⟨C,0,none⟩) 3 3) (bE.mk (some ⟨D,0,none⟩) 3 3) 2 (bE.mk (some ⟨B,0,none⟩) 2 2)))) U U (bq Gg U)) U U)<|nY hT 51 13 U U (fun w hs=>St.j5 [5,6,7,8,9,10,11] U U hs) U U ?_
 try dsimp only [List.take]
 intro H
 try dsimp only
 intro AB
 try dsimp only
 refine rM U fun Y X K hT=>rS (SX (bp (xs:=[(0,.tmp 43),(1,.tmp 48),(2,.tmp 52),(3,.const (vI 1)),(4,.const (vI 500))]) (cs:=(gh.cells (gh.mk (cY.mk (cm.mk (bL.mk (bE.mk (some ⟨E,0,none⟩) 1 1)) 2000 (bE.mk (some ⟨L,0,none⟩) 1 1) (bE.mk (some ⟨M,0,none⟩) 3 3) 1 1 1) (bE.mk (some ⟨C,0,none⟩) 3 3) (bE.mk (some ⟨D,0,none⟩) 3 3) 2 (bE.mk (some ⟨B,0,none⟩) 2 2)) (bE.mk (some ⟨H,0,none⟩) 4 4) (bE.mk (some ⟨AB,0,none⟩) 3 3) 1 500))) U U (bq U2 U)) U U)<|nY hT 54 15 U U (fun w hs=>St.j5 [7,8,9,10,11,12,13] U U hs) U U ?_
 try dsimp only [List.take]
 refine rM U fun Y X K hT=>g5 (vs:=(gh.cells (gh.mk (cY.mk (cm.mk (bL.mk (bE.mk (some ⟨E,0,none⟩) 1 1)) 2000 (bE.mk (some ⟨L,0,none⟩) 1 1) (bE.mk (some ⟨M,0,none⟩) 3 3) 1 1 1) (bE.mk (some ⟨C,0,none⟩) 3 3) (bE.mk (some ⟨D,0,none⟩) 3 3) 2 (bE.mk (some ⟨B,0,none⟩) 2 2)) (bE.mk (some ⟨H,0,none⟩) 4 4) (bE.mk (some ⟨AB,0,none⟩) 3 3) 1 500))) (cs':=(gh.cells (gh.mk (cY.mk (cm.mk (bL.mk (bE.mk (some ⟨E,0,none⟩) 1 1)) 2000 (bE.mk (some ⟨L,0,none⟩) 1 1) (bE.mk (some ⟨M,0,none⟩) 3 3) 1 1 1) (bE.mk (some ⟨C,0,none⟩) 3 3) (bE.mk (some ⟨D,0,none⟩) 3 3) 2 (bE.mk (some ⟨B,0,none⟩) 2 2)) (bE.mk (some ⟨H,0,none⟩) 4 4) (bE.mk (some ⟨AB,0,none⟩) 3 3) 1 500))) (C':=[_,_,_,_,_,_,_,_,_,_,_,_,_,_,(cz T 36 (gh.cells (gh.mk (cY.mk (cm.mk (bL.mk (bE.mk (some ⟨E,0,none⟩) 1 1)) 2000 (bE.mk (some ⟨L,0,none⟩) 1 1) (bE.mk (some ⟨M,0,none⟩) 3 3) 1 1 1) (bE.mk (some ⟨C,0,none⟩) 3 3) (bE.mk (some ⟨D,0,none⟩) 3 3) 2 (bE.mk (some ⟨B,0,none⟩) 2 2)) (bE.mk (some ⟨H,0,none⟩) 4 4) (bE.mk (some ⟨AB,0,none⟩) 3 3) 1 500)))]++X) 14 U U U UX U U U U U U U<|nY hT 54 15 U U (fun w hs=>St.j5 [7,8,9,10,11,12,13] U U hs) U U ?_
 try dsimp only [List.take]
 refine KK O ?_
 refine l6 (es:=(ep.Race.aV.map iC)) (C':=[_,_,_,(own (some ⟨C,0,none⟩) 3 3 1 (ep.Race.aV.map iC)),_,_,_,_,_,_,_,_,_,_,_]) 3 U (ni bP _) U (by show _≤maxLen; exact Nat.le_trans (m:=10) (show (3:Nat)≤10 by decide) dc) U ?_
 refine l6 (es:=(ep.Race.bV.map iC)) (C':=[_,_,(own (some ⟨D,0,none⟩) 3 3 1 (ep.Race.bV.map iC)),_,_,_,_,_,_,_,_,_,_,_,_]) 2 U (ni bP _) U (by show _≤maxLen; exact Nat.le_trans (m:=10) (show (3:Nat)≤10 by decide) dc) U ?_
 refine l6 (es:=(ep.aS.map aZ.cells)) (C':=[_,(own (some ⟨H,0,none⟩) 4 86 4 (ep.aS.map aZ.cells)),_,_,_,_,_,_,_,_,_,_,_,_,_]) 1 U (ni aZ.bk _) U (by show _≤maxLen; exact Nat.le_trans (m:=10) (show (4:Nat)≤10 by decide) dc) U ?_
 refine l6 (es:=(ep.aJ.map br.cells)) (C':=[(own (some ⟨AB,0,none⟩) 3 102 5 (ep.aJ.map br.cells)),_,_,_,_,_,_,_,_,_,_,_,_,_,_]) 0 U (ni br.bk _) U (by show _≤maxLen; exact Nat.le_trans (m:=10) (show (3:Nat)≤10 by decide) dc) U ?_
 refine l6 (es:=(List.zipWith ak.cells K_ [((some ⟨A,0,none⟩),3),(none,0),(none,0)])) (C':=[_,_,_,_,_,_,(own (some ⟨F,0,none⟩) 3 43 7 (List.zipWith ak.cells K_ [((some ⟨A,0,none⟩),3),(none,0),(none,0)])),_,_,_,_,_,_,_,_]) 6 U (rK FC) U (by show _≤maxLen; exact Nat.le_trans (m:=10) (show (3:Nat)≤10 by decide) dc) U ?_
 refine l6 (es:=(List.zipWith ak.cells Sm [(none,0),(none,0),(none,0)])) (C':=[_,_,_,_,_,(own (some ⟨G,0,none⟩) 3 43 7 (List.zipWith ak.cells Sm [(none,0),(none,0),(none,0)])),_,_,_,_,_,_,_,_,_]) 5 U (rK FC) U (by show _≤maxLen; exact Nat.le_trans (m:=10) (show (3:Nat)≤10 by decide) dc) U ?_
 refine l6 (es:=(List.zipWith bW ep.Race.av [(((some ⟨F,0,none⟩),3),[((some ⟨A,0,none⟩),3),(none,0),(none,0)]),(((some ⟨G,0,none⟩),3),[(none,0),(none,0),(none,0)])])) (C':=[_,_,_,_,(own (some ⟨B,0,none⟩) 2 75 1 (List.zipWith bW ep.Race.av [(((some ⟨F,0,none⟩),3),[((some ⟨A,0,none⟩),3),(none,0),(none,0)]),(((some ⟨G,0,none⟩),3),[(none,0),(none,0),(none,0)])])),_,_,_,_,_,_,_,_,_,_]) 4 U (rK IW) U (by show _≤maxLen; exact Nat.le_trans (m:=10) (show (2:Nat)≤10 by decide) dc) U ?_
 refine eX 113 2<|eX 113 2<|eX 113 2<|eX 113 2<|eX 113 2<|F9 (bg jF ep.Race.av [(((some ⟨F,0,none⟩),3),[((some ⟨A,0,none⟩),3),(none,0),(none,0)]),(((some ⟨G,0,none⟩),3),[(none,0),(none,0),(none,0)])]) [11,13,0,1,10,2,3,4] [5,6,7,8,9,12,14,15,16,17,18,19] U U<|ar ?_
 refine LX hQ ((some ⟨E,0,none⟩),1,(some ⟨L,0,none⟩),1,[((some ⟨J,0,none⟩),2)],(some ⟨M,0,none⟩),3,(some ⟨C,0,none⟩),3,(some ⟨D,0,none⟩),3,(some ⟨B,0,none⟩),2,[(((some ⟨F,0,none⟩),3),[((some ⟨A,0,none⟩),3),(none,0),(none,0)]),(((some ⟨G,0,none⟩),3),[(none,0),(none,0),(none,0)])],(some ⟨H,0,none⟩),4,(some ⟨AB,0,none⟩),3) [11,10,7,9,4,3,5,0,2,1] [0] (mc 12 U mn) U (by show List.all _ _=true; simp only [il,List.all_nil,qm,xy,Bool.and_true]; rfl) U U ?_
 exact ⟨Qw (Ru 1 dc) Kx,U,Kx⟩
end
section
open Go.RowKit
theorem z3 (G:List (List Int)) (H:List (List Int)) (gz:List RA) (gA:OA) (gC:Nat) (hz:List RA) (hA:OA) (hC:Nat) (h1:G.length≤1000000) (h2:H.length≤1000000) (h3: ∀ l∈G,l.length≤1000000) (h4: ∀ l∈H,l.length≤1000000) (hgz:gz.length=G.length) (hhz:hz.length=H.length):
 dB Tryz.prog 13 [(vS gA G.length gC),(vS hA H.length hC)] [(rd gA G.length 1 (List.zipWith tw G gz)),(dE (bg LV G gz)),(rd hA H.length 1 (List.zipWith tw H hz)),(dE (bg LV H hz))] (vB (decide (G=H))):=by
 refine bJ kr Tryz.func13 U U fun Z Q hQ hN=>?_
 try dsimp only
 refine WS fun _ N=>bI 1 U<|RK N<|aq fun _ O=>WS fun _ P=>rP 5 [] mn ?_
 refine RK P<|ck U (aX fun hl=>?_) (aW fun hl=>?_)
 ·refine WS fun _ R=>rP 1 [] mn ?_
  refine RK R<|ar<|Q1 hQ U U U ?_
  exact cB (bj (fun e=>by subst e; omega)).symm
 refine WK O<|aq fun _ S=>WS fun _ T=>rP 1 [] mn ?_
 refine RK T<|aH ?_
 have A:(0≤G.length)∧(G.take 0=H.take 0):=by exact ⟨Nat.zero_le _,rfl⟩
 refine bS (ι:={z:Nat // (z≤G.length)∧(G.take z=H.take z)}) [0,1] [0,1,2,3] U U (fun z=>[(5,(vI (z.1:Int)))]) (fun z=>[]) (fun _=>rfl) (fun _=>rfl) (fun z=>G.length-z.1) ⟨0,A⟩ (bD U) (aR [0,1,2,3]) ?_
 clear A
 rintro ⟨i,⟨W,B⟩⟩ J7 M
 try dsimp only
 refine aq fun _ AA=>WS fun _ V=>rP 4 [] mn ?_
 refine RK V<|bR U (aU fun L=>?_) (aT fun L=>?_)
 ·refine bQ<|ag<|ag<|aI<|KK S<|WS fun _ F=>rP 1 [] mn ?_
  refine RK F<|ar<|Q1 hQ U U U ?_
  exact cB (cO (cR I B I)).symm
 refine WK AA<|aq fun _ C=>aH<|aq fun _ D=>cW cg 10 kr<|dP 2 [] mn ?_
 obtain ⟨x,hx⟩:=aC G i I
 obtain ⟨xa,J⟩:=aC gz i I
 have X:(List.zipWith tw G gz)[i]? =some (tw x xa):=cv hx J
 refine dS (IA i U (ay 0 U) BA dc I I)<|dS (gD i 0 (vS xa.1 x.length xa.2) U bU (ay 0 U) X U dc U)<|dP 2 [] mn ?_
 obtain ⟨y,hy⟩:=aC H i I
 obtain ⟨ya,K⟩:=aC hz i I
 have Y:(List.zipWith tw H hz)[i]? =some (tw y ya):=cv hy K
 refine dS (IA i U (ay 2 U) BA dc I I)<|dS (gD i 0 (vS ya.1 y.length ya.2) U bU (ay 2 U) Y U dc U)<|dS (CL (qX x xa.1 xa.2 y ya.1 ya.2 (by exact h3 x (aM hx)) (by exact h4 y (aM hy))) (aD (show fY _ (rd xa.1 x.length 1 (x.map iC)).holds from (bX 1 U (a_ hx J (by simp [LV]))))<|aD (show fY _ (rd ya.1 y.length 1 (y.map iC)).holds from (bX 3 U (a_ hy K (by simp [LV]))))<|aL) U)<|dP 1 [] mn ?_
 refine cx<|RK D<|ck U (aX fun h=>?_) (aW fun h=>?_)
 ·refine WS fun _ E=>rP 1 [] mn ?_
  refine RK E<|ar<|Q1 hQ U U U ?_
  exact cB (bj (og hx hy h)).symm
 refine cj<|aP<|KK C<|aw<|rP 3 [] mn ?_
 refine aK ?_
 have AB:(vI (((i+1):Nat):Int))=(vI ((i:Int)+1)):=by exact cI I
 refine bu (M ⟨(i+1),⟨I,iX B hx hy h⟩⟩ _ _ _ U os (dp.cons U<|dp.cons U<|bw U AB<|dp.nil _) (aR [0,1,2,3]))
theorem yB (fq sq x:Int):
 dB Tryz.prog 29 [(vI fq),(vI sq),(Value.int .u8 x)] [(rd gd 3 2 fr)] (vB (decide (o0 ep fq 0 sq=0∧qb ep fq 0 sq=x))):=by
 refine bJ kr Tryz.func29 U U fun c Q hQ hN=>?_
 try dsimp only
 refine WS fun _ X=>rP 1 [] mn ?_
 refine RK X<|WS fun _ Y=>cX sO (aL) U fun b a=>?_
 obtain ⟨S,V,T,W,AA,C,G,D,H,E,AB,F,J,O,K,L,P,R⟩:=b
 try dsimp only
 obtain ⟨N,Z,M⟩:=a
 refine bI 2 U<|rS (CL (Ny ep S V AA T W C G D H E AB O F J K L P R fq 0 sq (by exact N)) (dM 10 U U<|aD (aB (n:=ep.Race.ao.aO.length) 0 U sm)<|aD (aB (n:=ep.Race.ao.aj.length) 1 U (iO Z))<|aD (dR 2 U jL)<|aD (aB (n:=ep.Race.ao.ab.length) 3 U sm)<|aD (aB (n:=ep.Race.aV.length) 4 U sm)<|aD (aB (n:=ep.Race.bV.length) 5 U sm)<|aD (aB (n:=ep.Race.av.length) 6 U (gr M.1))<|aD (jO 7 U M)<|aD (aB (n:=ep.aS.length) 8 U sm)<|aD (aB (n:=ep.aJ.length) 9 U sm)<|aL) U)<|bI 5 U<|RK Y<|WS fun _ A=>rP 3 [] mn ?_
 refine cG (t:=18) U (aU fun B=>?_) (aT fun B=>?_)
 ·refine rP 5 [] mn ?_
  refine RK A<|ar<|Q1 hQ U U U ?_
  exact cB (bj fun q=>B q.1).symm
 refine bI 2 U<|rS (BI U m8)<|rP 2 [] mn ?_
 refine RK A<|ar<|Q1 hQ U U U ?_
 exact cB (gU.2 ⟨fun q=>⟨B,q⟩,fun q=>q.2⟩)
theorem Fz (iq x:Int):
 dB Tryz.prog 30 [(vI iq),(Value.int .u8 x)] [(rd gd 3 2 fr)] (vB (decide (uS ep iq=0∧v7 ep iq=x))):=by
 refine bJ kr Tryz.func30 U U fun c Q hQ hN=>?_
 try dsimp only
 refine WS fun _ X=>rP 1 [] mn ?_
 refine RK X<|WS fun _ Y=>cX sO (aL) U fun b a=>?_
 obtain ⟨S,V,T,W,AA,C,G,D,H,E,AB,F,J,O,K,L,P,R⟩:=b
 try dsimp only
 obtain ⟨N,Z,M⟩:=a
 refine bI 1 U<|rS (CL (QL ep S V AA T W C G D H E AB O F J K L P R iq (by exact N)) (dM 10 U U<|aD (aB (n:=ep.Race.ao.aO.length) 0 U sm)<|aD (aB (n:=ep.Race.ao.aj.length) 1 U (iO Z))<|aD (dR 2 U jL)<|aD (aB (n:=ep.Race.ao.ab.length) 3 U sm)<|aD (aB (n:=ep.Race.aV.length) 4 U sm)<|aD (aB (n:=ep.Race.bV.length) 5 U sm)<|aD (aB (n:=ep.Race.av.length) 6 U (gr M.1))<|aD (jO 7 U M)<|aD (aB (n:=ep.aS.length) 8 U sm)<|aD (aB (n:=ep.aJ.length) 9 U sm)<|aL) U)<|bI 5 U<|RK Y<|WS fun _ A=>rP 3 [] mn ?_
 refine cG (t:=15) U (aU fun B=>?_) (aT fun B=>?_)
 ·refine rP 5 [] mn ?_
  refine RK A<|ar<|Q1 hQ U U U ?_
  exact cB (bj fun q=>B q.1).symm
 refine bI 2 U<|rS (BI U m8)<|rP 2 [] mn ?_
 refine RK A<|ar<|Q1 hQ U U U ?_
 exact cB (gU.2 ⟨fun q=>⟨B,q⟩,fun q=>q.2⟩)
end
section
open Go.RowKit
theorem IP:
 dB Tryz.prog 22 [] [(rd gd 3 2 fr)] (vB true):=by
 refine bJ kr Tryz.func22 U U fun w0 Q hQ hN=>?_
 try dsimp only
 refine WS fun _ K5=>rP 1 [] mn ?_
 refine RK K5<|WS fun _ K8=>cX sO (aL) U fun y3 LA=>?_
 obtain ⟨J4,Kl,J6,K0,J9,K,l,O,r,T,w,X,AC,Go,A1,A5,IR,I0⟩:=y3
 try dsimp only
 obtain ⟨B,C,A⟩:=LA
 refine cX (BN ep J4 Kl J9 J6 K0 K l O r T w Go X AC A1 A5 IR I0 (by exact B)) (dM 10 U U<|aD (aB (n:=ep.Race.ao.aO.length) 0 U sm)<|aD (aB (n:=ep.Race.ao.aj.length) 1 U (iO C))<|aD (dR 2 U jL)<|aD (aB (n:=ep.Race.ao.ab.length) 3 U sm)<|aD (aB (n:=ep.Race.aV.length) 4 U sm)<|aD (aB (n:=ep.Race.bV.length) 5 U sm)<|aD (aB (n:=ep.Race.av.length) 6 U (gr A.1))<|aD (jO 7 U A)<|aD (aB (n:=ep.aS.length) 8 U sm)<|aD (aB (n:=ep.aJ.length) 9 U sm)<|aL) U fun LD Lk=>?_
 obtain ⟨J5,Kw⟩:=LD
 try dsimp only
 refine AP [0,11] U U<|rP 5 [] mn ?_
 refine RK K8<|WS fun _ Do=>cX sO (aL) U fun LE Fd=>?_
 obtain ⟨E,f,H,i,c,L,o,P,s,AA,x,Y,AK,Hi,A2,A6,Id,Je⟩:=LE
 try dsimp only
 obtain ⟨B,C,A⟩:=Fd
 refine cX (sE ep E f c H i L o P s AA x Hi Y AK A2 A6 Id Je (by exact B)) (dM 11 U U<|aD (aB (n:=ep.Race.ao.aO.length) 0 U sm)<|aD (aB (n:=ep.Race.ao.aj.length) 1 U (iO C))<|aD (dR 2 U jL)<|aD (aB (n:=ep.Race.ao.ab.length) 3 U sm)<|aD (aB (n:=ep.Race.aV.length) 4 U sm)<|aD (aB (n:=ep.Race.bV.length) 5 U sm)<|aD (aB (n:=ep.Race.av.length) 6 U (gr A.1))<|aD (jO 7 U A)<|aD (aB (n:=ep.aS.length) 8 U sm)<|aD (aB (n:=ep.aJ.length) 9 U sm)<|aL) U fun LT Fn=>?_
 obtain ⟨A9,J7,K4⟩:=LT
 try dsimp only
 have FS:=Fn
 refine AP [0,1,12,13] U U<|rP 5 [] mn ?_
 refine RK Do<|WS fun _ EQ=>cX sO (aL) U fun La GE=>?_
 obtain ⟨F,g,AB,j,d,M,p,R,u,V,y,Z,AO,H1,A3,A7,If,J2⟩:=La
 try dsimp only
 obtain ⟨B,C,A⟩:=GE
 refine rS (CL (Ms ep F g d AB j M p R u V y H1 Z AO A3 A7 If J2 (by exact B)) (dM 13 U U<|aD (aB (n:=ep.Race.ao.aO.length) 0 U sm)<|aD (aB (n:=ep.Race.ao.aj.length) 1 U (iO C))<|aD (dR 2 U jL)<|aD (aB (n:=ep.Race.ao.ab.length) 3 U sm)<|aD (aB (n:=ep.Race.aV.length) 4 U sm)<|aD (aB (n:=ep.Race.bV.length) 5 U sm)<|aD (aB (n:=ep.Race.av.length) 6 U (gr A.1))<|aD (jO 7 U A)<|aD (aB (n:=ep.aS.length) 8 U sm)<|aD (aB (n:=ep.aJ.length) 9 U sm)<|aL) U)<|AP [10,11,12,13] U U<|rP 7 [] mn ?_
 refine RK EQ<|WS fun _ Eq=>cX sO (aL) U fun Li GT=>?_
 obtain ⟨G,h,J,k,e,N,q,S,v,W,z,a,A0,IO,A4,A8,In,J3⟩:=Li
 try dsimp only
 obtain ⟨B,C,A⟩:=GT
 refine rS (CL (Nn ep G h e J k N q S v W z IO a A0 A4 A8 In J3 0 (by exact B)) (dM 13 U U<|aD (aB (n:=ep.Race.ao.aO.length) 0 U sm)<|aD (aB (n:=ep.Race.ao.aj.length) 1 U (iO C))<|aD (dR 2 U jL)<|aD (aB (n:=ep.Race.ao.ab.length) 3 U sm)<|aD (aB (n:=ep.Race.aV.length) 4 U sm)<|aD (aB (n:=ep.Race.bV.length) 5 U sm)<|aD (aB (n:=ep.Race.av.length) 6 U (gr A.1))<|aD (jO 7 U A)<|aD (aB (n:=ep.aS.length) 8 U sm)<|aD (aB (n:=ep.aJ.length) 9 U sm)<|aL) U)<|AP [10,11,12,13] U U<|bI 5 U<|RK Eq<|WS fun _ FQ=>rS (CL (yB 0 0 1) (bo [3]) U)<|rP 1 [] mn ?_
 refine cG (t:=32) U (aU fun B3=>?_) (aT fun B3=>?_)
 ·exact absurd (P1) B3
 refine rS (CL (yB 1 0 2) (bo [3]) U)<|rP 2 [] mn ?_
 refine cG (t:=35) U (aU fun B9=>?_) (aT fun B9=>?_)
 ·exact absurd (Pa) B9
 refine rS (CL (yB 3 0 0) (bo [3]) U)<|rP 2 [] mn ?_
 refine cG (t:=38) U (aU fun CC=>?_) (aT fun CC=>?_)
 ·exact absurd (PY) CC
 refine rS (CL (Fz 0 0) (bo [3]) U)<|rP 2 [] mn ?_
 refine cG (t:=41) U (aU fun Ci=>?_) (aT fun Ci=>?_)
 ·exact absurd (PZ) Ci
 refine rS (CL (Fz 1 2) (bo [3]) U)<|rP 2 [] mn ?_
 refine cG (t:=44) U (aU fun Ck=>?_) (aT fun Ck=>?_)
 ·exact absurd (P5) Ck
 refine rP 4 [] mn ?_
 refine cG (t:=48) U (aU fun Cp=>?_) (aT fun Cp=>?_)
 ·exact absurd (ov) Cp
 refine rP 1 [] mn ?_
 refine ew (xs:=[.const (vI 0)]) (cs:=[(vI 0)]) U dy j7 U U U U (by simp [Value.cells]) U U fun J8=>?_
 refine rS (CL (En (kE ep) J5 Kw ([0]) (some ⟨J8,0,none⟩) 1 (by rw [Oa]; decide) dc) (aD (aB (n:=(kE ep).length) 3 U sm)<|aD (bx 0 U U (by simp [bP]) U)<|aL) U) ?_
 refine rP 2 [] mn ?_
 refine cG (t:=53) U (aU fun Cx=>?_) (aT fun Cx=>?_)
 ·exact absurd (Oa) Cx
 refine rP 4 [] mn ?_
 refine cG (t:=57) U (aU fun C0=>?_) (aT fun C0=>?_)
 ·exact absurd (ov) C0
 refine rP 1 [] mn ?_
 refine ew (xs:=[.const (vI 0)]) (cs:=[(vI 0)]) U dy j7 U U U U (by simp [Value.cells]) U U fun D=>ew (xs:=[.tmp 59,.const (vS none 0 0)]) (cs:=[(vS (some ⟨D,0,none⟩) 1 1),(vS none 0 0)]) U BA RB U U U U (by simp [Value.cells]) U U fun b=>?_
 refine gv (es:=(([0]:List Int).map iC)) (C':=[_,(own (some ⟨D,0,none⟩) 1 3 1 (([0]:List Int).map iC)),_,_,_,_,_]) 1 U (ni bP _) U (by show _≤maxLen; exact Nat.le_trans (m:=10) (show (1:Nat)≤10 by decide) dc) U ?_
 refine gT 3 1 ?_
 refine gv (es:=(List.zipWith tw [([0]:List Int),([]:List Int)] [((some ⟨D,0,none⟩),1),(none,0)])) (C':=[_,(own (some ⟨b,0,none⟩) 2 29 1 (List.zipWith tw [([0]:List Int),([]:List Int)] [((some ⟨D,0,none⟩),1),(none,0)])),_,_,_,_,_,_]) 1 U (rK PO) U (by show _≤maxLen; exact Nat.le_trans (m:=10) (show (2:Nat)≤10 by decide) dc) U ?_
 refine Gr (bg F1 [([0]:List Int),([]:List Int)] [((some ⟨D,0,none⟩),1),(none,0)]) [2,0] [1,3,4,5,6,7] U U ?_
 refine rS (CL (z3 (dD ep) ([([0]:List Int),([]:List Int)]) A9 J7 K4 ([((some ⟨D,0,none⟩),1),(none,0)]) (some ⟨b,0,none⟩) 2 (by rw [Iy]; decide) dc (by rw [Iy]; decide) dc (by exact FS) (by rfl)) (aD (aB (n:=(dD ep).length) 3 U (lO FS))<|aD (dR 4 U yX)<|aD (aB (n:=([([0]:List Int),([]:List Int)]).length) 1 U sm)<|aD (dR 0 U yX)<|aL) U) ?_
 refine rP 2 [] mn ?_
 refine cG (t:=63) U (aU fun C1=>?_) (aT fun C1=>?_)
 ·exact absurd (Iy) C1
 refine rP 4 [] mn ?_
 refine cG (t:=67) U (aU fun C2=>?_) (aT fun C2=>?_)
 ·exact absurd (ov) C2
 refine rP 4 [] mn ?_
 refine cG (t:=71) U (aU fun C3=>?_) (aT fun C3=>?_)
 ·exact absurd (OL.1) C3
 refine rP 4 [] mn ?_
 refine cG (t:=75) U (aU fun Di=>?_) (aT fun Di=>?_)
 ·exact absurd (OL.2) Di
 refine rP 4 [] mn ?_
 refine cG (t:=79) U (aU fun Dj=>?_) (aT fun Dj=>?_)
 ·exact absurd (O3.1) Dj
 refine rP 4 [] mn ?_
 refine RK FQ<|ar<|Q1 hQ U U U ?_
 exact cB (cO O3.2)
end
section
open Go.RowKit
theorem II (l:List au) (lA:OA) (lC:Nat) (hlen:l.length≤1000000):
 nG Tryz.prog 79 [(vS lA l.length lC)] [(rd lA l.length 9 (l.map au.cells))] (fun (x:(OA)×Nat)=>(vS x.1 l.length x.2)) (fun (x:(OA)×Nat)=>True) (fun (x:(OA)×Nat)=>[(own x.1 x.2 128 9 (l.map au.cells))]):=by
 refine eO kr Tryz.func79 U U fun L Q hQ hN=>?_
 try dsimp only
 refine WS fun _ D=>bI 1 U<|RK D<|aq fun _ E=>WS fun _ F=>rP 1 [] mn ?_
 refine rS (BI U (qY Pd))<|RK F<|ck U (aT fun B=>?_) (aU fun B=>?_)
 ·refine WS fun _ G=>mK (ay 0 U) B dc fun C=>?_
  have A:l=[]:=by simpa using C
  refine gT 128 9 ?_
  rw [show (own none 0 128 9 ([]:List (List Value)))=own none 0 128 9 (l.map au.cells) from by rw [A]; rfl]
  refine rP 1 [] mn ?_
  refine RK G<|ar ?_
  refine LX hQ (none,0) [0] [] mn U U U ?_ ?_
  ·first|rfl|(rw [A]; rfl)
  ·trivial
 refine WK E<|WS fun _ H=>ui U wG U fun J=>rP 1 [] mn ?_
 refine gv (es:=(List.map au.cells [])) (C':=[own (some ⟨J,0,none⟩) 0 128 9 (List.map au.cells []),_]) 0 U sm U (by simp [maxLen]) U ?_
 refine ed (es2:=(List.map au.cells l)) (m':=l.length) 0 U U U UB U U sm (ay 1 U) (tJ _) os (by first|(simp only [maxLen]; omega)|(simp [maxLen]; omega)) sm sm U fun AA K=>?_
 try dsimp only
 refine rP 1 [] mn ?_
 refine RK H<|ar ?_
 refine LX hQ (AA,K) [0] [] mn U U U ?_ ?_
 ·first|rfl|(rw [A]; rfl)
 ·trivial
theorem Lz (l:List bK) (lA:OA) (lC:Nat) (hlen:l.length≤1000000):
 nG Tryz.prog 80 [(vS lA l.length lC)] [(rd lA l.length 4 (l.map bK.cells))] (fun (x:(OA)×Nat)=>(vS x.1 l.length x.2)) (fun (x:(OA)×Nat)=>True) (fun (x:(OA)×Nat)=>[(own x.1 x.2 137 4 (l.map bK.cells))]):=by
 refine eO kr Tryz.func80 U U fun L Q hQ hN=>?_
 try dsimp only
 refine WS fun _ D=>bI 1 U<|RK D<|aq fun _ E=>WS fun _ F=>rP 1 [] mn ?_
 refine rS (BI U (qY Nj))<|RK F<|ck U (aT fun B=>?_) (aU fun B=>?_)
 ·refine WS fun _ G=>mK (ay 0 U) B dc fun C=>?_
  have A:l=[]:=by simpa using C
  refine gT 137 4 ?_
  rw [show (own none 0 137 4 ([]:List (List Value)))=own none 0 137 4 (l.map bK.cells) from by rw [A]; rfl]
  refine rP 1 [] mn ?_
  refine RK G<|ar ?_
  refine LX hQ (none,0) [0] [] mn U U U ?_ ?_
  ·first|rfl|(rw [A]; rfl)
  ·trivial
 refine WK E<|WS fun _ H=>ui U uE U fun J=>rP 1 [] mn ?_
 refine gv (es:=(List.map bK.cells [])) (C':=[own (some ⟨J,0,none⟩) 0 137 4 (List.map bK.cells []),_]) 0 U sm U (by simp [maxLen]) U ?_
 refine ed (es2:=(List.map bK.cells l)) (m':=l.length) 0 U U U UF U U sm (ay 1 U) (wF _) os (by first|(simp only [maxLen]; omega)|(simp [maxLen]; omega)) sm sm U fun AA K=>?_
 try dsimp only
 refine rP 1 [] mn ?_
 refine RK H<|ar ?_
 refine LX hQ (AA,K) [0] [] mn U U U ?_ ?_
 ·first|rfl|(rw [A]; rfl)
 ·trivial
theorem Jf (l:List ct) (lA:OA) (lC:Nat) (hlen:l.length≤1000000):
 nG Tryz.prog 82 [(vS lA l.length lC)] [(rd lA l.length 3 (l.map ct.cells))] (fun (x:(OA)×Nat)=>(vS x.1 l.length x.2)) (fun (x:(OA)×Nat)=>True) (fun (x:(OA)×Nat)=>[(own x.1 x.2 130 3 (l.map ct.cells))]):=by
 refine eO kr Tryz.func82 U U fun L Q hQ hN=>?_
 try dsimp only
 refine WS fun _ D=>bI 1 U<|RK D<|aq fun _ E=>WS fun _ F=>rP 1 [] mn ?_
 refine rS (BI U (qY Og))<|RK F<|ck U (aT fun B=>?_) (aU fun B=>?_)
 ·refine WS fun _ G=>mK (ay 0 U) B dc fun C=>?_
  have A:l=[]:=by simpa using C
  refine gT 130 3 ?_
  rw [show (own none 0 130 3 ([]:List (List Value)))=own none 0 130 3 (l.map ct.cells) from by rw [A]; rfl]
  refine rP 1 [] mn ?_
  refine RK G<|ar ?_
  refine LX hQ (none,0) [0] [] mn U U U ?_ ?_
  ·first|rfl|(rw [A]; rfl)
  ·trivial
 refine WK E<|WS fun _ H=>ui U nR U fun J=>rP 1 [] mn ?_
 refine gv (es:=(List.map ct.cells [])) (C':=[own (some ⟨J,0,none⟩) 0 130 3 (List.map ct.cells []),_]) 0 U sm U (by simp [maxLen]) U ?_
 refine ed (es2:=(List.map ct.cells l)) (m':=l.length) 0 U U U Si U U sm (ay 1 U) (wx _) os (by first|(simp only [maxLen]; omega)|(simp [maxLen]; omega)) sm sm U fun AA K=>?_
 try dsimp only
 refine rP 1 [] mn ?_
 refine RK H<|ar ?_
 refine LX hQ (AA,K) [0] [] mn U U U ?_ ?_
 ·first|rfl|(rw [A]; rfl)
 ·trivial
theorem BD (l:List aF) (lA:OA) (lC:Nat) (hlen:l.length≤1000000):
 nG Tryz.prog 53 [(vS lA l.length lC)] [(rd lA l.length 2 (l.map aF.cells))] (fun (x:(OA)×Nat)=>(vS x.1 l.length x.2)) (fun (x:(OA)×Nat)=>True) (fun (x:(OA)×Nat)=>[(own x.1 x.2 113 2 (l.map aF.cells))]):=by
 refine eO kr Tryz.func53 U U fun L Q hQ hN=>?_
 try dsimp only
 refine WS fun _ D=>bI 1 U<|RK D<|aq fun _ E=>WS fun _ F=>rP 1 [] mn ?_
 refine rS (BI U (qY Rh))<|RK F<|ck U (aT fun B=>?_) (aU fun B=>?_)
 ·refine WS fun _ G=>mK (ay 0 U) B dc fun C=>?_
  have A:l=[]:=by simpa using C
  refine gT 113 2 ?_
  rw [show (own none 0 113 2 ([]:List (List Value)))=own none 0 113 2 (l.map aF.cells) from by rw [A]; rfl]
  refine rP 1 [] mn ?_
  refine RK G<|ar ?_
  refine LX hQ (none,0) [0] [] mn U U U ?_ ?_
  ·first|rfl|(rw [A]; rfl)
  ·trivial
 refine WK E<|WS fun _ H=>ui U wD U fun J=>rP 1 [] mn ?_
 refine gv (es:=(List.map aF.cells [])) (C':=[own (some ⟨J,0,none⟩) 0 113 2 (List.map aF.cells []),_]) 0 U sm U (by simp [maxLen]) U ?_
 refine ed (es2:=(List.map aF.cells l)) (m':=l.length) 0 U U U UW U U sm (ay 1 U) (uA _) os (by first|(simp only [maxLen]; omega)|(simp [maxLen]; omega)) sm sm U fun AA K=>?_
 try dsimp only
 refine rP 1 [] mn ?_
 refine RK H<|ar ?_
 refine LX hQ (AA,K) [0] [] mn U U U ?_ ?_
 ·first|rfl|(rw [A]; rfl)
 ·trivial
theorem Jy (es:List (List Value)) (lA:OA) (n lC:Nat) (hlen:n≤1000000) (hes:es.length=n) (hone: ∀ v∈es.flatten,v.oneCell'=true):
 nG Tryz.prog 81 [(vS lA n lC)] [(rd lA n 2 es)] (fun (x:(OA)×Nat)=>(vS x.1 n x.2)) (fun (x:(OA)×Nat)=>True) (fun (x:(OA)×Nat)=>[(own x.1 x.2 133 2 es)]):=by
 refine eO kr Tryz.func81 U U fun L Q hQ hN=>?_
 try dsimp only
 refine WS fun _ D=>bI 1 U<|RK D<|aq fun _ E=>WS fun _ F=>rP 1 [] mn ?_
 refine rS (BI U (qY TL))<|RK F<|ck U (aT fun B=>?_) (aU fun B=>?_)
 ·refine WS fun _ G=>mK (ay 0 U) B dc fun C=>?_
  have A:es=[]:=C
  refine gT 133 2 ?_
  rw [show (own none 0 133 2 ([]:List (List Value)))=own none 0 133 2 es from by rw [A]]
  refine rP 1 [] mn ?_
  refine RK G<|ar ?_
  refine LX hQ (none,0) [0] [] mn U U U ?_ ?_
  ·first|rfl|(rw [hes]; rfl)|(rw [← hes,A]; rfl)
  ·trivial
 refine WK E<|WS fun _ H=>ui U yf U fun J=>rP 1 [] mn ?_
 refine gv (es:=(List.map dk.cells [])) (C':=[own (some ⟨J,0,none⟩) 0 133 2 (List.map dk.cells []),_]) 0 U sm U (by simp [maxLen]) U ?_
 refine ed (es2:=es) (m':=es.length) 0 U U U VB U U sm (ay 1 U) hone (by simp; omega) (by simp [maxLen]; omega) sm U U fun AA K=>?_
 try dsimp only
 refine rP 1 [] mn ?_
 refine RK H<|ar ?_
 refine LX hQ (AA,K) [0] [] mn U U U ?_ ?_
 ·first|rfl|(rw [hes]; rfl)|(rw [← hes,A]; rfl)
 ·trivial
theorem I2 (es:List (List Value)) (lA:OA) (n lC:Nat) (hlen:n≤1000000) (hes:es.length=n) (hone: ∀ v∈es.flatten,v.oneCell'=true):
 nG Tryz.prog 85 [(vS lA n lC)] [(rd lA n 7 es)] (fun (x:(OA)×Nat)=>(vS x.1 n x.2)) (fun (x:(OA)×Nat)=>True) (fun (x:(OA)×Nat)=>[(own x.1 x.2 43 7 es)]):=by
 refine eO kr Tryz.func85 U U fun L Q hQ hN=>?_
 try dsimp only
 refine WS fun _ D=>bI 1 U<|RK D<|aq fun _ E=>WS fun _ F=>rP 1 [] mn ?_
 refine rS (BI U (qY Tt))<|RK F<|ck U (aT fun B=>?_) (aU fun B=>?_)
 ·refine WS fun _ G=>mK (ay 0 U) B dc fun C=>?_
  have A:es=[]:=C
  refine gT 43 7 ?_
  rw [show (own none 0 43 7 ([]:List (List Value)))=own none 0 43 7 es from by rw [A]]
  refine rP 1 [] mn ?_
  refine RK G<|ar ?_
  refine LX hQ (none,0) [0] [] mn U U U ?_ ?_
  ·first|rfl|(rw [hes]; rfl)|(rw [← hes,A]; rfl)
  ·trivial
 refine WK E<|WS fun _ H=>ui U mM U fun J=>rP 1 [] mn ?_
 refine gv (es:=(List.map aG.cells [])) (C':=[own (some ⟨J,0,none⟩) 0 43 7 (List.map aG.cells []),_]) 0 U sm U (by simp [maxLen]) U ?_
 refine ed (es2:=es) (m':=es.length) 0 U U U Ue U U sm (ay 1 U) hone (by simp; omega) (by simp [maxLen]; omega) sm U U fun AA K=>?_
 try dsimp only
 refine rP 1 [] mn ?_
 refine RK H<|ar ?_
 refine LX hQ (AA,K) [0] [] mn U U U ?_ ?_
 ·first|rfl|(rw [hes]; rfl)|(rw [← hes,A]; rfl)
 ·trivial
theorem Ks (es:List (List Value)) (lA:OA) (n lC:Nat) (hlen:n≤1000000) (hes:es.length=n) (hone: ∀ v∈es.flatten,v.oneCell'=true):
 nG Tryz.prog 84 [(vS lA n lC)] [(rd lA n 1 es)] (fun (x:(OA)×Nat)=>(vS x.1 n x.2)) (fun (x:(OA)×Nat)=>True) (fun (x:(OA)×Nat)=>[(own x.1 x.2 75 1 es)]):=by
 refine eO kr Tryz.func84 U U fun L Q hQ hN=>?_
 try dsimp only
 refine WS fun _ D=>bI 1 U<|RK D<|aq fun _ E=>WS fun _ F=>rP 1 [] mn ?_
 refine rS (BI U (qY Sl))<|RK F<|ck U (aT fun B=>?_) (aU fun B=>?_)
 ·refine WS fun _ G=>mK (ay 0 U) B dc fun C=>?_
  have A:es=[]:=C
  refine gT 75 1 ?_
  rw [show (own none 0 75 1 ([]:List (List Value)))=own none 0 75 1 es from by rw [A]]
  refine rP 1 [] mn ?_
  refine RK G<|ar ?_
  refine LX hQ (none,0) [0] [] mn U U U ?_ ?_
  ·first|rfl|(rw [hes]; rfl)|(rw [← hes,A]; rfl)
  ·trivial
 refine WK E<|WS fun _ H=>ui U j8 U fun J=>rP 1 [] mn ?_
 refine gv (es:=(List.map sC [])) (C':=[own (some ⟨J,0,none⟩) 0 75 1 (List.map sC []),_]) 0 U sm U (by simp [maxLen]) U ?_
 refine ed (es2:=es) (m':=es.length) 0 U U U Vu U U sm (ay 1 U) hone (by simp; omega) (by simp [maxLen]; omega) sm U U fun AA K=>?_
 try dsimp only
 refine rP 1 [] mn ?_
 refine RK H<|ar ?_
 refine LX hQ (AA,K) [0] [] mn U U U ?_ ?_
 ·first|rfl|(rw [hes]; rfl)|(rw [← hes,A]; rfl)
 ·trivial
end
section
open Go.RowKit
theorem KF (l:List Int) (lA:OA) (lC:Nat) (n:Int) (hlen:l.length≤1000000):
 nG Tryz.prog 78 [(vS lA l.length lC),(vI n)] [(rd lA l.length 1 (l.map iC))] (fun (x:Int)=>(vI x)) (fun (x:Int)=>(0≤x↔n∈l)) (fun (x:Int)=>[]):=by
 refine eO kr Tryz.func78 U U fun AA Q hQ hN=>?_
 try dsimp only
 refine WS fun _ AB=>bI 1 U<|RK AB<|aq fun _ J=>WS fun _ K=>rP 3 [] mn ?_
 refine RK K<|aH ?_
 have A:(0≤l.length)∧(∀ y∈l.take 0,y≠n):=by exact ⟨Nat.zero_le _,fun y hy=>by simp at hy⟩
 refine bS (ι:={z:Nat // (z≤l.length)∧(∀ y∈l.take z,y≠n)}) [0,1,7] [0] U U (fun z=>[(8,(vI (z.1:Int)))]) (fun z=>[]) (fun _=>rfl) (fun _=>rfl) (fun z=>l.length-z.1) ⟨0,A⟩ (bD U) (aR [0]) ?_
 clear A
 rintro ⟨i,⟨P,B⟩⟩ J4 H
 try dsimp only
 refine WS fun _ L=>rP 1 [] mn ?_
 refine RK L<|aq fun _ M=>bR U (aU fun S=>?_) (aT fun S=>?_)
 ·refine bQ<|ag<|ag<|aI<|KK J<|WS fun _ F=>rP 1 [] mn ?_
  refine RK F<|ar<|LX hQ (-1) [] [] mn U U U U ?_
  exact ⟨fun q=>absurd q dc,fun q=>absurd q (fun T=>B _ (by rw [List.take_of_length_le I]; exact T) U)⟩
 refine WK M<|aq fun _ N=>aH<|WS fun _ O=>bI 2 U<|RK O<|WS fun _ D=>rP 3 [] mn ?_
 obtain ⟨x,hx⟩:=aC l i I
 have R:=bO iC hx
 refine rS (IA i U (ay 0 U) dy dc I I)<|rS (gD i 0 (vI x) U bU (ay 0 U) R U dc U)<|rP 1 [] mn ?_
 refine RK D<|ck U (aT fun C=>?_) (aU fun C=>?_)
 ·refine WS fun _ E=>rP 2 [] mn ?_
  refine RK E<|ar<|LX hQ (i:Int) [] [] mn U U U U ?_
  exact ⟨fun _=>by rw [C]; exact aM hx,fun _=>by omega⟩
 refine cj<|aP<|KK N<|aw<|rP 2 [] mn ?_
 refine aK ?_
 have G:(vI (((i+1):Nat):Int))=(vI ((i:Int)+1)):=by exact cI I
 refine bu (H ⟨(i+1),⟨I,fun y hy=>by rw [List.take_add_one,hx] at hy; rcases gH.1 hy with q|q; exact B y q; exact (cE.1 q)▸fun e=>C e.symm⟩⟩ _ _ _ rfl os (cP 3<|bw rfl G<|dp.nil _) (aR [0]))
theorem Bt (l:List Int) (lA:OA) (lC:Nat) (n:Int) (hlen:l.length≤1000000):
 dB Tryz.prog 51 [(vS lA l.length lC),(vI n)] [(rd lA l.length 1 (l.map iC))] (vB (decide (n∈l))):=by
 refine bJ kr Tryz.func51 U U fun F Q hQ hN=>?_
 try dsimp only
 refine WS fun _ A=>bI 1 U<|RK A<|WS fun _ B=>rP 2 [] mn ?_
 refine cX (KF l lA lC n hlen) (bo [0]) U fun E D=>?_
 try dsimp only
 have C:=D
 refine rP 2 [] mn ?_
 refine RK B<|ar<|Q1 hQ U U U ?_
 exact cB (gU.2 C)
end
section
open Go.RowKit
theorem E6 (l:List Int) (lA:OA) (lC:Nat) (hlen:l.length≤1000000):
 nG Tryz.prog 83 [(vS lA l.length lC)] [(rd lA l.length 1 (l.map iC))] (fun (x:(OA)×Nat)=>(vS x.1 l.length x.2)) (fun (x:(OA)×Nat)=>True) (fun (x:(OA)×Nat)=>[(own x.1 x.2 3 1 (l.map iC))]):=by
 refine eO kr Tryz.func83 U U fun L Q hQ hN=>?_
 try dsimp only
 refine WS fun _ D=>bI 1 U<|RK D<|aq fun _ E=>WS fun _ F=>rP 1 [] mn ?_
 refine rS (BI U (qY SI))<|RK F<|ck U (aT fun B=>?_) (aU fun B=>?_)
 ·refine WS fun _ G=>mK (ay 0 U) B dc fun C=>?_
  have A:l=[]:=by simpa using C
  refine gT 3 1 ?_
  rw [show (own none 0 3 1 ([]:List (List Value)))=own none 0 3 1 (l.map iC) from by rw [A]; rfl]
  refine rP 1 [] mn ?_
  refine RK G<|ar ?_
  refine LX hQ (none,0) [0] [] mn U U U ?_ ?_
  ·first|rfl|(rw [A]; rfl)
  ·trivial
 refine WK E<|WS fun _ H=>ui U dy U fun J=>rP 1 [] mn ?_
 refine gv (es:=(List.map iC [])) (C':=[own (some ⟨J,0,none⟩) 0 3 1 (List.map iC []),_]) 0 U sm U (by simp [maxLen]) U ?_
 refine ed (es2:=(List.map iC l)) (m':=l.length) 0 U U U te U U sm (ay 1 U) (lU _) os (by first|(simp only [maxLen]; omega)|(simp [maxLen]; omega)) sm sm U fun AA K=>?_
 try dsimp only
 refine rP 1 [] mn ?_
 refine RK H<|ar ?_
 refine LX hQ (AA,K) [0] [] mn U U U ?_ ?_
 ·first|rfl|(rw [A]; rfl)
 ·trivial
end
section
open Go.RowKit
theorem JR (r:eD) (kA:OA) (kC:Nat) (az:List RA) (cA:OA) (cC:Nat) (bA:OA) (bC:Nat) (slA:OA) (slC:Nat) (drA:OA) (drC:Nat) (ha:List cD) (heA:OA) (heC:Nat) (hin:iF r az ha):
 nG Tryz.prog 52 [(vA (cY.cells (vJ r kA kC cA cC bA bC slA slC drA drC heA heC)))] [(rd kA r.ao.aO.length 9 (r.ao.aO.map au.cells)),(rd cA r.ao.aj.length 2 (List.zipWith ax.cells r.ao.aj az)),(dE (bg ax.e_ r.ao.aj az)),(rd bA r.ao.ab.length 4 (r.ao.ab.map bK.cells)),(rd slA r.aV.length 1 (r.aV.map iC)),(rd drA r.bV.length 1 (r.bV.map iC)),(rd heA r.av.length 1 (List.zipWith bW r.av ha)),(dE (bg er r.av ha))] (fun (x:(OA)×Nat×(OA)×Nat×(List RA)×(OA)×Nat×(OA)×Nat×(OA)×Nat×(OA)×Nat×(List cD))=>(vA (cY.cells (cY.mk (cm.mk (bL.mk (bE.mk x.1 r.ao.aO.length x.2.1)) r.ao.h_ (bE.mk x.2.2.1 r.ao.aj.length x.2.2.2.1) (bE.mk x.2.2.2.2.2.1 r.ao.ab.length x.2.2.2.2.2.2.1) r.ao.cf r.ao.fJ r.ao.dC) (bE.mk x.2.2.2.2.2.2.2.1 r.aV.length x.2.2.2.2.2.2.2.2.1) (bE.mk x.2.2.2.2.2.2.2.2.2.1 r.bV.length x.2.2.2.2.2.2.2.2.2.2.1) r.j9 (bE.mk x.2.2.2.2.2.2.2.2.2.2.2.1 r.av.length x.2.2.2.2.2.2.2.2.2.2.2.2.1))))) (fun (x:(OA)×Nat×(OA)×Nat×(List RA)×(OA)×Nat×(OA)×Nat×(OA)×Nat×(OA)×Nat×(List cD))=>(x.2.2.2.2.1.length=r.ao.aj.length∧qE r.ao.aj x.2.2.2.2.1)∧sQ r.av x.2.2.2.2.2.2.2.2.2.2.2.2.2) (fun (x:(OA)×Nat×(OA)×Nat×(List RA)×(OA)×Nat×(OA)×Nat×(OA)×Nat×(OA)×Nat×(List cD))=>[(own x.1 x.2.1 128 9 (r.ao.aO.map au.cells)),(own x.2.2.1 x.2.2.2.1 133 2 (List.zipWith ax.cells r.ao.aj x.2.2.2.2.1)),(bM (bg ax.owns r.ao.aj x.2.2.2.2.1)),(own x.2.2.2.2.2.1 x.2.2.2.2.2.2.1 137 4 (r.ao.ab.map bK.cells)),(own x.2.2.2.2.2.2.2.1 x.2.2.2.2.2.2.2.2.1 3 1 (r.aV.map iC)),(own x.2.2.2.2.2.2.2.2.2.1 x.2.2.2.2.2.2.2.2.2.2.1 3 1 (r.bV.map iC)),(own x.2.2.2.2.2.2.2.2.2.2.2.1 x.2.2.2.2.2.2.2.2.2.2.2.2.1 75 1 (List.zipWith bW r.av x.2.2.2.2.2.2.2.2.2.2.2.2.2)),(bM (bg jF r.av x.2.2.2.2.2.2.2.2.2.2.2.2.2))]):=by
 have C:=hin.line
 have LA:=hin.g8
 have M:=hin.has
 have M2:=hin.g7
 have MI:=hin.draw
 have NE:=iL (r:=r)
 have Qr:=C.rW
 have Ps:=C.sG
 have Pn:=C.se
 have K4:=C.ly
 refine eO kr Tryz.func52 U U fun w0 Q hQ hN=>?_
 try dsimp only
 refine WS fun _ J9=>eJ U fun b2=>AL U pB fun b3=>RK J9<|WS fun _ Kl=>rP 2 [] mn ?_
 refine RK Kl<|aq fun _ Kw=>dH cg [8,13,18,22,25,28] [7,11,15] [0,1,2] [0,2,3,4,5,6,7,8,9] [0,1,2,3,4,5,6,7,8,9] U U U U U<|eS U (MV U)<|eS U (MV U)<|eS U (MV U)<|eS U (MV U)<|eS U (SX (cw U U) U U)<|eS U (FA 0 U eU U)<|eS U (FA 0 U eU U)<|fS U (L1 (vS kA r.ao.aO.length kC) 1 U bU U U)<|eS U (MV U)<|eS U (SX (cw U U) U U)<|eS U (FA 3 U eU U)<|fS U (L1 (vS bA r.ao.ab.length bC) 1 U bU U U)<|eS U (MV U)<|eS U (SX (cw U U) U U)<|eS U (FA 2 U eU U)<|fS U (L1 (vS cA r.ao.aj.length cC) 1 U bU U U)<|eS U (SX (cw U U) U U)<|eS U (FA 0 U eU U)<|eS U (FA 0 U eU U)<|eS U (SX (cw U U) U U)<|eS U (FA 3 U eU U)<|eS U (SX (cw U U) U U)<|eS U (FA 2 U eU U)<|eo U<|iP U fun T6 K0=>cX (II r.ao.aO kA kC asm) (bo [2]) U fun y7 Qx=>?_
 obtain ⟨a9,S⟩:=y7
 try dsimp only
 refine aK (K0 _ _ (aR [1,3,4,5,6,7,8,9,10]) (aR [1,2,3,4,5,6,7,8,9,10]) ?_)
 refine iP U fun T11 FQ=>cX (Lz r.ao.ab bA bC asm) (bo [6]) U fun LE Ne=>?_
 obtain ⟨W,Y⟩:=LE
 try dsimp only
 refine aK (FQ _ _ (aR [2,4,5,6,7,8,9,10,11]) (aR [2,3,4,5,6,7,8,9,10,11]) ?_)
 refine iP U fun T16 FS=>cX (Jy (List.zipWith ax.cells r.ao.aj az) cA r.ao.aj.length cC asm (by exact iO K4) (by exact Dq _ _)) (bo [5]) U fun LT Op=>?_
 obtain ⟨J,K⟩:=LT
 try dsimp only
 refine aK (FS _ _ (aR [3,5,6,7,8,9,10,11,12]) (aR [3,4,5,6,7,8,9,10,11,12]) ?_)
 refine cp U fun T21 Fd=>U7 (cY.cells (cY.mk (cm.mk (bL.mk (bE.mk a9 r.ao.aO.length S)) r.ao.h_ (bE.mk cA r.ao.aj.length cC) (bE.mk bA r.ao.ab.length bC) r.ao.cf r.ao.fJ r.ao.dC) (bE.mk slA r.aV.length slC) (bE.mk drA r.bV.length drC) r.j9 (bE.mk heA r.av.length heC))) U UR U U<|aK (Fd _ _ (aR [3,5,6,7,8,9,10,11,12]) ?_)
 refine cp U fun T22 Fn=>U7 (cY.cells (cY.mk (cm.mk (bL.mk (bE.mk a9 r.ao.aO.length S)) r.ao.h_ (bE.mk cA r.ao.aj.length cC) (bE.mk W r.ao.ab.length Y) r.ao.cf r.ao.fJ r.ao.dC) (bE.mk slA r.aV.length slC) (bE.mk drA r.bV.length drC) r.j9 (bE.mk heA r.av.length heC))) U Uk U U<|aK (Fn _ _ (aR [3,5,6,7,8,9,10,11,12]) ?_)
 refine cp U fun T23 GE=>U7 (cY.cells (cY.mk (cm.mk (bL.mk (bE.mk a9 r.ao.aO.length S)) r.ao.h_ (bE.mk J r.ao.aj.length K) (bE.mk W r.ao.ab.length Y) r.ao.cf r.ao.fJ r.ao.dC) (bE.mk slA r.aV.length slC) (bE.mk drA r.bV.length drC) r.j9 (bE.mk heA r.av.length heC))) U Uj U U<|aK (GE _ _ (aR [3,5,6,7,8,9,10,11,12]) ?_)
 refine fK U<|KK Kw<|aq fun _ A5=>WS fun _ A6=>bI 1 U<|rS (SX (cw U U) U U)<|rP 4 [] (mc 4 U mn) ?_
 refine RK A6<|aH<|nN ?_
 have E:(0≤r.ao.aj.length)∧(([]:List RA).length=0)∧(qE r.ao.aj ([]:List RA)):=by exact ⟨Nat.zero_le _,rfl,fun k m a _ h=>by simp at h⟩
 refine bS (ι:={z:Nat×(List RA) // (z.1≤r.ao.aj.length)∧(z.2.length=z.1)∧(qE r.ao.aj z.2)}) [1,2,3,39] [2,3,4,5,6,7,8,9,10,11,12,13] U U (fun z=>[(40,(vI (z.1.1:Int)))]) (fun z=>[(bM (bg ax.owns (r.ao.aj.take z.1.1) z.1.2)),(own J K 133 2 (List.zipWith ax.cells r.ao.aj (kT z.1.2 az z.1.1)))]) (fun _=>rfl) (fun _=>rfl) (fun z=>r.ao.aj.length-z.1.1) ⟨(0,([]:List RA)),E⟩ (bD U) (aR [2,3,4,5,6,7,8,9,10,11,12,13,0,1]) ?_
 clear E
 rintro ⟨⟨i,bz⟩,⟨A1,B,V⟩⟩ J26 A2
 try dsimp only at A1 B V
 try dsimp only
 refine WS fun _ A7=>rP 1 [] mn ?_
 refine RK A7<|aq fun _ A8=>ck U (aT fun J6=>?_) (aU fun J6=>?_)
 ·refine WK A8<|aq fun _ A9=>aH<|WS fun _ B3=>rP 2 [] mn ?_
  refine RK B3<|dH cg [13,16] [10,11,12,13,14] [0] [0,1,2,3,4,5,6,7,8,9,10,11,12] [0,1,2,3,4,5,6,7,8,9,10,11,12,13] U U U U U<|eS U (MV U)<|eS U (SX (cw U U) U U)<|eS U (FA 2 U eU U)<|eS U (L1 (vS J r.ao.aj.length K) 3 U bU U U)<|eS U (MV U)<|eS U (MV U)<|eS U (SX (cw U U) U U)<|eS U (FA 2 U eU U)<|eS U (L1 (vS J r.ao.aj.length K) 3 U bU U U)<|eS U (MV U) ?_
  obtain ⟨x,hx⟩:=aC r.ao.aj i I
  obtain ⟨xa,s⟩:=aC az i I
  have J5:(List.zipWith ax.cells r.ao.aj (kT bz az i))[i]? =some (ax.cells x xa):=cv hx (Ay B s)
  have Qh:=(C.Q0 _ _ _ hx s).2
  refine fS U (IA i U (aB (n:=r.ao.aj.length) 13 U (iO (by rw [iZ B I]; exact C.ly))) yf dc I I) ?_
  refine fS U (pO ((i*2)+1) U (aB (n:=r.ao.aj.length) 13 U (iO (by rw [iZ B I]; exact C.ly))) (Nat.mul_pos I dc) eU U) ?_
  refine fS U (gD i 1 (vS xa.1 x.bB.length xa.2) U bU (aB (n:=r.ao.aj.length) 13 U (iO (by rw [iZ B I]; exact C.ly))) J5 U dc U) ?_
  refine fS U (IA i U (aB (n:=r.ao.aj.length) 13 U (iO (by rw [iZ B I]; exact C.ly))) yf dc I I) ?_
  refine fS U (pO ((i*2)+1) U (aB (n:=r.ao.aj.length) 13 U (iO (by rw [iZ B I]; exact C.ly))) (Nat.mul_pos I dc) eU U) ?_
  refine eo U<|iP U fun T32 GT=>cX (Jf x.bB xa.1 xa.2 asm) (aD (show fY _ (rd xa.1 x.bB.length 3 (x.bB.map ct.cells)).holds from (bX 6 U (a_ hx s (by simp [ax.e_]))))<|aL) U fun La Or=>?_
  obtain ⟨P,T⟩:=La
  try dsimp only
  refine aK (GT _ _ (aR [1,2,3,4,5,6,7,8,9,10,11,12,13]) (aR [1,2,3,4,5,6,7,8,9,10,11,12,13,14]) ?_)
  refine cp U fun T37 Go=>gu (k:=i) (o:=1) (vs:=[(vS P x.bB.length T)]) (es':=(List.zipWith ax.cells r.ao.aj (kT (bz++[(P,T)]) az (i+1)))) (C':=[_,_,_,_,_,_,_,_,_,_,_,_,_,_,(own J K 133 2 (List.zipWith ax.cells r.ao.aj (kT (bz++[(P,T)]) az (i+1))))]) 14 U U U Rv U U U U J5 U dc (by exact yI (c:=ax.cells) (b:=(P,T)) hx B s) U<|aK (Go _ _ (aR [1,2,3,4,5,6,7,8,9,10,11,12,13]) ?_)
  refine fK U<|aP<|KK A9<|aw<|rP 2 [] mn ?_
  refine aK<|QA 0 U fun t=>?_
  simp only [List.length_map] at t
  refine Ls (Y':=bg ax.owns (r.ao.aj.take (i+1)) (bz++[(P,T)])) 13 0 U U (tg (f:=ax.owns) (b:=(P,T)) hx B) ?_
  have Je:(vI (((i+1):Nat):Int))=(vI ((i:Int)+1)):=by exact cI I
  refine bu (A2 ⟨((i+1),(bz++[(P,T)])),⟨I,by simp; omega,Kg V B hx t⟩⟩ _ _ _ U os (cP 4<|bw U Je<|dp.nil _) (aR [1,2,3,4,5,6,7,8,9,10,11,12,0,13]))
 refine bQ<|ag<|ag<|aI<|KK A5<|aq fun _ B9=>?_
 have K5:bz.length=r.ao.aj.length:=by omega
 have K8:=V
 rw [show (kT bz az i)=bz from w8 I,show r.ao.aj.take i=r.ao.aj from List.take_of_length_le I]
 refine dH cg [2,5,8,10,12,14] [1,3,5] [0,1,2] [0,1,2,4,5,6,7,8,9,10,11,12,13] [0,1,2,3,4,5,6,7,8,9,10,11,12,13] U U U U U<|eS U (FA 7 U eU U)<|fS U (L1 (vS slA r.aV.length slC) 3 U bU U U)<|eS U (FA 8 U eU U)<|fS U (L1 (vS drA r.bV.length drC) 3 U bU U U)<|eS U (FA 10 U eU U)<|fS U (L1 (vS heA r.av.length heC) 3 U bU U U)<|eS U (FA 7 U eU U)<|eS U (FA 8 U eU U)<|eS U (FA 10 U eU U)<|eo U<|iP U fun T40 Hi=>cX (E6 r.aV slA slC asm) (bo [8]) U fun Li Os=>?_
 obtain ⟨g,j⟩:=Li
 try dsimp only
 refine aK (Hi _ _ (aR [1,2,3,5,6,7,8,9,10,11,12,13,14]) (aR [1,2,3,4,5,6,7,8,9,10,11,12,13,14]) ?_)
 refine iP U fun T45 H1=>cX (E6 r.bV drA drC I) (bo [10]) U fun Lk O8=>?_
 obtain ⟨w,AK⟩:=Lk
 try dsimp only
 refine aK (H1 _ _ (aR [2,3,4,6,7,8,9,10,11,12,13,14,15]) (aR [2,3,4,5,6,7,8,9,10,11,12,13,14,15]) ?_)
 refine iP U fun T50 IO=>cX (Ks (List.zipWith bW r.av ha) heA r.av.length heC asm (by exact gr M) (by exact GF _ _)) (bo [12]) U fun Lo PP=>?_
 obtain ⟨X,Z⟩:=Lo
 try dsimp only
 refine aK (IO _ _ (aR [3,4,5,7,8,9,10,11,12,13,14,15,16]) (aR [3,4,5,6,7,8,9,10,11,12,13,14,15,16]) ?_)
 refine cp U fun T55 IR=>U4 (cY.cells (cY.mk (cm.mk (bL.mk (bE.mk a9 r.ao.aO.length S)) r.ao.h_ (bE.mk J r.ao.aj.length K) (bE.mk W r.ao.ab.length Y) r.ao.cf r.ao.fJ r.ao.dC) (bE.mk g r.aV.length j) (bE.mk drA r.bV.length drC) r.j9 (bE.mk heA r.av.length heC))) U G7 U U<|aK (IR _ _ (aR [3,4,5,7,8,9,10,11,12,13,14,15,16]) ?_)
 refine cp U fun T56 Id=>U4 (cY.cells (cY.mk (cm.mk (bL.mk (bE.mk a9 r.ao.aO.length S)) r.ao.h_ (bE.mk J r.ao.aj.length K) (bE.mk W r.ao.ab.length Y) r.ao.cf r.ao.fJ r.ao.dC) (bE.mk g r.aV.length j) (bE.mk w r.bV.length AK) r.j9 (bE.mk heA r.av.length heC))) U G7 U U<|aK (Id _ _ (aR [3,4,5,7,8,9,10,11,12,13,14,15,16]) ?_)
 refine cp U fun T57 If=>U4 (cY.cells (cY.mk (cm.mk (bL.mk (bE.mk a9 r.ao.aO.length S)) r.ao.h_ (bE.mk J r.ao.aj.length K) (bE.mk W r.ao.ab.length Y) r.ao.cf r.ao.fJ r.ao.dC) (bE.mk g r.aV.length j) (bE.mk w r.bV.length AK) r.j9 (bE.mk X r.av.length Z))) U Uf U U<|aK (If _ _ (aR [3,4,5,7,8,9,10,11,12,13,14,15,16]) ?_)
 refine fK U<|KK B9<|aq fun _ CC=>WS fun _ Ci=>rP 4 [] (mc 6 U mn) ?_
 refine RK Ci<|aH<|nN ?_
 have E:(0≤r.av.length)∧(([]:List cD).length=0)∧(∀ (k:Nat) y (a:cD),r.av[k]? =some y→([]:List cD)[k]? =some a→a.2.length=y.length):=by exact ⟨Nat.zero_le _,rfl,fun k y a _ q=>by simp at q⟩
 refine bS (ι:={z:Nat×(List cD) // (z.1≤r.av.length)∧(z.2.length=z.1)∧(∀ (k:Nat) y (a:cD),r.av[k]? =some y→z.2[k]? =some a→a.2.length=y.length)}) [1,2,74] [2,3,4,5,6,7,8,9,10,11,12,13,14,15,16,17] U U (fun z=>[(75,(vI (z.1.1:Int)))]) (fun z=>[(bM (bg jF (r.av.take z.1.1) z.1.2)),(own X Z 75 1 (List.zipWith bW r.av (kT z.1.2 ha z.1.1)))]) (fun _=>rfl) (fun _=>rfl) (fun z=>r.av.length-z.1.1) ⟨(0,([]:List cD)),E⟩ (bD U) (aR [2,3,4,5,6,7,8,9,10,11,12,13,14,15,16,17,0,1]) ?_
 clear E
 rintro ⟨⟨h,hz⟩,⟨l,A,L⟩⟩ J60 A3
 try dsimp only at l A L
 try dsimp only
 refine WS fun _ Ck=>rP 1 [] mn ?_
 refine RK Ck<|aq fun _ Cp=>bR U (aU fun J7=>?_) (aT fun J7=>?_)
 ·refine bQ<|ag<|ag<|aI<|KK CC<|aq fun _ Eq=>?_
  have LD:sQ r.av hz:=⟨I,L⟩
  rw [show (kT hz ha h)=hz from w8 I,show r.av.take h=r.av from List.take_of_length_le I]
  refine aw<|rP 1 [] (mc 5 U mn) ?_
  refine Q5 U jE U<|RK Eq<|ar ?_
  refine LX hQ (a9,S,J,K,bz,W,Y,g,j,w,AK,X,Z,hz) [3,15,14,2,1,0,17,16] [0] (mc 4 U mn) U (by show List.all _ _=true; simp only [il,List.all_nil,qm,xy,Bool.and_true]; rfl) U U ?_
  exact ⟨⟨K5,K8⟩,LD⟩
 refine WK Cp<|aq fun _ Cx=>aH<|WS fun _ C0=>rP 2 [] mn ?_
 refine RK C0<|aq fun _ C1=>dH cg [8,10] [6,7,8] [0] [0,1,2,3,4,5,6,7,8,9,10,11,12,13,14,15,16] [0,1,2,3,4,5,6,7,8,9,10,11,12,13,14,15,16,17] U U U U U<|eS U (FA 10 U eU U)<|eS U (L1 (vS X r.av.length Z) 5 U bU U U)<|eS U (MV U)<|eS U (FA 10 U eU U)<|eS U (L1 (vS X r.av.length Z) 5 U bU U U)<|eS U (MV U) ?_
 obtain ⟨ht,N⟩:=aC r.av h I
 obtain ⟨D,O⟩:=aC ha h I
 have u:(List.zipWith bW r.av (kT hz ha h))[h]? =some (bW ht D):=cv N (Ay A O)
 have A0:=hin.ek _ _ _ N O
 have e:=A0.ly
 have LA:=A0.len
 refine fS U (IA h U (aB (n:=r.av.length) 17 U (gr (by rw [iZ A I]; exact M))) j8 dc I I) ?_
 refine fS U (gD h 0 (vS D.1.1 ht.length D.1.2) U bU (aB (n:=r.av.length) 17 U (gr (by rw [iZ A I]; exact M))) u U dc U) ?_
 refine fS U (IA h U (aB (n:=r.av.length) 17 U (gr (by rw [iZ A I]; exact M))) j8 dc I I) ?_
 refine eo U<|iP U fun T67 In=>cX (I2 (List.zipWith ak.cells ht D.2) D.1.1 ht.length D.1.2 asm (by exact q_ e) (by exact NR _ _)) (aD (show fY _ (rd D.1.1 ht.length 7 (List.zipWith ak.cells ht D.2)).holds from (bX 13 U (a_ N O bY)))<|aL) U fun L0 Pi=>?_
 obtain ⟨G,H⟩:=L0
 try dsimp only
 refine aK (In _ _ (aR [1,2,3,4,5,6,7,8,9,10,11,12,13,14,15,16,17]) (aR [1,2,3,4,5,6,7,8,9,10,11,12,13,14,15,16,17,18]) ?_)
 refine cp U fun T72 I0=>gu (k:=h) (o:=0) (vs:=[(vS G ht.length H)]) (es':=(List.zipWith bW r.av (kT (hz++[((G,H),D.2)]) ha (h+1)))) (C':=[_,_,_,_,_,_,_,_,_,_,_,_,_,_,_,_,_,_,(own X Z 75 1 (List.zipWith bW r.av (kT (hz++[((G,H),D.2)]) ha (h+1))))]) 18 U U U UY U U U U u U dc (by exact yI (b:=((G,H),D.2)) N A O) U<|aK (I0 _ _ (aR [1,2,3,4,5,6,7,8,9,10,11,12,13,14,15,16,17]) ?_)
 refine fK U<|KK C1<|WS fun _ C2=>rP 3 [] (mc 6 U mn) ?_
 have v:(List.zipWith bW r.av (kT (hz++[((G,H),D.2)]) ha (h+1)))[h]? =some (bW ht ((G,H),D.2)):=cv N (Le A)
 refine rS (IA h U (aB (n:=r.av.length) 18 U (gr (by rw [iZ (by simp; omega) I]; exact M))) j8 dc I I) ?_
 refine rS (gD h 0 (vS G ht.length H) U bU (aB (n:=r.av.length) 18 U (gr (by rw [iZ (by simp; omega) I]; exact M))) v U dc U) ?_
 refine rP 2 [] mn ?_
 refine RK C2<|aH<|nN ?_
 have E:(0≤ht.length)∧(([]:List RA).length=0):=by exact ⟨Nat.zero_le _,rfl⟩
 refine bS (ι:={z:Nat×(List RA) // (z.1≤ht.length)∧(z.2.length=z.1)}) [1,2,5,74,75,93] [2,3,4,5,6,7,8,9,10,11,12,13,14,15,16,17,18,19] U U (fun z=>[(94,(vI (z.1.1:Int)))]) (fun z=>[(bM (bg pG (ht.take z.1.1) z.1.2)),(own G H 43 7 (List.zipWith ak.cells ht (kT z.1.2 D.2 z.1.1)))]) (fun _=>rfl) (fun _=>rfl) (fun z=>ht.length-z.1.1) ⟨(0,([]:List RA)),E⟩ (bD U) (aR [2,3,4,5,6,7,8,9,10,11,12,13,14,15,16,17,18,19,0,1]) ?_
 clear E
 rintro ⟨⟨i,dz⟩,⟨p,F⟩⟩ J74 A4
 try dsimp only at p F
 try dsimp only
 refine WS fun _ C3=>rP 1 [] mn ?_
 refine RK C3<|aq fun _ Di=>bR U (aU fun J8=>?_) (aT fun J8=>?_)
 ·refine bQ<|ag<|ag<|aI<|aP<|KK Cx<|aw<|rP 2 [] mn ?_
  refine aK ?_
  have MQ:dz.length=ht.length:=by omega
  rw [show (kT dz D.2 i)=dz from w8 I,show ht.take i=ht from List.take_of_length_le I]
  refine QR (Z':=bg jF (r.av.take (h+1)) (hz++[((G,H),dz)])) 16 18 19 U U (tg (f:=jF) (b:=((G,H),dz)) N A) ?_
  rw [KL (y:=dz)]
  have J3:(vI (((h+1):Nat):Int))=(vI ((h:Int)+1)):=by exact cI I
  refine bu (A3 ⟨((h+1),(hz++[((G,H),dz)])),⟨I,by simp; omega,Ni N L A dso⟩⟩ _ _ _ U os (cP 3<|bw U J3<|dp.nil _) (aR [1,2,3,4,5,6,7,8,9,10,11,12,13,14,15,16,0,17]))
 refine WK Di<|aq fun _ Dj=>aH<|WS fun _ Do=>rP 2 [] mn ?_
 refine RK Do<|aq fun _ EQ=>?_
 refine Ee 19 U (by rw [q_ (by rw [iZ F I]; exact e)]; omega) (fun L3 AB=>?_)
 refine aw<|rP 3 [] (mc 5 U mn) ?_
 refine rS (IA h U (aB (n:=r.av.length) 17 U (gr (by rw [iZ (by simp; omega) I]; exact M))) j8 dc I I) ?_
 refine rS (gD h 0 (vS G ht.length H) U bU (aB (n:=r.av.length) 17 U (gr (by rw [iZ (by simp; omega) I]; exact M))) v U dc U) ?_
 refine rP 1 [] mn ?_
 obtain ⟨d,hd⟩:=aC ht i I
 obtain ⟨da,AO⟩:=aC D.2 i I
 have J4:(List.zipWith ak.cells ht (kT dz D.2 i))[i]? =some (ak.cells d da):=cv hd (Ay F AO)
 have QS:=A0.sig d (aM hd)
 refine rS (VW i U AB mM I I)<|rS (VN ((i*7)+4) U AB eU U)<|rS (VN (((i*7)+4)+2) U AB eU U)<|bI 1 U<|RK EQ<|aw<|rP 2 [] mn ?_
 refine rS (SX (zf U U AB) U U) ?_
 refine rS (gD i 6 (vS da.1 d.aY.aa.length da.2) U bU (aB (n:=ht.length) 19 U (q_ (by rw [iZ F I]; exact e))) J4 U dc U) ?_
 refine cX (BD d.aY.aa da.1 da.2 asm) (aD (show fY _ (rd da.1 d.aY.aa.length 2 (d.aY.aa.map aF.cells)).holds from (bX 13 U (a_ N O (dh _ (a_ hd AO (by simp [ak.e_]))))))<|aL) U fun L2 Pl=>?_
 obtain ⟨R,AA⟩:=L2
 try dsimp only
 refine rS (SX (zf U U AB) U U)<|gu (k:=i) (o:=6) (vs:=[(vS R d.aY.aa.length AA)]) (es':=(List.zipWith ak.cells ht (kT (dz++[(R,AA)]) D.2 (i+1)))) (C':=[_,_,_,_,_,_,_,_,_,_,_,_,_,_,_,_,_,_,_,_,(own G H 43 7 (List.zipWith ak.cells ht (kT (dz++[(R,AA)]) D.2 (i+1))))]) 20 U U U Sx U U U U J4 U dc (by exact yI (c:=ak.cells) (b:=(R,AA)) hd F AO) U<|aK<|aP<|KK Dj<|aw<|rP 2 [] mn ?_
 refine aK<|Ls (Y':=bg pG (ht.take (i+1)) (dz++[(R,AA)])) 19 0 U U (tg (f:=pG) (b:=(R,AA)) hd F) ?_
 have J2:(vI (((i+1):Nat):Int))=(vI ((i:Int)+1)):=by exact cI I
 refine bu (A4 ⟨((i+1),(dz++[(R,AA)])),⟨I,by simp; omega⟩⟩ _ _ _ U os (cP 6<|bw U J2<|dp.nil _) (aR [1,2,3,4,5,6,7,8,9,10,11,12,13,14,15,16,17,18,0,19]))
end
section
open Go.RowKit
theorem ql (j:cS) (kA:OA) (kC:Nat) (az:List RA) (cA:OA) (cC:Nat) (bA:OA) (bC:Nat) (slA:OA) (slC:Nat) (drA:OA) (drC:Nat) (ha:List cD) (heA:OA) (heC:Nat) (faA:OA) (faC:Nat) (prA:OA) (prC:Nat) (h i:Int) (d:ak) (sgA:OA) (sgC:Nat) (hin:gX j az ha) (hsl:d.aY.aa.length≤1000000):
 nG Tryz.prog 18 [(vA (gh.cells (nt j kA kC cA cC bA bC slA slC drA drC heA heC faA faC prA prC))),(vI h),(vI i),(vA (aG.cells (aG.mk d.Out d.cJ d.Time (iN d.aY sgA sgC))))] [(rd gd 3 2 fr),(rd kA j.Race.ao.aO.length 9 (j.Race.ao.aO.map au.cells)),(rd cA j.Race.ao.aj.length 2 (List.zipWith ax.cells j.Race.ao.aj az)),(dE (bg ax.e_ j.Race.ao.aj az)),(rd bA j.Race.ao.ab.length 4 (j.Race.ao.ab.map bK.cells)),(rd slA j.Race.aV.length 1 (j.Race.aV.map iC)),(rd drA j.Race.bV.length 1 (j.Race.bV.map iC)),(rd heA j.Race.av.length 1 (List.zipWith bW j.Race.av ha)),(dE (bg er j.Race.av ha)),(rd faA j.aS.length 4 (j.aS.map aZ.cells)),(rd prA j.aJ.length 5 (j.aJ.map br.cells)),(rd sgA d.aY.aa.length 2 (d.aY.aa.map aF.cells))] (fun (x:Bool×Int×(OA)×Nat×(OA)×Nat×(List RA)×(OA)×Nat×(OA)×Nat×(OA)×Nat×(OA)×Nat×(List cD))=>bif x.1 then (vT [(vA (cY.cells (cY.mk (cm.mk (bL.mk (bE.mk x.2.2.1 j.Race.ao.aO.length x.2.2.2.1)) j.Race.ao.h_ (bE.mk x.2.2.2.2.1 j.Race.ao.aj.length x.2.2.2.2.2.1) (bE.mk x.2.2.2.2.2.2.2.1 j.Race.ao.ab.length x.2.2.2.2.2.2.2.2.1) j.Race.ao.cf j.Race.ao.fJ j.Race.ao.dC) (bE.mk x.2.2.2.2.2.2.2.2.2.1 j.Race.aV.length x.2.2.2.2.2.2.2.2.2.2.1) (bE.mk x.2.2.2.2.2.2.2.2.2.2.2.1 j.Race.bV.length x.2.2.2.2.2.2.2.2.2.2.2.2.1) j.Race.j9 (bE.mk x.2.2.2.2.2.2.2.2.2.2.2.2.2.1 ((g9 j.Race.av h i d).length) x.2.2.2.2.2.2.2.2.2.2.2.2.2.2.1)))),(vI 0)]) else (vT [(vA (cY.cells (cY.mk (cm.mk (bL.mk (bE.mk none 0 0)) 0 (bE.mk none 0 0) (bE.mk none 0 0) 0 0 0) (bE.mk none 0 0) (bE.mk none 0 0) 0 (bE.mk none 0 0)))),(vI x.2.1)])) (fun (x:Bool×Int×(OA)×Nat×(OA)×Nat×(List RA)×(OA)×Nat×(OA)×Nat×(OA)×Nat×(OA)×Nat×(List cD))=>(x.1=true→((lF j h i d)=0∧(x.2.2.2.2.2.2.1.length=j.Race.ao.aj.length∧qE j.Race.ao.aj x.2.2.2.2.2.2.1)∧sQ (g9 j.Race.av h i d) x.2.2.2.2.2.2.2.2.2.2.2.2.2.2.2))∧(x.1=false→(x.2.1=(lF j h i d)∧ ¬ (lF j h i d)=0))) (fun (x:Bool×Int×(OA)×Nat×(OA)×Nat×(List RA)×(OA)×Nat×(OA)×Nat×(OA)×Nat×(OA)×Nat×(List cD))=>bif x.1 then [(own x.2.2.1 x.2.2.2.1 128 9 (j.Race.ao.aO.map au.cells)),(own x.2.2.2.2.1 x.2.2.2.2.2.1 133 2 (List.zipWith ax.cells j.Race.ao.aj x.2.2.2.2.2.2.1)),(bM (bg ax.owns j.Race.ao.aj x.2.2.2.2.2.2.1)),(own x.2.2.2.2.2.2.2.1 x.2.2.2.2.2.2.2.2.1 137 4 (j.Race.ao.ab.map bK.cells)),(own x.2.2.2.2.2.2.2.2.2.1 x.2.2.2.2.2.2.2.2.2.2.1 3 1 (j.Race.aV.map iC)),(own x.2.2.2.2.2.2.2.2.2.2.2.1 x.2.2.2.2.2.2.2.2.2.2.2.2.1 3 1 (j.Race.bV.map iC)),(own x.2.2.2.2.2.2.2.2.2.2.2.2.2.1 x.2.2.2.2.2.2.2.2.2.2.2.2.2.2.1 75 1 (List.zipWith bW (g9 j.Race.av h i d) x.2.2.2.2.2.2.2.2.2.2.2.2.2.2.2)),(bM (bg jF (g9 j.Race.av h i d) x.2.2.2.2.2.2.2.2.2.2.2.2.2.2.2))] else []):=by
 have B9:=hin.race
 have FQ:=hin.race.line
 have J4:=hin.race.g8
 have J6:=hin.race.has
 have Id:=hin.race.g7
 have Hi:=hin.nf
 have IO:=hin.np
 refine eO kr Tryz.func18 U U fun w0 Q hQ hN=>?_
 try dsimp only
 refine WS fun _ C1=>eJ U fun b2=>eJ U fun b3=>AL U pB fun b4=>bI 1 U<|RK C1<|WS fun _ C2=>eV 1 [] (mc 2 U mn) U<|rS (CL (sv j kA kC az cA cC bA bC slA slC drA drC ha heA heC faA faC prA prC hin) (bo [3,4,5,6,7,8,9,10,11,12,13]) U)<|bI 3 U<|AL U DH fun b6=>eN U Er U<|bI 1 U<|RK C2<|aq fun _ C3=>WS fun _ Di=>rP 2 [] mn ?_
 refine RK Di<|ck U (aX fun E=>?_) (aW fun E=>?_)
 ·refine WS fun _ Dj=>rS (SX (bp (xs:=[]) (cs:=(cY.cells (cY.mk (cm.mk (bL.mk (bE.mk none 0 0)) 0 (bE.mk none 0 0) (bE.mk none 0 0) 0 0 0) (bE.mk none 0 0) (bE.mk none 0 0) 0 (bE.mk none 0 0)))) U U (bq Gg U)) U U)<|bI 1 U<|qN U jE U<|rP 1 [] mn ?_
  refine RK Dj<|ar ?_
  refine LX hQ (false,(dG j),none,0,none,0,[],none,0,none,0,none,0,none,0,[]) [] [0] (mc 1 U mn) U (by rfl) U ?_ ?_
  ·rfl
  ·refine ⟨Hz,fun _=>?_⟩; have e:=H9 (h:=h) (i:=i) (d:=d) E; exact ⟨e.symm,fun q=>E (e.symm.trans q)⟩
 refine WK C3<|aq fun _ u=>WS fun _ f=>rP 6 [] (mc 3 U mn) ?_
 refine ew (xs:=[.tmp 27]) (cs:=[(vI h)]) U dy j7 U U U U (by simp [Value.cells]) U U fun Ck=>?_
 refine rS (CL (dB.eq (ij 0 ((j.Race.av.length:Int)-1) ([h]) (some ⟨Ck,0,none⟩) 1 (by (simp; done))) cy) (aD (bx 0 U U (by simp [bP]) U)<|aL) U) ?_
 refine rP 2 [] mn ?_
 refine bT (t:=31) U (aX fun Cx=>?_) (aW fun Cx=>?_)
 ·refine bI 10 U<|RK f<|aN U<|WS fun _ v=>rS (SX (bp (xs:=[]) (cs:=(cY.cells (cY.mk (cm.mk (bL.mk (bE.mk none 0 0)) 0 (bE.mk none 0 0) (bE.mk none 0 0) 0 0 0) (bE.mk none 0 0) (bE.mk none 0 0) 0 (bE.mk none 0 0)))) U U (bq Gg U)) U U)<|GM U jE U<|rP 1 [] mn ?_
  refine RK v<|ar ?_
  refine LX hQ (false,2,none,0,none,0,[],none,0,none,0,none,0,none,0,[]) [] [0] (mc 2 U mn) U (by rfl) U ?_ ?_
  ·rfl
  ·exact qF<|sT (Cv (h:=h) (i:=i) (d:=d) E I)
 refine rP 6 [] (mc 4 U mn) ?_
 refine ew (xs:=[.tmp 37]) (cs:=[(vI i)]) U dy j7 U U U U (by simp [Value.cells]) U U fun Cp=>?_
 refine rS (CL (dB.eq (ij 0 ((j.Race.aV.length:Int)-1) ([i]) (some ⟨Cp,0,none⟩) 1 (by (simp; done))) cy) (aD (bx 0 U U (by simp [bP]) U)<|aL) U) ?_
 refine rP 2 [] mn ?_
 refine RK f<|ck U (aX fun C0=>?_) (aW fun C0=>?_)
 ·refine WS fun _ y=>rS (SX (bp (xs:=[]) (cs:=(cY.cells (cY.mk (cm.mk (bL.mk (bE.mk none 0 0)) 0 (bE.mk none 0 0) (bE.mk none 0 0) 0 0 0) (bE.mk none 0 0) (bE.mk none 0 0) 0 (bE.mk none 0 0)))) U U (bq Gg U)) U U)<|RG U jE U<|rP 1 [] mn ?_
  refine RK y<|ar ?_
  refine LX hQ (false,2,none,0,none,0,[],none,0,none,0,none,0,none,0,[]) [] [0] (mc 3 U mn) U (by rfl) U ?_ ?_
  ·rfl
  ·exact qF<|sT (Cv (h:=h) (i:=i) (d:=d) E I)
 refine WK u<|aq fun _ z=>aq fun _ AC=>?_
 have A9:=(eA E).1
 have J7:=(eA E).2
 have Eq:=(d_ A9).1
 have FS:=(d_ A9).2
 have EQ:=(eh Eq).2.head
 unfold eZ at EQ
 refine aw<|rP 1 [] (mc 2 U mn) ?_
 refine cX (zQ j kA kC az cA cC bA bC slA slC drA drC ha heA heC faA faC prA prC hin asm) (bo [7,8,9,10,11,12,13,14,15,16]) U fun Fn CC=>?_
 obtain ⟨b,In,J2⟩:=Fn
 try dsimp only
 have r:=CC
 try dsimp only at r
 refine rP 1 [] mn ?_
 have J8:(fF j).length=j.Race.av.length:=x5
 obtain ⟨row,H⟩:=aC (fF j) ((h).toNat) I
 obtain ⟨rowa,W⟩:=aC b ((h).toNat) I
 have s:(List.zipWith tw (fF j) b)[(h).toNat]? =some (tw row rowa):=cv H W
 refine rS (IA ((h).toNat) U (aB (n:=(fF j).length) 0 U (lO r)) BA dc I I)<|rS (gD ((h).toNat) 0 (vS rowa.1 row.length rowa.2) U bU (aB (n:=(fF j).length) 0 U (lO r)) s U dc U)<|rP 1 [] mn ?_
 have IR:row.length≤1000000:=uc E _ (by rw [jz E]; exact aM H)
 refine rS (CL (Bt row rowa.1 rowa.2 i asm) (aD (show fY _ (rd rowa.1 row.length 1 (row.map iC)).holds from (fun w hw=>(dR 1 U yX) w hw _ (a_ H W (by simp [LV]))))<|aL) U)<|rP 1 [] mn ?_
 refine RK AC<|ck U (aX fun X=>?_) (aW fun X=>?_)
 ·refine WS fun _ AK=>rS (SX (bp (xs:=[]) (cs:=(cY.cells (cY.mk (cm.mk (bL.mk (bE.mk none 0 0)) 0 (bE.mk none 0 0) (bE.mk none 0 0) 0 0 0) (bE.mk none 0 0) (bE.mk none 0 0) 0 (bE.mk none 0 0)))) U U (bq Gg U)) U U)<|G1 U jE U<|rP 1 [] mn ?_
  refine RK AK<|ar ?_
  refine LX hQ (false,8,none,0,none,0,[],none,0,none,0,none,0,none,0,[]) [] [0] (mc 5 U mn) U (by rfl) U ?_ ?_
  ·rfl
  ·exact qF<|sT (FF (h:=h) (i:=i) (d:=d) E ⟨I,I⟩ H X)
 refine WK z<|WS fun _ AO=>rP 1 [] mn ?_
 refine rS (LP (cY.cells (vJ j.Race kA kC cA cC bA bC slA slC drA drC heA heC)) 7 U bU U U U)<|cX (JR j.Race kA kC az cA cC bA bC slA slC drA drC ha heA heC asm) (bo [9,10,11,12,13,14,15,16]) U fun GE Ci=>?_
 obtain ⟨J,O,K,P,Z,L,R,M,S,N,T,F,G,AB⟩:=GE
 try dsimp only
 obtain ⟨⟨Y,p⟩,D⟩:=Ci
 try dsimp only at Y p D
 have H1:=D.1
 refine AL U pB fun Je=>eN U jE U<|RK AO<|WS fun _ A0=>rP 3 [] (mc 15 U mn) ?_
 refine cX (BD d.aY.aa sgA sgC hsl) (bo [28]) U fun GT If=>?_
 obtain ⟨B,C⟩:=GT
 try dsimp only
 refine rP 2 [] mn ?_
 refine g5 (vs:=[(vS B d.aY.aa.length C)]) (cs':=(aG.cells (aG.mk d.Out d.cJ d.Time (iN d.aY B C)))) (C':=[_,_,_,_,_,_,_,_,_,_,_,_,_,_,_,_,(cz b3 43 (aG.cells (aG.mk d.Out d.cJ d.Time (iN d.aY B C)))),_,_,_,_,_,_,_,_,_,_,_,_,_]) 16 U U U Sx U U U U U U U<|RK A0<|aq fun _ A1=>?_
 obtain ⟨ht,AA⟩:=aC j.Race.av ((h).toNat) I
 obtain ⟨A,V⟩:=aC AB ((h).toNat) (by have:=D.1; omega)
 have A8:(List.zipWith bW j.Race.av AB)[(h).toNat]? =some (bW ht A):=cv AA V
 have Fd:=D.2 _ _ _ AA V
 have J5:=(FS.ek ht (aM AA)).1
 refine QM 9 AA V U U ?_
 try dsimp only
 refine cW cg 8 kr<|kv 3 [] (mc 4 U mn) U<|dS (IA ((h).toNat) U (aB (n:=j.Race.av.length) 11 U (gr D.1)) j8 dc I I)<|dS (gD ((h).toNat) 0 (vS A.1.1 ht.length A.1.2) U bU (aB (n:=j.Race.av.length) 11 U (gr D.1)) A8 U dc U)<|dP 2 [] (mc 18 U mn) ?_
 obtain ⟨d0,A6⟩:=aC ht ((i).toNat) I
 obtain ⟨Do,g⟩:=aC A.2 ((i).toNat) I
 have A7:(List.zipWith ak.cells ht A.2)[(i).toNat]? =some (ak.cells d0 Do):=cv A6 g
 refine dS (IA ((i).toNat) U (aB (n:=ht.length) 0 U (q_ Fd)) mM dc I I)<|cx<|gu (k:=(i).toNat) (o:=0) (vs:=(aG.cells (aG.mk d.Out d.cJ d.Time (iN d.aY B C)))) (es':=(List.zipWith ak.cells (ht.set (i).toNat d) (A.2.set (i).toNat (B,C)))) (C':=[(own A.1.1 A.1.2 43 7 (List.zipWith ak.cells (ht.set (i).toNat d) (A.2.set (i).toNat (B,C)))),_,_,_,_,_,_,_,_,_,_,_,_,_,_,_,_,_,_,_,_,_,_,_,_,_,_,_,_,_,_,_]) 0 U U U Ef U U U U A7 U dc (by exact xQ (c:=ak.cells) (m:=d) (a:=(B,C))) U<|RK A1<|aq fun _ A2=>aq fun _ A3=>QC (d':=d) (b':=(B,C)) 1 3 A6 g U U ?_
 refine N4 (h':=(ht.set (i).toNat d)) (a':=(A.1,(A.2.set (i).toNat (B,C)))) 2 0 1 I (by have:=D.1; omega) U U ?_
 rw [← qq AA,show List.zipWith bW j.Race.av AB=List.zipWith bW (g9 j.Race.av h i d) (AB.set (h).toNat (A.1,(A.2.set (i).toNat (B,C)))) from by rw [qq AA]; exact (HF AA V (by rw [List.length_set])).symm]
 replace D:=QT (d:=d) (i:=i) (x:=(B,C)) D AA V
 rw [show bE.mk F j.Race.av.length G=bE.mk F ((g9 j.Race.av h i d).length) G from by rw [pz]]
 have B3:iF (jS j.Race h i d) _ _:=B9.put Y p D hsl
 refine aw<|rP 1 [] (mc 1 U mn) ?_
 refine rS (CL (yb (jS j.Race h i d) J O Z K P L R M S N T (AB.set (h).toNat (A.1,(A.2.set (i).toNat (B,C)))) F G (by exact B3)) (dM 17 U U<|aD (aB (n:=j.Race.ao.aO.length) 2 U (by (rw [List.length_map]; rfl)))<|aD (aB (n:=j.Race.ao.aj.length) 3 U (iO Y))<|aD (dR 4 U jL)<|aD (aB (n:=j.Race.ao.ab.length) 5 U (by (rw [List.length_map]; rfl)))<|aD (aB (n:=j.Race.aV.length) 6 U (by (rw [List.length_map]; rfl)))<|aD (aB (n:=j.Race.bV.length) 7 U (by (rw [List.length_map]; rfl)))<|aD (aB (n:=(g9 j.Race.av h i d).length) 8 U (gr D.1))<|aD (jO 0 U D)<|aL) U) ?_
 refine rP 1 [] mn ?_
 refine RK A3<|ck U (aX fun l=>?_) (aW fun l=>?_)
 ·refine WS fun _ A4=>rS (SX (bp (xs:=[]) (cs:=(cY.cells (cY.mk (cm.mk (bL.mk (bE.mk none 0 0)) 0 (bE.mk none 0 0) (bE.mk none 0 0) 0 0 0) (bE.mk none 0 0) (bE.mk none 0 0) 0 (bE.mk none 0 0)))) U U (bq Gg U)) U U)<|g5 (vs:=(cY.cells (cY.mk (cm.mk (bL.mk (bE.mk none 0 0)) 0 (bE.mk none 0 0) (bE.mk none 0 0) 0 0 0) (bE.mk none 0 0) (bE.mk none 0 0) 0 (bE.mk none 0 0)))) (cs':=(cY.cells (cY.mk (cm.mk (bL.mk (bE.mk none 0 0)) 0 (bE.mk none 0 0) (bE.mk none 0 0) 0 0 0) (bE.mk none 0 0) (bE.mk none 0 0) 0 (bE.mk none 0 0)))) (C':=[_,_,_,_,_,_,_,_,_,_,_,_,_,_,(cz b4 32 (cY.cells (cY.mk (cm.mk (bL.mk (bE.mk none 0 0)) 0 (bE.mk none 0 0) (bE.mk none 0 0) 0 0 0) (bE.mk none 0 0) (bE.mk none 0 0) 0 (bE.mk none 0 0)))),_,_,_,_,_,_,_,_,_,_,_,_,_,_]) 14 U U U jE U U U U U U U<|rP 1 [] mn ?_
  refine RK A4<|ar ?_
  refine LX hQ (false,60,none,0,none,0,[],none,0,none,0,none,0,none,0,[]) [] [0] (mc 14 U mn) U (by rfl) U ?_ ?_
  ·rfl
  ·exact qF<|sT (zz (h:=h) (i:=i) (d:=d) E ⟨I,I⟩ H X l)
 refine WK A2<|WS fun _ A5=>eV 1 [] (mc 1 U mn) U<|g5 (vs:=(cY.cells (cY.mk (cm.mk (bL.mk (bE.mk J j.Race.ao.aO.length O)) j.Race.ao.h_ (bE.mk K j.Race.ao.aj.length P) (bE.mk L j.Race.ao.ab.length R) j.Race.ao.cf j.Race.ao.fJ j.Race.ao.dC) (bE.mk M j.Race.aV.length S) (bE.mk N j.Race.bV.length T) j.Race.j9 (bE.mk F ((g9 j.Race.av h i d).length) G)))) (cs':=(cY.cells (cY.mk (cm.mk (bL.mk (bE.mk J j.Race.ao.aO.length O)) j.Race.ao.h_ (bE.mk K j.Race.ao.aj.length P) (bE.mk L j.Race.ao.ab.length R) j.Race.ao.cf j.Race.ao.fJ j.Race.ao.dC) (bE.mk M j.Race.aV.length S) (bE.mk N j.Race.bV.length T) j.Race.j9 (bE.mk F ((g9 j.Race.av h i d).length) G)))) (C':=[_,_,_,_,_,_,_,_,_,_,_,_,_,_,(cz b4 32 (cY.cells (cY.mk (cm.mk (bL.mk (bE.mk J j.Race.ao.aO.length O)) j.Race.ao.h_ (bE.mk K j.Race.ao.aj.length P) (bE.mk L j.Race.ao.ab.length R) j.Race.ao.cf j.Race.ao.fJ j.Race.ao.dC) (bE.mk M j.Race.aV.length S) (bE.mk N j.Race.bV.length T) j.Race.j9 (bE.mk F ((g9 j.Race.av h i d).length) G)))),_,_,_,_,_,_,_,_,_,_,_,_,_,_]) 14 U U U jE U U U U U U U<|rP 1 [] mn ?_
 refine RK A5<|ar ?_
 refine LX hQ (true,0,J,O,K,P,Z,L,R,M,S,N,T,F,G,(AB.set (h).toNat (A.1,(A.2.set (i).toNat (B,C))))) [2,3,4,5,6,7,8,0] [0] (mc 14 U mn) U (by (show List.all _ _=true; simp only [cond_true,il,List.all_nil,qm,xy,Bool.and_true]; rfl)) U ?_ ?_
 ·rfl
 ·exact ⟨fun _=>⟨Av E ⟨I,I⟩ H X l,⟨Y,p⟩,D⟩,Pj⟩
theorem nv (j:cS) (kA:OA) (kC:Nat) (az:List RA) (cA:OA) (cC:Nat) (bA:OA) (bC:Nat) (slA:OA) (slC:Nat) (drA:OA) (drC:Nat) (ha:List cD) (heA:OA) (heC:Nat) (faA:OA) (faC:Nat) (prA:OA) (prC:Nat) (h i:Int) (d:ak) (sgA:OA) (sgC:Nat) (hin:gX j az ha) (hsl:d.aY.aa.length≤1000000) (hok:(lF j h i d)=0):
 nG Tryz.prog 18 [(vA (gh.cells (nt j kA kC cA cC bA bC slA slC drA drC heA heC faA faC prA prC))),(vI h),(vI i),(vA (aG.cells (aG.mk d.Out d.cJ d.Time (iN d.aY sgA sgC))))] [(rd gd 3 2 fr),(rd kA j.Race.ao.aO.length 9 (j.Race.ao.aO.map au.cells)),(rd cA j.Race.ao.aj.length 2 (List.zipWith ax.cells j.Race.ao.aj az)),(dE (bg ax.e_ j.Race.ao.aj az)),(rd bA j.Race.ao.ab.length 4 (j.Race.ao.ab.map bK.cells)),(rd slA j.Race.aV.length 1 (j.Race.aV.map iC)),(rd drA j.Race.bV.length 1 (j.Race.bV.map iC)),(rd heA j.Race.av.length 1 (List.zipWith bW j.Race.av ha)),(dE (bg er j.Race.av ha)),(rd faA j.aS.length 4 (j.aS.map aZ.cells)),(rd prA j.aJ.length 5 (j.aJ.map br.cells)),(rd sgA d.aY.aa.length 2 (d.aY.aa.map aF.cells))] (fun (x:(OA)×Nat×(OA)×Nat×(List RA)×(OA)×Nat×(OA)×Nat×(OA)×Nat×(OA)×Nat×(List cD))=>(vT [(vA (cY.cells (cY.mk (cm.mk (bL.mk (bE.mk x.1 j.Race.ao.aO.length x.2.1)) j.Race.ao.h_ (bE.mk x.2.2.1 j.Race.ao.aj.length x.2.2.2.1) (bE.mk x.2.2.2.2.2.1 j.Race.ao.ab.length x.2.2.2.2.2.2.1) j.Race.ao.cf j.Race.ao.fJ j.Race.ao.dC) (bE.mk x.2.2.2.2.2.2.2.1 j.Race.aV.length x.2.2.2.2.2.2.2.2.1) (bE.mk x.2.2.2.2.2.2.2.2.2.1 j.Race.bV.length x.2.2.2.2.2.2.2.2.2.2.1) j.Race.j9 (bE.mk x.2.2.2.2.2.2.2.2.2.2.2.1 ((g9 j.Race.av h i d).length) x.2.2.2.2.2.2.2.2.2.2.2.2.1)))),(vI 0)])) (fun (x:(OA)×Nat×(OA)×Nat×(List RA)×(OA)×Nat×(OA)×Nat×(OA)×Nat×(OA)×Nat×(List cD))=>((lF j h i d)=0∧(x.2.2.2.2.1.length=j.Race.ao.aj.length∧qE j.Race.ao.aj x.2.2.2.2.1)∧sQ (g9 j.Race.av h i d) x.2.2.2.2.2.2.2.2.2.2.2.2.2)) (fun (x:(OA)×Nat×(OA)×Nat×(List RA)×(OA)×Nat×(OA)×Nat×(OA)×Nat×(OA)×Nat×(List cD))=>[(own x.1 x.2.1 128 9 (j.Race.ao.aO.map au.cells)),(own x.2.2.1 x.2.2.2.1 133 2 (List.zipWith ax.cells j.Race.ao.aj x.2.2.2.2.1)),(bM (bg ax.owns j.Race.ao.aj x.2.2.2.2.1)),(own x.2.2.2.2.2.1 x.2.2.2.2.2.2.1 137 4 (j.Race.ao.ab.map bK.cells)),(own x.2.2.2.2.2.2.2.1 x.2.2.2.2.2.2.2.2.1 3 1 (j.Race.aV.map iC)),(own x.2.2.2.2.2.2.2.2.2.1 x.2.2.2.2.2.2.2.2.2.2.1 3 1 (j.Race.bV.map iC)),(own x.2.2.2.2.2.2.2.2.2.2.2.1 x.2.2.2.2.2.2.2.2.2.2.2.2.1 75 1 (List.zipWith bW (g9 j.Race.av h i d) x.2.2.2.2.2.2.2.2.2.2.2.2.2)),(bM (bg jF (g9 j.Race.av h i d) x.2.2.2.2.2.2.2.2.2.2.2.2.2))]):=by
 exact MF (ql j kA kC az cA cC bA bC slA slC drA drC ha heA heC faA faC prA prC h i d sgA sgC hin hsl) (fun x q=>q.2 hok)
end
section
open Go.RowKit
theorem yC (j:cS) (kA:OA) (kC:Nat) (az:List RA) (cA:OA) (cC:Nat) (bA:OA) (bC:Nat) (slA:OA) (slC:Nat) (drA:OA) (drC:Nat) (ha:List cD) (heA:OA) (heC:Nat) (faA:OA) (faC:Nat) (prA:OA) (prC:Nat) (ek jT:Int) (d:ak) (sgA:OA) (sgC:Nat) (hraw:sB j az ha) (h1b:0≤ek∧ek≤255) (h2b:0≤jT∧jT≤255) (hdr:d.aY.aa.length≤9223372036854775807):
 dB Tryz.prog 4 [(vA (gh.cells (nt j kA kC cA cC bA bC slA slC drA drC heA heC faA faC prA prC))),(Value.int .u8 ek),(Value.int .u8 jT),(vA (aG.cells (aG.mk d.Out d.cJ d.Time (iN d.aY sgA sgC))))] [(rd gd 3 2 fr),(rd kA j.Race.ao.aO.length 9 (j.Race.ao.aO.map au.cells)),(rd cA j.Race.ao.aj.length 2 (List.zipWith ax.cells j.Race.ao.aj az)),(dE (bg ax.e_ j.Race.ao.aj az)),(rd bA j.Race.ao.ab.length 4 (j.Race.ao.ab.map bK.cells)),(rd slA j.Race.aV.length 1 (j.Race.aV.map iC)),(rd drA j.Race.bV.length 1 (j.Race.bV.map iC)),(rd heA j.Race.av.length 1 (List.zipWith bW j.Race.av ha)),(dE (bg er j.Race.av ha)),(rd faA j.aS.length 4 (j.aS.map aZ.cells)),(rd prA j.aJ.length 5 (j.aJ.map br.cells)),(rd sgA d.aY.aa.length 2 (d.aY.aa.map aF.cells))] (vB true):=by
 refine bJ kr Tryz.func4 U U fun w0 Q hQ hN=>?_
 try dsimp only
 refine WS fun _ Z2=>eJ U fun b2=>eJ U fun b3=>bI 1 U<|RK Z2<|WS fun _ Z5=>rS (CL IP (bo [2]) U)<|bI 1 U<|RK Z5<|aq fun _ Z6=>WS fun _ W9=>eV 1 [] (mc 1 U mn) U<|rS (CL (IV j kA kC az cA cC bA bC slA slC drA drC ha heA heC faA faC prA prC hraw) (bo [3,4,5,6,7,8,9,10,11,12]) U)<|rP 2 [] mn ?_
 refine bT (t:=30) U (aX fun L=>?_) (aW fun L=>?_)
 ·refine bI 10 U<|RK W9<|aN U<|WS fun _ Z7=>rP 2 [] mn ?_
  refine RK Z7<|ar<|Q1 hQ U U U ?_
  rfl
 refine rP 7 [] (mc 0 U mn) ?_
 refine bT (t:=37) U (aT fun Z1=>?_) (aU fun Z1=>?_)
 ·refine bI 3 U<|RK W9<|aN U<|WS fun _ Z8=>rP 2 [] mn ?_
  refine RK Z8<|ar<|Q1 hQ U U U ?_
  rfl
 refine rP 3 [] mn ?_
 refine RK W9<|cq U<|WK Z6<|aq fun _ Z9=>cW cg 16 kr ?_
 have R5:=hraw.small L.1
 have A7:=R5.race
 have ad:=R5.race.line
 have bG:=R5.race.g8
 have bN:=R5.race.has
 have a9:=R5.race.g7
 have a6:=R5.nf
 have a8:=R5.np
 have ZD:=(eA L.2).1
 have YS:=(eA L.2).2
 have ac:=(d_ ZD).1
 have T0:=(d_ ZD).2
 have Z_:=(eh ac).2.head
 unfold eZ at Z_
 have be:=T0.num
 have bd:=T0.nh
 have bc:=YS.nf
 have bh:=YS.np
 have bB:=YS.tn
 have WA:d.aY.aa.length≤1000000:=by omega
 have To:=(Fa L.1).1
 refine kR 1 U<|dS (SX (oG (m:=ek) U U HU qn (lE (by first|assumption|omega))) U U)<|kv 4 [] (mc 1 U mn) U<|dS (BI U (Im I I))<|kR 1 U<|dS (SX (oG (m:=jT) U U HU qn (lE (by first|assumption|omega))) U U)<|kv 4 [] (mc 1 U mn) U<|dS (BI U (Im I I))<|dP 2 [] mn ?_
 refine cx<|RK Z9<|aq fun _ VT=>?_
 obtain ⟨h,hq,hb⟩: ∃ q:Int,(ek % (j.Race.av.length:Int))=q∧0≤q∧q≤(j.Race.av.length:Int)-1:=⟨_,rfl,by have:=OM ek (j.Race.av.length:Int) I I; omega⟩; rw [hq]; obtain ⟨i,hi,ZB⟩: ∃ q:Int,(jT % (j.Race.aV.length:Int))=q∧mD j.Race q:=⟨_,rfl,by unfold mD; have:=OM jT (j.Race.aV.length:Int) I I; omega⟩; rw [hi]; have R6:(0≤h∧h≤(j.Race.av.length:Int)-1)∧mD j.Race i:=⟨hb,ZB⟩; have ZC:=ZB; unfold mD at ZC; obtain ⟨row,S2⟩:=Lc L.2 hb; obtain ⟨bi,S1,d0,V_⟩:=Mz T0 R6; rcases DL (d:=d) L.2 R6 S2 with ⟨hm,hx,R7⟩|⟨hm,hx,R7⟩|⟨hm,R7⟩
 rotate_left 1
 ·try dsimp only
  refine aw<|rP 1 [] (mc 1 U mn) ?_
  refine cX (sE j kA kC az cA cC bA bC slA slC drA drC ha heA heC faA faC prA prC asm) (bo [2,3,4,5,6,7,8,9,10,11,12]) U fun ZK YU=>?_
  obtain ⟨J3,Ya,Yg⟩:=ZK
  try dsimp only
  have FQ:=YU
  try dsimp only at FQ
  refine bI 5 U<|RK VT<|WS fun _ Wu=>rP 4 [0,1] (mc 3 U (mc 2 U mn)) ?_
  refine cX (ql j kA kC az cA cC bA bC slA slC drA drC ha heA heC faA faC prA prC h i d sgA sgC asm asm) (bo [4,5,6,7,8,9,10,11,12,13,14,15]) U fun ZL V8=>?_
  obtain ⟨YY,Zz,ZU,Zm,ZX,Zp,Zk,ZZ,Zr,Zb,Zt,Zd,Zv,Zf,Zx,ae⟩:=ZL
  cases YY
  rotate_left 1
  ·obtain ⟨A,⟨D,E⟩,B⟩:=V8.1 rfl
   try dsimp only [cond_true,cond_false,List.cons_append,List.nil_append]
   exact absurd (A.symm.trans R7) dc
  obtain ⟨Li,he⟩:=V8.2 rfl
  try dsimp only at Li he
  subst Li
  try dsimp only [cond_true,cond_false,List.cons_append,List.nil_append]
  refine bI 3 U<|AL U pB fun WC=>eN U jE U<|rP 1 [] mn ?_
  refine RK Wu<|aq fun _ Wv=>aq fun _ Ww=>?_
  have ZA:=he
  refine aw<|rP 3 [] mn ?_
  refine bT (t:=71) U (aX fun LT=>?_) (aW fun LT=>?_)
  ·exact absurd L.2 LT
  refine rP 8 [] (mc 4 U mn) ?_
  refine RK Ww<|ck U (aX fun VC=>?_) (aW fun VC=>?_)
  ·exact absurd (sN L.2) I
  refine WK Wv<|aq fun _ Wx=>WS fun _ Wy=>rP 2 [] mn ?_
  have WT:=sN L.2
  obtain ⟨J,H⟩:=aC (dD j) ((h).toNat) I
  obtain ⟨row2a,hrow2a⟩:=aC J3 ((h).toNat) I
  have hrow2m:(List.zipWith tw (dD j) J3)[(h).toNat]? =some (tw J row2a):=cv H hrow2a
  refine rS (IA ((h).toNat) U (aB (n:=(dD j).length) 1 U (lO FQ)) BA dc I I)<|rS (gD ((h).toNat) 0 (vS row2a.1 J.length row2a.2) U bU (aB (n:=(dD j).length) 1 U (lO FQ)) hrow2m U dc U) ?_
  obtain rfl:J=row:=Option.some.inj (H.symm.trans S2)
  refine bI 1 U<|rS (CL (Dm J row2a.1 row2a.2 i (by exact uc L.2 _ (aM H))) (aD (show fY _ (rd row2a.1 J.length 1 (J.map iC)).holds from (fun w hw=>(dR 2 U yX) w hw _ (a_ H hrow2a (by simp [LV]))))<|aL) U)<|rP 1 [] mn ?_
  refine RK Wy<|ck U (aX fun La=>?_) (aW fun La=>?_)
  ·exact absurd hm La
  refine WK Wx<|aq fun _ Wz=>CD cg [12,13,14,15,16,17,18] [0,1,2,3,4,5,6,7,8,9,10,11,12,13,14,15,16] U U U<|eS U (LW 4 U bU U U)<|eS U (MV U)<|eS U (MV U)<|eS U (FA 0 U eU U)<|eS U (FA 10 U eU U)<|eS U (L1 (vS heA j.Race.av.length heC) 4 U bU U U)<|eS U (MV U) ?_
  obtain ⟨K,C⟩:=aC j.Race.av ((h).toNat) I
  obtain ⟨ht1a,hht1a⟩:=aC ha ((h).toNat) I
  have hht1m:(List.zipWith bW j.Race.av ha)[(h).toNat]? =some (bW K ht1a):=cv C hht1a
  refine eS U (IA ((h).toNat) U (ay 12 U) j8 dc I I)<|eS U (gD ((h).toNat) 0 (vS ht1a.1.1 K.length ht1a.1.2) U bU (ay 12 U) hht1m U dc U)<|eS U (MV U) ?_
  have WU:=(A7.ek _ _ _ C hht1a).ly
  have WV:=(T0.ek _ (aM C)).1
  have Lk:=(A7.ek _ _ _ C hht1a).sig
  obtain ⟨M,f⟩:=aC K ((i).toNat) I
  obtain ⟨d1a,hd1a⟩:=aC ht1a.2 ((i).toNat) I
  have hd1m:(List.zipWith ak.cells K ht1a.2)[(i).toNat]? =some (ak.cells M d1a):=cv f hd1a
  refine eS U (IA ((i).toNat) U (show fY _ (rd ht1a.1.1 K.length 7 (List.zipWith ak.cells K ht1a.2)).holds from (bX 13 U (a_ C hht1a bY))) mM dc I I)<|eS U (jD ((i).toNat) 0 (aG.cells (aG.mk M.Out M.cJ M.Time (cL.mk M.aY.Start M.aY.gj (bE.mk d1a.1 M.aY.aa.length d1a.2)))) U bU (show fY _ (rd ht1a.1.1 K.length 7 (List.zipWith ak.cells K ht1a.2)).holds from (bX 13 U (a_ C hht1a bY))) hd1m U dc U U)<|eo U ?_
  refine Jc (V:=OA×Nat×OA×Nat×List RA×OA×Nat×OA×Nat×OA×Nat×OA×Nat×List cD×Nat) (fun (B9,C0,CC,C1,AC,Ci,C2,Ck,C3,Cp,Di,Cx,Dj,A9,Kw)=>((lF j h i M)=0∧(AC.length=j.Race.ao.aj.length∧qE j.Race.ao.aj AC)∧sQ (g9 j.Race.av h i M) A9)) (fun (B9,C0,CC,C1,AC,Ci,C2,Ck,C3,Cp,Di,Cx,Dj,A9,Kw)=>[(4,(vP b2)),(7,(vP b3)),(9,(vB true)),(10,(vI h)),(11,(vI i)),(14,(vP WC)),(15,(vI (lF j h i d))),(16,(vP Kw)),(107,(vI 0))]) (fun (B9,C0,CC,C1,AC,Ci,C2,Ck,C3,Cp,Di,Cx,Dj,A9,Kw)=>[(cz Kw 32 (cY.cells (cY.mk (cm.mk (bL.mk (bE.mk B9 j.Race.ao.aO.length C0)) j.Race.ao.h_ (bE.mk CC j.Race.ao.aj.length C1) (bE.mk Ci j.Race.ao.ab.length C2) j.Race.ao.cf j.Race.ao.fJ j.Race.ao.dC) (bE.mk Ck j.Race.aV.length C3) (bE.mk Cp j.Race.bV.length Di) j.Race.j9 (bE.mk Cx ((g9 j.Race.av h i M).length) Dj)))),(own B9 C0 128 9 (j.Race.ao.aO.map au.cells)),(own CC C1 133 2 (List.zipWith ax.cells j.Race.ao.aj AC)),(bM (bg ax.owns j.Race.ao.aj AC)),(own Ci C2 137 4 (j.Race.ao.ab.map bK.cells)),(own Ck C3 3 1 (j.Race.aV.map iC)),(own Cp Di 3 1 (j.Race.bV.map iC)),(own Cx Dj 75 1 (List.zipWith bW (g9 j.Race.av h i M) A9)),(bM (bg jF (g9 j.Race.av h i M) A9)),(cz WC 32 (cY.cells (cY.mk (cm.mk (bL.mk (bE.mk none 0 0)) 0 (bE.mk none 0 0) (bE.mk none 0 0) 0 0 0) (bE.mk none 0 0) (bE.mk none 0 0) 0 (bE.mk none 0 0)))),(own Ya Yg 29 1 (List.zipWith tw (dD j) J3)),(bM (bg F1 (dD j) J3)),(cz b3 43 (aG.cells (aG.mk d.Out d.cJ d.Time (iN d.aY sgA sgC)))),(cz b2 36 (gh.cells (nt j kA kC cA cC bA bC slA slC drA drC heA heC faA faC prA prC))),(rd gd 3 2 fr).ro,(rd kA j.Race.ao.aO.length 9 (j.Race.ao.aO.map au.cells)).ro,(rd cA j.Race.ao.aj.length 2 (List.zipWith ax.cells j.Race.ao.aj az)).ro,(dE (bg ax.e_ j.Race.ao.aj az)).ro,(rd bA j.Race.ao.ab.length 4 (j.Race.ao.ab.map bK.cells)).ro,(rd slA j.Race.aV.length 1 (j.Race.aV.map iC)).ro,(rd drA j.Race.bV.length 1 (j.Race.bV.map iC)).ro,(rd heA j.Race.av.length 1 (List.zipWith bW j.Race.av ha)).ro,(dE (bg er j.Race.av ha)).ro,(rd faA j.aS.length 4 (j.aS.map aZ.cells)).ro,(rd prA j.aJ.length 5 (j.aJ.map br.cells)).ro,(rd sgA d.aY.aa.length 2 (d.aY.aa.map aF.cells)).ro]) 1 [18] (fun hJ=>?_) ?_
  ·refine fp [12,16] kr (cK ?_<|cK ?_<|gV)
   rotate_left 1
   ·refine dT U U U fun T282 YD=>AL U pB fun T8=>RD YD 1 U<|N1 12<|dT U U U fun T284 YE=>cX (nv j kA kC az cA cC bA bC slA slC drA drC ha heA heC faA faC prA prC h i M d1a.1 d1a.2 asm (by exact Lk _ (aM f)) (by exact sL L.2 R6 H hm C f)) (ld [6,7,8,9,10,11,12,13,14,15,16]<|aD (show fY _ (rd d1a.1 M.aY.aa.length 2 (M.aY.aa.map aF.cells)).holds from (bX 14 U (a_ C hht1a (dh _ (a_ f hd1a (by simp [ak.e_]))))))<|aL) U fun ZN YW=>?_
    obtain ⟨L2,Pn,MI,QS,Pi,M2,Qr,Ne,Q0,Or,R1,O8,R3,R9⟩:=ZN
    try dsimp only
    obtain ⟨A,⟨D,E⟩,B⟩:=YW
    refine RD YE 9 U<|N1 13<|dT U U U fun T301 YF=>rS (MV U)<|RD YF 9 U<|fp [14,15] kr (cK ?_<|cK ?_<|gV)
    rotate_left 1
    ·refine dT U U U fun T307 YL=>rS (EX U)<|RD YL 9 U<|N1 14<|dT U U U fun T308 YM=>rS (EX U)<|RD YM 9 U<|N1 17<|dT U U U fun T309 YN=>Q6 U jE U<|RD YN 9 U ?_
     exact gZ hJ (L2,Pn,MI,QS,Pi,M2,Qr,Ne,Q0,Or,R1,O8,R3,R9,T8) ⟨A,⟨D,E⟩,B⟩ [8,0,1,2,3,4,5,6,7,9,10,11,12,13,14,15,16,17,18,19,20,21,22,23,24,25] U U U
    refine dT U U U fun T302 YG=>rS (EX U)<|RD YG 9 U<|fp [15,17] kr (cK ?_<|cK ?_<|gV)
    rotate_left 1
    ·refine dT U U U fun T305 YJ=>Q6 U jE U<|RD YJ 9 U<|N1 15<|dT U U U fun T306 YK=>rS (EX U)<|RD YK 9 U ?_
     exact gZ hJ (L2,Pn,MI,QS,Pi,M2,Qr,Ne,Q0,Or,R1,O8,R3,R9,T8) ⟨A,⟨D,E⟩,B⟩ [8,0,1,2,3,4,5,6,7,9,10,11,12,13,14,15,16,17,18,19,20,21,22,23,24,25] U U U
    refine dT U U U fun T303 YH=>rS (EX U)<|RD YH 9 U<|N1 17<|dT U U U fun T304 YI=>Q6 U jE U<|RD YI 9 U ?_
    exact gZ hJ (L2,Pn,MI,QS,Pi,M2,Qr,Ne,Q0,Or,R1,O8,R3,R9,T8) ⟨A,⟨D,E⟩,B⟩ [8,0,1,2,3,4,5,6,7,9,10,11,12,13,14,15,16,17,18,19,20,21,22,23,24,25] U U U
   refine dT U U U fun T223 Xd=>cX (nv j kA kC az cA cC bA bC slA slC drA drC ha heA heC faA faC prA prC h i M d1a.1 d1a.2 asm (by exact Lk _ (aM f)) (by exact sL L.2 R6 H hm C f)) (ld [5,6,7,8,9,10,11,12,13,14,15]<|aD (show fY _ (rd d1a.1 M.aY.aa.length 2 (M.aY.aa.map aF.cells)).holds from (bX 13 U (a_ C hht1a (dh _ (a_ f hd1a (by simp [ak.e_]))))))<|aL) U fun ZM YV=>?_
   obtain ⟨N,W,O,X,AA,P,Y,R,Z,S,a,T,b,c⟩:=ZM
   try dsimp only
   obtain ⟨A,⟨D,E⟩,B⟩:=YV
   refine RD Xd 8 U<|fp [13,16] kr (cK ?_<|cK ?_<|gV)
   rotate_left 1
   ·refine dT U U U fun T271 X4=>AL U pB fun T7=>RD X4 9 U<|N1 13<|dT U U U fun T273 X5=>rS (MV U)<|RD X5 9 U<|fp [14,15] kr (cK ?_<|cK ?_<|gV)
    rotate_left 1
    ·refine dT U U U fun T279 YA=>rS (EX U)<|RD YA 9 U<|N1 14<|dT U U U fun T280 YB=>rS (EX U)<|RD YB 9 U<|N1 17<|dT U U U fun T281 YC=>eN U jE U<|RD YC 9 U ?_
     exact gZ hJ (N,W,O,X,AA,P,Y,R,Z,S,a,T,b,c,T7) ⟨A,⟨D,E⟩,B⟩ [0,1,2,3,4,5,6,7,8,9,10,11,12,13,14,15,16,17,18,19,20,21,22,23,24,25] U U U
    refine dT U U U fun T274 X6=>rS (EX U)<|RD X6 9 U<|fp [15,17] kr (cK ?_<|cK ?_<|gV)
    rotate_left 1
    ·refine dT U U U fun T277 X9=>eN U jE U<|RD X9 9 U<|N1 15<|dT U U U fun T278 X_=>rS (EX U)<|RD X_ 9 U ?_
     exact gZ hJ (N,W,O,X,AA,P,Y,R,Z,S,a,T,b,c,T7) ⟨A,⟨D,E⟩,B⟩ [0,1,2,3,4,5,6,7,8,9,10,11,12,13,14,15,16,17,18,19,20,21,22,23,24,25] U U U
    refine dT U U U fun T275 X7=>rS (EX U)<|RD X7 9 U<|N1 17<|dT U U U fun T276 X8=>eN U jE U<|RD X8 9 U ?_
    exact gZ hJ (N,W,O,X,AA,P,Y,R,Z,S,a,T,b,c,T7) ⟨A,⟨D,E⟩,B⟩ [0,1,2,3,4,5,6,7,8,9,10,11,12,13,14,15,16,17,18,19,20,21,22,23,24,25] U U U
   refine dT U U U fun T240 Xe=>rS (MV U)<|RD Xe 8 U<|fp [14,15,16] kr (cK ?_<|cK ?_<|cK ?_<|gV)
   rotate_left 1
   ·refine dT U U U fun T252 Xo=>rS (EX U)<|RD Xo 8 U<|fp [14,16] kr (cK ?_<|cK ?_<|gV)
    rotate_left 1
    ·refine dT U U U fun T257 Xs=>AL U pB fun Yd=>RD Xs 9 U<|N1 14<|dT U U U fun T259 Xt=>rS (EX U)<|RD Xt 9 U<|N1 17<|dT U U U fun T260 Xu=>eN U jE U<|RD Xu 9 U ?_
     exact gZ hJ (N,W,O,X,AA,P,Y,R,Z,S,a,T,b,c,Yd) ⟨A,⟨D,E⟩,B⟩ [0,1,2,3,4,5,6,7,8,9,10,11,12,13,14,15,16,17,18,19,20,21,22,23,24,25] U U U
    refine dT U U U fun T253 Xp=>rS (EX U)<|RD Xp 8 U<|N1 16<|dT U U U fun T254 Xq=>AL U pB fun Yc=>RD Xq 9 U<|N1 17<|dT U U U fun T256 Xr=>eN U jE U<|RD Xr 9 U ?_
    exact gZ hJ (N,W,O,X,AA,P,Y,R,Z,S,a,T,b,c,Yc) ⟨A,⟨D,E⟩,B⟩ [0,1,2,3,4,5,6,7,8,9,10,11,12,13,14,15,16,17,18,19,20,21,22,23,24,25] U U U
   ·refine dT U U U fun T261 Xv=>AL U pB fun T6=>RD Xv 9 U<|fp [14,15] kr (cK ?_<|cK ?_<|gV)
    rotate_left 1
    ·refine dT U U U fun T268 X1=>rS (EX U)<|RD X1 9 U<|N1 14<|dT U U U fun T269 X2=>rS (EX U)<|RD X2 9 U<|N1 17<|dT U U U fun T270 X3=>eN U jE U<|RD X3 9 U ?_
     exact gZ hJ (N,W,O,X,AA,P,Y,R,Z,S,a,T,b,c,T6) ⟨A,⟨D,E⟩,B⟩ [0,1,2,3,4,5,6,7,8,9,10,11,12,13,14,15,16,17,18,19,20,21,22,23,24,25] U U U
    refine dT U U U fun T263 Xw=>rS (EX U)<|RD Xw 9 U<|fp [15,17] kr (cK ?_<|cK ?_<|gV)
    rotate_left 1
    ·refine dT U U U fun T266 Xz=>eN U jE U<|RD Xz 9 U<|N1 15<|dT U U U fun T267 X0=>rS (EX U)<|RD X0 9 U ?_
     exact gZ hJ (N,W,O,X,AA,P,Y,R,Z,S,a,T,b,c,T6) ⟨A,⟨D,E⟩,B⟩ [0,1,2,3,4,5,6,7,8,9,10,11,12,13,14,15,16,17,18,19,20,21,22,23,24,25] U U U
    refine dT U U U fun T264 Xx=>rS (EX U)<|RD Xx 9 U<|N1 17<|dT U U U fun T265 Xy=>eN U jE U<|RD Xy 9 U ?_
    exact gZ hJ (N,W,O,X,AA,P,Y,R,Z,S,a,T,b,c,T6) ⟨A,⟨D,E⟩,B⟩ [0,1,2,3,4,5,6,7,8,9,10,11,12,13,14,15,16,17,18,19,20,21,22,23,24,25] U U U
   refine dT U U U fun T241 Xf=>rS (EX U)<|RD Xf 8 U<|fp [15,16] kr (cK ?_<|cK ?_<|gV)
   ·refine dT U U U fun T242 Xg=>rS (EX U)<|RD Xg 8 U<|N1 16<|dT U U U fun T243 Xh=>AL U pB fun Yb=>RD Xh 9 U<|N1 17<|dT U U U fun T245 Xi=>eN U jE U<|RD Xi 9 U ?_
    exact gZ hJ (N,W,O,X,AA,P,Y,R,Z,S,a,T,b,c,Yb) ⟨A,⟨D,E⟩,B⟩ [0,1,2,3,4,5,6,7,8,9,10,11,12,13,14,15,16,17,18,19,20,21,22,23,24,25] U U U
   refine dT U U U fun T246 Xj=>AL U pB fun WD=>RD Xj 9 U<|fp [15,17] kr (cK ?_<|cK ?_<|gV)
   rotate_left 1
   ·refine dT U U U fun T250 Xm=>eN U jE U<|RD Xm 9 U<|N1 15<|dT U U U fun T251 Xn=>rS (EX U)<|RD Xn 9 U ?_
    exact gZ hJ (N,W,O,X,AA,P,Y,R,Z,S,a,T,b,c,WD) ⟨A,⟨D,E⟩,B⟩ [0,1,2,3,4,5,6,7,8,9,10,11,12,13,14,15,16,17,18,19,20,21,22,23,24,25] U U U
   refine dT U U U fun T248 Xk=>rS (EX U)<|RD Xk 9 U<|N1 17<|dT U U U fun T249 Xl=>eN U jE U<|RD Xl 9 U ?_
   exact gZ hJ (N,W,O,X,AA,P,Y,R,Z,S,a,T,b,c,WD) ⟨A,⟨D,E⟩,B⟩ [0,1,2,3,4,5,6,7,8,9,10,11,12,13,14,15,16,17,18,19,20,21,22,23,24,25] U U U
  rintro ⟨B9,C0,CC,C1,AC,Ci,C2,Ck,C3,Cp,Di,Cx,Dj,A9,Kw⟩ ⟨A,⟨D,E⟩,B⟩
  try dsimp only
  refine Tl U fun T310 YO=>rS (AG U)<|RD YO 9 U<|kG<|KK Wz<|aq fun _ W0=>aq fun _ W1=>?_
  try dsimp only at A D E B
  rw [ET C f] at B ⊢
  have V4:=A7.I0 D E B
  refine aw<|bI 1 U<|rS (SX (fM (r:= .bool false) U U U rm) U U)<|eV 3 [] (mc 0 U mn) U<|rS (LP (cY.cells (vJ j.Race kA kC cA cC bA bC slA slC drA drC heA heC)) 13 U bU U U U)<|rS (CL (ye j.Race B9 C0 AC CC C1 Ci C2 Ck C3 Cp Di A9 Cx Dj j.Race kA kC az cA cC bA bC slA slC drA drC ha heA heC (by exact V4) (by exact A7) (by exact To) (by exact To)) (aD (aB (n:=j.Race.ao.aO.length) 1 U sm)<|aD (aB (n:=j.Race.ao.aj.length) 2 U (iO D))<|aD (dR 3 U jL)<|aD (aB (n:=j.Race.ao.ab.length) 4 U sm)<|aD (aB (n:=j.Race.aV.length) 5 U sm)<|aD (aB (n:=j.Race.bV.length) 6 U sm)<|aD (aB (n:=j.Race.av.length) 7 U (gr B.1))<|aD (jO 8 U B)<|dM 15 U U<|dM 16 U U<|dM 17 U U<|dM 18 U U<|dM 19 U U<|dM 20 U U<|dM 21 U U<|dM 22 U U<|aL) U)<|rP 2 [] mn ?_
  refine RK W1<|ck U (aX fun LE=>?_) (aW fun LE=>?_)
  ·exact absurd U LE
  refine WK W0<|aq fun _ Z3=>WS fun _ W2=>rP 2 [] mn ?_
  refine RK W2<|bR U (aW fun WE=>?_) (aX fun WE=>?_)
  ·exact absurd WE ZA
  refine WS fun _ W3=>rP 6 [] mn ?_
  refine RK W3<|ar<|Q1 hQ U U U ?_
  exact cB (cO R7)
 ·try dsimp only
  refine aw<|rP 1 [] (mc 1 U mn) ?_
  refine cX (sE j kA kC az cA cC bA bC slA slC drA drC ha heA heC faA faC prA prC asm) (bo [2,3,4,5,6,7,8,9,10,11,12]) U fun ZO YX=>?_
  obtain ⟨UN,an,a3⟩:=ZO
  try dsimp only
  have FQ:=YX
  try dsimp only at FQ
  refine bI 5 U<|RK VT<|WS fun _ W4=>rP 4 [0,1] (mc 3 U (mc 2 U mn)) ?_
  refine cX (ql j kA kC az cA cC bA bC slA slC drA drC ha heA heC faA faC prA prC h i d sgA sgC asm asm) (bo [4,5,6,7,8,9,10,11,12,13,14,15]) U fun ZP V9=>?_
  obtain ⟨YZ,Z0,ZV,Zn,ZY,Zq,Zl,Za,Zs,Zc,Zu,Ze,Zw,Zg,Zy,af⟩:=ZP
  cases YZ
  rotate_left 1
  ·obtain ⟨A,⟨D,E⟩,B⟩:=V9.1 rfl
   try dsimp only [cond_true,cond_false,List.cons_append,List.nil_append]
   exact absurd (A.symm.trans R7) dc
  obtain ⟨Li,he⟩:=V9.2 rfl
  try dsimp only at Li he
  subst Li
  try dsimp only [cond_true,cond_false,List.cons_append,List.nil_append]
  refine bI 3 U<|AL U pB fun a2=>eN U jE U<|rP 1 [] mn ?_
  refine RK W4<|aq fun _ W5=>aq fun _ W6=>?_
  have ZA:=he
  refine aw<|rP 3 [] mn ?_
  refine bT (t:=71) U (aX fun LT=>?_) (aW fun LT=>?_)
  ·exact absurd L.2 LT
  refine rP 8 [] (mc 4 U mn) ?_
  refine RK W6<|ck U (aX fun VC=>?_) (aW fun VC=>?_)
  ·exact absurd (sN L.2) I
  refine WK W5<|aq fun _ Z4=>WS fun _ W7=>rP 2 [] mn ?_
  have WT:=sN L.2
  obtain ⟨J,H⟩:=aC (dD j) ((h).toNat) I
  obtain ⟨row2a,hrow2a⟩:=aC UN ((h).toNat) I
  have hrow2m:(List.zipWith tw (dD j) UN)[(h).toNat]? =some (tw J row2a):=cv H hrow2a
  refine rS (IA ((h).toNat) U (aB (n:=(dD j).length) 1 U (lO FQ)) BA dc I I)<|rS (gD ((h).toNat) 0 (vS row2a.1 J.length row2a.2) U bU (aB (n:=(dD j).length) 1 U (lO FQ)) hrow2m U dc U) ?_
  obtain rfl:J=row:=Option.some.inj (H.symm.trans S2)
  refine bI 1 U<|rS (CL (Dm J row2a.1 row2a.2 i (by exact uc L.2 _ (aM H))) (aD (show fY _ (rd row2a.1 J.length 1 (J.map iC)).holds from (fun w hw=>(dR 2 U yX) w hw _ (a_ H hrow2a (by simp [LV]))))<|aL) U)<|rP 1 [] mn ?_
  refine RK W7<|bR U (aW fun La=>?_) (aX fun La=>?_)
  ·exact absurd La hm
  refine WS fun _ W8=>rP 6 [] mn ?_
  refine RK W8<|ar<|Q1 hQ U U U ?_
  exact cB (cO R7)
 try dsimp only
 refine aw<|rP 1 [] (mc 1 U mn) ?_
 refine cX (sE j kA kC az cA cC bA bC slA slC drA drC ha heA heC faA faC prA prC asm) (bo [2,3,4,5,6,7,8,9,10,11,12]) U fun ah ZG=>?_
 obtain ⟨Sz,ZW,Zo⟩:=ah
 try dsimp only
 have FQ:=ZG
 try dsimp only at FQ
 refine bI 5 U<|RK VT<|WS fun _ Yj=>rP 4 [0,1] (mc 3 U (mc 2 U mn)) ?_
 refine cX (ql j kA kC az cA cC bA bC slA slC drA drC ha heA heC faA faC prA prC h i d sgA sgC asm asm) (bo [4,5,6,7,8,9,10,11,12,13,14,15]) U fun al WW=>?_
 obtain ⟨ZI,a4,J5,K4,J6,K5,K0,J7,K8,J8,LA,J9,LD,Kl,ST,g⟩:=al
 cases ZI
 ·obtain ⟨Li,he⟩:=WW.2 rfl
  try dsimp only at Li he
  subst Li
  try dsimp only [cond_true,cond_false,List.cons_append,List.nil_append]
  exact absurd R7 he
 obtain ⟨A,⟨D,E⟩,B⟩:=WW.1 rfl
 try dsimp only [cond_true,cond_false,List.cons_append,List.nil_append]
 refine bI 3 U<|AL U pB fun Ye=>eN U jE U<|rP 1 [] mn ?_
 refine RK Yj<|aq fun _ Yk=>aq fun _ Ym=>?_
 try dsimp only at A D E B
 have Vw:=D
 have a5:=E
 have V3:=B
 have A6:iF (jS j.Race h i d) _ _:=A7.put D E B WA
 have Lo:=(d_ hx).2
 have ZF:(g9 j.Race.av h i d).length=j.Race.av.length:=pz
 have a7:=V3.1
 refine Ij 7 U (KA (gr V3.1)) U<|Ij 8 U (Hd V3) U<|aw<|rP 3 [] mn ?_
 refine bT (t:=71) U (aX fun LT=>?_) (aW fun LT=>?_)
 ·exact absurd L.2 LT
 refine rP 8 [] (mc 12 U mn) ?_
 refine RK Ym<|ck U (aX fun VC=>?_) (aW fun VC=>?_)
 ·exact absurd (sN L.2) I
 refine WK Yk<|aq fun _ Yn=>WS fun _ Yo=>rP 2 [] mn ?_
 have WT:=sN L.2
 obtain ⟨J,H⟩:=aC (dD j) ((h).toNat) I
 obtain ⟨row2a,hrow2a⟩:=aC Sz ((h).toNat) I
 have hrow2m:(List.zipWith tw (dD j) Sz)[(h).toNat]? =some (tw J row2a):=cv H hrow2a
 refine rS (IA ((h).toNat) U (aB (n:=(dD j).length) 9 U (lO FQ)) BA dc I I)<|rS (gD ((h).toNat) 0 (vS row2a.1 J.length row2a.2) U bU (aB (n:=(dD j).length) 9 U (lO FQ)) hrow2m U dc U) ?_
 obtain rfl:J=row:=Option.some.inj (H.symm.trans S2)
 refine bI 1 U<|rS (CL (Dm J row2a.1 row2a.2 i (by exact uc L.2 _ (aM H))) (aD (show fY _ (rd row2a.1 J.length 1 (J.map iC)).holds from (fun w hw=>(dR 10 U yX) w hw _ (a_ H hrow2a (by simp [LV]))))<|aL) U)<|rP 1 [] mn ?_
 refine RK Yo<|ck U (aX fun La=>?_) (aW fun La=>?_)
 ·exact absurd hm La
 refine WK Yn<|aq fun _ Yp=>CD cg [12,13,14,15,16,17,18] [0,1,2,3,4,5,6,7,8,9,10,11,12,13,14,15,16,17,18,19,20,21,22,23,24] U U U<|eS U (LW 12 U bU U U)<|eS U (MV U)<|eS U (MV U)<|eS U (FA 0 U eU U)<|eS U (FA 10 U eU U)<|eS U (L1 (vS heA j.Race.av.length heC) 12 U bU U U)<|eS U (MV U) ?_
 obtain ⟨K,C⟩:=aC j.Race.av ((h).toNat) I
 obtain ⟨ht1a,hht1a⟩:=aC ha ((h).toNat) I
 have hht1m:(List.zipWith bW j.Race.av ha)[(h).toNat]? =some (bW K ht1a):=cv C hht1a
 refine eS U (IA ((h).toNat) U (ay 20 U) j8 dc I I)<|eS U (gD ((h).toNat) 0 (vS ht1a.1.1 K.length ht1a.1.2) U bU (ay 20 U) hht1m U dc U)<|eS U (MV U) ?_
 have WU:=(A7.ek _ _ _ C hht1a).ly
 have WV:=(T0.ek _ (aM C)).1
 have Lk:=(A7.ek _ _ _ C hht1a).sig
 obtain ⟨M,f⟩:=aC K ((i).toNat) I
 obtain ⟨d1a,hd1a⟩:=aC ht1a.2 ((i).toNat) I
 have hd1m:(List.zipWith ak.cells K ht1a.2)[(i).toNat]? =some (ak.cells M d1a):=cv f hd1a
 refine eS U (IA ((i).toNat) U (show fY _ (rd ht1a.1.1 K.length 7 (List.zipWith ak.cells K ht1a.2)).holds from (bX 21 U (a_ C hht1a bY))) mM dc I I)<|eS U (jD ((i).toNat) 0 (aG.cells (aG.mk M.Out M.cJ M.Time (cL.mk M.aY.Start M.aY.gj (bE.mk d1a.1 M.aY.aa.length d1a.2)))) U bU (show fY _ (rd ht1a.1.1 K.length 7 (List.zipWith ak.cells K ht1a.2)).holds from (bX 21 U (a_ C hht1a bY))) hd1m U dc U U)<|eo U ?_
 refine Jc (V:=OA×Nat×OA×Nat×List RA×OA×Nat×OA×Nat×OA×Nat×OA×Nat×List cD×Nat) (fun (Fn,IO,GE,IR,Do,GT,Id,Go,If,Hi,In,H1,Je,Fd,T9)=>((lF j h i M)=0∧(Do.length=j.Race.ao.aj.length∧qE j.Race.ao.aj Do)∧sQ (g9 j.Race.av h i M) Fd)) (fun (Fn,IO,GE,IR,Do,GT,Id,Go,If,Hi,In,H1,Je,Fd,T9)=>[(4,(vP b2)),(7,(vP b3)),(9,(vB true)),(10,(vI h)),(11,(vI i)),(14,(vP Ye)),(15,(vI 0)),(16,(vP T9)),(107,(vI 0))]) (fun (Fn,IO,GE,IR,Do,GT,Id,Go,If,Hi,In,H1,Je,Fd,T9)=>[(cz T9 32 (cY.cells (cY.mk (cm.mk (bL.mk (bE.mk Fn j.Race.ao.aO.length IO)) j.Race.ao.h_ (bE.mk GE j.Race.ao.aj.length IR) (bE.mk GT j.Race.ao.ab.length Id) j.Race.ao.cf j.Race.ao.fJ j.Race.ao.dC) (bE.mk Go j.Race.aV.length If) (bE.mk Hi j.Race.bV.length In) j.Race.j9 (bE.mk H1 ((g9 j.Race.av h i M).length) Je)))),(own Fn IO 128 9 (j.Race.ao.aO.map au.cells)),(own GE IR 133 2 (List.zipWith ax.cells j.Race.ao.aj Do)),(bM (bg ax.owns j.Race.ao.aj Do)),(own GT Id 137 4 (j.Race.ao.ab.map bK.cells)),(own Go If 3 1 (j.Race.aV.map iC)),(own Hi In 3 1 (j.Race.bV.map iC)),(own H1 Je 75 1 (List.zipWith bW (g9 j.Race.av h i M) Fd)),(bM (bg jF (g9 j.Race.av h i M) Fd)),(cz Ye 32 (cY.cells (cY.mk (cm.mk (bL.mk (bE.mk J5 j.Race.ao.aO.length K4)) j.Race.ao.h_ (bE.mk J6 j.Race.ao.aj.length K5) (bE.mk J7 j.Race.ao.ab.length K8) j.Race.ao.cf j.Race.ao.fJ j.Race.ao.dC) (bE.mk J8 j.Race.aV.length LA) (bE.mk J9 j.Race.bV.length LD) j.Race.j9 (bE.mk Kl ((g9 j.Race.av h i d).length) ST)))),(own J5 K4 128 9 (j.Race.ao.aO.map au.cells)),(own J6 K5 133 2 (List.zipWith ax.cells j.Race.ao.aj K0)),(bM (bg ax.owns j.Race.ao.aj K0)),(own J7 K8 137 4 (j.Race.ao.ab.map bK.cells)),(own J8 LA 3 1 (j.Race.aV.map iC)),(own J9 LD 3 1 (j.Race.bV.map iC)),(rd Kl ((g9 j.Race.av h i d).length) 1 (List.zipWith bW (g9 j.Race.av h i d) g)),(dE (bg er (g9 j.Race.av h i d) g)),(own ZW Zo 29 1 (List.zipWith tw (dD j) Sz)),(bM (bg F1 (dD j) Sz)),(cz b3 43 (aG.cells (aG.mk d.Out d.cJ d.Time (iN d.aY sgA sgC)))),(cz b2 36 (gh.cells (nt j kA kC cA cC bA bC slA slC drA drC heA heC faA faC prA prC))),(rd gd 3 2 fr).ro,(rd kA j.Race.ao.aO.length 9 (j.Race.ao.aO.map au.cells)).ro,(rd cA j.Race.ao.aj.length 2 (List.zipWith ax.cells j.Race.ao.aj az)).ro,(dE (bg ax.e_ j.Race.ao.aj az)).ro,(rd bA j.Race.ao.ab.length 4 (j.Race.ao.ab.map bK.cells)).ro,(rd slA j.Race.aV.length 1 (j.Race.aV.map iC)).ro,(rd drA j.Race.bV.length 1 (j.Race.bV.map iC)).ro,(rd heA j.Race.av.length 1 (List.zipWith bW j.Race.av ha)).ro,(dE (bg er j.Race.av ha)).ro,(rd faA j.aS.length 4 (j.aS.map aZ.cells)).ro,(rd prA j.aJ.length 5 (j.aJ.map br.cells)).ro,(rd sgA d.aY.aa.length 2 (d.aY.aa.map aF.cells)).ro]) 1 [18] (fun hJ=>?_) ?_
 ·refine fp [12,16] kr (cK ?_<|cK ?_<|gV)
  rotate_left 1
  ·refine dT U U U fun T117 XQ=>AL U pB fun T5=>RD XQ 1 U<|N1 12<|dT U U U fun T119 XR=>cX (nv j kA kC az cA cC bA bC slA slC drA drC ha heA heC faA faC prA prC h i M d1a.1 d1a.2 asm (by exact Lk _ (aM f)) (by exact sL L.2 R6 H hm C f)) (ld [14,15,16,17,18,19,20,21,22,23,24]<|aD (show fY _ (rd d1a.1 M.aY.aa.length 2 (M.aY.aa.map aF.cells)).holds from (bX 22 U (a_ C hht1a (dh _ (a_ f hd1a (by simp [ak.e_]))))))<|aL) U fun ZJ YT=>?_
   obtain ⟨L0,Pl,L3,Ps,PP,MQ,Qh,NE,Qx,Op,R0,Os,R2,R8⟩:=ZJ
   try dsimp only
   obtain ⟨A,⟨D,E⟩,B⟩:=YT
   refine RD XR 9 U<|N1 13<|dT U U U fun T136 XS=>rS (MV U)<|RD XS 9 U<|fp [14,15] kr (cK ?_<|cK ?_<|gV)
   rotate_left 1
   ·refine dT U U U fun T142 XZ=>rS (EX U)<|RD XZ 9 U<|N1 14<|dT U U U fun T143 Xa=>rS (EX U)<|RD Xa 9 U<|N1 17<|dT U U U fun T144 Xb=>Q6 U jE U<|RD Xb 9 U ?_
    exact gZ hJ (L0,Pl,L3,Ps,PP,MQ,Qh,NE,Qx,Op,R0,Os,R2,R8,T5) ⟨A,⟨D,E⟩,B⟩ [8,0,1,2,3,4,5,6,7,9,10,11,12,13,14,15,16,17,18,19,20,21,22,23,24,25,26,27,28,29,30,31,32,33] U U U
   refine dT U U U fun T137 XU=>rS (EX U)<|RD XU 9 U<|fp [15,17] kr (cK ?_<|cK ?_<|gV)
   rotate_left 1
   ·refine dT U U U fun T140 XX=>Q6 U jE U<|RD XX 9 U<|N1 15<|dT U U U fun T141 XY=>rS (EX U)<|RD XY 9 U ?_
    exact gZ hJ (L0,Pl,L3,Ps,PP,MQ,Qh,NE,Qx,Op,R0,Os,R2,R8,T5) ⟨A,⟨D,E⟩,B⟩ [8,0,1,2,3,4,5,6,7,9,10,11,12,13,14,15,16,17,18,19,20,21,22,23,24,25,26,27,28,29,30,31,32,33] U U U
   refine dT U U U fun T138 XV=>rS (EX U)<|RD XV 9 U<|N1 17<|dT U U U fun T139 XW=>Q6 U jE U<|RD XW 9 U ?_
   exact gZ hJ (L0,Pl,L3,Ps,PP,MQ,Qh,NE,Qx,Op,R0,Os,R2,R8,T5) ⟨A,⟨D,E⟩,B⟩ [8,0,1,2,3,4,5,6,7,9,10,11,12,13,14,15,16,17,18,19,20,21,22,23,24,25,26,27,28,29,30,31,32,33] U U U
  refine dT U U U fun T58 Yq=>cX (nv j kA kC az cA cC bA bC slA slC drA drC ha heA heC faA faC prA prC h i M d1a.1 d1a.2 asm (by exact Lk _ (aM f)) (by exact sL L.2 R6 H hm C f)) (ld [13,14,15,16,17,18,19,20,21,22,23]<|aD (show fY _ (rd d1a.1 M.aY.aa.length 2 (M.aY.aa.map aF.cells)).holds from (bX 21 U (a_ C hht1a (dh _ (a_ f hd1a (by simp [ak.e_]))))))<|aL) U fun am ZH=>?_
  obtain ⟨l,AO,o,A0,AK,p,A1,s,A2,u,A3,v,A4,A8⟩:=am
  try dsimp only
  obtain ⟨A,⟨D,E⟩,B⟩:=ZH
  refine RD Yq 8 U<|fp [13,16] kr (cK ?_<|cK ?_<|gV)
  rotate_left 1
  ·refine dT U U U fun T106 XG=>AL U pB fun T4=>RD XG 9 U<|N1 13<|dT U U U fun T108 XH=>rS (MV U)<|RD XH 9 U<|fp [14,15] kr (cK ?_<|cK ?_<|gV)
   rotate_left 1
   ·refine dT U U U fun T114 XN=>rS (EX U)<|RD XN 9 U<|N1 14<|dT U U U fun T115 XO=>rS (EX U)<|RD XO 9 U<|N1 17<|dT U U U fun T116 XP=>eN U jE U<|RD XP 9 U ?_
    exact gZ hJ (l,AO,o,A0,AK,p,A1,s,A2,u,A3,v,A4,A8,T4) ⟨A,⟨D,E⟩,B⟩ [0,1,2,3,4,5,6,7,8,9,10,11,12,13,14,15,16,17,18,19,20,21,22,23,24,25,26,27,28,29,30,31,32,33] U U U
   refine dT U U U fun T109 XI=>rS (EX U)<|RD XI 9 U<|fp [15,17] kr (cK ?_<|cK ?_<|gV)
   rotate_left 1
   ·refine dT U U U fun T112 XL=>eN U jE U<|RD XL 9 U<|N1 15<|dT U U U fun T113 XM=>rS (EX U)<|RD XM 9 U ?_
    exact gZ hJ (l,AO,o,A0,AK,p,A1,s,A2,u,A3,v,A4,A8,T4) ⟨A,⟨D,E⟩,B⟩ [0,1,2,3,4,5,6,7,8,9,10,11,12,13,14,15,16,17,18,19,20,21,22,23,24,25,26,27,28,29,30,31,32,33] U U U
   refine dT U U U fun T110 XJ=>rS (EX U)<|RD XJ 9 U<|N1 17<|dT U U U fun T111 XK=>eN U jE U<|RD XK 9 U ?_
   exact gZ hJ (l,AO,o,A0,AK,p,A1,s,A2,u,A3,v,A4,A8,T4) ⟨A,⟨D,E⟩,B⟩ [0,1,2,3,4,5,6,7,8,9,10,11,12,13,14,15,16,17,18,19,20,21,22,23,24,25,26,27,28,29,30,31,32,33] U U U
  refine dT U U U fun T75 Yr=>rS (MV U)<|RD Yr 8 U<|fp [14,15,16] kr (cK ?_<|cK ?_<|cK ?_<|gV)
  ·refine dT U U U fun T76 Ys=>rS (EX U)<|RD Ys 8 U<|fp [15,16] kr (cK ?_<|cK ?_<|gV)
   ·refine dT U U U fun T77 Yt=>rS (EX U)<|RD Yt 8 U<|N1 16<|dT U U U fun T78 Yu=>AL U pB fun Zh=>RD Yu 9 U<|N1 17<|dT U U U fun T80 Yv=>eN U jE U<|RD Yv 9 U ?_
    exact gZ hJ (l,AO,o,A0,AK,p,A1,s,A2,u,A3,v,A4,A8,Zh) ⟨A,⟨D,E⟩,B⟩ [0,1,2,3,4,5,6,7,8,9,10,11,12,13,14,15,16,17,18,19,20,21,22,23,24,25,26,27,28,29,30,31,32,33] U U U
   refine dT U U U fun T81 Yw=>AL U pB fun Yf=>RD Yw 9 U<|fp [15,17] kr (cK ?_<|cK ?_<|gV)
   rotate_left 1
   ·refine dT U U U fun T85 Yz=>eN U jE U<|RD Yz 9 U<|N1 15<|dT U U U fun T86 Y0=>rS (EX U)<|RD Y0 9 U ?_
    exact gZ hJ (l,AO,o,A0,AK,p,A1,s,A2,u,A3,v,A4,A8,Yf) ⟨A,⟨D,E⟩,B⟩ [0,1,2,3,4,5,6,7,8,9,10,11,12,13,14,15,16,17,18,19,20,21,22,23,24,25,26,27,28,29,30,31,32,33] U U U
   refine dT U U U fun T83 Yx=>rS (EX U)<|RD Yx 9 U<|N1 17<|dT U U U fun T84 Yy=>eN U jE U<|RD Yy 9 U ?_
   exact gZ hJ (l,AO,o,A0,AK,p,A1,s,A2,u,A3,v,A4,A8,Yf) ⟨A,⟨D,E⟩,B⟩ [0,1,2,3,4,5,6,7,8,9,10,11,12,13,14,15,16,17,18,19,20,21,22,23,24,25,26,27,28,29,30,31,32,33] U U U
  ·refine dT U U U fun T87 Y1=>rS (EX U)<|RD Y1 8 U<|fp [14,16] kr (cK ?_<|cK ?_<|gV)
   rotate_left 1
   ·refine dT U U U fun T92 Y5=>AL U pB fun Zj=>RD Y5 9 U<|N1 14<|dT U U U fun T94 Y6=>rS (EX U)<|RD Y6 9 U<|N1 17<|dT U U U fun T95 Y7=>eN U jE U<|RD Y7 9 U ?_
    exact gZ hJ (l,AO,o,A0,AK,p,A1,s,A2,u,A3,v,A4,A8,Zj) ⟨A,⟨D,E⟩,B⟩ [0,1,2,3,4,5,6,7,8,9,10,11,12,13,14,15,16,17,18,19,20,21,22,23,24,25,26,27,28,29,30,31,32,33] U U U
   refine dT U U U fun T88 Y2=>rS (EX U)<|RD Y2 8 U<|N1 16<|dT U U U fun T89 Y3=>AL U pB fun Zi=>RD Y3 9 U<|N1 17<|dT U U U fun T91 Y4=>eN U jE U<|RD Y4 9 U ?_
   exact gZ hJ (l,AO,o,A0,AK,p,A1,s,A2,u,A3,v,A4,A8,Zi) ⟨A,⟨D,E⟩,B⟩ [0,1,2,3,4,5,6,7,8,9,10,11,12,13,14,15,16,17,18,19,20,21,22,23,24,25,26,27,28,29,30,31,32,33] U U U
  refine dT U U U fun T96 Y8=>AL U pB fun WX=>RD Y8 9 U<|fp [14,15] kr (cK ?_<|cK ?_<|gV)
  rotate_left 1
  ·refine dT U U U fun T103 XC=>rS (EX U)<|RD XC 9 U<|N1 14<|dT U U U fun T104 XD=>rS (EX U)<|RD XD 9 U<|N1 17<|dT U U U fun T105 XE=>eN U jE U<|RD XE 9 U ?_
   exact gZ hJ (l,AO,o,A0,AK,p,A1,s,A2,u,A3,v,A4,A8,WX) ⟨A,⟨D,E⟩,B⟩ [0,1,2,3,4,5,6,7,8,9,10,11,12,13,14,15,16,17,18,19,20,21,22,23,24,25,26,27,28,29,30,31,32,33] U U U
  refine dT U U U fun T98 Y9=>rS (EX U)<|RD Y9 9 U<|fp [15,17] kr (cK ?_<|cK ?_<|gV)
  ·refine dT U U U fun T99 Y_=>rS (EX U)<|RD Y_ 9 U<|N1 17<|dT U U U fun T100 W_=>eN U jE U<|RD W_ 9 U ?_
   exact gZ hJ (l,AO,o,A0,AK,p,A1,s,A2,u,A3,v,A4,A8,WX) ⟨A,⟨D,E⟩,B⟩ [0,1,2,3,4,5,6,7,8,9,10,11,12,13,14,15,16,17,18,19,20,21,22,23,24,25,26,27,28,29,30,31,32,33] U U U
  refine dT U U U fun T101 XA=>eN U jE U<|RD XA 9 U<|N1 15<|dT U U U fun T102 XB=>rS (EX U)<|RD XB 9 U ?_
  exact gZ hJ (l,AO,o,A0,AK,p,A1,s,A2,u,A3,v,A4,A8,WX) ⟨A,⟨D,E⟩,B⟩ [0,1,2,3,4,5,6,7,8,9,10,11,12,13,14,15,16,17,18,19,20,21,22,23,24,25,26,27,28,29,30,31,32,33] U U U
 rintro ⟨Fn,IO,GE,IR,Do,GT,Id,Go,If,Hi,In,H1,Je,Fd,T9⟩ ⟨A,⟨D,E⟩,B⟩
 try dsimp only
 refine Tl U fun T145 Xc=>rS (AG U)<|RD Xc 9 U<|kG<|KK Yp<|aq fun _ WZ=>aq fun _ Wa=>?_
 try dsimp only at A D E B
 rw [ET C f] at B ⊢
 have V4:=A7.I0 D E B
 refine aw<|bI 1 U<|rS (SX (fM (r:= .bool false) U U U rm) U U)<|eV 3 [] (mc 0 U mn) U<|rS (LP (cY.cells (vJ j.Race kA kC cA cC bA bC slA slC drA drC heA heC)) 21 U bU U U U)<|rS (CL (ye j.Race Fn IO Do GE IR GT Id Go If Hi In Fd H1 Je j.Race kA kC az cA cC bA bC slA slC drA drC ha heA heC (by exact V4) (by exact A7) (by exact To) (by exact To)) (aD (aB (n:=j.Race.ao.aO.length) 1 U sm)<|aD (aB (n:=j.Race.ao.aj.length) 2 U (iO D))<|aD (dR 3 U jL)<|aD (aB (n:=j.Race.ao.ab.length) 4 U sm)<|aD (aB (n:=j.Race.aV.length) 5 U sm)<|aD (aB (n:=j.Race.bV.length) 6 U sm)<|aD (aB (n:=j.Race.av.length) 7 U (gr B.1))<|aD (jO 8 U B)<|dM 23 U U<|dM 24 U U<|dM 25 U U<|dM 26 U U<|dM 27 U U<|dM 28 U U<|dM 29 U U<|dM 30 U U<|aL) U)<|rP 2 [] mn ?_
 refine RK Wa<|ck U (aX fun LE=>?_) (aW fun LE=>?_)
 ·exact absurd U LE
 refine WK WZ<|aq fun _ Wb=>WS fun _ Wc=>bI 1 U<|rS (SX (fM (r:= .bool false) U U U rm) U U)<|RK Wc<|cq U<|WK Wb<|aq fun _ Wd=>WS fun _ We=>rP 1 [] (mc 9 U mn) ?_
 refine rS (CL (yb (jS j.Race h i d) J5 K4 K0 J6 K5 J7 K8 J8 LA J9 LD g Kl ST (by exact A6)) (dM 22 U U<|aD (aB (n:=j.Race.ao.aO.length) 10 U (by (rw [List.length_map]; rfl)))<|aD (aB (n:=j.Race.ao.aj.length) 11 U (iO Vw))<|aD (dR 12 U jL)<|aD (aB (n:=j.Race.ao.ab.length) 13 U (by (rw [List.length_map]; rfl)))<|aD (aB (n:=j.Race.aV.length) 14 U (by (rw [List.length_map]; rfl)))<|aD (aB (n:=j.Race.bV.length) 15 U (by (rw [List.length_map]; rfl)))<|dM 16 U U<|dM 17 U U<|aL) U) ?_
 refine rP 2 [] mn ?_
 refine bT (t:=127) U (aX fun WF=>?_) (aW fun WF=>?_)
 ·exact absurd hx WF
 refine rP 9 [0,1] (mc 9 U (mc 21 U mn)) ?_
 refine RK We<|ck U (aX fun WG=>?_) (aW fun WG=>?_)
 ·exact absurd (congrArg (fun q:Nat=>(q:Int)) ZF) WG
 refine WK Wd<|aq fun _ Wf=>aq fun _ Wg=>Px [9,10,11,12,13,14,15,16,17,20,21,22,23,24,25,26,27,28,29,30,31,32,33] U<|aw<|rP 4 [] (mc 0 U mn) ?_
 refine RK Wg<|aH ?_
 have FS:(0≤(g9 j.Race.av h i d).length):=by exact Nat.zero_le _
 refine bS (ι:={z:Nat // (z≤(g9 j.Race.av h i d).length)}) [4,7,9,10,11,14,138,139] [0,1,2,3,4,5,6,7,8,9,10,11,12,13,14,15,16,17,18,19,20,21,22] U U (fun z=>[(140,(vI (z.1:Int)))]) (fun z=>[]) (fun _=>rfl) (fun _=>rfl) (fun z=>(g9 j.Race.av h i d).length-z.1) ⟨0,FS⟩ (bD U) (aR [0,1,2,3,4,5,6,7,8,9,10,11,12,13,14,15,16,17,18,19,20,21,22]) ?_
 clear FS
 rintro ⟨x,ZS⟩ J154 WY
 try dsimp only
 refine WS fun _ Wh=>rP 1 [] mn ?_
 refine RK Wh<|aq fun _ Wi=>bR U (aU fun Yh=>?_) (aT fun Yh=>?_)
 ·refine bQ<|ag<|ag<|aI<|KK Wf<|WS fun _ Ws=>rP 3 [] (mc 0 U mn) ?_
  refine rS (CL (EE h i (jS j.Race h i d) J5 K4 K0 J6 K5 J7 K8 J8 LA J9 LD g Kl ST (by exact A6)) (dM 11 U U<|aD (aB (n:=j.Race.ao.aO.length) 1 U (by (rw [List.length_map]; rfl)))<|aD (aB (n:=j.Race.ao.aj.length) 2 U (iO Vw))<|aD (dR 3 U jL)<|aD (aB (n:=j.Race.ao.ab.length) 4 U (by (rw [List.length_map]; rfl)))<|aD (aB (n:=j.Race.aV.length) 5 U (by (rw [List.length_map]; rfl)))<|aD (aB (n:=j.Race.bV.length) 6 U (by (rw [List.length_map]; rfl)))<|dM 7 U U<|dM 8 U U<|aL) U) ?_
  refine bI 3 U<|AL U dU fun a1=>eN U cT U<|rP 1 [] mn ?_
  refine RK Ws<|aq fun _ R4=>?_
  have WB:=Ag hx R6 (by rw [S1]; exact V_)
  refine cW cg 44 kr<|dP 5 [] (mc 10 U mn) ?_
  refine gP (t:=228) U (fun EQ=>?_) (fun EQ=>?_)
  ·refine dP 4 [] mn ?_
   refine hP (t:=232) U (aU fun WN=>?_) (aT fun WN=>?_)
   ·exact absurd (WB.1 EQ) WN
   refine dP 26 [] (mc 1 U mn) ?_
   obtain ⟨hu,AB⟩:=aC (g9 j.Race.av h i d) ((h).toNat) I
   obtain ⟨F,G⟩:=aC g ((h).toNat) I
   have B3:(List.zipWith bW (g9 j.Race.av h i d) g)[(h).toNat]? =some (bW hu F):=cv AB G
   refine dS (IA ((h).toNat) U (ay 8 U) j8 dc I I)<|dS (gD ((h).toNat) 0 (vS F.1.1 hu.length F.1.2) U bU (ay 8 U) B3 U dc U) ?_
   have V5:=(A6.ek _ _ _ AB G).ly
   have V6:=ru Lo AB
   refine dP 1 [] mn ?_
   obtain ⟨e,k⟩:=aC hu ((i).toNat) I
   obtain ⟨ea,A5⟩:=aC F.2 ((i).toNat) I
   have Eq:(List.zipWith ak.cells hu F.2)[(i).toNat]? =some (ak.cells e ea):=cv k A5
   refine dS (IA ((i).toNat) U (show fY _ (rd F.1.1 hu.length 7 (List.zipWith ak.cells hu F.2)).holds from (m7 9 U (a_ AB G bY))) mM dc I I)<|dS (jD ((i).toNat) 0 (aG.cells (aG.mk e.Out e.cJ e.Time (cL.mk e.aY.Start e.aY.gj (bE.mk ea.1 e.aY.aa.length ea.2)))) U bU (show fY _ (rd F.1.1 hu.length 7 (List.zipWith ak.cells hu F.2)).holds from (m7 9 U (a_ AB G bY))) Eq U dc U U)<|kv 1 [] (mc 10 U mn) U<|dS (CL (oc e ea.1 ea.2 d sgA sgC (by exact (A6.ek _ _ _ AB G).sig _ (aM k)) (by exact WA)) (aD (show fY _ (rd ea.1 e.aY.aa.length 2 (e.aY.aa.map aF.cells)).holds from (m7 9 U (a_ AB G (dh _ (a_ k A5 (by simp [ak.e_]))))))<|dM 23 U U<|aL) U)<|dP 2 [] mn ?_
   refine cx<|RK R4<|ar<|Q1 hQ U U U ?_
   exact cB (cO (AQ AB k S1 V_))
  refine dP 7 [] (mc 10 U mn) ?_
  refine hP (t:=235) U (fun U1=>?_) (fun U1=>?_)
  ·refine kv 12 [] (mc 10 U mn) U<|dS (CL (KC d.Out d.cJ d.Time (iN d.aY sgA sgC)) (aL) U)<|dP 1 [] mn ?_
   refine hP (t:=249) U (aU fun WQ=>?_) (aT fun WQ=>?_)
   ·exact absurd ⟨EQ,U1⟩ WQ
   refine dP 6 [] mn ?_
   refine hP (t:=255) U (aU fun WR=>?_) (aT fun WR=>?_)
   ·exact absurd (WB.2 EQ).1 WR
   refine dP 3 [] (mc 1 U mn) ?_
   obtain ⟨hu,AB⟩:=aC (g9 j.Race.av h i d) ((h).toNat) I
   obtain ⟨F,G⟩:=aC g ((h).toNat) I
   have B3:(List.zipWith bW (g9 j.Race.av h i d) g)[(h).toNat]? =some (bW hu F):=cv AB G
   refine dS (IA ((h).toNat) U (ay 8 U) j8 dc I I)<|dS (gD ((h).toNat) 0 (vS F.1.1 hu.length F.1.2) U bU (ay 8 U) B3 U dc U) ?_
   have V5:=(A6.ek _ _ _ AB G).ly
   have V6:=ru Lo AB
   refine dP 1 [] mn ?_
   obtain ⟨e,k⟩:=aC hu ((i).toNat) I
   obtain ⟨ea,A5⟩:=aC F.2 ((i).toNat) I
   have Eq:(List.zipWith ak.cells hu F.2)[(i).toNat]? =some (ak.cells e ea):=cv k A5
   refine dS (IA ((i).toNat) U (show fY _ (rd F.1.1 hu.length 7 (List.zipWith ak.cells hu F.2)).holds from (m7 9 U (a_ AB G bY))) mM dc I I)<|dS (jD ((i).toNat) 0 (aG.cells (aG.mk e.Out e.cJ e.Time (cL.mk e.aY.Start e.aY.gj (bE.mk ea.1 e.aY.aa.length ea.2)))) U bU (show fY _ (rd F.1.1 hu.length 7 (List.zipWith ak.cells hu F.2)).holds from (m7 9 U (a_ AB G bY))) Eq U dc U U)<|kv 1 [] (mc 10 U mn) U<|dS (CL (oc e ea.1 ea.2 d sgA sgC (by exact (A6.ek _ _ _ AB G).sig _ (aM k)) (by exact WA)) (aD (show fY _ (rd ea.1 e.aY.aa.length 2 (e.aY.aa.map aF.cells)).holds from (m7 9 U (a_ AB G (dh _ (a_ k A5 (by simp [ak.e_]))))))<|dM 23 U U<|aL) U)<|dP 2 [] mn ?_
   refine cx<|RK R4<|ar<|Q1 hQ U U U ?_
   exact cB (cO (AQ AB k S1 V_))
  refine dP 4 [] mn ?_
  refine hP (t:=239) U (aU fun WO=>?_) (aT fun WO=>?_)
  ·exact absurd (WB.2 EQ).1 WO
  refine kv 2 [] (mc 0 U mn) U<|dS (LP (ai.cells d.Time) 10 U bU U U U)<|dS (BI U (tU _ _ (jA (jS j.Race h i d) h i) d.Time))<|dP 3 [] mn ?_
  refine hP (t:=246) U (aU fun WP=>?_) (aT fun WP=>?_)
  ·exact absurd ((WB.2 EQ).2.trans (Aw ⟨EQ,U1⟩)) WP
  refine dP 12 [] (mc 1 U mn) ?_
  obtain ⟨hu,AB⟩:=aC (g9 j.Race.av h i d) ((h).toNat) I
  obtain ⟨F,G⟩:=aC g ((h).toNat) I
  have B3:(List.zipWith bW (g9 j.Race.av h i d) g)[(h).toNat]? =some (bW hu F):=cv AB G
  refine dS (IA ((h).toNat) U (ay 8 U) j8 dc I I)<|dS (gD ((h).toNat) 0 (vS F.1.1 hu.length F.1.2) U bU (ay 8 U) B3 U dc U) ?_
  have V5:=(A6.ek _ _ _ AB G).ly
  have V6:=ru Lo AB
  refine dP 1 [] mn ?_
  obtain ⟨e,k⟩:=aC hu ((i).toNat) I
  obtain ⟨ea,A5⟩:=aC F.2 ((i).toNat) I
  have Eq:(List.zipWith ak.cells hu F.2)[(i).toNat]? =some (ak.cells e ea):=cv k A5
  refine dS (IA ((i).toNat) U (show fY _ (rd F.1.1 hu.length 7 (List.zipWith ak.cells hu F.2)).holds from (m7 9 U (a_ AB G bY))) mM dc I I)<|dS (jD ((i).toNat) 0 (aG.cells (aG.mk e.Out e.cJ e.Time (cL.mk e.aY.Start e.aY.gj (bE.mk ea.1 e.aY.aa.length ea.2)))) U bU (show fY _ (rd F.1.1 hu.length 7 (List.zipWith ak.cells hu F.2)).holds from (m7 9 U (a_ AB G bY))) Eq U dc U U)<|kv 1 [] (mc 10 U mn) U<|dS (CL (oc e ea.1 ea.2 d sgA sgC (by exact (A6.ek _ _ _ AB G).sig _ (aM k)) (by exact WA)) (aD (show fY _ (rd ea.1 e.aY.aa.length 2 (e.aY.aa.map aF.cells)).holds from (m7 9 U (a_ AB G (dh _ (a_ k A5 (by simp [ak.e_]))))))<|dM 23 U U<|aL) U)<|dP 2 [] mn ?_
  refine cx<|RK R4<|ar<|Q1 hQ U U U ?_
  exact cB (cO (AQ AB k S1 V_))
 refine WK Wi<|aq fun _ Wj=>aH<|WS fun _ Wk=>bI 2 U<|RK Wk<|aq fun _ Wl=>aq fun _ Wm=>cW cg 11 kr<|dP 3 [] (mc 0 U mn) ?_
 obtain ⟨hu,AB⟩:=aC (g9 j.Race.av h i d) x I
 obtain ⟨F,G⟩:=aC g x I
 have B3:(List.zipWith bW (g9 j.Race.av h i d) g)[x]? =some (bW hu F):=cv AB G
 refine dS (IA x U (ay 7 U) j8 dc I I)<|dS (gD x 0 (vS F.1.1 hu.length F.1.2) U bU (ay 7 U) B3 U dc U) ?_
 have V5:=(A6.ek _ _ _ AB G).ly
 refine dP 6 [] (mc 10 U mn) ?_
 refine cx<|RK Wm<|ck U (aX fun WH=>?_) (aW fun WH=>?_)
 ·exact absurd (congrArg (fun q:Nat=>(q:Int)) (ru Lo AB)) WH
 refine WK Wl<|WS fun _ Wn=>eV 3 [] (mc 0 U mn) U<|rS (IA x U (ay 7 U) j8 dc I I)<|rS (gD x 0 (vS F.1.1 hu.length F.1.2) U bU (ay 7 U) B3 U dc U)<|rP 2 [] mn ?_
 refine RK Wn<|aH ?_
 have FS:(0≤hu.length):=by exact Nat.zero_le _
 refine bS (ι:={z:Nat // (z≤hu.length)}) [4,7,9,10,11,14,18,138,139,140,158,159] [0,1,2,3,4,5,6,7,8,9,10,11,12,13,14,15,16,17,18,19,20,21,22] U U (fun z=>[(160,(vI (z.1:Int)))]) (fun z=>[]) (fun _=>rfl) (fun _=>rfl) (fun z=>hu.length-z.1) ⟨0,FS⟩ (bD U) (aR [0,1,2,3,4,5,6,7,8,9,10,11,12,13,14,15,16,17,18,19,20,21,22]) ?_
 clear FS
 rintro ⟨y,ZT⟩ J163 VO
 try dsimp only
 refine WS fun _ Wo=>rP 1 [] mn ?_
 refine RK Wo<|aq fun _ Wp=>bR U (aU fun UV=>?_) (aT fun UV=>?_)
 ·refine bQ<|ag<|ag<|aI<|aP<|KK Wj<|aw<|rP 2 [] mn ?_
  refine aK ?_
  have YQ:(vI (((x+1):Nat):Int))=(vI ((x:Int)+1)):=by exact cI I
  refine bu (WY ⟨(x+1),(by first|omega|(simp only []; omega))⟩ _ _ _ U os (cP 8<|bw U YQ<|dp.nil _) (aR [0,1,2,3,4,5,6,7,8,9,10,11,12,13,14,15,16,17,18,19,20,21,22]))
 refine WK Wp<|aq fun _ Vi=>aH<|WS fun _ Wq=>rP 2 [] mn ?_
 refine RK Wq ?_
 refine nq (ι:={z:Unit // (¬ ((x:Int)=h∧(y:Int)=i))}) [4,7,9,10,11,14,18,19,138,139,140,158,159,160] [0,1,2,3,4,5,6,7,8,9,10,11,12,13,14,15,16,17,18,19,20,21,22] U U (fun z=>[]) (fun z=>[]) (fun _=>rfl) (fun _=>rfl) ?_ fun K169 Vn=>?_
 ·rintro ⟨uu,J2⟩
  try dsimp only
  have ba:=J2
  have ZE:=xx (x:=(x:Int)) (y:=(y:Int)) (eA L.2).1 hx I
  have bb:=J2
  refine WS fun _ J4=>bI 1 U<|rS (LP (cY.cells (vJ j.Race kA kC cA cC bA bC slA slC drA drC heA heC)) 10 U bU U U U)<|bI 2 U<|rS (CL (EE (x:Int) (y:Int) j.Race kA kC az cA cC bA bC slA slC drA drC ha heA heC asm) (bo [11,12,13,14,15,16,17,18,19]) U)<|bI 3 U<|AL U dU fun ap=>eN U cT U<|bI 1 U<|RK J4<|WS fun _ Wr=>rP 3 [] (mc 1 U mn) ?_
  refine rS (CL (EE (x:Int) (y:Int) (jS j.Race h i d) J5 K4 K0 J6 K5 J7 K8 J8 LA J9 LD g Kl ST (by exact A6)) (dM 12 U U<|aD (aB (n:=j.Race.ao.aO.length) 2 U (by (rw [List.length_map]; rfl)))<|aD (aB (n:=j.Race.ao.aj.length) 3 U (iO Vw))<|aD (dR 4 U jL)<|aD (aB (n:=j.Race.ao.ab.length) 5 U (by (rw [List.length_map]; rfl)))<|aD (aB (n:=j.Race.aV.length) 6 U (by (rw [List.length_map]; rfl)))<|aD (aB (n:=j.Race.bV.length) 7 U (by (rw [List.length_map]; rfl)))<|dM 8 U U<|dM 9 U U<|aL) U) ?_
  refine bI 3 U<|AL U dU fun a0=>eN U cT U<|bI 1 U<|RK Wr<|aq fun _ Wt=>cW cg 29 kr<|dP 4 [] mn ?_
  refine gP (t:=189) U (aX fun WI=>?_) (aW fun WI=>?_)
  ·exact absurd ZE.1.symm WI
  refine kv 2 [0,1] (mc 1 U (mc 0 U mn)) U<|dS (BI U (OQ _ _ (jA j.Race (x:Int) (y:Int)) (jA (jS j.Race h i d) (x:Int) (y:Int))))<|dP 2 [] mn ?_
  refine gP (t:=194) U (aX fun WL=>?_) (aW fun WL=>?_)
  ·exact absurd ZE.2.symm WL
  refine kv 3 [] (mc 2 U mn) U<|dS (IA x U (ay 9 U) j8 dc I I)<|dS (gD x 0 (vS F.1.1 hu.length F.1.2) U bU (ay 9 U) B3 U dc U)<|dP 1 [] mn ?_
  obtain ⟨e,k⟩:=aC hu y I
  obtain ⟨ea,A5⟩:=aC F.2 y I
  have Eq:(List.zipWith ak.cells hu F.2)[y]? =some (ak.cells e ea):=cv k A5
  refine dS (IA y U (show fY _ (rd F.1.1 hu.length 7 (List.zipWith ak.cells hu F.2)).holds from (m7 10 U (a_ AB G bY))) mM dc I I)<|dS (jD y 0 (aG.cells (aG.mk e.Out e.cJ e.Time (cL.mk e.aY.Start e.aY.gj (bE.mk ea.1 e.aY.aa.length ea.2)))) U bU (show fY _ (rd F.1.1 hu.length 7 (List.zipWith ak.cells hu F.2)).holds from (m7 10 U (a_ AB G bY))) Eq U dc U U)<|dP 4 [] (mc 12 U mn) ?_
  obtain ⟨K,C⟩:=aC j.Race.av x I
  obtain ⟨ht1a,hht1a⟩:=aC ha x I
  have hht1m:(List.zipWith bW j.Race.av ha)[x]? =some (bW K ht1a):=cv C hht1a
  refine dS (IA x U (ay 20 U) j8 dc I I) ?_
  have WU:=(A7.ek _ _ _ C hht1a).ly
  have WV:=(T0.ek _ (aM C)).1
  have V6:=ru Lo AB
  refine dS (gD x 0 (vS ht1a.1.1 K.length ht1a.1.2) U bU (ay 20 U) hht1m U dc U)<|dP 1 [] mn ?_
  obtain ⟨M,f⟩:=aC K y I
  obtain ⟨d1a,hd1a⟩:=aC ht1a.2 y I
  have hd1m:(List.zipWith ak.cells K ht1a.2)[y]? =some (ak.cells M d1a):=cv f hd1a
  refine dS (IA y U (show fY _ (rd ht1a.1.1 K.length 7 (List.zipWith ak.cells K ht1a.2)).holds from (bX 21 U (a_ C hht1a bY))) mM dc I I)<|dS (jD y 0 (aG.cells (aG.mk M.Out M.cJ M.Time (cL.mk M.aY.Start M.aY.gj (bE.mk d1a.1 M.aY.aa.length d1a.2)))) U bU (show fY _ (rd ht1a.1.1 K.length 7 (List.zipWith ak.cells K ht1a.2)).holds from (bX 21 U (a_ C hht1a bY))) hd1m U dc U U)<|dS (CL (oc e ea.1 ea.2 M d1a.1 d1a.2 (by exact (A6.ek _ _ _ AB G).sig _ (aM k)) (by exact (A7.ek _ _ _ C hht1a).sig _ (aM f))) (aD (show fY _ (rd ea.1 e.aY.aa.length 2 (e.aY.aa.map aF.cells)).holds from (m7 10 U (a_ AB G (dh _ (a_ k A5 (by simp [ak.e_]))))))<|aD (show fY _ (rd d1a.1 M.aY.aa.length 2 (M.aY.aa.map aF.cells)).holds from (bX 21 U (a_ C hht1a (dh _ (a_ f hd1a (by simp [ak.e_]))))))<|aL) U)<|dP 2 [] mn ?_
  refine cx<|RK Wt<|ck U (aX fun WM=>?_) (aW fun WM=>?_)
  ·exact absurd (Ht AB k C f I) WM
  refine cj<|aP<|KK Vi<|aw<|rP 2 [] mn ?_
  refine aK ?_
  have YR:(vI (((y+1):Nat):Int))=(vI ((y:Int)+1)):=by exact cI I
  refine bu (VO ⟨(y+1),(by first|omega|(simp only []; omega))⟩ _ _ _ U os (cP 12<|bw U YR<|dp.nil _) (aR [2,3,4,5,6,7,8,9,10,11,12,13,14,15,16,17,18,19,20,21,22,23,24]))
 refine WS fun _ J4=>rP 4 [] mn ?_
 refine cG (t:=166) U (aU fun UV=>?_) (aT fun UV=>?_)
 ·refine rP 4 [] mn ?_
  refine RK J4<|cq U<|cj ?_
  refine bu (jB (bD U) (aR [0,1,2,3,4,5,6,7,8,9,10,11,12,13,14,15,16,17,18,19,20,21,22]) (Vn ⟨(),I⟩))
 refine rP 4 [] mn ?_
 refine RK J4<|bR U (aU fun Yi=>?_) (aT fun Yi=>?_)
 ·refine cj ?_
  refine bu (jB (bD U) (aR [0,1,2,3,4,5,6,7,8,9,10,11,12,13,14,15,16,17,18,19,20,21,22]) (Vn ⟨(),I⟩))
 refine bQ<|ag<|aI<|KK Vi<|aw<|rP 2 [] mn ?_
 refine aK ?_
 have YP:(vI (((y+1):Nat):Int))=(vI ((y:Int)+1)):=by exact cI I
 refine bu (VO ⟨(y+1),(by first|omega|(simp only []; omega))⟩ _ _ _ U os (cP 12<|bw U YP<|dp.nil _) (aR [0,1,2,3,4,5,6,7,8,9,10,11,12,13,14,15,16,17,18,19,20,21,22]))
end
section
open Go.RowKit
def fE {α:Type} (cells:α→List Value) (sz:Nat) (R:World→α→Prop) (w:World) (s:bE):Prop:= ∃ l:List α,s.n=l.length∧(rd s.a l.length sz (l.map cells)).holds w∧(∀ x∈l,R w x)∧l.length≤maxLen∧s.n≤s.c
theorem v9 {w:World} {R:World→ct→Prop}: ∀ {l:List dk},(∀ x∈l,fE ct.cells 3 R w x.bB)→ ∃ (ms:List ax) (az:List RA),l.map dk.cells=List.zipWith ax.cells ms az∧ms.length=l.length∧az.length=l.length∧(∀ X∈bg ax.e_ ms az,X.holds w)∧
 (∀ (k:Nat) m (a:RA),ms[k]? =some m→az[k]? =some a→m.bB.length≤a.2∧m.bB.length≤9223372036854775807)∧ms.map (fun m=>m.dw)=l.map (fun x=>x.dw)∧ ∀ (k:Nat) m y,ms[k]? =some m→y∈m.bB→R w y
 |[],_=>⟨[],[],rfl,rfl,rfl,(fun X hX=>by cases hX),(fun k m a h=>by simp at h),rfl,(fun k m y h=>by simp at h)⟩
 |x::l,h=>by
  obtain ⟨ms,az,E,F,G,H,AA,J,K⟩:=v9 (fun y hy=>h y (dh _ hy))
  obtain ⟨sy,A,B,C,D,L⟩:=h x sm
  have e4':sy.length≤9223372036854775807:=D
  refine ⟨⟨x.dw,sy⟩::ms,(x.bB.a,x.bB.c)::az,?_,by simp [F],by simp [G],fun X hX=>?_,fun k m a hm ha=>?_,by simp [J],fun k m y hm hy=>?_⟩
  ·obtain ⟨dr,⟨a,n,c⟩⟩:=x
   simp only at A
   subst A
   simp only [List.map_cons,List.zipWith_cons_cons,E]
   rfl
  ·rcases gH.1 hX with hX|hX
   ·simp only [ax.e_,cE] at hX
    subst hX; exact B
   ·exact H X hX
  ·cases k with
   |zero=>
    simp only [List.getElem?_cons_zero,Option.some.injEq] at hm ha
    subst hm ha
    exact ⟨by simp only; omega,e4'⟩
   |succ k=>exact AA k m a (by simpa using hm) (by simpa using ha)
  ·cases k with
   |zero=>
    simp only [List.getElem?_cons_zero,Option.some.injEq] at hm
    subst hm
    exact C y hy
   |succ k=>exact K k m y (by simpa using hm) hy
theorem HD {w:World} {s:cm} {R1:World→au→Prop} {R2:World→dk→Prop} {R3:World→bK→Prop} {R4:World→ct→Prop} (h1:fE au.cells 9 R1 w s.aO.kD) (hs: ∀ x,R1 w x→0≤x.iU∧x.iU≤255) (h2:fE dk.cells 2 R2 w s.aj) (hc: ∀ x,R2 w x→fE ct.cells 3 R4 w x.bB) (h3:fE bK.cells 4 R3 w s.ab):
 ∃ (l:bH) (az:List RA) (kA:OA) (kC:Nat) (cA:OA) (cC:Nat) (bA:OA) (bC:Nat),s=cm.mk (bL.mk (bE.mk kA l.aO.length kC)) l.h_ (bE.mk cA l.aj.length cC) (bE.mk bA l.ab.length bC) l.cf l.fJ l.dC∧uz l az∧
  ((rd kA l.aO.length 9 (l.aO.map au.cells)).holds w∧(rd cA l.aj.length 2 (List.zipWith ax.cells l.aj az)).holds w∧(dE (bg ax.e_ l.aj az)).holds w∧(rd bA l.ab.length 4 (l.ab.map bK.cells)).holds w)∧l.h_=s.h_∧l.cf=s.cf∧l.fJ=s.fJ∧l.dC=s.dC:=by
 obtain ⟨⟨⟨ka,kn,kc⟩⟩,fa,⟨ca,cn,cc⟩,⟨ba,bn,bc⟩,fi,fk,mi⟩:=s
 obtain ⟨ts,E,M,N,O,T⟩:=h1
 obtain ⟨cs,B,C,H,AA,R⟩:=h2
 obtain ⟨bs,A,F,P,G,Q⟩:=h3
 simp only at E B A
 subst E B A
 obtain ⟨ms,az,J,D,S,K,L,_⟩:=v9 (fun x hx=>hc x (H x hx))
 have t4':ts.length≤9223372036854775807:=O
 have c4':cs.length≤9223372036854775807:=AA
 have b4':bs.length≤9223372036854775807:=G
 refine ⟨⟨ts,fa,ms,bs,fi,fk,mi⟩,az,ka,kc,ca,cc,ba,bc,by simp only [D],⟨t4',fun x hx=>hs x (N x hx),by simp only; omega,by simp only; omega,b4',L⟩,⟨M,?_,K,F⟩,U,U,U,U⟩
 simp only at C ⊢
 rw [D,← J]; exact C
end
section
open Go.RowKit
theorem yK {w:World} {R:World→aF→Prop}: ∀ {l:List aG},(∀ x∈l,fE aF.cells 2 R w x.aY.aa)→ ∃ (ms:List ak) (az:List RA),l.map aG.cells=List.zipWith ak.cells ms az∧ms.length=l.length∧az.length=l.length∧(∀ X∈bg ak.e_ ms az,X.holds w)∧
 ∀ d∈ms,d.aY.aa.length≤9223372036854775807
 |[],_=>⟨[],[],rfl,rfl,rfl,(fun X hX=>by cases hX),fun d h=>by cases h⟩
 |x::l,h=>by
  obtain ⟨ms,az,D,E,F,G,H⟩:=yK (fun y hy=>h y (dh _ hy))
  obtain ⟨sg,A,B,AA,C,J⟩:=h x sm
  have e4':sg.length≤9223372036854775807:=C
  refine ⟨⟨x.Out,x.cJ,x.Time,⟨x.aY.Start,x.aY.gj,sg⟩⟩::ms,(x.aY.aa.a,x.aY.aa.c)::az,?_,by simp [E],by simp [F],fun X hX=>?_,fun d hd=>?_⟩
  ·obtain ⟨o,f,t,⟨st,nw,⟨a,n,c⟩⟩⟩:=x
   simp only at A
   subst A
   simp only [List.map_cons,List.zipWith_cons_cons,D]
   rfl
  ·rcases gH.1 hX with hX|hX
   ·simp only [ak.e_,cE] at hX
    subst hX; exact B
   ·exact G X hX
  ·rcases b_.1 hd with rfl|hd
   ·exact e4'
   ·exact H d hd
theorem yw {w:World} {R2:World→aG→Prop} {R:World→aF→Prop} (hc: ∀ x,R2 w x→fE aF.cells 2 R w x.aY.aa): ∀ {l:List bE},(∀ x∈l,fE aG.cells 7 R2 w x)→ ∃ (ms:List (List ak)) (ha:List cD),(l.map fun s=>[vS s.a s.n s.c])=List.zipWith bW ms ha∧ms.length=l.length∧ha.length=l.length∧(∀ X∈bg er ms ha,X.holds w)∧
 ∀ (k:Nat) h (a:cD),ms[k]? =some h→ha[k]? =some a→h.length≤9223372036854775807∧a.2.length=h.length∧ ∀ d∈h,d.aY.aa.length≤9223372036854775807
 |[],_=>⟨[],[],rfl,rfl,rfl,(fun X hX=>by cases hX),(fun k h a q=>by simp at q)⟩
 |x::l,h=>by
  obtain ⟨ms,ha,J,K,L,M,N⟩:=yw hc (fun y hy=>h y (dh _ hy))
  obtain ⟨ds,C,G,H,AA,P⟩:=h x sm
  obtain ⟨dm,az,D,B,O,E,F⟩:=yK fun y hy=>hc y (H y hy)
  have e4':ds.length≤9223372036854775807:=AA
  refine ⟨dm::ms,((x.a,x.c),az)::ha,?_,by simp [K],by simp [L],fun X hX=>?_,fun k m a hm A=>?_⟩
  ·obtain ⟨a,n,c⟩:=x
   simp only at C
   subst C
   simp only [List.map_cons,List.zipWith_cons_cons,J,bW,B]
  ·rcases gH.1 hX with hX|hX
   ·unfold er at hX
    rcases b_.1 hX with rfl|hX
    ·simp only
     rw [B,← D]; exact G
    ·exact E X hX
   ·exact M X hX
  ·cases k with
   |zero=>
    simp only [List.getElem?_cons_zero,Option.some.injEq] at hm A
    subst hm A
    exact ⟨I,by simp only; omega,F⟩
   |succ k=>exact N k m a (by simpa using hm) (by simpa using A)
theorem Ga {w:World} {s:cY} {R1:World→au→Prop} {R2:World→dk→Prop} {R3:World→bK→Prop} {R4:World→ct→Prop} {R5:World→Int→Prop} {R6:World→bE→Prop} {R7:World→aG→Prop} {R8:World→aF→Prop}
 (h1:fE au.cells 9 R1 w s.ao.aO.kD) (hs: ∀ x,R1 w x→0≤x.iU∧x.iU≤255) (h2:fE dk.cells 2 R2 w s.ao.aj) (hc: ∀ x,R2 w x→fE ct.cells 3 R4 w x.bB) (h3:fE bK.cells 4 R3 w s.ao.ab)
 (h4:fE iC 1 R5 w s.aV) (h5:fE iC 1 R5 w s.bV) (h6:fE (fun s=>[vS s.a s.n s.c]) 1 R6 w s.av) (h7: ∀ x,R6 w x→fE aG.cells 7 R7 w x) (h8: ∀ x,R7 w x→fE aF.cells 2 R8 w x.aY.aa):
 ∃ (r:eD) (az:List RA) (ha:List cD) (kA:OA) (kC:Nat) (cA:OA) (cC:Nat) (bA:OA) (bC:Nat) (slA:OA) (slC:Nat) (drA:OA) (drC:Nat) (heA:OA) (heC:Nat),
  s=cY.mk (cm.mk (bL.mk (bE.mk kA r.ao.aO.length kC)) r.ao.h_ (bE.mk cA r.ao.aj.length cC) (bE.mk bA r.ao.ab.length bC) r.ao.cf r.ao.fJ r.ao.dC) (bE.mk slA r.aV.length slC) (bE.mk drA r.bV.length drC) r.j9 (bE.mk heA r.av.length heC)∧u3 r az ha∧
  ((rd kA r.ao.aO.length 9 (r.ao.aO.map au.cells)).holds w∧(rd cA r.ao.aj.length 2 (List.zipWith ax.cells r.ao.aj az)).holds w∧(dE (bg ax.e_ r.ao.aj az)).holds w∧(rd bA r.ao.ab.length 4 (r.ao.ab.map bK.cells)).holds w∧
   (rd slA r.aV.length 1 (r.aV.map iC)).holds w∧(rd drA r.bV.length 1 (r.bV.map iC)).holds w∧(rd heA r.av.length 1 (List.zipWith bW r.av ha)).holds w∧(dE (bg er r.av ha)).holds w):=by
 obtain ⟨ln,⟨sa,sn,sc⟩,⟨da,dn,dc⟩,tu,⟨ea,en,ec⟩⟩:=s
 obtain ⟨l,az,kA,kC,cA,cC,bA,bC,e,A,hh,_⟩:=HD (s:=ln) h1 hs h2 hc h3
 subst e
 obtain ⟨sl,F,N,T,O,AA⟩:=h4
 obtain ⟨dr,B,G,P,H,Q⟩:=h5
 obtain ⟨he,D,E,L,M,S⟩:=h6
 obtain ⟨ms,ha,AB,C,R,J,K⟩:=yw h8 (fun x hx=>h7 x (L x hx))
 simp only at F B D
 subst F B D
 have s4':sl.length≤9223372036854775807:=O
 have d4':dr.length≤9223372036854775807:=H
 have q4':he.length≤9223372036854775807:=M
 refine ⟨⟨l,sl,dr,tu,ms⟩,az,ha,kA,kC,cA,cC,bA,bC,sa,sc,da,dc,ea,ec,by simp only [C],⟨A,s4',d4',by simp only; omega,by simp only; omega,K⟩,hh.1,hh.2.1,hh.2.2.1,hh.2.2.2,N,G,?_,J⟩
 simp only at E ⊢
 rw [C,← AB]; exact E
end
section
open Go.RowKit
theorem G4 {w:World} {s:gh} {R1:World→au→Prop} {R2:World→dk→Prop} {R3:World→bK→Prop} {R4:World→ct→Prop} {R5:World→Int→Prop} {R6:World→bE→Prop} {R7:World→aG→Prop} {R8:World→aF→Prop} {R9:World→aZ→Prop} {R10:World→br→Prop}
 (h1:fE au.cells 9 R1 w s.Race.ao.aO.kD) (hs: ∀ x,R1 w x→0≤x.iU∧x.iU≤255) (h2:fE dk.cells 2 R2 w s.Race.ao.aj) (hc: ∀ x,R2 w x→fE ct.cells 3 R4 w x.bB) (h3:fE bK.cells 4 R3 w s.Race.ao.ab)
 (h4:fE iC 1 R5 w s.Race.aV) (h5:fE iC 1 R5 w s.Race.bV) (h6:fE (fun s=>[vS s.a s.n s.c]) 1 R6 w s.Race.av) (h7: ∀ x,R6 w x→fE aG.cells 7 R7 w x) (h8: ∀ x,R7 w x→fE aF.cells 2 R8 w x.aY.aa)
 (h9:fE aZ.cells 4 R9 w s.aS) (hk: ∀ x,R9 w x→0≤x.Kind∧x.Kind≤255) (h10:fE br.cells 5 R10 w s.aJ):
 ∃ (j:cS) (az:List RA) (ha:List cD) (kA:OA) (kC:Nat) (cA:OA) (cC:Nat) (bA:OA) (bC:Nat) (slA:OA) (slC:Nat) (drA:OA) (drC:Nat) (heA:OA) (heC:Nat) (faA:OA) (faC:Nat) (prA:OA) (prC:Nat),
  s=gh.mk (cY.mk (cm.mk (bL.mk (bE.mk kA j.Race.ao.aO.length kC)) j.Race.ao.h_ (bE.mk cA j.Race.ao.aj.length cC) (bE.mk bA j.Race.ao.ab.length bC) j.Race.ao.cf j.Race.ao.fJ j.Race.ao.dC) (bE.mk slA j.Race.aV.length slC) (bE.mk drA j.Race.bV.length drC) j.Race.j9 (bE.mk heA j.Race.av.length heC)) (bE.mk faA j.aS.length faC) (bE.mk prA j.aJ.length prC) j.iy j.Dj∧sB j az ha∧
  ((rd kA j.Race.ao.aO.length 9 (j.Race.ao.aO.map au.cells)).holds w∧(rd cA j.Race.ao.aj.length 2 (List.zipWith ax.cells j.Race.ao.aj az)).holds w∧(dE (bg ax.e_ j.Race.ao.aj az)).holds w∧(rd bA j.Race.ao.ab.length 4 (j.Race.ao.ab.map bK.cells)).holds w∧
   (rd slA j.Race.aV.length 1 (j.Race.aV.map iC)).holds w∧(rd drA j.Race.bV.length 1 (j.Race.bV.map iC)).holds w∧(rd heA j.Race.av.length 1 (List.zipWith bW j.Race.av ha)).holds w∧(dE (bg er j.Race.av ha)).holds w∧
   (rd faA j.aS.length 4 (j.aS.map aZ.cells)).holds w∧(rd prA j.aJ.length 5 (j.aJ.map br.cells)).holds w):=by
 obtain ⟨rc,⟨fa,fn,fc⟩,⟨pa,pn,pc⟩,mi,fe⟩:=s
 obtain ⟨r,az,ha,kA,kC,cA,cC,bA,bC,slA,slC,drA,drC,heA,heC,e,A,hm⟩:=Ga (s:=rc) h1 hs h2 hc h3 h4 h5 h6 h7 h8
 subst e
 obtain ⟨fl,B,D,E,F,AA⟩:=h9
 obtain ⟨pr,C,G,J,H,K⟩:=h10
 simp only at B C
 subst B C
 have f4':fl.length≤9223372036854775807:=F
 have p4':pr.length≤9223372036854775807:=H
 exact ⟨⟨r,fl,pr,mi,fe⟩,az,ha,kA,kC,cA,cC,bA,bC,slA,slC,drA,drC,heA,heC,fa,fc,pa,pc,U,⟨A,f4',p4',fun f hf=>hk f (E f hf)⟩,hm.1,hm.2.1,hm.2.2.1,hm.2.2.2.1,hm.2.2.2.2.1,hm.2.2.2.2.2.1,hm.2.2.2.2.2.2.1,hm.2.2.2.2.2.2.2,D,G⟩
end
section
open Go.RowKit
theorem HK {w:World} {s:aG} {R:World→aF→Prop} (h:fE aF.cells 2 R w s.aY.aa):
 ∃ (d:ak) (gA:OA) (gC:Nat),s=aG.mk d.Out d.cJ d.Time (iN d.aY gA gC)∧d.aY.aa.length≤9223372036854775807∧(rd gA d.aY.aa.length 2 (d.aY.aa.map aF.cells)).holds w:=by
 obtain ⟨o,f,t,⟨st,nw,⟨a,n,c⟩⟩⟩:=s
 obtain ⟨l,A,B,D,C,E⟩:=h
 simp only at A
 subst A
 exact ⟨⟨o,f,t,⟨st,nw,l⟩⟩,a,c,U,C,B⟩
end
end Go.Proofs.YtkaenmjhfajbkaaGreatDoor
