/-
 The statement juryRules_said, part 8 of 9: Jwa, Jwb, Rr2, Jr1, Jr8, Rr3, Rr4, Rr5, Rra, Jr2, Jr3, Jz3, B10, Z1, Rx4, Jla, Rx8, Jx1, Rx1, Jx2, Jx3, Y4, Jr4, Jr5, Jr7, Jr6, Jy1, Jy2, Jy3, Jy4.
 Conditions: none.
-/
import Derived.Test.YtkaenmjhfajbkaaGreatDoorTv1
import Derived.Test.YtkaenmjhfajbkaaGreatDoorTv2
import Derived.Test.YtkaenmjhfajbkaaGreatDoorTv3
import Derived.Test.YtkaenmjhfajbkaaGreatDoorTv4
import Derived.Test.YtkaenmjhfajbkaaGreatDoorTv5
import Derived.Test.YtkaenmjhfajbkaaGreatDoorTv6
import Derived.Test.YtkaenmjhfajbkaaGreatDoorTv7
namespace Go.Proofs.YtkaenmjhfajbkaaGreatDoor
set_option maxRecDepth 100000
set_option maxHeartbeats 4000000
set_option linter.unusedVariables false
section
open Go.RowKit
theorem P8 (gm:Nat) (j:cw) (kA:OA) (kC:Nat) (cA:OA) (cC:Nat) (bA:OA) (bC:Nat) (slA:OA) (slC:Nat) (drA:OA) (drC:Nat) (heA:OA) (heC:Nat) (faA:OA) (faC:Nat) (prA:OA) (prC:Nat):
 lO Tryz.prog 64 [(vA (df.cells (df.mk (lM j kA kC cA cC bA bC slA slC drA drC heA heC faA faC prA prC)))),(Value.map (some gm))] [] (fun (x:Nat×Nat)=>(Value.func (.func 97) [].toArray [(Value.pointer (some ⟨x.1,0,none⟩)),(Value.pointer (some ⟨x.2,0,none⟩))].toArray)) (fun (x:Nat×Nat)=>True) (fun (x:Nat×Nat)=>[(cy x.1 97 (df.cells (df.mk (lM j kA kC cA cC bA bC slA slC drA drC heA heC faA faC prA prC)))),(cy x.2 144 [(Value.map (some gm))])]):=by
 refine dK kr Tryz.func64 U U fun E Q hQ hN=>?_
 try dsimp only
 refine WS fun _ A=>dV U fun C=>wP U U fun D=>bp 1 U<|RK A<|WS fun _ B=>rS (FU U)<|rP 1 [] I ?_
 refine RK B<|ak<|LX hQ (C,D) [1,0] [] I U U U U ?_
 trivial
theorem Nx (fm:List (Int×Bool)) (gm:Nat) (j:cw) (kA:OA) (kC:Nat) (az:List RA) (cA:OA) (cC:Nat) (bA:OA) (bC:Nat) (slA:OA) (slC:Nat) (drA:OA) (drC:Nat) (ha:List bZ) (heA:OA) (heC:Nat) (faA:OA) (faC:Nat) (prA:OA) (prC g1 g2:Nat) (hin:er j az ha) (hok:dT j=0):
 lO Tryz.prog 96 [(vS none 0 0),(Value.func (.func 97) [].toArray [(vP g1),(vP g2)].toArray)] ((kx iV gm (cT vB fm))::((o_ j kA az cA bA slA drA ha heA faA prA)++[(cy g1 97 (df.cells (df.mk (lM j kA kC cA cC bA bC slA slC drA drC heA heC faA faC prA prC)))),(cy g2 144 [(Value.map (some gm))])])) (fun (x:(List RA)×(OA)×Nat)=>(vS x.2.1 ((eT j (l5 j.aM fm)).length) x.2.2)) (fun (x:(List RA)×(OA)×Nat)=>x.1.length=(eT j (l5 j.aM fm)).length) (fun (x:(List RA)×(OA)×Nat)=>[(own x.2.1 x.2.2 29 1 (List.zipWith tU (eT j (l5 j.aM fm)) x.1)),(bQ (bK Bn (eT j (l5 j.aM fm)) x.1))]):=by
 have W:=hin.race
 have P:=hin.race.line
 have g:=hin.race.fE
 have m:=hin.race.has
 have X:=hin.race.fM
 have AA:=hin.nf
 have V:=hin.np
 have f:(eT j (l5 j.aM fm)).length=j.Race.aI.length:=by unfold eT; rw [List.length_map]
 refine dK kr Tryz.func96 U U fun s Q hQ hN=>?_
 try dsimp only
 refine WS fun _ K=>wP U U fun T=>bp 1 U<|RK K<|ag fun _ L=>WS fun _ M=>rP 1 [] I ?_
 refine RK M<|ax<|jv 1 U (by exact fun _ h=>h)<|jv 3 U (by exact fun _ h=>h)<|jv 5 U (by exact fun _ h=>h)<|jv 7 U (by exact fun _ h=>h)<|jv 9 U (by exact fun _ h=>h)<|jv 11 U (by exact fun _ h=>h)<|jv 13 U (by exact fun _ h=>h)<|jv 15 U (by exact fun _ h=>h)<|jv 17 U (by exact fun _ h=>h)<|jv 19 U (by exact fun _ h=>h)<|jv 21 U (by exact fun _ h=>h)<|jv 23 U (by exact fun _ h=>h)<|jv 25 U (by exact fun _ h=>h)<|fu 29 1<|lx ?_
 refine IP (L0:=[(2,(vP T))]) (F:=[(kx iV gm (cT vB fm)).ro,(rd kA j.Race.au.bL.length 9 (j.Race.au.bL.map aD.cells)).ro,(rd cA j.Race.au.aH.length 2 (List.zipWith aT.cells j.Race.au.aH az)).ro,(iK (bK aT.jW j.Race.au.aH az)).ro,(rd bA j.Race.au.aj.length 4 (j.Race.au.aj.map cQ.cells)).ro,(rd slA j.Race.bu.length 1 (j.Race.bu.map iC)).ro,(rd drA j.Race.cP.length 1 (j.Race.cP.map iC)).ro,(rd heA j.Race.aI.length 1 (List.zipWith cM j.Race.aI ha)).ro,(iK (bK lZ j.Race.aI ha)).ro,(rd faA j.aM.length 4 (j.aM.map bg.cells)).ro,(rd prA j.aB.length 5 (j.aB.map bR.cells)).ro,(cy g1 97 (df.cells (df.mk (lM j kA kC cA cC bA bC slA slC drA drC heA heC faA faC prA prC)))).ro,(cy g2 144 [(Value.map (some gm))]).ro]) (fun k (y:(List RA)×(OA)×Nat)=>(y.1.length=k)) (fun k y=>[(bQ (bK Bn (List.take k (eT j (l5 j.aM fm))) y.1)),(own y.2.1 y.2.2 29 1 (List.zipWith tU (List.take k (eT j (l5 j.aM fm))) y.1)),(cy T 51 [(vS y.2.1 ((List.take k (eT j (l5 j.aM fm))).length) y.2.2)]),(kx iV gm (cT vB fm)).ro,(rd kA j.Race.au.bL.length 9 (j.Race.au.bL.map aD.cells)).ro,(rd cA j.Race.au.aH.length 2 (List.zipWith aT.cells j.Race.au.aH az)).ro,(iK (bK aT.jW j.Race.au.aH az)).ro,(rd bA j.Race.au.aj.length 4 (j.Race.au.aj.map cQ.cells)).ro,(rd slA j.Race.bu.length 1 (j.Race.bu.map iC)).ro,(rd drA j.Race.cP.length 1 (j.Race.cP.map iC)).ro,(rd heA j.Race.aI.length 1 (List.zipWith cM j.Race.aI ha)).ro,(iK (bK lZ j.Race.aI ha)).ro,(rd faA j.aM.length 4 (j.aM.map bg.cells)).ro,(rd prA j.aB.length 5 (j.aB.map bR.cells)).ro]) (fun _ (_:Unit)=>False) (fun _ _=>[]) [0,1,15,16,17,18,19,20,21,22,23,24,25,26] [14,13,12,11,10,9,8,7,6,5,4,3,2] (([]:List RA),none,0) rfl rfl (Mg fm gm j kA kC az cA cC bA bC slA slC drA drC ha heA heC faA faC prA prC g1 g2 (by first|assumption|omega|(simp; done)) (by first|assumption|omega|(simp; done))) rfl rfl rfl (by exact rfl) (by simp only [List.forall_mem_cons,List.not_mem_nil,false_imp_iff,implies_true,and_true]; exact ⟨⟨_,aP (i:=0) rfl,(dM (b_ _))⟩,⟨_,aP (i:=1) rfl,(dM (b_ _))⟩,⟨_,aP (i:=2) rfl,(dM (b_ _))⟩,⟨_,aP (i:=3) rfl,(dM (b_ _))⟩,⟨_,aP (i:=4) rfl,(dM (b_ _))⟩,⟨_,aP (i:=5) rfl,(dM (b_ _))⟩,⟨_,aP (i:=6) rfl,(dM (b_ _))⟩,⟨_,aP (i:=7) rfl,(dM (b_ _))⟩,⟨_,aP (i:=8) rfl,(dM (b_ _))⟩,⟨_,aP (i:=9) rfl,(dM (b_ _))⟩,⟨_,aP (i:=10) rfl,(dM (b_ _))⟩,⟨_,aP (i:=11) rfl,(dM (b_ _))⟩,⟨_,aP (i:=12) rfl,(dM (b_ _))⟩⟩) (by rintro k x R0 p ⟨_,_,_,_,rfl,_,_⟩; rfl) rfl (bf rfl) ?_ ?_ (fun _ _ _ h=>h.elim) (fun _ _ h=>h.elim)
 rotate_left 1
 ·rintro q k ⟨gz,a,c⟩ B C
  have D:=C
  try dsimp only at D
  try dsimp only
  rw [show (List.take k (eT j (l5 j.aM fm)))=(eT j (l5 j.aM fm)) from List.take_of_length_le (by have d:k=j.Race.aI.length:=B; omega)]
  have O:gz.length=(eT j (l5 j.aM fm)).length:=by have d:k=j.Race.aI.length:=B; omega
  refine aJ<|KK L<|WS fun _ G=>rP 2 [] (mc 16 U I) ?_
  refine RK G<|ak ?_
  refine hQ _ _ _ (rl 0 U U<|j9 (vs:=[(vS a ((eT j (l5 j.aM fm)).length) c)]) ⟨U,trivial⟩ fun w hs=>Qf (gz,a,c) [15,14] ?_ ?_ U U (by show List.all _ _=true; simp only [fX,List.all_nil,qd,Bool.and_true]; rfl) hs)
  ·rfl
  ·exact O
 rintro k x R0 p ⟨gz,a,c⟩ l ra rb S t K5 Qr6 o hx AB N H Y Z
 obtain ⟨xa,xc,row,A,rfl,rfl,rfl⟩:=hx
 have D:=AB
 try dsimp only at D
 try dsimp only
 have n:=(aZ.1 A).1
 have E:gz.length=(List.take k (eT j (l5 j.aM fm))).length:=by rw [List.length_take]; omega
 have R:(List.take (k+1) (eT j (l5 j.aM fm))).length=k+1:=by rw [List.length_take]; omega
 refine ao<|rP 1 [] I ?_
 refine aC<|a_ (N _ _ ?_)
 refine ax<|ao<|rP 2 [] (mc 3 U I) ?_
 refine e_ (xs:=[.tmp 9]) (cs:=[(vS xa row.length xc)]) U Gt SK U U U U (by simp [Value.cells]) U U fun r=>?_
 refine cN (es2:=(List.zipWith tU (List.take (k+1) (eT j (l5 j.aM fm))) (gz++[(xa,xc)]))) (m':=(List.take (k+1) (eT j (l5 j.aM fm))).length) 3 rfl rfl rfl Rl rfl rfl (mP E).symm (bo (es:=List.zipWith tU [row] [(xa,xc)]) 0 rfl rfl (by intro e he; simp [tU] at he; subst he; rfl) rfl) (FB _ _) om (by simp only [maxLen]; omega) (by rw [ql A]; exact zC E.symm) (by exact mP (by rw [R]; simp; omega)) rfl fun b J=>?_
 try dsimp only
 refine Pb (Y':=bK Bn (List.take (k+1) (eT j (l5 j.aM fm))) (gz++[(xa,xc)])) 2 16 U U (by rw [ql A]; exact w7 E.symm U) ?_
 refine VC U UD U U<|aC<|aJ ?_
 exact H ((gz++[(xa,xc)]),b,J) _ _ (by (rw [List.length_append]; simp; omega)) (aK [2,0,3,4,5,6,7,8,9,10,11,12,13,14,15])
theorem Nd (fm:List (Int×Bool)) (gm:Nat) (j:cw) (kA:OA) (kC:Nat) (az:List RA) (cA:OA) (cC:Nat) (bA:OA) (bC:Nat) (slA:OA) (slC:Nat) (drA:OA) (drC:Nat) (ha:List bZ) (heA:OA) (heC:Nat) (faA:OA) (faC:Nat) (prA:OA) (prC g1 g2:Nat) (hin:er j az ha) (hok:dT j=0):
 lO Tryz.prog 63 [(Value.func (.func 97) [].toArray [(vP g1),(vP g2)].toArray)] ((kx iV gm (cT vB fm))::((o_ j kA az cA bA slA drA ha heA faA prA)++[(cy g1 97 (df.cells (df.mk (lM j kA kC cA cC bA bC slA slC drA drC heA heC faA faC prA prC)))),(cy g2 144 [(Value.map (some gm))])])) (fun (x:(List RA)×(OA)×Nat)=>(vS x.2.1 ((eT j (l5 j.aM fm)).length) x.2.2)) (fun (x:(List RA)×(OA)×Nat)=>x.1.length=(eT j (l5 j.aM fm)).length) (fun (x:(List RA)×(OA)×Nat)=>[(own x.2.1 x.2.2 29 1 (List.zipWith tU (eT j (l5 j.aM fm)) x.1)),(bQ (bK Bn (eT j (l5 j.aM fm)) x.1))]):=by
 refine dK kr Tryz.func63 U U fun AA Q hQ hN=>?_
 try dsimp only
 refine WS fun _ B=>bp 1 U<|RK B<|WS fun _ C=>rP 1 [] I ?_
 refine cX (Nx fm gm j kA kC az cA cC bA bC slA slC drA drC ha heA heC faA faC prA prC g1 g2 hin hok) (aY [0,1,2,3,4,5,6,7,8,9,10,11,12]) U fun H E=>?_
 obtain ⟨A,F,G⟩:=H
 try dsimp only
 have D:=E
 refine rP 1 [] I ?_
 refine RK C<|ak ?_
 refine LX hQ (A,F,G) [0,1] [] I U (by show List.all _ _=true; simp only [fX,List.all_nil,qd,Bool.and_true]; rfl) U U ?_
 exact D
end
section
open Go.RowKit
theorem zc (j:cw) (kA:OA) (kC:Nat) (az:List RA) (cA:OA) (cC:Nat) (bA:OA) (bC:Nat) (slA:OA) (slC:Nat) (drA:OA) (drC:Nat) (ha:List bZ) (heA:OA) (heC:Nat) (faA:OA) (faC:Nat) (prA:OA) (prC:Nat) (hin:er j az ha) (hok:dT j=0):
 lO Tryz.prog 45 [(vA (df.cells (df.mk (lM j kA kC cA cC bA bC slA slC drA drC heA heC faA faC prA prC))))] (o_ j kA az cA bA slA drA ha heA faA prA) (fun (x:(List RA)×(OA)×Nat)=>(vS x.2.1 ((dU j).length) x.2.2)) (fun (x:(List RA)×(OA)×Nat)=>x.1.length=(dU j).length) (fun (x:(List RA)×(OA)×Nat)=>[(own x.2.1 x.2.2 29 1 (List.zipWith tU (dU j) x.1)),(bQ (bK Bn (dU j) x.1))]):=by
 have AC:=hin.race
 have i:=hin.race.line
 have A2:=hin.race.fE
 have A3:=hin.race.has
 have AM:=hin.race.fM
 have u:=hin.nf
 have y:=hin.np
 have P:=(dj hok).1
 have O:=(dj hok).2
 have h:=(dy P).1
 have A6:=(dy P).2
 have d:=(dw h).2.head
 unfold eJ at d
 have A4:=O.np
 have w:=tQ (j:=j)
 refine dK kr Tryz.func45 U U fun w0 Q hQ hN=>?_
 try dsimp only
 refine WS fun _ Y=>dV U fun b2=>rP 1 [] I ?_
 refine RK Y<|WS fun _ Z=>mX (kV:=iV) U U fun T=>?_
 try dsimp only
 refine bp 1 U<|RK Z<|ag fun _ a=>WS fun _ b=>rP 4 [] (mc 1 U I) ?_
 refine rS (FU U) ?_
 refine cX (AP j.aB prA prC (Value.func (.func 42) [(vA (df.cells (df.mk (lM j kA kC cA cC bA bC slA slC drA drC heA heC faA faC prA prC))))].toArray [].toArray) (fun q S=>(gJ j S)) (iK [(rd kA j.Race.au.bL.length 9 (j.Race.au.bL.map aD.cells)),(rd cA j.Race.au.aH.length 2 (List.zipWith aT.cells j.Race.au.aH az)),(iK (bK aT.jW j.Race.au.aH az)),(rd bA j.Race.au.aj.length 4 (j.Race.au.aj.map cQ.cells)),(rd slA j.Race.bu.length 1 (j.Race.bu.map iC)),(rd drA j.Race.cP.length 1 (j.Race.cP.map iC)),(rd heA j.Race.aI.length 1 (List.zipWith cM j.Race.aI ha)),(iK (bK lZ j.Race.aI ha)),(rd faA j.aM.length 4 (j.aM.map bg.cells)),(rd prA j.aB.length 5 (j.aB.map bR.cells))]) (by intro q S k; exact lu (fi:=[(vA (df.cells (df.mk (lM j kA kC cA cC bA bC slA slC drA drC heA heC faA faC prA prC))))]) (ca:=[]) (j6 (vl j kA kC az cA cC bA bC slA slC drA drC ha heA heC faA faC prA prC q S asm asm (by (obtain ⟨i_,_,e⟩:=k; exact ⟨i_,e⟩))) (aY [0,1,2,3,4,5,6,7,8,9]))) asm) (eE 11 rfl rfl<|aw (j1 (aY [2,3,4,5,6,7,8,9,10,11]))<|aS) rfl fun y9 AO=>?_
 obtain ⟨As,A0⟩:=y9
 try dsimp only
 rw [show (kU (iJ j.aB (fun q S=>(gJ j S))) j.aB.length)=jx j from rfl]
 refine rP 2 [] I ?_
 refine RK b<|ax ?_
 skip
 have A:(0≤(jx j).length):=by exact Nat.zero_le _
 refine bP (ι:={z:Nat // (z≤(jx j).length)}) [1,3,12,13] [0,2,3,4,5,6,7,8,9,10,11,12] U U (fun z=>[(14,(vI (z.1:Int)))]) (fun z=>[(kx iV T (cT vB (wI j.aM (Hr j z.1))))]) (fun _=>rfl) (fun _=>rfl) (fun z=>(jx j).length-z.1) ⟨0,A⟩ (bf U) (aK [0,2,3,4,5,6,7,8,9,10,11,12,1]) ?_
 clear A
 rintro ⟨t,g⟩ J13 E
 try dsimp only
 refine WS fun _ F=>rP 1 [] I ?_
 refine RK F<|ag fun _ G=>bO U (aO fun X=>?_) (aN fun X=>?_)
 ·refine bM<|ab<|ab<|aF<|KK a<|WS fun _ J=>rP 2 [] (mc 1 U I) ?_
  refine cX (P8 T j kA kC cA cC bA bC slA slC drA drC heA heC faA faC prA prC) (aS) U fun r Ac=>?_
  obtain ⟨V,C⟩:=r
  try dsimp only
  refine cX (Nd (wI j.aM (Hr j t)) T j kA kC az cA cC bA bC slA slC drA drC ha heA heC faA faC prA prC V C hin hok) (aY [14,4,5,6,7,8,9,10,11,12,13,0,1]) U fun s R=>?_
  obtain ⟨D,AA,W⟩:=s
  try dsimp only
  have N:=R
  have o:(eT j (l5 j.aM (wI j.aM (Hr j t))))=(dU j):=by exact Ew om
  rw [o] at N ⊢
  refine rP 1 [] I ?_
  refine RK J<|ak ?_
  refine LX hQ (D,AA,W) [0,1] [] I U (by show List.all _ _=true; simp only [fX,List.all_nil,qd,Bool.and_true]; rfl) U U ?_
  exact N
 refine WK G<|ag fun _ H=>ax<|WS fun _ AB=>?_
 obtain ⟨gi,B⟩:=aA (jx j) t om
 have M:=bH iC B
 refine rS (IA t U (ar (n:=(jx j).length) 0 U sm) dI dc om om)<|rS (gD t 0 (vI gi) U bU (ar (n:=(jx j).length) 0 U sm) M U dc U)<|bp 1 U<|RK AB<|cS cj 17 kr<|dP 10 [] (mc 1 U I) ?_
 obtain ⟨gk,A1,v⟩:=GX B
 refine dP 1 [] I ?_
 obtain ⟨p,hp⟩:=aA j.aB ((gi).toNat) om
 have l:=bH bR.cells hp
 refine dS (IA ((gi).toNat) U (av 11 U) wK dc om om)<|dS (nX ((((gi).toNat)*5)+3) U (av 11 U) (Nat.mul_pos om dc) eC U) ?_
 have m:=O.hZ _ p hp
 have A5:=m.fault
 refine dS (gD ((gi).toNat) 3 (vI p.gj) U bU (av 11 U) l U dc U) ?_
 obtain ⟨f,hf⟩:=aA j.aM ((p.gj).toNat) om
 have c:=bH bg.cells hf
 refine dS (IA ((p.gj).toNat) U (av 10 U) yf dc om om)<|dS (jK ((p.gj).toNat) 0 (bg.cells f) U bU (av 10 U) c U dc U U)<|dS (CL (Bp j.aM faA faC f asm) (aY [10]) U)<|cu ?_
 have K:(eD (wI j.aM (Hr j t)) (oY j.aM f) true)=(wI j.aM (Hr j (t+1))):=by rw [Je B hp hf,GV]
 refine jf (kV:=iV) (x:=(oY j.aM f)) (C':=[_,_,_,_,_,_,_,_,_,_,_,_,(kx iV T (cT vB (wI j.aM (Hr j (t+1)))))]) 12 U U U U De (iX ox) U ((gU _ _ _ _).symm.trans (congrArg _ K)) U<|aC<|aJ<|KK H<|ao<|rP 2 [] I ?_
 refine aC ?_
 have L:(vI (((t+1):Nat):Int))=(vI ((t:Int)+1)):=by exact cI om
 refine a_ (E ⟨(t+1),(by first|omega|(simp only []; omega))⟩ _ _ _ U os (cz 4<|aU U L<|cR.nil _) (aK [0,1,2,3,4,5,6,7,8,9,10,11,12]))
theorem HO (j:cw) (kA:OA) (kC:Nat) (az:List RA) (cA:OA) (cC:Nat) (bA:OA) (bC:Nat) (slA:OA) (slC:Nat) (drA:OA) (drC:Nat) (ha:List bZ) (heA:OA) (heC:Nat) (faA:OA) (faC:Nat) (prA:OA) (prC:Nat) (hin:er j az ha):
 lO Tryz.prog 10 [(vA (eX.cells (lM j kA kC cA cC bA bC slA slC drA drC heA heC faA faC prA prC)))] ((rd iE 3 2 gF)::(o_ j kA az cA bA slA drA ha heA faA prA)) (fun (x:(List RA)×(OA)×Nat)=>(vT [(vS x.2.1 ((ek j).length) x.2.2),(vI (dT j))])) (fun (x:(List RA)×(OA)×Nat)=>x.1.length=(ek j).length) (fun (x:(List RA)×(OA)×Nat)=>[(own x.2.1 x.2.2 29 1 (List.zipWith tU (ek j) x.1)),(bQ (bK Bn (ek j) x.1))]):=by
 have S:=hin.race
 have N:=hin.race.line
 have AA:=hin.race.fE
 have V:=hin.race.has
 have T:=hin.race.fM
 have P:=hin.nf
 have R:=hin.np
 refine dK kr Tryz.func10 U U fun Z Q hQ hN=>?_
 try dsimp only
 refine WS fun _ H=>dV U fun X=>bp 1 U<|bp 1 U<|RK H<|WS fun _ AB=>dZ 1 [] (mc 0 U I) U<|rS (CL (wT j kA kC az cA cC bA bC slA slC drA drC ha heA heC faA faC prA prC hin) (aY [1,2,3,4,5,6,7,8,9,10,11]) U)<|bp 3 U<|AL U Jw fun Y=>e7 U JT U<|bp 1 U<|RK AB<|ag fun _ J=>WS fun _ K=>rP 2 [] I ?_
 refine RK K<|cb U (aX fun A=>?_) (aW fun A=>?_)
 ·refine WS fun _ L=>?_
  have C:(ek j)=[]:=oB A
  have B:([]:List RA).length=(ek j).length:=by rw [C]; rfl
  refine gn 29 1<|yl ?_
  rw [show (own none 0 29 1 ([]:List (List Value)))=own none 0 29 1 (List.zipWith tU (ek j) []) from by rw [C]; rfl,show bQ []=bQ (bK Bn (ek j) []) from by rw [C]; rfl]
  refine bp 2 U<|rP 1 [] I ?_
  refine RK L<|ak ?_
  refine LX hQ ([],none,0) [1,0] [] I U (by show List.all _ _=true; simp only [fX,List.all_nil,qd,Bool.and_true]; rfl) U ?_ ?_
  ·(rw [oB A]; rfl)
  ·exact B
 refine WK J<|WS fun _ M=>rP 1 [] (mc 0 U I) ?_
 refine cX (zc j kA kC az cA cC bA bC slA slC drA drC ha heA heC faA faC prA prC hin asm) (aY [3,4,5,6,7,8,9,10,11,12]) U fun W E=>?_
 obtain ⟨D,F,G⟩:=W
 try dsimp only
 have B:=E
 refine rP 1 [] I ?_
 have O:(dU j)=(ek j):=by exact (ks A).symm
 rw [O] at B ⊢
 refine rP 1 [] I ?_
 refine RK M<|ak ?_
 refine LX hQ (D,F,G) [0,1] [] I U (by show List.all _ _=true; simp only [fX,List.all_nil,qd,Bool.and_true]; rfl) U ?_ ?_
 ·(rw [A]; rfl)
 ·exact B
end
section
open Go.RowKit
theorem BQ (r:eU) (kA:OA) (kC:Nat) (az:List RA) (cA:OA) (cC:Nat) (bA:OA) (bC:Nat) (slA:OA) (slC:Nat) (drA:OA) (drC:Nat) (ha:List bZ) (heA:OA) (heC:Nat) (hraw:uN r az ha):
 dF Tryz.prog 38 [(vA (ct.cells (we r kA kC cA cC bA bC slA slC drA drC heA heC)))] (Ix r kA az cA bA slA drA ha heA) (vB (decide (jX r))):=by
 have AC:=hraw.line
 have As:=hraw.fE
 have A1:=hraw.has
 have Ac:=hraw.fM
 have AM:=hraw.draw
 refine bG kr Tryz.func38 U U fun w0 Q hQ hN=>?_
 try dsimp only
 refine WS fun _ l=>dV U fun b2=>bp 1 U<|RK l<|ag fun _ m=>WS fun _ H=>bp 1 U<|rS (LP (bW.cells (jy r.au kA kC cA cC bA bC)) 0 U bU U U U)<|rS (CL (J0 r.au kA kC az cA cC bA bC asm) (aY [1,2,3,4]) U)<|rP 1 [] I ?_
 refine bS (t:=8) U (aN fun k=>?_) (aO fun k=>?_)
 ·refine bp 17 U<|RK H<|aL U<|WS fun _ n=>rP 1 [] I ?_
  refine RK n<|ak<|Q1 hQ U U U ?_
  exact cB (dC (qp (.inl k))).symm
 refine rP 6 [] (mc 0 U I) ?_
 refine bS (t:=14) U (aN fun AB=>?_) (aO fun AB=>?_)
 ·refine bp 11 U<|RK H<|aL U<|WS fun _ o=>rP 1 [] I ?_
  refine RK o<|ak<|Q1 hQ U U U ?_
  exact cB (dC (qp (.inr om))).symm
 refine rP 6 [] (mc 0 U I) ?_
 refine bS (t:=20) U (aN fun f=>?_) (aO fun f=>?_)
 ·refine bp 5 U<|RK H<|aL U<|WS fun _ p=>rP 1 [] I ?_
  refine RK p<|ak<|Q1 hQ U U U ?_
  exact cB (dC (qp (.inr om))).symm
 refine rP 5 [] (mc 0 U I) ?_
 refine RK H<|cb U (aN fun h=>?_) (aO fun h=>?_)
 ·refine WS fun _ q=>rP 1 [] I ?_
  refine RK q<|ak<|Q1 hQ U U U ?_
  exact cB (dC (qp (.inr om))).symm
 refine WK m<|ag fun _ s=>WS fun _ N=>rP 1 [] I ?_
 refine RK N<|ax ?_
 have B:(0≤r.aI.length)∧(mF r 0):=by exact ⟨Nat.zero_le _,B7⟩
 refine bP (ι:={z:Nat // (z≤r.aI.length)∧(mF r z)}) [1] [0,1,2,3,4,5,6,7,8] U U (fun z=>[(3,(vI (z.1:Int)))]) (fun z=>[]) (fun _=>rfl) (fun _=>rfl) (fun z=>r.aI.length-z.1) ⟨0,B⟩ (bf U) (aK [0,1,2,3,4,5,6,7,8]) ?_
 clear B
 rintro ⟨i,⟨x,F⟩⟩ J11 L
 try dsimp only
 refine ag fun _ O=>WS fun _ P=>rP 5 [] (mc 0 U I) ?_
 refine RK P<|bO U (aO fun AB=>?_) (aN fun AB=>?_)
 ·refine bM<|ab<|ab<|aF<|KK s<|WS fun _ b=>rP 1 [] I ?_
  refine RK b<|ak<|Q1 hQ U U U ?_
  exact cB (br (Gw k om F om)).symm
 refine WK O<|ag fun _ R=>ax<|ag fun _ S=>WS fun _ T=>rP 3 [] (mc 0 U I) ?_
 obtain ⟨ht,D⟩:=aA r.aI i om
 obtain ⟨A,C⟩:=aA ha i om
 have E:(List.zipWith cM r.aI ha)[i]? =some (cM ht A):=cG D C
 refine rS (IA i U (av 7 U) kF dc om om)<|rS (gD i 0 (vS A.1.1 ht.length A.1.2) U bU (av 7 U) E U dc U) ?_
 obtain ⟨A0,AO,w⟩:=hraw.fJ _ _ _ D C
 refine rP 2 [] I ?_
 refine RK T<|cb U (aN fun J=>?_) (aO fun J=>?_)
 ·refine WS fun _ AA=>rP 1 [] I ?_
  refine RK AA<|ak<|Q1 hQ U U U ?_
  exact cB (dC (Db D J)).symm
 refine WK S<|WS fun _ V=>rP 1 [] I ?_
 refine RK V<|ax ?_
 have B:(0≤ht.length)∧(nH ht 0):=by exact ⟨Nat.zero_le _,BD⟩
 refine bP (ι:={z:Nat // (z≤ht.length)∧(nH ht z)}) [1,3] [0,1,2,3,4,5,6,7,8] U U (fun z=>[(4,(vI (z.1:Int)))]) (fun z=>[]) (fun _=>rfl) (fun _=>rfl) (fun z=>ht.length-z.1) ⟨0,B⟩ (bf U) (aK [0,1,2,3,4,5,6,7,8]) ?_
 clear B
 rintro ⟨j,⟨y,G⟩⟩ J20 M
 try dsimp only
 refine ag fun _ W=>WS fun _ X=>dZ 4 [] (mc 0 U I) U<|rS (IA i U (av 7 U) kF dc om om)<|rS (gD i 0 (vS A.1.1 ht.length A.1.2) U bU (av 7 U) E U dc U)<|rP 2 [] I ?_
 refine RK X<|bO U (aO fun g=>?_) (aN fun g=>?_)
 ·refine bM<|ab<|ab<|aF<|aJ<|KK R<|ao<|rP 3 [] I ?_
  refine aC ?_
  have e:(vI (((i+1):Nat):Int))=(vI ((i:Int)+1)):=by exact cI om
  refine a_ (L ⟨(i+1),⟨om,Ce F D (Ey J G om)⟩⟩ _ _ _ U os (cR.cons U<|aU U e<|cR.nil _) (aK [0,1,2,3,4,5,6,7,8]))
 refine WK W<|ag fun _ Y=>ax<|WS fun _ Z=>dZ 3 [] (mc 0 U I) U<|rS (IA i U (av 7 U) kF dc om om)<|rS (gD i 0 (vS A.1.1 ht.length A.1.2) U bU (av 7 U) E U dc U)<|rP 1 [] I ?_
 obtain ⟨d,hd⟩:=aA ht j om
 obtain ⟨da,u⟩:=aA A.2 j om
 have v:(List.zipWith aq.cells ht A.2)[j]? =some (aq.cells d da):=cG hd u
 refine rS (IA j U (show g9 _ (rd A.1.1 ht.length 7 (List.zipWith aq.cells ht A.2)).holds from (cd 8 U (bB D C cr))) ov dc om om)<|rS (nX ((j*7)+4) U (show g9 _ (rd A.1.1 ht.length 7 (List.zipWith aq.cells ht A.2)).holds from (cd 8 U (bB D C cr))) (Nat.mul_pos om dc) eC U)<|rS (nX (((j*7)+4)+2) U (show g9 _ (rd A.1.1 ht.length 7 (List.zipWith aq.cells ht A.2)).holds from (cd 8 U (bB D C cr))) (Nat.mul_pos om dc) eC U)<|rS (gD j 6 (vS da.1 d.aV.aa.length da.2) U bU (show g9 _ (rd A.1.1 ht.length 7 (List.zipWith aq.cells ht A.2)).holds from (cd 8 U (bB D C cr))) v U dc U) ?_
 have A2:=w d (aP hd)
 refine rP 2 [] I ?_
 refine RK Z<|bO U (aO fun K=>?_) (aN fun K=>?_)
 ·refine cg<|aJ<|KK Y<|ao<|rP 3 [] I ?_
  refine aC ?_
  have c:(vI (((j+1):Nat):Int))=(vI ((j:Int)+1)):=by exact cI om
  refine a_ (M ⟨(j+1),⟨om,Bk G hd K⟩⟩ _ _ _ U os (cR.cons U<|cR.cons U<|aU U c<|cR.nil _) (aK [0,1,2,3,4,5,6,7,8]))
 refine WS fun _ a=>rP 1 [] I ?_
 refine RK a<|ak<|Q1 hQ U U U ?_
 exact cB (dC (DL D hd K)).symm
end
section
open Go.RowKit
theorem iv (n lo hi:Int):
 dF Tryz.prog 50 [(vI n),(vI lo),(vI hi)] [] (vB (decide (lo≤n∧n≤hi))):=by
 refine bG kr Tryz.func50 U U fun D Q hQ hN=>?_
 try dsimp only
 refine WS fun _ B=>bp 1 U<|RK B<|WS fun _ A=>rP 4 [] I ?_
 refine bS (t:=10) U (aN fun C=>?_) (aO fun C=>?_)
 ·refine rP 5 [] I ?_
  refine RK A<|ak<|Q1 hQ U U U ?_
  exact cB (gS.2 om)
 refine rP 5 [] I ?_
 refine RK A<|ak<|Q1 hQ U U U ?_
 exact cB (br om).symm
theorem ve (o fx:Bool) (tm:ai) (rv:de):
 dF Tryz.prog 102 [(vA (aR.cells (aR.mk o fx tm rv)))] [] (vB (decide (o=false∧fx=false))):=by
 refine bG kr Tryz.func102 U U fun E Q hQ hN=>?_
 try dsimp only
 refine WS fun _ B=>dV U fun D=>bp 1 U<|RK B<|WS fun _ A=>rP 4 [] (mc 0 U I) ?_
 refine cx (t:=6) U (fun C=>?_) (fun C=>?_)
 ·rw [Bool.not_eq_false'] at C
  refine rP 5 [] I ?_
  refine RK A<|ak<|Q1 hQ U U U ?_
  clear hQ hN A B
  refine cB ?_
  (simp_all; done)
 rw [Bool.not_eq_true'] at C
 refine rP 5 [] (mc 0 U I) ?_
 refine RK A<|ak<|Q1 hQ U U U ?_
 clear hQ hN A B
 refine cB ?_
 (simp_all; done)
theorem Ks (j:cw) (kA:OA) (kC:Nat) (az:List RA) (cA:OA) (cC:Nat) (bA:OA) (bC:Nat) (slA:OA) (slC:Nat) (drA:OA) (drC:Nat) (ha:List bZ) (heA:OA) (heC:Nat) (faA:OA) (faC:Nat) (prA:OA) (prC:Nat) (hraw:vb j az ha):
 dF Tryz.prog 6 [(vA (eX.cells (lM j kA kC cA cC bA bC slA slC drA drC heA heC faA faC prA prC)))] (o_ j kA az cA bA slA drA ha heA faA prA) (vB (decide (l7 j))):=by
 have E:=hraw.race
 have F:=hraw.nf
 have G:=hraw.np
 refine bG kr Tryz.func6 U U fun AA Q hQ hN=>?_
 try dsimp only
 refine WS fun _ D=>dV U fun H=>bp 1 U<|RK D<|WS fun _ B=>bp 1 U<|rS (LP (ct.cells (we j.Race kA kC cA cC bA bC slA slC drA drC heA heC)) 0 U bU U U U)<|rS (CL (BQ j.Race kA kC az cA cC bA bC slA slC drA drC ha heA heC asm) (aY [1,2,3,4,5,6,7,8]) U)<|rP 1 [] I ?_
 refine bS (t:=6) U (aN fun C=>?_) (aO fun C=>?_)
 ·refine rP 12 [] I ?_
  refine RK B<|ak<|Q1 hQ U U U ?_
  (exact cB (dC (show l7 j from .inl (.inl C))).symm)
 refine rP 6 [] (mc 0 U I) ?_
 refine bS (t:=12) U (aN fun A=>?_) (aO fun A=>?_)
 ·refine rP 6 [] I ?_
  refine RK B<|ak<|Q1 hQ U U U ?_
  (exact cB (dC (show l7 j from .inl (.inr A))).symm)
 refine rP 6 [] (mc 0 U I) ?_
 refine RK B<|ak<|Q1 hQ U U U ?_
 (exact cB (gS.2 (show _↔l7 j from ⟨.inr,fun q=>Or.elim q (fun q=>Or.elim q (fun q=>absurd q C) (fun q=>absurd q A)) id⟩)))
end
section
open Go.RowKit
theorem FW (j:cw) (kA:OA) (kC:Nat) (az:List RA) (cA:OA) (cC:Nat) (bA:OA) (bC:Nat) (slA:OA) (slC:Nat) (drA:OA) (drC:Nat) (ha:List bZ) (heA:OA) (heC:Nat) (faA:OA) (faC:Nat) (prA:OA) (prC:Nat) (q:cw) (k2A:OA) (k2C:Nat) (az2:List RA) (c2A:OA) (c2C:Nat) (b2A:OA) (b2C:Nat) (sl2A:OA) (sl2C:Nat) (dr2A:OA) (dr2C:Nat) (ha2:List bZ) (he2A:OA) (he2C:Nat) (fa2A:OA) (fa2C:Nat) (pr2A:OA) (pr2C:Nat) (hin:er j az ha) (hin2:er q az2 ha2) (hsm: ¬ l7 j) (hsm2: ¬ l7 q):
 dF Tryz.prog 21 [(vA (eX.cells (lM j kA kC cA cC bA bC slA slC drA drC heA heC faA faC prA prC))),(vA (eX.cells (eX.mk (ct.mk (bW.mk (bJ.mk (bj.mk k2A q.Race.au.bL.length k2C)) q.Race.au.gl (bj.mk c2A q.Race.au.aH.length c2C) (bj.mk b2A q.Race.au.aj.length b2C) q.Race.au.bV q.Race.au.ew q.Race.au.cU) (bj.mk sl2A q.Race.bu.length sl2C) (bj.mk dr2A q.Race.cP.length dr2C) q.Race.jc (bj.mk he2A q.Race.aI.length he2C)) (bj.mk fa2A q.aM.length fa2C) (bj.mk pr2A q.aB.length pr2C) q.gu q.kT)))] ((o_ j kA az cA bA slA drA ha heA faA prA)++[(rd k2A q.Race.au.bL.length 9 (q.Race.au.bL.map aD.cells)),(rd c2A q.Race.au.aH.length 2 (List.zipWith aT.cells q.Race.au.aH az2)),(iK (bK aT.jW q.Race.au.aH az2)),(rd b2A q.Race.au.aj.length 4 (q.Race.au.aj.map cQ.cells)),(rd sl2A q.Race.bu.length 1 (q.Race.bu.map iC)),(rd dr2A q.Race.cP.length 1 (q.Race.cP.map iC)),(rd he2A q.Race.aI.length 1 (List.zipWith cM q.Race.aI ha2)),(iK (bK lZ q.Race.aI ha2)),(rd fa2A q.aM.length 4 (q.aM.map bg.cells)),(rd pr2A q.aB.length 5 (q.aB.map bR.cells))]) (vB (decide (j=q))):=by
 have m:=hin.race
 have A1:=hin.race.line
 have A8:=hin.race.fE
 have A9:=hin.race.has
 have A7:=hin.race.fM
 have A5:=hin.nf
 have A6:=hin.np
 have AO:=sH hsm
 have Ac:=sH hsm2
 have J:=hin2.race
 refine bG kr Tryz.func21 U U fun w0 Q hQ hN=>?_
 try dsimp only
 refine WS fun _ r=>dV U fun b2=>dV U fun b3=>bp 1 U<|RK r<|ag fun _ s=>WS fun _ B=>bp 1 U<|rS (LP (ct.cells (we j.Race kA kC cA cC bA bC slA slC drA drC heA heC)) 1 U bU U U U)<|bp 1 U<|rS (LP (ct.cells (ct.mk (bW.mk (bJ.mk (bj.mk k2A q.Race.au.bL.length k2C)) q.Race.au.gl (bj.mk c2A q.Race.au.aH.length c2C) (bj.mk b2A q.Race.au.aj.length b2C) q.Race.au.bV q.Race.au.ew q.Race.au.cU) (bj.mk sl2A q.Race.bu.length sl2C) (bj.mk dr2A q.Race.cP.length dr2C) q.Race.jc (bj.mk he2A q.Race.aI.length he2C))) 0 U bU U U U)<|rS (CL (tI j.Race kA kC az cA cC bA bC slA slC drA drC ha heA heC q.Race k2A k2C az2 c2A c2C b2A b2C sl2A sl2C dr2A dr2C ha2 he2A he2C (by exact m) (by exact J) (by exact AO.1) (by exact Ac.1)) (aY [2,3,4,5,6,7,8,9,12,13,14,15,16,17,18,19]) U)<|rP 2 [] I ?_
 refine bS (t:=13) U (aX fun E=>?_) (aW fun E=>?_)
 ·refine bp 31 U<|RK B<|aL U<|WS fun _ w=>rP 1 [] I ?_
  refine RK w<|ak<|Q1 hQ U U U ?_
  exact cB (br (fun e=>by subst e; exact E rfl)).symm
 refine rP 7 [0,1] (mc 1 U (mc 0 U I)) ?_
 refine bS (t:=20) U (aX fun F=>?_) (aW fun F=>?_)
 ·refine bp 24 U<|RK B<|aL U<|WS fun _ x=>rP 1 [] I ?_
  refine RK x<|ak<|Q1 hQ U U U ?_
  exact cB (br (fun e=>by subst e; exact F rfl)).symm
 refine rP 7 [0,1] (mc 1 U (mc 0 U I)) ?_
 refine bS (t:=27) U (aX fun G=>?_) (aW fun G=>?_)
 ·refine bp 17 U<|RK B<|aL U<|WS fun _ y=>rP 1 [] I ?_
  refine RK y<|ak<|Q1 hQ U U U ?_
  exact cB (br (fun e=>by subst e; exact G rfl)).symm
 refine rP 9 [0,1] (mc 1 U (mc 0 U I)) ?_
 refine bS (t:=36) U (aX fun K=>?_) (aW fun K=>?_)
 ·refine bp 8 U<|RK B<|aL U<|WS fun _ AC=>rP 1 [] I ?_
  refine RK AC<|ak<|Q1 hQ U U U ?_
  exact cB (br (fun e=>by subst e; exact K rfl)).symm
 refine rP 8 [0,1] (mc 1 U (mc 0 U I)) ?_
 refine RK B<|cb U (aX fun L=>?_) (aW fun L=>?_)
 ·refine WS fun _ O=>rP 1 [] I ?_
  refine RK O<|ak<|Q1 hQ U U U ?_
  exact cB (br (fun e=>by subst e; exact L rfl)).symm
 refine WK s<|ag fun _ P=>WS fun _ R=>rP 1 [] I ?_
 refine RK R<|ax ?_
 have A:(0≤j.aM.length)∧(j.aM.take 0=q.aM.take 0):=by exact ⟨Nat.zero_le _,rfl⟩
 refine bP (ι:={z:Nat // (z≤j.aM.length)∧(j.aM.take z=q.aM.take z)}) [2,3] [0,1,2,3,4,5,6,7,8,9,10,11,12,13,14,15,16,17,18,19,20,21] U U (fun z=>[(5,(vI (z.1:Int)))]) (fun z=>[]) (fun _=>rfl) (fun _=>rfl) (fun z=>j.aM.length-z.1) ⟨0,A⟩ (bf U) (aK [0,1,2,3,4,5,6,7,8,9,10,11,12,13,14,15,16,17,18,19,20,21]) ?_
 clear A
 rintro ⟨k,⟨As,C⟩⟩ J13 M
 try dsimp only
 refine ag fun _ S=>WS fun _ T=>rP 5 [] (mc 1 U I) ?_
 refine RK T<|cb U (aN fun n=>?_) (aO fun n=>?_)
 ·refine WK S<|ag fun _ AA=>ax<|ag fun _ V=>cS cj 11 kr<|dP 3 [] (mc 1 U I) ?_
  obtain ⟨f,hf⟩:=aA j.aM k om
  have AM:=bH bg.cells hf
  refine dS (IA k U (av 10 U) yf dc om om)<|dS (jK k 0 (bg.cells f) U bU (av 10 U) AM U dc U U)<|dP 3 [] (mc 0 U I) ?_
  obtain ⟨u,hu⟩:=aA q.aM k om
  have A3:=bH bg.cells hu
  refine dS (IA k U (av 20 U) yf dc om om)<|dS (jK k 0 (bg.cells u) U bU (av 20 U) A3 U dc U U)<|dS (BI U (SN _ _ f u))<|cu<|RK V<|bO U (aW fun H=>?_) (aX fun H=>?_)
  ·refine cg<|aJ<|KK AA<|ao<|rP 3 [] I ?_
   refine aC ?_
   have h:(vI (((k+1):Nat):Int))=(vI ((k:Int)+1)):=by exact cI om
   refine a_ (M ⟨(k+1),⟨om,iA C hf hu H⟩⟩ _ _ _ U os (cR.cons U<|cR.cons U<|aU U h<|cR.nil _) (aK [0,1,2,3,4,5,6,7,8,9,10,11,12,13,14,15,16,17,18,19,20,21]))
  refine WS fun _ W=>rP 1 [] I ?_
  refine RK W<|ak<|Q1 hQ U U U ?_
  exact cB (br (fun e=>by subst e; (rw [hf] at hu; cases hu; exact H rfl))).symm
 refine bM<|ab<|ab<|aF<|KK P<|ag fun _ X=>WS fun _ Y=>rP 1 [] I ?_
 refine RK Y<|ax ?_
 have A:(0≤j.aB.length)∧(j.aB.take 0=q.aB.take 0):=by exact ⟨Nat.zero_le _,rfl⟩
 refine bP (ι:={z:Nat // (z≤j.aB.length)∧(j.aB.take z=q.aB.take z)}) [2,3] [0,1,2,3,4,5,6,7,8,9,10,11,12,13,14,15,16,17,18,19,20,21] U U (fun z=>[(6,(vI (z.1:Int)))]) (fun z=>[]) (fun _=>rfl) (fun _=>rfl) (fun z=>j.aB.length-z.1) ⟨0,A⟩ (bf U) (aK [0,1,2,3,4,5,6,7,8,9,10,11,12,13,14,15,16,17,18,19,20,21]) ?_
 clear A
 rintro ⟨i,⟨A0,D⟩⟩ J23 N
 try dsimp only
 refine ag fun _ Z=>WS fun _ a=>rP 5 [] (mc 1 U I) ?_
 refine RK a<|bO U (aO fun o=>?_) (aN fun o=>?_)
 ·refine bM<|ab<|ab<|aF<|KK X<|WS fun _ g=>rP 1 [] I ?_
  refine RK g<|ak<|Q1 hQ U U U ?_
  exact cB (dC (G7 E F G (jA om C om) (jA om D om))).symm
 refine WK Z<|ag fun _ b=>ax<|ag fun _ c=>cS cj 11 kr<|dP 3 [] (mc 1 U I) ?_
 obtain ⟨p,hp⟩:=aA j.aB i om
 have A2:=bH bR.cells hp
 refine dS (IA i U (av 11 U) wK dc om om)<|dS (jK i 0 (bR.cells p) U bU (av 11 U) A2 U dc U U)<|dP 3 [] (mc 0 U I) ?_
 obtain ⟨v,hv⟩:=aA q.aB i om
 have A4:=bH bR.cells hv
 refine dS (IA i U (av 21 U) wK dc om om)<|dS (jK i 0 (bR.cells v) U bU (av 21 U) A4 U dc U U)<|dS (BI U (QD _ _ p v))<|cu<|RK c<|bO U (aW fun AB=>?_) (aX fun AB=>?_)
 ·refine cg<|aJ<|KK b<|ao<|rP 3 [] I ?_
  refine aC ?_
  have l:(vI (((i+1):Nat):Int))=(vI ((i:Int)+1)):=by exact cI om
  refine a_ (N ⟨(i+1),⟨om,iA D hp hv AB⟩⟩ _ _ _ U os (cR.cons U<|cR.cons U<|aU U l<|cR.nil _) (aK [0,1,2,3,4,5,6,7,8,9,10,11,12,13,14,15,16,17,18,19,20,21]))
 refine WS fun _ d=>rP 1 [] I ?_
 refine RK d<|ak<|Q1 hQ U U U ?_
 exact cB (br (fun e=>by subst e; (rw [hp] at hv; cases hv; exact AB rfl))).symm
end
section
open Go.RowKit
theorem DI (l:bq) (kA:OA) (kC:Nat) (az:List RA) (cA:OA) (cC:Nat) (bA:OA) (bC:Nat) (d:aq) (sgA:OA) (sgC:Nat) (hin:ej l az) (hle:e8 l=0) (hsl:d.aV.aa.length≤1000000) (hk:d.Out=true):
 dF Tryz.prog 129 [(vA (bW.cells (jy l kA kC cA cC bA bC))),(vA (aR.cells (aR.mk d.Out d.cD d.Time (g8 d.aV sgA sgC))))] ((o7 l kA az cA bA)++[(rd sgA d.aV.aa.length 2 (d.aV.aa.map aG.cells))]) (vT [(vA (ai.cells (ph l d))),(vB (decide (js l d)))]):=by
 have K:=hin.qF
 have J:=hin.qL
 have H:=hin.lQ
 have AA:=hin.qE
 refine bG kr Tryz.func129 U U fun O Q hQ hN=>?_
 try dsimp only
 refine WS fun _ B=>dV U fun L=>dV U fun M=>AL U eg fun N=>bp 1 U<|RK B<|ag fun _ E=>ax<|WS fun _ C=>rP 3 [] (mc 1 U I) ?_
 refine RK C<|bO U (fun G=>?_) (fun G=>?_)
 ·exact absurd ((hk).symm.trans G) dc
 refine WS fun _ A=>rS (SX (bD (xs:=[]) (cs:=(ai.cells (ai.mk 0 0))) U U (bE g6 U)) U U)<|rP 4 [] (mc 1 U I) ?_
 refine cx (t:=15) U (fun D=>?_) (fun D=>?_)
 ·rw [Bool.not_eq_false'] at D
  refine bp 10 U<|e7 U cW U<|rP 1 [] I ?_
  refine RK A<|ak<|ml hQ [0] (mc 0 U I) U ?_
  clear hQ hN A C E B
  rw [Ad hk]
  simp only [qU hk]
  refine congrArg (fun z=>Value.tuple #[_,vB z]) ?_
  first|rfl|(simp_all [h_]; done)
 rw [Bool.not_eq_true'] at D
 refine bp 1 U<|rS (LP (ai.cells d.Time) 1 U bU U U U)<|rS (SX (bD (xs:=[]) (cs:=(ai.cells (ai.mk 0 0))) U U (bE g6 U)) U U)<|rS (BI U (wF _ _ d.Time (ai.mk 0 0)))<|rP 2 [] I ?_
 refine cx (t:=21) U (aO fun F=>?_) (aN fun F=>?_)
 ·refine bp 4 U<|e7 U cW U<|rP 1 [] I ?_
  refine RK A<|ak<|ml hQ [0] (mc 0 U I) U ?_
  clear hQ hN A C E B
  rw [Ad hk]
  simp only [qU hk]
  refine congrArg (fun z=>Value.tuple #[_,vB z]) ?_
  first|rfl|(simp_all [h_]; done)
 refine bp 1 U<|rS (LP (de.cells (g8 d.aV sgA sgC)) 1 U bU U U U)<|rS (CL (E6 d.aV sgA sgC) (aY [7]) U)<|bp 1 U<|e7 U cW U<|rP 1 [] I ?_
 refine RK A<|ak<|ml hQ [0] (mc 0 U I) U ?_
 clear hQ hN A C E B
 rw [Ad hk]
 simp only [qU hk]
 refine congrArg (fun z=>Value.tuple #[_,vB z]) ?_
 first|rfl|(simp_all [h_]; done)
theorem DZ (l:bq) (kA:OA) (kC:Nat) (az:List RA) (cA:OA) (cC:Nat) (bA:OA) (bC:Nat) (d:aq) (sgA:OA) (sgC:Nat) (hin:ej l az) (hle:e8 l=0) (hsl:d.aV.aa.length≤1000000) (hk:d.Out=false∧d.cD=true):
 dF Tryz.prog 129 [(vA (bW.cells (jy l kA kC cA cC bA bC))),(vA (aR.cells (aR.mk d.Out d.cD d.Time (g8 d.aV sgA sgC))))] ((o7 l kA az cA bA)++[(rd sgA d.aV.aa.length 2 (d.aV.aa.map aG.cells))]) (vT [(vA (ai.cells (ph l d))),(vB (decide (js l d)))]):=by
 have N:=hin.qF
 have M:=hin.qL
 have K:=hin.lQ
 have L:=hin.qE
 refine bG kr Tryz.func129 U U fun S Q hQ hN=>?_
 try dsimp only
 refine WS fun _ D=>dV U fun O=>dV U fun P=>AL U eg fun R=>bp 1 U<|RK D<|ag fun _ H=>ax<|WS fun _ E=>rP 3 [] (mc 1 U I) ?_
 refine RK E<|cb U (fun J=>?_) (fun J=>?_)
 ·exact absurd ((hk.1).symm.trans J) dc
 refine WS fun _ F=>rP 3 [] (mc 1 U I) ?_
 refine RK F<|bO U (fun G=>?_) (fun G=>?_)
 ·exact absurd ((hk.2).symm.trans G) dc
 refine ag fun _ B=>dp cj [10] [] [] [1,2,3,4,5,6,7] [] U U U U U<|eS U (FA 2 U eC U)<|eS U (LP (ai.cells d.Time) 0 U bU U U U)<|eS U (FA 2 U eC U)<|eS U (LP (ai.cells d.Time) 0 U bU U U U)<|eS U (CL (NN d.Time) (aS) U)<|eS U (MV U)<|sK (t:=34) U (fun A=>?_) (fun A=>?_)
 rotate_left 1
 ·replace A:=DF A
  refine eS U (OX U)<|eS U (OX U)<|eS U (OX U)<|eS U (PK U)<|eS U (AG U)<|ed U<|cf U fun T10 C=>e7 U cW U<|aC (C _ _ (aK [1,2,3,4,5,6,7]) ?_)
  refine e9 U<|KK B<|ak<|ml hQ [0] (mc 0 U I) U ?_
  clear hQ hN C T10 B F E H D
  rw [EY hk]
  simp only [xQ hk]
  refine congrArg (fun z=>Value.tuple #[_,vB z]) ?_
  first|rfl|(simp_all; done)
 replace A:=DT A
 refine eS U (FA 4 U eC U)<|eS U (LP (de.cells (g8 d.aV sgA sgC)) 0 U bU U U U)<|eS U (CL (E6 d.aV sgA sgC) (aY [6]) U)<|eS U (PK U)<|eS U (AG U)<|ed U<|cf U fun T9 AA=>e7 U cW U<|aC (AA _ _ (aK [1,2,3,4,5,6,7]) ?_)
 refine e9 U<|KK B<|ak<|ml hQ [0] (mc 0 U I) U ?_
 clear hQ hN AA T9 B F E H D
 rw [EY hk]
 simp only [xQ hk]
 refine congrArg (fun z=>Value.tuple #[_,vB z]) ?_
 first|rfl|(simp_all; done)
theorem Dz (l:bq) (kA:OA) (kC:Nat) (az:List RA) (cA:OA) (cC:Nat) (bA:OA) (bC:Nat) (d:aq) (sgA:OA) (sgC:Nat) (hin:ej l az) (hle:e8 l=0) (hsl:d.aV.aa.length≤1000000) (hk:d.Out=false∧d.cD=false):
 dF Tryz.prog 129 [(vA (bW.cells (jy l kA kC cA cC bA bC))),(vA (aR.cells (aR.mk d.Out d.cD d.Time (g8 d.aV sgA sgC))))] ((o7 l kA az cA bA)++[(rd sgA d.aV.aa.length 2 (d.aV.aa.map aG.cells))]) (vT [(vA (ai.cells (ph l d))),(vB (decide (js l d)))]):=by
 have O:=hin.qF
 have N:=hin.qL
 have L:=hin.lQ
 have M:=hin.qE
 refine bG kr Tryz.func129 U U fun AA Q hQ hN=>?_
 try dsimp only
 refine WS fun _ E=>dV U fun P=>dV U fun R=>AL U eg fun S=>bp 1 U<|RK E<|ag fun _ F=>ax<|WS fun _ G=>rP 3 [] (mc 1 U I) ?_
 refine RK G<|cb U (fun K=>?_) (fun K=>?_)
 ·exact absurd ((hk.1).symm.trans K) dc
 refine WS fun _ H=>rP 3 [] (mc 1 U I) ?_
 refine RK H<|cb U (fun J=>?_) (fun J=>?_)
 ·exact absurd ((hk.2).symm.trans J) dc
 refine cg<|aJ<|KK F<|WS fun _ AB=>dZ 2 [] (mc 2 U I) U<|rS (LP (de.cells (g8 d.aV sgA sgC)) 1 U bU U U U)<|rS (CL (O4 l kA kC az cA cC bA bC d.aV sgA sgC hin hsl) (aY [3,4,5,6,7]) U)<|bp 3 U<|AL U eg fun T=>e7 U cW U<|rP 1 [] I ?_
 refine RK AB<|ag fun _ A=>dp cj [9] [] [] [0,2,3,4,5,6,7,8] [] U U U U U<|eS U (LW 0 U bU U U)<|eS U (MV U)<|eS U (BI U kf)<|eS U (MV U)<|sK (t:=49) U (fun B=>?_) (fun B=>?_)
 rotate_left 1
 ·replace B:=DF B
  refine eS U (OX U)<|eS U (OX U)<|eS U (OX U)<|eS U (OX U)<|eS U (PK U)<|eS U (AG U)<|ed U<|cf U fun T12 D=>pV U cW U<|aC (D _ _ (aK [0,2,3,4,5,6,7,8]) ?_)
  refine e9 U<|KK A<|ak<|ml hQ [0] (mc 1 U I) U ?_
  clear hQ hN D T12 A AB H G F E
  rw [EW hk]
  simp only [ud hk]
  refine congrArg (fun z=>Value.tuple #[_,vB z]) ?_
  first|rfl|(simp_all [h_]; done)
 replace B:=DT B
 refine eS U (FA 2 U eC U)<|eS U (LP (ai.cells d.Time) 1 U bU U U U)<|eS U (SX (bD (xs:=[]) (cs:=(ai.cells (ai.mk 0 0))) U U (bE g6 U)) U U)<|eS U (BI U (wF _ _ d.Time (ai.mk 0 0)))<|eS U (PK U)<|eS U (AG U)<|ed U<|cf U fun T11 C=>pV U cW U<|aC (C _ _ (aK [0,2,3,4,5,6,7,8]) ?_)
 refine e9 U<|KK A<|ak<|ml hQ [0] (mc 1 U I) U ?_
 clear hQ hN C T11 A AB H G F E
 rw [EW hk]
 simp only [ud hk]
 refine congrArg (fun z=>Value.tuple #[_,vB z]) ?_
 first|rfl|(simp_all [h_]; done)
theorem HG (l:bq) (kA:OA) (kC:Nat) (az:List RA) (cA:OA) (cC:Nat) (bA:OA) (bC:Nat) (d:aq) (sgA:OA) (sgC:Nat) (hin:ej l az) (hle:e8 l=0) (hsl:d.aV.aa.length≤1000000):
 dF Tryz.prog 129 [(vA (bW.cells (jy l kA kC cA cC bA bC))),(vA (aR.cells (aR.mk d.Out d.cD d.Time (g8 d.aV sgA sgC))))] ((o7 l kA az cA bA)++[(rd sgA d.aV.aa.length 2 (d.aV.aa.map aG.cells))]) (vT [(vA (ai.cells (ph l d))),(vB (decide (js l d)))]):=by
 by_cases ho:d.Out=true
 ·exact DI l kA kC az cA cC bA bC d sgA sgC hin hle hsl ho
 by_cases hf:d.cD=true
 ·exact DZ l kA kC az cA cC bA bC d sgA sgC hin hle hsl ⟨by simpa using ho,hf⟩
 ·exact Dz l kA kC az cA cC bA bC d sgA sgC hin hle hsl ⟨by simpa using ho,by simpa using hf⟩
end
section
open Go.RowKit
theorem EF (r:eU) (kA:OA) (kC:Nat) (az:List RA) (cA:OA) (cC:Nat) (bA:OA) (bC:Nat) (slA:OA) (slC:Nat) (drA:OA) (drC:Nat) (ha:List bZ) (heA:OA) (heC:Nat) (hin:iP r az ha) (hle:e8 r.au=0):
 lO Tryz.prog 106 [(vA (ct.cells (we r kA kC cA cC bA bC slA slC drA drC heA heC)))] (Ix r kA az cA bA slA drA ha heA) (fun (x:Bool×Int×(OA)×Nat×(List RA))=>bif x.1 then (vT [(vS x.2.2.1 ((fT r).length) x.2.2.2.1),(vB true)]) else (vT [(vS none 0 0),(vB false)])) (fun (x:Bool×Int×(OA)×Nat×(List RA))=>(x.1=true→(fQ r∧x.2.2.2.2.length=r.aI.length))∧(x.1=false→(x.2.1=0∧ ¬ fQ r))) (fun (x:Bool×Int×(OA)×Nat×(List RA))=>bif x.1 then [(own x.2.2.1 x.2.2.2.1 121 1 (List.zipWith Nh (fT r) x.2.2.2.2)),(bQ (bK FH (fT r) x.2.2.2.2))] else []):=by
 have Op:=hin.line
 have QI:=hin.fE
 have Qq:=hin.has
 have Pe:=hin.fM
 have PF:=hin.draw
 have Pi:=jo (r:=r)
 refine dK kr Tryz.func106 U U fun w0 Q hQ hN=>?_
 try dsimp only
 refine WS fun _ Lk=>dV U fun b2=>bp 2 U<|RK Lk<|WS fun _ Lo=>dZ 4 [] (mc 0 U I) U<|RK Lo<|ag fun _ L0=>WS fun _ N=>bp 1 U<|rS (CL (pz (r.bu.length:Int) 1 5) (aS) U)<|rP 2 [] I ?_
 refine bS (t:=19) U (aX fun K4=>?_) (aW fun K4=>?_)
 ·refine bp 19 U<|RK N<|aL U<|WS fun _ L2=>rP 2 [] I ?_
  refine RK L2<|ak<|LX hQ (false,0,none,0,[]) [] [] I U (by rfl) U U ?_
  (exact ⟨Fj,fun _=>⟨rfl,fun q=>by have S:=q.num; have q2:=q.Be; have q3:=q.nh; have q4:=q.AM; omega⟩⟩)
 refine rP 7 [] (mc 0 U I) ?_
 refine bS (t:=26) U (aX fun X=>?_) (aW fun X=>?_)
 ·refine bp 12 U<|RK N<|aL U<|WS fun _ L3=>rP 2 [] I ?_
  refine RK L3<|ak<|LX hQ (false,0,none,0,[]) [] [] I U (by rfl) U U ?_
  (exact ⟨Fj,fun _=>⟨rfl,fun q=>by have S:=q.num; have q2:=q.Be; have q3:=q.nh; have q4:=q.AM; omega⟩⟩)
 refine dZ 2 [] (mc 0 U I) U<|rS (CL (pz r.jc 0 5) (aS) U)<|rP 3 [] I ?_
 refine bS (t:=32) U (aX fun K5=>?_) (aW fun K5=>?_)
 ·refine bp 6 U<|RK N<|aL U<|WS fun _ MK=>rP 2 [] I ?_
  refine RK MK<|ak<|LX hQ (false,0,none,0,[]) [] [] I U (by rfl) U U ?_
  (exact ⟨Fj,fun _=>⟨rfl,fun q=>by have S:=q.num; have q2:=q.Be; have q3:=q.nh; have q4:=q.AM; omega⟩⟩)
 refine dZ 3 [] (mc 0 U I) U<|rS (CL (pz (r.aI.length:Int) 1 3) (aS) U)<|rP 2 [] I ?_
 refine RK N<|cb U (aX fun LA=>?_) (aW fun LA=>?_)
 ·refine WS fun _ M2=>rP 2 [] I ?_
  refine RK M2<|ak<|LX hQ (false,0,none,0,[]) [] [] I U (by rfl) U U ?_
  (exact ⟨Fj,fun _=>⟨rfl,fun q=>by have S:=q.num; have q2:=q.Be; have q3:=q.nh; have q4:=q.AM; omega⟩⟩)
 refine WK L0<|ag fun _ o=>WS fun _ p=>rP 1 [] I ?_
 refine RK p<|ax ?_
 have A:(0≤r.bu.length)∧(yP r 0):=by exact ⟨Nat.zero_le _,JV⟩
 refine bP (ι:={z:Nat // (z≤r.bu.length)∧(yP r z)}) [1,4] [0,1,2,3,4,5,6,7,8] U U (fun z=>[(5,(vI (z.1:Int)))]) (fun z=>[]) (fun _=>rfl) (fun _=>rfl) (fun z=>r.bu.length-z.1) ⟨0,A⟩ (bf U) (aK [0,1,2,3,4,5,6,7,8]) ?_
 clear A
 rintro ⟨i,⟨Nl,AB⟩⟩ J12 T
 try dsimp only
 refine ag fun _ s=>WS fun _ v=>rP 3 [] I ?_
 refine RK v<|bO U (aO fun K0=>?_) (aN fun K0=>?_)
 ·refine bM<|ab<|ab<|aF<|KK o<|WS fun _ B3=>bp 1 U<|RK B3<|ag fun _ B9=>WS fun _ Ci=>rP 1 [] I ?_
  refine RK Ci<|ax<|fu 121 1<|lx ?_
  have A:(0≤r.aI.length)∧(([]:List RA).length=0)∧(kE r 0):=by exact ⟨Nat.zero_le _,rfl,xh⟩
  refine bP (ι:={z:Nat×(List RA)×(OA)×Nat // (z.1≤r.aI.length)∧(z.2.1.length=z.1)∧(kE r z.1)}) [1,4] [2,3,4,5,6,7,8,9,10] U U (fun z=>[(7,(vS z.1.2.2.1 ((List.zipWith Df (hG r z.1.1) z.1.2.1).length) z.1.2.2.2)),(8,(vI (z.1.1:Int)))]) (fun z=>[(bQ (bK FH (hG r z.1.1) z.1.2.1)),(own z.1.2.2.1 z.1.2.2.2 121 1 (List.map sC (List.zipWith Df (hG r z.1.1) z.1.2.1)))]) (fun _=>rfl) (fun _=>rfl) (fun z=>r.aI.length-z.1.1) ⟨(0,([]:List RA),none,0),A⟩ (bf U) (aK [2,3,4,5,6,7,8,9,10,0,1]) ?_
  clear A
  rintro ⟨⟨h,tz,a,c⟩,⟨P,C,F⟩⟩ J46 l
  try dsimp only at P C F
  try dsimp only
  refine ag fun _ Ck=>WS fun _ Cp=>rP 5 [] (mc 0 U I) ?_
  refine RK Cp<|bO U (aO fun LE=>?_) (aN fun LE=>?_)
  ·refine bM<|ab<|ab<|aF<|KK B9<|ag fun _ GT=>?_
   have Ne:hG r h=fT r:=by unfold fT; rw [show h=r.aI.length by omega]
   have Or:tz.length=r.aI.length:=by omega
   rw [Ne,zm,show (List.zipWith Df (fT r) tz).length=(fT r).length from by rw [List.length_zipWith]; omega]
   have I2:fQ r:=GB (n:=i) om om om om om AB F om
   refine ao<|rP 3 [] I ?_
   refine RK GT<|ak ?_
   refine LX hQ (true,0,a,c,tz) [10,9] [] I U (by (show List.all _ _=true; simp only [cond_true,fX,List.all_nil,DN,Bool.and_true]; rfl)) U U ?_
   exact ⟨fun _=>⟨I2,Or⟩,Of⟩
  refine WK Ck<|ag fun _ Cx=>ax<|ag fun _ C0=>WS fun _ C1=>rP 3 [] (mc 0 U I) ?_
  obtain ⟨ht,D⟩:=aA r.aI h om
  obtain ⟨E,H⟩:=aA ha h om
  have W:(List.zipWith cM r.aI ha)[h]? =some (cM ht E):=cG D H
  refine rS (IA h U (av 7 U) kF dc om om) ?_
  have Iv:=hin.fJ _ _ _ D H
  have PP:=Iv.lQ
  refine rS (gD h 0 (vS E.1.1 ht.length E.1.2) U bU (av 7 U) W U dc U)<|rP 3 [] I ?_
  refine RK C1<|cb U (aX fun e=>?_) (aW fun e=>?_)
  ·refine WS fun _ C2=>rP 2 [] I ?_
   refine RK C2<|ak<|LX hQ (false,0,none,0,[]) [] [] I U (by rfl) U U ?_
   (exact ⟨Fj,fun _=>⟨rfl,fun q=>by have S:=(q.fJ ht (aP D)).1; omega⟩⟩)
  refine WK C0<|WS fun _ C3=>bp 1 U<|RK C3<|ag fun _ Di=>WS fun _ Do=>rP 1 [] I ?_
  refine RK Do<|ax<|fu 38 2 ?_
  have A:(0≤ht.length)∧(oM r.au ht 0):=by exact ⟨Nat.zero_le _,wo⟩
  refine bP (ι:={z:Nat×(OA)×Nat // (z.1≤ht.length)∧(oM r.au ht z.1)}) [1,4,7,8] [1,2,3,4,5,6,7,8,9,10,11] U U (fun z=>[(9,(vS z.1.2.1 (((ht.take z.1.1).map (gv r.au)).length) z.1.2.2)),(10,(vI (z.1.1:Int)))]) (fun z=>[(own z.1.2.1 z.1.2.2 38 2 (((ht.take z.1.1).map (gv r.au)).map ai.cells))]) (fun _=>rfl) (fun _=>rfl) (fun z=>ht.length-z.1.1) ⟨(0,none,0),A⟩ (bf U) (aK [1,2,3,4,5,6,7,8,9,10,11,0]) ?_
  clear A
  rintro ⟨⟨j,la,lc⟩,⟨R,G⟩⟩ J57 m
  try dsimp only at R G
  try dsimp only
  refine ag fun _ EQ=>WS fun _ EZ=>rP 3 [] I ?_
  refine RK EZ<|bO U (aO fun La=>?_) (aN fun La=>?_)
  ·refine bM<|ab<|ab<|aF<|KK Di<|ao ?_
   rw [show ((ht.take j).map (gv r.au))=ht.map (gv r.au) from by rw [List.take_of_length_le om]]
   refine rP 2 [] I ?_
   refine e_ (xs:=[.tmp 137]) (cs:=[(vS la ((ht.map (gv r.au)).length) lc)]) U Ky N2 U U U U (by simp [Value.cells]) U U fun Pr=>?_
   refine cN (es2:=(List.map sC (List.zipWith Df (hG r (h+1)) (tz++[(la,lc)])))) (m':=(List.zipWith Df (hG r (h+1)) (tz++[(la,lc)])).length) 11 U U U N7 U U sm (bo (es:=List.map sC [(bj.mk la ((ht.map (gv r.au)).length) lc)]) 0 U U (by simp [zH]) U) (IJ _) (by rw [List.length_zipWith,lq om]; omega) (by rw [List.length_zipWith,lq om]; simp only [maxLen]; omega) (by rw [t_ D C,List.map_append]; rfl) (by rw [t_ D C]; simp) U fun J7 J9=>?_
   try dsimp only
   refine bp 1 U<|aC<|aJ<|KK Cx<|ao<|rP 3 [] I ?_
   refine aC<|yE (X':=bK FH (hG r (h+1)) (tz++[(la,lc)])) 10 12 U U (BO (a:=(la,lc)) D C) ?_
   have If:(vI (((h+1):Nat):Int))=(vI ((h:Int)+1)):=by exact cI om
   refine a_ (l ⟨((h+1),(tz++[(la,lc)]),J7,J9),⟨om,by simp; omega,yD F D (FQ om G om)⟩⟩ _ _ _ U os (cz 3<|aU U If<|cR.nil _) (aK [2,3,4,5,6,7,8,9,10,0,11]))
  refine WK EQ<|ag fun _ Eq=>ax<|ag fun _ FS=>dp cj [14,15] [] [] [0,1,2,3,4,5,6,7,8,9,10,11] [] U U U U U<|eS U (FA 0 U eC U)<|eS U (LP (bW.cells (jy r.au kA kC cA cC bA bC)) 0 U bU U U U)<|eS U (FA 10 U eC U)<|eS U (L1 (vS heA r.aI.length heC) 0 U bU U U)<|eS U (MV U)<|eS U (IA h U (av 7 U) kF dc om om)<|eS U (gD h 0 (vS E.1.1 ht.length E.1.2) U bU (av 7 U) W U dc U)<|eS U (MV U) ?_
  obtain ⟨d,hd⟩:=aA ht j om
  obtain ⟨da,In⟩:=aA E.2 j om
  have NE:(List.zipWith aq.cells ht E.2)[j]? =some (aq.cells d da):=cG hd In
  refine eS U (IA j U (show g9 _ (rd E.1.1 ht.length 7 (List.zipWith aq.cells ht E.2)).holds from (cd 8 U (bB D H cr))) ov dc om om)<|eS U (jK j 0 (aR.cells (aR.mk d.Out d.cD d.Time (de.mk d.aV.Start d.aV.gL (bj.mk da.1 d.aV.aa.length da.2)))) U bU (show g9 _ (rd E.1.1 ht.length 7 (List.zipWith aq.cells ht E.2)).holds from (cd 8 U (bB D H cr))) NE U dc U U) ?_
  have Qr:=Iv.sig d (aP hd)
  refine eS U (CL (HG r.au kA kC az cA cC bA bC d da.1 da.2 asm hle asm) (mq [1,2,3,4]<|aw (show g9 _ (rd da.1 d.aV.aa.length 2 (d.aV.aa.map aG.cells)).holds from (cd 8 U (bB D H (dH _ (bB hd In (by simp [aq.jW]))))))<|aS) U)<|eS U (MV U)<|eS U (EX U)<|eS U (EX U)<|eS U (AG U)<|ed U<|cf U fun T63 Go=>AL U eg fun Pl=>aC (Go _ _ (aK [1,2,3,4,5,6,7,8,9,10,11,12]) ?_)
  refine cf U fun T65 Hi=>e7 U cW U<|aC (Hi _ _ (aK [1,2,3,4,5,6,7,8,9,10,11,12]) ?_)
  refine e9 U<|KK FS<|ag fun _ Fd=>WS fun _ Fn=>rP 2 [] I ?_
  refine RK Fn<|cb U (aX fun J=>?_) (aW fun J=>?_)
  ·refine WS fun _ GE=>rP 2 [] I ?_
   refine RK GE<|ak<|LX hQ (false,0,none,0,[]) [] [] I U (by rfl) U U ?_
   (exact ⟨Fj,fun _=>⟨rfl,fun q=>by exact J ((q.fJ ht (aP D)).2 d (aP hd))⟩⟩)
  refine WK Fd<|ao<|rP 2 [] (mc 0 U I) ?_
  refine e_ (xs:=[.tmp 133]) (cs:=(ai.cells (ph r.au d))) U lK eg U U U U (by simp [Value.cells,ai.bI]) U U fun Pp=>?_
  refine cN (es2:=(List.map ai.cells ((ht.take (j+1)).map (gv r.au)))) (m':=((ht.take (j+1)).map (gv r.au)).length) 13 U U U F8 U U sm (bo (es:=List.map ai.cells [(ph r.au d)]) 0 U U (by simp [ai.bI]) U) (lf _) (by simp only [List.length_map,List.length_take]; omega) (by simp only [maxLen,List.length_map,List.length_take]; omega) (by rw [List.take_add_one,hd]; simp [Ii J]) sq U fun J6 J8=>?_
  try dsimp only
  refine bp 1 U<|aC<|aJ<|KK Eq<|ao<|rP 3 [] I ?_
  refine aC ?_
  have Id:(vI (((j+1):Nat):Int))=(vI ((j:Int)+1)):=by exact cI om
  refine a_ (m ⟨((j+1),J6,J8),⟨om,wg G hd J⟩⟩ _ _ _ U os (cz 5<|aU U Id<|cR.nil _) (aK [2,3,4,5,6,7,8,9,10,11,12,13]))
 refine WK s<|ag fun _ AA=>ax<|ag fun _ V=>ag fun _ K=>cS cj 36 kr<|dP 3 [] (mc 0 U I) ?_
 obtain ⟨y,hy⟩:=aA r.bu i om
 have J2:=bH iC hy
 refine dS (IA i U (av 5 U) dI dc om om)<|dS (gD i 0 (vI y) U bU (av 5 U) J2 U dc U)<|dS (CL (pz y 0 9999) (aS) U)<|dP 2 [] I ?_
 refine ic (t:=51) U (aX fun LT=>?_) (aW fun LT=>?_)
 ·refine kK 28 U<|cu<|RK K<|aL U<|WS fun _ w=>rP 2 [] I ?_
  refine RK w<|ak<|LX hQ (false,0,none,0,[]) [] [] I U (by rfl) U U ?_
  (exact ⟨Fj,fun _=>⟨rfl,fun q=>by have S:=(q.ids i y hy).1; omega⟩⟩)
 refine dP 3 [] I ?_
 refine jl (t:=54) U (aO fun LY=>?_) (aN fun LY=>?_)
 ·refine dP 18 [] (mc 0 U I) ?_
  obtain ⟨x,hx⟩:=aA r.cP i om
  have M:=bH iC hx
  refine dS (IA i U (av 6 U) dI dc om om)<|dS (gD i 0 (vI x) U bU (av 6 U) M U dc U)<|kK 2 U<|dS (CL (pz x 0 ((r.bu.length:Int)-1)) (aS) U)<|dP 2 [] I ?_
  refine cu<|RK K<|cb U (aX fun Y=>?_) (aW fun Y=>?_)
  ·refine WS fun _ A4=>rP 2 [] I ?_
   refine RK A4<|ak<|LX hQ (false,0,none,0,[]) [] [] I U (by rfl) U U ?_
   (exact ⟨Fj,fun _=>⟨rfl,fun q=>by have S:=q.KV hx; omega⟩⟩)
  refine WK V<|WS fun _ A5=>rP 1 [] I ?_
  refine RK A5<|ax ?_
  have A:(0≤i)∧(∀ (q:Nat) y,q<0→r.cP[q]? =some y→y≠x):=by exact ⟨Nat.zero_le _,fun q y hq=>absurd hq (Nat.not_lt_zero _)⟩
  refine bP (ι:={z:Nat // (z≤i)∧(∀ (q:Nat) y,q<z→r.cP[q]? =some y→y≠x)}) [1,4,5] [0,1,2,3,4,5,6,7,8] U U (fun z=>[(6,(vI (z.1:Int)))]) (fun z=>[]) (fun _=>rfl) (fun _=>rfl) (fun z=>i-z.1) ⟨0,A⟩ (bf U) (aK [0,1,2,3,4,5,6,7,8]) ?_
  clear A
  rintro ⟨k,⟨O,B⟩⟩ J34 g
  try dsimp only
  refine ag fun _ A6=>WS fun _ A7=>rP 3 [] I ?_
  refine RK A7<|bO U (aO fun K8=>?_) (aN fun K8=>?_)
  ·refine bM<|ab<|ab<|aF<|aJ<|KK AA<|ao<|rP 3 [] I ?_
   refine aC ?_
   have IR:(vI (((i+1):Nat):Int))=(vI ((i:Int)+1)):=by exact cI om
   refine a_ (T ⟨(i+1),⟨om,Cm AB (fun a ha=>by rw [hy] at ha; cases ha; exact ⟨om,fun b hb hc=>by omega⟩) (fun a ha=>by rw [hx] at ha; cases ha; exact ⟨om,fun k b hk hb=>B k b om hb⟩)⟩⟩ _ _ _ rfl os (cR.cons rfl<|cR.cons rfl<|aU rfl IR<|cR.nil _) (aK [0,1,2,3,4,5,6,7,8]))
  refine WK A6<|ag fun _ A8=>ax<|ag fun _ A9=>cS cj 11 kr<|dP 3 [] (mc 0 U I) ?_
  obtain ⟨u,hu⟩:=aA r.cP k om
  have Z:=bH iC hu
  refine dS (IA k U (av 6 U) dI dc om om)<|dS (gD k 0 (vI u) U bU (av 6 U) Z U dc U)<|kp 3 [] (mc 0 U I) U<|dS (IA i U (av 6 U) dI dc om om)<|dS (gD i 0 (vI x) U bU (av 6 U) M U dc U)<|dP 1 [] I ?_
  refine cu<|RK A9<|bO U (aO fun L=>?_) (aN fun L=>?_)
  ·refine cg<|aJ<|KK A8<|ao<|rP 3 [] I ?_
   refine aC ?_
   have IO:(vI (((k+1):Nat):Int))=(vI ((k:Int)+1)):=by exact cI om
   refine a_ (g ⟨(k+1),⟨om,w8 B hu L⟩⟩ _ _ _ U os (cz 3<|aU U IO<|cR.nil _) (aK [0,1,2,3,4,5,6,7,8]))
  refine WS fun _ Bt=>rP 2 [] I ?_
  refine RK Bt<|ak<|LX hQ (false,0,none,0,[]) [] [] I U (by rfl) U U ?_
  (exact ⟨Fj,fun _=>⟨rfl,fun q=>by have S:=q.num; have q2:=q.Be; have q3:=q.nh; have q4:=q.AM; omega⟩⟩)
 refine kp 3 [] (mc 0 U I) U<|dS (IA i U (av 5 U) dI dc om om)<|dS (gD i 0 (vI y) U bU (av 5 U) J2 U dc U)<|dP 4 [] (mc 0 U I) ?_
 obtain ⟨z,hz⟩:=aA r.bu (i-1) om
 have Os:=bH iC hz
 refine dS (IA (i-1) U (av 5 U) dI dc om om)<|dS (gD (i-1) 0 (vI z) U bU (av 5 U) Os U dc U)<|dP 4 [] I ?_
 refine ic (t:=69) U (aN fun Li=>?_) (aO fun Li=>?_)
 ·refine kK 10 U<|cu<|RK K<|aL U<|WS fun _ AC=>rP 2 [] I ?_
  refine RK AC<|ak<|LX hQ (false,0,none,0,[]) [] [] I U (by rfl) U U ?_
  (exact ⟨Fj,fun _=>⟨rfl,fun q=>by have S:=(q.ids i y hy).2 z om hz; omega⟩⟩)
 refine dP 3 [] (mc 0 U I) ?_
 obtain ⟨x,hx⟩:=aA r.cP i om
 have M:=bH iC hx
 refine dS (IA i U (av 6 U) dI dc om om)<|dS (gD i 0 (vI x) U bU (av 6 U) M U dc U)<|kK 2 U<|dS (CL (pz x 0 ((r.bu.length:Int)-1)) (aS) U)<|dP 2 [] I ?_
 refine cu<|RK K<|cb U (aX fun Y=>?_) (aW fun Y=>?_)
 ·refine WS fun _ AO=>rP 2 [] I ?_
  refine RK AO<|ak<|LX hQ (false,0,none,0,[]) [] [] I U (by rfl) U U ?_
  (exact ⟨Fj,fun _=>⟨rfl,fun q=>by have S:=q.KV hx; omega⟩⟩)
 refine WK V<|WS fun _ Ac=>rP 1 [] I ?_
 refine RK Ac<|ax ?_
 have A:(0≤i)∧(∀ (q:Nat) y,q<0→r.cP[q]? =some y→y≠x):=by exact ⟨Nat.zero_le _,fun q y hq=>absurd hq (Nat.not_lt_zero _)⟩
 refine bP (ι:={z:Nat // (z≤i)∧(∀ (q:Nat) y,q<z→r.cP[q]? =some y→y≠x)}) [1,4,5] [0,1,2,3,4,5,6,7,8] U U (fun z=>[(6,(vI (z.1:Int)))]) (fun z=>[]) (fun _=>rfl) (fun _=>rfl) (fun z=>i-z.1) ⟨0,A⟩ (bf U) (aK [0,1,2,3,4,5,6,7,8]) ?_
 clear A
 rintro ⟨k,⟨O,B⟩⟩ J23 f
 try dsimp only
 refine ag fun _ As=>WS fun _ A0=>rP 3 [] I ?_
 refine RK A0<|bO U (aO fun X=>?_) (aN fun X=>?_)
 ·refine bM<|ab<|ab<|aF<|aJ<|KK AA<|ao<|rP 3 [] I ?_
  refine aC ?_
  have H5:(vI (((i+1):Nat):Int))=(vI ((i:Int)+1)):=by exact cI om
  refine a_ (T ⟨(i+1),⟨om,Cm AB (fun a ha=>by rw [hy] at ha; cases ha; exact ⟨om,fun b hb hc=>by (rw [hz] at hc; cases hc; omega)⟩) (fun a ha=>by rw [hx] at ha; cases ha; exact ⟨om,fun k b hk hb=>B k b om hb⟩)⟩⟩ _ _ _ rfl os (cR.cons rfl<|cR.cons rfl<|aU rfl H5<|cR.nil _) (aK [0,1,2,3,4,5,6,7,8]))
 refine WK As<|ag fun _ A1=>ax<|ag fun _ A2=>cS cj 11 kr<|dP 3 [] (mc 0 U I) ?_
 obtain ⟨u,hu⟩:=aA r.cP k om
 have Z:=bH iC hu
 refine dS (IA k U (av 6 U) dI dc om om)<|dS (gD k 0 (vI u) U bU (av 6 U) Z U dc U)<|kp 3 [] (mc 0 U I) U<|dS (IA i U (av 6 U) dI dc om om)<|dS (gD i 0 (vI x) U bU (av 6 U) M U dc U)<|dP 1 [] I ?_
 refine cu<|RK A2<|bO U (aO fun L=>?_) (aN fun L=>?_)
 ·refine cg<|aJ<|KK A1<|ao<|rP 3 [] I ?_
  refine aC ?_
  have H1:(vI (((k+1):Nat):Int))=(vI ((k:Int)+1)):=by exact cI om
  refine a_ (f ⟨(k+1),⟨om,w8 B hu L⟩⟩ _ _ _ U os (cz 3<|aU U H1<|cR.nil _) (aK [0,1,2,3,4,5,6,7,8]))
 refine WS fun _ A3=>rP 2 [] I ?_
 refine RK A3<|ak<|LX hQ (false,0,none,0,[]) [] [] I U (by rfl) U U ?_
 (exact ⟨Fj,fun _=>⟨rfl,fun q=>by exact q.Qp om hu hx L⟩⟩)
end
section
open Go.RowKit
theorem HJ (r:eU) (kA:OA) (kC:Nat) (az:List RA) (cA:OA) (cC:Nat) (bA:OA) (bC:Nat) (slA:OA) (slC:Nat) (drA:OA) (drC:Nat) (ha:List bZ) (heA:OA) (heC:Nat) (hin:iP r az ha):
 lO Tryz.prog 86 [(vA (ct.cells (we r kA kC cA cC bA bC slA slC drA drC heA heC)))] (Ix r kA az cA bA slA drA ha heA) (fun (x:Bool×Int×(OA)×Nat×(List RA))=>bif x.1 then (vT [(vS x.2.2.1 ((fT r).length) x.2.2.2.1),(vI 0)]) else (vT [(vS none 0 0),(vI x.2.1)])) (fun (x:Bool×Int×(OA)×Nat×(List RA))=>(x.1=true→(jF r=0∧x.2.2.2.2.length=r.aI.length))∧(x.1=false→(x.2.1=jF r∧ ¬ jF r=0))) (fun (x:Bool×Int×(OA)×Nat×(List RA))=>bif x.1 then [(own x.2.2.1 x.2.2.2.1 121 1 (List.zipWith Nh (fT r) x.2.2.2.2)),(bQ (bK FH (fT r) x.2.2.2.2))] else []):=by
 have AA:=hin.line
 have b:=hin.fE
 have c:=hin.has
 have Z:=hin.fM
 have Y:=hin.draw
 have a:=jo (r:=r)
 refine dK kr Tryz.func86 U U fun f Q hQ hN=>?_
 try dsimp only
 refine WS fun _ O=>dV U fun e=>bp 2 U<|RK O<|ag fun _ P=>WS fun _ R=>bp 1 U<|rS (LP (bW.cells (jy r.au kA kC cA cC bA bC)) 0 U bU U U U)<|rS (CL (yN r.au kA kC az cA cC bA bC asm) (aY [1,2,3,4]) U)<|bp 1 U<|RK R<|WS fun _ S=>rP 2 [] I ?_
 refine RK S<|cb U (aX fun A=>?_) (aW fun A=>?_)
 ·refine WS fun _ T=>rP 3 [] I ?_
  refine RK T<|ak<|LX hQ (false,(e8 r.au),none,0,[]) [] [] I U (by rfl) U U ?_
  exact pb<|QK (zg A) A
 refine WK P<|WS fun _ G=>rP 1 [] (mc 0 U I) ?_
 refine cX (EF r kA kC az cA cC bA bC slA slC drA drC ha heA heC hin (by exact A)) (aY [1,2,3,4,5,6,7,8]) U fun d J=>?_
 obtain ⟨K,W,L,M,N⟩:=d
 cases K
 rotate_left 1
 ·obtain ⟨AB,V⟩:=J.1 rfl
  try dsimp only [cond_true,cond_false,List.cons_append,List.nil_append]
  refine bp 5 U<|RK G<|ag fun _ D=>WS fun _ E=>bp 2 U<|RK E<|bT U<|WK D<|WS fun _ F=>rP 3 [] I ?_
  refine RK F<|ak ?_
  refine LX hQ (true,0,L,M,N) [0,1] [] I U (by (show List.all _ _=true; simp only [cond_true,fX,List.all_nil,DN,Bool.and_true]; rfl)) U U ?_
  exact ⟨fun _=>⟨Cd A AB,V⟩,Of⟩
 obtain ⟨H,he⟩:=J.2 rfl
 try dsimp only at H he
 subst H
 try dsimp only [cond_true,cond_false,List.cons_append,List.nil_append]
 refine bp 5 U<|RK G<|ag fun _ X=>WS fun _ B=>bp 2 U<|RK B<|aL U<|WS fun _ C=>rP 2 [] I ?_
 refine RK C<|ak<|LX hQ (false,60,none,0,[]) [] [] I U (by rfl) U U ?_
 exact pb<|qS (k7 A he)
end
section
open Go.RowKit
theorem zJ (r:eU) (kA:OA) (kC:Nat) (az:List RA) (cA:OA) (cC:Nat) (bA:OA) (bC:Nat) (slA:OA) (slC:Nat) (drA:OA) (drC:Nat) (ha:List bZ) (heA:OA) (heC:Nat) (hin:iP r az ha):
 dF Tryz.prog 56 [(vA (ct.cells (we r kA kC cA cC bA bC slA slC drA drC heA heC)))] (Ix r kA az cA bA slA drA ha heA) (vI (jF r)):=by
 have H:=hin.line
 have M:=hin.fE
 have N:=hin.has
 have J:=hin.fM
 have AB:=hin.draw
 have K:=jo (r:=r)
 refine bG kr Tryz.func56 U U fun V Q hQ hN=>?_
 try dsimp only
 refine WS fun _ G=>dV U fun AA=>bp 1 U<|RK G<|WS fun _ C=>rP 1 [] (mc 0 U I) ?_
 refine cX (HJ r kA kC az cA cC bA bC slA slC drA drC ha heA heC hin) (aY [1,2,3,4,5,6,7,8]) U fun T E=>?_
 obtain ⟨F,L,P,R,S⟩:=T
 cases F
 rotate_left 1
 ·obtain ⟨he,O⟩:=E.1 rfl
  try dsimp only [cond_true,cond_false,List.cons_append,List.nil_append]
  refine bp 5 U<|RK C<|WS fun _ B=>rP 2 [] I ?_
  refine RK B<|ak<|Q1 hQ U U U ?_
  first|rfl|(rw [he])
 obtain ⟨D,he⟩:=E.2 rfl
 try dsimp only at D he
 subst D
 try dsimp only [cond_true,cond_false,List.cons_append,List.nil_append]
 refine bp 5 U<|RK C<|WS fun _ A=>rP 2 [] I ?_
 refine RK A<|ak<|Q1 hQ U U U ?_
 first|rfl|(rw [he])
end
section
open Go.RowKit
theorem Gr (j:cw) (kA:OA) (kC:Nat) (az:List RA) (cA:OA) (cC:Nat) (bA:OA) (bC:Nat) (slA:OA) (slC:Nat) (drA:OA) (drC:Nat) (ha:List bZ) (heA:OA) (heC:Nat) (faA:OA) (faC:Nat) (prA:OA) (prC:Nat) (hin:er j az ha) (hjr:jF j.Race=0):
 dF Tryz.prog 72 [(vA (eX.cells (lM j kA kC cA cC bA bC slA slC drA drC heA heC faA faC prA prC)))] (o_ j kA az cA bA slA drA ha heA faA prA) (vB (decide (qW j))):=by
 have n:=hin.race
 have Os:=hin.race.line
 have R2:=hin.race.fE
 have R3:=hin.race.has
 have Pl:=hin.race.fM
 have Pe:=hin.nf
 have Pi:=hin.np
 have R4:=(dy hjr).1
 have I2:=(dy hjr).2
 refine bG kr Tryz.func72 U U fun w0 Q hQ hN=>?_
 try dsimp only
 refine WS fun _ M2=>dV U fun b2=>bp 1 U<|RK M2<|ag fun _ NE=>WS fun _ a=>rP 5 [] (mc 0 U I) ?_
 refine bS (t:=12) U (aN fun h5=>?_) (aO fun h5=>?_)
 ·refine bp 17 U<|RK a<|aL U<|WS fun _ Ne=>rP 1 [] I ?_
  refine RK Ne<|ak<|Q1 hQ U U U ?_
  first|exact cB (br (fun q=>by have C:=q.nf; have H:=q.min_; have J:=q.td; have K:=q.np; omega)).symm|exact cB (br (fun q=>by have C:=q.fault f (aP hf); unfold fj at C; split at C<;>omega)).symm|exact cB (br (fun q=>by have A:=q.hZ _ p hp; have C:=A.id; have H:=A.kX; have J:=A.fJ; have K:=A.fault; simp only [qN] at H; first|omega|(have V:=A.up AA om L; omega))).symm|exact cB (br (fun q=>by obtain ⟨R,G,AB,T⟩:=(q.hZ _ p hp).lR; rw [F] at G; cases G; first|exact E AB|exact h148 AB|omega)).symm|exact cB (dC ⟨om,dW D om,om,om,om,fun i p hi=>B i p (by have:=(aZ.1 hi).1; omega) hi⟩).symm
 refine dZ 2 [] (mc 0 U I) U<|rS (CL (iv j.gu 0 60) (aS) U)<|rP 3 [] I ?_
 refine bS (t:=18) U (aX fun h7=>?_) (aW fun h7=>?_)
 ·refine bp 11 U<|RK a<|aL U<|WS fun _ Nl=>rP 1 [] I ?_
  refine RK Nl<|ak<|Q1 hQ U U U ?_
  first|exact cB (br (fun q=>by have C:=q.nf; have H:=q.min_; have J:=q.td; have K:=q.np; omega)).symm|exact cB (br (fun q=>by have C:=q.fault f (aP hf); unfold fj at C; split at C<;>omega)).symm|exact cB (br (fun q=>by have A:=q.hZ _ p hp; have C:=A.id; have H:=A.kX; have J:=A.fJ; have K:=A.fault; simp only [qN] at H; first|omega|(have V:=A.up AA om L; omega))).symm|exact cB (br (fun q=>by obtain ⟨R,G,AB,T⟩:=(q.hZ _ p hp).lR; rw [F] at G; cases G; first|exact E AB|exact h148 AB|omega)).symm|exact cB (dC ⟨om,dW D om,om,om,om,fun i p hi=>B i p (by have:=(aZ.1 hi).1; omega) hi⟩).symm
 refine dZ 2 [] (mc 0 U I) U<|rS (CL (iv j.kT 0 100000) (aS) U)<|rP 3 [] I ?_
 refine bS (t:=24) U (aX fun h9=>?_) (aW fun h9=>?_)
 ·refine bp 5 U<|RK a<|aL U<|WS fun _ s=>rP 1 [] I ?_
  refine RK s<|ak<|Q1 hQ U U U ?_
  first|exact cB (br (fun q=>by have C:=q.nf; have H:=q.min_; have J:=q.td; have K:=q.np; omega)).symm|exact cB (br (fun q=>by have C:=q.fault f (aP hf); unfold fj at C; split at C<;>omega)).symm|exact cB (br (fun q=>by have A:=q.hZ _ p hp; have C:=A.id; have H:=A.kX; have J:=A.fJ; have K:=A.fault; simp only [qN] at H; first|omega|(have V:=A.up AA om L; omega))).symm|exact cB (br (fun q=>by obtain ⟨R,G,AB,T⟩:=(q.hZ _ p hp).lR; rw [F] at G; cases G; first|exact E AB|exact h148 AB|omega)).symm|exact cB (dC ⟨om,dW D om,om,om,om,fun i p hi=>B i p (by have:=(aZ.1 hi).1; omega) hi⟩).symm
 refine rP 5 [] (mc 0 U I) ?_
 refine RK a<|cb U (aN fun J3=>?_) (aO fun J3=>?_)
 ·refine WS fun _ u=>rP 1 [] I ?_
  refine RK u<|ak<|Q1 hQ U U U ?_
  first|exact cB (br (fun q=>by have C:=q.nf; have H:=q.min_; have J:=q.td; have K:=q.np; omega)).symm|exact cB (br (fun q=>by have C:=q.fault f (aP hf); unfold fj at C; split at C<;>omega)).symm|exact cB (br (fun q=>by have A:=q.hZ _ p hp; have C:=A.id; have H:=A.kX; have J:=A.fJ; have K:=A.fault; simp only [qN] at H; first|omega|(have V:=A.up AA om L; omega))).symm|exact cB (br (fun q=>by obtain ⟨R,G,AB,T⟩:=(q.hZ _ p hp).lR; rw [F] at G; cases G; first|exact E AB|exact h148 AB|omega)).symm|exact cB (dC ⟨om,dW D om,om,om,om,fun i p hi=>B i p (by have:=(aZ.1 hi).1; omega) hi⟩).symm
 refine WK NE<|ag fun _ v=>WS fun _ w=>rP 1 [] I ?_
 refine RK w<|ax ?_
 have S:(0≤j.aM.length)∧(pK j 0):=by exact ⟨Nat.zero_le _,Ca⟩
 refine bP (ι:={z:Nat // (z≤j.aM.length)∧(pK j z)}) [1] [0,1,2,3,4,5,6,7,8,9,10] U U (fun z=>[(3,(vI (z.1:Int)))]) (fun z=>[]) (fun _=>rfl) (fun _=>rfl) (fun z=>j.aM.length-z.1) ⟨0,S⟩ (bf U) (aK [0,1,2,3,4,5,6,7,8,9,10]) ?_
 clear S
 rintro ⟨i,⟨Or,D⟩⟩ J15 W
 try dsimp only
 refine ag fun _ x=>WS fun _ y=>rP 5 [] (mc 0 U I) ?_
 refine RK y<|cb U (aN fun J4=>?_) (aO fun J4=>?_)
 ·refine WK x<|ag fun _ X=>ax<|WS fun _ AC=>rP 3 [] (mc 0 U I) ?_
  obtain ⟨f,hf⟩:=aA j.aM i om
  have Op:=bH bg.cells hf
  refine rS (IA i U (av 9 U) yf dc om om)<|rS (jK i 0 (bg.cells f) U bU (av 9 U) Op U dc U U)<|AL U Rp fun Pp=>e7 U Ry U<|RK AC<|ag fun _ AM=>WS fun _ c=>dZ 4 [] (mc 0 U I) U<|rS (CL (iv f.mu 0 f.To) (aS) U)<|rP 2 [] I ?_
  refine bS (t:=48) U (aX fun J6=>?_) (aW fun J6=>?_)
  ·refine bp 4 U<|RK c<|aL U<|WS fun _ AO=>rP 1 [] I ?_
   refine RK AO<|ak<|Q1 hQ U U U ?_
   first|exact cB (br (fun q=>by have C:=q.nf; have H:=q.min_; have J:=q.td; have K:=q.np; omega)).symm|exact cB (br (fun q=>by have C:=q.fault f (aP hf); unfold fj at C; split at C<;>omega)).symm|exact cB (br (fun q=>by have A:=q.hZ _ p hp; have C:=A.id; have H:=A.kX; have J:=A.fJ; have K:=A.fault; simp only [qN] at H; first|omega|(have V:=A.up AA om L; omega))).symm|exact cB (br (fun q=>by obtain ⟨R,G,AB,T⟩:=(q.hZ _ p hp).lR; rw [F] at G; cases G; first|exact E AB|exact h148 AB|omega)).symm|exact cB (dC ⟨om,dW D om,om,om,om,fun i p hi=>B i p (by have:=(aZ.1 hi).1; omega) hi⟩).symm
  refine rP 4 [] (mc 0 U I) ?_
  refine RK c<|cb U (aN fun J7=>?_) (aO fun J7=>?_)
  ·refine WS fun _ Ac=>rP 1 [] I ?_
   refine RK Ac<|ak<|Q1 hQ U U U ?_
   first|exact cB (br (fun q=>by have C:=q.nf; have H:=q.min_; have J:=q.td; have K:=q.np; omega)).symm|exact cB (br (fun q=>by have C:=q.fault f (aP hf); unfold fj at C; split at C<;>omega)).symm|exact cB (br (fun q=>by have A:=q.hZ _ p hp; have C:=A.id; have H:=A.kX; have J:=A.fJ; have K:=A.fault; simp only [qN] at H; first|omega|(have V:=A.up AA om L; omega))).symm|exact cB (br (fun q=>by obtain ⟨R,G,AB,T⟩:=(q.hZ _ p hp).lR; rw [F] at G; cases G; first|exact E AB|exact h148 AB|omega)).symm|exact cB (dC ⟨om,dW D om,om,om,om,fun i p hi=>B i p (by have:=(aZ.1 hi).1; omega) hi⟩).symm
  refine WK AM<|WS fun _ As=>dZ 2 [] (mc 0 U I) U<|RK As<|ax<|WS fun _ A0=>rS (BI U kf)<|rP 1 [] I ?_
  refine RK A0<|cb U (aN fun J8=>?_) (aO fun J8=>?_)
  ·refine WS fun _ A1=>rP 3 [] (mc 0 U I) ?_
   refine RK A1<|bO U (aW fun J9=>?_) (aX fun J9=>?_)
   ·refine cg<|aJ<|aJ<|KK X<|ao<|rP 3 [] I ?_
    refine aC ?_
    have H1:(vI (((i+1):Nat):Int))=(vI ((i:Int)+1)):=by exact cI om
    refine a_ (W ⟨(i+1),⟨om,rh D hf (by refine ⟨om,om,om,?_⟩; split<;>omega)⟩⟩ _ _ _ U os (cR.cons U<|aU U H1<|cR.nil _) (aK [1,2,3,4,5,6,7,8,9,10,11]))
   refine WS fun _ A2=>rP 1 [] I ?_
   refine RK A2<|ak<|Q1 hQ U U U ?_
   first|exact cB (br (fun q=>by have C:=q.nf; have H:=q.min_; have J:=q.td; have K:=q.np; omega)).symm|exact cB (br (fun q=>by have C:=q.fault f (aP hf); unfold fj at C; split at C<;>omega)).symm|exact cB (br (fun q=>by have A:=q.hZ _ p hp; have C:=A.id; have H:=A.kX; have J:=A.fJ; have K:=A.fault; simp only [qN] at H; first|omega|(have V:=A.up AA om L; omega))).symm|exact cB (br (fun q=>by obtain ⟨R,G,AB,T⟩:=(q.hZ _ p hp).lR; rw [F] at G; cases G; first|exact E AB|exact h148 AB|omega)).symm|exact cB (dC ⟨om,dW D om,om,om,om,fun i p hi=>B i p (by have:=(aZ.1 hi).1; omega) hi⟩).symm
  refine ag fun _ e=>WS fun _ A3=>rS (BI U kf)<|rP 1 [] I ?_
  refine RK A3<|cb U (aN fun KV=>?_) (aO fun KV=>?_)
  ·refine WK e<|bO U (aO fun K0=>?_) (aN fun K0=>?_)
   ·refine WS fun _ A6=>rP 1 [] I ?_
    refine RK A6<|ak<|Q1 hQ U U U ?_
    first|exact cB (br (fun q=>by have C:=q.nf; have H:=q.min_; have J:=q.td; have K:=q.np; omega)).symm|exact cB (br (fun q=>by have C:=q.fault f (aP hf); unfold fj at C; split at C<;>omega)).symm|exact cB (br (fun q=>by have A:=q.hZ _ p hp; have C:=A.id; have H:=A.kX; have J:=A.fJ; have K:=A.fault; simp only [qN] at H; first|omega|(have V:=A.up AA om L; omega))).symm|exact cB (br (fun q=>by obtain ⟨R,G,AB,T⟩:=(q.hZ _ p hp).lR; rw [F] at G; cases G; first|exact E AB|exact h148 AB|omega)).symm|exact cB (dC ⟨om,dW D om,om,om,om,fun i p hi=>B i p (by have:=(aZ.1 hi).1; omega) hi⟩).symm
   refine WS fun _ A4=>dZ 6 [0,1] (mc 0 U (mc 1 U I)) U<|rS (CL (iv f.g_ 0 j.Race.au.bV) (aS) U)<|rP 1 [] I ?_
   refine RK A4<|bO U (aW fun K4=>?_) (aX fun K4=>?_)
   ·refine cg<|aJ<|aJ<|KK X<|ao<|rP 3 [] I ?_
    refine aC ?_
    have H5:(vI (((i+1):Nat):Int))=(vI ((i:Int)+1)):=by exact cI om
    refine a_ (W ⟨(i+1),⟨om,rh D hf (by refine ⟨om,om,om,?_⟩; split<;>omega)⟩⟩ _ _ _ U os (cR.cons U<|aU U H5<|cR.nil _) (aK [1,2,3,4,5,6,7,8,9,10,11]))
   refine WS fun _ A5=>rP 1 [] I ?_
   refine RK A5<|ak<|Q1 hQ U U U ?_
   first|exact cB (br (fun q=>by have C:=q.nf; have H:=q.min_; have J:=q.td; have K:=q.np; omega)).symm|exact cB (br (fun q=>by have C:=q.fault f (aP hf); unfold fj at C; split at C<;>omega)).symm|exact cB (br (fun q=>by have A:=q.hZ _ p hp; have C:=A.id; have H:=A.kX; have J:=A.fJ; have K:=A.fault; simp only [qN] at H; first|omega|(have V:=A.up AA om L; omega))).symm|exact cB (br (fun q=>by obtain ⟨R,G,AB,T⟩:=(q.hZ _ p hp).lR; rw [F] at G; cases G; first|exact E AB|exact h148 AB|omega)).symm|exact cB (dC ⟨om,dW D om,om,om,om,fun i p hi=>B i p (by have:=(aZ.1 hi).1; omega) hi⟩).symm
  refine ao<|rS (BI U kf)<|rP 1 [] I ?_
  refine RK e<|bO U (aO fun K5=>?_) (aN fun K5=>?_)
  ·refine WS fun _ A9=>rP 1 [] I ?_
   refine RK A9<|ak<|Q1 hQ U U U ?_
   first|exact cB (br (fun q=>by have C:=q.nf; have H:=q.min_; have J:=q.td; have K:=q.np; omega)).symm|exact cB (br (fun q=>by have C:=q.fault f (aP hf); unfold fj at C; split at C<;>omega)).symm|exact cB (br (fun q=>by have A:=q.hZ _ p hp; have C:=A.id; have H:=A.kX; have J:=A.fJ; have K:=A.fault; simp only [qN] at H; first|omega|(have V:=A.up AA om L; omega))).symm|exact cB (br (fun q=>by obtain ⟨R,G,AB,T⟩:=(q.hZ _ p hp).lR; rw [F] at G; cases G; first|exact E AB|exact h148 AB|omega)).symm|exact cB (dC ⟨om,dW D om,om,om,om,fun i p hi=>B i p (by have:=(aZ.1 hi).1; omega) hi⟩).symm
  refine WS fun _ A7=>dZ 6 [0,1] (mc 0 U (mc 1 U I)) U<|rS (CL (iv f.g_ 0 j.Race.au.bV) (aS) U)<|rP 1 [] I ?_
  refine RK A7<|bO U (aW fun K8=>?_) (aX fun K8=>?_)
  ·refine cg<|aJ<|aJ<|KK X<|ao<|rP 3 [] I ?_
   refine aC ?_
   have IO:(vI (((i+1):Nat):Int))=(vI ((i:Int)+1)):=by exact cI om
   refine a_ (W ⟨(i+1),⟨om,rh D hf (by refine ⟨om,om,om,?_⟩; split<;>omega)⟩⟩ _ _ _ U os (cR.cons U<|aU U IO<|cR.nil _) (aK [1,2,3,4,5,6,7,8,9,10,11]))
  refine WS fun _ A8=>rP 1 [] I ?_
  refine RK A8<|ak<|Q1 hQ U U U ?_
  first|exact cB (br (fun q=>by have C:=q.nf; have H:=q.min_; have J:=q.td; have K:=q.np; omega)).symm|exact cB (br (fun q=>by have C:=q.fault f (aP hf); unfold fj at C; split at C<;>omega)).symm|exact cB (br (fun q=>by have A:=q.hZ _ p hp; have C:=A.id; have H:=A.kX; have J:=A.fJ; have K:=A.fault; simp only [qN] at H; first|omega|(have V:=A.up AA om L; omega))).symm|exact cB (br (fun q=>by obtain ⟨R,G,AB,T⟩:=(q.hZ _ p hp).lR; rw [F] at G; cases G; first|exact E AB|exact h148 AB|omega)).symm|exact cB (dC ⟨om,dW D om,om,om,om,fun i p hi=>B i p (by have:=(aZ.1 hi).1; omega) hi⟩).symm
 refine bM<|ab<|ab<|aF<|KK v<|ag fun _ Be=>WS fun _ Bt=>rP 1 [] I ?_
 refine RK Bt<|ax ?_
 have S:(0≤j.aB.length)∧(oD j 0):=by exact ⟨Nat.zero_le _,yH⟩
 refine bP (ι:={z:Nat // (z≤j.aB.length)∧(oD j z)}) [1] [0,1,2,3,4,5,6,7,8,9,10] U U (fun z=>[(5,(vI (z.1:Int)))]) (fun z=>[]) (fun _=>rfl) (fun _=>rfl) (fun z=>j.aB.length-z.1) ⟨0,S⟩ (bf U) (aK [0,1,2,3,4,5,6,7,8,9,10]) ?_
 clear S
 rintro ⟨k,⟨J2,B⟩⟩ J52 b
 try dsimp only
 refine ag fun _ B3=>WS fun _ B9=>rP 5 [] (mc 0 U I) ?_
 refine RK B9<|bO U (aO fun LA=>?_) (aN fun LA=>?_)
 ·refine bM<|ab<|ab<|aF<|KK Be<|WS fun _ Fn=>rP 1 [] I ?_
  refine RK Fn<|ak<|Q1 hQ U U U ?_
  first|exact cB (br (fun q=>by have C:=q.nf; have H:=q.min_; have J:=q.td; have K:=q.np; omega)).symm|exact cB (br (fun q=>by have C:=q.fault f (aP hf); unfold fj at C; split at C<;>omega)).symm|exact cB (br (fun q=>by have A:=q.hZ _ p hp; have C:=A.id; have H:=A.kX; have J:=A.fJ; have K:=A.fault; simp only [qN] at H; first|omega|(have V:=A.up AA om L; omega))).symm|exact cB (br (fun q=>by obtain ⟨R,G,AB,T⟩:=(q.hZ _ p hp).lR; rw [F] at G; cases G; first|exact E AB|exact h148 AB|omega)).symm|exact cB (dC ⟨om,dW D om,om,om,om,fun i p hi=>B i p (by have:=(aZ.1 hi).1; omega) hi⟩).symm
 refine WK B3<|ag fun _ g=>ax<|WS fun _ Ci=>rP 3 [] (mc 0 U I) ?_
 obtain ⟨p,hp⟩:=aA j.aB k om
 have PF:=bH bR.cells hp
 refine rS (IA k U (av 10 U) wK dc om om)<|rS (jK k 0 (bR.cells p) U bU (av 10 U) PF U dc U U)<|AL U Ct fun Pr=>e7 U Bx U<|RK Ci<|ag fun _ h=>ag fun _ P=>cS cj 52 kr<|kp 2 [] (mc 0 U I) U<|dS (CL (iv p.Id 0 9999) (aS) U)<|dP 2 [] I ?_
 refine ic (t:=87) U (aX fun LE=>?_) (aW fun LE=>?_)
 ·refine kK 47 U<|cu<|RK P<|aL U<|WS fun _ Ck=>rP 1 [] I ?_
  refine RK Ck<|ak<|Q1 hQ U U U ?_
  first|exact cB (br (fun q=>by have C:=q.nf; have H:=q.min_; have J:=q.td; have K:=q.np; omega)).symm|exact cB (br (fun q=>by have C:=q.fault f (aP hf); unfold fj at C; split at C<;>omega)).symm|exact cB (br (fun q=>by have A:=q.hZ _ p hp; have C:=A.id; have H:=A.kX; have J:=A.fJ; have K:=A.fault; simp only [qN] at H; omega)).symm|exact cB (br (fun q=>by obtain ⟨R,G,AB,T⟩:=(q.hZ _ p hp).lR; rw [F] at G; cases G; first|exact E AB|exact h148 AB|omega)).symm|exact cB (dC ⟨om,dW D om,om,om,om,fun i p hi=>B i p (by have:=(aZ.1 hi).1; omega) hi⟩).symm
 refine dP 3 [] I ?_
 refine jl (t:=90) U (aO fun LT=>?_) (aN fun LT=>?_)
 ·refine kp 20 [0,1] (mc 0 U (mc 1 U I)) U<|dS (CL (iv p.gH 0 ((j.Race.bu.length:Int)-1)) (aS) U)<|dP 3 [] I ?_
  refine ic (t:=114) U (aX fun L0=>?_) (aW fun L0=>?_)
  ·refine kK 20 U<|cu<|RK P<|aL U<|WS fun _ Do=>rP 1 [] I ?_
   refine RK Do<|ak<|Q1 hQ U U U ?_
   first|exact cB (br (fun q=>by have C:=q.nf; have H:=q.min_; have J:=q.td; have K:=q.np; omega)).symm|exact cB (br (fun q=>by have C:=q.fault f (aP hf); unfold fj at C; split at C<;>omega)).symm|exact cB (br (fun q=>by have A:=q.hZ _ p hp; have C:=A.id; have H:=A.kX; have J:=A.fJ; have K:=A.fault; simp only [qN] at H; omega)).symm|exact cB (br (fun q=>by obtain ⟨R,G,AB,T⟩:=(q.hZ _ p hp).lR; rw [F] at G; cases G; first|exact E AB|exact h148 AB|omega)).symm|exact cB (dC ⟨om,dW D om,om,om,om,fun i p hi=>B i p (by have:=(aZ.1 hi).1; omega) hi⟩).symm
  refine kp 7 [0,1] (mc 0 U (mc 1 U I)) U<|dS (CL (iv p.ib 0 ((j.Race.aI.length:Int)-1)) (aS) U)<|dP 3 [] I ?_
  refine ic (t:=125) U (aX fun L2=>?_) (aW fun L2=>?_)
  ·refine kK 9 U<|cu<|RK P<|aL U<|WS fun _ EQ=>rP 1 [] I ?_
   refine RK EQ<|ak<|Q1 hQ U U U ?_
   first|exact cB (br (fun q=>by have C:=q.nf; have H:=q.min_; have J:=q.td; have K:=q.np; omega)).symm|exact cB (br (fun q=>by have C:=q.fault f (aP hf); unfold fj at C; split at C<;>omega)).symm|exact cB (br (fun q=>by have A:=q.hZ _ p hp; have C:=A.id; have H:=A.kX; have J:=A.fJ; have K:=A.fault; simp only [qN] at H; omega)).symm|exact cB (br (fun q=>by obtain ⟨R,G,AB,T⟩:=(q.hZ _ p hp).lR; rw [F] at G; cases G; first|exact E AB|exact h148 AB|omega)).symm|exact cB (dC ⟨om,dW D om,om,om,om,fun i p hi=>B i p (by have:=(aZ.1 hi).1; omega) hi⟩).symm
  refine kp 6 [0,1] (mc 0 U (mc 1 U I)) U<|dS (CL (iv p.gj 0 ((j.aM.length:Int)-1)) (aS) U)<|dP 2 [] I ?_
  refine cu<|RK P<|cb U (aX fun L3=>?_) (aW fun L3=>?_)
  ·refine WS fun _ EZ=>rP 1 [] I ?_
   refine RK EZ<|ak<|Q1 hQ U U U ?_
   first|exact cB (br (fun q=>by have C:=q.nf; have H:=q.min_; have J:=q.td; have K:=q.np; omega)).symm|exact cB (br (fun q=>by have C:=q.fault f (aP hf); unfold fj at C; split at C<;>omega)).symm|exact cB (br (fun q=>by have A:=q.hZ _ p hp; have C:=A.id; have H:=A.kX; have J:=A.fJ; have K:=A.fault; simp only [qN] at H; omega)).symm|exact cB (br (fun q=>by obtain ⟨R,G,AB,T⟩:=(q.hZ _ p hp).lR; rw [F] at G; cases G; first|exact E AB|exact h148 AB|omega)).symm|exact cB (dC ⟨om,dW D om,om,om,om,fun i p hi=>B i p (by have:=(aZ.1 hi).1; omega) hi⟩).symm
  refine WK h<|ag fun _ Eq=>dp cj [11,12] [] [] [0,1,2,3,4,5,6,7,8,9,10,11] [] U U U U U<|eS U (FA 0 U eC U)<|eS U (FA 10 U eC U)<|eS U (L1 (vS heA j.Race.aI.length heC) 1 U bU U U)<|eS U (FA 2 U eC U)<|eS U (L1 (vI p.ib) 0 U bU U U) ?_
  obtain ⟨ht,O⟩:=aA j.Race.aI ((p.ib).toNat) om
  obtain ⟨M,N⟩:=aA ha ((p.ib).toNat) om
  have Z:(List.zipWith cM j.Race.aI ha)[(p.ib).toNat]? =some (cM ht M):=cG O N
  refine eS U (IA ((p.ib).toNat) U (av 8 U) kF dc om om) ?_
  have Y:=n.fJ _ _ _ O N
  have In:=Y.lQ
  have Iv:=(I2.fJ ht (aP O)).1
  refine eS U (gD ((p.ib).toNat) 0 (vS M.1.1 ht.length M.1.2) U bU (av 8 U) Z U dc U)<|eS U (FA 1 U eC U)<|eS U (L1 (vI p.gH) 0 U bU U U) ?_
  obtain ⟨d,hd⟩:=aA ht ((p.gH).toNat) om
  obtain ⟨da,o⟩:=aA M.2 ((p.gH).toNat) om
  have r:(List.zipWith aq.cells ht M.2)[(p.gH).toNat]? =some (aq.cells d da):=cG hd o
  refine eS U (IA ((p.gH).toNat) U (show g9 _ (rd M.1.1 ht.length 7 (List.zipWith aq.cells ht M.2)).holds from (cd 9 U (bB O N cr))) ov dc om om) ?_
  have F:=mH (j:=j) (p:=p) O hd
  have PP:=Y.sig d (aP hd)
  refine eS U (jK ((p.gH).toNat) 0 (aR.cells (aR.mk d.Out d.cD d.Time (de.mk d.aV.Start d.aV.gL (bj.mk da.1 d.aV.aa.length da.2)))) U bU (show g9 _ (rd M.1.1 ht.length 7 (List.zipWith aq.cells ht M.2)).holds from (cd 9 U (bB O N cr))) r U dc U U)<|ed U<|cf U fun T88 Go=>AL U K7 fun Qp=>aC (Go _ _ (aK [1,2,3,4,5,6,7,8,9,10,11,12]) ?_)
  refine cf U fun T90 Hi=>e7 U Ez U<|aC (Hi _ _ (aK [1,2,3,4,5,6,7,8,9,10,11,12]) ?_)
  refine e9 U<|KK Eq<|WS fun _ m=>dZ 1 [] (mc 0 U I) U<|rS (CL (ve d.Out d.cD d.Time (de.mk d.aV.Start d.aV.gL (bj.mk da.1 d.aV.aa.length da.2))) (aS) U)<|rP 2 [] I ?_
  refine bS (t:=149) U (aX fun E=>?_) (aW fun E=>?_)
  ·refine bp 8 U<|RK m<|aL U<|WS fun _ FS=>rP 1 [] I ?_
   refine RK FS<|ak<|Q1 hQ U U U ?_
   first|exact cB (br (fun q=>by have C:=q.nf; have H:=q.min_; have J:=q.td; have K:=q.np; omega)).symm|exact cB (br (fun q=>by have C:=q.fault f (aP hf); unfold fj at C; split at C<;>omega)).symm|exact cB (br (fun q=>by have A:=q.hZ _ p hp; have C:=A.id; have H:=A.kX; have J:=A.fJ; have K:=A.fault; simp only [qN] at H; first|omega|(have V:=A.up AA om L; omega))).symm|exact cB (br (fun q=>by obtain ⟨R,G,AB,T⟩:=(q.hZ _ p hp).lR; rw [F] at G; cases G; exact E AB)).symm|exact cB (dC ⟨om,dW D om,om,om,om,fun i p hi=>B i p (by have:=(aZ.1 hi).1; omega) hi⟩).symm
  refine dZ 5 [0,1] (mc 1 U (mc 0 U I)) U<|rS (CL (iv p.At d.aV.Start 86400000) (aS) U)<|rP 2 [] I ?_
  refine RK m<|bO U (aW fun MK=>?_) (aX fun MK=>?_)
  ·refine cg<|aJ<|KK g<|ao<|rP 3 [] I ?_
   refine aC ?_
   have If:(vI (((k+1):Nat):Int))=(vI ((k:Int)+1)):=by exact cI om
   refine a_ (b ⟨(k+1),⟨om,tj B hp ⟨om,fun q h1 h2=>by omega,by simp only [qN]; omega,om,om,d,F,by first|exact E|exact h148,om⟩⟩⟩ _ _ _ U os (cR.cons U<|aU U If<|cR.nil _) (aK [2,3,4,5,6,7,8,9,10,11,12]))
  refine WS fun _ Fd=>rP 1 [] I ?_
  refine RK Fd<|ak<|Q1 hQ U U U ?_
  first|exact cB (br (fun q=>by have C:=q.nf; have H:=q.min_; have J:=q.td; have K:=q.np; omega)).symm|exact cB (br (fun q=>by have C:=q.fault f (aP hf); unfold fj at C; split at C<;>omega)).symm|exact cB (br (fun q=>by have A:=q.hZ _ p hp; have C:=A.id; have H:=A.kX; have J:=A.fJ; have K:=A.fault; simp only [qN] at H; first|omega|(have V:=A.up AA om L; omega))).symm|exact cB (br (fun q=>by obtain ⟨R,G,AB,T⟩:=(q.hZ _ p hp).lR; rw [F] at G; cases G; omega)).symm|exact cB (dC ⟨om,dW D om,om,om,om,fun i p hi=>B i p (by have:=(aZ.1 hi).1; omega) hi⟩).symm
 refine dP 6 [0,1] (mc 0 U (mc 1 U I)) ?_
 obtain ⟨AA,L⟩:=aA j.aB (k-1) om
 have hp0m:=bH bR.cells L
 refine dS (IA (k-1) U (av 11 U) wK dc om om)<|dS (nX ((k-1)*5) U (av 11 U) (Nat.mul_pos om dc) eC U)<|dS (gD (k-1) 0 (vI AA.Id) U bU (av 11 U) hp0m U dc U)<|dP 4 [] I ?_
 refine ic (t:=103) U (aN fun LY=>?_) (aO fun LY=>?_)
 ·refine kK 31 U<|cu<|RK P<|aL U<|WS fun _ Cp=>rP 1 [] I ?_
  refine RK Cp<|ak<|Q1 hQ U U U ?_
  first|exact cB (br (fun q=>by have C:=q.nf; have H:=q.min_; have J:=q.td; have K:=q.np; omega)).symm|exact cB (br (fun q=>by have C:=q.fault f (aP hf); unfold fj at C; split at C<;>omega)).symm|exact cB (br (fun q=>by have A:=q.hZ _ p hp; have C:=A.id; have H:=A.kX; have J:=A.fJ; have K:=A.fault; simp only [qN] at H; (have V:=A.up AA om L; omega))).symm|exact cB (br (fun q=>by obtain ⟨R,G,AB,T⟩:=(q.hZ _ p hp).lR; rw [F] at G; cases G; first|exact E AB|exact h148 AB|omega)).symm|exact cB (dC ⟨om,dW D om,om,om,om,fun i p hi=>B i p (by have:=(aZ.1 hi).1; omega) hi⟩).symm
 refine kp 7 [0,1] (mc 0 U (mc 1 U I)) U<|dS (CL (iv p.gH 0 ((j.Race.bu.length:Int)-1)) (aS) U)<|dP 3 [] I ?_
 refine ic (t:=114) U (aX fun La=>?_) (aW fun La=>?_)
 ·refine kK 20 U<|cu<|RK P<|aL U<|WS fun _ Cx=>rP 1 [] I ?_
  refine RK Cx<|ak<|Q1 hQ U U U ?_
  first|exact cB (br (fun q=>by have C:=q.nf; have H:=q.min_; have J:=q.td; have K:=q.np; omega)).symm|exact cB (br (fun q=>by have C:=q.fault f (aP hf); unfold fj at C; split at C<;>omega)).symm|exact cB (br (fun q=>by have A:=q.hZ _ p hp; have C:=A.id; have H:=A.kX; have J:=A.fJ; have K:=A.fault; simp only [qN] at H; omega)).symm|exact cB (br (fun q=>by obtain ⟨R,G,AB,T⟩:=(q.hZ _ p hp).lR; rw [F] at G; cases G; first|exact E AB|exact h148 AB|omega)).symm|exact cB (dC ⟨om,dW D om,om,om,om,fun i p hi=>B i p (by have:=(aZ.1 hi).1; omega) hi⟩).symm
 refine kp 7 [0,1] (mc 0 U (mc 1 U I)) U<|dS (CL (iv p.ib 0 ((j.Race.aI.length:Int)-1)) (aS) U)<|dP 3 [] I ?_
 refine ic (t:=125) U (aX fun Li=>?_) (aW fun Li=>?_)
 ·refine kK 9 U<|cu<|RK P<|aL U<|WS fun _ C0=>rP 1 [] I ?_
  refine RK C0<|ak<|Q1 hQ U U U ?_
  first|exact cB (br (fun q=>by have C:=q.nf; have H:=q.min_; have J:=q.td; have K:=q.np; omega)).symm|exact cB (br (fun q=>by have C:=q.fault f (aP hf); unfold fj at C; split at C<;>omega)).symm|exact cB (br (fun q=>by have A:=q.hZ _ p hp; have C:=A.id; have H:=A.kX; have J:=A.fJ; have K:=A.fault; simp only [qN] at H; omega)).symm|exact cB (br (fun q=>by obtain ⟨R,G,AB,T⟩:=(q.hZ _ p hp).lR; rw [F] at G; cases G; first|exact E AB|exact h148 AB|omega)).symm|exact cB (dC ⟨om,dW D om,om,om,om,fun i p hi=>B i p (by have:=(aZ.1 hi).1; omega) hi⟩).symm
 refine kp 6 [0,1] (mc 0 U (mc 1 U I)) U<|dS (CL (iv p.gj 0 ((j.aM.length:Int)-1)) (aS) U)<|dP 2 [] I ?_
 refine cu<|RK P<|cb U (aX fun Lk=>?_) (aW fun Lk=>?_)
 ·refine WS fun _ C1=>rP 1 [] I ?_
  refine RK C1<|ak<|Q1 hQ U U U ?_
  first|exact cB (br (fun q=>by have C:=q.nf; have H:=q.min_; have J:=q.td; have K:=q.np; omega)).symm|exact cB (br (fun q=>by have C:=q.fault f (aP hf); unfold fj at C; split at C<;>omega)).symm|exact cB (br (fun q=>by have A:=q.hZ _ p hp; have C:=A.id; have H:=A.kX; have J:=A.fJ; have K:=A.fault; simp only [qN] at H; omega)).symm|exact cB (br (fun q=>by obtain ⟨R,G,AB,T⟩:=(q.hZ _ p hp).lR; rw [F] at G; cases G; first|exact E AB|exact h148 AB|omega)).symm|exact cB (dC ⟨om,dW D om,om,om,om,fun i p hi=>B i p (by have:=(aZ.1 hi).1; omega) hi⟩).symm
 refine WK h<|ag fun _ C2=>dp cj [11,12] [] [] [0,1,2,3,4,5,6,7,8,9,10,11] [] U U U U U<|eS U (FA 0 U eC U)<|eS U (FA 10 U eC U)<|eS U (L1 (vS heA j.Race.aI.length heC) 1 U bU U U)<|eS U (FA 2 U eC U)<|eS U (L1 (vI p.ib) 0 U bU U U) ?_
 obtain ⟨ht,O⟩:=aA j.Race.aI ((p.ib).toNat) om
 obtain ⟨M,N⟩:=aA ha ((p.ib).toNat) om
 have Z:(List.zipWith cM j.Race.aI ha)[(p.ib).toNat]? =some (cM ht M):=cG O N
 refine eS U (IA ((p.ib).toNat) U (av 8 U) kF dc om om) ?_
 have Y:=n.fJ _ _ _ O N
 have In:=Y.lQ
 have Iv:=(I2.fJ ht (aP O)).1
 refine eS U (gD ((p.ib).toNat) 0 (vS M.1.1 ht.length M.1.2) U bU (av 8 U) Z U dc U)<|eS U (FA 1 U eC U)<|eS U (L1 (vI p.gH) 0 U bU U U) ?_
 obtain ⟨d,hd⟩:=aA ht ((p.gH).toNat) om
 obtain ⟨da,o⟩:=aA M.2 ((p.gH).toNat) om
 have r:(List.zipWith aq.cells ht M.2)[(p.gH).toNat]? =some (aq.cells d da):=cG hd o
 refine eS U (IA ((p.gH).toNat) U (show g9 _ (rd M.1.1 ht.length 7 (List.zipWith aq.cells ht M.2)).holds from (cd 9 U (bB O N cr))) ov dc om om) ?_
 have F:=mH (j:=j) (p:=p) O hd
 have PP:=Y.sig d (aP hd)
 refine eS U (jK ((p.gH).toNat) 0 (aR.cells (aR.mk d.Out d.cD d.Time (de.mk d.aV.Start d.aV.gL (bj.mk da.1 d.aV.aa.length da.2)))) U bU (show g9 _ (rd M.1.1 ht.length 7 (List.zipWith aq.cells ht M.2)).holds from (cd 9 U (bB O N cr))) r U dc U U)<|ed U<|cf U fun T73 GE=>AL U K7 fun QI=>aC (GE _ _ (aK [1,2,3,4,5,6,7,8,9,10,11,12]) ?_)
 refine cf U fun T75 GT=>e7 U Ez U<|aC (GT _ _ (aK [1,2,3,4,5,6,7,8,9,10,11,12]) ?_)
 refine e9 U<|KK C2<|WS fun _ l=>dZ 1 [] (mc 0 U I) U<|rS (CL (ve d.Out d.cD d.Time (de.mk d.aV.Start d.aV.gL (bj.mk da.1 d.aV.aa.length da.2))) (aS) U)<|rP 2 [] I ?_
 refine bS (t:=149) U (aX fun E=>?_) (aW fun E=>?_)
 ·refine bp 8 U<|RK l<|aL U<|WS fun _ C3=>rP 1 [] I ?_
  refine RK C3<|ak<|Q1 hQ U U U ?_
  first|exact cB (br (fun q=>by have C:=q.nf; have H:=q.min_; have J:=q.td; have K:=q.np; omega)).symm|exact cB (br (fun q=>by have C:=q.fault f (aP hf); unfold fj at C; split at C<;>omega)).symm|exact cB (br (fun q=>by have A:=q.hZ _ p hp; have C:=A.id; have H:=A.kX; have J:=A.fJ; have K:=A.fault; simp only [qN] at H; first|omega|(have V:=A.up AA om L; omega))).symm|exact cB (br (fun q=>by obtain ⟨R,G,AB,T⟩:=(q.hZ _ p hp).lR; rw [F] at G; cases G; exact E AB)).symm|exact cB (dC ⟨om,dW D om,om,om,om,fun i p hi=>B i p (by have:=(aZ.1 hi).1; omega) hi⟩).symm
 refine dZ 5 [0,1] (mc 1 U (mc 0 U I)) U<|rS (CL (iv p.At d.aV.Start 86400000) (aS) U)<|rP 2 [] I ?_
 refine RK l<|bO U (aW fun Lo=>?_) (aX fun Lo=>?_)
 ·refine cg<|aJ<|KK g<|ao<|rP 3 [] I ?_
  refine aC ?_
  have IR:(vI (((k+1):Nat):Int))=(vI ((k:Int)+1)):=by exact cI om
  refine a_ (b ⟨(k+1),⟨om,tj B hp ⟨om,fun q h1 h2=>by (rw [L] at h2; cases h2; omega),by simp only [qN]; omega,om,om,d,F,by first|exact E|exact h148,om⟩⟩⟩ _ _ _ rfl os (cR.cons rfl<|aU rfl IR<|cR.nil _) (aK [2,3,4,5,6,7,8,9,10,11,12]))
 refine WS fun _ Di=>rP 1 [] I ?_
 refine RK Di<|ak<|Q1 hQ U U U ?_
 first|exact cB (br (fun q=>by have C:=q.nf; have H:=q.min_; have J:=q.td; have K:=q.np; omega)).symm|exact cB (br (fun q=>by have C:=q.fault f (aP hf); unfold fj at C; split at C<;>omega)).symm|exact cB (br (fun q=>by have A:=q.hZ _ p hp; have C:=A.id; have H:=A.kX; have J:=A.fJ; have K:=A.fault; simp only [qN] at H; first|omega|(have V:=A.up AA om L; omega))).symm|exact cB (br (fun q=>by obtain ⟨R,G,AB,T⟩:=(q.hZ _ p hp).lR; rw [F] at G; cases G; omega)).symm|exact cB (dC ⟨om,dW D om,om,om,om,fun i p hi=>B i p (by have:=(aZ.1 hi).1; omega) hi⟩).symm
end
section
open Go.RowKit
theorem ni (j:cw) (kA:OA) (kC:Nat) (az:List RA) (cA:OA) (cC:Nat) (bA:OA) (bC:Nat) (slA:OA) (slC:Nat) (drA:OA) (drC:Nat) (ha:List bZ) (heA:OA) (heC:Nat) (faA:OA) (faC:Nat) (prA:OA) (prC:Nat) (hin:er j az ha):
 dF Tryz.prog 43 [(vA (eX.cells (lM j kA kC cA cC bA bC slA slC drA drC heA heC faA faC prA prC)))] (o_ j kA az cA bA slA drA ha heA faA prA) (vI (dT j)):=by
 have O:=hin.race
 have L:=hin.race.line
 have R:=hin.race.fE
 have S:=hin.race.has
 have P:=hin.race.fM
 have M:=hin.nf
 have N:=hin.np
 refine bG kr Tryz.func43 U U fun AA Q hQ hN=>?_
 try dsimp only
 refine WS fun _ D=>dV U fun T=>bp 1 U<|RK D<|ag fun _ E=>WS fun _ F=>bp 1 U<|rS (LP (ct.cells (we j.Race kA kC cA cC bA bC slA slC drA drC heA heC)) 0 U bU U U U)<|rS (CL (zJ j.Race kA kC az cA cC bA bC slA slC drA drC ha heA heC asm) (aY [1,2,3,4,5,6,7,8]) U)<|bp 1 U<|RK F<|WS fun _ G=>rP 2 [] I ?_
 refine RK G<|cb U (aX fun C=>?_) (aW fun C=>?_)
 ·refine WS fun _ H=>rP 2 [] I ?_
  refine RK H<|ak<|Q1 hQ U U U ?_
  exact cI (zj C).symm
 refine WK E<|ag fun _ AB=>WS fun _ J=>dZ 1 [] (mc 0 U I) U<|rS (CL (Gr j kA kC az cA cC bA bC slA slC drA drC ha heA heC faA faC prA prC hin asm) (aY [1,2,3,4,5,6,7,8,9,10]) U)<|rP 1 [] I ?_
 refine RK J<|cb U (aX fun A=>?_) (aW fun A=>?_)
 ·refine WS fun _ K=>rP 1 [] I ?_
  refine RK K<|ak<|Q1 hQ U U U ?_
  exact cI (jR C A).symm
 refine WK AB<|WS fun _ B=>rP 1 [] I ?_
 refine RK B<|ak<|Q1 hQ U U U ?_
 exact cI (Cw C A).symm
end
section
open Go.RowKit
theorem Aw (G:List (List Int)) (H:List (List Int)) (gz:List RA) (gA:OA) (gC:Nat) (hz:List RA) (hA:OA) (hC:Nat) (h1:G.length≤1000000) (h2:H.length≤1000000) (h3: ∀ l∈G,l.length≤1000000) (h4: ∀ l∈H,l.length≤1000000) (hgz:gz.length=G.length) (hhz:hz.length=H.length):
 dF Tryz.prog 13 [(vS gA G.length gC),(vS hA H.length hC)] [(rd gA G.length 1 (List.zipWith tU G gz)),(iK (bK On G gz)),(rd hA H.length 1 (List.zipWith tU H hz)),(iK (bK On H hz))] (vB (decide (G=H))):=by
 refine bG kr Tryz.func13 U U fun Z Q hQ hN=>?_
 try dsimp only
 refine WS fun _ N=>bp 1 U<|RK N<|ag fun _ O=>WS fun _ P=>rP 5 [] I ?_
 refine RK P<|cb U (aX fun hl=>?_) (aW fun hl=>?_)
 ·refine WS fun _ R=>rP 1 [] I ?_
  refine RK R<|ak<|Q1 hQ U U U ?_
  exact cB (br (fun e=>by subst e; omega)).symm
 refine WK O<|ag fun _ S=>WS fun _ T=>rP 1 [] I ?_
 refine RK T<|ax ?_
 have A:(0≤G.length)∧(G.take 0=H.take 0):=by exact ⟨Nat.zero_le _,rfl⟩
 refine bP (ι:={z:Nat // (z≤G.length)∧(G.take z=H.take z)}) [0,1] [0,1,2,3] U U (fun z=>[(5,(vI (z.1:Int)))]) (fun z=>[]) (fun _=>rfl) (fun _=>rfl) (fun z=>G.length-z.1) ⟨0,A⟩ (bf U) (aK [0,1,2,3]) ?_
 clear A
 rintro ⟨i,⟨W,B⟩⟩ J7 M
 try dsimp only
 refine ag fun _ AA=>WS fun _ V=>rP 4 [] I ?_
 refine RK V<|bO U (aO fun L=>?_) (aN fun L=>?_)
 ·refine bM<|ab<|ab<|aF<|KK S<|WS fun _ F=>rP 1 [] I ?_
  refine RK F<|ak<|Q1 hQ U U U ?_
  exact cB (dC (jA om B om)).symm
 refine WK AA<|ag fun _ C=>ax<|ag fun _ D=>cS cj 10 kr<|dP 2 [] I ?_
 obtain ⟨x,hx⟩:=aA G i om
 obtain ⟨xa,J⟩:=aA gz i om
 have X:(List.zipWith tU G gz)[i]? =some (tU x xa):=cG hx J
 refine dS (IA i U (av 0 U) Gt dc om om)<|dS (gD i 0 (vS xa.1 x.length xa.2) U bU (av 0 U) X U dc U)<|dP 2 [] I ?_
 obtain ⟨y,hy⟩:=aA H i om
 obtain ⟨ya,K⟩:=aA hz i om
 have Y:(List.zipWith tU H hz)[i]? =some (tU y ya):=cG hy K
 refine dS (IA i U (av 2 U) Gt dc om om)<|dS (gD i 0 (vS ya.1 y.length ya.2) U bU (av 2 U) Y U dc U)<|dS (CL (rq x xa.1 xa.2 y ya.1 ya.2 (by exact h3 x (aP hx)) (by exact h4 y (aP hy))) (aw (show g9 _ (rd xa.1 x.length 1 (x.map iC)).holds from (cd 1 U (bB hx J (by simp [On]))))<|aw (show g9 _ (rd ya.1 y.length 1 (y.map iC)).holds from (cd 3 U (bB hy K (by simp [On]))))<|aS) U)<|dP 1 [] I ?_
 refine cu<|RK D<|cb U (aX fun h=>?_) (aW fun h=>?_)
 ·refine WS fun _ E=>rP 1 [] I ?_
  refine RK E<|ak<|Q1 hQ U U U ?_
  exact cB (br (n8 hx hy h)).symm
 refine cg<|aJ<|KK C<|ao<|rP 3 [] I ?_
 refine aC ?_
 have AB:(vI (((i+1):Nat):Int))=(vI ((i:Int)+1)):=by exact cI om
 refine a_ (M ⟨(i+1),⟨om,iA B hx hy h⟩⟩ _ _ _ U os (cR.cons U<|cR.cons U<|aU U AB<|cR.nil _) (aK [0,1,2,3]))
end
section
open Go.RowKit
theorem L4 (l:bq) (kA:OA) (kC:Nat) (az:List RA) (cA:OA) (cC:Nat) (bA:OA) (bC:Nat) (hin:ej l az) (hng: ¬ ly l):
 lO Tryz.prog 71 [(vA (bW.cells (jy l kA kC cA cC bA bC)))] (o7 l kA az cA bA) (fun (x:(OA)×Nat×(OA)×Nat×(List RA)×(OA)×Nat)=>(vA (bW.cells (bW.mk (bJ.mk (bj.mk x.1 l.bL.length x.2.1)) l.gl (bj.mk x.2.2.1 l.aH.length x.2.2.2.1) (bj.mk x.2.2.2.2.2.1 l.aj.length x.2.2.2.2.2.2) l.bV l.ew l.cU)))) (fun (x:(OA)×Nat×(OA)×Nat×(List RA)×(OA)×Nat)=>x.2.2.2.2.1.length=l.aH.length∧m7 l.aH x.2.2.2.2.1) (fun (x:(OA)×Nat×(OA)×Nat×(List RA)×(OA)×Nat)=>[(own x.1 x.2.1 128 9 (l.bL.map aD.cells)),(own x.2.2.1 x.2.2.2.1 133 2 (List.zipWith aT.cells l.aH x.2.2.2.2.1)),(bQ (bK aT.owns l.aH x.2.2.2.2.1)),(own x.2.2.2.2.2.1 x.2.2.2.2.2.2 137 4 (l.aj.map cQ.cells))]):=by
 have v:=hin.qF
 have u:=hin.qL
 have G:=hin.lQ
 have t:=hin.qE
 have Z:=uW hng
 refine dK Vh Tryz.func71 U U fun w0 Q hQ hN=>?_
 try dsimp only
 refine WS fun _ p=>dV U fun b2=>AL U MT fun b3=>RK p<|WS fun _ q=>rP 1 [] I ?_
 refine rS (LP (bJ.cells (bJ.mk (bj.mk kA l.bL.length kC))) 1 U RC U U U)<|cX (PS l.bL kA kC asm) (aY [2]) U fun y w=>?_
 obtain ⟨c,d⟩:=y
 try dsimp only
 refine bp 1 U<|U8 (bW.cells (bW.mk (bJ.mk (bj.mk c l.bL.length d)) l.gl (bj.mk cA l.aH.length cC) (bj.mk bA l.aj.length bC) l.bV l.ew l.cU)) U SV U U<|RK q<|WS fun _ r=>lE U vp U fun e=>rP 2 [] (mc 3 U I) ?_
 refine fy (es:=(List.map dE.cells [])) (C':=[own (some ⟨e,0,none⟩) 0 133 2 (List.map dE.cells []),_,_,_,_,_,_,_]) 0 U sm U (by simp [maxLen]) U ?_
 refine cN (es2:=(List.zipWith aT.cells l.aH az)) (m':=l.aH.length) 0 U U U SR U U sm (av 5 U) (yv _ _) os (by (simp only [maxLen]; omega)) sm (gO G) U fun B D=>?_
 try dsimp only
 refine bp 1 U<|Pm (bW.cells (bW.mk (bJ.mk (bj.mk c l.bL.length d)) l.gl (bj.mk B l.aH.length D) (bj.mk bA l.aj.length bC) l.bV l.ew l.cU)) U Sq U U<|RK r<|ag fun _ N=>WS fun _ O=>rP 1 [] I ?_
 refine RK O<|ax<|lx ?_
 have H:(0≤l.aH.length)∧(([]:List RA).length=0)∧(m7 l.aH ([]:List RA)):=by exact ⟨Nat.zero_le _,rfl,fun k m a _ h=>by simp at h⟩
 refine bP (ι:={z:Nat×(List RA) // (z.1≤l.aH.length)∧(z.2.length=z.1)∧(m7 l.aH z.2)}) [1,2] [2,3,4,5,6,7,8] U U (fun z=>[(3,(vI (z.1.1:Int)))]) (fun z=>[(bQ (bK aT.owns (l.aH.take z.1.1) z.1.2)),(own B D 133 2 (List.zipWith aT.cells l.aH (sO z.1.2 az z.1.1)))]) (fun _=>rfl) (fun _=>rfl) (fun z=>l.aH.length-z.1.1) ⟨(0,([]:List RA)),H⟩ (bf U) (aK [2,3,4,5,6,7,8,0,1]) ?_
 clear H
 rintro ⟨⟨i,bz⟩,⟨AB,A,F⟩⟩ J15 M
 try dsimp only at AB A F
 try dsimp only
 refine ag fun _ P=>WS fun _ R=>rP 5 [] (mc 2 U I) ?_
 refine RK R<|bO U (aO fun j=>?_) (aN fun j=>?_)
 ·refine bM<|ab<|ab<|aF<|KK N<|WS fun _ T=>lE U ux U fun g=>?_
  rw [show sO bz az i=bz from II om]
  rw [show l.aH.take i=l.aH from List.take_of_length_le om]
  refine rP 2 [] (mc 3 U I) ?_
  refine fy (es:=(List.map cQ.cells [])) (C':=[own (some ⟨g,0,none⟩) 0 137 4 (List.map cQ.cells []),_,_,_,_,_,_,_,_,_]) 0 U sm U (by simp [maxLen]) U ?_
  refine cN (es2:=(List.map cQ.cells l.aj)) (m':=l.aj.length) 0 U U U QW U U sm (av 7 U) (qC _) os (by (simp only [maxLen]; omega)) sm sm U fun K L=>?_
  try dsimp only
  refine bp 1 U<|Pm (bW.cells (bW.mk (bJ.mk (bj.mk c l.bL.length d)) l.gl (bj.mk B l.aH.length D) (bj.mk K l.aj.length L) l.bV l.ew l.cU)) U Ty U U<|RK T<|WS fun _ AA=>rP 1 [] (mc 3 U I) ?_
  refine BA U Ia U<|RK AA<|ak ?_
  refine LX hQ (c,d,B,D,bz,K,L) [1,9,8,0] [0] (mc 2 U I) U (by simp only [fX,List.all_nil,kz,Bool.and_true]; rfl) U U ?_
  exact ⟨dso,F⟩
 refine WK P<|ag fun _ S=>ax<|dp cj [3,10,13] [6,7,8,9,10] [0,1] [0,1,2,3,4,5,6,7] [0,1,2,3,4,5,6,7,8] U U U U U<|eS U (FA 2 U Km U)<|eS U (L1 (vS B l.aH.length D) 2 U Qc U U)<|eS U (MV U)<|eS U (FA 2 U Km U)<|eS U (L1 (vS B l.aH.length D) 2 U Qc U U)<|eS U (MV U) ?_
 obtain ⟨x,hx⟩:=aA l.aH i om
 obtain ⟨xa,J⟩:=aA az i om
 have b:(List.zipWith aT.cells l.aH (sO bz az i))[i]? =some (aT.cells x xa):=cG hx (Fm A J)
 refine fS U (IA i U (ar (n:=l.aH.length) 8 U (gO (by rw [rp A om]; exact G))) vp dc om om) ?_
 refine fS U (nX ((i*2)+1) U (ar (n:=l.aH.length) 8 U (gO (by rw [rp A om]; exact G))) (Nat.mul_pos om dc) Fs U) ?_
 refine fS U (gD i 1 (vS xa.1 x.bk.length xa.2) U ON (ar (n:=l.aH.length) 8 U (gO (by rw [rp A om]; exact G))) b U dc U) ?_
 refine fS U (IA i U (ar (n:=l.aH.length) 8 U (gO (by rw [rp A om]; exact G))) vp dc om om) ?_
 refine fS U (nX ((i*2)+1) U (ar (n:=l.aH.length) 8 U (gO (by rw [rp A om]; exact G))) (Nat.mul_pos om dc) Fs U) ?_
 refine ed U<|gV U fun T20 V=>lE U nQ U fun f=>aC (V _ _ (aK [1,2,3,4,5,6,7,8]) (aK [1,2,3,4,5,6,7,8,9]) ?_)
 refine gV U fun T22 W=>fy (es:=(List.map cE.cells [])) (C':=[own (some ⟨f,0,none⟩) 0 130 3 (List.map cE.cells []),_,_,_,_,_,_,_,_,_]) 0 U sm U (by simp [maxLen]) U ?_
 refine cN (es2:=(List.map cE.cells x.bk)) (m':=x.bk.length) 0 U U U Ow U U sm (show g9 _ (rd xa.1 x.bk.length 3 (x.bk.map cE.cells)).holds from (cd 6 U (bB hx J (by simp [aT.jW])))) (qM _) (by have:=Z.2.2.2 x (aP hx); simp; omega) (by have:=Z.2.2.2 x (aP hx); simp only [maxLen]; simp; omega) sm sm U fun C E=>?_
 try dsimp only
 refine TE 0 U fun s=>aC (W _ _ (aK [1,2,3,4,5,6,7,8]) (aK [1,2,3,4,5,6,7,8,9]) ?_)
 refine cf U fun T25 X=>eo (k:=i) (o:=1) (vs:=[(vS C x.bk.length E)]) (es':=(List.zipWith aT.cells l.aH (sO (bz++[(C,E)]) az (i+1)))) (C':=[_,_,_,_,_,_,_,_,_,(own B D 133 2 (List.zipWith aT.cells l.aH (sO (bz++[(C,E)]) az (i+1))))]) 9 U U U OC U U U U b U dc (by exact Mp (nw:=(C,E)) hx A J) U<|aC (X _ _ (aK [1,2,3,4,5,6,7,8]) ?_)
 refine e9 U<|aJ<|KK S<|ao<|rP 3 [] I ?_
 refine aC<|yE (X':=bK aT.owns (l.aH.take (i+1)) (bz++[(C,E)])) 8 0 U U (G_ (nw:=(C,E)) hx A) ?_
 have Y:(vI (((i+1):Nat):Int))=(vI ((i:Int)+1)):=by exact cI om
 refine a_ (M ⟨((i+1),(bz++[(C,E)])),⟨om,by simp; omega,Cl F A hx (by simpa using s)⟩⟩ _ _ _ U os (cR.cons U<|cR.cons U<|aU U Y<|cR.nil _) (aK [1,2,3,4,5,6,7,0,8]))
end
section
open Go.RowKit
theorem Fq (r:cO) (sgA:OA) (sgC:Nat) (hsl:r.aa.length≤1000000):
 lO Tryz.prog 55 [(vA (de.cells (g8 r sgA sgC)))] [(rd sgA r.aa.length 2 (r.aa.map aG.cells))] (fun (x:(OA)×Nat)=>(vA (de.cells (de.mk r.Start r.gL (bj.mk x.1 r.aa.length x.2))))) (fun (x:(OA)×Nat)=>True) (fun (x:(OA)×Nat)=>[(own x.1 x.2 113 2 (r.aa.map aG.cells))]):=by
 refine dK kr Tryz.func55 U U fun AA Q hQ hN=>?_
 try dsimp only
 refine WS fun _ A=>dV U fun G=>AL U TU fun H=>RK A<|WS fun _ B=>lE U wH U fun F=>rP 2 [] (mc 2 U I) ?_
 refine fy (es:=(List.map aG.cells [])) (C':=[own (some ⟨F,0,none⟩) 0 113 2 (List.map aG.cells []),_,_,_]) 0 U sm U (by simp [maxLen]) U ?_
 refine cN (es2:=(List.map aG.cells r.aa)) (m':=r.aa.length) 0 U U U SH U U sm (av 3 U) (oK _) os (by first|(simp only [maxLen]; omega)|(simp [maxLen]; omega)) sm sm U fun D E=>?_
 try dsimp only
 refine bp 1 U<|U8 (de.cells (g8 r D E)) U Px U U<|RK B<|WS fun _ C=>rP 1 [] (mc 2 U I) ?_
 refine pV U Pa U<|RK C<|ak<|LX hQ (D,E) [0] [0] (mc 1 U I) U U U U ?_
 trivial
end
section
open Go.RowKit
theorem xX (r:eU) (kA:OA) (kC:Nat) (az:List RA) (cA:OA) (cC:Nat) (bA:OA) (bC:Nat) (slA:OA) (slC:Nat) (drA:OA) (drC:Nat) (ha:List bZ) (heA:OA) (heC:Nat) (hin:iP r az ha) (hng: ¬ jX r):
 lO Tryz.prog 39 [(vA (ct.cells (we r kA kC cA cC bA bC slA slC drA drC heA heC)))] (Ix r kA az cA bA slA drA ha heA) (fun (x:(OA)×Nat×(OA)×Nat×(List RA)×(OA)×Nat×(OA)×Nat×(OA)×Nat×(OA)×Nat×(List bZ))=>(vA (ct.cells (ct.mk (bW.mk (bJ.mk (bj.mk x.1 r.au.bL.length x.2.1)) r.au.gl (bj.mk x.2.2.1 r.au.aH.length x.2.2.2.1) (bj.mk x.2.2.2.2.2.1 r.au.aj.length x.2.2.2.2.2.2.1) r.au.bV r.au.ew r.au.cU) (bj.mk x.2.2.2.2.2.2.2.1 r.bu.length x.2.2.2.2.2.2.2.2.1) (bj.mk x.2.2.2.2.2.2.2.2.2.1 r.cP.length x.2.2.2.2.2.2.2.2.2.2.1) r.jc (bj.mk x.2.2.2.2.2.2.2.2.2.2.2.1 r.aI.length x.2.2.2.2.2.2.2.2.2.2.2.2.1))))) (fun (x:(OA)×Nat×(OA)×Nat×(List RA)×(OA)×Nat×(OA)×Nat×(OA)×Nat×(OA)×Nat×(List bZ))=>(x.2.2.2.2.1.length=r.au.aH.length∧m7 r.au.aH x.2.2.2.2.1)∧uD r.aI x.2.2.2.2.2.2.2.2.2.2.2.2.2) (fun (x:(OA)×Nat×(OA)×Nat×(List RA)×(OA)×Nat×(OA)×Nat×(OA)×Nat×(OA)×Nat×(List bZ))=>[(own x.1 x.2.1 128 9 (r.au.bL.map aD.cells)),(own x.2.2.1 x.2.2.2.1 133 2 (List.zipWith aT.cells r.au.aH x.2.2.2.2.1)),(bQ (bK aT.owns r.au.aH x.2.2.2.2.1)),(own x.2.2.2.2.2.1 x.2.2.2.2.2.2.1 137 4 (r.au.aj.map cQ.cells)),(own x.2.2.2.2.2.2.2.1 x.2.2.2.2.2.2.2.2.1 3 1 (r.bu.map iC)),(own x.2.2.2.2.2.2.2.2.2.1 x.2.2.2.2.2.2.2.2.2.2.1 3 1 (r.cP.map iC)),(own x.2.2.2.2.2.2.2.2.2.2.2.1 x.2.2.2.2.2.2.2.2.2.2.2.2.1 75 1 (List.zipWith cM r.aI x.2.2.2.2.2.2.2.2.2.2.2.2.2)),(bQ (bK j4 r.aI x.2.2.2.2.2.2.2.2.2.2.2.2.2))]):=by
 have p:=hin.line
 have Id:=hin.fE
 have G:=hin.has
 have H5:=hin.fM
 have Go:=hin.draw
 have IO:=jo (r:=r)
 have Ck:=uf hng
 refine dK kr Tryz.func39 U U fun w0 Q hQ hN=>?_
 try dsimp only
 refine WS fun _ EQ=>dV U fun b2=>AL U yX fun b3=>RK EQ<|WS fun _ EZ=>rP 1 [] I ?_
 refine rS (LP (bW.cells (jy r.au kA kC cA cC bA bC)) 1 U bU U U U)<|cX (L4 r.au kA kC az cA cC bA bC (by exact p) (by exact Ck.1)) (aY [2,3,4,5]) U fun y5 GE=>?_
 obtain ⟨T,V,AA,L,s,K,N⟩:=y5
 try dsimp only
 obtain ⟨Eq,FS⟩:=GE
 refine bp 1 U<|VF (ct.cells (ct.mk (bW.mk (bJ.mk (bj.mk T r.au.bL.length V)) r.au.gl (bj.mk AA r.au.aH.length L) (bj.mk K r.au.aj.length N) r.au.bV r.au.ew r.au.cU) (bj.mk slA r.bu.length slC) (bj.mk drA r.cP.length drC) r.jc (bj.mk heA r.aI.length heC))) U Ia U U<|RK EZ<|WS fun _ v=>lE U dI U fun C0=>rP 2 [] (mc 6 U I) ?_
 refine fy (es:=(List.map iC [])) (C':=[own (some ⟨C0,0,none⟩) 0 3 1 (List.map iC []),_,_,_,_,_,_,_,_,_,_,_,_,_,_]) 0 U sm U (by simp [maxLen]) U ?_
 refine cN (es2:=(List.map iC r.bu)) (m':=r.bu.length) 0 U U U pq U U sm (av 11 U) (jM _) (by simp; omega) (by simp only [maxLen]; simp; omega) sm sm U fun X Y=>?_
 try dsimp only
 refine bp 1 U<|TL (ct.cells (ct.mk (bW.mk (bJ.mk (bj.mk T r.au.bL.length V)) r.au.gl (bj.mk AA r.au.aH.length L) (bj.mk K r.au.aj.length N) r.au.bV r.au.ew r.au.cU) (bj.mk X r.bu.length Y) (bj.mk drA r.cP.length drC) r.jc (bj.mk heA r.aI.length heC))) U Ch U U<|RK v<|WS fun _ w=>lE U dI U fun C1=>rP 2 [] (mc 7 U I) ?_
 refine fy (es:=(List.map iC [])) (C':=[own (some ⟨C1,0,none⟩) 0 3 1 (List.map iC []),_,_,_,_,_,_,_,_,_,_,_,_,_,_,_]) 0 U sm U (by simp [maxLen]) U ?_
 refine cN (es2:=(List.map iC r.cP)) (m':=r.cP.length) 0 U U U pq U U sm (av 13 U) (jM _) (by simp; omega) (by simp only [maxLen]; simp; omega) sm sm U fun g j=>?_
 try dsimp only
 refine bp 1 U<|VN (ct.cells (ct.mk (bW.mk (bJ.mk (bj.mk T r.au.bL.length V)) r.au.gl (bj.mk AA r.au.aH.length L) (bj.mk K r.au.aj.length N) r.au.bV r.au.ew r.au.cU) (bj.mk X r.bu.length Y) (bj.mk g r.cP.length j) r.jc (bj.mk heA r.aI.length heC))) U Ch U U<|RK w<|WS fun _ AC=>lE U kF U fun C2=>rP 2 [] (mc 8 U I) ?_
 refine fy (es:=(List.map sC [])) (C':=[own (some ⟨C2,0,none⟩) 0 75 1 (List.map sC []),_,_,_,_,_,_,_,_,_,_,_,_,_,_,_,_]) 0 U sm U (by simp [maxLen]) U ?_
 refine cN (es2:=(List.zipWith cM r.aI ha)) (m':=r.aI.length) 0 U U U Sy U U sm (av 15 U) (zI _ _) (by simp; omega) (by simp only [maxLen]; simp; omega) sm (dQ G) U fun J M=>?_
 try dsimp only
 refine bp 1 U<|VM (ct.cells (ct.mk (bW.mk (bJ.mk (bj.mk T r.au.bL.length V)) r.au.gl (bj.mk AA r.au.aH.length L) (bj.mk K r.au.aj.length N) r.au.bV r.au.ew r.au.cU) (bj.mk X r.bu.length Y) (bj.mk g r.cP.length j) r.jc (bj.mk J r.aI.length M))) U Sv U U<|RK AC<|ag fun _ AM=>WS fun _ AO=>rP 1 [] I ?_
 refine RK AO<|ax<|lx ?_
 have F:(0≤r.aI.length)∧(([]:List bZ).length=0)∧(∀ (k:Nat) y (a:bZ),r.aI[k]? =some y→([]:List bZ)[k]? =some a→a.2.length=y.length):=by exact ⟨Nat.zero_le _,rfl,fun k y a _ q=>by simp at q⟩
 refine bP (ι:={z:Nat×(List bZ) // (z.1≤r.aI.length)∧(z.2.length=z.1)∧(∀ (k:Nat) y (a:bZ),r.aI[k]? =some y→z.2[k]? =some a→a.2.length=y.length)}) [1,2] [2,3,4,5,6,7,8,9,10,11,12,13,14,15,16,17] U U (fun z=>[(3,(vI (z.1.1:Int)))]) (fun z=>[(bQ (bK j4 (r.aI.take z.1.1) z.1.2)),(own J M 75 1 (List.zipWith cM r.aI (jq z.1.2 ha z.1.1)))]) (fun _=>rfl) (fun _=>rfl) (fun z=>r.aI.length-z.1.1) ⟨(0,([]:List bZ)),F⟩ (bf U) (aK [2,3,4,5,6,7,8,9,10,11,12,13,14,15,16,17,0,1]) ?_
 clear F
 rintro ⟨⟨h,hz⟩,⟨m,B,S⟩⟩ J28 t
 try dsimp only at m B S
 try dsimp only
 refine ag fun _ Ac=>WS fun _ As=>rP 5 [] (mc 7 U I) ?_
 refine RK As<|bO U (aO fun Di=>?_) (aN fun Di=>?_)
 ·refine bM<|ab<|ab<|aF<|KK AM<|ag fun _ A6=>?_
  have Fd:uD r.aI hz:=⟨om,S⟩
  rw [show (jq hz ha h)=hz from rK om,show r.aI.take h=r.aI from List.take_of_length_le om]
  refine ao<|rP 1 [] (mc 7 U I) ?_
  refine RB U o6 U<|RK A6<|ak ?_
  refine LX hQ (T,V,AA,L,s,K,N,X,Y,g,j,J,M,hz) [2,3,4,5,1,0,17,16] [0] (mc 6 U I) U (by show List.all _ _=true; simp only [fX,List.all_nil,kz,rm,Bool.and_true]; rfl) U U ?_
  exact ⟨⟨Eq,FS⟩,Fd⟩
 refine WK Ac<|ag fun _ A0=>ax<|ag fun _ A1=>dp cj [3,9,11] [6,7,8] [0,1] [0,1,2,3,4,5,6,7,8,9,10,11,12,13,14,15,16] [0,1,2,3,4,5,6,7,8,9,10,11,12,13,14,15,16,17] U U U U U<|eS U (FA 10 U eC U)<|eS U (L1 (vS J r.aI.length M) 7 U bU U U)<|eS U (MV U)<|eS U (FA 10 U eC U)<|eS U (L1 (vS J r.aI.length M) 7 U bU U U)<|eS U (MV U) ?_
 obtain ⟨ht,AB⟩:=aA r.aI h om
 obtain ⟨C,O⟩:=aA ha h om
 have e:(List.zipWith cM r.aI (jq hz ha h))[h]? =some (cM ht C):=cG AB (uB B O)
 have Cp:=hin.fJ _ _ _ AB O
 have H:=Cp.lQ
 have Cx:=Ck.2.2.2.2 ht (aP AB)
 refine fS U (IA h U (ar (n:=r.aI.length) 17 U (dQ (by rw [eO B om]; exact G))) kF dc om om) ?_
 refine fS U (gD h 0 (vS C.1.1 ht.length C.1.2) U bU (ar (n:=r.aI.length) 17 U (dQ (by rw [eO B om]; exact G))) e U dc U) ?_
 refine fS U (IA h U (ar (n:=r.aI.length) 17 U (dQ (by rw [eO B om]; exact G))) kF dc om om) ?_
 refine ed U<|gV U fun T34 A7=>lE U ov U fun C3=>aC (A7 _ _ (aK [1,2,3,4,5,6,7,8,9,10,11,12,13,14,15,16,17]) (aK [1,2,3,4,5,6,7,8,9,10,11,12,13,14,15,16,17,18]) ?_)
 refine gV U fun T36 A8=>fy (es:=(List.map aR.cells [])) (C':=[own (some ⟨C3,0,none⟩) 0 43 7 (List.map aR.cells []),_,_,_,_,_,_,_,_,_,_,_,_,_,_,_,_,_,_]) 0 U sm U (by simp [maxLen]) U ?_
 refine cN (es2:=(List.zipWith aq.cells ht C.2)) (m':=ht.length) 0 U U U TC U U sm (show g9 _ (rd C.1.1 ht.length 7 (List.zipWith aq.cells ht C.2)).holds from (cd 16 U (bB AB O cr))) (Fz _ _) (by simp; omega) (by simp only [maxLen]; simp; omega) sm (jQ H) U fun D E=>?_
 try dsimp only
 refine aC (A8 _ _ (aK [1,2,3,4,5,6,7,8,9,10,11,12,13,14,15,16,17]) (aK [1,2,3,4,5,6,7,8,9,10,11,12,13,14,15,16,17,18]) ?_)
 refine cf U fun T39 A9=>eo (k:=h) (o:=0) (vs:=[(vS D ht.length E)]) (es':=(List.zipWith cM r.aI (jq (hz++[((D,E),C.2)]) ha (h+1)))) (C':=[_,_,_,_,_,_,_,_,_,_,_,_,_,_,_,_,_,_,(own J M 75 1 (List.zipWith cM r.aI (jq (hz++[((D,E),C.2)]) ha (h+1))))]) 18 U U U RQ U U U U e U dc (by exact rr (b:=((D,E),C.2)) AB B O) U<|aC (A9 _ _ (aK [1,2,3,4,5,6,7,8,9,10,11,12,13,14,15,16,17]) ?_)
 refine e9 U<|KK A1<|WS fun _ A2=>rP 1 [] I ?_
 refine RK A2<|ax<|lx ?_
 have F:(0≤ht.length)∧(([]:List RA).length=0):=by exact ⟨Nat.zero_le _,rfl⟩
 refine bP (ι:={z:Nat×(List RA) // (z.1≤ht.length)∧(z.2.length=z.1)}) [1,2,3] [2,3,4,5,6,7,8,9,10,11,12,13,14,15,16,17,18,19] U U (fun z=>[(4,(vI (z.1.1:Int)))]) (fun z=>[(bQ (bK oq (ht.take z.1.1) z.1.2)),(own D E 43 7 (List.zipWith aq.cells ht (jq z.1.2 C.2 z.1.1)))]) (fun _=>rfl) (fun _=>rfl) (fun z=>ht.length-z.1.1) ⟨(0,([]:List RA)),F⟩ (bf U) (aK [2,3,4,5,6,7,8,9,10,11,12,13,14,15,16,17,18,19,0,1]) ?_
 clear F
 rintro ⟨⟨i,dz⟩,⟨Z,A⟩⟩ J41 u
 try dsimp only at Z A
 try dsimp only
 refine ag fun _ A3=>WS fun _ A4=>rP 4 [] (mc 7 U I) ?_
 have W:(List.zipWith cM r.aI (jq (hz++[((D,E),C.2)]) ha (h+1)))[h]? =some (cM ht ((D,E),C.2)):=cG AB (Da B)
 refine rS (IA h U (ar (n:=r.aI.length) 17 U (dQ (by rw [eO (by simp; omega) om]; exact G))) kF dc om om) ?_
 refine rS (gD h 0 (vS D ht.length E) U bU (ar (n:=r.aI.length) 17 U (dQ (by rw [eO (by simp; omega) om]; exact G))) W U dc U) ?_
 refine rP 2 [] I ?_
 refine RK A4<|bO U (aO fun Do=>?_) (aN fun Do=>?_)
 ·refine bM<|ab<|ab<|aF<|aJ<|KK A0<|ao<|rP 3 [] I ?_
  refine aC ?_
  have Hi:dz.length=ht.length:=by omega
  rw [show (jq dz C.2 i)=dz from rK om,show ht.take i=ht from List.take_of_length_le om]
  refine H9 (Z':=bK j4 (r.aI.take (h+1)) (hz++[((D,E),dz)])) 16 18 19 U U (oh (f:=j4) (b:=((D,E),dz)) AB B) ?_
  rw [BP (y:=dz)]
  have B9:(vI (((h+1):Nat):Int))=(vI ((h:Int)+1)):=by exact cI om
  refine a_ (t ⟨((h+1),(hz++[((D,E),dz)])),⟨om,by simp; omega,Fp AB S B dso⟩⟩ _ _ _ U os (cR.cons U<|cR.cons U<|aU U B9<|cR.nil _) (aK [1,2,3,4,5,6,7,8,9,10,11,12,13,14,15,16,0,17]))
 refine WK A3<|ag fun _ A5=>ax<|dp cj [15,18] [12,13,14,15,16] [0] [0,1,2,3,4,5,6,7,8,9,10,11,12,13,14,15,16,17,18] [0,1,2,3,4,5,6,7,8,9,10,11,12,13,14,15,16,17,18,19] U U U U U<|eS U (FA 10 U eC U)<|eS U (L1 (vS J r.aI.length M) 7 U bU U U)<|eS U (MV U) ?_
 refine eS U (IA h U (ar (n:=r.aI.length) 17 U (dQ (by rw [eO (by simp; omega) om]; exact G))) kF dc om om) ?_
 refine eS U (gD h 0 (vS D ht.length E) U bU (ar (n:=r.aI.length) 17 U (dQ (by rw [eO (by simp; omega) om]; exact G))) W U dc U) ?_
 refine eS U (MV U)<|eS U (FA 10 U eC U)<|eS U (L1 (vS J r.aI.length M) 7 U bU U U)<|eS U (MV U) ?_
 refine eS U (IA h U (ar (n:=r.aI.length) 17 U (dQ (by rw [eO (by simp; omega) om]; exact G))) kF dc om om) ?_
 refine eS U (gD h 0 (vS D ht.length E) U bU (ar (n:=r.aI.length) 17 U (dQ (by rw [eO (by simp; omega) om]; exact G))) W U dc U) ?_
 refine eS U (MV U) ?_
 obtain ⟨d,hd⟩:=aA ht i om
 obtain ⟨da,l⟩:=aA C.2 i om
 have Ci:(List.zipWith aq.cells ht (jq dz C.2 i))[i]? =some (aq.cells d da):=cG hd (uB A l)
 have Fn:=Cp.sig d (aP hd)
 have H1:=Cx.2 d (aP hd)
 refine fS U (IA i U (ar (n:=ht.length) 19 U (jQ (by rw [eO A om]; exact H))) ov dc om om) ?_
 refine fS U (nX ((i*7)+4) U (ar (n:=ht.length) 19 U (jQ (by rw [eO A om]; exact H))) (Nat.mul_pos om dc) eC U) ?_
 refine fS U (jK i 4 (de.cells (de.mk d.aV.Start d.aV.gL (bj.mk da.1 d.aV.aa.length da.2))) U bU (ar (n:=ht.length) 19 U (jQ (by rw [eO A om]; exact H))) Ci U dc U U) ?_
 refine fS U (IA i U (ar (n:=ht.length) 19 U (jQ (by rw [eO A om]; exact H))) ov dc om om) ?_
 refine fS U (nX ((i*7)+4) U (ar (n:=ht.length) 19 U (jQ (by rw [eO A om]; exact H))) (Nat.mul_pos om dc) eC U) ?_
 refine ed U<|gV U fun T46 Be=>cX (Fq d.aV da.1 da.2 (by exact Fn)) (aw (show g9 _ (rd da.1 d.aV.aa.length 2 (d.aV.aa.map aG.cells)).holds from (cd 15 U (bB AB O (dH _ (bB hd l (by simp [aq.jW]))))))<|aS) U fun GT IR=>?_
 obtain ⟨P,R⟩:=GT
 try dsimp only
 refine aC (Be _ _ (aK [1,2,3,4,5,6,7,8,9,10,11,12,13,14,15,16,17,18,19]) (aK [1,2,3,4,5,6,7,8,9,10,11,12,13,14,15,16,17,18,19,20]) ?_)
 refine cf U fun T51 Bt=>eo (k:=i) (o:=4) (vs:=(de.cells (g8 d.aV P R))) (es':=(List.zipWith aq.cells ht (jq (dz++[(P,R)]) C.2 (i+1)))) (C':=[_,_,_,_,_,_,_,_,_,_,_,_,_,_,_,_,_,_,_,_,(own D E 43 7 (List.zipWith aq.cells ht (jq (dz++[(P,R)]) C.2 (i+1))))]) 20 U U U Pa U U U U Ci U dc (by exact rr (c:=aq.cells) (b:=(P,R)) hd A l) U<|aC (Bt _ _ (aK [1,2,3,4,5,6,7,8,9,10,11,12,13,14,15,16,17,18,19]) ?_)
 refine e9 U<|aJ<|KK A5<|ao<|rP 3 [] I ?_
 refine aC<|AJ (Y':=bK oq (ht.take (i+1)) (dz++[(P,R)])) 19 0 U U (oh (f:=oq) (b:=(P,R)) hd A) ?_
 have B3:(vI (((i+1):Nat):Int))=(vI ((i:Int)+1)):=by exact cI om
 refine a_ (u ⟨((i+1),(dz++[(P,R)])),⟨om,by simp; omega⟩⟩ _ _ _ U os (cz 3<|aU U B3<|cR.nil _) (aK [1,2,3,4,5,6,7,8,9,10,11,12,13,14,15,16,17,18,0,19]))
end
section
open Go.RowKit
theorem M9 (j:cw) (kA:OA) (kC:Nat) (az:List RA) (cA:OA) (cC:Nat) (bA:OA) (bC:Nat) (slA:OA) (slC:Nat) (drA:OA) (drC:Nat) (ha:List bZ) (heA:OA) (heC:Nat) (faA:OA) (faC:Nat) (prA:OA) (prC:Nat) (hin:er j az ha) (hng: ¬ l7 j):
 lO Tryz.prog 7 [(vA (eX.cells (lM j kA kC cA cC bA bC slA slC drA drC heA heC faA faC prA prC)))] (o_ j kA az cA bA slA drA ha heA faA prA) (fun (x:(OA)×Nat×(OA)×Nat×(List RA)×(OA)×Nat×(OA)×Nat×(OA)×Nat×(OA)×Nat×(List bZ)×(OA)×Nat×(OA)×Nat)=>(vA (eX.cells (eX.mk (ct.mk (bW.mk (bJ.mk (bj.mk x.1 j.Race.au.bL.length x.2.1)) j.Race.au.gl (bj.mk x.2.2.1 j.Race.au.aH.length x.2.2.2.1) (bj.mk x.2.2.2.2.2.1 j.Race.au.aj.length x.2.2.2.2.2.2.1) j.Race.au.bV j.Race.au.ew j.Race.au.cU) (bj.mk x.2.2.2.2.2.2.2.1 j.Race.bu.length x.2.2.2.2.2.2.2.2.1) (bj.mk x.2.2.2.2.2.2.2.2.2.1 j.Race.cP.length x.2.2.2.2.2.2.2.2.2.2.1) j.Race.jc (bj.mk x.2.2.2.2.2.2.2.2.2.2.2.1 j.Race.aI.length x.2.2.2.2.2.2.2.2.2.2.2.2.1)) (bj.mk x.2.2.2.2.2.2.2.2.2.2.2.2.2.2.1 j.aM.length x.2.2.2.2.2.2.2.2.2.2.2.2.2.2.2.1) (bj.mk x.2.2.2.2.2.2.2.2.2.2.2.2.2.2.2.2.1 j.aB.length x.2.2.2.2.2.2.2.2.2.2.2.2.2.2.2.2.2) j.gu j.kT)))) (fun (x:(OA)×Nat×(OA)×Nat×(List RA)×(OA)×Nat×(OA)×Nat×(OA)×Nat×(OA)×Nat×(List bZ)×(OA)×Nat×(OA)×Nat)=>(x.2.2.2.2.1.length=j.Race.au.aH.length∧m7 j.Race.au.aH x.2.2.2.2.1)∧uD j.Race.aI x.2.2.2.2.2.2.2.2.2.2.2.2.2.1) (fun (x:(OA)×Nat×(OA)×Nat×(List RA)×(OA)×Nat×(OA)×Nat×(OA)×Nat×(OA)×Nat×(List bZ)×(OA)×Nat×(OA)×Nat)=>[(own x.1 x.2.1 128 9 (j.Race.au.bL.map aD.cells)),(own x.2.2.1 x.2.2.2.1 133 2 (List.zipWith aT.cells j.Race.au.aH x.2.2.2.2.1)),(bQ (bK aT.owns j.Race.au.aH x.2.2.2.2.1)),(own x.2.2.2.2.2.1 x.2.2.2.2.2.2.1 137 4 (j.Race.au.aj.map cQ.cells)),(own x.2.2.2.2.2.2.2.1 x.2.2.2.2.2.2.2.2.1 3 1 (j.Race.bu.map iC)),(own x.2.2.2.2.2.2.2.2.2.1 x.2.2.2.2.2.2.2.2.2.2.1 3 1 (j.Race.cP.map iC)),(own x.2.2.2.2.2.2.2.2.2.2.2.1 x.2.2.2.2.2.2.2.2.2.2.2.2.1 75 1 (List.zipWith cM j.Race.aI x.2.2.2.2.2.2.2.2.2.2.2.2.2.1)),(bQ (bK j4 j.Race.aI x.2.2.2.2.2.2.2.2.2.2.2.2.2.1)),(own x.2.2.2.2.2.2.2.2.2.2.2.2.2.2.1 x.2.2.2.2.2.2.2.2.2.2.2.2.2.2.2.1 86 4 (j.aM.map bg.cells)),(own x.2.2.2.2.2.2.2.2.2.2.2.2.2.2.2.2.1 x.2.2.2.2.2.2.2.2.2.2.2.2.2.2.2.2.2 102 5 (j.aB.map bR.cells))]):=by
 have V:=hin.race
 have f:=hin.race.line
 have l:=hin.race.fE
 have m:=hin.race.has
 have k:=hin.race.fM
 have h:=hin.nf
 have i:=hin.np
 have d:=sH hng
 refine dK kr Tryz.func7 U U fun q Q hQ hN=>?_
 try dsimp only
 refine WS fun _ Z=>dV U fun o=>AL U SB fun p=>RK Z<|WS fun _ a=>rP 1 [] I ?_
 refine rS (LP (ct.cells (we j.Race kA kC cA cC bA bC slA slC drA drC heA heC)) 1 U bU U U U)<|cX (xX j.Race kA kC az cA cC bA bC slA slC drA drC ha heA heC (by exact V) (by exact d.1)) (aY [2,3,4,5,6,7,8,9]) U fun n g=>?_
 obtain ⟨J,L,K,E,P,A,F,B,G,C,H,D,AB,W⟩:=n
 try dsimp only
 obtain ⟨⟨b,c⟩,e⟩:=g
 refine bp 1 U<|Vw (eX.cells (eX.mk (ct.mk (bW.mk (bJ.mk (bj.mk J j.Race.au.bL.length L)) j.Race.au.gl (bj.mk K j.Race.au.aH.length E) (bj.mk A j.Race.au.aj.length F) j.Race.au.bV j.Race.au.ew j.Race.au.cU) (bj.mk B j.Race.bu.length G) (bj.mk C j.Race.cP.length H) j.Race.jc (bj.mk D j.Race.aI.length AB)) (bj.mk faA j.aM.length faC) (bj.mk prA j.aB.length prC) j.gu j.kT)) U o6 U U<|RK a<|WS fun _ S=>lE U yf U fun X=>rP 2 [] (mc 10 U I) ?_
 refine fy (es:=(List.map bg.cells [])) (C':=[own (some ⟨X,0,none⟩) 0 86 4 (List.map bg.cells []),_,_,_,_,_,_,_,_,_,_,_,_,_,_,_,_,_,_,_,_]) 0 U sm U (by simp [maxLen]) U ?_
 refine cN (es2:=(List.map bg.cells j.aM)) (m':=j.aM.length) 0 U U U UK U U sm (av 19 U) (v8 _) (by simp; omega) (by simp only [maxLen]; simp; omega) sm sm U fun M N=>?_
 try dsimp only
 refine bp 1 U<|Rb (eX.cells (eX.mk (ct.mk (bW.mk (bJ.mk (bj.mk J j.Race.au.bL.length L)) j.Race.au.gl (bj.mk K j.Race.au.aH.length E) (bj.mk A j.Race.au.aj.length F) j.Race.au.bV j.Race.au.ew j.Race.au.cU) (bj.mk B j.Race.bu.length G) (bj.mk C j.Race.cP.length H) j.Race.jc (bj.mk D j.Race.aI.length AB)) (bj.mk M j.aM.length N) (bj.mk prA j.aB.length prC) j.gu j.kT)) U UE U U<|RK S<|WS fun _ T=>lE U wK U fun Y=>rP 2 [] (mc 11 U I) ?_
 refine fy (es:=(List.map bR.cells [])) (C':=[own (some ⟨Y,0,none⟩) 0 102 5 (List.map bR.cells []),_,_,_,_,_,_,_,_,_,_,_,_,_,_,_,_,_,_,_,_,_]) 0 U sm U (by simp [maxLen]) U ?_
 refine cN (es2:=(List.map bR.cells j.aB)) (m':=j.aB.length) 0 U U U UH U U sm (av 21 U) (tR _) (by simp; omega) (by simp only [maxLen]; simp; omega) sm sm U fun O R=>?_
 try dsimp only
 refine bp 1 U<|Rh (eX.cells (eX.mk (ct.mk (bW.mk (bJ.mk (bj.mk J j.Race.au.bL.length L)) j.Race.au.gl (bj.mk K j.Race.au.aH.length E) (bj.mk A j.Race.au.aj.length F) j.Race.au.bV j.Race.au.ew j.Race.au.cU) (bj.mk B j.Race.bu.length G) (bj.mk C j.Race.cP.length H) j.Race.jc (bj.mk D j.Race.aI.length AB)) (bj.mk M j.aM.length N) (bj.mk O j.aB.length R) j.gu j.kT)) U U_ U U<|RK T<|WS fun _ AA=>rP 1 [] (mc 11 U I) ?_
 refine Vf U Q7 U<|RK AA<|ak ?_
 refine LX hQ (J,L,K,E,P,A,F,B,G,C,H,D,AB,W,M,N,O,R) [2,3,4,5,6,7,8,9,1,0] [0] (mc 10 U I) U (by show List.all _ _=true; simp only [fX,List.all_nil,kz,rm,Bool.and_true]; rfl) U U ?_
 exact ⟨⟨b,c⟩,e⟩
end
section
open Go.RowKit
theorem Lp (l:List aD) (lA:OA) (lC:Nat) (hlen:l.length≤1000000):
 lO Tryz.prog 79 [(vS lA l.length lC)] [(rd lA l.length 9 (l.map aD.cells))] (fun (x:(OA)×Nat)=>(vS x.1 l.length x.2)) (fun (x:(OA)×Nat)=>True) (fun (x:(OA)×Nat)=>[(own x.1 x.2 128 9 (l.map aD.cells))]):=by
 refine dK kr Tryz.func79 U U fun L Q hQ hN=>?_
 try dsimp only
 refine WS fun _ D=>bp 1 U<|RK D<|ag fun _ E=>WS fun _ F=>rP 1 [] I ?_
 refine rS (BI U (rF Pg))<|RK F<|cb U (aN fun B=>?_) (aO fun B=>?_)
 ·refine WS fun _ G=>mU (av 0 U) B dc fun C=>?_
  have A:l=[]:=by simpa using C
  refine gn 128 9 ?_
  rw [show (own none 0 128 9 ([]:List (List Value)))=own none 0 128 9 (l.map aD.cells) from by rw [A]; rfl]
  refine rP 1 [] I ?_
  refine RK G<|ak ?_
  refine LX hQ (none,0) [0] [] I U U U ?_ ?_
  ·first|rfl|(rw [A]; rfl)
  ·trivial
 refine WK E<|WS fun _ H=>lE U wL U fun J=>rP 1 [] I ?_
 refine fy (es:=(List.map aD.cells [])) (C':=[own (some ⟨J,0,none⟩) 0 128 9 (List.map aD.cells []),_]) 0 U sm U (by simp [maxLen]) U ?_
 refine cN (es2:=(List.map aD.cells l)) (m':=l.length) 0 U U U QR U U sm (av 1 U) (nR _) os (by (simp only [maxLen]; omega)) sm sm U fun AA K=>?_
 try dsimp only
 refine rP 1 [] I ?_
 refine RK H<|ak ?_
 refine LX hQ (AA,K) [0] [] I U U U ?_ ?_
 ·first|rfl|(rw [A]; rfl)
 ·trivial
theorem It (l:List cQ) (lA:OA) (lC:Nat) (hlen:l.length≤1000000):
 lO Tryz.prog 80 [(vS lA l.length lC)] [(rd lA l.length 4 (l.map cQ.cells))] (fun (x:(OA)×Nat)=>(vS x.1 l.length x.2)) (fun (x:(OA)×Nat)=>True) (fun (x:(OA)×Nat)=>[(own x.1 x.2 137 4 (l.map cQ.cells))]):=by
 refine dK kr Tryz.func80 U U fun L Q hQ hN=>?_
 try dsimp only
 refine WS fun _ D=>bp 1 U<|RK D<|ag fun _ E=>WS fun _ F=>rP 1 [] I ?_
 refine rS (BI U (rF Mr))<|RK F<|cb U (aN fun B=>?_) (aO fun B=>?_)
 ·refine WS fun _ G=>mU (av 0 U) B dc fun C=>?_
  have A:l=[]:=by simpa using C
  refine gn 137 4 ?_
  rw [show (own none 0 137 4 ([]:List (List Value)))=own none 0 137 4 (l.map cQ.cells) from by rw [A]; rfl]
  refine rP 1 [] I ?_
  refine RK G<|ak ?_
  refine LX hQ (none,0) [0] [] I U U U ?_ ?_
  ·first|rfl|(rw [A]; rfl)
  ·trivial
 refine WK E<|WS fun _ H=>lE U ux U fun J=>rP 1 [] I ?_
 refine fy (es:=(List.map cQ.cells [])) (C':=[own (some ⟨J,0,none⟩) 0 137 4 (List.map cQ.cells []),_]) 0 U sm U (by simp [maxLen]) U ?_
 refine cN (es2:=(List.map cQ.cells l)) (m':=l.length) 0 U U U QW U U sm (av 1 U) (qC _) os (by (simp only [maxLen]; omega)) sm sm U fun AA K=>?_
 try dsimp only
 refine rP 1 [] I ?_
 refine RK H<|ak ?_
 refine LX hQ (AA,K) [0] [] I U U U ?_ ?_
 ·first|rfl|(rw [A]; rfl)
 ·trivial
theorem Ki (l:List cE) (lA:OA) (lC:Nat) (hlen:l.length≤1000000):
 lO Tryz.prog 82 [(vS lA l.length lC)] [(rd lA l.length 3 (l.map cE.cells))] (fun (x:(OA)×Nat)=>(vS x.1 l.length x.2)) (fun (x:(OA)×Nat)=>True) (fun (x:(OA)×Nat)=>[(own x.1 x.2 130 3 (l.map cE.cells))]):=by
 refine dK kr Tryz.func82 U U fun L Q hQ hN=>?_
 try dsimp only
 refine WS fun _ D=>bp 1 U<|RK D<|ag fun _ E=>WS fun _ F=>rP 1 [] I ?_
 refine rS (BI U (rF Oe))<|RK F<|cb U (aN fun B=>?_) (aO fun B=>?_)
 ·refine WS fun _ G=>mU (av 0 U) B dc fun C=>?_
  have A:l=[]:=by simpa using C
  refine gn 130 3 ?_
  rw [show (own none 0 130 3 ([]:List (List Value)))=own none 0 130 3 (l.map cE.cells) from by rw [A]; rfl]
  refine rP 1 [] I ?_
  refine RK G<|ak ?_
  refine LX hQ (none,0) [0] [] I U U U ?_ ?_
  ·first|rfl|(rw [A]; rfl)
  ·trivial
 refine WK E<|WS fun _ H=>lE U nQ U fun J=>rP 1 [] I ?_
 refine fy (es:=(List.map cE.cells [])) (C':=[own (some ⟨J,0,none⟩) 0 130 3 (List.map cE.cells []),_]) 0 U sm U (by simp [maxLen]) U ?_
 refine cN (es2:=(List.map cE.cells l)) (m':=l.length) 0 U U U Ow U U sm (av 1 U) (qM _) os (by (simp only [maxLen]; omega)) sm sm U fun AA K=>?_
 try dsimp only
 refine rP 1 [] I ?_
 refine RK H<|ak ?_
 refine LX hQ (AA,K) [0] [] I U U U ?_ ?_
 ·first|rfl|(rw [A]; rfl)
 ·trivial
theorem Cg (l:List aG) (lA:OA) (lC:Nat) (hlen:l.length≤1000000):
 lO Tryz.prog 53 [(vS lA l.length lC)] [(rd lA l.length 2 (l.map aG.cells))] (fun (x:(OA)×Nat)=>(vS x.1 l.length x.2)) (fun (x:(OA)×Nat)=>True) (fun (x:(OA)×Nat)=>[(own x.1 x.2 113 2 (l.map aG.cells))]):=by
 refine dK kr Tryz.func53 U U fun L Q hQ hN=>?_
 try dsimp only
 refine WS fun _ D=>bp 1 U<|RK D<|ag fun _ E=>WS fun _ F=>rP 1 [] I ?_
 refine rS (BI U (rF Te))<|RK F<|cb U (aN fun B=>?_) (aO fun B=>?_)
 ·refine WS fun _ G=>mU (av 0 U) B dc fun C=>?_
  have A:l=[]:=by simpa using C
  refine gn 113 2 ?_
  rw [show (own none 0 113 2 ([]:List (List Value)))=own none 0 113 2 (l.map aG.cells) from by rw [A]; rfl]
  refine rP 1 [] I ?_
  refine RK G<|ak ?_
  refine LX hQ (none,0) [0] [] I U U U ?_ ?_
  ·first|rfl|(rw [A]; rfl)
  ·trivial
 refine WK E<|WS fun _ H=>lE U wH U fun J=>rP 1 [] I ?_
 refine fy (es:=(List.map aG.cells [])) (C':=[own (some ⟨J,0,none⟩) 0 113 2 (List.map aG.cells []),_]) 0 U sm U (by simp [maxLen]) U ?_
 refine cN (es2:=(List.map aG.cells l)) (m':=l.length) 0 U U U SH U U sm (av 1 U) (oK _) os (by (simp only [maxLen]; omega)) sm sm U fun AA K=>?_
 try dsimp only
 refine rP 1 [] I ?_
 refine RK H<|ak ?_
 refine LX hQ (AA,K) [0] [] I U U U ?_ ?_
 ·first|rfl|(rw [A]; rfl)
 ·trivial
theorem H0 (es:List (List Value)) (lA:OA) (n lC:Nat) (hlen:n≤1000000) (hes:es.length=n) (hone: ∀ v∈es.flatten,v.oneCell'=true):
 lO Tryz.prog 81 [(vS lA n lC)] [(rd lA n 2 es)] (fun (x:(OA)×Nat)=>(vS x.1 n x.2)) (fun (x:(OA)×Nat)=>True) (fun (x:(OA)×Nat)=>[(own x.1 x.2 133 2 es)]):=by
 refine dK kr Tryz.func81 U U fun L Q hQ hN=>?_
 try dsimp only
 refine WS fun _ D=>bp 1 U<|RK D<|ag fun _ E=>WS fun _ F=>rP 1 [] I ?_
 refine rS (BI U (rF S5))<|RK F<|cb U (aN fun A=>?_) (aO fun A=>?_)
 ·refine WS fun _ G=>mU (av 0 U) A dc fun C=>?_
  have B:es=[]:=C
  refine gn 133 2 ?_
  rw [show (own none 0 133 2 ([]:List (List Value)))=own none 0 133 2 es from by rw [B]]
  refine rP 1 [] I ?_
  refine RK G<|ak ?_
  refine LX hQ (none,0) [0] [] I U U U ?_ ?_
  ·(rw [← hes,B]; rfl)
  ·trivial
 refine WK E<|WS fun _ H=>lE U vp U fun J=>rP 1 [] I ?_
 refine fy (es:=(List.map dE.cells [])) (C':=[own (some ⟨J,0,none⟩) 0 133 2 (List.map dE.cells []),_]) 0 U sm U (by simp [maxLen]) U ?_
 refine cN (es2:=es) (m':=es.length) 0 U U U SR U U sm (av 1 U) hone (by simp; omega) (by simp [maxLen]; omega) sm U U fun AA K=>?_
 try dsimp only
 refine rP 1 [] I ?_
 refine RK H<|ak ?_
 refine LX hQ (AA,K) [0] [] I U U U ?_ ?_
 ·(rw [hes]; rfl)
 ·trivial
theorem Lb (es:List (List Value)) (lA:OA) (n lC:Nat) (hlen:n≤1000000) (hes:es.length=n) (hone: ∀ v∈es.flatten,v.oneCell'=true):
 lO Tryz.prog 85 [(vS lA n lC)] [(rd lA n 7 es)] (fun (x:(OA)×Nat)=>(vS x.1 n x.2)) (fun (x:(OA)×Nat)=>True) (fun (x:(OA)×Nat)=>[(own x.1 x.2 43 7 es)]):=by
 refine dK kr Tryz.func85 U U fun L Q hQ hN=>?_
 try dsimp only
 refine WS fun _ D=>bp 1 U<|RK D<|ag fun _ E=>WS fun _ F=>rP 1 [] I ?_
 refine rS (BI U (rF QZ))<|RK F<|cb U (aN fun A=>?_) (aO fun A=>?_)
 ·refine WS fun _ G=>mU (av 0 U) A dc fun C=>?_
  have B:es=[]:=C
  refine gn 43 7 ?_
  rw [show (own none 0 43 7 ([]:List (List Value)))=own none 0 43 7 es from by rw [B]]
  refine rP 1 [] I ?_
  refine RK G<|ak ?_
  refine LX hQ (none,0) [0] [] I U U U ?_ ?_
  ·(rw [← hes,B]; rfl)
  ·trivial
 refine WK E<|WS fun _ H=>lE U ov U fun J=>rP 1 [] I ?_
 refine fy (es:=(List.map aR.cells [])) (C':=[own (some ⟨J,0,none⟩) 0 43 7 (List.map aR.cells []),_]) 0 U sm U (by simp [maxLen]) U ?_
 refine cN (es2:=es) (m':=es.length) 0 U U U TC U U sm (av 1 U) hone (by simp; omega) (by simp [maxLen]; omega) sm U U fun AA K=>?_
 try dsimp only
 refine rP 1 [] I ?_
 refine RK H<|ak ?_
 refine LX hQ (AA,K) [0] [] I U U U ?_ ?_
 ·(rw [hes]; rfl)
 ·trivial
theorem IS (es:List (List Value)) (lA:OA) (n lC:Nat) (hlen:n≤1000000) (hes:es.length=n) (hone: ∀ v∈es.flatten,v.oneCell'=true):
 lO Tryz.prog 84 [(vS lA n lC)] [(rd lA n 1 es)] (fun (x:(OA)×Nat)=>(vS x.1 n x.2)) (fun (x:(OA)×Nat)=>True) (fun (x:(OA)×Nat)=>[(own x.1 x.2 75 1 es)]):=by
 refine dK kr Tryz.func84 U U fun L Q hQ hN=>?_
 try dsimp only
 refine WS fun _ D=>bp 1 U<|RK D<|ag fun _ E=>WS fun _ F=>rP 1 [] I ?_
 refine rS (BI U (rF Rr))<|RK F<|cb U (aN fun A=>?_) (aO fun A=>?_)
 ·refine WS fun _ G=>mU (av 0 U) A dc fun C=>?_
  have B:es=[]:=C
  refine gn 75 1 ?_
  rw [show (own none 0 75 1 ([]:List (List Value)))=own none 0 75 1 es from by rw [B]]
  refine rP 1 [] I ?_
  refine RK G<|ak ?_
  refine LX hQ (none,0) [0] [] I U U U ?_ ?_
  ·(rw [← hes,B]; rfl)
  ·trivial
 refine WK E<|WS fun _ H=>lE U kF U fun J=>rP 1 [] I ?_
 refine fy (es:=(List.map sC [])) (C':=[own (some ⟨J,0,none⟩) 0 75 1 (List.map sC []),_]) 0 U sm U (by simp [maxLen]) U ?_
 refine cN (es2:=es) (m':=es.length) 0 U U U Sy U U sm (av 1 U) hone (by simp; omega) (by simp [maxLen]; omega) sm U U fun AA K=>?_
 try dsimp only
 refine rP 1 [] I ?_
 refine RK H<|ak ?_
 refine LX hQ (AA,K) [0] [] I U U U ?_ ?_
 ·(rw [hes]; rfl)
 ·trivial
end
section
open Go.RowKit
theorem IQ (l:List Int) (lA:OA) (lC:Nat) (n:Int) (hlen:l.length≤1000000):
 lO Tryz.prog 78 [(vS lA l.length lC),(vI n)] [(rd lA l.length 1 (l.map iC))] (fun (x:Int)=>(vI x)) (fun (x:Int)=>(0≤x↔n∈l)) (fun (x:Int)=>[]):=by
 refine dK kr Tryz.func78 U U fun AA Q hQ hN=>?_
 try dsimp only
 refine WS fun _ AB=>bp 1 U<|RK AB<|ag fun _ J=>WS fun _ K=>rP 3 [] I ?_
 refine RK K<|ax ?_
 have A:(0≤l.length)∧(∀ y∈l.take 0,y≠n):=by exact ⟨Nat.zero_le _,fun y hy=>by simp at hy⟩
 refine bP (ι:={z:Nat // (z≤l.length)∧(∀ y∈l.take z,y≠n)}) [0,1,7] [0] U U (fun z=>[(8,(vI (z.1:Int)))]) (fun z=>[]) (fun _=>rfl) (fun _=>rfl) (fun z=>l.length-z.1) ⟨0,A⟩ (bf U) (aK [0]) ?_
 clear A
 rintro ⟨i,⟨P,B⟩⟩ J4 H
 try dsimp only
 refine WS fun _ L=>rP 1 [] I ?_
 refine RK L<|ag fun _ M=>bO U (aO fun S=>?_) (aN fun S=>?_)
 ·refine bM<|ab<|ab<|aF<|KK J<|WS fun _ F=>rP 1 [] I ?_
  refine RK F<|ak<|LX hQ (-1) [] [] I U U U U ?_
  exact ⟨fun q=>absurd q dc,fun q=>absurd q (fun T=>B _ (by rw [List.take_of_length_le om]; exact T) U)⟩
 refine WK M<|ag fun _ N=>ax<|WS fun _ O=>bp 2 U<|RK O<|WS fun _ D=>rP 3 [] I ?_
 obtain ⟨x,hx⟩:=aA l i om
 have R:=bH iC hx
 refine rS (IA i U (av 0 U) dI dc om om)<|rS (gD i 0 (vI x) U bU (av 0 U) R U dc U)<|rP 1 [] I ?_
 refine RK D<|cb U (aN fun C=>?_) (aO fun C=>?_)
 ·refine WS fun _ E=>rP 2 [] I ?_
  refine RK E<|ak<|LX hQ (i:Int) [] [] I U U U U ?_
  exact ⟨fun _=>by rw [C]; exact aP hx,fun _=>by omega⟩
 refine cg<|aJ<|KK N<|ao<|rP 2 [] I ?_
 refine aC ?_
 have G:(vI (((i+1):Nat):Int))=(vI ((i:Int)+1)):=by exact cI om
 refine a_ (H ⟨(i+1),⟨om,fun y hy=>by rw [List.take_add_one,hx] at hy; rcases gR.1 hy with q|q; exact B y q; exact (cH.1 q)▸fun e=>C e.symm⟩⟩ _ _ _ rfl os (cz 3<|aU rfl G<|cR.nil _) (aK [0]))
theorem BR (l:List Int) (lA:OA) (lC:Nat) (n:Int) (hlen:l.length≤1000000):
 dF Tryz.prog 51 [(vS lA l.length lC),(vI n)] [(rd lA l.length 1 (l.map iC))] (vB (decide (n∈l))):=by
 refine bG kr Tryz.func51 U U fun F Q hQ hN=>?_
 try dsimp only
 refine WS fun _ A=>bp 1 U<|RK A<|WS fun _ B=>rP 2 [] I ?_
 refine cX (IQ l lA lC n hlen) (aY [0]) U fun E D=>?_
 try dsimp only
 have C:=D
 refine rP 2 [] I ?_
 refine RK B<|ak<|Q1 hQ U U U ?_
 exact cB (gS.2 C)
end
section
open Go.RowKit
theorem FK (l:List Int) (lA:OA) (lC:Nat) (hlen:l.length≤1000000):
 lO Tryz.prog 83 [(vS lA l.length lC)] [(rd lA l.length 1 (l.map iC))] (fun (x:(OA)×Nat)=>(vS x.1 l.length x.2)) (fun (x:(OA)×Nat)=>True) (fun (x:(OA)×Nat)=>[(own x.1 x.2 3 1 (l.map iC))]):=by
 refine dK kr Tryz.func83 U U fun L Q hQ hN=>?_
 try dsimp only
 refine WS fun _ D=>bp 1 U<|RK D<|ag fun _ E=>WS fun _ F=>rP 1 [] I ?_
 refine rS (BI U (rF Ro))<|RK F<|cb U (aN fun B=>?_) (aO fun B=>?_)
 ·refine WS fun _ G=>mU (av 0 U) B dc fun C=>?_
  have A:l=[]:=by simpa using C
  refine gn 3 1 ?_
  rw [show (own none 0 3 1 ([]:List (List Value)))=own none 0 3 1 (l.map iC) from by rw [A]; rfl]
  refine rP 1 [] I ?_
  refine RK G<|ak ?_
  refine LX hQ (none,0) [0] [] I U U U ?_ ?_
  ·first|rfl|(rw [A]; rfl)
  ·trivial
 refine WK E<|WS fun _ H=>lE U dI U fun J=>rP 1 [] I ?_
 refine fy (es:=(List.map iC [])) (C':=[own (some ⟨J,0,none⟩) 0 3 1 (List.map iC []),_]) 0 U sm U (by simp [maxLen]) U ?_
 refine cN (es2:=(List.map iC l)) (m':=l.length) 0 U U U pq U U sm (av 1 U) (jM _) os (by (simp only [maxLen]; omega)) sm sm U fun AA K=>?_
 try dsimp only
 refine rP 1 [] I ?_
 refine RK H<|ak ?_
 refine LX hQ (AA,K) [0] [] I U U U ?_ ?_
 ·first|rfl|(rw [A]; rfl)
 ·trivial
end
section
open Go.RowKit
theorem Ib (r:eU) (kA:OA) (kC:Nat) (az:List RA) (cA:OA) (cC:Nat) (bA:OA) (bC:Nat) (slA:OA) (slC:Nat) (drA:OA) (drC:Nat) (ha:List bZ) (heA:OA) (heC:Nat) (hin:iP r az ha):
 lO Tryz.prog 52 [(vA (ct.cells (we r kA kC cA cC bA bC slA slC drA drC heA heC)))] (Ix r kA az cA bA slA drA ha heA) (fun (x:(OA)×Nat×(OA)×Nat×(List RA)×(OA)×Nat×(OA)×Nat×(OA)×Nat×(OA)×Nat×(List bZ))=>(vA (ct.cells (ct.mk (bW.mk (bJ.mk (bj.mk x.1 r.au.bL.length x.2.1)) r.au.gl (bj.mk x.2.2.1 r.au.aH.length x.2.2.2.1) (bj.mk x.2.2.2.2.2.1 r.au.aj.length x.2.2.2.2.2.2.1) r.au.bV r.au.ew r.au.cU) (bj.mk x.2.2.2.2.2.2.2.1 r.bu.length x.2.2.2.2.2.2.2.2.1) (bj.mk x.2.2.2.2.2.2.2.2.2.1 r.cP.length x.2.2.2.2.2.2.2.2.2.2.1) r.jc (bj.mk x.2.2.2.2.2.2.2.2.2.2.2.1 r.aI.length x.2.2.2.2.2.2.2.2.2.2.2.2.1))))) (fun (x:(OA)×Nat×(OA)×Nat×(List RA)×(OA)×Nat×(OA)×Nat×(OA)×Nat×(OA)×Nat×(List bZ))=>(x.2.2.2.2.1.length=r.au.aH.length∧m7 r.au.aH x.2.2.2.2.1)∧uD r.aI x.2.2.2.2.2.2.2.2.2.2.2.2.2) (fun (x:(OA)×Nat×(OA)×Nat×(List RA)×(OA)×Nat×(OA)×Nat×(OA)×Nat×(OA)×Nat×(List bZ))=>[(own x.1 x.2.1 128 9 (r.au.bL.map aD.cells)),(own x.2.2.1 x.2.2.2.1 133 2 (List.zipWith aT.cells r.au.aH x.2.2.2.2.1)),(bQ (bK aT.owns r.au.aH x.2.2.2.2.1)),(own x.2.2.2.2.2.1 x.2.2.2.2.2.2.1 137 4 (r.au.aj.map cQ.cells)),(own x.2.2.2.2.2.2.2.1 x.2.2.2.2.2.2.2.2.1 3 1 (r.bu.map iC)),(own x.2.2.2.2.2.2.2.2.2.1 x.2.2.2.2.2.2.2.2.2.2.1 3 1 (r.cP.map iC)),(own x.2.2.2.2.2.2.2.2.2.2.2.1 x.2.2.2.2.2.2.2.2.2.2.2.2.1 75 1 (List.zipWith cM r.aI x.2.2.2.2.2.2.2.2.2.2.2.2.2)),(bQ (bK j4 r.aI x.2.2.2.2.2.2.2.2.2.2.2.2.2))]):=by
 have C:=hin.line
 have K5:=hin.fE
 have M:=hin.has
 have MK:=hin.fM
 have L2:=hin.draw
 have M2:=jo (r:=r)
 have Pr:=C.qF
 have Pi:=C.qL
 have Pe:=C.qE
 have KV:=C.lQ
 refine dK kr Tryz.func52 U U fun w0 Q hQ hN=>?_
 try dsimp only
 refine WS fun _ J6=>dV U fun b2=>AL U yX fun b3=>RK J6<|WS fun _ J7=>rP 2 [] I ?_
 refine RK J7<|ag fun _ J8=>dp cj [8,13,18,22,25,28] [7,11,15] [0,1,2] [0,2,3,4,5,6,7,8,9] [0,1,2,3,4,5,6,7,8,9] U U U U U<|eS U (MV U)<|eS U (MV U)<|eS U (MV U)<|eS U (MV U)<|eS U (SX (cv U U) U U)<|eS U (FA 0 U eC U)<|eS U (FA 0 U eC U)<|fS U (L1 (vS kA r.au.bL.length kC) 1 U bU U U)<|eS U (MV U)<|eS U (SX (cv U U) U U)<|eS U (FA 3 U eC U)<|fS U (L1 (vS bA r.au.aj.length bC) 1 U bU U U)<|eS U (MV U)<|eS U (SX (cv U U) U U)<|eS U (FA 2 U eC U)<|fS U (L1 (vS cA r.au.aH.length cC) 1 U bU U U)<|eS U (SX (cv U U) U U)<|eS U (FA 0 U eC U)<|eS U (FA 0 U eC U)<|eS U (SX (cv U U) U U)<|eS U (FA 3 U eC U)<|eS U (SX (cv U U) U U)<|eS U (FA 2 U eC U)<|ed U<|gV U fun T6 J9=>cX (Lp r.au.bL kA kC asm) (aY [2]) U fun y7 Qp=>?_
 obtain ⟨a9,S⟩:=y7
 try dsimp only
 refine aC (J9 _ _ (aK [1,3,4,5,6,7,8,9,10]) (aK [1,2,3,4,5,6,7,8,9,10]) ?_)
 refine gV U fun T11 EQ=>cX (It r.au.aj bA bC asm) (aY [6]) U fun LA NE=>?_
 obtain ⟨W,Y⟩:=LA
 try dsimp only
 refine aC (EQ _ _ (aK [2,4,5,6,7,8,9,10,11]) (aK [2,3,4,5,6,7,8,9,10,11]) ?_)
 refine gV U fun T16 EZ=>cX (H0 (List.zipWith aT.cells r.au.aH az) cA r.au.aH.length cC asm (by exact gO KV) (by exact yv _ _)) (aY [5]) U fun LE Ne=>?_
 obtain ⟨J,K⟩:=LE
 try dsimp only
 refine aC (EZ _ _ (aK [3,5,6,7,8,9,10,11,12]) (aK [3,4,5,6,7,8,9,10,11,12]) ?_)
 refine cf U fun T21 Eq=>Uk (ct.cells (ct.mk (bW.mk (bJ.mk (bj.mk a9 r.au.bL.length S)) r.au.gl (bj.mk cA r.au.aH.length cC) (bj.mk bA r.au.aj.length bC) r.au.bV r.au.ew r.au.cU) (bj.mk slA r.bu.length slC) (bj.mk drA r.cP.length drC) r.jc (bj.mk heA r.aI.length heC))) U TX U U<|aC (Eq _ _ (aK [3,5,6,7,8,9,10,11,12]) ?_)
 refine cf U fun T22 FS=>Uk (ct.cells (ct.mk (bW.mk (bJ.mk (bj.mk a9 r.au.bL.length S)) r.au.gl (bj.mk cA r.au.aH.length cC) (bj.mk W r.au.aj.length Y) r.au.bV r.au.ew r.au.cU) (bj.mk slA r.bu.length slC) (bj.mk drA r.cP.length drC) r.jc (bj.mk heA r.aI.length heC))) U Ty U U<|aC (FS _ _ (aK [3,5,6,7,8,9,10,11,12]) ?_)
 refine cf U fun T23 Fd=>Uk (ct.cells (ct.mk (bW.mk (bJ.mk (bj.mk a9 r.au.bL.length S)) r.au.gl (bj.mk J r.au.aH.length K) (bj.mk W r.au.aj.length Y) r.au.bV r.au.ew r.au.cU) (bj.mk slA r.bu.length slC) (bj.mk drA r.cP.length drC) r.jc (bj.mk heA r.aI.length heC))) U Sq U U<|aC (Fd _ _ (aK [3,5,6,7,8,9,10,11,12]) ?_)
 refine e9 U<|KK J8<|ag fun _ A3=>WS fun _ A4=>bp 1 U<|rS (SX (cv U U) U U)<|rP 4 [] (mc 4 U I) ?_
 refine RK A4<|ax<|lx ?_
 have E:(0≤r.au.aH.length)∧(([]:List RA).length=0)∧(m7 r.au.aH ([]:List RA)):=by exact ⟨Nat.zero_le _,rfl,fun k m a _ h=>by simp at h⟩
 refine bP (ι:={z:Nat×(List RA) // (z.1≤r.au.aH.length)∧(z.2.length=z.1)∧(m7 r.au.aH z.2)}) [1,2,3,39] [2,3,4,5,6,7,8,9,10,11,12,13] U U (fun z=>[(40,(vI (z.1.1:Int)))]) (fun z=>[(bQ (bK aT.owns (r.au.aH.take z.1.1) z.1.2)),(own J K 133 2 (List.zipWith aT.cells r.au.aH (jq z.1.2 az z.1.1)))]) (fun _=>rfl) (fun _=>rfl) (fun z=>r.au.aH.length-z.1.1) ⟨(0,([]:List RA)),E⟩ (bf U) (aK [2,3,4,5,6,7,8,9,10,11,12,13,0,1]) ?_
 clear E
 rintro ⟨⟨i,bz⟩,⟨As,B,V⟩⟩ J26 A0
 try dsimp only at As B V
 try dsimp only
 refine WS fun _ A5=>rP 1 [] I ?_
 refine RK A5<|ag fun _ A6=>cb U (aN fun J3=>?_) (aO fun J3=>?_)
 ·refine WK A6<|ag fun _ A7=>ax<|WS fun _ A8=>rP 2 [] I ?_
  refine RK A8<|dp cj [13,16] [10,11,12,13,14] [0] [0,1,2,3,4,5,6,7,8,9,10,11,12] [0,1,2,3,4,5,6,7,8,9,10,11,12,13] U U U U U<|eS U (MV U)<|eS U (SX (cv U U) U U)<|eS U (FA 2 U eC U)<|eS U (L1 (vS J r.au.aH.length K) 3 U bU U U)<|eS U (MV U)<|eS U (MV U)<|eS U (SX (cv U U) U U)<|eS U (FA 2 U eC U)<|eS U (L1 (vS J r.au.aH.length K) 3 U bU U U)<|eS U (MV U) ?_
  obtain ⟨x,hx⟩:=aA r.au.aH i om
  obtain ⟨xa,s⟩:=aA az i om
  have J2:(List.zipWith aT.cells r.au.aH (jq bz az i))[i]? =some (aT.cells x xa):=cG hx (uB B s)
  have Pp:=(C.QI _ _ _ hx s).2
  refine fS U (IA i U (ar (n:=r.au.aH.length) 13 U (gO (by rw [eO B om]; exact C.lQ))) vp dc om om) ?_
  refine fS U (nX ((i*2)+1) U (ar (n:=r.au.aH.length) 13 U (gO (by rw [eO B om]; exact C.lQ))) (Nat.mul_pos om dc) eC U) ?_
  refine fS U (gD i 1 (vS xa.1 x.bk.length xa.2) U bU (ar (n:=r.au.aH.length) 13 U (gO (by rw [eO B om]; exact C.lQ))) J2 U dc U) ?_
  refine fS U (IA i U (ar (n:=r.au.aH.length) 13 U (gO (by rw [eO B om]; exact C.lQ))) vp dc om om) ?_
  refine fS U (nX ((i*2)+1) U (ar (n:=r.au.aH.length) 13 U (gO (by rw [eO B om]; exact C.lQ))) (Nat.mul_pos om dc) eC U) ?_
  refine ed U<|gV U fun T32 Fn=>cX (Ki x.bk xa.1 xa.2 asm) (aw (show g9 _ (rd xa.1 x.bk.length 3 (x.bk.map cE.cells)).holds from (cd 6 U (bB hx s (by simp [aT.jW]))))<|aS) U fun LT Nl=>?_
  obtain ⟨P,T⟩:=LT
  try dsimp only
  refine aC (Fn _ _ (aK [1,2,3,4,5,6,7,8,9,10,11,12,13]) (aK [1,2,3,4,5,6,7,8,9,10,11,12,13,14]) ?_)
  refine cf U fun T37 GE=>eo (k:=i) (o:=1) (vs:=[(vS P x.bk.length T)]) (es':=(List.zipWith aT.cells r.au.aH (jq (bz++[(P,T)]) az (i+1)))) (C':=[_,_,_,_,_,_,_,_,_,_,_,_,_,_,(own J K 133 2 (List.zipWith aT.cells r.au.aH (jq (bz++[(P,T)]) az (i+1))))]) 14 U U U OC U U U U J2 U dc (by exact rr (c:=aT.cells) (b:=(P,T)) hx B s) U<|aC (GE _ _ (aK [1,2,3,4,5,6,7,8,9,10,11,12,13]) ?_)
  refine e9 U<|aJ<|KK A7<|ao<|rP 2 [] I ?_
  refine aC<|OY 0 U fun t=>?_
  simp only [List.length_map] at t
  refine AJ (Y':=bK aT.owns (r.au.aH.take (i+1)) (bz++[(P,T)])) 13 0 U U (oh (f:=aT.owns) (b:=(P,T)) hx B) ?_
  have If:(vI (((i+1):Nat):Int))=(vI ((i:Int)+1)):=by exact cI om
  refine a_ (A0 ⟨((i+1),(bz++[(P,T)])),⟨om,by simp; omega,Cl V B hx t⟩⟩ _ _ _ U os (cz 4<|aU U If<|cR.nil _) (aK [1,2,3,4,5,6,7,8,9,10,11,12,0,13]))
 refine bM<|ab<|ab<|aF<|KK A3<|ag fun _ A9=>?_
 have K0:bz.length=r.au.aH.length:=by omega
 have K4:=V
 rw [show (jq bz az i)=bz from rK om,show r.au.aH.take i=r.au.aH from List.take_of_length_le om]
 refine dp cj [2,5,8,10,12,14] [1,3,5] [0,1,2] [0,1,2,4,5,6,7,8,9,10,11,12,13] [0,1,2,3,4,5,6,7,8,9,10,11,12,13] U U U U U<|eS U (FA 7 U eC U)<|fS U (L1 (vS slA r.bu.length slC) 3 U bU U U)<|eS U (FA 8 U eC U)<|fS U (L1 (vS drA r.cP.length drC) 3 U bU U U)<|eS U (FA 10 U eC U)<|fS U (L1 (vS heA r.aI.length heC) 3 U bU U U)<|eS U (FA 7 U eC U)<|eS U (FA 8 U eC U)<|eS U (FA 10 U eC U)<|ed U<|gV U fun T40 GT=>cX (FK r.bu slA slC asm) (aY [8]) U fun LY Op=>?_
 obtain ⟨g,j⟩:=LY
 try dsimp only
 refine aC (GT _ _ (aK [1,2,3,5,6,7,8,9,10,11,12,13,14]) (aK [1,2,3,4,5,6,7,8,9,10,11,12,13,14]) ?_)
 refine gV U fun T45 Go=>cX (FK r.cP drA drC om) (aY [10]) U fun La Or=>?_
 obtain ⟨w,AM⟩:=La
 try dsimp only
 refine aC (Go _ _ (aK [2,3,4,6,7,8,9,10,11,12,13,14,15]) (aK [2,3,4,5,6,7,8,9,10,11,12,13,14,15]) ?_)
 refine gV U fun T50 Hi=>cX (IS (List.zipWith cM r.aI ha) heA r.aI.length heC asm (by exact dQ M) (by exact zI _ _)) (aY [12]) U fun Li Os=>?_
 obtain ⟨X,Z⟩:=Li
 try dsimp only
 refine aC (Hi _ _ (aK [3,4,5,7,8,9,10,11,12,13,14,15,16]) (aK [3,4,5,6,7,8,9,10,11,12,13,14,15,16]) ?_)
 refine cf U fun T55 H1=>TL (ct.cells (ct.mk (bW.mk (bJ.mk (bj.mk a9 r.au.bL.length S)) r.au.gl (bj.mk J r.au.aH.length K) (bj.mk W r.au.aj.length Y) r.au.bV r.au.ew r.au.cU) (bj.mk g r.bu.length j) (bj.mk drA r.cP.length drC) r.jc (bj.mk heA r.aI.length heC))) U Ch U U<|aC (H1 _ _ (aK [3,4,5,7,8,9,10,11,12,13,14,15,16]) ?_)
 refine cf U fun T56 H5=>TL (ct.cells (ct.mk (bW.mk (bJ.mk (bj.mk a9 r.au.bL.length S)) r.au.gl (bj.mk J r.au.aH.length K) (bj.mk W r.au.aj.length Y) r.au.bV r.au.ew r.au.cU) (bj.mk g r.bu.length j) (bj.mk w r.cP.length AM) r.jc (bj.mk heA r.aI.length heC))) U Ch U U<|aC (H5 _ _ (aK [3,4,5,7,8,9,10,11,12,13,14,15,16]) ?_)
 refine cf U fun T57 IO=>TL (ct.cells (ct.mk (bW.mk (bJ.mk (bj.mk a9 r.au.bL.length S)) r.au.gl (bj.mk J r.au.aH.length K) (bj.mk W r.au.aj.length Y) r.au.bV r.au.ew r.au.cU) (bj.mk g r.bu.length j) (bj.mk w r.cP.length AM) r.jc (bj.mk X r.aI.length Z))) U Sv U U<|aC (IO _ _ (aK [3,4,5,7,8,9,10,11,12,13,14,15,16]) ?_)
 refine e9 U<|KK A9<|ag fun _ Be=>WS fun _ Bt=>rP 4 [] (mc 6 U I) ?_
 refine RK Bt<|ax<|lx ?_
 have E:(0≤r.aI.length)∧(([]:List bZ).length=0)∧(∀ (k:Nat) y (a:bZ),r.aI[k]? =some y→([]:List bZ)[k]? =some a→a.2.length=y.length):=by exact ⟨Nat.zero_le _,rfl,fun k y a _ q=>by simp at q⟩
 refine bP (ι:={z:Nat×(List bZ) // (z.1≤r.aI.length)∧(z.2.length=z.1)∧(∀ (k:Nat) y (a:bZ),r.aI[k]? =some y→z.2[k]? =some a→a.2.length=y.length)}) [1,2,74] [2,3,4,5,6,7,8,9,10,11,12,13,14,15,16,17] U U (fun z=>[(75,(vI (z.1.1:Int)))]) (fun z=>[(bQ (bK j4 (r.aI.take z.1.1) z.1.2)),(own X Z 75 1 (List.zipWith cM r.aI (jq z.1.2 ha z.1.1)))]) (fun _=>rfl) (fun _=>rfl) (fun z=>r.aI.length-z.1.1) ⟨(0,([]:List bZ)),E⟩ (bf U) (aK [2,3,4,5,6,7,8,9,10,11,12,13,14,15,16,17,0,1]) ?_
 clear E
 rintro ⟨⟨h,hz⟩,⟨l,A,L⟩⟩ J60 A1
 try dsimp only at l A L
 try dsimp only
 refine WS fun _ B3=>rP 1 [] I ?_
 refine RK B3<|ag fun _ B9=>bO U (aO fun J4=>?_) (aN fun J4=>?_)
 ·refine bM<|ab<|ab<|aF<|KK Be<|ag fun _ Do=>?_
  have K8:uD r.aI hz:=⟨om,L⟩
  rw [show (jq hz ha h)=hz from rK om,show r.aI.take h=r.aI from List.take_of_length_le om]
  refine ao<|rP 1 [] (mc 5 U I) ?_
  refine QL U o6 U<|RK Do<|ak ?_
  refine LX hQ (a9,S,J,K,bz,W,Y,g,j,w,AM,X,Z,hz) [3,15,14,2,1,0,17,16] [0] (mc 4 U I) U (by show List.all _ _=true; simp only [fX,List.all_nil,kz,rm,Bool.and_true]; rfl) U U ?_
  exact ⟨⟨K0,K4⟩,K8⟩
 refine WK B9<|ag fun _ Ci=>ax<|WS fun _ Ck=>rP 2 [] I ?_
 refine RK Ck<|ag fun _ Cp=>dp cj [8,10] [6,7,8] [0] [0,1,2,3,4,5,6,7,8,9,10,11,12,13,14,15,16] [0,1,2,3,4,5,6,7,8,9,10,11,12,13,14,15,16,17] U U U U U<|eS U (FA 10 U eC U)<|eS U (L1 (vS X r.aI.length Z) 5 U bU U U)<|eS U (MV U)<|eS U (FA 10 U eC U)<|eS U (L1 (vS X r.aI.length Z) 5 U bU U U)<|eS U (MV U) ?_
 obtain ⟨ht,N⟩:=aA r.aI h om
 obtain ⟨D,O⟩:=aA ha h om
 have u:(List.zipWith cM r.aI (jq hz ha h))[h]? =some (cM ht D):=cG N (uB A O)
 have Ac:=hin.fJ _ _ _ N O
 have e:=Ac.lQ
 have K5:=Ac.len
 refine fS U (IA h U (ar (n:=r.aI.length) 17 U (dQ (by rw [eO A om]; exact M))) kF dc om om) ?_
 refine fS U (gD h 0 (vS D.1.1 ht.length D.1.2) U bU (ar (n:=r.aI.length) 17 U (dQ (by rw [eO A om]; exact M))) u U dc U) ?_
 refine fS U (IA h U (ar (n:=r.aI.length) 17 U (dQ (by rw [eO A om]; exact M))) kF dc om om) ?_
 refine ed U<|gV U fun T67 IR=>cX (Lb (List.zipWith aq.cells ht D.2) D.1.1 ht.length D.1.2 asm (by exact jQ e) (by exact Fz _ _)) (aw (show g9 _ (rd D.1.1 ht.length 7 (List.zipWith aq.cells ht D.2)).holds from (cd 13 U (bB N O cr)))<|aS) U fun Lk PF=>?_
 obtain ⟨G,H⟩:=Lk
 try dsimp only
 refine aC (IR _ _ (aK [1,2,3,4,5,6,7,8,9,10,11,12,13,14,15,16,17]) (aK [1,2,3,4,5,6,7,8,9,10,11,12,13,14,15,16,17,18]) ?_)
 refine cf U fun T72 Id=>eo (k:=h) (o:=0) (vs:=[(vS G ht.length H)]) (es':=(List.zipWith cM r.aI (jq (hz++[((G,H),D.2)]) ha (h+1)))) (C':=[_,_,_,_,_,_,_,_,_,_,_,_,_,_,_,_,_,_,(own X Z 75 1 (List.zipWith cM r.aI (jq (hz++[((G,H),D.2)]) ha (h+1))))]) 18 U U U RQ U U U U u U dc (by exact rr (b:=((G,H),D.2)) N A O) U<|aC (Id _ _ (aK [1,2,3,4,5,6,7,8,9,10,11,12,13,14,15,16,17]) ?_)
 refine e9 U<|KK Cp<|WS fun _ Cx=>rP 3 [] (mc 6 U I) ?_
 have v:(List.zipWith cM r.aI (jq (hz++[((G,H),D.2)]) ha (h+1)))[h]? =some (cM ht ((G,H),D.2)):=cG N (Da A)
 refine rS (IA h U (ar (n:=r.aI.length) 18 U (dQ (by rw [eO (by simp; omega) om]; exact M))) kF dc om om) ?_
 refine rS (gD h 0 (vS G ht.length H) U bU (ar (n:=r.aI.length) 18 U (dQ (by rw [eO (by simp; omega) om]; exact M))) v U dc U) ?_
 refine rP 2 [] I ?_
 refine RK Cx<|ax<|lx ?_
 have E:(0≤ht.length)∧(([]:List RA).length=0):=by exact ⟨Nat.zero_le _,rfl⟩
 refine bP (ι:={z:Nat×(List RA) // (z.1≤ht.length)∧(z.2.length=z.1)}) [1,2,5,74,75,93] [2,3,4,5,6,7,8,9,10,11,12,13,14,15,16,17,18,19] U U (fun z=>[(94,(vI (z.1.1:Int)))]) (fun z=>[(bQ (bK oq (ht.take z.1.1) z.1.2)),(own G H 43 7 (List.zipWith aq.cells ht (jq z.1.2 D.2 z.1.1)))]) (fun _=>rfl) (fun _=>rfl) (fun z=>ht.length-z.1.1) ⟨(0,([]:List RA)),E⟩ (bf U) (aK [2,3,4,5,6,7,8,9,10,11,12,13,14,15,16,17,18,19,0,1]) ?_
 clear E
 rintro ⟨⟨i,dz⟩,⟨p,F⟩⟩ J74 A2
 try dsimp only at p F
 try dsimp only
 refine WS fun _ C0=>rP 1 [] I ?_
 refine RK C0<|ag fun _ C1=>bO U (aO fun J5=>?_) (aN fun J5=>?_)
 ·refine bM<|ab<|ab<|aF<|aJ<|KK Ci<|ao<|rP 2 [] I ?_
  refine aC ?_
  have L3:dz.length=ht.length:=by omega
  rw [show (jq dz D.2 i)=dz from rK om,show ht.take i=ht from List.take_of_length_le om]
  refine H9 (Z':=bK j4 (r.aI.take (h+1)) (hz++[((G,H),dz)])) 16 18 19 U U (oh (f:=j4) (b:=((G,H),dz)) N A) ?_
  rw [BP (y:=dz)]
  have Iv:(vI (((h+1):Nat):Int))=(vI ((h:Int)+1)):=by exact cI om
  refine a_ (A1 ⟨((h+1),(hz++[((G,H),dz)])),⟨om,by simp; omega,Fp N L A dso⟩⟩ _ _ _ U os (cz 3<|aU U Iv<|cR.nil _) (aK [1,2,3,4,5,6,7,8,9,10,11,12,13,14,15,16,0,17]))
 refine WK C1<|ag fun _ C2=>ax<|WS fun _ C3=>rP 2 [] I ?_
 refine RK C3<|ag fun _ Di=>?_
 refine Ex 19 U (by rw [jQ (by rw [eO F om]; exact e)]; omega) (fun L0 AB=>?_)
 refine ao<|rP 3 [] (mc 5 U I) ?_
 refine rS (IA h U (ar (n:=r.aI.length) 17 U (dQ (by rw [eO (by simp; omega) om]; exact M))) kF dc om om) ?_
 refine rS (gD h 0 (vS G ht.length H) U bU (ar (n:=r.aI.length) 17 U (dQ (by rw [eO (by simp; omega) om]; exact M))) v U dc U) ?_
 refine rP 1 [] I ?_
 obtain ⟨d,hd⟩:=aA ht i om
 obtain ⟨da,AO⟩:=aA D.2 i om
 have I2:(List.zipWith aq.cells ht (jq dz D.2 i))[i]? =some (aq.cells d da):=cG hd (uB F AO)
 have Pl:=Ac.sig d (aP hd)
 refine rS (VG i U AB ov om om)<|rS (Vp ((i*7)+4) U AB eC U)<|rS (Vp (((i*7)+4)+2) U AB eC U)<|bp 1 U<|RK Di<|ao<|rP 2 [] I ?_
 refine rS (SX (zP U U AB) U U) ?_
 refine rS (gD i 6 (vS da.1 d.aV.aa.length da.2) U bU (ar (n:=ht.length) 19 U (jQ (by rw [eO F om]; exact e))) I2 U dc U) ?_
 refine cX (Cg d.aV.aa da.1 da.2 asm) (aw (show g9 _ (rd da.1 d.aV.aa.length 2 (d.aV.aa.map aG.cells)).holds from (cd 13 U (bB N O (dH _ (bB hd AO (by simp [aq.jW]))))))<|aS) U fun Lo PP=>?_
 obtain ⟨R,AA⟩:=Lo
 try dsimp only
 refine rS (SX (zP U U AB) U U)<|eo (k:=i) (o:=6) (vs:=[(vS R d.aV.aa.length AA)]) (es':=(List.zipWith aq.cells ht (jq (dz++[(R,AA)]) D.2 (i+1)))) (C':=[_,_,_,_,_,_,_,_,_,_,_,_,_,_,_,_,_,_,_,_,(own G H 43 7 (List.zipWith aq.cells ht (jq (dz++[(R,AA)]) D.2 (i+1))))]) 20 U U U Px U U U U I2 U dc (by exact rr (c:=aq.cells) (b:=(R,AA)) hd F AO) U<|aC<|aJ<|KK C2<|ao<|rP 2 [] I ?_
 refine aC<|AJ (Y':=bK oq (ht.take (i+1)) (dz++[(R,AA)])) 19 0 U U (oh (f:=oq) (b:=(R,AA)) hd F) ?_
 have In:(vI (((i+1):Nat):Int))=(vI ((i:Int)+1)):=by exact cI om
 refine a_ (A2 ⟨((i+1),(dz++[(R,AA)])),⟨om,by simp; omega⟩⟩ _ _ _ U os (cz 6<|aU U In<|cR.nil _) (aK [1,2,3,4,5,6,7,8,9,10,11,12,13,14,15,16,17,18,0,19]))
end
section
open Go.RowKit
theorem yK (j:cw) (kA:OA) (kC:Nat) (az:List RA) (cA:OA) (cC:Nat) (bA:OA) (bC:Nat) (slA:OA) (slC:Nat) (drA:OA) (drC:Nat) (ha:List bZ) (heA:OA) (heC:Nat) (faA:OA) (faC:Nat) (prA:OA) (prC:Nat) (h i:Int) (d:aq) (sgA:OA) (sgC:Nat) (hin:er j az ha) (hsl:d.aV.aa.length≤1000000):
 lO Tryz.prog 18 [(vA (eX.cells (lM j kA kC cA cC bA bC slA slC drA drC heA heC faA faC prA prC))),(vI h),(vI i),(vA (aR.cells (aR.mk d.Out d.cD d.Time (g8 d.aV sgA sgC))))] ((rd iE 3 2 gF)::((o_ j kA az cA bA slA drA ha heA faA prA)++[(rd sgA d.aV.aa.length 2 (d.aV.aa.map aG.cells))])) (fun (x:Bool×Int×(OA)×Nat×(OA)×Nat×(List RA)×(OA)×Nat×(OA)×Nat×(OA)×Nat×(OA)×Nat×(List bZ))=>bif x.1 then (vT [(vA (ct.cells (ct.mk (bW.mk (bJ.mk (bj.mk x.2.2.1 j.Race.au.bL.length x.2.2.2.1)) j.Race.au.gl (bj.mk x.2.2.2.2.1 j.Race.au.aH.length x.2.2.2.2.2.1) (bj.mk x.2.2.2.2.2.2.2.1 j.Race.au.aj.length x.2.2.2.2.2.2.2.2.1) j.Race.au.bV j.Race.au.ew j.Race.au.cU) (bj.mk x.2.2.2.2.2.2.2.2.2.1 j.Race.bu.length x.2.2.2.2.2.2.2.2.2.2.1) (bj.mk x.2.2.2.2.2.2.2.2.2.2.2.1 j.Race.cP.length x.2.2.2.2.2.2.2.2.2.2.2.2.1) j.Race.jc (bj.mk x.2.2.2.2.2.2.2.2.2.2.2.2.2.1 ((jY j.Race.aI h i d).length) x.2.2.2.2.2.2.2.2.2.2.2.2.2.2.1)))),(vI 0)]) else (vT [(vA (ct.cells (ct.mk (bW.mk (bJ.mk (bj.mk none 0 0)) 0 (bj.mk none 0 0) (bj.mk none 0 0) 0 0 0) (bj.mk none 0 0) (bj.mk none 0 0) 0 (bj.mk none 0 0)))),(vI x.2.1)])) (fun (x:Bool×Int×(OA)×Nat×(OA)×Nat×(List RA)×(OA)×Nat×(OA)×Nat×(OA)×Nat×(OA)×Nat×(List bZ))=>(x.1=true→((ki j h i d)=0∧(x.2.2.2.2.2.2.1.length=j.Race.au.aH.length∧m7 j.Race.au.aH x.2.2.2.2.2.2.1)∧uD (jY j.Race.aI h i d) x.2.2.2.2.2.2.2.2.2.2.2.2.2.2.2))∧(x.1=false→(x.2.1=(ki j h i d)∧ ¬ (ki j h i d)=0))) (fun (x:Bool×Int×(OA)×Nat×(OA)×Nat×(List RA)×(OA)×Nat×(OA)×Nat×(OA)×Nat×(OA)×Nat×(List bZ))=>bif x.1 then [(own x.2.2.1 x.2.2.2.1 128 9 (j.Race.au.bL.map aD.cells)),(own x.2.2.2.2.1 x.2.2.2.2.2.1 133 2 (List.zipWith aT.cells j.Race.au.aH x.2.2.2.2.2.2.1)),(bQ (bK aT.owns j.Race.au.aH x.2.2.2.2.2.2.1)),(own x.2.2.2.2.2.2.2.1 x.2.2.2.2.2.2.2.2.1 137 4 (j.Race.au.aj.map cQ.cells)),(own x.2.2.2.2.2.2.2.2.2.1 x.2.2.2.2.2.2.2.2.2.2.1 3 1 (j.Race.bu.map iC)),(own x.2.2.2.2.2.2.2.2.2.2.2.1 x.2.2.2.2.2.2.2.2.2.2.2.2.1 3 1 (j.Race.cP.map iC)),(own x.2.2.2.2.2.2.2.2.2.2.2.2.2.1 x.2.2.2.2.2.2.2.2.2.2.2.2.2.2.1 75 1 (List.zipWith cM (jY j.Race.aI h i d) x.2.2.2.2.2.2.2.2.2.2.2.2.2.2.2)),(bQ (bK j4 (jY j.Race.aI h i d) x.2.2.2.2.2.2.2.2.2.2.2.2.2.2.2))] else []):=by
 have A9:=hin.race
 have EQ:=hin.race.line
 have I2:=hin.race.fE
 have J3:=hin.race.has
 have H5:=hin.race.fM
 have GT:=hin.nf
 have Hi:=hin.np
 refine dK kr Tryz.func18 U U fun w0 Q hQ hN=>?_
 try dsimp only
 refine WS fun _ Cp=>dV U fun b2=>dV U fun b3=>AL U yX fun b4=>bp 1 U<|RK Cp<|WS fun _ Cx=>dZ 1 [] (mc 2 U I) U<|rS (CL (wT j kA kC az cA cC bA bC slA slC drA drC ha heA heC faA faC prA prC hin) (aY [3,4,5,6,7,8,9,10,11,12,13]) U)<|bp 3 U<|AL U Jw fun b6=>e7 U JT U<|bp 1 U<|RK Cx<|ag fun _ C0=>WS fun _ C1=>rP 2 [] I ?_
 refine RK C1<|cb U (aX fun E=>?_) (aW fun E=>?_)
 ·refine WS fun _ C2=>rS (SX (bD (xs:=[]) (cs:=(ct.cells (ct.mk (bW.mk (bJ.mk (bj.mk none 0 0)) 0 (bj.mk none 0 0) (bj.mk none 0 0) 0 0 0) (bj.mk none 0 0) (bj.mk none 0 0) 0 (bj.mk none 0 0)))) U U (bE yW U)) U U)<|bp 1 U<|pV U o6 U<|rP 1 [] I ?_
  refine RK C2<|ak ?_
  refine LX hQ (false,(dT j),none,0,none,0,[],none,0,none,0,none,0,none,0,[]) [] [0] (mc 1 U I) U (by rfl) U ?_ ?_
  ·rfl
  ·refine ⟨Fj,fun _=>?_⟩; have e:=BM (h:=h) (i:=i) (d:=d) E; exact ⟨e.symm,fun q=>E (e.symm.trans q)⟩
 refine WK C0<|ag fun _ u=>WS fun _ f=>rP 6 [] (mc 3 U I) ?_
 refine e_ (xs:=[.tmp 27]) (cs:=[(vI h)]) U dI kS U U U U (by simp [Value.cells]) U U fun B3=>?_
 refine rS (CL (dF.eq (jw 0 ((j.Race.aI.length:Int)-1) ([h]) (some ⟨B3,0,none⟩) 1 (by (simp; done))) cK) (aw (bo 0 U U (by simp [bX]) U)<|aS) U) ?_
 refine rP 2 [] I ?_
 refine bS (t:=31) U (aX fun Ci=>?_) (aW fun Ci=>?_)
 ·refine bp 10 U<|RK f<|aL U<|WS fun _ v=>rS (SX (bD (xs:=[]) (cs:=(ct.cells (ct.mk (bW.mk (bJ.mk (bj.mk none 0 0)) 0 (bj.mk none 0 0) (bj.mk none 0 0) 0 0 0) (bj.mk none 0 0) (bj.mk none 0 0) 0 (bj.mk none 0 0)))) U U (bE yW U)) U U)<|BA U o6 U<|rP 1 [] I ?_
  refine RK v<|ak ?_
  refine LX hQ (false,2,none,0,none,0,[],none,0,none,0,none,0,none,0,[]) [] [0] (mc 2 U I) U (by rfl) U ?_ ?_
  ·rfl
  ·exact pb<|qS (tY (h:=h) (i:=i) (d:=d) E om)
 refine rP 6 [] (mc 4 U I) ?_
 refine e_ (xs:=[.tmp 37]) (cs:=[(vI i)]) U dI kS U U U U (by simp [Value.cells]) U U fun B9=>?_
 refine rS (CL (dF.eq (jw 0 ((j.Race.bu.length:Int)-1) ([i]) (some ⟨B9,0,none⟩) 1 (by (simp; done))) cK) (aw (bo 0 U U (by simp [bX]) U)<|aS) U) ?_
 refine rP 2 [] I ?_
 refine RK f<|cb U (aX fun Ck=>?_) (aW fun Ck=>?_)
 ·refine WS fun _ y=>rS (SX (bD (xs:=[]) (cs:=(ct.cells (ct.mk (bW.mk (bJ.mk (bj.mk none 0 0)) 0 (bj.mk none 0 0) (bj.mk none 0 0) 0 0 0) (bj.mk none 0 0) (bj.mk none 0 0) 0 (bj.mk none 0 0)))) U U (bE yW U)) U U)<|PE U o6 U<|rP 1 [] I ?_
  refine RK y<|ak ?_
  refine LX hQ (false,2,none,0,none,0,[],none,0,none,0,none,0,none,0,[]) [] [0] (mc 3 U I) U (by rfl) U ?_ ?_
  ·rfl
  ·exact pb<|qS (tY (h:=h) (i:=i) (d:=d) E om)
 refine WK u<|ag fun _ z=>ag fun _ AC=>?_
 have A7:=(dj E).1
 have J4:=(dj E).2
 have Do:=(dy A7).1
 have EZ:=(dy A7).2
 have Di:=(dw Do).2.head
 unfold eJ at Di
 refine ao<|rP 1 [] (mc 2 U I) ?_
 refine cX (zc j kA kC az cA cC bA bC slA slC drA drC ha heA heC faA faC prA prC hin asm) (aY [7,8,9,10,11,12,13,14,15,16]) U fun FS Be=>?_
 obtain ⟨b,IR,In⟩:=FS
 try dsimp only
 have r:=Be
 try dsimp only at r
 refine rP 1 [] I ?_
 have J5:(dU j).length=j.Race.aI.length:=uw
 obtain ⟨row,H⟩:=aA (dU j) ((h).toNat) om
 obtain ⟨rowa,W⟩:=aA b ((h).toNat) om
 have s:(List.zipWith tU (dU j) b)[(h).toNat]? =some (tU row rowa):=cG H W
 refine rS (IA ((h).toNat) U (ar (n:=(dU j).length) 0 U (mP r)) Gt dc om om)<|rS (gD ((h).toNat) 0 (vS rowa.1 row.length rowa.2) U bU (ar (n:=(dU j).length) 0 U (mP r)) s U dc U)<|rP 1 [] I ?_
 have H1:row.length≤1000000:=x7 E _ (by rw [ks E]; exact aP H)
 refine rS (CL (BR row rowa.1 rowa.2 i asm) (aw (show g9 _ (rd rowa.1 row.length 1 (row.map iC)).holds from (fun w hw=>(eP 1 U Fk) w hw _ (bB H W (by simp [On]))))<|aS) U)<|rP 1 [] I ?_
 refine RK AC<|cb U (aX fun X=>?_) (aW fun X=>?_)
 ·refine WS fun _ AM=>rS (SX (bD (xs:=[]) (cs:=(ct.cells (ct.mk (bW.mk (bJ.mk (bj.mk none 0 0)) 0 (bj.mk none 0 0) (bj.mk none 0 0) 0 0 0) (bj.mk none 0 0) (bj.mk none 0 0) 0 (bj.mk none 0 0)))) U U (bE yW U)) U U)<|HY U o6 U<|rP 1 [] I ?_
  refine RK AM<|ak ?_
  refine LX hQ (false,8,none,0,none,0,[],none,0,none,0,none,0,none,0,[]) [] [0] (mc 5 U I) U (by rfl) U ?_ ?_
  ·rfl
  ·exact pb<|qS (EM (h:=h) (i:=i) (d:=d) E ⟨om,om⟩ H X)
 refine WK z<|WS fun _ AO=>rP 1 [] I ?_
 refine rS (LP (ct.cells (we j.Race kA kC cA cC bA bC slA slC drA drC heA heC)) 7 U bU U U U)<|cX (Ib j.Race kA kC az cA cC bA bC slA slC drA drC ha heA heC asm) (aY [9,10,11,12,13,14,15,16]) U fun Fd Bt=>?_
 obtain ⟨J,O,K,P,Z,L,R,M,S,N,T,F,G,AB⟩:=Fd
 try dsimp only
 obtain ⟨⟨Y,p⟩,D⟩:=Bt
 try dsimp only at Y p D
 have Go:=D.1
 refine AL U yX fun If=>e7 U o6 U<|RK AO<|WS fun _ Ac=>rP 3 [] (mc 15 U I) ?_
 refine cX (Cg d.aV.aa sgA sgC hsl) (aY [28]) U fun Fn IO=>?_
 obtain ⟨B,C⟩:=Fn
 try dsimp only
 refine rP 2 [] I ?_
 refine hU (vs:=[(vS B d.aV.aa.length C)]) (cs':=(aR.cells (aR.mk d.Out d.cD d.Time (g8 d.aV B C)))) (C':=[_,_,_,_,_,_,_,_,_,_,_,_,_,_,_,_,(cy b3 43 (aR.cells (aR.mk d.Out d.cD d.Time (g8 d.aV B C)))),_,_,_,_,_,_,_,_,_,_,_,_,_]) 16 U U U Px U U U U U U U<|RK Ac<|ag fun _ As=>?_
 obtain ⟨ht,AA⟩:=aA j.Race.aI ((h).toNat) om
 obtain ⟨A,V⟩:=aA AB ((h).toNat) (by have:=D.1; omega)
 have A6:(List.zipWith cM j.Race.aI AB)[(h).toNat]? =some (cM ht A):=cG AA V
 have Eq:=D.2 _ _ _ AA V
 have J2:=(EZ.fJ ht (aP AA)).1
 refine KE 9 AA V U U ?_
 try dsimp only
 refine cS cj 8 kr<|kp 3 [] (mc 4 U I) U<|dS (IA ((h).toNat) U (ar (n:=j.Race.aI.length) 11 U (dQ D.1)) kF dc om om)<|dS (gD ((h).toNat) 0 (vS A.1.1 ht.length A.1.2) U bU (ar (n:=j.Race.aI.length) 11 U (dQ D.1)) A6 U dc U)<|dP 2 [] (mc 18 U I) ?_
 obtain ⟨d0,A4⟩:=aA ht ((i).toNat) om
 obtain ⟨C3,g⟩:=aA A.2 ((i).toNat) om
 have A5:(List.zipWith aq.cells ht A.2)[(i).toNat]? =some (aq.cells d0 C3):=cG A4 g
 refine dS (IA ((i).toNat) U (ar (n:=ht.length) 0 U (jQ Eq)) ov dc om om)<|cu<|eo (k:=(i).toNat) (o:=0) (vs:=(aR.cells (aR.mk d.Out d.cD d.Time (g8 d.aV B C)))) (es':=(List.zipWith aq.cells (ht.set (i).toNat d) (A.2.set (i).toNat (B,C)))) (C':=[(own A.1.1 A.1.2 43 7 (List.zipWith aq.cells (ht.set (i).toNat d) (A.2.set (i).toNat (B,C)))),_,_,_,_,_,_,_,_,_,_,_,_,_,_,_,_,_,_,_,_,_,_,_,_,_,_,_,_,_,_,_]) 0 U U U Ez U U U U A5 U dc (by exact ue (c:=aq.cells) (m:=d) (a:=(B,C))) U<|RK As<|ag fun _ A0=>ag fun _ A1=>JR (d':=d) (b':=(B,C)) 1 3 A4 g U U ?_
 refine E1 (h':=(ht.set (i).toNat d)) (a':=(A.1,(A.2.set (i).toNat (B,C)))) 2 0 1 om (by have:=D.1; omega) U U ?_
 rw [← su AA,show List.zipWith cM j.Race.aI AB=List.zipWith cM (jY j.Race.aI h i d) (AB.set (h).toNat (A.1,(A.2.set (i).toNat (B,C)))) from by rw [su AA]; exact (zb AA V (by rw [List.length_set])).symm]
 replace D:=Kq (d:=d) (i:=i) (x:=(B,C)) D AA V
 rw [show bj.mk F j.Race.aI.length G=bj.mk F ((jY j.Race.aI h i d).length) G from by rw [qV]]
 have A8:iP (rO j.Race h i d) _ _:=A9.put Y p D hsl
 refine ao<|rP 1 [] (mc 1 U I) ?_
 refine rS (CL (CV (rO j.Race h i d) J O Z K P L R M S N T (AB.set (h).toNat (A.1,(A.2.set (i).toNat (B,C)))) F G (by exact A8)) (eE 17 U U<|aw (ar (n:=j.Race.au.bL.length) 2 U (by (rw [List.length_map]; rfl)))<|aw (ar (n:=j.Race.au.aH.length) 3 U (gO Y))<|aw (eP 4 U jS)<|aw (ar (n:=j.Race.au.aj.length) 5 U (by (rw [List.length_map]; rfl)))<|aw (ar (n:=j.Race.bu.length) 6 U (by (rw [List.length_map]; rfl)))<|aw (ar (n:=j.Race.cP.length) 7 U (by (rw [List.length_map]; rfl)))<|aw (ar (n:=(jY j.Race.aI h i d).length) 8 U (dQ D.1))<|aw (je 0 U D)<|aS) U) ?_
 refine rP 1 [] I ?_
 refine RK A1<|cb U (aX fun l=>?_) (aW fun l=>?_)
 ·refine WS fun _ A2=>rS (SX (bD (xs:=[]) (cs:=(ct.cells (ct.mk (bW.mk (bJ.mk (bj.mk none 0 0)) 0 (bj.mk none 0 0) (bj.mk none 0 0) 0 0 0) (bj.mk none 0 0) (bj.mk none 0 0) 0 (bj.mk none 0 0)))) U U (bE yW U)) U U)<|hU (vs:=(ct.cells (ct.mk (bW.mk (bJ.mk (bj.mk none 0 0)) 0 (bj.mk none 0 0) (bj.mk none 0 0) 0 0 0) (bj.mk none 0 0) (bj.mk none 0 0) 0 (bj.mk none 0 0)))) (cs':=(ct.cells (ct.mk (bW.mk (bJ.mk (bj.mk none 0 0)) 0 (bj.mk none 0 0) (bj.mk none 0 0) 0 0 0) (bj.mk none 0 0) (bj.mk none 0 0) 0 (bj.mk none 0 0)))) (C':=[_,_,_,_,_,_,_,_,_,_,_,_,_,_,(cy b4 32 (ct.cells (ct.mk (bW.mk (bJ.mk (bj.mk none 0 0)) 0 (bj.mk none 0 0) (bj.mk none 0 0) 0 0 0) (bj.mk none 0 0) (bj.mk none 0 0) 0 (bj.mk none 0 0)))),_,_,_,_,_,_,_,_,_,_,_,_,_,_]) 14 U U U o6 U U U U U U U<|rP 1 [] I ?_
  refine RK A2<|ak ?_
  refine LX hQ (false,60,none,0,none,0,[],none,0,none,0,none,0,none,0,[]) [] [0] (mc 14 U I) U (by rfl) U ?_ ?_
  ·rfl
  ·exact pb<|qS (zn (h:=h) (i:=i) (d:=d) E ⟨om,om⟩ H X l)
 refine WK A0<|WS fun _ A3=>dZ 1 [] (mc 1 U I) U<|hU (vs:=(ct.cells (ct.mk (bW.mk (bJ.mk (bj.mk J j.Race.au.bL.length O)) j.Race.au.gl (bj.mk K j.Race.au.aH.length P) (bj.mk L j.Race.au.aj.length R) j.Race.au.bV j.Race.au.ew j.Race.au.cU) (bj.mk M j.Race.bu.length S) (bj.mk N j.Race.cP.length T) j.Race.jc (bj.mk F ((jY j.Race.aI h i d).length) G)))) (cs':=(ct.cells (ct.mk (bW.mk (bJ.mk (bj.mk J j.Race.au.bL.length O)) j.Race.au.gl (bj.mk K j.Race.au.aH.length P) (bj.mk L j.Race.au.aj.length R) j.Race.au.bV j.Race.au.ew j.Race.au.cU) (bj.mk M j.Race.bu.length S) (bj.mk N j.Race.cP.length T) j.Race.jc (bj.mk F ((jY j.Race.aI h i d).length) G)))) (C':=[_,_,_,_,_,_,_,_,_,_,_,_,_,_,(cy b4 32 (ct.cells (ct.mk (bW.mk (bJ.mk (bj.mk J j.Race.au.bL.length O)) j.Race.au.gl (bj.mk K j.Race.au.aH.length P) (bj.mk L j.Race.au.aj.length R) j.Race.au.bV j.Race.au.ew j.Race.au.cU) (bj.mk M j.Race.bu.length S) (bj.mk N j.Race.cP.length T) j.Race.jc (bj.mk F ((jY j.Race.aI h i d).length) G)))),_,_,_,_,_,_,_,_,_,_,_,_,_,_]) 14 U U U o6 U U U U U U U<|rP 1 [] I ?_
 refine RK A3<|ak ?_
 refine LX hQ (true,0,J,O,K,P,Z,L,R,M,S,N,T,F,G,(AB.set (h).toNat (A.1,(A.2.set (i).toNat (B,C))))) [2,3,4,5,6,7,8,0] [0] (mc 14 U I) U (by (show List.all _ _=true; simp only [cond_true,fX,List.all_nil,kz,rm,Bool.and_true]; rfl)) U ?_ ?_
 ·rfl
 ·exact ⟨fun _=>⟨Gc E ⟨om,om⟩ H X l,⟨Y,p⟩,D⟩,Of⟩
theorem Ak (j:cw) (kA:OA) (kC:Nat) (az:List RA) (cA:OA) (cC:Nat) (bA:OA) (bC:Nat) (slA:OA) (slC:Nat) (drA:OA) (drC:Nat) (ha:List bZ) (heA:OA) (heC:Nat) (faA:OA) (faC:Nat) (prA:OA) (prC:Nat) (h i:Int) (d:aq) (sgA:OA) (sgC:Nat) (hin:er j az ha) (hsl:d.aV.aa.length≤1000000) (hok:(ki j h i d)=0):
 lO Tryz.prog 18 [(vA (eX.cells (lM j kA kC cA cC bA bC slA slC drA drC heA heC faA faC prA prC))),(vI h),(vI i),(vA (aR.cells (aR.mk d.Out d.cD d.Time (g8 d.aV sgA sgC))))] ((rd iE 3 2 gF)::((o_ j kA az cA bA slA drA ha heA faA prA)++[(rd sgA d.aV.aa.length 2 (d.aV.aa.map aG.cells))])) (fun (x:(OA)×Nat×(OA)×Nat×(List RA)×(OA)×Nat×(OA)×Nat×(OA)×Nat×(OA)×Nat×(List bZ))=>(vT [(vA (ct.cells (ct.mk (bW.mk (bJ.mk (bj.mk x.1 j.Race.au.bL.length x.2.1)) j.Race.au.gl (bj.mk x.2.2.1 j.Race.au.aH.length x.2.2.2.1) (bj.mk x.2.2.2.2.2.1 j.Race.au.aj.length x.2.2.2.2.2.2.1) j.Race.au.bV j.Race.au.ew j.Race.au.cU) (bj.mk x.2.2.2.2.2.2.2.1 j.Race.bu.length x.2.2.2.2.2.2.2.2.1) (bj.mk x.2.2.2.2.2.2.2.2.2.1 j.Race.cP.length x.2.2.2.2.2.2.2.2.2.2.1) j.Race.jc (bj.mk x.2.2.2.2.2.2.2.2.2.2.2.1 ((jY j.Race.aI h i d).length) x.2.2.2.2.2.2.2.2.2.2.2.2.1)))),(vI 0)])) (fun (x:(OA)×Nat×(OA)×Nat×(List RA)×(OA)×Nat×(OA)×Nat×(OA)×Nat×(OA)×Nat×(List bZ))=>((ki j h i d)=0∧(x.2.2.2.2.1.length=j.Race.au.aH.length∧m7 j.Race.au.aH x.2.2.2.2.1)∧uD (jY j.Race.aI h i d) x.2.2.2.2.2.2.2.2.2.2.2.2.2)) (fun (x:(OA)×Nat×(OA)×Nat×(List RA)×(OA)×Nat×(OA)×Nat×(OA)×Nat×(OA)×Nat×(List bZ))=>[(own x.1 x.2.1 128 9 (j.Race.au.bL.map aD.cells)),(own x.2.2.1 x.2.2.2.1 133 2 (List.zipWith aT.cells j.Race.au.aH x.2.2.2.2.1)),(bQ (bK aT.owns j.Race.au.aH x.2.2.2.2.1)),(own x.2.2.2.2.2.1 x.2.2.2.2.2.2.1 137 4 (j.Race.au.aj.map cQ.cells)),(own x.2.2.2.2.2.2.2.1 x.2.2.2.2.2.2.2.2.1 3 1 (j.Race.bu.map iC)),(own x.2.2.2.2.2.2.2.2.2.1 x.2.2.2.2.2.2.2.2.2.2.1 3 1 (j.Race.cP.map iC)),(own x.2.2.2.2.2.2.2.2.2.2.2.1 x.2.2.2.2.2.2.2.2.2.2.2.2.1 75 1 (List.zipWith cM (jY j.Race.aI h i d) x.2.2.2.2.2.2.2.2.2.2.2.2.2)),(bQ (bK j4 (jY j.Race.aI h i d) x.2.2.2.2.2.2.2.2.2.2.2.2.2))]):=by
 exact FR (yK j kA kC az cA cC bA bC slA slC drA drC ha heA heC faA faC prA prC h i d sgA sgC hin hsl) (fun x q=>q.2 hok)
end
section
open Go.RowKit
theorem Kd (l:bq) (kA:OA) (kC:Nat) (az:List RA) (cA:OA) (cC:Nat) (bA:OA) (bC:Nat) (r:cO) (sgA:OA) (sgC:Nat) (hin:ej l az) (hsl:r.aa.length≤1000000):
 lO Tryz.prog 124 [(vA (bW.cells (jy l kA kC cA cC bA bC))),(vA (de.cells (g8 r sgA sgC)))] ((o7 l kA az cA bA)++[(rd sgA r.aa.length 2 (r.aa.map aG.cells))]) (fun (x:(OA)×Nat)=>(vT [(vS x.1 ((hH l r).length) x.2),(vI (fp l r 0))])) (fun (x:(OA)×Nat)=>True) (fun (x:(OA)×Nat)=>[(own x.1 x.2 3 1 ((hH l r).map iC))]):=by
 have C0:=hin.qF
 have Ci:=hin.qL
 have B3:=hin.lQ
 have B9:=hin.qE
 refine dK kr Tryz.func124 U U fun w0 Q hQ hN=>?_
 try dsimp only
 refine WS fun _ A2=>dV U fun b2=>dV U fun b3=>bp 2 U<|RK A2<|WS fun _ f=>rP 2 [0,1] (mc 1 U (mc 0 U I)) ?_
 refine cX (Ba l kA kC az cA cC bA bC r sgA sgC hin hsl) (aY [2,3,4,5,6]) U fun y5 AC=>?_
 obtain ⟨AM,Bt,a8,c9,J⟩:=y5
 cases AM
 ·obtain ⟨v,he⟩:=AC.2 rfl
  try dsimp only at v he
  subst v
  try dsimp only [cond_true,cond_false,List.cons_append,List.nil_append]
  refine bp 5 U<|RK f<|ag fun _ A9=>WS fun _ N=>rP 2 [] I ?_
  refine RK N<|bO U (aW fun M=>?_) (aX fun M=>?_)
  ·exact absurd M he
  refine WS fun _ O=>gn 3 1 ?_
  rw [show (own none 0 3 1 ([]:List (List Value)))=own none 0 3 1 ((hH l r).map iC) from by rw [pP he]; rfl]
  refine bp 1 U<|rP 2 [] I ?_
  refine RK O<|ak ?_
  refine LX hQ (none,0) [0] [] I U U U ?_ ?_
  ·first|rfl|(rw [he]; rfl)|(rw [pP he]; rfl)
  ·trivial
 obtain ⟨he,E⟩:=AC.1 rfl
 try dsimp only [cond_true,cond_false,List.cons_append,List.nil_append]
 try dsimp only at he E
 obtain ⟨D,C,_,Ck⟩:=iG he
 obtain ⟨C1,A5⟩:=dw D
 have A4:=A5.head
 unfold eJ at A4
 have A6:=DD D C
 have C2:=A6.num
 have Cp:=C.len
 have Cx:=C.time
 refine bp 5 U<|RK f<|ag fun _ P=>WS fun _ R=>bp 1 U<|rS (SX (eQ (r:= .bool false) U U U s_) U U)<|RK R<|bT U<|WK P<|WS fun _ S=>bp 1 U<|RK S<|ag fun _ T=>WS fun _ AA=>rP 1 [] I ?_
 refine RK AA<|ax<|fu 3 1 ?_
 have A:(0≤l.aj.length+1):=by exact Nat.zero_le _
 refine bP (ι:={z:Nat×(OA)×Nat // (z.1≤l.aj.length+1)}) [2,3,6] [1,2,3,4,5,6,7,8,9] U U (fun z=>[(8,(vS z.1.2.1 ((iY (di l r) z.1.1).length) z.1.2.2)),(9,(vI (z.1.1:Int)))]) (fun z=>[(own z.1.2.1 z.1.2.2 3 1 ((iY (di l r) z.1.1).map iC))]) (fun _=>rfl) (fun _=>rfl) (fun z=>l.aj.length+1-z.1.1) ⟨(0,none,0),A⟩ (bf U) (aK [1,2,3,4,5,6,7,8,9,0]) ?_
 clear A
 rintro ⟨⟨n,a,c⟩,L⟩ J20 F
 try dsimp only at L
 try dsimp only
 refine ag fun _ V=>WS fun _ W=>rP 5 [] (mc 3 U I) ?_
 refine RK W<|bO U (aO fun A0=>?_) (aN fun A0=>?_)
 ·refine bM<|ab<|ab<|aF<|KK T<|WS fun _ g=>rP 1 [] I ?_
  rw [show (iY (di l r) n)=(hH l r) from by (rw [rY he]; unfold l6; rw [l3,show n=l.aj.length+1 by omega])]
  refine rP 2 [] I ?_
  refine RK g<|ak ?_
  refine LX hQ (a,c) [9] [] I U U U ?_ ?_
  ·first|rfl|(rw [he]; rfl)|(rw [pP he]; rfl)
  ·trivial
 refine WK V<|ag fun _ H=>ax<|WS fun _ X=>bp 1 U<|RK X<|ag fun _ Y=>WS fun _ Z=>rP 1 [] I ?_
 refine RK Z<|ax ?_
 have A:(0≤(kQ l r).length):=by exact Nat.zero_le _
 have h:(vB (Qy ((kQ l r).take 0) n))=(vB false):=by rfl
 refine bP (ι:={z:Nat // (z≤(kQ l r).length)}) [2,3,6,8,9] [0,1,2,3,4,5,6,7,8,9] U U (fun z=>[(10,(vB (Qy ((kQ l r).take z.1) n))),(11,(vI (z.1:Int)))]) (fun z=>[]) (fun _=>rfl) (fun _=>rfl) (fun z=>(kQ l r).length-z.1) ⟨0,A⟩ (aU U h<|bf U) (aK [0,1,2,3,4,5,6,7,8,9]) ?_
 clear A
 rintro ⟨i,AO⟩ J29 G
 try dsimp only
 refine ag fun _ b=>WS fun _ d=>rP 4 [] I ?_
 refine RK d<|bO U (aO fun A1=>?_) (aN fun A1=>?_)
 ·refine bM<|ab<|ab<|aF<|KK Y<|WS fun _ e=>rP 1 [] I ?_
  refine RK e<|bO U (fun K=>?_) (fun K=>?_)
  ·refine cg<|aJ<|KK H<|ao<|rP 3 [] I ?_
   refine aC ?_
   rw [show (iY (di l r) n)=(iY (di l r) (n+1)) from (zW (by have q:=K; rw [List.take_of_length_le om] at q; rw [← yC D C om]; exact q)).symm]
   have u:(vI (((n+1):Nat):Int))=(vI ((n:Int)+1)):=by exact cI om
   refine a_ (F ⟨((n+1),a,c),(by first|omega|(simp only []; omega))⟩ _ _ _ U os (cz 4<|aU U u<|cR.nil _) (aK [0,1,2,3,4,5,6,7,8,9]))
  refine ao<|rP 1 [] I ?_
  have A3:lh (di l r) (pW (di l r) n)=true:=by have q:=K; rw [List.take_of_length_le om] at q; rw [← yC D C om]; exact q
  refine rP 1 [] I ?_
  refine e_ (xs:=[.tmp 47]) (cs:=[(vI (n:Int))]) U dI kS U U U U (by simp [Value.cells]) U U fun Be=>?_
  refine cN (es2:=(List.map iC (iY (di l r) (n+1)))) (m':=(iY (di l r) (n+1)).length) 10 U U U pq U U sm (bo (es:=List.map iC [(n:Int)]) 0 U U (by simp [bX]) U) (jM _) (by have:=n9 (w:=di l r) (k:=n); omega) (by have:=n9 (w:=di l r) (k:=n); simp only [maxLen]; omega) (by rw [x3 A3]; simp) sm U fun Ac As=>?_
  try dsimp only
  refine bp 1 U<|aC<|aJ<|KK H<|ao<|rP 3 [] I ?_
  refine aC ?_
  have s:(vI (((n+1):Nat):Int))=(vI ((n:Int)+1)):=by exact cI om
  refine a_ (F ⟨((n+1),Ac,As),(by first|omega|(simp only []; omega))⟩ _ _ _ U os (cz 4<|aU U s<|cR.nil _) (aK [1,2,3,4,5,6,7,8,9,10]))
 refine WK b<|ag fun _ AB=>ax<|ao<|rP 1 [] I ?_
 obtain ⟨y,hy⟩:=aA (kQ l r) i om
 refine rP 1 [] I ?_
 refine bS (t:=35) U (fun B=>?_) (fun B=>?_)
 ·refine bp 10 U<|aC<|aJ<|KK AB<|ao<|rP 3 [] I ?_
  refine aC ?_
  have j:(vB (Qy ((kQ l r).take (i+1)) n))=(vB true):=by first|(rw [lH hy,uO,B,Bool.true_or]; done)|(rw [lH hy,uO,B,Bool.false_or]; exact cB (gS.2 om))
  have m:(vI (((i+1):Nat):Int))=(vI ((i:Int)+1)):=by exact cI om
  refine a_ (G ⟨(i+1),(by first|omega|(simp only []; omega))⟩ _ _ _ U os (cz 5<|aU U j<|aU U m<|cR.nil _) (aK [0,1,2,3,4,5,6,7,8,9]))
 refine rP 2 [] I ?_
 obtain ⟨y,hy⟩:=aA (kQ l r) i om
 obtain ⟨ya,A7⟩:=aA J i om
 have A8:(List.zipWith du.cells (kQ l r) J)[i]? =some (du.cells y ya):=cG hy A7
 refine rS (IA i U (ar (n:=(kQ l r).length) 0 U (m8 E)) BT dc om om)<|rS (nX (i*3) U (ar (n:=(kQ l r).length) 0 U (m8 E)) (Nat.mul_pos om dc) eC U)<|rS (gD i 0 (vS ya.1.1 y.gp.length ya.1.2) U bU (ar (n:=(kQ l r).length) 0 U (m8 E)) A8 U dc U)<|bp 5 U<|aC<|aJ<|KK AB<|ao<|rP 3 [] I ?_
 refine aC ?_
 have o:(vB (Qy ((kQ l r).take (i+1)) n))=(vB (decide ((y.gp.length:Int)=(n:Int)))):=by first|(rw [lH hy,uO,B,Bool.true_or]; done)|(rw [lH hy,uO,B,Bool.false_or]; exact cB (gS.2 om))
 have p:(vI (((i+1):Nat):Int))=(vI ((i:Int)+1)):=by exact cI om
 refine a_ (G ⟨(i+1),(by first|omega|(simp only []; omega))⟩ _ _ _ U os (cz 5<|aU U o<|aU U p<|cR.nil _) (aK [0,1,2,3,4,5,6,7,8,9]))
end
section
open Go.RowKit
theorem pB (l:bq) (kA:OA) (kC:Nat) (az:List RA) (cA:OA) (cC:Nat) (bA:OA) (bC:Nat) (r:cO) (sgA:OA) (sgC:Nat) (b:Int) (hin:ej l az) (hsl:r.aa.length≤1000000):
 dF Tryz.prog 103 [(vA (bW.cells (jy l kA kC cA cC bA bC))),(vA (de.cells (g8 r sgA sgC))),(vI b)] ((o7 l kA az cA bA)++[(rd sgA r.aa.length 2 (r.aa.map aG.cells))]) (vA (jk.cells (jk.mk (!((dh l r b).never)) ((dh l r b).each) ((dh l r b).Lo) ((dh l r b).Hi)))):=by
 have g:=hin.qF
 have e:=hin.qL
 have c:=hin.lQ
 have d:=hin.qE
 refine bG kr Tryz.func103 U U fun o Q hQ hN=>?_
 try dsimp only
 refine WS fun _ P=>dV U fun j=>dV U fun k=>AL U uZ fun m=>RK P<|ag fun _ R=>WS fun _ S=>rP 2 [] I ?_
 refine RK S<|cb U (aN fun A=>?_) (aO fun A=>?_)
 ·refine WS fun _ T=>rP 4 [] (mc 1 U I) ?_
  refine rS (SX (bD (xs:=[(0,.const (vB true)),(1,.const (vB true)),(2,.tmp 15),(3,.tmp 17)]) (cs:=(jk.cells (jk.mk true true r.Start r.Start))) U U (bE Ip U)) U U)<|e7 U qG U<|RK T<|ak<|Bf hQ [0] (mc 0 U I) U ?_
  (rw [zp A]<;>rfl)
 refine WK R<|WS fun _ AA=>rP 2 [0,1] (mc 2 U (mc 1 U I)) ?_
 refine cX (Kd l kA kC az cA cC bA bC r sgA sgC hin hsl) (aY [3,4,5,6,7]) U fun i W=>?_
 obtain ⟨X,a⟩:=i
 try dsimp only
 refine bp 5 U<|RK AA<|WS fun _ F=>dZ 3 [0,1] (mc 3 U (mc 2 U I)) U<|rS (CL (GN l kA kC az cA cC bA bC r sgA sgC b hin hsl) (aY [4,5,6,7,8]) U)<|bp 3 U<|AL U eg fun Y=>e7 U cW U<|bp 1 U<|RK F<|ag fun _ G=>WS fun _ H=>rP 2 [] I ?_
 refine RK H<|cb U (aX fun B=>?_) (aW fun B=>?_)
 ·refine WS fun _ AB=>rS (SX (bD (xs:=[(2,.const (vI 86400000)),(3,.const (vI 86400000))]) (cs:=(jk.cells (jk.mk false false 86400000 86400000))) U U (bE Ip U)) U U)<|BA U qG U<|RK AB<|ak<|Bf hQ [0] (mc 2 U I) U ?_
  (rw [xJ A B]<;>rfl)
 refine WK G<|ag fun _ J=>?_
 have D:=sh B om
 have h:=yr D
 have f:=fun (q:(hH l r)[0]? =some ((hH l r)[0]'om))=>tq A B D q
 refine dp cj [10,11] [] [] [0,1,2,3,4,5,6,7,8,9] [] U U U U U<|eS U (MV U) ?_
 obtain ⟨w,hw⟩:=aA (hH l r) 0 om
 have V:=bH iC hw
 refine eS U (IA 0 U (ar (n:=(hH l r).length) 1 U sm) dI dc U om)<|eS U (gD 0 0 (vI w) U bU (ar (n:=(hH l r).length) 1 U sm) V U dc U)<|eS U (MV U)<|eS U (BI U Fy)<|eS U (FA 0 U eC U)<|eS U (L1 (vI ((dD l r b).Lo)) 0 U bU U U)<|eS U (FA 1 U eC U)<|eS U (L1 (vI ((dD l r b).Hi)) 0 U bU U U)<|eS U (SX (bD (xs:=[(0,.const (vB true)),(1,.tmp 39),(2,.tmp 41),(3,.tmp 43)]) (cs:=(jk.cells (jk.mk true (decide (b<w)) ((dD l r b).Lo) ((dD l r b).Hi)))) U U (bE Ip U)) U U)<|ed U<|cf U fun T19 N=>AL U uZ fun Z=>aC (N _ _ (aK [1,2,3,4,5,6,7,8,9,10]) ?_)
 refine cf U fun T21 O=>e7 U qG U<|aC (O _ _ (aK [1,2,3,4,5,6,7,8,9,10]) ?_)
 refine e9 U<|KK J<|ag fun _ E=>WS fun _ K=>rP 3 [] (mc 0 U I) ?_
 refine RK K<|bO U (aW fun C=>?_) (aX fun C=>?_)
 ·refine WK E<|WS fun _ M=>rP 1 [] (mc 0 U I) ?_
  refine PE U qG U<|RK M<|ak<|Bf hQ [0] (mc 3 U I) U ?_
  (rw [(tq A B D hw).1 C,dC C]<;>rfl)
 refine ao<|bp 1 U<|Vx (jk.cells (jk.mk true (decide (b<w)) ((dD l r b).Lo) 86400000)) U Dv U U<|RK E<|WS fun _ L=>rP 1 [] (mc 0 U I) ?_
 refine PE U qG U<|RK L<|ak<|Bf hQ [0] (mc 3 U I) U ?_
 (rw [(tq A B D hw).2 C,br C]<;>rfl)
end
section
open Go.RowKit
theorem Gx (j:cw) (kA:OA) (kC:Nat) (az:List RA) (cA:OA) (cC:Nat) (bA:OA) (bC:Nat) (slA:OA) (slC:Nat) (drA:OA) (drC:Nat) (ha:List bZ) (heA:OA) (heC:Nat) (faA:OA) (faC:Nat) (prA:OA) (prC:Nat) (fw ff ft:Int) (d:aq) (sgA:OA) (sgC:Nat) (hin:er j az ha) (hw:0≤fw∧fw≤1000000) (hsl:d.aV.aa.length≤1000000):
 dF Tryz.prog 73 [(vA (eX.cells (lM j kA kC cA cC bA bC slA slC drA drC heA heC faA faC prA prC))),(vA (bg.cells (bg.mk 1 fw ff ft))),(vA (aR.cells (aR.mk d.Out d.cD d.Time (g8 d.aV sgA sgC))))] ((o_ j kA az cA bA slA drA ha heA faA prA)++[(rd sgA d.aV.aa.length 2 (d.aV.aa.map aG.cells))]) (Value.int .u8 (gd j.Race.au (bg.mk 1 fw ff ft) d)):=by
 have i:=hin.race
 have f:=hin.race.line
 have n:=hin.race.fE
 have o:=hin.race.has
 have k:=hin.race.fM
 have g:=hin.nf
 have h:=hin.np
 refine bG kr Tryz.func73 U U fun w Q hQ hN=>?_
 try dsimp only
 refine WS fun _ Z=>dV U fun p=>dV U fun s=>dV U fun u=>bp 1 U<|RK Z<|ag fun _ a=>WS fun _ b=>dZ 1 [] (mc 0 U I) U<|rS (CL (ve d.Out d.cD d.Time (g8 d.aV sgA sgC)) (aS) U)<|rP 1 [] I ?_
 refine RK b<|cb U (aX fun B=>?_) (aW fun B=>?_)
 ·refine WS fun _ c=>rP 1 [] I ?_
  refine RK c<|ak<|Q1 hQ U U U ?_
  (rw [nK (fun q=>B q)]; done)
 refine WK a<|WS fun _ e=>bp 2 U<|rS (LP (bW.cells (jy j.Race.au kA kC cA cC bA bC)) 2 U bU U U U)<|AL U MT fun v=>e7 U Ia U<|RK e<|WS fun _ K=>AL U uZ fun l=>AL U uZ fun m=>RK K<|ag fun _ L=>WS fun _ M=>dZ 2 [] (mc 4 U I) U<|RK M<|ax<|WS fun _ N=>rS (SX (eQ (r:= .bool true) U U U kf) U U)<|bp 1 U<|RK N<|aL U<|cS cj 10 kr<|kp 2 [] (mc 2 U I) U<|dS (LP (de.cells (g8 d.aV sgA sgC)) 3 U bU U U U)<|dS (CL (pB j.Race.au kA kC az cA cC bA bC d.aV sgA sgC (-1) asm hsl) (aY [6,7,8,9,16]) U)<|kp 2 [] (mc 2 U I) U<|dS (LP (de.cells (g8 d.aV sgA sgC)) 3 U bU U U U)<|kp 2 [] (mc 2 U I) U<|dS (CL (pB j.Race.au kA kC az cA cC bA bC d.aV sgA sgC j.Race.au.bV asm hsl) (aY [6,7,8,9,16]) U)<|cu<|pV U qG U<|e7 U qG U<|aC<|aJ<|KK L<|ag fun _ O=>WS fun _ F=>rP 4 [] (mc 1 U I) ?_
 refine bS (t:=55) U (fun A=>?_) (fun A=>?_)
 ·rw [Bool.not_eq_true'] at A
  rw [Bool.not_eq_false'] at A
  refine bp 13 U<|RK F<|aL U<|WS fun _ P=>rP 1 [] I ?_
  refine RK P<|ak<|Q1 hQ U U U ?_
  (rw [g0 rfl B]; (rw [eY (.inl (by simpa using A))]; done))
 rw [Bool.not_eq_false'] at A
 rw [Bool.not_eq_true'] at A
 refine rP 7 [0,1] (mc 1 U (mc 4 U I)) ?_
 refine bS (t:=62) U (aN fun C=>?_) (aO fun C=>?_)
 ·refine bp 6 U<|RK F<|aL U<|WS fun _ R=>rP 1 [] I ?_
  refine RK R<|ak<|Q1 hQ U U U ?_
  (rw [g0 rfl B]; (rw [eY (.inr (.inl C))]; done))
 refine rP 6 [0,1] (mc 0 U (mc 4 U I)) ?_
 refine RK F<|cb U (aN fun D=>?_) (aO fun D=>?_)
 ·refine WS fun _ S=>rP 1 [] I ?_
  refine RK S<|ak<|Q1 hQ U U U ?_
  (rw [g0 rfl B]; (rw [eY (.inr (.inr D))]; done))
 refine WK O<|ag fun _ T=>WS fun _ AA=>dZ 2 [] (mc 4 U I) U<|rS (SX (eQ (r:= .bool false) U U U kf) U U)<|RK AA<|bT U<|WK T<|ag fun _ G=>WS fun _ H=>rP 3 [] (mc 1 U I) ?_
 refine cx (t:=90) U (fun AB=>?_) (fun AB=>?_)
 ·refine bp 13 U<|RK H<|bT U<|WK G<|WS fun _ Y=>rP 1 [] I ?_
  refine RK Y<|ak<|Q1 hQ U U U ?_
  (rw [g0 rfl B]; (rw [gr (tT (by simpa using A) (by first|exact C|(simp only []; omega)) (by first|exact D|(simp only []; omega))) (fun q=>by rw [AB] at q; exact Bool.noConfusion q.1)]; done))
 refine rP 7 [0,1] (mc 1 U (mc 4 U I)) ?_
 refine cx (t:=97) U (aO fun J=>?_) (aN fun J=>?_)
 ·refine bp 6 U<|RK H<|bT U<|WK G<|WS fun _ X=>rP 1 [] I ?_
  refine RK X<|ak<|Q1 hQ U U U ?_
  (rw [g0 rfl B]; (rw [gr (tT (by simpa using A) (by first|exact C|(simp only []; omega)) (by first|exact D|(simp only []; omega))) (fun q=>J ((j2 (show ¬ (1:Int)=3 by decide)).1 q.2).1)]; done))
 refine rP 6 [0,1] (mc 0 U (mc 4 U I)) ?_
 refine RK H<|cb U (aN fun E=>?_) (aO fun E=>?_)
 ·refine WS fun _ V=>rP 1 [] I ?_
  refine RK V<|ak<|Q1 hQ U U U ?_
  (rw [g0 rfl B]; (rw [lY (tT (by simpa using A) (by first|exact C|(simp only []; omega)) (by first|exact D|(simp only []; omega))) AB ((j2 (show ¬ (1:Int)=3 by decide)).2 ⟨J,E⟩)]; done))
 refine WK G<|WS fun _ W=>rP 1 [] I ?_
 refine RK W<|ak<|Q1 hQ U U U ?_
 (rw [g0 rfl B]; (rw [gr (tT (by simpa using A) (by first|exact C|(simp only []; omega)) (by first|exact D|(simp only []; omega))) (fun q=>E ((j2 (show ¬ (1:Int)=3 by decide)).1 q.2).2)]; done))
theorem Ho (j:cw) (kA:OA) (kC:Nat) (az:List RA) (cA:OA) (cC:Nat) (bA:OA) (bC:Nat) (slA:OA) (slC:Nat) (drA:OA) (drC:Nat) (ha:List bZ) (heA:OA) (heC:Nat) (faA:OA) (faC:Nat) (prA:OA) (prC:Nat) (fw ff ft:Int) (d:aq) (sgA:OA) (sgC:Nat) (hin:er j az ha) (hw:0≤fw∧fw≤1000000) (hsl:d.aV.aa.length≤1000000):
 dF Tryz.prog 73 [(vA (eX.cells (lM j kA kC cA cC bA bC slA slC drA drC heA heC faA faC prA prC))),(vA (bg.cells (bg.mk 2 fw ff ft))),(vA (aR.cells (aR.mk d.Out d.cD d.Time (g8 d.aV sgA sgC))))] ((o_ j kA az cA bA slA drA ha heA faA prA)++[(rd sgA d.aV.aa.length 2 (d.aV.aa.map aG.cells))]) (Value.int .u8 (gd j.Race.au (bg.mk 2 fw ff ft) d)):=by
 have k:=hin.race
 have g:=hin.race.line
 have o:=hin.race.fE
 have p:=hin.race.has
 have l:=hin.race.fM
 have h:=hin.nf
 have i:=hin.np
 refine bG kr Tryz.func73 U U fun x Q hQ hN=>?_
 try dsimp only
 refine WS fun _ a=>dV U fun s=>dV U fun u=>dV U fun v=>bp 1 U<|RK a<|ag fun _ b=>WS fun _ c=>dZ 1 [] (mc 0 U I) U<|rS (CL (ve d.Out d.cD d.Time (g8 d.aV sgA sgC)) (aS) U)<|rP 1 [] I ?_
 refine RK c<|cb U (aX fun B=>?_) (aW fun B=>?_)
 ·refine WS fun _ e=>rP 1 [] I ?_
  refine RK e<|ak<|Q1 hQ U U U ?_
  (rw [nK (fun q=>B q)]; done)
 refine WK b<|WS fun _ f=>bp 2 U<|rS (LP (bW.cells (jy j.Race.au kA kC cA cC bA bC)) 2 U bU U U U)<|AL U MT fun w=>e7 U Ia U<|RK f<|WS fun _ K=>AL U uZ fun m=>AL U uZ fun n=>RK K<|ag fun _ L=>WS fun _ M=>dZ 2 [] (mc 4 U I) U<|RK M<|ax<|WS fun _ N=>rS (SX (eQ (r:= .bool false) U U U kf) U U)<|bp 1 U<|RK N<|bT U<|WS fun _ O=>rS (SX (eQ (r:= .bool true) U U U kf) U U)<|bp 1 U<|RK O<|aL U<|cS cj 13 kr<|kp 2 [] (mc 2 U I) U<|dS (LP (de.cells (g8 d.aV sgA sgC)) 3 U bU U U U)<|kp 3 [] (mc 4 U I) U<|dS (CL (pB j.Race.au kA kC az cA cC bA bC d.aV sgA sgC (fw-1) asm hsl) (aY [6,7,8,9,16]) U)<|kp 2 [] (mc 2 U I) U<|dS (LP (de.cells (g8 d.aV sgA sgC)) 3 U bU U U U)<|dP 2 [] (mc 4 U I) ?_
 refine dS (CL (pB j.Race.au kA kC az cA cC bA bC d.aV sgA sgC fw asm hsl) (aY [6,7,8,9,16]) U)<|cu<|pV U qG U<|e7 U qG U<|aC<|aJ ?_
 refine KK L<|ag fun _ P=>WS fun _ F=>rP 4 [] (mc 1 U I) ?_
 refine bS (t:=55) U (fun A=>?_) (fun A=>?_)
 ·rw [Bool.not_eq_true'] at A
  rw [Bool.not_eq_false'] at A
  refine bp 13 U<|RK F<|aL U<|WS fun _ R=>rP 1 [] I ?_
  refine RK R<|ak<|Q1 hQ U U U ?_
  (rw [g7 rfl B]; (rw [eY (.inl (by simpa using A))]; done))
 rw [Bool.not_eq_false'] at A
 rw [Bool.not_eq_true'] at A
 refine rP 7 [0,1] (mc 1 U (mc 4 U I)) ?_
 refine bS (t:=62) U (aN fun C=>?_) (aO fun C=>?_)
 ·refine bp 6 U<|RK F<|aL U<|WS fun _ S=>rP 1 [] I ?_
  refine RK S<|ak<|Q1 hQ U U U ?_
  (rw [g7 rfl B]; (rw [eY (.inr (.inl C))]; done))
 refine rP 6 [0,1] (mc 0 U (mc 4 U I)) ?_
 refine RK F<|cb U (aN fun D=>?_) (aO fun D=>?_)
 ·refine WS fun _ T=>rP 1 [] I ?_
  refine RK T<|ak<|Q1 hQ U U U ?_
  (rw [g7 rfl B]; (rw [eY (.inr (.inr D))]; done))
 refine WK P<|ag fun _ AA=>WS fun _ V=>dZ 2 [] (mc 4 U I) U<|rS (SX (eQ (r:= .bool false) U U U kf) U U)<|RK V<|bT U<|WK AA<|ag fun _ G=>WS fun _ H=>rP 3 [] (mc 1 U I) ?_
 refine cx (t:=90) U (fun AB=>?_) (fun AB=>?_)
 ·refine bp 13 U<|RK H<|bT U<|WK G<|WS fun _ Z=>rP 1 [] I ?_
  refine RK Z<|ak<|Q1 hQ U U U ?_
  (rw [g7 rfl B]; (rw [gr (tT (by simpa using A) (by first|exact C|(simp only []; omega)) (by first|exact D|(simp only []; omega))) (fun q=>by rw [AB] at q; exact Bool.noConfusion q.1)]; done))
 refine rP 7 [0,1] (mc 1 U (mc 4 U I)) ?_
 refine cx (t:=97) U (aO fun J=>?_) (aN fun J=>?_)
 ·refine bp 6 U<|RK H<|bT U<|WK G<|WS fun _ Y=>rP 1 [] I ?_
  refine RK Y<|ak<|Q1 hQ U U U ?_
  (rw [g7 rfl B]; (rw [gr (tT (by simpa using A) (by first|exact C|(simp only []; omega)) (by first|exact D|(simp only []; omega))) (fun q=>J ((j2 (show ¬ (2:Int)=3 by decide)).1 q.2).1)]; done))
 refine rP 6 [0,1] (mc 0 U (mc 4 U I)) ?_
 refine RK H<|cb U (aN fun E=>?_) (aO fun E=>?_)
 ·refine WS fun _ W=>rP 1 [] I ?_
  refine RK W<|ak<|Q1 hQ U U U ?_
  (rw [g7 rfl B]; (rw [lY (tT (by simpa using A) (by first|exact C|(simp only []; omega)) (by first|exact D|(simp only []; omega))) AB ((j2 (show ¬ (2:Int)=3 by decide)).2 ⟨J,E⟩)]; done))
 refine WK G<|WS fun _ X=>rP 1 [] I ?_
 refine RK X<|ak<|Q1 hQ U U U ?_
 (rw [g7 rfl B]; (rw [gr (tT (by simpa using A) (by first|exact C|(simp only []; omega)) (by first|exact D|(simp only []; omega))) (fun q=>E ((j2 (show ¬ (2:Int)=3 by decide)).1 q.2).2)]; done))
theorem GY (j:cw) (kA:OA) (kC:Nat) (az:List RA) (cA:OA) (cC:Nat) (bA:OA) (bC:Nat) (slA:OA) (slC:Nat) (drA:OA) (drC:Nat) (ha:List bZ) (heA:OA) (heC:Nat) (faA:OA) (faC:Nat) (prA:OA) (prC:Nat) (fw ff ft:Int) (d:aq) (sgA:OA) (sgC:Nat) (hin:er j az ha) (hw:0≤fw∧fw≤1000000) (hsl:d.aV.aa.length≤1000000):
 dF Tryz.prog 73 [(vA (eX.cells (lM j kA kC cA cC bA bC slA slC drA drC heA heC faA faC prA prC))),(vA (bg.cells (bg.mk 3 fw ff ft))),(vA (aR.cells (aR.mk d.Out d.cD d.Time (g8 d.aV sgA sgC))))] ((o_ j kA az cA bA slA drA ha heA faA prA)++[(rd sgA d.aV.aa.length 2 (d.aV.aa.map aG.cells))]) (Value.int .u8 (gd j.Race.au (bg.mk 3 fw ff ft) d)):=by
 have l:=hin.race
 have g:=hin.race.line
 have p:=hin.race.fE
 have s:=hin.race.has
 have m:=hin.race.fM
 have i:=hin.nf
 have k:=hin.np
 refine bG kr Tryz.func73 U U fun y Q hQ hN=>?_
 try dsimp only
 refine WS fun _ a=>dV U fun u=>dV U fun v=>dV U fun w=>bp 1 U<|RK a<|ag fun _ b=>WS fun _ c=>dZ 1 [] (mc 0 U I) U<|rS (CL (ve d.Out d.cD d.Time (g8 d.aV sgA sgC)) (aS) U)<|rP 1 [] I ?_
 refine RK c<|cb U (aX fun B=>?_) (aW fun B=>?_)
 ·refine WS fun _ e=>rP 1 [] I ?_
  refine RK e<|ak<|Q1 hQ U U U ?_
  (rw [nK (fun q=>B q)]; done)
 refine WK b<|WS fun _ f=>bp 2 U<|rS (LP (bW.cells (jy j.Race.au kA kC cA cC bA bC)) 2 U bU U U U)<|AL U MT fun x=>e7 U Ia U<|RK f<|WS fun _ K=>AL U uZ fun n=>AL U uZ fun o=>RK K<|ag fun _ L=>WS fun _ M=>dZ 2 [] (mc 4 U I) U<|RK M<|ax<|WS fun _ N=>rS (SX (eQ (r:= .bool false) U U U kf) U U)<|bp 1 U<|RK N<|bT U<|WS fun _ O=>rS (SX (eQ (r:= .bool false) U U U kf) U U)<|bp 1 U<|RK O<|bT U<|WS fun _ P=>dZ 2 [] (mc 2 U I) U<|rS (LP (de.cells (g8 d.aV sgA sgC)) 3 U bU U U U)<|dZ 2 [] (mc 4 U I) U<|rS (CL (pB j.Race.au kA kC az cA cC bA bC d.aV sgA sgC fw asm hsl) (aY [6,7,8,9,16]) U)<|pV U qG U<|RK P<|ao<|rP 1 [] (mc 1 U I) ?_
 refine e7 U qG U<|aC<|aJ<|KK L<|ag fun _ R=>?_
 refine WS fun _ E=>rP 4 [] (mc 1 U I) ?_
 refine bS (t:=55) U (fun A=>?_) (fun A=>?_)
 ·rw [Bool.not_eq_true'] at A
  rw [Bool.not_eq_false'] at A
  refine bp 13 U<|RK E<|aL U<|WS fun _ S=>rP 1 [] I ?_
  refine RK S<|ak<|Q1 hQ U U U ?_
  (rw [gY rfl B]; (rw [eY (.inl (by simpa using A))]; done))
 rw [Bool.not_eq_false'] at A
 rw [Bool.not_eq_true'] at A
 refine rP 7 [0,1] (mc 1 U (mc 4 U I)) ?_
 refine bS (t:=62) U (aN fun C=>?_) (aO fun C=>?_)
 ·refine bp 6 U<|RK E<|aL U<|WS fun _ T=>rP 1 [] I ?_
  refine RK T<|ak<|Q1 hQ U U U ?_
  (rw [gY rfl B]; (rw [eY (.inr (.inl C))]; done))
 refine rP 6 [0,1] (mc 0 U (mc 4 U I)) ?_
 refine RK E<|cb U (aN fun D=>?_) (aO fun D=>?_)
 ·refine WS fun _ AA=>rP 1 [] I ?_
  refine RK AA<|ak<|Q1 hQ U U U ?_
  (rw [gY rfl B]; (rw [eY (.inr (.inr D))]; done))
 refine WK R<|ag fun _ h=>WS fun _ V=>dZ 2 [] (mc 4 U I) U<|rS (SX (eQ (r:= .bool true) U U U kf) U U)<|RK V<|aL U<|ag fun _ F=>WS fun _ G=>rP 3 [] (mc 1 U I) ?_
 refine cx (t:=74) U (fun H=>?_) (fun H=>?_)
 ·refine bp 13 U<|RK G<|bT U<|WK F<|WS fun _ Z=>rP 1 [] I ?_
  refine RK Z<|ak<|Q1 hQ U U U ?_
  (rw [gY rfl B]; (rw [gr (tT (by simpa using A) (by first|exact C|(simp only []; omega)) (by first|exact D|(simp only []; omega))) (fun q=>by rw [H] at q; exact Bool.noConfusion q.1)]; done))
 refine rP 7 [0,1] (mc 1 U (mc 4 U I)) ?_
 refine cx (t:=81) U (aO fun AB=>?_) (aN fun AB=>?_)
 ·refine bp 6 U<|RK G<|bT U<|WK F<|WS fun _ Y=>rP 1 [] I ?_
  refine RK Y<|ak<|Q1 hQ U U U ?_
  (rw [gY rfl B]; (rw [gr (tT (by simpa using A) (by first|exact C|(simp only []; omega)) (by first|exact D|(simp only []; omega))) (fun q=>AB ((Eg rfl).1 q.2).1)]; done))
 refine rP 6 [0,1] (mc 1 U (mc 4 U I)) ?_
 refine RK G<|cb U (aN fun J=>?_) (aO fun J=>?_)
 ·refine WS fun _ W=>rP 1 [] I ?_
  refine RK W<|ak<|Q1 hQ U U U ?_
  (rw [gY rfl B]; (rw [lY (tT (by simpa using A) (by first|exact C|(simp only []; omega)) (by first|exact D|(simp only []; omega))) H ((Eg rfl).2 ⟨AB,J⟩)]; done))
 refine WK F<|WS fun _ X=>rP 1 [] I ?_
 refine RK X<|ak<|Q1 hQ U U U ?_
 (rw [gY rfl B]; (rw [gr (tT (by simpa using A) (by first|exact C|(simp only []; omega)) (by first|exact D|(simp only []; omega))) (fun q=>J ((Eg rfl).1 q.2).2)]; done))
theorem Dk (j:cw) (kA:OA) (kC:Nat) (az:List RA) (cA:OA) (cC:Nat) (bA:OA) (bC:Nat) (slA:OA) (slC:Nat) (drA:OA) (drC:Nat) (ha:List bZ) (heA:OA) (heC:Nat) (faA:OA) (faC:Nat) (prA:OA) (prC:Nat) (f:bg) (d:aq) (sgA:OA) (sgC:Nat) (hin:er j az ha) (hk:1≤f.Kind∧f.Kind≤3) (hw:0≤f.g_∧f.g_≤1000000) (hsl:d.aV.aa.length≤1000000):
 dF Tryz.prog 73 [(vA (eX.cells (lM j kA kC cA cC bA bC slA slC drA drC heA heC faA faC prA prC))),(vA (bg.cells f)),(vA (aR.cells (aR.mk d.Out d.cD d.Time (g8 d.aV sgA sgC))))] ((o_ j kA az cA bA slA drA ha heA faA prA)++[(rd sgA d.aV.aa.length 2 (d.aV.aa.map aG.cells))]) (Value.int .u8 (gd j.Race.au f d)):=by
 obtain ⟨fk,fw,ff,ft⟩:=f
 have A:fk=1∨fk=2∨fk=3:=by have:=hk; simp only at this; omega
 rcases A with rfl|rfl|rfl
 ·exact Gx j kA kC az cA cC bA bC slA slC drA drC ha heA heC faA faC prA prC fw ff ft d sgA sgC hin hw hsl
 ·exact Ho j kA kC az cA cC bA bC slA slC drA drC ha heA heC faA faC prA prC fw ff ft d sgA sgC hin hw hsl
 ·exact GY j kA kC az cA cC bA bC slA slC drA drC ha heA heC faA faC prA prC fw ff ft d sgA sgC hin hw hsl
end
section
open Go.RowKit
theorem Pu (j:cw) (kA:OA) (kC:Nat) (az:List RA) (cA:OA) (cC:Nat) (bA:OA) (bC:Nat) (slA:OA) (slC:Nat) (drA:OA) (drC:Nat) (ha:List bZ) (heA:OA) (heC:Nat) (faA:OA) (faC:Nat) (prA:OA) (prC:Nat) (P:Nat→Prop) (mA:OA) (mC:Nat) (hin:er j az ha) (hok:dT j=0):
 lO Tryz.prog 75 [(vA (eX.cells (lM j kA kC cA cC bA bC slA slC drA drC heA heC faA faC prA prC))),(vS mA ((iu j.aM.length P).length) mC)] ((o_ j kA az cA bA slA drA ha heA faA prA)++[(rd mA ((iu j.aM.length P).length) 1 ((iu j.aM.length P).map im))]) (fun (x:(List RA)×(OA)×Nat)=>(vS x.2.1 ((eT j (nD j.aM P)).length) x.2.2)) (fun (x:(List RA)×(OA)×Nat)=>x.1.length=(eT j (nD j.aM P)).length) (fun (x:(List RA)×(OA)×Nat)=>[(own x.2.1 x.2.2 29 1 (List.zipWith tU (eT j (nD j.aM P)) x.1)),(bQ (bK Bn (eT j (nD j.aM P)) x.1))]):=by
 have A5:=hin.race
 have Eq:=hin.race.line
 have Iv:=hin.race.fE
 have I2:=hin.race.has
 have H5:=hin.race.fM
 have GE:=hin.nf
 have H1:=hin.np
 have A3:=(dj hok).1
 have EQ:=(dj hok).2
 have EZ:=(dy A3).1
 have R:=(dy A3).2
 have Do:=(dw EZ).2.head
 unfold eJ at Do
 have GT:(eT j (nD j.aM P)).length=j.Race.aI.length:=by unfold eT; rw [List.length_map]
 have J2:(iu j.aM.length P).length=j.aM.length:=lk
 have J4:=R.num
 have J3:=R.nh
 refine dK kr Tryz.func75 U U fun w0 Q hQ hN=>?_
 try dsimp only
 refine WS fun _ Ck=>dV U fun b2=>bp 1 U<|RK Ck<|WS fun _ Cp=>bp 1 U<|RK Cp<|ag fun _ Cx=>WS fun _ C0=>rP 1 [] I ?_
 refine RK C0<|ax<|fu 29 1<|lx ?_
 have A:(0≤j.Race.aI.length)∧(([]:List RA).length=0):=by exact ⟨Nat.zero_le _,rfl⟩
 refine bP (ι:={z:Nat×(List RA)×(OA)×Nat // (z.1≤j.Race.aI.length)∧(z.2.1.length=z.1)}) [1,2] [2,3,4,5,6,7,8,9,10,11,12,13] U U (fun z=>[(5,(vS z.1.2.2.1 ((List.take z.1.1 (eT j (nD j.aM P))).length) z.1.2.2.2)),(6,(vI (z.1.1:Int)))]) (fun z=>[(bQ (bK Bn (List.take z.1.1 (eT j (nD j.aM P))) z.1.2.1)),(own z.1.2.2.1 z.1.2.2.2 29 1 (List.zipWith tU (List.take z.1.1 (eT j (nD j.aM P))) z.1.2.1))]) (fun _=>rfl) (fun _=>rfl) (fun z=>j.Race.aI.length-z.1.1) ⟨(0,([]:List RA),none,0),A⟩ (bf U) (aK [2,3,4,5,6,7,8,9,10,11,12,13,0,1]) ?_
 clear A
 rintro ⟨⟨h,gz,a,c⟩,⟨M,N⟩⟩ J6 Ci
 try dsimp only at M N
 try dsimp only
 refine ag fun _ C1=>WS fun _ C2=>rP 6 [] (mc 0 U I) ?_
 refine RK C2<|bO U (aO fun h9=>?_) (aN fun h9=>?_)
 ·refine bM<|ab<|ab<|aF<|KK Cx<|ag fun _ o=>?_
  have FS:(List.take h (eT j (nD j.aM P)))=(eT j (nD j.aM P)):=List.take_of_length_le om
  rw [FS]
  have Di:gz.length=(eT j (nD j.aM P)).length:=by omega
  refine ao<|rP 2 [] I ?_
  refine RK o<|ak ?_
  refine LX hQ (gz,a,c) [13,12] [] I U (by show List.all _ _=true; simp only [fX,List.all_nil,qd,Bool.and_true]; rfl) U U ?_
  exact Di
 refine WK C1<|ag fun _ T=>ax<|ag fun _ AA=>?_
 obtain ⟨ht,D⟩:=aA j.Race.aI h om
 obtain ⟨B,C⟩:=aA ha h om
 have A2:(List.zipWith cM j.Race.aI ha)[h]? =some (cM ht B):=cG D C
 have A1:=A5.fJ _ _ _ D C
 have Go:=A1.lQ
 have Hi:=(R.fJ ht (aP D)).1
 have J:(eT j (nD j.aM P))[h]? =some (kU (ow j.Race.au j.aM P ht) ht.length):=Hk D
 have S:gz.length=(List.take h (eT j (nD j.aM P))).length:=by rw [List.length_take]; omega
 have Fd:(List.take (h+1) (eT j (nD j.aM P))).length=h+1:=by rw [List.length_take]; omega
 refine ao<|bp 1 U<|RK AA<|ag fun _ V=>WS fun _ W=>rP 1 [] I ?_
 refine RK W<|ax<|fu 3 1 ?_
 have A:(0≤ht.length):=by exact Nat.zero_le _
 refine bP (ι:={z:Nat×(OA)×Nat // (z.1≤ht.length)}) [1,2,5,6] [1,2,3,4,5,6,7,8,9,10,11,12,13,14] U U (fun z=>[(7,(vS z.1.2.1 ((kU (ow j.Race.au j.aM P ht) z.1.1).length) z.1.2.2)),(8,(vI (z.1.1:Int)))]) (fun z=>[(own z.1.2.1 z.1.2.2 3 1 ((kU (ow j.Race.au j.aM P ht) z.1.1).map iC))]) (fun _=>rfl) (fun _=>rfl) (fun z=>ht.length-z.1.1) ⟨(0,none,0),A⟩ (bf U) (aK [1,2,3,4,5,6,7,8,9,10,11,12,13,14,0]) ?_
 clear A
 rintro ⟨⟨q,ua,uc⟩,O⟩ J14 H
 try dsimp only at O
 try dsimp only
 refine ag fun _ X=>WS fun _ Y=>rP 6 [] (mc 0 U I) ?_
 refine RK Y<|bO U (aO fun B3=>?_) (aN fun B3=>?_)
 ·refine bM<|ab<|ab<|aF<|KK V ?_
  obtain rfl:q=ht.length:=by omega
  refine ao<|rP 2 [] I ?_
  refine e_ (xs:=[.tmp 65]) (cs:=[(vS ua ((kU (ow j.Race.au j.aM P ht) ht.length).length) uc)]) U Gt SK U U U U (by simp [Value.cells]) U U fun IR=>?_
  refine cN (es2:=(List.zipWith tU (List.take (h+1) (eT j (nD j.aM P))) (gz++[(ua,uc)]))) (m':=(List.take (h+1) (eT j (nD j.aM P))).length) 14 rfl rfl rfl Rl rfl rfl (mP S).symm (bo (es:=List.zipWith tU [(kU (ow j.Race.au j.aM P ht) ht.length)] [(ua,uc)]) 0 rfl rfl (by intro e he; simp [tU] at he; subst he; rfl) rfl) (FB _ _) om (by simp only [maxLen]; omega) (by rw [ql J]; exact zC S.symm) (by exact mP (by rw [Fd]; simp; omega)) rfl fun A9 Bt=>?_
  try dsimp only
  refine bp 1 U<|aC<|aJ<|KK T<|ao<|rP 3 [] I ?_
  refine aC ?_
  refine AJ (Y':=bK Bn (List.take (h+1) (eT j (nD j.aM P))) (gz++[(ua,uc)])) 13 15 U U (by rw [ql J]; exact w7 S.symm U) ?_
  have AO:(vI (((h+1):Nat):Int))=(vI ((h:Int)+1)):=by exact cI om
  refine a_ (Ci ⟨((h+1),(gz++[(ua,uc)]),A9,Bt),⟨om,by rw [List.length_append]; simp; omega⟩⟩ _ _ _ U os (cz 3<|aU U AO<|cR.nil _) (aK [2,3,4,5,6,7,8,9,10,11,12,13,0,14]))
 refine WK X<|ag fun _ AB=>ax<|ag fun _ Z=>?_
 obtain ⟨d,hd⟩:=aA ht q om
 obtain ⟨da,Ac⟩:=aA B.2 q om
 have C3:(List.zipWith aq.cells ht B.2)[q]? =some (aq.cells d da):=cG hd Ac
 have J5:=A1.sig d (aP hd)
 refine ao<|bp 1 U<|RK Z<|ag fun _ b=>WS fun _ g=>rP 1 [] I ?_
 refine RK g<|ax ?_
 have A:(0≤j.aM.length):=by exact Nat.zero_le _
 have p:(vB (mj j.Race.au j.aM P d 0))=(vB false):=by exact cB DM
 refine bP (ι:={z:Nat // (z≤j.aM.length)}) [1,2,5,6,7,8] [0,1,2,3,4,5,6,7,8,9,10,11,12,13,14] U U (fun z=>[(9,(vB (mj j.Race.au j.aM P d z.1))),(10,(vI (z.1:Int)))]) (fun z=>[]) (fun _=>rfl) (fun _=>rfl) (fun z=>j.aM.length-z.1) ⟨0,A⟩ (aU U p<|bf U) (aK [0,1,2,3,4,5,6,7,8,9,10,11,12,13,14]) ?_
 clear A
 rintro ⟨k,A7⟩ J23 E
 try dsimp only
 refine ag fun _ i=>WS fun _ l=>rP 4 [] I ?_
 refine RK l<|bO U (aO fun B9=>?_) (aN fun B9=>?_)
 ·refine bM<|ab<|ab<|aF<|KK b<|ag fun _ m=>?_
  have A4:k=j.aM.length:=by omega
  refine ao<|rP 1 [] I ?_
  refine RK m<|bO U (fun L=>?_) (fun L=>?_)
  ·refine cg<|aJ<|KK AB<|ao<|rP 3 [] I ?_
   refine aC ?_
   rw [show (kU (ow j.Race.au j.aM P ht) q)=(kU (ow j.Race.au j.aM P ht) (q+1)) from (zz (by rw [Dh hd,← zT (Nat.le_of_eq A4.symm)]; simpa using L)).symm]
   have AM:(vI (((q+1):Nat):Int))=(vI ((q:Int)+1)):=by exact cI om
   refine a_ (H ⟨((q+1),ua,uc),(by first|omega|(simp only []; omega))⟩ _ _ _ U os (cz 5<|aU U AM<|cR.nil _) (aK [0,1,2,3,4,5,6,7,8,9,10,11,12,13,14]))
  refine ao<|rP 2 [] I ?_
  refine e_ (xs:=[.tmp 61]) (cs:=[(vI (q:Int))]) U dI kS U U U U (by simp [Value.cells]) U U fun IO=>?_
  refine cN (es2:=(List.map iC (kU (ow j.Race.au j.aM P ht) (q+1)))) (m':=(kU (ow j.Race.au j.aM P ht) (q+1)).length) 15 U U U pq U U sm (bo (es:=List.map iC [(q:Int)]) 0 U U (by simp [bX]) U) (jM _) (by have:=nk (P:=(ow j.Race.au j.aM P ht)) (n:=q); omega) (by have:=nk (P:=(ow j.Race.au j.aM P ht)) (n:=q); simp only [maxLen]; omega) (by rw [vN (by rw [Dh hd,← zT (Nat.le_of_eq A4.symm)]; exact L)]; simp) sm U fun A8 Be=>?_
  try dsimp only
  refine bp 1 U<|aC<|aJ<|KK AB<|ao<|rP 3 [] I ?_
  refine aC ?_
  have AC:(vI (((q+1):Nat):Int))=(vI ((q:Int)+1)):=by exact cI om
  refine a_ (H ⟨((q+1),A8,Be),(by first|omega|(simp only []; omega))⟩ _ _ _ U os (cz 5<|aU U AC<|cR.nil _) (aK [1,2,3,4,5,6,7,8,9,10,11,12,13,14,15]))
 refine WK i<|ag fun _ F=>ax ?_
 obtain ⟨f,hf⟩: ∃ f,j.aM[k]? =some f:=⟨j.aM[k]'om,f_ _⟩
 have As:=bH bg.cells hf
 have A0:=EQ.fault f (aP hf)
 have In:0≤f.g_∧f.g_≤1000000:=by have h2:=A0.2.2; split at h2<;>omega
 refine cS cj 27 kr<|dP 2 [] I ?_
 refine ic (t:=34) U (fun G=>?_) (fun G=>?_)
 ·refine kK 4 U<|kK 21 U<|cu<|aC<|aJ<|KK F<|ao<|rP 3 [] I ?_
  refine aC ?_
  have r:(vB (mj j.Race.au j.aM P d (k+1)))=(vB true):=by exact cB (by exact (UN hf G).symm)
  have s:(vI (((k+1):Nat):Int))=(vI ((k:Int)+1)):=by exact cI om
  refine a_ (E ⟨(k+1),(by first|omega|(simp only []; omega))⟩ _ _ _ U os (cz 6<|aU U r<|aU U s<|cR.nil _) (aK [0,1,2,3,4,5,6,7,8,9,10,11,12,13,14]))
 refine dP 2 [] I ?_
 obtain ⟨x,hx⟩:=aA (iu j.aM.length P) k om
 have Fn:=bH im hx
 refine dS (IA k U (av 11 U) sU dc om om)<|dS (gD k 0 (vB x) U bU (av 11 U) Fn U dc U) ?_
 have A6:=(En hx).2
 refine dP 1 [] I ?_
 refine jl (t:=39) U (fun K=>?_) (fun K=>?_)
 ·refine kK 20 U<|cu<|aC<|aJ<|KK F<|ao<|rP 3 [] I ?_
  refine aC ?_
  have w:(vB (mj j.Race.au j.aM P d (k+1)))=(vB false):=by exact cB (by exact (Ui hf (by simpa using G) A6 (by simpa using K)).symm)
  have y:(vI (((k+1):Nat):Int))=(vI ((k:Int)+1)):=by exact cI om
  refine a_ (E ⟨(k+1),(by first|omega|(simp only []; omega))⟩ _ _ _ U os (cz 6<|aU U w<|aU U y<|cR.nil _) (aK [0,1,2,3,4,5,6,7,8,9,10,11,12,13,14]))
 refine kp 4 [] (mc 0 U I) U<|dS (IA k U (av 9 U) yf dc om om)<|dS (jK k 0 (bg.cells f) U bU (av 9 U) As U dc U U)<|kp 4 [] (mc 0 U I) U<|dS (IA h U (av 7 U) kF dc om om)<|dS (gD h 0 (vS B.1.1 ht.length B.1.2) U bU (av 7 U) A2 U dc U)<|kK 1 U<|dS (IA q U (show g9 _ (rd B.1.1 ht.length 7 (List.zipWith aq.cells ht B.2)).holds from (cd 8 U (bB D C cr))) ov dc om om)<|dS (jK q 0 (aR.cells (aR.mk d.Out d.cD d.Time (de.mk d.aV.Start d.aV.gL (bj.mk da.1 d.aV.aa.length da.2)))) U bU (show g9 _ (rd B.1.1 ht.length 7 (List.zipWith aq.cells ht B.2)).holds from (cd 8 U (bB D C cr))) C3 U dc U U)<|dS (CL (Dk j kA kC az cA cC bA bC slA slC drA drC ha heA heC faA faC prA prC f d da.1 da.2 hin (by exact A0.1) asm asm) (mq [1,2,3,4,5,6,7,8,9,10]<|aw (show g9 _ (rd da.1 d.aV.aa.length 2 (d.aV.aa.map aG.cells)).holds from (cd 8 U (bB D C (dH _ (bB hd Ac (by simp [aq.jW]))))))<|aS) U)<|dS (BI U Fy)<|kK 3 U<|cu<|aC<|aJ<|KK F<|ao<|rP 3 [] I ?_
 refine aC ?_
 have u:(vB (mj j.Race.au j.aM P d (k+1)))=(vB (decide (0<(gd j.Race.au f d)))):=by exact cB (by exact (UU hf (by simpa using G) A6 K).symm)
 have v:(vI (((k+1):Nat):Int))=(vI ((k:Int)+1)):=by exact cI om
 refine a_ (E ⟨(k+1),(by first|omega|(simp only []; omega))⟩ _ _ _ U os (cz 6<|aU U u<|aU U v<|cR.nil _) (aK [0,1,2,3,4,5,6,7,8,9,10,11,12,13,14]))
end
section
open Go.RowKit
theorem Nv (k:Nat) (j:cw) (kA:OA) (kC:Nat) (az:List RA) (cA:OA) (cC:Nat) (bA:OA) (bC:Nat) (slA:OA) (slC:Nat) (drA:OA) (drC:Nat) (ha:List bZ) (heA:OA) (heC:Nat) (faA:OA) (faC:Nat) (prA:OA) (prC:Nat) (hin:er j az ha) (hok:dT j=0) (hk:k<j.aB.length):
 dF Tryz.prog 74 [(vA (eX.cells (lM j kA kC cA cC bA bC slA slC drA drC heA heC faA faC prA prC))),(vI (k:Int))] (o_ j kA az cA bA slA drA ha heA faA prA) (Value.int .u8 (tf j (k:Int))):=by
 have S:=hin.race
 have g:=hin.race.line
 have v:=hin.race.fE
 have w:=hin.race.has
 have u:=hin.race.fM
 have o:=hin.nf
 have t:=hin.np
 have F:=(dj hok).1
 have R:=(dj hok).2
 have f:=(dy F).1
 have n:=(dy F).2
 have e:=(dw f).2.head
 unfold eJ at e
 refine bG kr Tryz.func74 U U fun w0 Q hQ hN=>?_
 try dsimp only
 refine WS fun _ V=>dV U fun b2=>bp 1 U<|RK V<|WS fun _ W=>rP 3 [] (mc 0 U I) ?_
 obtain ⟨p,hp⟩:=aA j.aB k om
 have h:=bH bR.cells hp
 refine rS (IA k U (av 10 U) wK dc om om)<|rS (jK k 0 (bR.cells p) U bU (av 10 U) h U dc U U)<|AL U Ct fun b4=>e7 U Bx U<|RK W<|ag fun _ X=>?_
 have E:=R.hZ _ p hp
 have AM:=E.fJ
 have m:=E.kX
 simp only [qN] at m
 have AC:=E.fault
 have x:=R.min_
 have G:=F2 (i:=(k:Int)) hok om (by simpa using hp)
 refine dp cj [20,21] [] [] [0,1,2,3,4,5,6,7,8,9,10,11] [] U U U U U<|eS U (FA 0 U eC U)<|eS U (FA 0 U eC U)<|eS U (LP (bW.cells (jy j.Race.au kA kC cA cC bA bC)) 1 U bU U U U)<|eS U (FA 0 U eC U)<|eS U (FA 10 U eC U)<|eS U (L1 (vS heA j.Race.aI.length heC) 1 U bU U U)<|eS U (FA 2 U eC U)<|eS U (L1 (vI p.ib) 0 U bU U U) ?_
 obtain ⟨ht,C⟩:=aA j.Race.aI ((p.ib).toNat) om
 obtain ⟨A,B⟩:=aA ha ((p.ib).toNat) om
 have P:(List.zipWith cM j.Race.aI ha)[(p.ib).toNat]? =some (cM ht A):=cG C B
 refine eS U (IA ((p.ib).toNat) U (av 8 U) kF dc om om)<|eS U (gD ((p.ib).toNat) 0 (vS A.1.1 ht.length A.1.2) U bU (av 8 U) P U dc U) ?_
 have O:=S.fJ _ _ _ C B
 have q:=O.lQ
 have s:=(n.fJ ht (aP C)).1
 refine eS U (FA 1 U eC U)<|eS U (L1 (vI p.gH) 0 U bU U U) ?_
 obtain ⟨d,hd⟩:=aA ht ((p.gH).toNat) om
 obtain ⟨da,N⟩:=aA A.2 ((p.gH).toNat) om
 have c:(List.zipWith aq.cells ht A.2)[(p.gH).toNat]? =some (aq.cells d da):=cG hd N
 refine eS U (IA ((p.gH).toNat) U (show g9 _ (rd A.1.1 ht.length 7 (List.zipWith aq.cells ht A.2)).holds from (cd 9 U (bB C B cr))) ov dc om om) ?_
 have D:=mH (j:=j) (p:=p) C hd
 have Ac:=O.sig d (aP hd)
 refine eS U (nX ((((p.gH).toNat)*7)+4) U (show g9 _ (rd A.1.1 ht.length 7 (List.zipWith aq.cells ht A.2)).holds from (cd 9 U (bB C B cr))) (Nat.mul_pos om dc) eC U)<|eS U (jK ((p.gH).toNat) 4 (de.cells (de.mk d.aV.Start d.aV.gL (bj.mk da.1 d.aV.aa.length da.2))) U bU (show g9 _ (rd A.1.1 ht.length 7 (List.zipWith aq.cells ht A.2)).holds from (cd 9 U (bB C B cr))) c U dc U U)<|eS U (FA 0 U eC U)<|eS U (FA 0 U eC U)<|eS U (FA 4 U eC U)<|eS U (L1 (vI j.Race.au.bV) 1 U bU U U)<|eS U (CL (pB j.Race.au kA kC az cA cC bA bC d.aV da.1 da.2 j.Race.au.bV asm asm) (mq [2,3,4,5]<|aw (show g9 _ (rd da.1 d.aV.aa.length 2 (d.aV.aa.map aG.cells)).holds from (cd 9 U (bB C B (dH _ (bB hd N (by simp [aq.jW]))))))<|aS) U)<|ed U<|cf U fun T6 Z=>AL U uZ fun b7=>aC (Z _ _ (aK [1,2,3,4,5,6,7,8,9,10,11,12]) ?_)
 refine cf U fun T8 a=>e7 U qG U<|aC (a _ _ (aK [1,2,3,4,5,6,7,8,9,10,11,12]) ?_)
 refine e9 U<|KK X<|ag fun _ Y=>ag fun _ H=>?_
 have z:=Gd (l:=j.Race.au) (r:=d.aV) (b:=j.Race.au.bV) om
 obtain ⟨_,_,_,AO⟩:=E.lR
 have y:=My (dy F).2 E.lR
 refine ao<|dZ 4 [0,1] (mc 1 U (mc 2 U I)) U<|rS (BI U (sT ⟨om,om⟩))<|bp 2 U<|RK H<|ax<|WS fun _ AB=>rP 5 [] (mc 0 U I) ?_
 refine RK AB<|cb U (aN fun T=>?_) (aO fun T=>?_)
 ·refine WS fun _ J=>rP 1 [] I ?_
  refine RK J<|ak<|Q1 hQ U U U ?_
  (rw [G.1,Iz D om]; done)
 refine WS fun _ K=>rP 5 [] (mc 0 U I) ?_
 refine RK K<|cb U (aN fun AA=>?_) (aO fun AA=>?_)
 ·refine WS fun _ L=>rP 1 [] I ?_
  refine RK L<|ak<|Q1 hQ U U U ?_
  (rw [G.1,Lf D om om]; done)
 refine cg<|aJ<|KK Y<|WS fun _ M=>rP 1 [] I ?_
 refine RK M<|ak<|Q1 hQ U U U ?_
 (rw [G.1,IY D om om]; done)
end
section
open Go.RowKit
theorem QC (la:List Int) (laA:OA) (laC:Nat) (n:Int) (hlen:la.length≤1000000):
 dF Tryz.prog 54 [(vS laA la.length laC),(vI n)] [(rd laA la.length 1 (la.map iC))] (vB (decide (n∈la))):=by
 refine bG kr Tryz.func54 U U fun S Q hQ hN=>?_
 try dsimp only
 refine WS fun _ H=>bp 1 U<|RK H<|ag fun _ AA=>WS fun _ J=>rP 1 [] I ?_
 refine RK J<|ax ?_
 have B:(0≤la.length)∧(n ∉ la.take 0):=by exact ⟨Nat.zero_le _,sm⟩
 refine bP (ι:={z:Nat // (z≤la.length)∧(n ∉ la.take z)}) [0,1] [0] U U (fun z=>[(5,(vI (z.1:Int)))]) (fun z=>[]) (fun _=>rfl) (fun _=>rfl) (fun z=>la.length-z.1) ⟨0,B⟩ (bf U) (aK [0]) ?_
 clear B
 rintro ⟨i,⟨O,A⟩⟩ J4 G
 try dsimp only
 refine ag fun _ K=>WS fun _ L=>rP 4 [] I ?_
 refine RK L<|bO U (aO fun R=>?_) (aN fun R=>?_)
 ·refine bM<|ab<|ab<|aF<|KK AA<|WS fun _ E=>rP 1 [] I ?_
  refine RK E<|ak<|Q1 hQ U U U ?_
  exact cB (br (by rw [List.take_of_length_le om] at A; exact A)).symm
 refine WK K<|ag fun _ M=>ax<|WS fun _ N=>rP 2 [] I ?_
 obtain ⟨x,hx⟩:=aA la i om
 have P:=bH iC hx
 refine rS (IA i U (av 0 U) dI dc om om)<|rS (gD i 0 (vI x) U bU (av 0 U) P U dc U)<|rP 2 [] I ?_
 refine RK N<|cb U (aN fun C=>?_) (aO fun C=>?_)
 ·refine WS fun _ D=>rP 1 [] I ?_
  refine RK D<|ak<|Q1 hQ U U U ?_
  exact cB (dC (by rw [← C]; exact aP hx)).symm
 refine cg<|aJ<|KK M<|ao<|rP 3 [] I ?_
 refine aC ?_
 have F:(vI (((i+1):Nat):Int))=(vI ((i:Int)+1)):=by exact cI om
 refine a_ (G ⟨(i+1),⟨om,fun q=>by rw [xL hx] at q; rcases gR.1 q with q|q; exact A q; exact C (cH.1 q).symm⟩⟩ _ _ _ rfl os (cR.cons rfl<|cR.cons rfl<|aU rfl F<|cR.nil _) (aK [0]))
theorem sM (j:cw) (kA:OA) (kC:Nat) (az:List RA) (cA:OA) (cC:Nat) (bA:OA) (bC:Nat) (slA:OA) (slC:Nat) (drA:OA) (drC:Nat) (ha:List bZ) (heA:OA) (heC:Nat) (faA:OA) (faC:Nat) (prA:OA) (prC:Nat) (hin:er j az ha) (hok:dT j=0):
 lO Tryz.prog 44 [(vA (eX.cells (lM j kA kC cA cC bA bC slA slC drA drC heA heC faA faC prA prC)))] (o_ j kA az cA bA slA drA ha heA faA prA) (fun (x:(OA)×Nat)=>(vS x.1 ((lj j).length) x.2)) (fun (x:(OA)×Nat)=>True) (fun (x:(OA)×Nat)=>[(own x.1 x.2 4 1 ((lj j).map im))]):=by
 have Z:=hin.race
 have AM:=hin.race.line
 have A8:=hin.race.fE
 have A9:=hin.race.has
 have A4:=hin.race.fM
 have A0:=hin.nf
 have A3:=hin.np
 have Y:=(dj hok).1
 have L:=(dj hok).2
 have y:=(dy Y).1
 have As:=(dy Y).2
 have w:=(dw y).2.head
 unfold eJ at w
 have Be:=L.np
 refine dK kr Tryz.func44 U U fun w0 Q hQ hN=>?_
 try dsimp only
 refine WS fun _ g=>dV U fun b2=>bp 1 U<|RK g<|WS fun _ h=>rP 3 [] (mc 0 U I) ?_
 refine s7 (n:=j.aB.length) (es:=(List.map im (List.replicate j.aB.length false))) U U U Jy om om (by simp only [maxLen]; omega) (by rw [List.map_replicate]; rfl) U fun b=>?_
 try dsimp only
 refine bp 1 U<|RK h<|ag fun _ m=>WS fun _ q=>rP 1 [] I ?_
 refine RK q<|ax ?_
 have G:(0≤j.aB.length)∧((List.replicate j.aB.length false).length=j.aB.length)∧((List.replicate j.aB.length false)=AT j 0):=by exact ⟨Nat.zero_le _,sm,Gh⟩
 refine bP (ι:={z:Nat×(List Bool) // (z.1≤j.aB.length)∧(z.2.length=j.aB.length)∧(z.2=AT j z.1)}) [1,3] [1,2,3,4,5,6,7,8,9,10,11] U U (fun z=>[(4,(vI (z.1.1:Int)))]) (fun z=>[(own (some ⟨b,0,none⟩) j.aB.length 4 1 (z.1.2.map im))]) (fun _=>rfl) (fun _=>rfl) (fun z=>j.aB.length-z.1.1) ⟨(0,(List.replicate j.aB.length false)),G⟩ (bf U) (aK [1,2,3,4,5,6,7,8,9,10,11,0]) ?_
 clear G
 rintro ⟨⟨i,Bq9⟩,⟨M,E,A⟩⟩ J7 O
 try dsimp only at M E A
 try dsimp only
 refine ag fun _ r=>WS fun _ s=>rP 4 [] I ?_
 refine RK s<|bO U (aO fun c=>?_) (aN fun c=>?_)
 ·refine bM<|ab<|ab<|aF<|KK m<|ag fun _ R=>?_
  obtain rfl:i=j.aB.length:=by omega
  have e:Bq9=lj j:=A.trans (Js (Nat.le_refl _))
  subst e
  refine ao<|rP 2 [] I ?_
  refine RK R<|ak ?_
  refine LX hQ ((some ⟨b,0,none⟩),j.aB.length) [11] [] I U U U ?_ ?_
  ·first|rfl|(rw [ry]; rfl)
  ·trivial
 refine WK r<|ag fun _ H=>ax<|WS fun _ P=>rP 3 [] (mc 0 U I) ?_
 obtain ⟨p,hp⟩:=aA j.aB i om
 have AO:=bH bR.cells hp
 refine rS (IA i U (av 10 U) wK dc om om)<|rS (jK i 0 (bR.cells p) U bU (av 10 U) AO U dc U U)<|AL U Ct fun A5=>e7 U Bx U<|RK P<|cS cj 29 kr ?_
 have N:=L.hZ _ p hp
 have B3:=N.fJ
 have Ac:=N.kX
 simp only [qN] at Ac
 have Bt:=N.fault
 have AC:=(F2 (i:=(i:Int)) hok om (by simpa using hp)).1
 refine dP 7 [0,0,1] (mc 1 U (mc 0 U I)) ?_
 obtain ⟨f,hf⟩:=aA j.aM ((p.gj).toNat) om
 have v:=bH bg.cells hf
 refine dS (IA ((p.gj).toNat) U (av 10 U) yf dc om om)<|dS (jK ((p.gj).toNat) 0 (bg.cells f) U bU (av 10 U) v U dc U U)<|dP 5 [0,1] (mc 1 U (mc 0 U I)) ?_
 obtain ⟨ht,D⟩:=aA j.Race.aI ((p.ib).toNat) om
 obtain ⟨B,C⟩:=aA ha ((p.ib).toNat) om
 have X:(List.zipWith cM j.Race.aI ha)[(p.ib).toNat]? =some (cM ht B):=cG D C
 refine dS (IA ((p.ib).toNat) U (av 8 U) kF dc om om) ?_
 have W:=Z.fJ _ _ _ D C
 have A1:=W.lQ
 have A2:=(As.fJ ht (aP D)).1
 refine dS (gD ((p.ib).toNat) 0 (vS B.1.1 ht.length B.1.2) U bU (av 8 U) X U dc U)<|dP 2 [] (mc 0 U I) ?_
 obtain ⟨d,hd⟩:=aA ht ((p.gH).toNat) om
 obtain ⟨da,AA⟩:=aA B.2 ((p.gH).toNat) om
 have u:(List.zipWith aq.cells ht B.2)[(p.gH).toNat]? =some (aq.cells d da):=cG hd AA
 refine dS (IA ((p.gH).toNat) U (show g9 _ (rd B.1.1 ht.length 7 (List.zipWith aq.cells ht B.2)).holds from (cd 9 U (bB D C cr))) ov dc om om) ?_
 have AB:=mH (j:=j) (p:=p) D hd
 have B9:=W.sig d (aP hd)
 have V:=L.fault f (aP hf)
 have A7:0≤f.g_∧f.g_≤1000000:=by have h2:=V.2.2; split at h2<;>omega
 refine dS (jK ((p.gH).toNat) 0 (aR.cells (aR.mk d.Out d.cD d.Time (de.mk d.aV.Start d.aV.gL (bj.mk da.1 d.aV.aa.length da.2)))) U bU (show g9 _ (rd B.1.1 ht.length 7 (List.zipWith aq.cells ht B.2)).holds from (cd 9 U (bB D C cr))) u U dc U U)<|dS (CL (Dk j kA kC az cA cC bA bC slA slC drA drC ha heA heC faA faC prA prC f d da.1 da.2 hin (by exact V.1) asm asm) (mq [2,3,4,5,6,7,8,9,10,11]<|aw (show g9 _ (rd da.1 d.aV.aa.length 2 (d.aV.aa.map aG.cells)).holds from (cd 9 U (bB D C (dH _ (bB hd AA (by simp [aq.jW]))))))<|aS) U)<|dS (BI U Fy)<|dP 1 [] I ?_
 refine jl (t:=43) U (aO fun J=>?_) (aN fun J=>?_)
 ·refine dP 5 [] I ?_
  obtain ⟨bx,K⟩:=aA Bq9 i om
  have F:=bH im K
  refine dS (IA i U (ar (n:=j.aB.length) 12 U sq) sU dc om om) ?_
  refine cu<|eo (k:=i) (o:=0) (vs:=[(vB false)]) (es':=(List.map im (Bq9.set i false))) (C':=[_,_,_,_,_,_,_,_,_,_,_,_,(own (some ⟨b,0,none⟩) j.aB.length 4 1 (List.map im (Bq9.set i false)))]) 12 U U U TY U U U U F U dc (by exact (List.map_set (f:=im) (l:=Bq9) (i:=i) (a:=false)).symm) U<|aC<|aJ<|KK H<|ao<|rP 3 [] I ?_
  refine aC ?_
  have T:(vI (((i+1):Nat):Int))=(vI ((i:Int)+1)):=by exact cI om
  refine a_ (O ⟨((i+1),(Bq9.set i false)),⟨om,by rw [List.length_set]; exact E,by rw [A]; exact B5 hp (QQ AB hf J)⟩⟩ _ _ _ U os (cR.cons U<|cR.cons U<|aU U T<|cR.nil _) (aK [1,2,3,4,5,6,7,8,9,10,11,12]))
 refine kp 2 [] (mc 1 U I) U<|dS (CL (Nv i j kA kC az cA cC bA bC slA slC drA drC ha heA heC faA faC prA prC hin hok om) (aY [2,3,4,5,6,7,8,9,10,11]) U)<|dS (BI U s_)<|dP 1 [] I ?_
 obtain ⟨bx,K⟩:=aA Bq9 i om
 have F:=bH im K
 refine dS (IA i U (ar (n:=j.aB.length) 12 U sq) sU dc om om) ?_
 refine cu<|eo (k:=i) (o:=0) (vs:=[(vB (!(decide ((tf j (i:Int))=2))))]) (es':=(List.map im (Bq9.set i (!(decide ((tf j (i:Int))=2)))))) (C':=[_,_,_,_,_,_,_,_,_,_,_,_,(own (some ⟨b,0,none⟩) j.aB.length 4 1 (List.map im (Bq9.set i (!(decide ((tf j (i:Int))=2))))))]) 12 U U U TY U U U U F U dc (by exact (List.map_set (f:=im) (l:=Bq9) (i:=i) (a:=(!(decide ((tf j (i:Int))=2))))).symm) U<|aC<|aJ<|KK H<|ao<|rP 3 [] I ?_
 refine aC ?_
 have S:(vI (((i+1):Nat):Int))=(vI ((i:Int)+1)):=by exact cI om
 refine a_ (O ⟨((i+1),(Bq9.set i (!(decide ((tf j (i:Int))=2))))),⟨om,by rw [List.length_set]; exact E,by rw [A]; exact B5 hp (PD AB hf AC J)⟩⟩ _ _ _ U os (cR.cons U<|cR.cons U<|aU U S<|cR.nil _) (aK [1,2,3,4,5,6,7,8,9,10,11,12]))
end
section
open Go.RowKit
theorem Hx (j:cw) (kA:OA) (kC:Nat) (az:List RA) (cA:OA) (cC:Nat) (bA:OA) (bC:Nat) (slA:OA) (slC:Nat) (drA:OA) (drC:Nat) (ha:List bZ) (heA:OA) (heC:Nat) (faA:OA) (faC:Nat) (prA:OA) (prC:Nat) (hin:er j az ha):
 lO Tryz.prog 9 [(vA (eX.cells (lM j kA kC cA cC bA bC slA slC drA drC heA heC faA faC prA prC)))] (o_ j kA az cA bA slA drA ha heA faA prA) (fun (x:(OA)×Nat)=>(vT [(vS x.1 ((iy j).length) x.2),(vI (dT j))])) (fun (x:(OA)×Nat)=>True) (fun (x:(OA)×Nat)=>[(own x.1 x.2 3 1 ((iy j).map iC))]):=by
 have g:=hin.race
 have Z:=hin.race.line
 have o:=hin.race.fE
 have p:=hin.race.has
 have h:=hin.race.fM
 have d:=hin.nf
 have f:=hin.np
 refine dK kr Tryz.func9 U U fun u Q hQ hN=>?_
 try dsimp only
 refine WS fun _ T=>dV U fun t=>bp 2 U<|RK T<|ag fun _ AA=>WS fun _ V=>dZ 1 [] (mc 0 U I) U<|rS (CL (ni j kA kC az cA cC bA bC slA slC drA drC ha heA heC faA faC prA prC hin) (aY [1,2,3,4,5,6,7,8,9,10]) U)<|bp 1 U<|RK V<|WS fun _ W=>rP 2 [] I ?_
 refine RK W<|cb U (aX fun A=>?_) (aW fun A=>?_)
 ·refine WS fun _ X=>gn 3 1 ?_
  rw [show (own none 0 3 1 ([]:List (List Value)))=own none 0 3 1 ((iy j).map iC) from by rw [qt A]; rfl]
  refine rP 3 [] I ?_
  refine RK X<|ak ?_
  refine LX hQ (none,0) [0] [] I U U U ?_ ?_
  ·(rw [qt A]; rfl)
  ·trivial
 refine WK AA<|WS fun _ Y=>rP 1 [] (mc 0 U I) ?_
 refine cX (sM j kA kC az cA cC bA bC slA slC drA drC ha heA heC faA faC prA prC hin (by exact A)) (aY [1,2,3,4,5,6,7,8,9,10]) U fun s r=>?_
 obtain ⟨k,m⟩:=s
 try dsimp only
 refine rP 1 [] I ?_
 refine RK Y<|ag fun _ G=>?_
 have e:(lj j).length=j.aB.length:=ry
 have q:=(dj A).2.np
 refine ao<|bp 1 U<|RK G<|ag fun _ H=>WS fun _ AB=>rP 1 [] I ?_
 refine RK AB<|ax<|fu 3 1 ?_
 have B:(0≤j.aB.length):=by exact Nat.zero_le _
 refine bP (ι:={z:Nat×(OA)×Nat // (z.1≤j.aB.length)}) [1,5] [1,2,3,4,5,6,7,8,9,10,11,12] U U (fun z=>[(6,(vS z.1.2.1 ((ir j z.1.1).length) z.1.2.2)),(7,(vI (z.1.1:Int)))]) (fun z=>[(own z.1.2.1 z.1.2.2 3 1 ((ir j z.1.1).map iC))]) (fun _=>rfl) (fun _=>rfl) (fun z=>j.aB.length-z.1.1) ⟨(0,none,0),B⟩ (bf U) (aK [1,2,3,4,5,6,7,8,9,10,11,12,0]) ?_
 clear B
 rintro ⟨⟨i,a,c⟩,F⟩ J15 C
 try dsimp only at F
 try dsimp only
 refine ag fun _ J=>WS fun _ K=>rP 4 [] I ?_
 refine RK K<|bO U (aO fun S=>?_) (aN fun S=>?_)
 ·refine bM<|ab<|ab<|aF<|KK H<|ag fun _ M=>?_
  obtain rfl:i=j.aB.length:=by omega
  rw [show (ir j j.aB.length)=iy j from (qe A).symm]
  refine ao<|rP 3 [] I ?_
  refine RK M<|ak ?_
  refine LX hQ (a,c) [12] [] I U U U ?_ ?_
  ·(rw [A]; rfl)
  ·trivial
 refine WK J<|ag fun _ D=>ax<|WS fun _ L=>rP 2 [] I ?_
 obtain ⟨x,hx⟩:=aA (lj j) i om
 have b:=bH im hx
 refine rS (IA i U (ar (n:=(lj j).length) 0 U sm) sU dc om om)<|rS (gD i 0 (vB x) U bU (ar (n:=(lj j).length) 0 U sm) b U dc U)<|RK L<|bO U (fun E=>?_) (fun E=>?_)
 ·refine cg<|aJ<|KK D<|ao<|rP 3 [] I ?_
  refine aC ?_
  rw [show (ir j i)=(ir j (i+1)) from (zz ((rW hx).trans E)).symm]
  have O:(vI (((i+1):Nat):Int))=(vI ((i:Int)+1)):=by exact cI om
  refine a_ (C ⟨((i+1),a,c),(by first|omega|(simp only []; omega))⟩ _ _ _ U os (cz 3<|aU U O<|cR.nil _) (aK [0,1,2,3,4,5,6,7,8,9,10,11,12]))
 refine ao<|rP 2 [] I ?_
 refine e_ (xs:=[.tmp 26]) (cs:=[(vI (i:Int))]) U dI kS U U U U (by simp [Value.cells]) U U fun l=>?_
 refine cN (es2:=(List.map iC (ir j (i+1)))) (m':=(ir j (i+1)).length) 13 U U U pq U U sm (bo (es:=List.map iC [(i:Int)]) 0 U U (by simp [bX]) U) (jM _) (by have:=wR (j:=j) (i:=i); unfold jr at this; omega) (by have:=wR (j:=j) (i:=i); unfold jr at this; simp only [maxLen]; omega) (by rw [show (ir j (i+1))=(ir j i)++[(i:Int)] from vN ((rW hx).trans E)]; simp) sm U fun P R=>?_
 try dsimp only
 refine bp 1 U<|aC<|aJ<|KK D<|ao<|rP 3 [] I ?_
 refine aC ?_
 have N:(vI (((i+1):Nat):Int))=(vI ((i:Int)+1)):=by exact cI om
 refine a_ (C ⟨((i+1),P,R),(by first|omega|(simp only []; omega))⟩ _ _ _ U os (cz 3<|aU U N<|cR.nil _) (aK [1,2,3,4,5,6,7,8,9,10,11,12,13]))
theorem xp (j:cw) (kA:OA) (kC:Nat) (az:List RA) (cA:OA) (cC:Nat) (bA:OA) (bC:Nat) (slA:OA) (slC:Nat) (drA:OA) (drC:Nat) (ha:List bZ) (heA:OA) (heC:Nat) (faA:OA) (faC:Nat) (prA:OA) (prC:Nat) (hin:er j az ha) (hok:dT j=0):
 lO Tryz.prog 46 [(vA (eX.cells (lM j kA kC cA cC bA bC slA slC drA drC heA heC faA faC prA prC)))] (o_ j kA az cA bA slA drA ha heA faA prA) (fun (x:(List RA)×(OA)×Nat)=>(vS x.2.1 ((dU j).length) x.2.2)) (fun (x:(List RA)×(OA)×Nat)=>x.1.length=(dU j).length) (fun (x:(List RA)×(OA)×Nat)=>[(own x.2.1 x.2.2 29 1 (List.zipWith tU (dU j) x.1)),(bQ (bK Bn (dU j) x.1))]):=by
 have AC:=hin.race
 have q:=hin.race.line
 have AO:=hin.race.fE
 have Ac:=hin.race.has
 have AM:=hin.race.fM
 have v:=hin.nf
 have y:=hin.np
 have V:=(dj hok).1
 have AA:=(dj hok).2
 have m:=(dy V).1
 have A0:=(dy V).2
 have h:=(dw m).2.head
 unfold eJ at h
 have As:=AA.np
 have w:(lj j).length=j.aB.length:=ry
 refine dK kr Tryz.func46 U U fun w0 Q hQ hN=>?_
 try dsimp only
 refine WS fun _ c=>dV U fun b2=>bp 1 U<|RK c<|WS fun _ d=>rP 1 [] (mc 0 U I) ?_
 refine cX (sM j kA kC az cA cC bA bC slA slC drA drC ha heA heC faA faC prA prC hin hok) (aY [1,2,3,4,5,6,7,8,9,10]) U fun y4 A1=>?_
 obtain ⟨a6,c7⟩:=y4
 try dsimp only
 refine bp 1 U<|RK d<|WS fun _ e=>rP 3 [] (mc 1 U I) ?_
 refine s7 (n:=j.aM.length) (es:=(List.map im (List.replicate j.aM.length false))) U U U Jy om om (by simp only [maxLen]; omega) (by rw [List.map_replicate]; rfl) U fun H=>?_
 try dsimp only
 refine bp 1 U<|RK e<|ag fun _ J=>WS fun _ K=>rP 1 [] I ?_
 refine RK K<|ax ?_
 have C:(0≤j.aB.length)∧((List.replicate j.aM.length false).length=j.aM.length)∧((List.replicate j.aM.length false)=iu j.aM.length (qI j 0)):=by exact ⟨Nat.zero_le _,sm,CG.trans KH⟩
 refine bP (ι:={z:Nat×(List Bool) // (z.1≤j.aB.length)∧(z.2.length=j.aM.length)∧(z.2=iu j.aM.length (qI j z.1))}) [1,3,4] [1,2,3,4,5,6,7,8,9,10,11,12] U U (fun z=>[(5,(vI (z.1.1:Int)))]) (fun z=>[(own (some ⟨H,0,none⟩) j.aM.length 4 1 (z.1.2.map im))]) (fun _=>rfl) (fun _=>rfl) (fun z=>j.aB.length-z.1.1) ⟨(0,(List.replicate j.aM.length false)),C⟩ (bf U) (aK [1,2,3,4,5,6,7,8,9,10,11,12,0]) ?_
 clear C
 rintro ⟨⟨i,Bq9⟩,⟨G,B,A⟩⟩ J12 D
 try dsimp only at G B A
 try dsimp only
 refine ag fun _ L=>WS fun _ M=>rP 4 [] I ?_
 refine RK M<|bO U (aO fun b=>?_) (aN fun b=>?_)
 ·refine bM<|ab<|ab<|aF<|KK J<|ag fun _ O=>?_
  obtain rfl:i=j.aB.length:=by omega
  subst A
  rw [show Value.slice (some ⟨H,0,none⟩) j.aM.length j.aM.length=Value.slice (some ⟨H,0,none⟩) (iu j.aM.length (qI j j.aB.length)).length j.aM.length from by rw [lk]]
  refine ao<|rP 2 [] (mc 1 U I) ?_
  refine cX (Pu j kA kC az cA cC bA bC slA slC drA drC ha heA heC faA faC prA prC (qI j j.aB.length) (some ⟨H,0,none⟩) j.aM.length hin (by exact hok)) (mq [2,3,4,5,6,7,8,9,10,11]<|aw (ar (n:=(iu j.aM.length (qI j j.aB.length)).length) 12 U sm)<|aS) U fun u X=>?_
  obtain ⟨AB,Y,Z⟩:=u
  try dsimp only
  have T:=X
  have s:(eT j (nD j.aM (qI j j.aB.length)))=(dU j):=by exact MS hok
  rw [s] at T ⊢
  refine rP 1 [] I ?_
  refine RK O<|ak ?_
  refine LX hQ (AB,Y,Z) [0,1] [] I U (by show List.all _ _=true; simp only [fX,List.all_nil,qd,Bool.and_true]; rfl) U U ?_
  exact T
 refine WK L<|ag fun _ E=>ax<|ag fun _ N=>?_
 obtain ⟨p,hp⟩: ∃ p,j.aB[i]? =some p:=⟨j.aB[i]'om,f_ _⟩
 have W:=bH bR.cells hp
 have r:=(AA.hZ _ p hp).fault
 refine ao<|rP 2 [] I ?_
 obtain ⟨x,hx⟩:=aA (lj j) i om
 have t:=bH im hx
 refine rS (IA i U (ar (n:=(lj j).length) 0 U sm) sU dc om om)<|rS (gD i 0 (vB x) U bU (ar (n:=(lj j).length) 0 U sm) t U dc U)<|RK N<|bO U (fun F=>?_) (fun F=>?_)
 ·refine cg<|aJ<|KK E<|ao<|rP 3 [] I ?_
  refine aC ?_
  have R:(vI (((i+1):Nat):Int))=(vI ((i:Int)+1)):=by exact cI om
  refine a_ (D ⟨((i+1),Bq9),(by exact ⟨om,B,A.trans (PU hp ((An hx hp).symm.trans F))⟩)⟩ _ _ _ U os (cz 3<|aU U R<|cR.nil _) (aK [0,1,2,3,4,5,6,7,8,9,10,11,12]))
 refine ao<|rP 4 [] (mc 1 U I) ?_
 refine rS (IA i U (av 11 U) wK dc om om)<|rS (nX ((i*5)+3) U (av 11 U) (Nat.mul_pos om dc) eC U)<|rS (gD i 3 (vI p.gj) U bU (av 11 U) W U dc U) ?_
 obtain ⟨bx,g⟩:=aA Bq9 ((p.gj).toNat) om
 have S:=bH im g
 refine rS (IA ((p.gj).toNat) U (ar (n:=j.aM.length) 12 U sq) sU dc om om) ?_
 refine eo (k:=(p.gj).toNat) (o:=0) (vs:=[(vB true)]) (es':=(List.map im (Bq9.set ((p.gj).toNat) true))) (C':=[_,_,_,_,_,_,_,_,_,_,_,_,(own (some ⟨H,0,none⟩) j.aM.length 4 1 (List.map im (Bq9.set ((p.gj).toNat) true)))]) 12 U U U TY U U U U S U dc (by exact (List.map_set (f:=im) (l:=Bq9) (i:=(p.gj).toNat) (a:=true)).symm) U<|aC<|aJ<|KK E<|ao<|rP 3 [] I ?_
 refine aC ?_
 have P:(vI (((i+1):Nat):Int))=(vI ((i:Int)+1)):=by exact cI om
 refine a_ (D ⟨((i+1),(Bq9.set ((p.gj).toNat) true)),(by exact ⟨om,by rw [List.length_set]; exact B,by rw [A]; exact Nw hp ((An hx hp).symm.trans F) r.1 om⟩)⟩ _ _ _ U os (cz 3<|aU U P<|cR.nil _) (aK [0,1,2,3,4,5,6,7,8,9,10,11,12]))
theorem D6 (j:cw) (kA:OA) (kC:Nat) (az:List RA) (cA:OA) (cC:Nat) (bA:OA) (bC:Nat) (slA:OA) (slC:Nat) (drA:OA) (drC:Nat) (ha:List bZ) (heA:OA) (heC:Nat) (faA:OA) (faC:Nat) (prA:OA) (prC:Nat) (hin:er j az ha):
 lO Tryz.prog 11 [(vA (eX.cells (lM j kA kC cA cC bA bC slA slC drA drC heA heC faA faC prA prC)))] (o_ j kA az cA bA slA drA ha heA faA prA) (fun (x:(List RA)×(OA)×Nat)=>(vT [(vS x.2.1 ((ek j).length) x.2.2),(vI (dT j))])) (fun (x:(List RA)×(OA)×Nat)=>x.1.length=(ek j).length) (fun (x:(List RA)×(OA)×Nat)=>[(own x.2.1 x.2.2 29 1 (List.zipWith tU (ek j) x.1)),(bQ (bK Bn (ek j) x.1))]):=by
 have S:=hin.race
 have M:=hin.race.line
 have AA:=hin.race.fE
 have V:=hin.race.has
 have T:=hin.race.fM
 have P:=hin.nf
 have R:=hin.np
 refine dK kr Tryz.func11 U U fun Y Q hQ hN=>?_
 try dsimp only
 refine WS fun _ G=>dV U fun X=>bp 1 U<|bp 1 U<|RK G<|ag fun _ H=>WS fun _ AB=>dZ 1 [] (mc 0 U I) U<|rS (CL (ni j kA kC az cA cC bA bC slA slC drA drC ha heA heC faA faC prA prC hin) (aY [1,2,3,4,5,6,7,8,9,10]) U)<|bp 1 U<|RK AB<|WS fun _ J=>rP 2 [] I ?_
 refine RK J<|cb U (aX fun C=>?_) (aW fun C=>?_)
 ·refine WS fun _ K=>?_
  have B:(ek j)=[]:=oB C
  have A:([]:List RA).length=(ek j).length:=by rw [B]; rfl
  refine gn 29 1<|yl ?_
  rw [show (own none 0 29 1 ([]:List (List Value)))=own none 0 29 1 (List.zipWith tU (ek j) []) from by rw [B]; rfl,show bQ []=bQ (bK Bn (ek j) []) from by rw [B]; rfl]
  refine bp 2 U<|rP 1 [] I ?_
  refine RK K<|ak ?_
  refine LX hQ ([],none,0) [1,0] [] I U (by show List.all _ _=true; simp only [fX,List.all_nil,qd,Bool.and_true]; rfl) U ?_ ?_
  ·(rw [oB C]; rfl)
  ·exact A
 refine WK H<|WS fun _ L=>rP 1 [] (mc 0 U I) ?_
 refine cX (xp j kA kC az cA cC bA bC slA slC drA drC ha heA heC faA faC prA prC hin (by exact C)) (aY [1,2,3,4,5,6,7,8,9,10]) U fun W O=>?_
 obtain ⟨D,E,F⟩:=W
 try dsimp only
 have A:=O
 refine rP 1 [] I ?_
 have N:(dU j)=(ek j):=by exact (ks C).symm
 rw [N] at A ⊢
 refine rP 1 [] I ?_
 refine RK L<|ak ?_
 refine LX hQ (D,E,F) [0,1] [] I U (by show List.all _ _=true; simp only [fX,List.all_nil,qd,Bool.and_true]; rfl) U ?_ ?_
 ·(rw [C]; rfl)
 ·exact A
end
section
open Go.RowKit
theorem H6 (j:cw) (kA:OA) (kC:Nat) (az:List RA) (cA:OA) (cC:Nat) (bA:OA) (bC:Nat) (slA:OA) (slC:Nat) (drA:OA) (drC:Nat) (ha:List bZ) (heA:OA) (heC:Nat) (faA:OA) (faC:Nat) (prA:OA) (prC:Nat) (hin:er j az ha):
 dF Tryz.prog 15 [(vA (eX.cells (lM j kA kC cA cC bA bC slA slC drA drC heA heC faA faC prA prC)))] (o_ j kA az cA bA slA drA ha heA faA prA) (vT [(vI (yg j)),(vI (xZ j)),(vI (dT j))]):=by
 have q:=hin.race
 have h:=hin.race.line
 have w:=hin.race.fE
 have y:=hin.race.has
 have r:=hin.race.fM
 have l:=hin.nf
 have p:=hin.np
 refine bG kr Tryz.func15 U U fun w0 Q hQ hN=>?_
 try dsimp only
 refine WS fun _ X=>dV U fun b2=>bp 3 U<|RK X<|ag fun _ Y=>WS fun _ Z=>dZ 1 [] (mc 0 U I) U<|rS (CL (ni j kA kC az cA cC bA bC slA slC drA drC ha heA heC faA faC prA prC hin) (aY [1,2,3,4,5,6,7,8,9,10]) U)<|bp 1 U<|RK Z<|WS fun _ b=>rP 2 [] I ?_
 refine RK b<|cb U (aX fun A=>?_) (aW fun A=>?_)
 ·refine WS fun _ c=>rP 4 [] I ?_
  refine RK c<|ak<|Q3 hQ U U U U U ?_
  (have e:=zR A; rw [e.1,e.2]; done)
 refine WK Y<|WS fun _ d=>rP 2 [] I ?_
 refine RK d<|ag fun _ f=>?_
 have o:(lj j).length=j.aB.length:=ry
 have V:=(dj A).2
 have A1:=V.np
 have B:=V.td
 refine ao<|rP 1 [] (mc 0 U I) ?_
 refine cX (sM j kA kC az cA cC bA bC slA slC drA drC ha heA heC faA faC prA prC hin (by exact A)) (aY [1,2,3,4,5,6,7,8,9,10]) U fun y9 s=>?_
 obtain ⟨t,u⟩:=y9
 try dsimp only
 refine bp 1 U<|RK f<|ag fun _ G=>WS fun _ H=>rP 1 [] I ?_
 refine RK H<|ax ?_
 have D:(0≤j.aB.length):=by exact Nat.zero_le _
 have M:(vI ((jr j 0:Int)*j.kT))=(vI 0):=by exact cI (by simp [jr,ir,kU])
 have N:(vI (((0:Int)-(jr j 0:Int))*j.kT))=(vI 0):=by exact cI (by simp [jr,ir,kU])
 refine bP (ι:={z:Nat // (z≤j.aB.length)}) [1,8] [0,1,2,3,4,5,6,7,8,9,10,11] U U (fun z=>[(6,(vI ((jr j z.1:Int)*j.kT))),(7,(vI (((z.1:Int)-(jr j z.1:Int))*j.kT))),(9,(vI (z.1:Int)))]) (fun z=>[]) (fun _=>rfl) (fun _=>rfl) (fun z=>j.aB.length-z.1) ⟨0,D⟩ (aU U M<|aU U N<|bf U) (aK [0,1,2,3,4,5,6,7,8,9,10,11]) ?_
 clear D
 rintro ⟨i,g⟩ J17 E
 try dsimp only
 have v:=wR (j:=j) (i:=i)
 have m:=wR (j:=j) (i:=i+1)
 have AC:=w9 (a:=(jr j i:Int)) ⟨om,om⟩ B
 have AM:=w9 (a:=(i:Int)-(jr j i:Int)) ⟨om,om⟩ B
 have AO:=Int.mul_nonneg (show 0≤(jr j i:Int) by omega) B.1
 have Ac:=Int.mul_nonneg (show 0≤(i:Int)-(jr j i:Int) by omega) B.1
 have As:=Int.mul_le_mul_of_nonneg_right (show (jr j i:Int)≤8 by omega) B.1
 have A0:=Int.mul_le_mul_of_nonneg_right (show (i:Int)-(jr j i:Int)≤8 by omega) B.1
 refine ag fun _ AB=>WS fun _ J=>rP 4 [] I ?_
 refine RK J<|bO U (aO fun W=>?_) (aN fun W=>?_)
 ·refine bM<|ab<|ab<|aF<|KK G<|WS fun _ L=>rP 5 [] I ?_
  refine RK L<|ak<|Q3 hQ U U U U U ?_
  (obtain rfl:i=j.aB.length:=om; have e:=Ni A; rw [e.1,e.2,A]; done)
 refine WK AB<|ag fun _ F=>ax<|WS fun _ K=>rP 2 [] I ?_
 obtain ⟨x,hx⟩:=aA (lj j) i om
 have k:=bH im hx
 refine rS (IA i U (ar (n:=(lj j).length) 0 U sm) sU dc om om)<|rS (gD i 0 (vB x) U bU (ar (n:=(lj j).length) 0 U sm) k U dc U)<|RK K<|bO U (fun C=>?_) (fun C=>?_)
 ·refine ao<|dZ 5 [] (mc 1 U I) U<|aC<|aJ<|KK F<|ao<|rP 3 [] I ?_
  refine aC ?_
  have S:(vI (((jr j (i+1):Nat):Int)*j.kT))=(vI ((jr j i:Int)*j.kT)):=by exact cI (by exact (PI (C▸hx)).symm)
  have T:(vI (((((i+1):Nat):Int)-((jr j (i+1):Nat):Int))*j.kT))=(vI ((((i:Int)-(jr j i:Int))*j.kT)+j.kT)):=by exact cI (by exact (O5 (C▸hx)).symm)
  have AA:(vI (((i+1):Nat):Int))=(vI ((i:Int)+1)):=by exact cI om
  refine a_ (E ⟨(i+1),(by first|omega|(simp only []; omega))⟩ _ _ _ U os (cR.cons U<|cR.cons U<|aU U S<|aU U T<|aU U AA<|cR.nil _) (aK [0,1,2,3,4,5,6,7,8,9,10,11]))
 refine ao<|dZ 5 [] (mc 1 U I) U<|aC<|aJ<|KK F<|ao<|rP 3 [] I ?_
 refine aC ?_
 have O:(vI (((jr j (i+1):Nat):Int)*j.kT))=(vI (((jr j i:Int)*j.kT)+j.kT)):=by exact cI (by exact (O7 (C▸hx)).symm)
 have P:(vI (((((i+1):Nat):Int)-((jr j (i+1):Nat):Int))*j.kT))=(vI (((i:Int)-(jr j i:Int))*j.kT)):=by exact cI (by exact (PG (C▸hx)).symm)
 have R:(vI (((i+1):Nat):Int))=(vI ((i:Int)+1)):=by exact cI om
 refine a_ (E ⟨(i+1),(by first|omega|(simp only []; omega))⟩ _ _ _ U os (cR.cons U<|cR.cons U<|aU U O<|aU U P<|aU U R<|cR.nil _) (aK [0,1,2,3,4,5,6,7,8,9,10,11]))
theorem K6 (j:cw) (kA:OA) (kC:Nat) (az:List RA) (cA:OA) (cC:Nat) (bA:OA) (bC:Nat) (slA:OA) (slC:Nat) (drA:OA) (drC:Nat) (ha:List bZ) (heA:OA) (heC:Nat) (faA:OA) (faC:Nat) (prA:OA) (prC:Nat) (sq:Int) (hin:er j az ha):
 dF Tryz.prog 17 [(vA (eX.cells (lM j kA kC cA cC bA bC slA slC drA drC heA heC faA faC prA prC))),(vI sq)] (o_ j kA az cA bA slA drA ha heA faA prA) (vT [(vI (rM j sq)),(vI (p6 j sq))]):=by
 have y:=hin.race
 have l:=hin.race.line
 have As:=hin.race.fE
 have A0:=hin.race.has
 have AC:=hin.race.fM
 have u:=hin.nf
 have w:=hin.np
 refine bG kr Tryz.func17 U U fun w0 Q hQ hN=>?_
 try dsimp only
 refine WS fun _ Z=>dV U fun b2=>bp 2 U<|RK Z<|ag fun _ a=>WS fun _ b=>dZ 1 [] (mc 0 U I) U<|rS (CL (ni j kA kC az cA cC bA bC slA slC drA drC ha heA heC faA faC prA prC hin) (aY [1,2,3,4,5,6,7,8,9,10]) U)<|bp 1 U<|RK b<|WS fun _ c=>rP 2 [] I ?_
 refine RK c<|cb U (aX fun A=>?_) (aW fun A=>?_)
 ·refine WS fun _ d=>rP 3 [] I ?_
  refine RK d<|ak<|Q2 hQ U U U U ?_
  (have e:=zu (s:=sq) A; rw [e.1,e.2]; done)
 refine WK a<|ag fun _ f=>WS fun _ g=>dZ 6 [] (mc 0 U I) U<|rS (CL (iv sq 0 ((j.Race.bu.length:Int)-1)) (aS) U)<|rP 1 [] I ?_
 refine RK g<|cb U (aX fun G=>?_) (aW fun G=>?_)
 ·refine WS fun _ h=>rP 2 [] I ?_
  refine RK h<|ak<|Q2 hQ U U U U ?_
  (have e:=zo (s:=sq) A om; rw [e.1,e.2]; done)
 refine WK f<|WS fun _ AB=>rP 1 [] I ?_
 refine RK AB<|ag fun _ J=>?_
 have v:(lj j).length=j.aB.length:=ry
 have Y:=(dj A).2
 have A5:=Y.np
 have X:=Y.td
 refine ao<|rP 1 [] (mc 0 U I) ?_
 refine cX (sM j kA kC az cA cC bA bC slA slC drA drC ha heA heC faA faC prA prC hin (by exact A)) (aY [1,2,3,4,5,6,7,8,9,10]) U fun r AM=>?_
 obtain ⟨AO,Ac⟩:=r
 try dsimp only
 refine bp 1 U<|RK J<|ag fun _ K=>WS fun _ L=>rP 1 [] I ?_
 refine RK L<|ax ?_
 have E:(0≤j.aB.length):=by exact Nat.zero_le _
 have P:(vI (-(ia j sq 0:Int)*j.kT))=(vI 0):=by exact cI Su.symm
 refine bP (ι:={z:Nat // (z≤j.aB.length)}) [1,2,8] [0,1,2,3,4,5,6,7,8,9,10,11] U U (fun z=>[(7,(vI (-(ia j sq z.1:Int)*j.kT))),(9,(vI (z.1:Int)))]) (fun z=>[]) (fun _=>rfl) (fun _=>rfl) (fun z=>j.aB.length-z.1) ⟨0,E⟩ (aU U P<|bf U) (aK [0,1,2,3,4,5,6,7,8,9,10,11]) ?_
 clear E
 rintro ⟨i,k⟩ J19 C
 try dsimp only
 have A1:=Ic (j:=j) (s:=sq) (m:=i)
 have A2:=Int.mul_nonneg (show 0≤(ia j sq i:Int) by omega) X.1
 have A3:=Int.mul_le_mul_of_nonneg_right (show (ia j sq i:Int)≤8 by omega) X.1
 have A4: -(ia j sq i:Int)*j.kT= -((ia j sq i:Int)*j.kT):=Int.neg_mul _ _
 refine ag fun _ M=>WS fun _ N=>rP 4 [] I ?_
 refine RK N<|bO U (aO fun G=>?_) (aN fun G=>?_)
 ·refine bM<|ab<|ab<|aF<|KK K<|WS fun _ O=>rP 3 [] I ?_
  refine RK O<|ak<|Q2 hQ U U U U ?_
  (obtain rfl:i=j.aB.length:=om; have e:=MI (s:=sq) A om; rw [e.1,e.2]; done)
 refine WK M<|ag fun _ D=>ax<|WS fun _ F=>rP 3 [] (mc 1 U I) ?_
 obtain ⟨p,hp⟩:=aA j.aB i om
 have o:=bH bR.cells hp
 refine rS (IA i U (av 11 U) wK dc om om)<|rS (nX ((i*5)+1) U (av 11 U) (Nat.mul_pos om dc) eC U)<|rS (gD i 1 (vI p.gH) U bU (av 11 U) o U dc U)<|rP 3 [] I ?_
 refine cx (t:=39) U (aO fun H=>?_) (aN fun H=>?_)
 ·refine bp 6 U<|RK F<|bT U<|cg<|aJ<|KK D<|ao<|rP 3 [] I ?_
  refine aC ?_
  have V:(vI (-((ia j sq (i+1):Nat):Int)*j.kT))=(vI (-(ia j sq i:Int)*j.kT)):=by exact cI (by exact (Jc (KB hp H)).symm)
  have W:(vI (((i+1):Nat):Int))=(vI ((i:Int)+1)):=by exact cI om
  refine a_ (C ⟨(i+1),(by first|omega|(simp only []; omega))⟩ _ _ _ U os (cz 3<|aU U V<|aU U W<|cR.nil _) (aK [0,1,2,3,4,5,6,7,8,9,10,11]))
 refine rP 2 [] I ?_
 obtain ⟨x,hx⟩:=aA (lj j) i om
 have q:=bH im hx
 refine rS (IA i U (ar (n:=(lj j).length) 0 U sm) sU dc om om)<|rS (gD i 0 (vB x) U bU (ar (n:=(lj j).length) 0 U sm) q U dc U)<|rP 2 [] I ?_
 refine RK F<|bO U (fun B=>?_) (fun B=>?_)
 ·rw [Bool.not_eq_false'] at B
  refine cg<|aJ<|KK D<|ao<|rP 3 [] I ?_
  refine aC ?_
  have T:(vI (-((ia j sq (i+1):Nat):Int)*j.kT))=(vI (-(ia j sq i:Int)*j.kT)):=by exact cI (by exact (Jc (K2 hp ((An hx hp).symm.trans B))).symm)
  have AA:(vI (((i+1):Nat):Int))=(vI ((i:Int)+1)):=by exact cI om
  refine a_ (C ⟨(i+1),(by first|omega|(simp only []; omega))⟩ _ _ _ U os (cz 3<|aU U T<|aU U AA<|cR.nil _) (aK [0,1,2,3,4,5,6,7,8,9,10,11]))
 rw [Bool.not_eq_true'] at B
 refine ao<|dZ 5 [] (mc 1 U I) U<|aC<|aJ<|KK D<|ao<|rP 3 [] I ?_
 refine aC ?_
 have R:(vI (-((ia j sq (i+1):Nat):Int)*j.kT))=(vI ((-(ia j sq i:Int)*j.kT)-j.kT)):=by exact cI (by exact (PO (Hv hp H ((An hx hp).symm.trans B))).symm)
 have S:(vI (((i+1):Nat):Int))=(vI ((i:Int)+1)):=by exact cI om
 refine a_ (C ⟨(i+1),(by first|omega|(simp only []; omega))⟩ _ _ _ U os (cz 3<|aU U R<|aU U S<|cR.nil _) (aK [0,1,2,3,4,5,6,7,8,9,10,11]))
end
section
open Go.RowKit
theorem xe (j:cw) (kA:OA) (kC:Nat) (az:List RA) (cA:OA) (cC:Nat) (bA:OA) (bC:Nat) (slA:OA) (slC:Nat) (drA:OA) (drC:Nat) (ha:List bZ) (heA:OA) (heC:Nat) (faA:OA) (faC:Nat) (prA:OA) (prC:Nat) (h i:Int) (d:aq) (sgA:OA) (sgC:Nat) (hin:er j az ha) (hsl:d.aV.aa.length≤1000000) (hng: ¬ l7 j):
 lO Tryz.prog 19 [(vA (eX.cells (lM j kA kC cA cC bA bC slA slC drA drC heA heC faA faC prA prC))),(vI h),(vI i),(vA (aR.cells (aR.mk d.Out d.cD d.Time (g8 d.aV sgA sgC))))] ((o_ j kA az cA bA slA drA ha heA faA prA)++[(rd sgA d.aV.aa.length 2 (d.aV.aa.map aG.cells))]) (fun (x:Bool×Int×(OA)×Nat×(OA)×Nat×(List RA)×(OA)×Nat×(OA)×Nat×(OA)×Nat×(OA)×Nat×(List bZ))=>bif x.1 then (vT [(vA (ct.cells (ct.mk (bW.mk (bJ.mk (bj.mk x.2.2.1 j.Race.au.bL.length x.2.2.2.1)) j.Race.au.gl (bj.mk x.2.2.2.2.1 j.Race.au.aH.length x.2.2.2.2.2.1) (bj.mk x.2.2.2.2.2.2.2.1 j.Race.au.aj.length x.2.2.2.2.2.2.2.2.1) j.Race.au.bV j.Race.au.ew j.Race.au.cU) (bj.mk x.2.2.2.2.2.2.2.2.2.1 j.Race.bu.length x.2.2.2.2.2.2.2.2.2.2.1) (bj.mk x.2.2.2.2.2.2.2.2.2.2.2.1 j.Race.cP.length x.2.2.2.2.2.2.2.2.2.2.2.2.1) j.Race.jc (bj.mk x.2.2.2.2.2.2.2.2.2.2.2.2.2.1 ((jY j.Race.aI h i d).length) x.2.2.2.2.2.2.2.2.2.2.2.2.2.2.1)))),(vI 0)]) else (vT [(vA (ct.cells (ct.mk (bW.mk (bJ.mk (bj.mk none 0 0)) 0 (bj.mk none 0 0) (bj.mk none 0 0) 0 0 0) (bj.mk none 0 0) (bj.mk none 0 0) 0 (bj.mk none 0 0)))),(vI x.2.1)])) (fun (x:Bool×Int×(OA)×Nat×(OA)×Nat×(List RA)×(OA)×Nat×(OA)×Nat×(OA)×Nat×(OA)×Nat×(List bZ))=>(x.1=true→((ki j h i d)=0∧(x.2.2.2.2.2.2.1.length=j.Race.au.aH.length∧m7 j.Race.au.aH x.2.2.2.2.2.2.1)∧uD (jY j.Race.aI h i d) x.2.2.2.2.2.2.2.2.2.2.2.2.2.2.2))∧(x.1=false→(x.2.1=(ki j h i d)∧ ¬ (ki j h i d)=0))) (fun (x:Bool×Int×(OA)×Nat×(OA)×Nat×(List RA)×(OA)×Nat×(OA)×Nat×(OA)×Nat×(OA)×Nat×(List bZ))=>bif x.1 then [(own x.2.2.1 x.2.2.2.1 128 9 (j.Race.au.bL.map aD.cells)),(own x.2.2.2.2.1 x.2.2.2.2.2.1 133 2 (List.zipWith aT.cells j.Race.au.aH x.2.2.2.2.2.2.1)),(bQ (bK aT.owns j.Race.au.aH x.2.2.2.2.2.2.1)),(own x.2.2.2.2.2.2.2.1 x.2.2.2.2.2.2.2.2.1 137 4 (j.Race.au.aj.map cQ.cells)),(own x.2.2.2.2.2.2.2.2.2.1 x.2.2.2.2.2.2.2.2.2.2.1 3 1 (j.Race.bu.map iC)),(own x.2.2.2.2.2.2.2.2.2.2.2.1 x.2.2.2.2.2.2.2.2.2.2.2.2.1 3 1 (j.Race.cP.map iC)),(own x.2.2.2.2.2.2.2.2.2.2.2.2.2.1 x.2.2.2.2.2.2.2.2.2.2.2.2.2.2.1 75 1 (List.zipWith cM (jY j.Race.aI h i d) x.2.2.2.2.2.2.2.2.2.2.2.2.2.2.2)),(bQ (bK j4 (jY j.Race.aI h i d) x.2.2.2.2.2.2.2.2.2.2.2.2.2.2.2))] else []):=by
 have l:=hin.race
 have EQ:=hin.race.line
 have In:=hin.race.fE
 have I2:=hin.race.has
 have Hi:=hin.race.fM
 have GE:=hin.nf
 have Go:=hin.np
 have C3:=sH hng
 refine dK kr Tryz.func19 U U fun w0 Q hQ hN=>?_
 try dsimp only
 refine WS fun _ Ci=>dV U fun b2=>dV U fun b3=>AL U yX fun b4=>bp 1 U<|RK Ci<|ag fun _ Ck=>WS fun _ Cp=>dZ 1 [] (mc 2 U I) U<|rS (CL (ni j kA kC az cA cC bA bC slA slC drA drC ha heA heC faA faC prA prC hin) (aY [3,4,5,6,7,8,9,10,11,12]) U)<|bp 1 U<|RK Cp<|WS fun _ Cx=>rP 2 [] I ?_
 refine RK Cx<|cb U (aX fun E=>?_) (aW fun E=>?_)
 ·refine WS fun _ C0=>rS (SX (bD (xs:=[]) (cs:=(ct.cells (ct.mk (bW.mk (bJ.mk (bj.mk none 0 0)) 0 (bj.mk none 0 0) (bj.mk none 0 0) 0 0 0) (bj.mk none 0 0) (bj.mk none 0 0) 0 (bj.mk none 0 0)))) U U (bE yW U)) U U)<|bp 1 U<|e7 U o6 U<|rP 1 [] I ?_
  refine RK C0<|ak ?_
  refine LX hQ (false,(dT j),none,0,none,0,[],none,0,none,0,none,0,none,0,[]) [] [0] (mc 0 U I) U (by rfl) U ?_ ?_
  ·rfl
  ·refine ⟨Fj,fun _=>?_⟩; have e:=BM (h:=h) (i:=i) (d:=d) E; exact ⟨e.symm,fun q=>E (e.symm.trans q)⟩
 refine WK Ck<|ag fun _ C1=>WS fun _ f=>dZ 6 [] (mc 2 U I) U<|rS (CL (iv h 0 ((j.Race.aI.length:Int)-1)) (aS) U)<|rP 2 [] I ?_
 refine bS (t:=26) U (aX fun B3=>?_) (aW fun B3=>?_)
 ·refine bp 9 U<|RK f<|aL U<|WS fun _ v=>rS (SX (bD (xs:=[]) (cs:=(ct.cells (ct.mk (bW.mk (bJ.mk (bj.mk none 0 0)) 0 (bj.mk none 0 0) (bj.mk none 0 0) 0 0 0) (bj.mk none 0 0) (bj.mk none 0 0) 0 (bj.mk none 0 0)))) U U (bE yW U)) U U)<|e7 U o6 U<|rP 1 [] I ?_
  refine RK v<|ak ?_
  refine LX hQ (false,2,none,0,none,0,[],none,0,none,0,none,0,none,0,[]) [] [0] (mc 0 U I) U (by rfl) U ?_ ?_
  ·rfl
  ·exact pb<|qS (tY (h:=h) (i:=i) (d:=d) E om)
 refine dZ 6 [] (mc 2 U I) U<|rS (CL (iv i 0 ((j.Race.bu.length:Int)-1)) (aS) U)<|rP 2 [] I ?_
 refine RK f<|cb U (aX fun B9=>?_) (aW fun B9=>?_)
 ·refine WS fun _ y=>rS (SX (bD (xs:=[]) (cs:=(ct.cells (ct.mk (bW.mk (bJ.mk (bj.mk none 0 0)) 0 (bj.mk none 0 0) (bj.mk none 0 0) 0 0 0) (bj.mk none 0 0) (bj.mk none 0 0) 0 (bj.mk none 0 0)))) U U (bE yW U)) U U)<|e7 U o6 U<|rP 1 [] I ?_
  refine RK y<|ak ?_
  refine LX hQ (false,2,none,0,none,0,[],none,0,none,0,none,0,none,0,[]) [] [0] (mc 0 U I) U (by rfl) U ?_ ?_
  ·rfl
  ·exact pb<|qS (tY (h:=h) (i:=i) (d:=d) E om)
 refine WK C1<|ag fun _ z=>ag fun _ AC=>?_
 have A7:=(dj E).1
 have J2:=(dj E).2
 have Do:=(dy A7).1
 have EZ:=(dy A7).2
 have Di:=(dw Do).2.head
 unfold eJ at Di
 refine ao<|rP 1 [] (mc 2 U I) ?_
 refine cX (xp j kA kC az cA cC bA bC slA slC drA drC ha heA heC faA faC prA prC hin asm) (aY [3,4,5,6,7,8,9,10,11,12]) U fun FS Be=>?_
 obtain ⟨b,H5,Id⟩:=FS
 try dsimp only
 have s:=Be
 try dsimp only at s
 refine rP 1 [] I ?_
 have J3:(dU j).length=j.Race.aI.length:=uw
 obtain ⟨row,F⟩:=aA (dU j) ((h).toNat) om
 obtain ⟨rowa,L⟩:=aA b ((h).toNat) om
 have u:(List.zipWith tU (dU j) b)[(h).toNat]? =some (tU row rowa):=cG F L
 refine rS (IA ((h).toNat) U (ar (n:=(dU j).length) 0 U (mP s)) Gt dc om om)<|rS (gD ((h).toNat) 0 (vS rowa.1 row.length rowa.2) U bU (ar (n:=(dU j).length) 0 U (mP s)) u U dc U)<|rP 1 [] I ?_
 have A9:row.length≤1000000:=x7 E _ (by rw [ks E]; exact aP F)
 refine rS (CL (QC row rowa.1 rowa.2 i (by exact A9)) (aw (show g9 _ (rd rowa.1 row.length 1 (row.map iC)).holds from (fun w hw=>(eP 1 U Fk) w hw _ (bB F L (by simp [On]))))<|aS) U)<|rP 1 [] I ?_
 refine RK AC<|cb U (aX fun M=>?_) (aW fun M=>?_)
 ·refine WS fun _ AM=>rS (SX (bD (xs:=[]) (cs:=(ct.cells (ct.mk (bW.mk (bJ.mk (bj.mk none 0 0)) 0 (bj.mk none 0 0) (bj.mk none 0 0) 0 0 0) (bj.mk none 0 0) (bj.mk none 0 0) 0 (bj.mk none 0 0)))) U U (bE yW U)) U U)<|BA U o6 U<|rP 1 [] I ?_
  refine RK AM<|ak ?_
  refine LX hQ (false,8,none,0,none,0,[],none,0,none,0,none,0,none,0,[]) [] [0] (mc 2 U I) U (by rfl) U ?_ ?_
  ·rfl
  ·exact pb<|qS (EM (h:=h) (i:=i) (d:=d) E ⟨om,om⟩ F M)
 refine WK z<|WS fun _ AO=>rP 1 [] I ?_
 refine rS (LP (ct.cells (we j.Race kA kC cA cC bA bC slA slC drA drC heA heC)) 4 U bU U U U)<|cX (xX j.Race kA kC az cA cC bA bC slA slC drA drC ha heA heC (by exact l) (by exact C3.1)) (aY [5,6,7,8,9,10,11,12]) U fun Fd Bt=>?_
 obtain ⟨O,V,P,W,AA,R,X,S,Y,T,Z,J,K,G⟩:=Fd
 try dsimp only
 obtain ⟨⟨N,r⟩,D⟩:=Bt
 try dsimp only at N r D
 have GT:=D.1
 refine AL U yX fun IR=>e7 U o6 U<|RK AO<|WS fun _ Ac=>rP 1 [] I ?_
 refine rS (LP (de.cells (g8 d.aV sgA sgC)) 12 U bU U U U)<|cX (Fq d.aV sgA sgC hsl) (aY [24]) U fun Fn H1=>?_
 obtain ⟨B,C⟩:=Fn
 try dsimp only
 refine rP 1 [] I ?_
 refine hU (vs:=(de.cells (g8 d.aV B C))) (cs':=(aR.cells (aR.mk d.Out d.cD d.Time (g8 d.aV B C)))) (C':=[_,_,_,_,_,_,_,_,_,_,_,_,_,(cy b3 43 (aR.cells (aR.mk d.Out d.cD d.Time (g8 d.aV B C)))),_,_,_,_,_,_,_,_,_,_,_,_]) 13 U U U Pa U U U U U U U<|RK Ac<|ag fun _ As=>?_
 obtain ⟨ht,H⟩:=aA j.Race.aI ((h).toNat) om
 obtain ⟨A,AB⟩:=aA G ((h).toNat) (by have:=D.1; omega)
 have A6:(List.zipWith cM j.Race.aI G)[(h).toNat]? =some (cM ht A):=cG H AB
 have Eq:=D.2 _ _ _ H AB
 have Iv:=(EZ.fJ ht (aP H)).1
 refine KE 9 H AB U U ?_
 try dsimp only
 refine cS cj 8 kr<|kp 3 [] (mc 4 U I) U<|dS (IA ((h).toNat) U (ar (n:=j.Race.aI.length) 11 U (dQ D.1)) kF dc om om)<|dS (gD ((h).toNat) 0 (vS A.1.1 ht.length A.1.2) U bU (ar (n:=j.Race.aI.length) 11 U (dQ D.1)) A6 U dc U)<|dP 2 [] (mc 15 U I) ?_
 obtain ⟨d0,A4⟩:=aA ht ((i).toNat) om
 obtain ⟨C2,g⟩:=aA A.2 ((i).toNat) om
 have A5:(List.zipWith aq.cells ht A.2)[(i).toNat]? =some (aq.cells d0 C2):=cG A4 g
 refine dS (IA ((i).toNat) U (ar (n:=ht.length) 0 U (jQ Eq)) ov dc om om)<|cu<|eo (k:=(i).toNat) (o:=0) (vs:=(aR.cells (aR.mk d.Out d.cD d.Time (g8 d.aV B C)))) (es':=(List.zipWith aq.cells (ht.set (i).toNat d) (A.2.set (i).toNat (B,C)))) (C':=[(own A.1.1 A.1.2 43 7 (List.zipWith aq.cells (ht.set (i).toNat d) (A.2.set (i).toNat (B,C)))),_,_,_,_,_,_,_,_,_,_,_,_,_,_,_,_,_,_,_,_,_,_,_,_,_,_,_]) 0 U U U Ez U U U U A5 U dc (by exact ue (c:=aq.cells) (m:=d) (a:=(B,C))) U<|RK As<|ag fun _ A0=>ag fun _ A1=>JR (d':=d) (b':=(B,C)) 1 3 A4 g U U ?_
 refine E1 (h':=(ht.set (i).toNat d)) (a':=(A.1,(A.2.set (i).toNat (B,C)))) 2 0 1 om (by have:=D.1; omega) U U ?_
 rw [← su H,show List.zipWith cM j.Race.aI G=List.zipWith cM (jY j.Race.aI h i d) (G.set (h).toNat (A.1,(A.2.set (i).toNat (B,C)))) from by rw [su H]; exact (zb H AB (by rw [List.length_set])).symm]
 replace D:=Kq (d:=d) (i:=i) (x:=(B,C)) D H AB
 rw [show bj.mk J j.Race.aI.length K=bj.mk J ((jY j.Race.aI h i d).length) K from by rw [qV]]
 have A8:iP (rO j.Race h i d) _ _:=l.put N r D hsl
 refine ao<|rP 1 [] (mc 1 U I) ?_
 refine rS (CL (zJ (rO j.Race h i d) O V AA P W R X S Y T Z (G.set (h).toNat (A.1,(A.2.set (i).toNat (B,C)))) J K (by exact A8)) (aw (ar (n:=j.Race.au.bL.length) 2 U (by (rw [List.length_map]; rfl)))<|aw (ar (n:=j.Race.au.aH.length) 3 U (gO N))<|aw (eP 4 U jS)<|aw (ar (n:=j.Race.au.aj.length) 5 U (by (rw [List.length_map]; rfl)))<|aw (ar (n:=j.Race.bu.length) 6 U (by (rw [List.length_map]; rfl)))<|aw (ar (n:=j.Race.cP.length) 7 U (by (rw [List.length_map]; rfl)))<|aw (ar (n:=(jY j.Race.aI h i d).length) 8 U (dQ D.1))<|aw (je 0 U D)<|aS) U) ?_
 refine rP 1 [] I ?_
 refine RK A1<|bO U (aW fun p=>?_) (aX fun p=>?_)
 ·refine WK A0<|WS fun _ A3=>dZ 1 [] (mc 1 U I) U<|Th U o6 U<|rP 1 [] I ?_
  refine RK A3<|ak ?_
  refine LX hQ (true,0,O,V,P,W,AA,R,X,S,Y,T,Z,J,K,(G.set (h).toNat (A.1,(A.2.set (i).toNat (B,C))))) [2,3,4,5,6,7,8,0] [0] (mc 11 U I) U (by (show List.all _ _=true; simp only [cond_true,fX,List.all_nil,kz,rm,Bool.and_true]; rfl)) U ?_ ?_
  ·rfl
  ·exact ⟨fun _=>⟨Gc E ⟨om,om⟩ F M p,⟨N,r⟩,D⟩,Of⟩
 refine WS fun _ A2=>rS (SX (bD (xs:=[]) (cs:=(ct.cells (ct.mk (bW.mk (bJ.mk (bj.mk none 0 0)) 0 (bj.mk none 0 0) (bj.mk none 0 0) 0 0 0) (bj.mk none 0 0) (bj.mk none 0 0) 0 (bj.mk none 0 0)))) U U (bE yW U)) U U)<|Th U o6 U<|rP 1 [] I ?_
 refine RK A2<|ak ?_
 refine LX hQ (false,60,none,0,none,0,[],none,0,none,0,none,0,none,0,[]) [] [0] (mc 11 U I) U (by rfl) U ?_ ?_
 ·rfl
 ·exact pb<|qS (zn (h:=h) (i:=i) (d:=d) E ⟨om,om⟩ F M p)
theorem AA (j:cw) (kA:OA) (kC:Nat) (az:List RA) (cA:OA) (cC:Nat) (bA:OA) (bC:Nat) (slA:OA) (slC:Nat) (drA:OA) (drC:Nat) (ha:List bZ) (heA:OA) (heC:Nat) (faA:OA) (faC:Nat) (prA:OA) (prC:Nat) (h i:Int) (d:aq) (sgA:OA) (sgC:Nat) (hin:er j az ha) (hsl:d.aV.aa.length≤1000000) (hng: ¬ l7 j) (hok:(ki j h i d)=0):
 lO Tryz.prog 19 [(vA (eX.cells (lM j kA kC cA cC bA bC slA slC drA drC heA heC faA faC prA prC))),(vI h),(vI i),(vA (aR.cells (aR.mk d.Out d.cD d.Time (g8 d.aV sgA sgC))))] ((o_ j kA az cA bA slA drA ha heA faA prA)++[(rd sgA d.aV.aa.length 2 (d.aV.aa.map aG.cells))]) (fun (x:(OA)×Nat×(OA)×Nat×(List RA)×(OA)×Nat×(OA)×Nat×(OA)×Nat×(OA)×Nat×(List bZ))=>(vT [(vA (ct.cells (ct.mk (bW.mk (bJ.mk (bj.mk x.1 j.Race.au.bL.length x.2.1)) j.Race.au.gl (bj.mk x.2.2.1 j.Race.au.aH.length x.2.2.2.1) (bj.mk x.2.2.2.2.2.1 j.Race.au.aj.length x.2.2.2.2.2.2.1) j.Race.au.bV j.Race.au.ew j.Race.au.cU) (bj.mk x.2.2.2.2.2.2.2.1 j.Race.bu.length x.2.2.2.2.2.2.2.2.1) (bj.mk x.2.2.2.2.2.2.2.2.2.1 j.Race.cP.length x.2.2.2.2.2.2.2.2.2.2.1) j.Race.jc (bj.mk x.2.2.2.2.2.2.2.2.2.2.2.1 ((jY j.Race.aI h i d).length) x.2.2.2.2.2.2.2.2.2.2.2.2.1)))),(vI 0)])) (fun (x:(OA)×Nat×(OA)×Nat×(List RA)×(OA)×Nat×(OA)×Nat×(OA)×Nat×(OA)×Nat×(List bZ))=>((ki j h i d)=0∧(x.2.2.2.2.1.length=j.Race.au.aH.length∧m7 j.Race.au.aH x.2.2.2.2.1)∧uD (jY j.Race.aI h i d) x.2.2.2.2.2.2.2.2.2.2.2.2.2)) (fun (x:(OA)×Nat×(OA)×Nat×(List RA)×(OA)×Nat×(OA)×Nat×(OA)×Nat×(OA)×Nat×(List bZ))=>[(own x.1 x.2.1 128 9 (j.Race.au.bL.map aD.cells)),(own x.2.2.1 x.2.2.2.1 133 2 (List.zipWith aT.cells j.Race.au.aH x.2.2.2.2.1)),(bQ (bK aT.owns j.Race.au.aH x.2.2.2.2.1)),(own x.2.2.2.2.2.1 x.2.2.2.2.2.2.1 137 4 (j.Race.au.aj.map cQ.cells)),(own x.2.2.2.2.2.2.2.1 x.2.2.2.2.2.2.2.2.1 3 1 (j.Race.bu.map iC)),(own x.2.2.2.2.2.2.2.2.2.1 x.2.2.2.2.2.2.2.2.2.2.1 3 1 (j.Race.cP.map iC)),(own x.2.2.2.2.2.2.2.2.2.2.2.1 x.2.2.2.2.2.2.2.2.2.2.2.2.1 75 1 (List.zipWith cM (jY j.Race.aI h i d) x.2.2.2.2.2.2.2.2.2.2.2.2.2)),(bQ (bK j4 (jY j.Race.aI h i d) x.2.2.2.2.2.2.2.2.2.2.2.2.2))]):=by
 exact FR (xe j kA kC az cA cC bA bC slA slC drA drC ha heA heC faA faC prA prC h i d sgA sgC hin hsl hng) (fun x q=>q.2 hok)
theorem AD (j:cw) (kA:OA) (kC:Nat) (az:List RA) (cA:OA) (cC:Nat) (bA:OA) (bC:Nat) (slA:OA) (slC:Nat) (drA:OA) (drC:Nat) (ha:List bZ) (heA:OA) (heC:Nat) (faA:OA) (faC:Nat) (prA:OA) (prC:Nat) (h i:Int) (d:aq) (sgA:OA) (sgC:Nat) (hin:er j az ha) (hsl:d.aV.aa.length≤1000000) (hng: ¬ l7 j) (hok: ¬ (ki j h i d)=0):
 dF Tryz.prog 19 [(vA (eX.cells (lM j kA kC cA cC bA bC slA slC drA drC heA heC faA faC prA prC))),(vI h),(vI i),(vA (aR.cells (aR.mk d.Out d.cD d.Time (g8 d.aV sgA sgC))))] ((o_ j kA az cA bA slA drA ha heA faA prA)++[(rd sgA d.aV.aa.length 2 (d.aV.aa.map aG.cells))]) (vT [(vA (ct.cells (ct.mk (bW.mk (bJ.mk (bj.mk none 0 0)) 0 (bj.mk none 0 0) (bj.mk none 0 0) 0 0 0) (bj.mk none 0 0) (bj.mk none 0 0) 0 (bj.mk none 0 0)))),(vI (ki j h i d))]):=by
 exact Ku (xe j kA kC az cA cC bA bC slA slC drA drC ha heA heC faA faC prA prC h i d sgA sgC hin hsl hng) (fun x q=>hok q.1) (fun x q=>by obtain ⟨A,_⟩:=q; rw [A])
theorem AU (j:cw) (kA:OA) (kC:Nat) (az:List RA) (cA:OA) (cC:Nat) (bA:OA) (bC:Nat) (slA:OA) (slC:Nat) (drA:OA) (drC:Nat) (ha:List bZ) (heA:OA) (heC:Nat) (faA:OA) (faC:Nat) (prA:OA) (prC:Nat) (h i:Int) (d:aq) (sgA:OA) (sgC:Nat) (hin:er j az ha) (hsl:d.aV.aa.length≤1000000) (hok: ¬ (ki j h i d)=0):
 dF Tryz.prog 18 [(vA (eX.cells (lM j kA kC cA cC bA bC slA slC drA drC heA heC faA faC prA prC))),(vI h),(vI i),(vA (aR.cells (aR.mk d.Out d.cD d.Time (g8 d.aV sgA sgC))))] ((rd iE 3 2 gF)::((o_ j kA az cA bA slA drA ha heA faA prA)++[(rd sgA d.aV.aa.length 2 (d.aV.aa.map aG.cells))])) (vT [(vA (ct.cells (ct.mk (bW.mk (bJ.mk (bj.mk none 0 0)) 0 (bj.mk none 0 0) (bj.mk none 0 0) 0 0 0) (bj.mk none 0 0) (bj.mk none 0 0) 0 (bj.mk none 0 0)))),(vI (ki j h i d))]):=by
 exact Ku (yK j kA kC az cA cC bA bC slA slC drA drC ha heA heC faA faC prA prC h i d sgA sgC hin hsl) (fun x q=>hok q.1) (fun x q=>by obtain ⟨A,_⟩:=q; rw [A])
end
end Go.Proofs.YtkaenmjhfajbkaaGreatDoor
