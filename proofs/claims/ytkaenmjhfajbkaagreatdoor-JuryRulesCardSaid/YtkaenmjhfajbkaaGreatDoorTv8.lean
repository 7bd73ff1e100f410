/-
 The statement juryRules_said, part 8 of 9: Jwa, Jwb, Rr2, Jr1, Jr8, Rr3, Rr4, Rr5, Rra, Jr2, Jr3, Jz3, B10, Z1, Rx4, Jla, Rx8, Jx1, Rx1, Jx2, Jx3, Y4, Jr4, Jr5, Jr7, Jr6, Jy1, Jy2, Jy3, Jy4.
 Conditions: none.
-/
import Derived.Test.YtkaenmjhfajbkaaGreatDoorTv1
import Derived.Test.YtkaenmjhfajbkaaGreatDoorTv2
import Derived.Test.YtkaenmjhfajbkaaGreatDoorTv3
import Derived.Test.YtkaenmjhfajbkaaGreatDoorTv4
import Derived.Test.YtkaenmjhfajbkaaGreatDoorTv5
import Derived.Test.YtkaenmjhfajbkaaGreatDoorTv6
import Derived.Test.YtkaenmjhfajbkaaGreatDoorTv7
namespace Go.Proofs.YtkaenmjhfajbkaaGreatDoor
set_option maxRecDepth 100000
set_option maxHeartbeats 4000000
set_option linter.unusedVariables false
section
open Go.RowKit
theorem Ps (gm:Nat) (j:cw) (kA:OA) (kC:Nat) (cA:OA) (cC:Nat) (bA:OA) (bC:Nat) (slA:OA) (slC:Nat) (drA:OA) (drC:Nat) (heA:OA) (heC:Nat) (faA:OA) (faC:Nat) (prA:OA) (prC:Nat):
 lR Tryz.prog 64 [(vA (df.cells (df.mk (lJ j kA kC cA cC bA bC slA slC drA drC heA heC faA faC prA prC)))),(Value.map (some gm))] [] (fun (x:Nat×Nat)=>(Value.func (.func 97) [].toArray [(Value.pointer (some ⟨x.1,0,none⟩)),(Value.pointer (some ⟨x.2,0,none⟩))].toArray)) (fun (x:Nat×Nat)=>True) (fun (x:Nat×Nat)=>[(cy x.1 97 (df.cells (df.mk (lJ j kA kC cA cC bA bC slA slC drA drC heA heC faA faC prA prC)))),(cy x.2 144 [(Value.map (some gm))])]):=by
 refine dL kr Tryz.func64 U U fun E Q hQ hN=>?_
 try dsimp only
 refine WS fun _ A=>dV U fun C=>wV U U fun D=>bp 1 U<|RK A<|WS fun _ B=>rS (FU U)<|rP 1 [] I ?_
 refine RK B<|ak<|LX hQ (C,D) [1,0] [] I U U U U ?_
 trivial
theorem My (fm:List (Int×Bool)) (gm:Nat) (j:cw) (kA:OA) (kC:Nat) (az:List RA) (cA:OA) (cC:Nat) (bA:OA) (bC:Nat) (slA:OA) (slC:Nat) (drA:OA) (drC:Nat) (ha:List bZ) (heA:OA) (heC:Nat) (faA:OA) (faC:Nat) (prA:OA) (prC g1 g2:Nat) (hin:er j az ha) (hok:dU j=0):
 lR Tryz.prog 96 [(vS none 0 0),(Value.func (.func 97) [].toArray [(vP g1),(vP g2)].toArray)] ((kx iV gm (cT vB fm))::((pb j kA az cA bA slA drA ha heA faA prA)++[(cy g1 97 (df.cells (df.mk (lJ j kA kC cA cC bA bC slA slC drA drC heA heC faA faC prA prC)))),(cy g2 144 [(Value.map (some gm))])])) (fun (x:(List RA)×(OA)×Nat)=>(vS x.2.1 ((eT j (l7 j.aM fm)).length) x.2.2)) (fun (x:(List RA)×(OA)×Nat)=>x.1.length=(eT j (l7 j.aM fm)).length) (fun (x:(List RA)×(OA)×Nat)=>[(own x.2.1 x.2.2 29 1 (List.zipWith tU (eT j (l7 j.aM fm)) x.1)),(bQ (bK BL (eT j (l7 j.aM fm)) x.1))]):=by
 have W:=hin.race
 have P:=hin.race.line
 have g:=hin.race.fE
 have m:=hin.race.has
 have X:=hin.race.fM
 have AA:=hin.nf
 have V:=hin.np
 have f:(eT j (l7 j.aM fm)).length=j.Race.aI.length:=by unfold eT; rw [List.length_map]
 refine dL kr Tryz.func96 U U fun s Q hQ hN=>?_
 try dsimp only
 refine WS fun _ K=>wV U U fun T=>bp 1 U<|RK K<|ag fun _ L=>WS fun _ M=>rP 1 [] I ?_
 refine RK M<|ax<|jv 1 U (by exact fun _ h=>h)<|jv 3 U (by exact fun _ h=>h)<|jv 5 U (by exact fun _ h=>h)<|jv 7 U (by exact fun _ h=>h)<|jv 9 U (by exact fun _ h=>h)<|jv 11 U (by exact fun _ h=>h)<|jv 13 U (by exact fun _ h=>h)<|jv 15 U (by exact fun _ h=>h)<|jv 17 U (by exact fun _ h=>h)<|jv 19 U (by exact fun _ h=>h)<|jv 21 U (by exact fun _ h=>h)<|jv 23 U (by exact fun _ h=>h)<|jv 25 U (by exact fun _ h=>h)<|fu 29 1<|lx ?_
 refine JN (L0:=[(2,(vP T))]) (F:=[(kx iV gm (cT vB fm)).ro,(rd kA j.Race.au.bL.length 9 (j.Race.au.bL.map aD.cells)).ro,(rd cA j.Race.au.aG.length 2 (List.zipWith aT.cells j.Race.au.aG az)).ro,(iH (bK aT.jU j.Race.au.aG az)).ro,(rd bA j.Race.au.aj.length 4 (j.Race.au.aj.map cO.cells)).ro,(rd slA j.Race.bu.length 1 (j.Race.bu.map iC)).ro,(rd drA j.Race.cN.length 1 (j.Race.cN.map iC)).ro,(rd heA j.Race.aI.length 1 (List.zipWith cL j.Race.aI ha)).ro,(iH (bK lM j.Race.aI ha)).ro,(rd faA j.aM.length 4 (j.aM.map bg.cells)).ro,(rd prA j.aB.length 5 (j.aB.map bR.cells)).ro,(cy g1 97 (df.cells (df.mk (lJ j kA kC cA cC bA bC slA slC drA drC heA heC faA faC prA prC)))).ro,(cy g2 144 [(Value.map (some gm))]).ro]) (fun k (y:(List RA)×(OA)×Nat)=>(y.1.length=k)) (fun k y=>[(bQ (bK BL (List.take k (eT j (l7 j.aM fm))) y.1)),(own y.2.1 y.2.2 29 1 (List.zipWith tU (List.take k (eT j (l7 j.aM fm))) y.1)),(cy T 51 [(vS y.2.1 ((List.take k (eT j (l7 j.aM fm))).length) y.2.2)]),(kx iV gm (cT vB fm)).ro,(rd kA j.Race.au.bL.length 9 (j.Race.au.bL.map aD.cells)).ro,(rd cA j.Race.au.aG.length 2 (List.zipWith aT.cells j.Race.au.aG az)).ro,(iH (bK aT.jU j.Race.au.aG az)).ro,(rd bA j.Race.au.aj.length 4 (j.Race.au.aj.map cO.cells)).ro,(rd slA j.Race.bu.length 1 (j.Race.bu.map iC)).ro,(rd drA j.Race.cN.length 1 (j.Race.cN.map iC)).ro,(rd heA j.Race.aI.length 1 (List.zipWith cL j.Race.aI ha)).ro,(iH (bK lM j.Race.aI ha)).ro,(rd faA j.aM.length 4 (j.aM.map bg.cells)).ro,(rd prA j.aB.length 5 (j.aB.map bR.cells)).ro]) (fun _ (_:Unit)=>False) (fun _ _=>[]) [0,1,15,16,17,18,19,20,21,22,23,24,25,26] [14,13,12,11,10,9,8,7,6,5,4,3,2] (([]:List RA),none,0) rfl rfl (L9 fm gm j kA kC az cA cC bA bC slA slC drA drC ha heA heC faA faC prA prC g1 g2 (by first|assumption|omega|(simp; done)) (by first|assumption|omega|(simp; done))) rfl rfl rfl (by exact rfl) (by simp only [List.forall_mem_cons,List.not_mem_nil,false_imp_iff,implies_true,and_true]; exact ⟨⟨_,aP (i:=0) rfl,(dM (b_ _))⟩,⟨_,aP (i:=1) rfl,(dM (b_ _))⟩,⟨_,aP (i:=2) rfl,(dM (b_ _))⟩,⟨_,aP (i:=3) rfl,(dM (b_ _))⟩,⟨_,aP (i:=4) rfl,(dM (b_ _))⟩,⟨_,aP (i:=5) rfl,(dM (b_ _))⟩,⟨_,aP (i:=6) rfl,(dM (b_ _))⟩,⟨_,aP (i:=7) rfl,(dM (b_ _))⟩,⟨_,aP (i:=8) rfl,(dM (b_ _))⟩,⟨_,aP (i:=9) rfl,(dM (b_ _))⟩,⟨_,aP (i:=10) rfl,(dM (b_ _))⟩,⟨_,aP (i:=11) rfl,(dM (b_ _))⟩,⟨_,aP (i:=12) rfl,(dM (b_ _))⟩⟩) (by rintro k x R0 p ⟨_,_,_,_,rfl,_,_⟩; rfl) rfl (bf rfl) ?_ ?_ (fun _ _ _ h=>h.elim) (fun _ _ h=>h.elim)
 rotate_left 1
 ·rintro q k ⟨gz,a,c⟩ B C
  have D:=C
  try dsimp only at D
  try dsimp only
  rw [show (List.take k (eT j (l7 j.aM fm)))=(eT j (l7 j.aM fm)) from List.take_of_length_le (by have d:k=j.Race.aI.length:=B; omega)]
  have O:gz.length=(eT j (l7 j.aM fm)).length:=by have d:k=j.Race.aI.length:=B; omega
  refine aJ<|KK L<|WS fun _ G=>rP 2 [] (mc 16 U I) ?_
  refine RK G<|ak ?_
  refine hQ _ _ _ (rh 0 U U<|j4 (vs:=[(vS a ((eT j (l7 j.aM fm)).length) c)]) ⟨U,trivial⟩ fun w hs=>PU (gz,a,c) [15,14] ?_ ?_ U U (by show List.all _ _=true; simp only [fV,List.all_nil,qp,Bool.and_true]; rfl) hs)
  ·rfl
  ·exact O
 rintro k x R0 p ⟨gz,a,c⟩ l ra rb S t K5 Qr6 o hx AB N H Y Z
 obtain ⟨xa,xc,row,A,rfl,rfl,rfl⟩:=hx
 have D:=AB
 try dsimp only at D
 try dsimp only
 have n:=(aZ.1 A).1
 have E:gz.length=(List.take k (eT j (l7 j.aM fm))).length:=by rw [List.length_take]; omega
 have R:(List.take (k+1) (eT j (l7 j.aM fm))).length=k+1:=by rw [List.length_take]; omega
 refine ao<|rP 1 [] I ?_
 refine aC<|a_ (N _ _ ?_)
 refine ax<|ao<|rP 2 [] (mc 3 U I) ?_
 refine e9 (xs:=[.tmp 9]) (cs:=[(vS xa row.length xc)]) U GL SO U U U U (by simp [Value.cells]) U U fun r=>?_
 refine cP (es2:=(List.zipWith tU (List.take (k+1) (eT j (l7 j.aM fm))) (gz++[(xa,xc)]))) (m':=(List.take (k+1) (eT j (l7 j.aM fm))).length) 3 rfl rfl rfl SH rfl rfl (mS E).symm (bo (es:=List.zipWith tU [row] [(xa,xc)]) 0 rfl rfl (by intro e he; simp [tU] at he; subst he; rfl) rfl) (Fs _ _) om (by simp only [maxLen]; omega) (by rw [p9 A]; exact zJ E.symm) (by exact mS (by rw [R]; simp; omega)) rfl fun b J=>?_
 try dsimp only
 refine PA (Y':=bK BL (List.take (k+1) (eT j (l7 j.aM fm))) (gz++[(xa,xc)])) 2 16 U U (by rw [p9 A]; exact xo E.symm U) ?_
 refine VL U UU U U<|aC<|aJ ?_
 exact H ((gz++[(xa,xc)]),b,J) _ _ (by (rw [List.length_append]; simp; omega)) (aK [2,0,3,4,5,6,7,8,9,10,11,12,13,14,15])
theorem MW (fm:List (Int×Bool)) (gm:Nat) (j:cw) (kA:OA) (kC:Nat) (az:List RA) (cA:OA) (cC:Nat) (bA:OA) (bC:Nat) (slA:OA) (slC:Nat) (drA:OA) (drC:Nat) (ha:List bZ) (heA:OA) (heC:Nat) (faA:OA) (faC:Nat) (prA:OA) (prC g1 g2:Nat) (hin:er j az ha) (hok:dU j=0):
 lR Tryz.prog 63 [(Value.func (.func 97) [].toArray [(vP g1),(vP g2)].toArray)] ((kx iV gm (cT vB fm))::((pb j kA az cA bA slA drA ha heA faA prA)++[(cy g1 97 (df.cells (df.mk (lJ j kA kC cA cC bA bC slA slC drA drC heA heC faA faC prA prC)))),(cy g2 144 [(Value.map (some gm))])])) (fun (x:(List RA)×(OA)×Nat)=>(vS x.2.1 ((eT j (l7 j.aM fm)).length) x.2.2)) (fun (x:(List RA)×(OA)×Nat)=>x.1.length=(eT j (l7 j.aM fm)).length) (fun (x:(List RA)×(OA)×Nat)=>[(own x.2.1 x.2.2 29 1 (List.zipWith tU (eT j (l7 j.aM fm)) x.1)),(bQ (bK BL (eT j (l7 j.aM fm)) x.1))]):=by
 refine dL kr Tryz.func63 U U fun AA Q hQ hN=>?_
 try dsimp only
 refine WS fun _ B=>bp 1 U<|RK B<|WS fun _ C=>rP 1 [] I ?_
 refine cX (My fm gm j kA kC az cA cC bA bC slA slC drA drC ha heA heC faA faC prA prC g1 g2 hin hok) (aY [0,1,2,3,4,5,6,7,8,9,10,11,12]) U fun H E=>?_
 obtain ⟨A,F,G⟩:=H
 try dsimp only
 have D:=E
 refine rP 1 [] I ?_
 refine RK C<|ak ?_
 refine LX hQ (A,F,G) [0,1] [] I U (by show List.all _ _=true; simp only [fV,List.all_nil,qp,Bool.and_true]; rfl) U U ?_
 exact D
end
section
open Go.RowKit
theorem zc (j:cw) (kA:OA) (kC:Nat) (az:List RA) (cA:OA) (cC:Nat) (bA:OA) (bC:Nat) (slA:OA) (slC:Nat) (drA:OA) (drC:Nat) (ha:List bZ) (heA:OA) (heC:Nat) (faA:OA) (faC:Nat) (prA:OA) (prC:Nat) (hin:er j az ha) (hok:dU j=0):
 lR Tryz.prog 45 [(vA (df.cells (df.mk (lJ j kA kC cA cC bA bC slA slC drA drC heA heC faA faC prA prC))))] (pb j kA az cA bA slA drA ha heA faA prA) (fun (x:(List RA)×(OA)×Nat)=>(vS x.2.1 ((dT j).length) x.2.2)) (fun (x:(List RA)×(OA)×Nat)=>x.1.length=(dT j).length) (fun (x:(List RA)×(OA)×Nat)=>[(own x.2.1 x.2.2 29 1 (List.zipWith tU (dT j) x.1)),(bQ (bK BL (dT j) x.1))]):=by
 have AC:=hin.race
 have i:=hin.race.line
 have A2:=hin.race.fE
 have A3:=hin.race.has
 have AO:=hin.race.fM
 have u:=hin.nf
 have y:=hin.np
 have P:=(dj hok).1
 have O:=(dj hok).2
 have h:=(dx P).1
 have A6:=(dx P).2
 have d:=(dw h).2.head
 unfold eL at d
 have A4:=O.np
 have w:=tH (j:=j)
 refine dL kr Tryz.func45 U U fun w0 Q hQ hN=>?_
 try dsimp only
 refine WS fun _ Y=>dV U fun b2=>rP 1 [] I ?_
 refine RK Y<|WS fun _ Z=>mZ (kV:=iV) U U fun T=>?_
 try dsimp only
 refine bp 1 U<|RK Z<|ag fun _ a=>WS fun _ b=>rP 4 [] (mc 1 U I) ?_
 refine rS (FU U) ?_
 refine cX (AS j.aB prA prC (Value.func (.func 42) [(vA (df.cells (df.mk (lJ j kA kC cA cC bA bC slA slC drA drC heA heC faA faC prA prC))))].toArray [].toArray) (fun q S=>(gJ j S)) (iH [(rd kA j.Race.au.bL.length 9 (j.Race.au.bL.map aD.cells)),(rd cA j.Race.au.aG.length 2 (List.zipWith aT.cells j.Race.au.aG az)),(iH (bK aT.jU j.Race.au.aG az)),(rd bA j.Race.au.aj.length 4 (j.Race.au.aj.map cO.cells)),(rd slA j.Race.bu.length 1 (j.Race.bu.map iC)),(rd drA j.Race.cN.length 1 (j.Race.cN.map iC)),(rd heA j.Race.aI.length 1 (List.zipWith cL j.Race.aI ha)),(iH (bK lM j.Race.aI ha)),(rd faA j.aM.length 4 (j.aM.map bg.cells)),(rd prA j.aB.length 5 (j.aB.map bR.cells))]) (by intro q S k; exact lp (fi:=[(vA (df.cells (df.mk (lJ j kA kC cA cC bA bC slA slC drA drC heA heC faA faC prA prC))))]) (ca:=[]) (j8 (vQ j kA kC az cA cC bA bC slA slC drA drC ha heA heC faA faC prA prC q S asm asm (by (obtain ⟨i_,_,e⟩:=k; exact ⟨i_,e⟩))) (aY [0,1,2,3,4,5,6,7,8,9]))) asm) (eG 11 rfl rfl<|aw (j7 (aY [2,3,4,5,6,7,8,9,10,11]))<|aS) rfl fun y9 AU=>?_
 obtain ⟨Ax,A0⟩:=y9
 try dsimp only
 rw [show (kT (iK j.aB (fun q S=>(gJ j S))) j.aB.length)=jw j from rfl]
 refine rP 2 [] I ?_
 refine RK b<|ax ?_
 skip
 have A:(0≤(jw j).length):=by exact Nat.zero_le _
 refine bP (ι:={z:Nat // (z≤(jw j).length)}) [1,3,12,13] [0,2,3,4,5,6,7,8,9,10,11,12] U U (fun z=>[(14,(vI (z.1:Int)))]) (fun z=>[(kx iV T (cT vB (wJ j.aM (G2 j z.1))))]) (fun _=>rfl) (fun _=>rfl) (fun z=>(jw j).length-z.1) ⟨0,A⟩ (bf U) (aK [0,2,3,4,5,6,7,8,9,10,11,12,1]) ?_
 clear A
 rintro ⟨t,g⟩ J13 E
 try dsimp only
 refine WS fun _ F=>rP 1 [] I ?_
 refine RK F<|ag fun _ G=>bO U (aO fun X=>?_) (aN fun X=>?_)
 ·refine bM<|ab<|ab<|aF<|KK a<|WS fun _ J=>rP 2 [] (mc 1 U I) ?_
  refine cX (Ps T j kA kC cA cC bA bC slA slC drA drC heA heC faA faC prA prC) (aS) U fun r Ag=>?_
  obtain ⟨V,C⟩:=r
  try dsimp only
  refine cX (MW (wJ j.aM (G2 j t)) T j kA kC az cA cC bA bC slA slC drA drC ha heA heC faA faC prA prC V C hin hok) (aY [14,4,5,6,7,8,9,10,11,12,13,0,1]) U fun s R=>?_
  obtain ⟨D,AA,W⟩:=s
  try dsimp only
  have N:=R
  have o:(eT j (l7 j.aM (wJ j.aM (G2 j t))))=(dT j):=by exact Dx om
  rw [o] at N ⊢
  refine rP 1 [] I ?_
  refine RK J<|ak ?_
  refine LX hQ (D,AA,W) [0,1] [] I U (by show List.all _ _=true; simp only [fV,List.all_nil,qp,Bool.and_true]; rfl) U U ?_
  exact N
 refine WK G<|ag fun _ H=>ax<|WS fun _ AB=>?_
 obtain ⟨gi,B⟩:=aA (jw j) t om
 have M:=bH iC B
 refine rS (IA t U (ar (n:=(jw j).length) 0 U sm) dI dc om om)<|rS (gv t 0 (vI gi) U bV (ar (n:=(jw j).length) 0 U sm) M U dc U)<|bp 1 U<|RK AB<|cS cj 17 kr<|dP 10 [] (mc 1 U I) ?_
 obtain ⟨gk,A1,v⟩:=HB B
 refine dP 1 [] I ?_
 obtain ⟨p,hp⟩:=aA j.aB ((gi).toNat) om
 have l:=bH bR.cells hp
 refine dS (IA ((gi).toNat) U (av 11 U) wM dc om om)<|dS (nQ ((((gi).toNat)*5)+3) U (av 11 U) (Nat.mul_pos om dc) eD U) ?_
 have m:=O.ia _ p hp
 have A5:=m.fault
 refine dS (gv ((gi).toNat) 3 (vI p.gh) U bV (av 11 U) l U dc U) ?_
 obtain ⟨f,hf⟩:=aA j.aM ((p.gh).toNat) om
 have c:=bH bg.cells hf
 refine dS (IA ((p.gh).toNat) U (av 10 U) xZ dc om om)<|dS (jL ((p.gh).toNat) 0 (bg.cells f) U bV (av 10 U) c U dc U U)<|dS (CL (CD j.aM faA faC f asm) (aY [10]) U)<|cu ?_
 have K:(eC (wJ j.aM (G2 j t)) (o5 j.aM f) true)=(wJ j.aM (G2 j (t+1))):=by rw [Lr B hp hf,HR]
 refine je (kV:=iV) (x:=(o5 j.aM f)) (C':=[_,_,_,_,_,_,_,_,_,_,_,_,(kx iV T (cT vB (wJ j.aM (G2 j (t+1)))))]) 12 U U U U Cl (iW oV) U ((gX _ _ _ _).symm.trans (congrArg _ K)) U<|aC<|aJ<|KK H<|ao<|rP 2 [] I ?_
 refine aC ?_
 have L:(vI (((t+1):Nat):Int))=(vI ((t:Int)+1)):=by exact cI om
 refine a_ (E ⟨(t+1),(by first|omega|(simp only []; omega))⟩ _ _ _ U os (cz 4<|aU U L<|cR.nil _) (aK [0,1,2,3,4,5,6,7,8,9,10,11,12]))
theorem GF (j:cw) (kA:OA) (kC:Nat) (az:List RA) (cA:OA) (cC:Nat) (bA:OA) (bC:Nat) (slA:OA) (slC:Nat) (drA:OA) (drC:Nat) (ha:List bZ) (heA:OA) (heC:Nat) (faA:OA) (faC:Nat) (prA:OA) (prC:Nat) (hin:er j az ha):
 lR Tryz.prog 10 [(vA (eY.cells (lJ j kA kC cA cC bA bC slA slC drA drC heA heC faA faC prA prC)))] ((rd iG 3 2 gI)::(pb j kA az cA bA slA drA ha heA faA prA)) (fun (x:(List RA)×(OA)×Nat)=>(vT [(vS x.2.1 ((ei j).length) x.2.2),(vI (dU j))])) (fun (x:(List RA)×(OA)×Nat)=>x.1.length=(ei j).length) (fun (x:(List RA)×(OA)×Nat)=>[(own x.2.1 x.2.2 29 1 (List.zipWith tU (ei j) x.1)),(bQ (bK BL (ei j) x.1))]):=by
 have S:=hin.race
 have N:=hin.race.line
 have AA:=hin.race.fE
 have V:=hin.race.has
 have T:=hin.race.fM
 have P:=hin.nf
 have R:=hin.np
 refine dL kr Tryz.func10 U U fun Z Q hQ hN=>?_
 try dsimp only
 refine WS fun _ H=>dV U fun X=>bp 1 U<|bp 1 U<|RK H<|WS fun _ AB=>dY 1 [] (mc 0 U I) U<|rS (CL (wY j kA kC az cA cC bA bC slA slC drA drC ha heA heC faA faC prA prC hin) (aY [1,2,3,4,5,6,7,8,9,10,11]) U)<|bp 3 U<|AL U HZ fun Y=>e7 U H9 U<|bp 1 U<|RK AB<|ag fun _ J=>WS fun _ K=>rP 2 [] I ?_
 refine RK K<|cb U (aX fun A=>?_) (aW fun A=>?_)
 ·refine WS fun _ L=>?_
  have C:(ei j)=[]:=oD A
  have B:([]:List RA).length=(ei j).length:=by rw [C]; rfl
  refine gn 29 1<|xJ ?_
  rw [show (own none 0 29 1 ([]:List (List Value)))=own none 0 29 1 (List.zipWith tU (ei j) []) from by rw [C]; rfl,show bQ []=bQ (bK BL (ei j) []) from by rw [C]; rfl]
  refine bp 2 U<|rP 1 [] I ?_
  refine RK L<|ak ?_
  refine LX hQ ([],none,0) [1,0] [] I U (by show List.all _ _=true; simp only [fV,List.all_nil,qp,Bool.and_true]; rfl) U ?_ ?_
  ·(rw [oD A]; rfl)
  ·exact B
 refine WK J<|WS fun _ M=>rP 1 [] (mc 0 U I) ?_
 refine cX (zc j kA kC az cA cC bA bC slA slC drA drC ha heA heC faA faC prA prC hin asm) (aY [3,4,5,6,7,8,9,10,11,12]) U fun W E=>?_
 obtain ⟨D,F,G⟩:=W
 try dsimp only
 have B:=E
 refine rP 1 [] I ?_
 have O:(dT j)=(ei j):=by exact (ki A).symm
 rw [O] at B ⊢
 refine rP 1 [] I ?_
 refine RK M<|ak ?_
 refine LX hQ (D,F,G) [0,1] [] I U (by show List.all _ _=true; simp only [fV,List.all_nil,qp,Bool.and_true]; rfl) U ?_ ?_
 ·(rw [A]; rfl)
 ·exact B
end
section
open Go.RowKit
theorem BB (r:eU) (kA:OA) (kC:Nat) (az:List RA) (cA:OA) (cC:Nat) (bA:OA) (bC:Nat) (slA:OA) (slC:Nat) (drA:OA) (drC:Nat) (ha:List bZ) (heA:OA) (heC:Nat) (hraw:uB r az ha):
 dG Tryz.prog 38 [(vA (ct.cells (wq r kA kC cA cC bA bC slA slC drA drC heA heC)))] (I8 r kA az cA bA slA drA ha heA) (vB (decide (jX r))):=by
 have AC:=hraw.line
 have Ax:=hraw.fE
 have A1:=hraw.has
 have Ag:=hraw.fM
 have AO:=hraw.draw
 refine bG kr Tryz.func38 U U fun w0 Q hQ hN=>?_
 try dsimp only
 refine WS fun _ l=>dV U fun b2=>bp 1 U<|RK l<|ag fun _ m=>WS fun _ H=>bp 1 U<|rS (LP (bW.cells (jx r.au kA kC cA cC bA bC)) 0 U bV U U U)<|rS (CL (Ih r.au kA kC az cA cC bA bC asm) (aY [1,2,3,4]) U)<|rP 1 [] I ?_
 refine bS (t:=8) U (aN fun k=>?_) (aO fun k=>?_)
 ·refine bp 17 U<|RK H<|aL U<|WS fun _ n=>rP 1 [] I ?_
  refine RK n<|ak<|Q1 hQ U U U ?_
  exact cB (dC (qm (.inl k))).symm
 refine rP 6 [] (mc 0 U I) ?_
 refine bS (t:=14) U (aN fun AB=>?_) (aO fun AB=>?_)
 ·refine bp 11 U<|RK H<|aL U<|WS fun _ o=>rP 1 [] I ?_
  refine RK o<|ak<|Q1 hQ U U U ?_
  exact cB (dC (qm (.inr om))).symm
 refine rP 6 [] (mc 0 U I) ?_
 refine bS (t:=20) U (aN fun f=>?_) (aO fun f=>?_)
 ·refine bp 5 U<|RK H<|aL U<|WS fun _ p=>rP 1 [] I ?_
  refine RK p<|ak<|Q1 hQ U U U ?_
  exact cB (dC (qm (.inr om))).symm
 refine rP 5 [] (mc 0 U I) ?_
 refine RK H<|cb U (aN fun h=>?_) (aO fun h=>?_)
 ·refine WS fun _ q=>rP 1 [] I ?_
  refine RK q<|ak<|Q1 hQ U U U ?_
  exact cB (dC (qm (.inr om))).symm
 refine WK m<|ag fun _ s=>WS fun _ N=>rP 1 [] I ?_
 refine RK N<|ax ?_
 have B:(0≤r.aI.length)∧(mE r 0):=by exact ⟨Nat.zero_le _,Dg⟩
 refine bP (ι:={z:Nat // (z≤r.aI.length)∧(mE r z)}) [1] [0,1,2,3,4,5,6,7,8] U U (fun z=>[(3,(vI (z.1:Int)))]) (fun z=>[]) (fun _=>rfl) (fun _=>rfl) (fun z=>r.aI.length-z.1) ⟨0,B⟩ (bf U) (aK [0,1,2,3,4,5,6,7,8]) ?_
 clear B
 rintro ⟨i,⟨x,F⟩⟩ J11 L
 try dsimp only
 refine ag fun _ O=>WS fun _ P=>rP 5 [] (mc 0 U I) ?_
 refine RK P<|bO U (aO fun AB=>?_) (aN fun AB=>?_)
 ·refine bM<|ab<|ab<|aF<|KK s<|WS fun _ b=>rP 1 [] I ?_
  refine RK b<|ak<|Q1 hQ U U U ?_
  exact cB (br (Hm k om F om)).symm
 refine WK O<|ag fun _ R=>ax<|ag fun _ S=>WS fun _ T=>rP 3 [] (mc 0 U I) ?_
 obtain ⟨ht,D⟩:=aA r.aI i om
 obtain ⟨A,C⟩:=aA ha i om
 have E:(List.zipWith cL r.aI ha)[i]? =some (cL ht A):=cG D C
 refine rS (IA i U (av 7 U) kF dc om om)<|rS (gv i 0 (vS A.1.1 ht.length A.1.2) U bV (av 7 U) E U dc U) ?_
 obtain ⟨A0,AU,w⟩:=hraw.fJ _ _ _ D C
 refine rP 2 [] I ?_
 refine RK T<|cb U (aN fun J=>?_) (aO fun J=>?_)
 ·refine WS fun _ AA=>rP 1 [] I ?_
  refine RK AA<|ak<|Q1 hQ U U U ?_
  exact cB (dC (BJ D J)).symm
 refine WK S<|WS fun _ V=>rP 1 [] I ?_
 refine RK V<|ax ?_
 have B:(0≤ht.length)∧(nM ht 0):=by exact ⟨Nat.zero_le _,By⟩
 refine bP (ι:={z:Nat // (z≤ht.length)∧(nM ht z)}) [1,3] [0,1,2,3,4,5,6,7,8] U U (fun z=>[(4,(vI (z.1:Int)))]) (fun z=>[]) (fun _=>rfl) (fun _=>rfl) (fun z=>ht.length-z.1) ⟨0,B⟩ (bf U) (aK [0,1,2,3,4,5,6,7,8]) ?_
 clear B
 rintro ⟨j,⟨y,G⟩⟩ J20 M
 try dsimp only
 refine ag fun _ W=>WS fun _ X=>dY 4 [] (mc 0 U I) U<|rS (IA i U (av 7 U) kF dc om om)<|rS (gv i 0 (vS A.1.1 ht.length A.1.2) U bV (av 7 U) E U dc U)<|rP 2 [] I ?_
 refine RK X<|bO U (aO fun g=>?_) (aN fun g=>?_)
 ·refine bM<|ab<|ab<|aF<|aJ<|KK R<|ao<|rP 3 [] I ?_
  refine aC ?_
  have e:(vI (((i+1):Nat):Int))=(vI ((i:Int)+1)):=by exact cI om
  refine a_ (L ⟨(i+1),⟨om,Cj F D (DH J G om)⟩⟩ _ _ _ U os (cR.cons U<|aU U e<|cR.nil _) (aK [0,1,2,3,4,5,6,7,8]))
 refine WK W<|ag fun _ Y=>ax<|WS fun _ Z=>dY 3 [] (mc 0 U I) U<|rS (IA i U (av 7 U) kF dc om om)<|rS (gv i 0 (vS A.1.1 ht.length A.1.2) U bV (av 7 U) E U dc U)<|rP 1 [] I ?_
 obtain ⟨d,hd⟩:=aA ht j om
 obtain ⟨da,u⟩:=aA A.2 j om
 have v:(List.zipWith aq.cells ht A.2)[j]? =some (aq.cells d da):=cG hd u
 refine rS (IA j U (show g9 _ (rd A.1.1 ht.length 7 (List.zipWith aq.cells ht A.2)).holds from (cd 8 U (bB D C cr))) ov dc om om)<|rS (nQ ((j*7)+4) U (show g9 _ (rd A.1.1 ht.length 7 (List.zipWith aq.cells ht A.2)).holds from (cd 8 U (bB D C cr))) (Nat.mul_pos om dc) eD U)<|rS (nQ (((j*7)+4)+2) U (show g9 _ (rd A.1.1 ht.length 7 (List.zipWith aq.cells ht A.2)).holds from (cd 8 U (bB D C cr))) (Nat.mul_pos om dc) eD U)<|rS (gv j 6 (vS da.1 d.aV.aa.length da.2) U bV (show g9 _ (rd A.1.1 ht.length 7 (List.zipWith aq.cells ht A.2)).holds from (cd 8 U (bB D C cr))) v U dc U) ?_
 have A2:=w d (aP hd)
 refine rP 2 [] I ?_
 refine RK Z<|bO U (aO fun K=>?_) (aN fun K=>?_)
 ·refine cg<|aJ<|KK Y<|ao<|rP 3 [] I ?_
  refine aC ?_
  have c:(vI (((j+1):Nat):Int))=(vI ((j:Int)+1)):=by exact cI om
  refine a_ (M ⟨(j+1),⟨om,CP G hd K⟩⟩ _ _ _ U os (cR.cons U<|cR.cons U<|aU U c<|cR.nil _) (aK [0,1,2,3,4,5,6,7,8]))
 refine WS fun _ a=>rP 1 [] I ?_
 refine RK a<|ak<|Q1 hQ U U U ?_
 exact cB (dC (Dt D hd K)).symm
end
section
open Go.RowKit
theorem il (n lo hi:Int):
 dG Tryz.prog 50 [(vI n),(vI lo),(vI hi)] [] (vB (decide (lo≤n∧n≤hi))):=by
 refine bG kr Tryz.func50 U U fun D Q hQ hN=>?_
 try dsimp only
 refine WS fun _ B=>bp 1 U<|RK B<|WS fun _ A=>rP 4 [] I ?_
 refine bS (t:=10) U (aN fun C=>?_) (aO fun C=>?_)
 ·refine rP 5 [] I ?_
  refine RK A<|ak<|Q1 hQ U U U ?_
  exact cB (gT.2 om)
 refine rP 5 [] I ?_
 refine RK A<|ak<|Q1 hQ U U U ?_
 exact cB (br om).symm
theorem ur (o fx:Bool) (tm:ai) (rv:de):
 dG Tryz.prog 102 [(vA (aR.cells (aR.mk o fx tm rv)))] [] (vB (decide (o=false∧fx=false))):=by
 refine bG kr Tryz.func102 U U fun E Q hQ hN=>?_
 try dsimp only
 refine WS fun _ B=>dV U fun D=>bp 1 U<|RK B<|WS fun _ A=>rP 4 [] (mc 0 U I) ?_
 refine cx (t:=6) U (fun C=>?_) (fun C=>?_)
 ·rw [Bool.not_eq_false'] at C
  refine rP 5 [] I ?_
  refine RK A<|ak<|Q1 hQ U U U ?_
  clear hQ hN A B
  refine cB ?_
  (simp_all; done)
 rw [Bool.not_eq_true'] at C
 refine rP 5 [] (mc 0 U I) ?_
 refine RK A<|ak<|Q1 hQ U U U ?_
 clear hQ hN A B
 refine cB ?_
 (simp_all; done)
theorem Iv (j:cw) (kA:OA) (kC:Nat) (az:List RA) (cA:OA) (cC:Nat) (bA:OA) (bC:Nat) (slA:OA) (slC:Nat) (drA:OA) (drC:Nat) (ha:List bZ) (heA:OA) (heC:Nat) (faA:OA) (faC:Nat) (prA:OA) (prC:Nat) (hraw:uk j az ha):
 dG Tryz.prog 6 [(vA (eY.cells (lJ j kA kC cA cC bA bC slA slC drA drC heA heC faA faC prA prC)))] (pb j kA az cA bA slA drA ha heA faA prA) (vB (decide (l3 j))):=by
 have E:=hraw.race
 have F:=hraw.nf
 have G:=hraw.np
 refine bG kr Tryz.func6 U U fun AA Q hQ hN=>?_
 try dsimp only
 refine WS fun _ D=>dV U fun H=>bp 1 U<|RK D<|WS fun _ B=>bp 1 U<|rS (LP (ct.cells (wq j.Race kA kC cA cC bA bC slA slC drA drC heA heC)) 0 U bV U U U)<|rS (CL (BB j.Race kA kC az cA cC bA bC slA slC drA drC ha heA heC asm) (aY [1,2,3,4,5,6,7,8]) U)<|rP 1 [] I ?_
 refine bS (t:=6) U (aN fun C=>?_) (aO fun C=>?_)
 ·refine rP 12 [] I ?_
  refine RK B<|ak<|Q1 hQ U U U ?_
  (exact cB (dC (show l3 j from .inl (.inl C))).symm)
 refine rP 6 [] (mc 0 U I) ?_
 refine bS (t:=12) U (aN fun A=>?_) (aO fun A=>?_)
 ·refine rP 6 [] I ?_
  refine RK B<|ak<|Q1 hQ U U U ?_
  (exact cB (dC (show l3 j from .inl (.inr A))).symm)
 refine rP 6 [] (mc 0 U I) ?_
 refine RK B<|ak<|Q1 hQ U U U ?_
 (exact cB (gT.2 (show _↔l3 j from ⟨.inr,fun q=>Or.elim q (fun q=>Or.elim q (fun q=>absurd q C) (fun q=>absurd q A)) id⟩)))
end
section
open Go.RowKit
theorem EZ (j:cw) (kA:OA) (kC:Nat) (az:List RA) (cA:OA) (cC:Nat) (bA:OA) (bC:Nat) (slA:OA) (slC:Nat) (drA:OA) (drC:Nat) (ha:List bZ) (heA:OA) (heC:Nat) (faA:OA) (faC:Nat) (prA:OA) (prC:Nat) (q:cw) (k2A:OA) (k2C:Nat) (az2:List RA) (c2A:OA) (c2C:Nat) (b2A:OA) (b2C:Nat) (sl2A:OA) (sl2C:Nat) (dr2A:OA) (dr2C:Nat) (ha2:List bZ) (he2A:OA) (he2C:Nat) (fa2A:OA) (fa2C:Nat) (pr2A:OA) (pr2C:Nat) (hin:er j az ha) (hin2:er q az2 ha2) (hsm: ¬ l3 j) (hsm2: ¬ l3 q):
 dG Tryz.prog 21 [(vA (eY.cells (lJ j kA kC cA cC bA bC slA slC drA drC heA heC faA faC prA prC))),(vA (eY.cells (eY.mk (ct.mk (bW.mk (bJ.mk (bj.mk k2A q.Race.au.bL.length k2C)) q.Race.au.gl (bj.mk c2A q.Race.au.aG.length c2C) (bj.mk b2A q.Race.au.aj.length b2C) q.Race.au.bU q.Race.au.ew q.Race.au.cU) (bj.mk sl2A q.Race.bu.length sl2C) (bj.mk dr2A q.Race.cN.length dr2C) q.Race.jd (bj.mk he2A q.Race.aI.length he2C)) (bj.mk fa2A q.aM.length fa2C) (bj.mk pr2A q.aB.length pr2C) q.gu q.kU)))] ((pb j kA az cA bA slA drA ha heA faA prA)++[(rd k2A q.Race.au.bL.length 9 (q.Race.au.bL.map aD.cells)),(rd c2A q.Race.au.aG.length 2 (List.zipWith aT.cells q.Race.au.aG az2)),(iH (bK aT.jU q.Race.au.aG az2)),(rd b2A q.Race.au.aj.length 4 (q.Race.au.aj.map cO.cells)),(rd sl2A q.Race.bu.length 1 (q.Race.bu.map iC)),(rd dr2A q.Race.cN.length 1 (q.Race.cN.map iC)),(rd he2A q.Race.aI.length 1 (List.zipWith cL q.Race.aI ha2)),(iH (bK lM q.Race.aI ha2)),(rd fa2A q.aM.length 4 (q.aM.map bg.cells)),(rd pr2A q.aB.length 5 (q.aB.map bR.cells))]) (vB (decide (j=q))):=by
 have m:=hin.race
 have A1:=hin.race.line
 have A8:=hin.race.fE
 have A9:=hin.race.has
 have A7:=hin.race.fM
 have A5:=hin.nf
 have A6:=hin.np
 have AU:=sv hsm
 have Ag:=sv hsm2
 have J:=hin2.race
 refine bG kr Tryz.func21 U U fun w0 Q hQ hN=>?_
 try dsimp only
 refine WS fun _ r=>dV U fun b2=>dV U fun b3=>bp 1 U<|RK r<|ag fun _ s=>WS fun _ B=>bp 1 U<|rS (LP (ct.cells (wq j.Race kA kC cA cC bA bC slA slC drA drC heA heC)) 1 U bV U U U)<|bp 1 U<|rS (LP (ct.cells (ct.mk (bW.mk (bJ.mk (bj.mk k2A q.Race.au.bL.length k2C)) q.Race.au.gl (bj.mk c2A q.Race.au.aG.length c2C) (bj.mk b2A q.Race.au.aj.length b2C) q.Race.au.bU q.Race.au.ew q.Race.au.cU) (bj.mk sl2A q.Race.bu.length sl2C) (bj.mk dr2A q.Race.cN.length dr2C) q.Race.jd (bj.mk he2A q.Race.aI.length he2C))) 0 U bV U U U)<|rS (CL (tR j.Race kA kC az cA cC bA bC slA slC drA drC ha heA heC q.Race k2A k2C az2 c2A c2C b2A b2C sl2A sl2C dr2A dr2C ha2 he2A he2C (by exact m) (by exact J) (by exact AU.1) (by exact Ag.1)) (aY [2,3,4,5,6,7,8,9,12,13,14,15,16,17,18,19]) U)<|rP 2 [] I ?_
 refine bS (t:=13) U (aX fun E=>?_) (aW fun E=>?_)
 ·refine bp 31 U<|RK B<|aL U<|WS fun _ w=>rP 1 [] I ?_
  refine RK w<|ak<|Q1 hQ U U U ?_
  exact cB (br (fun e=>by subst e; exact E rfl)).symm
 refine rP 7 [0,1] (mc 1 U (mc 0 U I)) ?_
 refine bS (t:=20) U (aX fun F=>?_) (aW fun F=>?_)
 ·refine bp 24 U<|RK B<|aL U<|WS fun _ x=>rP 1 [] I ?_
  refine RK x<|ak<|Q1 hQ U U U ?_
  exact cB (br (fun e=>by subst e; exact F rfl)).symm
 refine rP 7 [0,1] (mc 1 U (mc 0 U I)) ?_
 refine bS (t:=27) U (aX fun G=>?_) (aW fun G=>?_)
 ·refine bp 17 U<|RK B<|aL U<|WS fun _ y=>rP 1 [] I ?_
  refine RK y<|ak<|Q1 hQ U U U ?_
  exact cB (br (fun e=>by subst e; exact G rfl)).symm
 refine rP 9 [0,1] (mc 1 U (mc 0 U I)) ?_
 refine bS (t:=36) U (aX fun K=>?_) (aW fun K=>?_)
 ·refine bp 8 U<|RK B<|aL U<|WS fun _ AC=>rP 1 [] I ?_
  refine RK AC<|ak<|Q1 hQ U U U ?_
  exact cB (br (fun e=>by subst e; exact K rfl)).symm
 refine rP 8 [0,1] (mc 1 U (mc 0 U I)) ?_
 refine RK B<|cb U (aX fun L=>?_) (aW fun L=>?_)
 ·refine WS fun _ O=>rP 1 [] I ?_
  refine RK O<|ak<|Q1 hQ U U U ?_
  exact cB (br (fun e=>by subst e; exact L rfl)).symm
 refine WK s<|ag fun _ P=>WS fun _ R=>rP 1 [] I ?_
 refine RK R<|ax ?_
 have A:(0≤j.aM.length)∧(j.aM.take 0=q.aM.take 0):=by exact ⟨Nat.zero_le _,rfl⟩
 refine bP (ι:={z:Nat // (z≤j.aM.length)∧(j.aM.take z=q.aM.take z)}) [2,3] [0,1,2,3,4,5,6,7,8,9,10,11,12,13,14,15,16,17,18,19,20,21] U U (fun z=>[(5,(vI (z.1:Int)))]) (fun z=>[]) (fun _=>rfl) (fun _=>rfl) (fun z=>j.aM.length-z.1) ⟨0,A⟩ (bf U) (aK [0,1,2,3,4,5,6,7,8,9,10,11,12,13,14,15,16,17,18,19,20,21]) ?_
 clear A
 rintro ⟨k,⟨Ax,C⟩⟩ J13 M
 try dsimp only
 refine ag fun _ S=>WS fun _ T=>rP 5 [] (mc 1 U I) ?_
 refine RK T<|cb U (aN fun n=>?_) (aO fun n=>?_)
 ·refine WK S<|ag fun _ AA=>ax<|ag fun _ V=>cS cj 11 kr<|dP 3 [] (mc 1 U I) ?_
  obtain ⟨f,hf⟩:=aA j.aM k om
  have AO:=bH bg.cells hf
  refine dS (IA k U (av 10 U) xZ dc om om)<|dS (jL k 0 (bg.cells f) U bV (av 10 U) AO U dc U U)<|dP 3 [] (mc 0 U I) ?_
  obtain ⟨u,hu⟩:=aA q.aM k om
  have A3:=bH bg.cells hu
  refine dS (IA k U (av 20 U) xZ dc om om)<|dS (jL k 0 (bg.cells u) U bV (av 20 U) A3 U dc U U)<|dS (BI U (Rz _ _ f u))<|cu<|RK V<|bO U (aW fun H=>?_) (aX fun H=>?_)
  ·refine cg<|aJ<|KK AA<|ao<|rP 3 [] I ?_
   refine aC ?_
   have h:(vI (((k+1):Nat):Int))=(vI ((k:Int)+1)):=by exact cI om
   refine a_ (M ⟨(k+1),⟨om,iz C hf hu H⟩⟩ _ _ _ U os (cR.cons U<|cR.cons U<|aU U h<|cR.nil _) (aK [0,1,2,3,4,5,6,7,8,9,10,11,12,13,14,15,16,17,18,19,20,21]))
  refine WS fun _ W=>rP 1 [] I ?_
  refine RK W<|ak<|Q1 hQ U U U ?_
  exact cB (br (fun e=>by subst e; (rw [hf] at hu; cases hu; exact H rfl))).symm
 refine bM<|ab<|ab<|aF<|KK P<|ag fun _ X=>WS fun _ Y=>rP 1 [] I ?_
 refine RK Y<|ax ?_
 have A:(0≤j.aB.length)∧(j.aB.take 0=q.aB.take 0):=by exact ⟨Nat.zero_le _,rfl⟩
 refine bP (ι:={z:Nat // (z≤j.aB.length)∧(j.aB.take z=q.aB.take z)}) [2,3] [0,1,2,3,4,5,6,7,8,9,10,11,12,13,14,15,16,17,18,19,20,21] U U (fun z=>[(6,(vI (z.1:Int)))]) (fun z=>[]) (fun _=>rfl) (fun _=>rfl) (fun z=>j.aB.length-z.1) ⟨0,A⟩ (bf U) (aK [0,1,2,3,4,5,6,7,8,9,10,11,12,13,14,15,16,17,18,19,20,21]) ?_
 clear A
 rintro ⟨i,⟨A0,D⟩⟩ J23 N
 try dsimp only
 refine ag fun _ Z=>WS fun _ a=>rP 5 [] (mc 1 U I) ?_
 refine RK a<|bO U (aO fun o=>?_) (aN fun o=>?_)
 ·refine bM<|ab<|ab<|aF<|KK X<|WS fun _ g=>rP 1 [] I ?_
  refine RK g<|ak<|Q1 hQ U U U ?_
  exact cB (dC (Hz E F G (jD om C om) (jD om D om))).symm
 refine WK Z<|ag fun _ b=>ax<|ag fun _ c=>cS cj 11 kr<|dP 3 [] (mc 1 U I) ?_
 obtain ⟨p,hp⟩:=aA j.aB i om
 have A2:=bH bR.cells hp
 refine dS (IA i U (av 11 U) wM dc om om)<|dS (jL i 0 (bR.cells p) U bV (av 11 U) A2 U dc U U)<|dP 3 [] (mc 0 U I) ?_
 obtain ⟨v,hv⟩:=aA q.aB i om
 have A4:=bH bR.cells hv
 refine dS (IA i U (av 21 U) wM dc om om)<|dS (jL i 0 (bR.cells v) U bV (av 21 U) A4 U dc U U)<|dS (BI U (P4 _ _ p v))<|cu<|RK c<|bO U (aW fun AB=>?_) (aX fun AB=>?_)
 ·refine cg<|aJ<|KK b<|ao<|rP 3 [] I ?_
  refine aC ?_
  have l:(vI (((i+1):Nat):Int))=(vI ((i:Int)+1)):=by exact cI om
  refine a_ (N ⟨(i+1),⟨om,iz D hp hv AB⟩⟩ _ _ _ U os (cR.cons U<|cR.cons U<|aU U l<|cR.nil _) (aK [0,1,2,3,4,5,6,7,8,9,10,11,12,13,14,15,16,17,18,19,20,21]))
 refine WS fun _ d=>rP 1 [] I ?_
 refine RK d<|ak<|Q1 hQ U U U ?_
 exact cB (br (fun e=>by subst e; (rw [hp] at hv; cases hv; exact AB rfl))).symm
end
section
open Go.RowKit
theorem Eb (l:bq) (kA:OA) (kC:Nat) (az:List RA) (cA:OA) (cC:Nat) (bA:OA) (bC:Nat) (d:aq) (sgA:OA) (sgC:Nat) (hin:ed l az) (hle:e_ l=0) (hsl:d.aV.aa.length≤1000000) (hk:d.Out=true):
 dG Tryz.prog 129 [(vA (bW.cells (jx l kA kC cA cC bA bC))),(vA (aR.cells (aR.mk d.Out d.cD d.Time (g8 d.aV sgA sgC))))] ((o7 l kA az cA bA)++[(rd sgA d.aV.aa.length 2 (d.aV.aa.map aH.cells))]) (vT [(vA (ai.cells (pC l d))),(vB (decide (jn l d)))]):=by
 have K:=hin.qI
 have J:=hin.qG
 have H:=hin.lS
 have AA:=hin.qD
 refine bG kr Tryz.func129 U U fun O Q hQ hN=>?_
 try dsimp only
 refine WS fun _ B=>dV U fun L=>dV U fun M=>AL U eh fun N=>bp 1 U<|RK B<|ag fun _ E=>ax<|WS fun _ C=>rP 3 [] (mc 1 U I) ?_
 refine RK C<|bO U (fun G=>?_) (fun G=>?_)
 ·exact absurd ((hk).symm.trans G) dc
 refine WS fun _ A=>rS (SX (bE (xs:=[]) (cs:=(ai.cells (ai.mk 0 0))) U U (bD g6 U)) U U)<|rP 4 [] (mc 1 U I) ?_
 refine cx (t:=15) U (fun D=>?_) (fun D=>?_)
 ·rw [Bool.not_eq_false'] at D
  refine bp 10 U<|e7 U cW U<|rP 1 [] I ?_
  refine RK A<|ak<|mh hQ [0] (mc 0 U I) U ?_
  clear hQ hN A C E B
  rw [AT hk]
  simp only [qV hk]
  refine congrArg (fun z=>Value.tuple #[_,vB z]) ?_
  first|rfl|(simp_all [hZ]; done)
 rw [Bool.not_eq_true'] at D
 refine bp 1 U<|rS (LP (ai.cells d.Time) 1 U bV U U U)<|rS (SX (bE (xs:=[]) (cs:=(ai.cells (ai.mk 0 0))) U U (bD g6 U)) U U)<|rS (BI U (wF _ _ d.Time (ai.mk 0 0)))<|rP 2 [] I ?_
 refine cx (t:=21) U (aO fun F=>?_) (aN fun F=>?_)
 ·refine bp 4 U<|e7 U cW U<|rP 1 [] I ?_
  refine RK A<|ak<|mh hQ [0] (mc 0 U I) U ?_
  clear hQ hN A C E B
  rw [AT hk]
  simp only [qV hk]
  refine congrArg (fun z=>Value.tuple #[_,vB z]) ?_
  first|rfl|(simp_all [hZ]; done)
 refine bp 1 U<|rS (LP (de.cells (g8 d.aV sgA sgC)) 1 U bV U U U)<|rS (CL (F7 d.aV sgA sgC) (aY [7]) U)<|bp 1 U<|e7 U cW U<|rP 1 [] I ?_
 refine RK A<|ak<|mh hQ [0] (mc 0 U I) U ?_
 clear hQ hN A C E B
 rw [AT hk]
 simp only [qV hk]
 refine congrArg (fun z=>Value.tuple #[_,vB z]) ?_
 first|rfl|(simp_all [hZ]; done)
theorem Ee (l:bq) (kA:OA) (kC:Nat) (az:List RA) (cA:OA) (cC:Nat) (bA:OA) (bC:Nat) (d:aq) (sgA:OA) (sgC:Nat) (hin:ed l az) (hle:e_ l=0) (hsl:d.aV.aa.length≤1000000) (hk:d.Out=false∧d.cD=true):
 dG Tryz.prog 129 [(vA (bW.cells (jx l kA kC cA cC bA bC))),(vA (aR.cells (aR.mk d.Out d.cD d.Time (g8 d.aV sgA sgC))))] ((o7 l kA az cA bA)++[(rd sgA d.aV.aa.length 2 (d.aV.aa.map aH.cells))]) (vT [(vA (ai.cells (pC l d))),(vB (decide (jn l d)))]):=by
 have N:=hin.qI
 have M:=hin.qG
 have K:=hin.lS
 have L:=hin.qD
 refine bG kr Tryz.func129 U U fun S Q hQ hN=>?_
 try dsimp only
 refine WS fun _ D=>dV U fun O=>dV U fun P=>AL U eh fun R=>bp 1 U<|RK D<|ag fun _ H=>ax<|WS fun _ E=>rP 3 [] (mc 1 U I) ?_
 refine RK E<|cb U (fun J=>?_) (fun J=>?_)
 ·exact absurd ((hk.1).symm.trans J) dc
 refine WS fun _ F=>rP 3 [] (mc 1 U I) ?_
 refine RK F<|bO U (fun G=>?_) (fun G=>?_)
 ·exact absurd ((hk.2).symm.trans G) dc
 refine ag fun _ B=>dp cj [10] [] [] [1,2,3,4,5,6,7] [] U U U U U<|eS U (FA 2 U eD U)<|eS U (LP (ai.cells d.Time) 0 U bV U U U)<|eS U (FA 2 U eD U)<|eS U (LP (ai.cells d.Time) 0 U bV U U U)<|eS U (CL (Nj d.Time) (aS) U)<|eS U (MV U)<|sx (t:=34) U (fun A=>?_) (fun A=>?_)
 rotate_left 1
 ·replace A:=DF A
  refine eS U (OX U)<|eS U (OX U)<|eS U (OX U)<|eS U (PK U)<|eS U (AG U)<|eg U<|cf U fun T10 C=>e7 U cW U<|aC (C _ _ (aK [1,2,3,4,5,6,7]) ?_)
  refine e8 U<|KK B<|ak<|mh hQ [0] (mc 0 U I) U ?_
  clear hQ hN C T10 B F E H D
  rw [Ge hk]
  simp only [yi hk]
  refine congrArg (fun z=>Value.tuple #[_,vB z]) ?_
  first|rfl|(simp_all; done)
 replace A:=DT A
 refine eS U (FA 4 U eD U)<|eS U (LP (de.cells (g8 d.aV sgA sgC)) 0 U bV U U U)<|eS U (CL (F7 d.aV sgA sgC) (aY [6]) U)<|eS U (PK U)<|eS U (AG U)<|eg U<|cf U fun T9 AA=>e7 U cW U<|aC (AA _ _ (aK [1,2,3,4,5,6,7]) ?_)
 refine e8 U<|KK B<|ak<|mh hQ [0] (mc 0 U I) U ?_
 clear hQ hN AA T9 B F E H D
 rw [Ge hk]
 simp only [yi hk]
 refine congrArg (fun z=>Value.tuple #[_,vB z]) ?_
 first|rfl|(simp_all; done)
theorem D9 (l:bq) (kA:OA) (kC:Nat) (az:List RA) (cA:OA) (cC:Nat) (bA:OA) (bC:Nat) (d:aq) (sgA:OA) (sgC:Nat) (hin:ed l az) (hle:e_ l=0) (hsl:d.aV.aa.length≤1000000) (hk:d.Out=false∧d.cD=false):
 dG Tryz.prog 129 [(vA (bW.cells (jx l kA kC cA cC bA bC))),(vA (aR.cells (aR.mk d.Out d.cD d.Time (g8 d.aV sgA sgC))))] ((o7 l kA az cA bA)++[(rd sgA d.aV.aa.length 2 (d.aV.aa.map aH.cells))]) (vT [(vA (ai.cells (pC l d))),(vB (decide (jn l d)))]):=by
 have O:=hin.qI
 have N:=hin.qG
 have L:=hin.lS
 have M:=hin.qD
 refine bG kr Tryz.func129 U U fun AA Q hQ hN=>?_
 try dsimp only
 refine WS fun _ E=>dV U fun P=>dV U fun R=>AL U eh fun S=>bp 1 U<|RK E<|ag fun _ F=>ax<|WS fun _ G=>rP 3 [] (mc 1 U I) ?_
 refine RK G<|cb U (fun K=>?_) (fun K=>?_)
 ·exact absurd ((hk.1).symm.trans K) dc
 refine WS fun _ H=>rP 3 [] (mc 1 U I) ?_
 refine RK H<|cb U (fun J=>?_) (fun J=>?_)
 ·exact absurd ((hk.2).symm.trans J) dc
 refine cg<|aJ<|KK F<|WS fun _ AB=>dY 2 [] (mc 2 U I) U<|rS (LP (de.cells (g8 d.aV sgA sgC)) 1 U bV U U U)<|rS (CL (Qg l kA kC az cA cC bA bC d.aV sgA sgC hin hsl) (aY [3,4,5,6,7]) U)<|bp 3 U<|AL U eh fun T=>e7 U cW U<|rP 1 [] I ?_
 refine RK AB<|ag fun _ A=>dp cj [9] [] [] [0,2,3,4,5,6,7,8] [] U U U U U<|eS U (LW 0 U bV U U)<|eS U (MV U)<|eS U (BI U ks)<|eS U (MV U)<|sx (t:=49) U (fun B=>?_) (fun B=>?_)
 rotate_left 1
 ·replace B:=DF B
  refine eS U (OX U)<|eS U (OX U)<|eS U (OX U)<|eS U (OX U)<|eS U (PK U)<|eS U (AG U)<|eg U<|cf U fun T12 D=>pV U cW U<|aC (D _ _ (aK [0,2,3,4,5,6,7,8]) ?_)
  refine e8 U<|KK A<|ak<|mh hQ [0] (mc 1 U I) U ?_
  clear hQ hN D T12 A AB H G F E
  rw [Fe hk]
  simp only [uS hk]
  refine congrArg (fun z=>Value.tuple #[_,vB z]) ?_
  first|rfl|(simp_all [hZ]; done)
 replace B:=DT B
 refine eS U (FA 2 U eD U)<|eS U (LP (ai.cells d.Time) 1 U bV U U U)<|eS U (SX (bE (xs:=[]) (cs:=(ai.cells (ai.mk 0 0))) U U (bD g6 U)) U U)<|eS U (BI U (wF _ _ d.Time (ai.mk 0 0)))<|eS U (PK U)<|eS U (AG U)<|eg U<|cf U fun T11 C=>pV U cW U<|aC (C _ _ (aK [0,2,3,4,5,6,7,8]) ?_)
 refine e8 U<|KK A<|ak<|mh hQ [0] (mc 1 U I) U ?_
 clear hQ hN C T11 A AB H G F E
 rw [Fe hk]
 simp only [uS hk]
 refine congrArg (fun z=>Value.tuple #[_,vB z]) ?_
 first|rfl|(simp_all [hZ]; done)
theorem Gw (l:bq) (kA:OA) (kC:Nat) (az:List RA) (cA:OA) (cC:Nat) (bA:OA) (bC:Nat) (d:aq) (sgA:OA) (sgC:Nat) (hin:ed l az) (hle:e_ l=0) (hsl:d.aV.aa.length≤1000000):
 dG Tryz.prog 129 [(vA (bW.cells (jx l kA kC cA cC bA bC))),(vA (aR.cells (aR.mk d.Out d.cD d.Time (g8 d.aV sgA sgC))))] ((o7 l kA az cA bA)++[(rd sgA d.aV.aa.length 2 (d.aV.aa.map aH.cells))]) (vT [(vA (ai.cells (pC l d))),(vB (decide (jn l d)))]):=by
 by_cases ho:d.Out=true
 ·exact Eb l kA kC az cA cC bA bC d sgA sgC hin hle hsl ho
 by_cases hf:d.cD=true
 ·exact Ee l kA kC az cA cC bA bC d sgA sgC hin hle hsl ⟨by simpa using ho,hf⟩
 ·exact D9 l kA kC az cA cC bA bC d sgA sgC hin hle hsl ⟨by simpa using ho,by simpa using hf⟩
end
section
open Go.RowKit
theorem Ew (r:eU) (kA:OA) (kC:Nat) (az:List RA) (cA:OA) (cC:Nat) (bA:OA) (bC:Nat) (slA:OA) (slC:Nat) (drA:OA) (drC:Nat) (ha:List bZ) (heA:OA) (heC:Nat) (hin:iL r az ha) (hle:e_ r.au=0):
 lR Tryz.prog 106 [(vA (ct.cells (wq r kA kC cA cC bA bC slA slC drA drC heA heC)))] (I8 r kA az cA bA slA drA ha heA) (fun (x:Bool×Int×(OA)×Nat×(List RA))=>bif x.1 then (vT [(vS x.2.2.1 ((fU r).length) x.2.2.2.1),(vB true)]) else (vT [(vS none 0 0),(vB false)])) (fun (x:Bool×Int×(OA)×Nat×(List RA))=>(x.1=true→(fP r∧x.2.2.2.2.length=r.aI.length))∧(x.1=false→(x.2.1=0∧ ¬ fP r))) (fun (x:Bool×Int×(OA)×Nat×(List RA))=>bif x.1 then [(own x.2.2.1 x.2.2.2.1 121 1 (List.zipWith L4 (fU r) x.2.2.2.2)),(bQ (bK E3 (fU r) x.2.2.2.2))] else []):=by
 have Op:=hin.line
 have P3:=hin.fE
 have QI:=hin.has
 have PE:=hin.fM
 have O4:=hin.draw
 have PP:=jo (r:=r)
 refine dL kr Tryz.func106 U U fun w0 Q hQ hN=>?_
 try dsimp only
 refine WS fun _ Lk=>dV U fun b2=>bp 2 U<|RK Lk<|WS fun _ Lo=>dY 4 [] (mc 0 U I) U<|RK Lo<|ag fun _ L0=>WS fun _ N=>bp 1 U<|rS (CL (pq (r.bu.length:Int) 1 5) (aS) U)<|rP 2 [] I ?_
 refine bS (t:=19) U (aX fun K4=>?_) (aW fun K4=>?_)
 ·refine bp 19 U<|RK N<|aL U<|WS fun _ L2=>rP 2 [] I ?_
  refine RK L2<|ak<|LX hQ (false,0,none,0,[]) [] [] I U (by rfl) U U ?_
  (exact ⟨FV,fun _=>⟨rfl,fun q=>by have S:=q.num; have q2:=q.Ax; have q3:=q.nh; have q4:=q.AU; omega⟩⟩)
 refine rP 7 [] (mc 0 U I) ?_
 refine bS (t:=26) U (aX fun X=>?_) (aW fun X=>?_)
 ·refine bp 12 U<|RK N<|aL U<|WS fun _ L3=>rP 2 [] I ?_
  refine RK L3<|ak<|LX hQ (false,0,none,0,[]) [] [] I U (by rfl) U U ?_
  (exact ⟨FV,fun _=>⟨rfl,fun q=>by have S:=q.num; have q2:=q.Ax; have q3:=q.nh; have q4:=q.AU; omega⟩⟩)
 refine dY 2 [] (mc 0 U I) U<|rS (CL (pq r.jd 0 5) (aS) U)<|rP 3 [] I ?_
 refine bS (t:=32) U (aX fun K5=>?_) (aW fun K5=>?_)
 ·refine bp 6 U<|RK N<|aL U<|WS fun _ Mg=>rP 2 [] I ?_
  refine RK Mg<|ak<|LX hQ (false,0,none,0,[]) [] [] I U (by rfl) U U ?_
  (exact ⟨FV,fun _=>⟨rfl,fun q=>by have S:=q.num; have q2:=q.Ax; have q3:=q.nh; have q4:=q.AU; omega⟩⟩)
 refine dY 3 [] (mc 0 U I) U<|rS (CL (pq (r.aI.length:Int) 1 3) (aS) U)<|rP 2 [] I ?_
 refine RK N<|cb U (aX fun LA=>?_) (aW fun LA=>?_)
 ·refine WS fun _ M2=>rP 2 [] I ?_
  refine RK M2<|ak<|LX hQ (false,0,none,0,[]) [] [] I U (by rfl) U U ?_
  (exact ⟨FV,fun _=>⟨rfl,fun q=>by have S:=q.num; have q2:=q.Ax; have q3:=q.nh; have q4:=q.AU; omega⟩⟩)
 refine WK L0<|ag fun _ o=>WS fun _ p=>rP 1 [] I ?_
 refine RK p<|ax ?_
 have A:(0≤r.bu.length)∧(x5 r 0):=by exact ⟨Nat.zero_le _,K3⟩
 refine bP (ι:={z:Nat // (z≤r.bu.length)∧(x5 r z)}) [1,4] [0,1,2,3,4,5,6,7,8] U U (fun z=>[(5,(vI (z.1:Int)))]) (fun z=>[]) (fun _=>rfl) (fun _=>rfl) (fun z=>r.bu.length-z.1) ⟨0,A⟩ (bf U) (aK [0,1,2,3,4,5,6,7,8]) ?_
 clear A
 rintro ⟨i,⟨Nm,AB⟩⟩ J12 T
 try dsimp only
 refine ag fun _ s=>WS fun _ v=>rP 3 [] I ?_
 refine RK v<|bO U (aO fun K0=>?_) (aN fun K0=>?_)
 ·refine bM<|ab<|ab<|aF<|KK o<|WS fun _ B9=>bp 1 U<|RK B9<|ag fun _ CB=>WS fun _ Ci=>rP 1 [] I ?_
  refine RK Ci<|ax<|fu 121 1<|lx ?_
  have A:(0≤r.aI.length)∧(([]:List RA).length=0)∧(kH r 0):=by exact ⟨Nat.zero_le _,rfl,xq⟩
  refine bP (ι:={z:Nat×(List RA)×(OA)×Nat // (z.1≤r.aI.length)∧(z.2.1.length=z.1)∧(kH r z.1)}) [1,4] [2,3,4,5,6,7,8,9,10] U U (fun z=>[(7,(vS z.1.2.2.1 ((List.zipWith Bm (hG r z.1.1) z.1.2.1).length) z.1.2.2.2)),(8,(vI (z.1.1:Int)))]) (fun z=>[(bQ (bK E3 (hG r z.1.1) z.1.2.1)),(own z.1.2.2.1 z.1.2.2.2 121 1 (List.map sC (List.zipWith Bm (hG r z.1.1) z.1.2.1)))]) (fun _=>rfl) (fun _=>rfl) (fun z=>r.aI.length-z.1.1) ⟨(0,([]:List RA),none,0),A⟩ (bf U) (aK [2,3,4,5,6,7,8,9,10,0,1]) ?_
  clear A
  rintro ⟨⟨h,tz,a,c⟩,⟨P,C,F⟩⟩ J46 l
  try dsimp only at P C F
  try dsimp only
  refine ag fun _ Ck=>WS fun _ Cp=>rP 5 [] (mc 0 U I) ?_
  refine RK Cp<|bO U (aO fun LE=>?_) (aN fun LE=>?_)
  ·refine bM<|ab<|ab<|aF<|KK CB<|ag fun _ GT=>?_
   have Ne:hG r h=fU r:=by unfold fU; rw [show h=r.aI.length by omega]
   have Or:tz.length=r.aI.length:=by omega
   rw [Ne,zm,show (List.zipWith Bm (fU r) tz).length=(fU r).length from by rw [List.length_zipWith]; omega]
   have Jk:fP r:=HF (n:=i) om om om om om AB F om
   refine ao<|rP 3 [] I ?_
   refine RK GT<|ak ?_
   refine LX hQ (true,0,a,c,tz) [10,9] [] I U (by (show List.all _ _=true; simp only [cond_true,fV,List.all_nil,DG,Bool.and_true]; rfl)) U U ?_
   exact ⟨fun _=>⟨Jk,Or⟩,Oj⟩
  refine WK Ck<|ag fun _ Cx=>ax<|ag fun _ C0=>WS fun _ C1=>rP 3 [] (mc 0 U I) ?_
  obtain ⟨ht,D⟩:=aA r.aI h om
  obtain ⟨E,H⟩:=aA ha h om
  have W:(List.zipWith cL r.aI ha)[h]? =some (cL ht E):=cG D H
  refine rS (IA h U (av 7 U) kF dc om om) ?_
  have Jb:=hin.fJ _ _ _ D H
  have O5:=Jb.lS
  refine rS (gv h 0 (vS E.1.1 ht.length E.1.2) U bV (av 7 U) W U dc U)<|rP 3 [] I ?_
  refine RK C1<|cb U (aX fun e=>?_) (aW fun e=>?_)
  ·refine WS fun _ C2=>rP 2 [] I ?_
   refine RK C2<|ak<|LX hQ (false,0,none,0,[]) [] [] I U (by rfl) U U ?_
   (exact ⟨FV,fun _=>⟨rfl,fun q=>by have S:=(q.fJ ht (aP D)).1; omega⟩⟩)
  refine WK C0<|WS fun _ C3=>bp 1 U<|RK C3<|ag fun _ Di=>WS fun _ Do=>rP 1 [] I ?_
  refine RK Do<|ax<|fu 38 2 ?_
  have A:(0≤ht.length)∧(oF r.au ht 0):=by exact ⟨Nat.zero_le _,wi⟩
  refine bP (ι:={z:Nat×(OA)×Nat // (z.1≤ht.length)∧(oF r.au ht z.1)}) [1,4,7,8] [1,2,3,4,5,6,7,8,9,10,11] U U (fun z=>[(9,(vS z.1.2.1 (((ht.take z.1.1).map (gD r.au)).length) z.1.2.2)),(10,(vI (z.1.1:Int)))]) (fun z=>[(own z.1.2.1 z.1.2.2 38 2 (((ht.take z.1.1).map (gD r.au)).map ai.cells))]) (fun _=>rfl) (fun _=>rfl) (fun z=>ht.length-z.1.1) ⟨(0,none,0),A⟩ (bf U) (aK [1,2,3,4,5,6,7,8,9,10,11,0]) ?_
  clear A
  rintro ⟨⟨j,la,lc⟩,⟨R,G⟩⟩ J57 m
  try dsimp only at R G
  try dsimp only
  refine ag fun _ EQ=>WS fun _ Eq=>rP 3 [] I ?_
  refine RK Eq<|bO U (aO fun La=>?_) (aN fun La=>?_)
  ·refine bM<|ab<|ab<|aF<|KK Di<|ao ?_
   rw [show ((ht.take j).map (gD r.au))=ht.map (gD r.au) from by rw [List.take_of_length_le om]]
   refine rP 2 [] I ?_
   refine e9 (xs:=[.tmp 137]) (cs:=[(vS la ((ht.map (gD r.au)).length) lc)]) U IS N0 U U U U (by simp [Value.cells]) U U fun Pl=>?_
   refine cP (es2:=(List.map sC (List.zipWith Bm (hG r (h+1)) (tz++[(la,lc)])))) (m':=(List.zipWith Bm (hG r (h+1)) (tz++[(la,lc)])).length) 11 U U U Ou U U sm (bo (es:=List.map sC [(bj.mk la ((ht.map (gD r.au)).length) lc)]) 0 U U (by simp [z_]) U) (Kz _) (by rw [List.length_zipWith,lz om]; omega) (by rw [List.length_zipWith,lz om]; simp only [maxLen]; omega) (by rw [uX D C,List.map_append]; rfl) (by rw [uX D C]; simp) U fun J7 J9=>?_
   try dsimp only
   refine bp 1 U<|aC<|aJ<|KK Cx<|ao<|rP 3 [] I ?_
   refine aC<|yS (X':=bK E3 (hG r (h+1)) (tz++[(la,lc)])) 10 12 U U (Cw (a:=(la,lc)) D C) ?_
   have In:(vI (((h+1):Nat):Int))=(vI ((h:Int)+1)):=by exact cI om
   refine a_ (l ⟨((h+1),(tz++[(la,lc)]),J7,J9),⟨om,by simp; omega,xA F D (EP om G om)⟩⟩ _ _ _ U os (cz 3<|aU U In<|cR.nil _) (aK [2,3,4,5,6,7,8,9,10,0,11]))
  refine WK EQ<|ag fun _ FS=>ax<|ag fun _ Fd=>dp cj [14,15] [] [] [0,1,2,3,4,5,6,7,8,9,10,11] [] U U U U U<|eS U (FA 0 U eD U)<|eS U (LP (bW.cells (jx r.au kA kC cA cC bA bC)) 0 U bV U U U)<|eS U (FA 10 U eD U)<|eS U (L1 (vS heA r.aI.length heC) 0 U bV U U)<|eS U (MV U)<|eS U (IA h U (av 7 U) kF dc om om)<|eS U (gv h 0 (vS E.1.1 ht.length E.1.2) U bV (av 7 U) W U dc U)<|eS U (MV U) ?_
  obtain ⟨d,hd⟩:=aA ht j om
  obtain ⟨da,JJ⟩:=aA E.2 j om
  have NE:(List.zipWith aq.cells ht E.2)[j]? =some (aq.cells d da):=cG hd JJ
  refine eS U (IA j U (show g9 _ (rd E.1.1 ht.length 7 (List.zipWith aq.cells ht E.2)).holds from (cd 8 U (bB D H cr))) ov dc om om)<|eS U (jL j 0 (aR.cells (aR.mk d.Out d.cD d.Time (de.mk d.aV.Start d.aV.gL (bj.mk da.1 d.aV.aa.length da.2)))) U bV (show g9 _ (rd E.1.1 ht.length 7 (List.zipWith aq.cells ht E.2)).holds from (cd 8 U (bB D H cr))) NE U dc U U) ?_
  have Qr:=Jb.sig d (aP hd)
  refine eS U (CL (Gw r.au kA kC az cA cC bA bC d da.1 da.2 asm hle asm) (mJ [1,2,3,4]<|aw (show g9 _ (rd da.1 d.aV.aa.length 2 (d.aV.aa.map aH.cells)).holds from (cd 8 U (bB D H (dH _ (bB hd JJ (by simp [aq.jU]))))))<|aS) U)<|eS U (MV U)<|eS U (EX U)<|eS U (EX U)<|eS U (AG U)<|eg U<|cf U fun T63 Go=>AL U eh fun PV=>aC (Go _ _ (aK [1,2,3,4,5,6,7,8,9,10,11,12]) ?_)
  refine cf U fun T65 Hi=>e7 U cW U<|aC (Hi _ _ (aK [1,2,3,4,5,6,7,8,9,10,11,12]) ?_)
  refine e8 U<|KK Fd<|ag fun _ Fk=>WS fun _ Fn=>rP 2 [] I ?_
  refine RK Fn<|cb U (aX fun J=>?_) (aW fun J=>?_)
  ·refine WS fun _ GE=>rP 2 [] I ?_
   refine RK GE<|ak<|LX hQ (false,0,none,0,[]) [] [] I U (by rfl) U U ?_
   (exact ⟨FV,fun _=>⟨rfl,fun q=>by exact J ((q.fJ ht (aP D)).2 d (aP hd))⟩⟩)
  refine WK Fk<|ao<|rP 2 [] (mc 0 U I) ?_
  refine e9 (xs:=[.tmp 133]) (cs:=(ai.cells (pC r.au d))) U lF eh U U U U (by simp [Value.cells,ai.bI]) U U fun Pi=>?_
  refine cP (es2:=(List.map ai.cells ((ht.take (j+1)).map (gD r.au)))) (m':=((ht.take (j+1)).map (gD r.au)).length) 13 U U U Gd U U sm (bo (es:=List.map ai.cells [(pC r.au d)]) 0 U U (by simp [ai.bI]) U) (ld _) (by simp only [List.length_map,List.length_take]; omega) (by simp only [maxLen,List.length_map,List.length_take]; omega) (by rw [List.take_add_one,hd]; simp [Kp J]) sq U fun J6 J8=>?_
  try dsimp only
  refine bp 1 U<|aC<|aJ<|KK FS<|ao<|rP 3 [] I ?_
  refine aC ?_
  have If:(vI (((j+1):Nat):Int))=(vI ((j:Int)+1)):=by exact cI om
  refine a_ (m ⟨((j+1),J6,J8),⟨om,wg G hd J⟩⟩ _ _ _ U os (cz 5<|aU U If<|cR.nil _) (aK [2,3,4,5,6,7,8,9,10,11,12,13]))
 refine WK s<|ag fun _ AA=>ax<|ag fun _ V=>ag fun _ K=>cS cj 36 kr<|dP 3 [] (mc 0 U I) ?_
 obtain ⟨y,hy⟩:=aA r.bu i om
 have J2:=bH iC hy
 refine dS (IA i U (av 5 U) dI dc om om)<|dS (gv i 0 (vI y) U bV (av 5 U) J2 U dc U)<|dS (CL (pq y 0 9999) (aS) U)<|dP 2 [] I ?_
 refine ic (t:=51) U (aX fun LT=>?_) (aW fun LT=>?_)
 ·refine kI 28 U<|cu<|RK K<|aL U<|WS fun _ w=>rP 2 [] I ?_
  refine RK w<|ak<|LX hQ (false,0,none,0,[]) [] [] I U (by rfl) U U ?_
  (exact ⟨FV,fun _=>⟨rfl,fun q=>by have S:=(q.ids i y hy).1; omega⟩⟩)
 refine dP 3 [] I ?_
 refine jm (t:=54) U (aO fun LV=>?_) (aN fun LV=>?_)
 ·refine dP 18 [] (mc 0 U I) ?_
  obtain ⟨x,hx⟩:=aA r.cN i om
  have M:=bH iC hx
  refine dS (IA i U (av 6 U) dI dc om om)<|dS (gv i 0 (vI x) U bV (av 6 U) M U dc U)<|kI 2 U<|dS (CL (pq x 0 ((r.bu.length:Int)-1)) (aS) U)<|dP 2 [] I ?_
  refine cu<|RK K<|cb U (aX fun Y=>?_) (aW fun Y=>?_)
  ·refine WS fun _ A5=>rP 2 [] I ?_
   refine RK A5<|ak<|LX hQ (false,0,none,0,[]) [] [] I U (by rfl) U U ?_
   (exact ⟨FV,fun _=>⟨rfl,fun q=>by have S:=q.K6 hx; omega⟩⟩)
  refine WK V<|WS fun _ A6=>rP 1 [] I ?_
  refine RK A6<|ax ?_
  have A:(0≤i)∧(∀ (q:Nat) y,q<0→r.cN[q]? =some y→y≠x):=by exact ⟨Nat.zero_le _,fun q y hq=>absurd hq (Nat.not_lt_zero _)⟩
  refine bP (ι:={z:Nat // (z≤i)∧(∀ (q:Nat) y,q<z→r.cN[q]? =some y→y≠x)}) [1,4,5] [0,1,2,3,4,5,6,7,8] U U (fun z=>[(6,(vI (z.1:Int)))]) (fun z=>[]) (fun _=>rfl) (fun _=>rfl) (fun z=>i-z.1) ⟨0,A⟩ (bf U) (aK [0,1,2,3,4,5,6,7,8]) ?_
  clear A
  rintro ⟨k,⟨O,B⟩⟩ J34 g
  try dsimp only
  refine ag fun _ A7=>WS fun _ A8=>rP 3 [] I ?_
  refine RK A8<|bO U (aO fun K8=>?_) (aN fun K8=>?_)
  ·refine bM<|ab<|ab<|aF<|aJ<|KK AA<|ao<|rP 3 [] I ?_
   refine aC ?_
   have Id:(vI (((i+1):Nat):Int))=(vI ((i:Int)+1)):=by exact cI om
   refine a_ (T ⟨(i+1),⟨om,B_ AB (fun a ha=>by rw [hy] at ha; cases ha; exact ⟨om,fun b hb hc=>by omega⟩) (fun a ha=>by rw [hx] at ha; cases ha; exact ⟨om,fun k b hk hb=>B k b om hb⟩)⟩⟩ _ _ _ rfl os (cR.cons rfl<|cR.cons rfl<|aU rfl Id<|cR.nil _) (aK [0,1,2,3,4,5,6,7,8]))
  refine WK A7<|ag fun _ A9=>ax<|ag fun _ Ba=>cS cj 11 kr<|dP 3 [] (mc 0 U I) ?_
  obtain ⟨u,hu⟩:=aA r.cN k om
  have Z:=bH iC hu
  refine dS (IA k U (av 6 U) dI dc om om)<|dS (gv k 0 (vI u) U bV (av 6 U) Z U dc U)<|kf 3 [] (mc 0 U I) U<|dS (IA i U (av 6 U) dI dc om om)<|dS (gv i 0 (vI x) U bV (av 6 U) M U dc U)<|dP 1 [] I ?_
  refine cu<|RK Ba<|bO U (aO fun L=>?_) (aN fun L=>?_)
  ·refine cg<|aJ<|KK A9<|ao<|rP 3 [] I ?_
   refine aC ?_
   have IR:(vI (((k+1):Nat):Int))=(vI ((k:Int)+1)):=by exact cI om
   refine a_ (g ⟨(k+1),⟨om,xG B hu L⟩⟩ _ _ _ U os (cz 3<|aU U IR<|cR.nil _) (aK [0,1,2,3,4,5,6,7,8]))
  refine WS fun _ B3=>rP 2 [] I ?_
  refine RK B3<|ak<|LX hQ (false,0,none,0,[]) [] [] I U (by rfl) U U ?_
  (exact ⟨FV,fun _=>⟨rfl,fun q=>by have S:=q.num; have q2:=q.Ax; have q3:=q.nh; have q4:=q.AU; omega⟩⟩)
 refine kf 3 [] (mc 0 U I) U<|dS (IA i U (av 5 U) dI dc om om)<|dS (gv i 0 (vI y) U bV (av 5 U) J2 U dc U)<|dP 4 [] (mc 0 U I) ?_
 obtain ⟨z,hz⟩:=aA r.bu (i-1) om
 have Os:=bH iC hz
 refine dS (IA (i-1) U (av 5 U) dI dc om om)<|dS (gv (i-1) 0 (vI z) U bV (av 5 U) Os U dc U)<|dP 4 [] I ?_
 refine ic (t:=69) U (aN fun Li=>?_) (aO fun Li=>?_)
 ·refine kI 10 U<|cu<|RK K<|aL U<|WS fun _ AC=>rP 2 [] I ?_
  refine RK AC<|ak<|LX hQ (false,0,none,0,[]) [] [] I U (by rfl) U U ?_
  (exact ⟨FV,fun _=>⟨rfl,fun q=>by have S:=(q.ids i y hy).2 z om hz; omega⟩⟩)
 refine dP 3 [] (mc 0 U I) ?_
 obtain ⟨x,hx⟩:=aA r.cN i om
 have M:=bH iC hx
 refine dS (IA i U (av 6 U) dI dc om om)<|dS (gv i 0 (vI x) U bV (av 6 U) M U dc U)<|kI 2 U<|dS (CL (pq x 0 ((r.bu.length:Int)-1)) (aS) U)<|dP 2 [] I ?_
 refine cu<|RK K<|cb U (aX fun Y=>?_) (aW fun Y=>?_)
 ·refine WS fun _ AO=>rP 2 [] I ?_
  refine RK AO<|ak<|LX hQ (false,0,none,0,[]) [] [] I U (by rfl) U U ?_
  (exact ⟨FV,fun _=>⟨rfl,fun q=>by have S:=q.K6 hx; omega⟩⟩)
 refine WK V<|WS fun _ Ag=>rP 1 [] I ?_
 refine RK Ag<|ax ?_
 have A:(0≤i)∧(∀ (q:Nat) y,q<0→r.cN[q]? =some y→y≠x):=by exact ⟨Nat.zero_le _,fun q y hq=>absurd hq (Nat.not_lt_zero _)⟩
 refine bP (ι:={z:Nat // (z≤i)∧(∀ (q:Nat) y,q<z→r.cN[q]? =some y→y≠x)}) [1,4,5] [0,1,2,3,4,5,6,7,8] U U (fun z=>[(6,(vI (z.1:Int)))]) (fun z=>[]) (fun _=>rfl) (fun _=>rfl) (fun z=>i-z.1) ⟨0,A⟩ (bf U) (aK [0,1,2,3,4,5,6,7,8]) ?_
 clear A
 rintro ⟨k,⟨O,B⟩⟩ J23 f
 try dsimp only
 refine ag fun _ A0=>WS fun _ A1=>rP 3 [] I ?_
 refine RK A1<|bO U (aO fun X=>?_) (aN fun X=>?_)
 ·refine bM<|ab<|ab<|aF<|aJ<|KK AA<|ao<|rP 3 [] I ?_
  refine aC ?_
  have IO:(vI (((i+1):Nat):Int))=(vI ((i:Int)+1)):=by exact cI om
  refine a_ (T ⟨(i+1),⟨om,B_ AB (fun a ha=>by rw [hy] at ha; cases ha; exact ⟨om,fun b hb hc=>by (rw [hz] at hc; cases hc; omega)⟩) (fun a ha=>by rw [hx] at ha; cases ha; exact ⟨om,fun k b hk hb=>B k b om hb⟩)⟩⟩ _ _ _ rfl os (cR.cons rfl<|cR.cons rfl<|aU rfl IO<|cR.nil _) (aK [0,1,2,3,4,5,6,7,8]))
 refine WK A0<|ag fun _ A2=>ax<|ag fun _ A3=>cS cj 11 kr<|dP 3 [] (mc 0 U I) ?_
 obtain ⟨u,hu⟩:=aA r.cN k om
 have Z:=bH iC hu
 refine dS (IA k U (av 6 U) dI dc om om)<|dS (gv k 0 (vI u) U bV (av 6 U) Z U dc U)<|kf 3 [] (mc 0 U I) U<|dS (IA i U (av 6 U) dI dc om om)<|dS (gv i 0 (vI x) U bV (av 6 U) M U dc U)<|dP 1 [] I ?_
 refine cu<|RK A3<|bO U (aO fun L=>?_) (aN fun L=>?_)
 ·refine cg<|aJ<|KK A2<|ao<|rP 3 [] I ?_
  refine aC ?_
  have H1:(vI (((k+1):Nat):Int))=(vI ((k:Int)+1)):=by exact cI om
  refine a_ (f ⟨(k+1),⟨om,xG B hu L⟩⟩ _ _ _ U os (cz 3<|aU U H1<|cR.nil _) (aK [0,1,2,3,4,5,6,7,8]))
 refine WS fun _ A4=>rP 2 [] I ?_
 refine RK A4<|ak<|LX hQ (false,0,none,0,[]) [] [] I U (by rfl) U U ?_
 (exact ⟨FV,fun _=>⟨rfl,fun q=>by exact q.PZ om hu hx L⟩⟩)
end
section
open Go.RowKit
theorem Gq (r:eU) (kA:OA) (kC:Nat) (az:List RA) (cA:OA) (cC:Nat) (bA:OA) (bC:Nat) (slA:OA) (slC:Nat) (drA:OA) (drC:Nat) (ha:List bZ) (heA:OA) (heC:Nat) (hin:iL r az ha):
 lR Tryz.prog 86 [(vA (ct.cells (wq r kA kC cA cC bA bC slA slC drA drC heA heC)))] (I8 r kA az cA bA slA drA ha heA) (fun (x:Bool×Int×(OA)×Nat×(List RA))=>bif x.1 then (vT [(vS x.2.2.1 ((fU r).length) x.2.2.2.1),(vI 0)]) else (vT [(vS none 0 0),(vI x.2.1)])) (fun (x:Bool×Int×(OA)×Nat×(List RA))=>(x.1=true→(jE r=0∧x.2.2.2.2.length=r.aI.length))∧(x.1=false→(x.2.1=jE r∧ ¬ jE r=0))) (fun (x:Bool×Int×(OA)×Nat×(List RA))=>bif x.1 then [(own x.2.2.1 x.2.2.2.1 121 1 (List.zipWith L4 (fU r) x.2.2.2.2)),(bQ (bK E3 (fU r) x.2.2.2.2))] else []):=by
 have AA:=hin.line
 have b:=hin.fE
 have c:=hin.has
 have Z:=hin.fM
 have Y:=hin.draw
 have a:=jo (r:=r)
 refine dL kr Tryz.func86 U U fun f Q hQ hN=>?_
 try dsimp only
 refine WS fun _ O=>dV U fun e=>bp 2 U<|RK O<|ag fun _ P=>WS fun _ R=>bp 1 U<|rS (LP (bW.cells (jx r.au kA kC cA cC bA bC)) 0 U bV U U U)<|rS (CL (xC r.au kA kC az cA cC bA bC asm) (aY [1,2,3,4]) U)<|bp 1 U<|RK R<|WS fun _ S=>rP 2 [] I ?_
 refine RK S<|cb U (aX fun A=>?_) (aW fun A=>?_)
 ·refine WS fun _ T=>rP 3 [] I ?_
  refine RK T<|ak<|LX hQ (false,(e_ r.au),none,0,[]) [] [] I U (by rfl) U U ?_
  exact o9<|QJ (zl A) A
 refine WK P<|WS fun _ G=>rP 1 [] (mc 0 U I) ?_
 refine cX (Ew r kA kC az cA cC bA bC slA slC drA drC ha heA heC hin (by exact A)) (aY [1,2,3,4,5,6,7,8]) U fun d J=>?_
 obtain ⟨K,W,L,M,N⟩:=d
 cases K
 rotate_left 1
 ·obtain ⟨AB,V⟩:=J.1 rfl
  try dsimp only [cond_true,cond_false,List.cons_append,List.nil_append]
  refine bp 5 U<|RK G<|ag fun _ D=>WS fun _ E=>bp 2 U<|RK E<|bT U<|WK D<|WS fun _ F=>rP 3 [] I ?_
  refine RK F<|ak ?_
  refine LX hQ (true,0,L,M,N) [0,1] [] I U (by (show List.all _ _=true; simp only [cond_true,fV,List.all_nil,DG,Bool.and_true]; rfl)) U U ?_
  exact ⟨fun _=>⟨CN A AB,V⟩,Oj⟩
 obtain ⟨H,he⟩:=J.2 rfl
 try dsimp only at H he
 subst H
 try dsimp only [cond_true,cond_false,List.cons_append,List.nil_append]
 refine bp 5 U<|RK G<|ag fun _ X=>WS fun _ B=>bp 2 U<|RK B<|aL U<|WS fun _ C=>rP 2 [] I ?_
 refine RK C<|ak<|LX hQ (false,60,none,0,[]) [] [] I U (by rfl) U U ?_
 exact o9<|qT (kY A he)
end
section
open Go.RowKit
theorem zi (r:eU) (kA:OA) (kC:Nat) (az:List RA) (cA:OA) (cC:Nat) (bA:OA) (bC:Nat) (slA:OA) (slC:Nat) (drA:OA) (drC:Nat) (ha:List bZ) (heA:OA) (heC:Nat) (hin:iL r az ha):
 dG Tryz.prog 56 [(vA (ct.cells (wq r kA kC cA cC bA bC slA slC drA drC heA heC)))] (I8 r kA az cA bA slA drA ha heA) (vI (jE r)):=by
 have H:=hin.line
 have M:=hin.fE
 have N:=hin.has
 have J:=hin.fM
 have AB:=hin.draw
 have K:=jo (r:=r)
 refine bG kr Tryz.func56 U U fun V Q hQ hN=>?_
 try dsimp only
 refine WS fun _ G=>dV U fun AA=>bp 1 U<|RK G<|WS fun _ C=>rP 1 [] (mc 0 U I) ?_
 refine cX (Gq r kA kC az cA cC bA bC slA slC drA drC ha heA heC hin) (aY [1,2,3,4,5,6,7,8]) U fun T E=>?_
 obtain ⟨F,L,P,R,S⟩:=T
 cases F
 rotate_left 1
 ·obtain ⟨he,O⟩:=E.1 rfl
  try dsimp only [cond_true,cond_false,List.cons_append,List.nil_append]
  refine bp 5 U<|RK C<|WS fun _ B=>rP 2 [] I ?_
  refine RK B<|ak<|Q1 hQ U U U ?_
  first|rfl|(rw [he])
 obtain ⟨D,he⟩:=E.2 rfl
 try dsimp only at D he
 subst D
 try dsimp only [cond_true,cond_false,List.cons_append,List.nil_append]
 refine bp 5 U<|RK C<|WS fun _ A=>rP 2 [] I ?_
 refine RK A<|ak<|Q1 hQ U U U ?_
 first|rfl|(rw [he])
end
section
open Go.RowKit
theorem G0 (j:cw) (kA:OA) (kC:Nat) (az:List RA) (cA:OA) (cC:Nat) (bA:OA) (bC:Nat) (slA:OA) (slC:Nat) (drA:OA) (drC:Nat) (ha:List bZ) (heA:OA) (heC:Nat) (faA:OA) (faC:Nat) (prA:OA) (prC:Nat) (hin:er j az ha) (hjr:jE j.Race=0):
 dG Tryz.prog 72 [(vA (eY.cells (lJ j kA kC cA cC bA bC slA slC drA drC heA heC faA faC prA prC)))] (pb j kA az cA bA slA drA ha heA faA prA) (vB (decide (qY j))):=by
 have n:=hin.race
 have Os:=hin.race.line
 have R2:=hin.race.fE
 have R3:=hin.race.has
 have PV:=hin.race.fM
 have PE:=hin.nf
 have PP:=hin.np
 have R4:=(dx hjr).1
 have Jk:=(dx hjr).2
 refine bG kr Tryz.func72 U U fun w0 Q hQ hN=>?_
 try dsimp only
 refine WS fun _ M2=>dV U fun b2=>bp 1 U<|RK M2<|ag fun _ NE=>WS fun _ a=>rP 5 [] (mc 0 U I) ?_
 refine bS (t:=12) U (aN fun h5=>?_) (aO fun h5=>?_)
 ·refine bp 17 U<|RK a<|aL U<|WS fun _ Ne=>rP 1 [] I ?_
  refine RK Ne<|ak<|Q1 hQ U U U ?_
  first|exact cB (br (fun q=>by have C:=q.nf; have H:=q.min_; have J:=q.td; have K:=q.np; omega)).symm|exact cB (br (fun q=>by have C:=q.fault f (aP hf); unfold fj at C; split at C<;>omega)).symm|exact cB (br (fun q=>by have A:=q.ia _ p hp; have C:=A.id; have H:=A.k6; have J:=A.fJ; have K:=A.fault; simp only [qQ] at H; first|omega|(have V:=A.up AA om L; omega))).symm|exact cB (br (fun q=>by obtain ⟨R,G,AB,T⟩:=(q.ia _ p hp).lQ; rw [F] at G; cases G; first|exact E AB|exact h148 AB|omega)).symm|exact cB (dC ⟨om,dW D om,om,om,om,fun i p hi=>B i p (by have:=(aZ.1 hi).1; omega) hi⟩).symm
 refine dY 2 [] (mc 0 U I) U<|rS (CL (il j.gu 0 60) (aS) U)<|rP 3 [] I ?_
 refine bS (t:=18) U (aX fun h7=>?_) (aW fun h7=>?_)
 ·refine bp 11 U<|RK a<|aL U<|WS fun _ Nm=>rP 1 [] I ?_
  refine RK Nm<|ak<|Q1 hQ U U U ?_
  first|exact cB (br (fun q=>by have C:=q.nf; have H:=q.min_; have J:=q.td; have K:=q.np; omega)).symm|exact cB (br (fun q=>by have C:=q.fault f (aP hf); unfold fj at C; split at C<;>omega)).symm|exact cB (br (fun q=>by have A:=q.ia _ p hp; have C:=A.id; have H:=A.k6; have J:=A.fJ; have K:=A.fault; simp only [qQ] at H; first|omega|(have V:=A.up AA om L; omega))).symm|exact cB (br (fun q=>by obtain ⟨R,G,AB,T⟩:=(q.ia _ p hp).lQ; rw [F] at G; cases G; first|exact E AB|exact h148 AB|omega)).symm|exact cB (dC ⟨om,dW D om,om,om,om,fun i p hi=>B i p (by have:=(aZ.1 hi).1; omega) hi⟩).symm
 refine dY 2 [] (mc 0 U I) U<|rS (CL (il j.kU 0 100000) (aS) U)<|rP 3 [] I ?_
 refine bS (t:=24) U (aX fun h9=>?_) (aW fun h9=>?_)
 ·refine bp 5 U<|RK a<|aL U<|WS fun _ s=>rP 1 [] I ?_
  refine RK s<|ak<|Q1 hQ U U U ?_
  first|exact cB (br (fun q=>by have C:=q.nf; have H:=q.min_; have J:=q.td; have K:=q.np; omega)).symm|exact cB (br (fun q=>by have C:=q.fault f (aP hf); unfold fj at C; split at C<;>omega)).symm|exact cB (br (fun q=>by have A:=q.ia _ p hp; have C:=A.id; have H:=A.k6; have J:=A.fJ; have K:=A.fault; simp only [qQ] at H; first|omega|(have V:=A.up AA om L; omega))).symm|exact cB (br (fun q=>by obtain ⟨R,G,AB,T⟩:=(q.ia _ p hp).lQ; rw [F] at G; cases G; first|exact E AB|exact h148 AB|omega)).symm|exact cB (dC ⟨om,dW D om,om,om,om,fun i p hi=>B i p (by have:=(aZ.1 hi).1; omega) hi⟩).symm
 refine rP 5 [] (mc 0 U I) ?_
 refine RK a<|cb U (aN fun J3=>?_) (aO fun J3=>?_)
 ·refine WS fun _ u=>rP 1 [] I ?_
  refine RK u<|ak<|Q1 hQ U U U ?_
  first|exact cB (br (fun q=>by have C:=q.nf; have H:=q.min_; have J:=q.td; have K:=q.np; omega)).symm|exact cB (br (fun q=>by have C:=q.fault f (aP hf); unfold fj at C; split at C<;>omega)).symm|exact cB (br (fun q=>by have A:=q.ia _ p hp; have C:=A.id; have H:=A.k6; have J:=A.fJ; have K:=A.fault; simp only [qQ] at H; first|omega|(have V:=A.up AA om L; omega))).symm|exact cB (br (fun q=>by obtain ⟨R,G,AB,T⟩:=(q.ia _ p hp).lQ; rw [F] at G; cases G; first|exact E AB|exact h148 AB|omega)).symm|exact cB (dC ⟨om,dW D om,om,om,om,fun i p hi=>B i p (by have:=(aZ.1 hi).1; omega) hi⟩).symm
 refine WK NE<|ag fun _ v=>WS fun _ w=>rP 1 [] I ?_
 refine RK w<|ax ?_
 have S:(0≤j.aM.length)∧(pQ j 0):=by exact ⟨Nat.zero_le _,Cy⟩
 refine bP (ι:={z:Nat // (z≤j.aM.length)∧(pQ j z)}) [1] [0,1,2,3,4,5,6,7,8,9,10] U U (fun z=>[(3,(vI (z.1:Int)))]) (fun z=>[]) (fun _=>rfl) (fun _=>rfl) (fun z=>j.aM.length-z.1) ⟨0,S⟩ (bf U) (aK [0,1,2,3,4,5,6,7,8,9,10]) ?_
 clear S
 rintro ⟨i,⟨Or,D⟩⟩ J15 W
 try dsimp only
 refine ag fun _ x=>WS fun _ y=>rP 5 [] (mc 0 U I) ?_
 refine RK y<|cb U (aN fun J4=>?_) (aO fun J4=>?_)
 ·refine WK x<|ag fun _ X=>ax<|WS fun _ AC=>rP 3 [] (mc 0 U I) ?_
  obtain ⟨f,hf⟩:=aA j.aM i om
  have Op:=bH bg.cells hf
  refine rS (IA i U (av 9 U) xZ dc om om)<|rS (jL i 0 (bg.cells f) U bV (av 9 U) Op U dc U U)<|AL U S8 fun PZ=>e7 U Ru U<|RK AC<|ag fun _ AO=>WS fun _ c=>dY 4 [] (mc 0 U I) U<|rS (CL (il f.mz 0 f.To) (aS) U)<|rP 2 [] I ?_
  refine bS (t:=48) U (aX fun J6=>?_) (aW fun J6=>?_)
  ·refine bp 4 U<|RK c<|aL U<|WS fun _ AU=>rP 1 [] I ?_
   refine RK AU<|ak<|Q1 hQ U U U ?_
   first|exact cB (br (fun q=>by have C:=q.nf; have H:=q.min_; have J:=q.td; have K:=q.np; omega)).symm|exact cB (br (fun q=>by have C:=q.fault f (aP hf); unfold fj at C; split at C<;>omega)).symm|exact cB (br (fun q=>by have A:=q.ia _ p hp; have C:=A.id; have H:=A.k6; have J:=A.fJ; have K:=A.fault; simp only [qQ] at H; first|omega|(have V:=A.up AA om L; omega))).symm|exact cB (br (fun q=>by obtain ⟨R,G,AB,T⟩:=(q.ia _ p hp).lQ; rw [F] at G; cases G; first|exact E AB|exact h148 AB|omega)).symm|exact cB (dC ⟨om,dW D om,om,om,om,fun i p hi=>B i p (by have:=(aZ.1 hi).1; omega) hi⟩).symm
  refine rP 4 [] (mc 0 U I) ?_
  refine RK c<|cb U (aN fun J7=>?_) (aO fun J7=>?_)
  ·refine WS fun _ Ag=>rP 1 [] I ?_
   refine RK Ag<|ak<|Q1 hQ U U U ?_
   first|exact cB (br (fun q=>by have C:=q.nf; have H:=q.min_; have J:=q.td; have K:=q.np; omega)).symm|exact cB (br (fun q=>by have C:=q.fault f (aP hf); unfold fj at C; split at C<;>omega)).symm|exact cB (br (fun q=>by have A:=q.ia _ p hp; have C:=A.id; have H:=A.k6; have J:=A.fJ; have K:=A.fault; simp only [qQ] at H; first|omega|(have V:=A.up AA om L; omega))).symm|exact cB (br (fun q=>by obtain ⟨R,G,AB,T⟩:=(q.ia _ p hp).lQ; rw [F] at G; cases G; first|exact E AB|exact h148 AB|omega)).symm|exact cB (dC ⟨om,dW D om,om,om,om,fun i p hi=>B i p (by have:=(aZ.1 hi).1; omega) hi⟩).symm
  refine WK AO<|WS fun _ Ax=>dY 2 [] (mc 0 U I) U<|RK Ax<|ax<|WS fun _ A0=>rS (BI U ks)<|rP 1 [] I ?_
  refine RK A0<|cb U (aN fun J8=>?_) (aO fun J8=>?_)
  ·refine WS fun _ A1=>rP 3 [] (mc 0 U I) ?_
   refine RK A1<|bO U (aW fun J9=>?_) (aX fun J9=>?_)
   ·refine cg<|aJ<|aJ<|KK X<|ao<|rP 3 [] I ?_
    refine aC ?_
    have H1:(vI (((i+1):Nat):Int))=(vI ((i:Int)+1)):=by exact cI om
    refine a_ (W ⟨(i+1),⟨om,rq D hf (by refine ⟨om,om,om,?_⟩; split<;>omega)⟩⟩ _ _ _ U os (cR.cons U<|aU U H1<|cR.nil _) (aK [1,2,3,4,5,6,7,8,9,10,11]))
   refine WS fun _ A2=>rP 1 [] I ?_
   refine RK A2<|ak<|Q1 hQ U U U ?_
   first|exact cB (br (fun q=>by have C:=q.nf; have H:=q.min_; have J:=q.td; have K:=q.np; omega)).symm|exact cB (br (fun q=>by have C:=q.fault f (aP hf); unfold fj at C; split at C<;>omega)).symm|exact cB (br (fun q=>by have A:=q.ia _ p hp; have C:=A.id; have H:=A.k6; have J:=A.fJ; have K:=A.fault; simp only [qQ] at H; first|omega|(have V:=A.up AA om L; omega))).symm|exact cB (br (fun q=>by obtain ⟨R,G,AB,T⟩:=(q.ia _ p hp).lQ; rw [F] at G; cases G; first|exact E AB|exact h148 AB|omega)).symm|exact cB (dC ⟨om,dW D om,om,om,om,fun i p hi=>B i p (by have:=(aZ.1 hi).1; omega) hi⟩).symm
  refine ag fun _ e=>WS fun _ A3=>rS (BI U ks)<|rP 1 [] I ?_
  refine RK A3<|cb U (aN fun K0=>?_) (aO fun K0=>?_)
  ·refine WK e<|bO U (aO fun K4=>?_) (aN fun K4=>?_)
   ·refine WS fun _ A6=>rP 1 [] I ?_
    refine RK A6<|ak<|Q1 hQ U U U ?_
    first|exact cB (br (fun q=>by have C:=q.nf; have H:=q.min_; have J:=q.td; have K:=q.np; omega)).symm|exact cB (br (fun q=>by have C:=q.fault f (aP hf); unfold fj at C; split at C<;>omega)).symm|exact cB (br (fun q=>by have A:=q.ia _ p hp; have C:=A.id; have H:=A.k6; have J:=A.fJ; have K:=A.fault; simp only [qQ] at H; first|omega|(have V:=A.up AA om L; omega))).symm|exact cB (br (fun q=>by obtain ⟨R,G,AB,T⟩:=(q.ia _ p hp).lQ; rw [F] at G; cases G; first|exact E AB|exact h148 AB|omega)).symm|exact cB (dC ⟨om,dW D om,om,om,om,fun i p hi=>B i p (by have:=(aZ.1 hi).1; omega) hi⟩).symm
   refine WS fun _ A4=>dY 6 [0,1] (mc 0 U (mc 1 U I)) U<|rS (CL (il f.hE 0 j.Race.au.bU) (aS) U)<|rP 1 [] I ?_
   refine RK A4<|bO U (aW fun K5=>?_) (aX fun K5=>?_)
   ·refine cg<|aJ<|aJ<|KK X<|ao<|rP 3 [] I ?_
    refine aC ?_
    have IO:(vI (((i+1):Nat):Int))=(vI ((i:Int)+1)):=by exact cI om
    refine a_ (W ⟨(i+1),⟨om,rq D hf (by refine ⟨om,om,om,?_⟩; split<;>omega)⟩⟩ _ _ _ U os (cR.cons U<|aU U IO<|cR.nil _) (aK [1,2,3,4,5,6,7,8,9,10,11]))
   refine WS fun _ A5=>rP 1 [] I ?_
   refine RK A5<|ak<|Q1 hQ U U U ?_
   first|exact cB (br (fun q=>by have C:=q.nf; have H:=q.min_; have J:=q.td; have K:=q.np; omega)).symm|exact cB (br (fun q=>by have C:=q.fault f (aP hf); unfold fj at C; split at C<;>omega)).symm|exact cB (br (fun q=>by have A:=q.ia _ p hp; have C:=A.id; have H:=A.k6; have J:=A.fJ; have K:=A.fault; simp only [qQ] at H; first|omega|(have V:=A.up AA om L; omega))).symm|exact cB (br (fun q=>by obtain ⟨R,G,AB,T⟩:=(q.ia _ p hp).lQ; rw [F] at G; cases G; first|exact E AB|exact h148 AB|omega)).symm|exact cB (dC ⟨om,dW D om,om,om,om,fun i p hi=>B i p (by have:=(aZ.1 hi).1; omega) hi⟩).symm
  refine ao<|rS (BI U ks)<|rP 1 [] I ?_
  refine RK e<|bO U (aO fun K6=>?_) (aN fun K6=>?_)
  ·refine WS fun _ A9=>rP 1 [] I ?_
   refine RK A9<|ak<|Q1 hQ U U U ?_
   first|exact cB (br (fun q=>by have C:=q.nf; have H:=q.min_; have J:=q.td; have K:=q.np; omega)).symm|exact cB (br (fun q=>by have C:=q.fault f (aP hf); unfold fj at C; split at C<;>omega)).symm|exact cB (br (fun q=>by have A:=q.ia _ p hp; have C:=A.id; have H:=A.k6; have J:=A.fJ; have K:=A.fault; simp only [qQ] at H; first|omega|(have V:=A.up AA om L; omega))).symm|exact cB (br (fun q=>by obtain ⟨R,G,AB,T⟩:=(q.ia _ p hp).lQ; rw [F] at G; cases G; first|exact E AB|exact h148 AB|omega)).symm|exact cB (dC ⟨om,dW D om,om,om,om,fun i p hi=>B i p (by have:=(aZ.1 hi).1; omega) hi⟩).symm
  refine WS fun _ A7=>dY 6 [0,1] (mc 0 U (mc 1 U I)) U<|rS (CL (il f.hE 0 j.Race.au.bU) (aS) U)<|rP 1 [] I ?_
  refine RK A7<|bO U (aW fun K8=>?_) (aX fun K8=>?_)
  ·refine cg<|aJ<|aJ<|KK X<|ao<|rP 3 [] I ?_
   refine aC ?_
   have IR:(vI (((i+1):Nat):Int))=(vI ((i:Int)+1)):=by exact cI om
   refine a_ (W ⟨(i+1),⟨om,rq D hf (by refine ⟨om,om,om,?_⟩; split<;>omega)⟩⟩ _ _ _ U os (cR.cons U<|aU U IR<|cR.nil _) (aK [1,2,3,4,5,6,7,8,9,10,11]))
  refine WS fun _ A8=>rP 1 [] I ?_
  refine RK A8<|ak<|Q1 hQ U U U ?_
  first|exact cB (br (fun q=>by have C:=q.nf; have H:=q.min_; have J:=q.td; have K:=q.np; omega)).symm|exact cB (br (fun q=>by have C:=q.fault f (aP hf); unfold fj at C; split at C<;>omega)).symm|exact cB (br (fun q=>by have A:=q.ia _ p hp; have C:=A.id; have H:=A.k6; have J:=A.fJ; have K:=A.fault; simp only [qQ] at H; first|omega|(have V:=A.up AA om L; omega))).symm|exact cB (br (fun q=>by obtain ⟨R,G,AB,T⟩:=(q.ia _ p hp).lQ; rw [F] at G; cases G; first|exact E AB|exact h148 AB|omega)).symm|exact cB (dC ⟨om,dW D om,om,om,om,fun i p hi=>B i p (by have:=(aZ.1 hi).1; omega) hi⟩).symm
 refine bM<|ab<|ab<|aF<|KK v<|ag fun _ Ba=>WS fun _ B3=>rP 1 [] I ?_
 refine RK B3<|ax ?_
 have S:(0≤j.aB.length)∧(oG j 0):=by exact ⟨Nat.zero_le _,xp⟩
 refine bP (ι:={z:Nat // (z≤j.aB.length)∧(oG j z)}) [1] [0,1,2,3,4,5,6,7,8,9,10] U U (fun z=>[(5,(vI (z.1:Int)))]) (fun z=>[]) (fun _=>rfl) (fun _=>rfl) (fun z=>j.aB.length-z.1) ⟨0,S⟩ (bf U) (aK [0,1,2,3,4,5,6,7,8,9,10]) ?_
 clear S
 rintro ⟨k,⟨J2,B⟩⟩ J52 b
 try dsimp only
 refine ag fun _ B9=>WS fun _ CB=>rP 5 [] (mc 0 U I) ?_
 refine RK CB<|bO U (aO fun LA=>?_) (aN fun LA=>?_)
 ·refine bM<|ab<|ab<|aF<|KK Ba<|WS fun _ Fn=>rP 1 [] I ?_
  refine RK Fn<|ak<|Q1 hQ U U U ?_
  first|exact cB (br (fun q=>by have C:=q.nf; have H:=q.min_; have J:=q.td; have K:=q.np; omega)).symm|exact cB (br (fun q=>by have C:=q.fault f (aP hf); unfold fj at C; split at C<;>omega)).symm|exact cB (br (fun q=>by have A:=q.ia _ p hp; have C:=A.id; have H:=A.k6; have J:=A.fJ; have K:=A.fault; simp only [qQ] at H; first|omega|(have V:=A.up AA om L; omega))).symm|exact cB (br (fun q=>by obtain ⟨R,G,AB,T⟩:=(q.ia _ p hp).lQ; rw [F] at G; cases G; first|exact E AB|exact h148 AB|omega)).symm|exact cB (dC ⟨om,dW D om,om,om,om,fun i p hi=>B i p (by have:=(aZ.1 hi).1; omega) hi⟩).symm
 refine WK B9<|ag fun _ g=>ax<|WS fun _ Ci=>rP 3 [] (mc 0 U I) ?_
 obtain ⟨p,hp⟩:=aA j.aB k om
 have O4:=bH bR.cells hp
 refine rS (IA k U (av 10 U) wM dc om om)<|rS (jL k 0 (bR.cells p) U bV (av 10 U) O4 U dc U U)<|AL U Br fun Pi=>e7 U BU U<|RK Ci<|ag fun _ h=>ag fun _ P=>cS cj 52 kr<|kf 2 [] (mc 0 U I) U<|dS (CL (il p.Id 0 9999) (aS) U)<|dP 2 [] I ?_
 refine ic (t:=87) U (aX fun LE=>?_) (aW fun LE=>?_)
 ·refine kI 47 U<|cu<|RK P<|aL U<|WS fun _ Ck=>rP 1 [] I ?_
  refine RK Ck<|ak<|Q1 hQ U U U ?_
  first|exact cB (br (fun q=>by have C:=q.nf; have H:=q.min_; have J:=q.td; have K:=q.np; omega)).symm|exact cB (br (fun q=>by have C:=q.fault f (aP hf); unfold fj at C; split at C<;>omega)).symm|exact cB (br (fun q=>by have A:=q.ia _ p hp; have C:=A.id; have H:=A.k6; have J:=A.fJ; have K:=A.fault; simp only [qQ] at H; omega)).symm|exact cB (br (fun q=>by obtain ⟨R,G,AB,T⟩:=(q.ia _ p hp).lQ; rw [F] at G; cases G; first|exact E AB|exact h148 AB|omega)).symm|exact cB (dC ⟨om,dW D om,om,om,om,fun i p hi=>B i p (by have:=(aZ.1 hi).1; omega) hi⟩).symm
 refine dP 3 [] I ?_
 refine jm (t:=90) U (aO fun LT=>?_) (aN fun LT=>?_)
 ·refine kf 20 [0,1] (mc 0 U (mc 1 U I)) U<|dS (CL (il p.gH 0 ((j.Race.bu.length:Int)-1)) (aS) U)<|dP 3 [] I ?_
  refine ic (t:=114) U (aX fun L0=>?_) (aW fun L0=>?_)
  ·refine kI 20 U<|cu<|RK P<|aL U<|WS fun _ Do=>rP 1 [] I ?_
   refine RK Do<|ak<|Q1 hQ U U U ?_
   first|exact cB (br (fun q=>by have C:=q.nf; have H:=q.min_; have J:=q.td; have K:=q.np; omega)).symm|exact cB (br (fun q=>by have C:=q.fault f (aP hf); unfold fj at C; split at C<;>omega)).symm|exact cB (br (fun q=>by have A:=q.ia _ p hp; have C:=A.id; have H:=A.k6; have J:=A.fJ; have K:=A.fault; simp only [qQ] at H; omega)).symm|exact cB (br (fun q=>by obtain ⟨R,G,AB,T⟩:=(q.ia _ p hp).lQ; rw [F] at G; cases G; first|exact E AB|exact h148 AB|omega)).symm|exact cB (dC ⟨om,dW D om,om,om,om,fun i p hi=>B i p (by have:=(aZ.1 hi).1; omega) hi⟩).symm
  refine kf 7 [0,1] (mc 0 U (mc 1 U I)) U<|dS (CL (il p.ib 0 ((j.Race.aI.length:Int)-1)) (aS) U)<|dP 3 [] I ?_
  refine ic (t:=125) U (aX fun L2=>?_) (aW fun L2=>?_)
  ·refine kI 9 U<|cu<|RK P<|aL U<|WS fun _ EQ=>rP 1 [] I ?_
   refine RK EQ<|ak<|Q1 hQ U U U ?_
   first|exact cB (br (fun q=>by have C:=q.nf; have H:=q.min_; have J:=q.td; have K:=q.np; omega)).symm|exact cB (br (fun q=>by have C:=q.fault f (aP hf); unfold fj at C; split at C<;>omega)).symm|exact cB (br (fun q=>by have A:=q.ia _ p hp; have C:=A.id; have H:=A.k6; have J:=A.fJ; have K:=A.fault; simp only [qQ] at H; omega)).symm|exact cB (br (fun q=>by obtain ⟨R,G,AB,T⟩:=(q.ia _ p hp).lQ; rw [F] at G; cases G; first|exact E AB|exact h148 AB|omega)).symm|exact cB (dC ⟨om,dW D om,om,om,om,fun i p hi=>B i p (by have:=(aZ.1 hi).1; omega) hi⟩).symm
  refine kf 6 [0,1] (mc 0 U (mc 1 U I)) U<|dS (CL (il p.gh 0 ((j.aM.length:Int)-1)) (aS) U)<|dP 2 [] I ?_
  refine cu<|RK P<|cb U (aX fun L3=>?_) (aW fun L3=>?_)
  ·refine WS fun _ Eq=>rP 1 [] I ?_
   refine RK Eq<|ak<|Q1 hQ U U U ?_
   first|exact cB (br (fun q=>by have C:=q.nf; have H:=q.min_; have J:=q.td; have K:=q.np; omega)).symm|exact cB (br (fun q=>by have C:=q.fault f (aP hf); unfold fj at C; split at C<;>omega)).symm|exact cB (br (fun q=>by have A:=q.ia _ p hp; have C:=A.id; have H:=A.k6; have J:=A.fJ; have K:=A.fault; simp only [qQ] at H; omega)).symm|exact cB (br (fun q=>by obtain ⟨R,G,AB,T⟩:=(q.ia _ p hp).lQ; rw [F] at G; cases G; first|exact E AB|exact h148 AB|omega)).symm|exact cB (dC ⟨om,dW D om,om,om,om,fun i p hi=>B i p (by have:=(aZ.1 hi).1; omega) hi⟩).symm
  refine WK h<|ag fun _ FS=>dp cj [11,12] [] [] [0,1,2,3,4,5,6,7,8,9,10,11] [] U U U U U<|eS U (FA 0 U eD U)<|eS U (FA 10 U eD U)<|eS U (L1 (vS heA j.Race.aI.length heC) 1 U bV U U)<|eS U (FA 2 U eD U)<|eS U (L1 (vI p.ib) 0 U bV U U) ?_
  obtain ⟨ht,O⟩:=aA j.Race.aI ((p.ib).toNat) om
  obtain ⟨M,N⟩:=aA ha ((p.ib).toNat) om
  have Z:(List.zipWith cL j.Race.aI ha)[(p.ib).toNat]? =some (cL ht M):=cG O N
  refine eS U (IA ((p.ib).toNat) U (av 8 U) kF dc om om) ?_
  have Y:=n.fJ _ _ _ O N
  have JJ:=Y.lS
  have Jb:=(Jk.fJ ht (aP O)).1
  refine eS U (gv ((p.ib).toNat) 0 (vS M.1.1 ht.length M.1.2) U bV (av 8 U) Z U dc U)<|eS U (FA 1 U eD U)<|eS U (L1 (vI p.gH) 0 U bV U U) ?_
  obtain ⟨d,hd⟩:=aA ht ((p.gH).toNat) om
  obtain ⟨da,o⟩:=aA M.2 ((p.gH).toNat) om
  have r:(List.zipWith aq.cells ht M.2)[(p.gH).toNat]? =some (aq.cells d da):=cG hd o
  refine eS U (IA ((p.gH).toNat) U (show g9 _ (rd M.1.1 ht.length 7 (List.zipWith aq.cells ht M.2)).holds from (cd 9 U (bB O N cr))) ov dc om om) ?_
  have F:=mF (j:=j) (p:=p) O hd
  have O5:=Y.sig d (aP hd)
  refine eS U (jL ((p.gH).toNat) 0 (aR.cells (aR.mk d.Out d.cD d.Time (de.mk d.aV.Start d.aV.gL (bj.mk da.1 d.aV.aa.length da.2)))) U bV (show g9 _ (rd M.1.1 ht.length 7 (List.zipWith aq.cells ht M.2)).holds from (cd 9 U (bB O N cr))) r U dc U U)<|eg U<|cf U fun T88 Go=>AL U II fun P3=>aC (Go _ _ (aK [1,2,3,4,5,6,7,8,9,10,11,12]) ?_)
  refine cf U fun T90 Hi=>e7 U Et U<|aC (Hi _ _ (aK [1,2,3,4,5,6,7,8,9,10,11,12]) ?_)
  refine e8 U<|KK FS<|WS fun _ m=>dY 1 [] (mc 0 U I) U<|rS (CL (ur d.Out d.cD d.Time (de.mk d.aV.Start d.aV.gL (bj.mk da.1 d.aV.aa.length da.2))) (aS) U)<|rP 2 [] I ?_
  refine bS (t:=149) U (aX fun E=>?_) (aW fun E=>?_)
  ·refine bp 8 U<|RK m<|aL U<|WS fun _ Fd=>rP 1 [] I ?_
   refine RK Fd<|ak<|Q1 hQ U U U ?_
   first|exact cB (br (fun q=>by have C:=q.nf; have H:=q.min_; have J:=q.td; have K:=q.np; omega)).symm|exact cB (br (fun q=>by have C:=q.fault f (aP hf); unfold fj at C; split at C<;>omega)).symm|exact cB (br (fun q=>by have A:=q.ia _ p hp; have C:=A.id; have H:=A.k6; have J:=A.fJ; have K:=A.fault; simp only [qQ] at H; first|omega|(have V:=A.up AA om L; omega))).symm|exact cB (br (fun q=>by obtain ⟨R,G,AB,T⟩:=(q.ia _ p hp).lQ; rw [F] at G; cases G; exact E AB)).symm|exact cB (dC ⟨om,dW D om,om,om,om,fun i p hi=>B i p (by have:=(aZ.1 hi).1; omega) hi⟩).symm
  refine dY 5 [0,1] (mc 1 U (mc 0 U I)) U<|rS (CL (il p.At d.aV.Start 86400000) (aS) U)<|rP 2 [] I ?_
  refine RK m<|bO U (aW fun Mg=>?_) (aX fun Mg=>?_)
  ·refine cg<|aJ<|KK g<|ao<|rP 3 [] I ?_
   refine aC ?_
   have In:(vI (((k+1):Nat):Int))=(vI ((k:Int)+1)):=by exact cI om
   refine a_ (b ⟨(k+1),⟨om,tx B hp ⟨om,fun q h1 h2=>by omega,by simp only [qQ]; omega,om,om,d,F,by first|exact E|exact h148,om⟩⟩⟩ _ _ _ U os (cR.cons U<|aU U In<|cR.nil _) (aK [2,3,4,5,6,7,8,9,10,11,12]))
  refine WS fun _ Fk=>rP 1 [] I ?_
  refine RK Fk<|ak<|Q1 hQ U U U ?_
  first|exact cB (br (fun q=>by have C:=q.nf; have H:=q.min_; have J:=q.td; have K:=q.np; omega)).symm|exact cB (br (fun q=>by have C:=q.fault f (aP hf); unfold fj at C; split at C<;>omega)).symm|exact cB (br (fun q=>by have A:=q.ia _ p hp; have C:=A.id; have H:=A.k6; have J:=A.fJ; have K:=A.fault; simp only [qQ] at H; first|omega|(have V:=A.up AA om L; omega))).symm|exact cB (br (fun q=>by obtain ⟨R,G,AB,T⟩:=(q.ia _ p hp).lQ; rw [F] at G; cases G; omega)).symm|exact cB (dC ⟨om,dW D om,om,om,om,fun i p hi=>B i p (by have:=(aZ.1 hi).1; omega) hi⟩).symm
 refine dP 6 [0,1] (mc 0 U (mc 1 U I)) ?_
 obtain ⟨AA,L⟩:=aA j.aB (k-1) om
 have hp0m:=bH bR.cells L
 refine dS (IA (k-1) U (av 11 U) wM dc om om)<|dS (nQ ((k-1)*5) U (av 11 U) (Nat.mul_pos om dc) eD U)<|dS (gv (k-1) 0 (vI AA.Id) U bV (av 11 U) hp0m U dc U)<|dP 4 [] I ?_
 refine ic (t:=103) U (aN fun LV=>?_) (aO fun LV=>?_)
 ·refine kI 31 U<|cu<|RK P<|aL U<|WS fun _ Cp=>rP 1 [] I ?_
  refine RK Cp<|ak<|Q1 hQ U U U ?_
  first|exact cB (br (fun q=>by have C:=q.nf; have H:=q.min_; have J:=q.td; have K:=q.np; omega)).symm|exact cB (br (fun q=>by have C:=q.fault f (aP hf); unfold fj at C; split at C<;>omega)).symm|exact cB (br (fun q=>by have A:=q.ia _ p hp; have C:=A.id; have H:=A.k6; have J:=A.fJ; have K:=A.fault; simp only [qQ] at H; (have V:=A.up AA om L; omega))).symm|exact cB (br (fun q=>by obtain ⟨R,G,AB,T⟩:=(q.ia _ p hp).lQ; rw [F] at G; cases G; first|exact E AB|exact h148 AB|omega)).symm|exact cB (dC ⟨om,dW D om,om,om,om,fun i p hi=>B i p (by have:=(aZ.1 hi).1; omega) hi⟩).symm
 refine kf 7 [0,1] (mc 0 U (mc 1 U I)) U<|dS (CL (il p.gH 0 ((j.Race.bu.length:Int)-1)) (aS) U)<|dP 3 [] I ?_
 refine ic (t:=114) U (aX fun La=>?_) (aW fun La=>?_)
 ·refine kI 20 U<|cu<|RK P<|aL U<|WS fun _ Cx=>rP 1 [] I ?_
  refine RK Cx<|ak<|Q1 hQ U U U ?_
  first|exact cB (br (fun q=>by have C:=q.nf; have H:=q.min_; have J:=q.td; have K:=q.np; omega)).symm|exact cB (br (fun q=>by have C:=q.fault f (aP hf); unfold fj at C; split at C<;>omega)).symm|exact cB (br (fun q=>by have A:=q.ia _ p hp; have C:=A.id; have H:=A.k6; have J:=A.fJ; have K:=A.fault; simp only [qQ] at H; omega)).symm|exact cB (br (fun q=>by obtain ⟨R,G,AB,T⟩:=(q.ia _ p hp).lQ; rw [F] at G; cases G; first|exact E AB|exact h148 AB|omega)).symm|exact cB (dC ⟨om,dW D om,om,om,om,fun i p hi=>B i p (by have:=(aZ.1 hi).1; omega) hi⟩).symm
 refine kf 7 [0,1] (mc 0 U (mc 1 U I)) U<|dS (CL (il p.ib 0 ((j.Race.aI.length:Int)-1)) (aS) U)<|dP 3 [] I ?_
 refine ic (t:=125) U (aX fun Li=>?_) (aW fun Li=>?_)
 ·refine kI 9 U<|cu<|RK P<|aL U<|WS fun _ C0=>rP 1 [] I ?_
  refine RK C0<|ak<|Q1 hQ U U U ?_
  first|exact cB (br (fun q=>by have C:=q.nf; have H:=q.min_; have J:=q.td; have K:=q.np; omega)).symm|exact cB (br (fun q=>by have C:=q.fault f (aP hf); unfold fj at C; split at C<;>omega)).symm|exact cB (br (fun q=>by have A:=q.ia _ p hp; have C:=A.id; have H:=A.k6; have J:=A.fJ; have K:=A.fault; simp only [qQ] at H; omega)).symm|exact cB (br (fun q=>by obtain ⟨R,G,AB,T⟩:=(q.ia _ p hp).lQ; rw [F] at G; cases G; first|exact E AB|exact h148 AB|omega)).symm|exact cB (dC ⟨om,dW D om,om,om,om,fun i p hi=>B i p (by have:=(aZ.1 hi).1; omega) hi⟩).symm
 refine kf 6 [0,1] (mc 0 U (mc 1 U I)) U<|dS (CL (il p.gh 0 ((j.aM.length:Int)-1)) (aS) U)<|dP 2 [] I ?_
 refine cu<|RK P<|cb U (aX fun Lk=>?_) (aW fun Lk=>?_)
 ·refine WS fun _ C1=>rP 1 [] I ?_
  refine RK C1<|ak<|Q1 hQ U U U ?_
  first|exact cB (br (fun q=>by have C:=q.nf; have H:=q.min_; have J:=q.td; have K:=q.np; omega)).symm|exact cB (br (fun q=>by have C:=q.fault f (aP hf); unfold fj at C; split at C<;>omega)).symm|exact cB (br (fun q=>by have A:=q.ia _ p hp; have C:=A.id; have H:=A.k6; have J:=A.fJ; have K:=A.fault; simp only [qQ] at H; omega)).symm|exact cB (br (fun q=>by obtain ⟨R,G,AB,T⟩:=(q.ia _ p hp).lQ; rw [F] at G; cases G; first|exact E AB|exact h148 AB|omega)).symm|exact cB (dC ⟨om,dW D om,om,om,om,fun i p hi=>B i p (by have:=(aZ.1 hi).1; omega) hi⟩).symm
 refine WK h<|ag fun _ C2=>dp cj [11,12] [] [] [0,1,2,3,4,5,6,7,8,9,10,11] [] U U U U U<|eS U (FA 0 U eD U)<|eS U (FA 10 U eD U)<|eS U (L1 (vS heA j.Race.aI.length heC) 1 U bV U U)<|eS U (FA 2 U eD U)<|eS U (L1 (vI p.ib) 0 U bV U U) ?_
 obtain ⟨ht,O⟩:=aA j.Race.aI ((p.ib).toNat) om
 obtain ⟨M,N⟩:=aA ha ((p.ib).toNat) om
 have Z:(List.zipWith cL j.Race.aI ha)[(p.ib).toNat]? =some (cL ht M):=cG O N
 refine eS U (IA ((p.ib).toNat) U (av 8 U) kF dc om om) ?_
 have Y:=n.fJ _ _ _ O N
 have JJ:=Y.lS
 have Jb:=(Jk.fJ ht (aP O)).1
 refine eS U (gv ((p.ib).toNat) 0 (vS M.1.1 ht.length M.1.2) U bV (av 8 U) Z U dc U)<|eS U (FA 1 U eD U)<|eS U (L1 (vI p.gH) 0 U bV U U) ?_
 obtain ⟨d,hd⟩:=aA ht ((p.gH).toNat) om
 obtain ⟨da,o⟩:=aA M.2 ((p.gH).toNat) om
 have r:(List.zipWith aq.cells ht M.2)[(p.gH).toNat]? =some (aq.cells d da):=cG hd o
 refine eS U (IA ((p.gH).toNat) U (show g9 _ (rd M.1.1 ht.length 7 (List.zipWith aq.cells ht M.2)).holds from (cd 9 U (bB O N cr))) ov dc om om) ?_
 have F:=mF (j:=j) (p:=p) O hd
 have O5:=Y.sig d (aP hd)
 refine eS U (jL ((p.gH).toNat) 0 (aR.cells (aR.mk d.Out d.cD d.Time (de.mk d.aV.Start d.aV.gL (bj.mk da.1 d.aV.aa.length da.2)))) U bV (show g9 _ (rd M.1.1 ht.length 7 (List.zipWith aq.cells ht M.2)).holds from (cd 9 U (bB O N cr))) r U dc U U)<|eg U<|cf U fun T73 GE=>AL U II fun Pl=>aC (GE _ _ (aK [1,2,3,4,5,6,7,8,9,10,11,12]) ?_)
 refine cf U fun T75 GT=>e7 U Et U<|aC (GT _ _ (aK [1,2,3,4,5,6,7,8,9,10,11,12]) ?_)
 refine e8 U<|KK C2<|WS fun _ l=>dY 1 [] (mc 0 U I) U<|rS (CL (ur d.Out d.cD d.Time (de.mk d.aV.Start d.aV.gL (bj.mk da.1 d.aV.aa.length da.2))) (aS) U)<|rP 2 [] I ?_
 refine bS (t:=149) U (aX fun E=>?_) (aW fun E=>?_)
 ·refine bp 8 U<|RK l<|aL U<|WS fun _ C3=>rP 1 [] I ?_
  refine RK C3<|ak<|Q1 hQ U U U ?_
  first|exact cB (br (fun q=>by have C:=q.nf; have H:=q.min_; have J:=q.td; have K:=q.np; omega)).symm|exact cB (br (fun q=>by have C:=q.fault f (aP hf); unfold fj at C; split at C<;>omega)).symm|exact cB (br (fun q=>by have A:=q.ia _ p hp; have C:=A.id; have H:=A.k6; have J:=A.fJ; have K:=A.fault; simp only [qQ] at H; first|omega|(have V:=A.up AA om L; omega))).symm|exact cB (br (fun q=>by obtain ⟨R,G,AB,T⟩:=(q.ia _ p hp).lQ; rw [F] at G; cases G; exact E AB)).symm|exact cB (dC ⟨om,dW D om,om,om,om,fun i p hi=>B i p (by have:=(aZ.1 hi).1; omega) hi⟩).symm
 refine dY 5 [0,1] (mc 1 U (mc 0 U I)) U<|rS (CL (il p.At d.aV.Start 86400000) (aS) U)<|rP 2 [] I ?_
 refine RK l<|bO U (aW fun Lo=>?_) (aX fun Lo=>?_)
 ·refine cg<|aJ<|KK g<|ao<|rP 3 [] I ?_
  refine aC ?_
  have If:(vI (((k+1):Nat):Int))=(vI ((k:Int)+1)):=by exact cI om
  refine a_ (b ⟨(k+1),⟨om,tx B hp ⟨om,fun q h1 h2=>by (rw [L] at h2; cases h2; omega),by simp only [qQ]; omega,om,om,d,F,by first|exact E|exact h148,om⟩⟩⟩ _ _ _ rfl os (cR.cons rfl<|aU rfl If<|cR.nil _) (aK [2,3,4,5,6,7,8,9,10,11,12]))
 refine WS fun _ Di=>rP 1 [] I ?_
 refine RK Di<|ak<|Q1 hQ U U U ?_
 first|exact cB (br (fun q=>by have C:=q.nf; have H:=q.min_; have J:=q.td; have K:=q.np; omega)).symm|exact cB (br (fun q=>by have C:=q.fault f (aP hf); unfold fj at C; split at C<;>omega)).symm|exact cB (br (fun q=>by have A:=q.ia _ p hp; have C:=A.id; have H:=A.k6; have J:=A.fJ; have K:=A.fault; simp only [qQ] at H; first|omega|(have V:=A.up AA om L; omega))).symm|exact cB (br (fun q=>by obtain ⟨R,G,AB,T⟩:=(q.ia _ p hp).lQ; rw [F] at G; cases G; omega)).symm|exact cB (dC ⟨om,dW D om,om,om,om,fun i p hi=>B i p (by have:=(aZ.1 hi).1; omega) hi⟩).symm
end
section
open Go.RowKit
theorem nc (j:cw) (kA:OA) (kC:Nat) (az:List RA) (cA:OA) (cC:Nat) (bA:OA) (bC:Nat) (slA:OA) (slC:Nat) (drA:OA) (drC:Nat) (ha:List bZ) (heA:OA) (heC:Nat) (faA:OA) (faC:Nat) (prA:OA) (prC:Nat) (hin:er j az ha):
 dG Tryz.prog 43 [(vA (eY.cells (lJ j kA kC cA cC bA bC slA slC drA drC heA heC faA faC prA prC)))] (pb j kA az cA bA slA drA ha heA faA prA) (vI (dU j)):=by
 have O:=hin.race
 have L:=hin.race.line
 have R:=hin.race.fE
 have S:=hin.race.has
 have P:=hin.race.fM
 have M:=hin.nf
 have N:=hin.np
 refine bG kr Tryz.func43 U U fun AA Q hQ hN=>?_
 try dsimp only
 refine WS fun _ D=>dV U fun T=>bp 1 U<|RK D<|ag fun _ E=>WS fun _ F=>bp 1 U<|rS (LP (ct.cells (wq j.Race kA kC cA cC bA bC slA slC drA drC heA heC)) 0 U bV U U U)<|rS (CL (zi j.Race kA kC az cA cC bA bC slA slC drA drC ha heA heC asm) (aY [1,2,3,4,5,6,7,8]) U)<|bp 1 U<|RK F<|WS fun _ G=>rP 2 [] I ?_
 refine RK G<|cb U (aX fun C=>?_) (aW fun C=>?_)
 ·refine WS fun _ H=>rP 2 [] I ?_
  refine RK H<|ak<|Q1 hQ U U U ?_
  exact cI (z8 C).symm
 refine WK E<|ag fun _ AB=>WS fun _ J=>dY 1 [] (mc 0 U I) U<|rS (CL (G0 j kA kC az cA cC bA bC slA slC drA drC ha heA heC faA faC prA prC hin asm) (aY [1,2,3,4,5,6,7,8,9,10]) U)<|rP 1 [] I ?_
 refine RK J<|cb U (aX fun A=>?_) (aW fun A=>?_)
 ·refine WS fun _ K=>rP 1 [] I ?_
  refine RK K<|ak<|Q1 hQ U U U ?_
  exact cI (jQ C A).symm
 refine WK AB<|WS fun _ B=>rP 1 [] I ?_
 refine RK B<|ak<|Q1 hQ U U U ?_
 exact cI (Bo C A).symm
end
section
open Go.RowKit
theorem Ar (G:List (List Int)) (H:List (List Int)) (gz:List RA) (gA:OA) (gC:Nat) (hz:List RA) (hA:OA) (hC:Nat) (h1:G.length≤1000000) (h2:H.length≤1000000) (h3: ∀ l∈G,l.length≤1000000) (h4: ∀ l∈H,l.length≤1000000) (hgz:gz.length=G.length) (hhz:hz.length=H.length):
 dG Tryz.prog 13 [(vS gA G.length gC),(vS hA H.length hC)] [(rd gA G.length 1 (List.zipWith tU G gz)),(iH (bK OK G gz)),(rd hA H.length 1 (List.zipWith tU H hz)),(iH (bK OK H hz))] (vB (decide (G=H))):=by
 refine bG kr Tryz.func13 U U fun Z Q hQ hN=>?_
 try dsimp only
 refine WS fun _ N=>bp 1 U<|RK N<|ag fun _ O=>WS fun _ P=>rP 5 [] I ?_
 refine RK P<|cb U (aX fun hl=>?_) (aW fun hl=>?_)
 ·refine WS fun _ R=>rP 1 [] I ?_
  refine RK R<|ak<|Q1 hQ U U U ?_
  exact cB (br (fun e=>by subst e; omega)).symm
 refine WK O<|ag fun _ S=>WS fun _ T=>rP 1 [] I ?_
 refine RK T<|ax ?_
 have A:(0≤G.length)∧(G.take 0=H.take 0):=by exact ⟨Nat.zero_le _,rfl⟩
 refine bP (ι:={z:Nat // (z≤G.length)∧(G.take z=H.take z)}) [0,1] [0,1,2,3] U U (fun z=>[(5,(vI (z.1:Int)))]) (fun z=>[]) (fun _=>rfl) (fun _=>rfl) (fun z=>G.length-z.1) ⟨0,A⟩ (bf U) (aK [0,1,2,3]) ?_
 clear A
 rintro ⟨i,⟨W,B⟩⟩ J7 M
 try dsimp only
 refine ag fun _ AA=>WS fun _ V=>rP 4 [] I ?_
 refine RK V<|bO U (aO fun L=>?_) (aN fun L=>?_)
 ·refine bM<|ab<|ab<|aF<|KK S<|WS fun _ F=>rP 1 [] I ?_
  refine RK F<|ak<|Q1 hQ U U U ?_
  exact cB (dC (jD om B om)).symm
 refine WK AA<|ag fun _ C=>ax<|ag fun _ D=>cS cj 10 kr<|dP 2 [] I ?_
 obtain ⟨x,hx⟩:=aA G i om
 obtain ⟨xa,J⟩:=aA gz i om
 have X:(List.zipWith tU G gz)[i]? =some (tU x xa):=cG hx J
 refine dS (IA i U (av 0 U) GL dc om om)<|dS (gv i 0 (vS xa.1 x.length xa.2) U bV (av 0 U) X U dc U)<|dP 2 [] I ?_
 obtain ⟨y,hy⟩:=aA H i om
 obtain ⟨ya,K⟩:=aA hz i om
 have Y:(List.zipWith tU H hz)[i]? =some (tU y ya):=cG hy K
 refine dS (IA i U (av 2 U) GL dc om om)<|dS (gv i 0 (vS ya.1 y.length ya.2) U bV (av 2 U) Y U dc U)<|dS (CL (rr x xa.1 xa.2 y ya.1 ya.2 (by exact h3 x (aP hx)) (by exact h4 y (aP hy))) (aw (show g9 _ (rd xa.1 x.length 1 (x.map iC)).holds from (cd 1 U (bB hx J (by simp [OK]))))<|aw (show g9 _ (rd ya.1 y.length 1 (y.map iC)).holds from (cd 3 U (bB hy K (by simp [OK]))))<|aS) U)<|dP 1 [] I ?_
 refine cu<|RK D<|cb U (aX fun h=>?_) (aW fun h=>?_)
 ·refine WS fun _ E=>rP 1 [] I ?_
  refine RK E<|ak<|Q1 hQ U U U ?_
  exact cB (br (nX hx hy h)).symm
 refine cg<|aJ<|KK C<|ao<|rP 3 [] I ?_
 refine aC ?_
 have AB:(vI (((i+1):Nat):Int))=(vI ((i:Int)+1)):=by exact cI om
 refine a_ (M ⟨(i+1),⟨om,iz B hx hy h⟩⟩ _ _ _ U os (cR.cons U<|cR.cons U<|aU U AB<|cR.nil _) (aK [0,1,2,3]))
end
section
open Go.RowKit
theorem Nv (l:bq) (kA:OA) (kC:Nat) (az:List RA) (cA:OA) (cC:Nat) (bA:OA) (bC:Nat) (hin:ed l az) (hng: ¬ lh l):
 lR Tryz.prog 71 [(vA (bW.cells (jx l kA kC cA cC bA bC)))] (o7 l kA az cA bA) (fun (x:(OA)×Nat×(OA)×Nat×(List RA)×(OA)×Nat)=>(vA (bW.cells (bW.mk (bJ.mk (bj.mk x.1 l.bL.length x.2.1)) l.gl (bj.mk x.2.2.1 l.aG.length x.2.2.2.1) (bj.mk x.2.2.2.2.2.1 l.aj.length x.2.2.2.2.2.2) l.bU l.ew l.cU)))) (fun (x:(OA)×Nat×(OA)×Nat×(List RA)×(OA)×Nat)=>x.2.2.2.2.1.length=l.aG.length∧mU l.aG x.2.2.2.2.1) (fun (x:(OA)×Nat×(OA)×Nat×(List RA)×(OA)×Nat)=>[(own x.1 x.2.1 128 9 (l.bL.map aD.cells)),(own x.2.2.1 x.2.2.2.1 133 2 (List.zipWith aT.cells l.aG x.2.2.2.2.1)),(bQ (bK aT.owns l.aG x.2.2.2.2.1)),(own x.2.2.2.2.2.1 x.2.2.2.2.2.2 137 4 (l.aj.map cO.cells))]):=by
 have v:=hin.qI
 have u:=hin.qG
 have G:=hin.lS
 have t:=hin.qD
 have Z:=u6 hng
 refine dL Ui Tryz.func71 U U fun w0 Q hQ hN=>?_
 try dsimp only
 refine WS fun _ p=>dV U fun b2=>AL U L5 fun b3=>RK p<|WS fun _ q=>rP 1 [] I ?_
 refine rS (LP (bJ.cells (bJ.mk (bj.mk kA l.bL.length kC))) 1 U SC U U U)<|cX (O0 l.bL kA kC asm) (aY [2]) U fun y w=>?_
 obtain ⟨c,d⟩:=y
 try dsimp only
 refine bp 1 U<|UL (bW.cells (bW.mk (bJ.mk (bj.mk c l.bL.length d)) l.gl (bj.mk cA l.aG.length cC) (bj.mk bA l.aj.length bC) l.bU l.ew l.cU)) U Rd U U<|RK q<|WS fun _ r=>lH U vq U fun e=>rP 2 [] (mc 3 U I) ?_
 refine fy (es:=(List.map dE.cells [])) (C':=[own (some ⟨e,0,none⟩) 0 133 2 (List.map dE.cells []),_,_,_,_,_,_,_]) 0 U sm U (by simp [maxLen]) U ?_
 refine cP (es2:=(List.zipWith aT.cells l.aG az)) (m':=l.aG.length) 0 U U U Ri U U sm (av 5 U) (yo _ _) os (by (simp only [maxLen]; omega)) sm (gO G) U fun B D=>?_
 try dsimp only
 refine bp 1 U<|PY (bW.cells (bW.mk (bJ.mk (bj.mk c l.bL.length d)) l.gl (bj.mk B l.aG.length D) (bj.mk bA l.aj.length bC) l.bU l.ew l.cU)) U QU U U<|RK r<|ag fun _ N=>WS fun _ O=>rP 1 [] I ?_
 refine RK O<|ax<|lx ?_
 have H:(0≤l.aG.length)∧(([]:List RA).length=0)∧(mU l.aG ([]:List RA)):=by exact ⟨Nat.zero_le _,rfl,fun k m a _ h=>by simp at h⟩
 refine bP (ι:={z:Nat×(List RA) // (z.1≤l.aG.length)∧(z.2.length=z.1)∧(mU l.aG z.2)}) [1,2] [2,3,4,5,6,7,8] U U (fun z=>[(3,(vI (z.1.1:Int)))]) (fun z=>[(bQ (bK aT.owns (l.aG.take z.1.1) z.1.2)),(own B D 133 2 (List.zipWith aT.cells l.aG (sO z.1.2 az z.1.1)))]) (fun _=>rfl) (fun _=>rfl) (fun z=>l.aG.length-z.1.1) ⟨(0,([]:List RA)),H⟩ (bf U) (aK [2,3,4,5,6,7,8,0,1]) ?_
 clear H
 rintro ⟨⟨i,bz⟩,⟨AB,A,F⟩⟩ J15 M
 try dsimp only at AB A F
 try dsimp only
 refine ag fun _ P=>WS fun _ R=>rP 5 [] (mc 2 U I) ?_
 refine RK R<|bO U (aO fun j=>?_) (aN fun j=>?_)
 ·refine bM<|ab<|ab<|aF<|KK N<|WS fun _ T=>lH U uv U fun g=>?_
  rw [show sO bz az i=bz from KU om]
  rw [show l.aG.take i=l.aG from List.take_of_length_le om]
  refine rP 2 [] (mc 3 U I) ?_
  refine fy (es:=(List.map cO.cells [])) (C':=[own (some ⟨g,0,none⟩) 0 137 4 (List.map cO.cells []),_,_,_,_,_,_,_,_,_]) 0 U sm U (by simp [maxLen]) U ?_
  refine cP (es2:=(List.map cO.cells l.aj)) (m':=l.aj.length) 0 U U U Rh U U sm (av 7 U) (qK _) os (by (simp only [maxLen]; omega)) sm sm U fun K L=>?_
  try dsimp only
  refine bp 1 U<|PY (bW.cells (bW.mk (bJ.mk (bj.mk c l.bL.length d)) l.gl (bj.mk B l.aG.length D) (bj.mk K l.aj.length L) l.bU l.ew l.cU)) U Sr U U<|RK T<|WS fun _ AA=>rP 1 [] (mc 3 U I) ?_
  refine CT U JX U<|RK AA<|ak ?_
  refine LX hQ (c,d,B,D,bz,K,L) [1,9,8,0] [0] (mc 2 U I) U (by simp only [fV,List.all_nil,kB,Bool.and_true]; rfl) U U ?_
  exact ⟨dso,F⟩
 refine WK P<|ag fun _ S=>ax<|dp cj [3,10,13] [6,7,8,9,10] [0,1] [0,1,2,3,4,5,6,7] [0,1,2,3,4,5,6,7,8] U U U U U<|eS U (FA 2 U Jm U)<|eS U (L1 (vS B l.aG.length D) 2 U P_ U U)<|eS U (MV U)<|eS U (FA 2 U Jm U)<|eS U (L1 (vS B l.aG.length D) 2 U P_ U U)<|eS U (MV U) ?_
 obtain ⟨x,hx⟩:=aA l.aG i om
 obtain ⟨xa,J⟩:=aA az i om
 have b:(List.zipWith aT.cells l.aG (sO bz az i))[i]? =some (aT.cells x xa):=cG hx (FW A J)
 refine fS U (IA i U (ar (n:=l.aG.length) 8 U (gO (by rw [rV A om]; exact G))) vq dc om om) ?_
 refine fS U (nQ ((i*2)+1) U (ar (n:=l.aG.length) 8 U (gO (by rw [rV A om]; exact G))) (Nat.mul_pos om dc) EV U) ?_
 refine fS U (gv i 1 (vS xa.1 x.bk.length xa.2) U Ob (ar (n:=l.aG.length) 8 U (gO (by rw [rV A om]; exact G))) b U dc U) ?_
 refine fS U (IA i U (ar (n:=l.aG.length) 8 U (gO (by rw [rV A om]; exact G))) vq dc om om) ?_
 refine fS U (nQ ((i*2)+1) U (ar (n:=l.aG.length) 8 U (gO (by rw [rV A om]; exact G))) (Nat.mul_pos om dc) EV U) ?_
 refine eg U<|g7 U fun T20 V=>lH U oo U fun f=>aC (V _ _ (aK [1,2,3,4,5,6,7,8]) (aK [1,2,3,4,5,6,7,8,9]) ?_)
 refine g7 U fun T22 W=>fy (es:=(List.map cE.cells [])) (C':=[own (some ⟨f,0,none⟩) 0 130 3 (List.map cE.cells []),_,_,_,_,_,_,_,_,_]) 0 U sm U (by simp [maxLen]) U ?_
 refine cP (es2:=(List.map cE.cells x.bk)) (m':=x.bk.length) 0 U U U N5 U U sm (show g9 _ (rd xa.1 x.bk.length 3 (x.bk.map cE.cells)).holds from (cd 6 U (bB hx J (by simp [aT.jU])))) (qN _) (by have:=Z.2.2.2 x (aP hx); simp; omega) (by have:=Z.2.2.2 x (aP hx); simp only [maxLen]; simp; omega) sm sm U fun C E=>?_
 try dsimp only
 refine Rg 0 U fun s=>aC (W _ _ (aK [1,2,3,4,5,6,7,8]) (aK [1,2,3,4,5,6,7,8,9]) ?_)
 refine cf U fun T25 X=>eo (k:=i) (o:=1) (vs:=[(vS C x.bk.length E)]) (es':=(List.zipWith aT.cells l.aG (sO (bz++[(C,E)]) az (i+1)))) (C':=[_,_,_,_,_,_,_,_,_,(own B D 133 2 (List.zipWith aT.cells l.aG (sO (bz++[(C,E)]) az (i+1))))]) 9 U U U OI U U U U b U dc (by exact M4 (nw:=(C,E)) hx A J) U<|aC (X _ _ (aK [1,2,3,4,5,6,7,8]) ?_)
 refine e8 U<|aJ<|KK S<|ao<|rP 3 [] I ?_
 refine aC<|yS (X':=bK aT.owns (l.aG.take (i+1)) (bz++[(C,E)])) 8 0 U U (GV (nw:=(C,E)) hx A) ?_
 have Y:(vI (((i+1):Nat):Int))=(vI ((i:Int)+1)):=by exact cI om
 refine a_ (M ⟨((i+1),(bz++[(C,E)])),⟨om,by simp; omega,Bk F A hx (by simpa using s)⟩⟩ _ _ _ U os (cR.cons U<|cR.cons U<|aU U Y<|cR.nil _) (aK [1,2,3,4,5,6,7,0,8]))
end
section
open Go.RowKit
theorem E9 (r:cQ) (sgA:OA) (sgC:Nat) (hsl:r.aa.length≤1000000):
 lR Tryz.prog 55 [(vA (de.cells (g8 r sgA sgC)))] [(rd sgA r.aa.length 2 (r.aa.map aH.cells))] (fun (x:(OA)×Nat)=>(vA (de.cells (de.mk r.Start r.gL (bj.mk x.1 r.aa.length x.2))))) (fun (x:(OA)×Nat)=>True) (fun (x:(OA)×Nat)=>[(own x.1 x.2 113 2 (r.aa.map aH.cells))]):=by
 refine dL kr Tryz.func55 U U fun AA Q hQ hN=>?_
 try dsimp only
 refine WS fun _ A=>dV U fun G=>AL U UM fun H=>RK A<|WS fun _ B=>lH U wG U fun F=>rP 2 [] (mc 2 U I) ?_
 refine fy (es:=(List.map aH.cells [])) (C':=[own (some ⟨F,0,none⟩) 0 113 2 (List.map aH.cells []),_,_,_]) 0 U sm U (by simp [maxLen]) U ?_
 refine cP (es2:=(List.map aH.cells r.aa)) (m':=r.aa.length) 0 U U U QZ U U sm (av 3 U) (oy _) os (by first|(simp only [maxLen]; omega)|(simp [maxLen]; omega)) sm sm U fun D E=>?_
 try dsimp only
 refine bp 1 U<|UL (de.cells (g8 r D E)) U QB U U<|RK B<|WS fun _ C=>rP 1 [] (mc 2 U I) ?_
 refine pV U O1 U<|RK C<|ak<|LX hQ (D,E) [0] [0] (mc 1 U I) U U U U ?_
 trivial
end
section
open Go.RowKit
theorem yw (r:eU) (kA:OA) (kC:Nat) (az:List RA) (cA:OA) (cC:Nat) (bA:OA) (bC:Nat) (slA:OA) (slC:Nat) (drA:OA) (drC:Nat) (ha:List bZ) (heA:OA) (heC:Nat) (hin:iL r az ha) (hng: ¬ jX r):
 lR Tryz.prog 39 [(vA (ct.cells (wq r kA kC cA cC bA bC slA slC drA drC heA heC)))] (I8 r kA az cA bA slA drA ha heA) (fun (x:(OA)×Nat×(OA)×Nat×(List RA)×(OA)×Nat×(OA)×Nat×(OA)×Nat×(OA)×Nat×(List bZ))=>(vA (ct.cells (ct.mk (bW.mk (bJ.mk (bj.mk x.1 r.au.bL.length x.2.1)) r.au.gl (bj.mk x.2.2.1 r.au.aG.length x.2.2.2.1) (bj.mk x.2.2.2.2.2.1 r.au.aj.length x.2.2.2.2.2.2.1) r.au.bU r.au.ew r.au.cU) (bj.mk x.2.2.2.2.2.2.2.1 r.bu.length x.2.2.2.2.2.2.2.2.1) (bj.mk x.2.2.2.2.2.2.2.2.2.1 r.cN.length x.2.2.2.2.2.2.2.2.2.2.1) r.jd (bj.mk x.2.2.2.2.2.2.2.2.2.2.2.1 r.aI.length x.2.2.2.2.2.2.2.2.2.2.2.2.1))))) (fun (x:(OA)×Nat×(OA)×Nat×(List RA)×(OA)×Nat×(OA)×Nat×(OA)×Nat×(OA)×Nat×(List bZ))=>(x.2.2.2.2.1.length=r.au.aG.length∧mU r.au.aG x.2.2.2.2.1)∧ud r.aI x.2.2.2.2.2.2.2.2.2.2.2.2.2) (fun (x:(OA)×Nat×(OA)×Nat×(List RA)×(OA)×Nat×(OA)×Nat×(OA)×Nat×(OA)×Nat×(List bZ))=>[(own x.1 x.2.1 128 9 (r.au.bL.map aD.cells)),(own x.2.2.1 x.2.2.2.1 133 2 (List.zipWith aT.cells r.au.aG x.2.2.2.2.1)),(bQ (bK aT.owns r.au.aG x.2.2.2.2.1)),(own x.2.2.2.2.2.1 x.2.2.2.2.2.2.1 137 4 (r.au.aj.map cO.cells)),(own x.2.2.2.2.2.2.2.1 x.2.2.2.2.2.2.2.2.1 3 1 (r.bu.map iC)),(own x.2.2.2.2.2.2.2.2.2.1 x.2.2.2.2.2.2.2.2.2.2.1 3 1 (r.cN.map iC)),(own x.2.2.2.2.2.2.2.2.2.2.2.1 x.2.2.2.2.2.2.2.2.2.2.2.2.1 75 1 (List.zipWith cL r.aI x.2.2.2.2.2.2.2.2.2.2.2.2.2)),(bQ (bK j3 r.aI x.2.2.2.2.2.2.2.2.2.2.2.2.2))]):=by
 have p:=hin.line
 have If:=hin.fE
 have G:=hin.has
 have IO:=hin.fM
 have Go:=hin.draw
 have IR:=jo (r:=r)
 have Ck:=uz hng
 refine dL kr Tryz.func39 U U fun w0 Q hQ hN=>?_
 try dsimp only
 refine WS fun _ EQ=>dV U fun b2=>AL U y_ fun b3=>RK EQ<|WS fun _ Eq=>rP 1 [] I ?_
 refine rS (LP (bW.cells (jx r.au kA kC cA cC bA bC)) 1 U bV U U U)<|cX (Nv r.au kA kC az cA cC bA bC (by exact p) (by exact Ck.1)) (aY [2,3,4,5]) U fun y5 GE=>?_
 obtain ⟨T,V,AA,L,s,K,N⟩:=y5
 try dsimp only
 obtain ⟨FS,Fd⟩:=GE
 refine bp 1 U<|Vw (ct.cells (ct.mk (bW.mk (bJ.mk (bj.mk T r.au.bL.length V)) r.au.gl (bj.mk AA r.au.aG.length L) (bj.mk K r.au.aj.length N) r.au.bU r.au.ew r.au.cU) (bj.mk slA r.bu.length slC) (bj.mk drA r.cN.length drC) r.jd (bj.mk heA r.aI.length heC))) U JX U U<|RK Eq<|WS fun _ v=>lH U dI U fun C0=>rP 2 [] (mc 6 U I) ?_
 refine fy (es:=(List.map iC [])) (C':=[own (some ⟨C0,0,none⟩) 0 3 1 (List.map iC []),_,_,_,_,_,_,_,_,_,_,_,_,_,_]) 0 U sm U (by simp [maxLen]) U ?_
 refine cP (es2:=(List.map iC r.bu)) (m':=r.bu.length) 0 U U U pg U U sm (av 11 U) (jN _) (by simp; omega) (by simp only [maxLen]; simp; omega) sm sm U fun X Y=>?_
 try dsimp only
 refine bp 1 U<|TK (ct.cells (ct.mk (bW.mk (bJ.mk (bj.mk T r.au.bL.length V)) r.au.gl (bj.mk AA r.au.aG.length L) (bj.mk K r.au.aj.length N) r.au.bU r.au.ew r.au.cU) (bj.mk X r.bu.length Y) (bj.mk drA r.cN.length drC) r.jd (bj.mk heA r.aI.length heC))) U Bs U U<|RK v<|WS fun _ w=>lH U dI U fun C1=>rP 2 [] (mc 7 U I) ?_
 refine fy (es:=(List.map iC [])) (C':=[own (some ⟨C1,0,none⟩) 0 3 1 (List.map iC []),_,_,_,_,_,_,_,_,_,_,_,_,_,_,_]) 0 U sm U (by simp [maxLen]) U ?_
 refine cP (es2:=(List.map iC r.cN)) (m':=r.cN.length) 0 U U U pg U U sm (av 13 U) (jN _) (by simp; omega) (by simp only [maxLen]; simp; omega) sm sm U fun g j=>?_
 try dsimp only
 refine bp 1 U<|VF (ct.cells (ct.mk (bW.mk (bJ.mk (bj.mk T r.au.bL.length V)) r.au.gl (bj.mk AA r.au.aG.length L) (bj.mk K r.au.aj.length N) r.au.bU r.au.ew r.au.cU) (bj.mk X r.bu.length Y) (bj.mk g r.cN.length j) r.jd (bj.mk heA r.aI.length heC))) U Bs U U<|RK w<|WS fun _ AC=>lH U kF U fun C2=>rP 2 [] (mc 8 U I) ?_
 refine fy (es:=(List.map sC [])) (C':=[own (some ⟨C2,0,none⟩) 0 75 1 (List.map sC []),_,_,_,_,_,_,_,_,_,_,_,_,_,_,_,_]) 0 U sm U (by simp [maxLen]) U ?_
 refine cP (es2:=(List.zipWith cL r.aI ha)) (m':=r.aI.length) 0 U U U Sl U U sm (av 15 U) (zE _ _) (by simp; omega) (by simp only [maxLen]; simp; omega) sm (dQ G) U fun J M=>?_
 try dsimp only
 refine bp 1 U<|VD (ct.cells (ct.mk (bW.mk (bJ.mk (bj.mk T r.au.bL.length V)) r.au.gl (bj.mk AA r.au.aG.length L) (bj.mk K r.au.aj.length N) r.au.bU r.au.ew r.au.cU) (bj.mk X r.bu.length Y) (bj.mk g r.cN.length j) r.jd (bj.mk J r.aI.length M))) U Q9 U U<|RK AC<|ag fun _ AO=>WS fun _ AU=>rP 1 [] I ?_
 refine RK AU<|ax<|lx ?_
 have F:(0≤r.aI.length)∧(([]:List bZ).length=0)∧(∀ (k:Nat) y (a:bZ),r.aI[k]? =some y→([]:List bZ)[k]? =some a→a.2.length=y.length):=by exact ⟨Nat.zero_le _,rfl,fun k y a _ q=>by simp at q⟩
 refine bP (ι:={z:Nat×(List bZ) // (z.1≤r.aI.length)∧(z.2.length=z.1)∧(∀ (k:Nat) y (a:bZ),r.aI[k]? =some y→z.2[k]? =some a→a.2.length=y.length)}) [1,2] [2,3,4,5,6,7,8,9,10,11,12,13,14,15,16,17] U U (fun z=>[(3,(vI (z.1.1:Int)))]) (fun z=>[(bQ (bK j3 (r.aI.take z.1.1) z.1.2)),(own J M 75 1 (List.zipWith cL r.aI (jr z.1.2 ha z.1.1)))]) (fun _=>rfl) (fun _=>rfl) (fun z=>r.aI.length-z.1.1) ⟨(0,([]:List bZ)),F⟩ (bf U) (aK [2,3,4,5,6,7,8,9,10,11,12,13,14,15,16,17,0,1]) ?_
 clear F
 rintro ⟨⟨h,hz⟩,⟨m,B,S⟩⟩ J28 t
 try dsimp only at m B S
 try dsimp only
 refine ag fun _ Ag=>WS fun _ Ax=>rP 5 [] (mc 7 U I) ?_
 refine RK Ax<|bO U (aO fun Di=>?_) (aN fun Di=>?_)
 ·refine bM<|ab<|ab<|aF<|KK AO<|ag fun _ A6=>?_
  have Fk:ud r.aI hz:=⟨om,S⟩
  rw [show (jr hz ha h)=hz from qW om,show r.aI.take h=r.aI from List.take_of_length_le om]
  refine ao<|rP 1 [] (mc 7 U I) ?_
  refine Rx U oZ U<|RK A6<|ak ?_
  refine LX hQ (T,V,AA,L,s,K,N,X,Y,g,j,J,M,hz) [2,3,4,5,1,0,17,16] [0] (mc 6 U I) U (by show List.all _ _=true; simp only [fV,List.all_nil,kB,rf,Bool.and_true]; rfl) U U ?_
  exact ⟨⟨FS,Fd⟩,Fk⟩
 refine WK Ag<|ag fun _ A0=>ax<|ag fun _ A1=>dp cj [3,9,11] [6,7,8] [0,1] [0,1,2,3,4,5,6,7,8,9,10,11,12,13,14,15,16] [0,1,2,3,4,5,6,7,8,9,10,11,12,13,14,15,16,17] U U U U U<|eS U (FA 10 U eD U)<|eS U (L1 (vS J r.aI.length M) 7 U bV U U)<|eS U (MV U)<|eS U (FA 10 U eD U)<|eS U (L1 (vS J r.aI.length M) 7 U bV U U)<|eS U (MV U) ?_
 obtain ⟨ht,AB⟩:=aA r.aI h om
 obtain ⟨C,O⟩:=aA ha h om
 have e:(List.zipWith cL r.aI (jr hz ha h))[h]? =some (cL ht C):=cG AB (vd B O)
 have Cp:=hin.fJ _ _ _ AB O
 have H:=Cp.lS
 have Cx:=Ck.2.2.2.2 ht (aP AB)
 refine fS U (IA h U (ar (n:=r.aI.length) 17 U (dQ (by rw [eP B om]; exact G))) kF dc om om) ?_
 refine fS U (gv h 0 (vS C.1.1 ht.length C.1.2) U bV (ar (n:=r.aI.length) 17 U (dQ (by rw [eP B om]; exact G))) e U dc U) ?_
 refine fS U (IA h U (ar (n:=r.aI.length) 17 U (dQ (by rw [eP B om]; exact G))) kF dc om om) ?_
 refine eg U<|g7 U fun T34 A7=>lH U ov U fun C3=>aC (A7 _ _ (aK [1,2,3,4,5,6,7,8,9,10,11,12,13,14,15,16,17]) (aK [1,2,3,4,5,6,7,8,9,10,11,12,13,14,15,16,17,18]) ?_)
 refine g7 U fun T36 A8=>fy (es:=(List.map aR.cells [])) (C':=[own (some ⟨C3,0,none⟩) 0 43 7 (List.map aR.cells []),_,_,_,_,_,_,_,_,_,_,_,_,_,_,_,_,_,_]) 0 U sm U (by simp [maxLen]) U ?_
 refine cP (es2:=(List.zipWith aq.cells ht C.2)) (m':=ht.length) 0 U U U Tw U U sm (show g9 _ (rd C.1.1 ht.length 7 (List.zipWith aq.cells ht C.2)).holds from (cd 16 U (bB AB O cr))) (Fj _ _) (by simp; omega) (by simp only [maxLen]; simp; omega) sm (jP H) U fun D E=>?_
 try dsimp only
 refine aC (A8 _ _ (aK [1,2,3,4,5,6,7,8,9,10,11,12,13,14,15,16,17]) (aK [1,2,3,4,5,6,7,8,9,10,11,12,13,14,15,16,17,18]) ?_)
 refine cf U fun T39 A9=>eo (k:=h) (o:=0) (vs:=[(vS D ht.length E)]) (es':=(List.zipWith cL r.aI (jr (hz++[((D,E),C.2)]) ha (h+1)))) (C':=[_,_,_,_,_,_,_,_,_,_,_,_,_,_,_,_,_,_,(own J M 75 1 (List.zipWith cL r.aI (jr (hz++[((D,E),C.2)]) ha (h+1))))]) 18 U U U Rn U U U U e U dc (by exact q6 (b:=((D,E),C.2)) AB B O) U<|aC (A9 _ _ (aK [1,2,3,4,5,6,7,8,9,10,11,12,13,14,15,16,17]) ?_)
 refine e8 U<|KK A1<|WS fun _ A2=>rP 1 [] I ?_
 refine RK A2<|ax<|lx ?_
 have F:(0≤ht.length)∧(([]:List RA).length=0):=by exact ⟨Nat.zero_le _,rfl⟩
 refine bP (ι:={z:Nat×(List RA) // (z.1≤ht.length)∧(z.2.length=z.1)}) [1,2,3] [2,3,4,5,6,7,8,9,10,11,12,13,14,15,16,17,18,19] U U (fun z=>[(4,(vI (z.1.1:Int)))]) (fun z=>[(bQ (bK oj (ht.take z.1.1) z.1.2)),(own D E 43 7 (List.zipWith aq.cells ht (jr z.1.2 C.2 z.1.1)))]) (fun _=>rfl) (fun _=>rfl) (fun z=>ht.length-z.1.1) ⟨(0,([]:List RA)),F⟩ (bf U) (aK [2,3,4,5,6,7,8,9,10,11,12,13,14,15,16,17,18,19,0,1]) ?_
 clear F
 rintro ⟨⟨i,dz⟩,⟨Z,A⟩⟩ J41 u
 try dsimp only at Z A
 try dsimp only
 refine ag fun _ A3=>WS fun _ A4=>rP 4 [] (mc 7 U I) ?_
 have W:(List.zipWith cL r.aI (jr (hz++[((D,E),C.2)]) ha (h+1)))[h]? =some (cL ht ((D,E),C.2)):=cG AB (BW B)
 refine rS (IA h U (ar (n:=r.aI.length) 17 U (dQ (by rw [eP (by simp; omega) om]; exact G))) kF dc om om) ?_
 refine rS (gv h 0 (vS D ht.length E) U bV (ar (n:=r.aI.length) 17 U (dQ (by rw [eP (by simp; omega) om]; exact G))) W U dc U) ?_
 refine rP 2 [] I ?_
 refine RK A4<|bO U (aO fun Do=>?_) (aN fun Do=>?_)
 ·refine bM<|ab<|ab<|aF<|aJ<|KK A0<|ao<|rP 3 [] I ?_
  refine aC ?_
  have Hi:dz.length=ht.length:=by omega
  rw [show (jr dz C.2 i)=dz from qW om,show ht.take i=ht from List.take_of_length_le om]
  refine Jv (Z':=bK j3 (r.aI.take (h+1)) (hz++[((D,E),dz)])) 16 18 19 U U (oh (f:=j3) (b:=((D,E),dz)) AB B) ?_
  rw [Cu (y:=dz)]
  have CB:(vI (((h+1):Nat):Int))=(vI ((h:Int)+1)):=by exact cI om
  refine a_ (t ⟨((h+1),(hz++[((D,E),dz)])),⟨om,by simp; omega,ES AB S B dso⟩⟩ _ _ _ U os (cR.cons U<|cR.cons U<|aU U CB<|cR.nil _) (aK [1,2,3,4,5,6,7,8,9,10,11,12,13,14,15,16,0,17]))
 refine WK A3<|ag fun _ A5=>ax<|dp cj [15,18] [12,13,14,15,16] [0] [0,1,2,3,4,5,6,7,8,9,10,11,12,13,14,15,16,17,18] [0,1,2,3,4,5,6,7,8,9,10,11,12,13,14,15,16,17,18,19] U U U U U<|eS U (FA 10 U eD U)<|eS U (L1 (vS J r.aI.length M) 7 U bV U U)<|eS U (MV U) ?_
 refine eS U (IA h U (ar (n:=r.aI.length) 17 U (dQ (by rw [eP (by simp; omega) om]; exact G))) kF dc om om) ?_
 refine eS U (gv h 0 (vS D ht.length E) U bV (ar (n:=r.aI.length) 17 U (dQ (by rw [eP (by simp; omega) om]; exact G))) W U dc U) ?_
 refine eS U (MV U)<|eS U (FA 10 U eD U)<|eS U (L1 (vS J r.aI.length M) 7 U bV U U)<|eS U (MV U) ?_
 refine eS U (IA h U (ar (n:=r.aI.length) 17 U (dQ (by rw [eP (by simp; omega) om]; exact G))) kF dc om om) ?_
 refine eS U (gv h 0 (vS D ht.length E) U bV (ar (n:=r.aI.length) 17 U (dQ (by rw [eP (by simp; omega) om]; exact G))) W U dc U) ?_
 refine eS U (MV U) ?_
 obtain ⟨d,hd⟩:=aA ht i om
 obtain ⟨da,l⟩:=aA C.2 i om
 have Ci:(List.zipWith aq.cells ht (jr dz C.2 i))[i]? =some (aq.cells d da):=cG hd (vd A l)
 have Fn:=Cp.sig d (aP hd)
 have H1:=Cx.2 d (aP hd)
 refine fS U (IA i U (ar (n:=ht.length) 19 U (jP (by rw [eP A om]; exact H))) ov dc om om) ?_
 refine fS U (nQ ((i*7)+4) U (ar (n:=ht.length) 19 U (jP (by rw [eP A om]; exact H))) (Nat.mul_pos om dc) eD U) ?_
 refine fS U (jL i 4 (de.cells (de.mk d.aV.Start d.aV.gL (bj.mk da.1 d.aV.aa.length da.2))) U bV (ar (n:=ht.length) 19 U (jP (by rw [eP A om]; exact H))) Ci U dc U U) ?_
 refine fS U (IA i U (ar (n:=ht.length) 19 U (jP (by rw [eP A om]; exact H))) ov dc om om) ?_
 refine fS U (nQ ((i*7)+4) U (ar (n:=ht.length) 19 U (jP (by rw [eP A om]; exact H))) (Nat.mul_pos om dc) eD U) ?_
 refine eg U<|g7 U fun T46 Ba=>cX (E9 d.aV da.1 da.2 (by exact Fn)) (aw (show g9 _ (rd da.1 d.aV.aa.length 2 (d.aV.aa.map aH.cells)).holds from (cd 15 U (bB AB O (dH _ (bB hd l (by simp [aq.jU]))))))<|aS) U fun GT Id=>?_
 obtain ⟨P,R⟩:=GT
 try dsimp only
 refine aC (Ba _ _ (aK [1,2,3,4,5,6,7,8,9,10,11,12,13,14,15,16,17,18,19]) (aK [1,2,3,4,5,6,7,8,9,10,11,12,13,14,15,16,17,18,19,20]) ?_)
 refine cf U fun T51 B3=>eo (k:=i) (o:=4) (vs:=(de.cells (g8 d.aV P R))) (es':=(List.zipWith aq.cells ht (jr (dz++[(P,R)]) C.2 (i+1)))) (C':=[_,_,_,_,_,_,_,_,_,_,_,_,_,_,_,_,_,_,_,_,(own D E 43 7 (List.zipWith aq.cells ht (jr (dz++[(P,R)]) C.2 (i+1))))]) 20 U U U O1 U U U U Ci U dc (by exact q6 (c:=aq.cells) (b:=(P,R)) hd A l) U<|aC (B3 _ _ (aK [1,2,3,4,5,6,7,8,9,10,11,12,13,14,15,16,17,18,19]) ?_)
 refine e8 U<|aJ<|KK A5<|ao<|rP 3 [] I ?_
 refine aC<|Al (Y':=bK oj (ht.take (i+1)) (dz++[(P,R)])) 19 0 U U (oh (f:=oj) (b:=(P,R)) hd A) ?_
 have B9:(vI (((i+1):Nat):Int))=(vI ((i:Int)+1)):=by exact cI om
 refine a_ (u ⟨((i+1),(dz++[(P,R)])),⟨om,by simp; omega⟩⟩ _ _ _ U os (cz 3<|aU U B9<|cR.nil _) (aK [1,2,3,4,5,6,7,8,9,10,11,12,13,14,15,16,17,18,0,19]))
end
section
open Go.RowKit
theorem M3 (j:cw) (kA:OA) (kC:Nat) (az:List RA) (cA:OA) (cC:Nat) (bA:OA) (bC:Nat) (slA:OA) (slC:Nat) (drA:OA) (drC:Nat) (ha:List bZ) (heA:OA) (heC:Nat) (faA:OA) (faC:Nat) (prA:OA) (prC:Nat) (hin:er j az ha) (hng: ¬ l3 j):
 lR Tryz.prog 7 [(vA (eY.cells (lJ j kA kC cA cC bA bC slA slC drA drC heA heC faA faC prA prC)))] (pb j kA az cA bA slA drA ha heA faA prA) (fun (x:(OA)×Nat×(OA)×Nat×(List RA)×(OA)×Nat×(OA)×Nat×(OA)×Nat×(OA)×Nat×(List bZ)×(OA)×Nat×(OA)×Nat)=>(vA (eY.cells (eY.mk (ct.mk (bW.mk (bJ.mk (bj.mk x.1 j.Race.au.bL.length x.2.1)) j.Race.au.gl (bj.mk x.2.2.1 j.Race.au.aG.length x.2.2.2.1) (bj.mk x.2.2.2.2.2.1 j.Race.au.aj.length x.2.2.2.2.2.2.1) j.Race.au.bU j.Race.au.ew j.Race.au.cU) (bj.mk x.2.2.2.2.2.2.2.1 j.Race.bu.length x.2.2.2.2.2.2.2.2.1) (bj.mk x.2.2.2.2.2.2.2.2.2.1 j.Race.cN.length x.2.2.2.2.2.2.2.2.2.2.1) j.Race.jd (bj.mk x.2.2.2.2.2.2.2.2.2.2.2.1 j.Race.aI.length x.2.2.2.2.2.2.2.2.2.2.2.2.1)) (bj.mk x.2.2.2.2.2.2.2.2.2.2.2.2.2.2.1 j.aM.length x.2.2.2.2.2.2.2.2.2.2.2.2.2.2.2.1) (bj.mk x.2.2.2.2.2.2.2.2.2.2.2.2.2.2.2.2.1 j.aB.length x.2.2.2.2.2.2.2.2.2.2.2.2.2.2.2.2.2) j.gu j.kU)))) (fun (x:(OA)×Nat×(OA)×Nat×(List RA)×(OA)×Nat×(OA)×Nat×(OA)×Nat×(OA)×Nat×(List bZ)×(OA)×Nat×(OA)×Nat)=>(x.2.2.2.2.1.length=j.Race.au.aG.length∧mU j.Race.au.aG x.2.2.2.2.1)∧ud j.Race.aI x.2.2.2.2.2.2.2.2.2.2.2.2.2.1) (fun (x:(OA)×Nat×(OA)×Nat×(List RA)×(OA)×Nat×(OA)×Nat×(OA)×Nat×(OA)×Nat×(List bZ)×(OA)×Nat×(OA)×Nat)=>[(own x.1 x.2.1 128 9 (j.Race.au.bL.map aD.cells)),(own x.2.2.1 x.2.2.2.1 133 2 (List.zipWith aT.cells j.Race.au.aG x.2.2.2.2.1)),(bQ (bK aT.owns j.Race.au.aG x.2.2.2.2.1)),(own x.2.2.2.2.2.1 x.2.2.2.2.2.2.1 137 4 (j.Race.au.aj.map cO.cells)),(own x.2.2.2.2.2.2.2.1 x.2.2.2.2.2.2.2.2.1 3 1 (j.Race.bu.map iC)),(own x.2.2.2.2.2.2.2.2.2.1 x.2.2.2.2.2.2.2.2.2.2.1 3 1 (j.Race.cN.map iC)),(own x.2.2.2.2.2.2.2.2.2.2.2.1 x.2.2.2.2.2.2.2.2.2.2.2.2.1 75 1 (List.zipWith cL j.Race.aI x.2.2.2.2.2.2.2.2.2.2.2.2.2.1)),(bQ (bK j3 j.Race.aI x.2.2.2.2.2.2.2.2.2.2.2.2.2.1)),(own x.2.2.2.2.2.2.2.2.2.2.2.2.2.2.1 x.2.2.2.2.2.2.2.2.2.2.2.2.2.2.2.1 86 4 (j.aM.map bg.cells)),(own x.2.2.2.2.2.2.2.2.2.2.2.2.2.2.2.2.1 x.2.2.2.2.2.2.2.2.2.2.2.2.2.2.2.2.2 102 5 (j.aB.map bR.cells))]):=by
 have V:=hin.race
 have f:=hin.race.line
 have l:=hin.race.fE
 have m:=hin.race.has
 have k:=hin.race.fM
 have h:=hin.nf
 have i:=hin.np
 have d:=sv hng
 refine dL kr Tryz.func7 U U fun q Q hQ hN=>?_
 try dsimp only
 refine WS fun _ Z=>dV U fun o=>AL U RF fun p=>RK Z<|WS fun _ a=>rP 1 [] I ?_
 refine rS (LP (ct.cells (wq j.Race kA kC cA cC bA bC slA slC drA drC heA heC)) 1 U bV U U U)<|cX (yw j.Race kA kC az cA cC bA bC slA slC drA drC ha heA heC (by exact V) (by exact d.1)) (aY [2,3,4,5,6,7,8,9]) U fun n g=>?_
 obtain ⟨J,L,K,E,P,A,F,B,G,C,H,D,AB,W⟩:=n
 try dsimp only
 obtain ⟨⟨b,c⟩,e⟩:=g
 refine bp 1 U<|VN (eY.cells (eY.mk (ct.mk (bW.mk (bJ.mk (bj.mk J j.Race.au.bL.length L)) j.Race.au.gl (bj.mk K j.Race.au.aG.length E) (bj.mk A j.Race.au.aj.length F) j.Race.au.bU j.Race.au.ew j.Race.au.cU) (bj.mk B j.Race.bu.length G) (bj.mk C j.Race.cN.length H) j.Race.jd (bj.mk D j.Race.aI.length AB)) (bj.mk faA j.aM.length faC) (bj.mk prA j.aB.length prC) j.gu j.kU)) U oZ U U<|RK a<|WS fun _ S=>lH U xZ U fun X=>rP 2 [] (mc 10 U I) ?_
 refine fy (es:=(List.map bg.cells [])) (C':=[own (some ⟨X,0,none⟩) 0 86 4 (List.map bg.cells []),_,_,_,_,_,_,_,_,_,_,_,_,_,_,_,_,_,_,_,_]) 0 U sm U (by simp [maxLen]) U ?_
 refine cP (es2:=(List.map bg.cells j.aM)) (m':=j.aM.length) 0 U U U UA U U sm (av 19 U) (vG _) (by simp; omega) (by simp only [maxLen]; simp; omega) sm sm U fun M N=>?_
 try dsimp only
 refine bp 1 U<|SA (eY.cells (eY.mk (ct.mk (bW.mk (bJ.mk (bj.mk J j.Race.au.bL.length L)) j.Race.au.gl (bj.mk K j.Race.au.aG.length E) (bj.mk A j.Race.au.aj.length F) j.Race.au.bU j.Race.au.ew j.Race.au.cU) (bj.mk B j.Race.bu.length G) (bj.mk C j.Race.cN.length H) j.Race.jd (bj.mk D j.Race.aI.length AB)) (bj.mk M j.aM.length N) (bj.mk prA j.aB.length prC) j.gu j.kU)) U Ut U U<|RK S<|WS fun _ T=>lH U wM U fun Y=>rP 2 [] (mc 11 U I) ?_
 refine fy (es:=(List.map bR.cells [])) (C':=[own (some ⟨Y,0,none⟩) 0 102 5 (List.map bR.cells []),_,_,_,_,_,_,_,_,_,_,_,_,_,_,_,_,_,_,_,_,_]) 0 U sm U (by simp [maxLen]) U ?_
 refine cP (es2:=(List.map bR.cells j.aB)) (m':=j.aB.length) 0 U U U Ul U U sm (av 21 U) (th _) (by simp; omega) (by simp only [maxLen]; simp; omega) sm sm U fun O R=>?_
 try dsimp only
 refine bp 1 U<|Sk (eY.cells (eY.mk (ct.mk (bW.mk (bJ.mk (bj.mk J j.Race.au.bL.length L)) j.Race.au.gl (bj.mk K j.Race.au.aG.length E) (bj.mk A j.Race.au.aj.length F) j.Race.au.bU j.Race.au.ew j.Race.au.cU) (bj.mk B j.Race.bu.length G) (bj.mk C j.Race.cN.length H) j.Race.jd (bj.mk D j.Race.aI.length AB)) (bj.mk M j.aM.length N) (bj.mk O j.aB.length R) j.gu j.kU)) U T2 U U<|RK T<|WS fun _ AA=>rP 1 [] (mc 11 U I) ?_
 refine Vh U QR U<|RK AA<|ak ?_
 refine LX hQ (J,L,K,E,P,A,F,B,G,C,H,D,AB,W,M,N,O,R) [2,3,4,5,6,7,8,9,1,0] [0] (mc 10 U I) U (by show List.all _ _=true; simp only [fV,List.all_nil,kB,rf,Bool.and_true]; rfl) U U ?_
 exact ⟨⟨b,c⟩,e⟩
end
section
open Go.RowKit
theorem KZ (l:List aD) (lA:OA) (lC:Nat) (hlen:l.length≤1000000):
 lR Tryz.prog 79 [(vS lA l.length lC)] [(rd lA l.length 9 (l.map aD.cells))] (fun (x:(OA)×Nat)=>(vS x.1 l.length x.2)) (fun (x:(OA)×Nat)=>True) (fun (x:(OA)×Nat)=>[(own x.1 x.2 128 9 (l.map aD.cells))]):=by
 refine dL kr Tryz.func79 U U fun L Q hQ hN=>?_
 try dsimp only
 refine WS fun _ D=>bp 1 U<|RK D<|ag fun _ E=>WS fun _ F=>rP 1 [] I ?_
 refine rS (BI U (rE QE))<|RK F<|cb U (aN fun B=>?_) (aO fun B=>?_)
 ·refine WS fun _ G=>m8 (av 0 U) B dc fun C=>?_
  have A:l=[]:=by simpa using C
  refine gn 128 9 ?_
  rw [show (own none 0 128 9 ([]:List (List Value)))=own none 0 128 9 (l.map aD.cells) from by rw [A]; rfl]
  refine rP 1 [] I ?_
  refine RK G<|ak ?_
  refine LX hQ (none,0) [0] [] I U U U ?_ ?_
  ·first|rfl|(rw [A]; rfl)
  ·trivial
 refine WK E<|WS fun _ H=>lH U wL U fun J=>rP 1 [] I ?_
 refine fy (es:=(List.map aD.cells [])) (C':=[own (some ⟨J,0,none⟩) 0 128 9 (List.map aD.cells []),_]) 0 U sm U (by simp [maxLen]) U ?_
 refine cP (es2:=(List.map aD.cells l)) (m':=l.length) 0 U U U TC U U sm (av 1 U) (od _) os (by (simp only [maxLen]; omega)) sm sm U fun AA K=>?_
 try dsimp only
 refine rP 1 [] I ?_
 refine RK H<|ak ?_
 refine LX hQ (AA,K) [0] [] I U U U ?_ ?_
 ·first|rfl|(rw [A]; rfl)
 ·trivial
theorem Lv (l:List cO) (lA:OA) (lC:Nat) (hlen:l.length≤1000000):
 lR Tryz.prog 80 [(vS lA l.length lC)] [(rd lA l.length 4 (l.map cO.cells))] (fun (x:(OA)×Nat)=>(vS x.1 l.length x.2)) (fun (x:(OA)×Nat)=>True) (fun (x:(OA)×Nat)=>[(own x.1 x.2 137 4 (l.map cO.cells))]):=by
 refine dL kr Tryz.func80 U U fun L Q hQ hN=>?_
 try dsimp only
 refine WS fun _ D=>bp 1 U<|RK D<|ag fun _ E=>WS fun _ F=>rP 1 [] I ?_
 refine rS (BI U (rE NK))<|RK F<|cb U (aN fun B=>?_) (aO fun B=>?_)
 ·refine WS fun _ G=>m8 (av 0 U) B dc fun C=>?_
  have A:l=[]:=by simpa using C
  refine gn 137 4 ?_
  rw [show (own none 0 137 4 ([]:List (List Value)))=own none 0 137 4 (l.map cO.cells) from by rw [A]; rfl]
  refine rP 1 [] I ?_
  refine RK G<|ak ?_
  refine LX hQ (none,0) [0] [] I U U U ?_ ?_
  ·first|rfl|(rw [A]; rfl)
  ·trivial
 refine WK E<|WS fun _ H=>lH U uv U fun J=>rP 1 [] I ?_
 refine fy (es:=(List.map cO.cells [])) (C':=[own (some ⟨J,0,none⟩) 0 137 4 (List.map cO.cells []),_]) 0 U sm U (by simp [maxLen]) U ?_
 refine cP (es2:=(List.map cO.cells l)) (m':=l.length) 0 U U U Rh U U sm (av 1 U) (qK _) os (by (simp only [maxLen]; omega)) sm sm U fun AA K=>?_
 try dsimp only
 refine rP 1 [] I ?_
 refine RK H<|ak ?_
 refine LX hQ (AA,K) [0] [] I U U U ?_ ?_
 ·first|rfl|(rw [A]; rfl)
 ·trivial
theorem JO (l:List cE) (lA:OA) (lC:Nat) (hlen:l.length≤1000000):
 lR Tryz.prog 82 [(vS lA l.length lC)] [(rd lA l.length 3 (l.map cE.cells))] (fun (x:(OA)×Nat)=>(vS x.1 l.length x.2)) (fun (x:(OA)×Nat)=>True) (fun (x:(OA)×Nat)=>[(own x.1 x.2 130 3 (l.map cE.cells))]):=by
 refine dL kr Tryz.func82 U U fun L Q hQ hN=>?_
 try dsimp only
 refine WS fun _ D=>bp 1 U<|RK D<|ag fun _ E=>WS fun _ F=>rP 1 [] I ?_
 refine rS (BI U (rE Ot))<|RK F<|cb U (aN fun B=>?_) (aO fun B=>?_)
 ·refine WS fun _ G=>m8 (av 0 U) B dc fun C=>?_
  have A:l=[]:=by simpa using C
  refine gn 130 3 ?_
  rw [show (own none 0 130 3 ([]:List (List Value)))=own none 0 130 3 (l.map cE.cells) from by rw [A]; rfl]
  refine rP 1 [] I ?_
  refine RK G<|ak ?_
  refine LX hQ (none,0) [0] [] I U U U ?_ ?_
  ·first|rfl|(rw [A]; rfl)
  ·trivial
 refine WK E<|WS fun _ H=>lH U oo U fun J=>rP 1 [] I ?_
 refine fy (es:=(List.map cE.cells [])) (C':=[own (some ⟨J,0,none⟩) 0 130 3 (List.map cE.cells []),_]) 0 U sm U (by simp [maxLen]) U ?_
 refine cP (es2:=(List.map cE.cells l)) (m':=l.length) 0 U U U N5 U U sm (av 1 U) (qN _) os (by (simp only [maxLen]; omega)) sm sm U fun AA K=>?_
 try dsimp only
 refine rP 1 [] I ?_
 refine RK H<|ak ?_
 refine LX hQ (AA,K) [0] [] I U U U ?_ ?_
 ·first|rfl|(rw [A]; rfl)
 ·trivial
theorem Cv (l:List aH) (lA:OA) (lC:Nat) (hlen:l.length≤1000000):
 lR Tryz.prog 53 [(vS lA l.length lC)] [(rd lA l.length 2 (l.map aH.cells))] (fun (x:(OA)×Nat)=>(vS x.1 l.length x.2)) (fun (x:(OA)×Nat)=>True) (fun (x:(OA)×Nat)=>[(own x.1 x.2 113 2 (l.map aH.cells))]):=by
 refine dL kr Tryz.func53 U U fun L Q hQ hN=>?_
 try dsimp only
 refine WS fun _ D=>bp 1 U<|RK D<|ag fun _ E=>WS fun _ F=>rP 1 [] I ?_
 refine rS (BI U (rE Tg))<|RK F<|cb U (aN fun B=>?_) (aO fun B=>?_)
 ·refine WS fun _ G=>m8 (av 0 U) B dc fun C=>?_
  have A:l=[]:=by simpa using C
  refine gn 113 2 ?_
  rw [show (own none 0 113 2 ([]:List (List Value)))=own none 0 113 2 (l.map aH.cells) from by rw [A]; rfl]
  refine rP 1 [] I ?_
  refine RK G<|ak ?_
  refine LX hQ (none,0) [0] [] I U U U ?_ ?_
  ·first|rfl|(rw [A]; rfl)
  ·trivial
 refine WK E<|WS fun _ H=>lH U wG U fun J=>rP 1 [] I ?_
 refine fy (es:=(List.map aH.cells [])) (C':=[own (some ⟨J,0,none⟩) 0 113 2 (List.map aH.cells []),_]) 0 U sm U (by simp [maxLen]) U ?_
 refine cP (es2:=(List.map aH.cells l)) (m':=l.length) 0 U U U QZ U U sm (av 1 U) (oy _) os (by (simp only [maxLen]; omega)) sm sm U fun AA K=>?_
 try dsimp only
 refine rP 1 [] I ?_
 refine RK H<|ak ?_
 refine LX hQ (AA,K) [0] [] I U U U ?_ ?_
 ·first|rfl|(rw [A]; rfl)
 ·trivial
theorem Kn (es:List (List Value)) (lA:OA) (n lC:Nat) (hlen:n≤1000000) (hes:es.length=n) (hone: ∀ v∈es.flatten,v.oneCell'=true):
 lR Tryz.prog 81 [(vS lA n lC)] [(rd lA n 2 es)] (fun (x:(OA)×Nat)=>(vS x.1 n x.2)) (fun (x:(OA)×Nat)=>True) (fun (x:(OA)×Nat)=>[(own x.1 x.2 133 2 es)]):=by
 refine dL kr Tryz.func81 U U fun L Q hQ hN=>?_
 try dsimp only
 refine WS fun _ D=>bp 1 U<|RK D<|ag fun _ E=>WS fun _ F=>rP 1 [] I ?_
 refine rS (BI U (rE Ta))<|RK F<|cb U (aN fun A=>?_) (aO fun A=>?_)
 ·refine WS fun _ G=>m8 (av 0 U) A dc fun C=>?_
  have B:es=[]:=C
  refine gn 133 2 ?_
  rw [show (own none 0 133 2 ([]:List (List Value)))=own none 0 133 2 es from by rw [B]]
  refine rP 1 [] I ?_
  refine RK G<|ak ?_
  refine LX hQ (none,0) [0] [] I U U U ?_ ?_
  ·(rw [← hes,B]; rfl)
  ·trivial
 refine WK E<|WS fun _ H=>lH U vq U fun J=>rP 1 [] I ?_
 refine fy (es:=(List.map dE.cells [])) (C':=[own (some ⟨J,0,none⟩) 0 133 2 (List.map dE.cells []),_]) 0 U sm U (by simp [maxLen]) U ?_
 refine cP (es2:=es) (m':=es.length) 0 U U U Ri U U sm (av 1 U) hone (by simp; omega) (by simp [maxLen]; omega) sm U U fun AA K=>?_
 try dsimp only
 refine rP 1 [] I ?_
 refine RK H<|ak ?_
 refine LX hQ (AA,K) [0] [] I U U U ?_ ?_
 ·(rw [hes]; rfl)
 ·trivial
theorem JF (es:List (List Value)) (lA:OA) (n lC:Nat) (hlen:n≤1000000) (hes:es.length=n) (hone: ∀ v∈es.flatten,v.oneCell'=true):
 lR Tryz.prog 85 [(vS lA n lC)] [(rd lA n 7 es)] (fun (x:(OA)×Nat)=>(vS x.1 n x.2)) (fun (x:(OA)×Nat)=>True) (fun (x:(OA)×Nat)=>[(own x.1 x.2 43 7 es)]):=by
 refine dL kr Tryz.func85 U U fun L Q hQ hN=>?_
 try dsimp only
 refine WS fun _ D=>bp 1 U<|RK D<|ag fun _ E=>WS fun _ F=>rP 1 [] I ?_
 refine rS (BI U (rE Sp))<|RK F<|cb U (aN fun A=>?_) (aO fun A=>?_)
 ·refine WS fun _ G=>m8 (av 0 U) A dc fun C=>?_
  have B:es=[]:=C
  refine gn 43 7 ?_
  rw [show (own none 0 43 7 ([]:List (List Value)))=own none 0 43 7 es from by rw [B]]
  refine rP 1 [] I ?_
  refine RK G<|ak ?_
  refine LX hQ (none,0) [0] [] I U U U ?_ ?_
  ·(rw [← hes,B]; rfl)
  ·trivial
 refine WK E<|WS fun _ H=>lH U ov U fun J=>rP 1 [] I ?_
 refine fy (es:=(List.map aR.cells [])) (C':=[own (some ⟨J,0,none⟩) 0 43 7 (List.map aR.cells []),_]) 0 U sm U (by simp [maxLen]) U ?_
 refine cP (es2:=es) (m':=es.length) 0 U U U Tw U U sm (av 1 U) hone (by simp; omega) (by simp [maxLen]; omega) sm U U fun AA K=>?_
 try dsimp only
 refine rP 1 [] I ?_
 refine RK H<|ak ?_
 refine LX hQ (AA,K) [0] [] I U U U ?_ ?_
 ·(rw [hes]; rfl)
 ·trivial
theorem KR (es:List (List Value)) (lA:OA) (n lC:Nat) (hlen:n≤1000000) (hes:es.length=n) (hone: ∀ v∈es.flatten,v.oneCell'=true):
 lR Tryz.prog 84 [(vS lA n lC)] [(rd lA n 1 es)] (fun (x:(OA)×Nat)=>(vS x.1 n x.2)) (fun (x:(OA)×Nat)=>True) (fun (x:(OA)×Nat)=>[(own x.1 x.2 75 1 es)]):=by
 refine dL kr Tryz.func84 U U fun L Q hQ hN=>?_
 try dsimp only
 refine WS fun _ D=>bp 1 U<|RK D<|ag fun _ E=>WS fun _ F=>rP 1 [] I ?_
 refine rS (BI U (rE RP))<|RK F<|cb U (aN fun A=>?_) (aO fun A=>?_)
 ·refine WS fun _ G=>m8 (av 0 U) A dc fun C=>?_
  have B:es=[]:=C
  refine gn 75 1 ?_
  rw [show (own none 0 75 1 ([]:List (List Value)))=own none 0 75 1 es from by rw [B]]
  refine rP 1 [] I ?_
  refine RK G<|ak ?_
  refine LX hQ (none,0) [0] [] I U U U ?_ ?_
  ·(rw [← hes,B]; rfl)
  ·trivial
 refine WK E<|WS fun _ H=>lH U kF U fun J=>rP 1 [] I ?_
 refine fy (es:=(List.map sC [])) (C':=[own (some ⟨J,0,none⟩) 0 75 1 (List.map sC []),_]) 0 U sm U (by simp [maxLen]) U ?_
 refine cP (es2:=es) (m':=es.length) 0 U U U Sl U U sm (av 1 U) hone (by simp; omega) (by simp [maxLen]; omega) sm U U fun AA K=>?_
 try dsimp only
 refine rP 1 [] I ?_
 refine RK H<|ak ?_
 refine LX hQ (AA,K) [0] [] I U U U ?_ ?_
 ·(rw [hes]; rfl)
 ·trivial
end
section
open Go.RowKit
theorem KA (l:List Int) (lA:OA) (lC:Nat) (n:Int) (hlen:l.length≤1000000):
 lR Tryz.prog 78 [(vS lA l.length lC),(vI n)] [(rd lA l.length 1 (l.map iC))] (fun (x:Int)=>(vI x)) (fun (x:Int)=>(0≤x↔n∈l)) (fun (x:Int)=>[]):=by
 refine dL kr Tryz.func78 U U fun AA Q hQ hN=>?_
 try dsimp only
 refine WS fun _ AB=>bp 1 U<|RK AB<|ag fun _ J=>WS fun _ K=>rP 3 [] I ?_
 refine RK K<|ax ?_
 have A:(0≤l.length)∧(∀ y∈l.take 0,y≠n):=by exact ⟨Nat.zero_le _,fun y hy=>by simp at hy⟩
 refine bP (ι:={z:Nat // (z≤l.length)∧(∀ y∈l.take z,y≠n)}) [0,1,7] [0] U U (fun z=>[(8,(vI (z.1:Int)))]) (fun z=>[]) (fun _=>rfl) (fun _=>rfl) (fun z=>l.length-z.1) ⟨0,A⟩ (bf U) (aK [0]) ?_
 clear A
 rintro ⟨i,⟨P,B⟩⟩ J4 H
 try dsimp only
 refine WS fun _ L=>rP 1 [] I ?_
 refine RK L<|ag fun _ M=>bO U (aO fun S=>?_) (aN fun S=>?_)
 ·refine bM<|ab<|ab<|aF<|KK J<|WS fun _ F=>rP 1 [] I ?_
  refine RK F<|ak<|LX hQ (-1) [] [] I U U U U ?_
  exact ⟨fun q=>absurd q dc,fun q=>absurd q (fun T=>B _ (by rw [List.take_of_length_le om]; exact T) U)⟩
 refine WK M<|ag fun _ N=>ax<|WS fun _ O=>bp 2 U<|RK O<|WS fun _ D=>rP 3 [] I ?_
 obtain ⟨x,hx⟩:=aA l i om
 have R:=bH iC hx
 refine rS (IA i U (av 0 U) dI dc om om)<|rS (gv i 0 (vI x) U bV (av 0 U) R U dc U)<|rP 1 [] I ?_
 refine RK D<|cb U (aN fun C=>?_) (aO fun C=>?_)
 ·refine WS fun _ E=>rP 2 [] I ?_
  refine RK E<|ak<|LX hQ (i:Int) [] [] I U U U U ?_
  exact ⟨fun _=>by rw [C]; exact aP hx,fun _=>by omega⟩
 refine cg<|aJ<|KK N<|ao<|rP 2 [] I ?_
 refine aC ?_
 have G:(vI (((i+1):Nat):Int))=(vI ((i:Int)+1)):=by exact cI om
 refine a_ (H ⟨(i+1),⟨om,fun y hy=>by rw [List.take_add_one,hx] at hy; rcases gQ.1 hy with q|q; exact B y q; exact (cH.1 q)▸fun e=>C e.symm⟩⟩ _ _ _ rfl os (cz 3<|aU rfl G<|cR.nil _) (aK [0]))
theorem CM (l:List Int) (lA:OA) (lC:Nat) (n:Int) (hlen:l.length≤1000000):
 dG Tryz.prog 51 [(vS lA l.length lC),(vI n)] [(rd lA l.length 1 (l.map iC))] (vB (decide (n∈l))):=by
 refine bG kr Tryz.func51 U U fun F Q hQ hN=>?_
 try dsimp only
 refine WS fun _ A=>bp 1 U<|RK A<|WS fun _ B=>rP 2 [] I ?_
 refine cX (KA l lA lC n hlen) (aY [0]) U fun E D=>?_
 try dsimp only
 have C:=D
 refine rP 2 [] I ?_
 refine RK B<|ak<|Q1 hQ U U U ?_
 exact cB (gT.2 C)
end
section
open Go.RowKit
theorem FD (l:List Int) (lA:OA) (lC:Nat) (hlen:l.length≤1000000):
 lR Tryz.prog 83 [(vS lA l.length lC)] [(rd lA l.length 1 (l.map iC))] (fun (x:(OA)×Nat)=>(vS x.1 l.length x.2)) (fun (x:(OA)×Nat)=>True) (fun (x:(OA)×Nat)=>[(own x.1 x.2 3 1 (l.map iC))]):=by
 refine dL kr Tryz.func83 U U fun L Q hQ hN=>?_
 try dsimp only
 refine WS fun _ D=>bp 1 U<|RK D<|ag fun _ E=>WS fun _ F=>rP 1 [] I ?_
 refine rS (BI U (rE Tf))<|RK F<|cb U (aN fun B=>?_) (aO fun B=>?_)
 ·refine WS fun _ G=>m8 (av 0 U) B dc fun C=>?_
  have A:l=[]:=by simpa using C
  refine gn 3 1 ?_
  rw [show (own none 0 3 1 ([]:List (List Value)))=own none 0 3 1 (l.map iC) from by rw [A]; rfl]
  refine rP 1 [] I ?_
  refine RK G<|ak ?_
  refine LX hQ (none,0) [0] [] I U U U ?_ ?_
  ·first|rfl|(rw [A]; rfl)
  ·trivial
 refine WK E<|WS fun _ H=>lH U dI U fun J=>rP 1 [] I ?_
 refine fy (es:=(List.map iC [])) (C':=[own (some ⟨J,0,none⟩) 0 3 1 (List.map iC []),_]) 0 U sm U (by simp [maxLen]) U ?_
 refine cP (es2:=(List.map iC l)) (m':=l.length) 0 U U U pg U U sm (av 1 U) (jN _) os (by (simp only [maxLen]; omega)) sm sm U fun AA K=>?_
 try dsimp only
 refine rP 1 [] I ?_
 refine RK H<|ak ?_
 refine LX hQ (AA,K) [0] [] I U U U ?_ ?_
 ·first|rfl|(rw [A]; rfl)
 ·trivial
end
section
open Go.RowKit
theorem KD (r:eU) (kA:OA) (kC:Nat) (az:List RA) (cA:OA) (cC:Nat) (bA:OA) (bC:Nat) (slA:OA) (slC:Nat) (drA:OA) (drC:Nat) (ha:List bZ) (heA:OA) (heC:Nat) (hin:iL r az ha):
 lR Tryz.prog 52 [(vA (ct.cells (wq r kA kC cA cC bA bC slA slC drA drC heA heC)))] (I8 r kA az cA bA slA drA ha heA) (fun (x:(OA)×Nat×(OA)×Nat×(List RA)×(OA)×Nat×(OA)×Nat×(OA)×Nat×(OA)×Nat×(List bZ))=>(vA (ct.cells (ct.mk (bW.mk (bJ.mk (bj.mk x.1 r.au.bL.length x.2.1)) r.au.gl (bj.mk x.2.2.1 r.au.aG.length x.2.2.2.1) (bj.mk x.2.2.2.2.2.1 r.au.aj.length x.2.2.2.2.2.2.1) r.au.bU r.au.ew r.au.cU) (bj.mk x.2.2.2.2.2.2.2.1 r.bu.length x.2.2.2.2.2.2.2.2.1) (bj.mk x.2.2.2.2.2.2.2.2.2.1 r.cN.length x.2.2.2.2.2.2.2.2.2.2.1) r.jd (bj.mk x.2.2.2.2.2.2.2.2.2.2.2.1 r.aI.length x.2.2.2.2.2.2.2.2.2.2.2.2.1))))) (fun (x:(OA)×Nat×(OA)×Nat×(List RA)×(OA)×Nat×(OA)×Nat×(OA)×Nat×(OA)×Nat×(List bZ))=>(x.2.2.2.2.1.length=r.au.aG.length∧mU r.au.aG x.2.2.2.2.1)∧ud r.aI x.2.2.2.2.2.2.2.2.2.2.2.2.2) (fun (x:(OA)×Nat×(OA)×Nat×(List RA)×(OA)×Nat×(OA)×Nat×(OA)×Nat×(OA)×Nat×(List bZ))=>[(own x.1 x.2.1 128 9 (r.au.bL.map aD.cells)),(own x.2.2.1 x.2.2.2.1 133 2 (List.zipWith aT.cells r.au.aG x.2.2.2.2.1)),(bQ (bK aT.owns r.au.aG x.2.2.2.2.1)),(own x.2.2.2.2.2.1 x.2.2.2.2.2.2.1 137 4 (r.au.aj.map cO.cells)),(own x.2.2.2.2.2.2.2.1 x.2.2.2.2.2.2.2.2.1 3 1 (r.bu.map iC)),(own x.2.2.2.2.2.2.2.2.2.1 x.2.2.2.2.2.2.2.2.2.2.1 3 1 (r.cN.map iC)),(own x.2.2.2.2.2.2.2.2.2.2.2.1 x.2.2.2.2.2.2.2.2.2.2.2.2.1 75 1 (List.zipWith cL r.aI x.2.2.2.2.2.2.2.2.2.2.2.2.2)),(bQ (bK j3 r.aI x.2.2.2.2.2.2.2.2.2.2.2.2.2))]):=by
 have C:=hin.line
 have K6:=hin.fE
 have M:=hin.has
 have Mg:=hin.fM
 have L2:=hin.draw
 have M2:=jo (r:=r)
 have Pi:=C.qI
 have PP:=C.qG
 have PE:=C.qD
 have K0:=C.lS
 refine dL kr Tryz.func52 U U fun w0 Q hQ hN=>?_
 try dsimp only
 refine WS fun _ J6=>dV U fun b2=>AL U y_ fun b3=>RK J6<|WS fun _ J7=>rP 2 [] I ?_
 refine RK J7<|ag fun _ J8=>dp cj [8,13,18,22,25,28] [7,11,15] [0,1,2] [0,2,3,4,5,6,7,8,9] [0,1,2,3,4,5,6,7,8,9] U U U U U<|eS U (MV U)<|eS U (MV U)<|eS U (MV U)<|eS U (MV U)<|eS U (SX (cv U U) U U)<|eS U (FA 0 U eD U)<|eS U (FA 0 U eD U)<|fS U (L1 (vS kA r.au.bL.length kC) 1 U bV U U)<|eS U (MV U)<|eS U (SX (cv U U) U U)<|eS U (FA 3 U eD U)<|fS U (L1 (vS bA r.au.aj.length bC) 1 U bV U U)<|eS U (MV U)<|eS U (SX (cv U U) U U)<|eS U (FA 2 U eD U)<|fS U (L1 (vS cA r.au.aG.length cC) 1 U bV U U)<|eS U (SX (cv U U) U U)<|eS U (FA 0 U eD U)<|eS U (FA 0 U eD U)<|eS U (SX (cv U U) U U)<|eS U (FA 3 U eD U)<|eS U (SX (cv U U) U U)<|eS U (FA 2 U eD U)<|eg U<|g7 U fun T6 J9=>cX (KZ r.au.bL kA kC asm) (aY [2]) U fun y7 Pl=>?_
 obtain ⟨a9,S⟩:=y7
 try dsimp only
 refine aC (J9 _ _ (aK [1,3,4,5,6,7,8,9,10]) (aK [1,2,3,4,5,6,7,8,9,10]) ?_)
 refine g7 U fun T11 EQ=>cX (Lv r.au.aj bA bC asm) (aY [6]) U fun LA NE=>?_
 obtain ⟨W,Y⟩:=LA
 try dsimp only
 refine aC (EQ _ _ (aK [2,4,5,6,7,8,9,10,11]) (aK [2,3,4,5,6,7,8,9,10,11]) ?_)
 refine g7 U fun T16 Eq=>cX (Kn (List.zipWith aT.cells r.au.aG az) cA r.au.aG.length cC asm (by exact gO K0) (by exact yo _ _)) (aY [5]) U fun LE Ne=>?_
 obtain ⟨J,K⟩:=LE
 try dsimp only
 refine aC (Eq _ _ (aK [3,5,6,7,8,9,10,11,12]) (aK [3,4,5,6,7,8,9,10,11,12]) ?_)
 refine cf U fun T21 FS=>UZ (ct.cells (ct.mk (bW.mk (bJ.mk (bj.mk a9 r.au.bL.length S)) r.au.gl (bj.mk cA r.au.aG.length cC) (bj.mk bA r.au.aj.length bC) r.au.bU r.au.ew r.au.cU) (bj.mk slA r.bu.length slC) (bj.mk drA r.cN.length drC) r.jd (bj.mk heA r.aI.length heC))) U Un U U<|aC (FS _ _ (aK [3,5,6,7,8,9,10,11,12]) ?_)
 refine cf U fun T22 Fd=>UZ (ct.cells (ct.mk (bW.mk (bJ.mk (bj.mk a9 r.au.bL.length S)) r.au.gl (bj.mk cA r.au.aG.length cC) (bj.mk W r.au.aj.length Y) r.au.bU r.au.ew r.au.cU) (bj.mk slA r.bu.length slC) (bj.mk drA r.cN.length drC) r.jd (bj.mk heA r.aI.length heC))) U Sr U U<|aC (Fd _ _ (aK [3,5,6,7,8,9,10,11,12]) ?_)
 refine cf U fun T23 Fk=>UZ (ct.cells (ct.mk (bW.mk (bJ.mk (bj.mk a9 r.au.bL.length S)) r.au.gl (bj.mk J r.au.aG.length K) (bj.mk W r.au.aj.length Y) r.au.bU r.au.ew r.au.cU) (bj.mk slA r.bu.length slC) (bj.mk drA r.cN.length drC) r.jd (bj.mk heA r.aI.length heC))) U QU U U<|aC (Fk _ _ (aK [3,5,6,7,8,9,10,11,12]) ?_)
 refine e8 U<|KK J8<|ag fun _ A3=>WS fun _ A4=>bp 1 U<|rS (SX (cv U U) U U)<|rP 4 [] (mc 4 U I) ?_
 refine RK A4<|ax<|lx ?_
 have E:(0≤r.au.aG.length)∧(([]:List RA).length=0)∧(mU r.au.aG ([]:List RA)):=by exact ⟨Nat.zero_le _,rfl,fun k m a _ h=>by simp at h⟩
 refine bP (ι:={z:Nat×(List RA) // (z.1≤r.au.aG.length)∧(z.2.length=z.1)∧(mU r.au.aG z.2)}) [1,2,3,39] [2,3,4,5,6,7,8,9,10,11,12,13] U U (fun z=>[(40,(vI (z.1.1:Int)))]) (fun z=>[(bQ (bK aT.owns (r.au.aG.take z.1.1) z.1.2)),(own J K 133 2 (List.zipWith aT.cells r.au.aG (jr z.1.2 az z.1.1)))]) (fun _=>rfl) (fun _=>rfl) (fun z=>r.au.aG.length-z.1.1) ⟨(0,([]:List RA)),E⟩ (bf U) (aK [2,3,4,5,6,7,8,9,10,11,12,13,0,1]) ?_
 clear E
 rintro ⟨⟨i,bz⟩,⟨Ax,B,V⟩⟩ J26 A0
 try dsimp only at Ax B V
 try dsimp only
 refine WS fun _ A5=>rP 1 [] I ?_
 refine RK A5<|ag fun _ A6=>cb U (aN fun J3=>?_) (aO fun J3=>?_)
 ·refine WK A6<|ag fun _ A7=>ax<|WS fun _ A8=>rP 2 [] I ?_
  refine RK A8<|dp cj [13,16] [10,11,12,13,14] [0] [0,1,2,3,4,5,6,7,8,9,10,11,12] [0,1,2,3,4,5,6,7,8,9,10,11,12,13] U U U U U<|eS U (MV U)<|eS U (SX (cv U U) U U)<|eS U (FA 2 U eD U)<|eS U (L1 (vS J r.au.aG.length K) 3 U bV U U)<|eS U (MV U)<|eS U (MV U)<|eS U (SX (cv U U) U U)<|eS U (FA 2 U eD U)<|eS U (L1 (vS J r.au.aG.length K) 3 U bV U U)<|eS U (MV U) ?_
  obtain ⟨x,hx⟩:=aA r.au.aG i om
  obtain ⟨xa,s⟩:=aA az i om
  have J2:(List.zipWith aT.cells r.au.aG (jr bz az i))[i]? =some (aT.cells x xa):=cG hx (vd B s)
  have PZ:=(C.QI _ _ _ hx s).2
  refine fS U (IA i U (ar (n:=r.au.aG.length) 13 U (gO (by rw [eP B om]; exact C.lS))) vq dc om om) ?_
  refine fS U (nQ ((i*2)+1) U (ar (n:=r.au.aG.length) 13 U (gO (by rw [eP B om]; exact C.lS))) (Nat.mul_pos om dc) eD U) ?_
  refine fS U (gv i 1 (vS xa.1 x.bk.length xa.2) U bV (ar (n:=r.au.aG.length) 13 U (gO (by rw [eP B om]; exact C.lS))) J2 U dc U) ?_
  refine fS U (IA i U (ar (n:=r.au.aG.length) 13 U (gO (by rw [eP B om]; exact C.lS))) vq dc om om) ?_
  refine fS U (nQ ((i*2)+1) U (ar (n:=r.au.aG.length) 13 U (gO (by rw [eP B om]; exact C.lS))) (Nat.mul_pos om dc) eD U) ?_
  refine eg U<|g7 U fun T32 Fn=>cX (JO x.bk xa.1 xa.2 asm) (aw (show g9 _ (rd xa.1 x.bk.length 3 (x.bk.map cE.cells)).holds from (cd 6 U (bB hx s (by simp [aT.jU]))))<|aS) U fun LT Nm=>?_
  obtain ⟨P,T⟩:=LT
  try dsimp only
  refine aC (Fn _ _ (aK [1,2,3,4,5,6,7,8,9,10,11,12,13]) (aK [1,2,3,4,5,6,7,8,9,10,11,12,13,14]) ?_)
  refine cf U fun T37 GE=>eo (k:=i) (o:=1) (vs:=[(vS P x.bk.length T)]) (es':=(List.zipWith aT.cells r.au.aG (jr (bz++[(P,T)]) az (i+1)))) (C':=[_,_,_,_,_,_,_,_,_,_,_,_,_,_,(own J K 133 2 (List.zipWith aT.cells r.au.aG (jr (bz++[(P,T)]) az (i+1))))]) 14 U U U OI U U U U J2 U dc (by exact q6 (c:=aT.cells) (b:=(P,T)) hx B s) U<|aC (GE _ _ (aK [1,2,3,4,5,6,7,8,9,10,11,12,13]) ?_)
  refine e8 U<|aJ<|KK A7<|ao<|rP 2 [] I ?_
  refine aC<|O7 0 U fun t=>?_
  simp only [List.length_map] at t
  refine Al (Y':=bK aT.owns (r.au.aG.take (i+1)) (bz++[(P,T)])) 13 0 U U (oh (f:=aT.owns) (b:=(P,T)) hx B) ?_
  have In:(vI (((i+1):Nat):Int))=(vI ((i:Int)+1)):=by exact cI om
  refine a_ (A0 ⟨((i+1),(bz++[(P,T)])),⟨om,by simp; omega,Bk V B hx t⟩⟩ _ _ _ U os (cz 4<|aU U In<|cR.nil _) (aK [1,2,3,4,5,6,7,8,9,10,11,12,0,13]))
 refine bM<|ab<|ab<|aF<|KK A3<|ag fun _ A9=>?_
 have K4:bz.length=r.au.aG.length:=by omega
 have K5:=V
 rw [show (jr bz az i)=bz from qW om,show r.au.aG.take i=r.au.aG from List.take_of_length_le om]
 refine dp cj [2,5,8,10,12,14] [1,3,5] [0,1,2] [0,1,2,4,5,6,7,8,9,10,11,12,13] [0,1,2,3,4,5,6,7,8,9,10,11,12,13] U U U U U<|eS U (FA 7 U eD U)<|fS U (L1 (vS slA r.bu.length slC) 3 U bV U U)<|eS U (FA 8 U eD U)<|fS U (L1 (vS drA r.cN.length drC) 3 U bV U U)<|eS U (FA 10 U eD U)<|fS U (L1 (vS heA r.aI.length heC) 3 U bV U U)<|eS U (FA 7 U eD U)<|eS U (FA 8 U eD U)<|eS U (FA 10 U eD U)<|eg U<|g7 U fun T40 GT=>cX (FD r.bu slA slC asm) (aY [8]) U fun LV Op=>?_
 obtain ⟨g,j⟩:=LV
 try dsimp only
 refine aC (GT _ _ (aK [1,2,3,5,6,7,8,9,10,11,12,13,14]) (aK [1,2,3,4,5,6,7,8,9,10,11,12,13,14]) ?_)
 refine g7 U fun T45 Go=>cX (FD r.cN drA drC om) (aY [10]) U fun La Or=>?_
 obtain ⟨w,AO⟩:=La
 try dsimp only
 refine aC (Go _ _ (aK [2,3,4,6,7,8,9,10,11,12,13,14,15]) (aK [2,3,4,5,6,7,8,9,10,11,12,13,14,15]) ?_)
 refine g7 U fun T50 Hi=>cX (KR (List.zipWith cL r.aI ha) heA r.aI.length heC asm (by exact dQ M) (by exact zE _ _)) (aY [12]) U fun Li Os=>?_
 obtain ⟨X,Z⟩:=Li
 try dsimp only
 refine aC (Hi _ _ (aK [3,4,5,7,8,9,10,11,12,13,14,15,16]) (aK [3,4,5,6,7,8,9,10,11,12,13,14,15,16]) ?_)
 refine cf U fun T55 H1=>TK (ct.cells (ct.mk (bW.mk (bJ.mk (bj.mk a9 r.au.bL.length S)) r.au.gl (bj.mk J r.au.aG.length K) (bj.mk W r.au.aj.length Y) r.au.bU r.au.ew r.au.cU) (bj.mk g r.bu.length j) (bj.mk drA r.cN.length drC) r.jd (bj.mk heA r.aI.length heC))) U Bs U U<|aC (H1 _ _ (aK [3,4,5,7,8,9,10,11,12,13,14,15,16]) ?_)
 refine cf U fun T56 IO=>TK (ct.cells (ct.mk (bW.mk (bJ.mk (bj.mk a9 r.au.bL.length S)) r.au.gl (bj.mk J r.au.aG.length K) (bj.mk W r.au.aj.length Y) r.au.bU r.au.ew r.au.cU) (bj.mk g r.bu.length j) (bj.mk w r.cN.length AO) r.jd (bj.mk heA r.aI.length heC))) U Bs U U<|aC (IO _ _ (aK [3,4,5,7,8,9,10,11,12,13,14,15,16]) ?_)
 refine cf U fun T57 IR=>TK (ct.cells (ct.mk (bW.mk (bJ.mk (bj.mk a9 r.au.bL.length S)) r.au.gl (bj.mk J r.au.aG.length K) (bj.mk W r.au.aj.length Y) r.au.bU r.au.ew r.au.cU) (bj.mk g r.bu.length j) (bj.mk w r.cN.length AO) r.jd (bj.mk X r.aI.length Z))) U Q9 U U<|aC (IR _ _ (aK [3,4,5,7,8,9,10,11,12,13,14,15,16]) ?_)
 refine e8 U<|KK A9<|ag fun _ Ba=>WS fun _ B3=>rP 4 [] (mc 6 U I) ?_
 refine RK B3<|ax<|lx ?_
 have E:(0≤r.aI.length)∧(([]:List bZ).length=0)∧(∀ (k:Nat) y (a:bZ),r.aI[k]? =some y→([]:List bZ)[k]? =some a→a.2.length=y.length):=by exact ⟨Nat.zero_le _,rfl,fun k y a _ q=>by simp at q⟩
 refine bP (ι:={z:Nat×(List bZ) // (z.1≤r.aI.length)∧(z.2.length=z.1)∧(∀ (k:Nat) y (a:bZ),r.aI[k]? =some y→z.2[k]? =some a→a.2.length=y.length)}) [1,2,74] [2,3,4,5,6,7,8,9,10,11,12,13,14,15,16,17] U U (fun z=>[(75,(vI (z.1.1:Int)))]) (fun z=>[(bQ (bK j3 (r.aI.take z.1.1) z.1.2)),(own X Z 75 1 (List.zipWith cL r.aI (jr z.1.2 ha z.1.1)))]) (fun _=>rfl) (fun _=>rfl) (fun z=>r.aI.length-z.1.1) ⟨(0,([]:List bZ)),E⟩ (bf U) (aK [2,3,4,5,6,7,8,9,10,11,12,13,14,15,16,17,0,1]) ?_
 clear E
 rintro ⟨⟨h,hz⟩,⟨l,A,L⟩⟩ J60 A1
 try dsimp only at l A L
 try dsimp only
 refine WS fun _ B9=>rP 1 [] I ?_
 refine RK B9<|ag fun _ CB=>bO U (aO fun J4=>?_) (aN fun J4=>?_)
 ·refine bM<|ab<|ab<|aF<|KK Ba<|ag fun _ Do=>?_
  have K8:ud r.aI hz:=⟨om,L⟩
  rw [show (jr hz ha h)=hz from qW om,show r.aI.take h=r.aI from List.take_of_length_le om]
  refine ao<|rP 1 [] (mc 5 U I) ?_
  refine QL U oZ U<|RK Do<|ak ?_
  refine LX hQ (a9,S,J,K,bz,W,Y,g,j,w,AO,X,Z,hz) [3,15,14,2,1,0,17,16] [0] (mc 4 U I) U (by show List.all _ _=true; simp only [fV,List.all_nil,kB,rf,Bool.and_true]; rfl) U U ?_
  exact ⟨⟨K4,K5⟩,K8⟩
 refine WK CB<|ag fun _ Ci=>ax<|WS fun _ Ck=>rP 2 [] I ?_
 refine RK Ck<|ag fun _ Cp=>dp cj [8,10] [6,7,8] [0] [0,1,2,3,4,5,6,7,8,9,10,11,12,13,14,15,16] [0,1,2,3,4,5,6,7,8,9,10,11,12,13,14,15,16,17] U U U U U<|eS U (FA 10 U eD U)<|eS U (L1 (vS X r.aI.length Z) 5 U bV U U)<|eS U (MV U)<|eS U (FA 10 U eD U)<|eS U (L1 (vS X r.aI.length Z) 5 U bV U U)<|eS U (MV U) ?_
 obtain ⟨ht,N⟩:=aA r.aI h om
 obtain ⟨D,O⟩:=aA ha h om
 have u:(List.zipWith cL r.aI (jr hz ha h))[h]? =some (cL ht D):=cG N (vd A O)
 have Ag:=hin.fJ _ _ _ N O
 have e:=Ag.lS
 have K6:=Ag.len
 refine fS U (IA h U (ar (n:=r.aI.length) 17 U (dQ (by rw [eP A om]; exact M))) kF dc om om) ?_
 refine fS U (gv h 0 (vS D.1.1 ht.length D.1.2) U bV (ar (n:=r.aI.length) 17 U (dQ (by rw [eP A om]; exact M))) u U dc U) ?_
 refine fS U (IA h U (ar (n:=r.aI.length) 17 U (dQ (by rw [eP A om]; exact M))) kF dc om om) ?_
 refine eg U<|g7 U fun T67 Id=>cX (JF (List.zipWith aq.cells ht D.2) D.1.1 ht.length D.1.2 asm (by exact jP e) (by exact Fj _ _)) (aw (show g9 _ (rd D.1.1 ht.length 7 (List.zipWith aq.cells ht D.2)).holds from (cd 13 U (bB N O cr)))<|aS) U fun Lk O4=>?_
 obtain ⟨G,H⟩:=Lk
 try dsimp only
 refine aC (Id _ _ (aK [1,2,3,4,5,6,7,8,9,10,11,12,13,14,15,16,17]) (aK [1,2,3,4,5,6,7,8,9,10,11,12,13,14,15,16,17,18]) ?_)
 refine cf U fun T72 If=>eo (k:=h) (o:=0) (vs:=[(vS G ht.length H)]) (es':=(List.zipWith cL r.aI (jr (hz++[((G,H),D.2)]) ha (h+1)))) (C':=[_,_,_,_,_,_,_,_,_,_,_,_,_,_,_,_,_,_,(own X Z 75 1 (List.zipWith cL r.aI (jr (hz++[((G,H),D.2)]) ha (h+1))))]) 18 U U U Rn U U U U u U dc (by exact q6 (b:=((G,H),D.2)) N A O) U<|aC (If _ _ (aK [1,2,3,4,5,6,7,8,9,10,11,12,13,14,15,16,17]) ?_)
 refine e8 U<|KK Cp<|WS fun _ Cx=>rP 3 [] (mc 6 U I) ?_
 have v:(List.zipWith cL r.aI (jr (hz++[((G,H),D.2)]) ha (h+1)))[h]? =some (cL ht ((G,H),D.2)):=cG N (BW A)
 refine rS (IA h U (ar (n:=r.aI.length) 18 U (dQ (by rw [eP (by simp; omega) om]; exact M))) kF dc om om) ?_
 refine rS (gv h 0 (vS G ht.length H) U bV (ar (n:=r.aI.length) 18 U (dQ (by rw [eP (by simp; omega) om]; exact M))) v U dc U) ?_
 refine rP 2 [] I ?_
 refine RK Cx<|ax<|lx ?_
 have E:(0≤ht.length)∧(([]:List RA).length=0):=by exact ⟨Nat.zero_le _,rfl⟩
 refine bP (ι:={z:Nat×(List RA) // (z.1≤ht.length)∧(z.2.length=z.1)}) [1,2,5,74,75,93] [2,3,4,5,6,7,8,9,10,11,12,13,14,15,16,17,18,19] U U (fun z=>[(94,(vI (z.1.1:Int)))]) (fun z=>[(bQ (bK oj (ht.take z.1.1) z.1.2)),(own G H 43 7 (List.zipWith aq.cells ht (jr z.1.2 D.2 z.1.1)))]) (fun _=>rfl) (fun _=>rfl) (fun z=>ht.length-z.1.1) ⟨(0,([]:List RA)),E⟩ (bf U) (aK [2,3,4,5,6,7,8,9,10,11,12,13,14,15,16,17,18,19,0,1]) ?_
 clear E
 rintro ⟨⟨i,dz⟩,⟨p,F⟩⟩ J74 A2
 try dsimp only at p F
 try dsimp only
 refine WS fun _ C0=>rP 1 [] I ?_
 refine RK C0<|ag fun _ C1=>bO U (aO fun J5=>?_) (aN fun J5=>?_)
 ·refine bM<|ab<|ab<|aF<|aJ<|KK Ci<|ao<|rP 2 [] I ?_
  refine aC ?_
  have L3:dz.length=ht.length:=by omega
  rw [show (jr dz D.2 i)=dz from qW om,show ht.take i=ht from List.take_of_length_le om]
  refine Jv (Z':=bK j3 (r.aI.take (h+1)) (hz++[((G,H),dz)])) 16 18 19 U U (oh (f:=j3) (b:=((G,H),dz)) N A) ?_
  rw [Cu (y:=dz)]
  have Jb:(vI (((h+1):Nat):Int))=(vI ((h:Int)+1)):=by exact cI om
  refine a_ (A1 ⟨((h+1),(hz++[((G,H),dz)])),⟨om,by simp; omega,ES N L A dso⟩⟩ _ _ _ U os (cz 3<|aU U Jb<|cR.nil _) (aK [1,2,3,4,5,6,7,8,9,10,11,12,13,14,15,16,0,17]))
 refine WK C1<|ag fun _ C2=>ax<|WS fun _ C3=>rP 2 [] I ?_
 refine RK C3<|ag fun _ Di=>?_
 refine EG 19 U (by rw [jP (by rw [eP F om]; exact e)]; omega) (fun L0 AB=>?_)
 refine ao<|rP 3 [] (mc 5 U I) ?_
 refine rS (IA h U (ar (n:=r.aI.length) 17 U (dQ (by rw [eP (by simp; omega) om]; exact M))) kF dc om om) ?_
 refine rS (gv h 0 (vS G ht.length H) U bV (ar (n:=r.aI.length) 17 U (dQ (by rw [eP (by simp; omega) om]; exact M))) v U dc U) ?_
 refine rP 1 [] I ?_
 obtain ⟨d,hd⟩:=aA ht i om
 obtain ⟨da,AU⟩:=aA D.2 i om
 have Jk:(List.zipWith aq.cells ht (jr dz D.2 i))[i]? =some (aq.cells d da):=cG hd (vd F AU)
 have PV:=Ag.sig d (aP hd)
 refine rS (Vy i U AB ov om om)<|rS (Vn ((i*7)+4) U AB eD U)<|rS (Vn (((i*7)+4)+2) U AB eD U)<|bp 1 U<|RK Di<|ao<|rP 2 [] I ?_
 refine rS (SX (zj U U AB) U U) ?_
 refine rS (gv i 6 (vS da.1 d.aV.aa.length da.2) U bV (ar (n:=ht.length) 19 U (jP (by rw [eP F om]; exact e))) Jk U dc U) ?_
 refine cX (Cv d.aV.aa da.1 da.2 asm) (aw (show g9 _ (rd da.1 d.aV.aa.length 2 (d.aV.aa.map aH.cells)).holds from (cd 13 U (bB N O (dH _ (bB hd AU (by simp [aq.jU]))))))<|aS) U fun Lo O5=>?_
 obtain ⟨R,AA⟩:=Lo
 try dsimp only
 refine rS (SX (zj U U AB) U U)<|eo (k:=i) (o:=6) (vs:=[(vS R d.aV.aa.length AA)]) (es':=(List.zipWith aq.cells ht (jr (dz++[(R,AA)]) D.2 (i+1)))) (C':=[_,_,_,_,_,_,_,_,_,_,_,_,_,_,_,_,_,_,_,_,(own G H 43 7 (List.zipWith aq.cells ht (jr (dz++[(R,AA)]) D.2 (i+1))))]) 20 U U U QB U U U U Jk U dc (by exact q6 (c:=aq.cells) (b:=(R,AA)) hd F AU) U<|aC<|aJ<|KK C2<|ao<|rP 2 [] I ?_
 refine aC<|Al (Y':=bK oj (ht.take (i+1)) (dz++[(R,AA)])) 19 0 U U (oh (f:=oj) (b:=(R,AA)) hd F) ?_
 have JJ:(vI (((i+1):Nat):Int))=(vI ((i:Int)+1)):=by exact cI om
 refine a_ (A2 ⟨((i+1),(dz++[(R,AA)])),⟨om,by simp; omega⟩⟩ _ _ _ U os (cz 6<|aU U JJ<|cR.nil _) (aK [1,2,3,4,5,6,7,8,9,10,11,12,13,14,15,16,17,18,0,19]))
end
section
open Go.RowKit
theorem xy (j:cw) (kA:OA) (kC:Nat) (az:List RA) (cA:OA) (cC:Nat) (bA:OA) (bC:Nat) (slA:OA) (slC:Nat) (drA:OA) (drC:Nat) (ha:List bZ) (heA:OA) (heC:Nat) (faA:OA) (faC:Nat) (prA:OA) (prC:Nat) (h i:Int) (d:aq) (sgA:OA) (sgC:Nat) (hin:er j az ha) (hsl:d.aV.aa.length≤1000000):
 lR Tryz.prog 18 [(vA (eY.cells (lJ j kA kC cA cC bA bC slA slC drA drC heA heC faA faC prA prC))),(vI h),(vI i),(vA (aR.cells (aR.mk d.Out d.cD d.Time (g8 d.aV sgA sgC))))] ((rd iG 3 2 gI)::((pb j kA az cA bA slA drA ha heA faA prA)++[(rd sgA d.aV.aa.length 2 (d.aV.aa.map aH.cells))])) (fun (x:Bool×Int×(OA)×Nat×(OA)×Nat×(List RA)×(OA)×Nat×(OA)×Nat×(OA)×Nat×(OA)×Nat×(List bZ))=>bif x.1 then (vT [(vA (ct.cells (ct.mk (bW.mk (bJ.mk (bj.mk x.2.2.1 j.Race.au.bL.length x.2.2.2.1)) j.Race.au.gl (bj.mk x.2.2.2.2.1 j.Race.au.aG.length x.2.2.2.2.2.1) (bj.mk x.2.2.2.2.2.2.2.1 j.Race.au.aj.length x.2.2.2.2.2.2.2.2.1) j.Race.au.bU j.Race.au.ew j.Race.au.cU) (bj.mk x.2.2.2.2.2.2.2.2.2.1 j.Race.bu.length x.2.2.2.2.2.2.2.2.2.2.1) (bj.mk x.2.2.2.2.2.2.2.2.2.2.2.1 j.Race.cN.length x.2.2.2.2.2.2.2.2.2.2.2.2.1) j.Race.jd (bj.mk x.2.2.2.2.2.2.2.2.2.2.2.2.2.1 ((j0 j.Race.aI h i d).length) x.2.2.2.2.2.2.2.2.2.2.2.2.2.2.1)))),(vI 0)]) else (vT [(vA (ct.cells (ct.mk (bW.mk (bJ.mk (bj.mk none 0 0)) 0 (bj.mk none 0 0) (bj.mk none 0 0) 0 0 0) (bj.mk none 0 0) (bj.mk none 0 0) 0 (bj.mk none 0 0)))),(vI x.2.1)])) (fun (x:Bool×Int×(OA)×Nat×(OA)×Nat×(List RA)×(OA)×Nat×(OA)×Nat×(OA)×Nat×(OA)×Nat×(List bZ))=>(x.1=true→((km j h i d)=0∧(x.2.2.2.2.2.2.1.length=j.Race.au.aG.length∧mU j.Race.au.aG x.2.2.2.2.2.2.1)∧ud (j0 j.Race.aI h i d) x.2.2.2.2.2.2.2.2.2.2.2.2.2.2.2))∧(x.1=false→(x.2.1=(km j h i d)∧ ¬ (km j h i d)=0))) (fun (x:Bool×Int×(OA)×Nat×(OA)×Nat×(List RA)×(OA)×Nat×(OA)×Nat×(OA)×Nat×(OA)×Nat×(List bZ))=>bif x.1 then [(own x.2.2.1 x.2.2.2.1 128 9 (j.Race.au.bL.map aD.cells)),(own x.2.2.2.2.1 x.2.2.2.2.2.1 133 2 (List.zipWith aT.cells j.Race.au.aG x.2.2.2.2.2.2.1)),(bQ (bK aT.owns j.Race.au.aG x.2.2.2.2.2.2.1)),(own x.2.2.2.2.2.2.2.1 x.2.2.2.2.2.2.2.2.1 137 4 (j.Race.au.aj.map cO.cells)),(own x.2.2.2.2.2.2.2.2.2.1 x.2.2.2.2.2.2.2.2.2.2.1 3 1 (j.Race.bu.map iC)),(own x.2.2.2.2.2.2.2.2.2.2.2.1 x.2.2.2.2.2.2.2.2.2.2.2.2.1 3 1 (j.Race.cN.map iC)),(own x.2.2.2.2.2.2.2.2.2.2.2.2.2.1 x.2.2.2.2.2.2.2.2.2.2.2.2.2.2.1 75 1 (List.zipWith cL (j0 j.Race.aI h i d) x.2.2.2.2.2.2.2.2.2.2.2.2.2.2.2)),(bQ (bK j3 (j0 j.Race.aI h i d) x.2.2.2.2.2.2.2.2.2.2.2.2.2.2.2))] else []):=by
 have A9:=hin.race
 have EQ:=hin.race.line
 have Jk:=hin.race.fE
 have J3:=hin.race.has
 have IO:=hin.race.fM
 have GT:=hin.nf
 have Hi:=hin.np
 refine dL kr Tryz.func18 U U fun w0 Q hQ hN=>?_
 try dsimp only
 refine WS fun _ Cp=>dV U fun b2=>dV U fun b3=>AL U y_ fun b4=>bp 1 U<|RK Cp<|WS fun _ Cx=>dY 1 [] (mc 2 U I) U<|rS (CL (wY j kA kC az cA cC bA bC slA slC drA drC ha heA heC faA faC prA prC hin) (aY [3,4,5,6,7,8,9,10,11,12,13]) U)<|bp 3 U<|AL U HZ fun b6=>e7 U H9 U<|bp 1 U<|RK Cx<|ag fun _ C0=>WS fun _ C1=>rP 2 [] I ?_
 refine RK C1<|cb U (aX fun E=>?_) (aW fun E=>?_)
 ·refine WS fun _ C2=>rS (SX (bE (xs:=[]) (cs:=(ct.cells (ct.mk (bW.mk (bJ.mk (bj.mk none 0 0)) 0 (bj.mk none 0 0) (bj.mk none 0 0) 0 0 0) (bj.mk none 0 0) (bj.mk none 0 0) 0 (bj.mk none 0 0)))) U U (bD yV U)) U U)<|bp 1 U<|pV U oZ U<|rP 1 [] I ?_
  refine RK C2<|ak ?_
  refine LX hQ (false,(dU j),none,0,none,0,[],none,0,none,0,none,0,none,0,[]) [] [0] (mc 1 U I) U (by rfl) U ?_ ?_
  ·rfl
  ·refine ⟨FV,fun _=>?_⟩; have e:=B0 (h:=h) (i:=i) (d:=d) E; exact ⟨e.symm,fun q=>E (e.symm.trans q)⟩
 refine WK C0<|ag fun _ u=>WS fun _ f=>rP 6 [] (mc 3 U I) ?_
 refine e9 (xs:=[.tmp 27]) (cs:=[(vI h)]) U dI kR U U U U (by simp [Value.cells]) U U fun B9=>?_
 refine rS (CL (dG.eq (jy 0 ((j.Race.aI.length:Int)-1) ([h]) (some ⟨B9,0,none⟩) 1 (by (simp; done))) cK) (aw (bo 0 U U (by simp [bX]) U)<|aS) U) ?_
 refine rP 2 [] I ?_
 refine bS (t:=31) U (aX fun Ci=>?_) (aW fun Ci=>?_)
 ·refine bp 10 U<|RK f<|aL U<|WS fun _ v=>rS (SX (bE (xs:=[]) (cs:=(ct.cells (ct.mk (bW.mk (bJ.mk (bj.mk none 0 0)) 0 (bj.mk none 0 0) (bj.mk none 0 0) 0 0 0) (bj.mk none 0 0) (bj.mk none 0 0) 0 (bj.mk none 0 0)))) U U (bD yV U)) U U)<|CT U oZ U<|rP 1 [] I ?_
  refine RK v<|ak ?_
  refine LX hQ (false,2,none,0,none,0,[],none,0,none,0,none,0,none,0,[]) [] [0] (mc 2 U I) U (by rfl) U ?_ ?_
  ·rfl
  ·exact o9<|qT (ue (h:=h) (i:=i) (d:=d) E om)
 refine rP 6 [] (mc 4 U I) ?_
 refine e9 (xs:=[.tmp 37]) (cs:=[(vI i)]) U dI kR U U U U (by simp [Value.cells]) U U fun CB=>?_
 refine rS (CL (dG.eq (jy 0 ((j.Race.bu.length:Int)-1) ([i]) (some ⟨CB,0,none⟩) 1 (by (simp; done))) cK) (aw (bo 0 U U (by simp [bX]) U)<|aS) U) ?_
 refine rP 2 [] I ?_
 refine RK f<|cb U (aX fun Ck=>?_) (aW fun Ck=>?_)
 ·refine WS fun _ y=>rS (SX (bE (xs:=[]) (cs:=(ct.cells (ct.mk (bW.mk (bJ.mk (bj.mk none 0 0)) 0 (bj.mk none 0 0) (bj.mk none 0 0) 0 0 0) (bj.mk none 0 0) (bj.mk none 0 0) 0 (bj.mk none 0 0)))) U U (bD yV U)) U U)<|Qh U oZ U<|rP 1 [] I ?_
  refine RK y<|ak ?_
  refine LX hQ (false,2,none,0,none,0,[],none,0,none,0,none,0,none,0,[]) [] [0] (mc 3 U I) U (by rfl) U ?_ ?_
  ·rfl
  ·exact o9<|qT (ue (h:=h) (i:=i) (d:=d) E om)
 refine WK u<|ag fun _ z=>ag fun _ AC=>?_
 have A7:=(dj E).1
 have J4:=(dj E).2
 have Do:=(dx A7).1
 have Eq:=(dx A7).2
 have Di:=(dw Do).2.head
 unfold eL at Di
 refine ao<|rP 1 [] (mc 2 U I) ?_
 refine cX (zc j kA kC az cA cC bA bC slA slC drA drC ha heA heC faA faC prA prC hin asm) (aY [7,8,9,10,11,12,13,14,15,16]) U fun Fd Ba=>?_
 obtain ⟨b,Id,JJ⟩:=Fd
 try dsimp only
 have r:=Ba
 try dsimp only at r
 refine rP 1 [] I ?_
 have J5:(dT j).length=j.Race.aI.length:=um
 obtain ⟨row,H⟩:=aA (dT j) ((h).toNat) om
 obtain ⟨rowa,W⟩:=aA b ((h).toNat) om
 have s:(List.zipWith tU (dT j) b)[(h).toNat]? =some (tU row rowa):=cG H W
 refine rS (IA ((h).toNat) U (ar (n:=(dT j).length) 0 U (mS r)) GL dc om om)<|rS (gv ((h).toNat) 0 (vS rowa.1 row.length rowa.2) U bV (ar (n:=(dT j).length) 0 U (mS r)) s U dc U)<|rP 1 [] I ?_
 have H1:row.length≤1000000:=yG E _ (by rw [ki E]; exact aP H)
 refine rS (CL (CM row rowa.1 rowa.2 i asm) (aw (show g9 _ (rd rowa.1 row.length 1 (row.map iC)).holds from (fun w hw=>(eO 1 U Gc) w hw _ (bB H W (by simp [OK]))))<|aS) U)<|rP 1 [] I ?_
 refine RK AC<|cb U (aX fun X=>?_) (aW fun X=>?_)
 ·refine WS fun _ AO=>rS (SX (bE (xs:=[]) (cs:=(ct.cells (ct.mk (bW.mk (bJ.mk (bj.mk none 0 0)) 0 (bj.mk none 0 0) (bj.mk none 0 0) 0 0 0) (bj.mk none 0 0) (bj.mk none 0 0) 0 (bj.mk none 0 0)))) U U (bD yV U)) U U)<|HY U oZ U<|rP 1 [] I ?_
  refine RK AO<|ak ?_
  refine LX hQ (false,8,none,0,none,0,[],none,0,none,0,none,0,none,0,[]) [] [0] (mc 5 U I) U (by rfl) U ?_ ?_
  ·rfl
  ·exact o9<|qT (E2 (h:=h) (i:=i) (d:=d) E ⟨om,om⟩ H X)
 refine WK z<|WS fun _ AU=>rP 1 [] I ?_
 refine rS (LP (ct.cells (wq j.Race kA kC cA cC bA bC slA slC drA drC heA heC)) 7 U bV U U U)<|cX (KD j.Race kA kC az cA cC bA bC slA slC drA drC ha heA heC asm) (aY [9,10,11,12,13,14,15,16]) U fun Fk B3=>?_
 obtain ⟨J,O,K,P,Z,L,R,M,S,N,T,F,G,AB⟩:=Fk
 try dsimp only
 obtain ⟨⟨Y,p⟩,D⟩:=B3
 try dsimp only at Y p D
 have Go:=D.1
 refine AL U y_ fun In=>e7 U oZ U<|RK AU<|WS fun _ Ag=>rP 3 [] (mc 15 U I) ?_
 refine cX (Cv d.aV.aa sgA sgC hsl) (aY [28]) U fun Fn IR=>?_
 obtain ⟨B,C⟩:=Fn
 try dsimp only
 refine rP 2 [] I ?_
 refine hU (vs:=[(vS B d.aV.aa.length C)]) (cs':=(aR.cells (aR.mk d.Out d.cD d.Time (g8 d.aV B C)))) (C':=[_,_,_,_,_,_,_,_,_,_,_,_,_,_,_,_,(cy b3 43 (aR.cells (aR.mk d.Out d.cD d.Time (g8 d.aV B C)))),_,_,_,_,_,_,_,_,_,_,_,_,_]) 16 U U U QB U U U U U U U<|RK Ag<|ag fun _ Ax=>?_
 obtain ⟨ht,AA⟩:=aA j.Race.aI ((h).toNat) om
 obtain ⟨A,V⟩:=aA AB ((h).toNat) (by have:=D.1; omega)
 have A6:(List.zipWith cL j.Race.aI AB)[(h).toNat]? =some (cL ht A):=cG AA V
 have FS:=D.2 _ _ _ AA V
 have J2:=(Eq.fJ ht (aP AA)).1
 refine Im 9 AA V U U ?_
 try dsimp only
 refine cS cj 8 kr<|kf 3 [] (mc 4 U I) U<|dS (IA ((h).toNat) U (ar (n:=j.Race.aI.length) 11 U (dQ D.1)) kF dc om om)<|dS (gv ((h).toNat) 0 (vS A.1.1 ht.length A.1.2) U bV (ar (n:=j.Race.aI.length) 11 U (dQ D.1)) A6 U dc U)<|dP 2 [] (mc 18 U I) ?_
 obtain ⟨d0,A4⟩:=aA ht ((i).toNat) om
 obtain ⟨C3,g⟩:=aA A.2 ((i).toNat) om
 have A5:(List.zipWith aq.cells ht A.2)[(i).toNat]? =some (aq.cells d0 C3):=cG A4 g
 refine dS (IA ((i).toNat) U (ar (n:=ht.length) 0 U (jP FS)) ov dc om om)<|cu<|eo (k:=(i).toNat) (o:=0) (vs:=(aR.cells (aR.mk d.Out d.cD d.Time (g8 d.aV B C)))) (es':=(List.zipWith aq.cells (ht.set (i).toNat d) (A.2.set (i).toNat (B,C)))) (C':=[(own A.1.1 A.1.2 43 7 (List.zipWith aq.cells (ht.set (i).toNat d) (A.2.set (i).toNat (B,C)))),_,_,_,_,_,_,_,_,_,_,_,_,_,_,_,_,_,_,_,_,_,_,_,_,_,_,_,_,_,_,_]) 0 U U U Et U U U U A5 U dc (by exact uL (c:=aq.cells) (m:=d) (a:=(B,C))) U<|RK Ax<|ag fun _ A0=>ag fun _ A1=>KG (d':=d) (b':=(B,C)) 1 3 A4 g U U ?_
 refine E8 (h':=(ht.set (i).toNat d)) (a':=(A.1,(A.2.set (i).toNat (B,C)))) 2 0 1 om (by have:=D.1; omega) U U ?_
 rw [← r9 AA,show List.zipWith cL j.Race.aI AB=List.zipWith cL (j0 j.Race.aI h i d) (AB.set (h).toNat (A.1,(A.2.set (i).toNat (B,C)))) from by rw [r9 AA]; exact (zz AA V (by rw [List.length_set])).symm]
 replace D:=Ib (d:=d) (i:=i) (x:=(B,C)) D AA V
 rw [show bj.mk F j.Race.aI.length G=bj.mk F ((j0 j.Race.aI h i d).length) G from by rw [q_]]
 have A8:iL (rn j.Race h i d) _ _:=A9.put Y p D hsl
 refine ao<|rP 1 [] (mc 1 U I) ?_
 refine rS (CL (BP (rn j.Race h i d) J O Z K P L R M S N T (AB.set (h).toNat (A.1,(A.2.set (i).toNat (B,C)))) F G (by exact A8)) (eG 17 U U<|aw (ar (n:=j.Race.au.bL.length) 2 U (by (rw [List.length_map]; rfl)))<|aw (ar (n:=j.Race.au.aG.length) 3 U (gO Y))<|aw (eO 4 U jT)<|aw (ar (n:=j.Race.au.aj.length) 5 U (by (rw [List.length_map]; rfl)))<|aw (ar (n:=j.Race.bu.length) 6 U (by (rw [List.length_map]; rfl)))<|aw (ar (n:=j.Race.cN.length) 7 U (by (rw [List.length_map]; rfl)))<|aw (ar (n:=(j0 j.Race.aI h i d).length) 8 U (dQ D.1))<|aw (jf 0 U D)<|aS) U) ?_
 refine rP 1 [] I ?_
 refine RK A1<|cb U (aX fun l=>?_) (aW fun l=>?_)
 ·refine WS fun _ A2=>rS (SX (bE (xs:=[]) (cs:=(ct.cells (ct.mk (bW.mk (bJ.mk (bj.mk none 0 0)) 0 (bj.mk none 0 0) (bj.mk none 0 0) 0 0 0) (bj.mk none 0 0) (bj.mk none 0 0) 0 (bj.mk none 0 0)))) U U (bD yV U)) U U)<|hU (vs:=(ct.cells (ct.mk (bW.mk (bJ.mk (bj.mk none 0 0)) 0 (bj.mk none 0 0) (bj.mk none 0 0) 0 0 0) (bj.mk none 0 0) (bj.mk none 0 0) 0 (bj.mk none 0 0)))) (cs':=(ct.cells (ct.mk (bW.mk (bJ.mk (bj.mk none 0 0)) 0 (bj.mk none 0 0) (bj.mk none 0 0) 0 0 0) (bj.mk none 0 0) (bj.mk none 0 0) 0 (bj.mk none 0 0)))) (C':=[_,_,_,_,_,_,_,_,_,_,_,_,_,_,(cy b4 32 (ct.cells (ct.mk (bW.mk (bJ.mk (bj.mk none 0 0)) 0 (bj.mk none 0 0) (bj.mk none 0 0) 0 0 0) (bj.mk none 0 0) (bj.mk none 0 0) 0 (bj.mk none 0 0)))),_,_,_,_,_,_,_,_,_,_,_,_,_,_]) 14 U U U oZ U U U U U U U<|rP 1 [] I ?_
  refine RK A2<|ak ?_
  refine LX hQ (false,60,none,0,none,0,[],none,0,none,0,none,0,none,0,[]) [] [0] (mc 14 U I) U (by rfl) U ?_ ?_
  ·rfl
  ·exact o9<|qT (z3 (h:=h) (i:=i) (d:=d) E ⟨om,om⟩ H X l)
 refine WK A0<|WS fun _ A3=>dY 1 [] (mc 1 U I) U<|hU (vs:=(ct.cells (ct.mk (bW.mk (bJ.mk (bj.mk J j.Race.au.bL.length O)) j.Race.au.gl (bj.mk K j.Race.au.aG.length P) (bj.mk L j.Race.au.aj.length R) j.Race.au.bU j.Race.au.ew j.Race.au.cU) (bj.mk M j.Race.bu.length S) (bj.mk N j.Race.cN.length T) j.Race.jd (bj.mk F ((j0 j.Race.aI h i d).length) G)))) (cs':=(ct.cells (ct.mk (bW.mk (bJ.mk (bj.mk J j.Race.au.bL.length O)) j.Race.au.gl (bj.mk K j.Race.au.aG.length P) (bj.mk L j.Race.au.aj.length R) j.Race.au.bU j.Race.au.ew j.Race.au.cU) (bj.mk M j.Race.bu.length S) (bj.mk N j.Race.cN.length T) j.Race.jd (bj.mk F ((j0 j.Race.aI h i d).length) G)))) (C':=[_,_,_,_,_,_,_,_,_,_,_,_,_,_,(cy b4 32 (ct.cells (ct.mk (bW.mk (bJ.mk (bj.mk J j.Race.au.bL.length O)) j.Race.au.gl (bj.mk K j.Race.au.aG.length P) (bj.mk L j.Race.au.aj.length R) j.Race.au.bU j.Race.au.ew j.Race.au.cU) (bj.mk M j.Race.bu.length S) (bj.mk N j.Race.cN.length T) j.Race.jd (bj.mk F ((j0 j.Race.aI h i d).length) G)))),_,_,_,_,_,_,_,_,_,_,_,_,_,_]) 14 U U U oZ U U U U U U U<|rP 1 [] I ?_
 refine RK A3<|ak ?_
 refine LX hQ (true,0,J,O,K,P,Z,L,R,M,S,N,T,F,G,(AB.set (h).toNat (A.1,(A.2.set (i).toNat (B,C))))) [2,3,4,5,6,7,8,0] [0] (mc 14 U I) U (by (show List.all _ _=true; simp only [cond_true,fV,List.all_nil,kB,rf,Bool.and_true]; rfl)) U ?_ ?_
 ·rfl
 ·exact ⟨fun _=>⟨F5 E ⟨om,om⟩ H X l,⟨Y,p⟩,D⟩,Oj⟩
theorem AR (j:cw) (kA:OA) (kC:Nat) (az:List RA) (cA:OA) (cC:Nat) (bA:OA) (bC:Nat) (slA:OA) (slC:Nat) (drA:OA) (drC:Nat) (ha:List bZ) (heA:OA) (heC:Nat) (faA:OA) (faC:Nat) (prA:OA) (prC:Nat) (h i:Int) (d:aq) (sgA:OA) (sgC:Nat) (hin:er j az ha) (hsl:d.aV.aa.length≤1000000) (hok:(km j h i d)=0):
 lR Tryz.prog 18 [(vA (eY.cells (lJ j kA kC cA cC bA bC slA slC drA drC heA heC faA faC prA prC))),(vI h),(vI i),(vA (aR.cells (aR.mk d.Out d.cD d.Time (g8 d.aV sgA sgC))))] ((rd iG 3 2 gI)::((pb j kA az cA bA slA drA ha heA faA prA)++[(rd sgA d.aV.aa.length 2 (d.aV.aa.map aH.cells))])) (fun (x:(OA)×Nat×(OA)×Nat×(List RA)×(OA)×Nat×(OA)×Nat×(OA)×Nat×(OA)×Nat×(List bZ))=>(vT [(vA (ct.cells (ct.mk (bW.mk (bJ.mk (bj.mk x.1 j.Race.au.bL.length x.2.1)) j.Race.au.gl (bj.mk x.2.2.1 j.Race.au.aG.length x.2.2.2.1) (bj.mk x.2.2.2.2.2.1 j.Race.au.aj.length x.2.2.2.2.2.2.1) j.Race.au.bU j.Race.au.ew j.Race.au.cU) (bj.mk x.2.2.2.2.2.2.2.1 j.Race.bu.length x.2.2.2.2.2.2.2.2.1) (bj.mk x.2.2.2.2.2.2.2.2.2.1 j.Race.cN.length x.2.2.2.2.2.2.2.2.2.2.1) j.Race.jd (bj.mk x.2.2.2.2.2.2.2.2.2.2.2.1 ((j0 j.Race.aI h i d).length) x.2.2.2.2.2.2.2.2.2.2.2.2.1)))),(vI 0)])) (fun (x:(OA)×Nat×(OA)×Nat×(List RA)×(OA)×Nat×(OA)×Nat×(OA)×Nat×(OA)×Nat×(List bZ))=>((km j h i d)=0∧(x.2.2.2.2.1.length=j.Race.au.aG.length∧mU j.Race.au.aG x.2.2.2.2.1)∧ud (j0 j.Race.aI h i d) x.2.2.2.2.2.2.2.2.2.2.2.2.2)) (fun (x:(OA)×Nat×(OA)×Nat×(List RA)×(OA)×Nat×(OA)×Nat×(OA)×Nat×(OA)×Nat×(List bZ))=>[(own x.1 x.2.1 128 9 (j.Race.au.bL.map aD.cells)),(own x.2.2.1 x.2.2.2.1 133 2 (List.zipWith aT.cells j.Race.au.aG x.2.2.2.2.1)),(bQ (bK aT.owns j.Race.au.aG x.2.2.2.2.1)),(own x.2.2.2.2.2.1 x.2.2.2.2.2.2.1 137 4 (j.Race.au.aj.map cO.cells)),(own x.2.2.2.2.2.2.2.1 x.2.2.2.2.2.2.2.2.1 3 1 (j.Race.bu.map iC)),(own x.2.2.2.2.2.2.2.2.2.1 x.2.2.2.2.2.2.2.2.2.2.1 3 1 (j.Race.cN.map iC)),(own x.2.2.2.2.2.2.2.2.2.2.2.1 x.2.2.2.2.2.2.2.2.2.2.2.2.1 75 1 (List.zipWith cL (j0 j.Race.aI h i d) x.2.2.2.2.2.2.2.2.2.2.2.2.2)),(bQ (bK j3 (j0 j.Race.aI h i d) x.2.2.2.2.2.2.2.2.2.2.2.2.2))]):=by
 exact FY (xy j kA kC az cA cC bA bC slA slC drA drC ha heA heC faA faC prA prC h i d sgA sgC hin hsl) (fun x q=>q.2 hok)
end
section
open Go.RowKit
theorem Je (l:bq) (kA:OA) (kC:Nat) (az:List RA) (cA:OA) (cC:Nat) (bA:OA) (bC:Nat) (r:cQ) (sgA:OA) (sgC:Nat) (hin:ed l az) (hsl:r.aa.length≤1000000):
 lR Tryz.prog 124 [(vA (bW.cells (jx l kA kC cA cC bA bC))),(vA (de.cells (g8 r sgA sgC)))] ((o7 l kA az cA bA)++[(rd sgA r.aa.length 2 (r.aa.map aH.cells))]) (fun (x:(OA)×Nat)=>(vT [(vS x.1 ((hH l r).length) x.2),(vI (fq l r 0))])) (fun (x:(OA)×Nat)=>True) (fun (x:(OA)×Nat)=>[(own x.1 x.2 3 1 ((hH l r).map iC))]):=by
 have C0:=hin.qI
 have Ci:=hin.qG
 have B9:=hin.lS
 have CB:=hin.qD
 refine dL kr Tryz.func124 U U fun w0 Q hQ hN=>?_
 try dsimp only
 refine WS fun _ A2=>dV U fun b2=>dV U fun b3=>bp 2 U<|RK A2<|WS fun _ f=>rP 2 [0,1] (mc 1 U (mc 0 U I)) ?_
 refine cX (AP l kA kC az cA cC bA bC r sgA sgC hin hsl) (aY [2,3,4,5,6]) U fun y5 AC=>?_
 obtain ⟨AO,B3,a8,c9,J⟩:=y5
 cases AO
 ·obtain ⟨v,he⟩:=AC.2 rfl
  try dsimp only at v he
  subst v
  try dsimp only [cond_true,cond_false,List.cons_append,List.nil_append]
  refine bp 5 U<|RK f<|ag fun _ A9=>WS fun _ N=>rP 2 [] I ?_
  refine RK N<|bO U (aW fun M=>?_) (aX fun M=>?_)
  ·exact absurd M he
  refine WS fun _ O=>gn 3 1 ?_
  rw [show (own none 0 3 1 ([]:List (List Value)))=own none 0 3 1 ((hH l r).map iC) from by rw [pk he]; rfl]
  refine bp 1 U<|rP 2 [] I ?_
  refine RK O<|ak ?_
  refine LX hQ (none,0) [0] [] I U U U ?_ ?_
  ·first|rfl|(rw [he]; rfl)|(rw [pk he]; rfl)
  ·trivial
 obtain ⟨he,E⟩:=AC.1 rfl
 try dsimp only [cond_true,cond_false,List.cons_append,List.nil_append]
 try dsimp only at he E
 obtain ⟨D,C,_,Ck⟩:=iD he
 obtain ⟨C1,A5⟩:=dw D
 have A4:=A5.head
 unfold eL at A4
 have A6:=D8 D C
 have C2:=A6.num
 have Cp:=C.len
 have Cx:=C.time
 refine bp 5 U<|RK f<|ag fun _ P=>WS fun _ R=>bp 1 U<|rS (SX (eQ (r:= .bool false) U U U s7) U U)<|RK R<|bT U<|WK P<|WS fun _ S=>bp 1 U<|RK S<|ag fun _ T=>WS fun _ AA=>rP 1 [] I ?_
 refine RK AA<|ax<|fu 3 1 ?_
 have A:(0≤l.aj.length+1):=by exact Nat.zero_le _
 refine bP (ι:={z:Nat×(OA)×Nat // (z.1≤l.aj.length+1)}) [2,3,6] [1,2,3,4,5,6,7,8,9] U U (fun z=>[(8,(vS z.1.2.1 ((iT (di l r) z.1.1).length) z.1.2.2)),(9,(vI (z.1.1:Int)))]) (fun z=>[(own z.1.2.1 z.1.2.2 3 1 ((iT (di l r) z.1.1).map iC))]) (fun _=>rfl) (fun _=>rfl) (fun z=>l.aj.length+1-z.1.1) ⟨(0,none,0),A⟩ (bf U) (aK [1,2,3,4,5,6,7,8,9,0]) ?_
 clear A
 rintro ⟨⟨n,a,c⟩,L⟩ J20 F
 try dsimp only at L
 try dsimp only
 refine ag fun _ V=>WS fun _ W=>rP 5 [] (mc 3 U I) ?_
 refine RK W<|bO U (aO fun A0=>?_) (aN fun A0=>?_)
 ·refine bM<|ab<|ab<|aF<|KK T<|WS fun _ g=>rP 1 [] I ?_
  rw [show (iT (di l r) n)=(hH l r) from by (rw [si he]; unfold lY; rw [l6,show n=l.aj.length+1 by omega])]
  refine rP 2 [] I ?_
  refine RK g<|ak ?_
  refine LX hQ (a,c) [9] [] I U U U ?_ ?_
  ·first|rfl|(rw [he]; rfl)|(rw [pk he]; rfl)
  ·trivial
 refine WK V<|ag fun _ H=>ax<|WS fun _ X=>bp 1 U<|RK X<|ag fun _ Y=>WS fun _ Z=>rP 1 [] I ?_
 refine RK Z<|ax ?_
 have A:(0≤(kO l r).length):=by exact Nat.zero_le _
 have h:(vB (Pk ((kO l r).take 0) n))=(vB false):=by rfl
 refine bP (ι:={z:Nat // (z≤(kO l r).length)}) [2,3,6,8,9] [0,1,2,3,4,5,6,7,8,9] U U (fun z=>[(10,(vB (Pk ((kO l r).take z.1) n))),(11,(vI (z.1:Int)))]) (fun z=>[]) (fun _=>rfl) (fun _=>rfl) (fun z=>(kO l r).length-z.1) ⟨0,A⟩ (aU U h<|bf U) (aK [0,1,2,3,4,5,6,7,8,9]) ?_
 clear A
 rintro ⟨i,AU⟩ J29 G
 try dsimp only
 refine ag fun _ b=>WS fun _ d=>rP 4 [] I ?_
 refine RK d<|bO U (aO fun A1=>?_) (aN fun A1=>?_)
 ·refine bM<|ab<|ab<|aF<|KK Y<|WS fun _ e=>rP 1 [] I ?_
  refine RK e<|bO U (fun K=>?_) (fun K=>?_)
  ·refine cg<|aJ<|KK H<|ao<|rP 3 [] I ?_
   refine aC ?_
   rw [show (iT (di l r) n)=(iT (di l r) (n+1)) from (zF (by have q:=K; rw [List.take_of_length_le om] at q; rw [← yv D C om]; exact q)).symm]
   have u:(vI (((n+1):Nat):Int))=(vI ((n:Int)+1)):=by exact cI om
   refine a_ (F ⟨((n+1),a,c),(by first|omega|(simp only []; omega))⟩ _ _ _ U os (cz 4<|aU U u<|cR.nil _) (aK [0,1,2,3,4,5,6,7,8,9]))
  refine ao<|rP 1 [] I ?_
  have A3:lq (di l r) (pW (di l r) n)=true:=by have q:=K; rw [List.take_of_length_le om] at q; rw [← yv D C om]; exact q
  refine rP 1 [] I ?_
  refine e9 (xs:=[.tmp 47]) (cs:=[(vI (n:Int))]) U dI kR U U U U (by simp [Value.cells]) U U fun Ba=>?_
  refine cP (es2:=(List.map iC (iT (di l r) (n+1)))) (m':=(iT (di l r) (n+1)).length) 10 U U U pg U U sm (bo (es:=List.map iC [(n:Int)]) 0 U U (by simp [bX]) U) (jN _) (by have:=oa (w:=di l r) (k:=n); omega) (by have:=oa (w:=di l r) (k:=n); simp only [maxLen]; omega) (by rw [xD A3]; simp) sm U fun Ag Ax=>?_
  try dsimp only
  refine bp 1 U<|aC<|aJ<|KK H<|ao<|rP 3 [] I ?_
  refine aC ?_
  have s:(vI (((n+1):Nat):Int))=(vI ((n:Int)+1)):=by exact cI om
  refine a_ (F ⟨((n+1),Ag,Ax),(by first|omega|(simp only []; omega))⟩ _ _ _ U os (cz 4<|aU U s<|cR.nil _) (aK [1,2,3,4,5,6,7,8,9,10]))
 refine WK b<|ag fun _ AB=>ax<|ao<|rP 1 [] I ?_
 obtain ⟨y,hy⟩:=aA (kO l r) i om
 refine rP 1 [] I ?_
 refine bS (t:=35) U (fun B=>?_) (fun B=>?_)
 ·refine bp 10 U<|aC<|aJ<|KK AB<|ao<|rP 3 [] I ?_
  refine aC ?_
  have j:(vB (Pk ((kO l r).take (i+1)) n))=(vB true):=by first|(rw [lG hy,uC,B,Bool.true_or]; done)|(rw [lG hy,uC,B,Bool.false_or]; exact cB (gT.2 om))
  have m:(vI (((i+1):Nat):Int))=(vI ((i:Int)+1)):=by exact cI om
  refine a_ (G ⟨(i+1),(by first|omega|(simp only []; omega))⟩ _ _ _ U os (cz 5<|aU U j<|aU U m<|cR.nil _) (aK [0,1,2,3,4,5,6,7,8,9]))
 refine rP 2 [] I ?_
 obtain ⟨y,hy⟩:=aA (kO l r) i om
 obtain ⟨ya,A7⟩:=aA J i om
 have A8:(List.zipWith du.cells (kO l r) J)[i]? =some (du.cells y ya):=cG hy A7
 refine rS (IA i U (ar (n:=(kO l r).length) 0 U (m6 E)) BT dc om om)<|rS (nQ (i*3) U (ar (n:=(kO l r).length) 0 U (m6 E)) (Nat.mul_pos om dc) eD U)<|rS (gv i 0 (vS ya.1.1 y.gp.length ya.1.2) U bV (ar (n:=(kO l r).length) 0 U (m6 E)) A8 U dc U)<|bp 5 U<|aC<|aJ<|KK AB<|ao<|rP 3 [] I ?_
 refine aC ?_
 have o:(vB (Pk ((kO l r).take (i+1)) n))=(vB (decide ((y.gp.length:Int)=(n:Int)))):=by first|(rw [lG hy,uC,B,Bool.true_or]; done)|(rw [lG hy,uC,B,Bool.false_or]; exact cB (gT.2 om))
 have p:(vI (((i+1):Nat):Int))=(vI ((i:Int)+1)):=by exact cI om
 refine a_ (G ⟨(i+1),(by first|omega|(simp only []; omega))⟩ _ _ _ U os (cz 5<|aU U o<|aU U p<|cR.nil _) (aK [0,1,2,3,4,5,6,7,8,9]))
end
section
open Go.RowKit
theorem po (l:bq) (kA:OA) (kC:Nat) (az:List RA) (cA:OA) (cC:Nat) (bA:OA) (bC:Nat) (r:cQ) (sgA:OA) (sgC:Nat) (b:Int) (hin:ed l az) (hsl:r.aa.length≤1000000):
 dG Tryz.prog 103 [(vA (bW.cells (jx l kA kC cA cC bA bC))),(vA (de.cells (g8 r sgA sgC))),(vI b)] ((o7 l kA az cA bA)++[(rd sgA r.aa.length 2 (r.aa.map aH.cells))]) (vA (ji.cells (ji.mk (!((dh l r b).never)) ((dh l r b).each) ((dh l r b).Lo) ((dh l r b).Hi)))):=by
 have g:=hin.qI
 have e:=hin.qG
 have c:=hin.lS
 have d:=hin.qD
 refine bG kr Tryz.func103 U U fun o Q hQ hN=>?_
 try dsimp only
 refine WS fun _ P=>dV U fun j=>dV U fun k=>AL U uY fun m=>RK P<|ag fun _ R=>WS fun _ S=>rP 2 [] I ?_
 refine RK S<|cb U (aN fun A=>?_) (aO fun A=>?_)
 ·refine WS fun _ T=>rP 4 [] (mc 1 U I) ?_
  refine rS (SX (bE (xs:=[(0,.const (vB true)),(1,.const (vB true)),(2,.tmp 15),(3,.tmp 17)]) (cs:=(ji.cells (ji.mk true true r.Start r.Start))) U U (bD JW U)) U U)<|e7 U qA U<|RK T<|ak<|Bf hQ [0] (mc 0 U I) U ?_
  (rw [zR A]<;>rfl)
 refine WK R<|WS fun _ AA=>rP 2 [0,1] (mc 2 U (mc 1 U I)) ?_
 refine cX (Je l kA kC az cA cC bA bC r sgA sgC hin hsl) (aY [3,4,5,6,7]) U fun i W=>?_
 obtain ⟨X,a⟩:=i
 try dsimp only
 refine bp 5 U<|RK AA<|WS fun _ F=>dY 3 [0,1] (mc 3 U (mc 2 U I)) U<|rS (CL (GJ l kA kC az cA cC bA bC r sgA sgC b hin hsl) (aY [4,5,6,7,8]) U)<|bp 3 U<|AL U eh fun Y=>e7 U cW U<|bp 1 U<|RK F<|ag fun _ G=>WS fun _ H=>rP 2 [] I ?_
 refine RK H<|cb U (aX fun B=>?_) (aW fun B=>?_)
 ·refine WS fun _ AB=>rS (SX (bE (xs:=[(2,.const (vI 86400000)),(3,.const (vI 86400000))]) (cs:=(ji.cells (ji.mk false false 86400000 86400000))) U U (bD JW U)) U U)<|CT U qA U<|RK AB<|ak<|Bf hQ [0] (mc 2 U I) U ?_
  (rw [ye A B]<;>rfl)
 refine WK G<|ag fun _ J=>?_
 have D:=su B om
 have h:=xj D
 have f:=fun (q:(hH l r)[0]? =some ((hH l r)[0]'om))=>tG A B D q
 refine dp cj [10,11] [] [] [0,1,2,3,4,5,6,7,8,9] [] U U U U U<|eS U (MV U) ?_
 obtain ⟨w,hw⟩:=aA (hH l r) 0 om
 have V:=bH iC hw
 refine eS U (IA 0 U (ar (n:=(hH l r).length) 1 U sm) dI dc U om)<|eS U (gv 0 0 (vI w) U bV (ar (n:=(hH l r).length) 1 U sm) V U dc U)<|eS U (MV U)<|eS U (BI U FH)<|eS U (FA 0 U eD U)<|eS U (L1 (vI ((dD l r b).Lo)) 0 U bV U U)<|eS U (FA 1 U eD U)<|eS U (L1 (vI ((dD l r b).Hi)) 0 U bV U U)<|eS U (SX (bE (xs:=[(0,.const (vB true)),(1,.tmp 39),(2,.tmp 41),(3,.tmp 43)]) (cs:=(ji.cells (ji.mk true (decide (b<w)) ((dD l r b).Lo) ((dD l r b).Hi)))) U U (bD JW U)) U U)<|eg U<|cf U fun T19 N=>AL U uY fun Z=>aC (N _ _ (aK [1,2,3,4,5,6,7,8,9,10]) ?_)
 refine cf U fun T21 O=>e7 U qA U<|aC (O _ _ (aK [1,2,3,4,5,6,7,8,9,10]) ?_)
 refine e8 U<|KK J<|ag fun _ E=>WS fun _ K=>rP 3 [] (mc 0 U I) ?_
 refine RK K<|bO U (aW fun C=>?_) (aX fun C=>?_)
 ·refine WK E<|WS fun _ M=>rP 1 [] (mc 0 U I) ?_
  refine Qh U qA U<|RK M<|ak<|Bf hQ [0] (mc 3 U I) U ?_
  (rw [(tG A B D hw).1 C,dC C]<;>rfl)
 refine ao<|bp 1 U<|VB (ji.cells (ji.mk true (decide (b<w)) ((dD l r b).Lo) 86400000)) U En U U<|RK E<|WS fun _ L=>rP 1 [] (mc 0 U I) ?_
 refine Qh U qA U<|RK L<|ak<|Bf hQ [0] (mc 3 U I) U ?_
 (rw [(tG A B D hw).2 C,br C]<;>rfl)
end
section
open Go.RowKit
theorem GX (j:cw) (kA:OA) (kC:Nat) (az:List RA) (cA:OA) (cC:Nat) (bA:OA) (bC:Nat) (slA:OA) (slC:Nat) (drA:OA) (drC:Nat) (ha:List bZ) (heA:OA) (heC:Nat) (faA:OA) (faC:Nat) (prA:OA) (prC:Nat) (fw ff ft:Int) (d:aq) (sgA:OA) (sgC:Nat) (hin:er j az ha) (hw:0≤fw∧fw≤1000000) (hsl:d.aV.aa.length≤1000000):
 dG Tryz.prog 73 [(vA (eY.cells (lJ j kA kC cA cC bA bC slA slC drA drC heA heC faA faC prA prC))),(vA (bg.cells (bg.mk 1 fw ff ft))),(vA (aR.cells (aR.mk d.Out d.cD d.Time (g8 d.aV sgA sgC))))] ((pb j kA az cA bA slA drA ha heA faA prA)++[(rd sgA d.aV.aa.length 2 (d.aV.aa.map aH.cells))]) (Value.int .u8 (gd j.Race.au (bg.mk 1 fw ff ft) d)):=by
 have i:=hin.race
 have f:=hin.race.line
 have n:=hin.race.fE
 have o:=hin.race.has
 have k:=hin.race.fM
 have g:=hin.nf
 have h:=hin.np
 refine bG kr Tryz.func73 U U fun w Q hQ hN=>?_
 try dsimp only
 refine WS fun _ Z=>dV U fun p=>dV U fun s=>dV U fun u=>bp 1 U<|RK Z<|ag fun _ a=>WS fun _ b=>dY 1 [] (mc 0 U I) U<|rS (CL (ur d.Out d.cD d.Time (g8 d.aV sgA sgC)) (aS) U)<|rP 1 [] I ?_
 refine RK b<|cb U (aX fun B=>?_) (aW fun B=>?_)
 ·refine WS fun _ c=>rP 1 [] I ?_
  refine RK c<|ak<|Q1 hQ U U U ?_
  (rw [nP (fun q=>B q)]; done)
 refine WK a<|WS fun _ e=>bp 2 U<|rS (LP (bW.cells (jx j.Race.au kA kC cA cC bA bC)) 2 U bV U U U)<|AL U L5 fun v=>e7 U JX U<|RK e<|WS fun _ K=>AL U uY fun l=>AL U uY fun m=>RK K<|ag fun _ L=>WS fun _ M=>dY 2 [] (mc 4 U I) U<|RK M<|ax<|WS fun _ N=>rS (SX (eQ (r:= .bool true) U U U ks) U U)<|bp 1 U<|RK N<|aL U<|cS cj 10 kr<|kf 2 [] (mc 2 U I) U<|dS (LP (de.cells (g8 d.aV sgA sgC)) 3 U bV U U U)<|dS (CL (po j.Race.au kA kC az cA cC bA bC d.aV sgA sgC (-1) asm hsl) (aY [6,7,8,9,16]) U)<|kf 2 [] (mc 2 U I) U<|dS (LP (de.cells (g8 d.aV sgA sgC)) 3 U bV U U U)<|kf 2 [] (mc 2 U I) U<|dS (CL (po j.Race.au kA kC az cA cC bA bC d.aV sgA sgC j.Race.au.bU asm hsl) (aY [6,7,8,9,16]) U)<|cu<|pV U qA U<|e7 U qA U<|aC<|aJ<|KK L<|ag fun _ O=>WS fun _ F=>rP 4 [] (mc 1 U I) ?_
 refine bS (t:=55) U (fun A=>?_) (fun A=>?_)
 ·rw [Bool.not_eq_true'] at A
  rw [Bool.not_eq_false'] at A
  refine bp 13 U<|RK F<|aL U<|WS fun _ P=>rP 1 [] I ?_
  refine RK P<|ak<|Q1 hQ U U U ?_
  (rw [gZ rfl B]; (rw [eX (.inl (by simpa using A))]; done))
 rw [Bool.not_eq_false'] at A
 rw [Bool.not_eq_true'] at A
 refine rP 7 [0,1] (mc 1 U (mc 4 U I)) ?_
 refine bS (t:=62) U (aN fun C=>?_) (aO fun C=>?_)
 ·refine bp 6 U<|RK F<|aL U<|WS fun _ R=>rP 1 [] I ?_
  refine RK R<|ak<|Q1 hQ U U U ?_
  (rw [gZ rfl B]; (rw [eX (.inr (.inl C))]; done))
 refine rP 6 [0,1] (mc 0 U (mc 4 U I)) ?_
 refine RK F<|cb U (aN fun D=>?_) (aO fun D=>?_)
 ·refine WS fun _ S=>rP 1 [] I ?_
  refine RK S<|ak<|Q1 hQ U U U ?_
  (rw [gZ rfl B]; (rw [eX (.inr (.inr D))]; done))
 refine WK O<|ag fun _ T=>WS fun _ AA=>dY 2 [] (mc 4 U I) U<|rS (SX (eQ (r:= .bool false) U U U ks) U U)<|RK AA<|bT U<|WK T<|ag fun _ G=>WS fun _ H=>rP 3 [] (mc 1 U I) ?_
 refine cx (t:=90) U (fun AB=>?_) (fun AB=>?_)
 ·refine bp 13 U<|RK H<|bT U<|WK G<|WS fun _ Y=>rP 1 [] I ?_
  refine RK Y<|ak<|Q1 hQ U U U ?_
  (rw [gZ rfl B]; (rw [gr (tS (by simpa using A) (by first|exact C|(simp only []; omega)) (by first|exact D|(simp only []; omega))) (fun q=>by rw [AB] at q; exact Bool.noConfusion q.1)]; done))
 refine rP 7 [0,1] (mc 1 U (mc 4 U I)) ?_
 refine cx (t:=97) U (aO fun J=>?_) (aN fun J=>?_)
 ·refine bp 6 U<|RK H<|bT U<|WK G<|WS fun _ X=>rP 1 [] I ?_
  refine RK X<|ak<|Q1 hQ U U U ?_
  (rw [gZ rfl B]; (rw [gr (tS (by simpa using A) (by first|exact C|(simp only []; omega)) (by first|exact D|(simp only []; omega))) (fun q=>J ((j1 (show ¬ (1:Int)=3 by decide)).1 q.2).1)]; done))
 refine rP 6 [0,1] (mc 0 U (mc 4 U I)) ?_
 refine RK H<|cb U (aN fun E=>?_) (aO fun E=>?_)
 ·refine WS fun _ V=>rP 1 [] I ?_
  refine RK V<|ak<|Q1 hQ U U U ?_
  (rw [gZ rfl B]; (rw [lV (tS (by simpa using A) (by first|exact C|(simp only []; omega)) (by first|exact D|(simp only []; omega))) AB ((j1 (show ¬ (1:Int)=3 by decide)).2 ⟨J,E⟩)]; done))
 refine WK G<|WS fun _ W=>rP 1 [] I ?_
 refine RK W<|ak<|Q1 hQ U U U ?_
 (rw [gZ rfl B]; (rw [gr (tS (by simpa using A) (by first|exact C|(simp only []; omega)) (by first|exact D|(simp only []; omega))) (fun q=>E ((j1 (show ¬ (1:Int)=3 by decide)).1 q.2).2)]; done))
theorem GS (j:cw) (kA:OA) (kC:Nat) (az:List RA) (cA:OA) (cC:Nat) (bA:OA) (bC:Nat) (slA:OA) (slC:Nat) (drA:OA) (drC:Nat) (ha:List bZ) (heA:OA) (heC:Nat) (faA:OA) (faC:Nat) (prA:OA) (prC:Nat) (fw ff ft:Int) (d:aq) (sgA:OA) (sgC:Nat) (hin:er j az ha) (hw:0≤fw∧fw≤1000000) (hsl:d.aV.aa.length≤1000000):
 dG Tryz.prog 73 [(vA (eY.cells (lJ j kA kC cA cC bA bC slA slC drA drC heA heC faA faC prA prC))),(vA (bg.cells (bg.mk 2 fw ff ft))),(vA (aR.cells (aR.mk d.Out d.cD d.Time (g8 d.aV sgA sgC))))] ((pb j kA az cA bA slA drA ha heA faA prA)++[(rd sgA d.aV.aa.length 2 (d.aV.aa.map aH.cells))]) (Value.int .u8 (gd j.Race.au (bg.mk 2 fw ff ft) d)):=by
 have k:=hin.race
 have g:=hin.race.line
 have o:=hin.race.fE
 have p:=hin.race.has
 have l:=hin.race.fM
 have h:=hin.nf
 have i:=hin.np
 refine bG kr Tryz.func73 U U fun x Q hQ hN=>?_
 try dsimp only
 refine WS fun _ a=>dV U fun s=>dV U fun u=>dV U fun v=>bp 1 U<|RK a<|ag fun _ b=>WS fun _ c=>dY 1 [] (mc 0 U I) U<|rS (CL (ur d.Out d.cD d.Time (g8 d.aV sgA sgC)) (aS) U)<|rP 1 [] I ?_
 refine RK c<|cb U (aX fun B=>?_) (aW fun B=>?_)
 ·refine WS fun _ e=>rP 1 [] I ?_
  refine RK e<|ak<|Q1 hQ U U U ?_
  (rw [nP (fun q=>B q)]; done)
 refine WK b<|WS fun _ f=>bp 2 U<|rS (LP (bW.cells (jx j.Race.au kA kC cA cC bA bC)) 2 U bV U U U)<|AL U L5 fun w=>e7 U JX U<|RK f<|WS fun _ K=>AL U uY fun m=>AL U uY fun n=>RK K<|ag fun _ L=>WS fun _ M=>dY 2 [] (mc 4 U I) U<|RK M<|ax<|WS fun _ N=>rS (SX (eQ (r:= .bool false) U U U ks) U U)<|bp 1 U<|RK N<|bT U<|WS fun _ O=>rS (SX (eQ (r:= .bool true) U U U ks) U U)<|bp 1 U<|RK O<|aL U<|cS cj 13 kr<|kf 2 [] (mc 2 U I) U<|dS (LP (de.cells (g8 d.aV sgA sgC)) 3 U bV U U U)<|kf 3 [] (mc 4 U I) U<|dS (CL (po j.Race.au kA kC az cA cC bA bC d.aV sgA sgC (fw-1) asm hsl) (aY [6,7,8,9,16]) U)<|kf 2 [] (mc 2 U I) U<|dS (LP (de.cells (g8 d.aV sgA sgC)) 3 U bV U U U)<|dP 2 [] (mc 4 U I) ?_
 refine dS (CL (po j.Race.au kA kC az cA cC bA bC d.aV sgA sgC fw asm hsl) (aY [6,7,8,9,16]) U)<|cu<|pV U qA U<|e7 U qA U<|aC<|aJ ?_
 refine KK L<|ag fun _ P=>WS fun _ F=>rP 4 [] (mc 1 U I) ?_
 refine bS (t:=55) U (fun A=>?_) (fun A=>?_)
 ·rw [Bool.not_eq_true'] at A
  rw [Bool.not_eq_false'] at A
  refine bp 13 U<|RK F<|aL U<|WS fun _ R=>rP 1 [] I ?_
  refine RK R<|ak<|Q1 hQ U U U ?_
  (rw [gV rfl B]; (rw [eX (.inl (by simpa using A))]; done))
 rw [Bool.not_eq_false'] at A
 rw [Bool.not_eq_true'] at A
 refine rP 7 [0,1] (mc 1 U (mc 4 U I)) ?_
 refine bS (t:=62) U (aN fun C=>?_) (aO fun C=>?_)
 ·refine bp 6 U<|RK F<|aL U<|WS fun _ S=>rP 1 [] I ?_
  refine RK S<|ak<|Q1 hQ U U U ?_
  (rw [gV rfl B]; (rw [eX (.inr (.inl C))]; done))
 refine rP 6 [0,1] (mc 0 U (mc 4 U I)) ?_
 refine RK F<|cb U (aN fun D=>?_) (aO fun D=>?_)
 ·refine WS fun _ T=>rP 1 [] I ?_
  refine RK T<|ak<|Q1 hQ U U U ?_
  (rw [gV rfl B]; (rw [eX (.inr (.inr D))]; done))
 refine WK P<|ag fun _ AA=>WS fun _ V=>dY 2 [] (mc 4 U I) U<|rS (SX (eQ (r:= .bool false) U U U ks) U U)<|RK V<|bT U<|WK AA<|ag fun _ G=>WS fun _ H=>rP 3 [] (mc 1 U I) ?_
 refine cx (t:=90) U (fun AB=>?_) (fun AB=>?_)
 ·refine bp 13 U<|RK H<|bT U<|WK G<|WS fun _ Z=>rP 1 [] I ?_
  refine RK Z<|ak<|Q1 hQ U U U ?_
  (rw [gV rfl B]; (rw [gr (tS (by simpa using A) (by first|exact C|(simp only []; omega)) (by first|exact D|(simp only []; omega))) (fun q=>by rw [AB] at q; exact Bool.noConfusion q.1)]; done))
 refine rP 7 [0,1] (mc 1 U (mc 4 U I)) ?_
 refine cx (t:=97) U (aO fun J=>?_) (aN fun J=>?_)
 ·refine bp 6 U<|RK H<|bT U<|WK G<|WS fun _ Y=>rP 1 [] I ?_
  refine RK Y<|ak<|Q1 hQ U U U ?_
  (rw [gV rfl B]; (rw [gr (tS (by simpa using A) (by first|exact C|(simp only []; omega)) (by first|exact D|(simp only []; omega))) (fun q=>J ((j1 (show ¬ (2:Int)=3 by decide)).1 q.2).1)]; done))
 refine rP 6 [0,1] (mc 0 U (mc 4 U I)) ?_
 refine RK H<|cb U (aN fun E=>?_) (aO fun E=>?_)
 ·refine WS fun _ W=>rP 1 [] I ?_
  refine RK W<|ak<|Q1 hQ U U U ?_
  (rw [gV rfl B]; (rw [lV (tS (by simpa using A) (by first|exact C|(simp only []; omega)) (by first|exact D|(simp only []; omega))) AB ((j1 (show ¬ (2:Int)=3 by decide)).2 ⟨J,E⟩)]; done))
 refine WK G<|WS fun _ X=>rP 1 [] I ?_
 refine RK X<|ak<|Q1 hQ U U U ?_
 (rw [gV rfl B]; (rw [gr (tS (by simpa using A) (by first|exact C|(simp only []; omega)) (by first|exact D|(simp only []; omega))) (fun q=>E ((j1 (show ¬ (2:Int)=3 by decide)).1 q.2).2)]; done))
theorem Hp (j:cw) (kA:OA) (kC:Nat) (az:List RA) (cA:OA) (cC:Nat) (bA:OA) (bC:Nat) (slA:OA) (slC:Nat) (drA:OA) (drC:Nat) (ha:List bZ) (heA:OA) (heC:Nat) (faA:OA) (faC:Nat) (prA:OA) (prC:Nat) (fw ff ft:Int) (d:aq) (sgA:OA) (sgC:Nat) (hin:er j az ha) (hw:0≤fw∧fw≤1000000) (hsl:d.aV.aa.length≤1000000):
 dG Tryz.prog 73 [(vA (eY.cells (lJ j kA kC cA cC bA bC slA slC drA drC heA heC faA faC prA prC))),(vA (bg.cells (bg.mk 3 fw ff ft))),(vA (aR.cells (aR.mk d.Out d.cD d.Time (g8 d.aV sgA sgC))))] ((pb j kA az cA bA slA drA ha heA faA prA)++[(rd sgA d.aV.aa.length 2 (d.aV.aa.map aH.cells))]) (Value.int .u8 (gd j.Race.au (bg.mk 3 fw ff ft) d)):=by
 have l:=hin.race
 have g:=hin.race.line
 have p:=hin.race.fE
 have s:=hin.race.has
 have m:=hin.race.fM
 have i:=hin.nf
 have k:=hin.np
 refine bG kr Tryz.func73 U U fun y Q hQ hN=>?_
 try dsimp only
 refine WS fun _ a=>dV U fun u=>dV U fun v=>dV U fun w=>bp 1 U<|RK a<|ag fun _ b=>WS fun _ c=>dY 1 [] (mc 0 U I) U<|rS (CL (ur d.Out d.cD d.Time (g8 d.aV sgA sgC)) (aS) U)<|rP 1 [] I ?_
 refine RK c<|cb U (aX fun B=>?_) (aW fun B=>?_)
 ·refine WS fun _ e=>rP 1 [] I ?_
  refine RK e<|ak<|Q1 hQ U U U ?_
  (rw [nP (fun q=>B q)]; done)
 refine WK b<|WS fun _ f=>bp 2 U<|rS (LP (bW.cells (jx j.Race.au kA kC cA cC bA bC)) 2 U bV U U U)<|AL U L5 fun x=>e7 U JX U<|RK f<|WS fun _ K=>AL U uY fun n=>AL U uY fun o=>RK K<|ag fun _ L=>WS fun _ M=>dY 2 [] (mc 4 U I) U<|RK M<|ax<|WS fun _ N=>rS (SX (eQ (r:= .bool false) U U U ks) U U)<|bp 1 U<|RK N<|bT U<|WS fun _ O=>rS (SX (eQ (r:= .bool false) U U U ks) U U)<|bp 1 U<|RK O<|bT U<|WS fun _ P=>dY 2 [] (mc 2 U I) U<|rS (LP (de.cells (g8 d.aV sgA sgC)) 3 U bV U U U)<|dY 2 [] (mc 4 U I) U<|rS (CL (po j.Race.au kA kC az cA cC bA bC d.aV sgA sgC fw asm hsl) (aY [6,7,8,9,16]) U)<|pV U qA U<|RK P<|ao<|rP 1 [] (mc 1 U I) ?_
 refine e7 U qA U<|aC<|aJ<|KK L<|ag fun _ R=>?_
 refine WS fun _ E=>rP 4 [] (mc 1 U I) ?_
 refine bS (t:=55) U (fun A=>?_) (fun A=>?_)
 ·rw [Bool.not_eq_true'] at A
  rw [Bool.not_eq_false'] at A
  refine bp 13 U<|RK E<|aL U<|WS fun _ S=>rP 1 [] I ?_
  refine RK S<|ak<|Q1 hQ U U U ?_
  (rw [gY rfl B]; (rw [eX (.inl (by simpa using A))]; done))
 rw [Bool.not_eq_false'] at A
 rw [Bool.not_eq_true'] at A
 refine rP 7 [0,1] (mc 1 U (mc 4 U I)) ?_
 refine bS (t:=62) U (aN fun C=>?_) (aO fun C=>?_)
 ·refine bp 6 U<|RK E<|aL U<|WS fun _ T=>rP 1 [] I ?_
  refine RK T<|ak<|Q1 hQ U U U ?_
  (rw [gY rfl B]; (rw [eX (.inr (.inl C))]; done))
 refine rP 6 [0,1] (mc 0 U (mc 4 U I)) ?_
 refine RK E<|cb U (aN fun D=>?_) (aO fun D=>?_)
 ·refine WS fun _ AA=>rP 1 [] I ?_
  refine RK AA<|ak<|Q1 hQ U U U ?_
  (rw [gY rfl B]; (rw [eX (.inr (.inr D))]; done))
 refine WK R<|ag fun _ h=>WS fun _ V=>dY 2 [] (mc 4 U I) U<|rS (SX (eQ (r:= .bool true) U U U ks) U U)<|RK V<|aL U<|ag fun _ F=>WS fun _ G=>rP 3 [] (mc 1 U I) ?_
 refine cx (t:=74) U (fun H=>?_) (fun H=>?_)
 ·refine bp 13 U<|RK G<|bT U<|WK F<|WS fun _ Z=>rP 1 [] I ?_
  refine RK Z<|ak<|Q1 hQ U U U ?_
  (rw [gY rfl B]; (rw [gr (tS (by simpa using A) (by first|exact C|(simp only []; omega)) (by first|exact D|(simp only []; omega))) (fun q=>by rw [H] at q; exact Bool.noConfusion q.1)]; done))
 refine rP 7 [0,1] (mc 1 U (mc 4 U I)) ?_
 refine cx (t:=81) U (aO fun AB=>?_) (aN fun AB=>?_)
 ·refine bp 6 U<|RK G<|bT U<|WK F<|WS fun _ Y=>rP 1 [] I ?_
  refine RK Y<|ak<|Q1 hQ U U U ?_
  (rw [gY rfl B]; (rw [gr (tS (by simpa using A) (by first|exact C|(simp only []; omega)) (by first|exact D|(simp only []; omega))) (fun q=>AB ((Ej rfl).1 q.2).1)]; done))
 refine rP 6 [0,1] (mc 1 U (mc 4 U I)) ?_
 refine RK G<|cb U (aN fun J=>?_) (aO fun J=>?_)
 ·refine WS fun _ W=>rP 1 [] I ?_
  refine RK W<|ak<|Q1 hQ U U U ?_
  (rw [gY rfl B]; (rw [lV (tS (by simpa using A) (by first|exact C|(simp only []; omega)) (by first|exact D|(simp only []; omega))) H ((Ej rfl).2 ⟨AB,J⟩)]; done))
 refine WK F<|WS fun _ X=>rP 1 [] I ?_
 refine RK X<|ak<|Q1 hQ U U U ?_
 (rw [gY rfl B]; (rw [gr (tS (by simpa using A) (by first|exact C|(simp only []; omega)) (by first|exact D|(simp only []; omega))) (fun q=>J ((Ej rfl).1 q.2).2)]; done))
theorem Bv (j:cw) (kA:OA) (kC:Nat) (az:List RA) (cA:OA) (cC:Nat) (bA:OA) (bC:Nat) (slA:OA) (slC:Nat) (drA:OA) (drC:Nat) (ha:List bZ) (heA:OA) (heC:Nat) (faA:OA) (faC:Nat) (prA:OA) (prC:Nat) (f:bg) (d:aq) (sgA:OA) (sgC:Nat) (hin:er j az ha) (hk:1≤f.Kind∧f.Kind≤3) (hw:0≤f.hE∧f.hE≤1000000) (hsl:d.aV.aa.length≤1000000):
 dG Tryz.prog 73 [(vA (eY.cells (lJ j kA kC cA cC bA bC slA slC drA drC heA heC faA faC prA prC))),(vA (bg.cells f)),(vA (aR.cells (aR.mk d.Out d.cD d.Time (g8 d.aV sgA sgC))))] ((pb j kA az cA bA slA drA ha heA faA prA)++[(rd sgA d.aV.aa.length 2 (d.aV.aa.map aH.cells))]) (Value.int .u8 (gd j.Race.au f d)):=by
 obtain ⟨fk,fw,ff,ft⟩:=f
 have A:fk=1∨fk=2∨fk=3:=by have:=hk; simp only at this; omega
 rcases A with rfl|rfl|rfl
 ·exact GX j kA kC az cA cC bA bC slA slC drA drC ha heA heC faA faC prA prC fw ff ft d sgA sgC hin hw hsl
 ·exact GS j kA kC az cA cC bA bC slA slC drA drC ha heA heC faA faC prA prC fw ff ft d sgA sgC hin hw hsl
 ·exact Hp j kA kC az cA cC bA bC slA slC drA drC ha heA heC faA faC prA prC fw ff ft d sgA sgC hin hw hsl
end
section
open Go.RowKit
theorem QA (j:cw) (kA:OA) (kC:Nat) (az:List RA) (cA:OA) (cC:Nat) (bA:OA) (bC:Nat) (slA:OA) (slC:Nat) (drA:OA) (drC:Nat) (ha:List bZ) (heA:OA) (heC:Nat) (faA:OA) (faC:Nat) (prA:OA) (prC:Nat) (P:Nat→Prop) (mA:OA) (mC:Nat) (hin:er j az ha) (hok:dU j=0):
 lR Tryz.prog 75 [(vA (eY.cells (lJ j kA kC cA cC bA bC slA slC drA drC heA heC faA faC prA prC))),(vS mA ((iv j.aM.length P).length) mC)] ((pb j kA az cA bA slA drA ha heA faA prA)++[(rd mA ((iv j.aM.length P).length) 1 ((iv j.aM.length P).map im))]) (fun (x:(List RA)×(OA)×Nat)=>(vS x.2.1 ((eT j (nF j.aM P)).length) x.2.2)) (fun (x:(List RA)×(OA)×Nat)=>x.1.length=(eT j (nF j.aM P)).length) (fun (x:(List RA)×(OA)×Nat)=>[(own x.2.1 x.2.2 29 1 (List.zipWith tU (eT j (nF j.aM P)) x.1)),(bQ (bK BL (eT j (nF j.aM P)) x.1))]):=by
 have A5:=hin.race
 have FS:=hin.race.line
 have Jb:=hin.race.fE
 have Jk:=hin.race.has
 have IO:=hin.race.fM
 have GE:=hin.nf
 have H1:=hin.np
 have A3:=(dj hok).1
 have EQ:=(dj hok).2
 have Eq:=(dx A3).1
 have R:=(dx A3).2
 have Do:=(dw Eq).2.head
 unfold eL at Do
 have GT:(eT j (nF j.aM P)).length=j.Race.aI.length:=by unfold eT; rw [List.length_map]
 have J2:(iv j.aM.length P).length=j.aM.length:=lB
 have J4:=R.num
 have J3:=R.nh
 refine dL kr Tryz.func75 U U fun w0 Q hQ hN=>?_
 try dsimp only
 refine WS fun _ Ck=>dV U fun b2=>bp 1 U<|RK Ck<|WS fun _ Cp=>bp 1 U<|RK Cp<|ag fun _ Cx=>WS fun _ C0=>rP 1 [] I ?_
 refine RK C0<|ax<|fu 29 1<|lx ?_
 have A:(0≤j.Race.aI.length)∧(([]:List RA).length=0):=by exact ⟨Nat.zero_le _,rfl⟩
 refine bP (ι:={z:Nat×(List RA)×(OA)×Nat // (z.1≤j.Race.aI.length)∧(z.2.1.length=z.1)}) [1,2] [2,3,4,5,6,7,8,9,10,11,12,13] U U (fun z=>[(5,(vS z.1.2.2.1 ((List.take z.1.1 (eT j (nF j.aM P))).length) z.1.2.2.2)),(6,(vI (z.1.1:Int)))]) (fun z=>[(bQ (bK BL (List.take z.1.1 (eT j (nF j.aM P))) z.1.2.1)),(own z.1.2.2.1 z.1.2.2.2 29 1 (List.zipWith tU (List.take z.1.1 (eT j (nF j.aM P))) z.1.2.1))]) (fun _=>rfl) (fun _=>rfl) (fun z=>j.Race.aI.length-z.1.1) ⟨(0,([]:List RA),none,0),A⟩ (bf U) (aK [2,3,4,5,6,7,8,9,10,11,12,13,0,1]) ?_
 clear A
 rintro ⟨⟨h,gz,a,c⟩,⟨M,N⟩⟩ J6 Ci
 try dsimp only at M N
 try dsimp only
 refine ag fun _ C1=>WS fun _ C2=>rP 6 [] (mc 0 U I) ?_
 refine RK C2<|bO U (aO fun h9=>?_) (aN fun h9=>?_)
 ·refine bM<|ab<|ab<|aF<|KK Cx<|ag fun _ o=>?_
  have Fd:(List.take h (eT j (nF j.aM P)))=(eT j (nF j.aM P)):=List.take_of_length_le om
  rw [Fd]
  have Di:gz.length=(eT j (nF j.aM P)).length:=by omega
  refine ao<|rP 2 [] I ?_
  refine RK o<|ak ?_
  refine LX hQ (gz,a,c) [13,12] [] I U (by show List.all _ _=true; simp only [fV,List.all_nil,qp,Bool.and_true]; rfl) U U ?_
  exact Di
 refine WK C1<|ag fun _ T=>ax<|ag fun _ AA=>?_
 obtain ⟨ht,D⟩:=aA j.Race.aI h om
 obtain ⟨B,C⟩:=aA ha h om
 have A2:(List.zipWith cL j.Race.aI ha)[h]? =some (cL ht B):=cG D C
 have A1:=A5.fJ _ _ _ D C
 have Go:=A1.lS
 have Hi:=(R.fJ ht (aP D)).1
 have J:(eT j (nF j.aM P))[h]? =some (kT (ow j.Race.au j.aM P ht) ht.length):=Gm D
 have S:gz.length=(List.take h (eT j (nF j.aM P))).length:=by rw [List.length_take]; omega
 have Fk:(List.take (h+1) (eT j (nF j.aM P))).length=h+1:=by rw [List.length_take]; omega
 refine ao<|bp 1 U<|RK AA<|ag fun _ V=>WS fun _ W=>rP 1 [] I ?_
 refine RK W<|ax<|fu 3 1 ?_
 have A:(0≤ht.length):=by exact Nat.zero_le _
 refine bP (ι:={z:Nat×(OA)×Nat // (z.1≤ht.length)}) [1,2,5,6] [1,2,3,4,5,6,7,8,9,10,11,12,13,14] U U (fun z=>[(7,(vS z.1.2.1 ((kT (ow j.Race.au j.aM P ht) z.1.1).length) z.1.2.2)),(8,(vI (z.1.1:Int)))]) (fun z=>[(own z.1.2.1 z.1.2.2 3 1 ((kT (ow j.Race.au j.aM P ht) z.1.1).map iC))]) (fun _=>rfl) (fun _=>rfl) (fun z=>ht.length-z.1.1) ⟨(0,none,0),A⟩ (bf U) (aK [1,2,3,4,5,6,7,8,9,10,11,12,13,14,0]) ?_
 clear A
 rintro ⟨⟨q,ua,uc⟩,O⟩ J14 H
 try dsimp only at O
 try dsimp only
 refine ag fun _ X=>WS fun _ Y=>rP 6 [] (mc 0 U I) ?_
 refine RK Y<|bO U (aO fun B9=>?_) (aN fun B9=>?_)
 ·refine bM<|ab<|ab<|aF<|KK V ?_
  obtain rfl:q=ht.length:=by omega
  refine ao<|rP 2 [] I ?_
  refine e9 (xs:=[.tmp 65]) (cs:=[(vS ua ((kT (ow j.Race.au j.aM P ht) ht.length).length) uc)]) U GL SO U U U U (by simp [Value.cells]) U U fun Id=>?_
  refine cP (es2:=(List.zipWith tU (List.take (h+1) (eT j (nF j.aM P))) (gz++[(ua,uc)]))) (m':=(List.take (h+1) (eT j (nF j.aM P))).length) 14 rfl rfl rfl SH rfl rfl (mS S).symm (bo (es:=List.zipWith tU [(kT (ow j.Race.au j.aM P ht) ht.length)] [(ua,uc)]) 0 rfl rfl (by intro e he; simp [tU] at he; subst he; rfl) rfl) (Fs _ _) om (by simp only [maxLen]; omega) (by rw [p9 J]; exact zJ S.symm) (by exact mS (by rw [Fk]; simp; omega)) rfl fun A9 B3=>?_
  try dsimp only
  refine bp 1 U<|aC<|aJ<|KK T<|ao<|rP 3 [] I ?_
  refine aC ?_
  refine Al (Y':=bK BL (List.take (h+1) (eT j (nF j.aM P))) (gz++[(ua,uc)])) 13 15 U U (by rw [p9 J]; exact xo S.symm U) ?_
  have AU:(vI (((h+1):Nat):Int))=(vI ((h:Int)+1)):=by exact cI om
  refine a_ (Ci ⟨((h+1),(gz++[(ua,uc)]),A9,B3),⟨om,by rw [List.length_append]; simp; omega⟩⟩ _ _ _ U os (cz 3<|aU U AU<|cR.nil _) (aK [2,3,4,5,6,7,8,9,10,11,12,13,0,14]))
 refine WK X<|ag fun _ AB=>ax<|ag fun _ Z=>?_
 obtain ⟨d,hd⟩:=aA ht q om
 obtain ⟨da,Ag⟩:=aA B.2 q om
 have C3:(List.zipWith aq.cells ht B.2)[q]? =some (aq.cells d da):=cG hd Ag
 have J5:=A1.sig d (aP hd)
 refine ao<|bp 1 U<|RK Z<|ag fun _ b=>WS fun _ g=>rP 1 [] I ?_
 refine RK g<|ax ?_
 have A:(0≤j.aM.length):=by exact Nat.zero_le _
 have p:(vB (ml j.Race.au j.aM P d 0))=(vB false):=by exact cB Es
 refine bP (ι:={z:Nat // (z≤j.aM.length)}) [1,2,5,6,7,8] [0,1,2,3,4,5,6,7,8,9,10,11,12,13,14] U U (fun z=>[(9,(vB (ml j.Race.au j.aM P d z.1))),(10,(vI (z.1:Int)))]) (fun z=>[]) (fun _=>rfl) (fun _=>rfl) (fun z=>j.aM.length-z.1) ⟨0,A⟩ (aU U p<|bf U) (aK [0,1,2,3,4,5,6,7,8,9,10,11,12,13,14]) ?_
 clear A
 rintro ⟨k,A7⟩ J23 E
 try dsimp only
 refine ag fun _ i=>WS fun _ l=>rP 4 [] I ?_
 refine RK l<|bO U (aO fun CB=>?_) (aN fun CB=>?_)
 ·refine bM<|ab<|ab<|aF<|KK b<|ag fun _ m=>?_
  have A4:k=j.aM.length:=by omega
  refine ao<|rP 1 [] I ?_
  refine RK m<|bO U (fun L=>?_) (fun L=>?_)
  ·refine cg<|aJ<|KK AB<|ao<|rP 3 [] I ?_
   refine aC ?_
   rw [show (kT (ow j.Race.au j.aM P ht) q)=(kT (ow j.Race.au j.aM P ht) (q+1)) from (zK (by rw [BO hd,← zx (Nat.le_of_eq A4.symm)]; simpa using L)).symm]
   have AO:(vI (((q+1):Nat):Int))=(vI ((q:Int)+1)):=by exact cI om
   refine a_ (H ⟨((q+1),ua,uc),(by first|omega|(simp only []; omega))⟩ _ _ _ U os (cz 5<|aU U AO<|cR.nil _) (aK [0,1,2,3,4,5,6,7,8,9,10,11,12,13,14]))
  refine ao<|rP 2 [] I ?_
  refine e9 (xs:=[.tmp 61]) (cs:=[(vI (q:Int))]) U dI kR U U U U (by simp [Value.cells]) U U fun IR=>?_
  refine cP (es2:=(List.map iC (kT (ow j.Race.au j.aM P ht) (q+1)))) (m':=(kT (ow j.Race.au j.aM P ht) (q+1)).length) 15 U U U pg U U sm (bo (es:=List.map iC [(q:Int)]) 0 U U (by simp [bX]) U) (jN _) (by have:=nj (P:=(ow j.Race.au j.aM P ht)) (n:=q); omega) (by have:=nj (P:=(ow j.Race.au j.aM P ht)) (n:=q); simp only [maxLen]; omega) (by rw [vO (by rw [BO hd,← zx (Nat.le_of_eq A4.symm)]; exact L)]; simp) sm U fun A8 Ba=>?_
  try dsimp only
  refine bp 1 U<|aC<|aJ<|KK AB<|ao<|rP 3 [] I ?_
  refine aC ?_
  have AC:(vI (((q+1):Nat):Int))=(vI ((q:Int)+1)):=by exact cI om
  refine a_ (H ⟨((q+1),A8,Ba),(by first|omega|(simp only []; omega))⟩ _ _ _ U os (cz 5<|aU U AC<|cR.nil _) (aK [1,2,3,4,5,6,7,8,9,10,11,12,13,14,15]))
 refine WK i<|ag fun _ F=>ax ?_
 obtain ⟨f,hf⟩: ∃ f,j.aM[k]? =some f:=⟨j.aM[k]'om,fZ _⟩
 have Ax:=bH bg.cells hf
 have A0:=EQ.fault f (aP hf)
 have JJ:0≤f.hE∧f.hE≤1000000:=by have h2:=A0.2.2; split at h2<;>omega
 refine cS cj 27 kr<|dP 2 [] I ?_
 refine ic (t:=34) U (fun G=>?_) (fun G=>?_)
 ·refine kI 4 U<|kI 21 U<|cu<|aC<|aJ<|KK F<|ao<|rP 3 [] I ?_
  refine aC ?_
  have r:(vB (ml j.Race.au j.aM P d (k+1)))=(vB true):=by exact cB (by exact (TV hf G).symm)
  have s:(vI (((k+1):Nat):Int))=(vI ((k:Int)+1)):=by exact cI om
  refine a_ (E ⟨(k+1),(by first|omega|(simp only []; omega))⟩ _ _ _ U os (cz 6<|aU U r<|aU U s<|cR.nil _) (aK [0,1,2,3,4,5,6,7,8,9,10,11,12,13,14]))
 refine dP 2 [] I ?_
 obtain ⟨x,hx⟩:=aA (iv j.aM.length P) k om
 have Fn:=bH im hx
 refine dS (IA k U (av 11 U) s_ dc om om)<|dS (gv k 0 (vB x) U bV (av 11 U) Fn U dc U) ?_
 have A6:=(DX hx).2
 refine dP 1 [] I ?_
 refine jm (t:=39) U (fun K=>?_) (fun K=>?_)
 ·refine kI 20 U<|cu<|aC<|aJ<|KK F<|ao<|rP 3 [] I ?_
  refine aC ?_
  have w:(vB (ml j.Race.au j.aM P d (k+1)))=(vB false):=by exact cB (by exact (UI hf (by simpa using G) A6 (by simpa using K)).symm)
  have y:(vI (((k+1):Nat):Int))=(vI ((k:Int)+1)):=by exact cI om
  refine a_ (E ⟨(k+1),(by first|omega|(simp only []; omega))⟩ _ _ _ U os (cz 6<|aU U w<|aU U y<|cR.nil _) (aK [0,1,2,3,4,5,6,7,8,9,10,11,12,13,14]))
 refine kf 4 [] (mc 0 U I) U<|dS (IA k U (av 9 U) xZ dc om om)<|dS (jL k 0 (bg.cells f) U bV (av 9 U) Ax U dc U U)<|kf 4 [] (mc 0 U I) U<|dS (IA h U (av 7 U) kF dc om om)<|dS (gv h 0 (vS B.1.1 ht.length B.1.2) U bV (av 7 U) A2 U dc U)<|kI 1 U<|dS (IA q U (show g9 _ (rd B.1.1 ht.length 7 (List.zipWith aq.cells ht B.2)).holds from (cd 8 U (bB D C cr))) ov dc om om)<|dS (jL q 0 (aR.cells (aR.mk d.Out d.cD d.Time (de.mk d.aV.Start d.aV.gL (bj.mk da.1 d.aV.aa.length da.2)))) U bV (show g9 _ (rd B.1.1 ht.length 7 (List.zipWith aq.cells ht B.2)).holds from (cd 8 U (bB D C cr))) C3 U dc U U)<|dS (CL (Bv j kA kC az cA cC bA bC slA slC drA drC ha heA heC faA faC prA prC f d da.1 da.2 hin (by exact A0.1) asm asm) (mJ [1,2,3,4,5,6,7,8,9,10]<|aw (show g9 _ (rd da.1 d.aV.aa.length 2 (d.aV.aa.map aH.cells)).holds from (cd 8 U (bB D C (dH _ (bB hd Ag (by simp [aq.jU]))))))<|aS) U)<|dS (BI U FH)<|kI 3 U<|cu<|aC<|aJ<|KK F<|ao<|rP 3 [] I ?_
 refine aC ?_
 have u:(vB (ml j.Race.au j.aM P d (k+1)))=(vB (decide (0<(gd j.Race.au f d)))):=by exact cB (by exact (Ur hf (by simpa using G) A6 K).symm)
 have v:(vI (((k+1):Nat):Int))=(vI ((k:Int)+1)):=by exact cI om
 refine a_ (E ⟨(k+1),(by first|omega|(simp only []; omega))⟩ _ _ _ U os (cz 6<|aU U u<|aU U v<|cR.nil _) (aK [0,1,2,3,4,5,6,7,8,9,10,11,12,13,14]))
end
section
open Go.RowKit
theorem Md (k:Nat) (j:cw) (kA:OA) (kC:Nat) (az:List RA) (cA:OA) (cC:Nat) (bA:OA) (bC:Nat) (slA:OA) (slC:Nat) (drA:OA) (drC:Nat) (ha:List bZ) (heA:OA) (heC:Nat) (faA:OA) (faC:Nat) (prA:OA) (prC:Nat) (hin:er j az ha) (hok:dU j=0) (hk:k<j.aB.length):
 dG Tryz.prog 74 [(vA (eY.cells (lJ j kA kC cA cC bA bC slA slC drA drC heA heC faA faC prA prC))),(vI (k:Int))] (pb j kA az cA bA slA drA ha heA faA prA) (Value.int .u8 (sV j (k:Int))):=by
 have S:=hin.race
 have g:=hin.race.line
 have v:=hin.race.fE
 have w:=hin.race.has
 have u:=hin.race.fM
 have o:=hin.nf
 have t:=hin.np
 have F:=(dj hok).1
 have R:=(dj hok).2
 have f:=(dx F).1
 have n:=(dx F).2
 have e:=(dw f).2.head
 unfold eL at e
 refine bG kr Tryz.func74 U U fun w0 Q hQ hN=>?_
 try dsimp only
 refine WS fun _ V=>dV U fun b2=>bp 1 U<|RK V<|WS fun _ W=>rP 3 [] (mc 0 U I) ?_
 obtain ⟨p,hp⟩:=aA j.aB k om
 have h:=bH bR.cells hp
 refine rS (IA k U (av 10 U) wM dc om om)<|rS (jL k 0 (bR.cells p) U bV (av 10 U) h U dc U U)<|AL U Br fun b4=>e7 U BU U<|RK W<|ag fun _ X=>?_
 have E:=R.ia _ p hp
 have AO:=E.fJ
 have m:=E.k6
 simp only [qQ] at m
 have AC:=E.fault
 have x:=R.min_
 have G:=EO (i:=(k:Int)) hok om (by simpa using hp)
 refine dp cj [20,21] [] [] [0,1,2,3,4,5,6,7,8,9,10,11] [] U U U U U<|eS U (FA 0 U eD U)<|eS U (FA 0 U eD U)<|eS U (LP (bW.cells (jx j.Race.au kA kC cA cC bA bC)) 1 U bV U U U)<|eS U (FA 0 U eD U)<|eS U (FA 10 U eD U)<|eS U (L1 (vS heA j.Race.aI.length heC) 1 U bV U U)<|eS U (FA 2 U eD U)<|eS U (L1 (vI p.ib) 0 U bV U U) ?_
 obtain ⟨ht,C⟩:=aA j.Race.aI ((p.ib).toNat) om
 obtain ⟨A,B⟩:=aA ha ((p.ib).toNat) om
 have P:(List.zipWith cL j.Race.aI ha)[(p.ib).toNat]? =some (cL ht A):=cG C B
 refine eS U (IA ((p.ib).toNat) U (av 8 U) kF dc om om)<|eS U (gv ((p.ib).toNat) 0 (vS A.1.1 ht.length A.1.2) U bV (av 8 U) P U dc U) ?_
 have O:=S.fJ _ _ _ C B
 have q:=O.lS
 have s:=(n.fJ ht (aP C)).1
 refine eS U (FA 1 U eD U)<|eS U (L1 (vI p.gH) 0 U bV U U) ?_
 obtain ⟨d,hd⟩:=aA ht ((p.gH).toNat) om
 obtain ⟨da,N⟩:=aA A.2 ((p.gH).toNat) om
 have c:(List.zipWith aq.cells ht A.2)[(p.gH).toNat]? =some (aq.cells d da):=cG hd N
 refine eS U (IA ((p.gH).toNat) U (show g9 _ (rd A.1.1 ht.length 7 (List.zipWith aq.cells ht A.2)).holds from (cd 9 U (bB C B cr))) ov dc om om) ?_
 have D:=mF (j:=j) (p:=p) C hd
 have Ag:=O.sig d (aP hd)
 refine eS U (nQ ((((p.gH).toNat)*7)+4) U (show g9 _ (rd A.1.1 ht.length 7 (List.zipWith aq.cells ht A.2)).holds from (cd 9 U (bB C B cr))) (Nat.mul_pos om dc) eD U)<|eS U (jL ((p.gH).toNat) 4 (de.cells (de.mk d.aV.Start d.aV.gL (bj.mk da.1 d.aV.aa.length da.2))) U bV (show g9 _ (rd A.1.1 ht.length 7 (List.zipWith aq.cells ht A.2)).holds from (cd 9 U (bB C B cr))) c U dc U U)<|eS U (FA 0 U eD U)<|eS U (FA 0 U eD U)<|eS U (FA 4 U eD U)<|eS U (L1 (vI j.Race.au.bU) 1 U bV U U)<|eS U (CL (po j.Race.au kA kC az cA cC bA bC d.aV da.1 da.2 j.Race.au.bU asm asm) (mJ [2,3,4,5]<|aw (show g9 _ (rd da.1 d.aV.aa.length 2 (d.aV.aa.map aH.cells)).holds from (cd 9 U (bB C B (dH _ (bB hd N (by simp [aq.jU]))))))<|aS) U)<|eg U<|cf U fun T6 Z=>AL U uY fun b7=>aC (Z _ _ (aK [1,2,3,4,5,6,7,8,9,10,11,12]) ?_)
 refine cf U fun T8 a=>e7 U qA U<|aC (a _ _ (aK [1,2,3,4,5,6,7,8,9,10,11,12]) ?_)
 refine e8 U<|KK X<|ag fun _ Y=>ag fun _ H=>?_
 have z:=FO (l:=j.Race.au) (r:=d.aV) (b:=j.Race.au.bU) om
 obtain ⟨_,_,_,AU⟩:=E.lQ
 have y:=M7 (dx F).2 E.lQ
 refine ao<|dY 4 [0,1] (mc 1 U (mc 2 U I)) U<|rS (BI U (sW ⟨om,om⟩))<|bp 2 U<|RK H<|ax<|WS fun _ AB=>rP 5 [] (mc 0 U I) ?_
 refine RK AB<|cb U (aN fun T=>?_) (aO fun T=>?_)
 ·refine WS fun _ J=>rP 1 [] I ?_
  refine RK J<|ak<|Q1 hQ U U U ?_
  (rw [G.1,JI D om]; done)
 refine WS fun _ K=>rP 5 [] (mc 0 U I) ?_
 refine RK K<|cb U (aN fun AA=>?_) (aO fun AA=>?_)
 ·refine WS fun _ L=>rP 1 [] I ?_
  refine RK L<|ak<|Q1 hQ U U U ?_
  (rw [G.1,Kh D om om]; done)
 refine cg<|aJ<|KK Y<|WS fun _ M=>rP 1 [] I ?_
 refine RK M<|ak<|Q1 hQ U U U ?_
 (rw [G.1,IU D om om]; done)
end
section
open Go.RowKit
theorem Pp (la:List Int) (laA:OA) (laC:Nat) (n:Int) (hlen:la.length≤1000000):
 dG Tryz.prog 54 [(vS laA la.length laC),(vI n)] [(rd laA la.length 1 (la.map iC))] (vB (decide (n∈la))):=by
 refine bG kr Tryz.func54 U U fun S Q hQ hN=>?_
 try dsimp only
 refine WS fun _ H=>bp 1 U<|RK H<|ag fun _ AA=>WS fun _ J=>rP 1 [] I ?_
 refine RK J<|ax ?_
 have B:(0≤la.length)∧(n ∉ la.take 0):=by exact ⟨Nat.zero_le _,sm⟩
 refine bP (ι:={z:Nat // (z≤la.length)∧(n ∉ la.take z)}) [0,1] [0] U U (fun z=>[(5,(vI (z.1:Int)))]) (fun z=>[]) (fun _=>rfl) (fun _=>rfl) (fun z=>la.length-z.1) ⟨0,B⟩ (bf U) (aK [0]) ?_
 clear B
 rintro ⟨i,⟨O,A⟩⟩ J4 G
 try dsimp only
 refine ag fun _ K=>WS fun _ L=>rP 4 [] I ?_
 refine RK L<|bO U (aO fun R=>?_) (aN fun R=>?_)
 ·refine bM<|ab<|ab<|aF<|KK AA<|WS fun _ E=>rP 1 [] I ?_
  refine RK E<|ak<|Q1 hQ U U U ?_
  exact cB (br (by rw [List.take_of_length_le om] at A; exact A)).symm
 refine WK K<|ag fun _ M=>ax<|WS fun _ N=>rP 2 [] I ?_
 obtain ⟨x,hx⟩:=aA la i om
 have P:=bH iC hx
 refine rS (IA i U (av 0 U) dI dc om om)<|rS (gv i 0 (vI x) U bV (av 0 U) P U dc U)<|rP 2 [] I ?_
 refine RK N<|cb U (aN fun C=>?_) (aO fun C=>?_)
 ·refine WS fun _ D=>rP 1 [] I ?_
  refine RK D<|ak<|Q1 hQ U U U ?_
  exact cB (dC (by rw [← C]; exact aP hx)).symm
 refine cg<|aJ<|KK M<|ao<|rP 3 [] I ?_
 refine aC ?_
 have F:(vI (((i+1):Nat):Int))=(vI ((i:Int)+1)):=by exact cI om
 refine a_ (G ⟨(i+1),⟨om,fun q=>by rw [yl hx] at q; rcases gQ.1 q with q|q; exact A q; exact C (cH.1 q).symm⟩⟩ _ _ _ rfl os (cR.cons rfl<|cR.cons rfl<|aU rfl F<|cR.nil _) (aK [0]))
theorem sI (j:cw) (kA:OA) (kC:Nat) (az:List RA) (cA:OA) (cC:Nat) (bA:OA) (bC:Nat) (slA:OA) (slC:Nat) (drA:OA) (drC:Nat) (ha:List bZ) (heA:OA) (heC:Nat) (faA:OA) (faC:Nat) (prA:OA) (prC:Nat) (hin:er j az ha) (hok:dU j=0):
 lR Tryz.prog 44 [(vA (eY.cells (lJ j kA kC cA cC bA bC slA slC drA drC heA heC faA faC prA prC)))] (pb j kA az cA bA slA drA ha heA faA prA) (fun (x:(OA)×Nat)=>(vS x.1 ((lk j).length) x.2)) (fun (x:(OA)×Nat)=>True) (fun (x:(OA)×Nat)=>[(own x.1 x.2 4 1 ((lk j).map im))]):=by
 have Z:=hin.race
 have AO:=hin.race.line
 have A8:=hin.race.fE
 have A9:=hin.race.has
 have A4:=hin.race.fM
 have A0:=hin.nf
 have A3:=hin.np
 have Y:=(dj hok).1
 have L:=(dj hok).2
 have y:=(dx Y).1
 have Ax:=(dx Y).2
 have w:=(dw y).2.head
 unfold eL at w
 have Ba:=L.np
 refine dL kr Tryz.func44 U U fun w0 Q hQ hN=>?_
 try dsimp only
 refine WS fun _ g=>dV U fun b2=>bp 1 U<|RK g<|WS fun _ h=>rP 3 [] (mc 0 U I) ?_
 refine sS (n:=j.aB.length) (es:=(List.map im (List.replicate j.aB.length false))) U U U Ji om om (by simp only [maxLen]; omega) (by rw [List.map_replicate]; rfl) U fun b=>?_
 try dsimp only
 refine bp 1 U<|RK h<|ag fun _ m=>WS fun _ q=>rP 1 [] I ?_
 refine RK q<|ax ?_
 have G:(0≤j.aB.length)∧((List.replicate j.aB.length false).length=j.aB.length)∧((List.replicate j.aB.length false)=Aq j 0):=by exact ⟨Nat.zero_le _,sm,Gj⟩
 refine bP (ι:={z:Nat×(List Bool) // (z.1≤j.aB.length)∧(z.2.length=j.aB.length)∧(z.2=Aq j z.1)}) [1,3] [1,2,3,4,5,6,7,8,9,10,11] U U (fun z=>[(4,(vI (z.1.1:Int)))]) (fun z=>[(own (some ⟨b,0,none⟩) j.aB.length 4 1 (z.1.2.map im))]) (fun _=>rfl) (fun _=>rfl) (fun z=>j.aB.length-z.1.1) ⟨(0,(List.replicate j.aB.length false)),G⟩ (bf U) (aK [1,2,3,4,5,6,7,8,9,10,11,0]) ?_
 clear G
 rintro ⟨⟨i,Bq9⟩,⟨M,E,A⟩⟩ J7 O
 try dsimp only at M E A
 try dsimp only
 refine ag fun _ r=>WS fun _ s=>rP 4 [] I ?_
 refine RK s<|bO U (aO fun c=>?_) (aN fun c=>?_)
 ·refine bM<|ab<|ab<|aF<|KK m<|ag fun _ R=>?_
  obtain rfl:i=j.aB.length:=by omega
  have e:Bq9=lk j:=A.trans (Lw (Nat.le_refl _))
  subst e
  refine ao<|rP 2 [] I ?_
  refine RK R<|ak ?_
  refine LX hQ ((some ⟨b,0,none⟩),j.aB.length) [11] [] I U U U ?_ ?_
  ·first|rfl|(rw [rM]; rfl)
  ·trivial
 refine WK r<|ag fun _ H=>ax<|WS fun _ P=>rP 3 [] (mc 0 U I) ?_
 obtain ⟨p,hp⟩:=aA j.aB i om
 have AU:=bH bR.cells hp
 refine rS (IA i U (av 10 U) wM dc om om)<|rS (jL i 0 (bR.cells p) U bV (av 10 U) AU U dc U U)<|AL U Br fun A5=>e7 U BU U<|RK P<|cS cj 29 kr ?_
 have N:=L.ia _ p hp
 have B9:=N.fJ
 have Ag:=N.k6
 simp only [qQ] at Ag
 have B3:=N.fault
 have AC:=(EO (i:=(i:Int)) hok om (by simpa using hp)).1
 refine dP 7 [0,0,1] (mc 1 U (mc 0 U I)) ?_
 obtain ⟨f,hf⟩:=aA j.aM ((p.gh).toNat) om
 have v:=bH bg.cells hf
 refine dS (IA ((p.gh).toNat) U (av 10 U) xZ dc om om)<|dS (jL ((p.gh).toNat) 0 (bg.cells f) U bV (av 10 U) v U dc U U)<|dP 5 [0,1] (mc 1 U (mc 0 U I)) ?_
 obtain ⟨ht,D⟩:=aA j.Race.aI ((p.ib).toNat) om
 obtain ⟨B,C⟩:=aA ha ((p.ib).toNat) om
 have X:(List.zipWith cL j.Race.aI ha)[(p.ib).toNat]? =some (cL ht B):=cG D C
 refine dS (IA ((p.ib).toNat) U (av 8 U) kF dc om om) ?_
 have W:=Z.fJ _ _ _ D C
 have A1:=W.lS
 have A2:=(Ax.fJ ht (aP D)).1
 refine dS (gv ((p.ib).toNat) 0 (vS B.1.1 ht.length B.1.2) U bV (av 8 U) X U dc U)<|dP 2 [] (mc 0 U I) ?_
 obtain ⟨d,hd⟩:=aA ht ((p.gH).toNat) om
 obtain ⟨da,AA⟩:=aA B.2 ((p.gH).toNat) om
 have u:(List.zipWith aq.cells ht B.2)[(p.gH).toNat]? =some (aq.cells d da):=cG hd AA
 refine dS (IA ((p.gH).toNat) U (show g9 _ (rd B.1.1 ht.length 7 (List.zipWith aq.cells ht B.2)).holds from (cd 9 U (bB D C cr))) ov dc om om) ?_
 have AB:=mF (j:=j) (p:=p) D hd
 have CB:=W.sig d (aP hd)
 have V:=L.fault f (aP hf)
 have A7:0≤f.hE∧f.hE≤1000000:=by have h2:=V.2.2; split at h2<;>omega
 refine dS (jL ((p.gH).toNat) 0 (aR.cells (aR.mk d.Out d.cD d.Time (de.mk d.aV.Start d.aV.gL (bj.mk da.1 d.aV.aa.length da.2)))) U bV (show g9 _ (rd B.1.1 ht.length 7 (List.zipWith aq.cells ht B.2)).holds from (cd 9 U (bB D C cr))) u U dc U U)<|dS (CL (Bv j kA kC az cA cC bA bC slA slC drA drC ha heA heC faA faC prA prC f d da.1 da.2 hin (by exact V.1) asm asm) (mJ [2,3,4,5,6,7,8,9,10,11]<|aw (show g9 _ (rd da.1 d.aV.aa.length 2 (d.aV.aa.map aH.cells)).holds from (cd 9 U (bB D C (dH _ (bB hd AA (by simp [aq.jU]))))))<|aS) U)<|dS (BI U FH)<|dP 1 [] I ?_
 refine jm (t:=43) U (aO fun J=>?_) (aN fun J=>?_)
 ·refine dP 5 [] I ?_
  obtain ⟨bx,K⟩:=aA Bq9 i om
  have F:=bH im K
  refine dS (IA i U (ar (n:=j.aB.length) 12 U sq) s_ dc om om) ?_
  refine cu<|eo (k:=i) (o:=0) (vs:=[(vB false)]) (es':=(List.map im (Bq9.set i false))) (C':=[_,_,_,_,_,_,_,_,_,_,_,_,(own (some ⟨b,0,none⟩) j.aB.length 4 1 (List.map im (Bq9.set i false)))]) 12 U U U Vg U U U U F U dc (by exact (List.map_set (f:=im) (l:=Bq9) (i:=i) (a:=false)).symm) U<|aC<|aJ<|KK H<|ao<|rP 3 [] I ?_
  refine aC ?_
  have T:(vI (((i+1):Nat):Int))=(vI ((i:Int)+1)):=by exact cI om
  refine a_ (O ⟨((i+1),(Bq9.set i false)),⟨om,by rw [List.length_set]; exact E,by rw [A]; exact C_ hp (Rq AB hf J)⟩⟩ _ _ _ U os (cR.cons U<|cR.cons U<|aU U T<|cR.nil _) (aK [1,2,3,4,5,6,7,8,9,10,11,12]))
 refine kf 2 [] (mc 1 U I) U<|dS (CL (Md i j kA kC az cA cC bA bC slA slC drA drC ha heA heC faA faC prA prC hin hok om) (aY [2,3,4,5,6,7,8,9,10,11]) U)<|dS (BI U s7)<|dP 1 [] I ?_
 obtain ⟨bx,K⟩:=aA Bq9 i om
 have F:=bH im K
 refine dS (IA i U (ar (n:=j.aB.length) 12 U sq) s_ dc om om) ?_
 refine cu<|eo (k:=i) (o:=0) (vs:=[(vB (!(decide ((sV j (i:Int))=2))))]) (es':=(List.map im (Bq9.set i (!(decide ((sV j (i:Int))=2)))))) (C':=[_,_,_,_,_,_,_,_,_,_,_,_,(own (some ⟨b,0,none⟩) j.aB.length 4 1 (List.map im (Bq9.set i (!(decide ((sV j (i:Int))=2))))))]) 12 U U U Vg U U U U F U dc (by exact (List.map_set (f:=im) (l:=Bq9) (i:=i) (a:=(!(decide ((sV j (i:Int))=2))))).symm) U<|aC<|aJ<|KK H<|ao<|rP 3 [] I ?_
 refine aC ?_
 have S:(vI (((i+1):Nat):Int))=(vI ((i:Int)+1)):=by exact cI om
 refine a_ (O ⟨((i+1),(Bq9.set i (!(decide ((sV j (i:Int))=2))))),⟨om,by rw [List.length_set]; exact E,by rw [A]; exact C_ hp (Pt AB hf AC J)⟩⟩ _ _ _ U os (cR.cons U<|cR.cons U<|aU U S<|cR.nil _) (aK [1,2,3,4,5,6,7,8,9,10,11,12]))
end
section
open Go.RowKit
theorem GN (j:cw) (kA:OA) (kC:Nat) (az:List RA) (cA:OA) (cC:Nat) (bA:OA) (bC:Nat) (slA:OA) (slC:Nat) (drA:OA) (drC:Nat) (ha:List bZ) (heA:OA) (heC:Nat) (faA:OA) (faC:Nat) (prA:OA) (prC:Nat) (hin:er j az ha):
 lR Tryz.prog 9 [(vA (eY.cells (lJ j kA kC cA cC bA bC slA slC drA drC heA heC faA faC prA prC)))] (pb j kA az cA bA slA drA ha heA faA prA) (fun (x:(OA)×Nat)=>(vT [(vS x.1 ((iA j).length) x.2),(vI (dU j))])) (fun (x:(OA)×Nat)=>True) (fun (x:(OA)×Nat)=>[(own x.1 x.2 3 1 ((iA j).map iC))]):=by
 have g:=hin.race
 have Z:=hin.race.line
 have o:=hin.race.fE
 have p:=hin.race.has
 have h:=hin.race.fM
 have d:=hin.nf
 have f:=hin.np
 refine dL kr Tryz.func9 U U fun u Q hQ hN=>?_
 try dsimp only
 refine WS fun _ T=>dV U fun t=>bp 2 U<|RK T<|ag fun _ AA=>WS fun _ V=>dY 1 [] (mc 0 U I) U<|rS (CL (nc j kA kC az cA cC bA bC slA slC drA drC ha heA heC faA faC prA prC hin) (aY [1,2,3,4,5,6,7,8,9,10]) U)<|bp 1 U<|RK V<|WS fun _ W=>rP 2 [] I ?_
 refine RK W<|cb U (aX fun A=>?_) (aW fun A=>?_)
 ·refine WS fun _ X=>gn 3 1 ?_
  rw [show (own none 0 3 1 ([]:List (List Value)))=own none 0 3 1 ((iA j).map iC) from by rw [pY A]; rfl]
  refine rP 3 [] I ?_
  refine RK X<|ak ?_
  refine LX hQ (none,0) [0] [] I U U U ?_ ?_
  ·(rw [pY A]; rfl)
  ·trivial
 refine WK AA<|WS fun _ Y=>rP 1 [] (mc 0 U I) ?_
 refine cX (sI j kA kC az cA cC bA bC slA slC drA drC ha heA heC faA faC prA prC hin (by exact A)) (aY [1,2,3,4,5,6,7,8,9,10]) U fun s r=>?_
 obtain ⟨k,m⟩:=s
 try dsimp only
 refine rP 1 [] I ?_
 refine RK Y<|ag fun _ G=>?_
 have e:(lk j).length=j.aB.length:=rM
 have q:=(dj A).2.np
 refine ao<|bp 1 U<|RK G<|ag fun _ H=>WS fun _ AB=>rP 1 [] I ?_
 refine RK AB<|ax<|fu 3 1 ?_
 have B:(0≤j.aB.length):=by exact Nat.zero_le _
 refine bP (ι:={z:Nat×(OA)×Nat // (z.1≤j.aB.length)}) [1,5] [1,2,3,4,5,6,7,8,9,10,11,12] U U (fun z=>[(6,(vS z.1.2.1 ((iq j z.1.1).length) z.1.2.2)),(7,(vI (z.1.1:Int)))]) (fun z=>[(own z.1.2.1 z.1.2.2 3 1 ((iq j z.1.1).map iC))]) (fun _=>rfl) (fun _=>rfl) (fun z=>j.aB.length-z.1.1) ⟨(0,none,0),B⟩ (bf U) (aK [1,2,3,4,5,6,7,8,9,10,11,12,0]) ?_
 clear B
 rintro ⟨⟨i,a,c⟩,F⟩ J15 C
 try dsimp only at F
 try dsimp only
 refine ag fun _ J=>WS fun _ K=>rP 4 [] I ?_
 refine RK K<|bO U (aO fun S=>?_) (aN fun S=>?_)
 ·refine bM<|ab<|ab<|aF<|KK H<|ag fun _ M=>?_
  obtain rfl:i=j.aB.length:=by omega
  rw [show (iq j j.aB.length)=iA j from (qy A).symm]
  refine ao<|rP 3 [] I ?_
  refine RK M<|ak ?_
  refine LX hQ (a,c) [12] [] I U U U ?_ ?_
  ·(rw [A]; rfl)
  ·trivial
 refine WK J<|ag fun _ D=>ax<|WS fun _ L=>rP 2 [] I ?_
 obtain ⟨x,hx⟩:=aA (lk j) i om
 have b:=bH im hx
 refine rS (IA i U (ar (n:=(lk j).length) 0 U sm) s_ dc om om)<|rS (gv i 0 (vB x) U bV (ar (n:=(lk j).length) 0 U sm) b U dc U)<|RK L<|bO U (fun E=>?_) (fun E=>?_)
 ·refine cg<|aJ<|KK D<|ao<|rP 3 [] I ?_
  refine aC ?_
  rw [show (iq j i)=(iq j (i+1)) from (zK ((rW hx).trans E)).symm]
  have O:(vI (((i+1):Nat):Int))=(vI ((i:Int)+1)):=by exact cI om
  refine a_ (C ⟨((i+1),a,c),(by first|omega|(simp only []; omega))⟩ _ _ _ U os (cz 3<|aU U O<|cR.nil _) (aK [0,1,2,3,4,5,6,7,8,9,10,11,12]))
 refine ao<|rP 2 [] I ?_
 refine e9 (xs:=[.tmp 26]) (cs:=[(vI (i:Int))]) U dI kR U U U U (by simp [Value.cells]) U U fun l=>?_
 refine cP (es2:=(List.map iC (iq j (i+1)))) (m':=(iq j (i+1)).length) 13 U U U pg U U sm (bo (es:=List.map iC [(i:Int)]) 0 U U (by simp [bX]) U) (jN _) (by have:=wQ (j:=j) (i:=i); unfold js at this; omega) (by have:=wQ (j:=j) (i:=i); unfold js at this; simp only [maxLen]; omega) (by rw [show (iq j (i+1))=(iq j i)++[(i:Int)] from vO ((rW hx).trans E)]; simp) sm U fun P R=>?_
 try dsimp only
 refine bp 1 U<|aC<|aJ<|KK D<|ao<|rP 3 [] I ?_
 refine aC ?_
 have N:(vI (((i+1):Nat):Int))=(vI ((i:Int)+1)):=by exact cI om
 refine a_ (C ⟨((i+1),P,R),(by first|omega|(simp only []; omega))⟩ _ _ _ U os (cz 3<|aU U N<|cR.nil _) (aK [1,2,3,4,5,6,7,8,9,10,11,12,13]))
theorem yj (j:cw) (kA:OA) (kC:Nat) (az:List RA) (cA:OA) (cC:Nat) (bA:OA) (bC:Nat) (slA:OA) (slC:Nat) (drA:OA) (drC:Nat) (ha:List bZ) (heA:OA) (heC:Nat) (faA:OA) (faC:Nat) (prA:OA) (prC:Nat) (hin:er j az ha) (hok:dU j=0):
 lR Tryz.prog 46 [(vA (eY.cells (lJ j kA kC cA cC bA bC slA slC drA drC heA heC faA faC prA prC)))] (pb j kA az cA bA slA drA ha heA faA prA) (fun (x:(List RA)×(OA)×Nat)=>(vS x.2.1 ((dT j).length) x.2.2)) (fun (x:(List RA)×(OA)×Nat)=>x.1.length=(dT j).length) (fun (x:(List RA)×(OA)×Nat)=>[(own x.2.1 x.2.2 29 1 (List.zipWith tU (dT j) x.1)),(bQ (bK BL (dT j) x.1))]):=by
 have AC:=hin.race
 have q:=hin.race.line
 have AU:=hin.race.fE
 have Ag:=hin.race.has
 have AO:=hin.race.fM
 have v:=hin.nf
 have y:=hin.np
 have V:=(dj hok).1
 have AA:=(dj hok).2
 have m:=(dx V).1
 have A0:=(dx V).2
 have h:=(dw m).2.head
 unfold eL at h
 have Ax:=AA.np
 have w:(lk j).length=j.aB.length:=rM
 refine dL kr Tryz.func46 U U fun w0 Q hQ hN=>?_
 try dsimp only
 refine WS fun _ c=>dV U fun b2=>bp 1 U<|RK c<|WS fun _ d=>rP 1 [] (mc 0 U I) ?_
 refine cX (sI j kA kC az cA cC bA bC slA slC drA drC ha heA heC faA faC prA prC hin hok) (aY [1,2,3,4,5,6,7,8,9,10]) U fun y4 A1=>?_
 obtain ⟨a6,c7⟩:=y4
 try dsimp only
 refine bp 1 U<|RK d<|WS fun _ e=>rP 3 [] (mc 1 U I) ?_
 refine sS (n:=j.aM.length) (es:=(List.map im (List.replicate j.aM.length false))) U U U Ji om om (by simp only [maxLen]; omega) (by rw [List.map_replicate]; rfl) U fun H=>?_
 try dsimp only
 refine bp 1 U<|RK e<|ag fun _ J=>WS fun _ K=>rP 1 [] I ?_
 refine RK K<|ax ?_
 have C:(0≤j.aB.length)∧((List.replicate j.aM.length false).length=j.aM.length)∧((List.replicate j.aM.length false)=iv j.aM.length (qB j 0)):=by exact ⟨Nat.zero_le _,sm,CU.trans Jn⟩
 refine bP (ι:={z:Nat×(List Bool) // (z.1≤j.aB.length)∧(z.2.length=j.aM.length)∧(z.2=iv j.aM.length (qB j z.1))}) [1,3,4] [1,2,3,4,5,6,7,8,9,10,11,12] U U (fun z=>[(5,(vI (z.1.1:Int)))]) (fun z=>[(own (some ⟨H,0,none⟩) j.aM.length 4 1 (z.1.2.map im))]) (fun _=>rfl) (fun _=>rfl) (fun z=>j.aB.length-z.1.1) ⟨(0,(List.replicate j.aM.length false)),C⟩ (bf U) (aK [1,2,3,4,5,6,7,8,9,10,11,12,0]) ?_
 clear C
 rintro ⟨⟨i,Bq9⟩,⟨G,B,A⟩⟩ J12 D
 try dsimp only at G B A
 try dsimp only
 refine ag fun _ L=>WS fun _ M=>rP 4 [] I ?_
 refine RK M<|bO U (aO fun b=>?_) (aN fun b=>?_)
 ·refine bM<|ab<|ab<|aF<|KK J<|ag fun _ O=>?_
  obtain rfl:i=j.aB.length:=by omega
  subst A
  rw [show Value.slice (some ⟨H,0,none⟩) j.aM.length j.aM.length=Value.slice (some ⟨H,0,none⟩) (iv j.aM.length (qB j j.aB.length)).length j.aM.length from by rw [lB]]
  refine ao<|rP 2 [] (mc 1 U I) ?_
  refine cX (QA j kA kC az cA cC bA bC slA slC drA drC ha heA heC faA faC prA prC (qB j j.aB.length) (some ⟨H,0,none⟩) j.aM.length hin (by exact hok)) (mJ [2,3,4,5,6,7,8,9,10,11]<|aw (ar (n:=(iv j.aM.length (qB j j.aB.length)).length) 12 U sm)<|aS) U fun u X=>?_
  obtain ⟨AB,Y,Z⟩:=u
  try dsimp only
  have T:=X
  have s:(eT j (nF j.aM (qB j j.aB.length)))=(dT j):=by exact Nq hok
  rw [s] at T ⊢
  refine rP 1 [] I ?_
  refine RK O<|ak ?_
  refine LX hQ (AB,Y,Z) [0,1] [] I U (by show List.all _ _=true; simp only [fV,List.all_nil,qp,Bool.and_true]; rfl) U U ?_
  exact T
 refine WK L<|ag fun _ E=>ax<|ag fun _ N=>?_
 obtain ⟨p,hp⟩: ∃ p,j.aB[i]? =some p:=⟨j.aB[i]'om,fZ _⟩
 have W:=bH bR.cells hp
 have r:=(AA.ia _ p hp).fault
 refine ao<|rP 2 [] I ?_
 obtain ⟨x,hx⟩:=aA (lk j) i om
 have t:=bH im hx
 refine rS (IA i U (ar (n:=(lk j).length) 0 U sm) s_ dc om om)<|rS (gv i 0 (vB x) U bV (ar (n:=(lk j).length) 0 U sm) t U dc U)<|RK N<|bO U (fun F=>?_) (fun F=>?_)
 ·refine cg<|aJ<|KK E<|ao<|rP 3 [] I ?_
  refine aC ?_
  have R:(vI (((i+1):Nat):Int))=(vI ((i:Int)+1)):=by exact cI om
  refine a_ (D ⟨((i+1),Bq9),(by exact ⟨om,B,A.trans (Pc hp ((A_ hx hp).symm.trans F))⟩)⟩ _ _ _ U os (cz 3<|aU U R<|cR.nil _) (aK [0,1,2,3,4,5,6,7,8,9,10,11,12]))
 refine ao<|rP 4 [] (mc 1 U I) ?_
 refine rS (IA i U (av 11 U) wM dc om om)<|rS (nQ ((i*5)+3) U (av 11 U) (Nat.mul_pos om dc) eD U)<|rS (gv i 3 (vI p.gh) U bV (av 11 U) W U dc U) ?_
 obtain ⟨bx,g⟩:=aA Bq9 ((p.gh).toNat) om
 have S:=bH im g
 refine rS (IA ((p.gh).toNat) U (ar (n:=j.aM.length) 12 U sq) s_ dc om om) ?_
 refine eo (k:=(p.gh).toNat) (o:=0) (vs:=[(vB true)]) (es':=(List.map im (Bq9.set ((p.gh).toNat) true))) (C':=[_,_,_,_,_,_,_,_,_,_,_,_,(own (some ⟨H,0,none⟩) j.aM.length 4 1 (List.map im (Bq9.set ((p.gh).toNat) true)))]) 12 U U U Vg U U U U S U dc (by exact (List.map_set (f:=im) (l:=Bq9) (i:=(p.gh).toNat) (a:=true)).symm) U<|aC<|aJ<|KK E<|ao<|rP 3 [] I ?_
 refine aC ?_
 have P:(vI (((i+1):Nat):Int))=(vI ((i:Int)+1)):=by exact cI om
 refine a_ (D ⟨((i+1),(Bq9.set ((p.gh).toNat) true)),(by exact ⟨om,by rw [List.length_set]; exact B,by rw [A]; exact L_ hp ((A_ hx hp).symm.trans F) r.1 om⟩)⟩ _ _ _ U os (cz 3<|aU U P<|cR.nil _) (aK [0,1,2,3,4,5,6,7,8,9,10,11,12]))
theorem Ex (j:cw) (kA:OA) (kC:Nat) (az:List RA) (cA:OA) (cC:Nat) (bA:OA) (bC:Nat) (slA:OA) (slC:Nat) (drA:OA) (drC:Nat) (ha:List bZ) (heA:OA) (heC:Nat) (faA:OA) (faC:Nat) (prA:OA) (prC:Nat) (hin:er j az ha):
 lR Tryz.prog 11 [(vA (eY.cells (lJ j kA kC cA cC bA bC slA slC drA drC heA heC faA faC prA prC)))] (pb j kA az cA bA slA drA ha heA faA prA) (fun (x:(List RA)×(OA)×Nat)=>(vT [(vS x.2.1 ((ei j).length) x.2.2),(vI (dU j))])) (fun (x:(List RA)×(OA)×Nat)=>x.1.length=(ei j).length) (fun (x:(List RA)×(OA)×Nat)=>[(own x.2.1 x.2.2 29 1 (List.zipWith tU (ei j) x.1)),(bQ (bK BL (ei j) x.1))]):=by
 have S:=hin.race
 have M:=hin.race.line
 have AA:=hin.race.fE
 have V:=hin.race.has
 have T:=hin.race.fM
 have P:=hin.nf
 have R:=hin.np
 refine dL kr Tryz.func11 U U fun Y Q hQ hN=>?_
 try dsimp only
 refine WS fun _ G=>dV U fun X=>bp 1 U<|bp 1 U<|RK G<|ag fun _ H=>WS fun _ AB=>dY 1 [] (mc 0 U I) U<|rS (CL (nc j kA kC az cA cC bA bC slA slC drA drC ha heA heC faA faC prA prC hin) (aY [1,2,3,4,5,6,7,8,9,10]) U)<|bp 1 U<|RK AB<|WS fun _ J=>rP 2 [] I ?_
 refine RK J<|cb U (aX fun C=>?_) (aW fun C=>?_)
 ·refine WS fun _ K=>?_
  have B:(ei j)=[]:=oD C
  have A:([]:List RA).length=(ei j).length:=by rw [B]; rfl
  refine gn 29 1<|xJ ?_
  rw [show (own none 0 29 1 ([]:List (List Value)))=own none 0 29 1 (List.zipWith tU (ei j) []) from by rw [B]; rfl,show bQ []=bQ (bK BL (ei j) []) from by rw [B]; rfl]
  refine bp 2 U<|rP 1 [] I ?_
  refine RK K<|ak ?_
  refine LX hQ ([],none,0) [1,0] [] I U (by show List.all _ _=true; simp only [fV,List.all_nil,qp,Bool.and_true]; rfl) U ?_ ?_
  ·(rw [oD C]; rfl)
  ·exact A
 refine WK H<|WS fun _ L=>rP 1 [] (mc 0 U I) ?_
 refine cX (yj j kA kC az cA cC bA bC slA slC drA drC ha heA heC faA faC prA prC hin (by exact C)) (aY [1,2,3,4,5,6,7,8,9,10]) U fun W O=>?_
 obtain ⟨D,E,F⟩:=W
 try dsimp only
 have A:=O
 refine rP 1 [] I ?_
 have N:(dT j)=(ei j):=by exact (ki C).symm
 rw [N] at A ⊢
 refine rP 1 [] I ?_
 refine RK L<|ak ?_
 refine LX hQ (D,E,F) [0,1] [] I U (by show List.all _ _=true; simp only [fV,List.all_nil,qp,Bool.and_true]; rfl) U ?_ ?_
 ·(rw [C]; rfl)
 ·exact A
end
section
open Go.RowKit
theorem ID (j:cw) (kA:OA) (kC:Nat) (az:List RA) (cA:OA) (cC:Nat) (bA:OA) (bC:Nat) (slA:OA) (slC:Nat) (drA:OA) (drC:Nat) (ha:List bZ) (heA:OA) (heC:Nat) (faA:OA) (faC:Nat) (prA:OA) (prC:Nat) (hin:er j az ha):
 dG Tryz.prog 15 [(vA (eY.cells (lJ j kA kC cA cC bA bC slA slC drA drC heA heC faA faC prA prC)))] (pb j kA az cA bA slA drA ha heA faA prA) (vT [(vI (yb j)),(vI (xR j)),(vI (dU j))]):=by
 have q:=hin.race
 have h:=hin.race.line
 have w:=hin.race.fE
 have y:=hin.race.has
 have r:=hin.race.fM
 have l:=hin.nf
 have p:=hin.np
 refine bG kr Tryz.func15 U U fun w0 Q hQ hN=>?_
 try dsimp only
 refine WS fun _ X=>dV U fun b2=>bp 3 U<|RK X<|ag fun _ Y=>WS fun _ Z=>dY 1 [] (mc 0 U I) U<|rS (CL (nc j kA kC az cA cC bA bC slA slC drA drC ha heA heC faA faC prA prC hin) (aY [1,2,3,4,5,6,7,8,9,10]) U)<|bp 1 U<|RK Z<|WS fun _ b=>rP 2 [] I ?_
 refine RK b<|cb U (aX fun A=>?_) (aW fun A=>?_)
 ·refine WS fun _ c=>rP 4 [] I ?_
  refine RK c<|ak<|Q3 hQ U U U U U ?_
  (have e:=zg A; rw [e.1,e.2]; done)
 refine WK Y<|WS fun _ d=>rP 2 [] I ?_
 refine RK d<|ag fun _ f=>?_
 have o:(lk j).length=j.aB.length:=rM
 have V:=(dj A).2
 have A1:=V.np
 have B:=V.td
 refine ao<|rP 1 [] (mc 0 U I) ?_
 refine cX (sI j kA kC az cA cC bA bC slA slC drA drC ha heA heC faA faC prA prC hin (by exact A)) (aY [1,2,3,4,5,6,7,8,9,10]) U fun y9 s=>?_
 obtain ⟨t,u⟩:=y9
 try dsimp only
 refine bp 1 U<|RK f<|ag fun _ G=>WS fun _ H=>rP 1 [] I ?_
 refine RK H<|ax ?_
 have D:(0≤j.aB.length):=by exact Nat.zero_le _
 have M:(vI ((js j 0:Int)*j.kU))=(vI 0):=by exact cI (by simp [js,iq,kT])
 have N:(vI (((0:Int)-(js j 0:Int))*j.kU))=(vI 0):=by exact cI (by simp [js,iq,kT])
 refine bP (ι:={z:Nat // (z≤j.aB.length)}) [1,8] [0,1,2,3,4,5,6,7,8,9,10,11] U U (fun z=>[(6,(vI ((js j z.1:Int)*j.kU))),(7,(vI (((z.1:Int)-(js j z.1:Int))*j.kU))),(9,(vI (z.1:Int)))]) (fun z=>[]) (fun _=>rfl) (fun _=>rfl) (fun z=>j.aB.length-z.1) ⟨0,D⟩ (aU U M<|aU U N<|bf U) (aK [0,1,2,3,4,5,6,7,8,9,10,11]) ?_
 clear D
 rintro ⟨i,g⟩ J17 E
 try dsimp only
 have v:=wQ (j:=j) (i:=i)
 have m:=wQ (j:=j) (i:=i+1)
 have AC:=xK (a:=(js j i:Int)) ⟨om,om⟩ B
 have AO:=xK (a:=(i:Int)-(js j i:Int)) ⟨om,om⟩ B
 have AU:=Int.mul_nonneg (show 0≤(js j i:Int) by omega) B.1
 have Ag:=Int.mul_nonneg (show 0≤(i:Int)-(js j i:Int) by omega) B.1
 have Ax:=Int.mul_le_mul_of_nonneg_right (show (js j i:Int)≤8 by omega) B.1
 have A0:=Int.mul_le_mul_of_nonneg_right (show (i:Int)-(js j i:Int)≤8 by omega) B.1
 refine ag fun _ AB=>WS fun _ J=>rP 4 [] I ?_
 refine RK J<|bO U (aO fun W=>?_) (aN fun W=>?_)
 ·refine bM<|ab<|ab<|aF<|KK G<|WS fun _ L=>rP 5 [] I ?_
  refine RK L<|ak<|Q3 hQ U U U U U ?_
  (obtain rfl:i=j.aB.length:=om; have e:=M_ A; rw [e.1,e.2,A]; done)
 refine WK AB<|ag fun _ F=>ax<|WS fun _ K=>rP 2 [] I ?_
 obtain ⟨x,hx⟩:=aA (lk j) i om
 have k:=bH im hx
 refine rS (IA i U (ar (n:=(lk j).length) 0 U sm) s_ dc om om)<|rS (gv i 0 (vB x) U bV (ar (n:=(lk j).length) 0 U sm) k U dc U)<|RK K<|bO U (fun C=>?_) (fun C=>?_)
 ·refine ao<|dY 5 [] (mc 1 U I) U<|aC<|aJ<|KK F<|ao<|rP 3 [] I ?_
  refine aC ?_
  have S:(vI (((js j (i+1):Nat):Int)*j.kU))=(vI ((js j i:Int)*j.kU)):=by exact cI (by exact (PL (C▸hx)).symm)
  have T:(vI (((((i+1):Nat):Int)-((js j (i+1):Nat):Int))*j.kU))=(vI ((((i:Int)-(js j i:Int))*j.kU)+j.kU)):=by exact cI (by exact (Qw (C▸hx)).symm)
  have AA:(vI (((i+1):Nat):Int))=(vI ((i:Int)+1)):=by exact cI om
  refine a_ (E ⟨(i+1),(by first|omega|(simp only []; omega))⟩ _ _ _ U os (cR.cons U<|cR.cons U<|aU U S<|aU U T<|aU U AA<|cR.nil _) (aK [0,1,2,3,4,5,6,7,8,9,10,11]))
 refine ao<|dY 5 [] (mc 1 U I) U<|aC<|aJ<|KK F<|ao<|rP 3 [] I ?_
 refine aC ?_
 have O:(vI (((js j (i+1):Nat):Int)*j.kU))=(vI (((js j i:Int)*j.kU)+j.kU)):=by exact cI (by exact (Qt (C▸hx)).symm)
 have P:(vI (((((i+1):Nat):Int)-((js j (i+1):Nat):Int))*j.kU))=(vI (((i:Int)-(js j i:Int))*j.kU)):=by exact cI (by exact (Qe (C▸hx)).symm)
 have R:(vI (((i+1):Nat):Int))=(vI ((i:Int)+1)):=by exact cI om
 refine a_ (E ⟨(i+1),(by first|omega|(simp only []; omega))⟩ _ _ _ U os (cR.cons U<|cR.cons U<|aU U O<|aU U P<|aU U R<|cR.nil _) (aK [0,1,2,3,4,5,6,7,8,9,10,11]))
theorem JM (j:cw) (kA:OA) (kC:Nat) (az:List RA) (cA:OA) (cC:Nat) (bA:OA) (bC:Nat) (slA:OA) (slC:Nat) (drA:OA) (drC:Nat) (ha:List bZ) (heA:OA) (heC:Nat) (faA:OA) (faC:Nat) (prA:OA) (prC:Nat) (sq:Int) (hin:er j az ha):
 dG Tryz.prog 17 [(vA (eY.cells (lJ j kA kC cA cC bA bC slA slC drA drC heA heC faA faC prA prC))),(vI sq)] (pb j kA az cA bA slA drA ha heA faA prA) (vT [(vI (rO j sq)),(vI (ql j sq))]):=by
 have y:=hin.race
 have l:=hin.race.line
 have Ax:=hin.race.fE
 have A0:=hin.race.has
 have AC:=hin.race.fM
 have u:=hin.nf
 have w:=hin.np
 refine bG kr Tryz.func17 U U fun w0 Q hQ hN=>?_
 try dsimp only
 refine WS fun _ Z=>dV U fun b2=>bp 2 U<|RK Z<|ag fun _ a=>WS fun _ b=>dY 1 [] (mc 0 U I) U<|rS (CL (nc j kA kC az cA cC bA bC slA slC drA drC ha heA heC faA faC prA prC hin) (aY [1,2,3,4,5,6,7,8,9,10]) U)<|bp 1 U<|RK b<|WS fun _ c=>rP 2 [] I ?_
 refine RK c<|cb U (aX fun A=>?_) (aW fun A=>?_)
 ·refine WS fun _ d=>rP 3 [] I ?_
  refine RK d<|ak<|Q2 hQ U U U U ?_
  (have e:=z9 (s:=sq) A; rw [e.1,e.2]; done)
 refine WK a<|ag fun _ f=>WS fun _ g=>dY 6 [] (mc 0 U I) U<|rS (CL (il sq 0 ((j.Race.bu.length:Int)-1)) (aS) U)<|rP 1 [] I ?_
 refine RK g<|cb U (aX fun G=>?_) (aW fun G=>?_)
 ·refine WS fun _ h=>rP 2 [] I ?_
  refine RK h<|ak<|Q2 hQ U U U U ?_
  (have e:=zL (s:=sq) A om; rw [e.1,e.2]; done)
 refine WK f<|WS fun _ AB=>rP 1 [] I ?_
 refine RK AB<|ag fun _ J=>?_
 have v:(lk j).length=j.aB.length:=rM
 have Y:=(dj A).2
 have A5:=Y.np
 have X:=Y.td
 refine ao<|rP 1 [] (mc 0 U I) ?_
 refine cX (sI j kA kC az cA cC bA bC slA slC drA drC ha heA heC faA faC prA prC hin (by exact A)) (aY [1,2,3,4,5,6,7,8,9,10]) U fun r AO=>?_
 obtain ⟨AU,Ag⟩:=r
 try dsimp only
 refine bp 1 U<|RK J<|ag fun _ K=>WS fun _ L=>rP 1 [] I ?_
 refine RK L<|ax ?_
 have E:(0≤j.aB.length):=by exact Nat.zero_le _
 have P:(vI (-(h_ j sq 0:Int)*j.kU))=(vI 0):=by exact cI SL.symm
 refine bP (ι:={z:Nat // (z≤j.aB.length)}) [1,2,8] [0,1,2,3,4,5,6,7,8,9,10,11] U U (fun z=>[(7,(vI (-(h_ j sq z.1:Int)*j.kU))),(9,(vI (z.1:Int)))]) (fun z=>[]) (fun _=>rfl) (fun _=>rfl) (fun z=>j.aB.length-z.1) ⟨0,E⟩ (aU U P<|bf U) (aK [0,1,2,3,4,5,6,7,8,9,10,11]) ?_
 clear E
 rintro ⟨i,k⟩ J19 C
 try dsimp only
 have A1:=Ia (j:=j) (s:=sq) (m:=i)
 have A2:=Int.mul_nonneg (show 0≤(h_ j sq i:Int) by omega) X.1
 have A3:=Int.mul_le_mul_of_nonneg_right (show (h_ j sq i:Int)≤8 by omega) X.1
 have A4: -(h_ j sq i:Int)*j.kU= -((h_ j sq i:Int)*j.kU):=Int.neg_mul _ _
 refine ag fun _ M=>WS fun _ N=>rP 4 [] I ?_
 refine RK N<|bO U (aO fun G=>?_) (aN fun G=>?_)
 ·refine bM<|ab<|ab<|aF<|KK K<|WS fun _ O=>rP 3 [] I ?_
  refine RK O<|ak<|Q2 hQ U U U U ?_
  (obtain rfl:i=j.aB.length:=om; have e:=NB (s:=sq) A om; rw [e.1,e.2]; done)
 refine WK M<|ag fun _ D=>ax<|WS fun _ F=>rP 3 [] (mc 1 U I) ?_
 obtain ⟨p,hp⟩:=aA j.aB i om
 have o:=bH bR.cells hp
 refine rS (IA i U (av 11 U) wM dc om om)<|rS (nQ ((i*5)+1) U (av 11 U) (Nat.mul_pos om dc) eD U)<|rS (gv i 1 (vI p.gH) U bV (av 11 U) o U dc U)<|rP 3 [] I ?_
 refine cx (t:=39) U (aO fun H=>?_) (aN fun H=>?_)
 ·refine bp 6 U<|RK F<|bT U<|cg<|aJ<|KK D<|ao<|rP 3 [] I ?_
  refine aC ?_
  have V:(vI (-((h_ j sq (i+1):Nat):Int)*j.kU))=(vI (-(h_ j sq i:Int)*j.kU)):=by exact cI (by exact (KN (IT hp H)).symm)
  have W:(vI (((i+1):Nat):Int))=(vI ((i:Int)+1)):=by exact cI om
  refine a_ (C ⟨(i+1),(by first|omega|(simp only []; omega))⟩ _ _ _ U os (cz 3<|aU U V<|aU U W<|cR.nil _) (aK [0,1,2,3,4,5,6,7,8,9,10,11]))
 refine rP 2 [] I ?_
 obtain ⟨x,hx⟩:=aA (lk j) i om
 have q:=bH im hx
 refine rS (IA i U (ar (n:=(lk j).length) 0 U sm) s_ dc om om)<|rS (gv i 0 (vB x) U bV (ar (n:=(lk j).length) 0 U sm) q U dc U)<|rP 2 [] I ?_
 refine RK F<|bO U (fun B=>?_) (fun B=>?_)
 ·rw [Bool.not_eq_false'] at B
  refine cg<|aJ<|KK D<|ao<|rP 3 [] I ?_
  refine aC ?_
  have T:(vI (-((h_ j sq (i+1):Nat):Int)*j.kU))=(vI (-(h_ j sq i:Int)*j.kU)):=by exact cI (by exact (KN (JU hp ((A_ hx hp).symm.trans B))).symm)
  have AA:(vI (((i+1):Nat):Int))=(vI ((i:Int)+1)):=by exact cI om
  refine a_ (C ⟨(i+1),(by first|omega|(simp only []; omega))⟩ _ _ _ U os (cz 3<|aU U T<|aU U AA<|cR.nil _) (aK [0,1,2,3,4,5,6,7,8,9,10,11]))
 rw [Bool.not_eq_true'] at B
 refine ao<|dY 5 [] (mc 1 U I) U<|aC<|aJ<|KK D<|ao<|rP 3 [] I ?_
 refine aC ?_
 have R:(vI (-((h_ j sq (i+1):Nat):Int)*j.kU))=(vI ((-(h_ j sq i:Int)*j.kU)-j.kU)):=by exact cI (by exact (Pa (GC hp H ((A_ hx hp).symm.trans B))).symm)
 have S:(vI (((i+1):Nat):Int))=(vI ((i:Int)+1)):=by exact cI om
 refine a_ (C ⟨(i+1),(by first|omega|(simp only []; omega))⟩ _ _ _ U os (cz 3<|aU U R<|aU U S<|cR.nil _) (aK [0,1,2,3,4,5,6,7,8,9,10,11]))
end
section
open Go.RowKit
theorem yR (j:cw) (kA:OA) (kC:Nat) (az:List RA) (cA:OA) (cC:Nat) (bA:OA) (bC:Nat) (slA:OA) (slC:Nat) (drA:OA) (drC:Nat) (ha:List bZ) (heA:OA) (heC:Nat) (faA:OA) (faC:Nat) (prA:OA) (prC:Nat) (h i:Int) (d:aq) (sgA:OA) (sgC:Nat) (hin:er j az ha) (hsl:d.aV.aa.length≤1000000) (hng: ¬ l3 j):
 lR Tryz.prog 19 [(vA (eY.cells (lJ j kA kC cA cC bA bC slA slC drA drC heA heC faA faC prA prC))),(vI h),(vI i),(vA (aR.cells (aR.mk d.Out d.cD d.Time (g8 d.aV sgA sgC))))] ((pb j kA az cA bA slA drA ha heA faA prA)++[(rd sgA d.aV.aa.length 2 (d.aV.aa.map aH.cells))]) (fun (x:Bool×Int×(OA)×Nat×(OA)×Nat×(List RA)×(OA)×Nat×(OA)×Nat×(OA)×Nat×(OA)×Nat×(List bZ))=>bif x.1 then (vT [(vA (ct.cells (ct.mk (bW.mk (bJ.mk (bj.mk x.2.2.1 j.Race.au.bL.length x.2.2.2.1)) j.Race.au.gl (bj.mk x.2.2.2.2.1 j.Race.au.aG.length x.2.2.2.2.2.1) (bj.mk x.2.2.2.2.2.2.2.1 j.Race.au.aj.length x.2.2.2.2.2.2.2.2.1) j.Race.au.bU j.Race.au.ew j.Race.au.cU) (bj.mk x.2.2.2.2.2.2.2.2.2.1 j.Race.bu.length x.2.2.2.2.2.2.2.2.2.2.1) (bj.mk x.2.2.2.2.2.2.2.2.2.2.2.1 j.Race.cN.length x.2.2.2.2.2.2.2.2.2.2.2.2.1) j.Race.jd (bj.mk x.2.2.2.2.2.2.2.2.2.2.2.2.2.1 ((j0 j.Race.aI h i d).length) x.2.2.2.2.2.2.2.2.2.2.2.2.2.2.1)))),(vI 0)]) else (vT [(vA (ct.cells (ct.mk (bW.mk (bJ.mk (bj.mk none 0 0)) 0 (bj.mk none 0 0) (bj.mk none 0 0) 0 0 0) (bj.mk none 0 0) (bj.mk none 0 0) 0 (bj.mk none 0 0)))),(vI x.2.1)])) (fun (x:Bool×Int×(OA)×Nat×(OA)×Nat×(List RA)×(OA)×Nat×(OA)×Nat×(OA)×Nat×(OA)×Nat×(List bZ))=>(x.1=true→((km j h i d)=0∧(x.2.2.2.2.2.2.1.length=j.Race.au.aG.length∧mU j.Race.au.aG x.2.2.2.2.2.2.1)∧ud (j0 j.Race.aI h i d) x.2.2.2.2.2.2.2.2.2.2.2.2.2.2.2))∧(x.1=false→(x.2.1=(km j h i d)∧ ¬ (km j h i d)=0))) (fun (x:Bool×Int×(OA)×Nat×(OA)×Nat×(List RA)×(OA)×Nat×(OA)×Nat×(OA)×Nat×(OA)×Nat×(List bZ))=>bif x.1 then [(own x.2.2.1 x.2.2.2.1 128 9 (j.Race.au.bL.map aD.cells)),(own x.2.2.2.2.1 x.2.2.2.2.2.1 133 2 (List.zipWith aT.cells j.Race.au.aG x.2.2.2.2.2.2.1)),(bQ (bK aT.owns j.Race.au.aG x.2.2.2.2.2.2.1)),(own x.2.2.2.2.2.2.2.1 x.2.2.2.2.2.2.2.2.1 137 4 (j.Race.au.aj.map cO.cells)),(own x.2.2.2.2.2.2.2.2.2.1 x.2.2.2.2.2.2.2.2.2.2.1 3 1 (j.Race.bu.map iC)),(own x.2.2.2.2.2.2.2.2.2.2.2.1 x.2.2.2.2.2.2.2.2.2.2.2.2.1 3 1 (j.Race.cN.map iC)),(own x.2.2.2.2.2.2.2.2.2.2.2.2.2.1 x.2.2.2.2.2.2.2.2.2.2.2.2.2.2.1 75 1 (List.zipWith cL (j0 j.Race.aI h i d) x.2.2.2.2.2.2.2.2.2.2.2.2.2.2.2)),(bQ (bK j3 (j0 j.Race.aI h i d) x.2.2.2.2.2.2.2.2.2.2.2.2.2.2.2))] else []):=by
 have l:=hin.race
 have EQ:=hin.race.line
 have JJ:=hin.race.fE
 have Jk:=hin.race.has
 have Hi:=hin.race.fM
 have GE:=hin.nf
 have Go:=hin.np
 have C3:=sv hng
 refine dL kr Tryz.func19 U U fun w0 Q hQ hN=>?_
 try dsimp only
 refine WS fun _ Ci=>dV U fun b2=>dV U fun b3=>AL U y_ fun b4=>bp 1 U<|RK Ci<|ag fun _ Ck=>WS fun _ Cp=>dY 1 [] (mc 2 U I) U<|rS (CL (nc j kA kC az cA cC bA bC slA slC drA drC ha heA heC faA faC prA prC hin) (aY [3,4,5,6,7,8,9,10,11,12]) U)<|bp 1 U<|RK Cp<|WS fun _ Cx=>rP 2 [] I ?_
 refine RK Cx<|cb U (aX fun E=>?_) (aW fun E=>?_)
 ·refine WS fun _ C0=>rS (SX (bE (xs:=[]) (cs:=(ct.cells (ct.mk (bW.mk (bJ.mk (bj.mk none 0 0)) 0 (bj.mk none 0 0) (bj.mk none 0 0) 0 0 0) (bj.mk none 0 0) (bj.mk none 0 0) 0 (bj.mk none 0 0)))) U U (bD yV U)) U U)<|bp 1 U<|e7 U oZ U<|rP 1 [] I ?_
  refine RK C0<|ak ?_
  refine LX hQ (false,(dU j),none,0,none,0,[],none,0,none,0,none,0,none,0,[]) [] [0] (mc 0 U I) U (by rfl) U ?_ ?_
  ·rfl
  ·refine ⟨FV,fun _=>?_⟩; have e:=B0 (h:=h) (i:=i) (d:=d) E; exact ⟨e.symm,fun q=>E (e.symm.trans q)⟩
 refine WK Ck<|ag fun _ C1=>WS fun _ f=>dY 6 [] (mc 2 U I) U<|rS (CL (il h 0 ((j.Race.aI.length:Int)-1)) (aS) U)<|rP 2 [] I ?_
 refine bS (t:=26) U (aX fun B9=>?_) (aW fun B9=>?_)
 ·refine bp 9 U<|RK f<|aL U<|WS fun _ v=>rS (SX (bE (xs:=[]) (cs:=(ct.cells (ct.mk (bW.mk (bJ.mk (bj.mk none 0 0)) 0 (bj.mk none 0 0) (bj.mk none 0 0) 0 0 0) (bj.mk none 0 0) (bj.mk none 0 0) 0 (bj.mk none 0 0)))) U U (bD yV U)) U U)<|e7 U oZ U<|rP 1 [] I ?_
  refine RK v<|ak ?_
  refine LX hQ (false,2,none,0,none,0,[],none,0,none,0,none,0,none,0,[]) [] [0] (mc 0 U I) U (by rfl) U ?_ ?_
  ·rfl
  ·exact o9<|qT (ue (h:=h) (i:=i) (d:=d) E om)
 refine dY 6 [] (mc 2 U I) U<|rS (CL (il i 0 ((j.Race.bu.length:Int)-1)) (aS) U)<|rP 2 [] I ?_
 refine RK f<|cb U (aX fun CB=>?_) (aW fun CB=>?_)
 ·refine WS fun _ y=>rS (SX (bE (xs:=[]) (cs:=(ct.cells (ct.mk (bW.mk (bJ.mk (bj.mk none 0 0)) 0 (bj.mk none 0 0) (bj.mk none 0 0) 0 0 0) (bj.mk none 0 0) (bj.mk none 0 0) 0 (bj.mk none 0 0)))) U U (bD yV U)) U U)<|e7 U oZ U<|rP 1 [] I ?_
  refine RK y<|ak ?_
  refine LX hQ (false,2,none,0,none,0,[],none,0,none,0,none,0,none,0,[]) [] [0] (mc 0 U I) U (by rfl) U ?_ ?_
  ·rfl
  ·exact o9<|qT (ue (h:=h) (i:=i) (d:=d) E om)
 refine WK C1<|ag fun _ z=>ag fun _ AC=>?_
 have A7:=(dj E).1
 have J2:=(dj E).2
 have Do:=(dx A7).1
 have Eq:=(dx A7).2
 have Di:=(dw Do).2.head
 unfold eL at Di
 refine ao<|rP 1 [] (mc 2 U I) ?_
 refine cX (yj j kA kC az cA cC bA bC slA slC drA drC ha heA heC faA faC prA prC hin asm) (aY [3,4,5,6,7,8,9,10,11,12]) U fun Fd Ba=>?_
 obtain ⟨b,IO,If⟩:=Fd
 try dsimp only
 have s:=Ba
 try dsimp only at s
 refine rP 1 [] I ?_
 have J3:(dT j).length=j.Race.aI.length:=um
 obtain ⟨row,F⟩:=aA (dT j) ((h).toNat) om
 obtain ⟨rowa,L⟩:=aA b ((h).toNat) om
 have u:(List.zipWith tU (dT j) b)[(h).toNat]? =some (tU row rowa):=cG F L
 refine rS (IA ((h).toNat) U (ar (n:=(dT j).length) 0 U (mS s)) GL dc om om)<|rS (gv ((h).toNat) 0 (vS rowa.1 row.length rowa.2) U bV (ar (n:=(dT j).length) 0 U (mS s)) u U dc U)<|rP 1 [] I ?_
 have A9:row.length≤1000000:=yG E _ (by rw [ki E]; exact aP F)
 refine rS (CL (Pp row rowa.1 rowa.2 i (by exact A9)) (aw (show g9 _ (rd rowa.1 row.length 1 (row.map iC)).holds from (fun w hw=>(eO 1 U Gc) w hw _ (bB F L (by simp [OK]))))<|aS) U)<|rP 1 [] I ?_
 refine RK AC<|cb U (aX fun M=>?_) (aW fun M=>?_)
 ·refine WS fun _ AO=>rS (SX (bE (xs:=[]) (cs:=(ct.cells (ct.mk (bW.mk (bJ.mk (bj.mk none 0 0)) 0 (bj.mk none 0 0) (bj.mk none 0 0) 0 0 0) (bj.mk none 0 0) (bj.mk none 0 0) 0 (bj.mk none 0 0)))) U U (bD yV U)) U U)<|CT U oZ U<|rP 1 [] I ?_
  refine RK AO<|ak ?_
  refine LX hQ (false,8,none,0,none,0,[],none,0,none,0,none,0,none,0,[]) [] [0] (mc 2 U I) U (by rfl) U ?_ ?_
  ·rfl
  ·exact o9<|qT (E2 (h:=h) (i:=i) (d:=d) E ⟨om,om⟩ F M)
 refine WK z<|WS fun _ AU=>rP 1 [] I ?_
 refine rS (LP (ct.cells (wq j.Race kA kC cA cC bA bC slA slC drA drC heA heC)) 4 U bV U U U)<|cX (yw j.Race kA kC az cA cC bA bC slA slC drA drC ha heA heC (by exact l) (by exact C3.1)) (aY [5,6,7,8,9,10,11,12]) U fun Fk B3=>?_
 obtain ⟨O,V,P,W,AA,R,X,S,Y,T,Z,J,K,G⟩:=Fk
 try dsimp only
 obtain ⟨⟨N,r⟩,D⟩:=B3
 try dsimp only at N r D
 have GT:=D.1
 refine AL U y_ fun Id=>e7 U oZ U<|RK AU<|WS fun _ Ag=>rP 1 [] I ?_
 refine rS (LP (de.cells (g8 d.aV sgA sgC)) 12 U bV U U U)<|cX (E9 d.aV sgA sgC hsl) (aY [24]) U fun Fn H1=>?_
 obtain ⟨B,C⟩:=Fn
 try dsimp only
 refine rP 1 [] I ?_
 refine hU (vs:=(de.cells (g8 d.aV B C))) (cs':=(aR.cells (aR.mk d.Out d.cD d.Time (g8 d.aV B C)))) (C':=[_,_,_,_,_,_,_,_,_,_,_,_,_,(cy b3 43 (aR.cells (aR.mk d.Out d.cD d.Time (g8 d.aV B C)))),_,_,_,_,_,_,_,_,_,_,_,_]) 13 U U U O1 U U U U U U U<|RK Ag<|ag fun _ Ax=>?_
 obtain ⟨ht,H⟩:=aA j.Race.aI ((h).toNat) om
 obtain ⟨A,AB⟩:=aA G ((h).toNat) (by have:=D.1; omega)
 have A6:(List.zipWith cL j.Race.aI G)[(h).toNat]? =some (cL ht A):=cG H AB
 have FS:=D.2 _ _ _ H AB
 have Jb:=(Eq.fJ ht (aP H)).1
 refine Im 9 H AB U U ?_
 try dsimp only
 refine cS cj 8 kr<|kf 3 [] (mc 4 U I) U<|dS (IA ((h).toNat) U (ar (n:=j.Race.aI.length) 11 U (dQ D.1)) kF dc om om)<|dS (gv ((h).toNat) 0 (vS A.1.1 ht.length A.1.2) U bV (ar (n:=j.Race.aI.length) 11 U (dQ D.1)) A6 U dc U)<|dP 2 [] (mc 15 U I) ?_
 obtain ⟨d0,A4⟩:=aA ht ((i).toNat) om
 obtain ⟨C2,g⟩:=aA A.2 ((i).toNat) om
 have A5:(List.zipWith aq.cells ht A.2)[(i).toNat]? =some (aq.cells d0 C2):=cG A4 g
 refine dS (IA ((i).toNat) U (ar (n:=ht.length) 0 U (jP FS)) ov dc om om)<|cu<|eo (k:=(i).toNat) (o:=0) (vs:=(aR.cells (aR.mk d.Out d.cD d.Time (g8 d.aV B C)))) (es':=(List.zipWith aq.cells (ht.set (i).toNat d) (A.2.set (i).toNat (B,C)))) (C':=[(own A.1.1 A.1.2 43 7 (List.zipWith aq.cells (ht.set (i).toNat d) (A.2.set (i).toNat (B,C)))),_,_,_,_,_,_,_,_,_,_,_,_,_,_,_,_,_,_,_,_,_,_,_,_,_,_,_]) 0 U U U Et U U U U A5 U dc (by exact uL (c:=aq.cells) (m:=d) (a:=(B,C))) U<|RK Ax<|ag fun _ A0=>ag fun _ A1=>KG (d':=d) (b':=(B,C)) 1 3 A4 g U U ?_
 refine E8 (h':=(ht.set (i).toNat d)) (a':=(A.1,(A.2.set (i).toNat (B,C)))) 2 0 1 om (by have:=D.1; omega) U U ?_
 rw [← r9 H,show List.zipWith cL j.Race.aI G=List.zipWith cL (j0 j.Race.aI h i d) (G.set (h).toNat (A.1,(A.2.set (i).toNat (B,C)))) from by rw [r9 H]; exact (zz H AB (by rw [List.length_set])).symm]
 replace D:=Ib (d:=d) (i:=i) (x:=(B,C)) D H AB
 rw [show bj.mk J j.Race.aI.length K=bj.mk J ((j0 j.Race.aI h i d).length) K from by rw [q_]]
 have A8:iL (rn j.Race h i d) _ _:=l.put N r D hsl
 refine ao<|rP 1 [] (mc 1 U I) ?_
 refine rS (CL (zi (rn j.Race h i d) O V AA P W R X S Y T Z (G.set (h).toNat (A.1,(A.2.set (i).toNat (B,C)))) J K (by exact A8)) (aw (ar (n:=j.Race.au.bL.length) 2 U (by (rw [List.length_map]; rfl)))<|aw (ar (n:=j.Race.au.aG.length) 3 U (gO N))<|aw (eO 4 U jT)<|aw (ar (n:=j.Race.au.aj.length) 5 U (by (rw [List.length_map]; rfl)))<|aw (ar (n:=j.Race.bu.length) 6 U (by (rw [List.length_map]; rfl)))<|aw (ar (n:=j.Race.cN.length) 7 U (by (rw [List.length_map]; rfl)))<|aw (ar (n:=(j0 j.Race.aI h i d).length) 8 U (dQ D.1))<|aw (jf 0 U D)<|aS) U) ?_
 refine rP 1 [] I ?_
 refine RK A1<|bO U (aW fun p=>?_) (aX fun p=>?_)
 ·refine WK A0<|WS fun _ A3=>dY 1 [] (mc 1 U I) U<|RT U oZ U<|rP 1 [] I ?_
  refine RK A3<|ak ?_
  refine LX hQ (true,0,O,V,P,W,AA,R,X,S,Y,T,Z,J,K,(G.set (h).toNat (A.1,(A.2.set (i).toNat (B,C))))) [2,3,4,5,6,7,8,0] [0] (mc 11 U I) U (by (show List.all _ _=true; simp only [cond_true,fV,List.all_nil,kB,rf,Bool.and_true]; rfl)) U ?_ ?_
  ·rfl
  ·exact ⟨fun _=>⟨F5 E ⟨om,om⟩ F M p,⟨N,r⟩,D⟩,Oj⟩
 refine WS fun _ A2=>rS (SX (bE (xs:=[]) (cs:=(ct.cells (ct.mk (bW.mk (bJ.mk (bj.mk none 0 0)) 0 (bj.mk none 0 0) (bj.mk none 0 0) 0 0 0) (bj.mk none 0 0) (bj.mk none 0 0) 0 (bj.mk none 0 0)))) U U (bD yV U)) U U)<|RT U oZ U<|rP 1 [] I ?_
 refine RK A2<|ak ?_
 refine LX hQ (false,60,none,0,none,0,[],none,0,none,0,none,0,none,0,[]) [] [0] (mc 11 U I) U (by rfl) U ?_ ?_
 ·rfl
 ·exact o9<|qT (z3 (h:=h) (i:=i) (d:=d) E ⟨om,om⟩ F M p)
theorem AX (j:cw) (kA:OA) (kC:Nat) (az:List RA) (cA:OA) (cC:Nat) (bA:OA) (bC:Nat) (slA:OA) (slC:Nat) (drA:OA) (drC:Nat) (ha:List bZ) (heA:OA) (heC:Nat) (faA:OA) (faC:Nat) (prA:OA) (prC:Nat) (h i:Int) (d:aq) (sgA:OA) (sgC:Nat) (hin:er j az ha) (hsl:d.aV.aa.length≤1000000) (hng: ¬ l3 j) (hok:(km j h i d)=0):
 lR Tryz.prog 19 [(vA (eY.cells (lJ j kA kC cA cC bA bC slA slC drA drC heA heC faA faC prA prC))),(vI h),(vI i),(vA (aR.cells (aR.mk d.Out d.cD d.Time (g8 d.aV sgA sgC))))] ((pb j kA az cA bA slA drA ha heA faA prA)++[(rd sgA d.aV.aa.length 2 (d.aV.aa.map aH.cells))]) (fun (x:(OA)×Nat×(OA)×Nat×(List RA)×(OA)×Nat×(OA)×Nat×(OA)×Nat×(OA)×Nat×(List bZ))=>(vT [(vA (ct.cells (ct.mk (bW.mk (bJ.mk (bj.mk x.1 j.Race.au.bL.length x.2.1)) j.Race.au.gl (bj.mk x.2.2.1 j.Race.au.aG.length x.2.2.2.1) (bj.mk x.2.2.2.2.2.1 j.Race.au.aj.length x.2.2.2.2.2.2.1) j.Race.au.bU j.Race.au.ew j.Race.au.cU) (bj.mk x.2.2.2.2.2.2.2.1 j.Race.bu.length x.2.2.2.2.2.2.2.2.1) (bj.mk x.2.2.2.2.2.2.2.2.2.1 j.Race.cN.length x.2.2.2.2.2.2.2.2.2.2.1) j.Race.jd (bj.mk x.2.2.2.2.2.2.2.2.2.2.2.1 ((j0 j.Race.aI h i d).length) x.2.2.2.2.2.2.2.2.2.2.2.2.1)))),(vI 0)])) (fun (x:(OA)×Nat×(OA)×Nat×(List RA)×(OA)×Nat×(OA)×Nat×(OA)×Nat×(OA)×Nat×(List bZ))=>((km j h i d)=0∧(x.2.2.2.2.1.length=j.Race.au.aG.length∧mU j.Race.au.aG x.2.2.2.2.1)∧ud (j0 j.Race.aI h i d) x.2.2.2.2.2.2.2.2.2.2.2.2.2)) (fun (x:(OA)×Nat×(OA)×Nat×(List RA)×(OA)×Nat×(OA)×Nat×(OA)×Nat×(OA)×Nat×(List bZ))=>[(own x.1 x.2.1 128 9 (j.Race.au.bL.map aD.cells)),(own x.2.2.1 x.2.2.2.1 133 2 (List.zipWith aT.cells j.Race.au.aG x.2.2.2.2.1)),(bQ (bK aT.owns j.Race.au.aG x.2.2.2.2.1)),(own x.2.2.2.2.2.1 x.2.2.2.2.2.2.1 137 4 (j.Race.au.aj.map cO.cells)),(own x.2.2.2.2.2.2.2.1 x.2.2.2.2.2.2.2.2.1 3 1 (j.Race.bu.map iC)),(own x.2.2.2.2.2.2.2.2.2.1 x.2.2.2.2.2.2.2.2.2.2.1 3 1 (j.Race.cN.map iC)),(own x.2.2.2.2.2.2.2.2.2.2.2.1 x.2.2.2.2.2.2.2.2.2.2.2.2.1 75 1 (List.zipWith cL (j0 j.Race.aI h i d) x.2.2.2.2.2.2.2.2.2.2.2.2.2)),(bQ (bK j3 (j0 j.Race.aI h i d) x.2.2.2.2.2.2.2.2.2.2.2.2.2))]):=by
 exact FY (yR j kA kC az cA cC bA bC slA slC drA drC ha heA heC faA faC prA prC h i d sgA sgC hin hsl hng) (fun x q=>q.2 hok)
theorem Ay (j:cw) (kA:OA) (kC:Nat) (az:List RA) (cA:OA) (cC:Nat) (bA:OA) (bC:Nat) (slA:OA) (slC:Nat) (drA:OA) (drC:Nat) (ha:List bZ) (heA:OA) (heC:Nat) (faA:OA) (faC:Nat) (prA:OA) (prC:Nat) (h i:Int) (d:aq) (sgA:OA) (sgC:Nat) (hin:er j az ha) (hsl:d.aV.aa.length≤1000000) (hng: ¬ l3 j) (hok: ¬ (km j h i d)=0):
 dG Tryz.prog 19 [(vA (eY.cells (lJ j kA kC cA cC bA bC slA slC drA drC heA heC faA faC prA prC))),(vI h),(vI i),(vA (aR.cells (aR.mk d.Out d.cD d.Time (g8 d.aV sgA sgC))))] ((pb j kA az cA bA slA drA ha heA faA prA)++[(rd sgA d.aV.aa.length 2 (d.aV.aa.map aH.cells))]) (vT [(vA (ct.cells (ct.mk (bW.mk (bJ.mk (bj.mk none 0 0)) 0 (bj.mk none 0 0) (bj.mk none 0 0) 0 0 0) (bj.mk none 0 0) (bj.mk none 0 0) 0 (bj.mk none 0 0)))),(vI (km j h i d))]):=by
 exact I1 (yR j kA kC az cA cC bA bC slA slC drA drC ha heA heC faA faC prA prC h i d sgA sgC hin hsl hng) (fun x q=>hok q.1) (fun x q=>by obtain ⟨A,_⟩:=q; rw [A])
theorem Aw (j:cw) (kA:OA) (kC:Nat) (az:List RA) (cA:OA) (cC:Nat) (bA:OA) (bC:Nat) (slA:OA) (slC:Nat) (drA:OA) (drC:Nat) (ha:List bZ) (heA:OA) (heC:Nat) (faA:OA) (faC:Nat) (prA:OA) (prC:Nat) (h i:Int) (d:aq) (sgA:OA) (sgC:Nat) (hin:er j az ha) (hsl:d.aV.aa.length≤1000000) (hok: ¬ (km j h i d)=0):
 dG Tryz.prog 18 [(vA (eY.cells (lJ j kA kC cA cC bA bC slA slC drA drC heA heC faA faC prA prC))),(vI h),(vI i),(vA (aR.cells (aR.mk d.Out d.cD d.Time (g8 d.aV sgA sgC))))] ((rd iG 3 2 gI)::((pb j kA az cA bA slA drA ha heA faA prA)++[(rd sgA d.aV.aa.length 2 (d.aV.aa.map aH.cells))])) (vT [(vA (ct.cells (ct.mk (bW.mk (bJ.mk (bj.mk none 0 0)) 0 (bj.mk none 0 0) (bj.mk none 0 0) 0 0 0) (bj.mk none 0 0) (bj.mk none 0 0) 0 (bj.mk none 0 0)))),(vI (km j h i d))]):=by
 exact I1 (xy j kA kC az cA cC bA bC slA slC drA drC ha heA heC faA faC prA prC h i d sgA sgC hin hsl) (fun x q=>hok q.1) (fun x q=>by obtain ⟨A,_⟩:=q; rw [A])
end
end Go.Proofs.YtkaenmjhfajbkaaGreatDoor
