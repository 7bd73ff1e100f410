/-
 The statement juryRules_said, part 9 of 9: Jy5, LineOpen, RaceOpen, JOpen, DesOpen, Rules0.
 Conditions: none.
-/
import Derived.Test.YtkaenmjhfajbkaaGreatDoorTv1
import Derived.Test.YtkaenmjhfajbkaaGreatDoorTv2
import Derived.Test.YtkaenmjhfajbkaaGreatDoorTv3
import Derived.Test.YtkaenmjhfajbkaaGreatDoorTv4
import Derived.Test.YtkaenmjhfajbkaaGreatDoorTv5
import Derived.Test.YtkaenmjhfajbkaaGreatDoorTv6
import Derived.Test.YtkaenmjhfajbkaaGreatDoorTv7
import Derived.Test.YtkaenmjhfajbkaaGreatDoorTv8
import Derived.Test.YtkaenmjhfajbkaaGreatDoorCards
import Derived.Test.YtkaenmjhfajbkaaGreatDoorTie
import Derived.SevenTiedAt
import Derived.LaidMore
import Derived.Stop.Joined
import Derived.Test.YtkaenmjhfajbkaaGreatDoorRows
import Derived.Test.YtkaenmjhfajbkaaGreatDoorProg
import Derived.KernelRfl
namespace Go.Proofs.YtkaenmjhfajbkaaGreatDoor
set_option maxRecDepth 100000
set_option maxHeartbeats 4000000
set_option linter.unusedVariables false
section
open Go.RowKit
theorem CZ (j:cw) (kA:OA) (kC:Nat) (az:List RA) (cA:OA) (cC:Nat) (bA:OA) (bC:Nat) (slA:OA) (slC:Nat) (drA:OA) (drC:Nat) (ha:List bZ) (heA:OA) (heC:Nat) (faA:OA) (faC:Nat) (prA:OA) (prC:Nat) (h i:Int) (d:aq) (sgA:OA) (sgC:Nat) (hraw:uk j az ha) (hdr:d.aV.aa.length≤9223372036854775807):
 dG Tryz.prog 3 [(vA (eY.cells (lJ j kA kC cA cC bA bC slA slC drA drC heA heC faA faC prA prC))),(vI h),(vI i),(vA (aR.cells (aR.mk d.Out d.cD d.Time (g8 d.aV sgA sgC))))] [(rd iG 3 2 gI),(rd kA j.Race.au.bL.length 9 (j.Race.au.bL.map aD.cells)),(rd cA j.Race.au.aG.length 2 (List.zipWith aT.cells j.Race.au.aG az)),(iH (bK aT.jU j.Race.au.aG az)),(rd bA j.Race.au.aj.length 4 (j.Race.au.aj.map cO.cells)),(rd slA j.Race.bu.length 1 (j.Race.bu.map iC)),(rd drA j.Race.cN.length 1 (j.Race.cN.map iC)),(rd heA j.Race.aI.length 1 (List.zipWith cL j.Race.aI ha)),(iH (bK lM j.Race.aI ha)),(rd faA j.aM.length 4 (j.aM.map bg.cells)),(rd prA j.aB.length 5 (j.aB.map bR.cells)),(rd sgA d.aV.aa.length 2 (d.aV.aa.map aH.cells))] (vB true):=by
 refine bG kr Tryz.func3 U U fun w0 Q hQ hN=>?_
 try dsimp only
 refine WS fun _ La=>dV U fun b2=>dV U fun b3=>bp 1 U<|RK La<|ag fun _ Li=>WS fun _ GE=>dY 1 [] (mc 1 U I) U<|rS (CL (Iv j kA kC az cA cC bA bC slA slC drA drC ha heA heC faA faC prA prC hraw) (aY [3,4,5,6,7,8,9,10,11,12]) U)<|rP 1 [] I ?_
 refine bS (t:=30) U (aN fun Z=>?_) (aO fun Z=>?_)
 ·refine bp 6 U<|RK GE<|aL U<|WS fun _ Lk=>rP 1 [] I ?_
  refine RK Lk<|ak<|Q1 hQ U U U ?_
  rfl
 refine rP 6 [] (mc 0 U I) ?_
 refine RK GE<|cb U (aN fun LV=>?_) (aO fun LV=>?_)
 ·refine WS fun _ Lo=>rP 1 [] I ?_
  refine RK Lo<|ak<|Q1 hQ U U U ?_
  rfl
 refine WK Li<|ag fun _ L0=>?_
 have B:=hraw.small Z
 have y:=B.race
 have L2:=B.race.line
 have Qr:=B.race.fE
 have R0:=B.race.has
 have PE:=B.race.fM
 have O4:=B.nf
 have O5:=B.np
 have l:d.aV.aa.length≤1000000:=by omega
 have J2:=HJ (h:=h) (i:=i) (d:=d) (sv Z).1 om
 refine ao<|rP 1 [] (mc 1 U I) ?_
 refine cX (M3 j kA kC az cA cC bA bC slA slC drA drC ha heA heC faA faC prA prC (by exact B) (by exact Z)) (aY [3,4,5,6,7,8,9,10,11,12]) U fun y9 J3=>?_
 obtain ⟨C,J,D,K,AB,E,L,F,M,G,N,H,O,AA,P,R,V,W⟩:=y9
 try dsimp only
 obtain ⟨⟨X,k⟩,Y⟩:=J3
 try dsimp only at X k Y
 have hin2r:=y.Nm X k Y
 have T:er j _ _:=⟨hin2r,B.nf,B.np,B.kind⟩
 have S:=X
 have A:=Y
 refine AL U RF fun PZ=>e7 U QR U<|RK L0<|WS fun _ FS=>rP 1 [] (mc 0 U I) ?_
 refine cX (CX j C J AB D K E L F M G N AA H O P R V W (by exact T)) (eG 13 U U<|aw (ar (n:=j.Race.au.bL.length) 1 U sm)<|aw (ar (n:=j.Race.au.aG.length) 2 U (gO S))<|aw (eO 3 U jT)<|aw (ar (n:=j.Race.au.aj.length) 4 U sm)<|aw (ar (n:=j.Race.bu.length) 5 U sm)<|aw (ar (n:=j.Race.cN.length) 6 U sm)<|aw (ar (n:=j.Race.aI.length) 7 U (dQ A.1))<|aw (jf 8 U A)<|aw (ar (n:=j.aM.length) 9 U sm)<|aw (ar (n:=j.aB.length) 10 U sm)<|aS) U fun M2 PP=>?_
 obtain ⟨K0,K8⟩:=M2
 try dsimp only
 refine bp 5 U<|RK FS<|WS fun _ Fd=>rP 1 [] (mc 13 U I) ?_
 refine cX (GN j kA kC az cA cC bA bC slA slC drA drC ha heA heC faA faC prA prC asm) (aY [15,16,17,18,19,20,21,22,23,24]) U fun NE PV=>?_
 obtain ⟨K4,LA⟩:=NE
 try dsimp only
 refine bp 5 U<|RK Fd<|WS fun _ Fk=>rP 1 [] (mc 2 U I) ?_
 refine cX (GF j C J AB D K E L F M G N AA H O P R V W (by exact T)) (eG 15 U U<|aw (ar (n:=j.Race.au.bL.length) 3 U sm)<|aw (ar (n:=j.Race.au.aG.length) 4 U (gO S))<|aw (eO 5 U jT)<|aw (ar (n:=j.Race.au.aj.length) 6 U sm)<|aw (ar (n:=j.Race.bu.length) 7 U sm)<|aw (ar (n:=j.Race.cN.length) 8 U sm)<|aw (ar (n:=j.Race.aI.length) 9 U (dQ A.1))<|aw (jf 10 U A)<|aw (ar (n:=j.aM.length) 11 U sm)<|aw (ar (n:=j.aB.length) 12 U sm)<|aS) U fun Ne J4=>?_
 obtain ⟨C2,K5,LE⟩:=Ne
 try dsimp only
 have m:=J4
 try dsimp only at m
 have u:=m
 refine bp 5 U<|RK Fk<|WS fun _ Fn=>rP 1 [] (mc 16 U I) ?_
 refine cX (Ex j kA kC az cA cC bA bC slA slC drA drC ha heA heC faA faC prA prC asm) (aY [18,19,20,21,22,23,24,25,26,27]) U fun Op J5=>?_
 obtain ⟨C3,K6,LT⟩:=Op
 try dsimp only
 have m:=J5
 try dsimp only at m
 have v:=m
 refine bp 5 U<|RK Fn<|ag fun _ GT=>WS fun _ Go=>bp 2 U<|rS (CL (EE (iA j) K0 K8 (iA j) K4 LA (by exact sU B) (by exact sU B)) (aw (ar (n:=(iA j).length) 5 U sm)<|aw (ar (n:=(iA j).length) 4 U sm)<|aS) U)<|rP 2 [] I ?_
 refine bS (t:=63) U (aX fun Di=>?_) (aW fun Di=>?_)
 ·exact absurd U Di
 refine rP 5 [] I ?_
 refine bS (t:=68) U (aX fun Do=>?_) (aW fun Do=>?_)
 ·exact absurd U Do
 refine bp 2 U<|rS (CL (Ar (ei j) (ei j) C2 K5 LE C3 K6 LT (by exact yN B) (by exact yN B) (by exact zk) (by exact zk) (by exact u) (by exact v)) (aw (ar (n:=(ei j).length) 2 U (mS u))<|aw (eO 3 U Gc)<|aw (ar (n:=(ei j).length) 0 U (mS v))<|aw (eO 1 U Gc)<|aS) U)<|rP 3 [] I ?_
 refine bS (t:=74) U (aX fun EQ=>?_) (aW fun EQ=>?_)
 ·exact absurd U EQ
 refine rP 4 [] I ?_
 refine RK Go<|cb U (aX fun Eq=>?_) (aW fun Eq=>?_)
 ·exact absurd U Eq
 refine WK GT<|ag fun _ Hi=>P8 [6,7,8,9,10,11,12,13,14,15,16,17,18,19,20,21,22,23,24,25,26,27,28,29,30] U<|ao<|dY 1 [] (mc 0 U I) U<|rS (CL (M9 j C J AB D K E L F M G N AA H O P R V W (by exact T)) (eG 13 U U<|aw (ar (n:=j.Race.au.bL.length) 1 U sm)<|aw (ar (n:=j.Race.au.aG.length) 2 U (gO S))<|aw (eO 3 U jT)<|aw (ar (n:=j.Race.au.aj.length) 4 U sm)<|aw (ar (n:=j.Race.bu.length) 5 U sm)<|aw (ar (n:=j.Race.cN.length) 6 U sm)<|aw (ar (n:=j.Race.aI.length) 7 U (dQ A.1))<|aw (jf 8 U A)<|aw (ar (n:=j.aM.length) 9 U sm)<|aw (ar (n:=j.aB.length) 10 U sm)<|aS) U)<|bp 7 U<|RK Hi<|WS fun _ H1=>dY 1 [] (mc 12 U I) U<|rS (CL (ID j kA kC az cA cC bA bC slA slC drA drC ha heA heC faA faC prA prC asm) (aY [14,15,16,17,18,19,20,21,22,23]) U)<|bp 7 U<|RK H1<|WS fun _ IO=>dY 2 [] (mc 0 U I) U<|rS (CL (Nr j C J AB D K E L F M G N AA H O P R V W i (by exact T)) (eG 13 U U<|aw (ar (n:=j.Race.au.bL.length) 1 U sm)<|aw (ar (n:=j.Race.au.aG.length) 2 U (gO S))<|aw (eO 3 U jT)<|aw (ar (n:=j.Race.au.aj.length) 4 U sm)<|aw (ar (n:=j.Race.bu.length) 5 U sm)<|aw (ar (n:=j.Race.cN.length) 6 U sm)<|aw (ar (n:=j.Race.aI.length) 7 U (dQ A.1))<|aw (jf 8 U A)<|aw (ar (n:=j.aM.length) 9 U sm)<|aw (ar (n:=j.aB.length) 10 U sm)<|aS) U)<|bp 5 U<|RK IO<|WS fun _ IR=>dY 2 [] (mc 12 U I) U<|rS (CL (JM j kA kC az cA cC bA bC slA slC drA drC ha heA heC faA faC prA prC i asm) (aY [14,15,16,17,18,19,20,21,22,23]) U)<|rP 5 [] I ?_
 refine RK IR<|ag fun _ s=>?_
 by_cases p:(km j h i d)=0
 rotate_left 1
 ·try dsimp only
  refine ao<|dY 4 [0,1] (mc 0 U (mc 11 U I)) U<|rS (CL (Aw j C J AB D K E L F M G N AA H O P R V W h i d sgA sgC (by exact T) (by exact l) (by exact p)) (eG 13 U U<|aw (ar (n:=j.Race.au.bL.length) 1 U sm)<|aw (ar (n:=j.Race.au.aG.length) 2 U (gO S))<|aw (eO 3 U jT)<|aw (ar (n:=j.Race.au.aj.length) 4 U sm)<|aw (ar (n:=j.Race.bu.length) 5 U sm)<|aw (ar (n:=j.Race.cN.length) 6 U sm)<|aw (ar (n:=j.Race.aI.length) 7 U (dQ A.1))<|aw (jf 8 U A)<|aw (ar (n:=j.aM.length) 9 U sm)<|aw (ar (n:=j.aB.length) 10 U sm)<|eG 24 U U<|aS) U)<|bp 3 U<|AL U y_ fun P3=>e7 U oZ U<|bp 1 U<|RK s<|WS fun _ In=>dY 4 [0,1] (mc 13 U (mc 12 U I)) U<|rS (CL (Ay j kA kC az cA cC bA bC slA slC drA drC ha heA heC faA faC prA prC h i d sgA sgC (by exact B) (by exact l) (by exact Z) (by exact p)) (aY [15,16,17,18,19,20,21,22,23,24,25]) U)<|bp 3 U<|AL U y_ fun QI=>e7 U oZ U<|bp 1 U<|RK In<|WS fun _ JJ=>rP 4 [] I ?_
  refine cx (t:=122) U (aO fun a=>?_) (aN fun a=>?_)
  ·exact absurd U a
  refine rP 5 [] I ?_
  refine cx (t:=127) U (aO fun b=>?_) (aN fun b=>?_)
  ·exact absurd U b
  refine rP 5 [] I ?_
  refine cx (t:=132) U (aO fun c=>?_) (aN fun c=>?_)
  ·exact absurd U c
  refine rP 5 [] I ?_
  refine cx (t:=137) U (aO fun e=>?_) (aN fun e=>?_)
  ·exact absurd U e
  refine rP 5 [] I ?_
  refine cx (t:=142) U (aO fun f=>?_) (aN fun f=>?_)
  ·exact absurd U f
  refine dY 2 [0,1] (mc 1 U (mc 0 U I)) U<|rS (CL (tR wx none 0 ([]) none 0 none 0 none 0 none 0 ([]) none 0 wx none 0 ([]) none 0 none 0 none 0 none 0 ([]) none 0 (by exact Fa) (by exact Fa) (by exact yh) (by exact yh)) (aw (nq _ _)<|aw (nq _ _)<|aw wT<|aw (nq _ _)<|aw (nq _ _)<|aw (nq _ _)<|aw (nq _ _)<|aw wT<|aw (nq _ _)<|aw (nq _ _)<|aw wT<|aw (nq _ _)<|aw (nq _ _)<|aw (nq _ _)<|aw (nq _ _)<|aw wT<|aS) U)<|rP 2 [] I ?_
  refine cx (t:=147) U (aO fun g=>?_) (aN fun g=>?_)
  ·exact absurd U g
  refine rP 5 [] I ?_
  refine cx (t:=152) U (aO fun q=>?_) (aN fun q=>?_)
  ·exact absurd U q
  refine dY 2 [0,1] (mc 2 U (mc 14 U I)) U<|rS (CL (EZ j C J AB D K E L F M G N AA H O P R V W j kA kC az cA cC bA bC slA slC drA drC ha heA heC faA faC prA prC (by exact T) (by exact B) (by exact Z) (by exact Z)) (aw (ar (n:=j.Race.au.bL.length) 3 U sm)<|aw (ar (n:=j.Race.au.aG.length) 4 U (gO S))<|aw (eO 5 U jT)<|aw (ar (n:=j.Race.au.aj.length) 6 U sm)<|aw (ar (n:=j.Race.bu.length) 7 U sm)<|aw (ar (n:=j.Race.cN.length) 8 U sm)<|aw (ar (n:=j.Race.aI.length) 9 U (dQ A.1))<|aw (jf 10 U A)<|aw (ar (n:=j.aM.length) 11 U sm)<|aw (ar (n:=j.aB.length) 12 U sm)<|eG 16 U U<|eG 17 U U<|eG 18 U U<|eG 19 U U<|eG 20 U U<|eG 21 U U<|eG 22 U U<|eG 23 U U<|eG 24 U U<|eG 25 U U<|aS) U)<|rP 2 [] I ?_
  refine RK JJ<|ak<|Q1 hQ U U U ?_
  exact cB (dC U)
 try dsimp only
 refine ao<|rP 4 [0,1] (mc 0 U (mc 11 U I)) ?_
 refine cX (AR j C J AB D K E L F M G N AA H O P R V W h i d sgA sgC (by exact T) (by exact l) (by exact p)) (eG 13 U U<|aw (ar (n:=j.Race.au.bL.length) 1 U sm)<|aw (ar (n:=j.Race.au.aG.length) 2 U (gO S))<|aw (eO 3 U jT)<|aw (ar (n:=j.Race.au.aj.length) 4 U sm)<|aw (ar (n:=j.Race.bu.length) 5 U sm)<|aw (ar (n:=j.Race.cN.length) 6 U sm)<|aw (ar (n:=j.Race.aI.length) 7 U (dQ A.1))<|aw (jf 8 U A)<|aw (ar (n:=j.aM.length) 9 U sm)<|aw (ar (n:=j.aB.length) 10 U sm)<|eG 24 U U<|aS) U fun Or J6=>?_
 obtain ⟨z,A8,AO,Ba,A6,Ag,B9,A0,Ci,A2,Cp,A4,C0,J8⟩:=Or
 try dsimp only
 obtain ⟨o,⟨X,k⟩,Y⟩:=J6
 try dsimp only at o X k Y
 have Jb:=X
 have w:=Y
 have L3:iL (rn j.Race h i d) _ _:=hin2r.put X k Y l
 refine bp 3 U<|AL U y_ fun Pi=>e7 U oZ U<|bp 1 U<|RK s<|WS fun _ Id=>rP 4 [0,1] (mc 21 U (mc 20 U I)) ?_
 refine cX (AX j kA kC az cA cC bA bC slA slC drA drC ha heA heC faA faC prA prC h i d sgA sgC (by exact B) (by exact l) (by exact Z) (by exact p)) (aY [23,24,25,26,27,28,29,30,31,32,33]) U fun Os J7=>?_
 obtain ⟨AC,A9,AU,B3,A7,Ax,CB,A1,Ck,A3,Cx,A5,C1,J9⟩:=Os
 try dsimp only
 obtain ⟨o,⟨X,k⟩,Y⟩:=J7
 try dsimp only at o X k Y
 have Jk:=X
 have x:=Y
 have Mg:iL (rn j.Race h i d) _ _:=y.put X k Y l
 refine bp 3 U<|AL U y_ fun Pl=>e7 U oZ U<|bp 1 U<|RK Id<|WS fun _ If=>rP 4 [] I ?_
 refine cx (t:=122) U (aO fun a=>?_) (aN fun a=>?_)
 ·exact absurd U a
 refine rP 5 [] I ?_
 refine cx (t:=127) U (aO fun b=>?_) (aN fun b=>?_)
 ·exact absurd U b
 refine rP 5 [] I ?_
 refine cx (t:=132) U (aO fun c=>?_) (aN fun c=>?_)
 ·exact absurd U c
 refine rP 5 [] I ?_
 refine cx (t:=137) U (aO fun e=>?_) (aN fun e=>?_)
 ·exact absurd U e
 refine rP 5 [] I ?_
 refine cx (t:=142) U (aO fun f=>?_) (aN fun f=>?_)
 ·exact absurd U f
 refine rP 2 [0,1] (mc 9 U (mc 0 U I)) ?_
 refine rS (CL (tR (rn j.Race h i d) z A8 A6 AO Ba Ag B9 A0 Ci A2 Cp J8 A4 C0 (rn j.Race h i d) AC A9 A7 AU B3 Ax CB A1 Ck A3 Cx J9 A5 C1 (by exact L3) (by exact Mg) (by exact J2) (by exact J2)) (aw (ar (n:=j.Race.au.bL.length) 10 U (by (rw [List.length_map]; rfl)))<|aw (ar (n:=j.Race.au.aG.length) 11 U (gO Jb))<|aw (eO 12 U jT)<|aw (ar (n:=j.Race.au.aj.length) 13 U (by (rw [List.length_map]; rfl)))<|aw (ar (n:=j.Race.bu.length) 14 U (by (rw [List.length_map]; rfl)))<|aw (ar (n:=j.Race.cN.length) 15 U (by (rw [List.length_map]; rfl)))<|aw (ar (n:=(j0 j.Race.aI h i d).length) 16 U (dQ w.1))<|aw (jf 17 U w)<|aw (ar (n:=j.Race.au.bL.length) 1 U (by (rw [List.length_map]; rfl)))<|aw (ar (n:=j.Race.au.aG.length) 2 U (gO Jk))<|aw (eO 3 U jT)<|aw (ar (n:=j.Race.au.aj.length) 4 U (by (rw [List.length_map]; rfl)))<|aw (ar (n:=j.Race.bu.length) 5 U (by (rw [List.length_map]; rfl)))<|aw (ar (n:=j.Race.cN.length) 6 U (by (rw [List.length_map]; rfl)))<|aw (ar (n:=(j0 j.Race.aI h i d).length) 7 U (dQ x.1))<|aw (jf 8 U x)<|aS) U) ?_
 refine rP 2 [] I ?_
 refine cx (t:=147) U (aO fun g=>?_) (aN fun g=>?_)
 ·exact absurd U g
 refine bp 2 U<|rS (SX (eQ (r:= .bool true) U U U ks) U U)<|dY 4 [0,1] (mc 18 U (mc 30 U I)) U<|rS (CL (EZ j C J AB D K E L F M G N AA H O P R V W j kA kC az cA cC bA bC slA slC drA drC ha heA heC faA faC prA prC (by exact T) (by exact B) (by exact Z) (by exact Z)) (aw (ar (n:=j.Race.au.bL.length) 19 U sm)<|aw (ar (n:=j.Race.au.aG.length) 20 U (gO S))<|aw (eO 21 U jT)<|aw (ar (n:=j.Race.au.aj.length) 22 U sm)<|aw (ar (n:=j.Race.bu.length) 23 U sm)<|aw (ar (n:=j.Race.cN.length) 24 U sm)<|aw (ar (n:=j.Race.aI.length) 25 U (dQ A.1))<|aw (jf 26 U A)<|aw (ar (n:=j.aM.length) 27 U sm)<|aw (ar (n:=j.aB.length) 28 U sm)<|eG 32 U U<|eG 33 U U<|eG 34 U U<|eG 35 U U<|eG 36 U U<|eG 37 U U<|eG 38 U U<|eG 39 U U<|eG 40 U U<|eG 41 U U<|aS) U)<|rP 2 [] I ?_
 refine RK If<|ak<|Q1 hQ U U U ?_
 exact cB (dC U)
end
section
open Go.RowKit
def fD {α:Type} (cells:α→List Value) (sz:Nat) (R:World→α→Prop) (w:World) (s:bj):Prop:= ∃ l:List α,s.n=l.length∧(rd s.a l.length sz (l.map cells)).holds w∧(∀ x∈l,R w x)∧l.length≤maxLen∧s.n≤s.c
theorem wh {w:World} {R:World→cE→Prop}: ∀ {l:List dE},(∀ x∈l,fD cE.cells 3 R w x.bk)→ ∃ (ms:List aT) (az:List RA),l.map dE.cells=List.zipWith aT.cells ms az∧ms.length=l.length∧az.length=l.length∧(∀ X∈bK aT.jU ms az,X.holds w)∧
 (∀ (k:Nat) m (a:RA),ms[k]? =some m→az[k]? =some a→m.bk.length≤a.2∧m.bk.length≤9223372036854775807)∧ms.map (fun m=>m.dA)=l.map (fun x=>x.dA)∧ ∀ (k:Nat) m y,ms[k]? =some m→y∈m.bk→R w y
 |[],_=>⟨[],[],rfl,rfl,rfl,(fun X hX=>by cases hX),(fun k m a h=>by simp at h),rfl,(fun k m y h=>by simp at h)⟩
 |x::l,h=>by
  obtain ⟨ms,az,E,F,G,H,AA,J,K⟩:=wh (fun y hy=>h y (dH _ hy))
  obtain ⟨sy,A,B,C,D,L⟩:=h x sm
  have e4':sy.length≤9223372036854775807:=D
  refine ⟨⟨x.dA,sy⟩::ms,(x.bk.a,x.bk.c)::az,?_,by simp [F],by simp [G],fun X hX=>?_,fun k m a hm ha=>?_,by simp [J],fun k m y hm hy=>?_⟩
  ·obtain ⟨dr,⟨a,n,c⟩⟩:=x
   simp only at A
   subst A
   simp only [List.map_cons,List.zipWith_cons_cons,E]
   rfl
  ·rcases gQ.1 hX with hX|hX
   ·simp only [aT.jU,cH] at hX
    subst hX; exact B
   ·exact H X hX
  ·cases k with
   |zero=>
    simp only [List.getElem?_cons_zero,Option.some.injEq] at hm ha
    subst hm ha
    exact ⟨by simp only; omega,e4'⟩
   |succ k=>exact AA k m a (by simpa using hm) (by simpa using ha)
  ·cases k with
   |zero=>
    simp only [List.getElem?_cons_zero,Option.some.injEq] at hm
    subst hm
    exact C y hy
   |succ k=>exact K k m y (by simpa using hm) hy
theorem GR {w:World} {s:bW} {R1:World→aD→Prop} {R2:World→dE→Prop} {R3:World→cO→Prop} {R4:World→cE→Prop} (h1:fD aD.cells 9 R1 w s.bL.kD) (hs: ∀ x,R1 w x→0≤x.ja∧x.ja≤255) (h2:fD dE.cells 2 R2 w s.aG) (hc: ∀ x,R2 w x→fD cE.cells 3 R4 w x.bk) (h3:fD cO.cells 4 R3 w s.aj):
 ∃ (l:bq) (az:List RA) (kA:OA) (kC:Nat) (cA:OA) (cC:Nat) (bA:OA) (bC:Nat),s=bW.mk (bJ.mk (bj.mk kA l.bL.length kC)) l.gl (bj.mk cA l.aG.length cC) (bj.mk bA l.aj.length bC) l.bU l.ew l.cU∧vc l az∧
  ((rd kA l.bL.length 9 (l.bL.map aD.cells)).holds w∧(rd cA l.aG.length 2 (List.zipWith aT.cells l.aG az)).holds w∧(iH (bK aT.jU l.aG az)).holds w∧(rd bA l.aj.length 4 (l.aj.map cO.cells)).holds w)∧l.gl=s.gl∧l.bU=s.bU∧l.ew=s.ew∧l.cU=s.cU:=by
 obtain ⟨⟨⟨ka,kn,kc⟩⟩,fa,⟨ca,cn,cc⟩,⟨ba,bn,bc⟩,fi,fk,mi⟩:=s
 obtain ⟨ts,E,M,N,O,T⟩:=h1
 obtain ⟨cs,B,C,H,AA,R⟩:=h2
 obtain ⟨bs,A,F,P,G,Q⟩:=h3
 simp only at E B A
 subst E B A
 obtain ⟨ms,az,J,D,S,K,L,_⟩:=wh (fun x hx=>hc x (H x hx))
 have t4':ts.length≤9223372036854775807:=O
 have c4':cs.length≤9223372036854775807:=AA
 have b4':bs.length≤9223372036854775807:=G
 refine ⟨⟨ts,fa,ms,bs,fi,fk,mi⟩,az,ka,kc,ca,cc,ba,bc,by simp only [D],⟨t4',fun x hx=>hs x (N x hx),by simp only; omega,by simp only; omega,b4',L⟩,⟨M,?_,K,F⟩,U,U,U,U⟩
 simp only at C ⊢
 rw [D,← J]; exact C
end
section
open Go.RowKit
theorem yC {w:World} {R:World→aH→Prop}: ∀ {l:List aR},(∀ x∈l,fD aH.cells 2 R w x.aV.aa)→ ∃ (ms:List aq) (az:List RA),l.map aR.cells=List.zipWith aq.cells ms az∧ms.length=l.length∧az.length=l.length∧(∀ X∈bK aq.jU ms az,X.holds w)∧
 ∀ d∈ms,d.aV.aa.length≤9223372036854775807
 |[],_=>⟨[],[],rfl,rfl,rfl,(fun X hX=>by cases hX),fun d h=>by cases h⟩
 |x::l,h=>by
  obtain ⟨ms,az,D,E,F,G,H⟩:=yC (fun y hy=>h y (dH _ hy))
  obtain ⟨sg,A,B,AA,C,J⟩:=h x sm
  have e4':sg.length≤9223372036854775807:=C
  refine ⟨⟨x.Out,x.cD,x.Time,⟨x.aV.Start,x.aV.gL,sg⟩⟩::ms,(x.aV.aa.a,x.aV.aa.c)::az,?_,by simp [E],by simp [F],fun X hX=>?_,fun d hd=>?_⟩
  ·obtain ⟨o,f,t,⟨st,nw,⟨a,n,c⟩⟩⟩:=x
   simp only at A
   subst A
   simp only [List.map_cons,List.zipWith_cons_cons,D]
   rfl
  ·rcases gQ.1 hX with hX|hX
   ·simp only [aq.jU,cH] at hX
    subst hX; exact B
   ·exact G X hX
  ·rcases cm.1 hd with rfl|hd
   ·exact e4'
   ·exact H d hd
theorem xN {w:World} {R2:World→aR→Prop} {R:World→aH→Prop} (hc: ∀ x,R2 w x→fD aH.cells 2 R w x.aV.aa): ∀ {l:List bj},(∀ x∈l,fD aR.cells 7 R2 w x)→ ∃ (ms:List (List aq)) (ha:List bZ),(l.map fun s=>[vS s.a s.n s.c])=List.zipWith cL ms ha∧ms.length=l.length∧ha.length=l.length∧(∀ X∈bK lM ms ha,X.holds w)∧
 ∀ (k:Nat) h (a:bZ),ms[k]? =some h→ha[k]? =some a→h.length≤9223372036854775807∧a.2.length=h.length∧ ∀ d∈h,d.aV.aa.length≤9223372036854775807
 |[],_=>⟨[],[],rfl,rfl,rfl,(fun X hX=>by cases hX),(fun k h a q=>by simp at q)⟩
 |x::l,h=>by
  obtain ⟨ms,ha,J,K,L,M,N⟩:=xN hc (fun y hy=>h y (dH _ hy))
  obtain ⟨ds,C,G,H,AA,P⟩:=h x sm
  obtain ⟨dm,az,D,B,O,E,F⟩:=yC fun y hy=>hc y (H y hy)
  have e4':ds.length≤9223372036854775807:=AA
  refine ⟨dm::ms,((x.a,x.c),az)::ha,?_,by simp [K],by simp [L],fun X hX=>?_,fun k m a hm A=>?_⟩
  ·obtain ⟨a,n,c⟩:=x
   simp only at C
   subst C
   simp only [List.map_cons,List.zipWith_cons_cons,J,cL,B]
  ·rcases gQ.1 hX with hX|hX
   ·unfold lM at hX
    rcases cm.1 hX with rfl|hX
    ·simp only
     rw [B,← D]; exact G
    ·exact E X hX
   ·exact M X hX
  ·cases k with
   |zero=>
    simp only [List.getElem?_cons_zero,Option.some.injEq] at hm A
    subst hm A
    exact ⟨om,by simp only; omega,F⟩
   |succ k=>exact N k m a (by simpa using hm) (by simpa using A)
theorem Hk {w:World} {s:ct} {R1:World→aD→Prop} {R2:World→dE→Prop} {R3:World→cO→Prop} {R4:World→cE→Prop} {R5:World→Int→Prop} {R6:World→bj→Prop} {R7:World→aR→Prop} {R8:World→aH→Prop}
 (h1:fD aD.cells 9 R1 w s.au.bL.kD) (hs: ∀ x,R1 w x→0≤x.ja∧x.ja≤255) (h2:fD dE.cells 2 R2 w s.au.aG) (hc: ∀ x,R2 w x→fD cE.cells 3 R4 w x.bk) (h3:fD cO.cells 4 R3 w s.au.aj)
 (h4:fD iC 1 R5 w s.bu) (h5:fD iC 1 R5 w s.cN) (h6:fD (fun s=>[vS s.a s.n s.c]) 1 R6 w s.aI) (h7: ∀ x,R6 w x→fD aR.cells 7 R7 w x) (h8: ∀ x,R7 w x→fD aH.cells 2 R8 w x.aV.aa):
 ∃ (r:eU) (az:List RA) (ha:List bZ) (kA:OA) (kC:Nat) (cA:OA) (cC:Nat) (bA:OA) (bC:Nat) (slA:OA) (slC:Nat) (drA:OA) (drC:Nat) (heA:OA) (heC:Nat),
  s=ct.mk (bW.mk (bJ.mk (bj.mk kA r.au.bL.length kC)) r.au.gl (bj.mk cA r.au.aG.length cC) (bj.mk bA r.au.aj.length bC) r.au.bU r.au.ew r.au.cU) (bj.mk slA r.bu.length slC) (bj.mk drA r.cN.length drC) r.jd (bj.mk heA r.aI.length heC)∧uB r az ha∧
  ((rd kA r.au.bL.length 9 (r.au.bL.map aD.cells)).holds w∧(rd cA r.au.aG.length 2 (List.zipWith aT.cells r.au.aG az)).holds w∧(iH (bK aT.jU r.au.aG az)).holds w∧(rd bA r.au.aj.length 4 (r.au.aj.map cO.cells)).holds w∧
   (rd slA r.bu.length 1 (r.bu.map iC)).holds w∧(rd drA r.cN.length 1 (r.cN.map iC)).holds w∧(rd heA r.aI.length 1 (List.zipWith cL r.aI ha)).holds w∧(iH (bK lM r.aI ha)).holds w):=by
 obtain ⟨ln,⟨sa,sn,sc⟩,⟨da,dn,dc⟩,tu,⟨ea,en,ec⟩⟩:=s
 obtain ⟨l,az,kA,kC,cA,cC,bA,bC,e,A,hh,_⟩:=GR (s:=ln) h1 hs h2 hc h3
 subst e
 obtain ⟨sl,F,N,T,O,AA⟩:=h4
 obtain ⟨dr,B,G,P,H,Q⟩:=h5
 obtain ⟨he,D,E,L,M,S⟩:=h6
 obtain ⟨ms,ha,AB,C,R,J,K⟩:=xN h8 (fun x hx=>h7 x (L x hx))
 simp only at F B D
 subst F B D
 have s4':sl.length≤9223372036854775807:=O
 have d4':dr.length≤9223372036854775807:=H
 have q4':he.length≤9223372036854775807:=M
 refine ⟨⟨l,sl,dr,tu,ms⟩,az,ha,kA,kC,cA,cC,bA,bC,sa,sc,da,dc,ea,ec,by simp only [C],⟨A,s4',d4',by simp only; omega,by simp only; omega,K⟩,hh.1,hh.2.1,hh.2.2.1,hh.2.2.2,N,G,?_,J⟩
 simp only at E ⊢
 rw [C,← AB]; exact E
end
section
open Go.RowKit
theorem HL {w:World} {s:eY} {R1:World→aD→Prop} {R2:World→dE→Prop} {R3:World→cO→Prop} {R4:World→cE→Prop} {R5:World→Int→Prop} {R6:World→bj→Prop} {R7:World→aR→Prop} {R8:World→aH→Prop} {R9:World→bg→Prop} {R10:World→bR→Prop}
 (h1:fD aD.cells 9 R1 w s.Race.au.bL.kD) (hs: ∀ x,R1 w x→0≤x.ja∧x.ja≤255) (h2:fD dE.cells 2 R2 w s.Race.au.aG) (hc: ∀ x,R2 w x→fD cE.cells 3 R4 w x.bk) (h3:fD cO.cells 4 R3 w s.Race.au.aj)
 (h4:fD iC 1 R5 w s.Race.bu) (h5:fD iC 1 R5 w s.Race.cN) (h6:fD (fun s=>[vS s.a s.n s.c]) 1 R6 w s.Race.aI) (h7: ∀ x,R6 w x→fD aR.cells 7 R7 w x) (h8: ∀ x,R7 w x→fD aH.cells 2 R8 w x.aV.aa)
 (h9:fD bg.cells 4 R9 w s.aM) (hk: ∀ x,R9 w x→0≤x.Kind∧x.Kind≤255) (h10:fD bR.cells 5 R10 w s.aB):
 ∃ (j:cw) (az:List RA) (ha:List bZ) (kA:OA) (kC:Nat) (cA:OA) (cC:Nat) (bA:OA) (bC:Nat) (slA:OA) (slC:Nat) (drA:OA) (drC:Nat) (heA:OA) (heC:Nat) (faA:OA) (faC:Nat) (prA:OA) (prC:Nat),
  s=eY.mk (ct.mk (bW.mk (bJ.mk (bj.mk kA j.Race.au.bL.length kC)) j.Race.au.gl (bj.mk cA j.Race.au.aG.length cC) (bj.mk bA j.Race.au.aj.length bC) j.Race.au.bU j.Race.au.ew j.Race.au.cU) (bj.mk slA j.Race.bu.length slC) (bj.mk drA j.Race.cN.length drC) j.Race.jd (bj.mk heA j.Race.aI.length heC)) (bj.mk faA j.aM.length faC) (bj.mk prA j.aB.length prC) j.gu j.kU∧uk j az ha∧
  ((rd kA j.Race.au.bL.length 9 (j.Race.au.bL.map aD.cells)).holds w∧(rd cA j.Race.au.aG.length 2 (List.zipWith aT.cells j.Race.au.aG az)).holds w∧(iH (bK aT.jU j.Race.au.aG az)).holds w∧(rd bA j.Race.au.aj.length 4 (j.Race.au.aj.map cO.cells)).holds w∧
   (rd slA j.Race.bu.length 1 (j.Race.bu.map iC)).holds w∧(rd drA j.Race.cN.length 1 (j.Race.cN.map iC)).holds w∧(rd heA j.Race.aI.length 1 (List.zipWith cL j.Race.aI ha)).holds w∧(iH (bK lM j.Race.aI ha)).holds w∧
   (rd faA j.aM.length 4 (j.aM.map bg.cells)).holds w∧(rd prA j.aB.length 5 (j.aB.map bR.cells)).holds w):=by
 obtain ⟨rc,⟨fa,fn,fc⟩,⟨pa,pn,pc⟩,mi,fe⟩:=s
 obtain ⟨r,az,ha,kA,kC,cA,cC,bA,bC,slA,slC,drA,drC,heA,heC,e,A,hm⟩:=Hk (s:=rc) h1 hs h2 hc h3 h4 h5 h6 h7 h8
 subst e
 obtain ⟨fl,B,D,E,F,AA⟩:=h9
 obtain ⟨pr,C,G,J,H,K⟩:=h10
 simp only at B C
 subst B C
 have f4':fl.length≤9223372036854775807:=F
 have p4':pr.length≤9223372036854775807:=H
 exact ⟨⟨r,fl,pr,mi,fe⟩,az,ha,kA,kC,cA,cC,bA,bC,slA,slC,drA,drC,heA,heC,fa,fc,pa,pc,U,⟨A,f4',p4',fun f hf=>hk f (E f hf)⟩,hm.1,hm.2.1,hm.2.2.1,hm.2.2.2.1,hm.2.2.2.2.1,hm.2.2.2.2.2.1,hm.2.2.2.2.2.2.1,hm.2.2.2.2.2.2.2,D,G⟩
end
section
open Go.RowKit
theorem GK {w:World} {s:aR} {R:World→aH→Prop} (h:fD aH.cells 2 R w s.aV.aa):
 ∃ (d:aq) (gA:OA) (gC:Nat),s=aR.mk d.Out d.cD d.Time (g8 d.aV gA gC)∧d.aV.aa.length≤9223372036854775807∧(rd gA d.aV.aa.length 2 (d.aV.aa.map aH.cells)).holds w:=by
 obtain ⟨o,f,t,⟨st,nw,⟨a,n,c⟩⟩⟩:=s
 obtain ⟨l,A,B,D,C,E⟩:=h
 simp only at A
 subst A
 exact ⟨⟨o,f,t,⟨st,nw,l⟩⟩,a,c,U,C,B⟩
end
section
open Go.ChangeShapes Go.WideShapes Go.ChangeAt Go.RowKit
theorem Vc:Tryz.prog.cellsOf 36=15:=by kernel_rfl
theorem RI:Tryz.prog.cellsOf 32=11:=by kernel_rfl
theorem Q4:Tryz.prog.cellsOf 28=7:=by kernel_rfl
theorem S9:Tryz.prog.cellsOf 24=1:=by kernel_rfl
theorem U6:Tryz.prog.cellsOf 22=1:=by kernel_rfl
theorem NY:Tryz.prog.cellsOf 128=9:=by kernel_rfl
theorem vi:Tryz.prog.cellsOf 3=1:=by kernel_rfl
def tW (w:World) (n:Int):Prop:=rR n
theorem vj:rU Tryz.prog 3 Int iC tW:=PD oV
theorem Du:Tryz.prog.cellsOf 38=2:=by kernel_rfl
structure D0 (w:World) (s:ai):Prop where
 Lo:tW w s.Lo
 Hi:tW w s.Hi
theorem Uu:fL Tryz.prog 38=some [(3,0),(3,1)]:=by kernel_rfl
theorem G3:rU Tryz.prog 38 ai ai.cells D0:=fun {H} enc w base sp A fuel cs x h=>by
 obtain ⟨hl,hp⟩:=iX Uu h
 obtain ⟨M,O,F⟩:=hp 0 3 0 rfl
 obtain ⟨K,B,AA⟩:=vj _ _ _ _ _ _ _ _ F
 obtain ⟨N,P,G⟩:=hp 1 3 1 rfl
 obtain ⟨L,C,J⟩:=vj _ _ _ _ _ _ _ _ G
 refine ⟨⟨K,L⟩,?_,⟨AA,J⟩⟩
 have E:=gG (hl.trans Du) (by rw [vi]) C
 have D:=cJ B (m:=1) (by rw [vi]) E
 exact D
theorem Vr:Tryz.prog.cellsOf 5=1:=by kernel_rfl
def Vf (w:World) (n:Int):Prop:=0≤n∧n≤255
theorem Vq:rU Tryz.prog 5 Int Jg Vf:=Sq N8
structure Jy (w:World) (s:aD):Prop where
 Id:tW w s.Id
 jR:D0 w s.jR
 kQ:D0 w s.kQ
 ej:D0 w s.ej
 ja:Vf w s.ja
 xe:tW w s.xe
theorem TD:fL Tryz.prog 128=some [(3,0),(38,1),(38,3),(38,5),(5,7),(3,8)]:=by kernel_rfl
theorem SQ:rU Tryz.prog 128 aD aD.cells Jy:=fun {H} enc w base sp A fuel cs x h=>by
 obtain ⟨hl,hp⟩:=iX TD h
 obtain ⟨g,o,O⟩:=hp 0 3 0 rfl
 obtain ⟨a,B,AA⟩:=vj _ _ _ _ _ _ _ _ O
 obtain ⟨i,p,P⟩:=hp 1 38 1 rfl
 obtain ⟨b,C,V⟩:=G3 _ _ _ _ _ _ _ _ P
 obtain ⟨j,q,Q⟩:=hp 2 38 3 rfl
 obtain ⟨c,D,W⟩:=G3 _ _ _ _ _ _ _ _ Q
 obtain ⟨k,r,R⟩:=hp 3 38 5 rfl
 obtain ⟨d,E,X⟩:=G3 _ _ _ _ _ _ _ _ R
 obtain ⟨l,s,S⟩:=hp 4 5 7 rfl
 obtain ⟨e,F,Y⟩:=Vq _ _ _ _ _ _ _ _ S
 obtain ⟨n,t,T⟩:=hp 5 3 8 rfl
 obtain ⟨f,G,Z⟩:=vj _ _ _ _ _ _ _ _ T
 refine ⟨⟨a,b,c,d,e,f⟩,?_,⟨AA,V,W,X,Y,Z⟩⟩
 have N:=gG (hl.trans NY) (by rw [vi]) G
 have M:=cJ F (m:=8) (by rw [Vr]) N
 have L:=cJ E (m:=7) (by rw [Du]) M
 have K:=cJ D (m:=5) (by rw [Du]) L
 have J:=cJ C (m:=3) (by rw [Du]) K
 have AB:=cJ B (m:=1) (by rw [vi]) J
 exact AB
def So (w:World) (s:bj):Prop:= ∃ l:List aD,s.n=l.length∧(rd s.a l.length 9 (l.map aD.cells)).holds w∧(∀ x∈l,Jy w x)∧l.length≤maxLen∧s.n≤s.c
theorem UR:rU Tryz.prog 22 bj (fun s=>[vS s.a s.n s.c]) So:=kW QE NY SQ
structure RU (w:World) (s:bJ):Prop where
 kD:So w s.kD
theorem U9:fL Tryz.prog 24=some [(22,0)]:=by kernel_rfl
theorem UF:rU Tryz.prog 24 bJ bJ.cells RU:=fun {H} enc w base sp A fuel cs x h=>by
 obtain ⟨hl,hp⟩:=iX U9 h
 obtain ⟨G,AA,D⟩:=hp 0 22 0 rfl
 obtain ⟨F,B,E⟩:=UR _ _ _ _ _ _ _ _ D
 refine ⟨⟨F⟩,?_,⟨E⟩⟩
 have C:=gG (hl.trans S9) (by rw [U6]) B
 exact C
theorem Up:Tryz.prog.cellsOf 25=1:=by kernel_rfl
theorem Oz:Tryz.prog.cellsOf 133=2:=by kernel_rfl
theorem R_:Tryz.prog.cellsOf 131=1:=by kernel_rfl
theorem On:Tryz.prog.cellsOf 130=3:=by kernel_rfl
structure IH (w:World) (s:cE):Prop where
 At:tW w s.At
 d_:D0 w s.d_
theorem Sc:fL Tryz.prog 130=some [(3,0),(38,1)]:=by kernel_rfl
theorem S_:rU Tryz.prog 130 cE cE.cells IH:=fun {H} enc w base sp A fuel cs x h=>by
 obtain ⟨hl,hp⟩:=iX Sc h
 obtain ⟨M,O,F⟩:=hp 0 3 0 rfl
 obtain ⟨K,B,AA⟩:=vj _ _ _ _ _ _ _ _ F
 obtain ⟨N,P,G⟩:=hp 1 38 1 rfl
 obtain ⟨L,C,J⟩:=G3 _ _ _ _ _ _ _ _ G
 refine ⟨⟨K,L⟩,?_,⟨AA,J⟩⟩
 have E:=gG (hl.trans On) (by rw [Du]) C
 have D:=cJ B (m:=1) (by rw [vi]) E
 exact D
def OF (w:World) (s:bj):Prop:= ∃ l:List cE,s.n=l.length∧(rd s.a l.length 3 (l.map cE.cells)).holds w∧(∀ x∈l,IH w x)∧l.length≤maxLen∧s.n≤s.c
theorem Su:rU Tryz.prog 131 bj (fun s=>[vS s.a s.n s.c]) OF:=kW Ot On S_
structure IJ (w:World) (s:dE):Prop where
 dA:tW w s.dA
 bk:OF w s.bk
theorem SW:fL Tryz.prog 133=some [(3,0),(131,1)]:=by kernel_rfl
theorem QP:rU Tryz.prog 133 dE dE.cells IJ:=fun {H} enc w base sp A fuel cs x h=>by
 obtain ⟨hl,hp⟩:=iX SW h
 obtain ⟨M,O,F⟩:=hp 0 3 0 rfl
 obtain ⟨K,B,AA⟩:=vj _ _ _ _ _ _ _ _ F
 obtain ⟨N,P,G⟩:=hp 1 131 1 rfl
 obtain ⟨L,C,J⟩:=Su _ _ _ _ _ _ _ _ G
 refine ⟨⟨K,L⟩,?_,⟨AA,J⟩⟩
 have E:=gG (hl.trans Oz) (by rw [R_]) C
 have D:=cJ B (m:=1) (by rw [vi]) E
 exact D
def QX (w:World) (s:bj):Prop:= ∃ l:List dE,s.n=l.length∧(rd s.a l.length 2 (l.map dE.cells)).holds w∧(∀ x∈l,IJ w x)∧l.length≤maxLen∧s.n≤s.c
theorem Ud:rU Tryz.prog 25 bj (fun s=>[vS s.a s.n s.c]) QX:=kW Ta Oz QP
theorem Uw:Tryz.prog.cellsOf 26=1:=by kernel_rfl
theorem Ox:Tryz.prog.cellsOf 137=4:=by kernel_rfl
theorem OH:Tryz.prog.cellsOf 135=3:=by kernel_rfl
structure Ok (w:World) (s:dg):Prop where
 bw:tW w s.bw
 l9:D0 w s.l9
theorem Ra:fL Tryz.prog 135=some [(3,0),(38,1)]:=by kernel_rfl
theorem SF:rU Tryz.prog 135 dg dg.cells Ok:=fun {H} enc w base sp A fuel cs x h=>by
 obtain ⟨hl,hp⟩:=iX Ra h
 obtain ⟨M,O,F⟩:=hp 0 3 0 rfl
 obtain ⟨K,B,AA⟩:=vj _ _ _ _ _ _ _ _ F
 obtain ⟨N,P,G⟩:=hp 1 38 1 rfl
 obtain ⟨L,C,J⟩:=G3 _ _ _ _ _ _ _ _ G
 refine ⟨⟨K,L⟩,?_,⟨AA,J⟩⟩
 have E:=gG (hl.trans OH) (by rw [Du]) C
 have D:=cJ B (m:=1) (by rw [vi]) E
 exact D
structure Ks (w:World) (s:cO):Prop where
 lg:Ok w s.lg
 jS:tW w s.jS
theorem RQ:fL Tryz.prog 137=some [(135,0),(3,3)]:=by kernel_rfl
theorem Rw:rU Tryz.prog 137 cO cO.cells Ks:=fun {H} enc w base sp A fuel cs x h=>by
 obtain ⟨hl,hp⟩:=iX RQ h
 obtain ⟨M,O,F⟩:=hp 0 135 0 rfl
 obtain ⟨K,B,AA⟩:=SF _ _ _ _ _ _ _ _ F
 obtain ⟨N,P,G⟩:=hp 1 3 3 rfl
 obtain ⟨L,C,J⟩:=vj _ _ _ _ _ _ _ _ G
 refine ⟨⟨K,L⟩,?_,⟨AA,J⟩⟩
 have E:=gG (hl.trans Ox) (by rw [vi]) C
 have D:=cJ B (m:=3) (by rw [OH]) E
 exact D
def Q7 (w:World) (s:bj):Prop:= ∃ l:List cO,s.n=l.length∧(rd s.a l.length 4 (l.map cO.cells)).holds w∧(∀ x∈l,Ks w x)∧l.length≤maxLen∧s.n≤s.c
theorem Uf:rU Tryz.prog 26 bj (fun s=>[vS s.a s.n s.c]) Q7:=kW NK Ox Rw
structure Rb (w:World) (s:bW):Prop where
 bL:RU w s.bL
 gl:tW w s.gl
 aG:QX w s.aG
 aj:Q7 w s.aj
 bU:tW w s.bU
 ew:tW w s.ew
 cU:tW w s.cU
theorem UG:fL Tryz.prog 28=some [(24,0),(3,1),(25,2),(26,3),(3,4),(3,5),(3,6)]:=by kernel_rfl
theorem UY:rU Tryz.prog 28 bW bW.cells Rb:=fun {H} enc w base sp A fuel cs x h=>by
 obtain ⟨hl,hp⟩:=iX UG h
 obtain ⟨n,u,Q⟩:=hp 0 24 0 rfl
 obtain ⟨e,B,X⟩:=UF _ _ _ _ _ _ _ _ Q
 obtain ⟨o,v,R⟩:=hp 1 3 1 rfl
 obtain ⟨f,C,Y⟩:=vj _ _ _ _ _ _ _ _ R
 obtain ⟨p,y,S⟩:=hp 2 25 2 rfl
 obtain ⟨g,D,Z⟩:=Ud _ _ _ _ _ _ _ _ S
 obtain ⟨q,z,T⟩:=hp 3 26 3 rfl
 obtain ⟨i,E,a⟩:=Uf _ _ _ _ _ _ _ _ T
 obtain ⟨r,y4,AA⟩:=hp 4 3 4 rfl
 obtain ⟨j,F,b⟩:=vj _ _ _ _ _ _ _ _ AA
 obtain ⟨s,y5,V⟩:=hp 5 3 5 rfl
 obtain ⟨k,G,c⟩:=vj _ _ _ _ _ _ _ _ V
 obtain ⟨t,y6,W⟩:=hp 6 3 6 rfl
 obtain ⟨l,AB,d⟩:=vj _ _ _ _ _ _ _ _ W
 refine ⟨⟨e,f,g,i,j,k,l⟩,?_,⟨X,Y,Z,a,b,c,d⟩⟩
 have P:=gG (hl.trans Q4) (by rw [vi]) AB
 have O:=cJ G (m:=6) (by rw [vi]) P
 have N:=cJ F (m:=5) (by rw [vi]) O
 have M:=cJ E (m:=4) (by rw [Uw]) N
 have L:=cJ D (m:=3) (by rw [Up]) M
 have K:=cJ C (m:=2) (by rw [vi]) L
 have J:=cJ B (m:=1) (by rw [S9]) K
 exact J
theorem QS:Tryz.prog.cellsOf 29=1:=by kernel_rfl
def PW (w:World) (s:bj):Prop:= ∃ l:List Int,s.n=l.length∧(rd s.a l.length 1 (l.map iC)).holds w∧(∀ x∈l,tW w x)∧l.length≤maxLen∧s.n≤s.c
theorem SU:rU Tryz.prog 29 bj (fun s=>[vS s.a s.n s.c]) PW:=kW Tf vi vj
theorem U_:Tryz.prog.cellsOf 30=1:=by kernel_rfl
theorem Vk:Tryz.prog.cellsOf 75=1:=by kernel_rfl
theorem QY:Tryz.prog.cellsOf 43=7:=by kernel_rfl
theorem Vm:Tryz.prog.cellsOf 4=1:=by kernel_rfl
def UE (w:World) (n:Bool):Prop:=True
theorem Vo:rU Tryz.prog 4 Bool (fun b=>[vB b]) UE:=Nx TO
theorem Tz:Tryz.prog.cellsOf 41=3:=by kernel_rfl
theorem U4:Tryz.prog.cellsOf 39=1:=by kernel_rfl
theorem N7:Tryz.prog.cellsOf 113=2:=by kernel_rfl
structure FT (w:World) (s:aH):Prop where
 fI:tW w s.fI
 Read:tW w s.Read
theorem S3:fL Tryz.prog 113=some [(3,0),(3,1)]:=by kernel_rfl
theorem Rt:rU Tryz.prog 113 aH aH.cells FT:=fun {H} enc w base sp A fuel cs x h=>by
 obtain ⟨hl,hp⟩:=iX S3 h
 obtain ⟨M,O,F⟩:=hp 0 3 0 rfl
 obtain ⟨K,B,AA⟩:=vj _ _ _ _ _ _ _ _ F
 obtain ⟨N,P,G⟩:=hp 1 3 1 rfl
 obtain ⟨L,C,J⟩:=vj _ _ _ _ _ _ _ _ G
 refine ⟨⟨K,L⟩,?_,⟨AA,J⟩⟩
 have E:=gG (hl.trans N7) (by rw [vi]) C
 have D:=cJ B (m:=1) (by rw [vi]) E
 exact D
def SV (w:World) (s:bj):Prop:= ∃ l:List aH,s.n=l.length∧(rd s.a l.length 2 (l.map aH.cells)).holds w∧(∀ x∈l,FT w x)∧l.length≤maxLen∧s.n≤s.c
theorem TU:rU Tryz.prog 39 bj (fun s=>[vS s.a s.n s.c]) SV:=kW Tg N7 Rt
structure RH (w:World) (s:de):Prop where
 Start:tW w s.Start
 gL:tW w s.gL
 aa:SV w s.aa
theorem Ua:fL Tryz.prog 41=some [(3,0),(3,1),(39,2)]:=by kernel_rfl
theorem US:rU Tryz.prog 41 de de.cells RH:=fun {H} enc w base sp A fuel cs x h=>by
 obtain ⟨hl,hp⟩:=iX Ua h
 obtain ⟨R,AA,AB⟩:=hp 0 3 0 rfl
 obtain ⟨O,B,L⟩:=vj _ _ _ _ _ _ _ _ AB
 obtain ⟨S,V,J⟩:=hp 1 3 1 rfl
 obtain ⟨P,C,M⟩:=vj _ _ _ _ _ _ _ _ J
 obtain ⟨T,W,K⟩:=hp 2 39 2 rfl
 obtain ⟨Q,D,N⟩:=TU _ _ _ _ _ _ _ _ K
 refine ⟨⟨O,P,Q⟩,?_,⟨L,M,N⟩⟩
 have G:=gG (hl.trans Tz) (by rw [U4]) D
 have F:=cJ C (m:=2) (by rw [vi]) G
 have E:=cJ B (m:=1) (by rw [vi]) F
 exact E
structure Pv (w:World) (s:aR):Prop where
 Out:UE w s.Out
 cD:UE w s.cD
 Time:D0 w s.Time
 aV:RH w s.aV
theorem Te:fL Tryz.prog 43=some [(4,0),(4,1),(38,2),(41,4)]:=by kernel_rfl
theorem RM:rU Tryz.prog 43 aR aR.cells Pv:=fun {H} enc w base sp A fuel cs x h=>by
 obtain ⟨hl,hp⟩:=iX Te h
 obtain ⟨W,a,K⟩:=hp 0 4 0 rfl
 obtain ⟨S,B,O⟩:=Vo _ _ _ _ _ _ _ _ K
 obtain ⟨X,b,L⟩:=hp 1 4 1 rfl
 obtain ⟨T,C,P⟩:=Vo _ _ _ _ _ _ _ _ L
 obtain ⟨Y,c,M⟩:=hp 2 38 2 rfl
 obtain ⟨AA,D,Q⟩:=G3 _ _ _ _ _ _ _ _ M
 obtain ⟨Z,d,N⟩:=hp 3 41 4 rfl
 obtain ⟨V,E,R⟩:=US _ _ _ _ _ _ _ _ N
 refine ⟨⟨S,T,AA,V⟩,?_,⟨O,P,Q,R⟩⟩
 have J:=gG (hl.trans QY) (by rw [Tz]) E
 have AB:=cJ D (m:=4) (by rw [Du]) J
 have G:=cJ C (m:=2) (by rw [Vm]) AB
 have F:=cJ B (m:=1) (by rw [Vm]) G
 exact F
def OY (w:World) (s:bj):Prop:= ∃ l:List aR,s.n=l.length∧(rd s.a l.length 7 (l.map aR.cells)).holds w∧(∀ x∈l,Pv w x)∧l.length≤maxLen∧s.n≤s.c
theorem UO:rU Tryz.prog 75 bj (fun s=>[vS s.a s.n s.c]) OY:=kW Sp QY RM
def SY (w:World) (s:bj):Prop:= ∃ l:List bj,s.n=l.length∧(rd s.a l.length 1 (l.map (fun s=>[vS s.a s.n s.c]))).holds w∧(∀ x∈l,OY w x)∧l.length≤maxLen∧s.n≤s.c
theorem UH:rU Tryz.prog 30 bj (fun s=>[vS s.a s.n s.c]) SY:=kW RP Vk UO
structure Q0 (w:World) (s:ct):Prop where
 au:Rb w s.au
 bu:PW w s.bu
 cN:PW w s.cN
 jd:tW w s.jd
 aI:SY w s.aI
theorem UP:fL Tryz.prog 32=some [(28,0),(29,7),(29,8),(3,9),(30,10)]:=by kernel_rfl
theorem Um:rU Tryz.prog 32 ct ct.cells Q0:=fun {H} enc w base sp A fuel cs x h=>by
 obtain ⟨hl,hp⟩:=iX UP h
 obtain ⟨b,g,M⟩:=hp 0 28 0 rfl
 obtain ⟨W,B,R⟩:=UY _ _ _ _ _ _ _ _ M
 obtain ⟨c,i,N⟩:=hp 1 29 7 rfl
 obtain ⟨X,C,S⟩:=SU _ _ _ _ _ _ _ _ N
 obtain ⟨d,j,O⟩:=hp 2 29 8 rfl
 obtain ⟨Y,D,T⟩:=SU _ _ _ _ _ _ _ _ O
 obtain ⟨e,k,P⟩:=hp 3 3 9 rfl
 obtain ⟨Z,E,AA⟩:=vj _ _ _ _ _ _ _ _ P
 obtain ⟨f,l,Q⟩:=hp 4 30 10 rfl
 obtain ⟨a,F,V⟩:=UH _ _ _ _ _ _ _ _ Q
 refine ⟨⟨W,X,Y,Z,a⟩,?_,⟨R,S,T,AA,V⟩⟩
 have L:=gG (hl.trans RI) (by rw [U_]) F
 have K:=cJ E (m:=10) (by rw [vi]) L
 have J:=cJ D (m:=9) (by rw [QS]) K
 have AB:=cJ C (m:=8) (by rw [QS]) J
 have G:=cJ B (m:=7) (by rw [Q4]) AB
 exact G
theorem TX:Tryz.prog.cellsOf 33=1:=by kernel_rfl
theorem QN:Tryz.prog.cellsOf 86=4:=by kernel_rfl
structure Qi (w:World) (s:bg):Prop where
 Kind:Vf w s.Kind
 hE:tW w s.hE
 mz:tW w s.mz
 To:tW w s.To
theorem Uk:fL Tryz.prog 86=some [(5,0),(3,1),(3,2),(3,3)]:=by kernel_rfl
theorem Vj:rU Tryz.prog 86 bg bg.cells Qi:=fun {H} enc w base sp A fuel cs x h=>by
 obtain ⟨hl,hp⟩:=iX Uk h
 obtain ⟨W,a,K⟩:=hp 0 5 0 rfl
 obtain ⟨S,B,O⟩:=Vq _ _ _ _ _ _ _ _ K
 obtain ⟨X,b,L⟩:=hp 1 3 1 rfl
 obtain ⟨T,C,P⟩:=vj _ _ _ _ _ _ _ _ L
 obtain ⟨Y,c,M⟩:=hp 2 3 2 rfl
 obtain ⟨AA,D,Q⟩:=vj _ _ _ _ _ _ _ _ M
 obtain ⟨Z,d,N⟩:=hp 3 3 3 rfl
 obtain ⟨V,E,R⟩:=vj _ _ _ _ _ _ _ _ N
 refine ⟨⟨S,T,AA,V⟩,?_,⟨O,P,Q,R⟩⟩
 have J:=gG (hl.trans QN) (by rw [vi]) E
 have AB:=cJ D (m:=3) (by rw [vi]) J
 have G:=cJ C (m:=2) (by rw [vi]) AB
 have F:=cJ B (m:=1) (by rw [Vr]) G
 exact F
def RV (w:World) (s:bj):Prop:= ∃ l:List bg,s.n=l.length∧(rd s.a l.length 4 (l.map bg.cells)).holds w∧(∀ x∈l,Qi w x)∧l.length≤maxLen∧s.n≤s.c
theorem Uz:rU Tryz.prog 33 bj (fun s=>[vS s.a s.n s.c]) RV:=kW UQ QN Vj
theorem U7:Tryz.prog.cellsOf 34=1:=by kernel_rfl
theorem Od:Tryz.prog.cellsOf 102=5:=by kernel_rfl
structure Iq (w:World) (s:bR):Prop where
 Id:tW w s.Id
 gH:tW w s.gH
 ib:tW w s.ib
 gh:tW w s.gh
 At:tW w s.At
theorem Tt:fL Tryz.prog 102=some [(3,0),(3,1),(3,2),(3,3),(3,4)]:=by kernel_rfl
theorem Sy:rU Tryz.prog 102 bR bR.cells Iq:=fun {H} enc w base sp A fuel cs x h=>by
 obtain ⟨hl,hp⟩:=iX Tt h
 obtain ⟨b,g,M⟩:=hp 0 3 0 rfl
 obtain ⟨W,B,R⟩:=vj _ _ _ _ _ _ _ _ M
 obtain ⟨c,i,N⟩:=hp 1 3 1 rfl
 obtain ⟨X,C,S⟩:=vj _ _ _ _ _ _ _ _ N
 obtain ⟨d,j,O⟩:=hp 2 3 2 rfl
 obtain ⟨Y,D,T⟩:=vj _ _ _ _ _ _ _ _ O
 obtain ⟨e,k,P⟩:=hp 3 3 3 rfl
 obtain ⟨Z,E,AA⟩:=vj _ _ _ _ _ _ _ _ P
 obtain ⟨f,l,Q⟩:=hp 4 3 4 rfl
 obtain ⟨a,F,V⟩:=vj _ _ _ _ _ _ _ _ Q
 refine ⟨⟨W,X,Y,Z,a⟩,?_,⟨R,S,T,AA,V⟩⟩
 have L:=gG (hl.trans Od) (by rw [vi]) F
 have K:=cJ E (m:=4) (by rw [vi]) L
 have J:=cJ D (m:=3) (by rw [vi]) K
 have AB:=cJ C (m:=2) (by rw [vi]) J
 have G:=cJ B (m:=1) (by rw [vi]) AB
 exact G
def Th (w:World) (s:bj):Prop:= ∃ l:List bR,s.n=l.length∧(rd s.a l.length 5 (l.map bR.cells)).holds w∧(∀ x∈l,Iq w x)∧l.length≤maxLen∧s.n≤s.c
theorem Vb:rU Tryz.prog 34 bj (fun s=>[vS s.a s.n s.c]) Th:=kW UD Od Sy
structure Vd (w:World) (s:eY):Prop where
 Race:Q0 w s.Race
 aM:RV w s.aM
 aB:Th w s.aB
 gu:tW w s.gu
 kU:tW w s.kU
theorem RW:fL Tryz.prog 36=some [(32,0),(33,11),(34,12),(3,13),(3,14)]:=by kernel_rfl
theorem UB:rU Tryz.prog 36 eY eY.cells Vd:=fun {H} enc w base sp A fuel cs x h=>by
 obtain ⟨hl,hp⟩:=iX RW h
 obtain ⟨b,g,M⟩:=hp 0 32 0 rfl
 obtain ⟨W,B,R⟩:=Um _ _ _ _ _ _ _ _ M
 obtain ⟨c,i,N⟩:=hp 1 33 11 rfl
 obtain ⟨X,C,S⟩:=Uz _ _ _ _ _ _ _ _ N
 obtain ⟨d,j,O⟩:=hp 2 34 12 rfl
 obtain ⟨Y,D,T⟩:=Vb _ _ _ _ _ _ _ _ O
 obtain ⟨e,k,P⟩:=hp 3 3 13 rfl
 obtain ⟨Z,E,AA⟩:=vj _ _ _ _ _ _ _ _ P
 obtain ⟨f,l,Q⟩:=hp 4 3 14 rfl
 obtain ⟨a,F,V⟩:=vj _ _ _ _ _ _ _ _ Q
 refine ⟨⟨W,X,Y,Z,a⟩,?_,⟨R,S,T,AA,V⟩⟩
 have L:=gG (hl.trans Vc) (by rw [vi]) F
 have K:=cJ E (m:=14) (by rw [vi]) L
 have J:=cJ D (m:=13) (by rw [U7]) K
 have AB:=cJ C (m:=12) (by rw [TX]) J
 have G:=cJ B (m:=11) (by rw [RI]) AB
 exact G
theorem yZ:ownKnob Tryz.prog.godebug=none:=by kernel_rfl
theorem xM:laidOutB Tryz.prog=true:=by kernel_rfl
theorem vv (os:Os) (started:os.Started) (H:Type) (enc:TypeId×Value→H):
 ReturnsInHanded {} Tryz.checked os 3 .any (fun w args=>(Rows.juryRulesSpec.pre enc Tryz.prog Tryz.f3 [] false w args∧laidMetH Tryz.prog [("kreisel/race.table",Rows.laid_kreisel_race_table)] w)∧sizedMet enc Tryz.prog Tryz.f3 (OpenSpec.ofChange Rows.juryRulesSpec) false w args) (Rows.juryRulesSpec.post enc Tryz.prog Tryz.f3 false true false false):=by
 refine returnsInHanded_of_change_and (C:=Tryz.checked) (X:=(fun w _=>laidMetH Tryz.prog [("kreisel/race.table",Rows.laid_kreisel_race_table)] w)) (fun _ _ _ hh h=>h.of_heap hh) yZ started kr Tryz.func3
  (ChangeSpec.witness_shaped (enc:=enc) (C:=Tryz.checked) (os:=os) (X:=(fun w _=>laidMetH Tryz.prog [("kreisel/race.table",Rows.laid_kreisel_race_table)] w)) false (World.doorLaid Tryz.prog 400 os) #[.agg #[(vS none 0 0),(vI 0),(vS none 0 0),(vS none 0 0),(vI 0),(vI 0),(vI 0),(vS none 0 0),(vS none 0 0),(vI 0),(vS none 0 0),(vS none 0 0),(vS none 0 0),(vI 0),(vI 0)],vI 0,vI 0,.agg #[(vB false),(vB false),(vI 0),(vI 0),(vI 0),(vI 0),(vS none 0 0)]] 8 rfl (World.shaped_of_RefB kr kr) kr kr kr (Dv os _)) ?_
 intro W base args ds gs before E hW _ _ hL _
 have D: ∀ (j:Nat) t v,Tryz.f3.params[j]? =some t→args[j]? =some v→Value.okWide Tryz.prog W .any base t v:=E
 have hW':=hW
 obtain ⟨p,q,K,hV,rfl,o,r⟩:=hW
 have hA:DataW.TrodAll enc Tryz.prog W 0 (fun _=>true) true Tryz.f3.params.toList args.toList ds p:=K
 have F:=hA
 rw [Tryz.params3] at hA D
 obtain ⟨V,AU,d0,b,p0,q0,L,rfl,rfl,i,s⟩:=trodAll_cons hA
 obtain ⟨Y,Ag,d1,c,p1,q1,rfl,rfl,rfl,l,u⟩:=trodAll_cons s
 obtain ⟨Z,Ax,d2,f,p2,q2,rfl,rfl,rfl,m,y⟩:=trodAll_cons u
 obtain ⟨a,A0,d3,g,p3,q3,rfl,rfl,rfl,n,z⟩:=trodAll_cons y
 obtain ⟨rfl,rfl,rfl⟩:=trodAll_nil z
 obtain rfl:args= #[V,Y,Z,a]:=by cases args; simp_all
 obtain ⟨rfl,rfl⟩:=trodVars_none hV
 obtain ⟨s0,rfl,R0⟩:=yF RW UB (D 0 36 V rfl rfl) i
 obtain ⟨s1,rfl,R1⟩:=FE (k:= .i64) oV (D 1 3 Y rfl rfl) l
 obtain ⟨s2,rfl,R2⟩:=FE (k:= .i64) oV (D 2 3 Z rfl rfl) m
 obtain ⟨s3,rfl,R3⟩:=yF Te RM (D 3 43 a rfl rfl) n
 simp only [List.append_nil] at hW' F
 have J:=yY hL
 obtain ⟨j,az,ha,kA,kC,cA,cC,bA,bC,T,AA,drA,drC,N,O,faA,faC,prA,prC,rfl,G,B⟩:=HL (R1:=Jy) (R2:=IJ) (R3:=Ks) (R4:=IH) (R5:=tW) (R6:=OY) (R7:=Pv) (R8:=FT) (R9:=Qi) (R10:=Iq) R0.Race.au.bL.kD (fun x hx=>hx.ja) R0.Race.au.aG (fun x hx=>hx.bk) R0.Race.au.aj R0.Race.bu R0.Race.cN R0.Race.aI (fun x hx=>hx) (fun x hx=>hx.aV.aa) R0.aM (fun x hx=>hx.Kind) R0.aB
 obtain ⟨d,Q,S,rfl,M,P⟩:=GK (R:=FT) R3.aV.aa
 have AB:=(CZ j kA kC az cA cC bA bC T AA drA drC ha N O faA faC prA prC s1 s2 d Q S G M).run W (by intro A hA; simp only [cm,List.not_mem_nil,or_false] at hA; rcases hA with rfl|rfl|rfl|rfl|rfl|rfl|rfl|rfl|rfl|rfl|rfl|rfl; exact J; exact B.1; exact B.2.1; exact B.2.2.1; exact B.2.2.2.1; exact B.2.2.2.2.1; exact B.2.2.2.2.2.1; exact B.2.2.2.2.2.2.1; exact B.2.2.2.2.2.2.2.1; exact B.2.2.2.2.2.2.2.2.1; exact B.2.2.2.2.2.2.2.2.2; exact P)
 refine (AB).mono fun e W' ⟨he,hk⟩=>?_
 subst he
 exact ⟨_,U,Ka xM hW' F U U kr hk.below kr TO⟩
theorem wK:Rows.JuryRulesSaid:=
 OpenClaim.holds_of_wide 3 Tryz.f3 rfl rfl rfl rfl rfl rfl rfl ⟨rfl,rfl,rfl,rfl,rfl⟩ rfl rfl rfl rfl rfl kr Tryz.func3 vW
  (of_decide_eq_true kr) (by unfold Func.isWrapper; first|(rw [if_pos (by decide+kernel)]; kernel_rfl)|(rw [if_neg (by decide+kernel)]; exact ⟨rfl,rfl⟩))
  (fun os started H enc _=>vv os started H enc)
/-- the statement -/
theorem juryRules_said:Rows.JuryRulesCardSaid:=
 Claim7.holds_tied_plain_at .later [] [.funcsDeep] true (true,"538a66b7717897c4dc8df88aae33bef2e51197238457798b4f2260c108aa2044") false
  wK (fun _ h=>by cases h) kr (fun _ h=>by cases h) juryRules_row_tie rfl ⟨rfl,rfl⟩ kr rfl
  (fun f fn hf B=>by
   obtain rfl:f=3:=Option.some.inj ((show Tryz.prog.funcNamed "kreisel/kreisellaw07.JuryRules"=some 3 by kernel_rfl).symm.trans hf) |>.symm
   obtain rfl:fn=Tryz.f3:=(Option.some.inj (Tryz.func3.symm.trans B)).symm
   exact ⟨kr,fun j t ht=>by
    rw [Tryz.params3] at ht
    have hm:t∈([36,3,3,43]:List Nat):=by simpa using Array.mem_of_getElem? ht
    have A:(([36,3,3,43]:List Nat).all fun u=> !Tryz.prog.wantsStandIn u)=true:=by kernel_rfl
    exact (show Tryz.prog.wantsStandIn t=false by simpa using c_.1 A t hm)⟩)
  kr
#print axioms juryRules_said
end
end Go.Proofs.YtkaenmjhfajbkaaGreatDoor
