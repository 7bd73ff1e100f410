/-
 The statement juryTouches_said, part 7 of 8: Jw9, Jwa, Jwc, B7, B8, Rr2, Jr1, B9, Rr1, Ends5, Can, False, Sim, Told, Clear, Ways, Async, WayM, R1, Y1, Y2, Y3, Y5.
 Conditions: none.
-/
import Derived.Test.YtgcjjjehnjljbaaGreatDoorTz1
import Derived.Test.YtgcjjjehnjljbaaGreatDoorTz2
import Derived.Test.YtgcjjjehnjljbaaGreatDoorTz3
import Derived.Test.YtgcjjjehnjljbaaGreatDoorTz4
import Derived.Test.YtgcjjjehnjljbaaGreatDoorTz5
import Derived.Test.YtgcjjjehnjljbaaGreatDoorTz6
namespace Go.Proofs.YtgcjjjehnjljbaaGreatDoor
set_option maxRecDepth 100000
set_option maxHeartbeats 4000000
set_option linter.unusedVariables false
section
open Go.RowKit
theorem KZ (fm:List (Int×Bool)) (gm:Nat) (j:dk) (kA:OA) (kC:Nat) (az:List RA) (cA:OA) (cC:Nat) (bA:OA) (bC:Nat) (slA:OA) (slC:Nat) (drA:OA) (drC:Nat) (ha:List cU) (heA:OA) (heC:Nat) (faA:OA) (faC:Nat) (prA:OA) (prC g1 g2:Nat) (hin:fY j az ha) (hok:gF j=0):
 N6 Tryz.prog 93 [] [(vP g1),(vP g2)] [(ks iV gm (cR vB fm)),(rd kA j.Race.ar.aO.length 9 (j.Race.ar.aO.map aq.cells)),(rd cA j.Race.ar.aj.length 2 (List.zipWith av.cells j.Race.ar.aj az)),(dL (bk av.fu j.Race.ar.aj az)),(rd bA j.Race.ar.ab.length 4 (j.Race.ar.ab.map bL.cells)),(rd slA j.Race.bg.length 1 (j.Race.bg.map iC)),(rd drA j.Race.cm.length 1 (j.Race.cm.map iC)),(rd heA j.Race.aB.length 1 (List.zipWith cz j.Race.aB ha)),(dL (bk eO j.Race.aB ha)),(rd faA j.ay.length 4 (j.ay.map aX.cells)),(rd prA j.aM.length 5 (j.aM.map bI.cells)),(cy g1 111 (dT.cells (dT.mk (n7 j kA kC cA cC bA bC slA slC drA drC heA heC faA faC prA prC)))),(cy g2 123 [(Value.map (some gm))])] ((0:Nat)) (Hg (eC j (lE j.ay fm))) (fun k=>k=j.Race.aB.length):=by
 have C0:=hin.race
 have H1:=hin.race.line
 have J4:=hin.race.gQ
 have J5:=hin.race.has
 have Jb:=hin.race.gX
 have IR:=hin.nf
 have In:=hin.np
 have Cx:=(gH hok).1
 have J6:=(gH hok).2
 have Ho:=(fr Cx).1
 have IO:=(fr Cx).2
 have HY:=(dK Ho).2.head
 unfold eT at HY
 refine Ld kr Tryz.func93 U U fun l J Z A0 w0 Q hY Eq EQ hQ hN=>?_
 try dsimp only
 refine WS fun _ FS=>rP 6 [] (mr 12 U mn) ?_
 refine RK FS<|aC ?_
 have B:(0≤j.Race.aB.length)∧(J 0 A0)∧(Fo A0 w0 A0):=by exact ⟨Nat.zero_le _,Eq,EQ⟩
 refine bQ (ι:={z:Nat×aA // (z.1≤j.Race.aB.length)∧(J z.1 z.2)∧(Fo A0 w0 z.2)}) [0,1,2,15,16] [1,2,3,4,5,6,7,8,9,10,11,12,13] U U (fun z=>[(17,(vI (z.1.1:Int)))]) (fun z=>[z.1.2]) (fun _=>rfl) (fun _=>rfl) (fun z=>j.Race.aB.length-z.1.1) ⟨(0,A0),B⟩ (bu U) (aN [1,2,3,4,5,6,7,8,9,10,11,12,13,0]) ?_
 clear B
 rintro ⟨⟨h,A⟩,⟨X,F,G⟩⟩ J2 FP
 try dsimp only at X F G
 try dsimp only
 refine WS fun _ Fd=>rP 1 [] mn ?_
 refine RK Fd<|ak fun _ Fn=>bO U (aS fun h5=>?_) (aT fun h5=>?_)
 ·refine bM<|ag<|ag<|aG ?_
  refine hN _ _ _ (ke (vs:=[]) trivial fun w hs=>NM 13 U (by show h=j.Race.aB.length; omega) F G hs)
 refine WK Fn<|ak fun _ GE=>aC<|WS fun _ GT=>?_
 obtain ⟨ht,E⟩:=aF j.Race.aB h I
 obtain ⟨C,D⟩:=aF ha h I
 have Cp:(List.zipWith cz j.Race.aB ha)[h]? =some (cz ht C):=cZ E D
 refine rS (IA h U (ax 7 U) lZ dc I I) ?_
 have Ck:=C0.fX _ _ _ E D
 have Id:=Ck.mq
 have If:=(IO.fX ht (aP E)).1
 refine rS (h_ h 0 (vS C.1.1 ht.length C.1.2) U bX (ax 7 U) Cp U dc U)<|rP 1 [] mn ?_
 refine RK GT<|WS fun _ GY=>mH (kV:=iV) U U fun b9=>?_
 try dsimp only
 refine bx 1 U<|RK GY<|ak fun _ b=>WS fun _ e=>rP 3 [] mn ?_
 refine RK e<|aC ?_
 skip
 have B:(0≤ht.length):=by exact Nat.zero_le _
 refine bQ (ι:={z:Nat // (z≤ht.length)}) [0,1,2,5,6,15,16,17,23] [1,2,3,4,5,6,7,8,9,10,11,12,13,14] U U (fun z=>[(24,(vI (z.1:Int)))]) (fun z=>[(ks iV b9 (cR vB (iu (lv j.Race.ar j.ay fm ht) z.1 0)))]) (fun _=>rfl) (fun _=>rfl) (fun z=>ht.length-z.1) ⟨0,B⟩ (bu U) (aN [1,2,3,4,5,6,7,8,9,10,11,12,13,14,0]) ?_
 clear B
 rintro ⟨q,Hi⟩ J12 Y
 try dsimp only
 refine WS fun _ g=>rP 1 [] mn ?_
 refine RK g<|ak fun _ i=>cr U (aT fun DW=>?_) (aS fun DW=>?_)
 ·refine WK i<|ak fun _ m=>aC<|WS fun _ o=>bx 2 U<|RK o<|au<|rP 2 [] mn ?_
  have A5:(eD (iu (lv j.Race.ar j.ay fm ht) q 0) (q:Int) true)=(iu (lv j.Race.ar j.ay fm ht) (q+1) 0):=by exact Ia
  refine jt (kV:=iV) (x:=(q:Int)) (C':=[_,_,_,_,_,_,_,_,_,_,_,_,_,_,(ks iV b9 (cR vB (iu (lv j.Race.ar j.ay fm ht) (q+1) 0)))]) 14 U U U U AT (iL nX) U ((gN _ _ _ _).symm.trans (congrArg _ A5)) U<|aD<|aK<|KK m<|au<|rP 2 [] mn ?_
  refine aD ?_
  have A6:(vI (((q+1):Nat):Int))=(vI ((q:Int)+1)):=by exact cI I
  refine bj (Y ⟨(q+1),(by first|omega|(simp only []; omega))⟩ _ _ _ U os (cN 9<|a_ U A6<|dh.nil _) (aN [0,1,2,3,4,5,6,7,8,9,10,11,12,13,14]))
 refine bM<|ag<|ag<|aG<|KK b<|ak fun _ p=>WS fun _ r=>rP 3 [] mn ?_
 refine RK r<|aC ?_
 rw [show (iu (lv j.Race.ar j.ay fm ht) q 0)=(iu (lv j.Race.ar j.ay fm ht) ht.length 0) from by rw [show q=ht.length by omega]]
 have B:(0≤ht.length):=by exact Nat.zero_le _
 refine bQ (ι:={z:Nat // (z≤ht.length)}) [0,1,2,5,6,15,16,17,30,31] [0,1,2,3,4,5,6,7,8,9,10,11,12,13] U U (fun z=>[(32,(vI (z.1:Int)))]) (fun z=>[(ks iV b9 (cR vB (iu (lv j.Race.ar j.ay fm ht) ht.length z.1)))]) (fun _=>rfl) (fun _=>rfl) (fun z=>ht.length-z.1) ⟨0,B⟩ (bu U) (aN [0,1,2,3,4,5,6,7,8,9,10,11,12,13,14]) ?_
 clear B
 rintro ⟨q,C2⟩ J22 R
 try dsimp only
 refine WS fun _ s=>rP 1 [] mn ?_
 refine RK s<|ak fun _ t=>bO U (aS fun Di=>?_) (aT fun Di=>?_)
 ·refine bM<|ag<|ag<|aG<|KK p<|WS fun _ y=>bx 1 U<|RK y<|ak fun _ AC=>WS fun _ AO=>rP 3 [] mn ?_
  refine RK AO<|aC ?_
  rw [show (iu (lv j.Race.ar j.ay fm ht) ht.length q)=(iu (lv j.Race.ar j.ay fm ht) ht.length ht.length) from by rw [show q=ht.length by omega]]
  refine fR 3 1 ?_
  have B:(0≤ht.length):=by exact Nat.zero_le _
  refine bQ (ι:={z:Nat×(OA)×Nat // (z.1≤ht.length)}) [0,1,2,5,6,15,16,17,47] [1,2,3,4,5,6,7,8,9,10,11,12,13,14,15] U U (fun z=>[(10,(vS z.1.2.1 ((nW (lv j.Race.ar j.ay fm ht) z.1.1).length) z.1.2.2)),(48,(vI (z.1.1:Int)))]) (fun z=>[(own z.1.2.1 z.1.2.2 3 1 ((nW (lv j.Race.ar j.ay fm ht) z.1.1).map iC))]) (fun _=>rfl) (fun _=>rfl) (fun z=>ht.length-z.1.1) ⟨(0,none,0),B⟩ (bu U) (aN [1,2,3,4,5,6,7,8,9,10,11,12,13,14,15,0]) ?_
  clear B
  rintro ⟨⟨q,a,c⟩,M⟩ J37 S
  try dsimp only at M
  try dsimp only
  refine WS fun _ A1=>rP 1 [] mn ?_
  refine RK A1<|ak fun _ A2=>bO U (aS fun Do=>?_) (aT fun Do=>?_)
  ·refine bM<|ag<|ag<|aG<|KK AC<|ak fun _ V=>?_
   rw [show (nW (lv j.Race.ar j.ay fm ht) q)=(nW (lv j.Race.ar j.ay fm ht) ht.length) from by rw [show q=ht.length by omega]]
   refine au<|rP 2 [] mn ?_
   refine JD (k:=h) (k':=(h+1)) 13 15 U hY F G U U U ⟨_,_,_,JB E,U,U,U⟩ U U U U (fun B50 K AB=>?_) (fun B50 K AB=>?_)
   rotate_left 1
   ·refine rP 1 [] mn ?_
    refine RK V<|aI U<|ao ?_
    refine hQ _ _ _ (ke (vs:=[]) trivial fun w hs=>En 0 U K AB hs)
   refine bx 1 U<|RK V<|bT U<|cp<|aK<|KK GE<|au<|rP 2 [] mn ?_
   refine aD ?_
   have B9:(vI (((h+1):Nat):Int))=(vI ((h:Int)+1)):=by exact cI I
   refine bj (FP ⟨((h+1),B50),⟨I,K,AB⟩⟩ _ _ _ U os (cN 5<|a_ U B9<|dh.nil _) (aN [1,2,3,4,5,6,7,8,9,10,11,12,13,0]))
  refine WK A2<|ak fun _ AA=>aC<|WS fun _ A3=>bx 2 U<|RK A3<|WS fun _ A4=>rP 2 [] mn ?_
  refine rS (SX (vD (kV:=iV) (x:=(q:Int)) (l:=(iu (lv j.Race.ar j.ay fm ht) ht.length ht.length)) (f:=Value.bool) (z:=false) U U U AT (iL nX) TW (by exact ax 14 U)) U U)<|RK A4<|bO U (fun W=>?_) (fun W=>?_)
  ·refine cp<|aK<|KK AA<|au<|rP 2 [] mn ?_
   refine aD ?_
   rw [show (nW (lv j.Race.ar j.ay fm ht) q)=(nW (lv j.Race.ar j.ay fm ht) (q+1)) from (HV (by rw [← yJ (P:=(lv j.Race.ar j.ay fm ht)) (show q<ht.length by omega)]; simpa using W)).symm]
   have B3:(vI (((q+1):Nat):Int))=(vI ((q:Int)+1)):=by exact cI I
   refine bj (S ⟨((q+1),a,c),(by first|omega|(simp only []; omega))⟩ _ _ _ U os (cN 10<|a_ U B3<|dh.nil _) (aN [0,1,2,3,4,5,6,7,8,9,10,11,12,13,14,15]))
  refine au<|rP 2 [] mn ?_
  refine eP (xs:=[.tmp 55]) (cs:=[(vI (q:Int))]) U dJ kJ U U U U (by simp [Value.cells]) U U fun Jr=>?_
  refine dA (es2:=(List.map iC (nW (lv j.Race.ar j.ay fm ht) (q+1)))) (m':=(nW (lv j.Race.ar j.ay fm ht) (q+1)).length) 16 U U U qz U U sm (bq (es:=List.map iC [(q:Int)]) 0 U U (by simp [bU]) U) (kG _) (by have:=sM (P:=(lv j.Race.ar j.ay fm ht)) (n:=q); omega) (by have:=sM (P:=(lv j.Race.ar j.ay fm ht)) (n:=q); simp only [maxLen]; omega) (by rw [CW (by rw [← yJ (P:=(lv j.Race.ar j.ay fm ht)) (show q<ht.length by omega)]; exact W)]; simp) sm U fun C3 DE=>?_
  try dsimp only
  refine bx 1 U<|aD<|aK<|KK AA<|au<|rP 2 [] mn ?_
  refine aD ?_
  have Bv:(vI (((q+1):Nat):Int))=(vI ((q:Int)+1)):=by exact cI I
  refine bj (S ⟨((q+1),C3,DE),(by first|omega|(simp only []; omega))⟩ _ _ _ U os (cN 10<|a_ U Bv<|dh.nil _) (aN [1,2,3,4,5,6,7,8,9,10,11,12,13,14,15,16]))
 refine WK t<|ak fun _ T=>aC<|WS fun _ u=>rP 1 [] mn ?_
 obtain ⟨d,hd⟩:=aF ht q I
 obtain ⟨da,Ci⟩:=aF C.2 q I
 have Go:(List.zipWith aw.cells ht C.2)[q]? =some (aw.cells d da):=cZ hd Ci
 refine rS (IA q U (show hH _ (rd C.1.1 ht.length 7 (List.zipWith aw.cells ht C.2)).holds from (cj 8 U (bD E D ct))) qk dc I I) ?_
 have J7:=Ck.sig d (aP hd)
 refine rS (jL q 0 (bf.cells (bf.mk d.Out d.cO d.Time (de.mk d.aZ.Start d.aZ.fP (bK.mk da.1 d.aZ.aa.length da.2)))) U bX (show hH _ (rd C.1.1 ht.length 7 (List.zipWith aw.cells ht C.2)).holds from (cj 8 U (bD E D ct))) Go U dc U U)<|AL U I3 fun L=>bx 1 U<|fj U IN U<|RK u<|WS fun _ v=>rP 3 [] (mr 12 U mn) ?_
 refine rS (FU U) ?_
 refine rS (CL (Bh j.ay faA faC (Value.func (.func 95) [].toArray [(vP g2),(vP g1),(vP L)].toArray) (fun O=>(((List.lookup (l5 j.ay O) fm).getD false)&& !decide (gO j.Race.ar O d=0))) (dL [(ks iV gm (cR vB fm)),(rd kA j.Race.ar.aO.length 9 (j.Race.ar.aO.map aq.cells)),(rd cA j.Race.ar.aj.length 2 (List.zipWith av.cells j.Race.ar.aj az)),(dL (bk av.fu j.Race.ar.aj az)),(rd bA j.Race.ar.ab.length 4 (j.Race.ar.ab.map bL.cells)),(rd slA j.Race.bg.length 1 (j.Race.bg.map iC)),(rd drA j.Race.cm.length 1 (j.Race.cm.map iC)),(rd heA j.Race.aB.length 1 (List.zipWith cz j.Race.aB ha)),(dL (bk eO j.Race.aB ha)),(rd faA j.ay.length 4 (j.ay.map aX.cells)),(rd prA j.aM.length 5 (j.aM.map bI.cells)),(rd da.1 d.aZ.aa.length 2 (d.aZ.aa.map aH.cells)),(cy g2 123 [(Value.map (some gm))]),(cy g1 111 (dT.cells (dT.mk (n7 j kA kC cA cC bA bC slA slC drA drC heA heC faA faC prA prC)))),(cy L 67 (bf.cells (bf.mk d.Out d.cO d.Time (de.mk d.aZ.Start d.aZ.fP (bK.mk da.1 d.aZ.aa.length da.2)))))]) (by intro O N; exact mN (fi:=[]) (ca:=[(vP g2),(vP g1),(vP L)]) (lD (M1 O fm gm j kA kC az cA cC bA bC slA slC drA drC ha heA heC faA faC prA prC d da.1 da.2 g2 g1 L (by first|assumption|exact N|omega) (by first|assumption|exact N|omega) (by first|assumption|exact N|omega) (by first|assumption|exact N|omega)) (br [0,1,2,3,4,5,6,7,8,9,10,11,12,13,14]))) asm) (gu 10 U U<|aQ (lH (lW [1,2,3,4,5,6,7,8,9,10,11]<|aQ (show hH _ (rd da.1 d.aZ.aa.length 2 (d.aZ.aa.map aH.cells)).holds from (cj 9 U (bD E D (dH _ (bD hd Ci (by simp [aw.fu]))))))<|gu 13 U U<|gu 12 U U<|gu 0 U U<|aR))<|aR) U) ?_
 refine rP 1 [] mn ?_
 refine RK v<|bO U (fun H=>?_) (fun H=>?_)
 ·rw [Bool.not_eq_false'] at H
  refine cp<|aK<|KK T<|au<|rP 2 [] mn ?_
  refine aD ?_
  rw [show (iu (lv j.Race.ar j.ay fm ht) ht.length q)=(iu (lv j.Race.ar j.ay fm ht) ht.length (q+1)) from Fc (by rw [Ez hd]; simpa using H)]
  have A9:(vI (((q+1):Nat):Int))=(vI ((q:Int)+1)):=by exact cI I
  refine bj (R ⟨(q+1),(by first|omega|(simp only []; omega))⟩ _ _ _ U os (cN 10<|a_ U A9<|dh.nil _) (aN [1,2,3,4,5,6,7,8,9,10,11,12,13,14,15]))
 rw [Bool.not_eq_true'] at H
 refine au<|rP 2 [] mn ?_
 have A7:(fg (iu (lv j.Race.ar j.ay fm ht) ht.length q) (q:Int))=(iu (lv j.Race.ar j.ay fm ht) ht.length (q+1)):=by exact Ib (by rw [Ez hd]; exact H)
 refine sr (kV:=iV) (x:=(q:Int)) (C':=[_,_,_,_,_,_,_,_,_,_,_,_,_,_,_,(ks iV b9 (cR vB (iu (lv j.Race.ar j.ay fm ht) ht.length (q+1))))]) 15 U U U U AT (iL nX) U ((nK _ _ _).symm.trans (congrArg _ A7)) U<|aD<|aK<|KK T<|au<|rP 2 [] mn ?_
 refine aD ?_
 have A8:(vI (((q+1):Nat):Int))=(vI ((q:Int)+1)):=by exact cI I
 refine bj (R ⟨(q+1),(by first|omega|(simp only []; omega))⟩ _ _ _ U os (cN 10<|a_ U A8<|dh.nil _) (aN [1,2,3,4,5,6,7,8,9,10,11,12,13,14,15]))
end
section
open Go.RowKit
theorem MZ (gm:Nat) (j:dk) (kA:OA) (kC:Nat) (cA:OA) (cC:Nat) (bA:OA) (bC:Nat) (slA:OA) (slC:Nat) (drA:OA) (drC:Nat) (heA:OA) (heC:Nat) (faA:OA) (faC:Nat) (prA:OA) (prC:Nat):
 qf Tryz.prog 53 [(vA (dT.cells (dT.mk (n7 j kA kC cA cC bA bC slA slC drA drC heA heC faA faC prA prC)))),(Value.map (some gm))] [] (fun (x:Nat×Nat)=>(Value.func (.func 93) [].toArray [(Value.pointer (some ⟨x.1,0,none⟩)),(Value.pointer (some ⟨x.2,0,none⟩))].toArray)) (fun (x:Nat×Nat)=>True) (fun (x:Nat×Nat)=>[(cy x.1 111 (dT.cells (dT.mk (n7 j kA kC cA cC bA bC slA slC drA drC heA heC faA faC prA prC)))),(cy x.2 123 [(Value.map (some gm))])]):=by
 refine fJ kr Tryz.func53 U U fun E Q hQ hN=>?_
 try dsimp only
 refine WS fun _ A=>ed U fun C=>xJ U U fun D=>bx 1 U<|RK A<|WS fun _ B=>rS (FU U)<|rP 1 [] mn ?_
 refine RK B<|ao<|LX hQ (C,D) [1,0] [] mn U U U U ?_
 trivial
theorem Kq (fm:List (Int×Bool)) (gm:Nat) (j:dk) (kA:OA) (kC:Nat) (az:List RA) (cA:OA) (cC:Nat) (bA:OA) (bC:Nat) (slA:OA) (slC:Nat) (drA:OA) (drC:Nat) (ha:List cU) (heA:OA) (heC:Nat) (faA:OA) (faC:Nat) (prA:OA) (prC g1 g2:Nat) (hin:fY j az ha) (hok:gF j=0):
 qf Tryz.prog 92 [(vS none 0 0),(Value.func (.func 93) [].toArray [(vP g1),(vP g2)].toArray)] [(ks iV gm (cR vB fm)),(rd kA j.Race.ar.aO.length 9 (j.Race.ar.aO.map aq.cells)),(rd cA j.Race.ar.aj.length 2 (List.zipWith av.cells j.Race.ar.aj az)),(dL (bk av.fu j.Race.ar.aj az)),(rd bA j.Race.ar.ab.length 4 (j.Race.ar.ab.map bL.cells)),(rd slA j.Race.bg.length 1 (j.Race.bg.map iC)),(rd drA j.Race.cm.length 1 (j.Race.cm.map iC)),(rd heA j.Race.aB.length 1 (List.zipWith cz j.Race.aB ha)),(dL (bk eO j.Race.aB ha)),(rd faA j.ay.length 4 (j.ay.map aX.cells)),(rd prA j.aM.length 5 (j.aM.map bI.cells)),(cy g1 111 (dT.cells (dT.mk (n7 j kA kC cA cC bA bC slA slC drA drC heA heC faA faC prA prC)))),(cy g2 123 [(Value.map (some gm))])] (fun (x:(List RA)×(OA)×Nat)=>(vS x.2.1 ((eC j (lE j.ay fm)).length) x.2.2)) (fun (x:(List RA)×(OA)×Nat)=>x.1.length=(eC j (lE j.ay fm)).length) (fun (x:(List RA)×(OA)×Nat)=>[(own x.2.1 x.2.2 29 1 (List.zipWith vv (eC j (lE j.ay fm)) x.1)),(bS (bk Ar (eC j (lE j.ay fm)) x.1))]):=by
 have W:=hin.race
 have P:=hin.race.line
 have g:=hin.race.gQ
 have m:=hin.race.has
 have X:=hin.race.gX
 have AA:=hin.nf
 have V:=hin.np
 have f:(eC j (lE j.ay fm)).length=j.Race.aB.length:=by unfold eC; rw [List.length_map]
 refine fJ kr Tryz.func92 U U fun s Q hQ hN=>?_
 try dsimp only
 refine WS fun _ K=>xJ U U fun T=>bx 1 U<|RK K<|ak fun _ L=>WS fun _ M=>rP 1 [] mn ?_
 refine RK M<|aC<|jq 1 U (by exact fun _ h=>h)<|jq 3 U (by exact fun _ h=>h)<|jq 5 U (by exact fun _ h=>h)<|jq 7 U (by exact fun _ h=>h)<|jq 9 U (by exact fun _ h=>h)<|jq 11 U (by exact fun _ h=>h)<|jq 13 U (by exact fun _ h=>h)<|jq 15 U (by exact fun _ h=>h)<|jq 17 U (by exact fun _ h=>h)<|jq 19 U (by exact fun _ h=>h)<|jq 21 U (by exact fun _ h=>h)<|jq 23 U (by exact fun _ h=>h)<|jq 25 U (by exact fun _ h=>h)<|fR 29 1<|mP ?_
 refine IE (L0:=[(2,(vP T))]) (F:=[(ks iV gm (cR vB fm)).ro,(rd kA j.Race.ar.aO.length 9 (j.Race.ar.aO.map aq.cells)).ro,(rd cA j.Race.ar.aj.length 2 (List.zipWith av.cells j.Race.ar.aj az)).ro,(dL (bk av.fu j.Race.ar.aj az)).ro,(rd bA j.Race.ar.ab.length 4 (j.Race.ar.ab.map bL.cells)).ro,(rd slA j.Race.bg.length 1 (j.Race.bg.map iC)).ro,(rd drA j.Race.cm.length 1 (j.Race.cm.map iC)).ro,(rd heA j.Race.aB.length 1 (List.zipWith cz j.Race.aB ha)).ro,(dL (bk eO j.Race.aB ha)).ro,(rd faA j.ay.length 4 (j.ay.map aX.cells)).ro,(rd prA j.aM.length 5 (j.aM.map bI.cells)).ro,(cy g1 111 (dT.cells (dT.mk (n7 j kA kC cA cC bA bC slA slC drA drC heA heC faA faC prA prC)))).ro,(cy g2 123 [(Value.map (some gm))]).ro]) (fun k (y:(List RA)×(OA)×Nat)=>(y.1.length=k)) (fun k y=>[(bS (bk Ar (List.take k (eC j (lE j.ay fm))) y.1)),(own y.2.1 y.2.2 29 1 (List.zipWith vv (List.take k (eC j (lE j.ay fm))) y.1)),(cy T 44 [(vS y.2.1 ((List.take k (eC j (lE j.ay fm))).length) y.2.2)]),(ks iV gm (cR vB fm)).ro,(rd kA j.Race.ar.aO.length 9 (j.Race.ar.aO.map aq.cells)).ro,(rd cA j.Race.ar.aj.length 2 (List.zipWith av.cells j.Race.ar.aj az)).ro,(dL (bk av.fu j.Race.ar.aj az)).ro,(rd bA j.Race.ar.ab.length 4 (j.Race.ar.ab.map bL.cells)).ro,(rd slA j.Race.bg.length 1 (j.Race.bg.map iC)).ro,(rd drA j.Race.cm.length 1 (j.Race.cm.map iC)).ro,(rd heA j.Race.aB.length 1 (List.zipWith cz j.Race.aB ha)).ro,(dL (bk eO j.Race.aB ha)).ro,(rd faA j.ay.length 4 (j.ay.map aX.cells)).ro,(rd prA j.aM.length 5 (j.aM.map bI.cells)).ro]) (fun _ (_:Unit)=>False) (fun _ _=>[]) [0,1,15,16,17,18,19,20,21,22,23,24,25,26] [14,13,12,11,10,9,8,7,6,5,4,3,2] (([]:List RA),none,0) rfl rfl (KZ fm gm j kA kC az cA cC bA bC slA slC drA drC ha heA heC faA faC prA prC g1 g2 (by first|assumption|omega|(simp; done)) (by first|assumption|omega|(simp; done))) rfl rfl rfl (by exact rfl) (by simp only [List.forall_mem_cons,List.not_mem_nil,false_imp_iff,implies_true,and_true]; exact ⟨⟨_,aP (i:=0) rfl,(dI (bY _))⟩,⟨_,aP (i:=1) rfl,(dI (bY _))⟩,⟨_,aP (i:=2) rfl,(dI (bY _))⟩,⟨_,aP (i:=3) rfl,(dI (bY _))⟩,⟨_,aP (i:=4) rfl,(dI (bY _))⟩,⟨_,aP (i:=5) rfl,(dI (bY _))⟩,⟨_,aP (i:=6) rfl,(dI (bY _))⟩,⟨_,aP (i:=7) rfl,(dI (bY _))⟩,⟨_,aP (i:=8) rfl,(dI (bY _))⟩,⟨_,aP (i:=9) rfl,(dI (bY _))⟩,⟨_,aP (i:=10) rfl,(dI (bY _))⟩,⟨_,aP (i:=11) rfl,(dI (bY _))⟩,⟨_,aP (i:=12) rfl,(dI (bY _))⟩⟩) (by rintro k x R0 p ⟨_,_,_,_,rfl,_,_⟩; rfl) rfl (bu rfl) ?_ ?_ (fun _ _ _ h=>h.elim) (fun _ _ h=>h.elim)
 rotate_left 1
 ·rintro q k ⟨gz,a,c⟩ B C
  have D:=C
  try dsimp only at D
  try dsimp only
  rw [show (List.take k (eC j (lE j.ay fm)))=(eC j (lE j.ay fm)) from List.take_of_length_le (by have d:k=j.Race.aB.length:=B; omega)]
  have O:gz.length=(eC j (lE j.ay fm)).length:=by have d:k=j.Race.aB.length:=B; omega
  refine aK<|KK L<|WS fun _ G=>rP 2 [] (mc 16 U mn) ?_
  refine RK G<|ao ?_
  refine hQ _ _ _ (qH 0 U U<|ke (vs:=[(vS a ((eC j (lE j.ay fm)).length) c)]) ⟨U,trivial⟩ fun w hs=>NY (gz,a,c) [15,14] ?_ ?_ U U (by show List.all _ _=true; simp only [eH,List.all_nil,pI,Bool.and_true]; rfl) hs)
  ·rfl
  ·exact O
 rintro k x R0 p ⟨gz,a,c⟩ l ra rb S t K5 Qr6 o hx AB N H Y Z
 obtain ⟨xa,xc,row,A,rfl,rfl,rfl⟩:=hx
 have D:=AB
 try dsimp only at D
 try dsimp only
 have n:=(aU.1 A).1
 have E:gz.length=(List.take k (eC j (lE j.ay fm))).length:=by rw [List.length_take]; omega
 have R:(List.take (k+1) (eC j (lE j.ay fm))).length=k+1:=by rw [List.length_take]; omega
 refine au<|rP 1 [] mn ?_
 refine aD<|bj (N _ _ ?_)
 refine aC<|au<|rP 2 [] (mc 3 U mn) ?_
 refine eP (xs:=[.tmp 9]) (cs:=[(vS xa row.length xc)]) U KF Rp U U U U (by simp [Value.cells]) U U fun r=>?_
 refine dA (es2:=(List.zipWith vv (List.take (k+1) (eC j (lE j.ay fm))) (gz++[(xa,xc)]))) (m':=(List.take (k+1) (eC j (lE j.ay fm))).length) 3 rfl rfl rfl Qv rfl rfl (q8 E).symm (bq (es:=List.zipWith vv [row] [(xa,xc)]) 0 rfl rfl (by intro e he; simp [vv] at he; subst he; rfl) rfl) (D2 _ _) I (by simp only [maxLen]; omega) (by rw [p6 A]; exact za E.symm) (by exact q8 (by rw [R]; simp; omega)) rfl fun b J=>?_
 try dsimp only
 refine Na (Y':=bk Ar (List.take (k+1) (eC j (lE j.ay fm))) (gz++[(xa,xc)])) 2 16 U U (by rw [p6 A]; exact wD E.symm U) ?_
 refine T3 U Sx U U<|aD<|aK ?_
 exact H ((gz++[(xa,xc)]),b,J) _ _ (by (rw [List.length_append]; simp; omega)) (aN [2,0,3,4,5,6,7,8,9,10,11,12,13,14,15])
theorem Km (fm:List (Int×Bool)) (gm:Nat) (j:dk) (kA:OA) (kC:Nat) (az:List RA) (cA:OA) (cC:Nat) (bA:OA) (bC:Nat) (slA:OA) (slC:Nat) (drA:OA) (drC:Nat) (ha:List cU) (heA:OA) (heC:Nat) (faA:OA) (faC:Nat) (prA:OA) (prC g1 g2:Nat) (hin:fY j az ha) (hok:gF j=0):
 qf Tryz.prog 52 [(Value.func (.func 93) [].toArray [(vP g1),(vP g2)].toArray)] [(ks iV gm (cR vB fm)),(rd kA j.Race.ar.aO.length 9 (j.Race.ar.aO.map aq.cells)),(rd cA j.Race.ar.aj.length 2 (List.zipWith av.cells j.Race.ar.aj az)),(dL (bk av.fu j.Race.ar.aj az)),(rd bA j.Race.ar.ab.length 4 (j.Race.ar.ab.map bL.cells)),(rd slA j.Race.bg.length 1 (j.Race.bg.map iC)),(rd drA j.Race.cm.length 1 (j.Race.cm.map iC)),(rd heA j.Race.aB.length 1 (List.zipWith cz j.Race.aB ha)),(dL (bk eO j.Race.aB ha)),(rd faA j.ay.length 4 (j.ay.map aX.cells)),(rd prA j.aM.length 5 (j.aM.map bI.cells)),(cy g1 111 (dT.cells (dT.mk (n7 j kA kC cA cC bA bC slA slC drA drC heA heC faA faC prA prC)))),(cy g2 123 [(Value.map (some gm))])] (fun (x:(List RA)×(OA)×Nat)=>(vS x.2.1 ((eC j (lE j.ay fm)).length) x.2.2)) (fun (x:(List RA)×(OA)×Nat)=>x.1.length=(eC j (lE j.ay fm)).length) (fun (x:(List RA)×(OA)×Nat)=>[(own x.2.1 x.2.2 29 1 (List.zipWith vv (eC j (lE j.ay fm)) x.1)),(bS (bk Ar (eC j (lE j.ay fm)) x.1))]):=by
 refine fJ kr Tryz.func52 U U fun AA Q hQ hN=>?_
 try dsimp only
 refine WS fun _ B=>bx 1 U<|RK B<|WS fun _ C=>rP 1 [] mn ?_
 refine cX (Kq fm gm j kA kC az cA cC bA bC slA slC drA drC ha heA heC faA faC prA prC g1 g2 hin hok) (br [0,1,2,3,4,5,6,7,8,9,10,11,12]) U fun H E=>?_
 obtain ⟨A,F,G⟩:=H
 try dsimp only
 have D:=E
 refine rP 1 [] mn ?_
 refine RK C<|ao ?_
 refine LX hQ (A,F,G) [0,1] [] mn U (by show List.all _ _=true; simp only [eH,List.all_nil,pI,Bool.and_true]; rfl) U U ?_
 exact D
end
section
open Go.RowKit
theorem Qh (j:dk) (kA:OA) (kC:Nat) (az:List RA) (cA:OA) (cC:Nat) (bA:OA) (bC:Nat) (slA:OA) (slC:Nat) (drA:OA) (drC:Nat) (ha:List cU) (heA:OA) (heC:Nat) (faA:OA) (faC:Nat) (prA:OA) (prC:Nat) (kq:Int) (hin:fY j az ha):
 qf Tryz.prog 12 [(vA (fW.cells (n7 j kA kC cA cC bA bC slA slC drA drC heA heC faA faC prA prC))),(vI kq)] [(rd jm 3 2 g6),(rd kA j.Race.ar.aO.length 9 (j.Race.ar.aO.map aq.cells)),(rd cA j.Race.ar.aj.length 2 (List.zipWith av.cells j.Race.ar.aj az)),(dL (bk av.fu j.Race.ar.aj az)),(rd bA j.Race.ar.ab.length 4 (j.Race.ar.ab.map bL.cells)),(rd slA j.Race.bg.length 1 (j.Race.bg.map iC)),(rd drA j.Race.cm.length 1 (j.Race.cm.map iC)),(rd heA j.Race.aB.length 1 (List.zipWith cz j.Race.aB ha)),(dL (bk eO j.Race.aB ha)),(rd faA j.ay.length 4 (j.ay.map aX.cells)),(rd prA j.aM.length 5 (j.aM.map bI.cells))] (fun (x:(List RA)×(OA)×Nat)=>(vT [(vS x.2.1 ((jA j kq).length) x.2.2),(vI (zQ j kq))])) (fun (x:(List RA)×(OA)×Nat)=>x.1.length=(jA j kq).length) (fun (x:(List RA)×(OA)×Nat)=>[(own x.2.1 x.2.2 29 1 (List.zipWith vv (jA j kq) x.1)),(bS (bk Ar (jA j kq) x.1))]):=by
 have o:=hin.race
 have g:=hin.race.line
 have r:=hin.race.gQ
 have s:=hin.race.has
 have p:=hin.race.gX
 have m:=hin.nf
 have n:=hin.np
 refine fJ kr Tryz.func12 U U fun v Q hQ hN=>?_
 try dsimp only
 refine WS fun _ W=>ed U fun t=>bx 2 U<|RK W<|WS fun _ X=>er 1 [] (mc 0 U mn) U<|rS (CL (zI j kA kC az cA cC bA bC slA slC drA drC ha heA heC faA faC prA prC hin) (br [1,2,3,4,5,6,7,8,9,10,11]) U)<|bx 3 U<|AL U D_ fun u=>fj U DZ U<|bx 1 U<|RK X<|ak fun _ Y=>WS fun _ Z=>rP 2 [] mn ?_
 refine RK Z<|cr U (aW fun A=>?_) (aV fun A=>?_)
 ·refine WS fun _ a=>?_
  have B:(jA j kq)=[]:=(by exact (wm A).1)
  have C:([]:List RA).length=(jA j kq).length:=by rw [B]; rfl
  refine jQ 29 1<|sv ?_
  rw [show (own none 0 29 1 ([]:List (List Value)))=own none 0 29 1 (List.zipWith vv (jA j kq) []) from by rw [B]; rfl,show bS []=bS (bk Ar (jA j kq) []) from by rw [B]; rfl]
  refine bx 1 U<|rP 2 [] mn ?_
  refine RK a<|ao ?_
  refine LX hQ ([],none,0) [1,0] [] mn U (by show List.all _ _=true; simp only [eH,List.all_nil,pI,Bool.and_true]; rfl) U ?_ ?_
  ·(have e:=wm (k:=kq) A; rw [e.1,e.2]; rfl)
  ·exact C
 refine WK Y<|ak fun _ b=>WS fun _ c=>rP 5 [] (mc 1 U mn) ?_
 refine eP (xs:=[.tmp 20]) (cs:=[(vI kq)]) U dJ kJ U U U U (by simp [Value.cells]) U U fun S=>?_
 refine rS (CL (dF.eq (iP 0 ((j.ay.length:Int)-1) ([kq]) (some ⟨S,0,none⟩) 1 (by (simp; done))) cD) (aQ (bq 0 U U (by simp [bU]) U)<|aR) U) ?_
 refine rP 1 [] mn ?_
 refine RK c<|cr U (aW fun V=>?_) (aV fun V=>?_)
 ·refine WS fun _ G=>?_
  have B:(jA j kq)=[]:=(by exact (v7 A I).1)
  have C:([]:List RA).length=(jA j kq).length:=by rw [B]; rfl
  refine jQ 29 1<|sv ?_
  rw [show (own none 0 29 1 ([]:List (List Value)))=own none 0 29 1 (List.zipWith vv (jA j kq) []) from by rw [B]; rfl,show bS []=bS (bk Ar (jA j kq) []) from by rw [B]; rfl]
  refine rP 2 [] mn ?_
  refine RK G<|ao ?_
  refine LX hQ ([],none,0) [1,0] [] mn U (by show List.all _ _=true; simp only [eH,List.all_nil,pI,Bool.and_true]; rfl) U ?_ ?_
  ·(have e:=v7 (k:=kq) A I; rw [e.1,e.2]; rfl)
  ·exact C
 refine WK b<|ak fun _ H=>dx ck [1,10,11,12,13,14] [] [] [0,1,2,3,4,5,6,7,8,9,10,11,12,13] [] U U U U U<|eS U (LW 1 U bX U U)<|eS U (FA 11 U eV U)<|eS U (L1 (vS faA j.ay.length faC) 2 U bX U U)<|eS U (FA 11 U eV U)<|eS U (L1 (vS faA j.ay.length faC) 2 U bX U U)<|eS U (MV U) ?_
 obtain ⟨f,hf⟩:=aF j.ay ((kq).toNat) I
 have d:=bJ aX.cells hf
 refine eS U (IA ((kq).toNat) U (ax 12 U) xB dc I I)<|eS U (jL ((kq).toNat) 0 (aX.cells f) U bX (ax 12 U) d U dc U U)<|eS U (CL (B5 j.ay faA faC f asm) (br [12]) U)<|eS U (AG U)<|eo U<|cd U fun T13 AB=>mH (kV:=iV) U U fun D=>?_
 try dsimp only
 refine aD (AB _ _ (aN [1,2,3,4,5,6,7,8,9,10,11,12,13,14]) ?_)
 refine cd U fun T15 J=>?_
 have O:(eD ([]:List (Int×Bool)) (l5 j.ay f) true)=[(l5 j.ay f,true)]:=by rfl
 refine vi (kV:=iV) (x:=(l5 j.ay f)) (C':=[(ks iV D (cR vB ([(l5 j.ay f,true)]))),_,_,_,_,_,_,_,_,_,_,_,_,_,_]) 0 U U U U AT (iL nX) U ((gN _ _ _ _).symm.trans (congrArg _ O)) U<|aD (J _ _ (aN [1,2,3,4,5,6,7,8,9,10,11,12,13,14]) ?_)
 refine cd U fun T17 K=>rS (MV U)<|aD (K _ _ (aN [1,2,3,4,5,6,7,8,9,10,11,12,13,14]) ?_)
 refine cd U fun T18 L=>cX (MZ D j kA kC cA cC bA bC slA slC drA drC heA heC faA faC prA prC) (aR) U fun i q=>?_
 obtain ⟨T,E⟩:=i
 try dsimp only
 refine aD (L _ _ (aN [3,4,5,6,7,8,9,10,11,12,13,14,15,16]) ?_)
 refine cd U fun T23 M=>cX (Km ([(l5 j.ay f,true)]) D j kA kC az cA cC bA bC slA slC drA drC ha heA heC faA faC prA prC T E hin asm) (br [2,7,8,9,10,11,12,13,14,15,16,0,1]) U fun l P=>?_
 obtain ⟨F,R,AA⟩:=l
 try dsimp only
 have C:=P
 refine aD (M _ _ (aN [5,6,7,8,9,10,11,12,13,14,15,16,17,18]) ?_)
 refine cd U fun T29 N=>?_
 have h:(eC j (lE j.ay ([(l5 j.ay f,true)])))=(jA j kq):=by exact (HC A I hf).1.symm
 rw [h] at C ⊢
 refine rS (AG U)<|aD (N _ _ (aN [5,6,7,8,9,10,11,12,13,14,15,16,17,18]) ?_)
 refine fh U<|KK H<|ao ?_
 refine LX hQ (F,R,AA) [0,1] [] mn U (by show List.all _ _=true; simp only [eH,List.all_nil,pI,Bool.and_true]; rfl) U ?_ ?_
 ·(rw [(HC A I hf).2]; rfl)
 ·exact C
end
section
open Go.RowKit
theorem iN (n lo hi:Int):
 dF Tryz.prog 102 [(vI n),(vI lo),(vI hi)] [] (vB (decide (lo≤n∧n≤hi))):=by
 refine bE kr Tryz.func102 U U fun D Q hQ hN=>?_
 try dsimp only
 refine WS fun _ B=>bx 1 U<|RK B<|WS fun _ A=>rP 4 [] mn ?_
 refine bP (t:=10) U (aT fun C=>?_) (aS fun C=>?_)
 ·refine rP 5 [] mn ?_
  refine RK A<|ao<|Q1 hQ U U U ?_
  exact cB (gR.2 I)
 refine rP 5 [] mn ?_
 refine RK A<|ao<|Q1 hQ U U U ?_
 exact cB (aY I).symm
theorem BL (ts:List aq) (tsA:OA) (tsC:Nat) (hst: ∀ x∈ts,bV x) (hlen:ts.length≤12):
 qf Tryz.prog 225 [(vA (bR.cells (bR.mk (bK.mk tsA ts.length tsC))))] [(rd tsA ts.length 9 (ts.map aq.cells))] (fun (x:(OA)×Nat)=>(vS x.1 ((iy ts (ts.length+1)).length) x.2)) (fun (x:(OA)×Nat)=>True) (fun (x:(OA)×Nat)=>[(own x.1 x.2 65 2 ((iy ts (ts.length+1)).map ai.cells))]):=by
 refine fJ kr Tryz.func225 U U fun V Q hQ hN=>?_
 try dsimp only
 refine WS fun _ J=>ed U fun AA=>bx 1 U<|RK J<|WS fun _ K=>bx 1 U<|RK K<|ak fun _ L=>WS fun _ M=>rP 1 [] mn ?_
 refine RK M<|aC<|fR 65 2 ?_
 have A:(0≤ts.length+1):=by exact Nat.zero_le _
 refine bQ (ι:={z:Nat×(OA)×Nat // (z.1≤ts.length+1)}) [1] [1,2] U U (fun z=>[(3,(vS z.1.2.1 ((iy ts z.1.1).length) z.1.2.2)),(4,(vI (z.1.1:Int)))]) (fun z=>[(own z.1.2.1 z.1.2.2 65 2 ((iy ts z.1.1).map ai.cells))]) (fun _=>rfl) (fun _=>rfl) (fun z=>ts.length+1-z.1.1) ⟨(0,none,0),A⟩ (bu U) (aN [1,2,0]) ?_
 clear A
 rintro ⟨⟨i,a,c⟩,B⟩ J6 AB
 try dsimp only at B
 try dsimp only
 refine ak fun _ N=>WS fun _ O=>rP 5 [] (mc 0 U mn) ?_
 refine RK O<|bO U (aS fun T=>?_) (aT fun T=>?_)
 ·refine bM<|ag<|ag<|aG<|KK L<|WS fun _ E=>?_
  obtain rfl:i=ts.length+1:=by omega
  refine rP 2 [] mn ?_
  refine RK E<|ao<|LX hQ (a,c) [2] [] mn U U U U ?_
  trivial
 refine WK N<|ak fun _ C=>aC<|WS fun _ D=>er 2 [] (mc 0 U mn) U<|rS (CL (zm ts tsA tsC 0 (i:Int) hst hlen I) (br [1]) U)<|bx 3 U<|AL U dV fun P=>AL U dV fun R=>pZ U cT U<|fj U cT U<|RK D<|au<|rP 2 [] (mc 1 U mn) ?_
 refine eP (xs:=[.tmp 21]) (cs:=(ai.cells (eG ts (0:Int).toNat ((i:Int)-0).toNat))) U lq dV U U U U (by simp [Value.cells,ai.bB]) U U fun S=>?_
 refine dA (es2:=(List.map ai.cells (iy ts (i+1)))) (m':=(iy ts (i+1)).length) 5 U U U EA U U sm (bq (es:=List.map ai.cells [(eG ts (0:Int).toNat ((i:Int)-0).toNat)]) 0 U U (by simp [ai.bB]) U) (kU _) (by simp only [oI]; omega) (by simp only [maxLen,oI]; omega) (by rw [Bn]; simp) sm U fun G H=>?_
 try dsimp only
 refine bx 1 U<|aD<|aK<|KK C<|au<|rP 3 [] mn ?_
 refine aD ?_
 have F:(vI (((i+1):Nat):Int))=(vI ((i:Int)+1)):=by exact cI I
 refine bj (AB ⟨((i+1),G,H),(by first|omega|(simp only []; omega))⟩ _ _ _ U os (dh.cons U<|dh.cons U<|a_ U F<|dh.nil _) (aN [3,4,5]))
theorem QM (ts:List aq) (tsA:OA) (tsC:Nat) (s:c_) (hlen:ts.length≤1000000) (hside: ∀ x∈ts,0≤x.iW∧x.iW≤255):
 dF Tryz.prog 215 [(vA (bR.cells (bR.mk (bK.mk tsA ts.length tsC)))),(vA (c_.cells s))] [(rd tsA ts.length 9 (ts.map aq.cells))] (vT [(vA (ai.cells (OO ts s))),(vI (EE ts s))]):=by
 refine bE kr Tryz.func215 U U fun r Q hQ hN=>?_
 try dsimp only
 refine WS fun _ R=>ed U fun i=>ed U fun k=>AL U dV fun l=>bx 1 U<|RK R<|ak fun _ S=>WS fun _ T=>er 1 [] (mc 2 U mn) U<|rS (CL (wc ts tsA tsC hlen) (br [3]) U)<|rP 1 [] mn ?_
 refine RK T<|cr U (fun AB=>?_) (fun AB=>?_)
 ·rw [Bool.not_eq_true'] at AB
  refine WS fun _ AA=>rS (SX (bG (xs:=[]) (cs:=(ai.cells (ai.mk 0 0))) U U (bH gU U)) U U)<|fj U cT U<|rP 1 [] mn ?_
  refine RK AA<|ao<|lS hQ [0] (mc 0 U mn) U ?_
  (have e:=Iu (s:=s) (by simpa using AB); rw [e.1,e.2]<;>rfl)
 rw [Bool.not_eq_false'] at AB
 refine WK S<|ak fun _ V=>WS fun _ W=>?_
 have M:=j7 AB
 have Z:=kZ AB
 refine er 2 [0,1] (mc 2 U (mc 1 U mn)) U<|rS (CL (rD ts tsA tsC s asm asm) (br [3]) U)<|rP 1 [] mn ?_
 refine RK W<|cr U (aW fun D=>?_) (aV fun D=>?_)
 ·refine WS fun _ O=>rS (SX (bG (xs:=[]) (cs:=(ai.cells (ai.mk 0 0))) U U (bH gU U)) U U)<|fj U cT U<|rP 1 [] mn ?_
  refine RK O<|ao<|lS hQ [0] (mc 0 U mn) U ?_
  (have e:=Hp AB D; rw [e.1,e.2]<;>rfl)
 refine WK V<|ak fun _ H=>mx ck [0,2,3] [1,4,5,6,7] [false,false,false] [] [(cy l 65 (ai.cells (ai.mk 0 0))),(cy k 135 (c_.cells s)),(cy i 24 (bR.cells (bR.mk (bK.mk tsA ts.length tsC)))),(rd tsA ts.length 9 (ts.map aq.cells)).ro] [] kr (aN [0,1,2,3]) (aN []) ?_
 have q:=D.1
 have N:=qM M D
 have p:(iy ts (ts.length+1)).length=ts.length+1:=oI
 refine eS U (LW 2 U bX U U)<|eS U (FA 0 U eV U)<|eS U (L1 (vI s.bw) 1 U bX U U)<|eo U<|mj [1,6] kr (ik ?_<|ik ?_<|pg)
 rotate_left 1
 ·refine NO U U [1,4,5,7] fun T12 J=>AL U dV fun f=>RD J 1 U<|N1 1<|NO U U [4,5,7] fun T14 P=>cX (BL ts tsA tsC asm asm) (br [4]) U fun Y b=>?_
  obtain ⟨d,o⟩:=Y
  try dsimp only
  refine RD P 2 U<|N1 4<|NO U U [5,7] fun T19 E=>?_
  obtain ⟨z,hz⟩:=aF (iy ts (ts.length+1)) ((s.bw).toNat) I
  have A:=bJ ai.cells hz
  refine rS (IA ((s.bw).toNat) U (aL (n:=(iy ts (ts.length+1)).length) 0 U sm) lq dc I I)<|RD E 2 U<|N1 5<|NO U U [7] fun T20 F=>rS (jL ((s.bw).toNat) 0 (ai.cells z) U bX (aL (n:=(iy ts (ts.length+1)).length) 0 U sm) A U dc U U)<|RD F 2 U<|N1 7<|NO U U [] fun T21 C=>pZ U cT U<|RD C 2 U<|lp<|KK H<|WS fun _ B=>rP 1 [] mn ?_
  have A:=pQ hz
  have G:=mu M 0 s.bw.toNat
  unfold lQ at N
  rw [← A] at G
  refine er 11 [0,1,0,1] (mc 1 U (mc 3 U mn)) U<|rS (SX (bG (xs:=[(0,.tmp 27),(1,.tmp 33)]) (cs:=(ai.cells (ai.mk (z.Lo+s.lP.Lo) (z.Hi+s.lP.Hi)))) U U (bH gU U)) U U)<|DG U cT U<|rP 1 [] mn ?_
  refine RK B<|ao<|lS hQ [0] (mc 2 U mn) U ?_
  (have e:=xy AB D; subst A; rw [e.1,e.2]<;>rfl)
 refine NO U U [4,5,6,7] fun T12 J=>cX (BL ts tsA tsC asm asm) (br [3]) U fun X a=>?_
 obtain ⟨c,m⟩:=X
 try dsimp only
 refine RD J 1 U<|mj [4,6] kr (ik ?_<|ik ?_<|pg)
 rotate_left 1
 ·refine NO U U [4,5,7] fun T17 K=>AL U dV fun g=>RD K 2 U<|N1 4<|NO U U [5,7] fun T19 E=>?_
  obtain ⟨z,hz⟩:=aF (iy ts (ts.length+1)) ((s.bw).toNat) I
  have A:=bJ ai.cells hz
  refine rS (IA ((s.bw).toNat) U (aL (n:=(iy ts (ts.length+1)).length) 1 U sm) lq dc I I)<|RD E 2 U<|N1 5<|NO U U [7] fun T20 F=>rS (jL ((s.bw).toNat) 0 (ai.cells z) U bX (aL (n:=(iy ts (ts.length+1)).length) 1 U sm) A U dc U U)<|RD F 2 U<|N1 7<|NO U U [] fun T21 C=>fj U cT U<|RD C 2 U<|lp<|KK H<|WS fun _ B=>rP 1 [] mn ?_
  have A:=pQ hz
  have G:=mu M 0 s.bw.toNat
  unfold lQ at N
  rw [← A] at G
  refine er 11 [0,1,0,1] (mc 0 U (mc 3 U mn)) U<|rS (SX (bG (xs:=[(0,.tmp 27),(1,.tmp 33)]) (cs:=(ai.cells (ai.mk (z.Lo+s.lP.Lo) (z.Hi+s.lP.Hi)))) U U (bH gU U)) U U)<|DG U cT U<|rP 1 [] mn ?_
  refine RK B<|ao<|lS hQ [0] (mc 2 U mn) U ?_
  (have e:=xy AB D; subst A; rw [e.1,e.2]<;>rfl)
 refine NO U U [5,6,7] fun T17 K=>?_
 obtain ⟨z,hz⟩:=aF (iy ts (ts.length+1)) ((s.bw).toNat) I
 have A:=bJ ai.cells hz
 refine rS (IA ((s.bw).toNat) U (aL (n:=(iy ts (ts.length+1)).length) 0 U sm) lq dc I I)<|RD K 1 U<|mj [5,6] kr (ik ?_<|ik ?_<|pg)
 rotate_left 1
 ·refine NO U U [5,7] fun T18 L=>AL U dV fun h=>RD L 2 U<|N1 5<|NO U U [7] fun T20 F=>rS (jL ((s.bw).toNat) 0 (ai.cells z) U bX (aL (n:=(iy ts (ts.length+1)).length) 1 U sm) A U dc U U)<|RD F 2 U<|N1 7<|NO U U [] fun T21 C=>fj U cT U<|RD C 2 U<|lp<|KK H<|WS fun _ B=>rP 1 [] mn ?_
  have A:=pQ hz
  have G:=mu M 0 s.bw.toNat
  unfold lQ at N
  rw [← A] at G
  refine er 11 [0,1,0,1] (mc 0 U (mc 3 U mn)) U<|rS (SX (bG (xs:=[(0,.tmp 27),(1,.tmp 33)]) (cs:=(ai.cells (ai.mk (z.Lo+s.lP.Lo) (z.Hi+s.lP.Hi)))) U U (bH gU U)) U U)<|DG U cT U<|rP 1 [] mn ?_
  refine RK B<|ao<|lS hQ [0] (mc 2 U mn) U ?_
  (have e:=xy AB D; subst A; rw [e.1,e.2]<;>rfl)
 refine NO U U [6,7] fun T18 L=>rS (jL ((s.bw).toNat) 0 (ai.cells z) U bX (aL (n:=(iy ts (ts.length+1)).length) 0 U sm) A U dc U U)<|RD L 1 U<|N1 6<|NO U U [7] fun T19 E=>AL U dV fun j=>RD E 2 U<|N1 7<|NO U U [] fun T21 C=>fj U cT U<|RD C 2 U<|lp<|KK H<|WS fun _ B=>rP 1 [] mn ?_
 have A:=pQ hz
 have G:=mu M 0 s.bw.toNat
 unfold lQ at N
 rw [← A] at G
 refine er 11 [0,1,0,1] (mc 0 U (mc 3 U mn)) U<|rS (SX (bG (xs:=[(0,.tmp 27),(1,.tmp 33)]) (cs:=(ai.cells (ai.mk (z.Lo+s.lP.Lo) (z.Hi+s.lP.Hi)))) U U (bH gU U)) U U)<|DG U cT U<|rP 1 [] mn ?_
 refine RK B<|ao<|lS hQ [0] (mc 2 U mn) U ?_
 (have e:=xy AB D; subst A; rw [e.1,e.2]<;>rfl)
theorem FQ (ts:List aq) (tsA:OA) (tsC:Nat) (p:c_) (q:c_) (hlen:ts.length≤1000000) (hside: ∀ x∈ts,0≤x.iW∧x.iW≤255) (hord: ¬ q.bw<p.bw):
 dF Tryz.prog 216 [(vA (bR.cells (bR.mk (bK.mk tsA ts.length tsC)))),(vA (c_.cells p)),(vA (c_.cells q))] [(rd tsA ts.length 9 (ts.map aq.cells))] (vT [(vA (ai.cells (k7 ts p q))),(vI (l0 ts p q))]):=by
 refine bE kr Tryz.func216 U U fun k Q hQ hN=>?_
 try dsimp only
 refine WS fun _ N=>ed U fun f=>ed U fun g=>ed U fun i=>AL U dV fun j=>bx 1 U<|RK N<|ak fun _ O=>WS fun _ P=>er 1 [] (mc 3 U mn) U<|rS (CL (wc ts tsA tsC hlen) (br [4]) U)<|rP 1 [] mn ?_
 refine RK P<|cr U (fun A=>?_) (fun A=>?_)
 ·rw [Bool.not_eq_true'] at A
  refine WS fun _ R=>rS (SX (bG (xs:=[]) (cs:=(ai.cells (ai.mk 0 0))) U U (bH gU U)) U U)<|fj U cT U<|rP 1 [] mn ?_
  refine RK R<|ao<|lS hQ [0] (mc 0 U mn) U ?_
  (have e:=uJ (a:=p) (b:=q) (by simpa using A); rw [e.1,e.2]<;>rfl)
 rw [Bool.not_eq_false'] at A
 refine WK O<|ak fun _ S=>WS fun _ E=>?_
 have D:=j7 A
 have M:=kZ A
 refine er 2 [0,1] (mc 3 U (mc 2 U mn)) U<|rS (CL (rD ts tsA tsC p asm asm) (br [4]) U)<|rP 2 [] mn ?_
 refine bP (t:=20) U (aW fun B=>?_) (aV fun B=>?_)
 ·refine bx 5 U<|RK E<|aI U<|WS fun _ G=>rS (SX (bG (xs:=[]) (cs:=(ai.cells (ai.mk 0 0))) U U (bH gU U)) U U)<|fj U cT U<|rP 1 [] mn ?_
  refine RK G<|ao<|lS hQ [0] (mc 0 U mn) U ?_
  (have e:=oP (a:=p) (b:=q) A (fun h=>by first|exact B h.1|exact C h.2); rw [e.1,e.2]<;>rfl)
 refine er 2 [0,1] (mc 3 U (mc 1 U mn)) U<|rS (CL (rD ts tsA tsC q asm asm) (br [4]) U)<|rP 2 [] mn ?_
 refine RK E<|cr U (aW fun C=>?_) (aV fun C=>?_)
 ·refine WS fun _ H=>rS (SX (bG (xs:=[]) (cs:=(ai.cells (ai.mk 0 0))) U U (bH gU U)) U U)<|fj U cT U<|rP 1 [] mn ?_
  refine RK H<|ao<|lS hQ [0] (mc 0 U mn) U ?_
  (have e:=oP (a:=p) (b:=q) A (fun h=>by first|exact B h.1|exact C h.2); rw [e.1,e.2]<;>rfl)
 refine WK S<|ak fun _ AB=>WS fun _ J=>?_
 have AA:fU ts p∧fU ts q:=⟨B,C⟩
 have T:=qM D B
 have V:=qM D C
 have c:=B.1
 have d:=C.1
 have Y:=xd D M C B
 unfold lQ at T V
 refine rP 5 [0,1] (mc 1 U (mc 2 U mn)) ?_
 refine RK J<|cr U (aT fun F=>?_) (aS fun F=>?_)
 ·exfalso; omega
 refine WK AB<|WS fun _ K=>rP 2 [] (mc 3 U mn) ?_
 have Z:=mu D p.bw.toNat (q.bw-p.bw).toNat
 refine er 3 [0,1] (mc 2 U (mc 1 U mn)) U<|rS (CL (zm ts tsA tsC p.bw q.bw asm asm I) (br [4]) U)<|bx 3 U<|AL U dV fun W=>AL U dV fun X=>pZ U cT U<|fj U cT U<|RK K<|WS fun _ L=>er 20 [0,1,2,0,1,2] (mc 1 U (mc 3 U (mc 4 U mn))) U<|rS (SX (bG (xs:=[(0,.tmp 64),(1,.tmp 74)]) (cs:=(ai.cells (ai.mk ((((eG ts p.bw.toNat (q.bw-p.bw).toNat).Lo)+q.lP.Lo)-p.lP.Hi) ((((eG ts p.bw.toNat (q.bw-p.bw).toNat).Hi)+q.lP.Hi)-p.lP.Lo)))) U U (bH gU U)) U U)<|DG U cT U<|rP 1 [] mn ?_
 refine RK L<|ao<|lS hQ [0] (mc 2 U mn) U ?_
 (have e:=lM A AA; rw [e.1,e.2,qv F]<;>rfl)
theorem H8 (ts:List aq) (tsA:OA) (tsC:Nat) (p:c_) (q:c_) (hlen:ts.length≤1000000) (hside: ∀ x∈ts,0≤x.iW∧x.iW≤255):
 dF Tryz.prog 216 [(vA (bR.cells (bR.mk (bK.mk tsA ts.length tsC)))),(vA (c_.cells p)),(vA (c_.cells q))] [(rd tsA ts.length 9 (ts.map aq.cells))] (vT [(vA (ai.cells (k7 ts p q))),(vI (l0 ts p q))]):=by
 refine bE kr Tryz.func216 U U fun u Q hQ hN=>?_
 try dsimp only
 refine WS fun _ S=>ed U fun n=>ed U fun o=>ed U fun r=>AL U dV fun s=>bx 1 U<|RK S<|ak fun _ T=>WS fun _ AA=>er 1 [] (mc 3 U mn) U<|rS (CL (wc ts tsA tsC hlen) (br [4]) U)<|rP 1 [] mn ?_
 refine RK AA<|cr U (fun A=>?_) (fun A=>?_)
 ·rw [Bool.not_eq_true'] at A
  refine WS fun _ V=>rS (SX (bG (xs:=[]) (cs:=(ai.cells (ai.mk 0 0))) U U (bH gU U)) U U)<|fj U cT U<|rP 1 [] mn ?_
  refine RK V<|ao<|lS hQ [0] (mc 0 U mn) U ?_
  (have e:=uJ (a:=p) (b:=q) (by simpa using A); rw [e.1,e.2]<;>rfl)
 rw [Bool.not_eq_false'] at A
 refine WK T<|ak fun _ W=>WS fun _ E=>?_
 have D:=j7 A
 have P:=kZ A
 refine er 2 [0,1] (mc 3 U (mc 2 U mn)) U<|rS (CL (rD ts tsA tsC p asm asm) (br [4]) U)<|rP 2 [] mn ?_
 refine bP (t:=20) U (aW fun B=>?_) (aV fun B=>?_)
 ·refine bx 5 U<|RK E<|aI U<|WS fun _ G=>rS (SX (bG (xs:=[]) (cs:=(ai.cells (ai.mk 0 0))) U U (bH gU U)) U U)<|fj U cT U<|rP 1 [] mn ?_
  refine RK G<|ao<|lS hQ [0] (mc 0 U mn) U ?_
  (have e:=oP (a:=p) (b:=q) A (fun h=>by first|exact B h.1|exact C h.2); rw [e.1,e.2]<;>rfl)
 refine er 2 [0,1] (mc 3 U (mc 1 U mn)) U<|rS (CL (rD ts tsA tsC q asm asm) (br [4]) U)<|rP 2 [] mn ?_
 refine RK E<|cr U (aW fun C=>?_) (aV fun C=>?_)
 ·refine WS fun _ H=>rS (SX (bG (xs:=[]) (cs:=(ai.cells (ai.mk 0 0))) U U (bH gU U)) U U)<|fj U cT U<|rP 1 [] mn ?_
  refine RK H<|ao<|lS hQ [0] (mc 0 U mn) U ?_
  (have e:=oP (a:=p) (b:=q) A (fun h=>by first|exact B h.1|exact C h.2); rw [e.1,e.2]<;>rfl)
 refine WK W<|ak fun _ AB=>WS fun _ J=>?_
 have R:fU ts p∧fU ts q:=⟨B,C⟩
 have X:=qM D B
 have Y:=qM D C
 have l:=B.1
 have m:=C.1
 have j:=xd D P C B
 unfold lQ at X Y
 refine rP 5 [0,1] (mc 1 U (mc 2 U mn)) ?_
 refine RK J<|cr U (aT fun F=>?_) (aS fun F=>?_)
 ·refine WS fun _ K=>er 3 [0,1,2] (mc 3 U (mc 1 U (mc 2 U mn))) U<|rS (CL (FQ ts tsA tsC q p hlen hside I) (br [4]) U)<|bx 3 U<|AL U dV fun d=>fj U cT U<|bx 1 U<|RK K<|WS fun _ L=>rP 2 [] (mc 0 U mn) ?_
  have O:k7 ts q p=kf ts q p:=(lM A ⟨C,B⟩).2
  have Z: -400000≤(k7 ts q p).Lo∧(k7 ts q p).Hi≤400000:=by rw [O]; omega
  have c:(k7 ts q p).Lo≤(k7 ts q p).Hi:=by rw [O]; omega
  refine rS (NG U ⟨I,I⟩)<|er 2 [] (mc 0 U mn) U<|rS (NG U ⟨I,I⟩)<|rS (SX (bG (xs:=[(0,.tmp 41),(1,.tmp 44)]) (cs:=(ai.cells (ai.mk (-((k7 ts q p).Hi)) (-((k7 ts q p).Lo))))) U U (bH gU U)) U U)<|pZ U cT U<|rP 1 [] mn ?_
  refine RK L<|ao<|lS hQ [0] (mc 1 U mn) U ?_
  (have e:=lM A R; have i:=lM A ⟨C,B⟩; rw [e.1,e.2,i.2,Df F]<;>rfl)
 refine WK AB<|WS fun _ M=>rP 2 [] (mc 3 U mn) ?_
 have k:=mu D p.bw.toNat (q.bw-p.bw).toNat
 refine er 3 [0,1] (mc 2 U (mc 1 U mn)) U<|rS (CL (zm ts tsA tsC p.bw q.bw asm asm I) (br [4]) U)<|bx 3 U<|AL U dV fun f=>AL U dV fun g=>pZ U cT U<|fj U cT U<|RK M<|WS fun _ N=>er 20 [0,1,2,0,1,2] (mc 1 U (mc 3 U (mc 4 U mn))) U<|rS (SX (bG (xs:=[(0,.tmp 64),(1,.tmp 74)]) (cs:=(ai.cells (ai.mk ((((eG ts p.bw.toNat (q.bw-p.bw).toNat).Lo)+q.lP.Lo)-p.lP.Hi) ((((eG ts p.bw.toNat (q.bw-p.bw).toNat).Hi)+q.lP.Hi)-p.lP.Lo)))) U U (bH gU U)) U U)<|DG U cT U<|rP 1 [] mn ?_
 refine RK N<|ao<|lS hQ [0] (mc 2 U mn) U ?_
 (have e:=lM A R; rw [e.1,e.2,qv F]<;>rfl)
end
section
open Go.RowKit
theorem Ie (l:bo) (kA:OA) (kC:Nat) (az:List RA) (cA:OA) (cC:Nat) (bA:OA) (bC:Nat) (hraw:th l az):
 dF Tryz.prog 84 [(vA (cu.cells (jr l kA kC cA cC bA bC)))] [(rd kA l.aO.length 9 (l.aO.map aq.cells)),(rd cA l.aj.length 2 (List.zipWith av.cells l.aj az)),(dL (bk av.fu l.aj az)),(rd bA l.ab.length 4 (l.ab.map bL.cells))] (vB (decide (ld l))):=by
 have e:=hraw.qm
 have d:=hraw.qj
 have a:=hraw.mq
 have b:=hraw.qi
 refine bE kr Tryz.func84 U U fun g Q hQ hN=>?_
 try dsimp only
 refine WS fun _ O=>ed U fun f=>bx 1 U<|RK O<|ak fun _ P=>WS fun _ D=>bx 1 U<|rS (LP (bR.cells (bR.mk (bK.mk kA l.aO.length kC))) 0 U bX U U U)<|rS (CL (Kv l.aO kA kC) (br [1]) U)<|rP 1 [] mn ?_
 refine bP (t:=7) U (aT fun Z=>?_) (aS fun Z=>?_)
 ·refine bx 11 U<|RK D<|aI U<|WS fun _ R=>rP 1 [] mn ?_
  refine RK R<|ao<|Q1 hQ U U U ?_
  exact cB (cJ (.inl I)).symm
 refine rP 6 [] (mc 0 U mn) ?_
 refine bP (t:=13) U (aT fun C=>?_) (aS fun C=>?_)
 ·refine bx 5 U<|RK D<|aI U<|WS fun _ S=>rP 1 [] mn ?_
  refine RK S<|ao<|Q1 hQ U U U ?_
  exact cB (cJ (.inl I)).symm
 refine rP 5 [] (mc 0 U mn) ?_
 refine RK D<|cr U (aT fun N=>?_) (aS fun N=>?_)
 ·refine WS fun _ T=>rP 1 [] mn ?_
  refine RK T<|ao<|Q1 hQ U U U ?_
  exact cB (cJ (.inl I)).symm
 refine WK P<|ak fun _ AA=>WS fun _ V=>rP 1 [] mn ?_
 refine RK V<|aC ?_
 have A:(0≤l.aj.length)∧(zZ l 0):=by exact ⟨Nat.zero_le _,fun j c hj=>absurd hj (Nat.not_lt_zero _)⟩
 refine bQ (ι:={z:Nat // (z≤l.aj.length)∧(zZ l z)}) [1] [0,1,2,3,4] U U (fun z=>[(3,(vI (z.1:Int)))]) (fun z=>[]) (fun _=>rfl) (fun _=>rfl) (fun z=>l.aj.length-z.1) ⟨0,A⟩ (bu U) (aN [0,1,2,3,4]) ?_
 clear A
 rintro ⟨i,⟨W,B⟩⟩ J10 F
 try dsimp only
 refine ak fun _ G=>WS fun _ H=>rP 5 [] (mc 0 U mn) ?_
 refine RK H<|bO U (aS fun C=>?_) (aT fun C=>?_)
 ·refine bM<|ag<|ag<|aG<|KK AA<|WS fun _ L=>rP 1 [] mn ?_
  refine RK L<|ao<|Q1 hQ U U U ?_
  exact cB (aY (H6 I I B)).symm
 refine WK G<|ak fun _ AB=>aC<|WS fun _ J=>rP 3 [] (mc 0 U mn) ?_
 obtain ⟨x,hx⟩:=aF l.aj i I
 obtain ⟨xa,X⟩:=aF az i I
 have Y:(List.zipWith av.cells l.aj az)[i]? =some (av.cells x xa):=cZ hx X
 refine rS (IA i U (ax 2 U) yk dc I I)<|rS (oL ((i*2)+1) U (ax 2 U) (Nat.mul_pos I dc) eV U)<|rS (h_ i 1 (vS xa.1 x.bp.length xa.2) U bX (ax 2 U) Y U dc U)<|rP 2 [] mn ?_
 refine RK J<|cr U (aT fun E=>?_) (aS fun E=>?_)
 ·refine WS fun _ K=>rP 1 [] mn ?_
  refine RK K<|ao<|Q1 hQ U U U ?_
  exact cB (cJ (Jo hx E)).symm
 refine cp<|aK<|KK AB<|au<|rP 3 [] mn ?_
 refine aD ?_
 have M:(vI (((i+1):Nat):Int))=(vI ((i:Int)+1)):=by exact cI I
 refine bj (F ⟨(i+1),⟨I,l8 B hx I⟩⟩ _ _ _ U os (dh.cons U<|a_ U M<|dh.nil _) (aN [0,1,2,3,4]))
theorem xQ (d m:Int) (hd:0≤d∧d≤1000) (hm:0≤m∧m≤90000000):
 dF Tryz.prog 214 [(vI d),(vI m)] [] (vI (oM (d*m) 1000000)):=by
 have J:=OI (a:=d) (b:=m) (A:=1000) (B:=90000000) hd.1 hd.2 hm.1 hm.2
 refine bE kr Tryz.func214 U U fun K Q hQ hN=>?_
 try dsimp only
 refine WS fun _ C=>bx 1 U<|RK C<|WS fun _ D=>bx 2 U<|rS (BI U (wo ⟨I,I⟩))<|bx 1 U<|RK D<|ak fun _ E=>WS fun _ F=>bx 1 U<|rS (BI U (Rx I I))<|rP 1 [] mn ?_
 refine RK F<|cr U (aT fun AA=>?_) (aS fun AA=>?_)
 ·refine WS fun _ G=>bx 1 U<|rS (BI U (tU I I I))<|rP 2 [] mn ?_
  refine RK G<|ao<|Q1 hQ U U U ?_
  exact cI (by unfold oM; omega)
 refine WK E<|WS fun _ H=>bx 1 U<|rS (BI U (tU I I I))<|rP 1 [] mn ?_
 refine RK H<|ao<|Q1 hQ U U U ?_
 exact cI (by unfold oM; omega)
theorem Hl (c:av) (sA:OA) (sC:Nat) (hlen:c.bp.length≤1000000):
 dF Tryz.prog 184 [(vA (dG.cells (dG.mk c.du (bK.mk sA c.bp.length sC))))] [(rd sA c.bp.length 3 (c.bp.map cK.cells))] (vB (decide (fy c))):=by
 refine bE kr Tryz.func184 U U fun w0 Q hQ hN=>?_
 try dsimp only
 refine WS fun _ EQ=>ed U fun b2=>bx 1 U<|RK EQ<|ak fun _ Eq=>WS fun _ A8=>er 2 [] (mc 0 U mn) U<|rS (CL (iN c.du 0 1000) (aR) U)<|rP 2 [] mn ?_
 refine bP (t:=14) U (aW fun C0=>?_) (aV fun C0=>?_)
 ·refine bx 6 U<|RK A8<|aI U<|WS fun _ FP=>rP 1 [] mn ?_
  refine RK FP<|ao<|Q1 hQ U U U ?_
  exact cB (aY fun h=>by have q1:=h.r9; have q2:=h.len; omega).symm
 refine er 3 [] (mc 0 U mn) U<|rS (CL (iN (c.bp.length:Int) 1 5) (aR) U)<|rP 2 [] mn ?_
 refine RK A8<|cr U (aW fun C1=>?_) (aV fun C1=>?_)
 ·refine WS fun _ FS=>rP 1 [] mn ?_
  refine RK FS<|ao<|Q1 hQ U U U ?_
  exact cB (aY fun h=>by have q1:=h.r9; have q2:=h.len; omega).symm
 refine WK Eq<|ak fun _ Fd=>WS fun _ Fn=>rP 1 [] mn ?_
 refine RK Fn<|aC ?_
 have A:(0≤c.bp.length)∧(∀ (j:Nat) y,j<0→c.bp[j]? =some y→fV c j y):=by exact ⟨Nat.zero_le _,fun j y hj=>absurd hj (Nat.not_lt_zero _)⟩
 refine bQ (ι:={z:Nat // (z≤c.bp.length)∧(∀ (j:Nat) y,j<z→c.bp[j]? =some y→fV c j y)}) [1] [0,1] U U (fun z=>[(3,(vI (z.1:Int)))]) (fun z=>[]) (fun _=>rfl) (fun _=>rfl) (fun z=>c.bp.length-z.1) ⟨0,A⟩ (bu U) (aN [0,1]) ?_
 clear A
 rintro ⟨i,⟨a,C⟩⟩ J9 f
 try dsimp only
 have Hi:=Ih a C
 refine ak fun _ g=>WS fun _ l=>rP 5 [] (mc 0 U mn) ?_
 refine RK l<|cr U (aT fun C2=>?_) (aS fun C2=>?_)
 ·refine WK g<|ak fun _ AA=>aC<|WS fun _ n=>rP 3 [] (mc 0 U mn) ?_
  obtain ⟨x,hx⟩:=aF c.bp i I
  have b:=bJ cK.cells hx
  refine rS (IA i U (ax 1 U) od dc I I)<|rS (jL i 0 (cK.cells x) U bX (ax 1 U) b U dc U U)<|AL U t_ fun Go=>fj U ug U<|RK n<|ak fun _ B=>cW ck 41 kr<|kv 2 [] (mc 0 U mn) U<|dS (CL (iN x.At 0 86400000) (aR) U)<|dP 2 [] mn ?_
  refine g9 (t:=37) U (aW fun C3=>?_) (aV fun C3=>?_)
  ·refine kx 36 U<|cw<|RK B<|aI U<|WS fun _ p=>rP 1 [] mn ?_
   refine RK p<|ao<|Q1 hQ U U U ?_
   exact cB (aY fun h=>by have q:=h.sync i x hx; unfold fV at q; (rw [gV I] at q; omega)).symm
  refine dP 3 [] mn ?_
  refine g0 (t:=40) U (aS fun DE=>?_) (aT fun DE=>?_)
  ·refine dP 19 [] (mc 0 U mn) ?_
   refine g9 (t:=59) U (aT fun X=>?_) (aS fun X=>?_)
   ·refine kx 14 U<|cw<|RK B<|aI U<|WS fun _ w=>rP 1 [] mn ?_
    refine RK w<|ao<|Q1 hQ U U U ?_
    exact cB (aY fun h=>by have q:=h.sync i x hx; unfold fV at q; (rw [gV I] at q; omega)).symm
   refine dP 9 [] (mc 0 U mn) ?_
   refine g9 (t:=68) U (aT fun Y=>?_) (aS fun Y=>?_)
   ·refine kx 5 U<|cw<|RK B<|aI U<|WS fun _ AC=>rP 1 [] mn ?_
    refine RK AC<|ao<|Q1 hQ U U U ?_
    exact cB (aY fun h=>by have q:=h.sync i x hx; unfold fV at q; (rw [gV I] at q; omega)).symm
   refine dP 5 [] (mc 0 U mn) ?_
   refine cw<|RK B<|bO U (aS fun Z=>?_) (aT fun Z=>?_)
   ·refine cp<|aK<|KK AA<|au<|rP 3 [] mn ?_
    refine aD ?_
    have B3:(vI (((i+1):Nat):Int))=(vI ((i:Int)+1)):=by exact cI I
    refine bj (f ⟨(i+1),⟨I,l8 C hx (by unfold fV; (rw [gV I]; omega))⟩⟩ _ _ _ U os (dh.cons U<|a_ U B3<|dh.nil _) (aN [1,2]))
   refine WS fun _ AO=>rP 1 [] mn ?_
   refine RK AO<|ao<|Q1 hQ U U U ?_
   exact cB (aY fun h=>by have q:=h.sync i x hx; unfold fV at q; (rw [gV I] at q; omega)).symm
  refine dP 6 [0,1] (mc 0 U (mc 1 U mn)) ?_
  obtain ⟨y,hy⟩:=aF c.bp (i-1) I
  have d:=bJ cK.cells hy
  refine dS (IA (i-1) U (ax 2 U) od dc I I)<|dS (oL ((i-1)*3) U (ax 2 U) (Nat.mul_pos I dc) eV U)<|dS (h_ (i-1) 0 (vI y.At) U bX (ax 2 U) d U dc U)<|dP 4 [] mn ?_
  refine g9 (t:=53) U (aT fun DW=>?_) (aS fun DW=>?_)
  ·refine kx 20 U<|cw<|RK B<|aI U<|WS fun _ r=>rP 1 [] mn ?_
   refine RK r<|ao<|Q1 hQ U U U ?_
   exact cB (aY fun h=>by have q:=h.sync i x hx; unfold fV at q; (rw [xg I hy] at q; omega)).symm
  refine dP 6 [] (mc 0 U mn) ?_
  refine g9 (t:=59) U (aT fun X=>?_) (aS fun X=>?_)
  ·refine kx 14 U<|cw<|RK B<|aI U<|WS fun _ s=>rP 1 [] mn ?_
   refine RK s<|ao<|Q1 hQ U U U ?_
   exact cB (aY fun h=>by have q:=h.sync i x hx; unfold fV at q; (rw [gV I] at q; omega)).symm
  refine dP 9 [] (mc 0 U mn) ?_
  refine g9 (t:=68) U (aT fun Y=>?_) (aS fun Y=>?_)
  ·refine kx 5 U<|cw<|RK B<|aI U<|WS fun _ u=>rP 1 [] mn ?_
   refine RK u<|ao<|Q1 hQ U U U ?_
   exact cB (aY fun h=>by have q:=h.sync i x hx; unfold fV at q; (rw [gV I] at q; omega)).symm
  refine dP 5 [] (mc 0 U mn) ?_
  refine cw<|RK B<|bO U (aS fun Z=>?_) (aT fun Z=>?_)
  ·refine cp<|aK<|KK AA<|au<|rP 3 [] mn ?_
   refine aD ?_
   have Bv:(vI (((i+1):Nat):Int))=(vI ((i:Int)+1)):=by exact cI I
   refine bj (f ⟨(i+1),⟨I,l8 C hx (by unfold fV; (rw [xg I hy]; omega))⟩⟩ _ _ _ U os (dh.cons U<|a_ U Bv<|dh.nil _) (aN [1,2]))
  refine WS fun _ v=>rP 1 [] mn ?_
  refine RK v<|ao<|Q1 hQ U U U ?_
  exact cB (aY fun h=>by have q:=h.sync i x hx; unfold fV at q; (rw [gV I] at q; omega)).symm
 refine bM<|ag<|ag<|aG<|KK Fd<|ak fun _ A0=>WS fun _ A1=>rP 1 [] mn ?_
 refine RK A1<|aC ?_
 have A:(0≤c.bp.length)∧(tF c 0):=by exact ⟨Nat.zero_le _,fun j y hj=>absurd hj (Nat.not_lt_zero _)⟩
 refine bQ (ι:={z:Nat // (z≤c.bp.length)∧(tF c z)}) [1] [0,1] U U (fun z=>[(5,(vI (z.1:Int)))]) (fun z=>[]) (fun _=>rfl) (fun _=>rfl) (fun z=>c.bp.length-z.1) ⟨0,A⟩ (bu U) (aN [0,1]) ?_
 clear A
 rintro ⟨m,⟨Ci,G⟩⟩ J28 e
 try dsimp only
 have F:=x_ (P:=fV c) I C
 refine ak fun _ A2=>WS fun _ A3=>rP 5 [] (mc 0 U mn) ?_
 refine RK A3<|bO U (aS fun Di=>?_) (aT fun Di=>?_)
 ·refine bM<|ag<|ag<|aG<|KK A0<|WS fun _ A9=>rP 1 [] mn ?_
  refine RK A9<|ao<|Q1 hQ U U U ?_
  exact cB (cJ (Ig I I (x_ I C) I G)).symm
 refine WK A2<|ak fun _ A4=>aC<|WS fun _ A5=>rP 1 [] mn ?_
 refine RK A5<|aC ?_
 have A:(0≤m)∧(∀ y,c.bp[m]? =some y→Ey c y 0):=by exact ⟨Nat.zero_le _,fun y _ j o hj=>absurd hj (Nat.not_lt_zero _)⟩
 refine bQ (ι:={z:Nat // (z≤m)∧(∀ y,c.bp[m]? =some y→Ey c y z)}) [1,5] [0,1] U U (fun z=>[(6,(vI (z.1:Int)))]) (fun z=>[]) (fun _=>rfl) (fun _=>rfl) (fun z=>m-z.1) ⟨0,A⟩ (bu U) (aN [0,1]) ?_
 clear A
 rintro ⟨k,⟨Ck,D⟩⟩ J33 T
 try dsimp only
 refine ak fun _ A6=>WS fun _ A7=>rP 3 [] mn ?_
 refine RK A7<|bO U (aS fun Do=>?_) (aT fun Do=>?_)
 ·refine bM<|ag<|ag<|aG<|aK<|KK A4<|au<|rP 3 [] mn ?_
  refine aD ?_
  have B9:(vI (((m+1):Nat):Int))=(vI ((m:Int)+1)):=by exact cI I
  refine bj (e ⟨(m+1),⟨I,Cj G D I⟩⟩ _ _ _ U os (dh.cons U<|a_ U B9<|dh.nil _) (aN [0,1]))
 refine WK A6<|ak fun _ V=>aC<|ak fun _ W=>mx ck [0,1,2,3,4,5,6,7,8,9] [10,11,12,13] [false,false,false,false,false,false,false,false,false,false] [] [(cy b2 165 (dG.cells (dG.mk c.du (bK.mk sA c.bp.length sC)))),(rd sA c.bp.length 3 (c.bp.map cK.cells)).ro] [] kr (aN [0,1]) (aN [])<|eS U (FA 1 U eV U)<|eS U (L1 (vS sA c.bp.length sC) 0 U bX U U)<|eS U (MV U) ?_
 obtain ⟨x,hx⟩:=aF c.bp k I
 have b:=bJ cK.cells hx
 refine eS U (IA k U (ax 1 U) od dc I I)<|eS U (jL k 0 (cK.cells x) U bX (ax 1 U) b U dc U U)<|eS U (FA 1 U eV U)<|eS U (L1 (vS sA c.bp.length sC) 0 U bX U U)<|eS U (MV U) ?_
 obtain ⟨y,hy⟩:=aF c.bp m I
 have d:=bJ cK.cells hy
 refine eS U (IA m U (ax 1 U) od dc I I)<|eS U (jL m 0 (cK.cells y) U bX (ax 1 U) d U dc U U)<|eo U<|mj [10,11] kr (ik ?_<|ik ?_<|pg)
 rotate_left 1
 ·refine NO U U [10,12,13] fun T38 M=>AL U t_ fun Cp=>RD M 1 U<|N1 10<|NO U U [12,13] fun T40 N=>AL U t_ fun Cx=>RD N 2 U<|N1 12<|NO U U [13] fun T42 O=>fj U ug U<|RD O 2 U<|N1 13<|NO U U [] fun T43 R=>pZ U ug U<|RD R 2 U<|lp<|KK W<|WS fun _ J=>rP 6 [0,1,2] (mc 2 U (mc 1 U (mc 0 U mn))) ?_
  obtain ⟨GE,GT,GY⟩:=uI (fun j z _ hz=>F j z hz) hy (F _ _ hy) (show k<m by omega) hx
  refine bx 1 U<|rS (CL (xQ c.du (y.At-x.At) I I) (aR) U)<|bx 1 U<|RK J<|WS fun _ E=>rP 10 [0,1] (mc 0 U (mc 1 U mn)) ?_
  refine bP (t:=113) U (aT fun H=>?_) (aS fun H=>?_)
  ·refine bx 10 U<|RK E<|aI U<|WS fun _ K=>rP 1 [] mn ?_
   refine RK K<|ao<|Q1 hQ U U U ?_
   exact cB (aY fun h=>by have q:=h.pair m k y x hy I hx; unfold oE at q; omega).symm
  refine rP 10 [0,1] (mc 1 U (mc 0 U mn)) ?_
  refine RK E<|bO U (aS fun AB=>?_) (aT fun AB=>?_)
  ·refine cp<|aK<|KK V<|au<|rP 3 [] mn ?_
   refine aD ?_
   have S:(vI (((k+1):Nat):Int))=(vI ((k:Int)+1)):=by exact cI I
   refine bj (T ⟨(k+1),⟨I,fun z hz=>by rw [hy] at hz; cases hz; exact l8 (D _ hy) hx (by unfold oE; omega)⟩⟩ _ _ _ rfl os (dh.cons rfl<|dh.cons rfl<|a_ rfl S<|dh.nil _) (aN [2,3]))
  refine WS fun _ L=>rP 1 [] mn ?_
  refine RK L<|ao<|Q1 hQ U U U ?_
  exact cB (aY fun h=>by have q:=h.pair m k y x hy I hx; unfold oE at q; omega).symm
 refine NO U U [11,12,13] fun T38 M=>AL U t_ fun Cp=>RD M 1 U<|N1 11<|NO U U [12,13] fun T40 N=>AL U t_ fun Cx=>RD N 2 U<|N1 12<|NO U U [13] fun T42 O=>pZ U ug U<|RD O 2 U<|N1 13<|NO U U [] fun T43 R=>fj U ug U<|RD R 2 U<|lp<|KK W<|WS fun _ J=>rP 6 [0,1,2] (mc 2 U (mc 0 U (mc 1 U mn))) ?_
 obtain ⟨GE,GT,GY⟩:=uI (fun j z _ hz=>F j z hz) hy (F _ _ hy) (show k<m by omega) hx
 refine bx 1 U<|rS (CL (xQ c.du (y.At-x.At) I I) (aR) U)<|bx 1 U<|RK J<|WS fun _ E=>rP 10 [0,1] (mc 1 U (mc 0 U mn)) ?_
 refine bP (t:=113) U (aT fun H=>?_) (aS fun H=>?_)
 ·refine bx 10 U<|RK E<|aI U<|WS fun _ K=>rP 1 [] mn ?_
  refine RK K<|ao<|Q1 hQ U U U ?_
  exact cB (aY fun h=>by have q:=h.pair m k y x hy I hx; unfold oE at q; omega).symm
 refine rP 10 [0,1] (mc 0 U (mc 1 U mn)) ?_
 refine RK E<|bO U (aS fun AB=>?_) (aT fun AB=>?_)
 ·refine cp<|aK<|KK V<|au<|rP 3 [] mn ?_
  refine aD ?_
  have S:(vI (((k+1):Nat):Int))=(vI ((k:Int)+1)):=by exact cI I
  refine bj (T ⟨(k+1),⟨I,fun z hz=>by rw [hy] at hz; cases hz; exact l8 (D _ hy) hx (by unfold oE; omega)⟩⟩ _ _ _ rfl os (dh.cons rfl<|dh.cons rfl<|a_ rfl S<|dh.nil _) (aN [2,3]))
 refine WS fun _ L=>rP 1 [] mn ?_
 refine RK L<|ao<|Q1 hQ U U U ?_
 exact cB (aY fun h=>by have q:=h.pair m k y x hy I hx; unfold oE at q; omega).symm
theorem BM (c:av) (sA:OA) (sC:Nat) (at_:Int) (hc:fy c) (ha:0≤at_∧at_≤90000000):
 dF Tryz.prog 224 [(vA (dG.cells (dG.mk c.du (bK.mk sA c.bp.length sC)))),(vI at_)] [(rd sA c.bp.length 3 (c.bp.map cK.cells))] (vA (ai.cells (iK c at_))):=by
 have e:=hc.len
 have W:=hc.r9
 refine bE kr Tryz.func224 U U fun j Q hQ hN=>?_
 try dsimp only
 refine WS fun _ R=>ed U fun g=>AL U dV fun h=>RK R<|WS fun _ S=>AL U dV fun d=>RK S<|ak fun _ T=>WS fun _ AA=>rP 1 [] mn ?_
 refine RK AA<|aC ?_
 have A:(0≤c.bp.length):=by exact Nat.zero_le _
 refine bQ (ι:={z:Nat // (z≤c.bp.length)}) [1,2,4,5] [1,2,3] U U (fun z=>[(6,(vI (z.1:Int)))]) (fun z=>[(cy d 65 (ai.cells (k6 c at_ z.1)))]) (fun _=>rfl) (fun _=>rfl) (fun z=>c.bp.length-z.1) ⟨0,A⟩ (bu U) (aN [1,2,3,0]) ?_
 clear A
 rintro ⟨i,X⟩ J8 D
 try dsimp only
 refine ak fun _ V=>WS fun _ E=>rP 5 [] (mc 1 U mn) ?_
 refine RK E<|bO U (aS fun O=>?_) (aT fun O=>?_)
 ·refine bM<|ag<|ag<|aG<|KK T<|WS fun _ J=>rP 1 [] (mc 3 U mn) ?_
  refine fj U cT U<|RK J<|ao<|z9 hQ [0] (mc 0 U mn) U ?_
  rw [Dc hc (show c.bp.length≤i by omega)]
 refine WK V<|ak fun _ B=>aC<|WS fun _ F=>rP 3 [] (mc 1 U mn) ?_
 obtain ⟨x,hx⟩:=aF c.bp i I
 have Z:=bJ cK.cells hx
 refine rS (IA i U (ax 2 U) od dc I I)<|rS (jL i 0 (cK.cells x) U bX (ax 2 U) Z U dc U U)<|AL U t_ fun a=>fj U ug U<|RK F<|WS fun _ G=>rP 2 [] (mc 2 U mn) ?_
 have Y:=hc.uO hx
 have f:0≤oM (c.du*max (at_-x.At) (x.At-at_)) 1000000∧oM (c.du*max (at_-x.At) (x.At-at_)) 1000000≤90001:=uQ W ha Y.1
 refine er 8 [] (mc 0 U mn) U<|rS (MX U)<|rS (CL (xQ c.du (max (at_-x.At) (x.At-at_)) I I) (aR) U)<|bx 1 U<|RK G<|WS fun _ H=>er 10 [] (mc 0 U mn) U<|rS (SX (bG (xs:=[(0,.tmp 38),(1,.tmp 43)]) (cs:=(ai.cells (ai.mk (x.dW.Lo-(oM (c.du*(max (at_-x.At) (x.At-at_))) 1000000)) (x.dW.Hi+(oM (c.du*(max (at_-x.At) (x.At-at_))) 1000000))))) U U (bH gU U)) U U)<|AL U dV fun b=>fj U cT U<|RK H<|ak fun _ C=>WS fun _ AB=>rP 2 [] mn ?_
 refine RK AB<|bO U (aS fun P=>?_) (aT fun P=>?_)
 ·refine WK C<|au<|er 4 [0,1] (mc 5 U (mc 0 U mn)) U<|rS (MX U)<|rP 4 [0,1] (mc 5 U (mc 0 U mn)) ?_
  refine rS (MN U)<|rS (SX (bG (xs:=[(0,.tmp 52),(1,.tmp 57)]) (cs:=(ai.cells (ai.mk (max ((k6 c at_ i).Lo) (x.dW.Lo-(oM (c.du*(max (at_-x.At) (x.At-at_))) 1000000))) (min ((k6 c at_ i).Hi) (x.dW.Hi+(oM (c.du*(max (at_-x.At) (x.At-at_))) 1000000)))))) U U (bH gU U)) U U)<|I4 U cT U<|aD<|aK<|KK B ?_
  have M:(ai.cells (ai.mk (max ((k6 c at_ i).Lo) (x.dW.Lo-(oM (c.du*(max (at_-x.At) (x.At-at_))) 1000000))) (min ((k6 c at_ i).Hi) (x.dW.Hi+(oM (c.du*(max (at_-x.At) (x.At-at_))) 1000000)))))=(ai.cells (k6 c at_ (i+1))):=by exact congrArg ai.cells (AD hx I).symm
  rw [M]
  refine au<|rP 3 [] mn ?_
  refine aD ?_
  have N:(vI (((i+1):Nat):Int))=(vI ((i:Int)+1)):=by exact cI I
  refine bj (D ⟨(i+1),(by first|omega|(simp only []; omega))⟩ _ _ _ U os (cN 4<|a_ U N<|dh.nil _) (aN [2,3,4,5]))
 refine au<|er 1 [] (mc 0 U mn) U<|I4 U cT U<|RK C<|au<|er 4 [0,1] (mc 5 U (mc 0 U mn)) U<|rS (MX U)<|rP 4 [0,1] (mc 5 U (mc 0 U mn)) ?_
 refine rS (MN U)<|rS (SX (bG (xs:=[(0,.tmp 52),(1,.tmp 57)]) (cs:=(ai.cells (ai.mk (max (x.dW.Lo-(oM (c.du*(max (at_-x.At) (x.At-at_))) 1000000)) (x.dW.Lo-(oM (c.du*(max (at_-x.At) (x.At-at_))) 1000000))) (min (x.dW.Hi+(oM (c.du*(max (at_-x.At) (x.At-at_))) 1000000)) (x.dW.Hi+(oM (c.du*(max (at_-x.At) (x.At-at_))) 1000000)))))) U U (bH gU U)) U U)<|I4 U cT U<|aD<|aK<|KK B ?_
 have K:(ai.cells (ai.mk (max (x.dW.Lo-(oM (c.du*(max (at_-x.At) (x.At-at_))) 1000000)) (x.dW.Lo-(oM (c.du*(max (at_-x.At) (x.At-at_))) 1000000))) (min (x.dW.Hi+(oM (c.du*(max (at_-x.At) (x.At-at_))) 1000000)) (x.dW.Hi+(oM (c.du*(max (at_-x.At) (x.At-at_))) 1000000)))))=(ai.cells (k6 c at_ (i+1))):=by exact congrArg ai.cells (zi hc ha hx I).symm
 rw [K]
 refine au<|rP 3 [] mn ?_
 refine aD ?_
 have L:(vI (((i+1):Nat):Int))=(vI ((i:Int)+1)):=by exact cI I
 refine bj (D ⟨(i+1),(by first|omega|(simp only []; omega))⟩ _ _ _ U os (cN 4<|a_ U L<|dh.nil _) (aN [2,3,4,5]))
theorem HM (l:bo) (kA:OA) (kC:Nat) (az:List RA) (cA:OA) (cC:Nat) (bA:OA) (bC:Nat) (n:Int) (hin:d_ l az) (htr:dv l.aO=true) (hbk: ∀ b∈l.ab,j4 l b) (hn:0≤n∧n<(l.ab.length:Int)):
 dF Tryz.prog 186 [(vA (cu.cells (jr l kA kC cA cC bA bC))),(vI n)] [(rd kA l.aO.length 9 (l.aO.map aq.cells)),(rd cA l.aj.length 2 (List.zipWith av.cells l.aj az)),(dL (bk av.fu l.aj az)),(rd bA l.ab.length 4 (l.ab.map bL.cells))] (vI (mo l n.toNat)):=by
 have AB:=hin.qm
 have S:=hin.qj
 have P:=hin.mq
 have R:=hin.qi
 have T:=hin.side
 refine bE kr Tryz.func186 U U fun X Q hQ hN=>?_
 try dsimp only
 refine WS fun _ G=>ed U fun V=>bx 1 U<|RK G<|ak fun _ H=>WS fun _ AC=>rP 2 [] mn ?_
 refine RK AC<|cr U (aT fun F=>?_) (aS fun F=>?_)
 ·refine ak fun _ J=>dx ck [11,12] [] [] [0,1,2,3,4] [] U U U U U<|eS U (FA 0 U eV U)<|eS U (LP (bR.cells (bR.mk (bK.mk kA l.aO.length kC))) 0 U bX U U U)<|eS U (FA 3 U eV U)<|eS U (L1 (vS bA l.ab.length bC) 0 U bX U U) ?_
  obtain ⟨y,hy⟩:=aF l.ab 0 I
  have A:=bJ bL.cells hy
  refine eS U (IA 0 U (ax 4 U) uG dc U I)<|eS U (oL (0*4) U (ax 4 U) (Nat.mul_pos I dc) eV U)<|eS U (jL 0 0 (c_.cells y.k8) U bX (ax 4 U) A U dc U U)<|eS U (CL (QM l.aO kA kC y.k8 asm asm) (br [1]) U)<|eS U (MV U)<|eS U (EX U)<|eS U (EX U)<|eS U (AG U)<|eo U<|cd U fun T6 L=>AL U dV fun W=>aD (L _ _ (aN [1,2,3,4,5]) ?_)
  refine cd U fun T8 M=>fj U cT U<|aD (M _ _ (aN [1,2,3,4,5]) ?_)
  refine fh U<|KK J<|WS fun _ K=>rP 3 [] (mc 0 U mn) ?_
  refine RK K<|ao<|Q1 hQ U U U ?_
  (refine congrArg (Value.int .i64) ?_; rw [show n.toNat=0 by omega]; rw [yF hy,(xy htr (hbk _ (List.mem_of_getElem? hy)).1).2])
 refine WK H<|ak fun _ B=>dx ck [19,20] [] [] [0,1,2,3,4] [] U U U U U<|eS U (FA 0 U eV U)<|eS U (LP (bR.cells (bR.mk (bK.mk kA l.aO.length kC))) 0 U bX U U U)<|eS U (FA 3 U eV U)<|eS U (L1 (vS bA l.ab.length bC) 0 U bX U U)<|eS U (MV U)<|eS U (BI U (xx ⟨I,I⟩)) ?_
 obtain ⟨y,hy⟩:=aF l.ab (((n-1)).toNat) I
 have A:=bJ bL.cells hy
 refine eS U (IA (((n-1)).toNat) U (ax 4 U) uG dc I I)<|eS U (oL ((((n-1)).toNat)*4) U (ax 4 U) (Nat.mul_pos I dc) eV U)<|eS U (jL (((n-1)).toNat) 0 (c_.cells y.k8) U bX (ax 4 U) A U dc U U)<|eS U (FA 3 U eV U)<|eS U (L1 (vS bA l.ab.length bC) 0 U bX U U)<|eS U (MV U) ?_
 obtain ⟨x,hx⟩:=aF l.ab ((n).toNat) I
 have N:=bJ bL.cells hx
 refine eS U (IA ((n).toNat) U (ax 4 U) uG dc I I)<|eS U (oL (((n).toNat)*4) U (ax 4 U) (Nat.mul_pos I dc) eV U)<|eS U (jL ((n).toNat) 0 (c_.cells x.k8) U bX (ax 4 U) N U dc U U)<|eS U (CL (H8 l.aO kA kC y.k8 x.k8 asm asm) (br [1]) U)<|eS U (MV U)<|eS U (EX U)<|eS U (EX U)<|eS U (AG U)<|eo U<|cd U fun T11 D=>AL U dV fun O=>aD (D _ _ (aN [1,2,3,4,5]) ?_)
 refine cd U fun T13 E=>fj U cT U<|aD (E _ _ (aN [1,2,3,4,5]) ?_)
 refine fh U<|KK B<|WS fun _ C=>rP 3 [] (mc 0 U mn) ?_
 refine RK C<|ao<|Q1 hQ U U U ?_
 (refine congrArg (Value.int .i64) ?_; rw [AA I hx (by rw [show n.toNat-1=(n-1).toNat by omega]; exact hy),(lM htr ⟨(hbk _ (List.mem_of_getElem? hy)).1,(hbk _ (List.mem_of_getElem? hx)).1⟩).2])
theorem Hy (l:bo) (kA:OA) (kC:Nat) (az:List RA) (cA:OA) (cC:Nat) (bA:OA) (bC:Nat) (n:Int) (hin:d_ l az) (htr:dv l.aO=true) (hok:l9 l) (hn:0≤n∧n<(l.ab.length:Int)):
 dF Tryz.prog 212 [(vA (cu.cells (jr l kA kC cA cC bA bC))),(vI n)] [(rd kA l.aO.length 9 (l.aO.map aq.cells)),(rd cA l.aj.length 2 (List.zipWith av.cells l.aj az)),(dL (bk av.fu l.aj az)),(rd bA l.ab.length 4 (l.ab.map bL.cells))] (vI (ej l n.toNat)):=by
 have G:=hin.qm
 have F:=hin.qj
 have D:=hin.mq
 have E:=hin.qi
 have C:=hok.head
 unfold eT at C
 have H:=B2 htr hok.ti n.toNat
 have AA:=hok.Oa n.toNat I
 refine bE kr Tryz.func212 U U fun K Q hQ hN=>?_
 try dsimp only
 refine WS fun _ A=>ed U fun J=>bx 1 U<|RK A<|ak fun _ B=>cW ck 12 kr<|kv 2 [] (mc 0 U mn) U<|dS (CL (HM l kA kC az cA cC bA bC n hin htr (by exact hok.ti) hn) (br [1,2,3,4]) U)<|dS (BI U (wo ⟨I,I⟩))<|kv 6 [] (mc 0 U mn) U<|dS (BI U (tU I I I))<|dP 1 [] mn ?_
 refine cw<|RK B<|ao<|Q1 hQ U U U ?_
 exact cI (by unfold ej oM; rw [Int.mul_comm])
theorem KB (l:bo) (kA:OA) (kC:Nat) (az:List RA) (cA:OA) (cC:Nat) (bA:OA) (bC:Nat) (hin:d_ l az) (htr:dv l.aO=true):
 dF Tryz.prog 151 [(vA (cu.cells (jr l kA kC cA cC bA bC)))] [(rd kA l.aO.length 9 (l.aO.map aq.cells)),(rd cA l.aj.length 2 (List.zipWith av.cells l.aj az)),(dL (bk av.fu l.aj az)),(rd bA l.ab.length 4 (l.ab.map bL.cells))] (vB (decide (l9 l))):=by
 have FS:=hin.qm
 have Do:=hin.qj
 have DE:=hin.mq
 have Di:=hin.qi
 have EQ:=hin.side
 have Eq:=j7 htr
 have C3:=kZ htr
 refine bE kr Tryz.func151 U U fun w0 Q hQ hN=>?_
 try dsimp only
 refine WS fun _ Bv=>ed U fun b2=>bx 1 U<|RK Bv<|ak fun _ B3=>WS fun _ D=>er 2 [] (mc 0 U mn) U<|rS (CL (iN l.ib 1 5000) (aR) U)<|rP 2 [] mn ?_
 refine bP (t:=10) U (aW fun A0=>?_) (aV fun A0=>?_)
 ·refine bx 35 U<|RK D<|aI U<|WS fun _ B9=>rP 1 [] mn ?_
  refine RK B9<|ao<|Q1 hQ U U U ?_
  exact cB (aY fun h=>by have q:=h.head; unfold eT at q; omega).symm
 refine er 3 [] (mc 0 U mn) U<|rS (CL (iN (l.aj.length:Int) 1 4) (aR) U)<|rP 3 [] mn ?_
 refine bP (t:=17) U (aW fun A1=>?_) (aV fun A1=>?_)
 ·refine bx 28 U<|RK D<|aI U<|WS fun _ Ci=>rP 1 [] mn ?_
  refine RK Ci<|ao<|Q1 hQ U U U ?_
  exact cB (aY fun h=>by have q:=h.head; unfold eT at q; omega).symm
 refine er 3 [] (mc 0 U mn) U<|rS (CL (iN (l.ab.length:Int) 1 6) (aR) U)<|rP 3 [] mn ?_
 refine bP (t:=24) U (aW fun A2=>?_) (aV fun A2=>?_)
 ·refine bx 21 U<|RK D<|aI U<|WS fun _ Ck=>rP 1 [] mn ?_
  refine RK Ck<|ao<|Q1 hQ U U U ?_
  exact cB (aY fun h=>by have q:=h.head; unfold eT at q; omega).symm
 refine er 6 [] (mc 0 U mn) U<|rS (CL (iN l.b_ 0 ((l.ab.length:Int)-1)) (aR) U)<|rP 3 [] mn ?_
 refine bP (t:=34) U (aW fun A3=>?_) (aV fun A3=>?_)
 ·refine bx 11 U<|RK D<|aI U<|WS fun _ Cp=>rP 1 [] mn ?_
  refine RK Cp<|ao<|Q1 hQ U U U ?_
  exact cB (aY fun h=>by have q:=h.head; unfold eT at q; omega).symm
 refine er 2 [] (mc 0 U mn) U<|rS (CL (iN l.e9 0 3) (aR) U)<|rP 3 [] mn ?_
 refine bP (t:=40) U (aW fun A4=>?_) (aV fun A4=>?_)
 ·refine bx 5 U<|RK D<|aI U<|WS fun _ Cx=>rP 1 [] mn ?_
  refine RK Cx<|ao<|Q1 hQ U U U ?_
  exact cB (aY fun h=>by have q:=h.head; unfold eT at q; omega).symm
 refine er 2 [] (mc 0 U mn) U<|rS (CL (iN l.dp 0 3) (aR) U)<|rP 2 [] mn ?_
 refine RK D<|cr U (aW fun A5=>?_) (aV fun A5=>?_)
 ·refine WS fun _ N=>rP 1 [] mn ?_
  refine RK N<|ao<|Q1 hQ U U U ?_
  exact cB (aY fun h=>by have q:=h.head; unfold eT at q; omega).symm
 refine WK B3<|ak fun _ O=>WS fun _ R=>rP 1 [] mn ?_
 refine RK R<|aC ?_
 have A:(0≤l.aj.length)∧(∀ (j:Nat) y,j<0→l.aj[j]? =some y→fy y):=by exact ⟨Nat.zero_le _,fun j y hj=>absurd hj (Nat.not_lt_zero _)⟩
 refine bQ (ι:={z:Nat // (z≤l.aj.length)∧(∀ (j:Nat) y,j<z→l.aj[j]? =some y→fy y)}) [1] [0,1,2,3,4] U U (fun z=>[(3,(vI (z.1:Int)))]) (fun z=>[]) (fun _=>rfl) (fun _=>rfl) (fun z=>l.aj.length-z.1) ⟨0,A⟩ (bu U) (aN [0,1,2,3,4]) ?_
 clear A
 rintro ⟨i,⟨C0,F⟩⟩ J13 K
 try dsimp only
 refine ak fun _ S=>WS fun _ T=>rP 5 [] (mc 0 U mn) ?_
 refine RK T<|cr U (aT fun A6=>?_) (aS fun A6=>?_)
 ·refine WK S<|ak fun _ AA=>aC<|WS fun _ V=>rP 3 [] (mc 0 U mn) ?_
  obtain ⟨x,hx⟩:=aF l.aj i I
  obtain ⟨xa,J⟩:=aF az i I
  have C2:(List.zipWith av.cells l.aj az)[i]? =some (av.cells x xa):=cZ hx J
  refine rS (IA i U (ax 2 U) yk dc I I)<|rS (jL i 0 (dG.cells (dG.mk x.du (bK.mk xa.1 x.bp.length xa.2))) U bX (ax 2 U) C2 U dc U U) ?_
  have FP:=(hin.QI _ _ _ hx J).2
  refine rS (CL (Hl x xa.1 xa.2 asm) (aQ (show hH _ (rd xa.1 x.bp.length 3 (x.bp.map cK.cells)).holds from (cj 3 U (bD hx J (by simp [av.fu]))))<|aR) U)<|rP 1 [] mn ?_
  refine RK V<|bO U (aV fun AB=>?_) (aW fun AB=>?_)
  ·refine cp<|aK<|KK AA<|au<|rP 3 [] mn ?_
   refine aD ?_
   have u:(vI (((i+1):Nat):Int))=(vI ((i:Int)+1)):=by exact cI I
   refine bj (K ⟨(i+1),⟨I,l8 (P:=fun _ y=>fy y) F hx AB⟩⟩ _ _ _ U os (dh.cons U<|a_ U u<|dh.nil _) (aN [0,1,2,3,4]))
  refine WS fun _ W=>rP 1 [] mn ?_
  refine RK W<|ao<|Q1 hQ U U U ?_
  exact cB (aY fun h=>AB (h.clock _ (aP hx))).symm
 refine bM<|ag<|ag<|aG<|KK O<|ak fun _ X=>WS fun _ Y=>rP 1 [] mn ?_
 refine RK Y<|aC ?_
 have A:(0≤l.ab.length)∧(∀ (j:Nat) y,j<0→l.ab[j]? =some y→j4 l y):=by exact ⟨Nat.zero_le _,fun j y hj=>absurd hj (Nat.not_lt_zero _)⟩
 refine bQ (ι:={z:Nat // (z≤l.ab.length)∧(∀ (j:Nat) y,j<z→l.ab[j]? =some y→j4 l y)}) [1] [0,1,2,3,4] U U (fun z=>[(4,(vI (z.1:Int)))]) (fun z=>[]) (fun _=>rfl) (fun _=>rfl) (fun z=>l.ab.length-z.1) ⟨0,A⟩ (bu U) (aN [0,1,2,3,4]) ?_
 clear A
 rintro ⟨m,⟨C1,B⟩⟩ J22 L
 try dsimp only
 refine ak fun _ Z=>WS fun _ a=>rP 5 [] (mc 0 U mn) ?_
 refine RK a<|bO U (aS fun A7=>?_) (aT fun A7=>?_)
 ·refine bM<|ag<|ag<|aG<|KK X<|ak fun _ e=>WS fun _ f=>rP 1 [] mn ?_
  refine RK f<|aC ?_
  have A:(0≤l.ab.length)∧(∀ j,j<0→1≤mo l j):=by exact ⟨Nat.zero_le _,fun j hj=>absurd hj (Nat.not_lt_zero _)⟩
  refine bQ (ι:={z:Nat // (z≤l.ab.length)∧(∀ j,j<z→1≤mo l j)}) [1] [0,1,2,3,4] U U (fun z=>[(5,(vI (z.1:Int)))]) (fun z=>[]) (fun _=>rfl) (fun _=>rfl) (fun z=>l.ab.length-z.1) ⟨0,A⟩ (bu U) (aN [0,1,2,3,4]) ?_
  clear A
  rintro ⟨n,⟨AO,C⟩⟩ J32 M
  try dsimp only
  have DW:=wu (P:=j4 l) I B
  refine ak fun _ g=>WS fun _ k=>rP 5 [] (mc 0 U mn) ?_
  refine RK k<|bO U (aS fun A9=>?_) (aT fun A9=>?_)
  ·refine bM<|ag<|ag<|aG<|KK e<|WS fun _ s=>rP 1 [] mn ?_
   refine RK s<|ao<|Q1 hQ U U U ?_
   exact cB (cJ (y_ (by unfold eT; omega) (wu I F) (wu I B) (fun j hj=>C j I))).symm
  refine WK g<|ak fun _ o=>aC<|WS fun _ p=>er 2 [] (mc 0 U mn) U<|rS (CL (HM l kA kC az cA cC bA bC (n:Int) hin htr asm I) (br [1,2,3,4]) U)<|rP 1 [] mn ?_
  refine RK p<|bO U (aS fun E=>?_) (aT fun E=>?_)
  ·refine cp<|aK<|KK o<|au<|rP 3 [] mn ?_
   refine aD ?_
   have w:(vI (((n+1):Nat):Int))=(vI ((n:Int)+1)):=by exact cI I
   refine bj (M ⟨(n+1),⟨I,fun j hj=>by rcases Nat.lt_or_ge j n with q|q; exact C j q; (obtain rfl:j=n:=by omega); simp only [Int.toNat_natCast] at E; omega⟩⟩ _ _ _ rfl os (dh.cons rfl<|a_ rfl w<|dh.nil _) (aN [0,1,2,3,4]))
  refine WS fun _ r=>rP 1 [] mn ?_
  refine RK r<|ao<|Q1 hQ U U U ?_
  exact cB (aY fun h=>by have q:=h.Oa n I; simp only [Int.toNat_natCast] at E; omega).symm
 refine WK Z<|ak fun _ b=>aC<|ak fun _ H=>cW ck 24 kr<|kx 1 U<|dS (LP (bR.cells (bR.mk (bK.mk kA l.aO.length kC))) 0 U bX U U U)<|dP 3 [] (mc 0 U mn) ?_
 obtain ⟨y,hy⟩:=aF l.ab m I
 have AC:=bJ bL.cells hy
 refine dS (IA m U (ax 4 U) uG dc I I)<|dS (oL (m*4) U (ax 4 U) (Nat.mul_pos I dc) eV U)<|dS (jL m 0 (c_.cells y.k8) U bX (ax 4 U) AC U dc U U)<|dS (CL (rD l.aO kA kC y.k8 asm asm) (br [1]) U)<|dP 2 [] mn ?_
 refine g9 (t:=77) U (aW fun G=>?_) (aV fun G=>?_)
 ·refine kx 13 U<|cw<|RK H<|aI U<|WS fun _ c=>rP 1 [] mn ?_
  refine RK c<|ao<|Q1 hQ U U U ?_
  exact cB (aY fun h=>by have q:=h.ti _ (aP hy); have q2:=q.2; first|exact G q.1|omega).symm
 refine kv 3 [] (mc 0 U mn) U<|dS (IA m U (ax 4 U) uG dc I I)<|dS (oL ((m*4)+3) U (ax 4 U) (Nat.mul_pos I dc) eV U)<|dS (h_ m 3 (vI y.jO) U bX (ax 4 U) AC U dc U)<|kv 4 [] (mc 0 U mn) U<|dS (CL (iN y.jO 0 ((l.aj.length:Int)-1)) (aR) U)<|dP 2 [] mn ?_
 refine cw<|RK H<|bO U (aV fun A8=>?_) (aW fun A8=>?_)
 ·refine cp<|aK<|KK b<|au<|rP 3 [] mn ?_
  refine aD ?_
  have v:(vI (((m+1):Nat):Int))=(vI ((m:Int)+1)):=by exact cI I
  refine bj (L ⟨(m+1),⟨I,l8 (P:=fun _ y=>j4 l y) B hy ⟨G,I,I⟩⟩⟩ _ _ _ U os (dh.cons U<|a_ U v<|dh.nil _) (aN [0,1,2,3,4]))
 refine WS fun _ d=>rP 1 [] mn ?_
 refine RK d<|ao<|Q1 hQ U U U ?_
 exact cB (aY fun h=>by have q:=h.ti _ (aP hy); have q2:=q.2; first|exact G q.1|omega).symm
end
section
open Go.RowKit
theorem Ad (r:eM) (kA:OA) (kC:Nat) (az:List RA) (cA:OA) (cC:Nat) (bA:OA) (bC:Nat) (slA:OA) (slC:Nat) (drA:OA) (drC:Nat) (ha:List cU) (heA:OA) (heC:Nat) (hraw:uj r az ha):
 dF Tryz.prog 45 [(vA (fF.cells (xH r kA kC cA cC bA bC slA slC drA drC heA heC)))] [(rd kA r.ar.aO.length 9 (r.ar.aO.map aq.cells)),(rd cA r.ar.aj.length 2 (List.zipWith av.cells r.ar.aj az)),(dL (bk av.fu r.ar.aj az)),(rd bA r.ar.ab.length 4 (r.ar.ab.map bL.cells)),(rd slA r.bg.length 1 (r.bg.map iC)),(rd drA r.cm.length 1 (r.cm.map iC)),(rd heA r.aB.length 1 (List.zipWith cz r.aB ha)),(dL (bk eO r.aB ha))] (vB (decide (kX r))):=by
 have AC:=hraw.line
 have A2:=hraw.gQ
 have A4:=hraw.has
 have A1:=hraw.gX
 have AO:=hraw.draw
 refine bE kr Tryz.func45 U U fun w0 Q hQ hN=>?_
 try dsimp only
 refine WS fun _ l=>ed U fun b2=>bx 1 U<|RK l<|ak fun _ m=>WS fun _ H=>bx 1 U<|rS (LP (cu.cells (jr r.ar kA kC cA cC bA bC)) 0 U bX U U U)<|rS (CL (Ie r.ar kA kC az cA cC bA bC asm) (br [1,2,3,4]) U)<|rP 1 [] mn ?_
 refine bP (t:=8) U (aT fun k=>?_) (aS fun k=>?_)
 ·refine bx 17 U<|RK H<|aI U<|WS fun _ n=>rP 1 [] mn ?_
  refine RK n<|ao<|Q1 hQ U U U ?_
  exact cB (cJ (pD (.inl k))).symm
 refine rP 6 [] (mc 0 U mn) ?_
 refine bP (t:=14) U (aT fun AB=>?_) (aS fun AB=>?_)
 ·refine bx 11 U<|RK H<|aI U<|WS fun _ o=>rP 1 [] mn ?_
  refine RK o<|ao<|Q1 hQ U U U ?_
  exact cB (cJ (pD (.inr I))).symm
 refine rP 6 [] (mc 0 U mn) ?_
 refine bP (t:=20) U (aT fun f=>?_) (aS fun f=>?_)
 ·refine bx 5 U<|RK H<|aI U<|WS fun _ p=>rP 1 [] mn ?_
  refine RK p<|ao<|Q1 hQ U U U ?_
  exact cB (cJ (pD (.inr I))).symm
 refine rP 5 [] (mc 0 U mn) ?_
 refine RK H<|cr U (aT fun h=>?_) (aS fun h=>?_)
 ·refine WS fun _ q=>rP 1 [] mn ?_
  refine RK q<|ao<|Q1 hQ U U U ?_
  exact cB (cJ (pD (.inr I))).symm
 refine WK m<|ak fun _ s=>WS fun _ N=>rP 1 [] mn ?_
 refine RK N<|aC ?_
 have B:(0≤r.aB.length)∧(lV r 0):=by exact ⟨Nat.zero_le _,AF⟩
 refine bQ (ι:={z:Nat // (z≤r.aB.length)∧(lV r z)}) [1] [0,1,2,3,4,5,6,7,8] U U (fun z=>[(3,(vI (z.1:Int)))]) (fun z=>[]) (fun _=>rfl) (fun _=>rfl) (fun z=>r.aB.length-z.1) ⟨0,B⟩ (bu U) (aN [0,1,2,3,4,5,6,7,8]) ?_
 clear B
 rintro ⟨i,⟨x,F⟩⟩ J11 L
 try dsimp only
 refine ak fun _ O=>WS fun _ P=>rP 5 [] (mc 0 U mn) ?_
 refine RK P<|bO U (aS fun AB=>?_) (aT fun AB=>?_)
 ·refine bM<|ag<|ag<|aG<|KK s<|WS fun _ b=>rP 1 [] mn ?_
  refine RK b<|ao<|Q1 hQ U U U ?_
  exact cB (aY (Gq k I F I)).symm
 refine WK O<|ak fun _ R=>aC<|ak fun _ S=>WS fun _ T=>rP 3 [] (mc 0 U mn) ?_
 obtain ⟨ht,D⟩:=aF r.aB i I
 obtain ⟨A,C⟩:=aF ha i I
 have E:(List.zipWith cz r.aB ha)[i]? =some (cz ht A):=cZ D C
 refine rS (IA i U (ax 7 U) lZ dc I I)<|rS (h_ i 0 (vS A.1.1 ht.length A.1.2) U bX (ax 7 U) E U dc U) ?_
 obtain ⟨A3,A0,w⟩:=hraw.fX _ _ _ D C
 refine rP 2 [] mn ?_
 refine RK T<|cr U (aT fun J=>?_) (aS fun J=>?_)
 ·refine WS fun _ AA=>rP 1 [] mn ?_
  refine RK AA<|ao<|Q1 hQ U U U ?_
  exact cB (cJ (Bg D J)).symm
 refine WK S<|WS fun _ V=>rP 1 [] mn ?_
 refine RK V<|aC ?_
 have B:(0≤ht.length)∧(nq ht 0):=by exact ⟨Nat.zero_le _,AU⟩
 refine bQ (ι:={z:Nat // (z≤ht.length)∧(nq ht z)}) [1,3] [0,1,2,3,4,5,6,7,8] U U (fun z=>[(4,(vI (z.1:Int)))]) (fun z=>[]) (fun _=>rfl) (fun _=>rfl) (fun z=>ht.length-z.1) ⟨0,B⟩ (bu U) (aN [0,1,2,3,4,5,6,7,8]) ?_
 clear B
 rintro ⟨j,⟨y,G⟩⟩ J20 M
 try dsimp only
 refine ak fun _ W=>WS fun _ X=>er 4 [] (mc 0 U mn) U<|rS (IA i U (ax 7 U) lZ dc I I)<|rS (h_ i 0 (vS A.1.1 ht.length A.1.2) U bX (ax 7 U) E U dc U)<|rP 2 [] mn ?_
 refine RK X<|bO U (aS fun g=>?_) (aT fun g=>?_)
 ·refine bM<|ag<|ag<|aG<|aK<|KK R<|au<|rP 3 [] mn ?_
  refine aD ?_
  have e:(vI (((i+1):Nat):Int))=(vI ((i:Int)+1)):=by exact cI I
  refine bj (L ⟨(i+1),⟨I,Bw F D (Dg J G I)⟩⟩ _ _ _ U os (dh.cons U<|a_ U e<|dh.nil _) (aN [0,1,2,3,4,5,6,7,8]))
 refine WK W<|ak fun _ Y=>aC<|WS fun _ Z=>er 3 [] (mc 0 U mn) U<|rS (IA i U (ax 7 U) lZ dc I I)<|rS (h_ i 0 (vS A.1.1 ht.length A.1.2) U bX (ax 7 U) E U dc U)<|rP 1 [] mn ?_
 obtain ⟨d,hd⟩:=aF ht j I
 obtain ⟨da,u⟩:=aF A.2 j I
 have v:(List.zipWith aw.cells ht A.2)[j]? =some (aw.cells d da):=cZ hd u
 refine rS (IA j U (show hH _ (rd A.1.1 ht.length 7 (List.zipWith aw.cells ht A.2)).holds from (cj 8 U (bD D C ct))) qk dc I I)<|rS (oL ((j*7)+4) U (show hH _ (rd A.1.1 ht.length 7 (List.zipWith aw.cells ht A.2)).holds from (cj 8 U (bD D C ct))) (Nat.mul_pos I dc) eV U)<|rS (oL (((j*7)+4)+2) U (show hH _ (rd A.1.1 ht.length 7 (List.zipWith aw.cells ht A.2)).holds from (cj 8 U (bD D C ct))) (Nat.mul_pos I dc) eV U)<|rS (h_ j 6 (vS da.1 d.aZ.aa.length da.2) U bX (show hH _ (rd A.1.1 ht.length 7 (List.zipWith aw.cells ht A.2)).holds from (cj 8 U (bD D C ct))) v U dc U) ?_
 have A5:=w d (aP hd)
 refine rP 2 [] mn ?_
 refine RK Z<|bO U (aS fun K=>?_) (aT fun K=>?_)
 ·refine cp<|aK<|KK Y<|au<|rP 3 [] mn ?_
  refine aD ?_
  have c:(vI (((j+1):Nat):Int))=(vI ((j:Int)+1)):=by exact cI I
  refine bj (M ⟨(j+1),⟨I,Be G hd K⟩⟩ _ _ _ U os (dh.cons U<|dh.cons U<|a_ U c<|dh.nil _) (aN [0,1,2,3,4,5,6,7,8]))
 refine WS fun _ a=>rP 1 [] mn ?_
 refine RK a<|ao<|Q1 hQ U U U ?_
 exact cB (cJ (CE D hd K)).symm
end
section
open Go.RowKit
theorem gG (n lo hi:Int):
 dF Tryz.prog 50 [(vI n),(vI lo),(vI hi)] [] (vB (decide (lo≤n∧n≤hi))):=by
 refine bE kr Tryz.func50 U U fun D Q hQ hN=>?_
 try dsimp only
 refine WS fun _ B=>bx 1 U<|RK B<|WS fun _ A=>rP 4 [] mn ?_
 refine bP (t:=10) U (aT fun C=>?_) (aS fun C=>?_)
 ·refine rP 5 [] mn ?_
  refine RK A<|ao<|Q1 hQ U U U ?_
  exact cB (gR.2 I)
 refine rP 5 [] mn ?_
 refine RK A<|ao<|Q1 hQ U U U ?_
 exact cB (aY I).symm
theorem s7 (o fx:Bool) (tm:ai) (rv:de):
 dF Tryz.prog 90 [(vA (bf.cells (bf.mk o fx tm rv)))] [] (vB (decide (o=false∧fx=false))):=by
 refine bE kr Tryz.func90 U U fun E Q hQ hN=>?_
 try dsimp only
 refine WS fun _ B=>ed U fun D=>bx 1 U<|RK B<|WS fun _ A=>rP 4 [] (mc 0 U mn) ?_
 refine db (t:=6) U (fun C=>?_) (fun C=>?_)
 ·rw [Bool.not_eq_false'] at C
  refine rP 5 [] mn ?_
  refine RK A<|ao<|Q1 hQ U U U ?_
  clear hQ hN A B
  refine cB ?_
  (simp_all; done)
 rw [Bool.not_eq_true'] at C
 refine rP 5 [] (mc 0 U mn) ?_
 refine RK A<|ao<|Q1 hQ U U U ?_
 clear hQ hN A B
 refine cB ?_
 (simp_all; done)
theorem Ik (j:dk) (kA:OA) (kC:Nat) (az:List RA) (cA:OA) (cC:Nat) (bA:OA) (bC:Nat) (slA:OA) (slC:Nat) (drA:OA) (drC:Nat) (ha:List cU) (heA:OA) (heC:Nat) (faA:OA) (faC:Nat) (prA:OA) (prC:Nat) (hraw:tq j az ha):
 dF Tryz.prog 8 [(vA (fW.cells (n7 j kA kC cA cC bA bC slA slC drA drC heA heC faA faC prA prC)))] [(rd kA j.Race.ar.aO.length 9 (j.Race.ar.aO.map aq.cells)),(rd cA j.Race.ar.aj.length 2 (List.zipWith av.cells j.Race.ar.aj az)),(dL (bk av.fu j.Race.ar.aj az)),(rd bA j.Race.ar.ab.length 4 (j.Race.ar.ab.map bL.cells)),(rd slA j.Race.bg.length 1 (j.Race.bg.map iC)),(rd drA j.Race.cm.length 1 (j.Race.cm.map iC)),(rd heA j.Race.aB.length 1 (List.zipWith cz j.Race.aB ha)),(dL (bk eO j.Race.aB ha)),(rd faA j.ay.length 4 (j.ay.map aX.cells)),(rd prA j.aM.length 5 (j.aM.map bI.cells))] (vB (decide (nA j))):=by
 have E:=hraw.race
 have F:=hraw.nf
 have G:=hraw.np
 refine bE kr Tryz.func8 U U fun AA Q hQ hN=>?_
 try dsimp only
 refine WS fun _ D=>ed U fun H=>bx 1 U<|RK D<|WS fun _ B=>bx 1 U<|rS (LP (fF.cells (xH j.Race kA kC cA cC bA bC slA slC drA drC heA heC)) 0 U bX U U U)<|rS (CL (Ad j.Race kA kC az cA cC bA bC slA slC drA drC ha heA heC asm) (br [1,2,3,4,5,6,7,8]) U)<|rP 1 [] mn ?_
 refine bP (t:=6) U (aT fun C=>?_) (aS fun C=>?_)
 ·refine rP 12 [] mn ?_
  refine RK B<|ao<|Q1 hQ U U U ?_
  (exact cB (cJ (show nA j from .inl (.inl C))).symm)
 refine rP 6 [] (mc 0 U mn) ?_
 refine bP (t:=12) U (aT fun A=>?_) (aS fun A=>?_)
 ·refine rP 6 [] mn ?_
  refine RK B<|ao<|Q1 hQ U U U ?_
  (exact cB (cJ (show nA j from .inl (.inr A))).symm)
 refine rP 6 [] (mc 0 U mn) ?_
 refine RK B<|ao<|Q1 hQ U U U ?_
 (exact cB (gR.2 (show _↔nA j from ⟨.inr,fun q=>Or.elim q (fun q=>Or.elim q (fun q=>absurd q C) (fun q=>absurd q A)) id⟩)))
end
section
open Go.RowKit
theorem xV (l:bo) (kA:OA) (kC:Nat) (az:List RA) (cA:OA) (cC:Nat) (bA:OA) (bC:Nat) (hin:d_ l az):
 dF Tryz.prog 131 [(vA (cu.cells (jr l kA kC cA cC bA bC)))] [(rd kA l.aO.length 9 (l.aO.map aq.cells)),(rd cA l.aj.length 2 (List.zipWith av.cells l.aj az)),(dL (bk av.fu l.aj az)),(rd bA l.ab.length 4 (l.ab.map bL.cells))] (vI (dM l)):=by
 have N:=hin.qm
 have M:=hin.qj
 have K:=hin.mq
 have L:=hin.qi
 refine bE kr Tryz.func131 U U fun P Q hQ hN=>?_
 try dsimp only
 refine WS fun _ C=>ed U fun O=>bx 1 U<|RK C<|ak fun _ D=>WS fun _ E=>bx 1 U<|rS (LP (bR.cells (bR.mk (bK.mk kA l.aO.length kC))) 0 U bX U U U)<|rS (CL (wc l.aO kA kC asm) (br [1]) U)<|rP 1 [] mn ?_
 refine RK E<|cr U (fun A=>?_) (fun A=>?_)
 ·rw [Bool.not_eq_true'] at A
  refine WS fun _ F=>rP 1 [] mn ?_
  refine RK F<|ao<|Q1 hQ U U U ?_
  exact cI (yP (by simpa using A)).symm
 rw [Bool.not_eq_false'] at A
 refine WK D<|ak fun _ G=>WS fun _ H=>er 1 [] (mc 0 U mn) U<|rS (CL (KB l kA kC az cA cC bA bC hin asm) (br [1,2,3,4]) U)<|rP 1 [] mn ?_
 refine RK H<|cr U (aW fun B=>?_) (aV fun B=>?_)
 ·refine WS fun _ AA=>rP 1 [] mn ?_
  refine RK AA<|ao<|Q1 hQ U U U ?_
  exact cI (qT A B).symm
 refine WK G<|WS fun _ J=>rP 1 [] mn ?_
 refine RK J<|ao<|Q1 hQ U U U ?_
 exact cI (Bi A B).symm
theorem Kt (l:bo) (kA:OA) (kC:Nat) (az:List RA) (cA:OA) (cC:Nat) (bA:OA) (bC:Nat) (s:aH) (hin:d_ l az) (hok:l9 l) (hs:(0≤s.fz∧s.fz≤(l.ab.length:Int)-1)∧0≤s.Read∧s.Read≤86400000):
 dF Tryz.prog 213 [(vA (cu.cells (jr l kA kC cA cC bA bC))),(vA (aH.cells s))] [(rd kA l.aO.length 9 (l.aO.map aq.cells)),(rd cA l.aj.length 2 (List.zipWith av.cells l.aj az)),(dL (bk av.fu l.aj az)),(rd bA l.ab.length 4 (l.ab.map bL.cells))] (vT [(vA (ai.cells (dg l s))),(vB (decide ((dg l s).Lo≤(dg l s).Hi)))]):=by
 have A2:=hin.qm
 have A1:=hin.qj
 have AO:=hin.mq
 have A0:=hin.qi
 refine bE kr Tryz.func213 U U fun w0 Q hQ hN=>?_
 try dsimp only
 refine WS fun _ i=>ed U fun b2=>ed U fun b3=>AL U dV fun b4=>rP 1 [] mn ?_
 refine RK i<|ak fun _ j=>dx ck [11,12] [] [] [0,1,2,3,4,5,6] [] U U U U U<|eS U (FA 2 U eV U)<|eS U (L1 (vS cA l.aj.length cC) 2 U bX U U)<|eS U (FA 3 U eV U)<|eS U (L1 (vS bA l.ab.length bC) 2 U bX U U)<|eS U (FA 0 U eV U)<|eS U (L1 (vI s.fz) 1 U bX U U) ?_
 obtain ⟨y,hy⟩:=aF l.ab ((s.fz).toNat) I
 have w:=bJ bL.cells hy
 refine eS U (IA ((s.fz).toNat) U (ax 6 U) uG dc I I)<|eS U (oL ((((s.fz).toNat)*4)+3) U (ax 6 U) (Nat.mul_pos I dc) eV U)<|eS U (h_ ((s.fz).toNat) 3 (vI y.jO) U bX (ax 6 U) w U dc U) ?_
 have A3:=(hok.ti _ (aP hy)).2
 obtain ⟨x,hx⟩:=aF l.aj ((y.jO).toNat) I
 obtain ⟨xa,J⟩:=aF az ((y.jO).toNat) I
 have u:(List.zipWith av.cells l.aj az)[(y.jO).toNat]? =some (av.cells x xa):=cZ hx J
 refine eS U (IA ((y.jO).toNat) U (ax 4 U) yk dc I I)<|eS U (jL ((y.jO).toNat) 0 (dG.cells (dG.mk x.du (bK.mk xa.1 x.bp.length xa.2))) U bX (ax 4 U) u U dc U U)<|eo U<|cd U fun T6 m=>AL U zd fun b7=>aD (m _ _ (aN [1,2,3,4,5,6,7]) ?_)
 refine cd U fun T8 o=>fj U yx U<|aD (o _ _ (aN [1,2,3,4,5,6,7]) ?_)
 refine fh U<|KK j<|WS fun _ k=>rP 2 [] mn ?_
 refine RK k<|ak fun _ K=>aC ?_
 have A:(0≤(0:Int)∧(0:Int)≤(gj (ij x s.Read) 86400001))∧((gj (ij x s.Read) 86400001)≤(86400001:Int)∧(86400001:Int)≤86400001):=by (have Z:=ji (p:=ij x s.Read) (n:=86400001); omega)
 refine bQ (ι:={z:Int×Int // (0≤z.1∧z.1≤(gj (ij x s.Read) 86400001))∧((gj (ij x s.Read) 86400001)≤z.2∧z.2≤86400001)}) [2,3,4,6] [0,1,2,3,4,5,6,7] U U (fun z=>[(7,(vI z.1.1)),(8,(vI z.1.2))]) (fun z=>[]) (fun _=>rfl) (fun _=>rfl) (fun z=>(z.1.2-z.1.1).toNat) ⟨((0:Int),(86400001:Int)),A⟩ (bu U) (aN [0,1,2,3,4,5,6,7]) ?_
 clear A
 rintro ⟨⟨a,b⟩,⟨H,AB⟩⟩ J11 F
 try dsimp only at H AB
 try dsimp only
 have B:=hok.clock _ (aP hx)
 have Z:=ji (p:=ij x s.Read) (n:=86400001)
 have Y:=ji (p:=il x s.Read) (n:=86400001)
 refine ak fun _ L=>WS fun _ M=>rP 3 [] mn ?_
 refine RK M<|cr U (aT fun c=>?_) (aS fun c=>?_)
 ·refine WK L<|aC<|WS fun _ N=>bx 3 U<|rS (BI U (tU I I I))<|bx 1 U<|RK N<|ak fun _ O=>cW ck 9 kr<|dP 3 [] (mc 0 U mn) ?_
  refine dS (CL (BM x xa.1 xa.2 ((a+b)/2) asm I) (aQ (show hH _ (rd xa.1 x.bp.length 3 (x.bp.map cK.cells)).holds from (cj 6 U (bD hx J (by simp [av.fu]))))<|aR) U)<|dS (SX (rL (v:=(vI ((iK x ((a+b)/2)).Hi))) U U eV H9 U) U U) ?_
  have t:=qV B (show 0≤(a+b)/2∧(a+b)/2≤90000000 by omega)
  refine dP 4 [] (mc 2 U mn) ?_
  refine cw<|RK O<|cr U (aT fun g=>?_) (aS fun g=>?_)
  ·refine au<|rP 2 [] mn ?_
   refine aD<|aK ?_
   refine bj (F ⟨(a,((a+b)/2)),(by dsimp only; have hm:=lk (r:=s.Read) B (x:=(a+b)/2) I I; rcases Int.lt_or_le ((a+b)/2) (gj (ij x s.Read) 86400001) with q|q; (have C:=hm.1 q; simp only [ij,decide_eq_false_iff_not] at C; omega); (have C:=hm.2.1 q; simp only [ij,decide_eq_true_eq] at C; omega))⟩ _ _ _ rfl (by simp only []; omega) (bu rfl) (aN [0,1,2,3,4,5,6,7]))
  refine au<|rP 3 [] mn ?_
  refine aD<|aK ?_
  refine bj (F ⟨((((a+b)/2)+1),b),(by dsimp only; have hm:=lk (r:=s.Read) B (x:=(a+b)/2) I I; rcases Int.lt_or_le ((a+b)/2) (gj (ij x s.Read) 86400001) with q|q; (have C:=hm.1 q; simp only [ij,decide_eq_false_iff_not] at C; omega); (have C:=hm.2.1 q; simp only [ij,decide_eq_true_eq] at C; omega))⟩ _ _ _ rfl (by simp only []; omega) (bu rfl) (aN [0,1,2,3,4,5,6,7]))
 refine bM<|ag<|ag<|aG<|KK K<|WS fun _ P=>bx 2 U<|RK P<|WS fun _ R=>rP 2 [] mn ?_
 refine RK R<|ak fun _ S=>aC ?_
 have A:(-1≤((-1):Int)∧((-1):Int)≤(gj (il x s.Read) 86400001)-1)∧((gj (il x s.Read) 86400001)-1≤(86400000:Int)∧(86400000:Int)≤86400000):=by (have Y:=ji (p:=il x s.Read) (n:=86400001); omega)
 refine bQ (ι:={z:Int×Int // (-1≤z.1∧z.1≤(gj (il x s.Read) 86400001)-1)∧((gj (il x s.Read) 86400001)-1≤z.2∧z.2≤86400000)}) [2,3,4,6,10] [0,1,2,3,4,5,6,7] U U (fun z=>[(7,(vI z.1.1)),(8,(vI z.1.2))]) (fun z=>[]) (fun _=>rfl) (fun _=>rfl) (fun z=>(z.1.2-z.1.1).toNat) ⟨(((-1):Int),(86400000:Int)),A⟩ (bu U) (aN [0,1,2,3,4,5,6,7]) ?_
 clear A
 rintro ⟨⟨d,e⟩,⟨D,E⟩⟩ J20 G
 try dsimp only at D E
 try dsimp only
 have B:=hok.clock _ (aP hx)
 have Z:=ji (p:=ij x s.Read) (n:=86400001)
 have Y:=ji (p:=il x s.Read) (n:=86400001)
 refine ak fun _ T=>WS fun _ AA=>rP 3 [] mn ?_
 refine RK AA<|bO U (aS fun f=>?_) (aT fun f=>?_)
 ·refine bM<|ag<|ag<|aG<|KK S<|WS fun _ X=>bx 2 U<|rS (SX (bG (xs:=[(0,.tmp 63),(1,.tmp 64)]) (cs:=(ai.cells (ai.mk a d))) U U (bH gU U)) U U)<|bx 3 U<|pZ U cT U<|rP 1 [] mn ?_
  refine RK X<|ao<|lS hQ [0] (mc 1 U mn) U ?_
  have e0:dg l s=⟨a,d⟩:=by (unfold dg Bq; rw [xn hy hx,show a=(gj (ij x s.Read) 86400001) by omega,show d=(gj (il x s.Read) 86400001)-1 by omega])
  rw [e0]
 refine WK T<|aC<|WS fun _ V=>bx 4 U<|rS (BI U (tU I I I))<|bx 1 U<|RK V<|ak fun _ W=>cW ck 9 kr<|dP 3 [] (mc 0 U mn) ?_
 refine dS (CL (BM x xa.1 xa.2 (((d+e)+1)/2) asm I) (aQ (show hH _ (rd xa.1 x.bp.length 3 (x.bp.map cK.cells)).holds from (cj 6 U (bD hx J (by simp [av.fu]))))<|aR) U)<|dS (SX (rL (v:=(vI ((iK x (((d+e)+1)/2)).Lo))) U U eV I8 U) U U) ?_
 have t:=qV B (show 0≤(d+e+1)/2∧(d+e+1)/2≤90000000 by omega)
 refine dP 4 [] (mc 2 U mn) ?_
 refine cw<|RK W<|cr U (aT fun h=>?_) (aS fun h=>?_)
 ·refine au<|rP 2 [] mn ?_
  refine aD<|aK ?_
  refine bj (G ⟨((((d+e)+1)/2),e),(by dsimp only; have hm:=lk (r:=s.Read) B (x:=(d+e+1)/2) I I; rcases Int.lt_or_le ((d+e+1)/2) (gj (il x s.Read) 86400001) with q|q; (have C:=hm.2.2.1 q; simp only [il,decide_eq_false_iff_not] at C; omega); (have C:=hm.2.2.2 q; simp only [il,decide_eq_true_eq] at C; omega))⟩ _ _ _ rfl (by simp only []; omega) (bu rfl) (aN [0,1,2,3,4,5,6,7]))
 refine au<|rP 3 [] mn ?_
 refine aD<|aK ?_
 refine bj (G ⟨(d,((((d+e)+1)/2)-1)),(by dsimp only; have hm:=lk (r:=s.Read) B (x:=(d+e+1)/2) I I; rcases Int.lt_or_le ((d+e+1)/2) (gj (il x s.Read) 86400001) with q|q; (have C:=hm.2.2.1 q; simp only [il,decide_eq_false_iff_not] at C; omega); (have C:=hm.2.2.2 q; simp only [il,decide_eq_true_eq] at C; omega))⟩ _ _ _ rfl (by simp only []; omega) (bu rfl) (aN [0,1,2,3,4,5,6,7]))
end
section
open Go.RowKit
theorem o6 (n lo hi:Int):
 dF Tryz.prog 152 [(vI n),(vI lo),(vI hi)] [] (vB (decide (lo≤n∧n≤hi))):=by
 refine bE kr Tryz.func152 U U fun D Q hQ hN=>?_
 try dsimp only
 refine WS fun _ B=>bx 1 U<|RK B<|WS fun _ A=>rP 4 [] mn ?_
 refine bP (t:=10) U (aT fun C=>?_) (aS fun C=>?_)
 ·refine rP 5 [] mn ?_
  refine RK A<|ao<|Q1 hQ U U U ?_
  exact cB (gR.2 I)
 refine rP 5 [] mn ?_
 refine RK A<|ao<|Q1 hQ U U U ?_
 exact cB (aY I).symm
theorem Ea (r:cx) (sgA:OA) (sgC:Nat):
 dF Tryz.prog 187 [(vA (de.cells (im r sgA sgC)))] [(rd sgA r.aa.length 2 (r.aa.map aH.cells))] (vB (decide (mV r))):=by
 refine bE kr Tryz.func187 U U fun F Q hQ hN=>?_
 try dsimp only
 refine WS fun _ B=>ed U fun E=>bx 1 U<|RK B<|WS fun _ A=>rP 4 [] (mc 0 U mn) ?_
 refine db (t:=6) U (aS fun C=>?_) (aT fun C=>?_)
 ·refine rP 11 [] mn ?_
  refine RK A<|ao<|Q1 hQ U U U ?_
  simp only [mV]
  exact cB (aY I).symm
 refine rP 5 [] (mc 0 U mn) ?_
 refine db (t:=11) U (aS fun D=>?_) (aT fun D=>?_)
 ·refine rP 6 [] mn ?_
  refine RK A<|ao<|Q1 hQ U U U ?_
  simp only [mV]
  exact cB (aY I).symm
 refine rP 6 [] (mc 0 U mn) ?_
 refine RK A<|ao<|Q1 hQ U U U ?_
 simp only [mV]
 exact cB (gR.2 I)
theorem JZ (s:ai):
 dF Tryz.prog 188 [(vA (ai.cells s))] [] (vB (decide (mO s))):=by
 refine bE kr Tryz.func188 U U fun F Q hQ hN=>?_
 try dsimp only
 refine WS fun _ B=>ed U fun E=>bx 1 U<|RK B<|WS fun _ A=>rP 4 [] (mc 0 U mn) ?_
 refine db (t:=6) U (aS fun C=>?_) (aT fun C=>?_)
 ·refine rP 12 [] mn ?_
  refine RK A<|ao<|Q1 hQ U U U ?_
  simp only [mO]
  exact cB (aY I).symm
 refine rP 7 [] (mc 0 U mn) ?_
 refine db (t:=13) U (aS fun D=>?_) (aT fun D=>?_)
 ·refine rP 5 [] mn ?_
  refine RK A<|ao<|Q1 hQ U U U ?_
  simp only [mO]
  exact cB (aY I).symm
 refine rP 5 [] (mc 0 U mn) ?_
 refine RK A<|ao<|Q1 hQ U U U ?_
 simp only [mO]
 exact cB (gR.2 I)
theorem qN (la:List Int) (laA:OA) (laC:Nat) (lb:List Int) (lbA:OA) (lbC:Nat) (h1:la.length≤1000000) (h2:lb.length≤1000000):
 dF Tryz.prog 63 [(vS laA la.length laC),(vS lbA lb.length lbC)] [(rd laA la.length 1 (la.map iC)),(rd lbA lb.length 1 (lb.map iC))] (vB (decide (la=lb))):=by
 refine bE kr Tryz.func63 U U fun V Q hQ hN=>?_
 try dsimp only
 refine WS fun _ J=>bx 1 U<|RK J<|ak fun _ K=>WS fun _ L=>rP 5 [] mn ?_
 refine RK L<|cr U (aW fun hl=>?_) (aV fun hl=>?_)
 ·refine WS fun _ M=>rP 1 [] mn ?_
  refine RK M<|ao<|Q1 hQ U U U ?_
  exact cB (aY (fun e=>by subst e; omega)).symm
 refine WK K<|ak fun _ N=>WS fun _ O=>rP 1 [] mn ?_
 refine RK O<|aC ?_
 have A:(0≤la.length)∧(la.take 0=lb.take 0):=by simp
 refine bQ (ι:={z:Nat // (z≤la.length)∧(la.take z=lb.take z)}) [0,1] [0,1] U U (fun z=>[(5,(vI (z.1:Int)))]) (fun z=>[]) (fun _=>rfl) (fun _=>rfl) (fun z=>la.length-z.1) ⟨0,A⟩ (bu U) (aN [0,1]) ?_
 clear A
 rintro ⟨i,⟨S,B⟩⟩ J7 AB
 try dsimp only
 refine ak fun _ P=>WS fun _ R=>rP 4 [] mn ?_
 refine RK R<|bO U (aS fun H=>?_) (aT fun H=>?_)
 ·refine bM<|ag<|ag<|aG<|KK N<|WS fun _ F=>rP 1 [] mn ?_
  refine RK F<|ao<|Q1 hQ U U U ?_
  exact cB (cJ (cH I B I)).symm
 refine WK P<|ak fun _ C=>aC<|ak fun _ D=>cW ck 9 kr<|dP 2 [] mn ?_
 obtain ⟨x,hx⟩:=aF la i I
 have T:=bJ iC hx
 refine dS (IA i U (ax 0 U) dJ dc I I)<|dS (h_ i 0 (vI x) U bX (ax 0 U) T U dc U)<|dP 2 [] mn ?_
 obtain ⟨y,hy⟩:=aF lb i I
 have AA:=bJ iC hy
 refine dS (IA i U (ax 1 U) dJ dc I I)<|dS (h_ i 0 (vI y) U bX (ax 1 U) AA U dc U)<|dP 1 [] mn ?_
 refine cw<|RK D<|cr U (aW fun h=>?_) (aV fun h=>?_)
 ·refine WS fun _ E=>rP 1 [] mn ?_
  refine RK E<|ao<|Q1 hQ U U U ?_
  exact cB (aY (mB hx hy h)).symm
 refine cp<|aK<|KK C<|au<|rP 3 [] mn ?_
 refine aD ?_
 have G:(vI (((i+1):Nat):Int))=(vI ((i:Int)+1)):=by exact cI I
 refine bj (AB ⟨(i+1),⟨I,iG B hx hy h⟩⟩ _ _ _ U os (dh.cons U<|dh.cons U<|a_ U G<|dh.nil _) (aN [0,1]))
end
section
/-- where a sled may be after k beams more -/
def gl (w:bZ):Nat→Nat→aJ×Int→List (aJ×Int)
 |0,_,p=>[p]
 |k+1,b,p=>(iS w b).flatMap fun o=>match k9 w b p o with
  |some q=>gl w k (b+1) q
  |none=>[]
variable {w:bZ}
theorem iF {k b:Nat} {p q:aJ×Int}:q∈gl w (k+1) b p↔ ∃ o∈iS w b,∃ p',k9 w b p o=some p'∧q∈gl w k (b+1) p':=by
 simp only [gl,List.mem_flatMap]
 constructor
 ·rintro ⟨o,ho,h⟩
  cases e:k9 w b p o with
  |none=>rw [e] at h; cases h
  |some p'=>rw [e] at h; exact ⟨o,ho,p',e,h⟩
 ·rintro ⟨o,ho,p',e,h⟩
  exact ⟨o,ho,by rw [e]; exact h⟩
theorem rK: ∀ (k b:Nat) (q:aJ×Int),q∈fwd w (b+k)↔ ∃ p∈fwd w b,q∈gl w k b p:=by
 intro k
 induction k with
 |zero=>
  intro b q
  simp only [Nat.add_zero,gl,cv]
  exact ⟨fun h=>⟨q,h,rfl⟩,fun ⟨p,hp,e⟩=>e▸hp⟩
 |succ k ih=>
  intro b q
  rw [show b+(k+1)=(b+1)+k by omega,ih]
  constructor
  ·rintro ⟨p',hp',h⟩
   obtain ⟨p,hp,o,ho,e⟩:=gh.1 hp'
   exact ⟨p,hp,iF.2 ⟨o,ho,p',e,h⟩⟩
  ·rintro ⟨p,hp,h⟩
   obtain ⟨o,ho,p',e,h'⟩:=iF.1 h
   exact ⟨p',gh.2 ⟨p,hp,o,ho,e⟩,h'⟩
theorem g7 {b:Nat} {p q:aJ×Int} {o:Int×ai}:k9 w b p o=some q↔max (p.2+cf w b) o.2.Lo≤min o.2.Hi w.fP∧q=(dD p.1 (fG o.1),max (p.2+cf w b) o.2.Lo):=by
 unfold k9
 split
 ·rename_i h
  constructor
  ·intro e; cases e; exact ⟨h,rfl⟩
  ·rintro ⟨_,rfl⟩; rfl
 ·rename_i h
  constructor
  ·intro e; cases e
  ·rintro ⟨h',_⟩; exact absurd h' h
theorem uH {b:Nat} {p q:aJ×Int} {o:Int×ai}:nY w b p o=some q↔o.2.Lo≤min p.2 o.2.Hi∧q=(dD p.1 (fG o.1),min p.2 o.2.Hi-cf w b):=by
 unfold nY
 split
 ·rename_i h
  constructor
  ·intro e; cases e; exact ⟨h,rfl⟩
  ·rintro ⟨_,rfl⟩; rfl
 ·rename_i h
  constructor
  ·intro e; cases e
  ·rintro ⟨h',_⟩; exact absurd h' h
theorem Fk {b:Nat} (hb:b≤w.n):((⟨0,0⟩:aJ),w.fP)∈back w b:=by
 rcases Nat.lt_or_ge b w.n with h|h
 ·exact (o0 h).2 (.inl U)
 ·rw [uT h]; simp
theorem ni (t:aJ):dD t ⟨0,0⟩=t:=by cases t; simp [dD]
theorem ym (a o u:aJ):dD (dD a o) u=dD a (dD u o):=by simp only [dD,aJ.mk.injEq]; omega
theorem EB (hl: ∀ b,0≤cf w b): ∀ (k:Nat) (u:aJ×Int),u∈bwd w k→u.2≤w.fP:=by
 intro k
 induction k with
 |zero=>intro u hu; simp only [bwd,cv] at hu; subst hu; exact Int.le_refl _
 |succ k ih=>
  intro u hu
  simp only [bwd,cg,List.mem_flatMap,List.mem_filterMap] at hu
  rcases hu with rfl|⟨p,hp,o,ho,e⟩
  ·exact Int.le_refl _
  ·obtain ⟨_,rfl⟩:=uH.1 e
   have:=ih p hp
   have:=hl (w.n-(k+1))
   simp only; omega
/-- what follows a passing is told by the way back -/
theorem LO: ∀ (k b:Nat) (p q:aJ×Int),b+k≤w.n→p.2≤w.fP→q∈gl w k b p→ ∃ u∈back w b,p.2≤u.2∧q.1=dD p.1 u.1:=by
 intro k
 induction k with
 |zero=>
  intro b p q hb hp hq
  simp only [gl,cv] at hq
  subst hq
  exact ⟨_,Fk I,hp,(ni _).symm⟩
 |succ k ih=>
  intro b p q hb hp hq
  obtain ⟨o,ho,p',e,h⟩:=iF.1 hq
  obtain ⟨C,rfl⟩:=g7.1 e
  obtain ⟨u',hu',B,A⟩:=ih (b+1) _ q I (by simp only; omega) h
  simp only at B A
  refine ⟨(dD u'.1 (fG o.1),min u'.2 o.2.Hi-cf w b),(o0 I).2 (.inr ⟨u',hu',o,ho,uH.2 ⟨I,U⟩⟩),by simp only; omega,?_⟩
  rw [A,ym]
theorem JA (hl: ∀ b,0≤cf w b): ∀ (d b:Nat) (p u:aJ×Int),w.n=b+d→p.2≤u.2→u∈back w b→ ∃ k,b+k≤w.n∧ ∃ q∈gl w k b p,q.1=dD p.1 u.1:=by
 intro d
 induction d with
 |zero=>
  intro b p u hd hp hu
  rw [uT I] at hu
  simp only [cv] at hu
  subst hu
  exact ⟨0,I,p,by simp [gl],(ni _).symm⟩
 |succ d ih=>
  intro b p u hd hp hu
  rcases (o0 I).1 hu with rfl|⟨u',hu',o,ho,e⟩
  ·exact ⟨0,I,p,by simp [gl],(ni _).symm⟩
  ·obtain ⟨B,rfl⟩:=uH.1 e
   have hn:u'.2≤w.fP:=EB hl _ _ hu'
   simp only at hp
   obtain ⟨k,hk,q,hq,A⟩:=ih (b+1) (dD p.1 (fG o.1),max (p.2+cf w b) o.2.Lo) u' I (by simp only; omega) hu'
   refine ⟨k+1,I,q,iF.2 ⟨o,ho,_,g7.2 ⟨I,U⟩,hq⟩,?_⟩
   rw [A]; simp only; rw [ym]
end
section
section
variable {l:bo} {r:cx} {one at_:Int} {d:Nat} {f g m:Int} {rec:Int→Int→Int→Bool} {i:Int}
end
theorem qY {l:bo} {r:cx} {d:Nat} (hd:d<l.ab.length) {o:Int×ai}:o∈iS (bW l r) d↔o=(-1,⟨r.Start,r.fP⟩)∨ ∃ k,k<r.aa.length∧ ∃ s,r.aa[k]? =some s∧(s.fz=(d:Int)∧(dg l s).Lo≤(dg l s).Hi)∧o=((k:Int),dg l s):=by
 unfold iS uh
 show o∈(-1,(⟨r.Start,r.fP⟩:ai))::((cL l r.aa r.aa.length)[d]?).getD []↔_
 rw [oW hd,Option.getD_some,cg,se]
theorem py {l:bo} {r:cx} {d:Nat} (hd:d<l.ab.length):cf (bW l r) d=ej l d:=by rw [yz,if_pos hd]
theorem uY {l:bo} {n d:Nat} {y:Int} (h:(cq l n)[d]? =some y):y=ej l d:=by
 unfold cq at h
 rw [fK] at h
 have hd:d<n:=by
  rcases Nat.lt_or_ge d n with q|q
  ·exact q
  ·rw [List.getElem?_eq_none (by simpa using q)] at h; cases h
 rw [List.getElem?_range hd] at h
 exact (Option.some.inj h).symm
end
section
def CF (w:bZ) (b:Nat) (i:Int):Prop:= ∃ b',b'<b∧ ∃ q∈mR w b',q.1=i
noncomputable instance (w:bZ) (b:Nat) (i:Int):Decidable (CF w b i):=Classical.propDecidable _
noncomputable def zC (w:bZ) (n:Nat):List Int:=((List.range n).map fun (k:Nat)=>(k:Int)).filter fun i=> !decide (CF w w.n i)
noncomputable def I0 (l:bo) (r:cx):List Int:=if dN l r 0=0 then zC (bW l r) r.aa.length else []
theorem GA {l:bo} {r:cx} (h:dN l r 0=0):I0 l r=zC (bW l r) r.aa.length:=if_pos h
def uf (w:bZ) (b:Nat):Bool:=(mR w b).any fun q=>decide (0≤q.1)
def wg (w:bZ) (k:Nat):List Int:=((List.range k).filter fun b=> !uf w b).map fun (b:Nat)=>(b:Int)
noncomputable def tx (l:bo) (r:cx):List Int:=if dN l r 0=0 then wg (bW l r) (nG (fp l r)).toNat else []
theorem sG {l:bo} {r:cx} (h:dN l r 0=0):tx l r=wg (bW l r) (nG (fp l r)).toNat:=if_pos h
theorem xW {l:bo} {r:cx} (h: ¬ dN l r 0=0):tx l r=[]:=if_neg h
theorem Dn {w:bZ} {n:Nat} {i:Int}:i∈zC w n↔(0≤i∧i<(n:Int))∧ ¬ CF w w.n i:=by
 unfold zC
 rw [List.mem_filter,cE]
 simp only [Bool.not_eq_true',decide_eq_false_iff_not]
 constructor
 ·rintro ⟨⟨k,hk,rfl⟩,A⟩
  have:=List.mem_range.1 hk
  exact ⟨I,A⟩
 ·rintro ⟨B,A⟩
  exact ⟨⟨i.toNat,List.mem_range.2 I,I⟩,A⟩
theorem P0 {l:bo} {r:cx} (h:dN l r 0=0):0≤nG (fp l r)∧nG (fp l r)≤(l.ab.length:Int):=by
 have A:=(EZ (vc h)).1
 rw [jR h] at A ⊢
 obtain ⟨i,e,hi,_⟩:=o4.1 A
 have hn:(bW l r).n=l.ab.length:=cS
 omega
end
section
/-- a truth goes on from here -/
def sh (w:bZ) (b:Nat) (p:aJ×Int):Prop:= ∃ k,b+k≤w.n∧ ∃ q∈gl w k b p,kS w q.1=true
/-- a truth may have come here, or earlier -/
def Cd (w:bZ) (b:Nat) (p:aJ×Int):Prop:= ∃ v,(p.1,v)∈fwd w b∧v≤p.2
def G7 (n:Int) (p:aJ×Int):aJ×Int:=(p.1,p.2+n)
section
variable {w:bZ}
theorem Fi: ∀ (k j b:Nat) (p q z:aJ×Int),q∈gl w k b p→z∈gl w j (b+k) q→z∈gl w (k+j) b p:=by
 intro k
 induction k with
 |zero=>
  intro j b p q z A B
  simp only [gl,cv] at A
  subst A
  rw [Nat.zero_add]; exact B
 |succ k ih=>
  intro j b p q z A B
  obtain ⟨o,ho,p',e,h⟩:=iF.1 A
  rw [show k+1+j=(k+j)+1 by omega]
  exact iF.2 ⟨o,ho,p',e,ih j (b+1) p' q z h (by rw [show b+1+k=b+(k+1) by omega]; exact B)⟩
theorem Bm: ∀ (k b:Nat) (t:aJ) (x y:Int) (q:aJ×Int),y≤x→q∈gl w k b (t,x)→ ∃ q'∈gl w k b (t,y),q'.1=q.1∧q'.2≤q.2:=by
 intro k
 induction k with
 |zero=>
  intro b t x y q A hq
  simp only [gl,cv] at hq ⊢
  subst hq
  exact ⟨_,U,U,A⟩
 |succ k ih=>
  intro b t x y q A hq
  obtain ⟨o,ho,p',e,h⟩:=iF.1 hq
  obtain ⟨B,rfl⟩:=g7.1 e
  simp only at B h
  obtain ⟨q',hq',C,D⟩:=ih (b+1) _ _ (max (y+cf w b) o.2.Lo) q I h
  exact ⟨q',iF.2 ⟨o,ho,_,g7.2 ⟨by simp only; omega,U⟩,hq'⟩,C,D⟩
theorem wR {b:Nat} {t:aJ} {x y:Int} (h:sh w b (t,x)) (hy:y≤x):sh w b (t,y):=by
 obtain ⟨k,hk,q,hq,hm⟩:=h
 obtain ⟨q',hq',e,_⟩:=Bm k b t x y q hy hq
 exact ⟨k,hk,q',hq',by rw [e]; exact hm⟩
theorem uC {k b:Nat} {p q:aJ×Int} (h:q∈gl w k b p) (hv:sh w (b+k) q):sh w b p:=by
 obtain ⟨j,hj,z,hz,hm⟩:=hv
 exact ⟨k+j,I,z,Fi k j b p q z h hz,hm⟩
theorem E9 {b:Nat} {p q:aJ×Int} {o:Int×ai} (h:Cd w b p) (ho:o∈iS w b) (e:k9 w b p o=some q):Cd w (b+1) q:=by
 obtain ⟨v,hv,A⟩:=h
 obtain ⟨B,rfl⟩:=g7.1 e
 exact ⟨max (v+cf w b) o.2.Lo,gh.2 ⟨_,hv,o,ho,g7.2 ⟨by simp only; omega,U⟩⟩,by simp only; omega⟩
theorem Am {b:Nat} {p:aJ×Int} (h:p∈fwd w b):Cd w b p:=⟨p.2,h,Int.le_refl _⟩
theorem yV (hl: ∀ b,0≤cf w b): ∀ (b:Nat) (p:aJ×Int),p∈fwd w b→w.Start≤p.2:=by
 intro b
 induction b with
 |zero=>intro p hp; simp only [fwd,cv] at hp; subst hp; exact Int.le_refl _
 |succ b ih=>
  intro q hq
  obtain ⟨p,hp,o,ho,e⟩:=gh.1 hq
  obtain ⟨_,rfl⟩:=g7.1 e
  have:=ih p hp
  have:=hl b
  simp only; omega
/-- a beam is passed at a time, by a signal -/
def xC (w:bZ) (b:Nat) (s t:Int):Prop:= ∃ p∈fwd w b,∃ o∈iS w b,o.1=s∧(max (p.2+cf w b) o.2.Lo≤t∧t≤min o.2.Hi w.fP)∧sh w (b+1) (dD p.1 (fG o.1),t)
theorem wb (hl: ∀ b,0≤cf w b) {b:Nat} (hb:b<w.n) {s t:Int}:(∃ q∈mR w b,q.1=s∧q.2.Lo≤t∧t≤q.2.Hi)↔xC w b s t:=by
 constructor
 ·rintro ⟨q,hq,hs,C,D⟩
  obtain ⟨o,ho,p,hp,u,hu,e⟩:=iE.1 hq
  obtain ⟨B,A,rfl⟩:=jK.1 e
  simp only [jM] at C D B
  have hn:u.2≤w.fP:=EB hl _ _ hu
  obtain ⟨k,hk,q,hq',E⟩:=JA hl (w.n-(b+1)) (b+1) (dD p.1 (fG o.1),t) u I (by simp only; omega) hu
  refine ⟨p,hp,o,ho,hs,⟨I,I⟩,k,hk,q,hq',?_⟩
  rw [E]
  unfold wQ at A
  rw [show dD (dD p.1 (fG o.1)) u.1=dD (dD p.1 u.1) (fG o.1) by simp only [dD,aJ.mk.injEq]; omega]
  exact A
 ·rintro ⟨p,hp,o,ho,hs,⟨C,D⟩,k,hk,q,hq,hm⟩
  obtain ⟨u,hu,B,A⟩:=LO k (b+1) _ q hk (by simp only; omega) hq
  simp only at B A
  refine ⟨(o.1,jM w b p u o),iE.2 ⟨o,ho,p,hp,u,hu,jK.2 ⟨by simp only [jM]; omega,?_,U⟩⟩,hs,by simp only [jM]; omega,by simp only [jM]; omega⟩
  unfold wQ
  rw [A] at hm
  rw [show dD (dD p.1 u.1) (fG o.1)=dD (dD p.1 (fG o.1)) u.1 by simp only [dD,aJ.mk.injEq]; omega]
  exact hm
end
structure yh (w w':bZ) (n:Int) (f:Int→Int):Prop where
 start:w'.Start=w.Start+n
 now:w'.fP=w.fP+n
 wn:w'.n=w.n
 low: ∀ b,0≤cf w b
 least: ∀ b,cf w' b=cf w b
 may: ∀ t,kS w t=true→kS w' t=true
 SA: ∀ s,0≤f s↔0≤s
 opt: ∀ (b:Nat) (p:aJ×Int) (o:Int×ai),b<w.n→w.Start≤p.2→Cd w b p→o∈iS w b→max (p.2+cf w b) o.2.Lo≤min o.2.Hi w.fP→sh w (b+1) (dD p.1 (fG o.1),max (p.2+cf w b) o.2.Lo)→
  ∃ o'∈iS w' b,o'.1=f o.1∧ ∀ t,w.Start≤t→t≤w.fP→((o.2.Lo≤t∧t≤o.2.Hi)↔(o'.2.Lo≤t+n∧t+n≤o'.2.Hi))
section
variable {w w':bZ} {n:Int} {f g:Int→Int}
theorem yh.one (h:yh w w' n f) (s:Int):fG (f s)=fG s:=by
 unfold fG
 have:=h.SA s
 by_cases q:s<0
 ·rw [if_pos q,if_pos I]
 ·rw [if_neg q,if_neg I]
theorem yh.step (h:yh w w' n f) {b:Nat} {p q:aJ×Int} {o:Int×ai} (hb:b<w.n) (hs:w.Start≤p.2) (hl:Cd w b p) (ho:o∈iS w b) (e:k9 w b p o=some q) (hv:sh w (b+1) q):
 ∃ o'∈iS w' b,k9 w' b (G7 n p) o'=some (G7 n q):=by
 obtain ⟨E,rfl⟩:=g7.1 e
 obtain ⟨o',ho',D,A⟩:=h.opt b p o hb hs hl ho E hv
 have F:=h.low b
 have B:=A (max (p.2+cf w b) o.2.Lo) I I
 have C:=A (max (p.2+n+cf w b) o'.2.Lo-n) I
 refine ⟨o',ho',g7.2 ?_⟩
 simp only [G7,h.least,h.now]
 rw [D,h.one]
 have G:=B.1 I
 have H:=(C I).2 I
 refine ⟨I,?_⟩
 simp only [Prod.mk.injEq,true_and]
 omega
theorem yh.reach (h:yh w w' n f): ∀ (k b:Nat) (p q:aJ×Int),b+k≤w.n→w.Start≤p.2→Cd w b p→q∈gl w k b p→sh w (b+k) q→G7 n q∈gl w' k b (G7 n p):=by
 intro k
 induction k with
 |zero=>
  intro b p q _ _ _ hq _
  simp only [gl,cv] at hq ⊢
  rw [hq]
 |succ k ih=>
  intro b p q hb hs hl hq hv
  obtain ⟨o,ho,p',e,hq'⟩:=iF.1 hq
  have hv':sh w (b+1) p':=uC hq' (by rw [show b+1+k=b+(k+1) by omega]; exact hv)
  obtain ⟨o',ho',e'⟩:=h.step I hs hl ho e hv'
  have A:=g7.1 e
  have B:=h.low b
  exact iF.2 ⟨o',ho',_,e',ih (b+1) p' q I (by rw [A.2]; simp only; omega) (E9 hl ho e) hq' (by rw [show b+1+k=b+(k+1) by omega]; exact hv)⟩
theorem yh.N7 (h:yh w w' n f) {b:Nat} {p:aJ×Int} (hs:w.Start≤p.2) (hl:Cd w b p) (hv:sh w b p):sh w' b (G7 n p):=by
 obtain ⟨k,hk,q,hq,hm⟩:=hv
 exact ⟨k,by rw [h.wn]; exact hk,_,h.reach k b p q hk hs hl hq ⟨0,I,q,by simp [gl],hm⟩,h.may _ hm⟩
theorem yh.fwd (h:yh w w' n f) {b:Nat} {q:aJ×Int} (hb:b≤w.n) (hq:q∈fwd w b) (hv:sh w b q):G7 n q∈Go.Proofs.YtgcjjjehnjljbaaGreatDoor.fwd w' b:=by
 obtain ⟨p,hp,hr⟩:=(rK b 0 q).1 (by rw [Nat.zero_add]; exact hq)
 have hr':=h.reach b 0 p q I (yV h.low 0 p hp) (Am hp) hr (by rw [Nat.zero_add]; exact hv)
 have:G7 n p∈Go.Proofs.YtgcjjjehnjljbaaGreatDoor.fwd w' 0:=by
  simp only [Go.Proofs.YtgcjjjehnjljbaaGreatDoor.fwd,cv] at hp ⊢
  subst hp
  rw [h.start]; rfl
 have A:=(rK b 0 (G7 n q)).2 ⟨_,this,hr'⟩
 rwa [Nat.zero_add] at A
theorem yh.any (h:yh w w' n f) {b:Nat} (hb:b≤w.n) (hm:js w (Go.Proofs.YtgcjjjehnjljbaaGreatDoor.fwd w b)=true):js w' (Go.Proofs.YtgcjjjehnjljbaaGreatDoor.fwd w' b)=true:=by
 unfold js at hm ⊢
 obtain ⟨p,hp,A⟩:=List.any_eq_true.1 hm
 exact List.any_eq_true.2 ⟨_,h.fwd hb hp ⟨0,I,p,by simp [gl],A⟩,h.may _ A⟩
theorem yh.pass (h:yh w w' n f) {b:Nat} (hb:b<w.n) {s t:Int} (hp:xC w b s t):xC w' b (f s) (t+n):=by
 obtain ⟨p,hp,o,ho,rfl,⟨D,G⟩,hv⟩:=hp
 have hs:=yV h.low b p hp
 have hl:=h.low b
 have A:sh w (b+1) (dD p.1 (fG o.1),max (p.2+cf w b) o.2.Lo):=wR hv D
 have e:k9 w b p o=some (dD p.1 (fG o.1),max (p.2+cf w b) o.2.Lo):=g7.2 ⟨I,rfl⟩
 have B:sh w b p:=uC (k:=1) (iF.2 ⟨o,ho,_,e,by simp [gl]⟩) A
 obtain ⟨o',ho',C,E⟩:=h.opt b p o hb hs (Am hp) ho I A
 have c:=(E t I I).1 I
 refine ⟨G7 n p,h.fwd I hp B,o',ho',C,?_,?_⟩
 ·simp only [G7,h.least,h.now]; omega
 ·have F:=h.N7 (b:=b+1) (p:=(dD p.1 (fG o.1),t)) (by simp only; omega) ⟨_,gh.2 ⟨p,hp,o,ho,e⟩,D⟩ hv
  rw [C,h.one]; exact F
theorem GV (h:yh w w' n f) (h':yh w' w (-n) g):hG w'=hG w:=by
 unfold hG
 rw [h.wn]
 unfold iA
 congr 1
 refine List.filter_congr fun b hb=>?_
 have hb:=List.mem_range.1 hb
 rw [Bool.eq_iff_iff]
 exact ⟨h'.any (by rw [h.wn]; omega),h.any I⟩
theorem AE (h:yh w w' n f) (hl': ∀ b,0≤cf w' b) {b:Nat} (hb:b<w.n) {s:Int} (hq: ∃ q∈mR w b,q.1=s): ∃ q∈mR w' b,q.1=f s:=by
 obtain ⟨q,hq,e⟩:=hq
 have A:q.2.Lo≤q.2.Hi:=mW hq
 obtain ⟨q',hq',e',_⟩:=(wb hl' (by rw [h.wn]; exact hb)).2 (h.pass hb ((wb h.low hb).1 ⟨q,hq,e,Int.le_refl _,A⟩))
 exact ⟨q',hq',e'⟩
theorem Gv (h:yh w w' n f) (h':yh w' w (-n) g) {b:Nat} (hb:b<w.n):uf w' b=uf w b:=by
 rw [Bool.eq_iff_iff]
 unfold uf
 simp only [List.any_eq_true,decide_eq_true_eq]
 constructor
 ·rintro ⟨q,hq,A⟩
  obtain ⟨q',hq',e⟩:=AE h' h.low (by rw [h.wn]; exact hb) ⟨q,hq,rfl⟩
  exact ⟨q',hq',by rw [e]; exact (h'.SA _).2 A⟩
 ·rintro ⟨q,hq,A⟩
  obtain ⟨q',hq',e⟩:=AE h h'.low hb ⟨q,hq,rfl⟩
  exact ⟨q',hq',by rw [e]; exact (h.SA _).2 A⟩
end
section
variable {l l':bo} {r r':cx} {n:Int} {f g:Int→Int}
structure vN (l:bo) (r:cx) (l':bo) (r':cx) (n:Int) (f g:Int→Int):Prop where
 line:dM l=0
 line':dM l'=0
 jH:ei l r
 ride':ei l' r'
 Ms:l'.ab.length=l.ab.length
 to:yh (bW l r) (bW l' r') n f
 TV:yh (bW l' r') (bW l r) (-n) g
theorem vN.FP (h:vN l r l' r' n f g):hG (bW l' r')=hG (bW l r):=GV h.to h.TV
theorem vN.e (h:vN l r l' r' n f g) {me:Int}:dN l' r' me=dN l r me:=by
 by_cases hm:me=0
 ·by_cases q:hG (bW l r)=[]
  ·rw [g8 h.line h.jH hm q,g8 h.line' h.ride' hm (h.FP.trans q)]
  ·rw [mh h.line h.jH hm q,mh h.line' h.ride' hm (by rw [h.FP]; exact q)]
 ·rw [jC h.line h.jH hm,jC h.line' h.ride' hm]
theorem vN.DE (h:vN l r l' r' n f g):fp l' r'=fp l r:=by
 by_cases q:dN l r 0=0
 ·rw [jR q,jR (h.e.trans q),h.FP]
 ·rw [kj q,kj (by rw [h.e]; exact q)]
theorem vN.ti (h:vN l r l' r' n f g) {b:Int}:e_ l' b=e_ l b:=by unfold e_; rw [h.Ms]
theorem vN.bn (h:vN l r l' r' n f g):(bW l r).n=l.ab.length:=cS
theorem vN.eW (h:vN l r l' r' n f g):tx l' r'=tx l r:=by
 by_cases q:dN l r 0=0
 ·rw [sG q,sG (h.e.trans q),h.DE]
  have hb:=P0 q
  unfold wg
  congr 1
  refine List.filter_congr fun b A=>?_
  have A:=List.mem_range.1 A
  rw [Gv h.to h.TV (by rw [h.bn]; omega)]
 ·rw [xW q,xW (by rw [h.e]; exact q)]
end
end
section
theorem m_ {l:bo} (ht:dv l.aO=true) (h:l9 l) {i:Nat} (hi:i<l.ab.length):1≤ej l i∧ej l i≤500000000:=by
 have A:=h.Oa i hi
 have B:=B2 ht h.ti i
 have hf:=h.head.1
 unfold ej oM
 refine ⟨(Int.le_ediv_iff_mul_le I).2 I,?_⟩
 have:(1000*mo l i+l.ib-1)/l.ib≤1000*mo l i+l.ib-1:=Int.ediv_le_self _ I
 omega
end
section
def dq (good:List Int):aJ:=good.foldl (fun t g=>dD t (fG g)) ⟨0,0⟩
theorem kb {l:List Int} {g:Int}:dq (l++[g])=dD (dq l) (fG g):=by unfold dq; rw [List.foldl_append]; rfl
def tP (r:cx) (times:List Int) (b:Nat):Int:=if b=0 then r.Start else (times[b-1]?).getD 0
theorem pC {r:cx} {times:List Int} {b:Nat} {t:Int} (h:times[b]? =some t):tP r times (b+1)=t:=by unfold tP; rw [if_neg I,Nat.add_sub_cancel,h]; rfl
structure iZ (l:bo) (r:cx) (times good:List Int):Prop where
 jH:ei l r
 len:good.length=times.length
 le:times.length≤l.ab.length
 step: ∀ (b:Nat) t,times[b]? =some t→tP r times b+ej l b≤t∧t≤r.fP
 sig: ∀ (b:Nat) t g,times[b]? =some t→good[b]? =some g→g= -1∨ ∃ (k:Nat) (s:aH),g=(k:Int)∧r.aa[k]? =some s∧s.fz=(b:Int)∧(dg l s).Lo≤t∧t≤(dg l s).Hi
 Jr:(dq good).eW≤l.dp
 Pt:(r.aa.length:Int)-(dq good).right≤l.e9
section
variable {l:bo} {r:cx} {times good:List Int}
theorem iZ.low (h:iZ l r times good) (hl:dM l=0): ∀ b,0≤cf (bW l r) b:=fun b=>by
 obtain ⟨ht,A⟩:=dK hl
 exact ((lL ht A h.jH).cf b).1
theorem iZ.least (h:iZ l r times good) {b:Nat} (hb:b<times.length):cf (bW l r) b=ej l b:=by
 have:=h.le
 rw [yz,if_pos I]
theorem iZ.from_ (h:iZ l r times good) (hl:dM l=0): ∀ b:Nat,b≤times.length→r.Start≤tP r times b∧tP r times b≤r.fP:=by
 intro b
 induction b with
 |zero=>intro _; have:=h.jH.time; unfold tP; rw [if_pos rfl]; omega
 |succ b ih=>
  intro hb
  have ht:times[b]? =some (times[b]'I):=eX _
  have B:=ih I
  have C:=h.step b _ ht
  have A:=h.low hl b
  rw [h.least I] at A
  rw [pC ht]
  omega
/-- what comes next, in the truth -/
theorem iZ.opt (h:iZ l r times good) (hl:dM l=0) {b:Nat} {t g:Int} (ht:times[b]? =some t) (hg:good[b]? =some g): ∃ o∈iS (bW l r) b,o.1=g∧o.2.Lo≤t∧t≤o.2.Hi:=by
 have hb:=(aU.1 ht).1
 have E:=h.le
 have F:=h.step b t ht
 have G:=h.from_ hl b I
 have B:=h.low hl b
 rw [h.least hb] at B
 rcases h.sig b t g ht hg with rfl|⟨k,s,rfl,hs,A,C,D⟩
 ·exact ⟨(-1,⟨r.Start,r.fP⟩),(qY I).2 (.inl U),U,by simp only; omega,by simp only; omega⟩
 ·exact ⟨((k:Int),dg l s),(qY I).2 (.inr ⟨k,(aU.1 hs).1,s,hs,⟨A,I⟩,U⟩),U,C,D⟩
theorem jy {α:Type} {l:List α} {b:Nat} {x:α} (h:l[b]? =some x):l.take (b+1)=l.take b++[x]:=by rw [List.take_add_one,h]; rfl
theorem iZ.live (h:iZ l r times good) (hl:dM l=0): ∀ b:Nat,b≤times.length→Cd (bW l r) b (dq (good.take b),tP r times b):=by
 intro b
 induction b with
 |zero=>intro _; exact ⟨r.Start,by simp [fwd,dq]; rfl,by unfold tP; rw [if_pos rfl]; exact Int.le_refl _⟩
 |succ b ih=>
  intro hb
  have B:=h.len
  have ht:times[b]? =some (times[b]'I):=eX _
  have hg:good[b]? =some (good[b]'I):=eX _
  obtain ⟨v,hv,A⟩:=ih I
  obtain ⟨o,ho,e,C,D⟩:=h.opt hl ht hg
  have E:=h.step b _ ht
  have F:=h.least (b:=b) I
  simp only at A hv
  rw [pC ht,jy hg,kb,← e]
  refine ⟨max (v+cf (bW l r) b) o.2.Lo,gh.2 ⟨_,hv,o,ho,g7.2 ⟨?_,U⟩⟩,?_⟩
  ·have G:(bW l r).fP=r.fP:=rfl
   simp only; omega
  ·simp only; omega
theorem iZ.N7 (h:iZ l r times good) (hl:dM l=0): ∀ (d b:Nat),b+d=times.length→sh (bW l r) b (dq (good.take b),tP r times b):=by
 intro d
 induction d with
 |zero=>
  intro b hb
  have hn:(bW l r).n=l.ab.length:=cS
  have C:=h.len
  have D:=h.le
  refine ⟨0,I,_,by simp [gl]; rfl,?_⟩
  rw [List.take_of_length_le I]
  unfold kS
  have A:=h.Jr
  have B:=h.Pt
  exact cJ ⟨A,B⟩
 |succ d ih=>
  intro b hb
  have C:=h.len
  have ht:times[b]? =some (times[b]'I):=eX _
  have hg:good[b]? =some (good[b]'I):=eX _
  obtain ⟨o,ho,e,D,A⟩:=h.opt hl ht hg
  have B:=h.step b _ ht
  have E:=h.least (b:=b) I
  have F:(bW l r).fP=r.fP:=rfl
  have hv:=ih (b+1) I
  rw [pC ht,jy hg,kb,← e] at hv
  exact uC (k:=1) (iF.2 ⟨o,ho,_,g7.2 ⟨by first|omega|(simp only; omega),U⟩,by simp [gl]; rfl⟩) (wR hv (by first|omega|(simp only; omega)))
theorem iZ.pass (h:iZ l r times good) (hl:dM l=0) {b:Nat} {t g:Int} (ht:times[b]? =some t) (hg:good[b]? =some g):xC (bW l r) b g t:=by
 have hb:=(aU.1 ht).1
 obtain ⟨v,hv,A⟩:=h.live hl b I
 obtain ⟨o,ho,e,B,C⟩:=h.opt hl ht hg
 have D:=h.step b _ ht
 have E:=h.least (b:=b) hb
 have F:(bW l r).fP=r.fP:=rfl
 have hw:=h.N7 hl (times.length-(b+1)) (b+1) I
 rw [pC ht,jy hg,kb,← e] at hw
 simp only at A
 exact ⟨_,hv,o,ho,e,⟨by simp only; omega,I⟩,hw⟩
theorem iZ.num (h:iZ l r times good) (hl:dM l=0):(times.length:Int)∈hG (bW l r):=by
 obtain ⟨v,hv,_⟩:=h.live hl times.length (Nat.le_refl _)
 have hn:(bW l r).n=l.ab.length:=cS
 have B:=h.le
 refine o4.2 ⟨times.length,U,I,?_⟩
 unfold js
 refine List.any_eq_true.2 ⟨_,hv,?_⟩
 have A:=h.len
 rw [List.take_of_length_le I]
 unfold kS
 exact cJ ⟨h.Jr,h.Pt⟩
theorem iZ.e (h:iZ l r times good) (hl:dM l=0):dN l r 0=0:=mh hl h.jH rfl fun e=>by have:=h.num hl; rw [e] at this; cases this
theorem iZ.DE (h:iZ l r times good) (hl:dM l=0):(times.length:Int)∈fp l r:=by rw [jR (h.e hl)]; exact h.num hl
theorem iZ.not_false (h:iZ l r times good) (hl:dM l=0) {b:Nat} {g:Int} (hg:good[b]? =some g) (h0:0≤g): ¬ g∈I0 l r∧ ¬ (b:Int)∈tx l r:=by
 have hb:=(aU.1 hg).1
 have A:=h.len
 have B:=h.le
 have ht:times[b]? =some (times[b]'I):=eX _
 have hn:(bW l r).n=l.ab.length:=cS
 obtain ⟨q,hq,e,_⟩:=(wb (h.low hl) I).2 (h.pass hl ht hg)
 constructor
 ·rw [GA (h.e hl)]
  intro hm
  exact (Dn.1 hm).2 ⟨b,I,q,hq,e⟩
 ·rw [sG (h.e hl)]
  intro hm
  unfold wg at hm
  obtain ⟨k,hk,ek⟩:=cE.1 hm
  obtain rfl:k=b:=by omega
  have hr:=(List.mem_filter.1 hk).2
  have:uf (bW l r) k=true:=List.any_eq_true.2 ⟨q,hq,cJ I⟩
  rw [this] at hr
  cases hr
end
end
section
def gZ (hi:Int→Int) (least:Nat→Int) (now:Int):Nat→List Int→List Int×Int
 |_,[]=>([],now)
 |b,x::xs=>((if 0≤x then min (gZ hi least now (b+1) xs).2 (hi x) else (gZ hi least now (b+1) xs).2)::(gZ hi least now (b+1) xs).1,(if 0≤x then min (gZ hi least now (b+1) xs).2 (hi x) else (gZ hi least now (b+1) xs).2)-least b)
def gv (t:Int):List Int→Int
 |[]=>t
 |x::xs=>gv x xs
def kh (w:bZ):Nat→Int→List Int→List Int→Prop
 |_,_,[],[]=>True
 |b,t,x::rs,y::fs=>(∃ o∈iS w b,o.1=x∧max (t+cf w b) o.2.Lo≤min o.2.Hi w.fP∧y=max (t+cf w b) o.2.Lo)∧kh w (b+1) y rs fs
 |_,_,_,_=>False
section
variable {w:bZ} {hi:Int→Int} {least:Nat→Int} {now:Int}
theorem rI: ∀ (b:Nat) (rs:List Int),(gZ hi least now b rs).1.length=rs.length
 |_,[]=>rfl
 |b,x::xs=>by simp only [gZ,List.length_cons]; rw [rI]
theorem nk: ∀ (t:Int) (fs:List Int) (y:Int),gv t (fs++[y])=y
 |_,[],_=>rfl
 |t,x::fs,y=>nk x fs y
theorem Bb: ∀ (t:Int) (fs:List Int) (y:Int),fs[fs.length-1]? =some y→gv t fs=y
 |t,[],y,h=>by simp at h
 |t,[x],y,h=>by simpa [gv] using h
 |t,x::x2::fs,y,h=>by
  show gv x (x2::fs)=y
  exact Bb x (x2::fs) y (by simpa using h)
theorem td: ∀ (b:Nat) (rs:List Int) (x:Int) (ss:List Int),(gZ hi least now b (rs++x::ss)).1[rs.length]? =some (if 0≤x then min (gZ hi least now (b+rs.length+1) ss).2 (hi x) else (gZ hi least now (b+rs.length+1) ss).2)
 |b,[],x,ss=>by simp [gZ]
 |b,z::rs,x,ss=>by
  have:=td (b+1) rs x ss
  simp only [List.cons_append,gZ,List.length_cons,List.getElem?_cons_succ]
  rw [this,show b+1+rs.length+1=b+(rs.length+1)+1 by omega]
theorem kp: ∀ (b:Nat) (t:Int) (rs fs:List Int),kh w b t rs fs→fs.length=rs.length
 |_,_,[],[],_=>rfl
 |b,t,x::rs,y::fs,h=>by simp [kp _ _ rs fs h.2]
 |_,_,[],_::_,h=>h.elim
 |_,_,_::_,[],h=>h.elim
theorem rj: ∀ (b:Nat) (t:Int) (rs fs ss gs:List Int),fs.length=rs.length→(kh w b t (rs++ss) (fs++gs)↔kh w b t rs fs∧kh w (b+rs.length) (gv t fs) ss gs)
 |b,t,[],[],ss,gs,_=>by simp [kh,gv]
 |b,t,x::rs,y::fs,ss,gs,h=>by
  have ih:=rj (b+1) y rs fs ss gs (by simpa using h)
  simp only [List.cons_append,kh,List.length_cons,gv]
  rw [ih,show b+1+rs.length=b+(rs.length+1) by omega,and_assoc]
 |_,_,[],_::_,_,_,h=>by simp at h
 |_,_,_::_,[],_,_,h=>by simp at h
theorem Dm (b:List Int): ∀ t:aJ,b.foldl (fun t g=>dD t (fG g)) t=dD t (dq b):=by
 induction b with
 |nil=>intro t; exact (ni t).symm
 |cons x b ih=>
  intro t
  show b.foldl (fun t g=>dD t (fG g)) (dD t (fG x))=dD t (b.foldl (fun t g=>dD t (fG g)) (dD ⟨0,0⟩ (fG x)))
  rw [ih,ih]; simp only [dD,aJ.mk.injEq]; omega
theorem rJ (a b:List Int):dq (a++b)=dD (dq a) (dq b):=by
 show (a++b).foldl _ _=_
 rw [List.foldl_append,Dm]; rfl
theorem rl:dq []=(⟨0,0⟩:aJ):=rfl
theorem pO (l:List Int):dD (⟨0,0⟩:aJ) (dq l)=dq l:=by simp [dD]
theorem sI (x:Int) (l:List Int):dq (x::l)=dD (fG x) (dq l):=by
 rw [show x::l=[x]++l from rfl,rJ,show dq [x]=fG x from (kb (l:=[])).trans (by rw [rl]; simp [dD])]
theorem sX: ∀ l:List Int,0≤(dq l).right∧0≤(dq l).eW∧(dq l).right+(dq l).eW=(l.length:Int)
 |[]=>by rw [rl]; simp
 |x::l=>by
  rw [sI]
  have:=ve x
  have:=sX l
  simp only [dD,List.length_cons]
  omega
/-- chains are what the watch goes through -/
theorem kg: ∀ (k b:Nat) (p q:aJ×Int),q∈gl w k b p↔ ∃ rs fs,rs.length=k∧kh w b p.2 rs fs∧q=(dD p.1 (dq rs),gv p.2 fs):=by
 intro k
 induction k with
 |zero=>
  intro b p q
  simp only [gl,cv]
  constructor
  ·rintro rfl; exact ⟨[],[],rfl,trivial,by rw [rl,ni]; rfl⟩
  ·rintro ⟨rs,fs,A,B,rfl⟩
   have A:=ig A
   subst A
   have:=ig (kp _ _ _ _ B)
   subst this
   rw [rl,ni]; rfl
 |succ k ih=>
  intro b p q
  rw [iF]
  constructor
  ·rintro ⟨o,ho,p',e,h⟩
   obtain ⟨A,rfl⟩:=g7.1 e
   obtain ⟨rs,fs,B,C,rfl⟩:=(ih _ _ _).1 h
   refine ⟨o.1::rs,max (p.2+cf w b) o.2.Lo::fs,by simp [B],⟨⟨o,ho,U,A,U⟩,C⟩,?_⟩
   rw [sI]
   simp only [gv,dD,Prod.mk.injEq,aJ.mk.injEq,and_true]; omega
  ·rintro ⟨rs,fs,A,B,rfl⟩
   cases rs with
   |nil=>simp at A
   |cons x rs=>
    cases fs with
    |nil=>exact B.elim
    |cons y fs=>
     obtain ⟨⟨o,ho,rfl,C,rfl⟩,D⟩:=B
     refine ⟨o,ho,_,g7.2 ⟨C,U⟩,(ih _ _ _).2 ⟨rs,fs,by simpa using A,D,?_⟩⟩
     rw [sI]
     simp only [gv,dD,Prod.mk.injEq,aJ.mk.injEq,and_true]; omega
/-- what the reference's rows of last times know -/
structure HH (w:bZ) (hi:Int→Int) (least:Nat→Int) (now:Int):Prop where
 low: ∀ b,0≤cf w b
 least: ∀ b,b<w.n→least b=cf w b
 now:now=w.fP
 hi: ∀ b o,b<w.n→o∈iS w b→0≤o.1→o.2.Hi=hi o.1
 none_: ∀ b o,b<w.n→o∈iS w b→ ¬ 0≤o.1→o.2.Hi=w.fP
theorem wT (h:HH w hi least now): ∀ (b:Nat) (rs:List Int),b+rs.length≤w.n→(gZ hi least now b rs).2≤w.fP
 |_,[],_=>by simp only [gZ]; exact Int.le_of_eq h.now
 |b,x::xs,hb=>by
  simp only [List.length_cons] at hb
  have B:=wT h (b+1) xs I
  have A:=h.low b
  rw [← h.least b I] at A
  simp only [gZ]
  split<;>omega
theorem ru (h:HH w hi least now): ∀ (b:Nat) (t:Int) (rs fs:List Int),b+rs.length≤w.n→t≤w.fP→kh w b t rs fs→t≤(gZ hi least now b rs).2
 |_,t,[],[],_,ht,_=>by simp only [gZ]; rw [h.now]; exact ht
 |b,t,x::rs,y::fs,hb,ht,hc=>by
  simp only [List.length_cons] at hb
  obtain ⟨⟨o,ho,rfl,D,rfl⟩,A⟩:=hc
  have B:=ru h (b+1) _ rs fs I I A
  have C:=h.least b I
  simp only [gZ]
  split
  ·rename_i q
   have:=h.hi b o I ho q
   omega
  ·omega
 |_,_,[],_::_,_,_,hc=>hc.elim
 |_,_,_::_,[],_,_,hc=>hc.elim
theorem w4 (h:HH w hi least now): ∀ (b:Nat) (t t':Int) (rs fs:List Int),b+rs.length≤w.n→t≤t'→t'≤(gZ hi least now b rs).2→kh w b t rs fs→ ∃ gs,kh w b t' rs gs
 |_,t,_,[],[],_,_,_,_=>⟨[],trivial⟩
 |b,t,t',x::rs,y::fs,hb,ht,he,hc=>by
  simp only [List.length_cons] at hb
  obtain ⟨⟨o,ho,rfl,E,rfl⟩,A⟩:=hc
  have C:=ru h (b+1) _ rs fs I I A
  have D:=h.least b I
  have F:=wT h (b+1) rs I
  simp only [gZ] at he
  have B:max (t'+cf w b) o.2.Lo≤min o.2.Hi w.fP∧max (t'+cf w b) o.2.Lo≤(gZ hi least now (b+1) rs).2:=by
   split at he
   ·rename_i q
    have:=h.hi b o I ho q
    omega
   ·rename_i q
    have:=h.none_ b o I ho q
    omega
  obtain ⟨gs,hg⟩:=w4 h (b+1) _ (max (t'+cf w b) o.2.Lo) rs fs I I B.2 A
  exact ⟨_::gs,⟨o,ho,U,B.1,U⟩,hg⟩
 |_,_,_,[],_::_,_,_,_,hc=>hc.elim
 |_,_,_,_::_,[],_,_,_,hc=>hc.elim
theorem Ac (b:Nat) (t t':Int) (rs fs:List Int) (ht:t'≤t) (hc:kh w b t rs fs): ∃ gs,kh w b t' rs gs:=by
 have A:(dD ⟨0,0⟩ (dq rs),gv t fs)∈gl w rs.length b (⟨0,0⟩,t):=(kg _ _ _ _).2 ⟨rs,fs,rfl,hc,rfl⟩
 clear A
 induction rs generalizing b t t' fs with
 |nil=>exact ⟨[],trivial⟩
 |cons x rs ih=>
  cases fs with
  |nil=>exact hc.elim
  |cons y fs=>
   obtain ⟨⟨o,ho,rfl,C,rfl⟩,B⟩:=hc
   obtain ⟨gs,hg⟩:=ih (b+1) _ (max (t'+cf w b) o.2.Lo) fs I B
   exact ⟨_::gs,⟨o,ho,U,I,U⟩,hg⟩
/-- a way, as it is asked for -/
structure MQ (w:bZ) (hi:Int→Int) (least:Nat→Int) (now:Int) (y:dj):Prop where
 chain:kh w 0 w.Start y.gf y.jf
 len:y.gf.length≤w.n
 last:y.l6=(gZ hi least now 0 y.gf).1
 may:kS w (dq y.gf)=true
theorem BX {k:Nat}:js w (fwd w k)=true↔ ∃ rs fs,rs.length=k∧kh w 0 w.Start rs fs∧kS w (dq rs)=true:=by
 unfold js
 rw [List.any_eq_true]
 have e:=fun q=>(rK (w:=w) k 0 q)
 rw [Nat.zero_add] at e
 constructor
 ·rintro ⟨q,hq,hm⟩
  obtain ⟨p,hp,h⟩:=(e q).1 hq
  simp only [fwd,cv] at hp
  subst hp
  obtain ⟨rs,fs,A,B,rfl⟩:=(kg _ _ _ _).1 h
  refine ⟨rs,fs,A,B,?_⟩
  rwa [pO] at hm
 ·rintro ⟨rs,fs,A,B,C⟩
  refine ⟨_,(e _).2 ⟨((⟨0,0⟩:aJ),w.Start),cv.2 U,(kg _ _ _ _).2 ⟨rs,fs,A,B,U⟩⟩,?_⟩
  simp only [pO]; exact C
theorem JE (h:HH w hi least now) (hs:w.Start≤w.fP) {b:Nat} (hb:b<w.n) {s t:Int}:xC w b s t↔ ∃ y,MQ w hi least now y∧ ∃ f e,y.gf[b]? =some s∧y.jf[b]? =some f∧y.l6[b]? =some e∧f≤t∧t≤e:=by
 have ef:=fun q=>(rK (w:=w) b 0 q)
 rw [Nat.zero_add] at ef
 constructor
 ·rintro ⟨p,hp,o,ho,rfl,⟨C,L⟩,k,hk,q,hq,hm⟩
  obtain ⟨Y,AB,hp⟩:=(ef p).1 hp
  simp only [fwd,cv] at AB
  subst AB
  obtain ⟨rs,fs,K,D,rfl⟩:=(kg _ _ _ _).1 hp
  obtain ⟨ss,gs,AA,E,rfl⟩:=(kg _ _ _ _).1 hq
  simp only at C L D E hm
  obtain ⟨gs',J⟩:=Ac (b+1) t (max (gv w.Start fs+cf w b) o.2.Lo) ss gs C E
  have H:=kp _ _ _ _ D
  have T:=kp _ _ _ _ J
  have hc:kh w 0 w.Start (rs++o.1::ss) (fs++max (gv w.Start fs+cf w b) o.2.Lo::gs'):=(rj _ _ _ _ _ _ H).2 ⟨D,by rw [Nat.zero_add,K]; exact ⟨⟨o,ho,rfl,I,rfl⟩,J⟩⟩
  have he:=ru h (b+1) t ss gs I I E
  have A:=td (hi:=hi) (least:=least) (now:=now) 0 rs o.1 ss
  rw [Nat.zero_add,K] at A
  refine ⟨⟨rs++o.1::ss,fs++max (gv w.Start fs+cf w b) o.2.Lo::gs',(gZ hi least now 0 (rs++o.1::ss)).1⟩,⟨hc,by simp; omega,U,?_⟩,max (gv w.Start fs+cf w b) o.2.Lo,_,?_,?_,A,C,?_⟩
  ·show kS w (dq (rs++o.1::ss))=true
   rw [show rs++o.1::ss=(rs++[o.1])++ss by simp,rJ,kb]
   rwa [pO] at hm
  ·show (rs++o.1::ss)[b]? =some o.1
   rw [List.getElem?_append_right I,K,Nat.sub_self]; rfl
  ·show (fs++_::gs')[b]? =_
   rw [List.getElem?_append_right I,H,K,Nat.sub_self]; rfl
  ·split
   ·rename_i q
    have:=h.hi b o hb ho q
    omega
   ·exact he
 ·rintro ⟨y,hy,f,e,C,L,P,Q,V⟩
  obtain ⟨R,F,La⟩:=y
  obtain ⟨hc,hn,A,hm⟩:=hy
  simp only at C L P hc hn A hm
  have N:=(aU.1 C).1
  have S:=kp _ _ _ _ hc
  have eR:R=R.take b++s::R.drop (b+1):=by rw [← (aU.1 C).2]; exact (List.take_append_drop b R).symm.trans (by rw [List.drop_eq_getElem_cons N])
  have M:b<F.length:=by omega
  have eF:F=F.take b++f::F.drop (b+1):=by rw [← (aU.1 L).2]; exact (List.take_append_drop b F).symm.trans (by rw [List.drop_eq_getElem_cons M])
  rw [eR,eF,rj _ _ _ _ _ _ (by simp only [List.length_take]; omega)] at hc
  have O:(R.take b).length=b:=by rw [List.length_take]; omega
  rw [O,Nat.zero_add] at hc
  obtain ⟨D,⟨o,ho,rfl,W,rfl⟩,E⟩:=hc
  have B:=td (hi:=hi) (least:=least) (now:=now) 0 (R.take b) o.1 (R.drop (b+1))
  rw [← eR,O,Nat.zero_add,← A,P] at B
  have B:=Option.some.inj B
  have G:t≤(gZ hi least now (b+1) (R.drop (b+1))).2∧t≤min o.2.Hi w.fP:=by
   have X:=wT h (b+1) (R.drop (b+1)) (by rw [List.length_drop]; omega)
   split at B
   ·rename_i q
    have:=h.hi b o hb ho q
    omega
   ·rename_i q
    have:=h.none_ b o hb ho q
    omega
  obtain ⟨gs,J⟩:=w4 h (b+1) _ t (R.drop (b+1)) (F.drop (b+1)) (by rw [List.length_drop]; omega) Q G.1 E
  refine ⟨(dD ⟨0,0⟩ (dq (R.take b)),gv w.Start (F.take b)),(ef _).2 ⟨((⟨0,0⟩:aJ),w.Start),cv.2 U,(kg _ _ _ _).2 ⟨_,_,O,D,U⟩⟩,o,ho,U,⟨Q,G.2⟩,(R.drop (b+1)).length,by rw [List.length_drop]; omega,_,(kg _ _ _ _).2 ⟨_,gs,U,J,U⟩,?_⟩
  show kS w (dD (dD (dD ⟨0,0⟩ (dq (R.take b))) (fG o.1)) (dq (R.drop (b+1))))=true
  rw [pO,← kb,← rJ,show R.take b++[o.1]++R.drop (b+1)=R from by rw [List.append_assoc]; exact eR.symm]
  exact hm
end
noncomputable def JS (l:bo) (r:cx) (x:Int):Int:=match r.aa[x.toNat]? with
 |some s=>(dg l s).Hi
 |none=>0
theorem Dz {l:bo} {r:cx} {x:Int} {s:aH} (h:r.aa[x.toNat]? =some s):JS l r x=(dg l s).Hi:=by unfold JS; rw [h]
noncomputable def jG (l:bo) (r:cx) (rs:List Int):List Int:=(gZ (JS l r) (ej l) r.fP 0 rs).1
noncomputable def oT (l:bo) (r:cx) (n:Nat) (t i:Int):Option Int:=
 if i<0 then (if t≤r.fP then some t else none) else match r.aa[i.toNat]? with
  |some s=>if (s.fz=(n:Int)∧(dg l s).Lo≤(dg l s).Hi)∧max t (dg l s).Lo≤min r.fP (dg l s).Hi then some (max t (dg l s).Lo) else none
  |none=>none
noncomputable def hZ (l:bo) (r:cx) (rs fs:List Int):List dj:=if (r.aa.length:Int)-(dq rs).right≤l.e9 then [⟨rs,fs,jG l r rs⟩] else []
noncomputable def iD (l:bo) (r:cx):Nat→List Int→List Int→List dj
 |0,rs,fs=>if l.dp<(dq rs).eW then [] else hZ l r rs fs
 |k+1,rs,fs=>if l.dp<(dq rs).eW then [] else hZ l r rs fs++(List.range (r.aa.length+1)).flatMap fun (j:Nat)=>match oT l r rs.length (gv r.Start fs+ej l rs.length) ((j:Int)-1) with
  |some t=>iD l r k (rs++[(j:Int)-1]) (fs++[t])
  |none=>[]
noncomputable def Dh (l:bo) (r:cx) (k:Nat) (rs fs:List Int) (j:Nat):List dj:=hZ l r rs fs++(List.range j).flatMap fun (j:Nat)=>match oT l r rs.length (gv r.Start fs+ej l rs.length) ((j:Int)-1) with
 |some t=>iD l r k (rs++[(j:Int)-1]) (fs++[t])
 |none=>[]
noncomputable def iI (l:bo) (r:cx) (k:Nat) (rs fs:List Int) (j:Nat):List dj:=(List.range j).flatMap fun (j:Nat)=>match oT l r rs.length (gv r.Start fs+ej l rs.length) ((j:Int)-1) with
 |some t=>iD l r k (rs++[(j:Int)-1]) (fs++[t])
 |none=>[]
section
variable {l:bo} {r:cx} {k j:Nat} {rs fs:List Int} {t:Int}
theorem rm:Dh l r k rs fs j=hZ l r rs fs++iI l r k rs fs j:=rfl
theorem m8 (h:oT l r rs.length (gv r.Start fs+ej l rs.length) ((j:Int)-1)=some t):iI l r k rs fs (j+1)=iI l r k rs fs j++iD l r k (rs++[(j:Int)-1]) (fs++[t]):=by
 unfold iI; rw [List.range_succ,List.flatMap_append]; simp [h]
theorem qQ (h:oT l r rs.length (gv r.Start fs+ej l rs.length) ((j:Int)-1)=none):iI l r k rs fs (j+1)=iI l r k rs fs j:=by
 unfold iI; rw [List.range_succ,List.flatMap_append]; simp [h]
theorem ny (h:l.dp<(dq rs).eW):iD l r k rs fs=[]:=by cases k<;>exact if_pos h
theorem nJ (h: ¬ l.dp<(dq rs).eW):iD l r 0 rs fs=hZ l r rs fs:=if_neg h
theorem nF (h: ¬ l.dp<(dq rs).eW):iD l r (k+1) rs fs=Dh l r k rs fs (r.aa.length+1):=if_neg h
theorem AM {n:Nat} (hn:n<l.ab.length) (hl:0≤ej l n) (ht:r.Start≤t) {i y:Int} (hi: -1≤i):oT l r n (t+ej l n) i=some y↔ ∃ o∈iS (bW l r) n,o.1=i∧max (t+cf (bW l r) n) o.2.Lo≤min o.2.Hi (bW l r).fP∧y=max (t+cf (bW l r) n) o.2.Lo:=by
 rw [py hn]
 have hw:(bW l r).fP=r.fP:=rfl
 unfold oT
 constructor
 ·intro h
  split at h
  ·rename_i B
   split at h
   ·cases h
    exact ⟨(-1,⟨r.Start,r.fP⟩),(qY hn).2 (.inl U),by simp only; omega,by simp only; omega,by simp only; omega⟩
   ·cases h
  ·rename_i B
   split at h
   ·rename_i s hs
    split at h
    ·rename_i q
     cases h
     exact ⟨((i.toNat:Nat),dg l s),(qY hn).2 (.inr ⟨i.toNat,(aU.1 hs).1,s,hs,q.1,U⟩),by simp only; omega,by simp only; omega,U⟩
    ·cases h
   ·cases h
 ·rintro ⟨o,ho,rfl,A,rfl⟩
  rcases (qY hn).1 ho with rfl|⟨k,hk,s,hs,q,rfl⟩
  ·simp only at A ⊢
   rw [if_pos I,if_pos I]
   congr 1; omega
  ·simp only at A ⊢
   rw [if_neg I,Int.toNat_natCast,hs]
   simp only
   rw [if_pos ⟨q,I⟩]
theorem H_ (hl: ∀ n,n<l.ab.length→0≤ej l n): ∀ (k:Nat) (rs fs:List Int) (y:dj),rs.length+k=l.ab.length→fs.length=rs.length→r.Start≤gv r.Start fs→
 (y∈iD l r k rs fs↔ ∃ ss gs,kh (bW l r) rs.length (gv r.Start fs) ss gs∧ss.length≤k∧y=⟨rs++ss,fs++gs,jG l r (rs++ss)⟩∧kS (bW l r) (dq (rs++ss))=true):=by
 have D: ∀ (rs fs:List Int) (y:dj),¬ l.dp<(dq rs).eW→(y∈hZ l r rs fs↔y=⟨rs++[],fs++[],jG l r (rs++[])⟩∧kS (bW l r) (dq (rs++[]))=true):=by
  intro rs fs y hm
  unfold hZ
  rw [List.append_nil,List.append_nil]
  have e:kS (bW l r) (dq rs)=true↔(r.aa.length:Int)-(dq rs).right≤l.e9:=by
   unfold kS
   rw [decide_eq_true_eq]
   exact ⟨fun q=>q.2,fun q=>⟨by have:(bW l r).dp=l.dp:=rfl; omega,q⟩⟩
  split
  ·rename_i q
   rw [cv]
   exact ⟨fun h=>⟨h,e.2 q⟩,fun h=>h.1⟩
  ·rename_i q
   exact ⟨fun h=>(by cases h),fun h=>absurd (e.1 h.2) q⟩
 have Jr: ∀ (rs ss:List Int),l.dp<(dq rs).eW→ ¬ kS (bW l r) (dq (rs++ss))=true:=by
  intro rs ss h q
  unfold kS at q
  have:=(of_decide_eq_true q).1
  rw [rJ] at this
  have C:=sX ss
  simp only [dD] at this
  have:(bW l r).dp=l.dp:=rfl
  omega
 intro k
 induction k with
 |zero=>
  intro rs fs y hn hf hs
  by_cases hm:l.dp<(dq rs).eW
  ·rw [ny hm]
   exact ⟨fun h=>(by cases h),fun ⟨ss,gs,_,_,_,q⟩=>absurd q (Jr rs ss hm)⟩
  ·rw [nJ hm,D _ _ _ hm]
   constructor
   ·rintro ⟨B,C⟩; exact ⟨[],[],trivial,sm,B,C⟩
   ·rintro ⟨ss,gs,B,C,E,F⟩
    have e:=ig (Nat.le_zero.1 C)
    subst e
    have e:=ig (kp _ _ _ _ B)
    subst e
    exact ⟨E,F⟩
 |succ k ih=>
  intro rs fs y hn hf hs
  by_cases hm:l.dp<(dq rs).eW
  ·rw [ny hm]
   exact ⟨fun h=>(by cases h),fun ⟨ss,gs,_,_,_,q⟩=>absurd q (Jr rs ss hm)⟩
  ·rw [nF hm]
   unfold Dh
   rw [gL,D _ _ _ hm,List.mem_flatMap]
   have A: ∀ (x y:Int),(rs++[x]).length+k=l.ab.length∧(fs++[y]).length=(rs++[x]).length:=fun x y=>by simp; omega
   constructor
   ·rintro (⟨B,C⟩|⟨j,hj,h⟩)
    ·exact ⟨[],[],trivial,sm,B,C⟩
    ·cases e:oT l r rs.length (gv r.Start fs+ej l rs.length) ((j:Int)-1) with
     |none=>rw [e] at h; cases h
     |some t=>
      rw [e] at h
      simp only at h
      obtain ⟨o,ho,B,C,E⟩:=(AM I (hl _ I) hs I).1 e
      have G:r.Start≤t:=by
       have:=hl rs.length I
       rw [py I] at E
       omega
      obtain ⟨ss,gs,F,J,H,AA⟩:=(ih _ _ y (A _ t).1 (A _ t).2 (by rw [nk]; exact G)).1 h
      rw [nk,List.length_append] at F
      refine ⟨((j:Int)-1)::ss,t::gs,⟨⟨o,ho,B,C,E⟩,F⟩,by simp; omega,by simpa using H,by simpa using AA⟩
   ·rintro ⟨ss,gs,B,C,E,F⟩
    cases ss with
    |nil=>
     have e:=ig (kp _ _ _ _ B)
     subst e
     exact .inl ⟨E,F⟩
    |cons x ss=>
     cases gs with
     |nil=>exact B.elim
     |cons t gs=>
      obtain ⟨⟨o,ho,rfl,J,H⟩,AA⟩:=B
      right
      have hx: -1≤o.1∧o.1<(r.aa.length:Int):=by
       rcases (qY I).1 ho with rfl|⟨k,hk,s,hs,q,rfl⟩
       ·simp only; omega
       ·simp only; omega
      have G:r.Start≤t:=by
       have:=hl rs.length I
       rw [py I] at H
       omega
      have K:((o.1+1).toNat:Int)-1=o.1:=by omega
      refine ⟨(o.1+1).toNat,List.mem_range.2 I,?_⟩
      rw [K,(AM I (hl _ I) hs I).2 ⟨o,ho,rfl,J,H⟩]
      simp only
      refine (ih _ _ y (A _ t).1 (A _ t).2 (by rw [nk]; exact G)).2 ⟨ss,gs,?_,?_,?_,?_⟩
      ·rw [nk,List.length_append]; exact AA
      ·simp only [List.length_cons] at C; omega
      ·simpa using E
      ·simpa using F
end
theorem yY {l:bo} {r:cx} {rs fs:List Int} (h:(r.aa.length:Int)-(dq rs).right≤l.e9):hZ l r rs fs=[⟨rs,fs,jG l r rs⟩]:=if_pos h
theorem wL {l:bo} {r:cx} {rs fs:List Int} (h: ¬ (r.aa.length:Int)-(dq rs).right≤l.e9):hZ l r rs fs=[]:=if_neg h
noncomputable def eY (l:bo) (r:cx) (i:Nat):List ai:=(r.aa.take i).map (dg l)
noncomputable def fD (l:bo) (r:cx) (i:Nat):List Bool:=(r.aa.take i).map fun s=>decide ((dg l s).Lo≤(dg l s).Hi)
section
variable {l:bo} {r:cx} {i n:Nat} {s:aH} {rs:List Int}
theorem CJ (h:r.aa[i]? =some s):eY l r (i+1)=eY l r i++[dg l s]:=by unfold eY; rw [List.take_add_one,h,List.map_append]; rfl
theorem CN (h:r.aa[i]? =some s):fD l r (i+1)=fD l r i++[decide ((dg l s).Lo≤(dg l s).Hi)]:=by unfold fD; rw [List.take_add_one,h,List.map_append]; rfl
theorem rE (h:i≤r.aa.length):(eY l r i).length=i:=by unfold eY; rw [List.length_map,List.length_take]; omega
theorem uX (h:i≤r.aa.length):(fD l r i).length=i:=by unfold fD; rw [List.length_map,List.length_take]; omega
theorem Hz {k:Nat} {z:ai} (hs:r.aa[k]? =some s) (hz:(eY l r r.aa.length)[k]? =some z):z=dg l s:=by
 unfold eY at hz
 rw [List.take_length,fK,hs] at hz
 exact (Option.some.inj hz).symm
theorem HW {k:Nat} {z:ai} (hz:(eY l r r.aa.length)[k]? =some z): ∃ s,r.aa[k]? =some s∧z=dg l s:=by
 unfold eY at hz
 rw [List.take_length,fK] at hz
 cases h:r.aa[k]? with
 |none=>rw [h] at hz; cases hz
 |some s=>rw [h] at hz; exact ⟨s,rfl,(Option.some.inj hz).symm⟩
theorem Ba {k:Nat} {z:Bool} (hs:r.aa[k]? =some s) (hz:(fD l r r.aa.length)[k]? =some z):z=true↔(dg l s).Lo≤(dg l s).Hi:=by
 unfold fD at hz
 rw [List.take_length,fK,hs] at hz
 rw [← Option.some.inj hz]
 exact decide_eq_true_iff
theorem xE (l:bo) (s:aH):(0≤(dg l s).Lo∧(dg l s).Lo≤86400001)∧ -1≤(dg l s).Hi∧(dg l s).Hi≤86400000:=by
 have A:=ji (p:=ij (p7 l s) s.Read) (n:=86400001)
 have B:=ji (p:=il (p7 l s) s.Read) (n:=86400001)
 unfold dg Bq
 simp only
 omega
/-- the last times from a beam on -/
noncomputable def jX (l:bo) (r:cx) (rs:List Int) (j:Nat):List Int×Int:=gZ (JS l r) (ej l) r.fP j (rs.drop j)
noncomputable def j1 (l:bo) (r:cx) (rs:List Int) (j:Nat):List Int:=List.replicate j 0++(jX l r rs j).1
noncomputable def tn (l:bo) (r:cx) (rs:List Int) (j:Nat) (x:Int):Int:=if 0≤x then min (jX l r rs j).2 (JS l r x) else (jX l r rs j).2
theorem uU:jX l r rs rs.length=([],r.fP):=by unfold jX; rw [List.drop_length]; rfl
theorem Gc:j1 l r rs rs.length=List.replicate rs.length 0:=by unfold j1; rw [uU]; simp
theorem Cn:j1 l r rs 0=jG l r rs:=by unfold j1 jX jG; simp
theorem pB {j:Nat} {x:Int} (hj:0<j) (hx:rs[j-1]? =some x):jX l r rs (j-1)=(tn l r rs j x::(jX l r rs j).1,tn l r rs j x-ej l (j-1)):=by
 unfold jX tn
 have hb:=(aU.1 hx).1
 rw [List.drop_eq_getElem_cons hb,(aU.1 hx).2,show j-1+1=j by omega]
 simp only [gZ]
 rw [show j-1+1=j by omega]
 rfl
theorem FG {j:Nat} (h:j≤rs.length):(j1 l r rs j).length=rs.length:=by unfold j1 jX; rw [List.length_append,List.length_replicate,rI,List.length_drop]; omega
theorem yM {j:Nat} {x:Int} (hj:0<j) (hx:rs[j-1]? =some x):(j1 l r rs j).set (j-1) (tn l r rs j x)=j1 l r rs (j-1):=by
 unfold j1
 rw [pB hj hx]
 simp only
 obtain ⟨k,rfl⟩: ∃ k,j=k+1:=⟨j-1,I⟩
 rw [Nat.add_sub_cancel,List.replicate_succ',List.append_assoc,List.set_append_right _ _ sm,List.length_replicate,Nat.sub_self]
 rfl
theorem Ek (hr:0≤r.fP∧r.fP≤86400000) (hl: ∀ b,b<rs.length→0≤ej l b∧ej l b≤500000000) (hrs: ∀ x∈rs,0≤x→x<(r.aa.length:Int)): ∀ (d j:Nat),j+d=rs.length→(-1-500000000*(d:Int))≤(jX l r rs j).2∧(jX l r rs j).2≤86400000
 |0,j,h=>by
  obtain rfl:j=rs.length:=by omega
  rw [uU]; simp only; omega
 |d+1,j,h=>by
  have ih:=Ek hr hl hrs d (j+1) I
  have hx:rs[j+1-1]? =some (rs[j]'I):=by rw [Nat.add_sub_cancel]; exact eX _
  have e:=pB (l:=l) (r:=r) (j:=j+1) I hx
  rw [Nat.add_sub_cancel] at e
  rw [e]
  simp only
  have A:=hl j I
  unfold tn
  split
  ·rename_i q
   have B:=hrs _ (List.getElem_mem (by omega:j<rs.length)) q
   obtain ⟨s,hs⟩: ∃ s,r.aa[(rs[j]'I).toNat]? =some s:=⟨r.aa[(rs[j]'I).toNat]'I,eX _⟩
   rw [Dz hs]
   have C:=xE l s
   omega
  ·omega
theorem Jk {t i:Int} (hi:i<0):(t≤r.fP→oT l r n t i=some t)∧(¬ t≤r.fP→oT l r n t i=none):=by
 unfold oT; rw [if_pos hi]; exact ⟨fun h=>if_pos h,fun h=>if_neg h⟩
theorem Jc {t i:Int} (hi: ¬ i<0) (hs:r.aa[i.toNat]? =some s) (hb:s.fz=(n:Int)) (hw:(dg l s).Lo≤(dg l s).Hi):(max t (dg l s).Lo≤min r.fP (dg l s).Hi→oT l r n t i=some (max t (dg l s).Lo))∧(¬ max t (dg l s).Lo≤min r.fP (dg l s).Hi→oT l r n t i=none):=by
 unfold oT; rw [if_neg hi,hs]
 exact ⟨fun h=>if_pos ⟨⟨hb,hw⟩,h⟩,fun h=>if_neg fun q=>h q.2⟩
theorem xu {t i:Int} (hi: ¬ i<0) (hs:r.aa[i.toNat]? =some s) (hb: ¬ (s.fz=(n:Int)∧(dg l s).Lo≤(dg l s).Hi)):oT l r n t i=none:=by
 unfold oT; rw [if_neg hi,hs]
 exact if_neg fun q=>hb q.1
theorem tG {x:Int} (hx:rs[i]? =some x):(dq (rs.take (i+1))).right=(dq (rs.take i)).right+(if 0≤x then 1 else 0):=by
 rw [jy hx,kb]
 unfold fG
 simp only [dD]
 by_cases h:x<0
 ·rw [if_pos h,if_neg I]
 ·rw [if_neg h,if_pos I]
end
theorem w6 {l:bo} {r:cx} {rs fs:List Int}:(hZ l r rs fs).length≤1:=by unfold hZ; split<;>simp
theorem wE {l:bo} {r:cx} (hr:r.aa.length≤10): ∀ (k:Nat) (rs fs:List Int),(iD l r k rs fs).length≤12^(k+1)
 |0,rs,fs=>by
  unfold iD
  split
  ·simp
  ·have:=w6 (l:=l) (r:=r) (rs:=rs) (fs:=fs); omega
 |k+1,rs,fs=>by
  unfold iD
  split
  ·simp
  ·rw [List.length_append]
   have B:=w6 (l:=l) (r:=r) (rs:=rs) (fs:=fs)
   have A: ∀ j,(iI l r k rs fs j).length≤j*12^(k+1):=by
    intro j
    induction j with
    |zero=>simp [iI]
    |succ j ih=>
     cases e:oT l r rs.length (gv r.Start fs+ej l rs.length) ((j:Int)-1) with
     |none=>rw [qQ e,Nat.succ_mul]; exact Nat.le_trans ih (Nat.le_add_right _ _)
     |some t=>rw [m8 e,List.length_append,Nat.succ_mul]; exact Nat.add_le_add ih (wE hr k (rs++[(j:Int)-1]) (fs++[t]))
   have C:=A (r.aa.length+1)
   have D:(r.aa.length+1)*12^(k+1)≤11*12^(k+1):=Nat.mul_le_mul_right _ I
   have E:0<12^(k+1):=Nat.pow_pos dc
   have F:12^(k+1+1)=12*12^(k+1):=by rw [Nat.pow_succ,Nat.mul_comm]
   show (hZ l r rs fs).length+(iI l r k rs fs (r.aa.length+1)).length≤_
   omega
theorem IG {l:bo} {r:cx} (hr:r.aa.length≤10) {k j:Nat} {rs fs:List Int} (hk:k≤5) (hj:j≤11):(iI l r k rs fs j).length≤40000000:=by
 have A: ∀ j,(iI l r k rs fs j).length≤j*12^(k+1):=by
  intro j
  induction j with
  |zero=>simp [iI]
  |succ j ih=>
   cases e:oT l r rs.length (gv r.Start fs+ej l rs.length) ((j:Int)-1) with
   |none=>rw [qQ e,Nat.succ_mul]; exact Nat.le_trans ih (Nat.le_add_right _ _)
   |some t=>rw [m8 e,List.length_append,Nat.succ_mul]; exact Nat.add_le_add ih (wE hr k (rs++[(j:Int)-1]) (fs++[t]))
 have C:=A j
 have B:12^(k+1)≤12^6:=Nat.pow_le_pow_right dc I
 have D:j*12^(k+1)≤11*12^6:=Nat.mul_le_mul hj B
 omega
theorem uD {l:bo} {r:cx} (hr:r.aa.length≤10) {k:Nat} {rs fs:List Int} (hk:k≤6):(iD l r k rs fs).length≤40000000:=by
 have A:=wE hr k rs fs (l:=l)
 have B:12^(k+1)≤12^7:=Nat.pow_le_pow_right dc I
 omega
noncomputable def kE (l:bo) (r:cx):List dj:=iD l r l.ab.length [] []
section
variable {l:bo} {r:cx}
theorem lG:(bW l r).n=l.ab.length:=cS
theorem MA (hle:dM l=0) (hr:ei l r):HH (bW l r) (JS l r) (ej l) r.fP:=by
 obtain ⟨ht,B⟩:=dK hle
 refine ⟨fun b=>((lL ht B hr).cf b).1,fun b hb=>(py (by rw [lG] at hb; exact hb)).symm,U,fun b o hb ho A=>?_,fun b o hb ho A=>?_⟩
 ·rw [lG] at hb
  rcases (qY hb).1 ho with rfl|⟨k,hk,s,hs,q,rfl⟩
  ·simp only at A; omega
  ·exact (Dz (by simpa using hs)).symm
 ·rw [lG] at hb
  rcases (qY hb).1 ho with rfl|⟨k,hk,s,hs,q,rfl⟩
  ·rfl
  ·simp only at A; omega
theorem pW (hle:dM l=0) (hr:ei l r) {y:dj}:y∈kE l r↔MQ (bW l r) (JS l r) (ej l) r.fP y:=by
 obtain ⟨ht,D⟩:=dK hle
 have hl: ∀ n,n<l.ab.length→0≤ej l n:=fun n hn=>by have:=m_ ht D (i:=n) hn; omega
 unfold kE
 rw [H_ hl _ _ _ _ sm rfl (Int.le_refl _)]
 constructor
 ·rintro ⟨ss,gs,B,A,rfl,C⟩
  exact ⟨B,by rw [lG]; exact A,U,C⟩
 ·rintro ⟨B,A,E,C⟩
  rw [lG] at A
  exact ⟨y.gf,y.jf,B,A,by rw [List.nil_append,List.nil_append]; unfold jG; rw [← E],C⟩
theorem w5 (hle:dM l=0) (hr:ei l r) {k:Nat} (hk:k≤l.ab.length):((kE l r).any fun y=>decide (y.gf.length=k))=js (bW l r) (fwd (bW l r) k):=by
 rw [Bool.eq_iff_iff,BX,List.any_eq_true]
 constructor
 ·rintro ⟨y,hy,e⟩
  have h:=(pW hle hr).1 hy
  exact ⟨y.gf,y.jf,of_decide_eq_true e,h.chain,h.may⟩
 ·rintro ⟨rs,fs,e,A,B⟩
  exact ⟨⟨rs,fs,(gZ (JS l r) (ej l) r.fP 0 rs).1⟩,(pW hle hr).2 ⟨A,by rw [lG]; simp only; omega,U,B⟩,cJ e⟩
theorem eI (hle:dM l=0) (hr:ei l r):kE l r=[]↔hG (bW l r)=[]:=by
 constructor
 ·intro h
  apply List.eq_nil_iff_forall_not_mem.2
  intro x hx
  obtain ⟨k,rfl,hk,hm⟩:=o4.1 hx
  rw [lG] at hk
  rw [← w5 hle hr hk,h] at hm
  cases hm
 ·intro h
  apply List.eq_nil_iff_forall_not_mem.2
  intro y hy
  have hw:=(pW hle hr).1 hy
  have:(y.gf.length:Int)∈hG (bW l r):=o4.2 ⟨y.gf.length,rfl,hw.len,BX.2 ⟨_,_,rfl,hw.chain,hw.may⟩⟩
  rw [h] at this; cases this
/-- the times at a beam, by all ways -/
def jo (b:Nat) (ws:List dj):List (Int×ai):=ws.filterMap fun y=>match y.gf[b]?,y.jf[b]?,y.l6[b]? with
 |some s,some f,some e=>some (s,⟨f,e⟩)
 |_,_,_=>none
theorem nU {b:Nat} {ws:List dj} {q:Int×ai}:q∈jo b ws↔ ∃ y∈ws,y.gf[b]? =some q.1∧y.jf[b]? =some q.2.Lo∧y.l6[b]? =some q.2.Hi:=by
 unfold jo
 rw [List.mem_filterMap]
 constructor
 ·rintro ⟨y,hy,h⟩
  cases e1:y.gf[b]? with
  |none=>rw [e1] at h; cases h
  |some s=>
   cases e2:y.jf[b]? with
   |none=>rw [e1,e2] at h; cases h
   |some f=>
    cases e3:y.l6[b]? with
    |none=>rw [e1,e2,e3] at h; cases h
    |some e=>
     rw [e1,e2,e3] at h; cases h
     exact ⟨y,hy,e1,e2,e3⟩
 ·rintro ⟨y,hy,A,B,C⟩
  exact ⟨y,hy,by rw [A,B,C]⟩
theorem w7 {b:Nat} {ws:List dj} {y:dj} (h:y.gf.length≤b):jo b (ws++[y])=jo b ws:=by
 unfold jo; rw [List.filterMap_append]; simp [List.getElem?_eq_none h]
theorem qg {b:Nat} {ws:List dj} {y:dj} {s f e:Int} (h1:y.gf[b]? =some s) (h2:y.jf[b]? =some f) (h3:y.l6[b]? =some e):jo b (ws++[y])=jo b ws++[(s,⟨f,e⟩)]:=by
 unfold jo; rw [List.filterMap_append]; simp [h1,h2,h3]
theorem G6 (hle:dM l=0) (hr:ei l r) {y:dj} (hy:y∈kE l r):y.jf.length=y.gf.length∧y.l6.length=y.gf.length∧y.gf.length≤l.ab.length:=by
 have h:=(pW hle hr).1 hy
 exact ⟨kp _ _ _ _ h.chain,by rw [h.last,rI],by have:=h.len; rwa [lG] at this⟩
theorem tL (hle:dM l=0) (hr:ei l r) {b:Nat} (hb:b<l.ab.length) {s t:Int}:(∃ q∈mR (bW l r) b,q.1=s∧q.2.Lo≤t∧t≤q.2.Hi)↔ ∃ q∈jo b (kE l r),q.1=s∧q.2.Lo≤t∧t≤q.2.Hi:=by
 have hh:=MA hle hr
 rw [wb hh.low (by rw [lG]; exact hb),JE hh hr.time.2.1 (by rw [lG]; exact hb)]
 constructor
 ·rintro ⟨y,hy,f,e,A,B,C,D,E⟩
  exact ⟨(s,⟨f,e⟩),nU.2 ⟨y,(pW hle hr).2 hy,A,B,C⟩,U,D,E⟩
 ·rintro ⟨q,hq,rfl,D,E⟩
  obtain ⟨y,hy,A,B,C⟩:=nU.1 hq
  exact ⟨y,(pW hle hr).1 hy,_,_,A,B,C,D,E⟩
/-- a way's span is none that is empty -/
theorem xS (hle:dM l=0) (hr:ei l r) {b:Nat} {q:Int×ai} (hq:q∈jo b (kE l r)):q.2.Lo≤q.2.Hi:=by
 have hh:=MA hle hr
 obtain ⟨y,hy,C,D,H⟩:=nU.1 hq
 obtain ⟨hc,hn,B,hm⟩:=(pW hle hr).1 hy
 obtain ⟨R,F,La⟩:=y
 simp only at C D H hc hn B
 have G:=(aU.1 C).1
 have E:=(aU.1 D).1
 have L:=kp _ _ _ _ hc
 have eR:R=R.take b++q.1::R.drop (b+1):=by rw [← (aU.1 C).2]; exact (List.take_append_drop b R).symm.trans (by rw [List.drop_eq_getElem_cons G])
 have eF:F=F.take b++q.2.Lo::F.drop (b+1):=by rw [← (aU.1 D).2]; exact (List.take_append_drop b F).symm.trans (by rw [List.drop_eq_getElem_cons E])
 rw [eR,eF,rj _ _ _ _ _ _ (by simp only [List.length_take]; omega)] at hc
 have AA:(R.take b).length=b:=by rw [List.length_take]; omega
 rw [AA,Nat.zero_add] at hc
 obtain ⟨M,⟨o,ho,K,N,O⟩,J⟩:=hc
 have A:=td (hi:=JS l r) (least:=ej l) (now:=r.fP) 0 (R.take b) q.1 (R.drop (b+1))
 rw [← eR,AA,Nat.zero_add,← B,H] at A
 have A:=Option.some.inj A
 have he:=ru hh (b+1) q.2.Lo (R.drop (b+1)) (F.drop (b+1)) (by rw [List.length_drop]; omega) I J
 rw [← K] at A
 split at A
 ·rename_i z
  have:=hh.hi b o I ho z
  omega
 ·omega
theorem AW {a b:List (Int×ai)} {h k:ai} (ha:kD a h) (hb:kD b k) (hab: ∀ x∈b,(∃ y∈a,y.2.Lo≤x.2.Lo)∧ ∃ y∈a,x.2.Hi≤y.2.Hi) (hba: ∀ x∈a,(∃ y∈b,y.2.Lo≤x.2.Lo)∧ ∃ y∈b,x.2.Hi≤y.2.Hi):h=k:=by
 rcases ha with ⟨rfl,rfl⟩|ha
 ·rcases hb with ⟨rfl,rfl⟩|hb
  ·rfl
  ·obtain ⟨x,hx,_⟩:=hb.lo
   obtain ⟨⟨y,hy,_⟩,_⟩:=hab x hx
   cases hy
 ·rcases hb with ⟨rfl,rfl⟩|hb
  ·obtain ⟨x,hx,_⟩:=ha.lo
   obtain ⟨⟨y,hy,_⟩,_⟩:=hba x hx
   cases hy
  ·obtain ⟨M,E,AA⟩:=ha.lo
   obtain ⟨N,F,V⟩:=ha.hi
   obtain ⟨O,G,W⟩:=hb.lo
   obtain ⟨P,H,X⟩:=hb.hi
   obtain ⟨⟨AB,A,Y⟩,_⟩:=hba M E
   obtain ⟨_,J,B,Z⟩:=hba N F
   obtain ⟨⟨K,C,c⟩,_⟩:=hab O G
   obtain ⟨_,L,D,d⟩:=hab P H
   have Q:=hb.all AB A
   have R:=hb.all J B
   have S:=ha.all K C
   have T:=ha.all L D
   apply ai.ext
   ·omega
   ·omega
theorem Jq (hle:dM l=0) (hr:ei l r) {b:Nat} (hb:b<l.ab.length) {h:ai} (hh:kD (jo b (kE l r)) h):h=nI l r b:=by
 have hk:=vd (l:=mR (bW l r) b) (fun q hq=>mW hq)
 refine AW hh hk (fun x hx=>?_) (fun x hx=>?_)
 ·have hle':=mW hx
  obtain ⟨y,hy,_,A,C⟩:=(tL hle hr hb (s:=x.1) (t:=x.2.Lo)).1 ⟨x,hx,rfl,Int.le_refl _,hle'⟩
  obtain ⟨z,hz,_,D,B⟩:=(tL hle hr hb (s:=x.1) (t:=x.2.Hi)).1 ⟨x,hx,rfl,hle',Int.le_refl _⟩
  exact ⟨⟨y,hy,A⟩,z,hz,B⟩
 ·have hle':=xS hle hr hx
  obtain ⟨y,hy,_,A,C⟩:=(tL hle hr hb (s:=x.1) (t:=x.2.Lo)).2 ⟨x,hx,rfl,Int.le_refl _,hle'⟩
  obtain ⟨z,hz,_,D,B⟩:=(tL hle hr hb (s:=x.1) (t:=x.2.Hi)).2 ⟨x,hx,rfl,hle',Int.le_refl _⟩
  exact ⟨⟨y,hy,A⟩,z,hz,B⟩
end
def pM (ws:List dj) (b:Nat):Int:=if xA (jo b ws)=mQ then 6 else 0
def px (ws:List dj) (b:Nat):ai:=if xA (jo b ws)=mQ then ⟨0,0⟩ else xA (jo b ws)
theorem Kx {l:List (Int×ai)} {h:ai} (hh:kD l h) (hl: ∀ q∈l,q.2.Lo≤q.2.Hi):xA l=h:=
 AW (vd hl) hh (fun x hx=>⟨⟨x,hx,Int.le_refl _⟩,x,hx,Int.le_refl _⟩) (fun x hx=>⟨⟨x,hx,Int.le_refl _⟩,x,hx,Int.le_refl _⟩)
theorem Dw {ws:List dj} {b:Nat} (h:jo b ws=[]):pM ws b=6∧px ws b=⟨0,0⟩:=by
 unfold pM px; rw [h]; exact ⟨if_pos rfl,if_pos rfl⟩
theorem CB {ws:List dj} {b:Nat} {o:ai} (hl: ∀ q∈jo b ws,q.2.Lo≤q.2.Hi) (h:oD (jo b ws) o):pM ws b=0∧px ws b=o:=by
 have e:=Kx (.inr h) hl
 unfold pM px; rw [e]; exact ⟨if_neg h.ne,if_neg h.ne⟩
/-- what was found until now -/
def nP (b:Nat) (ws:List dj) (fd:Bool) (o:ai):Prop:=(fd=false∧jo b ws=[])∨(fd=true∧oD (jo b ws) o)
theorem Gy {b:Nat} {o:ai}:nP b [] false o:= .inl ⟨rfl,rfl⟩
theorem BF {q:Int×ai} (hq:q.2.Lo≤q.2.Hi):oD [q] q.2:=⟨hq,⟨q,sm,rfl⟩,⟨q,sm,rfl⟩,fun x hx=>by simp at hx; subst hx; exact ⟨Int.le_refl _,Int.le_refl _⟩⟩
theorem zO {l:List (Int×ai)} {h:ai} {q:Int×ai} (hh:oD l h) (hq:q.2.Lo≤q.2.Hi):oD (l++[q]) ⟨min q.2.Lo h.Lo,max q.2.Hi h.Hi⟩:=by
 have:=vh (.inr hh) hq
 unfold mF at this
 rw [if_neg hh.ne] at this
 rcases this with ⟨e,_⟩|this
 ·simp at e
 ·exact this
theorem Cs {b:Nat} {ws:List dj} {fd:Bool} {o:ai} {y:dj} (h:nP b ws fd o) (hy:y.gf.length≤b):nP b (ws++[y]) fd o:=by
 unfold nP; rw [w7 hy]; exact h
theorem Aj {b:Nat} {ws:List dj} {fd:Bool} {o:ai} {y:dj} {s f e:Int} (h:nP b ws fd o) (hf:fd=false) (h1:y.gf[b]? =some s) (h2:y.jf[b]? =some f) (h3:y.l6[b]? =some e) (hle:f≤e):nP b (ws++[y]) true ⟨f,e⟩:=by
 rcases h with ⟨_,q⟩|⟨q,_⟩
 ·right
  rw [qg h1 h2 h3,q]
  exact ⟨U,BF hle⟩
 ·rw [q] at hf; cases hf
theorem Cq {b:Nat} {ws:List dj} {fd:Bool} {o:ai} {y:dj} {s f e:Int} (h:nP b ws fd o) (hf:fd=true) (h1:y.gf[b]? =some s) (h2:y.jf[b]? =some f) (h3:y.l6[b]? =some e) (hle:f≤e):nP b (ws++[y]) true ⟨min f o.Lo,max e o.Hi⟩:=by
 rcases h with ⟨q,_⟩|⟨_,q⟩
 ·rw [q] at hf; cases hf
 ·right
  rw [qg h1 h2 h3]
  exact ⟨U,zO q hle⟩
theorem yp {b:Nat} {ws:List dj} {fd:Bool} {o:ai} (h:nP b ws fd o) (hl: ∀ q∈jo b ws,q.2.Lo≤q.2.Hi):(fd=false→pM ws b=6∧px ws b=⟨0,0⟩)∧(fd=true→pM ws b=0∧px ws b=o):=by
 rcases h with ⟨q,h⟩|⟨q,h⟩
 ·exact ⟨fun _=>Dw h,fun e=>(by rw [q] at e; cases e)⟩
 ·exact ⟨fun e=>(by rw [q] at e; cases e),fun _=>CB hl h⟩
section
variable {l:bo} {r:cx}
theorem o5 (he:dN l r 0=0) {b:Nat} (hb:b<l.ab.length):pM (kE l r) b=eh l r b∧px (kE l r) b=dy l r b:=by
 obtain ⟨A,hr,_,_⟩:=g5 he
 have h:=Jq A hr hb (vd fun q hq=>xS A hr hq)
 have ho:dN l r (e_ l b)=0:=by rw [E_ hb]; exact he
 unfold pM px
 rw [h]
 by_cases e:nI l r b=mQ
 ·rw [if_pos e,if_pos e,(qG ho e).1,(qG ho e).2]; exact ⟨rfl,rfl⟩
 ·rw [if_neg e,if_neg e,(qs ho e).1,(qs ho e).2]; exact ⟨rfl,rfl⟩
theorem NF (hle:dM l=0) (hr:ei l r) {y:dj} (hy:y∈kE l r) {b:Nat} {f e:Int} (hb:b<y.gf.length) (h2:y.jf[b]? =some f) (h3:y.l6[b]? =some e):f≤e:=
 xS hle hr (q:=(y.gf[b],⟨f,e⟩)) (nU.2 ⟨y,hy,eX _,h2,h3⟩)
theorem B8:dN l r (e_ l l.b_)=dN l r 0:=by
 by_cases h:dM l=0
 ·obtain ⟨_,A⟩:=dK h
  have hh:=A.head
  unfold eT at hh
  rw [mz I]
 ·rw [eE h,eE h]
theorem vj (h: ¬ dN l r 0=0):eh l r l.b_=dN l r 0:=by
 have:=(dE (b:=l.b_) (by rw [B8]; exact h)).1
 rw [this,B8]
/-- rows of times that are those of ways -/
structure KI (ws:List dj):Prop where
 lens: ∀ y∈ws,y.jf.length=y.gf.length∧y.l6.length=y.gf.length∧y.gf.length≤6
 le: ∀ y∈ws,∀ (b:Nat) f e,b<y.gf.length→y.jf[b]? =some f→y.l6[b]? =some e→f≤e
 num:ws.length≤40000000
theorem KI.DW {ws:List dj} (h:KI ws) {b:Nat}: ∀ q∈jo b ws,q.2.Lo≤q.2.Hi:=fun q hq=>by
 obtain ⟨y,hy,A,B,C⟩:=nU.1 hq
 exact h.le y hy b _ _ (aU.1 A).1 B C
theorem CX (hle:dM l=0) (hr:ei l r):KI (kE l r):=by
 obtain ⟨ht,B⟩:=dK hle
 have hh:=B.head
 unfold eT at hh
 refine ⟨fun y hy=>?_,fun y hy b f e hb A C=>NF hle hr hy hb A C,uD hr.len I⟩
 obtain ⟨D,A,C⟩:=G6 hle hr hy
 exact ⟨D,A,I⟩
/-- is a number of beams told -/
def Ov (ws:List dj) (n:Nat):Bool:=ws.any fun y=>decide (y.gf.length=n)
theorem uk {ws:List dj} {n:Nat} {y:dj}:Ov (ws++[y]) n=(Ov ws n||decide (y.gf.length=n)):=by unfold Ov; rw [List.any_append]; simp
end
end
section
open Go.RowKit
/-- a row is taken that was made before; an operation -/
inductive fZ where
 |take (i:Nat)
 |op (j:Nat)
def fZ.ix:fZ→Nat
 | .take i=>i
 | .op j=>j
def Ao (dO:Nat→Nat):List fZ→List Nat
 |[]=>[]
 | .take i::s=>dO i::Ao dO s
 | .op _::s=>Ao dO s
theorem tR {dO:Nat→Nat} {i:Nat}: ∀ {s:List fZ},fZ.take i∈s→dO i∈Ao dO s
 | .take k::s,h=>by
  rcases cg.1 h with e|h
  ·cases e; exact ct ..
  ·exact dH _ (tR h)
 | .op k::s,h=>by
  rcases cg.1 h with e|h
  ·cases e
  ·exact tR (s:=s) h
def rB (m:Array Nat) (dO:Nat→Nat) (x y:fZ):Bool:=x.ix != y.ix&&(match y with | .op j=>iX m x.ix j| .take i=>match x with | .take k=>dO k != dO i| .op _=>true)
def RQ (m:Array Nat) (dO:Nat→Nat):List fZ→Bool
 |[]=>true
 |x::s=>s.all (rB m dO x)&&RQ m dO s
theorem DY {m:Array Nat} {dO:Nat→Nat}: ∀ {s:List fZ},RQ m dO s=true→s.Pairwise fun x y=>rB m dO x y=true
 |[],_=>List.Pairwise.nil
 |x::s,h=>by
  simp only [RQ,di] at h
  exact List.Pairwise.cons (fun y hy=>cY.1 h.1 y hy) (DY h.2)
/-- what is known of the slots B is known in L -/
def AY (B L:dC):Prop:= ∀ t v,B.lookup t=some v→L.lookup t=some v
theorem zw {B L:dC} (h:B.map (fun p=>L.lookup p.1)=B.map (fun p=>some p.2)):AY B L:=by
 induction B with
 |nil=>intro t v h; simp at h
 |cons p B ih=>
  obtain ⟨k,u⟩:=p
  simp only [List.map_cons,List.cons.injEq] at h
  intro t v hl
  by_cases e:t=k
  ·subst e
   simp only [List.lookup,beq_self_eq_true,Option.some.injEq] at hl
   rw [h.1,hl]
  ·have:(t==k)=false:=by simpa using e
   simp only [List.lookup,this] at hl
   exact ih h.2 t v hl
theorem nV {L Y:dC} {t:Nat}:(L++Y).lookup t=match L.lookup t with |some v=>some v|none=>Y.lookup t:=by
 induction L with
 |nil=>rfl
 |cons p L ih=>
  obtain ⟨k,u⟩:=p
  by_cases e:t==k
  ·simp [List.lookup,e]
  ·have:(t==k)=false:=by simpa using e
   simp only [List.cons_append,List.lookup,this,ih]
theorem AY.app {B L Y:dC} (h:AY B L):AY B (L++Y):=fun t v ht=>by rw [nV,h t v ht]
theorem Nn {B L:dC} (h:AY B L) {x:Operand} {v:Value} (hv:ev B x=some v):ev L x=some v:=by
 cases x<;>simp only [ev] at hv ⊢ <;>first|exact h _ _ hv|exact hv
theorem DS {B L:dC} (h:AY B L): ∀ {xs:List Operand} {vs:List Value},evs B xs=some vs→evs L xs=some vs
 |[],vs,hv=>hv
 |x::xs,vs,hv=>by
  simp only [evs] at hv ⊢
  cases e1:ev B x with
  |none=>rw [e1] at hv; simp at hv
  |some v=>
   cases e2:evs B xs with
   |none=>rw [e1,e2] at hv; simp at hv
   |some us=>
    rw [e1,e2] at hv
    rw [Nn h e1,DS h e2]; exact hv
section
variable (E:fI) (ops:Array Oper) (D:List Deferred) (C':List aA) (K0:Act→World→Prop) (B:List (Nat×Value)) (dO:Nat→Nat) (VO:Nat→Nat→Value) (AO:Nat→Nat→aA)
def CH:List fZ→dC→List aA→Prop
 |[],L,C=>KJ E K0 D L C
 | .take i::s,L,C=> ∀ b,CH s ((dO i,VO i b)::L) (AO i b::C)
 | .op j::s,L,C=> ∀ o,ops[j]? =some o→ ∀ (Y:dC) (X:List aA) (K:Act→World→Prop),(∀ L' C'',(∀ w,St E.S E.w0 C'' w→St E.S E.w0 C' w)→((Ao dO s).all fun d=>(L'.lookup d).isNone)=true→B.map (fun p=>L'.lookup p.1)=B.map (fun p=>some p.2)→CH s L' C''→KJ E K D (L'++Y) (C''++X))→RJ E ops (NQ K) [o] D (L++Y) (C++X)
/-- a row that is made at any time -/
def QV (i:Nat):Prop:= ∀ o,ops[i]? =some o→ ∀ (L:dC) (C:List aA) (K:Act→World→Prop),AY B L→(∀ w,St E.S E.w0 C w→St E.S E.w0 C' w)→(∀ b,KJ E K D ((dO i,VO i b)::L) (AO i b::C))→RJ E ops (NQ K) [o] D L C
end
section
variable {E:fI} {ops:Array Oper} {D:List Deferred} {C' C1:List aA} {K0:Act→World→Prop} {B:List (Nat×Value)} {dO:Nat→Nat} {VO:Nat→Nat→Value} {AO:Nat→Nat→aA}
theorem LU {Q:dw} {rest:List Oper} {L L2:dC} {C C2:List aA} (hL: ∀ a,Fr E.n D L a→Fr E.n D L2 a) (hC: ∀ w,St E.S E.w0 C w→St E.S E.w0 C2 w) (h:RJ E ops Q rest D L2 C2):RJ E ops Q rest D L C:=fun a w hf hs=>h a w (hL a hf) (hC w hs)
theorem Ev {K:Act→World→Prop} {L L2:dC} {C C2:List aA} (hL: ∀ a,Fr E.n D L a→Fr E.n D L2 a) (hC: ∀ w,St E.S E.w0 C w→St E.S E.w0 C2 w) (h:KJ E K D L2 C2):KJ E K D L C:=fun a w hf hs=>h a w (hL a hf) (hC w hs)
theorem EM {n:Nat} {L L2:dC} (h: ∀ t v,L2.lookup t=some v→L.lookup t=some v) (a:Act) (hf:Fr n D L a):Fr n D L2 a:=⟨hf.defers,hf.size,fun t v ht=>hf.at_ t v (h t v ht)⟩
theorem Dq: ∀ (T0 s':List fZ) (dn:List (Nat×Nat)) (L Y:dC) (C:List aA),(∀ x∈T0,∃ i b,x= .take i∧(i,b)∈dn)→(T0++s').Pairwise (fun x y=>rB (ql ops) dO x y=true)→(dn.map (·.1)).Nodup→(∀ p∈dn,fZ.take p.1∈T0++s')→(∀ p∈dn,Y.lookup (dO p.1)=some (VO p.1 p.2))→(∀ i,fZ.take i∈T0++s'→L.lookup (dO i)=none)→
 CH E ops D C' K0 B dO VO AO (T0++s') L C→ ∃ (dn':List (Nat×Nat)) (L':dC) (C2:List aA),CH E ops D C' K0 B dO VO AO s' L' C2∧(dn'.map (·.1)).Nodup∧(∀ p,p∈dn'↔p∈dn∧fZ.take p.1∈s')∧(∀ t v,(L'++Y).lookup t=some v→(L++Y).lookup t=some v)∧(∀ i,fZ.take i∈s'→L'.lookup (dO i)=none)∧(∀ w,St E.S E.w0 (C++dn.map fun p=>AO p.1 p.2) w→St E.S E.w0 (C2++dn'.map fun p=>AO p.1 p.2) w)
 |[],s',dn,L,Y,C,_,_,hn,hm,_,hl,h=>⟨dn,L,C,h,hn,fun p=>⟨fun q=>⟨q,hm p q⟩,fun q=>q.1⟩,fun t v q=>q,hl,fun w q=>q⟩
 |x::T0,s',dn,L,Y,C,ht,hp,hn,hm,hy,hl,h=>by
  obtain ⟨i,b,rfl,hb⟩:=ht x (ct ..)
  obtain ⟨J,P⟩:=List.pairwise_cons.1 hp
  have AB: ∀ y∈T0++s',i≠y.ix:=fun y hy e=>by
   have:=J y hy
   simp only [rB,di,bne_iff_ne,fZ.ix] at this
   exact this.1 e
  have N: ∀ k,fZ.take k∈T0++s'→dO k≠dO i:=fun k hk e=>by
   have:=J _ hk
   simp only [rB,di,bne_iff_ne] at this
   exact this.2 e.symm
  have K:dn.Perm ((i,b)::dn.erase (i,b)):=List.perm_cons_erase hb
  have H:((dn.erase (i,b)).map (·.1)).Nodup∧i ∉ (dn.erase (i,b)).map (·.1):=by
   have:=(K.map (·.1)).nodup_iff.1 hn
   exact ⟨(List.nodup_cons.1 this).2,(List.nodup_cons.1 this).1⟩
  have A: ∀ p∈dn.erase (i,b),p∈dn∧p.1≠i:=fun p hp=>⟨List.mem_of_mem_erase hp,fun e=>by have q:=List.mem_map_of_mem (f:=fun p:Nat×Nat=>p.1) hp; simp only [e] at q; exact H.2 q⟩
  have O:L.lookup (dO i)=none:=hl i (ct ..)
  obtain ⟨dn',L',C2,R,T,AA,V,W,X⟩:=Dq T0 s' (dn.erase (i,b)) ((dO i,VO i b)::L) Y (AO i b::C) (fun x hx=>by
   obtain ⟨k,c,rfl,hk⟩:=ht x (dH _ hx)
   refine ⟨k,c,U,?_⟩
   have F:k≠i:=fun e=>AB _ (List.mem_append_left _ hx) e.symm
   exact (List.mem_erase_of_ne (fun e=>F (congrArg Prod.fst e))).2 hk) P H.1 (fun p hp=>by
   obtain ⟨M,G⟩:=A p hp
   rcases cg.1 (hm p M) with e|e
   ·injection e with e; exact absurd e G
   ·exact e) (fun p hp=>hy p (A p hp).1) (fun k hk=>by
   have:(dO k==dO i)=false:=by simpa using N k hk
   simp only [List.lookup,this]
   exact hl k (dH _ hk)) (h b)
  refine ⟨dn',L',C2,R,T,fun p=>?_,fun t v hv=>?_,W,fun w hw=>X w ?_⟩
  ·rw [AA]
   constructor
   ·rintro ⟨M,G⟩; exact ⟨(A p M).1,G⟩
   ·rintro ⟨M,G⟩
    have F:p.1≠i:=fun e=>AB _ (List.mem_append_right _ G) e.symm
    exact ⟨(List.mem_erase_of_ne (fun e=>F (congrArg Prod.fst e))).2 M,G⟩
  ·have:=V t v hv
   rw [nV] at this ⊢
   by_cases e:t=dO i
   ·subst e
    simp only [List.lookup,beq_self_eq_true] at this
    rw [O]; simp only
    rw [hy _ hb]; exact this
   ·have Q:(t==dO i)=false:=by simpa using e
    simp only [List.lookup,Q] at this
    exact this
  ·refine hw.perm ?_
   show (C++dn.map fun p=>AO p.1 p.2).Perm (AO i b::(C++(dn.erase (i,b)).map fun p=>AO p.1 p.2))
   refine ((K.map fun p:Nat×Nat=>AO p.1 p.2).append_left C).trans ?_
   exact List.perm_middle
theorem Az: ∀ (s:List fZ) (j:Nat),fZ.op j∈s→ ∃ T0 k s',s=T0++fZ.op k::s'∧ ∀ x∈T0,∃ i,x=fZ.take i
 | .take i::s,j,h=>by
  rcases cg.1 h with e|h
  ·cases e
  ·obtain ⟨T0,k,s',rfl,A⟩:=Az s j h
   exact ⟨.take i::T0,k,s',U,fun x hx=>by
    rcases cg.1 hx with rfl|hx
    ·exact ⟨i,U⟩
    ·exact A x hx⟩
 | .op k::s,j,_=>⟨[],k,s,rfl,fun x hx=>by cases hx⟩
def kP (s:List fZ) (dn:List (Nat×Nat)):List Nat:=(s.map fZ.ix).filter fun i=> !(dn.map (·.1)).contains i
theorem q_ {s:List fZ} {dn:List (Nat×Nat)} {i:Nat}:i∈kP s dn↔(∃ x∈s,x.ix=i)∧ ∀ p∈dn,p.1≠i:=by
 unfold kP
 rw [List.mem_filter,cE]
 refine and_congr Iff.rfl ?_
 rw [Bool.not_eq_true',← Bool.not_eq_true,List.contains_iff_mem,cE]
 constructor
 ·intro h p hp e; exact h ⟨p,hp,e⟩
 ·rintro h ⟨p,hp,e⟩; exact h p hp e
theorem qX (hal: ∀ i,QV E ops D C' B dO VO AO i∨True): ∀ (n:Nat) (s:List fZ) (dn:List (Nat×Nat)) (L Y:dC) (C:List aA),(∀ i,fZ.take i∈s→QV E ops D C' B dO VO AO i)→s.Pairwise (fun x y=>rB (ql ops) dO x y=true)→(kP s dn).length=n→(dn.map (·.1)).Nodup→(∀ p∈dn,fZ.take p.1∈s)→(∀ p∈dn,Y.lookup (dO p.1)=some (VO p.1 p.2))→(∀ i,fZ.take i∈s→L.lookup (dO i)=none)→AY B L→
 (∀ w,St E.S E.w0 C w→St E.S E.w0 C' w)→CH E ops D C' K0 B dO VO AO s L C→TN E ops D C' C1 (fun L C=>KJ E K0 D L C) [] n (kP s dn) (L++Y) (C++dn.map fun p=>AO p.1 p.2)
 |0,s,dn,L,Y,C,_,hp,hlen,hn,hm,hy,hl,hB,hC,h=>by
  have hr:kP s dn=[]:=ig hlen
  have Q: ∀ x∈s,∃ i b,x=fZ.take i∧(i,b)∈dn:=fun x hx=>by
   have hx':x.ix ∉ kP s dn:=by rw [hr]; exact List.not_mem_nil
   rw [q_] at hx'
   have: ∃ p∈dn,p.1=x.ix:=by
    apply Classical.byContradiction
    intro q
    exact hx' ⟨⟨x,hx,U⟩,fun p hp e=>q ⟨p,hp,e⟩⟩
   obtain ⟨p,T,AA⟩:=this
   have ht:=hm p T
   rcases List.mem_iff_getElem.1 hx with ⟨a,ha,ea⟩
   rcases List.mem_iff_getElem.1 ht with ⟨c,hc,ec⟩
   have d:a=c:=by
    rcases Nat.lt_trichotomy a c with q|q|q
    ·have:=eN.1 hp a c ha hc q
     simp only [rB,di,bne_iff_ne,ea,ec] at this
     exact absurd AA.symm this.1
    ·exact q
    ·have:=eN.1 hp c a hc ha q
     simp only [rB,di,bne_iff_ne,ea,ec] at this
     exact absurd AA this.1
   subst d
   exact ⟨p.1,p.2,by rw [← ea,ec],T⟩
  obtain ⟨dn',L',C2,V,J,O,W,h5,X⟩:=Dq s [] dn L Y C Q (by simpa using hp) hn (by simpa using hm) hy (by simpa using hl) (by simpa using h)
  show KJ E K0 D _ _
  have hd:dn'=[]:=List.eq_nil_iff_forall_not_mem.2 fun p hp=>by have:=((O p).1 hp).2; cases this
  subst hd
  refine Ev (L2:=L') (C2:=C2) (fun a hf=>EM (fun t v ht=>W t v (by rw [nV,ht])) a hf) (fun w hw=>by have:=X w hw; simpa using this) V
 |n+1,s,dn,L,Y,C,hal',hp,hlen,hn,hm,hy,hl,hB,hC,h=>by
  intro i hi o ho K hK
  obtain ⟨G,m⟩:=List.mem_filter.1 hi
  obtain ⟨⟨x,hx,rfl⟩,H⟩:=q_.1 G
  have A: ∀ k∈kP s dn,iX (ql ops) k x.ix=false:=fun k hk=>by
   have:=cY.1 m k hk
   simpa using this
  cases x with
  |take i=>
   simp only [fZ.ix] at H A ho hK G ⊢
   refine hal' i hx o ho _ _ K hB.app (fun w hw=>hC w (hw.take (List.sublist_append_left _ _))) fun b=>?_
   have l:=hl i hx
   have AB:(kP s dn).filter (· != i)=kP s ((i,b)::dn):=by
    unfold kP
    rw [List.filter_filter]
    apply List.filter_congr
    intro k _
    simp only [List.map_cons,List.contains_cons,Bool.not_or]
    rfl
   have N:(kP s dn).Nodup:=by
    unfold kP
    refine List.Nodup.sublist List.filter_sublist<|List.pairwise_map.2 (hp.imp fun {a c} q=>?_)
    simp only [rB,di,bne_iff_ne] at q
    exact q.1
   have M: ∀ k,fZ.take k∈s→k≠i→dO k≠dO i:=fun k hk AC e=>by
    rcases List.mem_iff_getElem.1 hx with ⟨a,ha,ea⟩
    rcases List.mem_iff_getElem.1 hk with ⟨c,hc,ec⟩
    rcases Nat.lt_trichotomy a c with q|q|q
    ·have:=eN.1 hp a c ha hc q
     simp only [rB,di,bne_iff_ne,ea,ec] at this
     exact this.2 e.symm
    ·subst q; rw [ea] at ec; cases ec; exact AC rfl
    ·have:=eN.1 hp c a hc ha q
     simp only [rB,di,bne_iff_ne,ea,ec] at this
     exact this.2 e
   refine Ev (L2:=L++((dO i,VO i b)::Y)) (C2:=C++((i,b)::dn).map fun p=>AO p.1 p.2) (fun a hf=>EM (fun t v ht=>?_) a hf) (fun w hw=>hw.perm (List.perm_middle).symm) (hK _ _ (fun w hw=>hC w (hw.take (List.sublist_append_left _ _))) (fun q=>by cases q) ?_)
   ·rw [nV] at ht
    by_cases e:t=dO i
    ·subst e
     rw [l] at ht
     simp only [List.lookup,beq_self_eq_true] at ht ⊢
     exact ht
    ·have e2:(t==dO i)=false:=by simpa using e
     simp only [List.lookup,e2] at ht ⊢
     rw [nV]; exact ht
   ·rw [AB]
    refine qX hal n s ((i,b)::dn) L ((dO i,VO i b)::Y) C hal' hp ?_ (List.nodup_cons.2 ⟨fun q=>?_,hn⟩) (fun p hp'=>?_) (fun p hp'=>?_) hl hB hC h
    ·rw [← AB,← List.Nodup.erase_eq_filter N,List.length_erase_of_mem G,hlen]; rfl
    ·obtain ⟨p,hp',e⟩:=cE.1 q
     exact H p hp' e
    ·rcases cg.1 hp' with rfl|hp'
     ·exact hx
     ·exact hm p hp'
    ·rcases cg.1 hp' with rfl|hp'
     ·simp [List.lookup]
     ·have:(dO p.1==dO i)=false:=by simpa using M p.1 (hm p hp') (H p hp')
      simp only [List.lookup,this]
      exact hy p hp'
  |op j=>
   simp only [fZ.ix] at H A ho hK G ⊢
   obtain ⟨T0,k,s',rfl,hT⟩:=Az s j hx
   obtain ⟨q1,q2,q3⟩:=List.pairwise_append.1 hp
   obtain ⟨q4,q5⟩:=List.pairwise_cons.1 q2
   have R: ∀ k',fZ.op k'∈T0++fZ.op k::s'→k'∈kP (T0++fZ.op k::s') dn:=fun k' hk'=>by
    refine q_.2 ⟨⟨_,hk',U⟩,fun p hp' e=>?_⟩
    have ht:=hm p hp'
    rcases List.mem_iff_getElem.1 hk' with ⟨a,ha,ea⟩
    rcases List.mem_iff_getElem.1 ht with ⟨c,hc,ec⟩
    rcases Nat.lt_trichotomy a c with q|q|q
    ·have:=eN.1 hp a c ha hc q
     simp only [rB,di,bne_iff_ne,ea,ec,fZ.ix] at this
     exact this.1 e.symm
    ·subst q; rw [ea] at ec; cases ec
    ·have:=eN.1 hp c a hc ha q
     simp only [rB,di,bne_iff_ne,ea,ec,fZ.ix] at this
     exact this.1 e
   have A0:k=j:=by
    apply Classical.byContradiction
    intro A1
    have hj':fZ.op j∈s':=by
     rcases gL.1 hx with q|q
     ·obtain ⟨i,e⟩:=hT _ q; cases e
     ·rcases cg.1 q with e|q
      ·injection e with e; exact absurd e.symm A1
      ·exact q
    have:=q4 _ hj'
    simp only [rB,di,fZ.ix] at this
    have J:=A k (R k sm)
    rw [this.2] at J; cases J
   subst A0
   have F: ∀ x∈T0,∃ i b,x=fZ.take i∧(i,b)∈dn:=fun x hx'=>by
    obtain ⟨i,rfl⟩:=hT x hx'
    apply Classical.byContradiction
    intro q
    have r:i∈kP (T0++fZ.op k::s') dn:=q_.2 ⟨⟨_,List.mem_append_left _ hx',rfl⟩,fun p hp' e=>q ⟨i,p.2,rfl,by rw [← e]; exact hp'⟩⟩
    have:=q3 _ hx' _ (ct ..)
    simp only [rB,di,fZ.ix] at this
    have J:=A i r
    rw [this.2] at J; cases J
   obtain ⟨dn',L',C2,V,J,O,W,h5,X⟩:=Dq T0 (fZ.op k::s') dn L Y C F hp hn hm hy hl h
   refine LU (fun a hf=>EM W a hf) X (V o ho Y (dn'.map fun p=>AO p.1 p.2) K fun L3 C3 P A2 Z g=>?_)
   have AB:(kP (T0++fZ.op k::s') dn).filter (· != k)=kP s' dn':=by
    unfold kP
    rw [List.map_append,List.filter_append,List.map_cons,List.filter_append]
    have e1:(List.map fZ.ix T0).filter (fun i=> !(dn.map (·.1)).contains i)=[]:=by
     apply List.filter_eq_nil_iff.2
     intro z hz
     obtain ⟨x,hx',rfl⟩:=cE.1 hz
     obtain ⟨i,b,rfl,hb⟩:=F x hx'
     simp only [fZ.ix,Bool.not_eq_true',Bool.not_eq_false,List.contains_iff_mem]
     exact List.mem_map_of_mem (f:=(·.1)) hb
    rw [e1]
    simp only [List.filter_nil,List.nil_append]
    have u:k ∉ dn.map (·.1):=fun q=>by
     obtain ⟨p,hp',e⟩:=cE.1 q
     exact H p hp' e
    rw [List.filter_cons_of_pos (by simpa [fZ.ix] using u),List.filter_cons_of_neg (by simp [fZ.ix]),List.filter_filter]
    apply List.filter_congr
    intro z hz
    obtain ⟨y,hy',rfl⟩:=cE.1 hz
    have A3:y.ix≠k:=fun e=>by
     have:=q4 y hy'
     simp only [rB,di,bne_iff_ne,fZ.ix] at this
     exact this.1 e.symm
    rw [Bool.eq_iff_iff]
    simp only [di,bne_iff_ne,Bool.not_eq_true',← Bool.not_eq_true,List.contains_iff_mem]
    constructor
    ·rintro ⟨_,hq⟩ hc
     obtain ⟨p,hp',e⟩:=cE.1 hc
     exact hq (by rw [← e]; exact List.mem_map_of_mem (f:=(·.1)) ((O p).1 hp').1)
    ·intro hq
     refine ⟨A3,fun hc=>?_⟩
     obtain ⟨p,hp',e⟩:=cE.1 hc
     apply hq
     rw [← e]
     refine List.mem_map_of_mem (f:=(·.1)) ((O p).2 ⟨hp',?_⟩)
     have ht:=hm p hp'
     rcases gL.1 ht with ht|ht
     ·exfalso
      have:=q3 _ ht _ (dH _ hy')
      simp only [rB,di,bne_iff_ne,fZ.ix] at this
      exact this.1 e
     ·exact ht
   have N:(kP (T0++fZ.op k::s') dn).Nodup:=by
    unfold kP
    refine List.Nodup.sublist List.filter_sublist<|List.pairwise_map.2 (hp.imp fun {a c} q=>?_)
    simp only [rB,di,bne_iff_ne] at q
    exact q.1
   refine hK _ _ (fun w hw=>P w (hw.take (List.sublist_append_left _ _))) (fun q=>by cases q) ?_
   rw [AB]
   have hdn': ∀ p∈dn',fZ.take p.1∈s':=fun p hp'=>by
    rcases cg.1 ((O p).1 hp').2 with e|e
    ·cases e
    ·exact e
   refine qX hal n s' dn' L3 Y C3 (fun i hi=>hal' i (by simp [hi])) q5 ?_ J hdn' (fun p hp'=>hy p ((O p).1 hp').1) (fun i hi=>?_) (zw Z) P g
   ·rw [← AB,← List.Nodup.erase_eq_filter N,List.length_erase_of_mem G,hlen]; rfl
   ·have:=cY.1 A2 _ (tR hi)
    simpa using this
/-- the rows, at any time; the others, one after the other -/
theorem LL {tb rem:List Nat} {L:dC} {C:List aA} (s:List fZ) (B:dC) (dO:Nat→Nat) (VO:Nat→Nat→Value) (AO:Nat→Nat→aA) {n:Nat} (htb:tb=[]) (hr:s.map fZ.ix=rem) (hn:rem.length=n) (hp:RQ (ql ops) dO s=true) (hl:((Ao dO s).all fun d=>(L.lookup d).isNone)=true) (hB:B.map (fun p=>L.lookup p.1)=B.map (fun p=>some p.2)) (hC: ∀ w,St E.S E.w0 C w→St E.S E.w0 C' w)
 (hal: ∀ i,fZ.take i∈s→QV E ops D C' B dO VO AO i) (h:CH E ops D C' K0 B dO VO AO s L C):TN E ops D C' C1 (fun L C=>KJ E K0 D L C) tb n rem L C:=by
 subst htb hr
 have e:kP s []=s.map fZ.ix:=by unfold kP; simp
 have:=qX (C1:=C1) (fun i=> .inr trivial) n s [] L [] C hal (DY hp) (by rw [e]; exact hn) List.nodup_nil (fun p hp=>by cases hp) (fun p hp=>by cases hp) (fun i hi=>by
  have:=cY.1 hl _ (tR hi)
  simpa using this) (zw hB) hC h
 simpa [e] using this
theorem OR {p:Nat→Prop}: ∀ i,fZ.take i∈([]:List fZ)→p i:=fun i h=>by cases h
theorem x8 {p:Nat→Prop} {j:Nat} {s:List fZ} (h: ∀ i,fZ.take i∈s→p i): ∀ i,fZ.take i∈fZ.op j::s→p i:=fun i hi=>by
 rcases cg.1 hi with e|hi
 ·cases e
 ·exact h i hi
theorem vY {p:Nat→Prop} {j:Nat} {s:List fZ} (hj:p j) (h: ∀ i,fZ.take i∈s→p i): ∀ i,fZ.take i∈fZ.take j::s→p i:=fun i hi=>by
 rcases cg.1 hi with e|hi
 ·cases e; exact hj
 ·exact h i hi
end
section
variable {E:fI} {ops:Array Oper} {D:List Deferred} {C':List aA} {B:List (Nat×Value)} {dO:Nat→Nat} {VO:Nat→Nat→Value} {AO:Nat→Nat→aA}
variable {d:Nat} {ty:TypeId} {ps:String} {af:Array Edge}
theorem Jv {i t e sz:Nat} (ho:ops[i]? =some ⟨some d,.buildSlice t 0 #[],ty,ps,af,none⟩) (ht:tE E.P t=some (e,sz)) (hd:Nat.blt d E.n=true) (h1:dO i=d) (h2: ∀ b,VO i b= .slice (some ⟨b,0,none⟩) 0 0) (h3: ∀ b,AO i b=cy b e []):QV E ops D C' B dO VO AO i:=fun o ho' L C K hB _ hk=>by
 rw [ho] at ho'; cases ho'
 exact qe U ht hd fun b=>aD (by have:=hk b; rw [h1,h2,h3] at this; exact this)
theorem L_ {i t e sz n:Nat} {xs:List Operand} {vs:List Value} {cs zs:List Value} (ho:ops[i]? =some ⟨some d,.buildSlice t n ((xs.zipIdx.map fun p=>(p.2,p.1)).toArray),ty,ps,af,none⟩) (ht:tE E.P t=some (e,sz)) (hz:tZ E.P e=some zs) (hx:evs B xs=some vs) (hn:xs.length=n) (hp:Nat.blt 0 (n*sz)=true) (hb:Nat.ble (n*sz) 16777216=true) (hv: ∀ v∈vs,v.cells.size=sz)
 (hc:(vs.map (·.cells.toList)).flatten=cs) (hd:Nat.blt d E.n=true) (h1:dO i=d) (h2: ∀ b,VO i b= .slice (some ⟨b,0,none⟩) n n) (h3: ∀ b,AO i b=cy b e cs):QV E ops D C' B dO VO AO i:=fun o ho' L C K hB _ hk=>by
 rw [ho] at ho'; cases ho'
 exact eP U ht hz (DS hB hx) hn hp hb hv hc hd fun b=>aD (by have:=hk b; rw [h1,h2,h3] at this; exact this)
end
section
variable {E:fI} {ops:Array Oper} {D:List Deferred} {C':List aA} {K0:Act→World→Prop} {B:List (Nat×Value)} {dO:Nat→Nat} {VO:Nat→Nat→Value} {AO:Nat→Nat→aA}
theorem wP {j:Nat} {s:List fZ} {L:dC} {C:List aA} {o:Oper} (ho:ops[j]? =some o)
 (h: ∀ (Y:dC) (X:List aA) (K:Act→World→Prop),(∀ L' C'',(∀ w,St E.S E.w0 C'' w→St E.S E.w0 C' w)→((Ao dO s).all fun d=>(L'.lookup d).isNone)=true→B.map (fun p=>L'.lookup p.1)=B.map (fun p=>some p.2)→CH E ops D C' K0 B dO VO AO s L' C''→KJ E K D (L'++Y) (C''++X))→RJ E ops (NQ K) [o] D (L++Y) (C++X)):CH E ops D C' K0 B dO VO AO (.op j::s) L C:=fun o' ho'=>by
 rw [ho] at ho'; cases ho'
 exact h
theorem sk {s:List fZ} {L Y:dC} {C X:List aA} {K:Act→World→Prop} (hT: ∀ L' C'',(∀ w,St E.S E.w0 C'' w→St E.S E.w0 C' w)→((Ao dO s).all fun d=>(L'.lookup d).isNone)=true→B.map (fun p=>L'.lookup p.1)=B.map (fun p=>some p.2)→CH E ops D C' K0 B dO VO AO s L' C''→KJ E K D (L'++Y) (C''++X)) (nL nC:Nat)
 (hL:L.take nL++Y=L) (hC:C.take nC++X=C) (h1: ∀ w,St E.S E.w0 (C.take nC) w→St E.S E.w0 C' w) (h2:((Ao dO s).all fun d=>((L.take nL).lookup d).isNone)=true) (h3:B.map (fun p=>(L.take nL).lookup p.1)=B.map (fun p=>some p.2)) (h:CH E ops D C' K0 B dO VO AO s (L.take nL) (C.take nC)):RJ E ops (NQ K) [] D L C:=by
 have:=hT _ _ h1 h2 h3 h
 rw [hL,hC] at this
 exact aD this
theorem QR {c:Code} {Q:dw} {L L':dC} {C:List aA} (h:L'.map (fun p=>L.lookup p.1)=L'.map (fun p=>some p.2)) (k:WJ E c Q D L' C):WJ E c Q D L C:=fun a w hf hs=>k a w (EM (zw h) a hf) hs
theorem xq: ∀ {C:List aA} {i:Nat} {A:aA},C[i]? =some A→C.Perm (A::C.eraseIdx i)
 |[],i,A,h=>by simp at h
 |x::C,0,A,h=>by
  simp at h; subst h
  exact List.Perm.refl _
 |x::C,i+1,A,h=>((xq (C:=C) (i:=i) (by simpa using h)).cons x).trans (List.Perm.swap _ _ _)
theorem St.front {S:BS} {w0 w:World} {C:List aA} {A:aA} (i:Nat) (hi:C[i]? =some A) (h:St S w0 C w):St S w0 (A::C.eraseIdx i) w:=h.perm (xq hi)
theorem D3 {K:Act→World→Prop} {L:dC} {C:List aA} {A:aA} (i:Nat) (hi:C[i]? =some A) (h:KJ E K D L (A::C.eraseIdx i)):KJ E K D L C:=fun a w hf hs=>h a w hf (hs.front i hi)
theorem rf {Q:dw} {rest:List Oper} {L:dC} {C:List aA} {A:aA} (i:Nat) (hi:C[i]? =some A) (h:RJ E ops Q rest D L (A::C.eraseIdx i)):RJ E ops Q rest D L C:=fun a w hf hs=>h a w hf (hs.front i hi)
end
end
section
open Go.RowKit
theorem AB (l:List dj) (az:List kK): ∀ v∈(List.zipWith dj.cells l az).flatten,v.oneCell'=true:=by
 induction l generalizing az with
 |nil=>intro v hv; simp at hv
 |cons x l ih=>
  cases az with
  |nil=>intro v hv; simp at hv
  |cons a az=>
   intro v hv
   simp only [List.zipWith_cons_cons,List.flatten_cons,gL] at hv
   rcases hv with hv|hv
   ·simp only [dj.cells,x3.cells,cg,List.not_mem_nil,or_false] at hv
    rcases hv with rfl|rfl|rfl<;>rfl
   ·exact ih az v hv
theorem Es: ∀ (m:dj) (a:kK) (w:World),(∀ X∈dj.owns m a,X.holds w)→ ∀ X∈dj.fu m a,X.holds w:=fun m a w h X hX=>by
 simp only [dj.fu,cg,List.not_mem_nil,or_false] at hX
 have A:=nt (h (own a.1.1 a.1.2 mg 1 (m.gf.map iC)) (by simp [dj.owns]))
 have B:=nt (h (own a.2.1.1 a.2.1.2 mg 1 (m.jf.map iC)) (by simp [dj.owns]))
 have C:=nt (h (own a.2.2.1 a.2.2.2 mg 1 (m.l6.map iC)) (by simp [dj.owns]))
 rcases hX with rfl|rfl|rfl
 ·simpa using A
 ·simpa using B
 ·simpa using C
theorem pA: ∀ (l:List dj) (az:List kK),(bk dj.owns l az).all (·.wr)=true
 |[],_=>rfl
 |_::_,[]=>rfl
 |x::l,a::az=>by
  simp only [bk,List.all_append,di]
  exact ⟨U,pA l az⟩
theorem JI (l:List dj) (az:List kK):(bS (bk dj.owns l az)).wr=true:=pA l az
theorem Jd {l m:List dj} {az bz:List kK} (h:az.length=l.length):List.zipWith dj.cells (l++m) (az++bz)=List.zipWith dj.cells l az++List.zipWith dj.cells m bz:=List.zipWith_append h.symm
theorem my {l:List dj} {az:List kK} (h:az.length=l.length):(List.zipWith dj.cells l az).length=l.length:=by rw [List.length_zipWith]; omega
/-- what is read of a thing that is tied, and frozen -/
theorem pR {C L:List aA} {a:OA} {c e sz n:Nat} {es:List (List Value)} (i:Nat) (hC:C[i]? =some (bS L).ro) (hm:own a c e sz es∈L) (hn:es.length=n):hH C (rd a n sz es).holds:=fun w hw=>by
 subst hn
 exact nt ((show (bS L).holds w from (hw _ (aP hC):(bS L).ro.holds w)).1 _ hm)
section
variable {E:fI} {ops:Array Oper} {Q:dw} {rest:List Oper} {D:List Deferred} {L:List (Nat×Value)} {C C1:List aA}
theorem St.M3 {S:BS} {w0 w:World} {X C:List aA} {A:aA} (h:St S w0 (bS (X++[A])::C) w):St S w0 (A::bS X::C) w:=by
 have B:=h.iU
 have D:St S w0 (X++(A::C)) w:=by simpa using B
 exact D.tied.perm (List.Perm.swap _ _ _)
theorem St.merge {S:BS} {w0 w:World} {X Y C:List aA} (h:St S w0 (bS X::bS Y::C) w):St S w0 (bS (X++Y)::C) w:=by
 have A:St S w0 (bS Y::(X++C)) w:=(h.iU).perm (List.perm_middle (a:=bS Y) (l₁:=X) (l₂:=C))
 have B:St S w0 (Y++(X++C)) w:=A.iU
 have D:St S w0 ((X++Y)++C) w:=B.perm (by rw [← List.append_assoc]; exact List.perm_append_comm.append_right _)
 exact D.tied
end
section
variable {E:fI} {ops:Array Oper} {Q:dw} {rest:List Oper} {D:List Deferred} {L:List (Nat×Value)} {C:List aA}
theorem zq {A:aA} {X X':List aA} (e:X++[A]=X') (h:RJ E ops Q rest D L (bS X'::C)):RJ E ops Q rest D L (A::bS X::C):=fun a w hf hs=>h a w hf (hs.tie e)
theorem yN {X:List aA} {A:aA} (h:RJ E ops Q rest D L (A::bS X::C)):RJ E ops Q rest D L (bS (X++[A])::C):=fun a w hf hs=>h a w hf hs.M3
theorem Io {K:Act→World→Prop} {ms ns:List dj} {az bz:List kK} (hl:az.length=ms.length) (h:KJ E K D L (bS (bk dj.owns (ms++ns) (az++bz))::C)):KJ E K D L (bS (bk dj.owns ms az)::bS (bk dj.owns ns bz)::C):=fun a w hf hs=>h a w hf (by rw [jB hl.symm]; exact hs.merge)
end
/-- the head of the ways: the way that ends here, if it may -/
def x5 (l:bo) (r:cx) (rs fs:List Int) (ra fa:RA) (hz:List kK) (LA:List aA):Prop:=
 ((r.aa.length:Int)-(dq rs).right≤l.e9∧ ∃ la:RA,hz=[(ra,fa,la)]∧LA=[own la.1 la.2 mg 1 ((jG l r rs).map iC)])∨(¬ (r.aa.length:Int)-(dq rs).right≤l.e9∧hz=[]∧LA=[])
theorem x5.len {l:bo} {r:cx} {rs fs:List Int} {ra fa:RA} {hz:List kK} {LA:List aA} (h:x5 l r rs fs ra fa hz LA):hz.length=(hZ l r rs fs).length:=by
 unfold hZ
 rcases h with ⟨q,la,rfl,rfl⟩|⟨q,rfl,rfl⟩
 ·rw [if_pos q]; rfl
 ·rw [if_neg q]; rfl
theorem x5.wr {l:bo} {r:cx} {rs fs:List Int} {ra fa:RA} {hz:List kK} {LA:List aA} (h:x5 l r rs fs ra fa hz LA):LA.all (·.wr)=true:=by
 rcases h with ⟨q,la,rfl,rfl⟩|⟨q,rfl,rfl⟩<;>rfl
theorem GR {S:BS} {w0 w:World} {l:bo} {r:cx} {rs fs:List Int} {ra fa:RA} {hz az:List kK} {LA:List aA} {R:List dj} {A:aA} (hh:x5 l r rs fs ra fa hz LA)
 (h:St S w0 [bS [own ra.1 ra.2 mg 1 (rs.map iC),own fa.1 fa.2 mg 1 (fs.map iC)],A,bS LA,bS (bk dj.owns R az)] w):St S w0 [bS (bk dj.owns (hZ l r rs fs++R) (hz++az)++[A])] w:=by
 rw [jB hh.len.symm]
 have D:St S w0 [own ra.1 ra.2 mg 1 (rs.map iC),own fa.1 fa.2 mg 1 (fs.map iC),A,bS LA,bS (bk dj.owns R az)] w:=h.iU
 rcases hh with ⟨q,la,rfl,rfl⟩|⟨q,rfl,rfl⟩
 ·unfold hZ
  rw [if_pos q]
  have B:=(St.lh [3,0,1,2,4] rfl rfl D).iU
  have E:=(St.lh [4,1,2,0,3] rfl rfl B).iU
  have C:St S w0 (((bk dj.owns [(⟨rs,fs,jG l r rs⟩:dj)] [(ra,fa,la)]++bk dj.owns R az)++[A])++[]) w:=by
   rw [List.append_nil]
   refine E.perm ?_
   show (bk dj.owns R az++(bk dj.owns [(⟨rs,fs,jG l r rs⟩:dj)] [(ra,fa,la)]++[A])).Perm _
   rw [← List.append_assoc]
   exact List.perm_append_comm.append_right _
  exact C.tied
 ·unfold hZ
  rw [if_neg q]
  have B:=(St.lh [4,2] rfl rfl D).iU
  have C:St S w0 (((bk dj.owns [] []++bk dj.owns R az)++[A])++[]) w:=by
   rw [List.append_nil]; exact B
  exact C.tied
theorem HU {E:fI} {K:Act→World→Prop} {D:ir} {L:dC} {l:bo} {r:cx} {rs fs:List Int} {ra fa:RA} {hz az z:List kK} {LA:List aA} {R W:List dj} {A A':aA} (hh:x5 l r rs fs ra fa hz LA) (hW:hZ l r rs fs++R=W) (hz':hz++az=z) (hA:A=A')
 (h:KJ E K D L [bS (bk dj.owns W z++[A'])]):KJ E K D L [bS [own ra.1 ra.2 mg 1 (rs.map iC),own fa.1 fa.2 mg 1 (fs.map iC)],A,bS LA,bS (bk dj.owns R az)]:=fun a w hf hs=>h a w hf (by subst hW hz' hA; exact GR hh hs)
theorem Om {E:fI} {K:Act→World→Prop} {D:ir} {L:dC} {X A:aA} {W:List dj} (h:KJ E K D L [bS (bk dj.owns W []++[A])]):KJ E K D L [X,A]:=fun a w hf hs=>h a w hf (by
 have B:St E.S E.w0 [A] w:=St.lh [1] rfl rfl hs
 have C:St E.S E.w0 (([]++[A])++[]) w:=B
 have e:bk dj.owns W []=[]:=by cases W<;>rfl
 rw [e]
 exact C.tied)
theorem Fx {E:fI} {K:Act→World→Prop} {D:ir} {L:dC} {C:List aA} (e sz:Nat) (k:KJ E K D L (own none 0 e sz []::C)):KJ E K D L C:=fun a w hf hs=>k a w hf (hs.tW e sz)
end
section
open Go.RowKit
theorem Ee (l:bo) (kA:OA) (kC:Nat) (az:List RA) (cA:OA) (cC:Nat) (bA:OA) (bC:Nat) (r:cx) (sgA:OA) (sgC:Nat) (hin:d_ l az) (hsl:r.aa.length≤1000000):
 dF Tryz.prog 67 [(vA (cu.cells (jr l kA kC cA cC bA bC))),(vA (de.cells (im r sgA sgC)))] [(rd kA l.aO.length 9 (l.aO.map aq.cells)),(rd cA l.aj.length 2 (List.zipWith av.cells l.aj az)),(dL (bk av.fu l.aj az)),(rd bA l.ab.length 4 (l.ab.map bL.cells)),(rd sgA r.aa.length 2 (r.aa.map aH.cells))] (vB (decide (ei l r))):=by
 have A0:=hin.qm
 have AO:=hin.qj
 have w:=hin.mq
 have AC:=hin.qi
 refine bE kr Tryz.func67 U U fun w0 Q hQ hN=>?_
 try dsimp only
 refine WS fun _ h=>ed U fun b2=>ed U fun b3=>bx 1 U<|RK h<|ak fun _ j=>WS fun _ H=>er 2 [] (mc 0 U mn) U<|rS (CL (iN r.Start 0 86400000) (aR) U)<|rP 2 [] mn ?_
 refine bP (t:=11) U (aW fun X=>?_) (aV fun X=>?_)
 ·refine bx 13 U<|RK H<|aI U<|WS fun _ k=>rP 1 [] mn ?_
  refine RK k<|ao<|Q1 hQ U U U ?_
  exact cB (aY fun q=>by have C:=q.time; have u:=q.len; omega).symm
 refine er 4 [] (mc 0 U mn) U<|rS (CL (iN r.fP r.Start 86400000) (aR) U)<|rP 3 [] mn ?_
 refine bP (t:=19) U (aW fun Z=>?_) (aV fun Z=>?_)
 ·refine bx 5 U<|RK H<|aI U<|WS fun _ m=>rP 1 [] mn ?_
  refine RK m<|ao<|Q1 hQ U U U ?_
  exact cB (aY fun q=>by have C:=q.time; have u:=q.len; omega).symm
 refine rP 5 [] (mc 0 U mn) ?_
 refine RK H<|cr U (aT fun a=>?_) (aS fun a=>?_)
 ·refine WS fun _ n=>rP 1 [] mn ?_
  refine RK n<|ao<|Q1 hQ U U U ?_
  exact cB (aY fun q=>by have C:=q.time; have u:=q.len; omega).symm
 refine WK j<|ak fun _ o=>WS fun _ J=>rP 1 [] mn ?_
 refine RK J<|aC ?_
 have F:(0≤r.aa.length)∧(oB l r.aa 0):=by exact ⟨Nat.zero_le _,uS⟩
 refine bQ (ι:={z:Nat // (z≤r.aa.length)∧(oB l r.aa z)}) [2,3] [0,1,2,3,4,5,6] U U (fun z=>[(5,(vI (z.1:Int)))]) (fun z=>[]) (fun _=>rfl) (fun _=>rfl) (fun z=>r.aa.length-z.1) ⟨0,F⟩ (bu U) (aN [0,1,2,3,4,5,6]) ?_
 clear F
 rintro ⟨i,⟨p,A⟩⟩ J11 D
 try dsimp only
 refine ak fun _ K=>WS fun _ L=>rP 5 [] (mc 0 U mn) ?_
 refine RK L<|bO U (aS fun Y=>?_) (aT fun Y=>?_)
 ·refine bM<|ag<|ag<|aG<|KK o<|WS fun _ T=>rP 1 [] mn ?_
  refine RK T<|ao<|Q1 hQ U U U ?_
  exact cB (cJ (xM I I A I)).symm
 refine WK K<|ak fun _ E=>aC<|WS fun _ M=>rP 3 [] (mc 0 U mn) ?_
 obtain ⟨x,hx⟩:=aF r.aa i I
 have s:=bJ aH.cells hx
 refine rS (IA i U (ax 6 U) xp dc I I)<|rS (jL i 0 (aH.cells x) U bX (ax 6 U) s U dc U U)<|AL U Bo fun v=>fj U oZ U<|RK M<|ak fun _ N=>WS fun _ G=>er 6 [0,1] (mc 0 U (mc 2 U mn)) U<|rS (CL (iN x.fz 0 ((l.ab.length:Int)-1)) (aR) U)<|rP 2 [] mn ?_
 refine bP (t:=45) U (aW fun b=>?_) (aV fun b=>?_)
 ·refine bx 5 U<|RK G<|aI U<|WS fun _ O=>rP 1 [] mn ?_
  refine RK O<|ao<|Q1 hQ U U U ?_
  exact cB (aY fun q=>by have C:=q.sig i x hx; unfold iB je at C; omega).symm
 refine er 2 [] (mc 0 U mn) U<|rS (CL (iN x.Read 0 86400000) (aR) U)<|rP 2 [] mn ?_
 refine RK G<|cr U (aW fun c=>?_) (aV fun c=>?_)
 ·refine WS fun _ P=>rP 1 [] mn ?_
  refine RK P<|ao<|Q1 hQ U U U ?_
  exact cB (aY fun q=>by have C:=q.sig i x hx; unfold iB je at C; omega).symm
 refine WK N<|ak fun _ B=>cW ck 38 kr<|dP 3 [] mn ?_
 refine g0 (t:=53) U (aS fun d=>?_) (aT fun d=>?_)
 ·refine kx 35 U<|cw<|RK B<|bT U<|cp<|aK<|KK E<|au<|rP 3 [] mn ?_
  refine aD ?_
  have W:(vI (((i+1):Nat):Int))=(vI ((i:Int)+1)):=by exact cI I
  refine bj (D ⟨(i+1),⟨I,ju A hx (by unfold iB je; (rw [F2 I]; simp only; omega))⟩⟩ _ _ _ U os (dh.cons U<|dh.cons U<|a_ U W<|dh.nil _) (aN [1,2,3,4,5,6,7]))
 refine dP 6 [0,1] (mc 0 U (mc 1 U mn)) ?_
 obtain ⟨y,hy⟩:=aF r.aa (i-1) I
 have AB:=bJ aH.cells hy
 refine dS (IA (i-1) U (ax 7 U) xp dc I I)<|dS (oL ((i-1)*2) U (ax 7 U) (Nat.mul_pos I dc) eV U)<|dS (h_ (i-1) 0 (vI y.fz) U bX (ax 7 U) AB U dc U)<|dP 2 [] mn ?_
 refine g9 (t:=64) U (aT fun e=>?_) (aS fun e=>?_)
 ·refine kx 24 U<|cw<|RK B<|aI U<|WS fun _ R=>rP 1 [] mn ?_
  refine RK R<|ao<|Q1 hQ U U U ?_
  exact cB (aY fun q=>by have C:=q.sig i x hx; unfold iB je at C; (rw [re I hy] at C; omega)).symm
 refine kv 6 [0,1] (mc 0 U (mc 1 U mn)) U<|dS (IA (i-1) U (ax 7 U) xp dc I I)<|dS (oL ((i-1)*2) U (ax 7 U) (Nat.mul_pos I dc) eV U)<|dS (h_ (i-1) 0 (vI y.fz) U bX (ax 7 U) AB U dc U)<|dP 2 [] mn ?_
 refine g0 (t:=75) U (aS fun f=>?_) (aT fun f=>?_)
 ·refine kx 13 U<|cw<|RK B<|bT U<|cp<|aK<|KK E<|au<|rP 3 [] mn ?_
  refine aD ?_
  have V:(vI (((i+1):Nat):Int))=(vI ((i:Int)+1)):=by exact cI I
  refine bj (D ⟨(i+1),⟨I,ju A hx (by unfold iB je; (rw [re I hy]; omega))⟩⟩ _ _ _ U os (dh.cons U<|dh.cons U<|a_ U V<|dh.nil _) (aN [1,2,3,4,5,6,7]))
 refine kv 6 [0,1] (mc 0 U (mc 1 U mn)) U<|dS (IA (i-1) U (ax 7 U) xp dc I I)<|dS (oL (((i-1)*2)+1) U (ax 7 U) (Nat.mul_pos I dc) eV U)<|dS (h_ (i-1) 1 (vI y.Read) U bX (ax 7 U) AB U dc U)<|dP 4 [] mn ?_
 refine cw<|RK B<|cr U (aT fun g=>?_) (aS fun g=>?_)
 ·refine WS fun _ S=>rP 1 [] mn ?_
  refine RK S<|ao<|Q1 hQ U U U ?_
  exact cB (aY fun q=>by have C:=q.sig i x hx; unfold iB je at C; (rw [re I hy] at C; omega)).symm
 refine cp<|aK<|KK E<|au<|rP 3 [] mn ?_
 refine aD ?_
 have AA:(vI (((i+1):Nat):Int))=(vI ((i:Int)+1)):=by exact cI I
 refine bj (D ⟨(i+1),⟨I,ju A hx (by unfold iB je; (rw [re I hy]; omega))⟩⟩ _ _ _ U os (dh.cons U<|dh.cons U<|a_ U AA<|dh.nil _) (aN [1,2,3,4,5,6,7]))
end
section
open Go.RowKit
theorem Ki (l:bo) (kA:OA) (kC:Nat) (az:List RA) (cA:OA) (cC:Nat) (bA:OA) (bC:Nat) (r:cx) (sgA:OA) (sgC:Nat) (hin:d_ l az) (hle:dM l=0) (hr:ei l r):
 qf Tryz.prog 181 [(vA (cu.cells (jr l kA kC cA cC bA bC))),(vA (de.cells (im r sgA sgC)))] [(rd kA l.aO.length 9 (l.aO.map aq.cells)),(rd cA l.aj.length 2 (List.zipWith av.cells l.aj az)),(dL (bk av.fu l.aj az)),(rd bA l.ab.length 4 (l.ab.map bL.cells)),(rd sgA r.aa.length 2 (r.aa.map aH.cells))] (fun (x:(OA)×Nat×(OA)×Nat×(OA)×Nat)=>(vA (iT.cells (iT.mk (bK.mk x.1 ((cq l l.ab.length).length) x.2.1) (bK.mk x.2.2.1 ((eY l r r.aa.length).length) x.2.2.2.1) (bK.mk x.2.2.2.2.1 ((fD l r r.aa.length).length) x.2.2.2.2.2))))) (fun (x:(OA)×Nat×(OA)×Nat×(OA)×Nat)=>True) (fun (x:(OA)×Nat×(OA)×Nat×(OA)×Nat)=>[(own x.1 x.2.1 3 1 ((cq l l.ab.length).map iC)),(own x.2.2.1 x.2.2.2.1 65 2 ((eY l r r.aa.length).map ai.cells)),(own x.2.2.2.2.1 x.2.2.2.2.2 4 1 ((fD l r r.aa.length).map kQ))]):=by
 have A7:=hin.qm
 have A3:=hin.qj
 have A1:=hin.mq
 have A2:=hin.qi
 obtain ⟨w,g⟩:=dK hle
 have t:=g.head
 unfold eT at t
 have A5:=hr.len
 have A6:=hr.time
 refine fJ kr Tryz.func181 U U fun w0 Q hQ hN=>?_
 try dsimp only
 refine WS fun _ n=>ed U fun b2=>ed U fun b3=>AL U MS fun b4=>RK n<|WS fun _ o=>AL U MS fun h=>RK o<|ak fun _ p=>WS fun _ q=>rP 1 [] mn ?_
 refine RK q<|aC<|fR 3 1 ?_
 have A:(0≤l.ab.length):=by exact Nat.zero_le _
 refine bQ (ι:={z:Nat×(OA)×Nat // (z.1≤l.ab.length)}) [2,3,4,5] [2,3,4,5,6,7,8,9] U U (fun z=>[(6,(vI (z.1.1:Int)))]) (fun z=>[(own z.1.2.1 z.1.2.2 3 1 ((cq l z.1.1).map iC)),(cy h 284 (iT.cells (iT.mk (bK.mk z.1.2.1 ((cq l z.1.1).length) z.1.2.2) (bK.mk none 0 0) (bK.mk none 0 0))))]) (fun _=>rfl) (fun _=>rfl) (fun z=>l.ab.length-z.1.1) ⟨(0,none,0),A⟩ (bu U) (aN [2,3,4,5,6,7,8,9,0,1]) ?_
 clear A
 rintro ⟨⟨b,a,c⟩,F⟩ J9 m
 try dsimp only at F
 try dsimp only
 refine ak fun _ K=>WS fun _ L=>rP 5 [] (mc 2 U mn) ?_
 refine RK L<|cr U (aT fun j=>?_) (aS fun j=>?_)
 ·refine WK K<|ak fun _ M=>aC<|dx ck [5,6,8] [1] [0] [0,1,2,3,4,5,6,7] [0,1,2,3,4,5,6,7,8,9] U U U U U<|eS U (FA 0 U eV U)<|fS U (L1 (vS a ((cq l b).length) c) 9 U bX U U)<|eS U (LW 2 U bX U U)<|eS U (MV U) ?_
  have A4:=m_ w g (i:=b) I
  refine eS U (CL (Hy l kA kC az cA cC bA bC (b:Int) hin asm asm I) (br [3,4,5,6]) U)<|eS U (FA 0 U eV U)<|eo U<|jJ U fun T14 W=>eP (xs:=[.tmp 21]) (cs:=[(vI (ej l (b:Int).toNat))]) U dJ kJ U U U U (by simp [Value.cells]) U U fun y=>aD (W _ _ (aN [1,2,3,4,5,6,7,8]) (aN [1,2,3,4,5,6,7,8,9,10]) ?_)
  refine cd U fun T16 X=>?_
  refine dA (es2:=(List.map iC (cq l (b+1)))) (m':=(cq l (b+1)).length) 9 U U U qz U U sm (bq (es:=List.map iC [(ej l (b:Int).toNat)]) 0 U U (by simp [bU]) U) (kG _) (by simp only [cS]; omega) (by simp only [maxLen,cS]; omega) (by rw [qK]; simp) sm U fun H AB=>?_
  try dsimp only
  refine aD (X _ _ (aN [1,2,3,4,5,6,7,8]) ?_)
  refine cd U fun T19 Y=>Ph (iT.cells (iT.mk (bK.mk H ((cq l (b+1)).length) AB) (bK.mk none 0 0) (bK.mk none 0 0))) U F3 U U<|aD (Y _ _ (aN [1,2,3,4,5,6,7,8]) ?_)
  refine fh U<|aK<|KK M<|au<|rP 3 [] mn ?_
  refine aD ?_
  have e:(vI (((b+1):Nat):Int))=(vI ((b:Int)+1)):=by exact cI I
  refine bj (m ⟨((b+1),H,AB),(by first|omega|(simp only []; omega))⟩ _ _ _ U os (cN 4<|a_ U e<|dh.nil _) (aN [1,2,3,4,5,6,7,8,9,10]))
 refine bM<|ag<|ag<|aG<|KK p<|ak fun _ N=>WS fun _ O=>?_
 rw [show cq l b=(cq l l.ab.length) from by rw [show b=l.ab.length by omega]]
 refine rP 1 [] mn ?_
 refine RK O<|aC<|fR 65 2<|fR 4 1 ?_
 have A:(0≤r.aa.length):=by exact Nat.zero_le _
 refine bQ (ι:={z:Nat×(OA)×Nat×(OA)×Nat // (z.1≤r.aa.length)}) [2,3,4,5] [2,3,4,5,6,7,8,9,10] U U (fun z=>[(7,(vI (z.1.1:Int)))]) (fun z=>[(own z.1.2.2.2.1 z.1.2.2.2.2 4 1 ((fD l r z.1.1).map kQ)),(own z.1.2.1 z.1.2.2.1 65 2 ((eY l r z.1.1).map ai.cells)),(cy h 284 (iT.cells (iT.mk (bK.mk a ((cq l l.ab.length).length) c) (bK.mk z.1.2.1 ((eY l r z.1.1).length) z.1.2.2.1) (bK.mk z.1.2.2.2.1 ((fD l r z.1.1).length) z.1.2.2.2.2))))]) (fun _=>rfl) (fun _=>rfl) (fun z=>r.aa.length-z.1.1) ⟨(0,none,0,none,0),A⟩ (bu U) (aN [2,3,4,5,6,7,8,9,10,0,1,11]) ?_
 clear A
 rintro ⟨⟨i,ta,tc,sa,sc⟩,G⟩ J23 J
 try dsimp only at G
 try dsimp only
 refine ak fun _ P=>WS fun _ R=>rP 5 [] (mc 1 U mn) ?_
 refine RK R<|bO U (aS fun k=>?_) (aT fun k=>?_)
 ·refine bM<|ag<|ag<|aG<|KK N<|WS fun _ V=>?_
  rw [show eY l r i=(eY l r r.aa.length) from by rw [show i=r.aa.length by omega]]
  rw [show fD l r i=(fD l r r.aa.length) from by rw [show i=r.aa.length by omega]]
  refine rP 1 [] (mc 11 U mn) ?_
  refine fj U Pj U<|RK V<|ao<|LX hQ (a,c,ta,tc,sa,sc) [8,10,9] [0] (mc 0 U mn) U U U U ?_
  trivial
 refine WK P<|ak fun _ S=>aC<|ak fun _ T=>dx ck [10,11] [] [] [0,1,2,3,4,5,6,7,8,9,10,11] [] U U U U U<|eS U (LW 2 U bX U U)<|eS U (FA 2 U eV U)<|eS U (L1 (vS sgA r.aa.length sgC) 1 U bX U U)<|eS U (MV U) ?_
 obtain ⟨s,hs⟩:=aF r.aa i I
 have v:=bJ aH.cells hs
 refine eS U (IA i U (ax 7 U) xp dc I I)<|eS U (jL i 0 (aH.cells s) U bX (ax 7 U) v U dc U U) ?_
 have u:=(hr.sig i s hs).1
 refine eS U (CL (Kt l kA kC az cA cC bA bC s hin asm (by exact u)) (br [3,4,5,6]) U)<|eS U (MV U)<|eS U (EX U)<|eS U (EX U)<|eS U (AG U)<|eo U<|cd U fun T29 Z=>AL U dV fun AC=>aD (Z _ _ (aN [1,2,3,4,5,6,7,8,9,10,11,12]) ?_)
 refine cd U fun T31 d=>fj U cT U<|aD (d _ _ (aN [1,2,3,4,5,6,7,8,9,10,11,12]) ?_)
 refine fh U<|KK T<|WS fun _ AA=>rP 3 [0,1] (mc 12 U (mc 0 U mn)) ?_
 refine eP (xs:=[.tmp 44]) (cs:=(ai.cells (dg l s))) U lq dV U U U U (by simp [Value.cells,ai.bB]) U U fun AO=>?_
 refine dA (es2:=(List.map ai.cells (eY l r (i+1)))) (m':=(eY l r (i+1)).length) 12 U U U EA U U sm (bq (es:=List.map ai.cells [(dg l s)]) 0 U U (by simp [ai.bB]) U) (kU _) (by rw [rE I]; omega) (by rw [rE I]; simp only [maxLen]; omega) (by rw [CJ hs]; simp) sm U fun B C=>?_
 try dsimp only
 refine bx 1 U<|iQ (vs:=[(vS B ((eY l r (i+1)).length) C)]) (cs':=(iT.cells (iT.mk (bK.mk a ((cq l l.ab.length).length) c) (bK.mk B ((eY l r (i+1)).length) C) (bK.mk sa ((fD l r i).length) sc)))) (C':=[_,_,_,_,_,_,_,_,_,_,_,_,_,(cy h 284 (iT.cells (iT.mk (bK.mk a ((cq l l.ab.length).length) c) (bK.mk B ((eY l r (i+1)).length) C) (bK.mk sa ((fD l r i).length) sc))))]) 13 U U U QZ U U U U U U U<|RK AA<|au<|rP 3 [] (mc 13 U mn) ?_
 refine eP (xs:=[.tmp 50]) (cs:=[(vB (decide ((dg l s).Lo≤(dg l s).Hi)))]) U Et Um U U U U (by simp [Value.cells]) U U fun A0=>?_
 refine dA (es2:=(List.map kQ (fD l r (i+1)))) (m':=(fD l r (i+1)).length) 12 U U U Mu U U sm (bq (es:=List.map kQ [(decide ((dg l s).Lo≤(dg l s).Hi))]) 0 U U (by simp [zY]) U) (F_ _) (by rw [uX I]; omega) (by rw [uX I]; simp only [maxLen]; omega) (by rw [CN hs]; simp) sm U fun D E=>?_
 try dsimp only
 refine bx 1 U<|iQ (vs:=[(vS D ((fD l r (i+1)).length) E)]) (cs':=(iT.cells (iT.mk (bK.mk a ((cq l l.ab.length).length) c) (bK.mk B ((eY l r (i+1)).length) C) (bK.mk D ((fD l r (i+1)).length) E)))) (C':=[_,_,_,_,_,_,_,_,_,_,_,_,_,_,(cy h 284 (iT.cells (iT.mk (bK.mk a ((cq l l.ab.length).length) c) (bK.mk B ((eY l r (i+1)).length) C) (bK.mk D ((fD l r (i+1)).length) E))))]) 14 U U U Qq U U U U U U U<|aD<|aK<|KK S<|au<|bx 2 U<|rP 1 [] mn ?_
 refine aD ?_
 have f:(vI (((i+1):Nat):Int))=(vI ((i:Int)+1)):=by exact cI I
 refine bj (J ⟨((i+1),B,C,D,E),(by first|omega|(simp only []; omega))⟩ _ _ _ U os (cN 4<|a_ U f<|dh.nil _) (aN [3,4,5,6,7,8,9,10,11,12,13,14]))
theorem GZ (r:cx) (sgA:OA) (sgC:Nat) (l:bo) (wA:OA) (wC:Nat) (tA:OA) (tC:Nat) (bA:OA) (bC:Nat) (rs:List Int) (rsA:OA) (rsC:Nat) (hle:dM l=0) (hr:ei l r) (hn:rs.length≤l.ab.length) (hrs: ∀ x∈rs,0≤x→x<(r.aa.length:Int)):
 qf Tryz.prog 211 [(vA (de.cells (im r sgA sgC))),(vA (iT.cells (iT.mk (bK.mk wA ((cq l l.ab.length).length) wC) (bK.mk tA ((eY l r r.aa.length).length) tC) (bK.mk bA ((fD l r r.aa.length).length) bC)))),(vS rsA rs.length rsC)] [(rd sgA r.aa.length 2 (r.aa.map aH.cells)),(rd wA ((cq l l.ab.length).length) 1 ((cq l l.ab.length).map iC)),(rd tA ((eY l r r.aa.length).length) 2 ((eY l r r.aa.length).map ai.cells)),(rd bA ((fD l r r.aa.length).length) 1 ((fD l r r.aa.length).map kQ)),(rd rsA rs.length 1 (rs.map iC))] (fun (x:(OA)×Nat)=>(vS x.1 ((jG l r rs).length) x.2)) (fun (x:(OA)×Nat)=>True) (fun (x:(OA)×Nat)=>[(own x.1 x.2 3 1 ((jG l r rs).map iC))]):=by
 obtain ⟨J,D⟩:=dK hle
 have v:=D.head
 unfold eT at v
 have A4:=hr.len
 have A5:=hr.time
 have w:=Ek (l:=l) (rs:=rs) ⟨I,I⟩ (fun b hb=>by have:=m_ J D (i:=b) I; omega) hrs
 have A2:=cS (l:=l) (n:=l.ab.length)
 have A6:=rE (l:=l) (Nat.le_refl r.aa.length)
 refine fJ kr Tryz.func211 U U fun w0 Q hQ hN=>?_
 try dsimp only
 refine WS fun _ h=>ed U fun b2=>ed U fun b3=>bx 1 U<|RK h<|WS fun _ m=>rP 2 [] mn ?_
 refine s8 (n:=rs.length) (es:=(List.map iC (List.replicate rs.length 0))) U U U qz I I (by simp only [maxLen]; omega) (by rw [List.map_replicate]; rfl) U fun E=>?_
 try dsimp only
 refine bx 1 U<|RK m<|WS fun _ p=>er 3 [] (mc 2 U mn) U<|RK p<|ak fun _ q=>WS fun _ t=>rP 4 [] mn ?_
 refine RK t<|aC ?_
 rw [show (own (some ⟨E,0,none⟩) rs.length 3 1 (List.map iC (List.replicate rs.length 0)))=(own (some ⟨E,0,none⟩) rs.length 3 1 ((j1 l r rs rs.length).map iC)) from by rw [Gc]]
 have B:(rs.length≤rs.length):=by exact Nat.le_refl _
 have u:(vI ((jX l r rs rs.length).2))=(vI r.fP):=by rw [uU]
 refine bQ (ι:={z:Nat // (z≤rs.length)}) [2,3,4,7] [1,2,3,4,5,6,7] U U (fun z=>[(8,(vI ((jX l r rs z.1).2))),(9,(vI ((z.1:Int)-1)))]) (fun z=>[(own (some ⟨E,0,none⟩) rs.length 3 1 ((j1 l r rs z.1).map iC))]) (fun _=>rfl) (fun _=>rfl) (fun z=>z.1) ⟨rs.length,B⟩ (a_ U u<|bu U) (aN [1,2,3,4,5,6,7,0]) ?_
 clear B
 rintro ⟨j,AC⟩ J10 F
 try dsimp only
 have A3:=FG (l:=l) (r:=r) (rs:=rs) (j:=j) I
 refine ak fun _ L=>WS fun _ M=>rP 2 [] mn ?_
 refine RK M<|bO U (aS fun g=>?_) (aT fun g=>?_)
 ·refine bM<|ag<|ag<|aG<|KK q<|WS fun _ R=>rP 1 [] mn ?_
  rw [show (Value.slice (some ⟨E,0,none⟩) rs.length rs.length)=(Value.slice (some ⟨E,0,none⟩) ((jG l r rs).length) rs.length) from by rw [show (jG l r rs).length=rs.length from rI _ _]]
  rw [show j1 l r rs j=jG l r rs from by rw [show j=0 by omega]; exact Cn]
  refine rP 1 [] mn ?_
  refine RK R<|ao<|LX hQ ((some ⟨E,0,none⟩),rs.length) [7] [] mn U U U U ?_
  trivial
 refine WK L<|ak fun _ G=>aC<|ak fun _ H=>WS fun _ N=>rP 2 [] mn ?_
 have A1:=w (rs.length-j) j I
 obtain ⟨x,hx⟩:=aF rs (j-1) I
 have d:=bJ iC hx
 refine rS (IA (j-1) U (ax 6 U) dJ dc I I)<|rS (h_ (j-1) 0 (vI x) U bX (ax 6 U) d U dc U)<|rP 1 [] mn ?_
 refine RK N<|bO U (aS fun A=>?_) (aT fun A=>?_)
 ·refine WK H<|WS fun _ P=>rP 3 [] mn ?_
  obtain ⟨A9,c⟩:=aF (j1 l r rs j) (j-1) I
  have hx25m:=bJ iC c
  refine rS (IA (j-1) U (aL (n:=rs.length) 7 U sq) dJ dc I I) ?_
  have V:((j1 l r rs j).set (j-1) ((jX l r rs j).2))=(j1 l r rs (j-1)):=by (rw [← yM I hx]; congr 1; unfold tn; (rw [if_neg A]; done))
  refine gp (k:=(j-1)) (o:=0) (vs:=[(vI ((jX l r rs j).2))]) (es':=(List.map iC (j1 l r rs (j-1)))) (C':=[_,_,_,_,_,_,_,(own (some ⟨E,0,none⟩) rs.length 3 1 (List.map iC (j1 l r rs (j-1))))]) 7 U U U Cl U U U U hx25m U dc (by exact (List.map_set (f:=iC) (l:=(j1 l r rs j)) (i:=(j-1)) (a:=(jX l r rs j).2)).symm.trans (congrArg _ V)) U<|RK P<|au<|rP 4 [] (mc 0 U mn) ?_
  obtain ⟨y,hy⟩:=aF (cq l l.ab.length) (j-1) I
  have K:=bJ iC hy
  refine rS (IA (j-1) U (ax 3 U) dJ dc I I)<|rS (h_ (j-1) 0 (vI y) U bX (ax 3 U) K U dc U) ?_
  have C:=uY hy
  have AB:=m_ J D (i:=j-1) I
  rw [← C] at AB
  refine bx 2 U<|aD<|aK<|KK G<|au<|rP 3 [] mn ?_
  refine aD ?_
  have W:(vI ((jX l r rs (j-1)).2))=(vI (((jX l r rs j).2)-y)):=by exact cI (by rw [pB I hx]; simp only; unfold tn; rw [C]; (rw [if_neg A]; done))
  have X:(vI ((((j-1):Nat):Int)-1))=(vI (((j:Int)-1)-1)):=by exact cI I
  refine bj (F ⟨(j-1),(by first|omega|(simp only []; omega))⟩ _ _ _ U os (cN 4<|a_ U W<|a_ U X<|dh.nil _) (aN [0,1,2,3,4,5,6,7]))
 refine cW ck 12 kr<|dP 5 [] (mc 0 U mn) ?_
 refine dS (IA (j-1) U (ax 6 U) dJ dc I I)<|dS (h_ (j-1) 0 (vI x) U bX (ax 6 U) d U dc U) ?_
 have A7:=hrs x (aP hx) A
 obtain ⟨z,hz⟩:=aF (eY l r r.aa.length) ((x).toNat) I
 have A0:=bJ ai.cells hz
 refine dS (IA ((x).toNat) U (ax 4 U) lq dc I I)<|dS (oL ((((x).toNat)*2)+1) U (ax 4 U) (Nat.mul_pos I dc) eV U) ?_
 obtain ⟨s,hs,e⟩:=HW hz
 have AO:=xE l s
 rw [← e] at AO
 have Y:JS l r x=z.Hi:=by rw [Dz hs,e]
 refine dS (h_ ((x).toNat) 1 (vI z.Hi) U bX (ax 4 U) A0 U dc U)<|dS (MN U)<|kx 1 U<|cw<|RK H<|WS fun _ O=>rP 3 [] mn ?_
 obtain ⟨A8,Z⟩:=aF (j1 l r rs j) (j-1) I
 have hx19m:=bJ iC Z
 refine rS (IA (j-1) U (aL (n:=rs.length) 7 U sq) dJ dc I I) ?_
 have S:((j1 l r rs j).set (j-1) (min ((jX l r rs j).2) z.Hi))=(j1 l r rs (j-1)):=by (rw [← yM I hx]; congr 1; unfold tn; (rw [if_pos A,Y]; done))
 refine gp (k:=(j-1)) (o:=0) (vs:=[(vI (min ((jX l r rs j).2) z.Hi))]) (es':=(List.map iC (j1 l r rs (j-1)))) (C':=[_,_,_,_,_,_,_,(own (some ⟨E,0,none⟩) rs.length 3 1 (List.map iC (j1 l r rs (j-1))))]) 7 U U U Cl U U U U hx19m U dc (by exact (List.map_set (f:=iC) (l:=(j1 l r rs j)) (i:=(j-1)) (a:=(min ((jX l r rs j).2) z.Hi))).symm.trans (congrArg _ S)) U<|RK O<|au<|rP 4 [] (mc 0 U mn) ?_
 obtain ⟨y,hy⟩:=aF (cq l l.ab.length) (j-1) I
 have K:=bJ iC hy
 refine rS (IA (j-1) U (ax 3 U) dJ dc I I)<|rS (h_ (j-1) 0 (vI y) U bX (ax 3 U) K U dc U) ?_
 have C:=uY hy
 have AB:=m_ J D (i:=j-1) I
 rw [← C] at AB
 refine bx 2 U<|aD<|aK<|KK G<|au<|rP 3 [] mn ?_
 refine aD ?_
 have T:(vI ((jX l r rs (j-1)).2))=(vI ((min ((jX l r rs j).2) z.Hi)-y)):=by exact cI (by rw [pB I hx]; simp only; unfold tn; rw [C]; (rw [if_pos A,Y]; done))
 have AA:(vI ((((j-1):Nat):Int)-1))=(vI (((j:Int)-1)-1)):=by exact cI I
 refine bj (F ⟨(j-1),(by first|omega|(simp only []; omega))⟩ _ _ _ U os (cN 4<|a_ U T<|a_ U AA<|dh.nil _) (aN [0,1,2,3,4,5,6,7]))
end
section
open Go.RowKit
theorem FI (l:bo) (kA:OA) (kC:Nat) (az:List RA) (cA:OA) (cC:Nat) (bA:OA) (bC:Nat) (r:cx) (sgA:OA) (sgC:Nat) (vwA:OA) (vwC:Nat) (vtA:OA) (vtC:Nat) (vbA:OA) (vbC k:Nat) (rs:List Int) (rA:OA) (rC:Nat) (fs:List Int) (fA:OA) (fC:Nat) (hin:d_ l az) (hle:dM l=0) (hr:ei l r) (hk:rs.length+k=l.ab.length) (hfl:fs.length=rs.length) (hst:r.Start≤gv r.Start fs∧gv r.Start fs≤r.fP) (hrs: ∀ x∈rs,-1≤x∧x<(r.aa.length:Int)) (hrec: ∀ (k2:Nat) (rs2:List Int) (rA2:OA) (rC2:Nat) (fs2:List Int) (fA2:OA) (fC2:Nat),(k2<k)→(rs2.length+k2=l.ab.length)→(fs2.length=rs2.length)→(r.Start≤gv r.Start fs2∧gv r.Start fs2≤r.fP)→(∀ x∈rs2,-1≤x∧x<(r.aa.length:Int))→JP Tryz.prog 180 [(vA (cu.cells (jr l kA kC cA cC bA bC))),(vA (de.cells (im r sgA sgC))),(vA (iT.cells (iT.mk (bK.mk vwA ((cq l l.ab.length).length) vwC) (bK.mk vtA ((eY l r r.aa.length).length) vtC) (bK.mk vbA ((fD l r r.aa.length).length) vbC)))),(vS rA2 rs2.length rC2),(vS fA2 fs2.length fC2)] [(rd kA l.aO.length 9 (l.aO.map aq.cells)),(rd cA l.aj.length 2 (List.zipWith av.cells l.aj az)),(dL (bk av.fu l.aj az)),(rd bA l.ab.length 4 (l.ab.map bL.cells)),(rd sgA r.aa.length 2 (r.aa.map aH.cells)),(rd vwA ((cq l l.ab.length).length) 1 ((cq l l.ab.length).map iC)),(rd vtA ((eY l r r.aa.length).length) 2 ((eY l r r.aa.length).map ai.cells)),(rd vbA ((fD l r r.aa.length).length) 1 ((fD l r r.aa.length).map kQ))] (bS [own rA2 rC2 3 1 (rs2.map iC),own fA2 fC2 3 1 (fs2.map iC)]) (fun (x:(OA)×Nat×(List kK))=>(vS x.1 ((iD l r k2 rs2 fs2).length) x.2.1)) (fun (x:(OA)×Nat×(List kK))=>x.2.2.length=(iD l r k2 rs2 fs2).length) (fun (x:(OA)×Nat×(List kK))=>(bS (bk dj.owns (iD l r k2 rs2 fs2) x.2.2++[own x.1 x.2.1 249 3 (List.zipWith dj.cells (iD l r k2 rs2 fs2) x.2.2)])))):
 JP Tryz.prog 180 [(vA (cu.cells (jr l kA kC cA cC bA bC))),(vA (de.cells (im r sgA sgC))),(vA (iT.cells (iT.mk (bK.mk vwA ((cq l l.ab.length).length) vwC) (bK.mk vtA ((eY l r r.aa.length).length) vtC) (bK.mk vbA ((fD l r r.aa.length).length) vbC)))),(vS rA rs.length rC),(vS fA fs.length fC)] [(rd kA l.aO.length 9 (l.aO.map aq.cells)),(rd cA l.aj.length 2 (List.zipWith av.cells l.aj az)),(dL (bk av.fu l.aj az)),(rd bA l.ab.length 4 (l.ab.map bL.cells)),(rd sgA r.aa.length 2 (r.aa.map aH.cells)),(rd vwA ((cq l l.ab.length).length) 1 ((cq l l.ab.length).map iC)),(rd vtA ((eY l r r.aa.length).length) 2 ((eY l r r.aa.length).map ai.cells)),(rd vbA ((fD l r r.aa.length).length) 1 ((fD l r r.aa.length).map kQ))] (bS [own rA rC 3 1 (rs.map iC),own fA fC 3 1 (fs.map iC)]) (fun (x:(OA)×Nat×(List kK))=>(vS x.1 ((iD l r k rs fs).length) x.2.1)) (fun (x:(OA)×Nat×(List kK))=>x.2.2.length=(iD l r k rs fs).length) (fun (x:(OA)×Nat×(List kK))=>(bS (bk dj.owns (iD l r k rs fs) x.2.2++[own x.1 x.2.1 249 3 (List.zipWith dj.cells (iD l r k rs fs) x.2.2)]))):=by
 have R4:=hin.qm
 have Pw:=hin.qj
 have Pl:=hin.mq
 have Pt:=hin.qi
 obtain ⟨Ms,Go⟩:=dK hle
 have Li:=Go.head
 unfold eT at Li
 have A1:=hr.len
 have R1:=hr.time
 have R0:=cS (l:=l) (n:=l.ab.length)
 have R5:=rE (l:=l) (Nat.le_refl r.aa.length)
 have R3:=uX (l:=l) (Nat.le_refl r.aa.length)
 have R6:=sX rs
 refine uK kr Tryz.func180 U U fun w0 Q hQ hN=>?_
 try dsimp only
 refine BD 0 U U fun wz Sz hz=>?_
 try dsimp only
 refine WS fun _ K0=>ed U fun b2=>ed U fun b3=>ed U fun b4=>bx 1 U<|RK K0<|WS fun _ K4=>bx 1 U<|RK K4<|WS fun _ K5=>bx 4 U<|RK K5<|ak fun _ K8=>WS fun _ LE=>rP 1 [] mn ?_
 refine RK LE<|aC ?_
 have C:(0≤rs.length):=by exact Nat.zero_le _
 have LT:(vI ((dq (rs.take 0)).right))=(vI 0):=by rfl
 refine bQ (ι:={z:Nat // (z≤rs.length)}) [3,4,5,6,7,11,12] [0,1,2,3,4,5,6,7,8,9,10,11] U U (fun z=>[(13,(vI ((dq (rs.take z.1)).right))),(14,(vI (z.1:Int)))]) (fun z=>[]) (fun _=>rfl) (fun _=>rfl) (fun z=>rs.length-z.1) ⟨0,C⟩ (a_ U LT<|bu U) (aN [0,1,2,3,4,5,6,7,8,9,10,11]) ?_
 clear C
 rintro ⟨i,Lw⟩ J10 g
 try dsimp only
 have L2:=sX (rs.take i)
 rw [List.length_take] at L2
 refine ak fun _ A4=>WS fun _ A5=>rP 3 [] mn ?_
 refine RK A5<|cr U (aT fun J5=>?_) (aS fun J5=>?_)
 ·refine WK A4<|ak fun _ h=>aC<|WS fun _ A6=>rP 2 [] mn ?_
  obtain ⟨x,hx⟩:=aF rs i I
  have M0:=bJ iC hx
  refine rS (IA i U (show hH _ (rd rA rs.length 1 (rs.map iC)).holds from (pR (c:=rC) (e:=3) 3 U sm sm)) dJ dc I I)<|rS (h_ i 0 (vI x) U bX (show hH _ (rd rA rs.length 1 (rs.map iC)).holds from (pR (c:=rC) (e:=3) 3 U sm sm)) M0 U dc U)<|rP 1 [] mn ?_
  refine RK A6<|bO U (aS fun AO=>?_) (aT fun AO=>?_)
  ·refine cp<|aK<|KK h<|au<|rP 3 [] mn ?_
   refine aD ?_
   have Di:(vI ((dq (rs.take (i+1))).right))=(vI ((dq (rs.take i)).right)):=by exact cI (by rw [tG hx]; (rw [if_neg AO]; exact Int.add_zero _))
   have Do:(vI (((i+1):Nat):Int))=(vI ((i:Int)+1)):=by exact cI I
   refine bj (g ⟨(i+1),(by first|omega|(simp only []; omega))⟩ _ _ _ U os (cN 7<|a_ U Di<|a_ U Do<|dh.nil _) (aN [0,1,2,3,4,5,6,7,8,9,10,11]))
  refine au<|bx 3 U<|aD<|aK<|KK h<|au<|rP 3 [] mn ?_
  refine aD ?_
  have DE:(vI ((dq (rs.take (i+1))).right))=(vI (((dq (rs.take i)).right)+1)):=by exact cI (by rw [tG hx]; (rw [if_pos AO]; done))
  have DW:(vI (((i+1):Nat):Int))=(vI ((i:Int)+1)):=by exact cI I
  refine bj (g ⟨(i+1),(by first|omega|(simp only []; omega))⟩ _ _ _ U os (cN 7<|a_ U DE<|a_ U DW<|dh.nil _) (aN [0,1,2,3,4,5,6,7,8,9,10,11]))
 refine bM<|ag<|ag<|aG<|KK K8<|ak fun _ A7=>ak fun _ A8=>?_
 rw [show rs.take i=rs from List.take_of_length_le I]
 refine au<|rP 6 [] (mc 2 U mn) ?_
 refine RK A8<|cr U (aT fun J7=>?_) (aS fun J7=>?_)
 ·refine WS fun _ A9=>jQ 249 3<|rP 1 [] mn ?_
  refine RK A9<|ao<|zN (C1:=[(own none 0 249 3 [])]) hz [0] U U U<|Om (W:=iD l r k rs fs) ?_
  rw [show (own none 0 249 3 [])=(own none 0 249 3 (List.zipWith dj.cells (iD l r k rs fs) [])) from by rw [ny I]; rfl]
  refine LM hQ (none,0,[]) 0 [] mn U (by show List.all _ _=true; rw [List.all_append,pA]; rfl) U ?_ ?_
  ·exact (by rw [ny I]; rfl)
  ·rw [ny I]; rfl
 refine WK A7 ?_
 refine oa (ι:={z:(OA)×Nat×(List kK)×(List aA) // (x5 l r rs fs (rA,rC) (fA,fC) z.2.2.1 z.2.2.2)}) [3,4,5,6,7,12] [0,1,2,3,4,5,6,7,8,9,10,11] U U (fun z=>[(11,(vS z.1.1 ((hZ l r rs fs).length) z.1.2.1))]) (fun z=>[(own z.1.1 z.1.2.1 249 3 (List.zipWith dj.cells (hZ l r rs fs) z.1.2.2.1)),(bS z.1.2.2.2)]) (fun _=>rfl) (fun _=>rfl) ?_ fun K23 m=>?_
 ·rintro ⟨⟨oA,oC,E,LA⟩,H⟩
  try dsimp only at H
  try dsimp only
  have D:=H
  have Lk:=D.len
  have QI:=w6 (l:=l) (r:=r) (rs:=rs) (fs:=fs)
  refine ak fun _ V=>WS fun _ Bv=>rP 4 [] (mc 2 U mn) ?_
  have R7:=uD (l:=l) (r:=r) (rs:=rs) (fs:=fs) A1 (k:=k) I
  refine rP 1 [] mn ?_
  refine RK Bv<|cr U (aT fun J8=>?_) (aS fun J8=>?_)
  ·refine WS fun _ B3=>bx 1 U<|rP 1 [] mn ?_
   refine RK B3<|ao ?_
   obtain rfl:k=0:=by omega
   refine Da ?_
   try dsimp only
   refine zN (C1:=[(own oA oC 249 3 (List.zipWith dj.cells (hZ l r rs fs) E)),(bS LA),(bS (bk dj.owns [] []))]) hz [13,14,0] U U (by simp only [eH,List.all_nil,Bool.and_true,di]; exact ⟨U,D.wr,pA _ _⟩) ?_
   refine HU (ra:=(rA,rC)) (fa:=(fA,fC)) (A':=(own oA oC 249 3 (List.zipWith dj.cells (iD l r 0 rs fs) E))) D ((List.append_nil _).trans (nJ I).symm) (List.append_nil _) (by rw [nJ I]) ?_
   refine LM hQ (oA,oC,E) 0 [] mn U (by show List.all _ _=true; rw [List.all_append,pA]; rfl) U ?_ ?_
   ·exact (by (rw [nJ I]; rfl))
   ·rw [nJ I]; exact Lk
  refine WK V<|WS fun _ B9=>?_
  obtain ⟨B,rfl⟩: ∃ B,k=B+1:=⟨k-1,I⟩
  refine rP 3 [] (mc 1 U mn) ?_
  refine RK B9 ?_
  refine oa (ι:=Unit) [3,4,5,6,7,11,12] [0,1,2,3,4,5,6,7,8,9,10,11,12,13] U U (fun z=>[(15,(vI (gv r.Start fs)))]) (fun z=>[]) (fun _=>rfl) (fun _=>rfl) ?_ fun K28 o=>?_
  ·intro _
   try dsimp only
   refine WS fun _ Z=>rP 4 [] (mc 0 U mn) ?_
   obtain ⟨yls,H1⟩:=aF (cq l l.ab.length) (rs.length) I
   have IO:=bJ iC H1
   refine rS (IA rs.length U (ax 9 U) dJ dc I I)<|rS (h_ rs.length 0 (vI yls) U bX (ax 9 U) IO U dc U) ?_
   have RT:=m_ Ms Go (i:=rs.length) I
   rw [uY H1]
   refine bx 2 U<|RK Z<|ak fun _ Ci=>WS fun _ Ck=>rP 1 [] mn ?_
   refine RK Ck<|aC ?_
   rw [show (hZ l r rs fs)=((hZ l r rs fs)++(iI l r B rs fs 0)) from (List.append_nil _).symm]
   rw [show E=E++[] from (List.append_nil _).symm]
   refine mP ?_
   try dsimp only
   have C:(0≤r.aa.length+1)∧(([]:List kK).length=(iI l r B rs fs 0).length):=by exact ⟨Nat.zero_le _,rfl⟩
   have d:(vI ((0:Int)-1))=(vI (-1)):=by exact cI I
   refine bQ (ι:={z:Nat×(OA)×Nat×(List kK) // (z.1≤r.aa.length+1)∧(z.2.2.2.length=(iI l r B rs fs z.1).length)}) [3,4,5,6,7,12,15] [1,2,3,4,5,6,7,8,9,10,11,12,14] U U (fun z=>[(11,(vS z.1.2.1 (((hZ l r rs fs)++(iI l r B rs fs z.1.1)).length) z.1.2.2.1)),(16,(vI ((z.1.1:Int)-1)))]) (fun z=>[(bS (bk dj.owns (iI l r B rs fs z.1.1) z.1.2.2.2)),(own z.1.2.1 z.1.2.2.1 249 3 (List.zipWith dj.cells ((hZ l r rs fs)++(iI l r B rs fs z.1.1)) (E++z.1.2.2.2)))]) (fun _=>rfl) (fun _=>rfl) (fun z=>r.aa.length+1-z.1.1) ⟨(0,oA,oC,([]:List kK)),C⟩ (dh.cons U<|a_ U d<|dh.nil _) (aN [1,2,3,4,5,6,7,8,9,10,11,12,14,0,13]) ?_
   clear C
   rintro ⟨⟨j,M,N,azW⟩,⟨f,A⟩⟩ J33 O
   try dsimp only at f A
   try dsimp only
   have L3:=IG (l:=l) (r:=r) (k:=B) (j:=j) (rs:=rs) (fs:=fs) A1 I I
   refine ak fun _ Cp=>WS fun _ Cx=>rP 5 [] (mc 1 U mn) ?_
   refine RK Cx<|bO U (aS fun J6=>?_) (aT fun J6=>?_)
   ·refine bM<|ag<|ag<|aG<|KK Ci<|WS fun _ C3=>bx 1 U<|rP 1 [] mn ?_
    refine RK C3<|ao ?_
    refine zN (C1:=[(own M N 249 3 (List.zipWith dj.cells ((hZ l r rs fs)++(iI l r B rs fs j)) (E++azW))),(bS LA),(bS (bk dj.owns (iI l r B rs fs j) azW))]) hz [14,12,13] U U (by simp only [eH,List.all_nil,Bool.and_true,di]; exact ⟨U,D.wr,pA _ _⟩) ?_
    refine HU (ra:=(rA,rC)) (fa:=(fA,fC)) (W:=iD l r (B+1) rs fs) (A':=(own M N 249 3 (List.zipWith dj.cells (iD l r (B+1) rs fs) (E++azW)))) D (by rw [nF I,rm,show r.aa.length+1=j by omega]) U (by rw [nF I,rm,show r.aa.length+1=j by omega]) ?_
    refine LM hQ (M,N,(E++azW)) 0 [] mn U (by show List.all _ _=true; rw [List.all_append,pA]; rfl) U ?_ ?_
    ·exact (by (rw [nF I,rm,show r.aa.length+1=j by omega]; rfl))
    ·rw [nF I,rm,show r.aa.length+1=j by omega]; simp only [List.length_append]; omega
   refine WK Cp<|ak fun _ P=>aC<|ak fun _ C0=>cW ck 5 kr<|dP 5 [] (mc 1 U mn) ?_
   refine cw<|RK C0 ?_
   refine oa (ι:={z:Int×Int // ((z.1≤z.2→oT l r rs.length (gv r.Start fs+ej l rs.length) ((j:Int)-1)=some z.1)∧(¬ z.1≤z.2→oT l r rs.length (gv r.Start fs+ej l rs.length) ((j:Int)-1)=none))∧(r.Start≤z.1∧z.2≤r.fP)}) [3,4,5,6,7,11,12,15,16] [0,1,2,3,4,5,6,7,8,9,10,11,12,13,14] U U (fun z=>[(17,(vI z.1.1)),(18,(vI z.1.2))]) (fun z=>[]) (fun _=>rfl) (fun _=>rfl) ?_ fun K39 p=>?_
   ·rintro ⟨⟨tt,ee⟩,⟨AD,J⟩⟩
    try dsimp only at AD J
    try dsimp only
    have GY:=AD
    have Qr:=J
    refine WS fun _ a=>rP 3 [] mn ?_
    refine RK a<|bO U (aS fun AA=>?_) (aT fun AA=>?_)
    ·refine cp<|aK<|KK P<|au<|rP 3 [] mn ?_
     refine aD ?_
     have L:(iI l r B rs fs (j+1))=(iI l r B rs fs j):=by exact qQ (GY.2 AA)
     rw [← L]
     have GE:(vI ((((j+1):Nat):Int)-1))=(vI (((j:Int)-1)+1)):=by exact cI I
     refine bj (O ⟨((j+1),M,N,azW),⟨I,by dsimp only; (rw [L]; exact A)⟩⟩ _ _ _ U os (cN 8<|a_ U GE<|dh.nil _) (aN [0,1,2,3,4,5,6,7,8,9,10,11,12,13,14]))
    refine QR (L':=[(3,(vS rA rs.length rC)),(4,(vS fA fs.length fC)),(5,(vP b2)),(6,(vP b3)),(7,(vP b4)),(11,(vS M (((hZ l r rs fs)++(iI l r B rs fs j)).length) N)),(12,(vI (rs.length:Int))),(15,(vI ((gv r.Start fs)+(ej l rs.length)))),(16,(vI ((j:Int)-1))),(17,(vI tt)),(18,(vI ee)),(123,(vI tt)),(124,(vI ee)),(125,(vB (decide (tt≤ee))))]) rfl<|mx ck [0,1,2,3,5,7,11,13] [4,6,8,9,10,12,14,15,16,17,18] [false,false,false,false,false,false,false,false] [] [(cy b4 284 (iT.cells (iT.mk (bK.mk vwA ((cq l l.ab.length).length) vwC) (bK.mk vtA ((eY l r r.aa.length).length) vtC) (bK.mk vbA ((fD l r r.aa.length).length) vbC)))),(cy b3 61 (de.cells (im r sgA sgC))),(cy b2 28 (cu.cells (jr l kA kC cA cC bA bC))),(bS [own rA rC 3 1 (rs.map iC),own fA fC 3 1 (fs.map iC)]).ro,(rd kA l.aO.length 9 (l.aO.map aq.cells)).ro,(rd cA l.aj.length 2 (List.zipWith av.cells l.aj az)).ro,(dL (bk av.fu l.aj az)).ro,(rd bA l.ab.length 4 (l.ab.map bL.cells)).ro,(rd sgA r.aa.length 2 (r.aa.map aH.cells)).ro,(rd vwA ((cq l l.ab.length).length) 1 ((cq l l.ab.length).map iC)).ro,(rd vtA ((eY l r r.aa.length).length) 2 ((eY l r r.aa.length).map ai.cells)).ro,(rd vbA ((fD l r r.aa.length).length) 1 ((fD l r r.aa.length).map kQ)).ro,(bS LA),(bS (bk dj.owns (iI l r B rs fs j) azW))] [] kr (aN [0,1,2,3,4,5,6,7,8,9,10,11,12,13]) (aN [])<|eS rfl (MV rfl)<|eS rfl (LW 2 rfl bX rfl rfl)<|eS rfl (LW 1 rfl bX rfl rfl)<|eS rfl (LW 0 rfl bX rfl rfl)<|eS rfl (MV rfl)<|eS rfl (MV rfl)<|eS rfl (MV rfl)<|eS rfl (MV rfl)<|eo rfl<|LL [.take 4,.op 6,.take 8,.op 9,.take 10,.op 12,.take 14,.op 15,.op 16,.op 17,.op 18] [(133,(vI ((j:Int)-1))),(139,(vI tt))] (fun i=>match i with |4=>130|8=>134|10=>136|14=>140|_=>0) (fun i b=>match i with |4=> .slice (some ⟨b,0,none⟩) 0 0|8=> .slice (some ⟨b,0,none⟩) 1 1|10=> .slice (some ⟨b,0,none⟩) 0 0|14=> .slice (some ⟨b,0,none⟩) 1 1|_=>undef) (fun i b=>match i with |4=>cy b 3 []|8=>cy b 3 [(vI ((j:Int)-1))]|10=>cy b 3 []|14=>cy b 3 [(vI tt)]|_=>cy b 0 []) rfl rfl rfl kr rfl rfl (aN [0,1,2,3,4,5,6,7,8,9,10,11,12,13]) (vY (Jv rfl dJ rfl rfl (fun _=>rfl) fun _=>rfl)<|x8<|vY (L_ (xs:=[.tmp 133]) (cs:=[(vI ((j:Int)-1))]) rfl dJ kJ rfl rfl rfl rfl (by simp [Value.cells]) rfl rfl rfl (fun _=>rfl) fun _=>rfl)<|x8<|vY (Jv rfl dJ rfl rfl (fun _=>rfl) fun _=>rfl)<|x8<|vY (L_ (xs:=[.tmp 139]) (cs:=[(vI tt)]) rfl dJ kJ rfl rfl rfl rfl (by simp [Value.cells]) rfl rfl rfl (fun _=>rfl) fun _=>rfl)<|x8<|x8<|x8<|x8<|OR) ?_
    intro Ji
    try dsimp only
    refine wP U fun Y X K hT=>iH (es:=(List.map iC [])) (C':=[own (some ⟨Ji,0,none⟩) 0 3 1 (List.map iC []),_,_,_,_,_,_,_,_,_,_,_,_,_,_,_]++X) 0 U sm U (by simp [maxLen]) U ?_
    refine dA (es2:=(List.map iC rs)) (m':=rs.length) 0 U U U qz U U sm (show hH _ (rd rA rs.length 1 (rs.map iC)).holds from (pR (c:=rC) (e:=3) 4 U sm sm)) (kG _) (by first|omega|(simp; done)|(simp; omega)) (by (simp only [maxLen]; omega)) sm sm U fun OT PP=>?_
    try dsimp only
    refine sk hT 24 16 U U (fun w hs=>St.lh [1,2,3,4,5,6,7,8,9,10,11,12,13,14] U U hs) U U ?_
    try dsimp only [List.take]
    intro Or
    try dsimp only
    refine wP U fun Y X K hT=>?_
    refine dA (es2:=(List.map iC (rs++[(j:Int)-1]))) (m':=(rs++[(j:Int)-1]).length) 1 U U U qz U U sm (bq (es:=List.map iC [((j:Int)-1)]) 0 U U (by simp [bU]) U) (kG _) (by first|omega|(simp; done)|(simp; omega)) (by (simp only [maxLen]; omega)) sm sm U fun If J2=>?_
    try dsimp only
    refine sk hT 26 17 U U (fun w hs=>St.lh [2,3,4,5,6,7,8,9,10,11,12,13,14,15] U U hs) U U ?_
    try dsimp only [List.take]
    intro Jr
    try dsimp only
    refine wP U fun Y X K hT=>iH (es:=(List.map iC [])) (C':=[own (some ⟨Jr,0,none⟩) 0 3 1 (List.map iC []),_,_,_,_,_,_,_,_,_,_,_,_,_,_,_,_,_]++X) 0 U sm U (by simp [maxLen]) U ?_
    refine dA (es2:=(List.map iC fs)) (m':=fs.length) 0 U U U qz U U sm (show hH _ (rd fA fs.length 1 (fs.map iC)).holds from (pR (c:=fC) (e:=3) 6 U sm sm)) (kG _) (by first|omega|(simp; done)|(simp; omega)) (by (simp only [maxLen]; omega)) sm sm U fun Oa Pi=>?_
    try dsimp only
    refine sk hT 28 18 U U (fun w hs=>St.lh [3,4,5,6,7,8,9,10,11,12,13,14,15,16] U U hs) U U ?_
    try dsimp only [List.take]
    intro Os
    try dsimp only
    refine wP U fun Y X K hT=>?_
    refine dA (es2:=(List.map iC (fs++[tt]))) (m':=(fs++[tt]).length) 1 U U U qz U U sm (bq (es:=List.map iC [tt]) 0 U U (by simp [bU]) U) (kG _) (by first|omega|(simp; done)|(simp; omega)) (by (simp only [maxLen]; omega)) sm sm U fun In J3=>?_
    try dsimp only
    refine sk hT 30 19 U U (fun w hs=>St.lh [4,5,6,7,8,9,10,11,12,13,14,15,16,17] U U hs) U U ?_
    try dsimp only [List.take]
    refine wP U fun Y X K hT=>?_
    have R:=GY.1 AA
    refine sv<|rf 4 U ?_
    try dsimp only [List.eraseIdx]
    refine zq U<|rf 2 U ?_
    try dsimp only [List.eraseIdx]
    refine zq U ?_
    try dsimp only
    refine ob 0 rfl rfl rfl rfl (hrec B (rs++[(j:Int)-1]) If J2 (fs++[tt]) In J3 I (by simp only [List.length_append,List.length_singleton]; omega) (by simp only [List.length_append,List.length_singleton]; omega) (by rw [nk]; omega) (by intro x hx; rcases gL.1 hx with hx|hx; exact hrs x hx; rw [cv.1 hx]; omega)) rfl (ep 7 rfl rfl (dI (bY _)) (ep 8 rfl rfl (dI (bY _)) (ep 9 rfl rfl (dI (bY _)) (ep 10 rfl rfl (dI (bY _)) (ep 11 rfl rfl (dI (bY _)) (ep 12 rfl rfl (dI (bY _)) (ep 13 rfl rfl (dI (bY _)) (ep 14 rfl rfl (dI (bY _)) qZ)))))))) rfl (fun NE A2=>?_)
    obtain ⟨OG,OQ,v⟩:=NE
    try dsimp only
    dsimp only at A2
    refine sk hT 31 18 U U (fun w hs=>St.lh [3,4,5,6,7,8,9,10,11,12,13,14,15,16] U U hs) U U ?_
    try dsimp only [List.take]
    refine wP U fun Y X K hT=>rf 0 U ?_
    try dsimp only [List.eraseIdx]
    refine yN ?_
    have R8:=uD (l:=l) (r:=r) (k:=B) (rs:=(rs++[(j:Int)-1])) (fs:=(fs++[tt])) A1 I
    refine dA (es2:=(List.zipWith dj.cells ((hZ l r rs fs)++(iI l r B rs fs (j+1))) (E++(azW++v)))) (m':=((hZ l r rs fs)++(iI l r B rs fs (j+1))).length) 18 U U U Mh U U (my (by simp only [List.length_append]; omega)).symm (aL (n:=(iD l r B (rs++[(j:Int)-1]) (fs++[tt])).length) 0 U (my A2)) (AB _ _) (by simp only [List.length_append]; omega) (by simp only [List.length_append,maxLen]; omega) (by rw [m8 R,← List.append_assoc,← List.append_assoc]; exact (Jd (by simp only [List.length_append]; omega)).symm) (my (by rw [m8 R]; simp only [List.length_append]; omega)) U fun Jb J4=>?_
    try dsimp only
    refine sk hT 32 19 U U (fun w hs=>St.lh [4,5,6,7,8,9,10,11,12,13,14,15,16,17] U U hs) U U ?_
    try dsimp only [List.take]
    refine wP U fun Y X K hT=>rS (AG U)<|sk hT 33 19 U U (fun w hs=>St.lh [4,5,6,7,8,9,10,11,12,13,14,15,16,17] U U hs) U U ?_
    try dsimp only [List.take]
    refine aK<|KK P<|au<|rP 3 [] mn ?_
    refine aD<|D3 1 U ?_
    try dsimp only [List.eraseIdx]
    refine D3 17 U ?_
    try dsimp only [List.eraseIdx]
    refine Io A ?_
    rw [← m8 R]
    try dsimp only
    have Fn:(vI ((((j+1):Nat):Int)-1))=(vI (((j:Int)-1)+1)):=by exact cI I
    refine bj (O ⟨((j+1),Jb,J4,(azW++v)),⟨I,by dsimp only; (rw [m8 R,List.length_append,List.length_append,A,A2])⟩⟩ _ _ _ U os (cN 8<|a_ U Fn<|dh.nil _) (aN [4,5,6,7,8,9,10,11,12,13,14,15,16,0,17]))
   refine WS fun _ a=>rP 2 [] mn ?_
   refine RK a<|bO U (aS fun KV=>?_) (aT fun KV=>?_)
   ·refine cp ?_
    refine bj (jY (bu U) (aN [0,1,2,3,4,5,6,7,8,9,10,11,12,13,14]) (p ⟨(((gv r.Start fs)+(ej l rs.length)),r.fP),⟨by exact Jk I,I⟩⟩))
   refine ak fun _ C2=>WS fun _ u=>rP 3 [] (mc 1 U mn) ?_
   obtain ⟨s,hs⟩:=aF r.aa ((((j:Int)-1)).toNat) I
   have L0:=bJ aH.cells hs
   refine rS (IA ((((j:Int)-1)).toNat) U (ax 8 U) xp dc I I)<|rS (oL (((((j:Int)-1)).toNat)*2) U (ax 8 U) (Nat.mul_pos I dc) eV U)<|rS (h_ ((((j:Int)-1)).toNat) 0 (vI s.fz) U bX (ax 8 U) L0 U dc U) ?_
   have R2:=(hr.sig _ s hs).1
   refine rP 3 [] mn ?_
   refine bP (t:=99) U (aW fun A3=>?_) (aV fun A3=>?_)
   ·refine bx 7 U<|RK u<|aI U<|bM<|ag<|ag<|aG<|KK P<|au<|rP 3 [] mn ?_
    refine aD ?_
    have L:(iI l r B rs fs (j+1))=(iI l r B rs fs j):=by exact qQ (xu I hs (fun q=>A3 I))
    rw [← L]
    have FS:(vI ((((j+1):Nat):Int)-1))=(vI (((j:Int)-1)+1)):=by exact cI I
    refine bj (O ⟨((j+1),M,N,azW),⟨I,by dsimp only; (rw [L]; exact A)⟩⟩ _ _ _ U os (cN 8<|a_ U FS<|dh.nil _) (aN [0,1,2,3,4,5,6,7,8,9,10,11,12,13,14]))
   refine rP 3 [] (mc 0 U mn) ?_
   obtain ⟨bs,A0⟩:=aF (fD l r r.aa.length) ((((j:Int)-1)).toNat) I
   have GT:=bJ kQ A0
   refine rS (IA ((((j:Int)-1)).toNat) U (ax 11 U) Et dc I I)<|rS (h_ ((((j:Int)-1)).toNat) 0 (vB bs) U bX (ax 11 U) GT U dc U)<|rP 2 [] mn ?_
   refine RK u<|cr U (fun F=>?_) (fun F=>?_)
   ·rw [Bool.not_eq_true'] at F
    refine bM<|ag<|ag<|aG<|KK P<|au<|rP 3 [] mn ?_
    refine aD ?_
    have L:(iI l r B rs fs (j+1))=(iI l r B rs fs j):=by exact qQ (xu I hs (fun q=>by rw [(Ba hs A0).2 q.2] at F; cases F))
    rw [← L]
    have Fd:(vI ((((j+1):Nat):Int)-1))=(vI (((j:Int)-1)+1)):=by exact cI I
    refine bj (O ⟨((j+1),M,N,azW),⟨I,by dsimp only; (rw [L]; exact A)⟩⟩ _ _ _ U os (cN 8<|a_ U Fd<|dh.nil _) (aN [0,1,2,3,4,5,6,7,8,9,10,11,12,13,14]))
   rw [Bool.not_eq_false'] at F
   refine WK C2<|cW ck 18 kr<|dP 4 [] (mc 0 U mn) ?_
   obtain ⟨z,hz⟩:=aF (eY l r r.aa.length) ((((j:Int)-1)).toNat) I
   have IR:=bJ ai.cells hz
   refine dS (IA ((((j:Int)-1)).toNat) U (ax 10 U) lq dc I I)<|dS (oL (((((j:Int)-1)).toNat)*2) U (ax 10 U) (Nat.mul_pos I dc) eV U) ?_
   have Id:=Hz hs hz
   have M2:=xE l s
   rw [← Id] at M2
   have La:(dg l s).Lo≤(dg l s).Hi:=(Ba hs A0).1 F
   refine dS (h_ ((((j:Int)-1)).toNat) 0 (vI z.Lo) U bX (ax 10 U) IR U dc U)<|dS (MX U)<|kv 4 [] (mc 0 U mn) U<|dS (IA ((((j:Int)-1)).toNat) U (ax 10 U) lq dc I I)<|dS (oL ((((((j:Int)-1)).toNat)*2)+1) U (ax 10 U) (Nat.mul_pos I dc) eV U)<|dS (h_ ((((j:Int)-1)).toNat) 1 (vI z.Hi) U bX (ax 10 U) IR U dc U)<|dS (MN U)<|dP 2 [] mn ?_
   refine cw<|aD ?_
   refine bj (jY (bu U) (aN [0,1,2,3,4,5,6,7,8,9,10,11,12,13,14]) (p ⟨((max ((gv r.Start fs)+(ej l rs.length)) z.Lo),(min r.fP z.Hi)),⟨by (rw [Id]; exact Jc I hs I La),I⟩⟩))
  refine WS fun _ Z=>rP 2 [] mn ?_
  refine RK Z<|bO U (aS fun J9=>?_) (aT fun J9=>?_)
  ·refine cp ?_
   have Eq:(vI (gv r.Start fs))=(vI r.Start):=by exact cI (by have e:fs=[]:=ig I; rw [e]; rfl)
   refine bj (jY (cN 7<|a_ U Eq<|dh.nil _) (aN [0,1,2,3,4,5,6,7,8,9,10,11,12,13]) (o ()))
  refine au<|rP 3 [] mn ?_
  obtain ⟨xf,HY⟩:=aF fs (rs.length-1) I
  have Ho:=bJ iC HY
  refine rS (IA (rs.length-1) U (show hH _ (rd fA fs.length 1 (fs.map iC)).holds from (pR (c:=fC) (e:=3) 3 U sm sm)) dJ dc I I)<|rS (h_ (rs.length-1) 0 (vI xf) U bX (show hH _ (rd fA fs.length 1 (fs.map iC)).holds from (pR (c:=fC) (e:=3) 3 U sm sm)) Ho U dc U)<|rP 1 [] mn ?_
  refine aD ?_
  have EQ:(vI (gv r.Start fs))=(vI xf):=by exact cI (Bb _ _ _ (by rw [hfl]; exact HY))
  refine bj (jY (cN 7<|a_ U EQ<|dh.nil _) (aN [0,1,2,3,4,5,6,7,8,9,10,11,12,13]) (o ()))
 refine WS fun _ V=>rP 8 [0,1] (mc 1 U (mc 2 U mn)) ?_
 refine RK V<|bO U (aS fun G=>?_) (aT fun G=>?_)
 ·refine cp<|Da<|Fx 249 3 ?_
  rw [show (own none 0 249 3 [])=(own none 0 249 3 (List.zipWith dj.cells (hZ l r rs fs) [])) from by rw [wL G]; rfl]
  have FP:(vS none ((hZ l r rs fs).length) 0)=(vS none 0 0):=by first|rfl|(rw [wL G]; rfl)
  refine bj (jY (cN 6<|a_ U FP<|dh.nil _) (aN [2,3,4,5,6,7,8,9,10,11,12,13,0,1]) (m ⟨(none,0,[],[]),(by exact .inr ⟨G,U,U⟩)⟩))
 refine au<|rP 6 [0,1] (mc 1 U (mc 0 U mn)) ?_
 refine cX (GZ r sgA sgC l vwA vwC vtA vtC vbA vbC rs rA rC hle hr I (by exact fun x hx h0=>(hrs x hx).2)) (lW [8,9,10,11]<|aQ (show hH _ (rd rA rs.length 1 (rs.map iC)).holds from (pR (c:=rC) (e:=3) 3 U sm sm))<|aR) U fun M3 OF=>?_
 obtain ⟨S,T⟩:=M3
 try dsimp only
 refine rS (SX (bG (xs:=[(0,.tmp 48),(1,.tmp 49),(2,.tmp 53)]) (cs:=(x3.cells (x3.mk (bK.mk rA rs.length rC) (bK.mk fA fs.length fC) (bK.mk S ((jG l r rs).length) T)))) U U (bH Qa U)) U U)<|eP (xs:=[.tmp 54]) (cs:=(x3.cells (x3.mk (bK.mk rA rs.length rC) (bK.mk fA fs.length fC) (bK.mk S ((jG l r rs).length) T)))) U Ak Rc U U U U (by simp [Value.cells,x3.bB]) U U fun Op=>jQ 249 3 ?_
 refine dA (es2:=(List.zipWith dj.cells (hZ l r rs fs) ([((rA,rC),(fA,fC),(S,T))]))) (m':=(hZ l r rs fs).length) 0 rfl rfl rfl Mh rfl rfl rfl (bq (es:=List.zipWith dj.cells [(dj.mk rs fs (jG l r rs))] [((rA,rC),(fA,fC),(S,T))]) 1 rfl rfl (by intro e he; simp at he; subst he; rfl) rfl) (AB _ _) dc dc (by rw [yY G]; rfl) (by rw [yY G]; rfl) rfl fun y AC=>?_
 try dsimp only
 refine sv<|Ra 0 3 U U U ?_
 try dsimp only
 refine rP 1 [] mn ?_
 refine aD ?_
 have d:(vS y ((hZ l r rs fs).length) AC)=(vS y ((hZ l r rs fs).length) AC):=by first|rfl|(rw [wL G]; rfl)
 refine bj (jY (cN 6<|a_ U d<|dh.nil _) (aN [3,4,5,6,7,8,9,10,11,12,13,14,1,0]) (m ⟨(y,AC,[((rA,rC),(fA,fC),(S,T))],[(own S T 3 1 ((jG l r rs).map iC))]),(by exact .inl ⟨G,_,U,U⟩)⟩))
theorem NH (l:bo) (kA:OA) (kC:Nat) (az:List RA) (cA:OA) (cC:Nat) (bA:OA) (bC:Nat) (r:cx) (sgA:OA) (sgC:Nat) (vwA:OA) (vwC:Nat) (vtA:OA) (vtC:Nat) (vbA:OA) (vbC k:Nat) (rs:List Int) (rA:OA) (rC:Nat) (fs:List Int) (fA:OA) (fC:Nat) (hin:d_ l az) (hle:dM l=0) (hr:ei l r) (hk:rs.length+k=l.ab.length) (hfl:fs.length=rs.length) (hst:r.Start≤gv r.Start fs∧gv r.Start fs≤r.fP) (hrs: ∀ x∈rs,-1≤x∧x<(r.aa.length:Int)):
 JP Tryz.prog 180 [(vA (cu.cells (jr l kA kC cA cC bA bC))),(vA (de.cells (im r sgA sgC))),(vA (iT.cells (iT.mk (bK.mk vwA ((cq l l.ab.length).length) vwC) (bK.mk vtA ((eY l r r.aa.length).length) vtC) (bK.mk vbA ((fD l r r.aa.length).length) vbC)))),(vS rA rs.length rC),(vS fA fs.length fC)] [(rd kA l.aO.length 9 (l.aO.map aq.cells)),(rd cA l.aj.length 2 (List.zipWith av.cells l.aj az)),(dL (bk av.fu l.aj az)),(rd bA l.ab.length 4 (l.ab.map bL.cells)),(rd sgA r.aa.length 2 (r.aa.map aH.cells)),(rd vwA ((cq l l.ab.length).length) 1 ((cq l l.ab.length).map iC)),(rd vtA ((eY l r r.aa.length).length) 2 ((eY l r r.aa.length).map ai.cells)),(rd vbA ((fD l r r.aa.length).length) 1 ((fD l r r.aa.length).map kQ))] (bS [own rA rC 3 1 (rs.map iC),own fA fC 3 1 (fs.map iC)]) (fun (x:(OA)×Nat×(List kK))=>(vS x.1 ((iD l r k rs fs).length) x.2.1)) (fun (x:(OA)×Nat×(List kK))=>x.2.2.length=(iD l r k rs fs).length) (fun (x:(OA)×Nat×(List kK))=>(bS (bk dj.owns (iD l r k rs fs) x.2.2++[own x.1 x.2.1 249 3 (List.zipWith dj.cells (iD l r k rs fs) x.2.2)]))):=by
 induction k using Nat.strongRecOn generalizing rs rA rC fs fA fC with
 |ind k ih=>exact FI l kA kC az cA cC bA bC r sgA sgC vwA vwC vtA vtC vbA vbC k rs rA rC fs fA fC hin hle hr hk hfl hst hrs (fun L F D E C A B G H AA J K=>ih L G F D E C A B H AA J K)
end
section
open Go.RowKit
theorem zD (l:bo) (kA:OA) (kC:Nat) (az:List RA) (cA:OA) (cC:Nat) (bA:OA) (bC:Nat) (r:cx) (sgA:OA) (sgC:Nat) (hin:d_ l az) (hsl:r.aa.length≤1000000):
 qf Tryz.prog 148 [(vA (cu.cells (jr l kA kC cA cC bA bC))),(vA (de.cells (im r sgA sgC)))] [(rd kA l.aO.length 9 (l.aO.map aq.cells)),(rd cA l.aj.length 2 (List.zipWith av.cells l.aj az)),(dL (bk av.fu l.aj az)),(rd bA l.ab.length 4 (l.ab.map bL.cells)),(rd sgA r.aa.length 2 (r.aa.map aH.cells))] (fun (x:Bool×Int×(OA)×Nat×(List kK))=>bif x.1 then (vT [(vS x.2.2.1 ((kE l r).length) x.2.2.2.1),(vI 0)]) else (vT [(vS none 0 0),(vI x.2.1)])) (fun (x:Bool×Int×(OA)×Nat×(List kK))=>(x.1=true→(dN l r 0=0∧x.2.2.2.2.length=(kE l r).length))∧(x.1=false→(x.2.1=dN l r 0∧ ¬ dN l r 0=0))) (fun (x:Bool×Int×(OA)×Nat×(List kK))=>bif x.1 then [(own x.2.2.1 x.2.2.2.1 249 3 (List.zipWith dj.cells (kE l r) x.2.2.2.2)),(bS (bk dj.owns (kE l r) x.2.2.2.2))] else []):=by
 have k:=hin.qm
 have j:=hin.qj
 have h:=hin.mq
 have i:=hin.qi
 refine fJ kr Tryz.func148 U U fun o Q hQ hN=>?_
 try dsimp only
 refine WS fun _ X=>ed U fun m=>ed U fun n=>bx 2 U<|RK X<|ak fun _ Y=>WS fun _ Z=>er 1 [] (mc 1 U mn) U<|rS (CL (xV l kA kC az cA cC bA bC hin) (br [2,3,4,5]) U)<|bx 1 U<|RK Z<|WS fun _ a=>rP 2 [] mn ?_
 refine RK a<|cr U (aW fun A=>?_) (aV fun A=>?_)
 ·refine WS fun _ b=>rP 3 [] mn ?_
  refine RK b<|ao<|LX hQ (false,(dM l),none,0,[]) [] [] mn U (by rfl) U U ?_
  exact vO<|EC (eE (r:=r) (me:=0) A) A
 refine WK Y<|ak fun _ c=>WS fun _ d=>er 2 [0,1] (mc 1 U (mc 0 U mn)) U<|rS (CL (Ee l kA kC az cA cC bA bC r sgA sgC hin (by exact hsl)) (br [2,3,4,5,6]) U)<|rP 1 [] mn ?_
 refine RK d<|cr U (aW fun B=>?_) (aV fun B=>?_)
 ·refine WS fun _ D=>rP 2 [] mn ?_
  refine RK D<|ao<|LX hQ (false,51,none,0,[]) [] [] mn U (by rfl) U U ?_
  exact vO<|nv (cM (me:=0) A B)
 refine WK c<|ak fun _ E=>dx ck [4,5,6] [] [] [0,1,2,3,4,5,6] [] U U U U U<|eS U (LW 1 U bX U U)<|eS U (LW 0 U bX U U)<|eS U (LW 1 U bX U U)<|eS U (LW 0 U bX U U)<|eo U<|cd U fun T12 J=>cX (Ki l kA kC az cA cC bA bC r sgA sgC hin (by exact A) (by exact B)) (br [2,3,4,5,6]) U fun e g=>?_
 obtain ⟨V,W,T,AA,R,S⟩:=e
 try dsimp only
 refine aD (J _ _ (aN [3,4,5,6,7,8,9]) ?_)
 refine cd U fun T21 K=>jQ 3 1<|jQ 3 1<|sv<|rf 1 U ?_
 try dsimp only [List.eraseIdx]
 refine zq U<|rf 1 U ?_
 try dsimp only [List.eraseIdx]
 refine zq U ?_
 try dsimp only
 refine ob 0 rfl rfl rfl rfl (NH l kA kC az cA cC bA bC r sgA sgC V W T AA R S l.ab.length ([]:List Int) none 0 ([]:List Int) none 0 hin (by exact A) (by exact B) sm (by rfl) (by exact ⟨Int.le_refl _,B.time.2.1⟩) (by intro x hx; cases hx)) rfl (ep 6 rfl rfl (dI (bY _)) (ep 7 rfl rfl (dI (bY _)) (ep 8 rfl rfl (dI (bY _)) (ep 9 rfl rfl (dI (bY _)) (ep 10 rfl rfl (dI (bY _)) (ep 1 rfl rfl (jx sm) (ep 2 rfl rfl (jx sm) (ep 3 rfl rfl (jx sm) qZ)))))))) rfl (fun f M=>?_)
 obtain ⟨N,O,P⟩:=f
 try dsimp only
 refine aD (K _ _ (aN [4,5,6,7,8,9,10]) ?_)
 refine cd U fun T26 L=>rf 0 U ?_
 try dsimp only [List.eraseIdx]
 refine yN ?_
 dsimp only at M
 refine rS (AG U)<|aD (L _ _ (aN [5,6,7,8,9,10,11]) ?_)
 refine fh U<|KK E<|ak fun _ F=>WS fun _ G=>rP 3 [] mn ?_
 refine RK G<|bO U (aS fun C=>?_) (aT fun C=>?_)
 ·refine WK F<|WS fun _ AB=>rP 3 [] mn ?_
  refine RK AB<|ao ?_
  refine LX hQ (true,0,N,O,P) [0,1] [] mn U (by (show List.all _ _=true; simp only [cond_true,eH,List.all_nil,JI,Bool.and_true]; rfl)) U U ?_
  exact ⟨fun _=>⟨mh A B U fun q=>C (by rw [show iD l r l.ab.length [] []=[] from (eI A B).2 q]; rfl),M⟩,OZ⟩
 refine WS fun _ H=>rP 2 [] mn ?_
 refine RK H<|ao<|LX hQ (false,8,none,0,[]) [] [] mn U (by rfl) U U ?_
 exact vO<|nv (g8 (me:=0) A B U ((eI A B).1 (ig (Int.natCast_eq_zero.1 C))))
theorem yD (ws:List dj) (wz:List kK) (wA:OA) (wC b:Nat) (hws:KI ws) (hwz:wz.length=ws.length) (hb:b≤6):
 dF Tryz.prog 149 [(vS wA ws.length wC),(vI (b:Int))] [(rd wA ws.length 3 (List.zipWith dj.cells ws wz)),(dL (bk dj.fu ws wz))] (vT [(vA (ai.cells (px ws b))),(vI (pM ws b))]):=by
 have u:=hws.num
 refine bE kr Tryz.func149 U U fun x Q hQ hN=>?_
 try dsimp only
 refine WS fun _ g=>AL U dV fun w=>bx 1 U<|RK g<|WS fun _ h=>AL U dV fun t=>RK h<|WS fun _ j=>bx 1 U<|RK j<|ak fun _ k=>WS fun _ l=>rP 1 [] mn ?_
 refine RK l<|aC ?_
 have D:(0≤ws.length)∧(nP b (ws.take 0) false (ai.mk 0 0)):=by exact ⟨Nat.zero_le _,Gy⟩
 refine bQ (ι:={z:Nat×Bool×ai // (z.1≤ws.length)∧(nP b (ws.take z.1) z.2.1 z.2.2)}) [0,1,4,5,6] [1,2,3] U U (fun z=>[(7,(vB z.1.2.1)),(8,(vI (z.1.1:Int)))]) (fun z=>[(cy t 65 (ai.cells z.1.2.2))]) (fun _=>rfl) (fun _=>rfl) (fun z=>ws.length-z.1.1) ⟨(0,false,(ai.mk 0 0)),D⟩ (bu U) (aN [1,2,3,0]) ?_
 clear D
 rintro ⟨⟨i,fd,o⟩,⟨J,A⟩⟩ J8 H
 try dsimp only at J A
 try dsimp only
 refine ak fun _ m=>WS fun _ L=>rP 4 [] mn ?_
 refine RK L<|bO U (aS fun c=>?_) (aT fun c=>?_)
 ·refine bM<|ag<|ag<|aG<|KK k<|ak fun _ R=>WS fun _ S=>rP 2 [] mn ?_
  refine RK S<|bO U (fun B=>?_) (fun B=>?_)
  ·rw [Bool.not_eq_false'] at B
   refine WK R<|WS fun _ AA=>er 1 [] (mc 3 U mn) U<|fj U cT U<|rP 1 [] mn ?_
   refine RK AA<|ao<|lS hQ [0] (mc 0 U mn) U ?_
   have AB:=yp (by have q:=A; rwa [List.take_of_length_le I] at q) hws.DW
   (have q:=AB.2 B; rw [q.1,q.2]; done)
  rw [Bool.not_eq_true'] at B
  refine WS fun _ T=>rS (SX (bG (xs:=[]) (cs:=(ai.cells (ai.mk 0 0))) U U (bH gU U)) U U)<|fj U cT U<|rP 1 [] mn ?_
  refine RK T<|ao<|lS hQ [0] (mc 0 U mn) U ?_
  have AB:=yp (by have q:=A; rwa [List.take_of_length_le I] at q) hws.DW
  (have q:=AB.1 B; rw [q.1,q.2]; done)
 refine WK m<|ak fun _ C=>aC<|ak fun _ M=>WS fun _ N=>rP 2 [] mn ?_
 obtain ⟨y,hy⟩:=aF ws i I
 obtain ⟨ya,E⟩:=aF wz i I
 have K:(List.zipWith dj.cells ws wz)[i]? =some (dj.cells y ya):=cZ hy E
 refine rS (IA i U (ax 1 U) Ak dc I I)<|rS (oL (i*3) U (ax 1 U) (Nat.mul_pos I dc) eV U)<|rS (h_ i 0 (vS ya.1.1 y.gf.length ya.1.2) U bX (ax 1 U) K U dc U)<|rP 3 [] mn ?_
 refine RK N<|cr U (aT fun d=>?_) (aS fun d=>?_)
 ·refine bM<|ag<|aG<|KK C<|au<|rP 3 [] mn ?_
  refine aD ?_
  have X:(vI (((i+1):Nat):Int))=(vI ((i:Int)+1)):=by exact cI I
  refine bj (H ⟨((i+1),fd,o),⟨I,by dsimp only; rw [jy hy]; exact Cs A I⟩⟩ _ _ _ U os (cN 6<|a_ U X<|dh.nil _) (aN [0,1,2,3]))
 refine WK M<|ak fun _ O=>dx ck [17,18] [] [] [0,1,2,3] [] U U U U U ?_
 have v:=hws.lens y (aP hy)
 obtain ⟨s,hs⟩: ∃ s,y.gf[b]? =some s:=⟨y.gf[b]'I,eX _⟩
 refine eS U (MV U)<|eS U (MV U)<|eS U (IA i U (ax 1 U) Ak dc I I)<|eS U (oL ((i*3)+1) U (ax 1 U) (Nat.mul_pos I dc) eV U)<|eS U (h_ i 1 (vS ya.2.1.1 y.jf.length ya.2.1.2) U bX (ax 1 U) K U dc U)<|eS U (MV U) ?_
 obtain ⟨f,hf⟩:=aF y.jf b I
 have p:=bJ iC hf
 refine eS U (IA b U (show hH _ (rd ya.2.1.1 y.jf.length 1 (y.jf.map iC)).holds from (cj 2 U (bD hy E (by simp [dj.fu])))) dJ dc I I)<|eS U (h_ b 0 (vI f) U bX (show hH _ (rd ya.2.1.1 y.jf.length 1 (y.jf.map iC)).holds from (cj 2 U (bD hy E (by simp [dj.fu])))) p U dc U)<|eS U (MV U)<|eS U (MV U)<|eS U (IA i U (ax 1 U) Ak dc I I)<|eS U (oL ((i*3)+2) U (ax 1 U) (Nat.mul_pos I dc) eV U)<|eS U (h_ i 2 (vS ya.2.2.1 y.l6.length ya.2.2.2) U bX (ax 1 U) K U dc U)<|eS U (MV U) ?_
 obtain ⟨e,he⟩:=aF y.l6 b I
 have n:=bJ iC he
 refine eS U (IA b U (show hH _ (rd ya.2.2.1 y.l6.length 1 (y.l6.map iC)).holds from (cj 2 U (bD hy E (by simp [dj.fu])))) dJ dc I I)<|eS U (h_ b 0 (vI e) U bX (show hH _ (rd ya.2.2.1 y.l6.length 1 (y.l6.map iC)).holds from (cj 2 U (bD hy E (by simp [dj.fu])))) n U dc U)<|eS U (SX (bG (xs:=[(0,.tmp 31),(1,.tmp 39)]) (cs:=(ai.cells (ai.mk f e))) U U (bH gU U)) U U)<|eo U<|cd U fun T17 V=>AL U dV fun r=>aD (V _ _ (aN [1,2,3,4]) ?_)
 refine cd U fun T19 W=>fj U cT U<|aD (W _ _ (aN [1,2,3,4]) ?_)
 refine fh U<|KK O<|ak fun _ F=>WS fun _ P=>?_
 have a:=hws.le y (aP hy) b f e I hf he
 refine rP 1 [] mn ?_
 refine RK P<|bO U (fun G=>?_) (fun G=>?_)
 ·refine WK F<|au<|er 1 [] (mc 0 U mn) U<|Pp U cT U<|bx 1 U<|aD<|aK<|KK C<|au<|rP 3 [] mn ?_
  refine aD ?_
  have Z:(vI (((i+1):Nat):Int))=(vI ((i:Int)+1)):=by exact cI I
  refine bj (H ⟨((i+1),true,(ai.mk f e)),⟨I,by dsimp only; rw [jy hy]; exact Aj A G hs hf he a⟩⟩ _ _ _ U os (cN 6<|a_ U Z<|dh.nil _) (aN [1,2,3,4]))
 refine au<|er 4 [0,1] (mc 0 U (mc 4 U mn)) U<|rS (MN U)<|er 4 [0,1] (mc 0 U (mc 4 U mn)) U<|rS (MX U)<|rS (SX (bG (xs:=[(0,.tmp 46),(1,.tmp 51)]) (cs:=(ai.cells (ai.mk (min f o.Lo) (max e o.Hi)))) U U (bH gU U)) U U)<|fj U cT U<|RK F<|au<|er 1 [] (mc 0 U mn) U<|Pp U cT U<|bx 1 U<|aD<|aK<|KK C<|au<|rP 3 [] mn ?_
 refine aD ?_
 have Y:(vI (((i+1):Nat):Int))=(vI ((i:Int)+1)):=by exact cI I
 refine bj (H ⟨((i+1),true,(ai.mk (min f o.Lo) (max e o.Hi))),⟨I,by dsimp only; rw [jy hy]; exact Cq A G hs hf he a⟩⟩ _ _ _ U os (cN 6<|a_ U Y<|dh.nil _) (aN [1,2,3,4]))
end
section
open Go.RowKit
theorem Gu (l:bo) (kA:OA) (kC:Nat) (az:List RA) (cA:OA) (cC:Nat) (bA:OA) (bC:Nat) (r:cx) (sgA:OA) (sgC:Nat) (bq_:Int) (hin:d_ l az) (hsl:r.aa.length≤1000000):
 dF Tryz.prog 129 [(vA (cu.cells (jr l kA kC cA cC bA bC))),(vA (de.cells (im r sgA sgC))),(vI bq_)] [(rd kA l.aO.length 9 (l.aO.map aq.cells)),(rd cA l.aj.length 2 (List.zipWith av.cells l.aj az)),(dL (bk av.fu l.aj az)),(rd bA l.ab.length 4 (l.ab.map bL.cells)),(rd sgA r.aa.length 2 (r.aa.map aH.cells))] (vT [(vA (ai.cells (dy l r bq_))),(vI (eh l r bq_))]):=by
 have AC:=hin.qm
 have v:=hin.qj
 have t:=hin.mq
 have u:=hin.qi
 refine bE kr Tryz.func129 U U fun w0 Q hQ hN=>?_
 try dsimp only
 refine WS fun _ d=>ed U fun b2=>ed U fun b3=>AL U dV fun b4=>bx 1 U<|RK d<|ak fun _ f=>WS fun _ g=>er 1 [] (mc 2 U mn) U<|rS (CL (xV l kA kC az cA cC bA bC hin) (br [3,4,5,6]) U)<|bx 1 U<|RK g<|WS fun _ h=>rP 2 [] mn ?_
 refine RK h<|cr U (aW fun B=>?_) (aV fun B=>?_)
 ·refine WS fun _ i=>rS (SX (bG (xs:=[]) (cs:=(ai.cells (ai.mk 0 0))) U U (bH gU U)) U U)<|bx 1 U<|fj U cT U<|rP 1 [] mn ?_
  refine RK i<|ao<|lS hQ [0] (mc 0 U mn) U ?_
  first|(have e:=eE (r:=r) (me:=e_ l bq_) B; have q:=dE (b:=bq_) (fun z=>B (e.symm.trans z)); rw [q.1,q.2,e]<;>rfl)|(have e:=cM (me:=e_ l bq_) B C; have q:=dE (b:=bq_) (fun z=>absurd (e.symm.trans z) dc); rw [q.1,q.2,e]<;>rfl)|(have A:e_ l bq_=2:=if_neg D; have e:=jC (me:=e_ l bq_) B C (by rw [A]; decide); have q:=dE (b:=bq_) (fun z=>absurd (e.symm.trans z) (by rw [A]; decide)); rw [q.1,q.2,e,A]<;>rfl)|(have A:e_ l bq_=0:=mz D; have q:=dE (b:=bq_) (r:=r) (by rw [A]; exact he); rw [q.1,q.2,A]<;>rfl)|(have q:=o5 he (b:=b) I; rw [← E] at q; rw [q.1,q.2]<;>rfl)
 refine WK f<|ak fun _ j=>WS fun _ K=>er 2 [0,1] (mc 2 U (mc 1 U mn)) U<|rS (CL (Ee l kA kC az cA cC bA bC r sgA sgC hin hsl) (br [3,4,5,6,7]) U)<|rP 1 [] mn ?_
 refine RK K<|cr U (aW fun C=>?_) (aV fun C=>?_)
 ·refine WS fun _ L=>rS (SX (bG (xs:=[]) (cs:=(ai.cells (ai.mk 0 0))) U U (bH gU U)) U U)<|fj U cT U<|rP 1 [] mn ?_
  refine RK L<|ao<|lS hQ [0] (mc 0 U mn) U ?_
  first|(have e:=eE (r:=r) (me:=e_ l bq_) B; have q:=dE (b:=bq_) (fun z=>B (e.symm.trans z)); rw [q.1,q.2,e]<;>rfl)|(have e:=cM (me:=e_ l bq_) B C; have q:=dE (b:=bq_) (fun z=>absurd (e.symm.trans z) dc); rw [q.1,q.2,e]<;>rfl)|(have A:e_ l bq_=2:=if_neg D; have e:=jC (me:=e_ l bq_) B C (by rw [A]; decide); have q:=dE (b:=bq_) (fun z=>absurd (e.symm.trans z) (by rw [A]; decide)); rw [q.1,q.2,e,A]<;>rfl)|(have A:e_ l bq_=0:=mz D; have q:=dE (b:=bq_) (r:=r) (by rw [A]; exact he); rw [q.1,q.2,A]<;>rfl)|(have q:=o5 he (b:=b) I; rw [← E] at q; rw [q.1,q.2]<;>rfl)
 refine WK j<|ak fun _ M=>WS fun _ N=>er 5 [] (mc 2 U mn) U<|rS (CL (iN bq_ 0 ((l.ab.length:Int)-1)) (aR) U)<|rP 1 [] mn ?_
 refine RK N<|cr U (aW fun D=>?_) (aV fun D=>?_)
 ·refine WS fun _ O=>rS (SX (bG (xs:=[]) (cs:=(ai.cells (ai.mk 0 0))) U U (bH gU U)) U U)<|fj U cT U<|rP 1 [] mn ?_
  refine RK O<|ao<|lS hQ [0] (mc 0 U mn) U ?_
  first|(have e:=eE (r:=r) (me:=e_ l bq_) B; have q:=dE (b:=bq_) (fun z=>B (e.symm.trans z)); rw [q.1,q.2,e]<;>rfl)|(have e:=cM (me:=e_ l bq_) B C; have q:=dE (b:=bq_) (fun z=>absurd (e.symm.trans z) dc); rw [q.1,q.2,e]<;>rfl)|(have A:e_ l bq_=2:=if_neg D; have e:=jC (me:=e_ l bq_) B C (by rw [A]; decide); have q:=dE (b:=bq_) (fun z=>absurd (e.symm.trans z) (by rw [A]; decide)); rw [q.1,q.2,e,A]<;>rfl)|(have A:e_ l bq_=0:=mz D; have q:=dE (b:=bq_) (r:=r) (by rw [A]; exact he); rw [q.1,q.2,A]<;>rfl)|(have q:=o5 he (b:=b) I; rw [← E] at q; rw [q.1,q.2]<;>rfl)
 refine WK M<|WS fun _ F=>rP 2 [0,1] (mc 2 U (mc 1 U mn)) ?_
 refine cX (zD l kA kC az cA cC bA bC r sgA sgC hin hsl) (br [3,4,5,6,7]) U fun o G=>?_
 obtain ⟨Y,p,a,c,Z⟩:=o
 cases Y
 ·obtain ⟨V,he⟩:=G.2 rfl
  try dsimp only at V he
  subst V
  try dsimp only [cond_true,cond_false,List.cons_append,List.nil_append]
  refine bx 5 U<|RK F<|ak fun _ s=>WS fun _ P=>rP 2 [] mn ?_
  refine RK P<|bO U (aV fun J=>?_) (aW fun J=>?_)
  ·exact absurd J he
  refine WS fun _ R=>rS (SX (bG (xs:=[]) (cs:=(ai.cells (ai.mk 0 0))) U U (bH gU U)) U U)<|bx 1 U<|fj U cT U<|rP 1 [] mn ?_
  refine RK R<|ao<|lS hQ [0] (mc 0 U mn) U ?_
  first|(have e:=eE (r:=r) (me:=e_ l bq_) B; have q:=dE (b:=bq_) (fun z=>B (e.symm.trans z)); rw [q.1,q.2,e]<;>rfl)|(have e:=cM (me:=e_ l bq_) B C; have q:=dE (b:=bq_) (fun z=>absurd (e.symm.trans z) dc); rw [q.1,q.2,e]<;>rfl)|(have A:e_ l bq_=2:=if_neg D; have e:=jC (me:=e_ l bq_) B C (by rw [A]; decide); have q:=dE (b:=bq_) (fun z=>absurd (e.symm.trans z) (by rw [A]; decide)); rw [q.1,q.2,e,A]<;>rfl)|(have A:e_ l bq_=0:=mz D; have q:=dE (b:=bq_) (r:=r) (by rw [A]; exact he); rw [q.1,q.2,A]<;>rfl)|(have q:=o5 he (b:=b) I; rw [← E] at q; rw [q.1,q.2]<;>rfl)
 obtain ⟨he,H⟩:=G.1 rfl
 try dsimp only [cond_true,cond_false,List.cons_append,List.nil_append]
 try dsimp only at he H
 obtain ⟨W,AB,_,w⟩:=g5 he
 obtain ⟨AO,m⟩:=dK W
 have k:=m.head
 unfold eT at k
 have X:=CX W AB
 have A0:=X.num
 have x:=AB.len
 have y:=AB.time
 refine bx 5 U<|RK F<|ak fun _ S=>WS fun _ T=>rP 1 [] mn ?_
 refine rS (SX (eK (r:= .bool false) U U U xR) U U)<|RK T<|bT U<|WK S<|ak fun _ AA=>?_
 obtain ⟨b,E⟩: ∃ b:Nat,bq_=(b:Int):=⟨bq_.toNat,I⟩
 rw [E]
 refine au<|bx 2 U<|rS (CL (yD (kE l r) Z a c b (by exact X) (by exact H) I) (aQ (aL (n:=(kE l r).length) 0 U (my H))<|aQ (gM 1 U Es)<|aR) U)<|bx 2 U<|DG U cT U<|rP 1 [] mn ?_
 refine RK AA<|ao<|lS hQ [0] (mc 2 U mn) U ?_
 first|(have e:=eE (r:=r) (me:=e_ l bq_) B; have q:=dE (b:=bq_) (fun z=>B (e.symm.trans z)); rw [q.1,q.2,e]<;>rfl)|(have e:=cM (me:=e_ l bq_) B C; have q:=dE (b:=bq_) (fun z=>absurd (e.symm.trans z) dc); rw [q.1,q.2,e]<;>rfl)|(have A:e_ l bq_=2:=if_neg D; have e:=jC (me:=e_ l bq_) B C (by rw [A]; decide); have q:=dE (b:=bq_) (fun z=>absurd (e.symm.trans z) (by rw [A]; decide)); rw [q.1,q.2,e,A]<;>rfl)|(have A:e_ l bq_=0:=mz D; have q:=dE (b:=bq_) (r:=r) (by rw [A]; exact he); rw [q.1,q.2,A]<;>rfl)|(have q:=o5 he (b:=b) I; rw [← E] at q; rw [q.1,q.2]<;>rfl)
theorem N2 (l:bo) (kA:OA) (kC:Nat) (az:List RA) (cA:OA) (cC:Nat) (bA:OA) (bC:Nat) (r:cx) (sgA:OA) (sgC:Nat) (hin:d_ l az) (hsl:r.aa.length≤1000000):
 dF Tryz.prog 189 [(vA (cu.cells (cu.mk (bR.mk (bK.mk kA l.aO.length kC)) l.ib (bK.mk cA l.aj.length cC) (bK.mk bA l.ab.length bC) l.b_ l.e9 l.dp))),(vA (de.cells (im r sgA sgC)))] [(rd kA l.aO.length 9 (l.aO.map aq.cells)),(rd cA l.aj.length 2 (List.zipWith av.cells l.aj az)),(dL (bk av.fu l.aj az)),(rd bA l.ab.length 4 (l.ab.map bL.cells)),(rd sgA r.aa.length 2 (r.aa.map aH.cells))] (vT [(vA (ai.cells (Bt l r))),(vI (eh l r l.b_))]):=by
 have q:=hin.qm
 have j:=hin.qj
 have h:=hin.mq
 have i:=hin.qi
 refine bE kr Tryz.func189 U U fun y Q hQ hN=>?_
 try dsimp only
 refine WS fun _ Z=>ed U fun v=>ed U fun w=>AL U dV fun x=>bx 1 U<|RK Z<|WS fun _ P=>rP 2 [0,1] (mc 2 U (mc 1 U mn)) ?_
 refine cX (zD l kA kC az cA cC bA bC r sgA sgC hin hsl) (br [3,4,5,6,7]) U fun u V=>?_
 obtain ⟨W,g,e,Y,X⟩:=u
 cases W
 ·obtain ⟨R,he⟩:=V.2 rfl
  try dsimp only at R he
  subst R
  try dsimp only [cond_true,cond_false,List.cons_append,List.nil_append]
  refine bx 5 U<|RK P<|ak fun _ d=>WS fun _ G=>rP 2 [] mn ?_
  refine RK G<|bO U (aV fun F=>?_) (aW fun F=>?_)
  ·exact absurd F he
  refine WS fun _ H=>rS (SX (bG (xs:=[]) (cs:=(ai.cells (ai.mk 0 0))) U U (bH gU U)) U U)<|bx 1 U<|fj U cT U<|rP 1 [] mn ?_
  refine RK H<|ao<|lS hQ [0] (mc 0 U mn) U ?_
  (rw [DH (fun z=>he ((vj he).symm.trans z)),vj he]<;>rfl)
 obtain ⟨he,C⟩:=V.1 rfl
 try dsimp only [cond_true,cond_false,List.cons_append,List.nil_append]
 try dsimp only at he C
 obtain ⟨T,E,_,k⟩:=g5 he
 obtain ⟨s,c⟩:=dK T
 have a:=c.head
 unfold eT at a
 have AA:=CX T E
 have t:=AA.num
 have o:=E.len
 have p:=E.time
 refine bx 5 U<|RK P<|ak fun _ AB=>WS fun _ J=>rP 1 [] mn ?_
 refine rS (SX (eK (r:= .bool false) U U U xR) U U)<|RK J<|bT U<|WK AB<|ak fun _ K=>?_
 obtain ⟨b,S⟩: ∃ b:Nat,l.b_=(b:Int):=⟨l.b_.toNat,I⟩
 have A:=o5 he (b:=b) I
 rw [← S] at A
 rw [S]
 refine au<|er 3 [] (mc 4 U mn) U<|rS (CL (yD (kE l r) X e Y b (by exact AA) (by exact C) I) (aQ (aL (n:=(kE l r).length) 0 U (my C))<|aQ (gM 1 U Es)<|aR) U)<|bx 3 U<|AL U dV fun f=>fj U cT U<|bx 1 U<|RK K<|ak fun _ L=>WS fun _ M=>rP 2 [] mn ?_
 refine RK M<|cr U (aW fun B=>?_) (aV fun B=>?_)
 ·refine WS fun _ N=>rS (SX (bG (xs:=[]) (cs:=(ai.cells (ai.mk 0 0))) U U (bH gU U)) U U)<|bx 1 U<|O1 U cT U<|rP 1 [] mn ?_
  refine RK N<|ao<|lS hQ [0] (mc 3 U mn) U ?_
  (rw [DH (fun z=>B (A.1.trans z)),← A.1]<;>rfl)
 refine WK L<|ak fun _ O=>?_
 have D:eh l r l.b_=0:=A.1.symm.trans B
 have m:=ub D
 rw [A.2]
 refine au<|er 10 [0,1,0,1] (mc 0 U (mc 4 U mn)) U<|rS (SX (bG (xs:=[(0,.tmp 34),(1,.tmp 39)]) (cs:=(ai.cells (ai.mk (((dy l r l.b_).Lo)-r.Start) (((dy l r l.b_).Hi)-r.Start)))) U U (bH gU U)) U U)<|O1 U cT U<|rP 1 [] mn ?_
 refine RK O<|ao<|lS hQ [0] (mc 3 U mn) U ?_
 (rw [Dd D,D])
theorem Dt (la:List aH) (laA:OA) (laC:Nat) (lb:List aH) (lbA:OA) (lbC:Nat) (h1:la.length≤1000000) (h2:lb.length≤1000000):
 dF Tryz.prog 83 [(vS laA la.length laC),(vS lbA lb.length lbC)] [(rd laA la.length 2 (la.map aH.cells)),(rd lbA lb.length 2 (lb.map aH.cells))] (vB (decide (la=lb))):=by
 refine bE kr Tryz.func83 U U fun V Q hQ hN=>?_
 try dsimp only
 refine WS fun _ J=>bx 1 U<|RK J<|ak fun _ K=>WS fun _ L=>rP 5 [] mn ?_
 refine RK L<|cr U (aW fun hl=>?_) (aV fun hl=>?_)
 ·refine WS fun _ M=>rP 1 [] mn ?_
  refine RK M<|ao<|Q1 hQ U U U ?_
  first|exact cB (aY (mB hx hy h)).symm|exact cB (cJ (cH I A I)).symm|exact cB (aY (fun e=>by subst e; omega)).symm
 refine WK K<|ak fun _ N=>WS fun _ O=>rP 1 [] mn ?_
 refine RK O<|aC ?_
 have B:(0≤la.length)∧(la.take 0=lb.take 0):=by simp
 refine bQ (ι:={z:Nat // (z≤la.length)∧(la.take z=lb.take z)}) [0,1] [0,1] U U (fun z=>[(5,(vI (z.1:Int)))]) (fun z=>[]) (fun _=>rfl) (fun _=>rfl) (fun z=>la.length-z.1) ⟨0,B⟩ (bu U) (aN [0,1]) ?_
 clear B
 rintro ⟨i,⟨S,A⟩⟩ J7 AB
 try dsimp only
 refine ak fun _ P=>WS fun _ R=>rP 4 [] mn ?_
 refine RK R<|bO U (aS fun H=>?_) (aT fun H=>?_)
 ·refine bM<|ag<|ag<|aG<|KK N<|WS fun _ F=>rP 1 [] mn ?_
  refine RK F<|ao<|Q1 hQ U U U ?_
  first|exact cB (aY (mB hx hy h)).symm|exact cB (cJ (cH I A I)).symm|exact cB (aY (fun e=>by subst e; omega)).symm
 refine WK P<|ak fun _ C=>aC<|ak fun _ D=>cW ck 9 kr<|dP 2 [] mn ?_
 obtain ⟨x,hx⟩:=aF la i I
 have T:=bJ aH.cells hx
 refine dS (IA i U (ax 0 U) xp dc I I)<|dS (jL i 0 (aH.cells x) U bX (ax 0 U) T U dc U U)<|dP 2 [] mn ?_
 obtain ⟨y,hy⟩:=aF lb i I
 have AA:=bJ aH.cells hy
 refine dS (IA i U (ax 1 U) xp dc I I)<|dS (jL i 0 (aH.cells y) U bX (ax 1 U) AA U dc U U)<|dS (BI U (NV _ _ x y))<|cw<|RK D<|cr U (aW fun h=>?_) (aV fun h=>?_)
 ·refine WS fun _ E=>rP 1 [] mn ?_
  refine RK E<|ao<|Q1 hQ U U U ?_
  first|exact cB (aY (mB hx hy h)).symm|exact cB (cJ (cH I A I)).symm|exact cB (aY (fun e=>by subst e; omega)).symm
 refine cp<|aK<|KK C<|au<|rP 3 [] mn ?_
 refine aD ?_
 have G:(vI (((i+1):Nat):Int))=(vI ((i:Int)+1)):=by exact cI I
 refine bj (AB ⟨(i+1),⟨I,iG A hx hy h⟩⟩ _ _ _ U os (dh.cons U<|dh.cons U<|a_ U G<|dh.nil _) (aN [0,1]))
end
end Go.Proofs.YtgcjjjehnjljbaaGreatDoor
