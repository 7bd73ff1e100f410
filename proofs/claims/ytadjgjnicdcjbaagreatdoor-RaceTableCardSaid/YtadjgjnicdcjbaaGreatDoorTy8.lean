/-
 The statement raceTable_said, part 8 of 8: Rx9, Rx10, Rx11, Rx12, Rz1, Rz2, Rt2, Rx2, Rz3, Rz4, Rr2, Rr3, Rr4, Rr5, Rra, Ry1, Ry5, Ry8, LineOpen, RaceOpen, Table0.
 Conditions: none.
-/
import Derived.Test.YtadjgjnicdcjbaaGreatDoorTy1
import Derived.Test.YtadjgjnicdcjbaaGreatDoorTy2
import Derived.Test.YtadjgjnicdcjbaaGreatDoorTy3
import Derived.Test.YtadjgjnicdcjbaaGreatDoorTy4
import Derived.Test.YtadjgjnicdcjbaaGreatDoorTy5
import Derived.Test.YtadjgjnicdcjbaaGreatDoorTy6
import Derived.Test.YtadjgjnicdcjbaaGreatDoorTy7
import Derived.Test.YtadjgjnicdcjbaaGreatDoorCards
import Derived.Test.YtadjgjnicdcjbaaGreatDoorTie
import Derived.SevenTiedAt
import Derived.LaidMore
import Derived.Stop.Joined
import Derived.Test.YtadjgjnicdcjbaaGreatDoorRows
import Derived.Test.YtadjgjnicdcjbaaGreatDoorProg
import Derived.KernelRfl
namespace Go.Proofs.YtadjgjnicdcjbaaGreatDoor
set_option maxRecDepth 100000
set_option maxHeartbeats 4000000
set_option linter.unusedVariables false
section
open Go.RowKit
theorem M7 (r:bT) (kA:OA) (kC:Nat) (az:List RA) (cA:OA) (cC:Nat) (bA:OA) (bC:Nat) (slA:OA) (slC:Nat) (drA:OA) (drC:Nat) (ha:List cO) (heA:OA) (heC:Nat) (hin:e7 r az ha):
 lv Tryz.prog 66 [(vA (cx.cells (oI r kA kC cA cC bA bC slA slC drA drC heA heC)))] [(rd kA r.ao.aP.length 9 (r.ao.aP.map al.cells)),(rd cA r.ao.ak.length 2 (List.zipWith ar.cells r.ao.ak az)),(eX (aV ar.g0 r.ao.ak az)),(rd bA r.ao.ae.length 4 (r.ao.ae.map bD.cells)),(rd slA r.aQ.length 1 (r.aQ.map iC)),(rd drA r.bQ.length 1 (r.bQ.map iC)),(rd heA r.ay.length 1 (List.zipWith cP r.ay ha)),(eX (aV ir r.ay ha))] (fun (x:(OA)×Nat×(OA)×Nat×(List RA)×(OA)×Nat×(OA)×Nat×(OA)×Nat×(OA)×Nat×(List cO))=>(vA (cx.cells (cx.mk (ck.mk (bE.mk (br.mk x.1 r.ao.aP.length x.2.1)) r.ao.g9 (br.mk x.2.2.1 r.ao.ak.length x.2.2.2.1) (br.mk x.2.2.2.2.2.1 r.ao.ae.length x.2.2.2.2.2.2.1) r.ao.cH r.ao.eV r.ao.cW) (br.mk x.2.2.2.2.2.2.2.1 r.aQ.length x.2.2.2.2.2.2.2.2.1) (br.mk x.2.2.2.2.2.2.2.2.2.1 r.bQ.length x.2.2.2.2.2.2.2.2.2.2.1) r.iK (br.mk x.2.2.2.2.2.2.2.2.2.2.2.1 r.ay.length x.2.2.2.2.2.2.2.2.2.2.2.2.1))))) (fun (x:(OA)×Nat×(OA)×Nat×(List RA)×(OA)×Nat×(OA)×Nat×(OA)×Nat×(OA)×Nat×(List cO))=>(x.2.2.2.2.1.length=r.ao.ak.length∧rM r.ao.ak x.2.2.2.2.1)∧sP r.ay x.2.2.2.2.2.2.2.2.2.2.2.2.2) (fun (x:(OA)×Nat×(OA)×Nat×(List RA)×(OA)×Nat×(OA)×Nat×(OA)×Nat×(OA)×Nat×(List cO))=>[(own x.1 x.2.1 114 9 (r.ao.aP.map al.cells)),(own x.2.2.1 x.2.2.2.1 119 2 (List.zipWith ar.cells r.ao.ak x.2.2.2.2.1)),(bw (aV ar.owns r.ao.ak x.2.2.2.2.1)),(own x.2.2.2.2.2.1 x.2.2.2.2.2.2.1 121 4 (r.ao.ae.map bD.cells)),(own x.2.2.2.2.2.2.2.1 x.2.2.2.2.2.2.2.2.1 3 1 (r.aQ.map iC)),(own x.2.2.2.2.2.2.2.2.2.1 x.2.2.2.2.2.2.2.2.2.2.1 3 1 (r.bQ.map iC)),(own x.2.2.2.2.2.2.2.2.2.2.2.1 x.2.2.2.2.2.2.2.2.2.2.2.2.1 46 1 (List.zipWith cP r.ay x.2.2.2.2.2.2.2.2.2.2.2.2.2)),(bw (aV je r.ay x.2.2.2.2.2.2.2.2.2.2.2.2.2))]):=by
 have C:=hin.line
 have J9:=hin.iO
 have M:=hin.has
 have Ly:=hin.iN
 have Lk:=hin.draw
 have L0:=dy (r:=r)
 have Pl:=C.sJ
 have PC:=C.sI
 have Os:=C.sE
 have J6:=C.oF
 refine dj kr Tryz.func66 U U fun w0 Q hQ hN=>?_
 try dsimp only
 refine WS fun _ J2=>fM U fun b2=>AL U C8 fun b3=>RK J2<|WS fun _ J3=>rP 2 [] mn ?_
 refine RK J3<|ah fun _ J4=>dG cu [8,13,18,22,25,28] [7,11,15] [0,1,2] [0,2,3,4,5,6,7,8,9] [0,1,2,3,4,5,6,7,8,9] U U U U U<|eS U (MV U)<|eS U (MV U)<|eS U (MV U)<|eS U (MV U)<|eS U (SX (bI U U) U U)<|eS U (FA 0 U fu U)<|eS U (FA 0 U fu U)<|fS U (L1 (vS kA r.ao.aP.length kC) 1 U bX U U)<|eS U (MV U)<|eS U (SX (bI U U) U U)<|eS U (FA 2 U fu U)<|fS U (L1 (vS cA r.ao.ak.length cC) 1 U bX U U)<|eS U (MV U)<|eS U (SX (bI U U) U U)<|eS U (FA 3 U fu U)<|fS U (L1 (vS bA r.ao.ae.length bC) 1 U bX U U)<|eS U (SX (bI U U) U U)<|eS U (FA 0 U fu U)<|eS U (FA 0 U fu U)<|eS U (SX (bI U U) U U)<|eS U (FA 2 U fu U)<|eS U (SX (bI U U) U U)<|eS U (FA 3 U fu U)<|eU U<|iE U fun T6 J5=>?_
 refine cX (JX r.ao.aP kA kC sd) (bj [2]) U fun y7 Pu=>?_
 obtain ⟨a9,S⟩:=y7
 try dsimp only
 refine aC (J5 _ _ (aH [1,3,4,5,6,7,8,9,10]) (aH [1,2,3,4,5,6,7,8,9,10]) ?_)
 refine iE U fun T11 EQ=>?_
 refine cX (L6 (List.zipWith ar.cells r.ao.ak az) cA r.ao.ak.length cC sd (by exact g7 J6) (by exact Dx _ _)) (bj [4]) U fun K0 L2=>?_
 obtain ⟨J,K⟩:=K0
 try dsimp only
 refine aC (EQ _ _ (aH [2,4,5,6,7,8,9,10,11]) (aH [2,3,4,5,6,7,8,9,10,11]) ?_)
 refine iE U fun T16 Eq=>?_
 refine cX (KL r.ao.ae bA bC sd) (bj [7]) U fun K4 L3=>?_
 obtain ⟨Y,Z⟩:=K4
 try dsimp only
 refine aC (Eq _ _ (aH [3,5,6,7,8,9,10,11,12]) (aH [3,4,5,6,7,8,9,10,11,12]) ?_)
 refine bY U fun T21 FS=>Vh (cx.cells (cx.mk (ck.mk (bE.mk (br.mk a9 r.ao.aP.length S)) r.ao.g9 (br.mk cA r.ao.ak.length cC) (br.mk bA r.ao.ae.length bC) r.ao.cH r.ao.eV r.ao.cW) (br.mk slA r.aQ.length slC) (br.mk drA r.bQ.length drC) r.iK (br.mk heA r.ay.length heC))) U Ve U U<|aC (FS _ _ (aH [3,5,6,7,8,9,10,11,12]) ?_)
 refine bY U fun T22 Fd=>Vh (cx.cells (cx.mk (ck.mk (bE.mk (br.mk a9 r.ao.aP.length S)) r.ao.g9 (br.mk J r.ao.ak.length K) (br.mk bA r.ao.ae.length bC) r.ao.cH r.ao.eV r.ao.cW) (br.mk slA r.aQ.length slC) (br.mk drA r.bQ.length drC) r.iK (br.mk heA r.ay.length heC))) U U7 U U<|aC (Fd _ _ (aH [3,5,6,7,8,9,10,11,12]) ?_)
 refine bY U fun T23 Fn=>Vh (cx.cells (cx.mk (ck.mk (bE.mk (br.mk a9 r.ao.aP.length S)) r.ao.g9 (br.mk J r.ao.ak.length K) (br.mk Y r.ao.ae.length Z) r.ao.cH r.ao.eV r.ao.cW) (br.mk slA r.aQ.length slC) (br.mk drA r.bQ.length drC) r.iK (br.mk heA r.ay.length heC))) U UJ U U<|aC (Fn _ _ (aH [3,5,6,7,8,9,10,11,12]) ?_)
 refine fF U<|KK J4<|ah fun _ A4=>WS fun _ A5=>bf 1 U<|rS (SX (bI U U) U U)<|rP 4 [] (mc 4 U mn) ?_
 refine RK A5<|av<|oy ?_
 have E:(0≤r.ao.ak.length)∧(([]:List RA).length=0)∧(rM r.ao.ak ([]:List RA)):=by exact ⟨Nat.zero_le _,rfl,fun k m a _ h=>by simp at h⟩
 refine bH (ι:={z:Nat×(List RA) // (z.1≤r.ao.ak.length)∧(z.2.length=z.1)∧(rM r.ao.ak z.2)}) [1,2,3,39] [1,3,4,5,6,7,8,9,10,11,12,13] U U (fun z=>[(40,(vI (z.1.1:Int)))]) (fun z=>[(bw (aV ar.owns (r.ao.ak.take z.1.1) z.1.2)),(own J K 119 2 (List.zipWith ar.cells r.ao.ak (kv z.1.2 az z.1.1)))]) (fun _=>rfl) (fun _=>rfl) (fun z=>r.ao.ak.length-z.1.1) ⟨(0,([]:List RA)),E⟩ (aT U) (aH [1,3,4,5,6,7,8,9,10,11,12,13,0,2]) ?_
 clear E
 rintro ⟨⟨i,bz⟩,⟨A0,B,V⟩⟩ J26 A1
 try dsimp only at A0 B V
 try dsimp only
 refine WS fun _ A6=>rP 1 [] mn ?_
 refine RK A6<|ah fun _ A7=>cy U (aL fun In=>?_) (aM fun In=>?_)
 ·refine WK A7<|ah fun _ A8=>av<|WS fun _ A9=>rP 2 [] mn ?_
  refine RK A9<|dG cu [13,16] [10,11,12,13,14] [0] [0,1,2,3,4,5,6,7,8,9,10,11,12] [0,1,2,3,4,5,6,7,8,9,10,11,12,13] U U U U U<|eS U (MV U)<|eS U (SX (bI U U) U U)<|eS U (FA 2 U fu U)<|eS U (L1 (vS J r.ao.ak.length K) 3 U bX U U)<|eS U (MV U)<|eS U (MV U)<|eS U (SX (bI U U) U U)<|eS U (FA 2 U fu U)<|eS U (L1 (vS J r.ao.ak.length K) 3 U bX U U)<|eS U (MV U) ?_
  obtain ⟨x,hx⟩:=aJ r.ao.ak i I
  obtain ⟨xa,s⟩:=aJ az i I
  have Ik:(List.zipWith ar.cells r.ao.ak (kv bz az i))[i]? =some (ar.cells x xa):=dA hx (z9 B s)
  have Pi:=(C.Rb _ _ _ hx s).2
  refine fS U (IA i U (ai (n:=r.ao.ak.length) 13 U (g7 (by rw [iw B I]; exact C.oF))) AA dc I I) ?_
  refine fS U (nS ((i*2)+1) U (ai (n:=r.ao.ak.length) 13 U (g7 (by rw [iw B I]; exact C.oF))) (Nat.mul_pos I dc) fu U) ?_
  refine fS U (fV i 1 (vS xa.1 x.bo.length xa.2) U bX (ai (n:=r.ao.ak.length) 13 U (g7 (by rw [iw B I]; exact C.oF))) Ik U dc U) ?_
  refine fS U (IA i U (ai (n:=r.ao.ak.length) 13 U (g7 (by rw [iw B I]; exact C.oF))) AA dc I I) ?_
  refine fS U (nS ((i*2)+1) U (ai (n:=r.ao.ak.length) 13 U (g7 (by rw [iw B I]; exact C.oF))) (Nat.mul_pos I dc) fu U) ?_
  refine eU U<|iE U fun T32 GE=>?_
  refine cX (Ld x.bo xa.1 xa.2 sd) (aw (show il _ (rd xa.1 x.bo.length 3 (x.bo.map cw.cells)).holds from (du 6 U (bM hx s (by simp [ar.g0]))))<|aI) U fun K5 M2=>?_
  obtain ⟨P,T⟩:=K5
  try dsimp only
  refine aC (GE _ _ (aH [1,2,3,4,5,6,7,8,9,10,11,12,13]) (aH [1,2,3,4,5,6,7,8,9,10,11,12,13,14]) ?_)
  refine bY U fun T37 GT=>ew (k:=i) (o:=1) (vs:=[(vS P x.bo.length T)]) (es':=(List.zipWith ar.cells r.ao.ak (kv (bz++[(P,T)]) az (i+1)))) (C':=[_,_,_,_,_,_,_,_,_,_,_,_,_,_,(own J K 119 2 (List.zipWith ar.cells r.ao.ak (kv (bz++[(P,T)]) az (i+1))))]) 14 U U U RZ U U U U Ik U dc (by exact x_ (c:=ar.cells) (b:=(P,T)) hx B s) U<|aC (GT _ _ (aH [1,2,3,4,5,6,7,8,9,10,11,12,13]) ?_)
  refine fF U<|aG<|KK A8<|aj<|rP 2 [] mn ?_
  refine aC<|QM 0 U fun t=>?_
  simp only [List.length_map] at t
  refine IM (Y':=aV ar.owns (r.ao.ak.take (i+1)) (bz++[(P,T)])) 13 0 U U (rX (f:=ar.owns) (b:=(P,T)) hx B) ?_
  have IR:(vI (((i+1):Nat):Int))=(vI ((i:Int)+1)):=by exact cI I
  refine aS (A1 ⟨((i+1),(bz++[(P,T)])),⟨I,by simp; omega,Mg V B hx t⟩⟩ _ _ _ U os (ct 4<|aX U IR<|dh.nil _) (aH [1,2,3,4,5,6,7,8,9,10,11,12,0,13]))
 refine bu<|ab<|ab<|au<|KK A4<|ah fun _ Bi=>?_
 have J7:bz.length=r.ao.ak.length:=by omega
 have J8:=V
 rw [show (kv bz az i)=bz from xH I,show r.ao.ak.take i=r.ao.ak from List.take_of_length_le I]
 refine dG cu [2,5,8,10,12,14] [1,3,5] [0,1,2] [0,1,2,4,5,6,7,8,9,10,11,12,13] [0,1,2,3,4,5,6,7,8,9,10,11,12,13] U U U U U<|eS U (FA 7 U fu U)<|fS U (L1 (vS slA r.aQ.length slC) 3 U bX U U)<|eS U (FA 8 U fu U)<|fS U (L1 (vS drA r.bQ.length drC) 3 U bX U U)<|eS U (FA 10 U fu U)<|fS U (L1 (vS heA r.ay.length heC) 3 U bX U U)<|eS U (FA 7 U fu U)<|eS U (FA 8 U fu U)<|eS U (FA 10 U fu U)<|eU U<|iE U fun T40 Gf=>?_
 refine cX (we r.aQ slA slC sd) (bj [8]) U fun K8 NE=>?_
 obtain ⟨g,j⟩:=K8
 try dsimp only
 refine aC (Gf _ _ (aH [1,2,3,5,6,7,8,9,10,11,12,13,14]) (aH [1,2,3,4,5,6,7,8,9,10,11,12,13,14]) ?_)
 refine iE U fun T45 Go=>?_
 refine cX (we r.bQ drA drC sd) (bj [10]) U fun LA NN=>?_
 obtain ⟨w,AO⟩:=LA
 try dsimp only
 refine aC (Go _ _ (aH [2,3,4,6,7,8,9,10,11,12,13,14,15]) (aH [2,3,4,5,6,7,8,9,10,11,12,13,14,15]) ?_)
 refine iE U fun T50 Gr=>?_
 refine cX (IV (List.zipWith cP r.ay ha) heA r.ay.length heC sd (by exact fh M) (by exact GW _ _)) (bj [12]) U fun LE Ne=>?_
 obtain ⟨W,X⟩:=LE
 try dsimp only
 refine aC (Gr _ _ (aH [3,4,5,7,8,9,10,11,12,13,14,15,16]) (aH [3,4,5,6,7,8,9,10,11,12,13,14,15,16]) ?_)
 refine bY U fun T55 G2=>Us (cx.cells (cx.mk (ck.mk (bE.mk (br.mk a9 r.ao.aP.length S)) r.ao.g9 (br.mk J r.ao.ak.length K) (br.mk Y r.ao.ae.length Z) r.ao.cH r.ao.eV r.ao.cW) (br.mk g r.aQ.length j) (br.mk drA r.bQ.length drC) r.iK (br.mk heA r.ay.length heC))) U zS U U<|aC (G2 _ _ (aH [3,4,5,7,8,9,10,11,12,13,14,15,16]) ?_)
 refine bY U fun T56 Hi=>Us (cx.cells (cx.mk (ck.mk (bE.mk (br.mk a9 r.ao.aP.length S)) r.ao.g9 (br.mk J r.ao.ak.length K) (br.mk Y r.ao.ae.length Z) r.ao.cH r.ao.eV r.ao.cW) (br.mk g r.aQ.length j) (br.mk w r.bQ.length AO) r.iK (br.mk heA r.ay.length heC))) U zS U U<|aC (Hi _ _ (aH [3,4,5,7,8,9,10,11,12,13,14,15,16]) ?_)
 refine bY U fun T57 H1=>Us (cx.cells (cx.mk (ck.mk (bE.mk (br.mk a9 r.ao.aP.length S)) r.ao.g9 (br.mk J r.ao.ak.length K) (br.mk Y r.ao.ae.length Z) r.ao.cH r.ao.eV r.ao.cW) (br.mk g r.aQ.length j) (br.mk w r.bQ.length AO) r.iK (br.mk W r.ay.length X))) U UO U U<|aC (H1 _ _ (aH [3,4,5,7,8,9,10,11,12,13,14,15,16]) ?_)
 refine fF U<|KK Bi<|ah fun _ B3=>WS fun _ B7=>rP 4 [] (mc 6 U mn) ?_
 refine RK B7<|av<|oy ?_
 have E:(0≤r.ay.length)∧(([]:List cO).length=0)∧(∀ (k:Nat) y (a:cO),r.ay[k]? =some y→([]:List cO)[k]? =some a→a.2.length=y.length):=by exact ⟨Nat.zero_le _,rfl,fun k y a _ q=>by simp at q⟩
 refine bH (ι:={z:Nat×(List cO) // (z.1≤r.ay.length)∧(z.2.length=z.1)∧(∀ (k:Nat) y (a:cO),r.ay[k]? =some y→z.2[k]? =some a→a.2.length=y.length)}) [1,2,74] [2,3,4,5,6,7,8,9,10,11,12,13,14,15,16,17] U U (fun z=>[(75,(vI (z.1.1:Int)))]) (fun z=>[(bw (aV je (r.ay.take z.1.1) z.1.2)),(own W X 46 1 (List.zipWith cP r.ay (kv z.1.2 ha z.1.1)))]) (fun _=>rfl) (fun _=>rfl) (fun z=>r.ay.length-z.1.1) ⟨(0,([]:List cO)),E⟩ (aT U) (aH [2,3,4,5,6,7,8,9,10,11,12,13,14,15,16,17,0,1]) ?_
 clear E
 rintro ⟨⟨h,hz⟩,⟨l,A,L⟩⟩ J60 A2
 try dsimp only at l A L
 try dsimp only
 refine WS fun _ B9=>rP 1 [] mn ?_
 refine RK B9<|ah fun _ Ci=>bK U (aM fun Jg=>?_) (aL fun Jg=>?_)
 ·refine bu<|ab<|ab<|au<|KK B3<|ah fun _ Dt=>?_
  have Kg:sP r.ay hz:=⟨I,L⟩
  rw [show (kv hz ha h)=hz from xH I,show r.ay.take h=r.ay from List.take_of_length_le I]
  refine aj<|rP 1 [] (mc 5 U mn) ?_
  refine Pc U tv U<|RK Dt<|an ?_
  refine LX hQ (a9,S,J,K,bz,Y,Z,g,j,w,AO,W,X,hz) [3,15,14,2,1,0,17,16] [0] (mc 4 U mn) U (by show List.all _ _=true; simp only [fB,List.all_nil,gn,kp,Bool.and_true]; rfl) U U ?_
  exact ⟨⟨J7,J8⟩,Kg⟩
 refine WK Ci<|ah fun _ Ck=>av<|WS fun _ Cp=>rP 2 [] mn ?_
 refine RK Cp<|ah fun _ Cx=>dG cu [8,10] [6,7,8] [0] [0,1,2,3,4,5,6,7,8,9,10,11,12,13,14,15,16] [0,1,2,3,4,5,6,7,8,9,10,11,12,13,14,15,16,17] U U U U U<|eS U (FA 10 U fu U)<|eS U (L1 (vS W r.ay.length X) 5 U bX U U)<|eS U (MV U)<|eS U (FA 10 U fu U)<|eS U (L1 (vS W r.ay.length X) 5 U bX U U)<|eS U (MV U) ?_
 obtain ⟨ht,N⟩:=aJ r.ay h I
 obtain ⟨D,O⟩:=aJ ha h I
 have u:(List.zipWith cP r.ay (kv hz ha h))[h]? =some (cP ht D):=dA N (z9 A O)
 have Al:=hin.oM _ _ _ N O
 have e:=Al.oF
 have J9:=Al.len
 refine fS U (IA h U (ai (n:=r.ay.length) 17 U (fh (by rw [iw A I]; exact M))) ry dc I I) ?_
 refine fS U (fV h 0 (vS D.1.1 ht.length D.1.2) U bX (ai (n:=r.ay.length) 17 U (fh (by rw [iw A I]; exact M))) u U dc U) ?_
 refine fS U (IA h U (ai (n:=r.ay.length) 17 U (fh (by rw [iw A I]; exact M))) ry dc I I) ?_
 refine eU U<|iE U fun T67 IB=>?_
 refine cX (KG (List.zipWith ax.cells ht D.2) D.1.1 ht.length D.1.2 sd (by exact qC e) (by exact NV _ _)) (aw (show il _ (rd D.1.1 ht.length 7 (List.zipWith ax.cells ht D.2)).holds from (du 13 U (bM N O cb)))<|aI) U fun LT Op=>?_
 obtain ⟨G,H⟩:=LT
 try dsimp only
 refine aC (IB _ _ (aH [1,2,3,4,5,6,7,8,9,10,11,12,13,14,15,16,17]) (aH [1,2,3,4,5,6,7,8,9,10,11,12,13,14,15,16,17,18]) ?_)
 refine bY U fun T72 IO=>ew (k:=h) (o:=0) (vs:=[(vS G ht.length H)]) (es':=(List.zipWith cP r.ay (kv (hz++[((G,H),D.2)]) ha (h+1)))) (C':=[_,_,_,_,_,_,_,_,_,_,_,_,_,_,_,_,_,_,(own W X 46 1 (List.zipWith cP r.ay (kv (hz++[((G,H),D.2)]) ha (h+1))))]) 18 U U U UD U U U U u U dc (by exact x_ (b:=((G,H),D.2)) N A O) U<|aC (IO _ _ (aH [1,2,3,4,5,6,7,8,9,10,11,12,13,14,15,16,17]) ?_)
 refine fF U<|KK Cx<|WS fun _ C0=>rP 3 [] (mc 6 U mn) ?_
 have v:(List.zipWith cP r.ay (kv (hz++[((G,H),D.2)]) ha (h+1)))[h]? =some (cP ht ((G,H),D.2)):=dA N (Jr A)
 refine rS (IA h U (ai (n:=r.ay.length) 18 U (fh (by rw [iw (by simp; omega) I]; exact M))) ry dc I I) ?_
 refine rS (fV h 0 (vS G ht.length H) U bX (ai (n:=r.ay.length) 18 U (fh (by rw [iw (by simp; omega) I]; exact M))) v U dc U) ?_
 refine rP 2 [] mn ?_
 refine RK C0<|av<|oy ?_
 have E:(0≤ht.length)∧(([]:List RA).length=0):=by exact ⟨Nat.zero_le _,rfl⟩
 refine bH (ι:={z:Nat×(List RA) // (z.1≤ht.length)∧(z.2.length=z.1)}) [1,2,5,74,75,93] [2,3,4,5,6,7,8,9,10,11,12,13,14,15,16,17,18,19] U U (fun z=>[(94,(vI (z.1.1:Int)))]) (fun z=>[(bw (aV oz (ht.take z.1.1) z.1.2)),(own G H 45 7 (List.zipWith ax.cells ht (kv z.1.2 D.2 z.1.1)))]) (fun _=>rfl) (fun _=>rfl) (fun z=>ht.length-z.1.1) ⟨(0,([]:List RA)),E⟩ (aT U) (aH [2,3,4,5,6,7,8,9,10,11,12,13,14,15,16,17,18,19,0,1]) ?_
 clear E
 rintro ⟨⟨i,dz⟩,⟨p,F⟩⟩ J74 A3
 try dsimp only at p F
 try dsimp only
 refine WS fun _ C1=>rP 1 [] mn ?_
 refine RK C1<|ah fun _ C2=>bK U (aM fun Jm=>?_) (aL fun Jm=>?_)
 ·refine bu<|ab<|ab<|au<|aG<|KK Ck<|aj<|rP 2 [] mn ?_
  refine aC ?_
  have Lo:dz.length=ht.length:=by omega
  rw [show (kv dz D.2 i)=dz from xH I,show ht.take i=ht from List.take_of_length_le I]
  refine Qo (Z':=aV je (r.ay.take (h+1)) (hz++[((G,H),dz)])) 16 18 19 U U (rX (f:=je) (b:=((G,H),dz)) N A) ?_
  rw [Ks (y:=dz)]
  have Id:(vI (((h+1):Nat):Int))=(vI ((h:Int)+1)):=by exact cI I
  refine aS (A2 ⟨((h+1),(hz++[((G,H),dz)])),⟨I,by simp; omega,N6 N L A dso⟩⟩ _ _ _ U os (ct 3<|aX U Id<|dh.nil _) (aH [1,2,3,4,5,6,7,8,9,10,11,12,13,14,15,16,0,17]))
 refine WK C2<|ah fun _ C3=>av<|WS fun _ Di=>rP 2 [] mn ?_
 refine RK Di<|ah fun _ Do=>?_
 refine Ef 19 U (by rw [qC (by rw [iw F I]; exact e)]; omega) (fun Li AC=>?_)
 refine aj<|rP 3 [] (mc 5 U mn) ?_
 refine rS (IA h U (ai (n:=r.ay.length) 17 U (fh (by rw [iw (by simp; omega) I]; exact M))) ry dc I I) ?_
 refine rS (fV h 0 (vS G ht.length H) U bX (ai (n:=r.ay.length) 17 U (fh (by rw [iw (by simp; omega) I]; exact M))) v U dc U) ?_
 refine rP 1 [] mn ?_
 obtain ⟨d,hd⟩:=aJ ht i I
 obtain ⟨da,Ah⟩:=aJ D.2 i I
 have If:(List.zipWith ax.cells ht (kv dz D.2 i))[i]? =some (ax.cells d da):=dA hd (z9 F Ah)
 have PP:=Al.sig d (aR hd)
 refine rS (VI i U AC xM I I)<|rS (Ur ((i*7)+4) U AC fu U)<|bf 1 U<|RK Do<|aj<|rP 2 [] mn ?_
 refine rS (SX (yv U U AC) U U)<|rS (Ur (((i*7)+4)+2) U AC fu U) ?_
 refine rS (fV i 6 (vS da.1 d.cr.ag.length da.2) U bX (ai (n:=ht.length) 19 U (qC (by rw [iw F I]; exact e))) If U dc U) ?_
 refine cX (JK d.cr.ag da.1 da.2 sd) (aw (show il _ (rd da.1 d.cr.ag.length 2 (d.cr.ag.map aK.cells)).holds from (du 13 U (bM N O (cR _ (bM hd Ah (by simp [ax.g0]))))))<|aI) U fun La Or=>?_
 obtain ⟨R,AB⟩:=La
 try dsimp only
 refine rS (SX (yv U U AC) U U)<|rS (Ur (((i*7)+4)+2) U AC fu U)<|ew (k:=i) (o:=6) (vs:=[(vS R d.cr.ag.length AB)]) (es':=(List.zipWith ax.cells ht (kv (dz++[(R,AB)]) D.2 (i+1)))) (C':=[_,_,_,_,_,_,_,_,_,_,_,_,_,_,_,_,_,_,_,_,(own G H 45 7 (List.zipWith ax.cells ht (kv (dz++[(R,AB)]) D.2 (i+1))))]) 20 U U U Vi U U U U If U dc (by exact x_ (c:=ax.cells) (b:=(R,AB)) hd F Ah) U<|aC<|aG<|KK C3<|aj<|rP 2 [] mn ?_
 refine aC<|IM (Y':=aV oz (ht.take (i+1)) (dz++[(R,AB)])) 19 0 U U (rX (f:=oz) (b:=(R,AB)) hd F) ?_
 have IX:(vI (((i+1):Nat):Int))=(vI ((i:Int)+1)):=by exact cI I
 refine aS (A3 ⟨((i+1),(dz++[(R,AB)])),⟨I,by simp; omega⟩⟩ _ _ _ U os (ct 6<|aX U IX<|dh.nil _) (aH [1,2,3,4,5,6,7,8,9,10,11,12,13,14,15,16,17,18,0,19]))
end
section
open Go.RowKit
theorem w4 (r:bT) (kA:OA) (kC:Nat) (az:List RA) (cA:OA) (cC:Nat) (bA:OA) (bC:Nat) (slA:OA) (slC:Nat) (drA:OA) (drC:Nat) (ha:List cO) (heA:OA) (heC:Nat) (tz:List RA) (tA:OA) (tC:Nat) (ms:Value) (gw:Nat) (h i:Int) (t:aa) (hin:e7 r az ha) (hok:eP r):
 lv Tryz.prog 40 [(vP gw),(vI h),(vI i),(vA (aa.cells t))] [(rd kA r.ao.aP.length 9 (r.ao.aP.map al.cells)),(rd cA r.ao.ak.length 2 (List.zipWith ar.cells r.ao.ak az)),(eX (aV ar.g0 r.ao.ak az)),(rd bA r.ao.ae.length 4 (r.ao.ae.map bD.cells)),(rd slA r.aQ.length 1 (r.aQ.map iC)),(rd drA r.bQ.length 1 (r.bQ.map iC)),(rd heA r.ay.length 1 (List.zipWith cP r.ay ha)),(eX (aV ir r.ay ha)),(rd tA ((cN r).length) 1 (List.zipWith El (cN r) tz)),(eX (aV MA (cN r) tz)),(bV gw 91 (fH.cells (fH.mk (oI r kA kC cA cC bA bC slA slC drA drC heA heC) (br.mk tA ((cN r).length) tC) ms)))] (fun (x:Bool×Int×(OA)×Nat×(OA)×Nat×(List RA)×(OA)×Nat×(OA)×Nat×(OA)×Nat×(OA)×Nat×(List cO))=>bif x.1 then (vT [(vA (cx.cells (cx.mk (ck.mk (bE.mk (br.mk x.2.2.1 r.ao.aP.length x.2.2.2.1)) r.ao.g9 (br.mk x.2.2.2.2.1 r.ao.ak.length x.2.2.2.2.2.1) (br.mk x.2.2.2.2.2.2.2.1 r.ao.ae.length x.2.2.2.2.2.2.2.2.1) r.ao.cH r.ao.eV r.ao.cW) (br.mk x.2.2.2.2.2.2.2.2.2.1 r.aQ.length x.2.2.2.2.2.2.2.2.2.2.1) (br.mk x.2.2.2.2.2.2.2.2.2.2.2.1 r.bQ.length x.2.2.2.2.2.2.2.2.2.2.2.2.1) r.iK (br.mk x.2.2.2.2.2.2.2.2.2.2.2.2.2.1 ((gO r.ay h i t).length) x.2.2.2.2.2.2.2.2.2.2.2.2.2.2.1)))),(vI 0)]) else (vT [(vA (cx.cells (cx.mk (ck.mk (bE.mk (br.mk none 0 0)) 0 (br.mk none 0 0) (br.mk none 0 0) 0 0 0) (br.mk none 0 0) (br.mk none 0 0) 0 (br.mk none 0 0)))),(vI x.2.1)])) (fun (x:Bool×Int×(OA)×Nat×(OA)×Nat×(List RA)×(OA)×Nat×(OA)×Nat×(OA)×Nat×(OA)×Nat×(List cO))=>(x.1=true→((qf r h i t)=0∧(x.2.2.2.2.2.2.1.length=r.ao.ak.length∧rM r.ao.ak x.2.2.2.2.2.2.1)∧sP (gO r.ay h i t) x.2.2.2.2.2.2.2.2.2.2.2.2.2.2.2))∧(x.1=false→(x.2.1=(qf r h i t)∧ ¬ (qf r h i t)=0))) (fun (x:Bool×Int×(OA)×Nat×(OA)×Nat×(List RA)×(OA)×Nat×(OA)×Nat×(OA)×Nat×(OA)×Nat×(List cO))=>bif x.1 then [(own x.2.2.1 x.2.2.2.1 114 9 (r.ao.aP.map al.cells)),(own x.2.2.2.2.1 x.2.2.2.2.2.1 119 2 (List.zipWith ar.cells r.ao.ak x.2.2.2.2.2.2.1)),(bw (aV ar.owns r.ao.ak x.2.2.2.2.2.2.1)),(own x.2.2.2.2.2.2.2.1 x.2.2.2.2.2.2.2.2.1 121 4 (r.ao.ae.map bD.cells)),(own x.2.2.2.2.2.2.2.2.2.1 x.2.2.2.2.2.2.2.2.2.2.1 3 1 (r.aQ.map iC)),(own x.2.2.2.2.2.2.2.2.2.2.2.1 x.2.2.2.2.2.2.2.2.2.2.2.2.1 3 1 (r.bQ.map iC)),(own x.2.2.2.2.2.2.2.2.2.2.2.2.2.1 x.2.2.2.2.2.2.2.2.2.2.2.2.2.2.1 46 1 (List.zipWith cP (gO r.ay h i t) x.2.2.2.2.2.2.2.2.2.2.2.2.2.2.2)),(bw (aV je (gO r.ay h i t) x.2.2.2.2.2.2.2.2.2.2.2.2.2.2.2))] else []):=by
 have A4:=hin.line
 have Ck:=hin.iO
 have Cx:=hin.has
 have Bi:=hin.iN
 have A7:=hin.draw
 have B3:=dy (r:=r)
 have C1:=hok.num
 have C0:=hok.nh
 refine dj TZ Tryz.func40 U U fun w0 Q hQ hN=>?_
 try dsimp only
 refine WS fun _ Ah=>fM U fun b2=>AL U C8 fun b3=>bf 1 U<|RK Ah<|ah fun _ Al=>WS fun _ J=>bf 1 U<|rS (SX (bI U U) U U)<|rP 6 [] (mr 12 U mn) ?_
 refine cY (xs:=[.tmp 18]) (cs:=[(vI h)]) U cp jf U U U U (by simp [Value.cells]) U U fun b6=>?_
 refine rS (CL (dT.eq (j9 0 ((r.ay.length:Int)-1) ([h]) (some ⟨b6,0,none⟩) 1 sd) cS) (aw (aZ 0 U U (by simp [bB]) U)<|aI) U) ?_
 refine rP 2 [] mn ?_
 refine cQ (t:=22) U (bp fun AC=>?_) (bq fun AC=>?_)
 ·refine bf 11 U<|RK J<|aO U<|WS fun _ A0=>rS (SX (bh (xs:=[]) (cs:=(cx.cells (cx.mk (ck.mk (bE.mk (br.mk none 0 0)) 0 (br.mk none 0 0) (br.mk none 0 0) 0 0 0) (br.mk none 0 0) (br.mk none 0 0) 0 (br.mk none 0 0)))) U U (bg Hy U)) U U)<|ub U tv U<|rP 1 [] mn ?_
  refine RK A0<|an ?_
  refine LX hQ (false,2,none,0,none,0,[],none,0,none,0,none,0,none,0,[]) [] [0] (mc 1 U mn) U (by first|rfl|(show List.all _ _=true; simp only [cond_true,fB,List.all_nil,gn,kp,Bool.and_true]; rfl)) U ?_ ?_
  ·first|rfl|(simp only [cond_true,iU]; rfl)
  ·refine ⟨AZ,fun _=>?_⟩; first|exact pO (mD (r:=r) (h:=h) (i:=i) (t:=t) I)|exact pO (mD (r:=r) (h:=h) (i:=i) (t:=t) (fun q=>absurd q.2 asm))|exact pO (sU (r:=r) (t:=t) ⟨I,asm⟩ A hd H)
 refine rP 2 [] mn ?_
 refine cY (xs:=[.tmp 24]) (cs:=[(vI i)]) U cp jf U U U U (by simp [Value.cells]) U U fun b8=>?_
 refine rS (CL (dT.eq (z6 r kA kC az cA cC bA bC slA slC drA drC ha heA heC tz tA tC ms gw ([i]) (some ⟨b8,0,none⟩) 1 hin sd) cS) (lB [4,5,6,7,8,9,10,11,12,13,14]<|aw (aZ 0 U U (by simp [bB]) U)<|aI) U) ?_
 refine rP 3 [] mn ?_
 refine cQ (t:=29) U (bp fun AO=>?_) (bq fun AO=>?_)
 ·refine bf 4 U<|RK J<|aO U<|WS fun _ A1=>rS (SX (bh (xs:=[]) (cs:=(cx.cells (cx.mk (ck.mk (bE.mk (br.mk none 0 0)) 0 (br.mk none 0 0) (br.mk none 0 0) 0 0 0) (br.mk none 0 0) (br.mk none 0 0) 0 (br.mk none 0 0)))) U U (bg Hy U)) U U)<|HT U tv U<|rP 1 [] mn ?_
  refine RK A1<|an ?_
  refine LX hQ (false,2,none,0,none,0,[],none,0,none,0,none,0,none,0,[]) [] [0] (mc 2 U mn) U (by first|rfl|(show List.all _ _=true; simp only [cond_true,fB,List.all_nil,gn,kp,Bool.and_true]; rfl)) U ?_ ?_
  ·first|rfl|(simp only [cond_true,iU]; rfl)
  ·refine ⟨AZ,fun _=>?_⟩; first|exact pO (mD (r:=r) (h:=h) (i:=i) (t:=t) I)|exact pO (mD (r:=r) (h:=h) (i:=i) (t:=t) (fun q=>absurd q.2 asm))|exact pO (sU (r:=r) (t:=t) ⟨I,asm⟩ A hd H)
 refine fw 1 [] (mc 3 U mn) U<|rS (CL (FX t) (aI) U)<|rP 2 [] mn ?_
 refine RK J<|cy U (bp fun Z=>?_) (bq fun Z=>?_)
 ·refine WS fun _ b=>rS (SX (bh (xs:=[]) (cs:=(cx.cells (cx.mk (ck.mk (bE.mk (br.mk none 0 0)) 0 (br.mk none 0 0) (br.mk none 0 0) 0 0 0) (br.mk none 0 0) (br.mk none 0 0) 0 (br.mk none 0 0)))) U U (bg Hy U)) U U)<|HT U tv U<|rP 1 [] mn ?_
  refine RK b<|an ?_
  refine LX hQ (false,2,none,0,none,0,[],none,0,none,0,none,0,none,0,[]) [] [0] (mc 2 U mn) U (by first|rfl|(show List.all _ _=true; simp only [cond_true,fB,List.all_nil,gn,kp,Bool.and_true]; rfl)) U ?_ ?_
  ·first|rfl|(simp only [cond_true,iU]; rfl)
  ·refine ⟨AZ,fun _=>?_⟩; first|exact pO (mD (r:=r) (h:=h) (i:=i) (t:=t) I)|exact pO (mD (r:=r) (h:=h) (i:=i) (t:=t) (fun q=>absurd q.2 asm))|exact pO (sU (r:=r) (t:=t) ⟨I,asm⟩ A hd H)
 refine WK Al<|ah fun _ e=>WS fun _ f=>bf 1 U<|rS (SX (bI U U) U U)<|rP 4 [] (mr 14 U mn) ?_
 obtain ⟨ht,A⟩:=aJ r.ay ((h).toNat) I
 obtain ⟨C,E⟩:=aJ ha ((h).toNat) I
 have w:(List.zipWith cP r.ay ha)[(h).toNat]? =some (cP ht C):=dA A E
 refine rS (IA ((h).toNat) U (aD 10 U) ry dc I I) ?_
 have A3:=hin.oM _ _ _ A E
 have A8:=A3.oF
 have Cp:=(hok.oM ht (aR A)).1
 refine rS (fV ((h).toNat) 0 (vS C.1.1 ht.length C.1.2) U PG (aD 10 U) w U dc U)<|rP 1 [] mn ?_
 obtain ⟨d,hd⟩:=aJ ht ((i).toNat) I
 obtain ⟨da,K⟩:=aJ C.2 ((i).toNat) I
 have A2:(List.zipWith ax.cells ht C.2)[(i).toNat]? =some (ax.cells d da):=dA hd K
 refine rS (IA ((i).toNat) U (show il _ (rd C.1.1 ht.length 7 (List.zipWith ax.cells ht C.2)).holds from (du 11 U (bM A E cb))) xM dc I I)<|rS (nS (((i).toNat)*7) U (show il _ (rd C.1.1 ht.length 7 (List.zipWith ax.cells ht C.2)).holds from (du 11 U (bM A E cb))) (Nat.mul_pos I dc) QZ U)<|rS (fV ((i).toNat) 0 (vB d.Out) U VK (show il _ (rd C.1.1 ht.length 7 (List.zipWith ax.cells ht C.2)).holds from (du 11 U (bM A E cb))) A2 U dc U)<|RK f<|cy U (fun H=>?_) (fun H=>?_)
 ·refine WS fun _ g=>rS (SX (bh (xs:=[]) (cs:=(cx.cells (cx.mk (ck.mk (bE.mk (br.mk none 0 0)) 0 (br.mk none 0 0) (br.mk none 0 0) 0 0 0) (br.mk none 0 0) (br.mk none 0 0) 0 (br.mk none 0 0)))) U U (bg Hy U)) U U)<|HT U tv U<|rP 1 [] mn ?_
  refine RK g<|an ?_
  refine LX hQ (false,8,none,0,none,0,[],none,0,none,0,none,0,none,0,[]) [] [0] (mc 2 U mn) U (by first|rfl|(show List.all _ _=true; simp only [cond_true,fB,List.all_nil,gn,kp,Bool.and_true]; rfl)) U ?_ ?_
  ·first|rfl|(simp only [cond_true,iU]; rfl)
  ·refine ⟨AZ,fun _=>?_⟩; first|exact pO (mD (r:=r) (h:=h) (i:=i) (t:=t) I)|exact pO (mD (r:=r) (h:=h) (i:=i) (t:=t) (fun q=>absurd q.2 asm))|exact pO (sU (r:=r) (t:=t) ⟨I,asm⟩ A hd H)
 refine WK e<|WS fun _ j=>bf 1 U<|rS (SX (bI U U) U U)<|rP 1 [] mn ?_
 refine rS (Vy (cx.cells (oI r kA kC cA cC bA bC slA slC drA drC heA heC)) 14 U Td U U U)<|cX (M7 r kA kC az cA cC bA bC slA slC drA drC ha heA heC hin) (bj [4,5,6,7,8,9,10,11]) U fun A6 z=>?_
 obtain ⟨L,T,M,AA,S,N,V,O,W,P,X,R,Y,G⟩:=A6
 try dsimp only
 obtain ⟨⟨s,u⟩,D⟩:=z
 try dsimp only at s u D
 have A9:=D.1
 refine AL U C8 fun B7=>fP U tv U<|RK j<|ah fun _ l=>?_
 obtain ⟨B,F⟩:=aJ G ((h).toNat) (by have:=D.1; omega)
 have y:(List.zipWith cP r.ay G)[(h).toNat]? =some (cP ht B):=dA A F
 have A5:=D.2 _ _ _ A F
 refine Qn 8 A F U U ?_
 try dsimp only
 refine dB cu 9 kr<|mP 3 [] (mc 3 U mn) U<|dS (IA ((h).toNat) U (ai (n:=r.ay.length) 10 U (fh D.1)) ry dc I I)<|dS (fV ((h).toNat) 0 (vS B.1.1 ht.length B.1.2) U PG (ai (n:=r.ay.length) 10 U (fh D.1)) y U dc U)<|dP 2 [] (mc 14 U mn) ?_
 refine dS (SX (bh (xs:=[(1,.const (vB true)),(2,.tmp 59)]) (cs:=(bk.cells (bk.mk false true t (eB.mk 0 0 (br.mk none 0 0))))) U U (bg PO U)) U U) ?_
 obtain ⟨K,AB⟩:=aJ B.2 ((i).toNat) I
 have v:(List.zipWith ax.cells ht B.2)[(i).toNat]? =some (ax.cells d K):=dA hd AB
 refine dS (IA ((i).toNat) U (ai (n:=ht.length) 0 U (qC A5)) xM dc I I)<|cM<|ew (k:=(i).toNat) (o:=0) (vs:=(bk.cells (bk.mk false true t (eB.mk 0 0 (br.mk none 0 0))))) (es':=(List.zipWith ax.cells (ht.set (i).toNat (kJ t)) (B.2.set (i).toNat (none,0)))) (C':=[(own B.1.1 B.1.2 45 7 (List.zipWith ax.cells (ht.set (i).toNat (kJ t)) (B.2.set (i).toNat (none,0)))),_,_,_,_,_,_,_,_,_,_,_,_,_,_,_,_,_,_,_,_,_,_,_,_,_]) 0 U U U PR U U U U v U dc (by exact qG (c:=ax.cells) (m:=kJ t) (a:=(none,0))) U<|RK l<|ah fun _ p=>PL (d':=kJ t) 1 hd AB U U U ?_
 refine M0 (h':=(ht.set (i).toNat (kJ t))) (a':=(B.1,(B.2.set (i).toNat (none,0)))) 2 0 1 I (by have:=D.1; omega) U U ?_
 rw [← vY A,show List.zipWith cP r.ay G=List.zipWith cP (gO r.ay h i t) (G.set (h).toNat (B.1,(B.2.set (i).toNat (none,0)))) from by rw [vY A]; exact (G1 A F (by rw [List.length_set])).symm]
 replace D:=Qi (i:=i) (t:=t) D A F
 refine aj<|fw 1 [] (mc 1 U mn) U<|UA U tv U<|rP 1 [] mn ?_
 refine RK p<|an ?_
 refine LX hQ (true,0,L,T,M,AA,S,N,V,O,W,P,X,R,Y,(G.set (h).toNat (B.1,(B.2.set (i).toNat (none,0))))) [2,3,4,5,6,7,8,0] [0] (mc 11 U mn) U (by first|rfl|(show List.all _ _=true; simp only [cond_true,fB,List.all_nil,gn,kp,Bool.and_true]; rfl)) U ?_ ?_
 ·first|rfl|(simp only [cond_true,iU]; rfl)
 ·exact ⟨fun _=>⟨Nx ⟨I,Z⟩ A hd H,⟨s,u⟩,D⟩,M5⟩
end
section
open Go.RowKit
theorem IY (h i:Int) (t:aa) (r:bT) (kA:OA) (kC:Nat) (az:List RA) (cA:OA) (cC:Nat) (bA:OA) (bC:Nat) (slA:OA) (slC:Nat) (drA:OA) (drC:Nat) (ha:List cO) (heA:OA) (heC:Nat) (hin:e7 r az ha):
 lv Tryz.prog 17 [(vA (cx.cells (oI r kA kC cA cC bA bC slA slC drA drC heA heC))),(vI h),(vI i),(vA (aa.cells t))] [(rd eW 3 2 dZ),(rd kA r.ao.aP.length 9 (r.ao.aP.map al.cells)),(rd cA r.ao.ak.length 2 (List.zipWith ar.cells r.ao.ak az)),(eX (aV ar.g0 r.ao.ak az)),(rd bA r.ao.ae.length 4 (r.ao.ae.map bD.cells)),(rd slA r.aQ.length 1 (r.aQ.map iC)),(rd drA r.bQ.length 1 (r.bQ.map iC)),(rd heA r.ay.length 1 (List.zipWith cP r.ay ha)),(eX (aV ir r.ay ha))] (fun (x:Bool×Int×(OA)×Nat×(OA)×Nat×(List RA)×(OA)×Nat×(OA)×Nat×(OA)×Nat×(OA)×Nat×(List cO))=>bif x.1 then (vT [(vA (cx.cells (cx.mk (ck.mk (bE.mk (br.mk x.2.2.1 r.ao.aP.length x.2.2.2.1)) r.ao.g9 (br.mk x.2.2.2.2.1 r.ao.ak.length x.2.2.2.2.2.1) (br.mk x.2.2.2.2.2.2.2.1 r.ao.ae.length x.2.2.2.2.2.2.2.2.1) r.ao.cH r.ao.eV r.ao.cW) (br.mk x.2.2.2.2.2.2.2.2.2.1 r.aQ.length x.2.2.2.2.2.2.2.2.2.2.1) (br.mk x.2.2.2.2.2.2.2.2.2.2.2.1 r.bQ.length x.2.2.2.2.2.2.2.2.2.2.2.2.1) r.iK (br.mk x.2.2.2.2.2.2.2.2.2.2.2.2.2.1 ((gO r.ay h i t).length) x.2.2.2.2.2.2.2.2.2.2.2.2.2.2.1)))),(vI 0)]) else (vT [(vA (cx.cells (cx.mk (ck.mk (bE.mk (br.mk none 0 0)) 0 (br.mk none 0 0) (br.mk none 0 0) 0 0 0) (br.mk none 0 0) (br.mk none 0 0) 0 (br.mk none 0 0)))),(vI x.2.1)])) (fun (x:Bool×Int×(OA)×Nat×(OA)×Nat×(List RA)×(OA)×Nat×(OA)×Nat×(OA)×Nat×(OA)×Nat×(List cO))=>(x.1=true→((gI r h i t)=0∧(x.2.2.2.2.2.2.1.length=r.ao.ak.length∧rM r.ao.ak x.2.2.2.2.2.2.1)∧sP (gO r.ay h i t) x.2.2.2.2.2.2.2.2.2.2.2.2.2.2.2))∧(x.1=false→(x.2.1=(gI r h i t)∧ ¬ (gI r h i t)=0))) (fun (x:Bool×Int×(OA)×Nat×(OA)×Nat×(List RA)×(OA)×Nat×(OA)×Nat×(OA)×Nat×(OA)×Nat×(List cO))=>bif x.1 then [(own x.2.2.1 x.2.2.2.1 114 9 (r.ao.aP.map al.cells)),(own x.2.2.2.2.1 x.2.2.2.2.2.1 119 2 (List.zipWith ar.cells r.ao.ak x.2.2.2.2.2.2.1)),(bw (aV ar.owns r.ao.ak x.2.2.2.2.2.2.1)),(own x.2.2.2.2.2.2.2.1 x.2.2.2.2.2.2.2.2.1 121 4 (r.ao.ae.map bD.cells)),(own x.2.2.2.2.2.2.2.2.2.1 x.2.2.2.2.2.2.2.2.2.2.1 3 1 (r.aQ.map iC)),(own x.2.2.2.2.2.2.2.2.2.2.2.1 x.2.2.2.2.2.2.2.2.2.2.2.2.1 3 1 (r.bQ.map iC)),(own x.2.2.2.2.2.2.2.2.2.2.2.2.2.1 x.2.2.2.2.2.2.2.2.2.2.2.2.2.2.1 46 1 (List.zipWith cP (gO r.ay h i t) x.2.2.2.2.2.2.2.2.2.2.2.2.2.2.2)),(bw (aV je (gO r.ay h i t) x.2.2.2.2.2.2.2.2.2.2.2.2.2.2.2))] else []):=by
 have u:=hin.line
 have Al:=hin.iO
 have A0:=hin.has
 have AC:=hin.iN
 have z:=hin.draw
 have e:=dy (r:=r)
 refine dj kr Tryz.func17 U U fun w0 Q hQ hN=>?_
 try dsimp only
 refine WS fun _ s=>fM U fun b2=>fM U fun b3=>AL U C8 fun b4=>bf 1 U<|RK s<|WS fun _ Y=>rP 1 [] (mc 2 U mn) ?_
 refine cX (nZ r kA kC az cA cC bA bC slA slC drA drC ha heA heC hin) (bj [3,4,5,6,7,8,9,10,11]) U fun y6 g=>?_
 obtain ⟨k,Ah,q,S,m,o,p⟩:=y6
 cases k
 ·obtain ⟨M,he⟩:=g.2 rfl
  try dsimp only at M he
  subst M
  try dsimp only [cond_true,cond_false,List.cons_append,List.nil_append]
  refine bf 5 U<|RK Y<|ah fun _ y=>WS fun _ AA=>rP 2 [] mn ?_
  refine RK AA<|bK U (bq fun T=>?_) (bp fun T=>?_)
  ·exact absurd T he
  refine WS fun _ V=>rS (SX (bh (xs:=[]) (cs:=(cx.cells (cx.mk (ck.mk (bE.mk (br.mk none 0 0)) 0 (br.mk none 0 0) (br.mk none 0 0) 0 0 0) (br.mk none 0 0) (br.mk none 0 0) 0 (br.mk none 0 0)))) U U (bg Hy U)) U U)<|bf 1 U<|fP U tv U<|rP 1 [] mn ?_
  refine RK V<|an ?_
  refine LX hQ (false,(cK r),none,0,none,0,[],none,0,none,0,none,0,none,0,[]) [] [0] (mc 0 U mn) U (by first|rfl|(show List.all _ _=true; simp only [cond_true,fB,List.all_nil,gn,kp,Bool.and_true]; rfl)) U ?_ ?_
  ·first|rfl|(simp only [cond_true,iU]; rfl)
  ·refine ⟨AZ,fun _=>?_⟩; first|exact Jq (rW (h:=h) (i:=i) (t:=t) he) he|exact Jq (oQ (h:=h) (i:=i) (t:=t) b) he
 obtain ⟨he,f⟩:=g.1 rfl
 try dsimp only [cond_true,cond_false,List.cons_append,List.nil_append]
 have b:=he
 try dsimp only at f
 have d:=(iI he).2
 refine bf 5 U<|RK Y<|ah fun _ W=>WS fun _ X=>bf 1 U<|rS (SX (bU (r:= .bool false) U U U mA) U U)<|RK X<|aW U<|WK W<|WS fun _ N=>rP 4 [] (mc 5 U mn) ?_
 refine cX (w4 r kA kC az cA cC bA bC slA slC drA drC ha heA heC p m o (Value.map (some S)) q h i t hin (by exact d)) (lB [8,9,10,11,12,13,14,15]<|aw (ai (n:=(cN r).length) 1 U (mS (by rw [e]; exact f)))<|aw (cL 2 U tT)<|fD 0 U U<|aI) U fun v P=>?_
 obtain ⟨l,w,A,G,B,H,R,C,AB,D,J,E,K,F,L,j⟩:=v
 cases l
 ·obtain ⟨M,he⟩:=P.2 rfl
  try dsimp only at M he
  subst M
  try dsimp only [cond_true,cond_false,List.cons_append,List.nil_append]
  refine bf 2 U<|Pc U tv U<|rP 1 [] mn ?_
  refine RK N<|an ?_
  refine LX hQ (false,(qf r h i t),none,0,none,0,[],none,0,none,0,none,0,none,0,[]) [] [0] (mc 4 U mn) U (by first|rfl|(show List.all _ _=true; simp only [cond_true,fB,List.all_nil,gn,kp,Bool.and_true]; rfl)) U ?_ ?_
  ·first|rfl|(simp only [cond_true,iU]; rfl)
  ·refine ⟨AZ,fun _=>?_⟩; first|exact Jq (rW (h:=h) (i:=i) (t:=t) he) he|exact Jq (oQ (h:=h) (i:=i) (t:=t) b) he
 obtain ⟨O,⟨Z,a⟩,c⟩:=P.1 rfl
 try dsimp only [cond_true,cond_false,List.cons_append,List.nil_append]
 try dsimp only at O Z a c
 refine bf 2 U<|jm (vs:=(cx.cells (cx.mk (ck.mk (bE.mk (br.mk A r.ao.aP.length G)) r.ao.g9 (br.mk B r.ao.ak.length H) (br.mk C r.ao.ae.length AB) r.ao.cH r.ao.eV r.ao.cW) (br.mk D r.aQ.length J) (br.mk E r.bQ.length K) r.iK (br.mk F ((gO r.ay h i t).length) L)))) (cs':=(cx.cells (cx.mk (ck.mk (bE.mk (br.mk A r.ao.aP.length G)) r.ao.g9 (br.mk B r.ao.ak.length H) (br.mk C r.ao.ae.length AB) r.ao.cH r.ao.eV r.ao.cW) (br.mk D r.aQ.length J) (br.mk E r.bQ.length K) r.iK (br.mk F ((gO r.ay h i t).length) L)))) (C':=[_,_,_,_,_,_,_,_,_,_,_,_,(bV b4 35 (cx.cells (cx.mk (ck.mk (bE.mk (br.mk A r.ao.aP.length G)) r.ao.g9 (br.mk B r.ao.ak.length H) (br.mk C r.ao.ae.length AB) r.ao.cH r.ao.eV r.ao.cW) (br.mk D r.aQ.length J) (br.mk E r.bQ.length K) r.iK (br.mk F ((gO r.ay h i t).length) L)))),_,_,_,_,_,_,_,_,_,_,_]) 12 U U U tv U U U U U U U<|rP 1 [] mn ?_
 refine RK N<|an ?_
 refine LX hQ (true,0,A,G,B,H,R,C,AB,D,J,E,K,F,L,j) [0,1,2,3,4,5,6,7] [0] (mc 12 U mn) U (by first|rfl|(show List.all _ _=true; simp only [cond_true,fB,List.all_nil,gn,kp,Bool.and_true]; rfl)) U ?_ ?_
 ·first|rfl|(simp only [cond_true,iU]; rfl)
 ·exact ⟨fun _=>⟨(oQ he).trans O,⟨Z,a⟩,c⟩,M5⟩
end
section
open Go.RowKit
theorem Oh (la:List Int) (laA:OA) (laC:Nat) (lb:List Int) (lbA:OA) (lbC:Nat) (h1:la.length≤1000000) (h2:lb.length≤1000000):
 dT Tryz.prog 43 [(vS laA la.length laC),(vS lbA lb.length lbC)] [(rd laA la.length 1 (la.map iC)),(rd lbA lb.length 1 (lb.map iC))] (vB (decide (la=lb))):=by
 refine bx kr Tryz.func43 U U fun W Q hQ hN=>?_
 try dsimp only
 refine WS fun _ K=>bf 1 U<|RK K<|ah fun _ L=>WS fun _ M=>rP 5 [] mn ?_
 refine RK M<|cy U (bp fun hl=>?_) (bq fun hl=>?_)
 ·refine WS fun _ N=>rP 1 [] mn ?_
  refine RK N<|an<|Q1 hQ U U U ?_
  first|exact cB (cf (nQ hx hy h)).symm|exact cB (fI (nF I A I)).symm|exact cB (cf (fun e=>by subst e; omega)).symm
 refine WK L<|ah fun _ O=>WS fun _ P=>rP 3 [] mn ?_
 refine RK P<|av ?_
 have B:(0≤la.length)∧(la.take 0=lb.take 0):=by simp
 refine bH (ι:={z:Nat // (z≤la.length)∧(la.take z=lb.take z)}) [0,1,12] [0,1] U U (fun z=>[(13,(vI (z.1:Int)))]) (fun z=>[]) (fun _=>rfl) (fun _=>rfl) (fun z=>la.length-z.1) ⟨0,B⟩ (aT U) (aH [0,1]) ?_
 clear B
 rintro ⟨i,⟨T,A⟩⟩ J7 J
 try dsimp only
 refine WS fun _ R=>rP 1 [] mn ?_
 refine RK R<|ah fun _ S=>bK U (aM fun AB=>?_) (aL fun AB=>?_)
 ·refine bu<|ab<|ab<|au<|KK O<|WS fun _ G=>rP 1 [] mn ?_
  refine RK G<|an<|Q1 hQ U U U ?_
  first|exact cB (cf (nQ hx hy h)).symm|exact cB (fI (nF I A I)).symm|exact cB (cf (fun e=>by subst e; omega)).symm
 refine WK S<|ah fun _ C=>av<|WS fun _ D=>bf 2 U<|RK D<|ah fun _ E=>dB cu 9 kr<|dP 2 [] mn ?_
 obtain ⟨x,hx⟩:=aJ la i I
 have AA:=bG iC hx
 refine dS (IA i U (aD 0 U) cp dc I I)<|dS (fV i 0 (vI x) U bX (aD 0 U) AA U dc U)<|dP 2 [] mn ?_
 obtain ⟨y,hy⟩:=aJ lb i I
 have V:=bG iC hy
 refine dS (IA i U (aD 1 U) cp dc I I)<|dS (fV i 0 (vI y) U bX (aD 1 U) V U dc U)<|dP 1 [] mn ?_
 refine cM<|RK E<|cy U (bp fun h=>?_) (bq fun h=>?_)
 ·refine WS fun _ F=>rP 1 [] mn ?_
  refine RK F<|an<|Q1 hQ U U U ?_
  first|exact cB (cf (nQ hx hy h)).symm|exact cB (fI (nF I A I)).symm|exact cB (cf (fun e=>by subst e; omega)).symm
 refine bZ<|aG<|KK C<|aj<|rP 2 [] mn ?_
 refine aC ?_
 have H:(vI (((i+1):Nat):Int))=(vI ((i:Int)+1)):=by exact cI I
 refine aS (J ⟨(i+1),⟨I,ug A hx hy h⟩⟩ _ _ _ U os (ct 3<|aX U H<|dh.nil _) (aH [0,1]))
theorem HK (h i:Int) (t:aa) (r:bT) (kA:OA) (kC:Nat) (az:List RA) (cA:OA) (cC:Nat) (bA:OA) (bC:Nat) (slA:OA) (slC:Nat) (drA:OA) (drC:Nat) (ha:List cO) (heA:OA) (heC:Nat) (hin:e7 r az ha):
 lv Tryz.prog 19 [(vA (cx.cells (oI r kA kC cA cC bA bC slA slC drA drC heA heC))),(vI h),(vI i),(vA (aa.cells t))] [(rd eW 3 2 dZ),(rd kA r.ao.aP.length 9 (r.ao.aP.map al.cells)),(rd cA r.ao.ak.length 2 (List.zipWith ar.cells r.ao.ak az)),(eX (aV ar.g0 r.ao.ak az)),(rd bA r.ao.ae.length 4 (r.ao.ae.map bD.cells)),(rd slA r.aQ.length 1 (r.aQ.map iC)),(rd drA r.bQ.length 1 (r.bQ.map iC)),(rd heA r.ay.length 1 (List.zipWith cP r.ay ha)),(eX (aV ir r.ay ha))] (fun (x:(OA)×Nat)=>(vT [(vS x.1 ((eO r h i t).length) x.2),(vI (gI r h i t))])) (fun (x:(OA)×Nat)=>True) (fun (x:(OA)×Nat)=>[(own x.1 x.2 3 1 ((eO r h i t).map iC))]):=by
 have IO:=hin.line
 have Li:=hin.iO
 have Lk:=hin.has
 have J6:=hin.iN
 have J4:=hin.draw
 have Di:=dy (r:=r)
 refine dj kr Tryz.func19 U U fun w0 Q hQ hN=>?_
 try dsimp only
 refine WS fun _ IB=>fM U fun b2=>fM U fun b3=>bf 2 U<|RK IB<|WS fun _ A0=>rP 1 [] (mc 1 U mn) ?_
 refine cX (nZ r kA kC az cA cC bA bC slA slC drA drC ha heA heC hin) (bj [2,3,4,5,6,7,8,9,10]) U fun y5 Do=>?_
 obtain ⟨EQ,LT,v,G,f,g,AT⟩:=y5
 cases EQ
 ·obtain ⟨B,he⟩:=Do.2 rfl
  try dsimp only at B he
  subst B
  try dsimp only [cond_true,cond_false,List.cons_append,List.nil_append]
  refine bf 5 U<|RK A0<|ah fun _ J2=>WS fun _ AC=>rP 2 [] mn ?_
  refine RK AC<|bK U (bq fun w=>?_) (bp fun w=>?_)
  ·exact absurd w he
  refine WS fun _ AO=>rP 1 [] mn ?_
  have A:gI r h i t=cK r:=rW he
  have C:eO r h i t=[]:=wN (by rw [A]; exact he)
  refine dH 3 1 ?_
  rw [show (own none 0 3 1 ([]:List (List Value)))=own none 0 3 1 ((eO r h i t).map iC) from by rw [C]; rfl]
  refine rP 2 [] mn ?_
  refine RK AO<|an ?_
  refine LX hQ (none,0) [0] [] mn U U U ?_ ?_
  ·first|rfl|(rw [A,C]; rfl)|(rw [A]; rfl)
  ·trivial
 obtain ⟨he,m⟩:=Do.1 rfl
 try dsimp only [cond_true,cond_false,List.cons_append,List.nil_append]
 have AD:=he
 try dsimp only at m
 have C1:=(iI he).2
 refine bf 5 U<|RK A0<|ah fun _ Ah=>WS fun _ Al=>bf 1 U<|rS (SX (bU (r:= .bool false) U U U mA) U U)<|RK Al<|aW U<|WK Ah<|WS fun _ Z=>rP 4 [] (mc 4 U mn) ?_
 refine cX (w4 r kA kC az cA cC bA bC slA slC drA drC ha heA heC AT f g (Value.map (some G)) v h i t hin (by exact C1)) (lB [7,8,9,10,11,12,13,14]<|aw (ai (n:=(cN r).length) 1 U (mS (by rw [Di]; exact m)))<|aw (cL 2 U tT)<|fD 0 U U<|aI) U fun IX d=>?_
 obtain ⟨Eq,Jg,L,S,M,T,o,N,AA,O,V,P,W,R,X,Dt⟩:=IX
 cases Eq
 ·obtain ⟨B,he⟩:=d.2 rfl
  try dsimp only at B he
  subst B
  try dsimp only [cond_true,cond_false,List.cons_append,List.nil_append]
  refine bf 3 U<|AL U C8 fun K5=>fP U tv U<|bf 1 U<|RK Z<|ah fun _ J3=>WS fun _ A1=>rP 2 [] mn ?_
  refine RK A1<|bK U (bq fun y=>?_) (bp fun y=>?_)
  ·exact absurd y he
  refine WS fun _ A2=>rP 1 [] mn ?_
  have A:gI r h i t=qf r h i t:=oQ AD
  have C:eO r h i t=[]:=wN (by rw [A]; exact he)
  refine dH 3 1 ?_
  rw [show (own none 0 3 1 ([]:List (List Value)))=own none 0 3 1 ((eO r h i t).map iC) from by rw [C]; rfl]
  refine rP 2 [] mn ?_
  refine RK A2<|an ?_
  refine LX hQ (none,0) [0] [] mn U U U ?_ ?_
  ·first|rfl|(rw [A,C]; rfl)|(rw [A]; rfl)
  ·trivial
 obtain ⟨E,⟨j,Cp⟩,J⟩:=d.1 rfl
 try dsimp only [cond_true,cond_false,List.cons_append,List.nil_append]
 try dsimp only at E j Cp J
 have l:gI r h i t=0:=(oQ AD).trans E
 have Cx:=hin.rep j Cp J
 refine bf 3 U<|AL U C8 fun K8=>fP U tv U<|bf 1 U<|RK Z<|ah fun _ A3=>WS fun _ A4=>bf 1 U<|rS (SX (bU (r:= .bool false) U U U mA) U U)<|RK A4<|aW U<|WK A3<|WS fun _ A5=>rP 1 [] (mc 0 U mn) ?_
 refine cX (nZ (jx r h i t) L S o M T N AA O V P W Dt R X (by exact Cx)) (fD 15 U U<|aw (ai (n:=r.ao.aP.length) 1 U sm)<|aw (ai (n:=r.ao.ak.length) 2 U (g7 j))<|aw (cL 3 U iT)<|aw (ai (n:=r.ao.ae.length) 4 U sm)<|aw (ai (n:=r.aQ.length) 5 U sm)<|aw (ai (n:=r.bQ.length) 6 U sm)<|aw (ai (n:=(gO r.ay h i t).length) 7 U (fh J.1))<|aw (hE 8 U J)<|aI) U fun Id e=>?_
 obtain ⟨FS,Jm,s,p,Fd,Fn,K0⟩:=Id
 cases FS
 ·obtain ⟨B,he⟩:=e.2 rfl
  try dsimp only at B he
  subst B
  try dsimp only [cond_true,cond_false,List.cons_append,List.nil_append]
  exact absurd (yI l) he
 obtain ⟨he,m⟩:=e.1 rfl
 try dsimp only [cond_true,cond_false,List.cons_append,List.nil_append]
 have C2:=nt AD
 have F:=mo AD
 have C3:=nt he
 have J5:=mo he
 refine bf 5 U<|RK A5<|WS fun _ A6=>bf 1 U<|RK A6<|ah fun _ A7=>WS fun _ A8=>bf 1 U<|rS (SX (bI U U) U U)<|rP 2 [] (mc 13 U mn) ?_
 refine cX (F2 G) (aI) U fun Go J7=>?_
 try dsimp only
 refine cX (yN (aF r) G Go sd) (bj [17,0]) U fun If J8=>?_
 obtain ⟨K4,LE⟩:=If
 try dsimp only
 rw [show (aF r).length=(df ((aF r).map (·.1))).length from by rw [gl,List.length_map]]
 refine rP 1 [] mn ?_
 have C0:(df ((aF r).map (·.1))).length≤5:=by rw [gl,List.length_map]; exact F
 refine rP 1 [] mn ?_
 refine RK A8<|av<|fQ 3 1 ?_
 have D:(0≤(df ((aF r).map (·.1))).length):=by exact Nat.zero_le _
 refine bH (ι:={z:Nat×(OA)×Nat // (z.1≤(df ((aF r).map (·.1))).length)}) [10,13,47,48] [1,3,4,5,6,8,9,10,11,12,13,14,15,16,17,18,19,22,23,24,25,26,27,28,29,30] U U (fun z=>[(15,(vS z.1.2.1 ((((df ((aF r).map (·.1))).take z.1.1).filter (fun u=> !decide (c_ (aF r) u (aA (aF r) u)=c_ (aF (jx r h i t)) u (aA (aF (jx r h i t)) u)))).length) z.1.2.2)),(49,(vI (z.1.1:Int)))]) (fun z=>[(own z.1.2.1 z.1.2.2 3 1 ((((df ((aF r).map (·.1))).take z.1.1).filter (fun u=> !decide (c_ (aF r) u (aA (aF r) u)=c_ (aF (jx r h i t)) u (aA (aF (jx r h i t)) u)))).map iC))]) (fun _=>rfl) (fun _=>rfl) (fun z=>(df ((aF r).map (·.1))).length-z.1.1) ⟨(0,none,0),D⟩ (aT U) (aH [1,3,4,5,6,8,9,10,11,12,13,14,15,16,17,18,19,22,23,24,25,26,27,28,29,30,0]) ?_
 clear D
 rintro ⟨⟨k,a,c⟩,K⟩ J65 Y
 try dsimp only at K
 try dsimp only
 have La:((((df ((aF r).map (·.1))).take k).filter (fun u=> !decide (c_ (aF r) u (aA (aF r) u)=c_ (aF (jx r h i t)) u (aA (aF (jx r h i t)) u))))).length≤12:=Nat.le_trans (List.length_filter_le _ _) (by rw [List.length_take]; omega)
 refine WS fun _ A9=>rP 1 [] mn ?_
 refine RK A9<|ah fun _ Bi=>bK U (aM fun H1=>?_) (aL fun H1=>?_)
 ·refine bu<|ab<|ab<|au<|KK A7<|WS fun _ B9=>rP 1 [] mn ?_
  have A:=l
  have C:eO r h i t=(((df ((aF r).map (·.1))).take k).filter (fun u=> !decide (c_ (aF r) u (aA (aF r) u)=c_ (aF (jx r h i t)) u (aA (aF (jx r h i t)) u)))):=by rw [Er l,List.take_of_length_le I]
  rw [← C]
  refine rP 2 [] mn ?_
  refine RK B9<|an ?_
  refine LX hQ (a,c) [26] [] mn U U U ?_ ?_
  ·first|rfl|(rw [A,C]; rfl)|(rw [A]; rfl)
  ·trivial
 refine WK Bi<|ah fun _ b=>av<|WS fun _ B3=>?_
 obtain ⟨x,hx⟩:=aJ (df ((aF r).map (·.1))) k I
 have IR:=bG iC hx
 refine rS (IA k U (ai (n:=(df ((aF r).map (·.1))).length) 0 U sm) cp dc I I)<|rS (fV k 0 (vI x) U bX (ai (n:=(df ((aF r).map (·.1))).length) 0 U sm) IR U dc U)<|bf 1 U<|RK B3<|WS fun _ B7=>rP 2 [] mn ?_
 refine cX (AB r kA kC cA cC bA bC slA slC drA drC heA heC f ((cN r).length) g G v (aF r) x (by exact C2) (by exact C4 (aR hx)) I) (bj [13,16]) U fun Ik J9=>?_
 obtain ⟨GE,Gr⟩:=Ik
 try dsimp only
 refine rP 2 [] mn ?_
 refine cX (AB (bT.mk r.ao r.aQ r.bQ r.iK (gO r.ay h i t)) L S M T N AA O V P W R X Fd ((cN (jx r h i t)).length) Fn p s (aF (jx r h i t)) x (by exact C3) (by exact fun q=>by have:=KU E x; rw [q] at this; exact C4 (aR hx) (Option.not_isSome_iff_eq_none.1 (by rw [← this]; decide))) I) (bj [2,5]) U fun In Kg=>?_
 obtain ⟨GT,G2⟩:=In
 try dsimp only
 refine rS (CL (Oh (c_ (aF r) x (aA (aF r) x)) GE Gr (c_ (aF (jx r h i t)) x (aA (aF (jx r h i t)) x)) GT G2 (by exact Nat.le_trans x4 I) (by exact Nat.le_trans x4 I)) (aw (ai (n:=(c_ (aF r) x (aA (aF r) x)).length) 1 U sm)<|aw (ai (n:=(c_ (aF (jx r h i t)) x (aA (aF (jx r h i t)) x)).length) 0 U sm)<|aI) U)<|rP 1 [] mn ?_
 refine RK B7<|bK U (bq fun H=>?_) (bp fun H=>?_)
 ·refine bZ<|aG<|KK b<|aj<|rP 1 [] mn ?_
  have C0:(df ((aF r).map (·.1))).length≤5:=by rw [gl,List.length_map]; exact F
  refine rP 1 [] mn ?_
  refine aC ?_
  rw [show (((df ((aF r).map (·.1))).take k).filter (fun u=> !decide (c_ (aF r) u (aA (aF r) u)=c_ (aF (jx r h i t)) u (aA (aF (jx r h i t)) u))))=(((df ((aF r).map (·.1))).take (k+1)).filter (fun u=> !decide (c_ (aF r) u (aA (aF r) u)=c_ (aF (jx r h i t)) u (aA (aF (jx r h i t)) u)))) from (Fc hx (by simpa using H)).symm]
  have Ck:(vI (((k+1):Nat):Int))=(vI ((k:Int)+1)):=by exact cI I
  refine aS (Y ⟨((k+1),a,c),(by first|omega|(simp only []; omega))⟩ _ _ _ U (by first|omega|(dsimp only; omega)) (ct 5<|aX U Ck<|dh.nil _) (aH [2,3,4,5,6,7,8,9,10,11,12,13,14,15,16,17,18,19,20,21,22,23,24,25,26,27,28]))
 refine aj<|rP 2 [] mn ?_
 refine cY (xs:=[.tmp 62]) (cs:=[(vI x)]) U cp jf U U U U (by simp [Value.cells]) U U fun LA=>?_
 refine db (es2:=(List.map iC (((df ((aF r).map (·.1))).take (k+1)).filter (fun u=> !decide (c_ (aF r) u (aA (aF r) u)=c_ (aF (jx r h i t)) u (aA (aF (jx r h i t)) u)))))) (m':=(((df ((aF r).map (·.1))).take (k+1)).filter (fun u=> !decide (c_ (aF r) u (aA (aF r) u)=c_ (aF (jx r h i t)) u (aA (aF (jx r h i t)) u)))).length) 29 U U U p5 U U sm (aZ (es:=List.map iC [x]) 0 U U (by simp [bB]) U) (kd _) os (by simp only [maxLen]; first|omega|(simp; omega)) (by rw [wk hx (by simpa using H)]; simp) (by rw [wk hx (by simpa using H)]; simp) U fun Gf Hi=>?_
 try dsimp only
 refine bf 1 U<|aC<|aG<|KK b<|aj<|rP 1 [] mn ?_
 have C0:(df ((aF r).map (·.1))).length≤5:=by rw [gl,List.length_map]; exact F
 refine rP 1 [] mn ?_
 refine aC ?_
 have Ci:(vI (((k+1):Nat):Int))=(vI ((k:Int)+1)):=by exact cI I
 refine aS (Y ⟨((k+1),Gf,Hi),(by first|omega|(simp only []; omega))⟩ _ _ _ U (by first|omega|(dsimp only; omega)) (ct 5<|aX U Ci<|dh.nil _) (aH [3,4,5,6,7,8,9,10,11,12,13,14,15,16,17,18,19,20,21,22,23,24,25,26,27,28,29]))
end
section
open Go.RowKit
theorem l4 (x y:Int):
 dT Tryz.prog 18 [(vI x),(vI y)] [] (vA (aa.cells (aa.mk x y))):=by
 refine bx kr Tryz.func18 U U fun D Q hQ hN=>?_
 try dsimp only
 refine WS fun _ A=>AL U de fun C=>RK A<|WS fun _ B=>rP 2 [] mn ?_
 refine rS (SX (bh (xs:=[(0,.tmp 5),(1,.tmp 6)]) (cs:=(aa.cells (aa.mk x y))) U U (bg gf U)) U U)<|fP U cm U<|RK B<|an ?_
 exact Ij hQ [0] (mc 0 U mn) U U
theorem Ab (x:Int):
 dT Tryz.prog 58 [(vI x)] [] (vA (cD.cells (cD.mk 0 (aa.mk x x)))):=by
 refine bx kr Tryz.func58 U U fun D Q hQ hN=>?_
 try dsimp only
 refine WS fun _ A=>AL U Cf fun C=>RK A<|WS fun _ B=>rP 2 [] mn ?_
 refine rS (CL (l4 x x) (aI) U)<|rS (SX (bh (xs:=[(1,.tmp 5)]) (cs:=(cD.cells (cD.mk 0 (aa.mk x x)))) U U (bg Tp U)) U U)<|fP U IU U<|RK B<|an ?_
 exact Ij hQ [0] (mc 0 U mn) U U
theorem qm (x y:Int):
 dT Tryz.prog 34 [(vI x),(vI y)] [] (vA (bk.cells (bk.mk false true (aa.mk x y) (eB.mk 0 0 (br.mk none 0 0))))):=by
 refine bx kr Tryz.func34 U U fun D Q hQ hN=>?_
 try dsimp only
 refine WS fun _ A=>AL U Oy fun C=>RK A<|WS fun _ B=>rP 2 [] mn ?_
 refine rS (CL (l4 x y) (aI) U)<|rS (SX (bh (xs:=[(1,.const (vB true)),(2,.tmp 7)]) (cs:=(bk.cells (bk.mk false true (aa.mk x y) (eB.mk 0 0 (br.mk none 0 0))))) U U (bg PO U)) U U)<|fP U PR U<|RK B<|an ?_
 exact Ij hQ [0] (mc 0 U mn) U U
theorem Nk:
 lv Tryz.prog 32 [] [] (fun (x:(OA)×Nat×(OA)×Nat×(List RA)×(OA)×Nat)=>(vA (ck.cells (ck.mk (bE.mk (br.mk x.1 aN.ao.aP.length x.2.1)) aN.ao.g9 (br.mk x.2.2.1 aN.ao.ak.length x.2.2.2.1) (br.mk x.2.2.2.2.2.1 aN.ao.ae.length x.2.2.2.2.2.2) aN.ao.cH aN.ao.eV aN.ao.cW)))) (fun (x:(OA)×Nat×(OA)×Nat×(List RA)×(OA)×Nat)=>x.2.2.2.2.1.length=aN.ao.ak.length∧ep aN.ao x.2.2.2.2.1) (fun (x:(OA)×Nat×(OA)×Nat×(List RA)×(OA)×Nat)=>[(own x.1 x.2.1 114 9 (aN.ao.aP.map al.cells)),(own x.2.2.1 x.2.2.2.1 119 2 (List.zipWith ar.cells aN.ao.ak x.2.2.2.2.1)),(bw (aV ar.owns aN.ao.ak x.2.2.2.2.1)),(own x.2.2.2.2.2.1 x.2.2.2.2.2.2 121 4 (aN.ao.ae.map bD.cells))]):=by
 refine dj kr Tryz.func32 U U fun AB Q hQ hN=>?_
 try dsimp only
 refine WS fun _ E=>AL U Uw fun H=>RK E<|WS fun _ F=>bf 1 U<|RK F<|WS fun _ G=>rS (CL (l4 10000 10200) (aI) U)<|rS (CL (l4 0 100) (aI) U)<|rS (SX (bh (xs:=[(0,.const (vI 1)),(1,.tmp 2),(2,.tmp 3)]) (cs:=(al.cells (al.mk 1 (aa.mk 10000 10200) (aa.mk 0 100) (aa.mk 0 0) 0 0))) U U (bg Sk U)) U U)<|cY (xs:=[.tmp 4]) (cs:=(al.cells (al.mk 1 (aa.mk 10000 10200) (aa.mk 0 100) (aa.mk 0 0) 0 0))) U yj FF U U U U (by simp [Value.cells,al.aU]) U U fun B=>rS (SX (bh (xs:=[(0,.tmp 5)]) (cs:=(bE.cells (bE.mk (br.mk (some ⟨B,0,none⟩) 1 1)))) U U (bg U2 U)) U U)<|rS (CL (l4 0 2) (aI) U)<|rS (SX (bh (xs:=[(0,.const (vI 0)),(1,.tmp 7)]) (cs:=(cw.cells (cw.mk 0 (aa.mk 0 2)))) U U (bg Pe U)) U U)<|rS (CL (l4 5 6) (aI) U)<|rS (SX (bh (xs:=[(0,.const (vI 100000)),(1,.tmp 9)]) (cs:=(cw.cells (cw.mk 100000 (aa.mk 5 6)))) U U (bg Pe U)) U U)<|cY (xs:=[.tmp 8,.tmp 10]) (cs:=((cw.cells (cw.mk 0 (aa.mk 0 2)))++(cw.cells (cw.mk 100000 (aa.mk 5 6))))) U qi rG U U U U (by simp [Value.cells,cw.aU]) U U fun A=>rS (SX (bh (xs:=[(0,.const (vI 100)),(1,.tmp 11)]) (cs:=(dp.cells (dp.mk 100 (br.mk (some ⟨A,0,none⟩) 2 2)))) U U (bg RF U)) U U)<|cY (xs:=[.tmp 12]) (cs:=(dp.cells (dp.mk 100 (br.mk (some ⟨A,0,none⟩) 2 2)))) U AA JY U U U U (by simp [Value.cells,dp.aU]) U U fun C=>bf 1 U<|rS (CL (Ab 1000) (aI) U)<|rS (SX (bh (xs:=[(0,.tmp 15)]) (cs:=(bD.cells (bD.mk (cD.mk 0 (aa.mk 1000 1000)) 0))) U U (bg Kr U)) U U)<|bf 1 U<|rS (CL (Ab 4000) (aI) U)<|rS (SX (bh (xs:=[(0,.tmp 18)]) (cs:=(bD.cells (bD.mk (cD.mk 0 (aa.mk 4000 4000)) 0))) U U (bg Kr U)) U U)<|rP 1 [] mn ?_
 refine rS (CL (Ab 9000) (aI) U)<|rS (SX (bh (xs:=[(0,.tmp 21)]) (cs:=(bD.cells (bD.mk (cD.mk 0 (aa.mk 9000 9000)) 0))) U U (bg Kr U)) U U)<|cY (xs:=[.tmp 16,.tmp 19,.tmp 22]) (cs:=((bD.cells (bD.mk (cD.mk 0 (aa.mk 1000 1000)) 0))++(bD.cells (bD.mk (cD.mk 0 (aa.mk 4000 4000)) 0))++(bD.cells (bD.mk (cD.mk 0 (aa.mk 9000 9000)) 0)))) U vJ Tr U U U U (by simp [Value.cells,bD.aU]) U U fun D=>rS (SX (bh (xs:=[(0,.tmp 6),(1,.const (vI 2000)),(4,.const (vI 1)),(5,.const (vI 1)),(6,.const (vI 1)),(2,.tmp 13),(3,.tmp 23)]) (cs:=(ck.cells (ck.mk (bE.mk (br.mk (some ⟨B,0,none⟩) 1 1)) 2000 (br.mk (some ⟨C,0,none⟩) 1 1) (br.mk (some ⟨D,0,none⟩) 3 3) 1 1 1))) U U (bg UH U)) U U) ?_
 refine dM (es:=(aN.ao.aP.map al.cells)) (C':=[_,_,_,(own (some ⟨B,0,none⟩) 1 114 9 (aN.ao.aP.map al.cells)),_]) 3 U (mX al.aU _) U (by show _≤maxLen; exact Nat.le_trans (m:=10) (show (1:Nat)≤10 by decide) dc) U ?_
 refine dM (es:=(ym.bo.map cw.cells)) (C':=[_,_,(own (some ⟨A,0,none⟩) 2 116 3 (ym.bo.map cw.cells)),_,_]) 2 U (mX cw.aU _) U (by show _≤maxLen; exact Nat.le_trans (m:=10) (show (2:Nat)≤10 by decide) dc) U ?_
 refine dM (es:=(List.zipWith ar.cells aN.ao.ak [((some ⟨A,0,none⟩),2)])) (C':=[_,(own (some ⟨C,0,none⟩) 1 119 2 (List.zipWith ar.cells aN.ao.ak [((some ⟨A,0,none⟩),2)])),_,_,_]) 1 U (by intro x hx; change x∈[ar.cells ym ((some ⟨A,0,none⟩),2)] at hx; rw [List.mem_singleton.1 hx]; rfl) U (by show _≤maxLen; exact Nat.le_trans (m:=10) (show (1:Nat)≤10 by decide) dc) U ?_
 refine dM (es:=(aN.ao.ae.map bD.cells)) (C':=[(own (some ⟨D,0,none⟩) 3 121 4 (aN.ao.ae.map bD.cells)),_,_,_,_]) 0 U (mX bD.aU _) U (by show _≤maxLen; exact Nat.le_trans (m:=10) (show (3:Nat)≤10 by decide) dc) U ?_
 refine x8<|Pf (X:=[]) (X':=aV ar.owns aN.ao.ak [((some ⟨A,0,none⟩),2)]) 0 3 U U U<|Pc U UU U<|RK G<|an ?_
 refine LX hQ ((some ⟨B,0,none⟩),1,(some ⟨C,0,none⟩),1,[((some ⟨A,0,none⟩),2)],(some ⟨D,0,none⟩),3) [3,2,0,1] [0] (mc 4 U mn) U (by simp only [fB,List.all_nil,gn,Bool.and_true]; rfl) U U ?_
 exact ⟨U,Tg 1 dc⟩
theorem OJ:
 lv Tryz.prog 33 [] [] (fun (x:(OA)×Nat)=>(vA (eB.cells (eB.mk mJ.Start mJ.fZ (br.mk x.1 mJ.ag.length x.2))))) (fun (x:(OA)×Nat)=>True) (fun (x:(OA)×Nat)=>[(own x.1 x.2 123 2 (mJ.ag.map aK.cells))]):=by
 refine dj kr Tryz.func33 U U fun E Q hQ hN=>?_
 try dsimp only
 refine WS fun _ B=>AL U Uf fun D=>RK B<|WS fun _ C=>rS (SX (bh (xs:=[(0,.const (vI 0)),(1,.const (vI 10600))]) (cs:=(aK.cells (aK.mk 0 10600))) U U (bg F3 U)) U U)<|rS (SX (bh (xs:=[(0,.const (vI 0)),(1,.const (vI 11000))]) (cs:=(aK.cells (aK.mk 0 11000))) U U (bg F3 U)) U U)<|rS (SX (bh (xs:=[(0,.const (vI 1)),(1,.const (vI 12600))]) (cs:=(aK.cells (aK.mk 1 12600))) U U (bg F3 U)) U U)<|cY (xs:=[.tmp 1,.tmp 2,.tmp 3]) (cs:=((aK.cells (aK.mk 0 10600))++(aK.cells (aK.mk 0 11000))++(aK.cells (aK.mk 1 12600)))) U z5 FY U U U U (by simp [Value.cells,aK.aU]) U U fun A=>rS (SX (bh (xs:=[(0,.const (vI 10000)),(1,.const (vI 20000)),(2,.tmp 4)]) (cs:=(eB.cells (eB.mk 10000 20000 (br.mk (some ⟨A,0,none⟩) 3 3)))) U U (bg T_ U)) U U)<|dM (es:=(mJ.ag.map aK.cells)) (C':=[(own (some ⟨A,0,none⟩) 3 123 2 (mJ.ag.map aK.cells)),_]) 0 U (mX aK.aU _) U dc U<|ub U Ui U<|RK C<|an<|LX hQ ((some ⟨A,0,none⟩),3) [0] [0] (mc 1 U mn) U U U U ?_
 trivial
end
section
open Go.RowKit
theorem jq:
 lv Tryz.prog 10 [] [] (fun (x:(OA)×Nat×(OA)×Nat×(List RA)×(OA)×Nat×(OA)×Nat×(OA)×Nat×(OA)×Nat×(List cO))=>(vA (cx.cells (cx.mk (ck.mk (bE.mk (br.mk x.1 aN.ao.aP.length x.2.1)) aN.ao.g9 (br.mk x.2.2.1 aN.ao.ak.length x.2.2.2.1) (br.mk x.2.2.2.2.2.1 aN.ao.ae.length x.2.2.2.2.2.2.1) aN.ao.cH aN.ao.eV aN.ao.cW) (br.mk x.2.2.2.2.2.2.2.1 aN.aQ.length x.2.2.2.2.2.2.2.2.1) (br.mk x.2.2.2.2.2.2.2.2.2.1 aN.bQ.length x.2.2.2.2.2.2.2.2.2.2.1) aN.iK (br.mk x.2.2.2.2.2.2.2.2.2.2.2.1 aN.ay.length x.2.2.2.2.2.2.2.2.2.2.2.2.1))))) (fun (x:(OA)×Nat×(OA)×Nat×(List RA)×(OA)×Nat×(OA)×Nat×(OA)×Nat×(OA)×Nat×(List cO))=>e7 aN x.2.2.2.2.1 x.2.2.2.2.2.2.2.2.2.2.2.2.2∧x.2.2.2.2.1.length=aN.ao.ak.length∧sP aN.ay x.2.2.2.2.2.2.2.2.2.2.2.2.2) (fun (x:(OA)×Nat×(OA)×Nat×(List RA)×(OA)×Nat×(OA)×Nat×(OA)×Nat×(OA)×Nat×(List cO))=>[(own x.1 x.2.1 114 9 (aN.ao.aP.map al.cells)),(own x.2.2.1 x.2.2.2.1 119 2 (List.zipWith ar.cells aN.ao.ak x.2.2.2.2.1)),(bw (aV ar.owns aN.ao.ak x.2.2.2.2.1)),(own x.2.2.2.2.2.1 x.2.2.2.2.2.2.1 121 4 (aN.ao.ae.map bD.cells)),(own x.2.2.2.2.2.2.2.1 x.2.2.2.2.2.2.2.2.1 3 1 (aN.aQ.map iC)),(own x.2.2.2.2.2.2.2.2.2.1 x.2.2.2.2.2.2.2.2.2.2.1 3 1 (aN.bQ.map iC)),(own x.2.2.2.2.2.2.2.2.2.2.2.1 x.2.2.2.2.2.2.2.2.2.2.2.2.1 46 1 (List.zipWith cP aN.ay x.2.2.2.2.2.2.2.2.2.2.2.2.2)),(bw (aV je aN.ay x.2.2.2.2.2.2.2.2.2.2.2.2.2))]):=by
 refine dj kr Tryz.func10 U U fun Y Q hQ hN=>?_
 try dsimp only
 refine WS fun _ P=>AL U C8 fun X=>RK P<|WS fun _ R=>cX Nk (aI) U fun W T=>?_
 obtain ⟨J,M,K,N,L,E,F⟩:=W
 try dsimp only
 obtain ⟨S,O⟩:=T
 refine cY (xs:=[.const (vI 4),.const (vI 7),.const (vI 9)]) (cs:=[(vI 4),(vI 7),(vI 9)]) U cp jf U U U U (by simp [Value.cells]) U U fun G=>cY (xs:=[.const (vI 2),.const (vI 0),.const (vI 1)]) (cs:=[(vI 2),(vI 0),(vI 1)]) U cp jf U U U U (by simp [Value.cells]) U U fun H=>cX OJ (aI) U fun AA V=>?_
 obtain ⟨A,B⟩:=AA
 try dsimp only
 refine rS (SX (bh (xs:=[(3,.tmp 4)]) (cs:=(bk.cells (bk.mk false false (aa.mk 0 0) (eB.mk mJ.Start mJ.fZ (br.mk A mJ.ag.length B))))) U U (bg PO U)) U U)<|rS (CL (qm 2600 2600) (aI) U)<|rS (CL (qm 2580 2609) (aI) U)<|cY (xs:=[.tmp 5,.tmp 6,.tmp 7]) (cs:=((bk.cells (bk.mk false false (aa.mk 0 0) (eB.mk mJ.Start mJ.fZ (br.mk A mJ.ag.length B))))++(bk.cells (bk.mk false true (aa.mk 2600 2600) (eB.mk 0 0 (br.mk none 0 0))))++(bk.cells (bk.mk false true (aa.mk 2580 2609) (eB.mk 0 0 (br.mk none 0 0)))))) U xM Oy U U U U (by simp [Value.cells,bk.aU]) U U fun C=>rS (CL (qm 2555 2559) (aI) U)<|rS (CL (qm 2540 2549) (aI) U)<|rS (CL (qm 2570 2575) (aI) U)<|cY (xs:=[.tmp 9,.tmp 10,.tmp 11]) (cs:=((bk.cells (bk.mk false true (aa.mk 2555 2559) (eB.mk 0 0 (br.mk none 0 0))))++(bk.cells (bk.mk false true (aa.mk 2540 2549) (eB.mk 0 0 (br.mk none 0 0))))++(bk.cells (bk.mk false true (aa.mk 2570 2575) (eB.mk 0 0 (br.mk none 0 0)))))) U xM Oy U U U U (by simp [Value.cells,bk.aU]) U U fun D=>cY (xs:=[.tmp 8,.tmp 12]) (cs:=[(vS (some ⟨C,0,none⟩) 3 3),(vS (some ⟨D,0,none⟩) 3 3)]) U ry U0 U U U U (by simp [Value.cells]) U U fun AB=>rS (SX (bh (xs:=[(0,.tmp 1),(1,.tmp 2),(2,.tmp 3),(3,.const (vI 2)),(4,.tmp 13)]) (cs:=(cx.cells (cx.mk (ck.mk (bE.mk (br.mk J aN.ao.aP.length M)) aN.ao.g9 (br.mk K aN.ao.ak.length N) (br.mk E aN.ao.ae.length F) aN.ao.cH aN.ao.eV aN.ao.cW) (br.mk (some ⟨G,0,none⟩) 3 3) (br.mk (some ⟨H,0,none⟩) 3 3) 2 (br.mk (some ⟨AB,0,none⟩) 2 2)))) U U (bg Hy U)) U U) ?_
 refine dM (es:=(aN.aQ.map iC)) (C':=[_,_,_,_,_,(own (some ⟨G,0,none⟩) 3 3 1 (aN.aQ.map iC)),_,_,_,_,_]) 5 U (mX bB _) U (by show _≤maxLen; exact Nat.le_trans (m:=10) (show (3:Nat)≤10 by decide) dc) U ?_
 refine dM (es:=(aN.bQ.map iC)) (C':=[_,_,_,_,(own (some ⟨H,0,none⟩) 3 3 1 (aN.bQ.map iC)),_,_,_,_,_,_]) 4 U (mX bB _) U (by show _≤maxLen; exact Nat.le_trans (m:=10) (show (3:Nat)≤10 by decide) dc) U ?_
 refine dM (es:=(List.zipWith ax.cells SI [(A,B),(none,0),(none,0)])) (C':=[_,_,(own (some ⟨C,0,none⟩) 3 45 7 (List.zipWith ax.cells SI [(A,B),(none,0),(none,0)])),_,_,_,_,_,_,_,_]) 2 U (oN Fz) U (by show _≤maxLen; exact Nat.le_trans (m:=10) (show (3:Nat)≤10 by decide) dc) U ?_
 refine dM (es:=(List.zipWith ax.cells Sw [(none,0),(none,0),(none,0)])) (C':=[_,(own (some ⟨D,0,none⟩) 3 45 7 (List.zipWith ax.cells Sw [(none,0),(none,0),(none,0)])),_,_,_,_,_,_,_,_,_]) 1 U (oN Fz) U (by show _≤maxLen; exact Nat.le_trans (m:=10) (show (3:Nat)≤10 by decide) dc) U ?_
 refine dM (es:=(List.zipWith cP aN.ay [(((some ⟨C,0,none⟩),3),[(A,B),(none,0),(none,0)]),(((some ⟨D,0,none⟩),3),[(none,0),(none,0),(none,0)])])) (C':=[(own (some ⟨AB,0,none⟩) 2 46 1 (List.zipWith cP aN.ay [(((some ⟨C,0,none⟩),3),[(A,B),(none,0),(none,0)]),(((some ⟨D,0,none⟩),3),[(none,0),(none,0),(none,0)])])),_,_,_,_,_,_,_,_,_,_]) 0 U (oN JT) U (by show _≤maxLen; exact Nat.le_trans (m:=10) (show (2:Nat)≤10 by decide) dc) U ?_
 refine dH 123 2<|dH 123 2<|dH 123 2<|dH 123 2<|dH 123 2<|uj (aV je aN.ay [(((some ⟨C,0,none⟩),3),[(A,B),(none,0),(none,0)]),(((some ⟨D,0,none⟩),3),[(none,0),(none,0),(none,0)])]) [7,8,0,1,6,2,3,4] [5,9,10,11,12,13,14,15] U U<|VL U tv U<|RK R<|an ?_
 refine LX hQ (J,M,K,N,L,E,F,(some ⟨G,0,none⟩),3,(some ⟨H,0,none⟩),3,(some ⟨AB,0,none⟩),2,[(((some ⟨C,0,none⟩),3),[(A,B),(none,0),(none,0)]),(((some ⟨D,0,none⟩),3),[(none,0),(none,0),(none,0)])]) [4,5,6,7,3,2,1,0] [0] (mc 8 U mn) U (by show List.all _ _=true; simp only [fB,List.all_nil,gn,kp,Bool.and_true]; rfl) U U ?_
 exact ⟨Qb O L_,S,L_⟩
end
section
open Go.RowKit
theorem Po (i:Int) (r:bT) (kA:OA) (kC:Nat) (az:List RA) (cA:OA) (cC:Nat) (bA:OA) (bC:Nat) (slA:OA) (slC:Nat) (drA:OA) (drC:Nat) (ha:List cO) (heA:OA) (heC:Nat) (hin:e7 r az ha):
 dT Tryz.prog 13 [(vA (cx.cells (oI r kA kC cA cC bA bC slA slC drA drC heA heC))),(vI i)] [(rd eW 3 2 dZ),(rd kA r.ao.aP.length 9 (r.ao.aP.map al.cells)),(rd cA r.ao.ak.length 2 (List.zipWith ar.cells r.ao.ak az)),(eX (aV ar.g0 r.ao.ak az)),(rd bA r.ao.ae.length 4 (r.ao.ae.map bD.cells)),(rd slA r.aQ.length 1 (r.aQ.map iC)),(rd drA r.bQ.length 1 (r.bQ.map iC)),(rd heA r.ay.length 1 (List.zipWith cP r.ay ha)),(eX (aV ir r.ay ha))] (vT [(vA (aa.cells (px r i))),(vI (jG r i))]):=by
 have M:=hin.line
 have g:=hin.iO
 have h:=hin.has
 have W:=hin.iN
 have R:=hin.draw
 have X:=dy (r:=r)
 refine bx kr Tryz.func13 U U fun m Q hQ hN=>?_
 try dsimp only
 refine WS fun _ L=>fM U fun k=>AL U de fun l=>bf 1 U<|RK L<|WS fun _ G=>rP 2 [] (mc 1 U mn) ?_
 refine cY (xs:=[.tmp 11]) (cs:=[(vI i)]) U cp jf U U U U (by simp [Value.cells]) U U fun d=>cX (yK r kA kC az cA cC bA bC slA slC drA drC ha heA heC i d hin) (bj [3,4,5,6,7,8,9,10,11,0]) U fun j J=>?_
 obtain ⟨K,e,f,O,a,b,c,Y,Z⟩:=j
 cases K
 ·obtain ⟨H,he⟩:=J.2 rfl
  try dsimp only at H he
  subst H
  try dsimp only [cond_true,cond_false,List.cons_append,List.nil_append]
  refine bf 7 U<|RK G<|ah fun _ P=>WS fun _ B=>rP 2 [] mn ?_
  refine RK B<|bK U (bq fun A=>?_) (bp fun A=>?_)
  ·exact absurd A he
  refine WS fun _ C=>rS (SX (bh (xs:=[]) (cs:=(aa.cells (aa.mk 0 0))) U U (bg gf U)) U U)<|bf 1 U<|ub U cm U<|rP 1 [] mn ?_
  refine RK C<|an<|lp hQ [0] (mc 1 U mn) U ?_
  first|(rw [show px r i=dx from if_neg he]; rfl)|(rw [he,show px r i=aA _ _ from if_pos he]; done)
 obtain ⟨he,N⟩:=J.1 rfl
 try dsimp only [cond_true,cond_false,List.cons_append,List.nil_append]
 try dsimp only at N
 obtain ⟨AB,S,T⟩:=uO he
 have AA:=nt AB
 have V:=mo AB
 refine bf 7 U<|RK G<|ah fun _ D=>WS fun _ E=>bf 1 U<|rS (SX (bU (r:= .bool false) U U U mA) U U)<|RK E<|aW U<|WK D<|WS fun _ F=>rP 1 [] mn ?_
 refine rS (IA 0 U (ai (n:=1) 4 U sq) jQ dc U I) ?_
 refine rS (oH 0 0 (aa.cells (aA (aF r) i)) U bX (ai (n:=([(aA (aF r) i)]).length) 4 U sm) (show ([(aA (aF r) i)].map aa.cells)[0]? =some [(vI ((aA (aF r) i).Lo)),(vI ((aA (aF r) i).Hi))] from U) U dc U U)<|O6 U cm U<|rP 1 [] mn ?_
 refine RK F<|an<|lp hQ [0] (mc 6 U mn) U ?_
 first|(rw [show px r i=dx from if_neg he]; rfl)|(rw [he,show px r i=aA _ _ from if_pos he]; done)
end
section
open Go.RowKit
theorem L5 (a b:Int) (m:gY) (gm g1:Nat) (hb: ∀ p∈m,0≤p.2.Lo∧p.2.Lo≤p.2.Hi∧p.2.Hi≤30000000):
 dT Tryz.prog 48 [(vI a),(vI b),(vP g1)] [(gZ iV gm (bL dw m)),(bV g1 64 [(Value.map (some gm))])] (vI ((aA m a).Hi-(aA m b).Hi)):=by
 have A:=gM (i:=a) hb
 have B:=gM (i:=b) hb
 refine bx kr Tryz.func48 U U fun E Q hQ hN=>?_
 try dsimp only
 refine WS fun _ C=>bf 1 U<|RK C<|WS fun _ D=>fw 2 [] (mr 1 U mn) U<|rS (SX (jO (kV:=iV) (x:=a) (l:=m) (f:=dw) (z:=(aa.mk 0 0)) U U U mm (dC oJ) vz (by exact j8 0 U)) U U)<|rS (SX (kO (v:=(vI (((List.lookup a m).getD (aa.mk 0 0)).Hi))) U U fu Aa U) U U)<|rP 2 [] (mr 1 U mn) ?_
 refine rS (SX (jO (kV:=iV) (x:=b) (l:=m) (f:=dw) (z:=(aa.mk 0 0)) U U U mm (dC oJ) vz (by exact j8 0 U)) U U)<|rS (SX (kO (v:=(vI (((List.lookup b m).getD (aa.mk 0 0)).Hi))) U U fu Aa U) U U) ?_
 unfold aA at A B
 simp only [dx] at A B
 refine rP 2 [] mn ?_
 refine RK D<|an ?_
 exact Q1 hQ U U U U
theorem M9 (heatX:Int) (r:bT) (kA:OA) (kC:Nat) (az:List RA) (cA:OA) (cC:Nat) (bA:OA) (bC:Nat) (slA:OA) (slC:Nat) (drA:OA) (drC:Nat) (ha:List cO) (heA:OA) (heC:Nat) (hin:e7 r az ha):
 lv Tryz.prog 20 [(vA (cx.cells (oI r kA kC cA cC bA bC slA slC drA drC heA heC))),(vI heatX)] [(rd eW 3 2 dZ),(rd kA r.ao.aP.length 9 (r.ao.aP.map al.cells)),(rd cA r.ao.ak.length 2 (List.zipWith ar.cells r.ao.ak az)),(eX (aV ar.g0 r.ao.ak az)),(rd bA r.ao.ae.length 4 (r.ao.ae.map bD.cells)),(rd slA r.aQ.length 1 (r.aQ.map iC)),(rd drA r.bQ.length 1 (r.bQ.map iC)),(rd heA r.ay.length 1 (List.zipWith cP r.ay ha)),(eX (aV ir r.ay ha))] (fun (x:(OA)×Nat)=>(vT [(vS x.1 ((g3 r heatX).length) x.2),(vI (iG r heatX))])) (fun (x:(OA)×Nat)=>True) (fun (x:(OA)×Nat)=>[(own x.1 x.2 3 1 ((g3 r heatX).map iC))]):=by
 have Cp:=hin.line
 have H1:=hin.iO
 have IB:=hin.has
 have Eq:=hin.iN
 have A0:=hin.draw
 have A3:=dy (r:=r)
 refine dj kr Tryz.func20 U U fun w0 Q hQ hN=>?_
 try dsimp only
 refine WS fun _ Ck=>fM U fun b2=>bf 2 U<|RK Ck<|AK U<|WS fun _ e=>rP 1 [] (mc 0 U mn) ?_
 refine cX (nZ r kA kC az cA cC bA bC slA slC drA drC ha heA heC hin) (bj [1,2,3,4,5,6,7,8,9]) U fun y4 A4=>?_
 obtain ⟨A5,Go,B7,B3,C2,A6,A7⟩:=y4
 cases A5
 ·obtain ⟨A1,he⟩:=A4.2 rfl
  try dsimp only at A1 he
  subst A1
  try dsimp only [cond_true,cond_false,List.cons_append,List.nil_append]
  refine bf 5 U<|RK e<|ah fun _ EQ=>WS fun _ R=>rP 2 [] mn ?_
  refine RK R<|bK U (bq fun P=>?_) (bp fun P=>?_)
  ·exact absurd P he
  refine WS fun _ S=>rP 1 [] mn ?_
  have A:iG r heatX=cK r:=DO he
  have B:g3 r heatX=[]:=zJ (by rw [A]; exact he)
  refine dH 3 1 ?_
  rw [show (own none 0 3 1 ([]:List (List Value)))=own none 0 3 1 ((g3 r heatX).map iC) from by rw [B]; rfl]
  refine rP 2 [] mn ?_
  refine RK S<|an ?_
  refine LX hQ (none,0) [0] [] mn U U U ?_ ?_
  ·first|rfl|(rw [A,B]; rfl)|(rw [A]; rfl)|(rw [A,B,j6]; rfl)
  ·trivial
 obtain ⟨he,C0⟩:=A4.1 rfl
 try dsimp only [cond_true,cond_false,List.cons_append,List.nil_append]
 have G:=(iI he).2
 have IO:=G.x7
 have G2:=G.yn
 refine bf 5 U<|RK e<|ah fun _ T=>WS fun _ AA=>bf 1 U<|rS (SX (bU (r:= .bool false) U U U mA) U U)<|RK AA<|aW U<|WK T<|ah fun _ V=>WS fun _ W=>rP 4 [] (mc 4 U mn) ?_
 refine cY (xs:=[.tmp 25]) (cs:=[(vI heatX)]) U cp jf U U U U (by simp [Value.cells]) U U fun A9=>?_
 refine rS (CL (dT.eq (j9 0 (r.ay.length:Int) ([heatX]) (some ⟨A9,0,none⟩) 1 sd) cS) (aw (aZ 0 U U (by simp [bB]) U)<|aI) U) ?_
 refine rP 1 [] mn ?_
 refine RK W<|cy U (bp fun B9=>?_) (bq fun B9=>?_)
 ·refine WS fun _ X=>?_
  have A:iG r heatX=2:=Ec he I
  have B:g3 r heatX=[]:=zJ (by rw [A]; decide)
  refine dH 3 1 ?_
  rw [show (own none 0 3 1 ([]:List (List Value)))=own none 0 3 1 ((g3 r heatX).map iC) from by rw [B]; rfl]
  refine rP 2 [] mn ?_
  refine RK X<|an ?_
  refine LX hQ (none,0) [0] [] mn U U U ?_ ?_
  ·first|rfl|(rw [A,B]; rfl)|(rw [A]; rfl)|(rw [A,B,j6]; rfl)
  ·trivial
 refine WK V<|ah fun _ Y=>WS fun _ Z=>rP 2 [] mn ?_
 refine RK Z<|cy U (aL fun D=>?_) (aM fun D=>?_)
 ·refine WS fun _ b=>rP 2 [] (mc 5 U mn) ?_
  refine cX (we r.bQ drA drC sd) (bj [12]) U fun Do FS=>?_
  obtain ⟨N,O⟩:=Do
  try dsimp only
  have A:iG r heatX=0:=zK he I
  have B:g3 r heatX=r.bQ:=vu A D
  rw [show (own N O 3 1 (r.bQ.map iC))=(own N O 3 1 ((g3 r heatX).map iC)) from by rw [vu A D]]
  refine rP 2 [] mn ?_
  refine RK b<|an ?_
  refine LX hQ (N,O) [0] [] mn U U U ?_ ?_
  ·first|rfl|(rw [A,B]; rfl)|(rw [A]; rfl)|(rw [A,B,j6]; rfl)
  ·trivial
 refine WK Y<|WS fun _ d=>?_
 obtain ⟨n,rfl⟩: ∃ n:Nat,heatX=(n:Int):=⟨heatX.toNat,I⟩
 refine rP 2 [] mn ?_
 refine cX (Pd r kA kC az cA cC bA bC slA slC drA drC ha heA heC A7 C2 A6 (Value.map (some B3)) B7 n hin I sd (by exact G.Ah)) (lB [7,8,9,10,11,12,13,14]<|aw (ai (n:=(cN r).length) 2 U (mS (by rw [A3]; exact C0)))<|aw (cL 3 U tT)<|fD 1 U U<|aI) U fun C Fd=>?_
 try dsimp only
 refine AL U Rk fun AB=>GA U MI U U<|RK d<|WS fun _ g=>bf 1 U<|RK g<|ah fun _ h=>z8<|KK h<|ah fun _ j=>WS fun _ k=>rP 4 [] (mc 7 U mn) ?_
 refine RK k<|av<|fQ 3 1 ?_
 have F:(0≤r.bQ.length):=by exact Nat.zero_le _
 refine bH (ι:={z:Nat×(OA)×Nat // (z.1≤r.bQ.length)}) [1,2,6,8,38,39] [1,2,5,6,7,8,9,10,11,12,13,14,15,16,17] U U (fun z=>[(9,(vS z.1.2.1 (((r.bQ.take z.1.1).filter fun u=>(List.lookup u (eD r n)).isSome).length) z.1.2.2)),(40,(vI (z.1.1:Int)))]) (fun z=>[(own z.1.2.1 z.1.2.2 3 1 (((r.bQ.take z.1.1).filter fun u=>(List.lookup u (eD r n)).isSome).map iC))]) (fun _=>rfl) (fun _=>rfl) (fun z=>r.bQ.length-z.1.1) ⟨(0,none,0),F⟩ (aT U) (aH [1,2,5,6,7,8,9,10,11,12,13,14,15,16,17,0]) ?_
 clear F
 rintro ⟨⟨i,a,c⟩,K⟩ J38 L
 try dsimp only at K
 try dsimp only
 refine WS fun _ m=>rP 1 [] mn ?_
 refine RK m<|ah fun _ o=>bK U (aM fun Ci=>?_) (aL fun Ci=>?_)
 ·refine bu<|ab<|ab<|au<|KK j<|ah fun _ v=>?_
  rw [show r.bQ.take i=r.bQ from List.take_of_length_le I]
  refine aj<|rP 1 [] mn ?_
  have Cx:=Gb he (show n≤r.ay.length by omega)
  have A2:=Nat.le_trans (List.length_filter_le (fun u=>(List.lookup u (eD r n)).isSome) r.bQ) A0
  have Gr:(er (fun u=>(aA (eD r n) u).Hi) (r.bQ.filter fun u=>(List.lookup u (eD r n)).isSome)).length≤12:=by rw [kz]; exact A2
  refine rS (FU U) ?_
  refine cX (yH (r.bQ.filter fun u=>(List.lookup u (eD r n)).isSome) a c (Value.func (.func 48) [].toArray [(vP AB)].toArray) (fun u=>(aA (eD r n) u).Hi) (eX [(gZ iV C (bL dw (eD r n))),(bV AB 64 [(Value.map (some C))])]) (by intro C3 Di _; exact nE (fi:=[]) (ca:=[(vP AB)]) (l0 (L5 C3 Di (eD r n) C AB (by first|assumption|omega)) (bj [0,1]))) (by exact Tu Cx) (by exact A2)) (aw (ai (n:=(r.bQ.filter fun u=>(List.lookup u (eD r n)).isSome).length) 15 U sm)<|aw (l5 (bj [1,0]))<|aI) U fun Dt Fn=>?_
  obtain ⟨H,J⟩:=Dt
  try dsimp only
  refine bf 1 U<|RK v<|WS fun _ w=>rP 5 [] (mc 6 U mn) ?_
  refine rS (MN U)<|LG 0 U fun Al=>?_
  simp only [List.length_map] at Al
  refine rS (Uu (((min r.iK (((er (fun u=>(aA (eD r n) u).Hi) (r.bQ.filter fun u=>(List.lookup u (eD r n)).isSome)).length:Nat):Int))).toNat) U cp I (by first|omega|exact Nat.zero_le _|(simp; omega))) ?_
  refine iQ 0 U U U U (HW (er (fun u=>(aA (eD r n) u).Hi) (r.bQ.filter fun u=>(List.lookup u (eD r n)).isSome)) H J (((min r.iK (((er (fun u=>(aA (eD r n) u).Hi) (r.bQ.filter fun u=>(List.lookup u (eD r n)).isSome)).length:Nat):Int))).toNat) I I) U kh U (fun IX GE=>?_)
  try dsimp only
  refine RK w<|WS fun _ y=>rP 1 [] mn ?_
  have A:iG r (n:Int)=0:=zK he I
  have B:g3 r (n:Int)=(rJ (((min r.iK (((er (fun u=>(aA (eD r n) u).Hi) (r.bQ.filter fun u=>(List.lookup u (eD r n)).isSome)).length:Nat):Int))).toNat) (er (fun u=>(aA (eD r n) u).Hi) (r.bQ.filter fun u=>(List.lookup u (eD r n)).isSome))):=by rw [u9 A D]; exact (zr rfl I).symm
  rw [show (own H J 3 1 ((rJ (((min r.iK (((er (fun u=>(aA (eD r n) u).Hi) (r.bQ.filter fun u=>(List.lookup u (eD r n)).isSome)).length:Nat):Int))).toNat) (er (fun u=>(aA (eD r n) u).Hi) (r.bQ.filter fun u=>(List.lookup u (eD r n)).isSome))).map iC))=(own H J 3 1 ((g3 r (n:Int)).map iC)) from by rw [u9 A D]; exact congrArg (fun z=>own _ _ _ _ (List.map iC z)) (zr rfl I)]
  refine rP 2 [] mn ?_
  refine RK y<|an ?_
  refine LX hQ (H,J) [0] [] mn U U U ?_ ?_
  ·first|rfl|(rw [A,B]; rfl)|(rw [A]; rfl)|(rw [A,B,j6]; rfl)
  ·trivial
 refine WK o<|ah fun _ M=>av<|WS fun _ p=>?_
 obtain ⟨x,hx⟩:=aJ r.bQ i I
 have C1:=bG iC hx
 refine rS (IA i U (aD 12 U) cp dc I I)<|rS (fV i 0 (vI x) U bX (aD 12 U) C1 U dc U)<|bf 1 U<|RK p<|ah fun _ q=>WS fun _ s=>fw 2 [] (mc 0 U mn) U<|rS (SX (jW (kV:=iV) (x:=x) (l:=(eD r n)) (f:=dw) (z:=(aa.mk 0 0)) U U U mm (dC oJ) vz (by exact aD 1 U)) U U)<|bf 3 U<|AL U de fun GT=>fP U cm U<|bf 1 U<|RK s<|WS fun _ t=>rP 2 [] mn ?_
 refine RK t<|cy U (fun E=>?_) (fun E=>?_)
 ·rw [Bool.not_eq_true'] at E
  refine bu<|ab<|au<|KK M<|aj<|rP 2 [] mn ?_
  refine aC ?_
  rw [show ((r.bQ.take i).filter fun u=>(List.lookup u (eD r n)).isSome)=((r.bQ.take (i+1)).filter fun u=>(List.lookup u (eD r n)).isSome) from (Fc hx E).symm]
  have AC:(vI (((i+1):Nat):Int))=(vI ((i:Int)+1)):=by exact cI I
  refine aS (L ⟨((i+1),a,c),(by first|omega|(simp only []; omega))⟩ _ _ _ U os (ct 7<|aX U AC<|dh.nil _) (aH [1,2,3,4,5,6,7,8,9,10,11,12,13,14,15,16]))
 rw [Bool.not_eq_false'] at E
 refine WK q<|aj<|rP 2 [] mn ?_
 refine cY (xs:=[.tmp 53]) (cs:=[(vI x)]) U cp jf U U U U (by simp [Value.cells]) U U fun Gf=>?_
 refine db (es2:=(List.map iC ((r.bQ.take (i+1)).filter fun u=>(List.lookup u (eD r n)).isSome))) (m':=((r.bQ.take (i+1)).filter fun u=>(List.lookup u (eD r n)).isSome).length) 17 U U U p5 U U sm (aZ (es:=List.map iC [x]) 0 U U (by simp [bB]) U) (kd _) (by have:=List.length_filter_le (fun u=>(List.lookup u (eD r n)).isSome) (r.bQ.take i); rw [List.length_take] at this; first|omega|(simp; omega)) (by have:=List.length_filter_le (fun u=>(List.lookup u (eD r n)).isSome) (r.bQ.take i); rw [List.length_take] at this; simp only [maxLen]; first|omega|(simp; omega)) (by rw [wk hx E]; simp) sm U fun A8 Bi=>?_
 try dsimp only
 refine bf 1 U<|aC<|aG<|KK M<|aj<|rP 2 [] mn ?_
 refine aC ?_
 have AO:(vI (((i+1):Nat):Int))=(vI ((i:Int)+1)):=by exact cI I
 refine aS (L ⟨((i+1),A8,Bi),(by first|omega|(simp only []; omega))⟩ _ _ _ U os (ct 7<|aX U AO<|dh.nil _) (aH [2,3,4,5,6,7,8,9,10,11,12,13,14,15,16,17]))
end
section
open Go.RowKit
theorem yW (i lo hi:Int) (r:bT) (kA:OA) (kC:Nat) (az:List RA) (cA:OA) (cC:Nat) (bA:OA) (bC:Nat) (slA:OA) (slC:Nat) (drA:OA) (drC:Nat) (ha:List cO) (heA:OA) (heC:Nat) (hin:e7 r az ha):
 dT Tryz.prog 9 [(vA (cx.cells (oI r kA kC cA cC bA bC slA slC drA drC heA heC))),(vI i),(vI lo),(vI hi)] [(rd eW 3 2 dZ),(rd kA r.ao.aP.length 9 (r.ao.aP.map al.cells)),(rd cA r.ao.ak.length 2 (List.zipWith ar.cells r.ao.ak az)),(eX (aV ar.g0 r.ao.ak az)),(rd bA r.ao.ae.length 4 (r.ao.ae.map bD.cells)),(rd slA r.aQ.length 1 (r.aQ.map iC)),(rd drA r.bQ.length 1 (r.bQ.map iC)),(rd heA r.ay.length 1 (List.zipWith cP r.ay ha)),(eX (aV ir r.ay ha))] (vB (decide (jG r i=0∧px r i=aa.mk lo hi))):=by
 have E:=hin.line
 have AA:=hin.iO
 have J:=hin.has
 have G:=hin.iN
 have F:=hin.draw
 have H:=dy (r:=r)
 refine bx kr Tryz.func9 U U fun M Q hQ hN=>?_
 try dsimp only
 refine WS fun _ C=>fM U fun K=>bf 1 U<|RK C<|WS fun _ D=>fw 2 [] (mc 0 U mn) U<|rS (CL (Po i r kA kC az cA cC bA bC slA slC drA drC ha heA heC hin) (bj [1,2,3,4,5,6,7,8,9]) U)<|bf 3 U<|AL U de fun L=>fP U cm U<|bf 1 U<|RK D<|ah fun _ B=>dB cu 10 kr<|dP 3 [] mn ?_
 refine jk (t:=19) U (aM fun A=>?_) (aL fun A=>?_)
 ·refine dP 7 [] mn ?_
  refine cM<|RK B<|an<|Q1 hQ U U U ?_
  first|exact cB (cf fun q=>A q.1).symm|exact cB (decide_eq_decide.2 ⟨fun q=>⟨A,q⟩,fun q=>q.2⟩)
 refine mP 3 [] (mc 0 U mn) U<|dS (CL (l4 lo hi) (aI) U)<|dS (BI U (tI _ _ (px r i) (aa.mk lo hi)))<|dP 2 [] mn ?_
 refine cM<|RK B<|an<|Q1 hQ U U U ?_
 first|exact cB (cf fun q=>A q.1).symm|exact cB (decide_eq_decide.2 ⟨fun q=>⟨A,q⟩,fun q=>q.2⟩)
theorem yz (i:Int) (want:List Int) (wantA:OA) (wantC:Nat) (r:bT) (kA:OA) (kC:Nat) (az:List RA) (cA:OA) (cC:Nat) (bA:OA) (bC:Nat) (slA:OA) (slC:Nat) (drA:OA) (drC:Nat) (ha:List cO) (heA:OA) (heC:Nat) (hin:e7 r az ha) (hwl:want.length≤12):
 dT Tryz.prog 11 [(vA (cx.cells (oI r kA kC cA cC bA bC slA slC drA drC heA heC))),(vI i),(vS wantA want.length wantC)] [(rd wantA want.length 1 (want.map iC)),(rd eW 3 2 dZ),(rd kA r.ao.aP.length 9 (r.ao.aP.map al.cells)),(rd cA r.ao.ak.length 2 (List.zipWith ar.cells r.ao.ak az)),(eX (aV ar.g0 r.ao.ak az)),(rd bA r.ao.ae.length 4 (r.ao.ae.map bD.cells)),(rd slA r.aQ.length 1 (r.aQ.map iC)),(rd drA r.bQ.length 1 (r.bQ.map iC)),(rd heA r.ay.length 1 (List.zipWith cP r.ay ha)),(eX (aV ir r.ay ha))] (vB (decide (jG r i=0∧gK r i=want))):=by
 have E:=hin.line
 have K:=hin.iO
 have L:=hin.has
 have G:=hin.iN
 have F:=hin.draw
 have H:=dy (r:=r)
 have M:=D_ (r:=r) (i:=i)
 refine bx kr Tryz.func11 U U fun R Q hQ hN=>?_
 try dsimp only
 refine WS fun _ C=>fM U fun P=>bf 1 U<|RK C<|WS fun _ D=>rP 2 [] (mc 0 U mn) ?_
 refine cX (ME i r kA kC az cA cC bA bC slA slC drA drC ha heA heC hin) (bj [2,3,4,5,6,7,8,9,10]) U fun O N=>?_
 obtain ⟨AA,J⟩:=O
 try dsimp only
 refine bf 5 U<|RK D<|WS fun _ B=>rP 3 [] mn ?_
 refine b_ (t:=17) U (aM fun A=>?_) (aL fun A=>?_)
 ·refine rP 5 [] mn ?_
  refine RK B<|an<|Q1 hQ U U U ?_
  first|exact cB (cf fun q=>A q.1).symm|exact cB (decide_eq_decide.2 ⟨fun q=>⟨A,q⟩,fun q=>q.2⟩)
 refine bf 2 U<|rS (CL (n8 (gK r i) AA J want wantA wantC I I) (aw (ai (n:=(gK r i).length) 0 U sm)<|fD 2 U U<|aI) U)<|rP 2 [] mn ?_
 refine RK B<|an<|Q1 hQ U U U ?_
 first|exact cB (cf fun q=>A q.1).symm|exact cB (decide_eq_decide.2 ⟨fun q=>⟨A,q⟩,fun q=>q.2⟩)
theorem zD (heatX:Int) (want:List Int) (wantA:OA) (wantC:Nat) (hwl:want.length≤12):
 dT Tryz.prog 8 [(vI heatX),(vS wantA want.length wantC)] [(rd eW 3 2 dZ),(rd wantA want.length 1 (want.map iC))] (vB (decide (iG aN heatX=0∧g3 aN heatX=want))):=by
 have b:=E_ (r:=aN) (h:=heatX) dc
 refine bx kr Tryz.func8 U U fun d Q hQ hN=>?_
 try dsimp only
 refine WS fun _ V=>rP 1 [] mn ?_
 refine RK V<|WS fun _ W=>cX jq (aI) U fun c Y=>?_
 obtain ⟨N,S,P,AA,R,C,G,D,H,E,AB,F,J,M⟩:=c
 try dsimp only
 obtain ⟨L,X,K⟩:=Y
 refine rP 1 [] mn ?_
 refine cX (M9 heatX aN N S R P AA C G D H E AB M F J (by exact L)) (fD 8 U U<|aw (ai (n:=aN.ao.aP.length) 0 U sm)<|aw (ai (n:=aN.ao.ak.length) 1 U (g7 X))<|aw (cL 2 U iT)<|aw (ai (n:=aN.ao.ae.length) 3 U sm)<|aw (ai (n:=aN.aQ.length) 4 U sm)<|aw (ai (n:=aN.bQ.length) 5 U sm)<|aw (ai (n:=aN.ay.length) 6 U (fh K.1))<|aw (hE 7 U K)<|aI) U fun Z a=>?_
 obtain ⟨O,T⟩:=Z
 try dsimp only
 refine bf 5 U<|RK W<|WS fun _ B=>rP 3 [] mn ?_
 refine b_ (t:=15) U (aM fun A=>?_) (aL fun A=>?_)
 ·refine rP 5 [] mn ?_
  refine RK B<|an<|Q1 hQ U U U ?_
  first|exact cB (cf fun q=>A q.1).symm|exact cB (decide_eq_decide.2 ⟨fun q=>⟨A,q⟩,fun q=>q.2⟩)
 refine bf 2 U<|rS (CL (n8 (g3 aN heatX) O T want wantA wantC I I) (aw (ai (n:=(g3 aN heatX).length) 0 U sm)<|fD 10 U U<|aI) U)<|rP 2 [] mn ?_
 refine RK B<|an<|Q1 hQ U U U ?_
 first|exact cB (cf fun q=>A q.1).symm|exact cB (decide_eq_decide.2 ⟨fun q=>⟨A,q⟩,fun q=>q.2⟩)
theorem B8 (a b:Int) (x y:Int):
 dT Tryz.prog 12 [(vI a),(vI b),(Value.int .u8 x),(Value.int .u8 y)] [(rd eW 3 2 dZ)] (vB (decide (((l7 aN a b=0∧ov aN a b=x)∧l7 aN a b=0)∧pP aN a b=y))):=by
 refine bx kr Tryz.func12 U U fun w Q hQ hN=>?_
 try dsimp only
 refine WS fun _ p=>rP 1 [] mn ?_
 refine RK p<|WS fun _ r=>cX jq (aI) U fun v s=>?_
 obtain ⟨j,m,k,o,l,J,V,L,X,N,Z,P,d,h⟩:=v
 try dsimp only
 obtain ⟨F,G,E⟩:=s
 refine bf 2 U<|rS (CL (sW a b aN j m l k o J V L X N Z h P d (by exact F)) (fD 8 U U<|aw (ai (n:=aN.ao.aP.length) 0 U sm)<|aw (ai (n:=aN.ao.ak.length) 1 U (g7 G))<|aw (cL 2 U iT)<|aw (ai (n:=aN.ao.ae.length) 3 U sm)<|aw (ai (n:=aN.aQ.length) 4 U sm)<|aw (ai (n:=aN.bQ.length) 5 U sm)<|aw (ai (n:=aN.ay.length) 6 U (fh E.1))<|aw (hE 7 U E)<|aI) U)<|qK [8] U U<|rP 5 [] mn ?_
 refine RK r<|WS fun _ f=>cX jq (aI) U fun u g=>?_
 obtain ⟨H,T,AB,AA,S,K,W,M,Y,O,c,R,e,i⟩:=u
 try dsimp only
 obtain ⟨F,G,E⟩:=g
 refine bf 2 U<|rS (CL (Qv a b aN H T S AB AA K W M Y O c i R e (by exact F)) (fD 8 U U<|aw (ai (n:=aN.ao.aP.length) 0 U sm)<|aw (ai (n:=aN.ao.ak.length) 1 U (g7 G))<|aw (cL 2 U iT)<|aw (ai (n:=aN.ao.ae.length) 3 U sm)<|aw (ai (n:=aN.aQ.length) 4 U sm)<|aw (ai (n:=aN.bQ.length) 5 U sm)<|aw (ai (n:=aN.ay.length) 6 U (fh E.1))<|aw (hE 7 U E)<|aI) U)<|bf 5 U<|RK f<|WS fun _ D=>rP 3 [] mn ?_
 refine b_ (t:=29) U (aM fun A=>?_) (aL fun A=>?_)
 ·refine rP 14 [] mn ?_
  refine RK D<|an<|Q1 hQ U U U ?_
  first|exact cB (cf fun q=>A q.1.1.1).symm|exact cB (cf fun q=>B q.1.1.2).symm|exact cB (cf fun q=>C q.1.2).symm|exact cB (decide_eq_decide.2 ⟨fun q=>⟨⟨⟨A,B⟩,C⟩,q⟩,fun q=>q.2⟩)
 refine bf 2 U<|rS (BI U lx)<|rP 2 [] mn ?_
 refine b_ (t:=34) U (aM fun B=>?_) (aL fun B=>?_)
 ·refine rP 9 [] mn ?_
  refine RK D<|an<|Q1 hQ U U U ?_
  first|exact cB (cf fun q=>A q.1.1.1).symm|exact cB (cf fun q=>B q.1.1.2).symm|exact cB (cf fun q=>C q.1.2).symm|exact cB (decide_eq_decide.2 ⟨fun q=>⟨⟨⟨A,B⟩,C⟩,q⟩,fun q=>q.2⟩)
 refine rP 4 [] mn ?_
 refine b_ (t:=38) U (aM fun C=>?_) (aL fun C=>?_)
 ·refine rP 5 [] mn ?_
  refine RK D<|an<|Q1 hQ U U U ?_
  first|exact cB (cf fun q=>A q.1.1.1).symm|exact cB (cf fun q=>B q.1.1.2).symm|exact cB (cf fun q=>C q.1.2).symm|exact cB (decide_eq_decide.2 ⟨fun q=>⟨⟨⟨A,B⟩,C⟩,q⟩,fun q=>q.2⟩)
 refine bf 2 U<|rS (BI U lx)<|rP 2 [] mn ?_
 refine RK D<|an<|Q1 hQ U U U ?_
 first|exact cB (cf fun q=>A q.1.1.1).symm|exact cB (cf fun q=>B q.1.1.2).symm|exact cB (cf fun q=>C q.1.2).symm|exact cB (decide_eq_decide.2 ⟨fun q=>⟨⟨⟨A,B⟩,C⟩,q⟩,fun q=>q.2⟩)
end
section
open Go.RowKit
theorem KQ:
 dT Tryz.prog 7 [] [(rd eW 3 2 dZ)] (vB true):=by
 have Fd:=qA (r:=aN)
 have C2:=qA (r:=ld)
 have Y7:=B5 (r:=aN) (h:=0) (i:=2) (t:=aa.mk 2590 2599)
 have Y6:aN.aQ.length=3:=rfl
 refine bx kr Tryz.func7 U U fun w0 Q hQ hN=>?_
 try dsimp only
 refine WS fun _ Yv=>rP 1 [] mn ?_
 refine RK Yv<|WS fun _ Yw=>cX jq (aI) U fun y3 Yy=>?_
 obtain ⟨Yq,Yt,Yr,Yu,Ys,XN,X6,XR,X_,XW,YD,Xa,YH,Yf⟩:=y3
 try dsimp only
 obtain ⟨A,F,B⟩:=Yy
 refine rS (CL (Qk 0 0 aN Yq Yt Ys Yr Yu XN X6 XR X_ XW YD Yf Xa YH (by exact A)) (fD 8 U U<|aw (ai (n:=aN.ao.aP.length) 0 U sm)<|aw (ai (n:=aN.ao.ak.length) 1 U (g7 F))<|aw (cL 2 U iT)<|aw (ai (n:=aN.ao.ae.length) 3 U sm)<|aw (ai (n:=aN.aQ.length) 4 U sm)<|aw (ai (n:=aN.bQ.length) 5 U sm)<|aw (ai (n:=aN.ay.length) 6 U (fh B.1))<|aw (hE 7 U B)<|aI) U)<|bf 1 U<|qK [8] U U<|bf 2 U<|AL U de fun Di=>fP U cm U<|rP 1 [] mn ?_
 refine RK Yw<|WS fun _ YT=>cX jq (aI) U fun Yz Ya=>?_
 obtain ⟨XH,X0,XK,X3,Xx,XO,X7,XS,YA,XX,YE,Xb,YI,Yg⟩:=Yz
 try dsimp only
 obtain ⟨A,F,B⟩:=Ya
 refine cX (zT aN XH X0 Xx XK X3 XO X7 XS YA XX YE Yg Xb YI (by exact A)) (fD 9 U U<|aw (ai (n:=aN.ao.aP.length) 0 U sm)<|aw (ai (n:=aN.ao.ak.length) 1 U (g7 F))<|aw (cL 2 U iT)<|aw (ai (n:=aN.ao.ae.length) 3 U sm)<|aw (ai (n:=aN.aQ.length) 4 U sm)<|aw (ai (n:=aN.bQ.length) 5 U sm)<|aw (ai (n:=aN.ay.length) 6 U (fh B.1))<|aw (hE 7 U B)<|aI) U fun Y0 Yb=>?_
 obtain ⟨a,B9,Ci⟩:=Y0
 try dsimp only
 have W5:=Yb
 have IB:=W5
 refine bf 1 U<|qK [0,1,10,11] U U<|rP 4 [] mn ?_
 refine RK YT<|WS fun _ YU=>cX jq (aI) U fun Y1 Yc=>?_
 obtain ⟨XI,X1,XL,X4,Xy,XP,X8,XU,YB,XY,YF,Xc,YJ,Yh⟩:=Y1
 try dsimp only
 obtain ⟨A,F,B⟩:=Yc
 refine rS (CL (l4 2590 2599) (aI) U)<|cX (IY 0 2 (aa.mk 2590 2599) aN XI X1 Xy XL X4 XP X8 XU YB XY YF Yh Xc YJ (by exact A)) (fD 11 U U<|aw (ai (n:=aN.ao.aP.length) 0 U sm)<|aw (ai (n:=aN.ao.ak.length) 1 U (g7 F))<|aw (cL 2 U iT)<|aw (ai (n:=aN.ao.ae.length) 3 U sm)<|aw (ai (n:=aN.aQ.length) 4 U sm)<|aw (ai (n:=aN.bQ.length) 5 U sm)<|aw (ai (n:=aN.ay.length) 6 U (fh B.1))<|aw (hE 7 U B)<|aI) U fun Y2 IX=>?_
 obtain ⟨Yi,Y5,G,N,H,O,M,AB,P,J,R,K,S,L,T,AA⟩:=Y2
 cases Yi
 ·obtain ⟨YY,he⟩:=IX.2 rfl
  try dsimp only at YY he
  subst YY
  try dsimp only [cond_true,cond_false,List.cons_append,List.nil_append]
  exact absurd Cu he
 obtain ⟨YZ,⟨FS,YX⟩,C3⟩:=IX.1 rfl
 try dsimp only [cond_true,cond_false,List.cons_append,List.nil_append]
 try dsimp only at YZ FS YX C3
 have IR:e7 ld _ _:=e7.rep A FS YX C3
 refine bf 1 U<|qK [0,1,2,3,4,5,6,7,16,17,18,19] U U<|bf 2 U<|AL U C8 fun Ck=>fP U tv U<|bf 1 U<|RK YU<|WS fun _ YV=>rP 1 [] (mc 0 U mn) ?_
 refine cX (zT ld G N M H O AB P J R K S AA L T (by exact IR)) (fD 12 U U<|aw (ai (n:=aN.ao.aP.length) 1 U (by rw [List.length_map]; rfl))<|aw (ai (n:=aN.ao.ak.length) 2 U (g7 FS))<|aw (cL 3 U iT)<|aw (ai (n:=aN.ao.ae.length) 4 U (by rw [List.length_map]; rfl))<|aw (ai (n:=aN.aQ.length) 5 U (by rw [List.length_map]; rfl))<|aw (ai (n:=aN.bQ.length) 6 U (by rw [List.length_map]; rfl))<|aw (ai (n:=(gO aN.ay 0 2 (aa.mk 2590 2599)).length) 7 U (fh C3.1))<|aw (hE 8 U C3)<|aI) U fun Y3 Yd=>?_
 obtain ⟨b,A8,A9⟩:=Y3
 try dsimp only
 have W5:=Yd
 have IO:=W5
 refine rP 5 [] mn ?_
 refine RK YV<|WS fun _ YW=>cX jq (aI) U fun Y4 Ye=>?_
 obtain ⟨XJ,X2,XM,X5,Xz,XQ,X9,XV,YC,XZ,YG,Xd,YK,XA⟩:=Y4
 try dsimp only
 obtain ⟨A,F,B⟩:=Ye
 refine rS (CL (l4 2590 2599) (aI) U)<|cX (HK 0 2 (aa.mk 2590 2599) aN XJ X2 Xz XM X5 XQ X9 XV YC XZ YG XA Xd YK (by exact A)) (fD 22 U U<|aw (ai (n:=aN.ao.aP.length) 0 U sm)<|aw (ai (n:=aN.ao.ak.length) 1 U (g7 F))<|aw (cL 2 U iT)<|aw (ai (n:=aN.ao.ae.length) 3 U sm)<|aw (ai (n:=aN.aQ.length) 4 U sm)<|aw (ai (n:=aN.bQ.length) 5 U sm)<|aw (ai (n:=aN.ay.length) 6 U (fh B.1))<|aw (hE 7 U B)<|aI) U fun Yj Yx=>?_
 obtain ⟨W,Z⟩:=Yj
 try dsimp only
 refine bf 1 U<|qK [0,9,10,11,12,13,14,15,16,17,18,19,20,21,22,23] U U<|rP 4 [] mn ?_
 refine RK YW<|ah fun _ Sz=>J0 cu [8,9,10,11,12,13,14,15,16,17,18,19,20,21,22,23,24,25,26,27,28,29,30,31,32,33,34,35,36,37,38,39,40,41,42,43,44,45,46,47,48,49,50,51,52,53,54,55,56,57,58,59,60,61,62,63,64,65,66,67,68,69,70,71,72,73] [0,1,2,3,4,5,6,7,8,9,10,11,12,13,14,15] U U U<|eS U (MV U)<|eS U (BI U lx)<|eS U (MV U)<|Ki (t:=40) U (aM fun YL=>?_) (aL fun YL=>?_)
 ·exact absurd (Pj.1) YL
 refine eS U (LW 14 U bX U U)<|eS U (CL (l4 2596 2602) (aI) U)<|eS U (BI U (tI _ _ (ig aN 0 0) (aa.mk 2596 2602)))<|eS U (PK U)<|eS U (MV U)<|eU U<|gV U fun T106 S1=>b_ (t:=45) U (aM fun YM=>?_) (aL fun YM=>?_)
 ·exact absurd (Pj.2) YM
 refine cX jq (aI) U fun Yk W6=>?_
 obtain ⟨Id,Or,Jm,Pl,M2,J6,Qa,K0,Qx,LE,R1,Lo,R6,XB⟩:=Yk
 try dsimp only
 obtain ⟨A,F,B⟩:=W6
 refine RD S1 8 U<|gV U fun T123 S2=>rS (CL (yW 0 514 515 aN Id Or M2 Jm Pl J6 Qa K0 Qx LE R1 XB Lo R6 (by exact A)) (fD 23 U U<|aw (ai (n:=aN.ao.aP.length) 0 U sm)<|aw (ai (n:=aN.ao.ak.length) 1 U (g7 F))<|aw (cL 2 U iT)<|aw (ai (n:=aN.ao.ae.length) 3 U sm)<|aw (ai (n:=aN.aQ.length) 4 U sm)<|aw (ai (n:=aN.bQ.length) 5 U sm)<|aw (ai (n:=aN.ay.length) 6 U (fh B.1))<|aw (hE 7 U B)<|aI) U)<|RD S2 8 U<|gV U fun T124 TC=>qK [8,9,10,11,12,13,14,15,16,17,18,19,20,21,22,23] U U<|rS (PK U)<|RD TC 0 U<|gV U fun T125 Tm=>rS (MV U)<|RD Tm 0 U ?_
 refine wK (V:=OA×Nat×OA×Nat×List RA×OA×Nat×OA×Nat×OA×Nat×OA×Nat×List cO×Nat) (fun (j,z,l,AO,X,p,Al,s,A1,v,A3,x,A5,c,e)=>e7 aN X c∧X.length=aN.ao.ak.length∧sP aN.ay c) (fun (j,z,l,AO,X,p,Al,s,A1,v,A3,x,A5,c,e)=>[(3,(vS B9 ((cd aN).length) Ci)),(4,(vI (cK aN))),(5,(vP Ck)),(6,(vI 0)),(7,(vS A8 ((cd ld).length) A9)),(8,(vI (cK ld))),(9,(vS W ((eO aN 0 2 (aa.mk 2590 2599)).length) Z)),(10,(vI (gI aN 0 2 (aa.mk 2590 2599)))),(49,(vB true)),(50,(vA (cx.cells (cx.mk (ck.mk (bE.mk (br.mk j aN.ao.aP.length z)) aN.ao.g9 (br.mk l aN.ao.ak.length AO) (br.mk p aN.ao.ae.length Al) aN.ao.cH aN.ao.eV aN.ao.cW) (br.mk s aN.aQ.length A1) (br.mk v aN.bQ.length A3) aN.iK (br.mk x aN.ay.length A5))))),(51,(vS (some ⟨e,0,none⟩) 2 2))]) (fun (j,z,l,AO,X,p,Al,s,A1,v,A3,x,A5,c,e)=>[(bV e 3 [(vI 1),(vI 2)]),(own j z 114 9 (aN.ao.aP.map al.cells)),(own l AO 119 2 (List.zipWith ar.cells aN.ao.ak X)),(bw (aV ar.owns aN.ao.ak X)),(own p Al 121 4 (aN.ao.ae.map bD.cells)),(own s A1 3 1 (aN.aQ.map iC)),(own v A3 3 1 (aN.bQ.map iC)),(own x A5 46 1 (List.zipWith cP aN.ay c)),(bw (aV je aN.ay c)),(own W Z 3 1 ((eO aN 0 2 (aa.mk 2590 2599)).map iC)),(own A8 A9 32 1 (List.zipWith l3 (cd ld) b)),(bw (aV sG (cd ld) b)),(bV Ck 35 (cx.cells (cx.mk (ck.mk (bE.mk (br.mk G aN.ao.aP.length N)) aN.ao.g9 (br.mk H aN.ao.ak.length O) (br.mk AB aN.ao.ae.length P) aN.ao.cH aN.ao.eV aN.ao.cW) (br.mk J aN.aQ.length R) (br.mk K aN.bQ.length S) aN.iK (br.mk L ((gO aN.ay 0 2 (aa.mk 2590 2599)).length) T)))),(own G N 114 9 (aN.ao.aP.map al.cells)),(own H O 119 2 (List.zipWith ar.cells aN.ao.ak M)),(bw (aV ar.owns aN.ao.ak M)),(own AB P 121 4 (aN.ao.ae.map bD.cells)),(own J R 3 1 (aN.aQ.map iC)),(own K S 3 1 (aN.bQ.map iC)),(own L T 46 1 (List.zipWith cP (gO aN.ay 0 2 (aa.mk 2590 2599)) AA)),(bw (aV je (gO aN.ay 0 2 (aa.mk 2590 2599)) AA)),(own B9 Ci 32 1 (List.zipWith l3 (cd aN) a)),(bw (aV sG (cd aN) a)),(bV Di 40 (aa.cells (ig aN 0 0))),(rd eW 3 2 dZ).ro]) 60 [14,15,16,17,18,19,20,21,22,23,24,25,26,27,28,29,30,31,32,33,34,35,36,37,38,39,40,41,42,43,44,45,46,47,48,49,50,51,52,53,54,55,56,57,58,59,60,61,62,63,64,65,66,67,68,69,70,71,72,73] (fun hJ=>?_) ?_
 ·refine iJ [12,13] kr (eE ?_<|eE ?_<|kl)
  rotate_left 1
  ·refine ia U U U fun T162 T4=>b_ (t:=49) U (aM fun Do=>?_) (aL fun Do=>?_)
   ·exact absurd (⟨mx.1,mx.2.1⟩) Do
   refine cY (xs:=[.const (vI 1),.const (vI 2)]) (cs:=[(vI 1),(vI 2)]) U cp jf U U U U (by simp [Value.cells]) U U fun Xf=>RD T4 1 U<|N1 12<|ia U U U fun T164 T5=>cX jq (aI) U fun Yn W8=>?_
   obtain ⟨Ik,PC,J3,P5,NN,J8,Qp,K5,Rc,La,R3,L0,R8,XD⟩:=Yn
   try dsimp only
   obtain ⟨A,F,B⟩:=W8
   refine RD T5 9 U ?_
   exact jI hJ (Ik,PC,J3,P5,NN,J8,Qp,K5,Rc,La,R3,L0,R8,XD,Xf) ⟨A,F,B⟩ [8,0,1,2,3,4,5,6,7,9,10,11,12,13,14,15,16,17,18,19,20,21,22,23,24] U U U
  refine ia U U U fun T143 T0=>b_ (t:=49) U (aM fun Do=>?_) (aL fun Do=>?_)
  ·exact absurd (⟨mx.1,mx.2.1⟩) Do
  refine cX jq (aI) U fun Ym W7=>?_
  obtain ⟨If,Os,J2,Pu,NE,J7,Qf,K4,Rb,LT,R2,Ly,R7,XC⟩:=Ym
  try dsimp only
  obtain ⟨A,F,B⟩:=W7
  refine RD T0 8 U<|N1 13<|ia U U U fun T160 T2=>cY (xs:=[.const (vI 1),.const (vI 2)]) (cs:=[(vI 1),(vI 2)]) U cp jf U U U U (by simp [Value.cells]) U U fun Xe=>RD T2 9 U ?_
  exact jI hJ (If,Os,J2,Pu,NE,J7,Qf,K4,Rb,LT,R2,Ly,R7,XC,Xe) ⟨A,F,B⟩ [0,1,2,3,4,5,6,7,8,9,10,11,12,13,14,15,16,17,18,19,20,21,22,23,24] U U U
 rintro ⟨j,z,l,AO,X,p,Al,s,A1,v,A3,x,A5,c,e⟩ ⟨A,F,B⟩
 try dsimp only
 refine gV U fun T181 T6=>rS (CL (yz 0 ([1,2]) (some ⟨e,0,none⟩) 2 aN j z X l AO p Al s A1 v A3 c x A5 (by exact A) dc) (aw (aZ 0 U U (by simp [bB]) U)<|fD 24 U U<|aw (ai (n:=aN.ao.aP.length) 1 U sm)<|aw (ai (n:=aN.ao.ak.length) 2 U (g7 F))<|aw (cL 3 U iT)<|aw (ai (n:=aN.ao.ae.length) 4 U sm)<|aw (ai (n:=aN.aQ.length) 5 U sm)<|aw (ai (n:=aN.bQ.length) 6 U sm)<|aw (ai (n:=aN.ay.length) 7 U (fh B.1))<|aw (hE 8 U B)<|aI) U)<|RD T6 9 U<|gV U fun T182 T7=>qK [0,9,10,11,12,13,14,15,16,17,18,19,20,21,22,23,24] U U<|rS (PK U)<|RD T7 1 U<|gV U fun T183 T8=>rS (MV U)<|RD T8 1 U ?_
 refine wK (V:=OA×Nat×OA×Nat×List RA×OA×Nat×OA×Nat×OA×Nat×OA×Nat×List cO×Nat) (fun (k,AC,o,Ah,Y,q,A0,u,A2,w,A4,y,A6,d,f)=>e7 aN Y d∧Y.length=aN.ao.ak.length∧sP aN.ay d) (fun (k,AC,o,Ah,Y,q,A0,u,A2,w,A4,y,A6,d,f)=>[(3,(vS B9 ((cd aN).length) Ci)),(4,(vI (cK aN))),(5,(vP Ck)),(6,(vI 0)),(7,(vS A8 ((cd ld).length) A9)),(8,(vI (cK ld))),(9,(vS W ((eO aN 0 2 (aa.mk 2590 2599)).length) Z)),(10,(vI (gI aN 0 2 (aa.mk 2590 2599)))),(54,(vB true)),(55,(vA (cx.cells (cx.mk (ck.mk (bE.mk (br.mk k aN.ao.aP.length AC)) aN.ao.g9 (br.mk o aN.ao.ak.length Ah) (br.mk q aN.ao.ae.length A0) aN.ao.cH aN.ao.eV aN.ao.cW) (br.mk u aN.aQ.length A2) (br.mk w aN.bQ.length A4) aN.iK (br.mk y aN.ay.length A6))))),(56,(vS (some ⟨f,0,none⟩) 2 2))]) (fun (k,AC,o,Ah,Y,q,A0,u,A2,w,A4,y,A6,d,f)=>[(bV f 3 [(vI 2),(vI 3)]),(own k AC 114 9 (aN.ao.aP.map al.cells)),(own o Ah 119 2 (List.zipWith ar.cells aN.ao.ak Y)),(bw (aV ar.owns aN.ao.ak Y)),(own q A0 121 4 (aN.ao.ae.map bD.cells)),(own u A2 3 1 (aN.aQ.map iC)),(own w A4 3 1 (aN.bQ.map iC)),(own y A6 46 1 (List.zipWith cP aN.ay d)),(bw (aV je aN.ay d)),(bV e 3 [(vI 1),(vI 2)]),(own W Z 3 1 ((eO aN 0 2 (aa.mk 2590 2599)).map iC)),(own A8 A9 32 1 (List.zipWith l3 (cd ld) b)),(bw (aV sG (cd ld) b)),(bV Ck 35 (cx.cells (cx.mk (ck.mk (bE.mk (br.mk G aN.ao.aP.length N)) aN.ao.g9 (br.mk H aN.ao.ak.length O) (br.mk AB aN.ao.ae.length P) aN.ao.cH aN.ao.eV aN.ao.cW) (br.mk J aN.aQ.length R) (br.mk K aN.bQ.length S) aN.iK (br.mk L ((gO aN.ay 0 2 (aa.mk 2590 2599)).length) T)))),(own G N 114 9 (aN.ao.aP.map al.cells)),(own H O 119 2 (List.zipWith ar.cells aN.ao.ak M)),(bw (aV ar.owns aN.ao.ak M)),(own AB P 121 4 (aN.ao.ae.map bD.cells)),(own J R 3 1 (aN.aQ.map iC)),(own K S 3 1 (aN.bQ.map iC)),(own L T 46 1 (List.zipWith cP (gO aN.ay 0 2 (aa.mk 2590 2599)) AA)),(bw (aV je (gO aN.ay 0 2 (aa.mk 2590 2599)) AA)),(own B9 Ci 32 1 (List.zipWith l3 (cd aN) a)),(bw (aV sG (cd aN) a)),(bV Di 40 (aa.cells (ig aN 0 0))),(rd eW 3 2 dZ).ro]) 55 [19,20,21,22,23,24,25,26,27,28,29,30,31,32,33,34,35,36,37,38,39,40,41,42,43,44,45,46,47,48,49,50,51,52,53,54,55,56,57,58,59,60,61,62,63,64,65,66,67,68,69,70,71,72,73] (fun hJ=>?_) ?_
 ·refine iJ [17,18] kr (eE ?_<|eE ?_<|kl)
  rotate_left 1
  ·refine ia U U U fun T220 UV=>b_ (t:=54) U (aM fun Dt=>?_) (aL fun Dt=>?_)
   ·exact absurd (⟨mx.1,mx.2.2⟩) Dt
   refine cY (xs:=[.const (vI 2),.const (vI 3)]) (cs:=[(vI 2),(vI 3)]) U cp jf U U U U (by simp [Value.cells]) U U fun Xh=>RD UV 2 U<|N1 17<|ia U U U fun T222 Um=>cX jq (aI) U fun Yp W_=>?_
   obtain ⟨Jg,Pi,J5,QI,Op,Kg,Qs,LA,R0,Lk,R5,L3,ST,XG⟩:=Yp
   try dsimp only
   obtain ⟨A,F,B⟩:=W_
   refine RD Um 10 U ?_
   exact jI hJ (Jg,Pi,J5,QI,Op,Kg,Qs,LA,R0,Lk,R5,L3,ST,XG,Xh) ⟨A,F,B⟩ [8,0,1,2,3,4,5,6,7,9,10,11,12,13,14,15,16,17,18,19,20,21,22,23,24,25] U U U
  refine ia U U U fun T201 T9=>b_ (t:=54) U (aM fun Dt=>?_) (aL fun Dt=>?_)
  ·exact absurd (⟨mx.1,mx.2.2⟩) Dt
  refine cX jq (aI) U fun Yo W9=>?_
  obtain ⟨In,PP,J4,QB,Ne,J9,Qr,K8,Ru,Li,R4,L2,R9,XE⟩:=Yo
  try dsimp only
  obtain ⟨A,F,B⟩:=W9
  refine RD T9 9 U<|N1 18<|ia U U U fun T218 UM=>cY (xs:=[.const (vI 2),.const (vI 3)]) (cs:=[(vI 2),(vI 3)]) U cp jf U U U U (by simp [Value.cells]) U U fun Xg=>RD UM 10 U ?_
  exact jI hJ (In,PP,J4,QB,Ne,J9,Qr,K8,Ru,Li,R4,L2,R9,XE,Xg) ⟨A,F,B⟩ [0,1,2,3,4,5,6,7,8,9,10,11,12,13,14,15,16,17,18,19,20,21,22,23,24,25] U U U
 rintro ⟨k,AC,o,Ah,Y,q,A0,u,A2,w,A4,y,A6,d,f⟩ ⟨A,F,B⟩
 try dsimp only
 refine gV U fun T239 Uv=>rS (CL (yz 2 ([2,3]) (some ⟨f,0,none⟩) 2 aN k AC Y o Ah q A0 u A2 w A4 d y A6 (by exact A) dc) (aw (aZ 0 U U (by simp [bB]) U)<|fD 25 U U<|aw (ai (n:=aN.ao.aP.length) 1 U sm)<|aw (ai (n:=aN.ao.ak.length) 2 U (g7 F))<|aw (cL 3 U iT)<|aw (ai (n:=aN.ao.ae.length) 4 U sm)<|aw (ai (n:=aN.aQ.length) 5 U sm)<|aw (ai (n:=aN.bQ.length) 6 U sm)<|aw (ai (n:=aN.ay.length) 7 U (fh B.1))<|aw (hE 8 U B)<|aI) U)<|RD Uv 10 U<|gV U fun T240 U9=>qK [0,9,10,11,12,13,14,15,16,17,18,19,20,21,22,23,24,25] U U<|rS (PK U)<|RD U9 2 U<|gV U fun T241 VO=>rS (MV U)<|RD VO 2 U<|gV U fun T242 VP=>b_ (t:=59) U (aM fun YN=>?_) (aL fun YN=>?_)
 ·exact absurd (⟨Ct.1,Ct.2.2⟩) YN
 refine rS (CL (B8 1 2 2 0) (bj [17]) U)<|RD VP 2 U<|gV U fun T243 VR=>rS (PK U)<|RD VR 2 U<|gV U fun T244 VS=>rS (MV U)<|RD VS 2 U<|gV U fun T245 VT=>b_ (t:=62) U (aM fun YO=>?_) (aL fun YO=>?_)
 ·exact absurd (⟨⟨⟨zP.1,zP.2.1⟩,zP.1⟩,zP.2.2⟩) YO
 refine rS (CL (B8 0 1 0 1) (bj [17]) U)<|RD VT 2 U<|gV U fun T246 VU=>rS (PK U)<|RD VU 2 U<|gV U fun T247 VV=>rS (MV U)<|RD VV 2 U<|gV U fun T248 VW=>b_ (t:=65) U (aM fun YP=>?_) (aL fun YP=>?_)
 ·exact absurd (⟨⟨⟨As.1,As.2.1⟩,As.1⟩,As.2.2⟩) YP
 refine rS (MV U)<|RD VW 2 U<|gV U fun T249 VX=>rS (BI U lx)<|RD VX 2 U<|gV U fun T250 VY=>rS (PK U)<|RD VY 2 U<|gV U fun T251 VZ=>rS (MV U)<|RD VZ 2 U ?_
 refine wK (V:=Nat×Nat) (fun (C,g)=>True) (fun (C,g)=>[(5,(vP Ck)),(6,(vI 0)),(7,(vS A8 ((cd ld).length) A9)),(8,(vI (cK ld))),(9,(vS W ((eO aN 0 2 (aa.mk 2590 2599)).length) Z)),(10,(vI (gI aN 0 2 (aa.mk 2590 2599)))),(69,(vB true)),(70,(vS B9 ((cd aN).length) Ci)),(71,(vS (some ⟨C,0,none⟩) 3 3)),(72,(vS (some ⟨g,0,none⟩) 1 1))]) (fun (C,g)=>[(bV g 32 [(vS (some ⟨C,0,none⟩) 3 3)]),(bV C 3 [(vI 0),(vI 1),(vI 2)]),(bV f 3 [(vI 2),(vI 3)]),(bV e 3 [(vI 1),(vI 2)]),(own W Z 3 1 ((eO aN 0 2 (aa.mk 2590 2599)).map iC)),(own A8 A9 32 1 (List.zipWith l3 (cd ld) b)),(bw (aV sG (cd ld) b)),(bV Ck 35 (cx.cells (cx.mk (ck.mk (bE.mk (br.mk G aN.ao.aP.length N)) aN.ao.g9 (br.mk H aN.ao.ak.length O) (br.mk AB aN.ao.ae.length P) aN.ao.cH aN.ao.eV aN.ao.cW) (br.mk J aN.aQ.length R) (br.mk K aN.bQ.length S) aN.iK (br.mk L ((gO aN.ay 0 2 (aa.mk 2590 2599)).length) T)))),(own G N 114 9 (aN.ao.aP.map al.cells)),(own H O 119 2 (List.zipWith ar.cells aN.ao.ak M)),(bw (aV ar.owns aN.ao.ak M)),(own AB P 121 4 (aN.ao.ae.map bD.cells)),(own J R 3 1 (aN.aQ.map iC)),(own K S 3 1 (aN.bQ.map iC)),(own L T 46 1 (List.zipWith cP (gO aN.ay 0 2 (aa.mk 2590 2599)) AA)),(bw (aV je (gO aN.ay 0 2 (aa.mk 2590 2599)) AA)),(own B9 Ci 32 1 (List.zipWith l3 (cd aN) a)),(bw (aV sG (cd aN) a)),(bV Di 40 (aa.cells (ig aN 0 0))),(rd eW 3 2 dZ).ro]) 39 [35,36,37,38,39,40,41,42,43,44,45,46,47,48,49,50,51,52,53,54,55,56,57,58,59,60,61,62,63,64,65,66,67,68,69,70,71,72,73] (fun hJ=>?_) ?_
 ·refine iJ [32,33] kr (eE ?_<|eE ?_<|kl)
  ·refine ia U U U fun T254 Vw=>b_ (t:=69) U (aM fun EQ=>?_) (aL fun EQ=>?_)
   ·exact absurd (p8) EQ
   refine rS (MV U)<|RD Vw 2 U<|N1 33<|ia U U U fun T255 Vz=>cY (xs:=[.const (vI 0),.const (vI 1),.const (vI 2)]) (cs:=[(vI 0),(vI 1),(vI 2)]) U cp jf U U U U (by simp [Value.cells]) U U fun Fn=>RD Vz 3 U<|N1 34<|ia U U U fun T257 V0=>cY (xs:=[.tmp 71]) (cs:=[(vS (some ⟨Fn,0,none⟩) 3 3)]) U nW vM U U U U (by simp [Value.cells]) U U fun Xi=>RD V0 4 U ?_
   exact jI hJ (Fn,Xi) trivial [0,1,2,3,4,5,6,7,8,9,10,11,12,13,14,15,16,17,18,19] U U U
  refine ia U U U fun T259 V1=>b_ (t:=69) U (aM fun EQ=>?_) (aL fun EQ=>?_)
  ·exact absurd (p8) EQ
  refine cY (xs:=[.const (vI 0),.const (vI 1),.const (vI 2)]) (cs:=[(vI 0),(vI 1),(vI 2)]) U cp jf U U U U (by simp [Value.cells]) U U fun Cx=>RD V1 3 U<|iJ [32,34] kr (eE ?_<|eE ?_<|kl)
  rotate_left 1
  ·refine ia U U U fun T264 V4=>cY (xs:=[.tmp 71]) (cs:=[(vS (some ⟨Cx,0,none⟩) 3 3)]) U nW vM U U U U (by simp [Value.cells]) U U fun Xk=>RD V4 4 U<|N1 32<|ia U U U fun T266 V5=>rS (MV U)<|RD V5 4 U ?_
   exact jI hJ (Cx,Xk) trivial [0,1,2,3,4,5,6,7,8,9,10,11,12,13,14,15,16,17,18,19] U U U
  refine ia U U U fun T261 V2=>rS (MV U)<|RD V2 3 U<|N1 34<|ia U U U fun T262 V3=>cY (xs:=[.tmp 71]) (cs:=[(vS (some ⟨Cx,0,none⟩) 3 3)]) U nW vM U U U U (by simp [Value.cells]) U U fun Xj=>RD V3 4 U ?_
  exact jI hJ (Cx,Xj) trivial [0,1,2,3,4,5,6,7,8,9,10,11,12,13,14,15,16,17,18,19] U U U
 rintro ⟨C,g⟩-
 try dsimp only
 refine gV U fun T267 V6=>?_
 refine dM (es:=(([0,1,2]:List Int).map iC)) (C':=[_,(own (some ⟨C,0,none⟩) 3 3 1 (([0,1,2]:List Int).map iC)),_,_,_,_,_,_,_,_,_,_,_,_,_,_,_,_,_,_]) 1 U (mX bB _) U (by show _≤maxLen; exact Nat.le_trans (m:=10) (show (3:Nat)≤10 by decide) dc) U ?_
 refine dM (es:=(List.zipWith l3 [([0,1,2]:List Int)] [((some ⟨C,0,none⟩),3)])) (C':=[(own (some ⟨g,0,none⟩) 1 32 1 (List.zipWith l3 [([0,1,2]:List Int)] [((some ⟨C,0,none⟩),3)])),_,_,_,_,_,_,_,_,_,_,_,_,_,_,_,_,_,_,_]) 0 U (oN Jt) U (by show _≤maxLen; exact Nat.le_trans (m:=10) (show (1:Nat)≤10 by decide) dc) U ?_
 refine uj (aV sG [([0,1,2]:List Int)] [((some ⟨C,0,none⟩),3)]) [1] [0,2,3,4,5,6,7,8,9,10,11,12,13,14,15,16,17,18,19] U U<|rS (CL (ve (cd aN) ([([0,1,2]:List Int)]) a B9 Ci ([((some ⟨C,0,none⟩),3)]) (some ⟨g,0,none⟩) 1 (by first|exact Fd.1|exact C2.1) dc (by first|exact Fd.2|exact C2.2) dc (by exact IB) (by rfl)) (aw (ai (n:=(cd aN).length) 16 U (iy IB))<|aw (cL 17 U mM)<|aw (ai (n:=([([0,1,2]:List Int)]).length) 1 U sm)<|aw (cL 0 U mM)<|aI) U)<|RD V6 4 U<|gV U fun T268 V7=>rS (PK U)<|RD V7 4 U<|gV U fun T269 V8=>rS (MV U)<|RD V8 4 U<|gV U fun T270 V9=>b_ (t:=75) U (aM fun YQ=>?_) (aL fun YQ=>?_)
 ·exact absurd (MO) YQ
 refine rS (MV U)<|RD V9 4 U<|gV U fun T271 V_=>rS (SX (bU (r:= .bool true) U U U lx) U U)<|RD V_ 4 U<|gV U fun T272 WA=>rS (PK U)<|RD WA 4 U<|gV U fun T273 WB=>rS (MV U)<|RD WB 4 U<|gV U fun T274 WC=>rS (LW 7 U bX U U)<|RD WC 4 U<|gV U fun T275 WD=>?_
 refine rS (CL (yW 2 516 516 ld G N M H O AB P J R K S AA L T (by exact IR)) (fD 19 U U<|aw (ai (n:=aN.ao.aP.length) 8 U (by rw [List.length_map]; rfl))<|aw (ai (n:=aN.ao.ak.length) 9 U (g7 FS))<|aw (cL 10 U iT)<|aw (ai (n:=aN.ao.ae.length) 11 U (by rw [List.length_map]; rfl))<|aw (ai (n:=aN.aQ.length) 12 U (by rw [List.length_map]; rfl))<|aw (ai (n:=aN.bQ.length) 13 U (by rw [List.length_map]; rfl))<|aw (ai (n:=(gO aN.ay 0 2 (aa.mk 2590 2599)).length) 14 U (fh C3.1))<|aw (hE 15 U C3)<|aI) U) ?_
 refine RD WD 4 U<|gV U fun T276 WE=>rS (PK U)<|RD WE 4 U<|gV U fun T277 WF=>rS (MV U)<|RD WF 4 U<|gV U fun T278 WG=>b_ (t:=83) U (aM fun YR=>?_) (aL fun YR=>?_)
 ·exact absurd (Lm) YR
 refine rS (MV U)<|RD WG 4 U<|gV U fun T279 WH=>rS (BI U lx)<|RD WH 4 U<|gV U fun T280 WI=>rS (PK U)<|RD WI 4 U<|gV U fun T281 WL=>rS (MV U)<|RD WL 4 U ?_
 refine wK (V:=Nat×Nat×Nat) (fun (D,E,A7)=>True) (fun (D,E,A7)=>[(9,(vS W ((eO aN 0 2 (aa.mk 2590 2599)).length) Z)),(10,(vI (gI aN 0 2 (aa.mk 2590 2599)))),(71,(vS (some ⟨C,0,none⟩) 3 3)),(87,(vB true)),(88,(vS A8 ((cd ld).length) A9)),(89,(vS (some ⟨D,0,none⟩) 2 2)),(90,(vS (some ⟨E,0,none⟩) 1 1)),(91,(vS (some ⟨A7,0,none⟩) 2 2))]) (fun (D,E,A7)=>[(bV A7 32 [(vS (some ⟨D,0,none⟩) 2 2),(vS (some ⟨E,0,none⟩) 1 1)]),(bV E 3 [(vI 2)]),(bV D 3 [(vI 0),(vI 1)]),(bw (aV sG [([0,1,2]:List Int)] [((some ⟨C,0,none⟩),3)])),(own (some ⟨g,0,none⟩) 1 32 1 (List.zipWith l3 [([0,1,2]:List Int)] [((some ⟨C,0,none⟩),3)])),(bV f 3 [(vI 2),(vI 3)]),(bV e 3 [(vI 1),(vI 2)]),(own W Z 3 1 ((eO aN 0 2 (aa.mk 2590 2599)).map iC)),(own A8 A9 32 1 (List.zipWith l3 (cd ld) b)),(bw (aV sG (cd ld) b)),(bV Ck 35 (cx.cells (cx.mk (ck.mk (bE.mk (br.mk G aN.ao.aP.length N)) aN.ao.g9 (br.mk H aN.ao.ak.length O) (br.mk AB aN.ao.ae.length P) aN.ao.cH aN.ao.eV aN.ao.cW) (br.mk J aN.aQ.length R) (br.mk K aN.bQ.length S) aN.iK (br.mk L ((gO aN.ay 0 2 (aa.mk 2590 2599)).length) T)))),(own G N 114 9 (aN.ao.aP.map al.cells)),(own H O 119 2 (List.zipWith ar.cells aN.ao.ak M)),(bw (aV ar.owns aN.ao.ak M)),(own AB P 121 4 (aN.ao.ae.map bD.cells)),(own J R 3 1 (aN.aQ.map iC)),(own K S 3 1 (aN.bQ.map iC)),(own L T 46 1 (List.zipWith cP (gO aN.ay 0 2 (aa.mk 2590 2599)) AA)),(bw (aV je (gO aN.ay 0 2 (aa.mk 2590 2599)) AA)),(own B9 Ci 32 1 (List.zipWith l3 (cd aN) a)),(bw (aV sG (cd aN) a)),(bV Di 40 (aa.cells (ig aN 0 0))),(rd eW 3 2 dZ).ro]) 20 [54,55,56,57,58,59,60,61,62,63,64,65,66,67,68,69,70,71,72,73] (fun hJ=>?_) ?_
 ·refine iJ [50,51,52] kr (eE ?_<|eE ?_<|eE ?_<|kl)
  ·refine ia U U U fun T285 WM=>b_ (t:=87) U (aM fun Cp=>?_) (aL fun Cp=>?_)
   ·exact absurd (xq) Cp
   refine rS (MV U)<|RD WM 4 U<|iJ [51,52] kr (eE ?_<|eE ?_<|kl)
   rotate_left 1
   ·refine ia U U U fun T292 WQ=>cY (xs:=[.const (vI 2)]) (cs:=[(vI 2)]) U cp jf U U U U (by simp [Value.cells]) U U fun Gf=>RD WQ 5 U<|N1 51<|ia U U U fun T294 WR=>cY (xs:=[.const (vI 0),.const (vI 1)]) (cs:=[(vI 0),(vI 1)]) U cp jf U U U U (by simp [Value.cells]) U U fun Go=>RD WR 6 U<|N1 53<|ia U U U fun T296 WT=>cY (xs:=[.tmp 89,.tmp 90]) (cs:=[(vS (some ⟨Go,0,none⟩) 2 2),(vS (some ⟨Gf,0,none⟩) 1 1)]) U nW vM U U U U (by simp [Value.cells]) U U fun Xm=>RD WT 7 U ?_
    exact jI hJ (Go,Gf,Xm) trivial [0,2,1,3,4,5,6,7,8,9,10,11,12,13,14,15,16,17,18,19,20,21,22] U U U
   refine ia U U U fun T286 WN=>cY (xs:=[.const (vI 0),.const (vI 1)]) (cs:=[(vI 0),(vI 1)]) U cp jf U U U U (by simp [Value.cells]) U U fun GE=>RD WN 5 U<|N1 52<|ia U U U fun T288 WO=>cY (xs:=[.const (vI 2)]) (cs:=[(vI 2)]) U cp jf U U U U (by simp [Value.cells]) U U fun GT=>RD WO 6 U<|N1 53<|ia U U U fun T290 WP=>cY (xs:=[.tmp 89,.tmp 90]) (cs:=[(vS (some ⟨GE,0,none⟩) 2 2),(vS (some ⟨GT,0,none⟩) 1 1)]) U nW vM U U U U (by simp [Value.cells]) U U fun Xl=>RD WP 7 U ?_
   exact jI hJ (GE,GT,Xl) trivial [0,1,2,3,4,5,6,7,8,9,10,11,12,13,14,15,16,17,18,19,20,21,22] U U U
  ·refine ia U U U fun T298 WU=>b_ (t:=87) U (aM fun Cp=>?_) (aL fun Cp=>?_)
   ·exact absurd (xq) Cp
   refine cY (xs:=[.const (vI 0),.const (vI 1)]) (cs:=[(vI 0),(vI 1)]) U cp jf U U U U (by simp [Value.cells]) U U fun Bi=>RD WU 5 U<|iJ [50,52] kr (eE ?_<|eE ?_<|kl)
   ·refine ia U U U fun T300 WV=>rS (MV U)<|RD WV 5 U<|N1 52<|ia U U U fun T301 WW=>cY (xs:=[.const (vI 2)]) (cs:=[(vI 2)]) U cp jf U U U U (by simp [Value.cells]) U U fun Gr=>RD WW 6 U<|N1 53<|ia U U U fun T303 WX=>cY (xs:=[.tmp 89,.tmp 90]) (cs:=[(vS (some ⟨Bi,0,none⟩) 2 2),(vS (some ⟨Gr,0,none⟩) 1 1)]) U nW vM U U U U (by simp [Value.cells]) U U fun Xn=>RD WX 7 U ?_
    exact jI hJ (Bi,Gr,Xn) trivial [0,1,2,3,4,5,6,7,8,9,10,11,12,13,14,15,16,17,18,19,20,21,22] U U U
   refine ia U U U fun T305 WY=>cY (xs:=[.const (vI 2)]) (cs:=[(vI 2)]) U cp jf U U U U (by simp [Value.cells]) U U fun C0=>RD WY 6 U<|iJ [50,53] kr (eE ?_<|eE ?_<|kl)
   rotate_left 1
   ·refine ia U U U fun T310 Wb=>cY (xs:=[.tmp 89,.tmp 90]) (cs:=[(vS (some ⟨Bi,0,none⟩) 2 2),(vS (some ⟨C0,0,none⟩) 1 1)]) U nW vM U U U U (by simp [Value.cells]) U U fun Xp=>RD Wb 7 U<|N1 50<|ia U U U fun T312 Wc=>rS (MV U)<|RD Wc 7 U ?_
    exact jI hJ (Bi,C0,Xp) trivial [0,1,2,3,4,5,6,7,8,9,10,11,12,13,14,15,16,17,18,19,20,21,22] U U U
   refine ia U U U fun T307 WZ=>rS (MV U)<|RD WZ 6 U<|N1 53<|ia U U U fun T308 Wa=>cY (xs:=[.tmp 89,.tmp 90]) (cs:=[(vS (some ⟨Bi,0,none⟩) 2 2),(vS (some ⟨C0,0,none⟩) 1 1)]) U nW vM U U U U (by simp [Value.cells]) U U fun Xo=>RD Wa 7 U ?_
   exact jI hJ (Bi,C0,Xo) trivial [0,1,2,3,4,5,6,7,8,9,10,11,12,13,14,15,16,17,18,19,20,21,22] U U U
  refine ia U U U fun T313 Wd=>b_ (t:=87) U (aM fun Cp=>?_) (aL fun Cp=>?_)
  ·exact absurd (xq) Cp
  refine cY (xs:=[.const (vI 2)]) (cs:=[(vI 2)]) U cp jf U U U U (by simp [Value.cells]) U U fun B3=>RD Wd 5 U<|iJ [50,51] kr (eE ?_<|eE ?_<|kl)
  ·refine ia U U U fun T315 We=>rS (MV U)<|RD We 5 U<|N1 51<|ia U U U fun T316 Wf=>cY (xs:=[.const (vI 0),.const (vI 1)]) (cs:=[(vI 0),(vI 1)]) U cp jf U U U U (by simp [Value.cells]) U U fun G2=>RD Wf 6 U<|N1 53<|ia U U U fun T318 Wg=>cY (xs:=[.tmp 89,.tmp 90]) (cs:=[(vS (some ⟨G2,0,none⟩) 2 2),(vS (some ⟨B3,0,none⟩) 1 1)]) U nW vM U U U U (by simp [Value.cells]) U U fun Xq=>RD Wg 7 U ?_
   exact jI hJ (G2,B3,Xq) trivial [0,2,1,3,4,5,6,7,8,9,10,11,12,13,14,15,16,17,18,19,20,21,22] U U U
  refine ia U U U fun T320 Wh=>cY (xs:=[.const (vI 0),.const (vI 1)]) (cs:=[(vI 0),(vI 1)]) U cp jf U U U U (by simp [Value.cells]) U U fun C1=>RD Wh 6 U<|iJ [50,53] kr (eE ?_<|eE ?_<|kl)
  rotate_left 1
  ·refine ia U U U fun T325 Wk=>cY (xs:=[.tmp 89,.tmp 90]) (cs:=[(vS (some ⟨C1,0,none⟩) 2 2),(vS (some ⟨B3,0,none⟩) 1 1)]) U nW vM U U U U (by simp [Value.cells]) U U fun Xs=>RD Wk 7 U<|N1 50<|ia U U U fun T327 Wl=>rS (MV U)<|RD Wl 7 U ?_
   exact jI hJ (C1,B3,Xs) trivial [0,2,1,3,4,5,6,7,8,9,10,11,12,13,14,15,16,17,18,19,20,21,22] U U U
  refine ia U U U fun T322 Wi=>rS (MV U)<|RD Wi 6 U<|N1 53<|ia U U U fun T323 Wj=>cY (xs:=[.tmp 89,.tmp 90]) (cs:=[(vS (some ⟨C1,0,none⟩) 2 2),(vS (some ⟨B3,0,none⟩) 1 1)]) U nW vM U U U U (by simp [Value.cells]) U U fun Xr=>RD Wj 7 U ?_
  exact jI hJ (C1,B3,Xr) trivial [0,2,1,3,4,5,6,7,8,9,10,11,12,13,14,15,16,17,18,19,20,21,22] U U U
 rintro ⟨D,E,A7⟩-
 try dsimp only
 refine gV U fun T328 Wm=>?_
 refine dM (es:=(([0,1]:List Int).map iC)) (C':=[_,_,(own (some ⟨D,0,none⟩) 2 3 1 (([0,1]:List Int).map iC)),_,_,_,_,_,_,_,_,_,_,_,_,_,_,_,_,_,_,_,_]) 2 U (mX bB _) U (by show _≤maxLen; exact Nat.le_trans (m:=10) (show (2:Nat)≤10 by decide) dc) U ?_
 refine dM (es:=(([2]:List Int).map iC)) (C':=[_,(own (some ⟨E,0,none⟩) 1 3 1 (([2]:List Int).map iC)),_,_,_,_,_,_,_,_,_,_,_,_,_,_,_,_,_,_,_,_,_]) 1 U (mX bB _) U (by show _≤maxLen; exact Nat.le_trans (m:=10) (show (1:Nat)≤10 by decide) dc) U ?_
 refine dM (es:=(List.zipWith l3 [([0,1]:List Int),([2]:List Int)] [((some ⟨D,0,none⟩),2),((some ⟨E,0,none⟩),1)])) (C':=[(own (some ⟨A7,0,none⟩) 2 32 1 (List.zipWith l3 [([0,1]:List Int),([2]:List Int)] [((some ⟨D,0,none⟩),2),((some ⟨E,0,none⟩),1)])),_,_,_,_,_,_,_,_,_,_,_,_,_,_,_,_,_,_,_,_,_,_]) 0 U (oN Jt) U (by show _≤maxLen; exact Nat.le_trans (m:=10) (show (2:Nat)≤10 by decide) dc) U ?_
 refine uj (aV sG [([0,1]:List Int),([2]:List Int)] [((some ⟨D,0,none⟩),2),((some ⟨E,0,none⟩),1)]) [2,1] [0,3,4,5,6,7,8,9,10,11,12,13,14,15,16,17,18,19,20,21,22] U U<|rS (CL (ve (cd ld) ([([0,1]:List Int),([2]:List Int)]) b A8 A9 ([((some ⟨D,0,none⟩),2),((some ⟨E,0,none⟩),1)]) (some ⟨A7,0,none⟩) 2 (by first|exact Fd.1|exact C2.1) dc (by first|exact Fd.2|exact C2.2) dc (by exact IO) (by rfl)) (aw (ai (n:=(cd ld).length) 7 U (iy IO))<|aw (cL 8 U mM)<|aw (ai (n:=([([0,1]:List Int),([2]:List Int)]).length) 1 U sm)<|aw (cL 0 U mM)<|aI) U)<|RD Wm 6 U<|gV U fun T329 Wn=>rS (PK U)<|RD Wn 6 U<|gV U fun T330 Wo=>rS (MV U)<|RD Wo 6 U<|gV U fun T331 Wp=>b_ (t:=94) U (aM fun YS=>?_) (aL fun YS=>?_)
 ·exact absurd (LI) YS
 refine rS (MV U)<|RD Wp 6 U<|gV U fun T332 Wq=>rS (BI U lx)<|RD Wq 6 U<|gV U fun T333 Wr=>rS (PK U)<|RD Wr 6 U<|gV U fun T334 Ws=>rS (MV U)<|RD Ws 6 U ?_
 refine wK (V:=Nat) (fun B7=>True) (fun B7=>[(71,(vS (some ⟨C,0,none⟩) 3 3)),(89,(vS (some ⟨D,0,none⟩) 2 2)),(90,(vS (some ⟨E,0,none⟩) 1 1)),(98,(vB true)),(99,(vS W ((eO aN 0 2 (aa.mk 2590 2599)).length) Z)),(100,(vS (some ⟨B7,0,none⟩) 1 1))]) (fun B7=>[(bV B7 3 [(vI 2)]),(bw (aV sG [([0,1]:List Int),([2]:List Int)] [((some ⟨D,0,none⟩),2),((some ⟨E,0,none⟩),1)])),(own (some ⟨A7,0,none⟩) 2 32 1 (List.zipWith l3 [([0,1]:List Int),([2]:List Int)] [((some ⟨D,0,none⟩),2),((some ⟨E,0,none⟩),1)])),(bw (aV sG [([0,1,2]:List Int)] [((some ⟨C,0,none⟩),3)])),(own (some ⟨g,0,none⟩) 1 32 1 (List.zipWith l3 [([0,1,2]:List Int)] [((some ⟨C,0,none⟩),3)])),(bV f 3 [(vI 2),(vI 3)]),(bV e 3 [(vI 1),(vI 2)]),(own W Z 3 1 ((eO aN 0 2 (aa.mk 2590 2599)).map iC)),(own A8 A9 32 1 (List.zipWith l3 (cd ld) b)),(bw (aV sG (cd ld) b)),(bV Ck 35 (cx.cells (cx.mk (ck.mk (bE.mk (br.mk G aN.ao.aP.length N)) aN.ao.g9 (br.mk H aN.ao.ak.length O) (br.mk AB aN.ao.ae.length P) aN.ao.cH aN.ao.eV aN.ao.cW) (br.mk J aN.aQ.length R) (br.mk K aN.bQ.length S) aN.iK (br.mk L ((gO aN.ay 0 2 (aa.mk 2590 2599)).length) T)))),(own G N 114 9 (aN.ao.aP.map al.cells)),(own H O 119 2 (List.zipWith ar.cells aN.ao.ak M)),(bw (aV ar.owns aN.ao.ak M)),(own AB P 121 4 (aN.ao.ae.map bD.cells)),(own J R 3 1 (aN.aQ.map iC)),(own K S 3 1 (aN.bQ.map iC)),(own L T 46 1 (List.zipWith cP (gO aN.ay 0 2 (aa.mk 2590 2599)) AA)),(bw (aV je (gO aN.ay 0 2 (aa.mk 2590 2599)) AA)),(own B9 Ci 32 1 (List.zipWith l3 (cd aN) a)),(bw (aV sG (cd aN) a)),(bV Di 40 (aa.cells (ig aN 0 0))),(rd eW 3 2 dZ).ro]) 11 [63,64,65,66,67,68,69,70,71,72,73] (fun hJ=>?_) ?_
 ·refine iJ [61,62] kr (eE ?_<|eE ?_<|kl)
  rotate_left 1
  ·refine ia U U U fun T339 Wv=>b_ (t:=98) U (aM fun Eq=>?_) (aL fun Eq=>?_)
   ·exact absurd (Cu) Eq
   refine cY (xs:=[.const (vI 2)]) (cs:=[(vI 2)]) U cp jf U U U U (by simp [Value.cells]) U U fun Xu=>RD Wv 7 U<|N1 61<|ia U U U fun T341 Ww=>rS (MV U)<|RD Ww 7 U ?_
   exact jI hJ Xu trivial [0,1,2,3,4,5,6,7,8,9,10,11,12,13,14,15,16,17,18,19,20,21,22] U U U
  refine ia U U U fun T336 Wt=>b_ (t:=98) U (aM fun Eq=>?_) (aL fun Eq=>?_)
  ·exact absurd (Cu) Eq
  refine rS (MV U)<|RD Wt 6 U<|N1 62<|ia U U U fun T337 Wu=>cY (xs:=[.const (vI 2)]) (cs:=[(vI 2)]) U cp jf U U U U (by simp [Value.cells]) U U fun Xt=>RD Wu 7 U ?_
  exact jI hJ Xt trivial [0,1,2,3,4,5,6,7,8,9,10,11,12,13,14,15,16,17,18,19,20,21,22] U U U
 rintro B7-
 try dsimp only
 refine gV U fun T342 Wx=>rS (CL (n8 (eO aN 0 2 (aa.mk 2590 2599)) W Z ([2]) (some ⟨B7,0,none⟩) 1 I dc) (aw (ai (n:=(eO aN 0 2 (aa.mk 2590 2599)).length) 7 U sm)<|aw (aZ 0 U U (by simp [bB]) U)<|aI) U)<|RD Wx 7 U<|gV U fun T343 Wy=>rS (PK U)<|RD Wy 7 U<|gV U fun T344 Wz=>rS (MV U)<|RD Wz 7 U<|gV U fun T345 W0=>b_ (t:=103) U (aM fun Hi=>?_) (aL fun Hi=>?_)
 ·exact absurd (MW) Hi
 refine cY (xs:=[.const (vI 0),.const (vI 2),.const (vI 1)]) (cs:=[(vI 0),(vI 2),(vI 1)]) U cp jf U U U U (by simp [Value.cells]) U U fun Xv=>RD W0 8 U<|gV U fun T347 W1=>rS (CL (zD 1 ([0,2,1]) (some ⟨Xv,0,none⟩) 3 dc) (fD 23 U U<|aw (aZ 0 U U (by simp [bB]) U)<|aI) U)<|RD W1 8 U<|gV U fun T348 W2=>rS (PK U)<|RD W2 8 U<|gV U fun T349 W3=>rS (MV U)<|RD W3 8 U<|gV U fun T350 W4=>b_ (t:=107) U (aM fun H1=>?_) (aL fun H1=>?_)
 ·exact absurd (JQ) H1
 refine cY (xs:=[.const (vI 0),.const (vI 1),.const (vI 2)]) (cs:=[(vI 0),(vI 1),(vI 2)]) U cp jf U U U U (by simp [Value.cells]) U U fun Xw=>RD W4 9 U<|Je [109,110,0] kr kr U _ U U (aH [9,10,11,12,13,14,15,16,17,18,19,20,21,22,23,24])<|dS (CL (zD 2 ([0,1,2]) (some ⟨Xw,0,none⟩) 3 dc) (fD 24 U U<|aw (aZ 0 U U (by simp [bB]) U)<|aI) U)<|dP 2 [] mn ?_
 refine cM<|RK Sz<|an<|Q1 hQ U U U ?_
 exact cB (fI JA)
end
section
open Go.RowKit
theorem CW (r:bT) (kA:OA) (kC:Nat) (az:List RA) (cA:OA) (cC:Nat) (bA:OA) (bC:Nat) (slA:OA) (slC:Nat) (drA:OA) (drC:Nat) (ha:List cO) (heA:OA) (heC:Nat) (hraw:qP r az ha):
 dT Tryz.prog 52 [(vA (cx.cells (oI r kA kC cA cC bA bC slA slC drA drC heA heC)))] [(rd kA r.ao.aP.length 9 (r.ao.aP.map al.cells)),(rd cA r.ao.ak.length 2 (List.zipWith ar.cells r.ao.ak az)),(eX (aV ar.g0 r.ao.ak az)),(rd bA r.ao.ae.length 4 (r.ao.ae.map bD.cells)),(rd slA r.aQ.length 1 (r.aQ.map iC)),(rd drA r.bQ.length 1 (r.bQ.map iC)),(rd heA r.ay.length 1 (List.zipWith cP r.ay ha)),(eX (aV ir r.ay ha))] (vB (decide (oE r))):=by
 have AC:=hraw.line
 have A0:=hraw.iO
 have A2:=hraw.has
 have Al:=hraw.iN
 have AO:=hraw.draw
 refine bx kr Tryz.func52 U U fun w0 Q hQ hN=>?_
 try dsimp only
 refine WS fun _ l=>fM U fun b2=>bf 1 U<|RK l<|ah fun _ m=>WS fun _ H=>bf 1 U<|rS (LP (ck.cells (lk r.ao kA kC cA cC bA bC)) 0 U bX U U U)<|rS (CL (Ka r.ao kA kC az cA cC bA bC asm) (bj [1,2,3,4]) U)<|rP 1 [] mn ?_
 refine cQ (t:=8) U (aL fun k=>?_) (aM fun k=>?_)
 ·refine bf 17 U<|RK H<|aO U<|WS fun _ n=>rP 1 [] mn ?_
  refine RK n<|an<|Q1 hQ U U U ?_
  exact cB (fI (pj (.inl k))).symm
 refine rP 6 [] (mc 0 U mn) ?_
 refine cQ (t:=14) U (aL fun AB=>?_) (aM fun AB=>?_)
 ·refine bf 11 U<|RK H<|aO U<|WS fun _ o=>rP 1 [] mn ?_
  refine RK o<|an<|Q1 hQ U U U ?_
  exact cB (fI (pj (.inr I))).symm
 refine rP 6 [] (mc 0 U mn) ?_
 refine cQ (t:=20) U (aL fun f=>?_) (aM fun f=>?_)
 ·refine bf 5 U<|RK H<|aO U<|WS fun _ p=>rP 1 [] mn ?_
  refine RK p<|an<|Q1 hQ U U U ?_
  exact cB (fI (pj (.inr I))).symm
 refine rP 5 [] (mc 0 U mn) ?_
 refine RK H<|cy U (aL fun h=>?_) (aM fun h=>?_)
 ·refine WS fun _ q=>rP 1 [] mn ?_
  refine RK q<|an<|Q1 hQ U U U ?_
  exact cB (fI (pj (.inr I))).symm
 refine WK m<|ah fun _ s=>WS fun _ N=>rP 1 [] mn ?_
 refine RK N<|av ?_
 have B:(0≤r.ay.length)∧(lO r 0):=by exact ⟨Nat.zero_le _,BG⟩
 refine bH (ι:={z:Nat // (z≤r.ay.length)∧(lO r z)}) [1] [0,1,2,3,4,5,6,7,8] U U (fun z=>[(3,(vI (z.1:Int)))]) (fun z=>[]) (fun _=>rfl) (fun _=>rfl) (fun z=>r.ay.length-z.1) ⟨0,B⟩ (aT U) (aH [0,1,2,3,4,5,6,7,8]) ?_
 clear B
 rintro ⟨i,⟨x,F⟩⟩ J11 L
 try dsimp only
 refine ah fun _ O=>WS fun _ P=>rP 5 [] (mc 0 U mn) ?_
 refine RK P<|bK U (aM fun AB=>?_) (aL fun AB=>?_)
 ·refine bu<|ab<|ab<|au<|KK s<|WS fun _ b=>rP 1 [] mn ?_
  refine RK b<|an<|Q1 hQ U U U ?_
  exact cB (cf (Hg k I F I)).symm
 refine WK O<|ah fun _ R=>av<|ah fun _ S=>WS fun _ T=>rP 3 [] (mc 0 U mn) ?_
 obtain ⟨ht,D⟩:=aJ r.ay i I
 obtain ⟨A,C⟩:=aJ ha i I
 have E:(List.zipWith cP r.ay ha)[i]? =some (cP ht A):=dA D C
 refine rS (IA i U (aD 7 U) ry dc I I)<|rS (fV i 0 (vS A.1.1 ht.length A.1.2) U bX (aD 7 U) E U dc U) ?_
 obtain ⟨A1,Ah,w⟩:=hraw.oM _ _ _ D C
 refine rP 2 [] mn ?_
 refine RK T<|cy U (aL fun J=>?_) (aM fun J=>?_)
 ·refine WS fun _ AA=>rP 1 [] mn ?_
  refine RK AA<|an<|Q1 hQ U U U ?_
  exact cB (fI (Cd D J)).symm
 refine WK S<|WS fun _ V=>rP 1 [] mn ?_
 refine RK V<|av ?_
 have B:(0≤ht.length)∧(m0 ht 0):=by exact ⟨Nat.zero_le _,CE⟩
 refine bH (ι:={z:Nat // (z≤ht.length)∧(m0 ht z)}) [1,3] [0,1,2,3,4,5,6,7,8] U U (fun z=>[(4,(vI (z.1:Int)))]) (fun z=>[]) (fun _=>rfl) (fun _=>rfl) (fun z=>ht.length-z.1) ⟨0,B⟩ (aT U) (aH [0,1,2,3,4,5,6,7,8]) ?_
 clear B
 rintro ⟨j,⟨y,G⟩⟩ J20 M
 try dsimp only
 refine ah fun _ W=>WS fun _ X=>fw 4 [] (mc 0 U mn) U<|rS (IA i U (aD 7 U) ry dc I I)<|rS (fV i 0 (vS A.1.1 ht.length A.1.2) U bX (aD 7 U) E U dc U)<|rP 2 [] mn ?_
 refine RK X<|bK U (aM fun g=>?_) (aL fun g=>?_)
 ·refine bu<|ab<|ab<|au<|aG<|KK R<|aj<|rP 3 [] mn ?_
  refine aC ?_
  have e:(vI (((i+1):Nat):Int))=(vI ((i:Int)+1)):=by exact cI I
  refine aS (L ⟨(i+1),⟨I,Cg F D (DP J G I)⟩⟩ _ _ _ U os (dh.cons U<|aX U e<|dh.nil _) (aH [0,1,2,3,4,5,6,7,8]))
 refine WK W<|ah fun _ Y=>av<|WS fun _ Z=>fw 3 [] (mc 0 U mn) U<|rS (IA i U (aD 7 U) ry dc I I)<|rS (fV i 0 (vS A.1.1 ht.length A.1.2) U bX (aD 7 U) E U dc U)<|rP 1 [] mn ?_
 obtain ⟨d,hd⟩:=aJ ht j I
 obtain ⟨da,u⟩:=aJ A.2 j I
 have v:(List.zipWith ax.cells ht A.2)[j]? =some (ax.cells d da):=dA hd u
 refine rS (IA j U (show il _ (rd A.1.1 ht.length 7 (List.zipWith ax.cells ht A.2)).holds from (du 8 U (bM D C cb))) xM dc I I)<|rS (nS ((j*7)+4) U (show il _ (rd A.1.1 ht.length 7 (List.zipWith ax.cells ht A.2)).holds from (du 8 U (bM D C cb))) (Nat.mul_pos I dc) fu U)<|rS (nS (((j*7)+4)+2) U (show il _ (rd A.1.1 ht.length 7 (List.zipWith ax.cells ht A.2)).holds from (du 8 U (bM D C cb))) (Nat.mul_pos I dc) fu U)<|rS (fV j 6 (vS da.1 d.cr.ag.length da.2) U bX (show il _ (rd A.1.1 ht.length 7 (List.zipWith ax.cells ht A.2)).holds from (du 8 U (bM D C cb))) v U dc U) ?_
 have A3:=w d (aR hd)
 refine rP 2 [] mn ?_
 refine RK Z<|bK U (aM fun K=>?_) (aL fun K=>?_)
 ·refine bZ<|aG<|KK Y<|aj<|rP 3 [] mn ?_
  refine aC ?_
  have c:(vI (((j+1):Nat):Int))=(vI ((j:Int)+1)):=by exact cI I
  refine aS (M ⟨(j+1),⟨I,BO G hd K⟩⟩ _ _ _ U os (dh.cons U<|dh.cons U<|aX U c<|dh.nil _) (aH [0,1,2,3,4,5,6,7,8]))
 refine WS fun _ a=>rP 1 [] mn ?_
 refine RK a<|an<|Q1 hQ U U U ?_
 exact cB (fI (D4 D hd K)).symm
end
section
open Go.RowKit
theorem DB (l:a_) (kA:OA) (kC:Nat) (az:List RA) (cA:OA) (cC:Nat) (bA:OA) (bC:Nat) (d:ax) (sgA:OA) (sgC:Nat) (hin:ep l az) (hle:dq l=0) (hsl:d.cr.ag.length≤1000000) (hk:d.Out=true):
 dT Tryz.prog 138 [(vA (ck.cells (lk l kA kC cA cC bA bC))),(vA (bk.cells (bk.mk d.Out d.eI d.Time (mF d.cr sgA sgC))))] [(rd kA l.aP.length 9 (l.aP.map al.cells)),(rd cA l.ak.length 2 (List.zipWith ar.cells l.ak az)),(eX (aV ar.g0 l.ak az)),(rd bA l.ae.length 4 (l.ae.map bD.cells)),(rd sgA d.cr.ag.length 2 (d.cr.ag.map aK.cells))] (vT [(vA (aa.cells (oK l d))),(vB (decide (hU l d)))]):=by
 have K:=hin.sJ
 have J:=hin.sI
 have H:=hin.oF
 have AA:=hin.sE
 refine bx kr Tryz.func138 U U fun O Q hQ hN=>?_
 try dsimp only
 refine WS fun _ B=>fM U fun L=>fM U fun M=>AL U de fun N=>bf 1 U<|RK B<|ah fun _ E=>av<|WS fun _ C=>rP 3 [] (mc 1 U mn) ?_
 refine RK C<|bK U (fun G=>?_) (fun G=>?_)
 ·exact absurd ((hk).symm.trans G) dc
 refine WS fun _ A=>rS (SX (bh (xs:=[]) (cs:=(aa.cells (aa.mk 0 0))) U U (bg gf U)) U U)<|rP 4 [] (mc 1 U mn) ?_
 refine b_ (t:=15) U (fun D=>?_) (fun D=>?_)
 ·rw [Bool.not_eq_false'] at D
  refine bf 10 U<|fP U cm U<|rP 1 [] mn ?_
  refine RK A<|an<|lp hQ [0] (mc 0 U mn) U ?_
  clear hQ hN A C E B
  rw [Ae hk]
  simp only [qs hk]
  refine congrArg (fun z=>Value.tuple #[_,vB z]) ?_
  first|rfl|(simp_all [dx]; done)
 rw [Bool.not_eq_true'] at D
 refine bf 1 U<|rS (LP (aa.cells d.Time) 1 U bX U U U)<|rS (SX (bh (xs:=[]) (cs:=(aa.cells (aa.mk 0 0))) U U (bg gf U)) U U)<|rS (BI U (tI _ _ d.Time (aa.mk 0 0)))<|rP 2 [] mn ?_
 refine b_ (t:=21) U (aM fun F=>?_) (aL fun F=>?_)
 ·refine bf 4 U<|fP U cm U<|rP 1 [] mn ?_
  refine RK A<|an<|lp hQ [0] (mc 0 U mn) U ?_
  clear hQ hN A C E B
  rw [Ae hk]
  simp only [qs hk]
  refine congrArg (fun z=>Value.tuple #[_,vB z]) ?_
  first|rfl|(simp_all [dx]; done)
 refine bf 1 U<|rS (LP (eB.cells (mF d.cr sgA sgC)) 1 U bX U U U)<|rS (CL (Gu d.cr sgA sgC) (bj [7]) U)<|bf 1 U<|fP U cm U<|rP 1 [] mn ?_
 refine RK A<|an<|lp hQ [0] (mc 0 U mn) U ?_
 clear hQ hN A C E B
 rw [Ae hk]
 simp only [qs hk]
 refine congrArg (fun z=>Value.tuple #[_,vB z]) ?_
 first|rfl|(simp_all [dx]; done)
theorem EV (l:a_) (kA:OA) (kC:Nat) (az:List RA) (cA:OA) (cC:Nat) (bA:OA) (bC:Nat) (d:ax) (sgA:OA) (sgC:Nat) (hin:ep l az) (hle:dq l=0) (hsl:d.cr.ag.length≤1000000) (hk:d.Out=false∧d.eI=true):
 dT Tryz.prog 138 [(vA (ck.cells (lk l kA kC cA cC bA bC))),(vA (bk.cells (bk.mk d.Out d.eI d.Time (mF d.cr sgA sgC))))] [(rd kA l.aP.length 9 (l.aP.map al.cells)),(rd cA l.ak.length 2 (List.zipWith ar.cells l.ak az)),(eX (aV ar.g0 l.ak az)),(rd bA l.ae.length 4 (l.ae.map bD.cells)),(rd sgA d.cr.ag.length 2 (d.cr.ag.map aK.cells))] (vT [(vA (aa.cells (oK l d))),(vB (decide (hU l d)))]):=by
 have N:=hin.sJ
 have M:=hin.sI
 have K:=hin.oF
 have L:=hin.sE
 refine bx kr Tryz.func138 U U fun S Q hQ hN=>?_
 try dsimp only
 refine WS fun _ D=>fM U fun O=>fM U fun P=>AL U de fun R=>bf 1 U<|RK D<|ah fun _ H=>av<|WS fun _ E=>rP 3 [] (mc 1 U mn) ?_
 refine RK E<|cy U (fun J=>?_) (fun J=>?_)
 ·exact absurd ((hk.1).symm.trans J) dc
 refine WS fun _ F=>rP 3 [] (mc 1 U mn) ?_
 refine RK F<|bK U (fun G=>?_) (fun G=>?_)
 ·exact absurd ((hk.2).symm.trans G) dc
 refine ah fun _ B=>dG cu [10] [] [] [1,2,3,4,5,6,7] [] U U U U U<|eS U (FA 2 U fu U)<|eS U (LP (aa.cells d.Time) 0 U bX U U U)<|eS U (FA 2 U fu U)<|eS U (LP (aa.cells d.Time) 0 U bX U U U)<|eS U (CL (Ni d.Time) (aI) U)<|eS U (MV U)<|q_ (t:=34) U (fun A=>?_) (fun A=>?_)
 rotate_left 1
 ·replace A:=DF A
  refine eS U (OX U)<|eS U (OX U)<|eS U (OX U)<|eS U (PK U)<|eS U (AG U)<|eU U<|bY U fun T10 C=>fP U cm U<|aC (C _ _ (aH [1,2,3,4,5,6,7]) ?_)
  refine fF U<|KK B<|an<|lp hQ [0] (mc 0 U mn) U ?_
  clear hQ hN C T10 B F E H D
  rw [FL hk]
  simp only [tf hk]
  refine congrArg (fun z=>Value.tuple #[_,vB z]) ?_
  first|rfl|(simp_all; done)
 replace A:=DT A
 refine eS U (FA 4 U fu U)<|eS U (LP (eB.cells (mF d.cr sgA sgC)) 0 U bX U U U)<|eS U (CL (Gu d.cr sgA sgC) (bj [6]) U)<|eS U (PK U)<|eS U (AG U)<|eU U<|bY U fun T9 AA=>fP U cm U<|aC (AA _ _ (aH [1,2,3,4,5,6,7]) ?_)
 refine fF U<|KK B<|an<|lp hQ [0] (mc 0 U mn) U ?_
 clear hQ hN AA T9 B F E H D
 rw [FL hk]
 simp only [tf hk]
 refine congrArg (fun z=>Value.tuple #[_,vB z]) ?_
 first|rfl|(simp_all; done)
theorem Eb (l:a_) (kA:OA) (kC:Nat) (az:List RA) (cA:OA) (cC:Nat) (bA:OA) (bC:Nat) (d:ax) (sgA:OA) (sgC:Nat) (hin:ep l az) (hle:dq l=0) (hsl:d.cr.ag.length≤1000000) (hk:d.Out=false∧d.eI=false):
 dT Tryz.prog 138 [(vA (ck.cells (lk l kA kC cA cC bA bC))),(vA (bk.cells (bk.mk d.Out d.eI d.Time (mF d.cr sgA sgC))))] [(rd kA l.aP.length 9 (l.aP.map al.cells)),(rd cA l.ak.length 2 (List.zipWith ar.cells l.ak az)),(eX (aV ar.g0 l.ak az)),(rd bA l.ae.length 4 (l.ae.map bD.cells)),(rd sgA d.cr.ag.length 2 (d.cr.ag.map aK.cells))] (vT [(vA (aa.cells (oK l d))),(vB (decide (hU l d)))]):=by
 have O:=hin.sJ
 have N:=hin.sI
 have L:=hin.oF
 have M:=hin.sE
 refine bx kr Tryz.func138 U U fun AA Q hQ hN=>?_
 try dsimp only
 refine WS fun _ E=>fM U fun P=>fM U fun R=>AL U de fun S=>bf 1 U<|RK E<|ah fun _ F=>av<|WS fun _ G=>rP 3 [] (mc 1 U mn) ?_
 refine RK G<|cy U (fun K=>?_) (fun K=>?_)
 ·exact absurd ((hk.1).symm.trans K) dc
 refine WS fun _ H=>rP 3 [] (mc 1 U mn) ?_
 refine RK H<|cy U (fun J=>?_) (fun J=>?_)
 ·exact absurd ((hk.2).symm.trans J) dc
 refine bZ<|aG<|KK F<|WS fun _ AB=>fw 2 [] (mc 2 U mn) U<|rS (LP (eB.cells (mF d.cr sgA sgC)) 1 U bX U U U)<|rS (CL (QT l kA kC az cA cC bA bC d.cr sgA sgC hin hsl) (bj [3,4,5,6,7]) U)<|bf 3 U<|AL U de fun T=>fP U cm U<|rP 1 [] mn ?_
 refine RK AB<|ah fun _ A=>dG cu [9] [] [] [0,2,3,4,5,6,7,8] [] U U U U U<|eS U (LW 0 U bX U U)<|eS U (MV U)<|eS U (BI U lx)<|eS U (MV U)<|q_ (t:=49) U (fun B=>?_) (fun B=>?_)
 rotate_left 1
 ·replace B:=DF B
  refine eS U (OX U)<|eS U (OX U)<|eS U (OX U)<|eS U (OX U)<|eS U (PK U)<|eS U (AG U)<|eU U<|bY U fun T12 D=>ub U cm U<|aC (D _ _ (aH [0,2,3,4,5,6,7,8]) ?_)
  refine fF U<|KK A<|an<|lp hQ [0] (mc 1 U mn) U ?_
  clear hQ hN D T12 A AB H G F E
  rw [Gd hk]
  simp only [sM hk]
  refine congrArg (fun z=>Value.tuple #[_,vB z]) ?_
  first|rfl|(simp_all [dx]; done)
 replace B:=DT B
 refine eS U (FA 2 U fu U)<|eS U (LP (aa.cells d.Time) 1 U bX U U U)<|eS U (SX (bh (xs:=[]) (cs:=(aa.cells (aa.mk 0 0))) U U (bg gf U)) U U)<|eS U (BI U (tI _ _ d.Time (aa.mk 0 0)))<|eS U (PK U)<|eS U (AG U)<|eU U<|bY U fun T11 C=>ub U cm U<|aC (C _ _ (aH [0,2,3,4,5,6,7,8]) ?_)
 refine fF U<|KK A<|an<|lp hQ [0] (mc 1 U mn) U ?_
 clear hQ hN C T11 A AB H G F E
 rw [Gd hk]
 simp only [sM hk]
 refine congrArg (fun z=>Value.tuple #[_,vB z]) ?_
 first|rfl|(simp_all [dx]; done)
theorem GU (l:a_) (kA:OA) (kC:Nat) (az:List RA) (cA:OA) (cC:Nat) (bA:OA) (bC:Nat) (d:ax) (sgA:OA) (sgC:Nat) (hin:ep l az) (hle:dq l=0) (hsl:d.cr.ag.length≤1000000):
 dT Tryz.prog 138 [(vA (ck.cells (lk l kA kC cA cC bA bC))),(vA (bk.cells (bk.mk d.Out d.eI d.Time (mF d.cr sgA sgC))))] [(rd kA l.aP.length 9 (l.aP.map al.cells)),(rd cA l.ak.length 2 (List.zipWith ar.cells l.ak az)),(eX (aV ar.g0 l.ak az)),(rd bA l.ae.length 4 (l.ae.map bD.cells)),(rd sgA d.cr.ag.length 2 (d.cr.ag.map aK.cells))] (vT [(vA (aa.cells (oK l d))),(vB (decide (hU l d)))]):=by
 by_cases ho:d.Out=true
 ·exact DB l kA kC az cA cC bA bC d sgA sgC hin hle hsl ho
 by_cases hf:d.eI=true
 ·exact EV l kA kC az cA cC bA bC d sgA sgC hin hle hsl ⟨by simpa using ho,hf⟩
 ·exact Eb l kA kC az cA cC bA bC d sgA sgC hin hle hsl ⟨by simpa using ho,by simpa using hf⟩
end
section
open Go.RowKit
theorem Dz (r:bT) (kA:OA) (kC:Nat) (az:List RA) (cA:OA) (cC:Nat) (bA:OA) (bC:Nat) (slA:OA) (slC:Nat) (drA:OA) (drC:Nat) (ha:List cO) (heA:OA) (heC:Nat) (hin:e7 r az ha) (hle:dq r.ao=0):
 lv Tryz.prog 112 [(vA (cx.cells (oI r kA kC cA cC bA bC slA slC drA drC heA heC)))] [(rd kA r.ao.aP.length 9 (r.ao.aP.map al.cells)),(rd cA r.ao.ak.length 2 (List.zipWith ar.cells r.ao.ak az)),(eX (aV ar.g0 r.ao.ak az)),(rd bA r.ao.ae.length 4 (r.ao.ae.map bD.cells)),(rd slA r.aQ.length 1 (r.aQ.map iC)),(rd drA r.bQ.length 1 (r.bQ.map iC)),(rd heA r.ay.length 1 (List.zipWith cP r.ay ha)),(eX (aV ir r.ay ha))] (fun (x:Bool×Int×(OA)×Nat×(List RA))=>bif x.1 then (vT [(vS x.2.2.1 ((cN r).length) x.2.2.2.1),(vB true)]) else (vT [(vS none 0 0),(vB false)])) (fun (x:Bool×Int×(OA)×Nat×(List RA))=>(x.1=true→(eP r∧x.2.2.2.2.length=r.ay.length))∧(x.1=false→(x.2.1=0∧ ¬ eP r))) (fun (x:Bool×Int×(OA)×Nat×(List RA))=>bif x.1 then [(own x.2.2.1 x.2.2.2.1 82 1 (List.zipWith El (cN r) x.2.2.2.2)),(bw (aV Du (cN r) x.2.2.2.2))] else []):=by
 have L3:=hin.line
 have Pi:=hin.iO
 have Pl:=hin.has
 have Op:=hin.iN
 have NN:=hin.draw
 have Or:=dy (r:=r)
 refine dj kr Tryz.func112 U U fun w0 Q hQ hN=>?_
 try dsimp only
 refine WS fun _ LA=>fM U fun b2=>bf 2 U<|RK LA<|WS fun _ LE=>fw 4 [] (mc 0 U mn) U<|RK LE<|ah fun _ LT=>WS fun _ N=>bf 1 U<|rS (CL (o8 (r.aQ.length:Int) 1 5) (aI) U)<|rP 2 [] mn ?_
 refine cQ (t:=19) U (bp fun J5=>?_) (bq fun J5=>?_)
 ·refine bf 19 U<|RK N<|aO U<|WS fun _ La=>rP 2 [] mn ?_
  refine RK La<|an<|LX hQ (false,0,none,0,[]) [] [] mn U (by rfl) U U ?_
  (exact ⟨AZ,fun _=>⟨rfl,fun q=>by have S:=q.num; have q2:=q.x7; have q3:=q.nh; have q4:=q.yn; omega⟩⟩)
 refine rP 7 [] (mc 0 U mn) ?_
 refine cQ (t:=26) U (bp fun X=>?_) (bq fun X=>?_)
 ·refine bf 12 U<|RK N<|aO U<|WS fun _ Li=>rP 2 [] mn ?_
  refine RK Li<|an<|LX hQ (false,0,none,0,[]) [] [] mn U (by rfl) U U ?_
  (exact ⟨AZ,fun _=>⟨rfl,fun q=>by have S:=q.num; have q2:=q.x7; have q3:=q.nh; have q4:=q.yn; omega⟩⟩)
 refine fw 2 [] (mc 0 U mn) U<|rS (CL (o8 r.iK 0 5) (aI) U)<|rP 3 [] mn ?_
 refine cQ (t:=32) U (bp fun J6=>?_) (bq fun J6=>?_)
 ·refine bf 6 U<|RK N<|aO U<|WS fun _ Lk=>rP 2 [] mn ?_
  refine RK Lk<|an<|LX hQ (false,0,none,0,[]) [] [] mn U (by rfl) U U ?_
  (exact ⟨AZ,fun _=>⟨rfl,fun q=>by have S:=q.num; have q2:=q.x7; have q3:=q.nh; have q4:=q.yn; omega⟩⟩)
 refine fw 3 [] (mc 0 U mn) U<|rS (CL (o8 (r.ay.length:Int) 1 3) (aI) U)<|rP 2 [] mn ?_
 refine RK N<|cy U (bp fun J8=>?_) (bq fun J8=>?_)
 ·refine WS fun _ Lo=>rP 2 [] mn ?_
  refine RK Lo<|an<|LX hQ (false,0,none,0,[]) [] [] mn U (by rfl) U U ?_
  (exact ⟨AZ,fun _=>⟨rfl,fun q=>by have S:=q.num; have q2:=q.x7; have q3:=q.nh; have q4:=q.yn; omega⟩⟩)
 refine WK LT<|ah fun _ o=>WS fun _ p=>rP 1 [] mn ?_
 refine RK p<|av ?_
 have A:(0≤r.aQ.length)∧(xU r 0):=by exact ⟨Nat.zero_le _,KN⟩
 refine bH (ι:={z:Nat // (z≤r.aQ.length)∧(xU r z)}) [1,4] [0,1,2,3,4,5,6,7,8] U U (fun z=>[(5,(vI (z.1:Int)))]) (fun z=>[]) (fun _=>rfl) (fun _=>rfl) (fun z=>r.aQ.length-z.1) ⟨0,A⟩ (aT U) (aH [0,1,2,3,4,5,6,7,8]) ?_
 clear A
 rintro ⟨i,⟨L2,AB⟩⟩ J12 T
 try dsimp only
 refine ah fun _ s=>WS fun _ v=>rP 3 [] mn ?_
 refine RK v<|bK U (aM fun J4=>?_) (aL fun J4=>?_)
 ·refine bu<|ab<|ab<|au<|KK o<|WS fun _ B3=>bf 1 U<|RK B3<|ah fun _ B7=>WS fun _ B9=>rP 1 [] mn ?_
  refine RK B9<|av<|fQ 82 1<|oy ?_
  have A:(0≤r.ay.length)∧(([]:List RA).length=0)∧(j_ r 0):=by exact ⟨Nat.zero_le _,rfl,wQ⟩
  refine bH (ι:={z:Nat×(List RA)×(OA)×Nat // (z.1≤r.ay.length)∧(z.2.1.length=z.1)∧(j_ r z.1)}) [1,4] [2,3,4,5,6,7,8,9,10] U U (fun z=>[(7,(vS z.1.2.2.1 ((List.zipWith CQ (gu r z.1.1) z.1.2.1).length) z.1.2.2.2)),(8,(vI (z.1.1:Int)))]) (fun z=>[(bw (aV Du (gu r z.1.1) z.1.2.1)),(own z.1.2.2.1 z.1.2.2.2 82 1 (List.map sC (List.zipWith CQ (gu r z.1.1) z.1.2.1)))]) (fun _=>rfl) (fun _=>rfl) (fun z=>r.ay.length-z.1.1) ⟨(0,([]:List RA),none,0),A⟩ (aT U) (aH [2,3,4,5,6,7,8,9,10,0,1]) ?_
  clear A
  rintro ⟨⟨h,tz,a,c⟩,⟨P,C,F⟩⟩ J46 l
  try dsimp only at P C F
  try dsimp only
  refine ah fun _ Ci=>WS fun _ Ck=>rP 5 [] (mc 0 U mn) ?_
  refine RK Ck<|bK U (aM fun J9=>?_) (aL fun J9=>?_)
  ·refine bu<|ab<|ab<|au<|KK B7<|ah fun _ GE=>?_
   have L0:gu r h=cN r:=by unfold cN; rw [show h=r.ay.length by omega]
   have M2:tz.length=r.ay.length:=by omega
   rw [L0,zc,show (List.zipWith CQ (cN r) tz).length=(cN r).length from by rw [List.length_zipWith]; omega]
   have IX:eP r:=Hc (n:=i) I I I I I AB F I
   refine aj<|rP 3 [] mn ?_
   refine RK GE<|an ?_
   refine LX hQ (true,0,a,c,tz) [10,9] [] mn U (by (show List.all _ _=true; simp only [cond_true,fB,List.all_nil,wX,Bool.and_true]; rfl)) U U ?_
   exact ⟨fun _=>⟨IX,M2⟩,M5⟩
  refine WK Ci<|ah fun _ Cp=>av<|ah fun _ Cx=>WS fun _ C0=>rP 3 [] (mc 0 U mn) ?_
  obtain ⟨ht,D⟩:=aJ r.ay h I
  obtain ⟨E,H⟩:=aJ ha h I
  have W:(List.zipWith cP r.ay ha)[h]? =some (cP ht E):=dA D H
  refine rS (IA h U (aD 7 U) ry dc I I) ?_
  have IR:=hin.oM _ _ _ D H
  have Ne:=IR.oF
  refine rS (fV h 0 (vS E.1.1 ht.length E.1.2) U bX (aD 7 U) W U dc U)<|rP 3 [] mn ?_
  refine RK C0<|cy U (bp fun e=>?_) (bq fun e=>?_)
  ·refine WS fun _ C1=>rP 2 [] mn ?_
   refine RK C1<|an<|LX hQ (false,0,none,0,[]) [] [] mn U (by rfl) U U ?_
   (exact ⟨AZ,fun _=>⟨rfl,fun q=>by have S:=(q.oM ht (aR D)).1; omega⟩⟩)
  refine WK Cx<|WS fun _ C2=>bf 1 U<|RK C2<|ah fun _ C3=>WS fun _ Di=>rP 1 [] mn ?_
  refine RK Di<|av<|fQ 40 2 ?_
  have A:(0≤ht.length)∧(oj r.ao ht 0):=by exact ⟨Nat.zero_le _,u0⟩
  refine bH (ι:={z:Nat×(OA)×Nat // (z.1≤ht.length)∧(oj r.ao ht z.1)}) [1,4,7,8] [1,2,3,4,5,6,7,8,9,10,11] U U (fun z=>[(9,(vS z.1.2.1 (((ht.take z.1.1).map (dv r.ao)).length) z.1.2.2)),(10,(vI (z.1.1:Int)))]) (fun z=>[(own z.1.2.1 z.1.2.2 40 2 (((ht.take z.1.1).map (dv r.ao)).map aa.cells))]) (fun _=>rfl) (fun _=>rfl) (fun z=>ht.length-z.1.1) ⟨(0,none,0),A⟩ (aT U) (aH [1,2,3,4,5,6,7,8,9,10,11,0]) ?_
  clear A
  rintro ⟨⟨j,la,lc⟩,⟨R,G⟩⟩ J57 m
  try dsimp only at R G
  try dsimp only
  refine ah fun _ Do=>WS fun _ Dt=>rP 3 [] mn ?_
  refine RK Dt<|bK U (aM fun K5=>?_) (aL fun K5=>?_)
  ·refine bu<|ab<|ab<|au<|KK C3<|aj ?_
   rw [show ((ht.take j).map (dv r.ao))=ht.map (dv r.ao) from by rw [List.take_of_length_le I]]
   refine rP 2 [] mn ?_
   refine cY (xs:=[.tmp 137]) (cs:=[(vS la ((ht.map (dv r.ao)).length) lc)]) U OM Tl U U U U (by simp [Value.cells]) U U fun PP=>?_
   refine db (es2:=(List.map sC (List.zipWith CQ (gu r (h+1)) (tz++[(la,lc)])))) (m':=(List.zipWith CQ (gu r (h+1)) (tz++[(la,lc)])).length) 11 U U U TH U U sm (aZ (es:=List.map sC [(br.mk la ((ht.map (dv r.ao)).length) lc)]) 0 U U (by simp [zh]) U) (I7 _) (by rw [List.length_zipWith,kG I]; omega) (by rw [List.length_zipWith,kG I]; simp only [maxLen]; omega) (by rw [tW D C,List.map_append]; rfl) (by rw [tW D C]; simp) U fun Jm J3=>?_
   try dsimp only
   refine bf 1 U<|aC<|aG<|KK Cp<|aj<|rP 3 [] mn ?_
   refine aC<|B_ (X':=aV Du (gu r (h+1)) (tz++[(la,lc)])) 10 12 U U (Bs (a:=(la,lc)) D C) ?_
   have IB:(vI (((h+1):Nat):Int))=(vI ((h:Int)+1)):=by exact cI I
   refine aS (l ⟨((h+1),(tz++[(la,lc)]),Jm,J3),⟨I,by simp; omega,xo F D (Fl I G I)⟩⟩ _ _ _ U os (ct 3<|aX U IB<|dh.nil _) (aH [2,3,4,5,6,7,8,9,10,0,11]))
  refine WK Do<|ah fun _ EQ=>av<|ah fun _ Eq=>dG cu [14,15] [] [] [0,1,2,3,4,5,6,7,8,9,10,11] [] U U U U U<|eS U (FA 0 U fu U)<|eS U (LP (ck.cells (lk r.ao kA kC cA cC bA bC)) 0 U bX U U U)<|eS U (FA 10 U fu U)<|eS U (L1 (vS heA r.ay.length heC) 0 U bX U U)<|eS U (MV U)<|eS U (IA h U (aD 7 U) ry dc I I)<|eS U (fV h 0 (vS E.1.1 ht.length E.1.2) U bX (aD 7 U) W U dc U)<|eS U (MV U) ?_
  obtain ⟨d,hd⟩:=aJ ht j I
  obtain ⟨da,IO⟩:=aJ E.2 j I
  have Ly:(List.zipWith ax.cells ht E.2)[j]? =some (ax.cells d da):=dA hd IO
  refine eS U (IA j U (show il _ (rd E.1.1 ht.length 7 (List.zipWith ax.cells ht E.2)).holds from (du 8 U (bM D H cb))) xM dc I I)<|eS U (oH j 0 (bk.cells (bk.mk d.Out d.eI d.Time (eB.mk d.cr.Start d.cr.fZ (br.mk da.1 d.cr.ag.length da.2)))) U bX (show il _ (rd E.1.1 ht.length 7 (List.zipWith ax.cells ht E.2)).holds from (du 8 U (bM D H cb))) Ly U dc U U) ?_
  have Pu:=IR.sig d (aR hd)
  refine eS U (CL (GU r.ao kA kC az cA cC bA bC d da.1 da.2 asm hle asm) (lB [1,2,3,4]<|aw (show il _ (rd da.1 d.cr.ag.length 2 (d.cr.ag.map aK.cells)).holds from (du 8 U (bM D H (cR _ (bM hd IO (by simp [ax.g0]))))))<|aI) U)<|eS U (MV U)<|eS U (EX U)<|eS U (EX U)<|eS U (AG U)<|eU U<|bY U fun T63 GT=>AL U de fun Os=>aC (GT _ _ (aH [1,2,3,4,5,6,7,8,9,10,11,12]) ?_)
  refine bY U fun T65 Gf=>fP U cm U<|aC (Gf _ _ (aH [1,2,3,4,5,6,7,8,9,10,11,12]) ?_)
  refine fF U<|KK Eq<|ah fun _ FS=>WS fun _ Fd=>rP 2 [] mn ?_
  refine RK Fd<|cy U (bp fun J=>?_) (bq fun J=>?_)
  ·refine WS fun _ Fn=>rP 2 [] mn ?_
   refine RK Fn<|an<|LX hQ (false,0,none,0,[]) [] [] mn U (by rfl) U U ?_
   (exact ⟨AZ,fun _=>⟨rfl,fun q=>by exact J ((q.oM ht (aR D)).2 d (aR hd))⟩⟩)
  refine WK FS<|aj<|rP 2 [] (mc 0 U mn) ?_
  refine cY (xs:=[.tmp 133]) (cs:=(aa.cells (oK r.ao d))) U jQ de U U U U (by simp [Value.cells,aa.aU]) U U fun PC=>?_
  refine db (es2:=(List.map aa.cells ((ht.take (j+1)).map (dv r.ao)))) (m':=((ht.take (j+1)).map (dv r.ao)).length) 13 U U U EN U U sm (aZ (es:=List.map aa.cells [(oK r.ao d)]) 0 U U (by simp [aa.aU]) U) (gT _) (by simp only [List.length_map,List.length_take]; omega) (by simp only [maxLen,List.length_map,List.length_take]; omega) (by rw [List.take_add_one,hd]; simp [JO J]) sq U fun Jg J2=>?_
  try dsimp only
  refine bf 1 U<|aC<|aG<|KK EQ<|aj<|rP 3 [] mn ?_
  refine aC ?_
  have H1:(vI (((j+1):Nat):Int))=(vI ((j:Int)+1)):=by exact cI I
  refine aS (m ⟨((j+1),Jg,J2),⟨I,uZ G hd J⟩⟩ _ _ _ U os (ct 5<|aX U H1<|dh.nil _) (aH [2,3,4,5,6,7,8,9,10,11,12,13]))
 refine WK s<|ah fun _ AA=>av<|ah fun _ V=>ah fun _ K=>dB cu 36 kr<|dP 3 [] (mc 0 U mn) ?_
 obtain ⟨y,hy⟩:=aJ r.aQ i I
 have Id:=bG iC hy
 refine dS (IA i U (aD 5 U) cp dc I I)<|dS (fV i 0 (vI y) U bX (aD 5 U) Id U dc U)<|dS (CL (o8 y 0 9999) (aI) U)<|dP 2 [] mn ?_
 refine iX (t:=51) U (bp fun K0=>?_) (bq fun K0=>?_)
 ·refine lH 28 U<|cM<|RK K<|aO U<|WS fun _ w=>rP 2 [] mn ?_
  refine RK w<|an<|LX hQ (false,0,none,0,[]) [] [] mn U (by rfl) U U ?_
  (exact ⟨AZ,fun _=>⟨rfl,fun q=>by have S:=(q.ids i y hy).1; omega⟩⟩)
 refine dP 3 [] mn ?_
 refine jk (t:=54) U (aM fun K4=>?_) (aL fun K4=>?_)
 ·refine dP 18 [] (mc 0 U mn) ?_
  obtain ⟨x,hx⟩:=aJ r.bQ i I
  have M:=bG iC hx
  refine dS (IA i U (aD 6 U) cp dc I I)<|dS (fV i 0 (vI x) U bX (aD 6 U) M U dc U)<|lH 2 U<|dS (CL (o8 x 0 ((r.aQ.length:Int)-1)) (aI) U)<|dP 2 [] mn ?_
  refine cM<|RK K<|cy U (bp fun Y=>?_) (bq fun Y=>?_)
  ·refine WS fun _ A4=>rP 2 [] mn ?_
   refine RK A4<|an<|LX hQ (false,0,none,0,[]) [] [] mn U (by rfl) U U ?_
   (exact ⟨AZ,fun _=>⟨rfl,fun q=>by have S:=q.Kg hx; omega⟩⟩)
  refine WK V<|WS fun _ A5=>rP 1 [] mn ?_
  refine RK A5<|av ?_
  have A:(0≤i)∧(∀ (q:Nat) y,q<0→r.bQ[q]? =some y→y≠x):=by exact ⟨Nat.zero_le _,fun q y hq=>absurd hq (Nat.not_lt_zero _)⟩
  refine bH (ι:={z:Nat // (z≤i)∧(∀ (q:Nat) y,q<z→r.bQ[q]? =some y→y≠x)}) [1,4,5] [0,1,2,3,4,5,6,7,8] U U (fun z=>[(6,(vI (z.1:Int)))]) (fun z=>[]) (fun _=>rfl) (fun _=>rfl) (fun z=>i-z.1) ⟨0,A⟩ (aT U) (aH [0,1,2,3,4,5,6,7,8]) ?_
  clear A
  rintro ⟨k,⟨O,B⟩⟩ J34 g
  try dsimp only
  refine ah fun _ A6=>WS fun _ A7=>rP 3 [] mn ?_
  refine RK A7<|bK U (aM fun J7=>?_) (aL fun J7=>?_)
  ·refine bu<|ab<|ab<|au<|aG<|KK AA<|aj<|rP 3 [] mn ?_
   refine aC ?_
   have Hi:(vI (((i+1):Nat):Int))=(vI ((i:Int)+1)):=by exact cI I
   refine aS (T ⟨(i+1),⟨I,Bg AB (fun a ha=>by rw [hy] at ha; cases ha; exact ⟨I,fun b hb hc=>by omega⟩) (fun a ha=>by rw [hx] at ha; cases ha; exact ⟨I,fun k b hk hb=>B k b I hb⟩)⟩⟩ _ _ _ rfl os (dh.cons rfl<|dh.cons rfl<|aX rfl Hi<|dh.nil _) (aH [0,1,2,3,4,5,6,7,8]))
  refine WK A6<|ah fun _ A8=>av<|ah fun _ A9=>dB cu 11 kr<|dP 3 [] (mc 0 U mn) ?_
  obtain ⟨u,hu⟩:=aJ r.bQ k I
  have Z:=bG iC hu
  refine dS (IA k U (aD 6 U) cp dc I I)<|dS (fV k 0 (vI u) U bX (aD 6 U) Z U dc U)<|mP 3 [] (mc 0 U mn) U<|dS (IA i U (aD 6 U) cp dc I I)<|dS (fV i 0 (vI x) U bX (aD 6 U) M U dc U)<|dP 1 [] mn ?_
  refine cM<|RK A9<|bK U (aM fun L=>?_) (aL fun L=>?_)
  ·refine bZ<|aG<|KK A8<|aj<|rP 3 [] mn ?_
   refine aC ?_
   have G2:(vI (((k+1):Nat):Int))=(vI ((k:Int)+1)):=by exact cI I
   refine aS (g ⟨(k+1),⟨I,xC B hu L⟩⟩ _ _ _ U os (ct 3<|aX U G2<|dh.nil _) (aH [0,1,2,3,4,5,6,7,8]))
  refine WS fun _ Bi=>rP 2 [] mn ?_
  refine RK Bi<|an<|LX hQ (false,0,none,0,[]) [] [] mn U (by rfl) U U ?_
  (exact ⟨AZ,fun _=>⟨rfl,fun q=>by have S:=q.num; have q2:=q.x7; have q3:=q.nh; have q4:=q.yn; omega⟩⟩)
 refine mP 3 [] (mc 0 U mn) U<|dS (IA i U (aD 5 U) cp dc I I)<|dS (fV i 0 (vI y) U bX (aD 5 U) Id U dc U)<|dP 4 [] (mc 0 U mn) ?_
 obtain ⟨z,hz⟩:=aJ r.aQ (i-1) I
 have NE:=bG iC hz
 refine dS (IA (i-1) U (aD 5 U) cp dc I I)<|dS (fV (i-1) 0 (vI z) U bX (aD 5 U) NE U dc U)<|dP 4 [] mn ?_
 refine iX (t:=69) U (aL fun K8=>?_) (aM fun K8=>?_)
 ·refine lH 10 U<|cM<|RK K<|aO U<|WS fun _ AC=>rP 2 [] mn ?_
  refine RK AC<|an<|LX hQ (false,0,none,0,[]) [] [] mn U (by rfl) U U ?_
  (exact ⟨AZ,fun _=>⟨rfl,fun q=>by have S:=(q.ids i y hy).2 z I hz; omega⟩⟩)
 refine dP 3 [] (mc 0 U mn) ?_
 obtain ⟨x,hx⟩:=aJ r.bQ i I
 have M:=bG iC hx
 refine dS (IA i U (aD 6 U) cp dc I I)<|dS (fV i 0 (vI x) U bX (aD 6 U) M U dc U)<|lH 2 U<|dS (CL (o8 x 0 ((r.aQ.length:Int)-1)) (aI) U)<|dP 2 [] mn ?_
 refine cM<|RK K<|cy U (bp fun Y=>?_) (bq fun Y=>?_)
 ·refine WS fun _ AO=>rP 2 [] mn ?_
  refine RK AO<|an<|LX hQ (false,0,none,0,[]) [] [] mn U (by rfl) U U ?_
  (exact ⟨AZ,fun _=>⟨rfl,fun q=>by have S:=q.Kg hx; omega⟩⟩)
 refine WK V<|WS fun _ Ah=>rP 1 [] mn ?_
 refine RK Ah<|av ?_
 have A:(0≤i)∧(∀ (q:Nat) y,q<0→r.bQ[q]? =some y→y≠x):=by exact ⟨Nat.zero_le _,fun q y hq=>absurd hq (Nat.not_lt_zero _)⟩
 refine bH (ι:={z:Nat // (z≤i)∧(∀ (q:Nat) y,q<z→r.bQ[q]? =some y→y≠x)}) [1,4,5] [0,1,2,3,4,5,6,7,8] U U (fun z=>[(6,(vI (z.1:Int)))]) (fun z=>[]) (fun _=>rfl) (fun _=>rfl) (fun z=>i-z.1) ⟨0,A⟩ (aT U) (aH [0,1,2,3,4,5,6,7,8]) ?_
 clear A
 rintro ⟨k,⟨O,B⟩⟩ J23 f
 try dsimp only
 refine ah fun _ Al=>WS fun _ A0=>rP 3 [] mn ?_
 refine RK A0<|bK U (aM fun X=>?_) (aL fun X=>?_)
 ·refine bu<|ab<|ab<|au<|aG<|KK AA<|aj<|rP 3 [] mn ?_
  refine aC ?_
  have Gr:(vI (((i+1):Nat):Int))=(vI ((i:Int)+1)):=by exact cI I
  refine aS (T ⟨(i+1),⟨I,Bg AB (fun a ha=>by rw [hy] at ha; cases ha; exact ⟨I,fun b hb hc=>by (rw [hz] at hc; cases hc; omega)⟩) (fun a ha=>by rw [hx] at ha; cases ha; exact ⟨I,fun k b hk hb=>B k b I hb⟩)⟩⟩ _ _ _ rfl os (dh.cons rfl<|dh.cons rfl<|aX rfl Gr<|dh.nil _) (aH [0,1,2,3,4,5,6,7,8]))
 refine WK Al<|ah fun _ A1=>av<|ah fun _ A2=>dB cu 11 kr<|dP 3 [] (mc 0 U mn) ?_
 obtain ⟨u,hu⟩:=aJ r.bQ k I
 have Z:=bG iC hu
 refine dS (IA k U (aD 6 U) cp dc I I)<|dS (fV k 0 (vI u) U bX (aD 6 U) Z U dc U)<|mP 3 [] (mc 0 U mn) U<|dS (IA i U (aD 6 U) cp dc I I)<|dS (fV i 0 (vI x) U bX (aD 6 U) M U dc U)<|dP 1 [] mn ?_
 refine cM<|RK A2<|bK U (aM fun L=>?_) (aL fun L=>?_)
 ·refine bZ<|aG<|KK A1<|aj<|rP 3 [] mn ?_
  refine aC ?_
  have Go:(vI (((k+1):Nat):Int))=(vI ((k:Int)+1)):=by exact cI I
  refine aS (f ⟨(k+1),⟨I,xC B hu L⟩⟩ _ _ _ U os (ct 3<|aX U Go<|dh.nil _) (aH [0,1,2,3,4,5,6,7,8]))
 refine WS fun _ A3=>rP 2 [] mn ?_
 refine RK A3<|an<|LX hQ (false,0,none,0,[]) [] [] mn U (by rfl) U U ?_
 (exact ⟨AZ,fun _=>⟨rfl,fun q=>by exact q.QB I hu hx L⟩⟩)
end
section
open Go.RowKit
theorem HP (r:bT) (kA:OA) (kC:Nat) (az:List RA) (cA:OA) (cC:Nat) (bA:OA) (bC:Nat) (slA:OA) (slC:Nat) (drA:OA) (drC:Nat) (ha:List cO) (heA:OA) (heC:Nat) (hin:e7 r az ha):
 lv Tryz.prog 77 [(vA (cx.cells (oI r kA kC cA cC bA bC slA slC drA drC heA heC)))] [(rd kA r.ao.aP.length 9 (r.ao.aP.map al.cells)),(rd cA r.ao.ak.length 2 (List.zipWith ar.cells r.ao.ak az)),(eX (aV ar.g0 r.ao.ak az)),(rd bA r.ao.ae.length 4 (r.ao.ae.map bD.cells)),(rd slA r.aQ.length 1 (r.aQ.map iC)),(rd drA r.bQ.length 1 (r.bQ.map iC)),(rd heA r.ay.length 1 (List.zipWith cP r.ay ha)),(eX (aV ir r.ay ha))] (fun (x:Bool×Int×(OA)×Nat×(List RA))=>bif x.1 then (vT [(vS x.2.2.1 ((cN r).length) x.2.2.2.1),(vI 0)]) else (vT [(vS none 0 0),(vI x.2.1)])) (fun (x:Bool×Int×(OA)×Nat×(List RA))=>(x.1=true→(cK r=0∧x.2.2.2.2.length=r.ay.length))∧(x.1=false→(x.2.1=cK r∧ ¬ cK r=0))) (fun (x:Bool×Int×(OA)×Nat×(List RA))=>bif x.1 then [(own x.2.2.1 x.2.2.2.1 82 1 (List.zipWith El (cN r) x.2.2.2.2)),(bw (aV Du (cN r) x.2.2.2.2))] else []):=by
 have AA:=hin.line
 have b:=hin.iO
 have c:=hin.has
 have Z:=hin.iN
 have Y:=hin.draw
 have a:=dy (r:=r)
 refine dj kr Tryz.func77 U U fun f Q hQ hN=>?_
 try dsimp only
 refine WS fun _ O=>fM U fun e=>bf 2 U<|RK O<|ah fun _ P=>WS fun _ R=>bf 1 U<|rS (LP (ck.cells (lk r.ao kA kC cA cC bA bC)) 0 U bX U U U)<|rS (CL (BY r.ao kA kC az cA cC bA bC asm) (bj [1,2,3,4]) U)<|bf 1 U<|RK R<|WS fun _ S=>rP 2 [] mn ?_
 refine RK S<|cy U (bp fun A=>?_) (bq fun A=>?_)
 ·refine WS fun _ T=>rP 3 [] mn ?_
  refine RK T<|an<|LX hQ (false,(dq r.ao),none,0,[]) [] [] mn U (by rfl) U U ?_
  exact rv<|Jq (yX A) A
 refine WK P<|WS fun _ G=>rP 1 [] (mc 0 U mn) ?_
 refine cX (Dz r kA kC az cA cC bA bC slA slC drA drC ha heA heC hin (by exact A)) (bj [1,2,3,4,5,6,7,8]) U fun d J=>?_
 obtain ⟨K,W,L,M,N⟩:=d
 cases K
 rotate_left 1
 ·obtain ⟨AB,V⟩:=J.1 rfl
  try dsimp only [cond_true,cond_false,List.cons_append,List.nil_append]
  refine bf 5 U<|RK G<|ah fun _ D=>WS fun _ E=>bf 2 U<|RK E<|aW U<|WK D<|WS fun _ F=>rP 3 [] mn ?_
  refine RK F<|an ?_
  refine LX hQ (true,0,L,M,N) [0,1] [] mn U (by (show List.all _ _=true; simp only [cond_true,fB,List.all_nil,wX,Bool.and_true]; rfl)) U U ?_
  exact ⟨fun _=>⟨C6 A AB,V⟩,M5⟩
 obtain ⟨H,he⟩:=J.2 rfl
 try dsimp only at H he
 subst H
 try dsimp only [cond_true,cond_false,List.cons_append,List.nil_append]
 refine bf 5 U<|RK G<|ah fun _ X=>WS fun _ B=>bf 2 U<|RK B<|aO U<|WS fun _ C=>rP 2 [] mn ?_
 refine RK C<|an<|LX hQ (false,60,none,0,[]) [] [] mn U (by rfl) U U ?_
 exact rv<|pO (kx A he)
end
section
open Go.RowKit
theorem H_ (r:bT) (kA:OA) (kC:Nat) (az:List RA) (cA:OA) (cC:Nat) (bA:OA) (bC:Nat) (slA:OA) (slC:Nat) (drA:OA) (drC:Nat) (ha:List cO) (heA:OA) (heC:Nat) (hin:e7 r az ha):
 dT Tryz.prog 53 [(vA (cx.cells (oI r kA kC cA cC bA bC slA slC drA drC heA heC)))] [(rd kA r.ao.aP.length 9 (r.ao.aP.map al.cells)),(rd cA r.ao.ak.length 2 (List.zipWith ar.cells r.ao.ak az)),(eX (aV ar.g0 r.ao.ak az)),(rd bA r.ao.ae.length 4 (r.ao.ae.map bD.cells)),(rd slA r.aQ.length 1 (r.aQ.map iC)),(rd drA r.bQ.length 1 (r.bQ.map iC)),(rd heA r.ay.length 1 (List.zipWith cP r.ay ha)),(eX (aV ir r.ay ha))] (vI (cK r)):=by
 have H:=hin.line
 have M:=hin.iO
 have N:=hin.has
 have J:=hin.iN
 have AB:=hin.draw
 have K:=dy (r:=r)
 refine bx kr Tryz.func53 U U fun V Q hQ hN=>?_
 try dsimp only
 refine WS fun _ G=>fM U fun AA=>bf 1 U<|RK G<|WS fun _ C=>rP 1 [] (mc 0 U mn) ?_
 refine cX (HP r kA kC az cA cC bA bC slA slC drA drC ha heA heC hin) (bj [1,2,3,4,5,6,7,8]) U fun T E=>?_
 obtain ⟨F,L,P,R,S⟩:=T
 cases F
 rotate_left 1
 ·obtain ⟨he,O⟩:=E.1 rfl
  try dsimp only [cond_true,cond_false,List.cons_append,List.nil_append]
  refine bf 5 U<|RK C<|WS fun _ B=>rP 2 [] mn ?_
  refine RK B<|an<|Q1 hQ U U U ?_
  first|rfl|(rw [he])
 obtain ⟨D,he⟩:=E.2 rfl
 try dsimp only at D he
 subst D
 try dsimp only [cond_true,cond_false,List.cons_append,List.nil_append]
 refine bf 5 U<|RK C<|WS fun _ A=>rP 2 [] mn ?_
 refine RK A<|an<|Q1 hQ U U U ?_
 first|rfl|(rw [he])
end
section
open Go.RowKit
theorem Ll (r:bT) (kA:OA) (kC:Nat) (az:List RA) (cA:OA) (cC:Nat) (bA:OA) (bC:Nat) (slA:OA) (slC:Nat) (drA:OA) (drC:Nat) (ha:List cO) (heA:OA) (heC:Nat) (hraw:qP r az ha):
 dT Tryz.prog 23 [(vA (cx.cells (oI r kA kC cA cC bA bC slA slC drA drC heA heC)))] [(rd kA r.ao.aP.length 9 (r.ao.aP.map al.cells)),(rd cA r.ao.ak.length 2 (List.zipWith ar.cells r.ao.ak az)),(eX (aV ar.g0 r.ao.ak az)),(rd bA r.ao.ae.length 4 (r.ao.ae.map bD.cells)),(rd slA r.aQ.length 1 (r.aQ.map iC)),(rd drA r.bQ.length 1 (r.bQ.map iC)),(rd heA r.ay.length 1 (List.zipWith cP r.ay ha)),(eX (aV ir r.ay ha))] (vB (decide (¬ oE r∧cK r=0))):=by
 refine bx kr Tryz.func23 U U fun F Q hQ hN=>?_
 try dsimp only
 refine WS fun _ C=>fM U fun E=>bf 1 U<|RK C<|WS fun _ B=>fw 1 [] (mc 0 U mn) U<|rS (CL (CW r kA kC az cA cC bA bC slA slC drA drC ha heA heC hraw) (bj [1,2,3,4,5,6,7,8]) U)<|rP 2 [] mn ?_
 refine b_ (t:=6) U (bq fun A=>?_) (bp fun A=>?_)
 ·refine bf 1 U<|rP 4 [] mn ?_
  refine RK B<|an<|Q1 hQ U U U ?_
  first|exact cB (cf fun q=>q.1 A).symm|exact cB (decide_eq_decide.2 ⟨fun q=>⟨A,q⟩,fun q=>q.2⟩)
 refine rP 1 [] (mc 0 U mn) ?_
 have D:=hraw.small A
 refine rS (CL (H_ r kA kC az cA cC bA bC slA slC drA drC ha heA heC sd) (bj [1,2,3,4,5,6,7,8]) U) ?_
 refine rP 3 [] mn ?_
 refine RK B<|an<|Q1 hQ U U U ?_
 first|exact cB (cf fun q=>q.1 A).symm|exact cB (decide_eq_decide.2 ⟨fun q=>⟨A,q⟩,fun q=>q.2⟩)
end
section
open Go.RowKit
theorem Oo (r:bT) (kA:OA) (kC:Nat) (az:List RA) (cA:OA) (cC:Nat) (bA:OA) (bC:Nat) (slA:OA) (slC:Nat) (drA:OA) (drC:Nat) (ha:List cO) (heA:OA) (heC:Nat) (hin:e7 r az ha) (he:cK r=0):
 lv Tryz.prog 24 [(vA (cx.cells (oI r kA kC cA cC bA bC slA slC drA drC heA heC)))] [(rd eW 3 2 dZ),(rd kA r.ao.aP.length 9 (r.ao.aP.map al.cells)),(rd cA r.ao.ak.length 2 (List.zipWith ar.cells r.ao.ak az)),(eX (aV ar.g0 r.ao.ak az)),(rd bA r.ao.ae.length 4 (r.ao.ae.map bD.cells)),(rd slA r.aQ.length 1 (r.aQ.map iC)),(rd drA r.bQ.length 1 (r.bQ.map iC)),(rd heA r.ay.length 1 (List.zipWith cP r.ay ha)),(eX (aV ir r.ay ha))] (fun (x:Nat)=>(vT [(Value.map (some x)),(vB true)])) (fun (x:Nat)=>True) (fun (x:Nat)=>[(gZ iV x (bL dw (aF r)))]):=by
 have e:=hin.line
 have l:=hin.iO
 have m:=hin.has
 have g:=hin.iN
 have f:=hin.draw
 have h:=dy (r:=r)
 have AA:=(iI he).2
 have n:=AA.num
 refine dj kr Tryz.func24 U U fun p Q hQ hN=>?_
 try dsimp only
 refine WS fun _ X=>fM U fun o=>rP 2 [] mn ?_
 refine RK X<|WS fun _ Y=>mB (kV:=iV) U U fun V=>?_
 try dsimp only
 refine bf 1 U<|RK Y<|ah fun _ Z=>WS fun _ a=>rP 4 [] (mc 1 U mn) ?_
 refine RK a<|av ?_
 skip
 have C:(0≤r.aQ.length):=by exact Nat.zero_le _
 refine bH (ι:={z:Nat // (z≤r.aQ.length)}) [1,4,11] [1,2,3,4,5,6,7,8,9,10] U U (fun z=>[(12,(vI (z.1:Int)))]) (fun z=>[(gZ iV V (bL dw (jJ r z.1)))]) (fun _=>rfl) (fun _=>rfl) (fun z=>r.aQ.length-z.1) ⟨0,C⟩ (aT U) (aH [1,2,3,4,5,6,7,8,9,10,0]) ?_
 clear C
 rintro ⟨i,d⟩ J7 D
 try dsimp only
 refine WS fun _ b=>rP 1 [] mn ?_
 refine RK b<|ah fun _ c=>bK U (aM fun W=>?_) (aL fun W=>?_)
 ·refine bu<|ab<|ab<|au<|KK Z<|ah fun _ M=>?_
  rw [show jJ r i=aF r from by rw [show i=r.aQ.length by omega]; rfl]
  refine aj<|rP 3 [] mn ?_
  refine RK M<|an<|LX hQ V [10] [] mn U U U U ?_
  trivial
 refine WK c<|ah fun _ B=>av<|WS fun _ AB=>bf 2 U<|RK AB<|WS fun _ J=>fw 2 [] (mc 0 U mn) U<|rS (CL (Po (i:Int) r kA kC az cA cC bA bC slA slC drA drC ha heA heC hin) (bj [1,2,3,4,5,6,7,8,9]) U)<|bf 3 U<|AL U de fun j=>fP U cm U<|bf 1 U<|RK J<|ah fun _ E=>WS fun _ F=>rP 3 [] mn ?_
 refine b_ (t:=23) U (bq fun G=>?_) (bp fun G=>?_)
 ·refine bf 3 U<|RK F<|aW U<|WK E<|WS fun _ L=>rP 2 [] mn ?_
  refine RK L<|bK U (aM fun A=>?_) (aL fun A=>?_)
  ·refine bZ<|aG<|KK B<|aj<|rP 2 [] mn ?_
   refine aC ?_
   rw [zG he I A]
   have T:(vI (((i+1):Nat):Int))=(vI ((i:Int)+1)):=by exact cI I
   refine aS (D ⟨(i+1),(by first|omega|(simp only []; omega))⟩ _ _ _ U os (ct 3<|aX U T<|dh.nil _) (aH [1,2,3,4,5,6,7,8,9,10,11]))
  refine aj<|rP 3 [] (mc 0 U mn) ?_
  have R:(dL (jJ r i) (i:Int) (px r (i:Int)))=(jJ r (i+1)):=by exact CU he I A
  refine hP (kV:=iV) (x:=(i:Int)) (C':=[_,_,_,_,_,_,_,_,_,_,_,(gZ iV V (bL dw (jJ r (i+1))))]) 11 U U U U mm (dC oJ) U ((fK _ _ _ _).symm.trans (congrArg _ R)) U<|aC<|aG<|KK B<|aj<|rP 2 [] mn ?_
  refine aC ?_
  have S:(vI (((i+1):Nat):Int))=(vI ((i:Int)+1)):=by exact cI I
  refine aS (D ⟨(i+1),(by first|omega|(simp only []; omega))⟩ _ _ _ U os (ct 3<|aX U S<|dh.nil _) (aH [1,2,3,4,5,6,7,8,9,10,11]))
 refine rP 3 [] mn ?_
 refine RK F<|cy U (bp fun H=>?_) (bq fun H=>?_)
 ·exfalso; exact (Bk he (k:=(i:Int)) (by unfold rz; omega)).elim (fun q=>G q.1) (fun q=>H q.1)
 refine WK E<|WS fun _ K=>rP 2 [] mn ?_
 refine RK K<|bK U (aM fun A=>?_) (aL fun A=>?_)
 ·refine bZ<|aG<|KK B<|aj<|rP 2 [] mn ?_
  refine aC ?_
  rw [zG he I A]
  have P:(vI (((i+1):Nat):Int))=(vI ((i:Int)+1)):=by exact cI I
  refine aS (D ⟨(i+1),(by first|omega|(simp only []; omega))⟩ _ _ _ U os (ct 3<|aX U P<|dh.nil _) (aH [1,2,3,4,5,6,7,8,9,10,11]))
 refine aj<|rP 3 [] (mc 0 U mn) ?_
 have N:(dL (jJ r i) (i:Int) (px r (i:Int)))=(jJ r (i+1)):=by exact CU he I A
 refine hP (kV:=iV) (x:=(i:Int)) (C':=[_,_,_,_,_,_,_,_,_,_,_,(gZ iV V (bL dw (jJ r (i+1))))]) 11 U U U U mm (dC oJ) U ((fK _ _ _ _).symm.trans (congrArg _ N)) U<|aC<|aG<|KK B<|aj<|rP 2 [] mn ?_
 refine aC ?_
 have O:(vI (((i+1):Nat):Int))=(vI ((i:Int)+1)):=by exact cI I
 refine aS (D ⟨(i+1),(by first|omega|(simp only []; omega))⟩ _ _ _ U os (ct 3<|aX U O<|dh.nil _) (aH [1,2,3,4,5,6,7,8,9,10,11]))
end
section
open Go.RowKit
theorem CZ (r:bT) (kA:OA) (kC:Nat) (az:List RA) (cA:OA) (cC:Nat) (bA:OA) (bC:Nat) (slA:OA) (slC:Nat) (drA:OA) (drC:Nat) (ha:List cO) (heA:OA) (heC:Nat) (hraw:qP r az ha):
 dT Tryz.prog 4 [(vA (cx.cells (oI r kA kC cA cC bA bC slA slC drA drC heA heC)))] [(rd eW 3 2 dZ),(rd kA r.ao.aP.length 9 (r.ao.aP.map al.cells)),(rd cA r.ao.ak.length 2 (List.zipWith ar.cells r.ao.ak az)),(eX (aV ar.g0 r.ao.ak az)),(rd bA r.ao.ae.length 4 (r.ao.ae.map bD.cells)),(rd slA r.aQ.length 1 (r.aQ.map iC)),(rd drA r.bQ.length 1 (r.bQ.map iC)),(rd heA r.ay.length 1 (List.zipWith cP r.ay ha)),(eX (aV ir r.ay ha))] (vB true):=by
 refine bx kr Tryz.func4 U U fun w0 Q hQ hN=>?_
 try dsimp only
 refine WS fun _ Rb=>fM U fun b2=>bf 1 U<|RK Rb<|WS fun _ Rc=>rS (CL KQ (bj [1]) U)<|bf 1 U<|RK Rc<|ah fun _ Ru=>WS fun _ R0=>bf 2 U<|RK R0<|aW U<|WK Ru<|ah fun _ R1=>WS fun _ R2=>fw 1 [] (mc 0 U mn) U<|rS (CL (Ll r kA kC az cA cC bA bC slA slC drA drC ha heA heC hraw) (bj [2,3,4,5,6,7,8,9]) U)<|rP 1 [] mn ?_
 refine RK R2<|cy U (bp fun D=>?_) (bq fun D=>?_)
 ·refine WS fun _ R3=>rP 2 [] mn ?_
  refine RK R3<|an<|Q1 hQ U U U ?_
  first|rfl|exact cB (fI (by have h_:=C.count; simp only [mw,List.length_map]; rw [List.take_of_length_le I]; omega))
 refine WK R1<|WS fun _ R4=>?_
 have X:=hraw.small D.1
 have R8:=X.line
 have T7:=X.iO
 have T8:=X.has
 have Tm:=X.iN
 have S2:=X.draw
 have T0:=dy (r:=r)
 have Os:=(iI D.2).2
 have T9:=Os.num
 have C:=Qt D.2
 have Um:=qA (r:=r)
 have TC:=mo D.2
 refine rP 1 [] (mc 0 U mn) ?_
 refine cX (zT r kA kC az cA cC bA bC slA slC drA drC ha heA heC sd) (bj [1,2,3,4,5,6,7,8,9]) U fun Sz PC=>?_
 obtain ⟨H,T4,T6⟩:=Sz
 try dsimp only
 have R7:=PC
 have G:=R7
 try dsimp only at G
 refine bf 5 U<|RK R4<|WS fun _ Ck=>rP 1 [] (mc 2 U mn) ?_
 refine cX (Oo r kA kC az cA cC bA bC slA slC drA drC ha heA heC sd (by exact D.2)) (bj [3,4,5,6,7,8,9,10,11]) U fun A4 T2=>?_
 try dsimp only
 refine bf 5 U<|RK Ck<|ah fun _ Cp=>WS fun _ Cx=>rP 3 [] mn ?_
 refine cQ (t:=46) U (bp fun A9=>?_) (bq fun A9=>?_)
 ·exact absurd (D.2) A9
 refine rP 3 [] mn ?_
 refine RK Cx<|aW U<|WK Cp<|ah fun _ C0=>JM (C':=[(gZ iV A4 (bL dw (aF r))).ro,_,_,_,_,_,_,_,_,_,_,_,_]) 0 U U<|aj<|mB (kV:=iV) U U fun Y=>?_
 try dsimp only
 refine bf 1 U<|RK C0<|ah fun _ C1=>WS fun _ C2=>rP 3 [] mn ?_
 refine RK C2<|av ?_
 skip
 have A:(0≤(cd r).length):=by exact Nat.zero_le _
 refine bH (ι:={z:Nat // (z≤(cd r).length)}) [1,3,4,6,8,51,52] [1,2,3,4,5,6,7,8,9,10,11,12,13] U U (fun z=>[(53,(vI (z.1:Int)))]) (fun z=>[(gZ iV Y (bL vB (mw ((cd r).take z.1).flatten)))]) (fun _=>rfl) (fun _=>rfl) (fun z=>(cd r).length-z.1) ⟨0,A⟩ (aT U) (aH [1,2,3,4,5,6,7,8,9,10,11,12,13,0]) ?_
 clear A
 rintro ⟨a,Pi⟩ J25 Bi
 try dsimp only
 refine WS fun _ C3=>rP 1 [] mn ?_
 refine RK C3<|ah fun _ Di=>bK U (aM fun P5=>?_) (aL fun P5=>?_)
 ·refine bu<|ab<|ab<|au<|KK C1<|WS fun _ s=>bf 3 U<|rS (SX (sr U U vx (by exact aD 13 U)) U U)<|bf 1 U<|rS (SX (sr U U mm (by exact j8 0 U)) U U)<|rP 3 [] mn ?_
  refine RK s<|an<|Q1 hQ U U U ?_
  first|rfl|exact cB (fI (by have h_:=C.count; simp only [mw,List.length_map]; rw [List.take_of_length_le I]; omega))
 refine WK Di<|ah fun _ Do=>av<|WS fun _ Dt=>rP 1 [] mn ?_
 obtain ⟨g,hg⟩:=aJ (cd r) a I
 obtain ⟨ga,J⟩:=aJ H a I
 have R5:(List.zipWith l3 (cd r) H)[a]? =some (l3 g ga):=dA hg J
 refine rS (IA a U (ai (n:=(cd r).length) 1 U (iy G)) nW dc I I)<|rS (fV a 0 (vS ga.1 g.length ga.2) U bX (ai (n:=(cd r).length) 1 U (iy G)) R5 U dc U)<|rP 2 [] mn ?_
 refine RK Dt<|ah fun _ EQ=>ah fun _ Eq=>?_
 have R6:=C.small D.2 hg
 have UV:2^g.length≤32:=Nat.pow_le_pow_right (n:=2) dc R6
 have UM:1≤2^g.length:=Nat.one_le_two_pow
 refine aj<|rP 3 [] mn ?_
 refine RK Eq<|cy U (aL fun Qa=>?_) (aM fun Qa=>?_)
 ·exact absurd (List.length_eq_zero_iff.1 I) (C.ok.some_ _ (aR hg))
 refine WK EQ<|ah fun _ FS=>WS fun _ Fd=>rP 3 [] mn ?_
 refine RK Fd<|av ?_
 rw [show (mw ((cd r).take a).flatten)=(mw (((cd r).take a).flatten++g.take 0)) from by simp]
 have A:(0≤g.length):=by exact Nat.zero_le _
 refine bH (ι:={z:Nat // (z≤g.length)}) [1,3,4,6,8,9,10,51,52,53,61,62] [0,1,2,3,4,5,6,7,8,9,10,11,12] U U (fun z=>[(63,(vI (z.1:Int)))]) (fun z=>[(gZ iV Y (bL vB (mw (((cd r).take a).flatten++g.take z.1))))]) (fun _=>rfl) (fun _=>rfl) (fun z=>g.length-z.1) ⟨0,A⟩ (aT U) (aH [0,1,2,3,4,5,6,7,8,9,10,11,12,13]) ?_
 clear A
 rintro ⟨x,Pl⟩ J35 R
 try dsimp only
 refine WS fun _ Fn=>rP 1 [] mn ?_
 refine RK Fn<|ah fun _ GE=>bK U (aM fun QB=>?_) (aL fun QB=>?_)
 ·refine bu<|ab<|ab<|au<|KK FS<|ah fun _ J7=>?_
  rw [show ((cd r).take a).flatten++g.take x=((cd r).take (a+1)).flatten from by rw [show g.take x=g from List.take_of_length_le I]; exact Kb hg]
  refine aj<|rP 1 [] mn ?_
  refine RK J7<|av ?_
  have A:(1≤1∧(1+1≤2^g.length∨1=1)):=by exact ⟨Nat.le_refl _,.inr rfl⟩
  refine bH (ι:={z:Nat // (1≤z∧(z+1≤2^g.length∨z=1))}) [1,3,4,6,8,9,10,51,52,53] [0,1,2,3,4,5,6,7,8,9,10,11,12,13] U U (fun z=>[(19,(vI (z.1:Int)))]) (fun z=>[]) (fun _=>rfl) (fun _=>rfl) (fun z=>2^g.length-z.1) ⟨1,A⟩ (aT U) (aH [0,1,2,3,4,5,6,7,8,9,10,11,12,13]) ?_
  clear A
  rintro ⟨bt,Pu⟩ J78 B9
  try dsimp only
  refine ah fun _ J8=>WS fun _ J9=>bf 3 U<|rS (BI U (PW (i:=g.length) I I))<|rP 2 [] mn ?_
  refine RK J9<|bK U (aM fun A5=>?_) (aL fun A5=>?_)
  ·refine bu<|ab<|ab<|au<|aG<|KK Do<|aj<|rP 2 [] mn ?_
   refine aC ?_
   have A1:(vI (((a+1):Nat):Int))=(vI ((a:Int)+1)):=by exact cI I
   refine aS (Bi ⟨(a+1),(by first|omega|(simp only []; omega))⟩ _ _ _ U os (ct 7<|aX U A1<|dh.nil _) (aH [0,1,2,3,4,5,6,7,8,9,10,11,12,13]))
  refine WK J8<|ah fun _ Kg=>av<|WS fun _ K0=>bf 1 U<|RK K0<|ah fun _ K4=>WS fun _ K5=>rP 3 [] mn ?_
  refine RK K5<|av ?_
  have A:(0≤g.length)∧(lG r g bt 0 0 true):=by exact ⟨Nat.zero_le _,HH⟩
  refine bH (ι:={z:Nat×Bool // (z.1≤g.length)∧(lG r g bt z.1 0 z.2)}) [1,3,4,6,8,9,10,19,51,52,53,134,135] [0,1,2,3,4,5,6,7,8,9,10,11,12,13] U U (fun z=>[(20,(vB z.1.2)),(136,(vI (z.1.1:Int)))]) (fun z=>[]) (fun _=>rfl) (fun _=>rfl) (fun z=>g.length-z.1.1) ⟨(0,true),A⟩ (aT U) (aH [0,1,2,3,4,5,6,7,8,9,10,11,12,13]) ?_
  clear A
  rintro ⟨⟨x,p⟩,⟨b,K⟩⟩ J85 Ci
  try dsimp only at b K
  try dsimp only
  refine WS fun _ K8=>rP 1 [] mn ?_
  refine RK K8<|ah fun _ LA=>bK U (aM fun Qr=>?_) (aL fun Qr=>?_)
  ·refine bu<|ab<|ab<|au<|KK K4<|WS fun _ q=>rP 1 [] mn ?_
   refine RK q<|cy U (fun AA=>?_) (fun AA=>?_)
   ·exfalso; rw [JI C D.2 hg I I K I] at AA; cases AA
   refine bZ<|aG<|KK Kg<|aj<|rP 3 [] mn ?_
   refine aC ?_
   have A0:(vI (((bt+1):Nat):Int))=(vI ((bt:Int)+1)):=by exact cI I
   refine aS (B9 ⟨(bt+1),(by first|omega|(dsimp only; omega))⟩ _ _ _ U (by first|omega|(dsimp only; omega)) (ct 10<|aX U A0<|dh.nil _) (aH [0,1,2,3,4,5,6,7,8,9,10,11,12,13]))
  refine WK LA<|ah fun _ LE=>av<|WS fun _ LT=>rP 1 [] mn ?_
  obtain ⟨i,hi⟩:=aJ g x I
  have A2:=bG iC hi
  refine rS (IA x U (show il _ (rd ga.1 g.length 1 (g.map iC)).holds from (fun w hw=>(cL 2 U mM) w hw _ (bM hg J (by simp [A_])))) cp dc I I)<|rS (fV x 0 (vI i) U bX (show il _ (rd ga.1 g.length 1 (g.map iC)).holds from (fun w hw=>(cL 2 U mM) w hw _ (bM hg J (by simp [A_])))) A2 U dc U)<|bf 2 U<|RK LT<|WS fun _ La=>rP 3 [] mn ?_
  refine RK La<|av ?_
  have A:(0≤g.length)∧(lG r g bt x 0 p):=by exact ⟨Nat.zero_le _,K⟩
  refine bH (ι:={z:Nat×Bool // (z.1≤g.length)∧(lG r g bt x z.1 z.2)}) [1,3,4,6,8,9,10,19,21,22,51,52,53,134,135,136,141,142] [0,1,2,3,4,5,6,7,8,9,10,11,12,13] U U (fun z=>[(20,(vB z.1.2)),(143,(vI (z.1.1:Int)))]) (fun z=>[]) (fun _=>rfl) (fun _=>rfl) (fun z=>g.length-z.1.1) ⟨(0,p),A⟩ (aT U) (aH [0,1,2,3,4,5,6,7,8,9,10,11,12,13]) ?_
  clear A
  rintro ⟨⟨y,p2⟩,⟨c,B⟩⟩ J92 N
  try dsimp only at c B
  try dsimp only
  refine WS fun _ Li=>rP 1 [] mn ?_
  refine RK Li<|ah fun _ Lk=>bK U (aM fun Qx=>?_) (aL fun Qx=>?_)
  ·refine bu<|ab<|ab<|au<|aG<|KK LE<|aj<|rP 2 [] mn ?_
   refine aC ?_
   have Al:(vI (((x+1):Nat):Int))=(vI ((x:Int)+1)):=by exact cI I
   refine aS (Ci ⟨((x+1),p2),⟨I,I0 B I⟩⟩ _ _ _ U os (ct 14<|aX U Al<|dh.nil _) (aH [0,1,2,3,4,5,6,7,8,9,10,11,12,13]))
  refine WK Lk<|ah fun _ O=>av<|WS fun _ Lo=>rP 1 [] mn ?_
  obtain ⟨k,hk⟩:=aJ g y I
  have A3:=bG iC hk
  refine rS (IA y U (show il _ (rd ga.1 g.length 1 (g.map iC)).holds from (fun w hw=>(cL 2 U mM) w hw _ (bM hg J (by simp [A_])))) cp dc I I)<|rS (fV y 0 (vI k) U bX (show il _ (rd ga.1 g.length 1 (g.map iC)).holds from (fun w hw=>(cL 2 U mM) w hw _ (bM hg J (by simp [A_])))) A3 U dc U)<|bf 2 U<|RK Lo<|ah fun _ Ly=>WS fun _ h=>bf 2 U<|rS (BI U (KI (i:=x) I I))<|rS (BI U (Mb (m:=(bt/2^x)) I (Nat.lt_of_le_of_lt (Nat.div_le_self _ _) I)))<|rP 2 [] mn ?_
  refine cQ (t:=153) U (aL fun A6=>?_) (aM fun A6=>?_)
  ·refine bf 6 U<|RK h<|aO U<|bu<|ab<|au<|KK O<|aj<|rP 2 [] mn ?_
   refine aC ?_
   have u:(vI (((y+1):Nat):Int))=(vI ((y:Int)+1)):=by exact cI I
   refine aS (N ⟨((y+1),p2),⟨I,by first|exact sV|exact qo B AB hi hk|exact oP B I⟩⟩ _ _ _ U os (ct 19<|aX U u<|dh.nil _) (aH [0,1,2,3,4,5,6,7,8,9,10,11,12,13]))
  refine bf 2 U<|rS (BI U (KI (i:=y) I I))<|rS (BI U (Mb (m:=(bt/2^y)) I (Nat.lt_of_le_of_lt (Nat.div_le_self _ _) I)))<|rP 2 [] mn ?_
  refine RK h<|cy U (aL fun A7=>?_) (aM fun A7=>?_)
  ·refine bu<|ab<|au<|KK O<|aj<|rP 2 [] mn ?_
   refine aC ?_
   have v:(vI (((y+1):Nat):Int))=(vI ((y:Int)+1)):=by exact cI I
   refine aS (N ⟨((y+1),p2),⟨I,by first|exact sV|exact qo B AB hi hk|exact oP B I⟩⟩ _ _ _ U os (ct 19<|aX U v<|dh.nil _) (aH [0,1,2,3,4,5,6,7,8,9,10,11,12,13]))
  refine WK Ly<|WS fun _ o=>rP 3 [] (mc 3 U mn) ?_
  refine rS (CL (sW i k r kA kC az cA cC bA bC slA slC drA drC ha heA heC sd) (bj [4,5,6,7,8,9,10,11,12]) U) ?_
  refine bf 5 U<|RK o<|aj<|rP 2 [] mn ?_
  refine b_ (t:=168) U (fun AB=>?_) (fun AB=>?_)
  ·refine bf 8 U<|aC<|aG<|KK O<|aj<|rP 2 [] mn ?_
   refine aC ?_
   have Ah:(vI (((y+1):Nat):Int))=(vI ((y:Int)+1)):=by exact cI I
   refine aS (N ⟨((y+1),false),⟨I,by first|exact sV|exact qo B AB hi hk|exact oP B I⟩⟩ _ _ _ U os (ct 19<|aX U Ah<|dh.nil _) (aH [0,1,2,3,4,5,6,7,8,9,10,11,12,13]))
  refine rP 4 [] mn ?_
  refine b_ (t:=172) U (aM fun A8=>?_) (aL fun A8=>?_)
  ·refine bf 4 U<|aC<|aG<|KK O<|aj<|rP 2 [] mn ?_
   refine aC ?_
   have AO:(vI (((y+1):Nat):Int))=(vI ((y:Int)+1)):=by exact cI I
   refine aS (N ⟨((y+1),false),⟨I,by first|exact sV|exact qo B AB hi hk|exact oP B I⟩⟩ _ _ _ U os (ct 19<|aX U AO<|dh.nil _) (aH [0,1,2,3,4,5,6,7,8,9,10,11,12,13]))
  refine bf 1 U<|rS (BI U lx)<|bf 2 U<|aC<|aG<|KK O<|aj<|rP 2 [] mn ?_
  refine aC ?_
  have AC:(vI (((y+1):Nat):Int))=(vI ((y:Int)+1)):=by exact cI I
  refine aS (N ⟨((y+1),(decide ((ov r i k)=2))),⟨I,by first|exact sV|exact qo B AB hi hk|exact oP B I⟩⟩ _ _ _ U os (ct 19<|aX U AC<|dh.nil _) (aH [0,1,2,3,4,5,6,7,8,9,10,11,12,13]))
 refine WK GE<|ah fun _ S=>av<|WS fun _ GT=>rP 1 [] mn ?_
 obtain ⟨i,hi⟩:=aJ g x I
 have A2:=bG iC hi
 refine rS (IA x U (show il _ (rd ga.1 g.length 1 (g.map iC)).holds from (fun w hw=>(cL 2 U mM) w hw _ (bM hg J (by simp [A_])))) cp dc I I)<|rS (fV x 0 (vI i) U bX (show il _ (rd ga.1 g.length 1 (g.map iC)).holds from (fun w hw=>(cL 2 U mM) w hw _ (bM hg J (by simp [A_])))) A2 U dc U)<|bf 2 U<|RK GT<|WS fun _ Gf=>bf 2 U<|rS (SX (jW (kV:=iV) (x:=i) (l:=(aF r)) (f:=dw) (z:=(aa.mk 0 0)) U U U mm (dC oJ) vz (by exact j8 0 U)) U U)<|bf 3 U<|AL U de fun T5=>fP U cm U<|bf 1 U<|RK Gf<|ah fun _ d=>WS fun _ e=>rP 3 [] mn ?_
 refine cQ (t:=76) U (fun V=>?_) (fun V=>?_)
 ·rw [Bool.not_eq_true'] at V
  exfalso; obtain ⟨s_,R9⟩:=C.runs hg hi; rw [R9] at V; simp at V
 rw [Bool.not_eq_false'] at V
 refine bf 2 U<|rS (SX (jO (kV:=iV) (x:=i) (l:=(mw (((cd r).take a).flatten++g.take x))) (f:=Value.bool) (z:=false) U U U vx (dC oJ) VM (by exact aD 14 U)) U U)<|rP 2 [] mn ?_
 refine cQ (t:=81) U (fun j=>?_) (fun j=>?_)
 ·exfalso; rw [Fu (C.new hg hi)] at j; simp at j
 refine rP 3 [] mn ?_
 refine b_ (t:=84) U (aM fun Qp=>?_) (aL fun Qp=>?_)
 ·refine bf 9 U<|RK e<|aW U<|WK d<|WS fun _ If=>rP 2 [] mn ?_
  have NE:(dL (mw (((cd r).take a).flatten++g.take x)) i true)=(mw (((cd r).take a).flatten++g.take (x+1))):=by rw [BX (C.new hg hi),j0 hi,List.append_assoc]
  refine hP (kV:=iV) (x:=i) (C':=[_,_,_,_,_,_,_,_,_,_,_,_,_,_,(gZ iV Y (bL vB (mw (((cd r).take a).flatten++g.take (x+1)))))]) 14 U U U U vx (dC oJ) U ((fK _ _ _ _).symm.trans (congrArg _ NE)) U<|RK If<|ah fun _ Ik=>WS fun _ In=>rP 5 [] mn ?_
  refine RK In<|cy U (aL fun T=>?_) (aM fun T=>?_)
  ·refine bu<|ab<|au<|KK S<|aj<|rP 2 [] mn ?_
   refine aC ?_
   have NN:(vI (((x+1):Nat):Int))=(vI ((x:Int)+1)):=by exact cI I
   refine aS (R ⟨(x+1),(by first|omega|(simp only []; omega))⟩ _ _ _ U os (ct 12<|aX U NN<|dh.nil _) (aH [1,2,3,4,5,6,7,8,9,10,11,12,13,14]))
  refine WK Ik<|WS fun _ Jg=>rP 3 [] mn ?_
  obtain ⟨gg,E⟩:=aJ (cd r) (a+1) I
  obtain ⟨gga,F⟩:=aJ H (a+1) I
  have W:(List.zipWith l3 (cd r) H)[(a+1)]? =some (l3 gg gga):=dA E F
  refine rS (IA (a+1) U (ai (n:=(cd r).length) 2 U (iy G)) nW dc I I)<|rS (fV (a+1) 0 (vS gga.1 gg.length gga.2) U bX (ai (n:=(cd r).length) 2 U (iy G)) W U dc U)<|rP 2 [] mn ?_
  refine RK Jg<|av ?_
  have A:(0≤gg.length):=by exact Nat.zero_le _
  refine bH (ι:={z:Nat // (z≤gg.length)}) [1,3,4,6,8,9,10,11,12,51,52,53,61,62,63,105,106] [1,2,3,4,5,6,7,8,9,10,11,12,13,14] U U (fun z=>[(107,(vI (z.1:Int)))]) (fun z=>[]) (fun _=>rfl) (fun _=>rfl) (fun z=>gg.length-z.1) ⟨0,A⟩ (aT U) (aH [1,2,3,4,5,6,7,8,9,10,11,12,13,14]) ?_
  clear A
  rintro ⟨y,Z⟩ J67 B7
  try dsimp only
  have Or:=C.small D.2 E
  refine WS fun _ Jm=>rP 1 [] mn ?_
  refine RK Jm<|ah fun _ J2=>bK U (aM fun Qf=>?_) (aL fun Qf=>?_)
  ·refine bu<|ab<|ab<|au<|aG<|KK S<|aj<|rP 2 [] mn ?_
   refine aC ?_
   have Op:(vI (((x+1):Nat):Int))=(vI ((x:Int)+1)):=by exact cI I
   refine aS (R ⟨(x+1),(by first|omega|(simp only []; omega))⟩ _ _ _ U os (ct 12<|aX U Op<|dh.nil _) (aH [0,1,2,3,4,5,6,7,8,9,10,11,12,13]))
  refine WK J2<|ah fun _ J3=>av<|WS fun _ J4=>?_
  obtain ⟨k2,P⟩:=aJ gg y I
  have hk2m:=bG iC P
  refine rS (IA y U (show il _ (rd gga.1 gg.length 1 (gg.map iC)).holds from (fun w hw=>(cL 2 U mM) w hw _ (bM E F (by simp [A_])))) cp dc I I)<|rS (fV y 0 (vI k2) U bX (show il _ (rd gga.1 gg.length 1 (gg.map iC)).holds from (fun w hw=>(cL 2 U mM) w hw _ (bM E F (by simp [A_])))) hk2m U dc U)<|bf 1 U<|RK J4<|WS fun _ J5=>rP 3 [] (mc 3 U mn) ?_
  refine rS (CL (sW i k2 r kA kC az cA cC bA bC slA slC drA drC ha heA heC sd) (bj [4,5,6,7,8,9,10,11,12]) U) ?_
  refine bf 5 U<|RK J5<|WS fun _ J6=>rP 3 [] mn ?_
  refine cQ (t:=120) U (bp fun L=>?_) (bq fun L=>?_)
  ·exact absurd (C.before D.2 hg E (aR hi) (aR P)).1 L
  refine bf 1 U<|rS (BI U mA)<|rP 1 [] mn ?_
  refine RK J6<|cy U (bp fun M=>?_) (bq fun M=>?_)
  ·exact absurd (C.before D.2 hg E (aR hi) (aR P)).2 M
  refine bZ<|aG<|KK J3<|aj<|rP 2 [] mn ?_
  refine aC ?_
  have Ne:(vI (((y+1):Nat):Int))=(vI ((y:Int)+1)):=by exact cI I
  refine aS (B7 ⟨(y+1),(by first|omega|(simp only []; omega))⟩ _ _ _ U os (ct 17<|aX U Ne<|dh.nil _) (aH [0,1,2,3,4,5,6,7,8,9,10,11,12,13]))
 refine rP 4 [] mn ?_
 obtain ⟨k,hk⟩:=aJ g (x-1) I
 have A3:=bG iC hk
 refine rS (IA (x-1) U (show il _ (rd ga.1 g.length 1 (g.map iC)).holds from (fun w hw=>(cL 3 U mM) w hw _ (bM hg J (by simp [A_])))) cp dc I I)<|rS (fV (x-1) 0 (vI k) U bX (show il _ (rd ga.1 g.length 1 (g.map iC)).holds from (fun w hw=>(cL 3 U mM) w hw _ (bM hg J (by simp [A_])))) A3 U dc U)<|rP 3 [] mn ?_
 refine RK e<|cy U (aL fun Qs=>?_) (aM fun Qs=>?_)
 ·exfalso; have h_:=C.up hg hi I hk; omega
 refine WK d<|WS fun _ Go=>rP 2 [] mn ?_
 have L0:(dL (mw (((cd r).take a).flatten++g.take x)) i true)=(mw (((cd r).take a).flatten++g.take (x+1))):=by rw [BX (C.new hg hi),j0 hi,List.append_assoc]
 refine hP (kV:=iV) (x:=i) (C':=[_,_,_,_,_,_,_,_,_,_,_,_,_,_,(gZ iV Y (bL vB (mw (((cd r).take a).flatten++g.take (x+1)))))]) 14 U U U U vx (dC oJ) U ((fK _ _ _ _).symm.trans (congrArg _ L0)) U<|RK Go<|ah fun _ Gr=>WS fun _ G2=>rP 5 [] mn ?_
 refine RK G2<|cy U (aL fun T=>?_) (aM fun T=>?_)
 ·refine bu<|ab<|au<|KK S<|aj<|rP 2 [] mn ?_
  refine aC ?_
  have L2:(vI (((x+1):Nat):Int))=(vI ((x:Int)+1)):=by exact cI I
  refine aS (R ⟨(x+1),(by first|omega|(simp only []; omega))⟩ _ _ _ U os (ct 12<|aX U L2<|dh.nil _) (aH [1,2,3,4,5,6,7,8,9,10,11,12,13,14]))
 refine WK Gr<|WS fun _ Hi=>rP 3 [] mn ?_
 obtain ⟨gg,E⟩:=aJ (cd r) (a+1) I
 obtain ⟨gga,F⟩:=aJ H (a+1) I
 have W:(List.zipWith l3 (cd r) H)[(a+1)]? =some (l3 gg gga):=dA E F
 refine rS (IA (a+1) U (ai (n:=(cd r).length) 2 U (iy G)) nW dc I I)<|rS (fV (a+1) 0 (vS gga.1 gg.length gga.2) U bX (ai (n:=(cd r).length) 2 U (iy G)) W U dc U)<|rP 2 [] mn ?_
 refine RK Hi<|av ?_
 have A:(0≤gg.length):=by exact Nat.zero_le _
 refine bH (ι:={z:Nat // (z≤gg.length)}) [1,3,4,6,8,9,10,11,12,51,52,53,61,62,63,105,106] [1,2,3,4,5,6,7,8,9,10,11,12,13,14] U U (fun z=>[(107,(vI (z.1:Int)))]) (fun z=>[]) (fun _=>rfl) (fun _=>rfl) (fun z=>gg.length-z.1) ⟨0,A⟩ (aT U) (aH [1,2,3,4,5,6,7,8,9,10,11,12,13,14]) ?_
 clear A
 rintro ⟨y,Z⟩ J51 B3
 try dsimp only
 have Or:=C.small D.2 E
 refine WS fun _ H1=>rP 1 [] mn ?_
 refine RK H1<|ah fun _ IB=>bK U (aM fun QI=>?_) (aL fun QI=>?_)
 ·refine bu<|ab<|ab<|au<|aG<|KK S<|aj<|rP 2 [] mn ?_
  refine aC ?_
  have M2:(vI (((x+1):Nat):Int))=(vI ((x:Int)+1)):=by exact cI I
  refine aS (R ⟨(x+1),(by first|omega|(simp only []; omega))⟩ _ _ _ U os (ct 12<|aX U M2<|dh.nil _) (aH [0,1,2,3,4,5,6,7,8,9,10,11,12,13]))
 refine WK IB<|ah fun _ IO=>av<|WS fun _ IR=>?_
 obtain ⟨k2,P⟩:=aJ gg y I
 have hk2m:=bG iC P
 refine rS (IA y U (show il _ (rd gga.1 gg.length 1 (gg.map iC)).holds from (fun w hw=>(cL 2 U mM) w hw _ (bM E F (by simp [A_])))) cp dc I I)<|rS (fV y 0 (vI k2) U bX (show il _ (rd gga.1 gg.length 1 (gg.map iC)).holds from (fun w hw=>(cL 2 U mM) w hw _ (bM E F (by simp [A_])))) hk2m U dc U)<|bf 1 U<|RK IR<|WS fun _ IX=>rP 3 [] (mc 3 U mn) ?_
 refine rS (CL (sW i k2 r kA kC az cA cC bA bC slA slC drA drC ha heA heC sd) (bj [4,5,6,7,8,9,10,11,12]) U) ?_
 refine bf 5 U<|RK IX<|WS fun _ Id=>rP 3 [] mn ?_
 refine cQ (t:=120) U (bp fun L=>?_) (bq fun L=>?_)
 ·exact absurd (C.before D.2 hg E (aR hi) (aR P)).1 L
 refine bf 1 U<|rS (BI U mA)<|rP 1 [] mn ?_
 refine RK Id<|cy U (bp fun M=>?_) (bq fun M=>?_)
 ·exact absurd (C.before D.2 hg E (aR hi) (aR P)).2 M
 refine bZ<|aG<|KK IO<|aj<|rP 2 [] mn ?_
 refine aC ?_
 have L3:(vI (((y+1):Nat):Int))=(vI ((y:Int)+1)):=by exact cI I
 refine aS (B3 ⟨(y+1),(by first|omega|(simp only []; omega))⟩ _ _ _ U os (ct 17<|aX U L3<|dh.nil _) (aH [0,1,2,3,4,5,6,7,8,9,10,11,12,13]))
end
section
open Go.RowKit
def iF {α:Type} (cells:α→List Value) (sz:Nat) (R:World→α→Prop) (w:World) (s:br):Prop:= ∃ l:List α,s.n=l.length∧(rd s.a l.length sz (l.map cells)).holds w∧(∀ x∈l,R w x)∧l.length≤maxLen∧s.n≤s.c
theorem vp {w:World} {R:World→cw→Prop}: ∀ {l:List dp},(∀ x∈l,iF cw.cells 3 R w x.bo)→ ∃ (ms:List ar) (az:List RA),l.map dp.cells=List.zipWith ar.cells ms az∧ms.length=l.length∧az.length=l.length∧(∀ X∈aV ar.g0 ms az,X.holds w)∧
 (∀ (k:Nat) m (a:RA),ms[k]? =some m→az[k]? =some a→m.bo.length≤a.2∧m.bo.length≤9223372036854775807)∧ms.map (fun m=>m.dg)=l.map (fun x=>x.dg)∧ ∀ (k:Nat) m y,ms[k]? =some m→y∈m.bo→R w y
 |[],_=>⟨[],[],rfl,rfl,rfl,(fun X hX=>by cases hX),(fun k m a h=>by simp at h),rfl,(fun k m y h=>by simp at h)⟩
 |x::l,h=>by
  obtain ⟨ms,az,E,F,G,H,AA,J,K⟩:=vp (fun y hy=>h y (cR _ hy))
  obtain ⟨sy,A,B,C,D,L⟩:=h x sm
  have e4':sy.length≤9223372036854775807:=D
  refine ⟨⟨x.dg,sy⟩::ms,(x.bo.a,x.bo.c)::az,?_,by simp [F],by simp [G],fun X hX=>?_,fun k m a hm ha=>?_,by simp [J],fun k m y hm hy=>?_⟩
  ·obtain ⟨dr,⟨a,n,c⟩⟩:=x
   simp only at A
   subst A
   simp only [List.map_cons,List.zipWith_cons_cons,E]
   rfl
  ·rcases List.mem_append.1 hX with hX|hX
   ·simp only [ar.g0,bS] at hX
    subst hX; exact B
   ·exact H X hX
  ·cases k with
   |zero=>
    simp only [List.getElem?_cons_zero,Option.some.injEq] at hm ha
    subst hm ha
    exact ⟨by simp only; omega,e4'⟩
   |succ k=>exact AA k m a (by simpa using hm) (by simpa using ha)
  ·cases k with
   |zero=>
    simp only [List.getElem?_cons_zero,Option.some.injEq] at hm
    subst hm
    exact C y hy
   |succ k=>exact K k m y (by simpa using hm) hy
theorem G_ {w:World} {s:ck} {R1:World→al→Prop} {R2:World→dp→Prop} {R3:World→bD→Prop} {R4:World→cw→Prop} (h1:iF al.cells 9 R1 w s.aP.kP) (hs: ∀ x,R1 w x→0≤x.i_∧x.i_≤255) (h2:iF dp.cells 2 R2 w s.ak) (hc: ∀ x,R2 w x→iF cw.cells 3 R4 w x.bo) (h3:iF bD.cells 4 R3 w s.ae):
 ∃ (l:a_) (az:List RA) (kA:OA) (kC:Nat) (cA:OA) (cC:Nat) (bA:OA) (bC:Nat),s=ck.mk (bE.mk (br.mk kA l.aP.length kC)) l.g9 (br.mk cA l.ak.length cC) (br.mk bA l.ae.length bC) l.cH l.eV l.cW∧ti l az∧
  ((rd kA l.aP.length 9 (l.aP.map al.cells)).holds w∧(rd cA l.ak.length 2 (List.zipWith ar.cells l.ak az)).holds w∧(eX (aV ar.g0 l.ak az)).holds w∧(rd bA l.ae.length 4 (l.ae.map bD.cells)).holds w)∧l.g9=s.g9∧l.cH=s.cH∧l.eV=s.eV∧l.cW=s.cW:=by
 obtain ⟨⟨⟨ka,kn,kc⟩⟩,fa,⟨ca,cn,cc⟩,⟨ba,bn,bc⟩,fi,fk,mi⟩:=s
 obtain ⟨ts,E,M,N,O,T⟩:=h1
 obtain ⟨cs,B,C,H,AA,R⟩:=h2
 obtain ⟨bs,A,F,P,G,Q⟩:=h3
 simp only at E B A
 subst E B A
 obtain ⟨ms,az,J,D,S,K,L,_⟩:=vp (fun x hx=>hc x (H x hx))
 have t4':ts.length≤9223372036854775807:=O
 have c4':cs.length≤9223372036854775807:=AA
 have b4':bs.length≤9223372036854775807:=G
 refine ⟨⟨ts,fa,ms,bs,fi,fk,mi⟩,az,ka,kc,ca,cc,ba,bc,by simp only [D],⟨t4',fun x hx=>hs x (N x hx),by simp only; omega,by simp only; omega,b4',L⟩,⟨M,?_,K,F⟩,U,U,U,U⟩
 simp only at C ⊢
 rw [D,← J]; exact C
end
section
open Go.RowKit
theorem xr {w:World} {R:World→aK→Prop}: ∀ {l:List bk},(∀ x∈l,iF aK.cells 2 R w x.cr.ag)→ ∃ (ms:List ax) (az:List RA),l.map bk.cells=List.zipWith ax.cells ms az∧ms.length=l.length∧az.length=l.length∧(∀ X∈aV ax.g0 ms az,X.holds w)∧
 ∀ d∈ms,d.cr.ag.length≤9223372036854775807
 |[],_=>⟨[],[],rfl,rfl,rfl,(fun X hX=>by cases hX),fun d h=>by cases h⟩
 |x::l,h=>by
  obtain ⟨ms,az,D,E,F,G,H⟩:=xr (fun y hy=>h y (cR _ hy))
  obtain ⟨sg,A,B,AA,C,J⟩:=h x sm
  have e4':sg.length≤9223372036854775807:=C
  refine ⟨⟨x.Out,x.eI,x.Time,⟨x.cr.Start,x.cr.fZ,sg⟩⟩::ms,(x.cr.ag.a,x.cr.ag.c)::az,?_,by simp [E],by simp [F],fun X hX=>?_,fun d hd=>?_⟩
  ·obtain ⟨o,f,t,⟨st,nw,⟨a,n,c⟩⟩⟩:=x
   simp only at A
   subst A
   simp only [List.map_cons,List.zipWith_cons_cons,D]
   rfl
  ·rcases List.mem_append.1 hX with hX|hX
   ·simp only [ax.g0,bS] at hX
    subst hX; exact B
   ·exact G X hX
  ·rcases List.mem_cons.1 hd with rfl|hd
   ·exact e4'
   ·exact H d hd
theorem wU {w:World} {R2:World→bk→Prop} {R:World→aK→Prop} (hc: ∀ x,R2 w x→iF aK.cells 2 R w x.cr.ag): ∀ {l:List br},(∀ x∈l,iF bk.cells 7 R2 w x)→ ∃ (ms:List (List ax)) (ha:List cO),(l.map fun s=>[vS s.a s.n s.c])=List.zipWith cP ms ha∧ms.length=l.length∧ha.length=l.length∧(∀ X∈aV ir ms ha,X.holds w)∧
 ∀ (k:Nat) h (a:cO),ms[k]? =some h→ha[k]? =some a→h.length≤9223372036854775807∧a.2.length=h.length∧ ∀ d∈h,d.cr.ag.length≤9223372036854775807
 |[],_=>⟨[],[],rfl,rfl,rfl,(fun X hX=>by cases hX),(fun k h a q=>by simp at q)⟩
 |x::l,h=>by
  obtain ⟨ms,ha,J,K,L,M,N⟩:=wU hc (fun y hy=>h y (cR _ hy))
  obtain ⟨ds,C,G,H,AA,P⟩:=h x sm
  obtain ⟨dm,az,D,B,O,E,F⟩:=xr fun y hy=>hc y (H y hy)
  have e4':ds.length≤9223372036854775807:=AA
  refine ⟨dm::ms,((x.a,x.c),az)::ha,?_,by simp [K],by simp [L],fun X hX=>?_,fun k m a hm A=>?_⟩
  ·obtain ⟨a,n,c⟩:=x
   simp only at C
   subst C
   simp only [List.map_cons,List.zipWith_cons_cons,J,cP,B]
  ·rcases List.mem_append.1 hX with hX|hX
   ·unfold ir at hX
    rcases List.mem_cons.1 hX with rfl|hX
    ·simp only
     rw [B,← D]; exact G
    ·exact E X hX
   ·exact M X hX
  ·cases k with
   |zero=>
    simp only [List.getElem?_cons_zero,Option.some.injEq] at hm A
    subst hm A
    exact ⟨I,by simp only; omega,F⟩
   |succ k=>exact N k m a (by simpa using hm) (by simpa using A)
theorem Hl {w:World} {s:cx} {R1:World→al→Prop} {R2:World→dp→Prop} {R3:World→bD→Prop} {R4:World→cw→Prop} {R5:World→Int→Prop} {R6:World→br→Prop} {R7:World→bk→Prop} {R8:World→aK→Prop}
 (h1:iF al.cells 9 R1 w s.ao.aP.kP) (hs: ∀ x,R1 w x→0≤x.i_∧x.i_≤255) (h2:iF dp.cells 2 R2 w s.ao.ak) (hc: ∀ x,R2 w x→iF cw.cells 3 R4 w x.bo) (h3:iF bD.cells 4 R3 w s.ao.ae)
 (h4:iF iC 1 R5 w s.aQ) (h5:iF iC 1 R5 w s.bQ) (h6:iF (fun s=>[vS s.a s.n s.c]) 1 R6 w s.ay) (h7: ∀ x,R6 w x→iF bk.cells 7 R7 w x) (h8: ∀ x,R7 w x→iF aK.cells 2 R8 w x.cr.ag):
 ∃ (r:bT) (az:List RA) (ha:List cO) (kA:OA) (kC:Nat) (cA:OA) (cC:Nat) (bA:OA) (bC:Nat) (slA:OA) (slC:Nat) (drA:OA) (drC:Nat) (heA:OA) (heC:Nat),
  s=cx.mk (ck.mk (bE.mk (br.mk kA r.ao.aP.length kC)) r.ao.g9 (br.mk cA r.ao.ak.length cC) (br.mk bA r.ao.ae.length bC) r.ao.cH r.ao.eV r.ao.cW) (br.mk slA r.aQ.length slC) (br.mk drA r.bQ.length drC) r.iK (br.mk heA r.ay.length heC)∧qP r az ha∧
  ((rd kA r.ao.aP.length 9 (r.ao.aP.map al.cells)).holds w∧(rd cA r.ao.ak.length 2 (List.zipWith ar.cells r.ao.ak az)).holds w∧(eX (aV ar.g0 r.ao.ak az)).holds w∧(rd bA r.ao.ae.length 4 (r.ao.ae.map bD.cells)).holds w∧
   (rd slA r.aQ.length 1 (r.aQ.map iC)).holds w∧(rd drA r.bQ.length 1 (r.bQ.map iC)).holds w∧(rd heA r.ay.length 1 (List.zipWith cP r.ay ha)).holds w∧(eX (aV ir r.ay ha)).holds w):=by
 obtain ⟨ln,⟨sa,sn,sc⟩,⟨da,dn,dc⟩,tu,⟨ea,en,ec⟩⟩:=s
 obtain ⟨l,az,kA,kC,cA,cC,bA,bC,e,A,hh,_⟩:=G_ (s:=ln) h1 hs h2 hc h3
 subst e
 obtain ⟨sl,F,N,T,O,AA⟩:=h4
 obtain ⟨dr,B,G,P,H,Q⟩:=h5
 obtain ⟨he,D,E,L,M,S⟩:=h6
 obtain ⟨ms,ha,AB,C,R,J,K⟩:=wU h8 (fun x hx=>h7 x (L x hx))
 simp only at F B D
 subst F B D
 have s4':sl.length≤9223372036854775807:=O
 have d4':dr.length≤9223372036854775807:=H
 have q4':he.length≤9223372036854775807:=M
 refine ⟨⟨l,sl,dr,tu,ms⟩,az,ha,kA,kC,cA,cC,bA,bC,sa,sc,da,dc,ea,ec,by simp only [C],⟨A,s4',d4',by simp only; omega,by simp only; omega,K⟩,hh.1,hh.2.1,hh.2.2.1,hh.2.2.2,N,G,?_,J⟩
 simp only at E ⊢
 rw [C,← AB]; exact E
end
section
open Go.ChangeShapes Go.WideShapes Go.ChangeAt Go.RowKit
theorem Vr:Tryz.prog.cellsOf 35=11:=by kernel_rfl
theorem SW:Tryz.prog.cellsOf 31=7:=by kernel_rfl
theorem RP:Tryz.prog.cellsOf 27=1:=by kernel_rfl
theorem UW:Tryz.prog.cellsOf 25=1:=by kernel_rfl
theorem Pq:Tryz.prog.cellsOf 114=9:=by kernel_rfl
theorem AY:Tryz.prog.cellsOf 3=1:=by kernel_rfl
def zE (w:World) (n:Int):Prop:=qx n
theorem Ba:sH Tryz.prog 3 Int iC zE:=PA oJ
theorem E5:Tryz.prog.cellsOf 40=2:=by kernel_rfl
structure DH (w:World) (s:aa):Prop where
 Lo:zE w s.Lo
 Hi:zE w s.Hi
theorem UI:fL Tryz.prog 40=some [(3,0),(3,1)]:=by kernel_rfl
theorem GY:sH Tryz.prog 40 aa aa.cells DH:=fun {H} enc w base sp A fuel cs x h=>by
 obtain ⟨hl,hp⟩:=js UI h
 obtain ⟨M,O,F⟩:=hp 0 3 0 rfl
 obtain ⟨K,B,AA⟩:=Ba _ _ _ _ _ _ _ _ F
 obtain ⟨N,P,G⟩:=hp 1 3 1 rfl
 obtain ⟨L,C,J⟩:=Ba _ _ _ _ _ _ _ _ G
 refine ⟨⟨K,L⟩,?_,⟨AA,J⟩⟩
 have E:=gR (hl.trans E5) (by rw [AY]) C
 have D:=dk B (m:=1) (by rw [AY]) E
 exact D
theorem VF:Tryz.prog.cellsOf 5=1:=by kernel_rfl
def VD (w:World) (n:Int):Prop:=0≤n∧n≤255
theorem VN:sH Tryz.prog 5 Int JH VD:=Tj TV
structure JC (w:World) (s:al):Prop where
 Id:zE w s.Id
 kD:DH w s.kD
 lP:DH w s.lP
 eG:DH w s.eG
 i_:VD w s.i_
 Al:zE w s.Al
theorem Sa:fL Tryz.prog 114=some [(3,0),(40,1),(40,3),(40,5),(5,7),(3,8)]:=by kernel_rfl
theorem Rt:sH Tryz.prog 114 al al.cells JC:=fun {H} enc w base sp A fuel cs x h=>by
 obtain ⟨hl,hp⟩:=js Sa h
 obtain ⟨g,o,O⟩:=hp 0 3 0 rfl
 obtain ⟨a,B,AA⟩:=Ba _ _ _ _ _ _ _ _ O
 obtain ⟨i,p,P⟩:=hp 1 40 1 rfl
 obtain ⟨b,C,V⟩:=GY _ _ _ _ _ _ _ _ P
 obtain ⟨j,q,Q⟩:=hp 2 40 3 rfl
 obtain ⟨c,D,W⟩:=GY _ _ _ _ _ _ _ _ Q
 obtain ⟨k,r,R⟩:=hp 3 40 5 rfl
 obtain ⟨d,E,X⟩:=GY _ _ _ _ _ _ _ _ R
 obtain ⟨l,s,S⟩:=hp 4 5 7 rfl
 obtain ⟨e,F,Y⟩:=VN _ _ _ _ _ _ _ _ S
 obtain ⟨n,t,T⟩:=hp 5 3 8 rfl
 obtain ⟨f,G,Z⟩:=Ba _ _ _ _ _ _ _ _ T
 refine ⟨⟨a,b,c,d,e,f⟩,?_,⟨AA,V,W,X,Y,Z⟩⟩
 have N:=gR (hl.trans Pq) (by rw [AY]) G
 have M:=dk F (m:=8) (by rw [VF]) N
 have L:=dk E (m:=7) (by rw [E5]) M
 have K:=dk D (m:=5) (by rw [E5]) L
 have J:=dk C (m:=3) (by rw [E5]) K
 have AB:=dk B (m:=1) (by rw [AY]) J
 exact AB
def TF (w:World) (s:br):Prop:= ∃ l:List al,s.n=l.length∧(rd s.a l.length 9 (l.map al.cells)).holds w∧(∀ x∈l,JC w x)∧l.length≤maxLen∧s.n≤s.c
theorem Ue:sH Tryz.prog 25 br (fun s=>[vS s.a s.n s.c]) TF:=mg QW Pq Rt
structure Sc (w:World) (s:bE):Prop where
 kP:TF w s.kP
theorem UB:fL Tryz.prog 27=some [(25,0)]:=by kernel_rfl
theorem UX:sH Tryz.prog 27 bE bE.cells Sc:=fun {H} enc w base sp A fuel cs x h=>by
 obtain ⟨hl,hp⟩:=js UB h
 obtain ⟨G,AA,D⟩:=hp 0 25 0 rfl
 obtain ⟨F,B,E⟩:=Ue _ _ _ _ _ _ _ _ D
 refine ⟨⟨F⟩,?_,⟨E⟩⟩
 have C:=gR (hl.trans RP) (by rw [UW]) B
 exact C
theorem Vc:Tryz.prog.cellsOf 28=1:=by kernel_rfl
theorem Ps:Tryz.prog.cellsOf 119=2:=by kernel_rfl
theorem Ss:Tryz.prog.cellsOf 117=1:=by kernel_rfl
theorem O8:Tryz.prog.cellsOf 116=3:=by kernel_rfl
structure KZ (w:World) (s:cw):Prop where
 At:zE w s.At
 eo:DH w s.eo
theorem S4:fL Tryz.prog 116=some [(3,0),(40,1)]:=by kernel_rfl
theorem Sf:sH Tryz.prog 116 cw cw.cells KZ:=fun {H} enc w base sp A fuel cs x h=>by
 obtain ⟨hl,hp⟩:=js S4 h
 obtain ⟨M,O,F⟩:=hp 0 3 0 rfl
 obtain ⟨K,B,AA⟩:=Ba _ _ _ _ _ _ _ _ F
 obtain ⟨N,P,G⟩:=hp 1 40 1 rfl
 obtain ⟨L,C,J⟩:=GY _ _ _ _ _ _ _ _ G
 refine ⟨⟨K,L⟩,?_,⟨AA,J⟩⟩
 have E:=gR (hl.trans O8) (by rw [E5]) C
 have D:=dk B (m:=1) (by rw [AY]) E
 exact D
def Pk (w:World) (s:br):Prop:= ∃ l:List cw,s.n=l.length∧(rd s.a l.length 3 (l.map cw.cells)).holds w∧(∀ x∈l,KZ w x)∧l.length≤maxLen∧s.n≤s.c
theorem Tc:sH Tryz.prog 117 br (fun s=>[vS s.a s.n s.c]) Pk:=mg O5 O8 Sf
structure Il (w:World) (s:dp):Prop where
 dg:zE w s.dg
 bo:Pk w s.bo
theorem Rn:fL Tryz.prog 119=some [(3,0),(117,1)]:=by kernel_rfl
theorem TE:sH Tryz.prog 119 dp dp.cells Il:=fun {H} enc w base sp A fuel cs x h=>by
 obtain ⟨hl,hp⟩:=js Rn h
 obtain ⟨M,O,F⟩:=hp 0 3 0 rfl
 obtain ⟨K,B,AA⟩:=Ba _ _ _ _ _ _ _ _ F
 obtain ⟨N,P,G⟩:=hp 1 117 1 rfl
 obtain ⟨L,C,J⟩:=Tc _ _ _ _ _ _ _ _ G
 refine ⟨⟨K,L⟩,?_,⟨AA,J⟩⟩
 have E:=gR (hl.trans Ps) (by rw [Ss]) C
 have D:=dk B (m:=1) (by rw [AY]) E
 exact D
def RU (w:World) (s:br):Prop:= ∃ l:List dp,s.n=l.length∧(rd s.a l.length 2 (l.map dp.cells)).holds w∧(∀ x∈l,Il w x)∧l.length≤maxLen∧s.n≤s.c
theorem U5:sH Tryz.prog 28 br (fun s=>[vS s.a s.n s.c]) RU:=mg S8 Ps TE
theorem Vd:Tryz.prog.cellsOf 29=1:=by kernel_rfl
theorem Py:Tryz.prog.cellsOf 121=4:=by kernel_rfl
theorem Pb:Tryz.prog.cellsOf 111=3:=by kernel_rfl
structure O4 (w:World) (s:cD):Prop where
 aY:zE w s.aY
 mG:DH w s.mG
theorem SK:fL Tryz.prog 111=some [(3,0),(40,1)]:=by kernel_rfl
theorem Tw:sH Tryz.prog 111 cD cD.cells O4:=fun {H} enc w base sp A fuel cs x h=>by
 obtain ⟨hl,hp⟩:=js SK h
 obtain ⟨M,O,F⟩:=hp 0 3 0 rfl
 obtain ⟨K,B,AA⟩:=Ba _ _ _ _ _ _ _ _ F
 obtain ⟨N,P,G⟩:=hp 1 40 1 rfl
 obtain ⟨L,C,J⟩:=GY _ _ _ _ _ _ _ _ G
 refine ⟨⟨K,L⟩,?_,⟨AA,J⟩⟩
 have E:=gR (hl.trans Pb) (by rw [E5]) C
 have D:=dk B (m:=1) (by rw [AY]) E
 exact D
structure IN (w:World) (s:bD):Prop where
 mH:O4 w s.mH
 jK:zE w s.jK
theorem Sg:fL Tryz.prog 121=some [(111,0),(3,3)]:=by kernel_rfl
theorem Ta:sH Tryz.prog 121 bD bD.cells IN:=fun {H} enc w base sp A fuel cs x h=>by
 obtain ⟨hl,hp⟩:=js Sg h
 obtain ⟨M,O,F⟩:=hp 0 111 0 rfl
 obtain ⟨K,B,AA⟩:=Tw _ _ _ _ _ _ _ _ F
 obtain ⟨N,P,G⟩:=hp 1 3 3 rfl
 obtain ⟨L,C,J⟩:=Ba _ _ _ _ _ _ _ _ G
 refine ⟨⟨K,L⟩,?_,⟨AA,J⟩⟩
 have E:=gR (hl.trans Py) (by rw [AY]) C
 have D:=dk B (m:=3) (by rw [Pb]) E
 exact D
def Sn (w:World) (s:br):Prop:= ∃ l:List bD,s.n=l.length∧(rd s.a l.length 4 (l.map bD.cells)).holds w∧(∀ x∈l,IN w x)∧l.length≤maxLen∧s.n≤s.c
theorem Uy:sH Tryz.prog 29 br (fun s=>[vS s.a s.n s.c]) Sn:=mg Qe Py Ta
structure Su (w:World) (s:ck):Prop where
 aP:Sc w s.aP
 g9:zE w s.g9
 ak:RU w s.ak
 ae:Sn w s.ae
 cH:zE w s.cH
 eV:zE w s.eV
 cW:zE w s.cW
theorem Ut:fL Tryz.prog 31=some [(27,0),(3,1),(28,2),(29,3),(3,4),(3,5),(3,6)]:=by kernel_rfl
theorem UQ:sH Tryz.prog 31 ck ck.cells Su:=fun {H} enc w base sp A fuel cs x h=>by
 obtain ⟨hl,hp⟩:=js Ut h
 obtain ⟨n,u,Q⟩:=hp 0 27 0 rfl
 obtain ⟨e,B,X⟩:=UX _ _ _ _ _ _ _ _ Q
 obtain ⟨o,v,R⟩:=hp 1 3 1 rfl
 obtain ⟨f,C,Y⟩:=Ba _ _ _ _ _ _ _ _ R
 obtain ⟨p,y,S⟩:=hp 2 28 2 rfl
 obtain ⟨g,D,Z⟩:=U5 _ _ _ _ _ _ _ _ S
 obtain ⟨q,z,T⟩:=hp 3 29 3 rfl
 obtain ⟨i,E,a⟩:=Uy _ _ _ _ _ _ _ _ T
 obtain ⟨r,y4,AA⟩:=hp 4 3 4 rfl
 obtain ⟨j,F,b⟩:=Ba _ _ _ _ _ _ _ _ AA
 obtain ⟨s,y5,V⟩:=hp 5 3 5 rfl
 obtain ⟨k,G,c⟩:=Ba _ _ _ _ _ _ _ _ V
 obtain ⟨t,y6,W⟩:=hp 6 3 6 rfl
 obtain ⟨l,AB,d⟩:=Ba _ _ _ _ _ _ _ _ W
 refine ⟨⟨e,f,g,i,j,k,l⟩,?_,⟨X,Y,Z,a,b,c,d⟩⟩
 have P:=gR (hl.trans SW) (by rw [AY]) AB
 have O:=dk G (m:=6) (by rw [AY]) P
 have N:=dk F (m:=5) (by rw [AY]) O
 have M:=dk E (m:=4) (by rw [Vd]) N
 have L:=dk D (m:=3) (by rw [Vc]) M
 have K:=dk C (m:=2) (by rw [AY]) L
 have J:=dk B (m:=1) (by rw [RP]) K
 exact J
theorem SV:Tryz.prog.cellsOf 32=1:=by kernel_rfl
def PE (w:World) (s:br):Prop:= ∃ l:List Int,s.n=l.length∧(rd s.a l.length 1 (l.map iC)).holds w∧(∀ x∈l,zE w x)∧l.length≤maxLen∧s.n≤s.c
theorem Rq:sH Tryz.prog 32 br (fun s=>[vS s.a s.n s.c]) PE:=mg SL AY Ba
theorem Vb:Tryz.prog.cellsOf 33=1:=by kernel_rfl
theorem T3:Tryz.prog.cellsOf 46=1:=by kernel_rfl
theorem Tv:Tryz.prog.cellsOf 45=7:=by kernel_rfl
theorem VB:Tryz.prog.cellsOf 4=1:=by kernel_rfl
def Ug (w:World) (n:Bool):Prop:=True
theorem Vv:sH Tryz.prog 4 Bool (fun b=>[vB b]) Ug:=Nj Vx
theorem RS:Tryz.prog.cellsOf 43=3:=by kernel_rfl
theorem Ul:Tryz.prog.cellsOf 41=1:=by kernel_rfl
theorem Pp:Tryz.prog.cellsOf 123=2:=by kernel_rfl
structure Jf (w:World) (s:aK):Prop where
 gd:zE w s.gd
 Read:zE w s.Read
theorem RI:fL Tryz.prog 123=some [(3,0),(3,1)]:=by kernel_rfl
theorem Tf:sH Tryz.prog 123 aK aK.cells Jf:=fun {H} enc w base sp A fuel cs x h=>by
 obtain ⟨hl,hp⟩:=js RI h
 obtain ⟨M,O,F⟩:=hp 0 3 0 rfl
 obtain ⟨K,B,AA⟩:=Ba _ _ _ _ _ _ _ _ F
 obtain ⟨N,P,G⟩:=hp 1 3 1 rfl
 obtain ⟨L,C,J⟩:=Ba _ _ _ _ _ _ _ _ G
 refine ⟨⟨K,L⟩,?_,⟨AA,J⟩⟩
 have E:=gR (hl.trans Pp) (by rw [AY]) C
 have D:=dk B (m:=1) (by rw [AY]) E
 exact D
def SB (w:World) (s:br):Prop:= ∃ l:List aK,s.n=l.length∧(rd s.a l.length 2 (l.map aK.cells)).holds w∧(∀ x∈l,Jf w x)∧l.length≤maxLen∧s.n≤s.c
theorem UP:sH Tryz.prog 41 br (fun s=>[vS s.a s.n s.c]) SB:=mg Rr Pp Tf
structure Sh (w:World) (s:eB):Prop where
 Start:zE w s.Start
 fZ:zE w s.fZ
 ag:SB w s.ag
theorem Va:fL Tryz.prog 43=some [(3,0),(3,1),(41,2)]:=by kernel_rfl
theorem Vg:sH Tryz.prog 43 eB eB.cells Sh:=fun {H} enc w base sp A fuel cs x h=>by
 obtain ⟨hl,hp⟩:=js Va h
 obtain ⟨R,AA,AB⟩:=hp 0 3 0 rfl
 obtain ⟨O,B,L⟩:=Ba _ _ _ _ _ _ _ _ AB
 obtain ⟨S,V,J⟩:=hp 1 3 1 rfl
 obtain ⟨P,C,M⟩:=Ba _ _ _ _ _ _ _ _ J
 obtain ⟨T,W,K⟩:=hp 2 41 2 rfl
 obtain ⟨Q,D,N⟩:=UP _ _ _ _ _ _ _ _ K
 refine ⟨⟨O,P,Q⟩,?_,⟨L,M,N⟩⟩
 have G:=gR (hl.trans RS) (by rw [Ul]) D
 have F:=dk C (m:=2) (by rw [AY]) G
 have E:=dk B (m:=1) (by rw [AY]) F
 exact E
structure QD (w:World) (s:bk):Prop where
 Out:Ug w s.Out
 eI:Ug w s.eI
 Time:DH w s.Time
 cr:Sh w s.cr
theorem U1:fL Tryz.prog 45=some [(4,0),(4,1),(40,2),(43,4)]:=by kernel_rfl
theorem Vk:sH Tryz.prog 45 bk bk.cells QD:=fun {H} enc w base sp A fuel cs x h=>by
 obtain ⟨hl,hp⟩:=js U1 h
 obtain ⟨W,a,K⟩:=hp 0 4 0 rfl
 obtain ⟨S,B,O⟩:=Vv _ _ _ _ _ _ _ _ K
 obtain ⟨X,b,L⟩:=hp 1 4 1 rfl
 obtain ⟨T,C,P⟩:=Vv _ _ _ _ _ _ _ _ L
 obtain ⟨Y,c,M⟩:=hp 2 40 2 rfl
 obtain ⟨AA,D,Q⟩:=GY _ _ _ _ _ _ _ _ M
 obtain ⟨Z,d,N⟩:=hp 3 43 4 rfl
 obtain ⟨V,E,R⟩:=Vg _ _ _ _ _ _ _ _ N
 refine ⟨⟨S,T,AA,V⟩,?_,⟨O,P,Q,R⟩⟩
 have J:=gR (hl.trans Tv) (by rw [RS]) E
 have AB:=dk D (m:=4) (by rw [E5]) J
 have G:=dk C (m:=2) (by rw [VB]) AB
 have F:=dk B (m:=1) (by rw [VB]) G
 exact F
def Qj (w:World) (s:br):Prop:= ∃ l:List bk,s.n=l.length∧(rd s.a l.length 7 (l.map bk.cells)).holds w∧(∀ x∈l,QD w x)∧l.length≤maxLen∧s.n≤s.c
theorem Vo:sH Tryz.prog 46 br (fun s=>[vS s.a s.n s.c]) Qj:=mg SR Tv Vk
def Se (w:World) (s:br):Prop:= ∃ l:List br,s.n=l.length∧(rd s.a l.length 1 (l.map (fun s=>[vS s.a s.n s.c]))).holds w∧(∀ x∈l,Qj w x)∧l.length≤maxLen∧s.n≤s.c
theorem Uz:sH Tryz.prog 33 br (fun s=>[vS s.a s.n s.c]) Se:=mg Ro T3 Vo
structure UF (w:World) (s:cx):Prop where
 ao:Su w s.ao
 aQ:PE w s.aQ
 bQ:PE w s.bQ
 iK:zE w s.iK
 ay:Se w s.ay
theorem SN:fL Tryz.prog 35=some [(31,0),(32,7),(32,8),(3,9),(33,10)]:=by kernel_rfl
theorem UC:sH Tryz.prog 35 cx cx.cells UF:=fun {H} enc w base sp A fuel cs x h=>by
 obtain ⟨hl,hp⟩:=js SN h
 obtain ⟨b,g,M⟩:=hp 0 31 0 rfl
 obtain ⟨W,B,R⟩:=UQ _ _ _ _ _ _ _ _ M
 obtain ⟨c,i,N⟩:=hp 1 32 7 rfl
 obtain ⟨X,C,S⟩:=Rq _ _ _ _ _ _ _ _ N
 obtain ⟨d,j,O⟩:=hp 2 32 8 rfl
 obtain ⟨Y,D,T⟩:=Rq _ _ _ _ _ _ _ _ O
 obtain ⟨e,k,P⟩:=hp 3 3 9 rfl
 obtain ⟨Z,E,AA⟩:=Ba _ _ _ _ _ _ _ _ P
 obtain ⟨f,l,Q⟩:=hp 4 33 10 rfl
 obtain ⟨a,F,V⟩:=Uz _ _ _ _ _ _ _ _ Q
 refine ⟨⟨W,X,Y,Z,a⟩,?_,⟨R,S,T,AA,V⟩⟩
 have L:=gR (hl.trans Vr) (by rw [Vb]) F
 have K:=dk E (m:=10) (by rw [AY]) L
 have J:=dk D (m:=9) (by rw [SV]) K
 have AB:=dk C (m:=8) (by rw [SV]) J
 have G:=dk B (m:=7) (by rw [SW]) AB
 exact G
theorem yr:ownKnob Tryz.prog.godebug=none:=by kernel_rfl
theorem xd:laidOutB Tryz.prog=true:=by kernel_rfl
theorem ue (os:Os) (started:os.Started) (H:Type) (enc:TypeId×Value→H):
 ReturnsInHanded {} Tryz.checked os 4 .any (fun w args=>(Rows.raceTableSpec.pre enc Tryz.prog Tryz.f4 [] false w args∧laidMetH Tryz.prog [("kreisel/race.table",Rows.laid_kreisel_race_table)] w)∧sizedMet enc Tryz.prog Tryz.f4 (OpenSpec.ofChange Rows.raceTableSpec) false w args) (Rows.raceTableSpec.post enc Tryz.prog Tryz.f4 false true false false):=by
 refine returnsInHanded_of_change_and (C:=Tryz.checked) (X:=(fun w _=>laidMetH Tryz.prog [("kreisel/race.table",Rows.laid_kreisel_race_table)] w)) (fun _ _ _ hh h=>h.of_heap hh) yr started kr Tryz.func4
  (ChangeSpec.witness_shaped (enc:=enc) (C:=Tryz.checked) (os:=os) (X:=(fun w _=>laidMetH Tryz.prog [("kreisel/race.table",Rows.laid_kreisel_race_table)] w)) false (World.doorLaid Tryz.prog 400 os) #[.agg #[(vS none 0 0),(vI 0),(vS none 0 0),(vS none 0 0),(vI 0),(vI 0),(vI 0),(vS none 0 0),(vS none 0 0),(vI 0),(vS none 0 0)]] 8 rfl (World.shaped_of_RefB kr kr) kr kr kr (DV os _)) ?_
 intro W base args ds gs before E hW _ _ hL _
 have D: ∀ (j:Nat) t v,Tryz.f4.params[j]? =some t→args[j]? =some v→Value.okWide Tryz.prog W .any base t v:=E
 have hW':=hW
 obtain ⟨p,q,K,hV,rfl,T,AA⟩:=hW
 have hA:DataW.TrodAll enc Tryz.prog W 0 (fun _=>true) true Tryz.f4.params.toList args.toList ds p:=K
 have F:=hA
 rw [Tryz.params4] at hA D
 obtain ⟨Q,Y,Z,R,a,b,L,rfl,rfl,S,V⟩:=trodAll_cons hA
 obtain ⟨rfl,rfl,rfl⟩:=trodAll_nil V
 obtain rfl:args= #[Q]:=by cases args; simp_all
 obtain ⟨rfl,rfl⟩:=trodVars_none hV
 obtain ⟨c,rfl,R0⟩:=EU SN UC (D 0 35 Q rfl rfl) S
 simp only [List.append_nil] at hW' F
 have J:=yu hL
 obtain ⟨r,az,ha,kA,kC,cA,cC,bA,bC,O,P,drA,drC,M,N,rfl,G,B⟩:=Hl (R1:=JC) (R2:=Il) (R3:=IN) (R4:=KZ) (R5:=zE) (R6:=Qj) (R7:=QD) (R8:=Jf) R0.ao.aP.kP (fun x hx=>hx.i_) R0.ao.ak (fun x hx=>hx.bo) R0.ao.ae R0.aQ R0.bQ R0.ay (fun x hx=>hx) (fun x hx=>hx.cr.ag)
 have AB:=(CZ r kA kC az cA cC bA bC O P drA drC ha M N G).run W (by intro A hA; simp only [d_,List.not_mem_nil,or_false] at hA; rcases hA with rfl|rfl|rfl|rfl|rfl|rfl|rfl|rfl|rfl; exact J; exact B.1; exact B.2.1; exact B.2.2.1; exact B.2.2.2.1; exact B.2.2.2.2.1; exact B.2.2.2.2.2.1; exact B.2.2.2.2.2.2.1; exact B.2.2.2.2.2.2.2)
 refine (AB).mono fun e W' ⟨he,hk⟩=>?_
 subst he
 exact ⟨_,U,KA xd hW' F U U kr hk.below kr Vx⟩
theorem vH:Rows.RaceTableSaid:=
 OpenClaim.holds_of_wide 4 Tryz.f4 rfl rfl rfl rfl rfl rfl rfl ⟨rfl,rfl,rfl,rfl,rfl⟩ rfl rfl rfl rfl rfl kr Tryz.func4 uE
  (of_decide_eq_true kr) (by unfold Func.isWrapper; first|(rw [if_pos (by decide+kernel)]; kernel_rfl)|(rw [if_neg (by decide+kernel)]; exact ⟨rfl,rfl⟩))
  (fun os started H enc _=>ue os started H enc)
/-- the statement -/
theorem raceTable_said:Rows.RaceTableCardSaid:=
 Claim7.holds_tied_plain_at .later [] [.funcsDeep] true (true,"088415838787c5430f0abdddd979ed2a5db6662ea085e3210461bc02ff0f1fa1") true
  vH (fun _ h=>by cases h) kr (fun _ h=>by cases h) raceTable_row_tie rfl ⟨rfl,rfl⟩ kr rfl
  (fun f fn hf B=>by
   obtain rfl:f=4:=Option.some.inj ((show Tryz.prog.funcNamed "kreisel/kreisellaw06.RaceTable"=some 4 by kernel_rfl).symm.trans hf) |>.symm
   obtain rfl:fn=Tryz.f4:=(Option.some.inj (Tryz.func4.symm.trans B)).symm
   exact ⟨kr,fun j t ht=>by
    rw [Tryz.params4] at ht
    have hm:t∈([35]:List Nat):=by simpa using Array.mem_of_getElem? ht
    have A:(([35]:List Nat).all fun u=> !Tryz.prog.wantsStandIn u)=true:=by kernel_rfl
    exact (show Tryz.prog.wantsStandIn t=false by simpa using List.all_eq_true.1 A t hm)⟩)
  kr
#print axioms raceTable_said
end
end Go.Proofs.YtadjgjnicdcjbaaGreatDoor
