/-
 The statement juryExamples_said, part 6 of 7: V6, V8, Wh2, Rc2, Rc3, Rc4, Rs1, S2, Rs2, Rs3, Rs4, Rs5, Rt3, Rt2, Jw1, Jw2, Jw6, IdxK, S1, Wh1, Jw3, Jw4, Jw5, Jw7, Jw8, Jw9, Jwa.
 Conditions: none.
-/
import Derived.Test.YtkaenmjhfajbkaaGreatDoorTw1
import Derived.Test.YtkaenmjhfajbkaaGreatDoorTw2
import Derived.Test.YtkaenmjhfajbkaaGreatDoorTw3
import Derived.Test.YtkaenmjhfajbkaaGreatDoorTw4
import Derived.Test.YtkaenmjhfajbkaaGreatDoorTw5
namespace Go.Proofs.YtkaenmjhfajbkaaGreatDoor
set_option maxRecDepth 100000
set_option maxHeartbeats 4000000
set_option linter.unusedVariables false
section
open Go.RowKit
theorem yv (l:bk) (kA:OA) (kC:Nat) (az:List RA) (cA:OA) (cC:Nat) (bA:OA) (bC g1:Nat) (bm:Int) (g2:Nat) (hin:eM l az):
 c_ Tryz.prog 148 [(vP g1),(vP g2)] [(rd kA l.aU.length 9 (l.aU.map av.cells)),(rd cA l.ar.length 2 (List.zipWith aB.cells l.ar az)),(dw (aX aB.gQ l.ar az)),(rd bA l.aa.length 4 (l.aa.map bD.cells)),(bU g1 28 (cy.cells (kh l kA kC cA cC bA bC))),(bU g2 3 [(vI bm)])] (vI (jo l bm)):=by
 have K:=hin.vZ
 have J:=hin.v7
 have H:=hin.oL
 have AA:=hin.vW
 refine bq kr Tryz.func148 U U fun L Q hQ hN=>?_
 try dsimp only
 refine WS fun _ B=>br 1 U<|RK B<|aw fun _ C=>WS fun _ D=>rP 5 [0,1] (mr 4 U (mr 5 U I)) ?_
 refine dr (xs:=[.tmp 7]) (cs:=[(vI bm)]) U de iy U U U U (by simp [Value.cells]) U U fun G=>?_
 refine rS (CL (c_.eq (fB 0 ((l.aa.length:Int)-1) ([bm]) (some ⟨G,0,none⟩) 1 (by (simp; done))) bL) (ai (aT 0 U U (by simp [bp]) U)<|aH) U) ?_
 refine rP 1 [] I ?_
 refine RK D<|cO U (bI fun A=>?_) (bH fun A=>?_)
 ·refine WS fun _ E=>rP 1 [] I ?_
  refine RK E<|ay<|Q1 hQ U U U ?_
  exact cI (if_neg om).symm
 refine WK C<|WS fun _ F=>rP 1 [] I ?_
 refine RK F<|ay<|Q1 hQ U U U ?_
 exact cI (if_pos om).symm
theorem Gm (l:bk) (kA:OA) (kC:Nat) (az:List RA) (cA:OA) (cC:Nat) (bA:OA) (bC:Nat) (r:cM) (sgA:OA) (sgC:Nat) (hin:eM l az) (hsl:r.aj.length≤1000000):
 lX Tryz.prog 147 [(vA (cy.cells (kh l kA kC cA cC bA bC))),(vA (cS.cells (iv r sgA sgC))),(vS none 0 0)] [(rd kA l.aU.length 9 (l.aU.map av.cells)),(rd cA l.ar.length 2 (List.zipWith aB.cells l.ar az)),(dw (aX aB.gQ l.ar az)),(rd bA l.aa.length 4 (l.aa.map bD.cells)),(rd sgA r.aj.length 2 (r.aj.map aG.cells))] (fun (x:Bool×Int×Nat×(OA)×Nat×(OA)×Nat×(List Nat)×(List FM)×(List Nat)×(OA)×Nat×(List FM)×(List Nat)×(OA)×Nat)=>bif x.1 then (vT [(Value.pointer (some ⟨x.2.2.1,0,none⟩)),(vI 0)]) else (vT [(Value.pointer none),(vI x.2.1)])) (fun (x:Bool×Int×Nat×(OA)×Nat×(OA)×Nat×(List Nat)×(List FM)×(List Nat)×(OA)×Nat×(List FM)×(List Nat)×(OA)×Nat)=>(x.1=true→(dA l r 0=0∧qU (cr l r) x.2.2.2.2.2.2.2.2.1∧pj (cr l r) x.2.2.2.2.2.2.2.2.2.2.2.2.1∧x.2.2.2.2.2.2.2.2.2.1.length=x.2.2.2.2.2.2.2.2.1.length∧x.2.2.2.2.2.2.2.2.2.2.2.2.2.1.length=x.2.2.2.2.2.2.2.2.2.2.2.2.1.length∧x.2.2.2.2.2.2.2.1.length=(bX l r.aj r.aj.length).length))∧(x.1=false→(x.2.1=dA l r 0∧ ¬ dA l r 0=0))) (fun (x:Bool×Int×Nat×(OA)×Nat×(OA)×Nat×(List Nat)×(List FM)×(List Nat)×(OA)×Nat×(List FM)×(List Nat)×(OA)×Nat)=>bif x.1 then [(bU x.2.2.1 276 (bE.cells (bE.mk (kh l kA kC cA cC bA bC) (iv r sgA sgC) (bj.mk x.2.2.2.1 ((cN l l.aa.length).length) x.2.2.2.2.1) (bj.mk x.2.2.2.2.2.1 ((bX l r.aj r.aj.length).length) x.2.2.2.2.2.2.1) (bj.mk x.2.2.2.2.2.2.2.2.2.2.1 x.2.2.2.2.2.2.2.2.1.length x.2.2.2.2.2.2.2.2.2.2.2.1) (bj.mk x.2.2.2.2.2.2.2.2.2.2.2.2.2.2.1 x.2.2.2.2.2.2.2.2.2.2.2.2.1.length x.2.2.2.2.2.2.2.2.2.2.2.2.2.2.2)))),(own x.2.2.2.1 x.2.2.2.2.1 3 1 ((cN l l.aa.length).map iC)),(own x.2.2.2.2.2.1 x.2.2.2.2.2.2.1 123 1 (List.zipWith eu (bX l r.aj r.aj.length) x.2.2.2.2.2.2.2.1)),(bx (aX na (bX l r.aj r.aj.length) x.2.2.2.2.2.2.2.1)),(own x.2.2.2.2.2.2.2.2.2.2.1 x.2.2.2.2.2.2.2.2.2.2.2.1 279 1 (List.zipWith eu x.2.2.2.2.2.2.2.2.1 x.2.2.2.2.2.2.2.2.2.1)),(bx (aX km x.2.2.2.2.2.2.2.2.1 x.2.2.2.2.2.2.2.2.2.1)),(own x.2.2.2.2.2.2.2.2.2.2.2.2.2.2.1 x.2.2.2.2.2.2.2.2.2.2.2.2.2.2.2 279 1 (List.zipWith eu x.2.2.2.2.2.2.2.2.2.2.2.2.1 x.2.2.2.2.2.2.2.2.2.2.2.2.2.1)),(bx (aX km x.2.2.2.2.2.2.2.2.2.2.2.2.1 x.2.2.2.2.2.2.2.2.2.2.2.2.2.1))] else []):=by
 have OS:=hin.vZ
 have OQ:=hin.v7
 have OO:=hin.oL
 have OP:=hin.vW
 have OR:=hin.side
 refine dI kr Tryz.func147 U U fun w0 Q hQ hN=>?_
 try dsimp only
 refine WS fun _ LO=>e8 U fun b2=>e8 U fun b3=>br 2 U<|RK LO<|aw fun _ LT=>WS fun _ Li=>gO 1 [] (mc 1 U I) U<|rS (CL (rX l kA kC az cA cC bA bC hin) (aY [2,3,4,5]) U)<|br 1 U<|RK Li<|WS fun _ Lk=>rP 2 [] I ?_
 refine RK Lk<|cO U (bI fun d=>?_) (bH fun d=>?_)
 ·refine WS fun _ Lo=>rP 3 [] I ?_
  refine RK Lo<|ay<|LX hQ (false,(dR l),0,none,0,none,0,[],[],[],none,0,[],[],none,0) [] [] I U (by rfl) U U ?_
  exact oJ<|MS (qP (r:=r) (me:=0) d) d
 refine WK LT<|aw fun _ L0=>WS fun _ s=>?_
 have E:dR l=0:=d
 obtain ⟨J5,Z⟩:=en E
 have L3:=Z.head
 unfold fP at L3
 refine rP 2 [] (mc 0 U I) ?_
 refine dr (xs:=[.tmp 24]) (cs:=[(vI r.Start)]) U de iy U U U U (by simp [Value.cells]) U U fun J9=>?_
 refine rS (CL (c_.eq (fB 0 86400000 ([r.Start]) (some ⟨J9,0,none⟩) 1 (by (simp; done))) bL) (ai (aT 0 U U (by simp [bp]) U)<|aH) U) ?_
 refine rP 2 [] I ?_
 refine cE (t:=28) U (bI fun K2=>?_) (bH fun K2=>?_)
 ·refine br 14 U<|RK s<|bo U<|WS fun _ A4=>rP 2 [] I ?_
  refine RK A4<|ay<|LX hQ (false,51,0,none,0,none,0,[],[],[],none,0,[],[],none,0) [] [] I U (by rfl) U U ?_
  exact oJ<|pz (d_ (me:=0) E (fun q:fE l r=>by have q1:=q.time; have q2:=q.len; omega))
 refine rP 4 [] (mc 1 U I) ?_
 refine dr (xs:=[.tmp 32]) (cs:=[(vI r.gp)]) U de iy U U U U (by simp [Value.cells]) U U fun KL=>?_
 refine rS (CL (c_.eq (fB r.Start 86400000 ([r.gp]) (some ⟨KL,0,none⟩) 1 (by (simp; done))) bL) (ai (aT 0 U U (by simp [bp]) U)<|aH) U) ?_
 refine rP 3 [] I ?_
 refine cE (t:=37) U (bI fun K5=>?_) (bH fun K5=>?_)
 ·refine br 5 U<|RK s<|bo U<|WS fun _ A5=>rP 2 [] I ?_
  refine RK A5<|ay<|LX hQ (false,51,0,none,0,none,0,[],[],[],none,0,[],[],none,0) [] [] I U (by rfl) U U ?_
  exact oJ<|pz (d_ (me:=0) E (fun q:fE l r=>by have q1:=q.time; have q2:=q.len; omega))
 refine rP 5 [] (mc 2 U I) ?_
 refine RK s<|cO U (bc fun K8=>?_) (bf fun K8=>?_)
 ·refine WS fun _ A6=>rP 2 [] I ?_
  refine RK A6<|ay<|LX hQ (false,51,0,none,0,none,0,[],[],[],none,0,[],[],none,0) [] [] I U (by rfl) U U ?_
  exact oJ<|pz (d_ (me:=0) E (fun q:fE l r=>by have q1:=q.time; have q2:=q.len; omega))
 refine WK L0<|WS fun _ A7=>rS (SX (aZ (xs:=[(0,.const (vI (-1)))]) (cs:=(aG.cells (aG.mk (-1) 0))) U U (a_ w5 U)) U U)<|AL U xh fun AA=>fF U nc U<|RK A7<|aw fun _ A8=>dE cu [5,6,7,8] [] [] [0,1,2,3,4,5,6,7,8,9] [] U U U U U<|eS U (LW 4 U ct U U)<|eS U (LW 3 U ct U U)<|eS U (FA 3 U fc U)<|eS U (L1 (vS bA l.aa.length bC) 4 U ct U U)<|eS U (LN U JE)<|er U<|cb U fun T18 Ft=>?_
 refine s7 (n:=l.aa.length) (es:=(List.map oC (List.replicate l.aa.length (none:Option Nat)))) U U U Ik om om (by simp only [maxLen]; omega) (by rw [List.map_replicate]; rfl) U fun B=>?_
 try dsimp only
 refine aK (Ft _ _ (aS [1,2,3,4,5,6,7,8,9,10]) ?_)
 refine cb U fun T20 GE=>rS (SX (aZ (xs:=[(0,.tmp 44),(1,.tmp 45),(3,.tmp 49)]) (cs:=(bE.cells (bE.mk (kh l kA kC cA cC bA bC) (iv r sgA sgC) (bj.mk none 0 0) (bj.mk (some ⟨B,0,none⟩) l.aa.length l.aa.length) (bj.mk none 0 0) (bj.mk none 0 0)))) U U (a_ HW U)) U U)<|aK (GE _ _ (aS [1,2,3,4,5,6,7,8,9,10]) ?_)
 refine cb U fun T21 GG=>e8 U fun J=>aK (GG _ _ (aS [2,3,4,5,6,7,8,9,10,11]) ?_)
 refine cb U fun T23 GT=>rS (AG U)<|aK (GT _ _ (aS [2,3,4,5,6,7,8,9,10,11]) ?_)
 refine fD U<|KK A8<|aw fun _ A9=>WS fun _ B3=>rP 4 [] (mc 6 U I) ?_
 refine RK B3<|aL ?_
 rw [qI]
 refine eH 3 1<|mM ?_
 have D:(0≤l.aa.length)∧(([]:List Nat).length=0):=by exact ⟨Nat.zero_le _,rfl⟩
 refine cq (ι:={z:Nat×(OA)×Nat×(List Nat) // (z.1≤l.aa.length)∧(z.2.2.2.length=z.1)}) [2,3,4,6,7,9,10,54] [4,7,8,9,10,11,12,13] U U (fun z=>[(55,(vI (z.1.1:Int)))]) (fun z=>[(bx (aX na (List.replicate z.1.1 ([]:TM)) z.1.2.2.2)),(own z.1.2.1 z.1.2.2.1 3 1 ((cN l z.1.1).map iC)),(bU J 276 (bE.cells (bE.mk (kh l kA kC cA cC bA bC) (iv r sgA sgC) (bj.mk z.1.2.1 ((cN l z.1.1).length) z.1.2.2.1) (bj.mk (some ⟨B,0,none⟩) l.aa.length l.aa.length) (bj.mk none 0 0) (bj.mk none 0 0)))),(own (some ⟨B,0,none⟩) l.aa.length 123 1 (List.map oC (cK z.1.2.2.2 l.aa.length)))]) (fun _=>rfl) (fun _=>rfl) (fun z=>l.aa.length-z.1.1) ⟨(0,none,0,([]:List Nat)),D⟩ (bw U) (aS [4,7,8,9,10,11,12,13,0,1,2,3]) ?_
 clear D
 rintro ⟨⟨b,a,c,fb⟩,⟨u,W⟩⟩ J26 A3
 try dsimp only at u W
 try dsimp only
 have L9:(cK fb l.aa.length).length=l.aa.length:=kB om
 refine WS fun _ B8=>rP 1 [] I ?_
 refine RK B8<|aw fun _ B9=>cO U (bc fun K4=>?_) (bf fun K4=>?_)
 ·refine WK B9<|aw fun _ CK=>aL<|WS fun _ CV=>rP 2 [] I ?_
  refine RK CV<|aw fun _ Ci=>dE cu [12,13,16] [4] [0] [0,1,2,3,4,5,6,7,8,11] [0,1,2,3,4,5,6,7,8,9,10,11] U U U U U<|eS U (MV U)<|eS U (MV U)<|eS U (SX (bK U U) U U)<|eS U (FA 10 U fc U)<|fS U (L1 (vS a ((cN l b).length) c) 10 U ct U U)<|eS U (LW 2 U ct U U)<|eS U (MV U)<|eS U (CL (D1 l kA kC az cA cC bA bC (b:Int) hin asm (by exact Z.zt) om) (aY [3,4,5,6]) U) ?_
  have OT:=DA J5 Z.zt b
  have OU:=Z.MY b om
  simp only [Int.toNat_natCast]
  refine eS U (BI U (s4 ⟨om,om⟩))<|eS U (FA 1 U fc U)<|eS U (L1 (vI l.iQ) 2 U ct U U) ?_
  refine eS U (CL (EI (1000*(kl l (b:Int).toNat)) l.iQ om (by (simp; omega))) (aH) U) ?_
  refine eS U (SX (bK U U) U U)<|eS U (FA 10 U fc U)<|er U<|gF U fun T33 GV=>dr (xs:=[.tmp 69]) (cs:=[(vI (tw (1000*(kl l (b:Int).toNat)) l.iQ))]) U de iy U U U U (by simp [Value.cells]) U U fun OJ=>aK (GV _ _ (aS [1,2,3,4,5,6,7,8,9,12]) (aS [1,2,3,4,5,6,7,8,9,10,11,12]) ?_)
  refine cb U fun T35 Go=>?_
  refine eD (es2:=(List.map iC (cN l (b+1)))) (m':=(cN l (b+1)).length) 10 U U U ve U U (by simp [cG]) (aT (es:=List.map iC [(tw (1000*(kl l (b:Int).toNat)) l.iQ)]) 0 U U (by simp [bp]) U) (m8 _) (by have:=cG (l:=l) (n:=b); first|omega|(simp; omega)) (by simp only [maxLen,cG]; omega) (by rw [qS]; simp [k8]) (by simp [cG]) U fun AC AO=>?_
  try dsimp only
  refine aK (Go _ _ (aS [1,2,3,4,5,6,7,8,9,12]) ?_)
  refine cb U fun T38 HH=>Na (bE.cells (bE.mk (kh l kA kC cA cC bA bC) (iv r sgA sgC) (bj.mk AC ((cN l (b+1)).length) AO) (bj.mk (some ⟨B,0,none⟩) l.aa.length l.aa.length) (bj.mk none 0 0) (bj.mk none 0 0))) U Bh U U<|aK (HH _ _ (aS [1,2,3,4,5,6,7,8,9,12]) ?_)
  refine fD U<|KK Ci<|aF<|br 1 U<|rS (SX (bK U U) U U)<|rP 3 [] (mc 11 U I) ?_
  refine jy (kV:=iV) U U fun H=>?_
  try dsimp only
  obtain ⟨M2,J7⟩:=aO (cK fb l.aa.length) b om
  have hx41m:(List.map oC (cK fb l.aa.length))[b]? =some (oC M2):=by rw [fT,J7]; rfl
  refine rS (IA b U (ag (n:=l.aa.length) 13 U sq) se dc om om) ?_
  have Hi:((cK fb l.aa.length).set b (some H))=(cK (fb++[H]) l.aa.length):=by exact oq om om
  refine eK (k:=b) (o:=0) (vs:=[(Value.map (some H))]) (es':=(List.map oC (cK (fb++[H]) l.aa.length))) (C':=[_,_,_,_,_,_,_,_,_,_,_,_,_,(own (some ⟨B,0,none⟩) l.aa.length 123 1 (List.map oC (cK (fb++[H]) l.aa.length)))]) 13 U U U Ar U U U U hx41m U dc (by exact (List.map_set (f:=oC) (l:=(cK fb l.aa.length)) (i:=b) (a:=(some H))).symm.trans (congrArg _ Hi)) U<|aK<|aW<|KK CK<|aF<|rP 2 [] I ?_
  refine aK<|wI (X':=aX na (List.replicate (b+1) ([]:TM)) (fb++[H])) 10 0 U U (AE W) ?_
  try dsimp only
  have H1:(vI (((b+1):Nat):Int))=(vI ((b:Int)+1)):=by exact cI om
  refine bu (A3 ⟨((b+1),AC,AO,(fb++[H])),⟨om,by simp; omega⟩⟩ _ _ _ U os (c0 8<|bJ U H1<|eb.nil _) (aS [2,3,4,5,6,7,8,9,0,10,11,12]))
 refine bV<|ao<|ao<|aM<|KK A9<|aw fun _ Ck=>WS fun _ Cp=>rP 4 [] (mc 1 U I) ?_
 refine RK Cp<|aL ?_
 rw [show (List.replicate b ([]:TM))=bX l r.aj 0 from by rw [sN,show b=l.aa.length by omega]]
 rw [show cN l b=cN l l.aa.length from by rw [show b=l.aa.length by omega]]
 have D:(0≤r.aj.length)∧(nR l r.aj 0):=by exact ⟨Nat.zero_le _,tF⟩
 refine cq (ι:={z:Nat // (z≤r.aj.length)∧(nR l r.aj z)}) [2,3,4,6,7,9,10,83,84] [1,2,3,4,5,6,7,9,10,11] U U (fun z=>[(85,(vI (z.1:Int)))]) (fun z=>[(bU AA 113 (aG.cells (jM r.aj z.1))),(bx (aX na (bX l r.aj z.1) fb))]) (fun _=>rfl) (fun _=>rfl) (fun z=>r.aj.length-z.1) ⟨0,D⟩ (bw U) (aS [1,2,3,4,5,6,7,9,10,11,0,8]) ?_
 clear D
 rintro ⟨i,⟨J8,A⟩⟩ J46 S
 try dsimp only
 have Mj:(bX l r.aj i).length=l.aa.length:=eE
 have L9:(cK fb l.aa.length).length=l.aa.length:=kB om
 refine WS fun _ Cu=>rP 1 [] I ?_
 refine RK Cu<|aw fun _ Cx=>cP U (bf fun LA=>?_) (bc fun LA=>?_)
 ·refine bV<|ao<|ao<|aM<|KK Ck<|aw fun _ E2=>aw fun _ FI=>?_
  have w:fE l r:=xz om om A om
  refine aF<|rP 3 [] I ?_
  refine RK FI<|aL<|nO 1<|iX fun R81 Nf=>WS fun _ FS=>rS (SX (ef (r:= .bool false) U U U nv) U U)<|RK FS<|aw fun _ Ne=>bT U<|bV<|ao<|ao<|aM<|KK E2<|aw fun _ Fd=>?_
  rw [show bX l r.aj i=bX l r.aj r.aj.length from by rw [show i=r.aj.length by omega]]
  have y:(bX l r.aj r.aj.length).length=l.aa.length:=eE
  rw [show (List.map oC (cK fb l.aa.length))=(List.zipWith eu (bX l r.aj r.aj.length) fb) from Me om y]
  rw [show (bU J 276 (bE.cells (bE.mk (kh l kA kC cA cC bA bC) (iv r sgA sgC) (bj.mk a ((cN l l.aa.length).length) c) (bj.mk (some ⟨B,0,none⟩) l.aa.length l.aa.length) (bj.mk none 0 0) (bj.mk none 0 0))))=(bU J 276 (bE.cells (bE.mk (kh l kA kC cA cC bA bC) (iv r sgA sgC) (bj.mk a ((cN l l.aa.length).length) c) (bj.mk (some ⟨B,0,none⟩) ((bX l r.aj r.aj.length).length) l.aa.length) (bj.mk none 0 0) (bj.mk none 0 0)))) from by rw [y]]
  have J6:=j_ J5 Z w
  have Ng:(cN l l.aa.length).length=l.aa.length:=cG
  refine aF<|rP 1 [] I ?_
  refine ow 8 U U U U (xd (kh l kA kC cA cC bA bC) (iv r sgA sgC) (cN l l.aa.length) (bX l r.aj r.aj.length) a c fb (some ⟨B,0,none⟩) l.aa.length J (by exact J6) (by exact cG.symm) (by rw [y]; omega)) U (fQ 7 U U (jk sm) (fQ 9 U U (jk (by rw [List.length_zipWith]; omega)) (fQ 11 U U nI qg))) U (fun NE L2=>?_)
  obtain ⟨G,R,O,P,F,N,L,M⟩:=NE
  refine zW (X:=[(bU J 276 (bE.cells (bE.mk (kh l kA kC cA cC bA bC) (iv r sgA sgC) (bj.mk a ((cN l l.aa.length).length) c) (bj.mk (some ⟨B,0,none⟩) ((bX l r.aj r.aj.length).length) l.aa.length) (bj.mk O G.length P) (bj.mk L F.length M)))),(own O P 279 1 (List.zipWith eu G R)),(bx (aX km G R)),(own L M 279 1 (List.zipWith eu F N)),(bx (aX km F N))]) 8 U U ?_
  try dsimp only
  obtain ⟨v,J2,J3,J4⟩:=L2
  dsimp only at v J2 J3 J4
  refine RK Fd<|aw fun _ Fk=>WS fun _ Fn=>rP 1 [] I ?_
  refine cX (qM (kh l kA kC cA cC bA bC) (iv r sgA sgC) (cN l l.aa.length) (bX l r.aj r.aj.length) a c fb (some ⟨B,0,none⟩) l.aa.length G F R O P N L M J (by exact J6) (by (simp; omega)) (by exact cG.symm) (by exact v) asm) (ai (ag (n:=(cN l l.aa.length).length) 12 U sm)<|ai (ag (n:=(bX l r.aj r.aj.length).length) 13 U (by rw [List.length_zipWith]; omega))<|ai (cR 15 U jD)<|ai (ag (n:=G.length) 1 U (by rw [List.length_zipWith]; omega))<|ai (cR 2 U jD)<|ai (ag (n:=F.length) 3 U (by rw [List.length_zipWith]; omega))<|ai (cR 4 U jD)<|dN 0 U U<|aH) U fun NJ No=>?_
  obtain ⟨OI,ON⟩:=NJ
  try dsimp only
  refine rP 2 [] I ?_
  refine RK Fn<|cP U (bf fun V=>?_) (bc fun V=>?_)
  ·refine WK Fk<|WS fun _ p=>rP 3 [] I ?_
   refine RK p<|ay ?_
   refine LX hQ (true,0,J,a,c,(some ⟨B,0,none⟩),l.aa.length,fb,G,R,O,P,F,N,L,M) [1,13,14,16,2,3,4,5] [] I U (by (show List.all _ _=true; simp only [cond_true,gf,List.all_nil,AD,HT,Bool.and_true]; rfl)) U U ?_
   exact ⟨fun _=>⟨jV E w (by first|rfl|exact h156) (fun q=>V (congrArg (fun z:List Int=>(z.length:Int)) q)),v,J2,J3,J4,dso⟩,MZ⟩
  refine WS fun _ j=>rP 2 [] I ?_
  refine RK j<|ay<|LX hQ (false,8,0,none,0,none,0,[],[],[],none,0,[],[],none,0) [] [] I U (by rfl) U U ?_
  exact oJ<|pz (mU (me:=0) E w (by first|rfl|exact h156) (show hG (cr l r)=[] from oB (Int.natCast_eq_zero.1 V)))
 refine WK Cx<|aw fun _ T=>aL<|WS fun _ C0=>rP 1 [] I ?_
 obtain ⟨x,hx⟩:=aO r.aj i om
 have M0:=cD aG.cells hx
 refine rS (IA i U (aQ 6 U) Gz dc om om)<|rS (nz i 0 (aG.cells x) U ct (aQ 6 U) M0 U dc U U)<|AL U xh fun OK=>br 1 U<|fF U nc U<|RK C0<|aw fun _ e=>WS fun _ AB=>rP 6 [0,1] (mc 2 U (mc 0 U I)) ?_
 refine dr (xs:=[.tmp 95]) (cs:=[(vI x.e6)]) U de iy U U U U (by simp [Value.cells]) U U fun Ks=>?_
 refine rS (CL (c_.eq (fB 0 ((l.aa.length:Int)-1) ([x.e6]) (some ⟨Ks,0,none⟩) 1 (by (simp; done))) bL) (ai (aT 0 U U (by simp [bp]) U)<|aH) U) ?_
 refine rP 2 [] I ?_
 refine cE (t:=99) U (bI fun LE=>?_) (bH fun LE=>?_)
 ·refine br 27 U<|RK AB<|bo U<|WS fun _ C1=>rP 2 [] I ?_
  refine RK C1<|ay<|LX hQ (false,51,0,none,0,none,0,[],[],[],none,0,[],[],none,0) [] [] I U (by rfl) U U ?_
  exact oJ<|pz (d_ (me:=0) E (lJ hx (by unfold iu jh; omega)))
 refine rP 2 [] (mc 1 U I) ?_
 refine dr (xs:=[.tmp 101]) (cs:=[(vI x.Read)]) U de iy U U U U (by simp [Value.cells]) U U fun K0=>?_
 refine rS (CL (c_.eq (fB 0 86400000 ([x.Read]) (some ⟨K0,0,none⟩) 1 (by (simp; done))) bL) (ai (aT 0 U U (by simp [bp]) U)<|aH) U) ?_
 refine rP 3 [] I ?_
 refine cE (t:=106) U (bI fun AP=>?_) (bH fun AP=>?_)
 ·refine br 20 U<|RK AB<|bo U<|WS fun _ C2=>rP 2 [] I ?_
  refine RK C2<|ay<|LX hQ (false,51,0,none,0,none,0,[],[],[],none,0,[],[],none,0) [] [] I U (by rfl) U U ?_
  exact oJ<|pz (d_ (me:=0) E (lJ hx (by unfold iu jh; omega)))
 refine rP 7 [0,1] (mc 2 U (mc 13 U I)) ?_
 refine cE (t:=113) U (bc fun A0=>?_) (bf fun A0=>?_)
 ·refine br 13 U<|RK AB<|bo U<|WS fun _ C3=>rP 2 [] I ?_
  refine RK C3<|ay<|LX hQ (false,51,0,none,0,none,0,[],[],[],none,0,[],[],none,0) [] [] I U (by rfl) U U ?_
  exact oJ<|pz (d_ (me:=0) E (lJ hx (by unfold iu jh; omega)))
 refine rP 6 [0,1] (mc 2 U (mc 13 U I)) ?_
 refine cw (t:=119) U (bf fun A1=>?_) (bc fun A1=>?_)
 ·refine br 7 U<|RK AB<|bT U<|WK e<|aw fun _ h=>WS fun _ ER=>gO 2 [0,1] (mc 4 U (mc 2 U I)) U<|rS (CL (vH l kA kC az cA cC bA bC x hin asm om) (aY [5,6,7,8]) U)<|AL U eI fun OM=>fF U dC U<|RK ER<|WS fun _ Eq=>rP 5 [] (mc 0 U I) ?_
  refine RK Eq<|cP U (bf fun C=>?_) (bc fun C=>?_)
  ·refine WK h<|aF<|rP 1 [] (mc 3 U I) ?_
   refine fz (vs:=(aG.cells x)) (cs':=(aG.cells x)) (C':=[_,_,_,_,_,_,_,_,_,_,_,_,_,_,(bU AA 113 (aG.cells x)),_]) 14 U U U nc U U U U U U U<|aK<|aW<|KK T ?_
   have JR:(aG.cells x)=(aG.cells (jM r.aj (i+1))):=by rw [iz hx]
   rw [JR]
   refine aF<|rP 2 [] I ?_
   refine aK ?_
   rw [show (bX l r.aj i)=(bX l r.aj (i+1)) from (m1 hx C).symm]
   have Ja:(vI (((i+1):Nat):Int))=(vI ((i:Int)+1)):=by exact cI om
   refine bu (S ⟨(i+1),⟨om,jl A hx (by unfold iu jh; omega)⟩⟩ _ _ _ U os (c0 9<|bJ U Ja<|eb.nil _) (aS [4,5,6,7,8,9,10,11,12,13,14,15]))
  obtain ⟨mb,Y⟩:=aO (bX l r.aj i) ((x.e6).toNat) om
  obtain ⟨ga,K⟩:=aO fb ((x.e6).toNat) om
  refine uc 15 Y K U U U ?_
  try dsimp only
  refine dh cu 10 kr<|qJ 1 U<|dS (SX (bK U U) U U)<|dP 4 [0,1] (mc 14 U (mc 5 U I)) ?_
  have J1:(List.map oC (cK fb l.aa.length))[(x.e6).toNat]? =some (oC (some ga)):=ng (j5 K)
  refine dS (IA ((x.e6).toNat) U (ag (n:=l.aa.length) 15 U sq) se dc om om) ?_
  refine dS (iY ((x.e6).toNat) 0 (Value.map (some ga)) U ct (ag (n:=(cK fb l.aa.length).length) 15 U sm) J1 U dc U)<|mW 2 [] (mc 2 U I) U<|du<|gu (kV:=iV) (x:=(i:Int)) (C':=[(iB iV ga (b0 ik (c3 mb (i:Int) (dG l x)))),_,_,_,_,_,_,_,_,_,_,_,_,_,_,_,_]) 0 U U U U oO (fM pq) U (ei _ _ _ _).symm U<|RK h<|aF<|rP 1 [] (mc 5 U I) ?_
  refine fz (vs:=(aG.cells x)) (cs':=(aG.cells x)) (C':=[_,_,_,_,_,_,_,_,_,_,_,_,_,_,_,_,(bU AA 113 (aG.cells x))]) 16 U U U nc U U U U U U U<|aK<|aW<|KK T ?_
  have In:(aG.cells x)=(aG.cells (jM r.aj (i+1))):=by rw [iz hx]
  rw [In]
  refine aF<|rP 2 [] I ?_
  refine aK ?_
  refine vR (f:=na) (ms:=(bX l r.aj i)) (m:=(c3 mb (i:Int) (dG l x))) 1 0 (by rw [eE]; omega) K U U U ?_
  rw [oH hx om C Y]
  have JJ:(vI (((i+1):Nat):Int))=(vI ((i:Int)+1)):=by exact cI om
  refine bu (S ⟨(i+1),⟨om,jl A hx (by unfold iu jh; omega)⟩⟩ _ _ _ U os (c0 9<|bJ U JJ<|eb.nil _) (aS [5,6,7,8,9,10,11,12,13,14,15,0]))
 refine rP 7 [0,1] (mc 2 U (mc 13 U I)) ?_
 refine RK AB<|cO U (bc fun A2=>?_) (bf fun A2=>?_)
 ·refine WS fun _ Di=>rP 2 [] I ?_
  refine RK Di<|ay<|LX hQ (false,51,0,none,0,none,0,[],[],[],none,0,[],[],none,0) [] [] I U (by rfl) U U ?_
  exact oJ<|pz (d_ (me:=0) E (lJ hx (by unfold iu jh; omega)))
 refine WK e<|aw fun _ g=>WS fun _ Do=>gO 2 [0,1] (mc 4 U (mc 2 U I)) U<|rS (CL (vH l kA kC az cA cC bA bC x hin asm om) (aY [5,6,7,8]) U)<|AL U eI fun OL=>fF U dC U<|RK Do<|WS fun _ EQ=>rP 5 [] (mc 0 U I) ?_
 refine RK EQ<|cP U (bf fun C=>?_) (bc fun C=>?_)
 ·refine WK g<|aF<|rP 1 [] (mc 3 U I) ?_
  refine fz (vs:=(aG.cells x)) (cs':=(aG.cells x)) (C':=[_,_,_,_,_,_,_,_,_,_,_,_,_,_,(bU AA 113 (aG.cells x)),_]) 14 U U U nc U U U U U U U<|aK<|aW<|KK T ?_
  have Id:(aG.cells x)=(aG.cells (jM r.aj (i+1))):=by rw [iz hx]
  rw [Id]
  refine aF<|rP 2 [] I ?_
  refine aK ?_
  rw [show (bX l r.aj i)=(bX l r.aj (i+1)) from (m1 hx C).symm]
  have If:(vI (((i+1):Nat):Int))=(vI ((i:Int)+1)):=by exact cI om
  refine bu (S ⟨(i+1),⟨om,jl A hx (by unfold iu jh; omega)⟩⟩ _ _ _ U os (c0 9<|bJ U If<|eb.nil _) (aS [4,5,6,7,8,9,10,11,12,13,14,15]))
 obtain ⟨mb,Y⟩:=aO (bX l r.aj i) ((x.e6).toNat) om
 obtain ⟨ga,K⟩:=aO fb ((x.e6).toNat) om
 refine uc 15 Y K U U U ?_
 try dsimp only
 refine dh cu 10 kr<|qJ 1 U<|dS (SX (bK U U) U U)<|dP 4 [0,1] (mc 14 U (mc 5 U I)) ?_
 have Jt:(List.map oC (cK fb l.aa.length))[(x.e6).toNat]? =some (oC (some ga)):=ng (j5 K)
 refine dS (IA ((x.e6).toNat) U (ag (n:=l.aa.length) 15 U sq) se dc om om) ?_
 refine dS (iY ((x.e6).toNat) 0 (Value.map (some ga)) U ct (ag (n:=(cK fb l.aa.length).length) 15 U sm) Jt U dc U)<|mW 2 [] (mc 2 U I) U<|du<|gu (kV:=iV) (x:=(i:Int)) (C':=[(iB iV ga (b0 ik (c3 mb (i:Int) (dG l x)))),_,_,_,_,_,_,_,_,_,_,_,_,_,_,_,_]) 0 U U U U oO (fM pq) U (ei _ _ _ _).symm U<|RK g<|aF<|rP 1 [] (mc 5 U I) ?_
 refine fz (vs:=(aG.cells x)) (cs':=(aG.cells x)) (C':=[_,_,_,_,_,_,_,_,_,_,_,_,_,_,_,_,(bU AA 113 (aG.cells x))]) 16 U U U nc U U U U U U U<|aK<|aW<|KK T ?_
 have IO:(aG.cells x)=(aG.cells (jM r.aj (i+1))):=by rw [iz hx]
 rw [IO]
 refine aF<|rP 2 [] I ?_
 refine aK ?_
 refine vR (f:=na) (ms:=(bX l r.aj i)) (m:=(c3 mb (i:Int) (dG l x))) 1 0 (by rw [eE]; omega) K U U U ?_
 rw [oH hx om C Y]
 have IR:(vI (((i+1):Nat):Int))=(vI ((i:Int)+1)):=by exact cI om
 refine bu (S ⟨(i+1),⟨om,jl A hx (by unfold iu jh; omega)⟩⟩ _ _ _ U os (c0 9<|bJ U IR<|eb.nil _) (aS [5,6,7,8,9,10,11,12,13,14,15,0]))
end
section
open Go.RowKit
theorem G8 (l:bk) (kA:OA) (kC:Nat) (az:List RA) (cA:OA) (cC:Nat) (bA:OA) (bC:Nat) (r:cM) (sgA:OA) (sgC:Nat) (f:Value) (X:au) (me:Int) (gm:Nat) (hf:yd Tryz.prog f [] [X] (.int .i64 me)) (hin:eM l az) (hsl:r.aj.length≤1000000):
 lX Tryz.prog 147 [(vA (cy.cells (kh l kA kC cA cC bA bC))),(vA (cS.cells (iv r sgA sgC))),(vS (some ⟨gm,0,none⟩) 1 1)] [(rd kA l.aU.length 9 (l.aU.map av.cells)),(rd cA l.ar.length 2 (List.zipWith aB.cells l.ar az)),(dw (aX aB.gQ l.ar az)),(rd bA l.aa.length 4 (l.aa.map bD.cells)),(rd sgA r.aj.length 2 (r.aj.map aG.cells)),X,(bU gm 231 [f])] (fun (x:Bool×Int×Nat×(OA)×Nat×(OA)×Nat×(List Nat)×(List FM)×(List Nat)×(OA)×Nat×(List FM)×(List Nat)×(OA)×Nat)=>bif x.1 then (vT [(Value.pointer (some ⟨x.2.2.1,0,none⟩)),(vI 0)]) else (vT [(Value.pointer none),(vI x.2.1)])) (fun (x:Bool×Int×Nat×(OA)×Nat×(OA)×Nat×(List Nat)×(List FM)×(List Nat)×(OA)×Nat×(List FM)×(List Nat)×(OA)×Nat)=>(x.1=true→(dA l r me=0∧qU (cr l r) x.2.2.2.2.2.2.2.2.1∧pj (cr l r) x.2.2.2.2.2.2.2.2.2.2.2.2.1∧x.2.2.2.2.2.2.2.2.2.1.length=x.2.2.2.2.2.2.2.2.1.length∧x.2.2.2.2.2.2.2.2.2.2.2.2.2.1.length=x.2.2.2.2.2.2.2.2.2.2.2.2.1.length∧x.2.2.2.2.2.2.2.1.length=(bX l r.aj r.aj.length).length))∧(x.1=false→(x.2.1=dA l r me∧ ¬ dA l r me=0))) (fun (x:Bool×Int×Nat×(OA)×Nat×(OA)×Nat×(List Nat)×(List FM)×(List Nat)×(OA)×Nat×(List FM)×(List Nat)×(OA)×Nat)=>bif x.1 then [(bU x.2.2.1 276 (bE.cells (bE.mk (kh l kA kC cA cC bA bC) (iv r sgA sgC) (bj.mk x.2.2.2.1 ((cN l l.aa.length).length) x.2.2.2.2.1) (bj.mk x.2.2.2.2.2.1 ((bX l r.aj r.aj.length).length) x.2.2.2.2.2.2.1) (bj.mk x.2.2.2.2.2.2.2.2.2.2.1 x.2.2.2.2.2.2.2.2.1.length x.2.2.2.2.2.2.2.2.2.2.2.1) (bj.mk x.2.2.2.2.2.2.2.2.2.2.2.2.2.2.1 x.2.2.2.2.2.2.2.2.2.2.2.2.1.length x.2.2.2.2.2.2.2.2.2.2.2.2.2.2.2)))),(own x.2.2.2.1 x.2.2.2.2.1 3 1 ((cN l l.aa.length).map iC)),(own x.2.2.2.2.2.1 x.2.2.2.2.2.2.1 123 1 (List.zipWith eu (bX l r.aj r.aj.length) x.2.2.2.2.2.2.2.1)),(bx (aX na (bX l r.aj r.aj.length) x.2.2.2.2.2.2.2.1)),(own x.2.2.2.2.2.2.2.2.2.2.1 x.2.2.2.2.2.2.2.2.2.2.2.1 279 1 (List.zipWith eu x.2.2.2.2.2.2.2.2.1 x.2.2.2.2.2.2.2.2.2.1)),(bx (aX km x.2.2.2.2.2.2.2.2.1 x.2.2.2.2.2.2.2.2.2.1)),(own x.2.2.2.2.2.2.2.2.2.2.2.2.2.2.1 x.2.2.2.2.2.2.2.2.2.2.2.2.2.2.2 279 1 (List.zipWith eu x.2.2.2.2.2.2.2.2.2.2.2.2.1 x.2.2.2.2.2.2.2.2.2.2.2.2.2.1)),(bx (aX km x.2.2.2.2.2.2.2.2.2.2.2.2.1 x.2.2.2.2.2.2.2.2.2.2.2.2.2.1))] else []):=by
 have Oo:=hin.vZ
 have Oa:=hin.v7
 have OY:=hin.oL
 have OZ:=hin.vW
 have On:=hin.side
 refine dI kr Tryz.func147 U U fun w0 Q hQ hN=>?_
 try dsimp only
 refine WS fun _ M2=>e8 U fun b2=>e8 U fun b3=>br 2 U<|RK M2<|aw fun _ NE=>WS fun _ NJ=>gO 1 [] (mc 1 U I) U<|rS (CL (rX l kA kC az cA cC bA bC hin) (aY [2,3,4,5]) U)<|br 1 U<|RK NJ<|WS fun _ Ne=>rP 2 [] I ?_
 refine RK Ne<|cO U (bI fun h=>?_) (bH fun h=>?_)
 ·refine WS fun _ Nf=>rP 3 [] I ?_
  refine RK Nf<|ay<|LX hQ (false,(dR l),0,none,0,none,0,[],[],[],none,0,[],[],none,0) [] [] I U (by rfl) U U ?_
  exact oJ<|MS (qP (r:=r) (me:=me) h) h
 refine WK NE<|aw fun _ Ng=>WS fun _ AO=>?_
 have C:dR l=0:=h
 obtain ⟨K4,d⟩:=en C
 have Nt:=d.head
 unfold fP at Nt
 refine rP 2 [] (mc 0 U I) ?_
 refine dr (xs:=[.tmp 24]) (cs:=[(vI r.Start)]) U de iy U U U U (by simp [Value.cells]) U U fun LT=>?_
 refine rS (CL (c_.eq (fB 0 86400000 ([r.Start]) (some ⟨LT,0,none⟩) 1 (by (simp; done))) bL) (ai (aT 0 U U (by simp [bp]) U)<|aH) U) ?_
 refine rP 2 [] I ?_
 refine cE (t:=28) U (bI fun L0=>?_) (bH fun L0=>?_)
 ·refine br 14 U<|RK AO<|bo U<|WS fun _ A7=>rP 2 [] I ?_
  refine RK A7<|ay<|LX hQ (false,51,0,none,0,none,0,[],[],[],none,0,[],[],none,0) [] [] I U (by rfl) U U ?_
  exact oJ<|pz (d_ (me:=me) C (fun q:fE l r=>by have q1:=q.time; have q2:=q.len; omega))
 refine rP 4 [] (mc 1 U I) ?_
 refine dr (xs:=[.tmp 32]) (cs:=[(vI r.gp)]) U de iy U U U U (by simp [Value.cells]) U U fun Li=>?_
 refine rS (CL (c_.eq (fB r.Start 86400000 ([r.gp]) (some ⟨Li,0,none⟩) 1 (by (simp; done))) bL) (ai (aT 0 U U (by simp [bp]) U)<|aH) U) ?_
 refine rP 3 [] I ?_
 refine cE (t:=37) U (bI fun L3=>?_) (bH fun L3=>?_)
 ·refine br 5 U<|RK AO<|bo U<|WS fun _ A8=>rP 2 [] I ?_
  refine RK A8<|ay<|LX hQ (false,51,0,none,0,none,0,[],[],[],none,0,[],[],none,0) [] [] I U (by rfl) U U ?_
  exact oJ<|pz (d_ (me:=me) C (fun q:fE l r=>by have q1:=q.time; have q2:=q.len; omega))
 refine rP 5 [] (mc 2 U I) ?_
 refine RK AO<|cO U (bc fun L9=>?_) (bf fun L9=>?_)
 ·refine WS fun _ A9=>rP 2 [] I ?_
  refine RK A9<|ay<|LX hQ (false,51,0,none,0,none,0,[],[],[],none,0,[],[],none,0) [] [] I U (by rfl) U U ?_
  exact oJ<|pz (d_ (me:=me) C (fun q:fE l r=>by have q1:=q.time; have q2:=q.len; omega))
 refine WK Ng<|WS fun _ B3=>rS (SX (aZ (xs:=[(0,.const (vI (-1)))]) (cs:=(aG.cells (aG.mk (-1) 0))) U U (a_ w5 U)) U U)<|AL U xh fun V=>fF U nc U<|RK B3<|aw fun _ B8=>dE cu [5,6,7,8] [] [] [0,1,2,3,4,5,6,7,8,9,10,11] [] U U U U U<|eS U (LW 4 U ct U U)<|eS U (LW 3 U ct U U)<|eS U (FA 3 U fc U)<|eS U (L1 (vS bA l.aa.length bC) 4 U ct U U)<|eS U (LN U JE)<|er U<|cb U fun T18 IO=>?_
 refine s7 (n:=l.aa.length) (es:=(List.map oC (List.replicate l.aa.length (none:Option Nat)))) U U U Ik om om (by simp only [maxLen]; omega) (by rw [List.map_replicate]; rfl) U fun B=>?_
 try dsimp only
 refine aK (IO _ _ (aS [1,2,3,4,5,6,7,8,9,10,11,12]) ?_)
 refine cb U fun T20 IR=>rS (SX (aZ (xs:=[(0,.tmp 44),(1,.tmp 45),(3,.tmp 49)]) (cs:=(bE.cells (bE.mk (kh l kA kC cA cC bA bC) (iv r sgA sgC) (bj.mk none 0 0) (bj.mk (some ⟨B,0,none⟩) l.aa.length l.aa.length) (bj.mk none 0 0) (bj.mk none 0 0)))) U U (a_ HW U)) U U)<|aK (IR _ _ (aS [1,2,3,4,5,6,7,8,9,10,11,12]) ?_)
 refine cb U fun T21 Id=>e8 U fun AB=>aK (Id _ _ (aS [2,3,4,5,6,7,8,9,10,11,12,13]) ?_)
 refine cb U fun T23 If=>rS (AG U)<|aK (If _ _ (aS [2,3,4,5,6,7,8,9,10,11,12,13]) ?_)
 refine fD U<|KK B8<|aw fun _ B9=>WS fun _ CK=>rP 4 [] (mc 6 U I) ?_
 refine RK CK<|aL ?_
 rw [qI]
 refine eH 3 1<|mM ?_
 have E:(0≤l.aa.length)∧(([]:List Nat).length=0):=by exact ⟨Nat.zero_le _,rfl⟩
 refine cq (ι:={z:Nat×(OA)×Nat×(List Nat) // (z.1≤l.aa.length)∧(z.2.2.2.length=z.1)}) [2,3,4,6,7,9,10,54] [4,7,8,9,10,11,12,13,14,15] U U (fun z=>[(55,(vI (z.1.1:Int)))]) (fun z=>[(bx (aX na (List.replicate z.1.1 ([]:TM)) z.1.2.2.2)),(own z.1.2.1 z.1.2.2.1 3 1 ((cN l z.1.1).map iC)),(bU AB 276 (bE.cells (bE.mk (kh l kA kC cA cC bA bC) (iv r sgA sgC) (bj.mk z.1.2.1 ((cN l z.1.1).length) z.1.2.2.1) (bj.mk (some ⟨B,0,none⟩) l.aa.length l.aa.length) (bj.mk none 0 0) (bj.mk none 0 0)))),(own (some ⟨B,0,none⟩) l.aa.length 123 1 (List.map oC (cK z.1.2.2.2 l.aa.length)))]) (fun _=>rfl) (fun _=>rfl) (fun z=>l.aa.length-z.1.1) ⟨(0,none,0,([]:List Nat)),E⟩ (bw U) (aS [4,7,8,9,10,11,12,13,14,15,0,1,2,3]) ?_
 clear E
 rintro ⟨⟨b,a,c,fb⟩,⟨AP,Y⟩⟩ J26 A6
 try dsimp only at AP Y
 try dsimp only
 have Nz:(cK fb l.aa.length).length=l.aa.length:=kB om
 refine WS fun _ CV=>rP 1 [] I ?_
 refine RK CV<|aw fun _ Ci=>cO U (bc fun L2=>?_) (bf fun L2=>?_)
 ·refine WK Ci<|aw fun _ Ck=>aL<|WS fun _ Cp=>rP 2 [] I ?_
  refine RK Cp<|aw fun _ Cu=>dE cu [12,13,16] [4] [0] [0,1,2,3,4,5,6,7,8,9,10,13] [0,1,2,3,4,5,6,7,8,9,10,11,12,13] U U U U U<|eS U (MV U)<|eS U (MV U)<|eS U (SX (bK U U) U U)<|eS U (FA 10 U fc U)<|fS U (L1 (vS a ((cN l b).length) c) 12 U ct U U)<|eS U (LW 2 U ct U U)<|eS U (MV U)<|eS U (CL (D1 l kA kC az cA cC bA bC (b:Int) hin asm (by exact d.zt) om) (aY [3,4,5,6]) U) ?_
  have Op:=DA K4 d.zt b
  have Or:=d.MY b om
  simp only [Int.toNat_natCast]
  refine eS U (BI U (s4 ⟨om,om⟩))<|eS U (FA 1 U fc U)<|eS U (L1 (vI l.iQ) 2 U ct U U) ?_
  refine eS U (CL (EI (1000*(kl l (b:Int).toNat)) l.iQ om (by (simp; omega))) (aH) U) ?_
  refine eS U (SX (bK U U) U U)<|eS U (FA 10 U fc U)<|er U<|gF U fun T33 In=>dr (xs:=[.tmp 69]) (cs:=[(vI (tw (1000*(kl l (b:Int).toNat)) l.iQ))]) U de iy U U U U (by simp [Value.cells]) U U fun OT=>aK (In _ _ (aS [1,2,3,4,5,6,7,8,9,10,11,14]) (aS [1,2,3,4,5,6,7,8,9,10,11,12,13,14]) ?_)
  refine cb U fun T35 JJ=>?_
  refine eD (es2:=(List.map iC (cN l (b+1)))) (m':=(cN l (b+1)).length) 12 U U U ve U U (by simp [cG]) (aT (es:=List.map iC [(tw (1000*(kl l (b:Int).toNat)) l.iQ)]) 0 U U (by simp [bp]) U) (m8 _) (by have:=cG (l:=l) (n:=b); first|omega|(simp; omega)) (by simp only [maxLen,cG]; omega) (by rw [qS]; simp [k8]) (by simp [cG]) U fun e g=>?_
  try dsimp only
  refine aK (JJ _ _ (aS [1,2,3,4,5,6,7,8,9,10,11,14]) ?_)
  refine cb U fun T38 JR=>fz (vs:=[(vS e ((cN l (b+1)).length) g)]) (cs':=(bE.cells (bE.mk (kh l kA kC cA cC bA bC) (iv r sgA sgC) (bj.mk e ((cN l (b+1)).length) g) (bj.mk (some ⟨B,0,none⟩) l.aa.length l.aa.length) (bj.mk none 0 0) (bj.mk none 0 0)))) (C':=[_,_,_,_,_,_,_,_,_,_,_,_,_,(bU AB 276 (bE.cells (bE.mk (kh l kA kC cA cC bA bC) (iv r sgA sgC) (bj.mk e ((cN l (b+1)).length) g) (bj.mk (some ⟨B,0,none⟩) l.aa.length l.aa.length) (bj.mk none 0 0) (bj.mk none 0 0)))),_]) 13 U U U Bh U U U U U U U<|aK (JR _ _ (aS [1,2,3,4,5,6,7,8,9,10,11,14]) ?_)
  refine fD U<|KK Cu<|aF<|br 1 U<|rS (SX (bK U U) U U)<|rP 3 [] (mc 13 U I) ?_
  refine jy (kV:=iV) U U fun J=>?_
  try dsimp only
  obtain ⟨OL,K8⟩:=aO (cK fb l.aa.length) b om
  have hx41m:(List.map oC (cK fb l.aa.length))[b]? =some (oC OL):=by rw [fT,K8]; rfl
  refine rS (IA b U (ag (n:=l.aa.length) 15 U sq) se dc om om) ?_
  have Ja:((cK fb l.aa.length).set b (some J))=(cK (fb++[J]) l.aa.length):=by exact oq om om
  refine eK (k:=b) (o:=0) (vs:=[(Value.map (some J))]) (es':=(List.map oC (cK (fb++[J]) l.aa.length))) (C':=[_,_,_,_,_,_,_,_,_,_,_,_,_,_,_,(own (some ⟨B,0,none⟩) l.aa.length 123 1 (List.map oC (cK (fb++[J]) l.aa.length)))]) 15 U U U Ar U U U U hx41m U dc (by exact (List.map_set (f:=oC) (l:=(cK fb l.aa.length)) (i:=b) (a:=(some J))).symm.trans (congrArg _ Ja)) U<|aK<|aW<|KK Ck<|aF<|rP 2 [] I ?_
  refine aK<|wI (X':=aX na (List.replicate (b+1) ([]:TM)) (fb++[J])) 12 0 U U (AE Y) ?_
  try dsimp only
  have Jt:(vI (((b+1):Nat):Int))=(vI ((b:Int)+1)):=by exact cI om
  refine bu (A6 ⟨((b+1),e,g,(fb++[J])),⟨om,by simp; omega⟩⟩ _ _ _ U os (c0 8<|bJ U Jt<|eb.nil _) (aS [2,3,4,5,6,7,8,9,10,11,0,12,13,14]))
 refine bV<|ao<|ao<|aM<|KK B9<|aw fun _ Cx=>WS fun _ C0=>rP 4 [] (mc 1 U I) ?_
 refine RK C0<|aL ?_
 rw [show (List.replicate b ([]:TM))=bX l r.aj 0 from by rw [sN,show b=l.aa.length by omega]]
 rw [show cN l b=cN l l.aa.length from by rw [show b=l.aa.length by omega]]
 have E:(0≤r.aj.length)∧(nR l r.aj 0):=by exact ⟨Nat.zero_le _,tF⟩
 refine cq (ι:={z:Nat // (z≤r.aj.length)∧(nR l r.aj z)}) [2,3,4,6,7,9,10,83,84] [1,2,3,4,5,6,7,8,9,11,12,13] U U (fun z=>[(85,(vI (z.1:Int)))]) (fun z=>[(bU V 113 (aG.cells (jM r.aj z.1))),(bx (aX na (bX l r.aj z.1) fb))]) (fun _=>rfl) (fun _=>rfl) (fun z=>r.aj.length-z.1) ⟨0,E⟩ (bw U) (aS [1,2,3,4,5,6,7,8,9,11,12,13,0,10]) ?_
 clear E
 rintro ⟨i,⟨LO,A⟩⟩ J46 T
 try dsimp only
 have OI:(bX l r.aj i).length=l.aa.length:=eE
 have Nz:(cK fb l.aa.length).length=l.aa.length:=kB om
 refine WS fun _ C1=>rP 1 [] I ?_
 refine RK C1<|aw fun _ C2=>cP U (bf fun Mj=>?_) (bc fun Mj=>?_)
 ·refine bV<|ao<|ao<|aM<|KK Cx<|aw fun _ Fd=>aw fun _ Fk=>?_
  have j:fE l r:=xz om om A om
  refine aF<|br 3 U<|RK Fk<|aL<|nO 2<|iX fun R81 H1=>WS fun _ Fn=>rS (SX (ef (r:= .bool true) U U U nv) U U)<|RK Fn<|aw fun _ Ft=>bo U<|WK Ft<|aw fun _ GE=>aL<|WS fun _ GG=>rS (OD 0 0 U H_ U dc U)<|gO 2 [] (mr 8 U I) U<|RK GG<|WS fun _ GT=>br 1 U<|rS (SX (mQ U U U (hf) (aY [7])) U U)<|br 1 U<|RK GT<|WS fun _ GV=>rP 2 [] I ?_
  refine RK GV<|cO U (bI fun K=>?_) (bH fun K=>?_)
  ·refine WS fun _ Go=>rP 3 [] I ?_
   refine RK Go<|ay<|LX hQ (false,me,0,none,0,none,0,[],[],[],none,0,[],[],none,0) [] [] I U (by rfl) U U ?_
   exact oJ<|MS (n7 C j K) K
  refine cT<|aW<|KK GE<|aF<|rS (SX (ef (r:= .int .i64 1) U U U (ly ⟨dc,dc⟩)) U U)<|rP 1 [] I ?_
  refine RK H1<|iX fun R89 OP=>WS fun _ HH=>rS (SX (ef (r:= .bool false) U U U nv) U U)<|RK HH<|aw fun _ OO=>bT U<|bV<|ao<|ao<|aM<|KK Fd<|aw fun _ Hi=>?_
  rw [show bX l r.aj i=bX l r.aj r.aj.length from by rw [show i=r.aj.length by omega]]
  have A1:(bX l r.aj r.aj.length).length=l.aa.length:=eE
  rw [show (List.map oC (cK fb l.aa.length))=(List.zipWith eu (bX l r.aj r.aj.length) fb) from Me om A1]
  rw [show (bU AB 276 (bE.cells (bE.mk (kh l kA kC cA cC bA bC) (iv r sgA sgC) (bj.mk a ((cN l l.aa.length).length) c) (bj.mk (some ⟨B,0,none⟩) l.aa.length l.aa.length) (bj.mk none 0 0) (bj.mk none 0 0))))=(bU AB 276 (bE.cells (bE.mk (kh l kA kC cA cC bA bC) (iv r sgA sgC) (bj.mk a ((cN l l.aa.length).length) c) (bj.mk (some ⟨B,0,none⟩) ((bX l r.aj r.aj.length).length) l.aa.length) (bj.mk none 0 0) (bj.mk none 0 0)))) from by rw [A1]]
  have K5:=j_ K4 d j
  have OQ:(cN l l.aa.length).length=l.aa.length:=cG
  refine aF<|rP 1 [] I ?_
  refine ow 10 U U U U (xd (kh l kA kC cA cC bA bC) (iv r sgA sgC) (cN l l.aa.length) (bX l r.aj r.aj.length) a c fb (some ⟨B,0,none⟩) l.aa.length AB (by exact K5) (by exact cG.symm) (by rw [A1]; omega)) U (fQ 9 U U (jk sm) (fQ 11 U U (jk (by rw [List.length_zipWith]; omega)) (fQ 13 U U nI qg))) U (fun LA No=>?_)
  obtain ⟨G,S,P,R,F,O,N,H⟩:=LA
  refine zW (X:=[(bU AB 276 (bE.cells (bE.mk (kh l kA kC cA cC bA bC) (iv r sgA sgC) (bj.mk a ((cN l l.aa.length).length) c) (bj.mk (some ⟨B,0,none⟩) ((bX l r.aj r.aj.length).length) l.aa.length) (bj.mk P G.length R) (bj.mk N F.length H)))),(own P R 279 1 (List.zipWith eu G S)),(bx (aX km G S)),(own N H 279 1 (List.zipWith eu F O)),(bx (aX km F O))]) 10 U U ?_
  try dsimp only
  obtain ⟨A0,Ks,K0,K2⟩:=No
  dsimp only at A0 Ks K0 K2
  refine RK Hi<|aw fun _ v=>WS fun _ w=>rP 1 [] I ?_
  refine cX (qM (kh l kA kC cA cC bA bC) (iv r sgA sgC) (cN l l.aa.length) (bX l r.aj r.aj.length) a c fb (some ⟨B,0,none⟩) l.aa.length G F S P R O N H AB (by exact K5) (by (simp; omega)) (by exact cG.symm) (by exact A0) asm) (ai (ag (n:=(cN l l.aa.length).length) 14 U sm)<|ai (ag (n:=(bX l r.aj r.aj.length).length) 15 U (by rw [List.length_zipWith]; omega))<|ai (cR 17 U jD)<|ai (ag (n:=G.length) 1 U (by rw [List.length_zipWith]; omega))<|ai (cR 2 U jD)<|ai (ag (n:=F.length) 3 U (by rw [List.length_zipWith]; omega))<|ai (cR 4 U jD)<|dN 0 U U<|aH) U fun LE OK=>?_
  obtain ⟨OM,ON⟩:=LE
  try dsimp only
  refine rP 2 [] I ?_
  refine RK w<|cP U (bf fun W=>?_) (bc fun W=>?_)
  ·refine WK v<|WS fun _ AC=>rP 3 [] I ?_
   refine RK AC<|ay ?_
   refine LX hQ (true,0,AB,a,c,(some ⟨B,0,none⟩),l.aa.length,fb,G,S,P,R,F,O,N,H) [1,15,16,18,2,3,4,5] [] I U (by (show List.all _ _=true; simp only [cond_true,gf,List.all_nil,AD,HT,Bool.and_true]; rfl)) U U ?_
   exact ⟨fun _=>⟨jV C j (by first|rfl|exact K) (fun q=>W (congrArg (fun z:List Int=>(z.length:Int)) q)),A0,Ks,K0,K2,dso⟩,MZ⟩
  refine WS fun _ y=>rP 2 [] I ?_
  refine RK y<|ay<|LX hQ (false,8,0,none,0,none,0,[],[],[],none,0,[],[],none,0) [] [] I U (by rfl) U U ?_
  exact oJ<|pz (mU (me:=me) C j (by first|rfl|exact K) (show hG (cr l r)=[] from oB (Int.natCast_eq_zero.1 W)))
 refine WK C2<|aw fun _ AA=>aL<|WS fun _ C3=>rP 1 [] I ?_
 obtain ⟨x,hx⟩:=aO r.aj i om
 have OJ:=cD aG.cells hx
 refine rS (IA i U (aQ 6 U) Gz dc om om)<|rS (nz i 0 (aG.cells x) U ct (aQ 6 U) OJ U dc U U)<|AL U xh fun OU=>br 1 U<|fF U nc U<|RK C3<|aw fun _ p=>WS fun _ L=>rP 6 [0,1] (mc 2 U (mc 0 U I)) ?_
 refine dr (xs:=[.tmp 95]) (cs:=[(vI x.e6)]) U de iy U U U U (by simp [Value.cells]) U U fun Lk=>?_
 refine rS (CL (c_.eq (fB 0 ((l.aa.length:Int)-1) ([x.e6]) (some ⟨Lk,0,none⟩) 1 (by (simp; done))) bL) (ai (aT 0 U U (by simp [bp]) U)<|aH) U) ?_
 refine rP 2 [] I ?_
 refine cE (t:=99) U (bI fun M0=>?_) (bH fun M0=>?_)
 ·refine br 27 U<|RK L<|bo U<|WS fun _ Di=>rP 2 [] I ?_
  refine RK Di<|ay<|LX hQ (false,51,0,none,0,none,0,[],[],[],none,0,[],[],none,0) [] [] I U (by rfl) U U ?_
  exact oJ<|pz (d_ (me:=me) C (lJ hx (by unfold iu jh; omega)))
 refine rP 2 [] (mc 1 U I) ?_
 refine dr (xs:=[.tmp 101]) (cs:=[(vI x.Read)]) U de iy U U U U (by simp [Value.cells]) U U fun Lo=>?_
 refine rS (CL (c_.eq (fB 0 86400000 ([x.Read]) (some ⟨Lo,0,none⟩) 1 (by (simp; done))) bL) (ai (aT 0 U U (by simp [bp]) U)<|aH) U) ?_
 refine rP 3 [] I ?_
 refine cE (t:=106) U (bI fun A2=>?_) (bH fun A2=>?_)
 ·refine br 20 U<|RK L<|bo U<|WS fun _ Do=>rP 2 [] I ?_
  refine RK Do<|ay<|LX hQ (false,51,0,none,0,none,0,[],[],[],none,0,[],[],none,0) [] [] I U (by rfl) U U ?_
  exact oJ<|pz (d_ (me:=me) C (lJ hx (by unfold iu jh; omega)))
 refine rP 7 [0,1] (mc 2 U (mc 15 U I)) ?_
 refine cE (t:=113) U (bc fun A3=>?_) (bf fun A3=>?_)
 ·refine br 13 U<|RK L<|bo U<|WS fun _ EQ=>rP 2 [] I ?_
  refine RK EQ<|ay<|LX hQ (false,51,0,none,0,none,0,[],[],[],none,0,[],[],none,0) [] [] I U (by rfl) U U ?_
  exact oJ<|pz (d_ (me:=me) C (lJ hx (by unfold iu jh; omega)))
 refine rP 6 [0,1] (mc 2 U (mc 15 U I)) ?_
 refine cw (t:=119) U (bf fun A4=>?_) (bc fun A4=>?_)
 ·refine br 7 U<|RK L<|bT U<|WK p<|aw fun _ u=>WS fun _ FI=>gO 2 [0,1] (mc 4 U (mc 2 U I)) U<|rS (CL (vH l kA kC az cA cC bA bC x hin asm om) (aY [5,6,7,8]) U)<|AL U eI fun OW=>fF U dC U<|RK FI<|WS fun _ FS=>rP 5 [] (mc 0 U I) ?_
  refine RK FS<|cP U (bf fun D=>?_) (bc fun D=>?_)
  ·refine WK u<|aF<|rP 1 [] (mc 3 U I) ?_
   refine fz (vs:=(aG.cells x)) (cs':=(aG.cells x)) (C':=[_,_,_,_,_,_,_,_,_,_,_,_,_,_,_,_,(bU V 113 (aG.cells x)),_]) 16 U U U nc U U U U U U U<|aK<|aW<|KK AA ?_
   have J7:(aG.cells x)=(aG.cells (jM r.aj (i+1))):=by rw [iz hx]
   rw [J7]
   refine aF<|rP 2 [] I ?_
   refine aK ?_
   rw [show (bX l r.aj i)=(bX l r.aj (i+1)) from (m1 hx D).symm]
   have J8:(vI (((i+1):Nat):Int))=(vI ((i:Int)+1)):=by exact cI om
   refine bu (T ⟨(i+1),⟨om,jl A hx (by unfold iu jh; omega)⟩⟩ _ _ _ U os (c0 9<|bJ U J8<|eb.nil _) (aS [4,5,6,7,8,9,10,11,12,13,14,15,16,17]))
  obtain ⟨mb,Z⟩:=aO (bX l r.aj i) ((x.e6).toNat) om
  obtain ⟨ga,M⟩:=aO fb ((x.e6).toNat) om
  refine uc 17 Z M U U U ?_
  try dsimp only
  refine dh cu 10 kr<|qJ 1 U<|dS (SX (bK U U) U U)<|dP 4 [0,1] (mc 16 U (mc 5 U I)) ?_
  have KL:(List.map oC (cK fb l.aa.length))[(x.e6).toNat]? =some (oC (some ga)):=ng (j5 M)
  refine dS (IA ((x.e6).toNat) U (ag (n:=l.aa.length) 17 U sq) se dc om om) ?_
  refine dS (iY ((x.e6).toNat) 0 (Value.map (some ga)) U ct (ag (n:=(cK fb l.aa.length).length) 17 U sm) KL U dc U)<|mW 2 [] (mc 2 U I) U<|du<|gu (kV:=iV) (x:=(i:Int)) (C':=[(iB iV ga (b0 ik (c3 mb (i:Int) (dG l x)))),_,_,_,_,_,_,_,_,_,_,_,_,_,_,_,_,_,_]) 0 U U U U oO (fM pq) U (ei _ _ _ _).symm U<|RK u<|aF<|rP 1 [] (mc 5 U I) ?_
  refine fz (vs:=(aG.cells x)) (cs':=(aG.cells x)) (C':=[_,_,_,_,_,_,_,_,_,_,_,_,_,_,_,_,_,_,(bU V 113 (aG.cells x))]) 18 U U U nc U U U U U U U<|aK<|aW<|KK AA ?_
  have J5:(aG.cells x)=(aG.cells (jM r.aj (i+1))):=by rw [iz hx]
  rw [J5]
  refine aF<|rP 2 [] I ?_
  refine aK ?_
  refine vR (f:=na) (ms:=(bX l r.aj i)) (m:=(c3 mb (i:Int) (dG l x))) 1 0 (by rw [eE]; omega) M U U U ?_
  rw [oH hx om D Z]
  have J6:(vI (((i+1):Nat):Int))=(vI ((i:Int)+1)):=by exact cI om
  refine bu (T ⟨(i+1),⟨om,jl A hx (by unfold iu jh; omega)⟩⟩ _ _ _ U os (c0 9<|bJ U J6<|eb.nil _) (aS [5,6,7,8,9,10,11,12,13,14,15,16,17,0]))
 refine rP 7 [0,1] (mc 2 U (mc 15 U I)) ?_
 refine RK L<|cO U (bc fun A5=>?_) (bf fun A5=>?_)
 ·refine WS fun _ ER=>rP 2 [] I ?_
  refine RK ER<|ay<|LX hQ (false,51,0,none,0,none,0,[],[],[],none,0,[],[],none,0) [] [] I U (by rfl) U U ?_
  exact oJ<|pz (d_ (me:=me) C (lJ hx (by unfold iu jh; omega)))
 refine WK p<|aw fun _ s=>WS fun _ Eq=>gO 2 [0,1] (mc 4 U (mc 2 U I)) U<|rS (CL (vH l kA kC az cA cC bA bC x hin asm om) (aY [5,6,7,8]) U)<|AL U eI fun OV=>fF U dC U<|RK Eq<|WS fun _ E2=>rP 5 [] (mc 0 U I) ?_
 refine RK E2<|cP U (bf fun D=>?_) (bc fun D=>?_)
 ·refine WK s<|aF<|rP 1 [] (mc 3 U I) ?_
  refine fz (vs:=(aG.cells x)) (cs':=(aG.cells x)) (C':=[_,_,_,_,_,_,_,_,_,_,_,_,_,_,_,_,(bU V 113 (aG.cells x)),_]) 16 U U U nc U U U U U U U<|aK<|aW<|KK AA ?_
  have J3:(aG.cells x)=(aG.cells (jM r.aj (i+1))):=by rw [iz hx]
  rw [J3]
  refine aF<|rP 2 [] I ?_
  refine aK ?_
  rw [show (bX l r.aj i)=(bX l r.aj (i+1)) from (m1 hx D).symm]
  have J4:(vI (((i+1):Nat):Int))=(vI ((i:Int)+1)):=by exact cI om
  refine bu (T ⟨(i+1),⟨om,jl A hx (by unfold iu jh; omega)⟩⟩ _ _ _ U os (c0 9<|bJ U J4<|eb.nil _) (aS [4,5,6,7,8,9,10,11,12,13,14,15,16,17]))
 obtain ⟨mb,Z⟩:=aO (bX l r.aj i) ((x.e6).toNat) om
 obtain ⟨ga,M⟩:=aO fb ((x.e6).toNat) om
 refine uc 17 Z M U U U ?_
 try dsimp only
 refine dh cu 10 kr<|qJ 1 U<|dS (SX (bK U U) U U)<|dP 4 [0,1] (mc 16 U (mc 5 U I)) ?_
 have J9:(List.map oC (cK fb l.aa.length))[(x.e6).toNat]? =some (oC (some ga)):=ng (j5 M)
 refine dS (IA ((x.e6).toNat) U (ag (n:=l.aa.length) 17 U sq) se dc om om) ?_
 refine dS (iY ((x.e6).toNat) 0 (Value.map (some ga)) U ct (ag (n:=(cK fb l.aa.length).length) 17 U sm) J9 U dc U)<|mW 2 [] (mc 2 U I) U<|du<|gu (kV:=iV) (x:=(i:Int)) (C':=[(iB iV ga (b0 ik (c3 mb (i:Int) (dG l x)))),_,_,_,_,_,_,_,_,_,_,_,_,_,_,_,_,_,_]) 0 U U U U oO (fM pq) U (ei _ _ _ _).symm U<|RK s<|aF<|rP 1 [] (mc 5 U I) ?_
 refine fz (vs:=(aG.cells x)) (cs':=(aG.cells x)) (C':=[_,_,_,_,_,_,_,_,_,_,_,_,_,_,_,_,_,_,(bU V 113 (aG.cells x))]) 18 U U U nc U U U U U U U<|aK<|aW<|KK AA ?_
 have J1:(aG.cells x)=(aG.cells (jM r.aj (i+1))):=by rw [iz hx]
 rw [J1]
 refine aF<|rP 2 [] I ?_
 refine aK ?_
 refine vR (f:=na) (ms:=(bX l r.aj i)) (m:=(c3 mb (i:Int) (dG l x))) 1 0 (by rw [eE]; omega) M U U U ?_
 rw [oH hx om D Z]
 have J2:(vI (((i+1):Nat):Int))=(vI ((i:Int)+1)):=by exact cI om
 refine bu (T ⟨(i+1),⟨om,jl A hx (by unfold iu jh; omega)⟩⟩ _ _ _ U os (c0 9<|bJ U J2<|eb.nil _) (aS [5,6,7,8,9,10,11,12,13,14,15,16,17,0]))
end
section
open Go.RowKit
theorem we (l:bk) (kA:OA) (kC:Nat) (az:List RA) (cA:OA) (cC:Nat) (bA:OA) (bC:Nat) (r:cM) (sgA:OA) (sgC:Nat) (bq_:Int) (hin:eM l az) (hsl:r.aj.length≤1000000):
 c_ Tryz.prog 120 [(vA (cy.cells (kh l kA kC cA cC bA bC))),(vA (cS.cells (iv r sgA sgC))),(vI bq_)] [(rd kA l.aU.length 9 (l.aU.map av.cells)),(rd cA l.ar.length 2 (List.zipWith aB.cells l.ar az)),(dw (aX aB.gQ l.ar az)),(rd bA l.aa.length 4 (l.aa.map bD.cells)),(rd sgA r.aj.length 2 (r.aj.map aG.cells))] (vT [(vA (ab.cells (c4 l r bq_))),(vI (dp l r bq_))]):=by
 have Ja:=hin.vZ
 have IO:=hin.v7
 have GT:=hin.oL
 have HH:=hin.vW
 have JJ:=hin.side
 refine bq kr Tryz.func120 U U fun w0 Q hQ hN=>?_
 try dsimp only
 refine WS fun _ A2=>e8 U fun b2=>e8 U fun b3=>rJ U U fun b4=>AL U eI fun b5=>br 1 U<|RK A2<|WS fun _ p=>rP 2 [0,1] (mc 3 U (mc 2 U I)) ?_
 refine rS (FU U)<|dr (xs:=[.tmp 17]) (cs:=[(Value.func (.func 148) [].toArray [(vP b2),(vP b4)].toArray)]) U H_ Mp U U U U (by simp [Value.cells]) U U fun b7=>cX (G8 l kA kC az cA cC bA bC r sgA sgC (Value.func (.func 148) [].toArray [(vP b2),(vP b4)].toArray) (dw [(rd kA l.aU.length 9 (l.aU.map av.cells)),(rd cA l.ar.length 2 (List.zipWith aB.cells l.ar az)),(dw (aX aB.gQ l.ar az)),(rd bA l.aa.length 4 (l.aa.map bD.cells)),(bU b2 28 (cy.cells (kh l kA kC cA cC bA bC))),(bU b4 3 [(vI bq_)])]) (jo l bq_) b7 (by exact jd (fi:=[]) (ca:=[(vP b2),(vP b4)]) (ib (yv l kA kC az cA cC bA bC b2 bq_ b4 (by first|assumption|omega)) (aY [0,1,2,3,4,5]))) hin hsl) (m7 [5,6,7,8,9]<|ai (ij (aY [5,6,7,8,4,2]))<|dN 0 U U<|aH) U fun y8 Cu=>?_
 obtain ⟨Cx,Fk,E,H,AB,g,j,m,B,L,J,K,A,G,d,f⟩:=y8
 cases Cx
 ·obtain ⟨CV,he⟩:=Cu.2 rfl
  try dsimp only at CV he
  subst CV
  try dsimp only [cond_true,cond_false,List.cons_append,List.nil_append]
  refine br 5 U<|RK p<|aw fun _ Fn=>WS fun _ B3=>rP 2 [] I ?_
  refine RK B3<|cP U (bH fun A9=>?_) (bI fun A9=>?_)
  ·exact absurd A9 he
  refine WS fun _ B8=>rS (SX (aZ (xs:=[]) (cs:=(ab.cells (ab.mk 0 0))) U U (a_ jr U)) U U)<|br 1 U<|rL U dC U<|rP 1 [] I ?_
  refine RK B8<|ay<|qA hQ [0] (mc 1 U I) U ?_
  (have e:=kK (b:=bq_) he; rw [e.1,e.2]<;>rfl)
 obtain ⟨he,D,C,C3,C2,EQ⟩:=Cu.1 rfl
 try dsimp only [cond_true,cond_false,List.cons_append,List.nil_append]
 dsimp only at D C C3 C2 EQ
 obtain ⟨C1,A6,Do,Id⟩:=g7 he
 obtain ⟨ER,Ck⟩:=en C1
 have Di:=Ck.head
 unfold fP at Di
 have Eq:=j_ ER Ck A6
 have In:=A6.time
 have If:=A6.len
 have Ci:(cN l l.aa.length).length=l.aa.length:=cG
 have Cp:(bX l r.aj r.aj.length).length=l.aa.length:=eE
 have IR:B.length=l.aa.length+1:=by have:=D.len; rw [show (cr l r).n=l.aa.length from cG] at this; exact this
 have H1:A.length=l.aa.length+1:=by have:=C.len; rw [show (cr l r).n=l.aa.length from cG] at this; exact this
 obtain ⟨GV,Go⟩:=yp Do
 obtain ⟨b,A3⟩: ∃ b:Nat,bq_=(b:Int):=⟨bq_.toNat,om⟩
 rw [A3]
 refine br 5 U<|RK p<|aw fun _ N=>WS fun _ O=>br 1 U<|rS (SX (ef (r:= .bool false) U U U su) U U)<|RK O<|bT U<|WK N<|WS fun _ P=>rS (SX (aZ (xs:=[(0,.const (vI 1))]) (cs:=(ab.cells (ab.mk 1 0))) U U (a_ jr U)) U U)<|AL U eI fun A7=>fF U dC U<|RK P<|WS fun _ R=>gO 1 [] (mc 0 U I) U<|AL U eI fun A8=>fF U dC U<|RK R<|aw fun _ T=>WS fun _ AA=>rP 2 [] (mc 12 U I) ?_
 obtain ⟨mf,Y⟩:=aO B b om
 obtain ⟨mb,Z⟩:=aO A (b+1) om
 refine cX (CS E b) (aH) U fun FI Ft=>?_
 obtain ⟨AC,AO⟩:=FI
 try dsimp only
 refine RK AA<|aL ?_
 refine pR (L0:=[(3,(vP b2)),(4,(vP b3)),(5,(vP b4)),(6,(vP b5)),(7,(vI 0)),(10,(vP A7)),(11,(vP A8))]) (F:=[(own H AB 3 1 ((cN l l.aa.length).map iC)),(own g j 123 1 (List.zipWith eu (bX l r.aj r.aj.length) m)),(bx (aX na (bX l r.aj r.aj.length) m)),(own J K 279 1 (List.zipWith eu B L)),(bx (aX km B L)),(own d f 279 1 (List.zipWith eu A G)),(bx (aX km A G)),(bU E 276 (bE.cells (bE.mk (kh l kA kC cA cC bA bC) (iv r sgA sgC) (bj.mk H ((cN l l.aa.length).length) AB) (bj.mk g ((bX l r.aj r.aj.length).length) j) (bj.mk J B.length K) (bj.mk d A.length f)))),(bU AC 228 [(vP E)]),(bU AO 3 [(vI (b:Int))])]) (fun k (y:ab)=>(ki k y)∧(∀ q∈k,q∈nu (cr l r) b mf mb)) (fun k y=>[(bU A8 38 (ab.cells y)),(bU A7 38 (ab.cells (ab.mk 1 0))),(bU b5 38 (ab.cells (ab.mk 0 0))),(bU b4 3 [(vI (b:Int))]),(bU b3 41 (cS.cells (iv r sgA sgC))),(bU b2 28 (cy.cells (kh l kA kC cA cC bA bC))),(rd kA l.aU.length 9 (l.aU.map av.cells)).ro,(rd cA l.ar.length 2 (List.zipWith aB.cells l.ar az)).ro,(dw (aX aB.gQ l.ar az)).ro,(rd bA l.aa.length 4 (l.aa.map bD.cells)).ro,(rd sgA r.aj.length 2 (r.aj.map aG.cells)).ro]) (fun _ (_:Unit)=>False) (fun _ _=>[]) [2,3,13,14,15,16,17,18,19,20,21] [5,6,7,8,9,10,11,4,0,1] lV rfl rfl (AQ (kh l kA kC cA cC bA bC) (iv r sgA sgC) (cN l l.aa.length) (bX l r.aj r.aj.length) H AB m g j B A L J K G d f E b AC AO mf mb (by rw [Ci]; omega) (by exact Eq) (by rw [Cp]; omega) (by exact D) om (by exact C) om (by show r.aj.length≤1000; omega) (by exact Y) (by exact Z)) rfl rfl rfl (by exact ⟨wW,fun q hq=>by cases hq⟩) (by simp only [List.forall_mem_cons,List.not_mem_nil,false_imp_iff,implies_true,and_true]; exact ⟨⟨_,aP (i:=0) rfl,(jk sm)⟩,⟨_,aP (i:=1) rfl,(jk (by rw [List.length_zipWith]; omega))⟩,⟨_,aP (i:=2) rfl,nI⟩,⟨_,aP (i:=3) rfl,(jk (by rw [List.length_zipWith]; omega))⟩,⟨_,aP (i:=4) rfl,nI⟩,⟨_,aP (i:=5) rfl,(jk (by rw [List.length_zipWith]; omega))⟩,⟨_,aP (i:=6) rfl,nI⟩,⟨_,aP (i:=7) rfl,(bR _)⟩,⟨_,aP (i:=8) rfl,(bR _)⟩,⟨_,aP (i:=9) rfl,(bR _)⟩⟩) (by rintro k x k2 ⟨o,_,rfl,_⟩; rfl) rfl (bw rfl) ?_ ?_ (fun _ _ _ h=>h.elim) (fun _ _ h=>h.elim)
 ·rintro k x k2 h lr ra rb S w1 K41 Qr42 JR hx A4 B9 X E2 FS
  obtain ⟨q,hq,rfl,rfl⟩:=hx
  obtain ⟨a,c⟩:=A4
  try dsimp only
  refine aF<|AL U eI fun GE=>fF U dC U<|aK<|jL (fun _ _ h=>h) (aS [1,0,2,3,4,5,6,7,8,9,10,11,12])<|bu (B9 _ _ ?_)
  refine aL<|aw fun _ s=>WS fun _ CK=>rP 2 [0,1] (mc 2 U (mc 3 U I)) ?_
  refine rS (BI U (KB _ _ h (ab.mk 1 0)))<|RK CK<|cP U (bH fun M=>?_) (bI fun M=>?_)
  ·refine WK s<|aF<|rP 1 [] (mc 1 U I) ?_
   refine Jl U dC U<|aK<|aW ?_
   exact X q.2 _ _ (by refine ⟨uj a (mL hq) ?_,fun z hz=>?_⟩; (first|exact if_neg M|exact if_pos M); (rcases gn.1 hz with hz|hz; exact c z hz; (rw [bW.1 hz]; exact hq))) (aS [0,2,3,4,5,6,7,8,9,10,11,12])
  refine aF<|gO 4 [0,1] (mc 1 U (mc 2 U I)) U<|rS (MN U)<|gO 4 [0,1] (mc 1 U (mc 2 U I)) U<|rS (MX U)<|rS (SX (aZ (xs:=[(0,.tmp 40),(1,.tmp 45)]) (cs:=(ab.cells (ab.mk (min q.2.Lo h.Lo) (max q.2.Hi h.Hi)))) U U (a_ jr U)) U U)<|rL U dC U<|RK s<|aF<|rP 1 [] (mc 1 U I) ?_
  refine Jl U dC U<|aK<|aW ?_
  exact X (ab.mk (min q.2.Lo h.Lo) (max q.2.Hi h.Hi)) _ _ (by refine ⟨uj a (mL hq) ?_,fun z hz=>?_⟩; (first|exact if_neg M|exact if_pos M); (rcases gn.1 hz with hz|hz; exact c z hz; (rw [bW.1 hz]; exact hq))) (aS [0,2,3,4,5,6,7,8,9,10,11,12])
 rintro J1 k h v A5
 obtain ⟨a,c⟩:=A5
 try dsimp only
 refine aW<|KK T<|aw fun _ V=>WS fun _ W=>rP 2 [0,1] (mc 11 U (mc 12 U I)) ?_
 refine rS (BI U (uz _ _ h (ab.mk 1 0)))<|RK W<|cP U (bf fun A1=>?_) (bc fun A1=>?_)
 ·refine WK V<|WS fun _ u=>gO 1 [] (mc 11 U I) U<|fz (vs:=(ab.cells h)) (cs':=(ab.cells h)) (C':=[_,_,_,_,_,_,_,_,_,_,_,_,_,(bU b5 38 (ab.cells h)),_,_,_,_,_,_,_,_]) 13 U U U dC U U U U U U U<|rP 1 [] I ?_
  refine RK u<|ay<|hQ _ _ _ (nB 0 U U<|ig (vs:=[(vA (ab.cells h)),(vI 0)]) ⟨⟨_,U,.inl ⟨_,_,ct,mT (vs:=(ab.cells h)) 13 U U,U,U⟩⟩,U,trivial⟩ fun w hs=>wE ?_ hs)
  show (vT [(vA (ab.cells h)),(vI 0)])=(vT [(vA (ab.cells (c4 l r bq_))),(vI (dp l r bq_))])
  clear hs w hQ hN u W V AA T R P O N p A2
  (rw [A3] at he ⊢; have hh:h=kQ l r b:=uA (D.min _ _ Y) (C.max _ _ Z) (D.keys _ _ Y) (C.keys _ _ Z) c v a; (have e:=qW he (fun q=>A1 (hh.trans q)); rw [e.1,e.2,hh]<;>rfl))
 refine WS fun _ t=>rS (SX (aZ (xs:=[]) (cs:=(ab.cells (ab.mk 0 0))) U U (a_ jr U)) U U)<|fz (vs:=(ab.cells (ab.mk 0 0))) (cs':=(ab.cells (ab.mk 0 0))) (C':=[_,_,_,_,_,_,_,_,_,_,_,_,_,(bU b5 38 (ab.cells (ab.mk 0 0))),_,_,_,_,_,_,_,_]) 13 U U U dC U U U U U U U<|rP 1 [] I ?_
 refine RK t<|ay<|hQ _ _ _ (nB 0 U U<|ig (vs:=[(vA (ab.cells (ab.mk 0 0))),(vI 6)]) ⟨⟨_,U,.inl ⟨_,_,ct,mT (vs:=(ab.cells (ab.mk 0 0))) 13 U U,U,U⟩⟩,U,trivial⟩ fun w hs=>wE ?_ hs)
 show (vT [(vA (ab.cells (ab.mk 0 0))),(vI 6)])=(vT [(vA (ab.cells (c4 l r bq_))),(vI (dp l r bq_))])
 clear hs w hQ hN t W V AA T R P O N p A2
 (rw [A3] at he ⊢; have hh:h=kQ l r b:=uA (D.min _ _ Y) (C.max _ _ Z) (D.keys _ _ Y) (C.keys _ _ Z) c v a; (have e:=xG he (hh.symm.trans A1); rw [e.1,e.2]<;>rfl))
theorem Mf (l:bk) (kA:OA) (kC:Nat) (az:List RA) (cA:OA) (cC:Nat) (bA:OA) (bC:Nat) (r:cM) (sgA:OA) (sgC:Nat) (hin:eM l az) (hsl:r.aj.length≤1000000):
 c_ Tryz.prog 245 [(vA (cy.cells (kh l kA kC cA cC bA bC))),(vA (cS.cells (iv r sgA sgC)))] [(rd kA l.aU.length 9 (l.aU.map av.cells)),(rd cA l.ar.length 2 (List.zipWith aB.cells l.ar az)),(dw (aX aB.gQ l.ar az)),(rd bA l.aa.length 4 (l.aa.map bD.cells)),(rd sgA r.aj.length 2 (r.aj.map aG.cells))] (vT [(vA (ab.cells (yD l r))),(vI (dp l r l.cj))]):=by
 have N:=hin.vZ
 have J:=hin.v7
 have H:=hin.oL
 have AA:=hin.vW
 have M:=hin.side
 refine bq kr Tryz.func245 U U fun T Q hQ hN=>?_
 try dsimp only
 refine WS fun _ C=>e8 U fun O=>e8 U fun P=>AL U eI fun R=>br 1 U<|RK C<|WS fun _ D=>gO 4 [0,1] (mc 2 U (mc 1 U I)) U<|rS (CL (we l kA kC az cA cC bA bC r sgA sgC l.cj hin hsl) (aY [3,4,5,6,7]) U)<|br 3 U<|AL U eI fun S=>fF U dC U<|br 1 U<|RK D<|aw fun _ E=>WS fun _ F=>rP 2 [] I ?_
 refine RK F<|cO U (bI fun A=>?_) (bH fun A=>?_)
 ·refine WS fun _ G=>rS (SX (aZ (xs:=[]) (cs:=(ab.cells (ab.mk 0 0))) U U (a_ jr U)) U U)<|br 1 U<|rL U dC U<|rP 1 [] I ?_
  refine RK G<|ay<|qA hQ [0] (mc 1 U I) U ?_
  (rw [Ke A]<;>rfl)
 refine WK E<|WS fun _ B=>rP 4 [0,1] (mc 0 U (mc 2 U I)) ?_
 have K:=sc A
 have L:=(rh A).time
 refine gO 6 [0,1] (mc 0 U (mc 2 U I)) U<|rS (SX (aZ (xs:=[(0,.tmp 24),(1,.tmp 29)]) (cs:=(ab.cells (ab.mk (((c4 l r l.cj).Lo)-r.Start) (((c4 l r l.cj).Hi)-r.Start)))) U U (a_ jr U)) U U)<|rL U dC U<|rP 1 [] I ?_
 refine RK B<|ay<|qA hQ [0] (mc 1 U I) U ?_
 (rw [yf A,A]<;>rfl)
end
section
open Go.RowKit
theorem Hf (l:bk) (kA:OA) (kC:Nat) (az:List RA) (cA:OA) (cC:Nat) (bA:OA) (bC:Nat) (d:aq) (sgA:OA) (sgC:Nat) (hin:eM l az):
 c_ Tryz.prog 238 [(vA (cy.cells (kh l kA kC cA cC bA bC))),(vA (aJ.cells (aJ.mk d.Out d.cZ d.Time (iv d.ba sgA sgC))))] [(rd kA l.aU.length 9 (l.aU.map av.cells)),(rd cA l.ar.length 2 (List.zipWith aB.cells l.ar az)),(dw (aX aB.gQ l.ar az)),(rd bA l.aa.length 4 (l.aa.map bD.cells)),(rd sgA d.ba.aj.length 2 (d.ba.aj.map aG.cells))] (vT [(vA (ab.cells d.Time)),(vB (decide (d.cZ=false∧d.Time=dT∧ni d.ba)))]):=by
 refine bq kr Tryz.func238 U U fun K Q hQ hN=>?_
 try dsimp only
 refine WS fun _ B=>e8 U fun H=>e8 U fun AA=>AL U eI fun J=>rP 1 [] I ?_
 refine RK B<|aw fun _ A=>dE cu [15] [] [] [1,2,3,4,5,6,7] [] U U U U U<|eS U (FA 2 U fc U)<|eS U (LP (ab.cells d.Time) 0 U ct U U U)<|eS U (FA 1 U fc U)<|eS U (L1 (vB d.cZ) 0 U ct U U)<|eS U (NT U)<|eS U (MV U)<|rI (t:=11) U (fun G=>?_) (fun G=>?_)
 rotate_left 1
 ·rw [Bool.not_eq_false'] at G
  refine eS U (OX U)<|eS U (OX U)<|eS U (OX U)<|eS U (OX U)<|eS U (PK U)<|eS U (MV U)<|eS U (OX U)<|eS U (OX U)<|eS U (PK U)<|eS U (AG U)<|er U<|cb U fun T10 C=>fF U dC U<|aK (C _ _ (aS [1,2,3,4,5,6,7]) ?_)
  refine fD U<|KK A<|ay<|qA hQ [0] (mc 0 U I) U ?_
  clear hQ hN C T10 A B
  refine congrArg (fun z=>Value.tuple #[_,vB z]) ?_
  first|rfl|(simp_all [dT]; done)
 rw [Bool.not_eq_true'] at G
 refine eS U (FA 2 U fc U)<|eS U (LP (ab.cells d.Time) 0 U ct U U U)<|eS U (SX (aZ (xs:=[]) (cs:=(ab.cells (ab.mk 0 0))) U U (a_ jr U)) U U)<|eS U (BI U (uz _ _ d.Time (ab.mk 0 0)))<|eS U (PK U)<|eS U (MV U)<|rI (t:=17) U (fun D=>?_) (fun D=>?_)
 rotate_left 1
 ·replace D:=DF D
  refine eS U (OX U)<|eS U (OX U)<|eS U (PK U)<|eS U (AG U)<|er U<|cb U fun T9 F=>fF U dC U<|aK (F _ _ (aS [1,2,3,4,5,6,7]) ?_)
  refine fD U<|KK A<|ay<|qA hQ [0] (mc 0 U I) U ?_
  clear hQ hN F T9 A B
  refine congrArg (fun z=>Value.tuple #[_,vB z]) ?_
  first|rfl|(simp_all [dT]; done)
 replace D:=DT D
 refine eS U (LW 0 U ct U U)<|eS U (CL (Dz d sgA sgC) (aY [6]) U)<|eS U (PK U)<|eS U (AG U)<|er U<|cb U fun T8 E=>fF U dC U<|aK (E _ _ (aS [1,2,3,4,5,6,7]) ?_)
 refine fD U<|KK A<|ay<|qA hQ [0] (mc 0 U I) U ?_
 clear hQ hN E T8 A B
 refine congrArg (fun z=>Value.tuple #[_,vB z]) ?_
 first|rfl|(simp_all [dT]; done)
theorem GL (l:bk) (kA:OA) (kC:Nat) (az:List RA) (cA:OA) (cC:Nat) (bA:OA) (bC:Nat) (d:aq) (sgA:OA) (sgC:Nat) (hin:eM l az):
 c_ Tryz.prog 241 [(vA (cy.cells (kh l kA kC cA cC bA bC))),(vA (aJ.cells (aJ.mk d.Out d.cZ d.Time (iv d.ba sgA sgC))))] [(rd kA l.aU.length 9 (l.aU.map av.cells)),(rd cA l.ar.length 2 (List.zipWith aB.cells l.ar az)),(dw (aX aB.gQ l.ar az)),(rd bA l.aa.length 4 (l.aa.map bD.cells)),(rd sgA d.ba.aj.length 2 (d.ba.aj.map aG.cells))] (vT [(vA (ab.cells d.Time)),(vB (decide (m6 d.Time∧ni d.ba)))]):=by
 refine bq kr Tryz.func241 U U fun AA Q hQ hN=>?_
 try dsimp only
 refine WS fun _ B=>e8 U fun F=>e8 U fun G=>AL U eI fun H=>rP 1 [] I ?_
 refine RK B<|aw fun _ A=>dE cu [9] [] [] [1,2,3,4,5,6,7] [] U U U U U<|eS U (FA 2 U fc U)<|eS U (LP (ab.cells d.Time) 0 U ct U U U)<|eS U (FA 2 U fc U)<|eS U (LP (ab.cells d.Time) 0 U ct U U U)<|eS U (CL (Ho d.Time) (aH) U)<|eS U (MV U)<|rI (t:=11) U (fun C=>?_) (fun C=>?_)
 rotate_left 1
 ·replace C:=DF C
  refine eS U (OX U)<|eS U (OX U)<|eS U (PK U)<|eS U (AG U)<|er U<|cb U fun T8 E=>fF U dC U<|aK (E _ _ (aS [1,2,3,4,5,6,7]) ?_)
  refine fD U<|KK A<|ay<|qA hQ [0] (mc 0 U I) U ?_
  clear hQ hN E T8 A B
  refine congrArg (fun z=>Value.tuple #[_,vB z]) ?_
  first|rfl|(simp_all; done)
 replace C:=DT C
 refine eS U (LW 0 U ct U U)<|eS U (CL (Dz d sgA sgC) (aY [6]) U)<|eS U (PK U)<|eS U (AG U)<|er U<|cb U fun T7 D=>fF U dC U<|aK (D _ _ (aS [1,2,3,4,5,6,7]) ?_)
 refine fD U<|KK A<|ay<|qA hQ [0] (mc 0 U I) U ?_
 clear hQ hN D T7 A B
 refine congrArg (fun z=>Value.tuple #[_,vB z]) ?_
 first|rfl|(simp_all; done)
theorem Hv (l:bk) (kA:OA) (kC:Nat) (az:List RA) (cA:OA) (cC:Nat) (bA:OA) (bC:Nat) (d:aq) (sgA:OA) (sgC:Nat) (hin:eM l az) (hsl:d.ba.aj.length≤1000000):
 c_ Tryz.prog 244 [(vA (cy.cells (kh l kA kC cA cC bA bC))),(vA (aJ.cells (aJ.mk d.Out d.cZ d.Time (iv d.ba sgA sgC))))] [(rd kA l.aU.length 9 (l.aU.map av.cells)),(rd cA l.ar.length 2 (List.zipWith aB.cells l.ar az)),(dw (aX aB.gQ l.ar az)),(rd bA l.aa.length 4 (l.aa.map bD.cells)),(rd sgA d.ba.aj.length 2 (d.ba.aj.map aG.cells))] (vT [(vA (ab.cells (yD l d.ba))),(vB (decide (dp l d.ba l.cj=0∧d.Time=dT)))]):=by
 have K:=hin.vZ
 have AA:=hin.v7
 have G:=hin.oL
 have H:=hin.vW
 have J:=hin.side
 refine bq kr Tryz.func244 U U fun P Q hQ hN=>?_
 try dsimp only
 refine WS fun _ C=>e8 U fun L=>e8 U fun M=>AL U eI fun N=>br 1 U<|RK C<|WS fun _ D=>gO 2 [] (mc 2 U I) U<|rS (LP (cS.cells (iv d.ba sgA sgC)) 1 U ct U U U)<|rS (CL (Mf l kA kC az cA cC bA bC d.ba sgA sgC hin hsl) (aY [3,4,5,6,7]) U)<|br 3 U<|AL U eI fun O=>fF U dC U<|rP 1 [] I ?_
 refine RK D<|aw fun _ A=>dE cu [9] [] [] [0,2,3,4,5,6,7,8] [] U U U U U<|eS U (LW 0 U ct U U)<|eS U (MV U)<|eS U (BI U s_)<|eS U (MV U)<|rI (t:=18) U (fun E=>?_) (fun E=>?_)
 rotate_left 1
 ·replace E:=DF E
  refine eS U (OX U)<|eS U (OX U)<|eS U (OX U)<|eS U (OX U)<|eS U (PK U)<|eS U (AG U)<|er U<|cb U fun T10 B=>rL U dC U<|aK (B _ _ (aS [0,2,3,4,5,6,7,8]) ?_)
  refine fD U<|KK A<|ay<|qA hQ [0] (mc 1 U I) U ?_
  clear hQ hN B T10 A D C
  refine congrArg (fun z=>Value.tuple #[_,vB z]) ?_
  first|rfl|(simp_all [dT]; done)
 replace E:=DT E
 refine eS U (FA 2 U fc U)<|eS U (LP (ab.cells d.Time) 1 U ct U U U)<|eS U (SX (aZ (xs:=[]) (cs:=(ab.cells (ab.mk 0 0))) U U (a_ jr U)) U U)<|eS U (BI U (uz _ _ d.Time (ab.mk 0 0)))<|eS U (PK U)<|eS U (AG U)<|er U<|cb U fun T9 F=>rL U dC U<|aK (F _ _ (aS [0,2,3,4,5,6,7,8]) ?_)
 refine fD U<|KK A<|ay<|qA hQ [0] (mc 1 U I) U ?_
 clear hQ hN F T9 A D C
 refine congrArg (fun z=>Value.tuple #[_,vB z]) ?_
 first|rfl|(simp_all [dT]; done)
theorem AY (d:aq) (sgA:OA) (sgC g1:Nat):
 c_ Tryz.prog 113 [(vA (kn.cells (kn.mk (Value.func (.func 237) [].toArray [].toArray) (Value.func (.func 238) [].toArray [].toArray)))),(vP g1)] [(rd sgA d.ba.aj.length 2 (d.ba.aj.map aG.cells)),(bU g1 43 (aJ.cells (aJ.mk d.Out d.cZ d.Time (iv d.ba sgA sgC))))] (vB d.Out):=by
 refine bq kr Tryz.func113 U U fun D Q hQ hN=>?_
 try dsimp only
 refine WS fun _ A=>e8 U fun C=>br 1 U<|RK A<|WS fun _ B=>gO 3 [0,1] (mc 0 U (mr 2 U I)) U<|rS (CL (ME d sgA sgC) (aY [1]) U)<|rP 1 [] I ?_
 refine RK B<|ay<|Q1 hQ U U U ?_
 rfl
theorem Cy (d:aq) (sgA:OA) (sgC g1:Nat):
 c_ Tryz.prog 113 [(vA (kn.cells (kn.mk (Value.func (.func 240) [].toArray [].toArray) (Value.func (.func 241) [].toArray [].toArray)))),(vP g1)] [(rd sgA d.ba.aj.length 2 (d.ba.aj.map aG.cells)),(bU g1 43 (aJ.cells (aJ.mk d.Out d.cZ d.Time (iv d.ba sgA sgC))))] (vB d.cZ):=by
 refine bq kr Tryz.func113 U U fun D Q hQ hN=>?_
 try dsimp only
 refine WS fun _ A=>e8 U fun C=>br 1 U<|RK A<|WS fun _ B=>gO 3 [0,1] (mc 0 U (mr 2 U I)) U<|rS (CL (Ln d sgA sgC) (aY [1]) U)<|rP 1 [] I ?_
 refine RK B<|ay<|Q1 hQ U U U ?_
 rfl
theorem Bx (d:aq) (sgA:OA) (sgC g1:Nat):
 c_ Tryz.prog 113 [(vA (kn.cells (kn.mk (Value.func (.func 243) [].toArray [].toArray) (Value.func (.func 244) [].toArray [].toArray)))),(vP g1)] [(rd sgA d.ba.aj.length 2 (d.ba.aj.map aG.cells)),(bU g1 43 (aJ.cells (aJ.mk d.Out d.cZ d.Time (iv d.ba sgA sgC))))] (vB true):=by
 refine bq kr Tryz.func113 U U fun D Q hQ hN=>?_
 try dsimp only
 refine WS fun _ A=>e8 U fun C=>br 1 U<|RK A<|WS fun _ B=>gO 3 [0,1] (mc 0 U (mr 2 U I)) U<|rS (CL (KM d sgA sgC) (aY [1]) U)<|rP 1 [] I ?_
 refine RK B<|ay<|Q1 hQ U U U ?_
 rfl
end
section
open Go.RowKit
theorem sR (d:aq) (sgA:OA) (sgC g1:Nat):
 c_ Tryz.prog 112 [(vS ek 3 3),(Value.func (.func 113) [].toArray [(vP g1)].toArray)] [(rd ek 3 2 dH),(rd sgA d.ba.aj.length 2 (d.ba.aj.map aG.cells)),(bU g1 43 (aJ.cells (aJ.mk d.Out d.cZ d.Time (iv d.ba sgA sgC))))] (vI (l5 d)):=by
 refine bq kr Tryz.func112 U U fun b Q hQ hN=>?_
 try dsimp only
 refine WS fun _ F=>br 1 U<|RK F<|aw fun _ AA=>WS fun _ G=>br 3 U<|RK G<|aL<|nO 4<|iX fun R4 Z=>WS fun _ H=>rS (SX (ef (r:= .bool true) U U U nv) U U)<|RK H<|aw fun _ AB=>bo U<|WK AB<|aw fun _ J=>aL<|WS fun _ K=>br 2 U<|RK K<|WS fun _ L=>rP 3 [] I ?_
 refine rS (IA 0 U (aQ 0 U) Fh dc U om)<|rS (nz 0 0 (kn.cells (kn.mk (Value.func (.func 237) [].toArray [].toArray) (Value.func (.func 238) [].toArray [].toArray))) U ct (aQ 0 U) (show dH[0]? =some [(Value.func (.func 237) [].toArray [].toArray),(Value.func (.func 238) [].toArray [].toArray)] from U) U dc U U)<|rS (CL (AY d sgA sgC g1) (aY [1,2]) U)<|RK L<|cO U (fun X=>?_) (fun X=>?_)
 ·refine WS fun _ M=>rP 2 [] I ?_
  refine RK M<|ay<|Q1 hQ U U U ?_
  clear hQ hN M L K J AB H G AA F
  refine cI ?_
  simp [l5, *]
 refine cT<|aW<|KK J<|aF<|rS (SX (ef (r:= .int .i64 1) U U U (ly ⟨dc,dc⟩)) U U)<|br 1 U<|RK Z<|iX fun R12 W=>WS fun _ A=>rS (SX (ef (r:= .bool true) U U U nv) U U)<|RK A<|aw fun _ B=>bo U<|WK B<|aw fun _ C=>aL<|WS fun _ D=>br 2 U<|RK D<|WS fun _ E=>rP 3 [] I ?_
 refine rS (IA 1 U (aQ 0 U) Fh dc U om)<|rS (nz 1 0 (kn.cells (kn.mk (Value.func (.func 240) [].toArray [].toArray) (Value.func (.func 241) [].toArray [].toArray))) U ct (aQ 0 U) (show dH[1]? =some [(Value.func (.func 240) [].toArray [].toArray),(Value.func (.func 241) [].toArray [].toArray)] from U) U dc U U)<|rS (CL (Cy d sgA sgC g1) (aY [1,2]) U)<|RK E<|cO U (fun Y=>?_) (fun Y=>?_)
 ·refine WS fun _ N=>rP 2 [] I ?_
  refine RK N<|ay<|Q1 hQ U U U ?_
  clear hQ hN N E D C B A L K J AB H G AA F
  refine cI ?_
  simp [l5, *]
 refine cT<|aW<|KK C<|aF<|rS (SX (ef (r:= .int .i64 2) U U U (ly ⟨dc,dc⟩)) U U)<|br 1 U<|RK W<|iX fun R20 a=>WS fun _ O=>rS (SX (ef (r:= .bool true) U U U nv) U U)<|RK O<|aw fun _ P=>bo U<|WK P<|aw fun _ V=>aL<|WS fun _ R=>br 2 U<|RK R<|WS fun _ S=>br 3 U<|rS (IA 2 U (aQ 0 U) Fh dc U om)<|rS (nz 2 0 (kn.cells (kn.mk (Value.func (.func 243) [].toArray [].toArray) (Value.func (.func 244) [].toArray [].toArray))) U ct (aQ 0 U) (show dH[2]? =some [(Value.func (.func 243) [].toArray [].toArray),(Value.func (.func 244) [].toArray [].toArray)] from U) U dc U U)<|rS (CL (Bx d sgA sgC g1) (aY [1,2]) U)<|RK S<|bo U<|WS fun _ T=>rP 2 [] I ?_
 refine RK T<|ay<|Q1 hQ U U U ?_
 clear hQ hN T S R V P O E D C B A L K J AB H G AA F
 refine cI ?_
 simp [l5, *]
end
section
open Go.RowKit
theorem KE (d:aq) (sgA:OA) (sgC g1:Nat) (hk:d.Out=true):
 c_ Tryz.prog 112 [(vS ek 3 3),(Value.func (.func 113) [].toArray [(vP g1)].toArray)] [(rd ek 3 2 dH),(rd sgA d.ba.aj.length 2 (d.ba.aj.map aG.cells)),(bU g1 43 (aJ.cells (aJ.mk d.Out d.cZ d.Time (iv d.ba sgA sgC))))] (vI 0):=by
 have h:=sR d sgA sgC g1
 have e:l5 d=0:=by simp [l5,hk]
 rw [e] at h
 exact h
theorem Lv (d:aq) (sgA:OA) (sgC g1:Nat) (hk:d.Out=false∧d.cZ=true):
 c_ Tryz.prog 112 [(vS ek 3 3),(Value.func (.func 113) [].toArray [(vP g1)].toArray)] [(rd ek 3 2 dH),(rd sgA d.ba.aj.length 2 (d.ba.aj.map aG.cells)),(bU g1 43 (aJ.cells (aJ.mk d.Out d.cZ d.Time (iv d.ba sgA sgC))))] (vI 1):=by
 have h:=sR d sgA sgC g1
 have e:l5 d=1:=by simp [l5,hk]
 rw [e] at h
 exact h
theorem KU (d:aq) (sgA:OA) (sgC g1:Nat) (hk:d.Out=false∧d.cZ=false):
 c_ Tryz.prog 112 [(vS ek 3 3),(Value.func (.func 113) [].toArray [(vP g1)].toArray)] [(rd ek 3 2 dH),(rd sgA d.ba.aj.length 2 (d.ba.aj.map aG.cells)),(bU g1 43 (aJ.cells (aJ.mk d.Out d.cZ d.Time (iv d.ba sgA sgC))))] (vI 2):=by
 have h:=sR d sgA sgC g1
 have e:l5 d=2:=by simp [l5,hk]
 rw [e] at h
 exact h
theorem xe (l:bk) (kA:OA) (kC:Nat) (az:List RA) (cA:OA) (cC:Nat) (bA:OA) (bC:Nat) (d:aq) (sgA:OA) (sgC:Nat) (hin:eM l az) (hsl:d.ba.aj.length≤1000000) (hk:d.Out=true):
 c_ Tryz.prog 91 [(vA (cy.cells (kh l kA kC cA cC bA bC))),(vA (aJ.cells (aJ.mk d.Out d.cZ d.Time (iv d.ba sgA sgC))))] [(rd ek 3 2 dH),(rd kA l.aU.length 9 (l.aU.map av.cells)),(rd cA l.ar.length 2 (List.zipWith aB.cells l.ar az)),(dw (aX aB.gQ l.ar az)),(rd bA l.aa.length 4 (l.aa.map bD.cells)),(rd sgA d.ba.aj.length 2 (d.ba.aj.map aG.cells))] (vT [(vA (ab.cells (fr l d))),(vB (decide (hZ l d)))]):=by
 refine bq kr Tryz.func91 U U fun AA Q hQ hN=>?_
 try dsimp only
 refine WS fun _ A=>e8 U fun G=>e8 U fun D=>AL U eI fun H=>br 1 U<|RK A<|WS fun _ B=>rS (SX (yQ U U uB) U U)<|rS (FU U)<|rS (CL (KE d sgA sgC D hk) (JD 3 8 1 U U U U U U) U)<|br 1 U<|RK B<|aw fun _ C=>dh cu 9 kr<|qJ 1 U<|dS (SX (yz (k:=0) U U U uB U om) U U)<|dS (x9 ((0*2)+1) U (aQ 3 U) (Nat.mul_pos om dc) fc U)<|dS (iY 0 1 (Value.func (.func 238) [].toArray [].toArray) U ct (aQ 3 U) (show dH[0]? =some [(Value.func (.func 237) [].toArray [].toArray),(Value.func (.func 238) [].toArray [].toArray)] from U) U dc U)<|mW 2 [0,1] (mc 2 U (mc 1 U I)) U<|dS (CL (Hf l kA kC az cA cC bA bC d sgA sgC hin) (aY [4,5,6,7,8]) U)<|qJ 2 U<|du<|fF U dC U<|rP 1 [] I ?_
 refine RK C<|ay<|qA hQ [0] (mc 0 U I) U ?_
 have E:=Hj (l:=l) hk
 have F:=EK (l:=l) hk
 simp only [E,F]
theorem wb (l:bk) (kA:OA) (kC:Nat) (az:List RA) (cA:OA) (cC:Nat) (bA:OA) (bC:Nat) (d:aq) (sgA:OA) (sgC:Nat) (hin:eM l az) (hsl:d.ba.aj.length≤1000000) (hk:d.Out=false∧d.cZ=true):
 c_ Tryz.prog 91 [(vA (cy.cells (kh l kA kC cA cC bA bC))),(vA (aJ.cells (aJ.mk d.Out d.cZ d.Time (iv d.ba sgA sgC))))] [(rd ek 3 2 dH),(rd kA l.aU.length 9 (l.aU.map av.cells)),(rd cA l.ar.length 2 (List.zipWith aB.cells l.ar az)),(dw (aX aB.gQ l.ar az)),(rd bA l.aa.length 4 (l.aa.map bD.cells)),(rd sgA d.ba.aj.length 2 (d.ba.aj.map aG.cells))] (vT [(vA (ab.cells (fr l d))),(vB (decide (hZ l d)))]):=by
 refine bq kr Tryz.func91 U U fun AA Q hQ hN=>?_
 try dsimp only
 refine WS fun _ A=>e8 U fun G=>e8 U fun D=>AL U eI fun H=>br 1 U<|RK A<|WS fun _ B=>rS (SX (yQ U U uB) U U)<|rS (FU U)<|rS (CL (Lv d sgA sgC D hk) (JD 3 8 1 U U U U U U) U)<|br 1 U<|RK B<|aw fun _ C=>dh cu 9 kr<|qJ 1 U<|dS (SX (yz (k:=1) U U U uB U om) U U)<|dS (x9 ((1*2)+1) U (aQ 3 U) (Nat.mul_pos om dc) fc U)<|dS (iY 1 1 (Value.func (.func 241) [].toArray [].toArray) U ct (aQ 3 U) (show dH[1]? =some [(Value.func (.func 240) [].toArray [].toArray),(Value.func (.func 241) [].toArray [].toArray)] from U) U dc U)<|mW 2 [0,1] (mc 2 U (mc 1 U I)) U<|dS (CL (GL l kA kC az cA cC bA bC d sgA sgC hin) (aY [4,5,6,7,8]) U)<|qJ 2 U<|du<|fF U dC U<|rP 1 [] I ?_
 refine RK C<|ay<|qA hQ [0] (mc 0 U I) U ?_
 have E:=HB (l:=l) hk
 have F:=s5 (l:=l) hk
 simp only [E,F]
theorem wy (l:bk) (kA:OA) (kC:Nat) (az:List RA) (cA:OA) (cC:Nat) (bA:OA) (bC:Nat) (d:aq) (sgA:OA) (sgC:Nat) (hin:eM l az) (hsl:d.ba.aj.length≤1000000) (hk:d.Out=false∧d.cZ=false):
 c_ Tryz.prog 91 [(vA (cy.cells (kh l kA kC cA cC bA bC))),(vA (aJ.cells (aJ.mk d.Out d.cZ d.Time (iv d.ba sgA sgC))))] [(rd ek 3 2 dH),(rd kA l.aU.length 9 (l.aU.map av.cells)),(rd cA l.ar.length 2 (List.zipWith aB.cells l.ar az)),(dw (aX aB.gQ l.ar az)),(rd bA l.aa.length 4 (l.aa.map bD.cells)),(rd sgA d.ba.aj.length 2 (d.ba.aj.map aG.cells))] (vT [(vA (ab.cells (fr l d))),(vB (decide (hZ l d)))]):=by
 refine bq kr Tryz.func91 U U fun AA Q hQ hN=>?_
 try dsimp only
 refine WS fun _ A=>e8 U fun G=>e8 U fun D=>AL U eI fun H=>br 1 U<|RK A<|WS fun _ B=>rS (SX (yQ U U uB) U U)<|rS (FU U)<|rS (CL (KU d sgA sgC D hk) (JD 3 8 1 U U U U U U) U)<|br 1 U<|RK B<|aw fun _ C=>dh cu 9 kr<|qJ 1 U<|dS (SX (yz (k:=2) U U U uB U om) U U)<|dS (x9 ((2*2)+1) U (aQ 3 U) (Nat.mul_pos om dc) fc U)<|dS (iY 2 1 (Value.func (.func 244) [].toArray [].toArray) U ct (aQ 3 U) (show dH[2]? =some [(Value.func (.func 243) [].toArray [].toArray),(Value.func (.func 244) [].toArray [].toArray)] from U) U dc U)<|mW 2 [0,1] (mc 2 U (mc 1 U I)) U<|dS (CL (Hv l kA kC az cA cC bA bC d sgA sgC hin hsl) (aY [4,5,6,7,8]) U)<|qJ 2 U<|du<|fF U dC U<|rP 1 [] I ?_
 refine RK C<|ay<|qA hQ [0] (mc 0 U I) U ?_
 have E:=Hy (l:=l) hk
 have F:=xo (l:=l) hk
 simp only [E,F]
theorem yH (l:bk) (kA:OA) (kC:Nat) (az:List RA) (cA:OA) (cC:Nat) (bA:OA) (bC:Nat) (d:aq) (sgA:OA) (sgC:Nat) (hin:eM l az) (hsl:d.ba.aj.length≤1000000):
 c_ Tryz.prog 91 [(vA (cy.cells (kh l kA kC cA cC bA bC))),(vA (aJ.cells (aJ.mk d.Out d.cZ d.Time (iv d.ba sgA sgC))))] [(rd ek 3 2 dH),(rd kA l.aU.length 9 (l.aU.map av.cells)),(rd cA l.ar.length 2 (List.zipWith aB.cells l.ar az)),(dw (aX aB.gQ l.ar az)),(rd bA l.aa.length 4 (l.aa.map bD.cells)),(rd sgA d.ba.aj.length 2 (d.ba.aj.map aG.cells))] (vT [(vA (ab.cells (fr l d))),(vB (decide (hZ l d)))]):=by
 by_cases ho:d.Out=true
 ·exact xe l kA kC az cA cC bA bC d sgA sgC hin hsl ho
 by_cases hf:d.cZ=true
 ·exact wb l kA kC az cA cC bA bC d sgA sgC hin hsl ⟨by simpa using ho,hf⟩
 ·exact wy l kA kC az cA cC bA bC d sgA sgC hin hsl ⟨by simpa using ho,by simpa using hf⟩
end
section
open Go.RowKit
theorem EB (lA:OA) (lN lC:Nat):
 lX Tryz.prog 90 [(vS lA lN lC)] [] (fun (x:Nat)=>(Value.func (.func 111) [].toArray [(vP x)].toArray)) (fun (x:Nat)=>True) (fun (x:Nat)=>[(bU x 29 [(vS lA lN lC)])]):=by
 refine dI kr Tryz.func90 U U fun D Q hQ hN=>?_
 try dsimp only
 refine WS fun _ A=>rJ U U fun C=>br 1 U<|RK A<|WS fun _ B=>rS (FU U)<|rP 1 [] I ?_
 refine RK B<|ay<|LX hQ C [0] [] I U U U U ?_
 trivial
theorem DN (nl:List Int) (nlA:OA) (nlC g1:Nat) (hlen:nl.length≤12):
 GC Tryz.prog 111 [] [(vP g1)] [(rd nlA nl.length 1 (nl.map iC)),(bU g1 29 [(vS nlA nl.length nlC)])] (oc nl):=by
 refine An kr Tryz.func111 U U fun l J Z A0 T Q hY K AB hQ hN=>?_
 try dsimp only
 refine WS fun _ M=>rP 3 [] (mr 2 U I) ?_
 refine RK M<|aL ?_
 have F:(0≤nl.length)∧(J 0 A0)∧(Fo A0 T A0):=by exact ⟨Nat.zero_le _,K,AB⟩
 refine cq (ι:={z:Nat×au // (z.1≤nl.length)∧(J z.1 z.2)∧(Fo A0 T z.2)}) [0,1,5,6] [1] U U (fun z=>[(7,(vI (z.1.1:Int)))]) (fun z=>[z.1.2]) (fun _=>rfl) (fun _=>rfl) (fun z=>nl.length-z.1.1) ⟨(0,A0),F⟩ (bw U) (aS [1,0]) ?_
 clear F
 rintro ⟨⟨i,A⟩,⟨G,B,C⟩⟩ J2 L
 try dsimp only at G B C
 try dsimp only
 refine WS fun _ N=>rP 1 [] I ?_
 refine RK N<|aw fun _ O=>cP U (bf fun AA=>?_) (bc fun AA=>?_)
 ·refine bV<|ao<|ao<|aM ?_
  refine hN _ _ _ (ig (vs:=[]) trivial fun w hs=>LZ 1 U (by rw [qb]; have e:nl.length=i:=om; rw [e]; exact B) C hs)
 refine WK O<|aw fun _ P=>aL<|WS fun _ R=>?_
 obtain ⟨x,hx⟩:=aO nl i om
 have S:=cD iC hx
 refine rS (IA i U (aQ 0 U) de dc om om)<|rS (iY i 0 (vI x) U ct (aQ 0 U) S U dc U)<|br 1 U<|RK R<|WS fun _ H=>rP 2 [] I ?_
 refine Al 1 hY B C U U U (AS hx) U U (fun B9 E D=>?_) (fun B9 E D=>?_)
 rotate_left 1
 ·refine rP 1 [] I ?_
  refine RK H<|bo U<|ay ?_
  refine hQ _ _ _ (ig (vs:=[]) trivial fun w hs=>Ii 1 U E D hs)
 refine br 1 U<|RK H<|bT U<|cT<|aW<|KK P<|aF<|rP 2 [] I ?_
 refine aK ?_
 refine bu (L ⟨((i+1),B9),⟨om,E,D⟩⟩ _ _ _ U os (bw U) (aS [0,1]))
end
section
open Go.RowKit
theorem Hn (x:Int):
 c_ Tryz.prog 205 [(vI x)] [] (vB false):=by
 refine bq kr Tryz.func205 U U fun C Q hQ hN=>?_
 try dsimp only
 refine WS fun _ A=>br 1 U<|RK A<|WS fun _ B=>rP 4 [] I ?_
 refine RK B<|ay<|Q1 hQ U U U ?_
 simp
theorem GS (x y:Int):
 c_ Tryz.prog 179 [(vI x),(vI y)] [] (vB (decide (x<y))):=by
 refine bq kr Tryz.func179 U U fun C Q hQ hN=>?_
 try dsimp only
 refine WS fun _ A=>br 1 U<|RK A<|WS fun _ B=>br 1 U<|rS (CL (Hn x) (aH) U)<|rP 11 [] I ?_
 refine RK B<|ay<|Q1 hQ U U U ?_
 exact cB (gM.2 om)
theorem BZ (l:List Int) (lA:OA) (lC:Nat) (hlen:l.length≤1000000):
 Ji Tryz.prog 173 [(vS lA l.length lC),(vI 0),(vI (l.length:Int))] [] (own lA lC 3 1 (l.map iC)) (fun (x:(List Int))=>(vT [])) (fun (x:(List Int))=>x.Perm l∧x.Pairwise (· ≤ ·)) (fun (x:(List Int))=>(own lA lC 3 1 (x.map iC))):=by
 refine tg kr Tryz.func173 U U fun g Q hQ hN=>?_
 try dsimp only
 refine WS fun _ X=>br 1 U<|rS (SX (ef (r:= .int .i64 1) U U U (ly ⟨dc,dc⟩)) U U)<|rP 1 [] I ?_
 refine RK X<|aL ?_
 have A:(1≤1∧(1≤l.length∨1=1))∧(l.length=l.length)∧(l.Perm l)∧(JF l 1):=by exact ⟨om,rfl,List.Perm.refl _,Gx⟩
 refine cq (ι:={z:Nat×(List Int) // (1≤z.1∧(z.1≤l.length∨z.1=1))∧(z.2.length=l.length)∧(z.2.Perm l)∧(JF z.2 z.1)}) [0,1,2] [] U U (fun z=>[(6,(vI (z.1.1:Int)))]) (fun z=>[(own lA lC 3 1 (z.1.2.map iC))]) (fun _=>rfl) (fun _=>rfl) (fun z=>l.length-z.1.1) ⟨(1,l),A⟩ (bw U) (aS [0]) ?_
 clear A
 rintro ⟨⟨i,m⟩,⟨K,AB,E,F⟩⟩ J2 M
 try dsimp only at K AB E F
 try dsimp only
 refine aw fun _ Y=>WS fun _ Z=>rP 3 [] I ?_
 refine RK Z<|cP U (bf fun e=>?_) (bc fun e=>?_)
 ·refine bV<|ao<|ao<|aM<|LM hN m 0 [] I U U U U ?_
  exact ⟨E,Ga F om⟩
 refine WK Y<|aw fun _ O=>aL<|WS fun _ b=>rP 2 [] I ?_
 refine RK b<|aL ?_
 have A:(i≤i)∧(m.length=l.length)∧(m.Perm l)∧(Jq m i i):=by exact ⟨Nat.le_refl _,AB,E,AU F om⟩
 refine cq (ι:={z:Nat×(List Int) // (z.1≤i)∧(z.2.length=l.length)∧(z.2.Perm l)∧(Jq z.2 i z.1)}) [0,1,2,6] [] U U (fun z=>[(7,(vI (z.1.1:Int)))]) (fun z=>[(own lA lC 3 1 (z.1.2.map iC))]) (fun _=>rfl) (fun _=>rfl) (fun z=>z.1.1) ⟨(i,m),A⟩ (bw U) (aS [0]) ?_
 clear A
 rintro ⟨⟨j,q⟩,⟨G,B,C,D⟩⟩ J8 W
 try dsimp only at G B C D
 try dsimp only
 refine aw fun _ c=>aw fun _ J=>dh cu 15 kr<|dP 4 [] I ?_
 refine f_ (t:=19) U (bf fun hj=>?_) (bc fun hj=>?_)
 ·refine qJ 11 U<|du<|RK J<|bT U<|bV<|ao<|ao<|aM<|aW<|KK O<|aF<|rP 3 [] I ?_
  refine aK ?_
  refine bu (M ⟨((i+1),q),⟨om,B,C,by exact CY om D⟩⟩ _ _ _ U (by simp only []; omega) (bw U) (aS [0]))
 refine dP 2 [] I ?_
 obtain ⟨x,hx⟩:=aO q j om
 have L:=cD iC hx
 refine dS (IA j U (ag (n:=l.length) 0 U sq) de dc om om) ?_
 refine dS (iY j 0 (vI x) U ct (ag (n:=q.length) 0 U sm) L U dc U)<|dP 3 [] I ?_
 obtain ⟨y,hy⟩:=aO q (j-1) om
 have V:=cD iC hy
 refine dS (IA (j-1) U (ag (n:=l.length) 0 U sq) de dc om om) ?_
 refine dS (iY (j-1) 0 (vI y) U ct (ag (n:=q.length) 0 U sm) V U dc U)<|dS (CL (GS x y) (aH) U)<|dP 1 [] I ?_
 refine du<|RK J<|cP U (bf fun H=>?_) (bc fun H=>?_)
 ·refine bV<|ao<|ao<|aM<|aW<|KK O<|aF<|rP 3 [] I ?_
  refine aK ?_
  refine bu (M ⟨((i+1),q),⟨om,B,C,by exact DB hx hy om G H D⟩⟩ _ _ _ U (by simp only []; omega) (bw U) (aS [0]))
 refine WK c<|aw fun _ N=>aL<|dE cu [15,16,17] [8,9,12,13,14] [] [] [0] U U U U U<|eS U (MV U)<|eS U (MV U)<|eS U (MV U)<|eS U (MV U)<|eS U (BI U (uw ⟨om,om⟩))<|eS U (MV U)<|eS U (MV U)<|eS U (BI U (uw ⟨om,om⟩)) ?_
 refine fS U (IA (j-1) U (ag (n:=l.length) 0 U sq) de dc om om) ?_
 refine fS U (iY (j-1) 0 (vI y) U ct (ag (n:=q.length) 0 U sm) V U dc U)<|eS U (MV U)<|eS U (MV U) ?_
 refine fS U (IA j U (ag (n:=l.length) 0 U sq) de dc om om) ?_
 refine fS U (iY j 0 (vI x) U ct (ag (n:=q.length) 0 U sm) L U dc U) ?_
 refine fS U (IA j U (ag (n:=l.length) 0 U sq) de dc om om) ?_
 refine er U<|cb U fun T12 P=>eK (k:=j) (o:=0) (vs:=[(vI y)]) (es':=(List.map iC (q.set j y))) (C':=[(own lA lC 3 1 (List.map iC (q.set j y)))]) 0 U U U Cr U U U U L U dc (by exact (List.map_set (f:=iC) (l:=q) (i:=j) (a:=y)).symm) U<|aK (P _ _ (aS []) ?_)
 refine cb U fun T13 R=>?_
 obtain ⟨d,AA⟩:=aO (q.set j y) (j-1) os
 have hx15m:(List.map iC (q.set j y))[(j-1)]? =some (iC d):=by rw [fT,AA]; rfl
 refine rS (IA (j-1) U (ag (n:=l.length) 0 U sq) de dc om om) ?_
 refine aK (R _ _ (aS []) ?_)
 refine cb U fun T16 S=>eK (k:=(j-1)) (o:=0) (vs:=[(vI x)]) (es':=(List.map iC ((q.set j y).set (j-1) x))) (C':=[(own lA lC 3 1 (List.map iC ((q.set j y).set (j-1) x)))]) 0 U U U Cr U U U U hx15m U dc (by exact (List.map_set (f:=iC) (l:=(q.set j y)) (i:=(j-1)) (a:=x)).symm) U<|aK (S _ _ (aS []) ?_)
 refine fD U<|aW<|KK N<|aF<|rP 3 [] I ?_
 refine aK ?_
 have T:(vI (((j-1):Nat):Int))=(vI ((j:Int)-1)):=by exact cI om
 refine bu (W ⟨((j-1),((q.set j y).set (j-1) x)),⟨om,by simp; exact B,(CB hx hy).trans C,CI hx hy om G H D⟩⟩ _ _ _ U (by simp only []; omega) (c0 4<|bJ U T<|eb.nil _) (aS [0]))
theorem Hd (x:Int) (hx:0≤x∧x≤100):
 lX Tryz.prog 183 [(Value.int .u64 x)] [] (fun (x:Int)=>(vI x)) (fun (x:Int)=>True) (fun (x:Int)=>[]):=by
 refine dI kr Tryz.func183 U U fun N Q hQ hN=>?_
 try dsimp only
 refine WS fun _ D=>br 1 U<|RK D<|aw fun _ E=>WS fun _ F=>rP 1 [] I ?_
 refine rS (BI U z4)<|RK F<|cO U (bc fun L=>?_) (bf fun L=>?_)
 ·exfalso; omega
 refine WK E<|aw fun _ G=>WS fun _ H=>rP 1 [] I ?_
 refine rS (BI U z4)<|RK H<|cO U (bc fun M=>?_) (bf fun M=>?_)
 ·exfalso; omega
 refine WK G<|aw fun _ AA=>WS fun _ J=>rP 1 [] I ?_
 refine rS (BI U z4)<|RK J<|cO U (bc fun C=>?_) (bf fun C=>?_)
 ·exfalso; omega
 refine WK AA<|WS fun _ B=>br 2 U<|rS (SX (oj (m:=x) U U KN Kv (wO (by first|assumption|omega))) U U)<|Iz (k:=(x).toNat) U U U Ov om (Nat.lt_of_lt_of_le (m:=200) om (of_decide_eq_true kr)) U fun A K=>rS (SX (oj (m:=A) U U Kv pq (lU (by first|assumption|omega))) U U)<|rP 2 [] I ?_
 refine RK B<|ay<|LX hQ (0+A) [] [] I U U U U ?_
 trivial
theorem Kc (x:Int) (hx:0≤x∧x≤100):
 lX Tryz.prog 146 [(Value.int .u64 x)] [] (fun (x:Int)=>(vI x)) (fun (x:Int)=>True) (fun (x:Int)=>[]):=by
 refine dI kr Tryz.func146 U U fun F Q hQ hN=>?_
 try dsimp only
 refine WS fun _ A=>br 1 U<|RK A<|aw fun _ B=>bT U<|WK B<|WS fun _ C=>rP 1 [] I ?_
 refine cX (Hd x hx) (aH) U fun E D=>?_
 try dsimp only
 refine rP 1 [] I ?_
 refine RK C<|ay<|LX hQ E [] [] I U U U U ?_
 trivial
theorem KS (l:List Int) (lA:OA) (lC:Nat) (u:Int) (hlen:l.length≤12):
 Ji Tryz.prog 145 [(vS lA l.length lC),(vI 0),(vI (l.length:Int)),(vI u)] [] (own lA lC 3 1 (l.map iC)) (fun (x:(List Int))=>(vT [])) (fun (x:(List Int))=>x.Perm l∧x.Pairwise (· ≤ ·)) (fun (x:(List Int))=>(own lA lC 3 1 (x.map iC))):=by
 refine tg kr Tryz.func145 U U fun K Q hQ hN=>?_
 try dsimp only
 refine WS fun _ A=>br 1 U<|RK A<|WS fun _ B=>br 1 U<|RK B<|aL<|nO 1<|iX fun R3 AA=>aL<|WS fun _ C=>br 4 U<|RK C<|aw fun _ H=>WS fun _ D=>rP 2 [] I ?_
 refine RK D<|cP U (bf fun G=>?_) (bc fun G=>?_)
 ·exfalso; omega
 refine WS fun _ E=>rP 3 [] I ?_
 refine ow 0 U U U U (BZ l lA lC om) U qg U (fun J F=>?_)
 try dsimp only
 refine RK E<|ay<|LM hQ J 0 [] I U U U U ?_
 assumption
theorem IU (l:List Int) (lA:OA) (lC:Nat) (hlen:l.length≤12):
 Ji Tryz.prog 110 [(vS lA l.length lC)] [] (own lA lC 3 1 (l.map iC)) (fun (x:(List Int))=>(vT [])) (fun (x:(List Int))=>x.Perm l∧x.Pairwise (· ≤ ·)) (fun (x:(List Int))=>(own lA lC 3 1 (x.map iC))):=by
 refine tg kr Tryz.func110 U U fun F Q hQ hN=>?_
 try dsimp only
 refine WS fun _ A=>br 3 U<|RK A<|aF<|rP 3 [] I ?_
 refine rS (SX (oj (m:=(l.length:Int)) U U pq L8 (vy (by first|assumption|omega))) U U)<|cX (Kc (l.length:Int) om) (aH) U fun E B=>?_
 try dsimp only
 refine ow 0 U U U U (KS l lA lC E hlen) U qg U (fun D C=>?_)
 try dsimp only
 refine aK<|LM hN D 0 [] I U U U U ?_
 assumption
end
section
open Go.RowKit
theorem E6 (nl:List Int) (nlA:OA) (nlC g1:Nat) (hlen:nl.length≤12):
 lX Tryz.prog 144 [(vS none 0 0),(Value.func (.func 111) [].toArray [(vP g1)].toArray)] [(rd nlA nl.length 1 (nl.map iC)),(bU g1 29 [(vS nlA nl.length nlC)])] (fun (x:(OA)×Nat)=>(vS x.1 nl.length x.2)) (fun (x:(OA)×Nat)=>True) (fun (x:(OA)×Nat)=>[(own x.1 x.2 3 1 (nl.map iC))]):=by
 refine dI kr Tryz.func144 U U fun R Q hQ hN=>?_
 try dsimp only
 refine WS fun _ D=>rJ U U fun J=>br 1 U<|RK D<|aw fun _ E=>WS fun _ G=>rP 1 [] I ?_
 refine RK G<|aL<|gN 1 U (by exact fun _ h=>h)<|gN 3 U (by exact fun _ h=>h)<|eH 3 1 ?_
 refine zZ (L0:=[(2,(vP J))]) (F:=[(rd nlA nl.length 1 (nl.map iC)).ro,(bU g1 29 [(vS nlA nl.length nlC)]).ro]) (xs:=(oc nl)) (fun k (y:(OA)×Nat)=>True) (fun k y=>[(own y.1 y.2 3 1 ((nl.take k).map iC)),(bU J 29 [(vS y.1 ((nl.take k).length) y.2)]),(rd nlA nl.length 1 (nl.map iC)).ro]) (fun _ (_:Unit)=>False) (fun _ _=>[]) [0,3,4] [2,1] (none,0) U U (DN nl nlA nlC g1 (by first|assumption|omega|(simp; done))) U U U (by trivial) (by simp only [List.forall_mem_cons,List.not_mem_nil,false_imp_iff,implies_true,and_true]; exact ⟨⟨_,sm,(dy (bR _))⟩,⟨_,sm,(dy (bR _))⟩⟩) (by exact yB) U (bw U) ?_ ?_ (fun _ _ _ h=>h.elim) (fun _ _ h=>h.elim)
 rotate_left 1
 ·rintro O ⟨a,c⟩ AA
  try dsimp only
  rw [tu]
  refine aW<|KK E<|WS fun _ A=>rP 2 [] (mc 4 U I) ?_
  refine RK A<|ay<|hQ _ _ _ (nB 0 U U<|ig (vs:=[(vS a nl.length c)]) ⟨U,trivial⟩ fun w hs=>It (a,c) [3] ?_ ?_ U U U hs)
  ·rfl
  ·trivial
 rintro k x ⟨a,c⟩ l ra rb S T K5 Qr6 hx K H B L M
 obtain ⟨y,hy,rfl⟩:=BM hx
 try dsimp only
 refine aF<|rP 1 [] I ?_
 refine aK<|bu (H _ _ ?_)
 refine aL<|aF<|rP 2 [] (mc 2 U I) ?_
 refine dr (xs:=[.tmp 9]) (cs:=[(vI y)]) U de iy U U U U (by simp [Value.cells]) U U fun P=>?_
 refine eD (es2:=(List.map iC (nl.take (k+1)))) (m':=(nl.take (k+1)).length) 2 U U U ve U U sm (aT (es:=List.map iC [y]) 0 U U (by simp [bp]) U) (m8 _) (by simp; omega) (by simp [maxLen]; omega) (by rw [yY hy]; simp) sm U fun N C=>?_
 try dsimp only
 refine Oy U Bh U U<|aK<|aW ?_
 exact B (N,C) _ _ (by trivial) (aS [1,2,3,4])
theorem Ba (nl:List Int) (nlA:OA) (nlC g1:Nat) (hlen:nl.length≤12):
 lX Tryz.prog 109 [(Value.func (.func 111) [].toArray [(vP g1)].toArray)] [(rd nlA nl.length 1 (nl.map iC)),(bU g1 29 [(vS nlA nl.length nlC)])] (fun (x:(OA)×Nat)=>(vS x.1 nl.length x.2)) (fun (x:(OA)×Nat)=>True) (fun (x:(OA)×Nat)=>[(own x.1 x.2 3 1 (nl.map iC))]):=by
 refine dI kr Tryz.func109 U U fun G Q hQ hN=>?_
 try dsimp only
 refine WS fun _ A=>br 1 U<|RK A<|WS fun _ B=>rP 1 [] I ?_
 refine cX (E6 nl nlA nlC g1 hlen) (aY [0,1]) U fun F E=>?_
 obtain ⟨C,D⟩:=F
 try dsimp only
 refine rP 1 [] I ?_
 refine RK B<|ay<|LX hQ (C,D) [0] [] I U U U U ?_
 trivial
theorem Em (nl:List Int) (nlA:OA) (nlC g1:Nat) (hlen:nl.length≤12):
 lX Tryz.prog 89 [(Value.func (.func 111) [].toArray [(vP g1)].toArray)] [(rd nlA nl.length 1 (nl.map iC)),(bU g1 29 [(vS nlA nl.length nlC)])] (fun (x:(OA)×Nat)=>(vS x.1 nl.length x.2)) (fun (x:(OA)×Nat)=>True) (fun (x:(OA)×Nat)=>[(own x.1 x.2 3 1 ((lM nl).map iC))]):=by
 refine dI kr Tryz.func89 U U fun J Q hQ hN=>?_
 try dsimp only
 refine WS fun _ B=>br 1 U<|RK B<|WS fun _ C=>rP 1 [] I ?_
 refine cX (Ba nl nlA nlC g1 hlen) (aY [0,1]) U fun AA H=>?_
 obtain ⟨F,G⟩:=AA
 try dsimp only
 refine br 1 U<|RK C<|WS fun _ D=>rP 1 [] I ?_
 refine ow 0 U U U U (IU nl F G hlen) U qg U (fun m A=>?_)
 try dsimp only
 refine RK D<|WS fun _ E=>?_
 obtain rfl:=wS A.1 A.2
 skip
 refine rP 2 [] I ?_
 refine RK E<|ay<|LX hQ (F,G) [0] [] I U U U U ?_
 trivial
end
section
open Go.RowKit
theorem Dk (r:eJ) (kA:OA) (kC:Nat) (az:List RA) (cA:OA) (cC:Nat) (bA:OA) (bC:Nat) (slA:OA) (slC:Nat) (drA:OA) (drC:Nat) (ha:List cg) (heA:OA) (heC:Nat) (tz:List RA) (tA:OA) (tC:Nat) (ms:Value) (gw h:Nat) (gm g1 g2:Nat) (hin:jv r az ha) (htz:tz.length=r.ax.length) (hh:h<r.ax.length) (hok:jY r (h+1)):
 Ji Tryz.prog 114 [(vI (h:Int)),(vP g1),(vP g2)] [(rd kA r.ak.aU.length 9 (r.ak.aU.map av.cells)),(rd cA r.ak.ar.length 2 (List.zipWith aB.cells r.ak.ar az)),(dw (aX aB.gQ r.ak.ar az)),(rd bA r.ak.aa.length 4 (r.ak.aa.map bD.cells)),(rd slA r.aR.length 1 (r.aR.map iC)),(rd drA r.b_.length 1 (r.b_.map iC)),(rd heA r.ax.length 1 (List.zipWith cc r.ax ha)),(dw (aX ep r.ax ha)),(rd tA ((dW r).length) 1 (List.zipWith FZ (dW r) tz)),(dw (aX GI (dW r) tz)),(bU gw 125 (ic.cells (ic.mk (wA r kA kC cA cC bA bC slA slC drA drC heA heC) (bj.mk tA ((dW r).length) tC) ms))),(bU g1 117 [(vP gw)]),(bU g2 123 [(Value.map (some gm))])] (iB iV gm (b0 ik (dg r.ak r.ax r.aR.length h 0))) (fun (x:Unit)=>(vT [])) (fun (x:Unit)=>True) (fun (x:Unit)=>(iB iV gm (b0 ik (dg r.ak r.ax r.aR.length (h+1) 0)))):=by
 have v:=hin.line
 have A5:=hin.gv
 have A6:=hin.has
 have AP:=hin.gD
 have AC:=hin.draw
 have A0:=jg (r:=r)
 refine tg kr Tryz.func114 U U fun w0 Q hQ hN=>?_
 try dsimp only
 refine WS fun _ g=>gO 1 [] (mr 12 U I) U<|rS (SX (bK U U) U U)<|rP 3 [] (mr 11 U I) ?_
 obtain ⟨ht,B⟩:=aO r.ax h om
 obtain ⟨A,C⟩:=aO ha h om
 have Z:(List.zipWith cc r.ax ha)[h]? =some (cc ht A):=dj B C
 have s:=hin.iP _ _ _ B C
 have AO:=s.oL
 have N:=hok h ht om B
 obtain ⟨tr,G⟩:=aO (dW r) h om
 obtain ⟨tra,F⟩:=aO tz h om
 have c:(List.zipWith FZ (dW r) tz)[h]? =some (FZ tr tra):=dj G F
 refine rS (IA h U (aQ 9 U) Dp dc om om)<|rS (iY h 0 (vS tra.1 tr.length tra.2) U ct (aQ 9 U) c U dc U) ?_
 have AB:=tU B G
 have A2:tr.length=r.aR.length:=by rw [AB,List.length_map]; exact N.1
 have A1:=N.1
 refine rP 2 [] I ?_
 refine RK g<|aL ?_
 have E:(0≤r.aR.length):=by exact Nat.zero_le _
 refine cq (ι:={z:Nat // (z≤r.aR.length)}) [0,1,2,14,15] [1,2,3,4,5,6,7,8,9,10,11,12,13] U U (fun z=>[(16,(vI (z.1:Int)))]) (fun z=>[(iB iV gm (b0 ik (dg r.ak r.ax r.aR.length h z.1)))]) (fun _=>rfl) (fun _=>rfl) (fun z=>r.aR.length-z.1) ⟨0,E⟩ (bw U) (aS [1,2,3,4,5,6,7,8,9,10,11,12,13,0]) ?_
 clear E
 rintro ⟨i,u⟩ J2 K
 try dsimp only
 have a:i<r.aR.length→(dg r.ak r.ax r.aR.length h i).lookup (i:Int)=il r.ak r.ax i h:=CF
 refine WS fun _ k=>rP 1 [] I ?_
 refine RK k<|aw fun _ m=>cP U (bf fun h5=>?_) (bc fun h5=>?_)
 ·refine bV<|ao<|ao<|aM ?_
  rw [show (dg r.ak r.ax r.aR.length h i)=(dg r.ak r.ax r.aR.length (h+1) 0) from by rw [show i=r.aR.length by omega]; exact Ha]
  refine LM hN () 13 [] I U U U U ?_
  trivial
 refine WK m<|aw fun _ L=>aL<|WS fun _ n=>rP 1 [] I ?_
 obtain ⟨x,hx⟩:=aO tr i om
 have y:=cD ab.cells hx
 refine rS (IA i U (show iE _ (rd tra.1 tr.length 2 (tr.map ab.cells)).holds from (cY 9 U (bM G F (by simp [GI])))) nt dc om om)<|rS (nz i 0 (ab.cells x) U ct (show iE _ (rd tra.1 tr.length 2 (tr.map ab.cells)).holds from (cY 9 U (bM G F (by simp [GI])))) y U dc U U)<|AL U eI fun b8=>br 1 U<|fF U dC U<|RK n<|WS fun _ o=>gO 2 [] (mr 13 U I) U<|rS (SX (o_ (kV:=iV) (x:=(i:Int)) (l:=(dg r.ak r.ax r.aR.length h i)) (f:=ik) (z:=(ab.mk 0 0)) U U U oO (fM pq) Nn (by exact aQ 14 U)) U U)<|br 3 U<|AL U eI fun A3=>fF U dC U<|br 1 U<|RK o<|aw fun _ P=>WS fun _ H=>gO 1 [] (mr 13 U I) U<|rS (SX (bK U U) U U)<|gO 4 [] (mr 12 U I) U<|rS (IA h U (aQ 8 U) pk dc om om)<|rS (iY h 0 (vS A.1.1 ht.length A.1.2) U ct (aQ 8 U) Z U dc U)<|rP 1 [] I ?_
 obtain ⟨d,hd⟩:=aO ht i om
 obtain ⟨da,p⟩:=aO A.2 i om
 have q:(List.zipWith aq.cells ht A.2)[i]? =some (aq.cells d da):=dj hd p
 refine rS (IA i U (show iE _ (rd A.1.1 ht.length 7 (List.zipWith aq.cells ht A.2)).holds from (cY 9 U (bM B C cf))) qB dc om om)<|rS (x9 (i*7) U (show iE _ (rd A.1.1 ht.length 7 (List.zipWith aq.cells ht A.2)).holds from (cY 9 U (bM B C cf))) (Nat.mul_pos om dc) fc U)<|rS (iY i 0 (vB d.Out) U ct (show iE _ (rd A.1.1 ht.length 7 (List.zipWith aq.cells ht A.2)).holds from (cY 9 U (bM B C cf))) q U dc U)<|rP 1 [] I ?_
 refine cE (t:=39) U (fun J=>?_) (fun J=>?_)
 ·refine br 3 U<|RK H<|bo U<|WS fun _ R=>rP 2 [] (mr 14 U I) ?_
  have T:(dF (dg r.ak r.ax r.aR.length h i) (i:Int))=(dg r.ak r.ax r.aR.length h (i+1)):=by exact zR (by exact Cw B hd J)
  refine o4 (kV:=iV) (x:=(i:Int)) (C':=[_,_,_,_,_,_,_,_,_,_,_,_,_,_,_,(iB iV gm (b0 ik (dg r.ak r.ax r.aR.length h (i+1))))]) 15 U U U U oO (fM pq) U ((kZ _ _ _).symm.trans (congrArg _ T)) U<|RK R<|bV<|ao<|aM<|KK L<|aF<|rP 2 [] I ?_
  refine aK ?_
  have AA:(vI (((i+1):Nat):Int))=(vI ((i:Int)+1)):=by exact cI om
  refine bu (K ⟨(i+1),(by first|omega|(simp only []; omega))⟩ _ _ _ U os (c0 5<|bJ U AA<|eb.nil _) (aS [2,3,4,5,6,7,8,9,10,11,12,13,14,15]))
 refine rP 3 [] I ?_
 refine RK H<|cO U (fun D=>?_) (fun D=>?_)
 ·rw [Bool.not_eq_true'] at D
  refine WS fun _ S=>rP 2 [] (mr 14 U I) ?_
  have V:(dF (dg r.ak r.ax r.aR.length h i) (i:Int))=(dg r.ak r.ax r.aR.length h (i+1)):=by exact zR (by exact yI ((a om).symm.trans (Option.not_isSome_iff_eq_none.1 (by rw [D]; decide))))
  refine o4 (kV:=iV) (x:=(i:Int)) (C':=[_,_,_,_,_,_,_,_,_,_,_,_,_,_,_,(iB iV gm (b0 ik (dg r.ak r.ax r.aR.length h (i+1))))]) 15 U U U U oO (fM pq) U ((kZ _ _ _).symm.trans (congrArg _ V)) U<|RK S<|bV<|ao<|aM<|KK L<|aF<|rP 2 [] I ?_
  refine aK ?_
  have W:(vI (((i+1):Nat):Int))=(vI ((i:Int)+1)):=by exact cI om
  refine bu (K ⟨(i+1),(by first|omega|(simp only []; omega))⟩ _ _ _ U os (c0 5<|bJ U W<|eb.nil _) (aS [2,3,4,5,6,7,8,9,10,11,12,13,14,15]))
 rw [Bool.not_eq_false'] at D
 refine WK P<|aF ?_
 obtain ⟨O,b⟩:=Option.isSome_iff_exists.1 D
 have M:il r.ak r.ax i h=some O:=(a om).symm.trans b
 have e:=Dw AB hx hd
 have A7:=Ab (fun j x hj hx=>hok j x om hx) om M
 have w:=zQ (N.2 d (aP hd))
 rw [← e] at w
 rw [show ((List.lookup (i:Int) (dg r.ak r.ax r.aR.length h i)).getD (ab.mk 0 0))=O from by rw [b]; rfl]
 refine gO 6 [0,1,2] (mr 14 U (mc 0 U (mc 1 U I))) U<|rS (BI U (zE om om om))<|gO 5 [0,1] (mc 0 U (mc 1 U I)) U<|rS (BI U (zE om om om))<|rP 1 [] I ?_
 refine rS (SX (aZ (xs:=[(0,.tmp 52),(1,.tmp 58)]) (cs:=(ab.cells (ab.mk (O.Lo+(x.Lo/10)) (O.Hi+(x.Hi/10))))) U U (a_ jr U)) U U) ?_
 have X:(c3 (dg r.ak r.ax r.aR.length h i) (i:Int) (ab.mk (O.Lo+(x.Lo/10)) (O.Hi+(x.Hi/10))))=(dg r.ak r.ax r.aR.length h (i+1)):=by exact HK om (by rw [M]; rfl) (by rw [e]; exact yk B hd (by rw [J]; decide) M)
 refine gu (kV:=iV) (x:=(i:Int)) (C':=[_,_,_,_,_,_,_,_,_,_,_,_,_,_,_,(iB iV gm (b0 ik (dg r.ak r.ax r.aR.length h (i+1))))]) 15 U U U U oO (fM pq) U ((ei _ _ _ _).symm.trans (congrArg _ X)) U<|aK<|aW<|KK L<|aF<|rP 2 [] I ?_
 refine aK ?_
 have Y:(vI (((i+1):Nat):Int))=(vI ((i:Int)+1)):=by exact cI om
 refine bu (K ⟨(i+1),(by first|omega|(simp only []; omega))⟩ _ _ _ U os (c0 5<|bJ U Y<|eb.nil _) (aS [2,3,4,5,6,7,8,9,10,11,12,13,14,15]))
theorem Le (r:eJ) (kA:OA) (kC:Nat) (az:List RA) (cA:OA) (cC:Nat) (bA:OA) (bC:Nat) (slA:OA) (slC:Nat) (drA:OA) (drC:Nat) (ha:List cg) (heA:OA) (heC:Nat) (tz:List RA) (tA:OA) (tC:Nat) (ms:Value) (gw n:Nat) (hin:jv r az ha) (htz:tz.length=r.ax.length) (hn:n≤r.ax.length) (hok:jY r n):
 lX Tryz.prog 92 [(vP gw),(vI (n:Int))] [(rd kA r.ak.aU.length 9 (r.ak.aU.map av.cells)),(rd cA r.ak.ar.length 2 (List.zipWith aB.cells r.ak.ar az)),(dw (aX aB.gQ r.ak.ar az)),(rd bA r.ak.aa.length 4 (r.ak.aa.map bD.cells)),(rd slA r.aR.length 1 (r.aR.map iC)),(rd drA r.b_.length 1 (r.b_.map iC)),(rd heA r.ax.length 1 (List.zipWith cc r.ax ha)),(dw (aX ep r.ax ha)),(rd tA ((dW r).length) 1 (List.zipWith FZ (dW r) tz)),(dw (aX GI (dW r) tz)),(bU gw 125 (ic.cells (ic.mk (wA r kA kC cA cC bA bC slA slC drA drC heA heC) (bj.mk tA ((dW r).length) tC) ms)))] (fun (x:Nat)=>(Value.map (some x))) (fun (x:Nat)=>True) (fun (x:Nat)=>[(iB iV x (b0 ik (wq r n)))]):=by
 have c:=hin.line
 have m:=hin.gv
 have o:=hin.has
 have e:=hin.gD
 have d:=hin.draw
 have f:=jg (r:=r)
 refine dI kr Tryz.func92 U U fun q Q hQ hN=>?_
 try dsimp only
 refine WS fun _ V=>rJ U U fun k=>rP 1 [] I ?_
 refine RK V<|WS fun _ W=>jy (kV:=iV) U U fun B=>?_
 try dsimp only
 refine AL U Lr fun l=>GA U Ar U U<|RK W<|aw fun _ X=>WS fun _ Y=>gO 1 [] (mc 2 U I) U<|rS (SX (bK U U) U U)<|rP 5 [] (mr 13 U I) ?_
 refine RK Y<|aL ?_
 skip
 have A:(0≤r.aR.length):=by exact Nat.zero_le _
 refine cq (ι:={z:Nat // (z≤r.aR.length)}) [1,2,5,15] [0,2,3,4,5,6,7,8,9,10,11,12,13] U U (fun z=>[(16,(vI (z.1:Int)))]) (fun z=>[(iB iV B (b0 ik (dg r.ak r.ax z.1 0 0)))]) (fun _=>rfl) (fun _=>rfl) (fun z=>r.aR.length-z.1) ⟨0,A⟩ (bw U) (aS [0,2,3,4,5,6,7,8,9,10,11,12,13,1]) ?_
 clear A
 rintro ⟨i,a⟩ J8 AA
 try dsimp only
 refine WS fun _ Z=>rP 1 [] I ?_
 refine RK Z<|aw fun _ D=>cO U (bc fun S=>?_) (bf fun S=>?_)
 ·refine WK D<|aw fun _ E=>aL<|WS fun _ F=>br 2 U<|RK F<|aF<|rP 2 [] (mc 0 U I) ?_
  refine rS (SX (aZ (xs:=[]) (cs:=(ab.cells (ab.mk 0 0))) U U (a_ jr U)) U U) ?_
  have O:(c3 (dg r.ak r.ax i 0 0) (i:Int) (ab.mk 0 0))=(dg r.ak r.ax (i+1) 0 0):=by exact HI
  refine gu (kV:=iV) (x:=(i:Int)) (C':=[_,_,_,_,_,_,_,_,_,_,_,_,_,(iB iV B (b0 ik (dg r.ak r.ax (i+1) 0 0)))]) 13 U U U U oO (fM pq) U ((ei _ _ _ _).symm.trans (congrArg _ O)) U<|aK<|aW<|KK E<|aF<|rP 2 [] I ?_
  refine aK ?_
  have P:(vI (((i+1):Nat):Int))=(vI ((i:Int)+1)):=by exact cI om
  refine bu (AA ⟨(i+1),(by first|omega|(simp only []; omega))⟩ _ _ _ U os (c0 4<|bJ U P<|eb.nil _) (aS [0,1,2,3,4,5,6,7,8,9,10,11,12,13]))
 refine bV<|ao<|ao<|aM<|KK X<|WS fun _ G=>rS (FU U)<|br 1 U<|RK G<|aw fun _ H=>WS fun _ AB=>rP 2 [] I ?_
 refine RK AB<|aL ?_
 rw [show (dg r.ak r.ax i 0 0)=(dg r.ak r.ax r.aR.length 0 0) from by rw [show i=r.aR.length by omega]]
 have A:(0≤n):=by exact Nat.zero_le _
 refine cq (ι:={z:Nat // (z≤n)}) [2,5,7,24] [0,1,2,3,4,5,6,7,8,9,10,11,12] U U (fun z=>[(25,(vI (z.1:Int)))]) (fun z=>[(iB iV B (b0 ik (dg r.ak r.ax r.aR.length z.1 0)))]) (fun _=>rfl) (fun _=>rfl) (fun z=>n-z.1) ⟨0,A⟩ (bw U) (aS [0,1,2,3,4,5,6,7,8,9,10,11,12,13]) ?_
 clear A
 rintro ⟨h,b⟩ J19 C
 try dsimp only
 refine WS fun _ J=>rP 1 [] I ?_
 refine RK J<|aw fun _ K=>cP U (bf fun T=>?_) (bc fun T=>?_)
 ·refine bV<|ao<|ao<|aM<|KK H<|aw fun _ N=>?_
  rw [show (dg r.ak r.ax r.aR.length h 0)=(wq r n) from by rw [show h=n by omega]; exact G0]
  refine aF<|rP 2 [] (mc 0 U I) ?_
  refine RK N<|ay<|LX hQ B [13] [] I U U U U ?_
  trivial
 refine WK K<|aw fun _ L=>aL<|WS fun _ M=>br 2 U<|RK M<|aF<|rP 2 [] I ?_
 refine ow 13 U U U U (Dk r kA kC az cA cC bA bC slA slC drA drC ha heA heC tz tA tC ms gw h B k l hin htz om (by exact fun j x hj hx=>hok j x om hx)) U (fQ 2 U U (dy (bR _)) (fQ 3 U U (dy (bR _)) (fQ 4 U U (dy (bR _)) (fQ 5 U U (dy (bR _)) (fQ 6 U U (dy (bR _)) (fQ 7 U U (dy (bR _)) (fQ 8 U U (dy (bR _)) (fQ 9 U U (dy (bR _)) (fQ 10 U U (dy (bR _)) (fQ 11 U U (dy (bR _)) (fQ 12 U U (dy (bR _)) (fQ 1 U U (bR _) (fQ 0 U U (bR _) qg))))))))))))) U (fun p g=>?_)
 try dsimp only
 refine aK<|aW<|KK L<|aF<|rP 2 [] I ?_
 refine aK ?_
 have R:(vI (((h+1):Nat):Int))=(vI ((h:Int)+1)):=by exact cI om
 refine bu (C ⟨(h+1),(by first|omega|(simp only []; omega))⟩ _ _ _ U os (c0 4<|bJ U R<|eb.nil _) (aS [0,1,2,3,4,5,6,7,8,9,10,11,12,13]))
end
section
open Go.RowKit
theorem Ai (r:eJ) (kA:OA) (kC:Nat) (az:List RA) (cA:OA) (cC:Nat) (bA:OA) (bC:Nat) (slA:OA) (slC:Nat) (drA:OA) (drC:Nat) (ha:List cg) (heA:OA) (heC:Nat) (hin:jv r az ha):
 lX Tryz.prog 58 [(vA (cU.cells (wA r kA kC cA cC bA bC slA slC drA drC heA heC)))] [(rd ek 3 2 dH),(rd kA r.ak.aU.length 9 (r.ak.aU.map av.cells)),(rd cA r.ak.ar.length 2 (List.zipWith aB.cells r.ak.ar az)),(dw (aX aB.gQ r.ak.ar az)),(rd bA r.ak.aa.length 4 (r.ak.aa.map bD.cells)),(rd slA r.aR.length 1 (r.aR.map iC)),(rd drA r.b_.length 1 (r.b_.map iC)),(rd heA r.ax.length 1 (List.zipWith cc r.ax ha)),(dw (aX ep r.ax ha))] (fun (x:Bool×Int×Nat×Nat×(OA)×Nat×(List RA))=>bif x.1 then (vT [(Value.pointer (some ⟨x.2.2.1,0,none⟩)),(vI 0)]) else (vT [(Value.pointer none),(vI x.2.1)])) (fun (x:Bool×Int×Nat×Nat×(OA)×Nat×(List RA))=>(x.1=true→(eL r=0∧x.2.2.2.2.2.2.length=r.ax.length))∧(x.1=false→(x.2.1=eL r∧ ¬ eL r=0))) (fun (x:Bool×Int×Nat×Nat×(OA)×Nat×(List RA))=>bif x.1 then [(bU x.2.2.1 125 (ic.cells (ic.mk (wA r kA kC cA cC bA bC slA slC drA drC heA heC) (bj.mk x.2.2.2.2.1 ((dW r).length) x.2.2.2.2.2.1) (Value.map (some x.2.2.2.1))))),(own x.2.2.2.2.1 x.2.2.2.2.2.1 121 1 (List.zipWith FZ (dW r) x.2.2.2.2.2.2)),(bx (aX FV (dW r) x.2.2.2.2.2.2)),(iB iV x.2.2.2.1 (b0 ik (HX r)))] else []):=by
 have J9:=hin.line
 have Mj:=hin.gv
 have M0:=hin.has
 have LO:=hin.gD
 have LA:=hin.draw
 have Fd:=jg (r:=r)
 refine dI kr Tryz.func58 U U fun w0 Q hQ hN=>?_
 try dsimp only
 refine WS fun _ Ja=>e8 U fun b2=>br 2 U<|RK Ja<|aw fun _ Jt=>WS fun _ J1=>br 1 U<|rS (LP (cy.cells (kh r.ak kA kC cA cC bA bC)) 0 U ct U U U)<|rS (CL (rX r.ak kA kC az cA cC bA bC asm) (aY [2,3,4,5]) U)<|br 1 U<|RK J1<|WS fun _ J2=>rP 2 [] I ?_
 refine RK J2<|cO U (bI fun B=>?_) (bH fun B=>?_)
 ·refine WS fun _ J3=>rP 3 [] I ?_
  refine RK J3<|ay<|LX hQ (false,(dR r.ak),0,0,none,0,[]) [] [] I U (by rfl) U U ?_
  exact oJ<|MS (BY B) B
 refine WK Jt<|WS fun _ J4=>gO 4 [] (mc 0 U I) U<|RK J4<|WS fun _ J5=>rP 2 [] (mc 0 U I) ?_
 refine cX (EB drA r.b_.length drC) (aH) U fun GE LT=>?_
 try dsimp only
 refine cX (Em r.b_ drA drC GE asm) (aY [8,0]) U fun K8 Li=>?_
 obtain ⟨Lo,MY⟩:=K8
 try dsimp only
 refine br 1 U<|RK J5<|aw fun _ e=>WS fun _ H=>rP 1 [] I ?_
 refine dr (xs:=[.tmp 29]) (cs:=[(vI (r.aR.length:Int))]) U de iy U U U U (by simp [Value.cells]) U U fun GG=>?_
 refine rS (CL (c_.eq (mG 1 5 ([(r.aR.length:Int)]) (some ⟨GG,0,none⟩) 1 (by (simp; done))) bL) (ai (aT 0 U U (by simp [bp]) U)<|aH) U) ?_
 refine rP 2 [] I ?_
 refine cE (t:=33) U (bI fun Hi=>?_) (bH fun Hi=>?_)
 ·refine br 26 U<|RK H<|bo U<|WS fun _ f=>rP 2 [] I ?_
  refine RK f<|ay<|LX hQ (false,60,0,0,none,0,[]) [] [] I U (by rfl) U U ?_
  exact oJ<|pz (ju B (fun q:eN r=>by have q1:=q.num; have q2:=q.CV; have q3:=q.nh; have q4:=q.ER; omega))
 refine rP 6 [] I ?_
 refine cE (t:=39) U (bI fun H1=>?_) (bH fun H1=>?_)
 ·refine br 20 U<|RK H<|bo U<|WS fun _ g=>rP 2 [] I ?_
  refine RK g<|ay<|LX hQ (false,60,0,0,none,0,[]) [] [] I U (by rfl) U U ?_
  exact oJ<|pz (ju B (fun q:eN r=>by have q1:=q.num; have q2:=q.CV; have q3:=q.nh; have q4:=q.ER; omega))
 refine rP 2 [] (mc 3 U I) ?_
 refine dr (xs:=[.tmp 41]) (cs:=[(vI r.ks)]) U de iy U U U U (by simp [Value.cells]) U U fun GT=>?_
 refine rS (CL (c_.eq (mG 0 5 ([r.ks]) (some ⟨GT,0,none⟩) 1 (by (simp; done))) bL) (ai (aT 0 U U (by simp [bp]) U)<|aH) U) ?_
 refine rP 3 [] I ?_
 refine cE (t:=46) U (bI fun IO=>?_) (bH fun IO=>?_)
 ·refine br 13 U<|RK H<|bo U<|WS fun _ k=>rP 2 [] I ?_
  refine RK k<|ay<|LX hQ (false,60,0,0,none,0,[]) [] [] I U (by rfl) U U ?_
  exact oJ<|pz (ju B (fun q:eN r=>by have q1:=q.num; have q2:=q.CV; have q3:=q.nh; have q4:=q.ER; omega))
 refine rP 3 [] (mc 4 U I) ?_
 refine dr (xs:=[.tmp 49]) (cs:=[(vI (r.ax.length:Int))]) U de iy U U U U (by simp [Value.cells]) U U fun Go=>?_
 refine rS (CL (c_.eq (mG 1 3 ([(r.ax.length:Int)]) (some ⟨Go,0,none⟩) 1 (by (simp; done))) bL) (ai (aT 0 U U (by simp [bp]) U)<|aH) U) ?_
 refine rP 3 [] I ?_
 refine cE (t:=54) U (bI fun IR=>?_) (bH fun IR=>?_)
 ·refine br 5 U<|RK H<|bo U<|WS fun _ l=>rP 2 [] I ?_
  refine RK l<|ay<|LX hQ (false,60,0,0,none,0,[]) [] [] I U (by rfl) U U ?_
  exact oJ<|pz (ju B (fun q:eN r=>by have q1:=q.num; have q2:=q.CV; have q3:=q.nh; have q4:=q.ER; omega))
 refine gO 2 [] (mc 5 U I) U<|rS (CL (mG 0 9999 r.aR slA slC asm) (aY [11]) U)<|rP 2 [] I ?_
 refine RK H<|cO U (fun N=>?_) (fun N=>?_)
 ·rw [Bool.not_eq_true'] at N
  refine WS fun _ m=>rP 2 [] I ?_
  refine RK m<|ay<|LX hQ (false,60,0,0,none,0,[]) [] [] I U (by rfl) U U ?_
  exact oJ<|pz (ju B (fun q:eN r=>by exact absurd (q.ins.symm.trans N) dc))
 rw [Bool.not_eq_false'] at N
 refine WK e<|aw fun _ o=>WS fun _ p=>?_
 have M2:(lM r.b_).length=r.aR.length:=by rw [uK]; omega
 refine rP 2 [] I ?_
 refine RK p<|aL ?_
 have A:(0≤r.aR.length)∧(oG r 0):=by exact ⟨Nat.zero_le _,yr⟩
 refine cq (ι:={z:Nat // (z≤r.aR.length)∧(oG r z)}) [1,5,6,60] [3,5,6,7,8,9,10,11,12,13,14] U U (fun z=>[(61,(vI (z.1:Int)))]) (fun z=>[]) (fun _=>rfl) (fun _=>rfl) (fun z=>r.aR.length-z.1) ⟨0,A⟩ (bw U) (aS [3,5,6,7,8,9,10,11,12,13,14]) ?_
 clear A
 rintro ⟨i,⟨J8,J⟩⟩ J28 V
 try dsimp only
 refine WS fun _ s=>rP 1 [] I ?_
 refine RK s<|aw fun _ w=>cO U (bc fun If=>?_) (bf fun If=>?_)
 ·refine WK w<|aw fun _ W=>aL<|WS fun _ AC=>br 2 U<|RK AC<|aw fun _ O=>dh cu 24 kr<|dP 2 [] I ?_
  obtain ⟨x,hx⟩:=aO (lM r.b_) i om
  have KL:=cD iC hx
  refine dS (IA i U (ag (n:=r.b_.length) 0 U sq) de dc om om) ?_
  refine dS (iY i 0 (vI x) U ct (ag (n:=(lM r.b_).length) 0 U sm) KL U dc U)<|dP 3 [] I ?_
  refine vJ (t:=70) U (bI fun S=>?_) (bH fun S=>?_)
  ·refine qJ 17 U<|du<|RK O<|bo U<|WS fun _ AO=>rP 2 [] I ?_
   refine RK AO<|ay<|LX hQ (false,60,0,0,none,0,[]) [] [] I U (by rfl) U U ?_
   exact oJ<|pz (ju B (fun q:eN r=>by exact absurd (q.drawn hx) S))
  refine dP 3 [] I ?_
  refine f_ (t:=73) U (bf fun In=>?_) (bc fun In=>?_)
  ·refine qJ 14 U<|du<|RK O<|bT U<|cT<|aW<|KK W<|aF<|rP 2 [] I ?_
   refine aK ?_
   have Do:(vI (((i+1):Nat):Int))=(vI ((i:Int)+1)):=by exact cI om
   refine bu (V ⟨(i+1),⟨om,sv J hx S (fun u v hu hv hw=>by omega)⟩⟩ _ _ _ U os (c0 4<|bJ U Do<|eb.nil _) (aS [0,1,2,3,4,5,6,7,8,9,10]))
  refine dP 3 [] (mc 1 U I) ?_
  obtain ⟨y,hy⟩:=aO r.aR i om
  have Ks:=cD iC hy
  refine dS (IA i U (aQ 7 U) de dc om om)<|dS (iY i 0 (vI y) U ct (aQ 7 U) Ks U dc U)<|dP 4 [] (mc 1 U I) ?_
  obtain ⟨z,hz⟩:=aO r.aR (i-1) om
  have K0:=cD iC hz
  refine dS (IA (i-1) U (aQ 7 U) de dc om om)<|dS (iY (i-1) 0 (vI z) U ct (aQ 7 U) K0 U dc U)<|dP 3 [] I ?_
  refine du<|RK O<|cP U (bf fun JJ=>?_) (bc fun JJ=>?_)
  ·refine cT<|aW<|KK W<|aF<|rP 2 [] I ?_
   refine aK ?_
   have Di:(vI (((i+1):Nat):Int))=(vI ((i:Int)+1)):=by exact cI om
   refine bu (V ⟨(i+1),⟨om,sv J hx S (fun u v hu hv hw=>by (rw [hy] at hu; cases hu; rw [hz] at hw; cases hw; omega))⟩⟩ _ _ _ rfl os (c0 4<|bJ rfl Di<|eb.nil _) (aS [0,1,2,3,4,5,6,7,8,9,10]))
  refine WS fun _ AP=>rP 2 [] I ?_
  refine RK AP<|ay<|LX hQ (false,60,0,0,none,0,[]) [] [] I U (by rfl) U U ?_
  exact oJ<|pz (ju B (fun q:eN r=>by have q1:=(q.ids i y hy).2 z om hz; omega))
 refine bV<|ao<|ao<|aM<|KK o<|WS fun _ A0=>gO 1 [] (mc 1 U I) U<|rS (SX (aZ (xs:=[(0,.tmp 89)]) (cs:=(ic.cells (ic.mk (wA r kA kC cA cC bA bC slA slC drA drC heA heC) (bj.mk none 0 0) (Value.map none)))) U U (a_ Lg U)) U U)<|e8 U fun L=>br 1 U<|RK A0<|aw fun _ A1=>WS fun _ A2=>rP 4 [] (mc 2 U I) ?_
 refine RK A2<|aL<|eH 121 1<|mM ?_
 have A:(0≤r.ax.length)∧(([]:List RA).length=0)∧(jY r 0):=by exact ⟨Nat.zero_le _,rfl,ze⟩
 refine cq (ι:={z:Nat×(List RA)×(OA)×Nat // (z.1≤r.ax.length)∧(z.2.1.length=z.1)∧(jY r z.1)}) [1,5,8,93,94] [3,4,5,6,7,8,9,10,11,12,13] U U (fun z=>[(95,(vI (z.1.1:Int)))]) (fun z=>[(bx (aX FV (gI r z.1.1) z.1.2.1)),(own z.1.2.2.1 z.1.2.2.2 121 1 (List.map sC (List.zipWith CC (gI r z.1.1) z.1.2.1))),(bU L 125 (ic.cells (ic.mk (wA r kA kC cA cC bA bC slA slC drA drC heA heC) (bj.mk z.1.2.2.1 ((List.zipWith CC (gI r z.1.1) z.1.2.1).length) z.1.2.2.2) (Value.map none))))]) (fun _=>rfl) (fun _=>rfl) (fun z=>r.ax.length-z.1.1) ⟨(0,([]:List RA),none,0),A⟩ (bw U) (aS [3,4,5,6,7,8,9,10,11,12,13,0,1,2]) ?_
 clear A
 rintro ⟨⟨h,tz,a,c⟩,⟨T,C,E⟩⟩ J42 Z
 try dsimp only at T C E
 try dsimp only
 refine WS fun _ A3=>rP 1 [] I ?_
 refine RK A3<|aw fun _ A4=>cP U (bf fun JR=>?_) (bc fun JR=>?_)
 ·refine bV<|ao<|ao<|aM<|KK A1<|aw fun _ C2=>?_
  have J7:gI r h=dW r:=by unfold dW; rw [show h=r.ax.length by omega]
  have Fk:tz.length=r.ax.length:=by omega
  rw [J7,BA,show (List.zipWith CC (dW r) tz).length=(dW r).length from by rw [List.length_zipWith]; omega]
  have X:eN r:=Fc (n:=i) om om om om om N J E om
  refine aF<|rP 5 [] (mc 1 U I) ?_
  refine cX (Le r kA kC az cA cC bA bC slA slC drA drC ha heA heC tz a c (Value.map none) L r.ax.length hin asm om (by exact X.GV)) (m7 [3,4,5,6,7,8,9,10]<|ai (ag (n:=(dW r).length) 12 U (rN (by rw [Fd]; exact Fk)))<|ai (cR 11 U AA)<|dN 13 U U<|aH) U fun K Lk=>?_
  try dsimp only
  refine rS (SX (bK U U) U U)<|rP 1 [] I ?_
  refine fz (vs:=[(Value.map (some K))]) (cs':=(ic.cells (ic.mk (wA r kA kC cA cC bA bC slA slC drA drC heA heC) (bj.mk a ((dW r).length) c) (Value.map (some K))))) (C':=[_,_,_,_,_,_,_,_,_,_,_,_,_,_,(bU L 125 (ic.cells (ic.mk (wA r kA kC cA cC bA bC slA slC drA drC heA heC) (bj.mk a ((dW r).length) c) (Value.map (some K)))))]) 14 U U U Ar U U U U U U U<|RK C2<|aw fun _ C3=>?_
  rw [show wq r r.ax.length=HX r from rfl]
  refine aF<|rP 3 [] I ?_
  refine RK C3<|ay ?_
  refine LX hQ (true,0,L,K,a,c,tz) [14,13,12,0] [] I U (by (show List.all _ _=true; simp only [cond_true,gf,List.all_nil,Jn,Bool.and_true]; rfl)) U U ?_
  exact ⟨fun _=>⟨FC B X,Fk⟩,MZ⟩
 refine WK A4<|aw fun _ A5=>aL<|WS fun _ A6=>?_
 obtain ⟨ht,D⟩:=aO r.ax h om
 obtain ⟨G,AD⟩:=aO ha h om
 have FS:(List.zipWith cc r.ax ha)[h]? =some (cc ht G):=dj D AD
 refine rS (IA h U (aQ 9 U) pk dc om om)<|rS (iY h 0 (vS G.1.1 ht.length G.1.2) U ct (aQ 9 U) FS U dc U)<|rP 1 [] I ?_
 refine RK A6<|aw fun _ A7=>WS fun _ A8=>?_
 have FI:=hin.iP _ _ _ D AD
 have LE:=FI.oL
 refine rP 4 [] I ?_
 refine RK A8<|cO U (bI fun Y=>?_) (bH fun Y=>?_)
 ·refine WS fun _ A9=>rP 2 [] I ?_
  refine RK A9<|ay<|LX hQ (false,60,0,0,none,0,[]) [] [] I U (by rfl) U U ?_
  exact oJ<|pz (ju B (fun q:eN r=>by have q1:=(q.iP ht (aP D)).1; omega))
 refine WK A7<|WS fun _ B3=>br 1 U<|RK B3<|aw fun _ B8=>WS fun _ B9=>rP 3 [] I ?_
 refine RK B9<|aL<|eH 38 2 ?_
 have A:(0≤ht.length)∧(ou r.ak ht 0):=by exact ⟨Nat.zero_le _,xK⟩
 refine cq (ι:={z:Nat×(OA)×Nat // (z.1≤ht.length)∧(ou r.ak ht z.1)}) [1,5,8,10,93,94,95,103,104] [1,2,3,4,5,6,7,8,9,10,11,12,13,14] U U (fun z=>[(11,(vS z.1.2.1 (((ht.take z.1.1).map (fr r.ak)).length) z.1.2.2)),(105,(vI (z.1.1:Int)))]) (fun z=>[(own z.1.2.1 z.1.2.2 38 2 (((ht.take z.1.1).map (fr r.ak)).map ab.cells))]) (fun _=>rfl) (fun _=>rfl) (fun z=>ht.length-z.1.1) ⟨(0,none,0),A⟩ (bw U) (aS [1,2,3,4,5,6,7,8,9,10,11,12,13,14,0]) ?_
 clear A
 rintro ⟨⟨j,la,lc⟩,⟨AB,F⟩⟩ J53 b
 try dsimp only at AB F
 try dsimp only
 refine WS fun _ CK=>rP 1 [] I ?_
 refine RK CK<|aw fun _ Ci=>cP U (bf fun Id=>?_) (bc fun Id=>?_)
 ·refine bV<|ao<|ao<|aM<|KK B8<|aF<|br 2 U<|rS (SX (bK U U) U U)<|rP 2 [] (mc 13 U I) ?_
  rw [show ((ht.take j).map (fr r.ak))=ht.map (fr r.ak) from by rw [List.take_of_length_le om]]
  refine rP 1 [] I ?_
  refine dr (xs:=[.tmp 128]) (cs:=[(vS la ((ht.map (fr r.ak)).length) lc)]) U Dp LC U U U U (by simp [Value.cells]) U U fun L9=>?_
  refine eD (es2:=(List.map sC (List.zipWith CC (gI r (h+1)) (tz++[(la,lc)])))) (m':=(List.zipWith CC (gI r (h+1)) (tz++[(la,lc)])).length) 13 U U U KD U U sm (aT (es:=List.map sC [(bj.mk la ((ht.map (fr r.ak)).length) lc)]) 0 U U (by simp [Bs]) U) (JN _) (by rw [List.length_zipWith,k9 om]; omega) (by rw [List.length_zipWith,k9 om]; simp only [maxLen]; omega) (by rw [x2 D C,List.map_append]; rfl) (by rw [x2 D C]; simp) U fun P R=>?_
  try dsimp only
  refine rS (SX (bK U U) U U)<|br 1 U<|fz (vs:=[(vS P ((List.zipWith CC (gI r (h+1)) (tz++[(la,lc)])).length) R)]) (cs':=(ic.cells (ic.mk (wA r kA kC cA cC bA bC slA slC drA drC heA heC) (bj.mk P ((List.zipWith CC (gI r (h+1)) (tz++[(la,lc)])).length) R) (Value.map none)))) (C':=[_,_,_,_,_,_,_,_,_,_,_,_,_,_,(bU L 125 (ic.cells (ic.mk (wA r kA kC cA cC bA bC slA slC drA drC heA heC) (bj.mk P ((List.zipWith CC (gI r (h+1)) (tz++[(la,lc)])).length) R) (Value.map none)))),_]) 14 U U U LS U U U U U U U<|aK<|aW<|KK A5<|aF<|rP 2 [] I ?_
  refine aK<|wI (X':=aX FV (gI r (h+1)) (tz++[(la,lc)])) 12 15 U U (DK (a:=(la,lc)) D C) ?_
  have Eq:(vI (((h+1):Nat):Int))=(vI ((h:Int)+1)):=by exact cI om
  refine bu (Z ⟨((h+1),(tz++[(la,lc)]),P,R),⟨om,by simp; omega,yi E D (Hp om F om)⟩⟩ _ _ _ U os (c0 5<|bJ U Eq<|eb.nil _) (aS [2,3,4,5,6,7,8,9,10,11,12,0,13,14]))
 refine WK Ci<|aw fun _ Ck=>aL<|WS fun _ Cp=>?_
 obtain ⟨d,hd⟩:=aO ht j om
 obtain ⟨da,E2⟩:=aO G.2 j om
 have J6:(List.zipWith aq.cells ht G.2)[j]? =some (aq.cells d da):=dj hd E2
 refine rS (IA j U (show iE _ (rd G.1.1 ht.length 7 (List.zipWith aq.cells ht G.2)).holds from (cY 10 U (bM D AD cf))) qB dc om om)<|rS (nz j 0 (aJ.cells (aJ.mk d.Out d.cZ d.Time (cS.mk d.ba.Start d.ba.gp (bj.mk da.1 d.ba.aj.length da.2)))) U ct (show iE _ (rd G.1.1 ht.length 7 (List.zipWith aq.cells ht G.2)).holds from (cY 10 U (bM D AD cf))) J6 U dc U U)<|AL U Cm fun L0=>fF U E_ U<|RK Cp<|WS fun _ Cu=>br 1 U<|rS (LP (cy.cells (kh r.ak kA kC cA cC bA bC)) 2 U ct U U U)<|rP 1 [] (mc 0 U I) ?_
 have NE:=FI.sig d (aP hd)
 refine rS (CL (yH r.ak kA kC az cA cC bA bC d da.1 da.2 asm asm) (m7 [3,4,5,6,7]<|ai (show iE _ (rd da.1 d.ba.aj.length 2 (d.ba.aj.map aG.cells)).holds from (cY 11 U (bM D AD (db _ (bM hd E2 (by simp [aq.gQ]))))))<|aH) U)<|br 3 U<|AL U eI fun L2=>fF U dC U<|br 1 U<|RK Cu<|aw fun _ Cx=>WS fun _ C0=>rP 2 [] I ?_
 refine RK C0<|cP U (bH fun M=>?_) (bI fun M=>?_)
 ·refine WK Cx<|aF<|rP 2 [] (mc 0 U I) ?_
  refine dr (xs:=[.tmp 119]) (cs:=(ab.cells (fr r.ak d))) U nt eI U U U U (by simp [Value.cells,ab.aN]) U U fun L3=>?_
  refine eD (es2:=(List.map ab.cells ((ht.take (j+1)).map (fr r.ak)))) (m':=((ht.take (j+1)).map (fr r.ak)).length) 17 U U U Lm U U sm (aT (es:=List.map ab.cells [(fr r.ak d)]) 0 U U (by simp [ab.aN]) U) (rr _) (by simp only [List.length_map,List.length_take]; omega) (by simp only [maxLen,List.length_map,List.length_take]; omega) (by rw [List.take_add_one,hd]; simp) sq U fun Ft HH=>?_
  try dsimp only
  refine br 1 U<|aK<|aW<|KK Ck<|aF<|rP 2 [] I ?_
  refine aK ?_
  have EQ:(vI (((j+1):Nat):Int))=(vI ((j:Int)+1)):=by exact cI om
  refine bu (b ⟨((j+1),Ft,HH),⟨om,wg F hd M⟩⟩ _ _ _ U os (c0 10<|bJ U EQ<|eb.nil _) (aS [3,4,5,6,7,8,9,10,11,12,13,14,15,16,17]))
 refine WS fun _ C1=>rP 2 [] I ?_
 refine RK C1<|ay<|LX hQ (false,60,0,0,none,0,[]) [] [] I U (by rfl) U U ?_
 exact oJ<|pz (ju B (fun q:eN r=>by exact M ((q.iP ht (aP D)).2 d (aP hd))))
end
section
open Go.RowKit
theorem JH (r:eJ) (kA:OA) (kC:Nat) (az:List RA) (cA:OA) (cC:Nat) (bA:OA) (bC:Nat) (slA:OA) (slC:Nat) (drA:OA) (drC:Nat) (ha:List cg) (heA:OA) (heC:Nat) (tz:List RA) (tA:OA) (tC:Nat) (ms:Value) (gw:Nat) (l:List Int) (lA:OA) (lC:Nat) (hin:jv r az ha) (hlen:l.length≤1000000):
 c_ Tryz.prog 60 [(vP gw),(vS lA l.length lC)] [(rd kA r.ak.aU.length 9 (r.ak.aU.map av.cells)),(rd cA r.ak.ar.length 2 (List.zipWith aB.cells r.ak.ar az)),(dw (aX aB.gQ r.ak.ar az)),(rd bA r.ak.aa.length 4 (r.ak.aa.map bD.cells)),(rd slA r.aR.length 1 (r.aR.map iC)),(rd drA r.b_.length 1 (r.b_.map iC)),(rd heA r.ax.length 1 (List.zipWith cc r.ax ha)),(dw (aX ep r.ax ha)),(rd tA ((dW r).length) 1 (List.zipWith FZ (dW r) tz)),(dw (aX GI (dW r) tz)),(bU gw 125 (ic.cells (ic.mk (wA r kA kC cA cC bA bC slA slC drA drC heA heC) (bj.mk tA ((dW r).length) tC) ms))),(rd lA l.length 1 (l.map iC))] (vB (l_ 0 ((r.aR.length:Int)-1) l)):=by
 have C:=hin.line
 have G:=hin.gv
 have H:=hin.has
 have E:=hin.gD
 have D:=hin.draw
 have F:=jg (r:=r)
 refine bq kr Tryz.func60 U U fun AA Q hQ hN=>?_
 try dsimp only
 refine WS fun _ A=>br 1 U<|RK A<|WS fun _ B=>br 1 U<|rS (SX (bK U U) U U)<|gO 6 [] (mr 10 U I) U<|rS (CL (mG 0 ((r.aR.length:Int)-1) l lA lC hlen) (aY [11]) U)<|rP 1 [] I ?_
 refine RK B<|ay ?_
 exact Q1 hQ U U U U
end
section
open Go.RowKit
theorem JT (h i:Int) (r:eJ) (kA:OA) (kC:Nat) (az:List RA) (cA:OA) (cC:Nat) (bA:OA) (bC:Nat) (slA:OA) (slC:Nat) (drA:OA) (drC:Nat) (ha:List cg) (heA:OA) (heC:Nat) (hin:jv r az ha):
 c_ Tryz.prog 26 [(vA (cU.cells (wA r kA kC cA cC bA bC slA slC drA drC heA heC))),(vI h),(vI i)] [(rd ek 3 2 dH),(rd kA r.ak.aU.length 9 (r.ak.aU.map av.cells)),(rd cA r.ak.ar.length 2 (List.zipWith aB.cells r.ak.ar az)),(dw (aX aB.gQ r.ak.ar az)),(rd bA r.ak.aa.length 4 (r.ak.aa.map bD.cells)),(rd slA r.aR.length 1 (r.aR.map iC)),(rd drA r.b_.length 1 (r.b_.map iC)),(rd heA r.ax.length 1 (List.zipWith cc r.ax ha)),(dw (aX ep r.ax ha))] (vT [(vA (ab.cells (iJ r h i))),(vI (ko r h i))]):=by
 have AP:=hin.line
 have A7:=hin.gv
 have A8:=hin.has
 have A4:=hin.gD
 have A2:=hin.draw
 have F:=jg (r:=r)
 refine bq kr Tryz.func26 U U fun w0 Q hQ hN=>?_
 try dsimp only
 refine WS fun _ v=>e8 U fun b2=>AL U eI fun b3=>br 1 U<|RK v<|WS fun _ Y=>rP 1 [] (mc 1 U I) ?_
 refine cX (Ai r kA kC az cA cC bA bC slA slC drA drC ha heA heC hin) (aY [2,3,4,5,6,7,8,9,10]) U fun y5 f=>?_
 obtain ⟨g,A6,p,o,j,k,AD⟩:=y5
 cases g
 ·obtain ⟨Z,he⟩:=f.2 rfl
  try dsimp only at Z he
  subst Z
  try dsimp only [cond_true,cond_false,List.cons_append,List.nil_append]
  refine br 5 U<|RK Y<|aw fun _ A1=>aL<|WS fun _ O=>rP 3 [] I ?_
  refine RK O<|cP U (bH fun N=>?_) (bI fun N=>?_)
  ·exact absurd N he
  refine WS fun _ P=>rS (SX (aZ (xs:=[]) (cs:=(ab.cells (ab.mk 0 0))) U U (a_ jr U)) U U)<|br 1 U<|fF U dC U<|rP 1 [] I ?_
  refine RK P<|ay<|qA hQ [0] (mc 0 U I) U ?_
  first|(have e:=mw (h:=h) (i:=i) he; have B:iJ r h i=dT:=if_neg (fun q=>by rw [e] at q; exact he q); rw [e,B]; rfl)|(have e:=l6 (h:=h) (i:=i) he om; have B:iJ r h i=dT:=if_neg (fun q=>by rw [e] at q; cases q); rw [e,B]; rfl)|(have e:=k6 he om A hd C; have B:iJ r h i=dT:=if_neg (fun q=>by rw [e] at q; cases q); rw [e,B]; rfl)|(have e:=nK he om A hd C; rw [e.1,e.2,H]; done)
 obtain ⟨he,K⟩:=f.1 rfl
 try dsimp only [cond_true,cond_false,List.cons_append,List.nil_append]
 try dsimp only at K
 have b:=(dx he).2
 refine br 5 U<|RK Y<|aw fun _ R=>aL<|WS fun _ S=>br 1 U<|rS (SX (ef (r:= .bool false) U U U su) U U)<|br 1 U<|RK S<|bT U<|WS fun _ L=>rP 5 [] (mc 5 U I) ?_
 refine dr (xs:=[.tmp 25]) (cs:=[(vI h)]) U de iy U U U U (by simp [Value.cells]) U U fun l=>?_
 refine rS (CL (c_.eq (mG 0 ((r.ax.length:Int)-1) ([h]) (some ⟨l,0,none⟩) 1 sd) bL) (ai (aT 0 U U (by simp [bp]) U)<|aH) U) ?_
 refine rP 2 [] I ?_
 refine cE (t:=29) U (bI fun u=>?_) (bH fun u=>?_)
 ·refine br 7 U<|RK L<|bo U<|WS fun _ T=>rS (SX (aZ (xs:=[]) (cs:=(ab.cells (ab.mk 0 0))) U U (a_ jr U)) U U)<|G2 U dC U<|rP 1 [] I ?_
  refine RK T<|ay<|qA hQ [0] (mc 5 U I) U ?_
  first|(have e:=mw (h:=h) (i:=i) he; have B:iJ r h i=dT:=if_neg (fun q=>by rw [e] at q; exact he q); rw [e,B]; rfl)|(have e:=l6 (h:=h) (i:=i) he om; have B:iJ r h i=dT:=if_neg (fun q=>by rw [e] at q; cases q); rw [e,B]; rfl)|(have e:=k6 he om A hd C; have B:iJ r h i=dT:=if_neg (fun q=>by rw [e] at q; cases q); rw [e,B]; rfl)|(have e:=nK he om A hd C; rw [e.1,e.2,H]; done)
 refine rP 2 [] I ?_
 refine dr (xs:=[.tmp 31]) (cs:=[(vI i)]) U de iy U U U U (by simp [Value.cells]) U U fun m=>?_
 refine rS (CL (c_.eq (JH r kA kC az cA cC bA bC slA slC drA drC ha heA heC AD j k (Value.map (some o)) p ([i]) (some ⟨m,0,none⟩) 1 hin sd) bL) (m7 [9,10,11,12,13,14,15,16]<|ai (ag (n:=(dW r).length) 3 U (rN (by rw [F]; exact K)))<|ai (cR 4 U AA)<|dN 2 U U<|ai (aT 0 U U (by simp [bp]) U)<|aH) U) ?_
 refine rP 3 [] I ?_
 refine RK L<|cO U (bI fun s=>?_) (bH fun s=>?_)
 ·refine WS fun _ AB=>rS (SX (aZ (xs:=[]) (cs:=(ab.cells (ab.mk 0 0))) U U (a_ jr U)) U U)<|Kp U dC U<|rP 1 [] I ?_
  refine RK AB<|ay<|qA hQ [0] (mc 6 U I) U ?_
  first|(have e:=mw (h:=h) (i:=i) he; have B:iJ r h i=dT:=if_neg (fun q=>by rw [e] at q; exact he q); rw [e,B]; rfl)|(have e:=l6 (h:=h) (i:=i) he om; have B:iJ r h i=dT:=if_neg (fun q=>by rw [e] at q; cases q); rw [e,B]; rfl)|(have e:=k6 he om A hd C; have B:iJ r h i=dT:=if_neg (fun q=>by rw [e] at q; cases q); rw [e,B]; rfl)|(have e:=nK he om A hd C; rw [e.1,e.2,H]; done)
 refine WS fun _ V=>rP 3 [] (mc 7 U I) ?_
 obtain ⟨ht,A⟩:=aO r.ax ((h).toNat) om
 obtain ⟨D,E⟩:=aO ha ((h).toNat) om
 have a:(List.zipWith cc r.ax ha)[(h).toNat]? =some (cc ht D):=dj A E
 refine rS (IA ((h).toNat) U (aQ 15 U) pk dc om om) ?_
 have AC:=hin.iP _ _ _ A E
 have A3:=AC.oL
 have AO:=(b.iP ht (aP A)).1
 refine rS (iY ((h).toNat) 0 (vS D.1.1 ht.length D.1.2) U ct (aQ 15 U) a U dc U)<|rP 1 [] I ?_
 obtain ⟨d,hd⟩:=aO ht ((i).toNat) om
 obtain ⟨da,y⟩:=aO D.2 ((i).toNat) om
 have z:(List.zipWith aq.cells ht D.2)[(i).toNat]? =some (aq.cells d da):=dj hd y
 refine rS (IA ((i).toNat) U (show iE _ (rd D.1.1 ht.length 7 (List.zipWith aq.cells ht D.2)).holds from (cY 16 U (bM A E cf))) qB dc om om)<|rS (x9 (((i).toNat)*7) U (show iE _ (rd D.1.1 ht.length 7 (List.zipWith aq.cells ht D.2)).holds from (cY 16 U (bM A E cf))) (Nat.mul_pos om dc) fc U)<|rS (iY ((i).toNat) 0 (vB d.Out) U ct (show iE _ (rd D.1.1 ht.length 7 (List.zipWith aq.cells ht D.2)).holds from (cY 16 U (bM A E cf))) z U dc U)<|rP 1 [] I ?_
 refine RK V<|cO U (fun C=>?_) (fun C=>?_)
 ·refine WS fun _ W=>rS (SX (aZ (xs:=[]) (cs:=(ab.cells (ab.mk 0 0))) U U (a_ jr U)) U U)<|Kp U dC U<|rP 1 [] I ?_
  refine RK W<|ay<|qA hQ [0] (mc 6 U I) U ?_
  first|(have e:=mw (h:=h) (i:=i) he; have B:iJ r h i=dT:=if_neg (fun q=>by rw [e] at q; exact he q); rw [e,B]; rfl)|(have e:=l6 (h:=h) (i:=i) he om; have B:iJ r h i=dT:=if_neg (fun q=>by rw [e] at q; cases q); rw [e,B]; rfl)|(have e:=k6 he om A hd C; have B:iJ r h i=dT:=if_neg (fun q=>by rw [e] at q; cases q); rw [e,B]; rfl)|(have e:=nK he om A hd C; rw [e.1,e.2,H]; done)
 refine cT<|aW<|KK R<|WS fun _ X=>br 1 U<|rS (SX (bK U U) U U)<|rP 3 [] (mc 2 U I) ?_
 obtain ⟨tr,J⟩:=aO (dW r) ((h).toNat) om
 obtain ⟨tra,G⟩:=aO AD ((h).toNat) om
 have c:(List.zipWith FZ (dW r) AD)[(h).toNat]? =some (FZ tr tra):=dj J G
 refine rS (IA ((h).toNat) U (ag (n:=(dW r).length) 3 U (rN (by rw [F]; exact K))) Dp dc om om) ?_
 have M:=tU A J
 have A5:tr.length=r.aR.length:=by rw [M,List.length_map]; exact AO
 refine rS (iY ((h).toNat) 0 (vS tra.1 tr.length tra.2) U ct (ag (n:=(dW r).length) 3 U (rN (by rw [F]; exact K))) c U dc U) ?_
 refine rP 1 [] I ?_
 obtain ⟨x,hx⟩:=aO tr ((i).toNat) om
 have A0:=cD ab.cells hx
 refine rS (IA ((i).toNat) U (show iE _ (rd tra.1 tr.length 2 (tr.map ab.cells)).holds from (fun w hw=>(cR 4 U AA) w hw _ (bM J G (by simp [GI])))) nt dc om om) ?_
 have H:=Dw M hx hd
 refine rS (nz ((i).toNat) 0 (ab.cells x) U ct (show iE _ (rd tra.1 tr.length 2 (tr.map ab.cells)).holds from (fun w hw=>(cR 4 U AA) w hw _ (bM J G (by simp [GI])))) A0 U dc U U)<|Kp U dC U<|rP 1 [] I ?_
 refine RK X<|ay<|qA hQ [0] (mc 6 U I) U ?_
 first|(have e:=mw (h:=h) (i:=i) he; have B:iJ r h i=dT:=if_neg (fun q=>by rw [e] at q; exact he q); rw [e,B]; rfl)|(have e:=l6 (h:=h) (i:=i) he om; have B:iJ r h i=dT:=if_neg (fun q=>by rw [e] at q; cases q); rw [e,B]; rfl)|(have e:=k6 he om A hd C; have B:iJ r h i=dT:=if_neg (fun q=>by rw [e] at q; cases q); rw [e,B]; rfl)|(have e:=nK he om A hd C; rw [e.1,e.2,H]; done)
end
section
open Go.RowKit
theorem wh (r:eJ) (kA:OA) (kC:Nat) (az:List RA) (cA:OA) (cC:Nat) (bA:OA) (bC:Nat) (slA:OA) (slC:Nat) (drA:OA) (drC:Nat) (ha:List cg) (heA:OA) (heC:Nat) (hin:jv r az ha):
 c_ Tryz.prog 25 [(vA (cU.cells (wA r kA kC cA cC bA bC slA slC drA drC heA heC)))] [(rd ek 3 2 dH),(rd kA r.ak.aU.length 9 (r.ak.aU.map av.cells)),(rd cA r.ak.ar.length 2 (List.zipWith aB.cells r.ak.ar az)),(dw (aX aB.gQ r.ak.ar az)),(rd bA r.ak.aa.length 4 (r.ak.aa.map bD.cells)),(rd slA r.aR.length 1 (r.aR.map iC)),(rd drA r.b_.length 1 (r.b_.map iC)),(rd heA r.ax.length 1 (List.zipWith cc r.ax ha)),(dw (aX ep r.ax ha))] (vI (eL r)):=by
 have H:=hin.line
 have R:=hin.gv
 have S:=hin.has
 have J:=hin.gD
 have AB:=hin.draw
 have K:=jg (r:=r)
 refine bq kr Tryz.func25 U U fun X Q hQ hN=>?_
 try dsimp only
 refine WS fun _ G=>e8 U fun W=>br 1 U<|RK G<|WS fun _ C=>rP 1 [] (mc 0 U I) ?_
 refine cX (Ai r kA kC az cA cC bA bC slA slC drA drC ha heA heC hin) (aY [1,2,3,4,5,6,7,8,9]) U fun V E=>?_
 obtain ⟨F,N,P,O,AA,L,M⟩:=V
 cases F
 rotate_left 1
 ·obtain ⟨he,T⟩:=E.1 rfl
  try dsimp only [cond_true,cond_false,List.cons_append,List.nil_append]
  refine br 5 U<|RK C<|WS fun _ B=>rP 2 [] I ?_
  refine RK B<|ay<|Q1 hQ U U U ?_
  first|rfl|(rw [he])
 obtain ⟨D,he⟩:=E.2 rfl
 try dsimp only at D he
 subst D
 try dsimp only [cond_true,cond_false,List.cons_append,List.nil_append]
 refine br 5 U<|RK C<|WS fun _ A=>rP 2 [] I ?_
 refine RK A<|ay<|Q1 hQ U U U ?_
 first|rfl|(rw [he])
end
section
open Go.RowKit
theorem C5 (n lo hi:Int) (g1 g2:Nat):
 c_ Tryz.prog 77 [(vI n),(vP g1),(vP g2)] [(bU g1 3 [(vI lo)]),(bU g2 3 [(vI hi)])] (vB (decide (n<lo∨hi<n))):=by
 refine bq kr Tryz.func77 U U fun D Q hQ hN=>?_
 try dsimp only
 refine WS fun _ B=>br 1 U<|RK B<|WS fun _ A=>rP 4 [] (mr 0 U I) ?_
 refine cE (t:=8) U (bc fun C=>?_) (bf fun C=>?_)
 ·refine rP 5 [] I ?_
  refine RK A<|ay<|Q1 hQ U U U ?_
  exact cB (gX om).symm
 refine rP 5 [] (mr 1 U I) ?_
 refine RK A<|ay<|Q1 hQ U U U ?_
 exact cB (gM.2 om)
theorem fh (lo hi:Int) (l:List Int) (lA:OA) (lC:Nat) (hlen:l.length≤1000000):
 c_ Tryz.prog 48 [(vI lo),(vI hi),(vS lA l.length lC)] [(rd lA l.length 1 (l.map iC))] (vB (l_ lo hi l)):=by
 refine bq kr Tryz.func48 U U fun F Q hQ hN=>?_
 try dsimp only
 refine WS fun _ D=>rJ U U fun A=>rJ U U fun B=>br 1 U<|RK D<|WS fun _ E=>rP 1 [] I ?_
 refine rS (FU U) ?_
 refine rS (CL (mX l lA lC (Value.func (.func 77) [].toArray [(vP A),(vP B)].toArray) (fun C=>(decide (C<lo∨hi<C))) (dw [(bU A 3 [(vI lo)]),(bU B 3 [(vI hi)])]) (by intro C _; exact jd (fi:=[]) (ca:=[(vP A),(vP B)]) (ib (C5 C lo hi A B) (aY [0,1]))) hlen) (dN 2 U U<|ai (ij (aY [1,0]))<|aH) U) ?_
 refine rP 2 [] I ?_
 refine RK E<|ay ?_
 exact Q1 hQ U U U U
theorem pC (o fx:Bool) (tm:ab) (rv:cS):
 c_ Tryz.prog 69 [(vA (aJ.cells (aJ.mk o fx tm rv)))] [] (vB (decide (o=false∧fx=false))):=by
 refine bq kr Tryz.func69 U U fun E Q hQ hN=>?_
 try dsimp only
 refine WS fun _ B=>e8 U fun D=>br 1 U<|RK B<|WS fun _ A=>rP 4 [] (mc 0 U I) ?_
 refine cw (t:=6) U (fun C=>?_) (fun C=>?_)
 ·rw [Bool.not_eq_false'] at C
  refine rP 5 [] I ?_
  refine RK A<|ay<|Q1 hQ U U U ?_
  clear hQ hN A B
  refine cB ?_
  (simp_all; done)
 rw [Bool.not_eq_true'] at C
 refine rP 5 [] (mc 0 U I) ?_
 refine RK A<|ay<|Q1 hQ U U U ?_
 clear hQ hN A B
 refine cB ?_
 (simp_all; done)
theorem Gd (l:List aI) (lA:OA) (lC:Nat) (f:Value) (p:Int→aI→Bool) (X:au) (hf: ∀ x0 x1,(∃ i_:Nat,x0=(i_:Int)∧l[i_]? =some x1)→yd Tryz.prog f [.int .i64 x0,.agg (aI.cells x1).toArray] [X] (.bool (p x0 x1))) (hlen:l.length≤1000000):
 lX Tryz.prog 67 [(vS lA l.length lC),f] [(rd lA l.length 4 (l.map aI.cells)),X] (fun (x:(OA)×Nat)=>(vS x.1 ((jQ (fI l p) l.length).length) x.2)) (fun (x:(OA)×Nat)=>True) (fun (x:(OA)×Nat)=>[(own x.1 x.2 3 1 ((jQ (fI l p) l.length).map iC))]):=by
 refine dI kr Tryz.func67 U U fun Z Q hQ hN=>?_
 try dsimp only
 refine WS fun _ M=>br 1 U<|RK M<|WS fun _ N=>br 1 U<|RK N<|aw fun _ O=>WS fun _ R=>rP 3 [] I ?_
 refine RK R<|aL<|eH 3 1 ?_
 have A:(0≤l.length):=by exact Nat.zero_le _
 refine cq (ι:={z:Nat×(OA)×Nat // (z.1≤l.length)}) [1,8,9] [1,2] U U (fun z=>[(5,(vS z.1.2.1 ((jQ (fI l p) z.1.1).length) z.1.2.2)),(10,(vI (z.1.1:Int)))]) (fun z=>[(own z.1.2.1 z.1.2.2 3 1 ((jQ (fI l p) z.1.1).map iC))]) (fun _=>rfl) (fun _=>rfl) (fun z=>l.length-z.1.1) ⟨(0,none,0),A⟩ (bw U) (aS [1,2,0]) ?_
 clear A
 rintro ⟨⟨i,a,c⟩,C⟩ J5 D
 try dsimp only at C
 try dsimp only
 refine WS fun _ S=>rP 1 [] I ?_
 refine RK S<|aw fun _ T=>cP U (bf fun Y=>?_) (bc fun Y=>?_)
 ·refine bV<|ao<|ao<|aM<|KK O<|WS fun _ G=>?_
  rw [show (jQ (fI l p) i)=(jQ (fI l p) l.length) from by rw [show i=l.length by omega]]
  refine rP 2 [] I ?_
  refine RK G<|ay<|LX hQ (a,c) [2] [] I U U U U ?_
  trivial
 refine WK T<|aw fun _ H=>aL<|WS fun _ E=>rP 1 [] I ?_
 obtain ⟨x,hx⟩:=aO l i om
 have AA:=cD aI.cells hx
 refine rS (IA i U (aQ 0 U) uJ dc om om)<|rS (nz i 0 (aI.cells x) U ct (aQ 0 U) AA U dc U U)<|AL U KX fun V=>br 1 U<|fF U M_ U<|RK E<|WS fun _ F=>rP 3 [] (mc 0 U I) ?_
 refine rS (SX (mQ U U U (hf (i:Int) x ⟨_,U,hx⟩) (aY [2])) U U)<|RK F<|cP U (fun B=>?_) (fun B=>?_)
 ·refine cT<|aW<|KK H<|aF<|rP 2 [] I ?_
  refine aK ?_
  rw [show jQ (fI l p) i=jQ (fI l p) (i+1) from (oN (by rw [oo hx]; simpa using B)).symm]
  have J:(vI (((i+1):Nat):Int))=(vI ((i:Int)+1)):=by exact cI om
  refine bu (D ⟨((i+1),a,c),(by first|omega|(simp only []; omega))⟩ _ _ _ U os (c0 4<|bJ U J<|eb.nil _) (aS [1,2,3]))
 refine aF<|rP 2 [] I ?_
 refine dr (xs:=[.tmp 20]) (cs:=[(vI (i:Int))]) U de iy U U U U (by simp [Value.cells]) U U fun W=>?_
 refine eD (es2:=(List.map iC (jQ (fI l p) (i+1)))) (m':=(jQ (fI l p) (i+1)).length) 4 U U U ve U U sm (aT (es:=List.map iC [(i:Int)]) 0 U U (by simp [bp]) U) (m8 _) (by have:=mV (P:=fI l p) (n:=i); omega) (by have:=mV (P:=fI l p) (n:=i); simp only [maxLen]; omega) (by rw [rW (by rw [oo hx]; exact B)]; simp) sm U fun K L=>?_
 try dsimp only
 refine br 1 U<|aK<|aW<|KK H<|aF<|rP 2 [] I ?_
 refine aK ?_
 have AB:(vI (((i+1):Nat):Int))=(vI ((i:Int)+1)):=by exact cI om
 refine bu (D ⟨((i+1),K,L),(by first|omega|(simp only []; omega))⟩ _ _ _ U os (c0 4<|bJ U AB<|eb.nil _) (aS [2,3,4]))
theorem vg (l:List aV) (lA:OA) (lC:Nat) (f:Value) (p:Int→aV→Bool) (X:au) (hf: ∀ x0 x1,(∃ i_:Nat,x0=(i_:Int)∧l[i_]? =some x1)→yd Tryz.prog f [.int .i64 x0,.agg (aV.cells x1).toArray] [X] (.bool (p x0 x1))) (hlen:l.length≤1000000):
 lX Tryz.prog 41 [(vS lA l.length lC),f] [(rd lA l.length 5 (l.map aV.cells)),X] (fun (x:(OA)×Nat)=>(vS x.1 ((jQ (fI l p) l.length).length) x.2)) (fun (x:(OA)×Nat)=>True) (fun (x:(OA)×Nat)=>[(own x.1 x.2 3 1 ((jQ (fI l p) l.length).map iC))]):=by
 refine dI kr Tryz.func41 U U fun Z Q hQ hN=>?_
 try dsimp only
 refine WS fun _ M=>br 1 U<|RK M<|WS fun _ N=>br 1 U<|RK N<|aw fun _ O=>WS fun _ R=>rP 3 [] I ?_
 refine RK R<|aL<|eH 3 1 ?_
 have A:(0≤l.length):=by exact Nat.zero_le _
 refine cq (ι:={z:Nat×(OA)×Nat // (z.1≤l.length)}) [1,8,9] [1,2] U U (fun z=>[(5,(vS z.1.2.1 ((jQ (fI l p) z.1.1).length) z.1.2.2)),(10,(vI (z.1.1:Int)))]) (fun z=>[(own z.1.2.1 z.1.2.2 3 1 ((jQ (fI l p) z.1.1).map iC))]) (fun _=>rfl) (fun _=>rfl) (fun z=>l.length-z.1.1) ⟨(0,none,0),A⟩ (bw U) (aS [1,2,0]) ?_
 clear A
 rintro ⟨⟨i,a,c⟩,C⟩ J5 D
 try dsimp only at C
 try dsimp only
 refine WS fun _ S=>rP 1 [] I ?_
 refine RK S<|aw fun _ T=>cP U (bf fun Y=>?_) (bc fun Y=>?_)
 ·refine bV<|ao<|ao<|aM<|KK O<|WS fun _ G=>?_
  rw [show (jQ (fI l p) i)=(jQ (fI l p) l.length) from by rw [show i=l.length by omega]]
  refine rP 2 [] I ?_
  refine RK G<|ay<|LX hQ (a,c) [2] [] I U U U U ?_
  trivial
 refine WK T<|aw fun _ H=>aL<|WS fun _ E=>rP 1 [] I ?_
 obtain ⟨x,hx⟩:=aO l i om
 have AA:=cD aV.cells hx
 refine rS (IA i U (aQ 0 U) CT dc om om)<|rS (nz i 0 (aV.cells x) U ct (aQ 0 U) AA U dc U U)<|AL U Fu fun V=>br 1 U<|fF U H3 U<|RK E<|WS fun _ F=>rP 3 [] (mc 0 U I) ?_
 refine rS (SX (mQ U U U (hf (i:Int) x ⟨_,U,hx⟩) (aY [2])) U U)<|RK F<|cP U (fun B=>?_) (fun B=>?_)
 ·refine cT<|aW<|KK H<|aF<|rP 2 [] I ?_
  refine aK ?_
  rw [show jQ (fI l p) i=jQ (fI l p) (i+1) from (oN (by rw [oo hx]; simpa using B)).symm]
  have J:(vI (((i+1):Nat):Int))=(vI ((i:Int)+1)):=by exact cI om
  refine bu (D ⟨((i+1),a,c),(by first|omega|(simp only []; omega))⟩ _ _ _ U os (c0 4<|bJ U J<|eb.nil _) (aS [1,2,3]))
 refine aF<|rP 2 [] I ?_
 refine dr (xs:=[.tmp 20]) (cs:=[(vI (i:Int))]) U de iy U U U U (by simp [Value.cells]) U U fun W=>?_
 refine eD (es2:=(List.map iC (jQ (fI l p) (i+1)))) (m':=(jQ (fI l p) (i+1)).length) 4 U U U ve U U sm (aT (es:=List.map iC [(i:Int)]) 0 U U (by simp [bp]) U) (m8 _) (by have:=mV (P:=fI l p) (n:=i); omega) (by have:=mV (P:=fI l p) (n:=i); simp only [maxLen]; omega) (by rw [rW (by rw [oo hx]; exact B)]; simp) sm U fun K L=>?_
 try dsimp only
 refine br 1 U<|aK<|aW<|KK H<|aF<|rP 2 [] I ?_
 refine aK ?_
 have AB:(vI (((i+1):Nat):Int))=(vI ((i:Int)+1)):=by exact cI om
 refine bu (D ⟨((i+1),K,L),(by first|omega|(simp only []; omega))⟩ _ _ _ U os (c0 4<|bJ U AB<|eb.nil _) (aS [2,3,4]))
end
section
open Go.RowKit
theorem Ez (i:Int) (f:aI) (j:cn) (kA:OA) (kC:Nat) (cA:OA) (cC:Nat) (bA:OA) (bC:Nat) (slA:OA) (slC:Nat) (drA:OA) (drC:Nat) (heA:OA) (heC:Nat) (faA:OA) (faC:Nat) (prA:OA) (prC g1:Nat) (hk:0≤f.Kind∧f.Kind≤255):
 c_ Tryz.prog 68 [(vI i),(vA (aI.cells f)),(vP g1)] [(bU g1 36 (fH.cells (lY j kA kC cA cC bA bC slA slC drA drC heA heC faA faC prA prC)))] (vB (decide (¬ l1 j.Race.ak.cj f))):=by
 refine bq kr Tryz.func68 U U fun V Q hQ hN=>?_
 try dsimp only
 refine WS fun _ N=>e8 U fun AA=>br 1 U<|RK N<|WS fun _ O=>gO 5 [] (mr 1 U I) U<|RK O<|aw fun _ D=>WS fun _ P=>rP 2 [] (mc 0 U I) ?_
 refine rS (BI U s_)<|RK P<|cP U (bf fun A=>?_) (bc fun A=>?_)
 ·refine WK D<|WS fun _ B=>rP 2 [] (mc 0 U I) ?_
  refine rS (SX (oj (m:=f.Kind) U U Kv pq (lU (by first|assumption|omega))) U U)<|dr (xs:=[.tmp 16]) (cs:=[(vI f.Kind)]) U de iy U U U U (by simp [Value.cells]) U U fun F=>?_
  refine rS (CL (c_.eq (fh 1 3 ([f.Kind]) (some ⟨F,0,none⟩) 1 (by (simp; done))) bL) (ai (aT 0 U U (by simp [bp]) U)<|aH) U) ?_
  refine rP 2 [] I ?_
  refine cE (t:=20) U (bI fun K=>?_) (bH fun K=>?_)
  ·refine rP 24 [] I ?_
   refine RK B<|ay<|Q1 hQ U U U ?_
   (refine cB (gX ?_).symm; (rw [pW A]; omega))
  refine rP 4 [] (mc 1 U I) ?_
  refine dr (xs:=[.tmp 22,.tmp 24]) (cs:=[(vI f.ke),(vI f.To)]) U de iy U U U U (by simp [Value.cells]) U U fun G=>?_
  refine rS (CL (c_.eq (fh 0 86400000 ([f.ke,f.To]) (some ⟨G,0,none⟩) 2 (by (simp; done))) mm) (ai (aT 0 U U (by simp [bp]) U)<|aH) U) ?_
  refine rP 3 [] I ?_
  refine cE (t:=29) U (bI fun L=>?_) (bH fun L=>?_)
  ·refine rP 15 [] I ?_
   refine RK B<|ay<|Q1 hQ U U U ?_
   (refine cB (gX ?_).symm; (rw [pW A]; omega))
  refine rP 7 [] (mc 2 U I) ?_
  refine cE (t:=36) U (bc fun M=>?_) (bf fun M=>?_)
  ·refine rP 8 [] I ?_
   refine RK B<|ay<|Q1 hQ U U U ?_
   (refine cB (gX ?_).symm; (rw [pW A]; omega))
  refine rP 3 [] (mc 2 U I) ?_
  refine dr (xs:=[.tmp 39]) (cs:=[(vI f.gh)]) U de iy U U U U (by simp [Value.cells]) U U fun H=>?_
  refine rS (CL (c_.eq (fh 0 j.Race.ak.cj ([f.gh]) (some ⟨H,0,none⟩) 1 (by (simp; done))) bL) (ai (aT 0 U U (by simp [bp]) U)<|aH) U) ?_
  refine rP 3 [] I ?_
  refine RK B<|ay<|Q1 hQ U U U ?_
  (refine cB (decide_not.symm.trans (gM.2 ?_)); (rw [pW A]; omega))
 refine aF<|br 1 U<|RK D<|WS fun _ C=>rP 2 [] (mc 0 U I) ?_
 refine rS (SX (oj (m:=f.Kind) U U Kv pq (lU (by first|assumption|omega))) U U)<|dr (xs:=[.tmp 16]) (cs:=[(vI f.Kind)]) U de iy U U U U (by simp [Value.cells]) U U fun R=>?_
 refine rS (CL (c_.eq (fh 1 3 ([f.Kind]) (some ⟨R,0,none⟩) 1 (by (simp; done))) bL) (ai (aT 0 U U (by simp [bp]) U)<|aH) U) ?_
 refine rP 2 [] I ?_
 refine cE (t:=20) U (bI fun T=>?_) (bH fun T=>?_)
 ·refine rP 24 [] I ?_
  refine RK C<|ay<|Q1 hQ U U U ?_
  (refine cB (gX ?_).symm; (rw [p6 A]; omega))
 refine rP 4 [] (mc 1 U I) ?_
 refine dr (xs:=[.tmp 22,.tmp 24]) (cs:=[(vI f.ke),(vI f.To)]) U de iy U U U U (by simp [Value.cells]) U U fun S=>?_
 refine rS (CL (c_.eq (fh 0 86400000 ([f.ke,f.To]) (some ⟨S,0,none⟩) 2 (by (simp; done))) mm) (ai (aT 0 U U (by simp [bp]) U)<|aH) U) ?_
 refine rP 3 [] I ?_
 refine cE (t:=29) U (bI fun AB=>?_) (bH fun AB=>?_)
 ·refine rP 15 [] I ?_
  refine RK C<|ay<|Q1 hQ U U U ?_
  (refine cB (gX ?_).symm; (rw [p6 A]; omega))
 refine rP 7 [] (mc 2 U I) ?_
 refine cE (t:=36) U (bc fun J=>?_) (bf fun J=>?_)
 ·refine rP 8 [] I ?_
  refine RK C<|ay<|Q1 hQ U U U ?_
  (refine cB (gX ?_).symm; (rw [p6 A]; omega))
 refine rP 3 [] (mc 2 U I) ?_
 refine dr (xs:=[.tmp 39]) (cs:=[(vI f.gh)]) U de iy U U U U (by simp [Value.cells]) U U fun E=>?_
 refine rS (CL (c_.eq (fh 0 0 ([f.gh]) (some ⟨E,0,none⟩) 1 (by (simp; done))) bL) (ai (aT 0 U U (by simp [bp]) U)<|aH) U) ?_
 refine rP 3 [] I ?_
 refine RK C<|ay<|Q1 hQ U U U ?_
 (refine cB (decide_not.symm.trans (gM.2 ?_)); (rw [p6 A]; omega))
theorem p5 (fk fw:Int) (ff ft:Int) (al ah:Int) (ae an:Bool) (bl bh:Int) (be bn:Bool):
 c_ Tryz.prog 115 [(vA (aI.cells (aI.mk fk fw ff ft))),(vA (iK.cells (iK.mk (ab.mk al ah) ae an))),(vA (iK.cells (iK.mk (ab.mk bl bh) be bn)))] [] (vB (decide (ah≤ft∧ff≤bl))):=by
 refine bq kr Tryz.func115 U U fun G Q hQ hN=>?_
 try dsimp only
 refine WS fun _ B=>e8 U fun D=>e8 U fun E=>e8 U fun F=>br 1 U<|RK B<|WS fun _ A=>rP 7 [0,1] (mc 1 U (mc 2 U I)) ?_
 refine cw (t:=13) U (bf fun C=>?_) (bc fun C=>?_)
 ·refine rP 8 [] I ?_
  refine RK A<|ay<|Q1 hQ U U U ?_
  exact cB (eV om).symm
 refine rP 8 [0,1] (mc 0 U (mc 2 U I)) ?_
 refine RK A<|ay<|Q1 hQ U U U ?_
 exact cB (gM.2 om)
theorem AF (fk fw:Int) (ff ft:Int) (al ah:Int) (ae an:Bool) (bl bh:Int) (be bn:Bool):
 c_ Tryz.prog 119 [(vA (aI.cells (aI.mk fk fw ff ft))),(vA (iK.cells (iK.mk (ab.mk al ah) ae an))),(vA (iK.cells (iK.mk (ab.mk bl bh) be bn)))] [] (vB (decide (ab.mk (max al ff) (min ah ft)=ab.mk al ah))):=by
 refine bq kr Tryz.func119 U U fun F Q hQ hN=>?_
 try dsimp only
 refine WS fun _ A=>e8 U fun C=>e8 U fun D=>e8 U fun E=>br 1 U<|RK A<|WS fun _ B=>gO 5 [0,1] (mc 1 U (mc 2 U I)) U<|rS (MX U)<|gO 5 [0,1] (mc 1 U (mc 2 U I)) U<|rS (MN U)<|rS (SX (aZ (xs:=[(0,.tmp 12),(1,.tmp 18)]) (cs:=(ab.cells (ab.mk (max al ff) (min ah ft)))) U U (a_ jr U)) U U)<|br 1 U<|rS (LP (ab.cells (ab.mk al ah)) 1 U ct U U U)<|rS (BI U (uz _ _ (ab.mk (max al ff) (min ah ft)) (ab.mk al ah)))<|rP 1 [] I ?_
 refine RK B<|ay ?_
 exact Q1 hQ U U U U
theorem Mg (j:cn) (kA:OA) (kC:Nat) (cA:OA) (cC:Nat) (bA:OA) (bC:Nat) (slA:OA) (slC:Nat) (drA:OA) (drC:Nat) (heA:OA) (heC:Nat) (faA:OA) (faC:Nat) (prA:OA) (prC:Nat) (fk fw:Int) (ff ft:Int):
 c_ Tryz.prog 116 [(vA (ck.cells (ck.mk (lY j kA kC cA cC bA bC slA slC drA drC heA heC faA faC prA prC)))),(vA (aI.cells (aI.mk fk fw ff ft)))] [] (vT [(vI (-1)),(vI j.Race.ak.cj)]):=by
 refine bq kr Tryz.func116 U U fun E Q hQ hN=>?_
 try dsimp only
 refine WS fun _ A=>e8 U fun C=>e8 U fun D=>br 2 U<|RK A<|aw fun _ B=>dh cu 7 kr<|dP 7 [] (mc 1 U I) ?_
 refine du<|RK B<|ay<|Q2 hQ U U U U ?_
 rfl
theorem Mz (j:cn) (kA:OA) (kC:Nat) (cA:OA) (cC:Nat) (bA:OA) (bC:Nat) (slA:OA) (slC:Nat) (drA:OA) (drC:Nat) (heA:OA) (heC:Nat) (faA:OA) (faC:Nat) (prA:OA) (prC:Nat) (fk fw:Int) (ff ft:Int) (hw:0≤fw∧fw≤1000000):
 c_ Tryz.prog 117 [(vA (ck.cells (ck.mk (lY j kA kC cA cC bA bC slA slC drA drC heA heC faA faC prA prC)))),(vA (aI.cells (aI.mk fk fw ff ft)))] [] (vT [(vI (fw-1)),(vI fw)]):=by
 refine bq kr Tryz.func117 U U fun E Q hQ hN=>?_
 try dsimp only
 refine WS fun _ A=>e8 U fun C=>e8 U fun D=>rP 2 [] I ?_
 refine RK A<|aw fun _ B=>dh cu 7 kr ?_
 try dsimp only
 refine dP 7 [] (mc 0 U I) ?_
 refine du<|RK B<|ay<|Q2 hQ U U U U ?_
 rfl
theorem KH (j:cn) (kA:OA) (kC:Nat) (cA:OA) (cC:Nat) (bA:OA) (bC:Nat) (slA:OA) (slC:Nat) (drA:OA) (drC:Nat) (heA:OA) (heC:Nat) (faA:OA) (faC:Nat) (prA:OA) (prC:Nat) (fk fw:Int) (ff ft:Int):
 c_ Tryz.prog 118 [(vA (ck.cells (ck.mk (lY j kA kC cA cC bA bC slA slC drA drC heA heC faA faC prA prC)))),(vA (aI.cells (aI.mk fk fw ff ft)))] [] (vT [(vI fw),(vI fw)]):=by
 refine bq kr Tryz.func118 U U fun E Q hQ hN=>?_
 try dsimp only
 refine WS fun _ A=>e8 U fun C=>e8 U fun D=>br 2 U<|RK A<|aw fun _ B=>dh cu 6 kr<|dP 6 [] (mc 0 U I) ?_
 refine du<|RK B<|ay<|Q2 hQ U U U U ?_
 rfl
theorem s8:
 c_ Tryz.prog 94 [] [] (vA ((dD.cells (dD.mk Value.nilFunc Value.nilFunc))++(dD.cells (dD.mk (Value.func (.func 116) [].toArray [].toArray) (Value.func (.func 115) [].toArray [].toArray)))++(dD.cells (dD.mk (Value.func (.func 117) [].toArray [].toArray) (Value.func (.func 115) [].toArray [].toArray)))++(dD.cells (dD.mk (Value.func (.func 118) [].toArray [].toArray) (Value.func (.func 119) [].toArray [].toArray))))):=by
 refine bq kr Tryz.func94 U U fun E Q hQ hN=>?_
 try dsimp only
 refine WS fun _ A=>AL U MB fun D=>RK A<|WS fun _ B=>br 1 U<|RK B<|WS fun _ C=>br 1 U<|rS (SX (aZ (xs:=[(0,.func 116),(1,.tmp 2)]) (cs:=(dD.cells (dD.mk (Value.func (.func 116) [].toArray [].toArray) (Value.func (.func 115) [].toArray [].toArray)))) U U (a_ EG U)) U U)<|rP 1 [] I ?_
 refine rS (SX (aZ (xs:=[(0,.func 117),(1,.tmp 4)]) (cs:=(dD.cells (dD.mk (Value.func (.func 117) [].toArray [].toArray) (Value.func (.func 115) [].toArray [].toArray)))) U U (a_ EG U)) U U)<|rS (SX (aZ (xs:=[(0,.func 118),(1,.func 119)]) (cs:=(dD.cells (dD.mk (Value.func (.func 118) [].toArray [].toArray) (Value.func (.func 119) [].toArray [].toArray)))) U U (a_ EG U)) U U)<|rS (SX (aZ (xs:=[(1,.tmp 3),(2,.tmp 5),(3,.tmp 6)]) (cs:=((dD.cells (dD.mk Value.nilFunc Value.nilFunc))++(dD.cells (dD.mk (Value.func (.func 116) [].toArray [].toArray) (Value.func (.func 115) [].toArray [].toArray)))++(dD.cells (dD.mk (Value.func (.func 117) [].toArray [].toArray) (Value.func (.func 115) [].toArray [].toArray)))++(dD.cells (dD.mk (Value.func (.func 118) [].toArray [].toArray) (Value.func (.func 119) [].toArray [].toArray))))) U U (a_ My U)) U U)<|fF U KI U<|RK C<|ay<|yx hQ [0] (mc 0 U I) U ?_
 rfl
theorem rV (l:List aI) (lA:OA) (lC:Nat) (f:aI) (hlen:l.length≤1000000):
 c_ Tryz.prog 65 [(vS lA l.length lC),(vA (aI.cells f))] [(rd lA l.length 4 (l.map aI.cells))] (vI (iM l f)):=by
 refine bq kr Tryz.func65 U U fun AA Q hQ hN=>?_
 try dsimp only
 refine WS fun _ J=>e8 U fun T=>br 1 U<|RK J<|aw fun _ K=>WS fun _ L=>rP 3 [] I ?_
 refine RK L<|aL ?_
 have B:(0≤l.length)∧(∀ (q:Nat) y,q<0→l[q]? =some y→y≠f):=by exact ⟨Nat.zero_le _,fun q y hq=>absurd hq (Nat.not_lt_zero _)⟩
 refine cq (ι:={z:Nat // (z≤l.length)∧(∀ (q:Nat) y,q<z→l[q]? =some y→y≠f)}) [0,3,7] [0,1] U U (fun z=>[(8,(vI (z.1:Int)))]) (fun z=>[]) (fun _=>rfl) (fun _=>rfl) (fun z=>l.length-z.1) ⟨0,B⟩ (bw U) (aS [0,1]) ?_
 clear B
 rintro ⟨i,⟨P,A⟩⟩ J5 AB
 try dsimp only
 refine WS fun _ M=>rP 1 [] I ?_
 refine RK M<|aw fun _ N=>cP U (bf fun S=>?_) (bc fun S=>?_)
 ·refine bV<|ao<|ao<|aM<|KK K<|WS fun _ G=>rP 1 [] I ?_
  refine RK G<|ay<|Q1 hQ U U U ?_
  exact cI (GO A om).symm
 refine WK N<|aw fun _ O=>aL<|WS fun _ D=>br 2 U<|RK D<|aw fun _ E=>dh cu 6 kr<|dP 3 [] (mc 0 U I) ?_
 obtain ⟨x,hx⟩:=aO l i om
 have R:=cD aI.cells hx
 refine dS (IA i U (aQ 1 U) uJ dc om om)<|dS (nz i 0 (aI.cells x) U ct (aQ 1 U) R U dc U U)<|dS (BI U (MC _ _ f x))<|du<|RK E<|cO U (bc fun C=>?_) (bf fun C=>?_)
 ·refine WS fun _ F=>rP 2 [] I ?_
  refine RK F<|ay<|Q1 hQ U U U ?_
  exact cI (He hx C.symm A).symm
 refine cT<|aW<|KK O<|aF<|rP 2 [] I ?_
 refine aK ?_
 have H:(vI (((i+1):Nat):Int))=(vI ((i:Int)+1)):=by exact cI om
 refine bu (AB ⟨(i+1),⟨om,fun q y hq hy=>by rcases Nat.lt_or_ge q i with c|c; exact A q y c hy; (obtain rfl:q=i:=by omega); rw [hx] at hy; cases hy; exact fun e=>C e.symm⟩⟩ _ _ _ rfl os (c0 3<|bJ rfl H<|eb.nil _) (aS [0,1]))
end
section
open Go.RowKit
theorem tf (j:cn) (kA:OA) (kC:Nat) (az:List RA) (cA:OA) (cC:Nat) (bA:OA) (bC:Nat) (slA:OA) (slC:Nat) (drA:OA) (drC:Nat) (ha:List cg) (heA:OA) (heC:Nat) (faA:OA) (faC:Nat) (prA:OA) (prC:Nat) (hin:eB j az ha):
 c_ Tryz.prog 37 [(vA (fH.cells (lY j kA kC cA cC bA bC slA slC drA drC heA heC faA faC prA prC)))] [(rd ek 3 2 dH),(rd kA j.Race.ak.aU.length 9 (j.Race.ak.aU.map av.cells)),(rd cA j.Race.ak.ar.length 2 (List.zipWith aB.cells j.Race.ak.ar az)),(dw (aX aB.gQ j.Race.ak.ar az)),(rd bA j.Race.ak.aa.length 4 (j.Race.ak.aa.map bD.cells)),(rd slA j.Race.aR.length 1 (j.Race.aR.map iC)),(rd drA j.Race.b_.length 1 (j.Race.b_.map iC)),(rd heA j.Race.ax.length 1 (List.zipWith cc j.Race.ax ha)),(dw (aX ep j.Race.ax ha)),(rd faA j.aC.length 4 (j.aC.map aI.cells)),(rd prA j.aD.length 5 (j.aD.map aV.cells))] (vI (cH j)):=by
 have Fd:=hin.race
 have J5:=hin.race.line
 have M0:=hin.race.gv
 have M2:=hin.race.has
 have Lk:=hin.race.gD
 have LE:=hin.nf
 have Li:=hin.np
 refine bq kr Tryz.func37 U U fun w0 Q hQ hN=>?_
 try dsimp only
 refine WS fun _ If=>e8 U fun b2=>br 1 U<|RK If<|u0 U<|aw fun _ In=>WS fun _ JJ=>br 1 U<|rS (LP (cU.cells (wA j.Race kA kC cA cC bA bC slA slC drA drC heA heC)) 0 U ct U U U)<|rS (CL (wh j.Race kA kC az cA cC bA bC slA slC drA drC ha heA heC asm) (aY [1,2,3,4,5,6,7,8,9]) U)<|br 1 U<|RK JJ<|WS fun _ JR=>rP 2 [] I ?_
 refine RK JR<|cO U (bI fun A=>?_) (bH fun A=>?_)
 ·refine WS fun _ Ja=>rP 2 [] I ?_
  refine RK Ja<|ay<|Q1 hQ U U U ?_
  exact cI (ux A).symm
 refine WK In<|WS fun _ Jt=>rP 2 [] (mc 0 U I) ?_
 refine rS (FU U) ?_
 refine cX (Gd j.aC faA faC (Value.func (.func 68) [].toArray [(vP b2)].toArray) (fun u8 u9=>(decide (¬ l1 j.Race.ak.cj u9))) (dw [(bU b2 36 (fH.cells (lY j kA kC cA cC bA bC slA slC drA drC heA heC faA faC prA prC)))]) (by intro u8 u9 J6; exact jd (fi:=[]) (ca:=[(vP b2)]) (ib (Ez u8 u9 j kA kC cA cC bA bC slA slC drA drC heA heC faA faC prA prC b2 (by (obtain ⟨i_,_,J3⟩:=J6; exact hin.kind _ (aP J3)))) (aY [0]))) asm) (dN 10 rfl rfl<|ai (ij (aY [0]))<|aH) rfl fun K2 Lo=>?_
 obtain ⟨L2,MY⟩:=K2
 try dsimp only
 refine br 1 U<|RK Jt<|aw fun _ b=>WS fun _ G=>rP 5 [] (mc 1 U I) ?_
 refine cE (t:=25) U (bc fun HH=>?_) (bf fun HH=>?_)
 ·refine br 24 U<|RK G<|bo U<|WS fun _ c=>rP 1 [] I ?_
  refine RK c<|ay<|Q1 hQ U U U ?_
  exact cI (hH A (fun q=>by have AA:=q.nf; have O:=q.min_; have V:=q.Ks; have W:=q.np; omega)).symm
 refine rP 5 [] I ?_
 refine cE (t:=30) U (bc fun S=>?_) (bf fun S=>?_)
 ·refine br 19 U<|RK G<|bo U<|WS fun _ e=>rP 1 [] I ?_
  refine RK e<|ay<|Q1 hQ U U U ?_
  exact cI (hH A (yL S)).symm
 refine rP 2 [] (mc 1 U I) ?_
 refine dr (xs:=[.tmp 32]) (cs:=[(vI j.gR)]) U de iy U U U U (by simp [Value.cells]) U U fun Fn=>?_
 refine rS (CL (c_.eq (fh 0 60 ([j.gR]) (some ⟨Fn,0,none⟩) 1 (by (simp; done))) bL) (ai (aT 0 U U (by simp [bp]) U)<|aH) U) ?_
 refine rP 3 [] I ?_
 refine cE (t:=37) U (bI fun H1=>?_) (bH fun H1=>?_)
 ·refine br 12 U<|RK G<|bo U<|WS fun _ f=>rP 1 [] I ?_
  refine RK f<|ay<|Q1 hQ U U U ?_
  exact cI (hH A (fun q=>by have AA:=q.nf; have O:=q.min_; have V:=q.Ks; have W:=q.np; omega)).symm
 refine rP 2 [] (mc 2 U I) ?_
 refine dr (xs:=[.tmp 39]) (cs:=[(vI j.Cu)]) U de iy U U U U (by simp [Value.cells]) U U fun Ft=>?_
 refine rS (CL (c_.eq (fh 0 100000 ([j.Cu]) (some ⟨Ft,0,none⟩) 1 (by (simp; done))) bL) (ai (aT 0 U U (by simp [bp]) U)<|aH) U) ?_
 refine rP 3 [] I ?_
 refine cE (t:=44) U (bI fun IO=>?_) (bH fun IO=>?_)
 ·refine br 5 U<|RK G<|bo U<|WS fun _ g=>rP 1 [] I ?_
  refine RK g<|ay<|Q1 hQ U U U ?_
  exact cI (hH A (fun q=>by have AA:=q.nf; have O:=q.min_; have V:=q.Ks; have W:=q.np; omega)).symm
 refine rP 5 [] (mc 3 U I) ?_
 refine RK G<|cO U (bc fun IR=>?_) (bf fun IR=>?_)
 ·refine WS fun _ h=>rP 1 [] I ?_
  refine RK h<|ay<|Q1 hQ U U U ?_
  exact cI (hH A (fun q=>by have AA:=q.nf; have O:=q.min_; have V:=q.Ks; have W:=q.np; omega)).symm
 refine WK b<|WS fun _ l=>br 1 U<|RK l<|WS fun _ m=>br 1 U<|RK m<|aw fun _ n=>vl<|KK n<|aw fun _ C=>WS fun _ o=>rP 4 [] (mc 3 U I) ?_
 refine RK o<|aL ?_
 have N:(0≤j.aD.length)∧(oy j 0):=by exact ⟨Nat.zero_le _,yn⟩
 refine cq (ι:={z:Nat // (z≤j.aD.length)∧(oy j z)}) [1,5,51,52] [2,3,4,5,6,7,8,9,10,11,12,13,14] U U (fun z=>[(6,(vI (mD j z.1))),(53,(vI (z.1:Int)))]) (fun z=>[]) (fun _=>rfl) (fun _=>rfl) (fun z=>j.aD.length-z.1) ⟨0,N⟩ (bw U) (aS [2,3,4,5,6,7,8,9,10,11,12,13,14]) ?_
 clear N
 rintro ⟨k,⟨B,D⟩⟩ J28 P
 try dsimp only
 refine WS fun _ r=>rP 1 [] I ?_
 refine RK r<|aw fun _ s=>cP U (bf fun Hi=>?_) (bc fun Hi=>?_)
 ·refine bV<|ao<|ao<|aM<|KK C<|WS fun _ C3=>rP 2 [] I ?_
  refine RK C3<|ay<|Q1 hQ U U U ?_
  exact cI (xL A ⟨om,w8 S,om,om,om,fun i p hi=>D i p (by have:=(bg.1 hi).1; omega) hi⟩).symm
 refine WK s<|aw fun _ R=>aL<|WS fun _ u=>?_
 obtain ⟨p,hp⟩:=aO j.aD k om
 have J7:=cD aV.cells hp
 refine rS (IA k U (aQ 12 U) CT dc om om)<|rS (nz k 0 (aV.cells p) U ct (aQ 12 U) J7 U dc U U)<|AL U Fu fun L3=>fF U H3 U<|RK u<|WS fun _ AB=>rP 1 [] I ?_
 have J4:=G6 D B
 refine rP 3 [] (mc 0 U I) ?_
 refine dr (xs:=[.tmp 60]) (cs:=[(vI p.Id)]) U de iy U U U U (by simp [Value.cells]) U U fun GE=>?_
 refine rS (CL (c_.eq (fh ((mD j k)+1) 9999 ([p.Id]) (some ⟨GE,0,none⟩) 1 (by (simp; done))) bL) (ai (aT 0 U U (by simp [bp]) U)<|aH) U) ?_
 refine rP 1 [] I ?_
 refine cw (t:=63) U (bf fun Y=>?_) (bc fun Y=>?_)
 ·refine br 32 U<|RK AB<|aw fun _ Cp=>WS fun _ Cx=>br 1 U<|RK Cx<|bT U<|WK Cp<|aw fun _ LA=>WS fun _ C0=>br 2 U<|RK C0<|bo U<|WS fun _ C1=>br 1 U<|RK C1<|bV<|ao<|dM U<|ao<|ao<|aM<|KK C<|WS fun _ C2=>rP 2 [] I ?_
  refine RK C2<|ay<|Q1 hQ U U U ?_
  exact cI (hH A (oF hp (fun q=>by have q0:=rC q B; have AA:=q.id; have O:=q.AP; have V:=q.iP; have W:=q.fault; simp only [yJ] at O; omega))).symm
 refine rP 7 [0,1] (mc 3 U (mc 1 U I)) ?_
 refine dr (xs:=[.tmp 70]) (cs:=[(vI p.jt)]) U de iy U U U U (by simp [Value.cells]) U U fun GG=>?_
 refine rS (CL (c_.eq (fh 0 ((j.Race.aR.length:Int)-1) ([p.jt]) (some ⟨GG,0,none⟩) 1 (by (simp; done))) bL) (ai (aT 0 U U (by simp [bp]) U)<|aH) U) ?_
 refine rP 2 [] I ?_
 refine cw (t:=74) U (bf fun Z=>?_) (bc fun Z=>?_)
 ·refine br 21 U<|RK AB<|aw fun _ B9=>WS fun _ CK=>br 1 U<|RK CK<|bT U<|WK B9<|aw fun _ K8=>WS fun _ CV=>br 2 U<|RK CV<|bo U<|WS fun _ Ci=>br 1 U<|RK Ci<|bV<|ao<|dM U<|ao<|ao<|aM<|KK C<|WS fun _ Ck=>rP 2 [] I ?_
  refine RK Ck<|ay<|Q1 hQ U U U ?_
  exact cI (hH A (oF hp (fun q=>by have q0:=rC q B; have AA:=q.id; have O:=q.AP; have V:=q.iP; have W:=q.fault; simp only [yJ] at O; omega))).symm
 refine rP 7 [0,1] (mc 4 U (mc 2 U I)) ?_
 refine dr (xs:=[.tmp 81]) (cs:=[(vI p.kc)]) U de iy U U U U (by simp [Value.cells]) U U fun GT=>?_
 refine rS (CL (c_.eq (fh 0 ((j.Race.ax.length:Int)-1) ([p.kc]) (some ⟨GT,0,none⟩) 1 (by (simp; done))) bL) (ai (aT 0 U U (by simp [bp]) U)<|aH) U) ?_
 refine rP 2 [] I ?_
 refine cw (t:=85) U (bf fun a=>?_) (bc fun a=>?_)
 ·refine br 10 U<|RK AB<|aw fun _ A7=>WS fun _ A8=>br 1 U<|RK A8<|bT U<|WK A7<|aw fun _ K5=>WS fun _ A9=>br 2 U<|RK A9<|bo U<|WS fun _ B3=>br 1 U<|RK B3<|bV<|ao<|dM U<|ao<|ao<|aM<|KK C<|WS fun _ B8=>rP 2 [] I ?_
  refine RK B8<|ay<|Q1 hQ U U U ?_
  exact cI (hH A (oF hp (fun q=>by have q0:=rC q B; have AA:=q.id; have O:=q.AP; have V:=q.iP; have W:=q.fault; simp only [yJ] at O; omega))).symm
 refine rP 6 [0,1] (mc 5 U (mc 3 U I)) ?_
 refine dr (xs:=[.tmp 91]) (cs:=[(vI p.jn)]) U de iy U U U U (by simp [Value.cells]) U U fun GV=>?_
 refine rS (CL (c_.eq (fh 0 ((j.aC.length:Int)-1) ([p.jn]) (some ⟨GV,0,none⟩) 1 (by (simp; done))) bL) (ai (aT 0 U U (by simp [bp]) U)<|aH) U) ?_
 refine br 2 U<|RK AB<|aw fun _ L=>WS fun _ v=>rP 1 [] I ?_
 refine RK v<|cP U (bf fun T=>?_) (bc fun T=>?_)
 ·refine WK L<|aw fun _ A3=>WS fun _ A4=>rP 2 [] I ?_
  refine RK A4<|cP U (bH fun F=>?_) (bI fun F=>?_)
  ·refine WK A3<|aF<|gO 3 [] (mc 4 U I) U<|aK<|aW<|KK R<|aF<|rP 2 [] I ?_
   refine aK ?_
   have Eq:(vI (mD j (k+1)))=(vI p.Id):=by exact cI (kJ hp)
   have E2:(vI (((k+1):Nat):Int))=(vI ((k:Int)+1)):=by exact cI om
   refine bu (P ⟨(k+1),(by exact absurd F T)⟩ _ _ _ U os (c0 4<|bJ U Eq<|bJ U E2<|eb.nil _) (aS [5,6,7,8,9,10,11,12,13,14,15,16,17]))
  refine WS fun _ A5=>br 1 U<|RK A5<|bV<|ao<|dM U<|ao<|ao<|aM<|KK C<|WS fun _ A6=>rP 2 [] I ?_
  refine RK A6<|ay<|Q1 hQ U U U ?_
  exact cI (hH A (oF hp (fun q=>by have q0:=rC q B; have AA:=q.id; have O:=q.AP; have V:=q.iP; have W:=q.fault; simp only [yJ] at O; omega))).symm
 refine aw fun _ w=>dE cu [11,12] [] [] [0,1,2,3,4,5,6,7,8,9,10,11,12,13,14,15,16,17] [] U U U U U<|eS U (FA 0 U fc U)<|eS U (FA 10 U fc U)<|eS U (L1 (vS heA j.Race.ax.length heC) 6 U ct U U)<|eS U (FA 2 U fc U)<|eS U (L1 (vI p.kc) 4 U ct U U) ?_
 have J8:=(dx A).2
 obtain ⟨ht,K⟩:=aO j.Race.ax ((p.kc).toNat) om
 obtain ⟨E,J⟩:=aO ha ((p.kc).toNat) om
 have FS:(List.zipWith cc j.Race.ax ha)[(p.kc).toNat]? =some (cc ht E):=dj K J
 refine eS U (IA ((p.kc).toNat) U (aQ 14 U) pk dc om om)<|eS U (iY ((p.kc).toNat) 0 (vS E.1.1 ht.length E.1.2) U ct (aQ 14 U) FS U dc U)<|eS U (FA 1 U fc U) ?_
 have FI:=Fd.iP _ _ _ K J
 have LO:=FI.oL
 have LT:=(J8.iP ht (aP K)).1
 refine eS U (L1 (vI p.jt) 4 U ct U U) ?_
 obtain ⟨d,hd⟩:=aO ht ((p.jt).toNat) om
 obtain ⟨da,J1⟩:=aO E.2 ((p.jt).toNat) om
 have J2:(List.zipWith aq.cells ht E.2)[(p.jt).toNat]? =some (aq.cells d da):=dj hd J1
 refine eS U (IA ((p.jt).toNat) U (show iE _ (rd E.1.1 ht.length 7 (List.zipWith aq.cells ht E.2)).holds from (cY 15 U (bM K J cf))) qB dc om om) ?_
 have M:=qj (j:=j) (p:=p) K hd
 have NE:=FI.sig d (aP hd)
 refine eS U (nz ((p.jt).toNat) 0 (aJ.cells (aJ.mk d.Out d.cZ d.Time (cS.mk d.ba.Start d.ba.gp (bj.mk da.1 d.ba.aj.length da.2)))) U ct (show iE _ (rd E.1.1 ht.length 7 (List.zipWith aq.cells ht E.2)).holds from (cY 15 U (bM K J cf))) J2 U dc U U)<|er U<|cb U fun T43 Di=>AL U Cm fun L9=>aK (Di _ _ (aS [1,2,3,4,5,6,7,8,9,10,11,12,13,14,15,16,17,18]) ?_)
 refine cb U fun T45 Do=>fF U E_ U<|aK (Do _ _ (aS [1,2,3,4,5,6,7,8,9,10,11,12,13,14,15,16,17,18]) ?_)
 refine fD U<|KK w<|aF<|gO 1 [] (mc 0 U I) U<|rS (CL (pC d.Out d.cZ d.Time (cS.mk d.ba.Start d.ba.gp (bj.mk da.1 d.ba.aj.length da.2))) (aH) U)<|rP 1 [] I ?_
 refine cw (t:=109) U (bf fun H=>?_) (bc fun H=>?_)
 ·refine br 9 U<|RK L<|aw fun _ K4=>WS fun _ A0=>br 2 U<|RK A0<|bo U<|WS fun _ A1=>br 1 U<|RK A1<|bV<|ao<|dM U<|ao<|ao<|aM<|KK C<|WS fun _ A2=>rP 2 [] I ?_
  refine RK A2<|ay<|Q1 hQ U U U ?_
  exact cI (hH A (oF hp (fun q=>by obtain ⟨d2,X,r1,r2⟩:=q.qf; rw [M] at X; cases X; first|exact H r1|omega))).symm
 refine rP 5 [0,1] (mc 0 U (mc 5 U I)) ?_
 refine dr (xs:=[.tmp 114]) (cs:=[(vI p.At)]) U de iy U U U U (by simp [Value.cells]) U U fun Go=>?_
 refine rS (CL (c_.eq (fh d.ba.Start 86400000 ([p.At]) (some ⟨Go,0,none⟩) 1 (by (simp; done))) bL) (ai (aT 0 U U (by simp [bp]) U)<|aH) U) ?_
 refine br 2 U<|RK L<|aw fun _ x=>WS fun _ y=>rP 2 [] I ?_
 refine RK y<|cP U (bH fun F=>?_) (bI fun F=>?_)
 ·refine WK x<|aF<|gO 3 [] (mc 6 U I) U<|aK<|aW<|KK R<|aF<|rP 2 [] I ?_
  refine aK ?_
  have EQ:(vI (mD j (k+1)))=(vI p.Id):=by exact cI (kJ hp)
  have ER:(vI (((k+1):Nat):Int))=(vI ((k:Int)+1)):=by exact cI om
  refine bu (P ⟨(k+1),(by exact ⟨om,yA D hp (Gy hp Y J4.1 Z a T M H F)⟩)⟩ _ _ _ U os (c0 4<|bJ U EQ<|bJ U ER<|eb.nil _) (aS [7,8,9,10,11,12,13,14,15,16,17,18,19]))
 refine WS fun _ AC=>br 1 U<|RK AC<|bV<|ao<|dM U<|ao<|ao<|aM<|KK C<|WS fun _ AO=>rP 2 [] I ?_
 refine RK AO<|ay<|Q1 hQ U U U ?_
 exact cI (hH A (oF hp (fun q=>by obtain ⟨d2,X,r1,r2⟩:=q.qf; rw [M] at X; cases X; first|exact H r1|omega))).symm
theorem m_ (j:cn) (kA:OA) (kC:Nat) (az:List RA) (cA:OA) (cC:Nat) (bA:OA) (bC:Nat) (slA:OA) (slC:Nat) (drA:OA) (drC:Nat) (ha:List cg) (heA:OA) (heC:Nat) (faA:OA) (faC:Nat) (prA:OA) (prC:Nat) (hin:eB j az ha):
 c_ Tryz.prog 40 [(vA (fH.cells (lY j kA kC cA cC bA bC slA slC drA drC heA heC faA faC prA prC)))] [(rd ek 3 2 dH),(rd kA j.Race.ak.aU.length 9 (j.Race.ak.aU.map av.cells)),(rd cA j.Race.ak.ar.length 2 (List.zipWith aB.cells j.Race.ak.ar az)),(dw (aX aB.gQ j.Race.ak.ar az)),(rd bA j.Race.ak.aa.length 4 (j.Race.ak.aa.map bD.cells)),(rd slA j.Race.aR.length 1 (j.Race.aR.map iC)),(rd drA j.Race.b_.length 1 (j.Race.b_.map iC)),(rd heA j.Race.ax.length 1 (List.zipWith cc j.Race.ax ha)),(dw (aX ep j.Race.ax ha)),(rd faA j.aC.length 4 (j.aC.map aI.cells)),(rd prA j.aD.length 5 (j.aD.map aV.cells))] (vT [(vA (ck.cells (ck.mk (lY j kA kC cA cC bA bC slA slC drA drC heA heC faA faC prA prC)))),(vI (cH j))]):=by
 refine bq kr Tryz.func40 U U fun E Q hQ hN=>?_
 try dsimp only
 refine WS fun _ A=>e8 U fun C=>AL U xU fun D=>br 1 U<|RK A<|aw fun _ B=>dh cu 4 kr<|mW 1 [] (mc 1 U I) U<|dS (SX (aZ (xs:=[(0,.tmp 4)]) (cs:=(ck.cells (ck.mk (lY j kA kC cA cC bA bC slA slC drA drC heA heC faA faC prA prC)))) U U (a_ Nm U)) U U)<|mW 1 [] (mc 1 U I) U<|dS (CL (tf j kA kC az cA cC bA bC slA slC drA drC ha heA heC faA faC prA prC hin) (aY [2,3,4,5,6,7,8,9,10,11,12]) U)<|du<|fF U wk U<|rP 1 [] I ?_
 refine RK B<|ay<|qA hQ [0] (mc 0 U I) U ?_
 rfl
end
section
open Go.RowKit
variable {E:dK} {ops:Array Oper} {D:List Deferred} {L:List (Nat×Value)} {C:List au}
variable {dst:Option Tmp} {ty:TypeId} {ps:String} {af:Array Edge} {g:Option (Nat×Bool)}
theorem qK {x ix:Operand} {t e len sz:Nat} {cs vs:List Value} {j:Int} {kd:IntKind} (m:Nat) (hg:im ops L g=true) (hx:ev L x=some (.agg cs.toArray)) (hi:ev L ix=some (.int kd j)) (ht:tX E.P t=some (len,e)) (hk:tK E.P e=some (true,sz)) (hj:j=(m:Int)) (hm:m<len) (hv:(cs.drop (m*sz)).take sz=vs):
 SD E ops ⟨dst,.index t x ix,ty,ps,af,g⟩ D L C (.agg vs.toArray):=
 dk hg sm fun a w A _=>by
  have B:(0:Int)≤(m:Int)∧(m:Int)<(len:Int):=by omega
  subst hj
  simp [execOp,A.ev hx,A.ev hi,Instr.index,asIntOf,run_underlying (Dl ht),B,hm,(l4 hk w).2,v9 hk hv w]
end
section
open Go.RowKit
theorem KV (l:List Int) (lA:OA) (lC:Nat) (hne:1≤l.length) (hlen:l.length≤1000000):
 c_ Tryz.prog 122 [(vS lA l.length lC)] [(rd lA l.length 1 (l.map iC))] (vI (kF l)):=by
 refine bq kr Tryz.func122 U U fun V Q hQ hN=>?_
 try dsimp only
 refine WS fun _ L=>br 1 U<|RK L<|aw fun _ M=>WS fun _ N=>rP 3 [] I ?_
 refine RK N<|cO U (bc fun AA=>?_) (bf fun AA=>?_)
 ·exfalso; omega
 refine WK M<|WS fun _ O=>rP 1 [] I ?_
 obtain ⟨AB,B⟩:=aO l 0 om
 have hx0m:=cD iC B
 refine rS (IA 0 U (aQ 0 U) de dc U om)<|rS (iY 0 0 (vI AB) U ct (aQ 0 U) hx0m U dc U)<|br 1 U<|RK O<|aw fun _ P=>WS fun _ R=>rP 1 [] I ?_
 refine RK R<|aL ?_
 have A:(1≤1∧1≤l.length):=by omega
 have S:(vI (kF (l.take 1)))=(vI AB):=by rw [AX B]
 refine cq (ι:={z:Nat // (1≤z∧z≤l.length)}) [0] [0] U U (fun z=>[(3,(vI (kF (l.take z.1)))),(4,(vI (z.1:Int)))]) (fun z=>[]) (fun _=>rfl) (fun _=>rfl) (fun z=>l.length-z.1) ⟨1,A⟩ (bJ U S<|bw U) (aS [0]) ?_
 clear A
 rintro ⟨i,T⟩ J9 K
 try dsimp only
 refine aw fun _ C=>WS fun _ D=>rP 4 [] I ?_
 refine RK D<|cP U (bf fun J=>?_) (bc fun J=>?_)
 ·refine bV<|ao<|ao<|aM<|KK P<|WS fun _ F=>rP 2 [] I ?_
  refine RK F<|ay<|Q1 hQ U U U ?_
  rw [List.take_of_length_le om]
 refine WK C<|aw fun _ E=>aL<|aF<|rP 3 [] I ?_
 obtain ⟨AB,B⟩:=aO l i om
 have hx0m:=cD iC B
 refine rS (IA i U (aQ 0 U) de dc om om)<|rS (iY i 0 (vI AB) U ct (aQ 0 U) hx0m U dc U)<|rS (MN U)<|br 1 U<|aK<|aW<|KK E<|aF<|rP 3 [] I ?_
 refine aK ?_
 have G:(vI (kF (l.take (i+1))))=(vI (min (kF (l.take i)) AB)):=by rw [DC B om]
 have H:(vI (((i+1):Nat):Int))=(vI ((i:Int)+1)):=by exact cI om
 refine bu (K ⟨(i+1),(by first|omega|(simp only []; omega))⟩ _ _ _ U os (eb.cons U<|bJ U G<|bJ U H<|eb.nil _) (aS [0]))
end
section
open Go.RowKit
theorem Ht (l:bk) (kA:OA) (kC:Nat) (az:List RA) (cA:OA) (cC:Nat) (bA:OA) (bC:Nat) (r:cM) (sgA:OA) (sgC:Nat) (hin:eM l az) (hsl:r.aj.length≤1000000):
 lX Tryz.prog 121 [(vA (cy.cells (kh l kA kC cA cC bA bC))),(vA (cS.cells (iv r sgA sgC)))] [(rd kA l.aU.length 9 (l.aU.map av.cells)),(rd cA l.ar.length 2 (List.zipWith aB.cells l.ar az)),(dw (aX aB.gQ l.ar az)),(rd bA l.aa.length 4 (l.aa.map bD.cells)),(rd sgA r.aj.length 2 (r.aj.map aG.cells))] (fun (x:(OA)×Nat)=>(vT [(vS x.1 ((fp l r).length) x.2),(vI (dA l r 0))])) (fun (x:(OA)×Nat)=>True) (fun (x:(OA)×Nat)=>[(own x.1 x.2 3 1 ((fp l r).map iC))]):=by
 have A4:=hin.vZ
 have AC:=hin.v7
 have w:=hin.oL
 have y:=hin.vW
 have A3:=hin.side
 refine dI kr Tryz.func121 U U fun w0 Q hQ hN=>?_
 try dsimp only
 refine WS fun _ g=>e8 U fun b2=>e8 U fun b3=>br 2 U<|RK g<|WS fun _ P=>rP 2 [0,1] (mc 1 U (mc 0 U I)) ?_
 refine cX (Gm l kA kC az cA cC bA bC r sgA sgC hin hsl) (aY [2,3,4,5,6]) U fun y5 AA=>?_
 obtain ⟨V,v,e,d,F,Y,Z,a,B,AB,G,H,A,E,W,X⟩:=y5
 cases V
 ·obtain ⟨S,he⟩:=AA.2 rfl
  try dsimp only at S he
  subst S
  try dsimp only [cond_true,cond_false,List.cons_append,List.nil_append]
  refine br 5 U<|RK P<|aw fun _ q=>WS fun _ K=>rP 2 [] I ?_
  refine RK K<|cP U (bH fun J=>?_) (bI fun J=>?_)
  ·exact absurd J he
  refine WS fun _ L=>fy 3 1 ?_
  rw [show (own none 0 3 1 ([]:List (List Value)))=own none 0 3 1 ((fp l r).map iC) from by rw [kz he]; rfl]
  refine br 1 U<|rP 2 [] I ?_
  refine RK L<|ay ?_
  refine LX hQ (none,0) [0] [] I U U U ?_ ?_
  ·first|rfl|(rw [he]; rfl)|(rw [kz he]; rfl)
  ·trivial
 obtain ⟨he,C,R,i,h,k⟩:=AA.1 rfl
 try dsimp only [cond_true,cond_false,List.cons_append,List.nil_append]
 dsimp only at C R i h k
 obtain ⟨f,D,AP,A0⟩:=g7 he
 obtain ⟨m,T⟩:=en f
 have j:=T.head
 unfold fP at j
 have o:=j_ m T D
 have A2:=D.time
 have A1:=D.len
 have s:(cN l l.aa.length).length=l.aa.length:=cG
 have t:(bX l r.aj r.aj.length).length=l.aa.length:=eE
 have AO:B.length=l.aa.length+1:=by have:=C.len; rw [show (cr l r).n=l.aa.length from cG] at this; exact this
 have z:A.length=l.aa.length+1:=by have:=R.len; rw [show (cr l r).n=l.aa.length from cG] at this; exact this
 refine br 5 U<|RK P<|aw fun _ M=>WS fun _ N=>br 1 U<|rS (SX (ef (r:= .bool false) U U U su) U U)<|RK N<|bT U<|WK M<|WS fun _ O=>rP 1 [] I ?_
 refine cX (qM (kh l kA kC cA cC bA bC) (iv r sgA sgC) (cN l l.aa.length) (bX l r.aj r.aj.length) d F a Y Z B A AB G H E W X e (by exact o) sd (by exact cG.symm) (by exact C) sd) (ai (ag (n:=(cN l l.aa.length).length) 1 U sm)<|ai (ag (n:=(bX l r.aj r.aj.length).length) 2 U (by rw [List.length_zipWith]; omega))<|ai (cR 3 U jD)<|ai (ag (n:=B.length) 4 U (by rw [List.length_zipWith]; omega))<|ai (cR 5 U jD)<|ai (ag (n:=A.length) 6 U (by rw [List.length_zipWith]; omega))<|ai (cR 7 U jD)<|dN 0 U U<|aH) U fun p u=>?_
 obtain ⟨b,c⟩:=p
 try dsimp only
 rw [show (hG (cd (kh l kA kC cA cC bA bC) (iv r sgA sgC) (cN l l.aa.length) (bX l r.aj r.aj.length)))=fp l r from (iF he).symm]
 refine rP 2 [] I ?_
 refine RK O<|ay ?_
 refine LX hQ (b,c) [0] [] I U U U ?_ ?_
 ·first|rfl|(rw [he]; rfl)|(rw [kz he]; rfl)
 ·trivial
end
section
open Go.RowKit
theorem jR (j:cn) (kA:OA) (kC:Nat) (az:List RA) (cA:OA) (cC:Nat) (bA:OA) (bC:Nat) (slA:OA) (slC:Nat) (drA:OA) (drC:Nat) (ha:List cg) (heA:OA) (heC:Nat) (faA:OA) (faC:Nat) (prA:OA) (prC:Nat) (r:cM) (sgA:OA) (sgC:Nat) (b:Int) (hin:eB j az ha) (hsl:r.aj.length≤1000000):
 c_ Tryz.prog 95 [(vA (ck.cells (ck.mk (lY j kA kC cA cC bA bC slA slC drA drC heA heC faA faC prA prC)))),(vA (cS.cells (iv r sgA sgC))),(vI b)] [(rd kA j.Race.ak.aU.length 9 (j.Race.ak.aU.map av.cells)),(rd cA j.Race.ak.ar.length 2 (List.zipWith aB.cells j.Race.ak.ar az)),(dw (aX aB.gQ j.Race.ak.ar az)),(rd bA j.Race.ak.aa.length 4 (j.Race.ak.aa.map bD.cells)),(rd slA j.Race.aR.length 1 (j.Race.aR.map iC)),(rd drA j.Race.b_.length 1 (j.Race.b_.map iC)),(rd heA j.Race.ax.length 1 (List.zipWith cc j.Race.ax ha)),(dw (aX ep j.Race.ax ha)),(rd faA j.aC.length 4 (j.aC.map aI.cells)),(rd prA j.aD.length 5 (j.aD.map aV.cells)),(rd sgA r.aj.length 2 (r.aj.map aG.cells))] (vA (iK.cells (iK.mk (ab.mk ((bY j.Race.ak r b).Lo) ((bY j.Race.ak r b).Hi)) ((bY j.Race.ak r b).each) ((bY j.Race.ak r b).never)))):=by
 have Y:=hin.race
 have AA:=hin.race.line
 have c:=hin.race.gv
 have d:=hin.race.has
 have Z:=hin.race.gD
 have W:=hin.nf
 have X:=hin.np
 refine bq kr Tryz.func95 U U fun i Q hQ hN=>?_
 try dsimp only
 refine WS fun _ O=>e8 U fun e=>e8 U fun f=>AL U lL fun g=>RK O<|aw fun _ P=>WS fun _ R=>rP 2 [] I ?_
 refine RK R<|cO U (bc fun B=>?_) (bf fun B=>?_)
 ·refine WS fun _ S=>rP 4 [] (mc 1 U I) ?_
  refine rS (SX (aZ (xs:=[(0,.tmp 15),(1,.tmp 17)]) (cs:=(ab.cells (ab.mk r.Start r.Start))) U U (a_ jr U)) U U)<|rS (SX (aZ (xs:=[(0,.tmp 18),(1,.const (vB true)),(2,.const (vB false))]) (cs:=(iK.cells (iK.mk (ab.mk r.Start r.Start) true false))) U U (a_ z8 U)) U U)<|fF U j2 U<|RK S<|ay<|yx hQ [0] (mc 0 U I) U ?_
  (rw [Bg B])
 refine WK P<|WS fun _ T=>br 3 U<|rS (LP (cy.cells (kh j.Race.ak kA kC cA cC bA bC)) 2 U ct U U U)<|gO 2 [] (mc 1 U I) U<|rS (CL (we j.Race.ak kA kC az cA cC bA bC r sgA sgC b asm hsl) (aY [3,4,5,6,13]) U)<|br 3 U<|AL U eI fun h=>fF U dC U<|br 1 U<|RK T<|aw fun _ E=>WS fun _ F=>rP 2 [] I ?_
 refine RK F<|cO U (bI fun A=>?_) (bH fun A=>?_)
 ·refine WS fun _ G=>rS (SX (aZ (xs:=[(0,.const (vI 86400000)),(1,.const (vI 86400000))]) (cs:=(ab.cells (ab.mk 86400000 86400000))) U U (a_ jr U)) U U)<|rS (SX (aZ (xs:=[(0,.tmp 32),(1,.const (vB false)),(2,.const (vB true))]) (cs:=(iK.cells (iK.mk (ab.mk 86400000 86400000) false true))) U U (a_ z8 U)) U U)<|rL U j2 U<|RK G<|ay<|yx hQ [0] (mc 1 U I) U ?_
  (rw [wj B A])
 refine WK E<|WS fun _ H=>br 3 U<|rS (LP (cy.cells (kh j.Race.ak kA kC cA cC bA bC)) 3 U ct U U U)<|rP 1 [] (mc 2 U I) ?_
 refine cX (Ht j.Race.ak kA kC az cA cC bA bC r sgA sgC asm hsl) (aY [4,5,6,7,14]) U fun V a=>?_
 obtain ⟨M,N⟩:=V
 try dsimp only
 refine br 5 U<|RK H<|WS fun _ AB=>rP 1 [] I ?_
 refine rS (CL (KV (fp j.Race.ak r) M N (by exact zp (qi A om)) (by have:=yR (l:=j.Race.ak) (r:=r); omega)) (ai (ag (n:=(fp j.Race.ak r).length) 0 U sm)<|aH) U) ?_
 refine br 3 U<|RK AB<|aw fun _ D=>WS fun _ J=>rP 2 [] I ?_
 refine RK J<|cP U (bH fun C=>?_) (bI fun C=>?_)
 ·refine WK D<|WS fun _ L=>rP 2 [] (mc 1 U I) ?_
  refine rS (SX (aZ (xs:=[(0,.tmp 50),(1,.tmp 51),(2,.const (vB false))]) (cs:=(iK.cells (iK.mk (c4 j.Race.ak r b) (decide (b<(kF (fp j.Race.ak r)))) false))) U U (a_ z8 U)) U U)<|Jl U j2 U<|RK L<|ay<|yx hQ [0] (mc 2 U I) U ?_
  (rw [ua B A (by rw [xN (qi A om)]; exact gX C),gX C])
 refine aF<|br 1 U<|OB (ab.cells (ab.mk ((c4 j.Race.ak r b).Lo) 86400000)) U Cr U U<|RK D<|WS fun _ K=>rP 2 [] (mc 1 U I) ?_
 refine rS (SX (aZ (xs:=[(0,.tmp 50),(1,.tmp 51),(2,.const (vB false))]) (cs:=(iK.cells (iK.mk (ab.mk ((c4 j.Race.ak r b).Lo) 86400000) (decide (b<(kF (fp j.Race.ak r)))) false))) U U (a_ z8 U)) U U)<|Jl U j2 U<|RK K<|ay<|yx hQ [0] (mc 2 U I) U ?_
 (rw [sU B A (by rw [xN (qi A om)]; exact eV C),eV C])
end
section
open Go.RowKit
theorem EF (j:cn) (kA:OA) (kC:Nat) (az:List RA) (cA:OA) (cC:Nat) (bA:OA) (bC:Nat) (slA:OA) (slC:Nat) (drA:OA) (drC:Nat) (ha:List cg) (heA:OA) (heC:Nat) (faA:OA) (faC:Nat) (prA:OA) (prC:Nat) (fw ff ft:Int) (d:aq) (sgA:OA) (sgC:Nat) (hin:eB j az ha) (hw:0≤fw∧fw≤1000000) (hsl:d.ba.aj.length≤1000000):
 c_ Tryz.prog 62 [(vA (ck.cells (ck.mk (lY j kA kC cA cC bA bC slA slC drA drC heA heC faA faC prA prC)))),(vA (aI.cells (aI.mk 1 fw ff ft))),(vA (aJ.cells (aJ.mk d.Out d.cZ d.Time (iv d.ba sgA sgC))))] [(rd kA j.Race.ak.aU.length 9 (j.Race.ak.aU.map av.cells)),(rd cA j.Race.ak.ar.length 2 (List.zipWith aB.cells j.Race.ak.ar az)),(dw (aX aB.gQ j.Race.ak.ar az)),(rd bA j.Race.ak.aa.length 4 (j.Race.ak.aa.map bD.cells)),(rd slA j.Race.aR.length 1 (j.Race.aR.map iC)),(rd drA j.Race.b_.length 1 (j.Race.b_.map iC)),(rd heA j.Race.ax.length 1 (List.zipWith cc j.Race.ax ha)),(dw (aX ep j.Race.ax ha)),(rd faA j.aC.length 4 (j.aC.map aI.cells)),(rd prA j.aD.length 5 (j.aD.map aV.cells)),(rd sgA d.ba.aj.length 2 (d.ba.aj.map aG.cells))] (Value.int .u8 (eQ j.Race.ak (aI.mk 1 fw ff ft) d)):=by
 have l:=hin.race
 have h:=hin.race.line
 have r:=hin.race.gv
 have s:=hin.race.has
 have m:=hin.race.gD
 have i:=hin.nf
 have k:=hin.np
 refine bq kr Tryz.func62 U U fun u Q hQ hN=>?_
 try dsimp only
 refine WS fun _ a=>e8 U fun n=>e8 U fun o=>e8 U fun p=>br 1 U<|RK a<|aw fun _ b=>WS fun _ c=>gO 1 [] (mc 0 U I) U<|rS (CL (pC d.Out d.cZ d.Time (iv d.ba sgA sgC)) (aH) U)<|rP 1 [] I ?_
 refine RK c<|cO U (bI fun A=>?_) (bH fun A=>?_)
 ·refine WS fun _ e=>rP 1 [] I ?_
  refine RK e<|ay<|Q1 hQ U U U ?_
  (rw [oi (fun q=>A q)]; done)
 refine WK b<|aw fun _ f=>dE cu [4,5] [] [] [0,1,2,3,4,5,6,7,8,9,10,11,12,13] [] U U U U U<|eS U (CL s8 (aH) U)<|eS U (FA 0 U fc U)<|eS U (L1 (Value.int .u8 1) 1 U ct U U)<|eS U (SX (qK (vs:=(dD.cells (dD.mk (Value.func (.func 116) [].toArray [].toArray) (Value.func (.func 115) [].toArray [].toArray)))) 1 U U U DY ct U dc U) U U)<|er U<|cb U fun T9 g=>AL U DQ fun X=>aK (g _ _ (aS [1,2,3,4,5,6,7,8,9,10,11,12,13,14]) ?_)
 refine cb U fun T11 W=>fF U Eb U<|aK (W _ _ (aS [1,2,3,4,5,6,7,8,9,10,11,12,13,14]) ?_)
 refine fD U<|KK f<|WS fun _ V=>gO 4 [0,1,2] (mc 0 U (mc 3 U (mc 2 U I))) U<|rS (CL (Mg j kA kC cA cC bA bC slA slC drA drC heA heC faA faC prA prC 1 fw ff ft) (aH) U)<|rP 5 [] I ?_
 refine RK V<|aw fun _ AA=>mK cu [0,1,2,3,4,5,6,7,8,9] [10,11,12,13] [false,false,false,false,false,false,false,false,false,false] [] [(bU X 179 (dD.cells (dD.mk (Value.func (.func 116) [].toArray [].toArray) (Value.func (.func 115) [].toArray [].toArray)))),(bU p 43 (aJ.cells (aJ.mk d.Out d.cZ d.Time (iv d.ba sgA sgC)))),(bU o 86 (aI.cells (aI.mk 1 fw ff ft))),(bU n 97 (ck.cells (ck.mk (lY j kA kC cA cC bA bC slA slC drA drC heA heC faA faC prA prC)))),(rd kA j.Race.ak.aU.length 9 (j.Race.ak.aU.map av.cells)).ro,(rd cA j.Race.ak.ar.length 2 (List.zipWith aB.cells j.Race.ak.ar az)).ro,(dw (aX aB.gQ j.Race.ak.ar az)).ro,(rd bA j.Race.ak.aa.length 4 (j.Race.ak.aa.map bD.cells)).ro,(rd slA j.Race.aR.length 1 (j.Race.aR.map iC)).ro,(rd drA j.Race.b_.length 1 (j.Race.b_.map iC)).ro,(rd heA j.Race.ax.length 1 (List.zipWith cc j.Race.ax ha)).ro,(dw (aX ep j.Race.ax ha)).ro,(rd faA j.aC.length 4 (j.aC.map aI.cells)).ro,(rd prA j.aD.length 5 (j.aD.map aV.cells)).ro,(rd sgA d.ba.aj.length 2 (d.ba.aj.map aG.cells)).ro] [] kr (aS [0,1,2,3,4,5,6,7,8,9,10,11,12,13,14]) (aS [])<|eS U (LW 3 U ct U U)<|eS U (FA 4 U fc U)<|eS U (LP (cS.cells (iv d.ba sgA sgC)) 1 U ct U U U)<|eS U (MV U)<|eS U (CL (jR j kA kC az cA cC bA bC slA slC drA drC ha heA heC faA faC prA prC d.ba sgA sgC (-1) hin hsl) (aY [4,5,6,7,8,9,10,11,12,13,14]) U)<|eS U (LW 3 U ct U U)<|eS U (FA 4 U fc U)<|eS U (LP (cS.cells (iv d.ba sgA sgC)) 1 U ct U U U)<|eS U (MV U)<|eS U (CL (jR j kA kC az cA cC bA bC slA slC drA drC ha heA heC faA faC prA prC d.ba sgA sgC j.Race.ak.cj hin hsl) (aY [4,5,6,7,8,9,10,11,12,13,14]) U)<|er U<|nE [10,11] kr (ja ?_<|ja ?_<|re)
 rotate_left 1
 ·refine NO U U [10,12,13] fun T14 P=>AL U lL fun Y=>RD P 1 U<|N1 10<|NO U U [12,13] fun T16 R=>AL U lL fun Z=>RD R 2 U<|N1 12<|NO U U [13] fun T18 S=>fF U j2 U<|RD S 2 U<|N1 13<|NO U U [] fun T19 T=>rL U j2 U<|RD T 2 U<|nq<|KK AA<|aw fun _ F=>aL<|WS fun _ E=>rP 3 [] (mc 0 U I) ?_
  refine cE (t:=40) U (fun C=>?_) (fun C=>?_)
  ·refine br 16 U<|RK E<|bo U<|WS fun _ J=>rP 1 [] I ?_
   refine RK J<|ay<|Q1 hQ U U U ?_
   (rw [g_ rfl A]; (rw [eX (.inl C)]; done))
  refine rP 8 [0,1] (mc 0 U (mc 4 U I)) ?_
  refine cE (t:=48) U (bc fun D=>?_) (bf fun D=>?_)
  ·refine br 8 U<|RK E<|bo U<|WS fun _ K=>rP 1 [] I ?_
   refine RK K<|ay<|Q1 hQ U U U ?_
   (rw [g_ rfl A]; (rw [eX (.inr (.inl D))]; done))
  refine rP 8 [0,1] (mc 1 U (mc 4 U I)) ?_
  refine RK E<|cO U (bc fun B=>?_) (bf fun B=>?_)
  ·refine WS fun _ L=>rP 1 [] I ?_
   refine RK L<|ay<|Q1 hQ U U U ?_
   (rw [g_ rfl A]; (rw [eX (.inr (.inr B))]; done))
  refine WS fun _ G=>rP 3 [] (mc 0 U I) ?_
  refine cw (t:=59) U (fun AB=>?_) (fun AB=>?_)
  ·refine br 8 U<|RK G<|bT U<|cT<|aW<|KK F<|WS fun _ O=>rP 1 [] I ?_
   refine RK O<|ay<|Q1 hQ U U U ?_
   (rw [g_ rfl A]; (rw [hP (vY (by simpa using C) (by first|exact D|(simp only []; omega)) (by first|exact B|(simp only []; omega))) (fun q=>by rw [AB] at q; exact Bool.noConfusion q.1)]; done))
  refine gO 5 [0,1,2,3] (mc 2 U (mc 4 U (mc 0 U (mc 1 U I)))) U<|rS (CL (p5 1 fw ff ft ((bY j.Race.ak d.ba (-1)).Lo) ((bY j.Race.ak d.ba (-1)).Hi) ((bY j.Race.ak d.ba (-1)).each) ((bY j.Race.ak d.ba (-1)).never) ((bY j.Race.ak d.ba j.Race.ak.cj).Lo) ((bY j.Race.ak d.ba j.Race.ak.cj).Hi) ((bY j.Race.ak d.ba j.Race.ak.cj).each) ((bY j.Race.ak d.ba j.Race.ak.cj).never)) (aH) U)<|rP 2 [] I ?_
  refine RK G<|cO U (bc fun H=>?_) (bf fun H=>?_)
  ·refine WS fun _ M=>rP 1 [] I ?_
   refine RK M<|ay<|Q1 hQ U U U ?_
   (rw [g_ rfl A]; (rw [l7 (vY (by simpa using C) (by first|exact D|(simp only []; omega)) (by first|exact B|(simp only []; omega))) AB ((lW (show ¬ (1:Int)=3 by decide)).2 H)]; done))
  refine cT<|aW<|KK F<|WS fun _ N=>rP 1 [] I ?_
  refine RK N<|ay<|Q1 hQ U U U ?_
  (rw [g_ rfl A]; (rw [hP (vY (by simpa using C) (by first|exact D|(simp only []; omega)) (by first|exact B|(simp only []; omega))) (fun q=>H ((lW (show ¬ (1:Int)=3 by decide)).1 q.2))]; done))
 refine NO U U [11,12,13] fun T14 P=>AL U lL fun Y=>RD P 1 U<|N1 11<|NO U U [12,13] fun T16 R=>AL U lL fun Z=>RD R 2 U<|N1 12<|NO U U [13] fun T18 S=>rL U j2 U<|RD S 2 U<|N1 13<|NO U U [] fun T19 T=>fF U j2 U<|RD T 2 U<|nq<|KK AA<|aw fun _ F=>aL<|WS fun _ E=>rP 3 [] (mc 1 U I) ?_
 refine cE (t:=40) U (fun C=>?_) (fun C=>?_)
 ·refine br 16 U<|RK E<|bo U<|WS fun _ J=>rP 1 [] I ?_
  refine RK J<|ay<|Q1 hQ U U U ?_
  (rw [g_ rfl A]; (rw [eX (.inl C)]; done))
 refine rP 8 [0,1] (mc 1 U (mc 4 U I)) ?_
 refine cE (t:=48) U (bc fun D=>?_) (bf fun D=>?_)
 ·refine br 8 U<|RK E<|bo U<|WS fun _ K=>rP 1 [] I ?_
  refine RK K<|ay<|Q1 hQ U U U ?_
  (rw [g_ rfl A]; (rw [eX (.inr (.inl D))]; done))
 refine rP 8 [0,1] (mc 0 U (mc 4 U I)) ?_
 refine RK E<|cO U (bc fun B=>?_) (bf fun B=>?_)
 ·refine WS fun _ L=>rP 1 [] I ?_
  refine RK L<|ay<|Q1 hQ U U U ?_
  (rw [g_ rfl A]; (rw [eX (.inr (.inr B))]; done))
 refine WS fun _ G=>rP 3 [] (mc 1 U I) ?_
 refine cw (t:=59) U (fun AB=>?_) (fun AB=>?_)
 ·refine br 8 U<|RK G<|bT U<|cT<|aW<|KK F<|WS fun _ O=>rP 1 [] I ?_
  refine RK O<|ay<|Q1 hQ U U U ?_
  (rw [g_ rfl A]; (rw [hP (vY (by simpa using C) (by first|exact D|(simp only []; omega)) (by first|exact B|(simp only []; omega))) (fun q=>by rw [AB] at q; exact Bool.noConfusion q.1)]; done))
 refine gO 5 [0,1,2,3] (mc 2 U (mc 4 U (mc 1 U (mc 0 U I)))) U<|rS (CL (p5 1 fw ff ft ((bY j.Race.ak d.ba (-1)).Lo) ((bY j.Race.ak d.ba (-1)).Hi) ((bY j.Race.ak d.ba (-1)).each) ((bY j.Race.ak d.ba (-1)).never) ((bY j.Race.ak d.ba j.Race.ak.cj).Lo) ((bY j.Race.ak d.ba j.Race.ak.cj).Hi) ((bY j.Race.ak d.ba j.Race.ak.cj).each) ((bY j.Race.ak d.ba j.Race.ak.cj).never)) (aH) U)<|rP 2 [] I ?_
 refine RK G<|cO U (bc fun H=>?_) (bf fun H=>?_)
 ·refine WS fun _ M=>rP 1 [] I ?_
  refine RK M<|ay<|Q1 hQ U U U ?_
  (rw [g_ rfl A]; (rw [l7 (vY (by simpa using C) (by first|exact D|(simp only []; omega)) (by first|exact B|(simp only []; omega))) AB ((lW (show ¬ (1:Int)=3 by decide)).2 H)]; done))
 refine cT<|aW<|KK F<|WS fun _ N=>rP 1 [] I ?_
 refine RK N<|ay<|Q1 hQ U U U ?_
 (rw [g_ rfl A]; (rw [hP (vY (by simpa using C) (by first|exact D|(simp only []; omega)) (by first|exact B|(simp only []; omega))) (fun q=>H ((lW (show ¬ (1:Int)=3 by decide)).1 q.2))]; done))
theorem DV (j:cn) (kA:OA) (kC:Nat) (az:List RA) (cA:OA) (cC:Nat) (bA:OA) (bC:Nat) (slA:OA) (slC:Nat) (drA:OA) (drC:Nat) (ha:List cg) (heA:OA) (heC:Nat) (faA:OA) (faC:Nat) (prA:OA) (prC:Nat) (fw ff ft:Int) (d:aq) (sgA:OA) (sgC:Nat) (hin:eB j az ha) (hw:0≤fw∧fw≤1000000) (hsl:d.ba.aj.length≤1000000):
 c_ Tryz.prog 62 [(vA (ck.cells (ck.mk (lY j kA kC cA cC bA bC slA slC drA drC heA heC faA faC prA prC)))),(vA (aI.cells (aI.mk 2 fw ff ft))),(vA (aJ.cells (aJ.mk d.Out d.cZ d.Time (iv d.ba sgA sgC))))] [(rd kA j.Race.ak.aU.length 9 (j.Race.ak.aU.map av.cells)),(rd cA j.Race.ak.ar.length 2 (List.zipWith aB.cells j.Race.ak.ar az)),(dw (aX aB.gQ j.Race.ak.ar az)),(rd bA j.Race.ak.aa.length 4 (j.Race.ak.aa.map bD.cells)),(rd slA j.Race.aR.length 1 (j.Race.aR.map iC)),(rd drA j.Race.b_.length 1 (j.Race.b_.map iC)),(rd heA j.Race.ax.length 1 (List.zipWith cc j.Race.ax ha)),(dw (aX ep j.Race.ax ha)),(rd faA j.aC.length 4 (j.aC.map aI.cells)),(rd prA j.aD.length 5 (j.aD.map aV.cells)),(rd sgA d.ba.aj.length 2 (d.ba.aj.map aG.cells))] (Value.int .u8 (eQ j.Race.ak (aI.mk 2 fw ff ft) d)):=by
 have l:=hin.race
 have h:=hin.race.line
 have r:=hin.race.gv
 have s:=hin.race.has
 have m:=hin.race.gD
 have i:=hin.nf
 have k:=hin.np
 refine bq kr Tryz.func62 U U fun u Q hQ hN=>?_
 try dsimp only
 refine WS fun _ a=>e8 U fun n=>e8 U fun o=>e8 U fun p=>br 1 U<|RK a<|aw fun _ b=>WS fun _ c=>gO 1 [] (mc 0 U I) U<|rS (CL (pC d.Out d.cZ d.Time (iv d.ba sgA sgC)) (aH) U)<|rP 1 [] I ?_
 refine RK c<|cO U (bI fun A=>?_) (bH fun A=>?_)
 ·refine WS fun _ e=>rP 1 [] I ?_
  refine RK e<|ay<|Q1 hQ U U U ?_
  (rw [oi (fun q=>A q)]; done)
 refine WK b<|aw fun _ f=>dE cu [4,5] [] [] [0,1,2,3,4,5,6,7,8,9,10,11,12,13] [] U U U U U<|eS U (CL s8 (aH) U)<|eS U (FA 0 U fc U)<|eS U (L1 (Value.int .u8 2) 1 U ct U U)<|eS U (SX (qK (vs:=(dD.cells (dD.mk (Value.func (.func 117) [].toArray [].toArray) (Value.func (.func 115) [].toArray [].toArray)))) 2 U U U DY ct U dc U) U U)<|er U<|cb U fun T9 g=>AL U DQ fun X=>aK (g _ _ (aS [1,2,3,4,5,6,7,8,9,10,11,12,13,14]) ?_)
 refine cb U fun T11 W=>fF U Eb U<|aK (W _ _ (aS [1,2,3,4,5,6,7,8,9,10,11,12,13,14]) ?_)
 refine fD U<|KK f<|WS fun _ V=>gO 4 [0,1,2] (mc 0 U (mc 3 U (mc 2 U I))) U<|rS (CL (Mz j kA kC cA cC bA bC slA slC drA drC heA heC faA faC prA prC 2 fw ff ft hw) (aH) U)<|rP 5 [] I ?_
 refine RK V<|aw fun _ AA=>mK cu [0,1,2,3,4,5,6,7,8,9] [10,11,12,13] [false,false,false,false,false,false,false,false,false,false] [] [(bU X 179 (dD.cells (dD.mk (Value.func (.func 117) [].toArray [].toArray) (Value.func (.func 115) [].toArray [].toArray)))),(bU p 43 (aJ.cells (aJ.mk d.Out d.cZ d.Time (iv d.ba sgA sgC)))),(bU o 86 (aI.cells (aI.mk 2 fw ff ft))),(bU n 97 (ck.cells (ck.mk (lY j kA kC cA cC bA bC slA slC drA drC heA heC faA faC prA prC)))),(rd kA j.Race.ak.aU.length 9 (j.Race.ak.aU.map av.cells)).ro,(rd cA j.Race.ak.ar.length 2 (List.zipWith aB.cells j.Race.ak.ar az)).ro,(dw (aX aB.gQ j.Race.ak.ar az)).ro,(rd bA j.Race.ak.aa.length 4 (j.Race.ak.aa.map bD.cells)).ro,(rd slA j.Race.aR.length 1 (j.Race.aR.map iC)).ro,(rd drA j.Race.b_.length 1 (j.Race.b_.map iC)).ro,(rd heA j.Race.ax.length 1 (List.zipWith cc j.Race.ax ha)).ro,(dw (aX ep j.Race.ax ha)).ro,(rd faA j.aC.length 4 (j.aC.map aI.cells)).ro,(rd prA j.aD.length 5 (j.aD.map aV.cells)).ro,(rd sgA d.ba.aj.length 2 (d.ba.aj.map aG.cells)).ro] [] kr (aS [0,1,2,3,4,5,6,7,8,9,10,11,12,13,14]) (aS [])<|eS U (LW 3 U ct U U)<|eS U (FA 4 U fc U)<|eS U (LP (cS.cells (iv d.ba sgA sgC)) 1 U ct U U U)<|eS U (MV U)<|eS U (CL (jR j kA kC az cA cC bA bC slA slC drA drC ha heA heC faA faC prA prC d.ba sgA sgC (fw-1) hin hsl) (aY [4,5,6,7,8,9,10,11,12,13,14]) U)<|eS U (LW 3 U ct U U)<|eS U (FA 4 U fc U)<|eS U (LP (cS.cells (iv d.ba sgA sgC)) 1 U ct U U U)<|eS U (MV U)<|eS U (CL (jR j kA kC az cA cC bA bC slA slC drA drC ha heA heC faA faC prA prC d.ba sgA sgC fw hin hsl) (aY [4,5,6,7,8,9,10,11,12,13,14]) U)<|er U<|nE [10,11] kr (ja ?_<|ja ?_<|re)
 rotate_left 1
 ·refine NO U U [10,12,13] fun T14 P=>AL U lL fun Y=>RD P 1 U<|N1 10<|NO U U [12,13] fun T16 R=>AL U lL fun Z=>RD R 2 U<|N1 12<|NO U U [13] fun T18 S=>fF U j2 U<|RD S 2 U<|N1 13<|NO U U [] fun T19 T=>rL U j2 U<|RD T 2 U<|nq<|KK AA<|aw fun _ F=>aL<|WS fun _ E=>rP 3 [] (mc 0 U I) ?_
  refine cE (t:=40) U (fun C=>?_) (fun C=>?_)
  ·refine br 16 U<|RK E<|bo U<|WS fun _ J=>rP 1 [] I ?_
   refine RK J<|ay<|Q1 hQ U U U ?_
   (rw [g9 rfl A]; (rw [eX (.inl C)]; done))
  refine rP 8 [0,1] (mc 0 U (mc 4 U I)) ?_
  refine cE (t:=48) U (bc fun D=>?_) (bf fun D=>?_)
  ·refine br 8 U<|RK E<|bo U<|WS fun _ K=>rP 1 [] I ?_
   refine RK K<|ay<|Q1 hQ U U U ?_
   (rw [g9 rfl A]; (rw [eX (.inr (.inl D))]; done))
  refine rP 8 [0,1] (mc 1 U (mc 4 U I)) ?_
  refine RK E<|cO U (bc fun B=>?_) (bf fun B=>?_)
  ·refine WS fun _ L=>rP 1 [] I ?_
   refine RK L<|ay<|Q1 hQ U U U ?_
   (rw [g9 rfl A]; (rw [eX (.inr (.inr B))]; done))
  refine WS fun _ G=>rP 3 [] (mc 0 U I) ?_
  refine cw (t:=59) U (fun AB=>?_) (fun AB=>?_)
  ·refine br 8 U<|RK G<|bT U<|cT<|aW<|KK F<|WS fun _ O=>rP 1 [] I ?_
   refine RK O<|ay<|Q1 hQ U U U ?_
   (rw [g9 rfl A]; (rw [hP (vY (by simpa using C) (by first|exact D|(simp only []; omega)) (by first|exact B|(simp only []; omega))) (fun q=>by rw [AB] at q; exact Bool.noConfusion q.1)]; done))
  refine gO 5 [0,1,2,3] (mc 2 U (mc 4 U (mc 0 U (mc 1 U I)))) U<|rS (CL (p5 2 fw ff ft ((bY j.Race.ak d.ba (fw-1)).Lo) ((bY j.Race.ak d.ba (fw-1)).Hi) ((bY j.Race.ak d.ba (fw-1)).each) ((bY j.Race.ak d.ba (fw-1)).never) ((bY j.Race.ak d.ba fw).Lo) ((bY j.Race.ak d.ba fw).Hi) ((bY j.Race.ak d.ba fw).each) ((bY j.Race.ak d.ba fw).never)) (aH) U)<|rP 2 [] I ?_
  refine RK G<|cO U (bc fun H=>?_) (bf fun H=>?_)
  ·refine WS fun _ M=>rP 1 [] I ?_
   refine RK M<|ay<|Q1 hQ U U U ?_
   (rw [g9 rfl A]; (rw [l7 (vY (by simpa using C) (by first|exact D|(simp only []; omega)) (by first|exact B|(simp only []; omega))) AB ((lW (show ¬ (2:Int)=3 by decide)).2 H)]; done))
  refine cT<|aW<|KK F<|WS fun _ N=>rP 1 [] I ?_
  refine RK N<|ay<|Q1 hQ U U U ?_
  (rw [g9 rfl A]; (rw [hP (vY (by simpa using C) (by first|exact D|(simp only []; omega)) (by first|exact B|(simp only []; omega))) (fun q=>H ((lW (show ¬ (2:Int)=3 by decide)).1 q.2))]; done))
 refine NO U U [11,12,13] fun T14 P=>AL U lL fun Y=>RD P 1 U<|N1 11<|NO U U [12,13] fun T16 R=>AL U lL fun Z=>RD R 2 U<|N1 12<|NO U U [13] fun T18 S=>rL U j2 U<|RD S 2 U<|N1 13<|NO U U [] fun T19 T=>fF U j2 U<|RD T 2 U<|nq<|KK AA<|aw fun _ F=>aL<|WS fun _ E=>rP 3 [] (mc 1 U I) ?_
 refine cE (t:=40) U (fun C=>?_) (fun C=>?_)
 ·refine br 16 U<|RK E<|bo U<|WS fun _ J=>rP 1 [] I ?_
  refine RK J<|ay<|Q1 hQ U U U ?_
  (rw [g9 rfl A]; (rw [eX (.inl C)]; done))
 refine rP 8 [0,1] (mc 1 U (mc 4 U I)) ?_
 refine cE (t:=48) U (bc fun D=>?_) (bf fun D=>?_)
 ·refine br 8 U<|RK E<|bo U<|WS fun _ K=>rP 1 [] I ?_
  refine RK K<|ay<|Q1 hQ U U U ?_
  (rw [g9 rfl A]; (rw [eX (.inr (.inl D))]; done))
 refine rP 8 [0,1] (mc 0 U (mc 4 U I)) ?_
 refine RK E<|cO U (bc fun B=>?_) (bf fun B=>?_)
 ·refine WS fun _ L=>rP 1 [] I ?_
  refine RK L<|ay<|Q1 hQ U U U ?_
  (rw [g9 rfl A]; (rw [eX (.inr (.inr B))]; done))
 refine WS fun _ G=>rP 3 [] (mc 1 U I) ?_
 refine cw (t:=59) U (fun AB=>?_) (fun AB=>?_)
 ·refine br 8 U<|RK G<|bT U<|cT<|aW<|KK F<|WS fun _ O=>rP 1 [] I ?_
  refine RK O<|ay<|Q1 hQ U U U ?_
  (rw [g9 rfl A]; (rw [hP (vY (by simpa using C) (by first|exact D|(simp only []; omega)) (by first|exact B|(simp only []; omega))) (fun q=>by rw [AB] at q; exact Bool.noConfusion q.1)]; done))
 refine gO 5 [0,1,2,3] (mc 2 U (mc 4 U (mc 1 U (mc 0 U I)))) U<|rS (CL (p5 2 fw ff ft ((bY j.Race.ak d.ba (fw-1)).Lo) ((bY j.Race.ak d.ba (fw-1)).Hi) ((bY j.Race.ak d.ba (fw-1)).each) ((bY j.Race.ak d.ba (fw-1)).never) ((bY j.Race.ak d.ba fw).Lo) ((bY j.Race.ak d.ba fw).Hi) ((bY j.Race.ak d.ba fw).each) ((bY j.Race.ak d.ba fw).never)) (aH) U)<|rP 2 [] I ?_
 refine RK G<|cO U (bc fun H=>?_) (bf fun H=>?_)
 ·refine WS fun _ M=>rP 1 [] I ?_
  refine RK M<|ay<|Q1 hQ U U U ?_
  (rw [g9 rfl A]; (rw [l7 (vY (by simpa using C) (by first|exact D|(simp only []; omega)) (by first|exact B|(simp only []; omega))) AB ((lW (show ¬ (2:Int)=3 by decide)).2 H)]; done))
 refine cT<|aW<|KK F<|WS fun _ N=>rP 1 [] I ?_
 refine RK N<|ay<|Q1 hQ U U U ?_
 (rw [g9 rfl A]; (rw [hP (vY (by simpa using C) (by first|exact D|(simp only []; omega)) (by first|exact B|(simp only []; omega))) (fun q=>H ((lW (show ¬ (2:Int)=3 by decide)).1 q.2))]; done))
theorem D2 (j:cn) (kA:OA) (kC:Nat) (az:List RA) (cA:OA) (cC:Nat) (bA:OA) (bC:Nat) (slA:OA) (slC:Nat) (drA:OA) (drC:Nat) (ha:List cg) (heA:OA) (heC:Nat) (faA:OA) (faC:Nat) (prA:OA) (prC:Nat) (fw ff ft:Int) (d:aq) (sgA:OA) (sgC:Nat) (hin:eB j az ha) (hw:0≤fw∧fw≤1000000) (hsl:d.ba.aj.length≤1000000):
 c_ Tryz.prog 62 [(vA (ck.cells (ck.mk (lY j kA kC cA cC bA bC slA slC drA drC heA heC faA faC prA prC)))),(vA (aI.cells (aI.mk 3 fw ff ft))),(vA (aJ.cells (aJ.mk d.Out d.cZ d.Time (iv d.ba sgA sgC))))] [(rd kA j.Race.ak.aU.length 9 (j.Race.ak.aU.map av.cells)),(rd cA j.Race.ak.ar.length 2 (List.zipWith aB.cells j.Race.ak.ar az)),(dw (aX aB.gQ j.Race.ak.ar az)),(rd bA j.Race.ak.aa.length 4 (j.Race.ak.aa.map bD.cells)),(rd slA j.Race.aR.length 1 (j.Race.aR.map iC)),(rd drA j.Race.b_.length 1 (j.Race.b_.map iC)),(rd heA j.Race.ax.length 1 (List.zipWith cc j.Race.ax ha)),(dw (aX ep j.Race.ax ha)),(rd faA j.aC.length 4 (j.aC.map aI.cells)),(rd prA j.aD.length 5 (j.aD.map aV.cells)),(rd sgA d.ba.aj.length 2 (d.ba.aj.map aG.cells))] (Value.int .u8 (eQ j.Race.ak (aI.mk 3 fw ff ft) d)):=by
 have l:=hin.race
 have h:=hin.race.line
 have r:=hin.race.gv
 have s:=hin.race.has
 have m:=hin.race.gD
 have i:=hin.nf
 have k:=hin.np
 refine bq kr Tryz.func62 U U fun u Q hQ hN=>?_
 try dsimp only
 refine WS fun _ a=>e8 U fun n=>e8 U fun o=>e8 U fun p=>br 1 U<|RK a<|aw fun _ b=>WS fun _ c=>gO 1 [] (mc 0 U I) U<|rS (CL (pC d.Out d.cZ d.Time (iv d.ba sgA sgC)) (aH) U)<|rP 1 [] I ?_
 refine RK c<|cO U (bI fun A=>?_) (bH fun A=>?_)
 ·refine WS fun _ e=>rP 1 [] I ?_
  refine RK e<|ay<|Q1 hQ U U U ?_
  (rw [oi (fun q=>A q)]; done)
 refine WK b<|aw fun _ f=>dE cu [4,5] [] [] [0,1,2,3,4,5,6,7,8,9,10,11,12,13] [] U U U U U<|eS U (CL s8 (aH) U)<|eS U (FA 0 U fc U)<|eS U (L1 (Value.int .u8 3) 1 U ct U U)<|eS U (SX (qK (vs:=(dD.cells (dD.mk (Value.func (.func 118) [].toArray [].toArray) (Value.func (.func 119) [].toArray [].toArray)))) 3 U U U DY ct U dc U) U U)<|er U<|cb U fun T9 g=>AL U DQ fun X=>aK (g _ _ (aS [1,2,3,4,5,6,7,8,9,10,11,12,13,14]) ?_)
 refine cb U fun T11 W=>fF U Eb U<|aK (W _ _ (aS [1,2,3,4,5,6,7,8,9,10,11,12,13,14]) ?_)
 refine fD U<|KK f<|WS fun _ V=>gO 4 [0,1,2] (mc 0 U (mc 3 U (mc 2 U I))) U<|rS (CL (KH j kA kC cA cC bA bC slA slC drA drC heA heC faA faC prA prC 3 fw ff ft) (aH) U)<|rP 5 [] I ?_
 refine RK V<|aw fun _ AA=>mK cu [0,1,2,3,4,5,6,7,8,9] [10,11,12,13] [false,false,false,false,false,false,false,false,false,false] [] [(bU X 179 (dD.cells (dD.mk (Value.func (.func 118) [].toArray [].toArray) (Value.func (.func 119) [].toArray [].toArray)))),(bU p 43 (aJ.cells (aJ.mk d.Out d.cZ d.Time (iv d.ba sgA sgC)))),(bU o 86 (aI.cells (aI.mk 3 fw ff ft))),(bU n 97 (ck.cells (ck.mk (lY j kA kC cA cC bA bC slA slC drA drC heA heC faA faC prA prC)))),(rd kA j.Race.ak.aU.length 9 (j.Race.ak.aU.map av.cells)).ro,(rd cA j.Race.ak.ar.length 2 (List.zipWith aB.cells j.Race.ak.ar az)).ro,(dw (aX aB.gQ j.Race.ak.ar az)).ro,(rd bA j.Race.ak.aa.length 4 (j.Race.ak.aa.map bD.cells)).ro,(rd slA j.Race.aR.length 1 (j.Race.aR.map iC)).ro,(rd drA j.Race.b_.length 1 (j.Race.b_.map iC)).ro,(rd heA j.Race.ax.length 1 (List.zipWith cc j.Race.ax ha)).ro,(dw (aX ep j.Race.ax ha)).ro,(rd faA j.aC.length 4 (j.aC.map aI.cells)).ro,(rd prA j.aD.length 5 (j.aD.map aV.cells)).ro,(rd sgA d.ba.aj.length 2 (d.ba.aj.map aG.cells)).ro] [] kr (aS [0,1,2,3,4,5,6,7,8,9,10,11,12,13,14]) (aS [])<|eS U (LW 3 U ct U U)<|eS U (FA 4 U fc U)<|eS U (LP (cS.cells (iv d.ba sgA sgC)) 1 U ct U U U)<|eS U (MV U)<|eS U (CL (jR j kA kC az cA cC bA bC slA slC drA drC ha heA heC faA faC prA prC d.ba sgA sgC fw hin hsl) (aY [4,5,6,7,8,9,10,11,12,13,14]) U)<|eS U (LW 3 U ct U U)<|eS U (FA 4 U fc U)<|eS U (LP (cS.cells (iv d.ba sgA sgC)) 1 U ct U U U)<|eS U (MV U)<|eS U (CL (jR j kA kC az cA cC bA bC slA slC drA drC ha heA heC faA faC prA prC d.ba sgA sgC fw hin hsl) (aY [4,5,6,7,8,9,10,11,12,13,14]) U)<|er U<|nE [10,11] kr (ja ?_<|ja ?_<|re)
 rotate_left 1
 ·refine NO U U [10,12,13] fun T14 P=>AL U lL fun Y=>RD P 1 U<|N1 10<|NO U U [12,13] fun T16 R=>AL U lL fun Z=>RD R 2 U<|N1 12<|NO U U [13] fun T18 S=>fF U j2 U<|RD S 2 U<|N1 13<|NO U U [] fun T19 T=>rL U j2 U<|RD T 2 U<|nq<|KK AA<|aw fun _ F=>aL<|WS fun _ E=>rP 3 [] (mc 0 U I) ?_
  refine cE (t:=40) U (fun C=>?_) (fun C=>?_)
  ·refine br 16 U<|RK E<|bo U<|WS fun _ J=>rP 1 [] I ?_
   refine RK J<|ay<|Q1 hQ U U U ?_
   (rw [hO rfl A]; (rw [eX (.inl C)]; done))
  refine rP 8 [0,1] (mc 0 U (mc 4 U I)) ?_
  refine cE (t:=48) U (bc fun D=>?_) (bf fun D=>?_)
  ·refine br 8 U<|RK E<|bo U<|WS fun _ K=>rP 1 [] I ?_
   refine RK K<|ay<|Q1 hQ U U U ?_
   (rw [hO rfl A]; (rw [eX (.inr (.inl D))]; done))
  refine rP 8 [0,1] (mc 1 U (mc 4 U I)) ?_
  refine RK E<|cO U (bc fun B=>?_) (bf fun B=>?_)
  ·refine WS fun _ L=>rP 1 [] I ?_
   refine RK L<|ay<|Q1 hQ U U U ?_
   (rw [hO rfl A]; (rw [eX (.inr (.inr B))]; done))
  refine WS fun _ G=>rP 3 [] (mc 0 U I) ?_
  refine cw (t:=59) U (fun AB=>?_) (fun AB=>?_)
  ·refine br 8 U<|RK G<|bT U<|cT<|aW<|KK F<|WS fun _ O=>rP 1 [] I ?_
   refine RK O<|ay<|Q1 hQ U U U ?_
   (rw [hO rfl A]; (rw [hP (vY (by simpa using C) (by first|exact D|(simp only []; omega)) (by first|exact B|(simp only []; omega))) (fun q=>by rw [AB] at q; exact Bool.noConfusion q.1)]; done))
  refine gO 5 [0,1,2,3] (mc 2 U (mc 4 U (mc 0 U (mc 1 U I)))) U<|rS (CL (AF 3 fw ff ft ((bY j.Race.ak d.ba fw).Lo) ((bY j.Race.ak d.ba fw).Hi) ((bY j.Race.ak d.ba fw).each) ((bY j.Race.ak d.ba fw).never) ((bY j.Race.ak d.ba fw).Lo) ((bY j.Race.ak d.ba fw).Hi) ((bY j.Race.ak d.ba fw).each) ((bY j.Race.ak d.ba fw).never)) (aH) U)<|rP 2 [] I ?_
  refine RK G<|cO U (bc fun H=>?_) (bf fun H=>?_)
  ·refine WS fun _ M=>rP 1 [] I ?_
   refine RK M<|ay<|Q1 hQ U U U ?_
   (rw [hO rfl A]; (rw [l7 (vY (by simpa using C) (by first|exact D|(simp only []; omega)) (by first|exact B|(simp only []; omega))) AB ((uS rfl).2 H)]; done))
  refine cT<|aW<|KK F<|WS fun _ N=>rP 1 [] I ?_
  refine RK N<|ay<|Q1 hQ U U U ?_
  (rw [hO rfl A]; (rw [hP (vY (by simpa using C) (by first|exact D|(simp only []; omega)) (by first|exact B|(simp only []; omega))) (fun q=>H ((uS rfl).1 q.2))]; done))
 refine NO U U [11,12,13] fun T14 P=>AL U lL fun Y=>RD P 1 U<|N1 11<|NO U U [12,13] fun T16 R=>AL U lL fun Z=>RD R 2 U<|N1 12<|NO U U [13] fun T18 S=>rL U j2 U<|RD S 2 U<|N1 13<|NO U U [] fun T19 T=>fF U j2 U<|RD T 2 U<|nq<|KK AA<|aw fun _ F=>aL<|WS fun _ E=>rP 3 [] (mc 1 U I) ?_
 refine cE (t:=40) U (fun C=>?_) (fun C=>?_)
 ·refine br 16 U<|RK E<|bo U<|WS fun _ J=>rP 1 [] I ?_
  refine RK J<|ay<|Q1 hQ U U U ?_
  (rw [hO rfl A]; (rw [eX (.inl C)]; done))
 refine rP 8 [0,1] (mc 1 U (mc 4 U I)) ?_
 refine cE (t:=48) U (bc fun D=>?_) (bf fun D=>?_)
 ·refine br 8 U<|RK E<|bo U<|WS fun _ K=>rP 1 [] I ?_
  refine RK K<|ay<|Q1 hQ U U U ?_
  (rw [hO rfl A]; (rw [eX (.inr (.inl D))]; done))
 refine rP 8 [0,1] (mc 0 U (mc 4 U I)) ?_
 refine RK E<|cO U (bc fun B=>?_) (bf fun B=>?_)
 ·refine WS fun _ L=>rP 1 [] I ?_
  refine RK L<|ay<|Q1 hQ U U U ?_
  (rw [hO rfl A]; (rw [eX (.inr (.inr B))]; done))
 refine WS fun _ G=>rP 3 [] (mc 1 U I) ?_
 refine cw (t:=59) U (fun AB=>?_) (fun AB=>?_)
 ·refine br 8 U<|RK G<|bT U<|cT<|aW<|KK F<|WS fun _ O=>rP 1 [] I ?_
  refine RK O<|ay<|Q1 hQ U U U ?_
  (rw [hO rfl A]; (rw [hP (vY (by simpa using C) (by first|exact D|(simp only []; omega)) (by first|exact B|(simp only []; omega))) (fun q=>by rw [AB] at q; exact Bool.noConfusion q.1)]; done))
 refine gO 5 [0,1,2,3] (mc 2 U (mc 4 U (mc 1 U (mc 0 U I)))) U<|rS (CL (AF 3 fw ff ft ((bY j.Race.ak d.ba fw).Lo) ((bY j.Race.ak d.ba fw).Hi) ((bY j.Race.ak d.ba fw).each) ((bY j.Race.ak d.ba fw).never) ((bY j.Race.ak d.ba fw).Lo) ((bY j.Race.ak d.ba fw).Hi) ((bY j.Race.ak d.ba fw).each) ((bY j.Race.ak d.ba fw).never)) (aH) U)<|rP 2 [] I ?_
 refine RK G<|cO U (bc fun H=>?_) (bf fun H=>?_)
 ·refine WS fun _ M=>rP 1 [] I ?_
  refine RK M<|ay<|Q1 hQ U U U ?_
  (rw [hO rfl A]; (rw [l7 (vY (by simpa using C) (by first|exact D|(simp only []; omega)) (by first|exact B|(simp only []; omega))) AB ((uS rfl).2 H)]; done))
 refine cT<|aW<|KK F<|WS fun _ N=>rP 1 [] I ?_
 refine RK N<|ay<|Q1 hQ U U U ?_
 (rw [hO rfl A]; (rw [hP (vY (by simpa using C) (by first|exact D|(simp only []; omega)) (by first|exact B|(simp only []; omega))) (fun q=>H ((uS rfl).1 q.2))]; done))
theorem vL (j:cn) (kA:OA) (kC:Nat) (az:List RA) (cA:OA) (cC:Nat) (bA:OA) (bC:Nat) (slA:OA) (slC:Nat) (drA:OA) (drC:Nat) (ha:List cg) (heA:OA) (heC:Nat) (faA:OA) (faC:Nat) (prA:OA) (prC:Nat) (f:aI) (d:aq) (sgA:OA) (sgC:Nat) (hin:eB j az ha) (hk:1≤f.Kind∧f.Kind≤3) (hw:0≤f.gh∧f.gh≤1000000) (hsl:d.ba.aj.length≤1000000):
 c_ Tryz.prog 62 [(vA (ck.cells (ck.mk (lY j kA kC cA cC bA bC slA slC drA drC heA heC faA faC prA prC)))),(vA (aI.cells f)),(vA (aJ.cells (aJ.mk d.Out d.cZ d.Time (iv d.ba sgA sgC))))] [(rd kA j.Race.ak.aU.length 9 (j.Race.ak.aU.map av.cells)),(rd cA j.Race.ak.ar.length 2 (List.zipWith aB.cells j.Race.ak.ar az)),(dw (aX aB.gQ j.Race.ak.ar az)),(rd bA j.Race.ak.aa.length 4 (j.Race.ak.aa.map bD.cells)),(rd slA j.Race.aR.length 1 (j.Race.aR.map iC)),(rd drA j.Race.b_.length 1 (j.Race.b_.map iC)),(rd heA j.Race.ax.length 1 (List.zipWith cc j.Race.ax ha)),(dw (aX ep j.Race.ax ha)),(rd faA j.aC.length 4 (j.aC.map aI.cells)),(rd prA j.aD.length 5 (j.aD.map aV.cells)),(rd sgA d.ba.aj.length 2 (d.ba.aj.map aG.cells))] (Value.int .u8 (eQ j.Race.ak f d)):=by
 obtain ⟨fk,fw,ff,ft⟩:=f
 have A:fk=1∨fk=2∨fk=3:=by have:=hk; simp only at this; omega
 rcases A with rfl|rfl|rfl
 ·exact EF j kA kC az cA cC bA bC slA slC drA drC ha heA heC faA faC prA prC fw ff ft d sgA sgC hin hw hsl
 ·exact DV j kA kC az cA cC bA bC slA slC drA drC ha heA heC faA faC prA prC fw ff ft d sgA sgC hin hw hsl
 ·exact D2 j kA kC az cA cC bA bC slA slC drA drC ha heA heC faA faC prA prC fw ff ft d sgA sgC hin hw hsl
end
section
open Go.RowKit
theorem CN (j:cn) (kA:OA) (kC:Nat) (az:List RA) (cA:OA) (cC:Nat) (bA:OA) (bC:Nat) (slA:OA) (slC:Nat) (drA:OA) (drC:Nat) (ha:List cg) (heA:OA) (heC:Nat) (faA:OA) (faC:Nat) (prA:OA) (prC:Nat) (p:aV) (hin:eB j az ha) (hok:cH j=0) (hp: ∃ i:Nat,j.aD[i]? =some p):
 c_ Tryz.prog 66 [(vA (ck.cells (ck.mk (lY j kA kC cA cC bA bC slA slC drA drC heA heC faA faC prA prC)))),(vA (aV.cells p))] [(rd kA j.Race.ak.aU.length 9 (j.Race.ak.aU.map av.cells)),(rd cA j.Race.ak.ar.length 2 (List.zipWith aB.cells j.Race.ak.ar az)),(dw (aX aB.gQ j.Race.ak.ar az)),(rd bA j.Race.ak.aa.length 4 (j.Race.ak.aa.map bD.cells)),(rd slA j.Race.aR.length 1 (j.Race.aR.map iC)),(rd drA j.Race.b_.length 1 (j.Race.b_.map iC)),(rd heA j.Race.ax.length 1 (List.zipWith cc j.Race.ax ha)),(dw (aX ep j.Race.ax ha)),(rd faA j.aC.length 4 (j.aC.map aI.cells)),(rd prA j.aD.length 5 (j.aD.map aV.cells))] (Value.int .u8 (jN j p)):=by
 have S:=hin.race
 have e:=hin.race.line
 have s:=hin.race.gv
 have t:=hin.race.has
 have q:=hin.race.gD
 have k:=hin.nf
 have o:=hin.np
 have R:=(dJ hok).1
 have P:=(dJ hok).2
 have c:=(dx R).1
 have h:=(dx R).2
 have a:=(en c).2.head
 unfold fP at a
 obtain ⟨pi,f⟩:=hp
 have G:=P.GG pi p f
 have x:=G.iP
 have g:=G.AP
 simp only [yJ] at g
 have w:=G.fault
 have u:=P.min_
 refine bq kr Tryz.func66 U U fun w0 Q hQ hN=>?_
 try dsimp only
 refine WS fun _ T=>e8 U fun z=>e8 U fun b3=>rP 1 [] I ?_
 refine RK T<|aw fun _ AA=>dE cu [20,21] [] [] [0,1,2,3,4,5,6,7,8,9,10,11] [] U U U U U<|eS U (LW 1 U ct U U)<|eS U (FA 0 U fc U)<|eS U (FA 0 U fc U)<|eS U (FA 10 U fc U)<|eS U (L1 (vS heA j.Race.ax.length heC) 1 U ct U U)<|eS U (FA 2 U fc U)<|eS U (L1 (vI p.kc) 0 U ct U U) ?_
 obtain ⟨ht,C⟩:=aO j.Race.ax ((p.kc).toNat) om
 obtain ⟨A,B⟩:=aO ha ((p.kc).toNat) om
 have O:(List.zipWith cc j.Race.ax ha)[(p.kc).toNat]? =some (cc ht A):=dj C B
 refine eS U (IA ((p.kc).toNat) U (aQ 8 U) pk dc om om)<|eS U (iY ((p.kc).toNat) 0 (vS A.1.1 ht.length A.1.2) U ct (aQ 8 U) O U dc U)<|eS U (FA 1 U fc U)<|eS U (L1 (vI p.jt) 0 U ct U U) ?_
 have N:=S.iP _ _ _ C B
 have m:=N.oL
 have n:=(h.iP ht (aP C)).1
 obtain ⟨d,hd⟩:=aO ht ((p.jt).toNat) om
 obtain ⟨da,M⟩:=aO A.2 ((p.jt).toNat) om
 have Z:(List.zipWith aq.cells ht A.2)[(p.jt).toNat]? =some (aq.cells d da):=dj hd M
 refine eS U (IA ((p.jt).toNat) U (show iE _ (rd A.1.1 ht.length 7 (List.zipWith aq.cells ht A.2)).holds from (cY 9 U (bM C B cf))) qB dc om om)<|eS U (x9 ((((p.jt).toNat)*7)+4) U (show iE _ (rd A.1.1 ht.length 7 (List.zipWith aq.cells ht A.2)).holds from (cY 9 U (bM C B cf))) (Nat.mul_pos om dc) fc U) ?_
 have D:=qj (j:=j) (p:=p) C hd
 have y:=N.sig d (aP hd)
 have v:=Hx (l:=j.Race.ak) (r:=d.ba) (b:=j.Race.ak.cj) om
 refine eS U (nz ((p.jt).toNat) 4 (cS.cells (cS.mk d.ba.Start d.ba.gp (bj.mk da.1 d.ba.aj.length da.2))) U ct (show iE _ (rd A.1.1 ht.length 7 (List.zipWith aq.cells ht A.2)).holds from (cY 9 U (bM C B cf))) Z U dc U U)<|eS U (FA 0 U fc U)<|eS U (FA 0 U fc U)<|eS U (FA 0 U fc U)<|eS U (FA 4 U fc U)<|eS U (L1 (vI j.Race.ak.cj) 1 U ct U U)<|eS U (CL (jR j kA kC az cA cC bA bC slA slC drA drC ha heA heC faA faC prA prC d.ba da.1 da.2 j.Race.ak.cj hin asm) (m7 [2,3,4,5,6,7,8,9,10,11]<|ai (show iE _ (rd da.1 d.ba.aj.length 2 (d.ba.aj.map aG.cells)).holds from (cY 9 U (bM C B (db _ (bM hd M (by simp [aq.gQ]))))))<|aH) U)<|er U<|cb U fun T5 X=>AL U lL fun b6=>aK (X _ _ (aS [1,2,3,4,5,6,7,8,9,10,11,12]) ?_)
 refine cb U fun T7 Y=>fF U j2 U<|aK (Y _ _ (aS [1,2,3,4,5,6,7,8,9,10,11,12]) ?_)
 refine fD U<|KK AA<|WS fun _ V=>gO 3 [] (mc 2 U I) U<|rS (BI U (s4 ⟨om,om⟩))<|br 1 U<|RK V<|aw fun _ W=>aL<|WS fun _ H=>rP 9 [0,1] (mc 1 U (mc 0 U I)) ?_
 refine RK H<|cO U (bc fun E=>?_) (bf fun E=>?_)
 ·refine WS fun _ AB=>rP 1 [] I ?_
  refine RK AB<|ay<|Q1 hQ U U U ?_
  (rw [Km D E]; done)
 refine WS fun _ J=>rP 9 [0,1] (mc 1 U (mc 0 U I)) ?_
 refine RK J<|cO U (bc fun F=>?_) (bf fun F=>?_)
 ·refine WS fun _ K=>rP 1 [] I ?_
  refine RK K<|ay<|Q1 hQ U U U ?_
  (rw [Jp D E F]; done)
 refine cT<|aW<|KK W<|WS fun _ L=>rP 1 [] I ?_
 refine RK L<|ay<|Q1 hQ U U U ?_
 (rw [IP D E F]; done)
theorem qD (j:cn) (kA:OA) (kC:Nat) (az:List RA) (cA:OA) (cC:Nat) (bA:OA) (bC:Nat) (slA:OA) (slC:Nat) (drA:OA) (drC:Nat) (ha:List cg) (heA:OA) (heC:Nat) (faA:OA) (faC:Nat) (prA:OA) (prC:Nat) (i:Int) (p:aV) (hin:eB j az ha) (hok:cH j=0) (hp: ∃ i:Nat,j.aD[i]? =some p):
 c_ Tryz.prog 42 [(vA (ck.cells (ck.mk (lY j kA kC cA cC bA bC slA slC drA drC heA heC faA faC prA prC)))),(vI i),(vA (aV.cells p))] [(rd kA j.Race.ak.aU.length 9 (j.Race.ak.aU.map av.cells)),(rd cA j.Race.ak.ar.length 2 (List.zipWith aB.cells j.Race.ak.ar az)),(dw (aX aB.gQ j.Race.ak.ar az)),(rd bA j.Race.ak.aa.length 4 (j.Race.ak.aa.map bD.cells)),(rd slA j.Race.aR.length 1 (j.Race.aR.map iC)),(rd drA j.Race.b_.length 1 (j.Race.b_.map iC)),(rd heA j.Race.ax.length 1 (List.zipWith cc j.Race.ax ha)),(dw (aX ep j.Race.ax ha)),(rd faA j.aC.length 4 (j.aC.map aI.cells)),(rd prA j.aD.length 5 (j.aD.map aV.cells))] (vB (fV j p)):=by
 have O:=hin.race
 have V:=hin.race.line
 have h:=hin.race.gv
 have k:=hin.race.has
 have c:=hin.race.gD
 have Y:=hin.nf
 have b:=hin.np
 have M:=(dJ hok).1
 have E:=(dJ hok).2
 have AA:=(dx M).1
 have X:=(dx M).2
 have T:=(en AA).2.head
 unfold fP at T
 obtain ⟨pi,N⟩:=hp
 have F:=E.GG pi p N
 have n:=F.iP
 have W:=F.AP
 simp only [yJ] at W
 have m:=F.fault
 have l:=E.min_
 refine bq kr Tryz.func42 U U fun u Q hQ hN=>?_
 try dsimp only
 refine WS fun _ P=>e8 U fun r=>e8 U fun s=>br 1 U<|RK P<|aw fun _ G=>dh cu 29 kr<|mW 2 [0,1] (mc 1 U (mc 0 U I)) U<|dS (CL (CN j kA kC az cA cC bA bC slA slC drA drC ha heA heC faA faC prA prC p hin hok (by exact ⟨pi,N⟩)) (aY [2,3,4,5,6,7,8,9,10,11]) U)<|dS (BI U su)<|dP 1 [] I ?_
 refine f_ (t:=11) U (bH fun D=>?_) (bI fun D=>?_)
 ·refine qJ 17 U<|qJ 2 U<|dP 5 [] I ?_
  refine du<|RK G<|ay<|Q1 hQ U U U ?_
  (rw [Fj D]; done)
 refine dP 6 [0,0,1] (mc 1 U (mc 0 U I)) ?_
 obtain ⟨f,hf⟩:=aO j.aC ((p.jn).toNat) om
 have S:=cD aI.cells hf
 refine dS (IA ((p.jn).toNat) U (aQ 10 U) uJ dc om om)<|dS (nz ((p.jn).toNat) 0 (aI.cells f) U ct (aQ 10 U) S U dc U U)<|dP 6 [0,1] (mc 1 U (mc 0 U I)) ?_
 obtain ⟨ht,C⟩:=aO j.Race.ax ((p.kc).toNat) om
 obtain ⟨A,B⟩:=aO ha ((p.kc).toNat) om
 have L:(List.zipWith cc j.Race.ax ha)[(p.kc).toNat]? =some (cc ht A):=dj C B
 refine dS (IA ((p.kc).toNat) U (aQ 8 U) pk dc om om)<|dS (iY ((p.kc).toNat) 0 (vS A.1.1 ht.length A.1.2) U ct (aQ 8 U) L U dc U)<|dP 1 [] I ?_
 have K:=O.iP _ _ _ C B
 have Z:=K.oL
 have a:=(X.iP ht (aP C)).1
 refine dP 1 [] (mc 0 U I) ?_
 obtain ⟨d,hd⟩:=aO ht ((p.jt).toNat) om
 obtain ⟨da,AB⟩:=aO A.2 ((p.jt).toNat) om
 have R:(List.zipWith aq.cells ht A.2)[(p.jt).toNat]? =some (aq.cells d da):=dj hd AB
 refine dS (IA ((p.jt).toNat) U (show iE _ (rd A.1.1 ht.length 7 (List.zipWith aq.cells ht A.2)).holds from (cY 9 U (bM C B cf))) qB dc om om) ?_
 have H:=qj (j:=j) (p:=p) C hd
 have o:=K.sig d (aP hd)
 have J:=E.fault f (aP hf)
 have g:0≤f.gh∧f.gh≤1000000:=by have e:=J.2.2; split at e<;>omega
 refine dS (nz ((p.jt).toNat) 0 (aJ.cells (aJ.mk d.Out d.cZ d.Time (cS.mk d.ba.Start d.ba.gp (bj.mk da.1 d.ba.aj.length da.2)))) U ct (show iE _ (rd A.1.1 ht.length 7 (List.zipWith aq.cells ht A.2)).holds from (cY 9 U (bM C B cf))) R U dc U U)<|dS (CL (vL j kA kC az cA cC bA bC slA slC drA drC ha heA heC faA faC prA prC f d da.1 da.2 hin (by exact J.1) asm asm) (m7 [2,3,4,5,6,7,8,9,10,11]<|ai (show iE _ (rd da.1 d.ba.aj.length 2 (d.ba.aj.map aG.cells)).holds from (cY 9 U (bM C B (db _ (bM hd AB (by simp [aq.gQ]))))))<|aH) U)<|dS (BI U su)<|dP 2 [] I ?_
 refine du<|RK G<|ay<|Q1 hQ U U U ?_
 (rw [CZ H hf (fun q=>D q)]; done)
end
section
open Go.RowKit
theorem z6 (j:cn) (kA:OA) (kC:Nat) (az:List RA) (cA:OA) (cC:Nat) (bA:OA) (bC:Nat) (slA:OA) (slC:Nat) (drA:OA) (drC:Nat) (ha:List cg) (heA:OA) (heC:Nat) (faA:OA) (faC:Nat) (prA:OA) (prC:Nat) (kq hq sq:Int) (hin:eB j az ha):
 c_ Tryz.prog 32 [(vA (fH.cells (lY j kA kC cA cC bA bC slA slC drA drC heA heC faA faC prA prC))),(vI kq),(vI hq),(vI sq)] [(rd ek 3 2 dH),(rd kA j.Race.ak.aU.length 9 (j.Race.ak.aU.map av.cells)),(rd cA j.Race.ak.ar.length 2 (List.zipWith aB.cells j.Race.ak.ar az)),(dw (aX aB.gQ j.Race.ak.ar az)),(rd bA j.Race.ak.aa.length 4 (j.Race.ak.aa.map bD.cells)),(rd slA j.Race.aR.length 1 (j.Race.aR.map iC)),(rd drA j.Race.b_.length 1 (j.Race.b_.map iC)),(rd heA j.Race.ax.length 1 (List.zipWith cc j.Race.ax ha)),(dw (aX ep j.Race.ax ha)),(rd faA j.aC.length 4 (j.aC.map aI.cells)),(rd prA j.aD.length 5 (j.aD.map aV.cells))] (vT [(Value.int .u8 (kG j kq hq sq)),(vI (jW j kq hq sq))]):=by
 have O:=hin.race
 have n:=hin.race.line
 have AC:=hin.race.gv
 have AO:=hin.race.has
 have x:=hin.race.gD
 have r:=hin.nf
 have w:=hin.np
 refine bq kr Tryz.func32 U U fun w0 Q hQ hN=>?_
 try dsimp only
 refine WS fun _ W=>e8 U fun b2=>br 2 U<|RK W<|WS fun _ X=>gO 1 [] (mc 0 U I) U<|rS (CL (m_ j kA kC az cA cC bA bC slA slC drA drC ha heA heC faA faC prA prC hin) (aY [1,2,3,4,5,6,7,8,9,10,11]) U)<|br 3 U<|AL U xU fun b4=>fF U wk U<|br 1 U<|RK X<|aw fun _ Y=>WS fun _ Z=>rP 2 [] I ?_
 refine RK Z<|cO U (bI fun B=>?_) (bH fun B=>?_)
 ·refine WS fun _ a=>rP 3 [] I ?_
  refine RK a<|ay<|Q2 hQ U U U U ?_
  (have e:=Cn (k:=kq) (h:=hq) (s:=sq) B; rw [e.1,e.2]; done)
 refine WK Y<|aw fun _ b=>WS fun _ E=>rP 5 [] (mc 1 U I) ?_
 refine dr (xs:=[.tmp 24]) (cs:=[(vI kq)]) U de iy U U U U (by simp [Value.cells]) U U fun P=>?_
 refine rS (CL (c_.eq (fh 0 ((j.aC.length:Int)-1) ([kq]) (some ⟨P,0,none⟩) 1 (by (simp; done))) bL) (ai (aT 0 U U (by simp [bp]) U)<|aH) U) ?_
 refine rP 2 [] I ?_
 refine cE (t:=28) U (bI fun T=>?_) (bH fun T=>?_)
 ·refine br 21 U<|RK E<|bo U<|WS fun _ F=>rP 2 [] I ?_
  refine RK F<|ay<|Q2 hQ U U U U ?_
  (have e:=oD (k:=kq) (h:=hq) (s:=sq) B (fun q=>by unfold jZ at q; omega); rw [e.1,e.2]; done)
 refine rP 6 [] (mc 2 U I) ?_
 refine dr (xs:=[.tmp 34]) (cs:=[(vI hq)]) U de iy U U U U (by simp [Value.cells]) U U fun R=>?_
 refine rS (CL (c_.eq (fh 0 ((j.Race.ax.length:Int)-1) ([hq]) (some ⟨R,0,none⟩) 1 (by (simp; done))) bL) (ai (aT 0 U U (by simp [bp]) U)<|aH) U) ?_
 refine rP 3 [] I ?_
 refine cE (t:=39) U (bI fun AA=>?_) (bH fun AA=>?_)
 ·refine br 10 U<|RK E<|bo U<|WS fun _ G=>rP 2 [] I ?_
  refine RK G<|ay<|Q2 hQ U U U U ?_
  (have e:=oD (k:=kq) (h:=hq) (s:=sq) B (fun q=>by unfold jZ at q; omega); rw [e.1,e.2]; done)
 refine rP 6 [] (mc 3 U I) ?_
 refine dr (xs:=[.tmp 45]) (cs:=[(vI sq)]) U de iy U U U U (by simp [Value.cells]) U U fun S=>?_
 refine rS (CL (c_.eq (fh 0 ((j.Race.aR.length:Int)-1) ([sq]) (some ⟨S,0,none⟩) 1 (by (simp; done))) bL) (ai (aT 0 U U (by simp [bp]) U)<|aH) U) ?_
 refine rP 2 [] I ?_
 refine RK E<|cO U (bI fun V=>?_) (bH fun V=>?_)
 ·refine WS fun _ H=>rP 2 [] I ?_
  refine RK H<|ay<|Q2 hQ U U U U ?_
  (have e:=oD (k:=kq) (h:=hq) (s:=sq) B (fun q=>by unfold jZ at q; omega); rw [e.1,e.2]; done)
 refine WK b<|aw fun _ AB=>dh cu 18 kr<|dP 4 [0,1] (mc 3 U (mc 4 U I)) ?_
 have N:=(dJ B).1
 have l:=(dJ B).2
 have m:=(dx N).1
 have o:=(dx N).2
 have i:=(en m).2.head
 unfold fP at i
 obtain ⟨f,hf⟩:=aO j.aC ((kq).toNat) om
 have g:=cD aI.cells hf
 refine dS (IA ((kq).toNat) U (aQ 14 U) uJ dc om om)<|dS (nz ((kq).toNat) 0 (aI.cells f) U ct (aQ 14 U) g U dc U U)<|dP 4 [] (mc 4 U I) ?_
 obtain ⟨ht,D⟩:=aO j.Race.ax ((hq).toNat) om
 obtain ⟨A,C⟩:=aO ha ((hq).toNat) om
 have M:(List.zipWith cc j.Race.ax ha)[(hq).toNat]? =some (cc ht A):=dj D C
 refine dS (IA ((hq).toNat) U (aQ 12 U) pk dc om om) ?_
 have L:=O.iP _ _ _ D C
 have u:=L.oL
 have v:=(o.iP ht (aP D)).1
 refine dS (iY ((hq).toNat) 0 (vS A.1.1 ht.length A.1.2) U ct (aQ 12 U) M U dc U)<|dP 1 [] I ?_
 have p:=L.sig
 have K:=l.fault f (aP hf)
 have z:0≤f.gh∧f.gh≤1000000:=by have y:=K.2.2; split at y<;>omega
 obtain ⟨d,hd⟩:=aO ht ((sq).toNat) om
 obtain ⟨da,J⟩:=aO A.2 ((sq).toNat) om
 have c:(List.zipWith aq.cells ht A.2)[(sq).toNat]? =some (aq.cells d da):=dj hd J
 refine dS (IA ((sq).toNat) U (show iE _ (rd A.1.1 ht.length 7 (List.zipWith aq.cells ht A.2)).holds from (cY 13 U (bM D C cf))) qB dc om om)<|dS (nz ((sq).toNat) 0 (aJ.cells (aJ.mk d.Out d.cZ d.Time (cS.mk d.ba.Start d.ba.gp (bj.mk da.1 d.ba.aj.length da.2)))) U ct (show iE _ (rd A.1.1 ht.length 7 (List.zipWith aq.cells ht A.2)).holds from (cY 13 U (bM D C cf))) c U dc U U) ?_
 have AP:=p d (aP hd)
 refine dS (CL (vL j kA kC az cA cC bA bC slA slC drA drC ha heA heC faA faC prA prC f d da.1 da.2 hin (by exact K.1) asm asm) (m7 [6,7,8,9,10,11,12,13,14,15]<|ai (show iE _ (rd da.1 d.ba.aj.length 2 (d.ba.aj.map aG.cells)).holds from (cY 13 U (bM D C (db _ (bM hd J (by simp [aq.gQ]))))))<|aH) U)<|dP 2 [] I ?_
 refine du<|RK AB<|ay<|Q2 hQ U U U U ?_
 (have e:=my (k:=kq) (h:=hq) (s:=sq) B (by unfold jZ; omega) hf D hd; rw [e.1,e.2]; done)
theorem Dd (j:cn) (kA:OA) (kC:Nat) (az:List RA) (cA:OA) (cC:Nat) (bA:OA) (bC:Nat) (slA:OA) (slC:Nat) (drA:OA) (drC:Nat) (ha:List cg) (heA:OA) (heC:Nat) (faA:OA) (faC:Nat) (prA:OA) (prC:Nat) (iq:Int) (hin:eB j az ha):
 c_ Tryz.prog 34 [(vA (fH.cells (lY j kA kC cA cC bA bC slA slC drA drC heA heC faA faC prA prC))),(vI iq)] [(rd ek 3 2 dH),(rd kA j.Race.ak.aU.length 9 (j.Race.ak.aU.map av.cells)),(rd cA j.Race.ak.ar.length 2 (List.zipWith aB.cells j.Race.ak.ar az)),(dw (aX aB.gQ j.Race.ak.ar az)),(rd bA j.Race.ak.aa.length 4 (j.Race.ak.aa.map bD.cells)),(rd slA j.Race.aR.length 1 (j.Race.aR.map iC)),(rd drA j.Race.b_.length 1 (j.Race.b_.map iC)),(rd heA j.Race.ax.length 1 (List.zipWith cc j.Race.ax ha)),(dw (aX ep j.Race.ax ha)),(rd faA j.aC.length 4 (j.aC.map aI.cells)),(rd prA j.aD.length 5 (j.aD.map aV.cells))] (vT [(Value.int .u8 (p7 j iq)),(vI (n5 j iq))]):=by
 have R:=hin.race
 have M:=hin.race.line
 have T:=hin.race.gv
 have AA:=hin.race.has
 have S:=hin.race.gD
 have O:=hin.nf
 have P:=hin.np
 refine bq kr Tryz.func34 U U fun X Q hQ hN=>?_
 try dsimp only
 refine WS fun _ F=>e8 U fun V=>br 2 U<|RK F<|WS fun _ G=>gO 1 [] (mc 0 U I) U<|rS (CL (m_ j kA kC az cA cC bA bC slA slC drA drC ha heA heC faA faC prA prC hin) (aY [1,2,3,4,5,6,7,8,9,10,11]) U)<|br 3 U<|AL U xU fun W=>fF U wk U<|br 1 U<|RK G<|aw fun _ H=>WS fun _ AB=>rP 2 [] I ?_
 refine RK AB<|cO U (bI fun A=>?_) (bH fun A=>?_)
 ·refine WS fun _ J=>rP 3 [] I ?_
  refine RK J<|ay<|Q2 hQ U U U U ?_
  (have e:=Fq (i:=iq) A; rw [e.1,e.2]; done)
 refine WK H<|aw fun _ K=>WS fun _ L=>rP 5 [] (mc 1 U I) ?_
 refine dr (xs:=[.tmp 20]) (cs:=[(vI iq)]) U de iy U U U U (by simp [Value.cells]) U U fun D=>?_
 refine rS (CL (c_.eq (fh 0 ((j.aD.length:Int)-1) ([iq]) (some ⟨D,0,none⟩) 1 (by (simp; done))) bL) (ai (aT 0 U U (by simp [bp]) U)<|aH) U) ?_
 refine rP 1 [] I ?_
 refine RK L<|cO U (bI fun E=>?_) (bH fun E=>?_)
 ·refine WS fun _ B=>rP 2 [] I ?_
  refine RK B<|ay<|Q2 hQ U U U U ?_
  (have e:=xr (i:=iq) A om; rw [e.1,e.2]; done)
 refine WK K<|aw fun _ C=>dh cu 9 kr<|dP 4 [0,1] (mc 1 U (mc 2 U I)) ?_
 obtain ⟨p,hp⟩:=aO j.aD ((iq).toNat) om
 have N:=cD aV.cells hp
 refine dS (IA ((iq).toNat) U (aQ 13 U) CT dc om om)<|dS (nz ((iq).toNat) 0 (aV.cells p) U ct (aQ 13 U) N U dc U U)<|dS (CL (CN j kA kC az cA cC bA bC slA slC drA drC ha heA heC faA faC prA prC p hin asm (by exact ⟨_,hp⟩)) (aY [4,5,6,7,8,9,10,11,12,13]) U)<|dP 2 [] I ?_
 refine du<|RK C<|ay<|Q2 hQ U U U U ?_
 (have e:=rT (i:=iq) A om hp; rw [e.1,e.2]; done)
theorem xE (j:cn) (kA:OA) (kC:Nat) (az:List RA) (cA:OA) (cC:Nat) (bA:OA) (bC:Nat) (slA:OA) (slC:Nat) (drA:OA) (drC:Nat) (ha:List cg) (heA:OA) (heC:Nat) (faA:OA) (faC:Nat) (prA:OA) (prC:Nat) (hin:eB j az ha):
 lX Tryz.prog 8 [(vA (fH.cells (lY j kA kC cA cC bA bC slA slC drA drC heA heC faA faC prA prC)))] [(rd ek 3 2 dH),(rd kA j.Race.ak.aU.length 9 (j.Race.ak.aU.map av.cells)),(rd cA j.Race.ak.ar.length 2 (List.zipWith aB.cells j.Race.ak.ar az)),(dw (aX aB.gQ j.Race.ak.ar az)),(rd bA j.Race.ak.aa.length 4 (j.Race.ak.aa.map bD.cells)),(rd slA j.Race.aR.length 1 (j.Race.aR.map iC)),(rd drA j.Race.b_.length 1 (j.Race.b_.map iC)),(rd heA j.Race.ax.length 1 (List.zipWith cc j.Race.ax ha)),(dw (aX ep j.Race.ax ha)),(rd faA j.aC.length 4 (j.aC.map aI.cells)),(rd prA j.aD.length 5 (j.aD.map aV.cells))] (fun (x:(OA)×Nat)=>(vT [(vS x.1 ((iH j).length) x.2),(vI (cH j))])) (fun (x:(OA)×Nat)=>True) (fun (x:(OA)×Nat)=>[(own x.1 x.2 3 1 ((iH j).map iC))]):=by
 have S:=hin.race
 have L:=hin.race.line
 have V:=hin.race.gv
 have W:=hin.race.has
 have T:=hin.race.gD
 have P:=hin.nf
 have R:=hin.np
 refine dI kr Tryz.func8 U U fun a Q hQ hN=>?_
 try dsimp only
 refine WS fun _ E=>e8 U fun Y=>br 1 U<|br 1 U<|RK E<|WS fun _ F=>gO 1 [] (mc 0 U I) U<|rS (CL (m_ j kA kC az cA cC bA bC slA slC drA drC ha heA heC faA faC prA prC hin) (aY [1,2,3,4,5,6,7,8,9,10,11]) U)<|br 3 U<|AL U xU fun Z=>fF U wk U<|br 1 U<|RK F<|aw fun _ G=>WS fun _ H=>rP 2 [] I ?_
 refine RK H<|cO U (bI fun A=>?_) (bH fun A=>?_)
 ·refine WS fun _ AB=>fy 3 1 ?_
  rw [show (own none 0 3 1 ([]:List (List Value)))=own none 0 3 1 ((iH j).map iC) from by rw [tc A]; rfl]
  refine br 2 U<|rP 1 [] I ?_
  refine RK AB<|ay ?_
  refine LX hQ (none,0) [0] [] I U U U ?_ ?_
  ·(rw [tc A]; rfl)
  ·trivial
 refine WK G<|WS fun _ J=>rP 3 [0,1] (mc 1 U (mc 0 U I)) ?_
 refine rS (FU U) ?_
 refine cX (vg j.aD prA prC (Value.func (.func 42) [(vA (ck.cells (ck.mk (lY j kA kC cA cC bA bC slA slC drA drC heA heC faA faC prA prC))))].toArray [].toArray) (fun N B=>(fV j B)) (dw [(rd kA j.Race.ak.aU.length 9 (j.Race.ak.aU.map av.cells)),(rd cA j.Race.ak.ar.length 2 (List.zipWith aB.cells j.Race.ak.ar az)),(dw (aX aB.gQ j.Race.ak.ar az)),(rd bA j.Race.ak.aa.length 4 (j.Race.ak.aa.map bD.cells)),(rd slA j.Race.aR.length 1 (j.Race.aR.map iC)),(rd drA j.Race.b_.length 1 (j.Race.b_.map iC)),(rd heA j.Race.ax.length 1 (List.zipWith cc j.Race.ax ha)),(dw (aX ep j.Race.ax ha)),(rd faA j.aC.length 4 (j.aC.map aI.cells)),(rd prA j.aD.length 5 (j.aD.map aV.cells))]) (by intro N B M; exact jd (fi:=[(vA (ck.cells (ck.mk (lY j kA kC cA cC bA bC slA slC drA drC heA heC faA faC prA prC))))]) (ca:=[]) (ib (qD j kA kC az cA cC bA bC slA slC drA drC ha heA heC faA faC prA prC N B asm asm (by (obtain ⟨X,_,K⟩:=M; exact ⟨X,K⟩))) (aY [0,1,2,3,4,5,6,7,8,9]))) asm) (dN 12 rfl rfl<|ai (ij (aY [3,4,5,6,7,8,9,10,11,12]))<|aH) rfl fun O AA=>?_
 obtain ⟨C,D⟩:=O
 try dsimp only
 refine rP 1 [] I ?_
 rw [show (jQ (fI j.aD (fun N B=>(fV j B))) j.aD.length)=iH j from by rw [mY A]; rfl]
 refine rP 1 [] I ?_
 refine RK J<|ay ?_
 refine LX hQ (C,D) [0] [] I U U U ?_ ?_
 ·(rw [A]; rfl)
 ·trivial
theorem HA (j:cn) (kA:OA) (kC:Nat) (az:List RA) (cA:OA) (cC:Nat) (bA:OA) (bC:Nat) (slA:OA) (slC:Nat) (drA:OA) (drC:Nat) (ha:List cg) (heA:OA) (heC:Nat) (faA:OA) (faC:Nat) (prA:OA) (prC:Nat) (hin:eB j az ha):
 c_ Tryz.prog 14 [(vA (fH.cells (lY j kA kC cA cC bA bC slA slC drA drC heA heC faA faC prA prC)))] [(rd ek 3 2 dH),(rd kA j.Race.ak.aU.length 9 (j.Race.ak.aU.map av.cells)),(rd cA j.Race.ak.ar.length 2 (List.zipWith aB.cells j.Race.ak.ar az)),(dw (aX aB.gQ j.Race.ak.ar az)),(rd bA j.Race.ak.aa.length 4 (j.Race.ak.aa.map bD.cells)),(rd slA j.Race.aR.length 1 (j.Race.aR.map iC)),(rd drA j.Race.b_.length 1 (j.Race.b_.map iC)),(rd heA j.Race.ax.length 1 (List.zipWith cc j.Race.ax ha)),(dw (aX ep j.Race.ax ha)),(rd faA j.aC.length 4 (j.aC.map aI.cells)),(rd prA j.aD.length 5 (j.aD.map aV.cells))] (vT [(vI (vf j)),(vI (vK j)),(vI (cH j))]):=by
 have R:=hin.race
 have M:=hin.race.line
 have Y:=hin.race.gv
 have Z:=hin.race.has
 have S:=hin.race.gD
 have O:=hin.nf
 have P:=hin.np
 refine bq kr Tryz.func14 U U fun k Q hQ hN=>?_
 try dsimp only
 refine WS fun _ G=>e8 U fun f=>br 3 U<|RK G<|WS fun _ H=>rP 1 [] (mc 0 U I) ?_
 refine cX (xE j kA kC az cA cC bA bC slA slC drA drC ha heA heC faA faC prA prC hin) (aY [1,2,3,4,5,6,7,8,9,10,11]) U fun c b=>?_
 obtain ⟨d,g⟩:=c
 try dsimp only
 refine br 5 U<|RK H<|aw fun _ AB=>WS fun _ J=>rP 2 [] I ?_
 refine RK J<|cO U (bI fun A=>?_) (bH fun A=>?_)
 ·refine WS fun _ D=>rP 4 [] I ?_
  refine RK D<|ay<|Q3 hQ U U U U U ?_
  (have e:=BW A; rw [e.1,e.2]; done)
 refine WK AB<|WS fun _ E=>?_
 have C:=(dJ A).2
 have X:(iH j).length≤8:=by have h:=C.np; have i:=r8 (j:=j); rw [mY A]; omega
 have B:=C.Ks
 have N:=C.np
 have K:=zd (a:=((iH j).length:Int)) ⟨om,om⟩ B
 have L:=zd (a:=(j.aD.length:Int)) ⟨om,om⟩ B
 have T:=Int.mul_le_mul_of_nonneg_right (show (0:Int)≤((iH j).length:Int) by omega) B.1
 have AA:=Int.mul_le_mul_of_nonneg_right (show ((iH j).length:Int)≤8 by omega) B.1
 have V:=Int.mul_le_mul_of_nonneg_right (show (0:Int)≤(j.aD.length:Int) by omega) B.1
 have W:=Int.mul_le_mul_of_nonneg_right N B.1
 refine gO 4 [] (mc 1 U I) U<|rS (BI U (s4 K))<|br 1 U<|RK E<|aw fun _ F=>dh cu 12 kr<|mW 6 [] (mc 1 U I) U<|dS (BI U (s4 L))<|dP 5 [] I ?_
 refine du<|RK F<|ay<|Q3 hQ U U U U U ?_
 (have e:=r0 A; rw [e.1,e.2,A,mY A]; rfl)
theorem D6 (i:Int) (p:aV) (sq:Int) (g1:Nat) (j:cn) (kA:OA) (kC:Nat) (az:List RA) (cA:OA) (cC:Nat) (bA:OA) (bC:Nat) (slA:OA) (slC:Nat) (drA:OA) (drC:Nat) (ha:List cg) (heA:OA) (heC:Nat) (faA:OA) (faC:Nat) (prA:OA) (prC g2:Nat) (hin:eB j az ha) (hok:cH j=0) (hp: ∃ i:Nat,j.aD[i]? =some p):
 c_ Tryz.prog 49 [(vI i),(vA (aV.cells p)),(vP g1),(vP g2)] [(bU g1 3 [(vI sq)]),(rd kA j.Race.ak.aU.length 9 (j.Race.ak.aU.map av.cells)),(rd cA j.Race.ak.ar.length 2 (List.zipWith aB.cells j.Race.ak.ar az)),(dw (aX aB.gQ j.Race.ak.ar az)),(rd bA j.Race.ak.aa.length 4 (j.Race.ak.aa.map bD.cells)),(rd slA j.Race.aR.length 1 (j.Race.aR.map iC)),(rd drA j.Race.b_.length 1 (j.Race.b_.map iC)),(rd heA j.Race.ax.length 1 (List.zipWith cc j.Race.ax ha)),(dw (aX ep j.Race.ax ha)),(rd faA j.aC.length 4 (j.aC.map aI.cells)),(rd prA j.aD.length 5 (j.aD.map aV.cells)),(bU g2 97 (ck.cells (ck.mk (lY j kA kC cA cC bA bC slA slC drA drC heA heC faA faC prA prC))))] (vB (uX j sq p)):=by
 refine bq kr Tryz.func49 U U fun E Q hQ hN=>?_
 try dsimp only
 refine WS fun _ C=>e8 U fun D=>br 1 U<|RK C<|WS fun _ B=>rP 5 [0,1] (mc 0 U (mr 1 U I)) ?_
 refine cw (t:=11) U (bf fun A=>?_) (bc fun A=>?_)
 ·refine rP 7 [] I ?_
  refine RK B<|ay<|Q1 hQ U U U ?_
  (rw [Hw A]; done)
 refine gO 3 [0,1] (mr 12 U (mc 0 U I)) U<|rS (CL (qD j kA kC az cA cC bA bC slA slC drA drC ha heA heC faA faC prA prC i p hin hok hp) (aY [2,3,4,5,6,7,8,9,10,11]) U)<|rP 3 [] I ?_
 refine RK B<|ay<|Q1 hQ U U U ?_
 (rw [C7 A]; done)
theorem zP (j:cn) (kA:OA) (kC:Nat) (az:List RA) (cA:OA) (cC:Nat) (bA:OA) (bC:Nat) (slA:OA) (slC:Nat) (drA:OA) (drC:Nat) (ha:List cg) (heA:OA) (heC:Nat) (faA:OA) (faC:Nat) (prA:OA) (prC:Nat) (sq:Int) (hin:eB j az ha):
 c_ Tryz.prog 16 [(vA (fH.cells (lY j kA kC cA cC bA bC slA slC drA drC heA heC faA faC prA prC))),(vI sq)] [(rd ek 3 2 dH),(rd kA j.Race.ak.aU.length 9 (j.Race.ak.aU.map av.cells)),(rd cA j.Race.ak.ar.length 2 (List.zipWith aB.cells j.Race.ak.ar az)),(dw (aX aB.gQ j.Race.ak.ar az)),(rd bA j.Race.ak.aa.length 4 (j.Race.ak.aa.map bD.cells)),(rd slA j.Race.aR.length 1 (j.Race.aR.map iC)),(rd drA j.Race.b_.length 1 (j.Race.b_.map iC)),(rd heA j.Race.ax.length 1 (List.zipWith cc j.Race.ax ha)),(dw (aX ep j.Race.ax ha)),(rd faA j.aC.length 4 (j.aC.map aI.cells)),(rd prA j.aD.length 5 (j.aD.map aV.cells))] (vT [(vI (pb j sq)),(vI (mH j sq))]):=by
 have c:=hin.race
 have W:=hin.race.line
 have i:=hin.race.gv
 have k:=hin.race.has
 have d:=hin.race.gD
 have Z:=hin.nf
 have b:=hin.np
 refine bq kr Tryz.func16 U U fun q Q hQ hN=>?_
 try dsimp only
 refine WS fun _ M=>e8 U fun o=>rJ U U fun AB=>br 2 U<|RK M<|WS fun _ N=>gO 1 [] (mc 1 U I) U<|rS (CL (m_ j kA kC az cA cC bA bC slA slC drA drC ha heA heC faA faC prA prC hin) (aY [2,3,4,5,6,7,8,9,10,11,12]) U)<|br 3 U<|AL U xU fun J=>fF U wk U<|br 1 U<|RK N<|aw fun _ O=>WS fun _ P=>rP 2 [] I ?_
 refine RK P<|cO U (bI fun A=>?_) (bH fun A=>?_)
 ·refine WS fun _ R=>rP 3 [] I ?_
  refine RK R<|ay<|Q2 hQ U U U U ?_
  (have e:=BF (s:=sq) A; rw [e.1,e.2]; done)
 refine WK O<|aw fun _ S=>WS fun _ C=>rP 6 [0,1] (mc 2 U (mc 1 U I)) ?_
 refine dr (xs:=[.tmp 22]) (cs:=[(vI sq)]) U de iy U U U U (by simp [Value.cells]) U U fun K=>?_
 refine rS (CL (c_.eq (fh 0 ((j.Race.aR.length:Int)-1) ([sq]) (some ⟨K,0,none⟩) 1 (by (simp; done))) bL) (ai (aT 0 U U (by simp [bp]) U)<|aH) U) ?_
 refine rP 1 [] I ?_
 refine RK C<|cO U (bI fun L=>?_) (bH fun L=>?_)
 ·refine WS fun _ D=>rP 2 [] I ?_
  refine RK D<|ay<|Q2 hQ U U U U ?_
  (have e:=um (s:=sq) A om; rw [e.1,e.2]; done)
 refine WK S<|WS fun _ E=>rP 2 [] (mc 3 U I) ?_
 refine rS (FU U) ?_
 refine cX (vg j.aD prA prC (Value.func (.func 49) [].toArray [(vP AB),(vP J)].toArray) (fun H B=>(uX j sq B)) (dw [(bU AB 3 [(vI sq)]),(rd kA j.Race.ak.aU.length 9 (j.Race.ak.aU.map av.cells)),(rd cA j.Race.ak.ar.length 2 (List.zipWith aB.cells j.Race.ak.ar az)),(dw (aX aB.gQ j.Race.ak.ar az)),(rd bA j.Race.ak.aa.length 4 (j.Race.ak.aa.map bD.cells)),(rd slA j.Race.aR.length 1 (j.Race.aR.map iC)),(rd drA j.Race.b_.length 1 (j.Race.b_.map iC)),(rd heA j.Race.ax.length 1 (List.zipWith cc j.Race.ax ha)),(dw (aX ep j.Race.ax ha)),(rd faA j.aC.length 4 (j.aC.map aI.cells)),(rd prA j.aD.length 5 (j.aD.map aV.cells)),(bU J 97 (ck.cells (ck.mk (lY j kA kC cA cC bA bC slA slC drA drC heA heC faA faC prA prC))))]) (by intro H B X; exact jd (fi:=[]) (ca:=[(vP AB),(vP J)]) (ib (D6 H B sq AB j kA kC az cA cC bA bC slA slC drA drC ha heA heC faA faC prA prC J asm asm (by (obtain ⟨n,_,V⟩:=X; exact ⟨n,V⟩))) (aY [0,1,2,3,4,5,6,7,8,9,10,11]))) asm) (dN 14 rfl rfl<|ai (ij (aY [2,5,6,7,8,9,10,11,12,13,14,1]))<|aH) rfl fun Y f=>?_
 obtain ⟨g,h⟩:=Y
 try dsimp only
 refine br 1 U<|RK E<|WS fun _ F=>rP 1 [] I ?_
 have G:=(dJ A).2
 have m:=G.np
 have AA:=G.Ks
 have l:(jQ (fI j.aD fun _ p=>uX j sq p) j.aD.length).length≤8:=Nat.le_trans mV om
 have T:=zd (a:= -(((jQ (fI j.aD fun _ p=>uX j sq p) j.aD.length).length:Nat):Int)) ⟨om,om⟩ AA
 refine br 1 U<|rS (NG U ⟨om,om⟩)<|gO 2 [] (mc 4 U I) U<|rS (BI U (s4 T))<|rP 2 [] I ?_
 refine RK F<|ay<|Q2 hQ U U U U ?_
 (have e:=D7 (s:=sq) A om; rw [e.1,e.2]; done)
end
section
open Go.RowKit
theorem Ds (l:List aI) (lA:OA) (lC:Nat) (f:Value) (p:aI→Bool) (X:au) (hf: ∀ x0,x0∈l→yd Tryz.prog f [.agg (aI.cells x0).toArray] [X] (.bool (p x0))) (hlen:l.length≤1000000):
 c_ Tryz.prog 123 [(vS lA l.length lC),f] [(rd lA l.length 4 (l.map aI.cells)),X] (vI (oQ p l)):=by
 refine bq kr Tryz.func123 U U fun R Q hQ hN=>?_
 try dsimp only
 refine WS fun _ G=>br 1 U<|RK G<|aw fun _ H=>WS fun _ AA=>rP 3 [] I ?_
 refine RK AA<|aL ?_
 have B:(0≤l.length)∧((l.take 0).any p=false):=by simp
 refine cq (ι:={z:Nat // (z≤l.length)∧((l.take z).any p=false)}) [0,1,7] [0,1] U U (fun z=>[(8,(vI (z.1:Int)))]) (fun z=>[]) (fun _=>rfl) (fun _=>rfl) (fun z=>l.length-z.1) ⟨0,B⟩ (bw U) (aS [0,1]) ?_
 clear B
 rintro ⟨i,⟨N,A⟩⟩ J4 F
 try dsimp only
 refine WS fun _ J=>rP 1 [] I ?_
 refine RK J<|aw fun _ K=>cP U (bf fun P=>?_) (bc fun P=>?_)
 ·refine bV<|ao<|ao<|aM<|KK H<|WS fun _ E=>rP 1 [] I ?_
  refine RK E<|ay<|Q1 hQ U U U ?_
  exact cI (mI om A).symm
 refine WK K<|aw fun _ L=>aL<|WS fun _ M=>br 2 U<|RK M<|WS fun _ C=>rP 3 [] I ?_
 obtain ⟨x,hx⟩:=aO l i om
 have O:=cD aI.cells hx
 refine rS (IA i U (aQ 0 U) uJ dc om om)<|rS (nz i 0 (aI.cells x) U ct (aQ 0 U) O U dc U U)<|rS (SX (mQ U U U (hf x (aP hx)) (aY [1])) U U)<|RK C<|cO U (fun hp=>?_) (fun hp=>?_)
 ·refine WS fun _ D=>rP 2 [] I ?_
  refine RK D<|ay<|Q1 hQ U U U ?_
  exact cI (pV hx hp A).symm
 refine cT<|aW<|KK L<|aF<|rP 2 [] I ?_
 refine aK ?_
 refine bu (F ⟨(i+1),⟨om,pM hx A hp⟩⟩ _ _ _ U os (bw U) (aS [0,1]))
theorem xC (l:List aI) (lA:OA) (lC:Nat) (f:Value) (p:aI→Bool) (X:au) (hf: ∀ x0,x0∈l→yd Tryz.prog f [.agg (aI.cells x0).toArray] [X] (.bool (p x0))) (hlen:l.length≤1000000):
 c_ Tryz.prog 98 [(vS lA l.length lC),f] [(rd lA l.length 4 (l.map aI.cells)),X] (vB (l.any p)):=by
 refine bq kr Tryz.func98 U U fun C Q hQ hN=>?_
 try dsimp only
 refine WS fun _ A=>br 1 U<|RK A<|WS fun _ B=>br 2 U<|rS (CL (Ds l lA lC f p X (by exact hf) hlen) (aY [0,1]) U)<|rP 2 [] I ?_
 refine RK B<|ay<|Q1 hQ U U U ?_
 exact cB ov
theorem IG (f:aI) (fm:List (Int×Bool)) (gm:Nat) (j:cn) (kA:OA) (kC:Nat) (az:List RA) (cA:OA) (cC:Nat) (bA:OA) (bC:Nat) (slA:OA) (slC:Nat) (drA:OA) (drC:Nat) (ha:List cg) (heA:OA) (heC:Nat) (faA:OA) (faC:Nat) (prA:OA) (prC:Nat) (d:aq) (sgA:OA) (sgC g1:Nat) (g2 g3:Nat) (hin:eB j az ha) (hok:cH j=0) (hfm:f∈j.aC) (hsl:d.ba.aj.length≤1000000):
 c_ Tryz.prog 99 [(vA (aI.cells f)),(vP g1),(vP g2),(vP g3)] [(iB iV gm (b0 vB fm)),(rd kA j.Race.ak.aU.length 9 (j.Race.ak.aU.map av.cells)),(rd cA j.Race.ak.ar.length 2 (List.zipWith aB.cells j.Race.ak.ar az)),(dw (aX aB.gQ j.Race.ak.ar az)),(rd bA j.Race.ak.aa.length 4 (j.Race.ak.aa.map bD.cells)),(rd slA j.Race.aR.length 1 (j.Race.aR.map iC)),(rd drA j.Race.b_.length 1 (j.Race.b_.map iC)),(rd heA j.Race.ax.length 1 (List.zipWith cc j.Race.ax ha)),(dw (aX ep j.Race.ax ha)),(rd faA j.aC.length 4 (j.aC.map aI.cells)),(rd prA j.aD.length 5 (j.aD.map aV.cells)),(rd sgA d.ba.aj.length 2 (d.ba.aj.map aG.cells)),(bU g1 144 [(Value.map (some gm))]),(bU g2 97 (ck.cells (ck.mk (lY j kA kC cA cC bA bC slA slC drA drC heA heC faA faC prA prC)))),(bU g3 43 (aJ.cells (aJ.mk d.Out d.cZ d.Time (iv d.ba sgA sgC))))] (vB (((List.lookup (iM j.aC f) fm).getD false)&& !decide (eQ j.Race.ak f d=0))):=by
 have L:=hin.race
 have AB:=hin.race.line
 have P:=hin.race.gv
 have R:=hin.race.has
 have M:=hin.race.gD
 have J:=hin.nf
 have K:=hin.np
 have D:=(dJ hok).1
 have G:=(dJ hok).2
 have H:=(dx D).1
 have S:=(dx D).2
 have F:=(en H).2.head
 unfold fP at F
 have C:=G.fault f hfm
 have O:0≤f.gh∧f.gh≤1000000:=by have N:=C.2.2; split at N<;>omega
 refine bq kr Tryz.func99 U U fun AA Q hQ hN=>?_
 try dsimp only
 refine WS fun _ E=>e8 U fun T=>br 1 U<|RK E<|aw fun _ B=>dh cu 15 kr<|mW 5 [0,1,2] (mr 13 U (mr 14 U (mc 0 U I))) U<|dS (CL (rV j.aC faA faC f asm) (aY [10]) U)<|dS (SX (q7 (kV:=iV) (x:=(iM j.aC f)) (l:=fm) (f:=Value.bool) (z:=false) U U U ud (fM pq) Oh (by exact F5 1 U)) U U)<|dP 1 [] I ?_
 refine f_ (t:=13) U (fun A=>?_) (fun A=>?_)
 ·refine dP 7 [] I ?_
  refine du<|RK B<|ay<|Q1 hQ U U U ?_
  (rw [A,Bool.false_and]; done)
 refine mW 3 [0,1,2] (mr 14 U (mc 0 U (mr 15 U I))) U<|dS (CL (vL j kA kC az cA cC bA bC slA slC drA drC ha heA heC faA faC prA prC f d sgA sgC hin (by exact C.1) asm hsl) (aY [2,3,4,5,6,7,8,9,10,11,12]) U)<|dS (BI U su)<|dP 2 [] I ?_
 refine du<|RK B<|ay<|Q1 hQ U U U ?_
 (rw [A,Bool.true_and]; done)
end
section
open Go.RowKit
theorem Hr (fm:List (Int×Bool)) (gm:Nat) (j:cn) (kA:OA) (kC:Nat) (az:List RA) (cA:OA) (cC:Nat) (bA:OA) (bC:Nat) (slA:OA) (slC:Nat) (drA:OA) (drC:Nat) (ha:List cg) (heA:OA) (heC:Nat) (faA:OA) (faC:Nat) (prA:OA) (prC g1 g2:Nat) (hin:eB j az ha) (hok:cH j=0):
 Iy Tryz.prog 97 [] [(vP g1),(vP g2)] [(iB iV gm (b0 vB fm)),(rd kA j.Race.ak.aU.length 9 (j.Race.ak.aU.map av.cells)),(rd cA j.Race.ak.ar.length 2 (List.zipWith aB.cells j.Race.ak.ar az)),(dw (aX aB.gQ j.Race.ak.ar az)),(rd bA j.Race.ak.aa.length 4 (j.Race.ak.aa.map bD.cells)),(rd slA j.Race.aR.length 1 (j.Race.aR.map iC)),(rd drA j.Race.b_.length 1 (j.Race.b_.map iC)),(rd heA j.Race.ax.length 1 (List.zipWith cc j.Race.ax ha)),(dw (aX ep j.Race.ax ha)),(rd faA j.aC.length 4 (j.aC.map aI.cells)),(rd prA j.aD.length 5 (j.aD.map aV.cells)),(bU g1 97 (ck.cells (ck.mk (lY j kA kC cA cC bA bC slA slC drA drC heA heC faA faC prA prC)))),(bU g2 144 [(Value.map (some gm))])] ((0:Nat)) (Fa (e5 j (iR j.aC fm))) (fun k=>k=j.Race.ax.length):=by
 have Ck:=hin.race
 have GG:=hin.race.line
 have If:=hin.race.gv
 have In:=hin.race.has
 have H1:=hin.race.gD
 have GV:=hin.nf
 have Hi:=hin.np
 have Ci:=(dJ hok).1
 have JJ:=(dJ hok).2
 have GE:=(dx Ci).1
 have GT:=(dx Ci).2
 have Fn:=(en GE).2.head
 unfold fP at Fn
 refine F_ kr Tryz.func97 U U fun l J Z A0 w0 Q hY Do Di hQ hN=>?_
 try dsimp only
 refine WS fun _ ER=>rP 6 [] (mr 12 U I) ?_
 refine RK ER<|aL ?_
 have B:(0≤j.Race.ax.length)∧(J 0 A0)∧(Fo A0 w0 A0):=by exact ⟨Nat.zero_le _,Do,Di⟩
 refine cq (ι:={z:Nat×au // (z.1≤j.Race.ax.length)∧(J z.1 z.2)∧(Fo A0 w0 z.2)}) [0,1,2,15,16] [1,2,3,4,5,6,7,8,9,10,11,12,13] U U (fun z=>[(17,(vI (z.1.1:Int)))]) (fun z=>[z.1.2]) (fun _=>rfl) (fun _=>rfl) (fun z=>j.Race.ax.length-z.1.1) ⟨(0,A0),B⟩ (bw U) (aS [1,2,3,4,5,6,7,8,9,10,11,12,13,0]) ?_
 clear B
 rintro ⟨⟨h,A⟩,⟨X,F,G⟩⟩ J2 EQ
 try dsimp only at X F G
 try dsimp only
 refine WS fun _ Eq=>rP 1 [] I ?_
 refine RK Eq<|aw fun _ E2=>cP U (bf fun h5=>?_) (bc fun h5=>?_)
 ·refine bV<|ao<|ao<|aM ?_
  refine hN _ _ _ (ig (vs:=[]) trivial fun w hs=>JL 13 U (by show h=j.Race.ax.length; omega) F G hs)
 refine WK E2<|aw fun _ FI=>aL<|WS fun _ FS=>?_
 obtain ⟨ht,E⟩:=aO j.Race.ax h om
 obtain ⟨C,D⟩:=aO ha h om
 have CV:(List.zipWith cc j.Race.ax ha)[h]? =some (cc ht C):=dj E D
 refine rS (IA h U (aQ 7 U) pk dc om om) ?_
 have CK:=Ck.iP _ _ _ E D
 have Go:=CK.oL
 have HH:=(GT.iP ht (aP E)).1
 refine rS (iY h 0 (vS C.1.1 ht.length C.1.2) U ct (aQ 7 U) CV U dc U)<|rP 1 [] I ?_
 refine RK FS<|WS fun _ Fd=>jy (kV:=iV) U U fun b9=>?_
 try dsimp only
 refine br 1 U<|RK Fd<|aw fun _ b=>WS fun _ e=>rP 3 [] I ?_
 refine RK e<|aL ?_
 skip
 have B:(0≤ht.length):=by exact Nat.zero_le _
 refine cq (ι:={z:Nat // (z≤ht.length)}) [0,1,2,5,6,15,16,17,23] [1,2,3,4,5,6,7,8,9,10,11,12,13,14] U U (fun z=>[(24,(vI (z.1:Int)))]) (fun z=>[(iB iV b9 (b0 vB (fO (js j.Race.ak j.aC fm ht) z.1 0)))]) (fun _=>rfl) (fun _=>rfl) (fun z=>ht.length-z.1) ⟨0,B⟩ (bw U) (aS [1,2,3,4,5,6,7,8,9,10,11,12,13,14,0]) ?_
 clear B
 rintro ⟨q,Ft⟩ J12 Y
 try dsimp only
 refine WS fun _ g=>rP 1 [] I ?_
 refine RK g<|aw fun _ i=>cO U (bc fun C1=>?_) (bf fun C1=>?_)
 ·refine WK i<|aw fun _ m=>aL<|WS fun _ o=>br 2 U<|RK o<|aF<|rP 2 [] I ?_
  have A4:(c3 (fO (js j.Race.ak j.aC fm ht) q 0) (q:Int) true)=(fO (js j.Race.ak j.aC fm ht) (q+1) 0):=by exact Ey
  refine gu (kV:=iV) (x:=(q:Int)) (C':=[_,_,_,_,_,_,_,_,_,_,_,_,_,_,(iB iV b9 (b0 vB (fO (js j.Race.ak j.aC fm ht) (q+1) 0)))]) 14 U U U U ud (fM pq) U ((ei _ _ _ _).symm.trans (congrArg _ A4)) U<|aK<|aW<|KK m<|aF<|rP 2 [] I ?_
  refine aK ?_
  have A5:(vI (((q+1):Nat):Int))=(vI ((q:Int)+1)):=by exact cI om
  refine bu (Y ⟨(q+1),(by first|omega|(simp only []; omega))⟩ _ _ _ U os (c0 9<|bJ U A5<|eb.nil _) (aS [0,1,2,3,4,5,6,7,8,9,10,11,12,13,14]))
 refine bV<|ao<|ao<|aM<|KK b<|aw fun _ p=>WS fun _ r=>rP 3 [] I ?_
 refine RK r<|aL ?_
 rw [show (fO (js j.Race.ak j.aC fm ht) q 0)=(fO (js j.Race.ak j.aC fm ht) ht.length 0) from by rw [show q=ht.length by omega]]
 have B:(0≤ht.length):=by exact Nat.zero_le _
 refine cq (ι:={z:Nat // (z≤ht.length)}) [0,1,2,5,6,15,16,17,30,31] [0,1,2,3,4,5,6,7,8,9,10,11,12,13] U U (fun z=>[(32,(vI (z.1:Int)))]) (fun z=>[(iB iV b9 (b0 vB (fO (js j.Race.ak j.aC fm ht) ht.length z.1)))]) (fun _=>rfl) (fun _=>rfl) (fun z=>ht.length-z.1) ⟨0,B⟩ (bw U) (aS [0,1,2,3,4,5,6,7,8,9,10,11,12,13,14]) ?_
 clear B
 rintro ⟨q,Cu⟩ J22 R
 try dsimp only
 refine WS fun _ s=>rP 1 [] I ?_
 refine RK s<|aw fun _ t=>cP U (bf fun C2=>?_) (bc fun C2=>?_)
 ·refine bV<|ao<|ao<|aM<|KK p<|WS fun _ y=>br 1 U<|RK y<|aw fun _ AC=>WS fun _ AO=>rP 3 [] I ?_
  refine RK AO<|aL ?_
  rw [show (fO (js j.Race.ak j.aC fm ht) ht.length q)=(fO (js j.Race.ak j.aC fm ht) ht.length ht.length) from by rw [show q=ht.length by omega]]
  refine eH 3 1 ?_
  have B:(0≤ht.length):=by exact Nat.zero_le _
  refine cq (ι:={z:Nat×(OA)×Nat // (z.1≤ht.length)}) [0,1,2,5,6,15,16,17,47] [1,2,3,4,5,6,7,8,9,10,11,12,13,14,15] U U (fun z=>[(10,(vS z.1.2.1 ((jQ (js j.Race.ak j.aC fm ht) z.1.1).length) z.1.2.2)),(48,(vI (z.1.1:Int)))]) (fun z=>[(own z.1.2.1 z.1.2.2 3 1 ((jQ (js j.Race.ak j.aC fm ht) z.1.1).map iC))]) (fun _=>rfl) (fun _=>rfl) (fun z=>ht.length-z.1.1) ⟨(0,none,0),B⟩ (bw U) (aS [1,2,3,4,5,6,7,8,9,10,11,12,13,14,15,0]) ?_
  clear B
  rintro ⟨⟨q,a,c⟩,M⟩ J37 S
  try dsimp only at M
  try dsimp only
  refine WS fun _ AP=>rP 1 [] I ?_
  refine RK AP<|aw fun _ A1=>cP U (bf fun C3=>?_) (bc fun C3=>?_)
  ·refine bV<|ao<|ao<|aM<|KK AC<|aw fun _ V=>?_
   rw [show (jQ (js j.Race.ak j.aC fm ht) q)=(jQ (js j.Race.ak j.aC fm ht) ht.length) from by rw [show q=ht.length by omega]]
   refine aF<|rP 2 [] I ?_
   refine Er (k:=h) (k':=(h+1)) 13 15 U hY F G U U U ⟨_,_,_,EE E,U,U,U⟩ U U U U (fun B50 K AB=>?_) (fun B50 K AB=>?_)
   rotate_left 1
   ·refine rP 1 [] I ?_
    refine RK V<|bo U<|ay ?_
    refine hQ _ _ _ (ig (vs:=[]) trivial fun w hs=>zI 0 U K AB hs)
   refine br 1 U<|RK V<|bT U<|cT<|aW<|KK FI<|aF<|rP 2 [] I ?_
   refine aK ?_
   have B8:(vI (((h+1):Nat):Int))=(vI ((h:Int)+1)):=by exact cI om
   refine bu (EQ ⟨((h+1),B50),⟨om,K,AB⟩⟩ _ _ _ U os (c0 5<|bJ U B8<|eb.nil _) (aS [1,2,3,4,5,6,7,8,9,10,11,12,13,0]))
  refine WK A1<|aw fun _ AA=>aL<|WS fun _ A2=>br 2 U<|RK A2<|WS fun _ A3=>rP 2 [] I ?_
  refine rS (SX (q7 (kV:=iV) (x:=(q:Int)) (l:=(fO (js j.Race.ak j.aC fm ht) ht.length ht.length)) (f:=Value.bool) (z:=false) U U U ud (fM pq) Oh (by exact aQ 14 U)) U U)<|RK A3<|cP U (fun W=>?_) (fun W=>?_)
  ·refine cT<|aW<|KK AA<|aF<|rP 2 [] I ?_
   refine aK ?_
   rw [show (jQ (js j.Race.ak j.aC fm ht) q)=(jQ (js j.Race.ak j.aC fm ht) (q+1)) from (oN (by rw [← tG (P:=(js j.Race.ak j.aC fm ht)) (show q<ht.length by omega)]; simpa using W)).symm]
   have B3:(vI (((q+1):Nat):Int))=(vI ((q:Int)+1)):=by exact cI om
   refine bu (S ⟨((q+1),a,c),(by first|omega|(simp only []; omega))⟩ _ _ _ U os (c0 10<|bJ U B3<|eb.nil _) (aS [0,1,2,3,4,5,6,7,8,9,10,11,12,13,14,15]))
  refine aF<|rP 2 [] I ?_
  refine dr (xs:=[.tmp 55]) (cs:=[(vI (q:Int))]) U de iy U U U U (by simp [Value.cells]) U U fun IR=>?_
  refine eD (es2:=(List.map iC (jQ (js j.Race.ak j.aC fm ht) (q+1)))) (m':=(jQ (js j.Race.ak j.aC fm ht) (q+1)).length) 16 U U U ve U U sm (aT (es:=List.map iC [(q:Int)]) 0 U U (by simp [bp]) U) (m8 _) (by have:=mV (P:=(js j.Race.ak j.aC fm ht)) (n:=q); omega) (by have:=mV (P:=(js j.Race.ak j.aC fm ht)) (n:=q); simp only [maxLen]; omega) (by rw [rW (by rw [← tG (P:=(js j.Race.ak j.aC fm ht)) (show q<ht.length by omega)]; exact W)]; simp) sm U fun Cx C0=>?_
  try dsimp only
  refine br 1 U<|aK<|aW<|KK AA<|aF<|rP 2 [] I ?_
  refine aK ?_
  have A9:(vI (((q+1):Nat):Int))=(vI ((q:Int)+1)):=by exact cI om
  refine bu (S ⟨((q+1),Cx,C0),(by first|omega|(simp only []; omega))⟩ _ _ _ U os (c0 10<|bJ U A9<|eb.nil _) (aS [1,2,3,4,5,6,7,8,9,10,11,12,13,14,15,16]))
 refine WK t<|aw fun _ T=>aL<|WS fun _ u=>rP 1 [] I ?_
 obtain ⟨d,hd⟩:=aO ht q om
 obtain ⟨da,B9⟩:=aO C.2 q om
 have Fk:(List.zipWith aq.cells ht C.2)[q]? =some (aq.cells d da):=dj hd B9
 refine rS (IA q U (show iE _ (rd C.1.1 ht.length 7 (List.zipWith aq.cells ht C.2)).holds from (cY 8 U (bM E D cf))) qB dc om om) ?_
 have JR:=CK.sig d (aP hd)
 refine rS (nz q 0 (aJ.cells (aJ.mk d.Out d.cZ d.Time (cS.mk d.ba.Start d.ba.gp (bj.mk da.1 d.ba.aj.length da.2)))) U ct (show iE _ (rd C.1.1 ht.length 7 (List.zipWith aq.cells ht C.2)).holds from (cY 8 U (bM E D cf))) Fk U dc U U)<|AL U Cm fun L=>br 1 U<|fF U E_ U<|RK u<|WS fun _ v=>rP 3 [] (mr 12 U I) ?_
 refine rS (FU U) ?_
 refine rS (CL (xC j.aC faA faC (Value.func (.func 99) [].toArray [(vP g2),(vP g1),(vP L)].toArray) (fun O=>(((List.lookup (iM j.aC O) fm).getD false)&& !decide (eQ j.Race.ak O d=0))) (dw [(iB iV gm (b0 vB fm)),(rd kA j.Race.ak.aU.length 9 (j.Race.ak.aU.map av.cells)),(rd cA j.Race.ak.ar.length 2 (List.zipWith aB.cells j.Race.ak.ar az)),(dw (aX aB.gQ j.Race.ak.ar az)),(rd bA j.Race.ak.aa.length 4 (j.Race.ak.aa.map bD.cells)),(rd slA j.Race.aR.length 1 (j.Race.aR.map iC)),(rd drA j.Race.b_.length 1 (j.Race.b_.map iC)),(rd heA j.Race.ax.length 1 (List.zipWith cc j.Race.ax ha)),(dw (aX ep j.Race.ax ha)),(rd faA j.aC.length 4 (j.aC.map aI.cells)),(rd prA j.aD.length 5 (j.aD.map aV.cells)),(rd da.1 d.ba.aj.length 2 (d.ba.aj.map aG.cells)),(bU g2 144 [(Value.map (some gm))]),(bU g1 97 (ck.cells (ck.mk (lY j kA kC cA cC bA bC slA slC drA drC heA heC faA faC prA prC)))),(bU L 43 (aJ.cells (aJ.mk d.Out d.cZ d.Time (cS.mk d.ba.Start d.ba.gp (bj.mk da.1 d.ba.aj.length da.2)))))]) (by intro O N; exact jd (fi:=[]) (ca:=[(vP g2),(vP g1),(vP L)]) (ib (IG O fm gm j kA kC az cA cC bA bC slA slC drA drC ha heA heC faA faC prA prC d da.1 da.2 g2 g1 L (by first|assumption|exact N|omega) (by first|assumption|exact N|omega) (by first|assumption|exact N|omega) (by first|assumption|exact N|omega)) (aY [0,1,2,3,4,5,6,7,8,9,10,11,12,13,14]))) asm) (dN 10 U U<|ai (ij (m7 [1,2,3,4,5,6,7,8,9,10,11]<|ai (show iE _ (rd da.1 d.ba.aj.length 2 (d.ba.aj.map aG.cells)).holds from (cY 9 U (bM E D (db _ (bM hd B9 (by simp [aq.gQ]))))))<|dN 13 U U<|dN 12 U U<|dN 0 U U<|aH))<|aH) U) ?_
 refine rP 1 [] I ?_
 refine RK v<|cP U (fun H=>?_) (fun H=>?_)
 ·rw [Bool.not_eq_false'] at H
  refine cT<|aW<|KK T<|aF<|rP 2 [] I ?_
  refine aK ?_
  rw [show (fO (js j.Race.ak j.aC fm ht) ht.length q)=(fO (js j.Race.ak j.aC fm ht) ht.length (q+1)) from BO (by rw [zJ hd]; simpa using H)]
  have A8:(vI (((q+1):Nat):Int))=(vI ((q:Int)+1)):=by exact cI om
  refine bu (R ⟨(q+1),(by first|omega|(simp only []; omega))⟩ _ _ _ U os (c0 10<|bJ U A8<|eb.nil _) (aS [1,2,3,4,5,6,7,8,9,10,11,12,13,14,15]))
 rw [Bool.not_eq_true'] at H
 refine aF<|rP 2 [] I ?_
 have A6:(dF (fO (js j.Race.ak j.aC fm ht) ht.length q) (q:Int))=(fO (js j.Race.ak j.aC fm ht) ht.length (q+1)):=by exact Eg (by rw [zJ hd]; exact H)
 refine o4 (kV:=iV) (x:=(q:Int)) (C':=[_,_,_,_,_,_,_,_,_,_,_,_,_,_,_,(iB iV b9 (b0 vB (fO (js j.Race.ak j.aC fm ht) ht.length (q+1))))]) 15 U U U U ud (fM pq) U ((kZ _ _ _).symm.trans (congrArg _ A6)) U<|aK<|aW<|KK T<|aF<|rP 2 [] I ?_
 refine aK ?_
 have A7:(vI (((q+1):Nat):Int))=(vI ((q:Int)+1)):=by exact cI om
 refine bu (R ⟨(q+1),(by first|omega|(simp only []; omega))⟩ _ _ _ U os (c0 10<|bJ U A7<|eb.nil _) (aS [1,2,3,4,5,6,7,8,9,10,11,12,13,14,15]))
end
section
open Go.RowKit
theorem Ee (gm:Nat) (j:cn) (kA:OA) (kC:Nat) (cA:OA) (cC:Nat) (bA:OA) (bC:Nat) (slA:OA) (slC:Nat) (drA:OA) (drC:Nat) (heA:OA) (heC:Nat) (faA:OA) (faC:Nat) (prA:OA) (prC:Nat):
 lX Tryz.prog 64 [(vA (ck.cells (ck.mk (lY j kA kC cA cC bA bC slA slC drA drC heA heC faA faC prA prC)))),(Value.map (some gm))] [] (fun (x:Nat×Nat)=>(Value.func (.func 97) [].toArray [(Value.pointer (some ⟨x.1,0,none⟩)),(Value.pointer (some ⟨x.2,0,none⟩))].toArray)) (fun (x:Nat×Nat)=>True) (fun (x:Nat×Nat)=>[(bU x.1 97 (ck.cells (ck.mk (lY j kA kC cA cC bA bC slA slC drA drC heA heC faA faC prA prC)))),(bU x.2 144 [(Value.map (some gm))])]):=by
 refine dI kr Tryz.func64 U U fun E Q hQ hN=>?_
 try dsimp only
 refine WS fun _ A=>e8 U fun C=>rJ U U fun D=>br 1 U<|RK A<|WS fun _ B=>rS (FU U)<|rP 1 [] I ?_
 refine RK B<|ay<|LX hQ (C,D) [1,0] [] I U U U U ?_
 trivial
theorem Gj (fm:List (Int×Bool)) (gm:Nat) (j:cn) (kA:OA) (kC:Nat) (az:List RA) (cA:OA) (cC:Nat) (bA:OA) (bC:Nat) (slA:OA) (slC:Nat) (drA:OA) (drC:Nat) (ha:List cg) (heA:OA) (heC:Nat) (faA:OA) (faC:Nat) (prA:OA) (prC g1 g2:Nat) (hin:eB j az ha) (hok:cH j=0):
 lX Tryz.prog 96 [(vS none 0 0),(Value.func (.func 97) [].toArray [(vP g1),(vP g2)].toArray)] [(iB iV gm (b0 vB fm)),(rd kA j.Race.ak.aU.length 9 (j.Race.ak.aU.map av.cells)),(rd cA j.Race.ak.ar.length 2 (List.zipWith aB.cells j.Race.ak.ar az)),(dw (aX aB.gQ j.Race.ak.ar az)),(rd bA j.Race.ak.aa.length 4 (j.Race.ak.aa.map bD.cells)),(rd slA j.Race.aR.length 1 (j.Race.aR.map iC)),(rd drA j.Race.b_.length 1 (j.Race.b_.map iC)),(rd heA j.Race.ax.length 1 (List.zipWith cc j.Race.ax ha)),(dw (aX ep j.Race.ax ha)),(rd faA j.aC.length 4 (j.aC.map aI.cells)),(rd prA j.aD.length 5 (j.aD.map aV.cells)),(bU g1 97 (ck.cells (ck.mk (lY j kA kC cA cC bA bC slA slC drA drC heA heC faA faC prA prC)))),(bU g2 144 [(Value.map (some gm))])] (fun (x:(List RA)×(OA)×Nat)=>(vS x.2.1 ((e5 j (iR j.aC fm)).length) x.2.2)) (fun (x:(List RA)×(OA)×Nat)=>x.1.length=(e5 j (iR j.aC fm)).length) (fun (x:(List RA)×(OA)×Nat)=>[(own x.2.1 x.2.2 29 1 (List.zipWith qQ (e5 j (iR j.aC fm)) x.1)),(bx (aX yX (e5 j (iR j.aC fm)) x.1))]):=by
 have W:=hin.race
 have P:=hin.race.line
 have g:=hin.race.gv
 have m:=hin.race.has
 have X:=hin.race.gD
 have AA:=hin.nf
 have V:=hin.np
 have f:(e5 j (iR j.aC fm)).length=j.Race.ax.length:=by unfold e5; rw [List.length_map]
 refine dI kr Tryz.func96 U U fun s Q hQ hN=>?_
 try dsimp only
 refine WS fun _ K=>rJ U U fun T=>br 1 U<|RK K<|aw fun _ L=>WS fun _ M=>rP 1 [] I ?_
 refine RK M<|aL<|gN 1 U (by exact fun _ h=>h)<|gN 3 U (by exact fun _ h=>h)<|gN 5 U (by exact fun _ h=>h)<|gN 7 U (by exact fun _ h=>h)<|gN 9 U (by exact fun _ h=>h)<|gN 11 U (by exact fun _ h=>h)<|gN 13 U (by exact fun _ h=>h)<|gN 15 U (by exact fun _ h=>h)<|gN 17 U (by exact fun _ h=>h)<|gN 19 U (by exact fun _ h=>h)<|gN 21 U (by exact fun _ h=>h)<|gN 23 U (by exact fun _ h=>h)<|gN 25 U (by exact fun _ h=>h)<|eH 29 1<|mM ?_
 refine Ej (L0:=[(2,(vP T))]) (F:=[(iB iV gm (b0 vB fm)).ro,(rd kA j.Race.ak.aU.length 9 (j.Race.ak.aU.map av.cells)).ro,(rd cA j.Race.ak.ar.length 2 (List.zipWith aB.cells j.Race.ak.ar az)).ro,(dw (aX aB.gQ j.Race.ak.ar az)).ro,(rd bA j.Race.ak.aa.length 4 (j.Race.ak.aa.map bD.cells)).ro,(rd slA j.Race.aR.length 1 (j.Race.aR.map iC)).ro,(rd drA j.Race.b_.length 1 (j.Race.b_.map iC)).ro,(rd heA j.Race.ax.length 1 (List.zipWith cc j.Race.ax ha)).ro,(dw (aX ep j.Race.ax ha)).ro,(rd faA j.aC.length 4 (j.aC.map aI.cells)).ro,(rd prA j.aD.length 5 (j.aD.map aV.cells)).ro,(bU g1 97 (ck.cells (ck.mk (lY j kA kC cA cC bA bC slA slC drA drC heA heC faA faC prA prC)))).ro,(bU g2 144 [(Value.map (some gm))]).ro]) (fun k (y:(List RA)×(OA)×Nat)=>(y.1.length=k)) (fun k y=>[(bx (aX yX (List.take k (e5 j (iR j.aC fm))) y.1)),(own y.2.1 y.2.2 29 1 (List.zipWith qQ (List.take k (e5 j (iR j.aC fm))) y.1)),(bU T 51 [(vS y.2.1 ((List.take k (e5 j (iR j.aC fm))).length) y.2.2)]),(iB iV gm (b0 vB fm)).ro,(rd kA j.Race.ak.aU.length 9 (j.Race.ak.aU.map av.cells)).ro,(rd cA j.Race.ak.ar.length 2 (List.zipWith aB.cells j.Race.ak.ar az)).ro,(dw (aX aB.gQ j.Race.ak.ar az)).ro,(rd bA j.Race.ak.aa.length 4 (j.Race.ak.aa.map bD.cells)).ro,(rd slA j.Race.aR.length 1 (j.Race.aR.map iC)).ro,(rd drA j.Race.b_.length 1 (j.Race.b_.map iC)).ro,(rd heA j.Race.ax.length 1 (List.zipWith cc j.Race.ax ha)).ro,(dw (aX ep j.Race.ax ha)).ro,(rd faA j.aC.length 4 (j.aC.map aI.cells)).ro,(rd prA j.aD.length 5 (j.aD.map aV.cells)).ro]) (fun _ (_:Unit)=>False) (fun _ _=>[]) [0,1,15,16,17,18,19,20,21,22,23,24,25,26] [14,13,12,11,10,9,8,7,6,5,4,3,2] (([]:List RA),none,0) rfl rfl (Hr fm gm j kA kC az cA cC bA bC slA slC drA drC ha heA heC faA faC prA prC g1 g2 (by first|assumption|omega|(simp; done)) (by first|assumption|omega|(simp; done))) rfl rfl rfl (by exact rfl) (by simp only [List.forall_mem_cons,List.not_mem_nil,false_imp_iff,implies_true,and_true]; exact ⟨⟨_,aP (i:=0) rfl,(dy (bR _))⟩,⟨_,aP (i:=1) rfl,(dy (bR _))⟩,⟨_,aP (i:=2) rfl,(dy (bR _))⟩,⟨_,aP (i:=3) rfl,(dy (bR _))⟩,⟨_,aP (i:=4) rfl,(dy (bR _))⟩,⟨_,aP (i:=5) rfl,(dy (bR _))⟩,⟨_,aP (i:=6) rfl,(dy (bR _))⟩,⟨_,aP (i:=7) rfl,(dy (bR _))⟩,⟨_,aP (i:=8) rfl,(dy (bR _))⟩,⟨_,aP (i:=9) rfl,(dy (bR _))⟩,⟨_,aP (i:=10) rfl,(dy (bR _))⟩,⟨_,aP (i:=11) rfl,(dy (bR _))⟩,⟨_,aP (i:=12) rfl,(dy (bR _))⟩⟩) (by rintro k x R0 p ⟨_,_,_,_,rfl,_,_⟩; rfl) rfl (bw rfl) ?_ ?_ (fun _ _ _ h=>h.elim) (fun _ _ h=>h.elim)
 rotate_left 1
 ·rintro q k ⟨gz,a,c⟩ B C
  have D:=C
  try dsimp only at D
  try dsimp only
  rw [show (List.take k (e5 j (iR j.aC fm)))=(e5 j (iR j.aC fm)) from List.take_of_length_le (by have d:k=j.Race.ax.length:=B; omega)]
  have O:gz.length=(e5 j (iR j.aC fm)).length:=by have d:k=j.Race.ax.length:=B; omega
  refine aW<|KK L<|WS fun _ G=>rP 2 [] (mc 16 U I) ?_
  refine RK G<|ay ?_
  refine hQ _ _ _ (nB 0 U U<|ig (vs:=[(vS a ((e5 j (iR j.aC fm)).length) c)]) ⟨U,trivial⟩ fun w hs=>It (gz,a,c) [15,14] ?_ ?_ U U (by show List.all _ _=true; simp only [gf,List.all_nil,nQ,Bool.and_true]; rfl) hs)
  ·rfl
  ·exact O
 rintro k x R0 p ⟨gz,a,c⟩ l ra rb S t K5 Qr6 o hx AB N H Y Z
 obtain ⟨xa,xc,row,A,rfl,rfl,rfl⟩:=hx
 have D:=AB
 try dsimp only at D
 try dsimp only
 have n:=(bg.1 A).1
 have E:gz.length=(List.take k (e5 j (iR j.aC fm))).length:=by rw [List.length_take]; omega
 have R:(List.take (k+1) (e5 j (iR j.aC fm))).length=k+1:=by rw [List.length_take]; omega
 refine aF<|rP 1 [] I ?_
 refine aK<|bu (N _ _ ?_)
 refine aL<|aF<|rP 2 [] (mc 3 U I) ?_
 refine dr (xs:=[.tmp 9]) (cs:=[(vS xa row.length xc)]) U E5 KW U U U U (by simp [Value.cells]) U U fun r=>?_
 refine eD (es2:=(List.zipWith qQ (List.take (k+1) (e5 j (iR j.aC fm))) (gz++[(xa,xc)]))) (m':=(List.take (k+1) (e5 j (iR j.aC fm))).length) 3 rfl rfl rfl Of rfl rfl (pA E).symm (aT (es:=List.zipWith qQ [row] [(xa,xc)]) 0 rfl rfl (by intro e he; simp [qQ] at he; subst he; rfl) rfl) (G5 _ _) om (by simp only [maxLen]; omega) (by rw [sB A]; exact BP E.symm) (by exact pA (by rw [R]; simp; omega)) rfl fun b J=>?_
 try dsimp only
 refine Jg (Y':=aX yX (List.take (k+1) (e5 j (iR j.aC fm))) (gz++[(xa,xc)])) 2 16 U U (by rw [sB A]; exact za E.symm U) ?_
 refine OE U M8 U U<|aK<|aW ?_
 exact H ((gz++[(xa,xc)]),b,J) _ _ (by (rw [List.length_append]; simp; omega)) (aS [2,0,3,4,5,6,7,8,9,10,11,12,13,14,15])
theorem zK (fm:List (Int×Bool)) (gm:Nat) (j:cn) (kA:OA) (kC:Nat) (az:List RA) (cA:OA) (cC:Nat) (bA:OA) (bC:Nat) (slA:OA) (slC:Nat) (drA:OA) (drC:Nat) (ha:List cg) (heA:OA) (heC:Nat) (faA:OA) (faC:Nat) (prA:OA) (prC g1 g2:Nat) (hin:eB j az ha) (hok:cH j=0):
 lX Tryz.prog 63 [(Value.func (.func 97) [].toArray [(vP g1),(vP g2)].toArray)] [(iB iV gm (b0 vB fm)),(rd kA j.Race.ak.aU.length 9 (j.Race.ak.aU.map av.cells)),(rd cA j.Race.ak.ar.length 2 (List.zipWith aB.cells j.Race.ak.ar az)),(dw (aX aB.gQ j.Race.ak.ar az)),(rd bA j.Race.ak.aa.length 4 (j.Race.ak.aa.map bD.cells)),(rd slA j.Race.aR.length 1 (j.Race.aR.map iC)),(rd drA j.Race.b_.length 1 (j.Race.b_.map iC)),(rd heA j.Race.ax.length 1 (List.zipWith cc j.Race.ax ha)),(dw (aX ep j.Race.ax ha)),(rd faA j.aC.length 4 (j.aC.map aI.cells)),(rd prA j.aD.length 5 (j.aD.map aV.cells)),(bU g1 97 (ck.cells (ck.mk (lY j kA kC cA cC bA bC slA slC drA drC heA heC faA faC prA prC)))),(bU g2 144 [(Value.map (some gm))])] (fun (x:(List RA)×(OA)×Nat)=>(vS x.2.1 ((e5 j (iR j.aC fm)).length) x.2.2)) (fun (x:(List RA)×(OA)×Nat)=>x.1.length=(e5 j (iR j.aC fm)).length) (fun (x:(List RA)×(OA)×Nat)=>[(own x.2.1 x.2.2 29 1 (List.zipWith qQ (e5 j (iR j.aC fm)) x.1)),(bx (aX yX (e5 j (iR j.aC fm)) x.1))]):=by
 refine dI kr Tryz.func63 U U fun AA Q hQ hN=>?_
 try dsimp only
 refine WS fun _ B=>br 1 U<|RK B<|WS fun _ C=>rP 1 [] I ?_
 refine cX (Gj fm gm j kA kC az cA cC bA bC slA slC drA drC ha heA heC faA faC prA prC g1 g2 hin hok) (aY [0,1,2,3,4,5,6,7,8,9,10,11,12]) U fun H E=>?_
 obtain ⟨A,F,G⟩:=H
 try dsimp only
 have D:=E
 refine rP 1 [] I ?_
 refine RK C<|ay ?_
 refine LX hQ (A,F,G) [0,1] [] I U (by show List.all _ _=true; simp only [gf,List.all_nil,nQ,Bool.and_true]; rfl) U U ?_
 exact D
end
end Go.Proofs.YtkaenmjhfajbkaaGreatDoor
