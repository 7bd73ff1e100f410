/-
 The statement juryTouches_said, part 8 of 8: Rr3, Rr4, Rr5, Rra, Jr2, Jr3, Y4, Jr4, Jr5, Jr6, B11, Rx5, Jr7, Jr8, Jz3, Jm1, LineOpen, RaceOpen, JOpen, Touches0.
 Conditions: none.
-/
import Derived.Test.YtgcjjjehnjljbaaGreatDoorTz1
import Derived.Test.YtgcjjjehnjljbaaGreatDoorTz2
import Derived.Test.YtgcjjjehnjljbaaGreatDoorTz3
import Derived.Test.YtgcjjjehnjljbaaGreatDoorTz4
import Derived.Test.YtgcjjjehnjljbaaGreatDoorTz5
import Derived.Test.YtgcjjjehnjljbaaGreatDoorTz6
import Derived.Test.YtgcjjjehnjljbaaGreatDoorTz7
import Derived.Test.YtgcjjjehnjljbaaGreatDoorCards
import Derived.Test.YtgcjjjehnjljbaaGreatDoorTie
import Derived.SevenTiedAt
import Derived.LaidMore
import Derived.Stop.Joined
import Derived.Test.YtgcjjjehnjljbaaGreatDoorRows
import Derived.Test.YtgcjjjehnjljbaaGreatDoorProg
import Derived.KernelRfl
namespace Go.Proofs.YtgcjjjehnjljbaaGreatDoor
set_option maxRecDepth 100000
set_option maxHeartbeats 4000000
set_option linter.unusedVariables false
section
open Go.RowKit
theorem Cu (l:bo) (kA:OA) (kC:Nat) (az:List RA) (cA:OA) (cC:Nat) (bA:OA) (bC:Nat) (d:aw) (sgA:OA) (sgC:Nat) (hin:d_ l az) (hle:dM l=0) (hsl:d.aZ.aa.length≤1000000) (hk:d.Out=true):
 dF Tryz.prog 153 [(vA (cu.cells (jr l kA kC cA cC bA bC))),(vA (bf.cells (bf.mk d.Out d.cO d.Time (im d.aZ sgA sgC))))] [(rd kA l.aO.length 9 (l.aO.map aq.cells)),(rd cA l.aj.length 2 (List.zipWith av.cells l.aj az)),(dL (bk av.fu l.aj az)),(rd bA l.ab.length 4 (l.ab.map bL.cells)),(rd sgA d.aZ.aa.length 2 (d.aZ.aa.map aH.cells))] (vT [(vA (ai.cells (o8 l d))),(vB (decide (jk l d)))]):=by
 have K:=hin.qm
 have J:=hin.qj
 have H:=hin.mq
 have AA:=hin.qi
 refine bE kr Tryz.func153 U U fun O Q hQ hN=>?_
 try dsimp only
 refine WS fun _ B=>ed U fun L=>ed U fun M=>AL U dV fun N=>bx 1 U<|RK B<|ak fun _ E=>aC<|WS fun _ C=>rP 3 [] (mc 1 U mn) ?_
 refine RK C<|bO U (fun G=>?_) (fun G=>?_)
 ·exact absurd ((hk).symm.trans G) dc
 refine WS fun _ A=>rS (SX (bG (xs:=[]) (cs:=(ai.cells (ai.mk 0 0))) U U (bH gU U)) U U)<|rP 4 [] (mc 1 U mn) ?_
 refine db (t:=15) U (fun D=>?_) (fun D=>?_)
 ·rw [Bool.not_eq_false'] at D
  refine bx 10 U<|fj U cT U<|rP 1 [] mn ?_
  refine RK A<|ao<|lS hQ [0] (mc 0 U mn) U ?_
  clear hQ hN A C E B
  rw [z6 hk]
  simp only [qE hk]
  refine congrArg (fun z=>Value.tuple #[_,vB z]) ?_
  first|rfl|(simp_all [g4]; done)
 rw [Bool.not_eq_true'] at D
 refine bx 1 U<|rS (LP (ai.cells d.Time) 1 U bX U U U)<|rS (SX (bG (xs:=[]) (cs:=(ai.cells (ai.mk 0 0))) U U (bH gU U)) U U)<|rS (BI U (vl _ _ d.Time (ai.mk 0 0)))<|rP 2 [] mn ?_
 refine db (t:=21) U (aS fun F=>?_) (aT fun F=>?_)
 ·refine bx 4 U<|fj U cT U<|rP 1 [] mn ?_
  refine RK A<|ao<|lS hQ [0] (mc 0 U mn) U ?_
  clear hQ hN A C E B
  rw [z6 hk]
  simp only [qE hk]
  refine congrArg (fun z=>Value.tuple #[_,vB z]) ?_
  first|rfl|(simp_all [g4]; done)
 refine bx 1 U<|rS (LP (de.cells (im d.aZ sgA sgC)) 1 U bX U U U)<|rS (CL (Ea d.aZ sgA sgC) (br [7]) U)<|bx 1 U<|fj U cT U<|rP 1 [] mn ?_
 refine RK A<|ao<|lS hQ [0] (mc 0 U mn) U ?_
 clear hQ hN A C E B
 rw [z6 hk]
 simp only [qE hk]
 refine congrArg (fun z=>Value.tuple #[_,vB z]) ?_
 first|rfl|(simp_all [g4]; done)
theorem Db (l:bo) (kA:OA) (kC:Nat) (az:List RA) (cA:OA) (cC:Nat) (bA:OA) (bC:Nat) (d:aw) (sgA:OA) (sgC:Nat) (hin:d_ l az) (hle:dM l=0) (hsl:d.aZ.aa.length≤1000000) (hk:d.Out=false∧d.cO=true):
 dF Tryz.prog 153 [(vA (cu.cells (jr l kA kC cA cC bA bC))),(vA (bf.cells (bf.mk d.Out d.cO d.Time (im d.aZ sgA sgC))))] [(rd kA l.aO.length 9 (l.aO.map aq.cells)),(rd cA l.aj.length 2 (List.zipWith av.cells l.aj az)),(dL (bk av.fu l.aj az)),(rd bA l.ab.length 4 (l.ab.map bL.cells)),(rd sgA d.aZ.aa.length 2 (d.aZ.aa.map aH.cells))] (vT [(vA (ai.cells (o8 l d))),(vB (decide (jk l d)))]):=by
 have N:=hin.qm
 have M:=hin.qj
 have K:=hin.mq
 have L:=hin.qi
 refine bE kr Tryz.func153 U U fun S Q hQ hN=>?_
 try dsimp only
 refine WS fun _ D=>ed U fun O=>ed U fun P=>AL U dV fun R=>bx 1 U<|RK D<|ak fun _ H=>aC<|WS fun _ E=>rP 3 [] (mc 1 U mn) ?_
 refine RK E<|cr U (fun J=>?_) (fun J=>?_)
 ·exact absurd ((hk.1).symm.trans J) dc
 refine WS fun _ F=>rP 3 [] (mc 1 U mn) ?_
 refine RK F<|bO U (fun G=>?_) (fun G=>?_)
 ·exact absurd ((hk.2).symm.trans G) dc
 refine ak fun _ B=>dx ck [10] [] [] [1,2,3,4,5,6,7] [] U U U U U<|eS U (FA 2 U eV U)<|eS U (LP (ai.cells d.Time) 0 U bX U U U)<|eS U (FA 2 U eV U)<|eS U (LP (ai.cells d.Time) 0 U bX U U U)<|eS U (CL (JZ d.Time) (aR) U)<|eS U (MV U)<|rn (t:=34) U (fun A=>?_) (fun A=>?_)
 rotate_left 1
 ·replace A:=DF A
  refine eS U (OX U)<|eS U (OX U)<|eS U (OX U)<|eS U (PK U)<|eS U (AG U)<|eo U<|cd U fun T10 C=>fj U cT U<|aD (C _ _ (aN [1,2,3,4,5,6,7]) ?_)
  refine fh U<|KK B<|ao<|lS hQ [0] (mc 0 U mn) U ?_
  clear hQ hN C T10 B F E H D
  rw [D5 hk]
  simp only [x4 hk]
  refine congrArg (fun z=>Value.tuple #[_,vB z]) ?_
  first|rfl|(simp_all; done)
 replace A:=DT A
 refine eS U (FA 4 U eV U)<|eS U (LP (de.cells (im d.aZ sgA sgC)) 0 U bX U U U)<|eS U (CL (Ea d.aZ sgA sgC) (br [6]) U)<|eS U (PK U)<|eS U (AG U)<|eo U<|cd U fun T9 AA=>fj U cT U<|aD (AA _ _ (aN [1,2,3,4,5,6,7]) ?_)
 refine fh U<|KK B<|ao<|lS hQ [0] (mc 0 U mn) U ?_
 clear hQ hN AA T9 B F E H D
 rw [D5 hk]
 simp only [x4 hk]
 refine congrArg (fun z=>Value.tuple #[_,vB z]) ?_
 first|rfl|(simp_all; done)
theorem CP (l:bo) (kA:OA) (kC:Nat) (az:List RA) (cA:OA) (cC:Nat) (bA:OA) (bC:Nat) (d:aw) (sgA:OA) (sgC:Nat) (hin:d_ l az) (hle:dM l=0) (hsl:d.aZ.aa.length≤1000000) (hk:d.Out=false∧d.cO=false):
 dF Tryz.prog 153 [(vA (cu.cells (jr l kA kC cA cC bA bC))),(vA (bf.cells (bf.mk d.Out d.cO d.Time (im d.aZ sgA sgC))))] [(rd kA l.aO.length 9 (l.aO.map aq.cells)),(rd cA l.aj.length 2 (List.zipWith av.cells l.aj az)),(dL (bk av.fu l.aj az)),(rd bA l.ab.length 4 (l.ab.map bL.cells)),(rd sgA d.aZ.aa.length 2 (d.aZ.aa.map aH.cells))] (vT [(vA (ai.cells (o8 l d))),(vB (decide (jk l d)))]):=by
 have O:=hin.qm
 have N:=hin.qj
 have L:=hin.mq
 have M:=hin.qi
 refine bE kr Tryz.func153 U U fun AA Q hQ hN=>?_
 try dsimp only
 refine WS fun _ E=>ed U fun P=>ed U fun R=>AL U dV fun S=>bx 1 U<|RK E<|ak fun _ F=>aC<|WS fun _ G=>rP 3 [] (mc 1 U mn) ?_
 refine RK G<|cr U (fun K=>?_) (fun K=>?_)
 ·exact absurd ((hk.1).symm.trans K) dc
 refine WS fun _ H=>rP 3 [] (mc 1 U mn) ?_
 refine RK H<|cr U (fun J=>?_) (fun J=>?_)
 ·exact absurd ((hk.2).symm.trans J) dc
 refine cp<|aK<|KK F<|WS fun _ AB=>er 2 [] (mc 2 U mn) U<|rS (LP (de.cells (im d.aZ sgA sgC)) 1 U bX U U U)<|rS (CL (N2 l kA kC az cA cC bA bC d.aZ sgA sgC hin hsl) (br [3,4,5,6,7]) U)<|bx 3 U<|AL U dV fun T=>fj U cT U<|rP 1 [] mn ?_
 refine RK AB<|ak fun _ A=>dx ck [9] [] [] [0,2,3,4,5,6,7,8] [] U U U U U<|eS U (LW 0 U bX U U)<|eS U (MV U)<|eS U (BI U jW)<|eS U (MV U)<|rn (t:=49) U (fun B=>?_) (fun B=>?_)
 rotate_left 1
 ·replace B:=DF B
  refine eS U (OX U)<|eS U (OX U)<|eS U (OX U)<|eS U (OX U)<|eS U (PK U)<|eS U (AG U)<|eo U<|cd U fun T12 D=>pZ U cT U<|aD (D _ _ (aN [0,2,3,4,5,6,7,8]) ?_)
  refine fh U<|KK A<|ao<|lS hQ [0] (mc 1 U mn) U ?_
  clear hQ hN D T12 A AB H G F E
  rw [D6 hk]
  simp only [uo hk]
  refine congrArg (fun z=>Value.tuple #[_,vB z]) ?_
  first|rfl|(simp_all [g4]; done)
 replace B:=DT B
 refine eS U (FA 2 U eV U)<|eS U (LP (ai.cells d.Time) 1 U bX U U U)<|eS U (SX (bG (xs:=[]) (cs:=(ai.cells (ai.mk 0 0))) U U (bH gU U)) U U)<|eS U (BI U (vl _ _ d.Time (ai.mk 0 0)))<|eS U (PK U)<|eS U (AG U)<|eo U<|cd U fun T11 C=>pZ U cT U<|aD (C _ _ (aN [0,2,3,4,5,6,7,8]) ?_)
 refine fh U<|KK A<|ao<|lS hQ [0] (mc 1 U mn) U ?_
 clear hQ hN C T11 A AB H G F E
 rw [D6 hk]
 simp only [uo hk]
 refine congrArg (fun z=>Value.tuple #[_,vB z]) ?_
 first|rfl|(simp_all [g4]; done)
theorem FX (l:bo) (kA:OA) (kC:Nat) (az:List RA) (cA:OA) (cC:Nat) (bA:OA) (bC:Nat) (d:aw) (sgA:OA) (sgC:Nat) (hin:d_ l az) (hle:dM l=0) (hsl:d.aZ.aa.length≤1000000):
 dF Tryz.prog 153 [(vA (cu.cells (jr l kA kC cA cC bA bC))),(vA (bf.cells (bf.mk d.Out d.cO d.Time (im d.aZ sgA sgC))))] [(rd kA l.aO.length 9 (l.aO.map aq.cells)),(rd cA l.aj.length 2 (List.zipWith av.cells l.aj az)),(dL (bk av.fu l.aj az)),(rd bA l.ab.length 4 (l.ab.map bL.cells)),(rd sgA d.aZ.aa.length 2 (d.aZ.aa.map aH.cells))] (vT [(vA (ai.cells (o8 l d))),(vB (decide (jk l d)))]):=by
 by_cases ho:d.Out=true
 ·exact Cu l kA kC az cA cC bA bC d sgA sgC hin hle hsl ho
 by_cases hf:d.cO=true
 ·exact Db l kA kC az cA cC bA bC d sgA sgC hin hle hsl ⟨by simpa using ho,hf⟩
 ·exact CP l kA kC az cA cC bA bC d sgA sgC hin hle hsl ⟨by simpa using ho,by simpa using hf⟩
end
section
open Go.RowKit
theorem Dp (r:eM) (kA:OA) (kC:Nat) (az:List RA) (cA:OA) (cC:Nat) (bA:OA) (bC:Nat) (slA:OA) (slC:Nat) (drA:OA) (drC:Nat) (ha:List cU) (heA:OA) (heC:Nat) (hin:lf r az ha) (hle:dM r.ar=0):
 qf Tryz.prog 132 [(vA (fF.cells (xH r kA kC cA cC bA bC slA slC drA drC heA heC)))] [(rd kA r.ar.aO.length 9 (r.ar.aO.map aq.cells)),(rd cA r.ar.aj.length 2 (List.zipWith av.cells r.ar.aj az)),(dL (bk av.fu r.ar.aj az)),(rd bA r.ar.ab.length 4 (r.ar.ab.map bL.cells)),(rd slA r.bg.length 1 (r.bg.map iC)),(rd drA r.cm.length 1 (r.cm.map iC)),(rd heA r.aB.length 1 (List.zipWith cz r.aB ha)),(dL (bk eO r.aB ha))] (fun (x:Bool×Int×(OA)×Nat×(List RA))=>bif x.1 then (vT [(vS x.2.2.1 ((fT r).length) x.2.2.2.1),(vB true)]) else (vT [(vS none 0 0),(vB false)])) (fun (x:Bool×Int×(OA)×Nat×(List RA))=>(x.1=true→(fM r∧x.2.2.2.2.length=r.aB.length))∧(x.1=false→(x.2.1=0∧ ¬ fM r))) (fun (x:Bool×Int×(OA)×Nat×(List RA))=>bif x.1 then [(own x.2.2.1 x.2.2.2.1 153 1 (List.zipWith LD (fT r) x.2.2.2.2)),(bS (bk D9 (fT r) x.2.2.2.2))] else []):=by
 have M2:=hin.line
 have Op:=hin.gQ
 have Or:=hin.has
 have OB:=hin.gX
 have Ne:=hin.draw
 have OG:=jE (r:=r)
 refine fJ kr Tryz.func132 U U fun w0 Q hQ hN=>?_
 try dsimp only
 refine WS fun _ La=>ed U fun b2=>bx 2 U<|RK La<|WS fun _ Li=>er 4 [] (mc 0 U mn) U<|RK Li<|ak fun _ Lk=>WS fun _ N=>bx 1 U<|rS (CL (o6 (r.bg.length:Int) 1 5) (aR) U)<|rP 2 [] mn ?_
 refine bP (t:=19) U (aW fun J9=>?_) (aV fun J9=>?_)
 ·refine bx 19 U<|RK N<|aI U<|WS fun _ Lo=>rP 2 [] mn ?_
  refine RK Lo<|ao<|LX hQ (false,0,none,0,[]) [] [] mn U (by rfl) U U ?_
  (exact ⟨yl,fun _=>⟨rfl,fun q=>by have S:=q.num; have q2:=q.zM; have q3:=q.nh; have q4:=q.zz; omega⟩⟩)
 refine rP 7 [] (mc 0 U mn) ?_
 refine bP (t:=26) U (aW fun X=>?_) (aV fun X=>?_)
 ·refine bx 12 U<|RK N<|aI U<|WS fun _ Lw=>rP 2 [] mn ?_
  refine RK Lw<|ao<|LX hQ (false,0,none,0,[]) [] [] mn U (by rfl) U U ?_
  (exact ⟨yl,fun _=>⟨rfl,fun q=>by have S:=q.num; have q2:=q.zM; have q3:=q.nh; have q4:=q.zz; omega⟩⟩)
 refine er 2 [] (mc 0 U mn) U<|rS (CL (o6 r.kY 0 5) (aR) U)<|rP 3 [] mn ?_
 refine bP (t:=32) U (aW fun KV=>?_) (aV fun KV=>?_)
 ·refine bx 6 U<|RK N<|aI U<|WS fun _ L0=>rP 2 [] mn ?_
  refine RK L0<|ao<|LX hQ (false,0,none,0,[]) [] [] mn U (by rfl) U U ?_
  (exact ⟨yl,fun _=>⟨rfl,fun q=>by have S:=q.num; have q2:=q.zM; have q3:=q.nh; have q4:=q.zz; omega⟩⟩)
 refine er 3 [] (mc 0 U mn) U<|rS (CL (o6 (r.aB.length:Int) 1 3) (aR) U)<|rP 2 [] mn ?_
 refine RK N<|cr U (aW fun K4=>?_) (aV fun K4=>?_)
 ·refine WS fun _ L2=>rP 2 [] mn ?_
  refine RK L2<|ao<|LX hQ (false,0,none,0,[]) [] [] mn U (by rfl) U U ?_
  (exact ⟨yl,fun _=>⟨rfl,fun q=>by have S:=q.num; have q2:=q.zM; have q3:=q.nh; have q4:=q.zz; omega⟩⟩)
 refine WK Lk<|ak fun _ o=>WS fun _ p=>rP 1 [] mn ?_
 refine RK p<|aC ?_
 have A:(0≤r.bg.length)∧(xU r 0):=by exact ⟨Nat.zero_le _,HG⟩
 refine bQ (ι:={z:Nat // (z≤r.bg.length)∧(xU r z)}) [1,4] [0,1,2,3,4,5,6,7,8] U U (fun z=>[(5,(vI (z.1:Int)))]) (fun z=>[]) (fun _=>rfl) (fun _=>rfl) (fun z=>r.bg.length-z.1) ⟨0,A⟩ (bu U) (aN [0,1,2,3,4,5,6,7,8]) ?_
 clear A
 rintro ⟨i,⟨M0,AB⟩⟩ J12 T
 try dsimp only
 refine ak fun _ s=>WS fun _ v=>rP 3 [] mn ?_
 refine RK v<|bO U (aS fun J8=>?_) (aT fun J8=>?_)
 ·refine bM<|ag<|ag<|aG<|KK o<|WS fun _ Ci=>bx 1 U<|RK Ci<|ak fun _ Ck=>WS fun _ Cp=>rP 1 [] mn ?_
  refine RK Cp<|aC<|fR 153 1<|mP ?_
  have A:(0≤r.aB.length)∧(([]:List RA).length=0)∧(ko r 0):=by exact ⟨Nat.zero_le _,rfl,wv⟩
  refine bQ (ι:={z:Nat×(List RA)×(OA)×Nat // (z.1≤r.aB.length)∧(z.2.1.length=z.1)∧(ko r z.1)}) [1,4] [2,3,4,5,6,7,8,9,10] U U (fun z=>[(7,(vS z.1.2.2.1 ((List.zipWith Ag (gY r z.1.1) z.1.2.1).length) z.1.2.2.2)),(8,(vI (z.1.1:Int)))]) (fun z=>[(bS (bk D9 (gY r z.1.1) z.1.2.1)),(own z.1.2.2.1 z.1.2.2.2 153 1 (List.map sC (List.zipWith Ag (gY r z.1.1) z.1.2.1)))]) (fun _=>rfl) (fun _=>rfl) (fun z=>r.aB.length-z.1.1) ⟨(0,([]:List RA),none,0),A⟩ (bu U) (aN [2,3,4,5,6,7,8,9,10,0,1]) ?_
  clear A
  rintro ⟨⟨h,tz,a,c⟩,⟨P,C,F⟩⟩ J46 l
  try dsimp only at P C F
  try dsimp only
  refine ak fun _ Cx=>WS fun _ C0=>rP 5 [] (mc 0 U mn) ?_
  refine RK C0<|bO U (aS fun K5=>?_) (aT fun K5=>?_)
  ·refine bM<|ag<|ag<|aG<|KK Ck<|ak fun _ GT=>?_
   have Ms:gY r h=fT r:=by unfold fT; rw [show h=r.aB.length by omega]
   have M3:tz.length=r.aB.length:=by omega
   rw [Ms,yB,show (List.zipWith Ag (fT r) tz).length=(fT r).length from by rw [List.length_zipWith]; omega]
   have Jb:fM r:=F1 (n:=i) I I I I I AB F I
   refine au<|rP 3 [] mn ?_
   refine RK GT<|ao ?_
   refine LX hQ (true,0,a,c,tz) [10,9] [] mn U (by (show List.all _ _=true; simp only [cond_true,eH,List.all_nil,CS,Bool.and_true]; rfl)) U U ?_
   exact ⟨fun _=>⟨Jb,M3⟩,OZ⟩
  refine WK Cx<|ak fun _ C1=>aC<|ak fun _ C2=>WS fun _ C3=>rP 3 [] (mc 0 U mn) ?_
  obtain ⟨ht,D⟩:=aF r.aB h I
  obtain ⟨E,H⟩:=aF ha h I
  have W:(List.zipWith cz r.aB ha)[h]? =some (cz ht E):=cZ D H
  refine rS (IA h U (ax 7 U) lZ dc I I) ?_
  have In:=hin.fX _ _ _ D H
  have N7:=In.mq
  refine rS (h_ h 0 (vS E.1.1 ht.length E.1.2) U bX (ax 7 U) W U dc U)<|rP 3 [] mn ?_
  refine RK C3<|cr U (aW fun e=>?_) (aV fun e=>?_)
  ·refine WS fun _ DE=>rP 2 [] mn ?_
   refine RK DE<|ao<|LX hQ (false,0,none,0,[]) [] [] mn U (by rfl) U U ?_
   (exact ⟨yl,fun _=>⟨rfl,fun q=>by have S:=(q.fX ht (aP D)).1; omega⟩⟩)
  refine WK C2<|WS fun _ DW=>bx 1 U<|RK DW<|ak fun _ Di=>WS fun _ Do=>rP 1 [] mn ?_
  refine RK Do<|aC<|fR 65 2 ?_
  have A:(0≤ht.length)∧(oo r.ar ht 0):=by exact ⟨Nat.zero_le _,vJ⟩
  refine bQ (ι:={z:Nat×(OA)×Nat // (z.1≤ht.length)∧(oo r.ar ht z.1)}) [1,4,7,8] [1,2,3,4,5,6,7,8,9,10,11] U U (fun z=>[(9,(vS z.1.2.1 (((ht.take z.1.1).map (gi r.ar)).length) z.1.2.2)),(10,(vI (z.1.1:Int)))]) (fun z=>[(own z.1.2.1 z.1.2.2 65 2 (((ht.take z.1.1).map (gi r.ar)).map ai.cells))]) (fun _=>rfl) (fun _=>rfl) (fun z=>ht.length-z.1.1) ⟨(0,none,0),A⟩ (bu U) (aN [1,2,3,4,5,6,7,8,9,10,11,0]) ?_
  clear A
  rintro ⟨⟨j,la,lc⟩,⟨R,G⟩⟩ J57 m
  try dsimp only at R G
  try dsimp only
  refine ak fun _ EQ=>WS fun _ Eq=>rP 3 [] mn ?_
  refine RK Eq<|bO U (aS fun LE=>?_) (aT fun LE=>?_)
  ·refine bM<|ag<|ag<|aG<|KK Di<|au ?_
   rw [show ((ht.take j).map (gi r.ar))=ht.map (gi r.ar) from by rw [List.take_of_length_le I]]
   refine rP 2 [] mn ?_
   refine eP (xs:=[.tmp 137]) (cs:=[(vS la ((ht.map (gi r.ar)).length) lc)]) U GG Mn U U U U (by simp [Value.cells]) U U fun Oa=>?_
   refine dA (es2:=(List.map sC (List.zipWith Ag (gY r (h+1)) (tz++[(la,lc)])))) (m':=(List.zipWith Ag (gY r (h+1)) (tz++[(la,lc)])).length) 11 U U U Ma U U sm (bq (es:=List.map sC [(bK.mk la ((ht.map (gi r.ar)).length) lc)]) 0 U U (by simp [zc]) U) (IT _) (by rw [List.length_zipWith,kW I]; omega) (by rw [List.length_zipWith,kW I]; simp only [maxLen]; omega) (by rw [tO D C,List.map_append]; rfl) (by rw [tO D C]; simp) U fun J5 J7=>?_
   try dsimp only
   refine bx 1 U<|aD<|aK<|KK C1<|au<|rP 3 [] mn ?_
   refine aD<|wV (X':=bk D9 (gY r (h+1)) (tz++[(la,lc)])) 10 12 U U (Bu (a:=(la,lc)) D C) ?_
   have Id:(vI (((h+1):Nat):Int))=(vI ((h:Int)+1)):=by exact cI I
   refine bj (l ⟨((h+1),(tz++[(la,lc)]),J5,J7),⟨I,by simp; omega,wO F D (Ei I G I)⟩⟩ _ _ _ U os (cN 3<|a_ U Id<|dh.nil _) (aN [2,3,4,5,6,7,8,9,10,0,11]))
  refine WK EQ<|ak fun _ FP=>aC<|ak fun _ FS=>dx ck [14,15] [] [] [0,1,2,3,4,5,6,7,8,9,10,11] [] U U U U U<|eS U (FA 0 U eV U)<|eS U (LP (cu.cells (jr r.ar kA kC cA cC bA bC)) 0 U bX U U U)<|eS U (FA 10 U eV U)<|eS U (L1 (vS heA r.aB.length heC) 0 U bX U U)<|eS U (MV U)<|eS U (IA h U (ax 7 U) lZ dc I I)<|eS U (h_ h 0 (vS E.1.1 ht.length E.1.2) U bX (ax 7 U) W U dc U)<|eS U (MV U) ?_
  obtain ⟨d,hd⟩:=aF ht j I
  obtain ⟨da,If⟩:=aF E.2 j I
  have L3:(List.zipWith aw.cells ht E.2)[j]? =some (aw.cells d da):=cZ hd If
  refine eS U (IA j U (show hH _ (rd E.1.1 ht.length 7 (List.zipWith aw.cells ht E.2)).holds from (cj 8 U (bD D H ct))) qk dc I I)<|eS U (jL j 0 (bf.cells (bf.mk d.Out d.cO d.Time (de.mk d.aZ.Start d.aZ.fP (bK.mk da.1 d.aZ.aa.length da.2)))) U bX (show hH _ (rd E.1.1 ht.length 7 (List.zipWith aw.cells ht E.2)).holds from (cj 8 U (bD D H ct))) L3 U dc U U) ?_
  have Os:=In.sig d (aP hd)
  refine eS U (CL (FX r.ar kA kC az cA cC bA bC d da.1 da.2 asm hle asm) (lW [1,2,3,4]<|aQ (show hH _ (rd da.1 d.aZ.aa.length 2 (d.aZ.aa.map aH.cells)).holds from (cj 8 U (bD D H (dH _ (bD hd If (by simp [aw.fu]))))))<|aR) U)<|eS U (MV U)<|eS U (EX U)<|eS U (EX U)<|eS U (AG U)<|eo U<|cd U fun T63 GY=>AL U dV fun OQ=>aD (GY _ _ (aN [1,2,3,4,5,6,7,8,9,10,11,12]) ?_)
  refine cd U fun T65 Go=>fj U cT U<|aD (Go _ _ (aN [1,2,3,4,5,6,7,8,9,10,11,12]) ?_)
  refine fh U<|KK FS<|ak fun _ Fd=>WS fun _ Fn=>rP 2 [] mn ?_
  refine RK Fn<|cr U (aW fun J=>?_) (aV fun J=>?_)
  ·refine WS fun _ GE=>rP 2 [] mn ?_
   refine RK GE<|ao<|LX hQ (false,0,none,0,[]) [] [] mn U (by rfl) U U ?_
   (exact ⟨yl,fun _=>⟨rfl,fun q=>by exact J ((q.fX ht (aP D)).2 d (aP hd))⟩⟩)
  refine WK Fd<|au<|rP 2 [] (mc 0 U mn) ?_
  refine eP (xs:=[.tmp 133]) (cs:=(ai.cells (o8 r.ar d))) U lq dV U U U U (by simp [Value.cells,ai.bB]) U U fun OT=>?_
  refine dA (es2:=(List.map ai.cells ((ht.take (j+1)).map (gi r.ar)))) (m':=((ht.take (j+1)).map (gi r.ar)).length) 13 U U U EA U U sm (bq (es:=List.map ai.cells [(o8 r.ar d)]) 0 U U (by simp [ai.bB]) U) (kU _) (by simp only [List.length_map,List.length_take]; omega) (by simp only [maxLen,List.length_map,List.length_take]; omega) (by rw [List.take_add_one,hd]; simp [Jg J]) sq U fun J4 J6=>?_
  try dsimp only
  refine bx 1 U<|aD<|aK<|KK FP<|au<|rP 3 [] mn ?_
  refine aD ?_
  have IR:(vI (((j+1):Nat):Int))=(vI ((j:Int)+1)):=by exact cI I
  refine bj (m ⟨((j+1),J4,J6),⟨I,vn G hd J⟩⟩ _ _ _ U os (cN 5<|a_ U IR<|dh.nil _) (aN [2,3,4,5,6,7,8,9,10,11,12,13]))
 refine WK s<|ak fun _ AA=>aC<|ak fun _ V=>ak fun _ K=>cW ck 36 kr<|dP 3 [] (mc 0 U mn) ?_
 obtain ⟨y,hy⟩:=aF r.bg i I
 have Ji:=bJ iC hy
 refine dS (IA i U (ax 5 U) dJ dc I I)<|dS (h_ i 0 (vI y) U bX (ax 5 U) Ji U dc U)<|dS (CL (o6 y 0 9999) (aR) U)<|dP 2 [] mn ?_
 refine g9 (t:=51) U (aW fun K8=>?_) (aV fun K8=>?_)
 ·refine kx 28 U<|cw<|RK K<|aI U<|WS fun _ w=>rP 2 [] mn ?_
  refine RK w<|ao<|LX hQ (false,0,none,0,[]) [] [] mn U (by rfl) U U ?_
  (exact ⟨yl,fun _=>⟨rfl,fun q=>by have S:=(q.ids i y hy).1; omega⟩⟩)
 refine dP 3 [] mn ?_
 refine g0 (t:=54) U (aS fun LA=>?_) (aT fun LA=>?_)
 ·refine dP 18 [] (mc 0 U mn) ?_
  obtain ⟨x,hx⟩:=aF r.cm i I
  have M:=bJ iC hx
  refine dS (IA i U (ax 6 U) dJ dc I I)<|dS (h_ i 0 (vI x) U bX (ax 6 U) M U dc U)<|kx 2 U<|dS (CL (o6 x 0 ((r.bg.length:Int)-1)) (aR) U)<|dP 2 [] mn ?_
  refine cw<|RK K<|cr U (aW fun Y=>?_) (aV fun Y=>?_)
  ·refine WS fun _ A6=>rP 2 [] mn ?_
   refine RK A6<|ao<|LX hQ (false,0,none,0,[]) [] [] mn U (by rfl) U U ?_
   (exact ⟨yl,fun _=>⟨rfl,fun q=>by have S:=q.HY hx; omega⟩⟩)
  refine WK V<|WS fun _ A7=>rP 1 [] mn ?_
  refine RK A7<|aC ?_
  have A:(0≤i)∧(∀ (q:Nat) y,q<0→r.cm[q]? =some y→y≠x):=by exact ⟨Nat.zero_le _,fun q y hq=>absurd hq (Nat.not_lt_zero _)⟩
  refine bQ (ι:={z:Nat // (z≤i)∧(∀ (q:Nat) y,q<z→r.cm[q]? =some y→y≠x)}) [1,4,5] [0,1,2,3,4,5,6,7,8] U U (fun z=>[(6,(vI (z.1:Int)))]) (fun z=>[]) (fun _=>rfl) (fun _=>rfl) (fun z=>i-z.1) ⟨0,A⟩ (bu U) (aN [0,1,2,3,4,5,6,7,8]) ?_
  clear A
  rintro ⟨k,⟨O,B⟩⟩ J34 g
  try dsimp only
  refine ak fun _ A8=>WS fun _ A9=>rP 3 [] mn ?_
  refine RK A9<|bO U (aS fun K0=>?_) (aT fun K0=>?_)
  ·refine bM<|ag<|ag<|aG<|aK<|KK AA<|au<|rP 3 [] mn ?_
   refine aD ?_
   have IO:(vI (((i+1):Nat):Int))=(vI ((i:Int)+1)):=by exact cI I
   refine bj (T ⟨(i+1),⟨I,B4 AB (fun a ha=>by rw [hy] at ha; cases ha; exact ⟨I,fun b hb hc=>by omega⟩) (fun a ha=>by rw [hx] at ha; cases ha; exact ⟨I,fun k b hk hb=>B k b I hb⟩)⟩⟩ _ _ _ rfl os (dh.cons rfl<|dh.cons rfl<|a_ rfl IO<|dh.nil _) (aN [0,1,2,3,4,5,6,7,8]))
  refine WK A8<|ak fun _ Bv=>aC<|ak fun _ B3=>cW ck 11 kr<|dP 3 [] (mc 0 U mn) ?_
  obtain ⟨u,hu⟩:=aF r.cm k I
  have Z:=bJ iC hu
  refine dS (IA k U (ax 6 U) dJ dc I I)<|dS (h_ k 0 (vI u) U bX (ax 6 U) Z U dc U)<|kv 3 [] (mc 0 U mn) U<|dS (IA i U (ax 6 U) dJ dc I I)<|dS (h_ i 0 (vI x) U bX (ax 6 U) M U dc U)<|dP 1 [] mn ?_
  refine cw<|RK B3<|bO U (aS fun L=>?_) (aT fun L=>?_)
  ·refine cp<|aK<|KK Bv<|au<|rP 3 [] mn ?_
   refine aD ?_
   have H1:(vI (((k+1):Nat):Int))=(vI ((k:Int)+1)):=by exact cI I
   refine bj (g ⟨(k+1),⟨I,x7 B hu L⟩⟩ _ _ _ U os (cN 3<|a_ U H1<|dh.nil _) (aN [0,1,2,3,4,5,6,7,8]))
  refine WS fun _ B9=>rP 2 [] mn ?_
  refine RK B9<|ao<|LX hQ (false,0,none,0,[]) [] [] mn U (by rfl) U U ?_
  (exact ⟨yl,fun _=>⟨rfl,fun q=>by have S:=q.num; have q2:=q.zM; have q3:=q.nh; have q4:=q.zz; omega⟩⟩)
 refine kv 3 [] (mc 0 U mn) U<|dS (IA i U (ax 5 U) dJ dc I I)<|dS (h_ i 0 (vI y) U bX (ax 5 U) Ji U dc U)<|dP 4 [] (mc 0 U mn) ?_
 obtain ⟨z,hz⟩:=aF r.bg (i-1) I
 have NE:=bJ iC hz
 refine dS (IA (i-1) U (ax 5 U) dJ dc I I)<|dS (h_ (i-1) 0 (vI z) U bX (ax 5 U) NE U dc U)<|dP 4 [] mn ?_
 refine g9 (t:=69) U (aT fun LT=>?_) (aS fun LT=>?_)
 ·refine kx 10 U<|cw<|RK K<|aI U<|WS fun _ AC=>rP 2 [] mn ?_
  refine RK AC<|ao<|LX hQ (false,0,none,0,[]) [] [] mn U (by rfl) U U ?_
  (exact ⟨yl,fun _=>⟨rfl,fun q=>by have S:=(q.ids i y hy).2 z I hz; omega⟩⟩)
 refine dP 3 [] (mc 0 U mn) ?_
 obtain ⟨x,hx⟩:=aF r.cm i I
 have M:=bJ iC hx
 refine dS (IA i U (ax 6 U) dJ dc I I)<|dS (h_ i 0 (vI x) U bX (ax 6 U) M U dc U)<|kx 2 U<|dS (CL (o6 x 0 ((r.bg.length:Int)-1)) (aR) U)<|dP 2 [] mn ?_
 refine cw<|RK K<|cr U (aW fun Y=>?_) (aV fun Y=>?_)
 ·refine WS fun _ AO=>rP 2 [] mn ?_
  refine RK AO<|ao<|LX hQ (false,0,none,0,[]) [] [] mn U (by rfl) U U ?_
  (exact ⟨yl,fun _=>⟨rfl,fun q=>by have S:=q.HY hx; omega⟩⟩)
 refine WK V<|WS fun _ A0=>rP 1 [] mn ?_
 refine RK A0<|aC ?_
 have A:(0≤i)∧(∀ (q:Nat) y,q<0→r.cm[q]? =some y→y≠x):=by exact ⟨Nat.zero_le _,fun q y hq=>absurd hq (Nat.not_lt_zero _)⟩
 refine bQ (ι:={z:Nat // (z≤i)∧(∀ (q:Nat) y,q<z→r.cm[q]? =some y→y≠x)}) [1,4,5] [0,1,2,3,4,5,6,7,8] U U (fun z=>[(6,(vI (z.1:Int)))]) (fun z=>[]) (fun _=>rfl) (fun _=>rfl) (fun z=>i-z.1) ⟨0,A⟩ (bu U) (aN [0,1,2,3,4,5,6,7,8]) ?_
 clear A
 rintro ⟨k,⟨O,B⟩⟩ J23 f
 try dsimp only
 refine ak fun _ A1=>WS fun _ A2=>rP 3 [] mn ?_
 refine RK A2<|bO U (aS fun X=>?_) (aT fun X=>?_)
 ·refine bM<|ag<|ag<|aG<|aK<|KK AA<|au<|rP 3 [] mn ?_
  refine aD ?_
  have Ho:(vI (((i+1):Nat):Int))=(vI ((i:Int)+1)):=by exact cI I
  refine bj (T ⟨(i+1),⟨I,B4 AB (fun a ha=>by rw [hy] at ha; cases ha; exact ⟨I,fun b hb hc=>by (rw [hz] at hc; cases hc; omega)⟩) (fun a ha=>by rw [hx] at ha; cases ha; exact ⟨I,fun k b hk hb=>B k b I hb⟩)⟩⟩ _ _ _ rfl os (dh.cons rfl<|dh.cons rfl<|a_ rfl Ho<|dh.nil _) (aN [0,1,2,3,4,5,6,7,8]))
 refine WK A1<|ak fun _ A3=>aC<|ak fun _ A4=>cW ck 11 kr<|dP 3 [] (mc 0 U mn) ?_
 obtain ⟨u,hu⟩:=aF r.cm k I
 have Z:=bJ iC hu
 refine dS (IA k U (ax 6 U) dJ dc I I)<|dS (h_ k 0 (vI u) U bX (ax 6 U) Z U dc U)<|kv 3 [] (mc 0 U mn) U<|dS (IA i U (ax 6 U) dJ dc I I)<|dS (h_ i 0 (vI x) U bX (ax 6 U) M U dc U)<|dP 1 [] mn ?_
 refine cw<|RK A4<|bO U (aS fun L=>?_) (aT fun L=>?_)
 ·refine cp<|aK<|KK A3<|au<|rP 3 [] mn ?_
  refine aD ?_
  have Hi:(vI (((k+1):Nat):Int))=(vI ((k:Int)+1)):=by exact cI I
  refine bj (f ⟨(k+1),⟨I,x7 B hu L⟩⟩ _ _ _ U os (cN 3<|a_ U Hi<|dh.nil _) (aN [0,1,2,3,4,5,6,7,8]))
 refine WS fun _ A5=>rP 2 [] mn ?_
 refine RK A5<|ao<|LX hQ (false,0,none,0,[]) [] [] mn U (by rfl) U U ?_
 (exact ⟨yl,fun _=>⟨rfl,fun q=>by exact q.OF I hu hx L⟩⟩)
end
section
open Go.RowKit
theorem Gx (r:eM) (kA:OA) (kC:Nat) (az:List RA) (cA:OA) (cC:Nat) (bA:OA) (bC:Nat) (slA:OA) (slC:Nat) (drA:OA) (drC:Nat) (ha:List cU) (heA:OA) (heC:Nat) (hin:lf r az ha):
 qf Tryz.prog 96 [(vA (fF.cells (xH r kA kC cA cC bA bC slA slC drA drC heA heC)))] [(rd kA r.ar.aO.length 9 (r.ar.aO.map aq.cells)),(rd cA r.ar.aj.length 2 (List.zipWith av.cells r.ar.aj az)),(dL (bk av.fu r.ar.aj az)),(rd bA r.ar.ab.length 4 (r.ar.ab.map bL.cells)),(rd slA r.bg.length 1 (r.bg.map iC)),(rd drA r.cm.length 1 (r.cm.map iC)),(rd heA r.aB.length 1 (List.zipWith cz r.aB ha)),(dL (bk eO r.aB ha))] (fun (x:Bool×Int×(OA)×Nat×(List RA))=>bif x.1 then (vT [(vS x.2.2.1 ((fT r).length) x.2.2.2.1),(vI 0)]) else (vT [(vS none 0 0),(vI x.2.1)])) (fun (x:Bool×Int×(OA)×Nat×(List RA))=>(x.1=true→(j9 r=0∧x.2.2.2.2.length=r.aB.length))∧(x.1=false→(x.2.1=j9 r∧ ¬ j9 r=0))) (fun (x:Bool×Int×(OA)×Nat×(List RA))=>bif x.1 then [(own x.2.2.1 x.2.2.2.1 153 1 (List.zipWith LD (fT r) x.2.2.2.2)),(bS (bk D9 (fT r) x.2.2.2.2))] else []):=by
 have AA:=hin.line
 have b:=hin.gQ
 have c:=hin.has
 have Z:=hin.gX
 have Y:=hin.draw
 have a:=jE (r:=r)
 refine fJ kr Tryz.func96 U U fun f Q hQ hN=>?_
 try dsimp only
 refine WS fun _ O=>ed U fun e=>bx 2 U<|RK O<|ak fun _ P=>WS fun _ R=>bx 1 U<|rS (LP (cu.cells (jr r.ar kA kC cA cC bA bC)) 0 U bX U U U)<|rS (CL (xV r.ar kA kC az cA cC bA bC asm) (br [1,2,3,4]) U)<|bx 1 U<|RK R<|WS fun _ S=>rP 2 [] mn ?_
 refine RK S<|cr U (aW fun A=>?_) (aV fun A=>?_)
 ·refine WS fun _ T=>rP 3 [] mn ?_
  refine RK T<|ao<|LX hQ (false,(dM r.ar),none,0,[]) [] [] mn U (by rfl) U U ?_
  exact vO<|EC (yu A) A
 refine WK P<|WS fun _ G=>rP 1 [] (mc 0 U mn) ?_
 refine cX (Dp r kA kC az cA cC bA bC slA slC drA drC ha heA heC hin (by exact A)) (br [1,2,3,4,5,6,7,8]) U fun d J=>?_
 obtain ⟨K,W,L,M,N⟩:=d
 cases K
 rotate_left 1
 ·obtain ⟨AB,V⟩:=J.1 rfl
  try dsimp only [cond_true,cond_false,List.cons_append,List.nil_append]
  refine bx 5 U<|RK G<|ak fun _ D=>WS fun _ E=>bx 2 U<|RK E<|bT U<|WK D<|WS fun _ F=>rP 3 [] mn ?_
  refine RK F<|ao ?_
  refine LX hQ (true,0,L,M,N) [0,1] [] mn U (by (show List.all _ _=true; simp only [cond_true,eH,List.all_nil,CS,Bool.and_true]; rfl)) U U ?_
  exact ⟨fun _=>⟨BU A AB,V⟩,OZ⟩
 obtain ⟨H,he⟩:=J.2 rfl
 try dsimp only at H he
 subst H
 try dsimp only [cond_true,cond_false,List.cons_append,List.nil_append]
 refine bx 5 U<|RK G<|ak fun _ X=>WS fun _ B=>bx 2 U<|RK B<|aI U<|WS fun _ C=>rP 2 [] mn ?_
 refine RK C<|ao<|LX hQ (false,60,none,0,[]) [] [] mn U (by rfl) U U ?_
 exact vO<|nv (kO A he)
end
section
open Go.RowKit
theorem Gh (r:eM) (kA:OA) (kC:Nat) (az:List RA) (cA:OA) (cC:Nat) (bA:OA) (bC:Nat) (slA:OA) (slC:Nat) (drA:OA) (drC:Nat) (ha:List cU) (heA:OA) (heC:Nat) (hin:lf r az ha):
 dF Tryz.prog 61 [(vA (fF.cells (xH r kA kC cA cC bA bC slA slC drA drC heA heC)))] [(rd kA r.ar.aO.length 9 (r.ar.aO.map aq.cells)),(rd cA r.ar.aj.length 2 (List.zipWith av.cells r.ar.aj az)),(dL (bk av.fu r.ar.aj az)),(rd bA r.ar.ab.length 4 (r.ar.ab.map bL.cells)),(rd slA r.bg.length 1 (r.bg.map iC)),(rd drA r.cm.length 1 (r.cm.map iC)),(rd heA r.aB.length 1 (List.zipWith cz r.aB ha)),(dL (bk eO r.aB ha))] (vI (j9 r)):=by
 have H:=hin.line
 have M:=hin.gQ
 have N:=hin.has
 have J:=hin.gX
 have AB:=hin.draw
 have K:=jE (r:=r)
 refine bE kr Tryz.func61 U U fun V Q hQ hN=>?_
 try dsimp only
 refine WS fun _ G=>ed U fun AA=>bx 1 U<|RK G<|WS fun _ C=>rP 1 [] (mc 0 U mn) ?_
 refine cX (Gx r kA kC az cA cC bA bC slA slC drA drC ha heA heC hin) (br [1,2,3,4,5,6,7,8]) U fun T E=>?_
 obtain ⟨F,L,P,R,S⟩:=T
 cases F
 rotate_left 1
 ·obtain ⟨he,O⟩:=E.1 rfl
  try dsimp only [cond_true,cond_false,List.cons_append,List.nil_append]
  refine bx 5 U<|RK C<|WS fun _ B=>rP 2 [] mn ?_
  refine RK B<|ao<|Q1 hQ U U U ?_
  first|rfl|(rw [he])
 obtain ⟨D,he⟩:=E.2 rfl
 try dsimp only at D he
 subst D
 try dsimp only [cond_true,cond_false,List.cons_append,List.nil_append]
 refine bx 5 U<|RK C<|WS fun _ A=>rP 2 [] mn ?_
 refine RK A<|ao<|Q1 hQ U U U ?_
 first|rfl|(rw [he])
end
section
open Go.RowKit
theorem Ft (j:dk) (kA:OA) (kC:Nat) (az:List RA) (cA:OA) (cC:Nat) (bA:OA) (bC:Nat) (slA:OA) (slC:Nat) (drA:OA) (drC:Nat) (ha:List cU) (heA:OA) (heC:Nat) (faA:OA) (faC:Nat) (prA:OA) (prC:Nat) (hin:fY j az ha) (hjr:j9 j.Race=0):
 dF Tryz.prog 62 [(vA (fW.cells (n7 j kA kC cA cC bA bC slA slC drA drC heA heC faA faC prA prC)))] [(rd kA j.Race.ar.aO.length 9 (j.Race.ar.aO.map aq.cells)),(rd cA j.Race.ar.aj.length 2 (List.zipWith av.cells j.Race.ar.aj az)),(dL (bk av.fu j.Race.ar.aj az)),(rd bA j.Race.ar.ab.length 4 (j.Race.ar.ab.map bL.cells)),(rd slA j.Race.bg.length 1 (j.Race.bg.map iC)),(rd drA j.Race.cm.length 1 (j.Race.cm.map iC)),(rd heA j.Race.aB.length 1 (List.zipWith cz j.Race.aB ha)),(dL (bk eO j.Race.aB ha)),(rd faA j.ay.length 4 (j.ay.map aX.cells)),(rd prA j.aM.length 5 (j.aM.map bI.cells))] (vB (decide (qq j))):=by
 have n:=hin.race
 have N7:=hin.race.line
 have Pw:=hin.race.gQ
 have QI:=hin.race.has
 have OT:=hin.race.gX
 have OG:=hin.nf
 have OQ:=hin.np
 have Qr:=(fr hjr).1
 have Ji:=(fr hjr).2
 refine bE kr Tryz.func62 U U fun w0 Q hQ hN=>?_
 try dsimp only
 refine WS fun _ Ms=>ed U fun b2=>bx 1 U<|RK Ms<|ak fun _ M0=>WS fun _ a=>rP 5 [] (mc 0 U mn) ?_
 refine bP (t:=12) U (aT fun h5=>?_) (aS fun h5=>?_)
 ·refine bx 17 U<|RK a<|aI U<|WS fun _ M2=>rP 1 [] mn ?_
  refine RK M2<|ao<|Q1 hQ U U U ?_
  first|exact cB (aY (fun q=>by have C:=q.nf; have H:=q.min_; have J:=q.ux; have K:=q.np; omega)).symm|exact cB (aY (fun q=>by have C:=q.fault f (aP hf); unfold eZ at C; split at C<;>omega)).symm|exact cB (aY (fun q=>by have A:=q.ia _ p hp; have C:=A.id; have H:=A.lu; have J:=A.fX; have K:=A.fault; simp only [qI] at H; first|omega|(have V:=A.up AA I L; omega))).symm|exact cB (aY (fun q=>by obtain ⟨R,G,AB,T⟩:=(q.ia _ p hp).jH; rw [F] at G; cases G; first|exact E AB|exact h148 AB|omega)).symm|exact cB (cJ ⟨I,dQ D I,I,I,I,fun i p hi=>B i p (by have:=(aU.1 hi).1; omega) hi⟩).symm
 refine er 2 [] (mc 0 U mn) U<|rS (CL (gG j.fQ 0 60) (aR) U)<|rP 3 [] mn ?_
 refine bP (t:=18) U (aW fun h7=>?_) (aV fun h7=>?_)
 ·refine bx 11 U<|RK a<|aI U<|WS fun _ M3=>rP 1 [] mn ?_
  refine RK M3<|ao<|Q1 hQ U U U ?_
  first|exact cB (aY (fun q=>by have C:=q.nf; have H:=q.min_; have J:=q.ux; have K:=q.np; omega)).symm|exact cB (aY (fun q=>by have C:=q.fault f (aP hf); unfold eZ at C; split at C<;>omega)).symm|exact cB (aY (fun q=>by have A:=q.ia _ p hp; have C:=A.id; have H:=A.lu; have J:=A.fX; have K:=A.fault; simp only [qI] at H; first|omega|(have V:=A.up AA I L; omega))).symm|exact cB (aY (fun q=>by obtain ⟨R,G,AB,T⟩:=(q.ia _ p hp).jH; rw [F] at G; cases G; first|exact E AB|exact h148 AB|omega)).symm|exact cB (cJ ⟨I,dQ D I,I,I,I,fun i p hi=>B i p (by have:=(aU.1 hi).1; omega) hi⟩).symm
 refine er 2 [] (mc 0 U mn) U<|rS (CL (gG j.z8 0 100000) (aR) U)<|rP 3 [] mn ?_
 refine bP (t:=24) U (aW fun h9=>?_) (aV fun h9=>?_)
 ·refine bx 5 U<|RK a<|aI U<|WS fun _ s=>rP 1 [] mn ?_
  refine RK s<|ao<|Q1 hQ U U U ?_
  first|exact cB (aY (fun q=>by have C:=q.nf; have H:=q.min_; have J:=q.ux; have K:=q.np; omega)).symm|exact cB (aY (fun q=>by have C:=q.fault f (aP hf); unfold eZ at C; split at C<;>omega)).symm|exact cB (aY (fun q=>by have A:=q.ia _ p hp; have C:=A.id; have H:=A.lu; have J:=A.fX; have K:=A.fault; simp only [qI] at H; first|omega|(have V:=A.up AA I L; omega))).symm|exact cB (aY (fun q=>by obtain ⟨R,G,AB,T⟩:=(q.ia _ p hp).jH; rw [F] at G; cases G; first|exact E AB|exact h148 AB|omega)).symm|exact cB (cJ ⟨I,dQ D I,I,I,I,fun i p hi=>B i p (by have:=(aU.1 hi).1; omega) hi⟩).symm
 refine rP 5 [] (mc 0 U mn) ?_
 refine RK a<|cr U (aT fun J2=>?_) (aS fun J2=>?_)
 ·refine WS fun _ u=>rP 1 [] mn ?_
  refine RK u<|ao<|Q1 hQ U U U ?_
  first|exact cB (aY (fun q=>by have C:=q.nf; have H:=q.min_; have J:=q.ux; have K:=q.np; omega)).symm|exact cB (aY (fun q=>by have C:=q.fault f (aP hf); unfold eZ at C; split at C<;>omega)).symm|exact cB (aY (fun q=>by have A:=q.ia _ p hp; have C:=A.id; have H:=A.lu; have J:=A.fX; have K:=A.fault; simp only [qI] at H; first|omega|(have V:=A.up AA I L; omega))).symm|exact cB (aY (fun q=>by obtain ⟨R,G,AB,T⟩:=(q.ia _ p hp).jH; rw [F] at G; cases G; first|exact E AB|exact h148 AB|omega)).symm|exact cB (cJ ⟨I,dQ D I,I,I,I,fun i p hi=>B i p (by have:=(aU.1 hi).1; omega) hi⟩).symm
 refine WK M0<|ak fun _ v=>WS fun _ w=>rP 1 [] mn ?_
 refine RK w<|aC ?_
 have S:(0≤j.ay.length)∧(oS j 0):=by exact ⟨Nat.zero_le _,BC⟩
 refine bQ (ι:={z:Nat // (z≤j.ay.length)∧(oS j z)}) [1] [0,1,2,3,4,5,6,7,8,9,10] U U (fun z=>[(3,(vI (z.1:Int)))]) (fun z=>[]) (fun _=>rfl) (fun _=>rfl) (fun z=>j.ay.length-z.1) ⟨0,S⟩ (bu U) (aN [0,1,2,3,4,5,6,7,8,9,10]) ?_
 clear S
 rintro ⟨i,⟨Ne,D⟩⟩ J15 W
 try dsimp only
 refine ak fun _ x=>WS fun _ y=>rP 5 [] (mc 0 U mn) ?_
 refine RK y<|cr U (aT fun J3=>?_) (aS fun J3=>?_)
 ·refine WK x<|ak fun _ X=>aC<|WS fun _ AC=>rP 3 [] (mc 0 U mn) ?_
  obtain ⟨f,hf⟩:=aF j.ay i I
  have NE:=bJ aX.cells hf
  refine rS (IA i U (ax 9 U) xB dc I I)<|rS (jL i 0 (aX.cells f) U bX (ax 9 U) NE U dc U U)<|AL U RB fun Oa=>fj U Qn U<|RK AC<|ak fun _ AO=>WS fun _ c=>er 4 [] (mc 0 U mn) U<|rS (CL (gG f.lX 0 f.To) (aR) U)<|rP 2 [] mn ?_
  refine bP (t:=48) U (aW fun J5=>?_) (aV fun J5=>?_)
  ·refine bx 4 U<|RK c<|aI U<|WS fun _ A0=>rP 1 [] mn ?_
   refine RK A0<|ao<|Q1 hQ U U U ?_
   first|exact cB (aY (fun q=>by have C:=q.nf; have H:=q.min_; have J:=q.ux; have K:=q.np; omega)).symm|exact cB (aY (fun q=>by have C:=q.fault f (aP hf); unfold eZ at C; split at C<;>omega)).symm|exact cB (aY (fun q=>by have A:=q.ia _ p hp; have C:=A.id; have H:=A.lu; have J:=A.fX; have K:=A.fault; simp only [qI] at H; first|omega|(have V:=A.up AA I L; omega))).symm|exact cB (aY (fun q=>by obtain ⟨R,G,AB,T⟩:=(q.ia _ p hp).jH; rw [F] at G; cases G; first|exact E AB|exact h148 AB|omega)).symm|exact cB (cJ ⟨I,dQ D I,I,I,I,fun i p hi=>B i p (by have:=(aU.1 hi).1; omega) hi⟩).symm
  refine rP 4 [] (mc 0 U mn) ?_
  refine RK c<|cr U (aT fun J6=>?_) (aS fun J6=>?_)
  ·refine WS fun _ A1=>rP 1 [] mn ?_
   refine RK A1<|ao<|Q1 hQ U U U ?_
   first|exact cB (aY (fun q=>by have C:=q.nf; have H:=q.min_; have J:=q.ux; have K:=q.np; omega)).symm|exact cB (aY (fun q=>by have C:=q.fault f (aP hf); unfold eZ at C; split at C<;>omega)).symm|exact cB (aY (fun q=>by have A:=q.ia _ p hp; have C:=A.id; have H:=A.lu; have J:=A.fX; have K:=A.fault; simp only [qI] at H; first|omega|(have V:=A.up AA I L; omega))).symm|exact cB (aY (fun q=>by obtain ⟨R,G,AB,T⟩:=(q.ia _ p hp).jH; rw [F] at G; cases G; first|exact E AB|exact h148 AB|omega)).symm|exact cB (cJ ⟨I,dQ D I,I,I,I,fun i p hi=>B i p (by have:=(aU.1 hi).1; omega) hi⟩).symm
  refine WK AO<|WS fun _ A2=>er 2 [] (mc 0 U mn) U<|RK A2<|aC<|WS fun _ A3=>rS (BI U jW)<|rP 1 [] mn ?_
  refine RK A3<|cr U (aT fun J7=>?_) (aS fun J7=>?_)
  ·refine WS fun _ A4=>rP 3 [] (mc 0 U mn) ?_
   refine RK A4<|bO U (aV fun J8=>?_) (aW fun J8=>?_)
   ·refine cp<|aK<|aK<|KK X<|au<|rP 3 [] mn ?_
    refine aD ?_
    have Ho:(vI (((i+1):Nat):Int))=(vI ((i:Int)+1)):=by exact cI I
    refine bj (W ⟨(i+1),⟨I,qw D hf (by refine ⟨I,I,I,?_⟩; split<;>omega)⟩⟩ _ _ _ U os (dh.cons U<|a_ U Ho<|dh.nil _) (aN [1,2,3,4,5,6,7,8,9,10,11]))
   refine WS fun _ A5=>rP 1 [] mn ?_
   refine RK A5<|ao<|Q1 hQ U U U ?_
   first|exact cB (aY (fun q=>by have C:=q.nf; have H:=q.min_; have J:=q.ux; have K:=q.np; omega)).symm|exact cB (aY (fun q=>by have C:=q.fault f (aP hf); unfold eZ at C; split at C<;>omega)).symm|exact cB (aY (fun q=>by have A:=q.ia _ p hp; have C:=A.id; have H:=A.lu; have J:=A.fX; have K:=A.fault; simp only [qI] at H; first|omega|(have V:=A.up AA I L; omega))).symm|exact cB (aY (fun q=>by obtain ⟨R,G,AB,T⟩:=(q.ia _ p hp).jH; rw [F] at G; cases G; first|exact E AB|exact h148 AB|omega)).symm|exact cB (cJ ⟨I,dQ D I,I,I,I,fun i p hi=>B i p (by have:=(aU.1 hi).1; omega) hi⟩).symm
  refine ak fun _ e=>WS fun _ A6=>rS (BI U jW)<|rP 1 [] mn ?_
  refine RK A6<|cr U (aT fun J9=>?_) (aS fun J9=>?_)
  ·refine WK e<|bO U (aS fun KV=>?_) (aT fun KV=>?_)
   ·refine WS fun _ A9=>rP 1 [] mn ?_
    refine RK A9<|ao<|Q1 hQ U U U ?_
    first|exact cB (aY (fun q=>by have C:=q.nf; have H:=q.min_; have J:=q.ux; have K:=q.np; omega)).symm|exact cB (aY (fun q=>by have C:=q.fault f (aP hf); unfold eZ at C; split at C<;>omega)).symm|exact cB (aY (fun q=>by have A:=q.ia _ p hp; have C:=A.id; have H:=A.lu; have J:=A.fX; have K:=A.fault; simp only [qI] at H; first|omega|(have V:=A.up AA I L; omega))).symm|exact cB (aY (fun q=>by obtain ⟨R,G,AB,T⟩:=(q.ia _ p hp).jH; rw [F] at G; cases G; first|exact E AB|exact h148 AB|omega)).symm|exact cB (cJ ⟨I,dQ D I,I,I,I,fun i p hi=>B i p (by have:=(aU.1 hi).1; omega) hi⟩).symm
   refine WS fun _ A7=>er 6 [0,1] (mc 0 U (mc 1 U mn)) U<|rS (CL (gG f.gW 0 j.Race.ar.b_) (aR) U)<|rP 1 [] mn ?_
   refine RK A7<|bO U (aV fun K0=>?_) (aW fun K0=>?_)
   ·refine cp<|aK<|aK<|KK X<|au<|rP 3 [] mn ?_
    refine aD ?_
    have H1:(vI (((i+1):Nat):Int))=(vI ((i:Int)+1)):=by exact cI I
    refine bj (W ⟨(i+1),⟨I,qw D hf (by refine ⟨I,I,I,?_⟩; split<;>omega)⟩⟩ _ _ _ U os (dh.cons U<|a_ U H1<|dh.nil _) (aN [1,2,3,4,5,6,7,8,9,10,11]))
   refine WS fun _ A8=>rP 1 [] mn ?_
   refine RK A8<|ao<|Q1 hQ U U U ?_
   first|exact cB (aY (fun q=>by have C:=q.nf; have H:=q.min_; have J:=q.ux; have K:=q.np; omega)).symm|exact cB (aY (fun q=>by have C:=q.fault f (aP hf); unfold eZ at C; split at C<;>omega)).symm|exact cB (aY (fun q=>by have A:=q.ia _ p hp; have C:=A.id; have H:=A.lu; have J:=A.fX; have K:=A.fault; simp only [qI] at H; first|omega|(have V:=A.up AA I L; omega))).symm|exact cB (aY (fun q=>by obtain ⟨R,G,AB,T⟩:=(q.ia _ p hp).jH; rw [F] at G; cases G; first|exact E AB|exact h148 AB|omega)).symm|exact cB (cJ ⟨I,dQ D I,I,I,I,fun i p hi=>B i p (by have:=(aU.1 hi).1; omega) hi⟩).symm
  refine au<|rS (BI U jW)<|rP 1 [] mn ?_
  refine RK e<|bO U (aS fun K4=>?_) (aT fun K4=>?_)
  ·refine WS fun _ B9=>rP 1 [] mn ?_
   refine RK B9<|ao<|Q1 hQ U U U ?_
   first|exact cB (aY (fun q=>by have C:=q.nf; have H:=q.min_; have J:=q.ux; have K:=q.np; omega)).symm|exact cB (aY (fun q=>by have C:=q.fault f (aP hf); unfold eZ at C; split at C<;>omega)).symm|exact cB (aY (fun q=>by have A:=q.ia _ p hp; have C:=A.id; have H:=A.lu; have J:=A.fX; have K:=A.fault; simp only [qI] at H; first|omega|(have V:=A.up AA I L; omega))).symm|exact cB (aY (fun q=>by obtain ⟨R,G,AB,T⟩:=(q.ia _ p hp).jH; rw [F] at G; cases G; first|exact E AB|exact h148 AB|omega)).symm|exact cB (cJ ⟨I,dQ D I,I,I,I,fun i p hi=>B i p (by have:=(aU.1 hi).1; omega) hi⟩).symm
  refine WS fun _ Bv=>er 6 [0,1] (mc 0 U (mc 1 U mn)) U<|rS (CL (gG f.gW 0 j.Race.ar.b_) (aR) U)<|rP 1 [] mn ?_
  refine RK Bv<|bO U (aV fun K5=>?_) (aW fun K5=>?_)
  ·refine cp<|aK<|aK<|KK X<|au<|rP 3 [] mn ?_
   refine aD ?_
   have IO:(vI (((i+1):Nat):Int))=(vI ((i:Int)+1)):=by exact cI I
   refine bj (W ⟨(i+1),⟨I,qw D hf (by refine ⟨I,I,I,?_⟩; split<;>omega)⟩⟩ _ _ _ U os (dh.cons U<|a_ U IO<|dh.nil _) (aN [1,2,3,4,5,6,7,8,9,10,11]))
  refine WS fun _ B3=>rP 1 [] mn ?_
  refine RK B3<|ao<|Q1 hQ U U U ?_
  first|exact cB (aY (fun q=>by have C:=q.nf; have H:=q.min_; have J:=q.ux; have K:=q.np; omega)).symm|exact cB (aY (fun q=>by have C:=q.fault f (aP hf); unfold eZ at C; split at C<;>omega)).symm|exact cB (aY (fun q=>by have A:=q.ia _ p hp; have C:=A.id; have H:=A.lu; have J:=A.fX; have K:=A.fault; simp only [qI] at H; first|omega|(have V:=A.up AA I L; omega))).symm|exact cB (aY (fun q=>by obtain ⟨R,G,AB,T⟩:=(q.ia _ p hp).jH; rw [F] at G; cases G; first|exact E AB|exact h148 AB|omega)).symm|exact cB (cJ ⟨I,dQ D I,I,I,I,fun i p hi=>B i p (by have:=(aU.1 hi).1; omega) hi⟩).symm
 refine bM<|ag<|ag<|aG<|KK v<|ak fun _ Ci=>WS fun _ Ck=>rP 1 [] mn ?_
 refine RK Ck<|aC ?_
 have S:(0≤j.aM.length)∧(n_ j 0):=by exact ⟨Nat.zero_le _,xO⟩
 refine bQ (ι:={z:Nat // (z≤j.aM.length)∧(n_ j z)}) [1] [0,1,2,3,4,5,6,7,8,9,10] U U (fun z=>[(5,(vI (z.1:Int)))]) (fun z=>[]) (fun _=>rfl) (fun _=>rfl) (fun z=>j.aM.length-z.1) ⟨0,S⟩ (bu U) (aN [0,1,2,3,4,5,6,7,8,9,10]) ?_
 clear S
 rintro ⟨k,⟨Jr,B⟩⟩ J52 b
 try dsimp only
 refine ak fun _ Cp=>WS fun _ Cx=>rP 5 [] (mc 0 U mn) ?_
 refine RK Cx<|bO U (aS fun K8=>?_) (aT fun K8=>?_)
 ·refine bM<|ag<|ag<|aG<|KK Ci<|WS fun _ GT=>rP 1 [] mn ?_
  refine RK GT<|ao<|Q1 hQ U U U ?_
  first|exact cB (aY (fun q=>by have C:=q.nf; have H:=q.min_; have J:=q.ux; have K:=q.np; omega)).symm|exact cB (aY (fun q=>by have C:=q.fault f (aP hf); unfold eZ at C; split at C<;>omega)).symm|exact cB (aY (fun q=>by have A:=q.ia _ p hp; have C:=A.id; have H:=A.lu; have J:=A.fX; have K:=A.fault; simp only [qI] at H; first|omega|(have V:=A.up AA I L; omega))).symm|exact cB (aY (fun q=>by obtain ⟨R,G,AB,T⟩:=(q.ia _ p hp).jH; rw [F] at G; cases G; first|exact E AB|exact h148 AB|omega)).symm|exact cB (cJ ⟨I,dQ D I,I,I,I,fun i p hi=>B i p (by have:=(aU.1 hi).1; omega) hi⟩).symm
 refine WK Cp<|ak fun _ g=>aC<|WS fun _ C0=>rP 3 [] (mc 0 U mn) ?_
 obtain ⟨p,hp⟩:=aF j.aM k I
 have OB:=bJ bI.cells hp
 refine rS (IA k U (ax 10 U) BJ dc I I)<|rS (jL k 0 (bI.cells p) U bX (ax 10 U) OB U dc U U)<|AL U Np fun Op=>fj U Nf U<|RK C0<|ak fun _ h=>ak fun _ P=>cW ck 52 kr<|kv 2 [] (mc 0 U mn) U<|dS (CL (gG p.Id 0 9999) (aR) U)<|dP 2 [] mn ?_
 refine g9 (t:=87) U (aW fun LA=>?_) (aV fun LA=>?_)
 ·refine kx 47 U<|cw<|RK P<|aI U<|WS fun _ C1=>rP 1 [] mn ?_
  refine RK C1<|ao<|Q1 hQ U U U ?_
  first|exact cB (aY (fun q=>by have C:=q.nf; have H:=q.min_; have J:=q.ux; have K:=q.np; omega)).symm|exact cB (aY (fun q=>by have C:=q.fault f (aP hf); unfold eZ at C; split at C<;>omega)).symm|exact cB (aY (fun q=>by have A:=q.ia _ p hp; have C:=A.id; have H:=A.lu; have J:=A.fX; have K:=A.fault; simp only [qI] at H; omega)).symm|exact cB (aY (fun q=>by obtain ⟨R,G,AB,T⟩:=(q.ia _ p hp).jH; rw [F] at G; cases G; first|exact E AB|exact h148 AB|omega)).symm|exact cB (cJ ⟨I,dQ D I,I,I,I,fun i p hi=>B i p (by have:=(aU.1 hi).1; omega) hi⟩).symm
 refine dP 3 [] mn ?_
 refine g0 (t:=90) U (aS fun LE=>?_) (aT fun LE=>?_)
 ·refine kv 20 [0,1] (mc 0 U (mc 1 U mn)) U<|dS (CL (gG p.iR 0 ((j.Race.bg.length:Int)-1)) (aR) U)<|dP 3 [] mn ?_
  refine g9 (t:=114) U (aW fun Lw=>?_) (aV fun Lw=>?_)
  ·refine kx 20 U<|cw<|RK P<|aI U<|WS fun _ Eq=>rP 1 [] mn ?_
   refine RK Eq<|ao<|Q1 hQ U U U ?_
   first|exact cB (aY (fun q=>by have C:=q.nf; have H:=q.min_; have J:=q.ux; have K:=q.np; omega)).symm|exact cB (aY (fun q=>by have C:=q.fault f (aP hf); unfold eZ at C; split at C<;>omega)).symm|exact cB (aY (fun q=>by have A:=q.ia _ p hp; have C:=A.id; have H:=A.lu; have J:=A.fX; have K:=A.fault; simp only [qI] at H; omega)).symm|exact cB (aY (fun q=>by obtain ⟨R,G,AB,T⟩:=(q.ia _ p hp).jH; rw [F] at G; cases G; first|exact E AB|exact h148 AB|omega)).symm|exact cB (cJ ⟨I,dQ D I,I,I,I,fun i p hi=>B i p (by have:=(aU.1 hi).1; omega) hi⟩).symm
  refine kv 7 [0,1] (mc 0 U (mc 1 U mn)) U<|dS (CL (gG p.iY 0 ((j.Race.aB.length:Int)-1)) (aR) U)<|dP 3 [] mn ?_
  refine g9 (t:=125) U (aW fun L0=>?_) (aV fun L0=>?_)
  ·refine kx 9 U<|cw<|RK P<|aI U<|WS fun _ FP=>rP 1 [] mn ?_
   refine RK FP<|ao<|Q1 hQ U U U ?_
   first|exact cB (aY (fun q=>by have C:=q.nf; have H:=q.min_; have J:=q.ux; have K:=q.np; omega)).symm|exact cB (aY (fun q=>by have C:=q.fault f (aP hf); unfold eZ at C; split at C<;>omega)).symm|exact cB (aY (fun q=>by have A:=q.ia _ p hp; have C:=A.id; have H:=A.lu; have J:=A.fX; have K:=A.fault; simp only [qI] at H; omega)).symm|exact cB (aY (fun q=>by obtain ⟨R,G,AB,T⟩:=(q.ia _ p hp).jH; rw [F] at G; cases G; first|exact E AB|exact h148 AB|omega)).symm|exact cB (cJ ⟨I,dQ D I,I,I,I,fun i p hi=>B i p (by have:=(aU.1 hi).1; omega) hi⟩).symm
  refine kv 6 [0,1] (mc 0 U (mc 1 U mn)) U<|dS (CL (gG p.pd 0 ((j.ay.length:Int)-1)) (aR) U)<|dP 2 [] mn ?_
  refine cw<|RK P<|cr U (aW fun L2=>?_) (aV fun L2=>?_)
  ·refine WS fun _ FS=>rP 1 [] mn ?_
   refine RK FS<|ao<|Q1 hQ U U U ?_
   first|exact cB (aY (fun q=>by have C:=q.nf; have H:=q.min_; have J:=q.ux; have K:=q.np; omega)).symm|exact cB (aY (fun q=>by have C:=q.fault f (aP hf); unfold eZ at C; split at C<;>omega)).symm|exact cB (aY (fun q=>by have A:=q.ia _ p hp; have C:=A.id; have H:=A.lu; have J:=A.fX; have K:=A.fault; simp only [qI] at H; omega)).symm|exact cB (aY (fun q=>by obtain ⟨R,G,AB,T⟩:=(q.ia _ p hp).jH; rw [F] at G; cases G; first|exact E AB|exact h148 AB|omega)).symm|exact cB (cJ ⟨I,dQ D I,I,I,I,fun i p hi=>B i p (by have:=(aU.1 hi).1; omega) hi⟩).symm
  refine WK h<|ak fun _ Fd=>dx ck [11,12] [] [] [0,1,2,3,4,5,6,7,8,9,10,11] [] U U U U U<|eS U (FA 0 U eV U)<|eS U (FA 10 U eV U)<|eS U (L1 (vS heA j.Race.aB.length heC) 1 U bX U U)<|eS U (FA 2 U eV U)<|eS U (L1 (vI p.iY) 0 U bX U U) ?_
  obtain ⟨ht,O⟩:=aF j.Race.aB ((p.iY).toNat) I
  obtain ⟨M,N⟩:=aF ha ((p.iY).toNat) I
  have Z:(List.zipWith cz j.Race.aB ha)[(p.iY).toNat]? =some (cz ht M):=cZ O N
  refine eS U (IA ((p.iY).toNat) U (ax 8 U) lZ dc I I) ?_
  have Y:=n.fX _ _ _ O N
  have In:=Y.mq
  have Jb:=(Ji.fX ht (aP O)).1
  refine eS U (h_ ((p.iY).toNat) 0 (vS M.1.1 ht.length M.1.2) U bX (ax 8 U) Z U dc U)<|eS U (FA 1 U eV U)<|eS U (L1 (vI p.iR) 0 U bX U U) ?_
  obtain ⟨d,hd⟩:=aF ht ((p.iR).toNat) I
  obtain ⟨da,o⟩:=aF M.2 ((p.iR).toNat) I
  have r:(List.zipWith aw.cells ht M.2)[(p.iR).toNat]? =some (aw.cells d da):=cZ hd o
  refine eS U (IA ((p.iR).toNat) U (show hH _ (rd M.1.1 ht.length 7 (List.zipWith aw.cells ht M.2)).holds from (cj 9 U (bD O N ct))) qk dc I I) ?_
  have F:=o9 (j:=j) (p:=p) O hd
  have OF:=Y.sig d (aP hd)
  refine eS U (jL ((p.iR).toNat) 0 (bf.cells (bf.mk d.Out d.cO d.Time (de.mk d.aZ.Start d.aZ.fP (bK.mk da.1 d.aZ.aa.length da.2)))) U bX (show hH _ (rd M.1.1 ht.length 7 (List.zipWith aw.cells ht M.2)).holds from (cj 9 U (bD O N ct))) r U dc U U)<|eo U<|cd U fun T88 HY=>AL U I3 fun Os=>aD (HY _ _ (aN [1,2,3,4,5,6,7,8,9,10,11,12]) ?_)
  refine cd U fun T90 Hi=>fj U IN U<|aD (Hi _ _ (aN [1,2,3,4,5,6,7,8,9,10,11,12]) ?_)
  refine fh U<|KK Fd<|WS fun _ m=>er 1 [] (mc 0 U mn) U<|rS (CL (s7 d.Out d.cO d.Time (de.mk d.aZ.Start d.aZ.fP (bK.mk da.1 d.aZ.aa.length da.2))) (aR) U)<|rP 2 [] mn ?_
  refine bP (t:=149) U (aW fun E=>?_) (aV fun E=>?_)
  ·refine bx 8 U<|RK m<|aI U<|WS fun _ Fn=>rP 1 [] mn ?_
   refine RK Fn<|ao<|Q1 hQ U U U ?_
   first|exact cB (aY (fun q=>by have C:=q.nf; have H:=q.min_; have J:=q.ux; have K:=q.np; omega)).symm|exact cB (aY (fun q=>by have C:=q.fault f (aP hf); unfold eZ at C; split at C<;>omega)).symm|exact cB (aY (fun q=>by have A:=q.ia _ p hp; have C:=A.id; have H:=A.lu; have J:=A.fX; have K:=A.fault; simp only [qI] at H; first|omega|(have V:=A.up AA I L; omega))).symm|exact cB (aY (fun q=>by obtain ⟨R,G,AB,T⟩:=(q.ia _ p hp).jH; rw [F] at G; cases G; exact E AB)).symm|exact cB (cJ ⟨I,dQ D I,I,I,I,fun i p hi=>B i p (by have:=(aU.1 hi).1; omega) hi⟩).symm
  refine er 5 [0,1] (mc 1 U (mc 0 U mn)) U<|rS (CL (gG p.At d.aZ.Start 86400000) (aR) U)<|rP 2 [] mn ?_
  refine RK m<|bO U (aV fun L3=>?_) (aW fun L3=>?_)
  ·refine cp<|aK<|KK g<|au<|rP 3 [] mn ?_
   refine aD ?_
   have If:(vI (((k+1):Nat):Int))=(vI ((k:Int)+1)):=by exact cI I
   refine bj (b ⟨(k+1),⟨I,si B hp ⟨I,fun q h1 h2=>by omega,by simp only [qI]; omega,I,I,d,F,by first|exact E|exact h148,I⟩⟩⟩ _ _ _ U os (dh.cons U<|a_ U If<|dh.nil _) (aN [2,3,4,5,6,7,8,9,10,11,12]))
  refine WS fun _ GE=>rP 1 [] mn ?_
  refine RK GE<|ao<|Q1 hQ U U U ?_
  first|exact cB (aY (fun q=>by have C:=q.nf; have H:=q.min_; have J:=q.ux; have K:=q.np; omega)).symm|exact cB (aY (fun q=>by have C:=q.fault f (aP hf); unfold eZ at C; split at C<;>omega)).symm|exact cB (aY (fun q=>by have A:=q.ia _ p hp; have C:=A.id; have H:=A.lu; have J:=A.fX; have K:=A.fault; simp only [qI] at H; first|omega|(have V:=A.up AA I L; omega))).symm|exact cB (aY (fun q=>by obtain ⟨R,G,AB,T⟩:=(q.ia _ p hp).jH; rw [F] at G; cases G; omega)).symm|exact cB (cJ ⟨I,dQ D I,I,I,I,fun i p hi=>B i p (by have:=(aU.1 hi).1; omega) hi⟩).symm
 refine dP 6 [0,1] (mc 0 U (mc 1 U mn)) ?_
 obtain ⟨AA,L⟩:=aF j.aM (k-1) I
 have hp0m:=bJ bI.cells L
 refine dS (IA (k-1) U (ax 11 U) BJ dc I I)<|dS (oL ((k-1)*5) U (ax 11 U) (Nat.mul_pos I dc) eV U)<|dS (h_ (k-1) 0 (vI AA.Id) U bX (ax 11 U) hp0m U dc U)<|dP 4 [] mn ?_
 refine g9 (t:=103) U (aT fun LT=>?_) (aS fun LT=>?_)
 ·refine kx 31 U<|cw<|RK P<|aI U<|WS fun _ C2=>rP 1 [] mn ?_
  refine RK C2<|ao<|Q1 hQ U U U ?_
  first|exact cB (aY (fun q=>by have C:=q.nf; have H:=q.min_; have J:=q.ux; have K:=q.np; omega)).symm|exact cB (aY (fun q=>by have C:=q.fault f (aP hf); unfold eZ at C; split at C<;>omega)).symm|exact cB (aY (fun q=>by have A:=q.ia _ p hp; have C:=A.id; have H:=A.lu; have J:=A.fX; have K:=A.fault; simp only [qI] at H; (have V:=A.up AA I L; omega))).symm|exact cB (aY (fun q=>by obtain ⟨R,G,AB,T⟩:=(q.ia _ p hp).jH; rw [F] at G; cases G; first|exact E AB|exact h148 AB|omega)).symm|exact cB (cJ ⟨I,dQ D I,I,I,I,fun i p hi=>B i p (by have:=(aU.1 hi).1; omega) hi⟩).symm
 refine kv 7 [0,1] (mc 0 U (mc 1 U mn)) U<|dS (CL (gG p.iR 0 ((j.Race.bg.length:Int)-1)) (aR) U)<|dP 3 [] mn ?_
 refine g9 (t:=114) U (aW fun La=>?_) (aV fun La=>?_)
 ·refine kx 20 U<|cw<|RK P<|aI U<|WS fun _ C3=>rP 1 [] mn ?_
  refine RK C3<|ao<|Q1 hQ U U U ?_
  first|exact cB (aY (fun q=>by have C:=q.nf; have H:=q.min_; have J:=q.ux; have K:=q.np; omega)).symm|exact cB (aY (fun q=>by have C:=q.fault f (aP hf); unfold eZ at C; split at C<;>omega)).symm|exact cB (aY (fun q=>by have A:=q.ia _ p hp; have C:=A.id; have H:=A.lu; have J:=A.fX; have K:=A.fault; simp only [qI] at H; omega)).symm|exact cB (aY (fun q=>by obtain ⟨R,G,AB,T⟩:=(q.ia _ p hp).jH; rw [F] at G; cases G; first|exact E AB|exact h148 AB|omega)).symm|exact cB (cJ ⟨I,dQ D I,I,I,I,fun i p hi=>B i p (by have:=(aU.1 hi).1; omega) hi⟩).symm
 refine kv 7 [0,1] (mc 0 U (mc 1 U mn)) U<|dS (CL (gG p.iY 0 ((j.Race.aB.length:Int)-1)) (aR) U)<|dP 3 [] mn ?_
 refine g9 (t:=125) U (aW fun Li=>?_) (aV fun Li=>?_)
 ·refine kx 9 U<|cw<|RK P<|aI U<|WS fun _ DE=>rP 1 [] mn ?_
  refine RK DE<|ao<|Q1 hQ U U U ?_
  first|exact cB (aY (fun q=>by have C:=q.nf; have H:=q.min_; have J:=q.ux; have K:=q.np; omega)).symm|exact cB (aY (fun q=>by have C:=q.fault f (aP hf); unfold eZ at C; split at C<;>omega)).symm|exact cB (aY (fun q=>by have A:=q.ia _ p hp; have C:=A.id; have H:=A.lu; have J:=A.fX; have K:=A.fault; simp only [qI] at H; omega)).symm|exact cB (aY (fun q=>by obtain ⟨R,G,AB,T⟩:=(q.ia _ p hp).jH; rw [F] at G; cases G; first|exact E AB|exact h148 AB|omega)).symm|exact cB (cJ ⟨I,dQ D I,I,I,I,fun i p hi=>B i p (by have:=(aU.1 hi).1; omega) hi⟩).symm
 refine kv 6 [0,1] (mc 0 U (mc 1 U mn)) U<|dS (CL (gG p.pd 0 ((j.ay.length:Int)-1)) (aR) U)<|dP 2 [] mn ?_
 refine cw<|RK P<|cr U (aW fun Lk=>?_) (aV fun Lk=>?_)
 ·refine WS fun _ DW=>rP 1 [] mn ?_
  refine RK DW<|ao<|Q1 hQ U U U ?_
  first|exact cB (aY (fun q=>by have C:=q.nf; have H:=q.min_; have J:=q.ux; have K:=q.np; omega)).symm|exact cB (aY (fun q=>by have C:=q.fault f (aP hf); unfold eZ at C; split at C<;>omega)).symm|exact cB (aY (fun q=>by have A:=q.ia _ p hp; have C:=A.id; have H:=A.lu; have J:=A.fX; have K:=A.fault; simp only [qI] at H; omega)).symm|exact cB (aY (fun q=>by obtain ⟨R,G,AB,T⟩:=(q.ia _ p hp).jH; rw [F] at G; cases G; first|exact E AB|exact h148 AB|omega)).symm|exact cB (cJ ⟨I,dQ D I,I,I,I,fun i p hi=>B i p (by have:=(aU.1 hi).1; omega) hi⟩).symm
 refine WK h<|ak fun _ Di=>dx ck [11,12] [] [] [0,1,2,3,4,5,6,7,8,9,10,11] [] U U U U U<|eS U (FA 0 U eV U)<|eS U (FA 10 U eV U)<|eS U (L1 (vS heA j.Race.aB.length heC) 1 U bX U U)<|eS U (FA 2 U eV U)<|eS U (L1 (vI p.iY) 0 U bX U U) ?_
 obtain ⟨ht,O⟩:=aF j.Race.aB ((p.iY).toNat) I
 obtain ⟨M,N⟩:=aF ha ((p.iY).toNat) I
 have Z:(List.zipWith cz j.Race.aB ha)[(p.iY).toNat]? =some (cz ht M):=cZ O N
 refine eS U (IA ((p.iY).toNat) U (ax 8 U) lZ dc I I) ?_
 have Y:=n.fX _ _ _ O N
 have In:=Y.mq
 have Jb:=(Ji.fX ht (aP O)).1
 refine eS U (h_ ((p.iY).toNat) 0 (vS M.1.1 ht.length M.1.2) U bX (ax 8 U) Z U dc U)<|eS U (FA 1 U eV U)<|eS U (L1 (vI p.iR) 0 U bX U U) ?_
 obtain ⟨d,hd⟩:=aF ht ((p.iR).toNat) I
 obtain ⟨da,o⟩:=aF M.2 ((p.iR).toNat) I
 have r:(List.zipWith aw.cells ht M.2)[(p.iR).toNat]? =some (aw.cells d da):=cZ hd o
 refine eS U (IA ((p.iR).toNat) U (show hH _ (rd M.1.1 ht.length 7 (List.zipWith aw.cells ht M.2)).holds from (cj 9 U (bD O N ct))) qk dc I I) ?_
 have F:=o9 (j:=j) (p:=p) O hd
 have OF:=Y.sig d (aP hd)
 refine eS U (jL ((p.iR).toNat) 0 (bf.cells (bf.mk d.Out d.cO d.Time (de.mk d.aZ.Start d.aZ.fP (bK.mk da.1 d.aZ.aa.length da.2)))) U bX (show hH _ (rd M.1.1 ht.length 7 (List.zipWith aw.cells ht M.2)).holds from (cj 9 U (bD O N ct))) r U dc U U)<|eo U<|cd U fun T73 GY=>AL U I3 fun Or=>aD (GY _ _ (aN [1,2,3,4,5,6,7,8,9,10,11,12]) ?_)
 refine cd U fun T75 Go=>fj U IN U<|aD (Go _ _ (aN [1,2,3,4,5,6,7,8,9,10,11,12]) ?_)
 refine fh U<|KK Di<|WS fun _ l=>er 1 [] (mc 0 U mn) U<|rS (CL (s7 d.Out d.cO d.Time (de.mk d.aZ.Start d.aZ.fP (bK.mk da.1 d.aZ.aa.length da.2))) (aR) U)<|rP 2 [] mn ?_
 refine bP (t:=149) U (aW fun E=>?_) (aV fun E=>?_)
 ·refine bx 8 U<|RK l<|aI U<|WS fun _ Do=>rP 1 [] mn ?_
  refine RK Do<|ao<|Q1 hQ U U U ?_
  first|exact cB (aY (fun q=>by have C:=q.nf; have H:=q.min_; have J:=q.ux; have K:=q.np; omega)).symm|exact cB (aY (fun q=>by have C:=q.fault f (aP hf); unfold eZ at C; split at C<;>omega)).symm|exact cB (aY (fun q=>by have A:=q.ia _ p hp; have C:=A.id; have H:=A.lu; have J:=A.fX; have K:=A.fault; simp only [qI] at H; first|omega|(have V:=A.up AA I L; omega))).symm|exact cB (aY (fun q=>by obtain ⟨R,G,AB,T⟩:=(q.ia _ p hp).jH; rw [F] at G; cases G; exact E AB)).symm|exact cB (cJ ⟨I,dQ D I,I,I,I,fun i p hi=>B i p (by have:=(aU.1 hi).1; omega) hi⟩).symm
 refine er 5 [0,1] (mc 1 U (mc 0 U mn)) U<|rS (CL (gG p.At d.aZ.Start 86400000) (aR) U)<|rP 2 [] mn ?_
 refine RK l<|bO U (aV fun Lo=>?_) (aW fun Lo=>?_)
 ·refine cp<|aK<|KK g<|au<|rP 3 [] mn ?_
  refine aD ?_
  have IR:(vI (((k+1):Nat):Int))=(vI ((k:Int)+1)):=by exact cI I
  refine bj (b ⟨(k+1),⟨I,si B hp ⟨I,fun q h1 h2=>by (rw [L] at h2; cases h2; omega),by simp only [qI]; omega,I,I,d,F,by first|exact E|exact h148,I⟩⟩⟩ _ _ _ rfl os (dh.cons rfl<|a_ rfl IR<|dh.nil _) (aN [2,3,4,5,6,7,8,9,10,11,12]))
 refine WS fun _ EQ=>rP 1 [] mn ?_
 refine RK EQ<|ao<|Q1 hQ U U U ?_
 first|exact cB (aY (fun q=>by have C:=q.nf; have H:=q.min_; have J:=q.ux; have K:=q.np; omega)).symm|exact cB (aY (fun q=>by have C:=q.fault f (aP hf); unfold eZ at C; split at C<;>omega)).symm|exact cB (aY (fun q=>by have A:=q.ia _ p hp; have C:=A.id; have H:=A.lu; have J:=A.fX; have K:=A.fault; simp only [qI] at H; first|omega|(have V:=A.up AA I L; omega))).symm|exact cB (aY (fun q=>by obtain ⟨R,G,AB,T⟩:=(q.ia _ p hp).jH; rw [F] at G; cases G; omega)).symm|exact cB (cJ ⟨I,dQ D I,I,I,I,fun i p hi=>B i p (by have:=(aU.1 hi).1; omega) hi⟩).symm
end
section
open Go.RowKit
theorem ox (j:dk) (kA:OA) (kC:Nat) (az:List RA) (cA:OA) (cC:Nat) (bA:OA) (bC:Nat) (slA:OA) (slC:Nat) (drA:OA) (drC:Nat) (ha:List cU) (heA:OA) (heC:Nat) (faA:OA) (faC:Nat) (prA:OA) (prC:Nat) (hin:fY j az ha):
 dF Tryz.prog 17 [(vA (fW.cells (n7 j kA kC cA cC bA bC slA slC drA drC heA heC faA faC prA prC)))] [(rd kA j.Race.ar.aO.length 9 (j.Race.ar.aO.map aq.cells)),(rd cA j.Race.ar.aj.length 2 (List.zipWith av.cells j.Race.ar.aj az)),(dL (bk av.fu j.Race.ar.aj az)),(rd bA j.Race.ar.ab.length 4 (j.Race.ar.ab.map bL.cells)),(rd slA j.Race.bg.length 1 (j.Race.bg.map iC)),(rd drA j.Race.cm.length 1 (j.Race.cm.map iC)),(rd heA j.Race.aB.length 1 (List.zipWith cz j.Race.aB ha)),(dL (bk eO j.Race.aB ha)),(rd faA j.ay.length 4 (j.ay.map aX.cells)),(rd prA j.aM.length 5 (j.aM.map bI.cells))] (vI (gF j)):=by
 have O:=hin.race
 have L:=hin.race.line
 have R:=hin.race.gQ
 have S:=hin.race.has
 have P:=hin.race.gX
 have M:=hin.nf
 have N:=hin.np
 refine bE kr Tryz.func17 U U fun AA Q hQ hN=>?_
 try dsimp only
 refine WS fun _ D=>ed U fun T=>bx 1 U<|RK D<|ak fun _ E=>WS fun _ F=>bx 1 U<|rS (LP (fF.cells (xH j.Race kA kC cA cC bA bC slA slC drA drC heA heC)) 0 U bX U U U)<|rS (CL (Gh j.Race kA kC az cA cC bA bC slA slC drA drC ha heA heC asm) (br [1,2,3,4,5,6,7,8]) U)<|bx 1 U<|RK F<|WS fun _ G=>rP 2 [] mn ?_
 refine RK G<|cr U (aW fun C=>?_) (aV fun C=>?_)
 ·refine WS fun _ H=>rP 2 [] mn ?_
  refine RK H<|ao<|Q1 hQ U U U ?_
  exact cI (yU C).symm
 refine WK E<|ak fun _ AB=>WS fun _ J=>er 1 [] (mc 0 U mn) U<|rS (CL (Ft j kA kC az cA cC bA bC slA slC drA drC ha heA heC faA faC prA prC hin asm) (br [1,2,3,4,5,6,7,8,9,10]) U)<|rP 1 [] mn ?_
 refine RK J<|cr U (aW fun A=>?_) (aV fun A=>?_)
 ·refine WS fun _ K=>rP 1 [] mn ?_
  refine RK K<|ao<|Q1 hQ U U U ?_
  exact cI (jN C A).symm
 refine WK AB<|WS fun _ B=>rP 1 [] mn ?_
 refine RK B<|ao<|Q1 hQ U U U ?_
 exact cI (BN C A).symm
end
section
open Go.RowKit
theorem HT (l:bo) (kA:OA) (kC:Nat) (az:List RA) (cA:OA) (cC:Nat) (bA:OA) (bC:Nat) (r:cx) (sgA:OA) (sgC:Nat) (hin:d_ l az) (hsl:r.aa.length≤1000000):
 qf Tryz.prog 128 [(vA (cu.cells (jr l kA kC cA cC bA bC))),(vA (de.cells (im r sgA sgC)))] [(rd kA l.aO.length 9 (l.aO.map aq.cells)),(rd cA l.aj.length 2 (List.zipWith av.cells l.aj az)),(dL (bk av.fu l.aj az)),(rd bA l.ab.length 4 (l.ab.map bL.cells)),(rd sgA r.aa.length 2 (r.aa.map aH.cells))] (fun (x:(OA)×Nat)=>(vT [(vS x.1 ((fp l r).length) x.2),(vI (dN l r 0))])) (fun (x:(OA)×Nat)=>True) (fun (x:(OA)×Nat)=>[(own x.1 x.2 3 1 ((fp l r).map iC))]):=by
 have DE:=hin.qm
 have C0:=hin.qj
 have Cp:=hin.mq
 have Cx:=hin.qi
 refine fJ kr Tryz.func128 U U fun w0 Q hQ hN=>?_
 try dsimp only
 refine WS fun _ A5=>ed U fun b2=>ed U fun b3=>bx 2 U<|RK A5<|WS fun _ f=>rP 2 [0,1] (mc 1 U (mc 0 U mn)) ?_
 refine cX (zD l kA kC az cA cC bA bC r sgA sgC hin hsl) (br [2,3,4,5,6]) U fun y5 AC=>?_
 obtain ⟨AO,Ck,a8,c9,J⟩:=y5
 cases AO
 ·obtain ⟨v,he⟩:=AC.2 rfl
  try dsimp only at v he
  subst v
  try dsimp only [cond_true,cond_false,List.cons_append,List.nil_append]
  refine bx 5 U<|RK f<|ak fun _ B9=>WS fun _ N=>rP 2 [] mn ?_
  refine RK N<|bO U (aV fun M=>?_) (aW fun M=>?_)
  ·exact absurd M he
  refine WS fun _ O=>jQ 3 1 ?_
  rw [show (own none 0 3 1 ([]:List (List Value)))=own none 0 3 1 ((fp l r).map iC) from by rw [kj he]; rfl]
  refine bx 1 U<|rP 2 [] mn ?_
  refine RK O<|ao ?_
  refine LX hQ (none,0) [0] [] mn U U U ?_ ?_
  ·first|rfl|(rw [he]; rfl)|(rw [kj he]; rfl)
  ·trivial
 obtain ⟨he,E⟩:=AC.1 rfl
 try dsimp only [cond_true,cond_false,List.cons_append,List.nil_append]
 try dsimp only at he E
 obtain ⟨D,C,_,C1⟩:=g5 he
 obtain ⟨DW,A8⟩:=dK D
 have A7:=A8.head
 unfold eT at A7
 have A9:=CX D C
 have Di:=A9.num
 have C2:=C.len
 have C3:=C.time
 refine bx 5 U<|RK f<|ak fun _ P=>WS fun _ R=>bx 1 U<|rS (SX (eK (r:= .bool false) U U U xR) U U)<|RK R<|bT U<|WK P<|WS fun _ S=>bx 1 U<|RK S<|ak fun _ T=>WS fun _ AA=>rP 1 [] mn ?_
 refine RK AA<|aC<|fR 3 1 ?_
 have A:(0≤l.ab.length+1):=by exact Nat.zero_le _
 refine bQ (ι:={z:Nat×(OA)×Nat // (z.1≤l.ab.length+1)}) [2,3,6] [1,2,3,4,5,6,7,8,9] U U (fun z=>[(8,(vS z.1.2.1 ((iA (bW l r) z.1.1).length) z.1.2.2)),(9,(vI (z.1.1:Int)))]) (fun z=>[(own z.1.2.1 z.1.2.2 3 1 ((iA (bW l r) z.1.1).map iC))]) (fun _=>rfl) (fun _=>rfl) (fun z=>l.ab.length+1-z.1.1) ⟨(0,none,0),A⟩ (bu U) (aN [1,2,3,4,5,6,7,8,9,0]) ?_
 clear A
 rintro ⟨⟨n,a,c⟩,L⟩ J20 F
 try dsimp only at L
 try dsimp only
 refine ak fun _ V=>WS fun _ W=>rP 5 [] (mc 3 U mn) ?_
 refine RK W<|bO U (aS fun A3=>?_) (aT fun A3=>?_)
 ·refine bM<|ag<|ag<|aG<|KK T<|WS fun _ g=>rP 1 [] mn ?_
  rw [show (iA (bW l r) n)=(fp l r) from by (rw [jR he]; unfold hG; rw [lG,show n=l.ab.length+1 by omega])]
  refine rP 2 [] mn ?_
  refine RK g<|ao ?_
  refine LX hQ (a,c) [9] [] mn U U U ?_ ?_
  ·first|rfl|(rw [he]; rfl)|(rw [kj he]; rfl)
  ·trivial
 refine WK V<|ak fun _ H=>aC<|WS fun _ X=>bx 1 U<|RK X<|ak fun _ Y=>WS fun _ Z=>rP 1 [] mn ?_
 refine RK Z<|aC ?_
 have A:(0≤(kE l r).length):=by exact Nat.zero_le _
 have h:(vB (Ov ((kE l r).take 0) n))=(vB false):=by rfl
 refine bQ (ι:={z:Nat // (z≤(kE l r).length)}) [2,3,6,8,9] [0,1,2,3,4,5,6,7,8,9] U U (fun z=>[(10,(vB (Ov ((kE l r).take z.1) n))),(11,(vI (z.1:Int)))]) (fun z=>[]) (fun _=>rfl) (fun _=>rfl) (fun z=>(kE l r).length-z.1) ⟨0,A⟩ (a_ U h<|bu U) (aN [0,1,2,3,4,5,6,7,8,9]) ?_
 clear A
 rintro ⟨i,A0⟩ J29 G
 try dsimp only
 refine ak fun _ b=>WS fun _ d=>rP 4 [] mn ?_
 refine RK d<|bO U (aS fun A4=>?_) (aT fun A4=>?_)
 ·refine bM<|ag<|ag<|aG<|KK Y<|WS fun _ e=>rP 1 [] mn ?_
  refine RK e<|bO U (fun K=>?_) (fun K=>?_)
  ·refine cp<|aK<|KK H<|au<|rP 3 [] mn ?_
   refine aD ?_
   rw [show (iA (bW l r) n)=(iA (bW l r) (n+1)) from (yG (by have q:=K; rw [List.take_of_length_le I] at q; rw [← w5 D C I]; exact q)).symm]
   have u:(vI (((n+1):Nat):Int))=(vI ((n:Int)+1)):=by exact cI I
   refine bj (F ⟨((n+1),a,c),(by first|omega|(simp only []; omega))⟩ _ _ _ U os (cN 4<|a_ U u<|dh.nil _) (aN [0,1,2,3,4,5,6,7,8,9]))
  refine au<|rP 1 [] mn ?_
  have A6:js (bW l r) (fwd (bW l r) n)=true:=by have q:=K; rw [List.take_of_length_le I] at q; rw [← w5 D C I]; exact q
  refine rP 1 [] mn ?_
  refine eP (xs:=[.tmp 47]) (cs:=[(vI (n:Int))]) U dJ kJ U U U U (by simp [Value.cells]) U U fun Ci=>?_
  refine dA (es2:=(List.map iC (iA (bW l r) (n+1)))) (m':=(iA (bW l r) (n+1)).length) 10 U U U qz U U sm (bq (es:=List.map iC [(n:Int)]) 0 U U (by simp [bU]) U) (kG _) (by have:=nR (w:=bW l r) (k:=n); omega) (by have:=nR (w:=bW l r) (k:=n); simp only [maxLen]; omega) (by rw [xN A6]; simp) sm U fun A1 A2=>?_
  try dsimp only
  refine bx 1 U<|aD<|aK<|KK H<|au<|rP 3 [] mn ?_
  refine aD ?_
  have s:(vI (((n+1):Nat):Int))=(vI ((n:Int)+1)):=by exact cI I
  refine bj (F ⟨((n+1),A1,A2),(by first|omega|(simp only []; omega))⟩ _ _ _ U os (cN 4<|a_ U s<|dh.nil _) (aN [1,2,3,4,5,6,7,8,9,10]))
 refine WK b<|ak fun _ AB=>aC<|au<|rP 1 [] mn ?_
 obtain ⟨y,hy⟩:=aF (kE l r) i I
 refine rP 1 [] mn ?_
 refine bP (t:=35) U (fun B=>?_) (fun B=>?_)
 ·refine bx 10 U<|aD<|aK<|KK AB<|au<|rP 3 [] mn ?_
  refine aD ?_
  have j:(vB (Ov ((kE l r).take (i+1)) n))=(vB true):=by first|(rw [jy hy,uk,B,Bool.true_or]; done)|(rw [jy hy,uk,B,Bool.false_or]; exact cB (gR.2 I))
  have m:(vI (((i+1):Nat):Int))=(vI ((i:Int)+1)):=by exact cI I
  refine bj (G ⟨(i+1),(by first|omega|(simp only []; omega))⟩ _ _ _ U os (cN 5<|a_ U j<|a_ U m<|dh.nil _) (aN [0,1,2,3,4,5,6,7,8,9]))
 refine rP 2 [] mn ?_
 obtain ⟨y,hy⟩:=aF (kE l r) i I
 obtain ⟨ya,Bv⟩:=aF J i I
 have B3:(List.zipWith dj.cells (kE l r) J)[i]? =some (dj.cells y ya):=cZ hy Bv
 refine rS (IA i U (aL (n:=(kE l r).length) 0 U (my E)) Ak dc I I)<|rS (oL (i*3) U (aL (n:=(kE l r).length) 0 U (my E)) (Nat.mul_pos I dc) eV U)<|rS (h_ i 0 (vS ya.1.1 y.gf.length ya.1.2) U bX (aL (n:=(kE l r).length) 0 U (my E)) B3 U dc U)<|bx 5 U<|aD<|aK<|KK AB<|au<|rP 3 [] mn ?_
 refine aD ?_
 have o:(vB (Ov ((kE l r).take (i+1)) n))=(vB (decide ((y.gf.length:Int)=(n:Int)))):=by first|(rw [jy hy,uk,B,Bool.true_or]; done)|(rw [jy hy,uk,B,Bool.false_or]; exact cB (gR.2 I))
 have p:(vI (((i+1):Nat):Int))=(vI ((i:Int)+1)):=by exact cI I
 refine bj (G ⟨(i+1),(by first|omega|(simp only []; omega))⟩ _ _ _ U os (cN 5<|a_ U o<|a_ U p<|dh.nil _) (aN [0,1,2,3,4,5,6,7,8,9]))
end
section
open Go.RowKit
theorem pf (l:bo) (kA:OA) (kC:Nat) (az:List RA) (cA:OA) (cC:Nat) (bA:OA) (bC:Nat) (r:cx) (sgA:OA) (sgC:Nat) (b:Int) (hin:d_ l az) (hsl:r.aa.length≤1000000):
 dF Tryz.prog 91 [(vA (cu.cells (jr l kA kC cA cC bA bC))),(vA (de.cells (im r sgA sgC))),(vI b)] [(rd kA l.aO.length 9 (l.aO.map aq.cells)),(rd cA l.aj.length 2 (List.zipWith av.cells l.aj az)),(dL (bk av.fu l.aj az)),(rd bA l.ab.length 4 (l.ab.map bL.cells)),(rd sgA r.aa.length 2 (r.aa.map aH.cells))] (vA (ja.cells (ja.mk (!((df l r b).never)) ((df l r b).each) ((df l r b).Lo) ((df l r b).Hi)))):=by
 have g:=hin.qm
 have e:=hin.qj
 have c:=hin.mq
 have d:=hin.qi
 refine bE kr Tryz.func91 U U fun o Q hQ hN=>?_
 try dsimp only
 refine WS fun _ P=>ed U fun j=>ed U fun k=>AL U tj fun m=>RK P<|ak fun _ R=>WS fun _ S=>rP 2 [] mn ?_
 refine RK S<|cr U (aT fun A=>?_) (aS fun A=>?_)
 ·refine WS fun _ T=>rP 4 [] (mc 1 U mn) ?_
  refine rS (SX (bG (xs:=[(0,.const (vB true)),(1,.const (vB true)),(2,.tmp 15),(3,.tmp 17)]) (cs:=(ja.cells (ja.mk true true r.Start r.Start))) U U (bH GP U)) U U)<|fj U qa U<|RK T<|ao<|z9 hQ [0] (mc 0 U mn) U ?_
  (rw [zf A]<;>rfl)
 refine WK R<|WS fun _ AA=>rP 2 [0,1] (mc 2 U (mc 1 U mn)) ?_
 refine cX (HT l kA kC az cA cC bA bC r sgA sgC hin hsl) (br [3,4,5,6,7]) U fun i W=>?_
 obtain ⟨X,a⟩:=i
 try dsimp only
 refine bx 5 U<|RK AA<|WS fun _ F=>er 3 [0,1] (mc 3 U (mc 2 U mn)) U<|rS (CL (Gu l kA kC az cA cC bA bC r sgA sgC b hin hsl) (br [4,5,6,7,8]) U)<|bx 3 U<|AL U dV fun Y=>fj U cT U<|bx 1 U<|RK F<|ak fun _ G=>WS fun _ H=>rP 2 [] mn ?_
 refine RK H<|cr U (aW fun B=>?_) (aV fun B=>?_)
 ·refine WS fun _ AB=>rS (SX (bG (xs:=[(2,.const (vI 86400000)),(3,.const (vI 86400000))]) (cs:=(ja.cells (ja.mk false false 86400000 86400000))) U U (bH GP U)) U U)<|DG U qa U<|RK AB<|ao<|z9 hQ [0] (mc 2 U mn) U ?_
  (rw [xe A B]<;>rfl)
 refine WK G<|ak fun _ J=>?_
 have D:=rG B I
 have h:=xz D
 have f:=fun (q:(fp l r)[0]? =some ((fp l r)[0]'I))=>sE A B D q
 refine dx ck [10,11] [] [] [0,1,2,3,4,5,6,7,8,9] [] U U U U U<|eS U (MV U) ?_
 obtain ⟨w,hw⟩:=aF (fp l r) 0 I
 have V:=bJ iC hw
 refine eS U (IA 0 U (aL (n:=(fp l r).length) 1 U sm) dJ dc U I)<|eS U (h_ 0 0 (vI w) U bX (aL (n:=(fp l r).length) 1 U sm) V U dc U)<|eS U (MV U)<|eS U (BI U II)<|eS U (FA 0 U eV U)<|eS U (L1 (vI ((dy l r b).Lo)) 0 U bX U U)<|eS U (FA 1 U eV U)<|eS U (L1 (vI ((dy l r b).Hi)) 0 U bX U U)<|eS U (SX (bG (xs:=[(0,.const (vB true)),(1,.tmp 39),(2,.tmp 41),(3,.tmp 43)]) (cs:=(ja.cells (ja.mk true (decide (b<w)) ((dy l r b).Lo) ((dy l r b).Hi)))) U U (bH GP U)) U U)<|eo U<|cd U fun T19 N=>AL U tj fun Z=>aD (N _ _ (aN [1,2,3,4,5,6,7,8,9,10]) ?_)
 refine cd U fun T21 O=>fj U qa U<|aD (O _ _ (aN [1,2,3,4,5,6,7,8,9,10]) ?_)
 refine fh U<|KK J<|ak fun _ E=>WS fun _ K=>rP 3 [] (mc 0 U mn) ?_
 refine RK K<|bO U (aV fun C=>?_) (aW fun C=>?_)
 ·refine WK E<|WS fun _ M=>rP 1 [] (mc 0 U mn) ?_
  refine O1 U qa U<|RK M<|ao<|z9 hQ [0] (mc 3 U mn) U ?_
  (rw [(sE A B D hw).1 C,cJ C]<;>rfl)
 refine au<|bx 1 U<|Ug (ja.cells (ja.mk true (decide (b<w)) ((dy l r b).Lo) 86400000)) U Cl U U<|RK E<|WS fun _ L=>rP 1 [] (mc 0 U mn) ?_
 refine O1 U qa U<|RK L<|ao<|z9 hQ [0] (mc 3 U mn) U ?_
 (rw [(sE A B D hw).2 C,aY C]<;>rfl)
end
section
open Go.RowKit
theorem Ga (j:dk) (kA:OA) (kC:Nat) (az:List RA) (cA:OA) (cC:Nat) (bA:OA) (bC:Nat) (slA:OA) (slC:Nat) (drA:OA) (drC:Nat) (ha:List cU) (heA:OA) (heC:Nat) (faA:OA) (faC:Nat) (prA:OA) (prC:Nat) (fw ff ft:Int) (d:aw) (sgA:OA) (sgC:Nat) (hin:fY j az ha) (hw:0≤fw∧fw≤1000000) (hsl:d.aZ.aa.length≤1000000):
 dF Tryz.prog 51 [(vA (fW.cells (n7 j kA kC cA cC bA bC slA slC drA drC heA heC faA faC prA prC))),(vA (aX.cells (aX.mk 1 fw ff ft))),(vA (bf.cells (bf.mk d.Out d.cO d.Time (im d.aZ sgA sgC))))] [(rd kA j.Race.ar.aO.length 9 (j.Race.ar.aO.map aq.cells)),(rd cA j.Race.ar.aj.length 2 (List.zipWith av.cells j.Race.ar.aj az)),(dL (bk av.fu j.Race.ar.aj az)),(rd bA j.Race.ar.ab.length 4 (j.Race.ar.ab.map bL.cells)),(rd slA j.Race.bg.length 1 (j.Race.bg.map iC)),(rd drA j.Race.cm.length 1 (j.Race.cm.map iC)),(rd heA j.Race.aB.length 1 (List.zipWith cz j.Race.aB ha)),(dL (bk eO j.Race.aB ha)),(rd faA j.ay.length 4 (j.ay.map aX.cells)),(rd prA j.aM.length 5 (j.aM.map bI.cells)),(rd sgA d.aZ.aa.length 2 (d.aZ.aa.map aH.cells))] (Value.int .u8 (gO j.Race.ar (aX.mk 1 fw ff ft) d)):=by
 have i:=hin.race
 have f:=hin.race.line
 have n:=hin.race.gQ
 have o:=hin.race.has
 have k:=hin.race.gX
 have g:=hin.nf
 have h:=hin.np
 refine bE kr Tryz.func51 U U fun w Q hQ hN=>?_
 try dsimp only
 refine WS fun _ Z=>ed U fun p=>ed U fun s=>ed U fun u=>bx 1 U<|RK Z<|ak fun _ a=>WS fun _ b=>er 1 [] (mc 0 U mn) U<|rS (CL (s7 d.Out d.cO d.Time (im d.aZ sgA sgC)) (aR) U)<|rP 1 [] mn ?_
 refine RK b<|cr U (aW fun B=>?_) (aV fun B=>?_)
 ·refine WS fun _ c=>rP 1 [] mn ?_
  refine RK c<|ao<|Q1 hQ U U U ?_
  (rw [nj (fun q=>B q)]; done)
 refine WK a<|WS fun _ e=>bx 2 U<|rS (LP (cu.cells (jr j.Race.ar kA kC cA cC bA bC)) 2 U bX U U U)<|AL U KD fun v=>fj U GN U<|RK e<|WS fun _ K=>AL U tj fun l=>AL U tj fun m=>RK K<|ak fun _ L=>WS fun _ M=>er 2 [] (mc 4 U mn) U<|RK M<|aC<|WS fun _ N=>rS (SX (eK (r:= .bool true) U U U jW) U U)<|bx 1 U<|RK N<|aI U<|cW ck 10 kr<|kv 2 [] (mc 2 U mn) U<|dS (LP (de.cells (im d.aZ sgA sgC)) 3 U bX U U U)<|dS (CL (pf j.Race.ar kA kC az cA cC bA bC d.aZ sgA sgC (-1) asm hsl) (br [6,7,8,9,16]) U)<|kv 2 [] (mc 2 U mn) U<|dS (LP (de.cells (im d.aZ sgA sgC)) 3 U bX U U U)<|kv 2 [] (mc 2 U mn) U<|dS (CL (pf j.Race.ar kA kC az cA cC bA bC d.aZ sgA sgC j.Race.ar.b_ asm hsl) (br [6,7,8,9,16]) U)<|cw<|pZ U qa U<|fj U qa U<|aD<|aK<|KK L<|ak fun _ O=>WS fun _ F=>rP 4 [] (mc 1 U mn) ?_
 refine bP (t:=55) U (fun A=>?_) (fun A=>?_)
 ·rw [Bool.not_eq_true'] at A
  rw [Bool.not_eq_false'] at A
  refine bx 13 U<|RK F<|aI U<|WS fun _ P=>rP 1 [] mn ?_
  refine RK P<|ao<|Q1 hQ U U U ?_
  (rw [gJ rfl B]; (rw [eJ (.inl (by simpa using A))]; done))
 rw [Bool.not_eq_false'] at A
 rw [Bool.not_eq_true'] at A
 refine rP 7 [0,1] (mc 1 U (mc 4 U mn)) ?_
 refine bP (t:=62) U (aT fun C=>?_) (aS fun C=>?_)
 ·refine bx 6 U<|RK F<|aI U<|WS fun _ R=>rP 1 [] mn ?_
  refine RK R<|ao<|Q1 hQ U U U ?_
  (rw [gJ rfl B]; (rw [eJ (.inr (.inl C))]; done))
 refine rP 6 [0,1] (mc 0 U (mc 4 U mn)) ?_
 refine RK F<|cr U (aT fun D=>?_) (aS fun D=>?_)
 ·refine WS fun _ S=>rP 1 [] mn ?_
  refine RK S<|ao<|Q1 hQ U U U ?_
  (rw [gJ rfl B]; (rw [eJ (.inr (.inr D))]; done))
 refine WK O<|ak fun _ T=>WS fun _ AA=>er 2 [] (mc 4 U mn) U<|rS (SX (eK (r:= .bool false) U U U jW) U U)<|RK AA<|bT U<|WK T<|ak fun _ G=>WS fun _ H=>rP 3 [] (mc 1 U mn) ?_
 refine db (t:=90) U (fun AB=>?_) (fun AB=>?_)
 ·refine bx 13 U<|RK H<|bT U<|WK G<|WS fun _ Y=>rP 1 [] mn ?_
  refine RK Y<|ao<|Q1 hQ U U U ?_
  (rw [gJ rfl B]; (rw [gd (sS (by simpa using A) (by first|exact C|(simp only []; omega)) (by first|exact D|(simp only []; omega))) (fun q=>by rw [AB] at q; exact Bool.noConfusion q.1)]; done))
 refine rP 7 [0,1] (mc 1 U (mc 4 U mn)) ?_
 refine db (t:=97) U (aS fun J=>?_) (aT fun J=>?_)
 ·refine bx 6 U<|RK H<|bT U<|WK G<|WS fun _ X=>rP 1 [] mn ?_
  refine RK X<|ao<|Q1 hQ U U U ?_
  (rw [gJ rfl B]; (rw [gd (sS (by simpa using A) (by first|exact C|(simp only []; omega)) (by first|exact D|(simp only []; omega))) (fun q=>J ((j0 (show ¬ (1:Int)=3 by decide)).1 q.2).1)]; done))
 refine rP 6 [0,1] (mc 0 U (mc 4 U mn)) ?_
 refine RK H<|cr U (aT fun E=>?_) (aS fun E=>?_)
 ·refine WS fun _ V=>rP 1 [] mn ?_
  refine RK V<|ao<|Q1 hQ U U U ?_
  (rw [gJ rfl B]; (rw [ly (sS (by simpa using A) (by first|exact C|(simp only []; omega)) (by first|exact D|(simp only []; omega))) AB ((j0 (show ¬ (1:Int)=3 by decide)).2 ⟨J,E⟩)]; done))
 refine WK G<|WS fun _ W=>rP 1 [] mn ?_
 refine RK W<|ao<|Q1 hQ U U U ?_
 (rw [gJ rfl B]; (rw [gd (sS (by simpa using A) (by first|exact C|(simp only []; omega)) (by first|exact D|(simp only []; omega))) (fun q=>E ((j0 (show ¬ (1:Int)=3 by decide)).1 q.2).2)]; done))
theorem F7 (j:dk) (kA:OA) (kC:Nat) (az:List RA) (cA:OA) (cC:Nat) (bA:OA) (bC:Nat) (slA:OA) (slC:Nat) (drA:OA) (drC:Nat) (ha:List cU) (heA:OA) (heC:Nat) (faA:OA) (faC:Nat) (prA:OA) (prC:Nat) (fw ff ft:Int) (d:aw) (sgA:OA) (sgC:Nat) (hin:fY j az ha) (hw:0≤fw∧fw≤1000000) (hsl:d.aZ.aa.length≤1000000):
 dF Tryz.prog 51 [(vA (fW.cells (n7 j kA kC cA cC bA bC slA slC drA drC heA heC faA faC prA prC))),(vA (aX.cells (aX.mk 2 fw ff ft))),(vA (bf.cells (bf.mk d.Out d.cO d.Time (im d.aZ sgA sgC))))] [(rd kA j.Race.ar.aO.length 9 (j.Race.ar.aO.map aq.cells)),(rd cA j.Race.ar.aj.length 2 (List.zipWith av.cells j.Race.ar.aj az)),(dL (bk av.fu j.Race.ar.aj az)),(rd bA j.Race.ar.ab.length 4 (j.Race.ar.ab.map bL.cells)),(rd slA j.Race.bg.length 1 (j.Race.bg.map iC)),(rd drA j.Race.cm.length 1 (j.Race.cm.map iC)),(rd heA j.Race.aB.length 1 (List.zipWith cz j.Race.aB ha)),(dL (bk eO j.Race.aB ha)),(rd faA j.ay.length 4 (j.ay.map aX.cells)),(rd prA j.aM.length 5 (j.aM.map bI.cells)),(rd sgA d.aZ.aa.length 2 (d.aZ.aa.map aH.cells))] (Value.int .u8 (gO j.Race.ar (aX.mk 2 fw ff ft) d)):=by
 have k:=hin.race
 have g:=hin.race.line
 have o:=hin.race.gQ
 have p:=hin.race.has
 have l:=hin.race.gX
 have h:=hin.nf
 have i:=hin.np
 refine bE kr Tryz.func51 U U fun x Q hQ hN=>?_
 try dsimp only
 refine WS fun _ a=>ed U fun s=>ed U fun u=>ed U fun v=>bx 1 U<|RK a<|ak fun _ b=>WS fun _ c=>er 1 [] (mc 0 U mn) U<|rS (CL (s7 d.Out d.cO d.Time (im d.aZ sgA sgC)) (aR) U)<|rP 1 [] mn ?_
 refine RK c<|cr U (aW fun B=>?_) (aV fun B=>?_)
 ·refine WS fun _ e=>rP 1 [] mn ?_
  refine RK e<|ao<|Q1 hQ U U U ?_
  (rw [nj (fun q=>B q)]; done)
 refine WK b<|WS fun _ f=>bx 2 U<|rS (LP (cu.cells (jr j.Race.ar kA kC cA cC bA bC)) 2 U bX U U U)<|AL U KD fun w=>fj U GN U<|RK f<|WS fun _ K=>AL U tj fun m=>AL U tj fun n=>RK K<|ak fun _ L=>WS fun _ M=>er 2 [] (mc 4 U mn) U<|RK M<|aC<|WS fun _ N=>rS (SX (eK (r:= .bool false) U U U jW) U U)<|bx 1 U<|RK N<|bT U<|WS fun _ O=>rS (SX (eK (r:= .bool true) U U U jW) U U)<|bx 1 U<|RK O<|aI U<|cW ck 13 kr<|kv 2 [] (mc 2 U mn) U<|dS (LP (de.cells (im d.aZ sgA sgC)) 3 U bX U U U)<|kv 3 [] (mc 4 U mn) U<|dS (CL (pf j.Race.ar kA kC az cA cC bA bC d.aZ sgA sgC (fw-1) asm hsl) (br [6,7,8,9,16]) U)<|kv 2 [] (mc 2 U mn) U<|dS (LP (de.cells (im d.aZ sgA sgC)) 3 U bX U U U)<|dP 2 [] (mc 4 U mn) ?_
 refine dS (CL (pf j.Race.ar kA kC az cA cC bA bC d.aZ sgA sgC fw asm hsl) (br [6,7,8,9,16]) U)<|cw<|pZ U qa U<|fj U qa U<|aD<|aK ?_
 refine KK L<|ak fun _ P=>WS fun _ F=>rP 4 [] (mc 1 U mn) ?_
 refine bP (t:=55) U (fun A=>?_) (fun A=>?_)
 ·rw [Bool.not_eq_true'] at A
  rw [Bool.not_eq_false'] at A
  refine bx 13 U<|RK F<|aI U<|WS fun _ R=>rP 1 [] mn ?_
  refine RK R<|ao<|Q1 hQ U U U ?_
  (rw [gS rfl B]; (rw [eJ (.inl (by simpa using A))]; done))
 rw [Bool.not_eq_false'] at A
 rw [Bool.not_eq_true'] at A
 refine rP 7 [0,1] (mc 1 U (mc 4 U mn)) ?_
 refine bP (t:=62) U (aT fun C=>?_) (aS fun C=>?_)
 ·refine bx 6 U<|RK F<|aI U<|WS fun _ S=>rP 1 [] mn ?_
  refine RK S<|ao<|Q1 hQ U U U ?_
  (rw [gS rfl B]; (rw [eJ (.inr (.inl C))]; done))
 refine rP 6 [0,1] (mc 0 U (mc 4 U mn)) ?_
 refine RK F<|cr U (aT fun D=>?_) (aS fun D=>?_)
 ·refine WS fun _ T=>rP 1 [] mn ?_
  refine RK T<|ao<|Q1 hQ U U U ?_
  (rw [gS rfl B]; (rw [eJ (.inr (.inr D))]; done))
 refine WK P<|ak fun _ AA=>WS fun _ V=>er 2 [] (mc 4 U mn) U<|rS (SX (eK (r:= .bool false) U U U jW) U U)<|RK V<|bT U<|WK AA<|ak fun _ G=>WS fun _ H=>rP 3 [] (mc 1 U mn) ?_
 refine db (t:=90) U (fun AB=>?_) (fun AB=>?_)
 ·refine bx 13 U<|RK H<|bT U<|WK G<|WS fun _ Z=>rP 1 [] mn ?_
  refine RK Z<|ao<|Q1 hQ U U U ?_
  (rw [gS rfl B]; (rw [gd (sS (by simpa using A) (by first|exact C|(simp only []; omega)) (by first|exact D|(simp only []; omega))) (fun q=>by rw [AB] at q; exact Bool.noConfusion q.1)]; done))
 refine rP 7 [0,1] (mc 1 U (mc 4 U mn)) ?_
 refine db (t:=97) U (aS fun J=>?_) (aT fun J=>?_)
 ·refine bx 6 U<|RK H<|bT U<|WK G<|WS fun _ Y=>rP 1 [] mn ?_
  refine RK Y<|ao<|Q1 hQ U U U ?_
  (rw [gS rfl B]; (rw [gd (sS (by simpa using A) (by first|exact C|(simp only []; omega)) (by first|exact D|(simp only []; omega))) (fun q=>J ((j0 (show ¬ (2:Int)=3 by decide)).1 q.2).1)]; done))
 refine rP 6 [0,1] (mc 0 U (mc 4 U mn)) ?_
 refine RK H<|cr U (aT fun E=>?_) (aS fun E=>?_)
 ·refine WS fun _ W=>rP 1 [] mn ?_
  refine RK W<|ao<|Q1 hQ U U U ?_
  (rw [gS rfl B]; (rw [ly (sS (by simpa using A) (by first|exact C|(simp only []; omega)) (by first|exact D|(simp only []; omega))) AB ((j0 (show ¬ (2:Int)=3 by decide)).2 ⟨J,E⟩)]; done))
 refine WK G<|WS fun _ X=>rP 1 [] mn ?_
 refine RK X<|ao<|Q1 hQ U U U ?_
 (rw [gS rfl B]; (rw [gd (sS (by simpa using A) (by first|exact C|(simp only []; omega)) (by first|exact D|(simp only []; omega))) (fun q=>E ((j0 (show ¬ (2:Int)=3 by decide)).1 q.2).2)]; done))
theorem Fj (j:dk) (kA:OA) (kC:Nat) (az:List RA) (cA:OA) (cC:Nat) (bA:OA) (bC:Nat) (slA:OA) (slC:Nat) (drA:OA) (drC:Nat) (ha:List cU) (heA:OA) (heC:Nat) (faA:OA) (faC:Nat) (prA:OA) (prC:Nat) (fw ff ft:Int) (d:aw) (sgA:OA) (sgC:Nat) (hin:fY j az ha) (hw:0≤fw∧fw≤1000000) (hsl:d.aZ.aa.length≤1000000):
 dF Tryz.prog 51 [(vA (fW.cells (n7 j kA kC cA cC bA bC slA slC drA drC heA heC faA faC prA prC))),(vA (aX.cells (aX.mk 3 fw ff ft))),(vA (bf.cells (bf.mk d.Out d.cO d.Time (im d.aZ sgA sgC))))] [(rd kA j.Race.ar.aO.length 9 (j.Race.ar.aO.map aq.cells)),(rd cA j.Race.ar.aj.length 2 (List.zipWith av.cells j.Race.ar.aj az)),(dL (bk av.fu j.Race.ar.aj az)),(rd bA j.Race.ar.ab.length 4 (j.Race.ar.ab.map bL.cells)),(rd slA j.Race.bg.length 1 (j.Race.bg.map iC)),(rd drA j.Race.cm.length 1 (j.Race.cm.map iC)),(rd heA j.Race.aB.length 1 (List.zipWith cz j.Race.aB ha)),(dL (bk eO j.Race.aB ha)),(rd faA j.ay.length 4 (j.ay.map aX.cells)),(rd prA j.aM.length 5 (j.aM.map bI.cells)),(rd sgA d.aZ.aa.length 2 (d.aZ.aa.map aH.cells))] (Value.int .u8 (gO j.Race.ar (aX.mk 3 fw ff ft) d)):=by
 have l:=hin.race
 have g:=hin.race.line
 have p:=hin.race.gQ
 have s:=hin.race.has
 have m:=hin.race.gX
 have i:=hin.nf
 have k:=hin.np
 refine bE kr Tryz.func51 U U fun y Q hQ hN=>?_
 try dsimp only
 refine WS fun _ a=>ed U fun u=>ed U fun v=>ed U fun w=>bx 1 U<|RK a<|ak fun _ b=>WS fun _ c=>er 1 [] (mc 0 U mn) U<|rS (CL (s7 d.Out d.cO d.Time (im d.aZ sgA sgC)) (aR) U)<|rP 1 [] mn ?_
 refine RK c<|cr U (aW fun B=>?_) (aV fun B=>?_)
 ·refine WS fun _ e=>rP 1 [] mn ?_
  refine RK e<|ao<|Q1 hQ U U U ?_
  (rw [nj (fun q=>B q)]; done)
 refine WK b<|WS fun _ f=>bx 2 U<|rS (LP (cu.cells (jr j.Race.ar kA kC cA cC bA bC)) 2 U bX U U U)<|AL U KD fun x=>fj U GN U<|RK f<|WS fun _ K=>AL U tj fun n=>AL U tj fun o=>RK K<|ak fun _ L=>WS fun _ M=>er 2 [] (mc 4 U mn) U<|RK M<|aC<|WS fun _ N=>rS (SX (eK (r:= .bool false) U U U jW) U U)<|bx 1 U<|RK N<|bT U<|WS fun _ O=>rS (SX (eK (r:= .bool false) U U U jW) U U)<|bx 1 U<|RK O<|bT U<|WS fun _ P=>er 2 [] (mc 2 U mn) U<|rS (LP (de.cells (im d.aZ sgA sgC)) 3 U bX U U U)<|er 2 [] (mc 4 U mn) U<|rS (CL (pf j.Race.ar kA kC az cA cC bA bC d.aZ sgA sgC fw asm hsl) (br [6,7,8,9,16]) U)<|pZ U qa U<|RK P<|au<|rP 1 [] (mc 1 U mn) ?_
 refine fj U qa U<|aD<|aK<|KK L<|ak fun _ R=>?_
 refine WS fun _ E=>rP 4 [] (mc 1 U mn) ?_
 refine bP (t:=55) U (fun A=>?_) (fun A=>?_)
 ·rw [Bool.not_eq_true'] at A
  rw [Bool.not_eq_false'] at A
  refine bx 13 U<|RK E<|aI U<|WS fun _ S=>rP 1 [] mn ?_
  refine RK S<|ao<|Q1 hQ U U U ?_
  (rw [gK rfl B]; (rw [eJ (.inl (by simpa using A))]; done))
 rw [Bool.not_eq_false'] at A
 rw [Bool.not_eq_true'] at A
 refine rP 7 [0,1] (mc 1 U (mc 4 U mn)) ?_
 refine bP (t:=62) U (aT fun C=>?_) (aS fun C=>?_)
 ·refine bx 6 U<|RK E<|aI U<|WS fun _ T=>rP 1 [] mn ?_
  refine RK T<|ao<|Q1 hQ U U U ?_
  (rw [gK rfl B]; (rw [eJ (.inr (.inl C))]; done))
 refine rP 6 [0,1] (mc 0 U (mc 4 U mn)) ?_
 refine RK E<|cr U (aT fun D=>?_) (aS fun D=>?_)
 ·refine WS fun _ AA=>rP 1 [] mn ?_
  refine RK AA<|ao<|Q1 hQ U U U ?_
  (rw [gK rfl B]; (rw [eJ (.inr (.inr D))]; done))
 refine WK R<|ak fun _ h=>WS fun _ V=>er 2 [] (mc 4 U mn) U<|rS (SX (eK (r:= .bool true) U U U jW) U U)<|RK V<|aI U<|ak fun _ F=>WS fun _ G=>rP 3 [] (mc 1 U mn) ?_
 refine db (t:=74) U (fun H=>?_) (fun H=>?_)
 ·refine bx 13 U<|RK G<|bT U<|WK F<|WS fun _ Z=>rP 1 [] mn ?_
  refine RK Z<|ao<|Q1 hQ U U U ?_
  (rw [gK rfl B]; (rw [gd (sS (by simpa using A) (by first|exact C|(simp only []; omega)) (by first|exact D|(simp only []; omega))) (fun q=>by rw [H] at q; exact Bool.noConfusion q.1)]; done))
 refine rP 7 [0,1] (mc 1 U (mc 4 U mn)) ?_
 refine db (t:=81) U (aS fun AB=>?_) (aT fun AB=>?_)
 ·refine bx 6 U<|RK G<|bT U<|WK F<|WS fun _ Y=>rP 1 [] mn ?_
  refine RK Y<|ao<|Q1 hQ U U U ?_
  (rw [gK rfl B]; (rw [gd (sS (by simpa using A) (by first|exact C|(simp only []; omega)) (by first|exact D|(simp only []; omega))) (fun q=>AB ((Dy rfl).1 q.2).1)]; done))
 refine rP 6 [0,1] (mc 1 U (mc 4 U mn)) ?_
 refine RK G<|cr U (aT fun J=>?_) (aS fun J=>?_)
 ·refine WS fun _ W=>rP 1 [] mn ?_
  refine RK W<|ao<|Q1 hQ U U U ?_
  (rw [gK rfl B]; (rw [ly (sS (by simpa using A) (by first|exact C|(simp only []; omega)) (by first|exact D|(simp only []; omega))) H ((Dy rfl).2 ⟨AB,J⟩)]; done))
 refine WK F<|WS fun _ X=>rP 1 [] mn ?_
 refine RK X<|ao<|Q1 hQ U U U ?_
 (rw [gK rfl B]; (rw [gd (sS (by simpa using A) (by first|exact C|(simp only []; omega)) (by first|exact D|(simp only []; omega))) (fun q=>J ((Dy rfl).1 q.2).2)]; done))
theorem BP (j:dk) (kA:OA) (kC:Nat) (az:List RA) (cA:OA) (cC:Nat) (bA:OA) (bC:Nat) (slA:OA) (slC:Nat) (drA:OA) (drC:Nat) (ha:List cU) (heA:OA) (heC:Nat) (faA:OA) (faC:Nat) (prA:OA) (prC:Nat) (f:aX) (d:aw) (sgA:OA) (sgC:Nat) (hin:fY j az ha) (hk:1≤f.Kind∧f.Kind≤3) (hw:0≤f.gW∧f.gW≤1000000) (hsl:d.aZ.aa.length≤1000000):
 dF Tryz.prog 51 [(vA (fW.cells (n7 j kA kC cA cC bA bC slA slC drA drC heA heC faA faC prA prC))),(vA (aX.cells f)),(vA (bf.cells (bf.mk d.Out d.cO d.Time (im d.aZ sgA sgC))))] [(rd kA j.Race.ar.aO.length 9 (j.Race.ar.aO.map aq.cells)),(rd cA j.Race.ar.aj.length 2 (List.zipWith av.cells j.Race.ar.aj az)),(dL (bk av.fu j.Race.ar.aj az)),(rd bA j.Race.ar.ab.length 4 (j.Race.ar.ab.map bL.cells)),(rd slA j.Race.bg.length 1 (j.Race.bg.map iC)),(rd drA j.Race.cm.length 1 (j.Race.cm.map iC)),(rd heA j.Race.aB.length 1 (List.zipWith cz j.Race.aB ha)),(dL (bk eO j.Race.aB ha)),(rd faA j.ay.length 4 (j.ay.map aX.cells)),(rd prA j.aM.length 5 (j.aM.map bI.cells)),(rd sgA d.aZ.aa.length 2 (d.aZ.aa.map aH.cells))] (Value.int .u8 (gO j.Race.ar f d)):=by
 obtain ⟨fk,fw,ff,ft⟩:=f
 have A:fk=1∨fk=2∨fk=3:=by have:=hk; simp only at this; omega
 rcases A with rfl|rfl|rfl
 ·exact Ga j kA kC az cA cC bA bC slA slC drA drC ha heA heC faA faC prA prC fw ff ft d sgA sgC hin hw hsl
 ·exact F7 j kA kC az cA cC bA bC slA slC drA drC ha heA heC faA faC prA prC fw ff ft d sgA sgC hin hw hsl
 ·exact Fj j kA kC az cA cC bA bC slA slC drA drC ha heA heC faA faC prA prC fw ff ft d sgA sgC hin hw hsl
end
section
open Go.RowKit
theorem J_ (k:Nat) (j:dk) (kA:OA) (kC:Nat) (az:List RA) (cA:OA) (cC:Nat) (bA:OA) (bC:Nat) (slA:OA) (slC:Nat) (drA:OA) (drC:Nat) (ha:List cU) (heA:OA) (heC:Nat) (faA:OA) (faC:Nat) (prA:OA) (prC:Nat) (hin:fY j az ha) (hok:gF j=0) (hk:k<j.aM.length):
 dF Tryz.prog 57 [(vA (fW.cells (n7 j kA kC cA cC bA bC slA slC drA drC heA heC faA faC prA prC))),(vI (k:Int))] [(rd kA j.Race.ar.aO.length 9 (j.Race.ar.aO.map aq.cells)),(rd cA j.Race.ar.aj.length 2 (List.zipWith av.cells j.Race.ar.aj az)),(dL (bk av.fu j.Race.ar.aj az)),(rd bA j.Race.ar.ab.length 4 (j.Race.ar.ab.map bL.cells)),(rd slA j.Race.bg.length 1 (j.Race.bg.map iC)),(rd drA j.Race.cm.length 1 (j.Race.cm.map iC)),(rd heA j.Race.aB.length 1 (List.zipWith cz j.Race.aB ha)),(dL (bk eO j.Race.aB ha)),(rd faA j.ay.length 4 (j.ay.map aX.cells)),(rd prA j.aM.length 5 (j.aM.map bI.cells))] (Value.int .u8 (wW j (k:Int))):=by
 have S:=hin.race
 have g:=hin.race.line
 have v:=hin.race.gQ
 have w:=hin.race.has
 have u:=hin.race.gX
 have o:=hin.nf
 have t:=hin.np
 have F:=(gH hok).1
 have R:=(gH hok).2
 have f:=(fr F).1
 have n:=(fr F).2
 have e:=(dK f).2.head
 unfold eT at e
 refine bE kr Tryz.func57 U U fun w0 Q hQ hN=>?_
 try dsimp only
 refine WS fun _ V=>ed U fun b2=>bx 1 U<|RK V<|WS fun _ W=>rP 3 [] (mc 0 U mn) ?_
 obtain ⟨p,hp⟩:=aF j.aM k I
 have h:=bJ bI.cells hp
 refine rS (IA k U (ax 10 U) BJ dc I I)<|rS (jL k 0 (bI.cells p) U bX (ax 10 U) h U dc U U)<|AL U Np fun b4=>fj U Nf U<|RK W<|ak fun _ X=>?_
 have E:=R.ia _ p hp
 have AO:=E.fX
 have m:=E.lu
 simp only [qI] at m
 have AC:=E.fault
 have x:=R.min_
 have G:=EI (i:=(k:Int)) hok I (by simpa using hp)
 refine dx ck [20,21] [] [] [0,1,2,3,4,5,6,7,8,9,10,11] [] U U U U U<|eS U (FA 0 U eV U)<|eS U (FA 0 U eV U)<|eS U (LP (cu.cells (jr j.Race.ar kA kC cA cC bA bC)) 1 U bX U U U)<|eS U (FA 0 U eV U)<|eS U (FA 10 U eV U)<|eS U (L1 (vS heA j.Race.aB.length heC) 1 U bX U U)<|eS U (FA 2 U eV U)<|eS U (L1 (vI p.iY) 0 U bX U U) ?_
 obtain ⟨ht,C⟩:=aF j.Race.aB ((p.iY).toNat) I
 obtain ⟨A,B⟩:=aF ha ((p.iY).toNat) I
 have P:(List.zipWith cz j.Race.aB ha)[(p.iY).toNat]? =some (cz ht A):=cZ C B
 refine eS U (IA ((p.iY).toNat) U (ax 8 U) lZ dc I I)<|eS U (h_ ((p.iY).toNat) 0 (vS A.1.1 ht.length A.1.2) U bX (ax 8 U) P U dc U) ?_
 have O:=S.fX _ _ _ C B
 have q:=O.mq
 have s:=(n.fX ht (aP C)).1
 refine eS U (FA 1 U eV U)<|eS U (L1 (vI p.iR) 0 U bX U U) ?_
 obtain ⟨d,hd⟩:=aF ht ((p.iR).toNat) I
 obtain ⟨da,N⟩:=aF A.2 ((p.iR).toNat) I
 have c:(List.zipWith aw.cells ht A.2)[(p.iR).toNat]? =some (aw.cells d da):=cZ hd N
 refine eS U (IA ((p.iR).toNat) U (show hH _ (rd A.1.1 ht.length 7 (List.zipWith aw.cells ht A.2)).holds from (cj 9 U (bD C B ct))) qk dc I I) ?_
 have D:=o9 (j:=j) (p:=p) C hd
 have A1:=O.sig d (aP hd)
 refine eS U (oL ((((p.iR).toNat)*7)+4) U (show hH _ (rd A.1.1 ht.length 7 (List.zipWith aw.cells ht A.2)).holds from (cj 9 U (bD C B ct))) (Nat.mul_pos I dc) eV U)<|eS U (jL ((p.iR).toNat) 4 (de.cells (de.mk d.aZ.Start d.aZ.fP (bK.mk da.1 d.aZ.aa.length da.2))) U bX (show hH _ (rd A.1.1 ht.length 7 (List.zipWith aw.cells ht A.2)).holds from (cj 9 U (bD C B ct))) c U dc U U)<|eS U (FA 0 U eV U)<|eS U (FA 0 U eV U)<|eS U (FA 4 U eV U)<|eS U (L1 (vI j.Race.ar.b_) 1 U bX U U)<|eS U (CL (pf j.Race.ar kA kC az cA cC bA bC d.aZ da.1 da.2 j.Race.ar.b_ asm asm) (lW [2,3,4,5]<|aQ (show hH _ (rd da.1 d.aZ.aa.length 2 (d.aZ.aa.map aH.cells)).holds from (cj 9 U (bD C B (dH _ (bD hd N (by simp [aw.fu]))))))<|aR) U)<|eo U<|cd U fun T6 Z=>AL U tj fun b7=>aD (Z _ _ (aN [1,2,3,4,5,6,7,8,9,10,11,12]) ?_)
 refine cd U fun T8 a=>fj U qa U<|aD (a _ _ (aN [1,2,3,4,5,6,7,8,9,10,11,12]) ?_)
 refine fh U<|KK X<|ak fun _ Y=>ak fun _ H=>?_
 have z:=ET (l:=j.Race.ar) (r:=d.aZ) (b:=j.Race.ar.b_) I
 obtain ⟨_,_,_,A0⟩:=E.jH
 have y:=KY (fr F).2 E.jH
 refine au<|er 4 [0,1] (mc 1 U (mc 2 U mn)) U<|rS (BI U (wo ⟨I,I⟩))<|bx 2 U<|RK H<|aC<|WS fun _ AB=>rP 5 [] (mc 0 U mn) ?_
 refine RK AB<|cr U (aT fun T=>?_) (aS fun T=>?_)
 ·refine WS fun _ J=>rP 1 [] mn ?_
  refine RK J<|ao<|Q1 hQ U U U ?_
  (rw [G.1,IS D I]; done)
 refine WS fun _ K=>rP 5 [] (mc 0 U mn) ?_
 refine RK K<|cr U (aT fun AA=>?_) (aS fun AA=>?_)
 ·refine WS fun _ L=>rP 1 [] mn ?_
  refine RK L<|ao<|Q1 hQ U U U ?_
  (rw [G.1,H4 D I I]; done)
 refine cp<|aK<|KK Y<|WS fun _ M=>rP 1 [] mn ?_
 refine RK M<|ao<|Q1 hQ U U U ?_
 (rw [G.1,G4 D I I]; done)
theorem IP (j:dk) (kA:OA) (kC:Nat) (az:List RA) (cA:OA) (cC:Nat) (bA:OA) (bC:Nat) (slA:OA) (slC:Nat) (drA:OA) (drC:Nat) (ha:List cU) (heA:OA) (heC:Nat) (faA:OA) (faC:Nat) (prA:OA) (prC:Nat) (kq hq sq:Int) (hin:fY j az ha):
 dF Tryz.prog 11 [(vA (fW.cells (n7 j kA kC cA cC bA bC slA slC drA drC heA heC faA faC prA prC))),(vI kq),(vI hq),(vI sq)] [(rd kA j.Race.ar.aO.length 9 (j.Race.ar.aO.map aq.cells)),(rd cA j.Race.ar.aj.length 2 (List.zipWith av.cells j.Race.ar.aj az)),(dL (bk av.fu j.Race.ar.aj az)),(rd bA j.Race.ar.ab.length 4 (j.Race.ar.ab.map bL.cells)),(rd slA j.Race.bg.length 1 (j.Race.bg.map iC)),(rd drA j.Race.cm.length 1 (j.Race.cm.map iC)),(rd heA j.Race.aB.length 1 (List.zipWith cz j.Race.aB ha)),(dL (bk eO j.Race.aB ha)),(rd faA j.ay.length 4 (j.ay.map aX.cells)),(rd prA j.aM.length 5 (j.aM.map bI.cells))] (vT [(Value.int .u8 (uR j kq hq sq)),(vI (su j kq hq sq))]):=by
 have N:=hin.race
 have i:=hin.race.line
 have x:=hin.race.gQ
 have y:=hin.race.has
 have u:=hin.race.gX
 have n:=hin.nf
 have r:=hin.np
 refine bE kr Tryz.func11 U U fun w0 Q hQ hN=>?_
 try dsimp only
 refine WS fun _ S=>ed U fun b2=>bx 2 U<|RK S<|ak fun _ T=>WS fun _ AA=>er 1 [] (mc 0 U mn) U<|rS (CL (ox j kA kC az cA cC bA bC slA slC drA drC ha heA heC faA faC prA prC hin) (br [1,2,3,4,5,6,7,8,9,10]) U)<|bx 1 U<|RK AA<|WS fun _ V=>rP 2 [] mn ?_
 refine RK V<|cr U (aW fun B=>?_) (aV fun B=>?_)
 ·refine WS fun _ W=>rP 3 [] mn ?_
  refine RK W<|ao<|Q2 hQ U U U U ?_
  (have e:=yZ (k:=kq) (h:=hq) (s:=sq) B; rw [e.1,e.2]; done)
 refine WK T<|ak fun _ X=>WS fun _ E=>er 5 [] (mc 0 U mn) U<|rS (CL (gG kq 0 ((j.ay.length:Int)-1)) (aR) U)<|rP 2 [] mn ?_
 refine bP (t:=23) U (aW fun O=>?_) (aV fun O=>?_)
 ·refine bx 19 U<|RK E<|aI U<|WS fun _ Y=>rP 2 [] mn ?_
  refine RK Y<|ao<|Q2 hQ U U U U ?_
  (have e:=nm (k:=kq) (h:=hq) (s:=sq) B (fun q=>by unfold jV at q; omega); rw [e.1,e.2]; done)
 refine er 6 [] (mc 0 U mn) U<|rS (CL (gG hq 0 ((j.Race.aB.length:Int)-1)) (aR) U)<|rP 3 [] mn ?_
 refine bP (t:=33) U (aW fun P=>?_) (aV fun P=>?_)
 ·refine bx 9 U<|RK E<|aI U<|WS fun _ F=>rP 2 [] mn ?_
  refine RK F<|ao<|Q2 hQ U U U U ?_
  (have e:=nm (k:=kq) (h:=hq) (s:=sq) B (fun q=>by unfold jV at q; omega); rw [e.1,e.2]; done)
 refine er 6 [] (mc 0 U mn) U<|rS (CL (gG sq 0 ((j.Race.bg.length:Int)-1)) (aR) U)<|rP 2 [] mn ?_
 refine RK E<|cr U (aW fun R=>?_) (aV fun R=>?_)
 ·refine WS fun _ G=>rP 2 [] mn ?_
  refine RK G<|ao<|Q2 hQ U U U U ?_
  (have e:=nm (k:=kq) (h:=hq) (s:=sq) B (fun q=>by unfold jV at q; omega); rw [e.1,e.2]; done)
 refine WK X<|ak fun _ H=>?_
 have M:=(gH B).1
 have c:=(gH B).2
 have g:=(fr M).1
 have l:=(fr M).2
 have b:=(dK g).2.head
 unfold eT at b
 refine cW ck 18 kr<|dP 4 [] (mc 0 U mn) ?_
 obtain ⟨f,hf⟩:=aF j.ay ((kq).toNat) I
 have a:=bJ aX.cells hf
 refine dS (IA ((kq).toNat) U (ax 9 U) xB dc I I)<|dS (jL ((kq).toNat) 0 (aX.cells f) U bX (ax 9 U) a U dc U U)<|dP 4 [] (mc 0 U mn) ?_
 obtain ⟨ht,D⟩:=aF j.Race.aB ((hq).toNat) I
 obtain ⟨A,C⟩:=aF ha ((hq).toNat) I
 have L:(List.zipWith cz j.Race.aB ha)[(hq).toNat]? =some (cz ht A):=cZ D C
 refine dS (IA ((hq).toNat) U (ax 7 U) lZ dc I I)<|dS (h_ ((hq).toNat) 0 (vS A.1.1 ht.length A.1.2) U bX (ax 7 U) L U dc U) ?_
 have K:=N.fX _ _ _ D C
 have o:=K.mq
 have p:=(l.fX ht (aP D)).1
 refine dP 1 [] mn ?_
 obtain ⟨d,hd⟩:=aF ht ((sq).toNat) I
 obtain ⟨da,AB⟩:=aF A.2 ((sq).toNat) I
 have Z:(List.zipWith aw.cells ht A.2)[(sq).toNat]? =some (aw.cells d da):=cZ hd AB
 refine dS (IA ((sq).toNat) U (show hH _ (rd A.1.1 ht.length 7 (List.zipWith aw.cells ht A.2)).holds from (cj 8 U (bD D C ct))) qk dc I I)<|dS (jL ((sq).toNat) 0 (bf.cells (bf.mk d.Out d.cO d.Time (de.mk d.aZ.Start d.aZ.fP (bK.mk da.1 d.aZ.aa.length da.2)))) U bX (show hH _ (rd A.1.1 ht.length 7 (List.zipWith aw.cells ht A.2)).holds from (cj 8 U (bD D C ct))) Z U dc U U) ?_
 have m:=K.sig
 have J:=c.fault f (aP hf)
 have w:0≤f.gW∧f.gW≤1000000:=by have v:=J.2.2; split at v<;>omega
 have z:=m d (aP hd)
 refine dS (CL (BP j kA kC az cA cC bA bC slA slC drA drC ha heA heC faA faC prA prC f d da.1 da.2 hin (by exact J.1) asm asm) (lW [1,2,3,4,5,6,7,8,9,10]<|aQ (show hH _ (rd da.1 d.aZ.aa.length 2 (d.aZ.aa.map aH.cells)).holds from (cj 8 U (bD D C (dH _ (bD hd AB (by simp [aw.fu]))))))<|aR) U)<|dP 2 [] mn ?_
 refine cw<|RK H<|ao<|Q2 hQ U U U U ?_
 (have e:=An (k:=kq) (h:=hq) (s:=sq) B (by unfold jV; omega) hf D hd; rw [e.1,e.2]; done)
theorem Lf (j:dk) (kA:OA) (kC:Nat) (az:List RA) (cA:OA) (cC:Nat) (bA:OA) (bC:Nat) (slA:OA) (slC:Nat) (drA:OA) (drC:Nat) (ha:List cU) (heA:OA) (heC:Nat) (faA:OA) (faC:Nat) (prA:OA) (prC:Nat) (iq:Int) (hin:fY j az ha):
 dF Tryz.prog 15 [(vA (fW.cells (n7 j kA kC cA cC bA bC slA slC drA drC heA heC faA faC prA prC))),(vI iq)] [(rd kA j.Race.ar.aO.length 9 (j.Race.ar.aO.map aq.cells)),(rd cA j.Race.ar.aj.length 2 (List.zipWith av.cells j.Race.ar.aj az)),(dL (bk av.fu j.Race.ar.aj az)),(rd bA j.Race.ar.ab.length 4 (j.Race.ar.ab.map bL.cells)),(rd slA j.Race.bg.length 1 (j.Race.bg.map iC)),(rd drA j.Race.cm.length 1 (j.Race.cm.map iC)),(rd heA j.Race.aB.length 1 (List.zipWith cz j.Race.aB ha)),(dL (bk eO j.Race.aB ha)),(rd faA j.ay.length 4 (j.ay.map aX.cells)),(rd prA j.aM.length 5 (j.aM.map bI.cells))] (vT [(Value.int .u8 (wW j iq)),(vI (tf j iq))]):=by
 have P:=hin.race
 have M:=hin.race.line
 have S:=hin.race.gQ
 have T:=hin.race.has
 have R:=hin.race.gX
 have N:=hin.nf
 have O:=hin.np
 refine bE kr Tryz.func15 U U fun V Q hQ hN=>?_
 try dsimp only
 refine WS fun _ D=>ed U fun AA=>bx 2 U<|RK D<|ak fun _ E=>WS fun _ F=>er 1 [] (mc 0 U mn) U<|rS (CL (ox j kA kC az cA cC bA bC slA slC drA drC ha heA heC faA faC prA prC hin) (br [1,2,3,4,5,6,7,8,9,10]) U)<|bx 1 U<|RK F<|WS fun _ G=>rP 2 [] mn ?_
 refine RK G<|cr U (aW fun A=>?_) (aV fun A=>?_)
 ·refine WS fun _ H=>rP 3 [] mn ?_
  refine RK H<|ao<|Q2 hQ U U U U ?_
  (have e:=Al (i:=iq) A; rw [e.1,e.2]; done)
 refine WK E<|ak fun _ AB=>WS fun _ J=>er 5 [] (mc 0 U mn) U<|rS (CL (gG iq 0 ((j.aM.length:Int)-1)) (aR) U)<|rP 1 [] mn ?_
 refine RK J<|cr U (aW fun C=>?_) (aV fun C=>?_)
 ·refine WS fun _ K=>rP 2 [] mn ?_
  refine RK K<|ao<|Q2 hQ U U U U ?_
  (have e:=BZ (i:=iq) A I; rw [e.1,e.2]; done)
 refine WK AB<|ak fun _ B=>?_
 obtain ⟨k,L⟩: ∃ k:Nat,iq=(k:Int):=⟨iq.toNat,I⟩
 subst L
 refine au<|er 2 [] (mc 0 U mn) U<|rS (CL (J_ k j kA kC az cA cC bA bC slA slC drA drC ha heA heC faA faC prA prC hin (by exact A) I) (br [1,2,3,4,5,6,7,8,9,10]) U)<|rP 2 [] mn ?_
 refine RK B<|ao<|Q2 hQ U U U U ?_
 (rw [show tf j (k:Int)=0 from by unfold tf; rw [if_pos A,if_pos I]]; done)
end
section
open Go.RowKit
theorem LG (l:bo) (kA:OA) (kC:Nat) (az:List RA) (cA:OA) (cC:Nat) (bA:OA) (bC:Nat) (m:bo) (k2A:OA) (k2C:Nat) (az2:List RA) (c2A:OA) (c2C:Nat) (b2A:OA) (b2C:Nat) (hin:d_ l az) (hin2:d_ m az2) (hsm: ¬ ld l) (hsm2: ¬ ld m):
 dF Tryz.prog 79 [(vA (cu.cells (jr l kA kC cA cC bA bC))),(vA (cu.cells (cu.mk (bR.mk (bK.mk k2A m.aO.length k2C)) m.ib (bK.mk c2A m.aj.length c2C) (bK.mk b2A m.ab.length b2C) m.b_ m.e9 m.dp)))] [(rd kA l.aO.length 9 (l.aO.map aq.cells)),(rd cA l.aj.length 2 (List.zipWith av.cells l.aj az)),(dL (bk av.fu l.aj az)),(rd bA l.ab.length 4 (l.ab.map bL.cells)),(rd k2A m.aO.length 9 (m.aO.map aq.cells)),(rd c2A m.aj.length 2 (List.zipWith av.cells m.aj az2)),(dL (bk av.fu m.aj az2)),(rd b2A m.ab.length 4 (m.ab.map bL.cells))] (vB (decide (l=m))):=by
 have J3:=hin.qm
 have J2:=hin.qj
 have Ji:=hin.mq
 have Jr:=hin.qi
 have If:=hin2.qm
 have Id:=hin2.qj
 have IO:=hin2.mq
 have IR:=hin2.qi
 have Ck:=tD hsm
 have h:=tD hsm2
 refine bE kr Tryz.func79 U U fun w0 Q hQ hN=>?_
 try dsimp only
 refine WS fun _ Eq=>ed U fun b2=>ed U fun b3=>bx 1 U<|RK Eq<|ak fun _ FP=>WS fun _ AB=>bx 1 U<|rS (LP (bR.cells (bR.mk (bK.mk kA l.aO.length kC))) 1 U bX U U U)<|rP 1 [] mn ?_
 refine rS (LP (bR.cells (bR.mk (bK.mk k2A m.aO.length k2C))) 0 U bX U U U) ?_
 refine rS (CL (Nx l.aO kA kC m.aO k2A k2C sd sd) (br [2,6]) U) ?_
 refine rP 2 [] mn ?_
 refine bP (t:=16) U (aW fun C=>?_) (aV fun C=>?_)
 ·refine bx 45 U<|RK AB<|aI U<|WS fun _ FS=>rP 1 [] mn ?_
  refine RK FS<|ao<|Q1 hQ U U U ?_
  first|exact cB (aY (fun e=>by subst e; first|exact C rfl|omega)).symm|exact cB (aY (fun e=>by subst e; rw [hp] at hq; cases hq; exact E rfl)).symm|exact cB (aY (fun e=>by subst e; rw [hx] at hy; cases hy; first|(rw [hz] at hu; cases hu; exact D rfl)|omega)).symm|exact cB (cJ (g_ C I I I I (cH I B I) (cH I A I))).symm
 refine rP 7 [0,1] (mc 1 U (mc 0 U mn)) ?_
 refine bP (t:=23) U (aW fun C2=>?_) (aV fun C2=>?_)
 ·refine bx 38 U<|RK AB<|aI U<|WS fun _ Fd=>rP 1 [] mn ?_
  refine RK Fd<|ao<|Q1 hQ U U U ?_
  first|exact cB (aY (fun e=>by subst e; first|exact C rfl|omega)).symm|exact cB (aY (fun e=>by subst e; rw [hp] at hq; cases hq; exact E rfl)).symm|exact cB (aY (fun e=>by subst e; rw [hx] at hy; cases hy; first|(rw [hz] at hu; cases hu; exact D rfl)|omega)).symm|exact cB (cJ (g_ C I I I I (cH I B I) (cH I A I))).symm
 refine rP 7 [0,1] (mc 1 U (mc 0 U mn)) ?_
 refine bP (t:=30) U (aW fun C3=>?_) (aV fun C3=>?_)
 ·refine bx 31 U<|RK AB<|aI U<|WS fun _ Fn=>rP 1 [] mn ?_
  refine RK Fn<|ao<|Q1 hQ U U U ?_
  first|exact cB (aY (fun e=>by subst e; first|exact C rfl|omega)).symm|exact cB (aY (fun e=>by subst e; rw [hp] at hq; cases hq; exact E rfl)).symm|exact cB (aY (fun e=>by subst e; rw [hx] at hy; cases hy; first|(rw [hz] at hu; cases hu; exact D rfl)|omega)).symm|exact cB (cJ (g_ C I I I I (cH I B I) (cH I A I))).symm
 refine rP 7 [0,1] (mc 1 U (mc 0 U mn)) ?_
 refine bP (t:=37) U (aW fun DE=>?_) (aV fun DE=>?_)
 ·refine bx 24 U<|RK AB<|aI U<|WS fun _ GE=>rP 1 [] mn ?_
  refine RK GE<|ao<|Q1 hQ U U U ?_
  first|exact cB (aY (fun e=>by subst e; first|exact C rfl|omega)).symm|exact cB (aY (fun e=>by subst e; rw [hp] at hq; cases hq; exact E rfl)).symm|exact cB (aY (fun e=>by subst e; rw [hx] at hy; cases hy; first|(rw [hz] at hu; cases hu; exact D rfl)|omega)).symm|exact cB (cJ (g_ C I I I I (cH I B I) (cH I A I))).symm
 refine rP 7 [0,1] (mc 1 U (mc 0 U mn)) ?_
 refine bP (t:=44) U (aW fun DW=>?_) (aV fun DW=>?_)
 ·refine bx 17 U<|RK AB<|aI U<|WS fun _ AC=>rP 1 [] mn ?_
  refine RK AC<|ao<|Q1 hQ U U U ?_
  first|exact cB (aY (fun e=>by subst e; first|exact C rfl|omega)).symm|exact cB (aY (fun e=>by subst e; rw [hp] at hq; cases hq; exact E rfl)).symm|exact cB (aY (fun e=>by subst e; rw [hx] at hy; cases hy; first|(rw [hz] at hu; cases hu; exact D rfl)|omega)).symm|exact cB (cJ (g_ C I I I I (cH I B I) (cH I A I))).symm
 refine rP 9 [0,1] (mc 1 U (mc 0 U mn)) ?_
 refine bP (t:=53) U (aW fun Do=>?_) (aV fun Do=>?_)
 ·refine bx 8 U<|RK AB<|aI U<|WS fun _ AO=>rP 1 [] mn ?_
  refine RK AO<|ao<|Q1 hQ U U U ?_
  first|exact cB (aY (fun e=>by subst e; first|exact C rfl|omega)).symm|exact cB (aY (fun e=>by subst e; rw [hp] at hq; cases hq; exact E rfl)).symm|exact cB (aY (fun e=>by subst e; rw [hx] at hy; cases hy; first|(rw [hz] at hu; cases hu; exact D rfl)|omega)).symm|exact cB (cJ (g_ C I I I I (cH I B I) (cH I A I))).symm
 refine rP 8 [0,1] (mc 1 U (mc 0 U mn)) ?_
 refine RK AB<|cr U (aW fun EQ=>?_) (aV fun EQ=>?_)
 ·refine WS fun _ A0=>rP 1 [] mn ?_
  refine RK A0<|ao<|Q1 hQ U U U ?_
  first|exact cB (aY (fun e=>by subst e; first|exact C rfl|omega)).symm|exact cB (aY (fun e=>by subst e; rw [hp] at hq; cases hq; exact E rfl)).symm|exact cB (aY (fun e=>by subst e; rw [hx] at hy; cases hy; first|(rw [hz] at hu; cases hu; exact D rfl)|omega)).symm|exact cB (cJ (g_ C I I I I (cH I B I) (cH I A I))).symm
 refine WK FP<|ak fun _ A1=>WS fun _ A2=>rP 1 [] mn ?_
 refine RK A2<|aC ?_
 have F:(0≤l.aj.length)∧(l.aj.take 0=m.aj.take 0):=by simp
 refine bQ (ι:={z:Nat // (z≤l.aj.length)∧(l.aj.take z=m.aj.take z)}) [2,3] [0,1,2,3,4,5,6,7,8,9] U U (fun z=>[(5,(vI (z.1:Int)))]) (fun z=>[]) (fun _=>rfl) (fun _=>rfl) (fun z=>l.aj.length-z.1) ⟨0,F⟩ (bu U) (aN [0,1,2,3,4,5,6,7,8,9]) ?_
 clear F
 rintro ⟨i,⟨GT,B⟩⟩ J15 d
 try dsimp only
 refine ak fun _ A3=>WS fun _ A4=>rP 5 [] (mc 1 U mn) ?_
 refine RK A4<|bO U (aS fun C1=>?_) (aT fun C1=>?_)
 ·refine bM<|ag<|ag<|aG<|KK A1<|ak fun _ A5=>WS fun _ A6=>rP 1 [] mn ?_
  refine RK A6<|aC ?_
  have F:(0≤l.ab.length)∧(l.ab.take 0=m.ab.take 0):=by simp
  refine bQ (ι:={z:Nat // (z≤l.ab.length)∧(l.ab.take z=m.ab.take z)}) [2,3] [0,1,2,3,4,5,6,7,8,9] U U (fun z=>[(9,(vI (z.1:Int)))]) (fun z=>[]) (fun _=>rfl) (fun _=>rfl) (fun z=>l.ab.length-z.1) ⟨0,F⟩ (bu U) (aN [0,1,2,3,4,5,6,7,8,9]) ?_
  clear F
  rintro ⟨n,⟨Cp,A⟩⟩ J43 w
  try dsimp only
  refine ak fun _ A7=>WS fun _ A8=>rP 5 [] (mc 1 U mn) ?_
  refine RK A8<|bO U (aS fun Di=>?_) (aT fun Di=>?_)
  ·refine bM<|ag<|ag<|aG<|KK A5<|WS fun _ B9=>rP 1 [] mn ?_
   refine RK B9<|ao<|Q1 hQ U U U ?_
   first|exact cB (aY (fun e=>by subst e; first|exact C rfl|omega)).symm|exact cB (aY (fun e=>by subst e; rw [hp] at hq; cases hq; exact E rfl)).symm|exact cB (aY (fun e=>by subst e; rw [hx] at hy; cases hy; first|(rw [hz] at hu; cases hu; exact D rfl)|omega)).symm|exact cB (cJ (g_ C I I I I (cH I B I) (cH I A I))).symm
  refine WK A7<|ak fun _ A9=>aC<|ak fun _ Bv=>cW ck 11 kr<|dP 3 [] (mc 1 U mn) ?_
  obtain ⟨p,hp⟩:=aF l.ab n I
  have GY:=bJ bL.cells hp
  refine dS (IA n U (ax 5 U) uG dc I I)<|dS (jL n 0 (bL.cells p) U bX (ax 5 U) GY U dc U U)<|dP 3 [] (mc 0 U mn) ?_
  obtain ⟨q,hq⟩:=aF m.ab n I
  have Go:=bJ bL.cells hq
  refine dS (IA n U (ax 9 U) uG dc I I)<|dS (jL n 0 (bL.cells q) U bX (ax 9 U) Go U dc U U)<|dS (BI U (Oh _ _ p q))<|cw<|RK Bv<|bO U (aV fun E=>?_) (aW fun E=>?_)
  ·refine cp<|aK<|KK A9<|au<|rP 3 [] mn ?_
   refine aD ?_
   have Ci:(vI (((n+1):Nat):Int))=(vI ((n:Int)+1)):=by exact cI I
   refine bj (w ⟨(n+1),⟨I,iG A hp hq E⟩⟩ _ _ _ U os (dh.cons U<|dh.cons U<|a_ U Ci<|dh.nil _) (aN [0,1,2,3,4,5,6,7,8,9]))
  refine WS fun _ B3=>rP 1 [] mn ?_
  refine RK B3<|ao<|Q1 hQ U U U ?_
  first|exact cB (aY (fun e=>by subst e; first|exact C rfl|omega)).symm|exact cB (aY (fun e=>by subst e; rw [hp] at hq; cases hq; exact E rfl)).symm|exact cB (aY (fun e=>by subst e; rw [hx] at hy; cases hy; first|(rw [hz] at hu; cases hu; exact D rfl)|omega)).symm|exact cB (cJ (g_ C I I I I (cH I B I) (cH I A I))).symm
 refine WK A3<|ak fun _ f=>aC<|ak fun _ g=>mx ck [0,1,2,3,4,5,6,7,8,9] [10,11,12,13] [false,false,false,false,false,false,false,false,false,false] [] [(cy b3 28 (cu.cells (cu.mk (bR.mk (bK.mk k2A m.aO.length k2C)) m.ib (bK.mk c2A m.aj.length c2C) (bK.mk b2A m.ab.length b2C) m.b_ m.e9 m.dp))),(cy b2 28 (cu.cells (jr l kA kC cA cC bA bC))),(rd kA l.aO.length 9 (l.aO.map aq.cells)).ro,(rd cA l.aj.length 2 (List.zipWith av.cells l.aj az)).ro,(dL (bk av.fu l.aj az)).ro,(rd bA l.ab.length 4 (l.ab.map bL.cells)).ro,(rd k2A m.aO.length 9 (m.aO.map aq.cells)).ro,(rd c2A m.aj.length 2 (List.zipWith av.cells m.aj az2)).ro,(dL (bk av.fu m.aj az2)).ro,(rd b2A m.ab.length 4 (m.ab.map bL.cells)).ro] [] kr (aN [0,1,2,3,4,5,6,7,8,9]) (aN [])<|eS U (FA 2 U eV U)<|eS U (L1 (vS cA l.aj.length cC) 1 U bX U U)<|eS U (MV U) ?_
 obtain ⟨x,hx⟩:=aF l.aj i I
 obtain ⟨xa,a⟩:=aF az i I
 have Hi:(List.zipWith av.cells l.aj az)[i]? =some (av.cells x xa):=cZ hx a
 refine eS U (IA i U (ax 3 U) yk dc I I)<|eS U (jL i 0 (dG.cells (dG.mk x.du (bK.mk xa.1 x.bp.length xa.2))) U bX (ax 3 U) Hi U dc U U)<|eS U (FA 2 U eV U)<|eS U (L1 (vS c2A m.aj.length c2C) 0 U bX U U)<|eS U (MV U) ?_
 obtain ⟨y,hy⟩:=aF m.aj i I
 obtain ⟨ya,b⟩:=aF az2 i I
 have H1:(List.zipWith av.cells m.aj az2)[i]? =some (av.cells y ya):=cZ hy b
 refine eS U (IA i U (ax 7 U) yk dc I I)<|eS U (jL i 0 (dG.cells (dG.mk y.du (bK.mk ya.1 y.bp.length ya.2))) U bX (ax 7 U) H1 U dc U U)<|eo U<|mj [10,11] kr (ik ?_<|ik ?_<|pg)
 rotate_left 1
 ·refine NO U U [10,12,13] fun T21 AA=>AL U zd fun Cx=>RD AA 1 U<|N1 10<|NO U U [12,13] fun T23 V=>AL U zd fun C0=>RD V 2 U<|N1 12<|NO U U [13] fun T25 W=>fj U yx U<|RD W 2 U<|N1 13<|NO U U [] fun T26 X=>pZ U yx U<|RD X 2 U<|lp<|KK g<|ak fun _ K=>WS fun _ H=>rP 6 [0,1] (mc 0 U (mc 1 U mn)) ?_
  refine bP (t:=84) U (aW fun o=>?_) (aV fun o=>?_)
  ·refine bx 8 U<|RK H<|aI U<|WS fun _ L=>rP 1 [] mn ?_
   refine RK L<|ao<|Q1 hQ U U U ?_
   first|exact cB (aY (fun e=>by subst e; first|exact C rfl|omega)).symm|exact cB (aY (fun e=>by subst e; rw [hp] at hq; cases hq; exact E rfl)).symm|exact cB (aY (fun e=>by subst e; rw [hx] at hy; cases hy; first|(rw [hz] at hu; cases hu; exact D rfl)|omega)).symm|exact cB (cJ (g_ C I I I I (cH I B I) (cH I A I))).symm
  refine rP 8 [0,1] (mc 0 U (mc 1 U mn)) ?_
  refine RK H<|cr U (aW fun r=>?_) (aV fun r=>?_)
  ·refine WS fun _ M=>rP 1 [] mn ?_
   refine RK M<|ao<|Q1 hQ U U U ?_
   first|exact cB (aY (fun e=>by subst e; first|exact C rfl|omega)).symm|exact cB (aY (fun e=>by subst e; rw [hp] at hq; cases hq; exact E rfl)).symm|exact cB (aY (fun e=>by subst e; rw [hx] at hy; cases hy; first|(rw [hz] at hu; cases hu; exact D rfl)|omega)).symm|exact cB (cJ (g_ C I I I I (cH I B I) (cH I A I))).symm
  refine WK K<|WS fun _ N=>rP 1 [] mn ?_
  refine RK N<|aC ?_
  have F:(0≤x.bp.length)∧(x.bp.take 0=y.bp.take 0):=by simp
  refine bQ (ι:={z:Nat // (z≤x.bp.length)∧(x.bp.take z=y.bp.take z)}) [2,3,5,6,7] [0,1,2,3,4,5,6,7,8,9,10,11] U U (fun z=>[(8,(vI (z.1:Int)))]) (fun z=>[]) (fun _=>rfl) (fun _=>rfl) (fun z=>x.bp.length-z.1) ⟨0,F⟩ (bu U) (aN [0,1,2,3,4,5,6,7,8,9,10,11]) ?_
  clear F
  rintro ⟨k,⟨c,G⟩⟩ J32 J
  try dsimp only
  have HY:=Ck.2.2.2 x (aP hx)
  have Ho:=h.2.2.2 y (aP hy)
  refine ak fun _ O=>WS fun _ P=>rP 5 [] (mc 0 U mn) ?_
  refine RK P<|bO U (aS fun j=>?_) (aT fun j=>?_)
  ·refine bM<|ag<|ag<|aG<|aK<|KK f<|au<|rP 3 [] mn ?_
   refine aD ?_
   have Z:(vI (((i+1):Nat):Int))=(vI ((i:Int)+1)):=by exact cI I
   refine bj (d ⟨(i+1),⟨I,iG B hx hy (wS I I I G)⟩⟩ _ _ _ U os (dh.cons U<|dh.cons U<|a_ U Z<|dh.nil _) (aN [2,3,4,5,6,7,8,9,10,11]))
  refine WK O<|ak fun _ R=>aC<|ak fun _ S=>cW ck 11 kr<|dP 3 [] (mc 0 U mn) ?_
  obtain ⟨z,hz⟩:=aF x.bp k I
  have v:=bJ cK.cells hz
  refine dS (IA k U (show hH _ (rd xa.1 x.bp.length 3 (x.bp.map cK.cells)).holds from (cj 6 U (bD hx a (by simp [av.fu])))) od dc I I)<|dS (jL k 0 (cK.cells z) U bX (show hH _ (rd xa.1 x.bp.length 3 (x.bp.map cK.cells)).holds from (cj 6 U (bD hx a (by simp [av.fu])))) v U dc U U)<|dP 3 [] (mc 1 U mn) ?_
  obtain ⟨u,hu⟩:=aF y.bp k I
  have s:=bJ cK.cells hu
  refine dS (IA k U (show hH _ (rd ya.1 y.bp.length 3 (y.bp.map cK.cells)).holds from (cj 10 U (bD hy b (by simp [av.fu])))) od dc I I)<|dS (jL k 0 (cK.cells u) U bX (show hH _ (rd ya.1 y.bp.length 3 (y.bp.map cK.cells)).holds from (cj 10 U (bD hy b (by simp [av.fu])))) s U dc U U)<|dS (BI U (Jn _ _ z u))<|cw<|RK S<|bO U (aV fun D=>?_) (aW fun D=>?_)
  ·refine cp<|aK<|KK R<|au<|rP 3 [] mn ?_
   refine aD ?_
   have Y:(vI (((k+1):Nat):Int))=(vI ((k:Int)+1)):=by exact cI I
   refine bj (J ⟨(k+1),⟨I,iG G hz hu D⟩⟩ _ _ _ U os (cN 5<|a_ U Y<|dh.nil _) (aN [0,1,2,3,4,5,6,7,8,9,10,11]))
  refine WS fun _ T=>rP 1 [] mn ?_
  refine RK T<|ao<|Q1 hQ U U U ?_
  first|exact cB (aY (fun e=>by subst e; first|exact C rfl|omega)).symm|exact cB (aY (fun e=>by subst e; rw [hp] at hq; cases hq; exact E rfl)).symm|exact cB (aY (fun e=>by subst e; rw [hx] at hy; cases hy; first|(rw [hz] at hu; cases hu; exact D rfl)|omega)).symm|exact cB (cJ (g_ C I I I I (cH I B I) (cH I A I))).symm
 refine NO U U [11,12,13] fun T21 AA=>AL U zd fun Cx=>RD AA 1 U<|N1 11<|NO U U [12,13] fun T23 V=>AL U zd fun C0=>RD V 2 U<|N1 12<|NO U U [13] fun T25 W=>pZ U yx U<|RD W 2 U<|N1 13<|NO U U [] fun T26 X=>fj U yx U<|RD X 2 U<|lp<|KK g<|ak fun _ K=>WS fun _ H=>rP 6 [0,1] (mc 1 U (mc 0 U mn)) ?_
 refine bP (t:=84) U (aW fun o=>?_) (aV fun o=>?_)
 ·refine bx 8 U<|RK H<|aI U<|WS fun _ L=>rP 1 [] mn ?_
  refine RK L<|ao<|Q1 hQ U U U ?_
  first|exact cB (aY (fun e=>by subst e; first|exact C rfl|omega)).symm|exact cB (aY (fun e=>by subst e; rw [hp] at hq; cases hq; exact E rfl)).symm|exact cB (aY (fun e=>by subst e; rw [hx] at hy; cases hy; first|(rw [hz] at hu; cases hu; exact D rfl)|omega)).symm|exact cB (cJ (g_ C I I I I (cH I B I) (cH I A I))).symm
 refine rP 8 [0,1] (mc 1 U (mc 0 U mn)) ?_
 refine RK H<|cr U (aW fun r=>?_) (aV fun r=>?_)
 ·refine WS fun _ M=>rP 1 [] mn ?_
  refine RK M<|ao<|Q1 hQ U U U ?_
  first|exact cB (aY (fun e=>by subst e; first|exact C rfl|omega)).symm|exact cB (aY (fun e=>by subst e; rw [hp] at hq; cases hq; exact E rfl)).symm|exact cB (aY (fun e=>by subst e; rw [hx] at hy; cases hy; first|(rw [hz] at hu; cases hu; exact D rfl)|omega)).symm|exact cB (cJ (g_ C I I I I (cH I B I) (cH I A I))).symm
 refine WK K<|WS fun _ N=>rP 1 [] mn ?_
 refine RK N<|aC ?_
 have F:(0≤x.bp.length)∧(x.bp.take 0=y.bp.take 0):=by simp
 refine bQ (ι:={z:Nat // (z≤x.bp.length)∧(x.bp.take z=y.bp.take z)}) [2,3,5,6,7] [0,1,2,3,4,5,6,7,8,9,10,11] U U (fun z=>[(8,(vI (z.1:Int)))]) (fun z=>[]) (fun _=>rfl) (fun _=>rfl) (fun z=>x.bp.length-z.1) ⟨0,F⟩ (bu U) (aN [0,1,2,3,4,5,6,7,8,9,10,11]) ?_
 clear F
 rintro ⟨k,⟨c,G⟩⟩ J32 J
 try dsimp only
 have HY:=Ck.2.2.2 x (aP hx)
 have Ho:=h.2.2.2 y (aP hy)
 refine ak fun _ O=>WS fun _ P=>rP 5 [] (mc 1 U mn) ?_
 refine RK P<|bO U (aS fun j=>?_) (aT fun j=>?_)
 ·refine bM<|ag<|ag<|aG<|aK<|KK f<|au<|rP 3 [] mn ?_
  refine aD ?_
  have Z:(vI (((i+1):Nat):Int))=(vI ((i:Int)+1)):=by exact cI I
  refine bj (d ⟨(i+1),⟨I,iG B hx hy (wS I I I G)⟩⟩ _ _ _ U os (dh.cons U<|dh.cons U<|a_ U Z<|dh.nil _) (aN [2,3,4,5,6,7,8,9,10,11]))
 refine WK O<|ak fun _ R=>aC<|ak fun _ S=>cW ck 11 kr<|dP 3 [] (mc 1 U mn) ?_
 obtain ⟨z,hz⟩:=aF x.bp k I
 have v:=bJ cK.cells hz
 refine dS (IA k U (show hH _ (rd xa.1 x.bp.length 3 (x.bp.map cK.cells)).holds from (cj 6 U (bD hx a (by simp [av.fu])))) od dc I I)<|dS (jL k 0 (cK.cells z) U bX (show hH _ (rd xa.1 x.bp.length 3 (x.bp.map cK.cells)).holds from (cj 6 U (bD hx a (by simp [av.fu])))) v U dc U U)<|dP 3 [] (mc 0 U mn) ?_
 obtain ⟨u,hu⟩:=aF y.bp k I
 have s:=bJ cK.cells hu
 refine dS (IA k U (show hH _ (rd ya.1 y.bp.length 3 (y.bp.map cK.cells)).holds from (cj 10 U (bD hy b (by simp [av.fu])))) od dc I I)<|dS (jL k 0 (cK.cells u) U bX (show hH _ (rd ya.1 y.bp.length 3 (y.bp.map cK.cells)).holds from (cj 10 U (bD hy b (by simp [av.fu])))) s U dc U U)<|dS (BI U (Jn _ _ z u))<|cw<|RK S<|bO U (aV fun D=>?_) (aW fun D=>?_)
 ·refine cp<|aK<|KK R<|au<|rP 3 [] mn ?_
  refine aD ?_
  have Y:(vI (((k+1):Nat):Int))=(vI ((k:Int)+1)):=by exact cI I
  refine bj (J ⟨(k+1),⟨I,iG G hz hu D⟩⟩ _ _ _ U os (cN 5<|a_ U Y<|dh.nil _) (aN [0,1,2,3,4,5,6,7,8,9,10,11]))
 refine WS fun _ T=>rP 1 [] mn ?_
 refine RK T<|ao<|Q1 hQ U U U ?_
 first|exact cB (aY (fun e=>by subst e; first|exact C rfl|omega)).symm|exact cB (aY (fun e=>by subst e; rw [hp] at hq; cases hq; exact E rfl)).symm|exact cB (aY (fun e=>by subst e; rw [hx] at hy; cases hy; first|(rw [hz] at hu; cases hu; exact D rfl)|omega)).symm|exact cB (cJ (g_ C I I I I (cH I B I) (cH I A I))).symm
end
section
open Go.RowKit
theorem Dj (d:aw) (sgA:OA) (sgC:Nat) (e:aw) (shA:OA) (shC:Nat) (h1:d.aZ.aa.length≤1000000) (h2:e.aZ.aa.length≤1000000):
 dF Tryz.prog 38 [(vA (bf.cells (bf.mk d.Out d.cO d.Time (im d.aZ sgA sgC)))),(vA (bf.cells (bf.mk e.Out e.cO e.Time (de.mk e.aZ.Start e.aZ.fP (bK.mk shA e.aZ.aa.length shC)))))] [(rd sgA d.aZ.aa.length 2 (d.aZ.aa.map aH.cells)),(rd shA e.aZ.aa.length 2 (e.aZ.aa.map aH.cells))] (vB (decide (d=e))):=by
 refine bE kr Tryz.func38 U U fun J Q hQ hN=>?_
 try dsimp only
 refine WS fun _ B=>ed U fun H=>ed U fun AA=>bx 1 U<|RK B<|WS fun _ A=>er 4 [0,1] (mc 1 U (mc 0 U mn)) U<|rS (BI U (HZ RL))<|rP 1 [] mn ?_
 refine db (t:=10) U (fun C=>?_) (fun C=>?_)
 ·replace C: ¬ d.Out=e.Out:=by simpa using C
  refine rP 41 [] mn ?_
  refine RK A<|ao<|Q1 hQ U U U ?_
  clear hQ hN A B
  refine cB ?_
  simp [oU, *]
 replace C:d.Out=e.Out:=by simpa using C
 refine er 4 [0,1] (mc 1 U (mc 0 U mn)) U<|rS (BI U (HZ RL))<|rP 2 [] mn ?_
 refine db (t:=17) U (fun D=>?_) (fun D=>?_)
 ·replace D: ¬ d.cO=e.cO:=by simpa using D
  refine rP 34 [] mn ?_
  refine RK A<|ao<|Q1 hQ U U U ?_
  clear hQ hN A B
  refine cB ?_
  simp [oU, *]
 replace D:d.cO=e.cO:=by simpa using D
 refine bx 1 U<|rS (LP (ai.cells d.Time) 1 U bX U U U)<|bx 1 U<|rS (LP (ai.cells e.Time) 0 U bX U U U)<|rS (BI U (vl _ _ d.Time e.Time))<|rP 2 [] mn ?_
 refine db (t:=24) U (aS fun E=>?_) (aT fun E=>?_)
 ·refine rP 27 [] mn ?_
  refine RK A<|ao<|Q1 hQ U U U ?_
  clear hQ hN A B
  refine cB ?_
  simp [oU, *]
 refine rP 9 [0,1] (mc 1 U (mc 0 U mn)) ?_
 refine db (t:=33) U (aS fun F=>?_) (aT fun F=>?_)
 ·refine rP 18 [] mn ?_
  refine RK A<|ao<|Q1 hQ U U U ?_
  clear hQ hN A B
  refine cB ?_
  simp [oU, *]
 refine rP 9 [0,1] (mc 1 U (mc 0 U mn)) ?_
 refine db (t:=42) U (aS fun G=>?_) (aT fun G=>?_)
 ·refine rP 9 [] mn ?_
  refine RK A<|ao<|Q1 hQ U U U ?_
  clear hQ hN A B
  refine cB ?_
  simp [oU, *]
 refine er 6 [0,1] (mc 1 U (mc 0 U mn)) U<|rS (CL (Dt d.aZ.aa sgA sgC e.aZ.aa shA shC h1 h2) (br [2,3]) U)<|rP 2 [] mn ?_
 refine RK A<|ao<|Q1 hQ U U U ?_
 clear hQ hN A B
 refine cB ?_
 simp [oU, *]
theorem C_ (r:eM) (kA:OA) (kC:Nat) (az:List RA) (cA:OA) (cC:Nat) (bA:OA) (bC:Nat) (slA:OA) (slC:Nat) (drA:OA) (drC:Nat) (ha:List cU) (heA:OA) (heC:Nat) (q:eM) (k2A:OA) (k2C:Nat) (az2:List RA) (c2A:OA) (c2C:Nat) (b2A:OA) (b2C:Nat) (sl2A:OA) (sl2C:Nat) (dr2A:OA) (dr2C:Nat) (ha2:List cU) (he2A:OA) (he2C:Nat) (hin:lf r az ha) (hin2:lf q az2 ha2) (hsm: ¬ kX r) (hsm2: ¬ kX q):
 dF Tryz.prog 35 [(vA (fF.cells (xH r kA kC cA cC bA bC slA slC drA drC heA heC))),(vA (fF.cells (fF.mk (cu.mk (bR.mk (bK.mk k2A q.ar.aO.length k2C)) q.ar.ib (bK.mk c2A q.ar.aj.length c2C) (bK.mk b2A q.ar.ab.length b2C) q.ar.b_ q.ar.e9 q.ar.dp) (bK.mk sl2A q.bg.length sl2C) (bK.mk dr2A q.cm.length dr2C) q.kY (bK.mk he2A q.aB.length he2C))))] [(rd kA r.ar.aO.length 9 (r.ar.aO.map aq.cells)),(rd cA r.ar.aj.length 2 (List.zipWith av.cells r.ar.aj az)),(dL (bk av.fu r.ar.aj az)),(rd bA r.ar.ab.length 4 (r.ar.ab.map bL.cells)),(rd slA r.bg.length 1 (r.bg.map iC)),(rd drA r.cm.length 1 (r.cm.map iC)),(rd heA r.aB.length 1 (List.zipWith cz r.aB ha)),(dL (bk eO r.aB ha)),(rd k2A q.ar.aO.length 9 (q.ar.aO.map aq.cells)),(rd c2A q.ar.aj.length 2 (List.zipWith av.cells q.ar.aj az2)),(dL (bk av.fu q.ar.aj az2)),(rd b2A q.ar.ab.length 4 (q.ar.ab.map bL.cells)),(rd sl2A q.bg.length 1 (q.bg.map iC)),(rd dr2A q.cm.length 1 (q.cm.map iC)),(rd he2A q.aB.length 1 (List.zipWith cz q.aB ha2)),(dL (bk eO q.aB ha2))] (vB (decide (r=q))):=by
 have W:=hin.line
 have Do:=hin.gQ
 have EQ:=hin.has
 have DW:=hin.gX
 have C0:=hin.draw
 have Di:=jE (r:=r)
 have hline2:=hin2.line
 have C2:=hin2.gQ
 have DE:=hin2.has
 have Cx:=hin2.gX
 have B9:=hin2.draw
 have AO:=vZ hsm
 have A0:=vZ hsm2
 refine bE kr Tryz.func35 U U fun w0 Q hQ hN=>?_
 try dsimp only
 refine WS fun _ A5=>ed U fun b2=>ed U fun b3=>bx 1 U<|RK A5<|ak fun _ A6=>WS fun _ P=>bx 1 U<|rS (LP (cu.cells (jr r.ar kA kC cA cC bA bC)) 1 U bX U U U)<|bx 1 U<|rS (LP (cu.cells (cu.mk (bR.mk (bK.mk k2A q.ar.aO.length k2C)) q.ar.ib (bK.mk c2A q.ar.aj.length c2C) (bK.mk b2A q.ar.ab.length b2C) q.ar.b_ q.ar.e9 q.ar.dp)) 0 U bX U U U)<|rS (CL (LG r.ar kA kC az cA cC bA bC q.ar k2A k2C az2 c2A c2C b2A b2C (by exact W) (by exact hline2) (by exact AO.1) (by exact A0.1)) (br [2,3,4,5,10,11,12,13]) U)<|rP 2 [] mn ?_
 refine bP (t:=13) U (aW fun D=>?_) (aV fun D=>?_)
 ·refine bx 31 U<|RK P<|aI U<|WS fun _ A7=>rP 1 [] mn ?_
  refine RK A7<|ao<|Q1 hQ U U U ?_
  first|exact cB (aY (fun e=>by cases e; first|exact D rfl|exact E rfl|exact F rfl|exact G rfl|exact M rfl)).symm|exact cB (cJ (lg D E F G (cH I C I))).symm|exact cB (aY (fun z=>by cases z; rw [H] at A; cases A; first|omega|(rw [hd] at B; cases B; exact L rfl))).symm
 refine rP 4 [0,1] (mc 1 U (mc 0 U mn)) ?_
 refine rS (CL (qN r.bg slA slC q.bg sl2A sl2C sd sd) (br [6,14]) U) ?_
 refine rP 3 [] mn ?_
 refine bP (t:=21) U (aW fun E=>?_) (aV fun E=>?_)
 ·refine bx 23 U<|RK P<|aI U<|WS fun _ A8=>rP 1 [] mn ?_
  refine RK A8<|ao<|Q1 hQ U U U ?_
  first|exact cB (aY (fun e=>by cases e; first|exact D rfl|exact E rfl|exact F rfl|exact G rfl|exact M rfl)).symm|exact cB (cJ (lg D E F G (cH I C I))).symm|exact cB (aY (fun z=>by cases z; rw [H] at A; cases A; first|omega|(rw [hd] at B; cases B; exact L rfl))).symm
 refine rP 4 [0,1] (mc 1 U (mc 0 U mn)) ?_
 refine rS (CL (qN r.cm drA drC q.cm dr2A dr2C sd sd) (br [7,15]) U) ?_
 refine rP 3 [] mn ?_
 refine bP (t:=29) U (aW fun F=>?_) (aV fun F=>?_)
 ·refine bx 15 U<|RK P<|aI U<|WS fun _ A9=>rP 1 [] mn ?_
  refine RK A9<|ao<|Q1 hQ U U U ?_
  first|exact cB (aY (fun e=>by cases e; first|exact D rfl|exact E rfl|exact F rfl|exact G rfl|exact M rfl)).symm|exact cB (cJ (lg D E F G (cH I C I))).symm|exact cB (aY (fun z=>by cases z; rw [H] at A; cases A; first|omega|(rw [hd] at B; cases B; exact L rfl))).symm
 refine rP 7 [0,1] (mc 1 U (mc 0 U mn)) ?_
 refine bP (t:=36) U (aW fun G=>?_) (aV fun G=>?_)
 ·refine bx 8 U<|RK P<|aI U<|WS fun _ Bv=>rP 1 [] mn ?_
  refine RK Bv<|ao<|Q1 hQ U U U ?_
  first|exact cB (aY (fun e=>by cases e; first|exact D rfl|exact E rfl|exact F rfl|exact G rfl|exact M rfl)).symm|exact cB (cJ (lg D E F G (cH I C I))).symm|exact cB (aY (fun z=>by cases z; rw [H] at A; cases A; first|omega|(rw [hd] at B; cases B; exact L rfl))).symm
 refine rP 8 [0,1] (mc 1 U (mc 0 U mn)) ?_
 refine RK P<|cr U (aW fun M=>?_) (aV fun M=>?_)
 ·refine WS fun _ Z=>rP 1 [] mn ?_
  refine RK Z<|ao<|Q1 hQ U U U ?_
  first|exact cB (aY (fun e=>by cases e; first|exact D rfl|exact E rfl|exact F rfl|exact G rfl|exact M rfl)).symm|exact cB (cJ (lg D E F G (cH I C I))).symm|exact cB (aY (fun z=>by cases z; rw [H] at A; cases A; first|omega|(rw [hd] at B; cases B; exact L rfl))).symm
 refine WK A6<|ak fun _ a=>WS fun _ b=>rP 1 [] mn ?_
 refine RK b<|aC ?_
 have J:(0≤r.aB.length)∧(r.aB.take 0=q.aB.take 0):=by exact ⟨Nat.zero_le _,rfl⟩
 refine bQ (ι:={z:Nat // (z≤r.aB.length)∧(r.aB.take z=q.aB.take z)}) [2,3] [0,1,2,3,4,5,6,7,8,9,10,11,12,13,14,15,16,17] U U (fun z=>[(5,(vI (z.1:Int)))]) (fun z=>[]) (fun _=>rfl) (fun _=>rfl) (fun z=>r.aB.length-z.1) ⟨0,J⟩ (bu U) (aN [0,1,2,3,4,5,6,7,8,9,10,11,12,13,14,15,16,17]) ?_
 clear J
 rintro ⟨h,⟨Ck,C⟩⟩ J13 X
 try dsimp only
 refine ak fun _ c=>WS fun _ f=>rP 5 [] (mc 1 U mn) ?_
 refine RK f<|bO U (aS fun A2=>?_) (aT fun A2=>?_)
 ·refine bM<|ag<|ag<|aG<|KK a<|WS fun _ v=>rP 1 [] mn ?_
  refine RK v<|ao<|Q1 hQ U U U ?_
  first|exact cB (aY (fun e=>by cases e; first|exact D rfl|exact E rfl|exact F rfl|exact G rfl|exact M rfl)).symm|exact cB (cJ (lg D E F G (cH I C I))).symm|exact cB (aY (fun z=>by cases z; rw [H] at A; cases A; first|omega|(rw [hd] at B; cases B; exact L rfl))).symm
 refine WK c<|ak fun _ g=>aC<|ak fun _ j=>ak fun _ k=>cW ck 13 kr<|dP 3 [] (mc 1 U mn) ?_
 obtain ⟨ht,H⟩:=aF r.aB h I
 obtain ⟨AB,N⟩:=aF ha h I
 have R:(List.zipWith cz r.aB ha)[h]? =some (cz ht AB):=cZ H N
 refine dS (IA h U (ax 8 U) lZ dc I I)<|dS (h_ h 0 (vS AB.1.1 ht.length AB.1.2) U bX (ax 8 U) R U dc U)<|dP 4 [] (mc 0 U mn) ?_
 obtain ⟨hu,A⟩:=aF q.aB h I
 obtain ⟨K,O⟩:=aF ha2 h I
 have V:(List.zipWith cz q.aB ha2)[h]? =some (cz hu K):=cZ A O
 refine dS (IA h U (ax 16 U) lZ dc I I)<|dS (h_ h 0 (vS K.1.1 hu.length K.1.2) U bX (ax 16 U) V U dc U)<|dP 1 [] mn ?_
 have A1:=hin.fX _ _ _ H N
 have C1:=A1.mq
 have AA:=hin2.fX _ _ _ A O
 have Ci:=AA.mq
 have C3:=AO.2.2.2.2 ht (aP H)
 refine dP 1 [] mn ?_
 refine cw<|RK k<|cr U (aW fun A4=>?_) (aV fun A4=>?_)
 ·refine WS fun _ l=>rP 1 [] mn ?_
  refine RK l<|ao<|Q1 hQ U U U ?_
  first|exact cB (aY (fun e=>by cases e; first|exact D rfl|exact E rfl|exact F rfl|exact G rfl|exact M rfl)).symm|exact cB (cJ (lg D E F G (cH I C I))).symm|exact cB (aY (fun z=>by cases z; rw [H] at A; cases A; first|omega|(rw [hd] at B; cases B; exact L rfl))).symm
 refine WK j<|WS fun _ m=>rP 1 [] mn ?_
 refine RK m<|aC ?_
 have J:(0≤ht.length)∧(ht.take 0=hu.take 0):=by exact ⟨Nat.zero_le _,rfl⟩
 refine bQ (ι:={z:Nat // (z≤ht.length)∧(ht.take z=hu.take z)}) [2,3,5] [0,1,2,3,4,5,6,7,8,9,10,11,12,13,14,15,16,17] U U (fun z=>[(6,(vI (z.1:Int)))]) (fun z=>[]) (fun _=>rfl) (fun _=>rfl) (fun z=>ht.length-z.1) ⟨0,J⟩ (bu U) (aN [0,1,2,3,4,5,6,7,8,9,10,11,12,13,14,15,16,17]) ?_
 clear J
 rintro ⟨i,⟨Cp,S⟩⟩ J22 Y
 try dsimp only
 refine ak fun _ n=>WS fun _ o=>er 4 [] (mc 1 U mn) U<|rS (IA h U (ax 8 U) lZ dc I I)<|rS (h_ h 0 (vS AB.1.1 ht.length AB.1.2) U bX (ax 8 U) R U dc U)<|rP 2 [] mn ?_
 refine RK o<|bO U (aS fun A3=>?_) (aT fun A3=>?_)
 ·refine bM<|ag<|ag<|aG<|aK<|KK g<|au<|rP 3 [] mn ?_
  refine aD ?_
  have x:(vI (((h+1):Nat):Int))=(vI ((h:Int)+1)):=by exact cI I
  refine bj (X ⟨(h+1),⟨I,iG C H A (cH I S I)⟩⟩ _ _ _ U os (dh.cons U<|dh.cons U<|a_ U x<|dh.nil _) (aN [0,1,2,3,4,5,6,7,8,9,10,11,12,13,14,15,16,17]))
 refine WK n<|ak fun _ p=>aC<|ak fun _ s=>cW ck 18 kr<|kv 3 [] (mc 1 U mn) U<|dS (IA h U (ax 8 U) lZ dc I I)<|dS (h_ h 0 (vS AB.1.1 ht.length AB.1.2) U bX (ax 8 U) R U dc U)<|dP 1 [] mn ?_
 obtain ⟨d,hd⟩:=aF ht i I
 obtain ⟨da,y⟩:=aF AB.2 i I
 have B3:(List.zipWith aw.cells ht AB.2)[i]? =some (aw.cells d da):=cZ hd y
 refine dS (IA i U (show hH _ (rd AB.1.1 ht.length 7 (List.zipWith aw.cells ht AB.2)).holds from (cj 9 U (bD H N ct))) qk dc I I)<|dS (jL i 0 (bf.cells (bf.mk d.Out d.cO d.Time (de.mk d.aZ.Start d.aZ.fP (bK.mk da.1 d.aZ.aa.length da.2)))) U bX (show hH _ (rd AB.1.1 ht.length 7 (List.zipWith aw.cells ht AB.2)).holds from (cj 9 U (bD H N ct))) B3 U dc U U)<|kv 3 [] (mc 0 U mn) U<|dS (IA h U (ax 16 U) lZ dc I I)<|dS (h_ h 0 (vS K.1.1 hu.length K.1.2) U bX (ax 16 U) V U dc U)<|dP 1 [] mn ?_
 obtain ⟨e,B⟩:=aF hu i I
 obtain ⟨ea,T⟩:=aF K.2 i I
 have AC:(List.zipWith aw.cells hu K.2)[i]? =some (aw.cells e ea):=cZ B T
 refine dS (IA i U (show hH _ (rd K.1.1 hu.length 7 (List.zipWith aw.cells hu K.2)).holds from (cj 17 U (bD A O ct))) qk dc I I)<|dS (jL i 0 (bf.cells (bf.mk e.Out e.cO e.Time (de.mk e.aZ.Start e.aZ.fP (bK.mk ea.1 e.aZ.aa.length ea.2)))) U bX (show hH _ (rd K.1.1 hu.length 7 (List.zipWith aw.cells hu K.2)).holds from (cj 17 U (bD A O ct))) AC U dc U U)<|dS (CL (Dj d da.1 da.2 e ea.1 ea.2 (by exact A1.sig d (aP hd)) (by exact AA.sig e (aP B))) (aQ (show hH _ (rd da.1 d.aZ.aa.length 2 (d.aZ.aa.map aH.cells)).holds from (cj 9 U (bD H N (dH _ (bD hd y (by simp [aw.fu]))))))<|aQ (show hH _ (rd ea.1 e.aZ.aa.length 2 (e.aZ.aa.map aH.cells)).holds from (cj 17 U (bD A O (dH _ (bD B T (by simp [aw.fu]))))))<|aR) U)<|dP 1 [] mn ?_
 refine cw<|RK s<|bO U (aV fun L=>?_) (aW fun L=>?_)
 ·refine cp<|aK<|KK p<|au<|rP 3 [] mn ?_
  refine aD ?_
  have w:(vI (((i+1):Nat):Int))=(vI ((i:Int)+1)):=by exact cI I
  refine bj (Y ⟨(i+1),⟨I,iG S hd B L⟩⟩ _ _ _ U os (cN 3<|a_ U w<|dh.nil _) (aN [0,1,2,3,4,5,6,7,8,9,10,11,12,13,14,15,16,17]))
 refine WS fun _ u=>rP 1 [] mn ?_
 refine RK u<|ao<|Q1 hQ U U U ?_
 first|exact cB (aY (fun e=>by cases e; first|exact D rfl|exact E rfl|exact F rfl|exact G rfl|exact M rfl)).symm|exact cB (cJ (lg D E F G (cH I C I))).symm|exact cB (aY (fun z=>by cases z; rw [H] at A; cases A; first|omega|(rw [hd] at B; cases B; exact L rfl))).symm
end
section
open Go.RowKit
theorem Nw (j:dk) (kA:OA) (kC:Nat) (az:List RA) (cA:OA) (cC:Nat) (bA:OA) (bC:Nat) (slA:OA) (slC:Nat) (drA:OA) (drC:Nat) (ha:List cU) (heA:OA) (heC:Nat) (faA:OA) (faC:Nat) (prA:OA) (prC:Nat) (P:Nat→Prop) (mA:OA) (mC:Nat) (hin:fY j az ha) (hok:gF j=0):
 qf Tryz.prog 55 [(vA (fW.cells (n7 j kA kC cA cC bA bC slA slC drA drC heA heC faA faC prA prC))),(vS mA ((iM j.ay.length P).length) mC)] [(rd kA j.Race.ar.aO.length 9 (j.Race.ar.aO.map aq.cells)),(rd cA j.Race.ar.aj.length 2 (List.zipWith av.cells j.Race.ar.aj az)),(dL (bk av.fu j.Race.ar.aj az)),(rd bA j.Race.ar.ab.length 4 (j.Race.ar.ab.map bL.cells)),(rd slA j.Race.bg.length 1 (j.Race.bg.map iC)),(rd drA j.Race.cm.length 1 (j.Race.cm.map iC)),(rd heA j.Race.aB.length 1 (List.zipWith cz j.Race.aB ha)),(dL (bk eO j.Race.aB ha)),(rd faA j.ay.length 4 (j.ay.map aX.cells)),(rd prA j.aM.length 5 (j.aM.map bI.cells)),(rd mA ((iM j.ay.length P).length) 1 ((iM j.ay.length P).map kQ))] (fun (x:(List RA)×(OA)×Nat)=>(vS x.2.1 ((eC j (nD j.ay P)).length) x.2.2)) (fun (x:(List RA)×(OA)×Nat)=>x.1.length=(eC j (nD j.ay P)).length) (fun (x:(List RA)×(OA)×Nat)=>[(own x.2.1 x.2.2 29 1 (List.zipWith vv (eC j (nD j.ay P)) x.1)),(bS (bk Ar (eC j (nD j.ay P)) x.1))]):=by
 have A8:=hin.race
 have Fd:=hin.race.line
 have Jb:=hin.race.gQ
 have Ji:=hin.race.has
 have H1:=hin.race.gX
 have GY:=hin.nf
 have Ho:=hin.np
 have A6:=(gH hok).1
 have FP:=(gH hok).2
 have FS:=(fr A6).1
 have R:=(fr A6).2
 have Eq:=(dK FS).2.head
 unfold eT at Eq
 have Go:(eC j (nD j.ay P)).length=j.Race.aB.length:=by unfold eC; rw [List.length_map]
 have Jr:(iM j.ay.length P).length=j.ay.length:=j5
 have J3:=R.num
 have J2:=R.nh
 refine fJ kr Tryz.func55 U U fun w0 Q hQ hN=>?_
 try dsimp only
 refine WS fun _ C1=>ed U fun b2=>bx 1 U<|RK C1<|WS fun _ C2=>bx 1 U<|RK C2<|ak fun _ C3=>WS fun _ DE=>rP 1 [] mn ?_
 refine RK DE<|aC<|fR 29 1<|mP ?_
 have A:(0≤j.Race.aB.length)∧(([]:List RA).length=0):=by exact ⟨Nat.zero_le _,rfl⟩
 refine bQ (ι:={z:Nat×(List RA)×(OA)×Nat // (z.1≤j.Race.aB.length)∧(z.2.1.length=z.1)}) [1,2] [2,3,4,5,6,7,8,9,10,11,12,13] U U (fun z=>[(5,(vS z.1.2.2.1 ((List.take z.1.1 (eC j (nD j.ay P))).length) z.1.2.2.2)),(6,(vI (z.1.1:Int)))]) (fun z=>[(bS (bk Ar (List.take z.1.1 (eC j (nD j.ay P))) z.1.2.1)),(own z.1.2.2.1 z.1.2.2.2 29 1 (List.zipWith vv (List.take z.1.1 (eC j (nD j.ay P))) z.1.2.1))]) (fun _=>rfl) (fun _=>rfl) (fun z=>j.Race.aB.length-z.1.1) ⟨(0,([]:List RA),none,0),A⟩ (bu U) (aN [2,3,4,5,6,7,8,9,10,11,12,13,0,1]) ?_
 clear A
 rintro ⟨⟨h,gz,a,c⟩,⟨M,N⟩⟩ J6 C0
 try dsimp only at M N
 try dsimp only
 refine ak fun _ DW=>WS fun _ Di=>rP 6 [] (mc 0 U mn) ?_
 refine RK Di<|bO U (aS fun h9=>?_) (aT fun h9=>?_)
 ·refine bM<|ag<|ag<|aG<|KK C3<|ak fun _ o=>?_
  have Fn:(List.take h (eC j (nD j.ay P)))=(eC j (nD j.ay P)):=List.take_of_length_le I
  rw [Fn]
  have EQ:gz.length=(eC j (nD j.ay P)).length:=by omega
  refine au<|rP 2 [] mn ?_
  refine RK o<|ao ?_
  refine LX hQ (gz,a,c) [13,12] [] mn U (by show List.all _ _=true; simp only [eH,List.all_nil,pI,Bool.and_true]; rfl) U U ?_
  exact EQ
 refine WK DW<|ak fun _ T=>aC<|ak fun _ AA=>?_
 obtain ⟨ht,D⟩:=aF j.Race.aB h I
 obtain ⟨B,C⟩:=aF ha h I
 have A5:(List.zipWith cz j.Race.aB ha)[h]? =some (cz ht B):=cZ D C
 have A4:=A8.fX _ _ _ D C
 have HY:=A4.mq
 have Hi:=(R.fX ht (aP D)).1
 have J:(eC j (nD j.ay P))[h]? =some (nW (nZ j.Race.ar j.ay P ht) ht.length):=Fq D
 have S:gz.length=(List.take h (eC j (nD j.ay P))).length:=by rw [List.length_take]; omega
 have GE:(List.take (h+1) (eC j (nD j.ay P))).length=h+1:=by rw [List.length_take]; omega
 refine au<|bx 1 U<|RK AA<|ak fun _ V=>WS fun _ W=>rP 1 [] mn ?_
 refine RK W<|aC<|fR 3 1 ?_
 have A:(0≤ht.length):=by exact Nat.zero_le _
 refine bQ (ι:={z:Nat×(OA)×Nat // (z.1≤ht.length)}) [1,2,5,6] [1,2,3,4,5,6,7,8,9,10,11,12,13,14] U U (fun z=>[(7,(vS z.1.2.1 ((nW (nZ j.Race.ar j.ay P ht) z.1.1).length) z.1.2.2)),(8,(vI (z.1.1:Int)))]) (fun z=>[(own z.1.2.1 z.1.2.2 3 1 ((nW (nZ j.Race.ar j.ay P ht) z.1.1).map iC))]) (fun _=>rfl) (fun _=>rfl) (fun z=>ht.length-z.1.1) ⟨(0,none,0),A⟩ (bu U) (aN [1,2,3,4,5,6,7,8,9,10,11,12,13,14,0]) ?_
 clear A
 rintro ⟨⟨q,ua,uc⟩,O⟩ J14 H
 try dsimp only at O
 try dsimp only
 refine ak fun _ X=>WS fun _ Y=>rP 6 [] (mc 0 U mn) ?_
 refine RK Y<|bO U (aS fun Cp=>?_) (aT fun Cp=>?_)
 ·refine bM<|ag<|ag<|aG<|KK V ?_
  obtain rfl:q=ht.length:=by omega
  refine au<|rP 2 [] mn ?_
  refine eP (xs:=[.tmp 65]) (cs:=[(vS ua ((nW (nZ j.Race.ar j.ay P ht) ht.length).length) uc)]) U KF Rp U U U U (by simp [Value.cells]) U U fun IR=>?_
  refine dA (es2:=(List.zipWith vv (List.take (h+1) (eC j (nD j.ay P))) (gz++[(ua,uc)]))) (m':=(List.take (h+1) (eC j (nD j.ay P))).length) 14 rfl rfl rfl Qv rfl rfl (q8 S).symm (bq (es:=List.zipWith vv [(nW (nZ j.Race.ar j.ay P ht) ht.length)] [(ua,uc)]) 0 rfl rfl (by intro e he; simp [vv] at he; subst he; rfl) rfl) (D2 _ _) I (by simp only [maxLen]; omega) (by rw [p6 J]; exact za S.symm) (by exact q8 (by rw [GE]; simp; omega)) rfl fun B9 Ck=>?_
  try dsimp only
  refine bx 1 U<|aD<|aK<|KK T<|au<|rP 3 [] mn ?_
  refine aD ?_
  refine G2 (Y':=bk Ar (List.take (h+1) (eC j (nD j.ay P))) (gz++[(ua,uc)])) 13 15 U U (by rw [p6 J]; exact wD S.symm U) ?_
  have A0:(vI (((h+1):Nat):Int))=(vI ((h:Int)+1)):=by exact cI I
  refine bj (C0 ⟨((h+1),(gz++[(ua,uc)]),B9,Ck),⟨I,by rw [List.length_append]; simp; omega⟩⟩ _ _ _ U os (cN 3<|a_ U A0<|dh.nil _) (aN [2,3,4,5,6,7,8,9,10,11,12,13,0,14]))
 refine WK X<|ak fun _ AB=>aC<|ak fun _ Z=>?_
 obtain ⟨d,hd⟩:=aF ht q I
 obtain ⟨da,A1⟩:=aF B.2 q I
 have Do:(List.zipWith aw.cells ht B.2)[q]? =some (aw.cells d da):=cZ hd A1
 have J4:=A4.sig d (aP hd)
 refine au<|bx 1 U<|RK Z<|ak fun _ b=>WS fun _ g=>rP 1 [] mn ?_
 refine RK g<|aC ?_
 have A:(0≤j.ay.length):=by exact Nat.zero_le _
 have p:(vB (lU j.Race.ar j.ay P d 0))=(vB false):=by exact cB CD
 refine bQ (ι:={z:Nat // (z≤j.ay.length)}) [1,2,5,6,7,8] [0,1,2,3,4,5,6,7,8,9,10,11,12,13,14] U U (fun z=>[(9,(vB (lU j.Race.ar j.ay P d z.1))),(10,(vI (z.1:Int)))]) (fun z=>[]) (fun _=>rfl) (fun _=>rfl) (fun z=>j.ay.length-z.1) ⟨0,A⟩ (a_ U p<|bu U) (aN [0,1,2,3,4,5,6,7,8,9,10,11,12,13,14]) ?_
 clear A
 rintro ⟨k,Bv⟩ J23 E
 try dsimp only
 refine ak fun _ i=>WS fun _ l=>rP 4 [] mn ?_
 refine RK l<|bO U (aS fun Cx=>?_) (aT fun Cx=>?_)
 ·refine bM<|ag<|ag<|aG<|KK b<|ak fun _ m=>?_
  have A7:k=j.ay.length:=by omega
  refine au<|rP 1 [] mn ?_
  refine RK m<|bO U (fun L=>?_) (fun L=>?_)
  ·refine cp<|aK<|KK AB<|au<|rP 3 [] mn ?_
   refine aD ?_
   rw [show (nW (nZ j.Race.ar j.ay P ht) q)=(nW (nZ j.Race.ar j.ay P ht) (q+1)) from (HV (by rw [Ai hd,← yn (Nat.le_of_eq A7.symm)]; simpa using L)).symm]
   have AO:(vI (((q+1):Nat):Int))=(vI ((q:Int)+1)):=by exact cI I
   refine bj (H ⟨((q+1),ua,uc),(by first|omega|(simp only []; omega))⟩ _ _ _ U os (cN 5<|a_ U AO<|dh.nil _) (aN [0,1,2,3,4,5,6,7,8,9,10,11,12,13,14]))
  refine au<|rP 2 [] mn ?_
  refine eP (xs:=[.tmp 61]) (cs:=[(vI (q:Int))]) U dJ kJ U U U U (by simp [Value.cells]) U U fun IO=>?_
  refine dA (es2:=(List.map iC (nW (nZ j.Race.ar j.ay P ht) (q+1)))) (m':=(nW (nZ j.Race.ar j.ay P ht) (q+1)).length) 15 U U U qz U U sm (bq (es:=List.map iC [(q:Int)]) 0 U U (by simp [bU]) U) (kG _) (by have:=sM (P:=(nZ j.Race.ar j.ay P ht)) (n:=q); omega) (by have:=sM (P:=(nZ j.Race.ar j.ay P ht)) (n:=q); simp only [maxLen]; omega) (by rw [CW (by rw [Ai hd,← yn (Nat.le_of_eq A7.symm)]; exact L)]; simp) sm U fun B3 Ci=>?_
  try dsimp only
  refine bx 1 U<|aD<|aK<|KK AB<|au<|rP 3 [] mn ?_
  refine aD ?_
  have AC:(vI (((q+1):Nat):Int))=(vI ((q:Int)+1)):=by exact cI I
  refine bj (H ⟨((q+1),B3,Ci),(by first|omega|(simp only []; omega))⟩ _ _ _ U os (cN 5<|a_ U AC<|dh.nil _) (aN [1,2,3,4,5,6,7,8,9,10,11,12,13,14,15]))
 refine WK i<|ak fun _ F=>aC ?_
 obtain ⟨f,hf⟩: ∃ f,j.ay[k]? =some f:=⟨j.ay[k]'I,eX _⟩
 have A2:=bJ aX.cells hf
 have A3:=FP.fault f (aP hf)
 have In:0≤f.gW∧f.gW≤1000000:=by have h2:=A3.2.2; split at h2<;>omega
 refine cW ck 27 kr<|dP 2 [] mn ?_
 refine g9 (t:=34) U (fun G=>?_) (fun G=>?_)
 ·refine kx 4 U<|kx 21 U<|cw<|aD<|aK<|KK F<|au<|rP 3 [] mn ?_
  refine aD ?_
  have r:(vB (lU j.Race.ar j.ay P d (k+1)))=(vB true):=by exact cB (by exact (RV hf G).symm)
  have s:(vI (((k+1):Nat):Int))=(vI ((k:Int)+1)):=by exact cI I
  refine bj (E ⟨(k+1),(by first|omega|(simp only []; omega))⟩ _ _ _ U os (cN 6<|a_ U r<|a_ U s<|dh.nil _) (aN [0,1,2,3,4,5,6,7,8,9,10,11,12,13,14]))
 refine dP 2 [] mn ?_
 obtain ⟨x,hx⟩:=aF (iM j.ay.length P) k I
 have GT:=bJ kQ hx
 refine dS (IA k U (ax 11 U) Et dc I I)<|dS (h_ k 0 (vB x) U bX (ax 11 U) GT U dc U) ?_
 have A9:=(CC hx).2
 refine dP 1 [] mn ?_
 refine g0 (t:=39) U (fun K=>?_) (fun K=>?_)
 ·refine kx 20 U<|cw<|aD<|aK<|KK F<|au<|rP 3 [] mn ?_
  refine aD ?_
  have w:(vB (lU j.Race.ar j.ay P d (k+1)))=(vB false):=by exact cB (by exact (Ts hf (by simpa using G) A9 (by simpa using K)).symm)
  have y:(vI (((k+1):Nat):Int))=(vI ((k:Int)+1)):=by exact cI I
  refine bj (E ⟨(k+1),(by first|omega|(simp only []; omega))⟩ _ _ _ U os (cN 6<|a_ U w<|a_ U y<|dh.nil _) (aN [0,1,2,3,4,5,6,7,8,9,10,11,12,13,14]))
 refine kv 4 [] (mc 0 U mn) U<|dS (IA k U (ax 9 U) xB dc I I)<|dS (jL k 0 (aX.cells f) U bX (ax 9 U) A2 U dc U U)<|kv 4 [] (mc 0 U mn) U<|dS (IA h U (ax 7 U) lZ dc I I)<|dS (h_ h 0 (vS B.1.1 ht.length B.1.2) U bX (ax 7 U) A5 U dc U)<|kx 1 U<|dS (IA q U (show hH _ (rd B.1.1 ht.length 7 (List.zipWith aw.cells ht B.2)).holds from (cj 8 U (bD D C ct))) qk dc I I)<|dS (jL q 0 (bf.cells (bf.mk d.Out d.cO d.Time (de.mk d.aZ.Start d.aZ.fP (bK.mk da.1 d.aZ.aa.length da.2)))) U bX (show hH _ (rd B.1.1 ht.length 7 (List.zipWith aw.cells ht B.2)).holds from (cj 8 U (bD D C ct))) Do U dc U U)<|dS (CL (BP j kA kC az cA cC bA bC slA slC drA drC ha heA heC faA faC prA prC f d da.1 da.2 hin (by exact A3.1) asm asm) (lW [1,2,3,4,5,6,7,8,9,10]<|aQ (show hH _ (rd da.1 d.aZ.aa.length 2 (d.aZ.aa.map aH.cells)).holds from (cj 8 U (bD D C (dH _ (bD hd A1 (by simp [aw.fu]))))))<|aR) U)<|dS (BI U II)<|kx 3 U<|cw<|aD<|aK<|KK F<|au<|rP 3 [] mn ?_
 refine aD ?_
 have u:(vB (lU j.Race.ar j.ay P d (k+1)))=(vB (decide (0<(gO j.Race.ar f d)))):=by exact cB (by exact (SQ hf (by simpa using G) A9 K).symm)
 have v:(vI (((k+1):Nat):Int))=(vI ((k:Int)+1)):=by exact cI I
 refine bj (E ⟨(k+1),(by first|omega|(simp only []; omega))⟩ _ _ _ U os (cN 6<|a_ U u<|a_ U v<|dh.nil _) (aN [0,1,2,3,4,5,6,7,8,9,10,11,12,13,14]))
end
section
open Go.RowKit
theorem NA (j:dk) (kA:OA) (kC:Nat) (az:List RA) (cA:OA) (cC:Nat) (bA:OA) (bC:Nat) (slA:OA) (slC:Nat) (drA:OA) (drC:Nat) (ha:List cU) (heA:OA) (heC:Nat) (faA:OA) (faC:Nat) (prA:OA) (prC:Nat) (kq:Int) (hin:fY j az ha):
 qf Tryz.prog 13 [(vA (fW.cells (n7 j kA kC cA cC bA bC slA slC drA drC heA heC faA faC prA prC))),(vI kq)] [(rd kA j.Race.ar.aO.length 9 (j.Race.ar.aO.map aq.cells)),(rd cA j.Race.ar.aj.length 2 (List.zipWith av.cells j.Race.ar.aj az)),(dL (bk av.fu j.Race.ar.aj az)),(rd bA j.Race.ar.ab.length 4 (j.Race.ar.ab.map bL.cells)),(rd slA j.Race.bg.length 1 (j.Race.bg.map iC)),(rd drA j.Race.cm.length 1 (j.Race.cm.map iC)),(rd heA j.Race.aB.length 1 (List.zipWith cz j.Race.aB ha)),(dL (bk eO j.Race.aB ha)),(rd faA j.ay.length 4 (j.ay.map aX.cells)),(rd prA j.aM.length 5 (j.aM.map bI.cells))] (fun (x:(List RA)×(OA)×Nat)=>(vT [(vS x.2.1 ((jA j kq).length) x.2.2),(vI (zQ j kq))])) (fun (x:(List RA)×(OA)×Nat)=>x.1.length=(jA j kq).length) (fun (x:(List RA)×(OA)×Nat)=>[(own x.2.1 x.2.2 29 1 (List.zipWith vv (jA j kq) x.1)),(bS (bk Ar (jA j kq) x.1))]):=by
 have g:=hin.race
 have Y:=hin.race.line
 have m:=hin.race.gQ
 have p:=hin.race.has
 have h:=hin.race.gX
 have c:=hin.nf
 have d:=hin.np
 refine fJ kr Tryz.func13 U U fun t Q hQ hN=>?_
 try dsimp only
 refine WS fun _ O=>ed U fun s=>bx 2 U<|RK O<|ak fun _ P=>WS fun _ R=>er 1 [] (mc 0 U mn) U<|rS (CL (ox j kA kC az cA cC bA bC slA slC drA drC ha heA heC faA faC prA prC hin) (br [1,2,3,4,5,6,7,8,9,10]) U)<|bx 1 U<|RK R<|WS fun _ S=>rP 2 [] mn ?_
 refine RK S<|cr U (aW fun A=>?_) (aV fun A=>?_)
 ·refine WS fun _ T=>rP 1 [] mn ?_
  have B:(jA j kq)=[]:=(by exact (wm A).1)
  have D:([]:List RA).length=(jA j kq).length:=by rw [B]; rfl
  refine jQ 29 1<|sv ?_
  rw [show (own none 0 29 1 ([]:List (List Value)))=own none 0 29 1 (List.zipWith vv (jA j kq) []) from by rw [B]; rfl,show bS []=bS (bk Ar (jA j kq) []) from by rw [B]; rfl]
  refine rP 2 [] mn ?_
  refine RK T<|ao ?_
  refine LX hQ ([],none,0) [1,0] [] mn U (by show List.all _ _=true; simp only [eH,List.all_nil,pI,Bool.and_true]; rfl) U ?_ ?_
  ·(have e:=wm (k:=kq) A; rw [e.1,e.2]; rfl)
  ·exact D
 refine WK P<|ak fun _ AA=>WS fun _ V=>er 5 [] (mc 0 U mn) U<|rS (CL (gG kq 0 ((j.ay.length:Int)-1)) (aR) U)<|rP 1 [] mn ?_
 refine RK V<|cr U (aW fun N=>?_) (aV fun N=>?_)
 ·refine WS fun _ W=>?_
  have B:(jA j kq)=[]:=(by exact (v7 A I).1)
  have D:([]:List RA).length=(jA j kq).length:=by rw [B]; rfl
  refine jQ 29 1<|sv ?_
  rw [show (own none 0 29 1 ([]:List (List Value)))=own none 0 29 1 (List.zipWith vv (jA j kq) []) from by rw [B]; rfl,show bS []=bS (bk Ar (jA j kq) []) from by rw [B]; rfl]
  refine rP 2 [] mn ?_
  refine RK W<|ao ?_
  refine LX hQ ([],none,0) [1,0] [] mn U (by show List.all _ _=true; simp only [eH,List.all_nil,pI,Bool.and_true]; rfl) U ?_ ?_
  ·(have e:=v7 (k:=kq) A I; rw [e.1,e.2]; rfl)
  ·exact D
 refine WK AA<|ak fun _ F=>?_
 obtain ⟨k,X⟩: ∃ k:Nat,kq=(k:Int):=⟨kq.toNat,I⟩
 subst X
 obtain ⟨f,hf⟩: ∃ f,j.ay[k]? =some f:=⟨j.ay[k]'I,eX _⟩
 have q:(iM j.ay.length fun _=>False).length=j.ay.length:=j5
 refine au<|rP 3 [] (mc 0 U mn) ?_
 refine s8 (n:=j.ay.length) (es:=(List.map kQ (List.replicate j.ay.length false))) U U U Mu I I (by simp only [maxLen]; omega) (by rw [List.map_replicate]; rfl) U fun C=>?_
 try dsimp only
 refine rP 1 [] mn ?_
 refine RK F<|ak fun _ G=>?_
 rw [show (own (some ⟨C,0,none⟩) j.ay.length 4 1 (List.map kQ (List.replicate j.ay.length false)))=(own (some ⟨C,0,none⟩) j.ay.length 4 1 ((iM j.ay.length (fun _=>False)).map kQ)) from by rw [A_]]
 refine au<|rP 2 [] mn ?_
 obtain ⟨r,J⟩:=aF (iM j.ay.length (fun _=>False)) k I
 have hx14m:=bJ kQ J
 refine rS (IA k U (aL (n:=j.ay.length) 0 U sq) Et dc I I) ?_
 have AB:((iM j.ay.length (fun _=>False)).set k true)=(iM j.ay.length (fun i=>i=k)):=by exact Dv I sm (fun i hi=>by simp [hi])
 refine gp (k:=k) (o:=0) (vs:=[(vB true)]) (es':=(List.map kQ (iM j.ay.length (fun i=>i=k)))) (C':=[(own (some ⟨C,0,none⟩) j.ay.length 4 1 (List.map kQ (iM j.ay.length (fun i=>i=k)))),_,_,_,_,_,_,_,_,_,_,_]) 0 U U U Ue U U U U hx14m U dc (by exact (List.map_set (f:=kQ) (l:=(iM j.ay.length (fun _=>False))) (i:=k) (a:=true)).symm.trans (congrArg _ AB)) U<|RK G<|ak fun _ H=>?_
 rw [show Value.slice (some ⟨C,0,none⟩) j.ay.length j.ay.length=Value.slice (some ⟨C,0,none⟩) (iM j.ay.length (fun i=>i=k)).length j.ay.length from by rw [j5]]
 refine au<|rP 2 [] (mc 1 U mn) ?_
 refine cX (Nw j kA kC az cA cC bA bC slA slC drA drC ha heA heC faA faC prA prC (fun i=>i=k) (some ⟨C,0,none⟩) j.ay.length hin (by exact A)) (lW [2,3,4,5,6,7,8,9,10,11]<|aQ (aL (n:=(iM j.ay.length (fun i=>i=k)).length) 0 U sm)<|aR) U fun b K=>?_
 obtain ⟨E,L,M⟩:=b
 try dsimp only
 have D:=K
 have Z:(eC j (nD j.ay (fun i=>i=k)))=(jA j (k:Int)):=by exact JH A hf
 rw [Z] at D ⊢
 refine rP 2 [] mn ?_
 refine RK H<|ao ?_
 refine LX hQ (E,L,M) [0,1] [] mn U (by show List.all _ _=true; simp only [eH,List.all_nil,pI,Bool.and_true]; rfl) U ?_ ?_
 ·(rw [show zQ j (k:Int)=0 from by unfold zQ; rw [if_pos A,if_pos I]]; rfl)
 ·exact D
theorem Kg (j:dk) (kA:OA) (kC:Nat) (az:List RA) (cA:OA) (cC:Nat) (bA:OA) (bC:Nat) (slA:OA) (slC:Nat) (drA:OA) (drC:Nat) (ha:List cU) (heA:OA) (heC:Nat) (faA:OA) (faC:Nat) (prA:OA) (prC:Nat) (q:dk) (k2A:OA) (k2C:Nat) (az2:List RA) (c2A:OA) (c2C:Nat) (b2A:OA) (b2C:Nat) (sl2A:OA) (sl2C:Nat) (dr2A:OA) (dr2C:Nat) (ha2:List cU) (he2A:OA) (he2C:Nat) (fa2A:OA) (fa2C:Nat) (pr2A:OA) (pr2C:Nat) (hin:fY j az ha) (hin2:fY q az2 ha2) (hsm: ¬ nA j) (hsm2: ¬ nA q):
 dF Tryz.prog 19 [(vA (fW.cells (n7 j kA kC cA cC bA bC slA slC drA drC heA heC faA faC prA prC))),(vA (fW.cells (fW.mk (fF.mk (cu.mk (bR.mk (bK.mk k2A q.Race.ar.aO.length k2C)) q.Race.ar.ib (bK.mk c2A q.Race.ar.aj.length c2C) (bK.mk b2A q.Race.ar.ab.length b2C) q.Race.ar.b_ q.Race.ar.e9 q.Race.ar.dp) (bK.mk sl2A q.Race.bg.length sl2C) (bK.mk dr2A q.Race.cm.length dr2C) q.Race.kY (bK.mk he2A q.Race.aB.length he2C)) (bK.mk fa2A q.ay.length fa2C) (bK.mk pr2A q.aM.length pr2C) q.fQ q.z8)))] [(rd kA j.Race.ar.aO.length 9 (j.Race.ar.aO.map aq.cells)),(rd cA j.Race.ar.aj.length 2 (List.zipWith av.cells j.Race.ar.aj az)),(dL (bk av.fu j.Race.ar.aj az)),(rd bA j.Race.ar.ab.length 4 (j.Race.ar.ab.map bL.cells)),(rd slA j.Race.bg.length 1 (j.Race.bg.map iC)),(rd drA j.Race.cm.length 1 (j.Race.cm.map iC)),(rd heA j.Race.aB.length 1 (List.zipWith cz j.Race.aB ha)),(dL (bk eO j.Race.aB ha)),(rd faA j.ay.length 4 (j.ay.map aX.cells)),(rd prA j.aM.length 5 (j.aM.map bI.cells)),(rd k2A q.Race.ar.aO.length 9 (q.Race.ar.aO.map aq.cells)),(rd c2A q.Race.ar.aj.length 2 (List.zipWith av.cells q.Race.ar.aj az2)),(dL (bk av.fu q.Race.ar.aj az2)),(rd b2A q.Race.ar.ab.length 4 (q.Race.ar.ab.map bL.cells)),(rd sl2A q.Race.bg.length 1 (q.Race.bg.map iC)),(rd dr2A q.Race.cm.length 1 (q.Race.cm.map iC)),(rd he2A q.Race.aB.length 1 (List.zipWith cz q.Race.aB ha2)),(dL (bk eO q.Race.aB ha2)),(rd fa2A q.ay.length 4 (q.ay.map aX.cells)),(rd pr2A q.aM.length 5 (q.aM.map bI.cells))] (vB (decide (j=q))):=by
 have m:=hin.race
 have A4:=hin.race.line
 have B3:=hin.race.gQ
 have B9:=hin.race.has
 have Bv:=hin.race.gX
 have A8:=hin.nf
 have A9:=hin.np
 have A0:=v9 hsm
 have A1:=v9 hsm2
 have J:=hin2.race
 refine bE kr Tryz.func19 U U fun w0 Q hQ hN=>?_
 try dsimp only
 refine WS fun _ r=>ed U fun b2=>ed U fun b3=>bx 1 U<|RK r<|ak fun _ s=>WS fun _ B=>bx 1 U<|rS (LP (fF.cells (xH j.Race kA kC cA cC bA bC slA slC drA drC heA heC)) 1 U bX U U U)<|bx 1 U<|rS (LP (fF.cells (fF.mk (cu.mk (bR.mk (bK.mk k2A q.Race.ar.aO.length k2C)) q.Race.ar.ib (bK.mk c2A q.Race.ar.aj.length c2C) (bK.mk b2A q.Race.ar.ab.length b2C) q.Race.ar.b_ q.Race.ar.e9 q.Race.ar.dp) (bK.mk sl2A q.Race.bg.length sl2C) (bK.mk dr2A q.Race.cm.length dr2C) q.Race.kY (bK.mk he2A q.Race.aB.length he2C))) 0 U bX U U U)<|rS (CL (C_ j.Race kA kC az cA cC bA bC slA slC drA drC ha heA heC q.Race k2A k2C az2 c2A c2C b2A b2C sl2A sl2C dr2A dr2C ha2 he2A he2C (by exact m) (by exact J) (by exact A0.1) (by exact A1.1)) (br [2,3,4,5,6,7,8,9,12,13,14,15,16,17,18,19]) U)<|rP 2 [] mn ?_
 refine bP (t:=13) U (aW fun E=>?_) (aV fun E=>?_)
 ·refine bx 31 U<|RK B<|aI U<|WS fun _ w=>rP 1 [] mn ?_
  refine RK w<|ao<|Q1 hQ U U U ?_
  exact cB (aY (fun e=>by subst e; exact E rfl)).symm
 refine rP 7 [0,1] (mc 1 U (mc 0 U mn)) ?_
 refine bP (t:=20) U (aW fun F=>?_) (aV fun F=>?_)
 ·refine bx 24 U<|RK B<|aI U<|WS fun _ x=>rP 1 [] mn ?_
  refine RK x<|ao<|Q1 hQ U U U ?_
  exact cB (aY (fun e=>by subst e; exact F rfl)).symm
 refine rP 7 [0,1] (mc 1 U (mc 0 U mn)) ?_
 refine bP (t:=27) U (aW fun G=>?_) (aV fun G=>?_)
 ·refine bx 17 U<|RK B<|aI U<|WS fun _ y=>rP 1 [] mn ?_
  refine RK y<|ao<|Q1 hQ U U U ?_
  exact cB (aY (fun e=>by subst e; exact G rfl)).symm
 refine rP 9 [0,1] (mc 1 U (mc 0 U mn)) ?_
 refine bP (t:=36) U (aW fun K=>?_) (aV fun K=>?_)
 ·refine bx 8 U<|RK B<|aI U<|WS fun _ AC=>rP 1 [] mn ?_
  refine RK AC<|ao<|Q1 hQ U U U ?_
  exact cB (aY (fun e=>by subst e; exact K rfl)).symm
 refine rP 8 [0,1] (mc 1 U (mc 0 U mn)) ?_
 refine RK B<|cr U (aW fun L=>?_) (aV fun L=>?_)
 ·refine WS fun _ O=>rP 1 [] mn ?_
  refine RK O<|ao<|Q1 hQ U U U ?_
  exact cB (aY (fun e=>by subst e; exact L rfl)).symm
 refine WK s<|ak fun _ P=>WS fun _ R=>rP 1 [] mn ?_
 refine RK R<|aC ?_
 have A:(0≤j.ay.length)∧(j.ay.take 0=q.ay.take 0):=by exact ⟨Nat.zero_le _,rfl⟩
 refine bQ (ι:={z:Nat // (z≤j.ay.length)∧(j.ay.take z=q.ay.take z)}) [2,3] [0,1,2,3,4,5,6,7,8,9,10,11,12,13,14,15,16,17,18,19,20,21] U U (fun z=>[(5,(vI (z.1:Int)))]) (fun z=>[]) (fun _=>rfl) (fun _=>rfl) (fun z=>j.ay.length-z.1) ⟨0,A⟩ (bu U) (aN [0,1,2,3,4,5,6,7,8,9,10,11,12,13,14,15,16,17,18,19,20,21]) ?_
 clear A
 rintro ⟨k,⟨A2,C⟩⟩ J13 M
 try dsimp only
 refine ak fun _ S=>WS fun _ T=>rP 5 [] (mc 1 U mn) ?_
 refine RK T<|cr U (aT fun n=>?_) (aS fun n=>?_)
 ·refine WK S<|ak fun _ AA=>aC<|ak fun _ V=>cW ck 11 kr<|dP 3 [] (mc 1 U mn) ?_
  obtain ⟨f,hf⟩:=aF j.ay k I
  have AO:=bJ aX.cells hf
  refine dS (IA k U (ax 10 U) xB dc I I)<|dS (jL k 0 (aX.cells f) U bX (ax 10 U) AO U dc U U)<|dP 3 [] (mc 0 U mn) ?_
  obtain ⟨u,hu⟩:=aF q.ay k I
  have A6:=bJ aX.cells hu
  refine dS (IA k U (ax 20 U) xB dc I I)<|dS (jL k 0 (aX.cells u) U bX (ax 20 U) A6 U dc U U)<|dS (BI U (O_ _ _ f u))<|cw<|RK V<|bO U (aV fun H=>?_) (aW fun H=>?_)
  ·refine cp<|aK<|KK AA<|au<|rP 3 [] mn ?_
   refine aD ?_
   have h:(vI (((k+1):Nat):Int))=(vI ((k:Int)+1)):=by exact cI I
   refine bj (M ⟨(k+1),⟨I,iG C hf hu H⟩⟩ _ _ _ U os (dh.cons U<|dh.cons U<|a_ U h<|dh.nil _) (aN [0,1,2,3,4,5,6,7,8,9,10,11,12,13,14,15,16,17,18,19,20,21]))
  refine WS fun _ W=>rP 1 [] mn ?_
  refine RK W<|ao<|Q1 hQ U U U ?_
  exact cB (aY (fun e=>by subst e; (rw [hf] at hu; cases hu; exact H rfl))).symm
 refine bM<|ag<|ag<|aG<|KK P<|ak fun _ X=>WS fun _ Y=>rP 1 [] mn ?_
 refine RK Y<|aC ?_
 have A:(0≤j.aM.length)∧(j.aM.take 0=q.aM.take 0):=by exact ⟨Nat.zero_le _,rfl⟩
 refine bQ (ι:={z:Nat // (z≤j.aM.length)∧(j.aM.take z=q.aM.take z)}) [2,3] [0,1,2,3,4,5,6,7,8,9,10,11,12,13,14,15,16,17,18,19,20,21] U U (fun z=>[(6,(vI (z.1:Int)))]) (fun z=>[]) (fun _=>rfl) (fun _=>rfl) (fun z=>j.aM.length-z.1) ⟨0,A⟩ (bu U) (aN [0,1,2,3,4,5,6,7,8,9,10,11,12,13,14,15,16,17,18,19,20,21]) ?_
 clear A
 rintro ⟨i,⟨A3,D⟩⟩ J23 N
 try dsimp only
 refine ak fun _ Z=>WS fun _ a=>rP 5 [] (mc 1 U mn) ?_
 refine RK a<|bO U (aS fun o=>?_) (aT fun o=>?_)
 ·refine bM<|ag<|ag<|aG<|KK X<|WS fun _ g=>rP 1 [] mn ?_
  refine RK g<|ao<|Q1 hQ U U U ?_
  exact cB (cJ (GD E F G (cH I C I) (cH I D I))).symm
 refine WK Z<|ak fun _ b=>aC<|ak fun _ c=>cW ck 11 kr<|dP 3 [] (mc 1 U mn) ?_
 obtain ⟨p,hp⟩:=aF j.aM i I
 have A5:=bJ bI.cells hp
 refine dS (IA i U (ax 11 U) BJ dc I I)<|dS (jL i 0 (bI.cells p) U bX (ax 11 U) A5 U dc U U)<|dP 3 [] (mc 0 U mn) ?_
 obtain ⟨v,hv⟩:=aF q.aM i I
 have A7:=bJ bI.cells hv
 refine dS (IA i U (ax 21 U) BJ dc I I)<|dS (jL i 0 (bI.cells v) U bX (ax 21 U) A7 U dc U U)<|dS (BI U (Qd _ _ p v))<|cw<|RK c<|bO U (aV fun AB=>?_) (aW fun AB=>?_)
 ·refine cp<|aK<|KK b<|au<|rP 3 [] mn ?_
  refine aD ?_
  have l:(vI (((i+1):Nat):Int))=(vI ((i:Int)+1)):=by exact cI I
  refine bj (N ⟨(i+1),⟨I,iG D hp hv AB⟩⟩ _ _ _ U os (dh.cons U<|dh.cons U<|a_ U l<|dh.nil _) (aN [0,1,2,3,4,5,6,7,8,9,10,11,12,13,14,15,16,17,18,19,20,21]))
 refine WS fun _ d=>rP 1 [] mn ?_
 refine RK d<|ao<|Q1 hQ U U U ?_
 exact cB (aY (fun e=>by subst e; (rw [hp] at hv; cases hv; exact AB rfl))).symm
end
section
open Go.RowKit
theorem zx (G:List (List Int)) (H:List (List Int)) (gz:List RA) (gA:OA) (gC:Nat) (hz:List RA) (hA:OA) (hC:Nat) (h1:G.length≤1000000) (h2:H.length≤1000000) (h3: ∀ l∈G,l.length≤1000000) (h4: ∀ l∈H,l.length≤1000000) (hgz:gz.length=G.length) (hhz:hz.length=H.length):
 dF Tryz.prog 18 [(vS gA G.length gC),(vS hA H.length hC)] [(rd gA G.length 1 (List.zipWith vv G gz)),(dL (bk OY G gz)),(rd hA H.length 1 (List.zipWith vv H hz)),(dL (bk OY H hz))] (vB (decide (G=H))):=by
 refine bE kr Tryz.func18 U U fun Z Q hQ hN=>?_
 try dsimp only
 refine WS fun _ N=>bx 1 U<|RK N<|ak fun _ O=>WS fun _ P=>rP 5 [] mn ?_
 refine RK P<|cr U (aW fun hl=>?_) (aV fun hl=>?_)
 ·refine WS fun _ R=>rP 1 [] mn ?_
  refine RK R<|ao<|Q1 hQ U U U ?_
  exact cB (aY (fun e=>by subst e; omega)).symm
 refine WK O<|ak fun _ S=>WS fun _ T=>rP 1 [] mn ?_
 refine RK T<|aC ?_
 have A:(0≤G.length)∧(G.take 0=H.take 0):=by exact ⟨Nat.zero_le _,rfl⟩
 refine bQ (ι:={z:Nat // (z≤G.length)∧(G.take z=H.take z)}) [0,1] [0,1,2,3] U U (fun z=>[(5,(vI (z.1:Int)))]) (fun z=>[]) (fun _=>rfl) (fun _=>rfl) (fun z=>G.length-z.1) ⟨0,A⟩ (bu U) (aN [0,1,2,3]) ?_
 clear A
 rintro ⟨i,⟨W,B⟩⟩ J7 M
 try dsimp only
 refine ak fun _ AA=>WS fun _ V=>rP 4 [] mn ?_
 refine RK V<|bO U (aS fun L=>?_) (aT fun L=>?_)
 ·refine bM<|ag<|ag<|aG<|KK S<|WS fun _ F=>rP 1 [] mn ?_
  refine RK F<|ao<|Q1 hQ U U U ?_
  exact cB (cJ (cH I B I)).symm
 refine WK AA<|ak fun _ C=>aC<|ak fun _ D=>cW ck 10 kr<|dP 2 [] mn ?_
 obtain ⟨x,hx⟩:=aF G i I
 obtain ⟨xa,J⟩:=aF gz i I
 have X:(List.zipWith vv G gz)[i]? =some (vv x xa):=cZ hx J
 refine dS (IA i U (ax 0 U) KF dc I I)<|dS (h_ i 0 (vS xa.1 x.length xa.2) U bX (ax 0 U) X U dc U)<|dP 2 [] mn ?_
 obtain ⟨y,hy⟩:=aF H i I
 obtain ⟨ya,K⟩:=aF hz i I
 have Y:(List.zipWith vv H hz)[i]? =some (vv y ya):=cZ hy K
 refine dS (IA i U (ax 2 U) KF dc I I)<|dS (h_ i 0 (vS ya.1 y.length ya.2) U bX (ax 2 U) Y U dc U)<|dS (CL (qN x xa.1 xa.2 y ya.1 ya.2 (by exact h3 x (aP hx)) (by exact h4 y (aP hy))) (aQ (show hH _ (rd xa.1 x.length 1 (x.map iC)).holds from (cj 1 U (bD hx J (by simp [OY]))))<|aQ (show hH _ (rd ya.1 y.length 1 (y.map iC)).holds from (cj 3 U (bD hy K (by simp [OY]))))<|aR) U)<|dP 1 [] mn ?_
 refine cw<|RK D<|cr U (aW fun h=>?_) (aV fun h=>?_)
 ·refine WS fun _ E=>rP 1 [] mn ?_
  refine RK E<|ao<|Q1 hQ U U U ?_
  exact cB (aY (mB hx hy h)).symm
 refine cp<|aK<|KK C<|au<|rP 3 [] mn ?_
 refine aD ?_
 have AB:(vI (((i+1):Nat):Int))=(vI ((i:Int)+1)):=by exact cI I
 refine bj (M ⟨(i+1),⟨I,iG B hx hy h⟩⟩ _ _ _ U os (dh.cons U<|dh.cons U<|a_ U AB<|dh.nil _) (aN [0,1,2,3]))
end
section
open Go.RowKit
theorem yg (j:dk) (kA:OA) (kC:Nat) (az:List RA) (cA:OA) (cC:Nat) (bA:OA) (bC:Nat) (slA:OA) (slC:Nat) (drA:OA) (drC:Nat) (ha:List cU) (heA:OA) (heC:Nat) (faA:OA) (faC:Nat) (prA:OA) (prC:Nat) (fq hq:Int) (sq pq:Int) (hraw:tq j az ha):
 dF Tryz.prog 3 [(vA (fW.cells (n7 j kA kC cA cC bA bC slA slC drA drC heA heC faA faC prA prC))),(vI fq),(vI hq),(vI sq),(vI pq)] [(rd jm 3 2 g6),(rd kA j.Race.ar.aO.length 9 (j.Race.ar.aO.map aq.cells)),(rd cA j.Race.ar.aj.length 2 (List.zipWith av.cells j.Race.ar.aj az)),(dL (bk av.fu j.Race.ar.aj az)),(rd bA j.Race.ar.ab.length 4 (j.Race.ar.ab.map bL.cells)),(rd slA j.Race.bg.length 1 (j.Race.bg.map iC)),(rd drA j.Race.cm.length 1 (j.Race.cm.map iC)),(rd heA j.Race.aB.length 1 (List.zipWith cz j.Race.aB ha)),(dL (bk eO j.Race.aB ha)),(rd faA j.ay.length 4 (j.ay.map aX.cells)),(rd prA j.aM.length 5 (j.aM.map bI.cells))] (vB true):=by
 refine bE kr Tryz.func3 U U fun w0 Q hQ hN=>?_
 try dsimp only
 refine WS fun _ AO=>ed U fun b2=>bx 1 U<|RK AO<|ak fun _ A0=>WS fun _ A1=>rP 1 [] (mc 0 U mn) ?_
 refine rS (CL (Ik j kA kC az cA cC bA bC slA slC drA drC ha heA heC faA faC prA prC hraw) (br [2,3,4,5,6,7,8,9,10,11]) U)<|RK A1<|cr U (aT fun W=>?_) (aS fun W=>?_)
 ·refine WS fun _ A2=>rP 1 [] mn ?_
  refine RK A2<|ao<|Q1 hQ U U U ?_
  rfl
 refine WK A0<|ak fun _ A3=>?_
 have hin:=hraw.small W
 have u:=hin.race
 have A4:=hin.race.line
 have B9:=hin.race.gQ
 have Ci:=hin.race.has
 have Bv:=hin.race.gX
 have A8:=hin.nf
 have A9:=hin.np
 refine au<|rP 1 [] (mc 0 U mn) ?_
 refine cX (Lj j kA kC az cA cC bA bC slA slC drA drC ha heA heC faA faC prA prC (by exact hin) (by exact W)) (br [2,3,4,5,6,7,8,9,10,11]) U fun y7 A5=>?_
 obtain ⟨V,H,B,AB,G,C,J,D,K,E,L,F,M,R,N,O,S,T⟩:=y7
 try dsimp only
 obtain ⟨⟨AA,s⟩,A⟩:=A5
 try dsimp only at AA s A
 have hin2r:=u.OT AA s A
 have P:fY j _ _:=⟨hin2r,hin.nf,hin.np,hin.kind⟩
 refine AL U Qw fun B3=>fj U QD U<|RK A3<|WS fun _ k=>er 4 [] (mc 0 U mn) U<|rS (CL (KS j V H G B AB C J D K E L R F M N O S T fq hq sq (by exact P)) (gu 12 U U<|aQ (aL (n:=j.Race.ar.aO.length) 1 U sm)<|aQ (aL (n:=j.Race.ar.aj.length) 2 U (lJ AA))<|aQ (gM 3 U qp)<|aQ (aL (n:=j.Race.ar.ab.length) 4 U sm)<|aQ (aL (n:=j.Race.bg.length) 5 U sm)<|aQ (aL (n:=j.Race.cm.length) 6 U sm)<|aQ (aL (n:=j.Race.aB.length) 7 U (iO A.1))<|aQ (oR 8 U A)<|aQ (aL (n:=j.ay.length) 9 U sm)<|aQ (aL (n:=j.aM.length) 10 U sm)<|aR) U)<|bx 5 U<|RK k<|WS fun _ l=>er 4 [] (mc 11 U mn) U<|rS (CL (IP j kA kC az cA cC bA bC slA slC drA drC ha heA heC faA faC prA prC fq hq sq asm) (br [13,14,15,16,17,18,19,20,21,22]) U)<|bx 5 U<|RK l<|WS fun _ m=>rP 2 [] (mc 0 U mn) ?_
 refine cX (Qh j V H G B AB C J D K E L R F M N O S T fq (by exact P)) (gu 12 U U<|aQ (aL (n:=j.Race.ar.aO.length) 1 U sm)<|aQ (aL (n:=j.Race.ar.aj.length) 2 U (lJ AA))<|aQ (gM 3 U qp)<|aQ (aL (n:=j.Race.ar.ab.length) 4 U sm)<|aQ (aL (n:=j.Race.bg.length) 5 U sm)<|aQ (aL (n:=j.Race.cm.length) 6 U sm)<|aQ (aL (n:=j.Race.aB.length) 7 U (iO A.1))<|aQ (oR 8 U A)<|aQ (aL (n:=j.ay.length) 9 U sm)<|aQ (aL (n:=j.aM.length) 10 U sm)<|aR) U fun A6 v=>?_
 obtain ⟨b,x,z⟩:=A6
 try dsimp only
 have X:=v
 try dsimp only at X
 have Z:=X
 refine bx 5 U<|RK m<|WS fun _ o=>rP 2 [] (mc 13 U mn) ?_
 refine cX (NA j kA kC az cA cC bA bC slA slC drA drC ha heA heC faA faC prA prC fq asm) (br [15,16,17,18,19,20,21,22,23,24]) U fun A7 w=>?_
 obtain ⟨c,y,AC⟩:=A7
 try dsimp only
 have X:=w
 try dsimp only at X
 have a:=X
 refine bx 5 U<|RK o<|WS fun _ p=>er 2 [] (mc 4 U mn) U<|rS (CL (Ox j V H G B AB C J D K E L R F M N O S T pq (by exact P)) (gu 16 U U<|aQ (aL (n:=j.Race.ar.aO.length) 5 U sm)<|aQ (aL (n:=j.Race.ar.aj.length) 6 U (lJ AA))<|aQ (gM 7 U qp)<|aQ (aL (n:=j.Race.ar.ab.length) 8 U sm)<|aQ (aL (n:=j.Race.bg.length) 9 U sm)<|aQ (aL (n:=j.Race.cm.length) 10 U sm)<|aQ (aL (n:=j.Race.aB.length) 11 U (iO A.1))<|aQ (oR 12 U A)<|aQ (aL (n:=j.ay.length) 13 U sm)<|aQ (aL (n:=j.aM.length) 14 U sm)<|aR) U)<|bx 5 U<|RK p<|WS fun _ q=>er 2 [] (mc 15 U mn) U<|rS (CL (Lf j kA kC az cA cC bA bC slA slC drA drC ha heA heC faA faC prA prC pq asm) (br [17,18,19,20,21,22,23,24,25,26]) U)<|bx 5 U<|RK q<|ak fun _ r=>cW ck 41 kr<|kv 1 [] (mc 4 U mn) U<|dS (CL (Aq j V H G B AB C J D K E L R F M N O S T (by exact P)) (gu 16 U U<|aQ (aL (n:=j.Race.ar.aO.length) 5 U sm)<|aQ (aL (n:=j.Race.ar.aj.length) 6 U (lJ AA))<|aQ (gM 7 U qp)<|aQ (aL (n:=j.Race.ar.ab.length) 8 U sm)<|aQ (aL (n:=j.Race.bg.length) 9 U sm)<|aQ (aL (n:=j.Race.cm.length) 10 U sm)<|aQ (aL (n:=j.Race.aB.length) 11 U (iO A.1))<|aQ (oR 12 U A)<|aQ (aL (n:=j.ay.length) 13 U sm)<|aQ (aL (n:=j.aM.length) 14 U sm)<|aR) U)<|kv 1 [] (mc 15 U mn) U<|dS (CL (ox j kA kC az cA cC bA bC slA slC drA drC ha heA heC faA faC prA prC asm) (br [17,18,19,20,21,22,23,24,25,26]) U)<|dP 2 [] mn ?_
 refine g0 (t:=73) U (aS fun d=>?_) (aT fun d=>?_)
 ·exact absurd U d
 refine kx 2 U<|dS (BI U jW)<|dP 2 [] mn ?_
 refine g0 (t:=78) U (aS fun e=>?_) (aT fun e=>?_)
 ·exact absurd U e
 refine dP 5 [] mn ?_
 refine g0 (t:=83) U (aS fun f=>?_) (aT fun f=>?_)
 ·exact absurd U f
 refine kx 2 U<|dS (CL (zx (jA j fq) (jA j fq) b x z c y AC (by exact wZ (hin:=hin)) (by exact wZ (hin:=hin)) (by exact ze (hin:=hin)) (by exact ze (hin:=hin)) (by exact Z) (by exact a)) (aQ (aL (n:=(jA j fq).length) 2 U (q8 Z))<|aQ (gM 3 U ML)<|aQ (aL (n:=(jA j fq).length) 0 U (q8 a))<|aQ (gM 1 U ML)<|aR) U)<|dP 2 [] mn ?_
 refine g0 (t:=88) U (aS fun g=>?_) (aT fun g=>?_)
 ·exact absurd U g
 refine dP 5 [] mn ?_
 refine g0 (t:=93) U (aS fun h=>?_) (aT fun h=>?_)
 ·exact absurd U h
 refine kx 2 U<|dS (BI U jW)<|dP 2 [] mn ?_
 refine g0 (t:=98) U (aS fun i=>?_) (aT fun i=>?_)
 ·exact absurd U i
 refine dP 5 [] mn ?_
 refine g0 (t:=103) U (aS fun Y=>?_) (aT fun Y=>?_)
 ·exact absurd U Y
 refine kv 2 [0,1] (mc 4 U (mc 15 U mn)) U<|dS (CL (Kg j V H G B AB C J D K E L R F M N O S T j kA kC az cA cC bA bC slA slC drA drC ha heA heC faA faC prA prC (by exact P) (by exact hin) (by exact W) (by exact W)) (aQ (aL (n:=j.Race.ar.aO.length) 5 U sm)<|aQ (aL (n:=j.Race.ar.aj.length) 6 U (lJ AA))<|aQ (gM 7 U qp)<|aQ (aL (n:=j.Race.ar.ab.length) 8 U sm)<|aQ (aL (n:=j.Race.bg.length) 9 U sm)<|aQ (aL (n:=j.Race.cm.length) 10 U sm)<|aQ (aL (n:=j.Race.aB.length) 11 U (iO A.1))<|aQ (oR 12 U A)<|aQ (aL (n:=j.ay.length) 13 U sm)<|aQ (aL (n:=j.aM.length) 14 U sm)<|gu 17 U U<|gu 18 U U<|gu 19 U U<|gu 20 U U<|gu 21 U U<|gu 22 U U<|gu 23 U U<|gu 24 U U<|gu 25 U U<|gu 26 U U<|aR) U)<|dP 2 [] mn ?_
 refine cw<|RK r<|ao<|Q1 hQ U U U ?_
 exact cB (cJ U)
end
section
open Go.RowKit
def fH {α:Type} (cells:α→List Value) (sz:Nat) (R:World→α→Prop) (w:World) (s:bK):Prop:= ∃ l:List α,s.n=l.length∧(rd s.a l.length sz (l.map cells)).holds w∧(∀ x∈l,R w x)∧l.length≤maxLen∧s.n≤s.c
theorem vx {w:World} {R:World→cK→Prop}: ∀ {l:List dG},(∀ x∈l,fH cK.cells 3 R w x.bp)→ ∃ (ms:List av) (az:List RA),l.map dG.cells=List.zipWith av.cells ms az∧ms.length=l.length∧az.length=l.length∧(∀ X∈bk av.fu ms az,X.holds w)∧
 (∀ (k:Nat) m (a:RA),ms[k]? =some m→az[k]? =some a→m.bp.length≤a.2∧m.bp.length≤9223372036854775807)∧ms.map (fun m=>m.du)=l.map (fun x=>x.du)∧ ∀ (k:Nat) m y,ms[k]? =some m→y∈m.bp→R w y
 |[],_=>⟨[],[],rfl,rfl,rfl,(fun X hX=>by cases hX),(fun k m a h=>by simp at h),rfl,(fun k m y h=>by simp at h)⟩
 |x::l,h=>by
  obtain ⟨ms,az,E,F,G,H,AA,J,K⟩:=vx (fun y hy=>h y (dH _ hy))
  obtain ⟨sy,A,B,C,D,L⟩:=h x sm
  have e4':sy.length≤9223372036854775807:=D
  refine ⟨⟨x.du,sy⟩::ms,(x.bp.a,x.bp.c)::az,?_,by simp [F],by simp [G],fun X hX=>?_,fun k m a hm ha=>?_,by simp [J],fun k m y hm hy=>?_⟩
  ·obtain ⟨dr,⟨a,n,c⟩⟩:=x
   simp only at A
   subst A
   simp only [List.map_cons,List.zipWith_cons_cons,E]
   rfl
  ·rcases gL.1 hX with hX|hX
   ·simp only [av.fu,cv] at hX
    subst hX; exact B
   ·exact H X hX
  ·cases k with
   |zero=>
    simp only [List.getElem?_cons_zero,Option.some.injEq] at hm ha
    subst hm ha
    exact ⟨by simp only; omega,e4'⟩
   |succ k=>exact AA k m a (by simpa using hm) (by simpa using ha)
  ·cases k with
   |zero=>
    simp only [List.getElem?_cons_zero,Option.some.injEq] at hm
    subst hm
    exact C y hy
   |succ k=>exact K k m y (by simpa using hm) hy
theorem E8 {w:World} {s:cu} {R1:World→aq→Prop} {R2:World→dG→Prop} {R3:World→bL→Prop} {R4:World→cK→Prop} (h1:fH aq.cells 9 R1 w s.aO.ku) (hs: ∀ x,R1 w x→0≤x.iW∧x.iW≤255) (h2:fH dG.cells 2 R2 w s.aj) (hc: ∀ x,R2 w x→fH cK.cells 3 R4 w x.bp) (h3:fH bL.cells 4 R3 w s.ab):
 ∃ (l:bo) (az:List RA) (kA:OA) (kC:Nat) (cA:OA) (cC:Nat) (bA:OA) (bC:Nat),s=cu.mk (bR.mk (bK.mk kA l.aO.length kC)) l.ib (bK.mk cA l.aj.length cC) (bK.mk bA l.ab.length bC) l.b_ l.e9 l.dp∧th l az∧
  ((rd kA l.aO.length 9 (l.aO.map aq.cells)).holds w∧(rd cA l.aj.length 2 (List.zipWith av.cells l.aj az)).holds w∧(dL (bk av.fu l.aj az)).holds w∧(rd bA l.ab.length 4 (l.ab.map bL.cells)).holds w)∧l.ib=s.ib∧l.b_=s.b_∧l.e9=s.e9∧l.dp=s.dp:=by
 obtain ⟨⟨⟨ka,kn,kc⟩⟩,fa,⟨ca,cn,cc⟩,⟨ba,bn,bc⟩,fi,fk,mi⟩:=s
 obtain ⟨ts,E,M,N,O,T⟩:=h1
 obtain ⟨cs,B,C,H,AA,R⟩:=h2
 obtain ⟨bs,A,F,P,G,Q⟩:=h3
 simp only at E B A
 subst E B A
 obtain ⟨ms,az,J,D,S,K,L,_⟩:=vx (fun x hx=>hc x (H x hx))
 have t4':ts.length≤9223372036854775807:=O
 have c4':cs.length≤9223372036854775807:=AA
 have b4':bs.length≤9223372036854775807:=G
 refine ⟨⟨ts,fa,ms,bs,fi,fk,mi⟩,az,ka,kc,ca,cc,ba,bc,by simp only [D],⟨t4',fun x hx=>hs x (N x hx),by simp only; omega,by simp only; omega,b4',L⟩,⟨M,?_,K,F⟩,U,U,U,U⟩
 simp only at C ⊢
 rw [D,← J]; exact C
end
section
open Go.RowKit
theorem w9 {w:World} {R:World→aH→Prop}: ∀ {l:List bf},(∀ x∈l,fH aH.cells 2 R w x.aZ.aa)→ ∃ (ms:List aw) (az:List RA),l.map bf.cells=List.zipWith aw.cells ms az∧ms.length=l.length∧az.length=l.length∧(∀ X∈bk aw.fu ms az,X.holds w)∧
 ∀ d∈ms,d.aZ.aa.length≤9223372036854775807
 |[],_=>⟨[],[],rfl,rfl,rfl,(fun X hX=>by cases hX),fun d h=>by cases h⟩
 |x::l,h=>by
  obtain ⟨ms,az,D,E,F,G,H⟩:=w9 (fun y hy=>h y (dH _ hy))
  obtain ⟨sg,A,B,AA,C,J⟩:=h x sm
  have e4':sg.length≤9223372036854775807:=C
  refine ⟨⟨x.Out,x.cO,x.Time,⟨x.aZ.Start,x.aZ.fP,sg⟩⟩::ms,(x.aZ.aa.a,x.aZ.aa.c)::az,?_,by simp [E],by simp [F],fun X hX=>?_,fun d hd=>?_⟩
  ·obtain ⟨o,f,t,⟨st,nw,⟨a,n,c⟩⟩⟩:=x
   simp only at A
   subst A
   simp only [List.map_cons,List.zipWith_cons_cons,D]
   rfl
  ·rcases gL.1 hX with hX|hX
   ·simp only [aw.fu,cv] at hX
    subst hX; exact B
   ·exact G X hX
  ·rcases cg.1 hd with rfl|hd
   ·exact e4'
   ·exact H d hd
theorem wK {w:World} {R2:World→bf→Prop} {R:World→aH→Prop} (hc: ∀ x,R2 w x→fH aH.cells 2 R w x.aZ.aa): ∀ {l:List bK},(∀ x∈l,fH bf.cells 7 R2 w x)→ ∃ (ms:List (List aw)) (ha:List cU),(l.map fun s=>[vS s.a s.n s.c])=List.zipWith cz ms ha∧ms.length=l.length∧ha.length=l.length∧(∀ X∈bk eO ms ha,X.holds w)∧
 ∀ (k:Nat) h (a:cU),ms[k]? =some h→ha[k]? =some a→h.length≤9223372036854775807∧a.2.length=h.length∧ ∀ d∈h,d.aZ.aa.length≤9223372036854775807
 |[],_=>⟨[],[],rfl,rfl,rfl,(fun X hX=>by cases hX),(fun k h a q=>by simp at q)⟩
 |x::l,h=>by
  obtain ⟨ms,ha,J,K,L,M,N⟩:=wK hc (fun y hy=>h y (dH _ hy))
  obtain ⟨ds,C,G,H,AA,P⟩:=h x sm
  obtain ⟨dm,az,D,B,O,E,F⟩:=w9 fun y hy=>hc y (H y hy)
  have e4':ds.length≤9223372036854775807:=AA
  refine ⟨dm::ms,((x.a,x.c),az)::ha,?_,by simp [K],by simp [L],fun X hX=>?_,fun k m a hm A=>?_⟩
  ·obtain ⟨a,n,c⟩:=x
   simp only at C
   subst C
   simp only [List.map_cons,List.zipWith_cons_cons,J,cz,B]
  ·rcases gL.1 hX with hX|hX
   ·unfold eO at hX
    rcases cg.1 hX with rfl|hX
    ·simp only
     rw [B,← D]; exact G
    ·exact E X hX
   ·exact M X hX
  ·cases k with
   |zero=>
    simp only [List.getElem?_cons_zero,Option.some.injEq] at hm A
    subst hm A
    exact ⟨I,by simp only; omega,F⟩
   |succ k=>exact N k m a (by simpa using hm) (by simpa using A)
theorem Gj {w:World} {s:fF} {R1:World→aq→Prop} {R2:World→dG→Prop} {R3:World→bL→Prop} {R4:World→cK→Prop} {R5:World→Int→Prop} {R6:World→bK→Prop} {R7:World→bf→Prop} {R8:World→aH→Prop}
 (h1:fH aq.cells 9 R1 w s.ar.aO.ku) (hs: ∀ x,R1 w x→0≤x.iW∧x.iW≤255) (h2:fH dG.cells 2 R2 w s.ar.aj) (hc: ∀ x,R2 w x→fH cK.cells 3 R4 w x.bp) (h3:fH bL.cells 4 R3 w s.ar.ab)
 (h4:fH iC 1 R5 w s.bg) (h5:fH iC 1 R5 w s.cm) (h6:fH (fun s=>[vS s.a s.n s.c]) 1 R6 w s.aB) (h7: ∀ x,R6 w x→fH bf.cells 7 R7 w x) (h8: ∀ x,R7 w x→fH aH.cells 2 R8 w x.aZ.aa):
 ∃ (r:eM) (az:List RA) (ha:List cU) (kA:OA) (kC:Nat) (cA:OA) (cC:Nat) (bA:OA) (bC:Nat) (slA:OA) (slC:Nat) (drA:OA) (drC:Nat) (heA:OA) (heC:Nat),
  s=fF.mk (cu.mk (bR.mk (bK.mk kA r.ar.aO.length kC)) r.ar.ib (bK.mk cA r.ar.aj.length cC) (bK.mk bA r.ar.ab.length bC) r.ar.b_ r.ar.e9 r.ar.dp) (bK.mk slA r.bg.length slC) (bK.mk drA r.cm.length drC) r.kY (bK.mk heA r.aB.length heC)∧uj r az ha∧
  ((rd kA r.ar.aO.length 9 (r.ar.aO.map aq.cells)).holds w∧(rd cA r.ar.aj.length 2 (List.zipWith av.cells r.ar.aj az)).holds w∧(dL (bk av.fu r.ar.aj az)).holds w∧(rd bA r.ar.ab.length 4 (r.ar.ab.map bL.cells)).holds w∧
   (rd slA r.bg.length 1 (r.bg.map iC)).holds w∧(rd drA r.cm.length 1 (r.cm.map iC)).holds w∧(rd heA r.aB.length 1 (List.zipWith cz r.aB ha)).holds w∧(dL (bk eO r.aB ha)).holds w):=by
 obtain ⟨ln,⟨sa,sn,sc⟩,⟨da,dn,dc⟩,tu,⟨ea,en,ec⟩⟩:=s
 obtain ⟨l,az,kA,kC,cA,cC,bA,bC,e,A,hh,_⟩:=E8 (s:=ln) h1 hs h2 hc h3
 subst e
 obtain ⟨sl,F,N,T,O,AA⟩:=h4
 obtain ⟨dr,B,G,P,H,Q⟩:=h5
 obtain ⟨he,D,E,L,M,S⟩:=h6
 obtain ⟨ms,ha,AB,C,R,J,K⟩:=wK h8 (fun x hx=>h7 x (L x hx))
 simp only at F B D
 subst F B D
 have s4':sl.length≤9223372036854775807:=O
 have d4':dr.length≤9223372036854775807:=H
 have q4':he.length≤9223372036854775807:=M
 refine ⟨⟨l,sl,dr,tu,ms⟩,az,ha,kA,kC,cA,cC,bA,bC,sa,sc,da,dc,ea,ec,by simp only [C],⟨A,s4',d4',by simp only; omega,by simp only; omega,K⟩,hh.1,hh.2.1,hh.2.2.1,hh.2.2.2,N,G,?_,J⟩
 simp only at E ⊢
 rw [C,← AB]; exact E
end
section
open Go.RowKit
theorem Fy {w:World} {s:fW} {R1:World→aq→Prop} {R2:World→dG→Prop} {R3:World→bL→Prop} {R4:World→cK→Prop} {R5:World→Int→Prop} {R6:World→bK→Prop} {R7:World→bf→Prop} {R8:World→aH→Prop} {R9:World→aX→Prop} {R10:World→bI→Prop}
 (h1:fH aq.cells 9 R1 w s.Race.ar.aO.ku) (hs: ∀ x,R1 w x→0≤x.iW∧x.iW≤255) (h2:fH dG.cells 2 R2 w s.Race.ar.aj) (hc: ∀ x,R2 w x→fH cK.cells 3 R4 w x.bp) (h3:fH bL.cells 4 R3 w s.Race.ar.ab)
 (h4:fH iC 1 R5 w s.Race.bg) (h5:fH iC 1 R5 w s.Race.cm) (h6:fH (fun s=>[vS s.a s.n s.c]) 1 R6 w s.Race.aB) (h7: ∀ x,R6 w x→fH bf.cells 7 R7 w x) (h8: ∀ x,R7 w x→fH aH.cells 2 R8 w x.aZ.aa)
 (h9:fH aX.cells 4 R9 w s.ay) (hk: ∀ x,R9 w x→0≤x.Kind∧x.Kind≤255) (h10:fH bI.cells 5 R10 w s.aM):
 ∃ (j:dk) (az:List RA) (ha:List cU) (kA:OA) (kC:Nat) (cA:OA) (cC:Nat) (bA:OA) (bC:Nat) (slA:OA) (slC:Nat) (drA:OA) (drC:Nat) (heA:OA) (heC:Nat) (faA:OA) (faC:Nat) (prA:OA) (prC:Nat),
  s=fW.mk (fF.mk (cu.mk (bR.mk (bK.mk kA j.Race.ar.aO.length kC)) j.Race.ar.ib (bK.mk cA j.Race.ar.aj.length cC) (bK.mk bA j.Race.ar.ab.length bC) j.Race.ar.b_ j.Race.ar.e9 j.Race.ar.dp) (bK.mk slA j.Race.bg.length slC) (bK.mk drA j.Race.cm.length drC) j.Race.kY (bK.mk heA j.Race.aB.length heC)) (bK.mk faA j.ay.length faC) (bK.mk prA j.aM.length prC) j.fQ j.z8∧tq j az ha∧
  ((rd kA j.Race.ar.aO.length 9 (j.Race.ar.aO.map aq.cells)).holds w∧(rd cA j.Race.ar.aj.length 2 (List.zipWith av.cells j.Race.ar.aj az)).holds w∧(dL (bk av.fu j.Race.ar.aj az)).holds w∧(rd bA j.Race.ar.ab.length 4 (j.Race.ar.ab.map bL.cells)).holds w∧
   (rd slA j.Race.bg.length 1 (j.Race.bg.map iC)).holds w∧(rd drA j.Race.cm.length 1 (j.Race.cm.map iC)).holds w∧(rd heA j.Race.aB.length 1 (List.zipWith cz j.Race.aB ha)).holds w∧(dL (bk eO j.Race.aB ha)).holds w∧
   (rd faA j.ay.length 4 (j.ay.map aX.cells)).holds w∧(rd prA j.aM.length 5 (j.aM.map bI.cells)).holds w):=by
 obtain ⟨rc,⟨fa,fn,fc⟩,⟨pa,pn,pc⟩,mi,fe⟩:=s
 obtain ⟨r,az,ha,kA,kC,cA,cC,bA,bC,slA,slC,drA,drC,heA,heC,e,A,hm⟩:=Gj (s:=rc) h1 hs h2 hc h3 h4 h5 h6 h7 h8
 subst e
 obtain ⟨fl,B,D,E,F,AA⟩:=h9
 obtain ⟨pr,C,G,J,H,K⟩:=h10
 simp only at B C
 subst B C
 have f4':fl.length≤9223372036854775807:=F
 have p4':pr.length≤9223372036854775807:=H
 exact ⟨⟨r,fl,pr,mi,fe⟩,az,ha,kA,kC,cA,cC,bA,bC,slA,slC,drA,drC,heA,heC,fa,fc,pa,pc,U,⟨A,f4',p4',fun f hf=>hk f (E f hf)⟩,hm.1,hm.2.1,hm.2.2.1,hm.2.2.2.1,hm.2.2.2.2.1,hm.2.2.2.2.2.1,hm.2.2.2.2.2.2.1,hm.2.2.2.2.2.2.2,D,G⟩
end
section
open Go.ChangeShapes Go.WideShapes Go.ChangeAt Go.RowKit
theorem SP:Tryz.prog.cellsOf 36=15:=by kernel_rfl
theorem PJ:Tryz.prog.cellsOf 32=11:=by kernel_rfl
theorem Rn:Tryz.prog.cellsOf 28=7:=by kernel_rfl
theorem Rq:Tryz.prog.cellsOf 24=1:=by kernel_rfl
theorem SC:Tryz.prog.cellsOf 22=1:=by kernel_rfl
theorem Mr:Tryz.prog.cellsOf 160=9:=by kernel_rfl
theorem uw:Tryz.prog.cellsOf 3=1:=by kernel_rfl
def sR (w:World) (n:Int):Prop:=qD n
theorem uy:qx Tryz.prog 3 Int iC sR:=NL nX
theorem Ds:Tryz.prog.cellsOf 65=2:=by kernel_rfl
structure DO (w:World) (s:ai):Prop where
 Lo:sR w s.Lo
 Hi:sR w s.Hi
theorem Sn:fL Tryz.prog 65=some [(3,0),(3,1)]:=by kernel_rfl
theorem Fh:qx Tryz.prog 65 ai ai.cells DO:=fun {H} enc w base sp A fuel cs x h=>by
 obtain ⟨hl,hp⟩:=iJ Sn h
 obtain ⟨M,O,F⟩:=hp 0 3 0 rfl
 obtain ⟨K,B,AA⟩:=uy _ _ _ _ _ _ _ _ F
 obtain ⟨N,P,G⟩:=hp 1 3 1 rfl
 obtain ⟨L,C,J⟩:=uy _ _ _ _ _ _ _ _ G
 refine ⟨⟨K,L⟩,?_,⟨AA,J⟩⟩
 have E:=gk (hl.trans Ds) (by rw [uw]) C
 have D:=cG B (m:=1) (by rw [uw]) E
 exact D
theorem TU:Tryz.prog.cellsOf 5=1:=by kernel_rfl
def S7 (w:World) (n:Int):Prop:=0≤n∧n≤255
theorem TR:qx Tryz.prog 5 Int Ip S7:=Pa MB
structure HX (w:World) (s:aq):Prop where
 Id:sR w s.Id
 jP:DO w s.jP
 kI:DO w s.kI
 dY:DO w s.dY
 iW:S7 w s.iW
 xZ:sR w s.xZ
theorem Pk:fL Tryz.prog 160=some [(3,0),(65,1),(65,3),(65,5),(5,7),(3,8)]:=by kernel_rfl
theorem PW:qx Tryz.prog 160 aq aq.cells HX:=fun {H} enc w base sp A fuel cs x h=>by
 obtain ⟨hl,hp⟩:=iJ Pk h
 obtain ⟨g,o,O⟩:=hp 0 3 0 rfl
 obtain ⟨a,B,AA⟩:=uy _ _ _ _ _ _ _ _ O
 obtain ⟨i,p,P⟩:=hp 1 65 1 rfl
 obtain ⟨b,C,V⟩:=Fh _ _ _ _ _ _ _ _ P
 obtain ⟨j,q,Q⟩:=hp 2 65 3 rfl
 obtain ⟨c,D,W⟩:=Fh _ _ _ _ _ _ _ _ Q
 obtain ⟨k,r,R⟩:=hp 3 65 5 rfl
 obtain ⟨d,E,X⟩:=Fh _ _ _ _ _ _ _ _ R
 obtain ⟨l,s,S⟩:=hp 4 5 7 rfl
 obtain ⟨e,F,Y⟩:=TR _ _ _ _ _ _ _ _ S
 obtain ⟨n,t,T⟩:=hp 5 3 8 rfl
 obtain ⟨f,G,Z⟩:=uy _ _ _ _ _ _ _ _ T
 refine ⟨⟨a,b,c,d,e,f⟩,?_,⟨AA,V,W,X,Y,Z⟩⟩
 have N:=gk (hl.trans Mr) (by rw [uw]) G
 have M:=cG F (m:=8) (by rw [TU]) N
 have L:=cG E (m:=7) (by rw [Ds]) M
 have K:=cG D (m:=5) (by rw [Ds]) L
 have J:=cG C (m:=3) (by rw [Ds]) K
 have AB:=cG B (m:=1) (by rw [uw]) J
 exact AB
def Qj (w:World) (s:bK):Prop:= ∃ l:List aq,s.n=l.length∧(rd s.a l.length 9 (l.map aq.cells)).holds w∧(∀ x∈l,HX w x)∧l.length≤maxLen∧s.n≤s.c
theorem Tg:qx Tryz.prog 22 bK (fun s=>[vS s.a s.n s.c]) Qj:=kM PL Mr PW
structure Q7 (w:World) (s:bR):Prop where
 ku:Qj w s.ku
theorem Sv:fL Tryz.prog 24=some [(22,0)]:=by kernel_rfl
theorem Tk:qx Tryz.prog 24 bR bR.cells Q7:=fun {H} enc w base sp A fuel cs x h=>by
 obtain ⟨hl,hp⟩:=iJ Sv h
 obtain ⟨G,AA,D⟩:=hp 0 22 0 rfl
 obtain ⟨F,B,E⟩:=Tg _ _ _ _ _ _ _ _ D
 refine ⟨⟨F⟩,?_,⟨E⟩⟩
 have C:=gk (hl.trans Rq) (by rw [SC]) B
 exact C
theorem SI:Tryz.prog.cellsOf 25=1:=by kernel_rfl
theorem Md:Tryz.prog.cellsOf 165=2:=by kernel_rfl
theorem P6:Tryz.prog.cellsOf 163=1:=by kernel_rfl
theorem Mt:Tryz.prog.cellsOf 162=3:=by kernel_rfl
structure HA (w:World) (s:cK):Prop where
 At:sR w s.At
 dW:DO w s.dW
theorem Qm:fL Tryz.prog 162=some [(3,0),(65,1)]:=by kernel_rfl
theorem Pg:qx Tryz.prog 162 cK cK.cells HA:=fun {H} enc w base sp A fuel cs x h=>by
 obtain ⟨hl,hp⟩:=iJ Qm h
 obtain ⟨M,O,F⟩:=hp 0 3 0 rfl
 obtain ⟨K,B,AA⟩:=uy _ _ _ _ _ _ _ _ F
 obtain ⟨N,P,G⟩:=hp 1 65 1 rfl
 obtain ⟨L,C,J⟩:=Fh _ _ _ _ _ _ _ _ G
 refine ⟨⟨K,L⟩,?_,⟨AA,J⟩⟩
 have E:=gk (hl.trans Mt) (by rw [Ds]) C
 have D:=cG B (m:=1) (by rw [uw]) E
 exact D
def MC (w:World) (s:bK):Prop:= ∃ l:List cK,s.n=l.length∧(rd s.a l.length 3 (l.map cK.cells)).holds w∧(∀ x∈l,HA w x)∧l.length≤maxLen∧s.n≤s.c
theorem PG:qx Tryz.prog 163 bK (fun s=>[vS s.a s.n s.c]) MC:=kM Qs Mt Pg
structure Ju (w:World) (s:dG):Prop where
 du:sR w s.du
 bp:MC w s.bp
theorem Qf:fL Tryz.prog 165=some [(3,0),(163,1)]:=by kernel_rfl
theorem PI:qx Tryz.prog 165 dG dG.cells Ju:=fun {H} enc w base sp A fuel cs x h=>by
 obtain ⟨hl,hp⟩:=iJ Qf h
 obtain ⟨M,O,F⟩:=hp 0 3 0 rfl
 obtain ⟨K,B,AA⟩:=uy _ _ _ _ _ _ _ _ F
 obtain ⟨N,P,G⟩:=hp 1 163 1 rfl
 obtain ⟨L,C,J⟩:=PG _ _ _ _ _ _ _ _ G
 refine ⟨⟨K,L⟩,?_,⟨AA,J⟩⟩
 have E:=gk (hl.trans Md) (by rw [P6]) C
 have D:=cG B (m:=1) (by rw [uw]) E
 exact D
def PN (w:World) (s:bK):Prop:= ∃ l:List dG,s.n=l.length∧(rd s.a l.length 2 (l.map dG.cells)).holds w∧(∀ x∈l,Ju w x)∧l.length≤maxLen∧s.n≤s.c
theorem SR:qx Tryz.prog 25 bK (fun s=>[vS s.a s.n s.c]) PN:=kM S5 Md PI
theorem Sq:Tryz.prog.cellsOf 26=1:=by kernel_rfl
theorem Mq:Tryz.prog.cellsOf 137=4:=by kernel_rfl
theorem Mz:Tryz.prog.cellsOf 135=3:=by kernel_rfl
structure Mw (w:World) (s:c_):Prop where
 bw:sR w s.bw
 lP:DO w s.lP
theorem Rl:fL Tryz.prog 135=some [(3,0),(65,1)]:=by kernel_rfl
theorem Rb:qx Tryz.prog 135 c_ c_.cells Mw:=fun {H} enc w base sp A fuel cs x h=>by
 obtain ⟨hl,hp⟩:=iJ Rl h
 obtain ⟨M,O,F⟩:=hp 0 3 0 rfl
 obtain ⟨K,B,AA⟩:=uy _ _ _ _ _ _ _ _ F
 obtain ⟨N,P,G⟩:=hp 1 65 1 rfl
 obtain ⟨L,C,J⟩:=Fh _ _ _ _ _ _ _ _ G
 refine ⟨⟨K,L⟩,?_,⟨AA,J⟩⟩
 have E:=gk (hl.trans Mz) (by rw [Ds]) C
 have D:=cG B (m:=1) (by rw [uw]) E
 exact D
structure HP (w:World) (s:bL):Prop where
 k8:Mw w s.k8
 jO:sR w s.jO
theorem PD:fL Tryz.prog 137=some [(135,0),(3,3)]:=by kernel_rfl
theorem QQ:qx Tryz.prog 137 bL bL.cells HP:=fun {H} enc w base sp A fuel cs x h=>by
 obtain ⟨hl,hp⟩:=iJ PD h
 obtain ⟨M,O,F⟩:=hp 0 135 0 rfl
 obtain ⟨K,B,AA⟩:=Rb _ _ _ _ _ _ _ _ F
 obtain ⟨N,P,G⟩:=hp 1 3 3 rfl
 obtain ⟨L,C,J⟩:=uy _ _ _ _ _ _ _ _ G
 refine ⟨⟨K,L⟩,?_,⟨AA,J⟩⟩
 have E:=gk (hl.trans Mq) (by rw [uw]) C
 have D:=cG B (m:=3) (by rw [Mz]) E
 exact D
def QF (w:World) (s:bK):Prop:= ∃ l:List bL,s.n=l.length∧(rd s.a l.length 4 (l.map bL.cells)).holds w∧(∀ x∈l,HP w x)∧l.length≤maxLen∧s.n≤s.c
theorem Sh:qx Tryz.prog 26 bK (fun s=>[vS s.a s.n s.c]) QF:=kM Od Mq QQ
structure Q3 (w:World) (s:cu):Prop where
 aO:Q7 w s.aO
 ib:sR w s.ib
 aj:PN w s.aj
 ab:QF w s.ab
 b_:sR w s.b_
 e9:sR w s.e9
 dp:sR w s.dp
theorem SH:fL Tryz.prog 28=some [(24,0),(3,1),(25,2),(26,3),(3,4),(3,5),(3,6)]:=by kernel_rfl
theorem Sp:qx Tryz.prog 28 cu cu.cells Q3:=fun {H} enc w base sp A fuel cs x h=>by
 obtain ⟨hl,hp⟩:=iJ SH h
 obtain ⟨n,u,Q⟩:=hp 0 24 0 rfl
 obtain ⟨e,B,X⟩:=Tk _ _ _ _ _ _ _ _ Q
 obtain ⟨o,v,R⟩:=hp 1 3 1 rfl
 obtain ⟨f,C,Y⟩:=uy _ _ _ _ _ _ _ _ R
 obtain ⟨p,y,S⟩:=hp 2 25 2 rfl
 obtain ⟨g,D,Z⟩:=SR _ _ _ _ _ _ _ _ S
 obtain ⟨q,z,T⟩:=hp 3 26 3 rfl
 obtain ⟨i,E,a⟩:=Sh _ _ _ _ _ _ _ _ T
 obtain ⟨r,y4,AA⟩:=hp 4 3 4 rfl
 obtain ⟨j,F,b⟩:=uy _ _ _ _ _ _ _ _ AA
 obtain ⟨s,y5,V⟩:=hp 5 3 5 rfl
 obtain ⟨k,G,c⟩:=uy _ _ _ _ _ _ _ _ V
 obtain ⟨t,y6,W⟩:=hp 6 3 6 rfl
 obtain ⟨l,AB,d⟩:=uy _ _ _ _ _ _ _ _ W
 refine ⟨⟨e,f,g,i,j,k,l⟩,?_,⟨X,Y,Z,a,b,c,d⟩⟩
 have P:=gk (hl.trans Rn) (by rw [uw]) AB
 have O:=cG G (m:=6) (by rw [uw]) P
 have N:=cG F (m:=5) (by rw [uw]) O
 have M:=cG E (m:=4) (by rw [Sq]) N
 have L:=cG D (m:=3) (by rw [SI]) M
 have K:=cG C (m:=2) (by rw [uw]) L
 have J:=cG B (m:=1) (by rw [Rq]) K
 exact J
theorem QC:Tryz.prog.cellsOf 29=1:=by kernel_rfl
def NC (w:World) (s:bK):Prop:= ∃ l:List Int,s.n=l.length∧(rd s.a l.length 1 (l.map iC)).holds w∧(∀ x∈l,sR w x)∧l.length≤maxLen∧s.n≤s.c
theorem Rd:qx Tryz.prog 29 bK (fun s=>[vS s.a s.n s.c]) NC:=kM SS uw uy
theorem Sr:Tryz.prog.cellsOf 30=1:=by kernel_rfl
theorem R_:Tryz.prog.cellsOf 68=1:=by kernel_rfl
theorem QP:Tryz.prog.cellsOf 67=7:=by kernel_rfl
theorem TS:Tryz.prog.cellsOf 4=1:=by kernel_rfl
def Sc (w:World) (n:Bool):Prop:=True
theorem TZ:qx Tryz.prog 4 Bool (fun b=>[vB b]) Sc:=Kh RL
theorem Py:Tryz.prog.cellsOf 61=3:=by kernel_rfl
theorem S_:Tryz.prog.cellsOf 59=1:=by kernel_rfl
theorem Mg:Tryz.prog.cellsOf 139=2:=by kernel_rfl
structure ID (w:World) (s:aH):Prop where
 fz:sR w s.fz
 Read:sR w s.Read
theorem P1:fL Tryz.prog 139=some [(3,0),(3,1)]:=by kernel_rfl
theorem Q9:qx Tryz.prog 139 aH aH.cells ID:=fun {H} enc w base sp A fuel cs x h=>by
 obtain ⟨hl,hp⟩:=iJ P1 h
 obtain ⟨M,O,F⟩:=hp 0 3 0 rfl
 obtain ⟨K,B,AA⟩:=uy _ _ _ _ _ _ _ _ F
 obtain ⟨N,P,G⟩:=hp 1 3 1 rfl
 obtain ⟨L,C,J⟩:=uy _ _ _ _ _ _ _ _ G
 refine ⟨⟨K,L⟩,?_,⟨AA,J⟩⟩
 have E:=gk (hl.trans Mg) (by rw [uw]) C
 have D:=cG B (m:=1) (by rw [uw]) E
 exact D
def QX (w:World) (s:bK):Prop:= ∃ l:List aH,s.n=l.length∧(rd s.a l.length 2 (l.map aH.cells)).holds w∧(∀ x∈l,ID w x)∧l.length≤maxLen∧s.n≤s.c
theorem TI:qx Tryz.prog 59 bK (fun s=>[vS s.a s.n s.c]) QX:=kM S9 Mg Q9
structure Ru (w:World) (s:de):Prop where
 Start:sR w s.Start
 fP:sR w s.fP
 aa:QX w s.aa
theorem TK:fL Tryz.prog 61=some [(3,0),(3,1),(59,2)]:=by kernel_rfl
theorem Si:qx Tryz.prog 61 de de.cells Ru:=fun {H} enc w base sp A fuel cs x h=>by
 obtain ⟨hl,hp⟩:=iJ TK h
 obtain ⟨R,AA,AB⟩:=hp 0 3 0 rfl
 obtain ⟨O,B,L⟩:=uy _ _ _ _ _ _ _ _ AB
 obtain ⟨S,V,J⟩:=hp 1 3 1 rfl
 obtain ⟨P,C,M⟩:=uy _ _ _ _ _ _ _ _ J
 obtain ⟨T,W,K⟩:=hp 2 59 2 rfl
 obtain ⟨Q,D,N⟩:=TI _ _ _ _ _ _ _ _ K
 refine ⟨⟨O,P,Q⟩,?_,⟨L,M,N⟩⟩
 have G:=gk (hl.trans Py) (by rw [S_]) D
 have F:=cG C (m:=2) (by rw [uw]) G
 have E:=cG B (m:=1) (by rw [uw]) F
 exact E
structure NU (w:World) (s:bf):Prop where
 Out:Sc w s.Out
 cO:Sc w s.cO
 Time:DO w s.Time
 aZ:Ru w s.aZ
theorem RY:fL Tryz.prog 67=some [(4,0),(4,1),(65,2),(61,4)]:=by kernel_rfl
theorem RR:qx Tryz.prog 67 bf bf.cells NU:=fun {H} enc w base sp A fuel cs x h=>by
 obtain ⟨hl,hp⟩:=iJ RY h
 obtain ⟨W,a,K⟩:=hp 0 4 0 rfl
 obtain ⟨S,B,O⟩:=TZ _ _ _ _ _ _ _ _ K
 obtain ⟨X,b,L⟩:=hp 1 4 1 rfl
 obtain ⟨T,C,P⟩:=TZ _ _ _ _ _ _ _ _ L
 obtain ⟨Y,c,M⟩:=hp 2 65 2 rfl
 obtain ⟨AA,D,Q⟩:=Fh _ _ _ _ _ _ _ _ M
 obtain ⟨Z,d,N⟩:=hp 3 61 4 rfl
 obtain ⟨V,E,R⟩:=Si _ _ _ _ _ _ _ _ N
 refine ⟨⟨S,T,AA,V⟩,?_,⟨O,P,Q,R⟩⟩
 have J:=gk (hl.trans QP) (by rw [Py]) E
 have AB:=cG D (m:=4) (by rw [Ds]) J
 have G:=cG C (m:=2) (by rw [TS]) AB
 have F:=cG B (m:=1) (by rw [TS]) G
 exact F
def Nu (w:World) (s:bK):Prop:= ∃ l:List bf,s.n=l.length∧(rd s.a l.length 7 (l.map bf.cells)).holds w∧(∀ x∈l,NU w x)∧l.length≤maxLen∧s.n≤s.c
theorem S6:qx Tryz.prog 68 bK (fun s=>[vS s.a s.n s.c]) Nu:=kM Sk QP RR
def PU (w:World) (s:bK):Prop:= ∃ l:List bK,s.n=l.length∧(rd s.a l.length 1 (l.map (fun s=>[vS s.a s.n s.c]))).holds w∧(∀ x∈l,Nu w x)∧l.length≤maxLen∧s.n≤s.c
theorem TH:qx Tryz.prog 30 bK (fun s=>[vS s.a s.n s.c]) PU:=kM TL R_ S6
structure Pc (w:World) (s:fF):Prop where
 ar:Q3 w s.ar
 bg:NC w s.bg
 cm:NC w s.cm
 kY:sR w s.kY
 aB:PU w s.aB
theorem Tl:fL Tryz.prog 32=some [(28,0),(29,7),(29,8),(3,9),(30,10)]:=by kernel_rfl
theorem SY:qx Tryz.prog 32 fF fF.cells Pc:=fun {H} enc w base sp A fuel cs x h=>by
 obtain ⟨hl,hp⟩:=iJ Tl h
 obtain ⟨b,g,M⟩:=hp 0 28 0 rfl
 obtain ⟨W,B,R⟩:=Sp _ _ _ _ _ _ _ _ M
 obtain ⟨c,i,N⟩:=hp 1 29 7 rfl
 obtain ⟨X,C,S⟩:=Rd _ _ _ _ _ _ _ _ N
 obtain ⟨d,j,O⟩:=hp 2 29 8 rfl
 obtain ⟨Y,D,T⟩:=Rd _ _ _ _ _ _ _ _ O
 obtain ⟨e,k,P⟩:=hp 3 3 9 rfl
 obtain ⟨Z,E,AA⟩:=uy _ _ _ _ _ _ _ _ P
 obtain ⟨f,l,Q⟩:=hp 4 30 10 rfl
 obtain ⟨a,F,V⟩:=TH _ _ _ _ _ _ _ _ Q
 refine ⟨⟨W,X,Y,Z,a⟩,?_,⟨R,S,T,AA,V⟩⟩
 have L:=gk (hl.trans PJ) (by rw [Sr]) F
 have K:=cG E (m:=10) (by rw [uw]) L
 have J:=cG D (m:=9) (by rw [QC]) K
 have AB:=cG C (m:=8) (by rw [QC]) J
 have G:=cG B (m:=7) (by rw [Rn]) AB
 exact G
theorem TF:Tryz.prog.cellsOf 33=1:=by kernel_rfl
theorem PO:Tryz.prog.cellsOf 71=4:=by kernel_rfl
structure OH (w:World) (s:aX):Prop where
 Kind:S7 w s.Kind
 gW:sR w s.gW
 lX:sR w s.lX
 To:sR w s.To
theorem Se:fL Tryz.prog 71=some [(5,0),(3,1),(3,2),(3,3)]:=by kernel_rfl
theorem RX:qx Tryz.prog 71 aX aX.cells OH:=fun {H} enc w base sp A fuel cs x h=>by
 obtain ⟨hl,hp⟩:=iJ Se h
 obtain ⟨W,a,K⟩:=hp 0 5 0 rfl
 obtain ⟨S,B,O⟩:=TR _ _ _ _ _ _ _ _ K
 obtain ⟨X,b,L⟩:=hp 1 3 1 rfl
 obtain ⟨T,C,P⟩:=uy _ _ _ _ _ _ _ _ L
 obtain ⟨Y,c,M⟩:=hp 2 3 2 rfl
 obtain ⟨AA,D,Q⟩:=uy _ _ _ _ _ _ _ _ M
 obtain ⟨Z,d,N⟩:=hp 3 3 3 rfl
 obtain ⟨V,E,R⟩:=uy _ _ _ _ _ _ _ _ N
 refine ⟨⟨S,T,AA,V⟩,?_,⟨O,P,Q,R⟩⟩
 have J:=gk (hl.trans PO) (by rw [uw]) E
 have AB:=cG D (m:=3) (by rw [uw]) J
 have G:=cG C (m:=2) (by rw [uw]) AB
 have F:=cG B (m:=1) (by rw [TU]) G
 exact F
def PY (w:World) (s:bK):Prop:= ∃ l:List aX,s.n=l.length∧(rd s.a l.length 4 (l.map aX.cells)).holds w∧(∀ x∈l,OH w x)∧l.length≤maxLen∧s.n≤s.c
theorem Tr:qx Tryz.prog 33 bK (fun s=>[vS s.a s.n s.c]) PY:=kM Sj PO RX
theorem Ss:Tryz.prog.cellsOf 34=1:=by kernel_rfl
theorem QO:Tryz.prog.cellsOf 73=5:=by kernel_rfl
structure Ns (w:World) (s:bI):Prop where
 Id:sR w s.Id
 iR:sR w s.iR
 iY:sR w s.iY
 pd:sR w s.pd
 At:sR w s.At
theorem Sf:fL Tryz.prog 73=some [(3,0),(3,1),(3,2),(3,3),(3,4)]:=by kernel_rfl
theorem SB:qx Tryz.prog 73 bI bI.cells Ns:=fun {H} enc w base sp A fuel cs x h=>by
 obtain ⟨hl,hp⟩:=iJ Sf h
 obtain ⟨b,g,M⟩:=hp 0 3 0 rfl
 obtain ⟨W,B,R⟩:=uy _ _ _ _ _ _ _ _ M
 obtain ⟨c,i,N⟩:=hp 1 3 1 rfl
 obtain ⟨X,C,S⟩:=uy _ _ _ _ _ _ _ _ N
 obtain ⟨d,j,O⟩:=hp 2 3 2 rfl
 obtain ⟨Y,D,T⟩:=uy _ _ _ _ _ _ _ _ O
 obtain ⟨e,k,P⟩:=hp 3 3 3 rfl
 obtain ⟨Z,E,AA⟩:=uy _ _ _ _ _ _ _ _ P
 obtain ⟨f,l,Q⟩:=hp 4 3 4 rfl
 obtain ⟨a,F,V⟩:=uy _ _ _ _ _ _ _ _ Q
 refine ⟨⟨W,X,Y,Z,a⟩,?_,⟨R,S,T,AA,V⟩⟩
 have L:=gk (hl.trans QO) (by rw [uw]) F
 have K:=cG E (m:=4) (by rw [uw]) L
 have J:=cG D (m:=3) (by rw [uw]) K
 have AB:=cG C (m:=2) (by rw [uw]) J
 have G:=cG B (m:=1) (by rw [uw]) AB
 exact G
def Pq (w:World) (s:bK):Prop:= ∃ l:List bI,s.n=l.length∧(rd s.a l.length 5 (l.map bI.cells)).holds w∧(∀ x∈l,Ns w x)∧l.length≤maxLen∧s.n≤s.c
theorem Sd:qx Tryz.prog 34 bK (fun s=>[vS s.a s.n s.c]) Pq:=kM TO QO SB
structure Sy (w:World) (s:fW):Prop where
 Race:Pc w s.Race
 ay:PY w s.ay
 aM:Pq w s.aM
 fQ:sR w s.fQ
 z8:sR w s.z8
theorem Q8:fL Tryz.prog 36=some [(32,0),(33,11),(34,12),(3,13),(3,14)]:=by kernel_rfl
theorem RS:qx Tryz.prog 36 fW fW.cells Sy:=fun {H} enc w base sp A fuel cs x h=>by
 obtain ⟨hl,hp⟩:=iJ Q8 h
 obtain ⟨b,g,M⟩:=hp 0 32 0 rfl
 obtain ⟨W,B,R⟩:=SY _ _ _ _ _ _ _ _ M
 obtain ⟨c,i,N⟩:=hp 1 33 11 rfl
 obtain ⟨X,C,S⟩:=Tr _ _ _ _ _ _ _ _ N
 obtain ⟨d,j,O⟩:=hp 2 34 12 rfl
 obtain ⟨Y,D,T⟩:=Sd _ _ _ _ _ _ _ _ O
 obtain ⟨e,k,P⟩:=hp 3 3 13 rfl
 obtain ⟨Z,E,AA⟩:=uy _ _ _ _ _ _ _ _ P
 obtain ⟨f,l,Q⟩:=hp 4 3 14 rfl
 obtain ⟨a,F,V⟩:=uy _ _ _ _ _ _ _ _ Q
 refine ⟨⟨W,X,Y,Z,a⟩,?_,⟨R,S,T,AA,V⟩⟩
 have L:=gk (hl.trans SP) (by rw [uw]) F
 have K:=cG E (m:=14) (by rw [uw]) L
 have J:=cG D (m:=13) (by rw [Ss]) K
 have AB:=cG C (m:=12) (by rw [TF]) J
 have G:=cG B (m:=11) (by rw [PJ]) AB
 exact G
theorem vV:ownKnob Tryz.prog.godebug=none:=by kernel_rfl
theorem uE:laidOutB Tryz.prog=true:=by kernel_rfl
theorem sP (os:Os) (started:os.Started) (H:Type) (enc:TypeId×Value→H):
 ReturnsInHanded {} Tryz.checked os 3 .any (fun w args=>(Rows.juryTouchesSpec.pre enc Tryz.prog Tryz.f3 [] false w args∧laidMetH Tryz.prog [("kreisel/race.table",Rows.laid_kreisel_race_table)] w)∧sizedMet enc Tryz.prog Tryz.f3 (OpenSpec.ofChange Rows.juryTouchesSpec) false w args) (Rows.juryTouchesSpec.post enc Tryz.prog Tryz.f3 false true false false):=by
 refine returnsInHanded_of_change_and (C:=Tryz.checked) (X:=(fun w _=>laidMetH Tryz.prog [("kreisel/race.table",Rows.laid_kreisel_race_table)] w)) (fun _ _ _ hh h=>h.of_heap hh) vV started kr Tryz.func3
  (ChangeSpec.witness_shaped (enc:=enc) (C:=Tryz.checked) (os:=os) (X:=(fun w _=>laidMetH Tryz.prog [("kreisel/race.table",Rows.laid_kreisel_race_table)] w)) false (World.doorLaid Tryz.prog 400 os) #[.agg #[(vS none 0 0),(vI 0),(vS none 0 0),(vS none 0 0),(vI 0),(vI 0),(vI 0),(vS none 0 0),(vS none 0 0),(vI 0),(vS none 0 0),(vS none 0 0),(vS none 0 0),(vI 0),(vI 0)],vI 0,vI 0,vI 0,vI 0] 8 rfl (World.shaped_of_RefB kr kr) kr kr kr (CM os _)) ?_
 intro W base args ds gs before E hW _ _ hL _
 have D: ∀ (j:Nat) t v,Tryz.f3.params[j]? =some t→args[j]? =some v→Value.okWide Tryz.prog W .any base t v:=E
 have hW':=hW
 obtain ⟨p,q,K,hV,rfl,l,m⟩:=hW
 have hA:DataW.TrodAll enc Tryz.prog W 0 (fun _=>true) true Tryz.f3.params.toList args.toList ds p:=K
 have F:=hA
 rw [Tryz.params3] at hA D
 obtain ⟨Q,A0,d0,V,p0,q0,L,rfl,rfl,c,n⟩:=trodAll_cons hA
 obtain ⟨R,A1,d1,Y,p1,q1,rfl,rfl,rfl,d,o⟩:=trodAll_cons n
 obtain ⟨S,A2,d2,Z,p2,q2,rfl,rfl,rfl,f,r⟩:=trodAll_cons o
 obtain ⟨T,A3,d3,a,p3,q3,rfl,rfl,rfl,g,s⟩:=trodAll_cons r
 obtain ⟨AA,A4,d4,b,p4,q4,rfl,rfl,rfl,i,u⟩:=trodAll_cons s
 obtain ⟨rfl,rfl,rfl⟩:=trodAll_nil u
 obtain rfl:args= #[Q,R,S,T,AA]:=by cases args; simp_all
 obtain ⟨rfl,rfl⟩:=trodVars_none hV
 obtain ⟨s0,rfl,R0⟩:=DC Q8 RS (D 0 36 Q rfl rfl) c
 obtain ⟨y,rfl,R1⟩:=wk (k:= .i64) nX (D 1 3 R rfl rfl) d
 obtain ⟨z,rfl,R2⟩:=wk (k:= .i64) nX (D 2 3 S rfl rfl) f
 obtain ⟨s3,rfl,R3⟩:=wk (k:= .i64) nX (D 3 3 T rfl rfl) g
 obtain ⟨s4,rfl,R4⟩:=wk (k:= .i64) nX (D 4 3 AA rfl rfl) i
 simp only [List.append_nil] at hW' F
 have J:=yi hL
 obtain ⟨j,az,ha,kA,kC,cA,cC,bA,bC,O,P,drA,drC,M,N,faA,faC,prA,prC,rfl,G,B⟩:=Fy (R1:=HX) (R2:=Ju) (R3:=HP) (R4:=HA) (R5:=sR) (R6:=Nu) (R7:=NU) (R8:=ID) (R9:=OH) (R10:=Ns) R0.Race.ar.aO.ku (fun x hx=>hx.iW) R0.Race.ar.aj (fun x hx=>hx.bp) R0.Race.ar.ab R0.Race.bg R0.Race.cm R0.Race.aB (fun x hx=>hx) (fun x hx=>hx.aZ.aa) R0.ay (fun x hx=>hx.Kind) R0.aM
 have AB:=(yg j kA kC az cA cC bA bC O P drA drC ha M N faA faC prA prC y z s3 s4 G).run W (by intro A hA; simp only [cg,List.not_mem_nil,or_false] at hA; rcases hA with rfl|rfl|rfl|rfl|rfl|rfl|rfl|rfl|rfl|rfl|rfl; exact J; exact B.1; exact B.2.1; exact B.2.2.1; exact B.2.2.2.1; exact B.2.2.2.2.1; exact B.2.2.2.2.2.1; exact B.2.2.2.2.2.2.1; exact B.2.2.2.2.2.2.2.1; exact B.2.2.2.2.2.2.2.2.1; exact B.2.2.2.2.2.2.2.2.2)
 refine (AB).mono fun e W' ⟨he,hk⟩=>?_
 subst he
 exact ⟨_,U,IV uE hW' F U U kr hk.below kr RL⟩
theorem tY:Rows.JuryTouchesSaid:=
 OpenClaim.holds_of_wide 3 Tryz.f3 rfl rfl rfl rfl rfl rfl rfl ⟨rfl,rfl,rfl,rfl,rfl⟩ rfl rfl rfl rfl rfl kr Tryz.func3 sb
  (of_decide_eq_true kr) (by unfold Func.isWrapper; first|(rw [if_pos (by decide+kernel)]; kernel_rfl)|(rw [if_neg (by decide+kernel)]; exact ⟨rfl,rfl⟩))
  (fun os started H enc _=>sP os started H enc)
/-- the statement -/
theorem juryTouches_said:Rows.JuryTouchesCardSaid:=
 Claim7.holds_tied_plain_at .later [] [.funcsDeep] true (true,"e8b49bee3c5e544e2c7502e23a678660d8319ee0f11ce60c169a77c620e7f075") false
  tY (fun _ h=>by cases h) kr (fun _ h=>by cases h) juryTouches_row_tie rfl ⟨rfl,rfl⟩ kr rfl
  (fun f fn hf B=>by
   obtain rfl:f=3:=Option.some.inj ((show Tryz.prog.funcNamed "kreisel/kreisellaw07.JuryTouches"=some 3 by kernel_rfl).symm.trans hf) |>.symm
   obtain rfl:fn=Tryz.f3:=(Option.some.inj (Tryz.func3.symm.trans B)).symm
   exact ⟨kr,fun j t ht=>by
    rw [Tryz.params3] at ht
    have hm:t∈([36,3,3,3,3]:List Nat):=by simpa using Array.mem_of_getElem? ht
    have A:(([36,3,3,3,3]:List Nat).all fun u=> !Tryz.prog.wantsStandIn u)=true:=by kernel_rfl
    exact (show Tryz.prog.wantsStandIn t=false by simpa using cY.1 A t hm)⟩)
  kr
#print axioms juryTouches_said
end
end Go.Proofs.YtgcjjjehnjljbaaGreatDoor
