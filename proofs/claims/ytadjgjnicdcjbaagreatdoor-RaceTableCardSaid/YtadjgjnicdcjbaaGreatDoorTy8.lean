/-
 The statement raceTable_said, part 8 of 8: Rx10, Rx11, Rx12, Rz1, Rz2, Rt2, Rx2, Rz3, Rz4, Rr2, Rr3, Rr4, Rr5, Rra, Ry1, Ry5, Ry8, LineOpen, RaceOpen, Table0.
 Conditions: none.
-/
import Derived.Test.YtadjgjnicdcjbaaGreatDoorTy1
import Derived.Test.YtadjgjnicdcjbaaGreatDoorTy2
import Derived.Test.YtadjgjnicdcjbaaGreatDoorTy3
import Derived.Test.YtadjgjnicdcjbaaGreatDoorTy4
import Derived.Test.YtadjgjnicdcjbaaGreatDoorTy5
import Derived.Test.YtadjgjnicdcjbaaGreatDoorTy6
import Derived.Test.YtadjgjnicdcjbaaGreatDoorTy7
import Derived.Test.YtadjgjnicdcjbaaGreatDoorCards
import Derived.Test.YtadjgjnicdcjbaaGreatDoorTie
import Derived.SevenTiedAt
import Derived.LaidMore
import Derived.Stop.Joined
import Derived.Test.YtadjgjnicdcjbaaGreatDoorRows
import Derived.Test.YtadjgjnicdcjbaaGreatDoorProg
import Derived.KernelRfl
namespace Go.Proofs.YtadjgjnicdcjbaaGreatDoor
set_option maxRecDepth 100000
set_option maxHeartbeats 4000000
set_option linter.unusedVariables false
section
open Go.RowKit
theorem w8 (r:bT) (kA:OA) (kC:Nat) (az:List RA) (cA:OA) (cC:Nat) (bA:OA) (bC:Nat) (slA:OA) (slC:Nat) (drA:OA) (drC:Nat) (ha:List cO) (heA:OA) (heC:Nat) (tz:List RA) (tA:OA) (tC:Nat) (ms:Value) (gw:Nat) (h i:Int) (t:aa) (hin:e9 r az ha) (hok:eP r):
 lq Tryz.prog 40 [(vP gw),(vI h),(vI i),(vA (aa.cells t))] [(rd kA r.ao.aP.length 9 (r.ao.aP.map al.cells)),(rd cA r.ao.ak.length 2 (List.zipWith ar.cells r.ao.ak az)),(eW (aV ar.gZ r.ao.ak az)),(rd bA r.ao.ae.length 4 (r.ao.ae.map bD.cells)),(rd slA r.aQ.length 1 (r.aQ.map iC)),(rd drA r.bQ.length 1 (r.bQ.map iC)),(rd heA r.ay.length 1 (List.zipWith cP r.ay ha)),(eW (aV iq r.ay ha)),(rd tA ((cN r).length) 1 (List.zipWith E1 (cN r) tz)),(eW (aV Mu (cN r) tz)),(bV gw 91 (fH.cells (fH.mk (oF r kA kC cA cC bA bC slA slC drA drC heA heC) (br.mk tA ((cN r).length) tC) ms)))] (fun (x:Bool×Int×(OA)×Nat×(OA)×Nat×(List RA)×(OA)×Nat×(OA)×Nat×(OA)×Nat×(OA)×Nat×(List cO))=>bif x.1 then (vT [(vA (cw.cells (cw.mk (ck.mk (bE.mk (br.mk x.2.2.1 r.ao.aP.length x.2.2.2.1)) r.ao.hO (br.mk x.2.2.2.2.1 r.ao.ak.length x.2.2.2.2.2.1) (br.mk x.2.2.2.2.2.2.2.1 r.ao.ae.length x.2.2.2.2.2.2.2.2.1) r.ao.cH r.ao.eU r.ao.cV) (br.mk x.2.2.2.2.2.2.2.2.2.1 r.aQ.length x.2.2.2.2.2.2.2.2.2.2.1) (br.mk x.2.2.2.2.2.2.2.2.2.2.2.1 r.bQ.length x.2.2.2.2.2.2.2.2.2.2.2.2.1) r.iI (br.mk x.2.2.2.2.2.2.2.2.2.2.2.2.2.1 ((gO r.ay h i t).length) x.2.2.2.2.2.2.2.2.2.2.2.2.2.2.1)))),(vI 0)]) else (vT [(vA (cw.cells (cw.mk (ck.mk (bE.mk (br.mk none 0 0)) 0 (br.mk none 0 0) (br.mk none 0 0) 0 0 0) (br.mk none 0 0) (br.mk none 0 0) 0 (br.mk none 0 0)))),(vI x.2.1)])) (fun (x:Bool×Int×(OA)×Nat×(OA)×Nat×(List RA)×(OA)×Nat×(OA)×Nat×(OA)×Nat×(OA)×Nat×(List cO))=>(x.1=true→((ql r h i t)=0∧(x.2.2.2.2.2.2.1.length=r.ao.ak.length∧rJ r.ao.ak x.2.2.2.2.2.2.1)∧sR (gO r.ay h i t) x.2.2.2.2.2.2.2.2.2.2.2.2.2.2.2))∧(x.1=false→(x.2.1=(ql r h i t)∧ ¬ (ql r h i t)=0))) (fun (x:Bool×Int×(OA)×Nat×(OA)×Nat×(List RA)×(OA)×Nat×(OA)×Nat×(OA)×Nat×(OA)×Nat×(List cO))=>bif x.1 then [(own x.2.2.1 x.2.2.2.1 114 9 (r.ao.aP.map al.cells)),(own x.2.2.2.2.1 x.2.2.2.2.2.1 119 2 (List.zipWith ar.cells r.ao.ak x.2.2.2.2.2.2.1)),(bw (aV ar.owns r.ao.ak x.2.2.2.2.2.2.1)),(own x.2.2.2.2.2.2.2.1 x.2.2.2.2.2.2.2.2.1 121 4 (r.ao.ae.map bD.cells)),(own x.2.2.2.2.2.2.2.2.2.1 x.2.2.2.2.2.2.2.2.2.2.1 3 1 (r.aQ.map iC)),(own x.2.2.2.2.2.2.2.2.2.2.2.1 x.2.2.2.2.2.2.2.2.2.2.2.2.1 3 1 (r.bQ.map iC)),(own x.2.2.2.2.2.2.2.2.2.2.2.2.2.1 x.2.2.2.2.2.2.2.2.2.2.2.2.2.2.1 46 1 (List.zipWith cP (gO r.ay h i t) x.2.2.2.2.2.2.2.2.2.2.2.2.2.2.2)),(bw (aV jc (gO r.ay h i t) x.2.2.2.2.2.2.2.2.2.2.2.2.2.2.2))] else []):=by
 have AI:=hin.line
 have AU:=hin.iM
 have AY:=hin.has
 have AP:=hin.iL
 have AM:=hin.draw
 have AQ:=dB (r:=r)
 have Aa:=hok.num
 have AZ:=hok.nh
 refine dj Vp Tryz.func40 U U fun w0 Q hQ hN=>?_
 try dsimp only
 refine WS fun _ AC=>fK U fun b2=>AL U Cu fun b3=>bf 1 U<|RK AC<|ah fun _ AD=>WS fun _ J=>bf 1 U<|rS (SX (bI U U) U U)<|rP 6 [] (mr 12 U mn) ?_
 refine cU (xs:=[.tmp 18]) (cs:=[(vI h)]) U cq jd U U U U (by simp [Value.cells]) U U fun b6=>?_
 refine rS (CL (dT.eq (j2 0 ((r.ay.length:Int)-1) ([h]) (some ⟨b6,0,none⟩) 1 sd) cS) (aw (aZ 0 U U (by simp [bB]) U)<|aI) U) ?_
 refine rP 2 [] mn ?_
 refine cR (t:=22) U (bq fun AA=>?_) (bp fun AA=>?_)
 ·refine bf 11 U<|RK J<|aO U<|WS fun _ AE=>rS (SX (bh (xs:=[]) (cs:=(cw.cells (cw.mk (ck.mk (bE.mk (br.mk none 0 0)) 0 (br.mk none 0 0) (br.mk none 0 0) 0 0 0) (br.mk none 0 0) (br.mk none 0 0) 0 (br.mk none 0 0)))) U U (bg Hn U)) U U)<|ua U sU U<|rP 1 [] mn ?_
  refine RK AE<|an ?_
  refine LX hQ (false,2,none,0,none,0,[],none,0,none,0,none,0,none,0,[]) [] [0] (mc 1 U mn) U (by first|rfl|(show List.all _ _=true; simp only [cond_true,fB,List.all_nil,gj,kv,Bool.and_true]; rfl)) U ?_ ?_
  ·first|rfl|(simp only [cond_true,iQ]; rfl)
  ·refine ⟨AW,fun _=>?_⟩; first|exact pU (ml (r:=r) (h:=h) (i:=i) (t:=t) I)|exact pU (ml (r:=r) (h:=h) (i:=i) (t:=t) (fun q=>absurd q.2 asm))|exact pU (sT (r:=r) (t:=t) ⟨I,asm⟩ A hd H)
 refine rP 2 [] mn ?_
 refine cU (xs:=[.tmp 24]) (cs:=[(vI i)]) U cq jd U U U U (by simp [Value.cells]) U U fun b8=>?_
 refine rS (CL (dT.eq (AV r kA kC az cA cC bA bC slA slC drA drC ha heA heC tz tA tC ms gw ([i]) (some ⟨b8,0,none⟩) 1 hin sd) cS) (lL [4,5,6,7,8,9,10,11,12,13,14]<|aw (aZ 0 U U (by simp [bB]) U)<|aI) U) ?_
 refine rP 3 [] mn ?_
 refine cR (t:=29) U (bq fun AB=>?_) (bp fun AB=>?_)
 ·refine bf 4 U<|RK J<|aO U<|WS fun _ AF=>rS (SX (bh (xs:=[]) (cs:=(cw.cells (cw.mk (ck.mk (bE.mk (br.mk none 0 0)) 0 (br.mk none 0 0) (br.mk none 0 0) 0 0 0) (br.mk none 0 0) (br.mk none 0 0) 0 (br.mk none 0 0)))) U U (bg Hn U)) U U)<|HL U sU U<|rP 1 [] mn ?_
  refine RK AF<|an ?_
  refine LX hQ (false,2,none,0,none,0,[],none,0,none,0,none,0,none,0,[]) [] [0] (mc 2 U mn) U (by first|rfl|(show List.all _ _=true; simp only [cond_true,fB,List.all_nil,gj,kv,Bool.and_true]; rfl)) U ?_ ?_
  ·first|rfl|(simp only [cond_true,iQ]; rfl)
  ·refine ⟨AW,fun _=>?_⟩; first|exact pU (ml (r:=r) (h:=h) (i:=i) (t:=t) I)|exact pU (ml (r:=r) (h:=h) (i:=i) (t:=t) (fun q=>absurd q.2 asm))|exact pU (sT (r:=r) (t:=t) ⟨I,asm⟩ A hd H)
 refine fw 1 [] (mc 3 U mn) U<|rS (CL (Fc t) (aI) U)<|rP 2 [] mn ?_
 refine RK J<|cy U (bq fun Z=>?_) (bp fun Z=>?_)
 ·refine WS fun _ b=>rS (SX (bh (xs:=[]) (cs:=(cw.cells (cw.mk (ck.mk (bE.mk (br.mk none 0 0)) 0 (br.mk none 0 0) (br.mk none 0 0) 0 0 0) (br.mk none 0 0) (br.mk none 0 0) 0 (br.mk none 0 0)))) U U (bg Hn U)) U U)<|HL U sU U<|rP 1 [] mn ?_
  refine RK b<|an ?_
  refine LX hQ (false,2,none,0,none,0,[],none,0,none,0,none,0,none,0,[]) [] [0] (mc 2 U mn) U (by first|rfl|(show List.all _ _=true; simp only [cond_true,fB,List.all_nil,gj,kv,Bool.and_true]; rfl)) U ?_ ?_
  ·first|rfl|(simp only [cond_true,iQ]; rfl)
  ·refine ⟨AW,fun _=>?_⟩; first|exact pU (ml (r:=r) (h:=h) (i:=i) (t:=t) I)|exact pU (ml (r:=r) (h:=h) (i:=i) (t:=t) (fun q=>absurd q.2 asm))|exact pU (sT (r:=r) (t:=t) ⟨I,asm⟩ A hd H)
 refine WK AD<|ah fun _ e=>WS fun _ f=>bf 1 U<|rS (SX (bI U U) U U)<|rP 4 [] (mr 14 U mn) ?_
 obtain ⟨ht,A⟩:=aJ r.ay ((h).toNat) I
 obtain ⟨C,E⟩:=aJ ha ((h).toNat) I
 have w:(List.zipWith cP r.ay ha)[(h).toNat]? =some (cP ht C):=dy A E
 refine rS (IA ((h).toNat) U (aD 10 U) ry dc I I) ?_
 have AH:=hin.o1 _ _ _ A E
 have AN:=AH.ov
 have AX:=(hok.o1 ht (aR A)).1
 refine rS (fV ((h).toNat) 0 (vS C.1.1 ht.length C.1.2) U PW (aD 10 U) w U dc U)<|rP 1 [] mn ?_
 obtain ⟨d,hd⟩:=aJ ht ((i).toNat) I
 obtain ⟨da,K⟩:=aJ C.2 ((i).toNat) I
 have AG:(List.zipWith ax.cells ht C.2)[(i).toNat]? =some (ax.cells d da):=dy hd K
 refine rS (IA ((i).toNat) U (show ij _ (rd C.1.1 ht.length 7 (List.zipWith ax.cells ht C.2)).holds from (du 11 U (bM A E cb))) xD dc I I)<|rS (nR (((i).toNat)*7) U (show ij _ (rd C.1.1 ht.length 7 (List.zipWith ax.cells ht C.2)).holds from (du 11 U (bM A E cb))) (Nat.mul_pos I dc) Qf U)<|rS (fV ((i).toNat) 0 (vB d.Out) U VG (show ij _ (rd C.1.1 ht.length 7 (List.zipWith ax.cells ht C.2)).holds from (du 11 U (bM A E cb))) AG U dc U)<|RK f<|cy U (fun H=>?_) (fun H=>?_)
 ·refine WS fun _ g=>rS (SX (bh (xs:=[]) (cs:=(cw.cells (cw.mk (ck.mk (bE.mk (br.mk none 0 0)) 0 (br.mk none 0 0) (br.mk none 0 0) 0 0 0) (br.mk none 0 0) (br.mk none 0 0) 0 (br.mk none 0 0)))) U U (bg Hn U)) U U)<|HL U sU U<|rP 1 [] mn ?_
  refine RK g<|an ?_
  refine LX hQ (false,8,none,0,none,0,[],none,0,none,0,none,0,none,0,[]) [] [0] (mc 2 U mn) U (by first|rfl|(show List.all _ _=true; simp only [cond_true,fB,List.all_nil,gj,kv,Bool.and_true]; rfl)) U ?_ ?_
  ·first|rfl|(simp only [cond_true,iQ]; rfl)
  ·refine ⟨AW,fun _=>?_⟩; first|exact pU (ml (r:=r) (h:=h) (i:=i) (t:=t) I)|exact pU (ml (r:=r) (h:=h) (i:=i) (t:=t) (fun q=>absurd q.2 asm))|exact pU (sT (r:=r) (t:=t) ⟨I,asm⟩ A hd H)
 refine WK e<|WS fun _ j=>bf 1 U<|rS (SX (bI U U) U U)<|rP 1 [] mn ?_
 refine rS (Vw (cw.cells (oF r kA kC cA cC bA bC slA slC drA drC heA heC)) 14 U Tn U U U)<|cX (Ns r kA kC az cA cC bA bC slA slC drA drC ha heA heC hin) (bj [4,5,6,7,8,9,10,11]) U fun AK z=>?_
 obtain ⟨L,T,M,AS,S,N,V,O,W,P,X,R,Y,G⟩:=AK
 try dsimp only
 obtain ⟨⟨s,u⟩,D⟩:=z
 try dsimp only at s u D
 have AO:=D.1
 refine AL U Cu fun AR=>fP U sU U<|RK j<|ah fun _ l=>?_
 obtain ⟨B,F⟩:=aJ G ((h).toNat) (by have:=D.1; omega)
 have y:(List.zipWith cP r.ay G)[(h).toNat]? =some (cP ht B):=dy A F
 have AJ:=D.2 _ _ _ A F
 refine Qk 8 A F U U ?_
 try dsimp only
 refine dA cu 9 kr<|mJ 3 [] (mc 3 U mn) U<|dS (IA ((h).toNat) U (ai (n:=r.ay.length) 10 U (fg D.1)) ry dc I I)<|dS (fV ((h).toNat) 0 (vS B.1.1 ht.length B.1.2) U PW (ai (n:=r.ay.length) 10 U (fg D.1)) y U dc U)<|dP 2 [] (mc 14 U mn) ?_
 refine dS (SX (bh (xs:=[(1,.const (vB true)),(2,.tmp 59)]) (cs:=(bk.cells (bk.mk false true t (eC.mk 0 0 (br.mk none 0 0))))) U U (bg PG U)) U U) ?_
 obtain ⟨K,AT⟩:=aJ B.2 ((i).toNat) I
 have v:(List.zipWith ax.cells ht B.2)[(i).toNat]? =some (ax.cells d K):=dy hd AT
 refine dS (IA ((i).toNat) U (ai (n:=ht.length) 0 U (qi AJ)) xD dc I I)<|cL<|eu (k:=(i).toNat) (o:=0) (vs:=(bk.cells (bk.mk false true t (eC.mk 0 0 (br.mk none 0 0))))) (es':=(List.zipWith ax.cells (ht.set (i).toNat (kI t)) (B.2.set (i).toNat (none,0)))) (C':=[(own B.1.1 B.1.2 45 7 (List.zipWith ax.cells (ht.set (i).toNat (kI t)) (B.2.set (i).toNat (none,0)))),_,_,_,_,_,_,_,_,_,_,_,_,_,_,_,_,_,_,_,_,_,_,_,_,_]) 0 U U U PE U U U U v U dc (by exact qG (c:=ax.cells) (m:=kI t) (a:=(none,0))) U<|RK l<|ah fun _ p=>P3 (d':=kI t) 1 hd AT U U U ?_
 refine Od (h':=(ht.set (i).toNat (kI t))) (a':=(B.1,(B.2.set (i).toNat (none,0)))) 2 0 1 I (by have:=D.1; omega) U U ?_
 rw [← wc A,show List.zipWith cP r.ay G=List.zipWith cP (gO r.ay h i t) (G.set (h).toNat (B.1,(B.2.set (i).toNat (none,0)))) from by rw [wc A]; exact (GH A F (by rw [List.length_set])).symm]
 replace D:=P4 (i:=i) (t:=t) D A F
 refine aj<|fw 1 [] (mc 1 U mn) U<|UI U sU U<|rP 1 [] mn ?_
 refine RK p<|an ?_
 refine LX hQ (true,0,L,T,M,AS,S,N,V,O,W,P,X,R,Y,(G.set (h).toNat (B.1,(B.2.set (i).toNat (none,0))))) [2,3,4,5,6,7,8,0] [0] (mc 11 U mn) U (by first|rfl|(show List.all _ _=true; simp only [cond_true,fB,List.all_nil,gj,kv,Bool.and_true]; rfl)) U ?_ ?_
 ·first|rfl|(simp only [cond_true,iQ]; rfl)
 ·exact ⟨fun _=>⟨MF ⟨I,Z⟩ A hd H,⟨s,u⟩,D⟩,ND⟩
end
section
open Go.RowKit
theorem LR (h i:Int) (t:aa) (r:bT) (kA:OA) (kC:Nat) (az:List RA) (cA:OA) (cC:Nat) (bA:OA) (bC:Nat) (slA:OA) (slC:Nat) (drA:OA) (drC:Nat) (ha:List cO) (heA:OA) (heC:Nat) (hin:e9 r az ha):
 lq Tryz.prog 17 [(vA (cw.cells (oF r kA kC cA cC bA bC slA slC drA drC heA heC))),(vI h),(vI i),(vA (aa.cells t))] [(rd eX 3 2 dY),(rd kA r.ao.aP.length 9 (r.ao.aP.map al.cells)),(rd cA r.ao.ak.length 2 (List.zipWith ar.cells r.ao.ak az)),(eW (aV ar.gZ r.ao.ak az)),(rd bA r.ao.ae.length 4 (r.ao.ae.map bD.cells)),(rd slA r.aQ.length 1 (r.aQ.map iC)),(rd drA r.bQ.length 1 (r.bQ.map iC)),(rd heA r.ay.length 1 (List.zipWith cP r.ay ha)),(eW (aV iq r.ay ha))] (fun (x:Bool×Int×(OA)×Nat×(OA)×Nat×(List RA)×(OA)×Nat×(OA)×Nat×(OA)×Nat×(OA)×Nat×(List cO))=>bif x.1 then (vT [(vA (cw.cells (cw.mk (ck.mk (bE.mk (br.mk x.2.2.1 r.ao.aP.length x.2.2.2.1)) r.ao.hO (br.mk x.2.2.2.2.1 r.ao.ak.length x.2.2.2.2.2.1) (br.mk x.2.2.2.2.2.2.2.1 r.ao.ae.length x.2.2.2.2.2.2.2.2.1) r.ao.cH r.ao.eU r.ao.cV) (br.mk x.2.2.2.2.2.2.2.2.2.1 r.aQ.length x.2.2.2.2.2.2.2.2.2.2.1) (br.mk x.2.2.2.2.2.2.2.2.2.2.2.1 r.bQ.length x.2.2.2.2.2.2.2.2.2.2.2.2.1) r.iI (br.mk x.2.2.2.2.2.2.2.2.2.2.2.2.2.1 ((gO r.ay h i t).length) x.2.2.2.2.2.2.2.2.2.2.2.2.2.2.1)))),(vI 0)]) else (vT [(vA (cw.cells (cw.mk (ck.mk (bE.mk (br.mk none 0 0)) 0 (br.mk none 0 0) (br.mk none 0 0) 0 0 0) (br.mk none 0 0) (br.mk none 0 0) 0 (br.mk none 0 0)))),(vI x.2.1)])) (fun (x:Bool×Int×(OA)×Nat×(OA)×Nat×(List RA)×(OA)×Nat×(OA)×Nat×(OA)×Nat×(OA)×Nat×(List cO))=>(x.1=true→((gI r h i t)=0∧(x.2.2.2.2.2.2.1.length=r.ao.ak.length∧rJ r.ao.ak x.2.2.2.2.2.2.1)∧sR (gO r.ay h i t) x.2.2.2.2.2.2.2.2.2.2.2.2.2.2.2))∧(x.1=false→(x.2.1=(gI r h i t)∧ ¬ (gI r h i t)=0))) (fun (x:Bool×Int×(OA)×Nat×(OA)×Nat×(List RA)×(OA)×Nat×(OA)×Nat×(OA)×Nat×(OA)×Nat×(List cO))=>bif x.1 then [(own x.2.2.1 x.2.2.2.1 114 9 (r.ao.aP.map al.cells)),(own x.2.2.2.2.1 x.2.2.2.2.2.1 119 2 (List.zipWith ar.cells r.ao.ak x.2.2.2.2.2.2.1)),(bw (aV ar.owns r.ao.ak x.2.2.2.2.2.2.1)),(own x.2.2.2.2.2.2.2.1 x.2.2.2.2.2.2.2.2.1 121 4 (r.ao.ae.map bD.cells)),(own x.2.2.2.2.2.2.2.2.2.1 x.2.2.2.2.2.2.2.2.2.2.1 3 1 (r.aQ.map iC)),(own x.2.2.2.2.2.2.2.2.2.2.2.1 x.2.2.2.2.2.2.2.2.2.2.2.2.1 3 1 (r.bQ.map iC)),(own x.2.2.2.2.2.2.2.2.2.2.2.2.2.1 x.2.2.2.2.2.2.2.2.2.2.2.2.2.2.1 46 1 (List.zipWith cP (gO r.ay h i t) x.2.2.2.2.2.2.2.2.2.2.2.2.2.2.2)),(bw (aV jc (gO r.ay h i t) x.2.2.2.2.2.2.2.2.2.2.2.2.2.2.2))] else []):=by
 have u:=hin.line
 have AD:=hin.iM
 have AE:=hin.has
 have AA:=hin.iL
 have z:=hin.draw
 have e:=dB (r:=r)
 refine dj kr Tryz.func17 U U fun w0 Q hQ hN=>?_
 try dsimp only
 refine WS fun _ s=>fK U fun b2=>fK U fun b3=>AL U Cu fun b4=>bf 1 U<|RK s<|WS fun _ Y=>rP 1 [] (mc 2 U mn) ?_
 refine cX (n9 r kA kC az cA cC bA bC slA slC drA drC ha heA heC hin) (bj [3,4,5,6,7,8,9,10,11]) U fun y6 g=>?_
 obtain ⟨k,AC,q,S,m,o,p⟩:=y6
 cases k
 ·obtain ⟨M,he⟩:=g.2 rfl
  try dsimp only at M he
  subst M
  try dsimp only [cond_true,cond_false,List.cons_append,List.nil_append]
  refine bf 5 U<|RK Y<|ah fun _ y=>WS fun _ AB=>rP 2 [] mn ?_
  refine RK AB<|bL U (bp fun T=>?_) (bq fun T=>?_)
  ·exact absurd T he
  refine WS fun _ V=>rS (SX (bh (xs:=[]) (cs:=(cw.cells (cw.mk (ck.mk (bE.mk (br.mk none 0 0)) 0 (br.mk none 0 0) (br.mk none 0 0) 0 0 0) (br.mk none 0 0) (br.mk none 0 0) 0 (br.mk none 0 0)))) U U (bg Hn U)) U U)<|bf 1 U<|fP U sU U<|rP 1 [] mn ?_
  refine RK V<|an ?_
  refine LX hQ (false,(cK r),none,0,none,0,[],none,0,none,0,none,0,none,0,[]) [] [0] (mc 0 U mn) U (by first|rfl|(show List.all _ _=true; simp only [cond_true,fB,List.all_nil,gj,kv,Bool.and_true]; rfl)) U ?_ ?_
  ·first|rfl|(simp only [cond_true,iQ]; rfl)
  ·refine ⟨AW,fun _=>?_⟩; first|exact Me (rV (h:=h) (i:=i) (t:=t) he) he|exact Me (oS (h:=h) (i:=i) (t:=t) b) he
 obtain ⟨he,f⟩:=g.1 rfl
 try dsimp only [cond_true,cond_false,List.cons_append,List.nil_append]
 have b:=he
 try dsimp only at f
 have d:=(iG he).2
 refine bf 5 U<|RK Y<|ah fun _ W=>WS fun _ X=>bf 1 U<|rS (SX (bU (r:= .bool false) U U U l6) U U)<|RK X<|aW U<|WK W<|WS fun _ N=>rP 4 [] (mc 5 U mn) ?_
 refine cX (w8 r kA kC az cA cC bA bC slA slC drA drC ha heA heC p m o (Value.map (some S)) q h i t hin (by exact d)) (lL [8,9,10,11,12,13,14,15]<|aw (ai (n:=(cN r).length) 1 U (mO (by rw [e]; exact f)))<|aw (cM 2 U tH)<|fz 0 U U<|aI) U fun v P=>?_
 obtain ⟨l,w,A,G,B,H,R,C,AF,D,J,E,K,F,L,j⟩:=v
 cases l
 ·obtain ⟨M,he⟩:=P.2 rfl
  try dsimp only at M he
  subst M
  try dsimp only [cond_true,cond_false,List.cons_append,List.nil_append]
  refine bf 2 U<|Pd U sU U<|rP 1 [] mn ?_
  refine RK N<|an ?_
  refine LX hQ (false,(ql r h i t),none,0,none,0,[],none,0,none,0,none,0,none,0,[]) [] [0] (mc 4 U mn) U (by first|rfl|(show List.all _ _=true; simp only [cond_true,fB,List.all_nil,gj,kv,Bool.and_true]; rfl)) U ?_ ?_
  ·first|rfl|(simp only [cond_true,iQ]; rfl)
  ·refine ⟨AW,fun _=>?_⟩; first|exact Me (rV (h:=h) (i:=i) (t:=t) he) he|exact Me (oS (h:=h) (i:=i) (t:=t) b) he
 obtain ⟨O,⟨Z,a⟩,c⟩:=P.1 rfl
 try dsimp only [cond_true,cond_false,List.cons_append,List.nil_append]
 try dsimp only at O Z a c
 refine bf 2 U<|jl (vs:=(cw.cells (cw.mk (ck.mk (bE.mk (br.mk A r.ao.aP.length G)) r.ao.hO (br.mk B r.ao.ak.length H) (br.mk C r.ao.ae.length AF) r.ao.cH r.ao.eU r.ao.cV) (br.mk D r.aQ.length J) (br.mk E r.bQ.length K) r.iI (br.mk F ((gO r.ay h i t).length) L)))) (cs':=(cw.cells (cw.mk (ck.mk (bE.mk (br.mk A r.ao.aP.length G)) r.ao.hO (br.mk B r.ao.ak.length H) (br.mk C r.ao.ae.length AF) r.ao.cH r.ao.eU r.ao.cV) (br.mk D r.aQ.length J) (br.mk E r.bQ.length K) r.iI (br.mk F ((gO r.ay h i t).length) L)))) (C':=[_,_,_,_,_,_,_,_,_,_,_,_,(bV b4 35 (cw.cells (cw.mk (ck.mk (bE.mk (br.mk A r.ao.aP.length G)) r.ao.hO (br.mk B r.ao.ak.length H) (br.mk C r.ao.ae.length AF) r.ao.cH r.ao.eU r.ao.cV) (br.mk D r.aQ.length J) (br.mk E r.bQ.length K) r.iI (br.mk F ((gO r.ay h i t).length) L)))),_,_,_,_,_,_,_,_,_,_,_]) 12 U U U sU U U U U U U U<|rP 1 [] mn ?_
 refine RK N<|an ?_
 refine LX hQ (true,0,A,G,B,H,R,C,AF,D,J,E,K,F,L,j) [0,1,2,3,4,5,6,7] [0] (mc 12 U mn) U (by first|rfl|(show List.all _ _=true; simp only [cond_true,fB,List.all_nil,gj,kv,Bool.and_true]; rfl)) U ?_ ?_
 ·first|rfl|(simp only [cond_true,iQ]; rfl)
 ·exact ⟨fun _=>⟨(oS he).trans O,⟨Z,a⟩,c⟩,ND⟩
end
section
open Go.RowKit
theorem MU (la:List Int) (laA:OA) (laC:Nat) (lb:List Int) (lbA:OA) (lbC:Nat) (h1:la.length≤1000000) (h2:lb.length≤1000000):
 dT Tryz.prog 43 [(vS laA la.length laC),(vS lbA lb.length lbC)] [(rd laA la.length 1 (la.map iC)),(rd lbA lb.length 1 (lb.map iC))] (vB (decide (la=lb))):=by
 refine bx kr Tryz.func43 U U fun W Q hQ hN=>?_
 try dsimp only
 refine WS fun _ K=>bf 1 U<|RK K<|ah fun _ L=>WS fun _ M=>rP 5 [] mn ?_
 refine RK M<|cy U (bq fun hl=>?_) (bp fun hl=>?_)
 ·refine WS fun _ N=>rP 1 [] mn ?_
  refine RK N<|an<|Q1 hQ U U U ?_
  first|exact cB (cf (nA hx hy h)).symm|exact cB (fI (nM I A I)).symm|exact cB (cf (fun e=>by subst e; omega)).symm
 refine WK L<|ah fun _ O=>WS fun _ P=>rP 3 [] mn ?_
 refine RK P<|av ?_
 have B:(0≤la.length)∧(la.take 0=lb.take 0):=by simp
 refine bH (ι:={z:Nat // (z≤la.length)∧(la.take z=lb.take z)}) [0,1,12] [0,1] U U (fun z=>[(13,(vI (z.1:Int)))]) (fun z=>[]) (fun _=>rfl) (fun _=>rfl) (fun z=>la.length-z.1) ⟨0,B⟩ (aT U) (aH [0,1]) ?_
 clear B
 rintro ⟨i,⟨T,A⟩⟩ J7 J
 try dsimp only
 refine WS fun _ R=>rP 1 [] mn ?_
 refine RK R<|ah fun _ S=>bL U (aM fun AB=>?_) (aL fun AB=>?_)
 ·refine bu<|ab<|ab<|au<|KK O<|WS fun _ G=>rP 1 [] mn ?_
  refine RK G<|an<|Q1 hQ U U U ?_
  first|exact cB (cf (nA hx hy h)).symm|exact cB (fI (nM I A I)).symm|exact cB (cf (fun e=>by subst e; omega)).symm
 refine WK S<|ah fun _ C=>av<|WS fun _ D=>bf 2 U<|RK D<|ah fun _ E=>dA cu 9 kr<|dP 2 [] mn ?_
 obtain ⟨x,hx⟩:=aJ la i I
 have AA:=bG iC hx
 refine dS (IA i U (aD 0 U) cq dc I I)<|dS (fV i 0 (vI x) U bX (aD 0 U) AA U dc U)<|dP 2 [] mn ?_
 obtain ⟨y,hy⟩:=aJ lb i I
 have V:=bG iC hy
 refine dS (IA i U (aD 1 U) cq dc I I)<|dS (fV i 0 (vI y) U bX (aD 1 U) V U dc U)<|dP 1 [] mn ?_
 refine cL<|RK E<|cy U (bq fun h=>?_) (bp fun h=>?_)
 ·refine WS fun _ F=>rP 1 [] mn ?_
  refine RK F<|an<|Q1 hQ U U U ?_
  first|exact cB (cf (nA hx hy h)).symm|exact cB (fI (nM I A I)).symm|exact cB (cf (fun e=>by subst e; omega)).symm
 refine bZ<|aG<|KK C<|aj<|rP 2 [] mn ?_
 refine aC ?_
 have H:(vI (((i+1):Nat):Int))=(vI ((i:Int)+1)):=by exact cI I
 refine aS (J ⟨(i+1),⟨I,uA A hx hy h⟩⟩ _ _ _ U os (ct 3<|aX U H<|dh.nil _) (aH [0,1]))
theorem HV (h i:Int) (t:aa) (r:bT) (kA:OA) (kC:Nat) (az:List RA) (cA:OA) (cC:Nat) (bA:OA) (bC:Nat) (slA:OA) (slC:Nat) (drA:OA) (drC:Nat) (ha:List cO) (heA:OA) (heC:Nat) (hin:e9 r az ha):
 lq Tryz.prog 19 [(vA (cw.cells (oF r kA kC cA cC bA bC slA slC drA drC heA heC))),(vI h),(vI i),(vA (aa.cells t))] [(rd eX 3 2 dY),(rd kA r.ao.aP.length 9 (r.ao.aP.map al.cells)),(rd cA r.ao.ak.length 2 (List.zipWith ar.cells r.ao.ak az)),(eW (aV ar.gZ r.ao.ak az)),(rd bA r.ao.ae.length 4 (r.ao.ae.map bD.cells)),(rd slA r.aQ.length 1 (r.aQ.map iC)),(rd drA r.bQ.length 1 (r.bQ.map iC)),(rd heA r.ay.length 1 (List.zipWith cP r.ay ha)),(eW (aV iq r.ay ha))] (fun (x:(OA)×Nat)=>(vT [(vS x.1 ((eN r h i t).length) x.2),(vI (gI r h i t))])) (fun (x:(OA)×Nat)=>True) (fun (x:(OA)×Nat)=>[(own x.1 x.2 3 1 ((eN r h i t).map iC))]):=by
 have At:=hin.line
 have BI:=hin.iM
 have BJ:=hin.has
 have A6:=hin.iL
 have A4:=hin.draw
 have Ac:=dB (r:=r)
 refine dj kr Tryz.func19 U U fun w0 Q hQ hN=>?_
 try dsimp only
 refine WS fun _ As=>fK U fun b2=>fK U fun b3=>bf 2 U<|RK As<|WS fun _ AE=>rP 1 [] (mc 1 U mn) ?_
 refine cX (n9 r kA kC az cA cC bA bC slA slC drA drC ha heA heC hin) (bj [2,3,4,5,6,7,8,9,10]) U fun y5 Ad=>?_
 obtain ⟨Af,BG,v,G,f,g,AK⟩:=y5
 cases Af
 ·obtain ⟨B,he⟩:=Ad.2 rfl
  try dsimp only at B he
  subst B
  try dsimp only [cond_true,cond_false,List.cons_append,List.nil_append]
  refine bf 5 U<|RK AE<|ah fun _ A2=>WS fun _ AA=>rP 2 [] mn ?_
  refine RK AA<|bL U (bp fun w=>?_) (bq fun w=>?_)
  ·exact absurd w he
  refine WS fun _ AB=>rP 1 [] mn ?_
  have A:gI r h i t=cK r:=rV he
  have C:eN r h i t=[]:=xp (by rw [A]; exact he)
  refine dH 3 1 ?_
  rw [show (own none 0 3 1 ([]:List (List Value)))=own none 0 3 1 ((eN r h i t).map iC) from by rw [C]; rfl]
  refine rP 2 [] mn ?_
  refine RK AB<|an ?_
  refine LX hQ (none,0) [0] [] mn U U U ?_ ?_
  ·first|rfl|(rw [A,C]; rfl)|(rw [A]; rfl)
  ·trivial
 obtain ⟨he,m⟩:=Ad.1 rfl
 try dsimp only [cond_true,cond_false,List.cons_append,List.nil_append]
 have BL:=he
 try dsimp only at m
 have AZ:=(iG he).2
 refine bf 5 U<|RK AE<|ah fun _ AC=>WS fun _ AD=>bf 1 U<|rS (SX (bU (r:= .bool false) U U U l6) U U)<|RK AD<|aW U<|WK AC<|WS fun _ Z=>rP 4 [] (mc 4 U mn) ?_
 refine cX (w8 r kA kC az cA cC bA bC slA slC drA drC ha heA heC AK f g (Value.map (some G)) v h i t hin (by exact AZ)) (lL [7,8,9,10,11,12,13,14]<|aw (ai (n:=(cN r).length) 1 U (mO (by rw [Ac]; exact m)))<|aw (cM 2 U tH)<|fz 0 U U<|aI) U fun Av d=>?_
 obtain ⟨Ag,A0,L,S,M,T,o,N,BK,O,V,P,W,R,X,Ae⟩:=Av
 cases Ag
 ·obtain ⟨B,he⟩:=d.2 rfl
  try dsimp only at B he
  subst B
  try dsimp only [cond_true,cond_false,List.cons_append,List.nil_append]
  refine bf 3 U<|AL U Cu fun BC=>fP U sU U<|bf 1 U<|RK Z<|ah fun _ A3=>WS fun _ AF=>rP 2 [] mn ?_
  refine RK AF<|bL U (bp fun y=>?_) (bq fun y=>?_)
  ·exact absurd y he
  refine WS fun _ AG=>rP 1 [] mn ?_
  have A:gI r h i t=ql r h i t:=oS BL
  have C:eN r h i t=[]:=xp (by rw [A]; exact he)
  refine dH 3 1 ?_
  rw [show (own none 0 3 1 ([]:List (List Value)))=own none 0 3 1 ((eN r h i t).map iC) from by rw [C]; rfl]
  refine rP 2 [] mn ?_
  refine RK AG<|an ?_
  refine LX hQ (none,0) [0] [] mn U U U ?_ ?_
  ·first|rfl|(rw [A,C]; rfl)|(rw [A]; rfl)
  ·trivial
 obtain ⟨E,⟨j,AW⟩,J⟩:=d.1 rfl
 try dsimp only [cond_true,cond_false,List.cons_append,List.nil_append]
 try dsimp only at E j AW J
 have l:gI r h i t=0:=(oS BL).trans E
 have AX:=hin.rep j AW J
 refine bf 3 U<|AL U Cu fun BD=>fP U sU U<|bf 1 U<|RK Z<|ah fun _ AH=>WS fun _ AI=>bf 1 U<|rS (SX (bU (r:= .bool false) U U U l6) U U)<|RK AI<|aW U<|WK AH<|WS fun _ AJ=>rP 1 [] (mc 0 U mn) ?_
 refine cX (n9 (jw r h i t) L S o M T N BK O V P W Ae R X (by exact AX)) (fz 15 U U<|aw (ai (n:=r.ao.aP.length) 1 U sm)<|aw (ai (n:=r.ao.ak.length) 2 U (g4 j))<|aw (cM 3 U iR)<|aw (ai (n:=r.ao.ae.length) 4 U sm)<|aw (ai (n:=r.aQ.length) 5 U sm)<|aw (ai (n:=r.bQ.length) 6 U sm)<|aw (ai (n:=(gO r.ay h i t).length) 7 U (fg J.1))<|aw (g9 8 U J)<|aI) U fun Aw e=>?_
 obtain ⟨Ah,A1,s,p,Ai,Aj,BA⟩:=Aw
 cases Ah
 ·obtain ⟨B,he⟩:=e.2 rfl
  try dsimp only at B he
  subst B
  try dsimp only [cond_true,cond_false,List.cons_append,List.nil_append]
  exact absurd (zx l) he
 obtain ⟨he,m⟩:=e.1 rfl
 try dsimp only [cond_true,cond_false,List.cons_append,List.nil_append]
 have Aa:=nH BL
 have F:=mg BL
 have Ab:=nH he
 have A5:=mg he
 refine bf 5 U<|RK AJ<|WS fun _ AM=>bf 1 U<|RK AM<|ah fun _ AN=>WS fun _ AO=>bf 1 U<|rS (SX (bI U U) U U)<|rP 2 [] (mc 13 U mn) ?_
 refine cX (Gq G) (aI) U fun An A7=>?_
 try dsimp only
 refine cX (zi (aF r) G An sd) (bj [17,0]) U fun Ax A8=>?_
 obtain ⟨BB,BF⟩:=Ax
 try dsimp only
 rw [show (aF r).length=(df ((aF r).map (·.1))).length from by rw [gh,List.length_map]]
 refine rP 1 [] mn ?_
 have AY:(df ((aF r).map (·.1))).length≤5:=by rw [gh,List.length_map]; exact F
 refine rP 1 [] mn ?_
 refine RK AO<|av<|fT 3 1 ?_
 have D:(0≤(df ((aF r).map (·.1))).length):=by exact Nat.zero_le _
 refine bH (ι:={z:Nat×(OA)×Nat // (z.1≤(df ((aF r).map (·.1))).length)}) [10,13,47,48] [1,3,4,5,6,8,9,10,11,12,13,14,15,16,17,18,19,22,23,24,25,26,27,28,29,30] U U (fun z=>[(15,(vS z.1.2.1 ((((df ((aF r).map (·.1))).take z.1.1).filter (fun u=> !decide (c_ (aF r) u (aA (aF r) u)=c_ (aF (jw r h i t)) u (aA (aF (jw r h i t)) u)))).length) z.1.2.2)),(49,(vI (z.1.1:Int)))]) (fun z=>[(own z.1.2.1 z.1.2.2 3 1 ((((df ((aF r).map (·.1))).take z.1.1).filter (fun u=> !decide (c_ (aF r) u (aA (aF r) u)=c_ (aF (jw r h i t)) u (aA (aF (jw r h i t)) u)))).map iC))]) (fun _=>rfl) (fun _=>rfl) (fun z=>(df ((aF r).map (·.1))).length-z.1.1) ⟨(0,none,0),D⟩ (aT U) (aH [1,3,4,5,6,8,9,10,11,12,13,14,15,16,17,18,19,22,23,24,25,26,27,28,29,30,0]) ?_
 clear D
 rintro ⟨⟨k,a,c⟩,K⟩ J65 Y
 try dsimp only at K
 try dsimp only
 have BH:((((df ((aF r).map (·.1))).take k).filter (fun u=> !decide (c_ (aF r) u (aA (aF r) u)=c_ (aF (jw r h i t)) u (aA (aF (jw r h i t)) u))))).length≤12:=Nat.le_trans (List.length_filter_le _ _) (by rw [List.length_take]; omega)
 refine WS fun _ AP=>rP 1 [] mn ?_
 refine RK AP<|ah fun _ AQ=>bL U (aM fun Ar=>?_) (aL fun Ar=>?_)
 ·refine bu<|ab<|ab<|au<|KK AN<|WS fun _ AT=>rP 1 [] mn ?_
  have A:=l
  have C:eN r h i t=(((df ((aF r).map (·.1))).take k).filter (fun u=> !decide (c_ (aF r) u (aA (aF r) u)=c_ (aF (jw r h i t)) u (aA (aF (jw r h i t)) u)))):=by rw [Eg l,List.take_of_length_le I]
  rw [← C]
  refine rP 2 [] mn ?_
  refine RK AT<|an ?_
  refine LX hQ (a,c) [26] [] mn U U U ?_ ?_
  ·first|rfl|(rw [A,C]; rfl)|(rw [A]; rfl)
  ·trivial
 refine WK AQ<|ah fun _ b=>av<|WS fun _ AR=>?_
 obtain ⟨x,hx⟩:=aJ (df ((aF r).map (·.1))) k I
 have Au:=bG iC hx
 refine rS (IA k U (ai (n:=(df ((aF r).map (·.1))).length) 0 U sm) cq dc I I)<|rS (fV k 0 (vI x) U bX (ai (n:=(df ((aF r).map (·.1))).length) 0 U sm) Au U dc U)<|bf 1 U<|RK AR<|WS fun _ AS=>rP 2 [] mn ?_
 refine cX (zZ r kA kC cA cC bA bC slA slC drA drC heA heC f ((cN r).length) g G v (aF r) x (by exact Aa) (by exact C6 (aR hx)) I) (bj [13,16]) U fun Ay A9=>?_
 obtain ⟨Ak,Ao⟩:=Ay
 try dsimp only
 refine rP 2 [] mn ?_
 refine cX (zZ (bT.mk r.ao r.aQ r.bQ r.iI (gO r.ay h i t)) L S M T N BK O V P W R X Ai ((cN (jw r h i t)).length) Aj p s (aF (jw r h i t)) x (by exact Ab) (by exact fun q=>by have:=I5 E x; rw [q] at this; exact C6 (aR hx) (Option.not_isSome_iff_eq_none.1 (by rw [← this]; decide))) I) (bj [2,5]) U fun Az A_=>?_
 obtain ⟨Al,Ap⟩:=Az
 try dsimp only
 refine rS (CL (MU (c_ (aF r) x (aA (aF r) x)) Ak Ao (c_ (aF (jw r h i t)) x (aA (aF (jw r h i t)) x)) Al Ap (by exact Nat.le_trans xx I) (by exact Nat.le_trans xx I)) (aw (ai (n:=(c_ (aF r) x (aA (aF r) x)).length) 1 U sm)<|aw (ai (n:=(c_ (aF (jw r h i t)) x (aA (aF (jw r h i t)) x)).length) 0 U sm)<|aI) U)<|rP 1 [] mn ?_
 refine RK AS<|bL U (bp fun H=>?_) (bq fun H=>?_)
 ·refine bZ<|aG<|KK b<|aj<|rP 1 [] mn ?_
  have AY:(df ((aF r).map (·.1))).length≤5:=by rw [gh,List.length_map]; exact F
  refine rP 1 [] mn ?_
  refine aC ?_
  rw [show (((df ((aF r).map (·.1))).take k).filter (fun u=> !decide (c_ (aF r) u (aA (aF r) u)=c_ (aF (jw r h i t)) u (aA (aF (jw r h i t)) u))))=(((df ((aF r).map (·.1))).take (k+1)).filter (fun u=> !decide (c_ (aF r) u (aA (aF r) u)=c_ (aF (jw r h i t)) u (aA (aF (jw r h i t)) u)))) from (F5 hx (by simpa using H)).symm]
  have AV:(vI (((k+1):Nat):Int))=(vI ((k:Int)+1)):=by exact cI I
  refine aS (Y ⟨((k+1),a,c),(by first|omega|(simp only []; omega))⟩ _ _ _ U (by first|omega|(dsimp only; omega)) (ct 5<|aX U AV<|dh.nil _) (aH [2,3,4,5,6,7,8,9,10,11,12,13,14,15,16,17,18,19,20,21,22,23,24,25,26,27,28]))
 refine aj<|rP 2 [] mn ?_
 refine cU (xs:=[.tmp 62]) (cs:=[(vI x)]) U cq jd U U U U (by simp [Value.cells]) U U fun BE=>?_
 refine db (es2:=(List.map iC (((df ((aF r).map (·.1))).take (k+1)).filter (fun u=> !decide (c_ (aF r) u (aA (aF r) u)=c_ (aF (jw r h i t)) u (aA (aF (jw r h i t)) u)))))) (m':=(((df ((aF r).map (·.1))).take (k+1)).filter (fun u=> !decide (c_ (aF r) u (aA (aF r) u)=c_ (aF (jw r h i t)) u (aA (aF (jw r h i t)) u)))).length) 29 U U U pX U U sm (aZ (es:=List.map iC [x]) 0 U U (by simp [bB]) U) (kf _) os (by simp only [maxLen]; first|omega|(simp; omega)) (by rw [x7 hx (by simpa using H)]; simp) (by rw [x7 hx (by simpa using H)]; simp) U fun Am Aq=>?_
 try dsimp only
 refine bf 1 U<|aC<|aG<|KK b<|aj<|rP 1 [] mn ?_
 have AY:(df ((aF r).map (·.1))).length≤5:=by rw [gh,List.length_map]; exact F
 refine rP 1 [] mn ?_
 refine aC ?_
 have AU:(vI (((k+1):Nat):Int))=(vI ((k:Int)+1)):=by exact cI I
 refine aS (Y ⟨((k+1),Am,Aq),(by first|omega|(simp only []; omega))⟩ _ _ _ U (by first|omega|(dsimp only; omega)) (ct 5<|aX U AU<|dh.nil _) (aH [3,4,5,6,7,8,9,10,11,12,13,14,15,16,17,18,19,20,21,22,23,24,25,26,27,28,29]))
end
section
open Go.RowKit
theorem l3 (x y:Int):
 dT Tryz.prog 18 [(vI x),(vI y)] [] (vA (aa.cells (aa.mk x y))):=by
 refine bx kr Tryz.func18 U U fun D Q hQ hN=>?_
 try dsimp only
 refine WS fun _ A=>AL U de fun C=>RK A<|WS fun _ B=>rP 2 [] mn ?_
 refine rS (SX (bh (xs:=[(0,.tmp 5),(1,.tmp 6)]) (cs:=(aa.cells (aa.mk x y))) U U (bg gf U)) U U)<|fP U cm U<|RK B<|an ?_
 exact Ie hQ [0] (mc 0 U mn) U U
theorem AH (x:Int):
 dT Tryz.prog 58 [(vI x)] [] (vA (cD.cells (cD.mk 0 (aa.mk x x)))):=by
 refine bx kr Tryz.func58 U U fun D Q hQ hN=>?_
 try dsimp only
 refine WS fun _ A=>AL U BA fun C=>RK A<|WS fun _ B=>rP 2 [] mn ?_
 refine rS (CL (l3 x x) (aI) U)<|rS (SX (bh (xs:=[(1,.tmp 5)]) (cs:=(cD.cells (cD.mk 0 (aa.mk x x)))) U U (bg RE U)) U U)<|fP U Lj U<|RK B<|an ?_
 exact Ie hQ [0] (mc 0 U mn) U U
theorem qj (x y:Int):
 dT Tryz.prog 34 [(vI x),(vI y)] [] (vA (bk.cells (bk.mk false true (aa.mk x y) (eC.mk 0 0 (br.mk none 0 0))))):=by
 refine bx kr Tryz.func34 U U fun D Q hQ hN=>?_
 try dsimp only
 refine WS fun _ A=>AL U Nn fun C=>RK A<|WS fun _ B=>rP 2 [] mn ?_
 refine rS (CL (l3 x y) (aI) U)<|rS (SX (bh (xs:=[(1,.const (vB true)),(2,.tmp 7)]) (cs:=(bk.cells (bk.mk false true (aa.mk x y) (eC.mk 0 0 (br.mk none 0 0))))) U U (bg PG U)) U U)<|fP U PE U<|RK B<|an ?_
 exact Ie hQ [0] (mc 0 U mn) U U
theorem No:
 lq Tryz.prog 32 [] [] (fun (x:(OA)×Nat×(OA)×Nat×(List RA)×(OA)×Nat)=>(vA (ck.cells (ck.mk (bE.mk (br.mk x.1 aN.ao.aP.length x.2.1)) aN.ao.hO (br.mk x.2.2.1 aN.ao.ak.length x.2.2.2.1) (br.mk x.2.2.2.2.2.1 aN.ao.ae.length x.2.2.2.2.2.2) aN.ao.cH aN.ao.eU aN.ao.cV)))) (fun (x:(OA)×Nat×(OA)×Nat×(List RA)×(OA)×Nat)=>x.2.2.2.2.1.length=aN.ao.ak.length∧er aN.ao x.2.2.2.2.1) (fun (x:(OA)×Nat×(OA)×Nat×(List RA)×(OA)×Nat)=>[(own x.1 x.2.1 114 9 (aN.ao.aP.map al.cells)),(own x.2.2.1 x.2.2.2.1 119 2 (List.zipWith ar.cells aN.ao.ak x.2.2.2.2.1)),(bw (aV ar.owns aN.ao.ak x.2.2.2.2.1)),(own x.2.2.2.2.2.1 x.2.2.2.2.2.2 121 4 (aN.ao.ae.map bD.cells))]):=by
 refine dj kr Tryz.func32 U U fun AA Q hQ hN=>?_
 try dsimp only
 refine WS fun _ E=>AL U Ux fun H=>RK E<|WS fun _ F=>bf 1 U<|RK F<|WS fun _ G=>rS (CL (l3 10000 10200) (aI) U)<|rS (CL (l3 0 100) (aI) U)<|rS (SX (bh (xs:=[(0,.const (vI 1)),(1,.tmp 2),(2,.tmp 3)]) (cs:=(al.cells (al.mk 1 (aa.mk 10000 10200) (aa.mk 0 100) (aa.mk 0 0) 0 0))) U U (bg S6 U)) U U)<|cU (xs:=[.tmp 4]) (cs:=(al.cells (al.mk 1 (aa.mk 10000 10200) (aa.mk 0 100) (aa.mk 0 0) 0 0))) U yn Fp U U U U (by simp [Value.cells,al.aU]) U U fun B=>rS (SX (bh (xs:=[(0,.tmp 5)]) (cs:=(bE.cells (bE.mk (br.mk (some ⟨B,0,none⟩) 1 1)))) U U (bg UQ U)) U U)<|rS (CL (l3 0 2) (aI) U)<|rS (SX (bh (xs:=[(0,.const (vI 0)),(1,.tmp 7)]) (cs:=(cx.cells (cx.mk 0 (aa.mk 0 2)))) U U (bg Pr U)) U U)<|rS (CL (l3 5 6) (aI) U)<|rS (SX (bh (xs:=[(0,.const (vI 100000)),(1,.tmp 9)]) (cs:=(cx.cells (cx.mk 100000 (aa.mk 5 6)))) U U (bg Pr U)) U U)<|cU (xs:=[.tmp 8,.tmp 10]) (cs:=((cx.cells (cx.mk 0 (aa.mk 0 2)))++(cx.cells (cx.mk 100000 (aa.mk 5 6))))) U p9 rN U U U U (by simp [Value.cells,cx.aU]) U U fun A=>rS (SX (bh (xs:=[(0,.const (vI 100)),(1,.tmp 11)]) (cs:=(dp.cells (dp.mk 100 (br.mk (some ⟨A,0,none⟩) 2 2)))) U U (bg Rl U)) U U)<|cU (xs:=[.tmp 12]) (cs:=(dp.cells (dp.mk 100 (br.mk (some ⟨A,0,none⟩) 2 2)))) U zR Lv U U U U (by simp [Value.cells,dp.aU]) U U fun C=>bf 1 U<|rS (CL (AH 1000) (aI) U)<|rS (SX (bh (xs:=[(0,.tmp 15)]) (cs:=(bD.cells (bD.mk (cD.mk 0 (aa.mk 1000 1000)) 0))) U U (bg KF U)) U U)<|bf 1 U<|rS (CL (AH 4000) (aI) U)<|rS (SX (bh (xs:=[(0,.tmp 18)]) (cs:=(bD.cells (bD.mk (cD.mk 0 (aa.mk 4000 4000)) 0))) U U (bg KF U)) U U)<|rP 1 [] mn ?_
 refine rS (CL (AH 9000) (aI) U)<|rS (SX (bh (xs:=[(0,.tmp 21)]) (cs:=(bD.cells (bD.mk (cD.mk 0 (aa.mk 9000 9000)) 0))) U U (bg KF U)) U U)<|cU (xs:=[.tmp 16,.tmp 19,.tmp 22]) (cs:=((bD.cells (bD.mk (cD.mk 0 (aa.mk 1000 1000)) 0))++(bD.cells (bD.mk (cD.mk 0 (aa.mk 4000 4000)) 0))++(bD.cells (bD.mk (cD.mk 0 (aa.mk 9000 9000)) 0)))) U vE Rs U U U U (by simp [Value.cells,bD.aU]) U U fun D=>rS (SX (bh (xs:=[(0,.tmp 6),(1,.const (vI 2000)),(4,.const (vI 1)),(5,.const (vI 1)),(6,.const (vI 1)),(2,.tmp 13),(3,.tmp 23)]) (cs:=(ck.cells (ck.mk (bE.mk (br.mk (some ⟨B,0,none⟩) 1 1)) 2000 (br.mk (some ⟨C,0,none⟩) 1 1) (br.mk (some ⟨D,0,none⟩) 3 3) 1 1 1))) U U (bg Uj U)) U U) ?_
 refine dM (es:=(aN.ao.aP.map al.cells)) (C':=[_,_,_,(own (some ⟨B,0,none⟩) 1 114 9 (aN.ao.aP.map al.cells)),_]) 3 U (mT al.aU _) U (by show _≤maxLen; exact Nat.le_trans (m:=10) (show (1:Nat)≤10 by decide) dc) U ?_
 refine dM (es:=(yg.bo.map cx.cells)) (C':=[_,_,(own (some ⟨A,0,none⟩) 2 116 3 (yg.bo.map cx.cells)),_,_]) 2 U (mT cx.aU _) U (by show _≤maxLen; exact Nat.le_trans (m:=10) (show (2:Nat)≤10 by decide) dc) U ?_
 refine dM (es:=(List.zipWith ar.cells aN.ao.ak [((some ⟨A,0,none⟩),2)])) (C':=[_,(own (some ⟨C,0,none⟩) 1 119 2 (List.zipWith ar.cells aN.ao.ak [((some ⟨A,0,none⟩),2)])),_,_,_]) 1 U (by intro x hx; change x∈[ar.cells yg ((some ⟨A,0,none⟩),2)] at hx; rw [List.mem_singleton.1 hx]; rfl) U (by show _≤maxLen; exact Nat.le_trans (m:=10) (show (1:Nat)≤10 by decide) dc) U ?_
 refine dM (es:=(aN.ao.ae.map bD.cells)) (C':=[(own (some ⟨D,0,none⟩) 3 121 4 (aN.ao.ae.map bD.cells)),_,_,_,_]) 0 U (mT bD.aU _) U (by show _≤maxLen; exact Nat.le_trans (m:=10) (show (3:Nat)≤10 by decide) dc) U ?_
 refine wJ<|Pe (X:=[]) (X':=aV ar.owns aN.ao.ak [((some ⟨A,0,none⟩),2)]) 0 3 U U U<|Pd U Ur U<|RK G<|an ?_
 refine LX hQ ((some ⟨B,0,none⟩),1,(some ⟨C,0,none⟩),1,[((some ⟨A,0,none⟩),2)],(some ⟨D,0,none⟩),3) [3,2,0,1] [0] (mc 4 U mn) U (by simp only [fB,List.all_nil,gj,Bool.and_true]; rfl) U U ?_
 exact ⟨U,Su 1 dc⟩
theorem Nw:
 lq Tryz.prog 33 [] [] (fun (x:(OA)×Nat)=>(vA (eC.cells (eC.mk mG.Start mG.fZ (br.mk x.1 mG.ag.length x.2))))) (fun (x:(OA)×Nat)=>True) (fun (x:(OA)×Nat)=>[(own x.1 x.2 123 2 (mG.ag.map aK.cells))]):=by
 refine dj kr Tryz.func33 U U fun E Q hQ hN=>?_
 try dsimp only
 refine WS fun _ B=>AL U Uf fun D=>RK B<|WS fun _ C=>rS (SX (bh (xs:=[(0,.const (vI 0)),(1,.const (vI 10600))]) (cs:=(aK.cells (aK.mk 0 10600))) U U (bg Fk U)) U U)<|rS (SX (bh (xs:=[(0,.const (vI 0)),(1,.const (vI 11000))]) (cs:=(aK.cells (aK.mk 0 11000))) U U (bg Fk U)) U U)<|rS (SX (bh (xs:=[(0,.const (vI 1)),(1,.const (vI 12600))]) (cs:=(aK.cells (aK.mk 1 12600))) U U (bg Fk U)) U U)<|cU (xs:=[.tmp 1,.tmp 2,.tmp 3]) (cs:=((aK.cells (aK.mk 0 10600))++(aK.cells (aK.mk 0 11000))++(aK.cells (aK.mk 1 12600)))) U Aj F_ U U U U (by simp [Value.cells,aK.aU]) U U fun A=>rS (SX (bh (xs:=[(0,.const (vI 10000)),(1,.const (vI 20000)),(2,.tmp 4)]) (cs:=(eC.cells (eC.mk 10000 20000 (br.mk (some ⟨A,0,none⟩) 3 3)))) U U (bg Ug U)) U U)<|dM (es:=(mG.ag.map aK.cells)) (C':=[(own (some ⟨A,0,none⟩) 3 123 2 (mG.ag.map aK.cells)),_]) 0 U (mT aK.aU _) U dc U<|ua U UA U<|RK C<|an<|LX hQ ((some ⟨A,0,none⟩),3) [0] [0] (mc 1 U mn) U U U U ?_
 trivial
end
section
open Go.RowKit
theorem jq:
 lq Tryz.prog 10 [] [] (fun (x:(OA)×Nat×(OA)×Nat×(List RA)×(OA)×Nat×(OA)×Nat×(OA)×Nat×(OA)×Nat×(List cO))=>(vA (cw.cells (cw.mk (ck.mk (bE.mk (br.mk x.1 aN.ao.aP.length x.2.1)) aN.ao.hO (br.mk x.2.2.1 aN.ao.ak.length x.2.2.2.1) (br.mk x.2.2.2.2.2.1 aN.ao.ae.length x.2.2.2.2.2.2.1) aN.ao.cH aN.ao.eU aN.ao.cV) (br.mk x.2.2.2.2.2.2.2.1 aN.aQ.length x.2.2.2.2.2.2.2.2.1) (br.mk x.2.2.2.2.2.2.2.2.2.1 aN.bQ.length x.2.2.2.2.2.2.2.2.2.2.1) aN.iI (br.mk x.2.2.2.2.2.2.2.2.2.2.2.1 aN.ay.length x.2.2.2.2.2.2.2.2.2.2.2.2.1))))) (fun (x:(OA)×Nat×(OA)×Nat×(List RA)×(OA)×Nat×(OA)×Nat×(OA)×Nat×(OA)×Nat×(List cO))=>e9 aN x.2.2.2.2.1 x.2.2.2.2.2.2.2.2.2.2.2.2.2∧x.2.2.2.2.1.length=aN.ao.ak.length∧sR aN.ay x.2.2.2.2.2.2.2.2.2.2.2.2.2) (fun (x:(OA)×Nat×(OA)×Nat×(List RA)×(OA)×Nat×(OA)×Nat×(OA)×Nat×(OA)×Nat×(List cO))=>[(own x.1 x.2.1 114 9 (aN.ao.aP.map al.cells)),(own x.2.2.1 x.2.2.2.1 119 2 (List.zipWith ar.cells aN.ao.ak x.2.2.2.2.1)),(bw (aV ar.owns aN.ao.ak x.2.2.2.2.1)),(own x.2.2.2.2.2.1 x.2.2.2.2.2.2.1 121 4 (aN.ao.ae.map bD.cells)),(own x.2.2.2.2.2.2.2.1 x.2.2.2.2.2.2.2.2.1 3 1 (aN.aQ.map iC)),(own x.2.2.2.2.2.2.2.2.2.1 x.2.2.2.2.2.2.2.2.2.2.1 3 1 (aN.bQ.map iC)),(own x.2.2.2.2.2.2.2.2.2.2.2.1 x.2.2.2.2.2.2.2.2.2.2.2.2.1 46 1 (List.zipWith cP aN.ay x.2.2.2.2.2.2.2.2.2.2.2.2.2)),(bw (aV jc aN.ay x.2.2.2.2.2.2.2.2.2.2.2.2.2))]):=by
 refine dj kr Tryz.func10 U U fun Y Q hQ hN=>?_
 try dsimp only
 refine WS fun _ P=>AL U Cu fun X=>RK P<|WS fun _ R=>cX No (aI) U fun W T=>?_
 obtain ⟨J,M,K,N,L,E,F⟩:=W
 try dsimp only
 obtain ⟨S,O⟩:=T
 refine cU (xs:=[.const (vI 4),.const (vI 7),.const (vI 9)]) (cs:=[(vI 4),(vI 7),(vI 9)]) U cq jd U U U U (by simp [Value.cells]) U U fun G=>cU (xs:=[.const (vI 2),.const (vI 0),.const (vI 1)]) (cs:=[(vI 2),(vI 0),(vI 1)]) U cq jd U U U U (by simp [Value.cells]) U U fun H=>cX Nw (aI) U fun AA V=>?_
 obtain ⟨A,B⟩:=AA
 try dsimp only
 refine rS (SX (bh (xs:=[(3,.tmp 4)]) (cs:=(bk.cells (bk.mk false false (aa.mk 0 0) (eC.mk mG.Start mG.fZ (br.mk A mG.ag.length B))))) U U (bg PG U)) U U)<|rS (CL (qj 2600 2600) (aI) U)<|rS (CL (qj 2580 2609) (aI) U)<|cU (xs:=[.tmp 5,.tmp 6,.tmp 7]) (cs:=((bk.cells (bk.mk false false (aa.mk 0 0) (eC.mk mG.Start mG.fZ (br.mk A mG.ag.length B))))++(bk.cells (bk.mk false true (aa.mk 2600 2600) (eC.mk 0 0 (br.mk none 0 0))))++(bk.cells (bk.mk false true (aa.mk 2580 2609) (eC.mk 0 0 (br.mk none 0 0)))))) U xD Nn U U U U (by simp [Value.cells,bk.aU]) U U fun C=>rS (CL (qj 2555 2559) (aI) U)<|rS (CL (qj 2540 2549) (aI) U)<|rS (CL (qj 2570 2575) (aI) U)<|cU (xs:=[.tmp 9,.tmp 10,.tmp 11]) (cs:=((bk.cells (bk.mk false true (aa.mk 2555 2559) (eC.mk 0 0 (br.mk none 0 0))))++(bk.cells (bk.mk false true (aa.mk 2540 2549) (eC.mk 0 0 (br.mk none 0 0))))++(bk.cells (bk.mk false true (aa.mk 2570 2575) (eC.mk 0 0 (br.mk none 0 0)))))) U xD Nn U U U U (by simp [Value.cells,bk.aU]) U U fun D=>cU (xs:=[.tmp 8,.tmp 12]) (cs:=[(vS (some ⟨C,0,none⟩) 3 3),(vS (some ⟨D,0,none⟩) 3 3)]) U ry Vk U U U U (by simp [Value.cells]) U U fun AB=>rS (SX (bh (xs:=[(0,.tmp 1),(1,.tmp 2),(2,.tmp 3),(3,.const (vI 2)),(4,.tmp 13)]) (cs:=(cw.cells (cw.mk (ck.mk (bE.mk (br.mk J aN.ao.aP.length M)) aN.ao.hO (br.mk K aN.ao.ak.length N) (br.mk E aN.ao.ae.length F) aN.ao.cH aN.ao.eU aN.ao.cV) (br.mk (some ⟨G,0,none⟩) 3 3) (br.mk (some ⟨H,0,none⟩) 3 3) 2 (br.mk (some ⟨AB,0,none⟩) 2 2)))) U U (bg Hn U)) U U) ?_
 refine dM (es:=(aN.aQ.map iC)) (C':=[_,_,_,_,_,(own (some ⟨G,0,none⟩) 3 3 1 (aN.aQ.map iC)),_,_,_,_,_]) 5 U (mT bB _) U (by show _≤maxLen; exact Nat.le_trans (m:=10) (show (3:Nat)≤10 by decide) dc) U ?_
 refine dM (es:=(aN.bQ.map iC)) (C':=[_,_,_,_,(own (some ⟨H,0,none⟩) 3 3 1 (aN.bQ.map iC)),_,_,_,_,_,_]) 4 U (mT bB _) U (by show _≤maxLen; exact Nat.le_trans (m:=10) (show (3:Nat)≤10 by decide) dc) U ?_
 refine dM (es:=(List.zipWith ax.cells Sx [(A,B),(none,0),(none,0)])) (C':=[_,_,(own (some ⟨C,0,none⟩) 3 45 7 (List.zipWith ax.cells Sx [(A,B),(none,0),(none,0)])),_,_,_,_,_,_,_,_]) 2 U (oL Fl) U (by show _≤maxLen; exact Nat.le_trans (m:=10) (show (3:Nat)≤10 by decide) dc) U ?_
 refine dM (es:=(List.zipWith ax.cells Tb [(none,0),(none,0),(none,0)])) (C':=[_,(own (some ⟨D,0,none⟩) 3 45 7 (List.zipWith ax.cells Tb [(none,0),(none,0),(none,0)])),_,_,_,_,_,_,_,_,_]) 1 U (oL Fl) U (by show _≤maxLen; exact Nat.le_trans (m:=10) (show (3:Nat)≤10 by decide) dc) U ?_
 refine dM (es:=(List.zipWith cP aN.ay [(((some ⟨C,0,none⟩),3),[(A,B),(none,0),(none,0)]),(((some ⟨D,0,none⟩),3),[(none,0),(none,0),(none,0)])])) (C':=[(own (some ⟨AB,0,none⟩) 2 46 1 (List.zipWith cP aN.ay [(((some ⟨C,0,none⟩),3),[(A,B),(none,0),(none,0)]),(((some ⟨D,0,none⟩),3),[(none,0),(none,0),(none,0)])])),_,_,_,_,_,_,_,_,_,_]) 0 U (oL LS) U (by show _≤maxLen; exact Nat.le_trans (m:=10) (show (2:Nat)≤10 by decide) dc) U ?_
 refine dH 123 2<|dH 123 2<|dH 123 2<|dH 123 2<|dH 123 2<|r_tiesel2 (aV jc aN.ay [(((some ⟨C,0,none⟩),3),[(A,B),(none,0),(none,0)]),(((some ⟨D,0,none⟩),3),[(none,0),(none,0),(none,0)])]) [7,8,0,1,6,2,3,4] [5,9,10,11,12,13,14,15] U U<|VE U sU U<|RK R<|an ?_
 refine LX hQ (J,M,K,N,L,E,F,(some ⟨G,0,none⟩),3,(some ⟨H,0,none⟩),3,(some ⟨AB,0,none⟩),2,[(((some ⟨C,0,none⟩),3),[(A,B),(none,0),(none,0)]),(((some ⟨D,0,none⟩),3),[(none,0),(none,0),(none,0)])]) [4,5,6,7,3,2,1,0] [0] (mc 8 U mn) U (by show List.all _ _=true; simp only [fB,List.all_nil,gj,kv,Bool.and_true]; rfl) U U ?_
 exact ⟨QL O I7,S,I7⟩
end
section
open Go.RowKit
theorem OS (i:Int) (r:bT) (kA:OA) (kC:Nat) (az:List RA) (cA:OA) (cC:Nat) (bA:OA) (bC:Nat) (slA:OA) (slC:Nat) (drA:OA) (drC:Nat) (ha:List cO) (heA:OA) (heC:Nat) (hin:e9 r az ha):
 dT Tryz.prog 13 [(vA (cw.cells (oF r kA kC cA cC bA bC slA slC drA drC heA heC))),(vI i)] [(rd eX 3 2 dY),(rd kA r.ao.aP.length 9 (r.ao.aP.map al.cells)),(rd cA r.ao.ak.length 2 (List.zipWith ar.cells r.ao.ak az)),(eW (aV ar.gZ r.ao.ak az)),(rd bA r.ao.ae.length 4 (r.ao.ae.map bD.cells)),(rd slA r.aQ.length 1 (r.aQ.map iC)),(rd drA r.bQ.length 1 (r.bQ.map iC)),(rd heA r.ay.length 1 (List.zipWith cP r.ay ha)),(eW (aV iq r.ay ha))] (vT [(vA (aa.cells (py r i))),(vI (jI r i))]):=by
 have M:=hin.line
 have g:=hin.iM
 have h:=hin.has
 have W:=hin.iL
 have R:=hin.draw
 have X:=dB (r:=r)
 refine bx kr Tryz.func13 U U fun m Q hQ hN=>?_
 try dsimp only
 refine WS fun _ L=>fK U fun k=>AL U de fun l=>bf 1 U<|RK L<|WS fun _ G=>rP 2 [] (mc 1 U mn) ?_
 refine cU (xs:=[.tmp 11]) (cs:=[(vI i)]) U cq jd U U U U (by simp [Value.cells]) U U fun d=>cX (yM r kA kC az cA cC bA bC slA slC drA drC ha heA heC i d hin) (bj [3,4,5,6,7,8,9,10,11,0]) U fun j J=>?_
 obtain ⟨K,e,f,O,a,b,c,Y,Z⟩:=j
 cases K
 ·obtain ⟨H,he⟩:=J.2 rfl
  try dsimp only at H he
  subst H
  try dsimp only [cond_true,cond_false,List.cons_append,List.nil_append]
  refine bf 7 U<|RK G<|ah fun _ P=>WS fun _ B=>rP 2 [] mn ?_
  refine RK B<|bL U (bp fun A=>?_) (bq fun A=>?_)
  ·exact absurd A he
  refine WS fun _ C=>rS (SX (bh (xs:=[]) (cs:=(aa.cells (aa.mk 0 0))) U U (bg gf U)) U U)<|bf 1 U<|ua U cm U<|rP 1 [] mn ?_
  refine RK C<|an<|lh hQ [0] (mc 1 U mn) U ?_
  first|(rw [show py r i=dw from if_neg he]; rfl)|(rw [he,show py r i=aA _ _ from if_pos he]; done)
 obtain ⟨he,N⟩:=J.1 rfl
 try dsimp only [cond_true,cond_false,List.cons_append,List.nil_append]
 try dsimp only at N
 obtain ⟨AB,S,T⟩:=uJ he
 have AA:=nH AB
 have V:=mg AB
 refine bf 7 U<|RK G<|ah fun _ D=>WS fun _ E=>bf 1 U<|rS (SX (bU (r:= .bool false) U U U l6) U U)<|RK E<|aW U<|WK D<|WS fun _ F=>rP 1 [] mn ?_
 refine rS (IA 0 U (ai (n:=1) 4 U sq) jN dc U I) ?_
 refine rS (oH 0 0 (aa.cells (aA (aF r) i)) U bX (ai (n:=([(aA (aF r) i)]).length) 4 U sm) (show ([(aA (aF r) i)].map aa.cells)[0]? =some [(vI ((aA (aF r) i).Lo)),(vI ((aA (aF r) i).Hi))] from U) U dc U U)<|OR U cm U<|rP 1 [] mn ?_
 refine RK F<|an<|lh hQ [0] (mc 6 U mn) U ?_
 first|(rw [show py r i=dw from if_neg he]; rfl)|(rw [he,show py r i=aA _ _ from if_pos he]; done)
end
section
open Go.RowKit
theorem KG (a b:Int) (m:gX) (gm g1:Nat) (hb: ∀ p∈m,0≤p.2.Lo∧p.2.Lo≤p.2.Hi∧p.2.Hi≤30000000):
 dT Tryz.prog 48 [(vI a),(vI b),(vP g1)] [(gV iV gm (bK dv m)),(bV g1 64 [(Value.map (some gm))])] (vI ((aA m a).Hi-(aA m b).Hi)):=by
 have A:=gK (i:=a) hb
 have B:=gK (i:=b) hb
 refine bx kr Tryz.func48 U U fun E Q hQ hN=>?_
 try dsimp only
 refine WS fun _ C=>bf 1 U<|RK C<|WS fun _ D=>fw 2 [] (mr 1 U mn) U<|rS (SX (jU (kV:=iV) (x:=a) (l:=m) (f:=dv) (z:=(aa.mk 0 0)) U U U l7 (dC oG) vC (by exact j4 0 U)) U U)<|rS (SX (kR (v:=(vI (((List.lookup a m).getD (aa.mk 0 0)).Hi))) U U fu z_ U) U U)<|rP 2 [] (mr 1 U mn) ?_
 refine rS (SX (jU (kV:=iV) (x:=b) (l:=m) (f:=dv) (z:=(aa.mk 0 0)) U U U l7 (dC oG) vC (by exact j4 0 U)) U U)<|rS (SX (kR (v:=(vI (((List.lookup b m).getD (aa.mk 0 0)).Hi))) U U fu z_ U) U U) ?_
 unfold aA at A B
 simp only [dw] at A B
 refine rP 2 [] mn ?_
 refine RK D<|an ?_
 exact Q1 hQ U U U U
theorem MO (heatX:Int) (r:bT) (kA:OA) (kC:Nat) (az:List RA) (cA:OA) (cC:Nat) (bA:OA) (bC:Nat) (slA:OA) (slC:Nat) (drA:OA) (drC:Nat) (ha:List cO) (heA:OA) (heC:Nat) (hin:e9 r az ha):
 lq Tryz.prog 20 [(vA (cw.cells (oF r kA kC cA cC bA bC slA slC drA drC heA heC))),(vI heatX)] [(rd eX 3 2 dY),(rd kA r.ao.aP.length 9 (r.ao.aP.map al.cells)),(rd cA r.ao.ak.length 2 (List.zipWith ar.cells r.ao.ak az)),(eW (aV ar.gZ r.ao.ak az)),(rd bA r.ao.ae.length 4 (r.ao.ae.map bD.cells)),(rd slA r.aQ.length 1 (r.aQ.map iC)),(rd drA r.bQ.length 1 (r.bQ.map iC)),(rd heA r.ay.length 1 (List.zipWith cP r.ay ha)),(eW (aV iq r.ay ha))] (fun (x:(OA)×Nat)=>(vT [(vS x.1 ((g6 r heatX).length) x.2),(vI (iF r heatX))])) (fun (x:(OA)×Nat)=>True) (fun (x:(OA)×Nat)=>[(own x.1 x.2 3 1 ((g6 r heatX).map iC))]):=by
 have AV:=hin.line
 have Ap:=hin.iM
 have Aq:=hin.has
 have Af:=hin.iL
 have AD:=hin.draw
 have AG:=dB (r:=r)
 refine dj kr Tryz.func20 U U fun w0 Q hQ hN=>?_
 try dsimp only
 refine WS fun _ AU=>fK U fun b2=>bf 2 U<|RK AU<|zU U<|WS fun _ e=>rP 1 [] (mc 0 U mn) ?_
 refine cX (n9 r kA kC az cA cC bA bC slA slC drA drC ha heA heC hin) (bj [1,2,3,4,5,6,7,8,9]) U fun y4 AH=>?_
 obtain ⟨AI,Am,AQ,AP,AZ,AJ,AK⟩:=y4
 cases AI
 ·obtain ⟨AE,he⟩:=AH.2 rfl
  try dsimp only at AE he
  subst AE
  try dsimp only [cond_true,cond_false,List.cons_append,List.nil_append]
  refine bf 5 U<|RK e<|ah fun _ Ae=>WS fun _ R=>rP 2 [] mn ?_
  refine RK R<|bL U (bp fun P=>?_) (bq fun P=>?_)
  ·exact absurd P he
  refine WS fun _ S=>rP 1 [] mn ?_
  have A:iF r heatX=cK r:=Ep he
  have B:g6 r heatX=[]:=yG (by rw [A]; exact he)
  refine dH 3 1 ?_
  rw [show (own none 0 3 1 ([]:List (List Value)))=own none 0 3 1 ((g6 r heatX).map iC) from by rw [B]; rfl]
  refine rP 2 [] mn ?_
  refine RK S<|an ?_
  refine LX hQ (none,0) [0] [] mn U U U ?_ ?_
  ·first|rfl|(rw [A,B]; rfl)|(rw [A]; rfl)|(rw [A,B,j5]; rfl)
  ·trivial
 obtain ⟨he,AX⟩:=AH.1 rfl
 try dsimp only [cond_true,cond_false,List.cons_append,List.nil_append]
 have G:=(iG he).2
 have Ar:=G.wj
 have Ao:=G.yh
 refine bf 5 U<|RK e<|ah fun _ T=>WS fun _ As=>bf 1 U<|rS (SX (bU (r:= .bool false) U U U l6) U U)<|RK As<|aW U<|WK T<|ah fun _ V=>WS fun _ W=>rP 4 [] (mc 4 U mn) ?_
 refine cU (xs:=[.tmp 25]) (cs:=[(vI heatX)]) U cq jd U U U U (by simp [Value.cells]) U U fun AN=>?_
 refine rS (CL (dT.eq (j2 0 (r.ay.length:Int) ([heatX]) (some ⟨AN,0,none⟩) 1 sd) cS) (aw (aZ 0 U U (by simp [bB]) U)<|aI) U) ?_
 refine rP 1 [] mn ?_
 refine RK W<|cy U (bq fun AR=>?_) (bp fun AR=>?_)
 ·refine WS fun _ X=>?_
  have A:iF r heatX=2:=DN he I
  have B:g6 r heatX=[]:=yG (by rw [A]; decide)
  refine dH 3 1 ?_
  rw [show (own none 0 3 1 ([]:List (List Value)))=own none 0 3 1 ((g6 r heatX).map iC) from by rw [B]; rfl]
  refine rP 2 [] mn ?_
  refine RK X<|an ?_
  refine LX hQ (none,0) [0] [] mn U U U ?_ ?_
  ·first|rfl|(rw [A,B]; rfl)|(rw [A]; rfl)|(rw [A,B,j5]; rfl)
  ·trivial
 refine WK V<|ah fun _ Y=>WS fun _ Z=>rP 2 [] mn ?_
 refine RK Z<|cy U (aL fun D=>?_) (aM fun D=>?_)
 ·refine WS fun _ b=>rP 2 [] (mc 5 U mn) ?_
  refine cX (v7 r.bQ drA drC sd) (bj [12]) U fun Ac Ag=>?_
  obtain ⟨N,O⟩:=Ac
  try dsimp only
  have A:iF r heatX=0:=zm he I
  have B:g6 r heatX=r.bQ:=uX A D
  rw [show (own N O 3 1 (r.bQ.map iC))=(own N O 3 1 ((g6 r heatX).map iC)) from by rw [uX A D]]
  refine rP 2 [] mn ?_
  refine RK b<|an ?_
  refine LX hQ (N,O) [0] [] mn U U U ?_ ?_
  ·first|rfl|(rw [A,B]; rfl)|(rw [A]; rfl)|(rw [A,B,j5]; rfl)
  ·trivial
 refine WK Y<|WS fun _ d=>?_
 obtain ⟨n,rfl⟩: ∃ n:Nat,heatX=(n:Int):=⟨heatX.toNat,I⟩
 refine rP 2 [] mn ?_
 refine cX (OU r kA kC az cA cC bA bC slA slC drA drC ha heA heC AK AZ AJ (Value.map (some AP)) AQ n hin I sd (by exact G.Ay)) (lL [7,8,9,10,11,12,13,14]<|aw (ai (n:=(cN r).length) 2 U (mO (by rw [AG]; exact AX)))<|aw (cM 3 U tH)<|fz 1 U U<|aI) U fun C Ah=>?_
 try dsimp only
 refine AL U Tg fun Au=>H8 U M1 U U<|RK d<|WS fun _ g=>bf 1 U<|RK g<|ah fun _ h=>AT<|KK h<|ah fun _ j=>WS fun _ k=>rP 4 [] (mc 7 U mn) ?_
 refine RK k<|av<|fT 3 1 ?_
 have F:(0≤r.bQ.length):=by exact Nat.zero_le _
 refine bH (ι:={z:Nat×(OA)×Nat // (z.1≤r.bQ.length)}) [1,2,6,8,38,39] [1,2,5,6,7,8,9,10,11,12,13,14,15,16,17] U U (fun z=>[(9,(vS z.1.2.1 (((r.bQ.take z.1.1).filter fun u=>(List.lookup u (eB r n)).isSome).length) z.1.2.2)),(40,(vI (z.1.1:Int)))]) (fun z=>[(own z.1.2.1 z.1.2.2 3 1 (((r.bQ.take z.1.1).filter fun u=>(List.lookup u (eB r n)).isSome).map iC))]) (fun _=>rfl) (fun _=>rfl) (fun z=>r.bQ.length-z.1.1) ⟨(0,none,0),F⟩ (aT U) (aH [1,2,5,6,7,8,9,10,11,12,13,14,15,16,17,0]) ?_
 clear F
 rintro ⟨⟨i,a,c⟩,K⟩ J38 L
 try dsimp only at K
 try dsimp only
 refine WS fun _ m=>rP 1 [] mn ?_
 refine RK m<|ah fun _ o=>bL U (aM fun AS=>?_) (aL fun AS=>?_)
 ·refine bu<|ab<|ab<|au<|KK j<|ah fun _ v=>?_
  rw [show r.bQ.take i=r.bQ from List.take_of_length_le I]
  refine aj<|rP 1 [] mn ?_
  have AW:=FL he (show n≤r.ay.length by omega)
  have AF:=Nat.le_trans (List.length_filter_le (fun u=>(List.lookup u (eB r n)).isSome) r.bQ) AD
  have An:(ep (fun u=>(aA (eB r n) u).Hi) (r.bQ.filter fun u=>(List.lookup u (eB r n)).isSome)).length≤12:=by rw [kx]; exact AF
  refine rS (FU U) ?_
  refine cX (ze (r.bQ.filter fun u=>(List.lookup u (eB r n)).isSome) a c (Value.func (.func 48) [].toArray [(vP Au)].toArray) (fun u=>(aA (eB r n) u).Hi) (eW [(gV iV C (bK dv (eB r n))),(bV Au 64 [(Value.map (some C))])]) (by intro Aa Ab _; exact nm (fi:=[]) (ca:=[(vP Au)]) (lX (KG Aa Ab (eB r n) C Au (by first|assumption|omega)) (bj [0,1]))) (by exact Ra AW) (by exact AF)) (aw (ai (n:=(r.bQ.filter fun u=>(List.lookup u (eB r n)).isSome).length) 15 U sm)<|aw (lV (bj [1,0]))<|aI) U fun Ad Ai=>?_
  obtain ⟨H,J⟩:=Ad
  try dsimp only
  refine bf 1 U<|RK v<|WS fun _ w=>rP 5 [] (mc 6 U mn) ?_
  refine rS (MN U)<|LD 0 U fun AC=>?_
  simp only [List.length_map] at AC
  refine rS (UL (((min r.iI (((ep (fun u=>(aA (eB r n) u).Hi) (r.bQ.filter fun u=>(List.lookup u (eB r n)).isSome)).length:Nat):Int))).toNat) U cq I (by first|omega|exact Nat.zero_le _|(simp; omega))) ?_
  refine iO 0 U U U U (GC (ep (fun u=>(aA (eB r n) u).Hi) (r.bQ.filter fun u=>(List.lookup u (eB r n)).isSome)) H J (((min r.iI (((ep (fun u=>(aA (eB r n) u).Hi) (r.bQ.filter fun u=>(List.lookup u (eB r n)).isSome)).length:Nat):Int))).toNat) I I) U kd U (fun At Aj=>?_)
  try dsimp only
  refine RK w<|WS fun _ y=>rP 1 [] mn ?_
  have A:iF r (n:Int)=0:=zm he I
  have B:g6 r (n:Int)=(rF (((min r.iI (((ep (fun u=>(aA (eB r n) u).Hi) (r.bQ.filter fun u=>(List.lookup u (eB r n)).isSome)).length:Nat):Int))).toNat) (ep (fun u=>(aA (eB r n) u).Hi) (r.bQ.filter fun u=>(List.lookup u (eB r n)).isSome))):=by rw [vc A D]; exact (zH rfl I).symm
  rw [show (own H J 3 1 ((rF (((min r.iI (((ep (fun u=>(aA (eB r n) u).Hi) (r.bQ.filter fun u=>(List.lookup u (eB r n)).isSome)).length:Nat):Int))).toNat) (ep (fun u=>(aA (eB r n) u).Hi) (r.bQ.filter fun u=>(List.lookup u (eB r n)).isSome))).map iC))=(own H J 3 1 ((g6 r (n:Int)).map iC)) from by rw [vc A D]; exact congrArg (fun z=>own _ _ _ _ (List.map iC z)) (zH rfl I)]
  refine rP 2 [] mn ?_
  refine RK y<|an ?_
  refine LX hQ (H,J) [0] [] mn U U U ?_ ?_
  ·first|rfl|(rw [A,B]; rfl)|(rw [A]; rfl)|(rw [A,B,j5]; rfl)
  ·trivial
 refine WK o<|ah fun _ M=>av<|WS fun _ p=>?_
 obtain ⟨x,hx⟩:=aJ r.bQ i I
 have AY:=bG iC hx
 refine rS (IA i U (aD 12 U) cq dc I I)<|rS (fV i 0 (vI x) U bX (aD 12 U) AY U dc U)<|bf 1 U<|RK p<|ah fun _ q=>WS fun _ s=>fw 2 [] (mc 0 U mn) U<|rS (SX (jT (kV:=iV) (x:=x) (l:=(eB r n)) (f:=dv) (z:=(aa.mk 0 0)) U U U l7 (dC oG) vC (by exact aD 1 U)) U U)<|bf 3 U<|AL U de fun Ak=>fP U cm U<|bf 1 U<|RK s<|WS fun _ t=>rP 2 [] mn ?_
 refine RK t<|cy U (fun E=>?_) (fun E=>?_)
 ·rw [Bool.not_eq_true'] at E
  refine bu<|ab<|au<|KK M<|aj<|rP 2 [] mn ?_
  refine aC ?_
  rw [show ((r.bQ.take i).filter fun u=>(List.lookup u (eB r n)).isSome)=((r.bQ.take (i+1)).filter fun u=>(List.lookup u (eB r n)).isSome) from (F5 hx E).symm]
  have AA:(vI (((i+1):Nat):Int))=(vI ((i:Int)+1)):=by exact cI I
  refine aS (L ⟨((i+1),a,c),(by first|omega|(simp only []; omega))⟩ _ _ _ U os (ct 7<|aX U AA<|dh.nil _) (aH [1,2,3,4,5,6,7,8,9,10,11,12,13,14,15,16]))
 rw [Bool.not_eq_false'] at E
 refine WK q<|aj<|rP 2 [] mn ?_
 refine cU (xs:=[.tmp 53]) (cs:=[(vI x)]) U cq jd U U U U (by simp [Value.cells]) U U fun Al=>?_
 refine db (es2:=(List.map iC ((r.bQ.take (i+1)).filter fun u=>(List.lookup u (eB r n)).isSome))) (m':=((r.bQ.take (i+1)).filter fun u=>(List.lookup u (eB r n)).isSome).length) 17 U U U pX U U sm (aZ (es:=List.map iC [x]) 0 U U (by simp [bB]) U) (kf _) (by have:=List.length_filter_le (fun u=>(List.lookup u (eB r n)).isSome) (r.bQ.take i); rw [List.length_take] at this; first|omega|(simp; omega)) (by have:=List.length_filter_le (fun u=>(List.lookup u (eB r n)).isSome) (r.bQ.take i); rw [List.length_take] at this; simp only [maxLen]; first|omega|(simp; omega)) (by rw [x7 hx E]; simp) sm U fun AM AO=>?_
 try dsimp only
 refine bf 1 U<|aC<|aG<|KK M<|aj<|rP 2 [] mn ?_
 refine aC ?_
 have AB:(vI (((i+1):Nat):Int))=(vI ((i:Int)+1)):=by exact cI I
 refine aS (L ⟨((i+1),AM,AO),(by first|omega|(simp only []; omega))⟩ _ _ _ U os (ct 7<|aX U AB<|dh.nil _) (aH [2,3,4,5,6,7,8,9,10,11,12,13,14,15,16,17]))
end
section
open Go.RowKit
theorem yE (i lo hi:Int) (r:bT) (kA:OA) (kC:Nat) (az:List RA) (cA:OA) (cC:Nat) (bA:OA) (bC:Nat) (slA:OA) (slC:Nat) (drA:OA) (drC:Nat) (ha:List cO) (heA:OA) (heC:Nat) (hin:e9 r az ha):
 dT Tryz.prog 9 [(vA (cw.cells (oF r kA kC cA cC bA bC slA slC drA drC heA heC))),(vI i),(vI lo),(vI hi)] [(rd eX 3 2 dY),(rd kA r.ao.aP.length 9 (r.ao.aP.map al.cells)),(rd cA r.ao.ak.length 2 (List.zipWith ar.cells r.ao.ak az)),(eW (aV ar.gZ r.ao.ak az)),(rd bA r.ao.ae.length 4 (r.ao.ae.map bD.cells)),(rd slA r.aQ.length 1 (r.aQ.map iC)),(rd drA r.bQ.length 1 (r.bQ.map iC)),(rd heA r.ay.length 1 (List.zipWith cP r.ay ha)),(eW (aV iq r.ay ha))] (vB (decide (jI r i=0∧py r i=aa.mk lo hi))):=by
 have E:=hin.line
 have AA:=hin.iM
 have J:=hin.has
 have G:=hin.iL
 have F:=hin.draw
 have H:=dB (r:=r)
 refine bx kr Tryz.func9 U U fun M Q hQ hN=>?_
 try dsimp only
 refine WS fun _ C=>fK U fun K=>bf 1 U<|RK C<|WS fun _ D=>fw 2 [] (mc 0 U mn) U<|rS (CL (OS i r kA kC az cA cC bA bC slA slC drA drC ha heA heC hin) (bj [1,2,3,4,5,6,7,8,9]) U)<|bf 3 U<|AL U de fun L=>fP U cm U<|bf 1 U<|RK D<|ah fun _ B=>dA cu 10 kr<|dP 3 [] mn ?_
 refine jh (t:=19) U (aM fun A=>?_) (aL fun A=>?_)
 ·refine dP 7 [] mn ?_
  refine cL<|RK B<|an<|Q1 hQ U U U ?_
  first|exact cB (cf fun q=>A q.1).symm|exact cB (decide_eq_decide.2 ⟨fun q=>⟨A,q⟩,fun q=>q.2⟩)
 refine mJ 3 [] (mc 0 U mn) U<|dS (CL (l3 lo hi) (aI) U)<|dS (BI U (sW _ _ (py r i) (aa.mk lo hi)))<|dP 2 [] mn ?_
 refine cL<|RK B<|an<|Q1 hQ U U U ?_
 first|exact cB (cf fun q=>A q.1).symm|exact cB (decide_eq_decide.2 ⟨fun q=>⟨A,q⟩,fun q=>q.2⟩)
theorem zr (i:Int) (want:List Int) (wantA:OA) (wantC:Nat) (r:bT) (kA:OA) (kC:Nat) (az:List RA) (cA:OA) (cC:Nat) (bA:OA) (bC:Nat) (slA:OA) (slC:Nat) (drA:OA) (drC:Nat) (ha:List cO) (heA:OA) (heC:Nat) (hin:e9 r az ha) (hwl:want.length≤12):
 dT Tryz.prog 11 [(vA (cw.cells (oF r kA kC cA cC bA bC slA slC drA drC heA heC))),(vI i),(vS wantA want.length wantC)] [(rd wantA want.length 1 (want.map iC)),(rd eX 3 2 dY),(rd kA r.ao.aP.length 9 (r.ao.aP.map al.cells)),(rd cA r.ao.ak.length 2 (List.zipWith ar.cells r.ao.ak az)),(eW (aV ar.gZ r.ao.ak az)),(rd bA r.ao.ae.length 4 (r.ao.ae.map bD.cells)),(rd slA r.aQ.length 1 (r.aQ.map iC)),(rd drA r.bQ.length 1 (r.bQ.map iC)),(rd heA r.ay.length 1 (List.zipWith cP r.ay ha)),(eW (aV iq r.ay ha))] (vB (decide (jI r i=0∧gP r i=want))):=by
 have E:=hin.line
 have K:=hin.iM
 have L:=hin.has
 have G:=hin.iL
 have F:=hin.draw
 have H:=dB (r:=r)
 have M:=ED (r:=r) (i:=i)
 refine bx kr Tryz.func11 U U fun R Q hQ hN=>?_
 try dsimp only
 refine WS fun _ C=>fK U fun P=>bf 1 U<|RK C<|WS fun _ D=>rP 2 [] (mc 0 U mn) ?_
 refine cX (NW i r kA kC az cA cC bA bC slA slC drA drC ha heA heC hin) (bj [2,3,4,5,6,7,8,9,10]) U fun O N=>?_
 obtain ⟨AA,J⟩:=O
 try dsimp only
 refine bf 5 U<|RK D<|WS fun _ B=>rP 3 [] mn ?_
 refine b_ (t:=17) U (aM fun A=>?_) (aL fun A=>?_)
 ·refine rP 5 [] mn ?_
  refine RK B<|an<|Q1 hQ U U U ?_
  first|exact cB (cf fun q=>A q.1).symm|exact cB (decide_eq_decide.2 ⟨fun q=>⟨A,q⟩,fun q=>q.2⟩)
 refine bf 2 U<|rS (CL (oh (gP r i) AA J want wantA wantC I I) (aw (ai (n:=(gP r i).length) 0 U sm)<|fz 2 U U<|aI) U)<|rP 2 [] mn ?_
 refine RK B<|an<|Q1 hQ U U U ?_
 first|exact cB (cf fun q=>A q.1).symm|exact cB (decide_eq_decide.2 ⟨fun q=>⟨A,q⟩,fun q=>q.2⟩)
theorem yv (heatX:Int) (want:List Int) (wantA:OA) (wantC:Nat) (hwl:want.length≤12):
 dT Tryz.prog 8 [(vI heatX),(vS wantA want.length wantC)] [(rd eX 3 2 dY),(rd wantA want.length 1 (want.map iC))] (vB (decide (iF aN heatX=0∧g6 aN heatX=want))):=by
 have b:=D4 (r:=aN) (h:=heatX) dc
 refine bx kr Tryz.func8 U U fun d Q hQ hN=>?_
 try dsimp only
 refine WS fun _ V=>rP 1 [] mn ?_
 refine RK V<|WS fun _ W=>cX jq (aI) U fun c Y=>?_
 obtain ⟨N,S,P,AA,R,C,G,D,H,E,AB,F,J,M⟩:=c
 try dsimp only
 obtain ⟨L,X,K⟩:=Y
 refine rP 1 [] mn ?_
 refine cX (MO heatX aN N S R P AA C G D H E AB M F J (by exact L)) (fz 8 U U<|aw (ai (n:=aN.ao.aP.length) 0 U sm)<|aw (ai (n:=aN.ao.ak.length) 1 U (g4 X))<|aw (cM 2 U iR)<|aw (ai (n:=aN.ao.ae.length) 3 U sm)<|aw (ai (n:=aN.aQ.length) 4 U sm)<|aw (ai (n:=aN.bQ.length) 5 U sm)<|aw (ai (n:=aN.ay.length) 6 U (fg K.1))<|aw (g9 7 U K)<|aI) U fun Z a=>?_
 obtain ⟨O,T⟩:=Z
 try dsimp only
 refine bf 5 U<|RK W<|WS fun _ B=>rP 3 [] mn ?_
 refine b_ (t:=15) U (aM fun A=>?_) (aL fun A=>?_)
 ·refine rP 5 [] mn ?_
  refine RK B<|an<|Q1 hQ U U U ?_
  first|exact cB (cf fun q=>A q.1).symm|exact cB (decide_eq_decide.2 ⟨fun q=>⟨A,q⟩,fun q=>q.2⟩)
 refine bf 2 U<|rS (CL (oh (g6 aN heatX) O T want wantA wantC I I) (aw (ai (n:=(g6 aN heatX).length) 0 U sm)<|fz 10 U U<|aI) U)<|rP 2 [] mn ?_
 refine RK B<|an<|Q1 hQ U U U ?_
 first|exact cB (cf fun q=>A q.1).symm|exact cB (decide_eq_decide.2 ⟨fun q=>⟨A,q⟩,fun q=>q.2⟩)
theorem Cj (a b:Int) (x y:Int):
 dT Tryz.prog 12 [(vI a),(vI b),(Value.int .u8 x),(Value.int .u8 y)] [(rd eX 3 2 dY)] (vB (decide (((mu aN a b=0∧oq aN a b=x)∧mu aN a b=0)∧pP aN a b=y))):=by
 refine bx kr Tryz.func12 U U fun w Q hQ hN=>?_
 try dsimp only
 refine WS fun _ p=>rP 1 [] mn ?_
 refine RK p<|WS fun _ r=>cX jq (aI) U fun v s=>?_
 obtain ⟨j,m,k,o,l,J,V,L,X,N,Z,P,d,h⟩:=v
 try dsimp only
 obtain ⟨F,G,E⟩:=s
 refine bf 2 U<|rS (CL (sK a b aN j m l k o J V L X N Z h P d (by exact F)) (fz 8 U U<|aw (ai (n:=aN.ao.aP.length) 0 U sm)<|aw (ai (n:=aN.ao.ak.length) 1 U (g4 G))<|aw (cM 2 U iR)<|aw (ai (n:=aN.ao.ae.length) 3 U sm)<|aw (ai (n:=aN.aQ.length) 4 U sm)<|aw (ai (n:=aN.bQ.length) 5 U sm)<|aw (ai (n:=aN.ay.length) 6 U (fg E.1))<|aw (g9 7 U E)<|aI) U)<|qA [8] U U<|rP 5 [] mn ?_
 refine RK r<|WS fun _ f=>cX jq (aI) U fun u g=>?_
 obtain ⟨H,T,AB,AA,S,K,W,M,Y,O,c,R,e,i⟩:=u
 try dsimp only
 obtain ⟨F,G,E⟩:=g
 refine bf 2 U<|rS (CL (Ql a b aN H T S AB AA K W M Y O c i R e (by exact F)) (fz 8 U U<|aw (ai (n:=aN.ao.aP.length) 0 U sm)<|aw (ai (n:=aN.ao.ak.length) 1 U (g4 G))<|aw (cM 2 U iR)<|aw (ai (n:=aN.ao.ae.length) 3 U sm)<|aw (ai (n:=aN.aQ.length) 4 U sm)<|aw (ai (n:=aN.bQ.length) 5 U sm)<|aw (ai (n:=aN.ay.length) 6 U (fg E.1))<|aw (g9 7 U E)<|aI) U)<|bf 5 U<|RK f<|WS fun _ D=>rP 3 [] mn ?_
 refine b_ (t:=29) U (aM fun A=>?_) (aL fun A=>?_)
 ·refine rP 14 [] mn ?_
  refine RK D<|an<|Q1 hQ U U U ?_
  first|exact cB (cf fun q=>A q.1.1.1).symm|exact cB (cf fun q=>B q.1.1.2).symm|exact cB (cf fun q=>C q.1.2).symm|exact cB (decide_eq_decide.2 ⟨fun q=>⟨⟨⟨A,B⟩,C⟩,q⟩,fun q=>q.2⟩)
 refine bf 2 U<|rS (BI U lu)<|rP 2 [] mn ?_
 refine b_ (t:=34) U (aM fun B=>?_) (aL fun B=>?_)
 ·refine rP 9 [] mn ?_
  refine RK D<|an<|Q1 hQ U U U ?_
  first|exact cB (cf fun q=>A q.1.1.1).symm|exact cB (cf fun q=>B q.1.1.2).symm|exact cB (cf fun q=>C q.1.2).symm|exact cB (decide_eq_decide.2 ⟨fun q=>⟨⟨⟨A,B⟩,C⟩,q⟩,fun q=>q.2⟩)
 refine rP 4 [] mn ?_
 refine b_ (t:=38) U (aM fun C=>?_) (aL fun C=>?_)
 ·refine rP 5 [] mn ?_
  refine RK D<|an<|Q1 hQ U U U ?_
  first|exact cB (cf fun q=>A q.1.1.1).symm|exact cB (cf fun q=>B q.1.1.2).symm|exact cB (cf fun q=>C q.1.2).symm|exact cB (decide_eq_decide.2 ⟨fun q=>⟨⟨⟨A,B⟩,C⟩,q⟩,fun q=>q.2⟩)
 refine bf 2 U<|rS (BI U lu)<|rP 2 [] mn ?_
 refine RK D<|an<|Q1 hQ U U U ?_
 first|exact cB (cf fun q=>A q.1.1.1).symm|exact cB (cf fun q=>B q.1.1.2).symm|exact cB (cf fun q=>C q.1.2).symm|exact cB (decide_eq_decide.2 ⟨fun q=>⟨⟨⟨A,B⟩,C⟩,q⟩,fun q=>q.2⟩)
end
section
open Go.RowKit
theorem Ig:
 dT Tryz.prog 7 [] [(rd eX 3 2 dY)] (vB true):=by
 have Aj:=qF (r:=aN)
 have Ab:=qF (r:=k6)
 have Fb:=Dh (r:=aN) (h:=0) (i:=2) (t:=aa.mk 2590 2599)
 have Fa:aN.aQ.length=3:=rfl
 refine bx kr Tryz.func7 U U fun w0 Q hQ hN=>?_
 try dsimp only
 refine WS fun _ FP=>rP 1 [] mn ?_
 refine RK FP<|WS fun _ FQ=>cX jq (aI) U fun y3 FS=>?_
 obtain ⟨FK,FN,FL,FO,FM,Du,Eb,Dy,Ef,D2,Ej,D6,En,FA⟩:=y3
 try dsimp only
 obtain ⟨A,F,B⟩:=FS
 refine rS (CL (PC 0 0 aN FK FN FM FL FO Du Eb Dy Ef D2 Ej FA D6 En (by exact A)) (fz 8 U U<|aw (ai (n:=aN.ao.aP.length) 0 U sm)<|aw (ai (n:=aN.ao.ak.length) 1 U (g4 F))<|aw (cM 2 U iR)<|aw (ai (n:=aN.ao.ae.length) 3 U sm)<|aw (ai (n:=aN.aQ.length) 4 U sm)<|aw (ai (n:=aN.bQ.length) 5 U sm)<|aw (ai (n:=aN.ay.length) 6 U (fg B.1))<|aw (g9 7 U B)<|aI) U)<|bf 1 U<|qA [8] U U<|bf 2 U<|AL U de fun Ad=>fP U cm U<|rP 1 [] mn ?_
 refine RK FQ<|WS fun _ Ez=>cX jq (aI) U fun FT E6=>?_
 obtain ⟨Do,EV,Dr,EY,ES,Dv,Ec,Dz,Eg,D3,Ek,D7,Eo,FB⟩:=FT
 try dsimp only
 obtain ⟨A,F,B⟩:=E6
 refine cX (zS aN Do EV ES Dr EY Dv Ec Dz Eg D3 Ek FB D7 Eo (by exact A)) (fz 9 U U<|aw (ai (n:=aN.ao.aP.length) 0 U sm)<|aw (ai (n:=aN.ao.ak.length) 1 U (g4 F))<|aw (cM 2 U iR)<|aw (ai (n:=aN.ao.ae.length) 3 U sm)<|aw (ai (n:=aN.aQ.length) 4 U sm)<|aw (ai (n:=aN.bQ.length) 5 U sm)<|aw (ai (n:=aN.ay.length) 6 U (fg B.1))<|aw (g9 7 U B)<|aI) U fun FU E7=>?_
 obtain ⟨a,AU,AV⟩:=FU
 try dsimp only
 have Db:=E7
 have At:=Db
 refine bf 1 U<|qA [0,1,10,11] U U<|rP 4 [] mn ?_
 refine RK Ez<|WS fun _ E0=>cX jq (aI) U fun FV E8=>?_
 obtain ⟨Dp,EW,Ds,EZ,ET,Dw,Ed,D0,Eh,D4,El,D8,Ep,FC⟩:=FV
 try dsimp only
 obtain ⟨A,F,B⟩:=E8
 refine rS (CL (l3 2590 2599) (aI) U)<|cX (LR 0 2 (aa.mk 2590 2599) aN Dp EW ET Ds EZ Dw Ed D0 Eh D4 El FC D8 Ep (by exact A)) (fz 11 U U<|aw (ai (n:=aN.ao.aP.length) 0 U sm)<|aw (ai (n:=aN.ao.ak.length) 1 U (g4 F))<|aw (cM 2 U iR)<|aw (ai (n:=aN.ao.ae.length) 3 U sm)<|aw (ai (n:=aN.aQ.length) 4 U sm)<|aw (ai (n:=aN.bQ.length) 5 U sm)<|aw (ai (n:=aN.ay.length) 6 U (fg B.1))<|aw (g9 7 U B)<|aI) U fun FW Aw=>?_
 obtain ⟨FD,FZ,G,N,H,O,M,Fd,P,J,R,K,S,L,T,Fc⟩:=FW
 cases FD
 ·obtain ⟨E4,he⟩:=Aw.2 rfl
  try dsimp only at E4 he
  subst E4
  try dsimp only [cond_true,cond_false,List.cons_append,List.nil_append]
  exact absurd Bd he
 obtain ⟨E5,⟨Ai,E3⟩,Ac⟩:=Aw.1 rfl
 try dsimp only [cond_true,cond_false,List.cons_append,List.nil_append]
 try dsimp only at E5 Ai E3 Ac
 have Av:e9 k6 _ _:=e9.rep A Ai E3 Ac
 refine bf 1 U<|qA [0,1,2,3,4,5,6,7,16,17,18,19] U U<|bf 2 U<|AL U Cu fun AW=>fP U sU U<|bf 1 U<|RK E0<|WS fun _ E1=>rP 1 [] (mc 0 U mn) ?_
 refine cX (zS k6 G N M H O Fd P J R K S Fc L T (by exact Av)) (fz 12 U U<|aw (ai (n:=aN.ao.aP.length) 1 U (by rw [List.length_map]; rfl))<|aw (ai (n:=aN.ao.ak.length) 2 U (g4 Ai))<|aw (cM 3 U iR)<|aw (ai (n:=aN.ao.ae.length) 4 U (by rw [List.length_map]; rfl))<|aw (ai (n:=aN.aQ.length) 5 U (by rw [List.length_map]; rfl))<|aw (ai (n:=aN.bQ.length) 6 U (by rw [List.length_map]; rfl))<|aw (ai (n:=(gO aN.ay 0 2 (aa.mk 2590 2599)).length) 7 U (fg Ac.1))<|aw (g9 8 U Ac)<|aI) U fun FX E9=>?_
 obtain ⟨b,AO,AP⟩:=FX
 try dsimp only
 have Db:=E9
 have Au:=Db
 refine rP 5 [] mn ?_
 refine RK E1<|WS fun _ E2=>cX jq (aI) U fun FY E_=>?_
 obtain ⟨Dq,EX,Dt,Ea,EU,Dx,Ee,D1,Ei,D5,Em,D9,Eq,Di⟩:=FY
 try dsimp only
 obtain ⟨A,F,B⟩:=E_
 refine rS (CL (l3 2590 2599) (aI) U)<|cX (HV 0 2 (aa.mk 2590 2599) aN Dq EX EU Dt Ea Dx Ee D1 Ei D5 Em Di D9 Eq (by exact A)) (fz 22 U U<|aw (ai (n:=aN.ao.aP.length) 0 U sm)<|aw (ai (n:=aN.ao.ak.length) 1 U (g4 F))<|aw (cM 2 U iR)<|aw (ai (n:=aN.ao.ae.length) 3 U sm)<|aw (ai (n:=aN.aQ.length) 4 U sm)<|aw (ai (n:=aN.bQ.length) 5 U sm)<|aw (ai (n:=aN.ay.length) 6 U (fg B.1))<|aw (g9 7 U B)<|aI) U fun FE FR=>?_
 obtain ⟨W,Z⟩:=FE
 try dsimp only
 refine bf 1 U<|qA [0,9,10,11,12,13,14,15,16,17,18,19,20,21,22,23] U U<|rP 4 [] mn ?_
 refine RK E2<|ah fun _ B2=>w_drawNO cu [8,9,10,11,12,13,14,15,16,17,18,19,20,21,22,23,24,25,26,27,28,29,30,31,32,33,34,35,36,37,38,39,40,41,42,43,44,45,46,47,48,49,50,51,52,53,54,55,56,57,58,59,60,61,62,63,64,65,66,67,68,69,70,71,72,73] [0,1,2,3,4,5,6,7,8,9,10,11,12,13,14,15] U U U<|eS U (MV U)<|eS U (BI U lu)<|eS U (MV U)<|Jg (t:=40) U (aM fun Er=>?_) (aL fun Er=>?_)
 ·exact absurd (OZ.1) Er
 refine eS U (LW 14 U bX U U)<|eS U (CL (l3 2596 2602) (aI) U)<|eS U (BI U (sW _ _ (hZ aN 0 0) (aa.mk 2596 2602)))<|eS U (PK U)<|eS U (MV U)<|eV U<|n_hd U fun T106 B3=>b_ (t:=45) U (aM fun Es=>?_) (aL fun Es=>?_)
 ·exact absurd (OZ.2) Es
 refine cX jq (aI) U fun FF Dc=>?_
 obtain ⟨Ax,BX,A2,Bc,BS,A7,Bi,BB,Bn,BG,Bs,BN,Bx,Dj⟩:=FF
 try dsimp only
 obtain ⟨A,F,B⟩:=Dc
 refine RD B3 8 U<|n_hd U fun T123 B4=>rS (CL (yE 0 514 515 aN Ax BX BS A2 Bc A7 Bi BB Bn BG Bs Dj BN Bx (by exact A)) (fz 23 U U<|aw (ai (n:=aN.ao.aP.length) 0 U sm)<|aw (ai (n:=aN.ao.ak.length) 1 U (g4 F))<|aw (cM 2 U iR)<|aw (ai (n:=aN.ao.ae.length) 3 U sm)<|aw (ai (n:=aN.aQ.length) 4 U sm)<|aw (ai (n:=aN.bQ.length) 5 U sm)<|aw (ai (n:=aN.ay.length) 6 U (fg B.1))<|aw (g9 7 U B)<|aI) U)<|RD B4 8 U<|n_hd U fun T124 B5=>qA [8,9,10,11,12,13,14,15,16,17,18,19,20,21,22,23] U U<|rS (PK U)<|RD B5 0 U<|n_hd U fun T125 B6=>rS (MV U)<|RD B6 0 U ?_
 refine wS (V:=OA×Nat×OA×Nat×List RA×OA×Nat×OA×Nat×OA×Nat×OA×Nat×List cO×Nat) (fun (j,z,l,AB,X,p,AD,s,AF,v,AH,x,AJ,c,e)=>e9 aN X c∧X.length=aN.ao.ak.length∧sR aN.ay c) (fun (j,z,l,AB,X,p,AD,s,AF,v,AH,x,AJ,c,e)=>[(3,(vS AU ((cd aN).length) AV)),(4,(vI (cK aN))),(5,(vP AW)),(6,(vI 0)),(7,(vS AO ((cd k6).length) AP)),(8,(vI (cK k6))),(9,(vS W ((eN aN 0 2 (aa.mk 2590 2599)).length) Z)),(10,(vI (gI aN 0 2 (aa.mk 2590 2599)))),(49,(vB true)),(50,(vA (cw.cells (cw.mk (ck.mk (bE.mk (br.mk j aN.ao.aP.length z)) aN.ao.hO (br.mk l aN.ao.ak.length AB) (br.mk p aN.ao.ae.length AD) aN.ao.cH aN.ao.eU aN.ao.cV) (br.mk s aN.aQ.length AF) (br.mk v aN.bQ.length AH) aN.iI (br.mk x aN.ay.length AJ))))),(51,(vS (some ⟨e,0,none⟩) 2 2))]) (fun (j,z,l,AB,X,p,AD,s,AF,v,AH,x,AJ,c,e)=>[(bV e 3 [(vI 1),(vI 2)]),(own j z 114 9 (aN.ao.aP.map al.cells)),(own l AB 119 2 (List.zipWith ar.cells aN.ao.ak X)),(bw (aV ar.owns aN.ao.ak X)),(own p AD 121 4 (aN.ao.ae.map bD.cells)),(own s AF 3 1 (aN.aQ.map iC)),(own v AH 3 1 (aN.bQ.map iC)),(own x AJ 46 1 (List.zipWith cP aN.ay c)),(bw (aV jc aN.ay c)),(own W Z 3 1 ((eN aN 0 2 (aa.mk 2590 2599)).map iC)),(own AO AP 32 1 (List.zipWith lW (cd k6) b)),(bw (aV sE (cd k6) b)),(bV AW 35 (cw.cells (cw.mk (ck.mk (bE.mk (br.mk G aN.ao.aP.length N)) aN.ao.hO (br.mk H aN.ao.ak.length O) (br.mk Fd aN.ao.ae.length P) aN.ao.cH aN.ao.eU aN.ao.cV) (br.mk J aN.aQ.length R) (br.mk K aN.bQ.length S) aN.iI (br.mk L ((gO aN.ay 0 2 (aa.mk 2590 2599)).length) T)))),(own G N 114 9 (aN.ao.aP.map al.cells)),(own H O 119 2 (List.zipWith ar.cells aN.ao.ak M)),(bw (aV ar.owns aN.ao.ak M)),(own Fd P 121 4 (aN.ao.ae.map bD.cells)),(own J R 3 1 (aN.aQ.map iC)),(own K S 3 1 (aN.bQ.map iC)),(own L T 46 1 (List.zipWith cP (gO aN.ay 0 2 (aa.mk 2590 2599)) Fc)),(bw (aV jc (gO aN.ay 0 2 (aa.mk 2590 2599)) Fc)),(own AU AV 32 1 (List.zipWith lW (cd aN) a)),(bw (aV sE (cd aN) a)),(bV Ad 40 (aa.cells (hZ aN 0 0))),(rd eX 3 2 dY).ro]) 60 [14,15,16,17,18,19,20,21,22,23,24,25,26,27,28,29,30,31,32,33,34,35,36,37,38,39,40,41,42,43,44,45,46,47,48,49,50,51,52,53,54,55,56,57,58,59,60,61,62,63,64,65,66,67,68,69,70,71,72,73] (fun hJ=>?_) ?_
 ·refine iU [12,13] kr (eG ?_<|eG ?_<|kS)
  rotate_left 1
  ·refine ik U U U fun T162 B9=>b_ (t:=49) U (aM fun Ae=>?_) (aL fun Ae=>?_)
   ·exact absurd (⟨mo.1,mo.2.1⟩) Ae
   refine cU (xs:=[.const (vI 1),.const (vI 2)]) (cs:=[(vI 1),(vI 2)]) U cq jd U U U U (by simp [Value.cells]) U U fun EA=>RD B9 1 U<|N1 12<|ik U U U fun T164 B_=>cX jq (aI) U fun FH De=>?_
   obtain ⟨Az,BZ,A4,Bf,BU,A9,Bk,BD,Bp,BK,Bu,BP,Bz,Dl⟩:=FH
   try dsimp only
   obtain ⟨A,F,B⟩:=De
   refine RD B_ 9 U ?_
   exact jJ hJ (Az,BZ,A4,Bf,BU,A9,Bk,BD,Bp,BK,Bu,BP,Bz,Dl,EA) ⟨A,F,B⟩ [8,0,1,2,3,4,5,6,7,9,10,11,12,13,14,15,16,17,18,19,20,21,22,23,24] U U U
  refine ik U U U fun T143 B7=>b_ (t:=49) U (aM fun Ae=>?_) (aL fun Ae=>?_)
  ·exact absurd (⟨mo.1,mo.2.1⟩) Ae
  refine cX jq (aI) U fun FG Dd=>?_
  obtain ⟨Ay,BY,A3,Be,BT,A8,Bj,BC,Bo,BJ,Bt,BO,By,Dk⟩:=FG
  try dsimp only
  obtain ⟨A,F,B⟩:=Dd
  refine RD B7 8 U<|N1 13<|ik U U U fun T160 B8=>cU (xs:=[.const (vI 1),.const (vI 2)]) (cs:=[(vI 1),(vI 2)]) U cq jd U U U U (by simp [Value.cells]) U U fun D_=>RD B8 9 U ?_
  exact jJ hJ (Ay,BY,A3,Be,BT,A8,Bj,BC,Bo,BJ,Bt,BO,By,Dk,D_) ⟨A,F,B⟩ [0,1,2,3,4,5,6,7,8,9,10,11,12,13,14,15,16,17,18,19,20,21,22,23,24] U U U
 rintro ⟨j,z,l,AB,X,p,AD,s,AF,v,AH,x,AJ,c,e⟩ ⟨A,F,B⟩
 try dsimp only
 refine n_hd U fun T181 CA=>rS (CL (zr 0 ([1,2]) (some ⟨e,0,none⟩) 2 aN j z X l AB p AD s AF v AH c x AJ (by exact A) dc) (aw (aZ 0 U U (by simp [bB]) U)<|fz 24 U U<|aw (ai (n:=aN.ao.aP.length) 1 U sm)<|aw (ai (n:=aN.ao.ak.length) 2 U (g4 F))<|aw (cM 3 U iR)<|aw (ai (n:=aN.ao.ae.length) 4 U sm)<|aw (ai (n:=aN.aQ.length) 5 U sm)<|aw (ai (n:=aN.bQ.length) 6 U sm)<|aw (ai (n:=aN.ay.length) 7 U (fg B.1))<|aw (g9 8 U B)<|aI) U)<|RD CA 9 U<|n_hd U fun T182 CB=>qA [0,9,10,11,12,13,14,15,16,17,18,19,20,21,22,23,24] U U<|rS (PK U)<|RD CB 1 U<|n_hd U fun T183 CC=>rS (MV U)<|RD CC 1 U ?_
 refine wS (V:=OA×Nat×OA×Nat×List RA×OA×Nat×OA×Nat×OA×Nat×OA×Nat×List cO×Nat) (fun (k,AA,o,AC,Y,q,AE,u,AG,w,AI,y,AK,d,f)=>e9 aN Y d∧Y.length=aN.ao.ak.length∧sR aN.ay d) (fun (k,AA,o,AC,Y,q,AE,u,AG,w,AI,y,AK,d,f)=>[(3,(vS AU ((cd aN).length) AV)),(4,(vI (cK aN))),(5,(vP AW)),(6,(vI 0)),(7,(vS AO ((cd k6).length) AP)),(8,(vI (cK k6))),(9,(vS W ((eN aN 0 2 (aa.mk 2590 2599)).length) Z)),(10,(vI (gI aN 0 2 (aa.mk 2590 2599)))),(54,(vB true)),(55,(vA (cw.cells (cw.mk (ck.mk (bE.mk (br.mk k aN.ao.aP.length AA)) aN.ao.hO (br.mk o aN.ao.ak.length AC) (br.mk q aN.ao.ae.length AE) aN.ao.cH aN.ao.eU aN.ao.cV) (br.mk u aN.aQ.length AG) (br.mk w aN.bQ.length AI) aN.iI (br.mk y aN.ay.length AK))))),(56,(vS (some ⟨f,0,none⟩) 2 2))]) (fun (k,AA,o,AC,Y,q,AE,u,AG,w,AI,y,AK,d,f)=>[(bV f 3 [(vI 2),(vI 3)]),(own k AA 114 9 (aN.ao.aP.map al.cells)),(own o AC 119 2 (List.zipWith ar.cells aN.ao.ak Y)),(bw (aV ar.owns aN.ao.ak Y)),(own q AE 121 4 (aN.ao.ae.map bD.cells)),(own u AG 3 1 (aN.aQ.map iC)),(own w AI 3 1 (aN.bQ.map iC)),(own y AK 46 1 (List.zipWith cP aN.ay d)),(bw (aV jc aN.ay d)),(bV e 3 [(vI 1),(vI 2)]),(own W Z 3 1 ((eN aN 0 2 (aa.mk 2590 2599)).map iC)),(own AO AP 32 1 (List.zipWith lW (cd k6) b)),(bw (aV sE (cd k6) b)),(bV AW 35 (cw.cells (cw.mk (ck.mk (bE.mk (br.mk G aN.ao.aP.length N)) aN.ao.hO (br.mk H aN.ao.ak.length O) (br.mk Fd aN.ao.ae.length P) aN.ao.cH aN.ao.eU aN.ao.cV) (br.mk J aN.aQ.length R) (br.mk K aN.bQ.length S) aN.iI (br.mk L ((gO aN.ay 0 2 (aa.mk 2590 2599)).length) T)))),(own G N 114 9 (aN.ao.aP.map al.cells)),(own H O 119 2 (List.zipWith ar.cells aN.ao.ak M)),(bw (aV ar.owns aN.ao.ak M)),(own Fd P 121 4 (aN.ao.ae.map bD.cells)),(own J R 3 1 (aN.aQ.map iC)),(own K S 3 1 (aN.bQ.map iC)),(own L T 46 1 (List.zipWith cP (gO aN.ay 0 2 (aa.mk 2590 2599)) Fc)),(bw (aV jc (gO aN.ay 0 2 (aa.mk 2590 2599)) Fc)),(own AU AV 32 1 (List.zipWith lW (cd aN) a)),(bw (aV sE (cd aN) a)),(bV Ad 40 (aa.cells (hZ aN 0 0))),(rd eX 3 2 dY).ro]) 55 [19,20,21,22,23,24,25,26,27,28,29,30,31,32,33,34,35,36,37,38,39,40,41,42,43,44,45,46,47,48,49,50,51,52,53,54,55,56,57,58,59,60,61,62,63,64,65,66,67,68,69,70,71,72,73] (fun hJ=>?_) ?_
 ·refine iU [17,18] kr (eG ?_<|eG ?_<|kS)
  rotate_left 1
  ·refine ik U U U fun T220 CF=>b_ (t:=54) U (aM fun Af=>?_) (aL fun Af=>?_)
   ·exact absurd (⟨mo.1,mo.2.2⟩) Af
   refine cU (xs:=[.const (vI 2),.const (vI 3)]) (cs:=[(vI 2),(vI 3)]) U cq jd U U U U (by simp [Value.cells]) U U fun EC=>RD CF 2 U<|N1 17<|ik U U U fun T222 CG=>cX jq (aI) U fun FJ Dg=>?_
   obtain ⟨A1,Bb,A6,Bh,BW,BA,Bm,BF,Br,BM,Bw,BR,B1,Dn⟩:=FJ
   try dsimp only
   obtain ⟨A,F,B⟩:=Dg
   refine RD CG 10 U ?_
   exact jJ hJ (A1,Bb,A6,Bh,BW,BA,Bm,BF,Br,BM,Bw,BR,B1,Dn,EC) ⟨A,F,B⟩ [8,0,1,2,3,4,5,6,7,9,10,11,12,13,14,15,16,17,18,19,20,21,22,23,24,25] U U U
  refine ik U U U fun T201 CD=>b_ (t:=54) U (aM fun Af=>?_) (aL fun Af=>?_)
  ·exact absurd (⟨mo.1,mo.2.2⟩) Af
  refine cX jq (aI) U fun FI Df=>?_
  obtain ⟨A0,Ba,A5,Bg,BV,A_,Bl,BE,Bq,BL,Bv,BQ,B0,Dm⟩:=FI
  try dsimp only
  obtain ⟨A,F,B⟩:=Df
  refine RD CD 9 U<|N1 18<|ik U U U fun T218 CE=>cU (xs:=[.const (vI 2),.const (vI 3)]) (cs:=[(vI 2),(vI 3)]) U cq jd U U U U (by simp [Value.cells]) U U fun EB=>RD CE 10 U ?_
  exact jJ hJ (A0,Ba,A5,Bg,BV,A_,Bl,BE,Bq,BL,Bv,BQ,B0,Dm,EB) ⟨A,F,B⟩ [0,1,2,3,4,5,6,7,8,9,10,11,12,13,14,15,16,17,18,19,20,21,22,23,24,25] U U U
 rintro ⟨k,AA,o,AC,Y,q,AE,u,AG,w,AI,y,AK,d,f⟩ ⟨A,F,B⟩
 try dsimp only
 refine n_hd U fun T239 CH=>rS (CL (zr 2 ([2,3]) (some ⟨f,0,none⟩) 2 aN k AA Y o AC q AE u AG w AI d y AK (by exact A) dc) (aw (aZ 0 U U (by simp [bB]) U)<|fz 25 U U<|aw (ai (n:=aN.ao.aP.length) 1 U sm)<|aw (ai (n:=aN.ao.ak.length) 2 U (g4 F))<|aw (cM 3 U iR)<|aw (ai (n:=aN.ao.ae.length) 4 U sm)<|aw (ai (n:=aN.aQ.length) 5 U sm)<|aw (ai (n:=aN.bQ.length) 6 U sm)<|aw (ai (n:=aN.ay.length) 7 U (fg B.1))<|aw (g9 8 U B)<|aI) U)<|RD CH 10 U<|n_hd U fun T240 CI=>qA [0,9,10,11,12,13,14,15,16,17,18,19,20,21,22,23,24,25] U U<|rS (PK U)<|RD CI 2 U<|n_hd U fun T241 CJ=>rS (MV U)<|RD CJ 2 U<|n_hd U fun T242 CK=>b_ (t:=59) U (aM fun Et=>?_) (aL fun Et=>?_)
 ·exact absurd (⟨BH.1,BH.2.2⟩) Et
 refine rS (CL (Cj 1 2 2 0) (bj [17]) U)<|RD CK 2 U<|n_hd U fun T243 CM=>rS (PK U)<|RD CM 2 U<|n_hd U fun T244 CN=>rS (MV U)<|RD CN 2 U<|n_hd U fun T245 CO=>b_ (t:=62) U (aM fun Eu=>?_) (aL fun Eu=>?_)
 ·exact absurd (⟨⟨⟨AQ.1,AQ.2.1⟩,AQ.1⟩,AQ.2.2⟩) Eu
 refine rS (CL (Cj 0 1 0 1) (bj [17]) U)<|RD CO 2 U<|n_hd U fun T246 CP=>rS (PK U)<|RD CP 2 U<|n_hd U fun T247 CQ=>rS (MV U)<|RD CQ 2 U<|n_hd U fun T248 CR=>b_ (t:=65) U (aM fun Ev=>?_) (aL fun Ev=>?_)
 ·exact absurd (⟨⟨⟨AM.1,AM.2.1⟩,AM.1⟩,AM.2.2⟩) Ev
 refine rS (MV U)<|RD CR 2 U<|n_hd U fun T249 CS=>rS (BI U lu)<|RD CS 2 U<|n_hd U fun T250 CT=>rS (PK U)<|RD CT 2 U<|n_hd U fun T251 CU=>rS (MV U)<|RD CU 2 U ?_
 refine wS (V:=Nat×Nat) (fun (C,g)=>True) (fun (C,g)=>[(5,(vP AW)),(6,(vI 0)),(7,(vS AO ((cd k6).length) AP)),(8,(vI (cK k6))),(9,(vS W ((eN aN 0 2 (aa.mk 2590 2599)).length) Z)),(10,(vI (gI aN 0 2 (aa.mk 2590 2599)))),(69,(vB true)),(70,(vS AU ((cd aN).length) AV)),(71,(vS (some ⟨C,0,none⟩) 3 3)),(72,(vS (some ⟨g,0,none⟩) 1 1))]) (fun (C,g)=>[(bV g 32 [(vS (some ⟨C,0,none⟩) 3 3)]),(bV C 3 [(vI 0),(vI 1),(vI 2)]),(bV f 3 [(vI 2),(vI 3)]),(bV e 3 [(vI 1),(vI 2)]),(own W Z 3 1 ((eN aN 0 2 (aa.mk 2590 2599)).map iC)),(own AO AP 32 1 (List.zipWith lW (cd k6) b)),(bw (aV sE (cd k6) b)),(bV AW 35 (cw.cells (cw.mk (ck.mk (bE.mk (br.mk G aN.ao.aP.length N)) aN.ao.hO (br.mk H aN.ao.ak.length O) (br.mk Fd aN.ao.ae.length P) aN.ao.cH aN.ao.eU aN.ao.cV) (br.mk J aN.aQ.length R) (br.mk K aN.bQ.length S) aN.iI (br.mk L ((gO aN.ay 0 2 (aa.mk 2590 2599)).length) T)))),(own G N 114 9 (aN.ao.aP.map al.cells)),(own H O 119 2 (List.zipWith ar.cells aN.ao.ak M)),(bw (aV ar.owns aN.ao.ak M)),(own Fd P 121 4 (aN.ao.ae.map bD.cells)),(own J R 3 1 (aN.aQ.map iC)),(own K S 3 1 (aN.bQ.map iC)),(own L T 46 1 (List.zipWith cP (gO aN.ay 0 2 (aa.mk 2590 2599)) Fc)),(bw (aV jc (gO aN.ay 0 2 (aa.mk 2590 2599)) Fc)),(own AU AV 32 1 (List.zipWith lW (cd aN) a)),(bw (aV sE (cd aN) a)),(bV Ad 40 (aa.cells (hZ aN 0 0))),(rd eX 3 2 dY).ro]) 39 [35,36,37,38,39,40,41,42,43,44,45,46,47,48,49,50,51,52,53,54,55,56,57,58,59,60,61,62,63,64,65,66,67,68,69,70,71,72,73] (fun hJ=>?_) ?_
 ·refine iU [32,33] kr (eG ?_<|eG ?_<|kS)
  ·refine ik U U U fun T254 CV=>b_ (t:=69) U (aM fun Ag=>?_) (aL fun Ag=>?_)
   ·exact absurd (qu) Ag
   refine rS (MV U)<|RD CV 2 U<|N1 33<|ik U U U fun T255 CW=>cU (xs:=[.const (vI 0),.const (vI 1),.const (vI 2)]) (cs:=[(vI 0),(vI 1),(vI 2)]) U cq jd U U U U (by simp [Value.cells]) U U fun Ak=>RD CW 3 U<|N1 34<|ik U U U fun T257 CX=>cU (xs:=[.tmp 71]) (cs:=[(vS (some ⟨Ak,0,none⟩) 3 3)]) U nT vv U U U U (by simp [Value.cells]) U U fun ED=>RD CX 4 U ?_
   exact jJ hJ (Ak,ED) trivial [0,1,2,3,4,5,6,7,8,9,10,11,12,13,14,15,16,17,18,19] U U U
  refine ik U U U fun T259 CY=>b_ (t:=69) U (aM fun Ag=>?_) (aL fun Ag=>?_)
  ·exact absurd (qu) Ag
  refine cU (xs:=[.const (vI 0),.const (vI 1),.const (vI 2)]) (cs:=[(vI 0),(vI 1),(vI 2)]) U cq jd U U U U (by simp [Value.cells]) U U fun AY=>RD CY 3 U<|iU [32,34] kr (eG ?_<|eG ?_<|kS)
  rotate_left 1
  ·refine ik U U U fun T264 Cb=>cU (xs:=[.tmp 71]) (cs:=[(vS (some ⟨AY,0,none⟩) 3 3)]) U nT vv U U U U (by simp [Value.cells]) U U fun EF=>RD Cb 4 U<|N1 32<|ik U U U fun T266 Cc=>rS (MV U)<|RD Cc 4 U ?_
   exact jJ hJ (AY,EF) trivial [0,1,2,3,4,5,6,7,8,9,10,11,12,13,14,15,16,17,18,19] U U U
  refine ik U U U fun T261 CZ=>rS (MV U)<|RD CZ 3 U<|N1 34<|ik U U U fun T262 Ca=>cU (xs:=[.tmp 71]) (cs:=[(vS (some ⟨AY,0,none⟩) 3 3)]) U nT vv U U U U (by simp [Value.cells]) U U fun EE=>RD Ca 4 U ?_
  exact jJ hJ (AY,EE) trivial [0,1,2,3,4,5,6,7,8,9,10,11,12,13,14,15,16,17,18,19] U U U
 rintro ⟨C,g⟩-
 try dsimp only
 refine n_hd U fun T267 Cd=>?_
 refine dM (es:=(([0,1,2]:List Int).map iC)) (C':=[_,(own (some ⟨C,0,none⟩) 3 3 1 (([0,1,2]:List Int).map iC)),_,_,_,_,_,_,_,_,_,_,_,_,_,_,_,_,_,_]) 1 U (mT bB _) U (by show _≤maxLen; exact Nat.le_trans (m:=10) (show (3:Nat)≤10 by decide) dc) U ?_
 refine dM (es:=(List.zipWith lW [([0,1,2]:List Int)] [((some ⟨C,0,none⟩),3)])) (C':=[(own (some ⟨g,0,none⟩) 1 32 1 (List.zipWith lW [([0,1,2]:List Int)] [((some ⟨C,0,none⟩),3)])),_,_,_,_,_,_,_,_,_,_,_,_,_,_,_,_,_,_,_]) 0 U (oL KM) U (by show _≤maxLen; exact Nat.le_trans (m:=10) (show (1:Nat)≤10 by decide) dc) U ?_
 refine r_tiesel2 (aV sE [([0,1,2]:List Int)] [((some ⟨C,0,none⟩),3)]) [1] [0,2,3,4,5,6,7,8,9,10,11,12,13,14,15,16,17,18,19] U U<|rS (CL (u9 (cd aN) ([([0,1,2]:List Int)]) a AU AV ([((some ⟨C,0,none⟩),3)]) (some ⟨g,0,none⟩) 1 (by first|exact Aj.1|exact Ab.1) dc (by first|exact Aj.2|exact Ab.2) dc (by exact At) (by rfl)) (aw (ai (n:=(cd aN).length) 16 U (iv At))<|aw (cM 17 U mM)<|aw (ai (n:=([([0,1,2]:List Int)]).length) 1 U sm)<|aw (cM 0 U mM)<|aI) U)<|RD Cd 4 U<|n_hd U fun T268 Ce=>rS (PK U)<|RD Ce 4 U<|n_hd U fun T269 Cf=>rS (MV U)<|RD Cf 4 U<|n_hd U fun T270 Cg=>b_ (t:=75) U (aM fun Ew=>?_) (aL fun Ew=>?_)
 ·exact absurd (Ou) Ew
 refine rS (MV U)<|RD Cg 4 U<|n_hd U fun T271 Ch=>rS (SX (bU (r:= .bool true) U U U lu) U U)<|RD Ch 4 U<|n_hd U fun T272 Ci=>rS (PK U)<|RD Ci 4 U<|n_hd U fun T273 Ck=>rS (MV U)<|RD Ck 4 U<|n_hd U fun T274 Cl=>rS (LW 7 U bX U U)<|RD Cl 4 U<|n_hd U fun T275 Cm=>?_
 refine rS (CL (yE 2 516 516 k6 G N M H O Fd P J R K S Fc L T (by exact Av)) (fz 19 U U<|aw (ai (n:=aN.ao.aP.length) 8 U (by rw [List.length_map]; rfl))<|aw (ai (n:=aN.ao.ak.length) 9 U (g4 Ai))<|aw (cM 10 U iR)<|aw (ai (n:=aN.ao.ae.length) 11 U (by rw [List.length_map]; rfl))<|aw (ai (n:=aN.aQ.length) 12 U (by rw [List.length_map]; rfl))<|aw (ai (n:=aN.bQ.length) 13 U (by rw [List.length_map]; rfl))<|aw (ai (n:=(gO aN.ay 0 2 (aa.mk 2590 2599)).length) 14 U (fg Ac.1))<|aw (g9 15 U Ac)<|aI) U) ?_
 refine RD Cm 4 U<|n_hd U fun T276 Cn=>rS (PK U)<|RD Cn 4 U<|n_hd U fun T277 Co=>rS (MV U)<|RD Co 4 U<|n_hd U fun T278 Cp=>b_ (t:=83) U (aM fun Ex=>?_) (aL fun Ex=>?_)
 ·exact absurd (Jw) Ex
 refine rS (MV U)<|RD Cp 4 U<|n_hd U fun T279 Cq=>rS (BI U lu)<|RD Cq 4 U<|n_hd U fun T280 Cr=>rS (PK U)<|RD Cr 4 U<|n_hd U fun T281 Cs=>rS (MV U)<|RD Cs 4 U ?_
 refine wS (V:=Nat×Nat×Nat) (fun (D,E,AN)=>True) (fun (D,E,AN)=>[(9,(vS W ((eN aN 0 2 (aa.mk 2590 2599)).length) Z)),(10,(vI (gI aN 0 2 (aa.mk 2590 2599)))),(71,(vS (some ⟨C,0,none⟩) 3 3)),(87,(vB true)),(88,(vS AO ((cd k6).length) AP)),(89,(vS (some ⟨D,0,none⟩) 2 2)),(90,(vS (some ⟨E,0,none⟩) 1 1)),(91,(vS (some ⟨AN,0,none⟩) 2 2))]) (fun (D,E,AN)=>[(bV AN 32 [(vS (some ⟨D,0,none⟩) 2 2),(vS (some ⟨E,0,none⟩) 1 1)]),(bV E 3 [(vI 2)]),(bV D 3 [(vI 0),(vI 1)]),(bw (aV sE [([0,1,2]:List Int)] [((some ⟨C,0,none⟩),3)])),(own (some ⟨g,0,none⟩) 1 32 1 (List.zipWith lW [([0,1,2]:List Int)] [((some ⟨C,0,none⟩),3)])),(bV f 3 [(vI 2),(vI 3)]),(bV e 3 [(vI 1),(vI 2)]),(own W Z 3 1 ((eN aN 0 2 (aa.mk 2590 2599)).map iC)),(own AO AP 32 1 (List.zipWith lW (cd k6) b)),(bw (aV sE (cd k6) b)),(bV AW 35 (cw.cells (cw.mk (ck.mk (bE.mk (br.mk G aN.ao.aP.length N)) aN.ao.hO (br.mk H aN.ao.ak.length O) (br.mk Fd aN.ao.ae.length P) aN.ao.cH aN.ao.eU aN.ao.cV) (br.mk J aN.aQ.length R) (br.mk K aN.bQ.length S) aN.iI (br.mk L ((gO aN.ay 0 2 (aa.mk 2590 2599)).length) T)))),(own G N 114 9 (aN.ao.aP.map al.cells)),(own H O 119 2 (List.zipWith ar.cells aN.ao.ak M)),(bw (aV ar.owns aN.ao.ak M)),(own Fd P 121 4 (aN.ao.ae.map bD.cells)),(own J R 3 1 (aN.aQ.map iC)),(own K S 3 1 (aN.bQ.map iC)),(own L T 46 1 (List.zipWith cP (gO aN.ay 0 2 (aa.mk 2590 2599)) Fc)),(bw (aV jc (gO aN.ay 0 2 (aa.mk 2590 2599)) Fc)),(own AU AV 32 1 (List.zipWith lW (cd aN) a)),(bw (aV sE (cd aN) a)),(bV Ad 40 (aa.cells (hZ aN 0 0))),(rd eX 3 2 dY).ro]) 20 [54,55,56,57,58,59,60,61,62,63,64,65,66,67,68,69,70,71,72,73] (fun hJ=>?_) ?_
 ·refine iU [50,51,52] kr (eG ?_<|eG ?_<|eG ?_<|kS)
  ·refine ik U U U fun T285 Ct=>b_ (t:=87) U (aM fun AX=>?_) (aL fun AX=>?_)
   ·exact absurd (wm) AX
   refine rS (MV U)<|RD Ct 4 U<|iU [51,52] kr (eG ?_<|eG ?_<|kS)
   rotate_left 1
   ·refine ik U U U fun T292 Cy=>cU (xs:=[.const (vI 2)]) (cs:=[(vI 2)]) U cq jd U U U U (by simp [Value.cells]) U U fun An=>RD Cy 5 U<|N1 51<|ik U U U fun T294 Cz=>cU (xs:=[.const (vI 0),.const (vI 1)]) (cs:=[(vI 0),(vI 1)]) U cq jd U U U U (by simp [Value.cells]) U U fun Ao=>RD Cz 6 U<|N1 53<|ik U U U fun T296 C0=>cU (xs:=[.tmp 89,.tmp 90]) (cs:=[(vS (some ⟨Ao,0,none⟩) 2 2),(vS (some ⟨An,0,none⟩) 1 1)]) U nT vv U U U U (by simp [Value.cells]) U U fun EH=>RD C0 7 U ?_
    exact jJ hJ (Ao,An,EH) trivial [0,2,1,3,4,5,6,7,8,9,10,11,12,13,14,15,16,17,18,19,20,21,22] U U U
   refine ik U U U fun T286 Cv=>cU (xs:=[.const (vI 0),.const (vI 1)]) (cs:=[(vI 0),(vI 1)]) U cq jd U U U U (by simp [Value.cells]) U U fun Al=>RD Cv 5 U<|N1 52<|ik U U U fun T288 Cw=>cU (xs:=[.const (vI 2)]) (cs:=[(vI 2)]) U cq jd U U U U (by simp [Value.cells]) U U fun Am=>RD Cw 6 U<|N1 53<|ik U U U fun T290 Cx=>cU (xs:=[.tmp 89,.tmp 90]) (cs:=[(vS (some ⟨Al,0,none⟩) 2 2),(vS (some ⟨Am,0,none⟩) 1 1)]) U nT vv U U U U (by simp [Value.cells]) U U fun EG=>RD Cx 7 U ?_
   exact jJ hJ (Al,Am,EG) trivial [0,1,2,3,4,5,6,7,8,9,10,11,12,13,14,15,16,17,18,19,20,21,22] U U U
  ·refine ik U U U fun T298 C1=>b_ (t:=87) U (aM fun AX=>?_) (aL fun AX=>?_)
   ·exact absurd (wm) AX
   refine cU (xs:=[.const (vI 0),.const (vI 1)]) (cs:=[(vI 0),(vI 1)]) U cq jd U U U U (by simp [Value.cells]) U U fun AR=>RD C1 5 U<|iU [50,52] kr (eG ?_<|eG ?_<|kS)
   ·refine ik U U U fun T300 C2=>rS (MV U)<|RD C2 5 U<|N1 52<|ik U U U fun T301 C3=>cU (xs:=[.const (vI 2)]) (cs:=[(vI 2)]) U cq jd U U U U (by simp [Value.cells]) U U fun Ap=>RD C3 6 U<|N1 53<|ik U U U fun T303 C4=>cU (xs:=[.tmp 89,.tmp 90]) (cs:=[(vS (some ⟨AR,0,none⟩) 2 2),(vS (some ⟨Ap,0,none⟩) 1 1)]) U nT vv U U U U (by simp [Value.cells]) U U fun EI=>RD C4 7 U ?_
    exact jJ hJ (AR,Ap,EI) trivial [0,1,2,3,4,5,6,7,8,9,10,11,12,13,14,15,16,17,18,19,20,21,22] U U U
   refine ik U U U fun T305 C5=>cU (xs:=[.const (vI 2)]) (cs:=[(vI 2)]) U cq jd U U U U (by simp [Value.cells]) U U fun AZ=>RD C5 6 U<|iU [50,53] kr (eG ?_<|eG ?_<|kS)
   rotate_left 1
   ·refine ik U U U fun T310 C8=>cU (xs:=[.tmp 89,.tmp 90]) (cs:=[(vS (some ⟨AR,0,none⟩) 2 2),(vS (some ⟨AZ,0,none⟩) 1 1)]) U nT vv U U U U (by simp [Value.cells]) U U fun EK=>RD C8 7 U<|N1 50<|ik U U U fun T312 C9=>rS (MV U)<|RD C9 7 U ?_
    exact jJ hJ (AR,AZ,EK) trivial [0,1,2,3,4,5,6,7,8,9,10,11,12,13,14,15,16,17,18,19,20,21,22] U U U
   refine ik U U U fun T307 C6=>rS (MV U)<|RD C6 6 U<|N1 53<|ik U U U fun T308 C7=>cU (xs:=[.tmp 89,.tmp 90]) (cs:=[(vS (some ⟨AR,0,none⟩) 2 2),(vS (some ⟨AZ,0,none⟩) 1 1)]) U nT vv U U U U (by simp [Value.cells]) U U fun EJ=>RD C7 7 U ?_
   exact jJ hJ (AR,AZ,EJ) trivial [0,1,2,3,4,5,6,7,8,9,10,11,12,13,14,15,16,17,18,19,20,21,22] U U U
  refine ik U U U fun T313 C_=>b_ (t:=87) U (aM fun AX=>?_) (aL fun AX=>?_)
  ·exact absurd (wm) AX
  refine cU (xs:=[.const (vI 2)]) (cs:=[(vI 2)]) U cq jd U U U U (by simp [Value.cells]) U U fun AS=>RD C_ 5 U<|iU [50,51] kr (eG ?_<|eG ?_<|kS)
  ·refine ik U U U fun T315 DA=>rS (MV U)<|RD DA 5 U<|N1 51<|ik U U U fun T316 DB=>cU (xs:=[.const (vI 0),.const (vI 1)]) (cs:=[(vI 0),(vI 1)]) U cq jd U U U U (by simp [Value.cells]) U U fun Aq=>RD DB 6 U<|N1 53<|ik U U U fun T318 DC=>cU (xs:=[.tmp 89,.tmp 90]) (cs:=[(vS (some ⟨Aq,0,none⟩) 2 2),(vS (some ⟨AS,0,none⟩) 1 1)]) U nT vv U U U U (by simp [Value.cells]) U U fun EL=>RD DC 7 U ?_
   exact jJ hJ (Aq,AS,EL) trivial [0,2,1,3,4,5,6,7,8,9,10,11,12,13,14,15,16,17,18,19,20,21,22] U U U
  refine ik U U U fun T320 DD=>cU (xs:=[.const (vI 0),.const (vI 1)]) (cs:=[(vI 0),(vI 1)]) U cq jd U U U U (by simp [Value.cells]) U U fun Aa=>RD DD 6 U<|iU [50,53] kr (eG ?_<|eG ?_<|kS)
  rotate_left 1
  ·refine ik U U U fun T325 DG=>cU (xs:=[.tmp 89,.tmp 90]) (cs:=[(vS (some ⟨Aa,0,none⟩) 2 2),(vS (some ⟨AS,0,none⟩) 1 1)]) U nT vv U U U U (by simp [Value.cells]) U U fun EN=>RD DG 7 U<|N1 50<|ik U U U fun T327 DH=>rS (MV U)<|RD DH 7 U ?_
   exact jJ hJ (Aa,AS,EN) trivial [0,2,1,3,4,5,6,7,8,9,10,11,12,13,14,15,16,17,18,19,20,21,22] U U U
  refine ik U U U fun T322 DE=>rS (MV U)<|RD DE 6 U<|N1 53<|ik U U U fun T323 DF=>cU (xs:=[.tmp 89,.tmp 90]) (cs:=[(vS (some ⟨Aa,0,none⟩) 2 2),(vS (some ⟨AS,0,none⟩) 1 1)]) U nT vv U U U U (by simp [Value.cells]) U U fun EM=>RD DF 7 U ?_
  exact jJ hJ (Aa,AS,EM) trivial [0,2,1,3,4,5,6,7,8,9,10,11,12,13,14,15,16,17,18,19,20,21,22] U U U
 rintro ⟨D,E,AN⟩-
 try dsimp only
 refine n_hd U fun T328 DI=>?_
 refine dM (es:=(([0,1]:List Int).map iC)) (C':=[_,_,(own (some ⟨D,0,none⟩) 2 3 1 (([0,1]:List Int).map iC)),_,_,_,_,_,_,_,_,_,_,_,_,_,_,_,_,_,_,_,_]) 2 U (mT bB _) U (by show _≤maxLen; exact Nat.le_trans (m:=10) (show (2:Nat)≤10 by decide) dc) U ?_
 refine dM (es:=(([2]:List Int).map iC)) (C':=[_,(own (some ⟨E,0,none⟩) 1 3 1 (([2]:List Int).map iC)),_,_,_,_,_,_,_,_,_,_,_,_,_,_,_,_,_,_,_,_,_]) 1 U (mT bB _) U (by show _≤maxLen; exact Nat.le_trans (m:=10) (show (1:Nat)≤10 by decide) dc) U ?_
 refine dM (es:=(List.zipWith lW [([0,1]:List Int),([2]:List Int)] [((some ⟨D,0,none⟩),2),((some ⟨E,0,none⟩),1)])) (C':=[(own (some ⟨AN,0,none⟩) 2 32 1 (List.zipWith lW [([0,1]:List Int),([2]:List Int)] [((some ⟨D,0,none⟩),2),((some ⟨E,0,none⟩),1)])),_,_,_,_,_,_,_,_,_,_,_,_,_,_,_,_,_,_,_,_,_,_]) 0 U (oL KM) U (by show _≤maxLen; exact Nat.le_trans (m:=10) (show (2:Nat)≤10 by decide) dc) U ?_
 refine r_tiesel2 (aV sE [([0,1]:List Int),([2]:List Int)] [((some ⟨D,0,none⟩),2),((some ⟨E,0,none⟩),1)]) [2,1] [0,3,4,5,6,7,8,9,10,11,12,13,14,15,16,17,18,19,20,21,22] U U<|rS (CL (u9 (cd k6) ([([0,1]:List Int),([2]:List Int)]) b AO AP ([((some ⟨D,0,none⟩),2),((some ⟨E,0,none⟩),1)]) (some ⟨AN,0,none⟩) 2 (by first|exact Aj.1|exact Ab.1) dc (by first|exact Aj.2|exact Ab.2) dc (by exact Au) (by rfl)) (aw (ai (n:=(cd k6).length) 7 U (iv Au))<|aw (cM 8 U mM)<|aw (ai (n:=([([0,1]:List Int),([2]:List Int)]).length) 1 U sm)<|aw (cM 0 U mM)<|aI) U)<|RD DI 6 U<|n_hd U fun T329 DJ=>rS (PK U)<|RD DJ 6 U<|n_hd U fun T330 DK=>rS (MV U)<|RD DK 6 U<|n_hd U fun T331 DL=>b_ (t:=94) U (aM fun Ey=>?_) (aL fun Ey=>?_)
 ·exact absurd (Jc) Ey
 refine rS (MV U)<|RD DL 6 U<|n_hd U fun T332 DM=>rS (BI U lu)<|RD DM 6 U<|n_hd U fun T333 DN=>rS (PK U)<|RD DN 6 U<|n_hd U fun T334 DO=>rS (MV U)<|RD DO 6 U ?_
 refine wS (V:=Nat) (fun AT=>True) (fun AT=>[(71,(vS (some ⟨C,0,none⟩) 3 3)),(89,(vS (some ⟨D,0,none⟩) 2 2)),(90,(vS (some ⟨E,0,none⟩) 1 1)),(98,(vB true)),(99,(vS W ((eN aN 0 2 (aa.mk 2590 2599)).length) Z)),(100,(vS (some ⟨AT,0,none⟩) 1 1))]) (fun AT=>[(bV AT 3 [(vI 2)]),(bw (aV sE [([0,1]:List Int),([2]:List Int)] [((some ⟨D,0,none⟩),2),((some ⟨E,0,none⟩),1)])),(own (some ⟨AN,0,none⟩) 2 32 1 (List.zipWith lW [([0,1]:List Int),([2]:List Int)] [((some ⟨D,0,none⟩),2),((some ⟨E,0,none⟩),1)])),(bw (aV sE [([0,1,2]:List Int)] [((some ⟨C,0,none⟩),3)])),(own (some ⟨g,0,none⟩) 1 32 1 (List.zipWith lW [([0,1,2]:List Int)] [((some ⟨C,0,none⟩),3)])),(bV f 3 [(vI 2),(vI 3)]),(bV e 3 [(vI 1),(vI 2)]),(own W Z 3 1 ((eN aN 0 2 (aa.mk 2590 2599)).map iC)),(own AO AP 32 1 (List.zipWith lW (cd k6) b)),(bw (aV sE (cd k6) b)),(bV AW 35 (cw.cells (cw.mk (ck.mk (bE.mk (br.mk G aN.ao.aP.length N)) aN.ao.hO (br.mk H aN.ao.ak.length O) (br.mk Fd aN.ao.ae.length P) aN.ao.cH aN.ao.eU aN.ao.cV) (br.mk J aN.aQ.length R) (br.mk K aN.bQ.length S) aN.iI (br.mk L ((gO aN.ay 0 2 (aa.mk 2590 2599)).length) T)))),(own G N 114 9 (aN.ao.aP.map al.cells)),(own H O 119 2 (List.zipWith ar.cells aN.ao.ak M)),(bw (aV ar.owns aN.ao.ak M)),(own Fd P 121 4 (aN.ao.ae.map bD.cells)),(own J R 3 1 (aN.aQ.map iC)),(own K S 3 1 (aN.bQ.map iC)),(own L T 46 1 (List.zipWith cP (gO aN.ay 0 2 (aa.mk 2590 2599)) Fc)),(bw (aV jc (gO aN.ay 0 2 (aa.mk 2590 2599)) Fc)),(own AU AV 32 1 (List.zipWith lW (cd aN) a)),(bw (aV sE (cd aN) a)),(bV Ad 40 (aa.cells (hZ aN 0 0))),(rd eX 3 2 dY).ro]) 11 [63,64,65,66,67,68,69,70,71,72,73] (fun hJ=>?_) ?_
 ·refine iU [61,62] kr (eG ?_<|eG ?_<|kS)
  rotate_left 1
  ·refine ik U U U fun T339 DR=>b_ (t:=98) U (aM fun Ah=>?_) (aL fun Ah=>?_)
   ·exact absurd (Bd) Ah
   refine cU (xs:=[.const (vI 2)]) (cs:=[(vI 2)]) U cq jd U U U U (by simp [Value.cells]) U U fun EP=>RD DR 7 U<|N1 61<|ik U U U fun T341 DS=>rS (MV U)<|RD DS 7 U ?_
   exact jJ hJ EP trivial [0,1,2,3,4,5,6,7,8,9,10,11,12,13,14,15,16,17,18,19,20,21,22] U U U
  refine ik U U U fun T336 DP=>b_ (t:=98) U (aM fun Ah=>?_) (aL fun Ah=>?_)
  ·exact absurd (Bd) Ah
  refine rS (MV U)<|RD DP 6 U<|N1 62<|ik U U U fun T337 DQ=>cU (xs:=[.const (vI 2)]) (cs:=[(vI 2)]) U cq jd U U U U (by simp [Value.cells]) U U fun EO=>RD DQ 7 U ?_
  exact jJ hJ EO trivial [0,1,2,3,4,5,6,7,8,9,10,11,12,13,14,15,16,17,18,19,20,21,22] U U U
 rintro AT-
 try dsimp only
 refine n_hd U fun T342 DT=>rS (CL (oh (eN aN 0 2 (aa.mk 2590 2599)) W Z ([2]) (some ⟨AT,0,none⟩) 1 I dc) (aw (ai (n:=(eN aN 0 2 (aa.mk 2590 2599)).length) 7 U sm)<|aw (aZ 0 U U (by simp [bB]) U)<|aI) U)<|RD DT 7 U<|n_hd U fun T343 DU=>rS (PK U)<|RD DU 7 U<|n_hd U fun T344 DV=>rS (MV U)<|RD DV 7 U<|n_hd U fun T345 DW=>b_ (t:=103) U (aM fun Ar=>?_) (aL fun Ar=>?_)
 ·exact absurd (M0) Ar
 refine cU (xs:=[.const (vI 0),.const (vI 2),.const (vI 1)]) (cs:=[(vI 0),(vI 2),(vI 1)]) U cq jd U U U U (by simp [Value.cells]) U U fun EQ=>RD DW 8 U<|n_hd U fun T347 DX=>rS (CL (yv 1 ([0,2,1]) (some ⟨EQ,0,none⟩) 3 dc) (fz 23 U U<|aw (aZ 0 U U (by simp [bB]) U)<|aI) U)<|RD DX 8 U<|n_hd U fun T348 DY=>rS (PK U)<|RD DY 8 U<|n_hd U fun T349 DZ=>rS (MV U)<|RD DZ 8 U<|n_hd U fun T350 Da=>b_ (t:=107) U (aM fun As=>?_) (aL fun As=>?_)
 ·exact absurd (JF) As
 refine cU (xs:=[.const (vI 0),.const (vI 1),.const (vI 2)]) (cs:=[(vI 0),(vI 1),(vI 2)]) U cq jd U U U U (by simp [Value.cells]) U U fun ER=>RD Da 9 U<|Kk [109,110,0] kr kr U _ U U (aH [9,10,11,12,13,14,15,16,17,18,19,20,21,22,23,24])<|dS (CL (yv 2 ([0,1,2]) (some ⟨ER,0,none⟩) 3 dc) (fz 24 U U<|aw (aZ 0 U U (by simp [bB]) U)<|aI) U)<|dP 2 [] mn ?_
 refine cL<|RK B2<|an<|Q1 hQ U U U ?_
 exact cB (fI K_)
end
section
open Go.RowKit
theorem B4 (r:bT) (kA:OA) (kC:Nat) (az:List RA) (cA:OA) (cC:Nat) (bA:OA) (bC:Nat) (slA:OA) (slC:Nat) (drA:OA) (drC:Nat) (ha:List cO) (heA:OA) (heC:Nat) (hraw:qX r az ha):
 dT Tryz.prog 52 [(vA (cw.cells (oF r kA kC cA cC bA bC slA slC drA drC heA heC)))] [(rd kA r.ao.aP.length 9 (r.ao.aP.map al.cells)),(rd cA r.ao.ak.length 2 (List.zipWith ar.cells r.ao.ak az)),(eW (aV ar.gZ r.ao.ak az)),(rd bA r.ao.ae.length 4 (r.ao.ae.map bD.cells)),(rd slA r.aQ.length 1 (r.aQ.map iC)),(rd drA r.bQ.length 1 (r.bQ.map iC)),(rd heA r.ay.length 1 (List.zipWith cP r.ay ha)),(eW (aV iq r.ay ha))] (vB (decide (ow r))):=by
 have AA:=hraw.line
 have AE:=hraw.iM
 have AG:=hraw.has
 have AD:=hraw.iL
 have AB:=hraw.draw
 refine bx kr Tryz.func52 U U fun w0 Q hQ hN=>?_
 try dsimp only
 refine WS fun _ l=>fK U fun b2=>bf 1 U<|RK l<|ah fun _ m=>WS fun _ H=>bf 1 U<|rS (LP (ck.cells (lk r.ao kA kC cA cC bA bC)) 0 U bX U U U)<|rS (CL (LY r.ao kA kC az cA cC bA bC asm) (bj [1,2,3,4]) U)<|rP 1 [] mn ?_
 refine cR (t:=8) U (aL fun k=>?_) (aM fun k=>?_)
 ·refine bf 17 U<|RK H<|aO U<|WS fun _ n=>rP 1 [] mn ?_
  refine RK n<|an<|Q1 hQ U U U ?_
  exact cB (fI (pa (.inl k))).symm
 refine rP 6 [] (mc 0 U mn) ?_
 refine cR (t:=14) U (aL fun AJ=>?_) (aM fun AJ=>?_)
 ·refine bf 11 U<|RK H<|aO U<|WS fun _ o=>rP 1 [] mn ?_
  refine RK o<|an<|Q1 hQ U U U ?_
  exact cB (fI (pa (.inr I))).symm
 refine rP 6 [] (mc 0 U mn) ?_
 refine cR (t:=20) U (aL fun f=>?_) (aM fun f=>?_)
 ·refine bf 5 U<|RK H<|aO U<|WS fun _ p=>rP 1 [] mn ?_
  refine RK p<|an<|Q1 hQ U U U ?_
  exact cB (fI (pa (.inr I))).symm
 refine rP 5 [] (mc 0 U mn) ?_
 refine RK H<|cy U (aL fun h=>?_) (aM fun h=>?_)
 ·refine WS fun _ q=>rP 1 [] mn ?_
  refine RK q<|an<|Q1 hQ U U U ?_
  exact cB (fI (pa (.inr I))).symm
 refine WK m<|ah fun _ s=>WS fun _ N=>rP 1 [] mn ?_
 refine RK N<|av ?_
 have B:(0≤r.ay.length)∧(lD r 0):=by exact ⟨Nat.zero_le _,B_⟩
 refine bH (ι:={z:Nat // (z≤r.ay.length)∧(lD r z)}) [1] [0,1,2,3,4,5,6,7,8] U U (fun z=>[(3,(vI (z.1:Int)))]) (fun z=>[]) (fun _=>rfl) (fun _=>rfl) (fun z=>r.ay.length-z.1) ⟨0,B⟩ (aT U) (aH [0,1,2,3,4,5,6,7,8]) ?_
 clear B
 rintro ⟨i,⟨x,F⟩⟩ J11 L
 try dsimp only
 refine ah fun _ O=>WS fun _ P=>rP 5 [] (mc 0 U mn) ?_
 refine RK P<|bL U (aM fun AJ=>?_) (aL fun AJ=>?_)
 ·refine bu<|ab<|ab<|au<|KK s<|WS fun _ b=>rP 1 [] mn ?_
  refine RK b<|an<|Q1 hQ U U U ?_
  exact cB (cf (GA k I F I)).symm
 refine WK O<|ah fun _ R=>av<|ah fun _ S=>WS fun _ T=>rP 3 [] (mc 0 U mn) ?_
 obtain ⟨ht,D⟩:=aJ r.ay i I
 obtain ⟨A,C⟩:=aJ ha i I
 have E:(List.zipWith cP r.ay ha)[i]? =some (cP ht A):=dy D C
 refine rS (IA i U (aD 7 U) ry dc I I)<|rS (fV i 0 (vS A.1.1 ht.length A.1.2) U bX (aD 7 U) E U dc U) ?_
 obtain ⟨AF,AC,w⟩:=hraw.o1 _ _ _ D C
 refine rP 2 [] mn ?_
 refine RK T<|cy U (aL fun J=>?_) (aM fun J=>?_)
 ·refine WS fun _ AI=>rP 1 [] mn ?_
  refine RK AI<|an<|Q1 hQ U U U ?_
  exact cB (fI (C7 D J)).symm
 refine WK S<|WS fun _ V=>rP 1 [] mn ?_
 refine RK V<|av ?_
 have B:(0≤ht.length)∧(mZ ht 0):=by exact ⟨Nat.zero_le _,BV⟩
 refine bH (ι:={z:Nat // (z≤ht.length)∧(mZ ht z)}) [1,3] [0,1,2,3,4,5,6,7,8] U U (fun z=>[(4,(vI (z.1:Int)))]) (fun z=>[]) (fun _=>rfl) (fun _=>rfl) (fun z=>ht.length-z.1) ⟨0,B⟩ (aT U) (aH [0,1,2,3,4,5,6,7,8]) ?_
 clear B
 rintro ⟨j,⟨y,G⟩⟩ J20 M
 try dsimp only
 refine ah fun _ W=>WS fun _ X=>fw 4 [] (mc 0 U mn) U<|rS (IA i U (aD 7 U) ry dc I I)<|rS (fV i 0 (vS A.1.1 ht.length A.1.2) U bX (aD 7 U) E U dc U)<|rP 2 [] mn ?_
 refine RK X<|bL U (aM fun g=>?_) (aL fun g=>?_)
 ·refine bu<|ab<|ab<|au<|aG<|KK R<|aj<|rP 3 [] mn ?_
  refine aC ?_
  have e:(vI (((i+1):Nat):Int))=(vI ((i:Int)+1)):=by exact cI I
  refine aS (L ⟨(i+1),⟨I,Bo F D (Et J G I)⟩⟩ _ _ _ U os (dh.cons U<|aX U e<|dh.nil _) (aH [0,1,2,3,4,5,6,7,8]))
 refine WK W<|ah fun _ Y=>av<|WS fun _ Z=>fw 3 [] (mc 0 U mn) U<|rS (IA i U (aD 7 U) ry dc I I)<|rS (fV i 0 (vS A.1.1 ht.length A.1.2) U bX (aD 7 U) E U dc U)<|rP 1 [] mn ?_
 obtain ⟨d,hd⟩:=aJ ht j I
 obtain ⟨da,u⟩:=aJ A.2 j I
 have v:(List.zipWith ax.cells ht A.2)[j]? =some (ax.cells d da):=dy hd u
 refine rS (IA j U (show ij _ (rd A.1.1 ht.length 7 (List.zipWith ax.cells ht A.2)).holds from (du 8 U (bM D C cb))) xD dc I I)<|rS (nR ((j*7)+4) U (show ij _ (rd A.1.1 ht.length 7 (List.zipWith ax.cells ht A.2)).holds from (du 8 U (bM D C cb))) (Nat.mul_pos I dc) fu U)<|rS (nR (((j*7)+4)+2) U (show ij _ (rd A.1.1 ht.length 7 (List.zipWith ax.cells ht A.2)).holds from (du 8 U (bM D C cb))) (Nat.mul_pos I dc) fu U)<|rS (fV j 6 (vS da.1 d.cr.ag.length da.2) U bX (show ij _ (rd A.1.1 ht.length 7 (List.zipWith ax.cells ht A.2)).holds from (du 8 U (bM D C cb))) v U dc U) ?_
 have AH:=w d (aR hd)
 refine rP 2 [] mn ?_
 refine RK Z<|bL U (aM fun K=>?_) (aL fun K=>?_)
 ·refine bZ<|aG<|KK Y<|aj<|rP 3 [] mn ?_
  refine aC ?_
  have c:(vI (((j+1):Nat):Int))=(vI ((j:Int)+1)):=by exact cI I
  refine aS (M ⟨(j+1),⟨I,Bs G hd K⟩⟩ _ _ _ U os (dh.cons U<|dh.cons U<|aX U c<|dh.nil _) (aH [0,1,2,3,4,5,6,7,8]))
 refine WS fun _ a=>rP 1 [] mn ?_
 refine RK a<|an<|Q1 hQ U U U ?_
 exact cB (fI (En D hd K)).symm
end
section
open Go.RowKit
theorem EZ (l:a_) (kA:OA) (kC:Nat) (az:List RA) (cA:OA) (cC:Nat) (bA:OA) (bC:Nat) (d:ax) (sgA:OA) (sgC:Nat) (hin:er l az) (hle:dq l=0) (hsl:d.cr.ag.length≤1000000) (hk:d.Out=true):
 dT Tryz.prog 138 [(vA (ck.cells (lk l kA kC cA cC bA bC))),(vA (bk.cells (bk.mk d.Out d.eH d.Time (mD d.cr sgA sgC))))] [(rd kA l.aP.length 9 (l.aP.map al.cells)),(rd cA l.ak.length 2 (List.zipWith ar.cells l.ak az)),(eW (aV ar.gZ l.ak az)),(rd bA l.ae.length 4 (l.ae.map bD.cells)),(rd sgA d.cr.ag.length 2 (d.cr.ag.map aK.cells))] (vT [(vA (aa.cells (oV l d))),(vB (decide (ig l d)))]):=by
 have K:=hin.sH
 have J:=hin.sI
 have H:=hin.ov
 have AA:=hin.sD
 refine bx kr Tryz.func138 U U fun O Q hQ hN=>?_
 try dsimp only
 refine WS fun _ B=>fK U fun L=>fK U fun M=>AL U de fun N=>bf 1 U<|RK B<|ah fun _ E=>av<|WS fun _ C=>rP 3 [] (mc 1 U mn) ?_
 refine RK C<|bL U (fun G=>?_) (fun G=>?_)
 ·exact absurd ((hk).symm.trans G) dc
 refine WS fun _ A=>rS (SX (bh (xs:=[]) (cs:=(aa.cells (aa.mk 0 0))) U U (bg gf U)) U U)<|rP 4 [] (mc 1 U mn) ?_
 refine b_ (t:=15) U (fun D=>?_) (fun D=>?_)
 ·rw [Bool.not_eq_false'] at D
  refine bf 10 U<|fP U cm U<|rP 1 [] mn ?_
  refine RK A<|an<|lh hQ [0] (mc 0 U mn) U ?_
  clear hQ hN A C E B
  rw [Az hk]
  simp only [p_ hk]
  refine congrArg (fun z=>Value.tuple #[_,vB z]) ?_
  first|rfl|(simp_all [dw]; done)
 rw [Bool.not_eq_true'] at D
 refine bf 1 U<|rS (LP (aa.cells d.Time) 1 U bX U U U)<|rS (SX (bh (xs:=[]) (cs:=(aa.cells (aa.mk 0 0))) U U (bg gf U)) U U)<|rS (BI U (sW _ _ d.Time (aa.mk 0 0)))<|rP 2 [] mn ?_
 refine b_ (t:=21) U (aM fun F=>?_) (aL fun F=>?_)
 ·refine bf 4 U<|fP U cm U<|rP 1 [] mn ?_
  refine RK A<|an<|lh hQ [0] (mc 0 U mn) U ?_
  clear hQ hN A C E B
  rw [Az hk]
  simp only [p_ hk]
  refine congrArg (fun z=>Value.tuple #[_,vB z]) ?_
  first|rfl|(simp_all [dw]; done)
 refine bf 1 U<|rS (LP (eC.cells (mD d.cr sgA sgC)) 1 U bX U U U)<|rS (CL (Fj d.cr sgA sgC) (bj [7]) U)<|bf 1 U<|fP U cm U<|rP 1 [] mn ?_
 refine RK A<|an<|lh hQ [0] (mc 0 U mn) U ?_
 clear hQ hN A C E B
 rw [Az hk]
 simp only [p_ hk]
 refine congrArg (fun z=>Value.tuple #[_,vB z]) ?_
 first|rfl|(simp_all [dw]; done)
theorem ET (l:a_) (kA:OA) (kC:Nat) (az:List RA) (cA:OA) (cC:Nat) (bA:OA) (bC:Nat) (d:ax) (sgA:OA) (sgC:Nat) (hin:er l az) (hle:dq l=0) (hsl:d.cr.ag.length≤1000000) (hk:d.Out=false∧d.eH=true):
 dT Tryz.prog 138 [(vA (ck.cells (lk l kA kC cA cC bA bC))),(vA (bk.cells (bk.mk d.Out d.eH d.Time (mD d.cr sgA sgC))))] [(rd kA l.aP.length 9 (l.aP.map al.cells)),(rd cA l.ak.length 2 (List.zipWith ar.cells l.ak az)),(eW (aV ar.gZ l.ak az)),(rd bA l.ae.length 4 (l.ae.map bD.cells)),(rd sgA d.cr.ag.length 2 (d.cr.ag.map aK.cells))] (vT [(vA (aa.cells (oV l d))),(vB (decide (ig l d)))]):=by
 have N:=hin.sH
 have M:=hin.sI
 have K:=hin.ov
 have L:=hin.sD
 refine bx kr Tryz.func138 U U fun S Q hQ hN=>?_
 try dsimp only
 refine WS fun _ D=>fK U fun O=>fK U fun P=>AL U de fun R=>bf 1 U<|RK D<|ah fun _ H=>av<|WS fun _ E=>rP 3 [] (mc 1 U mn) ?_
 refine RK E<|cy U (fun J=>?_) (fun J=>?_)
 ·exact absurd ((hk.1).symm.trans J) dc
 refine WS fun _ F=>rP 3 [] (mc 1 U mn) ?_
 refine RK F<|bL U (fun G=>?_) (fun G=>?_)
 ·exact absurd ((hk.2).symm.trans G) dc
 refine ah fun _ B=>dG cu [10] [] [] [1,2,3,4,5,6,7] [] U U U U U<|eS U (FA 2 U fu U)<|eS U (LP (aa.cells d.Time) 0 U bX U U U)<|eS U (FA 2 U fu U)<|eS U (LP (aa.cells d.Time) 0 U bX U U U)<|eS U (CL (Nc d.Time) (aI) U)<|eS U (MV U)<|qO (t:=34) U (fun A=>?_) (fun A=>?_)
 rotate_left 1
 ·replace A:=DF A
  refine eS U (OX U)<|eS U (OX U)<|eS U (OX U)<|eS U (PK U)<|eS U (AG U)<|eV U<|bY U fun T10 C=>fP U cm U<|aC (C _ _ (aH [1,2,3,4,5,6,7]) ?_)
  refine fF U<|KK B<|an<|lh hQ [0] (mc 0 U mn) U ?_
  clear hQ hN C T10 B F E H D
  rw [Fs hk]
  simp only [tY hk]
  refine congrArg (fun z=>Value.tuple #[_,vB z]) ?_
  first|rfl|(simp_all; done)
 replace A:=DT A
 refine eS U (FA 4 U fu U)<|eS U (LP (eC.cells (mD d.cr sgA sgC)) 0 U bX U U U)<|eS U (CL (Fj d.cr sgA sgC) (bj [6]) U)<|eS U (PK U)<|eS U (AG U)<|eV U<|bY U fun T9 AA=>fP U cm U<|aC (AA _ _ (aH [1,2,3,4,5,6,7]) ?_)
 refine fF U<|KK B<|an<|lh hQ [0] (mc 0 U mn) U ?_
 clear hQ hN AA T9 B F E H D
 rw [Fs hk]
 simp only [tY hk]
 refine congrArg (fun z=>Value.tuple #[_,vB z]) ?_
 first|rfl|(simp_all; done)
theorem Ey (l:a_) (kA:OA) (kC:Nat) (az:List RA) (cA:OA) (cC:Nat) (bA:OA) (bC:Nat) (d:ax) (sgA:OA) (sgC:Nat) (hin:er l az) (hle:dq l=0) (hsl:d.cr.ag.length≤1000000) (hk:d.Out=false∧d.eH=false):
 dT Tryz.prog 138 [(vA (ck.cells (lk l kA kC cA cC bA bC))),(vA (bk.cells (bk.mk d.Out d.eH d.Time (mD d.cr sgA sgC))))] [(rd kA l.aP.length 9 (l.aP.map al.cells)),(rd cA l.ak.length 2 (List.zipWith ar.cells l.ak az)),(eW (aV ar.gZ l.ak az)),(rd bA l.ae.length 4 (l.ae.map bD.cells)),(rd sgA d.cr.ag.length 2 (d.cr.ag.map aK.cells))] (vT [(vA (aa.cells (oV l d))),(vB (decide (ig l d)))]):=by
 have O:=hin.sH
 have N:=hin.sI
 have L:=hin.ov
 have M:=hin.sD
 refine bx kr Tryz.func138 U U fun AA Q hQ hN=>?_
 try dsimp only
 refine WS fun _ E=>fK U fun P=>fK U fun R=>AL U de fun S=>bf 1 U<|RK E<|ah fun _ F=>av<|WS fun _ G=>rP 3 [] (mc 1 U mn) ?_
 refine RK G<|cy U (fun K=>?_) (fun K=>?_)
 ·exact absurd ((hk.1).symm.trans K) dc
 refine WS fun _ H=>rP 3 [] (mc 1 U mn) ?_
 refine RK H<|cy U (fun J=>?_) (fun J=>?_)
 ·exact absurd ((hk.2).symm.trans J) dc
 refine bZ<|aG<|KK F<|WS fun _ AB=>fw 2 [] (mc 2 U mn) U<|rS (LP (eC.cells (mD d.cr sgA sgC)) 1 U bX U U U)<|rS (CL (Pw l kA kC az cA cC bA bC d.cr sgA sgC hin hsl) (bj [3,4,5,6,7]) U)<|bf 3 U<|AL U de fun T=>fP U cm U<|rP 1 [] mn ?_
 refine RK AB<|ah fun _ A=>dG cu [9] [] [] [0,2,3,4,5,6,7,8] [] U U U U U<|eS U (LW 0 U bX U U)<|eS U (MV U)<|eS U (BI U lu)<|eS U (MV U)<|qO (t:=49) U (fun B=>?_) (fun B=>?_)
 rotate_left 1
 ·replace B:=DF B
  refine eS U (OX U)<|eS U (OX U)<|eS U (OX U)<|eS U (OX U)<|eS U (PK U)<|eS U (AG U)<|eV U<|bY U fun T12 D=>ua U cm U<|aC (D _ _ (aH [0,2,3,4,5,6,7,8]) ?_)
  refine fF U<|KK A<|an<|lh hQ [0] (mc 1 U mn) U ?_
  clear hQ hN D T12 A AB H G F E
  rw [Gp hk]
  simp only [sO hk]
  refine congrArg (fun z=>Value.tuple #[_,vB z]) ?_
  first|rfl|(simp_all [dw]; done)
 replace B:=DT B
 refine eS U (FA 2 U fu U)<|eS U (LP (aa.cells d.Time) 1 U bX U U U)<|eS U (SX (bh (xs:=[]) (cs:=(aa.cells (aa.mk 0 0))) U U (bg gf U)) U U)<|eS U (BI U (sW _ _ d.Time (aa.mk 0 0)))<|eS U (PK U)<|eS U (AG U)<|eV U<|bY U fun T11 C=>ua U cm U<|aC (C _ _ (aH [0,2,3,4,5,6,7,8]) ?_)
 refine fF U<|KK A<|an<|lh hQ [0] (mc 1 U mn) U ?_
 clear hQ hN C T11 A AB H G F E
 rw [Gp hk]
 simp only [sO hk]
 refine congrArg (fun z=>Value.tuple #[_,vB z]) ?_
 first|rfl|(simp_all [dw]; done)
theorem Ht (l:a_) (kA:OA) (kC:Nat) (az:List RA) (cA:OA) (cC:Nat) (bA:OA) (bC:Nat) (d:ax) (sgA:OA) (sgC:Nat) (hin:er l az) (hle:dq l=0) (hsl:d.cr.ag.length≤1000000):
 dT Tryz.prog 138 [(vA (ck.cells (lk l kA kC cA cC bA bC))),(vA (bk.cells (bk.mk d.Out d.eH d.Time (mD d.cr sgA sgC))))] [(rd kA l.aP.length 9 (l.aP.map al.cells)),(rd cA l.ak.length 2 (List.zipWith ar.cells l.ak az)),(eW (aV ar.gZ l.ak az)),(rd bA l.ae.length 4 (l.ae.map bD.cells)),(rd sgA d.cr.ag.length 2 (d.cr.ag.map aK.cells))] (vT [(vA (aa.cells (oV l d))),(vB (decide (ig l d)))]):=by
 by_cases ho:d.Out=true
 ·exact EZ l kA kC az cA cC bA bC d sgA sgC hin hle hsl ho
 by_cases hf:d.eH=true
 ·exact ET l kA kC az cA cC bA bC d sgA sgC hin hle hsl ⟨by simpa using ho,hf⟩
 ·exact Ey l kA kC az cA cC bA bC d sgA sgC hin hle hsl ⟨by simpa using ho,by simpa using hf⟩
end
section
open Go.RowKit
theorem EJ (r:bT) (kA:OA) (kC:Nat) (az:List RA) (cA:OA) (cC:Nat) (bA:OA) (bC:Nat) (slA:OA) (slC:Nat) (drA:OA) (drC:Nat) (ha:List cO) (heA:OA) (heC:Nat) (hin:e9 r az ha) (hle:dq r.ao=0):
 lq Tryz.prog 112 [(vA (cw.cells (oF r kA kC cA cC bA bC slA slC drA drC heA heC)))] [(rd kA r.ao.aP.length 9 (r.ao.aP.map al.cells)),(rd cA r.ao.ak.length 2 (List.zipWith ar.cells r.ao.ak az)),(eW (aV ar.gZ r.ao.ak az)),(rd bA r.ao.ae.length 4 (r.ao.ae.map bD.cells)),(rd slA r.aQ.length 1 (r.aQ.map iC)),(rd drA r.bQ.length 1 (r.bQ.map iC)),(rd heA r.ay.length 1 (List.zipWith cP r.ay ha)),(eW (aV iq r.ay ha))] (fun (x:Bool×Int×(OA)×Nat×(List RA))=>bif x.1 then (vT [(vS x.2.2.1 ((cN r).length) x.2.2.2.1),(vB true)]) else (vT [(vS none 0 0),(vB false)])) (fun (x:Bool×Int×(OA)×Nat×(List RA))=>(x.1=true→(eP r∧x.2.2.2.2.length=r.ay.length))∧(x.1=false→(x.2.1=0∧ ¬ eP r))) (fun (x:Bool×Int×(OA)×Nat×(List RA))=>bif x.1 then [(own x.2.2.1 x.2.2.2.1 82 1 (List.zipWith E1 (cN r) x.2.2.2.2)),(bw (aV Dq (cN r) x.2.2.2.2))] else []):=by
 have BO:=hin.line
 have Ba:=hin.iM
 have Bb:=hin.has
 have BU:=hin.iL
 have BS:=hin.draw
 have BV:=dB (r:=r)
 refine dj kr Tryz.func112 U U fun w0 Q hQ hN=>?_
 try dsimp only
 refine WS fun _ BE=>fK U fun b2=>bf 2 U<|RK BE<|WS fun _ BF=>fw 4 [] (mc 0 U mn) U<|RK BF<|ah fun _ BG=>WS fun _ N=>bf 1 U<|rS (CL (o5 (r.aQ.length:Int) 1 5) (aI) U)<|rP 2 [] mn ?_
 refine cR (t:=19) U (bq fun A6=>?_) (bp fun A6=>?_)
 ·refine bf 19 U<|RK N<|aO U<|WS fun _ BH=>rP 2 [] mn ?_
  refine RK BH<|an<|LX hQ (false,0,none,0,[]) [] [] mn U (by rfl) U U ?_
  (exact ⟨AW,fun _=>⟨rfl,fun q=>by have S:=q.num; have q2:=q.wj; have q3:=q.nh; have q4:=q.yh; omega⟩⟩)
 refine rP 7 [] (mc 0 U mn) ?_
 refine cR (t:=26) U (bq fun X=>?_) (bp fun X=>?_)
 ·refine bf 12 U<|RK N<|aO U<|WS fun _ BI=>rP 2 [] mn ?_
  refine RK BI<|an<|LX hQ (false,0,none,0,[]) [] [] mn U (by rfl) U U ?_
  (exact ⟨AW,fun _=>⟨rfl,fun q=>by have S:=q.num; have q2:=q.wj; have q3:=q.nh; have q4:=q.yh; omega⟩⟩)
 refine fw 2 [] (mc 0 U mn) U<|rS (CL (o5 r.iI 0 5) (aI) U)<|rP 3 [] mn ?_
 refine cR (t:=32) U (bq fun A7=>?_) (bp fun A7=>?_)
 ·refine bf 6 U<|RK N<|aO U<|WS fun _ BJ=>rP 2 [] mn ?_
  refine RK BJ<|an<|LX hQ (false,0,none,0,[]) [] [] mn U (by rfl) U U ?_
  (exact ⟨AW,fun _=>⟨rfl,fun q=>by have S:=q.num; have q2:=q.wj; have q3:=q.nh; have q4:=q.yh; omega⟩⟩)
 refine fw 3 [] (mc 0 U mn) U<|rS (CL (o5 (r.ay.length:Int) 1 3) (aI) U)<|rP 2 [] mn ?_
 refine RK N<|cy U (bq fun A9=>?_) (bp fun A9=>?_)
 ·refine WS fun _ BK=>rP 2 [] mn ?_
  refine RK BK<|an<|LX hQ (false,0,none,0,[]) [] [] mn U (by rfl) U U ?_
  (exact ⟨AW,fun _=>⟨rfl,fun q=>by have S:=q.num; have q2:=q.wj; have q3:=q.nh; have q4:=q.yh; omega⟩⟩)
 refine WK BG<|ah fun _ o=>WS fun _ p=>rP 1 [] mn ?_
 refine RK p<|av ?_
 have A:(0≤r.aQ.length)∧(xC r 0):=by exact ⟨Nat.zero_le _,Kp⟩
 refine bH (ι:={z:Nat // (z≤r.aQ.length)∧(xC r z)}) [1,4] [0,1,2,3,4,5,6,7,8] U U (fun z=>[(5,(vI (z.1:Int)))]) (fun z=>[]) (fun _=>rfl) (fun _=>rfl) (fun z=>r.aQ.length-z.1) ⟨0,A⟩ (aT U) (aH [0,1,2,3,4,5,6,7,8]) ?_
 clear A
 rintro ⟨i,⟨BN,Az⟩⟩ J12 T
 try dsimp only
 refine ah fun _ s=>WS fun _ v=>rP 3 [] mn ?_
 refine RK v<|bL U (aM fun A5=>?_) (aL fun A5=>?_)
 ·refine bu<|ab<|ab<|au<|KK o<|WS fun _ AR=>bf 1 U<|RK AR<|ah fun _ AS=>WS fun _ AT=>rP 1 [] mn ?_
  refine RK AT<|av<|fT 82 1<|oz ?_
  have A:(0≤r.ay.length)∧(([]:List RA).length=0)∧(j6 r 0):=by exact ⟨Nat.zero_le _,rfl,xA⟩
  refine bH (ι:={z:Nat×(List RA)×(OA)×Nat // (z.1≤r.ay.length)∧(z.2.1.length=z.1)∧(j6 r z.1)}) [1,4] [2,3,4,5,6,7,8,9,10] U U (fun z=>[(7,(vS z.1.2.2.1 ((List.zipWith B6 (gu r z.1.1) z.1.2.1).length) z.1.2.2.2)),(8,(vI (z.1.1:Int)))]) (fun z=>[(bw (aV Dq (gu r z.1.1) z.1.2.1)),(own z.1.2.2.1 z.1.2.2.2 82 1 (List.map sC (List.zipWith B6 (gu r z.1.1) z.1.2.1)))]) (fun _=>rfl) (fun _=>rfl) (fun z=>r.ay.length-z.1.1) ⟨(0,([]:List RA),none,0),A⟩ (aT U) (aH [2,3,4,5,6,7,8,9,10,0,1]) ?_
  clear A
  rintro ⟨⟨h,tz,a,c⟩,⟨P,C,F⟩⟩ J46 l
  try dsimp only at P C F
  try dsimp only
  refine ah fun _ AU=>WS fun _ AV=>rP 5 [] (mc 0 U mn) ?_
  refine RK AV<|bL U (aM fun A_=>?_) (aL fun A_=>?_)
  ·refine bu<|ab<|ab<|au<|KK AS<|ah fun _ Al=>?_
   have BM:gu r h=cN r:=by unfold cN; rw [show h=r.ay.length by omega]
   have BP:tz.length=r.ay.length:=by omega
   rw [BM,zI,show (List.zipWith B6 (cN r) tz).length=(cN r).length from by rw [List.length_zipWith]; omega]
   have Aw:eP r:=G2 (n:=i) I I I I I Az F I
   refine aj<|rP 3 [] mn ?_
   refine RK Al<|an ?_
   refine LX hQ (true,0,a,c,tz) [10,9] [] mn U (by (show List.all _ _=true; simp only [cond_true,fB,List.all_nil,wi,Bool.and_true]; rfl)) U U ?_
   exact ⟨fun _=>⟨Aw,BP⟩,ND⟩
  refine WK AU<|ah fun _ AX=>av<|ah fun _ AY=>WS fun _ AZ=>rP 3 [] (mc 0 U mn) ?_
  obtain ⟨ht,D⟩:=aJ r.ay h I
  obtain ⟨E,H⟩:=aJ ha h I
  have W:(List.zipWith cP r.ay ha)[h]? =some (cP ht E):=dy D H
  refine rS (IA h U (aD 7 U) ry dc I I) ?_
  have Av:=hin.o1 _ _ _ D H
  have BT:=Av.ov
  refine rS (fV h 0 (vS E.1.1 ht.length E.1.2) U bX (aD 7 U) W U dc U)<|rP 3 [] mn ?_
  refine RK AZ<|cy U (bq fun e=>?_) (bp fun e=>?_)
  ·refine WS fun _ Aa=>rP 2 [] mn ?_
   refine RK Aa<|an<|LX hQ (false,0,none,0,[]) [] [] mn U (by rfl) U U ?_
   (exact ⟨AW,fun _=>⟨rfl,fun q=>by have S:=(q.o1 ht (aR D)).1; omega⟩⟩)
  refine WK AY<|WS fun _ Ab=>bf 1 U<|RK Ab<|ah fun _ Ac=>WS fun _ Ad=>rP 1 [] mn ?_
  refine RK Ad<|av<|fT 40 2 ?_
  have A:(0≤ht.length)∧(oj r.ao ht 0):=by exact ⟨Nat.zero_le _,vr⟩
  refine bH (ι:={z:Nat×(OA)×Nat // (z.1≤ht.length)∧(oj r.ao ht z.1)}) [1,4,7,8] [1,2,3,4,5,6,7,8,9,10,11] U U (fun z=>[(9,(vS z.1.2.1 (((ht.take z.1.1).map (dx r.ao)).length) z.1.2.2)),(10,(vI (z.1.1:Int)))]) (fun z=>[(own z.1.2.1 z.1.2.2 40 2 (((ht.take z.1.1).map (dx r.ao)).map aa.cells))]) (fun _=>rfl) (fun _=>rfl) (fun z=>ht.length-z.1.1) ⟨(0,none,0),A⟩ (aT U) (aH [1,2,3,4,5,6,7,8,9,10,11,0]) ?_
  clear A
  rintro ⟨⟨j,la,lc⟩,⟨R,G⟩⟩ J57 m
  try dsimp only at R G
  try dsimp only
  refine ah fun _ Ae=>WS fun _ Af=>rP 3 [] mn ?_
  refine RK Af<|bL U (aM fun BC=>?_) (aL fun BC=>?_)
  ·refine bu<|ab<|ab<|au<|KK Ac<|aj ?_
   rw [show ((ht.take j).map (dx r.ao))=ht.map (dx r.ao) from by rw [List.take_of_length_le I]]
   refine rP 2 [] mn ?_
   refine cU (xs:=[.tmp 137]) (cs:=[(vS la ((ht.map (dx r.ao)).length) lc)]) U Oc Sr U U U U (by simp [Value.cells]) U U fun BZ=>?_
   refine db (es2:=(List.map sC (List.zipWith B6 (gu r (h+1)) (tz++[(la,lc)])))) (m':=(List.zipWith B6 (gu r (h+1)) (tz++[(la,lc)])).length) 11 U U U Tt U U sm (aZ (es:=List.map sC [(br.mk la ((ht.map (dx r.ao)).length) lc)]) 0 U U (by simp [yA]) U) (JL _) (by rw [List.length_zipWith,kJ I]; omega) (by rw [List.length_zipWith,kJ I]; simp only [maxLen]; omega) (by rw [tq D C,List.map_append]; rfl) (by rw [tq D C]; simp) U fun A2 A4=>?_
   try dsimp only
   refine bf 1 U<|aC<|aG<|KK AX<|aj<|rP 3 [] mn ?_
   refine aC<|BY (X':=aV Dq (gu r (h+1)) (tz++[(la,lc)])) 10 12 U U (Cl (a:=(la,lc)) D C) ?_
   have At:(vI (((h+1):Nat):Int))=(vI ((h:Int)+1)):=by exact cI I
   refine aS (l ⟨((h+1),(tz++[(la,lc)]),A2,A4),⟨I,by simp; omega,wx F D (FC I G I)⟩⟩ _ _ _ U os (ct 3<|aX U At<|dh.nil _) (aH [2,3,4,5,6,7,8,9,10,0,11]))
  refine WK Ae<|ah fun _ Ag=>av<|ah fun _ Ah=>dG cu [14,15] [] [] [0,1,2,3,4,5,6,7,8,9,10,11] [] U U U U U<|eS U (FA 0 U fu U)<|eS U (LP (ck.cells (lk r.ao kA kC cA cC bA bC)) 0 U bX U U U)<|eS U (FA 10 U fu U)<|eS U (L1 (vS heA r.ay.length heC) 0 U bX U U)<|eS U (MV U)<|eS U (IA h U (aD 7 U) ry dc I I)<|eS U (fV h 0 (vS E.1.1 ht.length E.1.2) U bX (aD 7 U) W U dc U)<|eS U (MV U) ?_
  obtain ⟨d,hd⟩:=aJ ht j I
  obtain ⟨da,Au⟩:=aJ E.2 j I
  have BL:(List.zipWith ax.cells ht E.2)[j]? =some (ax.cells d da):=dy hd Au
  refine eS U (IA j U (show ij _ (rd E.1.1 ht.length 7 (List.zipWith ax.cells ht E.2)).holds from (du 8 U (bM D H cb))) xD dc I I)<|eS U (oH j 0 (bk.cells (bk.mk d.Out d.eH d.Time (eC.mk d.cr.Start d.cr.fZ (br.mk da.1 d.cr.ag.length da.2)))) U bX (show ij _ (rd E.1.1 ht.length 7 (List.zipWith ax.cells ht E.2)).holds from (du 8 U (bM D H cb))) BL U dc U U) ?_
  have Bc:=Av.sig d (aR hd)
  refine eS U (CL (Ht r.ao kA kC az cA cC bA bC d da.1 da.2 asm hle asm) (lL [1,2,3,4]<|aw (show ij _ (rd da.1 d.cr.ag.length 2 (d.cr.ag.map aK.cells)).holds from (du 8 U (bM D H (cQ _ (bM hd Au (by simp [ax.gZ]))))))<|aI) U)<|eS U (MV U)<|eS U (EX U)<|eS U (EX U)<|eS U (AG U)<|eV U<|bY U fun T63 Am=>AL U de fun BW=>aC (Am _ _ (aH [1,2,3,4,5,6,7,8,9,10,11,12]) ?_)
  refine bY U fun T65 An=>fP U cm U<|aC (An _ _ (aH [1,2,3,4,5,6,7,8,9,10,11,12]) ?_)
  refine fF U<|KK Ah<|ah fun _ Ai=>WS fun _ Aj=>rP 2 [] mn ?_
  refine RK Aj<|cy U (bq fun J=>?_) (bp fun J=>?_)
  ·refine WS fun _ Ak=>rP 2 [] mn ?_
   refine RK Ak<|an<|LX hQ (false,0,none,0,[]) [] [] mn U (by rfl) U U ?_
   (exact ⟨AW,fun _=>⟨rfl,fun q=>by exact J ((q.o1 ht (aR D)).2 d (aR hd))⟩⟩)
  refine WK Ai<|aj<|rP 2 [] (mc 0 U mn) ?_
  refine cU (xs:=[.tmp 133]) (cs:=(aa.cells (oV r.ao d))) U jN de U U U U (by simp [Value.cells,aa.aU]) U U fun BX=>?_
  refine db (es2:=(List.map aa.cells ((ht.take (j+1)).map (dx r.ao)))) (m':=((ht.take (j+1)).map (dx r.ao)).length) 13 U U U DM U U sm (aZ (es:=List.map aa.cells [(oV r.ao d)]) 0 U U (by simp [aa.aU]) U) (gS _) (by simp only [List.length_map,List.length_take]; omega) (by simp only [maxLen,List.length_map,List.length_take]; omega) (by rw [List.take_add_one,hd]; simp [Ki J]) sq U fun A1 A3=>?_
  try dsimp only
  refine bf 1 U<|aC<|aG<|KK Ag<|aj<|rP 3 [] mn ?_
  refine aC ?_
  have As:(vI (((j+1):Nat):Int))=(vI ((j:Int)+1)):=by exact cI I
  refine aS (m ⟨((j+1),A1,A3),⟨I,vq G hd J⟩⟩ _ _ _ U os (ct 5<|aX U As<|dh.nil _) (aH [2,3,4,5,6,7,8,9,10,11,12,13]))
 refine WK s<|ah fun _ Ay=>av<|ah fun _ V=>ah fun _ K=>dA cu 36 kr<|dP 3 [] (mc 0 U mn) ?_
 obtain ⟨y,hy⟩:=aJ r.aQ i I
 have Ax:=bG iC hy
 refine dS (IA i U (aD 5 U) cq dc I I)<|dS (fV i 0 (vI y) U bX (aD 5 U) Ax U dc U)<|dS (CL (o5 y 0 9999) (aI) U)<|dP 2 [] mn ?_
 refine iY (t:=51) U (bq fun BA=>?_) (bp fun BA=>?_)
 ·refine lJ 28 U<|cL<|RK K<|aO U<|WS fun _ w=>rP 2 [] mn ?_
  refine RK w<|an<|LX hQ (false,0,none,0,[]) [] [] mn U (by rfl) U U ?_
  (exact ⟨AW,fun _=>⟨rfl,fun q=>by have S:=(q.ids i y hy).1; omega⟩⟩)
 refine dP 3 [] mn ?_
 refine jh (t:=54) U (aM fun BB=>?_) (aL fun BB=>?_)
 ·refine dP 18 [] (mc 0 U mn) ?_
  obtain ⟨x,hx⟩:=aJ r.bQ i I
  have M:=bG iC hx
  refine dS (IA i U (aD 6 U) cq dc I I)<|dS (fV i 0 (vI x) U bX (aD 6 U) M U dc U)<|lJ 2 U<|dS (CL (o5 x 0 ((r.aQ.length:Int)-1)) (aI) U)<|dP 2 [] mn ?_
  refine cL<|RK K<|cy U (bq fun Y=>?_) (bp fun Y=>?_)
  ·refine WS fun _ AJ=>rP 2 [] mn ?_
   refine RK AJ<|an<|LX hQ (false,0,none,0,[]) [] [] mn U (by rfl) U U ?_
   (exact ⟨AW,fun _=>⟨rfl,fun q=>by have S:=q.JQ hx; omega⟩⟩)
  refine WK V<|WS fun _ AK=>rP 1 [] mn ?_
  refine RK AK<|av ?_
  have A:(0≤i)∧(∀ (q:Nat) y,q<0→r.bQ[q]? =some y→y≠x):=by exact ⟨Nat.zero_le _,fun q y hq=>absurd hq (Nat.not_lt_zero _)⟩
  refine bH (ι:={z:Nat // (z≤i)∧(∀ (q:Nat) y,q<z→r.bQ[q]? =some y→y≠x)}) [1,4,5] [0,1,2,3,4,5,6,7,8] U U (fun z=>[(6,(vI (z.1:Int)))]) (fun z=>[]) (fun _=>rfl) (fun _=>rfl) (fun z=>i-z.1) ⟨0,A⟩ (aT U) (aH [0,1,2,3,4,5,6,7,8]) ?_
  clear A
  rintro ⟨k,⟨O,B⟩⟩ J34 g
  try dsimp only
  refine ah fun _ AM=>WS fun _ AN=>rP 3 [] mn ?_
  refine RK AN<|bL U (aM fun A8=>?_) (aL fun A8=>?_)
  ·refine bu<|ab<|ab<|au<|aG<|KK Ay<|aj<|rP 3 [] mn ?_
   refine aC ?_
   have Ar:(vI (((i+1):Nat):Int))=(vI ((i:Int)+1)):=by exact cI I
   refine aS (T ⟨(i+1),⟨I,BQ Az (fun a ha=>by rw [hy] at ha; cases ha; exact ⟨I,fun b hb hc=>by omega⟩) (fun a ha=>by rw [hx] at ha; cases ha; exact ⟨I,fun k b hk hb=>B k b I hb⟩)⟩⟩ _ _ _ rfl os (dh.cons rfl<|dh.cons rfl<|aX rfl Ar<|dh.nil _) (aH [0,1,2,3,4,5,6,7,8]))
  refine WK AM<|ah fun _ AO=>av<|ah fun _ AP=>dA cu 11 kr<|dP 3 [] (mc 0 U mn) ?_
  obtain ⟨u,hu⟩:=aJ r.bQ k I
  have Z:=bG iC hu
  refine dS (IA k U (aD 6 U) cq dc I I)<|dS (fV k 0 (vI u) U bX (aD 6 U) Z U dc U)<|mJ 3 [] (mc 0 U mn) U<|dS (IA i U (aD 6 U) cq dc I I)<|dS (fV i 0 (vI x) U bX (aD 6 U) M U dc U)<|dP 1 [] mn ?_
  refine cL<|RK AP<|bL U (aM fun L=>?_) (aL fun L=>?_)
  ·refine bZ<|aG<|KK AO<|aj<|rP 3 [] mn ?_
   refine aC ?_
   have Aq:(vI (((k+1):Nat):Int))=(vI ((k:Int)+1)):=by exact cI I
   refine aS (g ⟨(k+1),⟨I,xG B hu L⟩⟩ _ _ _ U os (ct 3<|aX U Aq<|dh.nil _) (aH [0,1,2,3,4,5,6,7,8]))
  refine WS fun _ AQ=>rP 2 [] mn ?_
  refine RK AQ<|an<|LX hQ (false,0,none,0,[]) [] [] mn U (by rfl) U U ?_
  (exact ⟨AW,fun _=>⟨rfl,fun q=>by have S:=q.num; have q2:=q.wj; have q3:=q.nh; have q4:=q.yh; omega⟩⟩)
 refine mJ 3 [] (mc 0 U mn) U<|dS (IA i U (aD 5 U) cq dc I I)<|dS (fV i 0 (vI y) U bX (aD 5 U) Ax U dc U)<|dP 4 [] (mc 0 U mn) ?_
 obtain ⟨z,hz⟩:=aJ r.aQ (i-1) I
 have BR:=bG iC hz
 refine dS (IA (i-1) U (aD 5 U) cq dc I I)<|dS (fV (i-1) 0 (vI z) U bX (aD 5 U) BR U dc U)<|dP 4 [] mn ?_
 refine iY (t:=69) U (aL fun BD=>?_) (aM fun BD=>?_)
 ·refine lJ 10 U<|cL<|RK K<|aO U<|WS fun _ AA=>rP 2 [] mn ?_
  refine RK AA<|an<|LX hQ (false,0,none,0,[]) [] [] mn U (by rfl) U U ?_
  (exact ⟨AW,fun _=>⟨rfl,fun q=>by have S:=(q.ids i y hy).2 z I hz; omega⟩⟩)
 refine dP 3 [] (mc 0 U mn) ?_
 obtain ⟨x,hx⟩:=aJ r.bQ i I
 have M:=bG iC hx
 refine dS (IA i U (aD 6 U) cq dc I I)<|dS (fV i 0 (vI x) U bX (aD 6 U) M U dc U)<|lJ 2 U<|dS (CL (o5 x 0 ((r.aQ.length:Int)-1)) (aI) U)<|dP 2 [] mn ?_
 refine cL<|RK K<|cy U (bq fun Y=>?_) (bp fun Y=>?_)
 ·refine WS fun _ AB=>rP 2 [] mn ?_
  refine RK AB<|an<|LX hQ (false,0,none,0,[]) [] [] mn U (by rfl) U U ?_
  (exact ⟨AW,fun _=>⟨rfl,fun q=>by have S:=q.JQ hx; omega⟩⟩)
 refine WK V<|WS fun _ AC=>rP 1 [] mn ?_
 refine RK AC<|av ?_
 have A:(0≤i)∧(∀ (q:Nat) y,q<0→r.bQ[q]? =some y→y≠x):=by exact ⟨Nat.zero_le _,fun q y hq=>absurd hq (Nat.not_lt_zero _)⟩
 refine bH (ι:={z:Nat // (z≤i)∧(∀ (q:Nat) y,q<z→r.bQ[q]? =some y→y≠x)}) [1,4,5] [0,1,2,3,4,5,6,7,8] U U (fun z=>[(6,(vI (z.1:Int)))]) (fun z=>[]) (fun _=>rfl) (fun _=>rfl) (fun z=>i-z.1) ⟨0,A⟩ (aT U) (aH [0,1,2,3,4,5,6,7,8]) ?_
 clear A
 rintro ⟨k,⟨O,B⟩⟩ J23 f
 try dsimp only
 refine ah fun _ AD=>WS fun _ AE=>rP 3 [] mn ?_
 refine RK AE<|bL U (aM fun X=>?_) (aL fun X=>?_)
 ·refine bu<|ab<|ab<|au<|aG<|KK Ay<|aj<|rP 3 [] mn ?_
  refine aC ?_
  have Ap:(vI (((i+1):Nat):Int))=(vI ((i:Int)+1)):=by exact cI I
  refine aS (T ⟨(i+1),⟨I,BQ Az (fun a ha=>by rw [hy] at ha; cases ha; exact ⟨I,fun b hb hc=>by (rw [hz] at hc; cases hc; omega)⟩) (fun a ha=>by rw [hx] at ha; cases ha; exact ⟨I,fun k b hk hb=>B k b I hb⟩)⟩⟩ _ _ _ rfl os (dh.cons rfl<|dh.cons rfl<|aX rfl Ap<|dh.nil _) (aH [0,1,2,3,4,5,6,7,8]))
 refine WK AD<|ah fun _ AF=>av<|ah fun _ AH=>dA cu 11 kr<|dP 3 [] (mc 0 U mn) ?_
 obtain ⟨u,hu⟩:=aJ r.bQ k I
 have Z:=bG iC hu
 refine dS (IA k U (aD 6 U) cq dc I I)<|dS (fV k 0 (vI u) U bX (aD 6 U) Z U dc U)<|mJ 3 [] (mc 0 U mn) U<|dS (IA i U (aD 6 U) cq dc I I)<|dS (fV i 0 (vI x) U bX (aD 6 U) M U dc U)<|dP 1 [] mn ?_
 refine cL<|RK AH<|bL U (aM fun L=>?_) (aL fun L=>?_)
 ·refine bZ<|aG<|KK AF<|aj<|rP 3 [] mn ?_
  refine aC ?_
  have Ao:(vI (((k+1):Nat):Int))=(vI ((k:Int)+1)):=by exact cI I
  refine aS (f ⟨(k+1),⟨I,xG B hu L⟩⟩ _ _ _ U os (ct 3<|aX U Ao<|dh.nil _) (aH [0,1,2,3,4,5,6,7,8]))
 refine WS fun _ AI=>rP 2 [] mn ?_
 refine RK AI<|an<|LX hQ (false,0,none,0,[]) [] [] mn U (by rfl) U U ?_
 (exact ⟨AW,fun _=>⟨rfl,fun q=>by exact q.Pu I hu hx L⟩⟩)
end
section
open Go.RowKit
theorem Gx (r:bT) (kA:OA) (kC:Nat) (az:List RA) (cA:OA) (cC:Nat) (bA:OA) (bC:Nat) (slA:OA) (slC:Nat) (drA:OA) (drC:Nat) (ha:List cO) (heA:OA) (heC:Nat) (hin:e9 r az ha):
 lq Tryz.prog 77 [(vA (cw.cells (oF r kA kC cA cC bA bC slA slC drA drC heA heC)))] [(rd kA r.ao.aP.length 9 (r.ao.aP.map al.cells)),(rd cA r.ao.ak.length 2 (List.zipWith ar.cells r.ao.ak az)),(eW (aV ar.gZ r.ao.ak az)),(rd bA r.ao.ae.length 4 (r.ao.ae.map bD.cells)),(rd slA r.aQ.length 1 (r.aQ.map iC)),(rd drA r.bQ.length 1 (r.bQ.map iC)),(rd heA r.ay.length 1 (List.zipWith cP r.ay ha)),(eW (aV iq r.ay ha))] (fun (x:Bool×Int×(OA)×Nat×(List RA))=>bif x.1 then (vT [(vS x.2.2.1 ((cN r).length) x.2.2.2.1),(vI 0)]) else (vT [(vS none 0 0),(vI x.2.1)])) (fun (x:Bool×Int×(OA)×Nat×(List RA))=>(x.1=true→(cK r=0∧x.2.2.2.2.length=r.ay.length))∧(x.1=false→(x.2.1=cK r∧ ¬ cK r=0))) (fun (x:Bool×Int×(OA)×Nat×(List RA))=>bif x.1 then [(own x.2.2.1 x.2.2.2.1 82 1 (List.zipWith E1 (cN r) x.2.2.2.2)),(bw (aV Dq (cN r) x.2.2.2.2))] else []):=by
 have AA:=hin.line
 have b:=hin.iM
 have c:=hin.has
 have Z:=hin.iL
 have Y:=hin.draw
 have a:=dB (r:=r)
 refine dj kr Tryz.func77 U U fun f Q hQ hN=>?_
 try dsimp only
 refine WS fun _ O=>fK U fun e=>bf 2 U<|RK O<|ah fun _ P=>WS fun _ R=>bf 1 U<|rS (LP (ck.cells (lk r.ao kA kC cA cC bA bC)) 0 U bX U U U)<|rS (CL (CS r.ao kA kC az cA cC bA bC asm) (bj [1,2,3,4]) U)<|bf 1 U<|RK R<|WS fun _ S=>rP 2 [] mn ?_
 refine RK S<|cy U (bq fun A=>?_) (bp fun A=>?_)
 ·refine WS fun _ T=>rP 3 [] mn ?_
  refine RK T<|an<|LX hQ (false,(dq r.ao),none,0,[]) [] [] mn U (by rfl) U U ?_
  exact rr<|Me (zj A) A
 refine WK P<|WS fun _ G=>rP 1 [] (mc 0 U mn) ?_
 refine cX (EJ r kA kC az cA cC bA bC slA slC drA drC ha heA heC hin (by exact A)) (bj [1,2,3,4,5,6,7,8]) U fun d J=>?_
 obtain ⟨K,W,L,M,N⟩:=d
 cases K
 rotate_left 1
 ·obtain ⟨AB,V⟩:=J.1 rfl
  try dsimp only [cond_true,cond_false,List.cons_append,List.nil_append]
  refine bf 5 U<|RK G<|ah fun _ D=>WS fun _ E=>bf 2 U<|RK E<|aW U<|WK D<|WS fun _ F=>rP 3 [] mn ?_
  refine RK F<|an ?_
  refine LX hQ (true,0,L,M,N) [0,1] [] mn U (by (show List.all _ _=true; simp only [cond_true,fB,List.all_nil,wi,Bool.and_true]; rfl)) U U ?_
  exact ⟨fun _=>⟨BF A AB,V⟩,ND⟩
 obtain ⟨H,he⟩:=J.2 rfl
 try dsimp only at H he
 subst H
 try dsimp only [cond_true,cond_false,List.cons_append,List.nil_append]
 refine bf 5 U<|RK G<|ah fun _ X=>WS fun _ B=>bf 2 U<|RK B<|aO U<|WS fun _ C=>rP 2 [] mn ?_
 refine RK C<|an<|LX hQ (false,60,none,0,[]) [] [] mn U (by rfl) U U ?_
 exact rr<|pU (kj A he)
end
section
open Go.RowKit
theorem G6 (r:bT) (kA:OA) (kC:Nat) (az:List RA) (cA:OA) (cC:Nat) (bA:OA) (bC:Nat) (slA:OA) (slC:Nat) (drA:OA) (drC:Nat) (ha:List cO) (heA:OA) (heC:Nat) (hin:e9 r az ha):
 dT Tryz.prog 53 [(vA (cw.cells (oF r kA kC cA cC bA bC slA slC drA drC heA heC)))] [(rd kA r.ao.aP.length 9 (r.ao.aP.map al.cells)),(rd cA r.ao.ak.length 2 (List.zipWith ar.cells r.ao.ak az)),(eW (aV ar.gZ r.ao.ak az)),(rd bA r.ao.ae.length 4 (r.ao.ae.map bD.cells)),(rd slA r.aQ.length 1 (r.aQ.map iC)),(rd drA r.bQ.length 1 (r.bQ.map iC)),(rd heA r.ay.length 1 (List.zipWith cP r.ay ha)),(eW (aV iq r.ay ha))] (vI (cK r)):=by
 have H:=hin.line
 have M:=hin.iM
 have N:=hin.has
 have J:=hin.iL
 have AB:=hin.draw
 have K:=dB (r:=r)
 refine bx kr Tryz.func53 U U fun V Q hQ hN=>?_
 try dsimp only
 refine WS fun _ G=>fK U fun AA=>bf 1 U<|RK G<|WS fun _ C=>rP 1 [] (mc 0 U mn) ?_
 refine cX (Gx r kA kC az cA cC bA bC slA slC drA drC ha heA heC hin) (bj [1,2,3,4,5,6,7,8]) U fun T E=>?_
 obtain ⟨F,L,P,R,S⟩:=T
 cases F
 rotate_left 1
 ·obtain ⟨he,O⟩:=E.1 rfl
  try dsimp only [cond_true,cond_false,List.cons_append,List.nil_append]
  refine bf 5 U<|RK C<|WS fun _ B=>rP 2 [] mn ?_
  refine RK B<|an<|Q1 hQ U U U ?_
  first|rfl|(rw [he])
 obtain ⟨D,he⟩:=E.2 rfl
 try dsimp only at D he
 subst D
 try dsimp only [cond_true,cond_false,List.cons_append,List.nil_append]
 refine bf 5 U<|RK C<|WS fun _ A=>rP 2 [] mn ?_
 refine RK A<|an<|Q1 hQ U U U ?_
 first|rfl|(rw [he])
end
section
open Go.RowKit
theorem Ky (r:bT) (kA:OA) (kC:Nat) (az:List RA) (cA:OA) (cC:Nat) (bA:OA) (bC:Nat) (slA:OA) (slC:Nat) (drA:OA) (drC:Nat) (ha:List cO) (heA:OA) (heC:Nat) (hraw:qX r az ha):
 dT Tryz.prog 23 [(vA (cw.cells (oF r kA kC cA cC bA bC slA slC drA drC heA heC)))] [(rd kA r.ao.aP.length 9 (r.ao.aP.map al.cells)),(rd cA r.ao.ak.length 2 (List.zipWith ar.cells r.ao.ak az)),(eW (aV ar.gZ r.ao.ak az)),(rd bA r.ao.ae.length 4 (r.ao.ae.map bD.cells)),(rd slA r.aQ.length 1 (r.aQ.map iC)),(rd drA r.bQ.length 1 (r.bQ.map iC)),(rd heA r.ay.length 1 (List.zipWith cP r.ay ha)),(eW (aV iq r.ay ha))] (vB (decide (¬ ow r∧cK r=0))):=by
 refine bx kr Tryz.func23 U U fun F Q hQ hN=>?_
 try dsimp only
 refine WS fun _ C=>fK U fun E=>bf 1 U<|RK C<|WS fun _ B=>fw 1 [] (mc 0 U mn) U<|rS (CL (B4 r kA kC az cA cC bA bC slA slC drA drC ha heA heC hraw) (bj [1,2,3,4,5,6,7,8]) U)<|rP 2 [] mn ?_
 refine b_ (t:=6) U (bp fun A=>?_) (bq fun A=>?_)
 ·refine bf 1 U<|rP 4 [] mn ?_
  refine RK B<|an<|Q1 hQ U U U ?_
  first|exact cB (cf fun q=>q.1 A).symm|exact cB (decide_eq_decide.2 ⟨fun q=>⟨A,q⟩,fun q=>q.2⟩)
 refine rP 1 [] (mc 0 U mn) ?_
 have D:=hraw.small A
 refine rS (CL (G6 r kA kC az cA cC bA bC slA slC drA drC ha heA heC sd) (bj [1,2,3,4,5,6,7,8]) U) ?_
 refine rP 3 [] mn ?_
 refine RK B<|an<|Q1 hQ U U U ?_
 first|exact cB (cf fun q=>q.1 A).symm|exact cB (decide_eq_decide.2 ⟨fun q=>⟨A,q⟩,fun q=>q.2⟩)
end
section
open Go.RowKit
theorem NM (r:bT) (kA:OA) (kC:Nat) (az:List RA) (cA:OA) (cC:Nat) (bA:OA) (bC:Nat) (slA:OA) (slC:Nat) (drA:OA) (drC:Nat) (ha:List cO) (heA:OA) (heC:Nat) (hin:e9 r az ha) (he:cK r=0):
 lq Tryz.prog 24 [(vA (cw.cells (oF r kA kC cA cC bA bC slA slC drA drC heA heC)))] [(rd eX 3 2 dY),(rd kA r.ao.aP.length 9 (r.ao.aP.map al.cells)),(rd cA r.ao.ak.length 2 (List.zipWith ar.cells r.ao.ak az)),(eW (aV ar.gZ r.ao.ak az)),(rd bA r.ao.ae.length 4 (r.ao.ae.map bD.cells)),(rd slA r.aQ.length 1 (r.aQ.map iC)),(rd drA r.bQ.length 1 (r.bQ.map iC)),(rd heA r.ay.length 1 (List.zipWith cP r.ay ha)),(eW (aV iq r.ay ha))] (fun (x:Nat)=>(vT [(Value.map (some x)),(vB true)])) (fun (x:Nat)=>True) (fun (x:Nat)=>[(gV iV x (bK dv (aF r)))]):=by
 have e:=hin.line
 have l:=hin.iM
 have m:=hin.has
 have g:=hin.iL
 have f:=hin.draw
 have h:=dB (r:=r)
 have AA:=(iG he).2
 have n:=AA.num
 refine dj kr Tryz.func24 U U fun p Q hQ hN=>?_
 try dsimp only
 refine WS fun _ X=>fK U fun o=>rP 2 [] mn ?_
 refine RK X<|WS fun _ Y=>mz (kV:=iV) U U fun V=>?_
 try dsimp only
 refine bf 1 U<|RK Y<|ah fun _ Z=>WS fun _ a=>rP 4 [] (mc 1 U mn) ?_
 refine RK a<|av ?_
 skip
 have C:(0≤r.aQ.length):=by exact Nat.zero_le _
 refine bH (ι:={z:Nat // (z≤r.aQ.length)}) [1,4,11] [1,2,3,4,5,6,7,8,9,10] U U (fun z=>[(12,(vI (z.1:Int)))]) (fun z=>[(gV iV V (bK dv (jO r z.1)))]) (fun _=>rfl) (fun _=>rfl) (fun z=>r.aQ.length-z.1) ⟨0,C⟩ (aT U) (aH [1,2,3,4,5,6,7,8,9,10,0]) ?_
 clear C
 rintro ⟨i,d⟩ J7 D
 try dsimp only
 refine WS fun _ b=>rP 1 [] mn ?_
 refine RK b<|ah fun _ c=>bL U (aM fun W=>?_) (aL fun W=>?_)
 ·refine bu<|ab<|ab<|au<|KK Z<|ah fun _ M=>?_
  rw [show jO r i=aF r from by rw [show i=r.aQ.length by omega]; rfl]
  refine aj<|rP 3 [] mn ?_
  refine RK M<|an<|LX hQ V [10] [] mn U U U U ?_
  trivial
 refine WK c<|ah fun _ B=>av<|WS fun _ AB=>bf 2 U<|RK AB<|WS fun _ J=>fw 2 [] (mc 0 U mn) U<|rS (CL (OS (i:Int) r kA kC az cA cC bA bC slA slC drA drC ha heA heC hin) (bj [1,2,3,4,5,6,7,8,9]) U)<|bf 3 U<|AL U de fun j=>fP U cm U<|bf 1 U<|RK J<|ah fun _ E=>WS fun _ F=>rP 3 [] mn ?_
 refine b_ (t:=23) U (bp fun G=>?_) (bq fun G=>?_)
 ·refine bf 3 U<|RK F<|aW U<|WK E<|WS fun _ L=>rP 2 [] mn ?_
  refine RK L<|bL U (aM fun A=>?_) (aL fun A=>?_)
  ·refine bZ<|aG<|KK B<|aj<|rP 2 [] mn ?_
   refine aC ?_
   rw [zq he I A]
   have T:(vI (((i+1):Nat):Int))=(vI ((i:Int)+1)):=by exact cI I
   refine aS (D ⟨(i+1),(by first|omega|(simp only []; omega))⟩ _ _ _ U os (ct 3<|aX U T<|dh.nil _) (aH [1,2,3,4,5,6,7,8,9,10,11]))
  refine aj<|rP 3 [] (mc 0 U mn) ?_
  have R:(dL (jO r i) (i:Int) (py r (i:Int)))=(jO r (i+1)):=by exact Ca he I A
  refine g_ (kV:=iV) (x:=(i:Int)) (C':=[_,_,_,_,_,_,_,_,_,_,_,(gV iV V (bK dv (jO r (i+1))))]) 11 U U U U l7 (dC oG) U ((fM _ _ _ _).symm.trans (congrArg _ R)) U<|aC<|aG<|KK B<|aj<|rP 2 [] mn ?_
  refine aC ?_
  have S:(vI (((i+1):Nat):Int))=(vI ((i:Int)+1)):=by exact cI I
  refine aS (D ⟨(i+1),(by first|omega|(simp only []; omega))⟩ _ _ _ U os (ct 3<|aX U S<|dh.nil _) (aH [1,2,3,4,5,6,7,8,9,10,11]))
 refine rP 3 [] mn ?_
 refine RK F<|cy U (bq fun H=>?_) (bp fun H=>?_)
 ·exfalso; exact (Bj he (k:=(i:Int)) (by unfold rv; omega)).elim (fun q=>G q.1) (fun q=>H q.1)
 refine WK E<|WS fun _ K=>rP 2 [] mn ?_
 refine RK K<|bL U (aM fun A=>?_) (aL fun A=>?_)
 ·refine bZ<|aG<|KK B<|aj<|rP 2 [] mn ?_
  refine aC ?_
  rw [zq he I A]
  have P:(vI (((i+1):Nat):Int))=(vI ((i:Int)+1)):=by exact cI I
  refine aS (D ⟨(i+1),(by first|omega|(simp only []; omega))⟩ _ _ _ U os (ct 3<|aX U P<|dh.nil _) (aH [1,2,3,4,5,6,7,8,9,10,11]))
 refine aj<|rP 3 [] (mc 0 U mn) ?_
 have N:(dL (jO r i) (i:Int) (py r (i:Int)))=(jO r (i+1)):=by exact Ca he I A
 refine g_ (kV:=iV) (x:=(i:Int)) (C':=[_,_,_,_,_,_,_,_,_,_,_,(gV iV V (bK dv (jO r (i+1))))]) 11 U U U U l7 (dC oG) U ((fM _ _ _ _).symm.trans (congrArg _ N)) U<|aC<|aG<|KK B<|aj<|rP 2 [] mn ?_
 refine aC ?_
 have O:(vI (((i+1):Nat):Int))=(vI ((i:Int)+1)):=by exact cI I
 refine aS (D ⟨(i+1),(by first|omega|(simp only []; omega))⟩ _ _ _ U os (ct 3<|aX U O<|dh.nil _) (aH [1,2,3,4,5,6,7,8,9,10,11]))
end
section
open Go.RowKit
theorem CG (r:bT) (kA:OA) (kC:Nat) (az:List RA) (cA:OA) (cC:Nat) (bA:OA) (bC:Nat) (slA:OA) (slC:Nat) (drA:OA) (drC:Nat) (ha:List cO) (heA:OA) (heC:Nat) (hraw:qX r az ha):
 dT Tryz.prog 4 [(vA (cw.cells (oF r kA kC cA cC bA bC slA slC drA drC heA heC)))] [(rd eX 3 2 dY),(rd kA r.ao.aP.length 9 (r.ao.aP.map al.cells)),(rd cA r.ao.ak.length 2 (List.zipWith ar.cells r.ao.ak az)),(eW (aV ar.gZ r.ao.ak az)),(rd bA r.ao.ae.length 4 (r.ao.ae.map bD.cells)),(rd slA r.aQ.length 1 (r.aQ.map iC)),(rd drA r.bQ.length 1 (r.bQ.map iC)),(rd heA r.ay.length 1 (List.zipWith cP r.ay ha)),(eW (aV iq r.ay ha))] (vB true):=by
 refine bx kr Tryz.func4 U U fun w0 Q hQ hN=>?_
 try dsimp only
 refine WS fun _ Bl=>fK U fun b2=>bf 1 U<|RK Bl<|WS fun _ Bm=>rS (CL Ig (bj [1]) U)<|bf 1 U<|RK Bm<|ah fun _ Bn=>WS fun _ Bo=>bf 2 U<|RK Bo<|aW U<|WK Bn<|ah fun _ Bp=>WS fun _ Bq=>fw 1 [] (mc 0 U mn) U<|rS (CL (Ky r kA kC az cA cC bA bC slA slC drA drC ha heA heC hraw) (bj [2,3,4,5,6,7,8,9]) U)<|rP 1 [] mn ?_
 refine RK Bq<|cy U (bq fun D=>?_) (bp fun D=>?_)
 ·refine WS fun _ Br=>rP 2 [] mn ?_
  refine RK Br<|an<|Q1 hQ U U U ?_
  first|rfl|exact cB (fI (by have h_:=C.count; simp only [mB,List.length_map]; rw [List.take_of_length_le I]; omega))
 refine WK Bp<|WS fun _ Bs=>?_
 have X:=hraw.small D.1
 have Bw:=X.line
 have B9:=X.iM
 have B_:=X.has
 have B3:=X.iL
 have B1:=X.draw
 have B4:=dB (r:=r)
 have BW:=(iG D.2).2
 have CB:=BW.num
 have C:=Qc D.2
 have CE:=qF (r:=r)
 have B2:=mg D.2
 refine rP 1 [] (mc 0 U mn) ?_
 refine cX (zS r kA kC az cA cC bA bC slA slC drA drC ha heA heC sd) (bj [1,2,3,4,5,6,7,8,9]) U fun Bz BX=>?_
 obtain ⟨H,B6,B8⟩:=Bz
 try dsimp only
 have Bv:=BX
 have G:=Bv
 try dsimp only at G
 refine bf 5 U<|RK Bs<|WS fun _ AU=>rP 1 [] (mc 2 U mn) ?_
 refine cX (NM r kA kC az cA cC bA bC slA slC drA drC ha heA heC sd (by exact D.2)) (bj [3,4,5,6,7,8,9,10,11]) U fun AI B5=>?_
 try dsimp only
 refine bf 5 U<|RK AU<|ah fun _ AV=>WS fun _ AW=>rP 3 [] mn ?_
 refine cR (t:=46) U (bq fun AO=>?_) (bp fun AO=>?_)
 ·exact absurd (D.2) AO
 refine rP 3 [] mn ?_
 refine RK AW<|aW U<|WK AV<|ah fun _ AX=>Lz (C':=[(gV iV AI (bK dv (aF r))).ro,_,_,_,_,_,_,_,_,_,_,_,_]) 0 U U<|aj<|mz (kV:=iV) U U fun Y=>?_
 try dsimp only
 refine bf 1 U<|RK AX<|ah fun _ AY=>WS fun _ AZ=>rP 3 [] mn ?_
 refine RK AZ<|av ?_
 skip
 have A:(0≤(cd r).length):=by exact Nat.zero_le _
 refine bH (ι:={z:Nat // (z≤(cd r).length)}) [1,3,4,6,8,51,52] [1,2,3,4,5,6,7,8,9,10,11,12,13] U U (fun z=>[(53,(vI (z.1:Int)))]) (fun z=>[(gV iV Y (bK vB (mB ((cd r).take z.1).flatten)))]) (fun _=>rfl) (fun _=>rfl) (fun z=>(cd r).length-z.1) ⟨0,A⟩ (aT U) (aH [1,2,3,4,5,6,7,8,9,10,11,12,13,0]) ?_
 clear A
 rintro ⟨a,BZ⟩ J25 AP
 try dsimp only
 refine WS fun _ Aa=>rP 1 [] mn ?_
 refine RK Aa<|ah fun _ Ab=>bL U (aM fun Bc=>?_) (aL fun Bc=>?_)
 ·refine bu<|ab<|ab<|au<|KK AY<|WS fun _ s=>bf 3 U<|rS (SX (rY U U vJ (by exact aD 13 U)) U U)<|bf 1 U<|rS (SX (rY U U l7 (by exact j4 0 U)) U U)<|rP 3 [] mn ?_
  refine RK s<|an<|Q1 hQ U U U ?_
  first|rfl|exact cB (fI (by have h_:=C.count; simp only [mB,List.length_map]; rw [List.take_of_length_le I]; omega))
 refine WK Ab<|ah fun _ Ac=>av<|WS fun _ Ad=>rP 1 [] mn ?_
 obtain ⟨g,hg⟩:=aJ (cd r) a I
 obtain ⟨ga,J⟩:=aJ H a I
 have Bt:(List.zipWith lW (cd r) H)[a]? =some (lW g ga):=dy hg J
 refine rS (IA a U (ai (n:=(cd r).length) 1 U (iv G)) nT dc I I)<|rS (fV a 0 (vS ga.1 g.length ga.2) U bX (ai (n:=(cd r).length) 1 U (iv G)) Bt U dc U)<|rP 2 [] mn ?_
 refine RK Ad<|ah fun _ Ae=>ah fun _ Af=>?_
 have Bu:=C.small D.2 hg
 have CD:2^g.length≤32:=Nat.pow_le_pow_right (n:=2) dc Bu
 have CC:1≤2^g.length:=Nat.one_le_two_pow
 refine aj<|rP 3 [] mn ?_
 refine RK Af<|cy U (aL fun Bf=>?_) (aM fun Bf=>?_)
 ·exact absurd (List.length_eq_zero_iff.1 I) (C.ok.some_ _ (aR hg))
 refine WK Ae<|ah fun _ Ag=>WS fun _ Ah=>rP 3 [] mn ?_
 refine RK Ah<|av ?_
 rw [show (mB ((cd r).take a).flatten)=(mB (((cd r).take a).flatten++g.take 0)) from by simp]
 have A:(0≤g.length):=by exact Nat.zero_le _
 refine bH (ι:={z:Nat // (z≤g.length)}) [1,3,4,6,8,9,10,51,52,53,61,62] [0,1,2,3,4,5,6,7,8,9,10,11,12] U U (fun z=>[(63,(vI (z.1:Int)))]) (fun z=>[(gV iV Y (bK vB (mB (((cd r).take a).flatten++g.take z.1))))]) (fun _=>rfl) (fun _=>rfl) (fun z=>g.length-z.1) ⟨0,A⟩ (aT U) (aH [0,1,2,3,4,5,6,7,8,9,10,11,12,13]) ?_
 clear A
 rintro ⟨x,Ba⟩ J35 R
 try dsimp only
 refine WS fun _ Ai=>rP 1 [] mn ?_
 refine RK Ai<|ah fun _ Aj=>bL U (aM fun Bd=>?_) (aL fun Bd=>?_)
 ·refine bu<|ab<|ab<|au<|KK Ag<|ah fun _ A6=>?_
  rw [show ((cd r).take a).flatten++g.take x=((cd r).take (a+1)).flatten from by rw [show g.take x=g from List.take_of_length_le I]; exact KI hg]
  refine aj<|rP 1 [] mn ?_
  refine RK A6<|av ?_
  have A:(1≤1∧(1+1≤2^g.length∨1=1)):=by exact ⟨Nat.le_refl _,.inr rfl⟩
  refine bH (ι:={z:Nat // (1≤z∧(z+1≤2^g.length∨z=1))}) [1,3,4,6,8,9,10,51,52,53] [0,1,2,3,4,5,6,7,8,9,10,11,12,13] U U (fun z=>[(19,(vI (z.1:Int)))]) (fun z=>[]) (fun _=>rfl) (fun _=>rfl) (fun z=>2^g.length-z.1) ⟨1,A⟩ (aT U) (aH [0,1,2,3,4,5,6,7,8,9,10,11,12,13]) ?_
  clear A
  rintro ⟨bt,Bb⟩ J78 AS
  try dsimp only
  refine ah fun _ A7=>WS fun _ A8=>bf 3 U<|rS (BI U (PS (i:=g.length) I I))<|rP 2 [] mn ?_
  refine RK A8<|bL U (aM fun AJ=>?_) (aL fun AJ=>?_)
  ·refine bu<|ab<|ab<|au<|aG<|KK Ac<|aj<|rP 2 [] mn ?_
   refine aC ?_
   have AF:(vI (((a+1):Nat):Int))=(vI ((a:Int)+1)):=by exact cI I
   refine aS (AP ⟨(a+1),(by first|omega|(simp only []; omega))⟩ _ _ _ U os (ct 7<|aX U AF<|dh.nil _) (aH [0,1,2,3,4,5,6,7,8,9,10,11,12,13]))
  refine WK A7<|ah fun _ A9=>av<|WS fun _ BA=>bf 1 U<|RK BA<|ah fun _ BB=>WS fun _ BC=>rP 3 [] mn ?_
  refine RK BC<|av ?_
  have A:(0≤g.length)∧(lE r g bt 0 0 true):=by exact ⟨Nat.zero_le _,GZ⟩
  refine bH (ι:={z:Nat×Bool // (z.1≤g.length)∧(lE r g bt z.1 0 z.2)}) [1,3,4,6,8,9,10,19,51,52,53,134,135] [0,1,2,3,4,5,6,7,8,9,10,11,12,13] U U (fun z=>[(20,(vB z.1.2)),(136,(vI (z.1.1:Int)))]) (fun z=>[]) (fun _=>rfl) (fun _=>rfl) (fun z=>g.length-z.1.1) ⟨(0,true),A⟩ (aT U) (aH [0,1,2,3,4,5,6,7,8,9,10,11,12,13]) ?_
  clear A
  rintro ⟨⟨x,p⟩,⟨b,K⟩⟩ J85 AT
  try dsimp only at b K
  try dsimp only
  refine WS fun _ BD=>rP 1 [] mn ?_
  refine RK BD<|ah fun _ BE=>bL U (aM fun Bi=>?_) (aL fun Bi=>?_)
  ·refine bu<|ab<|ab<|au<|KK BB<|WS fun _ q=>rP 1 [] mn ?_
   refine RK q<|cy U (fun BY=>?_) (fun BY=>?_)
   ·exfalso; rw [KZ C D.2 hg I I K I] at BY; cases BY
   refine bZ<|aG<|KK A9<|aj<|rP 3 [] mn ?_
   refine aC ?_
   have AE:(vI (((bt+1):Nat):Int))=(vI ((bt:Int)+1)):=by exact cI I
   refine aS (AS ⟨(bt+1),(by first|omega|(dsimp only; omega))⟩ _ _ _ U (by first|omega|(dsimp only; omega)) (ct 10<|aX U AE<|dh.nil _) (aH [0,1,2,3,4,5,6,7,8,9,10,11,12,13]))
  refine WK BE<|ah fun _ BF=>av<|WS fun _ BG=>rP 1 [] mn ?_
  obtain ⟨i,hi⟩:=aJ g x I
  have AG:=bG iC hi
  refine rS (IA x U (show ij _ (rd ga.1 g.length 1 (g.map iC)).holds from (fun w hw=>(cM 2 U mM) w hw _ (bM hg J (by simp [A_])))) cq dc I I)<|rS (fV x 0 (vI i) U bX (show ij _ (rd ga.1 g.length 1 (g.map iC)).holds from (fun w hw=>(cM 2 U mM) w hw _ (bM hg J (by simp [A_])))) AG U dc U)<|bf 2 U<|RK BG<|WS fun _ BH=>rP 3 [] mn ?_
  refine RK BH<|av ?_
  have A:(0≤g.length)∧(lE r g bt x 0 p):=by exact ⟨Nat.zero_le _,K⟩
  refine bH (ι:={z:Nat×Bool // (z.1≤g.length)∧(lE r g bt x z.1 z.2)}) [1,3,4,6,8,9,10,19,21,22,51,52,53,134,135,136,141,142] [0,1,2,3,4,5,6,7,8,9,10,11,12,13] U U (fun z=>[(20,(vB z.1.2)),(143,(vI (z.1.1:Int)))]) (fun z=>[]) (fun _=>rfl) (fun _=>rfl) (fun z=>g.length-z.1.1) ⟨(0,p),A⟩ (aT U) (aH [0,1,2,3,4,5,6,7,8,9,10,11,12,13]) ?_
  clear A
  rintro ⟨⟨y,p2⟩,⟨c,B⟩⟩ J92 N
  try dsimp only at c B
  try dsimp only
  refine WS fun _ BJ=>rP 1 [] mn ?_
  refine RK BJ<|ah fun _ BK=>bL U (aM fun Bk=>?_) (aL fun Bk=>?_)
  ·refine bu<|ab<|ab<|au<|aG<|KK BF<|aj<|rP 2 [] mn ?_
   refine aC ?_
   have AD:(vI (((x+1):Nat):Int))=(vI ((x:Int)+1)):=by exact cI I
   refine aS (AT ⟨((x+1),p2),⟨I,I_ B I⟩⟩ _ _ _ U os (ct 14<|aX U AD<|dh.nil _) (aH [0,1,2,3,4,5,6,7,8,9,10,11,12,13]))
  refine WK BK<|ah fun _ O=>av<|WS fun _ BL=>rP 1 [] mn ?_
  obtain ⟨k,hk⟩:=aJ g y I
  have AH:=bG iC hk
  refine rS (IA y U (show ij _ (rd ga.1 g.length 1 (g.map iC)).holds from (fun w hw=>(cM 2 U mM) w hw _ (bM hg J (by simp [A_])))) cq dc I I)<|rS (fV y 0 (vI k) U bX (show ij _ (rd ga.1 g.length 1 (g.map iC)).holds from (fun w hw=>(cM 2 U mM) w hw _ (bM hg J (by simp [A_])))) AH U dc U)<|bf 2 U<|RK BL<|ah fun _ BM=>WS fun _ h=>bf 2 U<|rS (BI U (Jk (i:=x) I I))<|rS (BI U (KH (m:=(bt/2^x)) I (Nat.lt_of_le_of_lt (Nat.div_le_self _ _) I)))<|rP 2 [] mn ?_
  refine cR (t:=153) U (aL fun AK=>?_) (aM fun AK=>?_)
  ·refine bf 6 U<|RK h<|aO U<|bu<|ab<|au<|KK O<|aj<|rP 2 [] mn ?_
   refine aC ?_
   have u:(vI (((y+1):Nat):Int))=(vI ((y:Int)+1)):=by exact cI I
   refine aS (N ⟨((y+1),p2),⟨I,by first|exact tv|exact qa B By hi hk|exact oR B I⟩⟩ _ _ _ U os (ct 19<|aX U u<|dh.nil _) (aH [0,1,2,3,4,5,6,7,8,9,10,11,12,13]))
  refine bf 2 U<|rS (BI U (Jk (i:=y) I I))<|rS (BI U (KH (m:=(bt/2^y)) I (Nat.lt_of_le_of_lt (Nat.div_le_self _ _) I)))<|rP 2 [] mn ?_
  refine RK h<|cy U (aL fun AM=>?_) (aM fun AM=>?_)
  ·refine bu<|ab<|au<|KK O<|aj<|rP 2 [] mn ?_
   refine aC ?_
   have v:(vI (((y+1):Nat):Int))=(vI ((y:Int)+1)):=by exact cI I
   refine aS (N ⟨((y+1),p2),⟨I,by first|exact tv|exact qa B By hi hk|exact oR B I⟩⟩ _ _ _ U os (ct 19<|aX U v<|dh.nil _) (aH [0,1,2,3,4,5,6,7,8,9,10,11,12,13]))
  refine WK BM<|WS fun _ o=>rP 3 [] (mc 3 U mn) ?_
  refine rS (CL (sK i k r kA kC az cA cC bA bC slA slC drA drC ha heA heC sd) (bj [4,5,6,7,8,9,10,11,12]) U) ?_
  refine bf 5 U<|RK o<|aj<|rP 2 [] mn ?_
  refine b_ (t:=168) U (fun By=>?_) (fun By=>?_)
  ·refine bf 8 U<|aC<|aG<|KK O<|aj<|rP 2 [] mn ?_
   refine aC ?_
   have AC:(vI (((y+1):Nat):Int))=(vI ((y:Int)+1)):=by exact cI I
   refine aS (N ⟨((y+1),false),⟨I,by first|exact tv|exact qa B By hi hk|exact oR B I⟩⟩ _ _ _ U os (ct 19<|aX U AC<|dh.nil _) (aH [0,1,2,3,4,5,6,7,8,9,10,11,12,13]))
  refine rP 4 [] mn ?_
  refine b_ (t:=172) U (aM fun AN=>?_) (aL fun AN=>?_)
  ·refine bf 4 U<|aC<|aG<|KK O<|aj<|rP 2 [] mn ?_
   refine aC ?_
   have AB:(vI (((y+1):Nat):Int))=(vI ((y:Int)+1)):=by exact cI I
   refine aS (N ⟨((y+1),false),⟨I,by first|exact tv|exact qa B By hi hk|exact oR B I⟩⟩ _ _ _ U os (ct 19<|aX U AB<|dh.nil _) (aH [0,1,2,3,4,5,6,7,8,9,10,11,12,13]))
  refine bf 1 U<|rS (BI U lu)<|bf 2 U<|aC<|aG<|KK O<|aj<|rP 2 [] mn ?_
  refine aC ?_
  have AA:(vI (((y+1):Nat):Int))=(vI ((y:Int)+1)):=by exact cI I
  refine aS (N ⟨((y+1),(decide ((oq r i k)=2))),⟨I,by first|exact tv|exact qa B By hi hk|exact oR B I⟩⟩ _ _ _ U os (ct 19<|aX U AA<|dh.nil _) (aH [0,1,2,3,4,5,6,7,8,9,10,11,12,13]))
 refine WK Aj<|ah fun _ S=>av<|WS fun _ Ak=>rP 1 [] mn ?_
 obtain ⟨i,hi⟩:=aJ g x I
 have AG:=bG iC hi
 refine rS (IA x U (show ij _ (rd ga.1 g.length 1 (g.map iC)).holds from (fun w hw=>(cM 2 U mM) w hw _ (bM hg J (by simp [A_])))) cq dc I I)<|rS (fV x 0 (vI i) U bX (show ij _ (rd ga.1 g.length 1 (g.map iC)).holds from (fun w hw=>(cM 2 U mM) w hw _ (bM hg J (by simp [A_])))) AG U dc U)<|bf 2 U<|RK Ak<|WS fun _ Al=>bf 2 U<|rS (SX (jT (kV:=iV) (x:=i) (l:=(aF r)) (f:=dv) (z:=(aa.mk 0 0)) U U U l7 (dC oG) vC (by exact j4 0 U)) U U)<|bf 3 U<|AL U de fun B7=>fP U cm U<|bf 1 U<|RK Al<|ah fun _ d=>WS fun _ e=>rP 3 [] mn ?_
 refine cR (t:=76) U (fun V=>?_) (fun V=>?_)
 ·rw [Bool.not_eq_true'] at V
  exfalso; obtain ⟨s_,Bx⟩:=C.runs hg hi; rw [Bx] at V; simp at V
 rw [Bool.not_eq_false'] at V
 refine bf 2 U<|rS (SX (jU (kV:=iV) (x:=i) (l:=(mB (((cd r).take a).flatten++g.take x))) (f:=Value.bool) (z:=false) U U U vJ (dC oG) VC (by exact aD 14 U)) U U)<|rP 2 [] mn ?_
 refine cR (t:=81) U (fun j=>?_) (fun j=>?_)
 ·exfalso; rw [Gr (C.new hg hi)] at j; simp at j
 refine rP 3 [] mn ?_
 refine b_ (t:=84) U (aM fun Bh=>?_) (aL fun Bh=>?_)
 ·refine bf 9 U<|RK e<|aW U<|WK d<|WS fun _ Aw=>rP 2 [] mn ?_
  have BR:(dL (mB (((cd r).take a).flatten++g.take x)) i true)=(mB (((cd r).take a).flatten++g.take (x+1))):=by rw [CA (C.new hg hi),jE hi,List.append_assoc]
  refine g_ (kV:=iV) (x:=i) (C':=[_,_,_,_,_,_,_,_,_,_,_,_,_,_,(gV iV Y (bK vB (mB (((cd r).take a).flatten++g.take (x+1)))))]) 14 U U U U vJ (dC oG) U ((fM _ _ _ _).symm.trans (congrArg _ BR)) U<|RK Aw<|ah fun _ Ax=>WS fun _ Ay=>rP 5 [] mn ?_
  refine RK Ay<|cy U (aL fun T=>?_) (aM fun T=>?_)
  ·refine bu<|ab<|au<|KK S<|aj<|rP 2 [] mn ?_
   refine aC ?_
   have BS:(vI (((x+1):Nat):Int))=(vI ((x:Int)+1)):=by exact cI I
   refine aS (R ⟨(x+1),(by first|omega|(simp only []; omega))⟩ _ _ _ U os (ct 12<|aX U BS<|dh.nil _) (aH [1,2,3,4,5,6,7,8,9,10,11,12,13,14]))
  refine WK Ax<|WS fun _ Az=>rP 3 [] mn ?_
  obtain ⟨gg,E⟩:=aJ (cd r) (a+1) I
  obtain ⟨gga,F⟩:=aJ H (a+1) I
  have W:(List.zipWith lW (cd r) H)[(a+1)]? =some (lW gg gga):=dy E F
  refine rS (IA (a+1) U (ai (n:=(cd r).length) 2 U (iv G)) nT dc I I)<|rS (fV (a+1) 0 (vS gga.1 gg.length gga.2) U bX (ai (n:=(cd r).length) 2 U (iv G)) W U dc U)<|rP 2 [] mn ?_
  refine RK Az<|av ?_
  have A:(0≤gg.length):=by exact Nat.zero_le _
  refine bH (ι:={z:Nat // (z≤gg.length)}) [1,3,4,6,8,9,10,11,12,51,52,53,61,62,63,105,106] [1,2,3,4,5,6,7,8,9,10,11,12,13,14] U U (fun z=>[(107,(vI (z.1:Int)))]) (fun z=>[]) (fun _=>rfl) (fun _=>rfl) (fun z=>gg.length-z.1) ⟨0,A⟩ (aT U) (aH [1,2,3,4,5,6,7,8,9,10,11,12,13,14]) ?_
  clear A
  rintro ⟨y,Z⟩ J67 AR
  try dsimp only
  have BV:=C.small D.2 E
  refine WS fun _ A0=>rP 1 [] mn ?_
  refine RK A0<|ah fun _ A1=>bL U (aM fun Bg=>?_) (aL fun Bg=>?_)
  ·refine bu<|ab<|ab<|au<|aG<|KK S<|aj<|rP 2 [] mn ?_
   refine aC ?_
   have BU:(vI (((x+1):Nat):Int))=(vI ((x:Int)+1)):=by exact cI I
   refine aS (R ⟨(x+1),(by first|omega|(simp only []; omega))⟩ _ _ _ U os (ct 12<|aX U BU<|dh.nil _) (aH [0,1,2,3,4,5,6,7,8,9,10,11,12,13]))
  refine WK A1<|ah fun _ A2=>av<|WS fun _ A3=>?_
  obtain ⟨k2,P⟩:=aJ gg y I
  have hk2m:=bG iC P
  refine rS (IA y U (show ij _ (rd gga.1 gg.length 1 (gg.map iC)).holds from (fun w hw=>(cM 2 U mM) w hw _ (bM E F (by simp [A_])))) cq dc I I)<|rS (fV y 0 (vI k2) U bX (show ij _ (rd gga.1 gg.length 1 (gg.map iC)).holds from (fun w hw=>(cM 2 U mM) w hw _ (bM E F (by simp [A_])))) hk2m U dc U)<|bf 1 U<|RK A3<|WS fun _ A4=>rP 3 [] (mc 3 U mn) ?_
  refine rS (CL (sK i k2 r kA kC az cA cC bA bC slA slC drA drC ha heA heC sd) (bj [4,5,6,7,8,9,10,11,12]) U) ?_
  refine bf 5 U<|RK A4<|WS fun _ A5=>rP 3 [] mn ?_
  refine cR (t:=120) U (bq fun L=>?_) (bp fun L=>?_)
  ·exact absurd (C.before D.2 hg E (aR hi) (aR P)).1 L
  refine bf 1 U<|rS (BI U l6)<|rP 1 [] mn ?_
  refine RK A5<|cy U (bq fun M=>?_) (bp fun M=>?_)
  ·exact absurd (C.before D.2 hg E (aR hi) (aR P)).2 M
  refine bZ<|aG<|KK A2<|aj<|rP 2 [] mn ?_
  refine aC ?_
  have BT:(vI (((y+1):Nat):Int))=(vI ((y:Int)+1)):=by exact cI I
  refine aS (AR ⟨(y+1),(by first|omega|(simp only []; omega))⟩ _ _ _ U os (ct 17<|aX U BT<|dh.nil _) (aH [0,1,2,3,4,5,6,7,8,9,10,11,12,13]))
 refine rP 4 [] mn ?_
 obtain ⟨k,hk⟩:=aJ g (x-1) I
 have AH:=bG iC hk
 refine rS (IA (x-1) U (show ij _ (rd ga.1 g.length 1 (g.map iC)).holds from (fun w hw=>(cM 3 U mM) w hw _ (bM hg J (by simp [A_])))) cq dc I I)<|rS (fV (x-1) 0 (vI k) U bX (show ij _ (rd ga.1 g.length 1 (g.map iC)).holds from (fun w hw=>(cM 3 U mM) w hw _ (bM hg J (by simp [A_])))) AH U dc U)<|rP 3 [] mn ?_
 refine RK e<|cy U (aL fun Bj=>?_) (aM fun Bj=>?_)
 ·exfalso; have h_:=C.up hg hi I hk; omega
 refine WK d<|WS fun _ Am=>rP 2 [] mn ?_
 have BN:(dL (mB (((cd r).take a).flatten++g.take x)) i true)=(mB (((cd r).take a).flatten++g.take (x+1))):=by rw [CA (C.new hg hi),jE hi,List.append_assoc]
 refine g_ (kV:=iV) (x:=i) (C':=[_,_,_,_,_,_,_,_,_,_,_,_,_,_,(gV iV Y (bK vB (mB (((cd r).take a).flatten++g.take (x+1)))))]) 14 U U U U vJ (dC oG) U ((fM _ _ _ _).symm.trans (congrArg _ BN)) U<|RK Am<|ah fun _ An=>WS fun _ Ao=>rP 5 [] mn ?_
 refine RK Ao<|cy U (aL fun T=>?_) (aM fun T=>?_)
 ·refine bu<|ab<|au<|KK S<|aj<|rP 2 [] mn ?_
  refine aC ?_
  have BO:(vI (((x+1):Nat):Int))=(vI ((x:Int)+1)):=by exact cI I
  refine aS (R ⟨(x+1),(by first|omega|(simp only []; omega))⟩ _ _ _ U os (ct 12<|aX U BO<|dh.nil _) (aH [1,2,3,4,5,6,7,8,9,10,11,12,13,14]))
 refine WK An<|WS fun _ Ap=>rP 3 [] mn ?_
 obtain ⟨gg,E⟩:=aJ (cd r) (a+1) I
 obtain ⟨gga,F⟩:=aJ H (a+1) I
 have W:(List.zipWith lW (cd r) H)[(a+1)]? =some (lW gg gga):=dy E F
 refine rS (IA (a+1) U (ai (n:=(cd r).length) 2 U (iv G)) nT dc I I)<|rS (fV (a+1) 0 (vS gga.1 gg.length gga.2) U bX (ai (n:=(cd r).length) 2 U (iv G)) W U dc U)<|rP 2 [] mn ?_
 refine RK Ap<|av ?_
 have A:(0≤gg.length):=by exact Nat.zero_le _
 refine bH (ι:={z:Nat // (z≤gg.length)}) [1,3,4,6,8,9,10,11,12,51,52,53,61,62,63,105,106] [1,2,3,4,5,6,7,8,9,10,11,12,13,14] U U (fun z=>[(107,(vI (z.1:Int)))]) (fun z=>[]) (fun _=>rfl) (fun _=>rfl) (fun z=>gg.length-z.1) ⟨0,A⟩ (aT U) (aH [1,2,3,4,5,6,7,8,9,10,11,12,13,14]) ?_
 clear A
 rintro ⟨y,Z⟩ J51 AQ
 try dsimp only
 have BV:=C.small D.2 E
 refine WS fun _ Aq=>rP 1 [] mn ?_
 refine RK Aq<|ah fun _ Ar=>bL U (aM fun Be=>?_) (aL fun Be=>?_)
 ·refine bu<|ab<|ab<|au<|aG<|KK S<|aj<|rP 2 [] mn ?_
  refine aC ?_
  have BQ:(vI (((x+1):Nat):Int))=(vI ((x:Int)+1)):=by exact cI I
  refine aS (R ⟨(x+1),(by first|omega|(simp only []; omega))⟩ _ _ _ U os (ct 12<|aX U BQ<|dh.nil _) (aH [0,1,2,3,4,5,6,7,8,9,10,11,12,13]))
 refine WK Ar<|ah fun _ As=>av<|WS fun _ At=>?_
 obtain ⟨k2,P⟩:=aJ gg y I
 have hk2m:=bG iC P
 refine rS (IA y U (show ij _ (rd gga.1 gg.length 1 (gg.map iC)).holds from (fun w hw=>(cM 2 U mM) w hw _ (bM E F (by simp [A_])))) cq dc I I)<|rS (fV y 0 (vI k2) U bX (show ij _ (rd gga.1 gg.length 1 (gg.map iC)).holds from (fun w hw=>(cM 2 U mM) w hw _ (bM E F (by simp [A_])))) hk2m U dc U)<|bf 1 U<|RK At<|WS fun _ Au=>rP 3 [] (mc 3 U mn) ?_
 refine rS (CL (sK i k2 r kA kC az cA cC bA bC slA slC drA drC ha heA heC sd) (bj [4,5,6,7,8,9,10,11,12]) U) ?_
 refine bf 5 U<|RK Au<|WS fun _ Av=>rP 3 [] mn ?_
 refine cR (t:=120) U (bq fun L=>?_) (bp fun L=>?_)
 ·exact absurd (C.before D.2 hg E (aR hi) (aR P)).1 L
 refine bf 1 U<|rS (BI U l6)<|rP 1 [] mn ?_
 refine RK Av<|cy U (bq fun M=>?_) (bp fun M=>?_)
 ·exact absurd (C.before D.2 hg E (aR hi) (aR P)).2 M
 refine bZ<|aG<|KK As<|aj<|rP 2 [] mn ?_
 refine aC ?_
 have BP:(vI (((y+1):Nat):Int))=(vI ((y:Int)+1)):=by exact cI I
 refine aS (AQ ⟨(y+1),(by first|omega|(simp only []; omega))⟩ _ _ _ U os (ct 17<|aX U BP<|dh.nil _) (aH [0,1,2,3,4,5,6,7,8,9,10,11,12,13]))
end
section
open Go.RowKit
def iw {α:Type} (cells:α→List Value) (sz:Nat) (R:World→α→Prop) (w:World) (s:br):Prop:= ∃ l:List α,s.n=l.length∧(rd s.a l.length sz (l.map cells)).holds w∧(∀ x∈l,R w x)∧l.length≤maxLen∧s.n≤s.c
theorem vj {w:World} {R:World→cx→Prop}: ∀ {l:List dp},(∀ x∈l,iw cx.cells 3 R w x.bo)→ ∃ (ms:List ar) (az:List RA),l.map dp.cells=List.zipWith ar.cells ms az∧ms.length=l.length∧az.length=l.length∧(∀ X∈aV ar.gZ ms az,X.holds w)∧
 (∀ (k:Nat) m (a:RA),ms[k]? =some m→az[k]? =some a→m.bo.length≤a.2∧m.bo.length≤9223372036854775807)∧ms.map (fun m=>m.dg)=l.map (fun x=>x.dg)∧ ∀ (k:Nat) m y,ms[k]? =some m→y∈m.bo→R w y
 |[],_=>⟨[],[],rfl,rfl,rfl,(fun X hX=>by cases hX),(fun k m a h=>by simp at h),rfl,(fun k m y h=>by simp at h)⟩
 |x::l,h=>by
  obtain ⟨ms,az,E,F,G,H,AA,J,K⟩:=vj (fun y hy=>h y (cQ _ hy))
  obtain ⟨sy,A,B,C,D,L⟩:=h x sm
  have e4':sy.length≤9223372036854775807:=D
  refine ⟨⟨x.dg,sy⟩::ms,(x.bo.a,x.bo.c)::az,?_,by simp [F],by simp [G],fun X hX=>?_,fun k m a hm ha=>?_,by simp [J],fun k m y hm hy=>?_⟩
  ·obtain ⟨dr,⟨a,n,c⟩⟩:=x
   simp only at A
   subst A
   simp only [List.map_cons,List.zipWith_cons_cons,E]
   rfl
  ·rcases List.mem_append.1 hX with hX|hX
   ·simp only [ar.gZ,bS] at hX
    subst hX; exact B
   ·exact H X hX
  ·cases k with
   |zero=>
    simp only [List.getElem?_cons_zero,Option.some.injEq] at hm ha
    subst hm ha
    exact ⟨by simp only; omega,e4'⟩
   |succ k=>exact AA k m a (by simpa using hm) (by simpa using ha)
  ·cases k with
   |zero=>
    simp only [List.getElem?_cons_zero,Option.some.injEq] at hm
    subst hm
    exact C y hy
   |succ k=>exact K k m y (by simpa using hm) hy
theorem GM {w:World} {s:ck} {R1:World→al→Prop} {R2:World→dp→Prop} {R3:World→bD→Prop} {R4:World→cx→Prop} (h1:iw al.cells 9 R1 w s.aP.kO) (hs: ∀ x,R1 w x→0≤x.iS∧x.iS≤255) (h2:iw dp.cells 2 R2 w s.ak) (hc: ∀ x,R2 w x→iw cx.cells 3 R4 w x.bo) (h3:iw bD.cells 4 R3 w s.ae):
 ∃ (l:a_) (az:List RA) (kA:OA) (kC:Nat) (cA:OA) (cC:Nat) (bA:OA) (bC:Nat),s=ck.mk (bE.mk (br.mk kA l.aP.length kC)) l.hO (br.mk cA l.ak.length cC) (br.mk bA l.ae.length bC) l.cH l.eU l.cV∧tQ l az∧
  ((rd kA l.aP.length 9 (l.aP.map al.cells)).holds w∧(rd cA l.ak.length 2 (List.zipWith ar.cells l.ak az)).holds w∧(eW (aV ar.gZ l.ak az)).holds w∧(rd bA l.ae.length 4 (l.ae.map bD.cells)).holds w)∧l.hO=s.hO∧l.cH=s.cH∧l.eU=s.eU∧l.cV=s.cV:=by
 obtain ⟨⟨⟨ka,kn,kc⟩⟩,fa,⟨ca,cn,cc⟩,⟨ba,bn,bc⟩,fi,fk,mi⟩:=s
 obtain ⟨ts,E,M,N,O,T⟩:=h1
 obtain ⟨cs,B,C,H,AA,R⟩:=h2
 obtain ⟨bs,A,F,P,G,Q⟩:=h3
 simp only at E B A
 subst E B A
 obtain ⟨ms,az,J,D,S,K,L,_⟩:=vj (fun x hx=>hc x (H x hx))
 have t4':ts.length≤9223372036854775807:=O
 have c4':cs.length≤9223372036854775807:=AA
 have b4':bs.length≤9223372036854775807:=G
 refine ⟨⟨ts,fa,ms,bs,fi,fk,mi⟩,az,ka,kc,ca,cc,ba,bc,by simp only [D],⟨t4',fun x hx=>hs x (N x hx),by simp only; omega,by simp only; omega,b4',L⟩,⟨M,?_,K,F⟩,U,U,U,U⟩
 simp only at C ⊢
 rw [D,← J]; exact C
end
section
open Go.RowKit
theorem wU {w:World} {R:World→aK→Prop}: ∀ {l:List bk},(∀ x∈l,iw aK.cells 2 R w x.cr.ag)→ ∃ (ms:List ax) (az:List RA),l.map bk.cells=List.zipWith ax.cells ms az∧ms.length=l.length∧az.length=l.length∧(∀ X∈aV ax.gZ ms az,X.holds w)∧
 ∀ d∈ms,d.cr.ag.length≤9223372036854775807
 |[],_=>⟨[],[],rfl,rfl,rfl,(fun X hX=>by cases hX),fun d h=>by cases h⟩
 |x::l,h=>by
  obtain ⟨ms,az,D,E,F,G,H⟩:=wU (fun y hy=>h y (cQ _ hy))
  obtain ⟨sg,A,B,AA,C,J⟩:=h x sm
  have e4':sg.length≤9223372036854775807:=C
  refine ⟨⟨x.Out,x.eH,x.Time,⟨x.cr.Start,x.cr.fZ,sg⟩⟩::ms,(x.cr.ag.a,x.cr.ag.c)::az,?_,by simp [E],by simp [F],fun X hX=>?_,fun d hd=>?_⟩
  ·obtain ⟨o,f,t,⟨st,nw,⟨a,n,c⟩⟩⟩:=x
   simp only at A
   subst A
   simp only [List.map_cons,List.zipWith_cons_cons,D]
   rfl
  ·rcases List.mem_append.1 hX with hX|hX
   ·simp only [ax.gZ,bS] at hX
    subst hX; exact B
   ·exact G X hX
  ·rcases List.mem_cons.1 hd with rfl|hd
   ·exact e4'
   ·exact H d hd
theorem xn {w:World} {R2:World→bk→Prop} {R:World→aK→Prop} (hc: ∀ x,R2 w x→iw aK.cells 2 R w x.cr.ag): ∀ {l:List br},(∀ x∈l,iw bk.cells 7 R2 w x)→ ∃ (ms:List (List ax)) (ha:List cO),(l.map fun s=>[vS s.a s.n s.c])=List.zipWith cP ms ha∧ms.length=l.length∧ha.length=l.length∧(∀ X∈aV iq ms ha,X.holds w)∧
 ∀ (k:Nat) h (a:cO),ms[k]? =some h→ha[k]? =some a→h.length≤9223372036854775807∧a.2.length=h.length∧ ∀ d∈h,d.cr.ag.length≤9223372036854775807
 |[],_=>⟨[],[],rfl,rfl,rfl,(fun X hX=>by cases hX),(fun k h a q=>by simp at q)⟩
 |x::l,h=>by
  obtain ⟨ms,ha,J,K,L,M,N⟩:=xn hc (fun y hy=>h y (cQ _ hy))
  obtain ⟨ds,C,G,H,AA,P⟩:=h x sm
  obtain ⟨dm,az,D,B,O,E,F⟩:=wU fun y hy=>hc y (H y hy)
  have e4':ds.length≤9223372036854775807:=AA
  refine ⟨dm::ms,((x.a,x.c),az)::ha,?_,by simp [K],by simp [L],fun X hX=>?_,fun k m a hm A=>?_⟩
  ·obtain ⟨a,n,c⟩:=x
   simp only at C
   subst C
   simp only [List.map_cons,List.zipWith_cons_cons,J,cP,B]
  ·rcases List.mem_append.1 hX with hX|hX
   ·unfold iq at hX
    rcases List.mem_cons.1 hX with rfl|hX
    ·simp only
     rw [B,← D]; exact G
    ·exact E X hX
   ·exact M X hX
  ·cases k with
   |zero=>
    simp only [List.getElem?_cons_zero,Option.some.injEq] at hm A
    subst hm A
    exact ⟨I,by simp only; omega,F⟩
   |succ k=>exact N k m a (by simpa using hm) (by simpa using A)
theorem Hy {w:World} {s:cw} {R1:World→al→Prop} {R2:World→dp→Prop} {R3:World→bD→Prop} {R4:World→cx→Prop} {R5:World→Int→Prop} {R6:World→br→Prop} {R7:World→bk→Prop} {R8:World→aK→Prop}
 (h1:iw al.cells 9 R1 w s.ao.aP.kO) (hs: ∀ x,R1 w x→0≤x.iS∧x.iS≤255) (h2:iw dp.cells 2 R2 w s.ao.ak) (hc: ∀ x,R2 w x→iw cx.cells 3 R4 w x.bo) (h3:iw bD.cells 4 R3 w s.ao.ae)
 (h4:iw iC 1 R5 w s.aQ) (h5:iw iC 1 R5 w s.bQ) (h6:iw (fun s=>[vS s.a s.n s.c]) 1 R6 w s.ay) (h7: ∀ x,R6 w x→iw bk.cells 7 R7 w x) (h8: ∀ x,R7 w x→iw aK.cells 2 R8 w x.cr.ag):
 ∃ (r:bT) (az:List RA) (ha:List cO) (kA:OA) (kC:Nat) (cA:OA) (cC:Nat) (bA:OA) (bC:Nat) (slA:OA) (slC:Nat) (drA:OA) (drC:Nat) (heA:OA) (heC:Nat),
  s=cw.mk (ck.mk (bE.mk (br.mk kA r.ao.aP.length kC)) r.ao.hO (br.mk cA r.ao.ak.length cC) (br.mk bA r.ao.ae.length bC) r.ao.cH r.ao.eU r.ao.cV) (br.mk slA r.aQ.length slC) (br.mk drA r.bQ.length drC) r.iI (br.mk heA r.ay.length heC)∧qX r az ha∧
  ((rd kA r.ao.aP.length 9 (r.ao.aP.map al.cells)).holds w∧(rd cA r.ao.ak.length 2 (List.zipWith ar.cells r.ao.ak az)).holds w∧(eW (aV ar.gZ r.ao.ak az)).holds w∧(rd bA r.ao.ae.length 4 (r.ao.ae.map bD.cells)).holds w∧
   (rd slA r.aQ.length 1 (r.aQ.map iC)).holds w∧(rd drA r.bQ.length 1 (r.bQ.map iC)).holds w∧(rd heA r.ay.length 1 (List.zipWith cP r.ay ha)).holds w∧(eW (aV iq r.ay ha)).holds w):=by
 obtain ⟨ln,⟨sa,sn,sc⟩,⟨da,dn,dc⟩,tu,⟨ea,en,ec⟩⟩:=s
 obtain ⟨l,az,kA,kC,cA,cC,bA,bC,e,A,hh,_⟩:=GM (s:=ln) h1 hs h2 hc h3
 subst e
 obtain ⟨sl,F,N,T,O,AA⟩:=h4
 obtain ⟨dr,B,G,P,H,Q⟩:=h5
 obtain ⟨he,D,E,L,M,S⟩:=h6
 obtain ⟨ms,ha,AB,C,R,J,K⟩:=xn h8 (fun x hx=>h7 x (L x hx))
 simp only at F B D
 subst F B D
 have s4':sl.length≤9223372036854775807:=O
 have d4':dr.length≤9223372036854775807:=H
 have q4':he.length≤9223372036854775807:=M
 refine ⟨⟨l,sl,dr,tu,ms⟩,az,ha,kA,kC,cA,cC,bA,bC,sa,sc,da,dc,ea,ec,by simp only [C],⟨A,s4',d4',by simp only; omega,by simp only; omega,K⟩,hh.1,hh.2.1,hh.2.2.1,hh.2.2.2,N,G,?_,J⟩
 simp only at E ⊢
 rw [C,← AB]; exact E
end
section
open Go.ChangeShapes Go.WideShapes Go.ChangeAt Go.RowKit
theorem Vn:Tryz.prog.cellsOf 35=11:=by kernel_rfl
theorem R_:Tryz.prog.cellsOf 31=7:=by kernel_rfl
theorem So:Tryz.prog.cellsOf 27=1:=by kernel_rfl
theorem Uu:Tryz.prog.cellsOf 25=1:=by kernel_rfl
theorem OY:Tryz.prog.cellsOf 114=9:=by kernel_rfl
theorem AZ:Tryz.prog.cellsOf 3=1:=by kernel_rfl
def zk (w:World) (n:Int):Prop:=qq n
theorem AY:sG Tryz.prog 3 Int iC zk:=QX oG
theorem EF:Tryz.prog.cellsOf 40=2:=by kernel_rfl
structure D7 (w:World) (s:aa):Prop where
 Lo:zk w s.Lo
 Hi:zk w s.Hi
theorem U5:fL Tryz.prog 40=some [(3,0),(3,1)]:=by kernel_rfl
theorem H_:sG Tryz.prog 40 aa aa.cells D7:=fun {H} enc w base sp A fuel cs x h=>by
 obtain ⟨hl,hp⟩:=jo U5 h
 obtain ⟨M,O,F⟩:=hp 0 3 0 rfl
 obtain ⟨K,B,AA⟩:=AY _ _ _ _ _ _ _ _ F
 obtain ⟨N,P,G⟩:=hp 1 3 1 rfl
 obtain ⟨L,C,J⟩:=AY _ _ _ _ _ _ _ _ G
 refine ⟨⟨K,L⟩,?_,⟨AA,J⟩⟩
 have E:=gR (hl.trans EF) (by rw [AZ]) C
 have D:=di B (m:=1) (by rw [AZ]) E
 exact D
theorem VA:Tryz.prog.cellsOf 5=1:=by kernel_rfl
def Vs (w:World) (n:Int):Prop:=0≤n∧n≤255
theorem VF:sG Tryz.prog 5 Int Mf Vs:=Sl TQ
structure Iu (w:World) (s:al):Prop where
 Id:zk w s.Id
 kl:D7 w s.kl
 lR:D7 w s.lR
 eD:D7 w s.eD
 iS:Vs w s.iS
 Ae:zk w s.Ae
theorem Sh:fL Tryz.prog 114=some [(3,0),(40,1),(40,3),(40,5),(5,7),(3,8)]:=by kernel_rfl
theorem Sc:sG Tryz.prog 114 al al.cells Iu:=fun {H} enc w base sp A fuel cs x h=>by
 obtain ⟨hl,hp⟩:=jo Sh h
 obtain ⟨g,o,O⟩:=hp 0 3 0 rfl
 obtain ⟨a,B,AA⟩:=AY _ _ _ _ _ _ _ _ O
 obtain ⟨i,p,P⟩:=hp 1 40 1 rfl
 obtain ⟨b,C,V⟩:=H_ _ _ _ _ _ _ _ _ P
 obtain ⟨j,q,Q⟩:=hp 2 40 3 rfl
 obtain ⟨c,D,W⟩:=H_ _ _ _ _ _ _ _ _ Q
 obtain ⟨k,r,R⟩:=hp 3 40 5 rfl
 obtain ⟨d,E,X⟩:=H_ _ _ _ _ _ _ _ _ R
 obtain ⟨l,s,S⟩:=hp 4 5 7 rfl
 obtain ⟨e,F,Y⟩:=VF _ _ _ _ _ _ _ _ S
 obtain ⟨n,t,T⟩:=hp 5 3 8 rfl
 obtain ⟨f,G,Z⟩:=AY _ _ _ _ _ _ _ _ T
 refine ⟨⟨a,b,c,d,e,f⟩,?_,⟨AA,V,W,X,Y,Z⟩⟩
 have N:=gR (hl.trans OY) (by rw [AZ]) G
 have M:=di F (m:=8) (by rw [VA]) N
 have L:=di E (m:=7) (by rw [EF]) M
 have K:=di D (m:=5) (by rw [EF]) L
 have J:=di C (m:=3) (by rw [EF]) K
 have AB:=di B (m:=1) (by rw [AZ]) J
 exact AB
def Te (w:World) (s:br):Prop:= ∃ l:List al,s.n=l.length∧(rd s.a l.length 9 (l.map al.cells)).holds w∧(∀ x∈l,Iu w x)∧l.length≤maxLen∧s.n≤s.c
theorem Vh:sG Tryz.prog 25 br (fun s=>[vS s.a s.n s.c]) Te:=mA QW OY Sc
structure SY (w:World) (s:bE):Prop where
 kO:Te w s.kO
theorem U3:fL Tryz.prog 27=some [(25,0)]:=by kernel_rfl
theorem UY:sG Tryz.prog 27 bE bE.cells SY:=fun {H} enc w base sp A fuel cs x h=>by
 obtain ⟨hl,hp⟩:=jo U3 h
 obtain ⟨G,AA,D⟩:=hp 0 25 0 rfl
 obtain ⟨F,B,E⟩:=Vh _ _ _ _ _ _ _ _ D
 refine ⟨⟨F⟩,?_,⟨E⟩⟩
 have C:=gR (hl.trans So) (by rw [Uu]) B
 exact C
theorem UZ:Tryz.prog.cellsOf 28=1:=by kernel_rfl
theorem O6:Tryz.prog.cellsOf 119=2:=by kernel_rfl
theorem Tv:Tryz.prog.cellsOf 117=1:=by kernel_rfl
theorem OP:Tryz.prog.cellsOf 116=3:=by kernel_rfl
structure Lq (w:World) (s:cx):Prop where
 At:zk w s.At
 ek:D7 w s.ek
theorem RZ:fL Tryz.prog 116=some [(3,0),(40,1)]:=by kernel_rfl
theorem RL:sG Tryz.prog 116 cx cx.cells Lq:=fun {H} enc w base sp A fuel cs x h=>by
 obtain ⟨hl,hp⟩:=jo RZ h
 obtain ⟨M,O,F⟩:=hp 0 3 0 rfl
 obtain ⟨K,B,AA⟩:=AY _ _ _ _ _ _ _ _ F
 obtain ⟨N,P,G⟩:=hp 1 40 1 rfl
 obtain ⟨L,C,J⟩:=H_ _ _ _ _ _ _ _ _ G
 refine ⟨⟨K,L⟩,?_,⟨AA,J⟩⟩
 have E:=gR (hl.trans OP) (by rw [EF]) C
 have D:=di B (m:=1) (by rw [AZ]) E
 exact D
def OO (w:World) (s:br):Prop:= ∃ l:List cx,s.n=l.length∧(rd s.a l.length 3 (l.map cx.cells)).holds w∧(∀ x∈l,Lq w x)∧l.length≤maxLen∧s.n≤s.c
theorem Rm:sG Tryz.prog 117 br (fun s=>[vS s.a s.n s.c]) OO:=mA OV OP RL
structure Ju (w:World) (s:dp):Prop where
 dg:zk w s.dg
 bo:OO w s.bo
theorem S0:fL Tryz.prog 119=some [(3,0),(117,1)]:=by kernel_rfl
theorem SU:sG Tryz.prog 119 dp dp.cells Ju:=fun {H} enc w base sp A fuel cs x h=>by
 obtain ⟨hl,hp⟩:=jo S0 h
 obtain ⟨M,O,F⟩:=hp 0 3 0 rfl
 obtain ⟨K,B,AA⟩:=AY _ _ _ _ _ _ _ _ F
 obtain ⟨N,P,G⟩:=hp 1 117 1 rfl
 obtain ⟨L,C,J⟩:=Rm _ _ _ _ _ _ _ _ G
 refine ⟨⟨K,L⟩,?_,⟨AA,J⟩⟩
 have E:=gR (hl.trans O6) (by rw [Tv]) C
 have D:=di B (m:=1) (by rw [AZ]) E
 exact D
def RC (w:World) (s:br):Prop:= ∃ l:List dp,s.n=l.length∧(rd s.a l.length 2 (l.map dp.cells)).holds w∧(∀ x∈l,Ju w x)∧l.length≤maxLen∧s.n≤s.c
theorem Ua:sG Tryz.prog 28 br (fun s=>[vS s.a s.n s.c]) RC:=mA Sq O6 SU
theorem Vf:Tryz.prog.cellsOf 29=1:=by kernel_rfl
theorem OL:Tryz.prog.cellsOf 121=4:=by kernel_rfl
theorem O0:Tryz.prog.cellsOf 111=3:=by kernel_rfl
structure OT (w:World) (s:cD):Prop where
 aY:zk w s.aY
 mE:D7 w s.mE
theorem TD:fL Tryz.prog 111=some [(3,0),(40,1)]:=by kernel_rfl
theorem RU:sG Tryz.prog 111 cD cD.cells OT:=fun {H} enc w base sp A fuel cs x h=>by
 obtain ⟨hl,hp⟩:=jo TD h
 obtain ⟨M,O,F⟩:=hp 0 3 0 rfl
 obtain ⟨K,B,AA⟩:=AY _ _ _ _ _ _ _ _ F
 obtain ⟨N,P,G⟩:=hp 1 40 1 rfl
 obtain ⟨L,C,J⟩:=H_ _ _ _ _ _ _ _ _ G
 refine ⟨⟨K,L⟩,?_,⟨AA,J⟩⟩
 have E:=gR (hl.trans O0) (by rw [EF]) C
 have D:=di B (m:=1) (by rw [AZ]) E
 exact D
structure KB (w:World) (s:bD):Prop where
 mH:OT w s.mH
 jV:zk w s.jV
theorem Rc:fL Tryz.prog 121=some [(111,0),(3,3)]:=by kernel_rfl
theorem Sj:sG Tryz.prog 121 bD bD.cells KB:=fun {H} enc w base sp A fuel cs x h=>by
 obtain ⟨hl,hp⟩:=jo Rc h
 obtain ⟨M,O,F⟩:=hp 0 111 0 rfl
 obtain ⟨K,B,AA⟩:=RU _ _ _ _ _ _ _ _ F
 obtain ⟨N,P,G⟩:=hp 1 3 3 rfl
 obtain ⟨L,C,J⟩:=AY _ _ _ _ _ _ _ _ G
 refine ⟨⟨K,L⟩,?_,⟨AA,J⟩⟩
 have E:=gR (hl.trans OL) (by rw [AZ]) C
 have D:=di B (m:=3) (by rw [O0]) E
 exact D
def Sb (w:World) (s:br):Prop:= ∃ l:List bD,s.n=l.length∧(rd s.a l.length 4 (l.map bD.cells)).holds w∧(∀ x∈l,KB w x)∧l.length≤maxLen∧s.n≤s.c
theorem U8:sG Tryz.prog 29 br (fun s=>[vS s.a s.n s.c]) Sb:=mA Qo OL Sj
structure Rj (w:World) (s:ck):Prop where
 aP:SY w s.aP
 hO:zk w s.hO
 ak:RC w s.ak
 ae:Sb w s.ae
 cH:zk w s.cH
 eU:zk w s.eU
 cV:zk w s.cV
theorem Uh:fL Tryz.prog 31=some [(27,0),(3,1),(28,2),(29,3),(3,4),(3,5),(3,6)]:=by kernel_rfl
theorem Un:sG Tryz.prog 31 ck ck.cells Rj:=fun {H} enc w base sp A fuel cs x h=>by
 obtain ⟨hl,hp⟩:=jo Uh h
 obtain ⟨n,u,Q⟩:=hp 0 27 0 rfl
 obtain ⟨e,B,X⟩:=UY _ _ _ _ _ _ _ _ Q
 obtain ⟨o,v,R⟩:=hp 1 3 1 rfl
 obtain ⟨f,C,Y⟩:=AY _ _ _ _ _ _ _ _ R
 obtain ⟨p,y,S⟩:=hp 2 28 2 rfl
 obtain ⟨g,D,Z⟩:=Ua _ _ _ _ _ _ _ _ S
 obtain ⟨q,z,T⟩:=hp 3 29 3 rfl
 obtain ⟨i,E,a⟩:=U8 _ _ _ _ _ _ _ _ T
 obtain ⟨r,y4,AA⟩:=hp 4 3 4 rfl
 obtain ⟨j,F,b⟩:=AY _ _ _ _ _ _ _ _ AA
 obtain ⟨s,y5,V⟩:=hp 5 3 5 rfl
 obtain ⟨k,G,c⟩:=AY _ _ _ _ _ _ _ _ V
 obtain ⟨t,y6,W⟩:=hp 6 3 6 rfl
 obtain ⟨l,AB,d⟩:=AY _ _ _ _ _ _ _ _ W
 refine ⟨⟨e,f,g,i,j,k,l⟩,?_,⟨X,Y,Z,a,b,c,d⟩⟩
 have P:=gR (hl.trans R_) (by rw [AZ]) AB
 have O:=di G (m:=6) (by rw [AZ]) P
 have N:=di F (m:=5) (by rw [AZ]) O
 have M:=di E (m:=4) (by rw [Vf]) N
 have L:=di D (m:=3) (by rw [UZ]) M
 have K:=di C (m:=2) (by rw [AZ]) L
 have J:=di B (m:=1) (by rw [So]) K
 exact J
theorem SH:Tryz.prog.cellsOf 32=1:=by kernel_rfl
def QA (w:World) (s:br):Prop:= ∃ l:List Int,s.n=l.length∧(rd s.a l.length 1 (l.map iC)).holds w∧(∀ x∈l,zk w x)∧l.length≤maxLen∧s.n≤s.c
theorem Sp:sG Tryz.prog 32 br (fun s=>[vS s.a s.n s.c]) QA:=mA Ti AZ AY
theorem TY:Tryz.prog.cellsOf 33=1:=by kernel_rfl
theorem UJ:Tryz.prog.cellsOf 46=1:=by kernel_rfl
theorem S_:Tryz.prog.cellsOf 45=7:=by kernel_rfl
theorem Vy:Tryz.prog.cellsOf 4=1:=by kernel_rfl
def T1 (w:World) (n:Bool):Prop:=True
theorem Vu:sG Tryz.prog 4 Bool (fun b=>[vB b]) T1:=M6 Vr
theorem SF:Tryz.prog.cellsOf 43=3:=by kernel_rfl
theorem Uc:Tryz.prog.cellsOf 41=1:=by kernel_rfl
theorem Po:Tryz.prog.cellsOf 123=2:=by kernel_rfl
structure JB (w:World) (s:aK):Prop where
 gd:zk w s.gd
 Read:zk w s.Read
theorem SJ:fL Tryz.prog 123=some [(3,0),(3,1)]:=by kernel_rfl
theorem S8:sG Tryz.prog 123 aK aK.cells JB:=fun {H} enc w base sp A fuel cs x h=>by
 obtain ⟨hl,hp⟩:=jo SJ h
 obtain ⟨M,O,F⟩:=hp 0 3 0 rfl
 obtain ⟨K,B,AA⟩:=AY _ _ _ _ _ _ _ _ F
 obtain ⟨N,P,G⟩:=hp 1 3 1 rfl
 obtain ⟨L,C,J⟩:=AY _ _ _ _ _ _ _ _ G
 refine ⟨⟨K,L⟩,?_,⟨AA,J⟩⟩
 have E:=gR (hl.trans Po) (by rw [AZ]) C
 have D:=di B (m:=1) (by rw [AZ]) E
 exact D
def Ry (w:World) (s:br):Prop:= ∃ l:List aK,s.n=l.length∧(rd s.a l.length 2 (l.map aK.cells)).holds w∧(∀ x∈l,JB w x)∧l.length≤maxLen∧s.n≤s.c
theorem UT:sG Tryz.prog 41 br (fun s=>[vS s.a s.n s.c]) Ry:=mA RT Po S8
structure SN (w:World) (s:eC):Prop where
 Start:zk w s.Start
 fZ:zk w s.fZ
 ag:Ry w s.ag
theorem U6:fL Tryz.prog 43=some [(3,0),(3,1),(41,2)]:=by kernel_rfl
theorem Us:sG Tryz.prog 43 eC eC.cells SN:=fun {H} enc w base sp A fuel cs x h=>by
 obtain ⟨hl,hp⟩:=jo U6 h
 obtain ⟨R,AA,AB⟩:=hp 0 3 0 rfl
 obtain ⟨O,B,L⟩:=AY _ _ _ _ _ _ _ _ AB
 obtain ⟨S,V,J⟩:=hp 1 3 1 rfl
 obtain ⟨P,C,M⟩:=AY _ _ _ _ _ _ _ _ J
 obtain ⟨T,W,K⟩:=hp 2 41 2 rfl
 obtain ⟨Q,D,N⟩:=UT _ _ _ _ _ _ _ _ K
 refine ⟨⟨O,P,Q⟩,?_,⟨L,M,N⟩⟩
 have G:=gR (hl.trans SF) (by rw [Uc]) D
 have F:=di C (m:=2) (by rw [AZ]) G
 have E:=di B (m:=1) (by rw [AZ]) F
 exact E
structure PN (w:World) (s:bk):Prop where
 Out:T1 w s.Out
 eH:T1 w s.eH
 Time:D7 w s.Time
 cr:SN w s.cr
theorem UO:fL Tryz.prog 45=some [(4,0),(4,1),(40,2),(43,4)]:=by kernel_rfl
theorem UP:sG Tryz.prog 45 bk bk.cells PN:=fun {H} enc w base sp A fuel cs x h=>by
 obtain ⟨hl,hp⟩:=jo UO h
 obtain ⟨W,a,K⟩:=hp 0 4 0 rfl
 obtain ⟨S,B,O⟩:=Vu _ _ _ _ _ _ _ _ K
 obtain ⟨X,b,L⟩:=hp 1 4 1 rfl
 obtain ⟨T,C,P⟩:=Vu _ _ _ _ _ _ _ _ L
 obtain ⟨Y,c,M⟩:=hp 2 40 2 rfl
 obtain ⟨AA,D,Q⟩:=H_ _ _ _ _ _ _ _ _ M
 obtain ⟨Z,d,N⟩:=hp 3 43 4 rfl
 obtain ⟨V,E,R⟩:=Us _ _ _ _ _ _ _ _ N
 refine ⟨⟨S,T,AA,V⟩,?_,⟨O,P,Q,R⟩⟩
 have J:=gR (hl.trans S_) (by rw [SF]) E
 have AB:=di D (m:=4) (by rw [EF]) J
 have G:=di C (m:=2) (by rw [Vy]) AB
 have F:=di B (m:=1) (by rw [Vy]) G
 exact F
def PZ (w:World) (s:br):Prop:= ∃ l:List bk,s.n=l.length∧(rd s.a l.length 7 (l.map bk.cells)).holds w∧(∀ x∈l,PN w x)∧l.length≤maxLen∧s.n≤s.c
theorem U1:sG Tryz.prog 46 br (fun s=>[vS s.a s.n s.c]) PZ:=mA Th S_ UP
def Sg (w:World) (s:br):Prop:= ∃ l:List br,s.n=l.length∧(rd s.a l.length 1 (l.map (fun s=>[vS s.a s.n s.c]))).holds w∧(∀ x∈l,PZ w x)∧l.length≤maxLen∧s.n≤s.c
theorem TV:sG Tryz.prog 33 br (fun s=>[vS s.a s.n s.c]) Sg:=mA Ru UJ U1
structure Ue (w:World) (s:cw):Prop where
 ao:Rj w s.ao
 aQ:QA w s.aQ
 bQ:QA w s.bQ
 iI:zk w s.iI
 ay:Sg w s.ay
theorem SG:fL Tryz.prog 35=some [(31,0),(32,7),(32,8),(3,9),(33,10)]:=by kernel_rfl
theorem T3:sG Tryz.prog 35 cw cw.cells Ue:=fun {H} enc w base sp A fuel cs x h=>by
 obtain ⟨hl,hp⟩:=jo SG h
 obtain ⟨b,g,M⟩:=hp 0 31 0 rfl
 obtain ⟨W,B,R⟩:=Un _ _ _ _ _ _ _ _ M
 obtain ⟨c,i,N⟩:=hp 1 32 7 rfl
 obtain ⟨X,C,S⟩:=Sp _ _ _ _ _ _ _ _ N
 obtain ⟨d,j,O⟩:=hp 2 32 8 rfl
 obtain ⟨Y,D,T⟩:=Sp _ _ _ _ _ _ _ _ O
 obtain ⟨e,k,P⟩:=hp 3 3 9 rfl
 obtain ⟨Z,E,AA⟩:=AY _ _ _ _ _ _ _ _ P
 obtain ⟨f,l,Q⟩:=hp 4 33 10 rfl
 obtain ⟨a,F,V⟩:=TV _ _ _ _ _ _ _ _ Q
 refine ⟨⟨W,X,Y,Z,a⟩,?_,⟨R,S,T,AA,V⟩⟩
 have L:=gR (hl.trans Vn) (by rw [TY]) F
 have K:=di E (m:=10) (by rw [AZ]) L
 have J:=di D (m:=9) (by rw [SH]) K
 have AB:=di C (m:=8) (by rw [SH]) J
 have G:=di B (m:=7) (by rw [R_]) AB
 exact G
theorem yj:ownKnob Tryz.prog.godebug=none:=by kernel_rfl
theorem wH:laidOutB Tryz.prog=true:=by kernel_rfl
theorem uo (os:Os) (started:os.Started) (H:Type) (enc:TypeId×Value→H):
 ReturnsInHanded {} Tryz.checked os 4 .any (fun w args=>(Rows.raceTableSpec.pre enc Tryz.prog Tryz.f4 [] false w args∧laidMetH Tryz.prog [("kreisel/race.table",Rows.laid_kreisel_race_table)] w)∧sizedMet enc Tryz.prog Tryz.f4 (OpenSpec.ofChange Rows.raceTableSpec) false w args) (Rows.raceTableSpec.post enc Tryz.prog Tryz.f4 false true false false):=by
 refine returnsInHanded_of_change_and (C:=Tryz.checked) (X:=(fun w _=>laidMetH Tryz.prog [("kreisel/race.table",Rows.laid_kreisel_race_table)] w)) (fun _ _ _ hh h=>h.of_heap hh) yj started kr Tryz.func4
  (ChangeSpec.witness_shaped (enc:=enc) (C:=Tryz.checked) (os:=os) (X:=(fun w _=>laidMetH Tryz.prog [("kreisel/race.table",Rows.laid_kreisel_race_table)] w)) false (World.doorLaid Tryz.prog 400 os) #[.agg #[(vS none 0 0),(vI 0),(vS none 0 0),(vS none 0 0),(vI 0),(vI 0),(vI 0),(vS none 0 0),(vS none 0 0),(vI 0),(vS none 0 0)]] 8 rfl (World.shaped_of_RefB kr kr) kr kr kr (D_ os _)) ?_
 intro W base args ds gs before E hW _ _ hL _
 have D: ∀ (j:Nat) t v,Tryz.f4.params[j]? =some t→args[j]? =some v→Value.okWide Tryz.prog W .any base t v:=E
 have hW':=hW
 obtain ⟨p,q,K,hV,rfl,T,AA⟩:=hW
 have hA:DataW.TrodAll enc Tryz.prog W 0 (fun _=>true) true Tryz.f4.params.toList args.toList ds p:=K
 have F:=hA
 rw [Tryz.params4] at hA D
 obtain ⟨Q,Y,Z,R,a,b,L,rfl,rfl,S,V⟩:=trodAll_cons hA
 obtain ⟨rfl,rfl,rfl⟩:=trodAll_nil V
 obtain rfl:args= #[Q]:=by cases args; simp_all
 obtain ⟨rfl,rfl⟩:=trodVars_none hV
 obtain ⟨c,rfl,R0⟩:=DK SG T3 (D 0 35 Q rfl rfl) S
 simp only [List.append_nil] at hW' F
 have J:=yo hL
 obtain ⟨r,az,ha,kA,kC,cA,cC,bA,bC,O,P,drA,drC,M,N,rfl,G,B⟩:=Hy (R1:=Iu) (R2:=Ju) (R3:=KB) (R4:=Lq) (R5:=zk) (R6:=PZ) (R7:=PN) (R8:=JB) R0.ao.aP.kO (fun x hx=>hx.iS) R0.ao.ak (fun x hx=>hx.bo) R0.ao.ae R0.aQ R0.bQ R0.ay (fun x hx=>hx) (fun x hx=>hx.cr.ag)
 have AB:=(CG r kA kC az cA cC bA bC O P drA drC ha M N G).run W (by intro A hA; simp only [d_,List.not_mem_nil,or_false] at hA; rcases hA with rfl|rfl|rfl|rfl|rfl|rfl|rfl|rfl|rfl; exact J; exact B.1; exact B.2.1; exact B.2.2.1; exact B.2.2.2.1; exact B.2.2.2.2.1; exact B.2.2.2.2.2.1; exact B.2.2.2.2.2.2.1; exact B.2.2.2.2.2.2.2)
 refine (AB).mono fun e W' ⟨he,hk⟩=>?_
 subst he
 exact ⟨_,U,KP wH hW' F U U kr hk.below kr Vr⟩
theorem vM:Rows.RaceTableSaid:=
 OpenClaim.holds_of_wide 4 Tryz.f4 rfl rfl rfl rfl rfl rfl rfl ⟨rfl,rfl,rfl,rfl,rfl⟩ rfl rfl rfl rfl rfl kr Tryz.func4 uW
  (of_decide_eq_true kr) (by unfold Func.isWrapper; first|(rw [if_pos (by decide+kernel)]; kernel_rfl)|(rw [if_neg (by decide+kernel)]; exact ⟨rfl,rfl⟩))
  (fun os started H enc _=>uo os started H enc)
/-- the statement -/
theorem raceTable_said:Rows.RaceTableCardSaid:=
 Claim7.holds_tied_plain_at .later [] [.funcsDeep] true (true,"088415838787c5430f0abdddd979ed2a5db6662ea085e3210461bc02ff0f1fa1") true
  vM (fun _ h=>by cases h) kr (fun _ h=>by cases h) raceTable_row_tie rfl ⟨rfl,rfl⟩ kr rfl
  (fun f fn hf B=>by
   obtain rfl:f=4:=Option.some.inj ((show Tryz.prog.funcNamed "kreisel/kreisellaw06.RaceTable"=some 4 by kernel_rfl).symm.trans hf) |>.symm
   obtain rfl:fn=Tryz.f4:=(Option.some.inj (Tryz.func4.symm.trans B)).symm
   exact ⟨kr,fun j t ht=>by
    rw [Tryz.params4] at ht
    have hm:t∈([35]:List Nat):=by simpa using Array.mem_of_getElem? ht
    have A:(([35]:List Nat).all fun u=> !Tryz.prog.wantsStandIn u)=true:=by kernel_rfl
    exact (show Tryz.prog.wantsStandIn t=false by simpa using List.all_eq_true.1 A t hm)⟩)
  kr
#print axioms raceTable_said
end
end Go.Proofs.YtadjgjnicdcjbaaGreatDoor
