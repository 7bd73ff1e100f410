/-
 The statement juryAll_said, part 8 of 8: Y2, Y3, Y5, Rr3, Rr4, Rr5, Rra, Jr2, Jr3, Jz1, Jz2, Jz3, Jz4, Jl2, LineOpen, RaceOpen, JOpen, All0.
 Conditions: none.
-/
import Derived.Test.YtijpnoadncadoaaGreatDoorTy1
import Derived.Test.YtijpnoadncadoaaGreatDoorTy2
import Derived.Test.YtijpnoadncadoaaGreatDoorTy3
import Derived.Test.YtijpnoadncadoaaGreatDoorTy4
import Derived.Test.YtijpnoadncadoaaGreatDoorTy5
import Derived.Test.YtijpnoadncadoaaGreatDoorTy6
import Derived.Test.YtijpnoadncadoaaGreatDoorTy7
import Derived.Test.YtijpnoadncadoaaGreatDoorCards
import Derived.Test.YtijpnoadncadoaaGreatDoorTie
import Derived.SevenTiedAt
import Derived.LaidMore
import Derived.Stop.Joined
import Derived.Test.YtijpnoadncadoaaGreatDoorRows
import Derived.Test.YtijpnoadncadoaaGreatDoorProg
import Derived.KernelRfl
namespace Go.Proofs.YtijpnoadncadoaaGreatDoor
set_option maxRecDepth 100000
set_option maxHeartbeats 4000000
set_option linter.unusedVariables false
section
open Go.RowKit
theorem FO (l:bg) (kA:OA) (kC:Nat) (az:List RA) (cA:OA) (cC:Nat) (bA:OA) (bC:Nat) (r:cx) (sgA:OA) (sgC:Nat) (vwA:OA) (vwC:Nat) (vtA:OA) (vtC:Nat) (vbA:OA) (vbC k:Nat) (rs:List Int) (rA:OA) (rC:Nat) (fs:List Int) (fA:OA) (fC:Nat) (hin:eo l az) (hle:dw l=0) (hr:dR l r) (hk:rs.length+k=l.ab.length) (hfl:fs.length=rs.length) (hst:r.Start≤gd r.Start fs∧gd r.Start fs≤r.fJ) (hrs: ∀ x∈rs,-1≤x∧x<(r.aa.length:Int)) (hrec: ∀ (k2:Nat) (rs2:List Int) (rA2:OA) (rC2:Nat) (fs2:List Int) (fA2:OA) (fC2:Nat),(k2<k)→(rs2.length+k2=l.ab.length)→(fs2.length=rs2.length)→(r.Start≤gd r.Start fs2∧gd r.Start fs2≤r.fJ)→(∀ x∈rs2,-1≤x∧x<(r.aa.length:Int))→Kw Tryz.prog 163 [(vA (cV.cells (jN l kA kC cA cC bA bC))),(vA (cN.cells (jf r sgA sgC))),(vA (iJ.cells (iJ.mk (bH.mk vwA ((b_ l l.ab.length).length) vwC) (bH.mk vtA ((eB l r r.aa.length).length) vtC) (bH.mk vbA ((eX l r r.aa.length).length) vbC)))),(vS rA2 rs2.length rC2),(vS fA2 fs2.length fC2)] [(rd kA l.aV.length 9 (l.aV.map ao.cells)),(rd cA l.ar.length 2 (List.zipWith ay.cells l.ar az)),(dL (br ay.gn l.ar az)),(rd bA l.ab.length 4 (l.ab.map bI.cells)),(rd sgA r.aa.length 2 (r.aa.map aF.cells)),(rd vwA ((b_ l l.ab.length).length) 1 ((b_ l l.ab.length).map iC)),(rd vtA ((eB l r r.aa.length).length) 2 ((eB l r r.aa.length).map ag.cells)),(rd vbA ((eX l r r.aa.length).length) 1 ((eX l r r.aa.length).map pV))] (bX [own rA2 rC2 3 1 (rs2.map iC),own fA2 fC2 3 1 (fs2.map iC)]) (fun (x:(OA)×Nat×(List kp))=>(vS x.1 ((ik l r k2 rs2 fs2).length) x.2.1)) (fun (x:(OA)×Nat×(List kp))=>x.2.2.length=(ik l r k2 rs2 fs2).length) (fun (x:(OA)×Nat×(List kp))=>(bX (br dh.owns (ik l r k2 rs2 fs2) x.2.2++[own x.1 x.2.1 255 3 (List.zipWith dh.cells (ik l r k2 rs2 fs2) x.2.2)])))):
 Kw Tryz.prog 163 [(vA (cV.cells (jN l kA kC cA cC bA bC))),(vA (cN.cells (jf r sgA sgC))),(vA (iJ.cells (iJ.mk (bH.mk vwA ((b_ l l.ab.length).length) vwC) (bH.mk vtA ((eB l r r.aa.length).length) vtC) (bH.mk vbA ((eX l r r.aa.length).length) vbC)))),(vS rA rs.length rC),(vS fA fs.length fC)] [(rd kA l.aV.length 9 (l.aV.map ao.cells)),(rd cA l.ar.length 2 (List.zipWith ay.cells l.ar az)),(dL (br ay.gn l.ar az)),(rd bA l.ab.length 4 (l.ab.map bI.cells)),(rd sgA r.aa.length 2 (r.aa.map aF.cells)),(rd vwA ((b_ l l.ab.length).length) 1 ((b_ l l.ab.length).map iC)),(rd vtA ((eB l r r.aa.length).length) 2 ((eB l r r.aa.length).map ag.cells)),(rd vbA ((eX l r r.aa.length).length) 1 ((eX l r r.aa.length).map pV))] (bX [own rA rC 3 1 (rs.map iC),own fA fC 3 1 (fs.map iC)]) (fun (x:(OA)×Nat×(List kp))=>(vS x.1 ((ik l r k rs fs).length) x.2.1)) (fun (x:(OA)×Nat×(List kp))=>x.2.2.length=(ik l r k rs fs).length) (fun (x:(OA)×Nat×(List kp))=>(bX (br dh.owns (ik l r k rs fs) x.2.2++[own x.1 x.2.1 255 3 (List.zipWith dh.cells (ik l r k rs fs) x.2.2)]))):=by
 have R6:=hin.sH
 have Qx:=hin.sI
 have Pv:=hin.ot
 have Qr:=hin.sL
 obtain ⟨Ma,Go⟩:=dK hle
 have La:=Go.head
 unfold eL at La
 have A1:=hr.len
 have R3:=hr.time
 have R2:=cP (l:=l) (n:=l.ab.length)
 have R7:=rF (l:=l) (Nat.le_refl r.aa.length)
 have R5:=uU (l:=l) (Nat.le_refl r.aa.length)
 have R8:=tR rs
 refine uu kr Tryz.func163 U U fun w0 Q hQ hN=>?_
 try dsimp only
 refine Ai 0 U U fun wz Sz hz=>?_
 try dsimp only
 refine WS fun _ Kn=>er U fun b2=>er U fun b3=>er U fun b4=>bE 1 U<|RK Kn<|WS fun _ K0=>bE 1 U<|RK K0<|WS fun _ K4=>bE 4 U<|RK K4<|aj fun _ K5=>WS fun _ K8=>rP 1 [] I ?_
 refine RK K8<|aB ?_
 have C:(0≤rs.length):=by exact Nat.zero_le _
 have LE:(vI ((db (rs.take 0)).right))=(vI 0):=by rfl
 refine bT (ι:={z:Nat // (z≤rs.length)}) [3,4,5,6,7,11,12] [0,1,2,3,4,5,6,7,8,9,10,11] U U (fun z=>[(13,(vI ((db (rs.take z.1)).right))),(14,(vI (z.1:Int)))]) (fun z=>[]) (fun _=>rfl) (fun _=>rfl) (fun z=>rs.length-z.1) ⟨0,C⟩ (aX U LE<|bx U) (aP [0,1,2,3,4,5,6,7,8,9,10,11]) ?_
 clear C
 rintro ⟨i,Lk⟩ J10 g
 try dsimp only
 have L2:=tR (rs.take i)
 rw [List.length_take] at L2
 refine aj fun _ A4=>WS fun _ A5=>rP 3 [] I ?_
 refine RK A5<|cu U (aU fun J6=>?_) (aT fun J6=>?_)
 ·refine WK A4<|aj fun _ h=>aB<|WS fun _ A6=>rP 2 [] I ?_
  obtain ⟨x,hx⟩:=aJ rs i om
  have M2:=bK iC hx
  refine rS (IA i U (show iN _ (rd rA rs.length 1 (rs.map iC)).holds from (pw (c:=rC) (e:=3) 3 U sm sm)) dp dc om om)<|rS (hG i 0 (vI x) U cb (show iN _ (rd rA rs.length 1 (rs.map iC)).holds from (pw (c:=rC) (e:=3) 3 U sm sm)) M2 U dc U)<|rP 1 [] I ?_
  refine RK A6<|bQ U (aT fun AO=>?_) (aU fun AO=>?_)
  ·refine cf<|aL<|KK h<|aq<|rP 3 [] I ?_
   refine aD ?_
   have Di:(vI ((db (rs.take (i+1))).right))=(vI ((db (rs.take i)).right)):=by exact cI (by rw [tO hx]; (rw [if_neg AO]; exact Int.add_zero _))
   have Do:(vI (((i+1):Nat):Int))=(vI ((i:Int)+1)):=by exact cI om
   refine a7 (g ⟨(i+1),(by first|omega|(simp only []; omega))⟩ _ _ _ U os (cw 7<|aX U Di<|aX U Do<|df.nil _) (aP [0,1,2,3,4,5,6,7,8,9,10,11]))
  refine aq<|bE 3 U<|aD<|aL<|KK h<|aq<|rP 3 [] I ?_
  refine aD ?_
  have C2:(vI ((db (rs.take (i+1))).right))=(vI (((db (rs.take i)).right)+1)):=by exact cI (by rw [tO hx]; (rw [if_pos AO]; done))
  have C3:(vI (((i+1):Nat):Int))=(vI ((i:Int)+1)):=by exact cI om
  refine a7 (g ⟨(i+1),(by first|omega|(simp only []; omega))⟩ _ _ _ U os (cw 7<|aX U C2<|aX U C3<|df.nil _) (aP [0,1,2,3,4,5,6,7,8,9,10,11]))
 refine bL<|ai<|ai<|aG<|KK K5<|aj fun _ A7=>aj fun _ A8=>?_
 rw [show rs.take i=rs from List.take_of_length_le om]
 refine aq<|rP 6 [] (mc 2 U I) ?_
 refine RK A8<|cu U (aU fun J8=>?_) (aT fun J8=>?_)
 ·refine WS fun _ A9=>kW 255 3<|rP 1 [] I ?_
  refine RK A9<|ak<|za (C1:=[(own none 0 255 3 [])]) hz [0] U U U<|On (W:=ik l r k rs fs) ?_
  rw [show (own none 0 255 3 [])=(own none 0 255 3 (List.zipWith dh.cells (ik l r k rs fs) [])) from by rw [m0 om]; rfl]
  refine LM hQ (none,0,[]) 0 [] I U (by show List.all _ _=true; rw [List.all_append,pz]; rfl) U ?_ ?_
  ·exact (by rw [m0 om]; rfl)
  ·rw [m0 om]; rfl
 refine WK A7 ?_
 refine kD (ι:={z:(OA)×Nat×(List kp)×(List av) // (wj l r rs fs (rA,rC) (fA,fC) z.2.2.1 z.2.2.2)}) [3,4,5,6,7,12] [0,1,2,3,4,5,6,7,8,9,10,11] U U (fun z=>[(11,(vS z.1.1 ((gW l r rs fs).length) z.1.2.1))]) (fun z=>[(own z.1.1 z.1.2.1 255 3 (List.zipWith dh.cells (gW l r rs fs) z.1.2.2.1)),(bX z.1.2.2.2)]) (fun _=>rfl) (fun _=>rfl) ?_ fun K23 m=>?_
 ·rintro ⟨⟨oA,oC,E,LA⟩,H⟩
  try dsimp only at H
  try dsimp only
  have D:=H
  have Li:=D.len
  have Rl:=xN (l:=l) (r:=r) (rs:=rs) (fs:=fs)
  refine aj fun _ V=>WS fun _ BV=>rP 4 [] (mc 2 U I) ?_
  have R9:=uC (l:=l) (r:=r) (rs:=rs) (fs:=fs) A1 (k:=k) om
  refine rP 1 [] I ?_
  refine RK BV<|cu U (aU fun J9=>?_) (aT fun J9=>?_)
  ·refine WS fun _ B3=>bE 1 U<|rP 1 [] I ?_
   refine RK B3<|ak ?_
   obtain rfl:k=0:=by omega
   refine DA ?_
   try dsimp only
   refine za (C1:=[(own oA oC 255 3 (List.zipWith dh.cells (gW l r rs fs) E)),(bX LA),(bX (br dh.owns [] []))]) hz [13,14,0] U U (by simp only [fy,List.all_nil,Bool.and_true,cW]; exact ⟨U,D.wr,pz _ _⟩) ?_
   refine Hh (ra:=(rA,rC)) (fa:=(fA,fC)) (A':=(own oA oC 255 3 (List.zipWith dh.cells (ik l r 0 rs fs) E))) D ((List.append_nil _).trans (ni om).symm) (List.append_nil _) (by rw [ni om]) ?_
   refine LM hQ (oA,oC,E) 0 [] I U (by show List.all _ _=true; rw [List.all_append,pz]; rfl) U ?_ ?_
   ·exact (by (rw [ni om]; rfl))
   ·rw [ni om]; exact Li
  refine WK V<|WS fun _ B9=>?_
  obtain ⟨B,rfl⟩: ∃ B,k=B+1:=⟨k-1,om⟩
  refine rP 3 [] (mc 1 U I) ?_
  refine RK B9 ?_
  refine kD (ι:=Unit) [3,4,5,6,7,11,12] [0,1,2,3,4,5,6,7,8,9,10,11,12,13] U U (fun z=>[(15,(vI (gd r.Start fs)))]) (fun z=>[]) (fun _=>rfl) (fun _=>rfl) ?_ fun K28 o=>?_
  ·intro _
   try dsimp only
   refine WS fun _ Z=>rP 4 [] (mc 0 U I) ?_
   obtain ⟨yls,IO⟩:=aJ (b_ l l.ab.length) (rs.length) om
   have IR:=bK iC IO
   refine rS (IA rs.length U (aA 9 U) dp dc om om)<|rS (hG rs.length 0 (vI yls) U cb (aA 9 U) IR U dc U) ?_
   have R1:=mT Ma Go (i:=rs.length) om
   rw [uX IO]
   refine bE 2 U<|RK Z<|aj fun _ CF=>WS fun _ Cf=>rP 1 [] I ?_
   refine RK Cf<|aB ?_
   rw [show (gW l r rs fs)=((gW l r rs fs)++(iB l r B rs fs 0)) from (List.append_nil _).symm]
   rw [show E=E++[] from (List.append_nil _).symm]
   refine qE ?_
   try dsimp only
   have C:(0≤r.aa.length+1)∧(([]:List kp).length=(iB l r B rs fs 0).length):=by exact ⟨Nat.zero_le _,rfl⟩
   have d:(vI ((0:Int)-1))=(vI (-1)):=by exact cI om
   refine bT (ι:={z:Nat×(OA)×Nat×(List kp) // (z.1≤r.aa.length+1)∧(z.2.2.2.length=(iB l r B rs fs z.1).length)}) [3,4,5,6,7,12,15] [1,2,3,4,5,6,7,8,9,10,11,12,14] U U (fun z=>[(11,(vS z.1.2.1 (((gW l r rs fs)++(iB l r B rs fs z.1.1)).length) z.1.2.2.1)),(16,(vI ((z.1.1:Int)-1)))]) (fun z=>[(bX (br dh.owns (iB l r B rs fs z.1.1) z.1.2.2.2)),(own z.1.2.1 z.1.2.2.1 255 3 (List.zipWith dh.cells ((gW l r rs fs)++(iB l r B rs fs z.1.1)) (E++z.1.2.2.2)))]) (fun _=>rfl) (fun _=>rfl) (fun z=>r.aa.length+1-z.1.1) ⟨(0,oA,oC,([]:List kp)),C⟩ (df.cons U<|aX U d<|df.nil _) (aP [1,2,3,4,5,6,7,8,9,10,11,12,14,0,13]) ?_
   clear C
   rintro ⟨⟨j,M,N,azW⟩,⟨f,A⟩⟩ J33 O
   try dsimp only at f A
   try dsimp only
   have L3:=Hr (l:=l) (r:=r) (k:=B) (j:=j) (rs:=rs) (fs:=fs) A1 om om
   refine aj fun _ Ci=>WS fun _ Ck=>rP 5 [] (mc 1 U I) ?_
   refine RK Ck<|bQ U (aT fun J7=>?_) (aU fun J7=>?_)
   ·refine bL<|ai<|ai<|aG<|KK CF<|WS fun _ C0=>bE 1 U<|rP 1 [] I ?_
    refine RK C0<|ak ?_
    refine za (C1:=[(own M N 255 3 (List.zipWith dh.cells ((gW l r rs fs)++(iB l r B rs fs j)) (E++azW))),(bX LA),(bX (br dh.owns (iB l r B rs fs j) azW))]) hz [14,12,13] U U (by simp only [fy,List.all_nil,Bool.and_true,cW]; exact ⟨U,D.wr,pz _ _⟩) ?_
    refine Hh (ra:=(rA,rC)) (fa:=(fA,fC)) (W:=ik l r (B+1) rs fs) (A':=(own M N 255 3 (List.zipWith dh.cells (ik l r (B+1) rs fs) (E++azW)))) D (by rw [nm om,qV,show r.aa.length+1=j by omega]) U (by rw [nm om,qV,show r.aa.length+1=j by omega]) ?_
    refine LM hQ (M,N,(E++azW)) 0 [] I U (by show List.all _ _=true; rw [List.all_append,pz]; rfl) U ?_ ?_
    ·exact (by (rw [nm om,qV,show r.aa.length+1=j by omega]; rfl))
    ·rw [nm om,qV,show r.aa.length+1=j by omega]; simp only [List.length_append]; omega
   refine WK Ci<|aj fun _ P=>aB<|aj fun _ Cp=>dg cp 5 kr<|dP 5 [] (mc 1 U I) ?_
   refine cE<|RK Cp ?_
   refine kD (ι:={z:Int×Int // ((z.1≤z.2→oU l r rs.length (gd r.Start fs+dV l rs.length) ((j:Int)-1)=some z.1)∧(¬ z.1≤z.2→oU l r rs.length (gd r.Start fs+dV l rs.length) ((j:Int)-1)=none))∧(r.Start≤z.1∧z.2≤r.fJ)}) [3,4,5,6,7,11,12,15,16] [0,1,2,3,4,5,6,7,8,9,10,11,12,13,14] U U (fun z=>[(17,(vI z.1.1)),(18,(vI z.1.2))]) (fun z=>[]) (fun _=>rfl) (fun _=>rfl) ?_ fun K39 p=>?_
   ·rintro ⟨⟨tt,ee⟩,⟨AB,J⟩⟩
    try dsimp only at AB J
    try dsimp only
    have Gl:=AB
    have R0:=J
    refine WS fun _ a=>rP 3 [] I ?_
    refine RK a<|bQ U (aT fun AA=>?_) (aU fun AA=>?_)
    ·refine cf<|aL<|KK P<|aq<|rP 3 [] I ?_
     refine aD ?_
     have L:(iB l r B rs fs (j+1))=(iB l r B rs fs j):=by exact qq (Gl.2 AA)
     rw [← L]
     have GE:(vI ((((j+1):Nat):Int)-1))=(vI (((j:Int)-1)+1)):=by exact cI om
     refine a7 (O ⟨((j+1),M,N,azW),⟨om,by dsimp only; (rw [L]; exact A)⟩⟩ _ _ _ U os (cw 8<|aX U GE<|df.nil _) (aP [0,1,2,3,4,5,6,7,8,9,10,11,12,13,14]))
    refine Nl (L':=[(3,(vS rA rs.length rC)),(4,(vS fA fs.length fC)),(5,(vP b2)),(6,(vP b3)),(7,(vP b4)),(11,(vS M (((gW l r rs fs)++(iB l r B rs fs j)).length) N)),(12,(vI (rs.length:Int))),(15,(vI ((gd r.Start fs)+(dV l rs.length)))),(16,(vI ((j:Int)-1))),(17,(vI tt)),(18,(vI ee)),(123,(vI tt)),(124,(vI ee)),(125,(vB (decide (tt≤ee))))]) rfl<|l3 cp [0,1,2,3,5,7,11,13] [4,6,8,9,10,12,14,15,16,17,18] [false,false,false,false,false,false,false,false] [] [(cm b4 252 (iJ.cells (iJ.mk (bH.mk vwA ((b_ l l.ab.length).length) vwC) (bH.mk vtA ((eB l r r.aa.length).length) vtC) (bH.mk vbA ((eX l r r.aa.length).length) vbC)))),(cm b3 56 (cN.cells (jf r sgA sgC))),(cm b2 28 (cV.cells (jN l kA kC cA cC bA bC))),(bX [own rA rC 3 1 (rs.map iC),own fA fC 3 1 (fs.map iC)]).ro,(rd kA l.aV.length 9 (l.aV.map ao.cells)).ro,(rd cA l.ar.length 2 (List.zipWith ay.cells l.ar az)).ro,(dL (br ay.gn l.ar az)).ro,(rd bA l.ab.length 4 (l.ab.map bI.cells)).ro,(rd sgA r.aa.length 2 (r.aa.map aF.cells)).ro,(rd vwA ((b_ l l.ab.length).length) 1 ((b_ l l.ab.length).map iC)).ro,(rd vtA ((eB l r r.aa.length).length) 2 ((eB l r r.aa.length).map ag.cells)).ro,(rd vbA ((eX l r r.aa.length).length) 1 ((eX l r r.aa.length).map pV)).ro,(bX LA),(bX (br dh.owns (iB l r B rs fs j) azW))] [] kr (aP [0,1,2,3,4,5,6,7,8,9,10,11,12,13]) (aP [])<|eS rfl (MV rfl)<|eS rfl (LW 2 rfl cb rfl rfl)<|eS rfl (LW 1 rfl cb rfl rfl)<|eS rfl (LW 0 rfl cb rfl rfl)<|eS rfl (MV rfl)<|eS rfl (MV rfl)<|eS rfl (MV rfl)<|eS rfl (MV rfl)<|ep rfl<|Ev [.take 4,.op 6,.take 8,.op 9,.take 10,.op 12,.take 14,.op 15,.op 16,.op 17,.op 18] [(133,(vI ((j:Int)-1))),(139,(vI tt))] (fun i=>match i with |4=>130|8=>134|10=>136|14=>140|_=>0) (fun i b=>match i with |4=> .slice (some ⟨b,0,none⟩) 0 0|8=> .slice (some ⟨b,0,none⟩) 1 1|10=> .slice (some ⟨b,0,none⟩) 0 0|14=> .slice (some ⟨b,0,none⟩) 1 1|_=>undef) (fun i b=>match i with |4=>cm b 3 []|8=>cm b 3 [(vI ((j:Int)-1))]|10=>cm b 3 []|14=>cm b 3 [(vI tt)]|_=>cm b 0 []) rfl rfl rfl kr rfl rfl (aP [0,1,2,3,4,5,6,7,8,9,10,11,12,13]) (lY (HL rfl dp rfl rfl (fun _=>rfl) fun _=>rfl)<|qM<|lY (vf (xs:=[.tmp 133]) (cs:=[(vI ((j:Int)-1))]) rfl dp j5 rfl rfl rfl rfl (by simp [Value.cells]) rfl rfl rfl (fun _=>rfl) fun _=>rfl)<|qM<|lY (HL rfl dp rfl rfl (fun _=>rfl) fun _=>rfl)<|qM<|lY (vf (xs:=[.tmp 139]) (cs:=[(vI tt)]) rfl dp j5 rfl rfl rfl rfl (by simp [Value.cells]) rfl rfl rfl (fun _=>rfl) fun _=>rfl)<|qM<|qM<|qM<|qM<|Ka) ?_
    intro Jt
    try dsimp only
    refine qR U fun Y X K hT=>j1 (es:=(List.map iC [])) (C':=[own (some ⟨Jt,0,none⟩) 0 3 1 (List.map iC []),_,_,_,_,_,_,_,_,_,_,_,_,_,_,_]++X) 0 U sm U (by simp [maxLen]) U ?_
    refine fg (es2:=(List.map iC rs)) (m':=rs.length) 0 U U U ub U U sm (show iN _ (rd rA rs.length 1 (rs.map iC)).holds from (pw (c:=rC) (e:=3) 4 U sm sm)) (lT _) (by first|omega|(simp; done)|(simp; omega)) (by (simp only [maxLen]; omega)) sm sm U fun Oo Pi=>?_
    try dsimp only
    refine nB hT 24 16 U U (fun w hs=>St.kh [1,2,3,4,5,6,7,8,9,10,11,12,13,14] U U hs) U U ?_
    try dsimp only [List.take]
    intro Os
    try dsimp only
    refine qR U fun Y X K hT=>?_
    refine fg (es2:=(List.map iC (rs++[(j:Int)-1]))) (m':=(rs++[(j:Int)-1]).length) 1 U U U ub U U sm (bk (es:=List.map iC [((j:Int)-1)]) 0 U U (by simp [bJ]) U) (lT _) (by first|omega|(simp; done)|(simp; omega)) (by (simp only [maxLen]; omega)) sm sm U fun In J3=>?_
    try dsimp only
    refine nB hT 26 17 U U (fun w hs=>St.kh [2,3,4,5,6,7,8,9,10,11,12,13,14,15] U U hs) U U ?_
    try dsimp only [List.take]
    intro J2
    try dsimp only
    refine qR U fun Y X K hT=>j1 (es:=(List.map iC [])) (C':=[own (some ⟨J2,0,none⟩) 0 3 1 (List.map iC []),_,_,_,_,_,_,_,_,_,_,_,_,_,_,_,_,_]++X) 0 U sm U (by simp [maxLen]) U ?_
    refine fg (es2:=(List.map iC fs)) (m':=fs.length) 0 U U U ub U U sm (show iN _ (rd fA fs.length 1 (fs.map iC)).holds from (pw (c:=fC) (e:=3) 6 U sm sm)) (lT _) (by first|omega|(simp; done)|(simp; omega)) (by (simp only [maxLen]; omega)) sm sm U fun Op Pl=>?_
    try dsimp only
    refine nB hT 28 18 U U (fun w hs=>St.kh [3,4,5,6,7,8,9,10,11,12,13,14,15,16] U U hs) U U ?_
    try dsimp only [List.take]
    intro PP
    try dsimp only
    refine qR U fun Y X K hT=>?_
    refine fg (es2:=(List.map iC (fs++[tt]))) (m':=(fs++[tt]).length) 1 U U U ub U U sm (bk (es:=List.map iC [tt]) 0 U U (by simp [bJ]) U) (lT _) (by first|omega|(simp; done)|(simp; omega)) (by (simp only [maxLen]; omega)) sm sm U fun Ja J4=>?_
    try dsimp only
    refine nB hT 30 19 U U (fun w hs=>St.kh [4,5,6,7,8,9,10,11,12,13,14,15,16,17] U U hs) U U ?_
    try dsimp only [List.take]
    refine qR U fun Y X K hT=>?_
    have R:=Gl.1 AA
    refine w6<|qY 4 U ?_
    try dsimp only [List.eraseIdx]
    refine z7 U<|qY 2 U ?_
    try dsimp only [List.eraseIdx]
    refine z7 U ?_
    try dsimp only
    refine nT 0 rfl rfl rfl rfl (hrec B (rs++[(j:Int)-1]) In J3 (fs++[tt]) Ja J4 om (by simp only [List.length_append,List.length_singleton]; omega) (by simp only [List.length_append,List.length_singleton]; omega) (by rw [mR]; omega) (by intro x hx; rcases gR.1 hx with hx|hx; exact hrs x hx; rw [cd.1 hx]; omega)) rfl (dW 7 rfl rfl (dy (bR _)) (dW 8 rfl rfl (dy (bR _)) (dW 9 rfl rfl (dy (bR _)) (dW 10 rfl rfl (dy (bR _)) (dW 11 rfl rfl (dy (bR _)) (dW 12 rfl rfl (dy (bR _)) (dW 13 rfl rfl (dy (bR _)) (dW 14 rfl rfl (dy (bR _)) qT)))))))) rfl (fun NZ A2=>?_)
    obtain ⟨Ob,Ok,v⟩:=NZ
    try dsimp only
    dsimp only at A2
    refine nB hT 31 18 U U (fun w hs=>St.kh [3,4,5,6,7,8,9,10,11,12,13,14,15,16] U U hs) U U ?_
    try dsimp only [List.take]
    refine qR U fun Y X K hT=>qY 0 U ?_
    try dsimp only [List.eraseIdx]
    refine yF ?_
    have ST:=uC (l:=l) (r:=r) (k:=B) (rs:=(rs++[(j:Int)-1])) (fs:=(fs++[tt])) A1 om
    refine fg (es2:=(List.zipWith dh.cells ((gW l r rs fs)++(iB l r B rs fs (j+1))) (E++(azW++v)))) (m':=((gW l r rs fs)++(iB l r B rs fs (j+1))).length) 18 U U U MZ U U (sW (by simp only [List.length_append]; omega)).symm (aN (n:=(ik l r B (rs++[(j:Int)-1]) (fs++[tt])).length) 0 U (sW A2)) (BG _ _) (by simp only [List.length_append]; omega) (by simp only [List.length_append,maxLen]; omega) (by rw [mP R,← List.append_assoc,← List.append_assoc]; exact (Ix (by simp only [List.length_append]; omega)).symm) (sW (by rw [mP R]; simp only [List.length_append]; omega)) U fun Jc J5=>?_
    try dsimp only
    refine nB hT 32 19 U U (fun w hs=>St.kh [4,5,6,7,8,9,10,11,12,13,14,15,16,17] U U hs) U U ?_
    try dsimp only [List.take]
    refine qR U fun Y X K hT=>rS (AG U)<|nB hT 33 19 U U (fun w hs=>St.kh [4,5,6,7,8,9,10,11,12,13,14,15,16,17] U U hs) U U ?_
    try dsimp only [List.take]
    refine aL<|KK P<|aq<|rP 3 [] I ?_
    refine aD<|El 1 U ?_
    try dsimp only [List.eraseIdx]
    refine El 17 U ?_
    try dsimp only [List.eraseIdx]
    refine JC A ?_
    rw [← mP R]
    try dsimp only
    have Fn:(vI ((((j+1):Nat):Int)-1))=(vI (((j:Int)-1)+1)):=by exact cI om
    refine a7 (O ⟨((j+1),Jc,J5,(azW++v)),⟨om,by dsimp only; (rw [mP R,List.length_append,List.length_append,A,A2])⟩⟩ _ _ _ U os (cw 8<|aX U Fn<|df.nil _) (aP [4,5,6,7,8,9,10,11,12,13,14,15,16,0,17]))
   refine WS fun _ a=>rP 2 [] I ?_
   refine RK a<|bQ U (aT fun Kf=>?_) (aU fun Kf=>?_)
   ·refine cf ?_
    refine a7 (ic (bx U) (aP [0,1,2,3,4,5,6,7,8,9,10,11,12,13,14]) (p ⟨(((gd r.Start fs)+(dV l rs.length)),r.fJ),⟨by exact Hn om,om⟩⟩))
   refine aj fun _ Cx=>WS fun _ u=>rP 3 [] (mc 1 U I) ?_
   obtain ⟨s,hs⟩:=aJ r.aa ((((j:Int)-1)).toNat) om
   have L0:=bK aF.cells hs
   refine rS (IA ((((j:Int)-1)).toNat) U (aA 8 U) zU dc om om)<|rS (qc (((((j:Int)-1)).toNat)*2) U (aA 8 U) (Nat.mul_pos om dc) fE U)<|rS (hG ((((j:Int)-1)).toNat) 0 (vI s.eZ) U cb (aA 8 U) L0 U dc U) ?_
   have R4:=(hr.sig _ s hs).1
   refine rP 3 [] I ?_
   refine bU (t:=99) U (bp fun A3=>?_) (bo fun A3=>?_)
   ·refine bE 7 U<|RK u<|aQ U<|bL<|ai<|ai<|aG<|KK P<|aq<|rP 3 [] I ?_
    refine aD ?_
    have L:(iB l r B rs fs (j+1))=(iB l r B rs fs j):=by exact qq (xj om hs (fun q=>A3 om))
    rw [← L]
    have FS:(vI ((((j+1):Nat):Int)-1))=(vI (((j:Int)-1)+1)):=by exact cI om
    refine a7 (O ⟨((j+1),M,N,azW),⟨om,by dsimp only; (rw [L]; exact A)⟩⟩ _ _ _ U os (cw 8<|aX U FS<|df.nil _) (aP [0,1,2,3,4,5,6,7,8,9,10,11,12,13,14]))
   refine rP 3 [] (mc 0 U I) ?_
   obtain ⟨bs,A0⟩:=aJ (eX l r r.aa.length) ((((j:Int)-1)).toNat) om
   have GT:=bK pV A0
   refine rS (IA ((((j:Int)-1)).toNat) U (aA 11 U) Nr dc om om)<|rS (hG ((((j:Int)-1)).toNat) 0 (vB bs) U cb (aA 11 U) GT U dc U)<|rP 2 [] I ?_
   refine RK u<|cu U (fun F=>?_) (fun F=>?_)
   ·rw [Bool.not_eq_true'] at F
    refine bL<|ai<|ai<|aG<|KK P<|aq<|rP 3 [] I ?_
    refine aD ?_
    have L:(iB l r B rs fs (j+1))=(iB l r B rs fs j):=by exact qq (xj om hs (fun q=>by rw [(Au hs A0).2 q.2] at F; cases F))
    rw [← L]
    have Fd:(vI ((((j+1):Nat):Int)-1))=(vI (((j:Int)-1)+1)):=by exact cI om
    refine a7 (O ⟨((j+1),M,N,azW),⟨om,by dsimp only; (rw [L]; exact A)⟩⟩ _ _ _ U os (cw 8<|aX U Fd<|df.nil _) (aP [0,1,2,3,4,5,6,7,8,9,10,11,12,13,14]))
   rw [Bool.not_eq_false'] at F
   refine WK Cx<|dg cp 18 kr<|dP 4 [] (mc 0 U I) ?_
   obtain ⟨z,hz⟩:=aJ (eB l r r.aa.length) ((((j:Int)-1)).toNat) om
   have Id:=bK ag.cells hz
   refine dS (IA ((((j:Int)-1)).toNat) U (aA 10 U) kS dc om om)<|dS (qc (((((j:Int)-1)).toNat)*2) U (aA 10 U) (Nat.mul_pos om dc) fE U) ?_
   have If:=HZ hs hz
   have NE:=wD l s
   rw [← If] at NE
   have LT:(cJ l s).Lo≤(cJ l s).Hi:=(Au hs A0).1 F
   refine dS (hG ((((j:Int)-1)).toNat) 0 (vI z.Lo) U cb (aA 10 U) Id U dc U)<|dS (MX U)<|lu 4 [] (mc 0 U I) U<|dS (IA ((((j:Int)-1)).toNat) U (aA 10 U) kS dc om om)<|dS (qc ((((((j:Int)-1)).toNat)*2)+1) U (aA 10 U) (Nat.mul_pos om dc) fE U)<|dS (hG ((((j:Int)-1)).toNat) 1 (vI z.Hi) U cb (aA 10 U) Id U dc U)<|dS (MN U)<|dP 2 [] I ?_
   refine cE<|aD ?_
   refine a7 (ic (bx U) (aP [0,1,2,3,4,5,6,7,8,9,10,11,12,13,14]) (p ⟨((max ((gd r.Start fs)+(dV l rs.length)) z.Lo),(min r.fJ z.Hi)),⟨by (rw [If]; exact Jv om hs om LT),om⟩⟩))
  refine WS fun _ Z=>rP 2 [] I ?_
  refine RK Z<|bQ U (aT fun KW=>?_) (aU fun KW=>?_)
  ·refine cf ?_
   have EQ:(vI (gd r.Start fs))=(vI r.Start):=by exact cI (by have e:fs=[]:=hE om; rw [e]; rfl)
   refine a7 (ic (cw 7<|aX U EQ<|df.nil _) (aP [0,1,2,3,4,5,6,7,8,9,10,11,12,13]) (o ()))
  refine aq<|rP 3 [] I ?_
  obtain ⟨xf,G5⟩:=aJ fs (rs.length-1) om
  have H1:=bK iC G5
  refine rS (IA (rs.length-1) U (show iN _ (rd fA fs.length 1 (fs.map iC)).holds from (pw (c:=fC) (e:=3) 3 U sm sm)) dp dc om om)<|rS (hG (rs.length-1) 0 (vI xf) U cb (show iN _ (rd fA fs.length 1 (fs.map iC)).holds from (pw (c:=fC) (e:=3) 3 U sm sm)) H1 U dc U)<|rP 1 [] I ?_
  refine aD ?_
  have EF:(vI (gd r.Start fs))=(vI xf):=by exact cI (BF _ _ _ (by rw [hfl]; exact G5))
  refine a7 (ic (cw 7<|aX U EF<|df.nil _) (aP [0,1,2,3,4,5,6,7,8,9,10,11,12,13]) (o ()))
 refine WS fun _ V=>rP 8 [0,1] (mc 1 U (mc 2 U I)) ?_
 refine RK V<|bQ U (aT fun G=>?_) (aU fun G=>?_)
 ·refine cf<|DA<|Gg 255 3 ?_
  rw [show (own none 0 255 3 [])=(own none 0 255 3 (List.zipWith dh.cells (gW l r rs fs) [])) from by rw [wq G]; rfl]
  have Eq:(vS none ((gW l r rs fs).length) 0)=(vS none 0 0):=by first|rfl|(rw [wq G]; rfl)
  refine a7 (ic (cw 6<|aX U Eq<|df.nil _) (aP [2,3,4,5,6,7,8,9,10,11,12,13,0,1]) (m ⟨(none,0,[],[]),(by exact .inr ⟨G,U,U⟩)⟩))
 refine aq<|rP 6 [0,1] (mc 1 U (mc 0 U I)) ?_
 refine cX (Ha r sgA sgC l vwA vwC vtA vtC vbA vbC rs rA rC hle hr om (by exact fun x hx h0=>(hrs x hx).2)) (ox [8,9,10,11]<|aK (show iN _ (rd rA rs.length 1 (rs.map iC)).holds from (pw (c:=rC) (e:=3) 3 U sm sm))<|aM) U fun NN OR=>?_
 obtain ⟨S,T⟩:=NN
 try dsimp only
 refine rS (SX (a_ (xs:=[(0,.tmp 48),(1,.tmp 49),(2,.tmp 53)]) (cs:=(wI.cells (wI.mk (bH.mk rA rs.length rC) (bH.mk fA fs.length fC) (bH.mk S ((jo l r rs).length) T)))) U U (bf QH U)) U U)<|dZ (xs:=[.tmp 54]) (cs:=(wI.cells (wI.mk (bH.mk rA rs.length rC) (bH.mk fA fs.length fC) (bH.mk S ((jo l r rs).length) T)))) U Ei Q5 U U U U (by simp [Value.cells,wI.aY]) U U fun Or=>kW 255 3 ?_
 refine fg (es2:=(List.zipWith dh.cells (gW l r rs fs) ([((rA,rC),(fA,fC),(S,T))]))) (m':=(gW l r rs fs).length) 0 rfl rfl rfl MZ rfl rfl rfl (bk (es:=List.zipWith dh.cells [(dh.mk rs fs (jo l r rs))] [((rA,rC),(fA,fC),(S,T))]) 1 rfl rfl (by intro e he; simp at he; subst he; rfl) rfl) (BG _ _) dc dc (by rw [x_ G]; rfl) (by rw [x_ G]; rfl) rfl fun y AC=>?_
 try dsimp only
 refine w6<|Na 0 3 U U U ?_
 try dsimp only
 refine rP 1 [] I ?_
 refine aD ?_
 have d:(vS y ((gW l r rs fs).length) AC)=(vS y ((gW l r rs fs).length) AC):=by first|rfl|(rw [wq G]; rfl)
 refine a7 (ic (cw 6<|aX U d<|df.nil _) (aP [3,4,5,6,7,8,9,10,11,12,13,14,1,0]) (m ⟨(y,AC,[((rA,rC),(fA,fC),(S,T))],[(own S T 3 1 ((jo l r rs).map iC))]),(by exact .inl ⟨G,_,U,U⟩)⟩))
theorem Ov (l:bg) (kA:OA) (kC:Nat) (az:List RA) (cA:OA) (cC:Nat) (bA:OA) (bC:Nat) (r:cx) (sgA:OA) (sgC:Nat) (vwA:OA) (vwC:Nat) (vtA:OA) (vtC:Nat) (vbA:OA) (vbC k:Nat) (rs:List Int) (rA:OA) (rC:Nat) (fs:List Int) (fA:OA) (fC:Nat) (hin:eo l az) (hle:dw l=0) (hr:dR l r) (hk:rs.length+k=l.ab.length) (hfl:fs.length=rs.length) (hst:r.Start≤gd r.Start fs∧gd r.Start fs≤r.fJ) (hrs: ∀ x∈rs,-1≤x∧x<(r.aa.length:Int)):
 Kw Tryz.prog 163 [(vA (cV.cells (jN l kA kC cA cC bA bC))),(vA (cN.cells (jf r sgA sgC))),(vA (iJ.cells (iJ.mk (bH.mk vwA ((b_ l l.ab.length).length) vwC) (bH.mk vtA ((eB l r r.aa.length).length) vtC) (bH.mk vbA ((eX l r r.aa.length).length) vbC)))),(vS rA rs.length rC),(vS fA fs.length fC)] [(rd kA l.aV.length 9 (l.aV.map ao.cells)),(rd cA l.ar.length 2 (List.zipWith ay.cells l.ar az)),(dL (br ay.gn l.ar az)),(rd bA l.ab.length 4 (l.ab.map bI.cells)),(rd sgA r.aa.length 2 (r.aa.map aF.cells)),(rd vwA ((b_ l l.ab.length).length) 1 ((b_ l l.ab.length).map iC)),(rd vtA ((eB l r r.aa.length).length) 2 ((eB l r r.aa.length).map ag.cells)),(rd vbA ((eX l r r.aa.length).length) 1 ((eX l r r.aa.length).map pV))] (bX [own rA rC 3 1 (rs.map iC),own fA fC 3 1 (fs.map iC)]) (fun (x:(OA)×Nat×(List kp))=>(vS x.1 ((ik l r k rs fs).length) x.2.1)) (fun (x:(OA)×Nat×(List kp))=>x.2.2.length=(ik l r k rs fs).length) (fun (x:(OA)×Nat×(List kp))=>(bX (br dh.owns (ik l r k rs fs) x.2.2++[own x.1 x.2.1 255 3 (List.zipWith dh.cells (ik l r k rs fs) x.2.2)]))):=by
 induction k using Nat.strongRecOn generalizing rs rA rC fs fA fC with
 |ind k ih=>exact FO l kA kC az cA cC bA bC r sgA sgC vwA vwC vtA vtC vbA vbC k rs rA rC fs fA fC hin hle hr hk hfl hst hrs (fun L F D E C A B G H AA J K=>ih L G F D E C A B H AA J K)
end
section
open Go.RowKit
theorem KQ (l:bg) (kA:OA) (kC:Nat) (az:List RA) (cA:OA) (cC:Nat) (bA:OA) (bC:Nat) (r:cx) (sgA:OA) (sgC:Nat) (hin:eo l az) (hsl:r.aa.length≤1000000):
 q6 Tryz.prog 155 [(vA (cV.cells (jN l kA kC cA cC bA bC))),(vA (cN.cells (jf r sgA sgC)))] [(rd kA l.aV.length 9 (l.aV.map ao.cells)),(rd cA l.ar.length 2 (List.zipWith ay.cells l.ar az)),(dL (br ay.gn l.ar az)),(rd bA l.ab.length 4 (l.ab.map bI.cells)),(rd sgA r.aa.length 2 (r.aa.map aF.cells))] (fun (x:Bool×Int×(OA)×Nat×(List kp))=>bif x.1 then (vT [(vS x.2.2.1 ((qd l r).length) x.2.2.2.1),(vI 0)]) else (vT [(vS none 0 0),(vI x.2.1)])) (fun (x:Bool×Int×(OA)×Nat×(List kp))=>(x.1=true→(dF l r 0=0∧x.2.2.2.2.length=(qd l r).length))∧(x.1=false→(x.2.1=dF l r 0∧ ¬ dF l r 0=0))) (fun (x:Bool×Int×(OA)×Nat×(List kp))=>bif x.1 then [(own x.2.2.1 x.2.2.2.1 255 3 (List.zipWith dh.cells (qd l r) x.2.2.2.2)),(bX (br dh.owns (qd l r) x.2.2.2.2))] else []):=by
 have k:=hin.sH
 have j:=hin.sI
 have h:=hin.ot
 have i:=hin.sL
 refine fR kr Tryz.func155 U U fun o Q hQ hN=>?_
 try dsimp only
 refine WS fun _ X=>er U fun m=>er U fun n=>bE 2 U<|RK X<|aj fun _ Y=>WS fun _ Z=>eN 1 [] (mc 1 U I) U<|rS (CL (Bf l kA kC az cA cC bA bC hin) (bq [2,3,4,5]) U)<|bE 1 U<|RK Z<|WS fun _ a=>rP 2 [] I ?_
 refine RK a<|cu U (bp fun A=>?_) (bo fun A=>?_)
 ·refine WS fun _ b=>rP 3 [] I ?_
  refine RK b<|ak<|LX hQ (false,(dw l),none,0,[]) [] [] I U (by rfl) U U ?_
  exact vy<|Ej (fX (r:=r) (me:=0) A) A
 refine WK Y<|aj fun _ c=>WS fun _ d=>eN 2 [0,1] (mc 1 U (mc 0 U I)) U<|rS (CL (Lx l kA kC az cA cC bA bC r sgA sgC hin (by exact hsl)) (bq [2,3,4,5,6]) U)<|rP 1 [] I ?_
 refine RK d<|cu U (bp fun B=>?_) (bo fun B=>?_)
 ·refine WS fun _ D=>rP 2 [] I ?_
  refine RK D<|ak<|LX hQ (false,51,none,0,[]) [] [] I U (by rfl) U U ?_
  exact vy<|nD (cY (me:=0) A B)
 refine WK c<|aj fun _ E=>dH cp [4,5,6] [] [] [0,1,2,3,4,5,6] [] U U U U U<|eS U (LW 1 U cb U U)<|eS U (LW 0 U cb U U)<|eS U (LW 1 U cb U U)<|eS U (LW 0 U cb U U)<|ep U<|cj U fun T12 J=>cX (KU l kA kC az cA cC bA bC r sgA sgC hin (by exact A) (by exact B)) (bq [2,3,4,5,6]) U fun e g=>?_
 obtain ⟨V,W,T,AA,R,S⟩:=e
 try dsimp only
 refine aD (J _ _ (aP [3,4,5,6,7,8,9]) ?_)
 refine cj U fun T21 K=>kW 3 1<|kW 3 1<|w6<|qY 1 U ?_
 try dsimp only [List.eraseIdx]
 refine z7 U<|qY 1 U ?_
 try dsimp only [List.eraseIdx]
 refine z7 U ?_
 try dsimp only
 refine nT 0 rfl rfl rfl rfl (Ov l kA kC az cA cC bA bC r sgA sgC V W T AA R S l.ab.length ([]:List Int) none 0 ([]:List Int) none 0 hin (by exact A) (by exact B) sm (by rfl) (by exact ⟨Int.le_refl _,B.time.2.1⟩) (by intro x hx; cases hx)) rfl (dW 6 rfl rfl (dy (bR _)) (dW 7 rfl rfl (dy (bR _)) (dW 8 rfl rfl (dy (bR _)) (dW 9 rfl rfl (dy (bR _)) (dW 10 rfl rfl (dy (bR _)) (dW 1 rfl rfl (jg sm) (dW 2 rfl rfl (jg sm) (dW 3 rfl rfl (jg sm) qT)))))))) rfl (fun f M=>?_)
 obtain ⟨N,O,P⟩:=f
 try dsimp only
 refine aD (K _ _ (aP [4,5,6,7,8,9,10]) ?_)
 refine cj U fun T26 L=>qY 0 U ?_
 try dsimp only [List.eraseIdx]
 refine yF ?_
 dsimp only at M
 refine rS (AG U)<|aD (L _ _ (aP [5,6,7,8,9,10,11]) ?_)
 refine fH U<|KK E<|aj fun _ F=>WS fun _ G=>rP 3 [] I ?_
 refine RK G<|bQ U (aT fun C=>?_) (aU fun C=>?_)
 ·refine WK F<|WS fun _ AB=>rP 3 [] I ?_
  refine RK AB<|ak ?_
  refine LX hQ (true,0,N,O,P) [0,1] [] I U (by (show List.all _ _=true; simp only [cond_true,fy,List.all_nil,HF,Bool.and_true]; rfl)) U U ?_
  exact ⟨fun _=>⟨kP A B U fun q=>C (by rw [show ik l r l.ab.length [] []=[] from (fD A B).2 q]; rfl),M⟩,PJ⟩
 refine WS fun _ H=>rP 2 [] I ?_
 refine RK H<|ak<|LX hQ (false,8,none,0,[]) [] [] I U (by rfl) U U ?_
 exact vy<|nD (gQ (me:=0) A B U ((fD A B).1 (hE (Int.natCast_eq_zero.1 C))))
theorem FP (ws:List dh) (wz:List kp) (wA:OA) (wC b:Nat) (hws:KN ws) (hwz:wz.length=ws.length) (hb:b≤6):
 dx Tryz.prog 156 [(vS wA ws.length wC),(vI (b:Int))] [(rd wA ws.length 3 (List.zipWith dh.cells ws wz)),(dL (br dh.gn ws wz))] (vT [(vA (ag.cells (ph ws b))),(vI (po ws b))]):=by
 have u:=hws.num
 refine bB kr Tryz.func156 U U fun x Q hQ hN=>?_
 try dsimp only
 refine WS fun _ g=>AL U dN fun w=>bE 1 U<|RK g<|WS fun _ h=>AL U dN fun t=>RK h<|WS fun _ j=>bE 1 U<|RK j<|aj fun _ k=>WS fun _ l=>rP 1 [] I ?_
 refine RK l<|aB ?_
 have D:(0≤ws.length)∧(ny b (ws.take 0) false (ag.mk 0 0)):=by exact ⟨Nat.zero_le _,Gp⟩
 refine bT (ι:={z:Nat×Bool×ag // (z.1≤ws.length)∧(ny b (ws.take z.1) z.2.1 z.2.2)}) [0,1,4,5,6] [1,2,3] U U (fun z=>[(7,(vB z.1.2.1)),(8,(vI (z.1.1:Int)))]) (fun z=>[(cm t 53 (ag.cells z.1.2.2))]) (fun _=>rfl) (fun _=>rfl) (fun z=>ws.length-z.1.1) ⟨(0,false,(ag.mk 0 0)),D⟩ (bx U) (aP [1,2,3,0]) ?_
 clear D
 rintro ⟨⟨i,fd,o⟩,⟨J,A⟩⟩ J8 H
 try dsimp only at J A
 try dsimp only
 refine aj fun _ m=>WS fun _ L=>rP 4 [] I ?_
 refine RK L<|bQ U (aT fun c=>?_) (aU fun c=>?_)
 ·refine bL<|ai<|ai<|aG<|KK k<|aj fun _ R=>WS fun _ S=>rP 2 [] I ?_
  refine RK S<|bQ U (fun B=>?_) (fun B=>?_)
  ·rw [Bool.not_eq_false'] at B
   refine WK R<|WS fun _ AA=>eN 1 [] (mc 3 U I) U<|fu U cS U<|rP 1 [] I ?_
   refine RK AA<|ak<|my hQ [0] (mc 0 U I) U ?_
   have AB:=yh (by have q:=A; rwa [List.take_of_length_le om] at q) hws.EF
   (have q:=AB.2 B; rw [q.1,q.2]; done)
  rw [Bool.not_eq_true'] at B
  refine WS fun _ T=>rS (SX (a_ (xs:=[]) (cs:=(ag.cells (ag.mk 0 0))) U U (bf gM U)) U U)<|fu U cS U<|rP 1 [] I ?_
  refine RK T<|ak<|my hQ [0] (mc 0 U I) U ?_
  have AB:=yh (by have q:=A; rwa [List.take_of_length_le om] at q) hws.EF
  (have q:=AB.1 B; rw [q.1,q.2]; done)
 refine WK m<|aj fun _ C=>aB<|aj fun _ M=>WS fun _ N=>rP 2 [] I ?_
 obtain ⟨y,hy⟩:=aJ ws i om
 obtain ⟨ya,E⟩:=aJ wz i om
 have K:(List.zipWith dh.cells ws wz)[i]? =some (dh.cells y ya):=dC hy E
 refine rS (IA i U (aA 1 U) Ei dc om om)<|rS (qc (i*3) U (aA 1 U) (Nat.mul_pos om dc) fE U)<|rS (hG i 0 (vS ya.1.1 y.gu.length ya.1.2) U cb (aA 1 U) K U dc U)<|rP 3 [] I ?_
 refine RK N<|cu U (aU fun d=>?_) (aT fun d=>?_)
 ·refine bL<|ai<|aG<|KK C<|aq<|rP 3 [] I ?_
  refine aD ?_
  have X:(vI (((i+1):Nat):Int))=(vI ((i:Int)+1)):=by exact cI om
  refine a7 (H ⟨((i+1),fd,o),⟨om,by dsimp only; rw [lB hy]; exact C6 A om⟩⟩ _ _ _ U os (cw 6<|aX U X<|df.nil _) (aP [0,1,2,3]))
 refine WK M<|aj fun _ O=>dH cp [17,18] [] [] [0,1,2,3] [] U U U U U ?_
 have v:=hws.lens y (aR hy)
 obtain ⟨s,hs⟩: ∃ s,y.gu[b]? =some s:=⟨y.gu[b]'om,e_ _⟩
 refine eS U (MV U)<|eS U (MV U)<|eS U (IA i U (aA 1 U) Ei dc om om)<|eS U (qc ((i*3)+1) U (aA 1 U) (Nat.mul_pos om dc) fE U)<|eS U (hG i 1 (vS ya.2.1.1 y.iO.length ya.2.1.2) U cb (aA 1 U) K U dc U)<|eS U (MV U) ?_
 obtain ⟨f,hf⟩:=aJ y.iO b om
 have p:=bK iC hf
 refine eS U (IA b U (show iN _ (rd ya.2.1.1 y.iO.length 1 (y.iO.map iC)).holds from (cR 2 U (bM hy E (by simp [dh.gn])))) dp dc om om)<|eS U (hG b 0 (vI f) U cb (show iN _ (rd ya.2.1.1 y.iO.length 1 (y.iO.map iC)).holds from (cR 2 U (bM hy E (by simp [dh.gn])))) p U dc U)<|eS U (MV U)<|eS U (MV U)<|eS U (IA i U (aA 1 U) Ei dc om om)<|eS U (qc ((i*3)+2) U (aA 1 U) (Nat.mul_pos om dc) fE U)<|eS U (hG i 2 (vS ya.2.2.1 y.lP.length ya.2.2.2) U cb (aA 1 U) K U dc U)<|eS U (MV U) ?_
 obtain ⟨e,he⟩:=aJ y.lP b om
 have n:=bK iC he
 refine eS U (IA b U (show iN _ (rd ya.2.2.1 y.lP.length 1 (y.lP.map iC)).holds from (cR 2 U (bM hy E (by simp [dh.gn])))) dp dc om om)<|eS U (hG b 0 (vI e) U cb (show iN _ (rd ya.2.2.1 y.lP.length 1 (y.lP.map iC)).holds from (cR 2 U (bM hy E (by simp [dh.gn])))) n U dc U)<|eS U (SX (a_ (xs:=[(0,.tmp 31),(1,.tmp 39)]) (cs:=(ag.cells (ag.mk f e))) U U (bf gM U)) U U)<|ep U<|cj U fun T17 V=>AL U dN fun r=>aD (V _ _ (aP [1,2,3,4]) ?_)
 refine cj U fun T19 W=>fu U cS U<|aD (W _ _ (aP [1,2,3,4]) ?_)
 refine fH U<|KK O<|aj fun _ F=>WS fun _ P=>?_
 have a:=hws.le y (aR hy) b f e om hf he
 refine rP 1 [] I ?_
 refine RK P<|bQ U (fun G=>?_) (fun G=>?_)
 ·refine WK F<|aq<|eN 1 [] (mc 0 U I) U<|QV U cS U<|bE 1 U<|aD<|aL<|KK C<|aq<|rP 3 [] I ?_
  refine aD ?_
  have Z:(vI (((i+1):Nat):Int))=(vI ((i:Int)+1)):=by exact cI om
  refine a7 (H ⟨((i+1),true,(ag.mk f e)),⟨om,by dsimp only; rw [lB hy]; exact AU A G hs hf he a⟩⟩ _ _ _ U os (cw 6<|aX U Z<|df.nil _) (aP [1,2,3,4]))
 refine aq<|eN 4 [0,1] (mc 0 U (mc 4 U I)) U<|rS (MN U)<|eN 4 [0,1] (mc 0 U (mc 4 U I)) U<|rS (MX U)<|rS (SX (a_ (xs:=[(0,.tmp 46),(1,.tmp 51)]) (cs:=(ag.cells (ag.mk (min f o.Lo) (max e o.Hi)))) U U (bf gM U)) U U)<|fu U cS U<|RK F<|aq<|eN 1 [] (mc 0 U I) U<|QV U cS U<|bE 1 U<|aD<|aL<|KK C<|aq<|rP 3 [] I ?_
 refine aD ?_
 have Y:(vI (((i+1):Nat):Int))=(vI ((i:Int)+1)):=by exact cI om
 refine a7 (H ⟨((i+1),true,(ag.mk (min f o.Lo) (max e o.Hi))),⟨om,by dsimp only; rw [lB hy]; exact Dn A G hs hf he a⟩⟩ _ _ _ U os (cw 6<|aX U Y<|df.nil _) (aP [1,2,3,4]))
end
section
open Go.RowKit
theorem O3 (l:bg) (kA:OA) (kC:Nat) (az:List RA) (cA:OA) (cC:Nat) (bA:OA) (bC:Nat) (r:cx) (sgA:OA) (sgC:Nat) (hin:eo l az) (hsl:r.aa.length≤1000000):
 dx Tryz.prog 143 [(vA (cV.cells (cV.mk (bZ.mk (bH.mk kA l.aV.length kC)) l.ku (bH.mk cA l.ar.length cC) (bH.mk bA l.ab.length bC) l.cD l.iI l.eP))),(vA (cN.cells (jf r sgA sgC)))] [(rd kA l.aV.length 9 (l.aV.map ao.cells)),(rd cA l.ar.length 2 (List.zipWith ay.cells l.ar az)),(dL (br ay.gn l.ar az)),(rd bA l.ab.length 4 (l.ab.map bI.cells)),(rd sgA r.aa.length 2 (r.aa.map aF.cells))] (vT [(vA (ag.cells (zd l r))),(vI (dI l r l.cD))]):=by
 have q:=hin.sH
 have j:=hin.sI
 have h:=hin.ot
 have i:=hin.sL
 refine bB kr Tryz.func143 U U fun y Q hQ hN=>?_
 try dsimp only
 refine WS fun _ Z=>er U fun v=>er U fun w=>AL U dN fun x=>bE 1 U<|RK Z<|WS fun _ P=>rP 2 [0,1] (mc 2 U (mc 1 U I)) ?_
 refine cX (KQ l kA kC az cA cC bA bC r sgA sgC hin hsl) (bq [3,4,5,6,7]) U fun u V=>?_
 obtain ⟨W,g,e,Y,X⟩:=u
 cases W
 ·obtain ⟨R,he⟩:=V.2 rfl
  try dsimp only at R he
  subst R
  try dsimp only [cond_true,cond_false,List.cons_append,List.nil_append]
  refine bE 5 U<|RK P<|aj fun _ d=>WS fun _ G=>rP 2 [] I ?_
  refine RK G<|bQ U (bo fun F=>?_) (bp fun F=>?_)
  ·exact absurd F he
  refine WS fun _ H=>rS (SX (a_ (xs:=[]) (cs:=(ag.cells (ag.mk 0 0))) U U (bf gM U)) U U)<|bE 1 U<|fu U cS U<|rP 1 [] I ?_
  refine RK H<|ak<|my hQ [0] (mc 0 U I) U ?_
  (rw [DV (fun z=>he ((vi he).symm.trans z)),vi he]<;>rfl)
 obtain ⟨he,C⟩:=V.1 rfl
 try dsimp only [cond_true,cond_false,List.cons_append,List.nil_append]
 try dsimp only at he C
 obtain ⟨T,E,_,k⟩:=iw he
 obtain ⟨s,c⟩:=dK T
 have a:=c.head
 unfold eL at a
 have AA:=Om T E
 have t:=AA.num
 have o:=E.len
 have p:=E.time
 refine bE 5 U<|RK P<|aj fun _ AB=>WS fun _ J=>rP 1 [] I ?_
 refine rS (SX (fV (r:= .bool false) U U U pT) U U)<|RK J<|cg U<|WK AB<|aj fun _ K=>?_
 obtain ⟨b,S⟩: ∃ b:Nat,l.cD=(b:Int):=⟨l.cD.toNat,om⟩
 have A:=IE he (b:=b) om
 rw [← S] at A
 rw [S]
 refine aq<|eN 3 [] (mc 4 U I) U<|rS (CL (FP (qd l r) X e Y b (by exact AA) (by exact C) om) (aK (aN (n:=(qd l r).length) 0 U (sW C))<|aK (fM 1 U Mr)<|aM) U)<|bE 3 U<|AL U dN fun f=>fu U cS U<|bE 1 U<|RK K<|aj fun _ L=>WS fun _ M=>rP 2 [] I ?_
 refine RK M<|cu U (bp fun B=>?_) (bo fun B=>?_)
 ·refine WS fun _ N=>rS (SX (a_ (xs:=[]) (cs:=(ag.cells (ag.mk 0 0))) U U (bf gM U)) U U)<|bE 1 U<|Sx U cS U<|rP 1 [] I ?_
  refine RK N<|ak<|my hQ [0] (mc 3 U I) U ?_
  (rw [DV (fun z=>B (A.1.trans z)),← A.1]<;>rfl)
 refine WK L<|aj fun _ O=>?_
 have D:dI l r l.cD=0:=A.1.symm.trans B
 have m:=tg D
 rw [A.2]
 refine aq<|eN 10 [0,1,0,1] (mc 0 U (mc 4 U I)) U<|rS (SX (a_ (xs:=[(0,.tmp 34),(1,.tmp 39)]) (cs:=(ag.cells (ag.mk (((dD l r l.cD).Lo)-r.Start) (((dD l r l.cD).Hi)-r.Start)))) U U (bf gM U)) U U)<|Sx U cS U<|rP 1 [] I ?_
 refine RK O<|ak<|my hQ [0] (mc 3 U I) U ?_
 (rw [zD D,D])
end
section
open Go.RowKit
theorem Ct (l:bg) (kA:OA) (kC:Nat) (az:List RA) (cA:OA) (cC:Nat) (bA:OA) (bC:Nat) (d:aw) (sgA:OA) (sgC:Nat) (hin:eo l az) (hle:dw l=0) (hsl:d.bw.aa.length≤1000000) (hk:d.Out=true):
 dx Tryz.prog 123 [(vA (cV.cells (jN l kA kC cA cC bA bC))),(vA (aO.cells (aO.mk d.Out d.c_ d.Time (jf d.bw sgA sgC))))] [(rd kA l.aV.length 9 (l.aV.map ao.cells)),(rd cA l.ar.length 2 (List.zipWith ay.cells l.ar az)),(dL (br ay.gn l.ar az)),(rd bA l.ab.length 4 (l.ab.map bI.cells)),(rd sgA d.bw.aa.length 2 (d.bw.aa.map aF.cells))] (vT [(vA (ag.cells (oF l d))),(vB (decide (iM l d)))]):=by
 have K:=hin.sH
 have J:=hin.sI
 have H:=hin.ot
 have AA:=hin.sL
 refine bB kr Tryz.func123 U U fun O Q hQ hN=>?_
 try dsimp only
 refine WS fun _ B=>er U fun L=>er U fun M=>AL U dN fun N=>bE 1 U<|RK B<|aj fun _ E=>aB<|WS fun _ C=>rP 3 [] (mc 1 U I) ?_
 refine RK C<|bQ U (fun G=>?_) (fun G=>?_)
 ·exact absurd ((hk).symm.trans G) dc
 refine WS fun _ A=>rS (SX (a_ (xs:=[]) (cs:=(ag.cells (ag.mk 0 0))) U U (bf gM U)) U U)<|rP 4 [] (mc 1 U I) ?_
 refine ck (t:=15) U (fun D=>?_) (fun D=>?_)
 ·rw [Bool.not_eq_false'] at D
  refine bE 10 U<|fu U cS U<|rP 1 [] I ?_
  refine RK A<|ak<|my hQ [0] (mc 0 U I) U ?_
  clear hQ hN A C E B
  rw [zL hk]
  simp only [qS hk]
  refine congrArg (fun z=>Value.tuple #[_,vB z]) ?_
  first|rfl|(simp_all [gF]; done)
 rw [Bool.not_eq_true'] at D
 refine bE 1 U<|rS (LP (ag.cells d.Time) 1 U cb U U U)<|rS (SX (a_ (xs:=[]) (cs:=(ag.cells (ag.mk 0 0))) U U (bf gM U)) U U)<|rS (BI U (xy _ _ d.Time (ag.mk 0 0)))<|rP 2 [] I ?_
 refine ck (t:=21) U (aT fun F=>?_) (aU fun F=>?_)
 ·refine bE 4 U<|fu U cS U<|rP 1 [] I ?_
  refine RK A<|ak<|my hQ [0] (mc 0 U I) U ?_
  clear hQ hN A C E B
  rw [zL hk]
  simp only [qS hk]
  refine congrArg (fun z=>Value.tuple #[_,vB z]) ?_
  first|rfl|(simp_all [gF]; done)
 refine bE 1 U<|rS (LP (cN.cells (jf d.bw sgA sgC)) 1 U cb U U U)<|rS (CL (Et d.bw sgA sgC) (bq [7]) U)<|bE 1 U<|fu U cS U<|rP 1 [] I ?_
 refine RK A<|ak<|my hQ [0] (mc 0 U I) U ?_
 clear hQ hN A C E B
 rw [zL hk]
 simp only [qS hk]
 refine congrArg (fun z=>Value.tuple #[_,vB z]) ?_
 first|rfl|(simp_all [gF]; done)
theorem Cm (l:bg) (kA:OA) (kC:Nat) (az:List RA) (cA:OA) (cC:Nat) (bA:OA) (bC:Nat) (d:aw) (sgA:OA) (sgC:Nat) (hin:eo l az) (hle:dw l=0) (hsl:d.bw.aa.length≤1000000) (hk:d.Out=false∧d.c_=true):
 dx Tryz.prog 123 [(vA (cV.cells (jN l kA kC cA cC bA bC))),(vA (aO.cells (aO.mk d.Out d.c_ d.Time (jf d.bw sgA sgC))))] [(rd kA l.aV.length 9 (l.aV.map ao.cells)),(rd cA l.ar.length 2 (List.zipWith ay.cells l.ar az)),(dL (br ay.gn l.ar az)),(rd bA l.ab.length 4 (l.ab.map bI.cells)),(rd sgA d.bw.aa.length 2 (d.bw.aa.map aF.cells))] (vT [(vA (ag.cells (oF l d))),(vB (decide (iM l d)))]):=by
 have N:=hin.sH
 have M:=hin.sI
 have K:=hin.ot
 have L:=hin.sL
 refine bB kr Tryz.func123 U U fun S Q hQ hN=>?_
 try dsimp only
 refine WS fun _ D=>er U fun O=>er U fun P=>AL U dN fun R=>bE 1 U<|RK D<|aj fun _ H=>aB<|WS fun _ E=>rP 3 [] (mc 1 U I) ?_
 refine RK E<|cu U (fun J=>?_) (fun J=>?_)
 ·exact absurd ((hk.1).symm.trans J) dc
 refine WS fun _ F=>rP 3 [] (mc 1 U I) ?_
 refine RK F<|bQ U (fun G=>?_) (fun G=>?_)
 ·exact absurd ((hk.2).symm.trans G) dc
 refine aj fun _ B=>dH cp [10] [] [] [1,2,3,4,5,6,7] [] U U U U U<|eS U (FA 2 U fE U)<|eS U (LP (ag.cells d.Time) 0 U cb U U U)<|eS U (FA 2 U fE U)<|eS U (LP (ag.cells d.Time) 0 U cb U U U)<|eS U (CL (Mk d.Time) (aM) U)<|eS U (MV U)<|rn (t:=34) U (fun A=>?_) (fun A=>?_)
 rotate_left 1
 ·replace A:=DF A
  refine eS U (OX U)<|eS U (OX U)<|eS U (OX U)<|eS U (PK U)<|eS U (AG U)<|ep U<|cj U fun T10 C=>fu U cS U<|aD (C _ _ (aP [1,2,3,4,5,6,7]) ?_)
  refine fH U<|KK B<|ak<|my hQ [0] (mc 0 U I) U ?_
  clear hQ hN C T10 B F E H D
  rw [Ef hk]
  simp only [tG hk]
  refine congrArg (fun z=>Value.tuple #[_,vB z]) ?_
  first|rfl|(simp_all; done)
 replace A:=DT A
 refine eS U (FA 4 U fE U)<|eS U (LP (cN.cells (jf d.bw sgA sgC)) 0 U cb U U U)<|eS U (CL (Et d.bw sgA sgC) (bq [6]) U)<|eS U (PK U)<|eS U (AG U)<|ep U<|cj U fun T9 AA=>fu U cS U<|aD (AA _ _ (aP [1,2,3,4,5,6,7]) ?_)
 refine fH U<|KK B<|ak<|my hQ [0] (mc 0 U I) U ?_
 clear hQ hN AA T9 B F E H D
 rw [Ef hk]
 simp only [tG hk]
 refine congrArg (fun z=>Value.tuple #[_,vB z]) ?_
 first|rfl|(simp_all; done)
theorem CT (l:bg) (kA:OA) (kC:Nat) (az:List RA) (cA:OA) (cC:Nat) (bA:OA) (bC:Nat) (d:aw) (sgA:OA) (sgC:Nat) (hin:eo l az) (hle:dw l=0) (hsl:d.bw.aa.length≤1000000) (hk:d.Out=false∧d.c_=false):
 dx Tryz.prog 123 [(vA (cV.cells (jN l kA kC cA cC bA bC))),(vA (aO.cells (aO.mk d.Out d.c_ d.Time (jf d.bw sgA sgC))))] [(rd kA l.aV.length 9 (l.aV.map ao.cells)),(rd cA l.ar.length 2 (List.zipWith ay.cells l.ar az)),(dL (br ay.gn l.ar az)),(rd bA l.ab.length 4 (l.ab.map bI.cells)),(rd sgA d.bw.aa.length 2 (d.bw.aa.map aF.cells))] (vT [(vA (ag.cells (oF l d))),(vB (decide (iM l d)))]):=by
 have O:=hin.sH
 have N:=hin.sI
 have L:=hin.ot
 have M:=hin.sL
 refine bB kr Tryz.func123 U U fun AA Q hQ hN=>?_
 try dsimp only
 refine WS fun _ E=>er U fun P=>er U fun R=>AL U dN fun S=>bE 1 U<|RK E<|aj fun _ F=>aB<|WS fun _ G=>rP 3 [] (mc 1 U I) ?_
 refine RK G<|cu U (fun K=>?_) (fun K=>?_)
 ·exact absurd ((hk.1).symm.trans K) dc
 refine WS fun _ H=>rP 3 [] (mc 1 U I) ?_
 refine RK H<|cu U (fun J=>?_) (fun J=>?_)
 ·exact absurd ((hk.2).symm.trans J) dc
 refine cf<|aL<|KK F<|WS fun _ AB=>eN 2 [] (mc 2 U I) U<|rS (LP (cN.cells (jf d.bw sgA sgC)) 1 U cb U U U)<|rS (CL (O3 l kA kC az cA cC bA bC d.bw sgA sgC hin hsl) (bq [3,4,5,6,7]) U)<|bE 3 U<|AL U dN fun T=>fu U cS U<|rP 1 [] I ?_
 refine RK AB<|aj fun _ A=>dH cp [9] [] [] [0,2,3,4,5,6,7,8] [] U U U U U<|eS U (LW 0 U cb U U)<|eS U (MV U)<|eS U (BI U mF)<|eS U (MV U)<|rn (t:=49) U (fun B=>?_) (fun B=>?_)
 rotate_left 1
 ·replace B:=DF B
  refine eS U (OX U)<|eS U (OX U)<|eS U (OX U)<|eS U (OX U)<|eS U (PK U)<|eS U (AG U)<|ep U<|cj U fun T12 D=>rL U cS U<|aD (D _ _ (aP [0,2,3,4,5,6,7,8]) ?_)
  refine fH U<|KK A<|ak<|my hQ [0] (mc 1 U I) U ?_
  clear hQ hN D T12 A AB H G F E
  rw [E1 hk]
  simp only [sV hk]
  refine congrArg (fun z=>Value.tuple #[_,vB z]) ?_
  first|rfl|(simp_all [gF]; done)
 replace B:=DT B
 refine eS U (FA 2 U fE U)<|eS U (LP (ag.cells d.Time) 1 U cb U U U)<|eS U (SX (a_ (xs:=[]) (cs:=(ag.cells (ag.mk 0 0))) U U (bf gM U)) U U)<|eS U (BI U (xy _ _ d.Time (ag.mk 0 0)))<|eS U (PK U)<|eS U (AG U)<|ep U<|cj U fun T11 C=>rL U cS U<|aD (C _ _ (aP [0,2,3,4,5,6,7,8]) ?_)
 refine fH U<|KK A<|ak<|my hQ [0] (mc 1 U I) U ?_
 clear hQ hN C T11 A AB H G F E
 rw [E1 hk]
 simp only [sV hk]
 refine congrArg (fun z=>Value.tuple #[_,vB z]) ?_
 first|rfl|(simp_all [gF]; done)
theorem Gh (l:bg) (kA:OA) (kC:Nat) (az:List RA) (cA:OA) (cC:Nat) (bA:OA) (bC:Nat) (d:aw) (sgA:OA) (sgC:Nat) (hin:eo l az) (hle:dw l=0) (hsl:d.bw.aa.length≤1000000):
 dx Tryz.prog 123 [(vA (cV.cells (jN l kA kC cA cC bA bC))),(vA (aO.cells (aO.mk d.Out d.c_ d.Time (jf d.bw sgA sgC))))] [(rd kA l.aV.length 9 (l.aV.map ao.cells)),(rd cA l.ar.length 2 (List.zipWith ay.cells l.ar az)),(dL (br ay.gn l.ar az)),(rd bA l.ab.length 4 (l.ab.map bI.cells)),(rd sgA d.bw.aa.length 2 (d.bw.aa.map aF.cells))] (vT [(vA (ag.cells (oF l d))),(vB (decide (iM l d)))]):=by
 by_cases ho:d.Out=true
 ·exact Ct l kA kC az cA cC bA bC d sgA sgC hin hle hsl ho
 by_cases hf:d.c_=true
 ·exact Cm l kA kC az cA cC bA bC d sgA sgC hin hle hsl ⟨by simpa using ho,hf⟩
 ·exact CT l kA kC az cA cC bA bC d sgA sgC hin hle hsl ⟨by simpa using ho,by simpa using hf⟩
end
section
open Go.RowKit
theorem CM (r:eV) (kA:OA) (kC:Nat) (az:List RA) (cA:OA) (cC:Nat) (bA:OA) (bC:Nat) (slA:OA) (slC:Nat) (drA:OA) (drC:Nat) (ha:List dG) (heA:OA) (heC:Nat) (hin:ov r az ha) (hle:dw r.au=0):
 q6 Tryz.prog 102 [(vA (ig.cells (zM r kA kC cA cC bA bC slA slC drA drC heA heC)))] [(rd kA r.au.aV.length 9 (r.au.aV.map ao.cells)),(rd cA r.au.ar.length 2 (List.zipWith ay.cells r.au.ar az)),(dL (br ay.gn r.au.ar az)),(rd bA r.au.ab.length 4 (r.au.ab.map bI.cells)),(rd slA r.bj.length 1 (r.bj.map iC)),(rd drA r.cq.length 1 (r.cq.map iC)),(rd heA r.aH.length 1 (List.zipWith de r.aH ha)),(dL (br eY r.aH ha))] (fun (x:Bool×Int×(OA)×Nat×(List RA))=>bif x.1 then (vT [(vS x.2.2.1 ((fB r).length) x.2.2.2.1),(vB true)]) else (vT [(vS none 0 0),(vB false)])) (fun (x:Bool×Int×(OA)×Nat×(List RA))=>(x.1=true→(fj r∧x.2.2.2.2.length=r.aH.length))∧(x.1=false→(x.2.1=0∧ ¬ fj r))) (fun (x:Bool×Int×(OA)×Nat×(List RA))=>bif x.1 then [(own x.2.2.1 x.2.2.2.1 204 1 (List.zipWith K_ (fB r) x.2.2.2.2)),(bX (br D4 (fB r) x.2.2.2.2))] else []):=by
 have NE:=hin.line
 have Or:=hin.iX
 have Os:=hin.has
 have N_:=hin.iW
 have Ne:=hin.draw
 have OR:=kH (r:=r)
 refine fR kr Tryz.func102 U U fun w0 Q hQ hN=>?_
 try dsimp only
 refine WS fun _ LT=>er U fun b2=>bE 2 U<|RK LT<|WS fun _ La=>eN 4 [] (mc 0 U I) U<|RK La<|aj fun _ Li=>WS fun _ N=>bE 1 U<|rS (CL (o6 (r.bj.length:Int) 1 5) (aM) U)<|rP 2 [] I ?_
 refine bU (t:=19) U (bp fun KW=>?_) (bo fun KW=>?_)
 ·refine bE 19 U<|RK N<|aQ U<|WS fun _ Lk=>rP 2 [] I ?_
  refine RK Lk<|ak<|LX hQ (false,0,none,0,[]) [] [] I U (by rfl) U U ?_
  (exact ⟨xU,fun _=>⟨rfl,fun q=>by have S:=q.num; have q2:=q.z3; have q3:=q.nh; have q4:=q.zi; omega⟩⟩)
 refine rP 7 [] (mc 0 U I) ?_
 refine bU (t:=26) U (bp fun X=>?_) (bo fun X=>?_)
 ·refine bE 12 U<|RK N<|aQ U<|WS fun _ Lo=>rP 2 [] I ?_
  refine RK Lo<|ak<|LX hQ (false,0,none,0,[]) [] [] I U (by rfl) U U ?_
  (exact ⟨xU,fun _=>⟨rfl,fun q=>by have S:=q.num; have q2:=q.z3; have q3:=q.nh; have q4:=q.zi; omega⟩⟩)
 refine eN 2 [] (mc 0 U I) U<|rS (CL (o6 r.qe 0 5) (aM) U)<|rP 3 [] I ?_
 refine bU (t:=32) U (bp fun Kf=>?_) (bo fun Kf=>?_)
 ·refine bE 6 U<|RK N<|aQ U<|WS fun _ L0=>rP 2 [] I ?_
  refine RK L0<|ak<|LX hQ (false,0,none,0,[]) [] [] I U (by rfl) U U ?_
  (exact ⟨xU,fun _=>⟨rfl,fun q=>by have S:=q.num; have q2:=q.z3; have q3:=q.nh; have q4:=q.zi; omega⟩⟩)
 refine eN 3 [] (mc 0 U I) U<|rS (CL (o6 (r.aH.length:Int) 1 3) (aM) U)<|rP 2 [] I ?_
 refine RK N<|cu U (bp fun K0=>?_) (bo fun K0=>?_)
 ·refine WS fun _ L2=>rP 2 [] I ?_
  refine RK L2<|ak<|LX hQ (false,0,none,0,[]) [] [] I U (by rfl) U U ?_
  (exact ⟨xU,fun _=>⟨rfl,fun q=>by have S:=q.num; have q2:=q.z3; have q3:=q.nh; have q4:=q.zi; omega⟩⟩)
 refine WK Li<|aj fun _ o=>WS fun _ p=>rP 1 [] I ?_
 refine RK p<|aB ?_
 have A:(0≤r.bj.length)∧(wX r 0):=by exact ⟨Nat.zero_le _,Ia⟩
 refine bT (ι:={z:Nat // (z≤r.bj.length)∧(wX r z)}) [1,4] [0,1,2,3,4,5,6,7,8] U U (fun z=>[(5,(vI (z.1:Int)))]) (fun z=>[]) (fun _=>rfl) (fun _=>rfl) (fun z=>r.bj.length-z.1) ⟨0,A⟩ (bx U) (aP [0,1,2,3,4,5,6,7,8]) ?_
 clear A
 rintro ⟨i,⟨M2,AB⟩⟩ J12 T
 try dsimp only
 refine aj fun _ s=>WS fun _ v=>rP 3 [] I ?_
 refine RK v<|bQ U (aT fun J9=>?_) (aU fun J9=>?_)
 ·refine bL<|ai<|ai<|aG<|KK o<|WS fun _ CF=>bE 1 U<|RK CF<|aj fun _ Cf=>WS fun _ Ci=>rP 1 [] I ?_
  refine RK Ci<|aB<|ew 204 1<|qE ?_
  have A:(0≤r.aH.length)∧(([]:List RA).length=0)∧(j7 r 0):=by exact ⟨Nat.zero_le _,rfl,vZ⟩
  refine bT (ι:={z:Nat×(List RA)×(OA)×Nat // (z.1≤r.aH.length)∧(z.2.1.length=z.1)∧(j7 r z.1)}) [1,4] [2,3,4,5,6,7,8,9,10] U U (fun z=>[(7,(vS z.1.2.2.1 ((List.zipWith Ay (gH r z.1.1) z.1.2.1).length) z.1.2.2.2)),(8,(vI (z.1.1:Int)))]) (fun z=>[(bX (br D4 (gH r z.1.1) z.1.2.1)),(own z.1.2.2.1 z.1.2.2.2 204 1 (List.map sC (List.zipWith Ay (gH r z.1.1) z.1.2.1)))]) (fun _=>rfl) (fun _=>rfl) (fun z=>r.aH.length-z.1.1) ⟨(0,([]:List RA),none,0),A⟩ (bx U) (aP [2,3,4,5,6,7,8,9,10,0,1]) ?_
  clear A
  rintro ⟨⟨h,tz,a,c⟩,⟨P,C,F⟩⟩ J46 l
  try dsimp only at P C F
  try dsimp only
  refine aj fun _ Ck=>WS fun _ Cp=>rP 5 [] (mc 0 U I) ?_
  refine RK Cp<|bQ U (aT fun K4=>?_) (aU fun K4=>?_)
  ·refine bL<|ai<|ai<|aG<|KK Cf<|aj fun _ GT=>?_
   have Ma:gH r h=fB r:=by unfold fB; rw [show h=r.aH.length by omega]
   have NN:tz.length=r.aH.length:=by omega
   rw [Ma,yE,show (List.zipWith Ay (fB r) tz).length=(fB r).length from by rw [List.length_zipWith]; omega]
   have Ja:fj r:=Fc (n:=i) om om om om om AB F om
   refine aq<|rP 3 [] I ?_
   refine RK GT<|ak ?_
   refine LX hQ (true,0,a,c,tz) [10,9] [] I U (by (show List.all _ _=true; simp only [cond_true,fy,List.all_nil,DR,Bool.and_true]; rfl)) U U ?_
   exact ⟨fun _=>⟨Ja,NN⟩,PJ⟩
  refine WK Ck<|aj fun _ Cx=>aB<|aj fun _ C0=>WS fun _ C1=>rP 3 [] (mc 0 U I) ?_
  obtain ⟨ht,D⟩:=aJ r.aH h om
  obtain ⟨E,H⟩:=aJ ha h om
  have W:(List.zipWith de r.aH ha)[h]? =some (de ht E):=dC D H
  refine rS (IA h U (aA 7 U) rK dc om om) ?_
  have In:=hin.gj _ _ _ D H
  have Nn:=In.ot
  refine rS (hG h 0 (vS E.1.1 ht.length E.1.2) U cb (aA 7 U) W U dc U)<|rP 3 [] I ?_
  refine RK C1<|cu U (bp fun e=>?_) (bo fun e=>?_)
  ·refine WS fun _ C2=>rP 2 [] I ?_
   refine RK C2<|ak<|LX hQ (false,0,none,0,[]) [] [] I U (by rfl) U U ?_
   (exact ⟨xU,fun _=>⟨rfl,fun q=>by have S:=(q.gj ht (aR D)).1; omega⟩⟩)
  refine WK C0<|WS fun _ C3=>bE 1 U<|RK C3<|aj fun _ Di=>WS fun _ Do=>rP 1 [] I ?_
  refine RK Do<|aB<|ew 53 2 ?_
  have A:(0≤ht.length)∧(nR r.au ht 0):=by exact ⟨Nat.zero_le _,vq⟩
  refine bT (ι:={z:Nat×(OA)×Nat // (z.1≤ht.length)∧(nR r.au ht z.1)}) [1,4,7,8] [1,2,3,4,5,6,7,8,9,10,11] U U (fun z=>[(9,(vS z.1.2.1 (((ht.take z.1.1).map (fP r.au)).length) z.1.2.2)),(10,(vI (z.1.1:Int)))]) (fun z=>[(own z.1.2.1 z.1.2.2 53 2 (((ht.take z.1.1).map (fP r.au)).map ag.cells))]) (fun _=>rfl) (fun _=>rfl) (fun z=>ht.length-z.1.1) ⟨(0,none,0),A⟩ (bx U) (aP [1,2,3,4,5,6,7,8,9,10,11,0]) ?_
  clear A
  rintro ⟨⟨j,la,lc⟩,⟨R,G⟩⟩ J57 m
  try dsimp only at R G
  try dsimp only
  refine aj fun _ EF=>WS fun _ EQ=>rP 3 [] I ?_
  refine RK EQ<|bQ U (aT fun LA=>?_) (aU fun LA=>?_)
  ·refine bL<|ai<|ai<|aG<|KK Di<|aq ?_
   rw [show ((ht.take j).map (fP r.au))=ht.map (fP r.au) from by rw [List.take_of_length_le om]]
   refine rP 2 [] I ?_
   refine dZ (xs:=[.tmp 137]) (cs:=[(vS la ((ht.map (fP r.au)).length) lc)]) U Hv Nx U U U U (by simp [Value.cells]) U U fun Op=>?_
   refine fg (es2:=(List.map sC (List.zipWith Ay (gH r (h+1)) (tz++[(la,lc)])))) (m':=(List.zipWith Ay (gH r (h+1)) (tz++[(la,lc)])).length) 11 U U U MW U U sm (bk (es:=List.map sC [(bH.mk la ((ht.map (fP r.au)).length) lc)]) 0 U U (by simp [yA]) U) (Jf _) (by rw [List.length_zipWith,kJ om]; omega) (by rw [List.length_zipWith,kJ om]; simp only [maxLen]; omega) (by rw [tp D C,List.map_append]; rfl) (by rw [tp D C]; simp) U fun J6 J8=>?_
   try dsimp only
   refine bE 1 U<|aD<|aL<|KK Cx<|aq<|rP 3 [] I ?_
   refine aD<|yc (X':=br D4 (gH r (h+1)) (tz++[(la,lc)])) 10 12 U U (BT (a:=(la,lc)) D C) ?_
   have Id:(vI (((h+1):Nat):Int))=(vI ((h:Int)+1)):=by exact cI om
   refine a7 (l ⟨((h+1),(tz++[(la,lc)]),J6,J8),⟨om,by simp; omega,v8 F D (Ep om G om)⟩⟩ _ _ _ U os (cw 3<|aX U Id<|df.nil _) (aP [2,3,4,5,6,7,8,9,10,0,11]))
  refine WK EF<|aj fun _ Eq=>aB<|aj fun _ FS=>dH cp [14,15] [] [] [0,1,2,3,4,5,6,7,8,9,10,11] [] U U U U U<|eS U (FA 0 U fE U)<|eS U (LP (cV.cells (jN r.au kA kC cA cC bA bC)) 0 U cb U U U)<|eS U (FA 10 U fE U)<|eS U (L1 (vS heA r.aH.length heC) 0 U cb U U)<|eS U (MV U)<|eS U (IA h U (aA 7 U) rK dc om om)<|eS U (hG h 0 (vS E.1.1 ht.length E.1.2) U cb (aA 7 U) W U dc U)<|eS U (MV U) ?_
  obtain ⟨d,hd⟩:=aJ ht j om
  obtain ⟨da,If⟩:=aJ E.2 j om
  have L3:(List.zipWith aw.cells ht E.2)[j]? =some (aw.cells d da):=dC hd If
  refine eS U (IA j U (show iN _ (rd E.1.1 ht.length 7 (List.zipWith aw.cells ht E.2)).holds from (cR 8 U (bM D H ct))) s8 dc om om)<|eS U (lh j 0 (aO.cells (aO.mk d.Out d.c_ d.Time (cN.mk d.bw.Start d.bw.fJ (bH.mk da.1 d.bw.aa.length da.2)))) U cb (show iN _ (rd E.1.1 ht.length 7 (List.zipWith aw.cells ht E.2)).holds from (cR 8 U (bM D H ct))) L3 U dc U U) ?_
  have PP:=In.sig d (aR hd)
  refine eS U (CL (Gh r.au kA kC az cA cC bA bC d da.1 da.2 asm hle asm) (ox [1,2,3,4]<|aK (show iN _ (rd da.1 d.bw.aa.length 2 (d.bw.aa.map aF.cells)).holds from (cR 8 U (bM D H (dJ _ (bM hd If (by simp [aw.gn]))))))<|aM) U)<|eS U (MV U)<|eS U (EX U)<|eS U (EX U)<|eS U (AG U)<|ep U<|cj U fun T63 Gl=>AL U dN fun Ob=>aD (Gl _ _ (aP [1,2,3,4,5,6,7,8,9,10,11,12]) ?_)
  refine cj U fun T65 Go=>fu U cS U<|aD (Go _ _ (aP [1,2,3,4,5,6,7,8,9,10,11,12]) ?_)
  refine fH U<|KK FS<|aj fun _ Fd=>WS fun _ Fn=>rP 2 [] I ?_
  refine RK Fn<|cu U (bp fun J=>?_) (bo fun J=>?_)
  ·refine WS fun _ GE=>rP 2 [] I ?_
   refine RK GE<|ak<|LX hQ (false,0,none,0,[]) [] [] I U (by rfl) U U ?_
   (exact ⟨xU,fun _=>⟨rfl,fun q=>by exact J ((q.gj ht (aR D)).2 d (aR hd))⟩⟩)
  refine WK Fd<|aq<|rP 2 [] (mc 0 U I) ?_
  refine dZ (xs:=[.tmp 133]) (cs:=(ag.cells (oF r.au d))) U kS dN U U U U (by simp [Value.cells,ag.aY]) U U fun Oo=>?_
  refine fg (es2:=(List.map ag.cells ((ht.take (j+1)).map (fP r.au)))) (m':=((ht.take (j+1)).map (fP r.au)).length) 13 U U U Ex U U sm (bk (es:=List.map ag.cells [(oF r.au d)]) 0 U U (by simp [ag.aY]) U) (ky _) (by simp only [List.length_map,List.length_take]; omega) (by simp only [maxLen,List.length_map,List.length_take]; omega) (by rw [List.take_add_one,hd]; simp [JA J]) sq U fun J5 J7=>?_
  try dsimp only
  refine bE 1 U<|aD<|aL<|KK Eq<|aq<|rP 3 [] I ?_
  refine aD ?_
  have IR:(vI (((j+1):Nat):Int))=(vI ((j:Int)+1)):=by exact cI om
  refine a7 (m ⟨((j+1),J5,J7),⟨om,vh G hd J⟩⟩ _ _ _ U os (cw 5<|aX U IR<|df.nil _) (aP [2,3,4,5,6,7,8,9,10,11,12,13]))
 refine WK s<|aj fun _ AA=>aB<|aj fun _ V=>aj fun _ K=>dg cp 36 kr<|dP 3 [] (mc 0 U I) ?_
 obtain ⟨y,hy⟩:=aJ r.bj i om
 have Jc:=bK iC hy
 refine dS (IA i U (aA 5 U) dp dc om om)<|dS (hG i 0 (vI y) U cb (aA 5 U) Jc U dc U)<|dS (CL (o6 y 0 9999) (aM) U)<|dP 2 [] I ?_
 refine gY (t:=51) U (bp fun K5=>?_) (bo fun K5=>?_)
 ·refine kI 28 U<|cE<|RK K<|aQ U<|WS fun _ w=>rP 2 [] I ?_
  refine RK w<|ak<|LX hQ (false,0,none,0,[]) [] [] I U (by rfl) U U ?_
  (exact ⟨xU,fun _=>⟨rfl,fun q=>by have S:=(q.ids i y hy).1; omega⟩⟩)
 refine dP 3 [] I ?_
 refine js (t:=54) U (aT fun K8=>?_) (aU fun K8=>?_)
 ·refine dP 18 [] (mc 0 U I) ?_
  obtain ⟨x,hx⟩:=aJ r.cq i om
  have M:=bK iC hx
  refine dS (IA i U (aA 6 U) dp dc om om)<|dS (hG i 0 (vI x) U cb (aA 6 U) M U dc U)<|kI 2 U<|dS (CL (o6 x 0 ((r.bj.length:Int)-1)) (aM) U)<|dP 2 [] I ?_
  refine cE<|RK K<|cu U (bp fun Y=>?_) (bo fun Y=>?_)
  ·refine WS fun _ A6=>rP 2 [] I ?_
   refine RK A6<|ak<|LX hQ (false,0,none,0,[]) [] [] I U (by rfl) U U ?_
   (exact ⟨xU,fun _=>⟨rfl,fun q=>by have S:=q.Jt hx; omega⟩⟩)
  refine WK V<|WS fun _ A7=>rP 1 [] I ?_
  refine RK A7<|aB ?_
  have A:(0≤i)∧(∀ (q:Nat) y,q<0→r.cq[q]? =some y→y≠x):=by exact ⟨Nat.zero_le _,fun q y hq=>absurd hq (Nat.not_lt_zero _)⟩
  refine bT (ι:={z:Nat // (z≤i)∧(∀ (q:Nat) y,q<z→r.cq[q]? =some y→y≠x)}) [1,4,5] [0,1,2,3,4,5,6,7,8] U U (fun z=>[(6,(vI (z.1:Int)))]) (fun z=>[]) (fun _=>rfl) (fun _=>rfl) (fun z=>i-z.1) ⟨0,A⟩ (bx U) (aP [0,1,2,3,4,5,6,7,8]) ?_
  clear A
  rintro ⟨k,⟨O,B⟩⟩ J34 g
  try dsimp only
  refine aj fun _ A8=>WS fun _ A9=>rP 3 [] I ?_
  refine RK A9<|bQ U (aT fun Kn=>?_) (aU fun Kn=>?_)
  ·refine bL<|ai<|ai<|aG<|aL<|KK AA<|aq<|rP 3 [] I ?_
   refine aD ?_
   have IO:(vI (((i+1):Nat):Int))=(vI ((i:Int)+1)):=by exact cI om
   refine a7 (T ⟨(i+1),⟨om,Be AB (fun a ha=>by rw [hy] at ha; cases ha; exact ⟨om,fun b hb hc=>by omega⟩) (fun a ha=>by rw [hx] at ha; cases ha; exact ⟨om,fun k b hk hb=>B k b om hb⟩)⟩⟩ _ _ _ rfl os (df.cons rfl<|df.cons rfl<|aX rfl IO<|df.nil _) (aP [0,1,2,3,4,5,6,7,8]))
  refine WK A8<|aj fun _ BV=>aB<|aj fun _ B3=>dg cp 11 kr<|dP 3 [] (mc 0 U I) ?_
  obtain ⟨u,hu⟩:=aJ r.cq k om
  have Z:=bK iC hu
  refine dS (IA k U (aA 6 U) dp dc om om)<|dS (hG k 0 (vI u) U cb (aA 6 U) Z U dc U)<|lu 3 [] (mc 0 U I) U<|dS (IA i U (aA 6 U) dp dc om om)<|dS (hG i 0 (vI x) U cb (aA 6 U) M U dc U)<|dP 1 [] I ?_
  refine cE<|RK B3<|bQ U (aT fun L=>?_) (aU fun L=>?_)
  ·refine cf<|aL<|KK BV<|aq<|rP 3 [] I ?_
   refine aD ?_
   have H1:(vI (((k+1):Nat):Int))=(vI ((k:Int)+1)):=by exact cI om
   refine a7 (g ⟨(k+1),⟨om,v7 B hu L⟩⟩ _ _ _ U os (cw 3<|aX U H1<|df.nil _) (aP [0,1,2,3,4,5,6,7,8]))
  refine WS fun _ B9=>rP 2 [] I ?_
  refine RK B9<|ak<|LX hQ (false,0,none,0,[]) [] [] I U (by rfl) U U ?_
  (exact ⟨xU,fun _=>⟨rfl,fun q=>by have S:=q.num; have q2:=q.z3; have q3:=q.nh; have q4:=q.zi; omega⟩⟩)
 refine lu 3 [] (mc 0 U I) U<|dS (IA i U (aA 5 U) dp dc om om)<|dS (hG i 0 (vI y) U cb (aA 5 U) Jc U dc U)<|dP 4 [] (mc 0 U I) ?_
 obtain ⟨z,hz⟩:=aJ r.bj (i-1) om
 have NZ:=bK iC hz
 refine dS (IA (i-1) U (aA 5 U) dp dc om om)<|dS (hG (i-1) 0 (vI z) U cb (aA 5 U) NZ U dc U)<|dP 4 [] I ?_
 refine gY (t:=69) U (aU fun LE=>?_) (aT fun LE=>?_)
 ·refine kI 10 U<|cE<|RK K<|aQ U<|WS fun _ AC=>rP 2 [] I ?_
  refine RK AC<|ak<|LX hQ (false,0,none,0,[]) [] [] I U (by rfl) U U ?_
  (exact ⟨xU,fun _=>⟨rfl,fun q=>by have S:=(q.ids i y hy).2 z om hz; omega⟩⟩)
 refine dP 3 [] (mc 0 U I) ?_
 obtain ⟨x,hx⟩:=aJ r.cq i om
 have M:=bK iC hx
 refine dS (IA i U (aA 6 U) dp dc om om)<|dS (hG i 0 (vI x) U cb (aA 6 U) M U dc U)<|kI 2 U<|dS (CL (o6 x 0 ((r.bj.length:Int)-1)) (aM) U)<|dP 2 [] I ?_
 refine cE<|RK K<|cu U (bp fun Y=>?_) (bo fun Y=>?_)
 ·refine WS fun _ AO=>rP 2 [] I ?_
  refine RK AO<|ak<|LX hQ (false,0,none,0,[]) [] [] I U (by rfl) U U ?_
  (exact ⟨xU,fun _=>⟨rfl,fun q=>by have S:=q.Jt hx; omega⟩⟩)
 refine WK V<|WS fun _ A0=>rP 1 [] I ?_
 refine RK A0<|aB ?_
 have A:(0≤i)∧(∀ (q:Nat) y,q<0→r.cq[q]? =some y→y≠x):=by exact ⟨Nat.zero_le _,fun q y hq=>absurd hq (Nat.not_lt_zero _)⟩
 refine bT (ι:={z:Nat // (z≤i)∧(∀ (q:Nat) y,q<z→r.cq[q]? =some y→y≠x)}) [1,4,5] [0,1,2,3,4,5,6,7,8] U U (fun z=>[(6,(vI (z.1:Int)))]) (fun z=>[]) (fun _=>rfl) (fun _=>rfl) (fun z=>i-z.1) ⟨0,A⟩ (bx U) (aP [0,1,2,3,4,5,6,7,8]) ?_
 clear A
 rintro ⟨k,⟨O,B⟩⟩ J23 f
 try dsimp only
 refine aj fun _ A1=>WS fun _ A2=>rP 3 [] I ?_
 refine RK A2<|bQ U (aT fun X=>?_) (aU fun X=>?_)
 ·refine bL<|ai<|ai<|aG<|aL<|KK AA<|aq<|rP 3 [] I ?_
  refine aD ?_
  have Hi:(vI (((i+1):Nat):Int))=(vI ((i:Int)+1)):=by exact cI om
  refine a7 (T ⟨(i+1),⟨om,Be AB (fun a ha=>by rw [hy] at ha; cases ha; exact ⟨om,fun b hb hc=>by (rw [hz] at hc; cases hc; omega)⟩) (fun a ha=>by rw [hx] at ha; cases ha; exact ⟨om,fun k b hk hb=>B k b om hb⟩)⟩⟩ _ _ _ rfl os (df.cons rfl<|df.cons rfl<|aX rfl Hi<|df.nil _) (aP [0,1,2,3,4,5,6,7,8]))
 refine WK A1<|aj fun _ A3=>aB<|aj fun _ A4=>dg cp 11 kr<|dP 3 [] (mc 0 U I) ?_
 obtain ⟨u,hu⟩:=aJ r.cq k om
 have Z:=bK iC hu
 refine dS (IA k U (aA 6 U) dp dc om om)<|dS (hG k 0 (vI u) U cb (aA 6 U) Z U dc U)<|lu 3 [] (mc 0 U I) U<|dS (IA i U (aA 6 U) dp dc om om)<|dS (hG i 0 (vI x) U cb (aA 6 U) M U dc U)<|dP 1 [] I ?_
 refine cE<|RK A4<|bQ U (aT fun L=>?_) (aU fun L=>?_)
 ·refine cf<|aL<|KK A3<|aq<|rP 3 [] I ?_
  refine aD ?_
  have G5:(vI (((k+1):Nat):Int))=(vI ((k:Int)+1)):=by exact cI om
  refine a7 (f ⟨(k+1),⟨om,v7 B hu L⟩⟩ _ _ _ U os (cw 3<|aX U G5<|df.nil _) (aP [0,1,2,3,4,5,6,7,8]))
 refine WS fun _ A5=>rP 2 [] I ?_
 refine RK A5<|ak<|LX hQ (false,0,none,0,[]) [] [] I U (by rfl) U U ?_
 (exact ⟨xU,fun _=>⟨rfl,fun q=>by exact q.Ok om hu hx L⟩⟩)
end
section
open Go.RowKit
theorem GV (r:eV) (kA:OA) (kC:Nat) (az:List RA) (cA:OA) (cC:Nat) (bA:OA) (bC:Nat) (slA:OA) (slC:Nat) (drA:OA) (drC:Nat) (ha:List dG) (heA:OA) (heC:Nat) (hin:ov r az ha):
 q6 Tryz.prog 76 [(vA (ig.cells (zM r kA kC cA cC bA bC slA slC drA drC heA heC)))] [(rd kA r.au.aV.length 9 (r.au.aV.map ao.cells)),(rd cA r.au.ar.length 2 (List.zipWith ay.cells r.au.ar az)),(dL (br ay.gn r.au.ar az)),(rd bA r.au.ab.length 4 (r.au.ab.map bI.cells)),(rd slA r.bj.length 1 (r.bj.map iC)),(rd drA r.cq.length 1 (r.cq.map iC)),(rd heA r.aH.length 1 (List.zipWith de r.aH ha)),(dL (br eY r.aH ha))] (fun (x:Bool×Int×(OA)×Nat×(List RA))=>bif x.1 then (vT [(vS x.2.2.1 ((fB r).length) x.2.2.2.1),(vI 0)]) else (vT [(vS none 0 0),(vI x.2.1)])) (fun (x:Bool×Int×(OA)×Nat×(List RA))=>(x.1=true→(jv r=0∧x.2.2.2.2.length=r.aH.length))∧(x.1=false→(x.2.1=jv r∧ ¬ jv r=0))) (fun (x:Bool×Int×(OA)×Nat×(List RA))=>bif x.1 then [(own x.2.2.1 x.2.2.2.1 204 1 (List.zipWith K_ (fB r) x.2.2.2.2)),(bX (br D4 (fB r) x.2.2.2.2))] else []):=by
 have AA:=hin.line
 have b:=hin.iX
 have c:=hin.has
 have Z:=hin.iW
 have Y:=hin.draw
 have a:=kH (r:=r)
 refine fR kr Tryz.func76 U U fun f Q hQ hN=>?_
 try dsimp only
 refine WS fun _ O=>er U fun e=>bE 2 U<|RK O<|aj fun _ P=>WS fun _ R=>bE 1 U<|rS (LP (cV.cells (jN r.au kA kC cA cC bA bC)) 0 U cb U U U)<|rS (CL (Bf r.au kA kC az cA cC bA bC asm) (bq [1,2,3,4]) U)<|bE 1 U<|RK R<|WS fun _ S=>rP 2 [] I ?_
 refine RK S<|cu U (bp fun A=>?_) (bo fun A=>?_)
 ·refine WS fun _ T=>rP 3 [] I ?_
  refine RK T<|ak<|LX hQ (false,(dw r.au),none,0,[]) [] [] I U (by rfl) U U ?_
  exact vy<|Ej (yB A) A
 refine WK P<|WS fun _ G=>rP 1 [] (mc 0 U I) ?_
 refine cX (CM r kA kC az cA cC bA bC slA slC drA drC ha heA heC hin (by exact A)) (bq [1,2,3,4,5,6,7,8]) U fun d J=>?_
 obtain ⟨K,W,L,M,N⟩:=d
 cases K
 rotate_left 1
 ·obtain ⟨AB,V⟩:=J.1 rfl
  try dsimp only [cond_true,cond_false,List.cons_append,List.nil_append]
  refine bE 5 U<|RK G<|aj fun _ D=>WS fun _ E=>bE 2 U<|RK E<|cg U<|WK D<|WS fun _ F=>rP 3 [] I ?_
  refine RK F<|ak ?_
  refine LX hQ (true,0,L,M,N) [0,1] [] I U (by (show List.all _ _=true; simp only [cond_true,fy,List.all_nil,DR,Bool.and_true]; rfl)) U U ?_
  exact ⟨fun _=>⟨BM A AB,V⟩,PJ⟩
 obtain ⟨H,he⟩:=J.2 rfl
 try dsimp only at H he
 subst H
 try dsimp only [cond_true,cond_false,List.cons_append,List.nil_append]
 refine bE 5 U<|RK G<|aj fun _ X=>WS fun _ B=>bE 2 U<|RK B<|aQ U<|WS fun _ C=>rP 2 [] I ?_
 refine RK C<|ak<|LX hQ (false,60,none,0,[]) [] [] I U (by rfl) U U ?_
 exact vy<|nD (kj A he)
end
section
open Go.RowKit
theorem Gz (r:eV) (kA:OA) (kC:Nat) (az:List RA) (cA:OA) (cC:Nat) (bA:OA) (bC:Nat) (slA:OA) (slC:Nat) (drA:OA) (drC:Nat) (ha:List dG) (heA:OA) (heC:Nat) (hin:ov r az ha):
 dx Tryz.prog 50 [(vA (ig.cells (zM r kA kC cA cC bA bC slA slC drA drC heA heC)))] [(rd kA r.au.aV.length 9 (r.au.aV.map ao.cells)),(rd cA r.au.ar.length 2 (List.zipWith ay.cells r.au.ar az)),(dL (br ay.gn r.au.ar az)),(rd bA r.au.ab.length 4 (r.au.ab.map bI.cells)),(rd slA r.bj.length 1 (r.bj.map iC)),(rd drA r.cq.length 1 (r.cq.map iC)),(rd heA r.aH.length 1 (List.zipWith de r.aH ha)),(dL (br eY r.aH ha))] (vI (jv r)):=by
 have H:=hin.line
 have M:=hin.iX
 have N:=hin.has
 have J:=hin.iW
 have AB:=hin.draw
 have K:=kH (r:=r)
 refine bB kr Tryz.func50 U U fun V Q hQ hN=>?_
 try dsimp only
 refine WS fun _ G=>er U fun AA=>bE 1 U<|RK G<|WS fun _ C=>rP 1 [] (mc 0 U I) ?_
 refine cX (GV r kA kC az cA cC bA bC slA slC drA drC ha heA heC hin) (bq [1,2,3,4,5,6,7,8]) U fun T E=>?_
 obtain ⟨F,L,P,R,S⟩:=T
 cases F
 rotate_left 1
 ·obtain ⟨he,O⟩:=E.1 rfl
  try dsimp only [cond_true,cond_false,List.cons_append,List.nil_append]
  refine bE 5 U<|RK C<|WS fun _ B=>rP 2 [] I ?_
  refine RK B<|ak<|Q1 hQ U U U ?_
  first|rfl|(rw [he])
 obtain ⟨D,he⟩:=E.2 rfl
 try dsimp only at D he
 subst D
 try dsimp only [cond_true,cond_false,List.cons_append,List.nil_append]
 refine bE 5 U<|RK C<|WS fun _ A=>rP 2 [] I ?_
 refine RK A<|ak<|Q1 hQ U U U ?_
 first|rfl|(rw [he])
end
section
open Go.RowKit
theorem FE (j:cH) (kA:OA) (kC:Nat) (az:List RA) (cA:OA) (cC:Nat) (bA:OA) (bC:Nat) (slA:OA) (slC:Nat) (drA:OA) (drC:Nat) (ha:List dG) (heA:OA) (heC:Nat) (faA:OA) (faC:Nat) (prA:OA) (prC:Nat) (hin:gZ j az ha) (hjr:jv j.Race=0):
 dx Tryz.prog 51 [(vA (gG.cells (nN j kA kC cA cC bA bC slA slC drA drC heA heC faA faC prA prC)))] [(rd kA j.Race.au.aV.length 9 (j.Race.au.aV.map ao.cells)),(rd cA j.Race.au.ar.length 2 (List.zipWith ay.cells j.Race.au.ar az)),(dL (br ay.gn j.Race.au.ar az)),(rd bA j.Race.au.ab.length 4 (j.Race.au.ab.map bI.cells)),(rd slA j.Race.bj.length 1 (j.Race.bj.map iC)),(rd drA j.Race.cq.length 1 (j.Race.cq.map iC)),(rd heA j.Race.aH.length 1 (List.zipWith de j.Race.aH ha)),(dL (br eY j.Race.aH ha)),(rd faA j.aI.length 4 (j.aI.map aS.cells)),(rd prA j.ax.length 5 (j.ax.map aZ.cells))] (vB (decide (oB j))):=by
 have n:=hin.race
 have N_:=hin.race.line
 have Rl:=hin.race.iX
 have R0:=hin.race.has
 have Op:=hin.race.iW
 have Ok:=hin.nf
 have Oo:=hin.np
 have R1:=(eQ hjr).1
 have J2:=(eQ hjr).2
 refine bB kr Tryz.func51 U U fun w0 Q hQ hN=>?_
 try dsimp only
 refine WS fun _ M2=>er U fun b2=>bE 1 U<|RK M2<|aj fun _ NE=>WS fun _ a=>rP 5 [] (mc 0 U I) ?_
 refine bU (t:=12) U (aU fun h5=>?_) (aT fun h5=>?_)
 ·refine bE 17 U<|RK a<|aQ U<|WS fun _ NN=>rP 1 [] I ?_
  refine RK NN<|ak<|Q1 hQ U U U ?_
  first|exact cB (bD (fun q=>by have C:=q.nf; have H:=q.min_; have J:=q.rY; have K:=q.np; omega)).symm|exact cB (bD (fun q=>by have C:=q.fault f (aR hf); unfold eD at C; split at C<;>omega)).symm|exact cB (bD (fun q=>by have A:=q.gO _ p hp; have C:=A.id; have H:=A.kM; have J:=A.gj; have K:=A.fault; simp only [qf] at H; first|omega|(have V:=A.up AA om L; omega))).symm|exact cB (bD (fun q=>by obtain ⟨R,G,AB,T⟩:=(q.gO _ p hp).jy; rw [F] at G; cases G; first|exact E AB|exact h148 AB|omega)).symm|exact cB (dq ⟨om,dB D om,om,om,om,fun i p hi=>B i p (by have:=(aW.1 hi).1; omega) hi⟩).symm
 refine eN 2 [] (mc 0 U I) U<|rS (CL (iS j.gV 0 60) (aM) U)<|rP 3 [] I ?_
 refine bU (t:=18) U (bp fun h7=>?_) (bo fun h7=>?_)
 ·refine bE 11 U<|RK a<|aQ U<|WS fun _ NZ=>rP 1 [] I ?_
  refine RK NZ<|ak<|Q1 hQ U U U ?_
  first|exact cB (bD (fun q=>by have C:=q.nf; have H:=q.min_; have J:=q.rY; have K:=q.np; omega)).symm|exact cB (bD (fun q=>by have C:=q.fault f (aR hf); unfold eD at C; split at C<;>omega)).symm|exact cB (bD (fun q=>by have A:=q.gO _ p hp; have C:=A.id; have H:=A.kM; have J:=A.gj; have K:=A.fault; simp only [qf] at H; first|omega|(have V:=A.up AA om L; omega))).symm|exact cB (bD (fun q=>by obtain ⟨R,G,AB,T⟩:=(q.gO _ p hp).jy; rw [F] at G; cases G; first|exact E AB|exact h148 AB|omega)).symm|exact cB (dq ⟨om,dB D om,om,om,om,fun i p hi=>B i p (by have:=(aW.1 hi).1; omega) hi⟩).symm
 refine eN 2 [] (mc 0 U I) U<|rS (CL (iS j.Cf 0 100000) (aM) U)<|rP 3 [] I ?_
 refine bU (t:=24) U (bp fun h9=>?_) (bo fun h9=>?_)
 ·refine bE 5 U<|RK a<|aQ U<|WS fun _ s=>rP 1 [] I ?_
  refine RK s<|ak<|Q1 hQ U U U ?_
  first|exact cB (bD (fun q=>by have C:=q.nf; have H:=q.min_; have J:=q.rY; have K:=q.np; omega)).symm|exact cB (bD (fun q=>by have C:=q.fault f (aR hf); unfold eD at C; split at C<;>omega)).symm|exact cB (bD (fun q=>by have A:=q.gO _ p hp; have C:=A.id; have H:=A.kM; have J:=A.gj; have K:=A.fault; simp only [qf] at H; first|omega|(have V:=A.up AA om L; omega))).symm|exact cB (bD (fun q=>by obtain ⟨R,G,AB,T⟩:=(q.gO _ p hp).jy; rw [F] at G; cases G; first|exact E AB|exact h148 AB|omega)).symm|exact cB (dq ⟨om,dB D om,om,om,om,fun i p hi=>B i p (by have:=(aW.1 hi).1; omega) hi⟩).symm
 refine rP 5 [] (mc 0 U I) ?_
 refine RK a<|cu U (aU fun J4=>?_) (aT fun J4=>?_)
 ·refine WS fun _ u=>rP 1 [] I ?_
  refine RK u<|ak<|Q1 hQ U U U ?_
  first|exact cB (bD (fun q=>by have C:=q.nf; have H:=q.min_; have J:=q.rY; have K:=q.np; omega)).symm|exact cB (bD (fun q=>by have C:=q.fault f (aR hf); unfold eD at C; split at C<;>omega)).symm|exact cB (bD (fun q=>by have A:=q.gO _ p hp; have C:=A.id; have H:=A.kM; have J:=A.gj; have K:=A.fault; simp only [qf] at H; first|omega|(have V:=A.up AA om L; omega))).symm|exact cB (bD (fun q=>by obtain ⟨R,G,AB,T⟩:=(q.gO _ p hp).jy; rw [F] at G; cases G; first|exact E AB|exact h148 AB|omega)).symm|exact cB (dq ⟨om,dB D om,om,om,om,fun i p hi=>B i p (by have:=(aW.1 hi).1; omega) hi⟩).symm
 refine WK NE<|aj fun _ v=>WS fun _ w=>rP 1 [] I ?_
 refine RK w<|aB ?_
 have S:(0≤j.aI.length)∧(oK j 0):=by exact ⟨Nat.zero_le _,BN⟩
 refine bT (ι:={z:Nat // (z≤j.aI.length)∧(oK j z)}) [1] [0,1,2,3,4,5,6,7,8,9,10] U U (fun z=>[(3,(vI (z.1:Int)))]) (fun z=>[]) (fun _=>rfl) (fun _=>rfl) (fun z=>j.aI.length-z.1) ⟨0,S⟩ (bx U) (aP [0,1,2,3,4,5,6,7,8,9,10]) ?_
 clear S
 rintro ⟨i,⟨Nn,D⟩⟩ J15 W
 try dsimp only
 refine aj fun _ x=>WS fun _ y=>rP 5 [] (mc 0 U I) ?_
 refine RK y<|cu U (aU fun J5=>?_) (aT fun J5=>?_)
 ·refine WK x<|aj fun _ X=>aB<|WS fun _ AC=>rP 3 [] (mc 0 U I) ?_
  obtain ⟨f,hf⟩:=aJ j.aI i om
  have Ne:=bK aS.cells hf
  refine rS (IA i U (aA 9 U) Ar dc om om)<|rS (lh i 0 (aS.cells f) U cb (aA 9 U) Ne U dc U U)<|AL U NX fun Or=>fu U P7 U<|RK AC<|aj fun _ AO=>WS fun _ c=>eN 4 [] (mc 0 U I) U<|rS (CL (iS f.l_ 0 f.To) (aM) U)<|rP 2 [] I ?_
  refine bU (t:=48) U (bp fun J7=>?_) (bo fun J7=>?_)
  ·refine bE 4 U<|RK c<|aQ U<|WS fun _ A0=>rP 1 [] I ?_
   refine RK A0<|ak<|Q1 hQ U U U ?_
   first|exact cB (bD (fun q=>by have C:=q.nf; have H:=q.min_; have J:=q.rY; have K:=q.np; omega)).symm|exact cB (bD (fun q=>by have C:=q.fault f (aR hf); unfold eD at C; split at C<;>omega)).symm|exact cB (bD (fun q=>by have A:=q.gO _ p hp; have C:=A.id; have H:=A.kM; have J:=A.gj; have K:=A.fault; simp only [qf] at H; first|omega|(have V:=A.up AA om L; omega))).symm|exact cB (bD (fun q=>by obtain ⟨R,G,AB,T⟩:=(q.gO _ p hp).jy; rw [F] at G; cases G; first|exact E AB|exact h148 AB|omega)).symm|exact cB (dq ⟨om,dB D om,om,om,om,fun i p hi=>B i p (by have:=(aW.1 hi).1; omega) hi⟩).symm
  refine rP 4 [] (mc 0 U I) ?_
  refine RK c<|cu U (aU fun J8=>?_) (aT fun J8=>?_)
  ·refine WS fun _ A1=>rP 1 [] I ?_
   refine RK A1<|ak<|Q1 hQ U U U ?_
   first|exact cB (bD (fun q=>by have C:=q.nf; have H:=q.min_; have J:=q.rY; have K:=q.np; omega)).symm|exact cB (bD (fun q=>by have C:=q.fault f (aR hf); unfold eD at C; split at C<;>omega)).symm|exact cB (bD (fun q=>by have A:=q.gO _ p hp; have C:=A.id; have H:=A.kM; have J:=A.gj; have K:=A.fault; simp only [qf] at H; first|omega|(have V:=A.up AA om L; omega))).symm|exact cB (bD (fun q=>by obtain ⟨R,G,AB,T⟩:=(q.gO _ p hp).jy; rw [F] at G; cases G; first|exact E AB|exact h148 AB|omega)).symm|exact cB (dq ⟨om,dB D om,om,om,om,fun i p hi=>B i p (by have:=(aW.1 hi).1; omega) hi⟩).symm
  refine WK AO<|WS fun _ A2=>eN 2 [] (mc 0 U I) U<|RK A2<|aB<|WS fun _ A3=>rS (BI U mF)<|rP 1 [] I ?_
  refine RK A3<|cu U (aU fun J9=>?_) (aT fun J9=>?_)
  ·refine WS fun _ A4=>rP 3 [] (mc 0 U I) ?_
   refine RK A4<|bQ U (bo fun KW=>?_) (bp fun KW=>?_)
   ·refine cf<|aL<|aL<|KK X<|aq<|rP 3 [] I ?_
    refine aD ?_
    have IO:(vI (((i+1):Nat):Int))=(vI ((i:Int)+1)):=by exact cI om
    refine a7 (W ⟨(i+1),⟨om,qB D hf (by refine ⟨om,om,om,?_⟩; split<;>omega)⟩⟩ _ _ _ U os (df.cons U<|aX U IO<|df.nil _) (aP [1,2,3,4,5,6,7,8,9,10,11]))
   refine WS fun _ A5=>rP 1 [] I ?_
   refine RK A5<|ak<|Q1 hQ U U U ?_
   first|exact cB (bD (fun q=>by have C:=q.nf; have H:=q.min_; have J:=q.rY; have K:=q.np; omega)).symm|exact cB (bD (fun q=>by have C:=q.fault f (aR hf); unfold eD at C; split at C<;>omega)).symm|exact cB (bD (fun q=>by have A:=q.gO _ p hp; have C:=A.id; have H:=A.kM; have J:=A.gj; have K:=A.fault; simp only [qf] at H; first|omega|(have V:=A.up AA om L; omega))).symm|exact cB (bD (fun q=>by obtain ⟨R,G,AB,T⟩:=(q.gO _ p hp).jy; rw [F] at G; cases G; first|exact E AB|exact h148 AB|omega)).symm|exact cB (dq ⟨om,dB D om,om,om,om,fun i p hi=>B i p (by have:=(aW.1 hi).1; omega) hi⟩).symm
  refine aj fun _ e=>WS fun _ A6=>rS (BI U mF)<|rP 1 [] I ?_
  refine RK A6<|cu U (aU fun Kf=>?_) (aT fun Kf=>?_)
  ·refine WK e<|bQ U (aT fun Kn=>?_) (aU fun Kn=>?_)
   ·refine WS fun _ A9=>rP 1 [] I ?_
    refine RK A9<|ak<|Q1 hQ U U U ?_
    first|exact cB (bD (fun q=>by have C:=q.nf; have H:=q.min_; have J:=q.rY; have K:=q.np; omega)).symm|exact cB (bD (fun q=>by have C:=q.fault f (aR hf); unfold eD at C; split at C<;>omega)).symm|exact cB (bD (fun q=>by have A:=q.gO _ p hp; have C:=A.id; have H:=A.kM; have J:=A.gj; have K:=A.fault; simp only [qf] at H; first|omega|(have V:=A.up AA om L; omega))).symm|exact cB (bD (fun q=>by obtain ⟨R,G,AB,T⟩:=(q.gO _ p hp).jy; rw [F] at G; cases G; first|exact E AB|exact h148 AB|omega)).symm|exact cB (dq ⟨om,dB D om,om,om,om,fun i p hi=>B i p (by have:=(aW.1 hi).1; omega) hi⟩).symm
   refine WS fun _ A7=>eN 6 [0,1] (mc 0 U (mc 1 U I)) U<|rS (CL (iS f.g9 0 j.Race.au.cD) (aM) U)<|rP 1 [] I ?_
   refine RK A7<|bQ U (bo fun K0=>?_) (bp fun K0=>?_)
   ·refine cf<|aL<|aL<|KK X<|aq<|rP 3 [] I ?_
    refine aD ?_
    have IR:(vI (((i+1):Nat):Int))=(vI ((i:Int)+1)):=by exact cI om
    refine a7 (W ⟨(i+1),⟨om,qB D hf (by refine ⟨om,om,om,?_⟩; split<;>omega)⟩⟩ _ _ _ U os (df.cons U<|aX U IR<|df.nil _) (aP [1,2,3,4,5,6,7,8,9,10,11]))
   refine WS fun _ A8=>rP 1 [] I ?_
   refine RK A8<|ak<|Q1 hQ U U U ?_
   first|exact cB (bD (fun q=>by have C:=q.nf; have H:=q.min_; have J:=q.rY; have K:=q.np; omega)).symm|exact cB (bD (fun q=>by have C:=q.fault f (aR hf); unfold eD at C; split at C<;>omega)).symm|exact cB (bD (fun q=>by have A:=q.gO _ p hp; have C:=A.id; have H:=A.kM; have J:=A.gj; have K:=A.fault; simp only [qf] at H; first|omega|(have V:=A.up AA om L; omega))).symm|exact cB (bD (fun q=>by obtain ⟨R,G,AB,T⟩:=(q.gO _ p hp).jy; rw [F] at G; cases G; first|exact E AB|exact h148 AB|omega)).symm|exact cB (dq ⟨om,dB D om,om,om,om,fun i p hi=>B i p (by have:=(aW.1 hi).1; omega) hi⟩).symm
  refine aq<|rS (BI U mF)<|rP 1 [] I ?_
  refine RK e<|bQ U (aT fun K4=>?_) (aU fun K4=>?_)
  ·refine WS fun _ B9=>rP 1 [] I ?_
   refine RK B9<|ak<|Q1 hQ U U U ?_
   first|exact cB (bD (fun q=>by have C:=q.nf; have H:=q.min_; have J:=q.rY; have K:=q.np; omega)).symm|exact cB (bD (fun q=>by have C:=q.fault f (aR hf); unfold eD at C; split at C<;>omega)).symm|exact cB (bD (fun q=>by have A:=q.gO _ p hp; have C:=A.id; have H:=A.kM; have J:=A.gj; have K:=A.fault; simp only [qf] at H; first|omega|(have V:=A.up AA om L; omega))).symm|exact cB (bD (fun q=>by obtain ⟨R,G,AB,T⟩:=(q.gO _ p hp).jy; rw [F] at G; cases G; first|exact E AB|exact h148 AB|omega)).symm|exact cB (dq ⟨om,dB D om,om,om,om,fun i p hi=>B i p (by have:=(aW.1 hi).1; omega) hi⟩).symm
  refine WS fun _ BV=>eN 6 [0,1] (mc 0 U (mc 1 U I)) U<|rS (CL (iS f.g9 0 j.Race.au.cD) (aM) U)<|rP 1 [] I ?_
  refine RK BV<|bQ U (bo fun K5=>?_) (bp fun K5=>?_)
  ·refine cf<|aL<|aL<|KK X<|aq<|rP 3 [] I ?_
   refine aD ?_
   have If:(vI (((i+1):Nat):Int))=(vI ((i:Int)+1)):=by exact cI om
   refine a7 (W ⟨(i+1),⟨om,qB D hf (by refine ⟨om,om,om,?_⟩; split<;>omega)⟩⟩ _ _ _ U os (df.cons U<|aX U If<|df.nil _) (aP [1,2,3,4,5,6,7,8,9,10,11]))
  refine WS fun _ B3=>rP 1 [] I ?_
  refine RK B3<|ak<|Q1 hQ U U U ?_
  first|exact cB (bD (fun q=>by have C:=q.nf; have H:=q.min_; have J:=q.rY; have K:=q.np; omega)).symm|exact cB (bD (fun q=>by have C:=q.fault f (aR hf); unfold eD at C; split at C<;>omega)).symm|exact cB (bD (fun q=>by have A:=q.gO _ p hp; have C:=A.id; have H:=A.kM; have J:=A.gj; have K:=A.fault; simp only [qf] at H; first|omega|(have V:=A.up AA om L; omega))).symm|exact cB (bD (fun q=>by obtain ⟨R,G,AB,T⟩:=(q.gO _ p hp).jy; rw [F] at G; cases G; first|exact E AB|exact h148 AB|omega)).symm|exact cB (dq ⟨om,dB D om,om,om,om,fun i p hi=>B i p (by have:=(aW.1 hi).1; omega) hi⟩).symm
 refine bL<|ai<|ai<|aG<|KK v<|aj fun _ CF=>WS fun _ Ci=>rP 1 [] I ?_
 refine RK Ci<|aB ?_
 have S:(0≤j.ax.length)∧(nO j 0):=by exact ⟨Nat.zero_le _,xh⟩
 refine bT (ι:={z:Nat // (z≤j.ax.length)∧(nO j z)}) [1] [0,1,2,3,4,5,6,7,8,9,10] U U (fun z=>[(5,(vI (z.1:Int)))]) (fun z=>[]) (fun _=>rfl) (fun _=>rfl) (fun z=>j.ax.length-z.1) ⟨0,S⟩ (bx U) (aP [0,1,2,3,4,5,6,7,8,9,10]) ?_
 clear S
 rintro ⟨k,⟨J3,B⟩⟩ J52 b
 try dsimp only
 refine aj fun _ Ck=>WS fun _ Cp=>rP 5 [] (mc 0 U I) ?_
 refine RK Cp<|bQ U (aT fun K8=>?_) (aU fun K8=>?_)
 ·refine bL<|ai<|ai<|aG<|KK CF<|WS fun _ Gl=>rP 1 [] I ?_
  refine RK Gl<|ak<|Q1 hQ U U U ?_
  first|exact cB (bD (fun q=>by have C:=q.nf; have H:=q.min_; have J:=q.rY; have K:=q.np; omega)).symm|exact cB (bD (fun q=>by have C:=q.fault f (aR hf); unfold eD at C; split at C<;>omega)).symm|exact cB (bD (fun q=>by have A:=q.gO _ p hp; have C:=A.id; have H:=A.kM; have J:=A.gj; have K:=A.fault; simp only [qf] at H; first|omega|(have V:=A.up AA om L; omega))).symm|exact cB (bD (fun q=>by obtain ⟨R,G,AB,T⟩:=(q.gO _ p hp).jy; rw [F] at G; cases G; first|exact E AB|exact h148 AB|omega)).symm|exact cB (dq ⟨om,dB D om,om,om,om,fun i p hi=>B i p (by have:=(aW.1 hi).1; omega) hi⟩).symm
 refine WK Ck<|aj fun _ g=>aB<|WS fun _ Cx=>rP 3 [] (mc 0 U I) ?_
 obtain ⟨p,hp⟩:=aJ j.ax k om
 have OR:=bK aZ.cells hp
 refine rS (IA k U (aA 10 U) BH dc om om)<|rS (lh k 0 (aZ.cells p) U cb (aA 10 U) OR U dc U U)<|AL U HJ fun Os=>fu U LD U<|RK Cx<|aj fun _ h=>aj fun _ P=>dg cp 52 kr<|lu 2 [] (mc 0 U I) U<|dS (CL (iS p.Id 0 9999) (aM) U)<|dP 2 [] I ?_
 refine gY (t:=87) U (bp fun LA=>?_) (bo fun LA=>?_)
 ·refine kI 47 U<|cE<|RK P<|aQ U<|WS fun _ C0=>rP 1 [] I ?_
  refine RK C0<|ak<|Q1 hQ U U U ?_
  first|exact cB (bD (fun q=>by have C:=q.nf; have H:=q.min_; have J:=q.rY; have K:=q.np; omega)).symm|exact cB (bD (fun q=>by have C:=q.fault f (aR hf); unfold eD at C; split at C<;>omega)).symm|exact cB (bD (fun q=>by have A:=q.gO _ p hp; have C:=A.id; have H:=A.kM; have J:=A.gj; have K:=A.fault; simp only [qf] at H; omega)).symm|exact cB (bD (fun q=>by obtain ⟨R,G,AB,T⟩:=(q.gO _ p hp).jy; rw [F] at G; cases G; first|exact E AB|exact h148 AB|omega)).symm|exact cB (dq ⟨om,dB D om,om,om,om,fun i p hi=>B i p (by have:=(aW.1 hi).1; omega) hi⟩).symm
 refine dP 3 [] I ?_
 refine js (t:=90) U (aT fun LE=>?_) (aU fun LE=>?_)
 ·refine lu 20 [0,1] (mc 0 U (mc 1 U I)) U<|dS (CL (iS p.hP 0 ((j.Race.bj.length:Int)-1)) (aM) U)<|dP 3 [] I ?_
  refine gY (t:=114) U (bp fun L0=>?_) (bo fun L0=>?_)
  ·refine kI 20 U<|cE<|RK P<|aQ U<|WS fun _ Eq=>rP 1 [] I ?_
   refine RK Eq<|ak<|Q1 hQ U U U ?_
   first|exact cB (bD (fun q=>by have C:=q.nf; have H:=q.min_; have J:=q.rY; have K:=q.np; omega)).symm|exact cB (bD (fun q=>by have C:=q.fault f (aR hf); unfold eD at C; split at C<;>omega)).symm|exact cB (bD (fun q=>by have A:=q.gO _ p hp; have C:=A.id; have H:=A.kM; have J:=A.gj; have K:=A.fault; simp only [qf] at H; omega)).symm|exact cB (bD (fun q=>by obtain ⟨R,G,AB,T⟩:=(q.gO _ p hp).jy; rw [F] at G; cases G; first|exact E AB|exact h148 AB|omega)).symm|exact cB (dq ⟨om,dB D om,om,om,om,fun i p hi=>B i p (by have:=(aW.1 hi).1; omega) hi⟩).symm
  refine lu 7 [0,1] (mc 0 U (mc 1 U I)) U<|dS (CL (iS p.iu 0 ((j.Race.aH.length:Int)-1)) (aM) U)<|dP 3 [] I ?_
  refine gY (t:=125) U (bp fun L2=>?_) (bo fun L2=>?_)
  ·refine kI 9 U<|cE<|RK P<|aQ U<|WS fun _ FS=>rP 1 [] I ?_
   refine RK FS<|ak<|Q1 hQ U U U ?_
   first|exact cB (bD (fun q=>by have C:=q.nf; have H:=q.min_; have J:=q.rY; have K:=q.np; omega)).symm|exact cB (bD (fun q=>by have C:=q.fault f (aR hf); unfold eD at C; split at C<;>omega)).symm|exact cB (bD (fun q=>by have A:=q.gO _ p hp; have C:=A.id; have H:=A.kM; have J:=A.gj; have K:=A.fault; simp only [qf] at H; omega)).symm|exact cB (bD (fun q=>by obtain ⟨R,G,AB,T⟩:=(q.gO _ p hp).jy; rw [F] at G; cases G; first|exact E AB|exact h148 AB|omega)).symm|exact cB (dq ⟨om,dB D om,om,om,om,fun i p hi=>B i p (by have:=(aW.1 hi).1; omega) hi⟩).symm
  refine lu 6 [0,1] (mc 0 U (mc 1 U I)) U<|dS (CL (iS p.fZ 0 ((j.aI.length:Int)-1)) (aM) U)<|dP 2 [] I ?_
  refine cE<|RK P<|cu U (bp fun L3=>?_) (bo fun L3=>?_)
  ·refine WS fun _ Fd=>rP 1 [] I ?_
   refine RK Fd<|ak<|Q1 hQ U U U ?_
   first|exact cB (bD (fun q=>by have C:=q.nf; have H:=q.min_; have J:=q.rY; have K:=q.np; omega)).symm|exact cB (bD (fun q=>by have C:=q.fault f (aR hf); unfold eD at C; split at C<;>omega)).symm|exact cB (bD (fun q=>by have A:=q.gO _ p hp; have C:=A.id; have H:=A.kM; have J:=A.gj; have K:=A.fault; simp only [qf] at H; omega)).symm|exact cB (bD (fun q=>by obtain ⟨R,G,AB,T⟩:=(q.gO _ p hp).jy; rw [F] at G; cases G; first|exact E AB|exact h148 AB|omega)).symm|exact cB (dq ⟨om,dB D om,om,om,om,fun i p hi=>B i p (by have:=(aW.1 hi).1; omega) hi⟩).symm
  refine WK h<|aj fun _ Fn=>dH cp [11,12] [] [] [0,1,2,3,4,5,6,7,8,9,10,11] [] U U U U U<|eS U (FA 0 U fE U)<|eS U (FA 10 U fE U)<|eS U (L1 (vS heA j.Race.aH.length heC) 1 U cb U U)<|eS U (FA 2 U fE U)<|eS U (L1 (vI p.iu) 0 U cb U U) ?_
  obtain ⟨ht,O⟩:=aJ j.Race.aH ((p.iu).toNat) om
  obtain ⟨M,N⟩:=aJ ha ((p.iu).toNat) om
  have Z:(List.zipWith de j.Race.aH ha)[(p.iu).toNat]? =some (de ht M):=dC O N
  refine eS U (IA ((p.iu).toNat) U (aA 8 U) rK dc om om) ?_
  have Y:=n.gj _ _ _ O N
  have Jc:=Y.ot
  have Jt:=(J2.gj ht (aR O)).1
  refine eS U (hG ((p.iu).toNat) 0 (vS M.1.1 ht.length M.1.2) U cb (aA 8 U) Z U dc U)<|eS U (FA 1 U fE U)<|eS U (L1 (vI p.hP) 0 U cb U U) ?_
  obtain ⟨d,hd⟩:=aJ ht ((p.hP).toNat) om
  obtain ⟨da,o⟩:=aJ M.2 ((p.hP).toNat) om
  have r:(List.zipWith aw.cells ht M.2)[(p.hP).toNat]? =some (aw.cells d da):=dC hd o
  refine eS U (IA ((p.hP).toNat) U (show iN _ (rd M.1.1 ht.length 7 (List.zipWith aw.cells ht M.2)).holds from (cR 9 U (bM O N ct))) s8 dc om om) ?_
  have F:=oG (j:=j) (p:=p) O hd
  have Ob:=Y.sig d (aR hd)
  refine eS U (lh ((p.hP).toNat) 0 (aO.cells (aO.mk d.Out d.c_ d.Time (cN.mk d.bw.Start d.bw.fJ (bH.mk da.1 d.bw.aa.length da.2)))) U cb (show iN _ (rd M.1.1 ht.length 7 (List.zipWith aw.cells ht M.2)).holds from (cR 9 U (bM O N ct))) r U dc U U)<|ep U<|cj U fun T88 Hi=>AL U zS fun Pi=>aD (Hi _ _ (aP [1,2,3,4,5,6,7,8,9,10,11,12]) ?_)
  refine cj U fun T90 H1=>fu U Cv U<|aD (H1 _ _ (aP [1,2,3,4,5,6,7,8,9,10,11,12]) ?_)
  refine fH U<|KK Fn<|WS fun _ m=>eN 1 [] (mc 0 U I) U<|rS (CL (DY d.Out d.c_ d.Time (cN.mk d.bw.Start d.bw.fJ (bH.mk da.1 d.bw.aa.length da.2))) (aM) U)<|rP 2 [] I ?_
  refine bU (t:=149) U (bp fun E=>?_) (bo fun E=>?_)
  ·refine bE 8 U<|RK m<|aQ U<|WS fun _ GE=>rP 1 [] I ?_
   refine RK GE<|ak<|Q1 hQ U U U ?_
   first|exact cB (bD (fun q=>by have C:=q.nf; have H:=q.min_; have J:=q.rY; have K:=q.np; omega)).symm|exact cB (bD (fun q=>by have C:=q.fault f (aR hf); unfold eD at C; split at C<;>omega)).symm|exact cB (bD (fun q=>by have A:=q.gO _ p hp; have C:=A.id; have H:=A.kM; have J:=A.gj; have K:=A.fault; simp only [qf] at H; first|omega|(have V:=A.up AA om L; omega))).symm|exact cB (bD (fun q=>by obtain ⟨R,G,AB,T⟩:=(q.gO _ p hp).jy; rw [F] at G; cases G; exact E AB)).symm|exact cB (dq ⟨om,dB D om,om,om,om,fun i p hi=>B i p (by have:=(aW.1 hi).1; omega) hi⟩).symm
  refine eN 5 [0,1] (mc 1 U (mc 0 U I)) U<|rS (CL (iS p.At d.bw.Start 86400000) (aM) U)<|rP 2 [] I ?_
  refine RK m<|bQ U (bo fun Ma=>?_) (bp fun Ma=>?_)
  ·refine cf<|aL<|KK g<|aq<|rP 3 [] I ?_
   refine aD ?_
   have Ja:(vI (((k+1):Nat):Int))=(vI ((k:Int)+1)):=by exact cI om
   refine a7 (b ⟨(k+1),⟨om,su B hp ⟨om,fun q h1 h2=>by omega,by simp only [qf]; omega,om,om,d,F,by first|exact E|exact h148,om⟩⟩⟩ _ _ _ U os (df.cons U<|aX U Ja<|df.nil _) (aP [2,3,4,5,6,7,8,9,10,11,12]))
  refine WS fun _ GT=>rP 1 [] I ?_
  refine RK GT<|ak<|Q1 hQ U U U ?_
  first|exact cB (bD (fun q=>by have C:=q.nf; have H:=q.min_; have J:=q.rY; have K:=q.np; omega)).symm|exact cB (bD (fun q=>by have C:=q.fault f (aR hf); unfold eD at C; split at C<;>omega)).symm|exact cB (bD (fun q=>by have A:=q.gO _ p hp; have C:=A.id; have H:=A.kM; have J:=A.gj; have K:=A.fault; simp only [qf] at H; first|omega|(have V:=A.up AA om L; omega))).symm|exact cB (bD (fun q=>by obtain ⟨R,G,AB,T⟩:=(q.gO _ p hp).jy; rw [F] at G; cases G; omega)).symm|exact cB (dq ⟨om,dB D om,om,om,om,fun i p hi=>B i p (by have:=(aW.1 hi).1; omega) hi⟩).symm
 refine dP 6 [0,1] (mc 0 U (mc 1 U I)) ?_
 obtain ⟨AA,L⟩:=aJ j.ax (k-1) om
 have hp0m:=bK aZ.cells L
 refine dS (IA (k-1) U (aA 11 U) BH dc om om)<|dS (qc ((k-1)*5) U (aA 11 U) (Nat.mul_pos om dc) fE U)<|dS (hG (k-1) 0 (vI AA.Id) U cb (aA 11 U) hp0m U dc U)<|dP 4 [] I ?_
 refine gY (t:=103) U (aU fun LT=>?_) (aT fun LT=>?_)
 ·refine kI 31 U<|cE<|RK P<|aQ U<|WS fun _ C1=>rP 1 [] I ?_
  refine RK C1<|ak<|Q1 hQ U U U ?_
  first|exact cB (bD (fun q=>by have C:=q.nf; have H:=q.min_; have J:=q.rY; have K:=q.np; omega)).symm|exact cB (bD (fun q=>by have C:=q.fault f (aR hf); unfold eD at C; split at C<;>omega)).symm|exact cB (bD (fun q=>by have A:=q.gO _ p hp; have C:=A.id; have H:=A.kM; have J:=A.gj; have K:=A.fault; simp only [qf] at H; (have V:=A.up AA om L; omega))).symm|exact cB (bD (fun q=>by obtain ⟨R,G,AB,T⟩:=(q.gO _ p hp).jy; rw [F] at G; cases G; first|exact E AB|exact h148 AB|omega)).symm|exact cB (dq ⟨om,dB D om,om,om,om,fun i p hi=>B i p (by have:=(aW.1 hi).1; omega) hi⟩).symm
 refine lu 7 [0,1] (mc 0 U (mc 1 U I)) U<|dS (CL (iS p.hP 0 ((j.Race.bj.length:Int)-1)) (aM) U)<|dP 3 [] I ?_
 refine gY (t:=114) U (bp fun La=>?_) (bo fun La=>?_)
 ·refine kI 20 U<|cE<|RK P<|aQ U<|WS fun _ C2=>rP 1 [] I ?_
  refine RK C2<|ak<|Q1 hQ U U U ?_
  first|exact cB (bD (fun q=>by have C:=q.nf; have H:=q.min_; have J:=q.rY; have K:=q.np; omega)).symm|exact cB (bD (fun q=>by have C:=q.fault f (aR hf); unfold eD at C; split at C<;>omega)).symm|exact cB (bD (fun q=>by have A:=q.gO _ p hp; have C:=A.id; have H:=A.kM; have J:=A.gj; have K:=A.fault; simp only [qf] at H; omega)).symm|exact cB (bD (fun q=>by obtain ⟨R,G,AB,T⟩:=(q.gO _ p hp).jy; rw [F] at G; cases G; first|exact E AB|exact h148 AB|omega)).symm|exact cB (dq ⟨om,dB D om,om,om,om,fun i p hi=>B i p (by have:=(aW.1 hi).1; omega) hi⟩).symm
 refine lu 7 [0,1] (mc 0 U (mc 1 U I)) U<|dS (CL (iS p.iu 0 ((j.Race.aH.length:Int)-1)) (aM) U)<|dP 3 [] I ?_
 refine gY (t:=125) U (bp fun Li=>?_) (bo fun Li=>?_)
 ·refine kI 9 U<|cE<|RK P<|aQ U<|WS fun _ C3=>rP 1 [] I ?_
  refine RK C3<|ak<|Q1 hQ U U U ?_
  first|exact cB (bD (fun q=>by have C:=q.nf; have H:=q.min_; have J:=q.rY; have K:=q.np; omega)).symm|exact cB (bD (fun q=>by have C:=q.fault f (aR hf); unfold eD at C; split at C<;>omega)).symm|exact cB (bD (fun q=>by have A:=q.gO _ p hp; have C:=A.id; have H:=A.kM; have J:=A.gj; have K:=A.fault; simp only [qf] at H; omega)).symm|exact cB (bD (fun q=>by obtain ⟨R,G,AB,T⟩:=(q.gO _ p hp).jy; rw [F] at G; cases G; first|exact E AB|exact h148 AB|omega)).symm|exact cB (dq ⟨om,dB D om,om,om,om,fun i p hi=>B i p (by have:=(aW.1 hi).1; omega) hi⟩).symm
 refine lu 6 [0,1] (mc 0 U (mc 1 U I)) U<|dS (CL (iS p.fZ 0 ((j.aI.length:Int)-1)) (aM) U)<|dP 2 [] I ?_
 refine cE<|RK P<|cu U (bp fun Lk=>?_) (bo fun Lk=>?_)
 ·refine WS fun _ Di=>rP 1 [] I ?_
  refine RK Di<|ak<|Q1 hQ U U U ?_
  first|exact cB (bD (fun q=>by have C:=q.nf; have H:=q.min_; have J:=q.rY; have K:=q.np; omega)).symm|exact cB (bD (fun q=>by have C:=q.fault f (aR hf); unfold eD at C; split at C<;>omega)).symm|exact cB (bD (fun q=>by have A:=q.gO _ p hp; have C:=A.id; have H:=A.kM; have J:=A.gj; have K:=A.fault; simp only [qf] at H; omega)).symm|exact cB (bD (fun q=>by obtain ⟨R,G,AB,T⟩:=(q.gO _ p hp).jy; rw [F] at G; cases G; first|exact E AB|exact h148 AB|omega)).symm|exact cB (dq ⟨om,dB D om,om,om,om,fun i p hi=>B i p (by have:=(aW.1 hi).1; omega) hi⟩).symm
 refine WK h<|aj fun _ Do=>dH cp [11,12] [] [] [0,1,2,3,4,5,6,7,8,9,10,11] [] U U U U U<|eS U (FA 0 U fE U)<|eS U (FA 10 U fE U)<|eS U (L1 (vS heA j.Race.aH.length heC) 1 U cb U U)<|eS U (FA 2 U fE U)<|eS U (L1 (vI p.iu) 0 U cb U U) ?_
 obtain ⟨ht,O⟩:=aJ j.Race.aH ((p.iu).toNat) om
 obtain ⟨M,N⟩:=aJ ha ((p.iu).toNat) om
 have Z:(List.zipWith de j.Race.aH ha)[(p.iu).toNat]? =some (de ht M):=dC O N
 refine eS U (IA ((p.iu).toNat) U (aA 8 U) rK dc om om) ?_
 have Y:=n.gj _ _ _ O N
 have Jc:=Y.ot
 have Jt:=(J2.gj ht (aR O)).1
 refine eS U (hG ((p.iu).toNat) 0 (vS M.1.1 ht.length M.1.2) U cb (aA 8 U) Z U dc U)<|eS U (FA 1 U fE U)<|eS U (L1 (vI p.hP) 0 U cb U U) ?_
 obtain ⟨d,hd⟩:=aJ ht ((p.hP).toNat) om
 obtain ⟨da,o⟩:=aJ M.2 ((p.hP).toNat) om
 have r:(List.zipWith aw.cells ht M.2)[(p.hP).toNat]? =some (aw.cells d da):=dC hd o
 refine eS U (IA ((p.hP).toNat) U (show iN _ (rd M.1.1 ht.length 7 (List.zipWith aw.cells ht M.2)).holds from (cR 9 U (bM O N ct))) s8 dc om om) ?_
 have F:=oG (j:=j) (p:=p) O hd
 have Ob:=Y.sig d (aR hd)
 refine eS U (lh ((p.hP).toNat) 0 (aO.cells (aO.mk d.Out d.c_ d.Time (cN.mk d.bw.Start d.bw.fJ (bH.mk da.1 d.bw.aa.length da.2)))) U cb (show iN _ (rd M.1.1 ht.length 7 (List.zipWith aw.cells ht M.2)).holds from (cR 9 U (bM O N ct))) r U dc U U)<|ep U<|cj U fun T73 Go=>AL U zS fun PP=>aD (Go _ _ (aP [1,2,3,4,5,6,7,8,9,10,11,12]) ?_)
 refine cj U fun T75 G5=>fu U Cv U<|aD (G5 _ _ (aP [1,2,3,4,5,6,7,8,9,10,11,12]) ?_)
 refine fH U<|KK Do<|WS fun _ l=>eN 1 [] (mc 0 U I) U<|rS (CL (DY d.Out d.c_ d.Time (cN.mk d.bw.Start d.bw.fJ (bH.mk da.1 d.bw.aa.length da.2))) (aM) U)<|rP 2 [] I ?_
 refine bU (t:=149) U (bp fun E=>?_) (bo fun E=>?_)
 ·refine bE 8 U<|RK l<|aQ U<|WS fun _ EF=>rP 1 [] I ?_
  refine RK EF<|ak<|Q1 hQ U U U ?_
  first|exact cB (bD (fun q=>by have C:=q.nf; have H:=q.min_; have J:=q.rY; have K:=q.np; omega)).symm|exact cB (bD (fun q=>by have C:=q.fault f (aR hf); unfold eD at C; split at C<;>omega)).symm|exact cB (bD (fun q=>by have A:=q.gO _ p hp; have C:=A.id; have H:=A.kM; have J:=A.gj; have K:=A.fault; simp only [qf] at H; first|omega|(have V:=A.up AA om L; omega))).symm|exact cB (bD (fun q=>by obtain ⟨R,G,AB,T⟩:=(q.gO _ p hp).jy; rw [F] at G; cases G; exact E AB)).symm|exact cB (dq ⟨om,dB D om,om,om,om,fun i p hi=>B i p (by have:=(aW.1 hi).1; omega) hi⟩).symm
 refine eN 5 [0,1] (mc 1 U (mc 0 U I)) U<|rS (CL (iS p.At d.bw.Start 86400000) (aM) U)<|rP 2 [] I ?_
 refine RK l<|bQ U (bo fun Lo=>?_) (bp fun Lo=>?_)
 ·refine cf<|aL<|KK g<|aq<|rP 3 [] I ?_
  refine aD ?_
  have In:(vI (((k+1):Nat):Int))=(vI ((k:Int)+1)):=by exact cI om
  refine a7 (b ⟨(k+1),⟨om,su B hp ⟨om,fun q h1 h2=>by (rw [L] at h2; cases h2; omega),by simp only [qf]; omega,om,om,d,F,by first|exact E|exact h148,om⟩⟩⟩ _ _ _ rfl os (df.cons rfl<|aX rfl In<|df.nil _) (aP [2,3,4,5,6,7,8,9,10,11,12]))
 refine WS fun _ EQ=>rP 1 [] I ?_
 refine RK EQ<|ak<|Q1 hQ U U U ?_
 first|exact cB (bD (fun q=>by have C:=q.nf; have H:=q.min_; have J:=q.rY; have K:=q.np; omega)).symm|exact cB (bD (fun q=>by have C:=q.fault f (aR hf); unfold eD at C; split at C<;>omega)).symm|exact cB (bD (fun q=>by have A:=q.gO _ p hp; have C:=A.id; have H:=A.kM; have J:=A.gj; have K:=A.fault; simp only [qf] at H; first|omega|(have V:=A.up AA om L; omega))).symm|exact cB (bD (fun q=>by obtain ⟨R,G,AB,T⟩:=(q.gO _ p hp).jy; rw [F] at G; cases G; omega)).symm|exact cB (dq ⟨om,dB D om,om,om,om,fun i p hi=>B i p (by have:=(aW.1 hi).1; omega) hi⟩).symm
end
section
open Go.RowKit
theorem B1 (j:cH) (kA:OA) (kC:Nat) (az:List RA) (cA:OA) (cC:Nat) (bA:OA) (bC:Nat) (slA:OA) (slC:Nat) (drA:OA) (drC:Nat) (ha:List dG) (heA:OA) (heC:Nat) (faA:OA) (faC:Nat) (prA:OA) (prC:Nat) (hin:gZ j az ha):
 dx Tryz.prog 28 [(vA (gG.cells (nN j kA kC cA cC bA bC slA slC drA drC heA heC faA faC prA prC)))] [(rd kA j.Race.au.aV.length 9 (j.Race.au.aV.map ao.cells)),(rd cA j.Race.au.ar.length 2 (List.zipWith ay.cells j.Race.au.ar az)),(dL (br ay.gn j.Race.au.ar az)),(rd bA j.Race.au.ab.length 4 (j.Race.au.ab.map bI.cells)),(rd slA j.Race.bj.length 1 (j.Race.bj.map iC)),(rd drA j.Race.cq.length 1 (j.Race.cq.map iC)),(rd heA j.Race.aH.length 1 (List.zipWith de j.Race.aH ha)),(dL (br eY j.Race.aH ha)),(rd faA j.aI.length 4 (j.aI.map aS.cells)),(rd prA j.ax.length 5 (j.ax.map aZ.cells))] (vI (dU j)):=by
 have O:=hin.race
 have L:=hin.race.line
 have R:=hin.race.iX
 have S:=hin.race.has
 have P:=hin.race.iW
 have M:=hin.nf
 have N:=hin.np
 refine bB kr Tryz.func28 U U fun AA Q hQ hN=>?_
 try dsimp only
 refine WS fun _ D=>er U fun T=>bE 1 U<|RK D<|aj fun _ E=>WS fun _ F=>bE 1 U<|rS (LP (ig.cells (zM j.Race kA kC cA cC bA bC slA slC drA drC heA heC)) 0 U cb U U U)<|rS (CL (Gz j.Race kA kC az cA cC bA bC slA slC drA drC ha heA heC asm) (bq [1,2,3,4,5,6,7,8]) U)<|bE 1 U<|RK F<|WS fun _ G=>rP 2 [] I ?_
 refine RK G<|cu U (bp fun C=>?_) (bo fun C=>?_)
 ·refine WS fun _ H=>rP 2 [] I ?_
  refine RK H<|ak<|Q1 hQ U U U ?_
  exact cI (yC C).symm
 refine WK E<|aj fun _ AB=>WS fun _ J=>eN 1 [] (mc 0 U I) U<|rS (CL (FE j kA kC az cA cC bA bC slA slC drA drC ha heA heC faA faC prA prC hin asm) (bq [1,2,3,4,5,6,7,8,9,10]) U)<|rP 1 [] I ?_
 refine RK J<|cu U (bp fun A=>?_) (bo fun A=>?_)
 ·refine WS fun _ K=>rP 1 [] I ?_
  refine RK K<|ak<|Q1 hQ U U U ?_
  exact cI (jw C A).symm
 refine WK AB<|WS fun _ B=>rP 1 [] I ?_
 refine RK B<|ak<|Q1 hQ U U U ?_
 exact cI (xI C A).symm
end
section
open Go.RowKit
theorem pD (x y:Int):
 dx Tryz.prog 47 [(vI x),(vI y)] [] (vA (ag.cells (ag.mk x y))):=by
 refine bB kr Tryz.func47 U U fun D Q hQ hN=>?_
 try dsimp only
 refine WS fun _ A=>AL U dN fun C=>RK A<|WS fun _ B=>rP 2 [] I ?_
 refine rS (SX (a_ (xs:=[(0,.tmp 5),(1,.tmp 6)]) (cs:=(ag.cells (ag.mk x y))) U U (bf gM U)) U U)<|fu U cS U<|RK B<|ak ?_
 exact Cj hQ [0] (mc 0 U I) U U
theorem qz (x y:Int):
 dx Tryz.prog 48 [(vI x),(vI y)] [] (vA (aO.cells (aO.mk false true (ag.mk x y) (cN.mk 0 0 (bH.mk none 0 0))))):=by
 refine bB kr Tryz.func48 U U fun D Q hQ hN=>?_
 try dsimp only
 refine WS fun _ A=>AL U zS fun C=>RK A<|WS fun _ B=>rP 2 [] I ?_
 refine rS (CL (pD x y) (aM) U)<|rS (SX (a_ (xs:=[(1,.const (vB true)),(2,.tmp 7)]) (cs:=(aO.cells (aO.mk false true (ag.mk x y) (cN.mk 0 0 (bH.mk none 0 0))))) U U (bf Rv U)) U U)<|fu U Cv U<|RK B<|ak ?_
 exact Cj hQ [0] (mc 0 U I) U U
theorem JT (j:cH) (kA:OA) (kC:Nat) (az:List RA) (cA:OA) (cC:Nat) (bA:OA) (bC:Nat) (slA:OA) (slC:Nat) (drA:OA) (drC:Nat) (ha:List dG) (heA:OA) (heC:Nat) (faA:OA) (faC:Nat) (prA:OA) (prC:Nat) (hraw:q_ j az ha):
 dx Tryz.prog 9 [(vA (gG.cells (nN j kA kC cA cC bA bC slA slC drA drC heA heC faA faC prA prC)))] [(rd kA j.Race.au.aV.length 9 (j.Race.au.aV.map ao.cells)),(rd cA j.Race.au.ar.length 2 (List.zipWith ay.cells j.Race.au.ar az)),(dL (br ay.gn j.Race.au.ar az)),(rd bA j.Race.au.ab.length 4 (j.Race.au.ab.map bI.cells)),(rd slA j.Race.bj.length 1 (j.Race.bj.map iC)),(rd drA j.Race.cq.length 1 (j.Race.cq.map iC)),(rd heA j.Race.aH.length 1 (List.zipWith de j.Race.aH ha)),(dL (br eY j.Race.aH ha)),(rd faA j.aI.length 4 (j.aI.map aS.cells)),(rd prA j.ax.length 5 (j.ax.map aZ.cells))] (vB (decide (¬ pC j∧dU j=0))):=by
 refine bB kr Tryz.func9 U U fun F Q hQ hN=>?_
 try dsimp only
 refine WS fun _ C=>er U fun E=>bE 1 U<|RK C<|WS fun _ A=>eN 1 [] (mc 0 U I) U<|rS (CL (IX j kA kC az cA cC bA bC slA slC drA drC ha heA heC faA faC prA prC hraw) (bq [1,2,3,4,5,6,7,8,9,10]) U)<|rP 2 [] I ?_
 refine ck (t:=6) U (bo fun B=>?_) (bp fun B=>?_)
 ·refine bE 1 U<|rP 4 [] I ?_
  refine RK A<|ak<|Q1 hQ U U U ?_
  exact cB (bD fun q=>q.1 B).symm
 refine rP 1 [] (mc 0 U I) ?_
 have D:=hraw.small B
 refine rS (CL (B1 j kA kC az cA cC bA bC slA slC drA drC ha heA heC faA faC prA prC asm) (bq [1,2,3,4,5,6,7,8,9,10]) U)<|rP 3 [] I ?_
 refine RK A<|ak<|Q1 hQ U U U ?_
 exact cB (gv.2 ⟨fun q=>⟨B,q⟩,fun q=>q.2⟩)
theorem HH (o fx:Bool) (tm:ag) (rv:cN):
 dx Tryz.prog 14 [(vA (aO.cells (aO.mk o fx tm rv)))] [] (vB (decide (o=false∧fx=false))):=by
 refine bB kr Tryz.func14 U U fun E Q hQ hN=>?_
 try dsimp only
 refine WS fun _ B=>er U fun D=>bE 1 U<|RK B<|WS fun _ A=>rP 4 [] (mc 0 U I) ?_
 refine ck (t:=6) U (fun C=>?_) (fun C=>?_)
 ·rw [Bool.not_eq_false'] at C
  refine rP 5 [] I ?_
  refine RK A<|ak<|Q1 hQ U U U ?_
  clear hQ hN A B
  refine cB ?_
  (simp_all; done)
 rw [Bool.not_eq_true'] at C
 refine rP 5 [] (mc 0 U I) ?_
 refine RK A<|ak<|Q1 hQ U U U ?_
 clear hQ hN A B
 refine cB ?_
 (simp_all; done)
end
section
open Go.RowKit
theorem rI:
 q6 Tryz.prog 24 [] [] (fun (x:(OA)×Nat×(OA)×Nat×(List RA)×(OA)×Nat×(OA)×Nat×(OA)×Nat×(OA)×Nat×(List dG)×(OA)×Nat×(OA)×Nat)=>(vA (gG.cells (gG.mk (ig.mk (cV.mk (bZ.mk (bH.mk x.1 dT.Race.au.aV.length x.2.1)) dT.Race.au.ku (bH.mk x.2.2.1 dT.Race.au.ar.length x.2.2.2.1) (bH.mk x.2.2.2.2.2.1 dT.Race.au.ab.length x.2.2.2.2.2.2.1) dT.Race.au.cD dT.Race.au.iI dT.Race.au.eP) (bH.mk x.2.2.2.2.2.2.2.1 dT.Race.bj.length x.2.2.2.2.2.2.2.2.1) (bH.mk x.2.2.2.2.2.2.2.2.2.1 dT.Race.cq.length x.2.2.2.2.2.2.2.2.2.2.1) dT.Race.qe (bH.mk x.2.2.2.2.2.2.2.2.2.2.2.1 dT.Race.aH.length x.2.2.2.2.2.2.2.2.2.2.2.2.1)) (bH.mk x.2.2.2.2.2.2.2.2.2.2.2.2.2.2.1 dT.aI.length x.2.2.2.2.2.2.2.2.2.2.2.2.2.2.2.1) (bH.mk x.2.2.2.2.2.2.2.2.2.2.2.2.2.2.2.2.1 dT.ax.length x.2.2.2.2.2.2.2.2.2.2.2.2.2.2.2.2.2) dT.gV dT.Cf)))) (fun (x:(OA)×Nat×(OA)×Nat×(List RA)×(OA)×Nat×(OA)×Nat×(OA)×Nat×(OA)×Nat×(List dG)×(OA)×Nat×(OA)×Nat)=>gZ dT x.2.2.2.2.1 x.2.2.2.2.2.2.2.2.2.2.2.2.2.1∧x.2.2.2.2.1.length=dT.Race.au.ar.length∧HN dT.Race.aH x.2.2.2.2.2.2.2.2.2.2.2.2.2.1) (fun (x:(OA)×Nat×(OA)×Nat×(List RA)×(OA)×Nat×(OA)×Nat×(OA)×Nat×(OA)×Nat×(List dG)×(OA)×Nat×(OA)×Nat)=>[(own x.1 x.2.1 118 9 (dT.Race.au.aV.map ao.cells)),(own x.2.2.1 x.2.2.2.1 73 2 (List.zipWith ay.cells dT.Race.au.ar x.2.2.2.2.1)),(bX (br ay.owns dT.Race.au.ar x.2.2.2.2.1)),(own x.2.2.2.2.2.1 x.2.2.2.2.2.2.1 122 4 (dT.Race.au.ab.map bI.cells)),(own x.2.2.2.2.2.2.2.1 x.2.2.2.2.2.2.2.2.1 3 1 (dT.Race.bj.map iC)),(own x.2.2.2.2.2.2.2.2.2.1 x.2.2.2.2.2.2.2.2.2.2.1 3 1 (dT.Race.cq.map iC)),(own x.2.2.2.2.2.2.2.2.2.2.2.1 x.2.2.2.2.2.2.2.2.2.2.2.2.1 51 1 (List.zipWith de dT.Race.aH x.2.2.2.2.2.2.2.2.2.2.2.2.2.1)),(bX (br Aw dT.Race.aH x.2.2.2.2.2.2.2.2.2.2.2.2.2.1)),(own x.2.2.2.2.2.2.2.2.2.2.2.2.2.2.1 x.2.2.2.2.2.2.2.2.2.2.2.2.2.2.2.1 80 4 (dT.aI.map aS.cells)),(own x.2.2.2.2.2.2.2.2.2.2.2.2.2.2.2.2.1 x.2.2.2.2.2.2.2.2.2.2.2.2.2.2.2.2.2 47 5 (dT.ax.map aZ.cells))]):=by
 refine fR kr Tryz.func24 U U fun V Q hQ hN=>?_
 try dsimp only
 refine WS fun _ P=>AL U TY fun T=>RK P<|WS fun _ R=>rS (CL (pD 10000 10200) (aM) U)<|rS (SX (a_ (xs:=[(0,.const (vI 1)),(1,.tmp 3)]) (cs:=(ao.cells (ao.mk 1 (ag.mk 10000 10200) (ag.mk 0 0) (ag.mk 0 0) 0 0))) U U (bf P9 U)) U U)<|dZ (xs:=[.tmp 4]) (cs:=(ao.cells (ao.mk 1 (ag.mk 10000 10200) (ag.mk 0 0) (ag.mk 0 0) 0 0))) U zJ Ek U U U U (by simp [Value.cells,ao.aY]) U U fun E=>rS (SX (a_ (xs:=[(0,.tmp 5)]) (cs:=(bZ.cells (bZ.mk (bH.mk (some ⟨E,0,none⟩) 1 1)))) U U (bf Tx U)) U U)<|rS (CL (pD 0 2) (aM) U)<|rS (SX (a_ (xs:=[(0,.const (vI 0)),(1,.tmp 7)]) (cs:=(cQ.cells (cQ.mk 0 (ag.mk 0 2)))) U U (bf Q7 U)) U U)<|rS (CL (pD 5 6) (aM) U)<|rS (SX (a_ (xs:=[(0,.const (vI 100000)),(1,.tmp 9)]) (cs:=(cQ.cells (cQ.mk 100000 (ag.mk 5 6)))) U U (bf Q7 U)) U U)<|dZ (xs:=[.tmp 8,.tmp 10]) (cs:=((cQ.cells (cQ.mk 0 (ag.mk 0 2)))++(cQ.cells (cQ.mk 100000 (ag.mk 5 6))))) U x3 x4 U U U U (by simp [Value.cells,cQ.aY]) U U fun J=>rS (SX (a_ (xs:=[(0,.const (vI 100)),(1,.tmp 11)]) (cs:=(du.cells (du.mk 100 (bH.mk (some ⟨J,0,none⟩) 2 2)))) U U (bf T3 U)) U U)<|dZ (xs:=[.tmp 12]) (cs:=(du.cells (du.mk 100 (bH.mk (some ⟨J,0,none⟩) 2 2)))) U F0 O0 U U U U (by simp [Value.cells,du.aY]) U U fun L=>rS (CL (pD 1000 1000) (aM) U)<|rS (SX (a_ (xs:=[(1,.tmp 14)]) (cs:=(cy.cells (cy.mk 0 (ag.mk 1000 1000)))) U U (bf Hg U)) U U)<|rS (SX (a_ (xs:=[(0,.tmp 15)]) (cs:=(bI.cells (bI.mk (cy.mk 0 (ag.mk 1000 1000)) 0))) U U (bf Jp U)) U U)<|rS (CL (pD 4000 4000) (aM) U)<|rS (SX (a_ (xs:=[(1,.tmp 17)]) (cs:=(cy.cells (cy.mk 0 (ag.mk 4000 4000)))) U U (bf Hg U)) U U)<|rS (SX (a_ (xs:=[(0,.tmp 18)]) (cs:=(bI.cells (bI.mk (cy.mk 0 (ag.mk 4000 4000)) 0))) U U (bf Jp U)) U U)<|rS (CL (pD 9000 9000) (aM) U)<|rS (SX (a_ (xs:=[(1,.tmp 20)]) (cs:=(cy.cells (cy.mk 0 (ag.mk 9000 9000)))) U U (bf Hg U)) U U)<|rS (SX (a_ (xs:=[(0,.tmp 21)]) (cs:=(bI.cells (bI.mk (cy.mk 0 (ag.mk 9000 9000)) 0))) U U (bf Jp U)) U U)<|dZ (xs:=[.tmp 16,.tmp 19,.tmp 22]) (cs:=((bI.cells (bI.mk (cy.mk 0 (ag.mk 1000 1000)) 0))++(bI.cells (bI.mk (cy.mk 0 (ag.mk 4000 4000)) 0))++(bI.cells (bI.mk (cy.mk 0 (ag.mk 9000 9000)) 0)))) U xH Qd U U U U (by simp [Value.cells,bI.aY]) U U fun M=>rS (SX (a_ (xs:=[(0,.tmp 6),(1,.const (vI 2000)),(4,.const (vI 1)),(5,.const (vI 1)),(6,.const (vI 1)),(2,.tmp 13),(3,.tmp 23)]) (cs:=(cV.cells (cV.mk (bZ.mk (bH.mk (some ⟨E,0,none⟩) 1 1)) 2000 (bH.mk (some ⟨L,0,none⟩) 1 1) (bH.mk (some ⟨M,0,none⟩) 3 3) 1 1 1))) U U (bf Ud U)) U U)<|AL U Uo fun AA=>?_
 refine j1 (es:=(dT.Race.au.aV.map ao.cells)) (C':=[_,_,_,_,(own (some ⟨E,0,none⟩) 1 118 9 (dT.Race.au.aV.map ao.cells)),_]) 4 U (mH ao.aY _) U (by show _≤maxLen; exact Nat.le_trans (m:=10) (show (1:Nat)≤10 by decide) dc) U ?_
 refine j1 (es:=(xT.bG.map cQ.cells)) (C':=[_,_,_,(own (some ⟨J,0,none⟩) 2 75 3 (xT.bG.map cQ.cells)),_,_]) 3 U (mH cQ.aY _) U (by show _≤maxLen; exact Nat.le_trans (m:=10) (show (2:Nat)≤10 by decide) dc) U ?_
 refine j1 (es:=(List.zipWith ay.cells dT.Race.au.ar [((some ⟨J,0,none⟩),2)])) (C':=[_,_,(own (some ⟨L,0,none⟩) 1 73 2 (List.zipWith ay.cells dT.Race.au.ar [((some ⟨J,0,none⟩),2)])),_,_,_]) 2 U (by intro x hx; change x∈[ay.cells xT ((some ⟨J,0,none⟩),2)] at hx; rw [cd.1 hx]; rfl) U (by show _≤maxLen; exact Nat.le_trans (m:=10) (show (1:Nat)≤10 by decide) dc) U ?_
 refine j1 (es:=(dT.Race.au.ab.map bI.cells)) (C':=[_,(own (some ⟨M,0,none⟩) 3 122 4 (dT.Race.au.ab.map bI.cells)),_,_,_,_]) 1 U (mH bI.aY _) U (by show _≤maxLen; exact Nat.le_trans (m:=10) (show (3:Nat)≤10 by decide) dc) U ?_
 refine w6<|Na (X:=[]) (X':=br ay.owns dT.Race.au.ar [((some ⟨J,0,none⟩),2)]) 0 4 rfl rfl rfl<|rL rfl TW rfl<|RK R<|WS fun _ S=>rS (SX (a_ (xs:=[(0,.const (vI 0)),(1,.const (vI 10600))]) (cs:=(aF.cells (aF.mk 0 10600))) rfl rfl (bf Hy rfl)) rfl rfl)<|rS (SX (a_ (xs:=[(0,.const (vI 0)),(1,.const (vI 11000))]) (cs:=(aF.cells (aF.mk 0 11000))) rfl rfl (bf Hy rfl)) rfl rfl)<|rS (SX (a_ (xs:=[(0,.const (vI 1)),(1,.const (vI 12600))]) (cs:=(aF.cells (aF.mk 1 12600))) rfl rfl (bf Hy rfl)) rfl rfl)<|dZ (xs:=[.tmp 25,.tmp 26,.tmp 27]) (cs:=((aF.cells (aF.mk 0 10600))++(aF.cells (aF.mk 0 11000))++(aF.cells (aF.mk 1 12600)))) rfl zU FW rfl rfl rfl rfl (by simp [Value.cells,aF.aY]) rfl rfl fun A=>rS (SX (a_ (xs:=[(0,.const (vI 10000)),(1,.const (vI 20000)),(2,.tmp 28)]) (cs:=(cN.cells (cN.mk 10000 20000 (bH.mk (some ⟨A,0,none⟩) 3 3)))) rfl rfl (bf Uj rfl)) rfl rfl)<|AL rfl SB fun N=>j1 (es:=(lF.aa.map aF.cells)) (C':=[_,(own (some ⟨A,0,none⟩) 3 78 2 (lF.aa.map aF.cells)),_,_,_,_,_,_]) 1 rfl (mH aF.aY _) rfl dc rfl<|fu rfl S0 rfl<|RK S<|aj fun _ O=>Nl (L':=[(0,(vP T)),(1,(vP AA)),(2,(vP N)),(3,(vA (ag.cells (ag.mk 10000 10200)))),(4,(vA (ao.cells (ao.mk 1 (ag.mk 10000 10200) (ag.mk 0 0) (ag.mk 0 0) 0 0)))),(5,(vS (some ⟨E,0,none⟩) 1 1)),(6,(vA (bZ.cells (bZ.mk (bH.mk (some ⟨E,0,none⟩) 1 1))))),(7,(vA (ag.cells (ag.mk 0 2)))),(8,(vA (cQ.cells (cQ.mk 0 (ag.mk 0 2))))),(9,(vA (ag.cells (ag.mk 5 6)))),(10,(vA (cQ.cells (cQ.mk 100000 (ag.mk 5 6))))),(11,(vS (some ⟨J,0,none⟩) 2 2)),(12,(vA (du.cells (du.mk 100 (bH.mk (some ⟨J,0,none⟩) 2 2))))),(13,(vS (some ⟨L,0,none⟩) 1 1)),(14,(vA (ag.cells (ag.mk 1000 1000)))),(15,(vA (cy.cells (cy.mk 0 (ag.mk 1000 1000))))),(16,(vA (bI.cells (bI.mk (cy.mk 0 (ag.mk 1000 1000)) 0)))),(17,(vA (ag.cells (ag.mk 4000 4000)))),(18,(vA (cy.cells (cy.mk 0 (ag.mk 4000 4000))))),(19,(vA (bI.cells (bI.mk (cy.mk 0 (ag.mk 4000 4000)) 0)))),(20,(vA (ag.cells (ag.mk 9000 9000)))),(21,(vA (cy.cells (cy.mk 0 (ag.mk 9000 9000))))),(22,(vA (bI.cells (bI.mk (cy.mk 0 (ag.mk 9000 9000)) 0)))),(23,(vS (some ⟨M,0,none⟩) 3 3)),(24,(vA (cV.cells (cV.mk (bZ.mk (bH.mk (some ⟨E,0,none⟩) 1 1)) 2000 (bH.mk (some ⟨L,0,none⟩) 1 1) (bH.mk (some ⟨M,0,none⟩) 3 3) 1 1 1)))),(25,(vA (aF.cells (aF.mk 0 10600)))),(26,(vA (aF.cells (aF.mk 0 11000)))),(27,(vA (aF.cells (aF.mk 1 12600)))),(28,(vS (some ⟨A,0,none⟩) 3 3)),(29,(vA (cN.cells (cN.mk 10000 20000 (bH.mk (some ⟨A,0,none⟩) 3 3)))))]) rfl<|l3 cp [0,3,4,5,6,8,9,10,14,15,16,17,19,20,21] [7,11,12,1,2,13,18,22,23,24] [false,false,false,false,false,false,false,false,false,false,false,false,false,false,false] [] [(cm N 56 (cN.cells (cN.mk 10000 20000 (bH.mk (some ⟨A,0,none⟩) 3 3)))),(own (some ⟨A,0,none⟩) 3 78 2 (lF.aa.map aF.cells)),(bX (br ay.owns dT.Race.au.ar [((some ⟨J,0,none⟩),2)])),(cm AA 28 (cV.cells (cV.mk (bZ.mk (bH.mk (some ⟨E,0,none⟩) 1 1)) 2000 (bH.mk (some ⟨L,0,none⟩) 1 1) (bH.mk (some ⟨M,0,none⟩) 3 3) 1 1 1))),(own (some ⟨M,0,none⟩) 3 122 4 (dT.Race.au.ab.map bI.cells)),(own (some ⟨L,0,none⟩) 1 73 2 (List.zipWith ay.cells dT.Race.au.ar [((some ⟨J,0,none⟩),2)])),(own (some ⟨E,0,none⟩) 1 118 9 (dT.Race.au.aV.map ao.cells))] [] kr (aP [0,1,2,3,4,5,6]) (aP [])<|eS rfl (LW 3 rfl cb rfl rfl)<|eS rfl (LW 0 rfl cb rfl rfl)<|eS rfl (SX (a_ (xs:=[(3,.tmp 33)]) (cs:=(aO.cells (aO.mk false false (ag.mk 0 0) (cN.mk 10000 20000 (bH.mk (some ⟨A,0,none⟩) 3 3))))) rfl rfl (bf Rv rfl)) rfl rfl)<|eS rfl (CL (qz 2600 2600) (aM) rfl)<|eS rfl (CL (qz 2580 2609) (aM) rfl)<|eS rfl (CL (qz 2555 2559) (aM) rfl)<|eS rfl (CL (qz 2540 2549) (aM) rfl)<|eS rfl (CL (qz 2570 2575) (aM) rfl)<|eS rfl (SX (a_ (xs:=[(0,.const (Value.int .u8 1)),(2,.const (vI 12600)),(3,.const (vI 13000))]) (cs:=(aS.cells (aS.mk 1 0 12600 13000))) rfl rfl (bf Mw rfl)) rfl rfl)<|eS rfl (SX (a_ (xs:=[(0,.const (Value.int .u8 2)),(1,.const (vI 1)),(2,.const (vI 11003)),(3,.const (vI 11100))]) (cs:=(aS.cells (aS.mk 2 1 11003 11100))) rfl rfl (bf Mw rfl)) rfl rfl)<|eS rfl (SX (a_ (xs:=[(0,.const (Value.int .u8 3)),(2,.const (vI 10700)),(3,.const (vI 10900))]) (cs:=(aS.cells (aS.mk 3 0 10700 10900))) rfl rfl (bf Mw rfl)) rfl rfl)<|eS rfl (SX (a_ (xs:=[(0,.const (Value.int .u8 1)),(2,.const (vI 13000)),(3,.const (vI 14000))]) (cs:=(aS.cells (aS.mk 1 0 13000 14000))) rfl rfl (bf Mw rfl)) rfl rfl)<|eS rfl (SX (a_ (xs:=[(0,.const (vI 2)),(3,.const (vI 0)),(4,.const (vI 72596))]) (cs:=(aZ.cells (aZ.mk 2 0 0 0 72596))) rfl rfl (bf Ot rfl)) rfl rfl)<|eS rfl (SX (a_ (xs:=[(0,.const (vI 5)),(3,.const (vI 1)),(4,.const (vI 72603))]) (cs:=(aZ.cells (aZ.mk 5 0 0 1 72603))) rfl rfl (bf Ot rfl)) rfl rfl)<|eS rfl (SX (a_ (xs:=[(0,.const (vI 6)),(3,.const (vI 3)),(4,.const (vI 20000))]) (cs:=(aZ.cells (aZ.mk 6 0 0 3 20000))) rfl rfl (bf Ot rfl)) rfl rfl)<|ep rfl<|Ev [.take 7,.take 11,.op 12,.take 1,.take 2,.op 13,.take 18,.take 22,.op 23,.op 24] [(34,(vA (aO.cells (aO.mk false false (ag.mk 0 0) (cN.mk 10000 20000 (bH.mk (some ⟨A,0,none⟩) 3 3)))))),(35,(vA (aO.cells (aO.mk false true (ag.mk 2600 2600) (cN.mk 0 0 (bH.mk none 0 0)))))),(36,(vA (aO.cells (aO.mk false true (ag.mk 2580 2609) (cN.mk 0 0 (bH.mk none 0 0)))))),(38,(vA (aO.cells (aO.mk false true (ag.mk 2555 2559) (cN.mk 0 0 (bH.mk none 0 0)))))),(39,(vA (aO.cells (aO.mk false true (ag.mk 2540 2549) (cN.mk 0 0 (bH.mk none 0 0)))))),(40,(vA (aO.cells (aO.mk false true (ag.mk 2570 2575) (cN.mk 0 0 (bH.mk none 0 0)))))),(44,(vA (aS.cells (aS.mk 1 0 12600 13000)))),(45,(vA (aS.cells (aS.mk 2 1 11003 11100)))),(46,(vA (aS.cells (aS.mk 3 0 10700 10900)))),(47,(vA (aS.cells (aS.mk 1 0 13000 14000)))),(49,(vA (aZ.cells (aZ.mk 2 0 0 0 72596)))),(50,(vA (aZ.cells (aZ.mk 5 0 0 1 72603)))),(51,(vA (aZ.cells (aZ.mk 6 0 0 3 20000))))] (fun i=>match i with |7=>37|11=>41|1=>31|2=>32|18=>48|22=>52|_=>0) (fun i b=>match i with |7=> .slice (some ⟨b,0,none⟩) 3 3|11=> .slice (some ⟨b,0,none⟩) 3 3|1=> .slice (some ⟨b,0,none⟩) 3 3|2=> .slice (some ⟨b,0,none⟩) 3 3|18=> .slice (some ⟨b,0,none⟩) 4 4|22=> .slice (some ⟨b,0,none⟩) 3 3|_=>undef) (fun i b=>match i with |7=>cm b 58 ((aO.cells (aO.mk false false (ag.mk 0 0) (cN.mk 10000 20000 (bH.mk (some ⟨A,0,none⟩) 3 3))))++(aO.cells (aO.mk false true (ag.mk 2600 2600) (cN.mk 0 0 (bH.mk none 0 0))))++(aO.cells (aO.mk false true (ag.mk 2580 2609) (cN.mk 0 0 (bH.mk none 0 0)))))|11=>cm b 58 ((aO.cells (aO.mk false true (ag.mk 2555 2559) (cN.mk 0 0 (bH.mk none 0 0))))++(aO.cells (aO.mk false true (ag.mk 2540 2549) (cN.mk 0 0 (bH.mk none 0 0))))++(aO.cells (aO.mk false true (ag.mk 2570 2575) (cN.mk 0 0 (bH.mk none 0 0)))))|1=>cm b 3 [(vI 4),(vI 7),(vI 9)]|2=>cm b 3 [(vI 2),(vI 0),(vI 1)]|18=>cm b 80 ((aS.cells (aS.mk 1 0 12600 13000))++(aS.cells (aS.mk 2 1 11003 11100))++(aS.cells (aS.mk 3 0 10700 10900))++(aS.cells (aS.mk 1 0 13000 14000)))|22=>cm b 47 ((aZ.cells (aZ.mk 2 0 0 0 72596))++(aZ.cells (aZ.mk 5 0 0 1 72603))++(aZ.cells (aZ.mk 6 0 0 3 20000)))|_=>cm b 0 []) rfl rfl rfl kr rfl rfl (aP [0,1,2,3,4,5,6]) (lY (vf (xs:=[.tmp 34,.tmp 35,.tmp 36]) (cs:=((aO.cells (aO.mk false false (ag.mk 0 0) (cN.mk 10000 20000 (bH.mk (some ⟨A,0,none⟩) 3 3))))++(aO.cells (aO.mk false true (ag.mk 2600 2600) (cN.mk 0 0 (bH.mk none 0 0))))++(aO.cells (aO.mk false true (ag.mk 2580 2609) (cN.mk 0 0 (bH.mk none 0 0)))))) rfl s8 zS rfl rfl rfl rfl (by simp [Value.cells,aO.aY]) rfl rfl rfl (fun _=>rfl) fun _=>rfl)<|lY (vf (xs:=[.tmp 38,.tmp 39,.tmp 40]) (cs:=((aO.cells (aO.mk false true (ag.mk 2555 2559) (cN.mk 0 0 (bH.mk none 0 0))))++(aO.cells (aO.mk false true (ag.mk 2540 2549) (cN.mk 0 0 (bH.mk none 0 0))))++(aO.cells (aO.mk false true (ag.mk 2570 2575) (cN.mk 0 0 (bH.mk none 0 0)))))) rfl s8 zS rfl rfl rfl rfl (by simp [Value.cells,aO.aY]) rfl rfl rfl (fun _=>rfl) fun _=>rfl)<|qM<|lY (vf (xs:=[.const (vI 4),.const (vI 7),.const (vI 9)]) (cs:=[(vI 4),(vI 7),(vI 9)]) rfl dp j5 rfl rfl rfl rfl (by simp [Value.cells]) rfl rfl rfl (fun _=>rfl) fun _=>rfl)<|lY (vf (xs:=[.const (vI 2),.const (vI 0),.const (vI 1)]) (cs:=[(vI 2),(vI 0),(vI 1)]) rfl dp j5 rfl rfl rfl rfl (by simp [Value.cells]) rfl rfl rfl (fun _=>rfl) fun _=>rfl)<|qM<|lY (vf (xs:=[.tmp 44,.tmp 45,.tmp 46,.tmp 47]) (cs:=((aS.cells (aS.mk 1 0 12600 13000))++(aS.cells (aS.mk 2 1 11003 11100))++(aS.cells (aS.mk 3 0 10700 10900))++(aS.cells (aS.mk 1 0 13000 14000)))) rfl Ar NX rfl rfl rfl rfl (by simp [Value.cells,aS.aY]) rfl rfl rfl (fun _=>rfl) fun _=>rfl)<|lY (vf (xs:=[.tmp 49,.tmp 50,.tmp 51]) (cs:=((aZ.cells (aZ.mk 2 0 0 0 72596))++(aZ.cells (aZ.mk 5 0 0 1 72603))++(aZ.cells (aZ.mk 6 0 0 3 20000)))) rfl BH HJ rfl rfl rfl rfl (by simp [Value.cells,aZ.aY]) rfl rfl rfl (fun _=>rfl) fun _=>rfl)<|qM<|qM<|Ka) ?_
 intro F
 try dsimp only
 intro G
 try dsimp only
 refine qR U fun Y X K hT=>dZ (xs:=[.tmp 37,.tmp 41]) (cs:=[(vS (some ⟨F,0,none⟩) 3 3),(vS (some ⟨G,0,none⟩) 3 3)]) U rK SC U U U U (by simp [Value.cells]) U U fun B=>nB hT 48 11 U U (fun w hs=>St.kh [3,4,5,6,7,8,9] U U hs) U U ?_
 try dsimp only [List.take]
 intro C
 try dsimp only
 intro D
 try dsimp only
 refine qR U fun Y X K hT=>rS (SX (a_ (xs:=[(0,.tmp 30),(1,.tmp 31),(2,.tmp 32),(3,.const (vI 2)),(4,.tmp 42)]) (cs:=(ig.cells (ig.mk (cV.mk (bZ.mk (bH.mk (some ⟨E,0,none⟩) 1 1)) 2000 (bH.mk (some ⟨L,0,none⟩) 1 1) (bH.mk (some ⟨M,0,none⟩) 3 3) 1 1 1) (bH.mk (some ⟨C,0,none⟩) 3 3) (bH.mk (some ⟨D,0,none⟩) 3 3) 2 (bH.mk (some ⟨B,0,none⟩) 2 2)))) U U (bf TK U)) U U)<|nB hT 51 13 U U (fun w hs=>St.kh [5,6,7,8,9,10,11] U U hs) U U ?_
 try dsimp only [List.take]
 intro H
 try dsimp only
 intro AB
 try dsimp only
 refine qR U fun Y X K hT=>rS (SX (a_ (xs:=[(0,.tmp 43),(1,.tmp 48),(2,.tmp 52),(3,.const (vI 1)),(4,.const (vI 500))]) (cs:=(gG.cells (gG.mk (ig.mk (cV.mk (bZ.mk (bH.mk (some ⟨E,0,none⟩) 1 1)) 2000 (bH.mk (some ⟨L,0,none⟩) 1 1) (bH.mk (some ⟨M,0,none⟩) 3 3) 1 1 1) (bH.mk (some ⟨C,0,none⟩) 3 3) (bH.mk (some ⟨D,0,none⟩) 3 3) 2 (bH.mk (some ⟨B,0,none⟩) 2 2)) (bH.mk (some ⟨H,0,none⟩) 4 4) (bH.mk (some ⟨AB,0,none⟩) 3 3) 1 500))) U U (bf Uc U)) U U)<|nB hT 54 15 U U (fun w hs=>St.kh [7,8,9,10,11,12,13] U U hs) U U ?_
 try dsimp only [List.take]
 refine qR U fun Y X K hT=>ib (vs:=(gG.cells (gG.mk (ig.mk (cV.mk (bZ.mk (bH.mk (some ⟨E,0,none⟩) 1 1)) 2000 (bH.mk (some ⟨L,0,none⟩) 1 1) (bH.mk (some ⟨M,0,none⟩) 3 3) 1 1 1) (bH.mk (some ⟨C,0,none⟩) 3 3) (bH.mk (some ⟨D,0,none⟩) 3 3) 2 (bH.mk (some ⟨B,0,none⟩) 2 2)) (bH.mk (some ⟨H,0,none⟩) 4 4) (bH.mk (some ⟨AB,0,none⟩) 3 3) 1 500))) (cs':=(gG.cells (gG.mk (ig.mk (cV.mk (bZ.mk (bH.mk (some ⟨E,0,none⟩) 1 1)) 2000 (bH.mk (some ⟨L,0,none⟩) 1 1) (bH.mk (some ⟨M,0,none⟩) 3 3) 1 1 1) (bH.mk (some ⟨C,0,none⟩) 3 3) (bH.mk (some ⟨D,0,none⟩) 3 3) 2 (bH.mk (some ⟨B,0,none⟩) 2 2)) (bH.mk (some ⟨H,0,none⟩) 4 4) (bH.mk (some ⟨AB,0,none⟩) 3 3) 1 500))) (C':=[_,_,_,_,_,_,_,_,_,_,_,_,_,_,(cm T 36 (gG.cells (gG.mk (ig.mk (cV.mk (bZ.mk (bH.mk (some ⟨E,0,none⟩) 1 1)) 2000 (bH.mk (some ⟨L,0,none⟩) 1 1) (bH.mk (some ⟨M,0,none⟩) 3 3) 1 1 1) (bH.mk (some ⟨C,0,none⟩) 3 3) (bH.mk (some ⟨D,0,none⟩) 3 3) 2 (bH.mk (some ⟨B,0,none⟩) 2 2)) (bH.mk (some ⟨H,0,none⟩) 4 4) (bH.mk (some ⟨AB,0,none⟩) 3 3) 1 500)))]++X) 14 U U U S3 U U U U U U U<|nB hT 54 15 U U (fun w hs=>St.kh [7,8,9,10,11,12,13] U U hs) U U ?_
 try dsimp only [List.take]
 refine KK O ?_
 refine lI (es:=(dT.Race.bj.map iC)) (C':=[_,_,_,(own (some ⟨C,0,none⟩) 3 3 1 (dT.Race.bj.map iC)),_,_,_,_,_,_,_,_,_,_,_]) 3 U (mH bJ _) U (by show _≤maxLen; exact Nat.le_trans (m:=10) (show (3:Nat)≤10 by decide) dc) U ?_
 refine lI (es:=(dT.Race.cq.map iC)) (C':=[_,_,(own (some ⟨D,0,none⟩) 3 3 1 (dT.Race.cq.map iC)),_,_,_,_,_,_,_,_,_,_,_,_]) 2 U (mH bJ _) U (by show _≤maxLen; exact Nat.le_trans (m:=10) (show (3:Nat)≤10 by decide) dc) U ?_
 refine lI (es:=(dT.aI.map aS.cells)) (C':=[_,(own (some ⟨H,0,none⟩) 4 80 4 (dT.aI.map aS.cells)),_,_,_,_,_,_,_,_,_,_,_,_,_]) 1 U (mH aS.aY _) U (by show _≤maxLen; exact Nat.le_trans (m:=10) (show (4:Nat)≤10 by decide) dc) U ?_
 refine lI (es:=(dT.ax.map aZ.cells)) (C':=[(own (some ⟨AB,0,none⟩) 3 47 5 (dT.ax.map aZ.cells)),_,_,_,_,_,_,_,_,_,_,_,_,_,_]) 0 U (mH aZ.aY _) U (by show _≤maxLen; exact Nat.le_trans (m:=10) (show (3:Nat)≤10 by decide) dc) U ?_
 refine lI (es:=(List.zipWith aw.cells Ic [((some ⟨A,0,none⟩),3),(none,0),(none,0)])) (C':=[_,_,_,_,_,_,(own (some ⟨F,0,none⟩) 3 58 7 (List.zipWith aw.cells Ic [((some ⟨A,0,none⟩),3),(none,0),(none,0)])),_,_,_,_,_,_,_,_]) 6 U (qF Eb) U (by show _≤maxLen; exact Nat.le_trans (m:=10) (show (3:Nat)≤10 by decide) dc) U ?_
 refine lI (es:=(List.zipWith aw.cells Q9 [(none,0),(none,0),(none,0)])) (C':=[_,_,_,_,_,(own (some ⟨G,0,none⟩) 3 58 7 (List.zipWith aw.cells Q9 [(none,0),(none,0),(none,0)])),_,_,_,_,_,_,_,_,_]) 5 U (qF Eb) U (by show _≤maxLen; exact Nat.le_trans (m:=10) (show (3:Nat)≤10 by decide) dc) U ?_
 refine lI (es:=(List.zipWith de dT.Race.aH [(((some ⟨F,0,none⟩),3),[((some ⟨A,0,none⟩),3),(none,0),(none,0)]),(((some ⟨G,0,none⟩),3),[(none,0),(none,0),(none,0)])])) (C':=[_,_,_,_,(own (some ⟨B,0,none⟩) 2 51 1 (List.zipWith de dT.Race.aH [(((some ⟨F,0,none⟩),3),[((some ⟨A,0,none⟩),3),(none,0),(none,0)]),(((some ⟨G,0,none⟩),3),[(none,0),(none,0),(none,0)])])),_,_,_,_,_,_,_,_,_,_]) 4 U (qF G8) U (by show _≤maxLen; exact Nat.le_trans (m:=10) (show (2:Nat)≤10 by decide) dc) U ?_
 refine ew 78 2<|ew 78 2<|ew 78 2<|ew 78 2<|ew 78 2<|E5 (br Aw dT.Race.aH [(((some ⟨F,0,none⟩),3),[((some ⟨A,0,none⟩),3),(none,0),(none,0)]),(((some ⟨G,0,none⟩),3),[(none,0),(none,0),(none,0)])]) [11,13,0,1,10,2,3,4] [5,6,7,8,9,12,14,15,16,17,18,19] U U<|ak ?_
 refine LX hQ ((some ⟨E,0,none⟩),1,(some ⟨L,0,none⟩),1,[((some ⟨J,0,none⟩),2)],(some ⟨M,0,none⟩),3,(some ⟨C,0,none⟩),3,(some ⟨D,0,none⟩),3,(some ⟨B,0,none⟩),2,[(((some ⟨F,0,none⟩),3),[((some ⟨A,0,none⟩),3),(none,0),(none,0)]),(((some ⟨G,0,none⟩),3),[(none,0),(none,0),(none,0)])],(some ⟨H,0,none⟩),4,(some ⟨AB,0,none⟩),3) [11,10,7,9,4,3,5,0,2,1] [0] (mc 12 U I) U (by show List.all _ _=true; simp only [fy,List.all_nil,yX,Hl,Bool.and_true]; rfl) U U ?_
 exact ⟨Oa (P8 1 dc) Kj,U,Kj⟩
end
section
open Go.RowKit
theorem zl (G:List (List Int)) (H:List (List Int)) (gz:List RA) (gA:OA) (gC:Nat) (hz:List RA) (hA:OA) (hC:Nat) (h1:G.length≤1000000) (h2:H.length≤1000000) (h3: ∀ l∈G,l.length≤1000000) (h4: ∀ l∈H,l.length≤1000000) (hgz:gz.length=G.length) (hhz:hz.length=H.length):
 dx Tryz.prog 20 [(vS gA G.length gC),(vS hA H.length hC)] [(rd gA G.length 1 (List.zipWith vD G gz)),(dL (br M0 G gz)),(rd hA H.length 1 (List.zipWith vD H hz)),(dL (br M0 H hz))] (vB (decide (G=H))):=by
 refine bB kr Tryz.func20 U U fun Z Q hQ hN=>?_
 try dsimp only
 refine WS fun _ N=>bE 1 U<|RK N<|aj fun _ O=>WS fun _ P=>rP 5 [] I ?_
 refine RK P<|cu U (bp fun hl=>?_) (bo fun hl=>?_)
 ·refine WS fun _ R=>rP 1 [] I ?_
  refine RK R<|ak<|Q1 hQ U U U ?_
  exact cB (bD (fun e=>by subst e; omega)).symm
 refine WK O<|aj fun _ S=>WS fun _ T=>rP 1 [] I ?_
 refine RK T<|aB ?_
 have A:(0≤G.length)∧(G.take 0=H.take 0):=by exact ⟨Nat.zero_le _,rfl⟩
 refine bT (ι:={z:Nat // (z≤G.length)∧(G.take z=H.take z)}) [0,1] [0,1,2,3] U U (fun z=>[(5,(vI (z.1:Int)))]) (fun z=>[]) (fun _=>rfl) (fun _=>rfl) (fun z=>G.length-z.1) ⟨0,A⟩ (bx U) (aP [0,1,2,3]) ?_
 clear A
 rintro ⟨i,⟨W,B⟩⟩ J7 M
 try dsimp only
 refine aj fun _ AA=>WS fun _ V=>rP 4 [] I ?_
 refine RK V<|bQ U (aT fun L=>?_) (aU fun L=>?_)
 ·refine bL<|ai<|ai<|aG<|KK S<|WS fun _ F=>rP 1 [] I ?_
  refine RK F<|ak<|Q1 hQ U U U ?_
  exact cB (dq (qI om B om)).symm
 refine WK AA<|aj fun _ C=>aB<|aj fun _ D=>dg cp 10 kr<|dP 2 [] I ?_
 obtain ⟨x,hx⟩:=aJ G i om
 obtain ⟨xa,J⟩:=aJ gz i om
 have X:(List.zipWith vD G gz)[i]? =some (vD x xa):=dC hx J
 refine dS (IA i U (aA 0 U) DE dc om om)<|dS (hG i 0 (vS xa.1 x.length xa.2) U cb (aA 0 U) X U dc U)<|dP 2 [] I ?_
 obtain ⟨y,hy⟩:=aJ H i om
 obtain ⟨ya,K⟩:=aJ hz i om
 have Y:(List.zipWith vD H hz)[i]? =some (vD y ya):=dC hy K
 refine dS (IA i U (aA 2 U) DE dc om om)<|dS (hG i 0 (vS ya.1 y.length ya.2) U cb (aA 2 U) Y U dc U)<|dS (CL (Ax x xa.1 xa.2 y ya.1 ya.2 (by exact h3 x (aR hx)) (by exact h4 y (aR hy))) (aK (show iN _ (rd xa.1 x.length 1 (x.map iC)).holds from (cR 1 U (bM hx J (by simp [M0]))))<|aK (show iN _ (rd ya.1 y.length 1 (y.map iC)).holds from (cR 3 U (bM hy K (by simp [M0]))))<|aM) U)<|dP 1 [] I ?_
 refine cE<|RK D<|cu U (bp fun h=>?_) (bo fun h=>?_)
 ·refine WS fun _ E=>rP 1 [] I ?_
  refine RK E<|ak<|Q1 hQ U U U ?_
  exact cB (bD (qi hx hy h)).symm
 refine cf<|aL<|KK C<|aq<|rP 3 [] I ?_
 refine aD ?_
 have AB:(vI (((i+1):Nat):Int))=(vI ((i:Int)+1)):=by exact cI om
 refine a7 (M ⟨(i+1),⟨om,uV B hx hy h⟩⟩ _ _ _ U os (df.cons U<|df.cons U<|aX U AB<|df.nil _) (aP [0,1,2,3]))
theorem xL (fq sq x:Int):
 dx Tryz.prog 25 [(vI fq),(vI sq),(Value.int .u8 x)] [(rd gN 3 2 fF)] (vB (decide (mB dT fq 0 sq=0∧lO dT fq 0 sq=x))):=by
 refine bB kr Tryz.func25 U U fun c Q hQ hN=>?_
 try dsimp only
 refine WS fun _ X=>rP 1 [] I ?_
 refine RK X<|WS fun _ Y=>cX rI (aM) U fun b a=>?_
 obtain ⟨S,V,T,W,AA,C,G,D,H,E,AB,F,J,O,K,L,P,R⟩:=b
 try dsimp only
 obtain ⟨N,Z,M⟩:=a
 refine bE 2 U<|rS (CL (zY dT S V AA T W C G D H E AB O F J K L P R fq 0 sq (by exact N)) (gT 10 U U<|aK (aN (n:=dT.Race.au.aV.length) 0 U sm)<|aK (aN (n:=dT.Race.au.ar.length) 1 U (re Z))<|aK (fM 2 U oM)<|aK (aN (n:=dT.Race.au.ab.length) 3 U sm)<|aK (aN (n:=dT.Race.bj.length) 4 U sm)<|aK (aN (n:=dT.Race.cq.length) 5 U sm)<|aK (aN (n:=dT.Race.aH.length) 6 U (o1 M.1))<|aK (mU 7 U M)<|aK (aN (n:=dT.aI.length) 8 U sm)<|aK (aN (n:=dT.ax.length) 9 U sm)<|aM) U)<|bE 5 U<|RK Y<|WS fun _ A=>rP 3 [] I ?_
 refine ck (t:=18) U (aT fun B=>?_) (aU fun B=>?_)
 ·refine rP 5 [] I ?_
  refine RK A<|ak<|Q1 hQ U U U ?_
  exact cB (bD fun q=>B q.1).symm
 refine bE 2 U<|rS (BI U mF)<|rP 2 [] I ?_
 refine RK A<|ak<|Q1 hQ U U U ?_
 exact cB (gv.2 ⟨fun q=>⟨B,q⟩,fun q=>q.2⟩)
theorem ET (iq x:Int):
 dx Tryz.prog 26 [(vI iq),(Value.int .u8 x)] [(rd gN 3 2 fF)] (vB (decide (rW dT iq=0∧tU dT iq=x))):=by
 refine bB kr Tryz.func26 U U fun c Q hQ hN=>?_
 try dsimp only
 refine WS fun _ X=>rP 1 [] I ?_
 refine RK X<|WS fun _ Y=>cX rI (aM) U fun b a=>?_
 obtain ⟨S,V,T,W,AA,C,G,D,H,E,AB,F,J,O,K,L,P,R⟩:=b
 try dsimp only
 obtain ⟨N,Z,M⟩:=a
 refine bE 1 U<|rS (CL (G_ dT S V AA T W C G D H E AB O F J K L P R iq (by exact N)) (gT 10 U U<|aK (aN (n:=dT.Race.au.aV.length) 0 U sm)<|aK (aN (n:=dT.Race.au.ar.length) 1 U (re Z))<|aK (fM 2 U oM)<|aK (aN (n:=dT.Race.au.ab.length) 3 U sm)<|aK (aN (n:=dT.Race.bj.length) 4 U sm)<|aK (aN (n:=dT.Race.cq.length) 5 U sm)<|aK (aN (n:=dT.Race.aH.length) 6 U (o1 M.1))<|aK (mU 7 U M)<|aK (aN (n:=dT.aI.length) 8 U sm)<|aK (aN (n:=dT.ax.length) 9 U sm)<|aM) U)<|bE 5 U<|RK Y<|WS fun _ A=>rP 3 [] I ?_
 refine ck (t:=15) U (aT fun B=>?_) (aU fun B=>?_)
 ·refine rP 5 [] I ?_
  refine RK A<|ak<|Q1 hQ U U U ?_
  exact cB (bD fun q=>B q.1).symm
 refine bE 2 U<|rS (BI U mF)<|rP 2 [] I ?_
 refine RK A<|ak<|Q1 hQ U U U ?_
 exact cB (gv.2 ⟨fun q=>⟨B,q⟩,fun q=>q.2⟩)
end
section
open Go.RowKit
theorem H0:
 dx Tryz.prog 8 [] [(rd gN 3 2 fF)] (vB true):=by
 refine bB kr Tryz.func8 U U fun w0 Q hQ hN=>?_
 try dsimp only
 refine WS fun _ Kf=>rP 1 [] I ?_
 refine RK Kf<|WS fun _ Kn=>cX rI (aM) U fun y3 K0=>?_
 obtain ⟨Jt,J7,J3,J9,J6,K,l,O,r,T,w,X,AC,Gl,A2,A6,H1,If⟩:=y3
 try dsimp only
 obtain ⟨B,C,A⟩:=K0
 refine cX (wh dT Jt J7 J6 J3 J9 K l O r T w Gl X AC A2 A6 H1 If (by exact B)) (gT 10 U U<|aK (aN (n:=dT.Race.au.aV.length) 0 U sm)<|aK (aN (n:=dT.Race.au.ar.length) 1 U (re C))<|aK (fM 2 U oM)<|aK (aN (n:=dT.Race.au.ab.length) 3 U sm)<|aK (aN (n:=dT.Race.bj.length) 4 U sm)<|aK (aN (n:=dT.Race.cq.length) 5 U sm)<|aK (aN (n:=dT.Race.aH.length) 6 U (o1 A.1))<|aK (mU 7 U A)<|aK (aN (n:=dT.aI.length) 8 U sm)<|aK (aN (n:=dT.ax.length) 9 U sm)<|aM) U fun K4 LT=>?_
 obtain ⟨J2,J8⟩:=K4
 try dsimp only
 refine ze [0,11] U U<|rP 5 [] I ?_
 refine RK Kn<|WS fun _ Do=>cX rI (aM) U fun K5 Fd=>?_
 obtain ⟨E,f,H,i,c,L,o,P,s,AA,x,Y,AO,Go,A3,A7,IO,In⟩:=K5
 try dsimp only
 obtain ⟨B,C,A⟩:=Fd
 refine cX (yP dT E f c H i L o P s AA x Go Y AO A3 A7 IO In (by exact B)) (gT 11 U U<|aK (aN (n:=dT.Race.au.aV.length) 0 U sm)<|aK (aN (n:=dT.Race.au.ar.length) 1 U (re C))<|aK (fM 2 U oM)<|aK (aN (n:=dT.Race.au.ab.length) 3 U sm)<|aK (aN (n:=dT.Race.bj.length) 4 U sm)<|aK (aN (n:=dT.Race.cq.length) 5 U sm)<|aK (aN (n:=dT.Race.aH.length) 6 U (o1 A.1))<|aK (mU 7 U A)<|aK (aN (n:=dT.aI.length) 8 U sm)<|aK (aN (n:=dT.ax.length) 9 U sm)<|aM) U fun K8 Fn=>?_
 obtain ⟨BV,J4,KW⟩:=K8
 try dsimp only
 have FS:=Fn
 refine ze [0,1,12,13] U U<|rP 5 [] I ?_
 refine RK Do<|WS fun _ EF=>cX rI (aM) U fun LA GE=>?_
 obtain ⟨F,g,AB,j,d,M,p,R,u,V,y,Z,A0,G5,A4,A8,IR,Ja⟩:=LA
 try dsimp only
 obtain ⟨B,C,A⟩:=GE
 refine rS (CL (Mo dT F g d AB j M p R u V y G5 Z A0 A4 A8 IR Ja (by exact B)) (gT 13 U U<|aK (aN (n:=dT.Race.au.aV.length) 0 U sm)<|aK (aN (n:=dT.Race.au.ar.length) 1 U (re C))<|aK (fM 2 U oM)<|aK (aN (n:=dT.Race.au.ab.length) 3 U sm)<|aK (aN (n:=dT.Race.bj.length) 4 U sm)<|aK (aN (n:=dT.Race.cq.length) 5 U sm)<|aK (aN (n:=dT.Race.aH.length) 6 U (o1 A.1))<|aK (mU 7 U A)<|aK (aN (n:=dT.aI.length) 8 U sm)<|aK (aN (n:=dT.ax.length) 9 U sm)<|aM) U)<|ze [10,11,12,13] U U<|rP 7 [] I ?_
 refine RK EF<|WS fun _ EQ=>cX rI (aM) U fun LE GT=>?_
 obtain ⟨G,h,J,k,e,N,q,S,v,W,z,a,A1,Hi,A5,A9,Id,Jc⟩:=LE
 try dsimp only
 obtain ⟨B,C,A⟩:=GT
 refine rS (CL (KE dT G h e J k N q S v W z Hi a A1 A5 A9 Id Jc 0 (by exact B)) (gT 13 U U<|aK (aN (n:=dT.Race.au.aV.length) 0 U sm)<|aK (aN (n:=dT.Race.au.ar.length) 1 U (re C))<|aK (fM 2 U oM)<|aK (aN (n:=dT.Race.au.ab.length) 3 U sm)<|aK (aN (n:=dT.Race.bj.length) 4 U sm)<|aK (aN (n:=dT.Race.cq.length) 5 U sm)<|aK (aN (n:=dT.Race.aH.length) 6 U (o1 A.1))<|aK (mU 7 U A)<|aK (aN (n:=dT.aI.length) 8 U sm)<|aK (aN (n:=dT.ax.length) 9 U sm)<|aM) U)<|ze [10,11,12,13] U U<|bE 5 U<|RK EQ<|WS fun _ Eq=>rS (CL (xL 0 0 1) (bq [3]) U)<|rP 1 [] I ?_
 refine ck (t:=32) U (aT fun B3=>?_) (aU fun B3=>?_)
 ·exact absurd (Ow) B3
 refine rS (CL (xL 1 0 2) (bq [3]) U)<|rP 2 [] I ?_
 refine ck (t:=35) U (aT fun B9=>?_) (aU fun B9=>?_)
 ·exact absurd (NV) B9
 refine rS (CL (xL 3 0 0) (bq [3]) U)<|rP 2 [] I ?_
 refine ck (t:=38) U (aT fun CF=>?_) (aU fun CF=>?_)
 ·exact absurd (Oc) CF
 refine rS (CL (ET 0 0) (bq [3]) U)<|rP 2 [] I ?_
 refine ck (t:=41) U (aT fun Cf=>?_) (aU fun Cf=>?_)
 ·exact absurd (N4) Cf
 refine rS (CL (ET 1 2) (bq [3]) U)<|rP 2 [] I ?_
 refine ck (t:=44) U (aT fun Ci=>?_) (aU fun Ci=>?_)
 ·exact absurd (PB) Ci
 refine rP 4 [] I ?_
 refine ck (t:=48) U (aT fun Ck=>?_) (aU fun Ck=>?_)
 ·exact absurd (n_) Ck
 refine rP 1 [] I ?_
 refine dZ (xs:=[.const (vI 0)]) (cs:=[(vI 0)]) U dp j5 U U U U (by simp [Value.cells]) U U fun J5=>?_
 refine rS (CL (CS (iG dT) J2 J8 ([0]) (some ⟨J5,0,none⟩) 1 (by rw [MR]; decide) dc) (aK (aN (n:=(iG dT).length) 3 U sm)<|aK (bk 0 U U (by simp [bJ]) U)<|aM) U) ?_
 refine rP 2 [] I ?_
 refine ck (t:=53) U (aT fun Cp=>?_) (aU fun Cp=>?_)
 ·exact absurd (MR) Cp
 refine rP 4 [] I ?_
 refine ck (t:=57) U (aT fun Cx=>?_) (aU fun Cx=>?_)
 ·exact absurd (n_) Cx
 refine rP 1 [] I ?_
 refine dZ (xs:=[.const (vI 0)]) (cs:=[(vI 0)]) U dp j5 U U U U (by simp [Value.cells]) U U fun D=>dZ (xs:=[.tmp 59,.const (vS none 0 0)]) (cs:=[(vS (some ⟨D,0,none⟩) 1 1),(vS none 0 0)]) U DE PX U U U U (by simp [Value.cells]) U U fun b=>?_
 refine j1 (es:=(([0]:List Int).map iC)) (C':=[_,(own (some ⟨D,0,none⟩) 1 3 1 (([0]:List Int).map iC)),_,_,_,_,_]) 1 U (mH bJ _) U (by show _≤maxLen; exact Nat.le_trans (m:=10) (show (1:Nat)≤10 by decide) dc) U ?_
 refine kW 3 1 ?_
 refine j1 (es:=(List.zipWith vD [([0]:List Int),([]:List Int)] [((some ⟨D,0,none⟩),1),(none,0)])) (C':=[_,(own (some ⟨b,0,none⟩) 2 29 1 (List.zipWith vD [([0]:List Int),([]:List Int)] [((some ⟨D,0,none⟩),1),(none,0)])),_,_,_,_,_,_]) 1 U (qF N3) U (by show _≤maxLen; exact Nat.le_trans (m:=10) (show (2:Nat)≤10 by decide) dc) U ?_
 refine Fx (br GY [([0]:List Int),([]:List Int)] [((some ⟨D,0,none⟩),1),(none,0)]) [2,0] [1,3,4,5,6,7] U U ?_
 refine rS (CL (zl (eu dT) ([([0]:List Int),([]:List Int)]) BV J4 KW ([((some ⟨D,0,none⟩),1),(none,0)]) (some ⟨b,0,none⟩) 2 (by rw [Ht]; decide) dc (by rw [Ht]; decide) dc (by exact FS) (by rfl)) (aK (aN (n:=(eu dT).length) 3 U (mG FS))<|aK (fM 4 U EM)<|aK (aN (n:=([([0]:List Int),([]:List Int)]).length) 1 U sm)<|aK (fM 0 U EM)<|aM) U) ?_
 refine rP 2 [] I ?_
 refine ck (t:=63) U (aT fun C0=>?_) (aU fun C0=>?_)
 ·exact absurd (Ht) C0
 refine rP 4 [] I ?_
 refine ck (t:=67) U (aT fun C1=>?_) (aU fun C1=>?_)
 ·exact absurd (n_) C1
 refine rP 4 [] I ?_
 refine ck (t:=71) U (aT fun C2=>?_) (aU fun C2=>?_)
 ·exact absurd (M5.1) C2
 refine rP 4 [] I ?_
 refine ck (t:=75) U (aT fun C3=>?_) (aU fun C3=>?_)
 ·exact absurd (M5.2) C3
 refine rP 4 [] I ?_
 refine ck (t:=79) U (aT fun Di=>?_) (aU fun Di=>?_)
 ·exact absurd (Nd.1) Di
 refine rP 4 [] I ?_
 refine RK Eq<|ak<|Q1 hQ U U U ?_
 exact cB (dq Nd.2)
end
section
open Go.RowKit
theorem GH (j:cH) (kA:OA) (kC:Nat) (az:List RA) (cA:OA) (cC:Nat) (bA:OA) (bC:Nat) (slA:OA) (slC:Nat) (drA:OA) (drC:Nat) (ha:List dG) (heA:OA) (heC:Nat) (faA:OA) (faC:Nat) (prA:OA) (prC:Nat) (hraw:q_ j az ha):
 dx Tryz.prog 3 [(vA (gG.cells (nN j kA kC cA cC bA bC slA slC drA drC heA heC faA faC prA prC)))] [(rd gN 3 2 fF),(rd kA j.Race.au.aV.length 9 (j.Race.au.aV.map ao.cells)),(rd cA j.Race.au.ar.length 2 (List.zipWith ay.cells j.Race.au.ar az)),(dL (br ay.gn j.Race.au.ar az)),(rd bA j.Race.au.ab.length 4 (j.Race.au.ab.map bI.cells)),(rd slA j.Race.bj.length 1 (j.Race.bj.map iC)),(rd drA j.Race.cq.length 1 (j.Race.cq.map iC)),(rd heA j.Race.aH.length 1 (List.zipWith de j.Race.aH ha)),(dL (br eY j.Race.aH ha)),(rd faA j.aI.length 4 (j.aI.map aS.cells)),(rd prA j.ax.length 5 (j.ax.map aZ.cells))] (vB true):=by
 refine bB kr Tryz.func3 U U fun w0 Q hQ hN=>?_
 try dsimp only
 refine WS fun _ Os=>er U fun b2=>bE 1 U<|RK Os<|WS fun _ PP=>rS (CL H0 (bq [1]) U)<|bE 1 U<|RK PP<|aj fun _ Pi=>WS fun _ H1=>eN 1 [] (mc 0 U I) U<|rS (CL (JT j kA kC az cA cC bA bC slA slC drA drC ha heA heC faA faC prA prC hraw) (bq [2,3,4,5,6,7,8,9,10,11]) U)<|rP 2 [] I ?_
 refine bU (t:=31) U (bp fun C=>?_) (bo fun C=>?_)
 ·refine bE 1 U<|bE 2 U<|RK H1<|aQ U<|WS fun _ Pl=>rP 2 [] I ?_
  refine RK Pl<|ak<|Q1 hQ U U U ?_
  rfl
 refine rP 1 [] I ?_
 have N:=hraw.small C.1
 have NN:=N.race
 have R2:=N.race.line
 have T0:=N.race.iX
 have T4:=N.race.has
 have ST:=N.race.iW
 have R6:=N.nf
 have R9:=N.np
 have M2:=(eH C.2).1
 have A8:=(eH C.2).2
 have R1:=(eQ M2).1
 have A9:=(eQ M2).2
 have Rl:=(dK R1).2.head
 unfold eL at Rl
 have T7:=A9.num
 have T6:=A9.nh
 have T5:=A8.nf
 have T8:=A8.np
 have Td:=A8.rY
 have To:=N9 C.2
 have R4:=KD C.2
 have A7:=Rj C.2
 refine bE 2 U<|RK H1<|cg U<|WK Pi<|WS fun _ Pv=>rP 1 [] (mc 0 U I) ?_
 refine cX (wh j kA kC az cA cC bA bC slA slC drA drC ha heA heC faA faC prA prC asm) (bq [1,2,3,4,5,6,7,8,9,10,11]) U fun y8 T9=>?_
 obtain ⟨Sw,TI⟩:=y8
 try dsimp only
 refine bE 5 U<|RK Pv<|WS fun _ Ck=>rP 1 [] (mc 1 U I) ?_
 refine cX (yP j kA kC az cA cC bA bC slA slC drA drC ha heA heC faA faC prA prC asm) (bq [2,3,4,5,6,7,8,9,10,11,12]) U fun R5 NZ=>?_
 obtain ⟨O,Sz,TU⟩:=R5
 try dsimp only
 have M:=NZ
 refine rP 5 [] I ?_
 refine RK Ck<|aj fun _ Cp=>WS fun _ Cx=>?_
 try dsimp only at M
 refine rP 3 [] I ?_
 refine bU (t:=48) U (bp fun B9=>?_) (bo fun B9=>?_)
 ·exact absurd (C.2) B9
 refine rP 4 [] I ?_
 refine bU (t:=52) U (bp fun CF=>?_) (bo fun CF=>?_)
 ·exact absurd (C.2) CF
 refine rP 8 [] (mc 3 U I) ?_
 refine RK Cx<|cu U (bp fun Op=>?_) (bo fun Op=>?_)
 ·exact absurd R4 om
 refine WK Cp<|WS fun _ C0=>lj (kV:=iV) U U fun A5=>?_
 try dsimp only
 refine bE 1 U<|RK C0<|WS fun _ C1=>bE 1 U<|RK C1<|aj fun _ C2=>WS fun _ C3=>rP 4 [] (mc 4 U I) ?_
 refine RK C3<|aB ?_
 skip
 have A:(0≤j.ax.length):=by exact Nat.zero_le _
 refine bT (ι:={z:Nat // (z≤j.ax.length)}) [1,3,4,6,8,63,64] [1,2,3,4,5,6,7,8,9,10,11,12,13,14,15] U U (fun z=>[(9,(vI (((iQ (rJ j) z.1).length:Nat):Int))),(65,(vI (z.1:Int)))]) (fun z=>[(jM iV A5 (cK vB (fQ j z.1)))]) (fun _=>rfl) (fun _=>rfl) (fun z=>j.ax.length-z.1) ⟨0,A⟩ (bx U) (aP [1,2,3,4,5,6,7,8,9,10,11,12,13,14,15,0]) ?_
 clear A
 rintro ⟨i,Ne⟩ J25 y
 try dsimp only
 have Te:=nk (P:=rJ j) (n:=i)
 refine WS fun _ Di=>rP 1 [] I ?_
 refine RK Di<|aj fun _ Do=>cu U (aU fun Ob=>?_) (aT fun Ob=>?_)
 ·refine WK Do<|aj fun _ AC=>aB<|WS fun _ EF=>rP 1 [] I ?_
  obtain ⟨p,hp⟩:=aJ j.ax i om
  have R3:=bK aZ.cells hp
  refine rS (IA i U (aA 14 U) BH dc om om)<|rS (lh i 0 (aZ.cells p) U cb (aA 14 U) R3 U dc U U)<|AL U HJ fun S1=>bE 1 U<|fu U LD U<|RK EF<|WS fun _ EQ=>rP 1 [] (mc 4 U I) ?_
  have Ma:i<j.ax.length:=by omega
  have g:=Cu C.2 hp
  refine eN 6 [] (mc 0 U I) U<|rS (CL (zY j kA kC az cA cC bA bC slA slC drA drC ha heA heC faA faC prA prC p.fZ p.iu p.hP asm) (bq [5,6,7,8,9,10,11,12,13,14,15]) U)<|bE 5 U<|RK EQ<|WS fun _ Eq=>eN 2 [] (mc 4 U I) U<|rS (CL (G_ j kA kC az cA cC bA bC slA slC drA drC ha heA heC faA faC prA prC (i:Int) asm) (bq [5,6,7,8,9,10,11,12,13,14,15]) U)<|rP 5 [] I ?_
  refine RK Eq ?_
  refine kD (ι:=Unit) [1,3,4,6,8,9,10,11,12,13,14,15,63,64,65] [0,1,2,3,4,5,6,7,8,9,10,11,12,13,14,15,16] U U (fun z=>[(16,(vB (rJ j i)))]) (fun z=>[]) (fun _=>rfl) (fun _=>rfl) ?_ fun K34 AO=>?_
  ·intro _
   try dsimp only
   refine kD (ι:=Unit) [1,3,4,6,8,10,11,12,13,14,15,16,63,64,65] [0,1,2,3,4,5,6,7,8,9,10,11,12,13,14,15] U U (fun z=>[(9,(vI (((iQ (rJ j) (i+1)).length:Nat):Int)))]) (fun z=>[(jM iV A5 (cK vB (fQ j (i+1))))]) (fun _=>rfl) (fun _=>rfl) ?_ fun K35 A0=>?_
   ·intro _
    try dsimp only
    refine WS fun _ S=>rP 3 [] I ?_
    refine bU (t:=107) U (bp fun o=>?_) (bo fun o=>?_)
    ·exact absurd (g.1.1) o
    refine rP 4 [] I ?_
    refine bU (t:=111) U (bp fun r=>?_) (bo fun r=>?_)
    ·exact absurd (g.1.2) r
    refine bE 2 U<|rS (BI U pT)<|rP 1 [] I ?_
    refine ck (t:=115) U (bo fun AA=>?_) (bp fun AA=>?_)
    ·refine bE 3 U<|rS (BI U (DS P_))<|rP 1 [] I ?_
     refine RK S<|cu U (fun B=>?_) (fun B=>?_)
     ·rw [Bool.not_eq_true'] at B
      exfalso; rw [zN hp] at B; exact Ol g.2 AA B
     rw [Bool.not_eq_false'] at B
     refine cf<|aL<|KK AC<|aq<|rP 2 [] I ?_
     refine aD ?_
     have b:(vI (((i+1):Nat):Int))=(vI ((i:Int)+1)):=by exact cI om
     refine a7 (y ⟨(i+1),(by first|omega|(simp only []; omega))⟩ _ _ _ U os (cw 8<|aX U b<|df.nil _) (aP [1,2,3,4,5,6,7,8,9,10,11,12,13,14,15,16]))
    refine bE 1 U<|rS (BI U pT)<|bE 1 U<|rS (BI U (DS P_))<|rP 1 [] I ?_
    refine RK S<|cu U (fun B=>?_) (fun B=>?_)
    ·rw [Bool.not_eq_true'] at B
     exfalso; rw [zN hp] at B; exact ME g.2 AA B
    rw [Bool.not_eq_false'] at B
    refine cf<|aL<|KK AC<|aq<|rP 2 [] I ?_
    refine aD ?_
    have J8:(vI (((i+1):Nat):Int))=(vI ((i:Int)+1)):=by exact cI om
    refine a7 (y ⟨(i+1),(by first|omega|(simp only []; omega))⟩ _ _ _ U os (cw 8<|aX U J8<|df.nil _) (aP [1,2,3,4,5,6,7,8,9,10,11,12,13,14,15,16]))
   refine WS fun _ S=>rP 1 [] I ?_
   refine RK S<|bQ U (fun Y=>?_) (fun Y=>?_)
   ·refine cf ?_
    rw [show fQ j i=fQ j (i+1) from yO hp (by rw [← zN hp]; simpa using Y)]
    have KW:(vI (((iQ (rJ j) (i+1)).length:Nat):Int))=(vI (((iQ (rJ j) i).length:Nat):Int)):=by exact cI (by exact yV (by simpa using Y))
    refine a7 (ic (cw 15<|aX U KW<|df.nil _) (aP [0,1,2,3,4,5,6,7,8,9,10,11,12,13,14,15,16]) (A0 ()))
   refine WS fun _ Z=>rP 3 [] (mc 0 U I) ?_
   have b:(dz (fQ j i) p.fZ true)=(fQ j (i+1)):=by exact w8 hp (by rw [← zN hp]; exact Y)
   refine il (kV:=iV) (x:=p.fZ) (C':=[_,_,_,_,_,_,_,_,_,_,_,_,_,_,_,_,(jM iV A5 (cK vB (fQ j (i+1))))]) 16 U U U U Av (gJ rM) U ((fU _ _ _ _).symm.trans (congrArg _ b)) U<|RK Z<|aq<|rP 3 [] I ?_
   refine aD ?_
   have J9:(vI (((iQ (rJ j) (i+1)).length:Nat):Int))=(vI ((((iQ (rJ j) i).length:Nat):Int)+1)):=by exact cI (by exact wb Y)
   refine a7 (ic (cw 15<|aX U J9<|df.nil _) (aP [0,1,2,3,4,5,6,7,8,9,10,11,12,13,14,15,16]) (A0 ()))
  refine aq<|rP 5 [] I ?_
  refine ck (t:=91) U (aT fun A6=>?_) (aU fun A6=>?_)
  ·refine rP 8 [] I ?_
   refine aD ?_
   have J7:(vB (rJ j i))=(vB false):=by exact cB (by exact (Kl Ma (by rw [A7] at A6; exact A6)).symm)
   refine a7 (ic (cw 15<|aX U J7<|df.nil _) (aP [0,1,2,3,4,5,6,7,8,9,10,11,12,13,14,15,16]) (AO ()))
  refine rP 2 [] I ?_
  obtain ⟨x,hx⟩:=aJ (iG j) ((iQ (rJ j) i).length) om
  have B3:=bK iC hx
  refine rS (IA ((iQ (rJ j) i).length) U (aN (n:=(iG j).length) 3 U sm) dp dc om om)<|rS (hG ((iQ (rJ j) i).length) 0 (vI x) U cb (aN (n:=(iG j).length) 3 U sm) B3 U dc U)<|rP 4 [] I ?_
  refine aD ?_
  have J6:(vB (rJ j i))=(vB (decide (x=(i:Int)))):=by exact cB (by exact (M4 Ma (by rw [A7] at hx; exact hx)).symm)
  refine a7 (ic (cw 15<|aX U J6<|df.nil _) (aP [0,1,2,3,4,5,6,7,8,9,10,11,12,13,14,15,16]) (AO ()))
 refine bL<|ai<|ai<|aG<|KK C2<|aj fun _ Z=>aj fun _ FS=>?_
 obtain rfl:i=j.ax.length:=by omega
 refine aq<|rP 5 [] (mc 3 U I) ?_
 refine RK FS<|aB ?_
 have A:(0≤j.Race.aH.length):=by exact Nat.zero_le _
 refine bT (ι:={z:Nat // (z≤j.Race.aH.length)}) [1,3,4,6,8,9,124,125] [0,1,2,3,4,5,6,7,8,9,10,11,12,13,14,15] U U (fun z=>[(126,(vI (z.1:Int)))]) (fun z=>[]) (fun _=>rfl) (fun _=>rfl) (fun z=>j.Race.aH.length-z.1) ⟨0,A⟩ (bx U) (aP [0,1,2,3,4,5,6,7,8,9,10,11,12,13,14,15]) ?_
 clear A
 rintro ⟨h,Nn⟩ J39 Cf
 try dsimp only
 refine WS fun _ Fd=>rP 1 [] I ?_
 refine RK Fd<|aj fun _ Fn=>bQ U (aT fun Ok=>?_) (aU fun Ok=>?_)
 ·refine bL<|ai<|ai<|aG<|KK Z<|WS fun _ J5=>rP 8 [] I ?_
  refine RK J5<|ak<|Q1 hQ U U U ?_
  exact cB (dq (by rw [A7]))
 refine WK Fn<|aj fun _ GE=>aB<|WS fun _ GT=>rP 1 [] I ?_
 obtain ⟨ht,J⟩:=aJ j.Race.aH h om
 obtain ⟨L,T⟩:=aJ ha h om
 have L3:(List.zipWith de j.Race.aH ha)[h]? =some (de ht L):=dC J T
 refine rS (IA h U (aA 11 U) rK dc om om)<|rS (hG h 0 (vS L.1.1 ht.length L.1.2) U cb (aA 11 U) L3 U dc U)<|bE 2 U<|RK GT<|WS fun _ Gl=>rP 1 [] I ?_
 refine RK Gl<|aj fun _ Go=>WS fun _ G5=>?_
 have R0:=NN.gj _ _ _ J T
 have R7:=R0.ot
 have R8:=(A9.gj ht (aR J)).1
 refine rP 3 [] I ?_
 refine RK G5<|aB ?_
 have A:(0≤ht.length):=by exact Nat.zero_le _
 refine bT (ι:={z:Nat // (z≤ht.length)}) [1,3,4,6,8,9,17,18,124,125,126,131,132] [0,1,2,3,4,5,6,7,8,9,10,11,12,13,14,15] U U (fun z=>[(19,(vI (((iQ (qb j ht) z.1).length:Nat):Int))),(133,(vI (z.1:Int)))]) (fun z=>[]) (fun _=>rfl) (fun _=>rfl) (fun z=>ht.length-z.1) ⟨0,A⟩ (bx U) (aP [0,1,2,3,4,5,6,7,8,9,10,11,12,13,14,15]) ?_
 clear A
 rintro ⟨q,N_⟩ J48 Ci
 try dsimp only
 have Tf:=nk (P:=qb j ht) (n:=q)
 refine WS fun _ Hi=>rP 1 [] I ?_
 refine RK Hi<|aj fun _ IO=>bQ U (aT fun Oo=>?_) (aU fun Oo=>?_)
 ·refine bL<|ai<|ai<|aG<|KK Go<|WS fun _ J4=>rP 3 [] I ?_
  obtain ⟨row,E⟩:=aJ (eu j) h om
  obtain ⟨rowa,G⟩:=aJ O h om
  have K:(List.zipWith vD (eu j) O)[h]? =some (vD row rowa):=dC E G
  refine rS (IA h U (aN (n:=(eu j).length) 0 U (mG M)) DE dc om om)<|rS (hG h 0 (vS rowa.1 row.length rowa.2) U cb (aN (n:=(eu j).length) 0 U (mG M)) K U dc U)<|rP 1 [] I ?_
  have BV:=zm C.2 J E
  refine rP 1 [] I ?_
  refine RK J4<|cu U (bp fun X=>?_) (bo fun X=>?_)
  ·exfalso; rw [zm C.2 J E,show q=ht.length by omega] at X; exact X rfl
  refine cf<|aL<|KK GE<|aq<|rP 2 [] I ?_
  refine aD ?_
  have e:(vI (((h+1):Nat):Int))=(vI ((h:Int)+1)):=by exact cI om
  refine a7 (Cf ⟨(h+1),(by first|omega|(simp only []; omega))⟩ _ _ _ U os (cw 8<|aX U e<|df.nil _) (aP [0,1,2,3,4,5,6,7,8,9,10,11,12,13,14,15]))
 refine WK IO<|aj fun _ IR=>aB<|WS fun _ Id=>rP 1 [] I ?_
 obtain ⟨d,hd⟩:=aJ ht q om
 obtain ⟨da,Qr⟩:=aJ L.2 q om
 have Qx:(List.zipWith aw.cells ht L.2)[q]? =some (aw.cells d da):=dC hd Qr
 refine rS (IA q U (show iN _ (rd L.1.1 ht.length 7 (List.zipWith aw.cells ht L.2)).holds from (cR 12 U (bM J T ct))) s8 dc om om)<|rS (lh q 0 (aO.cells (aO.mk d.Out d.c_ d.Time (cN.mk d.bw.Start d.bw.fJ (bH.mk da.1 d.bw.aa.length da.2)))) U cb (show iN _ (rd L.1.1 ht.length 7 (List.zipWith aw.cells ht L.2)).holds from (cR 12 U (bM J T ct))) Qx U dc U U)<|AL U zS fun S2=>bE 1 U<|fu U Cv U<|RK Id<|WS fun _ If=>bE 1 U<|RK If<|aj fun _ In=>WS fun _ Ja=>rP 4 [] (mc 4 U I) ?_
 refine RK Ja<|aB ?_
 have A:(0≤j.aI.length):=by exact Nat.zero_le _
 have Kf:(vB (pJ j d 0))=(vB false):=by exact cB NM
 refine bT (ι:={z:Nat // (z≤j.aI.length)}) [1,3,4,6,8,9,17,18,19,20,21,124,125,126,131,132,133,139,140] [0,1,2,3,4,5,6,7,8,9,10,11,12,13,14,15,16] U U (fun z=>[(22,(vB (pJ j d z.1))),(141,(vI (z.1:Int)))]) (fun z=>[]) (fun _=>rfl) (fun _=>rfl) (fun z=>j.aI.length-z.1) ⟨0,A⟩ (aX U Kf<|bx U) (aP [0,1,2,3,4,5,6,7,8,9,10,11,12,13,14,15,16]) ?_
 clear A
 rintro ⟨k,OR⟩ J59 H
 try dsimp only
 refine WS fun _ Jc=>rP 1 [] I ?_
 refine RK Jc<|aj fun _ Jt=>bQ U (aT fun Or=>?_) (aU fun Or=>?_)
 ·refine bL<|ai<|ai<|aG<|KK In ?_
  refine kD (ι:=Unit) [1,3,4,6,8,9,17,18,19,20,124,125,126,131,132,133] [1,2,3,4,5,6,7,8,9,10,11,12,13,14,15,16] U U (fun z=>[(22,(vB (qb j ht q))),(26,(vB (qb j ht q)))]) (fun z=>[]) (fun _=>rfl) (fun _=>rfl) ?_ fun K80 A3=>?_
  ·intro _
   try dsimp only
   refine kD (ι:=Unit) [1,3,4,6,8,9,17,18,20,22,26,124,125,126,131,132,133] [0,1,2,3,4,5,6,7,8,9,10,11,12,13,14,15] U U (fun z=>[(19,(vI (((iQ (qb j ht) (q+1)).length:Nat):Int)))]) (fun z=>[]) (fun _=>rfl) (fun _=>rfl) ?_ fun K81 A4=>?_
   ·intro _
    try dsimp only
    refine WS fun _ a=>rP 2 [] I ?_
    refine rS (BI U (DS P_))<|RK a<|cu U (fun R=>?_) (fun R=>?_)
    ·rw [Bool.not_eq_true'] at R
     exfalso; simp at R
    rw [Bool.not_eq_false'] at R
    refine cf<|aL<|KK IR<|aq<|rP 2 [] I ?_
    refine aD ?_
    have c:(vI (((q+1):Nat):Int))=(vI ((q:Int)+1)):=by exact cI om
    refine a7 (Ci ⟨(q+1),(by first|omega|(simp only []; omega))⟩ _ _ _ U os (cw 14<|aX U c<|df.nil _) (aP [0,1,2,3,4,5,6,7,8,9,10,11,12,13,14,15]))
   refine WS fun _ a=>rP 1 [] I ?_
   refine RK a<|bQ U (fun W=>?_) (fun W=>?_)
   ·refine cf ?_
    have e:(vI (((iQ (qb j ht) (q+1)).length:Nat):Int))=(vI (((iQ (qb j ht) q).length:Nat):Int)):=by exact cI (by exact yV (by simpa using W))
    refine a7 (ic (cw 17<|aX U e<|df.nil _) (aP [0,1,2,3,4,5,6,7,8,9,10,11,12,13,14,15]) (A4 ()))
   refine aq<|rP 3 [] I ?_
   refine aD ?_
   have c:(vI (((iQ (qb j ht) (q+1)).length:Nat):Int))=(vI ((((iQ (qb j ht) q).length:Nat):Int)+1)):=by exact cI (by exact wb W)
   refine a7 (ic (cw 17<|aX U c<|df.nil _) (aP [0,1,2,3,4,5,6,7,8,9,10,11,12,13,14,15]) (A4 ()))
  rw [show pJ j d k=qb j ht q from by rw [show k=j.aI.length by omega]; exact OO C.2 hd]
  refine aq<|rP 3 [] I ?_
  obtain ⟨row,E⟩:=aJ (eu j) h om
  obtain ⟨rowa,G⟩:=aJ O h om
  have K:(List.zipWith vD (eu j) O)[h]? =some (vD row rowa):=dC E G
  refine rS (IA h U (aN (n:=(eu j).length) 1 U (mG M)) DE dc om om)<|rS (hG h 0 (vS rowa.1 row.length rowa.2) U cb (aN (n:=(eu j).length) 1 U (mG M)) K U dc U) ?_
  have BV:=zm C.2 J E
  have NE:q<ht.length:=by omega
  refine rP 3 [] I ?_
  refine ck (t:=181) U (aT fun V=>?_) (aU fun V=>?_)
  ·refine rP 11 [] I ?_
   refine aD ?_
   have L2:(vB (qb j ht q))=(vB false):=by exact cB (by exact (Kl NE (by rw [BV] at V; exact V)).symm)
   refine a7 (ic (cw 17<|aX U L2<|df.nil _) (aP [1,2,3,4,5,6,7,8,9,10,11,12,13,14,15,16]) (A3 ()))
  refine bE 2 U<|rS (IA h U (aN (n:=(eu j).length) 1 U (mG M)) DE dc om om)<|rS (hG h 0 (vS rowa.1 row.length rowa.2) U cb (aN (n:=(eu j).length) 1 U (mG M)) K U dc U)<|rP 1 [] I ?_
  obtain ⟨x,hx⟩:=aJ row ((iQ (qb j ht) q).length) om
  have B3:=bK iC hx
  refine rS (IA ((iQ (qb j ht) q).length) U (show iN _ (rd rowa.1 row.length 1 (row.map iC)).holds from (fun w hw=>(fM 2 U EM) w hw _ (bM E G (by simp [M0])))) dp dc om om)<|rS (hG ((iQ (qb j ht) q).length) 0 (vI x) U cb (show iN _ (rd rowa.1 row.length 1 (row.map iC)).holds from (fun w hw=>(fM 2 U EM) w hw _ (bM E G (by simp [M0])))) B3 U dc U)<|rP 4 [] I ?_
  refine aD ?_
  have L0:(vB (qb j ht q))=(vB (decide (x=(q:Int)))):=by exact cB (by exact (M4 NE (by rw [BV] at hx; exact hx)).symm)
  refine a7 (ic (cw 17<|aX U L0<|df.nil _) (aP [1,2,3,4,5,6,7,8,9,10,11,12,13,14,15,16]) (A3 ()))
 refine WK Jt<|aj fun _ AB=>aB<|WS fun _ J2=>bE 2 U<|RK J2<|WS fun _ J3=>eN 4 [] (mc 4 U I) U<|rS (CL (zY j kA kC az cA cC bA bC slA slC drA drC ha heA heC faA faC prA prC (k:Int) (h:Int) (q:Int) asm) (bq [5,6,7,8,9,10,11,12,13,14,15]) U)<|bE 5 U<|RK J3<|aj fun _ A1=>WS fun _ A2=>rP 1 [] I ?_
 obtain ⟨f,hf⟩: ∃ f,j.aI[k]? =some f:=⟨j.aI[k]'om,e_ _⟩
 have m:=GU C.2 hf J hd
 refine rP 2 [] I ?_
 refine bU (t:=154) U (bp fun s=>?_) (bo fun s=>?_)
 ·exact absurd (m.1) s
 refine bE 1 U<|rS (BI U pT)<|rP 1 [] I ?_
 refine ck (t:=157) U (bo fun u=>?_) (bp fun u=>?_)
 ·refine bE 5 U<|RK A2<|cg U<|WK A1<|aq<|rP 2 [] I ?_
  refine bU (t:=164) U (fun D=>?_) (fun D=>?_)
  ·refine bE 9 U<|aD<|aL<|KK AB<|aq<|rP 2 [] I ?_
   refine aD ?_
   have LE:(vB (pJ j d (k+1)))=(vB true):=by exact cB (by exact (Hd hf D).symm)
   have LT:(vI (((k+1):Nat):Int))=(vI ((k:Int)+1)):=by exact cI om
   refine a7 (H ⟨(k+1),(by first|omega|(simp only []; omega))⟩ _ _ _ U os (cw 19<|aX U LE<|aX U LT<|df.nil _) (aP [0,1,2,3,4,5,6,7,8,9,10,11,12,13,14,15,16]))
  refine bE 2 U<|rS (SX (ob (kV:=iV) (x:=(k:Int)) (l:=(fQ j j.ax.length)) (f:=Value.bool) (z:=false) U U U Av (gJ rM) Su (by exact aA 16 U)) U U)<|rP 1 [] I ?_
  refine ck (t:=168) U (fun F=>?_) (fun F=>?_)
  ·refine bE 5 U<|aD<|aL<|KK AB<|aq<|rP 2 [] I ?_
   refine aD ?_
   have Lk:(vB (pJ j d (k+1)))=(vB false):=by exact cB (by exact (Im hf (by simpa using D) (by simpa using F)).symm)
   have Lo:(vI (((k+1):Nat):Int))=(vI ((k:Int)+1)):=by exact cI om
   refine a7 (H ⟨(k+1),(by first|omega|(simp only []; omega))⟩ _ _ _ U os (cw 19<|aX U Lk<|aX U Lo<|df.nil _) (aP [0,1,2,3,4,5,6,7,8,9,10,11,12,13,14,15,16]))
  refine bE 1 U<|rS (BI U pT)<|bE 3 U<|aD<|aL<|KK AB<|aq<|rP 2 [] I ?_
  refine aD ?_
  have La:(vB (pJ j d (k+1)))=(vB (!(decide ((lO j (k:Int) (h:Int) (q:Int))=0)))):=by exact cB (by (rw [m.2]; exact (I7 hf (by simpa using D) F).symm))
  have Li:(vI (((k+1):Nat):Int))=(vI ((k:Int)+1)):=by exact cI om
  refine a7 (H ⟨(k+1),(by first|omega|(simp only []; omega))⟩ _ _ _ U os (cw 19<|aX U La<|aX U Li<|df.nil _) (aP [0,1,2,3,4,5,6,7,8,9,10,11,12,13,14,15,16]))
 refine eN 1 [] (mc 0 U I) U<|rS (CL (HH d.Out d.c_ d.Time (cN.mk d.bw.Start d.bw.fJ (bH.mk da.1 d.bw.aa.length da.2))) (aM) U)<|rP 3 [] I ?_
 refine RK A2<|cu U (bp fun v=>?_) (bo fun v=>?_)
 ·exact absurd (m.2.trans (o2 v)) u
 refine WK A1<|aq<|rP 2 [] I ?_
 refine bU (t:=164) U (fun D=>?_) (fun D=>?_)
 ·refine bE 9 U<|aD<|aL<|KK AB<|aq<|rP 2 [] I ?_
  refine aD ?_
  have Kn:(vB (pJ j d (k+1)))=(vB true):=by exact cB (by exact (Hd hf D).symm)
  have K0:(vI (((k+1):Nat):Int))=(vI ((k:Int)+1)):=by exact cI om
  refine a7 (H ⟨(k+1),(by first|omega|(simp only []; omega))⟩ _ _ _ U os (cw 19<|aX U Kn<|aX U K0<|df.nil _) (aP [0,1,2,3,4,5,6,7,8,9,10,11,12,13,14,15,16]))
 refine bE 2 U<|rS (SX (ob (kV:=iV) (x:=(k:Int)) (l:=(fQ j j.ax.length)) (f:=Value.bool) (z:=false) U U U Av (gJ rM) Su (by exact aA 16 U)) U U)<|rP 1 [] I ?_
 refine ck (t:=168) U (fun F=>?_) (fun F=>?_)
 ·refine bE 5 U<|aD<|aL<|KK AB<|aq<|rP 2 [] I ?_
  refine aD ?_
  have K8:(vB (pJ j d (k+1)))=(vB false):=by exact cB (by exact (Im hf (by simpa using D) (by simpa using F)).symm)
  have LA:(vI (((k+1):Nat):Int))=(vI ((k:Int)+1)):=by exact cI om
  refine a7 (H ⟨(k+1),(by first|omega|(simp only []; omega))⟩ _ _ _ U os (cw 19<|aX U K8<|aX U LA<|df.nil _) (aP [0,1,2,3,4,5,6,7,8,9,10,11,12,13,14,15,16]))
 refine bE 1 U<|rS (BI U pT)<|bE 3 U<|aD<|aL<|KK AB<|aq<|rP 2 [] I ?_
 refine aD ?_
 have K4:(vB (pJ j d (k+1)))=(vB (!(decide ((lO j (k:Int) (h:Int) (q:Int))=0)))):=by exact cB (by (rw [m.2]; exact (I7 hf (by simpa using D) F).symm))
 have K5:(vI (((k+1):Nat):Int))=(vI ((k:Int)+1)):=by exact cI om
 refine a7 (H ⟨(k+1),(by first|omega|(simp only []; omega))⟩ _ _ _ U os (cw 19<|aX U K4<|aX U K5<|df.nil _) (aP [0,1,2,3,4,5,6,7,8,9,10,11,12,13,14,15,16]))
end
section
open Go.RowKit
def e8 {α:Type} (cells:α→List Value) (sz:Nat) (R:World→α→Prop) (w:World) (s:bH):Prop:= ∃ l:List α,s.n=l.length∧(rd s.a l.length sz (l.map cells)).holds w∧(∀ x∈l,R w x)∧l.length≤maxLen∧s.n≤s.c
theorem uZ {w:World} {R:World→cQ→Prop}: ∀ {l:List du},(∀ x∈l,e8 cQ.cells 3 R w x.bG)→ ∃ (ms:List ay) (az:List RA),l.map du.cells=List.zipWith ay.cells ms az∧ms.length=l.length∧az.length=l.length∧(∀ X∈br ay.gn ms az,X.holds w)∧
 (∀ (k:Nat) m (a:RA),ms[k]? =some m→az[k]? =some a→m.bG.length≤a.2∧m.bG.length≤9223372036854775807)∧ms.map (fun m=>m.dj)=l.map (fun x=>x.dj)∧ ∀ (k:Nat) m y,ms[k]? =some m→y∈m.bG→R w y
 |[],_=>⟨[],[],rfl,rfl,rfl,(fun X hX=>by cases hX),(fun k m a h=>by simp at h),rfl,(fun k m y h=>by simp at h)⟩
 |x::l,h=>by
  obtain ⟨ms,az,E,F,G,H,AA,J,K⟩:=uZ (fun y hy=>h y (dJ _ hy))
  obtain ⟨sy,A,B,C,D,L⟩:=h x sm
  have e4':sy.length≤9223372036854775807:=D
  refine ⟨⟨x.dj,sy⟩::ms,(x.bG.a,x.bG.c)::az,?_,by simp [F],by simp [G],fun X hX=>?_,fun k m a hm ha=>?_,by simp [J],fun k m y hm hy=>?_⟩
  ·obtain ⟨dr,⟨a,n,c⟩⟩:=x
   simp only at A
   subst A
   simp only [List.map_cons,List.zipWith_cons_cons,E]
   rfl
  ·rcases gR.1 hX with hX|hX
   ·simp only [ay.gn,cd] at hX
    subst hX; exact B
   ·exact H X hX
  ·cases k with
   |zero=>
    simp only [List.getElem?_cons_zero,Option.some.injEq] at hm ha
    subst hm ha
    exact ⟨by simp only; omega,e4'⟩
   |succ k=>exact AA k m a (by simpa using hm) (by simpa using ha)
  ·cases k with
   |zero=>
    simp only [List.getElem?_cons_zero,Option.some.injEq] at hm
    subst hm
    exact C y hy
   |succ k=>exact K k m y (by simpa using hm) hy
theorem GB {w:World} {s:cV} {R1:World→ao→Prop} {R2:World→du→Prop} {R3:World→bI→Prop} {R4:World→cQ→Prop} (h1:e8 ao.cells 9 R1 w s.aV.j8) (hs: ∀ x,R1 w x→0≤x.iY∧x.iY≤255) (h2:e8 du.cells 2 R2 w s.ar) (hc: ∀ x,R2 w x→e8 cQ.cells 3 R4 w x.bG) (h3:e8 bI.cells 4 R3 w s.ab):
 ∃ (l:bg) (az:List RA) (kA:OA) (kC:Nat) (cA:OA) (cC:Nat) (bA:OA) (bC:Nat),s=cV.mk (bZ.mk (bH.mk kA l.aV.length kC)) l.ku (bH.mk cA l.ar.length cC) (bH.mk bA l.ab.length bC) l.cD l.iI l.eP∧sS l az∧
  ((rd kA l.aV.length 9 (l.aV.map ao.cells)).holds w∧(rd cA l.ar.length 2 (List.zipWith ay.cells l.ar az)).holds w∧(dL (br ay.gn l.ar az)).holds w∧(rd bA l.ab.length 4 (l.ab.map bI.cells)).holds w)∧l.ku=s.ku∧l.cD=s.cD∧l.iI=s.iI∧l.eP=s.eP:=by
 obtain ⟨⟨⟨ka,kn,kc⟩⟩,fa,⟨ca,cn,cc⟩,⟨ba,bn,bc⟩,fi,fk,mi⟩:=s
 obtain ⟨ts,E,M,N,O,T⟩:=h1
 obtain ⟨cs,B,C,H,AA,R⟩:=h2
 obtain ⟨bs,A,F,P,G,Q⟩:=h3
 simp only at E B A
 subst E B A
 obtain ⟨ms,az,J,D,S,K,L,_⟩:=uZ (fun x hx=>hc x (H x hx))
 have t4':ts.length≤9223372036854775807:=O
 have c4':cs.length≤9223372036854775807:=AA
 have b4':bs.length≤9223372036854775807:=G
 refine ⟨⟨ts,fa,ms,bs,fi,fk,mi⟩,az,ka,kc,ca,cc,ba,bc,by simp only [D],⟨t4',fun x hx=>hs x (N x hx),by simp only; omega,by simp only; omega,b4',L⟩,⟨M,?_,K,F⟩,U,U,U,U⟩
 simp only at C ⊢
 rw [D,← J]; exact C
end
section
open Go.RowKit
theorem wP {w:World} {R:World→aF→Prop}: ∀ {l:List aO},(∀ x∈l,e8 aF.cells 2 R w x.bw.aa)→ ∃ (ms:List aw) (az:List RA),l.map aO.cells=List.zipWith aw.cells ms az∧ms.length=l.length∧az.length=l.length∧(∀ X∈br aw.gn ms az,X.holds w)∧
 ∀ d∈ms,d.bw.aa.length≤9223372036854775807
 |[],_=>⟨[],[],rfl,rfl,rfl,(fun X hX=>by cases hX),fun d h=>by cases h⟩
 |x::l,h=>by
  obtain ⟨ms,az,D,E,F,G,H⟩:=wP (fun y hy=>h y (dJ _ hy))
  obtain ⟨sg,A,B,AA,C,J⟩:=h x sm
  have e4':sg.length≤9223372036854775807:=C
  refine ⟨⟨x.Out,x.c_,x.Time,⟨x.bw.Start,x.bw.fJ,sg⟩⟩::ms,(x.bw.aa.a,x.bw.aa.c)::az,?_,by simp [E],by simp [F],fun X hX=>?_,fun d hd=>?_⟩
  ·obtain ⟨o,f,t,⟨st,nw,⟨a,n,c⟩⟩⟩:=x
   simp only at A
   subst A
   simp only [List.map_cons,List.zipWith_cons_cons,D]
   rfl
  ·rcases gR.1 hX with hX|hX
   ·simp only [aw.gn,cd] at hX
    subst hX; exact B
   ·exact G X hX
  ·rcases bO.1 hd with rfl|hd
   ·exact e4'
   ·exact H d hd
theorem wx {w:World} {R2:World→aO→Prop} {R:World→aF→Prop} (hc: ∀ x,R2 w x→e8 aF.cells 2 R w x.bw.aa): ∀ {l:List bH},(∀ x∈l,e8 aO.cells 7 R2 w x)→ ∃ (ms:List (List aw)) (ha:List dG),(l.map fun s=>[vS s.a s.n s.c])=List.zipWith de ms ha∧ms.length=l.length∧ha.length=l.length∧(∀ X∈br eY ms ha,X.holds w)∧
 ∀ (k:Nat) h (a:dG),ms[k]? =some h→ha[k]? =some a→h.length≤9223372036854775807∧a.2.length=h.length∧ ∀ d∈h,d.bw.aa.length≤9223372036854775807
 |[],_=>⟨[],[],rfl,rfl,rfl,(fun X hX=>by cases hX),(fun k h a q=>by simp at q)⟩
 |x::l,h=>by
  obtain ⟨ms,ha,J,K,L,M,N⟩:=wx hc (fun y hy=>h y (dJ _ hy))
  obtain ⟨ds,C,G,H,AA,P⟩:=h x sm
  obtain ⟨dm,az,D,B,O,E,F⟩:=wP fun y hy=>hc y (H y hy)
  have e4':ds.length≤9223372036854775807:=AA
  refine ⟨dm::ms,((x.a,x.c),az)::ha,?_,by simp [K],by simp [L],fun X hX=>?_,fun k m a hm A=>?_⟩
  ·obtain ⟨a,n,c⟩:=x
   simp only at C
   subst C
   simp only [List.map_cons,List.zipWith_cons_cons,J,de,B]
  ·rcases gR.1 hX with hX|hX
   ·unfold eY at hX
    rcases bO.1 hX with rfl|hX
    ·simp only
     rw [B,← D]; exact G
    ·exact E X hX
   ·exact M X hX
  ·cases k with
   |zero=>
    simp only [List.getElem?_cons_zero,Option.some.injEq] at hm A
    subst hm A
    exact ⟨om,by simp only; omega,F⟩
   |succ k=>exact N k m a (by simpa using hm) (by simpa using A)
theorem GP {w:World} {s:ig} {R1:World→ao→Prop} {R2:World→du→Prop} {R3:World→bI→Prop} {R4:World→cQ→Prop} {R5:World→Int→Prop} {R6:World→bH→Prop} {R7:World→aO→Prop} {R8:World→aF→Prop}
 (h1:e8 ao.cells 9 R1 w s.au.aV.j8) (hs: ∀ x,R1 w x→0≤x.iY∧x.iY≤255) (h2:e8 du.cells 2 R2 w s.au.ar) (hc: ∀ x,R2 w x→e8 cQ.cells 3 R4 w x.bG) (h3:e8 bI.cells 4 R3 w s.au.ab)
 (h4:e8 iC 1 R5 w s.bj) (h5:e8 iC 1 R5 w s.cq) (h6:e8 (fun s=>[vS s.a s.n s.c]) 1 R6 w s.aH) (h7: ∀ x,R6 w x→e8 aO.cells 7 R7 w x) (h8: ∀ x,R7 w x→e8 aF.cells 2 R8 w x.bw.aa):
 ∃ (r:eV) (az:List RA) (ha:List dG) (kA:OA) (kC:Nat) (cA:OA) (cC:Nat) (bA:OA) (bC:Nat) (slA:OA) (slC:Nat) (drA:OA) (drC:Nat) (heA:OA) (heC:Nat),
  s=ig.mk (cV.mk (bZ.mk (bH.mk kA r.au.aV.length kC)) r.au.ku (bH.mk cA r.au.ar.length cC) (bH.mk bA r.au.ab.length bC) r.au.cD r.au.iI r.au.eP) (bH.mk slA r.bj.length slC) (bH.mk drA r.cq.length drC) r.qe (bH.mk heA r.aH.length heC)∧tx r az ha∧
  ((rd kA r.au.aV.length 9 (r.au.aV.map ao.cells)).holds w∧(rd cA r.au.ar.length 2 (List.zipWith ay.cells r.au.ar az)).holds w∧(dL (br ay.gn r.au.ar az)).holds w∧(rd bA r.au.ab.length 4 (r.au.ab.map bI.cells)).holds w∧
   (rd slA r.bj.length 1 (r.bj.map iC)).holds w∧(rd drA r.cq.length 1 (r.cq.map iC)).holds w∧(rd heA r.aH.length 1 (List.zipWith de r.aH ha)).holds w∧(dL (br eY r.aH ha)).holds w):=by
 obtain ⟨ln,⟨sa,sn,sc⟩,⟨da,dn,dc⟩,tu,⟨ea,en,ec⟩⟩:=s
 obtain ⟨l,az,kA,kC,cA,cC,bA,bC,e,A,hh,_⟩:=GB (s:=ln) h1 hs h2 hc h3
 subst e
 obtain ⟨sl,F,N,T,O,AA⟩:=h4
 obtain ⟨dr,B,G,P,H,Q⟩:=h5
 obtain ⟨he,D,E,L,M,S⟩:=h6
 obtain ⟨ms,ha,AB,C,R,J,K⟩:=wx h8 (fun x hx=>h7 x (L x hx))
 simp only at F B D
 subst F B D
 have s4':sl.length≤9223372036854775807:=O
 have d4':dr.length≤9223372036854775807:=H
 have q4':he.length≤9223372036854775807:=M
 refine ⟨⟨l,sl,dr,tu,ms⟩,az,ha,kA,kC,cA,cC,bA,bC,sa,sc,da,dc,ea,ec,by simp only [C],⟨A,s4',d4',by simp only; omega,by simp only; omega,K⟩,hh.1,hh.2.1,hh.2.2.1,hh.2.2.2,N,G,?_,J⟩
 simp only at E ⊢
 rw [C,← AB]; exact E
end
section
open Go.RowKit
theorem FJ {w:World} {s:gG} {R1:World→ao→Prop} {R2:World→du→Prop} {R3:World→bI→Prop} {R4:World→cQ→Prop} {R5:World→Int→Prop} {R6:World→bH→Prop} {R7:World→aO→Prop} {R8:World→aF→Prop} {R9:World→aS→Prop} {R10:World→aZ→Prop}
 (h1:e8 ao.cells 9 R1 w s.Race.au.aV.j8) (hs: ∀ x,R1 w x→0≤x.iY∧x.iY≤255) (h2:e8 du.cells 2 R2 w s.Race.au.ar) (hc: ∀ x,R2 w x→e8 cQ.cells 3 R4 w x.bG) (h3:e8 bI.cells 4 R3 w s.Race.au.ab)
 (h4:e8 iC 1 R5 w s.Race.bj) (h5:e8 iC 1 R5 w s.Race.cq) (h6:e8 (fun s=>[vS s.a s.n s.c]) 1 R6 w s.Race.aH) (h7: ∀ x,R6 w x→e8 aO.cells 7 R7 w x) (h8: ∀ x,R7 w x→e8 aF.cells 2 R8 w x.bw.aa)
 (h9:e8 aS.cells 4 R9 w s.aI) (hk: ∀ x,R9 w x→0≤x.Kind∧x.Kind≤255) (h10:e8 aZ.cells 5 R10 w s.ax):
 ∃ (j:cH) (az:List RA) (ha:List dG) (kA:OA) (kC:Nat) (cA:OA) (cC:Nat) (bA:OA) (bC:Nat) (slA:OA) (slC:Nat) (drA:OA) (drC:Nat) (heA:OA) (heC:Nat) (faA:OA) (faC:Nat) (prA:OA) (prC:Nat),
  s=gG.mk (ig.mk (cV.mk (bZ.mk (bH.mk kA j.Race.au.aV.length kC)) j.Race.au.ku (bH.mk cA j.Race.au.ar.length cC) (bH.mk bA j.Race.au.ab.length bC) j.Race.au.cD j.Race.au.iI j.Race.au.eP) (bH.mk slA j.Race.bj.length slC) (bH.mk drA j.Race.cq.length drC) j.Race.qe (bH.mk heA j.Race.aH.length heC)) (bH.mk faA j.aI.length faC) (bH.mk prA j.ax.length prC) j.gV j.Cf∧q_ j az ha∧
  ((rd kA j.Race.au.aV.length 9 (j.Race.au.aV.map ao.cells)).holds w∧(rd cA j.Race.au.ar.length 2 (List.zipWith ay.cells j.Race.au.ar az)).holds w∧(dL (br ay.gn j.Race.au.ar az)).holds w∧(rd bA j.Race.au.ab.length 4 (j.Race.au.ab.map bI.cells)).holds w∧
   (rd slA j.Race.bj.length 1 (j.Race.bj.map iC)).holds w∧(rd drA j.Race.cq.length 1 (j.Race.cq.map iC)).holds w∧(rd heA j.Race.aH.length 1 (List.zipWith de j.Race.aH ha)).holds w∧(dL (br eY j.Race.aH ha)).holds w∧
   (rd faA j.aI.length 4 (j.aI.map aS.cells)).holds w∧(rd prA j.ax.length 5 (j.ax.map aZ.cells)).holds w):=by
 obtain ⟨rc,⟨fa,fn,fc⟩,⟨pa,pn,pc⟩,mi,fe⟩:=s
 obtain ⟨r,az,ha,kA,kC,cA,cC,bA,bC,slA,slC,drA,drC,heA,heC,e,A,hm⟩:=GP (s:=rc) h1 hs h2 hc h3 h4 h5 h6 h7 h8
 subst e
 obtain ⟨fl,B,D,E,F,AA⟩:=h9
 obtain ⟨pr,C,G,J,H,K⟩:=h10
 simp only at B C
 subst B C
 have f4':fl.length≤9223372036854775807:=F
 have p4':pr.length≤9223372036854775807:=H
 exact ⟨⟨r,fl,pr,mi,fe⟩,az,ha,kA,kC,cA,cC,bA,bC,slA,slC,drA,drC,heA,heC,fa,fc,pa,pc,U,⟨A,f4',p4',fun f hf=>hk f (E f hf)⟩,hm.1,hm.2.1,hm.2.2.1,hm.2.2.2.1,hm.2.2.2.2.1,hm.2.2.2.2.2.1,hm.2.2.2.2.2.2.1,hm.2.2.2.2.2.2.2,D,G⟩
end
section
open Go.ChangeShapes Go.WideShapes Go.ChangeAt Go.RowKit
theorem S4:Tryz.prog.cellsOf 36=15:=by kernel_rfl
theorem PR:Tryz.prog.cellsOf 32=11:=by kernel_rfl
theorem PW:Tryz.prog.cellsOf 28=7:=by kernel_rfl
theorem P0:Tryz.prog.cellsOf 24=1:=by kernel_rfl
theorem Us:Tryz.prog.cellsOf 22=1:=by kernel_rfl
theorem M_:Tryz.prog.cellsOf 118=9:=by kernel_rfl
theorem uf:Tryz.prog.cellsOf 3=1:=by kernel_rfl
def sJ (w:World) (n:Int):Prop:=qP n
theorem ue:qH Tryz.prog 3 Int iC sJ:=Pk rM
theorem CV:Tryz.prog.cellsOf 53=2:=by kernel_rfl
structure Db (w:World) (s:ag):Prop where
 Lo:sJ w s.Lo
 Hi:sJ w s.Hi
theorem SF:fL Tryz.prog 53=some [(3,0),(3,1)]:=by kernel_rfl
theorem F3:qH Tryz.prog 53 ag ag.cells Db:=fun {H} enc w base sp A fuel cs x h=>by
 obtain ⟨hl,hp⟩:=iD SF h
 obtain ⟨M,O,F⟩:=hp 0 3 0 rfl
 obtain ⟨K,B,AA⟩:=ue _ _ _ _ _ _ _ _ F
 obtain ⟨N,P,G⟩:=hp 1 3 1 rfl
 obtain ⟨L,C,J⟩:=ue _ _ _ _ _ _ _ _ G
 refine ⟨⟨K,L⟩,?_,⟨AA,J⟩⟩
 have E:=fT (hl.trans CV) (by rw [uf]) C
 have D:=cz B (m:=1) (by rw [uf]) E
 exact D
theorem Uz:Tryz.prog.cellsOf 5=1:=by kernel_rfl
def Ua (w:World) (n:Int):Prop:=0≤n∧n≤255
theorem UC:qH Tryz.prog 5 Int G1 Ua:=Qc OI
structure JL (w:World) (s:ao):Prop where
 Id:sJ w s.Id
 ko:Db w s.ko
 lS:Db w s.lS
 ej:Db w s.ej
 iY:Ua w s.iY
 z_:sJ w s.z_
theorem Sj:fL Tryz.prog 118=some [(3,0),(53,1),(53,3),(53,5),(5,7),(3,8)]:=by kernel_rfl
theorem RE:qH Tryz.prog 118 ao ao.cells JL:=fun {H} enc w base sp A fuel cs x h=>by
 obtain ⟨hl,hp⟩:=iD Sj h
 obtain ⟨g,o,O⟩:=hp 0 3 0 rfl
 obtain ⟨a,B,AA⟩:=ue _ _ _ _ _ _ _ _ O
 obtain ⟨i,p,P⟩:=hp 1 53 1 rfl
 obtain ⟨b,C,V⟩:=F3 _ _ _ _ _ _ _ _ P
 obtain ⟨j,q,Q⟩:=hp 2 53 3 rfl
 obtain ⟨c,D,W⟩:=F3 _ _ _ _ _ _ _ _ Q
 obtain ⟨k,r,R⟩:=hp 3 53 5 rfl
 obtain ⟨d,E,X⟩:=F3 _ _ _ _ _ _ _ _ R
 obtain ⟨l,s,S⟩:=hp 4 5 7 rfl
 obtain ⟨e,F,Y⟩:=UC _ _ _ _ _ _ _ _ S
 obtain ⟨n,t,T⟩:=hp 5 3 8 rfl
 obtain ⟨f,G,Z⟩:=ue _ _ _ _ _ _ _ _ T
 refine ⟨⟨a,b,c,d,e,f⟩,?_,⟨AA,V,W,X,Y,Z⟩⟩
 have N:=fT (hl.trans M_) (by rw [uf]) G
 have M:=cz F (m:=8) (by rw [Uz]) N
 have L:=cz E (m:=7) (by rw [CV]) M
 have K:=cz D (m:=5) (by rw [CV]) L
 have J:=cz C (m:=3) (by rw [CV]) K
 have AB:=cz B (m:=1) (by rw [uf]) J
 exact AB
def P2 (w:World) (s:bH):Prop:= ∃ l:List ao,s.n=l.length∧(rd s.a l.length 9 (l.map ao.cells)).holds w∧(∀ x∈l,JL w x)∧l.length≤maxLen∧s.n≤s.c
theorem SW:qH Tryz.prog 22 bH (fun s=>[vS s.a s.n s.c]) P2:=km Ri M_ RE
structure QR (w:World) (s:bZ):Prop where
 j8:P2 w s.j8
theorem Tn:fL Tryz.prog 24=some [(22,0)]:=by kernel_rfl
theorem T2:qH Tryz.prog 24 bZ bZ.cells QR:=fun {H} enc w base sp A fuel cs x h=>by
 obtain ⟨hl,hp⟩:=iD Tn h
 obtain ⟨G,AA,D⟩:=hp 0 22 0 rfl
 obtain ⟨F,B,E⟩:=SW _ _ _ _ _ _ _ _ D
 refine ⟨⟨F⟩,?_,⟨E⟩⟩
 have C:=fT (hl.trans P0) (by rw [Us]) B
 exact C
theorem SG:Tryz.prog.cellsOf 25=1:=by kernel_rfl
theorem Rs:Tryz.prog.cellsOf 73=2:=by kernel_rfl
theorem TD:Tryz.prog.cellsOf 71=1:=by kernel_rfl
theorem Qb:Tryz.prog.cellsOf 75=3:=by kernel_rfl
structure Pc (w:World) (s:cQ):Prop where
 At:sJ w s.At
 eh:Db w s.eh
theorem Ug:fL Tryz.prog 75=some [(3,0),(53,1)]:=by kernel_rfl
theorem Ty:qH Tryz.prog 75 cQ cQ.cells Pc:=fun {H} enc w base sp A fuel cs x h=>by
 obtain ⟨hl,hp⟩:=iD Ug h
 obtain ⟨M,O,F⟩:=hp 0 3 0 rfl
 obtain ⟨K,B,AA⟩:=ue _ _ _ _ _ _ _ _ F
 obtain ⟨N,P,G⟩:=hp 1 53 1 rfl
 obtain ⟨L,C,J⟩:=F3 _ _ _ _ _ _ _ _ G
 refine ⟨⟨K,L⟩,?_,⟨AA,J⟩⟩
 have E:=fT (hl.trans Qb) (by rw [CV]) C
 have D:=cz B (m:=1) (by rw [uf]) E
 exact D
def Rz (w:World) (s:bH):Prop:= ∃ l:List cQ,s.n=l.length∧(rd s.a l.length 3 (l.map cQ.cells)).holds w∧(∀ x∈l,Pc w x)∧l.length≤maxLen∧s.n≤s.c
theorem T1:qH Tryz.prog 71 bH (fun s=>[vS s.a s.n s.c]) Rz:=km Ui Qb Ty
structure OB (w:World) (s:du):Prop where
 dj:sJ w s.dj
 bG:Rz w s.bG
theorem Tv:fL Tryz.prog 73=some [(3,0),(71,1)]:=by kernel_rfl
theorem SN:qH Tryz.prog 73 du du.cells OB:=fun {H} enc w base sp A fuel cs x h=>by
 obtain ⟨hl,hp⟩:=iD Tv h
 obtain ⟨M,O,F⟩:=hp 0 3 0 rfl
 obtain ⟨K,B,AA⟩:=ue _ _ _ _ _ _ _ _ F
 obtain ⟨N,P,G⟩:=hp 1 71 1 rfl
 obtain ⟨L,C,J⟩:=T1 _ _ _ _ _ _ _ _ G
 refine ⟨⟨K,L⟩,?_,⟨AA,J⟩⟩
 have E:=fT (hl.trans Rs) (by rw [TD]) C
 have D:=cz B (m:=1) (by rw [uf]) E
 exact D
def P5 (w:World) (s:bH):Prop:= ∃ l:List du,s.n=l.length∧(rd s.a l.length 2 (l.map du.cells)).holds w∧(∀ x∈l,OB w x)∧l.length≤maxLen∧s.n≤s.c
theorem Ta:qH Tryz.prog 25 bH (fun s=>[vS s.a s.n s.c]) P5:=km TB Rs SN
theorem TA:Tryz.prog.cellsOf 26=1:=by kernel_rfl
theorem Nt:Tryz.prog.cellsOf 122=4:=by kernel_rfl
theorem MY:Tryz.prog.cellsOf 120=3:=by kernel_rfl
structure Ny (w:World) (s:cy):Prop where
 bu:sJ w s.bu
 mu:Db w s.mu
theorem Sm:fL Tryz.prog 120=some [(3,0),(53,1)]:=by kernel_rfl
theorem PV:qH Tryz.prog 120 cy cy.cells Ny:=fun {H} enc w base sp A fuel cs x h=>by
 obtain ⟨hl,hp⟩:=iD Sm h
 obtain ⟨M,O,F⟩:=hp 0 3 0 rfl
 obtain ⟨K,B,AA⟩:=ue _ _ _ _ _ _ _ _ F
 obtain ⟨N,P,G⟩:=hp 1 53 1 rfl
 obtain ⟨L,C,J⟩:=F3 _ _ _ _ _ _ _ _ G
 refine ⟨⟨K,L⟩,?_,⟨AA,J⟩⟩
 have E:=fT (hl.trans MY) (by rw [CV]) C
 have D:=cz B (m:=1) (by rw [uf]) E
 exact D
structure IH (w:World) (s:bI):Prop where
 mx:Ny w s.mx
 jX:sJ w s.jX
theorem Ra:fL Tryz.prog 122=some [(120,0),(3,3)]:=by kernel_rfl
theorem Sg:qH Tryz.prog 122 bI bI.cells IH:=fun {H} enc w base sp A fuel cs x h=>by
 obtain ⟨hl,hp⟩:=iD Ra h
 obtain ⟨M,O,F⟩:=hp 0 120 0 rfl
 obtain ⟨K,B,AA⟩:=PV _ _ _ _ _ _ _ _ F
 obtain ⟨N,P,G⟩:=hp 1 3 3 rfl
 obtain ⟨L,C,J⟩:=ue _ _ _ _ _ _ _ _ G
 refine ⟨⟨K,L⟩,?_,⟨AA,J⟩⟩
 have E:=fT (hl.trans Nt) (by rw [uf]) C
 have D:=cz B (m:=3) (by rw [MY]) E
 exact D
def QB (w:World) (s:bH):Prop:= ∃ l:List bI,s.n=l.length∧(rd s.a l.length 4 (l.map bI.cells)).holds w∧(∀ x∈l,IH w x)∧l.length≤maxLen∧s.n≤s.c
theorem Th:qH Tryz.prog 26 bH (fun s=>[vS s.a s.n s.c]) QB:=km OJ Nt Sg
structure PN (w:World) (s:cV):Prop where
 aV:QR w s.aV
 ku:sJ w s.ku
 ar:P5 w s.ar
 ab:QB w s.ab
 cD:sJ w s.cD
 iI:sJ w s.iI
 eP:sJ w s.eP
theorem Tq:fL Tryz.prog 28=some [(24,0),(3,1),(25,2),(26,3),(3,4),(3,5),(3,6)]:=by kernel_rfl
theorem T_:qH Tryz.prog 28 cV cV.cells PN:=fun {H} enc w base sp A fuel cs x h=>by
 obtain ⟨hl,hp⟩:=iD Tq h
 obtain ⟨n,u,Q⟩:=hp 0 24 0 rfl
 obtain ⟨e,B,X⟩:=T2 _ _ _ _ _ _ _ _ Q
 obtain ⟨o,v,R⟩:=hp 1 3 1 rfl
 obtain ⟨f,C,Y⟩:=ue _ _ _ _ _ _ _ _ R
 obtain ⟨p,y,S⟩:=hp 2 25 2 rfl
 obtain ⟨g,D,Z⟩:=Ta _ _ _ _ _ _ _ _ S
 obtain ⟨q,z,T⟩:=hp 3 26 3 rfl
 obtain ⟨i,E,a⟩:=Th _ _ _ _ _ _ _ _ T
 obtain ⟨r,y4,AA⟩:=hp 4 3 4 rfl
 obtain ⟨j,F,b⟩:=ue _ _ _ _ _ _ _ _ AA
 obtain ⟨s,y5,V⟩:=hp 5 3 5 rfl
 obtain ⟨k,G,c⟩:=ue _ _ _ _ _ _ _ _ V
 obtain ⟨t,y6,W⟩:=hp 6 3 6 rfl
 obtain ⟨l,AB,d⟩:=ue _ _ _ _ _ _ _ _ W
 refine ⟨⟨e,f,g,i,j,k,l⟩,?_,⟨X,Y,Z,a,b,c,d⟩⟩
 have P:=fT (hl.trans PW) (by rw [uf]) AB
 have O:=cz G (m:=6) (by rw [uf]) P
 have N:=cz F (m:=5) (by rw [uf]) O
 have M:=cz E (m:=4) (by rw [TA]) N
 have L:=cz D (m:=3) (by rw [SG]) M
 have K:=cz C (m:=2) (by rw [uf]) L
 have J:=cz B (m:=1) (by rw [P0]) K
 exact J
theorem RC:Tryz.prog.cellsOf 29=1:=by kernel_rfl
def OY (w:World) (s:bH):Prop:= ∃ l:List Int,s.n=l.length∧(rd s.a l.length 1 (l.map iC)).holds w∧(∀ x∈l,sJ w x)∧l.length≤maxLen∧s.n≤s.c
theorem Qv:qH Tryz.prog 29 bH (fun s=>[vS s.a s.n s.c]) OY:=km TV uf ue
theorem Tp:Tryz.prog.cellsOf 30=1:=by kernel_rfl
theorem SL:Tryz.prog.cellsOf 51=1:=by kernel_rfl
theorem RS:Tryz.prog.cellsOf 58=7:=by kernel_rfl
theorem Ux:Tryz.prog.cellsOf 4=1:=by kernel_rfl
def SK (w:World) (n:Bool):Prop:=True
theorem Uv:qH Tryz.prog 4 Bool (fun b=>[vB b]) SK:=KT P_
theorem QL:Tryz.prog.cellsOf 56=3:=by kernel_rfl
theorem Up:Tryz.prog.cellsOf 54=1:=by kernel_rfl
theorem Ru:Tryz.prog.cellsOf 78=2:=by kernel_rfl
structure O2 (w:World) (s:aF):Prop where
 eZ:sJ w s.eZ
 Read:sJ w s.Read
theorem Ut:fL Tryz.prog 78=some [(3,0),(3,1)]:=by kernel_rfl
theorem Ue:qH Tryz.prog 78 aF aF.cells O2:=fun {H} enc w base sp A fuel cs x h=>by
 obtain ⟨hl,hp⟩:=iD Ut h
 obtain ⟨M,O,F⟩:=hp 0 3 0 rfl
 obtain ⟨K,B,AA⟩:=ue _ _ _ _ _ _ _ _ F
 obtain ⟨N,P,G⟩:=hp 1 3 1 rfl
 obtain ⟨L,C,J⟩:=ue _ _ _ _ _ _ _ _ G
 refine ⟨⟨K,L⟩,?_,⟨AA,J⟩⟩
 have E:=fT (hl.trans Ru) (by rw [uf]) C
 have D:=cz B (m:=1) (by rw [uf]) E
 exact D
def RB (w:World) (s:bH):Prop:= ∃ l:List aF,s.n=l.length∧(rd s.a l.length 2 (l.map aF.cells)).holds w∧(∀ x∈l,O2 w x)∧l.length≤maxLen∧s.n≤s.c
theorem TS:qH Tryz.prog 54 bH (fun s=>[vS s.a s.n s.c]) RB:=km S7 Ru Ue
structure RW (w:World) (s:cN):Prop where
 Start:sJ w s.Start
 fJ:sJ w s.fJ
 aa:RB w s.aa
theorem TZ:fL Tryz.prog 56=some [(3,0),(3,1),(54,2)]:=by kernel_rfl
theorem S8:qH Tryz.prog 56 cN cN.cells RW:=fun {H} enc w base sp A fuel cs x h=>by
 obtain ⟨hl,hp⟩:=iD TZ h
 obtain ⟨R,AA,AB⟩:=hp 0 3 0 rfl
 obtain ⟨O,B,L⟩:=ue _ _ _ _ _ _ _ _ AB
 obtain ⟨S,V,J⟩:=hp 1 3 1 rfl
 obtain ⟨P,C,M⟩:=ue _ _ _ _ _ _ _ _ J
 obtain ⟨T,W,K⟩:=hp 2 54 2 rfl
 obtain ⟨Q,D,N⟩:=TS _ _ _ _ _ _ _ _ K
 refine ⟨⟨O,P,Q⟩,?_,⟨L,M,N⟩⟩
 have G:=fT (hl.trans QL) (by rw [Up]) D
 have F:=cz C (m:=2) (by rw [uf]) G
 have E:=cz B (m:=1) (by rw [uf]) F
 exact E
structure Ps (w:World) (s:aO):Prop where
 Out:SK w s.Out
 c_:SK w s.c_
 Time:Db w s.Time
 bw:RW w s.bw
theorem S6:fL Tryz.prog 58=some [(4,0),(4,1),(53,2),(56,4)]:=by kernel_rfl
theorem TL:qH Tryz.prog 58 aO aO.cells Ps:=fun {H} enc w base sp A fuel cs x h=>by
 obtain ⟨hl,hp⟩:=iD S6 h
 obtain ⟨W,a,K⟩:=hp 0 4 0 rfl
 obtain ⟨S,B,O⟩:=Uv _ _ _ _ _ _ _ _ K
 obtain ⟨X,b,L⟩:=hp 1 4 1 rfl
 obtain ⟨T,C,P⟩:=Uv _ _ _ _ _ _ _ _ L
 obtain ⟨Y,c,M⟩:=hp 2 53 2 rfl
 obtain ⟨AA,D,Q⟩:=F3 _ _ _ _ _ _ _ _ M
 obtain ⟨Z,d,N⟩:=hp 3 56 4 rfl
 obtain ⟨V,E,R⟩:=S8 _ _ _ _ _ _ _ _ N
 refine ⟨⟨S,T,AA,V⟩,?_,⟨O,P,Q,R⟩⟩
 have J:=fT (hl.trans RS) (by rw [QL]) E
 have AB:=cz D (m:=4) (by rw [CV]) J
 have G:=cz C (m:=2) (by rw [Ux]) AB
 have F:=cz B (m:=1) (by rw [Ux]) G
 exact F
def NL (w:World) (s:bH):Prop:= ∃ l:List aO,s.n=l.length∧(rd s.a l.length 7 (l.map aO.cells)).holds w∧(∀ x∈l,Ps w x)∧l.length≤maxLen∧s.n≤s.c
theorem SS:qH Tryz.prog 51 bH (fun s=>[vS s.a s.n s.c]) NL:=km TH RS TL
def QP (w:World) (s:bH):Prop:= ∃ l:List bH,s.n=l.length∧(rd s.a l.length 1 (l.map (fun s=>[vS s.a s.n s.c]))).holds w∧(∀ x∈l,NL w x)∧l.length≤maxLen∧s.n≤s.c
theorem Tc:qH Tryz.prog 30 bH (fun s=>[vS s.a s.n s.c]) QP:=km SU SL SS
structure Qw (w:World) (s:ig):Prop where
 au:PN w s.au
 bj:OY w s.bj
 cq:OY w s.cq
 qe:sJ w s.qe
 aH:QP w s.aH
theorem Tj:fL Tryz.prog 32=some [(28,0),(29,7),(29,8),(3,9),(30,10)]:=by kernel_rfl
theorem SM:qH Tryz.prog 32 ig ig.cells Qw:=fun {H} enc w base sp A fuel cs x h=>by
 obtain ⟨hl,hp⟩:=iD Tj h
 obtain ⟨b,g,M⟩:=hp 0 28 0 rfl
 obtain ⟨W,B,R⟩:=T_ _ _ _ _ _ _ _ _ M
 obtain ⟨c,i,N⟩:=hp 1 29 7 rfl
 obtain ⟨X,C,S⟩:=Qv _ _ _ _ _ _ _ _ N
 obtain ⟨d,j,O⟩:=hp 2 29 8 rfl
 obtain ⟨Y,D,T⟩:=Qv _ _ _ _ _ _ _ _ O
 obtain ⟨e,k,P⟩:=hp 3 3 9 rfl
 obtain ⟨Z,E,AA⟩:=ue _ _ _ _ _ _ _ _ P
 obtain ⟨f,l,Q⟩:=hp 4 30 10 rfl
 obtain ⟨a,F,V⟩:=Tc _ _ _ _ _ _ _ _ Q
 refine ⟨⟨W,X,Y,Z,a⟩,?_,⟨R,S,T,AA,V⟩⟩
 have L:=fT (hl.trans PR) (by rw [Tp]) F
 have K:=cz E (m:=10) (by rw [uf]) L
 have J:=cz D (m:=9) (by rw [RC]) K
 have AB:=cz C (m:=8) (by rw [RC]) J
 have G:=cz B (m:=7) (by rw [PW]) AB
 exact G
theorem Tu:Tryz.prog.cellsOf 33=1:=by kernel_rfl
theorem QQ:Tryz.prog.cellsOf 80=4:=by kernel_rfl
structure O_ (w:World) (s:aS):Prop where
 Kind:Ua w s.Kind
 g9:sJ w s.g9
 l_:sJ w s.l_
 To:sJ w s.To
theorem TX:fL Tryz.prog 80=some [(5,0),(3,1),(3,2),(3,3)]:=by kernel_rfl
theorem SY:qH Tryz.prog 80 aS aS.cells O_:=fun {H} enc w base sp A fuel cs x h=>by
 obtain ⟨hl,hp⟩:=iD TX h
 obtain ⟨W,a,K⟩:=hp 0 5 0 rfl
 obtain ⟨S,B,O⟩:=UC _ _ _ _ _ _ _ _ K
 obtain ⟨X,b,L⟩:=hp 1 3 1 rfl
 obtain ⟨T,C,P⟩:=ue _ _ _ _ _ _ _ _ L
 obtain ⟨Y,c,M⟩:=hp 2 3 2 rfl
 obtain ⟨AA,D,Q⟩:=ue _ _ _ _ _ _ _ _ M
 obtain ⟨Z,d,N⟩:=hp 3 3 3 rfl
 obtain ⟨V,E,R⟩:=ue _ _ _ _ _ _ _ _ N
 refine ⟨⟨S,T,AA,V⟩,?_,⟨O,P,Q,R⟩⟩
 have J:=fT (hl.trans QQ) (by rw [uf]) E
 have AB:=cz D (m:=3) (by rw [uf]) J
 have G:=cz C (m:=2) (by rw [uf]) AB
 have F:=cz B (m:=1) (by rw [Uz]) G
 exact F
def RO (w:World) (s:bH):Prop:= ∃ l:List aS,s.n=l.length∧(rd s.a l.length 4 (l.map aS.cells)).holds w∧(∀ x∈l,O_ w x)∧l.length≤maxLen∧s.n≤s.c
theorem SR:qH Tryz.prog 33 bH (fun s=>[vS s.a s.n s.c]) RO:=km Um QQ SY
theorem SH:Tryz.prog.cellsOf 34=1:=by kernel_rfl
theorem Qp:Tryz.prog.cellsOf 47=5:=by kernel_rfl
structure Ou (w:World) (s:aZ):Prop where
 Id:sJ w s.Id
 hP:sJ w s.hP
 iu:sJ w s.iu
 fZ:sJ w s.fZ
 At:sJ w s.At
theorem Tw:fL Tryz.prog 47=some [(3,0),(3,1),(3,2),(3,3),(3,4)]:=by kernel_rfl
theorem TR:qH Tryz.prog 47 aZ aZ.cells Ou:=fun {H} enc w base sp A fuel cs x h=>by
 obtain ⟨hl,hp⟩:=iD Tw h
 obtain ⟨b,g,M⟩:=hp 0 3 0 rfl
 obtain ⟨W,B,R⟩:=ue _ _ _ _ _ _ _ _ M
 obtain ⟨c,i,N⟩:=hp 1 3 1 rfl
 obtain ⟨X,C,S⟩:=ue _ _ _ _ _ _ _ _ N
 obtain ⟨d,j,O⟩:=hp 2 3 2 rfl
 obtain ⟨Y,D,T⟩:=ue _ _ _ _ _ _ _ _ O
 obtain ⟨e,k,P⟩:=hp 3 3 3 rfl
 obtain ⟨Z,E,AA⟩:=ue _ _ _ _ _ _ _ _ P
 obtain ⟨f,l,Q⟩:=hp 4 3 4 rfl
 obtain ⟨a,F,V⟩:=ue _ _ _ _ _ _ _ _ Q
 refine ⟨⟨W,X,Y,Z,a⟩,?_,⟨R,S,T,AA,V⟩⟩
 have L:=fT (hl.trans Qp) (by rw [uf]) F
 have K:=cz E (m:=4) (by rw [uf]) L
 have J:=cz D (m:=3) (by rw [uf]) K
 have AB:=cz C (m:=2) (by rw [uf]) J
 have G:=cz B (m:=1) (by rw [uf]) AB
 exact G
def Se (w:World) (s:bH):Prop:= ∃ l:List aZ,s.n=l.length∧(rd s.a l.length 5 (l.map aZ.cells)).holds w∧(∀ x∈l,Ou w x)∧l.length≤maxLen∧s.n≤s.c
theorem Uh:qH Tryz.prog 34 bH (fun s=>[vS s.a s.n s.c]) Se:=km SI Qp TR
structure SO (w:World) (s:gG):Prop where
 Race:Qw w s.Race
 aI:RO w s.aI
 ax:Se w s.ax
 gV:sJ w s.gV
 Cf:sJ w s.Cf
theorem RZ:fL Tryz.prog 36=some [(32,0),(33,11),(34,12),(3,13),(3,14)]:=by kernel_rfl
theorem Uf:qH Tryz.prog 36 gG gG.cells SO:=fun {H} enc w base sp A fuel cs x h=>by
 obtain ⟨hl,hp⟩:=iD RZ h
 obtain ⟨b,g,M⟩:=hp 0 32 0 rfl
 obtain ⟨W,B,R⟩:=SM _ _ _ _ _ _ _ _ M
 obtain ⟨c,i,N⟩:=hp 1 33 11 rfl
 obtain ⟨X,C,S⟩:=SR _ _ _ _ _ _ _ _ N
 obtain ⟨d,j,O⟩:=hp 2 34 12 rfl
 obtain ⟨Y,D,T⟩:=Uh _ _ _ _ _ _ _ _ O
 obtain ⟨e,k,P⟩:=hp 3 3 13 rfl
 obtain ⟨Z,E,AA⟩:=ue _ _ _ _ _ _ _ _ P
 obtain ⟨f,l,Q⟩:=hp 4 3 14 rfl
 obtain ⟨a,F,V⟩:=ue _ _ _ _ _ _ _ _ Q
 refine ⟨⟨W,X,Y,Z,a⟩,?_,⟨R,S,T,AA,V⟩⟩
 have L:=fT (hl.trans S4) (by rw [uf]) F
 have K:=cz E (m:=14) (by rw [uf]) L
 have J:=cz D (m:=13) (by rw [SH]) K
 have AB:=cz C (m:=12) (by rw [Tu]) J
 have G:=cz B (m:=11) (by rw [PR]) AB
 exact G
theorem BP:ownKnob Tryz.prog.godebug=none:=by kernel_rfl
theorem y7:laidOutB Tryz.prog=true:=by kernel_rfl
theorem wo (os:Os) (started:os.Started) (H:Type) (enc:TypeId×Value→H):
 ReturnsInHanded {} Tryz.checked os 3 .any (fun w args=>(Rows.juryAllSpec.pre enc Tryz.prog Tryz.f3 [] false w args∧laidMetH Tryz.prog [("kreisel/race.table",Rows.laid_kreisel_race_table)] w)∧sizedMet enc Tryz.prog Tryz.f3 (OpenSpec.ofChange Rows.juryAllSpec) false w args) (Rows.juryAllSpec.post enc Tryz.prog Tryz.f3 false true false false):=by
 refine returnsInHanded_of_change_and (C:=Tryz.checked) (X:=(fun w _=>laidMetH Tryz.prog [("kreisel/race.table",Rows.laid_kreisel_race_table)] w)) (fun _ _ _ hh h=>h.of_heap hh) BP started kr Tryz.func3
  (ChangeSpec.witness_shaped (enc:=enc) (C:=Tryz.checked) (os:=os) (X:=(fun w _=>laidMetH Tryz.prog [("kreisel/race.table",Rows.laid_kreisel_race_table)] w)) false (World.doorLaid Tryz.prog 400 os) #[.agg #[(vS none 0 0),(vI 0),(vS none 0 0),(vS none 0 0),(vI 0),(vI 0),(vI 0),(vS none 0 0),(vS none 0 0),(vI 0),(vS none 0 0),(vS none 0 0),(vS none 0 0),(vI 0),(vI 0)]] 8 rfl (World.shaped_of_RefB kr kr) kr kr kr (Dj os _)) ?_
 intro W base args ds gs before E hW _ _ hL _
 have D: ∀ (j:Nat) t v,Tryz.f3.params[j]? =some t→args[j]? =some v→Value.okWide Tryz.prog W .any base t v:=E
 have hW':=hW
 obtain ⟨p,q,K,hV,rfl,T,AA⟩:=hW
 have hA:DataW.TrodAll enc Tryz.prog W 0 (fun _=>true) true Tryz.f3.params.toList args.toList ds p:=K
 have F:=hA
 rw [Tryz.params3] at hA D
 obtain ⟨Q,Y,Z,R,a,b,L,rfl,rfl,S,V⟩:=trodAll_cons hA
 obtain ⟨rfl,rfl,rfl⟩:=trodAll_nil V
 obtain rfl:args= #[Q]:=by cases args; simp_all
 obtain ⟨rfl,rfl⟩:=trodVars_none hV
 obtain ⟨c,rfl,R0⟩:=Dg RZ Uf (D 0 36 Q rfl rfl) S
 simp only [List.append_nil] at hW' F
 have J:=xW hL
 obtain ⟨j,az,ha,kA,kC,cA,cC,bA,bC,O,P,drA,drC,M,N,faA,faC,prA,prC,rfl,G,B⟩:=FJ (R1:=JL) (R2:=OB) (R3:=IH) (R4:=Pc) (R5:=sJ) (R6:=NL) (R7:=Ps) (R8:=O2) (R9:=O_) (R10:=Ou) R0.Race.au.aV.j8 (fun x hx=>hx.iY) R0.Race.au.ar (fun x hx=>hx.bG) R0.Race.au.ab R0.Race.bj R0.Race.cq R0.Race.aH (fun x hx=>hx) (fun x hx=>hx.bw.aa) R0.aI (fun x hx=>hx.Kind) R0.ax
 have AB:=(GH j kA kC az cA cC bA bC O P drA drC ha M N faA faC prA prC G).run W (by intro A hA; simp only [bO,List.not_mem_nil,or_false] at hA; rcases hA with rfl|rfl|rfl|rfl|rfl|rfl|rfl|rfl|rfl|rfl|rfl; exact J; exact B.1; exact B.2.1; exact B.2.2.1; exact B.2.2.2.1; exact B.2.2.2.2.1; exact B.2.2.2.2.2.1; exact B.2.2.2.2.2.2.1; exact B.2.2.2.2.2.2.2.1; exact B.2.2.2.2.2.2.2.2.1; exact B.2.2.2.2.2.2.2.2.2)
 refine (AB).mono fun e W' ⟨he,hk⟩=>?_
 subst he
 exact ⟨_,U,G4 y7 hW' F U U kr hk.below kr P_⟩
theorem xX:Rows.JuryAllSaid:=
 OpenClaim.holds_of_wide 3 Tryz.f3 rfl rfl rfl rfl rfl rfl rfl ⟨rfl,rfl,rfl,rfl,rfl⟩ rfl rfl rfl rfl rfl kr Tryz.func3 xx
  (of_decide_eq_true kr) (by unfold Func.isWrapper; first|(rw [if_pos (by decide+kernel)]; kernel_rfl)|(rw [if_neg (by decide+kernel)]; exact ⟨rfl,rfl⟩))
  (fun os started H enc _=>wo os started H enc)
/-- the statement -/
theorem juryAll_said:Rows.JuryAllCardSaid:=
 Claim7.holds_tied_plain_at .later [] [.funcsDeep] true (true,"d8cf0626f832096ce100a6f7c79f4ede30e4673a60460e9c643b06a90f42f87b") false
  xX (fun _ h=>by cases h) kr (fun _ h=>by cases h) juryAll_row_tie rfl ⟨rfl,rfl⟩ kr rfl
  (fun f fn hf B=>by
   obtain rfl:f=3:=Option.some.inj ((show Tryz.prog.funcNamed "kreisel/kreisellaw07.JuryAll"=some 3 by kernel_rfl).symm.trans hf) |>.symm
   obtain rfl:fn=Tryz.f3:=(Option.some.inj (Tryz.func3.symm.trans B)).symm
   exact ⟨kr,fun j t ht=>by
    rw [Tryz.params3] at ht
    have hm:t∈([36]:List Nat):=by simpa using Array.mem_of_getElem? ht
    have A:(([36]:List Nat).all fun u=> !Tryz.prog.wantsStandIn u)=true:=by kernel_rfl
    exact (show Tryz.prog.wantsStandIn t=false by simpa using cT.1 A t hm)⟩)
  kr
#print axioms juryAll_said
end
end Go.Proofs.YtijpnoadncadoaaGreatDoor
