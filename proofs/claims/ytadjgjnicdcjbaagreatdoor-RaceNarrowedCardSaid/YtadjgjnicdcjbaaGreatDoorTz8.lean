/-
 The statement raceNarrowed_said, part 8 of 8: Y2, Y3, Y5, Rx5, Rx12, Rz2, Rt2, Rx2, Rz3, Rz4, Rr2, Rr3, Rr4, Rr5, Rra, Ry1, Ry3, Ry5, Ry7, LineOpen, RaceOpen, Narrowed0.
 Conditions: none.
-/
import Derived.Test.YtadjgjnicdcjbaaGreatDoorTz1
import Derived.Test.YtadjgjnicdcjbaaGreatDoorTz2
import Derived.Test.YtadjgjnicdcjbaaGreatDoorTz3
import Derived.Test.YtadjgjnicdcjbaaGreatDoorTz4
import Derived.Test.YtadjgjnicdcjbaaGreatDoorTz5
import Derived.Test.YtadjgjnicdcjbaaGreatDoorTz6
import Derived.Test.YtadjgjnicdcjbaaGreatDoorTz7
import Derived.Test.YtadjgjnicdcjbaaGreatDoorCards
import Derived.Test.YtadjgjnicdcjbaaGreatDoorTie
import Derived.SevenTiedAt
import Derived.LaidMore
import Derived.Stop.Joined
import Derived.Test.YtadjgjnicdcjbaaGreatDoorRows
import Derived.Test.YtadjgjnicdcjbaaGreatDoorProg
import Derived.KernelRfl
namespace Go.Proofs.YtadjgjnicdcjbaaGreatDoor
set_option maxRecDepth 100000
set_option maxHeartbeats 4000000
set_option linter.unusedVariables false
section
open Go.RowKit
theorem Hk (l:aX) (kA:OA) (kC:Nat) (az:List RA) (cA:OA) (cC:Nat) (bA:OA) (bC:Nat) (r:cx) (sgA:OA) (sgC:Nat) (vwA:OA) (vwC:Nat) (vtA:OA) (vtC:Nat) (vbA:OA) (vbC k:Nat) (rs:List Int) (rA:OA) (rC:Nat) (fs:List Int) (fA:OA) (fC:Nat) (hin:eu l az) (hle:dp l=0) (hr:ff l r) (hk:rs.length+k=l.ae.length) (hfl:fs.length=rs.length) (hst:r.Start≤fW r.Start fs∧fW r.Start fs≤r.f_) (hrs: ∀ x∈rs,-1≤x∧x<(r.ah.length:Int)) (hrec: ∀ (k2:Nat) (rs2:List Int) (rA2:OA) (rC2:Nat) (fs2:List Int) (fA2:OA) (fC2:Nat),(k2<k)→(rs2.length+k2=l.ae.length)→(fs2.length=rs2.length)→(r.Start≤fW r.Start fs2∧fW r.Start fs2≤r.f_)→(∀ x∈rs2,-1≤x∧x<(r.ah.length:Int))→Dl Tryz.prog 173 [(vA (cb.cells (ly l kA kC cA cC bA bC))),(vA (eH.cells (mA r sgA sgC))),(vA (iq.cells (iq.mk (bp.mk vwA ((cG l l.ae.length).length) vwC) (bp.mk vtA ((eT l r r.ah.length).length) vtC) (bp.mk vbA ((fc l r r.ah.length).length) vbC)))),(vS rA2 rs2.length rC2),(vS fA2 fs2.length fC2)] [(rd kA l.aN.length 9 (l.aN.map al.cells)),(rd cA l.aj.length 2 (List.zipWith av.cells l.aj az)),(e7 (aU av.g0 l.aj az)),(rd bA l.ae.length 4 (l.ae.map bB.cells)),(rd sgA r.ah.length 2 (r.ah.map aM.cells)),(rd vwA ((cG l l.ae.length).length) 1 ((cG l l.ae.length).map iC)),(rd vtA ((eT l r r.ah.length).length) 2 ((eT l r r.ah.length).map aa.cells)),(rd vbA ((fc l r r.ah.length).length) 1 ((fc l r r.ah.length).map pU))] (bu [own rA2 rC2 3 1 (rs2.map iC),own fA2 fC2 3 1 (fs2.map iC)]) (fun (x:(OA)×Nat×(List km))=>(vS x.1 ((g_ l r k2 rs2 fs2).length) x.2.1)) (fun (x:(OA)×Nat×(List km))=>x.2.2.length=(g_ l r k2 rs2 fs2).length) (fun (x:(OA)×Nat×(List km))=>(bu (aU cY.owns (g_ l r k2 rs2 fs2) x.2.2++[own x.1 x.2.1 241 3 (List.zipWith cY.cells (g_ l r k2 rs2 fs2) x.2.2)])))):
 Dl Tryz.prog 173 [(vA (cb.cells (ly l kA kC cA cC bA bC))),(vA (eH.cells (mA r sgA sgC))),(vA (iq.cells (iq.mk (bp.mk vwA ((cG l l.ae.length).length) vwC) (bp.mk vtA ((eT l r r.ah.length).length) vtC) (bp.mk vbA ((fc l r r.ah.length).length) vbC)))),(vS rA rs.length rC),(vS fA fs.length fC)] [(rd kA l.aN.length 9 (l.aN.map al.cells)),(rd cA l.aj.length 2 (List.zipWith av.cells l.aj az)),(e7 (aU av.g0 l.aj az)),(rd bA l.ae.length 4 (l.ae.map bB.cells)),(rd sgA r.ah.length 2 (r.ah.map aM.cells)),(rd vwA ((cG l l.ae.length).length) 1 ((cG l l.ae.length).map iC)),(rd vtA ((eT l r r.ah.length).length) 2 ((eT l r r.ah.length).map aa.cells)),(rd vbA ((fc l r r.ah.length).length) 1 ((fc l r r.ah.length).map pU))] (bu [own rA rC 3 1 (rs.map iC),own fA fC 3 1 (fs.map iC)]) (fun (x:(OA)×Nat×(List km))=>(vS x.1 ((g_ l r k rs fs).length) x.2.1)) (fun (x:(OA)×Nat×(List km))=>x.2.2.length=(g_ l r k rs fs).length) (fun (x:(OA)×Nat×(List km))=>(bu (aU cY.owns (g_ l r k rs fs) x.2.2++[own x.1 x.2.1 241 3 (List.zipWith cY.cells (g_ l r k rs fs) x.2.2)]))):=by
 have Bl:=hin.sM
 have Bd:=hin.sO
 have Bb:=hin.oq
 have Bc:=hin.sN
 obtain ⟨BJ,Al⟩:=gH hle
 have BC:=Al.head
 unfold gl at BC
 have AD:=hr.len
 have Bi:=hr.time
 have Bh:=dW (l:=l) (n:=l.ae.length)
 have Bm:=rl (l:=l) (Nat.le_refl r.ah.length)
 have Bk:=uU (l:=l) (Nat.le_refl r.ah.length)
 have Bn:=td rs
 refine mE kr Tryz.func173 U U fun w0 Q hQ hN=>?_
 try dsimp only
 refine CO 0 U U fun wz Sz hz=>?_
 try dsimp only
 refine WS fun _ A6=>fQ U fun b2=>fQ U fun b3=>fQ U fun b4=>a_ 1 U<|RK A6<|WS fun _ A7=>a_ 1 U<|RK A7<|WS fun _ A8=>a_ 4 U<|RK A8<|ai fun _ A9=>WS fun _ A_=>rP 1 [] I ?_
 refine RK A_<|ax ?_
 have C:(0≤rs.length):=by exact Nat.zero_le _
 have BA:(vI ((cU (rs.take 0)).right))=(vI 0):=by rfl
 refine bK (ι:={z:Nat // (z≤rs.length)}) [3,4,5,6,7,11,12] [0,1,2,3,4,5,6,7,8,9,10,11] U U (fun z=>[(13,(vI ((cU (rs.take z.1)).right))),(14,(vI (z.1:Int)))]) (fun z=>[]) (fun _=>rfl) (fun _=>rfl) (fun z=>rs.length-z.1) ⟨0,C⟩ (bo U BA<|aS U) (aI [0,1,2,3,4,5,6,7,8,9,10,11]) ?_
 clear C
 rintro ⟨i,BE⟩ J10 g
 try dsimp only
 have BH:=td (rs.take i)
 rw [List.length_take] at BH
 refine ai fun _ AH=>WS fun _ AI=>rP 3 [] I ?_
 refine RK AI<|cy U (aP fun A0=>?_) (aQ fun A0=>?_)
 ·refine WK AH<|ai fun _ h=>ax<|WS fun _ AJ=>rP 2 [] I ?_
  obtain ⟨x,hx⟩:=aL rs i om
  have BK:=bH iC hx
  refine rS (IA i U (show i_ _ (rd rA rs.length 1 (rs.map iC)).holds from (pc (c:=rC) (e:=3) 3 U sm sm)) cv dc om om)<|rS (gp i 0 (vI x) U b_ (show i_ _ (rd rA rs.length 1 (rs.map iC)).holds from (pc (c:=rC) (e:=3) 3 U sm sm)) BK U dc U)<|rP 1 [] I ?_
  refine RK AJ<|bM U (aQ fun AB=>?_) (aP fun AB=>?_)
  ·refine bV<|aG<|KK h<|ak<|rP 3 [] I ?_
   refine aF ?_
   have AZ:(vI ((cU (rs.take (i+1))).right))=(vI ((cU (rs.take i)).right)):=by exact cI (by rw [tn hx]; (rw [if_neg AB]; exact Int.add_zero _))
   have Aa:(vI (((i+1):Nat):Int))=(vI ((i:Int)+1)):=by exact cI om
   refine aR (g ⟨(i+1),(by first|omega|(simp only []; omega))⟩ _ _ _ U os (cO 7<|bo U AZ<|bo U Aa<|dw.nil _) (aI [0,1,2,3,4,5,6,7,8,9,10,11]))
  refine ak<|a_ 3 U<|aF<|aG<|KK h<|ak<|rP 3 [] I ?_
  refine aF ?_
  have AX:(vI ((cU (rs.take (i+1))).right))=(vI (((cU (rs.take i)).right)+1)):=by exact cI (by rw [tn hx]; (rw [if_pos AB]; done))
  have AY:(vI (((i+1):Nat):Int))=(vI ((i:Int)+1)):=by exact cI om
  refine aR (g ⟨(i+1),(by first|omega|(simp only []; omega))⟩ _ _ _ U os (cO 7<|bo U AX<|bo U AY<|dw.nil _) (aI [0,1,2,3,4,5,6,7,8,9,10,11]))
 refine bw<|ab<|ab<|ay<|KK A9<|ai fun _ AK=>ai fun _ AL=>?_
 rw [show rs.take i=rs from List.take_of_length_le om]
 refine ak<|rP 6 [] (mc 2 U I) ?_
 refine RK AL<|cy U (aP fun A2=>?_) (aQ fun A2=>?_)
 ·refine WS fun _ AM=>dH 241 3<|rP 1 [] I ?_
  refine RK AM<|ao<|zN (C1:=[(own none 0 241 3 [])]) hz [0] U U U<|PN (W:=g_ l r k rs fs) ?_
  rw [show (own none 0 241 3 [])=(own none 0 241 3 (List.zipWith cY.cells (g_ l r k rs fs) [])) from by rw [nA om]; rfl]
  refine LM hQ (none,0,[]) 0 [] I U (by show List.all _ _=true; rw [List.all_append,pA]; rfl) U ?_ ?_
  ·exact (by rw [nA om]; rfl)
  ·rw [nA om]; rfl
 refine WK AK ?_
 refine og (ι:={z:(OA)×Nat×(List km)×(List au) // (wh l r rs fs (rA,rC) (fA,fC) z.2.2.1 z.2.2.2)}) [3,4,5,6,7,12] [0,1,2,3,4,5,6,7,8,9,10,11] U U (fun z=>[(11,(vS z.1.1 ((gL l r rs fs).length) z.1.2.1))]) (fun z=>[(own z.1.1 z.1.2.1 241 3 (List.zipWith cY.cells (gL l r rs fs) z.1.2.2.1)),(bu z.1.2.2.2)]) (fun _=>rfl) (fun _=>rfl) ?_ fun K23 m=>?_
 ·rintro ⟨⟨oA,oC,E,LA⟩,H⟩
  try dsimp only at H
  try dsimp only
  have D:=H
  have BD:=D.len
  have Be:=xq (l:=l) (r:=r) (rs:=rs) (fs:=fs)
  refine ai fun _ V=>WS fun _ AN=>rP 4 [] (mc 2 U I) ?_
  have Bo:=uC (l:=l) (r:=r) (rs:=rs) (fs:=fs) AD (k:=k) om
  refine rP 1 [] I ?_
  refine RK AN<|cy U (aP fun A3=>?_) (aQ fun A3=>?_)
  ·refine WS fun _ AO=>a_ 1 U<|rP 1 [] I ?_
   refine RK AO<|ao ?_
   obtain rfl:k=0:=by omega
   refine Dz ?_
   try dsimp only
   refine zN (C1:=[(own oA oC 241 3 (List.zipWith cY.cells (gL l r rs fs) E)),(bu LA),(bu (aU cY.owns [] []))]) hz [13,14,0] U U (by simp only [fG,List.all_nil,Bool.and_true,cK]; exact ⟨U,D.wr,pA _ _⟩) ?_
   refine Ik (ra:=(rA,rC)) (fa:=(fA,fC)) (A':=(own oA oC 241 3 (List.zipWith cY.cells (g_ l r 0 rs fs) E))) D ((List.append_nil _).trans (nt om).symm) (List.append_nil _) (by rw [nt om]) ?_
   refine LM hQ (oA,oC,E) 0 [] I U (by show List.all _ _=true; rw [List.all_append,pA]; rfl) U ?_ ?_
   ·exact (by (rw [nt om]; rfl))
   ·rw [nt om]; exact BD
  refine WK V<|WS fun _ AP=>?_
  obtain ⟨B,rfl⟩: ∃ B,k=B+1:=⟨k-1,om⟩
  refine rP 3 [] (mc 1 U I) ?_
  refine RK AP ?_
  refine og (ι:=Unit) [3,4,5,6,7,11,12] [0,1,2,3,4,5,6,7,8,9,10,11,12,13] U U (fun z=>[(15,(vI (fW r.Start fs)))]) (fun z=>[]) (fun _=>rfl) (fun _=>rfl) ?_ fun K28 o=>?_
  ·intro _
   try dsimp only
   refine WS fun _ Z=>rP 4 [] (mc 0 U I) ?_
   obtain ⟨yls,Ao⟩:=aL (cG l l.ae.length) (rs.length) om
   have Ap:=bH iC Ao
   refine rS (IA rs.length U (aD 9 U) cv dc om om)<|rS (gp rs.length 0 (vI yls) U b_ (aD 9 U) Ap U dc U) ?_
   have Bg:=mY BJ Al (i:=rs.length) om
   rw [ui Ao]
   refine a_ 2 U<|RK Z<|ai fun _ AQ=>WS fun _ AR=>rP 1 [] I ?_
   refine RK AR<|ax ?_
   rw [show (gL l r rs fs)=((gL l r rs fs)++(ia l r B rs fs 0)) from (List.append_nil _).symm]
   rw [show E=E++[] from (List.append_nil _).symm]
   refine oh ?_
   try dsimp only
   have C:(0≤r.ah.length+1)∧(([]:List km).length=(ia l r B rs fs 0).length):=by exact ⟨Nat.zero_le _,rfl⟩
   have d:(vI ((0:Int)-1))=(vI (-1)):=by exact cI om
   refine bK (ι:={z:Nat×(OA)×Nat×(List km) // (z.1≤r.ah.length+1)∧(z.2.2.2.length=(ia l r B rs fs z.1).length)}) [3,4,5,6,7,12,15] [1,2,3,4,5,6,7,8,9,10,11,12,14] U U (fun z=>[(11,(vS z.1.2.1 (((gL l r rs fs)++(ia l r B rs fs z.1.1)).length) z.1.2.2.1)),(16,(vI ((z.1.1:Int)-1)))]) (fun z=>[(bu (aU cY.owns (ia l r B rs fs z.1.1) z.1.2.2.2)),(own z.1.2.1 z.1.2.2.1 241 3 (List.zipWith cY.cells ((gL l r rs fs)++(ia l r B rs fs z.1.1)) (E++z.1.2.2.2)))]) (fun _=>rfl) (fun _=>rfl) (fun z=>r.ah.length+1-z.1.1) ⟨(0,oA,oC,([]:List km)),C⟩ (dw.cons U<|bo U d<|dw.nil _) (aI [1,2,3,4,5,6,7,8,9,10,11,12,14,0,13]) ?_
   clear C
   rintro ⟨⟨j,M,N,azW⟩,⟨f,A⟩⟩ J33 O
   try dsimp only at f A
   try dsimp only
   have BI:=Ke (l:=l) (r:=r) (k:=B) (j:=j) (rs:=rs) (fs:=fs) AD om om
   refine ai fun _ AS=>WS fun _ AT=>rP 5 [] (mc 1 U I) ?_
   refine RK AT<|bM U (aQ fun A1=>?_) (aP fun A1=>?_)
   ·refine bw<|ab<|ab<|ay<|KK AQ<|WS fun _ AW=>a_ 1 U<|rP 1 [] I ?_
    refine RK AW<|ao ?_
    refine zN (C1:=[(own M N 241 3 (List.zipWith cY.cells ((gL l r rs fs)++(ia l r B rs fs j)) (E++azW))),(bu LA),(bu (aU cY.owns (ia l r B rs fs j) azW))]) hz [14,12,13] U U (by simp only [fG,List.all_nil,Bool.and_true,cK]; exact ⟨U,D.wr,pA _ _⟩) ?_
    refine Ik (ra:=(rA,rC)) (fa:=(fA,fC)) (W:=g_ l r (B+1) rs fs) (A':=(own M N 241 3 (List.zipWith cY.cells (g_ l r (B+1) rs fs) (E++azW)))) D (by rw [nF om,qS,show r.ah.length+1=j by omega]) U (by rw [nF om,qS,show r.ah.length+1=j by omega]) ?_
    refine LM hQ (M,N,(E++azW)) 0 [] I U (by show List.all _ _=true; rw [List.all_append,pA]; rfl) U ?_ ?_
    ·exact (by (rw [nF om,qS,show r.ah.length+1=j by omega]; rfl))
    ·rw [nF om,qS,show r.ah.length+1=j by omega]; simp only [List.length_append]; omega
   refine WK AS<|ai fun _ P=>ax<|ai fun _ AU=>du cq 5 kr<|dP 5 [] (mc 1 U I) ?_
   refine cH<|RK AU ?_
   refine og (ι:={z:Int×Int // ((z.1≤z.2→oS l r rs.length (fW r.Start fs+dR l rs.length) ((j:Int)-1)=some z.1)∧(¬ z.1≤z.2→oS l r rs.length (fW r.Start fs+dR l rs.length) ((j:Int)-1)=none))∧(r.Start≤z.1∧z.2≤r.f_)}) [3,4,5,6,7,11,12,15,16] [0,1,2,3,4,5,6,7,8,9,10,11,12,13,14] U U (fun z=>[(17,(vI z.1.1)),(18,(vI z.1.2))]) (fun z=>[]) (fun _=>rfl) (fun _=>rfl) ?_ fun K39 p=>?_
   ·rintro ⟨⟨tt,ee⟩,⟨BP,J⟩⟩
    try dsimp only at BP J
    try dsimp only
    have Ak:=BP
    have Bf:=J
    refine WS fun _ a=>rP 3 [] I ?_
    refine RK a<|bM U (aQ fun BO=>?_) (aP fun BO=>?_)
    ·refine bV<|aG<|KK P<|ak<|rP 3 [] I ?_
     refine aF ?_
     have L:(ia l r B rs fs (j+1))=(ia l r B rs fs j):=by exact qx (Ak.2 BO)
     rw [← L]
     have Ai:(vI ((((j+1):Nat):Int)-1))=(vI (((j:Int)-1)+1)):=by exact cI om
     refine aR (O ⟨((j+1),M,N,azW),⟨om,by dsimp only; (rw [L]; exact A)⟩⟩ _ _ _ U os (cO 8<|bo U Ai<|dw.nil _) (aI [0,1,2,3,4,5,6,7,8,9,10,11,12,13,14]))
    refine Rk (L':=[(3,(vS rA rs.length rC)),(4,(vS fA fs.length fC)),(5,(vP b2)),(6,(vP b3)),(7,(vP b4)),(11,(vS M (((gL l r rs fs)++(ia l r B rs fs j)).length) N)),(12,(vI (rs.length:Int))),(15,(vI ((fW r.Start fs)+(dR l rs.length)))),(16,(vI ((j:Int)-1))),(17,(vI tt)),(18,(vI ee)),(123,(vI tt)),(124,(vI ee)),(125,(vB (decide (tt≤ee))))]) rfl<|pa cq [0,1,2,3,5,7,11,13] [4,6,8,9,10,12,14,15,16,17,18] [false,false,false,false,false,false,false,false] [] [(bU b4 238 (iq.cells (iq.mk (bp.mk vwA ((cG l l.ae.length).length) vwC) (bp.mk vtA ((eT l r r.ah.length).length) vtC) (bp.mk vbA ((fc l r r.ah.length).length) vbC)))),(bU b3 43 (eH.cells (mA r sgA sgC))),(bU b2 31 (cb.cells (ly l kA kC cA cC bA bC))),(bu [own rA rC 3 1 (rs.map iC),own fA fC 3 1 (fs.map iC)]).ro,(rd kA l.aN.length 9 (l.aN.map al.cells)).ro,(rd cA l.aj.length 2 (List.zipWith av.cells l.aj az)).ro,(e7 (aU av.g0 l.aj az)).ro,(rd bA l.ae.length 4 (l.ae.map bB.cells)).ro,(rd sgA r.ah.length 2 (r.ah.map aM.cells)).ro,(rd vwA ((cG l l.ae.length).length) 1 ((cG l l.ae.length).map iC)).ro,(rd vtA ((eT l r r.ah.length).length) 2 ((eT l r r.ah.length).map aa.cells)).ro,(rd vbA ((fc l r r.ah.length).length) 1 ((fc l r r.ah.length).map pU)).ro,(bu LA),(bu (aU cY.owns (ia l r B rs fs j) azW))] [] kr (aI [0,1,2,3,4,5,6,7,8,9,10,11,12,13]) (aI [])<|eS rfl (MV rfl)<|eS rfl (LW 2 rfl b_ rfl rfl)<|eS rfl (LW 1 rfl b_ rfl rfl)<|eS rfl (LW 0 rfl b_ rfl rfl)<|eS rfl (MV rfl)<|eS rfl (MV rfl)<|eS rfl (MV rfl)<|eS rfl (MV rfl)<|eX rfl<|NJ [.take 4,.op 6,.take 8,.op 9,.take 10,.op 12,.take 14,.op 15,.op 16,.op 17,.op 18] [(133,(vI ((j:Int)-1))),(139,(vI tt))] (fun i=>match i with |4=>130|8=>134|10=>136|14=>140|_=>0) (fun i b=>match i with |4=> .slice (some ⟨b,0,none⟩) 0 0|8=> .slice (some ⟨b,0,none⟩) 1 1|10=> .slice (some ⟨b,0,none⟩) 0 0|14=> .slice (some ⟨b,0,none⟩) 1 1|_=>undef) (fun i b=>match i with |4=>bU b 3 []|8=>bU b 3 [(vI ((j:Int)-1))]|10=>bU b 3 []|14=>bU b 3 [(vI tt)]|_=>bU b 0 []) rfl rfl rfl kr rfl rfl (aI [0,1,2,3,4,5,6,7,8,9,10,11,12,13]) (vW (Kc rfl cv rfl rfl (fun _=>rfl) fun _=>rfl)<|x3<|vW (Pp (xs:=[.tmp 133]) (cs:=[(vI ((j:Int)-1))]) rfl cv ja rfl rfl rfl rfl (by simp [Value.cells]) rfl rfl rfl (fun _=>rfl) fun _=>rfl)<|x3<|vW (Kc rfl cv rfl rfl (fun _=>rfl) fun _=>rfl)<|x3<|vW (Pp (xs:=[.tmp 139]) (cs:=[(vI tt)]) rfl cv ja rfl rfl rfl rfl (by simp [Value.cells]) rfl rfl rfl (fun _=>rfl) fun _=>rfl)<|x3<|x3<|x3<|x3<|Qz) ?_
    intro Av
    try dsimp only
    refine xd U fun Y X K hT=>dQ (es:=(List.map iC [])) (C':=[own (some ⟨Av,0,none⟩) 0 3 1 (List.map iC []),_,_,_,_,_,_,_,_,_,_,_,_,_,_,_]++X) 0 U sm U (by simp [maxLen]) U ?_
    refine c_ (es2:=(List.map iC rs)) (m':=rs.length) 0 U U U pZ U U sm (show i_ _ (rd rA rs.length 1 (rs.map iC)).holds from (pc (c:=rC) (e:=3) 4 U sm sm)) (kb _) (by first|omega|(simp; done)|(simp; omega)) (by (simp only [maxLen]; omega)) sm sm U fun BU BZ=>?_
    try dsimp only
    refine sk hT 24 16 U U (fun w hs=>St.kf [1,2,3,4,5,6,7,8,9,10,11,12,13,14] U U hs) U U ?_
    try dsimp only [List.take]
    intro BX
    try dsimp only
    refine xd U fun Y X K hT=>?_
    refine c_ (es2:=(List.map iC (rs++[(j:Int)-1]))) (m':=(rs++[(j:Int)-1]).length) 1 U U U pZ U U sm (aZ (es:=List.map iC [((j:Int)-1)]) 0 U U (by simp [bE]) U) (kb _) (by first|omega|(simp; done)|(simp; omega)) (by (simp only [maxLen]; omega)) sm sm U fun As Ax=>?_
    try dsimp only
    refine sk hT 26 17 U U (fun w hs=>St.kf [2,3,4,5,6,7,8,9,10,11,12,13,14,15] U U hs) U U ?_
    try dsimp only [List.take]
    intro Aw
    try dsimp only
    refine xd U fun Y X K hT=>dQ (es:=(List.map iC [])) (C':=[own (some ⟨Aw,0,none⟩) 0 3 1 (List.map iC []),_,_,_,_,_,_,_,_,_,_,_,_,_,_,_,_,_]++X) 0 U sm U (by simp [maxLen]) U ?_
    refine c_ (es2:=(List.map iC fs)) (m':=fs.length) 0 U U U pZ U U sm (show i_ _ (rd fA fs.length 1 (fs.map iC)).holds from (pc (c:=fC) (e:=3) 6 U sm sm)) (kb _) (by first|omega|(simp; done)|(simp; omega)) (by (simp only [maxLen]; omega)) sm sm U fun BV Ba=>?_
    try dsimp only
    refine sk hT 28 18 U U (fun w hs=>St.kf [3,4,5,6,7,8,9,10,11,12,13,14,15,16] U U hs) U U ?_
    try dsimp only [List.take]
    intro BY
    try dsimp only
    refine xd U fun Y X K hT=>?_
    refine c_ (es2:=(List.map iC (fs++[tt]))) (m':=(fs++[tt]).length) 1 U U U pZ U U sm (aZ (es:=List.map iC [tt]) 0 U U (by simp [bE]) U) (kb _) (by first|omega|(simp; done)|(simp; omega)) (by (simp only [maxLen]; omega)) sm sm U fun At Ay=>?_
    try dsimp only
    refine sk hT 30 19 U U (fun w hs=>St.kf [4,5,6,7,8,9,10,11,12,13,14,15,16,17] U U hs) U U ?_
    try dsimp only [List.take]
    refine xd U fun Y X K hT=>?_
    have R:=Ak.1 BO
    refine xb<|qW 4 U ?_
    try dsimp only [List.eraseIdx]
    refine Ab U<|qW 2 U ?_
    try dsimp only [List.eraseIdx]
    refine Ab U ?_
    try dsimp only
    refine iP 0 rfl rfl rfl rfl (hrec B (rs++[(j:Int)-1]) As Ax (fs++[tt]) At Ay om (by simp only [List.length_append,List.length_singleton]; omega) (by simp only [List.length_append,List.length_singleton]; omega) (by rw [mW]; omega) (by intro x hx; rcases List.mem_append.1 hx with hx|hx; exact hrs x hx; rw [List.mem_singleton.1 hx]; omega)) rfl (dU 7 rfl rfl (dC (bP _)) (dU 8 rfl rfl (dC (bP _)) (dU 9 rfl rfl (dC (bP _)) (dU 10 rfl rfl (dC (bP _)) (dU 11 rfl rfl (dC (bP _)) (dU 12 rfl rfl (dC (bP _)) (dU 13 rfl rfl (dC (bP _)) (dU 14 rfl rfl (dC (bP _)) kd)))))))) rfl (fun BN AE=>?_)
    obtain ⟨BS,BT,v⟩:=BN
    try dsimp only
    dsimp only at AE
    refine sk hT 31 18 U U (fun w hs=>St.kf [3,4,5,6,7,8,9,10,11,12,13,14,15,16] U U hs) U U ?_
    try dsimp only [List.take]
    refine xd U fun Y X K hT=>qW 0 U ?_
    try dsimp only [List.eraseIdx]
    refine yC ?_
    have Bp:=uC (l:=l) (r:=r) (k:=B) (rs:=(rs++[(j:Int)-1])) (fs:=(fs++[tt])) AD om
    refine c_ (es2:=(List.zipWith cY.cells ((gL l r rs fs)++(ia l r B rs fs (j+1))) (E++(azW++v)))) (m':=((gL l r rs fs)++(ia l r B rs fs (j+1))).length) 18 U U U ON U U (ti (by simp only [List.length_append]; omega)).symm (ag (n:=(g_ l r B (rs++[(j:Int)-1]) (fs++[tt])).length) 0 U (ti AE)) (B_ _ _) (by simp only [List.length_append]; omega) (by simp only [List.length_append,maxLen]; omega) (by rw [mV R,← List.append_assoc,← List.append_assoc]; exact (K_ (by simp only [List.length_append]; omega)).symm) (ti (by rw [mV R]; simp only [List.length_append]; omega)) U fun Au Az=>?_
    try dsimp only
    refine sk hT 32 19 U U (fun w hs=>St.kf [4,5,6,7,8,9,10,11,12,13,14,15,16,17] U U hs) U U ?_
    try dsimp only [List.take]
    refine xd U fun Y X K hT=>rS (AG U)<|sk hT 33 19 U U (fun w hs=>St.kf [4,5,6,7,8,9,10,11,12,13,14,15,16,17] U U hs) U U ?_
    try dsimp only [List.take]
    refine aG<|KK P<|ak<|rP 3 [] I ?_
    refine aF<|Fg 1 U ?_
    try dsimp only [List.eraseIdx]
    refine Fg 17 U ?_
    try dsimp only [List.eraseIdx]
    refine JL A ?_
    rw [← mV R]
    try dsimp only
    have Ah:(vI ((((j+1):Nat):Int)-1))=(vI (((j:Int)-1)+1)):=by exact cI om
    refine aR (O ⟨((j+1),Au,Az,(azW++v)),⟨om,by dsimp only; (rw [mV R,List.length_append,List.length_append,A,AE])⟩⟩ _ _ _ U os (cO 8<|bo U Ah<|dw.nil _) (aI [4,5,6,7,8,9,10,11,12,13,14,15,16,0,17]))
   refine WS fun _ a=>rP 2 [] I ?_
   refine RK a<|bM U (aQ fun A5=>?_) (aP fun A5=>?_)
   ·refine bV ?_
    refine aR (jB (aS U) (aI [0,1,2,3,4,5,6,7,8,9,10,11,12,13,14]) (p ⟨(((fW r.Start fs)+(dR l rs.length)),r.f_),⟨by exact IB om,om⟩⟩))
   refine ai fun _ AV=>WS fun _ u=>rP 3 [] (mc 1 U I) ?_
   obtain ⟨s,hs⟩:=aL r.ah ((((j:Int)-1)).toNat) om
   have BF:=bH aM.cells hs
   refine rS (IA ((((j:Int)-1)).toNat) U (aD 8 U) z5 dc om om)<|rS (nN (((((j:Int)-1)).toNat)*2) U (aD 8 U) (Nat.mul_pos om dc) fx U)<|rS (gp ((((j:Int)-1)).toNat) 0 (vI s.gf) U b_ (aD 8 U) BF U dc U) ?_
   have Bj:=(hr.sig _ s hs).1
   refine rP 3 [] I ?_
   refine cN (t:=99) U (bk fun AF=>?_) (bj fun AF=>?_)
   ·refine a_ 7 U<|RK u<|aO U<|bw<|ab<|ab<|ay<|KK P<|ak<|rP 3 [] I ?_
    refine aF ?_
    have L:(ia l r B rs fs (j+1))=(ia l r B rs fs j):=by exact qx (wx om hs (fun q=>AF om))
    rw [← L]
    have Af:(vI ((((j+1):Nat):Int)-1))=(vI (((j:Int)-1)+1)):=by exact cI om
    refine aR (O ⟨((j+1),M,N,azW),⟨om,by dsimp only; (rw [L]; exact A)⟩⟩ _ _ _ U os (cO 8<|bo U Af<|dw.nil _) (aI [0,1,2,3,4,5,6,7,8,9,10,11,12,13,14]))
   refine rP 3 [] (mc 0 U I) ?_
   obtain ⟨bs,AC⟩:=aL (fc l r r.ah.length) ((((j:Int)-1)).toNat) om
   have Aj:=bH pU AC
   refine rS (IA ((((j:Int)-1)).toNat) U (aD 11 U) O0 dc om om)<|rS (gp ((((j:Int)-1)).toNat) 0 (vB bs) U b_ (aD 11 U) Aj U dc U)<|rP 2 [] I ?_
   refine RK u<|cy U (fun F=>?_) (fun F=>?_)
   ·rw [Bool.not_eq_true'] at F
    refine bw<|ab<|ab<|ay<|KK P<|ak<|rP 3 [] I ?_
    refine aF ?_
    have L:(ia l r B rs fs (j+1))=(ia l r B rs fs j):=by exact qx (wx om hs (fun q=>by rw [(Cc hs AC).2 q.2] at F; cases F))
    rw [← L]
    have Ag:(vI ((((j+1):Nat):Int)-1))=(vI (((j:Int)-1)+1)):=by exact cI om
    refine aR (O ⟨((j+1),M,N,azW),⟨om,by dsimp only; (rw [L]; exact A)⟩⟩ _ _ _ U os (cO 8<|bo U Ag<|dw.nil _) (aI [0,1,2,3,4,5,6,7,8,9,10,11,12,13,14]))
   rw [Bool.not_eq_false'] at F
   refine WK AV<|du cq 18 kr<|dP 4 [] (mc 0 U I) ?_
   obtain ⟨z,hz⟩:=aL (eT l r r.ah.length) ((((j:Int)-1)).toNat) om
   have Aq:=bH aa.cells hz
   refine dS (IA ((((j:Int)-1)).toNat) U (aD 10 U) jF dc om om)<|dS (nN (((((j:Int)-1)).toNat)*2) U (aD 10 U) (Nat.mul_pos om dc) fx U) ?_
   have Ar:=LC hs hz
   have BL:=xI l s
   rw [← Ar] at BL
   have BB:(cz l s).Lo≤(cz l s).Hi:=(Cc hs AC).1 F
   refine dS (gp ((((j:Int)-1)).toNat) 0 (vI z.Lo) U b_ (aD 10 U) Aq U dc U)<|dS (MX U)<|my 4 [] (mc 0 U I) U<|dS (IA ((((j:Int)-1)).toNat) U (aD 10 U) jF dc om om)<|dS (nN ((((((j:Int)-1)).toNat)*2)+1) U (aD 10 U) (Nat.mul_pos om dc) fx U)<|dS (gp ((((j:Int)-1)).toNat) 1 (vI z.Hi) U b_ (aD 10 U) Aq U dc U)<|dS (MN U)<|dP 2 [] I ?_
   refine cH<|aF ?_
   refine aR (jB (aS U) (aI [0,1,2,3,4,5,6,7,8,9,10,11,12,13,14]) (p ⟨((max ((fW r.Start fs)+(dR l rs.length)) z.Lo),(min r.f_ z.Hi)),⟨by (rw [Ar]; exact K3 om hs om BB),om⟩⟩))
  refine WS fun _ Z=>rP 2 [] I ?_
  refine RK Z<|bM U (aQ fun A4=>?_) (aP fun A4=>?_)
  ·refine bV ?_
   have Ad:(vI (fW r.Start fs))=(vI r.Start):=by exact cI (by have e:fs=[]:=jC om; rw [e]; rfl)
   refine aR (jB (cO 7<|bo U Ad<|dw.nil _) (aI [0,1,2,3,4,5,6,7,8,9,10,11,12,13]) (o ()))
  refine ak<|rP 3 [] I ?_
  obtain ⟨xf,Am⟩:=aL fs (rs.length-1) om
  have An:=bH iC Am
  refine rS (IA (rs.length-1) U (show i_ _ (rd fA fs.length 1 (fs.map iC)).holds from (pc (c:=fC) (e:=3) 3 U sm sm)) cv dc om om)<|rS (gp (rs.length-1) 0 (vI xf) U b_ (show i_ _ (rd fA fs.length 1 (fs.map iC)).holds from (pc (c:=fC) (e:=3) 3 U sm sm)) An U dc U)<|rP 1 [] I ?_
  refine aF ?_
  have Ac:(vI (fW r.Start fs))=(vI xf):=by exact cI (BG _ _ _ (by rw [hfl]; exact Am))
  refine aR (jB (cO 7<|bo U Ac<|dw.nil _) (aI [0,1,2,3,4,5,6,7,8,9,10,11,12,13]) (o ()))
 refine WS fun _ V=>rP 8 [0,1] (mc 1 U (mc 2 U I)) ?_
 refine RK V<|bM U (aQ fun G=>?_) (aP fun G=>?_)
 ·refine bV<|Dz<|HT 241 3 ?_
  rw [show (own none 0 241 3 [])=(own none 0 241 3 (List.zipWith cY.cells (gL l r rs fs) [])) from by rw [xU G]; rfl]
  have Ae:(vS none ((gL l r rs fs).length) 0)=(vS none 0 0):=by first|rfl|(rw [xU G]; rfl)
  refine aR (jB (cO 6<|bo U Ae<|dw.nil _) (aI [2,3,4,5,6,7,8,9,10,11,12,13,0,1]) (m ⟨(none,0,[],[]),(by exact .inr ⟨G,U,U⟩)⟩))
 refine ak<|rP 6 [0,1] (mc 1 U (mc 0 U I)) ?_
 refine cX (Lp r sgA sgC l vwA vwC vtA vtC vbA vbC rs rA rC hle hr om (by exact fun x hx h0=>(hrs x hx).2)) (lH [8,9,10,11]<|aq (show i_ _ (rd rA rs.length 1 (rs.map iC)).holds from (pc (c:=rC) (e:=3) 3 U sm sm))<|aJ) U fun BM BR=>?_
 obtain ⟨S,T⟩:=BM
 try dsimp only
 refine rS (SX (bh (xs:=[(0,.tmp 48),(1,.tmp 49),(2,.tmp 53)]) (cs:=(wT.cells (wT.mk (bp.mk rA rs.length rC) (bp.mk fA fs.length fC) (bp.mk S ((je l r rs).length) T)))) U U (bg Ra U)) U U)<|cV (xs:=[.tmp 54]) (cs:=(wT.cells (wT.mk (bp.mk rA rs.length rC) (bp.mk fA fs.length fC) (bp.mk S ((je l r rs).length) T)))) U F2 RW U U U U (by simp [Value.cells,wT.aV]) U U fun BW=>dH 241 3 ?_
 refine c_ (es2:=(List.zipWith cY.cells (gL l r rs fs) ([((rA,rC),(fA,fC),(S,T))]))) (m':=(gL l r rs fs).length) 0 rfl rfl rfl ON rfl rfl rfl (aZ (es:=List.zipWith cY.cells [(cY.mk rs fs (je l r rs))] [((rA,rC),(fA,fC),(S,T))]) 1 rfl rfl (by intro e he; simp at he; subst he; rfl) rfl) (B_ _ _) dc dc (by rw [zp G]; rfl) (by rw [zp G]; rfl) rfl fun y AA=>?_
 try dsimp only
 refine xb<|OZ 0 3 U U U ?_
 try dsimp only
 refine rP 1 [] I ?_
 refine aF ?_
 have d:(vS y ((gL l r rs fs).length) AA)=(vS y ((gL l r rs fs).length) AA):=by first|rfl|(rw [xU G]; rfl)
 refine aR (jB (cO 6<|bo U d<|dw.nil _) (aI [3,4,5,6,7,8,9,10,11,12,13,14,1,0]) (m ⟨(y,AA,[((rA,rC),(fA,fC),(S,T))],[(own S T 3 1 ((je l r rs).map iC))]),(by exact .inl ⟨G,_,U,U⟩)⟩))
theorem QL (l:aX) (kA:OA) (kC:Nat) (az:List RA) (cA:OA) (cC:Nat) (bA:OA) (bC:Nat) (r:cx) (sgA:OA) (sgC:Nat) (vwA:OA) (vwC:Nat) (vtA:OA) (vtC:Nat) (vbA:OA) (vbC k:Nat) (rs:List Int) (rA:OA) (rC:Nat) (fs:List Int) (fA:OA) (fC:Nat) (hin:eu l az) (hle:dp l=0) (hr:ff l r) (hk:rs.length+k=l.ae.length) (hfl:fs.length=rs.length) (hst:r.Start≤fW r.Start fs∧fW r.Start fs≤r.f_) (hrs: ∀ x∈rs,-1≤x∧x<(r.ah.length:Int)):
 Dl Tryz.prog 173 [(vA (cb.cells (ly l kA kC cA cC bA bC))),(vA (eH.cells (mA r sgA sgC))),(vA (iq.cells (iq.mk (bp.mk vwA ((cG l l.ae.length).length) vwC) (bp.mk vtA ((eT l r r.ah.length).length) vtC) (bp.mk vbA ((fc l r r.ah.length).length) vbC)))),(vS rA rs.length rC),(vS fA fs.length fC)] [(rd kA l.aN.length 9 (l.aN.map al.cells)),(rd cA l.aj.length 2 (List.zipWith av.cells l.aj az)),(e7 (aU av.g0 l.aj az)),(rd bA l.ae.length 4 (l.ae.map bB.cells)),(rd sgA r.ah.length 2 (r.ah.map aM.cells)),(rd vwA ((cG l l.ae.length).length) 1 ((cG l l.ae.length).map iC)),(rd vtA ((eT l r r.ah.length).length) 2 ((eT l r r.ah.length).map aa.cells)),(rd vbA ((fc l r r.ah.length).length) 1 ((fc l r r.ah.length).map pU))] (bu [own rA rC 3 1 (rs.map iC),own fA fC 3 1 (fs.map iC)]) (fun (x:(OA)×Nat×(List km))=>(vS x.1 ((g_ l r k rs fs).length) x.2.1)) (fun (x:(OA)×Nat×(List km))=>x.2.2.length=(g_ l r k rs fs).length) (fun (x:(OA)×Nat×(List km))=>(bu (aU cY.owns (g_ l r k rs fs) x.2.2++[own x.1 x.2.1 241 3 (List.zipWith cY.cells (g_ l r k rs fs) x.2.2)]))):=by
 induction k using Nat.strongRecOn generalizing rs rA rC fs fA fC with
 |ind k ih=>exact Hk l kA kC az cA cC bA bC r sgA sgC vwA vwC vtA vtC vbA vbC k rs rA rC fs fA fC hin hle hr hk hfl hst hrs (fun L F D E C A B G H AA J K=>ih L G F D E C A B H AA J K)
end
section
open Go.RowKit
theorem M7 (l:aX) (kA:OA) (kC:Nat) (az:List RA) (cA:OA) (cC:Nat) (bA:OA) (bC:Nat) (r:cx) (sgA:OA) (sgC:Nat) (hin:eu l az) (hsl:r.ah.length≤1000000):
 lD Tryz.prog 167 [(vA (cb.cells (ly l kA kC cA cC bA bC))),(vA (eH.cells (mA r sgA sgC)))] [(rd kA l.aN.length 9 (l.aN.map al.cells)),(rd cA l.aj.length 2 (List.zipWith av.cells l.aj az)),(e7 (aU av.g0 l.aj az)),(rd bA l.ae.length 4 (l.ae.map bB.cells)),(rd sgA r.ah.length 2 (r.ah.map aM.cells))] (fun (x:Bool×Int×(OA)×Nat×(List km))=>bif x.1 then (vT [(vS x.2.2.1 ((pY l r).length) x.2.2.2.1),(vI 0)]) else (vT [(vS none 0 0),(vI x.2.1)])) (fun (x:Bool×Int×(OA)×Nat×(List km))=>(x.1=true→(eA l r 0=0∧x.2.2.2.2.length=(pY l r).length))∧(x.1=false→(x.2.1=eA l r 0∧ ¬ eA l r 0=0))) (fun (x:Bool×Int×(OA)×Nat×(List km))=>bif x.1 then [(own x.2.2.1 x.2.2.2.1 241 3 (List.zipWith cY.cells (pY l r) x.2.2.2.2)),(bu (aU cY.owns (pY l r) x.2.2.2.2))] else []):=by
 have k:=hin.sM
 have j:=hin.sO
 have h:=hin.oq
 have i:=hin.sN
 refine di kr Tryz.func167 U U fun o Q hQ hN=>?_
 try dsimp only
 refine WS fun _ X=>fQ U fun m=>fQ U fun n=>a_ 2 U<|RK X<|ai fun _ Y=>WS fun _ Z=>fy 1 [] (mc 1 U I) U<|rS (CL (Cj l kA kC az cA cC bA bC hin) (bf [2,3,4,5]) U)<|a_ 1 U<|RK Z<|WS fun _ a=>rP 2 [] I ?_
 refine RK a<|cy U (bk fun A=>?_) (bj fun A=>?_)
 ·refine WS fun _ b=>rP 3 [] I ?_
  refine RK b<|ao<|LX hQ (false,(dp l),none,0,[]) [] [] I U (by rfl) U U ?_
  exact rG<|LS (nV (r:=r) (me:=0) A) A
 refine WK Y<|ai fun _ c=>WS fun _ d=>fy 2 [0,1] (mc 1 U (mc 0 U I)) U<|rS (CL (Na l kA kC az cA cC bA bC r sgA sgC hin (by exact hsl)) (bf [2,3,4,5,6]) U)<|rP 1 [] I ?_
 refine RK d<|cy U (bk fun B=>?_) (bj fun B=>?_)
 ·refine WS fun _ D=>rP 2 [] I ?_
  refine RK D<|ao<|LX hQ (false,51,none,0,[]) [] [] I U (by rfl) U U ?_
  exact rG<|pQ (jd (me:=0) A B)
 refine WK c<|ai fun _ E=>dD cq [4,5,6] [] [] [0,1,2,3,4,5,6] [] U U U U U<|eS U (LW 1 U b_ U U)<|eS U (LW 0 U b_ U U)<|eS U (LW 1 U b_ U U)<|eS U (LW 0 U b_ U U)<|eX U<|bX U fun T12 J=>cX (NR l kA kC az cA cC bA bC r sgA sgC hin (by exact A) (by exact B)) (bf [2,3,4,5,6]) U fun e g=>?_
 obtain ⟨V,W,T,AA,R,S⟩:=e
 try dsimp only
 refine aF (J _ _ (aI [3,4,5,6,7,8,9]) ?_)
 refine bX U fun T21 K=>dH 3 1<|dH 3 1<|xb<|qW 1 U ?_
 try dsimp only [List.eraseIdx]
 refine Ab U<|qW 1 U ?_
 try dsimp only [List.eraseIdx]
 refine Ab U ?_
 try dsimp only
 refine iP 0 rfl rfl rfl rfl (QL l kA kC az cA cC bA bC r sgA sgC V W T AA R S l.ae.length ([]:List Int) none 0 ([]:List Int) none 0 hin (by exact A) (by exact B) sm (by rfl) (by exact ⟨Int.le_refl _,B.time.2.1⟩) (by intro x hx; cases hx)) rfl (dU 6 rfl rfl (dC (bP _)) (dU 7 rfl rfl (dC (bP _)) (dU 8 rfl rfl (dC (bP _)) (dU 9 rfl rfl (dC (bP _)) (dU 10 rfl rfl (dC (bP _)) (dU 1 rfl rfl (j0 sm) (dU 2 rfl rfl (j0 sm) (dU 3 rfl rfl (j0 sm) kd)))))))) rfl (fun f M=>?_)
 obtain ⟨N,O,P⟩:=f
 try dsimp only
 refine aF (K _ _ (aI [4,5,6,7,8,9,10]) ?_)
 refine bX U fun T26 L=>qW 0 U ?_
 try dsimp only [List.eraseIdx]
 refine yC ?_
 dsimp only at M
 refine rS (AG U)<|aF (L _ _ (aI [5,6,7,8,9,10,11]) ?_)
 refine fF U<|KK E<|ai fun _ F=>WS fun _ G=>rP 3 [] I ?_
 refine RK G<|bM U (aQ fun C=>?_) (aP fun C=>?_)
 ·refine WK F<|WS fun _ AB=>rP 3 [] I ?_
  refine RK AB<|ao ?_
  refine LX hQ (true,0,N,O,P) [0,1] [] I U (by (show List.all _ _=true; simp only [cond_true,fG,List.all_nil,Ln,Bool.and_true]; rfl)) U U ?_
  exact ⟨fun _=>⟨lR A B U fun q=>C (by rw [show g_ l r l.ae.length [] []=[] from (fH A B).2 q]; rfl),M⟩,Ng⟩
 refine WS fun _ H=>rP 2 [] I ?_
 refine RK H<|ao<|LX hQ (false,8,none,0,[]) [] [] I U (by rfl) U U ?_
 exact rG<|pQ (pM (me:=0) A B U ((fH A B).1 (jC (Int.natCast_eq_zero.1 C))))
theorem H4 (ws:List cY) (wz:List km) (wA:OA) (wC b:Nat) (hws:NX ws) (hwz:wz.length=ws.length) (hb:b≤6):
 dV Tryz.prog 168 [(vS wA ws.length wC),(vI (b:Int))] [(rd wA ws.length 3 (List.zipWith cY.cells ws wz)),(e7 (aU cY.g0 ws wz))] (vT [(vA (aa.cells (pE ws b))),(vI (o8 ws b))]):=by
 have u:=hws.num
 refine bx kr Tryz.func168 U U fun x Q hQ hN=>?_
 try dsimp only
 refine WS fun _ g=>AL U cZ fun w=>a_ 1 U<|RK g<|WS fun _ h=>AL U cZ fun t=>RK h<|WS fun _ j=>a_ 1 U<|RK j<|ai fun _ k=>WS fun _ l=>rP 1 [] I ?_
 refine RK l<|ax ?_
 have D:(0≤ws.length)∧(ng b (ws.take 0) false (aa.mk 0 0)):=by exact ⟨Nat.zero_le _,GM⟩
 refine bK (ι:={z:Nat×Bool×aa // (z.1≤ws.length)∧(ng b (ws.take z.1) z.2.1 z.2.2)}) [0,1,4,5,6] [1,2,3] U U (fun z=>[(7,(vB z.1.2.1)),(8,(vI (z.1.1:Int)))]) (fun z=>[(bU t 40 (aa.cells z.1.2.2))]) (fun _=>rfl) (fun _=>rfl) (fun z=>ws.length-z.1.1) ⟨(0,false,(aa.mk 0 0)),D⟩ (aS U) (aI [1,2,3,0]) ?_
 clear D
 rintro ⟨⟨i,fd,o⟩,⟨J,A⟩⟩ J8 H
 try dsimp only at J A
 try dsimp only
 refine ai fun _ m=>WS fun _ L=>rP 4 [] I ?_
 refine RK L<|bM U (aQ fun c=>?_) (aP fun c=>?_)
 ·refine bw<|ab<|ab<|ay<|KK k<|ai fun _ R=>WS fun _ S=>rP 2 [] I ?_
  refine RK S<|bM U (fun B=>?_) (fun B=>?_)
  ·rw [Bool.not_eq_false'] at B
   refine WK R<|WS fun _ AA=>fy 1 [] (mc 3 U I) U<|fO U cp U<|rP 1 [] I ?_
   refine RK AA<|ao<|lp hQ [0] (mc 0 U I) U ?_
   have AB:=zj (by have q:=A; rwa [List.take_of_length_le om] at q) hws.Fi
   (have q:=AB.2 B; rw [q.1,q.2]; done)
  rw [Bool.not_eq_true'] at B
  refine WS fun _ T=>rS (SX (bh (xs:=[]) (cs:=(aa.cells (aa.mk 0 0))) U U (bg gn U)) U U)<|fO U cp U<|rP 1 [] I ?_
  refine RK T<|ao<|lp hQ [0] (mc 0 U I) U ?_
  have AB:=zj (by have q:=A; rwa [List.take_of_length_le om] at q) hws.Fi
  (have q:=AB.1 B; rw [q.1,q.2]; done)
 refine WK m<|ai fun _ C=>ax<|ai fun _ M=>WS fun _ N=>rP 2 [] I ?_
 obtain ⟨y,hy⟩:=aL ws i om
 obtain ⟨ya,E⟩:=aL wz i om
 have K:(List.zipWith cY.cells ws wz)[i]? =some (cY.cells y ya):=dM hy E
 refine rS (IA i U (aD 1 U) F2 dc om om)<|rS (nN (i*3) U (aD 1 U) (Nat.mul_pos om dc) fx U)<|rS (gp i 0 (vS ya.1.1 y.gh.length ya.1.2) U b_ (aD 1 U) K U dc U)<|rP 3 [] I ?_
 refine RK N<|cy U (aP fun d=>?_) (aQ fun d=>?_)
 ·refine bw<|ab<|ay<|KK C<|ak<|rP 3 [] I ?_
  refine aF ?_
  have X:(vI (((i+1):Nat):Int))=(vI ((i:Int)+1)):=by exact cI om
  refine aR (H ⟨((i+1),fd,o),⟨om,by dsimp only; rw [lS hy]; exact E3 A om⟩⟩ _ _ _ U os (cO 6<|bo U X<|dw.nil _) (aI [0,1,2,3]))
 refine WK M<|ai fun _ O=>dD cq [17,18] [] [] [0,1,2,3] [] U U U U U ?_
 have v:=hws.lens y (aT hy)
 obtain ⟨s,hs⟩: ∃ s,y.gh[b]? =some s:=⟨y.gh[b]'om,e8 _⟩
 refine eS U (MV U)<|eS U (MV U)<|eS U (IA i U (aD 1 U) F2 dc om om)<|eS U (nN ((i*3)+1) U (aD 1 U) (Nat.mul_pos om dc) fx U)<|eS U (gp i 1 (vS ya.2.1.1 y.iB.length ya.2.1.2) U b_ (aD 1 U) K U dc U)<|eS U (MV U) ?_
 obtain ⟨f,hf⟩:=aL y.iB b om
 have p:=bH iC hf
 refine eS U (IA b U (show i_ _ (rd ya.2.1.1 y.iB.length 1 (y.iB.map iC)).holds from (dx 2 U (bW hy E (by simp [cY.g0])))) cv dc om om)<|eS U (gp b 0 (vI f) U b_ (show i_ _ (rd ya.2.1.1 y.iB.length 1 (y.iB.map iC)).holds from (dx 2 U (bW hy E (by simp [cY.g0])))) p U dc U)<|eS U (MV U)<|eS U (MV U)<|eS U (IA i U (aD 1 U) F2 dc om om)<|eS U (nN ((i*3)+2) U (aD 1 U) (Nat.mul_pos om dc) fx U)<|eS U (gp i 2 (vS ya.2.2.1 y.lQ.length ya.2.2.2) U b_ (aD 1 U) K U dc U)<|eS U (MV U) ?_
 obtain ⟨e,he⟩:=aL y.lQ b om
 have n:=bH iC he
 refine eS U (IA b U (show i_ _ (rd ya.2.2.1 y.lQ.length 1 (y.lQ.map iC)).holds from (dx 2 U (bW hy E (by simp [cY.g0])))) cv dc om om)<|eS U (gp b 0 (vI e) U b_ (show i_ _ (rd ya.2.2.1 y.lQ.length 1 (y.lQ.map iC)).holds from (dx 2 U (bW hy E (by simp [cY.g0])))) n U dc U)<|eS U (SX (bh (xs:=[(0,.tmp 31),(1,.tmp 39)]) (cs:=(aa.cells (aa.mk f e))) U U (bg gn U)) U U)<|eX U<|bX U fun T17 V=>AL U cZ fun r=>aF (V _ _ (aI [1,2,3,4]) ?_)
 refine bX U fun T19 W=>fO U cp U<|aF (W _ _ (aI [1,2,3,4]) ?_)
 refine fF U<|KK O<|ai fun _ F=>WS fun _ P=>?_
 have a:=hws.le y (aT hy) b f e om hf he
 refine rP 1 [] I ?_
 refine RK P<|bM U (fun G=>?_) (fun G=>?_)
 ·refine WK F<|ak<|fy 1 [] (mc 0 U I) U<|Ps U cp U<|a_ 1 U<|aF<|aG<|KK C<|ak<|rP 3 [] I ?_
  refine aF ?_
  have Z:(vI (((i+1):Nat):Int))=(vI ((i:Int)+1)):=by exact cI om
  refine aR (H ⟨((i+1),true,(aa.mk f e)),⟨om,by dsimp only; rw [lS hy]; exact Cw A G hs hf he a⟩⟩ _ _ _ U os (cO 6<|bo U Z<|dw.nil _) (aI [1,2,3,4]))
 refine ak<|fy 4 [0,1] (mc 0 U (mc 4 U I)) U<|rS (MN U)<|fy 4 [0,1] (mc 0 U (mc 4 U I)) U<|rS (MX U)<|rS (SX (bh (xs:=[(0,.tmp 46),(1,.tmp 51)]) (cs:=(aa.cells (aa.mk (min f o.Lo) (max e o.Hi)))) U U (bg gn U)) U U)<|fO U cp U<|RK F<|ak<|fy 1 [] (mc 0 U I) U<|Ps U cp U<|a_ 1 U<|aF<|aG<|KK C<|ak<|rP 3 [] I ?_
 refine aF ?_
 have Y:(vI (((i+1):Nat):Int))=(vI ((i:Int)+1)):=by exact cI om
 refine aR (H ⟨((i+1),true,(aa.mk (min f o.Lo) (max e o.Hi))),⟨om,by dsimp only; rw [lS hy]; exact D2 A G hs hf he a⟩⟩ _ _ _ U os (cO 6<|bo U Y<|dw.nil _) (aI [1,2,3,4]))
end
section
open Go.RowKit
theorem QN (l:aX) (kA:OA) (kC:Nat) (az:List RA) (cA:OA) (cC:Nat) (bA:OA) (bC:Nat) (r:cx) (sgA:OA) (sgC:Nat) (hin:eu l az) (hsl:r.ah.length≤1000000):
 dV Tryz.prog 158 [(vA (cb.cells (cb.mk (bD.mk (bp.mk kA l.aN.length kC)) l.gT (bp.mk cA l.aj.length cC) (bp.mk bA l.ae.length bC) l.cu l.eM l.cQ))),(vA (eH.cells (mA r sgA sgC)))] [(rd kA l.aN.length 9 (l.aN.map al.cells)),(rd cA l.aj.length 2 (List.zipWith av.cells l.aj az)),(e7 (aU av.g0 l.aj az)),(rd bA l.ae.length 4 (l.ae.map bB.cells)),(rd sgA r.ah.length 2 (r.ah.map aM.cells))] (vT [(vA (aa.cells (zP l r))),(vI (eP l r l.cu))]):=by
 have q:=hin.sM
 have j:=hin.sO
 have h:=hin.oq
 have i:=hin.sN
 refine bx kr Tryz.func158 U U fun y Q hQ hN=>?_
 try dsimp only
 refine WS fun _ Z=>fQ U fun v=>fQ U fun w=>AL U cZ fun x=>a_ 1 U<|RK Z<|WS fun _ P=>rP 2 [0,1] (mc 2 U (mc 1 U I)) ?_
 refine cX (M7 l kA kC az cA cC bA bC r sgA sgC hin hsl) (bf [3,4,5,6,7]) U fun u V=>?_
 obtain ⟨W,g,e,Y,X⟩:=u
 cases W
 ·obtain ⟨R,he⟩:=V.2 rfl
  try dsimp only at R he
  subst R
  try dsimp only [cond_true,cond_false,List.cons_append,List.nil_append]
  refine a_ 5 U<|RK P<|ai fun _ d=>WS fun _ G=>rP 2 [] I ?_
  refine RK G<|bM U (bj fun F=>?_) (bk fun F=>?_)
  ·exact absurd F he
  refine WS fun _ H=>rS (SX (bh (xs:=[]) (cs:=(aa.cells (aa.mk 0 0))) U U (bg gn U)) U U)<|a_ 1 U<|fO U cp U<|rP 1 [] I ?_
  refine RK H<|ao<|lp hQ [0] (mc 0 U I) U ?_
  (rw [Es (fun z=>he ((vm he).symm.trans z)),vm he]<;>rfl)
 obtain ⟨he,C⟩:=V.1 rfl
 try dsimp only [cond_true,cond_false,List.cons_append,List.nil_append]
 try dsimp only at he C
 obtain ⟨T,E,_,k⟩:=jH he
 obtain ⟨s,c⟩:=gH T
 have a:=c.head
 unfold gl at a
 have AA:=Qw T E
 have t:=AA.num
 have o:=E.len
 have p:=E.time
 refine a_ 5 U<|RK P<|ai fun _ AB=>WS fun _ J=>rP 1 [] I ?_
 refine rS (SX (bS (r:= .bool false) U U U j6) U U)<|RK J<|aW U<|WK AB<|ai fun _ K=>?_
 obtain ⟨b,S⟩: ∃ b:Nat,l.cu=(b:Int):=⟨l.cu.toNat,om⟩
 have A:=JU he (b:=b) om
 rw [← S] at A
 rw [S]
 refine ak<|fy 3 [] (mc 4 U I) U<|rS (CL (H4 (pY l r) X e Y b (by exact AA) (by exact C) om) (aq (ag (n:=(pY l r).length) 0 U (ti C))<|aq (dy 1 U MI)<|aJ) U)<|a_ 3 U<|AL U cZ fun f=>fO U cp U<|a_ 1 U<|RK K<|ai fun _ L=>WS fun _ M=>rP 2 [] I ?_
 refine RK M<|cy U (bk fun B=>?_) (bj fun B=>?_)
 ·refine WS fun _ N=>rS (SX (bh (xs:=[]) (cs:=(aa.cells (aa.mk 0 0))) U U (bg gn U)) U U)<|a_ 1 U<|TQ U cp U<|rP 1 [] I ?_
  refine RK N<|ao<|lp hQ [0] (mc 3 U I) U ?_
  (rw [Es (fun z=>B (A.1.trans z)),← A.1]<;>rfl)
 refine WK L<|ai fun _ O=>?_
 have D:eP l r l.cu=0:=A.1.symm.trans B
 have m:=wj D
 rw [A.2]
 refine ak<|fy 10 [0,1,0,1] (mc 0 U (mc 4 U I)) U<|rS (SX (bh (xs:=[(0,.tmp 34),(1,.tmp 39)]) (cs:=(aa.cells (aa.mk (((eZ l r l.cu).Lo)-r.Start) (((eZ l r l.cu).Hi)-r.Start)))) U U (bg gn U)) U U)<|TQ U cp U<|rP 1 [] I ?_
 refine RK O<|ao<|lp hQ [0] (mc 3 U I) U ?_
 (rw [Ad D,D])
end
section
open Go.RowKit
theorem vj (G:List (List Int)) (H:List (List Int)) (gz:List RA) (gA:OA) (gC:Nat) (hz:List RA) (hA:OA) (hC:Nat) (h1:G.length≤1000000) (h2:H.length≤1000000) (h3: ∀ l∈G,l.length≤1000000) (h4: ∀ l∈H,l.length≤1000000) (hgz:gz.length=G.length) (hhz:hz.length=H.length):
 dV Tryz.prog 22 [(vS gA G.length gC),(vS hA H.length hC)] [(rd gA G.length 1 (List.zipWith lu G gz)),(e7 (aU Q3 G gz)),(rd hA H.length 1 (List.zipWith lu H hz)),(e7 (aU Q3 H hz))] (vB (decide (G=H))):=by
 refine bx kr Tryz.func22 U U fun Z Q hQ hN=>?_
 try dsimp only
 refine WS fun _ N=>a_ 1 U<|RK N<|ai fun _ O=>WS fun _ P=>rP 5 [] I ?_
 refine RK P<|cy U (bk fun hl=>?_) (bj fun hl=>?_)
 ·refine WS fun _ R=>rP 1 [] I ?_
  refine RK R<|ao<|Q1 hQ U U U ?_
  first|exact cB (cd (nB hx hy h)).symm|exact cB (fI (nH om A om)).symm|exact cB (cd (fun e=>by subst e; omega)).symm
 refine WK O<|ai fun _ S=>WS fun _ T=>rP 1 [] I ?_
 refine RK T<|ax ?_
 have B:(0≤G.length)∧(G.take 0=H.take 0):=by exact ⟨Nat.zero_le _,rfl⟩
 refine bK (ι:={z:Nat // (z≤G.length)∧(G.take z=H.take z)}) [0,1] [0,1,2,3] U U (fun z=>[(5,(vI (z.1:Int)))]) (fun z=>[]) (fun _=>rfl) (fun _=>rfl) (fun z=>G.length-z.1) ⟨0,B⟩ (aS U) (aI [0,1,2,3]) ?_
 clear B
 rintro ⟨i,⟨W,A⟩⟩ J7 M
 try dsimp only
 refine ai fun _ AA=>WS fun _ V=>rP 4 [] I ?_
 refine RK V<|bM U (aQ fun L=>?_) (aP fun L=>?_)
 ·refine bw<|ab<|ab<|ay<|KK S<|WS fun _ F=>rP 1 [] I ?_
  refine RK F<|ao<|Q1 hQ U U U ?_
  first|exact cB (cd (nB hx hy h)).symm|exact cB (fI (nH om A om)).symm|exact cB (cd (fun e=>by subst e; omega)).symm
 refine WK AA<|ai fun _ C=>ax<|ai fun _ D=>du cq 10 kr<|dP 2 [] I ?_
 obtain ⟨x,hx⟩:=aL G i om
 obtain ⟨xa,J⟩:=aL gz i om
 have X:(List.zipWith lu G gz)[i]? =some (lu x xa):=dM hx J
 refine dS (IA i U (aD 0 U) pg dc om om)<|dS (gp i 0 (vS xa.1 x.length xa.2) U b_ (aD 0 U) X U dc U)<|dP 2 [] I ?_
 obtain ⟨y,hy⟩:=aL H i om
 obtain ⟨ya,K⟩:=aL hz i om
 have Y:(List.zipWith lu H hz)[i]? =some (lu y ya):=dM hy K
 refine dS (IA i U (aD 2 U) pg dc om om)<|dS (gp i 0 (vS ya.1 y.length ya.2) U b_ (aD 2 U) Y U dc U)<|dS (CL (oc x xa.1 xa.2 y ya.1 ya.2 (by exact h3 x (aT hx)) (by exact h4 y (aT hy))) (aq (show i_ _ (rd xa.1 x.length 1 (x.map iC)).holds from (dx 1 U (bW hx J (by simp [Q3]))))<|aq (show i_ _ (rd ya.1 y.length 1 (y.map iC)).holds from (dx 3 U (bW hy K (by simp [Q3]))))<|aJ) U)<|dP 1 [] I ?_
 refine cH<|RK D<|cy U (bk fun h=>?_) (bj fun h=>?_)
 ·refine WS fun _ E=>rP 1 [] I ?_
  refine RK E<|ao<|Q1 hQ U U U ?_
  first|exact cB (cd (nB hx hy h)).symm|exact cB (fI (nH om A om)).symm|exact cB (cd (fun e=>by subst e; omega)).symm
 refine bV<|aG<|KK C<|ak<|rP 3 [] I ?_
 refine aF ?_
 have AB:(vI (((i+1):Nat):Int))=(vI ((i:Int)+1)):=by exact cI om
 refine aR (M ⟨(i+1),⟨om,uw A hx hy h⟩⟩ _ _ _ U os (dw.cons U<|dw.cons U<|bo U AB<|dw.nil _) (aI [0,1,2,3]))
end
section
open Go.RowKit
theorem Np (la:List Int) (laA:OA) (laC:Nat) (lb:List Int) (lbA:OA) (lbC:Nat) (h1:la.length≤1000000) (h2:lb.length≤1000000):
 dV Tryz.prog 43 [(vS laA la.length laC),(vS lbA lb.length lbC)] [(rd laA la.length 1 (la.map iC)),(rd lbA lb.length 1 (lb.map iC))] (vB (decide (la=lb))):=by
 refine bx kr Tryz.func43 U U fun W Q hQ hN=>?_
 try dsimp only
 refine WS fun _ K=>a_ 1 U<|RK K<|ai fun _ L=>WS fun _ M=>rP 5 [] I ?_
 refine RK M<|cy U (bk fun hl=>?_) (bj fun hl=>?_)
 ·refine WS fun _ N=>rP 1 [] I ?_
  refine RK N<|ao<|Q1 hQ U U U ?_
  first|exact cB (cd (nB hx hy h)).symm|exact cB (fI (nH om A om)).symm|exact cB (cd (fun e=>by subst e; omega)).symm
 refine WK L<|ai fun _ O=>WS fun _ P=>rP 3 [] I ?_
 refine RK P<|ax ?_
 have B:(0≤la.length)∧(la.take 0=lb.take 0):=by simp
 refine bK (ι:={z:Nat // (z≤la.length)∧(la.take z=lb.take z)}) [0,1,12] [0,1] U U (fun z=>[(13,(vI (z.1:Int)))]) (fun z=>[]) (fun _=>rfl) (fun _=>rfl) (fun z=>la.length-z.1) ⟨0,B⟩ (aS U) (aI [0,1]) ?_
 clear B
 rintro ⟨i,⟨T,A⟩⟩ J7 J
 try dsimp only
 refine WS fun _ R=>rP 1 [] I ?_
 refine RK R<|ai fun _ S=>bM U (aQ fun AB=>?_) (aP fun AB=>?_)
 ·refine bw<|ab<|ab<|ay<|KK O<|WS fun _ G=>rP 1 [] I ?_
  refine RK G<|ao<|Q1 hQ U U U ?_
  first|exact cB (cd (nB hx hy h)).symm|exact cB (fI (nH om A om)).symm|exact cB (cd (fun e=>by subst e; omega)).symm
 refine WK S<|ai fun _ C=>ax<|WS fun _ D=>a_ 2 U<|RK D<|ai fun _ E=>du cq 9 kr<|dP 2 [] I ?_
 obtain ⟨x,hx⟩:=aL la i om
 have AA:=bH iC hx
 refine dS (IA i U (aD 0 U) cv dc om om)<|dS (gp i 0 (vI x) U b_ (aD 0 U) AA U dc U)<|dP 2 [] I ?_
 obtain ⟨y,hy⟩:=aL lb i om
 have V:=bH iC hy
 refine dS (IA i U (aD 1 U) cv dc om om)<|dS (gp i 0 (vI y) U b_ (aD 1 U) V U dc U)<|dP 1 [] I ?_
 refine cH<|RK E<|cy U (bk fun h=>?_) (bj fun h=>?_)
 ·refine WS fun _ F=>rP 1 [] I ?_
  refine RK F<|ao<|Q1 hQ U U U ?_
  first|exact cB (cd (nB hx hy h)).symm|exact cB (fI (nH om A om)).symm|exact cB (cd (fun e=>by subst e; omega)).symm
 refine bV<|aG<|KK C<|ak<|rP 2 [] I ?_
 refine aF ?_
 have H:(vI (((i+1):Nat):Int))=(vI ((i:Int)+1)):=by exact cI om
 refine aR (J ⟨(i+1),⟨om,uw A hx hy h⟩⟩ _ _ _ U os (cO 3<|bo U H<|dw.nil _) (aI [0,1]))
theorem G7 (h i:Int) (t:aa) (r:bT) (kA:OA) (kC:Nat) (az:List RA) (cA:OA) (cC:Nat) (bA:OA) (bC:Nat) (slA:OA) (slC:Nat) (drA:OA) (drC:Nat) (ha:List cM) (heA:OA) (heC:Nat) (hin:eW r az ha):
 lD Tryz.prog 19 [(vA (cm.cells (oD r kA kC cA cC bA bC slA slC drA drC heA heC))),(vI h),(vI i),(vA (aa.cells t))] [(rd eJ 3 2 dJ),(rd kA r.an.aN.length 9 (r.an.aN.map al.cells)),(rd cA r.an.aj.length 2 (List.zipWith av.cells r.an.aj az)),(e7 (aU av.g0 r.an.aj az)),(rd bA r.an.ae.length 4 (r.an.ae.map bB.cells)),(rd slA r.aK.length 1 (r.aK.map iC)),(rd drA r.bL.length 1 (r.bL.map iC)),(rd heA r.ar.length 1 (List.zipWith cJ r.ar ha)),(e7 (aU im r.ar ha))] (fun (x:(OA)×Nat)=>(vT [(vS x.1 ((ek r h i t).length) x.2),(vI (fJ r h i t))])) (fun (x:(OA)×Nat)=>True) (fun (x:(OA)×Nat)=>[(own x.1 x.2 3 1 ((ek r h i t).map iC))]):=by
 have At:=hin.line
 have BI:=hin.iN
 have BJ:=hin.has
 have A6:=hin.iM
 have A4:=hin.draw
 have Ab:=dB (r:=r)
 refine di kr Tryz.func19 U U fun w0 Q hQ hN=>?_
 try dsimp only
 refine WS fun _ As=>fQ U fun b2=>fQ U fun b3=>a_ 2 U<|RK As<|WS fun _ AE=>rP 1 [] (mc 1 U I) ?_
 refine cX (ob r kA kC az cA cC bA bC slA slC drA drC ha heA heC hin) (bf [2,3,4,5,6,7,8,9,10]) U fun y5 Ac=>?_
 obtain ⟨Ae,BG,v,G,f,g,z8⟩:=y5
 cases Ae
 ·obtain ⟨B,he⟩:=Ac.2 rfl
  try dsimp only at B he
  subst B
  try dsimp only [cond_true,cond_false,List.cons_append,List.nil_append]
  refine a_ 5 U<|RK AE<|ai fun _ A2=>WS fun _ AA=>rP 2 [] I ?_
  refine RK AA<|bM U (bj fun w=>?_) (bk fun w=>?_)
  ·exact absurd w he
  refine WS fun _ AB=>rP 1 [] I ?_
  have A:fJ r h i t=cr r:=r_ he
  have C:ek r h i t=[]:=wP (by rw [A]; exact he)
  refine dH 3 1 ?_
  rw [show (own none 0 3 1 ([]:List (List Value)))=own none 0 3 1 ((ek r h i t).map iC) from by rw [C]; rfl]
  refine rP 2 [] I ?_
  refine RK AB<|ao ?_
  refine LX hQ (none,0) [0] [] I U U U ?_ ?_
  ·first|rfl|(rw [A,C]; rfl)|(rw [A]; rfl)
  ·trivial
 obtain ⟨he,m⟩:=Ac.1 rfl
 try dsimp only [cond_true,cond_false,List.cons_append,List.nil_append]
 have BL:=he
 try dsimp only at m
 have AY:=(ib he).2
 refine a_ 5 U<|RK AE<|ai fun _ AC=>WS fun _ AD=>a_ 1 U<|rS (SX (bS (r:= .bool false) U U U j6) U U)<|RK AD<|aW U<|WK AC<|WS fun _ Z=>rP 4 [] (mc 4 U I) ?_
 refine cX (wq r kA kC az cA cC bA bC slA slC drA drC ha heA heC z8 f g (Value.map (some G)) v h i t hin (by exact AY)) (lH [7,8,9,10,11,12,13,14]<|aq (ag (n:=(cL r).length) 1 U (mR (by rw [Ab]; exact m)))<|aq (dy 2 U s7)<|fq 0 U U<|aJ) U fun Av d=>?_
 obtain ⟨Af,A0,L,S,M,T,o,N,BK,O,V,P,W,R,X,Ad⟩:=Av
 cases Af
 ·obtain ⟨B,he⟩:=d.2 rfl
  try dsimp only at B he
  subst B
  try dsimp only [cond_true,cond_false,List.cons_append,List.nil_append]
  refine a_ 3 U<|AL U z_ fun BC=>fO U sE U<|a_ 1 U<|RK Z<|ai fun _ A3=>WS fun _ AF=>rP 2 [] I ?_
  refine RK AF<|bM U (bj fun y=>?_) (bk fun y=>?_)
  ·exact absurd y he
  refine WS fun _ AG=>rP 1 [] I ?_
  have A:fJ r h i t=p6 r h i t:=oV BL
  have C:ek r h i t=[]:=wP (by rw [A]; exact he)
  refine dH 3 1 ?_
  rw [show (own none 0 3 1 ([]:List (List Value)))=own none 0 3 1 ((ek r h i t).map iC) from by rw [C]; rfl]
  refine rP 2 [] I ?_
  refine RK AG<|ao ?_
  refine LX hQ (none,0) [0] [] I U U U ?_ ?_
  ·first|rfl|(rw [A,C]; rfl)|(rw [A]; rfl)
  ·trivial
 obtain ⟨E,⟨j,AV⟩,J⟩:=d.1 rfl
 try dsimp only [cond_true,cond_false,List.cons_append,List.nil_append]
 try dsimp only at E j AV J
 have l:fJ r h i t=0:=(oV BL).trans E
 have AW:=hin.rep j AV J
 refine a_ 3 U<|AL U z_ fun BD=>fO U sE U<|a_ 1 U<|RK Z<|ai fun _ AH=>WS fun _ AI=>a_ 1 U<|rS (SX (bS (r:= .bool false) U U U j6) U U)<|RK AI<|aW U<|WK AH<|WS fun _ AJ=>rP 1 [] (mc 0 U I) ?_
 refine cX (ob (gM r h i t) L S o M T N BK O V P W Ad R X (by exact AW)) (fq 15 U U<|aq (ag (n:=r.an.aN.length) 1 U sm)<|aq (ag (n:=r.an.aj.length) 2 U (gE j))<|aq (dy 3 U gZ)<|aq (ag (n:=r.an.ae.length) 4 U sm)<|aq (ag (n:=r.aK.length) 5 U sm)<|aq (ag (n:=r.bL.length) 6 U sm)<|aq (ag (n:=(fz r.ar h i t).length) 7 U (eL J.1))<|aq (gr 8 U J)<|aJ) U fun Aw e=>?_
 obtain ⟨Ag,A1,s,p,Ai,Aj,BA⟩:=Aw
 cases Ag
 ·obtain ⟨B,he⟩:=e.2 rfl
  try dsimp only at B he
  subst B
  try dsimp only [cond_true,cond_false,List.cons_append,List.nil_append]
  exact absurd (rp l) he
 obtain ⟨he,m⟩:=e.1 rfl
 try dsimp only [cond_true,cond_false,List.cons_append,List.nil_append]
 have AZ:=m0 BL
 have F:=oH BL
 have Aa:=m0 he
 have A5:=oH he
 refine a_ 5 U<|RK AJ<|WS fun _ AK=>a_ 1 U<|RK AK<|ai fun _ AM=>WS fun _ AN=>a_ 1 U<|rS (SX (bI U U) U U)<|rP 2 [] (mc 13 U I) ?_
 refine cX (FC G) (aJ) U fun An A7=>?_
 try dsimp only
 refine cX (zq (aA r) G An sd) (bf [17,0]) U fun Ax A8=>?_
 obtain ⟨BB,BF⟩:=Ax
 try dsimp only
 rw [show (aA r).length=(dg ((aA r).map (·.1))).length from by rw [gk,List.length_map]]
 refine rP 1 [] I ?_
 have AX:(dg ((aA r).map (·.1))).length≤5:=by rw [gk,List.length_map]; exact F
 refine rP 1 [] I ?_
 refine RK AN<|ax<|fV 3 1 ?_
 have D:(0≤(dg ((aA r).map (·.1))).length):=by exact Nat.zero_le _
 refine bK (ι:={z:Nat×(OA)×Nat // (z.1≤(dg ((aA r).map (·.1))).length)}) [10,13,47,48] [1,3,4,5,6,8,9,10,11,12,13,14,15,16,17,18,19,22,23,24,25,26,27,28,29,30] U U (fun z=>[(15,(vS z.1.2.1 ((((dg ((aA r).map (·.1))).take z.1.1).filter (fun u=> !decide (dq (aA r) u (aB (aA r) u)=dq (aA (gM r h i t)) u (aB (aA (gM r h i t)) u)))).length) z.1.2.2)),(49,(vI (z.1.1:Int)))]) (fun z=>[(own z.1.2.1 z.1.2.2 3 1 ((((dg ((aA r).map (·.1))).take z.1.1).filter (fun u=> !decide (dq (aA r) u (aB (aA r) u)=dq (aA (gM r h i t)) u (aB (aA (gM r h i t)) u)))).map iC))]) (fun _=>rfl) (fun _=>rfl) (fun z=>(dg ((aA r).map (·.1))).length-z.1.1) ⟨(0,none,0),D⟩ (aS U) (aI [1,3,4,5,6,8,9,10,11,12,13,14,15,16,17,18,19,22,23,24,25,26,27,28,29,30,0]) ?_
 clear D
 rintro ⟨⟨k,a,c⟩,K⟩ J65 Y
 try dsimp only at K
 try dsimp only
 have BH:((((dg ((aA r).map (·.1))).take k).filter (fun u=> !decide (dq (aA r) u (aB (aA r) u)=dq (aA (gM r h i t)) u (aB (aA (gM r h i t)) u))))).length≤12:=Nat.le_trans (List.length_filter_le _ _) (by rw [List.length_take]; omega)
 refine WS fun _ AO=>rP 1 [] I ?_
 refine RK AO<|ai fun _ AP=>bM U (aQ fun Ar=>?_) (aP fun Ar=>?_)
 ·refine bw<|ab<|ab<|ay<|KK AM<|WS fun _ AS=>rP 1 [] I ?_
  have A:=l
  have C:ek r h i t=(((dg ((aA r).map (·.1))).take k).filter (fun u=> !decide (dq (aA r) u (aB (aA r) u)=dq (aA (gM r h i t)) u (aB (aA (gM r h i t)) u)))):=by rw [D9 l,List.take_of_length_le om]
  rw [← C]
  refine rP 2 [] I ?_
  refine RK AS<|ao ?_
  refine LX hQ (a,c) [26] [] I U U U ?_ ?_
  ·first|rfl|(rw [A,C]; rfl)|(rw [A]; rfl)
  ·trivial
 refine WK AP<|ai fun _ b=>ax<|WS fun _ AQ=>?_
 obtain ⟨x,hx⟩:=aL (dg ((aA r).map (·.1))) k om
 have Au:=bH iC hx
 refine rS (IA k U (ag (n:=(dg ((aA r).map (·.1))).length) 0 U sm) cv dc om om)<|rS (gp k 0 (vI x) U b_ (ag (n:=(dg ((aA r).map (·.1))).length) 0 U sm) Au U dc U)<|a_ 1 U<|RK AQ<|WS fun _ AR=>rP 2 [] I ?_
 refine cX (Ah r kA kC cA cC bA bC slA slC drA drC heA heC f ((cL r).length) g G v (aA r) x (by exact AZ) (by exact Bv (aT hx)) om) (bf [13,16]) U fun Ay A9=>?_
 obtain ⟨Ak,Ao⟩:=Ay
 try dsimp only
 refine rP 2 [] I ?_
 refine cX (Ah (bT.mk r.an r.aK r.bL r.ik (fz r.ar h i t)) L S M T N BK O V P W R X Ai ((cL (gM r h i t)).length) Aj p s (aA (gM r h i t)) x (by exact Aa) (by exact fun q=>by have:=JH E x; rw [q] at this; exact Bv (aT hx) (Option.not_isSome_iff_eq_none.1 (by rw [← this]; decide))) om) (bf [2,5]) U fun Az A_=>?_
 obtain ⟨Al,Ap⟩:=Az
 try dsimp only
 refine rS (CL (Np (dq (aA r) x (aB (aA r) x)) Ak Ao (dq (aA (gM r h i t)) x (aB (aA (gM r h i t)) x)) Al Ap (by exact Nat.le_trans xQ om) (by exact Nat.le_trans xQ om)) (aq (ag (n:=(dq (aA r) x (aB (aA r) x)).length) 1 U sm)<|aq (ag (n:=(dq (aA (gM r h i t)) x (aB (aA (gM r h i t)) x)).length) 0 U sm)<|aJ) U)<|rP 1 [] I ?_
 refine RK AR<|bM U (bj fun H=>?_) (bk fun H=>?_)
 ·refine bV<|aG<|KK b<|ak<|rP 1 [] I ?_
  have AX:(dg ((aA r).map (·.1))).length≤5:=by rw [gk,List.length_map]; exact F
  refine rP 1 [] I ?_
  refine aF ?_
  rw [show (((dg ((aA r).map (·.1))).take k).filter (fun u=> !decide (dq (aA r) u (aB (aA r) u)=dq (aA (gM r h i t)) u (aB (aA (gM r h i t)) u))))=(((dg ((aA r).map (·.1))).take (k+1)).filter (fun u=> !decide (dq (aA r) u (aB (aA r) u)=dq (aA (gM r h i t)) u (aB (aA (gM r h i t)) u)))) from (F1 hx (by simpa using H)).symm]
  have AU:(vI (((k+1):Nat):Int))=(vI ((k:Int)+1)):=by exact cI om
  refine aR (Y ⟨((k+1),a,c),(by first|omega|(simp only []; omega))⟩ _ _ _ U (by first|omega|(dsimp only; omega)) (cO 5<|bo U AU<|dw.nil _) (aI [2,3,4,5,6,7,8,9,10,11,12,13,14,15,16,17,18,19,20,21,22,23,24,25,26,27,28]))
 refine ak<|rP 2 [] I ?_
 refine cV (xs:=[.tmp 62]) (cs:=[(vI x)]) U cv ja U U U U (by simp [Value.cells]) U U fun BE=>?_
 refine c_ (es2:=(List.map iC (((dg ((aA r).map (·.1))).take (k+1)).filter (fun u=> !decide (dq (aA r) u (aB (aA r) u)=dq (aA (gM r h i t)) u (aB (aA (gM r h i t)) u)))))) (m':=(((dg ((aA r).map (·.1))).take (k+1)).filter (fun u=> !decide (dq (aA r) u (aB (aA r) u)=dq (aA (gM r h i t)) u (aB (aA (gM r h i t)) u)))).length) 29 U U U pZ U U sm (aZ (es:=List.map iC [x]) 0 U U (by simp [bE]) U) (kb _) os (by simp only [maxLen]; first|omega|(simp; omega)) (by rw [xe hx (by simpa using H)]; simp) (by rw [xe hx (by simpa using H)]; simp) U fun Am Aq=>?_
 try dsimp only
 refine a_ 1 U<|aF<|aG<|KK b<|ak<|rP 1 [] I ?_
 have AX:(dg ((aA r).map (·.1))).length≤5:=by rw [gk,List.length_map]; exact F
 refine rP 1 [] I ?_
 refine aF ?_
 have AT:(vI (((k+1):Nat):Int))=(vI ((k:Int)+1)):=by exact cI om
 refine aR (Y ⟨((k+1),Am,Aq),(by first|omega|(simp only []; omega))⟩ _ _ _ U (by first|omega|(dsimp only; omega)) (cO 5<|bo U AT<|dw.nil _) (aI [3,4,5,6,7,8,9,10,11,12,13,14,15,16,17,18,19,20,21,22,23,24,25,26,27,28,29]))
end
section
open Go.RowKit
theorem jo:
 lD Tryz.prog 10 [] [] (fun (x:(OA)×Nat×(OA)×Nat×(List RA)×(OA)×Nat×(OA)×Nat×(OA)×Nat×(OA)×Nat×(List cM))=>(vA (cm.cells (cm.mk (cb.mk (bD.mk (bp.mk x.1 aH.an.aN.length x.2.1)) aH.an.gT (bp.mk x.2.2.1 aH.an.aj.length x.2.2.2.1) (bp.mk x.2.2.2.2.2.1 aH.an.ae.length x.2.2.2.2.2.2.1) aH.an.cu aH.an.eM aH.an.cQ) (bp.mk x.2.2.2.2.2.2.2.1 aH.aK.length x.2.2.2.2.2.2.2.2.1) (bp.mk x.2.2.2.2.2.2.2.2.2.1 aH.bL.length x.2.2.2.2.2.2.2.2.2.2.1) aH.ik (bp.mk x.2.2.2.2.2.2.2.2.2.2.2.1 aH.ar.length x.2.2.2.2.2.2.2.2.2.2.2.2.1))))) (fun (x:(OA)×Nat×(OA)×Nat×(List RA)×(OA)×Nat×(OA)×Nat×(OA)×Nat×(OA)×Nat×(List cM))=>eW aH x.2.2.2.2.1 x.2.2.2.2.2.2.2.2.2.2.2.2.2∧x.2.2.2.2.1.length=aH.an.aj.length∧tI aH.ar x.2.2.2.2.2.2.2.2.2.2.2.2.2) (fun (x:(OA)×Nat×(OA)×Nat×(List RA)×(OA)×Nat×(OA)×Nat×(OA)×Nat×(OA)×Nat×(List cM))=>[(own x.1 x.2.1 114 9 (aH.an.aN.map al.cells)),(own x.2.2.1 x.2.2.2.1 119 2 (List.zipWith av.cells aH.an.aj x.2.2.2.2.1)),(bu (aU av.owns aH.an.aj x.2.2.2.2.1)),(own x.2.2.2.2.2.1 x.2.2.2.2.2.2.1 121 4 (aH.an.ae.map bB.cells)),(own x.2.2.2.2.2.2.2.1 x.2.2.2.2.2.2.2.2.1 3 1 (aH.aK.map iC)),(own x.2.2.2.2.2.2.2.2.2.1 x.2.2.2.2.2.2.2.2.2.2.1 3 1 (aH.bL.map iC)),(own x.2.2.2.2.2.2.2.2.2.2.2.1 x.2.2.2.2.2.2.2.2.2.2.2.2.1 46 1 (List.zipWith cJ aH.ar x.2.2.2.2.2.2.2.2.2.2.2.2.2)),(bu (aU iA aH.ar x.2.2.2.2.2.2.2.2.2.2.2.2.2))]):=by
 refine di kr Tryz.func10 U U fun Y Q hQ hN=>?_
 try dsimp only
 refine WS fun _ P=>AL U z_ fun W=>RK P<|WS fun _ R=>cX N2 (aJ) U fun X T=>?_
 obtain ⟨K,M,L,N,F,E,G⟩:=X
 try dsimp only
 obtain ⟨S,O⟩:=T
 refine cV (xs:=[.const (vI 4),.const (vI 7),.const (vI 9)]) (cs:=[(vI 4),(vI 7),(vI 9)]) U cv ja U U U U (by simp [Value.cells]) U U fun H=>cV (xs:=[.const (vI 2),.const (vI 0),.const (vI 1)]) (cs:=[(vI 2),(vI 0),(vI 1)]) U cv ja U U U U (by simp [Value.cells]) U U fun AB=>cX Og (aJ) U fun AA V=>?_
 obtain ⟨A,B⟩:=AA
 try dsimp only
 refine rS (SX (bh (xs:=[(3,.tmp 4)]) (cs:=(bq.cells (bq.mk false false (aa.mk 0 0) (eH.mk mD.Start mD.f_ (bp.mk A mD.ah.length B))))) U U (bg QG U)) U U)<|rS (CL (p_ 2600 2600) (aJ) U)<|rS (CL (p_ 2580 2609) (aJ) U)<|cV (xs:=[.tmp 5,.tmp 6,.tmp 7]) (cs:=((bq.cells (bq.mk false false (aa.mk 0 0) (eH.mk mD.Start mD.f_ (bp.mk A mD.ah.length B))))++(bq.cells (bq.mk false true (aa.mk 2600 2600) (eH.mk 0 0 (bp.mk none 0 0))))++(bq.cells (bq.mk false true (aa.mk 2580 2609) (eH.mk 0 0 (bp.mk none 0 0)))))) U wK Oe U U U U (by simp [Value.cells,bq.aV]) U U fun C=>rS (CL (p_ 2555 2559) (aJ) U)<|rS (CL (p_ 2540 2549) (aJ) U)<|rS (CL (p_ 2570 2575) (aJ) U)<|cV (xs:=[.tmp 9,.tmp 10,.tmp 11]) (cs:=((bq.cells (bq.mk false true (aa.mk 2555 2559) (eH.mk 0 0 (bp.mk none 0 0))))++(bq.cells (bq.mk false true (aa.mk 2540 2549) (eH.mk 0 0 (bp.mk none 0 0))))++(bq.cells (bq.mk false true (aa.mk 2570 2575) (eH.mk 0 0 (bp.mk none 0 0)))))) U wK Oe U U U U (by simp [Value.cells,bq.aV]) U U fun D=>cV (xs:=[.tmp 8,.tmp 12]) (cs:=[(vS (some ⟨C,0,none⟩) 3 3),(vS (some ⟨D,0,none⟩) 3 3)]) U rF U7 U U U U (by simp [Value.cells]) U U fun J=>rS (SX (bh (xs:=[(0,.tmp 1),(1,.tmp 2),(2,.tmp 3),(3,.const (vI 2)),(4,.tmp 13)]) (cs:=(cm.cells (cm.mk (cb.mk (bD.mk (bp.mk K aH.an.aN.length M)) aH.an.gT (bp.mk L aH.an.aj.length N) (bp.mk E aH.an.ae.length G) aH.an.cu aH.an.eM aH.an.cQ) (bp.mk (some ⟨H,0,none⟩) 3 3) (bp.mk (some ⟨AB,0,none⟩) 3 3) 2 (bp.mk (some ⟨J,0,none⟩) 2 2)))) U U (bg Hm U)) U U) ?_
 refine dQ (es:=(aH.aK.map iC)) (C':=[_,_,_,_,_,(own (some ⟨H,0,none⟩) 3 3 1 (aH.aK.map iC)),_,_,_,_,_]) 5 U (mP bE _) U (by show _≤maxLen; exact Nat.le_trans (m:=10) (show (3:Nat)≤10 by decide) dc) U ?_
 refine dQ (es:=(aH.bL.map iC)) (C':=[_,_,_,_,(own (some ⟨AB,0,none⟩) 3 3 1 (aH.bL.map iC)),_,_,_,_,_,_]) 4 U (mP bE _) U (by show _≤maxLen; exact Nat.le_trans (m:=10) (show (3:Nat)≤10 by decide) dc) U ?_
 refine dQ (es:=(List.zipWith aw.cells Sm [(A,B),(none,0),(none,0)])) (C':=[_,_,(own (some ⟨C,0,none⟩) 3 45 7 (List.zipWith aw.cells Sm [(A,B),(none,0),(none,0)])),_,_,_,_,_,_,_,_]) 2 U (oZ FG) U (by show _≤maxLen; exact Nat.le_trans (m:=10) (show (3:Nat)≤10 by decide) dc) U ?_
 refine dQ (es:=(List.zipWith aw.cells Tn [(none,0),(none,0),(none,0)])) (C':=[_,(own (some ⟨D,0,none⟩) 3 45 7 (List.zipWith aw.cells Tn [(none,0),(none,0),(none,0)])),_,_,_,_,_,_,_,_,_]) 1 U (oZ FG) U (by show _≤maxLen; exact Nat.le_trans (m:=10) (show (3:Nat)≤10 by decide) dc) U ?_
 refine dQ (es:=(List.zipWith cJ aH.ar [(((some ⟨C,0,none⟩),3),[(A,B),(none,0),(none,0)]),(((some ⟨D,0,none⟩),3),[(none,0),(none,0),(none,0)])])) (C':=[(own (some ⟨J,0,none⟩) 2 46 1 (List.zipWith cJ aH.ar [(((some ⟨C,0,none⟩),3),[(A,B),(none,0),(none,0)]),(((some ⟨D,0,none⟩),3),[(none,0),(none,0),(none,0)])])),_,_,_,_,_,_,_,_,_,_]) 0 U (oZ L4) U (by show _≤maxLen; exact Nat.le_trans (m:=10) (show (2:Nat)≤10 by decide) dc) U ?_
 refine dH 123 2<|dH 123 2<|dH 123 2<|dH 123 2<|dH 123 2<|xW (C1:=[(own (some ⟨J,0,none⟩) 2 46 1 (List.zipWith cJ aH.ar [(((some ⟨C,0,none⟩),3),[(A,B),(none,0),(none,0)]),(((some ⟨D,0,none⟩),3),[(none,0),(none,0),(none,0)])])),(own (some ⟨AB,0,none⟩) 3 3 1 (aH.bL.map iC)),(own (some ⟨H,0,none⟩) 3 3 1 (aH.aK.map iC)),(own K M 114 9 (aH.an.aN.map al.cells)),(own L N 119 2 (List.zipWith av.cells aH.an.aj F)),(bu (aU av.owns aH.an.aj F)),(own E G 121 4 (aH.an.ae.map bB.cells)),(bU W 35 (cm.cells (cm.mk (cb.mk (bD.mk (bp.mk none 0 0)) 0 (bp.mk none 0 0) (bp.mk none 0 0) 0 0 0) (bp.mk none 0 0) (bp.mk none 0 0) 0 (bp.mk none 0 0))))]) (aU iA aH.ar [(((some ⟨C,0,none⟩),3),[(A,B),(none,0),(none,0)]),(((some ⟨D,0,none⟩),3),[(none,0),(none,0),(none,0)])]) [7,8,0,1,6,2,3,4,5,9,10,11,12,13,14,15] U U<|VK U sE U<|RK R<|ao ?_
 refine LX hQ (K,M,L,N,F,E,G,(some ⟨H,0,none⟩),3,(some ⟨AB,0,none⟩),3,(some ⟨J,0,none⟩),2,[(((some ⟨C,0,none⟩),3),[(A,B),(none,0),(none,0)]),(((some ⟨D,0,none⟩),3),[(none,0),(none,0),(none,0)])]) [4,5,6,7,3,2,1,0] [0] (mc 8 U I) U (by show List.all _ _=true; simp only [fG,List.all_nil,gi,kj,Bool.and_true]; rfl) U U ?_
 exact ⟨PS O Jt,S,Jt⟩
end
section
open Go.RowKit
theorem OO (i:Int) (r:bT) (kA:OA) (kC:Nat) (az:List RA) (cA:OA) (cC:Nat) (bA:OA) (bC:Nat) (slA:OA) (slC:Nat) (drA:OA) (drC:Nat) (ha:List cM) (heA:OA) (heC:Nat) (hin:eW r az ha):
 dV Tryz.prog 13 [(vA (cm.cells (oD r kA kC cA cC bA bC slA slC drA drC heA heC))),(vI i)] [(rd eJ 3 2 dJ),(rd kA r.an.aN.length 9 (r.an.aN.map al.cells)),(rd cA r.an.aj.length 2 (List.zipWith av.cells r.an.aj az)),(e7 (aU av.g0 r.an.aj az)),(rd bA r.an.ae.length 4 (r.an.ae.map bB.cells)),(rd slA r.aK.length 1 (r.aK.map iC)),(rd drA r.bL.length 1 (r.bL.map iC)),(rd heA r.ar.length 1 (List.zipWith cJ r.ar ha)),(e7 (aU im r.ar ha))] (vT [(vA (aa.cells (pD r i))),(vI (jt r i))]):=by
 have M:=hin.line
 have g:=hin.iN
 have h:=hin.has
 have W:=hin.iM
 have R:=hin.draw
 have X:=dB (r:=r)
 refine bx kr Tryz.func13 U U fun m Q hQ hN=>?_
 try dsimp only
 refine WS fun _ L=>fQ U fun k=>AL U cZ fun l=>a_ 1 U<|RK L<|WS fun _ G=>rP 2 [] (mc 1 U I) ?_
 refine cV (xs:=[.tmp 11]) (cs:=[(vI i)]) U cv ja U U U U (by simp [Value.cells]) U U fun d=>cX (yW r kA kC az cA cC bA bC slA slC drA drC ha heA heC i d hin) (bf [3,4,5,6,7,8,9,10,11,0]) U fun j J=>?_
 obtain ⟨K,e,f,O,a,b,c,Y,Z⟩:=j
 cases K
 ·obtain ⟨H,he⟩:=J.2 rfl
  try dsimp only at H he
  subst H
  try dsimp only [cond_true,cond_false,List.cons_append,List.nil_append]
  refine a_ 7 U<|RK G<|ai fun _ P=>WS fun _ B=>rP 2 [] I ?_
  refine RK B<|bM U (bj fun A=>?_) (bk fun A=>?_)
  ·exact absurd A he
  refine WS fun _ C=>rS (SX (bh (xs:=[]) (cs:=(aa.cells (aa.mk 0 0))) U U (bg gn U)) U U)<|a_ 1 U<|t_ U cp U<|rP 1 [] I ?_
  refine RK C<|ao<|lp hQ [0] (mc 1 U I) U ?_
  first|(rw [show pD r i=dv from if_neg he]; rfl)|(rw [he,show pD r i=aB _ _ from if_pos he]; done)
 obtain ⟨he,N⟩:=J.1 rfl
 try dsimp only [cond_true,cond_false,List.cons_append,List.nil_append]
 try dsimp only at N
 obtain ⟨AB,S,T⟩:=uo he
 have AA:=m0 AB
 have V:=oH AB
 refine a_ 7 U<|RK G<|ai fun _ D=>WS fun _ E=>a_ 1 U<|rS (SX (bS (r:= .bool false) U U U j6) U U)<|RK E<|aW U<|WK D<|WS fun _ F=>rP 1 [] I ?_
 refine rS (IA 0 U (ag (n:=1) 4 U sq) jF dc U om) ?_
 refine rS (oE 0 0 (aa.cells (aB (aA r) i)) U b_ (ag (n:=([(aB (aA r) i)]).length) 4 U sm) (show ([(aB (aA r) i)].map aa.cells)[0]? =some [(vI ((aB (aA r) i).Lo)),(vI ((aB (aA r) i).Hi))] from U) U dc U U)<|O_ U cp U<|rP 1 [] I ?_
 refine RK F<|ao<|lp hQ [0] (mc 6 U I) U ?_
 first|(rw [show pD r i=dv from if_neg he]; rfl)|(rw [he,show pD r i=aB _ _ from if_pos he]; done)
end
section
open Go.RowKit
theorem KV (a b:Int) (m:gF) (gm g1:Nat) (hb: ∀ p∈m,0≤p.2.Lo∧p.2.Lo≤p.2.Hi∧p.2.Hi≤30000000):
 dV Tryz.prog 48 [(vI a),(vI b),(vP g1)] [(hE iV gm (bG db m)),(bU g1 64 [(Value.map (some gm))])] (vI ((aB m a).Hi-(aB m b).Hi)):=by
 have A:=gP (i:=a) hb
 have B:=gP (i:=b) hb
 refine bx kr Tryz.func48 U U fun E Q hQ hN=>?_
 try dsimp only
 refine WS fun _ C=>a_ 1 U<|RK C<|WS fun _ D=>fy 2 [] (mr 1 U I) U<|rS (SX (kM (kV:=iV) (x:=a) (l:=m) (f:=db) (z:=(aa.mk 0 0)) U U U l8 (dK oz) xH (by exact jW 0 U)) U U)<|rS (SX (kK (v:=(vI (((List.lookup a m).getD (aa.mk 0 0)).Hi))) U U fx Az U) U U)<|rP 2 [] (mr 1 U I) ?_
 refine rS (SX (kM (kV:=iV) (x:=b) (l:=m) (f:=db) (z:=(aa.mk 0 0)) U U U l8 (dK oz) xH (by exact jW 0 U)) U U)<|rS (SX (kK (v:=(vI (((List.lookup b m).getD (aa.mk 0 0)).Hi))) U U fx Az U) U U) ?_
 unfold aB at A B
 simp only [dv] at A B
 refine rP 2 [] I ?_
 refine RK D<|ao ?_
 exact Q1 hQ U U U U
theorem Nb (heatX:Int) (r:bT) (kA:OA) (kC:Nat) (az:List RA) (cA:OA) (cC:Nat) (bA:OA) (bC:Nat) (slA:OA) (slC:Nat) (drA:OA) (drC:Nat) (ha:List cM) (heA:OA) (heC:Nat) (hin:eW r az ha):
 lD Tryz.prog 20 [(vA (cm.cells (oD r kA kC cA cC bA bC slA slC drA drC heA heC))),(vI heatX)] [(rd eJ 3 2 dJ),(rd kA r.an.aN.length 9 (r.an.aN.map al.cells)),(rd cA r.an.aj.length 2 (List.zipWith av.cells r.an.aj az)),(e7 (aU av.g0 r.an.aj az)),(rd bA r.an.ae.length 4 (r.an.ae.map bB.cells)),(rd slA r.aK.length 1 (r.aK.map iC)),(rd drA r.bL.length 1 (r.bL.map iC)),(rd heA r.ar.length 1 (List.zipWith cJ r.ar ha)),(e7 (aU im r.ar ha))] (fun (x:(OA)×Nat)=>(vT [(vS x.1 ((g3 r heatX).length) x.2),(vI (iJ r heatX))])) (fun (x:(OA)×Nat)=>True) (fun (x:(OA)×Nat)=>[(own x.1 x.2 3 1 ((g3 r heatX).map iC))]):=by
 have AV:=hin.line
 have Ap:=hin.iN
 have Aq:=hin.has
 have Af:=hin.iM
 have AD:=hin.draw
 have AG:=dB (r:=r)
 refine di kr Tryz.func20 U U fun w0 Q hQ hN=>?_
 try dsimp only
 refine WS fun _ AU=>fQ U fun b2=>a_ 2 U<|RK AU<|zZ U<|WS fun _ e=>rP 1 [] (mc 0 U I) ?_
 refine cX (ob r kA kC az cA cC bA bC slA slC drA drC ha heA heC hin) (bf [1,2,3,4,5,6,7,8,9]) U fun y4 AH=>?_
 obtain ⟨AI,Am,AR,AP,AZ,AJ,AK⟩:=y4
 cases AI
 ·obtain ⟨AE,he⟩:=AH.2 rfl
  try dsimp only at AE he
  subst AE
  try dsimp only [cond_true,cond_false,List.cons_append,List.nil_append]
  refine a_ 5 U<|RK e<|ai fun _ Ae=>WS fun _ R=>rP 2 [] I ?_
  refine RK R<|bM U (bj fun P=>?_) (bk fun P=>?_)
  ·exact absurd P he
  refine WS fun _ S=>rP 1 [] I ?_
  have A:iJ r heatX=cr r:=Ds he
  have B:g3 r heatX=[]:=yT (by rw [A]; exact he)
  refine dH 3 1 ?_
  rw [show (own none 0 3 1 ([]:List (List Value)))=own none 0 3 1 ((g3 r heatX).map iC) from by rw [B]; rfl]
  refine rP 2 [] I ?_
  refine RK S<|ao ?_
  refine LX hQ (none,0) [0] [] I U U U ?_ ?_
  ·first|rfl|(rw [A,B]; rfl)|(rw [A]; rfl)|(rw [A,B,j4]; rfl)
  ·trivial
 obtain ⟨he,AX⟩:=AH.1 rfl
 try dsimp only [cond_true,cond_false,List.cons_append,List.nil_append]
 have G:=(ib he).2
 have Ar:=G.wR
 have Ao:=G.yl
 refine a_ 5 U<|RK e<|ai fun _ T=>WS fun _ As=>a_ 1 U<|rS (SX (bS (r:= .bool false) U U U j6) U U)<|RK As<|aW U<|WK T<|ai fun _ V=>WS fun _ W=>rP 4 [] (mc 4 U I) ?_
 refine cV (xs:=[.tmp 25]) (cs:=[(vI heatX)]) U cv ja U U U U (by simp [Value.cells]) U U fun AN=>?_
 refine rS (CL (dV.eq (j2 0 (r.ar.length:Int) ([heatX]) (some ⟨AN,0,none⟩) 1 sd) cR) (aq (aZ 0 U U (by simp [bE]) U)<|aJ) U) ?_
 refine rP 1 [] I ?_
 refine RK W<|cy U (bk fun AS=>?_) (bj fun AS=>?_)
 ·refine WS fun _ X=>?_
  have A:iJ r heatX=2:=Er he om
  have B:g3 r heatX=[]:=yT (by rw [A]; decide)
  refine dH 3 1 ?_
  rw [show (own none 0 3 1 ([]:List (List Value)))=own none 0 3 1 ((g3 r heatX).map iC) from by rw [B]; rfl]
  refine rP 2 [] I ?_
  refine RK X<|ao ?_
  refine LX hQ (none,0) [0] [] I U U U ?_ ?_
  ·first|rfl|(rw [A,B]; rfl)|(rw [A]; rfl)|(rw [A,B,j4]; rfl)
  ·trivial
 refine WK V<|ai fun _ Y=>WS fun _ Z=>rP 2 [] I ?_
 refine RK Z<|cy U (aP fun D=>?_) (aQ fun D=>?_)
 ·refine WS fun _ b=>rP 2 [] (mc 5 U I) ?_
  refine cX (vO r.bL drA drC sd) (bf [12]) U fun Ac Ag=>?_
  obtain ⟨N,O⟩:=Ac
  try dsimp only
  have A:iJ r heatX=0:=zI he om
  have B:g3 r heatX=r.bL:=uY A D
  rw [show (own N O 3 1 (r.bL.map iC))=(own N O 3 1 ((g3 r heatX).map iC)) from by rw [uY A D]]
  refine rP 2 [] I ?_
  refine RK b<|ao ?_
  refine LX hQ (N,O) [0] [] I U U U ?_ ?_
  ·first|rfl|(rw [A,B]; rfl)|(rw [A]; rfl)|(rw [A,B,j4]; rfl)
  ·trivial
 refine WK Y<|WS fun _ d=>?_
 obtain ⟨n,rfl⟩: ∃ n:Nat,heatX=(n:Int):=⟨heatX.toNat,om⟩
 refine rP 2 [] I ?_
 refine cX (Pn r kA kC az cA cC bA bC slA slC drA drC ha heA heC AK AZ AJ (Value.map (some AP)) AR n hin om sd (by exact G.z9)) (lH [7,8,9,10,11,12,13,14]<|aq (ag (n:=(cL r).length) 2 U (mR (by rw [AG]; exact AX)))<|aq (dy 3 U s7)<|fq 1 U U<|aJ) U fun C Ah=>?_
 try dsimp only
 refine AL U S8 fun Au=>HJ U MF U U<|RK d<|WS fun _ g=>a_ 1 U<|RK g<|ai fun _ h=>AQ<|KK h<|ai fun _ j=>WS fun _ k=>rP 4 [] (mc 7 U I) ?_
 refine RK k<|ax<|fV 3 1 ?_
 have F:(0≤r.bL.length):=by exact Nat.zero_le _
 refine bK (ι:={z:Nat×(OA)×Nat // (z.1≤r.bL.length)}) [1,2,6,8,38,39] [1,2,5,6,7,8,9,10,11,12,13,14,15,16,17] U U (fun z=>[(9,(vS z.1.2.1 (((r.bL.take z.1.1).filter fun u=>(List.lookup u (eB r n)).isSome).length) z.1.2.2)),(40,(vI (z.1.1:Int)))]) (fun z=>[(own z.1.2.1 z.1.2.2 3 1 (((r.bL.take z.1.1).filter fun u=>(List.lookup u (eB r n)).isSome).map iC))]) (fun _=>rfl) (fun _=>rfl) (fun z=>r.bL.length-z.1.1) ⟨(0,none,0),F⟩ (aS U) (aI [1,2,5,6,7,8,9,10,11,12,13,14,15,16,17,0]) ?_
 clear F
 rintro ⟨⟨i,a,c⟩,K⟩ J38 L
 try dsimp only at K
 try dsimp only
 refine WS fun _ m=>rP 1 [] I ?_
 refine RK m<|ai fun _ o=>bM U (aQ fun AT=>?_) (aP fun AT=>?_)
 ·refine bw<|ab<|ab<|ay<|KK j<|ai fun _ v=>?_
  rw [show r.bL.take i=r.bL from List.take_of_length_le om]
  refine ak<|rP 1 [] I ?_
  have AW:=F7 he (show n≤r.ar.length by omega)
  have AF:=Nat.le_trans (List.length_filter_le (fun u=>(List.lookup u (eB r n)).isSome) r.bL) AD
  have An:(er (fun u=>(aB (eB r n) u).Hi) (r.bL.filter fun u=>(List.lookup u (eB r n)).isSome)).length≤12:=by rw [kp]; exact AF
  refine rS (FU U) ?_
  refine cX (zE (r.bL.filter fun u=>(List.lookup u (eB r n)).isSome) a c (Value.func (.func 48) [].toArray [(vP Au)].toArray) (fun u=>(aB (eB r n) u).Hi) (e7 [(hE iV C (bG db (eB r n))),(bU Au 64 [(Value.map (some C))])]) (by intro Aa Ab _; exact nc (fi:=[]) (ca:=[(vP Au)]) (l4 (KV Aa Ab (eB r n) C Au (by first|assumption|omega)) (bf [0,1]))) (by exact TF AW) (by exact AF)) (aq (ag (n:=(r.bL.filter fun u=>(List.lookup u (eB r n)).isSome).length) 15 U sm)<|aq (l0 (bf [1,0]))<|aJ) U fun Ad Ai=>?_
  obtain ⟨H,J⟩:=Ad
  try dsimp only
  refine a_ 1 U<|RK v<|WS fun _ w=>rP 5 [] (mc 6 U I) ?_
  refine rS (MN U)<|Kv 0 U fun AC=>?_
  simp only [List.length_map] at AC
  refine rS (Vp (((min r.ik (((er (fun u=>(aB (eB r n) u).Hi) (r.bL.filter fun u=>(List.lookup u (eB r n)).isSome)).length:Nat):Int))).toNat) U cv om (by first|omega|exact Nat.zero_le _|(simp; omega))) ?_
  refine iP 0 U U U U (He (er (fun u=>(aB (eB r n) u).Hi) (r.bL.filter fun u=>(List.lookup u (eB r n)).isSome)) H J (((min r.ik (((er (fun u=>(aB (eB r n) u).Hi) (r.bL.filter fun u=>(List.lookup u (eB r n)).isSome)).length:Nat):Int))).toNat) om om) U kd U (fun At Aj=>?_)
  try dsimp only
  refine RK w<|WS fun _ y=>rP 1 [] I ?_
  have A:iJ r (n:Int)=0:=zI he om
  have B:g3 r (n:Int)=(rV (((min r.ik (((er (fun u=>(aB (eB r n) u).Hi) (r.bL.filter fun u=>(List.lookup u (eB r n)).isSome)).length:Nat):Int))).toNat) (er (fun u=>(aB (eB r n) u).Hi) (r.bL.filter fun u=>(List.lookup u (eB r n)).isSome))):=by rw [vo A D]; exact (zw rfl om).symm
  rw [show (own H J 3 1 ((rV (((min r.ik (((er (fun u=>(aB (eB r n) u).Hi) (r.bL.filter fun u=>(List.lookup u (eB r n)).isSome)).length:Nat):Int))).toNat) (er (fun u=>(aB (eB r n) u).Hi) (r.bL.filter fun u=>(List.lookup u (eB r n)).isSome))).map iC))=(own H J 3 1 ((g3 r (n:Int)).map iC)) from by rw [vo A D]; exact congrArg (fun z=>own _ _ _ _ (List.map iC z)) (zw rfl om)]
  refine rP 2 [] I ?_
  refine RK y<|ao ?_
  refine LX hQ (H,J) [0] [] I U U U ?_ ?_
  ·first|rfl|(rw [A,B]; rfl)|(rw [A]; rfl)|(rw [A,B,j4]; rfl)
  ·trivial
 refine WK o<|ai fun _ M=>ax<|WS fun _ p=>?_
 obtain ⟨x,hx⟩:=aL r.bL i om
 have AY:=bH iC hx
 refine rS (IA i U (aD 12 U) cv dc om om)<|rS (gp i 0 (vI x) U b_ (aD 12 U) AY U dc U)<|a_ 1 U<|RK p<|ai fun _ q=>WS fun _ s=>fy 2 [] (mc 0 U I) U<|rS (SX (kx (kV:=iV) (x:=x) (l:=(eB r n)) (f:=db) (z:=(aa.mk 0 0)) U U U l8 (dK oz) xH (by exact aD 1 U)) U U)<|a_ 3 U<|AL U cZ fun Ak=>fO U cp U<|a_ 1 U<|RK s<|WS fun _ t=>rP 2 [] I ?_
 refine RK t<|cy U (fun E=>?_) (fun E=>?_)
 ·rw [Bool.not_eq_true'] at E
  refine bw<|ab<|ay<|KK M<|ak<|rP 2 [] I ?_
  refine aF ?_
  rw [show ((r.bL.take i).filter fun u=>(List.lookup u (eB r n)).isSome)=((r.bL.take (i+1)).filter fun u=>(List.lookup u (eB r n)).isSome) from (F1 hx E).symm]
  have AA:(vI (((i+1):Nat):Int))=(vI ((i:Int)+1)):=by exact cI om
  refine aR (L ⟨((i+1),a,c),(by first|omega|(simp only []; omega))⟩ _ _ _ U os (cO 7<|bo U AA<|dw.nil _) (aI [1,2,3,4,5,6,7,8,9,10,11,12,13,14,15,16]))
 rw [Bool.not_eq_false'] at E
 refine WK q<|ak<|rP 2 [] I ?_
 refine cV (xs:=[.tmp 53]) (cs:=[(vI x)]) U cv ja U U U U (by simp [Value.cells]) U U fun Al=>?_
 refine c_ (es2:=(List.map iC ((r.bL.take (i+1)).filter fun u=>(List.lookup u (eB r n)).isSome))) (m':=((r.bL.take (i+1)).filter fun u=>(List.lookup u (eB r n)).isSome).length) 17 U U U pZ U U sm (aZ (es:=List.map iC [x]) 0 U U (by simp [bE]) U) (kb _) (by have:=List.length_filter_le (fun u=>(List.lookup u (eB r n)).isSome) (r.bL.take i); rw [List.length_take] at this; first|omega|(simp; omega)) (by have:=List.length_filter_le (fun u=>(List.lookup u (eB r n)).isSome) (r.bL.take i); rw [List.length_take] at this; simp only [maxLen]; first|omega|(simp; omega)) (by rw [xe hx E]; simp) sm U fun AM AO=>?_
 try dsimp only
 refine a_ 1 U<|aF<|aG<|KK M<|ak<|rP 2 [] I ?_
 refine aF ?_
 have AB:(vI (((i+1):Nat):Int))=(vI ((i:Int)+1)):=by exact cI om
 refine aR (L ⟨((i+1),AM,AO),(by first|omega|(simp only []; omega))⟩ _ _ _ U os (cO 7<|bo U AB<|dw.nil _) (aI [2,3,4,5,6,7,8,9,10,11,12,13,14,15,16,17]))
end
section
open Go.RowKit
theorem zx (i lo hi:Int) (r:bT) (kA:OA) (kC:Nat) (az:List RA) (cA:OA) (cC:Nat) (bA:OA) (bC:Nat) (slA:OA) (slC:Nat) (drA:OA) (drC:Nat) (ha:List cM) (heA:OA) (heC:Nat) (hin:eW r az ha):
 dV Tryz.prog 9 [(vA (cm.cells (oD r kA kC cA cC bA bC slA slC drA drC heA heC))),(vI i),(vI lo),(vI hi)] [(rd eJ 3 2 dJ),(rd kA r.an.aN.length 9 (r.an.aN.map al.cells)),(rd cA r.an.aj.length 2 (List.zipWith av.cells r.an.aj az)),(e7 (aU av.g0 r.an.aj az)),(rd bA r.an.ae.length 4 (r.an.ae.map bB.cells)),(rd slA r.aK.length 1 (r.aK.map iC)),(rd drA r.bL.length 1 (r.bL.map iC)),(rd heA r.ar.length 1 (List.zipWith cJ r.ar ha)),(e7 (aU im r.ar ha))] (vB (decide (jt r i=0∧pD r i=aa.mk lo hi))):=by
 have E:=hin.line
 have AA:=hin.iN
 have J:=hin.has
 have G:=hin.iM
 have F:=hin.draw
 have H:=dB (r:=r)
 refine bx kr Tryz.func9 U U fun M Q hQ hN=>?_
 try dsimp only
 refine WS fun _ C=>fQ U fun K=>a_ 1 U<|RK C<|WS fun _ D=>fy 2 [] (mc 0 U I) U<|rS (CL (OO i r kA kC az cA cC bA bC slA slC drA drC ha heA heC hin) (bf [1,2,3,4,5,6,7,8,9]) U)<|a_ 3 U<|AL U cZ fun L=>fO U cp U<|a_ 1 U<|RK D<|ai fun _ B=>du cq 10 kr<|dP 3 [] I ?_
 refine ji (t:=19) U (aQ fun A=>?_) (aP fun A=>?_)
 ·refine dP 7 [] I ?_
  refine cH<|RK B<|ao<|Q1 hQ U U U ?_
  first|exact cB (cd fun q=>A q.1).symm|exact cB (decide_eq_decide.2 ⟨fun q=>⟨A,q⟩,fun q=>q.2⟩)
 refine my 3 [] (mc 0 U I) U<|dS (CL (kZ lo hi) (aJ) U)<|dS (BI U (tU _ _ (pD r i) (aa.mk lo hi)))<|dP 2 [] I ?_
 refine cH<|RK B<|ao<|Q1 hQ U U U ?_
 first|exact cB (cd fun q=>A q.1).symm|exact cB (decide_eq_decide.2 ⟨fun q=>⟨A,q⟩,fun q=>q.2⟩)
theorem zk (i:Int) (want:List Int) (wantA:OA) (wantC:Nat) (r:bT) (kA:OA) (kC:Nat) (az:List RA) (cA:OA) (cC:Nat) (bA:OA) (bC:Nat) (slA:OA) (slC:Nat) (drA:OA) (drC:Nat) (ha:List cM) (heA:OA) (heC:Nat) (hin:eW r az ha) (hwl:want.length≤12):
 dV Tryz.prog 11 [(vA (cm.cells (oD r kA kC cA cC bA bC slA slC drA drC heA heC))),(vI i),(vS wantA want.length wantC)] [(rd wantA want.length 1 (want.map iC)),(rd eJ 3 2 dJ),(rd kA r.an.aN.length 9 (r.an.aN.map al.cells)),(rd cA r.an.aj.length 2 (List.zipWith av.cells r.an.aj az)),(e7 (aU av.g0 r.an.aj az)),(rd bA r.an.ae.length 4 (r.an.ae.map bB.cells)),(rd slA r.aK.length 1 (r.aK.map iC)),(rd drA r.bL.length 1 (r.bL.map iC)),(rd heA r.ar.length 1 (List.zipWith cJ r.ar ha)),(e7 (aU im r.ar ha))] (vB (decide (jt r i=0∧fR r i=want))):=by
 have E:=hin.line
 have K:=hin.iN
 have L:=hin.has
 have G:=hin.iM
 have F:=hin.draw
 have H:=dB (r:=r)
 have M:=rW (r:=r) (i:=i)
 refine bx kr Tryz.func11 U U fun R Q hQ hN=>?_
 try dsimp only
 refine WS fun _ C=>fQ U fun P=>a_ 1 U<|RK C<|WS fun _ D=>rP 2 [] (mc 0 U I) ?_
 refine cX (Ak i r kA kC az cA cC bA bC slA slC drA drC ha heA heC hin) (bf [2,3,4,5,6,7,8,9,10]) U fun O N=>?_
 obtain ⟨AA,J⟩:=O
 try dsimp only
 refine a_ 5 U<|RK D<|WS fun _ B=>rP 3 [] I ?_
 refine bZ (t:=17) U (aQ fun A=>?_) (aP fun A=>?_)
 ·refine rP 5 [] I ?_
  refine RK B<|ao<|Q1 hQ U U U ?_
  first|exact cB (cd fun q=>A q.1).symm|exact cB (decide_eq_decide.2 ⟨fun q=>⟨A,q⟩,fun q=>q.2⟩)
 refine a_ 2 U<|rS (CL (oc (fR r i) AA J want wantA wantC om om) (aq (ag (n:=(fR r i).length) 0 U sm)<|fq 2 U U<|aJ) U)<|rP 2 [] I ?_
 refine RK B<|ao<|Q1 hQ U U U ?_
 first|exact cB (cd fun q=>A q.1).symm|exact cB (decide_eq_decide.2 ⟨fun q=>⟨A,q⟩,fun q=>q.2⟩)
theorem yQ (heatX:Int) (want:List Int) (wantA:OA) (wantC:Nat) (hwl:want.length≤12):
 dV Tryz.prog 8 [(vI heatX),(vS wantA want.length wantC)] [(rd eJ 3 2 dJ),(rd wantA want.length 1 (want.map iC))] (vB (decide (iJ aH heatX=0∧g3 aH heatX=want))):=by
 have b:=E2 (r:=aH) (h:=heatX) dc
 refine bx kr Tryz.func8 U U fun d Q hQ hN=>?_
 try dsimp only
 refine WS fun _ V=>rP 1 [] I ?_
 refine RK V<|WS fun _ W=>cX jo (aJ) U fun c Y=>?_
 obtain ⟨N,S,P,AA,R,C,G,D,H,E,AB,F,J,M⟩:=c
 try dsimp only
 obtain ⟨L,X,K⟩:=Y
 refine rP 1 [] I ?_
 refine cX (Nb heatX aH N S R P AA C G D H E AB M F J (by exact L)) (fq 8 U U<|aq (ag (n:=aH.an.aN.length) 0 U sm)<|aq (ag (n:=aH.an.aj.length) 1 U (gE X))<|aq (dy 2 U gZ)<|aq (ag (n:=aH.an.ae.length) 3 U sm)<|aq (ag (n:=aH.aK.length) 4 U sm)<|aq (ag (n:=aH.bL.length) 5 U sm)<|aq (ag (n:=aH.ar.length) 6 U (eL K.1))<|aq (gr 7 U K)<|aJ) U fun Z a=>?_
 obtain ⟨O,T⟩:=Z
 try dsimp only
 refine a_ 5 U<|RK W<|WS fun _ B=>rP 3 [] I ?_
 refine bZ (t:=15) U (aQ fun A=>?_) (aP fun A=>?_)
 ·refine rP 5 [] I ?_
  refine RK B<|ao<|Q1 hQ U U U ?_
  first|exact cB (cd fun q=>A q.1).symm|exact cB (decide_eq_decide.2 ⟨fun q=>⟨A,q⟩,fun q=>q.2⟩)
 refine a_ 2 U<|rS (CL (oc (g3 aH heatX) O T want wantA wantC om om) (aq (ag (n:=(g3 aH heatX).length) 0 U sm)<|fq 10 U U<|aJ) U)<|rP 2 [] I ?_
 refine RK B<|ao<|Q1 hQ U U U ?_
 first|exact cB (cd fun q=>A q.1).symm|exact cB (decide_eq_decide.2 ⟨fun q=>⟨A,q⟩,fun q=>q.2⟩)
theorem BK (a b:Int) (x y:Int):
 dV Tryz.prog 12 [(vI a),(vI b),(Value.int .u8 x),(Value.int .u8 y)] [(rd eJ 3 2 dJ)] (vB (decide (((ld aH a b=0∧rH aH a b=x)∧ld aH a b=0)∧m_ aH a b=y))):=by
 refine bx kr Tryz.func12 U U fun w Q hQ hN=>?_
 try dsimp only
 refine WS fun _ p=>rP 1 [] I ?_
 refine RK p<|WS fun _ r=>cX jo (aJ) U fun v s=>?_
 obtain ⟨j,m,k,o,l,J,V,L,X,N,Z,P,d,h⟩:=v
 try dsimp only
 obtain ⟨F,G,E⟩:=s
 refine a_ 2 U<|rS (CL (xx a b aH j m l k o J V L X N Z h P d (by exact F)) (fq 8 U U<|aq (ag (n:=aH.an.aN.length) 0 U sm)<|aq (ag (n:=aH.an.aj.length) 1 U (gE G))<|aq (dy 2 U gZ)<|aq (ag (n:=aH.an.ae.length) 3 U sm)<|aq (ag (n:=aH.aK.length) 4 U sm)<|aq (ag (n:=aH.bL.length) 5 U sm)<|aq (ag (n:=aH.ar.length) 6 U (eL E.1))<|aq (gr 7 U E)<|aJ) U)<|qG [8] U U<|rP 5 [] I ?_
 refine RK r<|WS fun _ f=>cX jo (aJ) U fun u g=>?_
 obtain ⟨H,T,AB,AA,S,K,W,M,Y,O,c,R,e,i⟩:=u
 try dsimp only
 obtain ⟨F,G,E⟩:=g
 refine a_ 2 U<|rS (CL (Dx a b aH H T S AB AA K W M Y O c i R e (by exact F)) (fq 8 U U<|aq (ag (n:=aH.an.aN.length) 0 U sm)<|aq (ag (n:=aH.an.aj.length) 1 U (gE G))<|aq (dy 2 U gZ)<|aq (ag (n:=aH.an.ae.length) 3 U sm)<|aq (ag (n:=aH.aK.length) 4 U sm)<|aq (ag (n:=aH.bL.length) 5 U sm)<|aq (ag (n:=aH.ar.length) 6 U (eL E.1))<|aq (gr 7 U E)<|aJ) U)<|a_ 5 U<|RK f<|WS fun _ D=>rP 3 [] I ?_
 refine bZ (t:=29) U (aQ fun A=>?_) (aP fun A=>?_)
 ·refine rP 14 [] I ?_
  refine RK D<|ao<|Q1 hQ U U U ?_
  first|exact cB (cd fun q=>A q.1.1.1).symm|exact cB (cd fun q=>B q.1.1.2).symm|exact cB (cd fun q=>C q.1.2).symm|exact cB (decide_eq_decide.2 ⟨fun q=>⟨⟨⟨A,B⟩,C⟩,q⟩,fun q=>q.2⟩)
 refine a_ 2 U<|rS (BI U mq)<|rP 2 [] I ?_
 refine bZ (t:=34) U (aQ fun B=>?_) (aP fun B=>?_)
 ·refine rP 9 [] I ?_
  refine RK D<|ao<|Q1 hQ U U U ?_
  first|exact cB (cd fun q=>A q.1.1.1).symm|exact cB (cd fun q=>B q.1.1.2).symm|exact cB (cd fun q=>C q.1.2).symm|exact cB (decide_eq_decide.2 ⟨fun q=>⟨⟨⟨A,B⟩,C⟩,q⟩,fun q=>q.2⟩)
 refine rP 4 [] I ?_
 refine bZ (t:=38) U (aQ fun C=>?_) (aP fun C=>?_)
 ·refine rP 5 [] I ?_
  refine RK D<|ao<|Q1 hQ U U U ?_
  first|exact cB (cd fun q=>A q.1.1.1).symm|exact cB (cd fun q=>B q.1.1.2).symm|exact cB (cd fun q=>C q.1.2).symm|exact cB (decide_eq_decide.2 ⟨fun q=>⟨⟨⟨A,B⟩,C⟩,q⟩,fun q=>q.2⟩)
 refine a_ 2 U<|rS (BI U mq)<|rP 2 [] I ?_
 refine RK D<|ao<|Q1 hQ U U U ?_
 first|exact cB (cd fun q=>A q.1.1.1).symm|exact cB (cd fun q=>B q.1.1.2).symm|exact cB (cd fun q=>C q.1.2).symm|exact cB (decide_eq_decide.2 ⟨fun q=>⟨⟨⟨A,B⟩,C⟩,q⟩,fun q=>q.2⟩)
end
section
open Go.RowKit
theorem Kk:
 dV Tryz.prog 7 [] [(rd eJ 3 2 dJ)] (vB true):=by
 have Ah:=vd (r:=aH)
 have Aa:=vd (r:=jO)
 have Fa:=BD (r:=aH) (h:=0) (i:=2) (t:=aa.mk 2590 2599)
 have FZ:aH.aK.length=3:=rfl
 refine bx kr Tryz.func7 U U fun w0 Q hQ hN=>?_
 try dsimp only
 refine WS fun _ FO=>rP 1 [] I ?_
 refine RK FO<|WS fun _ FP=>cX jo (aJ) U fun y3 FR=>?_
 obtain ⟨FJ,FM,FK,FN,FL,Dt,Ea,Dx,Ee,D1,Ei,D5,Em,E_⟩:=y3
 try dsimp only
 obtain ⟨A,Z,C⟩:=FR
 refine rS (CL (JC 0 0 aH FJ FM FL FK FN Dt Ea Dx Ee D1 Ei E_ D5 Em (by exact A)) (fq 8 U U<|aq (ag (n:=aH.an.aN.length) 0 U sm)<|aq (ag (n:=aH.an.aj.length) 1 U (gE Z))<|aq (dy 2 U gZ)<|aq (ag (n:=aH.an.ae.length) 3 U sm)<|aq (ag (n:=aH.aK.length) 4 U sm)<|aq (ag (n:=aH.bL.length) 5 U sm)<|aq (ag (n:=aH.ar.length) 6 U (eL C.1))<|aq (gr 7 U C)<|aJ) U)<|a_ 1 U<|qG [8] U U<|a_ 2 U<|AL U cZ fun AV=>fO U cp U<|rP 1 [] I ?_
 refine RK FP<|WS fun _ Ey=>cX jo (aJ) U fun FS E5=>?_
 obtain ⟨Dn,EU,Dq,EX,ER,Du,Eb,Dy,Ef,D2,Ej,D6,En,FA⟩:=FS
 try dsimp only
 obtain ⟨A,Z,C⟩:=E5
 refine cX (Fc aH Dn EU ER Dq EX Du Eb Dy Ef D2 Ej FA D6 En (by exact A)) (fq 9 U U<|aq (ag (n:=aH.an.aN.length) 0 U sm)<|aq (ag (n:=aH.an.aj.length) 1 U (gE Z))<|aq (dy 2 U gZ)<|aq (ag (n:=aH.an.ae.length) 3 U sm)<|aq (ag (n:=aH.aK.length) 4 U sm)<|aq (ag (n:=aH.bL.length) 5 U sm)<|aq (ag (n:=aH.ar.length) 6 U (eL C.1))<|aq (gr 7 U C)<|aJ) U fun FT E6=>?_
 obtain ⟨S,AP,AQ⟩:=FT
 try dsimp only
 have Db:=E6
 have Ar:=Db
 refine a_ 1 U<|qG [0,1,10,11] U U<|rP 4 [] I ?_
 refine RK Ey<|WS fun _ Ez=>cX jo (aJ) U fun FU E7=>?_
 obtain ⟨Do,EV,Dr,EY,ES,Dv,Ec,Dz,Eg,D3,Ek,D7,Eo,FB⟩:=FU
 try dsimp only
 obtain ⟨A,Z,C⟩:=E7
 refine rS (CL (kZ 2590 2599) (aJ) U)<|cX (BT 0 2 (aa.mk 2590 2599) aH Do EV ES Dr EY Dv Ec Dz Eg D3 Ek FB D7 Eo (by exact A)) (fq 11 U U<|aq (ag (n:=aH.an.aN.length) 0 U sm)<|aq (ag (n:=aH.an.aj.length) 1 U (gE Z))<|aq (dy 2 U gZ)<|aq (ag (n:=aH.an.ae.length) 3 U sm)<|aq (ag (n:=aH.aK.length) 4 U sm)<|aq (ag (n:=aH.bL.length) 5 U sm)<|aq (ag (n:=aH.ar.length) 6 U (eL C.1))<|aq (gr 7 U C)<|aJ) U fun FV Au=>?_
 obtain ⟨FC,FY,D,K,E,L,J,F,M,G,N,H,O,Fd,P,R⟩:=FV
 cases FC
 ·obtain ⟨E3,he⟩:=Au.2 rfl
  try dsimp only at E3 he
  subst E3
  try dsimp only [cond_true,cond_false,List.cons_append,List.nil_append]
  exact absurd Bj he
 obtain ⟨E4,⟨Ag,E2⟩,Ab⟩:=Au.1 rfl
 try dsimp only [cond_true,cond_false,List.cons_append,List.nil_append]
 try dsimp only at E4 Ag E2 Ab
 have At:eW jO _ _:=eW.rep A Ag E2 Ab
 refine a_ 1 U<|qG [0,1,2,3,4,5,6,7,16,17,18,19] U U<|a_ 2 U<|AL U z_ fun AR=>fO U sE U<|a_ 1 U<|RK Ez<|WS fun _ E0=>rP 1 [] (mc 0 U I) ?_
 refine cX (Fc jO D K J E L F M G N H O R Fd P (by exact At)) (fq 12 U U<|aq (ag (n:=aH.an.aN.length) 1 U (by rw [List.length_map]; rfl))<|aq (ag (n:=aH.an.aj.length) 2 U (gE Ag))<|aq (dy 3 U gZ)<|aq (ag (n:=aH.an.ae.length) 4 U (by rw [List.length_map]; rfl))<|aq (ag (n:=aH.aK.length) 5 U (by rw [List.length_map]; rfl))<|aq (ag (n:=aH.bL.length) 6 U (by rw [List.length_map]; rfl))<|aq (ag (n:=(fz aH.ar 0 2 (aa.mk 2590 2599)).length) 7 U (eL Ab.1))<|aq (gr 8 U Ab)<|aJ) U fun FW E8=>?_
 obtain ⟨T,AA,AO⟩:=FW
 try dsimp only
 have Db:=E8
 have As:=Db
 refine rP 5 [] I ?_
 refine RK E0<|WS fun _ E1=>cX jo (aJ) U fun FX E9=>?_
 obtain ⟨Dp,EW,Ds,EZ,ET,Dw,Ed,D0,Eh,D4,El,D8,Ep,Dh⟩:=FX
 try dsimp only
 obtain ⟨A,Z,C⟩:=E9
 refine rS (CL (kZ 2590 2599) (aJ) U)<|cX (G7 0 2 (aa.mk 2590 2599) aH Dp EW ET Ds EZ Dw Ed D0 Eh D4 El Dh D8 Ep (by exact A)) (fq 22 U U<|aq (ag (n:=aH.an.aN.length) 0 U sm)<|aq (ag (n:=aH.an.aj.length) 1 U (gE Z))<|aq (dy 2 U gZ)<|aq (ag (n:=aH.an.ae.length) 3 U sm)<|aq (ag (n:=aH.aK.length) 4 U sm)<|aq (ag (n:=aH.bL.length) 5 U sm)<|aq (ag (n:=aH.ar.length) 6 U (eL C.1))<|aq (gr 7 U C)<|aJ) U fun FD FQ=>?_
 obtain ⟨X,Y⟩:=FD
 try dsimp only
 refine a_ 1 U<|qG [0,9,10,11,12,13,14,15,16,17,18,19,20,21,22,23] U U<|rP 4 [] I ?_
 refine RK E1<|ai fun _ B3=>pa cq [0,1,2,3,4,5,6,7] [8,9,10,11,12,13,14,15,16,17,18,19,20,21,22,23,24,25,26,27,28,29,30,31,32,33,34,35,36,37,38,39,40,41,42,43,44,45,46,47,48,49,50,51,52,53,54,55,56,57,58,59,60,61,62,63,64,65,66,67,68,69,70,71,72,73] [false,false,false,false,false,false,false,false] [] [(own X Y 3 1 ((ek aH 0 2 (aa.mk 2590 2599)).map iC)),(own AA AO 32 1 (List.zipWith lu (cP jO) T)),(bu (aU p7 (cP jO) T)),(bU AR 35 (cm.cells (cm.mk (cb.mk (bD.mk (bp.mk D aH.an.aN.length K)) aH.an.gT (bp.mk E aH.an.aj.length L) (bp.mk F aH.an.ae.length M) aH.an.cu aH.an.eM aH.an.cQ) (bp.mk G aH.aK.length N) (bp.mk H aH.bL.length O) aH.ik (bp.mk Fd ((fz aH.ar 0 2 (aa.mk 2590 2599)).length) P)))),(own D K 114 9 (aH.an.aN.map al.cells)),(own E L 119 2 (List.zipWith av.cells aH.an.aj J)),(bu (aU av.owns aH.an.aj J)),(own F M 121 4 (aH.an.ae.map bB.cells)),(own G N 3 1 (aH.aK.map iC)),(own H O 3 1 (aH.bL.map iC)),(own Fd P 46 1 (List.zipWith cJ (fz aH.ar 0 2 (aa.mk 2590 2599)) R)),(bu (aU iA (fz aH.ar 0 2 (aa.mk 2590 2599)) R)),(own AP AQ 32 1 (List.zipWith lu (cP aH) S)),(bu (aU p7 (cP aH) S)),(bU AV 40 (aa.cells (dA aH 0 0))),(rd eJ 3 2 dJ).ro] [] kr (aI [0,1,2,3,4,5,6,7,8,9,10,11,12,13,14,15]) (aI [])<|eS U (MV U)<|eS U (BI U mq)<|eS U (MV U)<|KF (t:=40) U (aQ fun Eq=>?_) (aP fun Eq=>?_)
 ·exact absurd (Pq.1) Eq
 refine eS U (LW 14 U b_ U U)<|eS U (CL (kZ 2596 2602) (aJ) U)<|eS U (BI U (tU _ _ (dA aH 0 0) (aa.mk 2596 2602)))<|eS U (PK U)<|eS U (MV U)<|eX U<|N1 8<|NO U U [9,10,11,12,13,14,15,16,17,18,19,20,21,22,23,24,25,26,27,28,29,30,31,32,33,34,35,36,37,38,39,40,41,42,43,44,45,46,47,48,49,50,51,52,53,54,55,56,57,58,59,60,61,62,63,64,65,66,67,68,69,70,71,72,73] fun T106 B4=>bZ (t:=45) U (aQ fun Er=>?_) (aP fun Er=>?_)
 ·exact absurd (Pq.2) Er
 refine cX jo (aJ) U fun FE Dc=>?_
 obtain ⟨Av,BX,A0,Bc,BR,A5,Bh,A_,Bn,BF,Bt,BM,By,Di⟩:=FE
 try dsimp only
 obtain ⟨A,Z,C⟩:=Dc
 refine RD B4 8 U<|N1 9<|NO U U [10,11,12,13,14,15,16,17,18,19,20,21,22,23,24,25,26,27,28,29,30,31,32,33,34,35,36,37,38,39,40,41,42,43,44,45,46,47,48,49,50,51,52,53,54,55,56,57,58,59,60,61,62,63,64,65,66,67,68,69,70,71,72,73] fun T123 B5=>rS (CL (zx 0 514 515 aH Av BX BR A0 Bc A5 Bh A_ Bn BF Bt Di BM By (by exact A)) (fq 23 U U<|aq (ag (n:=aH.an.aN.length) 0 U sm)<|aq (ag (n:=aH.an.aj.length) 1 U (gE Z))<|aq (dy 2 U gZ)<|aq (ag (n:=aH.an.ae.length) 3 U sm)<|aq (ag (n:=aH.aK.length) 4 U sm)<|aq (ag (n:=aH.bL.length) 5 U sm)<|aq (ag (n:=aH.ar.length) 6 U (eL C.1))<|aq (gr 7 U C)<|aJ) U)<|RD B5 8 U<|N1 10<|NO U U [11,12,13,14,15,16,17,18,19,20,21,22,23,24,25,26,27,28,29,30,31,32,33,34,35,36,37,38,39,40,41,42,43,44,45,46,47,48,49,50,51,52,53,54,55,56,57,58,59,60,61,62,63,64,65,66,67,68,69,70,71,72,73] fun T124 B6=>qG [8,9,10,11,12,13,14,15,16,17,18,19,20,21,22,23] U U<|rS (PK U)<|RD B6 0 U<|N1 11<|NO U U [12,13,14,15,16,17,18,19,20,21,22,23,24,25,26,27,28,29,30,31,32,33,34,35,36,37,38,39,40,41,42,43,44,45,46,47,48,49,50,51,52,53,54,55,56,57,58,59,60,61,62,63,64,65,66,67,68,69,70,71,72,73] fun T125 B7=>rS (MV U)<|RD B7 0 U ?_
 refine wG (V:=OA×Nat×OA×Nat×List RA×OA×Nat×OA×Nat×OA×Nat×OA×Nat×List cM×Nat) (fun (k,AB,o,AD,d,q,AF,u,AH,w,AJ,y,AM,f,a)=>eW aH d f∧d.length=aH.an.aj.length∧tI aH.ar f) (fun (k,AB,o,AD,d,q,AF,u,AH,w,AJ,y,AM,f,a)=>[(3,(vS AP ((cP aH).length) AQ)),(4,(vI (cr aH))),(5,(vP AR)),(6,(vI 0)),(7,(vS AA ((cP jO).length) AO)),(8,(vI (cr jO))),(9,(vS X ((ek aH 0 2 (aa.mk 2590 2599)).length) Y)),(10,(vI (fJ aH 0 2 (aa.mk 2590 2599)))),(49,(vB true)),(50,(vA (cm.cells (cm.mk (cb.mk (bD.mk (bp.mk k aH.an.aN.length AB)) aH.an.gT (bp.mk o aH.an.aj.length AD) (bp.mk q aH.an.ae.length AF) aH.an.cu aH.an.eM aH.an.cQ) (bp.mk u aH.aK.length AH) (bp.mk w aH.bL.length AJ) aH.ik (bp.mk y aH.ar.length AM))))),(51,(vS (some ⟨a,0,none⟩) 2 2))]) (fun (k,AB,o,AD,d,q,AF,u,AH,w,AJ,y,AM,f,a)=>[(bU a 3 [(vI 1),(vI 2)]),(own k AB 114 9 (aH.an.aN.map al.cells)),(own o AD 119 2 (List.zipWith av.cells aH.an.aj d)),(bu (aU av.owns aH.an.aj d)),(own q AF 121 4 (aH.an.ae.map bB.cells)),(own u AH 3 1 (aH.aK.map iC)),(own w AJ 3 1 (aH.bL.map iC)),(own y AM 46 1 (List.zipWith cJ aH.ar f)),(bu (aU iA aH.ar f)),(own X Y 3 1 ((ek aH 0 2 (aa.mk 2590 2599)).map iC)),(own AA AO 32 1 (List.zipWith lu (cP jO) T)),(bu (aU p7 (cP jO) T)),(bU AR 35 (cm.cells (cm.mk (cb.mk (bD.mk (bp.mk D aH.an.aN.length K)) aH.an.gT (bp.mk E aH.an.aj.length L) (bp.mk F aH.an.ae.length M) aH.an.cu aH.an.eM aH.an.cQ) (bp.mk G aH.aK.length N) (bp.mk H aH.bL.length O) aH.ik (bp.mk Fd ((fz aH.ar 0 2 (aa.mk 2590 2599)).length) P)))),(own D K 114 9 (aH.an.aN.map al.cells)),(own E L 119 2 (List.zipWith av.cells aH.an.aj J)),(bu (aU av.owns aH.an.aj J)),(own F M 121 4 (aH.an.ae.map bB.cells)),(own G N 3 1 (aH.aK.map iC)),(own H O 3 1 (aH.bL.map iC)),(own Fd P 46 1 (List.zipWith cJ (fz aH.ar 0 2 (aa.mk 2590 2599)) R)),(bu (aU iA (fz aH.ar 0 2 (aa.mk 2590 2599)) R)),(own AP AQ 32 1 (List.zipWith lu (cP aH) S)),(bu (aU p7 (cP aH) S)),(bU AV 40 (aa.cells (dA aH 0 0))),(rd eJ 3 2 dJ).ro]) 60 [14,15,16,17,18,19,20,21,22,23,24,25,26,27,28,29,30,31,32,33,34,35,36,37,38,39,40,41,42,43,44,45,46,47,48,49,50,51,52,53,54,55,56,57,58,59,60,61,62,63,64,65,66,67,68,69,70,71,72,73] (fun hJ=>?_) ?_
 ·refine iQ [12,13] kr (eI ?_<|eI ?_<|kQ)
  rotate_left 1
  ·refine NO U U [12,14,15,16,17,18,19,20,21,22,23,24,25,26,27,28,29,30,31,32,33,34,35,36,37,38,39,40,41,42,43,44,45,46,47,48,49,50,51,52,53,54,55,56,57,58,59,60,61,62,63,64,65,66,67,68,69,70,71,72,73] fun T162 B_=>bZ (t:=49) U (aQ fun Ac=>?_) (aP fun Ac=>?_)
   ·exact absurd (⟨l_.1,l_.2.1⟩) Ac
   refine cV (xs:=[.const (vI 1),.const (vI 2)]) (cs:=[(vI 1),(vI 2)]) U cv ja U U U U (by simp [Value.cells]) U U fun D_=>RD B_ 1 U<|N1 12<|NO U U [14,15,16,17,18,19,20,21,22,23,24,25,26,27,28,29,30,31,32,33,34,35,36,37,38,39,40,41,42,43,44,45,46,47,48,49,50,51,52,53,54,55,56,57,58,59,60,61,62,63,64,65,66,67,68,69,70,71,72,73] fun T164 CA=>cX jo (aJ) U fun FG De=>?_
   obtain ⟨Ax,BZ,A2,Be,BU,A7,Bk,BB,Bp,BH,Bv,BO,B0,Dk⟩:=FG
   try dsimp only
   obtain ⟨A,Z,C⟩:=De
   refine RD CA 9 U ?_
   exact jI hJ (Ax,BZ,A2,Be,BU,A7,Bk,BB,Bp,BH,Bv,BO,B0,Dk,D_) ⟨A,Z,C⟩ [8,0,1,2,3,4,5,6,7,9,10,11,12,13,14,15,16,17,18,19,20,21,22,23,24] U U U
  refine NO U U [13,14,15,16,17,18,19,20,21,22,23,24,25,26,27,28,29,30,31,32,33,34,35,36,37,38,39,40,41,42,43,44,45,46,47,48,49,50,51,52,53,54,55,56,57,58,59,60,61,62,63,64,65,66,67,68,69,70,71,72,73] fun T143 B8=>bZ (t:=49) U (aQ fun Ac=>?_) (aP fun Ac=>?_)
  ·exact absurd (⟨l_.1,l_.2.1⟩) Ac
  refine cX jo (aJ) U fun FF Dd=>?_
  obtain ⟨Aw,BY,A1,Bd,BS,A6,Bi,BA,Bo,BG,Bu,BN,Bz,Dj⟩:=FF
  try dsimp only
  obtain ⟨A,Z,C⟩:=Dd
  refine RD B8 8 U<|N1 13<|NO U U [14,15,16,17,18,19,20,21,22,23,24,25,26,27,28,29,30,31,32,33,34,35,36,37,38,39,40,41,42,43,44,45,46,47,48,49,50,51,52,53,54,55,56,57,58,59,60,61,62,63,64,65,66,67,68,69,70,71,72,73] fun T160 B9=>cV (xs:=[.const (vI 1),.const (vI 2)]) (cs:=[(vI 1),(vI 2)]) U cv ja U U U U (by simp [Value.cells]) U U fun D9=>RD B9 9 U ?_
  exact jI hJ (Aw,BY,A1,Bd,BS,A6,Bi,BA,Bo,BG,Bu,BN,Bz,Dj,D9) ⟨A,Z,C⟩ [0,1,2,3,4,5,6,7,8,9,10,11,12,13,14,15,16,17,18,19,20,21,22,23,24] U U U
 rintro ⟨k,AB,o,AD,d,q,AF,u,AH,w,AJ,y,AM,f,a⟩ ⟨A,Z,C⟩
 try dsimp only
 refine N1 14<|NO U U [15,16,17,18,19,20,21,22,23,24,25,26,27,28,29,30,31,32,33,34,35,36,37,38,39,40,41,42,43,44,45,46,47,48,49,50,51,52,53,54,55,56,57,58,59,60,61,62,63,64,65,66,67,68,69,70,71,72,73] fun T181 CB=>rS (CL (zk 0 ([1,2]) (some ⟨a,0,none⟩) 2 aH k AB d o AD q AF u AH w AJ f y AM (by exact A) dc) (aq (aZ 0 U U (by simp [bE]) U)<|fq 24 U U<|aq (ag (n:=aH.an.aN.length) 1 U sm)<|aq (ag (n:=aH.an.aj.length) 2 U (gE Z))<|aq (dy 3 U gZ)<|aq (ag (n:=aH.an.ae.length) 4 U sm)<|aq (ag (n:=aH.aK.length) 5 U sm)<|aq (ag (n:=aH.bL.length) 6 U sm)<|aq (ag (n:=aH.ar.length) 7 U (eL C.1))<|aq (gr 8 U C)<|aJ) U)<|RD CB 9 U<|N1 15<|NO U U [16,17,18,19,20,21,22,23,24,25,26,27,28,29,30,31,32,33,34,35,36,37,38,39,40,41,42,43,44,45,46,47,48,49,50,51,52,53,54,55,56,57,58,59,60,61,62,63,64,65,66,67,68,69,70,71,72,73] fun T182 CC=>qG [0,9,10,11,12,13,14,15,16,17,18,19,20,21,22,23,24] U U<|rS (PK U)<|RD CC 1 U<|N1 16<|NO U U [17,18,19,20,21,22,23,24,25,26,27,28,29,30,31,32,33,34,35,36,37,38,39,40,41,42,43,44,45,46,47,48,49,50,51,52,53,54,55,56,57,58,59,60,61,62,63,64,65,66,67,68,69,70,71,72,73] fun T183 CD=>rS (MV U)<|RD CD 1 U ?_
 refine wG (V:=OA×Nat×OA×Nat×List RA×OA×Nat×OA×Nat×OA×Nat×OA×Nat×List cM×Nat) (fun (l,AC,p,AE,e,s,AG,v,AI,x,AK,z,AN,g,b)=>eW aH e g∧e.length=aH.an.aj.length∧tI aH.ar g) (fun (l,AC,p,AE,e,s,AG,v,AI,x,AK,z,AN,g,b)=>[(3,(vS AP ((cP aH).length) AQ)),(4,(vI (cr aH))),(5,(vP AR)),(6,(vI 0)),(7,(vS AA ((cP jO).length) AO)),(8,(vI (cr jO))),(9,(vS X ((ek aH 0 2 (aa.mk 2590 2599)).length) Y)),(10,(vI (fJ aH 0 2 (aa.mk 2590 2599)))),(54,(vB true)),(55,(vA (cm.cells (cm.mk (cb.mk (bD.mk (bp.mk l aH.an.aN.length AC)) aH.an.gT (bp.mk p aH.an.aj.length AE) (bp.mk s aH.an.ae.length AG) aH.an.cu aH.an.eM aH.an.cQ) (bp.mk v aH.aK.length AI) (bp.mk x aH.bL.length AK) aH.ik (bp.mk z aH.ar.length AN))))),(56,(vS (some ⟨b,0,none⟩) 2 2))]) (fun (l,AC,p,AE,e,s,AG,v,AI,x,AK,z,AN,g,b)=>[(bU b 3 [(vI 2),(vI 3)]),(own l AC 114 9 (aH.an.aN.map al.cells)),(own p AE 119 2 (List.zipWith av.cells aH.an.aj e)),(bu (aU av.owns aH.an.aj e)),(own s AG 121 4 (aH.an.ae.map bB.cells)),(own v AI 3 1 (aH.aK.map iC)),(own x AK 3 1 (aH.bL.map iC)),(own z AN 46 1 (List.zipWith cJ aH.ar g)),(bu (aU iA aH.ar g)),(bU a 3 [(vI 1),(vI 2)]),(own X Y 3 1 ((ek aH 0 2 (aa.mk 2590 2599)).map iC)),(own AA AO 32 1 (List.zipWith lu (cP jO) T)),(bu (aU p7 (cP jO) T)),(bU AR 35 (cm.cells (cm.mk (cb.mk (bD.mk (bp.mk D aH.an.aN.length K)) aH.an.gT (bp.mk E aH.an.aj.length L) (bp.mk F aH.an.ae.length M) aH.an.cu aH.an.eM aH.an.cQ) (bp.mk G aH.aK.length N) (bp.mk H aH.bL.length O) aH.ik (bp.mk Fd ((fz aH.ar 0 2 (aa.mk 2590 2599)).length) P)))),(own D K 114 9 (aH.an.aN.map al.cells)),(own E L 119 2 (List.zipWith av.cells aH.an.aj J)),(bu (aU av.owns aH.an.aj J)),(own F M 121 4 (aH.an.ae.map bB.cells)),(own G N 3 1 (aH.aK.map iC)),(own H O 3 1 (aH.bL.map iC)),(own Fd P 46 1 (List.zipWith cJ (fz aH.ar 0 2 (aa.mk 2590 2599)) R)),(bu (aU iA (fz aH.ar 0 2 (aa.mk 2590 2599)) R)),(own AP AQ 32 1 (List.zipWith lu (cP aH) S)),(bu (aU p7 (cP aH) S)),(bU AV 40 (aa.cells (dA aH 0 0))),(rd eJ 3 2 dJ).ro]) 55 [19,20,21,22,23,24,25,26,27,28,29,30,31,32,33,34,35,36,37,38,39,40,41,42,43,44,45,46,47,48,49,50,51,52,53,54,55,56,57,58,59,60,61,62,63,64,65,66,67,68,69,70,71,72,73] (fun hJ=>?_) ?_
 ·refine iQ [17,18] kr (eI ?_<|eI ?_<|kQ)
  rotate_left 1
  ·refine NO U U [17,19,20,21,22,23,24,25,26,27,28,29,30,31,32,33,34,35,36,37,38,39,40,41,42,43,44,45,46,47,48,49,50,51,52,53,54,55,56,57,58,59,60,61,62,63,64,65,66,67,68,69,70,71,72,73] fun T220 CG=>bZ (t:=54) U (aQ fun Ad=>?_) (aP fun Ad=>?_)
   ·exact absurd (⟨l_.1,l_.2.2⟩) Ad
   refine cV (xs:=[.const (vI 2),.const (vI 3)]) (cs:=[(vI 2),(vI 3)]) U cv ja U U U U (by simp [Value.cells]) U U fun EB=>RD CG 2 U<|N1 17<|NO U U [19,20,21,22,23,24,25,26,27,28,29,30,31,32,33,34,35,36,37,38,39,40,41,42,43,44,45,46,47,48,49,50,51,52,53,54,55,56,57,58,59,60,61,62,63,64,65,66,67,68,69,70,71,72,73] fun T222 CH=>cX jo (aJ) U fun FI Dg=>?_
   obtain ⟨Az,Bb,A4,Bg,BW,A9,Bm,BE,Br,BL,Bx,BQ,B2,Dm⟩:=FI
   try dsimp only
   obtain ⟨A,Z,C⟩:=Dg
   refine RD CH 10 U ?_
   exact jI hJ (Az,Bb,A4,Bg,BW,A9,Bm,BE,Br,BL,Bx,BQ,B2,Dm,EB) ⟨A,Z,C⟩ [8,0,1,2,3,4,5,6,7,9,10,11,12,13,14,15,16,17,18,19,20,21,22,23,24,25] U U U
  refine NO U U [18,19,20,21,22,23,24,25,26,27,28,29,30,31,32,33,34,35,36,37,38,39,40,41,42,43,44,45,46,47,48,49,50,51,52,53,54,55,56,57,58,59,60,61,62,63,64,65,66,67,68,69,70,71,72,73] fun T201 CE=>bZ (t:=54) U (aQ fun Ad=>?_) (aP fun Ad=>?_)
  ·exact absurd (⟨l_.1,l_.2.2⟩) Ad
  refine cX jo (aJ) U fun FH Df=>?_
  obtain ⟨Ay,Ba,A3,Bf,BV,A8,Bl,BC,Bq,BJ,Bw,BP,B1,Dl⟩:=FH
  try dsimp only
  obtain ⟨A,Z,C⟩:=Df
  refine RD CE 9 U<|N1 18<|NO U U [19,20,21,22,23,24,25,26,27,28,29,30,31,32,33,34,35,36,37,38,39,40,41,42,43,44,45,46,47,48,49,50,51,52,53,54,55,56,57,58,59,60,61,62,63,64,65,66,67,68,69,70,71,72,73] fun T218 CF=>cV (xs:=[.const (vI 2),.const (vI 3)]) (cs:=[(vI 2),(vI 3)]) U cv ja U U U U (by simp [Value.cells]) U U fun EA=>RD CF 10 U ?_
  exact jI hJ (Ay,Ba,A3,Bf,BV,A8,Bl,BC,Bq,BJ,Bw,BP,B1,Dl,EA) ⟨A,Z,C⟩ [0,1,2,3,4,5,6,7,8,9,10,11,12,13,14,15,16,17,18,19,20,21,22,23,24,25] U U U
 rintro ⟨l,AC,p,AE,e,s,AG,v,AI,x,AK,z,AN,g,b⟩ ⟨A,Z,C⟩
 try dsimp only
 refine N1 19<|NO U U [20,21,22,23,24,25,26,27,28,29,30,31,32,33,34,35,36,37,38,39,40,41,42,43,44,45,46,47,48,49,50,51,52,53,54,55,56,57,58,59,60,61,62,63,64,65,66,67,68,69,70,71,72,73] fun T239 CI=>rS (CL (zk 2 ([2,3]) (some ⟨b,0,none⟩) 2 aH l AC e p AE s AG v AI x AK g z AN (by exact A) dc) (aq (aZ 0 U U (by simp [bE]) U)<|fq 25 U U<|aq (ag (n:=aH.an.aN.length) 1 U sm)<|aq (ag (n:=aH.an.aj.length) 2 U (gE Z))<|aq (dy 3 U gZ)<|aq (ag (n:=aH.an.ae.length) 4 U sm)<|aq (ag (n:=aH.aK.length) 5 U sm)<|aq (ag (n:=aH.bL.length) 6 U sm)<|aq (ag (n:=aH.ar.length) 7 U (eL C.1))<|aq (gr 8 U C)<|aJ) U)<|RD CI 10 U<|N1 20<|NO U U [21,22,23,24,25,26,27,28,29,30,31,32,33,34,35,36,37,38,39,40,41,42,43,44,45,46,47,48,49,50,51,52,53,54,55,56,57,58,59,60,61,62,63,64,65,66,67,68,69,70,71,72,73] fun T240 CJ=>qG [0,9,10,11,12,13,14,15,16,17,18,19,20,21,22,23,24,25] U U<|rS (PK U)<|RD CJ 2 U<|N1 21<|NO U U [22,23,24,25,26,27,28,29,30,31,32,33,34,35,36,37,38,39,40,41,42,43,44,45,46,47,48,49,50,51,52,53,54,55,56,57,58,59,60,61,62,63,64,65,66,67,68,69,70,71,72,73] fun T241 CK=>rS (MV U)<|RD CK 2 U<|N1 22<|NO U U [23,24,25,26,27,28,29,30,31,32,33,34,35,36,37,38,39,40,41,42,43,44,45,46,47,48,49,50,51,52,53,54,55,56,57,58,59,60,61,62,63,64,65,66,67,68,69,70,71,72,73] fun T242 CM=>bZ (t:=59) U (aQ fun Es=>?_) (aP fun Es=>?_)
 ·exact absurd (⟨Bs.1,Bs.2.2⟩) Es
 refine rS (CL (BK 1 2 2 0) (bf [17]) U)<|RD CM 2 U<|N1 23<|NO U U [24,25,26,27,28,29,30,31,32,33,34,35,36,37,38,39,40,41,42,43,44,45,46,47,48,49,50,51,52,53,54,55,56,57,58,59,60,61,62,63,64,65,66,67,68,69,70,71,72,73] fun T243 CN=>rS (PK U)<|RD CN 2 U<|N1 24<|NO U U [25,26,27,28,29,30,31,32,33,34,35,36,37,38,39,40,41,42,43,44,45,46,47,48,49,50,51,52,53,54,55,56,57,58,59,60,61,62,63,64,65,66,67,68,69,70,71,72,73] fun T244 CO=>rS (MV U)<|RD CO 2 U<|N1 25<|NO U U [26,27,28,29,30,31,32,33,34,35,36,37,38,39,40,41,42,43,44,45,46,47,48,49,50,51,52,53,54,55,56,57,58,59,60,61,62,63,64,65,66,67,68,69,70,71,72,73] fun T245 CP=>bZ (t:=62) U (aQ fun Et=>?_) (aP fun Et=>?_)
 ·exact absurd (⟨⟨⟨z7.1,z7.2.1⟩,z7.1⟩,z7.2.2⟩) Et
 refine rS (CL (BK 0 1 0 1) (bf [17]) U)<|RD CP 2 U<|N1 26<|NO U U [27,28,29,30,31,32,33,34,35,36,37,38,39,40,41,42,43,44,45,46,47,48,49,50,51,52,53,54,55,56,57,58,59,60,61,62,63,64,65,66,67,68,69,70,71,72,73] fun T246 CQ=>rS (PK U)<|RD CQ 2 U<|N1 27<|NO U U [28,29,30,31,32,33,34,35,36,37,38,39,40,41,42,43,44,45,46,47,48,49,50,51,52,53,54,55,56,57,58,59,60,61,62,63,64,65,66,67,68,69,70,71,72,73] fun T247 CR=>rS (MV U)<|RD CR 2 U<|N1 28<|NO U U [29,30,31,32,33,34,35,36,37,38,39,40,41,42,43,44,45,46,47,48,49,50,51,52,53,54,55,56,57,58,59,60,61,62,63,64,65,66,67,68,69,70,71,72,73] fun T248 CS=>bZ (t:=65) U (aQ fun Eu=>?_) (aP fun Eu=>?_)
 ·exact absurd (⟨⟨⟨z6.1,z6.2.1⟩,z6.1⟩,z6.2.2⟩) Eu
 refine rS (MV U)<|RD CS 2 U<|N1 29<|NO U U [30,31,32,33,34,35,36,37,38,39,40,41,42,43,44,45,46,47,48,49,50,51,52,53,54,55,56,57,58,59,60,61,62,63,64,65,66,67,68,69,70,71,72,73] fun T249 CT=>rS (BI U mq)<|RD CT 2 U<|N1 30<|NO U U [31,32,33,34,35,36,37,38,39,40,41,42,43,44,45,46,47,48,49,50,51,52,53,54,55,56,57,58,59,60,61,62,63,64,65,66,67,68,69,70,71,72,73] fun T250 CU=>rS (PK U)<|RD CU 2 U<|N1 31<|NO U U [32,33,34,35,36,37,38,39,40,41,42,43,44,45,46,47,48,49,50,51,52,53,54,55,56,57,58,59,60,61,62,63,64,65,66,67,68,69,70,71,72,73] fun T251 CV=>rS (MV U)<|RD CV 2 U ?_
 refine wG (V:=Nat×Nat) (fun (B,c)=>True) (fun (B,c)=>[(5,(vP AR)),(6,(vI 0)),(7,(vS AA ((cP jO).length) AO)),(8,(vI (cr jO))),(9,(vS X ((ek aH 0 2 (aa.mk 2590 2599)).length) Y)),(10,(vI (fJ aH 0 2 (aa.mk 2590 2599)))),(69,(vB true)),(70,(vS AP ((cP aH).length) AQ)),(71,(vS (some ⟨B,0,none⟩) 3 3)),(72,(vS (some ⟨c,0,none⟩) 1 1))]) (fun (B,c)=>[(bU c 32 [(vS (some ⟨B,0,none⟩) 3 3)]),(bU B 3 [(vI 0),(vI 1),(vI 2)]),(bU b 3 [(vI 2),(vI 3)]),(bU a 3 [(vI 1),(vI 2)]),(own X Y 3 1 ((ek aH 0 2 (aa.mk 2590 2599)).map iC)),(own AA AO 32 1 (List.zipWith lu (cP jO) T)),(bu (aU p7 (cP jO) T)),(bU AR 35 (cm.cells (cm.mk (cb.mk (bD.mk (bp.mk D aH.an.aN.length K)) aH.an.gT (bp.mk E aH.an.aj.length L) (bp.mk F aH.an.ae.length M) aH.an.cu aH.an.eM aH.an.cQ) (bp.mk G aH.aK.length N) (bp.mk H aH.bL.length O) aH.ik (bp.mk Fd ((fz aH.ar 0 2 (aa.mk 2590 2599)).length) P)))),(own D K 114 9 (aH.an.aN.map al.cells)),(own E L 119 2 (List.zipWith av.cells aH.an.aj J)),(bu (aU av.owns aH.an.aj J)),(own F M 121 4 (aH.an.ae.map bB.cells)),(own G N 3 1 (aH.aK.map iC)),(own H O 3 1 (aH.bL.map iC)),(own Fd P 46 1 (List.zipWith cJ (fz aH.ar 0 2 (aa.mk 2590 2599)) R)),(bu (aU iA (fz aH.ar 0 2 (aa.mk 2590 2599)) R)),(own AP AQ 32 1 (List.zipWith lu (cP aH) S)),(bu (aU p7 (cP aH) S)),(bU AV 40 (aa.cells (dA aH 0 0))),(rd eJ 3 2 dJ).ro]) 39 [35,36,37,38,39,40,41,42,43,44,45,46,47,48,49,50,51,52,53,54,55,56,57,58,59,60,61,62,63,64,65,66,67,68,69,70,71,72,73] (fun hJ=>?_) ?_
 ·refine iQ [32,33] kr (eI ?_<|eI ?_<|kQ)
  ·refine NO U U [33,34,35,36,37,38,39,40,41,42,43,44,45,46,47,48,49,50,51,52,53,54,55,56,57,58,59,60,61,62,63,64,65,66,67,68,69,70,71,72,73] fun T254 CW=>bZ (t:=69) U (aQ fun Ae=>?_) (aP fun Ae=>?_)
   ·exact absurd (ql) Ae
   refine rS (MV U)<|RD CW 2 U<|N1 33<|NO U U [34,35,36,37,38,39,40,41,42,43,44,45,46,47,48,49,50,51,52,53,54,55,56,57,58,59,60,61,62,63,64,65,66,67,68,69,70,71,72,73] fun T255 CX=>cV (xs:=[.const (vI 0),.const (vI 1),.const (vI 2)]) (cs:=[(vI 0),(vI 1),(vI 2)]) U cv ja U U U U (by simp [Value.cells]) U U fun Ai=>RD CX 3 U<|N1 34<|NO U U [35,36,37,38,39,40,41,42,43,44,45,46,47,48,49,50,51,52,53,54,55,56,57,58,59,60,61,62,63,64,65,66,67,68,69,70,71,72,73] fun T257 CY=>cV (xs:=[.tmp 71]) (cs:=[(vS (some ⟨Ai,0,none⟩) 3 3)]) U pg vu U U U U (by simp [Value.cells]) U U fun EC=>RD CY 4 U ?_
   exact jI hJ (Ai,EC) trivial [0,1,2,3,4,5,6,7,8,9,10,11,12,13,14,15,16,17,18,19] U U U
  refine NO U U [32,34,35,36,37,38,39,40,41,42,43,44,45,46,47,48,49,50,51,52,53,54,55,56,57,58,59,60,61,62,63,64,65,66,67,68,69,70,71,72,73] fun T259 CZ=>bZ (t:=69) U (aQ fun Ae=>?_) (aP fun Ae=>?_)
  ·exact absurd (ql) Ae
  refine cV (xs:=[.const (vI 0),.const (vI 1),.const (vI 2)]) (cs:=[(vI 0),(vI 1),(vI 2)]) U cv ja U U U U (by simp [Value.cells]) U U fun AX=>RD CZ 3 U<|iQ [32,34] kr (eI ?_<|eI ?_<|kQ)
  rotate_left 1
  ·refine NO U U [32,35,36,37,38,39,40,41,42,43,44,45,46,47,48,49,50,51,52,53,54,55,56,57,58,59,60,61,62,63,64,65,66,67,68,69,70,71,72,73] fun T264 Cc=>cV (xs:=[.tmp 71]) (cs:=[(vS (some ⟨AX,0,none⟩) 3 3)]) U pg vu U U U U (by simp [Value.cells]) U U fun EE=>RD Cc 4 U<|N1 32<|NO U U [35,36,37,38,39,40,41,42,43,44,45,46,47,48,49,50,51,52,53,54,55,56,57,58,59,60,61,62,63,64,65,66,67,68,69,70,71,72,73] fun T266 Cd=>rS (MV U)<|RD Cd 4 U ?_
   exact jI hJ (AX,EE) trivial [0,1,2,3,4,5,6,7,8,9,10,11,12,13,14,15,16,17,18,19] U U U
  refine NO U U [34,35,36,37,38,39,40,41,42,43,44,45,46,47,48,49,50,51,52,53,54,55,56,57,58,59,60,61,62,63,64,65,66,67,68,69,70,71,72,73] fun T261 Ca=>rS (MV U)<|RD Ca 3 U<|N1 34<|NO U U [35,36,37,38,39,40,41,42,43,44,45,46,47,48,49,50,51,52,53,54,55,56,57,58,59,60,61,62,63,64,65,66,67,68,69,70,71,72,73] fun T262 Cb=>cV (xs:=[.tmp 71]) (cs:=[(vS (some ⟨AX,0,none⟩) 3 3)]) U pg vu U U U U (by simp [Value.cells]) U U fun ED=>RD Cb 4 U ?_
  exact jI hJ (AX,ED) trivial [0,1,2,3,4,5,6,7,8,9,10,11,12,13,14,15,16,17,18,19] U U U
 rintro ⟨B,c⟩-
 try dsimp only
 refine N1 35<|NO U U [36,37,38,39,40,41,42,43,44,45,46,47,48,49,50,51,52,53,54,55,56,57,58,59,60,61,62,63,64,65,66,67,68,69,70,71,72,73] fun T267 Ce=>?_
 refine dQ (es:=(([0,1,2]:List Int).map iC)) (C':=[_,(own (some ⟨B,0,none⟩) 3 3 1 (([0,1,2]:List Int).map iC)),_,_,_,_,_,_,_,_,_,_,_,_,_,_,_,_,_,_]) 1 U (mP bE _) U (by show _≤maxLen; exact Nat.le_trans (m:=10) (show (3:Nat)≤10 by decide) dc) U ?_
 refine dQ (es:=(List.zipWith lu [([0,1,2]:List Int)] [((some ⟨B,0,none⟩),3)])) (C':=[(own (some ⟨c,0,none⟩) 1 32 1 (List.zipWith lu [([0,1,2]:List Int)] [((some ⟨B,0,none⟩),3)])),_,_,_,_,_,_,_,_,_,_,_,_,_,_,_,_,_,_,_]) 0 U (oZ KX) U (by show _≤maxLen; exact Nat.le_trans (m:=10) (show (1:Nat)≤10 by decide) dc) U ?_
 refine xW (C1:=[(own (some ⟨c,0,none⟩) 1 32 1 (List.zipWith lu [([0,1,2]:List Int)] [((some ⟨B,0,none⟩),3)])),(bU b 3 [(vI 2),(vI 3)]),(bU a 3 [(vI 1),(vI 2)]),(own X Y 3 1 ((ek aH 0 2 (aa.mk 2590 2599)).map iC)),(own AA AO 32 1 (List.zipWith lu (cP jO) T)),(bu (aU p7 (cP jO) T)),(bU AR 35 (cm.cells (cm.mk (cb.mk (bD.mk (bp.mk D aH.an.aN.length K)) aH.an.gT (bp.mk E aH.an.aj.length L) (bp.mk F aH.an.ae.length M) aH.an.cu aH.an.eM aH.an.cQ) (bp.mk G aH.aK.length N) (bp.mk H aH.bL.length O) aH.ik (bp.mk Fd ((fz aH.ar 0 2 (aa.mk 2590 2599)).length) P)))),(own D K 114 9 (aH.an.aN.map al.cells)),(own E L 119 2 (List.zipWith av.cells aH.an.aj J)),(bu (aU av.owns aH.an.aj J)),(own F M 121 4 (aH.an.ae.map bB.cells)),(own G N 3 1 (aH.aK.map iC)),(own H O 3 1 (aH.bL.map iC)),(own Fd P 46 1 (List.zipWith cJ (fz aH.ar 0 2 (aa.mk 2590 2599)) R)),(bu (aU iA (fz aH.ar 0 2 (aa.mk 2590 2599)) R)),(own AP AQ 32 1 (List.zipWith lu (cP aH) S)),(bu (aU p7 (cP aH) S)),(bU AV 40 (aa.cells (dA aH 0 0))),(rd eJ 3 2 dJ)]) (aU p7 [([0,1,2]:List Int)] [((some ⟨B,0,none⟩),3)]) [1,0,2,3,4,5,6,7,8,9,10,11,12,13,14,15,16,17,18,19] U U<|rS (CL (vj (cP aH) ([([0,1,2]:List Int)]) S AP AQ ([((some ⟨B,0,none⟩),3)]) (some ⟨c,0,none⟩) 1 (by first|exact Ah.1|exact Aa.1) dc (by first|exact Ah.2|exact Aa.2) dc (by exact Ar) (by rfl)) (aq (ag (n:=(cP aH).length) 16 U (k6 Ar))<|aq (dy 17 U Fp)<|aq (ag (n:=([([0,1,2]:List Int)]).length) 1 U sm)<|aq (dy 0 U Fp)<|aJ) U)<|RD Ce 4 U<|N1 36<|NO U U [37,38,39,40,41,42,43,44,45,46,47,48,49,50,51,52,53,54,55,56,57,58,59,60,61,62,63,64,65,66,67,68,69,70,71,72,73] fun T268 Cf=>rS (PK U)<|RD Cf 4 U<|N1 37<|NO U U [38,39,40,41,42,43,44,45,46,47,48,49,50,51,52,53,54,55,56,57,58,59,60,61,62,63,64,65,66,67,68,69,70,71,72,73] fun T269 Cg=>rS (MV U)<|RD Cg 4 U<|N1 38<|NO U U [39,40,41,42,43,44,45,46,47,48,49,50,51,52,53,54,55,56,57,58,59,60,61,62,63,64,65,66,67,68,69,70,71,72,73] fun T270 Ch=>bZ (t:=75) U (aQ fun Ev=>?_) (aP fun Ev=>?_)
 ·exact absurd (N9) Ev
 refine rS (MV U)<|RD Ch 4 U<|N1 39<|NO U U [40,41,42,43,44,45,46,47,48,49,50,51,52,53,54,55,56,57,58,59,60,61,62,63,64,65,66,67,68,69,70,71,72,73] fun T271 Ci=>rS (SX (bS (r:= .bool true) U U U mq) U U)<|RD Ci 4 U<|N1 40<|NO U U [41,42,43,44,45,46,47,48,49,50,51,52,53,54,55,56,57,58,59,60,61,62,63,64,65,66,67,68,69,70,71,72,73] fun T272 Cj=>rS (PK U)<|RD Cj 4 U<|N1 41<|NO U U [42,43,44,45,46,47,48,49,50,51,52,53,54,55,56,57,58,59,60,61,62,63,64,65,66,67,68,69,70,71,72,73] fun T273 Ck=>rS (MV U)<|RD Ck 4 U<|N1 42<|NO U U [43,44,45,46,47,48,49,50,51,52,53,54,55,56,57,58,59,60,61,62,63,64,65,66,67,68,69,70,71,72,73] fun T274 Cl=>rS (LW 7 U b_ U U)<|RD Cl 4 U<|N1 43<|NO U U [44,45,46,47,48,49,50,51,52,53,54,55,56,57,58,59,60,61,62,63,64,65,66,67,68,69,70,71,72,73] fun T275 Cm=>?_
 refine rS (CL (zx 2 516 516 jO D K J E L F M G N H O R Fd P (by exact At)) (fq 19 U U<|aq (ag (n:=aH.an.aN.length) 8 U (by rw [List.length_map]; rfl))<|aq (ag (n:=aH.an.aj.length) 9 U (gE Ag))<|aq (dy 10 U gZ)<|aq (ag (n:=aH.an.ae.length) 11 U (by rw [List.length_map]; rfl))<|aq (ag (n:=aH.aK.length) 12 U (by rw [List.length_map]; rfl))<|aq (ag (n:=aH.bL.length) 13 U (by rw [List.length_map]; rfl))<|aq (ag (n:=(fz aH.ar 0 2 (aa.mk 2590 2599)).length) 14 U (eL Ab.1))<|aq (gr 15 U Ab)<|aJ) U) ?_
 refine RD Cm 4 U<|N1 44<|NO U U [45,46,47,48,49,50,51,52,53,54,55,56,57,58,59,60,61,62,63,64,65,66,67,68,69,70,71,72,73] fun T276 Cn=>rS (PK U)<|RD Cn 4 U<|N1 45<|NO U U [46,47,48,49,50,51,52,53,54,55,56,57,58,59,60,61,62,63,64,65,66,67,68,69,70,71,72,73] fun T277 Co=>rS (MV U)<|RD Co 4 U<|N1 46<|NO U U [47,48,49,50,51,52,53,54,55,56,57,58,59,60,61,62,63,64,65,66,67,68,69,70,71,72,73] fun T278 Cp=>bZ (t:=83) U (aQ fun Ew=>?_) (aP fun Ew=>?_)
 ·exact absurd (Kx) Ew
 refine rS (MV U)<|RD Cp 4 U<|N1 47<|NO U U [48,49,50,51,52,53,54,55,56,57,58,59,60,61,62,63,64,65,66,67,68,69,70,71,72,73] fun T279 Cq=>rS (BI U mq)<|RD Cq 4 U<|N1 48<|NO U U [49,50,51,52,53,54,55,56,57,58,59,60,61,62,63,64,65,66,67,68,69,70,71,72,73] fun T280 Cr=>rS (PK U)<|RD Cr 4 U<|N1 49<|NO U U [50,51,52,53,54,55,56,57,58,59,60,61,62,63,64,65,66,67,68,69,70,71,72,73] fun T281 Cs=>rS (MV U)<|RD Cs 4 U ?_
 refine wG (V:=Nat×Nat×Nat) (fun (Fb,W,j)=>True) (fun (Fb,W,j)=>[(9,(vS X ((ek aH 0 2 (aa.mk 2590 2599)).length) Y)),(10,(vI (fJ aH 0 2 (aa.mk 2590 2599)))),(71,(vS (some ⟨B,0,none⟩) 3 3)),(87,(vB true)),(88,(vS AA ((cP jO).length) AO)),(89,(vS (some ⟨Fb,0,none⟩) 2 2)),(90,(vS (some ⟨W,0,none⟩) 1 1)),(91,(vS (some ⟨j,0,none⟩) 2 2))]) (fun (Fb,W,j)=>[(bU j 32 [(vS (some ⟨Fb,0,none⟩) 2 2),(vS (some ⟨W,0,none⟩) 1 1)]),(bU W 3 [(vI 2)]),(bU Fb 3 [(vI 0),(vI 1)]),(bu (aU p7 [([0,1,2]:List Int)] [((some ⟨B,0,none⟩),3)])),(own (some ⟨c,0,none⟩) 1 32 1 (List.zipWith lu [([0,1,2]:List Int)] [((some ⟨B,0,none⟩),3)])),(bU b 3 [(vI 2),(vI 3)]),(bU a 3 [(vI 1),(vI 2)]),(own X Y 3 1 ((ek aH 0 2 (aa.mk 2590 2599)).map iC)),(own AA AO 32 1 (List.zipWith lu (cP jO) T)),(bu (aU p7 (cP jO) T)),(bU AR 35 (cm.cells (cm.mk (cb.mk (bD.mk (bp.mk D aH.an.aN.length K)) aH.an.gT (bp.mk E aH.an.aj.length L) (bp.mk F aH.an.ae.length M) aH.an.cu aH.an.eM aH.an.cQ) (bp.mk G aH.aK.length N) (bp.mk H aH.bL.length O) aH.ik (bp.mk Fd ((fz aH.ar 0 2 (aa.mk 2590 2599)).length) P)))),(own D K 114 9 (aH.an.aN.map al.cells)),(own E L 119 2 (List.zipWith av.cells aH.an.aj J)),(bu (aU av.owns aH.an.aj J)),(own F M 121 4 (aH.an.ae.map bB.cells)),(own G N 3 1 (aH.aK.map iC)),(own H O 3 1 (aH.bL.map iC)),(own Fd P 46 1 (List.zipWith cJ (fz aH.ar 0 2 (aa.mk 2590 2599)) R)),(bu (aU iA (fz aH.ar 0 2 (aa.mk 2590 2599)) R)),(own AP AQ 32 1 (List.zipWith lu (cP aH) S)),(bu (aU p7 (cP aH) S)),(bU AV 40 (aa.cells (dA aH 0 0))),(rd eJ 3 2 dJ).ro]) 20 [54,55,56,57,58,59,60,61,62,63,64,65,66,67,68,69,70,71,72,73] (fun hJ=>?_) ?_
 ·refine iQ [50,51,52] kr (eI ?_<|eI ?_<|eI ?_<|kQ)
  ·refine NO U U [51,52,53,54,55,56,57,58,59,60,61,62,63,64,65,66,67,68,69,70,71,72,73] fun T285 Ct=>bZ (t:=87) U (aQ fun AW=>?_) (aP fun AW=>?_)
   ·exact absurd (wZ) AW
   refine rS (MV U)<|RD Ct 4 U<|iQ [51,52] kr (eI ?_<|eI ?_<|kQ)
   rotate_left 1
   ·refine NO U U [51,53,54,55,56,57,58,59,60,61,62,63,64,65,66,67,68,69,70,71,72,73] fun T292 Cx=>cV (xs:=[.const (vI 2)]) (cs:=[(vI 2)]) U cv ja U U U U (by simp [Value.cells]) U U fun Al=>RD Cx 5 U<|N1 51<|NO U U [53,54,55,56,57,58,59,60,61,62,63,64,65,66,67,68,69,70,71,72,73] fun T294 Cy=>cV (xs:=[.const (vI 0),.const (vI 1)]) (cs:=[(vI 0),(vI 1)]) U cv ja U U U U (by simp [Value.cells]) U U fun Am=>RD Cy 6 U<|N1 53<|NO U U [54,55,56,57,58,59,60,61,62,63,64,65,66,67,68,69,70,71,72,73] fun T296 Cz=>cV (xs:=[.tmp 89,.tmp 90]) (cs:=[(vS (some ⟨Am,0,none⟩) 2 2),(vS (some ⟨Al,0,none⟩) 1 1)]) U pg vu U U U U (by simp [Value.cells]) U U fun EG=>RD Cz 7 U ?_
    exact jI hJ (Am,Al,EG) trivial [0,2,1,3,4,5,6,7,8,9,10,11,12,13,14,15,16,17,18,19,20,21,22] U U U
   refine NO U U [52,53,54,55,56,57,58,59,60,61,62,63,64,65,66,67,68,69,70,71,72,73] fun T286 Cu=>cV (xs:=[.const (vI 0),.const (vI 1)]) (cs:=[(vI 0),(vI 1)]) U cv ja U U U U (by simp [Value.cells]) U U fun Aj=>RD Cu 5 U<|N1 52<|NO U U [53,54,55,56,57,58,59,60,61,62,63,64,65,66,67,68,69,70,71,72,73] fun T288 Cv=>cV (xs:=[.const (vI 2)]) (cs:=[(vI 2)]) U cv ja U U U U (by simp [Value.cells]) U U fun Ak=>RD Cv 6 U<|N1 53<|NO U U [54,55,56,57,58,59,60,61,62,63,64,65,66,67,68,69,70,71,72,73] fun T290 Cw=>cV (xs:=[.tmp 89,.tmp 90]) (cs:=[(vS (some ⟨Aj,0,none⟩) 2 2),(vS (some ⟨Ak,0,none⟩) 1 1)]) U pg vu U U U U (by simp [Value.cells]) U U fun EF=>RD Cw 7 U ?_
   exact jI hJ (Aj,Ak,EF) trivial [0,1,2,3,4,5,6,7,8,9,10,11,12,13,14,15,16,17,18,19,20,21,22] U U U
  ·refine NO U U [50,52,53,54,55,56,57,58,59,60,61,62,63,64,65,66,67,68,69,70,71,72,73] fun T298 C0=>bZ (t:=87) U (aQ fun AW=>?_) (aP fun AW=>?_)
   ·exact absurd (wZ) AW
   refine cV (xs:=[.const (vI 0),.const (vI 1)]) (cs:=[(vI 0),(vI 1)]) U cv ja U U U U (by simp [Value.cells]) U U fun AS=>RD C0 5 U<|iQ [50,52] kr (eI ?_<|eI ?_<|kQ)
   ·refine NO U U [52,53,54,55,56,57,58,59,60,61,62,63,64,65,66,67,68,69,70,71,72,73] fun T300 C2=>rS (MV U)<|RD C2 5 U<|N1 52<|NO U U [53,54,55,56,57,58,59,60,61,62,63,64,65,66,67,68,69,70,71,72,73] fun T301 C3=>cV (xs:=[.const (vI 2)]) (cs:=[(vI 2)]) U cv ja U U U U (by simp [Value.cells]) U U fun An=>RD C3 6 U<|N1 53<|NO U U [54,55,56,57,58,59,60,61,62,63,64,65,66,67,68,69,70,71,72,73] fun T303 C4=>cV (xs:=[.tmp 89,.tmp 90]) (cs:=[(vS (some ⟨AS,0,none⟩) 2 2),(vS (some ⟨An,0,none⟩) 1 1)]) U pg vu U U U U (by simp [Value.cells]) U U fun EH=>RD C4 7 U ?_
    exact jI hJ (AS,An,EH) trivial [0,1,2,3,4,5,6,7,8,9,10,11,12,13,14,15,16,17,18,19,20,21,22] U U U
   refine NO U U [50,53,54,55,56,57,58,59,60,61,62,63,64,65,66,67,68,69,70,71,72,73] fun T305 C5=>cV (xs:=[.const (vI 2)]) (cs:=[(vI 2)]) U cv ja U U U U (by simp [Value.cells]) U U fun AY=>RD C5 6 U<|iQ [50,53] kr (eI ?_<|eI ?_<|kQ)
   rotate_left 1
   ·refine NO U U [50,54,55,56,57,58,59,60,61,62,63,64,65,66,67,68,69,70,71,72,73] fun T310 C8=>cV (xs:=[.tmp 89,.tmp 90]) (cs:=[(vS (some ⟨AS,0,none⟩) 2 2),(vS (some ⟨AY,0,none⟩) 1 1)]) U pg vu U U U U (by simp [Value.cells]) U U fun EJ=>RD C8 7 U<|N1 50<|NO U U [54,55,56,57,58,59,60,61,62,63,64,65,66,67,68,69,70,71,72,73] fun T312 C9=>rS (MV U)<|RD C9 7 U ?_
    exact jI hJ (AS,AY,EJ) trivial [0,1,2,3,4,5,6,7,8,9,10,11,12,13,14,15,16,17,18,19,20,21,22] U U U
   refine NO U U [53,54,55,56,57,58,59,60,61,62,63,64,65,66,67,68,69,70,71,72,73] fun T307 C6=>rS (MV U)<|RD C6 6 U<|N1 53<|NO U U [54,55,56,57,58,59,60,61,62,63,64,65,66,67,68,69,70,71,72,73] fun T308 C7=>cV (xs:=[.tmp 89,.tmp 90]) (cs:=[(vS (some ⟨AS,0,none⟩) 2 2),(vS (some ⟨AY,0,none⟩) 1 1)]) U pg vu U U U U (by simp [Value.cells]) U U fun EI=>RD C7 7 U ?_
   exact jI hJ (AS,AY,EI) trivial [0,1,2,3,4,5,6,7,8,9,10,11,12,13,14,15,16,17,18,19,20,21,22] U U U
  refine NO U U [50,51,53,54,55,56,57,58,59,60,61,62,63,64,65,66,67,68,69,70,71,72,73] fun T313 C_=>bZ (t:=87) U (aQ fun AW=>?_) (aP fun AW=>?_)
  ·exact absurd (wZ) AW
  refine cV (xs:=[.const (vI 2)]) (cs:=[(vI 2)]) U cv ja U U U U (by simp [Value.cells]) U U fun AT=>RD C_ 5 U<|iQ [50,51] kr (eI ?_<|eI ?_<|kQ)
  ·refine NO U U [51,53,54,55,56,57,58,59,60,61,62,63,64,65,66,67,68,69,70,71,72,73] fun T315 DA=>rS (MV U)<|RD DA 5 U<|N1 51<|NO U U [53,54,55,56,57,58,59,60,61,62,63,64,65,66,67,68,69,70,71,72,73] fun T316 DB=>cV (xs:=[.const (vI 0),.const (vI 1)]) (cs:=[(vI 0),(vI 1)]) U cv ja U U U U (by simp [Value.cells]) U U fun Ao=>RD DB 6 U<|N1 53<|NO U U [54,55,56,57,58,59,60,61,62,63,64,65,66,67,68,69,70,71,72,73] fun T318 DC=>cV (xs:=[.tmp 89,.tmp 90]) (cs:=[(vS (some ⟨Ao,0,none⟩) 2 2),(vS (some ⟨AT,0,none⟩) 1 1)]) U pg vu U U U U (by simp [Value.cells]) U U fun EK=>RD DC 7 U ?_
   exact jI hJ (Ao,AT,EK) trivial [0,2,1,3,4,5,6,7,8,9,10,11,12,13,14,15,16,17,18,19,20,21,22] U U U
  refine NO U U [50,53,54,55,56,57,58,59,60,61,62,63,64,65,66,67,68,69,70,71,72,73] fun T320 DD=>cV (xs:=[.const (vI 0),.const (vI 1)]) (cs:=[(vI 0),(vI 1)]) U cv ja U U U U (by simp [Value.cells]) U U fun AZ=>RD DD 6 U<|iQ [50,53] kr (eI ?_<|eI ?_<|kQ)
  rotate_left 1
  ·refine NO U U [50,54,55,56,57,58,59,60,61,62,63,64,65,66,67,68,69,70,71,72,73] fun T325 DG=>cV (xs:=[.tmp 89,.tmp 90]) (cs:=[(vS (some ⟨AZ,0,none⟩) 2 2),(vS (some ⟨AT,0,none⟩) 1 1)]) U pg vu U U U U (by simp [Value.cells]) U U fun EM=>RD DG 7 U<|N1 50<|NO U U [54,55,56,57,58,59,60,61,62,63,64,65,66,67,68,69,70,71,72,73] fun T327 DH=>rS (MV U)<|RD DH 7 U ?_
   exact jI hJ (AZ,AT,EM) trivial [0,2,1,3,4,5,6,7,8,9,10,11,12,13,14,15,16,17,18,19,20,21,22] U U U
  refine NO U U [53,54,55,56,57,58,59,60,61,62,63,64,65,66,67,68,69,70,71,72,73] fun T322 DE=>rS (MV U)<|RD DE 6 U<|N1 53<|NO U U [54,55,56,57,58,59,60,61,62,63,64,65,66,67,68,69,70,71,72,73] fun T323 DF=>cV (xs:=[.tmp 89,.tmp 90]) (cs:=[(vS (some ⟨AZ,0,none⟩) 2 2),(vS (some ⟨AT,0,none⟩) 1 1)]) U pg vu U U U U (by simp [Value.cells]) U U fun EL=>RD DF 7 U ?_
  exact jI hJ (AZ,AT,EL) trivial [0,2,1,3,4,5,6,7,8,9,10,11,12,13,14,15,16,17,18,19,20,21,22] U U U
 rintro ⟨Fb,W,j⟩-
 try dsimp only
 refine N1 54<|NO U U [55,56,57,58,59,60,61,62,63,64,65,66,67,68,69,70,71,72,73] fun T328 DI=>?_
 refine dQ (es:=(([0,1]:List Int).map iC)) (C':=[_,_,(own (some ⟨Fb,0,none⟩) 2 3 1 (([0,1]:List Int).map iC)),_,_,_,_,_,_,_,_,_,_,_,_,_,_,_,_,_,_,_,_]) 2 U (mP bE _) U (by show _≤maxLen; exact Nat.le_trans (m:=10) (show (2:Nat)≤10 by decide) dc) U ?_
 refine dQ (es:=(([2]:List Int).map iC)) (C':=[_,(own (some ⟨W,0,none⟩) 1 3 1 (([2]:List Int).map iC)),_,_,_,_,_,_,_,_,_,_,_,_,_,_,_,_,_,_,_,_,_]) 1 U (mP bE _) U (by show _≤maxLen; exact Nat.le_trans (m:=10) (show (1:Nat)≤10 by decide) dc) U ?_
 refine dQ (es:=(List.zipWith lu [([0,1]:List Int),([2]:List Int)] [((some ⟨Fb,0,none⟩),2),((some ⟨W,0,none⟩),1)])) (C':=[(own (some ⟨j,0,none⟩) 2 32 1 (List.zipWith lu [([0,1]:List Int),([2]:List Int)] [((some ⟨Fb,0,none⟩),2),((some ⟨W,0,none⟩),1)])),_,_,_,_,_,_,_,_,_,_,_,_,_,_,_,_,_,_,_,_,_,_]) 0 U (oZ KX) U (by show _≤maxLen; exact Nat.le_trans (m:=10) (show (2:Nat)≤10 by decide) dc) U ?_
 refine xW (C1:=[(own (some ⟨j,0,none⟩) 2 32 1 (List.zipWith lu [([0,1]:List Int),([2]:List Int)] [((some ⟨Fb,0,none⟩),2),((some ⟨W,0,none⟩),1)])),(bu (aU p7 [([0,1,2]:List Int)] [((some ⟨B,0,none⟩),3)])),(own (some ⟨c,0,none⟩) 1 32 1 (List.zipWith lu [([0,1,2]:List Int)] [((some ⟨B,0,none⟩),3)])),(bU b 3 [(vI 2),(vI 3)]),(bU a 3 [(vI 1),(vI 2)]),(own X Y 3 1 ((ek aH 0 2 (aa.mk 2590 2599)).map iC)),(own AA AO 32 1 (List.zipWith lu (cP jO) T)),(bu (aU p7 (cP jO) T)),(bU AR 35 (cm.cells (cm.mk (cb.mk (bD.mk (bp.mk D aH.an.aN.length K)) aH.an.gT (bp.mk E aH.an.aj.length L) (bp.mk F aH.an.ae.length M) aH.an.cu aH.an.eM aH.an.cQ) (bp.mk G aH.aK.length N) (bp.mk H aH.bL.length O) aH.ik (bp.mk Fd ((fz aH.ar 0 2 (aa.mk 2590 2599)).length) P)))),(own D K 114 9 (aH.an.aN.map al.cells)),(own E L 119 2 (List.zipWith av.cells aH.an.aj J)),(bu (aU av.owns aH.an.aj J)),(own F M 121 4 (aH.an.ae.map bB.cells)),(own G N 3 1 (aH.aK.map iC)),(own H O 3 1 (aH.bL.map iC)),(own Fd P 46 1 (List.zipWith cJ (fz aH.ar 0 2 (aa.mk 2590 2599)) R)),(bu (aU iA (fz aH.ar 0 2 (aa.mk 2590 2599)) R)),(own AP AQ 32 1 (List.zipWith lu (cP aH) S)),(bu (aU p7 (cP aH) S)),(bU AV 40 (aa.cells (dA aH 0 0))),(rd eJ 3 2 dJ)]) (aU p7 [([0,1]:List Int),([2]:List Int)] [((some ⟨Fb,0,none⟩),2),((some ⟨W,0,none⟩),1)]) [2,1,0,3,4,5,6,7,8,9,10,11,12,13,14,15,16,17,18,19,20,21,22] U U<|rS (CL (vj (cP jO) ([([0,1]:List Int),([2]:List Int)]) T AA AO ([((some ⟨Fb,0,none⟩),2),((some ⟨W,0,none⟩),1)]) (some ⟨j,0,none⟩) 2 (by first|exact Ah.1|exact Aa.1) dc (by first|exact Ah.2|exact Aa.2) dc (by exact As) (by rfl)) (aq (ag (n:=(cP jO).length) 7 U (k6 As))<|aq (dy 8 U Fp)<|aq (ag (n:=([([0,1]:List Int),([2]:List Int)]).length) 1 U sm)<|aq (dy 0 U Fp)<|aJ) U)<|RD DI 6 U<|N1 55<|NO U U [56,57,58,59,60,61,62,63,64,65,66,67,68,69,70,71,72,73] fun T329 DJ=>rS (PK U)<|RD DJ 6 U<|N1 56<|NO U U [57,58,59,60,61,62,63,64,65,66,67,68,69,70,71,72,73] fun T330 DK=>rS (MV U)<|RD DK 6 U<|N1 57<|NO U U [58,59,60,61,62,63,64,65,66,67,68,69,70,71,72,73] fun T331 DL=>bZ (t:=94) U (aQ fun Ex=>?_) (aP fun Ex=>?_)
 ·exact absurd (I5) Ex
 refine rS (MV U)<|RD DL 6 U<|N1 58<|NO U U [59,60,61,62,63,64,65,66,67,68,69,70,71,72,73] fun T332 DM=>rS (BI U mq)<|RD DM 6 U<|N1 59<|NO U U [60,61,62,63,64,65,66,67,68,69,70,71,72,73] fun T333 DN=>rS (PK U)<|RD DN 6 U<|N1 60<|NO U U [61,62,63,64,65,66,67,68,69,70,71,72,73] fun T334 DO=>rS (MV U)<|RD DO 6 U ?_
 refine wG (V:=Nat) (fun AU=>True) (fun AU=>[(71,(vS (some ⟨B,0,none⟩) 3 3)),(89,(vS (some ⟨Fb,0,none⟩) 2 2)),(90,(vS (some ⟨W,0,none⟩) 1 1)),(98,(vB true)),(99,(vS X ((ek aH 0 2 (aa.mk 2590 2599)).length) Y)),(100,(vS (some ⟨AU,0,none⟩) 1 1))]) (fun AU=>[(bU AU 3 [(vI 2)]),(bu (aU p7 [([0,1]:List Int),([2]:List Int)] [((some ⟨Fb,0,none⟩),2),((some ⟨W,0,none⟩),1)])),(own (some ⟨j,0,none⟩) 2 32 1 (List.zipWith lu [([0,1]:List Int),([2]:List Int)] [((some ⟨Fb,0,none⟩),2),((some ⟨W,0,none⟩),1)])),(bu (aU p7 [([0,1,2]:List Int)] [((some ⟨B,0,none⟩),3)])),(own (some ⟨c,0,none⟩) 1 32 1 (List.zipWith lu [([0,1,2]:List Int)] [((some ⟨B,0,none⟩),3)])),(bU b 3 [(vI 2),(vI 3)]),(bU a 3 [(vI 1),(vI 2)]),(own X Y 3 1 ((ek aH 0 2 (aa.mk 2590 2599)).map iC)),(own AA AO 32 1 (List.zipWith lu (cP jO) T)),(bu (aU p7 (cP jO) T)),(bU AR 35 (cm.cells (cm.mk (cb.mk (bD.mk (bp.mk D aH.an.aN.length K)) aH.an.gT (bp.mk E aH.an.aj.length L) (bp.mk F aH.an.ae.length M) aH.an.cu aH.an.eM aH.an.cQ) (bp.mk G aH.aK.length N) (bp.mk H aH.bL.length O) aH.ik (bp.mk Fd ((fz aH.ar 0 2 (aa.mk 2590 2599)).length) P)))),(own D K 114 9 (aH.an.aN.map al.cells)),(own E L 119 2 (List.zipWith av.cells aH.an.aj J)),(bu (aU av.owns aH.an.aj J)),(own F M 121 4 (aH.an.ae.map bB.cells)),(own G N 3 1 (aH.aK.map iC)),(own H O 3 1 (aH.bL.map iC)),(own Fd P 46 1 (List.zipWith cJ (fz aH.ar 0 2 (aa.mk 2590 2599)) R)),(bu (aU iA (fz aH.ar 0 2 (aa.mk 2590 2599)) R)),(own AP AQ 32 1 (List.zipWith lu (cP aH) S)),(bu (aU p7 (cP aH) S)),(bU AV 40 (aa.cells (dA aH 0 0))),(rd eJ 3 2 dJ).ro]) 11 [63,64,65,66,67,68,69,70,71,72,73] (fun hJ=>?_) ?_
 ·refine iQ [61,62] kr (eI ?_<|eI ?_<|kQ)
  rotate_left 1
  ·refine NO U U [61,63,64,65,66,67,68,69,70,71,72,73] fun T339 DR=>bZ (t:=98) U (aQ fun Af=>?_) (aP fun Af=>?_)
   ·exact absurd (Bj) Af
   refine cV (xs:=[.const (vI 2)]) (cs:=[(vI 2)]) U cv ja U U U U (by simp [Value.cells]) U U fun EO=>RD DR 7 U<|N1 61<|NO U U [63,64,65,66,67,68,69,70,71,72,73] fun T341 DS=>rS (MV U)<|RD DS 7 U ?_
   exact jI hJ EO trivial [0,1,2,3,4,5,6,7,8,9,10,11,12,13,14,15,16,17,18,19,20,21,22] U U U
  refine NO U U [62,63,64,65,66,67,68,69,70,71,72,73] fun T336 DP=>bZ (t:=98) U (aQ fun Af=>?_) (aP fun Af=>?_)
  ·exact absurd (Bj) Af
  refine rS (MV U)<|RD DP 6 U<|N1 62<|NO U U [63,64,65,66,67,68,69,70,71,72,73] fun T337 DQ=>cV (xs:=[.const (vI 2)]) (cs:=[(vI 2)]) U cv ja U U U U (by simp [Value.cells]) U U fun EN=>RD DQ 7 U ?_
  exact jI hJ EN trivial [0,1,2,3,4,5,6,7,8,9,10,11,12,13,14,15,16,17,18,19,20,21,22] U U U
 rintro AU-
 try dsimp only
 refine N1 63<|NO U U [64,65,66,67,68,69,70,71,72,73] fun T342 DT=>rS (CL (oc (ek aH 0 2 (aa.mk 2590 2599)) X Y ([2]) (some ⟨AU,0,none⟩) 1 om dc) (aq (ag (n:=(ek aH 0 2 (aa.mk 2590 2599)).length) 7 U sm)<|aq (aZ 0 U U (by simp [bE]) U)<|aJ) U)<|RD DT 7 U<|N1 64<|NO U U [65,66,67,68,69,70,71,72,73] fun T343 DU=>rS (PK U)<|RD DU 7 U<|N1 65<|NO U U [66,67,68,69,70,71,72,73] fun T344 DV=>rS (MV U)<|RD DV 7 U<|N1 66<|NO U U [67,68,69,70,71,72,73] fun T345 DW=>bZ (t:=103) U (aQ fun Ap=>?_) (aP fun Ap=>?_)
 ·exact absurd (Mw) Ap
 refine cV (xs:=[.const (vI 0),.const (vI 2),.const (vI 1)]) (cs:=[(vI 0),(vI 2),(vI 1)]) U cv ja U U U U (by simp [Value.cells]) U U fun EP=>RD DW 8 U<|N1 67<|NO U U [68,69,70,71,72,73] fun T347 DX=>rS (CL (yQ 1 ([0,2,1]) (some ⟨EP,0,none⟩) 3 dc) (fq 23 U U<|aq (aZ 0 U U (by simp [bE]) U)<|aJ) U)<|RD DX 8 U<|N1 68<|NO U U [69,70,71,72,73] fun T348 DY=>rS (PK U)<|RD DY 8 U<|N1 69<|NO U U [70,71,72,73] fun T349 DZ=>rS (MV U)<|RD DZ 8 U<|N1 70<|NO U U [71,72,73] fun T350 Da=>bZ (t:=107) U (aQ fun Aq=>?_) (aP fun Aq=>?_)
 ·exact absurd (Kr) Aq
 refine cV (xs:=[.const (vI 0),.const (vI 1),.const (vI 2)]) (cs:=[(vI 0),(vI 1),(vI 2)]) U cv ja U U U U (by simp [Value.cells]) U U fun EQ=>RD Da 9 U<|Ji [109,110,0] kr kr U _ U U (aI [9,10,11,12,13,14,15,16,17,18,19,20,21,22,23,24])<|dS (CL (yQ 2 ([0,1,2]) (some ⟨EQ,0,none⟩) 3 dc) (fq 24 U U<|aq (aZ 0 U U (by simp [bE]) U)<|aJ) U)<|dP 2 [] I ?_
 refine cH<|RK B3<|ao<|Q1 hQ U U U ?_
 exact cB (fI Kn)
end
section
open Go.RowKit
theorem B4 (r:bT) (kA:OA) (kC:Nat) (az:List RA) (cA:OA) (cC:Nat) (bA:OA) (bC:Nat) (slA:OA) (slC:Nat) (drA:OA) (drC:Nat) (ha:List cM) (heA:OA) (heC:Nat) (hraw:ru r az ha):
 dV Tryz.prog 52 [(vA (cm.cells (oD r kA kC cA cC bA bC slA slC drA drC heA heC)))] [(rd kA r.an.aN.length 9 (r.an.aN.map al.cells)),(rd cA r.an.aj.length 2 (List.zipWith av.cells r.an.aj az)),(e7 (aU av.g0 r.an.aj az)),(rd bA r.an.ae.length 4 (r.an.ae.map bB.cells)),(rd slA r.aK.length 1 (r.aK.map iC)),(rd drA r.bL.length 1 (r.bL.map iC)),(rd heA r.ar.length 1 (List.zipWith cJ r.ar ha)),(e7 (aU im r.ar ha))] (vB (decide (ov r))):=by
 have AA:=hraw.line
 have AE:=hraw.iN
 have AG:=hraw.has
 have AD:=hraw.iM
 have AB:=hraw.draw
 refine bx kr Tryz.func52 U U fun w0 Q hQ hN=>?_
 try dsimp only
 refine WS fun _ l=>fQ U fun b2=>a_ 1 U<|RK l<|ai fun _ m=>WS fun _ H=>a_ 1 U<|rS (LP (cb.cells (ly r.an kA kC cA cC bA bC)) 0 U b_ U U U)<|rS (CL (LB r.an kA kC az cA cC bA bC asm) (bf [1,2,3,4]) U)<|rP 1 [] I ?_
 refine cN (t:=8) U (aP fun k=>?_) (aQ fun k=>?_)
 ·refine a_ 17 U<|RK H<|aO U<|WS fun _ n=>rP 1 [] I ?_
  refine RK n<|ao<|Q1 hQ U U U ?_
  exact cB (fI (pK (.inl k))).symm
 refine rP 6 [] (mc 0 U I) ?_
 refine cN (t:=14) U (aP fun AJ=>?_) (aQ fun AJ=>?_)
 ·refine a_ 11 U<|RK H<|aO U<|WS fun _ o=>rP 1 [] I ?_
  refine RK o<|ao<|Q1 hQ U U U ?_
  exact cB (fI (pK (.inr om))).symm
 refine rP 6 [] (mc 0 U I) ?_
 refine cN (t:=20) U (aP fun f=>?_) (aQ fun f=>?_)
 ·refine a_ 5 U<|RK H<|aO U<|WS fun _ p=>rP 1 [] I ?_
  refine RK p<|ao<|Q1 hQ U U U ?_
  exact cB (fI (pK (.inr om))).symm
 refine rP 5 [] (mc 0 U I) ?_
 refine RK H<|cy U (aP fun h=>?_) (aQ fun h=>?_)
 ·refine WS fun _ q=>rP 1 [] I ?_
  refine RK q<|ao<|Q1 hQ U U U ?_
  exact cB (fI (pK (.inr om))).symm
 refine WK m<|ai fun _ s=>WS fun _ N=>rP 1 [] I ?_
 refine RK N<|ax ?_
 have B:(0≤r.ar.length)∧(lE r 0):=by exact ⟨Nat.zero_le _,Cu⟩
 refine bK (ι:={z:Nat // (z≤r.ar.length)∧(lE r z)}) [1] [0,1,2,3,4,5,6,7,8] U U (fun z=>[(3,(vI (z.1:Int)))]) (fun z=>[]) (fun _=>rfl) (fun _=>rfl) (fun z=>r.ar.length-z.1) ⟨0,B⟩ (aS U) (aI [0,1,2,3,4,5,6,7,8]) ?_
 clear B
 rintro ⟨i,⟨x,F⟩⟩ J11 L
 try dsimp only
 refine ai fun _ O=>WS fun _ P=>rP 5 [] (mc 0 U I) ?_
 refine RK P<|bM U (aQ fun AJ=>?_) (aP fun AJ=>?_)
 ·refine bw<|ab<|ab<|ay<|KK s<|WS fun _ b=>rP 1 [] I ?_
  refine RK b<|ao<|Q1 hQ U U U ?_
  exact cB (cd (GP k om F om)).symm
 refine WK O<|ai fun _ R=>ax<|ai fun _ S=>WS fun _ T=>rP 3 [] (mc 0 U I) ?_
 obtain ⟨ht,D⟩:=aL r.ar i om
 obtain ⟨A,C⟩:=aL ha i om
 have E:(List.zipWith cJ r.ar ha)[i]? =some (cJ ht A):=dM D C
 refine rS (IA i U (aD 7 U) rF dc om om)<|rS (gp i 0 (vS A.1.1 ht.length A.1.2) U b_ (aD 7 U) E U dc U) ?_
 obtain ⟨AF,AC,w⟩:=hraw.lq _ _ _ D C
 refine rP 2 [] I ?_
 refine RK T<|cy U (aP fun J=>?_) (aQ fun J=>?_)
 ·refine WS fun _ AI=>rP 1 [] I ?_
  refine RK AI<|ao<|Q1 hQ U U U ?_
  exact cB (fI (CY D J)).symm
 refine WK S<|WS fun _ V=>rP 1 [] I ?_
 refine RK V<|ax ?_
 have B:(0≤ht.length)∧(mT ht 0):=by exact ⟨Nat.zero_le _,BO⟩
 refine bK (ι:={z:Nat // (z≤ht.length)∧(mT ht z)}) [1,3] [0,1,2,3,4,5,6,7,8] U U (fun z=>[(4,(vI (z.1:Int)))]) (fun z=>[]) (fun _=>rfl) (fun _=>rfl) (fun z=>ht.length-z.1) ⟨0,B⟩ (aS U) (aI [0,1,2,3,4,5,6,7,8]) ?_
 clear B
 rintro ⟨j,⟨y,G⟩⟩ J20 M
 try dsimp only
 refine ai fun _ W=>WS fun _ X=>fy 4 [] (mc 0 U I) U<|rS (IA i U (aD 7 U) rF dc om om)<|rS (gp i 0 (vS A.1.1 ht.length A.1.2) U b_ (aD 7 U) E U dc U)<|rP 2 [] I ?_
 refine RK X<|bM U (aQ fun g=>?_) (aP fun g=>?_)
 ·refine bw<|ab<|ab<|ay<|aG<|KK R<|ak<|rP 3 [] I ?_
  refine aF ?_
  have e:(vI (((i+1):Nat):Int))=(vI ((i:Int)+1)):=by exact cI om
  refine aR (L ⟨(i+1),⟨om,Bo F D (DE J G om)⟩⟩ _ _ _ U os (dw.cons U<|bo U e<|dw.nil _) (aI [0,1,2,3,4,5,6,7,8]))
 refine WK W<|ai fun _ Y=>ax<|WS fun _ Z=>fy 3 [] (mc 0 U I) U<|rS (IA i U (aD 7 U) rF dc om om)<|rS (gp i 0 (vS A.1.1 ht.length A.1.2) U b_ (aD 7 U) E U dc U)<|rP 1 [] I ?_
 obtain ⟨d,hd⟩:=aL ht j om
 obtain ⟨da,u⟩:=aL A.2 j om
 have v:(List.zipWith aw.cells ht A.2)[j]? =some (aw.cells d da):=dM hd u
 refine rS (IA j U (show i_ _ (rd A.1.1 ht.length 7 (List.zipWith aw.cells ht A.2)).holds from (dx 8 U (bW D C cf))) wK dc om om)<|rS (nN ((j*7)+4) U (show i_ _ (rd A.1.1 ht.length 7 (List.zipWith aw.cells ht A.2)).holds from (dx 8 U (bW D C cf))) (Nat.mul_pos om dc) fx U)<|rS (nN (((j*7)+4)+2) U (show i_ _ (rd A.1.1 ht.length 7 (List.zipWith aw.cells ht A.2)).holds from (dx 8 U (bW D C cf))) (Nat.mul_pos om dc) fx U)<|rS (gp j 6 (vS da.1 d.ct.ah.length da.2) U b_ (show i_ _ (rd A.1.1 ht.length 7 (List.zipWith aw.cells ht A.2)).holds from (dx 8 U (bW D C cf))) v U dc U) ?_
 have AH:=w d (aT hd)
 refine rP 2 [] I ?_
 refine RK Z<|bM U (aQ fun K=>?_) (aP fun K=>?_)
 ·refine bV<|aG<|KK Y<|ak<|rP 3 [] I ?_
  refine aF ?_
  have c:(vI (((j+1):Nat):Int))=(vI ((j:Int)+1)):=by exact cI om
  refine aR (M ⟨(j+1),⟨om,BQ G hd K⟩⟩ _ _ _ U os (dw.cons U<|dw.cons U<|bo U c<|dw.nil _) (aI [0,1,2,3,4,5,6,7,8]))
 refine WS fun _ a=>rP 1 [] I ?_
 refine RK a<|ao<|Q1 hQ U U U ?_
 exact cB (fI (ET D hd K)).symm
end
section
open Go.RowKit
theorem ES (l:aX) (kA:OA) (kC:Nat) (az:List RA) (cA:OA) (cC:Nat) (bA:OA) (bC:Nat) (d:aw) (sgA:OA) (sgC:Nat) (hin:eu l az) (hle:dp l=0) (hsl:d.ct.ah.length≤1000000) (hk:d.Out=true):
 dV Tryz.prog 138 [(vA (cb.cells (ly l kA kC cA cC bA bC))),(vA (bq.cells (bq.mk d.Out d.eK d.Time (mA d.ct sgA sgC))))] [(rd kA l.aN.length 9 (l.aN.map al.cells)),(rd cA l.aj.length 2 (List.zipWith av.cells l.aj az)),(e7 (aU av.g0 l.aj az)),(rd bA l.ae.length 4 (l.ae.map bB.cells)),(rd sgA d.ct.ah.length 2 (d.ct.ah.map aM.cells))] (vT [(vA (aa.cells (oU l d))),(vB (decide (g7 l d)))]):=by
 have K:=hin.sM
 have J:=hin.sO
 have H:=hin.oq
 have AA:=hin.sN
 refine bx kr Tryz.func138 U U fun O Q hQ hN=>?_
 try dsimp only
 refine WS fun _ B=>fQ U fun L=>fQ U fun M=>AL U cZ fun N=>a_ 1 U<|RK B<|ai fun _ E=>ax<|WS fun _ C=>rP 3 [] (mc 1 U I) ?_
 refine RK C<|bM U (fun G=>?_) (fun G=>?_)
 ·exact absurd ((hk).symm.trans G) dc
 refine WS fun _ A=>rS (SX (bh (xs:=[]) (cs:=(aa.cells (aa.mk 0 0))) U U (bg gn U)) U U)<|rP 4 [] (mc 1 U I) ?_
 refine bZ (t:=15) U (fun D=>?_) (fun D=>?_)
 ·rw [Bool.not_eq_false'] at D
  refine a_ 10 U<|fO U cp U<|rP 1 [] I ?_
  refine RK A<|ao<|lp hQ [0] (mc 0 U I) U ?_
  clear hQ hN A C E B
  rw [zS hk]
  simp only [qh hk]
  refine congrArg (fun z=>Value.tuple #[_,vB z]) ?_
  first|rfl|(simp_all [dv]; done)
 rw [Bool.not_eq_true'] at D
 refine a_ 1 U<|rS (LP (aa.cells d.Time) 1 U b_ U U U)<|rS (SX (bh (xs:=[]) (cs:=(aa.cells (aa.mk 0 0))) U U (bg gn U)) U U)<|rS (BI U (tU _ _ d.Time (aa.mk 0 0)))<|rP 2 [] I ?_
 refine bZ (t:=21) U (aQ fun F=>?_) (aP fun F=>?_)
 ·refine a_ 4 U<|fO U cp U<|rP 1 [] I ?_
  refine RK A<|ao<|lp hQ [0] (mc 0 U I) U ?_
  clear hQ hN A C E B
  rw [zS hk]
  simp only [qh hk]
  refine congrArg (fun z=>Value.tuple #[_,vB z]) ?_
  first|rfl|(simp_all [dv]; done)
 refine a_ 1 U<|rS (LP (eH.cells (mA d.ct sgA sgC)) 1 U b_ U U U)<|rS (CL (FB d.ct sgA sgC) (bf [7]) U)<|a_ 1 U<|fO U cp U<|rP 1 [] I ?_
 refine RK A<|ao<|lp hQ [0] (mc 0 U I) U ?_
 clear hQ hN A C E B
 rw [zS hk]
 simp only [qh hk]
 refine congrArg (fun z=>Value.tuple #[_,vB z]) ?_
 first|rfl|(simp_all [dv]; done)
theorem Ee (l:aX) (kA:OA) (kC:Nat) (az:List RA) (cA:OA) (cC:Nat) (bA:OA) (bC:Nat) (d:aw) (sgA:OA) (sgC:Nat) (hin:eu l az) (hle:dp l=0) (hsl:d.ct.ah.length≤1000000) (hk:d.Out=false∧d.eK=true):
 dV Tryz.prog 138 [(vA (cb.cells (ly l kA kC cA cC bA bC))),(vA (bq.cells (bq.mk d.Out d.eK d.Time (mA d.ct sgA sgC))))] [(rd kA l.aN.length 9 (l.aN.map al.cells)),(rd cA l.aj.length 2 (List.zipWith av.cells l.aj az)),(e7 (aU av.g0 l.aj az)),(rd bA l.ae.length 4 (l.ae.map bB.cells)),(rd sgA d.ct.ah.length 2 (d.ct.ah.map aM.cells))] (vT [(vA (aa.cells (oU l d))),(vB (decide (g7 l d)))]):=by
 have N:=hin.sM
 have M:=hin.sO
 have K:=hin.oq
 have L:=hin.sN
 refine bx kr Tryz.func138 U U fun S Q hQ hN=>?_
 try dsimp only
 refine WS fun _ D=>fQ U fun O=>fQ U fun P=>AL U cZ fun R=>a_ 1 U<|RK D<|ai fun _ H=>ax<|WS fun _ E=>rP 3 [] (mc 1 U I) ?_
 refine RK E<|cy U (fun J=>?_) (fun J=>?_)
 ·exact absurd ((hk.1).symm.trans J) dc
 refine WS fun _ F=>rP 3 [] (mc 1 U I) ?_
 refine RK F<|bM U (fun G=>?_) (fun G=>?_)
 ·exact absurd ((hk.2).symm.trans G) dc
 refine ai fun _ B=>dD cq [10] [] [] [1,2,3,4,5,6,7] [] U U U U U<|eS U (FA 2 U fx U)<|eS U (LP (aa.cells d.Time) 0 U b_ U U U)<|eS U (FA 2 U fx U)<|eS U (LP (aa.cells d.Time) 0 U b_ U U U)<|eS U (CL (E7 d.Time) (aJ) U)<|eS U (MV U)<|rj (t:=34) U (fun A=>?_) (fun A=>?_)
 rotate_left 1
 ·replace A:=DF A
  refine eS U (OX U)<|eS U (OX U)<|eS U (OX U)<|eS U (PK U)<|eS U (AG U)<|eX U<|bX U fun T10 C=>fO U cp U<|aF (C _ _ (aI [1,2,3,4,5,6,7]) ?_)
  refine fF U<|KK B<|ao<|lp hQ [0] (mc 0 U I) U ?_
  clear hQ hN C T10 B F E H D
  rw [F0 hk]
  simp only [tW hk]
  refine congrArg (fun z=>Value.tuple #[_,vB z]) ?_
  first|rfl|(simp_all; done)
 replace A:=DT A
 refine eS U (FA 4 U fx U)<|eS U (LP (eH.cells (mA d.ct sgA sgC)) 0 U b_ U U U)<|eS U (CL (FB d.ct sgA sgC) (bf [6]) U)<|eS U (PK U)<|eS U (AG U)<|eX U<|bX U fun T9 AA=>fO U cp U<|aF (AA _ _ (aI [1,2,3,4,5,6,7]) ?_)
 refine fF U<|KK B<|ao<|lp hQ [0] (mc 0 U I) U ?_
 clear hQ hN AA T9 B F E H D
 rw [F0 hk]
 simp only [tW hk]
 refine congrArg (fun z=>Value.tuple #[_,vB z]) ?_
 first|rfl|(simp_all; done)
theorem Dv (l:aX) (kA:OA) (kC:Nat) (az:List RA) (cA:OA) (cC:Nat) (bA:OA) (bC:Nat) (d:aw) (sgA:OA) (sgC:Nat) (hin:eu l az) (hle:dp l=0) (hsl:d.ct.ah.length≤1000000) (hk:d.Out=false∧d.eK=false):
 dV Tryz.prog 138 [(vA (cb.cells (ly l kA kC cA cC bA bC))),(vA (bq.cells (bq.mk d.Out d.eK d.Time (mA d.ct sgA sgC))))] [(rd kA l.aN.length 9 (l.aN.map al.cells)),(rd cA l.aj.length 2 (List.zipWith av.cells l.aj az)),(e7 (aU av.g0 l.aj az)),(rd bA l.ae.length 4 (l.ae.map bB.cells)),(rd sgA d.ct.ah.length 2 (d.ct.ah.map aM.cells))] (vT [(vA (aa.cells (oU l d))),(vB (decide (g7 l d)))]):=by
 have O:=hin.sM
 have N:=hin.sO
 have L:=hin.oq
 have M:=hin.sN
 refine bx kr Tryz.func138 U U fun AA Q hQ hN=>?_
 try dsimp only
 refine WS fun _ E=>fQ U fun P=>fQ U fun R=>AL U cZ fun S=>a_ 1 U<|RK E<|ai fun _ F=>ax<|WS fun _ G=>rP 3 [] (mc 1 U I) ?_
 refine RK G<|cy U (fun K=>?_) (fun K=>?_)
 ·exact absurd ((hk.1).symm.trans K) dc
 refine WS fun _ H=>rP 3 [] (mc 1 U I) ?_
 refine RK H<|cy U (fun J=>?_) (fun J=>?_)
 ·exact absurd ((hk.2).symm.trans J) dc
 refine bV<|aG<|KK F<|WS fun _ AB=>fy 2 [] (mc 2 U I) U<|rS (LP (eH.cells (mA d.ct sgA sgC)) 1 U b_ U U U)<|rS (CL (QN l kA kC az cA cC bA bC d.ct sgA sgC hin hsl) (bf [3,4,5,6,7]) U)<|a_ 3 U<|AL U cZ fun T=>fO U cp U<|rP 1 [] I ?_
 refine RK AB<|ai fun _ A=>dD cq [9] [] [] [0,2,3,4,5,6,7,8] [] U U U U U<|eS U (LW 0 U b_ U U)<|eS U (MV U)<|eS U (BI U mq)<|eS U (MV U)<|rj (t:=49) U (fun B=>?_) (fun B=>?_)
 rotate_left 1
 ·replace B:=DF B
  refine eS U (OX U)<|eS U (OX U)<|eS U (OX U)<|eS U (OX U)<|eS U (PK U)<|eS U (AG U)<|eX U<|bX U fun T12 D=>t_ U cp U<|aF (D _ _ (aI [0,2,3,4,5,6,7,8]) ?_)
  refine fF U<|KK A<|ao<|lp hQ [0] (mc 1 U I) U ?_
  clear hQ hN D T12 A AB H G F E
  rw [F4 hk]
  simp only [tF hk]
  refine congrArg (fun z=>Value.tuple #[_,vB z]) ?_
  first|rfl|(simp_all [dv]; done)
 replace B:=DT B
 refine eS U (FA 2 U fx U)<|eS U (LP (aa.cells d.Time) 1 U b_ U U U)<|eS U (SX (bh (xs:=[]) (cs:=(aa.cells (aa.mk 0 0))) U U (bg gn U)) U U)<|eS U (BI U (tU _ _ d.Time (aa.mk 0 0)))<|eS U (PK U)<|eS U (AG U)<|eX U<|bX U fun T11 C=>t_ U cp U<|aF (C _ _ (aI [0,2,3,4,5,6,7,8]) ?_)
 refine fF U<|KK A<|ao<|lp hQ [0] (mc 1 U I) U ?_
 clear hQ hN C T11 A AB H G F E
 rw [F4 hk]
 simp only [tF hk]
 refine congrArg (fun z=>Value.tuple #[_,vB z]) ?_
 first|rfl|(simp_all [dv]; done)
theorem HU (l:aX) (kA:OA) (kC:Nat) (az:List RA) (cA:OA) (cC:Nat) (bA:OA) (bC:Nat) (d:aw) (sgA:OA) (sgC:Nat) (hin:eu l az) (hle:dp l=0) (hsl:d.ct.ah.length≤1000000):
 dV Tryz.prog 138 [(vA (cb.cells (ly l kA kC cA cC bA bC))),(vA (bq.cells (bq.mk d.Out d.eK d.Time (mA d.ct sgA sgC))))] [(rd kA l.aN.length 9 (l.aN.map al.cells)),(rd cA l.aj.length 2 (List.zipWith av.cells l.aj az)),(e7 (aU av.g0 l.aj az)),(rd bA l.ae.length 4 (l.ae.map bB.cells)),(rd sgA d.ct.ah.length 2 (d.ct.ah.map aM.cells))] (vT [(vA (aa.cells (oU l d))),(vB (decide (g7 l d)))]):=by
 by_cases ho:d.Out=true
 ·exact ES l kA kC az cA cC bA bC d sgA sgC hin hle hsl ho
 by_cases hf:d.eK=true
 ·exact Ee l kA kC az cA cC bA bC d sgA sgC hin hle hsl ⟨by simpa using ho,hf⟩
 ·exact Dv l kA kC az cA cC bA bC d sgA sgC hin hle hsl ⟨by simpa using ho,by simpa using hf⟩
end
section
open Go.RowKit
theorem EB (r:bT) (kA:OA) (kC:Nat) (az:List RA) (cA:OA) (cC:Nat) (bA:OA) (bC:Nat) (slA:OA) (slC:Nat) (drA:OA) (drC:Nat) (ha:List cM) (heA:OA) (heC:Nat) (hin:eW r az ha) (hle:dp r.an=0):
 lD Tryz.prog 112 [(vA (cm.cells (oD r kA kC cA cC bA bC slA slC drA drC heA heC)))] [(rd kA r.an.aN.length 9 (r.an.aN.map al.cells)),(rd cA r.an.aj.length 2 (List.zipWith av.cells r.an.aj az)),(e7 (aU av.g0 r.an.aj az)),(rd bA r.an.ae.length 4 (r.an.ae.map bB.cells)),(rd slA r.aK.length 1 (r.aK.map iC)),(rd drA r.bL.length 1 (r.bL.map iC)),(rd heA r.ar.length 1 (List.zipWith cJ r.ar ha)),(e7 (aU im r.ar ha))] (fun (x:Bool×Int×(OA)×Nat×(List RA))=>bif x.1 then (vT [(vS x.2.2.1 ((cL r).length) x.2.2.2.1),(vB true)]) else (vT [(vS none 0 0),(vB false)])) (fun (x:Bool×Int×(OA)×Nat×(List RA))=>(x.1=true→(eV r∧x.2.2.2.2.length=r.ar.length))∧(x.1=false→(x.2.1=0∧ ¬ eV r))) (fun (x:Bool×Int×(OA)×Nat×(List RA))=>bif x.1 then [(own x.2.2.1 x.2.2.2.1 82 1 (List.zipWith D7 (cL r) x.2.2.2.2)),(bu (aU Dn (cL r) x.2.2.2.2))] else []):=by
 have BO:=hin.line
 have BZ:=hin.iN
 have Ba:=hin.has
 have BU:=hin.iM
 have BS:=hin.draw
 have BV:=dB (r:=r)
 refine di kr Tryz.func112 U U fun w0 Q hQ hN=>?_
 try dsimp only
 refine WS fun _ BE=>fQ U fun b2=>a_ 2 U<|RK BE<|WS fun _ BF=>fy 4 [] (mc 0 U I) U<|RK BF<|ai fun _ BG=>WS fun _ N=>a_ 1 U<|rS (CL (oY (r.aK.length:Int) 1 5) (aJ) U)<|rP 2 [] I ?_
 refine cN (t:=19) U (bk fun A6=>?_) (bj fun A6=>?_)
 ·refine a_ 19 U<|RK N<|aO U<|WS fun _ BH=>rP 2 [] I ?_
  refine RK BH<|ao<|LX hQ (false,0,none,0,[]) [] [] I U (by rfl) U U ?_
  (exact ⟨AX,fun _=>⟨rfl,fun q=>by have S:=q.num; have q2:=q.wR; have q3:=q.nh; have q4:=q.yl; omega⟩⟩)
 refine rP 7 [] (mc 0 U I) ?_
 refine cN (t:=26) U (bk fun X=>?_) (bj fun X=>?_)
 ·refine a_ 12 U<|RK N<|aO U<|WS fun _ BI=>rP 2 [] I ?_
  refine RK BI<|ao<|LX hQ (false,0,none,0,[]) [] [] I U (by rfl) U U ?_
  (exact ⟨AX,fun _=>⟨rfl,fun q=>by have S:=q.num; have q2:=q.wR; have q3:=q.nh; have q4:=q.yl; omega⟩⟩)
 refine fy 2 [] (mc 0 U I) U<|rS (CL (oY r.ik 0 5) (aJ) U)<|rP 3 [] I ?_
 refine cN (t:=32) U (bk fun A7=>?_) (bj fun A7=>?_)
 ·refine a_ 6 U<|RK N<|aO U<|WS fun _ BJ=>rP 2 [] I ?_
  refine RK BJ<|ao<|LX hQ (false,0,none,0,[]) [] [] I U (by rfl) U U ?_
  (exact ⟨AX,fun _=>⟨rfl,fun q=>by have S:=q.num; have q2:=q.wR; have q3:=q.nh; have q4:=q.yl; omega⟩⟩)
 refine fy 3 [] (mc 0 U I) U<|rS (CL (oY (r.ar.length:Int) 1 3) (aJ) U)<|rP 2 [] I ?_
 refine RK N<|cy U (bk fun A9=>?_) (bj fun A9=>?_)
 ·refine WS fun _ BK=>rP 2 [] I ?_
  refine RK BK<|ao<|LX hQ (false,0,none,0,[]) [] [] I U (by rfl) U U ?_
  (exact ⟨AX,fun _=>⟨rfl,fun q=>by have S:=q.num; have q2:=q.wR; have q3:=q.nh; have q4:=q.yl; omega⟩⟩)
 refine WK BG<|ai fun _ o=>WS fun _ p=>rP 1 [] I ?_
 refine RK p<|ax ?_
 have A:(0≤r.aK.length)∧(wO r 0):=by exact ⟨Nat.zero_le _,II⟩
 refine bK (ι:={z:Nat // (z≤r.aK.length)∧(wO r z)}) [1,4] [0,1,2,3,4,5,6,7,8] U U (fun z=>[(5,(vI (z.1:Int)))]) (fun z=>[]) (fun _=>rfl) (fun _=>rfl) (fun z=>r.aK.length-z.1) ⟨0,A⟩ (aS U) (aI [0,1,2,3,4,5,6,7,8]) ?_
 clear A
 rintro ⟨i,⟨BN,Az⟩⟩ J12 T
 try dsimp only
 refine ai fun _ s=>WS fun _ v=>rP 3 [] I ?_
 refine RK v<|bM U (aQ fun A5=>?_) (aP fun A5=>?_)
 ·refine bw<|ab<|ab<|ay<|KK o<|WS fun _ AR=>a_ 1 U<|RK AR<|ai fun _ AS=>WS fun _ AT=>rP 1 [] I ?_
  refine RK AT<|ax<|fV 82 1<|oh ?_
  have A:(0≤r.ar.length)∧(([]:List RA).length=0)∧(j3 r 0):=by exact ⟨Nat.zero_le _,rfl,xp⟩
  refine bK (ι:={z:Nat×(List RA)×(OA)×Nat // (z.1≤r.ar.length)∧(z.2.1.length=z.1)∧(j3 r z.1)}) [1,4] [2,3,4,5,6,7,8,9,10] U U (fun z=>[(7,(vS z.1.2.2.1 ((List.zipWith B6 (gv r z.1.1) z.1.2.1).length) z.1.2.2.2)),(8,(vI (z.1.1:Int)))]) (fun z=>[(bu (aU Dn (gv r z.1.1) z.1.2.1)),(own z.1.2.2.1 z.1.2.2.2 82 1 (List.map sC (List.zipWith B6 (gv r z.1.1) z.1.2.1)))]) (fun _=>rfl) (fun _=>rfl) (fun z=>r.ar.length-z.1.1) ⟨(0,([]:List RA),none,0),A⟩ (aS U) (aI [2,3,4,5,6,7,8,9,10,0,1]) ?_
  clear A
  rintro ⟨⟨h,tz,a,c⟩,⟨P,C,F⟩⟩ J46 l
  try dsimp only at P C F
  try dsimp only
  refine ai fun _ AU=>WS fun _ AV=>rP 5 [] (mc 0 U I) ?_
  refine RK AV<|bM U (aQ fun A_=>?_) (aP fun A_=>?_)
  ·refine bw<|ab<|ab<|ay<|KK AS<|ai fun _ Al=>?_
   have BM:gv r h=cL r:=by unfold cL; rw [show h=r.ar.length by omega]
   have BP:tz.length=r.ar.length:=by omega
   rw [BM,yp,show (List.zipWith B6 (cL r) tz).length=(cL r).length from by rw [List.length_zipWith]; omega]
   have Aw:eV r:=G4 (n:=i) om om om om om Az F om
   refine ak<|rP 3 [] I ?_
   refine RK Al<|ao ?_
   refine LX hQ (true,0,a,c,tz) [10,9] [] I U (by (show List.all _ _=true; simp only [cond_true,fG,List.all_nil,wD,Bool.and_true]; rfl)) U U ?_
   exact ⟨fun _=>⟨Aw,BP⟩,Ng⟩
  refine WK AU<|ai fun _ AW=>ax<|ai fun _ AY=>WS fun _ AZ=>rP 3 [] (mc 0 U I) ?_
  obtain ⟨ht,D⟩:=aL r.ar h om
  obtain ⟨E,H⟩:=aL ha h om
  have W:(List.zipWith cJ r.ar ha)[h]? =some (cJ ht E):=dM D H
  refine rS (IA h U (aD 7 U) rF dc om om) ?_
  have Av:=hin.lq _ _ _ D H
  have BT:=Av.oq
  refine rS (gp h 0 (vS E.1.1 ht.length E.1.2) U b_ (aD 7 U) W U dc U)<|rP 3 [] I ?_
  refine RK AZ<|cy U (bk fun e=>?_) (bj fun e=>?_)
  ·refine WS fun _ Aa=>rP 2 [] I ?_
   refine RK Aa<|ao<|LX hQ (false,0,none,0,[]) [] [] I U (by rfl) U U ?_
   (exact ⟨AX,fun _=>⟨rfl,fun q=>by have S:=(q.lq ht (aT D)).1; omega⟩⟩)
  refine WK AY<|WS fun _ Ab=>a_ 1 U<|RK Ab<|ai fun _ Ac=>WS fun _ Ad=>rP 1 [] I ?_
  refine RK Ad<|ax<|fV 40 2 ?_
  have A:(0≤ht.length)∧(nX r.an ht 0):=by exact ⟨Nat.zero_le _,vg⟩
  refine bK (ι:={z:Nat×(OA)×Nat // (z.1≤ht.length)∧(nX r.an ht z.1)}) [1,4,7,8] [1,2,3,4,5,6,7,8,9,10,11] U U (fun z=>[(9,(vS z.1.2.1 (((ht.take z.1.1).map (df r.an)).length) z.1.2.2)),(10,(vI (z.1.1:Int)))]) (fun z=>[(own z.1.2.1 z.1.2.2 40 2 (((ht.take z.1.1).map (df r.an)).map aa.cells))]) (fun _=>rfl) (fun _=>rfl) (fun z=>ht.length-z.1.1) ⟨(0,none,0),A⟩ (aS U) (aI [1,2,3,4,5,6,7,8,9,10,11,0]) ?_
  clear A
  rintro ⟨⟨j,la,lc⟩,⟨R,G⟩⟩ J57 m
  try dsimp only at R G
  try dsimp only
  refine ai fun _ Ae=>WS fun _ Af=>rP 3 [] I ?_
  refine RK Af<|bM U (aQ fun BC=>?_) (aP fun BC=>?_)
  ·refine bw<|ab<|ab<|ay<|KK Ac<|ak ?_
   rw [show ((ht.take j).map (df r.an))=ht.map (df r.an) from by rw [List.take_of_length_le om]]
   refine rP 2 [] I ?_
   refine cV (xs:=[.tmp 137]) (cs:=[(vS la ((ht.map (df r.an)).length) lc)]) U MR Tc U U U U (by simp [Value.cells]) U U fun BY=>?_
   refine c_ (es2:=(List.map sC (List.zipWith B6 (gv r (h+1)) (tz++[(la,lc)])))) (m':=(List.zipWith B6 (gv r (h+1)) (tz++[(la,lc)])).length) 11 U U U Sf U U sm (aZ (es:=List.map sC [(bp.mk la ((ht.map (df r.an)).length) lc)]) 0 U U (by simp [zF]) U) (J0 _) (by rw [List.length_zipWith,kF om]; omega) (by rw [List.length_zipWith,kF om]; simp only [maxLen]; omega) (by rw [tG D C,List.map_append]; rfl) (by rw [tG D C]; simp) U fun A2 A4=>?_
   try dsimp only
   refine a_ 1 U<|aF<|aG<|KK AW<|ak<|rP 3 [] I ?_
   refine aF<|Cz (X':=aU Dn (gv r (h+1)) (tz++[(la,lc)])) 10 12 U U (BR (a:=(la,lc)) D C) ?_
   have At:(vI (((h+1):Nat):Int))=(vI ((h:Int)+1)):=by exact cI om
   refine aR (l ⟨((h+1),(tz++[(la,lc)]),A2,A4),⟨om,by simp; omega,xO F D (FR om G om)⟩⟩ _ _ _ U os (cO 3<|bo U At<|dw.nil _) (aI [2,3,4,5,6,7,8,9,10,0,11]))
  refine WK Ae<|ai fun _ Ag=>ax<|ai fun _ Ah=>dD cq [14,15] [] [] [0,1,2,3,4,5,6,7,8,9,10,11] [] U U U U U<|eS U (FA 0 U fx U)<|eS U (LP (cb.cells (ly r.an kA kC cA cC bA bC)) 0 U b_ U U U)<|eS U (FA 10 U fx U)<|eS U (L1 (vS heA r.ar.length heC) 0 U b_ U U)<|eS U (MV U)<|eS U (IA h U (aD 7 U) rF dc om om)<|eS U (gp h 0 (vS E.1.1 ht.length E.1.2) U b_ (aD 7 U) W U dc U)<|eS U (MV U) ?_
  obtain ⟨d,hd⟩:=aL ht j om
  obtain ⟨da,Au⟩:=aL E.2 j om
  have BL:(List.zipWith aw.cells ht E.2)[j]? =some (aw.cells d da):=dM hd Au
  refine eS U (IA j U (show i_ _ (rd E.1.1 ht.length 7 (List.zipWith aw.cells ht E.2)).holds from (dx 8 U (bW D H cf))) wK dc om om)<|eS U (oE j 0 (bq.cells (bq.mk d.Out d.eK d.Time (eH.mk d.ct.Start d.ct.f_ (bp.mk da.1 d.ct.ah.length da.2)))) U b_ (show i_ _ (rd E.1.1 ht.length 7 (List.zipWith aw.cells ht E.2)).holds from (dx 8 U (bW D H cf))) BL U dc U U) ?_
  have Bb:=Av.sig d (aT hd)
  refine eS U (CL (HU r.an kA kC az cA cC bA bC d da.1 da.2 asm hle asm) (lH [1,2,3,4]<|aq (show i_ _ (rd da.1 d.ct.ah.length 2 (d.ct.ah.map aM.cells)).holds from (dx 8 U (bW D H (cS _ (bW hd Au (by simp [aw.g0]))))))<|aJ) U)<|eS U (MV U)<|eS U (EX U)<|eS U (EX U)<|eS U (AG U)<|eX U<|bX U fun T63 Am=>AL U cZ fun BW=>aF (Am _ _ (aI [1,2,3,4,5,6,7,8,9,10,11,12]) ?_)
  refine bX U fun T65 An=>fO U cp U<|aF (An _ _ (aI [1,2,3,4,5,6,7,8,9,10,11,12]) ?_)
  refine fF U<|KK Ah<|ai fun _ Ai=>WS fun _ Aj=>rP 2 [] I ?_
  refine RK Aj<|cy U (bk fun J=>?_) (bj fun J=>?_)
  ·refine WS fun _ Ak=>rP 2 [] I ?_
   refine RK Ak<|ao<|LX hQ (false,0,none,0,[]) [] [] I U (by rfl) U U ?_
   (exact ⟨AX,fun _=>⟨rfl,fun q=>by exact J ((q.lq ht (aT D)).2 d (aT hd))⟩⟩)
  refine WK Ai<|ak<|rP 2 [] (mc 0 U I) ?_
  refine cV (xs:=[.tmp 133]) (cs:=(aa.cells (oU r.an d))) U jF cZ U U U U (by simp [Value.cells,aa.aV]) U U fun BX=>?_
  refine c_ (es2:=(List.map aa.cells ((ht.take (j+1)).map (df r.an)))) (m':=((ht.take (j+1)).map (df r.an)).length) 13 U U U Ei U U sm (aZ (es:=List.map aa.cells [(oU r.an d)]) 0 U U (by simp [aa.aV]) U) (gU _) (by simp only [List.length_map,List.length_take]; omega) (by simp only [maxLen,List.length_map,List.length_take]; omega) (by rw [List.take_add_one,hd]; simp [JD J]) sq U fun A1 A3=>?_
  try dsimp only
  refine a_ 1 U<|aF<|aG<|KK Ag<|ak<|rP 3 [] I ?_
  refine aF ?_
  have As:(vI (((j+1):Nat):Int))=(vI ((j:Int)+1)):=by exact cI om
  refine aR (m ⟨((j+1),A1,A3),⟨om,vl G hd J⟩⟩ _ _ _ U os (cO 5<|bo U As<|dw.nil _) (aI [2,3,4,5,6,7,8,9,10,11,12,13]))
 refine WK s<|ai fun _ Ay=>ax<|ai fun _ V=>ai fun _ K=>du cq 36 kr<|dP 3 [] (mc 0 U I) ?_
 obtain ⟨y,hy⟩:=aL r.aK i om
 have Ax:=bH iC hy
 refine dS (IA i U (aD 5 U) cv dc om om)<|dS (gp i 0 (vI y) U b_ (aD 5 U) Ax U dc U)<|dS (CL (oY y 0 9999) (aJ) U)<|dP 2 [] I ?_
 refine iR (t:=51) U (bk fun BA=>?_) (bj fun BA=>?_)
 ·refine lv 28 U<|cH<|RK K<|aO U<|WS fun _ w=>rP 2 [] I ?_
  refine RK w<|ao<|LX hQ (false,0,none,0,[]) [] [] I U (by rfl) U U ?_
  (exact ⟨AX,fun _=>⟨rfl,fun q=>by have S:=(q.ids i y hy).1; omega⟩⟩)
 refine dP 3 [] I ?_
 refine ji (t:=54) U (aQ fun BB=>?_) (aP fun BB=>?_)
 ·refine dP 18 [] (mc 0 U I) ?_
  obtain ⟨x,hx⟩:=aL r.bL i om
  have M:=bH iC hx
  refine dS (IA i U (aD 6 U) cv dc om om)<|dS (gp i 0 (vI x) U b_ (aD 6 U) M U dc U)<|lv 2 U<|dS (CL (oY x 0 ((r.aK.length:Int)-1)) (aJ) U)<|dP 2 [] I ?_
  refine cH<|RK K<|cy U (bk fun Y=>?_) (bj fun Y=>?_)
  ·refine WS fun _ AJ=>rP 2 [] I ?_
   refine RK AJ<|ao<|LX hQ (false,0,none,0,[]) [] [] I U (by rfl) U U ?_
   (exact ⟨AX,fun _=>⟨rfl,fun q=>by have S:=q.LR hx; omega⟩⟩)
  refine WK V<|WS fun _ AK=>rP 1 [] I ?_
  refine RK AK<|ax ?_
  have A:(0≤i)∧(∀ (q:Nat) y,q<0→r.bL[q]? =some y→y≠x):=by exact ⟨Nat.zero_le _,fun q y hq=>absurd hq (Nat.not_lt_zero _)⟩
  refine bK (ι:={z:Nat // (z≤i)∧(∀ (q:Nat) y,q<z→r.bL[q]? =some y→y≠x)}) [1,4,5] [0,1,2,3,4,5,6,7,8] U U (fun z=>[(6,(vI (z.1:Int)))]) (fun z=>[]) (fun _=>rfl) (fun _=>rfl) (fun z=>i-z.1) ⟨0,A⟩ (aS U) (aI [0,1,2,3,4,5,6,7,8]) ?_
  clear A
  rintro ⟨k,⟨O,B⟩⟩ J34 g
  try dsimp only
  refine ai fun _ AM=>WS fun _ AN=>rP 3 [] I ?_
  refine RK AN<|bM U (aQ fun A8=>?_) (aP fun A8=>?_)
  ·refine bw<|ab<|ab<|ay<|aG<|KK Ay<|ak<|rP 3 [] I ?_
   refine aF ?_
   have Ar:(vI (((i+1):Nat):Int))=(vI ((i:Int)+1)):=by exact cI om
   refine aR (T ⟨(i+1),⟨om,CM Az (fun a ha=>by rw [hy] at ha; cases ha; exact ⟨om,fun b hb hc=>by omega⟩) (fun a ha=>by rw [hx] at ha; cases ha; exact ⟨om,fun k b hk hb=>B k b om hb⟩)⟩⟩ _ _ _ rfl os (dw.cons rfl<|dw.cons rfl<|bo rfl Ar<|dw.nil _) (aI [0,1,2,3,4,5,6,7,8]))
  refine WK AM<|ai fun _ AO=>ax<|ai fun _ AP=>du cq 11 kr<|dP 3 [] (mc 0 U I) ?_
  obtain ⟨u,hu⟩:=aL r.bL k om
  have Z:=bH iC hu
  refine dS (IA k U (aD 6 U) cv dc om om)<|dS (gp k 0 (vI u) U b_ (aD 6 U) Z U dc U)<|my 3 [] (mc 0 U I) U<|dS (IA i U (aD 6 U) cv dc om om)<|dS (gp i 0 (vI x) U b_ (aD 6 U) M U dc U)<|dP 1 [] I ?_
  refine cH<|RK AP<|bM U (aQ fun L=>?_) (aP fun L=>?_)
  ·refine bV<|aG<|KK AO<|ak<|rP 3 [] I ?_
   refine aF ?_
   have Aq:(vI (((k+1):Nat):Int))=(vI ((k:Int)+1)):=by exact cI om
   refine aR (g ⟨(k+1),⟨om,wB B hu L⟩⟩ _ _ _ U os (cO 3<|bo U Aq<|dw.nil _) (aI [0,1,2,3,4,5,6,7,8]))
  refine WS fun _ AQ=>rP 2 [] I ?_
  refine RK AQ<|ao<|LX hQ (false,0,none,0,[]) [] [] I U (by rfl) U U ?_
  (exact ⟨AX,fun _=>⟨rfl,fun q=>by have S:=q.num; have q2:=q.wR; have q3:=q.nh; have q4:=q.yl; omega⟩⟩)
 refine my 3 [] (mc 0 U I) U<|dS (IA i U (aD 5 U) cv dc om om)<|dS (gp i 0 (vI y) U b_ (aD 5 U) Ax U dc U)<|dP 4 [] (mc 0 U I) ?_
 obtain ⟨z,hz⟩:=aL r.aK (i-1) om
 have BQ:=bH iC hz
 refine dS (IA (i-1) U (aD 5 U) cv dc om om)<|dS (gp (i-1) 0 (vI z) U b_ (aD 5 U) BQ U dc U)<|dP 4 [] I ?_
 refine iR (t:=69) U (aP fun BD=>?_) (aQ fun BD=>?_)
 ·refine lv 10 U<|cH<|RK K<|aO U<|WS fun _ AA=>rP 2 [] I ?_
  refine RK AA<|ao<|LX hQ (false,0,none,0,[]) [] [] I U (by rfl) U U ?_
  (exact ⟨AX,fun _=>⟨rfl,fun q=>by have S:=(q.ids i y hy).2 z om hz; omega⟩⟩)
 refine dP 3 [] (mc 0 U I) ?_
 obtain ⟨x,hx⟩:=aL r.bL i om
 have M:=bH iC hx
 refine dS (IA i U (aD 6 U) cv dc om om)<|dS (gp i 0 (vI x) U b_ (aD 6 U) M U dc U)<|lv 2 U<|dS (CL (oY x 0 ((r.aK.length:Int)-1)) (aJ) U)<|dP 2 [] I ?_
 refine cH<|RK K<|cy U (bk fun Y=>?_) (bj fun Y=>?_)
 ·refine WS fun _ AB=>rP 2 [] I ?_
  refine RK AB<|ao<|LX hQ (false,0,none,0,[]) [] [] I U (by rfl) U U ?_
  (exact ⟨AX,fun _=>⟨rfl,fun q=>by have S:=q.LR hx; omega⟩⟩)
 refine WK V<|WS fun _ AC=>rP 1 [] I ?_
 refine RK AC<|ax ?_
 have A:(0≤i)∧(∀ (q:Nat) y,q<0→r.bL[q]? =some y→y≠x):=by exact ⟨Nat.zero_le _,fun q y hq=>absurd hq (Nat.not_lt_zero _)⟩
 refine bK (ι:={z:Nat // (z≤i)∧(∀ (q:Nat) y,q<z→r.bL[q]? =some y→y≠x)}) [1,4,5] [0,1,2,3,4,5,6,7,8] U U (fun z=>[(6,(vI (z.1:Int)))]) (fun z=>[]) (fun _=>rfl) (fun _=>rfl) (fun z=>i-z.1) ⟨0,A⟩ (aS U) (aI [0,1,2,3,4,5,6,7,8]) ?_
 clear A
 rintro ⟨k,⟨O,B⟩⟩ J23 f
 try dsimp only
 refine ai fun _ AD=>WS fun _ AE=>rP 3 [] I ?_
 refine RK AE<|bM U (aQ fun X=>?_) (aP fun X=>?_)
 ·refine bw<|ab<|ab<|ay<|aG<|KK Ay<|ak<|rP 3 [] I ?_
  refine aF ?_
  have Ap:(vI (((i+1):Nat):Int))=(vI ((i:Int)+1)):=by exact cI om
  refine aR (T ⟨(i+1),⟨om,CM Az (fun a ha=>by rw [hy] at ha; cases ha; exact ⟨om,fun b hb hc=>by (rw [hz] at hc; cases hc; omega)⟩) (fun a ha=>by rw [hx] at ha; cases ha; exact ⟨om,fun k b hk hb=>B k b om hb⟩)⟩⟩ _ _ _ rfl os (dw.cons rfl<|dw.cons rfl<|bo rfl Ap<|dw.nil _) (aI [0,1,2,3,4,5,6,7,8]))
 refine WK AD<|ai fun _ AF=>ax<|ai fun _ AH=>du cq 11 kr<|dP 3 [] (mc 0 U I) ?_
 obtain ⟨u,hu⟩:=aL r.bL k om
 have Z:=bH iC hu
 refine dS (IA k U (aD 6 U) cv dc om om)<|dS (gp k 0 (vI u) U b_ (aD 6 U) Z U dc U)<|my 3 [] (mc 0 U I) U<|dS (IA i U (aD 6 U) cv dc om om)<|dS (gp i 0 (vI x) U b_ (aD 6 U) M U dc U)<|dP 1 [] I ?_
 refine cH<|RK AH<|bM U (aQ fun L=>?_) (aP fun L=>?_)
 ·refine bV<|aG<|KK AF<|ak<|rP 3 [] I ?_
  refine aF ?_
  have Ao:(vI (((k+1):Nat):Int))=(vI ((k:Int)+1)):=by exact cI om
  refine aR (f ⟨(k+1),⟨om,wB B hu L⟩⟩ _ _ _ U os (cO 3<|bo U Ao<|dw.nil _) (aI [0,1,2,3,4,5,6,7,8]))
 refine WS fun _ AI=>rP 2 [] I ?_
 refine RK AI<|ao<|LX hQ (false,0,none,0,[]) [] [] I U (by rfl) U U ?_
 (exact ⟨AX,fun _=>⟨rfl,fun q=>by exact q.PR om hu hx L⟩⟩)
end
section
open Go.RowKit
theorem G3 (r:bT) (kA:OA) (kC:Nat) (az:List RA) (cA:OA) (cC:Nat) (bA:OA) (bC:Nat) (slA:OA) (slC:Nat) (drA:OA) (drC:Nat) (ha:List cM) (heA:OA) (heC:Nat) (hin:eW r az ha):
 lD Tryz.prog 77 [(vA (cm.cells (oD r kA kC cA cC bA bC slA slC drA drC heA heC)))] [(rd kA r.an.aN.length 9 (r.an.aN.map al.cells)),(rd cA r.an.aj.length 2 (List.zipWith av.cells r.an.aj az)),(e7 (aU av.g0 r.an.aj az)),(rd bA r.an.ae.length 4 (r.an.ae.map bB.cells)),(rd slA r.aK.length 1 (r.aK.map iC)),(rd drA r.bL.length 1 (r.bL.map iC)),(rd heA r.ar.length 1 (List.zipWith cJ r.ar ha)),(e7 (aU im r.ar ha))] (fun (x:Bool×Int×(OA)×Nat×(List RA))=>bif x.1 then (vT [(vS x.2.2.1 ((cL r).length) x.2.2.2.1),(vI 0)]) else (vT [(vS none 0 0),(vI x.2.1)])) (fun (x:Bool×Int×(OA)×Nat×(List RA))=>(x.1=true→(cr r=0∧x.2.2.2.2.length=r.ar.length))∧(x.1=false→(x.2.1=cr r∧ ¬ cr r=0))) (fun (x:Bool×Int×(OA)×Nat×(List RA))=>bif x.1 then [(own x.2.2.1 x.2.2.2.1 82 1 (List.zipWith D7 (cL r) x.2.2.2.2)),(bu (aU Dn (cL r) x.2.2.2.2))] else []):=by
 have AA:=hin.line
 have b:=hin.iN
 have c:=hin.has
 have Z:=hin.iM
 have Y:=hin.draw
 have a:=dB (r:=r)
 refine di kr Tryz.func77 U U fun f Q hQ hN=>?_
 try dsimp only
 refine WS fun _ O=>fQ U fun e=>a_ 2 U<|RK O<|ai fun _ P=>WS fun _ R=>a_ 1 U<|rS (LP (cb.cells (ly r.an kA kC cA cC bA bC)) 0 U b_ U U U)<|rS (CL (Cj r.an kA kC az cA cC bA bC asm) (bf [1,2,3,4]) U)<|a_ 1 U<|RK R<|WS fun _ S=>rP 2 [] I ?_
 refine RK S<|cy U (bk fun A=>?_) (bj fun A=>?_)
 ·refine WS fun _ T=>rP 3 [] I ?_
  refine RK T<|ao<|LX hQ (false,(dp r.an),none,0,[]) [] [] I U (by rfl) U U ?_
  exact rG<|LS (yG A) A
 refine WK P<|WS fun _ G=>rP 1 [] (mc 0 U I) ?_
 refine cX (EB r kA kC az cA cC bA bC slA slC drA drC ha heA heC hin (by exact A)) (bf [1,2,3,4,5,6,7,8]) U fun d J=>?_
 obtain ⟨K,W,L,M,N⟩:=d
 cases K
 rotate_left 1
 ·obtain ⟨AB,V⟩:=J.1 rfl
  try dsimp only [cond_true,cond_false,List.cons_append,List.nil_append]
  refine a_ 5 U<|RK G<|ai fun _ D=>WS fun _ E=>a_ 2 U<|RK E<|aW U<|WK D<|WS fun _ F=>rP 3 [] I ?_
  refine RK F<|ao ?_
  refine LX hQ (true,0,L,M,N) [0,1] [] I U (by (show List.all _ _=true; simp only [cond_true,fG,List.all_nil,wD,Bool.and_true]; rfl)) U U ?_
  exact ⟨fun _=>⟨Ce A AB,V⟩,Ng⟩
 obtain ⟨H,he⟩:=J.2 rfl
 try dsimp only at H he
 subst H
 try dsimp only [cond_true,cond_false,List.cons_append,List.nil_append]
 refine a_ 5 U<|RK G<|ai fun _ X=>WS fun _ B=>a_ 2 U<|RK B<|aO U<|WS fun _ C=>rP 2 [] I ?_
 refine RK C<|ao<|LX hQ (false,60,none,0,[]) [] [] I U (by rfl) U U ?_
 exact rG<|pQ (ko A he)
end
section
open Go.RowKit
theorem Gt (r:bT) (kA:OA) (kC:Nat) (az:List RA) (cA:OA) (cC:Nat) (bA:OA) (bC:Nat) (slA:OA) (slC:Nat) (drA:OA) (drC:Nat) (ha:List cM) (heA:OA) (heC:Nat) (hin:eW r az ha):
 dV Tryz.prog 53 [(vA (cm.cells (oD r kA kC cA cC bA bC slA slC drA drC heA heC)))] [(rd kA r.an.aN.length 9 (r.an.aN.map al.cells)),(rd cA r.an.aj.length 2 (List.zipWith av.cells r.an.aj az)),(e7 (aU av.g0 r.an.aj az)),(rd bA r.an.ae.length 4 (r.an.ae.map bB.cells)),(rd slA r.aK.length 1 (r.aK.map iC)),(rd drA r.bL.length 1 (r.bL.map iC)),(rd heA r.ar.length 1 (List.zipWith cJ r.ar ha)),(e7 (aU im r.ar ha))] (vI (cr r)):=by
 have H:=hin.line
 have M:=hin.iN
 have N:=hin.has
 have J:=hin.iM
 have AB:=hin.draw
 have K:=dB (r:=r)
 refine bx kr Tryz.func53 U U fun V Q hQ hN=>?_
 try dsimp only
 refine WS fun _ G=>fQ U fun AA=>a_ 1 U<|RK G<|WS fun _ C=>rP 1 [] (mc 0 U I) ?_
 refine cX (G3 r kA kC az cA cC bA bC slA slC drA drC ha heA heC hin) (bf [1,2,3,4,5,6,7,8]) U fun T E=>?_
 obtain ⟨F,L,P,R,S⟩:=T
 cases F
 rotate_left 1
 ·obtain ⟨he,O⟩:=E.1 rfl
  try dsimp only [cond_true,cond_false,List.cons_append,List.nil_append]
  refine a_ 5 U<|RK C<|WS fun _ B=>rP 2 [] I ?_
  refine RK B<|ao<|Q1 hQ U U U ?_
  first|rfl|(rw [he])
 obtain ⟨D,he⟩:=E.2 rfl
 try dsimp only at D he
 subst D
 try dsimp only [cond_true,cond_false,List.cons_append,List.nil_append]
 refine a_ 5 U<|RK C<|WS fun _ A=>rP 2 [] I ?_
 refine RK A<|ao<|Q1 hQ U U U ?_
 first|rfl|(rw [he])
end
section
open Go.RowKit
theorem Mc (r:bT) (kA:OA) (kC:Nat) (az:List RA) (cA:OA) (cC:Nat) (bA:OA) (bC:Nat) (slA:OA) (slC:Nat) (drA:OA) (drC:Nat) (ha:List cM) (heA:OA) (heC:Nat) (hraw:ru r az ha):
 dV Tryz.prog 23 [(vA (cm.cells (oD r kA kC cA cC bA bC slA slC drA drC heA heC)))] [(rd kA r.an.aN.length 9 (r.an.aN.map al.cells)),(rd cA r.an.aj.length 2 (List.zipWith av.cells r.an.aj az)),(e7 (aU av.g0 r.an.aj az)),(rd bA r.an.ae.length 4 (r.an.ae.map bB.cells)),(rd slA r.aK.length 1 (r.aK.map iC)),(rd drA r.bL.length 1 (r.bL.map iC)),(rd heA r.ar.length 1 (List.zipWith cJ r.ar ha)),(e7 (aU im r.ar ha))] (vB (decide (¬ ov r∧cr r=0))):=by
 refine bx kr Tryz.func23 U U fun F Q hQ hN=>?_
 try dsimp only
 refine WS fun _ C=>fQ U fun E=>a_ 1 U<|RK C<|WS fun _ B=>fy 1 [] (mc 0 U I) U<|rS (CL (B4 r kA kC az cA cC bA bC slA slC drA drC ha heA heC hraw) (bf [1,2,3,4,5,6,7,8]) U)<|rP 2 [] I ?_
 refine bZ (t:=6) U (bj fun A=>?_) (bk fun A=>?_)
 ·refine a_ 1 U<|rP 4 [] I ?_
  refine RK B<|ao<|Q1 hQ U U U ?_
  first|exact cB (cd fun q=>q.1 A).symm|exact cB (decide_eq_decide.2 ⟨fun q=>⟨A,q⟩,fun q=>q.2⟩)
 refine rP 1 [] (mc 0 U I) ?_
 have D:=hraw.small A
 refine rS (CL (Gt r kA kC az cA cC bA bC slA slC drA drC ha heA heC sd) (bf [1,2,3,4,5,6,7,8]) U) ?_
 refine rP 3 [] I ?_
 refine RK B<|ao<|Q1 hQ U U U ?_
 first|exact cB (cd fun q=>q.1 A).symm|exact cB (decide_eq_decide.2 ⟨fun q=>⟨A,q⟩,fun q=>q.2⟩)
end
section
open Go.RowKit
theorem zl (bl:List Int) (blA:OA) (blC:Nat) (i:Int) (hbl: ∀ z∈bl,0≤z∧z≤4294967295) (hbn:bl.length≤9223372036854775807) (hi:0≤i∧i≤1000):
 dV Tryz.prog 30 [(vS blA bl.length blC),(vI i)] [(rd blA bl.length 1 (bl.map rY))] (vI (Hf bl i)):=by
 refine bx kr Tryz.func30 U U fun K Q hQ hN=>?_
 try dsimp only
 refine WS fun _ B=>a_ 1 U<|RK B<|ai fun _ C=>WS fun _ D=>rP 3 [] I ?_
 refine RK D<|cy U (aP fun A=>?_) (aQ fun A=>?_)
 ·refine WS fun _ E=>rP 1 [] I ?_
  refine RK E<|ao<|Q1 hQ U U U ?_
  first|exact cI (by unfold Hf; rw [if_pos om])|exact cI (KC A hz).symm
 refine WK C<|WS fun _ F=>rP 4 [] I ?_
 refine rS (BI U (yE om om)) ?_
 have AA:=Int.emod_nonneg i A
 have J:=Int.emod_lt_of_pos i (show 0<(bl.length:Int) by omega)
 obtain ⟨z,hz⟩:=aL bl (((i % (bl.length:Int))).toNat) om
 have G:=bH rY hz
 refine rS (IA (((i % (bl.length:Int))).toNat) U (aD 0 U) Uy dc om om)<|rS (gp (((i % (bl.length:Int))).toNat) 0 (Value.int .u32 z) U b_ (aD 0 U) G U dc U) ?_
 have H:=hbl z (aT hz)
 refine rS (SX (pd (m:=z) U U OS oz (Ag (by first|assumption|omega))) U U)<|rP 1 [] I ?_
 refine RK F<|ao<|Q1 hQ U U U ?_
 first|exact cI (by unfold Hf; rw [if_pos om])|exact cI (KC A hz).symm
theorem Qq (la:List Int) (laA:OA) (laC:Nat) (n:Int) (hlen:la.length≤1000000):
 dV Tryz.prog 31 [(vS laA la.length laC),(vI n)] [(rd laA la.length 1 (la.map iC))] (vB (decide (n∈la))):=by
 refine bx kr Tryz.func31 U U fun AA Q hQ hN=>?_
 try dsimp only
 refine WS fun _ AB=>a_ 1 U<|RK AB<|ai fun _ J=>WS fun _ K=>rP 3 [] I ?_
 refine RK K<|ax ?_
 have B:(0≤la.length)∧(∀ (j:Nat) y,j<0→la[j]? =some y→y≠n):=by exact ⟨Nat.zero_le _,fun j y hj=>absurd hj (Nat.not_lt_zero _)⟩
 refine bK (ι:={z:Nat // (z≤la.length)∧(∀ (j:Nat) y,j<z→la[j]? =some y→y≠n)}) [1,7,8] [0] U U (fun z=>[(9,(vI (z.1:Int)))]) (fun z=>[]) (fun _=>rfl) (fun _=>rfl) (fun z=>la.length-z.1) ⟨0,B⟩ (aS U) (aI [0]) ?_
 clear B
 rintro ⟨i,⟨R,A⟩⟩ J4 H
 try dsimp only
 refine WS fun _ L=>rP 1 [] I ?_
 refine RK L<|ai fun _ M=>bM U (aQ fun T=>?_) (aP fun T=>?_)
 ·refine bw<|ab<|ab<|ay<|KK J<|WS fun _ F=>rP 1 [] I ?_
  refine RK F<|ao<|Q1 hQ U U U ?_
  first|exact cB (fI (by rw [← C]; exact aT hx)).symm|exact cB (cd fun q=>qd (P:=fun y=>y≠n) om A n q rfl).symm
 refine WK M<|ai fun _ N=>ax<|WS fun _ O=>?_
 obtain ⟨x,hx⟩:=aL la i om
 have S:=bH iC hx
 refine rS (IA i U (aD 0 U) cv dc om om)<|rS (gp i 0 (vI x) U b_ (aD 0 U) S U dc U)<|a_ 1 U<|RK O<|WS fun _ D=>rP 3 [] I ?_
 refine RK D<|cy U (aP fun C=>?_) (aQ fun C=>?_)
 ·refine WS fun _ E=>rP 1 [] I ?_
  refine RK E<|ao<|Q1 hQ U U U ?_
  first|exact cB (fI (by rw [← C]; exact aT hx)).symm|exact cB (cd fun q=>qd (P:=fun y=>y≠n) om A n q rfl).symm
 refine bV<|aG<|KK N<|ak<|rP 2 [] I ?_
 refine aF ?_
 have G:(vI (((i+1):Nat):Int))=(vI ((i:Int)+1)):=by exact cI om
 refine aR (H ⟨(i+1),⟨om,kN A hx C⟩⟩ _ _ _ U os (cO 3<|bo U G<|dw.nil _) (aI [0]))
end
section
open Go.RowKit
theorem Ok (r:bT) (kA:OA) (kC:Nat) (az:List RA) (cA:OA) (cC:Nat) (bA:OA) (bC:Nat) (slA:OA) (slC:Nat) (drA:OA) (drC:Nat) (ha:List cM) (heA:OA) (heC:Nat) (hin:eW r az ha) (he:cr r=0):
 lD Tryz.prog 24 [(vA (cm.cells (oD r kA kC cA cC bA bC slA slC drA drC heA heC)))] [(rd eJ 3 2 dJ),(rd kA r.an.aN.length 9 (r.an.aN.map al.cells)),(rd cA r.an.aj.length 2 (List.zipWith av.cells r.an.aj az)),(e7 (aU av.g0 r.an.aj az)),(rd bA r.an.ae.length 4 (r.an.ae.map bB.cells)),(rd slA r.aK.length 1 (r.aK.map iC)),(rd drA r.bL.length 1 (r.bL.map iC)),(rd heA r.ar.length 1 (List.zipWith cJ r.ar ha)),(e7 (aU im r.ar ha))] (fun (x:Nat)=>(vT [(Value.map (some x)),(vB true)])) (fun (x:Nat)=>True) (fun (x:Nat)=>[(hE iV x (bG db (aA r)))]):=by
 have e:=hin.line
 have l:=hin.iN
 have m:=hin.has
 have g:=hin.iM
 have f:=hin.draw
 have h:=dB (r:=r)
 have AA:=(ib he).2
 have n:=AA.num
 refine di kr Tryz.func24 U U fun p Q hQ hN=>?_
 try dsimp only
 refine WS fun _ X=>fQ U fun o=>rP 2 [] I ?_
 refine RK X<|WS fun _ Y=>nj (kV:=iV) U U fun V=>?_
 try dsimp only
 refine a_ 1 U<|RK Y<|ai fun _ Z=>WS fun _ a=>rP 4 [] (mc 1 U I) ?_
 refine RK a<|ax ?_
 skip
 have C:(0≤r.aK.length):=by exact Nat.zero_le _
 refine bK (ι:={z:Nat // (z≤r.aK.length)}) [1,4,11] [1,2,3,4,5,6,7,8,9,10] U U (fun z=>[(12,(vI (z.1:Int)))]) (fun z=>[(hE iV V (bG db (jJ r z.1)))]) (fun _=>rfl) (fun _=>rfl) (fun z=>r.aK.length-z.1) ⟨0,C⟩ (aS U) (aI [1,2,3,4,5,6,7,8,9,10,0]) ?_
 clear C
 rintro ⟨i,d⟩ J7 D
 try dsimp only
 refine WS fun _ b=>rP 1 [] I ?_
 refine RK b<|ai fun _ c=>bM U (aQ fun W=>?_) (aP fun W=>?_)
 ·refine bw<|ab<|ab<|ay<|KK Z<|ai fun _ M=>?_
  rw [show jJ r i=aA r from by rw [show i=r.aK.length by omega]; rfl]
  refine ak<|rP 3 [] I ?_
  refine RK M<|ao<|LX hQ V [10] [] I U U U U ?_
  trivial
 refine WK c<|ai fun _ B=>ax<|WS fun _ AB=>a_ 2 U<|RK AB<|WS fun _ J=>fy 2 [] (mc 0 U I) U<|rS (CL (OO (i:Int) r kA kC az cA cC bA bC slA slC drA drC ha heA heC hin) (bf [1,2,3,4,5,6,7,8,9]) U)<|a_ 3 U<|AL U cZ fun j=>fO U cp U<|a_ 1 U<|RK J<|ai fun _ E=>WS fun _ F=>rP 3 [] I ?_
 refine bZ (t:=23) U (bj fun G=>?_) (bk fun G=>?_)
 ·refine a_ 3 U<|RK F<|aW U<|WK E<|WS fun _ L=>rP 2 [] I ?_
  refine RK L<|bM U (aQ fun A=>?_) (aP fun A=>?_)
  ·refine bV<|aG<|KK B<|ak<|rP 2 [] I ?_
   refine aF ?_
   rw [zD he om A]
   have T:(vI (((i+1):Nat):Int))=(vI ((i:Int)+1)):=by exact cI om
   refine aR (D ⟨(i+1),(by first|omega|(simp only []; omega))⟩ _ _ _ U os (cO 3<|bo U T<|dw.nil _) (aI [1,2,3,4,5,6,7,8,9,10,11]))
  refine ak<|rP 3 [] (mc 0 U I) ?_
  have R:(ew (jJ r i) (i:Int) (pD r (i:Int)))=(jJ r (i+1)):=by exact CX he om A
  refine iY (kV:=iV) (x:=(i:Int)) (C':=[_,_,_,_,_,_,_,_,_,_,_,(hE iV V (bG db (jJ r (i+1))))]) 11 U U U U l8 (dK oz) U ((gI _ _ _ _).symm.trans (congrArg _ R)) U<|aF<|aG<|KK B<|ak<|rP 2 [] I ?_
  refine aF ?_
  have S:(vI (((i+1):Nat):Int))=(vI ((i:Int)+1)):=by exact cI om
  refine aR (D ⟨(i+1),(by first|omega|(simp only []; omega))⟩ _ _ _ U os (cO 3<|bo U S<|dw.nil _) (aI [1,2,3,4,5,6,7,8,9,10,11]))
 refine rP 3 [] I ?_
 refine RK F<|cy U (bk fun H=>?_) (bj fun H=>?_)
 ·exfalso; exact (Cn he (k:=(i:Int)) (by unfold mZ; omega)).elim (fun q=>G q.1) (fun q=>H q.1)
 refine WK E<|WS fun _ K=>rP 2 [] I ?_
 refine RK K<|bM U (aQ fun A=>?_) (aP fun A=>?_)
 ·refine bV<|aG<|KK B<|ak<|rP 2 [] I ?_
  refine aF ?_
  rw [zD he om A]
  have P:(vI (((i+1):Nat):Int))=(vI ((i:Int)+1)):=by exact cI om
  refine aR (D ⟨(i+1),(by first|omega|(simp only []; omega))⟩ _ _ _ U os (cO 3<|bo U P<|dw.nil _) (aI [1,2,3,4,5,6,7,8,9,10,11]))
 refine ak<|rP 3 [] (mc 0 U I) ?_
 have N:(ew (jJ r i) (i:Int) (pD r (i:Int)))=(jJ r (i+1)):=by exact CX he om A
 refine iY (kV:=iV) (x:=(i:Int)) (C':=[_,_,_,_,_,_,_,_,_,_,_,(hE iV V (bG db (jJ r (i+1))))]) 11 U U U U l8 (dK oz) U ((gI _ _ _ _).symm.trans (congrArg _ N)) U<|aF<|aG<|KK B<|ak<|rP 2 [] I ?_
 refine aF ?_
 have O:(vI (((i+1):Nat):Int))=(vI ((i:Int)+1)):=by exact cI om
 refine aR (D ⟨(i+1),(by first|omega|(simp only []; omega))⟩ _ _ _ U os (cO 3<|bo U O<|dw.nil _) (aI [1,2,3,4,5,6,7,8,9,10,11]))
end
section
open Go.RowKit
theorem wX (r:bT) (kA:OA) (kC:Nat) (az:List RA) (cA:OA) (cC:Nat) (bA:OA) (bC:Nat) (slA:OA) (slC:Nat) (drA:OA) (drC:Nat) (ha:List cM) (heA:OA) (heC:Nat) (lq sled:Int) (bl:List Int) (blA:OA) (blC:Nat) (hraw:ru r az ha) (h1b:0≤lq∧lq≤255) (h2b:0≤sled∧sled≤255) (hbl: ∀ z∈bl,0≤z∧z≤4294967295) (hbn:bl.length≤9223372036854775807):
 dV Tryz.prog 6 [(vA (cm.cells (oD r kA kC cA cC bA bC slA slC drA drC heA heC))),(Value.int .u8 lq),(Value.int .u8 sled),(vS blA bl.length blC)] [(rd eJ 3 2 dJ),(rd kA r.an.aN.length 9 (r.an.aN.map al.cells)),(rd cA r.an.aj.length 2 (List.zipWith av.cells r.an.aj az)),(e7 (aU av.g0 r.an.aj az)),(rd bA r.an.ae.length 4 (r.an.ae.map bB.cells)),(rd slA r.aK.length 1 (r.aK.map iC)),(rd drA r.bL.length 1 (r.bL.map iC)),(rd heA r.ar.length 1 (List.zipWith cJ r.ar ha)),(e7 (aU im r.ar ha)),(rd blA bl.length 1 (bl.map rY))] (vB true):=by
 refine bx kr Tryz.func6 U U fun w0 Q hQ hN=>?_
 try dsimp only
 refine WS fun _ BH=>fQ U fun b2=>a_ 1 U<|RK BH<|WS fun _ BJ=>rS (CL Kk (bf [1]) U)<|a_ 1 U<|RK BJ<|ai fun _ BK=>WS fun _ BL=>a_ 2 U<|RK BL<|aW U<|WK BK<|ai fun _ BM=>WS fun _ BN=>fy 1 [] (mc 0 U I) U<|rS (CL (Mc r kA kC az cA cC bA bC slA slC drA drC ha heA heC hraw) (bf [2,3,4,5,6,7,8,9]) U)<|rP 1 [] I ?_
 refine RK BN<|cy U (bk fun C=>?_) (bj fun C=>?_)
 ·refine WS fun _ BO=>rP 2 [] I ?_
  refine RK BO<|ao<|Q1 hQ U U U ?_
  first|rfl|exact cB (fI ((pn C.2 v).resolve_left N))
 refine WK BM<|ai fun _ BP=>du cq 14 kr ?_
 have O:=hraw.small C.1
 have BU:=O.line
 have Bw:=O.iN
 have Bx:=O.has
 have Bm:=O.iM
 have Bi:=O.draw
 have Bn:=dB (r:=r)
 have AJ:=(ib C.2).2
 have B2:=AJ.num
 have B1:=AJ.nh
 refine lv 1 U<|dS (SX (pd (m:=lq) U U O2 oz (nU (by first|assumption|omega))) U U)<|my 3 [] (mc 0 U I) U<|dS (BI U (yE om om))<|lv 1 U<|dS (SX (pd (m:=sled) U U O2 oz (nU (by first|assumption|omega))) U U)<|my 3 [] (mc 0 U I) U<|dS (BI U (yE om om))<|dP 2 [] I ?_
 refine cH<|RK BP<|ai fun _ AQ=>?_
 obtain ⟨h,hq,hb⟩: ∃ q:Int,(lq % (r.ar.length:Int))=q∧0≤q∧q≤(r.ar.length:Int)-1:=⟨_,rfl,by have:=Fh lq (r.ar.length:Int) om om; omega⟩
 rw [hq]
 obtain ⟨i,hi,BS⟩: ∃ q:Int,(sled % (r.aK.length:Int))=q∧mZ r q:=⟨_,rfl,by unfold mZ; have:=Fh sled (r.aK.length:Int) om om; omega⟩
 rw [hi]
 have v:(0≤h∧h≤(r.ar.length:Int)-1)∧mZ r i:=⟨hb,BS⟩
 have BV:=Mz (h:=h) (i:=i) C.2
 refine ak<|rP 3 [] (mc 0 U I) ?_
 refine rS (CL (JC h i r kA kC az cA cC bA bC slA slC drA drC ha heA heC sd) (bf [1,2,3,4,5,6,7,8,9]) U) ?_
 refine a_ 3 U<|AL U cZ fun Bs=>fO U cp U<|a_ 1 U<|RK AQ<|ai fun _ AR=>WS fun _ AS=>rP 2 [] I ?_
 refine RK AS<|cy U (bk fun N=>?_) (bj fun N=>?_)
 ·refine WS fun _ AT=>rP 6 [] I ?_
  refine RK AT<|ao<|Q1 hQ U U U ?_
  first|rfl|exact cB (fI ((pn C.2 v).resolve_left N))
 refine WK AR<|ai fun _ AU=>?_
 have BQ:=OQ hbl 0
 have BR:=OQ hbl 1
 have By:=Fh (Hf bl 0) ((dA r h i).Hi-(dA r h i).Lo+1) BQ.1 om
 refine du cq 13 kr<|dP 3 [] (mc 0 U I) ?_
 refine dS (CL (zl bl blA blC 0 hbl hbn sd) (bf [11]) U) ?_
 refine my 6 [] (mc 0 U I) U<|dS (BI U (yE om om))<|dP 2 [] I ?_
 refine cH<|RK AU<|ai fun _ AV=>?_
 obtain ⟨lo,A8⟩: ∃ q:Int,(((dA r h i).Lo)+((Hf bl 0) % ((((dA r h i).Hi)-((dA r h i).Lo))+1)))=q:=⟨_,rfl⟩
 rw [A8]
 have Bz:=Fh (Hf bl 1) ((dA r h i).Hi-lo+1) BR.1 om
 refine dD cq [12,13] [] [] [0,1,2,3,4,5,6,7,8,9,10,11] [] U U U U U<|eS U (MV U)<|eS U (MV U)<|eS U (MV U) ?_
 refine eS U (CL (zl bl blA blC 1 hbl hbn sd) (bf [11]) U) ?_
 refine eS U (FA 1 U fx U)<|eS U (L1 (vI ((dA r h i).Hi)) 0 U b_ U U)<|eS U (MV U)<|eS U (BI U (qk ⟨om,om⟩))<|eS U (BI U (gY ⟨om,om⟩))<|eS U (BI U (yE om om))<|eS U (BI U (gY ⟨om,om⟩))<|eS U (CL (kZ lo (lo+((Hf bl 1) % ((((dA r h i).Hi)-lo)+1)))) (aJ) U)<|eX U<|bX U fun T17 A3=>AL U cZ fun Bt=>aF (A3 _ _ (aI [1,2,3,4,5,6,7,8,9,10,11,12]) ?_)
 refine bX U fun T19 A4=>fO U cp U<|aF (A4 _ _ (aI [1,2,3,4,5,6,7,8,9,10,11,12]) ?_)
 refine fF U<|KK AV<|ai fun _ AW=>ai fun _ AX=>?_
 obtain ⟨up,A_⟩: ∃ q:Int,(lo+((Hf bl 1) % ((((dA r h i).Hi)-lo)+1)))=q:=⟨_,rfl⟩
 rw [A_]
 have BW:iI (dA r h i) (aa.mk lo up):=BC BV.2.1 A8.symm A_.symm
 refine ak<|fy 1 [] (mc 0 U I) U<|rS (CL (E7 (aa.mk lo up)) (aJ) U)<|rP 1 [] I ?_
 refine RK AX<|cy U (bk fun AN=>?_) (bj fun AN=>?_)
 ·refine WS fun _ AY=>rP 2 [] I ?_
  refine RK AY<|ao<|Q1 hQ U U U ?_
  first|rfl|exact cB (fI ((pn C.2 v).resolve_left N))
 refine WK AW<|WS fun _ AZ=>rP 4 [0,1] (mc 2 U (mc 0 U I)) ?_
 refine cX (BT h i (aa.mk lo up) r kA kC az cA cC bA bC slA slC drA drC ha heA heC sd) (bf [3,4,5,6,7,8,9,10,11]) U fun Ba AK=>?_
 obtain ⟨BB,Bd,R,Y,S,Z,X,T,a,B3,b,V,c,W,d,u⟩:=Ba
 cases BB
 ·obtain ⟨A7,he⟩:=AK.2 rfl
  try dsimp only at A7 he
  subst A7
  try dsimp only [cond_true,cond_false,List.cons_append,List.nil_append]
  exact absurd (Hd C.2 N AN) he
 obtain ⟨o,⟨g,A6⟩,L⟩:=AK.1 rfl
 try dsimp only [cond_true,cond_false,List.cons_append,List.nil_append]
 try dsimp only at o g A6 L
 have l:eW (gM r h i (aa.mk lo up)) _ _:=eW.rep O g A6 L
 have BA:=rp o
 have A9:=Ip o BW
 refine a_ 3 U<|AL U z_ fun Bu=>fO U sE U<|a_ 1 U<|RK AZ<|ai fun _ Aa=>WS fun _ Ab=>a_ 1 U<|rS (SX (bS (r:= .bool false) U U U j6) U U)<|RK Ab<|aW U<|WK Aa<|WS fun _ Ac=>rP 1 [] (mc 11 U I) ?_
 refine cX (Ok r kA kC az cA cC bA bC slA slC drA drC ha heA heC sd (by exact C.2)) (bf [12,13,14,15,16,17,18,19,20]) U fun e Bo=>?_
 try dsimp only
 refine a_ 5 U<|RK Ac<|ai fun _ Ad=>ai fun _ Ae=>I7 (C':=[(hE iV e (bG db (aA r))).ro,_,_,_,_,_,_,_,_,_,_,_,_,_,_,_,_,_,_,_,_,_,_]) 0 U U<|ak<|rP 1 [] I ?_
 refine iH (kV:=iV) (m:=bG db (aA r)) 0 U U l8 U ⟨U,fun h=>h⟩ (by exact jW 0 U) U fun BY=>?_
 try dsimp only
 refine RK Ae<|ax ?_
 have A:(∀ p∈(aA r),p∈aA r):=by exact fun p hp=>hp
 refine bK (ι:={z:gF // (∀ p∈z,p∈aA r)}) [4,9,16,18,19,113] [1,2,3,4,5,6,7,8,9,10,13,14,15,16,17,18,19,20,21,22,23] U U (fun z=>[]) (fun z=>[(yf iV BY e (bG db (aA r)) (bG db z.1) none)]) (fun _=>rfl) (fun _=>rfl) (fun z=>z.1.length) ⟨(aA r),A⟩ (dw.nil _) (aI [1,2,3,4,5,6,7,8,9,10,13,14,15,16,17,18,19,20,21,22,23,0]) ?_
 clear A
 rintro ⟨left,F⟩ J52 AO
 try dsimp only
 refine WS fun _ AH=>g9 (dK oz).inj (f:=db) 21 U U U U (fun Be=>?_) (fun k s hm hn=>?_)
 ·refine a_ 1 U<|RK AH<|ai fun _ Bg=>aW U<|bw<|ab<|ab<|ay<|KK Ad<|WS fun _ Af=>rP 5 [] I ?_
  refine RK Af<|ao<|Q1 hQ U U U ?_
  first|rfl|exact cB (fI ((pn C.2 v).resolve_left N))
 try dsimp only
 refine a_ 1 U<|RK AH<|ai fun _ Ag=>aO U<|WK Ag<|ax<|WS fun _ Ah=>rS (SX (g8 21 U U U) U U)<|rP 2 [] I ?_
 refine RK Ah<|ai fun _ Ai=>?_
 have w:=Ob C.2 BA rfl A9 (F _ hm)
 have Bj:=rW (r:=r) (i:=k)
 have Bk:=rW (r:=(gM r h i (aa.mk lo up))) (i:=k)
 have Bl:(gM r h i (aa.mk lo up)).aK.length=r.aK.length:=rfl
 refine ak<|rP 2 [] (mc 10 U I) ?_
 refine cX (Ak k r kA kC az cA cC bA bC slA slC drA drC ha heA heC sd) (bf [11,12,13,14,15,16,17,18,19]) U fun Bb Bp=>?_
 obtain ⟨BE,BF⟩:=Bb
 try dsimp only
 refine a_ 5 U<|RK Ai<|WS fun _ Aj=>rP 2 [] (mc 2 U I) ?_
 refine cX (Ak k (gM r h i (aa.mk lo up)) R Y X S Z T a B3 b V c u W d (by exact l)) (fq 12 U U<|aq (ag (n:=r.an.aN.length) 3 U (by first|(simp; done)|(rw [List.length_map]; rfl)))<|aq (ag (n:=r.an.aj.length) 4 U (gE g))<|aq (dy 5 U gZ)<|aq (ag (n:=r.an.ae.length) 6 U (by first|(simp; done)|(rw [List.length_map]; rfl)))<|aq (ag (n:=r.aK.length) 7 U (by first|(simp; done)|(rw [List.length_map]; rfl)))<|aq (ag (n:=r.bL.length) 8 U (by first|(simp; done)|(rw [List.length_map]; rfl)))<|aq (ag (n:=(fz r.ar h i (aa.mk lo up)).length) 9 U (eL L.1))<|aq (gr 10 U L)<|aJ) U fun Bc Bq=>?_
 obtain ⟨Br,Bv⟩:=Bc
 try dsimp only
 refine a_ 5 U<|RK Aj<|ai fun _ Al=>WS fun _ Am=>rP 3 [] I ?_
 refine cN (t:=132) U (bk fun x=>?_) (bj fun x=>?_)
 ·exact absurd (w.1) x
 refine rP 4 [] I ?_
 refine cN (t:=136) U (bk fun AA=>?_) (bj fun AA=>?_)
 ·exact absurd (w.2.1) AA
 refine rP 4 [] I ?_
 refine RK Am<|cy U (aP fun AM=>?_) (aQ fun AM=>?_)
 ·exact absurd (List.length_eq_zero_iff.1 om) w.2.2.1
 refine WK Al<|ai fun _ An=>WS fun _ Ao=>rP 3 [] I ?_
 refine RK Ao<|ax ?_
 have A:(0≤(fR (gM r h i (aa.mk lo up)) k).length):=by exact Nat.zero_le _
 refine bK (ι:={z:Nat // (z≤(fR (gM r h i (aa.mk lo up)) k).length)}) [4,9,16,18,19,20,21,23,113,141,142] [0,1,2,3,4,5,6,7,8,9,10,11,12,13,14,15,16,17,18,19,20,21,22,23] U U (fun z=>[(143,(vI (z.1:Int)))]) (fun z=>[]) (fun _=>rfl) (fun _=>rfl) (fun z=>(fR (gM r h i (aa.mk lo up)) k).length-z.1) ⟨0,A⟩ (aS U) (aI [0,1,2,3,4,5,6,7,8,9,10,11,12,13,14,15,16,17,18,19,20,21,22,23]) ?_
 clear A
 rintro ⟨q,BD⟩ J72 AP
 try dsimp only
 refine WS fun _ Ap=>rP 1 [] I ?_
 refine RK Ap<|ai fun _ Aq=>cy U (aP fun BG=>?_) (aQ fun BG=>?_)
 ·refine WK Aq<|ai fun _ Ar=>ax<|WS fun _ As=>?_
  obtain ⟨y,hy⟩:=aL (fR (gM r h i (aa.mk lo up)) k) q om
  have BX:=bH iC hy
  refine rS (IA q U (ag (n:=(fR (gM r h i (aa.mk lo up)) k).length) 0 U sm) cv dc om om)<|rS (gp q 0 (vI y) U b_ (ag (n:=(fR (gM r h i (aa.mk lo up)) k).length) 0 U sm) BX U dc U)<|a_ 1 U<|RK As<|WS fun _ At=>rP 2 [] I ?_
  refine rS (CL (Qq (fR r k) BE BF y sd) (aq (ag (n:=(fR r k).length) 1 U sm)<|aJ) U) ?_
  refine rP 1 [] I ?_
  refine RK At<|cy U (bk fun AB=>?_) (bj fun AB=>?_)
  ·exact absurd (w.2.2.2 y (aT hy)) AB
  refine bV<|aG<|KK Ar<|ak<|rP 2 [] I ?_
  refine aF ?_
  have A5:(vI (((q+1):Nat):Int))=(vI ((q:Int)+1)):=by exact cI om
  refine aR (AP ⟨(q+1),(by first|omega|(simp only []; omega))⟩ _ _ _ U os (cO 11<|bo U A5<|dw.nil _) (aI [0,1,2,3,4,5,6,7,8,9,10,11,12,13,14,15,16,17,18,19,20,21,22,23]))
 refine bw<|ab<|ab<|ay<|KK An<|WS fun _ Au=>rP 1 [] I ?_
 refine iH (kV:=iV) (m:=bG db (aA r)) 2 U U l8 U ⟨U,fun h=>h⟩ (by exact jW 2 U) U fun BZ=>?_
 try dsimp only
 refine RK Au<|ax ?_
 have A:(∀ p∈(aA r),p∈aA r):=by exact fun p hp=>hp
 refine bK (ι:={z:gF // (∀ p∈z,p∈aA r)}) [4,9,16,18,19,20,113,153] [1,2,3,4,5,6,7,8,9,10,11,12,13,14,15,16,17,18,19,20,21,22,23,24] U U (fun z=>[]) (fun z=>[(yf iV BZ e (bG db (aA r)) (bG db z.1) none)]) (fun _=>rfl) (fun _=>rfl) (fun z=>z.1.length) ⟨(aA r),A⟩ (dw.nil _) (aI [1,2,3,4,5,6,7,8,9,10,11,12,13,14,15,16,17,18,19,20,21,22,23,24,0]) ?_
 clear A
 rintro ⟨D,B⟩ J82 K
 try dsimp only
 refine WS fun _ AI=>g9 (dK oz).inj (f:=db) 24 U U U U (fun Bf=>?_) (fun j s2 P B0=>?_)
 ·refine rP 1 [] I ?_
  refine RK AI<|ai fun _ Bh=>aW U<|bw<|ab<|ab<|ay<|aG<|fP 23 U ep U ?_
  refine aR (AO ⟨(cj left k),(eG F)⟩ _ _ _ U (dF hm) (aS U) (aI [2,3,4,5,6,7,8,9,10,11,12,13,14,15,16,17,18,19,20,21,22,23]))
 try dsimp only
 refine a_ 1 U<|RK AI<|ai fun _ Av=>aO U<|WK Av<|ax<|WS fun _ Aw=>rS (SX (g8 24 U U U) U U)<|a_ 2 U<|RK Aw<|ai fun _ Ax=>WS fun _ Ay=>rP 3 [] I ?_
 refine RK Ay<|cy U (aP fun AC=>?_) (aQ fun AC=>?_)
 ·refine bw<|ab<|ay<|fP 24 U ep U ?_
  refine aR (K ⟨(cj D j),(eG B)⟩ _ _ _ U (dF P) (aS U) (aI [0,1,2,3,4,5,6,7,8,9,10,11,12,13,14,15,16,17,18,19,20,21,22,23,24]))
 refine WK Ax<|ai fun _ Az=>?_
 have E:=On C.2 BA rfl A9 (F _ hm) (B _ P) AC
 refine ak<|rP 3 [] (mc 12 U I) ?_
 refine rS (CL (xx k j r kA kC az cA cC bA bC slA slC drA drC ha heA heC sd) (bf [13,14,15,16,17,18,19,20,21]) U) ?_
 refine a_ 5 U<|RK Az<|WS fun _ A0=>rP 3 [] (mc 3 U I) ?_
 refine rS (CL (xx k j (gM r h i (aa.mk lo up)) R Y X S Z T a B3 b V c u W d (by exact l)) (fq 13 U U<|aq (ag (n:=r.an.aN.length) 4 U (by first|(simp; done)|(rw [List.length_map]; rfl)))<|aq (ag (n:=r.an.aj.length) 5 U (gE g))<|aq (dy 6 U gZ)<|aq (ag (n:=r.an.ae.length) 7 U (by first|(simp; done)|(rw [List.length_map]; rfl)))<|aq (ag (n:=r.aK.length) 8 U (by first|(simp; done)|(rw [List.length_map]; rfl)))<|aq (ag (n:=r.bL.length) 9 U (by first|(simp; done)|(rw [List.length_map]; rfl)))<|aq (ag (n:=(fz r.ar h i (aa.mk lo up)).length) 10 U (eL L.1))<|aq (gr 11 U L)<|aJ) U) ?_
 refine a_ 5 U<|RK A0<|WS fun _ A1=>rP 3 [] (mc 12 U I) ?_
 refine rS (CL (Dx k j r kA kC az cA cC bA bC slA slC drA drC ha heA heC sd) (bf [13,14,15,16,17,18,19,20,21]) U) ?_
 refine a_ 5 U<|RK A1<|WS fun _ A2=>rP 3 [] (mc 3 U I) ?_
 refine rS (CL (Dx k j (gM r h i (aa.mk lo up)) R Y X S Z T a B3 b V c u W d (by exact l)) (fq 13 U U<|aq (ag (n:=r.an.aN.length) 4 U (by first|(simp; done)|(rw [List.length_map]; rfl)))<|aq (ag (n:=r.an.aj.length) 5 U (gE g))<|aq (dy 6 U gZ)<|aq (ag (n:=r.an.ae.length) 7 U (by first|(simp; done)|(rw [List.length_map]; rfl)))<|aq (ag (n:=r.aK.length) 8 U (by first|(simp; done)|(rw [List.length_map]; rfl)))<|aq (ag (n:=r.bL.length) 9 U (by first|(simp; done)|(rw [List.length_map]; rfl)))<|aq (ag (n:=(fz r.ar h i (aa.mk lo up)).length) 10 U (eL L.1))<|aq (gr 11 U L)<|aJ) U) ?_
 refine a_ 5 U<|RK A2<|WS fun _ M=>rP 3 [] I ?_
 refine cN (t:=191) U (bk fun AD=>?_) (bj fun AD=>?_)
 ·exact absurd (E.1) AD
 refine rP 4 [] I ?_
 refine cN (t:=195) U (bk fun AE=>?_) (bj fun AE=>?_)
 ·exact absurd (E.2.1) AE
 refine a_ 2 U<|rS (BI U j6)<|rP 1 [] I ?_
 refine bZ (t:=199) U (bj fun AF=>?_) (bk fun AF=>?_)
 ·refine rP 9 [] I ?_
  refine cN (t:=208) U (bk fun G=>?_) (bj fun G=>?_)
  ·exact absurd (E.1) G
  refine rP 4 [] I ?_
  refine cN (t:=212) U (bk fun H=>?_) (bj fun H=>?_)
  ·exact absurd (E.2.1) H
  refine a_ 2 U<|rS (BI U j6)<|rP 1 [] I ?_
  refine bZ (t:=216) U (bj fun B4=>?_) (bk fun B4=>?_)
  ·refine rP 4 [] I ?_
   refine RK M<|aW U<|bV<|aG<|fP 24 U ep U ?_
   refine aR (K ⟨(cj D j),(eG B)⟩ _ _ _ U (dF P) (aS U) (aI [0,1,2,3,4,5,6,7,8,9,10,11,12,13,14,15,16,17,18,19,20,21,22,23,24]))
  refine a_ 1 U<|rS (BI U j6)<|rP 2 [] I ?_
  refine RK M<|cy U (bk fun J=>?_) (bj fun J=>?_)
  ·exact (E.2.2.2.elim (fun q=>B4 q) (fun q=>J q)).elim
  refine bV<|aG<|fP 24 U ep U ?_
  refine aR (K ⟨(cj D j),(eG B)⟩ _ _ _ U (dF P) (aS U) (aI [0,1,2,3,4,5,6,7,8,9,10,11,12,13,14,15,16,17,18,19,20,21,22,23,24]))
 refine a_ 1 U<|rS (BI U j6)<|rP 3 [] I ?_
 refine cN (t:=204) U (bk fun AG=>?_) (bj fun AG=>?_)
 ·exact (E.2.2.1.elim (fun q=>AF q) (fun q=>AG q)).elim
 refine rP 4 [] I ?_
 refine cN (t:=208) U (bk fun G=>?_) (bj fun G=>?_)
 ·exact absurd (E.1) G
 refine rP 4 [] I ?_
 refine cN (t:=212) U (bk fun H=>?_) (bj fun H=>?_)
 ·exact absurd (E.2.1) H
 refine a_ 2 U<|rS (BI U j6)<|rP 1 [] I ?_
 refine bZ (t:=216) U (bj fun B4=>?_) (bk fun B4=>?_)
 ·refine rP 4 [] I ?_
  refine RK M<|aW U<|bV<|aG<|fP 24 U ep U ?_
  refine aR (K ⟨(cj D j),(eG B)⟩ _ _ _ U (dF P) (aS U) (aI [0,1,2,3,4,5,6,7,8,9,10,11,12,13,14,15,16,17,18,19,20,21,22,23,24]))
 refine a_ 1 U<|rS (BI U j6)<|rP 2 [] I ?_
 refine RK M<|cy U (bk fun J=>?_) (bj fun J=>?_)
 ·exact (E.2.2.2.elim (fun q=>B4 q) (fun q=>J q)).elim
 refine bV<|aG<|fP 24 U ep U ?_
 refine aR (K ⟨(cj D j),(eG B)⟩ _ _ _ U (dF P) (aS U) (aI [0,1,2,3,4,5,6,7,8,9,10,11,12,13,14,15,16,17,18,19,20,21,22,23,24]))
end
section
open Go.RowKit
def iz {α:Type} (cells:α→List Value) (sz:Nat) (R:World→α→Prop) (w:World) (s:bp):Prop:= ∃ l:List α,s.n=l.length∧(rd s.a l.length sz (l.map cells)).holds w∧(∀ x∈l,R w x)∧l.length≤maxLen∧s.n≤s.c
theorem vp {w:World} {R:World→cw→Prop}: ∀ {l:List dk},(∀ x∈l,iz cw.cells 3 R w x.br)→ ∃ (ms:List av) (az:List RA),l.map dk.cells=List.zipWith av.cells ms az∧ms.length=l.length∧az.length=l.length∧(∀ X∈aU av.g0 ms az,X.holds w)∧
 (∀ (k:Nat) m (a:RA),ms[k]? =some m→az[k]? =some a→m.br.length≤a.2∧m.br.length≤9223372036854775807)∧ms.map (fun m=>m.de)=l.map (fun x=>x.de)∧ ∀ (k:Nat) m y,ms[k]? =some m→y∈m.br→R w y
 |[],_=>⟨[],[],rfl,rfl,rfl,(fun X hX=>by cases hX),(fun k m a h=>by simp at h),rfl,(fun k m y h=>by simp at h)⟩
 |x::l,h=>by
  obtain ⟨ms,az,E,F,G,H,AA,J,K⟩:=vp (fun y hy=>h y (cS _ hy))
  obtain ⟨sy,A,B,C,D,L⟩:=h x sm
  have e4':sy.length≤9223372036854775807:=D
  refine ⟨⟨x.de,sy⟩::ms,(x.br.a,x.br.c)::az,?_,by simp [F],by simp [G],fun X hX=>?_,fun k m a hm ha=>?_,by simp [J],fun k m y hm hy=>?_⟩
  ·obtain ⟨dr,⟨a,n,c⟩⟩:=x
   simp only at A
   subst A
   simp only [List.map_cons,List.zipWith_cons_cons,E]
   rfl
  ·rcases List.mem_append.1 hX with hX|hX
   ·simp only [av.g0,bR] at hX
    subst hX; exact B
   ·exact H X hX
  ·cases k with
   |zero=>
    simp only [List.getElem?_cons_zero,Option.some.injEq] at hm ha
    subst hm ha
    exact ⟨by simp only; omega,e4'⟩
   |succ k=>exact AA k m a (by simpa using hm) (by simpa using ha)
  ·cases k with
   |zero=>
    simp only [List.getElem?_cons_zero,Option.some.injEq] at hm
    subst hm
    exact C y hy
   |succ k=>exact K k m y (by simpa using hm) hy
theorem GC {w:World} {s:cb} {R1:World→al→Prop} {R2:World→dk→Prop} {R3:World→bB→Prop} {R4:World→cw→Prop} (h1:iz al.cells 9 R1 w s.aN.kO) (hs: ∀ x,R1 w x→0≤x.iX∧x.iX≤255) (h2:iz dk.cells 2 R2 w s.aj) (hc: ∀ x,R2 w x→iz cw.cells 3 R4 w x.br) (h3:iz bB.cells 4 R3 w s.ae):
 ∃ (l:aX) (az:List RA) (kA:OA) (kC:Nat) (cA:OA) (cC:Nat) (bA:OA) (bC:Nat),s=cb.mk (bD.mk (bp.mk kA l.aN.length kC)) l.gT (bp.mk cA l.aj.length cC) (bp.mk bA l.ae.length bC) l.cu l.eM l.cQ∧th l az∧
  ((rd kA l.aN.length 9 (l.aN.map al.cells)).holds w∧(rd cA l.aj.length 2 (List.zipWith av.cells l.aj az)).holds w∧(e7 (aU av.g0 l.aj az)).holds w∧(rd bA l.ae.length 4 (l.ae.map bB.cells)).holds w)∧l.gT=s.gT∧l.cu=s.cu∧l.eM=s.eM∧l.cQ=s.cQ:=by
 obtain ⟨⟨⟨ka,kn,kc⟩⟩,fa,⟨ca,cn,cc⟩,⟨ba,bn,bc⟩,fi,fk,mi⟩:=s
 obtain ⟨ts,E,M,N,O,T⟩:=h1
 obtain ⟨cs,B,C,H,AA,R⟩:=h2
 obtain ⟨bs,A,F,P,G,Q⟩:=h3
 simp only at E B A
 subst E B A
 obtain ⟨ms,az,J,D,S,K,L,_⟩:=vp (fun x hx=>hc x (H x hx))
 have t4':ts.length≤9223372036854775807:=O
 have c4':cs.length≤9223372036854775807:=AA
 have b4':bs.length≤9223372036854775807:=G
 refine ⟨⟨ts,fa,ms,bs,fi,fk,mi⟩,az,ka,kc,ca,cc,ba,bc,by simp only [D],⟨t4',fun x hx=>hs x (N x hx),by simp only; omega,by simp only; omega,b4',L⟩,⟨M,?_,K,F⟩,U,U,U,U⟩
 simp only at C ⊢
 rw [D,← J]; exact C
end
section
open Go.RowKit
theorem w9 {w:World} {R:World→aM→Prop}: ∀ {l:List bq},(∀ x∈l,iz aM.cells 2 R w x.ct.ah)→ ∃ (ms:List aw) (az:List RA),l.map bq.cells=List.zipWith aw.cells ms az∧ms.length=l.length∧az.length=l.length∧(∀ X∈aU aw.g0 ms az,X.holds w)∧
 ∀ d∈ms,d.ct.ah.length≤9223372036854775807
 |[],_=>⟨[],[],rfl,rfl,rfl,(fun X hX=>by cases hX),fun d h=>by cases h⟩
 |x::l,h=>by
  obtain ⟨ms,az,D,E,F,G,H⟩:=w9 (fun y hy=>h y (cS _ hy))
  obtain ⟨sg,A,B,AA,C,J⟩:=h x sm
  have e4':sg.length≤9223372036854775807:=C
  refine ⟨⟨x.Out,x.eK,x.Time,⟨x.ct.Start,x.ct.f_,sg⟩⟩::ms,(x.ct.ah.a,x.ct.ah.c)::az,?_,by simp [E],by simp [F],fun X hX=>?_,fun d hd=>?_⟩
  ·obtain ⟨o,f,t,⟨st,nw,⟨a,n,c⟩⟩⟩:=x
   simp only at A
   subst A
   simp only [List.map_cons,List.zipWith_cons_cons,D]
   rfl
  ·rcases List.mem_append.1 hX with hX|hX
   ·simp only [aw.g0,bR] at hX
    subst hX; exact B
   ·exact G X hX
  ·rcases List.mem_cons.1 hd with rfl|hd
   ·exact e4'
   ·exact H d hd
theorem wE {w:World} {R2:World→bq→Prop} {R:World→aM→Prop} (hc: ∀ x,R2 w x→iz aM.cells 2 R w x.ct.ah): ∀ {l:List bp},(∀ x∈l,iz bq.cells 7 R2 w x)→ ∃ (ms:List (List aw)) (ha:List cM),(l.map fun s=>[vS s.a s.n s.c])=List.zipWith cJ ms ha∧ms.length=l.length∧ha.length=l.length∧(∀ X∈aU im ms ha,X.holds w)∧
 ∀ (k:Nat) h (a:cM),ms[k]? =some h→ha[k]? =some a→h.length≤9223372036854775807∧a.2.length=h.length∧ ∀ d∈h,d.ct.ah.length≤9223372036854775807
 |[],_=>⟨[],[],rfl,rfl,rfl,(fun X hX=>by cases hX),(fun k h a q=>by simp at q)⟩
 |x::l,h=>by
  obtain ⟨ms,ha,J,K,L,M,N⟩:=wE hc (fun y hy=>h y (cS _ hy))
  obtain ⟨ds,C,G,H,AA,P⟩:=h x sm
  obtain ⟨dm,az,D,B,O,E,F⟩:=w9 fun y hy=>hc y (H y hy)
  have e4':ds.length≤9223372036854775807:=AA
  refine ⟨dm::ms,((x.a,x.c),az)::ha,?_,by simp [K],by simp [L],fun X hX=>?_,fun k m a hm A=>?_⟩
  ·obtain ⟨a,n,c⟩:=x
   simp only at C
   subst C
   simp only [List.map_cons,List.zipWith_cons_cons,J,cJ,B]
  ·rcases List.mem_append.1 hX with hX|hX
   ·unfold im at hX
    rcases List.mem_cons.1 hX with rfl|hX
    ·simp only
     rw [B,← D]; exact G
    ·exact E X hX
   ·exact M X hX
  ·cases k with
   |zero=>
    simp only [List.getElem?_cons_zero,Option.some.injEq] at hm A
    subst hm A
    exact ⟨om,by simp only; omega,F⟩
   |succ k=>exact N k m a (by simpa using hm) (by simpa using A)
theorem GY {w:World} {s:cm} {R1:World→al→Prop} {R2:World→dk→Prop} {R3:World→bB→Prop} {R4:World→cw→Prop} {R5:World→Int→Prop} {R6:World→bp→Prop} {R7:World→bq→Prop} {R8:World→aM→Prop}
 (h1:iz al.cells 9 R1 w s.an.aN.kO) (hs: ∀ x,R1 w x→0≤x.iX∧x.iX≤255) (h2:iz dk.cells 2 R2 w s.an.aj) (hc: ∀ x,R2 w x→iz cw.cells 3 R4 w x.br) (h3:iz bB.cells 4 R3 w s.an.ae)
 (h4:iz iC 1 R5 w s.aK) (h5:iz iC 1 R5 w s.bL) (h6:iz (fun s=>[vS s.a s.n s.c]) 1 R6 w s.ar) (h7: ∀ x,R6 w x→iz bq.cells 7 R7 w x) (h8: ∀ x,R7 w x→iz aM.cells 2 R8 w x.ct.ah):
 ∃ (r:bT) (az:List RA) (ha:List cM) (kA:OA) (kC:Nat) (cA:OA) (cC:Nat) (bA:OA) (bC:Nat) (slA:OA) (slC:Nat) (drA:OA) (drC:Nat) (heA:OA) (heC:Nat),
  s=cm.mk (cb.mk (bD.mk (bp.mk kA r.an.aN.length kC)) r.an.gT (bp.mk cA r.an.aj.length cC) (bp.mk bA r.an.ae.length bC) r.an.cu r.an.eM r.an.cQ) (bp.mk slA r.aK.length slC) (bp.mk drA r.bL.length drC) r.ik (bp.mk heA r.ar.length heC)∧ru r az ha∧
  ((rd kA r.an.aN.length 9 (r.an.aN.map al.cells)).holds w∧(rd cA r.an.aj.length 2 (List.zipWith av.cells r.an.aj az)).holds w∧(e7 (aU av.g0 r.an.aj az)).holds w∧(rd bA r.an.ae.length 4 (r.an.ae.map bB.cells)).holds w∧
   (rd slA r.aK.length 1 (r.aK.map iC)).holds w∧(rd drA r.bL.length 1 (r.bL.map iC)).holds w∧(rd heA r.ar.length 1 (List.zipWith cJ r.ar ha)).holds w∧(e7 (aU im r.ar ha)).holds w):=by
 obtain ⟨ln,⟨sa,sn,sc⟩,⟨da,dn,dc⟩,tu,⟨ea,en,ec⟩⟩:=s
 obtain ⟨l,az,kA,kC,cA,cC,bA,bC,e,A,hh,_⟩:=GC (s:=ln) h1 hs h2 hc h3
 subst e
 obtain ⟨sl,F,N,T,O,AA⟩:=h4
 obtain ⟨dr,B,G,P,H,Q⟩:=h5
 obtain ⟨he,D,E,L,M,S⟩:=h6
 obtain ⟨ms,ha,AB,C,R,J,K⟩:=wE h8 (fun x hx=>h7 x (L x hx))
 simp only at F B D
 subst F B D
 have s4':sl.length≤9223372036854775807:=O
 have d4':dr.length≤9223372036854775807:=H
 have q4':he.length≤9223372036854775807:=M
 refine ⟨⟨l,sl,dr,tu,ms⟩,az,ha,kA,kC,cA,cC,bA,bC,sa,sc,da,dc,ea,ec,by simp only [C],⟨A,s4',d4',by simp only; omega,by simp only; omega,K⟩,hh.1,hh.2.1,hh.2.2.1,hh.2.2.2,N,G,?_,J⟩
 simp only at E ⊢
 rw [C,← AB]; exact E
end
section
open Go.ChangeShapes Go.WideShapes Go.ChangeAt Go.RowKit
theorem UW:Tryz.prog.cellsOf 35=11:=by kernel_rfl
theorem Ts:Tryz.prog.cellsOf 31=7:=by kernel_rfl
theorem Se:Tryz.prog.cellsOf 27=1:=by kernel_rfl
theorem Vk:Tryz.prog.cellsOf 25=1:=by kernel_rfl
theorem OY:Tryz.prog.cellsOf 114=9:=by kernel_rfl
theorem AV:Tryz.prog.cellsOf 3=1:=by kernel_rfl
def zn (w:World) (n:Int):Prop:=qK n
theorem AY:rf Tryz.prog 3 Int iC zn:=PH oz
theorem EP:Tryz.prog.cellsOf 40=2:=by kernel_rfl
structure Dr (w:World) (s:aa):Prop where
 Lo:zn w s.Lo
 Hi:zn w s.Hi
theorem UG:fL Tryz.prog 40=some [(3,0),(3,1)]:=by kernel_rfl
theorem Gv:rf Tryz.prog 40 aa aa.cells Dr:=fun {H} enc w base sp A fuel cs x h=>by
 obtain ⟨hl,hp⟩:=jn UG h
 obtain ⟨M,O,F⟩:=hp 0 3 0 rfl
 obtain ⟨K,B,AA⟩:=AY _ _ _ _ _ _ _ _ F
 obtain ⟨N,P,G⟩:=hp 1 3 1 rfl
 obtain ⟨L,C,J⟩:=AY _ _ _ _ _ _ _ _ G
 refine ⟨⟨K,L⟩,?_,⟨AA,J⟩⟩
 have E:=gS (hl.trans EP) (by rw [AV]) C
 have D:=dh B (m:=1) (by rw [AV]) E
 exact D
theorem VP:Tryz.prog.cellsOf 5=1:=by kernel_rfl
def VA (w:World) (n:Int):Prop:=0≤n∧n≤255
theorem VG:rf Tryz.prog 5 Int IS VA:=RH O2
structure KU (w:World) (s:al):Prop where
 Id:zn w s.Id
 ks:Dr w s.ks
 lU:Dr w s.lU
 eE:Dr w s.eE
 iX:VA w s.iX
 Av:zn w s.Av
theorem Rq:fL Tryz.prog 114=some [(3,0),(40,1),(40,3),(40,5),(5,7),(3,8)]:=by kernel_rfl
theorem Tq:rf Tryz.prog 114 al al.cells KU:=fun {H} enc w base sp A fuel cs x h=>by
 obtain ⟨hl,hp⟩:=jn Rq h
 obtain ⟨g,o,O⟩:=hp 0 3 0 rfl
 obtain ⟨a,B,AA⟩:=AY _ _ _ _ _ _ _ _ O
 obtain ⟨i,p,P⟩:=hp 1 40 1 rfl
 obtain ⟨b,C,V⟩:=Gv _ _ _ _ _ _ _ _ P
 obtain ⟨j,q,Q⟩:=hp 2 40 3 rfl
 obtain ⟨c,D,W⟩:=Gv _ _ _ _ _ _ _ _ Q
 obtain ⟨k,r,R⟩:=hp 3 40 5 rfl
 obtain ⟨d,E,X⟩:=Gv _ _ _ _ _ _ _ _ R
 obtain ⟨l,s,S⟩:=hp 4 5 7 rfl
 obtain ⟨e,F,Y⟩:=VG _ _ _ _ _ _ _ _ S
 obtain ⟨n,t,T⟩:=hp 5 3 8 rfl
 obtain ⟨f,G,Z⟩:=AY _ _ _ _ _ _ _ _ T
 refine ⟨⟨a,b,c,d,e,f⟩,?_,⟨AA,V,W,X,Y,Z⟩⟩
 have N:=gS (hl.trans OY) (by rw [AV]) G
 have M:=dh F (m:=8) (by rw [VP]) N
 have L:=dh E (m:=7) (by rw [EP]) M
 have K:=dh D (m:=5) (by rw [EP]) L
 have J:=dh C (m:=3) (by rw [EP]) K
 have AB:=dh B (m:=1) (by rw [AV]) J
 exact AB
def SZ (w:World) (s:bp):Prop:= ∃ l:List al,s.n=l.length∧(rd s.a l.length 9 (l.map al.cells)).holds w∧(∀ x∈l,KU w x)∧l.length≤maxLen∧s.n≤s.c
theorem Uu:rf Tryz.prog 25 bp (fun s=>[vS s.a s.n s.c]) SZ:=k9 PC OY Tq
structure RG (w:World) (s:bD):Prop where
 kO:SZ w s.kO
theorem Ui:fL Tryz.prog 27=some [(25,0)]:=by kernel_rfl
theorem Vt:rf Tryz.prog 27 bD bD.cells RG:=fun {H} enc w base sp A fuel cs x h=>by
 obtain ⟨hl,hp⟩:=jn Ui h
 obtain ⟨G,AA,D⟩:=hp 0 25 0 rfl
 obtain ⟨F,B,E⟩:=Uu _ _ _ _ _ _ _ _ D
 refine ⟨⟨F⟩,?_,⟨E⟩⟩
 have C:=gS (hl.trans Se) (by rw [Vk]) B
 exact C
theorem U9:Tryz.prog.cellsOf 28=1:=by kernel_rfl
theorem Pb:Tryz.prog.cellsOf 119=2:=by kernel_rfl
theorem Rj:Tryz.prog.cellsOf 117=1:=by kernel_rfl
theorem Pc:Tryz.prog.cellsOf 116=3:=by kernel_rfl
structure Lz (w:World) (s:cw):Prop where
 At:zn w s.At
 ei:Dr w s.ei
theorem Sk:fL Tryz.prog 116=some [(3,0),(40,1)]:=by kernel_rfl
theorem RR:rf Tryz.prog 116 cw cw.cells Lz:=fun {H} enc w base sp A fuel cs x h=>by
 obtain ⟨hl,hp⟩:=jn Sk h
 obtain ⟨M,O,F⟩:=hp 0 3 0 rfl
 obtain ⟨K,B,AA⟩:=AY _ _ _ _ _ _ _ _ F
 obtain ⟨N,P,G⟩:=hp 1 40 1 rfl
 obtain ⟨L,C,J⟩:=Gv _ _ _ _ _ _ _ _ G
 refine ⟨⟨K,L⟩,?_,⟨AA,J⟩⟩
 have E:=gS (hl.trans Pc) (by rw [EP]) C
 have D:=dh B (m:=1) (by rw [AV]) E
 exact D
def OW (w:World) (s:bp):Prop:= ∃ l:List cw,s.n=l.length∧(rd s.a l.length 3 (l.map cw.cells)).holds w∧(∀ x∈l,Lz w x)∧l.length≤maxLen∧s.n≤s.c
theorem Ri:rf Tryz.prog 117 bp (fun s=>[vS s.a s.n s.c]) OW:=k9 Pf Pc RR
structure Ju (w:World) (s:dk):Prop where
 de:zn w s.de
 br:OW w s.br
theorem Rp:fL Tryz.prog 119=some [(3,0),(117,1)]:=by kernel_rfl
theorem Rz:rf Tryz.prog 119 dk dk.cells Ju:=fun {H} enc w base sp A fuel cs x h=>by
 obtain ⟨hl,hp⟩:=jn Rp h
 obtain ⟨M,O,F⟩:=hp 0 3 0 rfl
 obtain ⟨K,B,AA⟩:=AY _ _ _ _ _ _ _ _ F
 obtain ⟨N,P,G⟩:=hp 1 117 1 rfl
 obtain ⟨L,C,J⟩:=Ri _ _ _ _ _ _ _ _ G
 refine ⟨⟨K,L⟩,?_,⟨AA,J⟩⟩
 have E:=gS (hl.trans Pb) (by rw [Rj]) C
 have D:=dh B (m:=1) (by rw [AV]) E
 exact D
def Tf (w:World) (s:bp):Prop:= ∃ l:List dk,s.n=l.length∧(rd s.a l.length 2 (l.map dk.cells)).holds w∧(∀ x∈l,Ju w x)∧l.length≤maxLen∧s.n≤s.c
theorem U8:rf Tryz.prog 28 bp (fun s=>[vS s.a s.n s.c]) Tf:=k9 Tp Pb Rz
theorem UC:Tryz.prog.cellsOf 29=1:=by kernel_rfl
theorem Pj:Tryz.prog.cellsOf 121=4:=by kernel_rfl
theorem OT:Tryz.prog.cellsOf 111=3:=by kernel_rfl
structure O1 (w:World) (s:cD):Prop where
 aY:zn w s.aY
 mB:Dr w s.mB
theorem Tw:fL Tryz.prog 111=some [(3,0),(40,1)]:=by kernel_rfl
theorem Ry:rf Tryz.prog 111 cD cD.cells O1:=fun {H} enc w base sp A fuel cs x h=>by
 obtain ⟨hl,hp⟩:=jn Tw h
 obtain ⟨M,O,F⟩:=hp 0 3 0 rfl
 obtain ⟨K,B,AA⟩:=AY _ _ _ _ _ _ _ _ F
 obtain ⟨N,P,G⟩:=hp 1 40 1 rfl
 obtain ⟨L,C,J⟩:=Gv _ _ _ _ _ _ _ _ G
 refine ⟨⟨K,L⟩,?_,⟨AA,J⟩⟩
 have E:=gS (hl.trans OT) (by rw [EP]) C
 have D:=dh B (m:=1) (by rw [AV]) E
 exact D
structure JY (w:World) (s:bB):Prop where
 mC:O1 w s.mC
 jG:zn w s.jG
theorem Rd:fL Tryz.prog 121=some [(111,0),(3,3)]:=by kernel_rfl
theorem Sa:rf Tryz.prog 121 bB bB.cells JY:=fun {H} enc w base sp A fuel cs x h=>by
 obtain ⟨hl,hp⟩:=jn Rd h
 obtain ⟨M,O,F⟩:=hp 0 111 0 rfl
 obtain ⟨K,B,AA⟩:=Ry _ _ _ _ _ _ _ _ F
 obtain ⟨N,P,G⟩:=hp 1 3 3 rfl
 obtain ⟨L,C,J⟩:=AY _ _ _ _ _ _ _ _ G
 refine ⟨⟨K,L⟩,?_,⟨AA,J⟩⟩
 have E:=gS (hl.trans Pj) (by rw [AV]) C
 have D:=dh B (m:=3) (by rw [OT]) E
 exact D
def Sx (w:World) (s:bp):Prop:= ∃ l:List bB,s.n=l.length∧(rd s.a l.length 4 (l.map bB.cells)).holds w∧(∀ x∈l,JY w x)∧l.length≤maxLen∧s.n≤s.c
theorem Vh:rf Tryz.prog 29 bp (fun s=>[vS s.a s.n s.c]) Sx:=k9 Qf Pj Sa
structure Re (w:World) (s:cb):Prop where
 aN:RG w s.aN
 gT:zn w s.gT
 aj:Tf w s.aj
 ae:Sx w s.ae
 cu:zn w s.cu
 eM:zn w s.eM
 cQ:zn w s.cQ
theorem Uz:fL Tryz.prog 31=some [(27,0),(3,1),(28,2),(29,3),(3,4),(3,5),(3,6)]:=by kernel_rfl
theorem Vi:rf Tryz.prog 31 cb cb.cells Re:=fun {H} enc w base sp A fuel cs x h=>by
 obtain ⟨hl,hp⟩:=jn Uz h
 obtain ⟨n,u,Q⟩:=hp 0 27 0 rfl
 obtain ⟨e,B,X⟩:=Vt _ _ _ _ _ _ _ _ Q
 obtain ⟨o,v,R⟩:=hp 1 3 1 rfl
 obtain ⟨f,C,Y⟩:=AY _ _ _ _ _ _ _ _ R
 obtain ⟨p,y,S⟩:=hp 2 28 2 rfl
 obtain ⟨g,D,Z⟩:=U8 _ _ _ _ _ _ _ _ S
 obtain ⟨q,z,T⟩:=hp 3 29 3 rfl
 obtain ⟨i,E,a⟩:=Vh _ _ _ _ _ _ _ _ T
 obtain ⟨r,y4,AA⟩:=hp 4 3 4 rfl
 obtain ⟨j,F,b⟩:=AY _ _ _ _ _ _ _ _ AA
 obtain ⟨s,y5,V⟩:=hp 5 3 5 rfl
 obtain ⟨k,G,c⟩:=AY _ _ _ _ _ _ _ _ V
 obtain ⟨t,y6,W⟩:=hp 6 3 6 rfl
 obtain ⟨l,AB,d⟩:=AY _ _ _ _ _ _ _ _ W
 refine ⟨⟨e,f,g,i,j,k,l⟩,?_,⟨X,Y,Z,a,b,c,d⟩⟩
 have P:=gS (hl.trans Ts) (by rw [AV]) AB
 have O:=dh G (m:=6) (by rw [AV]) P
 have N:=dh F (m:=5) (by rw [AV]) O
 have M:=dh E (m:=4) (by rw [UC]) N
 have L:=dh D (m:=3) (by rw [U9]) M
 have K:=dh C (m:=2) (by rw [AV]) L
 have J:=dh B (m:=1) (by rw [Se]) K
 exact J
theorem Sw:Tryz.prog.cellsOf 32=1:=by kernel_rfl
def P7 (w:World) (s:bp):Prop:= ∃ l:List Int,s.n=l.length∧(rd s.a l.length 1 (l.map iC)).holds w∧(∀ x∈l,zn w x)∧l.length≤maxLen∧s.n≤s.c
theorem Rb:rf Tryz.prog 32 bp (fun s=>[vS s.a s.n s.c]) P7:=k9 SV AV AY
theorem Vn:Tryz.prog.cellsOf 33=1:=by kernel_rfl
theorem TZ:Tryz.prog.cellsOf 46=1:=by kernel_rfl
theorem So:Tryz.prog.cellsOf 45=7:=by kernel_rfl
theorem Vw:Tryz.prog.cellsOf 4=1:=by kernel_rfl
def UM (w:World) (n:Bool):Prop:=True
theorem Vy:rf Tryz.prog 4 Bool (fun b=>[vB b]) UM:=Om VE
theorem Rn:Tryz.prog.cellsOf 43=3:=by kernel_rfl
theorem UE:Tryz.prog.cellsOf 41=1:=by kernel_rfl
theorem OP:Tryz.prog.cellsOf 123=2:=by kernel_rfl
structure Jn (w:World) (s:aM):Prop where
 gf:zn w s.gf
 Read:zn w s.Read
theorem Ru:fL Tryz.prog 123=some [(3,0),(3,1)]:=by kernel_rfl
theorem RZ:rf Tryz.prog 123 aM aM.cells Jn:=fun {H} enc w base sp A fuel cs x h=>by
 obtain ⟨hl,hp⟩:=jn Ru h
 obtain ⟨M,O,F⟩:=hp 0 3 0 rfl
 obtain ⟨K,B,AA⟩:=AY _ _ _ _ _ _ _ _ F
 obtain ⟨N,P,G⟩:=hp 1 3 1 rfl
 obtain ⟨L,C,J⟩:=AY _ _ _ _ _ _ _ _ G
 refine ⟨⟨K,L⟩,?_,⟨AA,J⟩⟩
 have E:=gS (hl.trans OP) (by rw [AV]) C
 have D:=dh B (m:=1) (by rw [AV]) E
 exact D
def Sv (w:World) (s:bp):Prop:= ∃ l:List aM,s.n=l.length∧(rd s.a l.length 2 (l.map aM.cells)).holds w∧(∀ x∈l,Jn w x)∧l.length≤maxLen∧s.n≤s.c
theorem TW:rf Tryz.prog 41 bp (fun s=>[vS s.a s.n s.c]) Sv:=k9 RM OP RZ
structure Rw (w:World) (s:eH):Prop where
 Start:zn w s.Start
 f_:zn w s.f_
 ah:Sv w s.ah
theorem Vl:fL Tryz.prog 43=some [(3,0),(3,1),(41,2)]:=by kernel_rfl
theorem Uc:rf Tryz.prog 43 eH eH.cells Rw:=fun {H} enc w base sp A fuel cs x h=>by
 obtain ⟨hl,hp⟩:=jn Vl h
 obtain ⟨R,AA,AB⟩:=hp 0 3 0 rfl
 obtain ⟨O,B,L⟩:=AY _ _ _ _ _ _ _ _ AB
 obtain ⟨S,V,J⟩:=hp 1 3 1 rfl
 obtain ⟨P,C,M⟩:=AY _ _ _ _ _ _ _ _ J
 obtain ⟨T,W,K⟩:=hp 2 41 2 rfl
 obtain ⟨Q,D,N⟩:=TW _ _ _ _ _ _ _ _ K
 refine ⟨⟨O,P,Q⟩,?_,⟨L,M,N⟩⟩
 have G:=gS (hl.trans Rn) (by rw [UE]) D
 have F:=dh C (m:=2) (by rw [AV]) G
 have E:=dh B (m:=1) (by rw [AV]) F
 exact E
structure Qn (w:World) (s:bq):Prop where
 Out:UM w s.Out
 eK:UM w s.eK
 Time:Dr w s.Time
 ct:Rw w s.ct
theorem UF:fL Tryz.prog 45=some [(4,0),(4,1),(40,2),(43,4)]:=by kernel_rfl
theorem Vf:rf Tryz.prog 45 bq bq.cells Qn:=fun {H} enc w base sp A fuel cs x h=>by
 obtain ⟨hl,hp⟩:=jn UF h
 obtain ⟨W,a,K⟩:=hp 0 4 0 rfl
 obtain ⟨S,B,O⟩:=Vy _ _ _ _ _ _ _ _ K
 obtain ⟨X,b,L⟩:=hp 1 4 1 rfl
 obtain ⟨T,C,P⟩:=Vy _ _ _ _ _ _ _ _ L
 obtain ⟨Y,c,M⟩:=hp 2 40 2 rfl
 obtain ⟨AA,D,Q⟩:=Gv _ _ _ _ _ _ _ _ M
 obtain ⟨Z,d,N⟩:=hp 3 43 4 rfl
 obtain ⟨V,E,R⟩:=Uc _ _ _ _ _ _ _ _ N
 refine ⟨⟨S,T,AA,V⟩,?_,⟨O,P,Q,R⟩⟩
 have J:=gS (hl.trans So) (by rw [Rn]) E
 have AB:=dh D (m:=4) (by rw [EP]) J
 have G:=dh C (m:=2) (by rw [Vw]) AB
 have F:=dh B (m:=1) (by rw [Vw]) G
 exact F
def PT (w:World) (s:bp):Prop:= ∃ l:List bq,s.n=l.length∧(rd s.a l.length 7 (l.map bq.cells)).holds w∧(∀ x∈l,Qn w x)∧l.length≤maxLen∧s.n≤s.c
theorem Vg:rf Tryz.prog 46 bp (fun s=>[vS s.a s.n s.c]) PT:=k9 Si So Vf
def Rr (w:World) (s:bp):Prop:= ∃ l:List bp,s.n=l.length∧(rd s.a l.length 1 (l.map (fun s=>[vS s.a s.n s.c]))).holds w∧(∀ x∈l,PT w x)∧l.length≤maxLen∧s.n≤s.c
theorem Ve:rf Tryz.prog 33 bp (fun s=>[vS s.a s.n s.c]) Rr:=k9 To TZ Vg
structure Ut (w:World) (s:cm):Prop where
 an:Re w s.an
 aK:P7 w s.aK
 bL:P7 w s.bL
 ik:zn w s.ik
 ar:Rr w s.ar
theorem SL:fL Tryz.prog 35=some [(31,0),(32,7),(32,8),(3,9),(33,10)]:=by kernel_rfl
theorem Vu:rf Tryz.prog 35 cm cm.cells Ut:=fun {H} enc w base sp A fuel cs x h=>by
 obtain ⟨hl,hp⟩:=jn SL h
 obtain ⟨b,g,M⟩:=hp 0 31 0 rfl
 obtain ⟨W,B,R⟩:=Vi _ _ _ _ _ _ _ _ M
 obtain ⟨c,i,N⟩:=hp 1 32 7 rfl
 obtain ⟨X,C,S⟩:=Rb _ _ _ _ _ _ _ _ N
 obtain ⟨d,j,O⟩:=hp 2 32 8 rfl
 obtain ⟨Y,D,T⟩:=Rb _ _ _ _ _ _ _ _ O
 obtain ⟨e,k,P⟩:=hp 3 3 9 rfl
 obtain ⟨Z,E,AA⟩:=AY _ _ _ _ _ _ _ _ P
 obtain ⟨f,l,Q⟩:=hp 4 33 10 rfl
 obtain ⟨a,F,V⟩:=Ve _ _ _ _ _ _ _ _ Q
 refine ⟨⟨W,X,Y,Z,a⟩,?_,⟨R,S,T,AA,V⟩⟩
 have L:=gS (hl.trans UW) (by rw [Vn]) F
 have K:=dh E (m:=10) (by rw [AV]) L
 have J:=dh D (m:=9) (by rw [Sw]) K
 have AB:=dh C (m:=8) (by rw [Sw]) J
 have G:=dh B (m:=7) (by rw [Ts]) AB
 exact G
theorem Sg:Tryz.prog.cellsOf 109=1:=by kernel_rfl
def OJ (w:World) (n:Int):Prop:=0≤n∧n≤4294967295
theorem Sr:rf Tryz.prog 109 Int rY OJ:=Qg OS
def TX (w:World) (s:bp):Prop:= ∃ l:List Int,s.n=l.length∧(rd s.a l.length 1 (l.map rY)).holds w∧(∀ x∈l,OJ w x)∧l.length≤maxLen∧s.n≤s.c
theorem T3:rf Tryz.prog 74 bp (fun s=>[vS s.a s.n s.c]) TX:=k9 Q9 Sg Sr
theorem uO:ownKnob Tryz.prog.godebug=none:=by kernel_rfl
theorem tS:laidOutB Tryz.prog=true:=by kernel_rfl
theorem rD (os:Os) (started:os.Started) (H:Type) (enc:TypeId×Value→H):
 ReturnsInHanded {} Tryz.checked os 6 .any (fun w args=>(Rows.raceNarrowedSpec.pre enc Tryz.prog Tryz.f6 [] false w args∧laidMetH Tryz.prog [("kreisel/race.table",Rows.laid_kreisel_race_table)] w)∧sizedMet enc Tryz.prog Tryz.f6 (OpenSpec.ofChange Rows.raceNarrowedSpec) false w args) (Rows.raceNarrowedSpec.post enc Tryz.prog Tryz.f6 false true false false):=by
 refine returnsInHanded_of_change_and (C:=Tryz.checked) (X:=(fun w _=>laidMetH Tryz.prog [("kreisel/race.table",Rows.laid_kreisel_race_table)] w)) (fun _ _ _ hh h=>h.of_heap hh) uO started kr Tryz.func6
  (ChangeSpec.witness_shaped (enc:=enc) (C:=Tryz.checked) (os:=os) (X:=(fun w _=>laidMetH Tryz.prog [("kreisel/race.table",Rows.laid_kreisel_race_table)] w)) false (World.doorLaid Tryz.prog 400 os) #[.agg #[(vS none 0 0),(vI 0),(vS none 0 0),(vS none 0 0),(vI 0),(vI 0),(vI 0),(vS none 0 0),(vS none 0 0),(vI 0),(vS none 0 0)],Value.int .u8 0,Value.int .u8 0,vS none 0 0] 8 rfl (World.shaped_of_RefB kr kr) kr kr kr (Dt os _)) ?_
 intro W base args ds gs before AB hW _ _ hL _
 have D: ∀ (j:Nat) t v,Tryz.f6.params[j]? =some t→args[j]? =some v→Value.okWide Tryz.prog W .any base t v:=AB
 have hW':=hW
 obtain ⟨p,q,O,hV,rfl,m,n⟩:=hW
 have hA:DataW.TrodAll enc Tryz.prog W 0 (fun _=>true) true Tryz.f6.params.toList args.toList ds p:=O
 have J:=hA
 rw [Tryz.params6] at hA D
 obtain ⟨AA,AC,d0,a,p0,q0,P,rfl,rfl,f,o⟩:=trodAll_cons hA
 obtain ⟨V,AD,d1,b,p1,q1,rfl,rfl,rfl,g,s⟩:=trodAll_cons o
 obtain ⟨Y,AE,d2,c,p2,q2,rfl,rfl,rfl,i,u⟩:=trodAll_cons s
 obtain ⟨Z,AF,d3,d,p3,q3,rfl,rfl,rfl,l,y⟩:=trodAll_cons u
 obtain ⟨rfl,rfl,rfl⟩:=trodAll_nil y
 obtain rfl:args= #[AA,V,Y,Z]:=by cases args; simp_all
 obtain ⟨rfl,rfl⟩:=trodVars_none hV
 obtain ⟨s0,rfl,R0⟩:=EL SL Vu (D 0 35 AA rfl rfl) f
 obtain ⟨z,rfl,R1⟩:=FZ (k:= .u8) O2 (D 1 5 V rfl rfl) g
 obtain ⟨s2,rfl,R2⟩:=FZ (k:= .u8) O2 (D 2 5 Y rfl rfl) i
 obtain ⟨s3,rfl,R3⟩:=GF T3 Q9 (D 3 74 Z rfl rfl) l
 simp only [List.append_nil] at hW' J
 have N:=yn hL
 obtain ⟨r,az,ha,kA,kC,cA,cC,bA,bC,S,T,drA,drC,Q,R,rfl,L,B⟩:=GY (R1:=KU) (R2:=Ju) (R3:=JY) (R4:=Lz) (R5:=zn) (R6:=PT) (R7:=Qn) (R8:=Jn) R0.an.aN.kO (fun x hx=>hx.iX) R0.an.aj (fun x hx=>hx.br) R0.an.ae R0.aK R0.bL R0.ar (fun x hx=>hx) (fun x hx=>hx.ct.ah)
 obtain ⟨lA,ln,lC⟩:=s3
 obtain ⟨bl,K,E,F,G⟩:=R3
 simp only at K E
 subst K
 have M:=(wX r kA kC az cA cC bA bC S T drA drC ha Q R z s2 bl lA lC L R1 R2 (fun x hx=>F x hx) G.1).run W (by intro A hA; simp only [ed,List.not_mem_nil,or_false] at hA; rcases hA with rfl|rfl|rfl|rfl|rfl|rfl|rfl|rfl|rfl|rfl; exact N; exact B.1; exact B.2.1; exact B.2.2.1; exact B.2.2.2.1; exact B.2.2.2.2.1; exact B.2.2.2.2.2.1; exact B.2.2.2.2.2.2.1; exact B.2.2.2.2.2.2.2; exact E)
 refine (M).mono fun e W' ⟨he,hk⟩=>?_
 subst he
 exact ⟨_,U,Io tS hW' J U U kr hk.below kr VE⟩
theorem sH:Rows.RaceNarrowedSaid:=
 OpenClaim.holds_of_wide 6 Tryz.f6 rfl rfl rfl rfl rfl rfl rfl ⟨rfl,rfl,rfl,rfl,rfl⟩ rfl rfl rfl rfl rfl kr Tryz.func6 rE
  (of_decide_eq_true kr) (by unfold Func.isWrapper; first|(rw [if_pos (by decide+kernel)]; kernel_rfl)|(rw [if_neg (by decide+kernel)]; exact ⟨rfl,rfl⟩))
  (fun os started H enc _=>rD os started H enc)
/-- the statement -/
theorem raceNarrowed_said:Rows.RaceNarrowedCardSaid:=
 Claim7.holds_tied_plain_at .later [] [.funcsDeep] true (true,"088415838787c5430f0abdddd979ed2a5db6662ea085e3210461bc02ff0f1fa1") true
  sH (fun _ h=>by cases h) kr (fun _ h=>by cases h) raceNarrowed_row_tie rfl ⟨rfl,rfl⟩ kr rfl
  (fun f fn hf B=>by
   obtain rfl:f=6:=Option.some.inj ((show Tryz.prog.funcNamed "kreisel/kreisellaw06.RaceNarrowed"=some 6 by kernel_rfl).symm.trans hf) |>.symm
   obtain rfl:fn=Tryz.f6:=(Option.some.inj (Tryz.func6.symm.trans B)).symm
   exact ⟨kr,fun j t ht=>by
    rw [Tryz.params6] at ht
    have hm:t∈([35,5,5,74]:List Nat):=by simpa using Array.mem_of_getElem? ht
    have A:(([35,5,5,74]:List Nat).all fun u=> !Tryz.prog.wantsStandIn u)=true:=by kernel_rfl
    exact (show Tryz.prog.wantsStandIn t=false by simpa using List.all_eq_true.1 A t hm)⟩)
  kr
#print axioms raceNarrowed_said
end
end Go.Proofs.YtadjgjnicdcjbaaGreatDoor
