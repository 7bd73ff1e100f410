/-
 The statement juryMore_said, part 8 of 8: Y2, Y3, Y5, Rr3, Rr4, Rr5, Rra, Jr2, Jr3, Jz1, Jz2, Jz3, Jz4, Jl5, LineOpen, RaceOpen, JOpen, More70.
 Conditions: none.
-/
import Derived.Test.YtijpnoadncadoaaGreatDoorTv1
import Derived.Test.YtijpnoadncadoaaGreatDoorTv2
import Derived.Test.YtijpnoadncadoaaGreatDoorTv3
import Derived.Test.YtijpnoadncadoaaGreatDoorTv4
import Derived.Test.YtijpnoadncadoaaGreatDoorTv5
import Derived.Test.YtijpnoadncadoaaGreatDoorTv6
import Derived.Test.YtijpnoadncadoaaGreatDoorTv7
import Derived.Test.YtijpnoadncadoaaGreatDoorCards
import Derived.Test.YtijpnoadncadoaaGreatDoorTie
import Derived.SevenTiedAt
import Derived.LaidMore
import Derived.Stop.Joined
import Derived.Test.YtijpnoadncadoaaGreatDoorRows
import Derived.Test.YtijpnoadncadoaaGreatDoorProg
import Derived.KernelRfl
namespace Go.Proofs.YtijpnoadncadoaaGreatDoor
set_option maxRecDepth 100000
set_option maxHeartbeats 4000000
set_option linter.unusedVariables false
section
open Go.RowKit
theorem GR (l:br) (kA:OA) (kC:Nat) (az:List RA) (cA:OA) (cC:Nat) (bA:OA) (bC:Nat) (r:cD) (sgA:OA) (sgC:Nat) (vwA:OA) (vwC:Nat) (vtA:OA) (vtC:Nat) (vbA:OA) (vbC k:Nat) (rs:List Int) (rA:OA) (rC:Nat) (fs:List Int) (fA:OA) (fC:Nat) (hin:eo l az) (hle:dJ l=0) (hr:eg l r) (hk:rs.length+k=l.aa.length) (hfl:fs.length=rs.length) (hst:r.Start≤gF r.Start fs∧gF r.Start fs≤r.gf) (hrs: ∀ x∈rs,-1≤x∧x<(r.ag.length:Int)) (hrec: ∀ (k2:Nat) (rs2:List Int) (rA2:OA) (rC2:Nat) (fs2:List Int) (fA2:OA) (fC2:Nat),(k2<k)→(rs2.length+k2=l.aa.length)→(fs2.length=rs2.length)→(r.Start≤gF r.Start fs2∧gF r.Start fs2≤r.gf)→(∀ x∈rs2,-1≤x∧x<(r.ag.length:Int))→Lj Tryz.prog 163 [(vA (ct.cells (jW l kA kC cA cC bA bC))),(vA (cN.cells (jr r sgA sgC))),(vA (iU.cells (iU.mk (bx.mk vwA ((cr l l.aa.length).length) vwC) (bx.mk vtA ((eT l r r.ag.length).length) vtC) (bx.mk vbA ((fG l r r.ag.length).length) vbC)))),(vS rA2 rs2.length rC2),(vS fA2 fs2.length fC2)] [(rd kA l.aS.length 9 (l.aS.map au.cells)),(rd cA l.aj.length 2 (List.zipWith ay.cells l.aj az)),(dU (bo ay.gn l.aj az)),(rd bA l.aa.length 4 (l.aa.map bK.cells)),(rd sgA r.ag.length 2 (r.ag.map aI.cells)),(rd vwA ((cr l l.aa.length).length) 1 ((cr l l.aa.length).map iC)),(rd vtA ((eT l r r.ag.length).length) 2 ((eT l r r.ag.length).map ai.cells)),(rd vbA ((fG l r r.ag.length).length) 1 ((fG l r r.ag.length).map qk))] (bU [own rA2 rC2 3 1 (rs2.map iC),own fA2 fC2 3 1 (fs2.map iC)]) (fun (x:(OA)×Nat×(List kK))=>(vS x.1 ((iG l r k2 rs2 fs2).length) x.2.1)) (fun (x:(OA)×Nat×(List kK))=>x.2.2.length=(iG l r k2 rs2 fs2).length) (fun (x:(OA)×Nat×(List kK))=>(bU (bo dC.owns (iG l r k2 rs2 fs2) x.2.2++[own x.1 x.2.1 255 3 (List.zipWith dC.cells (iG l r k2 rs2 fs2) x.2.2)])))):
 Lj Tryz.prog 163 [(vA (ct.cells (jW l kA kC cA cC bA bC))),(vA (cN.cells (jr r sgA sgC))),(vA (iU.cells (iU.mk (bx.mk vwA ((cr l l.aa.length).length) vwC) (bx.mk vtA ((eT l r r.ag.length).length) vtC) (bx.mk vbA ((fG l r r.ag.length).length) vbC)))),(vS rA rs.length rC),(vS fA fs.length fC)] [(rd kA l.aS.length 9 (l.aS.map au.cells)),(rd cA l.aj.length 2 (List.zipWith ay.cells l.aj az)),(dU (bo ay.gn l.aj az)),(rd bA l.aa.length 4 (l.aa.map bK.cells)),(rd sgA r.ag.length 2 (r.ag.map aI.cells)),(rd vwA ((cr l l.aa.length).length) 1 ((cr l l.aa.length).map iC)),(rd vtA ((eT l r r.ag.length).length) 2 ((eT l r r.ag.length).map ai.cells)),(rd vbA ((fG l r r.ag.length).length) 1 ((fG l r r.ag.length).map qk))] (bU [own rA rC 3 1 (rs.map iC),own fA fC 3 1 (fs.map iC)]) (fun (x:(OA)×Nat×(List kK))=>(vS x.1 ((iG l r k rs fs).length) x.2.1)) (fun (x:(OA)×Nat×(List kK))=>x.2.2.length=(iG l r k rs fs).length) (fun (x:(OA)×Nat×(List kK))=>(bU (bo dC.owns (iG l r k rs fs) x.2.2++[own x.1 x.2.1 255 3 (List.zipWith dC.cells (iG l r k rs fs) x.2.2)]))):=by
 have R4:=hin.se
 have P2:=hin.sb
 have Pq:=hin.nP
 have P1:=hin.r9
 obtain ⟨L2,Gi⟩:=dZ hle
 have LT:=Gi.head
 unfold fp at LT
 have Am:=hr.len
 have R1:=hr.time
 have R0:=cW (l:=l) (n:=l.aa.length)
 have R5:=rX (l:=l) (Nat.le_refl r.ag.length)
 have R3:=uR (l:=l) (Nat.le_refl r.ag.length)
 have R6:=s_ rs
 refine uW kr Tryz.func163 U U fun w0 Q hQ hN=>?_
 try dsimp only
 refine Ct 0 U U fun wz Sz hz=>?_
 try dsimp only
 refine WS fun _ J9=>eL U fun b2=>eL U fun b3=>eL U fun b4=>bE 1 U<|RK J9<|WS fun _ KV=>bE 1 U<|RK KV<|WS fun _ K0=>bE 4 U<|RK K0<|aq fun _ K4=>WS fun _ K5=>rP 1 [] I ?_
 refine RK K5<|aF ?_
 have C:(0≤rs.length):=by exact Nat.zero_le _
 have K8:(vI ((dw (rs.take 0)).right))=(vI 0):=by rfl
 refine bQ (ι:={z:Nat // (z≤rs.length)}) [3,4,5,6,7,11,12] [0,1,2,3,4,5,6,7,8,9,10,11] U U (fun z=>[(13,(vI ((dw (rs.take z.1)).right))),(14,(vI (z.1:Int)))]) (fun z=>[]) (fun _=>rfl) (fun _=>rfl) (fun z=>rs.length-z.1) ⟨0,C⟩ (bj U K8<|bk U) (aP [0,1,2,3,4,5,6,7,8,9,10,11]) ?_
 clear C
 rintro ⟨i,Li⟩ J10 g
 try dsimp only
 have Lq:=s_ (rs.take i)
 rw [List.length_take] at Lq
 refine aq fun _ A2=>WS fun _ A3=>rP 3 [] I ?_
 refine RK A3<|cw U (aV fun J3=>?_) (aU fun J3=>?_)
 ·refine WK A2<|aq fun _ h=>aF<|WS fun _ A4=>rP 2 [] I ?_
  obtain ⟨x,hx⟩:=aM rs i om
  have L3:=bO iC hx
  refine rS (IA i U (show iH _ (rd rA rs.length 1 (rs.map iC)).holds from (qe (c:=rC) (e:=3) 3 U sm sm)) dp dc om om)<|rS (gQ i 0 (vI x) U cq (show iH _ (rd rA rs.length 1 (rs.map iC)).holds from (qe (c:=rC) (e:=3) 3 U sm sm)) L3 U dc U)<|rP 1 [] I ?_
  refine RK A4<|bV U (aU fun AN=>?_) (aV fun AN=>?_)
  ·refine cg<|aO<|KK h<|aw<|rP 3 [] I ?_
   refine aK ?_
   have Di:(vI ((dw (rs.take (i+1))).right))=(vI ((dw (rs.take i)).right)):=by exact cI (by rw [te hx]; (rw [if_neg AN]; exact Int.add_zero _))
   have Do:(vI (((i+1):Nat):Int))=(vI ((i:Int)+1)):=by exact cI om
   refine a_ (g ⟨(i+1),(by first|omega|(simp only []; omega))⟩ _ _ _ U os (cK 7<|bj U Di<|bj U Do<|dv.nil _) (aP [0,1,2,3,4,5,6,7,8,9,10,11]))
  refine aw<|bE 3 U<|aK<|aO<|KK h<|aw<|rP 3 [] I ?_
  refine aK ?_
  have C2:(vI ((dw (rs.take (i+1))).right))=(vI (((dw (rs.take i)).right)+1)):=by exact cI (by rw [te hx]; (rw [if_pos AN]; done))
  have C3:(vI (((i+1):Nat):Int))=(vI ((i:Int)+1)):=by exact cI om
  refine a_ (g ⟨(i+1),(by first|omega|(simp only []; omega))⟩ _ _ _ U os (cK 7<|bj U C2<|bj U C3<|dv.nil _) (aP [0,1,2,3,4,5,6,7,8,9,10,11]))
 refine bL<|ab<|ab<|aH<|KK K4<|aq fun _ A5=>aq fun _ A6=>?_
 rw [show rs.take i=rs from List.take_of_length_le om]
 refine aw<|rP 6 [] (mc 2 U I) ?_
 refine RK A6<|cw U (aV fun J5=>?_) (aU fun J5=>?_)
 ·refine WS fun _ A7=>lk 255 3<|rP 1 [] I ?_
  refine RK A7<|av<|Ar (C1:=[(own none 0 255 3 [])]) hz [0] U U U<|Pr (W:=iG l r k rs fs) ?_
  rw [show (own none 0 255 3 [])=(own none 0 255 3 (List.zipWith dC.cells (iG l r k rs fs) [])) from by rw [nY om]; rfl]
  refine LM hQ (none,0,[]) 0 [] I U (by show List.all _ _=true; rw [List.all_append,pT]; rfl) U ?_ ?_
  ·exact (by rw [nY om]; rfl)
  ·rw [nY om]; rfl
 refine WK A5 ?_
 refine kS (ι:={z:(OA)×Nat×(List kK)×(List aB) // (xB l r rs fs (rA,rC) (fA,fC) z.2.2.1 z.2.2.2)}) [3,4,5,6,7,12] [0,1,2,3,4,5,6,7,8,9,10,11] U U (fun z=>[(11,(vS z.1.1 ((ia l r rs fs).length) z.1.2.1))]) (fun z=>[(own z.1.1 z.1.2.1 255 3 (List.zipWith dC.cells (ia l r rs fs) z.1.2.2.1)),(bU z.1.2.2.2)]) (fun _=>rfl) (fun _=>rfl) ?_ fun K23 m=>?_
 ·rintro ⟨⟨oA,oC,E,LA⟩,H⟩
  try dsimp only at H
  try dsimp only
  have D:=H
  have La:=D.len
  have Qr:=xI (l:=l) (r:=r) (rs:=rs) (fs:=fs)
  refine aq fun _ V=>WS fun _ A8=>rP 4 [] (mc 2 U I) ?_
  have R7:=uJ (l:=l) (r:=r) (rs:=rs) (fs:=fs) Am (k:=k) om
  refine rP 1 [] I ?_
  refine RK A8<|cw U (aV fun J6=>?_) (aU fun J6=>?_)
  ·refine WS fun _ A9=>bE 1 U<|rP 1 [] I ?_
   refine RK A9<|av ?_
   obtain rfl:k=0:=by omega
   refine Dz ?_
   try dsimp only
   refine Ar (C1:=[(own oA oC 255 3 (List.zipWith dC.cells (ia l r rs fs) E)),(bU LA),(bU (bo dC.owns [] []))]) hz [13,14,0] U U (by simp only [fu,List.all_nil,Bool.and_true,dg]; exact ⟨U,D.wr,pT _ _⟩) ?_
   refine HM (ra:=(rA,rC)) (fa:=(fA,fC)) (A':=(own oA oC 255 3 (List.zipWith dC.cells (iG l r 0 rs fs) E))) D ((List.append_nil _).trans (nV om).symm) (List.append_nil _) (by rw [nV om]) ?_
   refine LM hQ (oA,oC,E) 0 [] I U (by show List.all _ _=true; rw [List.all_append,pT]; rfl) U ?_ ?_
   ·exact (by (rw [nV om]; rfl))
   ·rw [nV om]; exact La
  refine WK V<|WS fun _ Bx=>?_
  obtain ⟨B,rfl⟩: ∃ B,k=B+1:=⟨k-1,om⟩
  refine rP 3 [] (mc 1 U I) ?_
  refine RK Bx ?_
  refine kS (ι:=Unit) [3,4,5,6,7,11,12] [0,1,2,3,4,5,6,7,8,9,10,11,12,13] U U (fun z=>[(15,(vI (gF r.Start fs)))]) (fun z=>[]) (fun _=>rfl) (fun _=>rfl) ?_ fun K28 o=>?_
  ·intro _
   try dsimp only
   refine WS fun _ Z=>rP 4 [] (mc 0 U I) ?_
   obtain ⟨yls,IO⟩:=aM (cr l l.aa.length) (rs.length) om
   have IP:=bO iC IO
   refine rS (IA rs.length U (aG 9 U) dp dc om om)<|rS (gQ rs.length 0 (vI yls) U cq (aG 9 U) IP U dc U) ?_
   have RS:=nB L2 Gi (i:=rs.length) om
   rw [vc IO]
   refine bE 2 U<|RK Z<|aq fun _ B3=>WS fun _ B9=>rP 1 [] I ?_
   refine RK B9<|aF ?_
   rw [show (ia l r rs fs)=((ia l r rs fs)++(iP l r B rs fs 0)) from (List.append_nil _).symm]
   rw [show E=E++[] from (List.append_nil _).symm]
   refine od ?_
   try dsimp only
   have C:(0≤r.ag.length+1)∧(([]:List kK).length=(iP l r B rs fs 0).length):=by exact ⟨Nat.zero_le _,rfl⟩
   have d:(vI ((0:Int)-1))=(vI (-1)):=by exact cI om
   refine bQ (ι:={z:Nat×(OA)×Nat×(List kK) // (z.1≤r.ag.length+1)∧(z.2.2.2.length=(iP l r B rs fs z.1).length)}) [3,4,5,6,7,12,15] [1,2,3,4,5,6,7,8,9,10,11,12,14] U U (fun z=>[(11,(vS z.1.2.1 (((ia l r rs fs)++(iP l r B rs fs z.1.1)).length) z.1.2.2.1)),(16,(vI ((z.1.1:Int)-1)))]) (fun z=>[(bU (bo dC.owns (iP l r B rs fs z.1.1) z.1.2.2.2)),(own z.1.2.1 z.1.2.2.1 255 3 (List.zipWith dC.cells ((ia l r rs fs)++(iP l r B rs fs z.1.1)) (E++z.1.2.2.2)))]) (fun _=>rfl) (fun _=>rfl) (fun z=>r.ag.length+1-z.1.1) ⟨(0,oA,oC,([]:List kK)),C⟩ (dv.cons U<|bj U d<|dv.nil _) (aP [1,2,3,4,5,6,7,8,9,10,11,12,14,0,13]) ?_
   clear C
   rintro ⟨⟨j,M,N,azW⟩,⟨f,A⟩⟩ J33 O
   try dsimp only at f A
   try dsimp only
   have L0:=HR (l:=l) (r:=r) (k:=B) (j:=j) (rs:=rs) (fs:=fs) Am om om
   refine aq fun _ Ci=>WS fun _ Ck=>rP 5 [] (mc 1 U I) ?_
   refine RK Ck<|bV U (aU fun J4=>?_) (aV fun J4=>?_)
   ·refine bL<|ab<|ab<|aH<|KK B3<|WS fun _ C0=>bE 1 U<|rP 1 [] I ?_
    refine RK C0<|av ?_
    refine Ar (C1:=[(own M N 255 3 (List.zipWith dC.cells ((ia l r rs fs)++(iP l r B rs fs j)) (E++azW))),(bU LA),(bU (bo dC.owns (iP l r B rs fs j) azW))]) hz [14,12,13] U U (by simp only [fu,List.all_nil,Bool.and_true,dg]; exact ⟨U,D.wr,pT _ _⟩) ?_
    refine HM (ra:=(rA,rC)) (fa:=(fA,fC)) (W:=iG l r (B+1) rs fs) (A':=(own M N 255 3 (List.zipWith dC.cells (iG l r (B+1) rs fs) (E++azW)))) D (by rw [nF om,rK,show r.ag.length+1=j by omega]) U (by rw [nF om,rK,show r.ag.length+1=j by omega]) ?_
    refine LM hQ (M,N,(E++azW)) 0 [] I U (by show List.all _ _=true; rw [List.all_append,pT]; rfl) U ?_ ?_
    ·exact (by (rw [nF om,rK,show r.ag.length+1=j by omega]; rfl))
    ·rw [nF om,rK,show r.ag.length+1=j by omega]; simp only [List.length_append]; omega
   refine WK Ci<|aq fun _ P=>aF<|aq fun _ Cp=>dA cy 5 kr<|dP 5 [] (mc 1 U I) ?_
   refine cM<|RK Cp ?_
   refine kS (ι:={z:Int×Int // ((z.1≤z.2→o7 l r rs.length (gF r.Start fs+ej l rs.length) ((j:Int)-1)=some z.1)∧(¬ z.1≤z.2→o7 l r rs.length (gF r.Start fs+ej l rs.length) ((j:Int)-1)=none))∧(r.Start≤z.1∧z.2≤r.gf)}) [3,4,5,6,7,11,12,15,16] [0,1,2,3,4,5,6,7,8,9,10,11,12,13,14] U U (fun z=>[(17,(vI z.1.1)),(18,(vI z.1.2))]) (fun z=>[]) (fun _=>rfl) (fun _=>rfl) ?_ fun K39 p=>?_
   ·rintro ⟨⟨tt,ee⟩,⟨AB,J⟩⟩
    try dsimp only at AB J
    try dsimp only
    have GT:=AB
    have Qv:=J
    refine WS fun _ a=>rP 3 [] I ?_
    refine RK a<|bV U (aU fun AA=>?_) (aV fun AA=>?_)
    ·refine cg<|aO<|KK P<|aw<|rP 3 [] I ?_
     refine aK ?_
     have L:(iP l r B rs fs (j+1))=(iP l r B rs fs j):=by exact qA (GT.2 AA)
     rw [← L]
     have Fn:(vI ((((j+1):Nat):Int)-1))=(vI (((j:Int)-1)+1)):=by exact cI om
     refine a_ (O ⟨((j+1),M,N,azW),⟨om,by dsimp only; (rw [L]; exact A)⟩⟩ _ _ _ U os (cK 8<|bj U Fn<|dv.nil _) (aP [0,1,2,3,4,5,6,7,8,9,10,11,12,13,14]))
    refine Ju (L':=[(3,(vS rA rs.length rC)),(4,(vS fA fs.length fC)),(5,(vP b2)),(6,(vP b3)),(7,(vP b4)),(11,(vS M (((ia l r rs fs)++(iP l r B rs fs j)).length) N)),(12,(vI (rs.length:Int))),(15,(vI ((gF r.Start fs)+(ej l rs.length)))),(16,(vI ((j:Int)-1))),(17,(vI tt)),(18,(vI ee)),(123,(vI tt)),(124,(vI ee)),(125,(vB (decide (tt≤ee))))]) rfl<|lI cy [0,1,2,3,5,7,11,13] [4,6,8,9,10,12,14,15,16,17,18] [false,false,false,false,false,false,false,false] [] [(cx b4 252 (iU.cells (iU.mk (bx.mk vwA ((cr l l.aa.length).length) vwC) (bx.mk vtA ((eT l r r.ag.length).length) vtC) (bx.mk vbA ((fG l r r.ag.length).length) vbC)))),(cx b3 56 (cN.cells (jr r sgA sgC))),(cx b2 28 (ct.cells (jW l kA kC cA cC bA bC))),(bU [own rA rC 3 1 (rs.map iC),own fA fC 3 1 (fs.map iC)]).ro,(rd kA l.aS.length 9 (l.aS.map au.cells)).ro,(rd cA l.aj.length 2 (List.zipWith ay.cells l.aj az)).ro,(dU (bo ay.gn l.aj az)).ro,(rd bA l.aa.length 4 (l.aa.map bK.cells)).ro,(rd sgA r.ag.length 2 (r.ag.map aI.cells)).ro,(rd vwA ((cr l l.aa.length).length) 1 ((cr l l.aa.length).map iC)).ro,(rd vtA ((eT l r r.ag.length).length) 2 ((eT l r r.ag.length).map ai.cells)).ro,(rd vbA ((fG l r r.ag.length).length) 1 ((fG l r r.ag.length).map qk)).ro,(bU LA),(bU (bo dC.owns (iP l r B rs fs j) azW))] [] kr (aP [0,1,2,3,4,5,6,7,8,9,10,11,12,13]) (aP [])<|eS rfl (MV rfl)<|eS rfl (LW 2 rfl cq rfl rfl)<|eS rfl (LW 1 rfl cq rfl rfl)<|eS rfl (LW 0 rfl cq rfl rfl)<|eS rfl (MV rfl)<|eS rfl (MV rfl)<|eS rfl (MV rfl)<|eS rfl (MV rfl)<|eC rfl<|Aj [.take 4,.op 6,.take 8,.op 9,.take 10,.op 12,.take 14,.op 15,.op 16,.op 17,.op 18] [(133,(vI ((j:Int)-1))),(139,(vI tt))] (fun i=>match i with |4=>130|8=>134|10=>136|14=>140|_=>0) (fun i b=>match i with |4=> .slice (some ⟨b,0,none⟩) 0 0|8=> .slice (some ⟨b,0,none⟩) 1 1|10=> .slice (some ⟨b,0,none⟩) 0 0|14=> .slice (some ⟨b,0,none⟩) 1 1|_=>undef) (fun i b=>match i with |4=>cx b 3 []|8=>cx b 3 [(vI ((j:Int)-1))]|10=>cx b 3 []|14=>cx b 3 [(vI tt)]|_=>cx b 0 []) rfl rfl rfl kr rfl rfl (aP [0,1,2,3,4,5,6,7,8,9,10,11,12,13]) (ku (Jz rfl dp rfl rfl (fun _=>rfl) fun _=>rfl)<|mK<|ku (vR (xs:=[.tmp 133]) (cs:=[(vI ((j:Int)-1))]) rfl dp ky rfl rfl rfl rfl (by simp [Value.cells]) rfl rfl rfl (fun _=>rfl) fun _=>rfl)<|mK<|ku (Jz rfl dp rfl rfl (fun _=>rfl) fun _=>rfl)<|mK<|ku (vR (xs:=[.tmp 139]) (cs:=[(vI tt)]) rfl dp ky rfl rfl rfl rfl (by simp [Value.cells]) rfl rfl rfl (fun _=>rfl) fun _=>rfl)<|mK<|mK<|mK<|mK<|D1) ?_
    intro In
    try dsimp only
    refine mP U fun Y X K hT=>fH (es:=(List.map iC [])) (C':=[own (some ⟨In,0,none⟩) 0 3 1 (List.map iC []),_,_,_,_,_,_,_,_,_,_,_,_,_,_,_]++X) 0 U sm U (by simp [maxLen]) U ?_
    refine dH (es2:=(List.map iC rs)) (m':=rs.length) 0 U U U r8 U U sm (show iH _ (rd rA rs.length 1 (rs.map iC)).holds from (qe (c:=rC) (e:=3) 4 U sm sm)) (kZ _) (by first|omega|(simp; done)|(simp; omega)) (by (simp only [maxLen]; omega)) sm sm U fun Os Pi=>?_
    try dsimp only
    refine kf hT 24 16 U U (fun w hs=>St.jR [1,2,3,4,5,6,7,8,9,10,11,12,13,14] U U hs) U U ?_
    try dsimp only [List.take]
    intro PU
    try dsimp only
    refine mP U fun Y X K hT=>?_
    refine dH (es2:=(List.map iC (rs++[(j:Int)-1]))) (m':=(rs++[(j:Int)-1]).length) 1 U U U r8 U U sm (bu (es:=List.map iC [((j:Int)-1)]) 0 U U (by simp [bR]) U) (kZ _) (by first|omega|(simp; done)|(simp; omega)) (by (simp only [maxLen]; omega)) sm sm U fun Id Iv=>?_
    try dsimp only
    refine kf hT 26 17 U U (fun w hs=>St.jR [2,3,4,5,6,7,8,9,10,11,12,13,14,15] U U hs) U U ?_
    try dsimp only [List.take]
    intro Io
    try dsimp only
    refine mP U fun Y X K hT=>fH (es:=(List.map iC [])) (C':=[own (some ⟨Io,0,none⟩) 0 3 1 (List.map iC []),_,_,_,_,_,_,_,_,_,_,_,_,_,_,_,_,_]++X) 0 U sm U (by simp [maxLen]) U ?_
    refine dH (es2:=(List.map iC fs)) (m':=fs.length) 0 U U U r8 U U sm (show iH _ (rd fA fs.length 1 (fs.map iC)).holds from (qe (c:=fC) (e:=3) 6 U sm sm)) (kZ _) (by first|omega|(simp; done)|(simp; omega)) (by (simp only [maxLen]; omega)) sm sm U fun PA Pl=>?_
    try dsimp only
    refine kf hT 28 18 U U (fun w hs=>St.jR [3,4,5,6,7,8,9,10,11,12,13,14,15,16] U U hs) U U ?_
    try dsimp only [List.take]
    intro PY
    try dsimp only
    refine mP U fun Y X K hT=>?_
    refine dH (es2:=(List.map iC (fs++[tt]))) (m':=(fs++[tt]).length) 1 U U U r8 U U sm (bu (es:=List.map iC [tt]) 0 U U (by simp [bR]) U) (kZ _) (by first|omega|(simp; done)|(simp; omega)) (by (simp only [maxLen]; omega)) sm sm U fun If Iw=>?_
    try dsimp only
    refine kf hT 30 19 U U (fun w hs=>St.jR [4,5,6,7,8,9,10,11,12,13,14,15,16,17] U U hs) U U ?_
    try dsimp only [List.take]
    refine mP U fun Y X K hT=>?_
    have R:=GT.1 AA
    refine xd<|rM 4 U ?_
    try dsimp only [List.eraseIdx]
    refine zQ U<|rM 2 U ?_
    try dsimp only [List.eraseIdx]
    refine zQ U ?_
    try dsimp only
    refine oD 0 rfl rfl rfl rfl (hrec B (rs++[(j:Int)-1]) Id Iv (fs++[tt]) If Iw om (by simp only [List.length_append,List.length_singleton]; omega) (by simp only [List.length_append,List.length_singleton]; omega) (by rw [nx]; omega) (by intro x hx; rcases gI.1 hx with hx|hx; exact hrs x hx; rw [cu.1 hx]; omega)) rfl (eA 7 rfl rfl (dL (bY _)) (eA 8 rfl rfl (dL (bY _)) (eA 9 rfl rfl (dL (bY _)) (eA 10 rfl rfl (dL (bY _)) (eA 11 rfl rfl (dL (bY _)) (eA 12 rfl rfl (dL (bY _)) (eA 13 rfl rfl (dL (bY _)) (eA 14 rfl rfl (dL (bY _)) rf)))))))) rfl (fun NE A0=>?_)
    obtain ⟨Op,Or,v⟩:=NE
    try dsimp only
    dsimp only at A0
    refine kf hT 31 18 U U (fun w hs=>St.jR [3,4,5,6,7,8,9,10,11,12,13,14,15,16] U U hs) U U ?_
    try dsimp only [List.take]
    refine mP U fun Y X K hT=>rM 0 U ?_
    try dsimp only [List.eraseIdx]
    refine zp ?_
    have R8:=uJ (l:=l) (r:=r) (k:=B) (rs:=(rs++[(j:Int)-1])) (fs:=(fs++[tt])) Am om
    refine dH (es2:=(List.zipWith dC.cells ((ia l r rs fs)++(iP l r B rs fs (j+1))) (E++(azW++v)))) (m':=((ia l r rs fs)++(iP l r B rs fs (j+1))).length) 18 U U U Oc U U (tf (by simp only [List.length_append]; omega)).symm (ak (n:=(iG l r B (rs++[(j:Int)-1]) (fs++[tt])).length) 0 U (tf A0)) (Br _ _) (by simp only [List.length_append]; omega) (by simp only [List.length_append,maxLen]; omega) (by rw [nz R,← List.append_assoc,← List.append_assoc]; exact (JR (by simp only [List.length_append]; omega)).symm) (tf (by rw [nz R]; simp only [List.length_append]; omega)) U fun Ig J2=>?_
    try dsimp only
    refine kf hT 32 19 U U (fun w hs=>St.jR [4,5,6,7,8,9,10,11,12,13,14,15,16,17] U U hs) U U ?_
    try dsimp only [List.take]
    refine mP U fun Y X K hT=>rS (AG U)<|kf hT 33 19 U U (fun w hs=>St.jR [4,5,6,7,8,9,10,11,12,13,14,15,16,17] U U hs) U U ?_
    try dsimp only [List.take]
    refine aO<|KK P<|aw<|rP 3 [] I ?_
    refine aK<|FB 1 U ?_
    try dsimp only [List.eraseIdx]
    refine FB 17 U ?_
    try dsimp only [List.eraseIdx]
    refine KZ A ?_
    rw [← nz R]
    try dsimp only
    have Fd:(vI ((((j+1):Nat):Int)-1))=(vI (((j:Int)-1)+1)):=by exact cI om
    refine a_ (O ⟨((j+1),Ig,J2,(azW++v)),⟨om,by dsimp only; (rw [nz R,List.length_append,List.length_append,A,A0])⟩⟩ _ _ _ U os (cK 8<|bj U Fd<|dv.nil _) (aP [4,5,6,7,8,9,10,11,12,13,14,15,16,0,17]))
   refine WS fun _ a=>rP 2 [] I ?_
   refine RK a<|bV U (aU fun J8=>?_) (aV fun J8=>?_)
   ·refine cg ?_
    refine a_ (iF (bk U) (aP [0,1,2,3,4,5,6,7,8,9,10,11,12,13,14]) (p ⟨(((gF r.Start fs)+(ej l rs.length)),r.gf),⟨by exact IK om,om⟩⟩))
   refine aq fun _ Cx=>WS fun _ u=>rP 3 [] (mc 1 U I) ?_
   obtain ⟨s,hs⟩:=aM r.ag ((((j:Int)-1)).toNat) om
   have Lk:=bO aI.cells hs
   refine rS (IA ((((j:Int)-1)).toNat) U (aG 8 U) yC dc om om)<|rS (o1 (((((j:Int)-1)).toNat)*2) U (aG 8 U) (Nat.mul_pos om dc) fK U)<|rS (gQ ((((j:Int)-1)).toNat) 0 (vI s.fI) U cq (aG 8 U) Lk U dc U) ?_
   have R2:=(hr.sig _ s hs).1
   refine rP 3 [] I ?_
   refine bZ (t:=99) U (bg fun A1=>?_) (bf fun A1=>?_)
   ·refine bE 7 U<|RK u<|aT U<|bL<|ab<|ab<|aH<|KK P<|aw<|rP 3 [] I ?_
    refine aK ?_
    have L:(iP l r B rs fs (j+1))=(iP l r B rs fs j):=by exact qA (xW om hs (fun q=>A1 om))
    rw [← L]
    have FG:(vI ((((j+1):Nat):Int)-1))=(vI (((j:Int)-1)+1)):=by exact cI om
    refine a_ (O ⟨((j+1),M,N,azW),⟨om,by dsimp only; (rw [L]; exact A)⟩⟩ _ _ _ U os (cK 8<|bj U FG<|dv.nil _) (aP [0,1,2,3,4,5,6,7,8,9,10,11,12,13,14]))
   refine rP 3 [] (mc 0 U I) ?_
   obtain ⟨bs,AO⟩:=aM (fG l r r.ag.length) ((((j:Int)-1)).toNat) om
   have GE:=bO qk AO
   refine rS (IA ((((j:Int)-1)).toNat) U (aG 11 U) N_ dc om om)<|rS (gQ ((((j:Int)-1)).toNat) 0 (vB bs) U cq (aG 11 U) GE U dc U)<|rP 2 [] I ?_
   refine RK u<|cw U (fun F=>?_) (fun F=>?_)
   ·rw [Bool.not_eq_true'] at F
    refine bL<|ab<|ab<|aH<|KK P<|aw<|rP 3 [] I ?_
    refine aK ?_
    have L:(iP l r B rs fs (j+1))=(iP l r B rs fs j):=by exact qA (xW om hs (fun q=>by rw [(CE hs AO).2 q.2] at F; cases F))
    rw [← L]
    have FS:(vI ((((j+1):Nat):Int)-1))=(vI (((j:Int)-1)+1)):=by exact cI om
    refine a_ (O ⟨((j+1),M,N,azW),⟨om,by dsimp only; (rw [L]; exact A)⟩⟩ _ _ _ U os (cK 8<|bj U FS<|dv.nil _) (aP [0,1,2,3,4,5,6,7,8,9,10,11,12,13,14]))
   rw [Bool.not_eq_false'] at F
   refine WK Cx<|dA cy 18 kr<|dP 4 [] (mc 0 U I) ?_
   obtain ⟨z,hz⟩:=aM (eT l r r.ag.length) ((((j:Int)-1)).toNat) om
   have IR:=bO ai.cells hz
   refine dS (IA ((((j:Int)-1)).toNat) U (aG 10 U) lu dc om om)<|dS (o1 (((((j:Int)-1)).toNat)*2) U (aG 10 U) (Nat.mul_pos om dc) fK U) ?_
   have Ic:=KH hs hz
   have L5:=xA l s
   rw [← Ic] at L5
   have LE:(cS l s).Lo≤(cS l s).Hi:=(CE hs AO).1 F
   refine dS (gQ ((((j:Int)-1)).toNat) 0 (vI z.Lo) U cq (aG 10 U) IR U dc U)<|dS (MX U)<|lR 4 [] (mc 0 U I) U<|dS (IA ((((j:Int)-1)).toNat) U (aG 10 U) lu dc om om)<|dS (o1 ((((((j:Int)-1)).toNat)*2)+1) U (aG 10 U) (Nat.mul_pos om dc) fK U)<|dS (gQ ((((j:Int)-1)).toNat) 1 (vI z.Hi) U cq (aG 10 U) IR U dc U)<|dS (MN U)<|dP 2 [] I ?_
   refine cM<|aK ?_
   refine a_ (iF (bk U) (aP [0,1,2,3,4,5,6,7,8,9,10,11,12,13,14]) (p ⟨((max ((gF r.Start fs)+(ej l rs.length)) z.Lo),(min r.gf z.Hi)),⟨by (rw [Ic]; exact Ko om hs om LE),om⟩⟩))
  refine WS fun _ Z=>rP 2 [] I ?_
  refine RK Z<|bV U (aU fun J7=>?_) (aV fun J7=>?_)
  ·refine cg ?_
   have Eq:(vI (gF r.Start fs))=(vI r.Start):=by exact cI (by have e:fs=[]:=il om; rw [e]; rfl)
   refine a_ (iF (cK 7<|bj U Eq<|dv.nil _) (aP [0,1,2,3,4,5,6,7,8,9,10,11,12,13]) (o ()))
  refine aw<|rP 3 [] I ?_
  obtain ⟨xf,Go⟩:=aM fs (rs.length-1) om
  have H1:=bO iC Go
  refine rS (IA (rs.length-1) U (show iH _ (rd fA fs.length 1 (fs.map iC)).holds from (qe (c:=fC) (e:=3) 3 U sm sm)) dp dc om om)<|rS (gQ (rs.length-1) 0 (vI xf) U cq (show iH _ (rd fA fs.length 1 (fs.map iC)).holds from (qe (c:=fC) (e:=3) 3 U sm sm)) H1 U dc U)<|rP 1 [] I ?_
  refine aK ?_
  have EQ:(vI (gF r.Start fs))=(vI xf):=by exact cI (Bd _ _ _ (by rw [hfl]; exact Go))
  refine a_ (iF (cK 7<|bj U EQ<|dv.nil _) (aP [0,1,2,3,4,5,6,7,8,9,10,11,12,13]) (o ()))
 refine WS fun _ V=>rP 8 [0,1] (mc 1 U (mc 2 U I)) ?_
 refine RK V<|bV U (aU fun G=>?_) (aV fun G=>?_)
 ·refine cg<|Dz<|GP 255 3 ?_
  rw [show (own none 0 255 3 [])=(own none 0 255 3 (List.zipWith dC.cells (ia l r rs fs) [])) from by rw [xJ G]; rfl]
  have Eu:(vS none ((ia l r rs fs).length) 0)=(vS none 0 0):=by first|rfl|(rw [xJ G]; rfl)
  refine a_ (iF (cK 6<|bj U Eu<|dv.nil _) (aP [2,3,4,5,6,7,8,9,10,11,12,13,0,1]) (m ⟨(none,0,[],[]),(by exact .inr ⟨G,U,U⟩)⟩))
 refine aw<|rP 6 [0,1] (mc 1 U (mc 0 U I)) ?_
 refine cX (I1 r sgA sgC l vwA vwC vtA vtC vbA vbC rs rA rC hle hr om (by exact fun x hx h0=>(hrs x hx).2)) (oP [8,9,10,11]<|ax (show iH _ (rd rA rs.length 1 (rs.map iC)).holds from (qe (c:=rC) (e:=3) 3 U sm sm))<|aN) U fun M2 Oi=>?_
 obtain ⟨S,T⟩:=M2
 try dsimp only
 refine rS (SX (bq (xs:=[(0,.tmp 48),(1,.tmp 49),(2,.tmp 53)]) (cs:=(xR.cells (xR.mk (bx.mk rA rs.length rC) (bx.mk fA fs.length fC) (bx.mk S ((jC l r rs).length) T)))) U U (bp Rp U)) U U)<|eB (xs:=[.tmp 54]) (cs:=(xR.cells (xR.mk (bx.mk rA rs.length rC) (bx.mk fA fs.length fC) (bx.mk S ((jC l r rs).length) T)))) U EU Sg U U U U (by simp [Value.cells,xR.aZ]) U U fun PP=>lk 255 3 ?_
 refine dH (es2:=(List.zipWith dC.cells (ia l r rs fs) ([((rA,rC),(fA,fC),(S,T))]))) (m':=(ia l r rs fs).length) 0 rfl rfl rfl Oc rfl rfl rfl (bu (es:=List.zipWith dC.cells [(dC.mk rs fs (jC l r rs))] [((rA,rC),(fA,fC),(S,T))]) 1 rfl rfl (by intro e he; simp at he; subst he; rfl) rfl) (Br _ _) dc dc (by rw [zi G]; rfl) (by rw [zi G]; rfl) rfl fun y AC=>?_
 try dsimp only
 refine xd<|NZ 0 3 U U U ?_
 try dsimp only
 refine rP 1 [] I ?_
 refine aK ?_
 have d:(vS y ((ia l r rs fs).length) AC)=(vS y ((ia l r rs fs).length) AC):=by first|rfl|(rw [xJ G]; rfl)
 refine a_ (iF (cK 6<|bj U d<|dv.nil _) (aP [3,4,5,6,7,8,9,10,11,12,13,14,1,0]) (m ⟨(y,AC,[((rA,rC),(fA,fC),(S,T))],[(own S T 3 1 ((jC l r rs).map iC))]),(by exact .inl ⟨G,_,U,U⟩)⟩))
theorem OU (l:br) (kA:OA) (kC:Nat) (az:List RA) (cA:OA) (cC:Nat) (bA:OA) (bC:Nat) (r:cD) (sgA:OA) (sgC:Nat) (vwA:OA) (vwC:Nat) (vtA:OA) (vtC:Nat) (vbA:OA) (vbC k:Nat) (rs:List Int) (rA:OA) (rC:Nat) (fs:List Int) (fA:OA) (fC:Nat) (hin:eo l az) (hle:dJ l=0) (hr:eg l r) (hk:rs.length+k=l.aa.length) (hfl:fs.length=rs.length) (hst:r.Start≤gF r.Start fs∧gF r.Start fs≤r.gf) (hrs: ∀ x∈rs,-1≤x∧x<(r.ag.length:Int)):
 Lj Tryz.prog 163 [(vA (ct.cells (jW l kA kC cA cC bA bC))),(vA (cN.cells (jr r sgA sgC))),(vA (iU.cells (iU.mk (bx.mk vwA ((cr l l.aa.length).length) vwC) (bx.mk vtA ((eT l r r.ag.length).length) vtC) (bx.mk vbA ((fG l r r.ag.length).length) vbC)))),(vS rA rs.length rC),(vS fA fs.length fC)] [(rd kA l.aS.length 9 (l.aS.map au.cells)),(rd cA l.aj.length 2 (List.zipWith ay.cells l.aj az)),(dU (bo ay.gn l.aj az)),(rd bA l.aa.length 4 (l.aa.map bK.cells)),(rd sgA r.ag.length 2 (r.ag.map aI.cells)),(rd vwA ((cr l l.aa.length).length) 1 ((cr l l.aa.length).map iC)),(rd vtA ((eT l r r.ag.length).length) 2 ((eT l r r.ag.length).map ai.cells)),(rd vbA ((fG l r r.ag.length).length) 1 ((fG l r r.ag.length).map qk))] (bU [own rA rC 3 1 (rs.map iC),own fA fC 3 1 (fs.map iC)]) (fun (x:(OA)×Nat×(List kK))=>(vS x.1 ((iG l r k rs fs).length) x.2.1)) (fun (x:(OA)×Nat×(List kK))=>x.2.2.length=(iG l r k rs fs).length) (fun (x:(OA)×Nat×(List kK))=>(bU (bo dC.owns (iG l r k rs fs) x.2.2++[own x.1 x.2.1 255 3 (List.zipWith dC.cells (iG l r k rs fs) x.2.2)]))):=by
 induction k using Nat.strongRecOn generalizing rs rA rC fs fA fC with
 |ind k ih=>exact GR l kA kC az cA cC bA bC r sgA sgC vwA vwC vtA vtC vbA vbC k rs rA rC fs fA fC hin hle hr hk hfl hst hrs (fun L F D E C A B G H AA J K=>ih L G F D E C A B H AA J K)
end
section
open Go.RowKit
theorem Mt (l:br) (kA:OA) (kC:Nat) (az:List RA) (cA:OA) (cC:Nat) (bA:OA) (bC:Nat) (r:cD) (sgA:OA) (sgC:Nat) (hin:eo l az) (hsl:r.ag.length≤1000000):
 p9 Tryz.prog 155 [(vA (ct.cells (jW l kA kC cA cC bA bC))),(vA (cN.cells (jr r sgA sgC)))] [(rd kA l.aS.length 9 (l.aS.map au.cells)),(rd cA l.aj.length 2 (List.zipWith ay.cells l.aj az)),(dU (bo ay.gn l.aj az)),(rd bA l.aa.length 4 (l.aa.map bK.cells)),(rd sgA r.ag.length 2 (r.ag.map aI.cells))] (fun (x:Bool×Int×(OA)×Nat×(List kK))=>bif x.1 then (vT [(vS x.2.2.1 ((qw l r).length) x.2.2.2.1),(vI 0)]) else (vT [(vS none 0 0),(vI x.2.1)])) (fun (x:Bool×Int×(OA)×Nat×(List kK))=>(x.1=true→(dW l r 0=0∧x.2.2.2.2.length=(qw l r).length))∧(x.1=false→(x.2.1=dW l r 0∧ ¬ dW l r 0=0))) (fun (x:Bool×Int×(OA)×Nat×(List kK))=>bif x.1 then [(own x.2.2.1 x.2.2.2.1 255 3 (List.zipWith dC.cells (qw l r) x.2.2.2.2)),(bU (bo dC.owns (qw l r) x.2.2.2.2))] else []):=by
 have k:=hin.se
 have j:=hin.sb
 have h:=hin.nP
 have i:=hin.r9
 refine fF kr Tryz.func155 U U fun o Q hQ hN=>?_
 try dsimp only
 refine WS fun _ X=>eL U fun m=>eL U fun n=>bE 2 U<|RK X<|aq fun _ Y=>WS fun _ Z=>e9 1 [] (mc 1 U I) U<|rS (CL (BQ l kA kC az cA cC bA bC hin) (bw [2,3,4,5]) U)<|bE 1 U<|RK Z<|WS fun _ a=>rP 2 [] I ?_
 refine RK a<|cw U (bg fun A=>?_) (bf fun A=>?_)
 ·refine WS fun _ b=>rP 3 [] I ?_
  refine RK b<|av<|LX hQ (false,(dJ l),none,0,[]) [] [] I U (by rfl) U U ?_
  exact v_<|E3 (gE (r:=r) (me:=0) A) A
 refine WK Y<|aq fun _ c=>WS fun _ d=>e9 2 [0,1] (mc 1 U (mc 0 U I)) U<|rS (CL (L_ l kA kC az cA cC bA bC r sgA sgC hin (by exact hsl)) (bw [2,3,4,5,6]) U)<|rP 1 [] I ?_
 refine RK d<|cw U (bg fun B=>?_) (bf fun B=>?_)
 ·refine WS fun _ D=>rP 2 [] I ?_
  refine RK D<|av<|LX hQ (false,51,none,0,[]) [] [] I U (by rfl) U U ?_
  exact v_<|nK (dh (me:=0) A B)
 refine WK c<|aq fun _ E=>dM cy [4,5,6] [] [] [0,1,2,3,4,5,6] [] U U U U U<|eS U (LW 1 U cq U U)<|eS U (LW 0 U cq U U)<|eS U (LW 1 U cq U U)<|eS U (LW 0 U cq U U)<|eC U<|cv U fun T12 J=>cX (MK l kA kC az cA cC bA bC r sgA sgC hin (by exact A) (by exact B)) (bw [2,3,4,5,6]) U fun e g=>?_
 obtain ⟨V,W,T,AA,R,S⟩:=e
 try dsimp only
 refine aK (J _ _ (aP [3,4,5,6,7,8,9]) ?_)
 refine cv U fun T21 K=>lk 3 1<|lk 3 1<|xd<|rM 1 U ?_
 try dsimp only [List.eraseIdx]
 refine zQ U<|rM 1 U ?_
 try dsimp only [List.eraseIdx]
 refine zQ U ?_
 try dsimp only
 refine oD 0 rfl rfl rfl rfl (OU l kA kC az cA cC bA bC r sgA sgC V W T AA R S l.aa.length ([]:List Int) none 0 ([]:List Int) none 0 hin (by exact A) (by exact B) sm (by rfl) (by exact ⟨Int.le_refl _,B.time.2.1⟩) (by intro x hx; cases hx)) rfl (eA 6 rfl rfl (dL (bY _)) (eA 7 rfl rfl (dL (bY _)) (eA 8 rfl rfl (dL (bY _)) (eA 9 rfl rfl (dL (bY _)) (eA 10 rfl rfl (dL (bY _)) (eA 1 rfl rfl (jw sm) (eA 2 rfl rfl (jw sm) (eA 3 rfl rfl (jw sm) rf)))))))) rfl (fun f M=>?_)
 obtain ⟨N,O,P⟩:=f
 try dsimp only
 refine aK (K _ _ (aP [4,5,6,7,8,9,10]) ?_)
 refine cv U fun T26 L=>rM 0 U ?_
 try dsimp only [List.eraseIdx]
 refine zp ?_
 dsimp only at M
 refine rS (AG U)<|aK (L _ _ (aP [5,6,7,8,9,10,11]) ?_)
 refine fP U<|KK E<|aq fun _ F=>WS fun _ G=>rP 3 [] I ?_
 refine RK G<|bV U (aU fun C=>?_) (aV fun C=>?_)
 ·refine WK F<|WS fun _ AB=>rP 3 [] I ?_
  refine RK AB<|av ?_
  refine LX hQ (true,0,N,O,P) [0,1] [] I U (by (show List.all _ _=true; simp only [cond_true,fu,List.all_nil,Kq,Bool.and_true]; rfl)) U U ?_
  exact ⟨fun _=>⟨lj A B U fun q=>C (by rw [show iG l r l.aa.length [] []=[] from (fy A B).2 q]; rfl),M⟩,QB⟩
 refine WS fun _ H=>rP 2 [] I ?_
 refine RK H<|av<|LX hQ (false,8,none,0,[]) [] [] I U (by rfl) U U ?_
 exact v_<|nK (g5 (me:=0) A B U ((fy A B).1 (il (Int.natCast_eq_zero.1 C))))
theorem GO (ws:List dC) (wz:List kK) (wA:OA) (wC b:Nat) (hws:Lw ws) (hwz:wz.length=ws.length) (hb:b≤6):
 dK Tryz.prog 156 [(vS wA ws.length wC),(vI (b:Int))] [(rd wA ws.length 3 (List.zipWith dC.cells ws wz)),(dU (bo dC.gn ws wz))] (vT [(vA (ai.cells (pR ws b))),(vI (pQ ws b))]):=by
 have u:=hws.num
 refine bG kr Tryz.func156 U U fun x Q hQ hN=>?_
 try dsimp only
 refine WS fun _ g=>AL U ed fun w=>bE 1 U<|RK g<|WS fun _ h=>AL U ed fun t=>RK h<|WS fun _ j=>bE 1 U<|RK j<|aq fun _ k=>WS fun _ l=>rP 1 [] I ?_
 refine RK l<|aF ?_
 have D:(0≤ws.length)∧(oa b (ws.take 0) false (ai.mk 0 0)):=by exact ⟨Nat.zero_le _,Gr⟩
 refine bQ (ι:={z:Nat×Bool×ai // (z.1≤ws.length)∧(oa b (ws.take z.1) z.2.1 z.2.2)}) [0,1,4,5,6] [1,2,3] U U (fun z=>[(7,(vB z.1.2.1)),(8,(vI (z.1.1:Int)))]) (fun z=>[(cx t 53 (ai.cells z.1.2.2))]) (fun _=>rfl) (fun _=>rfl) (fun z=>ws.length-z.1.1) ⟨(0,false,(ai.mk 0 0)),D⟩ (bk U) (aP [1,2,3,0]) ?_
 clear D
 rintro ⟨⟨i,fd,o⟩,⟨J,A⟩⟩ J8 H
 try dsimp only at J A
 try dsimp only
 refine aq fun _ m=>WS fun _ L=>rP 4 [] I ?_
 refine RK L<|bV U (aU fun c=>?_) (aV fun c=>?_)
 ·refine bL<|ab<|ab<|aH<|KK k<|aq fun _ R=>WS fun _ S=>rP 2 [] I ?_
  refine RK S<|bV U (fun B=>?_) (fun B=>?_)
  ·rw [Bool.not_eq_false'] at B
   refine WK R<|WS fun _ AA=>e9 1 [] (mc 3 U I) U<|fR U c_ U<|rP 1 [] I ?_
   refine RK AA<|av<|mY hQ [0] (mc 0 U I) U ?_
   have AB:=zb (by have q:=A; rwa [List.take_of_length_le om] at q) hws.FG
   (have q:=AB.2 B; rw [q.1,q.2]; done)
  rw [Bool.not_eq_true'] at B
  refine WS fun _ T=>rS (SX (bq (xs:=[]) (cs:=(ai.cells (ai.mk 0 0))) U U (bp g4 U)) U U)<|fR U c_ U<|rP 1 [] I ?_
  refine RK T<|av<|mY hQ [0] (mc 0 U I) U ?_
  have AB:=zb (by have q:=A; rwa [List.take_of_length_le om] at q) hws.FG
  (have q:=AB.1 B; rw [q.1,q.2]; done)
 refine WK m<|aq fun _ C=>aF<|aq fun _ M=>WS fun _ N=>rP 2 [] I ?_
 obtain ⟨y,hy⟩:=aM ws i om
 obtain ⟨ya,E⟩:=aM wz i om
 have K:(List.zipWith dC.cells ws wz)[i]? =some (dC.cells y ya):=dx hy E
 refine rS (IA i U (aG 1 U) EU dc om om)<|rS (o1 (i*3) U (aG 1 U) (Nat.mul_pos om dc) fK U)<|rS (gQ i 0 (vS ya.1.1 y.gM.length ya.1.2) U cq (aG 1 U) K U dc U)<|rP 3 [] I ?_
 refine RK N<|cw U (aV fun d=>?_) (aU fun d=>?_)
 ·refine bL<|ab<|aH<|KK C<|aw<|rP 3 [] I ?_
  refine aK ?_
  have X:(vI (((i+1):Nat):Int))=(vI ((i:Int)+1)):=by exact cI om
  refine a_ (H ⟨((i+1),fd,o),⟨om,by dsimp only; rw [mj hy]; exact Ds A om⟩⟩ _ _ _ U os (cK 6<|bj U X<|dv.nil _) (aP [0,1,2,3]))
 refine WK M<|aq fun _ O=>dM cy [17,18] [] [] [0,1,2,3] [] U U U U U ?_
 have v:=hws.lens y (aQ hy)
 obtain ⟨s,hs⟩: ∃ s,y.gM[b]? =some s:=⟨y.gM[b]'om,eN _⟩
 refine eS U (MV U)<|eS U (MV U)<|eS U (IA i U (aG 1 U) EU dc om om)<|eS U (o1 ((i*3)+1) U (aG 1 U) (Nat.mul_pos om dc) fK U)<|eS U (gQ i 1 (vS ya.2.1.1 y.jg.length ya.2.1.2) U cq (aG 1 U) K U dc U)<|eS U (MV U) ?_
 obtain ⟨f,hf⟩:=aM y.jg b om
 have p:=bO iC hf
 refine eS U (IA b U (show iH _ (rd ya.2.1.1 y.jg.length 1 (y.jg.map iC)).holds from (cY 2 U (bP hy E (by simp [dC.gn])))) dp dc om om)<|eS U (gQ b 0 (vI f) U cq (show iH _ (rd ya.2.1.1 y.jg.length 1 (y.jg.map iC)).holds from (cY 2 U (bP hy E (by simp [dC.gn])))) p U dc U)<|eS U (MV U)<|eS U (MV U)<|eS U (IA i U (aG 1 U) EU dc om om)<|eS U (o1 ((i*3)+2) U (aG 1 U) (Nat.mul_pos om dc) fK U)<|eS U (gQ i 2 (vS ya.2.2.1 y.l8.length ya.2.2.2) U cq (aG 1 U) K U dc U)<|eS U (MV U) ?_
 obtain ⟨e,he⟩:=aM y.l8 b om
 have n:=bO iC he
 refine eS U (IA b U (show iH _ (rd ya.2.2.1 y.l8.length 1 (y.l8.map iC)).holds from (cY 2 U (bP hy E (by simp [dC.gn])))) dp dc om om)<|eS U (gQ b 0 (vI e) U cq (show iH _ (rd ya.2.2.1 y.l8.length 1 (y.l8.map iC)).holds from (cY 2 U (bP hy E (by simp [dC.gn])))) n U dc U)<|eS U (SX (bq (xs:=[(0,.tmp 31),(1,.tmp 39)]) (cs:=(ai.cells (ai.mk f e))) U U (bp g4 U)) U U)<|eC U<|cv U fun T17 V=>AL U ed fun r=>aK (V _ _ (aP [1,2,3,4]) ?_)
 refine cv U fun T19 W=>fR U c_ U<|aK (W _ _ (aP [1,2,3,4]) ?_)
 refine fP U<|KK O<|aq fun _ F=>WS fun _ P=>?_
 have a:=hws.le y (aQ hy) b f e om hf he
 refine rP 1 [] I ?_
 refine RK P<|bV U (fun G=>?_) (fun G=>?_)
 ·refine WK F<|aw<|e9 1 [] (mc 0 U I) U<|Tg U c_ U<|bE 1 U<|aK<|aO<|KK C<|aw<|rP 3 [] I ?_
  refine aK ?_
  have Z:(vI (((i+1):Nat):Int))=(vI ((i:Int)+1)):=by exact cI om
  refine a_ (H ⟨((i+1),true,(ai.mk f e)),⟨om,by dsimp only; rw [mj hy]; exact B6 A G hs hf he a⟩⟩ _ _ _ U os (cK 6<|bj U Z<|dv.nil _) (aP [1,2,3,4]))
 refine aw<|e9 4 [0,1] (mc 0 U (mc 4 U I)) U<|rS (MN U)<|e9 4 [0,1] (mc 0 U (mc 4 U I)) U<|rS (MX U)<|rS (SX (bq (xs:=[(0,.tmp 46),(1,.tmp 51)]) (cs:=(ai.cells (ai.mk (min f o.Lo) (max e o.Hi)))) U U (bp g4 U)) U U)<|fR U c_ U<|RK F<|aw<|e9 1 [] (mc 0 U I) U<|Tg U c_ U<|bE 1 U<|aK<|aO<|KK C<|aw<|rP 3 [] I ?_
 refine aK ?_
 have Y:(vI (((i+1):Nat):Int))=(vI ((i:Int)+1)):=by exact cI om
 refine a_ (H ⟨((i+1),true,(ai.mk (min f o.Lo) (max e o.Hi))),⟨om,by dsimp only; rw [mj hy]; exact El A G hs hf he a⟩⟩ _ _ _ U os (cK 6<|bj U Y<|dv.nil _) (aP [1,2,3,4]))
end
section
open Go.RowKit
theorem Pp (l:br) (kA:OA) (kC:Nat) (az:List RA) (cA:OA) (cC:Nat) (bA:OA) (bC:Nat) (r:cD) (sgA:OA) (sgC:Nat) (hin:eo l az) (hsl:r.ag.length≤1000000):
 dK Tryz.prog 143 [(vA (ct.cells (ct.mk (bM.mk (bx.mk kA l.aS.length kC)) l.hG (bx.mk cA l.aj.length cC) (bx.mk bA l.aa.length bC) l.cf l.e8 l.di))),(vA (cN.cells (jr r sgA sgC)))] [(rd kA l.aS.length 9 (l.aS.map au.cells)),(rd cA l.aj.length 2 (List.zipWith ay.cells l.aj az)),(dU (bo ay.gn l.aj az)),(rd bA l.aa.length 4 (l.aa.map bK.cells)),(rd sgA r.ag.length 2 (r.ag.map aI.cells))] (vT [(vA (ai.cells (zS l r))),(vI (dY l r l.cf))]):=by
 have q:=hin.se
 have j:=hin.sb
 have h:=hin.nP
 have i:=hin.r9
 refine bG kr Tryz.func143 U U fun y Q hQ hN=>?_
 try dsimp only
 refine WS fun _ Z=>eL U fun v=>eL U fun w=>AL U ed fun x=>bE 1 U<|RK Z<|WS fun _ P=>rP 2 [0,1] (mc 2 U (mc 1 U I)) ?_
 refine cX (Mt l kA kC az cA cC bA bC r sgA sgC hin hsl) (bw [3,4,5,6,7]) U fun u V=>?_
 obtain ⟨W,g,e,Y,X⟩:=u
 cases W
 ·obtain ⟨R,he⟩:=V.2 rfl
  try dsimp only at R he
  subst R
  try dsimp only [cond_true,cond_false,List.cons_append,List.nil_append]
  refine bE 5 U<|RK P<|aq fun _ d=>WS fun _ G=>rP 2 [] I ?_
  refine RK G<|bV U (bf fun F=>?_) (bg fun F=>?_)
  ·exact absurd F he
  refine WS fun _ H=>rS (SX (bq (xs:=[]) (cs:=(ai.cells (ai.mk 0 0))) U U (bp g4 U)) U U)<|bE 1 U<|fR U c_ U<|rP 1 [] I ?_
  refine RK H<|av<|mY hQ [0] (mc 0 U I) U ?_
  (rw [Dr (fun z=>he ((vV he).symm.trans z)),vV he]<;>rfl)
 obtain ⟨he,C⟩:=V.1 rfl
 try dsimp only [cond_true,cond_false,List.cons_append,List.nil_append]
 try dsimp only at he C
 obtain ⟨T,E,_,k⟩:=iM he
 obtain ⟨s,c⟩:=dZ T
 have a:=c.head
 unfold fp at a
 have AA:=PB T E
 have t:=AA.num
 have o:=E.len
 have p:=E.time
 refine bE 5 U<|RK P<|aq fun _ AB=>WS fun _ J=>rP 1 [] I ?_
 refine rS (SX (eu (r:= .bool false) U U U xM) U U)<|RK J<|cj U<|WK AB<|aq fun _ K=>?_
 obtain ⟨b,S⟩: ∃ b:Nat,l.cf=(b:Int):=⟨l.cf.toNat,om⟩
 have A:=Kg he (b:=b) om
 rw [← S] at A
 rw [S]
 refine aw<|e9 3 [] (mc 4 U I) U<|rS (CL (GO (qw l r) X e Y b (by exact AA) (by exact C) om) (ax (ak (n:=(qw l r).length) 0 U (tf C))<|ax (dj 1 U Mj)<|aN) U)<|bE 3 U<|AL U ed fun f=>fR U c_ U<|bE 1 U<|RK K<|aq fun _ L=>WS fun _ M=>rP 2 [] I ?_
 refine RK M<|cw U (bg fun B=>?_) (bf fun B=>?_)
 ·refine WS fun _ N=>rS (SX (bq (xs:=[]) (cs:=(ai.cells (ai.mk 0 0))) U U (bp g4 U)) U U)<|bE 1 U<|Ty U c_ U<|rP 1 [] I ?_
  refine RK N<|av<|mY hQ [0] (mc 3 U I) U ?_
  (rw [Dr (fun z=>B (A.1.trans z)),← A.1]<;>rfl)
 refine WK L<|aq fun _ O=>?_
 have D:dY l r l.cf=0:=A.1.symm.trans B
 have m:=t_ D
 rw [A.2]
 refine aw<|e9 10 [0,1,0,1] (mc 0 U (mc 4 U I)) U<|rS (SX (bq (xs:=[(0,.tmp 34),(1,.tmp 39)]) (cs:=(ai.cells (ai.mk (((dQ l r l.cf).Lo)-r.Start) (((dQ l r l.cf).Hi)-r.Start)))) U U (bp g4 U)) U U)<|Ty U c_ U<|rP 1 [] I ?_
 refine RK O<|av<|mY hQ [0] (mc 3 U I) U ?_
 (rw [Aw D,D])
end
section
open Go.RowKit
theorem Er (l:br) (kA:OA) (kC:Nat) (az:List RA) (cA:OA) (cC:Nat) (bA:OA) (bC:Nat) (d:aC) (sgA:OA) (sgC:Nat) (hin:eo l az) (hle:dJ l=0) (hsl:d.bD.ag.length≤1000000) (hk:d.Out=true):
 dK Tryz.prog 123 [(vA (ct.cells (jW l kA kC cA cC bA bC))),(vA (aR.cells (aR.mk d.Out d.dB d.Time (jr d.bD sgA sgC))))] [(rd kA l.aS.length 9 (l.aS.map au.cells)),(rd cA l.aj.length 2 (List.zipWith ay.cells l.aj az)),(dU (bo ay.gn l.aj az)),(rd bA l.aa.length 4 (l.aa.map bK.cells)),(rd sgA d.bD.ag.length 2 (d.bD.ag.map aI.cells))] (vT [(vA (ai.cells (pB l d))),(vB (decide (iX l d)))]):=by
 have K:=hin.se
 have J:=hin.sb
 have H:=hin.nP
 have AA:=hin.r9
 refine bG kr Tryz.func123 U U fun O Q hQ hN=>?_
 try dsimp only
 refine WS fun _ B=>eL U fun L=>eL U fun M=>AL U ed fun N=>bE 1 U<|RK B<|aq fun _ E=>aF<|WS fun _ C=>rP 3 [] (mc 1 U I) ?_
 refine RK C<|bV U (fun G=>?_) (fun G=>?_)
 ·exact absurd ((hk).symm.trans G) dc
 refine WS fun _ A=>rS (SX (bq (xs:=[]) (cs:=(ai.cells (ai.mk 0 0))) U U (bp g4 U)) U U)<|rP 4 [] (mc 1 U I) ?_
 refine cL (t:=15) U (fun D=>?_) (fun D=>?_)
 ·rw [Bool.not_eq_false'] at D
  refine bE 10 U<|fR U c_ U<|rP 1 [] I ?_
  refine RK A<|av<|mY hQ [0] (mc 0 U I) U ?_
  clear hQ hN A C E B
  rw [z_ hk]
  simp only [qU hk]
  refine congrArg (fun z=>Value.tuple #[_,vB z]) ?_
  first|rfl|(simp_all [gS]; done)
 rw [Bool.not_eq_true'] at D
 refine bE 1 U<|rS (LP (ai.cells d.Time) 1 U cq U U U)<|rS (SX (bq (xs:=[]) (cs:=(ai.cells (ai.mk 0 0))) U U (bp g4 U)) U U)<|rS (BI U (wR _ _ d.Time (ai.mk 0 0)))<|rP 2 [] I ?_
 refine cL (t:=21) U (aU fun F=>?_) (aV fun F=>?_)
 ·refine bE 4 U<|fR U c_ U<|rP 1 [] I ?_
  refine RK A<|av<|mY hQ [0] (mc 0 U I) U ?_
  clear hQ hN A C E B
  rw [z_ hk]
  simp only [qU hk]
  refine congrArg (fun z=>Value.tuple #[_,vB z]) ?_
  first|rfl|(simp_all [gS]; done)
 refine bE 1 U<|rS (LP (cN.cells (jr d.bD sgA sgC)) 1 U cq U U U)<|rS (CL (Fz d.bD sgA sgC) (bw [7]) U)<|bE 1 U<|fR U c_ U<|rP 1 [] I ?_
 refine RK A<|av<|mY hQ [0] (mc 0 U I) U ?_
 clear hQ hN A C E B
 rw [z_ hk]
 simp only [qU hk]
 refine congrArg (fun z=>Value.tuple #[_,vB z]) ?_
 first|rfl|(simp_all [gS]; done)
theorem C9 (l:br) (kA:OA) (kC:Nat) (az:List RA) (cA:OA) (cC:Nat) (bA:OA) (bC:Nat) (d:aC) (sgA:OA) (sgC:Nat) (hin:eo l az) (hle:dJ l=0) (hsl:d.bD.ag.length≤1000000) (hk:d.Out=false∧d.dB=true):
 dK Tryz.prog 123 [(vA (ct.cells (jW l kA kC cA cC bA bC))),(vA (aR.cells (aR.mk d.Out d.dB d.Time (jr d.bD sgA sgC))))] [(rd kA l.aS.length 9 (l.aS.map au.cells)),(rd cA l.aj.length 2 (List.zipWith ay.cells l.aj az)),(dU (bo ay.gn l.aj az)),(rd bA l.aa.length 4 (l.aa.map bK.cells)),(rd sgA d.bD.ag.length 2 (d.bD.ag.map aI.cells))] (vT [(vA (ai.cells (pB l d))),(vB (decide (iX l d)))]):=by
 have N:=hin.se
 have M:=hin.sb
 have K:=hin.nP
 have L:=hin.r9
 refine bG kr Tryz.func123 U U fun S Q hQ hN=>?_
 try dsimp only
 refine WS fun _ D=>eL U fun O=>eL U fun P=>AL U ed fun R=>bE 1 U<|RK D<|aq fun _ H=>aF<|WS fun _ E=>rP 3 [] (mc 1 U I) ?_
 refine RK E<|cw U (fun J=>?_) (fun J=>?_)
 ·exact absurd ((hk.1).symm.trans J) dc
 refine WS fun _ F=>rP 3 [] (mc 1 U I) ?_
 refine RK F<|bV U (fun G=>?_) (fun G=>?_)
 ·exact absurd ((hk.2).symm.trans G) dc
 refine aq fun _ B=>dM cy [10] [] [] [1,2,3,4,5,6,7] [] U U U U U<|eS U (FA 2 U fK U)<|eS U (LP (ai.cells d.Time) 0 U cq U U U)<|eS U (FA 2 U fK U)<|eS U (LP (ai.cells d.Time) 0 U cq U U U)<|eS U (CL (M1 d.Time) (aN) U)<|eS U (MV U)<|rq (t:=34) U (fun A=>?_) (fun A=>?_)
 rotate_left 1
 ·replace A:=DF A
  refine eS U (OX U)<|eS U (OX U)<|eS U (OX U)<|eS U (PK U)<|eS U (AG U)<|eC U<|cv U fun T10 C=>fR U c_ U<|aK (C _ _ (aP [1,2,3,4,5,6,7]) ?_)
  refine fP U<|KK B<|av<|mY hQ [0] (mc 0 U I) U ?_
  clear hQ hN C T10 B F E H D
  rw [EJ hk]
  simp only [ui hk]
  refine congrArg (fun z=>Value.tuple #[_,vB z]) ?_
  first|rfl|(simp_all; done)
 replace A:=DT A
 refine eS U (FA 4 U fK U)<|eS U (LP (cN.cells (jr d.bD sgA sgC)) 0 U cq U U U)<|eS U (CL (Fz d.bD sgA sgC) (bw [6]) U)<|eS U (PK U)<|eS U (AG U)<|eC U<|cv U fun T9 AA=>fR U c_ U<|aK (AA _ _ (aP [1,2,3,4,5,6,7]) ?_)
 refine fP U<|KK B<|av<|mY hQ [0] (mc 0 U I) U ?_
 clear hQ hN AA T9 B F E H D
 rw [EJ hk]
 simp only [ui hk]
 refine congrArg (fun z=>Value.tuple #[_,vB z]) ?_
 first|rfl|(simp_all; done)
theorem Et (l:br) (kA:OA) (kC:Nat) (az:List RA) (cA:OA) (cC:Nat) (bA:OA) (bC:Nat) (d:aC) (sgA:OA) (sgC:Nat) (hin:eo l az) (hle:dJ l=0) (hsl:d.bD.ag.length≤1000000) (hk:d.Out=false∧d.dB=false):
 dK Tryz.prog 123 [(vA (ct.cells (jW l kA kC cA cC bA bC))),(vA (aR.cells (aR.mk d.Out d.dB d.Time (jr d.bD sgA sgC))))] [(rd kA l.aS.length 9 (l.aS.map au.cells)),(rd cA l.aj.length 2 (List.zipWith ay.cells l.aj az)),(dU (bo ay.gn l.aj az)),(rd bA l.aa.length 4 (l.aa.map bK.cells)),(rd sgA d.bD.ag.length 2 (d.bD.ag.map aI.cells))] (vT [(vA (ai.cells (pB l d))),(vB (decide (iX l d)))]):=by
 have O:=hin.se
 have N:=hin.sb
 have L:=hin.nP
 have M:=hin.r9
 refine bG kr Tryz.func123 U U fun AA Q hQ hN=>?_
 try dsimp only
 refine WS fun _ E=>eL U fun P=>eL U fun R=>AL U ed fun S=>bE 1 U<|RK E<|aq fun _ F=>aF<|WS fun _ G=>rP 3 [] (mc 1 U I) ?_
 refine RK G<|cw U (fun K=>?_) (fun K=>?_)
 ·exact absurd ((hk.1).symm.trans K) dc
 refine WS fun _ H=>rP 3 [] (mc 1 U I) ?_
 refine RK H<|cw U (fun J=>?_) (fun J=>?_)
 ·exact absurd ((hk.2).symm.trans J) dc
 refine cg<|aO<|KK F<|WS fun _ AB=>e9 2 [] (mc 2 U I) U<|rS (LP (cN.cells (jr d.bD sgA sgC)) 1 U cq U U U)<|rS (CL (Pp l kA kC az cA cC bA bC d.bD sgA sgC hin hsl) (bw [3,4,5,6,7]) U)<|bE 3 U<|AL U ed fun T=>fR U c_ U<|rP 1 [] I ?_
 refine RK AB<|aq fun _ A=>dM cy [9] [] [] [0,2,3,4,5,6,7,8] [] U U U U U<|eS U (LW 0 U cq U U)<|eS U (MV U)<|eS U (BI U lB)<|eS U (MV U)<|rq (t:=49) U (fun B=>?_) (fun B=>?_)
 rotate_left 1
 ·replace B:=DF B
  refine eS U (OX U)<|eS U (OX U)<|eS U (OX U)<|eS U (OX U)<|eS U (PK U)<|eS U (AG U)<|eC U<|cv U fun T12 D=>qy U c_ U<|aK (D _ _ (aP [0,2,3,4,5,6,7,8]) ?_)
  refine fP U<|KK A<|av<|mY hQ [0] (mc 1 U I) U ?_
  clear hQ hN D T12 A AB H G F E
  rw [Fg hk]
  simp only [tJ hk]
  refine congrArg (fun z=>Value.tuple #[_,vB z]) ?_
  first|rfl|(simp_all [gS]; done)
 replace B:=DT B
 refine eS U (FA 2 U fK U)<|eS U (LP (ai.cells d.Time) 1 U cq U U U)<|eS U (SX (bq (xs:=[]) (cs:=(ai.cells (ai.mk 0 0))) U U (bp g4 U)) U U)<|eS U (BI U (wR _ _ d.Time (ai.mk 0 0)))<|eS U (PK U)<|eS U (AG U)<|eC U<|cv U fun T11 C=>qy U c_ U<|aK (C _ _ (aP [0,2,3,4,5,6,7,8]) ?_)
 refine fP U<|KK A<|av<|mY hQ [0] (mc 1 U I) U ?_
 clear hQ hN C T11 A AB H G F E
 rw [Fg hk]
 simp only [tJ hk]
 refine congrArg (fun z=>Value.tuple #[_,vB z]) ?_
 first|rfl|(simp_all [gS]; done)
theorem FP (l:br) (kA:OA) (kC:Nat) (az:List RA) (cA:OA) (cC:Nat) (bA:OA) (bC:Nat) (d:aC) (sgA:OA) (sgC:Nat) (hin:eo l az) (hle:dJ l=0) (hsl:d.bD.ag.length≤1000000):
 dK Tryz.prog 123 [(vA (ct.cells (jW l kA kC cA cC bA bC))),(vA (aR.cells (aR.mk d.Out d.dB d.Time (jr d.bD sgA sgC))))] [(rd kA l.aS.length 9 (l.aS.map au.cells)),(rd cA l.aj.length 2 (List.zipWith ay.cells l.aj az)),(dU (bo ay.gn l.aj az)),(rd bA l.aa.length 4 (l.aa.map bK.cells)),(rd sgA d.bD.ag.length 2 (d.bD.ag.map aI.cells))] (vT [(vA (ai.cells (pB l d))),(vB (decide (iX l d)))]):=by
 by_cases ho:d.Out=true
 ·exact Er l kA kC az cA cC bA bC d sgA sgC hin hle hsl ho
 by_cases hf:d.dB=true
 ·exact C9 l kA kC az cA cC bA bC d sgA sgC hin hle hsl ⟨by simpa using ho,hf⟩
 ·exact Et l kA kC az cA cC bA bC d sgA sgC hin hle hsl ⟨by simpa using ho,by simpa using hf⟩
end
section
open Go.RowKit
theorem Eh (r:e7) (kA:OA) (kC:Nat) (az:List RA) (cA:OA) (cC:Nat) (bA:OA) (bC:Nat) (slA:OA) (slC:Nat) (drA:OA) (drC:Nat) (ha:List cZ) (heA:OA) (heC:Nat) (hin:ld r az ha) (hle:dJ r.ar=0):
 p9 Tryz.prog 102 [(vA (er.cells (yz r kA kC cA cC bA bC slA slC drA drC heA heC)))] [(rd kA r.ar.aS.length 9 (r.ar.aS.map au.cells)),(rd cA r.ar.aj.length 2 (List.zipWith ay.cells r.ar.aj az)),(dU (bo ay.gn r.ar.aj az)),(rd bA r.ar.aa.length 4 (r.ar.aa.map bK.cells)),(rd slA r.aY.length 1 (r.aY.map iC)),(rd drA r.cd.length 1 (r.cd.map iC)),(rd heA r.aD.length 1 (List.zipWith cP r.aD ha)),(dU (bo fg r.aD ha))] (fun (x:Bool×Int×(OA)×Nat×(List RA))=>bif x.1 then (vT [(vS x.2.2.1 ((fY r).length) x.2.2.2.1),(vB true)]) else (vT [(vS none 0 0),(vB false)])) (fun (x:Bool×Int×(OA)×Nat×(List RA))=>(x.1=true→(fU r∧x.2.2.2.2.length=r.aD.length))∧(x.1=false→(x.2.1=0∧ ¬ fU r))) (fun (x:Bool×Int×(OA)×Nat×(List RA))=>bif x.1 then [(own x.2.2.1 x.2.2.2.1 204 1 (List.zipWith MJ (fY r) x.2.2.2.2)),(bU (bo E6 (fY r) x.2.2.2.2))] else []):=by
 have L5:=hin.line
 have PA:=hin.iE
 have PP:=hin.has
 have OM:=hin.iB
 have Ne:=hin.draw
 have Oi:=j7 (r:=r)
 refine fF kr Tryz.func102 U U fun w0 Q hQ hN=>?_
 try dsimp only
 refine WS fun _ LE=>eL U fun b2=>bE 2 U<|RK LE<|WS fun _ LT=>e9 4 [] (mc 0 U I) U<|RK LT<|aq fun _ La=>WS fun _ N=>bE 1 U<|rS (CL (ph (r.aY.length:Int) 1 5) (aN) U)<|rP 2 [] I ?_
 refine bZ (t:=19) U (bg fun J7=>?_) (bf fun J7=>?_)
 ·refine bE 19 U<|RK N<|aT U<|WS fun _ Li=>rP 2 [] I ?_
  refine RK Li<|av<|LX hQ (false,0,none,0,[]) [] [] I U (by rfl) U U ?_
  (exact ⟨yv,fun _=>⟨rfl,fun q=>by have S:=q.num; have q2:=q.zY; have q3:=q.nh; have q4:=q.z8; omega⟩⟩)
 refine rP 7 [] (mc 0 U I) ?_
 refine bZ (t:=26) U (bg fun X=>?_) (bf fun X=>?_)
 ·refine bE 12 U<|RK N<|aT U<|WS fun _ Lk=>rP 2 [] I ?_
  refine RK Lk<|av<|LX hQ (false,0,none,0,[]) [] [] I U (by rfl) U U ?_
  (exact ⟨yv,fun _=>⟨rfl,fun q=>by have S:=q.num; have q2:=q.zY; have q3:=q.nh; have q4:=q.z8; omega⟩⟩)
 refine e9 2 [] (mc 0 U I) U<|rS (CL (ph r.j2 0 5) (aN) U)<|rP 3 [] I ?_
 refine bZ (t:=32) U (bg fun J8=>?_) (bf fun J8=>?_)
 ·refine bE 6 U<|RK N<|aT U<|WS fun _ Lo=>rP 2 [] I ?_
  refine RK Lo<|av<|LX hQ (false,0,none,0,[]) [] [] I U (by rfl) U U ?_
  (exact ⟨yv,fun _=>⟨rfl,fun q=>by have S:=q.num; have q2:=q.zY; have q3:=q.nh; have q4:=q.z8; omega⟩⟩)
 refine e9 3 [] (mc 0 U I) U<|rS (CL (ph (r.aD.length:Int) 1 3) (aN) U)<|rP 2 [] I ?_
 refine RK N<|cw U (bg fun KV=>?_) (bf fun KV=>?_)
 ·refine WS fun _ Lq=>rP 2 [] I ?_
  refine RK Lq<|av<|LX hQ (false,0,none,0,[]) [] [] I U (by rfl) U U ?_
  (exact ⟨yv,fun _=>⟨rfl,fun q=>by have S:=q.num; have q2:=q.zY; have q3:=q.nh; have q4:=q.z8; omega⟩⟩)
 refine WK La<|aq fun _ o=>WS fun _ p=>rP 1 [] I ?_
 refine RK p<|aF ?_
 have A:(0≤r.aY.length)∧(yi r 0):=by exact ⟨Nat.zero_le _,JA⟩
 refine bQ (ι:={z:Nat // (z≤r.aY.length)∧(yi r z)}) [1,4] [0,1,2,3,4,5,6,7,8] U U (fun z=>[(5,(vI (z.1:Int)))]) (fun z=>[]) (fun _=>rfl) (fun _=>rfl) (fun z=>r.aY.length-z.1) ⟨0,A⟩ (bk U) (aP [0,1,2,3,4,5,6,7,8]) ?_
 clear A
 rintro ⟨i,⟨L3,AB⟩⟩ J12 T
 try dsimp only
 refine aq fun _ s=>WS fun _ v=>rP 3 [] I ?_
 refine RK v<|bV U (aU fun J6=>?_) (aV fun J6=>?_)
 ·refine bL<|ab<|ab<|aH<|KK o<|WS fun _ B3=>bE 1 U<|RK B3<|aq fun _ B9=>WS fun _ Ci=>rP 1 [] I ?_
  refine RK Ci<|aF<|eP 204 1<|od ?_
  have A:(0≤r.aD.length)∧(([]:List RA).length=0)∧(km r 0):=by exact ⟨Nat.zero_le _,rfl,x_⟩
  refine bQ (ι:={z:Nat×(List RA)×(OA)×Nat // (z.1≤r.aD.length)∧(z.2.1.length=z.1)∧(km r z.1)}) [1,4] [2,3,4,5,6,7,8,9,10] U U (fun z=>[(7,(vS z.1.2.2.1 ((List.zipWith CJ (gW r z.1.1) z.1.2.1).length) z.1.2.2.2)),(8,(vI (z.1.1:Int)))]) (fun z=>[(bU (bo E6 (gW r z.1.1) z.1.2.1)),(own z.1.2.2.1 z.1.2.2.2 204 1 (List.map sC (List.zipWith CJ (gW r z.1.1) z.1.2.1)))]) (fun _=>rfl) (fun _=>rfl) (fun z=>r.aD.length-z.1.1) ⟨(0,([]:List RA),none,0),A⟩ (bk U) (aP [2,3,4,5,6,7,8,9,10,0,1]) ?_
  clear A
  rintro ⟨⟨h,tz,a,c⟩,⟨P,C,F⟩⟩ J46 l
  try dsimp only at P C F
  try dsimp only
  refine aq fun _ Ck=>WS fun _ Cp=>rP 5 [] (mc 0 U I) ?_
  refine RK Cp<|bV U (aU fun K0=>?_) (aV fun K0=>?_)
  ·refine bL<|ab<|ab<|aH<|KK B9<|aq fun _ GE=>?_
   have L2:gW r h=fY r:=by unfold fY; rw [show h=r.aD.length by omega]
   have M2:tz.length=r.aD.length:=by omega
   rw [L2,zj,show (List.zipWith CJ (fY r) tz).length=(fY r).length from by rw [List.length_zipWith]; omega]
   have If:fU r:=GS (n:=i) om om om om om AB F om
   refine aw<|rP 3 [] I ?_
   refine RK GE<|av ?_
   refine LX hQ (true,0,a,c,tz) [10,9] [] I U (by (show List.all _ _=true; simp only [cond_true,fu,List.all_nil,Ej,Bool.and_true]; rfl)) U U ?_
   exact ⟨fun _=>⟨If,M2⟩,QB⟩
  refine WK Ck<|aq fun _ Cx=>aF<|aq fun _ C0=>WS fun _ C1=>rP 3 [] (mc 0 U I) ?_
  obtain ⟨ht,D⟩:=aM r.aD h om
  obtain ⟨E,H⟩:=aM ha h om
  have W:(List.zipWith cP r.aD ha)[h]? =some (cP ht E):=dx D H
  refine rS (IA h U (aG 7 U) oQ dc om om) ?_
  have Id:=hin.gL _ _ _ D H
  have OK:=Id.nP
  refine rS (gQ h 0 (vS E.1.1 ht.length E.1.2) U cq (aG 7 U) W U dc U)<|rP 3 [] I ?_
  refine RK C1<|cw U (bg fun e=>?_) (bf fun e=>?_)
  ·refine WS fun _ C2=>rP 2 [] I ?_
   refine RK C2<|av<|LX hQ (false,0,none,0,[]) [] [] I U (by rfl) U U ?_
   (exact ⟨yv,fun _=>⟨rfl,fun q=>by have S:=(q.gL ht (aQ D)).1; omega⟩⟩)
  refine WK C0<|WS fun _ C3=>bE 1 U<|RK C3<|aq fun _ Di=>WS fun _ Do=>rP 1 [] I ?_
  refine RK Do<|aF<|eP 53 2 ?_
  have A:(0≤ht.length)∧(oI r.ar ht 0):=by exact ⟨Nat.zero_le _,vy⟩
  refine bQ (ι:={z:Nat×(OA)×Nat // (z.1≤ht.length)∧(oI r.ar ht z.1)}) [1,4,7,8] [1,2,3,4,5,6,7,8,9,10,11] U U (fun z=>[(9,(vS z.1.2.1 (((ht.take z.1.1).map (gl r.ar)).length) z.1.2.2)),(10,(vI (z.1.1:Int)))]) (fun z=>[(own z.1.2.1 z.1.2.2 53 2 (((ht.take z.1.1).map (gl r.ar)).map ai.cells))]) (fun _=>rfl) (fun _=>rfl) (fun z=>ht.length-z.1.1) ⟨(0,none,0),A⟩ (bk U) (aP [1,2,3,4,5,6,7,8,9,10,11,0]) ?_
  clear A
  rintro ⟨⟨j,la,lc⟩,⟨R,G⟩⟩ J57 m
  try dsimp only at R G
  try dsimp only
  refine aq fun _ EQ=>WS fun _ Eq=>rP 3 [] I ?_
  refine RK Eq<|bV U (aU fun K8=>?_) (aV fun K8=>?_)
  ·refine bL<|ab<|ab<|aH<|KK Di<|aw ?_
   rw [show ((ht.take j).map (gl r.ar))=ht.map (gl r.ar) from by rw [List.take_of_length_le om]]
   refine rP 2 [] I ?_
   refine eB (xs:=[.tmp 137]) (cs:=[(vS la ((ht.map (gl r.ar)).length) lc)]) U HO NM U U U U (by simp [Value.cells]) U U fun Os=>?_
   refine dH (es2:=(List.map sC (List.zipWith CJ (gW r (h+1)) (tz++[(la,lc)])))) (m':=(List.zipWith CJ (gW r (h+1)) (tz++[(la,lc)])).length) 11 U U U N9 U U sm (bu (es:=List.map sC [(bx.mk la ((ht.map (gl r.ar)).length) lc)]) 0 U U (by simp [zd]) U) (IU _) (by rw [List.length_zipWith,lf om]; omega) (by rw [List.length_zipWith,lf om]; simp only [maxLen]; omega) (by rw [ug D C,List.map_append]; rfl) (by rw [ug D C]; simp) U fun J3 J5=>?_
   try dsimp only
   refine bE 1 U<|aK<|aO<|KK Cx<|aw<|rP 3 [] I ?_
   refine aK<|xy (X':=bo E6 (gW r (h+1)) (tz++[(la,lc)])) 10 12 U U (CD (a:=(la,lc)) D C) ?_
   have IR:(vI (((h+1):Nat):Int))=(vI ((h:Int)+1)):=by exact cI om
   refine a_ (l ⟨((h+1),(tz++[(la,lc)]),J3,J5),⟨om,by simp; omega,xo F D (E8 om G om)⟩⟩ _ _ _ U os (cK 3<|bj U IR<|dv.nil _) (aP [2,3,4,5,6,7,8,9,10,0,11]))
  refine WK EQ<|aq fun _ Eu=>aF<|aq fun _ FG=>dM cy [14,15] [] [] [0,1,2,3,4,5,6,7,8,9,10,11] [] U U U U U<|eS U (FA 0 U fK U)<|eS U (LP (ct.cells (jW r.ar kA kC cA cC bA bC)) 0 U cq U U U)<|eS U (FA 10 U fK U)<|eS U (L1 (vS heA r.aD.length heC) 0 U cq U U)<|eS U (MV U)<|eS U (IA h U (aG 7 U) oQ dc om om)<|eS U (gQ h 0 (vS E.1.1 ht.length E.1.2) U cq (aG 7 U) W U dc U)<|eS U (MV U) ?_
  obtain ⟨d,hd⟩:=aM ht j om
  obtain ⟨da,Ic⟩:=aM E.2 j om
  have L0:(List.zipWith aC.cells ht E.2)[j]? =some (aC.cells d da):=dx hd Ic
  refine eS U (IA j U (show iH _ (rd E.1.1 ht.length 7 (List.zipWith aC.cells ht E.2)).holds from (cY 8 U (bP D H cH))) sh dc om om)<|eS U (lS j 0 (aR.cells (aR.mk d.Out d.dB d.Time (cN.mk d.bD.Start d.bD.gf (bx.mk da.1 d.bD.ag.length da.2)))) U cq (show iH _ (rd E.1.1 ht.length 7 (List.zipWith aC.cells ht E.2)).holds from (cY 8 U (bP D H cH))) L0 U dc U U) ?_
  have PU:=Id.sig d (aQ hd)
  refine eS U (CL (FP r.ar kA kC az cA cC bA bC d da.1 da.2 asm hle asm) (oP [1,2,3,4]<|ax (show iH _ (rd da.1 d.bD.ag.length 2 (d.bD.ag.map aI.cells)).holds from (cY 8 U (bP D H (dR _ (bP hd Ic (by simp [aC.gn]))))))<|aN) U)<|eS U (MV U)<|eS U (EX U)<|eS U (EX U)<|eS U (AG U)<|eC U<|cv U fun T63 GT=>AL U ed fun Op=>aK (GT _ _ (aP [1,2,3,4,5,6,7,8,9,10,11,12]) ?_)
  refine cv U fun T65 Gi=>fR U c_ U<|aK (Gi _ _ (aP [1,2,3,4,5,6,7,8,9,10,11,12]) ?_)
  refine fP U<|KK FG<|aq fun _ FS=>WS fun _ Fd=>rP 2 [] I ?_
  refine RK Fd<|cw U (bg fun J=>?_) (bf fun J=>?_)
  ·refine WS fun _ Fn=>rP 2 [] I ?_
   refine RK Fn<|av<|LX hQ (false,0,none,0,[]) [] [] I U (by rfl) U U ?_
   (exact ⟨yv,fun _=>⟨rfl,fun q=>by exact J ((q.gL ht (aQ D)).2 d (aQ hd))⟩⟩)
  refine WK FS<|aw<|rP 2 [] (mc 0 U I) ?_
  refine eB (xs:=[.tmp 133]) (cs:=(ai.cells (pB r.ar d))) U lu ed U U U U (by simp [Value.cells,ai.aZ]) U U fun Or=>?_
  refine dH (es2:=(List.map ai.cells ((ht.take (j+1)).map (gl r.ar)))) (m':=((ht.take (j+1)).map (gl r.ar)).length) 13 U U U FC U U sm (bu (es:=List.map ai.cells [(pB r.ar d)]) 0 U U (by simp [ai.aZ]) U) (kT _) (by simp only [List.length_map,List.length_take]; omega) (by simp only [maxLen,List.length_map,List.length_take]; omega) (by rw [List.take_add_one,hd]; simp [HS J]) sq U fun J2 J4=>?_
  try dsimp only
  refine bE 1 U<|aK<|aO<|KK Eu<|aw<|rP 3 [] I ?_
  refine aK ?_
  have IP:(vI (((j+1):Nat):Int))=(vI ((j:Int)+1)):=by exact cI om
  refine a_ (m ⟨((j+1),J2,J4),⟨om,vx G hd J⟩⟩ _ _ _ U os (cK 5<|bj U IP<|dv.nil _) (aP [2,3,4,5,6,7,8,9,10,11,12,13]))
 refine WK s<|aq fun _ AA=>aF<|aq fun _ V=>aq fun _ K=>dA cy 36 kr<|dP 3 [] (mc 0 U I) ?_
 obtain ⟨y,hy⟩:=aM r.aY i om
 have In:=bO iC hy
 refine dS (IA i U (aG 5 U) dp dc om om)<|dS (gQ i 0 (vI y) U cq (aG 5 U) In U dc U)<|dS (CL (ph y 0 9999) (aN) U)<|dP 2 [] I ?_
 refine hO (t:=51) U (bg fun K4=>?_) (bf fun K4=>?_)
 ·refine k6 28 U<|cM<|RK K<|aT U<|WS fun _ w=>rP 2 [] I ?_
  refine RK w<|av<|LX hQ (false,0,none,0,[]) [] [] I U (by rfl) U U ?_
  (exact ⟨yv,fun _=>⟨rfl,fun q=>by have S:=(q.ids i y hy).1; omega⟩⟩)
 refine dP 3 [] I ?_
 refine jD (t:=54) U (aU fun K5=>?_) (aV fun K5=>?_)
 ·refine dP 18 [] (mc 0 U I) ?_
  obtain ⟨x,hx⟩:=aM r.cd i om
  have M:=bO iC hx
  refine dS (IA i U (aG 6 U) dp dc om om)<|dS (gQ i 0 (vI x) U cq (aG 6 U) M U dc U)<|k6 2 U<|dS (CL (ph x 0 ((r.aY.length:Int)-1)) (aN) U)<|dP 2 [] I ?_
  refine cM<|RK K<|cw U (bg fun Y=>?_) (bf fun Y=>?_)
  ·refine WS fun _ A4=>rP 2 [] I ?_
   refine RK A4<|av<|LX hQ (false,0,none,0,[]) [] [] I U (by rfl) U U ?_
   (exact ⟨yv,fun _=>⟨rfl,fun q=>by have S:=q.Ig hx; omega⟩⟩)
  refine WK V<|WS fun _ A5=>rP 1 [] I ?_
  refine RK A5<|aF ?_
  have A:(0≤i)∧(∀ (q:Nat) y,q<0→r.cd[q]? =some y→y≠x):=by exact ⟨Nat.zero_le _,fun q y hq=>absurd hq (Nat.not_lt_zero _)⟩
  refine bQ (ι:={z:Nat // (z≤i)∧(∀ (q:Nat) y,q<z→r.cd[q]? =some y→y≠x)}) [1,4,5] [0,1,2,3,4,5,6,7,8] U U (fun z=>[(6,(vI (z.1:Int)))]) (fun z=>[]) (fun _=>rfl) (fun _=>rfl) (fun z=>i-z.1) ⟨0,A⟩ (bk U) (aP [0,1,2,3,4,5,6,7,8]) ?_
  clear A
  rintro ⟨k,⟨O,B⟩⟩ J34 g
  try dsimp only
  refine aq fun _ A6=>WS fun _ A7=>rP 3 [] I ?_
  refine RK A7<|bV U (aU fun J9=>?_) (aV fun J9=>?_)
  ·refine bL<|ab<|ab<|aH<|aO<|KK AA<|aw<|rP 3 [] I ?_
   refine aK ?_
   have IO:(vI (((i+1):Nat):Int))=(vI ((i:Int)+1)):=by exact cI om
   refine a_ (T ⟨(i+1),⟨om,BA AB (fun a ha=>by rw [hy] at ha; cases ha; exact ⟨om,fun b hb hc=>by omega⟩) (fun a ha=>by rw [hx] at ha; cases ha; exact ⟨om,fun k b hk hb=>B k b om hb⟩)⟩⟩ _ _ _ rfl os (dv.cons rfl<|dv.cons rfl<|bj rfl IO<|dv.nil _) (aP [0,1,2,3,4,5,6,7,8]))
  refine WK A6<|aq fun _ A8=>aF<|aq fun _ A9=>dA cy 11 kr<|dP 3 [] (mc 0 U I) ?_
  obtain ⟨u,hu⟩:=aM r.cd k om
  have Z:=bO iC hu
  refine dS (IA k U (aG 6 U) dp dc om om)<|dS (gQ k 0 (vI u) U cq (aG 6 U) Z U dc U)<|lR 3 [] (mc 0 U I) U<|dS (IA i U (aG 6 U) dp dc om om)<|dS (gQ i 0 (vI x) U cq (aG 6 U) M U dc U)<|dP 1 [] I ?_
  refine cM<|RK A9<|bV U (aU fun L=>?_) (aV fun L=>?_)
  ·refine cg<|aO<|KK A8<|aw<|rP 3 [] I ?_
   refine aK ?_
   have H1:(vI (((k+1):Nat):Int))=(vI ((k:Int)+1)):=by exact cI om
   refine a_ (g ⟨(k+1),⟨om,w9 B hu L⟩⟩ _ _ _ U os (cK 3<|bj U H1<|dv.nil _) (aP [0,1,2,3,4,5,6,7,8]))
  refine WS fun _ Bx=>rP 2 [] I ?_
  refine RK Bx<|av<|LX hQ (false,0,none,0,[]) [] [] I U (by rfl) U U ?_
  (exact ⟨yv,fun _=>⟨rfl,fun q=>by have S:=q.num; have q2:=q.zY; have q3:=q.nh; have q4:=q.z8; omega⟩⟩)
 refine lR 3 [] (mc 0 U I) U<|dS (IA i U (aG 5 U) dp dc om om)<|dS (gQ i 0 (vI y) U cq (aG 5 U) In U dc U)<|dP 4 [] (mc 0 U I) ?_
 obtain ⟨z,hz⟩:=aM r.aY (i-1) om
 have NE:=bO iC hz
 refine dS (IA (i-1) U (aG 5 U) dp dc om om)<|dS (gQ (i-1) 0 (vI z) U cq (aG 5 U) NE U dc U)<|dP 4 [] I ?_
 refine hO (t:=69) U (aV fun LA=>?_) (aU fun LA=>?_)
 ·refine k6 10 U<|cM<|RK K<|aT U<|WS fun _ AC=>rP 2 [] I ?_
  refine RK AC<|av<|LX hQ (false,0,none,0,[]) [] [] I U (by rfl) U U ?_
  (exact ⟨yv,fun _=>⟨rfl,fun q=>by have S:=(q.ids i y hy).2 z om hz; omega⟩⟩)
 refine dP 3 [] (mc 0 U I) ?_
 obtain ⟨x,hx⟩:=aM r.cd i om
 have M:=bO iC hx
 refine dS (IA i U (aG 6 U) dp dc om om)<|dS (gQ i 0 (vI x) U cq (aG 6 U) M U dc U)<|k6 2 U<|dS (CL (ph x 0 ((r.aY.length:Int)-1)) (aN) U)<|dP 2 [] I ?_
 refine cM<|RK K<|cw U (bg fun Y=>?_) (bf fun Y=>?_)
 ·refine WS fun _ AN=>rP 2 [] I ?_
  refine RK AN<|av<|LX hQ (false,0,none,0,[]) [] [] I U (by rfl) U U ?_
  (exact ⟨yv,fun _=>⟨rfl,fun q=>by have S:=q.Ig hx; omega⟩⟩)
 refine WK V<|WS fun _ AO=>rP 1 [] I ?_
 refine RK AO<|aF ?_
 have A:(0≤i)∧(∀ (q:Nat) y,q<0→r.cd[q]? =some y→y≠x):=by exact ⟨Nat.zero_le _,fun q y hq=>absurd hq (Nat.not_lt_zero _)⟩
 refine bQ (ι:={z:Nat // (z≤i)∧(∀ (q:Nat) y,q<z→r.cd[q]? =some y→y≠x)}) [1,4,5] [0,1,2,3,4,5,6,7,8] U U (fun z=>[(6,(vI (z.1:Int)))]) (fun z=>[]) (fun _=>rfl) (fun _=>rfl) (fun z=>i-z.1) ⟨0,A⟩ (bk U) (aP [0,1,2,3,4,5,6,7,8]) ?_
 clear A
 rintro ⟨k,⟨O,B⟩⟩ J23 f
 try dsimp only
 refine aq fun _ Am=>WS fun _ A0=>rP 3 [] I ?_
 refine RK A0<|bV U (aU fun X=>?_) (aV fun X=>?_)
 ·refine bL<|ab<|ab<|aH<|aO<|KK AA<|aw<|rP 3 [] I ?_
  refine aK ?_
  have Hi:(vI (((i+1):Nat):Int))=(vI ((i:Int)+1)):=by exact cI om
  refine a_ (T ⟨(i+1),⟨om,BA AB (fun a ha=>by rw [hy] at ha; cases ha; exact ⟨om,fun b hb hc=>by (rw [hz] at hc; cases hc; omega)⟩) (fun a ha=>by rw [hx] at ha; cases ha; exact ⟨om,fun k b hk hb=>B k b om hb⟩)⟩⟩ _ _ _ rfl os (dv.cons rfl<|dv.cons rfl<|bj rfl Hi<|dv.nil _) (aP [0,1,2,3,4,5,6,7,8]))
 refine WK Am<|aq fun _ A1=>aF<|aq fun _ A2=>dA cy 11 kr<|dP 3 [] (mc 0 U I) ?_
 obtain ⟨u,hu⟩:=aM r.cd k om
 have Z:=bO iC hu
 refine dS (IA k U (aG 6 U) dp dc om om)<|dS (gQ k 0 (vI u) U cq (aG 6 U) Z U dc U)<|lR 3 [] (mc 0 U I) U<|dS (IA i U (aG 6 U) dp dc om om)<|dS (gQ i 0 (vI x) U cq (aG 6 U) M U dc U)<|dP 1 [] I ?_
 refine cM<|RK A2<|bV U (aU fun L=>?_) (aV fun L=>?_)
 ·refine cg<|aO<|KK A1<|aw<|rP 3 [] I ?_
  refine aK ?_
  have Go:(vI (((k+1):Nat):Int))=(vI ((k:Int)+1)):=by exact cI om
  refine a_ (f ⟨(k+1),⟨om,w9 B hu L⟩⟩ _ _ _ U os (cK 3<|bj U Go<|dv.nil _) (aP [0,1,2,3,4,5,6,7,8]))
 refine WS fun _ A3=>rP 2 [] I ?_
 refine RK A3<|av<|LX hQ (false,0,none,0,[]) [] [] I U (by rfl) U U ?_
 (exact ⟨yv,fun _=>⟨rfl,fun q=>by exact q.P2 om hu hx L⟩⟩)
end
section
open Go.RowKit
theorem Hb (r:e7) (kA:OA) (kC:Nat) (az:List RA) (cA:OA) (cC:Nat) (bA:OA) (bC:Nat) (slA:OA) (slC:Nat) (drA:OA) (drC:Nat) (ha:List cZ) (heA:OA) (heC:Nat) (hin:ld r az ha):
 p9 Tryz.prog 76 [(vA (er.cells (yz r kA kC cA cC bA bC slA slC drA drC heA heC)))] [(rd kA r.ar.aS.length 9 (r.ar.aS.map au.cells)),(rd cA r.ar.aj.length 2 (List.zipWith ay.cells r.ar.aj az)),(dU (bo ay.gn r.ar.aj az)),(rd bA r.ar.aa.length 4 (r.ar.aa.map bK.cells)),(rd slA r.aY.length 1 (r.aY.map iC)),(rd drA r.cd.length 1 (r.cd.map iC)),(rd heA r.aD.length 1 (List.zipWith cP r.aD ha)),(dU (bo fg r.aD ha))] (fun (x:Bool×Int×(OA)×Nat×(List RA))=>bif x.1 then (vT [(vS x.2.2.1 ((fY r).length) x.2.2.2.1),(vI 0)]) else (vT [(vS none 0 0),(vI x.2.1)])) (fun (x:Bool×Int×(OA)×Nat×(List RA))=>(x.1=true→(jN r=0∧x.2.2.2.2.length=r.aD.length))∧(x.1=false→(x.2.1=jN r∧ ¬ jN r=0))) (fun (x:Bool×Int×(OA)×Nat×(List RA))=>bif x.1 then [(own x.2.2.1 x.2.2.2.1 204 1 (List.zipWith MJ (fY r) x.2.2.2.2)),(bU (bo E6 (fY r) x.2.2.2.2))] else []):=by
 have AA:=hin.line
 have b:=hin.iE
 have c:=hin.has
 have Z:=hin.iB
 have Y:=hin.draw
 have a:=j7 (r:=r)
 refine fF kr Tryz.func76 U U fun f Q hQ hN=>?_
 try dsimp only
 refine WS fun _ O=>eL U fun e=>bE 2 U<|RK O<|aq fun _ P=>WS fun _ R=>bE 1 U<|rS (LP (ct.cells (jW r.ar kA kC cA cC bA bC)) 0 U cq U U U)<|rS (CL (BQ r.ar kA kC az cA cC bA bC asm) (bw [1,2,3,4]) U)<|bE 1 U<|RK R<|WS fun _ S=>rP 2 [] I ?_
 refine RK S<|cw U (bg fun A=>?_) (bf fun A=>?_)
 ·refine WS fun _ T=>rP 3 [] I ?_
  refine RK T<|av<|LX hQ (false,(dJ r.ar),none,0,[]) [] [] I U (by rfl) U U ?_
  exact v_<|E3 (zk A) A
 refine WK P<|WS fun _ G=>rP 1 [] (mc 0 U I) ?_
 refine cX (Eh r kA kC az cA cC bA bC slA slC drA drC ha heA heC hin (by exact A)) (bw [1,2,3,4,5,6,7,8]) U fun d J=>?_
 obtain ⟨K,W,L,M,N⟩:=d
 cases K
 rotate_left 1
 ·obtain ⟨AB,V⟩:=J.1 rfl
  try dsimp only [cond_true,cond_false,List.cons_append,List.nil_append]
  refine bE 5 U<|RK G<|aq fun _ D=>WS fun _ E=>bE 2 U<|RK E<|cj U<|WK D<|WS fun _ F=>rP 3 [] I ?_
  refine RK F<|av ?_
  refine LX hQ (true,0,L,M,N) [0,1] [] I U (by (show List.all _ _=true; simp only [cond_true,fu,List.all_nil,Ej,Bool.and_true]; rfl)) U U ?_
  exact ⟨fun _=>⟨BO A AB,V⟩,QB⟩
 obtain ⟨H,he⟩:=J.2 rfl
 try dsimp only at H he
 subst H
 try dsimp only [cond_true,cond_false,List.cons_append,List.nil_append]
 refine bE 5 U<|RK G<|aq fun _ X=>WS fun _ B=>bE 2 U<|RK B<|aT U<|WS fun _ C=>rP 2 [] I ?_
 refine RK C<|av<|LX hQ (false,60,none,0,[]) [] [] I U (by rfl) U U ?_
 exact v_<|nK (kN A he)
end
section
open Go.RowKit
theorem GX (r:e7) (kA:OA) (kC:Nat) (az:List RA) (cA:OA) (cC:Nat) (bA:OA) (bC:Nat) (slA:OA) (slC:Nat) (drA:OA) (drC:Nat) (ha:List cZ) (heA:OA) (heC:Nat) (hin:ld r az ha):
 dK Tryz.prog 50 [(vA (er.cells (yz r kA kC cA cC bA bC slA slC drA drC heA heC)))] [(rd kA r.ar.aS.length 9 (r.ar.aS.map au.cells)),(rd cA r.ar.aj.length 2 (List.zipWith ay.cells r.ar.aj az)),(dU (bo ay.gn r.ar.aj az)),(rd bA r.ar.aa.length 4 (r.ar.aa.map bK.cells)),(rd slA r.aY.length 1 (r.aY.map iC)),(rd drA r.cd.length 1 (r.cd.map iC)),(rd heA r.aD.length 1 (List.zipWith cP r.aD ha)),(dU (bo fg r.aD ha))] (vI (jN r)):=by
 have H:=hin.line
 have M:=hin.iE
 have N:=hin.has
 have J:=hin.iB
 have AB:=hin.draw
 have K:=j7 (r:=r)
 refine bG kr Tryz.func50 U U fun V Q hQ hN=>?_
 try dsimp only
 refine WS fun _ G=>eL U fun AA=>bE 1 U<|RK G<|WS fun _ C=>rP 1 [] (mc 0 U I) ?_
 refine cX (Hb r kA kC az cA cC bA bC slA slC drA drC ha heA heC hin) (bw [1,2,3,4,5,6,7,8]) U fun T E=>?_
 obtain ⟨F,L,P,R,S⟩:=T
 cases F
 rotate_left 1
 ·obtain ⟨he,O⟩:=E.1 rfl
  try dsimp only [cond_true,cond_false,List.cons_append,List.nil_append]
  refine bE 5 U<|RK C<|WS fun _ B=>rP 2 [] I ?_
  refine RK B<|av<|Q1 hQ U U U ?_
  first|rfl|(rw [he])
 obtain ⟨D,he⟩:=E.2 rfl
 try dsimp only at D he
 subst D
 try dsimp only [cond_true,cond_false,List.cons_append,List.nil_append]
 refine bE 5 U<|RK C<|WS fun _ A=>rP 2 [] I ?_
 refine RK A<|av<|Q1 hQ U U U ?_
 first|rfl|(rw [he])
end
section
open Go.RowKit
theorem Gp (j:bS) (kA:OA) (kC:Nat) (az:List RA) (cA:OA) (cC:Nat) (bA:OA) (bC:Nat) (slA:OA) (slC:Nat) (drA:OA) (drC:Nat) (ha:List cZ) (heA:OA) (heC:Nat) (faA:OA) (faC:Nat) (prA:OA) (prC:Nat) (hin:gp j az ha) (hjr:jN j.Race=0):
 dK Tryz.prog 51 [(vA (du.cells (mZ j kA kC cA cC bA bC slA slC drA drC heA heC faA faC prA prC)))] [(rd kA j.Race.ar.aS.length 9 (j.Race.ar.aS.map au.cells)),(rd cA j.Race.ar.aj.length 2 (List.zipWith ay.cells j.Race.ar.aj az)),(dU (bo ay.gn j.Race.ar.aj az)),(rd bA j.Race.ar.aa.length 4 (j.Race.ar.aa.map bK.cells)),(rd slA j.Race.aY.length 1 (j.Race.aY.map iC)),(rd drA j.Race.cd.length 1 (j.Race.cd.map iC)),(rd heA j.Race.aD.length 1 (List.zipWith cP j.Race.aD ha)),(dU (bo fg j.Race.aD ha)),(rd faA j.aA.length 4 (j.aA.map aW.cells)),(rd prA j.ao.length 5 (j.ao.map aJ.cells))] (vB (decide (qg j))):=by
 have n:=hin.race
 have OK:=hin.race.line
 have P2:=hin.race.iE
 have Qr:=hin.race.has
 have Os:=hin.race.iB
 have Op:=hin.nf
 have Or:=hin.np
 have Qv:=(eX hjr).1
 have In:=(eX hjr).2
 refine bG kr Tryz.func51 U U fun w0 Q hQ hN=>?_
 try dsimp only
 refine WS fun _ L2=>eL U fun b2=>bE 1 U<|RK L2<|aq fun _ L3=>WS fun _ a=>rP 5 [] (mc 0 U I) ?_
 refine bZ (t:=12) U (aV fun h5=>?_) (aU fun h5=>?_)
 ·refine bE 17 U<|RK a<|aT U<|WS fun _ L5=>rP 1 [] I ?_
  refine RK L5<|av<|Q1 hQ U U U ?_
  first|exact cB (bH (fun q=>by have C:=q.nf; have H:=q.min_; have J:=q.kY; have K:=q.np; omega)).symm|exact cB (bH (fun q=>by have C:=q.fault f (aQ hf); unfold eY at C; split at C<;>omega)).symm|exact cB (bH (fun q=>by have A:=q.gU _ p hp; have C:=A.id; have H:=A.ly; have J:=A.gL; have K:=A.fault; simp only [qz] at H; first|omega|(have V:=A.up AA om L; omega))).symm|exact cB (bH (fun q=>by obtain ⟨R,G,AB,T⟩:=(q.gU _ p hp).jS; rw [F] at G; cases G; first|exact E AB|exact h148 AB|omega)).symm|exact cB (dI ⟨om,dT D om,om,om,om,fun i p hi=>B i p (by have:=(aX.1 hi).1; omega) hi⟩).symm
 refine e9 2 [] (mc 0 U I) U<|rS (CL (ji j.bJ 0 60) (aN) U)<|rP 3 [] I ?_
 refine bZ (t:=18) U (bg fun h7=>?_) (bf fun h7=>?_)
 ·refine bE 11 U<|RK a<|aT U<|WS fun _ M2=>rP 1 [] I ?_
  refine RK M2<|av<|Q1 hQ U U U ?_
  first|exact cB (bH (fun q=>by have C:=q.nf; have H:=q.min_; have J:=q.kY; have K:=q.np; omega)).symm|exact cB (bH (fun q=>by have C:=q.fault f (aQ hf); unfold eY at C; split at C<;>omega)).symm|exact cB (bH (fun q=>by have A:=q.gU _ p hp; have C:=A.id; have H:=A.ly; have J:=A.gL; have K:=A.fault; simp only [qz] at H; first|omega|(have V:=A.up AA om L; omega))).symm|exact cB (bH (fun q=>by obtain ⟨R,G,AB,T⟩:=(q.gU _ p hp).jS; rw [F] at G; cases G; first|exact E AB|exact h148 AB|omega)).symm|exact cB (dI ⟨om,dT D om,om,om,om,fun i p hi=>B i p (by have:=(aX.1 hi).1; omega) hi⟩).symm
 refine e9 2 [] (mc 0 U I) U<|rS (CL (ji j.kU 0 100000) (aN) U)<|rP 3 [] I ?_
 refine bZ (t:=24) U (bg fun h9=>?_) (bf fun h9=>?_)
 ·refine bE 5 U<|RK a<|aT U<|WS fun _ s=>rP 1 [] I ?_
  refine RK s<|av<|Q1 hQ U U U ?_
  first|exact cB (bH (fun q=>by have C:=q.nf; have H:=q.min_; have J:=q.kY; have K:=q.np; omega)).symm|exact cB (bH (fun q=>by have C:=q.fault f (aQ hf); unfold eY at C; split at C<;>omega)).symm|exact cB (bH (fun q=>by have A:=q.gU _ p hp; have C:=A.id; have H:=A.ly; have J:=A.gL; have K:=A.fault; simp only [qz] at H; first|omega|(have V:=A.up AA om L; omega))).symm|exact cB (bH (fun q=>by obtain ⟨R,G,AB,T⟩:=(q.gU _ p hp).jS; rw [F] at G; cases G; first|exact E AB|exact h148 AB|omega)).symm|exact cB (dI ⟨om,dT D om,om,om,om,fun i p hi=>B i p (by have:=(aX.1 hi).1; omega) hi⟩).symm
 refine rP 5 [] (mc 0 U I) ?_
 refine RK a<|cw U (aV fun Iv=>?_) (aU fun Iv=>?_)
 ·refine WS fun _ u=>rP 1 [] I ?_
  refine RK u<|av<|Q1 hQ U U U ?_
  first|exact cB (bH (fun q=>by have C:=q.nf; have H:=q.min_; have J:=q.kY; have K:=q.np; omega)).symm|exact cB (bH (fun q=>by have C:=q.fault f (aQ hf); unfold eY at C; split at C<;>omega)).symm|exact cB (bH (fun q=>by have A:=q.gU _ p hp; have C:=A.id; have H:=A.ly; have J:=A.gL; have K:=A.fault; simp only [qz] at H; first|omega|(have V:=A.up AA om L; omega))).symm|exact cB (bH (fun q=>by obtain ⟨R,G,AB,T⟩:=(q.gU _ p hp).jS; rw [F] at G; cases G; first|exact E AB|exact h148 AB|omega)).symm|exact cB (dI ⟨om,dT D om,om,om,om,fun i p hi=>B i p (by have:=(aX.1 hi).1; omega) hi⟩).symm
 refine WK L3<|aq fun _ v=>WS fun _ w=>rP 1 [] I ?_
 refine RK w<|aF ?_
 have S:(0≤j.aA.length)∧(o5 j 0):=by exact ⟨Nat.zero_le _,AY⟩
 refine bQ (ι:={z:Nat // (z≤j.aA.length)∧(o5 j z)}) [1] [0,1,2,3,4,5,6,7,8,9,10] U U (fun z=>[(3,(vI (z.1:Int)))]) (fun z=>[]) (fun _=>rfl) (fun _=>rfl) (fun z=>j.aA.length-z.1) ⟨0,S⟩ (bk U) (aP [0,1,2,3,4,5,6,7,8,9,10]) ?_
 clear S
 rintro ⟨i,⟨Ne,D⟩⟩ J15 W
 try dsimp only
 refine aq fun _ x=>WS fun _ y=>rP 5 [] (mc 0 U I) ?_
 refine RK y<|cw U (aV fun Iw=>?_) (aU fun Iw=>?_)
 ·refine WK x<|aq fun _ X=>aF<|WS fun _ AC=>rP 3 [] (mc 0 U I) ?_
  obtain ⟨f,hf⟩:=aM j.aA i om
  have NE:=bO aW.cells hf
  refine rS (IA i U (aG 9 U) Ap dc om om)<|rS (lS i 0 (aW.cells f) U cq (aG 9 U) NE U dc U U)<|AL U P5 fun PA=>fR U RM U<|RK AC<|aq fun _ AN=>WS fun _ c=>e9 4 [] (mc 0 U I) U<|rS (CL (ji f.mE 0 f.To) (aN) U)<|rP 2 [] I ?_
  refine bZ (t:=48) U (bg fun J3=>?_) (bf fun J3=>?_)
  ·refine bE 4 U<|RK c<|aT U<|WS fun _ AO=>rP 1 [] I ?_
   refine RK AO<|av<|Q1 hQ U U U ?_
   first|exact cB (bH (fun q=>by have C:=q.nf; have H:=q.min_; have J:=q.kY; have K:=q.np; omega)).symm|exact cB (bH (fun q=>by have C:=q.fault f (aQ hf); unfold eY at C; split at C<;>omega)).symm|exact cB (bH (fun q=>by have A:=q.gU _ p hp; have C:=A.id; have H:=A.ly; have J:=A.gL; have K:=A.fault; simp only [qz] at H; first|omega|(have V:=A.up AA om L; omega))).symm|exact cB (bH (fun q=>by obtain ⟨R,G,AB,T⟩:=(q.gU _ p hp).jS; rw [F] at G; cases G; first|exact E AB|exact h148 AB|omega)).symm|exact cB (dI ⟨om,dT D om,om,om,om,fun i p hi=>B i p (by have:=(aX.1 hi).1; omega) hi⟩).symm
  refine rP 4 [] (mc 0 U I) ?_
  refine RK c<|cw U (aV fun J4=>?_) (aU fun J4=>?_)
  ·refine WS fun _ Am=>rP 1 [] I ?_
   refine RK Am<|av<|Q1 hQ U U U ?_
   first|exact cB (bH (fun q=>by have C:=q.nf; have H:=q.min_; have J:=q.kY; have K:=q.np; omega)).symm|exact cB (bH (fun q=>by have C:=q.fault f (aQ hf); unfold eY at C; split at C<;>omega)).symm|exact cB (bH (fun q=>by have A:=q.gU _ p hp; have C:=A.id; have H:=A.ly; have J:=A.gL; have K:=A.fault; simp only [qz] at H; first|omega|(have V:=A.up AA om L; omega))).symm|exact cB (bH (fun q=>by obtain ⟨R,G,AB,T⟩:=(q.gU _ p hp).jS; rw [F] at G; cases G; first|exact E AB|exact h148 AB|omega)).symm|exact cB (dI ⟨om,dT D om,om,om,om,fun i p hi=>B i p (by have:=(aX.1 hi).1; omega) hi⟩).symm
  refine WK AN<|WS fun _ A0=>e9 2 [] (mc 0 U I) U<|RK A0<|aF<|WS fun _ A1=>rS (BI U lB)<|rP 1 [] I ?_
  refine RK A1<|cw U (aV fun J5=>?_) (aU fun J5=>?_)
  ·refine WS fun _ A2=>rP 3 [] (mc 0 U I) ?_
   refine RK A2<|bV U (bf fun J6=>?_) (bg fun J6=>?_)
   ·refine cg<|aO<|aO<|KK X<|aw<|rP 3 [] I ?_
    refine aK ?_
    have H1:(vI (((i+1):Nat):Int))=(vI ((i:Int)+1)):=by exact cI om
    refine a_ (W ⟨(i+1),⟨om,qB D hf (by refine ⟨om,om,om,?_⟩; split<;>omega)⟩⟩ _ _ _ U os (dv.cons U<|bj U H1<|dv.nil _) (aP [1,2,3,4,5,6,7,8,9,10,11]))
   refine WS fun _ A3=>rP 1 [] I ?_
   refine RK A3<|av<|Q1 hQ U U U ?_
   first|exact cB (bH (fun q=>by have C:=q.nf; have H:=q.min_; have J:=q.kY; have K:=q.np; omega)).symm|exact cB (bH (fun q=>by have C:=q.fault f (aQ hf); unfold eY at C; split at C<;>omega)).symm|exact cB (bH (fun q=>by have A:=q.gU _ p hp; have C:=A.id; have H:=A.ly; have J:=A.gL; have K:=A.fault; simp only [qz] at H; first|omega|(have V:=A.up AA om L; omega))).symm|exact cB (bH (fun q=>by obtain ⟨R,G,AB,T⟩:=(q.gU _ p hp).jS; rw [F] at G; cases G; first|exact E AB|exact h148 AB|omega)).symm|exact cB (dI ⟨om,dT D om,om,om,om,fun i p hi=>B i p (by have:=(aX.1 hi).1; omega) hi⟩).symm
  refine aq fun _ e=>WS fun _ A4=>rS (BI U lB)<|rP 1 [] I ?_
  refine RK A4<|cw U (aV fun J7=>?_) (aU fun J7=>?_)
  ·refine WK e<|bV U (aU fun J8=>?_) (aV fun J8=>?_)
   ·refine WS fun _ A7=>rP 1 [] I ?_
    refine RK A7<|av<|Q1 hQ U U U ?_
    first|exact cB (bH (fun q=>by have C:=q.nf; have H:=q.min_; have J:=q.kY; have K:=q.np; omega)).symm|exact cB (bH (fun q=>by have C:=q.fault f (aQ hf); unfold eY at C; split at C<;>omega)).symm|exact cB (bH (fun q=>by have A:=q.gU _ p hp; have C:=A.id; have H:=A.ly; have J:=A.gL; have K:=A.fault; simp only [qz] at H; first|omega|(have V:=A.up AA om L; omega))).symm|exact cB (bH (fun q=>by obtain ⟨R,G,AB,T⟩:=(q.gU _ p hp).jS; rw [F] at G; cases G; first|exact E AB|exact h148 AB|omega)).symm|exact cB (dI ⟨om,dT D om,om,om,om,fun i p hi=>B i p (by have:=(aX.1 hi).1; omega) hi⟩).symm
   refine WS fun _ A5=>e9 6 [0,1] (mc 0 U (mc 1 U I)) U<|rS (CL (ji f.ig 0 j.Race.ar.cf) (aN) U)<|rP 1 [] I ?_
   refine RK A5<|bV U (bf fun J9=>?_) (bg fun J9=>?_)
   ·refine cg<|aO<|aO<|KK X<|aw<|rP 3 [] I ?_
    refine aK ?_
    have IO:(vI (((i+1):Nat):Int))=(vI ((i:Int)+1)):=by exact cI om
    refine a_ (W ⟨(i+1),⟨om,qB D hf (by refine ⟨om,om,om,?_⟩; split<;>omega)⟩⟩ _ _ _ U os (dv.cons U<|bj U IO<|dv.nil _) (aP [1,2,3,4,5,6,7,8,9,10,11]))
   refine WS fun _ A6=>rP 1 [] I ?_
   refine RK A6<|av<|Q1 hQ U U U ?_
   first|exact cB (bH (fun q=>by have C:=q.nf; have H:=q.min_; have J:=q.kY; have K:=q.np; omega)).symm|exact cB (bH (fun q=>by have C:=q.fault f (aQ hf); unfold eY at C; split at C<;>omega)).symm|exact cB (bH (fun q=>by have A:=q.gU _ p hp; have C:=A.id; have H:=A.ly; have J:=A.gL; have K:=A.fault; simp only [qz] at H; first|omega|(have V:=A.up AA om L; omega))).symm|exact cB (bH (fun q=>by obtain ⟨R,G,AB,T⟩:=(q.gU _ p hp).jS; rw [F] at G; cases G; first|exact E AB|exact h148 AB|omega)).symm|exact cB (dI ⟨om,dT D om,om,om,om,fun i p hi=>B i p (by have:=(aX.1 hi).1; omega) hi⟩).symm
  refine aw<|rS (BI U lB)<|rP 1 [] I ?_
  refine RK e<|bV U (aU fun KV=>?_) (aV fun KV=>?_)
  ·refine WS fun _ Bx=>rP 1 [] I ?_
   refine RK Bx<|av<|Q1 hQ U U U ?_
   first|exact cB (bH (fun q=>by have C:=q.nf; have H:=q.min_; have J:=q.kY; have K:=q.np; omega)).symm|exact cB (bH (fun q=>by have C:=q.fault f (aQ hf); unfold eY at C; split at C<;>omega)).symm|exact cB (bH (fun q=>by have A:=q.gU _ p hp; have C:=A.id; have H:=A.ly; have J:=A.gL; have K:=A.fault; simp only [qz] at H; first|omega|(have V:=A.up AA om L; omega))).symm|exact cB (bH (fun q=>by obtain ⟨R,G,AB,T⟩:=(q.gU _ p hp).jS; rw [F] at G; cases G; first|exact E AB|exact h148 AB|omega)).symm|exact cB (dI ⟨om,dT D om,om,om,om,fun i p hi=>B i p (by have:=(aX.1 hi).1; omega) hi⟩).symm
  refine WS fun _ A8=>e9 6 [0,1] (mc 0 U (mc 1 U I)) U<|rS (CL (ji f.ig 0 j.Race.ar.cf) (aN) U)<|rP 1 [] I ?_
  refine RK A8<|bV U (bf fun K0=>?_) (bg fun K0=>?_)
  ·refine cg<|aO<|aO<|KK X<|aw<|rP 3 [] I ?_
   refine aK ?_
   have IP:(vI (((i+1):Nat):Int))=(vI ((i:Int)+1)):=by exact cI om
   refine a_ (W ⟨(i+1),⟨om,qB D hf (by refine ⟨om,om,om,?_⟩; split<;>omega)⟩⟩ _ _ _ U os (dv.cons U<|bj U IP<|dv.nil _) (aP [1,2,3,4,5,6,7,8,9,10,11]))
  refine WS fun _ A9=>rP 1 [] I ?_
  refine RK A9<|av<|Q1 hQ U U U ?_
  first|exact cB (bH (fun q=>by have C:=q.nf; have H:=q.min_; have J:=q.kY; have K:=q.np; omega)).symm|exact cB (bH (fun q=>by have C:=q.fault f (aQ hf); unfold eY at C; split at C<;>omega)).symm|exact cB (bH (fun q=>by have A:=q.gU _ p hp; have C:=A.id; have H:=A.ly; have J:=A.gL; have K:=A.fault; simp only [qz] at H; first|omega|(have V:=A.up AA om L; omega))).symm|exact cB (bH (fun q=>by obtain ⟨R,G,AB,T⟩:=(q.gU _ p hp).jS; rw [F] at G; cases G; first|exact E AB|exact h148 AB|omega)).symm|exact cB (dI ⟨om,dT D om,om,om,om,fun i p hi=>B i p (by have:=(aX.1 hi).1; omega) hi⟩).symm
 refine bL<|ab<|ab<|aH<|KK v<|aq fun _ B3=>WS fun _ B9=>rP 1 [] I ?_
 refine RK B9<|aF ?_
 have S:(0≤j.ao.length)∧(oM j 0):=by exact ⟨Nat.zero_le _,yb⟩
 refine bQ (ι:={z:Nat // (z≤j.ao.length)∧(oM j z)}) [1] [0,1,2,3,4,5,6,7,8,9,10] U U (fun z=>[(5,(vI (z.1:Int)))]) (fun z=>[]) (fun _=>rfl) (fun _=>rfl) (fun z=>j.ao.length-z.1) ⟨0,S⟩ (bk U) (aP [0,1,2,3,4,5,6,7,8,9,10]) ?_
 clear S
 rintro ⟨k,⟨Io,B⟩⟩ J52 b
 try dsimp only
 refine aq fun _ Ci=>WS fun _ Ck=>rP 5 [] (mc 0 U I) ?_
 refine RK Ck<|bV U (aU fun K4=>?_) (aV fun K4=>?_)
 ·refine bL<|ab<|ab<|aH<|KK B3<|WS fun _ GE=>rP 1 [] I ?_
  refine RK GE<|av<|Q1 hQ U U U ?_
  first|exact cB (bH (fun q=>by have C:=q.nf; have H:=q.min_; have J:=q.kY; have K:=q.np; omega)).symm|exact cB (bH (fun q=>by have C:=q.fault f (aQ hf); unfold eY at C; split at C<;>omega)).symm|exact cB (bH (fun q=>by have A:=q.gU _ p hp; have C:=A.id; have H:=A.ly; have J:=A.gL; have K:=A.fault; simp only [qz] at H; first|omega|(have V:=A.up AA om L; omega))).symm|exact cB (bH (fun q=>by obtain ⟨R,G,AB,T⟩:=(q.gU _ p hp).jS; rw [F] at G; cases G; first|exact E AB|exact h148 AB|omega)).symm|exact cB (dI ⟨om,dT D om,om,om,om,fun i p hi=>B i p (by have:=(aX.1 hi).1; omega) hi⟩).symm
 refine WK Ci<|aq fun _ g=>aF<|WS fun _ Cp=>rP 3 [] (mc 0 U I) ?_
 obtain ⟨p,hp⟩:=aM j.ao k om
 have OM:=bO aJ.cells hp
 refine rS (IA k U (aG 10 U) yq dc om om)<|rS (lS k 0 (aJ.cells p) U cq (aG 10 U) OM U dc U U)<|AL U I9 fun PP=>fR U OP U<|RK Cp<|aq fun _ h=>aq fun _ P=>dA cy 52 kr<|lR 2 [] (mc 0 U I) U<|dS (CL (ji p.Id 0 9999) (aN) U)<|dP 2 [] I ?_
 refine hO (t:=87) U (bg fun K5=>?_) (bf fun K5=>?_)
 ·refine k6 47 U<|cM<|RK P<|aT U<|WS fun _ Cx=>rP 1 [] I ?_
  refine RK Cx<|av<|Q1 hQ U U U ?_
  first|exact cB (bH (fun q=>by have C:=q.nf; have H:=q.min_; have J:=q.kY; have K:=q.np; omega)).symm|exact cB (bH (fun q=>by have C:=q.fault f (aQ hf); unfold eY at C; split at C<;>omega)).symm|exact cB (bH (fun q=>by have A:=q.gU _ p hp; have C:=A.id; have H:=A.ly; have J:=A.gL; have K:=A.fault; simp only [qz] at H; omega)).symm|exact cB (bH (fun q=>by obtain ⟨R,G,AB,T⟩:=(q.gU _ p hp).jS; rw [F] at G; cases G; first|exact E AB|exact h148 AB|omega)).symm|exact cB (dI ⟨om,dT D om,om,om,om,fun i p hi=>B i p (by have:=(aX.1 hi).1; omega) hi⟩).symm
 refine dP 3 [] I ?_
 refine jD (t:=90) U (aU fun K8=>?_) (aV fun K8=>?_)
 ·refine lR 20 [0,1] (mc 0 U (mc 1 U I)) U<|dS (CL (ji p.eO 0 ((j.Race.aY.length:Int)-1)) (aN) U)<|dP 3 [] I ?_
  refine hO (t:=114) U (bg fun Lk=>?_) (bf fun Lk=>?_)
  ·refine k6 20 U<|cM<|RK P<|aT U<|WS fun _ Eq=>rP 1 [] I ?_
   refine RK Eq<|av<|Q1 hQ U U U ?_
   first|exact cB (bH (fun q=>by have C:=q.nf; have H:=q.min_; have J:=q.kY; have K:=q.np; omega)).symm|exact cB (bH (fun q=>by have C:=q.fault f (aQ hf); unfold eY at C; split at C<;>omega)).symm|exact cB (bH (fun q=>by have A:=q.gU _ p hp; have C:=A.id; have H:=A.ly; have J:=A.gL; have K:=A.fault; simp only [qz] at H; omega)).symm|exact cB (bH (fun q=>by obtain ⟨R,G,AB,T⟩:=(q.gU _ p hp).jS; rw [F] at G; cases G; first|exact E AB|exact h148 AB|omega)).symm|exact cB (dI ⟨om,dT D om,om,om,om,fun i p hi=>B i p (by have:=(aX.1 hi).1; omega) hi⟩).symm
  refine lR 7 [0,1] (mc 0 U (mc 1 U I)) U<|dS (CL (ji p.fj 0 ((j.Race.aD.length:Int)-1)) (aN) U)<|dP 3 [] I ?_
  refine hO (t:=125) U (bg fun Lo=>?_) (bf fun Lo=>?_)
  ·refine k6 9 U<|cM<|RK P<|aT U<|WS fun _ Eu=>rP 1 [] I ?_
   refine RK Eu<|av<|Q1 hQ U U U ?_
   first|exact cB (bH (fun q=>by have C:=q.nf; have H:=q.min_; have J:=q.kY; have K:=q.np; omega)).symm|exact cB (bH (fun q=>by have C:=q.fault f (aQ hf); unfold eY at C; split at C<;>omega)).symm|exact cB (bH (fun q=>by have A:=q.gU _ p hp; have C:=A.id; have H:=A.ly; have J:=A.gL; have K:=A.fault; simp only [qz] at H; omega)).symm|exact cB (bH (fun q=>by obtain ⟨R,G,AB,T⟩:=(q.gU _ p hp).jS; rw [F] at G; cases G; first|exact E AB|exact h148 AB|omega)).symm|exact cB (dI ⟨om,dT D om,om,om,om,fun i p hi=>B i p (by have:=(aX.1 hi).1; omega) hi⟩).symm
  refine lR 6 [0,1] (mc 0 U (mc 1 U I)) U<|dS (CL (ji p.ew 0 ((j.aA.length:Int)-1)) (aN) U)<|dP 2 [] I ?_
  refine cM<|RK P<|cw U (bg fun Lq=>?_) (bf fun Lq=>?_)
  ·refine WS fun _ FG=>rP 1 [] I ?_
   refine RK FG<|av<|Q1 hQ U U U ?_
   first|exact cB (bH (fun q=>by have C:=q.nf; have H:=q.min_; have J:=q.kY; have K:=q.np; omega)).symm|exact cB (bH (fun q=>by have C:=q.fault f (aQ hf); unfold eY at C; split at C<;>omega)).symm|exact cB (bH (fun q=>by have A:=q.gU _ p hp; have C:=A.id; have H:=A.ly; have J:=A.gL; have K:=A.fault; simp only [qz] at H; omega)).symm|exact cB (bH (fun q=>by obtain ⟨R,G,AB,T⟩:=(q.gU _ p hp).jS; rw [F] at G; cases G; first|exact E AB|exact h148 AB|omega)).symm|exact cB (dI ⟨om,dT D om,om,om,om,fun i p hi=>B i p (by have:=(aX.1 hi).1; omega) hi⟩).symm
  refine WK h<|aq fun _ FS=>dM cy [11,12] [] [] [0,1,2,3,4,5,6,7,8,9,10,11] [] U U U U U<|eS U (FA 0 U fK U)<|eS U (FA 10 U fK U)<|eS U (L1 (vS heA j.Race.aD.length heC) 1 U cq U U)<|eS U (FA 2 U fK U)<|eS U (L1 (vI p.fj) 0 U cq U U) ?_
  obtain ⟨ht,O⟩:=aM j.Race.aD ((p.fj).toNat) om
  obtain ⟨M,N⟩:=aM ha ((p.fj).toNat) om
  have Z:(List.zipWith cP j.Race.aD ha)[(p.fj).toNat]? =some (cP ht M):=dx O N
  refine eS U (IA ((p.fj).toNat) U (aG 8 U) oQ dc om om) ?_
  have Y:=n.gL _ _ _ O N
  have If:=Y.nP
  have Ig:=(In.gL ht (aQ O)).1
  refine eS U (gQ ((p.fj).toNat) 0 (vS M.1.1 ht.length M.1.2) U cq (aG 8 U) Z U dc U)<|eS U (FA 1 U fK U)<|eS U (L1 (vI p.eO) 0 U cq U U) ?_
  obtain ⟨d,hd⟩:=aM ht ((p.eO).toNat) om
  obtain ⟨da,o⟩:=aM M.2 ((p.eO).toNat) om
  have r:(List.zipWith aC.cells ht M.2)[(p.eO).toNat]? =some (aC.cells d da):=dx hd o
  refine eS U (IA ((p.eO).toNat) U (show iH _ (rd M.1.1 ht.length 7 (List.zipWith aC.cells ht M.2)).holds from (cY 9 U (bP O N cH))) sh dc om om) ?_
  have F:=pz (j:=j) (p:=p) O hd
  have Oi:=Y.sig d (aQ hd)
  refine eS U (lS ((p.eO).toNat) 0 (aR.cells (aR.mk d.Out d.dB d.Time (cN.mk d.bD.Start d.bD.gf (bx.mk da.1 d.bD.ag.length da.2)))) U cq (show iH _ (rd M.1.1 ht.length 7 (List.zipWith aC.cells ht M.2)).holds from (cY 9 U (bP O N cH))) r U dc U U)<|eC U<|cv U fun T88 Go=>AL U Cu fun PY=>aK (Go _ _ (aP [1,2,3,4,5,6,7,8,9,10,11,12]) ?_)
  refine cv U fun T90 Hi=>fR U Gg U<|aK (Hi _ _ (aP [1,2,3,4,5,6,7,8,9,10,11,12]) ?_)
  refine fP U<|KK FS<|WS fun _ m=>e9 1 [] (mc 0 U I) U<|rS (CL (Fm d.Out d.dB d.Time (cN.mk d.bD.Start d.bD.gf (bx.mk da.1 d.bD.ag.length da.2))) (aN) U)<|rP 2 [] I ?_
  refine bZ (t:=149) U (bg fun E=>?_) (bf fun E=>?_)
  ·refine bE 8 U<|RK m<|aT U<|WS fun _ Fd=>rP 1 [] I ?_
   refine RK Fd<|av<|Q1 hQ U U U ?_
   first|exact cB (bH (fun q=>by have C:=q.nf; have H:=q.min_; have J:=q.kY; have K:=q.np; omega)).symm|exact cB (bH (fun q=>by have C:=q.fault f (aQ hf); unfold eY at C; split at C<;>omega)).symm|exact cB (bH (fun q=>by have A:=q.gU _ p hp; have C:=A.id; have H:=A.ly; have J:=A.gL; have K:=A.fault; simp only [qz] at H; first|omega|(have V:=A.up AA om L; omega))).symm|exact cB (bH (fun q=>by obtain ⟨R,G,AB,T⟩:=(q.gU _ p hp).jS; rw [F] at G; cases G; exact E AB)).symm|exact cB (dI ⟨om,dT D om,om,om,om,fun i p hi=>B i p (by have:=(aX.1 hi).1; omega) hi⟩).symm
  refine e9 5 [0,1] (mc 1 U (mc 0 U I)) U<|rS (CL (ji p.At d.bD.Start 86400000) (aN) U)<|rP 2 [] I ?_
  refine RK m<|bV U (bf fun L0=>?_) (bg fun L0=>?_)
  ·refine cg<|aO<|KK g<|aw<|rP 3 [] I ?_
   refine aK ?_
   have Ic:(vI (((k+1):Nat):Int))=(vI ((k:Int)+1)):=by exact cI om
   refine a_ (b ⟨(k+1),⟨om,sO B hp ⟨om,fun q h1 h2=>by omega,by simp only [qz]; omega,om,om,d,F,by first|exact E|exact h148,om⟩⟩⟩ _ _ _ U os (dv.cons U<|bj U Ic<|dv.nil _) (aP [2,3,4,5,6,7,8,9,10,11,12]))
  refine WS fun _ Fn=>rP 1 [] I ?_
  refine RK Fn<|av<|Q1 hQ U U U ?_
  first|exact cB (bH (fun q=>by have C:=q.nf; have H:=q.min_; have J:=q.kY; have K:=q.np; omega)).symm|exact cB (bH (fun q=>by have C:=q.fault f (aQ hf); unfold eY at C; split at C<;>omega)).symm|exact cB (bH (fun q=>by have A:=q.gU _ p hp; have C:=A.id; have H:=A.ly; have J:=A.gL; have K:=A.fault; simp only [qz] at H; first|omega|(have V:=A.up AA om L; omega))).symm|exact cB (bH (fun q=>by obtain ⟨R,G,AB,T⟩:=(q.gU _ p hp).jS; rw [F] at G; cases G; omega)).symm|exact cB (dI ⟨om,dT D om,om,om,om,fun i p hi=>B i p (by have:=(aX.1 hi).1; omega) hi⟩).symm
 refine dP 6 [0,1] (mc 0 U (mc 1 U I)) ?_
 obtain ⟨AA,L⟩:=aM j.ao (k-1) om
 have hp0m:=bO aJ.cells L
 refine dS (IA (k-1) U (aG 11 U) yq dc om om)<|dS (o1 ((k-1)*5) U (aG 11 U) (Nat.mul_pos om dc) fK U)<|dS (gQ (k-1) 0 (vI AA.Id) U cq (aG 11 U) hp0m U dc U)<|dP 4 [] I ?_
 refine hO (t:=103) U (aV fun LA=>?_) (aU fun LA=>?_)
 ·refine k6 31 U<|cM<|RK P<|aT U<|WS fun _ C0=>rP 1 [] I ?_
  refine RK C0<|av<|Q1 hQ U U U ?_
  first|exact cB (bH (fun q=>by have C:=q.nf; have H:=q.min_; have J:=q.kY; have K:=q.np; omega)).symm|exact cB (bH (fun q=>by have C:=q.fault f (aQ hf); unfold eY at C; split at C<;>omega)).symm|exact cB (bH (fun q=>by have A:=q.gU _ p hp; have C:=A.id; have H:=A.ly; have J:=A.gL; have K:=A.fault; simp only [qz] at H; (have V:=A.up AA om L; omega))).symm|exact cB (bH (fun q=>by obtain ⟨R,G,AB,T⟩:=(q.gU _ p hp).jS; rw [F] at G; cases G; first|exact E AB|exact h148 AB|omega)).symm|exact cB (dI ⟨om,dT D om,om,om,om,fun i p hi=>B i p (by have:=(aX.1 hi).1; omega) hi⟩).symm
 refine lR 7 [0,1] (mc 0 U (mc 1 U I)) U<|dS (CL (ji p.eO 0 ((j.Race.aY.length:Int)-1)) (aN) U)<|dP 3 [] I ?_
 refine hO (t:=114) U (bg fun LE=>?_) (bf fun LE=>?_)
 ·refine k6 20 U<|cM<|RK P<|aT U<|WS fun _ C1=>rP 1 [] I ?_
  refine RK C1<|av<|Q1 hQ U U U ?_
  first|exact cB (bH (fun q=>by have C:=q.nf; have H:=q.min_; have J:=q.kY; have K:=q.np; omega)).symm|exact cB (bH (fun q=>by have C:=q.fault f (aQ hf); unfold eY at C; split at C<;>omega)).symm|exact cB (bH (fun q=>by have A:=q.gU _ p hp; have C:=A.id; have H:=A.ly; have J:=A.gL; have K:=A.fault; simp only [qz] at H; omega)).symm|exact cB (bH (fun q=>by obtain ⟨R,G,AB,T⟩:=(q.gU _ p hp).jS; rw [F] at G; cases G; first|exact E AB|exact h148 AB|omega)).symm|exact cB (dI ⟨om,dT D om,om,om,om,fun i p hi=>B i p (by have:=(aX.1 hi).1; omega) hi⟩).symm
 refine lR 7 [0,1] (mc 0 U (mc 1 U I)) U<|dS (CL (ji p.fj 0 ((j.Race.aD.length:Int)-1)) (aN) U)<|dP 3 [] I ?_
 refine hO (t:=125) U (bg fun LT=>?_) (bf fun LT=>?_)
 ·refine k6 9 U<|cM<|RK P<|aT U<|WS fun _ C2=>rP 1 [] I ?_
  refine RK C2<|av<|Q1 hQ U U U ?_
  first|exact cB (bH (fun q=>by have C:=q.nf; have H:=q.min_; have J:=q.kY; have K:=q.np; omega)).symm|exact cB (bH (fun q=>by have C:=q.fault f (aQ hf); unfold eY at C; split at C<;>omega)).symm|exact cB (bH (fun q=>by have A:=q.gU _ p hp; have C:=A.id; have H:=A.ly; have J:=A.gL; have K:=A.fault; simp only [qz] at H; omega)).symm|exact cB (bH (fun q=>by obtain ⟨R,G,AB,T⟩:=(q.gU _ p hp).jS; rw [F] at G; cases G; first|exact E AB|exact h148 AB|omega)).symm|exact cB (dI ⟨om,dT D om,om,om,om,fun i p hi=>B i p (by have:=(aX.1 hi).1; omega) hi⟩).symm
 refine lR 6 [0,1] (mc 0 U (mc 1 U I)) U<|dS (CL (ji p.ew 0 ((j.aA.length:Int)-1)) (aN) U)<|dP 2 [] I ?_
 refine cM<|RK P<|cw U (bg fun La=>?_) (bf fun La=>?_)
 ·refine WS fun _ C3=>rP 1 [] I ?_
  refine RK C3<|av<|Q1 hQ U U U ?_
  first|exact cB (bH (fun q=>by have C:=q.nf; have H:=q.min_; have J:=q.kY; have K:=q.np; omega)).symm|exact cB (bH (fun q=>by have C:=q.fault f (aQ hf); unfold eY at C; split at C<;>omega)).symm|exact cB (bH (fun q=>by have A:=q.gU _ p hp; have C:=A.id; have H:=A.ly; have J:=A.gL; have K:=A.fault; simp only [qz] at H; omega)).symm|exact cB (bH (fun q=>by obtain ⟨R,G,AB,T⟩:=(q.gU _ p hp).jS; rw [F] at G; cases G; first|exact E AB|exact h148 AB|omega)).symm|exact cB (dI ⟨om,dT D om,om,om,om,fun i p hi=>B i p (by have:=(aX.1 hi).1; omega) hi⟩).symm
 refine WK h<|aq fun _ Di=>dM cy [11,12] [] [] [0,1,2,3,4,5,6,7,8,9,10,11] [] U U U U U<|eS U (FA 0 U fK U)<|eS U (FA 10 U fK U)<|eS U (L1 (vS heA j.Race.aD.length heC) 1 U cq U U)<|eS U (FA 2 U fK U)<|eS U (L1 (vI p.fj) 0 U cq U U) ?_
 obtain ⟨ht,O⟩:=aM j.Race.aD ((p.fj).toNat) om
 obtain ⟨M,N⟩:=aM ha ((p.fj).toNat) om
 have Z:(List.zipWith cP j.Race.aD ha)[(p.fj).toNat]? =some (cP ht M):=dx O N
 refine eS U (IA ((p.fj).toNat) U (aG 8 U) oQ dc om om) ?_
 have Y:=n.gL _ _ _ O N
 have If:=Y.nP
 have Ig:=(In.gL ht (aQ O)).1
 refine eS U (gQ ((p.fj).toNat) 0 (vS M.1.1 ht.length M.1.2) U cq (aG 8 U) Z U dc U)<|eS U (FA 1 U fK U)<|eS U (L1 (vI p.eO) 0 U cq U U) ?_
 obtain ⟨d,hd⟩:=aM ht ((p.eO).toNat) om
 obtain ⟨da,o⟩:=aM M.2 ((p.eO).toNat) om
 have r:(List.zipWith aC.cells ht M.2)[(p.eO).toNat]? =some (aC.cells d da):=dx hd o
 refine eS U (IA ((p.eO).toNat) U (show iH _ (rd M.1.1 ht.length 7 (List.zipWith aC.cells ht M.2)).holds from (cY 9 U (bP O N cH))) sh dc om om) ?_
 have F:=pz (j:=j) (p:=p) O hd
 have Oi:=Y.sig d (aQ hd)
 refine eS U (lS ((p.eO).toNat) 0 (aR.cells (aR.mk d.Out d.dB d.Time (cN.mk d.bD.Start d.bD.gf (bx.mk da.1 d.bD.ag.length da.2)))) U cq (show iH _ (rd M.1.1 ht.length 7 (List.zipWith aC.cells ht M.2)).holds from (cY 9 U (bP O N cH))) r U dc U U)<|eC U<|cv U fun T73 GT=>AL U Cu fun PU=>aK (GT _ _ (aP [1,2,3,4,5,6,7,8,9,10,11,12]) ?_)
 refine cv U fun T75 Gi=>fR U Gg U<|aK (Gi _ _ (aP [1,2,3,4,5,6,7,8,9,10,11,12]) ?_)
 refine fP U<|KK Di<|WS fun _ l=>e9 1 [] (mc 0 U I) U<|rS (CL (Fm d.Out d.dB d.Time (cN.mk d.bD.Start d.bD.gf (bx.mk da.1 d.bD.ag.length da.2))) (aN) U)<|rP 2 [] I ?_
 refine bZ (t:=149) U (bg fun E=>?_) (bf fun E=>?_)
 ·refine bE 8 U<|RK l<|aT U<|WS fun _ Do=>rP 1 [] I ?_
  refine RK Do<|av<|Q1 hQ U U U ?_
  first|exact cB (bH (fun q=>by have C:=q.nf; have H:=q.min_; have J:=q.kY; have K:=q.np; omega)).symm|exact cB (bH (fun q=>by have C:=q.fault f (aQ hf); unfold eY at C; split at C<;>omega)).symm|exact cB (bH (fun q=>by have A:=q.gU _ p hp; have C:=A.id; have H:=A.ly; have J:=A.gL; have K:=A.fault; simp only [qz] at H; first|omega|(have V:=A.up AA om L; omega))).symm|exact cB (bH (fun q=>by obtain ⟨R,G,AB,T⟩:=(q.gU _ p hp).jS; rw [F] at G; cases G; exact E AB)).symm|exact cB (dI ⟨om,dT D om,om,om,om,fun i p hi=>B i p (by have:=(aX.1 hi).1; omega) hi⟩).symm
 refine e9 5 [0,1] (mc 1 U (mc 0 U I)) U<|rS (CL (ji p.At d.bD.Start 86400000) (aN) U)<|rP 2 [] I ?_
 refine RK l<|bV U (bf fun Li=>?_) (bg fun Li=>?_)
 ·refine cg<|aO<|KK g<|aw<|rP 3 [] I ?_
  refine aK ?_
  have IR:(vI (((k+1):Nat):Int))=(vI ((k:Int)+1)):=by exact cI om
  refine a_ (b ⟨(k+1),⟨om,sO B hp ⟨om,fun q h1 h2=>by (rw [L] at h2; cases h2; omega),by simp only [qz]; omega,om,om,d,F,by first|exact E|exact h148,om⟩⟩⟩ _ _ _ rfl os (dv.cons rfl<|bj rfl IR<|dv.nil _) (aP [2,3,4,5,6,7,8,9,10,11,12]))
 refine WS fun _ EQ=>rP 1 [] I ?_
 refine RK EQ<|av<|Q1 hQ U U U ?_
 first|exact cB (bH (fun q=>by have C:=q.nf; have H:=q.min_; have J:=q.kY; have K:=q.np; omega)).symm|exact cB (bH (fun q=>by have C:=q.fault f (aQ hf); unfold eY at C; split at C<;>omega)).symm|exact cB (bH (fun q=>by have A:=q.gU _ p hp; have C:=A.id; have H:=A.ly; have J:=A.gL; have K:=A.fault; simp only [qz] at H; first|omega|(have V:=A.up AA om L; omega))).symm|exact cB (bH (fun q=>by obtain ⟨R,G,AB,T⟩:=(q.gU _ p hp).jS; rw [F] at G; cases G; omega)).symm|exact cB (dI ⟨om,dT D om,om,om,om,fun i p hi=>B i p (by have:=(aX.1 hi).1; omega) hi⟩).symm
end
section
open Go.RowKit
theorem Bs (j:bS) (kA:OA) (kC:Nat) (az:List RA) (cA:OA) (cC:Nat) (bA:OA) (bC:Nat) (slA:OA) (slC:Nat) (drA:OA) (drC:Nat) (ha:List cZ) (heA:OA) (heC:Nat) (faA:OA) (faC:Nat) (prA:OA) (prC:Nat) (hin:gp j az ha):
 dK Tryz.prog 28 [(vA (du.cells (mZ j kA kC cA cC bA bC slA slC drA drC heA heC faA faC prA prC)))] [(rd kA j.Race.ar.aS.length 9 (j.Race.ar.aS.map au.cells)),(rd cA j.Race.ar.aj.length 2 (List.zipWith ay.cells j.Race.ar.aj az)),(dU (bo ay.gn j.Race.ar.aj az)),(rd bA j.Race.ar.aa.length 4 (j.Race.ar.aa.map bK.cells)),(rd slA j.Race.aY.length 1 (j.Race.aY.map iC)),(rd drA j.Race.cd.length 1 (j.Race.cd.map iC)),(rd heA j.Race.aD.length 1 (List.zipWith cP j.Race.aD ha)),(dU (bo fg j.Race.aD ha)),(rd faA j.aA.length 4 (j.aA.map aW.cells)),(rd prA j.ao.length 5 (j.ao.map aJ.cells))] (vI (db j)):=by
 have O:=hin.race
 have L:=hin.race.line
 have R:=hin.race.iE
 have S:=hin.race.has
 have P:=hin.race.iB
 have M:=hin.nf
 have N:=hin.np
 refine bG kr Tryz.func28 U U fun AA Q hQ hN=>?_
 try dsimp only
 refine WS fun _ D=>eL U fun T=>bE 1 U<|RK D<|aq fun _ E=>WS fun _ F=>bE 1 U<|rS (LP (er.cells (yz j.Race kA kC cA cC bA bC slA slC drA drC heA heC)) 0 U cq U U U)<|rS (CL (GX j.Race kA kC az cA cC bA bC slA slC drA drC ha heA heC asm) (bw [1,2,3,4,5,6,7,8]) U)<|bE 1 U<|RK F<|WS fun _ G=>rP 2 [] I ?_
 refine RK G<|cw U (bg fun C=>?_) (bf fun C=>?_)
 ·refine WS fun _ H=>rP 2 [] I ?_
  refine RK H<|av<|Q1 hQ U U U ?_
  exact cI (yP C).symm
 refine WK E<|aq fun _ AB=>WS fun _ J=>e9 1 [] (mc 0 U I) U<|rS (CL (Gp j kA kC az cA cC bA bC slA slC drA drC ha heA heC faA faC prA prC hin asm) (bw [1,2,3,4,5,6,7,8,9,10]) U)<|rP 1 [] I ?_
 refine RK J<|cw U (bg fun A=>?_) (bf fun A=>?_)
 ·refine WS fun _ K=>rP 1 [] I ?_
  refine RK K<|av<|Q1 hQ U U U ?_
  exact cI (jO C A).symm
 refine WK AB<|WS fun _ B=>rP 1 [] I ?_
 refine RK B<|av<|Q1 hQ U U U ?_
 exact cI (wJ C A).symm
end
section
open Go.RowKit
theorem qd (x y:Int):
 dK Tryz.prog 47 [(vI x),(vI y)] [] (vA (ai.cells (ai.mk x y))):=by
 refine bG kr Tryz.func47 U U fun D Q hQ hN=>?_
 try dsimp only
 refine WS fun _ A=>AL U ed fun C=>RK A<|WS fun _ B=>rP 2 [] I ?_
 refine rS (SX (bq (xs:=[(0,.tmp 5),(1,.tmp 6)]) (cs:=(ai.cells (ai.mk x y))) U U (bp g4 U)) U U)<|fR U c_ U<|RK B<|av ?_
 exact C5 hQ [0] (mc 0 U I) U U
theorem q8 (x y:Int):
 dK Tryz.prog 48 [(vI x),(vI y)] [] (vA (aR.cells (aR.mk false true (ai.mk x y) (cN.mk 0 0 (bx.mk none 0 0))))):=by
 refine bG kr Tryz.func48 U U fun D Q hQ hN=>?_
 try dsimp only
 refine WS fun _ A=>AL U Cu fun C=>RK A<|WS fun _ B=>rP 2 [] I ?_
 refine rS (CL (qd x y) (aN) U)<|rS (SX (bq (xs:=[(1,.const (vB true)),(2,.tmp 7)]) (cs:=(aR.cells (aR.mk false true (ai.mk x y) (cN.mk 0 0 (bx.mk none 0 0))))) U U (bp Sp U)) U U)<|fR U Gg U<|RK B<|av ?_
 exact C5 hQ [0] (mc 0 U I) U U
theorem uq (j:bS) (kA:OA) (kC:Nat) (az:List RA) (cA:OA) (cC:Nat) (bA:OA) (bC:Nat) (slA:OA) (slC:Nat) (drA:OA) (drC:Nat) (ha:List cZ) (heA:OA) (heC:Nat) (faA:OA) (faC:Nat) (prA:OA) (prC:Nat) (hraw:mA j az ha):
 dK Tryz.prog 9 [(vA (du.cells (mZ j kA kC cA cC bA bC slA slC drA drC heA heC faA faC prA prC)))] [(rd kA j.Race.ar.aS.length 9 (j.Race.ar.aS.map au.cells)),(rd cA j.Race.ar.aj.length 2 (List.zipWith ay.cells j.Race.ar.aj az)),(dU (bo ay.gn j.Race.ar.aj az)),(rd bA j.Race.ar.aa.length 4 (j.Race.ar.aa.map bK.cells)),(rd slA j.Race.aY.length 1 (j.Race.aY.map iC)),(rd drA j.Race.cd.length 1 (j.Race.cd.map iC)),(rd heA j.Race.aD.length 1 (List.zipWith cP j.Race.aD ha)),(dU (bo fg j.Race.aD ha)),(rd faA j.aA.length 4 (j.aA.map aW.cells)),(rd prA j.ao.length 5 (j.ao.map aJ.cells))] (vB (decide (¬ mX j∧db j=0))):=by
 refine bG kr Tryz.func9 U U fun F Q hQ hN=>?_
 try dsimp only
 refine WS fun _ C=>eL U fun E=>bE 1 U<|RK C<|WS fun _ A=>e9 1 [] (mc 0 U I) U<|rS (CL (Iu j kA kC az cA cC bA bC slA slC drA drC ha heA heC faA faC prA prC hraw) (bw [1,2,3,4,5,6,7,8,9,10]) U)<|rP 2 [] I ?_
 refine cL (t:=6) U (bf fun B=>?_) (bg fun B=>?_)
 ·refine bE 1 U<|rP 4 [] I ?_
  refine RK A<|av<|Q1 hQ U U U ?_
  exact cB (bH fun q=>q.1 B).symm
 refine rP 1 [] (mc 0 U I) ?_
 have D:=hraw.small B
 refine rS (CL (Bs j kA kC az cA cC bA bC slA slC drA drC ha heA heC faA faC prA prC asm) (bw [1,2,3,4,5,6,7,8,9,10]) U)<|rP 3 [] I ?_
 refine RK A<|av<|Q1 hQ U U U ?_
 exact cB (gY.2 ⟨fun q=>⟨B,q⟩,fun q=>q.2⟩)
theorem q7 (la:List Int) (laA:OA) (laC:Nat) (n:Int) (hlen:la.length≤1000000):
 dK Tryz.prog 17 [(vS laA la.length laC),(vI n)] [(rd laA la.length 1 (la.map iC))] (vB (decide (n∈la))):=by
 refine bG kr Tryz.func17 U U fun T Q hQ hN=>?_
 try dsimp only
 refine WS fun _ AA=>bE 1 U<|RK AA<|aq fun _ J=>WS fun _ K=>rP 3 [] I ?_
 refine RK K<|aF ?_
 have B:(0≤la.length)∧(n ∉ la.take 0):=by exact ⟨Nat.zero_le _,sm⟩
 refine bQ (ι:={z:Nat // (z≤la.length)∧(n ∉ la.take z)}) [1,7,8] [0] U U (fun z=>[(9,(vI (z.1:Int)))]) (fun z=>[]) (fun _=>rfl) (fun _=>rfl) (fun z=>la.length-z.1) ⟨0,B⟩ (bk U) (aP [0]) ?_
 clear B
 rintro ⟨i,⟨P,A⟩⟩ J4 H
 try dsimp only
 refine WS fun _ L=>rP 1 [] I ?_
 refine RK L<|aq fun _ M=>bV U (aU fun S=>?_) (aV fun S=>?_)
 ·refine bL<|ab<|ab<|aH<|KK J<|WS fun _ F=>rP 1 [] I ?_
  refine RK F<|av<|Q1 hQ U U U ?_
  exact cB (bH (by rw [List.take_of_length_le om] at A; exact A)).symm
 refine WK M<|aq fun _ N=>aF<|WS fun _ O=>?_
 obtain ⟨x,hx⟩:=aM la i om
 have R:=bO iC hx
 refine rS (IA i U (aG 0 U) dp dc om om)<|rS (gQ i 0 (vI x) U cq (aG 0 U) R U dc U)<|bE 1 U<|RK O<|WS fun _ D=>rP 3 [] I ?_
 refine RK D<|cw U (aV fun C=>?_) (aU fun C=>?_)
 ·refine WS fun _ E=>rP 1 [] I ?_
  refine RK E<|av<|Q1 hQ U U U ?_
  exact cB (dI (by rw [← C]; exact aQ hx)).symm
 refine cg<|aO<|KK N<|aw<|rP 2 [] I ?_
 refine aK ?_
 have G:(vI (((i+1):Nat):Int))=(vI ((i:Int)+1)):=by exact cI om
 refine a_ (H ⟨(i+1),⟨om,fun q=>by rw [w8 hx] at q; rcases gI.1 q with q|q; exact A q; exact C (cu.1 q).symm⟩⟩ _ _ _ rfl os (cK 3<|bj rfl G<|dv.nil _) (aP [0]))
end
section
open Go.RowKit
theorem rY:
 p9 Tryz.prog 24 [] [] (fun (x:(OA)×Nat×(OA)×Nat×(List RA)×(OA)×Nat×(OA)×Nat×(OA)×Nat×(OA)×Nat×(List cZ)×(OA)×Nat×(OA)×Nat)=>(vA (du.cells (du.mk (er.mk (ct.mk (bM.mk (bx.mk x.1 ei.Race.ar.aS.length x.2.1)) ei.Race.ar.hG (bx.mk x.2.2.1 ei.Race.ar.aj.length x.2.2.2.1) (bx.mk x.2.2.2.2.2.1 ei.Race.ar.aa.length x.2.2.2.2.2.2.1) ei.Race.ar.cf ei.Race.ar.e8 ei.Race.ar.di) (bx.mk x.2.2.2.2.2.2.2.1 ei.Race.aY.length x.2.2.2.2.2.2.2.2.1) (bx.mk x.2.2.2.2.2.2.2.2.2.1 ei.Race.cd.length x.2.2.2.2.2.2.2.2.2.2.1) ei.Race.j2 (bx.mk x.2.2.2.2.2.2.2.2.2.2.2.1 ei.Race.aD.length x.2.2.2.2.2.2.2.2.2.2.2.2.1)) (bx.mk x.2.2.2.2.2.2.2.2.2.2.2.2.2.2.1 ei.aA.length x.2.2.2.2.2.2.2.2.2.2.2.2.2.2.2.1) (bx.mk x.2.2.2.2.2.2.2.2.2.2.2.2.2.2.2.2.1 ei.ao.length x.2.2.2.2.2.2.2.2.2.2.2.2.2.2.2.2.2) ei.bJ ei.kU)))) (fun (x:(OA)×Nat×(OA)×Nat×(List RA)×(OA)×Nat×(OA)×Nat×(OA)×Nat×(OA)×Nat×(List cZ)×(OA)×Nat×(OA)×Nat)=>gp ei x.2.2.2.2.1 x.2.2.2.2.2.2.2.2.2.2.2.2.2.1∧x.2.2.2.2.1.length=ei.Race.ar.aj.length∧Al ei.Race.aD x.2.2.2.2.2.2.2.2.2.2.2.2.2.1) (fun (x:(OA)×Nat×(OA)×Nat×(List RA)×(OA)×Nat×(OA)×Nat×(OA)×Nat×(OA)×Nat×(List cZ)×(OA)×Nat×(OA)×Nat)=>[(own x.1 x.2.1 118 9 (ei.Race.ar.aS.map au.cells)),(own x.2.2.1 x.2.2.2.1 73 2 (List.zipWith ay.cells ei.Race.ar.aj x.2.2.2.2.1)),(bU (bo ay.owns ei.Race.ar.aj x.2.2.2.2.1)),(own x.2.2.2.2.2.1 x.2.2.2.2.2.2.1 122 4 (ei.Race.ar.aa.map bK.cells)),(own x.2.2.2.2.2.2.2.1 x.2.2.2.2.2.2.2.2.1 3 1 (ei.Race.aY.map iC)),(own x.2.2.2.2.2.2.2.2.2.1 x.2.2.2.2.2.2.2.2.2.2.1 3 1 (ei.Race.cd.map iC)),(own x.2.2.2.2.2.2.2.2.2.2.2.1 x.2.2.2.2.2.2.2.2.2.2.2.2.1 51 1 (List.zipWith cP ei.Race.aD x.2.2.2.2.2.2.2.2.2.2.2.2.2.1)),(bU (bo sj ei.Race.aD x.2.2.2.2.2.2.2.2.2.2.2.2.2.1)),(own x.2.2.2.2.2.2.2.2.2.2.2.2.2.2.1 x.2.2.2.2.2.2.2.2.2.2.2.2.2.2.2.1 80 4 (ei.aA.map aW.cells)),(own x.2.2.2.2.2.2.2.2.2.2.2.2.2.2.2.2.1 x.2.2.2.2.2.2.2.2.2.2.2.2.2.2.2.2.2 47 5 (ei.ao.map aJ.cells))]):=by
 refine fF kr Tryz.func24 U U fun V Q hQ hN=>?_
 try dsimp only
 refine WS fun _ P=>AL U zM fun T=>RK P<|WS fun _ R=>rS (CL (qd 10000 10200) (aN) U)<|rS (SX (bq (xs:=[(0,.const (vI 1)),(1,.tmp 3)]) (cs:=(au.cells (au.mk 1 (ai.mk 10000 10200) (ai.mk 0 0) (ai.mk 0 0) 0 0))) U U (bp SY U)) U U)<|eB (xs:=[.tmp 4]) (cs:=(au.cells (au.mk 1 (ai.mk 10000 10200) (ai.mk 0 0) (ai.mk 0 0) 0 0))) U yo Fy U U U U (by simp [Value.cells,au.aZ]) U U fun E=>rS (SX (bq (xs:=[(0,.tmp 5)]) (cs:=(bM.cells (bM.mk (bx.mk (some ⟨E,0,none⟩) 1 1)))) U U (bp Rx U)) U U)<|rS (CL (qd 0 2) (aN) U)<|rS (SX (bq (xs:=[(0,.const (vI 0)),(1,.tmp 7)]) (cs:=(cQ.cells (cQ.mk 0 (ai.mk 0 2)))) U U (bp QX U)) U U)<|rS (CL (qd 5 6) (aN) U)<|rS (SX (bq (xs:=[(0,.const (vI 100000)),(1,.tmp 9)]) (cs:=(cQ.cells (cQ.mk 100000 (ai.mk 5 6)))) U U (bp QX U)) U U)<|eB (xs:=[.tmp 8,.tmp 10]) (cs:=((cQ.cells (cQ.mk 0 (ai.mk 0 2)))++(cQ.cells (cQ.mk 100000 (ai.mk 5 6))))) U xU yw U U U U (by simp [Value.cells,cQ.aZ]) U U fun J=>rS (SX (bq (xs:=[(0,.const (vI 100)),(1,.tmp 11)]) (cs:=(dy.cells (dy.mk 100 (bx.mk (some ⟨J,0,none⟩) 2 2)))) U U (bp Vp U)) U U)<|eB (xs:=[.tmp 12]) (cs:=(dy.cells (dy.mk 100 (bx.mk (some ⟨J,0,none⟩) 2 2)))) U Ae O2 U U U U (by simp [Value.cells,dy.aZ]) U U fun L=>rS (CL (qd 1000 1000) (aN) U)<|rS (SX (bq (xs:=[(1,.tmp 14)]) (cs:=(cG.cells (cG.mk 0 (ai.mk 1000 1000)))) U U (bp KO U)) U U)<|rS (SX (bq (xs:=[(0,.tmp 15)]) (cs:=(bK.cells (bK.mk (cG.mk 0 (ai.mk 1000 1000)) 0))) U U (bp ID U)) U U)<|rS (CL (qd 4000 4000) (aN) U)<|rS (SX (bq (xs:=[(1,.tmp 17)]) (cs:=(cG.cells (cG.mk 0 (ai.mk 4000 4000)))) U U (bp KO U)) U U)<|rS (SX (bq (xs:=[(0,.tmp 18)]) (cs:=(bK.cells (bK.mk (cG.mk 0 (ai.mk 4000 4000)) 0))) U U (bp ID U)) U U)<|rS (CL (qd 9000 9000) (aN) U)<|rS (SX (bq (xs:=[(1,.tmp 20)]) (cs:=(cG.cells (cG.mk 0 (ai.mk 9000 9000)))) U U (bp KO U)) U U)<|rS (SX (bq (xs:=[(0,.tmp 21)]) (cs:=(bK.cells (bK.mk (cG.mk 0 (ai.mk 9000 9000)) 0))) U U (bp ID U)) U U)<|eB (xs:=[.tmp 16,.tmp 19,.tmp 22]) (cs:=((bK.cells (bK.mk (cG.mk 0 (ai.mk 1000 1000)) 0))++(bK.cells (bK.mk (cG.mk 0 (ai.mk 4000 4000)) 0))++(bK.cells (bK.mk (cG.mk 0 (ai.mk 9000 9000)) 0)))) U v9 RG U U U U (by simp [Value.cells,bK.aZ]) U U fun M=>rS (SX (bq (xs:=[(0,.tmp 6),(1,.const (vI 2000)),(4,.const (vI 1)),(5,.const (vI 1)),(6,.const (vI 1)),(2,.tmp 13),(3,.tmp 23)]) (cs:=(ct.cells (ct.mk (bM.mk (bx.mk (some ⟨E,0,none⟩) 1 1)) 2000 (bx.mk (some ⟨L,0,none⟩) 1 1) (bx.mk (some ⟨M,0,none⟩) 3 3) 1 1 1))) U U (bp Vt U)) U U)<|AL U RC fun AA=>?_
 refine fH (es:=(ei.Race.ar.aS.map au.cells)) (C':=[_,_,_,_,(own (some ⟨E,0,none⟩) 1 118 9 (ei.Race.ar.aS.map au.cells)),_]) 4 U (nt au.aZ _) U (by show _≤maxLen; exact Nat.le_trans (m:=10) (show (1:Nat)≤10 by decide) dc) U ?_
 refine fH (es:=(yD.bI.map cQ.cells)) (C':=[_,_,_,(own (some ⟨J,0,none⟩) 2 75 3 (yD.bI.map cQ.cells)),_,_]) 3 U (nt cQ.aZ _) U (by show _≤maxLen; exact Nat.le_trans (m:=10) (show (2:Nat)≤10 by decide) dc) U ?_
 refine fH (es:=(List.zipWith ay.cells ei.Race.ar.aj [((some ⟨J,0,none⟩),2)])) (C':=[_,_,(own (some ⟨L,0,none⟩) 1 73 2 (List.zipWith ay.cells ei.Race.ar.aj [((some ⟨J,0,none⟩),2)])),_,_,_]) 2 U (by intro x hx; change x∈[ay.cells yD ((some ⟨J,0,none⟩),2)] at hx; rw [cu.1 hx]; rfl) U (by show _≤maxLen; exact Nat.le_trans (m:=10) (show (1:Nat)≤10 by decide) dc) U ?_
 refine fH (es:=(ei.Race.ar.aa.map bK.cells)) (C':=[_,(own (some ⟨M,0,none⟩) 3 122 4 (ei.Race.ar.aa.map bK.cells)),_,_,_,_]) 1 U (nt bK.aZ _) U (by show _≤maxLen; exact Nat.le_trans (m:=10) (show (3:Nat)≤10 by decide) dc) U ?_
 refine xd<|NZ (X:=[]) (X':=bo ay.owns ei.Race.ar.aj [((some ⟨J,0,none⟩),2)]) 0 4 rfl rfl rfl<|qy rfl OI rfl<|RK R<|WS fun _ S=>rS (SX (bq (xs:=[(0,.const (vI 0)),(1,.const (vI 10600))]) (cs:=(aI.cells (aI.mk 0 10600))) rfl rfl (bp Kb rfl)) rfl rfl)<|rS (SX (bq (xs:=[(0,.const (vI 0)),(1,.const (vI 11000))]) (cs:=(aI.cells (aI.mk 0 11000))) rfl rfl (bp Kb rfl)) rfl rfl)<|rS (SX (bq (xs:=[(0,.const (vI 1)),(1,.const (vI 12600))]) (cs:=(aI.cells (aI.mk 1 12600))) rfl rfl (bp Kb rfl)) rfl rfl)<|eB (xs:=[.tmp 25,.tmp 26,.tmp 27]) (cs:=((aI.cells (aI.mk 0 10600))++(aI.cells (aI.mk 0 11000))++(aI.cells (aI.mk 1 12600)))) rfl yC Gz rfl rfl rfl rfl (by simp [Value.cells,aI.aZ]) rfl rfl fun A=>rS (SX (bq (xs:=[(0,.const (vI 10000)),(1,.const (vI 20000)),(2,.tmp 28)]) (cs:=(cN.cells (cN.mk 10000 20000 (bx.mk (some ⟨A,0,none⟩) 3 3)))) rfl rfl (bp Uo rfl)) rfl rfl)<|AL rfl Rt fun N=>fH (es:=(mq.ag.map aI.cells)) (C':=[_,(own (some ⟨A,0,none⟩) 3 78 2 (mq.ag.map aI.cells)),_,_,_,_,_,_]) 1 rfl (nt aI.aZ _) rfl dc rfl<|fR rfl Qd rfl<|RK S<|aq fun _ O=>Ju (L':=[(0,(vP T)),(1,(vP AA)),(2,(vP N)),(3,(vA (ai.cells (ai.mk 10000 10200)))),(4,(vA (au.cells (au.mk 1 (ai.mk 10000 10200) (ai.mk 0 0) (ai.mk 0 0) 0 0)))),(5,(vS (some ⟨E,0,none⟩) 1 1)),(6,(vA (bM.cells (bM.mk (bx.mk (some ⟨E,0,none⟩) 1 1))))),(7,(vA (ai.cells (ai.mk 0 2)))),(8,(vA (cQ.cells (cQ.mk 0 (ai.mk 0 2))))),(9,(vA (ai.cells (ai.mk 5 6)))),(10,(vA (cQ.cells (cQ.mk 100000 (ai.mk 5 6))))),(11,(vS (some ⟨J,0,none⟩) 2 2)),(12,(vA (dy.cells (dy.mk 100 (bx.mk (some ⟨J,0,none⟩) 2 2))))),(13,(vS (some ⟨L,0,none⟩) 1 1)),(14,(vA (ai.cells (ai.mk 1000 1000)))),(15,(vA (cG.cells (cG.mk 0 (ai.mk 1000 1000))))),(16,(vA (bK.cells (bK.mk (cG.mk 0 (ai.mk 1000 1000)) 0)))),(17,(vA (ai.cells (ai.mk 4000 4000)))),(18,(vA (cG.cells (cG.mk 0 (ai.mk 4000 4000))))),(19,(vA (bK.cells (bK.mk (cG.mk 0 (ai.mk 4000 4000)) 0)))),(20,(vA (ai.cells (ai.mk 9000 9000)))),(21,(vA (cG.cells (cG.mk 0 (ai.mk 9000 9000))))),(22,(vA (bK.cells (bK.mk (cG.mk 0 (ai.mk 9000 9000)) 0)))),(23,(vS (some ⟨M,0,none⟩) 3 3)),(24,(vA (ct.cells (ct.mk (bM.mk (bx.mk (some ⟨E,0,none⟩) 1 1)) 2000 (bx.mk (some ⟨L,0,none⟩) 1 1) (bx.mk (some ⟨M,0,none⟩) 3 3) 1 1 1)))),(25,(vA (aI.cells (aI.mk 0 10600)))),(26,(vA (aI.cells (aI.mk 0 11000)))),(27,(vA (aI.cells (aI.mk 1 12600)))),(28,(vS (some ⟨A,0,none⟩) 3 3)),(29,(vA (cN.cells (cN.mk 10000 20000 (bx.mk (some ⟨A,0,none⟩) 3 3)))))]) rfl<|lI cy [0,3,4,5,6,8,9,10,14,15,16,17,19,20,21] [7,11,12,1,2,13,18,22,23,24] [false,false,false,false,false,false,false,false,false,false,false,false,false,false,false] [] [(cx N 56 (cN.cells (cN.mk 10000 20000 (bx.mk (some ⟨A,0,none⟩) 3 3)))),(own (some ⟨A,0,none⟩) 3 78 2 (mq.ag.map aI.cells)),(bU (bo ay.owns ei.Race.ar.aj [((some ⟨J,0,none⟩),2)])),(cx AA 28 (ct.cells (ct.mk (bM.mk (bx.mk (some ⟨E,0,none⟩) 1 1)) 2000 (bx.mk (some ⟨L,0,none⟩) 1 1) (bx.mk (some ⟨M,0,none⟩) 3 3) 1 1 1))),(own (some ⟨M,0,none⟩) 3 122 4 (ei.Race.ar.aa.map bK.cells)),(own (some ⟨L,0,none⟩) 1 73 2 (List.zipWith ay.cells ei.Race.ar.aj [((some ⟨J,0,none⟩),2)])),(own (some ⟨E,0,none⟩) 1 118 9 (ei.Race.ar.aS.map au.cells))] [] kr (aP [0,1,2,3,4,5,6]) (aP [])<|eS rfl (LW 3 rfl cq rfl rfl)<|eS rfl (LW 0 rfl cq rfl rfl)<|eS rfl (SX (bq (xs:=[(3,.tmp 33)]) (cs:=(aR.cells (aR.mk false false (ai.mk 0 0) (cN.mk 10000 20000 (bx.mk (some ⟨A,0,none⟩) 3 3))))) rfl rfl (bp Sp rfl)) rfl rfl)<|eS rfl (CL (q8 2600 2600) (aN) rfl)<|eS rfl (CL (q8 2580 2609) (aN) rfl)<|eS rfl (CL (q8 2555 2559) (aN) rfl)<|eS rfl (CL (q8 2540 2549) (aN) rfl)<|eS rfl (CL (q8 2570 2575) (aN) rfl)<|eS rfl (SX (bq (xs:=[(0,.const (Value.int .u8 1)),(2,.const (vI 12600)),(3,.const (vI 13000))]) (cs:=(aW.cells (aW.mk 1 0 12600 13000))) rfl rfl (bp MU rfl)) rfl rfl)<|eS rfl (SX (bq (xs:=[(0,.const (Value.int .u8 2)),(1,.const (vI 1)),(2,.const (vI 11003)),(3,.const (vI 11100))]) (cs:=(aW.cells (aW.mk 2 1 11003 11100))) rfl rfl (bp MU rfl)) rfl rfl)<|eS rfl (SX (bq (xs:=[(0,.const (Value.int .u8 3)),(2,.const (vI 10700)),(3,.const (vI 10900))]) (cs:=(aW.cells (aW.mk 3 0 10700 10900))) rfl rfl (bp MU rfl)) rfl rfl)<|eS rfl (SX (bq (xs:=[(0,.const (Value.int .u8 1)),(2,.const (vI 13000)),(3,.const (vI 14000))]) (cs:=(aW.cells (aW.mk 1 0 13000 14000))) rfl rfl (bp MU rfl)) rfl rfl)<|eS rfl (SX (bq (xs:=[(0,.const (vI 2)),(3,.const (vI 0)),(4,.const (vI 72596))]) (cs:=(aJ.cells (aJ.mk 2 0 0 0 72596))) rfl rfl (bp O5 rfl)) rfl rfl)<|eS rfl (SX (bq (xs:=[(0,.const (vI 5)),(3,.const (vI 1)),(4,.const (vI 72603))]) (cs:=(aJ.cells (aJ.mk 5 0 0 1 72603))) rfl rfl (bp O5 rfl)) rfl rfl)<|eS rfl (SX (bq (xs:=[(0,.const (vI 6)),(3,.const (vI 3)),(4,.const (vI 20000))]) (cs:=(aJ.cells (aJ.mk 6 0 0 3 20000))) rfl rfl (bp O5 rfl)) rfl rfl)<|eC rfl<|Aj [.take 7,.take 11,.op 12,.take 1,.take 2,.op 13,.take 18,.take 22,.op 23,.op 24] [(34,(vA (aR.cells (aR.mk false false (ai.mk 0 0) (cN.mk 10000 20000 (bx.mk (some ⟨A,0,none⟩) 3 3)))))),(35,(vA (aR.cells (aR.mk false true (ai.mk 2600 2600) (cN.mk 0 0 (bx.mk none 0 0)))))),(36,(vA (aR.cells (aR.mk false true (ai.mk 2580 2609) (cN.mk 0 0 (bx.mk none 0 0)))))),(38,(vA (aR.cells (aR.mk false true (ai.mk 2555 2559) (cN.mk 0 0 (bx.mk none 0 0)))))),(39,(vA (aR.cells (aR.mk false true (ai.mk 2540 2549) (cN.mk 0 0 (bx.mk none 0 0)))))),(40,(vA (aR.cells (aR.mk false true (ai.mk 2570 2575) (cN.mk 0 0 (bx.mk none 0 0)))))),(44,(vA (aW.cells (aW.mk 1 0 12600 13000)))),(45,(vA (aW.cells (aW.mk 2 1 11003 11100)))),(46,(vA (aW.cells (aW.mk 3 0 10700 10900)))),(47,(vA (aW.cells (aW.mk 1 0 13000 14000)))),(49,(vA (aJ.cells (aJ.mk 2 0 0 0 72596)))),(50,(vA (aJ.cells (aJ.mk 5 0 0 1 72603)))),(51,(vA (aJ.cells (aJ.mk 6 0 0 3 20000))))] (fun i=>match i with |7=>37|11=>41|1=>31|2=>32|18=>48|22=>52|_=>0) (fun i b=>match i with |7=> .slice (some ⟨b,0,none⟩) 3 3|11=> .slice (some ⟨b,0,none⟩) 3 3|1=> .slice (some ⟨b,0,none⟩) 3 3|2=> .slice (some ⟨b,0,none⟩) 3 3|18=> .slice (some ⟨b,0,none⟩) 4 4|22=> .slice (some ⟨b,0,none⟩) 3 3|_=>undef) (fun i b=>match i with |7=>cx b 58 ((aR.cells (aR.mk false false (ai.mk 0 0) (cN.mk 10000 20000 (bx.mk (some ⟨A,0,none⟩) 3 3))))++(aR.cells (aR.mk false true (ai.mk 2600 2600) (cN.mk 0 0 (bx.mk none 0 0))))++(aR.cells (aR.mk false true (ai.mk 2580 2609) (cN.mk 0 0 (bx.mk none 0 0)))))|11=>cx b 58 ((aR.cells (aR.mk false true (ai.mk 2555 2559) (cN.mk 0 0 (bx.mk none 0 0))))++(aR.cells (aR.mk false true (ai.mk 2540 2549) (cN.mk 0 0 (bx.mk none 0 0))))++(aR.cells (aR.mk false true (ai.mk 2570 2575) (cN.mk 0 0 (bx.mk none 0 0)))))|1=>cx b 3 [(vI 4),(vI 7),(vI 9)]|2=>cx b 3 [(vI 2),(vI 0),(vI 1)]|18=>cx b 80 ((aW.cells (aW.mk 1 0 12600 13000))++(aW.cells (aW.mk 2 1 11003 11100))++(aW.cells (aW.mk 3 0 10700 10900))++(aW.cells (aW.mk 1 0 13000 14000)))|22=>cx b 47 ((aJ.cells (aJ.mk 2 0 0 0 72596))++(aJ.cells (aJ.mk 5 0 0 1 72603))++(aJ.cells (aJ.mk 6 0 0 3 20000)))|_=>cx b 0 []) rfl rfl rfl kr rfl rfl (aP [0,1,2,3,4,5,6]) (ku (vR (xs:=[.tmp 34,.tmp 35,.tmp 36]) (cs:=((aR.cells (aR.mk false false (ai.mk 0 0) (cN.mk 10000 20000 (bx.mk (some ⟨A,0,none⟩) 3 3))))++(aR.cells (aR.mk false true (ai.mk 2600 2600) (cN.mk 0 0 (bx.mk none 0 0))))++(aR.cells (aR.mk false true (ai.mk 2580 2609) (cN.mk 0 0 (bx.mk none 0 0)))))) rfl sh Cu rfl rfl rfl rfl (by simp [Value.cells,aR.aZ]) rfl rfl rfl (fun _=>rfl) fun _=>rfl)<|ku (vR (xs:=[.tmp 38,.tmp 39,.tmp 40]) (cs:=((aR.cells (aR.mk false true (ai.mk 2555 2559) (cN.mk 0 0 (bx.mk none 0 0))))++(aR.cells (aR.mk false true (ai.mk 2540 2549) (cN.mk 0 0 (bx.mk none 0 0))))++(aR.cells (aR.mk false true (ai.mk 2570 2575) (cN.mk 0 0 (bx.mk none 0 0)))))) rfl sh Cu rfl rfl rfl rfl (by simp [Value.cells,aR.aZ]) rfl rfl rfl (fun _=>rfl) fun _=>rfl)<|mK<|ku (vR (xs:=[.const (vI 4),.const (vI 7),.const (vI 9)]) (cs:=[(vI 4),(vI 7),(vI 9)]) rfl dp ky rfl rfl rfl rfl (by simp [Value.cells]) rfl rfl rfl (fun _=>rfl) fun _=>rfl)<|ku (vR (xs:=[.const (vI 2),.const (vI 0),.const (vI 1)]) (cs:=[(vI 2),(vI 0),(vI 1)]) rfl dp ky rfl rfl rfl rfl (by simp [Value.cells]) rfl rfl rfl (fun _=>rfl) fun _=>rfl)<|mK<|ku (vR (xs:=[.tmp 44,.tmp 45,.tmp 46,.tmp 47]) (cs:=((aW.cells (aW.mk 1 0 12600 13000))++(aW.cells (aW.mk 2 1 11003 11100))++(aW.cells (aW.mk 3 0 10700 10900))++(aW.cells (aW.mk 1 0 13000 14000)))) rfl Ap P5 rfl rfl rfl rfl (by simp [Value.cells,aW.aZ]) rfl rfl rfl (fun _=>rfl) fun _=>rfl)<|ku (vR (xs:=[.tmp 49,.tmp 50,.tmp 51]) (cs:=((aJ.cells (aJ.mk 2 0 0 0 72596))++(aJ.cells (aJ.mk 5 0 0 1 72603))++(aJ.cells (aJ.mk 6 0 0 3 20000)))) rfl yq I9 rfl rfl rfl rfl (by simp [Value.cells,aJ.aZ]) rfl rfl rfl (fun _=>rfl) fun _=>rfl)<|mK<|mK<|D1) ?_
 intro F
 try dsimp only
 intro G
 try dsimp only
 refine mP U fun Y X K hT=>eB (xs:=[.tmp 37,.tmp 41]) (cs:=[(vS (some ⟨F,0,none⟩) 3 3),(vS (some ⟨G,0,none⟩) 3 3)]) U oQ U6 U U U U (by simp [Value.cells]) U U fun B=>kf hT 48 11 U U (fun w hs=>St.jR [3,4,5,6,7,8,9] U U hs) U U ?_
 try dsimp only [List.take]
 intro C
 try dsimp only
 intro D
 try dsimp only
 refine mP U fun Y X K hT=>rS (SX (bq (xs:=[(0,.tmp 30),(1,.tmp 31),(2,.tmp 32),(3,.const (vI 2)),(4,.tmp 42)]) (cs:=(er.cells (er.mk (ct.mk (bM.mk (bx.mk (some ⟨E,0,none⟩) 1 1)) 2000 (bx.mk (some ⟨L,0,none⟩) 1 1) (bx.mk (some ⟨M,0,none⟩) 3 3) 1 1 1) (bx.mk (some ⟨C,0,none⟩) 3 3) (bx.mk (some ⟨D,0,none⟩) 3 3) 2 (bx.mk (some ⟨B,0,none⟩) 2 2)))) U U (bp U9 U)) U U)<|kf hT 51 13 U U (fun w hs=>St.jR [5,6,7,8,9,10,11] U U hs) U U ?_
 try dsimp only [List.take]
 intro H
 try dsimp only
 intro AB
 try dsimp only
 refine mP U fun Y X K hT=>rS (SX (bq (xs:=[(0,.tmp 43),(1,.tmp 48),(2,.tmp 52),(3,.const (vI 1)),(4,.const (vI 500))]) (cs:=(du.cells (du.mk (er.mk (ct.mk (bM.mk (bx.mk (some ⟨E,0,none⟩) 1 1)) 2000 (bx.mk (some ⟨L,0,none⟩) 1 1) (bx.mk (some ⟨M,0,none⟩) 3 3) 1 1 1) (bx.mk (some ⟨C,0,none⟩) 3 3) (bx.mk (some ⟨D,0,none⟩) 3 3) 2 (bx.mk (some ⟨B,0,none⟩) 2 2)) (bx.mk (some ⟨H,0,none⟩) 4 4) (bx.mk (some ⟨AB,0,none⟩) 3 3) 1 500))) U U (bp UD U)) U U)<|kf hT 54 15 U U (fun w hs=>St.jR [7,8,9,10,11,12,13] U U hs) U U ?_
 try dsimp only [List.take]
 refine mP U fun Y X K hT=>hE (vs:=(du.cells (du.mk (er.mk (ct.mk (bM.mk (bx.mk (some ⟨E,0,none⟩) 1 1)) 2000 (bx.mk (some ⟨L,0,none⟩) 1 1) (bx.mk (some ⟨M,0,none⟩) 3 3) 1 1 1) (bx.mk (some ⟨C,0,none⟩) 3 3) (bx.mk (some ⟨D,0,none⟩) 3 3) 2 (bx.mk (some ⟨B,0,none⟩) 2 2)) (bx.mk (some ⟨H,0,none⟩) 4 4) (bx.mk (some ⟨AB,0,none⟩) 3 3) 1 500))) (cs':=(du.cells (du.mk (er.mk (ct.mk (bM.mk (bx.mk (some ⟨E,0,none⟩) 1 1)) 2000 (bx.mk (some ⟨L,0,none⟩) 1 1) (bx.mk (some ⟨M,0,none⟩) 3 3) 1 1 1) (bx.mk (some ⟨C,0,none⟩) 3 3) (bx.mk (some ⟨D,0,none⟩) 3 3) 2 (bx.mk (some ⟨B,0,none⟩) 2 2)) (bx.mk (some ⟨H,0,none⟩) 4 4) (bx.mk (some ⟨AB,0,none⟩) 3 3) 1 500))) (C':=[_,_,_,_,_,_,_,_,_,_,_,_,_,_,(cx T 36 (du.cells (du.mk (er.mk (ct.mk (bM.mk (bx.mk (some ⟨E,0,none⟩) 1 1)) 2000 (bx.mk (some ⟨L,0,none⟩) 1 1) (bx.mk (some ⟨M,0,none⟩) 3 3) 1 1 1) (bx.mk (some ⟨C,0,none⟩) 3 3) (bx.mk (some ⟨D,0,none⟩) 3 3) 2 (bx.mk (some ⟨B,0,none⟩) 2 2)) (bx.mk (some ⟨H,0,none⟩) 4 4) (bx.mk (some ⟨AB,0,none⟩) 3 3) 1 500)))]++X) 14 U U U Bz U U U U U U U<|kf hT 54 15 U U (fun w hs=>St.jR [7,8,9,10,11,12,13] U U hs) U U ?_
 try dsimp only [List.take]
 refine KK O ?_
 refine mm (es:=(ei.Race.aY.map iC)) (C':=[_,_,_,(own (some ⟨C,0,none⟩) 3 3 1 (ei.Race.aY.map iC)),_,_,_,_,_,_,_,_,_,_,_]) 3 U (nt bR _) U (by show _≤maxLen; exact Nat.le_trans (m:=10) (show (3:Nat)≤10 by decide) dc) U ?_
 refine mm (es:=(ei.Race.cd.map iC)) (C':=[_,_,(own (some ⟨D,0,none⟩) 3 3 1 (ei.Race.cd.map iC)),_,_,_,_,_,_,_,_,_,_,_,_]) 2 U (nt bR _) U (by show _≤maxLen; exact Nat.le_trans (m:=10) (show (3:Nat)≤10 by decide) dc) U ?_
 refine mm (es:=(ei.aA.map aW.cells)) (C':=[_,(own (some ⟨H,0,none⟩) 4 80 4 (ei.aA.map aW.cells)),_,_,_,_,_,_,_,_,_,_,_,_,_]) 1 U (nt aW.aZ _) U (by show _≤maxLen; exact Nat.le_trans (m:=10) (show (4:Nat)≤10 by decide) dc) U ?_
 refine mm (es:=(ei.ao.map aJ.cells)) (C':=[(own (some ⟨AB,0,none⟩) 3 47 5 (ei.ao.map aJ.cells)),_,_,_,_,_,_,_,_,_,_,_,_,_,_]) 0 U (nt aJ.aZ _) U (by show _≤maxLen; exact Nat.le_trans (m:=10) (show (3:Nat)≤10 by decide) dc) U ?_
 refine mm (es:=(List.zipWith aC.cells Ia [((some ⟨A,0,none⟩),3),(none,0),(none,0)])) (C':=[_,_,_,_,_,_,(own (some ⟨F,0,none⟩) 3 58 7 (List.zipWith aC.cells Ia [((some ⟨A,0,none⟩),3),(none,0),(none,0)])),_,_,_,_,_,_,_,_]) 6 U (qZ FD) U (by show _≤maxLen; exact Nat.le_trans (m:=10) (show (3:Nat)≤10 by decide) dc) U ?_
 refine mm (es:=(List.zipWith aC.cells Tr [(none,0),(none,0),(none,0)])) (C':=[_,_,_,_,_,(own (some ⟨G,0,none⟩) 3 58 7 (List.zipWith aC.cells Tr [(none,0),(none,0),(none,0)])),_,_,_,_,_,_,_,_,_]) 5 U (qZ FD) U (by show _≤maxLen; exact Nat.le_trans (m:=10) (show (3:Nat)≤10 by decide) dc) U ?_
 refine mm (es:=(List.zipWith cP ei.Race.aD [(((some ⟨F,0,none⟩),3),[((some ⟨A,0,none⟩),3),(none,0),(none,0)]),(((some ⟨G,0,none⟩),3),[(none,0),(none,0),(none,0)])])) (C':=[_,_,_,_,(own (some ⟨B,0,none⟩) 2 51 1 (List.zipWith cP ei.Race.aD [(((some ⟨F,0,none⟩),3),[((some ⟨A,0,none⟩),3),(none,0),(none,0)]),(((some ⟨G,0,none⟩),3),[(none,0),(none,0),(none,0)])])),_,_,_,_,_,_,_,_,_,_]) 4 U (qZ I_) U (by show _≤maxLen; exact Nat.le_trans (m:=10) (show (2:Nat)≤10 by decide) dc) U ?_
 refine eP 78 2<|eP 78 2<|eP 78 2<|eP 78 2<|eP 78 2<|F1 (bo sj ei.Race.aD [(((some ⟨F,0,none⟩),3),[((some ⟨A,0,none⟩),3),(none,0),(none,0)]),(((some ⟨G,0,none⟩),3),[(none,0),(none,0),(none,0)])]) [11,13,0,1,10,2,3,4] [5,6,7,8,9,12,14,15,16,17,18,19] U U<|av ?_
 refine LX hQ ((some ⟨E,0,none⟩),1,(some ⟨L,0,none⟩),1,[((some ⟨J,0,none⟩),2)],(some ⟨M,0,none⟩),3,(some ⟨C,0,none⟩),3,(some ⟨D,0,none⟩),3,(some ⟨B,0,none⟩),2,[(((some ⟨F,0,none⟩),3),[((some ⟨A,0,none⟩),3),(none,0),(none,0)]),(((some ⟨G,0,none⟩),3),[(none,0),(none,0),(none,0)])],(some ⟨H,0,none⟩),4,(some ⟨AB,0,none⟩),3) [11,10,7,9,4,3,5,0,2,1] [0] (mc 12 U I) U (by show List.all _ _=true; simp only [fu,List.all_nil,ng,w4,Bool.and_true]; rfl) U U ?_
 exact ⟨OH (Rf 1 dc) JO,U,JO⟩
end
section
open Go.RowKit
theorem tY (G:List (List Int)) (H:List (List Int)) (gz:List RA) (gA:OA) (gC:Nat) (hz:List RA) (hA:OA) (hC:Nat) (h1:G.length≤1000000) (h2:H.length≤1000000) (h3: ∀ l∈G,l.length≤1000000) (h4: ∀ l∈H,l.length≤1000000) (hgz:gz.length=G.length) (hhz:hz.length=H.length):
 dK Tryz.prog 20 [(vS gA G.length gC),(vS hA H.length hC)] [(rd gA G.length 1 (List.zipWith ru G gz)),(dU (bo C_ G gz)),(rd hA H.length 1 (List.zipWith ru H hz)),(dU (bo C_ H hz))] (vB (decide (G=H))):=by
 refine bG kr Tryz.func20 U U fun Z Q hQ hN=>?_
 try dsimp only
 refine WS fun _ N=>bE 1 U<|RK N<|aq fun _ O=>WS fun _ P=>rP 5 [] I ?_
 refine RK P<|cw U (bg fun hl=>?_) (bf fun hl=>?_)
 ·refine WS fun _ R=>rP 1 [] I ?_
  refine RK R<|av<|Q1 hQ U U U ?_
  exact cB (bH (fun e=>by subst e; omega)).symm
 refine WK O<|aq fun _ S=>WS fun _ T=>rP 1 [] I ?_
 refine RK T<|aF ?_
 have A:(0≤G.length)∧(G.take 0=H.take 0):=by exact ⟨Nat.zero_le _,rfl⟩
 refine bQ (ι:={z:Nat // (z≤G.length)∧(G.take z=H.take z)}) [0,1] [0,1,2,3] U U (fun z=>[(5,(vI (z.1:Int)))]) (fun z=>[]) (fun _=>rfl) (fun _=>rfl) (fun z=>G.length-z.1) ⟨0,A⟩ (bk U) (aP [0,1,2,3]) ?_
 clear A
 rintro ⟨i,⟨W,B⟩⟩ J7 M
 try dsimp only
 refine aq fun _ AA=>WS fun _ V=>rP 4 [] I ?_
 refine RK V<|bV U (aU fun L=>?_) (aV fun L=>?_)
 ·refine bL<|ab<|ab<|aH<|KK S<|WS fun _ F=>rP 1 [] I ?_
  refine RK F<|av<|Q1 hQ U U U ?_
  exact cB (dI (qO om B om)).symm
 refine WK AA<|aq fun _ C=>aF<|aq fun _ D=>dA cy 10 kr<|dP 2 [] I ?_
 obtain ⟨x,hx⟩:=aM G i om
 obtain ⟨xa,J⟩:=aM gz i om
 have X:(List.zipWith ru G gz)[i]? =some (ru x xa):=dx hx J
 refine dS (IA i U (aG 0 U) yr dc om om)<|dS (gQ i 0 (vS xa.1 x.length xa.2) U cq (aG 0 U) X U dc U)<|dP 2 [] I ?_
 obtain ⟨y,hy⟩:=aM H i om
 obtain ⟨ya,K⟩:=aM hz i om
 have Y:(List.zipWith ru H hz)[i]? =some (ru y ya):=dx hy K
 refine dS (IA i U (aG 2 U) yr dc om om)<|dS (gQ i 0 (vS ya.1 y.length ya.2) U cq (aG 2 U) Y U dc U)<|dS (CL (Cz x xa.1 xa.2 y ya.1 ya.2 (by exact h3 x (aQ hx)) (by exact h4 y (aQ hy))) (ax (show iH _ (rd xa.1 x.length 1 (x.map iC)).holds from (cY 1 U (bP hx J (by simp [C_]))))<|ax (show iH _ (rd ya.1 y.length 1 (y.map iC)).holds from (cY 3 U (bP hy K (by simp [C_]))))<|aN) U)<|dP 1 [] I ?_
 refine cM<|RK D<|cw U (bg fun h=>?_) (bf fun h=>?_)
 ·refine WS fun _ E=>rP 1 [] I ?_
  refine RK E<|av<|Q1 hQ U U U ?_
  exact cB (bH (qI hx hy h)).symm
 refine cg<|aO<|KK C<|aw<|rP 3 [] I ?_
 refine aK ?_
 have AB:(vI (((i+1):Nat):Int))=(vI ((i:Int)+1)):=by exact cI om
 refine a_ (M ⟨(i+1),⟨om,vk B hx hy h⟩⟩ _ _ _ U os (dv.cons U<|dv.cons U<|bj U AB<|dv.nil _) (aP [0,1,2,3]))
theorem x9 (fq sq x:Int):
 dK Tryz.prog 25 [(vI fq),(vI sq),(Value.int .u8 x)] [(rd gV 3 2 fW)] (vB (decide (oR ei fq 0 sq=0∧pM ei fq 0 sq=x))):=by
 refine bG kr Tryz.func25 U U fun c Q hQ hN=>?_
 try dsimp only
 refine WS fun _ X=>rP 1 [] I ?_
 refine RK X<|WS fun _ Y=>cX rY (aN) U fun b a=>?_
 obtain ⟨S,V,T,W,AA,C,G,D,H,E,AB,F,J,O,K,L,P,R⟩:=b
 try dsimp only
 obtain ⟨N,Z,M⟩:=a
 refine bE 2 U<|rS (CL (Mi ei S V AA T W C G D H E AB O F J K L P R fq 0 sq (by exact N)) (gj 10 U U<|ax (ak (n:=ei.Race.ar.aS.length) 0 U sm)<|ax (ak (n:=ei.Race.ar.aj.length) 1 U (g_ Z))<|ax (dj 2 U iN)<|ax (ak (n:=ei.Race.ar.aa.length) 3 U sm)<|ax (ak (n:=ei.Race.aY.length) 4 U sm)<|ax (ak (n:=ei.Race.cd.length) 5 U sm)<|ax (ak (n:=ei.Race.aD.length) 6 U (e_ M.1))<|ax (g7 7 U M)<|ax (ak (n:=ei.aA.length) 8 U sm)<|ax (ak (n:=ei.ao.length) 9 U sm)<|aN) U)<|bE 5 U<|RK Y<|WS fun _ A=>rP 3 [] I ?_
 refine cL (t:=18) U (aU fun B=>?_) (aV fun B=>?_)
 ·refine rP 5 [] I ?_
  refine RK A<|av<|Q1 hQ U U U ?_
  exact cB (bH fun q=>B q.1).symm
 refine bE 2 U<|rS (BI U lB)<|rP 2 [] I ?_
 refine RK A<|av<|Q1 hQ U U U ?_
 exact cB (gY.2 ⟨fun q=>⟨B,q⟩,fun q=>q.2⟩)
theorem Fi (iq x:Int):
 dK Tryz.prog 26 [(vI iq),(Value.int .u8 x)] [(rd gV 3 2 fW)] (vB (decide (tP ei iq=0∧vY ei iq=x))):=by
 refine bG kr Tryz.func26 U U fun c Q hQ hN=>?_
 try dsimp only
 refine WS fun _ X=>rP 1 [] I ?_
 refine RK X<|WS fun _ Y=>cX rY (aN) U fun b a=>?_
 obtain ⟨S,V,T,W,AA,C,G,D,H,E,AB,F,J,O,K,L,P,R⟩:=b
 try dsimp only
 obtain ⟨N,Z,M⟩:=a
 refine bE 1 U<|rS (CL (PQ ei S V AA T W C G D H E AB O F J K L P R iq (by exact N)) (gj 10 U U<|ax (ak (n:=ei.Race.ar.aS.length) 0 U sm)<|ax (ak (n:=ei.Race.ar.aj.length) 1 U (g_ Z))<|ax (dj 2 U iN)<|ax (ak (n:=ei.Race.ar.aa.length) 3 U sm)<|ax (ak (n:=ei.Race.aY.length) 4 U sm)<|ax (ak (n:=ei.Race.cd.length) 5 U sm)<|ax (ak (n:=ei.Race.aD.length) 6 U (e_ M.1))<|ax (g7 7 U M)<|ax (ak (n:=ei.aA.length) 8 U sm)<|ax (ak (n:=ei.ao.length) 9 U sm)<|aN) U)<|bE 5 U<|RK Y<|WS fun _ A=>rP 3 [] I ?_
 refine cL (t:=15) U (aU fun B=>?_) (aV fun B=>?_)
 ·refine rP 5 [] I ?_
  refine RK A<|av<|Q1 hQ U U U ?_
  exact cB (bH fun q=>B q.1).symm
 refine bE 2 U<|rS (BI U lB)<|rP 2 [] I ?_
 refine RK A<|av<|Q1 hQ U U U ?_
 exact cB (gY.2 ⟨fun q=>⟨B,q⟩,fun q=>q.2⟩)
end
section
open Go.RowKit
theorem Iy:
 dK Tryz.prog 8 [] [(rd gV 3 2 fW)] (vB true):=by
 refine bG kr Tryz.func8 U U fun w0 Q hQ hN=>?_
 try dsimp only
 refine WS fun _ J8=>rP 1 [] I ?_
 refine RK J8<|WS fun _ J9=>cX rY (aN) U fun y3 KV=>?_
 obtain ⟨In,J4,Iv,J6,J3,K,l,O,r,T,w,X,AC,GT,A0,A4,H1,Ic⟩:=y3
 try dsimp only
 obtain ⟨B,C,A⟩:=KV
 refine cX (o9 ei In J4 J3 Iv J6 K l O r T w GT X AC A0 A4 H1 Ic (by exact B)) (gj 10 U U<|ax (ak (n:=ei.Race.ar.aS.length) 0 U sm)<|ax (ak (n:=ei.Race.ar.aj.length) 1 U (g_ C))<|ax (dj 2 U iN)<|ax (ak (n:=ei.Race.ar.aa.length) 3 U sm)<|ax (ak (n:=ei.Race.aY.length) 4 U sm)<|ax (ak (n:=ei.Race.cd.length) 5 U sm)<|ax (ak (n:=ei.Race.aD.length) 6 U (e_ A.1))<|ax (g7 7 U A)<|ax (ak (n:=ei.aA.length) 8 U sm)<|ax (ak (n:=ei.ao.length) 9 U sm)<|aN) U fun K0 LE=>?_
 obtain ⟨Io,J5⟩:=K0
 try dsimp only
 refine z3 [0,11] U U<|rP 5 [] I ?_
 refine RK J9<|WS fun _ Do=>cX rY (aN) U fun K4 FS=>?_
 obtain ⟨E,f,H,i,c,L,o,P,s,AA,x,Y,AN,Gi,A1,A5,IO,Id⟩:=K4
 try dsimp only
 obtain ⟨B,C,A⟩:=FS
 refine cX (pd ei E f c H i L o P s AA x Gi Y AN A1 A5 IO Id (by exact B)) (gj 11 U U<|ax (ak (n:=ei.Race.ar.aS.length) 0 U sm)<|ax (ak (n:=ei.Race.ar.aj.length) 1 U (g_ C))<|ax (dj 2 U iN)<|ax (ak (n:=ei.Race.ar.aa.length) 3 U sm)<|ax (ak (n:=ei.Race.aY.length) 4 U sm)<|ax (ak (n:=ei.Race.cd.length) 5 U sm)<|ax (ak (n:=ei.Race.aD.length) 6 U (e_ A.1))<|ax (g7 7 U A)<|ax (ak (n:=ei.aA.length) 8 U sm)<|ax (ak (n:=ei.ao.length) 9 U sm)<|aN) U fun K5 Fd=>?_
 obtain ⟨A8,Iw,J7⟩:=K5
 try dsimp only
 have FG:=Fd
 refine z3 [0,1,12,13] U U<|rP 5 [] I ?_
 refine RK Do<|WS fun _ EQ=>cX rY (aN) U fun K8 Fn=>?_
 obtain ⟨F,g,AB,j,d,M,p,R,u,V,y,Z,AO,Go,A2,A6,IP,If⟩:=K8
 try dsimp only
 obtain ⟨B,C,A⟩:=Fn
 refine rS (CL (Mx ei F g d AB j M p R u V y Go Z AO A2 A6 IP If (by exact B)) (gj 13 U U<|ax (ak (n:=ei.Race.ar.aS.length) 0 U sm)<|ax (ak (n:=ei.Race.ar.aj.length) 1 U (g_ C))<|ax (dj 2 U iN)<|ax (ak (n:=ei.Race.ar.aa.length) 3 U sm)<|ax (ak (n:=ei.Race.aY.length) 4 U sm)<|ax (ak (n:=ei.Race.cd.length) 5 U sm)<|ax (ak (n:=ei.Race.aD.length) 6 U (e_ A.1))<|ax (g7 7 U A)<|ax (ak (n:=ei.aA.length) 8 U sm)<|ax (ak (n:=ei.ao.length) 9 U sm)<|aN) U)<|z3 [10,11,12,13] U U<|rP 7 [] I ?_
 refine RK EQ<|WS fun _ Eq=>cX rY (aN) U fun LA GE=>?_
 obtain ⟨G,h,J,k,e,N,q,S,v,W,z,a,Am,Hi,A3,A7,IR,Ig⟩:=LA
 try dsimp only
 obtain ⟨B,C,A⟩:=GE
 refine rS (CL (Lt ei G h e J k N q S v W z Hi a Am A3 A7 IR Ig 0 (by exact B)) (gj 13 U U<|ax (ak (n:=ei.Race.ar.aS.length) 0 U sm)<|ax (ak (n:=ei.Race.ar.aj.length) 1 U (g_ C))<|ax (dj 2 U iN)<|ax (ak (n:=ei.Race.ar.aa.length) 3 U sm)<|ax (ak (n:=ei.Race.aY.length) 4 U sm)<|ax (ak (n:=ei.Race.cd.length) 5 U sm)<|ax (ak (n:=ei.Race.aD.length) 6 U (e_ A.1))<|ax (g7 7 U A)<|ax (ak (n:=ei.aA.length) 8 U sm)<|ax (ak (n:=ei.ao.length) 9 U sm)<|aN) U)<|z3 [10,11,12,13] U U<|bE 5 U<|RK Eq<|WS fun _ Eu=>rS (CL (x9 0 0 1) (bw [3]) U)<|rP 1 [] I ?_
 refine cL (t:=32) U (aU fun A9=>?_) (aV fun A9=>?_)
 ·exact absurd (Pb) A9
 refine rS (CL (x9 1 0 2) (bw [3]) U)<|rP 2 [] I ?_
 refine cL (t:=35) U (aU fun Bx=>?_) (aV fun Bx=>?_)
 ·exact absurd (PI) Bx
 refine rS (CL (x9 3 0 0) (bw [3]) U)<|rP 2 [] I ?_
 refine cL (t:=38) U (aU fun B3=>?_) (aV fun B3=>?_)
 ·exact absurd (OY) B3
 refine rS (CL (Fi 0 0) (bw [3]) U)<|rP 2 [] I ?_
 refine cL (t:=41) U (aU fun B9=>?_) (aV fun B9=>?_)
 ·exact absurd (P7) B9
 refine rS (CL (Fi 1 2) (bw [3]) U)<|rP 2 [] I ?_
 refine cL (t:=44) U (aU fun Ci=>?_) (aV fun Ci=>?_)
 ·exact absurd (ON) Ci
 refine rP 4 [] I ?_
 refine cL (t:=48) U (aU fun Ck=>?_) (aV fun Ck=>?_)
 ·exact absurd (ox) Ck
 refine rP 1 [] I ?_
 refine eB (xs:=[.const (vI 0)]) (cs:=[(vI 0)]) U dp ky U U U U (by simp [Value.cells]) U U fun J2=>?_
 refine rS (CL (xQ (cb ei) Io J5 ([0]) (some ⟨J2,0,none⟩) 1 (by rw [N4]; decide) dc) (ax (ak (n:=(cb ei).length) 3 U sm)<|ax (bu 0 U U (by simp [bR]) U)<|aN) U) ?_
 refine rP 2 [] I ?_
 refine cL (t:=53) U (aU fun Cp=>?_) (aV fun Cp=>?_)
 ·exact absurd (N4) Cp
 refine rP 4 [] I ?_
 refine cL (t:=57) U (aU fun Cx=>?_) (aV fun Cx=>?_)
 ·exact absurd (ox) Cx
 refine rP 1 [] I ?_
 refine eB (xs:=[.const (vI 0)]) (cs:=[(vI 0)]) U dp ky U U U U (by simp [Value.cells]) U U fun D=>eB (xs:=[.tmp 59,.const (vS none 0 0)]) (cs:=[(vS (some ⟨D,0,none⟩) 1 1),(vS none 0 0)]) U yr QZ U U U U (by simp [Value.cells]) U U fun b=>?_
 refine fH (es:=(([0]:List Int).map iC)) (C':=[_,(own (some ⟨D,0,none⟩) 1 3 1 (([0]:List Int).map iC)),_,_,_,_,_]) 1 U (nt bR _) U (by show _≤maxLen; exact Nat.le_trans (m:=10) (show (1:Nat)≤10 by decide) dc) U ?_
 refine lk 3 1 ?_
 refine fH (es:=(List.zipWith ru [([0]:List Int),([]:List Int)] [((some ⟨D,0,none⟩),1),(none,0)])) (C':=[_,(own (some ⟨b,0,none⟩) 2 29 1 (List.zipWith ru [([0]:List Int),([]:List Int)] [((some ⟨D,0,none⟩),1),(none,0)])),_,_,_,_,_,_]) 1 U (qZ Qa) U (by show _≤maxLen; exact Nat.le_trans (m:=10) (show (2:Nat)≤10 by decide) dc) U ?_
 refine Hc (bo GB [([0]:List Int),([]:List Int)] [((some ⟨D,0,none⟩),1),(none,0)]) [2,0] [1,3,4,5,6,7] U U ?_
 refine rS (CL (tY (bT ei) ([([0]:List Int),([]:List Int)]) A8 Iw J7 ([((some ⟨D,0,none⟩),1),(none,0)]) (some ⟨b,0,none⟩) 2 (by rw [I2]; decide) dc (by rw [I2]; decide) dc (by exact FG) (by rfl)) (ax (ak (n:=(bT ei).length) 3 U (jf FG))<|ax (dj 4 U pj)<|ax (ak (n:=([([0]:List Int),([]:List Int)]).length) 1 U sm)<|ax (dj 0 U pj)<|aN) U) ?_
 refine rP 2 [] I ?_
 refine cL (t:=63) U (aU fun C0=>?_) (aV fun C0=>?_)
 ·exact absurd (I2) C0
 refine rP 4 [] I ?_
 refine cL (t:=67) U (aU fun C1=>?_) (aV fun C1=>?_)
 ·exact absurd (ox) C1
 refine rP 4 [] I ?_
 refine cL (t:=71) U (aU fun C2=>?_) (aV fun C2=>?_)
 ·exact absurd (Oe.1) C2
 refine rP 4 [] I ?_
 refine cL (t:=75) U (aU fun C3=>?_) (aV fun C3=>?_)
 ·exact absurd (Oe.2) C3
 refine rP 4 [] I ?_
 refine cL (t:=79) U (aU fun Di=>?_) (aV fun Di=>?_)
 ·exact absurd (NV.1) Di
 refine rP 4 [] I ?_
 refine RK Eu<|av<|Q1 hQ U U U ?_
 exact cB (dI NV.2)
end
section
open Go.RowKit
theorem Da (j:bS) (kA:OA) (kC:Nat) (az:List RA) (cA:OA) (cC:Nat) (bA:OA) (bC:Nat) (slA:OA) (slC:Nat) (drA:OA) (drC:Nat) (ha:List cZ) (heA:OA) (heC:Nat) (faA:OA) (faC:Nat) (prA:OA) (prC:Nat) (minutes:Int) (more:aJ) (kY:Int) (hraw:mA j az ha) (hm1:0≤minutes∧minutes≤255) (hm2:0≤kY∧kY≤4294967295):
 dK Tryz.prog 5 [(vA (du.cells (mZ j kA kC cA cC bA bC slA slC drA drC heA heC faA faC prA prC))),(Value.int .u8 minutes),(vA (aJ.cells more)),(Value.int .u32 kY)] [(rd gV 3 2 fW),(rd kA j.Race.ar.aS.length 9 (j.Race.ar.aS.map au.cells)),(rd cA j.Race.ar.aj.length 2 (List.zipWith ay.cells j.Race.ar.aj az)),(dU (bo ay.gn j.Race.ar.aj az)),(rd bA j.Race.ar.aa.length 4 (j.Race.ar.aa.map bK.cells)),(rd slA j.Race.aY.length 1 (j.Race.aY.map iC)),(rd drA j.Race.cd.length 1 (j.Race.cd.map iC)),(rd heA j.Race.aD.length 1 (List.zipWith cP j.Race.aD ha)),(dU (bo fg j.Race.aD ha)),(rd faA j.aA.length 4 (j.aA.map aW.cells)),(rd prA j.ao.length 5 (j.ao.map aJ.cells))] (vB true):=by
 refine bG kr Tryz.func5 U U fun w0 Q hQ hN=>?_
 try dsimp only
 refine WS fun _ Xo=>eL U fun b2=>eL U fun b3=>bE 1 U<|RK Xo<|WS fun _ Xp=>rS (CL Iy (bw [2]) U)<|bE 1 U<|RK Xp<|aq fun _ Xq=>WS fun _ XH=>e9 1 [] (mc 1 U I) U<|rS (CL (uq j kA kC az cA cC bA bC slA slC drA drC ha heA heC faA faC prA prC hraw) (bw [3,4,5,6,7,8,9,10,11,12]) U)<|rP 2 [] I ?_
 refine bZ (t:=35) U (bg fun B=>?_) (bf fun B=>?_)
 ·refine bE 1 U<|bE 2 U<|RK XH<|aT U<|WS fun _ Xr=>rP 2 [] I ?_
  refine RK Xr<|av ?_
  exact Q1 hQ U U U U
 refine rP 1 [] I ?_
 have F:=hraw.small B.1
 have S2:=F.race
 have Xw:=F.race.line
 have YP:=F.race.iE
 have YQ:=F.race.has
 have YE:=F.race.iB
 have YB:=F.nf
 have YD:=F.np
 have XU:=(eE B.2).1
 have S1:=(eE B.2).2
 have Xv:=(eX XU).1
 have AB:=(eX XU).2
 have Xu:=(dZ Xv).2.head
 unfold fp at Xu
 have RS:=AB.num
 have YS:=AB.nh
 have YR:=S1.nf
 have YT:=S1.np
 have YN:=S1.kY
 have YO:=zA B.2
 have Xx:=Ac B.2
 have YC:=S1.min_
 refine bE 2 U<|RK XH<|cj U<|WK Xq<|WS fun _ Xs=>rP 1 [] (mc 1 U I) ?_
 refine cX (o9 j kA kC az cA cC bA bC slA slC drA drC ha heA heC faA faC prA prC asm) (bw [2,3,4,5,6,7,8,9,10,11,12]) U fun y9 YF=>?_
 obtain ⟨J3,J4⟩:=y9
 try dsimp only
 refine bE 5 U<|RK Xs<|WS fun _ XC=>rP 1 [] (mc 2 U I) ?_
 refine cX (pd j kA kC az cA cC bA bC slA slC drA drC ha heA heC faA faC prA prC asm) (bw [3,4,5,6,7,8,9,10,11,12,13]) U fun X1 Xb=>?_
 obtain ⟨N,K4,K5⟩:=X1
 try dsimp only
 have W:=Xb
 refine rP 5 [] I ?_
 refine RK XC<|aq fun _ XD=>aq fun _ XE=>?_
 try dsimp only at W
 have T:=W
 refine aw ?_
 try dsimp only at W
 refine rP 3 [] I ?_
 refine bZ (t:=52) U (bg fun XA=>?_) (bf fun XA=>?_)
 ·exact absurd (B.2) XA
 refine rP 4 [] I ?_
 refine bZ (t:=56) U (bg fun XB=>?_) (bf fun XB=>?_)
 ·exact absurd (B.2) XB
 refine rP 8 [] (mc 4 U I) ?_
 refine RK XE<|cw U (bg fun Xm=>?_) (bf fun Xm=>?_)
 ·exact absurd Xx om
 refine WK XD<|aq fun _ XG=>Ju (L':=[(0,(vA (du.cells (mZ j kA kC cA cC bA bC slA slC drA drC heA heC faA faC prA prC)))),(1,(Value.int .u8 minutes)),(2,(vA (aJ.cells more))),(3,(Value.int .u32 kY)),(4,(vP b2)),(6,(vP b3)),(8,(vB false)),(9,(vB true)),(10,(vS J3 ((cb j).length) J4)),(11,(vI (db j))),(12,(vS K4 ((bT j).length) K5)),(13,(vI (db j))),(31,(vB true)),(32,(vA (du.cells (mZ j kA kC cA cC bA bC slA slC drA drC heA heC faA faC prA prC)))),(33,(vB (decide (¬ mX j∧db j=0)))),(34,(vB (!(decide (¬ mX j∧db j=0))))),(35,(vB false)),(36,(vB true)),(37,(vB false)),(38,(vB false)),(40,(vT [(vS J3 ((cb j).length) J4),(vI (db j))])),(41,(vA (du.cells (mZ j kA kC cA cC bA bC slA slC drA drC heA heC faA faC prA prC)))),(42,(vT [(vS J3 ((cb j).length) J4),(vI (db j))])),(43,(vS J3 ((cb j).length) J4)),(44,(vI (db j))),(45,(vT [(vS K4 ((bT j).length) K5),(vI (db j))])),(46,(vA (du.cells (mZ j kA kC cA cC bA bC slA slC drA drC heA heC faA faC prA prC)))),(47,(vT [(vS K4 ((bT j).length) K5),(vI (db j))])),(48,(vS K4 ((bT j).length) K5)),(49,(vI (db j))),(50,(vI (db j))),(51,(vB (!(decide ((db j)=0))))),(52,(vB false)),(53,(vI (db j))),(54,(vB (!(decide ((db j)=0))))),(55,(vB (!(decide ((db j)=0))))),(56,(vB false)),(57,(vS K4 ((bT j).length) K5)),(58,(vI ((bT j).length:Int))),(59,(vP b2)),(60,(Value.pointer (some ⟨b2,10,none⟩))),(61,(vS heA j.Race.aD.length heC)),(62,(vI (j.Race.aD.length:Int))),(63,(vB (!(decide (((bT j).length:Int)=(j.Race.aD.length:Int)))))),(64,(vB (!(decide (((bT j).length:Int)=(j.Race.aD.length:Int))))))]) rfl<|lI cy [0,2,4] [1,3,5,6,7,8,9,10,11] [false,false,false] [] [(own K4 K5 29 1 (List.zipWith ru (bT j) N)),(bU (bo GB (bT j) N)),(own J3 J4 3 1 ((cb j).map iC)),(cx b3 47 (aJ.cells more)),(cx b2 36 (du.cells (mZ j kA kC cA cC bA bC slA slC drA drC heA heC faA faC prA prC))),(rd gV 3 2 fW).ro,(rd kA j.Race.ar.aS.length 9 (j.Race.ar.aS.map au.cells)).ro,(rd cA j.Race.ar.aj.length 2 (List.zipWith ay.cells j.Race.ar.aj az)).ro,(dU (bo ay.gn j.Race.ar.aj az)).ro,(rd bA j.Race.ar.aa.length 4 (j.Race.ar.aa.map bK.cells)).ro,(rd slA j.Race.aY.length 1 (j.Race.aY.map iC)).ro,(rd drA j.Race.cd.length 1 (j.Race.cd.map iC)).ro,(rd heA j.Race.aD.length 1 (List.zipWith cP j.Race.aD ha)).ro,(dU (bo fg j.Race.aD ha)).ro,(rd faA j.aA.length 4 (j.aA.map aW.cells)).ro,(rd prA j.ao.length 5 (j.ao.map aJ.cells)).ro] [] kr (aP [0,1,2,3,4,5,6,7,8,9,10,11,12,13,14,15]) (aP [])<|eS rfl (LW 4 rfl cq rfl rfl)<|eS rfl (LW 4 rfl cq rfl rfl)<|eS rfl (LW 4 rfl cq rfl rfl)<|eC rfl<|Aj [.op 1,.op 3,.op 5,.take 6,.take 7,.take 8,.op 9,.op 10,.op 11] [] (fun i=>match i with |6=>14|7=>15|8=>16|_=>0) (fun i b=>match i with |6=> .pointer (some ⟨b,0,none⟩)|7=> .pointer (some ⟨b,0,none⟩)|8=> .pointer (some ⟨b,0,none⟩)|_=>undef) (fun i b=>match i with |6=>cx b 36 (du.cells (du.mk (er.mk (ct.mk (bM.mk (bx.mk none 0 0)) 0 (bx.mk none 0 0) (bx.mk none 0 0) 0 0 0) (bx.mk none 0 0) (bx.mk none 0 0) 0 (bx.mk none 0 0)) (bx.mk none 0 0) (bx.mk none 0 0) 0 0))|7=>cx b 36 (du.cells (du.mk (er.mk (ct.mk (bM.mk (bx.mk none 0 0)) 0 (bx.mk none 0 0) (bx.mk none 0 0) 0 0 0) (bx.mk none 0 0) (bx.mk none 0 0) 0 (bx.mk none 0 0)) (bx.mk none 0 0) (bx.mk none 0 0) 0 0))|8=>cx b 36 (du.cells (du.mk (er.mk (ct.mk (bM.mk (bx.mk none 0 0)) 0 (bx.mk none 0 0) (bx.mk none 0 0) 0 0 0) (bx.mk none 0 0) (bx.mk none 0 0) 0 (bx.mk none 0 0)) (bx.mk none 0 0) (bx.mk none 0 0) 0 0))|_=>cx b 0 []) rfl rfl rfl kr rfl rfl (aP [0,1,2,3,4,5,6,7,8,9,10,11,12,13,14,15]) (mK<|mK<|mK<|ku (wF rfl zM rfl rfl (fun _=>rfl) fun _=>rfl)<|ku (wF rfl zM rfl rfl (fun _=>rfl) fun _=>rfl)<|ku (wF rfl zM rfl rfl (fun _=>rfl) fun _=>rfl)<|mK<|mK<|mK<|D1)<|mP rfl fun Y X K hT=>cX (As j kA kC az cA cC bA bC slA slC drA drC ha heA heC faA faC prA prC (by exact F) (by exact B.1)) (bw [6,7,8,9,10,11,12,13,14,15]) rfl fun X2 Xc=>?_
 obtain ⟨s,Bx,y,Ci,R0,AO,Cx,A1,C2,A4,Do,A7,Eu,To,Fd,GT,IP,If⟩:=X2
 try dsimp only
 obtain ⟨⟨l,J7⟩,o⟩:=Xc
 try dsimp only at l J7 o
 have ST:=l
 have Hi:=o
 have Wn:gp j _ _:=⟨S2.Ic l J7 o,F.nf,F.np,F.kind⟩
 refine kf hT 49 26 U U (fun w hs=>St.jR [10,11,12,13,14,15,16,17,18,19,20,21,22,23,24,25] U U hs) U U ?_
 try dsimp only [List.take]
 refine mP U fun Y X K hT=>cX (As j kA kC az cA cC bA bC slA slC drA drC ha heA heC faA faC prA prC (by exact F) (by exact B.1)) (bw [16,17,18,19,20,21,22,23,24,25]) U fun X3 Xd=>?_
 obtain ⟨v,B3,AC,Ck,R1,Am,C0,A2,C3,A5,EQ,A8,FG,T0,Fn,Gi,YG,YH⟩:=X3
 try dsimp only
 obtain ⟨⟨l,J7⟩,o⟩:=Xd
 try dsimp only at l J7 o
 have SW:=l
 have H1:=o
 have Wo:gp j _ _:=⟨S2.Ic l J7 o,F.nf,F.np,F.kind⟩
 refine kf hT 50 36 U U (fun w hs=>St.jR [20,21,22,23,24,25,26,27,28,29,30,31,32,33,34,35] U U hs) U U ?_
 try dsimp only [List.take]
 refine mP U fun Y X K hT=>cX (As j kA kC az cA cC bA bC slA slC drA drC ha heA heC faA faC prA prC (by exact F) (by exact B.1)) (bw [26,27,28,29,30,31,32,33,34,35]) U fun X4 Xe=>?_
 obtain ⟨x,B9,AN,Cp,R2,A0,C1,A3,Di,A6,Eq,A9,FS,T4,GE,Go,IR,Ig⟩:=X4
 try dsimp only
 obtain ⟨⟨l,J7⟩,o⟩:=Xe
 try dsimp only at l J7 o
 have Sz:=l
 have IO:=o
 have Wp:gp j _ _:=⟨S2.Ic l J7 o,F.nf,F.np,F.kind⟩
 refine kf hT 51 46 U U (fun w hs=>St.jR [30,31,32,33,34,35,36,37,38,39,40,41,42,43,44,45] U U hs) U U ?_
 try dsimp only [List.take]
 intro YI
 try dsimp only
 intro YJ
 try dsimp only
 intro YK
 try dsimp only
 refine mP U fun Y X K hT=>FH U Bz U<|kf hT 54 49 U U (fun w hs=>St.jR [33,34,35,36,37,38,39,40,41,42,43,44,45,46,47,48] U U hs) U U ?_
 try dsimp only [List.take]
 refine mP U fun Y X K hT=>qy U Bz U<|kf hT 54 49 U U (fun w hs=>St.jR [33,34,35,36,37,38,39,40,41,42,43,44,45,46,47,48] U U hs) U U ?_
 try dsimp only [List.take]
 refine mP U fun Y X K hT=>fR U Bz U<|kf hT 54 49 U U (fun w hs=>St.jR [33,34,35,36,37,38,39,40,41,42,43,44,45,46,47,48] U U hs) U U ?_
 try dsimp only [List.take]
 refine KK XG<|WS fun _ XI=>e9 3 [] (mc 2 U I) U<|rS (SX (ow (m:=minutes) U U Mm sr (mC (by first|assumption|omega))) U U)<|rS (BI U (HD om om))<|bE 2 U<|RT (du.cells (du.mk (er.mk (ct.mk (bM.mk (bx.mk s j.Race.ar.aS.length Bx)) j.Race.ar.hG (bx.mk y j.Race.ar.aj.length Ci) (bx.mk AO j.Race.ar.aa.length Cx) j.Race.ar.cf j.Race.ar.e8 j.Race.ar.di) (bx.mk A1 j.Race.aY.length C2) (bx.mk A4 j.Race.cd.length Do) j.Race.j2 (bx.mk A7 j.Race.aD.length Eu)) (bx.mk Fd j.aA.length GT) (bx.mk IP j.ao.length If) (j.bJ+(minutes % 20)) j.kU)) U AR U U<|RK XI<|WS fun _ XJ=>rP 1 [] I ?_
 refine hE (vs:=[(vI 0)]) (cs':=(aJ.cells (aJ.mk 0 more.eO more.fj more.ew more.At))) (C':=[_,_,_,_,_,_,_,_,_,_,_,_,_,_,_,_,_,_,_,_,_,_,_,_,_,_,_,_,_,_,_,_,_,_,_,_,(cx b3 47 (aJ.cells (aJ.mk 0 more.eO more.fj more.ew more.At))),_,_,_,_,_,_,_,_,_,_,_,_]) 36 U U U AR U U U U U U U<|RK XJ ?_
 refine kS (ι:={z:Int // (0≤z∧z≤100000)}) [3,4,6,9,10,12,14,15,16] [0,1,2,3,4,5,6,7,8,9,10,11,12,13,14,15,16,17,18,19,20,21,22,23,24,25,26,27,28,29,30,31,32,33,34,35,37,38,39,40,41,42,43,44,45,46,47,48] U U (fun z=>[]) (fun z=>[(cx b3 47 (aJ.cells (aJ.mk z.1 more.eO more.fj more.ew more.At)))]) (fun _=>rfl) (fun _=>rfl) ?_ fun K87 T9=>?_
 ·rintro ⟨mi,XS⟩
  try dsimp only
  refine WS fun _ R9=>rP 3 [0,1] (mc 1 U (mc 48 U I)) ?_
  refine eB (xs:=[.tmp 95]) (cs:=(aJ.cells (aJ.mk mi more.eO more.fj more.ew more.At))) U yq I9 U U U U (by simp [Value.cells,aJ.aZ]) U U fun YL=>?_
  refine dH (es2:=(List.map aJ.cells (j.ao++[(aJ.mk mi more.eO more.fj more.ew more.At)]))) (m':=(j.ao++[(aJ.mk mi more.eO more.fj more.ew more.At)]).length) 23 U U U RI U U sm (bu (es:=List.map aJ.cells [(aJ.mk mi more.eO more.fj more.ew more.At)]) 0 U U (by simp [aJ.aZ]) U) (nZ _) os (by simp only [maxLen]; first|omega|(simp; omega)) (by rw [List.map_append]<;>rfl) sm U fun Qr Qv=>?_
  try dsimp only
  refine bE 1 U<|RT (du.cells (du.mk (er.mk (ct.mk (bM.mk (bx.mk v j.Race.ar.aS.length B3)) j.Race.ar.hG (bx.mk AC j.Race.ar.aj.length Ck) (bx.mk Am j.Race.ar.aa.length C0) j.Race.ar.cf j.Race.ar.e8 j.Race.ar.di) (bx.mk A2 j.Race.aY.length C3) (bx.mk A5 j.Race.cd.length EQ) j.Race.j2 (bx.mk A8 j.Race.aD.length FG)) (bx.mk Fn j.aA.length Gi) (bx.mk Qr ((j.ao++[(aJ.mk mi more.eO more.fj more.ew more.At)]).length) Qv) j.bJ j.kU)) U Tk U U<|RK R9<|WS fun _ XL=>bE 1 U<|rS (SX (ow (m:=kY) U U Sw sr (z7 (by first|assumption|omega))) U U)<|rS (BI U (HD om om))<|bE 1 U<|VQ (du.cells (du.mk (er.mk (ct.mk (bM.mk (bx.mk x j.Race.ar.aS.length B9)) j.Race.ar.hG (bx.mk AN j.Race.ar.aj.length Cp) (bx.mk A0 j.Race.ar.aa.length C1) j.Race.ar.cf j.Race.ar.e8 j.Race.ar.di) (bx.mk A3 j.Race.aY.length Di) (bx.mk A6 j.Race.cd.length Eq) j.Race.j2 (bx.mk A9 j.Race.aD.length FS)) (bx.mk GE j.aA.length Go) (bx.mk IR j.ao.length Ig) j.bJ (kY % 100001))) U AR U U<|RK XL<|aq fun _ XM=>WS fun _ XN=>e9 3 [0,1,2] (mc 3 U (mc 2 U (mc 1 U I))) U<|eB (xs:=[.tmp 103,.tmp 104,.tmp 105]) (cs:=((du.cells (du.mk (er.mk (ct.mk (bM.mk (bx.mk s j.Race.ar.aS.length Bx)) j.Race.ar.hG (bx.mk y j.Race.ar.aj.length Ci) (bx.mk AO j.Race.ar.aa.length Cx) j.Race.ar.cf j.Race.ar.e8 j.Race.ar.di) (bx.mk A1 j.Race.aY.length C2) (bx.mk A4 j.Race.cd.length Do) j.Race.j2 (bx.mk A7 j.Race.aD.length Eu)) (bx.mk Fd j.aA.length GT) (bx.mk IP j.ao.length If) (j.bJ+(minutes % 20)) j.kU))++(du.cells (du.mk (er.mk (ct.mk (bM.mk (bx.mk v j.Race.ar.aS.length B3)) j.Race.ar.hG (bx.mk AC j.Race.ar.aj.length Ck) (bx.mk Am j.Race.ar.aa.length C0) j.Race.ar.cf j.Race.ar.e8 j.Race.ar.di) (bx.mk A2 j.Race.aY.length C3) (bx.mk A5 j.Race.cd.length EQ) j.Race.j2 (bx.mk A8 j.Race.aD.length FG)) (bx.mk Fn j.aA.length Gi) (bx.mk Qr ((j.ao++[(aJ.mk mi more.eO more.fj more.ew more.At)]).length) Qv) j.bJ j.kU))++(du.cells (du.mk (er.mk (ct.mk (bM.mk (bx.mk x j.Race.ar.aS.length B9)) j.Race.ar.hG (bx.mk AN j.Race.ar.aj.length Cp) (bx.mk A0 j.Race.ar.aa.length C1) j.Race.ar.cf j.Race.ar.e8 j.Race.ar.di) (bx.mk A3 j.Race.aY.length Di) (bx.mk A6 j.Race.cd.length Eq) j.Race.j2 (bx.mk A9 j.Race.aD.length FS)) (bx.mk GE j.aA.length Go) (bx.mk IR j.ao.length Ig) j.bJ (kY % 100001))))) U MA zM U U U U (by simp [Value.cells,du.aZ]) U U fun YM=>rP 2 [] I ?_
  refine RK XN<|aF<|pt 4<|js fun R96 XQ=>WS fun _ XO=>rS (SX (eu (r:= .bool true) U U U m0) U U)<|RK XO<|aq fun _ XP=>aT U<|WK XP ?_
  refine kS (ι:=Unit) [4,9,10,12,106,107,108] [0,5,6,7,8,9,10,11,12,13,14,15,16,17,18,19,20,21,22,23,24,25,26,27,28,29,30,31,32,33,34,35,36,37,38,39,40,41,42,43,44,45,46,47,48,49] U U (fun z=>[]) (fun z=>[]) (fun _=>rfl) (fun _=>rfl) ?_ fun K99 UP=>?_
  ·intro _
   try dsimp only
   refine aw<|rS (SX (eu (r:= .int .i64 1) U U U (mL ⟨dc,dc⟩)) U U)<|rP 1 [] I ?_
   refine RK XQ<|js fun R100 WV=>WS fun _ V_=>rS (SX (eu (r:= .bool true) U U U m0) U U)<|RK V_<|aq fun _ LA=>aT U<|WK LA ?_
   refine kS (ι:=Unit) [4,9,10,12,106,107,108] [0,1,2,3,4,5,6,7,8,9,10,11,12,13,14,15,16,17,18,19,20,21,22,23,24,25,26,27,28,29,30,31,32,33,34,35,36,37,38,39,40,41,42,43,44,45] U U (fun z=>[]) (fun z=>[]) (fun _=>rfl) (fun _=>rfl) ?_ fun K103 In=>?_
   ·intro _
    try dsimp only
    refine aw<|rS (SX (eu (r:= .int .i64 2) U U U (mL ⟨dc,dc⟩)) U U)<|rP 1 [] I ?_
    refine RK WV<|js fun R104 WW=>WS fun _ WA=>rS (SX (eu (r:= .bool true) U U U m0) U U)<|RK WA<|aq fun _ LT=>aT U<|WK LT ?_
    refine kS (ι:=Unit) [4,9,10,12,106,107,108] [0,1,2,3,4,5,6,7,8,9,10,11,12,13,14,15,16,17,18,19,20,21,22,23,24,25,26,27,28,29,30,31,32,33,34,35,36,37,38,39,40,41,42,43,44,45] U U (fun z=>[]) (fun z=>[]) (fun _=>rfl) (fun _=>rfl) ?_ fun K107 Io=>?_
    ·intro _
     try dsimp only
     refine aw<|rS (SX (eu (r:= .int .i64 3) U U U (mL ⟨dc,dc⟩)) U U)<|bE 1 U<|RK WW<|js fun R108 Xt=>WS fun _ Li=>rS (SX (eu (r:= .bool false) U U U m0) U U)<|RK Li<|aq fun _ R8=>cj U<|bL<|ab<|ab<|aH<|KK XM<|WS fun _ Lk=>rP 2 [] I ?_
     refine RK Lk<|av ?_
     exact Q1 hQ U U U U
    refine aF<|aq fun _ La=>?_
    have J:mA (bS.mk j.Race j.aA j.ao j.bJ (kY % 100001)) _ _:=Ai Wp (by (have:=F.np; omega))
    have G:HC j (bS.mk j.Race j.aA j.ao j.bJ (kY % 100001)):=(Lx (j:=j) _)
    refine aw<|bE 1 U<|rS (TB 2 30 U MA U dc U)<|rS (LP (du.cells (du.mk (er.mk (ct.mk (bM.mk (bx.mk x j.Race.ar.aS.length B9)) j.Race.ar.hG (bx.mk AN j.Race.ar.aj.length Cp) (bx.mk A0 j.Race.ar.aa.length C1) j.Race.ar.cf j.Race.ar.e8 j.Race.ar.di) (bx.mk A3 j.Race.aY.length Di) (bx.mk A6 j.Race.cd.length Eq) j.Race.j2 (bx.mk A9 j.Race.aD.length FS)) (bx.mk GE j.aA.length Go) (bx.mk IR j.ao.length Ig) j.bJ (kY % 100001))) 0 U cq U U U)<|AL U zM fun X9=>bE 1 U<|fR U Bz U<|RK La<|aq fun _ R8=>WS fun _ Lk=>e9 1 [] (mc 0 U I) U<|rS (CL (uq (bS.mk j.Race j.aA j.ao j.bJ (kY % 100001)) x B9 R2 AN Cp A0 C1 A3 Di A6 Eq T4 A9 FS GE Go IR Ig (by exact J)) (ax (ak (n:=j.Race.ar.aS.length) 2 U sm)<|ax (ak (n:=j.Race.ar.aj.length) 3 U (g_ Sz))<|ax (dj 4 U iN)<|ax (ak (n:=j.Race.ar.aa.length) 5 U sm)<|ax (ak (n:=j.Race.aY.length) 6 U sm)<|ax (ak (n:=j.Race.cd.length) 7 U sm)<|ax (ak (n:=j.Race.aD.length) 8 U (e_ IO.1))<|ax (g7 9 U IO)<|ax (ak (n:=j.aA.length) 10 U sm)<|ax (ak (n:=j.ao.length) 11 U sm)<|aN) U)<|rP 1 [] I ?_
    refine RK Lk<|cw U (bg fun H=>?_) (bf fun H=>?_)
    ·refine bL<|ab<|aH ?_
     refine a_ (iF (bk U) (aP [1,2,3,4,5,6,7,8,9,10,11,12,13,14,15,16,17,18,19,20,21,22,23,24,25,26,27,28,29,30,31,32,33,34,35,36,37,38,39,40,41,42,43,44,45,46]) (Io ()))
    refine WK R8<|aq fun _ WB=>?_
    have V:=J.small H.1
    have C:=H.2
    have XY:=zA C
    have XZ:=(eE C).2.np
    have Xa:=zT G B.2 C
    have J8:=fun n=>zL (n:=n) G B.2 C
    have Wl:=fun n=>B2 (n:=n) G B.2 C rfl
    have XR:=B1 (kY % 100001) B.2 C
    have Wm:=IG (kY % 100001) B.2 C
    refine aw<|rP 1 [] (mc 0 U I) ?_
    refine cX (o9 (bS.mk j.Race j.aA j.ao j.bJ (kY % 100001)) x B9 R2 AN Cp A0 C1 A3 Di A6 Eq T4 A9 FS GE Go IR Ig (by exact V)) (gj 36 U U<|ax (ak (n:=j.Race.ar.aS.length) 2 U sm)<|ax (ak (n:=j.Race.ar.aj.length) 3 U (g_ Sz))<|ax (dj 4 U iN)<|ax (ak (n:=j.Race.ar.aa.length) 5 U sm)<|ax (ak (n:=j.Race.aY.length) 6 U sm)<|ax (ak (n:=j.Race.cd.length) 7 U sm)<|ax (ak (n:=j.Race.aD.length) 8 U (e_ IO.1))<|ax (g7 9 U IO)<|ax (ak (n:=j.aA.length) 10 U sm)<|ax (ak (n:=j.ao.length) 11 U sm)<|aN) U fun Xi X0=>?_
    obtain ⟨T5,T6⟩:=Xi
    try dsimp only
    refine bE 5 U<|RK WB<|WS fun _ Lo=>rP 1 [] (mc 1 U I) ?_
    refine cX (pd (bS.mk j.Race j.aA j.ao j.bJ (kY % 100001)) x B9 R2 AN Cp A0 C1 A3 Di A6 Eq T4 A9 FS GE Go IR Ig (by exact V)) (gj 37 U U<|ax (ak (n:=j.Race.ar.aS.length) 3 U sm)<|ax (ak (n:=j.Race.ar.aj.length) 4 U (g_ Sz))<|ax (dj 5 U iN)<|ax (ak (n:=j.Race.ar.aa.length) 6 U sm)<|ax (ak (n:=j.Race.aY.length) 7 U sm)<|ax (ak (n:=j.Race.cd.length) 8 U sm)<|ax (ak (n:=j.Race.aD.length) 9 U (e_ IO.1))<|ax (g7 10 U IO)<|ax (ak (n:=j.aA.length) 11 U sm)<|ax (ak (n:=j.ao.length) 12 U sm)<|aN) U fun Xk Ws=>?_
    obtain ⟨K8,Wv,Wz⟩:=Xk
    try dsimp only
    have W:=Ws
    try dsimp only at W
    have M:=W
    refine bE 5 U<|RK Lo<|aq fun _ L2=>WS fun _ Z=>rP 3 [] I ?_
    refine bZ (t:=128) U (bg fun P=>?_) (bf fun P=>?_)
    ·exact absurd (C) P
    refine rP 4 [] I ?_
    refine bZ (t:=132) U (bg fun L=>?_) (bf fun L=>?_)
    ·exact absurd (C) L
    refine rP 6 [] I ?_
    refine RK Z<|cw U (bg fun J5=>?_) (bf fun J5=>?_)
    ·exfalso; omega
    refine WK L2<|aq fun _ a=>WS fun _ WI=>rP 3 [] I ?_
    refine RK WI<|aF ?_
    have A:(0≤(cb j).length):=by exact Nat.zero_le _
    refine bQ (ι:={z:Nat // (z≤(cb j).length)}) [4,9,10,12,18,19,20,22,106,107,108,139,140] [0,1,2,3,4,5,6,7,8,9,10,11,12,13,14,15,16,17,18,19,20,21,22,23,24,25,26,27,28,29,30,31,32,33,34,35,36,37,38,39,40,41,42,43,44,45,46,47,48,49] U U (fun z=>[(141,(vI (z.1:Int)))]) (fun z=>[]) (fun _=>rfl) (fun _=>rfl) (fun z=>(cb j).length-z.1) ⟨0,A⟩ (bk U) (aP [0,1,2,3,4,5,6,7,8,9,10,11,12,13,14,15,16,17,18,19,20,21,22,23,24,25,26,27,28,29,30,31,32,33,34,35,36,37,38,39,40,41,42,43,44,45,46,47,48,49]) ?_
    clear A
    rintro ⟨q,Pl⟩ J127 VD
    try dsimp only
    refine WS fun _ c=>rP 1 [] I ?_
    refine RK c<|aq fun _ L5=>cw U (aV fun W2=>?_) (aU fun W2=>?_)
    ·refine WK L5<|aq fun _ d=>aF<|WS fun _ M2=>?_
     obtain ⟨n,hn⟩:=aM (cb j) q om
     have RS:=bO iC hn
     refine rS (IA q U (ak (n:=(cb j).length) 37 U sm) dp dc om om)<|rS (gQ q 0 (vI n) U cq (ak (n:=(cb j).length) 37 U sm) RS U dc U)<|bE 1 U<|RK M2<|WS fun _ NE=>bE 2 U<|rS (CL (q7 (cb (bS.mk j.Race j.aA j.ao j.bJ (kY % 100001))) T5 T6 n om) (ax (ak (n:=(cb (bS.mk j.Race j.aA j.ao j.bJ (kY % 100001))).length) 2 U sm)<|aN) U)<|rP 1 [] I ?_
     refine RK NE<|cw U (bg fun R=>?_) (bf fun R=>?_)
     ·exact absurd (J8 _ (aQ hn)) R
     refine cg<|aO<|KK d<|aw<|rP 2 [] I ?_
     refine aK ?_
     have WZ:(vI (((q+1):Nat):Int))=(vI ((q:Int)+1)):=by exact cI om
     refine a_ (VD ⟨(q+1),(by first|omega|(simp only []; omega))⟩ _ _ _ U os (cK 13<|bj U WZ<|dv.nil _) (aP [0,1,2,3,4,5,6,7,8,9,10,11,12,13,14,15,16,17,18,19,20,21,22,23,24,25,26,27,28,29,30,31,32,33,34,35,36,37,38,39,40,41,42,43,44,45,46,47,48,49]))
    refine bL<|ab<|ab<|aH<|KK a<|aq fun _ e=>WS fun _ WM=>rP 3 [] I ?_
    refine RK WM<|aF ?_
    have A:(0≤(cb (bS.mk j.Race j.aA j.ao j.bJ (kY % 100001))).length):=by exact Nat.zero_le _
    refine bQ (ι:={z:Nat // (z≤(cb (bS.mk j.Race j.aA j.ao j.bJ (kY % 100001))).length)}) [4,9,10,12,18,20,22,106,107,108,150,151] [0,1,2,4,5,6,7,8,9,10,11,12,13,14,15,16,17,18,19,20,21,22,23,24,25,26,27,28,29,30,31,32,33,34,35,36,37,38,39,40,41,42,43,44,45,46,47,48,49] U U (fun z=>[(152,(vI (z.1:Int)))]) (fun z=>[]) (fun _=>rfl) (fun _=>rfl) (fun z=>(cb (bS.mk j.Race j.aA j.ao j.bJ (kY % 100001))).length-z.1) ⟨0,A⟩ (bk U) (aP [0,1,2,4,5,6,7,8,9,10,11,12,13,14,15,16,17,18,19,20,21,22,23,24,25,26,27,28,29,30,31,32,33,34,35,36,37,38,39,40,41,42,43,44,45,46,47,48,49]) ?_
    clear A
    rintro ⟨m,Pq⟩ J137 R7
    try dsimp only
    refine WS fun _ f=>rP 1 [] I ?_
    refine RK f<|aq fun _ Iw=>cw U (aV fun W4=>?_) (aU fun W4=>?_)
    ·refine WK Iw<|aq fun _ J2=>aF<|WS fun _ OK=>?_
     obtain ⟨u,hu⟩:=aM (cb (bS.mk j.Race j.aA j.ao j.bJ (kY % 100001))) m om
     have TQ:=bO iC hu
     refine rS (IA m U (ak (n:=(cb (bS.mk j.Race j.aA j.ao j.bJ (kY % 100001))).length) 2 U sm) dp dc om om)<|rS (gQ m 0 (vI u) U cq (ak (n:=(cb (bS.mk j.Race j.aA j.ao j.bJ (kY % 100001))).length) 2 U sm) TQ U dc U)<|bE 1 U<|RK OK<|WS fun _ O=>bE 1 U<|rS (SX (eu (r:= .bool true) U U U EB) U U)<|rP 8 [] (mc 37 U I) ?_
     refine cL (t:=165) U (aU fun R5=>?_) (aV fun R5=>?_)
     ·refine bE 5 U<|RK O<|cj U<|cg<|aO<|KK J2<|aw<|rP 2 [] I ?_
      refine aK ?_
      have We:(vI (((m+1):Nat):Int))=(vI ((m:Int)+1)):=by exact cI om
      refine a_ (R7 ⟨(m+1),(by first|omega|(simp only []; omega))⟩ _ _ _ U os (cK 12<|bj U We<|dv.nil _) (aP [0,1,2,3,4,5,6,7,8,9,10,11,12,13,14,15,16,17,18,19,20,21,22,23,24,25,26,27,28,29,30,31,32,33,34,35,36,37,38,39,40,41,42,43,44,45,46,47,48]))
     refine bE 2 U<|rS (CL (q7 (cb j) J3 J4 u om) (ax (ak (n:=(cb j).length) 36 U sm)<|aN) U)<|rP 2 [] I ?_
     refine RK O<|cw U (bg fun J6=>?_) (bf fun J6=>?_)
     ·exact absurd (Wl _ (aQ hu) om) J6
     refine cg<|aO<|KK J2<|aw<|rP 2 [] I ?_
     refine aK ?_
     have Wd:(vI (((m+1):Nat):Int))=(vI ((m:Int)+1)):=by exact cI om
     refine a_ (R7 ⟨(m+1),(by first|omega|(simp only []; omega))⟩ _ _ _ U os (cK 12<|bj U Wd<|dv.nil _) (aP [0,1,2,3,4,5,6,7,8,9,10,11,12,13,14,15,16,17,18,19,20,21,22,23,24,25,26,27,28,29,30,31,32,33,34,35,36,37,38,39,40,41,42,43,44,45,46,47,48]))
    refine bL<|ab<|ab<|aH<|KK e<|aq fun _ Oi=>WS fun _ Op=>rP 3 [] I ?_
    refine RK Op<|aF ?_
    have A:(0≤(bT j).length):=by exact Nat.zero_le _
    refine bQ (ι:={z:Nat // (z≤(bT j).length)}) [4,9,10,12,18,20,22,106,107,108,173] [0,1,2,3,4,5,6,7,8,9,10,11,12,13,14,15,16,17,18,19,20,21,22,23,24,25,26,27,28,29,30,31,32,33,34,35,36,37,38,39,40,41,42,43,44,45,46,47,48] U U (fun z=>[(174,(vI (z.1:Int)))]) (fun z=>[]) (fun _=>rfl) (fun _=>rfl) (fun z=>(bT j).length-z.1) ⟨0,A⟩ (bk U) (aP [0,1,2,3,4,5,6,7,8,9,10,11,12,13,14,15,16,17,18,19,20,21,22,23,24,25,26,27,28,29,30,31,32,33,34,35,36,37,38,39,40,41,42,43,44,45,46,47,48]) ?_
    clear A
    rintro ⟨h,P1⟩ J148 V0
    try dsimp only
    refine WS fun _ Os=>rP 1 [] I ?_
    refine RK Os<|aq fun _ g=>bV U (aU fun W8=>?_) (aV fun W8=>?_)
    ·refine bL<|ab<|ab<|aH<|KK Oi<|WS fun _ WU=>bE 1 U<|rS (SX (eu (r:= .bool true) U U U lB) U U)<|rP 3 [] I ?_
     refine rS (CL (xQ (cb (bS.mk j.Race j.aA j.ao j.bJ (kY % 100001))) T5 T6 (cb j) J3 J4 (by rw [XR]; omega) om) (ax (ak (n:=(cb (bS.mk j.Race j.aA j.ao j.bJ (kY % 100001))).length) 2 U sm)<|ax (ak (n:=(cb j).length) 36 U sm)<|aN) U) ?_
     refine rP 2 [] I ?_
     refine bZ (t:=202) U (bg fun T7=>?_) (bf fun T7=>?_)
     ·exact absurd XR T7
     refine rP 2 [] I ?_
     refine rS (CL (tY (bT (bS.mk j.Race j.aA j.ao j.bJ (kY % 100001))) (bT j) K8 Wv Wz N K4 K5 (by rw [Wm,Ac B.2]; omega) (by rw [Ac B.2]; omega) (by rw [Wm]; exact mT B.2) (by exact mT B.2) (by exact M) (by exact T)) (ax (ak (n:=(bT (bS.mk j.Race j.aA j.ao j.bJ (kY % 100001))).length) 0 U (jf M))<|ax (dj 1 U pj)<|ax (ak (n:=(bT j).length) 34 U (jf T))<|ax (dj 35 U pj)<|aN) U) ?_
     refine rP 3 [] I ?_
     refine RK WU<|cw U (bg fun T8=>?_) (bf fun T8=>?_)
     ·exact absurd Wm T8
     refine cg<|aO ?_
     refine a_ (iF (bk U) (aP [3,4,5,6,7,8,9,10,11,12,13,14,15,16,17,18,19,20,21,22,23,24,25,26,27,28,29,30,31,32,33,34,35,36,37,38,39,40,41,42,43,44,45,46,47,48]) (Io ()))
    refine WK g<|aq fun _ k=>aF<|WS fun _ PA=>bE 2 U<|RK PA<|WS fun _ WQ=>rP 2 [] I ?_
    obtain ⟨row,D⟩:=aM (bT j) h om
    obtain ⟨rowa,E⟩:=aM N h om
    have p:(List.zipWith ru (bT j) N)[h]? =some (ru row rowa):=dx D E
    refine rS (IA h U (ak (n:=(bT j).length) 34 U (jf T)) yr dc om om)<|rS (gQ h 0 (vS rowa.1 row.length rowa.2) U cq (ak (n:=(bT j).length) 34 U (jf T)) p U dc U)<|rP 2 [] I ?_
    refine RK WQ<|aF ?_
    have A:(0≤row.length):=by exact Nat.zero_le _
    refine bQ (ι:={z:Nat // (z≤row.length)}) [4,9,10,12,18,20,22,28,106,107,108,173,174,180,181] [0,1,2,3,4,5,6,7,8,9,10,11,12,13,14,15,16,17,18,19,20,21,22,23,24,25,26,27,28,29,30,31,32,33,34,35,36,37,38,39,40,41,42,43,44,45,46,47,48] U U (fun z=>[(182,(vI (z.1:Int)))]) (fun z=>[]) (fun _=>rfl) (fun _=>rfl) (fun z=>row.length-z.1) ⟨0,A⟩ (bk U) (aP [0,1,2,3,4,5,6,7,8,9,10,11,12,13,14,15,16,17,18,19,20,21,22,23,24,25,26,27,28,29,30,31,32,33,34,35,36,37,38,39,40,41,42,43,44,45,46,47,48]) ?_
    clear A
    rintro ⟨i,P2⟩ J155 V8
    try dsimp only
    have XX:=mT B.2 row (aQ D)
    refine WS fun _ PU=>rP 1 [] I ?_
    refine RK PU<|aq fun _ PY=>bV U (aU fun W_=>?_) (aV fun W_=>?_)
    ·refine bL<|ab<|ab<|aH<|aO<|KK k<|aw<|rP 2 [] I ?_
     refine aK ?_
     have Wk:(vI (((h+1):Nat):Int))=(vI ((h:Int)+1)):=by exact cI om
     refine a_ (V0 ⟨(h+1),(by first|omega|(simp only []; omega))⟩ _ _ _ U os (cK 11<|bj U Wk<|dv.nil _) (aP [0,1,2,3,4,5,6,7,8,9,10,11,12,13,14,15,16,17,18,19,20,21,22,23,24,25,26,27,28,29,30,31,32,33,34,35,36,37,38,39,40,41,42,43,44,45,46,47,48]))
    refine WK PY<|aq fun _ WR=>aF<|WS fun _ Pi=>?_
    obtain ⟨sx,KV⟩:=aM row i om
    have K0:=bO iC KV
    refine rS (IA i U (show iH _ (rd rowa.1 row.length 1 (row.map iC)).holds from (fun w hw=>(dj 35 U pj) w hw _ (bP D E (by simp [C_])))) dp dc om om)<|rS (gQ i 0 (vI sx) U cq (show iH _ (rd rowa.1 row.length 1 (row.map iC)).holds from (fun w hw=>(dj 35 U pj) w hw _ (bP D E (by simp [C_])))) K0 U dc U)<|bE 1 U<|RK Pi<|WS fun _ WT=>rP 2 [] I ?_
    obtain ⟨rk,AB⟩:=aM (bT (bS.mk j.Race j.aA j.ao j.bJ (kY % 100001))) h om
    obtain ⟨rka,AA⟩:=aM K8 h om
    have J9:(List.zipWith ru (bT (bS.mk j.Race j.aA j.ao j.bJ (kY % 100001))) K8)[h]? =some (ru rk rka):=dx AB AA
    refine rS (IA h U (ak (n:=(bT (bS.mk j.Race j.aA j.ao j.bJ (kY % 100001))).length) 0 U (jf M)) yr dc om om)<|rS (gQ h 0 (vS rka.1 rk.length rka.2) U cq (ak (n:=(bT (bS.mk j.Race j.aA j.ao j.bJ (kY % 100001))).length) 0 U (jf M)) J9 U dc U)<|bE 1 U<|rS (CL (q7 rk rka.1 rka.2 sx (by exact mT C _ (aQ AB))) (ax (show iH _ (rd rka.1 rk.length 1 (rk.map iC)).holds from (fun w hw=>(dj 1 U pj) w hw _ (bP AB AA (by simp [C_]))))<|aN) U)<|rP 1 [] I ?_
    refine RK WT<|cw U (bg fun S=>?_) (bf fun S=>?_)
    ·exact absurd (z5 G B.2 C D AB (aQ KV)) S
    refine cg<|aO<|KK WR<|aw<|rP 2 [] I ?_
    refine aK ?_
    have Wj:(vI (((i+1):Nat):Int))=(vI ((i:Int)+1)):=by exact cI om
    refine a_ (V8 ⟨(i+1),(by first|omega|(simp only []; omega))⟩ _ _ _ U os (cK 15<|bj U Wj<|dv.nil _) (aP [0,1,2,3,4,5,6,7,8,9,10,11,12,13,14,15,16,17,18,19,20,21,22,23,24,25,26,27,28,29,30,31,32,33,34,35,36,37,38,39,40,41,42,43,44,45,46,47,48]))
   refine aF<|aq fun _ LE=>?_
   have J:mA (bS.mk j.Race j.aA (j.ao++[(aJ.mk mi more.eO more.fj more.ew more.At)]) j.bJ j.kU) _ _:=Ai Wo (by (simp; omega))
   have G:HC j (bS.mk j.Race j.aA (j.ao++[(aJ.mk mi more.eO more.fj more.ew more.At)]) j.bJ j.kU):=(Ps (j:=j) _)
   refine aw<|bE 1 U<|rS (TB 1 15 U MA U dc U)<|rS (LP (du.cells (du.mk (er.mk (ct.mk (bM.mk (bx.mk v j.Race.ar.aS.length B3)) j.Race.ar.hG (bx.mk AC j.Race.ar.aj.length Ck) (bx.mk Am j.Race.ar.aa.length C0) j.Race.ar.cf j.Race.ar.e8 j.Race.ar.di) (bx.mk A2 j.Race.aY.length C3) (bx.mk A5 j.Race.cd.length EQ) j.Race.j2 (bx.mk A8 j.Race.aD.length FG)) (bx.mk Fn j.aA.length Gi) (bx.mk Qr ((j.ao++[(aJ.mk mi more.eO more.fj more.ew more.At)]).length) Qv) j.bJ j.kU)) 0 U cq U U U)<|AL U zM fun X8=>bE 1 U<|fR U Bz U<|RK LE<|aq fun _ LT=>WS fun _ Io=>e9 1 [] (mc 0 U I) U<|rS (CL (uq (bS.mk j.Race j.aA (j.ao++[(aJ.mk mi more.eO more.fj more.ew more.At)]) j.bJ j.kU) v B3 R1 AC Ck Am C0 A2 C3 A5 EQ T0 A8 FG Fn Gi Qr Qv (by exact J)) (ax (ak (n:=j.Race.ar.aS.length) 12 U sm)<|ax (ak (n:=j.Race.ar.aj.length) 13 U (g_ SW))<|ax (dj 14 U iN)<|ax (ak (n:=j.Race.ar.aa.length) 15 U sm)<|ax (ak (n:=j.Race.aY.length) 16 U sm)<|ax (ak (n:=j.Race.cd.length) 17 U sm)<|ax (ak (n:=j.Race.aD.length) 18 U (e_ H1.1))<|ax (g7 19 U H1)<|ax (ak (n:=j.aA.length) 20 U sm)<|ax (ak (n:=(j.ao++[(aJ.mk mi more.eO more.fj more.ew more.At)]).length) 21 U sm)<|aN) U)<|rP 1 [] I ?_
   refine RK Io<|cw U (bg fun H=>?_) (bf fun H=>?_)
   ·refine bL<|ab<|aH ?_
    refine a_ (iF (bk U) (aP [1,2,3,4,5,6,7,8,9,10,11,12,13,14,15,16,17,18,19,20,21,22,23,24,25,26,27,28,29,30,31,32,33,34,35,36,37,38,39,40,41,42,43,44,45,46]) (In ()))
   refine WK LT<|aq fun _ La=>?_
   have V:=J.small H.1
   have C:=H.2
   have XY:=zA C
   have XZ:=(eE C).2.np
   have Xa:=zT G B.2 C
   have J8:=fun n=>zL (n:=n) G B.2 C
   have Wl:=fun n=>B2 (n:=n) G B.2 C rfl
   refine aw<|rP 1 [] (mc 0 U I) ?_
   refine cX (o9 (bS.mk j.Race j.aA (j.ao++[(aJ.mk mi more.eO more.fj more.ew more.At)]) j.bJ j.kU) v B3 R1 AC Ck Am C0 A2 C3 A5 EQ T0 A8 FG Fn Gi Qr Qv (by exact V)) (gj 36 U U<|ax (ak (n:=j.Race.ar.aS.length) 12 U sm)<|ax (ak (n:=j.Race.ar.aj.length) 13 U (g_ SW))<|ax (dj 14 U iN)<|ax (ak (n:=j.Race.ar.aa.length) 15 U sm)<|ax (ak (n:=j.Race.aY.length) 16 U sm)<|ax (ak (n:=j.Race.cd.length) 17 U sm)<|ax (ak (n:=j.Race.aD.length) 18 U (e_ H1.1))<|ax (g7 19 U H1)<|ax (ak (n:=j.aA.length) 20 U sm)<|ax (ak (n:=(j.ao++[(aJ.mk mi more.eO more.fj more.ew more.At)]).length) 21 U sm)<|aN) U fun Xg Xz=>?_
   obtain ⟨Wu,Wy⟩:=Xg
   try dsimp only
   refine bE 5 U<|RK La<|WS fun _ WC=>rP 1 [] (mc 1 U I) ?_
   refine cX (pd (bS.mk j.Race j.aA (j.ao++[(aJ.mk mi more.eO more.fj more.ew more.At)]) j.bJ j.kU) v B3 R1 AC Ck Am C0 A2 C3 A5 EQ T0 A8 FG Fn Gi Qr Qv (by exact V)) (gj 37 U U<|ax (ak (n:=j.Race.ar.aS.length) 13 U sm)<|ax (ak (n:=j.Race.ar.aj.length) 14 U (g_ SW))<|ax (dj 15 U iN)<|ax (ak (n:=j.Race.ar.aa.length) 16 U sm)<|ax (ak (n:=j.Race.aY.length) 17 U sm)<|ax (ak (n:=j.Race.cd.length) 18 U sm)<|ax (ak (n:=j.Race.aD.length) 19 U (e_ H1.1))<|ax (g7 20 U H1)<|ax (ak (n:=j.aA.length) 21 U sm)<|ax (ak (n:=(j.ao++[(aJ.mk mi more.eO more.fj more.ew more.At)]).length) 22 U sm)<|aN) U fun Xj Wr=>?_
   obtain ⟨R4,X6,YA⟩:=Xj
   try dsimp only
   have W:=Wr
   try dsimp only at W
   have M:=W
   refine bE 5 U<|RK WC<|aq fun _ WG=>WS fun _ Lq=>rP 3 [] I ?_
   refine bZ (t:=128) U (bg fun P=>?_) (bf fun P=>?_)
   ·exact absurd (C) P
   refine rP 4 [] I ?_
   refine bZ (t:=132) U (bg fun L=>?_) (bf fun L=>?_)
   ·exact absurd (C) L
   refine rP 6 [] I ?_
   refine RK Lq<|cw U (bg fun J5=>?_) (bf fun J5=>?_)
   ·exfalso; omega
   refine WK WG<|aq fun _ L0=>WS fun _ WH=>rP 3 [] I ?_
   refine RK WH<|aF ?_
   have A:(0≤(cb j).length):=by exact Nat.zero_le _
   refine bQ (ι:={z:Nat // (z≤(cb j).length)}) [4,9,10,12,18,19,20,22,106,107,108,139,140] [0,1,2,3,4,5,6,7,8,9,10,11,12,13,14,15,16,17,18,19,20,21,22,23,24,25,26,27,28,29,30,31,32,33,34,35,36,37,38,39,40,41,42,43,44,45,46,47,48,49] U U (fun z=>[(141,(vI (z.1:Int)))]) (fun z=>[]) (fun _=>rfl) (fun _=>rfl) (fun z=>(cb j).length-z.1) ⟨0,A⟩ (bk U) (aP [0,1,2,3,4,5,6,7,8,9,10,11,12,13,14,15,16,17,18,19,20,21,22,23,24,25,26,27,28,29,30,31,32,33,34,35,36,37,38,39,40,41,42,43,44,45,46,47,48,49]) ?_
   clear A
   rintro ⟨q,Pl⟩ J123 Uq
   try dsimp only
   refine WS fun _ Z=>rP 1 [] I ?_
   refine RK Z<|aq fun _ a=>cw U (aV fun W1=>?_) (aU fun W1=>?_)
   ·refine WK a<|aq fun _ L3=>aF<|WS fun _ c=>?_
    obtain ⟨n,hn⟩:=aM (cb j) q om
    have RS:=bO iC hn
    refine rS (IA q U (ak (n:=(cb j).length) 37 U sm) dp dc om om)<|rS (gQ q 0 (vI n) U cq (ak (n:=(cb j).length) 37 U sm) RS U dc U)<|bE 1 U<|RK c<|WS fun _ L5=>bE 2 U<|rS (CL (q7 (cb (bS.mk j.Race j.aA (j.ao++[(aJ.mk mi more.eO more.fj more.ew more.At)]) j.bJ j.kU)) Wu Wy n om) (ax (ak (n:=(cb (bS.mk j.Race j.aA (j.ao++[(aJ.mk mi more.eO more.fj more.ew more.At)]) j.bJ j.kU)).length) 2 U sm)<|aN) U)<|rP 1 [] I ?_
    refine RK L5<|cw U (bg fun R=>?_) (bf fun R=>?_)
    ·exact absurd (J8 _ (aQ hn)) R
    refine cg<|aO<|KK L3<|aw<|rP 2 [] I ?_
    refine aK ?_
    have WY:(vI (((q+1):Nat):Int))=(vI ((q:Int)+1)):=by exact cI om
    refine a_ (Uq ⟨(q+1),(by first|omega|(simp only []; omega))⟩ _ _ _ U os (cK 13<|bj U WY<|dv.nil _) (aP [0,1,2,3,4,5,6,7,8,9,10,11,12,13,14,15,16,17,18,19,20,21,22,23,24,25,26,27,28,29,30,31,32,33,34,35,36,37,38,39,40,41,42,43,44,45,46,47,48,49]))
   refine bL<|ab<|ab<|aH<|KK L0<|aq fun _ d=>WS fun _ M2=>rP 3 [] I ?_
   refine RK M2<|aF ?_
   have A:(0≤(cb (bS.mk j.Race j.aA (j.ao++[(aJ.mk mi more.eO more.fj more.ew more.At)]) j.bJ j.kU)).length):=by exact Nat.zero_le _
   refine bQ (ι:={z:Nat // (z≤(cb (bS.mk j.Race j.aA (j.ao++[(aJ.mk mi more.eO more.fj more.ew more.At)]) j.bJ j.kU)).length)}) [4,9,10,12,18,20,22,106,107,108,150,151] [0,1,2,4,5,6,7,8,9,10,11,12,13,14,15,16,17,18,19,20,21,22,23,24,25,26,27,28,29,30,31,32,33,34,35,36,37,38,39,40,41,42,43,44,45,46,47,48,49] U U (fun z=>[(152,(vI (z.1:Int)))]) (fun z=>[]) (fun _=>rfl) (fun _=>rfl) (fun z=>(cb (bS.mk j.Race j.aA (j.ao++[(aJ.mk mi more.eO more.fj more.ew more.At)]) j.bJ j.kU)).length-z.1) ⟨0,A⟩ (bk U) (aP [0,1,2,4,5,6,7,8,9,10,11,12,13,14,15,16,17,18,19,20,21,22,23,24,25,26,27,28,29,30,31,32,33,34,35,36,37,38,39,40,41,42,43,44,45,46,47,48,49]) ?_
   clear A
   rintro ⟨m,Pq⟩ J133 R6
   try dsimp only
   refine WS fun _ Ne=>rP 1 [] I ?_
   refine RK Ne<|aq fun _ e=>cw U (aV fun W3=>?_) (aU fun W3=>?_)
   ·refine WK e<|aq fun _ Iv=>aF<|WS fun _ f=>?_
    obtain ⟨u,hu⟩: ∃ y_,(cb (bS.mk j.Race j.aA (j.ao++[(aJ.mk mi more.eO more.fj more.ew more.At)]) j.bJ j.kU))[m]? =some y_:=⟨(cb (bS.mk j.Race j.aA (j.ao++[(aJ.mk mi more.eO more.fj more.ew more.At)]) j.bJ j.kU))[m]'om,eN _⟩
    have TQ:=bO iC hu
    refine rS (IA m U (ak (n:=(cb (bS.mk j.Race j.aA (j.ao++[(aJ.mk mi more.eO more.fj more.ew more.At)]) j.bJ j.kU)).length) 2 U sm) dp dc om om)<|rS (gQ m 0 (vI u) U cq (ak (n:=(cb (bS.mk j.Race j.aA (j.ao++[(aJ.mk mi more.eO more.fj more.ew more.At)]) j.bJ j.kU)).length) 2 U sm) TQ U dc U)<|bE 1 U<|RK f<|WS fun _ Iw=>bE 1 U<|rS (SX (eu (r:= .bool true) U U U EB) U U)<|rP 8 [] (mc 37 U I) ?_
    refine cL (t:=165) U (aU fun R5=>?_) (aV fun R5=>?_)
    ·refine bE 5 U<|RK Iw<|cj U<|cg<|aO<|KK Iv<|aw<|rP 2 [] I ?_
     refine aK ?_
     have Wc:(vI (((m+1):Nat):Int))=(vI ((m:Int)+1)):=by exact cI om
     refine a_ (R6 ⟨(m+1),(by first|omega|(simp only []; omega))⟩ _ _ _ U os (cK 12<|bj U Wc<|dv.nil _) (aP [0,1,2,3,4,5,6,7,8,9,10,11,12,13,14,15,16,17,18,19,20,21,22,23,24,25,26,27,28,29,30,31,32,33,34,35,36,37,38,39,40,41,42,43,44,45,46,47,48]))
    refine bE 2 U<|rS (CL (q7 (cb j) J3 J4 u om) (ax (ak (n:=(cb j).length) 36 U sm)<|aN) U)<|rP 2 [] I ?_
    refine RK Iw<|cw U (bg fun J6=>?_) (bf fun J6=>?_)
    ·exact absurd (Wl _ (aQ hu) om) J6
    refine cg<|aO<|KK Iv<|aw<|rP 2 [] I ?_
    refine aK ?_
    have Wb:(vI (((m+1):Nat):Int))=(vI ((m:Int)+1)):=by exact cI om
    refine a_ (R6 ⟨(m+1),(by first|omega|(simp only []; omega))⟩ _ _ _ U os (cK 12<|bj U Wb<|dv.nil _) (aP [0,1,2,3,4,5,6,7,8,9,10,11,12,13,14,15,16,17,18,19,20,21,22,23,24,25,26,27,28,29,30,31,32,33,34,35,36,37,38,39,40,41,42,43,44,45,46,47,48]))
   refine bL<|ab<|ab<|aH<|KK d<|aq fun _ OK=>WS fun _ O=>rP 3 [] I ?_
   refine RK O<|aF ?_
   have A:(0≤(bT j).length):=by exact Nat.zero_le _
   refine bQ (ι:={z:Nat // (z≤(bT j).length)}) [4,9,10,12,18,20,22,106,107,108,173] [0,1,2,3,4,5,6,7,8,9,10,11,12,13,14,15,16,17,18,19,20,21,22,23,24,25,26,27,28,29,30,31,32,33,34,35,36,37,38,39,40,41,42,43,44,45,46,47,48] U U (fun z=>[(174,(vI (z.1:Int)))]) (fun z=>[]) (fun _=>rfl) (fun _=>rfl) (fun z=>(bT j).length-z.1) ⟨0,A⟩ (bk U) (aP [0,1,2,3,4,5,6,7,8,9,10,11,12,13,14,15,16,17,18,19,20,21,22,23,24,25,26,27,28,29,30,31,32,33,34,35,36,37,38,39,40,41,42,43,44,45,46,47,48]) ?_
   clear A
   rintro ⟨h,P1⟩ J144 Vk
   try dsimp only
   refine WS fun _ OM=>rP 1 [] I ?_
   refine RK OM<|aq fun _ Oi=>bV U (aU fun W6=>?_) (aV fun W6=>?_)
   ·refine bL<|ab<|ab<|aH<|KK OK<|WS fun _ Pi=>bE 1 U<|rS (SX (eu (r:= .bool false) U U U lB) U U)<|rP 12 [] I ?_
    refine RK Pi<|cj U<|cg<|aO ?_
    refine a_ (iF (bk U) (aP [3,4,5,6,7,8,9,10,11,12,13,14,15,16,17,18,19,20,21,22,23,24,25,26,27,28,29,30,31,32,33,34,35,36,37,38,39,40,41,42,43,44,45,46,47,48]) (In ()))
   refine WK Oi<|aq fun _ Or=>aF<|WS fun _ Os=>bE 2 U<|RK Os<|WS fun _ g=>rP 2 [] I ?_
   obtain ⟨row,D⟩:=aM (bT j) h om
   obtain ⟨rowa,E⟩:=aM N h om
   have p:(List.zipWith ru (bT j) N)[h]? =some (ru row rowa):=dx D E
   refine rS (IA h U (ak (n:=(bT j).length) 34 U (jf T)) yr dc om om)<|rS (gQ h 0 (vS rowa.1 row.length rowa.2) U cq (ak (n:=(bT j).length) 34 U (jf T)) p U dc U)<|rP 2 [] I ?_
   refine RK g<|aF ?_
   have A:(0≤row.length):=by exact Nat.zero_le _
   refine bQ (ι:={z:Nat // (z≤row.length)}) [4,9,10,12,18,20,22,28,106,107,108,173,174,180,181] [0,1,2,3,4,5,6,7,8,9,10,11,12,13,14,15,16,17,18,19,20,21,22,23,24,25,26,27,28,29,30,31,32,33,34,35,36,37,38,39,40,41,42,43,44,45,46,47,48] U U (fun z=>[(182,(vI (z.1:Int)))]) (fun z=>[]) (fun _=>rfl) (fun _=>rfl) (fun z=>row.length-z.1) ⟨0,A⟩ (bk U) (aP [0,1,2,3,4,5,6,7,8,9,10,11,12,13,14,15,16,17,18,19,20,21,22,23,24,25,26,27,28,29,30,31,32,33,34,35,36,37,38,39,40,41,42,43,44,45,46,47,48]) ?_
   clear A
   rintro ⟨i,P2⟩ J151 V6
   try dsimp only
   have XX:=mT B.2 row (aQ D)
   refine WS fun _ k=>rP 1 [] I ?_
   refine RK k<|aq fun _ PA=>bV U (aU fun W9=>?_) (aV fun W9=>?_)
   ·refine bL<|ab<|ab<|aH<|aO<|KK Or<|aw<|rP 2 [] I ?_
    refine aK ?_
    have Wi:(vI (((h+1):Nat):Int))=(vI ((h:Int)+1)):=by exact cI om
    refine a_ (Vk ⟨(h+1),(by first|omega|(simp only []; omega))⟩ _ _ _ U os (cK 11<|bj U Wi<|dv.nil _) (aP [0,1,2,3,4,5,6,7,8,9,10,11,12,13,14,15,16,17,18,19,20,21,22,23,24,25,26,27,28,29,30,31,32,33,34,35,36,37,38,39,40,41,42,43,44,45,46,47,48]))
   refine WK PA<|aq fun _ PP=>aF<|WS fun _ PU=>?_
   obtain ⟨sx,KV⟩:=aM row i om
   have K0:=bO iC KV
   refine rS (IA i U (show iH _ (rd rowa.1 row.length 1 (row.map iC)).holds from (fun w hw=>(dj 35 U pj) w hw _ (bP D E (by simp [C_])))) dp dc om om)<|rS (gQ i 0 (vI sx) U cq (show iH _ (rd rowa.1 row.length 1 (row.map iC)).holds from (fun w hw=>(dj 35 U pj) w hw _ (bP D E (by simp [C_])))) K0 U dc U)<|bE 1 U<|RK PU<|WS fun _ PY=>rP 2 [] I ?_
   obtain ⟨rk,AB⟩: ∃ y_,(bT (bS.mk j.Race j.aA (j.ao++[(aJ.mk mi more.eO more.fj more.ew more.At)]) j.bJ j.kU))[h]? =some y_:=⟨(bT (bS.mk j.Race j.aA (j.ao++[(aJ.mk mi more.eO more.fj more.ew more.At)]) j.bJ j.kU))[h]'om,eN _⟩
   obtain ⟨rka,AA⟩:=aM R4 h om
   have J9:(List.zipWith ru (bT (bS.mk j.Race j.aA (j.ao++[(aJ.mk mi more.eO more.fj more.ew more.At)]) j.bJ j.kU)) R4)[h]? =some (ru rk rka):=dx AB AA
   refine rS (IA h U (ak (n:=(bT (bS.mk j.Race j.aA (j.ao++[(aJ.mk mi more.eO more.fj more.ew more.At)]) j.bJ j.kU)).length) 0 U (jf M)) yr dc om om)<|rS (gQ h 0 (vS rka.1 rk.length rka.2) U cq (ak (n:=(bT (bS.mk j.Race j.aA (j.ao++[(aJ.mk mi more.eO more.fj more.ew more.At)]) j.bJ j.kU)).length) 0 U (jf M)) J9 U dc U)<|bE 1 U<|rS (CL (q7 rk rka.1 rka.2 sx (by exact mT C _ (aQ AB))) (ax (show iH _ (rd rka.1 rk.length 1 (rk.map iC)).holds from (fun w hw=>(dj 1 U pj) w hw _ (bP AB AA (by simp [C_]))))<|aN) U)<|rP 1 [] I ?_
   refine RK PY<|cw U (bg fun S=>?_) (bf fun S=>?_)
   ·exact absurd (z5 G B.2 C D AB (aQ KV)) S
   refine cg<|aO<|KK PP<|aw<|rP 2 [] I ?_
   refine aK ?_
   have Wh:(vI (((i+1):Nat):Int))=(vI ((i:Int)+1)):=by exact cI om
   refine a_ (V6 ⟨(i+1),(by first|omega|(simp only []; omega))⟩ _ _ _ U os (cK 15<|bj U Wh<|dv.nil _) (aP [0,1,2,3,4,5,6,7,8,9,10,11,12,13,14,15,16,17,18,19,20,21,22,23,24,25,26,27,28,29,30,31,32,33,34,35,36,37,38,39,40,41,42,43,44,45,46,47,48]))
  refine aF<|aq fun _ V9=>?_
  have J:mA (bS.mk j.Race j.aA j.ao (j.bJ+(minutes % 20)) j.kU) _ _:=Ai Wn (by (have:=F.np; omega))
  have G:HC j (bS.mk j.Race j.aA j.ao (j.bJ+(minutes % 20)) j.kU):=(Ns (j:=j) _ om)
  refine aw<|bE 1 U<|rS (TB 0 0 U MA U dc U)<|rS (LP (du.cells (du.mk (er.mk (ct.mk (bM.mk (bx.mk s j.Race.ar.aS.length Bx)) j.Race.ar.hG (bx.mk y j.Race.ar.aj.length Ci) (bx.mk AO j.Race.ar.aa.length Cx) j.Race.ar.cf j.Race.ar.e8 j.Race.ar.di) (bx.mk A1 j.Race.aY.length C2) (bx.mk A4 j.Race.cd.length Do) j.Race.j2 (bx.mk A7 j.Race.aD.length Eu)) (bx.mk Fd j.aA.length GT) (bx.mk IP j.ao.length If) (j.bJ+(minutes % 20)) j.kU)) 0 U cq U U U)<|AL U zM fun X7=>bE 1 U<|fR U Bz U<|RK V9<|aq fun _ LA=>WS fun _ In=>e9 1 [] (mc 0 U I) U<|rS (CL (uq (bS.mk j.Race j.aA j.ao (j.bJ+(minutes % 20)) j.kU) s Bx R0 y Ci AO Cx A1 C2 A4 Do To A7 Eu Fd GT IP If (by exact J)) (ax (ak (n:=j.Race.ar.aS.length) 26 U sm)<|ax (ak (n:=j.Race.ar.aj.length) 27 U (g_ ST))<|ax (dj 28 U iN)<|ax (ak (n:=j.Race.ar.aa.length) 29 U sm)<|ax (ak (n:=j.Race.aY.length) 30 U sm)<|ax (ak (n:=j.Race.cd.length) 31 U sm)<|ax (ak (n:=j.Race.aD.length) 32 U (e_ Hi.1))<|ax (g7 33 U Hi)<|ax (ak (n:=j.aA.length) 34 U sm)<|ax (ak (n:=j.ao.length) 35 U sm)<|aN) U)<|rP 1 [] I ?_
  refine RK In<|cw U (bg fun H=>?_) (bf fun H=>?_)
  ·refine bL<|ab<|aH ?_
   refine a_ (iF (bk U) (aP [1,6,7,8,9,10,11,12,13,14,15,16,17,18,19,20,21,22,23,24,25,26,27,28,29,30,31,32,33,34,35,36,37,38,39,40,41,42,43,44,45,46,47,48,49,50]) (UP ()))
  refine WK LA<|aq fun _ LE=>?_
  have V:=J.small H.1
  have C:=H.2
  have XY:=zA C
  have XZ:=(eE C).2.np
  have Xa:=zT G B.2 C
  have J8:=fun n=>zL (n:=n) G B.2 C
  refine aw<|rP 1 [] (mc 0 U I) ?_
  refine cX (o9 (bS.mk j.Race j.aA j.ao (j.bJ+(minutes % 20)) j.kU) s Bx R0 y Ci AO Cx A1 C2 A4 Do To A7 Eu Fd GT IP If (by exact V)) (gj 40 U U<|ax (ak (n:=j.Race.ar.aS.length) 26 U sm)<|ax (ak (n:=j.Race.ar.aj.length) 27 U (g_ ST))<|ax (dj 28 U iN)<|ax (ak (n:=j.Race.ar.aa.length) 29 U sm)<|ax (ak (n:=j.Race.aY.length) 30 U sm)<|ax (ak (n:=j.Race.cd.length) 31 U sm)<|ax (ak (n:=j.Race.aD.length) 32 U (e_ Hi.1))<|ax (g7 33 U Hi)<|ax (ak (n:=j.aA.length) 34 U sm)<|ax (ak (n:=j.ao.length) 35 U sm)<|aN) U fun Xf Xy=>?_
  obtain ⟨Wt,Wx⟩:=Xf
  try dsimp only
  refine bE 5 U<|RK LE<|WS fun _ Li=>rP 1 [] (mc 1 U I) ?_
  refine cX (pd (bS.mk j.Race j.aA j.ao (j.bJ+(minutes % 20)) j.kU) s Bx R0 y Ci AO Cx A1 C2 A4 Do To A7 Eu Fd GT IP If (by exact V)) (gj 41 U U<|ax (ak (n:=j.Race.ar.aS.length) 27 U sm)<|ax (ak (n:=j.Race.ar.aj.length) 28 U (g_ ST))<|ax (dj 29 U iN)<|ax (ak (n:=j.Race.ar.aa.length) 30 U sm)<|ax (ak (n:=j.Race.aY.length) 31 U sm)<|ax (ak (n:=j.Race.cd.length) 32 U sm)<|ax (ak (n:=j.Race.aD.length) 33 U (e_ Hi.1))<|ax (g7 34 U Hi)<|ax (ak (n:=j.aA.length) 35 U sm)<|ax (ak (n:=j.ao.length) 36 U sm)<|aN) U fun Xh Wq=>?_
  obtain ⟨R3,X5,X_⟩:=Xh
  try dsimp only
  have W:=Wq
  try dsimp only at W
  have M:=W
  refine bE 5 U<|RK Li<|aq fun _ WD=>WS fun _ WE=>rP 3 [] I ?_
  refine bZ (t:=128) U (bg fun P=>?_) (bf fun P=>?_)
  ·exact absurd (C) P
  refine rP 4 [] I ?_
  refine bZ (t:=132) U (bg fun L=>?_) (bf fun L=>?_)
  ·exact absurd (C) L
  refine rP 6 [] I ?_
  refine RK WE<|cw U (bg fun J5=>?_) (bf fun J5=>?_)
  ·exfalso; omega
  refine WK WD<|aq fun _ Lo=>WS fun _ WF=>rP 3 [] I ?_
  refine RK WF<|aF ?_
  have A:(0≤(cb j).length):=by exact Nat.zero_le _
  refine bQ (ι:={z:Nat // (z≤(cb j).length)}) [4,9,10,12,18,19,20,22,106,107,108,139,140] [0,1,2,3,4,9,10,11,12,13,14,15,16,17,18,19,20,21,22,23,24,25,26,27,28,29,30,31,32,33,34,35,36,37,38,39,40,41,42,43,44,45,46,47,48,49,50,51,52,53] U U (fun z=>[(141,(vI (z.1:Int)))]) (fun z=>[]) (fun _=>rfl) (fun _=>rfl) (fun z=>(cb j).length-z.1) ⟨0,A⟩ (bk U) (aP [0,1,2,3,4,9,10,11,12,13,14,15,16,17,18,19,20,21,22,23,24,25,26,27,28,29,30,31,32,33,34,35,36,37,38,39,40,41,42,43,44,45,46,47,48,49,50,51,52,53]) ?_
  clear A
  rintro ⟨q,Pl⟩ J119 UV
  try dsimp only
  refine WS fun _ Lq=>rP 1 [] I ?_
  refine RK Lq<|aq fun _ L0=>cw U (aV fun W0=>?_) (aU fun W0=>?_)
  ·refine WK L0<|aq fun _ L2=>aF<|WS fun _ Z=>?_
   obtain ⟨n,hn⟩:=aM (cb j) q om
   have RS:=bO iC hn
   refine rS (IA q U (ak (n:=(cb j).length) 37 U sm) dp dc om om)<|rS (gQ q 0 (vI n) U cq (ak (n:=(cb j).length) 37 U sm) RS U dc U)<|bE 1 U<|RK Z<|WS fun _ a=>bE 2 U<|rS (CL (q7 (cb (bS.mk j.Race j.aA j.ao (j.bJ+(minutes % 20)) j.kU)) Wt Wx n om) (ax (ak (n:=(cb (bS.mk j.Race j.aA j.ao (j.bJ+(minutes % 20)) j.kU)).length) 2 U sm)<|aN) U)<|rP 1 [] I ?_
   refine RK a<|cw U (bg fun R=>?_) (bf fun R=>?_)
   ·exact absurd (J8 _ (aQ hn)) R
   refine cg<|aO<|KK L2<|aw<|rP 2 [] I ?_
   refine aK ?_
   have WX:(vI (((q+1):Nat):Int))=(vI ((q:Int)+1)):=by exact cI om
   refine a_ (UV ⟨(q+1),(by first|omega|(simp only []; omega))⟩ _ _ _ U os (cK 13<|bj U WX<|dv.nil _) (aP [0,1,2,3,4,5,6,7,8,9,10,11,12,13,14,15,16,17,18,19,20,21,22,23,24,25,26,27,28,29,30,31,32,33,34,35,36,37,38,39,40,41,42,43,44,45,46,47,48,49]))
  refine bL<|ab<|ab<|aH<|KK Lo<|aq fun _ L3=>WS fun _ c=>rP 3 [] I ?_
  refine RK c<|aF ?_
  have A:(0≤(cb (bS.mk j.Race j.aA j.ao (j.bJ+(minutes % 20)) j.kU)).length):=by exact Nat.zero_le _
  refine bQ (ι:={z:Nat // (z≤(cb (bS.mk j.Race j.aA j.ao (j.bJ+(minutes % 20)) j.kU)).length)}) [4,9,10,12,18,20,22,106,107,108,150,151] [0,1,2,4,5,6,7,8,9,10,11,12,13,14,15,16,17,18,19,20,21,22,23,24,25,26,27,28,29,30,31,32,33,34,35,36,37,38,39,40,41,42,43,44,45,46,47,48,49] U U (fun z=>[(152,(vI (z.1:Int)))]) (fun z=>[]) (fun _=>rfl) (fun _=>rfl) (fun z=>(cb (bS.mk j.Race j.aA j.ao (j.bJ+(minutes % 20)) j.kU)).length-z.1) ⟨0,A⟩ (bk U) (aP [0,1,2,4,5,6,7,8,9,10,11,12,13,14,15,16,17,18,19,20,21,22,23,24,25,26,27,28,29,30,31,32,33,34,35,36,37,38,39,40,41,42,43,44,45,46,47,48,49]) ?_
  clear A
  rintro ⟨m,Pq⟩ J129 VJ
  try dsimp only
  refine WS fun _ WL=>rP 1 [] I ?_
  refine RK WL<|aq fun _ d=>cw U (aV fun L=>?_) (aU fun L=>?_)
  ·refine WK d<|aq fun _ NE=>aF<|WS fun _ Ne=>?_
   obtain ⟨u,hu⟩:=aM (cb (bS.mk j.Race j.aA j.ao (j.bJ+(minutes % 20)) j.kU)) m om
   have TQ:=bO iC hu
   refine rS (IA m U (ak (n:=(cb (bS.mk j.Race j.aA j.ao (j.bJ+(minutes % 20)) j.kU)).length) 2 U sm) dp dc om om)<|rS (gQ m 0 (vI u) U cq (ak (n:=(cb (bS.mk j.Race j.aA j.ao (j.bJ+(minutes % 20)) j.kU)).length) 2 U sm) TQ U dc U)<|bE 1 U<|RK Ne<|WS fun _ e=>bE 1 U<|rS (SX (eu (r:= .bool false) U U U EB) U U)<|bE 13 U<|RK e<|cj U<|cg<|aO<|KK NE<|aw<|rP 2 [] I ?_
   refine aK ?_
   have Wa:(vI (((m+1):Nat):Int))=(vI ((m:Int)+1)):=by exact cI om
   refine a_ (VJ ⟨(m+1),(by first|omega|(simp only []; omega))⟩ _ _ _ U os (cK 12<|bj U Wa<|dv.nil _) (aP [0,1,2,3,4,5,6,7,8,9,10,11,12,13,14,15,16,17,18,19,20,21,22,23,24,25,26,27,28,29,30,31,32,33,34,35,36,37,38,39,40,41,42,43,44,45,46,47,48]))
  refine bL<|ab<|ab<|aH<|KK L3<|aq fun _ Iv=>WS fun _ f=>rP 3 [] I ?_
  refine RK f<|aF ?_
  have A:(0≤(bT j).length):=by exact Nat.zero_le _
  refine bQ (ι:={z:Nat // (z≤(bT j).length)}) [4,9,10,12,18,20,22,106,107,108,173] [0,1,2,3,4,5,6,7,8,9,10,11,12,13,14,15,16,17,18,19,20,21,22,23,24,25,26,27,28,29,30,31,32,33,34,35,36,37,38,39,40,41,42,43,44,45,46,47,48] U U (fun z=>[(174,(vI (z.1:Int)))]) (fun z=>[]) (fun _=>rfl) (fun _=>rfl) (fun z=>(bT j).length-z.1) ⟨0,A⟩ (bk U) (aP [0,1,2,3,4,5,6,7,8,9,10,11,12,13,14,15,16,17,18,19,20,21,22,23,24,25,26,27,28,29,30,31,32,33,34,35,36,37,38,39,40,41,42,43,44,45,46,47,48]) ?_
  clear A
  rintro ⟨h,P1⟩ J139 VO
  try dsimp only
  refine WS fun _ WN=>rP 1 [] I ?_
  refine RK WN<|aq fun _ J2=>bV U (aU fun W5=>?_) (aV fun W5=>?_)
  ·refine bL<|ab<|ab<|aH<|KK Iv<|WS fun _ PP=>bE 1 U<|rS (SX (eu (r:= .bool false) U U U lB) U U)<|rP 12 [] I ?_
   refine RK PP<|cj U<|cg<|aO ?_
   refine a_ (iF (bk U) (aP [3,4,5,6,7,8,9,10,11,12,13,14,15,16,17,18,19,20,21,22,23,24,25,26,27,28,29,30,31,32,33,34,35,36,37,38,39,40,41,42,43,44,45,46,47,48]) (UP ()))
  refine WK J2<|aq fun _ O=>aF<|WS fun _ WO=>bE 2 U<|RK WO<|WS fun _ OM=>rP 2 [] I ?_
  obtain ⟨row,D⟩:=aM (bT j) h om
  obtain ⟨rowa,E⟩:=aM N h om
  have p:(List.zipWith ru (bT j) N)[h]? =some (ru row rowa):=dx D E
  refine rS (IA h U (ak (n:=(bT j).length) 34 U (jf T)) yr dc om om)<|rS (gQ h 0 (vS rowa.1 row.length rowa.2) U cq (ak (n:=(bT j).length) 34 U (jf T)) p U dc U)<|rP 2 [] I ?_
  refine RK OM<|aF ?_
  have A:(0≤row.length):=by exact Nat.zero_le _
  refine bQ (ι:={z:Nat // (z≤row.length)}) [4,9,10,12,18,20,22,28,106,107,108,173,174,180,181] [0,1,2,3,4,5,6,7,8,9,10,11,12,13,14,15,16,17,18,19,20,21,22,23,24,25,26,27,28,29,30,31,32,33,34,35,36,37,38,39,40,41,42,43,44,45,46,47,48] U U (fun z=>[(182,(vI (z.1:Int)))]) (fun z=>[]) (fun _=>rfl) (fun _=>rfl) (fun z=>row.length-z.1) ⟨0,A⟩ (bk U) (aP [0,1,2,3,4,5,6,7,8,9,10,11,12,13,14,15,16,17,18,19,20,21,22,23,24,25,26,27,28,29,30,31,32,33,34,35,36,37,38,39,40,41,42,43,44,45,46,47,48]) ?_
  clear A
  rintro ⟨i,P2⟩ J146 Vs
  try dsimp only
  have XX:=mT B.2 row (aQ D)
  refine WS fun _ Op=>rP 1 [] I ?_
  refine RK Op<|aq fun _ Or=>bV U (aU fun W7=>?_) (aV fun W7=>?_)
  ·refine bL<|ab<|ab<|aH<|aO<|KK O<|aw<|rP 2 [] I ?_
   refine aK ?_
   have Wg:(vI (((h+1):Nat):Int))=(vI ((h:Int)+1)):=by exact cI om
   refine a_ (VO ⟨(h+1),(by first|omega|(simp only []; omega))⟩ _ _ _ U os (cK 11<|bj U Wg<|dv.nil _) (aP [0,1,2,3,4,5,6,7,8,9,10,11,12,13,14,15,16,17,18,19,20,21,22,23,24,25,26,27,28,29,30,31,32,33,34,35,36,37,38,39,40,41,42,43,44,45,46,47,48]))
  refine WK Or<|aq fun _ g=>aF<|WS fun _ WP=>?_
  obtain ⟨sx,KV⟩:=aM row i om
  have K0:=bO iC KV
  refine rS (IA i U (show iH _ (rd rowa.1 row.length 1 (row.map iC)).holds from (fun w hw=>(dj 35 U pj) w hw _ (bP D E (by simp [C_])))) dp dc om om)<|rS (gQ i 0 (vI sx) U cq (show iH _ (rd rowa.1 row.length 1 (row.map iC)).holds from (fun w hw=>(dj 35 U pj) w hw _ (bP D E (by simp [C_])))) K0 U dc U)<|bE 1 U<|RK WP<|WS fun _ k=>rP 2 [] I ?_
  obtain ⟨rk,AB⟩:=aM (bT (bS.mk j.Race j.aA j.ao (j.bJ+(minutes % 20)) j.kU)) h om
  obtain ⟨rka,AA⟩:=aM R3 h om
  have J9:(List.zipWith ru (bT (bS.mk j.Race j.aA j.ao (j.bJ+(minutes % 20)) j.kU)) R3)[h]? =some (ru rk rka):=dx AB AA
  refine rS (IA h U (ak (n:=(bT (bS.mk j.Race j.aA j.ao (j.bJ+(minutes % 20)) j.kU)).length) 0 U (jf M)) yr dc om om)<|rS (gQ h 0 (vS rka.1 rk.length rka.2) U cq (ak (n:=(bT (bS.mk j.Race j.aA j.ao (j.bJ+(minutes % 20)) j.kU)).length) 0 U (jf M)) J9 U dc U)<|bE 1 U<|rS (CL (q7 rk rka.1 rka.2 sx (by exact mT C _ (aQ AB))) (ax (show iH _ (rd rka.1 rk.length 1 (rk.map iC)).holds from (fun w hw=>(dj 1 U pj) w hw _ (bP AB AA (by simp [C_]))))<|aN) U)<|rP 1 [] I ?_
  refine RK k<|cw U (bg fun S=>?_) (bf fun S=>?_)
  ·exact absurd (z5 G B.2 C D AB (aQ KV)) S
  refine cg<|aO<|KK g<|aw<|rP 2 [] I ?_
  refine aK ?_
  have Wf:(vI (((i+1):Nat):Int))=(vI ((i:Int)+1)):=by exact cI om
  refine a_ (Vs ⟨(i+1),(by first|omega|(simp only []; omega))⟩ _ _ _ U os (cK 15<|bj U Wf<|dv.nil _) (aP [0,1,2,3,4,5,6,7,8,9,10,11,12,13,14,15,16,17,18,19,20,21,22,23,24,25,26,27,28,29,30,31,32,33,34,35,36,37,38,39,40,41,42,43,44,45,46,47,48]))
 refine WS fun _ R9=>e9 4 [] (mc 37 U I) U<|RK R9<|WS fun _ XK=>rP 2 [] I ?_
 refine RK XK<|bV U (aU fun Xn=>?_) (aV fun Xn=>?_)
 ·refine cg ?_
  refine a_ (iF (bk U) (aP [0,1,2,3,4,5,6,7,8,9,10,11,12,13,14,15,16,17,18,19,20,21,22,23,24,25,26,27,28,29,30,31,32,33,34,35,37,38,39,40,41,42,43,44,45,46,47,48,36]) (T9 ⟨0,(by first|omega|(dsimp only; omega))⟩))
 refine aw<|rP 4 [] (mc 37 U I) ?_
 obtain ⟨lp,XV⟩:=aM j.ao (j.ao.length-1) om
 have XW:=bO aJ.cells XV
 refine rS (IA (j.ao.length-1) U (aG 48 U) yq dc om om) ?_
 have YU:=(S1.gU _ _ XV).id
 refine rS (o1 ((j.ao.length-1)*5) U (aG 48 U) (Nat.mul_pos om dc) fK U)<|rS (gQ (j.ao.length-1) 0 (vI lp.Id) U cq (aG 48 U) XW U dc U)<|rP 2 [] I ?_
 refine hE (vs:=[(vI (lp.Id+1))]) (cs':=(aJ.cells (aJ.mk (lp.Id+1) more.eO more.fj more.ew more.At))) (C':=[_,_,_,_,_,_,_,_,_,_,_,_,_,_,_,_,_,_,_,_,_,_,_,_,_,_,_,_,_,_,_,_,_,_,_,_,(cx b3 47 (aJ.cells (aJ.mk (lp.Id+1) more.eO more.fj more.ew more.At))),_,_,_,_,_,_,_,_,_,_,_,_]) 36 U U U AR U U U U U U U<|aK ?_
 refine a_ (iF (bk U) (aP [0,1,2,3,4,5,6,7,8,9,10,11,12,13,14,15,16,17,18,19,20,21,22,23,24,25,26,27,28,29,30,31,32,33,34,35,37,38,39,40,41,42,43,44,45,46,47,48,36]) (T9 ⟨(lp.Id+1),(by first|omega|(dsimp only; omega))⟩))
end
section
open Go.RowKit
def fM {α:Type} (cells:α→List Value) (sz:Nat) (R:World→α→Prop) (w:World) (s:bx):Prop:= ∃ l:List α,s.n=l.length∧(rd s.a l.length sz (l.map cells)).holds w∧(∀ x∈l,R w x)∧l.length≤maxLen∧s.n≤s.c
theorem vK {w:World} {R:World→cQ→Prop}: ∀ {l:List dy},(∀ x∈l,fM cQ.cells 3 R w x.bI)→ ∃ (ms:List ay) (az:List RA),l.map dy.cells=List.zipWith ay.cells ms az∧ms.length=l.length∧az.length=l.length∧(∀ X∈bo ay.gn ms az,X.holds w)∧
 (∀ (k:Nat) m (a:RA),ms[k]? =some m→az[k]? =some a→m.bI.length≤a.2∧m.bI.length≤9223372036854775807)∧ms.map (fun m=>m.dF)=l.map (fun x=>x.dF)∧ ∀ (k:Nat) m y,ms[k]? =some m→y∈m.bI→R w y
 |[],_=>⟨[],[],rfl,rfl,rfl,(fun X hX=>by cases hX),(fun k m a h=>by simp at h),rfl,(fun k m y h=>by simp at h)⟩
 |x::l,h=>by
  obtain ⟨ms,az,E,F,G,H,AA,J,K⟩:=vK (fun y hy=>h y (dR _ hy))
  obtain ⟨sy,A,B,C,D,L⟩:=h x sm
  have e4':sy.length≤9223372036854775807:=D
  refine ⟨⟨x.dF,sy⟩::ms,(x.bI.a,x.bI.c)::az,?_,by simp [F],by simp [G],fun X hX=>?_,fun k m a hm ha=>?_,by simp [J],fun k m y hm hy=>?_⟩
  ·obtain ⟨dr,⟨a,n,c⟩⟩:=x
   simp only at A
   subst A
   simp only [List.map_cons,List.zipWith_cons_cons,E]
   rfl
  ·rcases gI.1 hX with hX|hX
   ·simp only [ay.gn,cu] at hX
    subst hX; exact B
   ·exact H X hX
  ·cases k with
   |zero=>
    simp only [List.getElem?_cons_zero,Option.some.injEq] at hm ha
    subst hm ha
    exact ⟨by simp only; omega,e4'⟩
   |succ k=>exact AA k m a (by simpa using hm) (by simpa using ha)
  ·cases k with
   |zero=>
    simp only [List.getElem?_cons_zero,Option.some.injEq] at hm
    subst hm
    exact C y hy
   |succ k=>exact K k m y (by simpa using hm) hy
theorem G5 {w:World} {s:ct} {R1:World→au→Prop} {R2:World→dy→Prop} {R3:World→bK→Prop} {R4:World→cQ→Prop} (h1:fM au.cells 9 R1 w s.aS.ks) (hs: ∀ x,R1 w x→0≤x.jm∧x.jm≤255) (h2:fM dy.cells 2 R2 w s.aj) (hc: ∀ x,R2 w x→fM cQ.cells 3 R4 w x.bI) (h3:fM bK.cells 4 R3 w s.aa):
 ∃ (l:br) (az:List RA) (kA:OA) (kC:Nat) (cA:OA) (cC:Nat) (bA:OA) (bC:Nat),s=ct.mk (bM.mk (bx.mk kA l.aS.length kC)) l.hG (bx.mk cA l.aj.length cC) (bx.mk bA l.aa.length bC) l.cf l.e8 l.di∧s9 l az∧
  ((rd kA l.aS.length 9 (l.aS.map au.cells)).holds w∧(rd cA l.aj.length 2 (List.zipWith ay.cells l.aj az)).holds w∧(dU (bo ay.gn l.aj az)).holds w∧(rd bA l.aa.length 4 (l.aa.map bK.cells)).holds w)∧l.hG=s.hG∧l.cf=s.cf∧l.e8=s.e8∧l.di=s.di:=by
 obtain ⟨⟨⟨ka,kn,kc⟩⟩,fa,⟨ca,cn,cc⟩,⟨ba,bn,bc⟩,fi,fk,mi⟩:=s
 obtain ⟨ts,E,M,N,O,T⟩:=h1
 obtain ⟨cs,B,C,H,AA,R⟩:=h2
 obtain ⟨bs,A,F,P,G,Q⟩:=h3
 simp only at E B A
 subst E B A
 obtain ⟨ms,az,J,D,S,K,L,_⟩:=vK (fun x hx=>hc x (H x hx))
 have t4':ts.length≤9223372036854775807:=O
 have c4':cs.length≤9223372036854775807:=AA
 have b4':bs.length≤9223372036854775807:=G
 refine ⟨⟨ts,fa,ms,bs,fi,fk,mi⟩,az,ka,kc,ca,cc,ba,bc,by simp only [D],⟨t4',fun x hx=>hs x (N x hx),by simp only; omega,by simp only; omega,b4',L⟩,⟨M,?_,K,F⟩,U,U,U,U⟩
 simp only at C ⊢
 rw [D,← J]; exact C
end
section
open Go.RowKit
theorem wP {w:World} {R:World→aI→Prop}: ∀ {l:List aR},(∀ x∈l,fM aI.cells 2 R w x.bD.ag)→ ∃ (ms:List aC) (az:List RA),l.map aR.cells=List.zipWith aC.cells ms az∧ms.length=l.length∧az.length=l.length∧(∀ X∈bo aC.gn ms az,X.holds w)∧
 ∀ d∈ms,d.bD.ag.length≤9223372036854775807
 |[],_=>⟨[],[],rfl,rfl,rfl,(fun X hX=>by cases hX),fun d h=>by cases h⟩
 |x::l,h=>by
  obtain ⟨ms,az,D,E,F,G,H⟩:=wP (fun y hy=>h y (dR _ hy))
  obtain ⟨sg,A,B,AA,C,J⟩:=h x sm
  have e4':sg.length≤9223372036854775807:=C
  refine ⟨⟨x.Out,x.dB,x.Time,⟨x.bD.Start,x.bD.gf,sg⟩⟩::ms,(x.bD.ag.a,x.bD.ag.c)::az,?_,by simp [E],by simp [F],fun X hX=>?_,fun d hd=>?_⟩
  ·obtain ⟨o,f,t,⟨st,nw,⟨a,n,c⟩⟩⟩:=x
   simp only at A
   subst A
   simp only [List.map_cons,List.zipWith_cons_cons,D]
   rfl
  ·rcases gI.1 hX with hX|hX
   ·simp only [aC.gn,cu] at hX
    subst hX; exact B
   ·exact G X hX
  ·rcases bW.1 hd with rfl|hd
   ·exact e4'
   ·exact H d hd
theorem xV {w:World} {R2:World→aR→Prop} {R:World→aI→Prop} (hc: ∀ x,R2 w x→fM aI.cells 2 R w x.bD.ag): ∀ {l:List bx},(∀ x∈l,fM aR.cells 7 R2 w x)→ ∃ (ms:List (List aC)) (ha:List cZ),(l.map fun s=>[vS s.a s.n s.c])=List.zipWith cP ms ha∧ms.length=l.length∧ha.length=l.length∧(∀ X∈bo fg ms ha,X.holds w)∧
 ∀ (k:Nat) h (a:cZ),ms[k]? =some h→ha[k]? =some a→h.length≤9223372036854775807∧a.2.length=h.length∧ ∀ d∈h,d.bD.ag.length≤9223372036854775807
 |[],_=>⟨[],[],rfl,rfl,rfl,(fun X hX=>by cases hX),(fun k h a q=>by simp at q)⟩
 |x::l,h=>by
  obtain ⟨ms,ha,J,K,L,M,N⟩:=xV hc (fun y hy=>h y (dR _ hy))
  obtain ⟨ds,C,G,H,AA,P⟩:=h x sm
  obtain ⟨dm,az,D,B,O,E,F⟩:=wP fun y hy=>hc y (H y hy)
  have e4':ds.length≤9223372036854775807:=AA
  refine ⟨dm::ms,((x.a,x.c),az)::ha,?_,by simp [K],by simp [L],fun X hX=>?_,fun k m a hm A=>?_⟩
  ·obtain ⟨a,n,c⟩:=x
   simp only at C
   subst C
   simp only [List.map_cons,List.zipWith_cons_cons,J,cP,B]
  ·rcases gI.1 hX with hX|hX
   ·unfold fg at hX
    rcases bW.1 hX with rfl|hX
    ·simp only
     rw [B,← D]; exact G
    ·exact E X hX
   ·exact M X hX
  ·cases k with
   |zero=>
    simp only [List.getElem?_cons_zero,Option.some.injEq] at hm A
    subst hm A
    exact ⟨om,by simp only; omega,F⟩
   |succ k=>exact N k m a (by simpa using hm) (by simpa using A)
theorem GC {w:World} {s:er} {R1:World→au→Prop} {R2:World→dy→Prop} {R3:World→bK→Prop} {R4:World→cQ→Prop} {R5:World→Int→Prop} {R6:World→bx→Prop} {R7:World→aR→Prop} {R8:World→aI→Prop}
 (h1:fM au.cells 9 R1 w s.ar.aS.ks) (hs: ∀ x,R1 w x→0≤x.jm∧x.jm≤255) (h2:fM dy.cells 2 R2 w s.ar.aj) (hc: ∀ x,R2 w x→fM cQ.cells 3 R4 w x.bI) (h3:fM bK.cells 4 R3 w s.ar.aa)
 (h4:fM iC 1 R5 w s.aY) (h5:fM iC 1 R5 w s.cd) (h6:fM (fun s=>[vS s.a s.n s.c]) 1 R6 w s.aD) (h7: ∀ x,R6 w x→fM aR.cells 7 R7 w x) (h8: ∀ x,R7 w x→fM aI.cells 2 R8 w x.bD.ag):
 ∃ (r:e7) (az:List RA) (ha:List cZ) (kA:OA) (kC:Nat) (cA:OA) (cC:Nat) (bA:OA) (bC:Nat) (slA:OA) (slC:Nat) (drA:OA) (drC:Nat) (heA:OA) (heC:Nat),
  s=er.mk (ct.mk (bM.mk (bx.mk kA r.ar.aS.length kC)) r.ar.hG (bx.mk cA r.ar.aj.length cC) (bx.mk bA r.ar.aa.length bC) r.ar.cf r.ar.e8 r.ar.di) (bx.mk slA r.aY.length slC) (bx.mk drA r.cd.length drC) r.j2 (bx.mk heA r.aD.length heC)∧rL r az ha∧
  ((rd kA r.ar.aS.length 9 (r.ar.aS.map au.cells)).holds w∧(rd cA r.ar.aj.length 2 (List.zipWith ay.cells r.ar.aj az)).holds w∧(dU (bo ay.gn r.ar.aj az)).holds w∧(rd bA r.ar.aa.length 4 (r.ar.aa.map bK.cells)).holds w∧
   (rd slA r.aY.length 1 (r.aY.map iC)).holds w∧(rd drA r.cd.length 1 (r.cd.map iC)).holds w∧(rd heA r.aD.length 1 (List.zipWith cP r.aD ha)).holds w∧(dU (bo fg r.aD ha)).holds w):=by
 obtain ⟨ln,⟨sa,sn,sc⟩,⟨da,dn,dc⟩,tu,⟨ea,en,ec⟩⟩:=s
 obtain ⟨l,az,kA,kC,cA,cC,bA,bC,e,A,hh,_⟩:=G5 (s:=ln) h1 hs h2 hc h3
 subst e
 obtain ⟨sl,F,N,T,O,AA⟩:=h4
 obtain ⟨dr,B,G,P,H,Q⟩:=h5
 obtain ⟨he,D,E,L,M,S⟩:=h6
 obtain ⟨ms,ha,AB,C,R,J,K⟩:=xV h8 (fun x hx=>h7 x (L x hx))
 simp only at F B D
 subst F B D
 have s4':sl.length≤9223372036854775807:=O
 have d4':dr.length≤9223372036854775807:=H
 have q4':he.length≤9223372036854775807:=M
 refine ⟨⟨l,sl,dr,tu,ms⟩,az,ha,kA,kC,cA,cC,bA,bC,sa,sc,da,dc,ea,ec,by simp only [C],⟨A,s4',d4',by simp only; omega,by simp only; omega,K⟩,hh.1,hh.2.1,hh.2.2.1,hh.2.2.2,N,G,?_,J⟩
 simp only at E ⊢
 rw [C,← AB]; exact E
end
section
open Go.RowKit
theorem Gu {w:World} {s:du} {R1:World→au→Prop} {R2:World→dy→Prop} {R3:World→bK→Prop} {R4:World→cQ→Prop} {R5:World→Int→Prop} {R6:World→bx→Prop} {R7:World→aR→Prop} {R8:World→aI→Prop} {R9:World→aW→Prop} {R10:World→aJ→Prop}
 (h1:fM au.cells 9 R1 w s.Race.ar.aS.ks) (hs: ∀ x,R1 w x→0≤x.jm∧x.jm≤255) (h2:fM dy.cells 2 R2 w s.Race.ar.aj) (hc: ∀ x,R2 w x→fM cQ.cells 3 R4 w x.bI) (h3:fM bK.cells 4 R3 w s.Race.ar.aa)
 (h4:fM iC 1 R5 w s.Race.aY) (h5:fM iC 1 R5 w s.Race.cd) (h6:fM (fun s=>[vS s.a s.n s.c]) 1 R6 w s.Race.aD) (h7: ∀ x,R6 w x→fM aR.cells 7 R7 w x) (h8: ∀ x,R7 w x→fM aI.cells 2 R8 w x.bD.ag)
 (h9:fM aW.cells 4 R9 w s.aA) (hk: ∀ x,R9 w x→0≤x.Kind∧x.Kind≤255) (h10:fM aJ.cells 5 R10 w s.ao):
 ∃ (j:bS) (az:List RA) (ha:List cZ) (kA:OA) (kC:Nat) (cA:OA) (cC:Nat) (bA:OA) (bC:Nat) (slA:OA) (slC:Nat) (drA:OA) (drC:Nat) (heA:OA) (heC:Nat) (faA:OA) (faC:Nat) (prA:OA) (prC:Nat),
  s=du.mk (er.mk (ct.mk (bM.mk (bx.mk kA j.Race.ar.aS.length kC)) j.Race.ar.hG (bx.mk cA j.Race.ar.aj.length cC) (bx.mk bA j.Race.ar.aa.length bC) j.Race.ar.cf j.Race.ar.e8 j.Race.ar.di) (bx.mk slA j.Race.aY.length slC) (bx.mk drA j.Race.cd.length drC) j.Race.j2 (bx.mk heA j.Race.aD.length heC)) (bx.mk faA j.aA.length faC) (bx.mk prA j.ao.length prC) j.bJ j.kU∧mA j az ha∧
  ((rd kA j.Race.ar.aS.length 9 (j.Race.ar.aS.map au.cells)).holds w∧(rd cA j.Race.ar.aj.length 2 (List.zipWith ay.cells j.Race.ar.aj az)).holds w∧(dU (bo ay.gn j.Race.ar.aj az)).holds w∧(rd bA j.Race.ar.aa.length 4 (j.Race.ar.aa.map bK.cells)).holds w∧
   (rd slA j.Race.aY.length 1 (j.Race.aY.map iC)).holds w∧(rd drA j.Race.cd.length 1 (j.Race.cd.map iC)).holds w∧(rd heA j.Race.aD.length 1 (List.zipWith cP j.Race.aD ha)).holds w∧(dU (bo fg j.Race.aD ha)).holds w∧
   (rd faA j.aA.length 4 (j.aA.map aW.cells)).holds w∧(rd prA j.ao.length 5 (j.ao.map aJ.cells)).holds w):=by
 obtain ⟨rc,⟨fa,fn,fc⟩,⟨pa,pn,pc⟩,mi,fe⟩:=s
 obtain ⟨r,az,ha,kA,kC,cA,cC,bA,bC,slA,slC,drA,drC,heA,heC,e,A,hm⟩:=GC (s:=rc) h1 hs h2 hc h3 h4 h5 h6 h7 h8
 subst e
 obtain ⟨fl,B,D,E,F,AA⟩:=h9
 obtain ⟨pr,C,G,J,H,K⟩:=h10
 simp only at B C
 subst B C
 have f4':fl.length≤9223372036854775807:=F
 have p4':pr.length≤9223372036854775807:=H
 exact ⟨⟨r,fl,pr,mi,fe⟩,az,ha,kA,kC,cA,cC,bA,bC,slA,slC,drA,drC,heA,heC,fa,fc,pa,pc,U,⟨A,f4',p4',fun f hf=>hk f (E f hf)⟩,hm.1,hm.2.1,hm.2.2.1,hm.2.2.2.1,hm.2.2.2.2.1,hm.2.2.2.2.2.1,hm.2.2.2.2.2.2.1,hm.2.2.2.2.2.2.2,D,G⟩
end
section
open Go.ChangeShapes Go.WideShapes Go.ChangeAt Go.RowKit
theorem TS:Tryz.prog.cellsOf 36=15:=by kernel_rfl
theorem Sb:Tryz.prog.cellsOf 32=11:=by kernel_rfl
theorem Tl:Tryz.prog.cellsOf 28=7:=by kernel_rfl
theorem RB:Tryz.prog.cellsOf 24=1:=by kernel_rfl
theorem Uf:Tryz.prog.cellsOf 22=1:=by kernel_rfl
theorem N6:Tryz.prog.cellsOf 118=9:=by kernel_rfl
theorem uD:Tryz.prog.cellsOf 3=1:=by kernel_rfl
def s7 (w:World) (n:Int):Prop:=qR n
theorem uC:rl Tryz.prog 3 Int iC s7:=OL sr
theorem Db:Tryz.prog.cellsOf 53=2:=by kernel_rfl
structure Ed (w:World) (s:ai):Prop where
 Lo:s7 w s.Lo
 Hi:s7 w s.Hi
theorem Ul:fL Tryz.prog 53=some [(3,0),(3,1)]:=by kernel_rfl
theorem F0:rl Tryz.prog 53 ai ai.cells Ed:=fun {H} enc w base sp A fuel cs x h=>by
 obtain ⟨hl,hp⟩:=iL Ul h
 obtain ⟨M,O,F⟩:=hp 0 3 0 rfl
 obtain ⟨K,B,AA⟩:=uC _ _ _ _ _ _ _ _ F
 obtain ⟨N,P,G⟩:=hp 1 3 1 rfl
 obtain ⟨L,C,J⟩:=uC _ _ _ _ _ _ _ _ G
 refine ⟨⟨K,L⟩,?_,⟨AA,J⟩⟩
 have E:=gr (hl.trans Db) (by rw [uD]) C
 have D:=cJ B (m:=1) (by rw [uD]) E
 exact D
theorem VF:Tryz.prog.cellsOf 5=1:=by kernel_rfl
def U4 (w:World) (n:Int):Prop:=0≤n∧n≤255
theorem VM:rl Tryz.prog 5 Int KM U4:=Ru Mm
structure H4 (w:World) (s:au):Prop where
 Id:s7 w s.Id
 kJ:Ed w s.kJ
 l0:Ed w s.l0
 eM:Ed w s.eM
 jm:U4 w s.jm
 AN:s7 w s.AN
theorem Te:fL Tryz.prog 118=some [(3,0),(53,1),(53,3),(53,5),(5,7),(3,8)]:=by kernel_rfl
theorem QQ:rl Tryz.prog 118 au au.cells H4:=fun {H} enc w base sp A fuel cs x h=>by
 obtain ⟨hl,hp⟩:=iL Te h
 obtain ⟨g,o,O⟩:=hp 0 3 0 rfl
 obtain ⟨a,B,AA⟩:=uC _ _ _ _ _ _ _ _ O
 obtain ⟨i,p,P⟩:=hp 1 53 1 rfl
 obtain ⟨b,C,V⟩:=F0 _ _ _ _ _ _ _ _ P
 obtain ⟨j,q,Q⟩:=hp 2 53 3 rfl
 obtain ⟨c,D,W⟩:=F0 _ _ _ _ _ _ _ _ Q
 obtain ⟨k,r,R⟩:=hp 3 53 5 rfl
 obtain ⟨d,E,X⟩:=F0 _ _ _ _ _ _ _ _ R
 obtain ⟨l,s,S⟩:=hp 4 5 7 rfl
 obtain ⟨e,F,Y⟩:=VM _ _ _ _ _ _ _ _ S
 obtain ⟨n,t,T⟩:=hp 5 3 8 rfl
 obtain ⟨f,G,Z⟩:=uC _ _ _ _ _ _ _ _ T
 refine ⟨⟨a,b,c,d,e,f⟩,?_,⟨AA,V,W,X,Y,Z⟩⟩
 have N:=gr (hl.trans N6) (by rw [uD]) G
 have M:=cJ F (m:=8) (by rw [VF]) N
 have L:=cJ E (m:=7) (by rw [Db]) M
 have K:=cJ D (m:=5) (by rw [Db]) L
 have J:=cJ C (m:=3) (by rw [Db]) K
 have AB:=cJ B (m:=1) (by rw [uD]) J
 exact AB
def RX (w:World) (s:bx):Prop:= ∃ l:List au,s.n=l.length∧(rd s.a l.length 9 (l.map au.cells)).holds w∧(∀ x∈l,H4 w x)∧l.length≤maxLen∧s.n≤s.c
theorem Uc:rl Tryz.prog 22 bx (fun s=>[vS s.a s.n s.c]) RX:=kM Rz N6 QQ
structure SO (w:World) (s:bM):Prop where
 ks:RX w s.ks
theorem TH:fL Tryz.prog 24=some [(22,0)]:=by kernel_rfl
theorem UC:rl Tryz.prog 24 bM bM.cells SO:=fun {H} enc w base sp A fuel cs x h=>by
 obtain ⟨hl,hp⟩:=iL TH h
 obtain ⟨G,AA,D⟩:=hp 0 22 0 rfl
 obtain ⟨F,B,E⟩:=Uc _ _ _ _ _ _ _ _ D
 refine ⟨⟨F⟩,?_,⟨E⟩⟩
 have C:=gr (hl.trans RB) (by rw [Uf]) B
 exact C
theorem UQ:Tryz.prog.cellsOf 25=1:=by kernel_rfl
theorem RH:Tryz.prog.cellsOf 73=2:=by kernel_rfl
theorem TK:Tryz.prog.cellsOf 71=1:=by kernel_rfl
theorem Sa:Tryz.prog.cellsOf 75=3:=by kernel_rfl
structure Qp (w:World) (s:cQ):Prop where
 At:s7 w s.At
 eJ:Ed w s.eJ
theorem T3:fL Tryz.prog 75=some [(3,0),(53,1)]:=by kernel_rfl
theorem Ud:rl Tryz.prog 75 cQ cQ.cells Qp:=fun {H} enc w base sp A fuel cs x h=>by
 obtain ⟨hl,hp⟩:=iL T3 h
 obtain ⟨M,O,F⟩:=hp 0 3 0 rfl
 obtain ⟨K,B,AA⟩:=uC _ _ _ _ _ _ _ _ F
 obtain ⟨N,P,G⟩:=hp 1 53 1 rfl
 obtain ⟨L,C,J⟩:=F0 _ _ _ _ _ _ _ _ G
 refine ⟨⟨K,L⟩,?_,⟨AA,J⟩⟩
 have E:=gr (hl.trans Sa) (by rw [Db]) C
 have D:=cJ B (m:=1) (by rw [uD]) E
 exact D
def QP (w:World) (s:bx):Prop:= ∃ l:List cQ,s.n=l.length∧(rd s.a l.length 3 (l.map cQ.cells)).holds w∧(∀ x∈l,Qp w x)∧l.length≤maxLen∧s.n≤s.c
theorem TY:rl Tryz.prog 71 bx (fun s=>[vS s.a s.n s.c]) QP:=kM Ux Sa Ud
structure PX (w:World) (s:dy):Prop where
 dF:s7 w s.dF
 bI:QP w s.bI
theorem TV:fL Tryz.prog 73=some [(3,0),(71,1)]:=by kernel_rfl
theorem Uh:rl Tryz.prog 73 dy dy.cells PX:=fun {H} enc w base sp A fuel cs x h=>by
 obtain ⟨hl,hp⟩:=iL TV h
 obtain ⟨M,O,F⟩:=hp 0 3 0 rfl
 obtain ⟨K,B,AA⟩:=uC _ _ _ _ _ _ _ _ F
 obtain ⟨N,P,G⟩:=hp 1 71 1 rfl
 obtain ⟨L,C,J⟩:=TY _ _ _ _ _ _ _ _ G
 refine ⟨⟨K,L⟩,?_,⟨AA,J⟩⟩
 have E:=gr (hl.trans RH) (by rw [TK]) C
 have D:=cJ B (m:=1) (by rw [uD]) E
 exact D
def Tf (w:World) (s:bx):Prop:= ∃ l:List dy,s.n=l.length∧(rd s.a l.length 2 (l.map dy.cells)).holds w∧(∀ x∈l,PX w x)∧l.length≤maxLen∧s.n≤s.c
theorem UZ:rl Tryz.prog 25 bx (fun s=>[vS s.a s.n s.c]) Tf:=kM Vy RH Uh
theorem Vw:Tryz.prog.cellsOf 26=1:=by kernel_rfl
theorem NJ:Tryz.prog.cellsOf 122=4:=by kernel_rfl
theorem Og:Tryz.prog.cellsOf 120=3:=by kernel_rfl
structure NR (w:World) (s:cG):Prop where
 bB:s7 w s.bB
 mU:Ed w s.mU
theorem Sf:fL Tryz.prog 120=some [(3,0),(53,1)]:=by kernel_rfl
theorem RE:rl Tryz.prog 120 cG cG.cells NR:=fun {H} enc w base sp A fuel cs x h=>by
 obtain ⟨hl,hp⟩:=iL Sf h
 obtain ⟨M,O,F⟩:=hp 0 3 0 rfl
 obtain ⟨K,B,AA⟩:=uC _ _ _ _ _ _ _ _ F
 obtain ⟨N,P,G⟩:=hp 1 53 1 rfl
 obtain ⟨L,C,J⟩:=F0 _ _ _ _ _ _ _ _ G
 refine ⟨⟨K,L⟩,?_,⟨AA,J⟩⟩
 have E:=gr (hl.trans Og) (by rw [Db]) C
 have D:=cJ B (m:=1) (by rw [uD]) E
 exact D
structure KN (w:World) (s:bK):Prop where
 mV:NR w s.mV
 kh:s7 w s.kh
theorem RU:fL Tryz.prog 122=some [(120,0),(3,3)]:=by kernel_rfl
theorem QH:rl Tryz.prog 122 bK bK.cells KN:=fun {H} enc w base sp A fuel cs x h=>by
 obtain ⟨hl,hp⟩:=iL RU h
 obtain ⟨M,O,F⟩:=hp 0 120 0 rfl
 obtain ⟨K,B,AA⟩:=RE _ _ _ _ _ _ _ _ F
 obtain ⟨N,P,G⟩:=hp 1 3 3 rfl
 obtain ⟨L,C,J⟩:=uC _ _ _ _ _ _ _ _ G
 refine ⟨⟨K,L⟩,?_,⟨AA,J⟩⟩
 have E:=gr (hl.trans NJ) (by rw [uD]) C
 have D:=cJ B (m:=3) (by rw [Og]) E
 exact D
def QM (w:World) (s:bx):Prop:= ∃ l:List bK,s.n=l.length∧(rd s.a l.length 4 (l.map bK.cells)).holds w∧(∀ x∈l,KN w x)∧l.length≤maxLen∧s.n≤s.c
theorem U2:rl Tryz.prog 26 bx (fun s=>[vS s.a s.n s.c]) QM:=kM OO NJ QH
structure RQ (w:World) (s:ct):Prop where
 aS:SO w s.aS
 hG:s7 w s.hG
 aj:Tf w s.aj
 aa:QM w s.aa
 cf:s7 w s.cf
 e8:s7 w s.e8
 di:s7 w s.di
theorem Uv:fL Tryz.prog 28=some [(24,0),(3,1),(25,2),(26,3),(3,4),(3,5),(3,6)]:=by kernel_rfl
theorem UI:rl Tryz.prog 28 ct ct.cells RQ:=fun {H} enc w base sp A fuel cs x h=>by
 obtain ⟨hl,hp⟩:=iL Uv h
 obtain ⟨n,u,Q⟩:=hp 0 24 0 rfl
 obtain ⟨e,B,X⟩:=UC _ _ _ _ _ _ _ _ Q
 obtain ⟨o,v,R⟩:=hp 1 3 1 rfl
 obtain ⟨f,C,Y⟩:=uC _ _ _ _ _ _ _ _ R
 obtain ⟨p,y,S⟩:=hp 2 25 2 rfl
 obtain ⟨g,D,Z⟩:=UZ _ _ _ _ _ _ _ _ S
 obtain ⟨q,z,T⟩:=hp 3 26 3 rfl
 obtain ⟨i,E,a⟩:=U2 _ _ _ _ _ _ _ _ T
 obtain ⟨r,y4,AA⟩:=hp 4 3 4 rfl
 obtain ⟨j,F,b⟩:=uC _ _ _ _ _ _ _ _ AA
 obtain ⟨s,y5,V⟩:=hp 5 3 5 rfl
 obtain ⟨k,G,c⟩:=uC _ _ _ _ _ _ _ _ V
 obtain ⟨t,y6,W⟩:=hp 6 3 6 rfl
 obtain ⟨l,AB,d⟩:=uC _ _ _ _ _ _ _ _ W
 refine ⟨⟨e,f,g,i,j,k,l⟩,?_,⟨X,Y,Z,a,b,c,d⟩⟩
 have P:=gr (hl.trans Tl) (by rw [uD]) AB
 have O:=cJ G (m:=6) (by rw [uD]) P
 have N:=cJ F (m:=5) (by rw [uD]) O
 have M:=cJ E (m:=4) (by rw [Vw]) N
 have L:=cJ D (m:=3) (by rw [UQ]) M
 have K:=cJ C (m:=2) (by rw [uD]) L
 have J:=cJ B (m:=1) (by rw [RB]) K
 exact J
theorem Tp:Tryz.prog.cellsOf 29=1:=by kernel_rfl
def O7 (w:World) (s:bx):Prop:= ∃ l:List Int,s.n=l.length∧(rd s.a l.length 1 (l.map iC)).holds w∧(∀ x∈l,s7 w x)∧l.length≤maxLen∧s.n≤s.c
theorem SM:rl Tryz.prog 29 bx (fun s=>[vS s.a s.n s.c]) O7:=kM UR uD uC
theorem Ur:Tryz.prog.cellsOf 30=1:=by kernel_rfl
theorem Vm:Tryz.prog.cellsOf 51=1:=by kernel_rfl
theorem Tq:Tryz.prog.cellsOf 58=7:=by kernel_rfl
theorem VH:Tryz.prog.cellsOf 4=1:=by kernel_rfl
def U0 (w:World) (n:Bool):Prop:=True
theorem VR:rl Tryz.prog 4 Bool (fun b=>[vB b]) U0:=Mg VG
theorem S0:Tryz.prog.cellsOf 56=3:=by kernel_rfl
theorem Vn:Tryz.prog.cellsOf 54=1:=by kernel_rfl
theorem Sd:Tryz.prog.cellsOf 78=2:=by kernel_rfl
structure PE (w:World) (s:aI):Prop where
 fI:s7 w s.fI
 Read:s7 w s.Read
theorem Uu:fL Tryz.prog 78=some [(3,0),(3,1)]:=by kernel_rfl
theorem Va:rl Tryz.prog 78 aI aI.cells PE:=fun {H} enc w base sp A fuel cs x h=>by
 obtain ⟨hl,hp⟩:=iL Uu h
 obtain ⟨M,O,F⟩:=hp 0 3 0 rfl
 obtain ⟨K,B,AA⟩:=uC _ _ _ _ _ _ _ _ F
 obtain ⟨N,P,G⟩:=hp 1 3 1 rfl
 obtain ⟨L,C,J⟩:=uC _ _ _ _ _ _ _ _ G
 refine ⟨⟨K,L⟩,?_,⟨AA,J⟩⟩
 have E:=gr (hl.trans Sd) (by rw [uD]) C
 have D:=cJ B (m:=1) (by rw [uD]) E
 exact D
def Sn (w:World) (s:bx):Prop:= ∃ l:List aI,s.n=l.length∧(rd s.a l.length 2 (l.map aI.cells)).holds w∧(∀ x∈l,PE w x)∧l.length≤maxLen∧s.n≤s.c
theorem Vl:rl Tryz.prog 54 bx (fun s=>[vS s.a s.n s.c]) Sn:=kM UY Sd Va
structure Ta (w:World) (s:cN):Prop where
 Start:s7 w s.Start
 gf:s7 w s.gf
 ag:Sn w s.ag
theorem Vh:fL Tryz.prog 56=some [(3,0),(3,1),(54,2)]:=by kernel_rfl
theorem UG:rl Tryz.prog 56 cN cN.cells Ta:=fun {H} enc w base sp A fuel cs x h=>by
 obtain ⟨hl,hp⟩:=iL Vh h
 obtain ⟨R,AA,AB⟩:=hp 0 3 0 rfl
 obtain ⟨O,B,L⟩:=uC _ _ _ _ _ _ _ _ AB
 obtain ⟨S,V,J⟩:=hp 1 3 1 rfl
 obtain ⟨P,C,M⟩:=uC _ _ _ _ _ _ _ _ J
 obtain ⟨T,W,K⟩:=hp 2 54 2 rfl
 obtain ⟨Q,D,N⟩:=Vl _ _ _ _ _ _ _ _ K
 refine ⟨⟨O,P,Q⟩,?_,⟨L,M,N⟩⟩
 have G:=gr (hl.trans S0) (by rw [Vn]) D
 have F:=cJ C (m:=2) (by rw [uD]) G
 have E:=cJ B (m:=1) (by rw [uD]) F
 exact E
structure Pa (w:World) (s:aR):Prop where
 Out:U0 w s.Out
 dB:U0 w s.dB
 Time:Ed w s.Time
 bD:Ta w s.bD
theorem TX:fL Tryz.prog 58=some [(4,0),(4,1),(53,2),(56,4)]:=by kernel_rfl
theorem Vi:rl Tryz.prog 58 aR aR.cells Pa:=fun {H} enc w base sp A fuel cs x h=>by
 obtain ⟨hl,hp⟩:=iL TX h
 obtain ⟨W,a,K⟩:=hp 0 4 0 rfl
 obtain ⟨S,B,O⟩:=VR _ _ _ _ _ _ _ _ K
 obtain ⟨X,b,L⟩:=hp 1 4 1 rfl
 obtain ⟨T,C,P⟩:=VR _ _ _ _ _ _ _ _ L
 obtain ⟨Y,c,M⟩:=hp 2 53 2 rfl
 obtain ⟨AA,D,Q⟩:=F0 _ _ _ _ _ _ _ _ M
 obtain ⟨Z,d,N⟩:=hp 3 56 4 rfl
 obtain ⟨V,E,R⟩:=UG _ _ _ _ _ _ _ _ N
 refine ⟨⟨S,T,AA,V⟩,?_,⟨O,P,Q,R⟩⟩
 have J:=gr (hl.trans Tq) (by rw [S0]) E
 have AB:=cJ D (m:=4) (by rw [Db]) J
 have G:=cJ C (m:=2) (by rw [VH]) AB
 have F:=cJ B (m:=1) (by rw [VH]) G
 exact F
def Qg (w:World) (s:bx):Prop:= ∃ l:List aR,s.n=l.length∧(rd s.a l.length 7 (l.map aR.cells)).holds w∧(∀ x∈l,Pa w x)∧l.length≤maxLen∧s.n≤s.c
theorem Ue:rl Tryz.prog 51 bx (fun s=>[vS s.a s.n s.c]) Qg:=kM TZ Tq Vi
def Ri (w:World) (s:bx):Prop:= ∃ l:List bx,s.n=l.length∧(rd s.a l.length 1 (l.map (fun s=>[vS s.a s.n s.c]))).holds w∧(∀ x∈l,Qg w x)∧l.length≤maxLen∧s.n≤s.c
theorem Uz:rl Tryz.prog 30 bx (fun s=>[vS s.a s.n s.c]) Ri:=kM Ua Vm Ue
structure S4 (w:World) (s:er):Prop where
 ar:RQ w s.ar
 aY:O7 w s.aY
 cd:O7 w s.cd
 j2:s7 w s.j2
 aD:Ri w s.aD
theorem UB:fL Tryz.prog 32=some [(28,0),(29,7),(29,8),(3,9),(30,10)]:=by kernel_rfl
theorem TU:rl Tryz.prog 32 er er.cells S4:=fun {H} enc w base sp A fuel cs x h=>by
 obtain ⟨hl,hp⟩:=iL UB h
 obtain ⟨b,g,M⟩:=hp 0 28 0 rfl
 obtain ⟨W,B,R⟩:=UI _ _ _ _ _ _ _ _ M
 obtain ⟨c,i,N⟩:=hp 1 29 7 rfl
 obtain ⟨X,C,S⟩:=SM _ _ _ _ _ _ _ _ N
 obtain ⟨d,j,O⟩:=hp 2 29 8 rfl
 obtain ⟨Y,D,T⟩:=SM _ _ _ _ _ _ _ _ O
 obtain ⟨e,k,P⟩:=hp 3 3 9 rfl
 obtain ⟨Z,E,AA⟩:=uC _ _ _ _ _ _ _ _ P
 obtain ⟨f,l,Q⟩:=hp 4 30 10 rfl
 obtain ⟨a,F,V⟩:=Uz _ _ _ _ _ _ _ _ Q
 refine ⟨⟨W,X,Y,Z,a⟩,?_,⟨R,S,T,AA,V⟩⟩
 have L:=gr (hl.trans Sb) (by rw [Ur]) F
 have K:=cJ E (m:=10) (by rw [uD]) L
 have J:=cJ D (m:=9) (by rw [Tp]) K
 have AB:=cJ C (m:=8) (by rw [Tp]) J
 have G:=cJ B (m:=7) (by rw [Tl]) AB
 exact G
theorem UA:Tryz.prog.cellsOf 33=1:=by kernel_rfl
theorem Rs:Tryz.prog.cellsOf 80=4:=by kernel_rfl
structure Ov (w:World) (s:aW):Prop where
 Kind:U4 w s.Kind
 ig:s7 w s.ig
 mE:s7 w s.mE
 To:s7 w s.To
theorem Up:fL Tryz.prog 80=some [(5,0),(3,1),(3,2),(3,3)]:=by kernel_rfl
theorem UH:rl Tryz.prog 80 aW aW.cells Ov:=fun {H} enc w base sp A fuel cs x h=>by
 obtain ⟨hl,hp⟩:=iL Up h
 obtain ⟨W,a,K⟩:=hp 0 5 0 rfl
 obtain ⟨S,B,O⟩:=VM _ _ _ _ _ _ _ _ K
 obtain ⟨X,b,L⟩:=hp 1 3 1 rfl
 obtain ⟨T,C,P⟩:=uC _ _ _ _ _ _ _ _ L
 obtain ⟨Y,c,M⟩:=hp 2 3 2 rfl
 obtain ⟨AA,D,Q⟩:=uC _ _ _ _ _ _ _ _ M
 obtain ⟨Z,d,N⟩:=hp 3 3 3 rfl
 obtain ⟨V,E,R⟩:=uC _ _ _ _ _ _ _ _ N
 refine ⟨⟨S,T,AA,V⟩,?_,⟨O,P,Q,R⟩⟩
 have J:=gr (hl.trans Rs) (by rw [uD]) E
 have AB:=cJ D (m:=3) (by rw [uD]) J
 have G:=cJ C (m:=2) (by rw [uD]) AB
 have F:=cJ B (m:=1) (by rw [VF]) G
 exact F
def QJ (w:World) (s:bx):Prop:= ∃ l:List aW,s.n=l.length∧(rd s.a l.length 4 (l.map aW.cells)).holds w∧(∀ x∈l,Ov w x)∧l.length≤maxLen∧s.n≤s.c
theorem VC:rl Tryz.prog 33 bx (fun s=>[vS s.a s.n s.c]) QJ:=kM U3 Rs UH
theorem VA:Tryz.prog.cellsOf 34=1:=by kernel_rfl
theorem RV:Tryz.prog.cellsOf 47=5:=by kernel_rfl
structure P8 (w:World) (s:aJ):Prop where
 Id:s7 w s.Id
 eO:s7 w s.eO
 fj:s7 w s.fj
 ew:s7 w s.ew
 At:s7 w s.At
theorem RO:fL Tryz.prog 47=some [(3,0),(3,1),(3,2),(3,3),(3,4)]:=by kernel_rfl
theorem QK:rl Tryz.prog 47 aJ aJ.cells P8:=fun {H} enc w base sp A fuel cs x h=>by
 obtain ⟨hl,hp⟩:=iL RO h
 obtain ⟨b,g,M⟩:=hp 0 3 0 rfl
 obtain ⟨W,B,R⟩:=uC _ _ _ _ _ _ _ _ M
 obtain ⟨c,i,N⟩:=hp 1 3 1 rfl
 obtain ⟨X,C,S⟩:=uC _ _ _ _ _ _ _ _ N
 obtain ⟨d,j,O⟩:=hp 2 3 2 rfl
 obtain ⟨Y,D,T⟩:=uC _ _ _ _ _ _ _ _ O
 obtain ⟨e,k,P⟩:=hp 3 3 3 rfl
 obtain ⟨Z,E,AA⟩:=uC _ _ _ _ _ _ _ _ P
 obtain ⟨f,l,Q⟩:=hp 4 3 4 rfl
 obtain ⟨a,F,V⟩:=uC _ _ _ _ _ _ _ _ Q
 refine ⟨⟨W,X,Y,Z,a⟩,?_,⟨R,S,T,AA,V⟩⟩
 have L:=gr (hl.trans RV) (by rw [uD]) F
 have K:=cJ E (m:=4) (by rw [uD]) L
 have J:=cJ D (m:=3) (by rw [uD]) K
 have AB:=cJ C (m:=2) (by rw [uD]) J
 have G:=cJ B (m:=1) (by rw [uD]) AB
 exact G
def SZ (w:World) (s:bx):Prop:= ∃ l:List aJ,s.n=l.length∧(rd s.a l.length 5 (l.map aJ.cells)).holds w∧(∀ x∈l,P8 w x)∧l.length≤maxLen∧s.n≤s.c
theorem UM:rl Tryz.prog 34 bx (fun s=>[vS s.a s.n s.c]) SZ:=kM UJ RV QK
structure TW (w:World) (s:du):Prop where
 Race:S4 w s.Race
 aA:QJ w s.aA
 ao:SZ w s.ao
 bJ:s7 w s.bJ
 kU:s7 w s.kU
theorem S8:fL Tryz.prog 36=some [(32,0),(33,11),(34,12),(3,13),(3,14)]:=by kernel_rfl
theorem UT:rl Tryz.prog 36 du du.cells TW:=fun {H} enc w base sp A fuel cs x h=>by
 obtain ⟨hl,hp⟩:=iL S8 h
 obtain ⟨b,g,M⟩:=hp 0 32 0 rfl
 obtain ⟨W,B,R⟩:=TU _ _ _ _ _ _ _ _ M
 obtain ⟨c,i,N⟩:=hp 1 33 11 rfl
 obtain ⟨X,C,S⟩:=VC _ _ _ _ _ _ _ _ N
 obtain ⟨d,j,O⟩:=hp 2 34 12 rfl
 obtain ⟨Y,D,T⟩:=UM _ _ _ _ _ _ _ _ O
 obtain ⟨e,k,P⟩:=hp 3 3 13 rfl
 obtain ⟨Z,E,AA⟩:=uC _ _ _ _ _ _ _ _ P
 obtain ⟨f,l,Q⟩:=hp 4 3 14 rfl
 obtain ⟨a,F,V⟩:=uC _ _ _ _ _ _ _ _ Q
 refine ⟨⟨W,X,Y,Z,a⟩,?_,⟨R,S,T,AA,V⟩⟩
 have L:=gr (hl.trans TS) (by rw [uD]) F
 have K:=cJ E (m:=14) (by rw [uD]) L
 have J:=cJ D (m:=13) (by rw [VA]) K
 have AB:=cJ C (m:=12) (by rw [UA]) J
 have G:=cJ B (m:=11) (by rw [Sb]) AB
 exact G
theorem AM:ownKnob Tryz.prog.godebug=none:=by kernel_rfl
theorem yA:laidOutB Tryz.prog=true:=by kernel_rfl
theorem wb (os:Os) (started:os.Started) (H:Type) (enc:TypeId×Value→H):
 ReturnsInHanded {} Tryz.checked os 5 .any (fun w args=>(Rows.juryMoreSpec.pre enc Tryz.prog Tryz.f5 [] false w args∧laidMetH Tryz.prog [("kreisel/race.table",Rows.laid_kreisel_race_table)] w)∧sizedMet enc Tryz.prog Tryz.f5 (OpenSpec.ofChange Rows.juryMoreSpec) false w args) (Rows.juryMoreSpec.post enc Tryz.prog Tryz.f5 false true false false):=by
 refine returnsInHanded_of_change_and (C:=Tryz.checked) (X:=(fun w _=>laidMetH Tryz.prog [("kreisel/race.table",Rows.laid_kreisel_race_table)] w)) (fun _ _ _ hh h=>h.of_heap hh) AM started kr Tryz.func5
  (ChangeSpec.witness_shaped (enc:=enc) (C:=Tryz.checked) (os:=os) (X:=(fun w _=>laidMetH Tryz.prog [("kreisel/race.table",Rows.laid_kreisel_race_table)] w)) false (World.doorLaid Tryz.prog 400 os) #[.agg #[(vS none 0 0),(vI 0),(vS none 0 0),(vS none 0 0),(vI 0),(vI 0),(vI 0),(vS none 0 0),(vS none 0 0),(vI 0),(vS none 0 0),(vS none 0 0),(vS none 0 0),(vI 0),(vI 0)],Value.int .u8 0,.agg #[(vI 0),(vI 0),(vI 0),(vI 0),(vI 0)],Value.int .u32 0] 8 rfl (World.shaped_of_RefB kr kr) kr kr kr (Ei os _)) ?_
 intro W base args ds gs before E hW _ _ hL _
 have D: ∀ (j:Nat) t v,Tryz.f5.params[j]? =some t→args[j]? =some v→Value.okWide Tryz.prog W .any base t v:=E
 have hW':=hW
 obtain ⟨p,q,K,hV,rfl,f,g⟩:=hW
 have hA:DataW.TrodAll enc Tryz.prog W 0 (fun _=>true) true Tryz.f5.params.toList args.toList ds p:=K
 have F:=hA
 rw [Tryz.params5] at hA D
 obtain ⟨Q,u,d0,AA,p0,q0,L,rfl,rfl,a,i⟩:=trodAll_cons hA
 obtain ⟨R,y,d1,V,p1,q1,rfl,rfl,rfl,b,l⟩:=trodAll_cons i
 obtain ⟨S,z,d2,Y,p2,q2,rfl,rfl,rfl,c,m⟩:=trodAll_cons l
 obtain ⟨T,AC,d3,Z,p3,q3,rfl,rfl,rfl,d,n⟩:=trodAll_cons m
 obtain ⟨rfl,rfl,rfl⟩:=trodAll_nil n
 obtain rfl:args= #[Q,R,S,T]:=by cases args; simp_all
 obtain ⟨rfl,rfl⟩:=trodVars_none hV
 obtain ⟨s0,rfl,R0⟩:=xC S8 UT (D 0 36 Q rfl rfl) a
 obtain ⟨o,rfl,R1⟩:=Fq (k:= .u8) Mm (D 1 5 R rfl rfl) b
 obtain ⟨r,rfl,R2⟩:=xC RO QK (D 2 47 S rfl rfl) c
 obtain ⟨s,rfl,R3⟩:=Fq (k:= .u32) Sw (D 3 65 T rfl rfl) d
 simp only [List.append_nil] at hW' F
 have J:=yB hL
 obtain ⟨j,az,ha,kA,kC,cA,cC,bA,bC,O,P,drA,drC,M,N,faA,faC,prA,prC,rfl,G,B⟩:=Gu (R1:=H4) (R2:=PX) (R3:=KN) (R4:=Qp) (R5:=s7) (R6:=Qg) (R7:=Pa) (R8:=PE) (R9:=Ov) (R10:=P8) R0.Race.ar.aS.ks (fun x hx=>hx.jm) R0.Race.ar.aj (fun x hx=>hx.bI) R0.Race.ar.aa R0.Race.aY R0.Race.cd R0.Race.aD (fun x hx=>hx) (fun x hx=>hx.bD.ag) R0.aA (fun x hx=>hx.Kind) R0.ao
 have AB:=(Da j kA kC az cA cC bA bC O P drA drC ha M N faA faC prA prC o r s G R1 R3).run W (by intro A hA; simp only [bW,List.not_mem_nil,or_false] at hA; rcases hA with rfl|rfl|rfl|rfl|rfl|rfl|rfl|rfl|rfl|rfl|rfl; exact J; exact B.1; exact B.2.1; exact B.2.2.1; exact B.2.2.2.1; exact B.2.2.2.2.1; exact B.2.2.2.2.2.1; exact B.2.2.2.2.2.2.1; exact B.2.2.2.2.2.2.2.1; exact B.2.2.2.2.2.2.2.2.1; exact B.2.2.2.2.2.2.2.2.2)
 refine (AB).mono fun e W' ⟨he,hk⟩=>?_
 subst he
 exact ⟨_,U,I4 yA hW' F U U kr hk.below kr VG⟩
theorem wV:Rows.JuryMoreSaid:=
 OpenClaim.holds_of_wide 5 Tryz.f5 rfl rfl rfl rfl rfl rfl rfl ⟨rfl,rfl,rfl,rfl,rfl⟩ rfl rfl rfl rfl rfl kr Tryz.func5 wc
  (of_decide_eq_true kr) (by unfold Func.isWrapper; first|(rw [if_pos (by decide+kernel)]; kernel_rfl)|(rw [if_neg (by decide+kernel)]; exact ⟨rfl,rfl⟩))
  (fun os started H enc _=>wb os started H enc)
/-- the statement -/
theorem juryMore_said:Rows.JuryMoreCardSaid:=
 Claim7.holds_tied_plain_at .later [] [.funcsDeep] true (true,"d8cf0626f832096ce100a6f7c79f4ede30e4673a60460e9c643b06a90f42f87b") false
  wV (fun _ h=>by cases h) kr (fun _ h=>by cases h) juryMore_row_tie rfl ⟨rfl,rfl⟩ kr rfl
  (fun f fn hf B=>by
   obtain rfl:f=5:=Option.some.inj ((show Tryz.prog.funcNamed "kreisel/kreisellaw07.JuryMore"=some 5 by kernel_rfl).symm.trans hf) |>.symm
   obtain rfl:fn=Tryz.f5:=(Option.some.inj (Tryz.func5.symm.trans B)).symm
   exact ⟨kr,fun j t ht=>by
    rw [Tryz.params5] at ht
    have hm:t∈([36,5,47,65]:List Nat):=by simpa using Array.mem_of_getElem? ht
    have A:(([36,5,47,65]:List Nat).all fun u=> !Tryz.prog.wantsStandIn u)=true:=by kernel_rfl
    exact (show Tryz.prog.wantsStandIn t=false by simpa using de.1 A t hm)⟩)
  kr
#print axioms juryMore_said
end
end Go.Proofs.YtijpnoadncadoaaGreatDoor
