/-
 The statement juryFees_said, part 8 of 8: Y2, Y3, Y5, Rr3, Rr4, Rr5, Rra, Jr2, Jr3, Jz1, Jw8, Jw9, Jwa, Jwb, Jz2, Jz3, Jz4, Jl1, LineOpen, RaceOpen, JOpen, Fees0.
 Conditions: none.
-/
import Derived.Test.YtijpnoadncadoaaGreatDoorTz1
import Derived.Test.YtijpnoadncadoaaGreatDoorTz2
import Derived.Test.YtijpnoadncadoaaGreatDoorTz3
import Derived.Test.YtijpnoadncadoaaGreatDoorTz4
import Derived.Test.YtijpnoadncadoaaGreatDoorTz5
import Derived.Test.YtijpnoadncadoaaGreatDoorTz6
import Derived.Test.YtijpnoadncadoaaGreatDoorTz7
import Derived.Test.YtijpnoadncadoaaGreatDoorCards
import Derived.Test.YtijpnoadncadoaaGreatDoorTie
import Derived.SevenTiedAt
import Derived.LaidMore
import Derived.Stop.Joined
import Derived.Test.YtijpnoadncadoaaGreatDoorRows
import Derived.Test.YtijpnoadncadoaaGreatDoorProg
import Derived.KernelRfl
namespace Go.Proofs.YtijpnoadncadoaaGreatDoor
set_option maxRecDepth 100000
set_option maxHeartbeats 4000000
set_option linter.unusedVariables false
section
open Go.RowKit
theorem GC (l:bj) (kA:OA) (kC:Nat) (az:List RA) (cA:OA) (cC:Nat) (bA:OA) (bC:Nat) (r:cD) (sgA:OA) (sgC:Nat) (vwA:OA) (vwC:Nat) (vtA:OA) (vtC:Nat) (vbA:OA) (vbC k:Nat) (rs:List Int) (rA:OA) (rC:Nat) (fs:List Int) (fA:OA) (fC:Nat) (hin:eH l az) (hle:dI l=0) (hr:eh l r) (hk:rs.length+k=l.aa.length) (hfl:fs.length=rs.length) (hst:r.Start≤gG r.Start fs∧gG r.Start fs≤r.gd) (hrs: ∀ x∈rs,-1≤x∧x<(r.ab.length:Int)) (hrec: ∀ (k2:Nat) (rs2:List Int) (rA2:OA) (rC2:Nat) (fs2:List Int) (fA2:OA) (fC2:Nat),(k2<k)→(rs2.length+k2=l.aa.length)→(fs2.length=rs2.length)→(r.Start≤gG r.Start fs2∧gG r.Start fs2≤r.gd)→(∀ x∈rs2,-1≤x∧x<(r.ab.length:Int))→Kt Tryz.prog 163 [(vA (bT.cells (ki l kA kC cA cC bA bC))),(vA (cU.cells (jE r sgA sgC))),(vA (iU.cells (iU.mk (aR.mk vwA ((cj l l.aa.length).length) vwC) (aR.mk vtA ((eP l r r.ab.length).length) vtC) (aR.mk vbA ((fp l r r.ab.length).length) vbC)))),(vS rA2 rs2.length rC2),(vS fA2 fs2.length fC2)] [(rd kA l.aL.length 9 (l.aL.map au.cells)),(rd cA l.ak.length 2 (List.zipWith ax.cells l.ak az)),(d_ (bw ax.gL l.ak az)),(rd bA l.aa.length 4 (l.aa.map bM.cells)),(rd sgA r.ab.length 2 (r.ab.map aG.cells)),(rd vwA ((cj l l.aa.length).length) 1 ((cj l l.aa.length).map iC)),(rd vtA ((eP l r r.ab.length).length) 2 ((eP l r r.ab.length).map ag.cells)),(rd vbA ((fp l r r.ab.length).length) 1 ((fp l r r.ab.length).map qp))] (cd [own rA2 rC2 3 1 (rs2.map iC),own fA2 fC2 3 1 (fs2.map iC)]) (fun (x:(OA)×Nat×(List kO))=>(vS x.1 ((iG l r k2 rs2 fs2).length) x.2.1)) (fun (x:(OA)×Nat×(List kO))=>x.2.2.length=(iG l r k2 rs2 fs2).length) (fun (x:(OA)×Nat×(List kO))=>(cd (bw dy.owns (iG l r k2 rs2 fs2) x.2.2++[own x.1 x.2.1 255 3 (List.zipWith dy.cells (iG l r k2 rs2 fs2) x.2.2)])))):
 Kt Tryz.prog 163 [(vA (bT.cells (ki l kA kC cA cC bA bC))),(vA (cU.cells (jE r sgA sgC))),(vA (iU.cells (iU.mk (aR.mk vwA ((cj l l.aa.length).length) vwC) (aR.mk vtA ((eP l r r.ab.length).length) vtC) (aR.mk vbA ((fp l r r.ab.length).length) vbC)))),(vS rA rs.length rC),(vS fA fs.length fC)] [(rd kA l.aL.length 9 (l.aL.map au.cells)),(rd cA l.ak.length 2 (List.zipWith ax.cells l.ak az)),(d_ (bw ax.gL l.ak az)),(rd bA l.aa.length 4 (l.aa.map bM.cells)),(rd sgA r.ab.length 2 (r.ab.map aG.cells)),(rd vwA ((cj l l.aa.length).length) 1 ((cj l l.aa.length).map iC)),(rd vtA ((eP l r r.ab.length).length) 2 ((eP l r r.ab.length).map ag.cells)),(rd vbA ((fp l r r.ab.length).length) 1 ((fp l r r.ab.length).map qp))] (cd [own rA rC 3 1 (rs.map iC),own fA fC 3 1 (fs.map iC)]) (fun (x:(OA)×Nat×(List kO))=>(vS x.1 ((iG l r k rs fs).length) x.2.1)) (fun (x:(OA)×Nat×(List kO))=>x.2.2.length=(iG l r k rs fs).length) (fun (x:(OA)×Nat×(List kO))=>(cd (bw dy.owns (iG l r k rs fs) x.2.2++[own x.1 x.2.1 255 3 (List.zipWith dy.cells (iG l r k rs fs) x.2.2)]))):=by
 have R6:=hin.te
 have Qn:=hin.s_
 have Pi:=hin.oY
 have Pl:=hin.s7
 obtain ⟨L3,Go⟩:=dY hle
 have La:=Go.head
 unfold eV at La
 have A0:=hr.len
 have R3:=hr.time
 have R2:=cT (l:=l) (n:=l.aa.length)
 have R7:=rH (l:=l) (Nat.le_refl r.ab.length)
 have R5:=uS (l:=l) (Nat.le_refl r.ab.length)
 have R8:=tf rs
 refine uE kr Tryz.func163 U U fun w0 Q hQ hN=>?_
 try dsimp only
 refine Ch 0 U U fun wz Sz hz=>?_
 try dsimp only
 refine WS fun _ Kz=>eK U fun b2=>eK U fun b3=>eK U fun b4=>bI 1 U<|RK Kz<|WS fun _ K0=>bI 1 U<|RK K0<|WS fun _ K4=>bI 4 U<|RK K4<|ao fun _ K5=>WS fun _ K8=>rP 1 [] mn ?_
 refine RK K8<|aF ?_
 have C:(0≤rs.length):=by exact Nat.zero_le _
 have LE:(vI ((dv (rs.take 0)).right))=(vI 0):=by rfl
 refine bZ (ι:={z:Nat // (z≤rs.length)}) [3,4,5,6,7,11,12] [0,1,2,3,4,5,6,7,8,9,10,11] U U (fun z=>[(13,(vI ((dv (rs.take z.1)).right))),(14,(vI (z.1:Int)))]) (fun z=>[]) (fun _=>rfl) (fun _=>rfl) (fun z=>rs.length-z.1) ⟨0,C⟩ (bk U LE<|bE U) (aU [0,1,2,3,4,5,6,7,8,9,10,11]) ?_
 clear C
 rintro ⟨i,Lk⟩ J10 g
 try dsimp only
 have L0:=tf (rs.take i)
 rw [List.length_take] at L0
 refine ao fun _ A3=>WS fun _ A4=>rP 3 [] mn ?_
 refine RK A4<|cH U (aV fun J7=>?_) (aW fun J7=>?_)
 ·refine WK A3<|ao fun _ h=>aF<|WS fun _ A5=>rP 2 [] mn ?_
  obtain ⟨x,hx⟩:=aM rs i I
  have M2:=bP iC hx
  refine rS (IA i U (show js _ (rd rA rs.length 1 (rs.map iC)).holds from (qa (c:=rC) (e:=3) 3 U sm sm)) dD dc I I)<|rS (iK i 0 (vI x) U cq (show js _ (rd rA rs.length 1 (rs.map iC)).holds from (qa (c:=rC) (e:=3) 3 U sm sm)) M2 U dc U)<|rP 1 [] mn ?_
  refine RK A5<|bV U (aW fun AO=>?_) (aV fun AO=>?_)
  ·refine ct<|aN<|KK h<|av<|rP 3 [] mn ?_
   refine aH ?_
   have Di:(vI ((dv (rs.take (i+1))).right))=(vI ((dv (rs.take i)).right)):=by exact cI (by rw [ti hx]; (rw [if_neg AO]; exact Int.add_zero _))
   have Do:(vI (((i+1):Nat):Int))=(vI ((i:Int)+1)):=by exact cI I
   refine bp (g ⟨(i+1),(by first|omega|(simp only []; omega))⟩ _ _ _ U os (cY 7<|bk U Di<|bk U Do<|dG.nil _) (aU [0,1,2,3,4,5,6,7,8,9,10,11]))
  refine av<|bI 3 U<|aH<|aN<|KK h<|av<|rP 3 [] mn ?_
  refine aH ?_
  have C2:(vI ((dv (rs.take (i+1))).right))=(vI (((dv (rs.take i)).right)+1)):=by exact cI (by rw [ti hx]; (rw [if_pos AO]; done))
  have C3:(vI (((i+1):Nat):Int))=(vI ((i:Int)+1)):=by exact cI I
  refine bp (g ⟨(i+1),(by first|omega|(simp only []; omega))⟩ _ _ _ U os (cY 7<|bk U C2<|bk U C3<|dG.nil _) (aU [0,1,2,3,4,5,6,7,8,9,10,11]))
 refine bQ<|ai<|ai<|aI<|KK K5<|ao fun _ A6=>ao fun _ A7=>?_
 rw [show rs.take i=rs from List.take_of_length_le I]
 refine av<|rP 6 [] (mc 2 U mn) ?_
 refine RK A7<|cH U (aV fun J9=>?_) (aW fun J9=>?_)
 ·refine WS fun _ A8=>lj 255 3<|rP 1 [] mn ?_
  refine RK A8<|ar<|Ah (C1:=[(own none 0 255 3 [])]) hz [0] U U U<|OY (W:=iG l r k rs fs) ?_
  rw [show (own none 0 255 3 [])=(own none 0 255 3 (List.zipWith dy.cells (iG l r k rs fs) [])) from by rw [nT I]; rfl]
  refine LM hQ (none,0,[]) 0 [] mn U (by show List.all _ _=true; rw [List.all_append,pR]; rfl) U ?_ ?_
  ·exact (by rw [nT I]; rfl)
  ·rw [nT I]; rfl
 refine WK A6 ?_
 refine oi (ι:={z:(OA)×Nat×(List kO)×(List aw) // (wY l r rs fs (rA,rC) (fA,fC) z.2.2.1 z.2.2.2)}) [3,4,5,6,7,12] [0,1,2,3,4,5,6,7,8,9,10,11] U U (fun z=>[(11,(vS z.1.1 ((hZ l r rs fs).length) z.1.2.1))]) (fun z=>[(own z.1.1 z.1.2.1 255 3 (List.zipWith dy.cells (hZ l r rs fs) z.1.2.2.1)),(cd z.1.2.2.2)]) (fun _=>rfl) (fun _=>rfl) ?_ fun K23 m=>?_
 ·rintro ⟨⟨oA,oC,E,LA⟩,H⟩
  try dsimp only at H
  try dsimp only
  have D:=H
  have Li:=D.len
  have Qr:=wF (l:=l) (r:=r) (rs:=rs) (fs:=fs)
  refine ao fun _ V=>WS fun _ A9=>rP 4 [] (mc 2 U mn) ?_
  have R9:=uX (l:=l) (r:=r) (rs:=rs) (fs:=fs) A0 (k:=k) I
  refine rP 1 [] mn ?_
  refine RK A9<|cH U (aV fun Ka=>?_) (aW fun Ka=>?_)
  ·refine WS fun _ BF=>bI 1 U<|rP 1 [] mn ?_
   refine RK BF<|ar ?_
   obtain rfl:k=0:=by omega
   refine CP ?_
   try dsimp only
   refine Ah (C1:=[(own oA oC 255 3 (List.zipWith dy.cells (hZ l r rs fs) E)),(cd LA),(cd (bw dy.owns [] []))]) hz [13,14,0] U U (by simp only [fM,List.all_nil,Bool.and_true,dg]; exact ⟨U,D.wr,pR _ _⟩) ?_
   refine HC (ra:=(rA,rC)) (fa:=(fA,fC)) (A':=(own oA oC 255 3 (List.zipWith dy.cells (iG l r 0 rs fs) E))) D ((List.append_nil _).trans (nJ I).symm) (List.append_nil _) (by rw [nJ I]) ?_
   refine LM hQ (oA,oC,E) 0 [] mn U (by show List.all _ _=true; rw [List.all_append,pR]; rfl) U ?_ ?_
   ·exact (by (rw [nJ I]; rfl))
   ·rw [nJ I]; exact Li
  refine WK V<|WS fun _ B3=>?_
  obtain ⟨B,rfl⟩: ∃ B,k=B+1:=⟨k-1,I⟩
  refine rP 3 [] (mc 1 U mn) ?_
  refine RK B3 ?_
  refine oi (ι:=Unit) [3,4,5,6,7,11,12] [0,1,2,3,4,5,6,7,8,9,10,11,12,13] U U (fun z=>[(15,(vI (gG r.Start fs)))]) (fun z=>[]) (fun _=>rfl) (fun _=>rfl) ?_ fun K28 o=>?_
  ·intro _
   try dsimp only
   refine WS fun _ Z=>rP 4 [] (mc 0 U mn) ?_
   obtain ⟨yls,IR⟩:=aM (cj l l.aa.length) (rs.length) I
   have Id:=bP iC IR
   refine rS (IA rs.length U (aA 9 U) dD dc I I)<|rS (iK rs.length 0 (vI yls) U cq (aA 9 U) Id U dc U) ?_
   have R1:=ng L3 Go (i:=rs.length) I
   rw [uW IR]
   refine bI 2 U<|RK Z<|ao fun _ B9=>WS fun _ CM=>rP 1 [] mn ?_
   refine RK CM<|aF ?_
   rw [show (hZ l r rs fs)=((hZ l r rs fs)++(iP l r B rs fs 0)) from (List.append_nil _).symm]
   rw [show E=E++[] from (List.append_nil _).symm]
   refine ru ?_
   try dsimp only
   have C:(0≤r.ab.length+1)∧(([]:List kO).length=(iP l r B rs fs 0).length):=by exact ⟨Nat.zero_le _,rfl⟩
   have d:(vI ((0:Int)-1))=(vI (-1)):=by exact cI I
   refine bZ (ι:={z:Nat×(OA)×Nat×(List kO) // (z.1≤r.ab.length+1)∧(z.2.2.2.length=(iP l r B rs fs z.1).length)}) [3,4,5,6,7,12,15] [1,2,3,4,5,6,7,8,9,10,11,12,14] U U (fun z=>[(11,(vS z.1.2.1 (((hZ l r rs fs)++(iP l r B rs fs z.1.1)).length) z.1.2.2.1)),(16,(vI ((z.1.1:Int)-1)))]) (fun z=>[(cd (bw dy.owns (iP l r B rs fs z.1.1) z.1.2.2.2)),(own z.1.2.1 z.1.2.2.1 255 3 (List.zipWith dy.cells ((hZ l r rs fs)++(iP l r B rs fs z.1.1)) (E++z.1.2.2.2)))]) (fun _=>rfl) (fun _=>rfl) (fun z=>r.ab.length+1-z.1.1) ⟨(0,oA,oC,([]:List kO)),C⟩ (dG.cons U<|bk U d<|dG.nil _) (aU [1,2,3,4,5,6,7,8,9,10,11,12,14,0,13]) ?_
   clear C
   rintro ⟨⟨j,M,N,azW⟩,⟨f,A⟩⟩ J33 O
   try dsimp only at f A
   try dsimp only
   have L2:=JG (l:=l) (r:=r) (k:=B) (j:=j) (rs:=rs) (fs:=fs) A0 I I
   refine ao fun _ Ci=>WS fun _ Ck=>rP 5 [] (mc 1 U mn) ?_
   refine RK Ck<|bV U (aW fun J8=>?_) (aV fun J8=>?_)
   ·refine bQ<|ai<|ai<|aI<|KK B9<|WS fun _ C0=>bI 1 U<|rP 1 [] mn ?_
    refine RK C0<|ar ?_
    refine Ah (C1:=[(own M N 255 3 (List.zipWith dy.cells ((hZ l r rs fs)++(iP l r B rs fs j)) (E++azW))),(cd LA),(cd (bw dy.owns (iP l r B rs fs j) azW))]) hz [14,12,13] U U (by simp only [fM,List.all_nil,Bool.and_true,dg]; exact ⟨U,D.wr,pR _ _⟩) ?_
    refine HC (ra:=(rA,rC)) (fa:=(fA,fC)) (W:=iG l r (B+1) rs fs) (A':=(own M N 255 3 (List.zipWith dy.cells (iG l r (B+1) rs fs) (E++azW)))) D (by rw [n9 I,rR,show r.ab.length+1=j by omega]) U (by rw [n9 I,rR,show r.ab.length+1=j by omega]) ?_
    refine LM hQ (M,N,(E++azW)) 0 [] mn U (by show List.all _ _=true; rw [List.all_append,pR]; rfl) U ?_ ?_
    ·exact (by (rw [n9 I,rR,show r.ab.length+1=j by omega]; rfl))
    ·rw [n9 I,rR,show r.ab.length+1=j by omega]; simp only [List.length_append]; omega
   refine WK Ci<|ao fun _ P=>aF<|ao fun _ Cp=>dw cx 5 kr<|dP 5 [] (mc 1 U mn) ?_
   refine cK<|RK Cp ?_
   refine oi (ι:={z:Int×Int // ((z.1≤z.2→pC l r rs.length (gG r.Start fs+ej l rs.length) ((j:Int)-1)=some z.1)∧(¬ z.1≤z.2→pC l r rs.length (gG r.Start fs+ej l rs.length) ((j:Int)-1)=none))∧(r.Start≤z.1∧z.2≤r.gd)}) [3,4,5,6,7,11,12,15,16] [0,1,2,3,4,5,6,7,8,9,10,11,12,13,14] U U (fun z=>[(17,(vI z.1.1)),(18,(vI z.1.2))]) (fun z=>[]) (fun _=>rfl) (fun _=>rfl) ?_ fun K39 p=>?_
   ·rintro ⟨⟨tt,ee⟩,⟨AB,J⟩⟩
    try dsimp only at AB J
    try dsimp only
    have GT:=AB
    have R0:=J
    refine WS fun _ a=>rP 3 [] mn ?_
    refine RK a<|bV U (aW fun AA=>?_) (aV fun AA=>?_)
    ·refine ct<|aN<|KK P<|av<|rP 3 [] mn ?_
     refine aH ?_
     have L:(iP l r B rs fs (j+1))=(iP l r B rs fs j):=by exact qZ (GT.2 AA)
     rw [← L]
     have F9:(vI ((((j+1):Nat):Int)-1))=(vI (((j:Int)-1)+1)):=by exact cI I
     refine bp (O ⟨((j+1),M,N,azW),⟨I,by dsimp only; (rw [L]; exact A)⟩⟩ _ _ _ U os (cY 8<|bk U F9<|dG.nil _) (aU [0,1,2,3,4,5,6,7,8,9,10,11,12,13,14]))
    refine Nf (L':=[(3,(vS rA rs.length rC)),(4,(vS fA fs.length fC)),(5,(vP b2)),(6,(vP b3)),(7,(vP b4)),(11,(vS M (((hZ l r rs fs)++(iP l r B rs fs j)).length) N)),(12,(vI (rs.length:Int))),(15,(vI ((gG r.Start fs)+(ej l rs.length)))),(16,(vI ((j:Int)-1))),(17,(vI tt)),(18,(vI ee)),(123,(vI tt)),(124,(vI ee)),(125,(vB (decide (tt≤ee))))]) rfl<|mx cx [0,1,2,3,5,7,11,13] [4,6,8,9,10,12,14,15,16,17,18] [false,false,false,false,false,false,false,false] [] [(cw b4 252 (iU.cells (iU.mk (aR.mk vwA ((cj l l.aa.length).length) vwC) (aR.mk vtA ((eP l r r.ab.length).length) vtC) (aR.mk vbA ((fp l r r.ab.length).length) vbC)))),(cw b3 56 (cU.cells (jE r sgA sgC))),(cw b2 28 (bT.cells (ki l kA kC cA cC bA bC))),(cd [own rA rC 3 1 (rs.map iC),own fA fC 3 1 (fs.map iC)]).ro,(rd kA l.aL.length 9 (l.aL.map au.cells)).ro,(rd cA l.ak.length 2 (List.zipWith ax.cells l.ak az)).ro,(d_ (bw ax.gL l.ak az)).ro,(rd bA l.aa.length 4 (l.aa.map bM.cells)).ro,(rd sgA r.ab.length 2 (r.ab.map aG.cells)).ro,(rd vwA ((cj l l.aa.length).length) 1 ((cj l l.aa.length).map iC)).ro,(rd vtA ((eP l r r.ab.length).length) 2 ((eP l r r.ab.length).map ag.cells)).ro,(rd vbA ((fp l r r.ab.length).length) 1 ((fp l r r.ab.length).map qp)).ro,(cd LA),(cd (bw dy.owns (iP l r B rs fs j) azW))] [] kr (aU [0,1,2,3,4,5,6,7,8,9,10,11,12,13]) (aU [])<|eS rfl (MV rfl)<|eS rfl (LW 2 rfl cq rfl rfl)<|eS rfl (LW 1 rfl cq rfl rfl)<|eS rfl (LW 0 rfl cq rfl rfl)<|eS rfl (MV rfl)<|eS rfl (MV rfl)<|eS rfl (MV rfl)<|eS rfl (MV rfl)<|eJ rfl<|D_ [.take 4,.op 6,.take 8,.op 9,.take 10,.op 12,.take 14,.op 15,.op 16,.op 17,.op 18] [(133,(vI ((j:Int)-1))),(139,(vI tt))] (fun i=>match i with |4=>130|8=>134|10=>136|14=>140|_=>0) (fun i b=>match i with |4=> .slice (some ⟨b,0,none⟩) 0 0|8=> .slice (some ⟨b,0,none⟩) 1 1|10=> .slice (some ⟨b,0,none⟩) 0 0|14=> .slice (some ⟨b,0,none⟩) 1 1|_=>undef) (fun i b=>match i with |4=>cw b 3 []|8=>cw b 3 [(vI ((j:Int)-1))]|10=>cw b 3 []|14=>cw b 3 [(vI tt)]|_=>cw b 0 []) rfl rfl rfl kr rfl rfl (aU [0,1,2,3,4,5,6,7,8,9,10,11,12,13]) (mu (Ir rfl dD rfl rfl (fun _=>rfl) fun _=>rfl)<|rD<|mu (vH (xs:=[.tmp 133]) (cs:=[(vI ((j:Int)-1))]) rfl dD kl rfl rfl rfl rfl (by simp [Value.cells]) rfl rfl rfl (fun _=>rfl) fun _=>rfl)<|rD<|mu (Ir rfl dD rfl rfl (fun _=>rfl) fun _=>rfl)<|rD<|mu (vH (xs:=[.tmp 139]) (cs:=[(vI tt)]) rfl dD kl rfl rfl rfl rfl (by simp [Value.cells]) rfl rfl rfl (fun _=>rfl) fun _=>rfl)<|rD<|rD<|rD<|rD<|Hy) ?_
    intro J2
    try dsimp only
    refine q_ U fun Y X K hT=>ku (es:=(List.map iC [])) (C':=[own (some ⟨J2,0,none⟩) 0 3 1 (List.map iC []),_,_,_,_,_,_,_,_,_,_,_,_,_,_,_]++X) 0 U sm U (by simp [maxLen]) U ?_
    refine fF (es2:=(List.map iC rs)) (m':=rs.length) 0 U U U tx U U sm (show js _ (rd rA rs.length 1 (rs.map iC)).holds from (qa (c:=rC) (e:=3) 4 U sm sm)) (lW _) (by first|omega|(simp; done)|(simp; omega)) (by (simp only [maxLen]; omega)) sm sm U fun Or PP=>?_
    try dsimp only
    refine nz hT 24 16 U U (fun w hs=>St.kG [1,2,3,4,5,6,7,8,9,10,11,12,13,14] U U hs) U U ?_
    try dsimp only [List.take]
    intro O3
    try dsimp only
    refine q_ U fun Y X K hT=>?_
    refine fF (es2:=(List.map iC (rs++[(j:Int)-1]))) (m':=(rs++[(j:Int)-1]).length) 1 U U U tx U U sm (bo (es:=List.map iC [((j:Int)-1)]) 0 U U (by simp [bO]) U) (lW _) (by first|omega|(simp; done)|(simp; omega)) (by (simp only [maxLen]; omega)) sm sm U fun In J4=>?_
    try dsimp only
    refine nz hT 26 17 U U (fun w hs=>St.kG [2,3,4,5,6,7,8,9,10,11,12,13,14,15] U U hs) U U ?_
    try dsimp only [List.take]
    intro J3
    try dsimp only
    refine q_ U fun Y X K hT=>ku (es:=(List.map iC [])) (C':=[own (some ⟨J3,0,none⟩) 0 3 1 (List.map iC []),_,_,_,_,_,_,_,_,_,_,_,_,_,_,_,_,_]++X) 0 U sm U (by simp [maxLen]) U ?_
    refine fF (es2:=(List.map iC fs)) (m':=fs.length) 0 U U U tx U U sm (show js _ (rd fA fs.length 1 (fs.map iC)).holds from (qa (c:=fC) (e:=3) 6 U sm sm)) (lW _) (by first|omega|(simp; done)|(simp; omega)) (by (simp only [maxLen]; omega)) sm sm U fun Os Pa=>?_
    try dsimp only
    refine nz hT 28 18 U U (fun w hs=>St.kG [3,4,5,6,7,8,9,10,11,12,13,14,15,16] U U hs) U U ?_
    try dsimp only [List.take]
    intro PI
    try dsimp only
    refine q_ U fun Y X K hT=>?_
    refine fF (es2:=(List.map iC (fs++[tt]))) (m':=(fs++[tt]).length) 1 U U U tx U U sm (bo (es:=List.map iC [tt]) 0 U U (by simp [bO]) U) (lW _) (by first|omega|(simp; done)|(simp; omega)) (by (simp only [maxLen]; omega)) sm sm U fun I8 J5=>?_
    try dsimp only
    refine nz hT 30 19 U U (fun w hs=>St.kG [4,5,6,7,8,9,10,11,12,13,14,15,16,17] U U hs) U U ?_
    try dsimp only [List.take]
    refine q_ U fun Y X K hT=>?_
    have R:=GT.1 AA
    refine wL<|rG 4 U ?_
    try dsimp only [List.eraseIdx]
    refine zr U<|rG 2 U ?_
    try dsimp only [List.eraseIdx]
    refine zr U ?_
    try dsimp only
    refine ou 0 rfl rfl rfl rfl (hrec B (rs++[(j:Int)-1]) In J4 (fs++[tt]) I8 J5 I (by simp only [List.length_append,List.length_singleton]; omega) (by simp only [List.length_append,List.length_singleton]; omega) (by rw [nc]; omega) (by intro x hx; rcases g0.1 hx with hx|hx; exact hrs x hx; rw [cm.1 hx]; omega)) rfl (ep 7 rfl rfl (dJ (bX _)) (ep 8 rfl rfl (dJ (bX _)) (ep 9 rfl rfl (dJ (bX _)) (ep 10 rfl rfl (dJ (bX _)) (ep 11 rfl rfl (dJ (bX _)) (ep 12 rfl rfl (dJ (bX _)) (ep 13 rfl rfl (dJ (bX _)) (ep 14 rfl rfl (dJ (bX _)) qR)))))))) rfl (fun NZ A1=>?_)
    obtain ⟨Ok,Op,v⟩:=NZ
    try dsimp only
    dsimp only at A1
    refine nz hT 31 18 U U (fun w hs=>St.kG [3,4,5,6,7,8,9,10,11,12,13,14,15,16] U U hs) U U ?_
    try dsimp only [List.take]
    refine q_ U fun Y X K hT=>rG 0 U ?_
    try dsimp only [List.eraseIdx]
    refine yz ?_
    have SM:=uX (l:=l) (r:=r) (k:=B) (rs:=(rs++[(j:Int)-1])) (fs:=(fs++[tt])) A0 I
    refine fF (es2:=(List.zipWith dy.cells ((hZ l r rs fs)++(iP l r B rs fs (j+1))) (E++(azW++v)))) (m':=((hZ l r rs fs)++(iP l r B rs fs (j+1))).length) 18 U U U Nd U U (uw (by simp only [List.length_append]; omega)).symm (aQ (n:=(iG l r B (rs++[(j:Int)-1]) (fs++[tt])).length) 0 U (uw A1)) (BH _ _) (by simp only [List.length_append]; omega) (by simp only [List.length_append,maxLen]; omega) (by rw [nt R,← List.append_assoc,← List.append_assoc]; exact (I0 (by simp only [List.length_append]; omega)).symm) (uw (by rw [nt R]; simp only [List.length_append]; omega)) U fun Ja J6=>?_
    try dsimp only
    refine nz hT 32 19 U U (fun w hs=>St.kG [4,5,6,7,8,9,10,11,12,13,14,15,16,17] U U hs) U U ?_
    try dsimp only [List.take]
    refine q_ U fun Y X K hT=>rS (AG U)<|nz hT 33 19 U U (fun w hs=>St.kG [4,5,6,7,8,9,10,11,12,13,14,15,16,17] U U hs) U U ?_
    try dsimp only [List.take]
    refine aN<|KK P<|av<|rP 3 [] mn ?_
    refine aH<|E_ 1 U ?_
    try dsimp only [List.eraseIdx]
    refine E_ 17 U ?_
    try dsimp only [List.eraseIdx]
    refine Ho A ?_
    rw [← nt R]
    try dsimp only
    have Fn:(vI ((((j+1):Nat):Int)-1))=(vI (((j:Int)-1)+1)):=by exact cI I
    refine bp (O ⟨((j+1),Ja,J6,(azW++v)),⟨I,by dsimp only; (rw [nt R,List.length_append,List.length_append,A,A1])⟩⟩ _ _ _ U os (cY 8<|bk U Fn<|dG.nil _) (aU [4,5,6,7,8,9,10,11,12,13,14,15,16,0,17]))
   refine WS fun _ a=>rP 2 [] mn ?_
   refine RK a<|bV U (aW fun Kj=>?_) (aV fun Kj=>?_)
   ·refine ct ?_
    refine bp (jV (bE U) (aU [0,1,2,3,4,5,6,7,8,9,10,11,12,13,14]) (p ⟨(((gG r.Start fs)+(ej l rs.length)),r.gd),⟨by exact IK I,I⟩⟩))
   refine ao fun _ Cx=>WS fun _ u=>rP 3 [] (mc 1 U mn) ?_
   obtain ⟨s,hs⟩:=aM r.ab ((((j:Int)-1)).toNat) I
   have Lx:=bP aG.cells hs
   refine rS (IA ((((j:Int)-1)).toNat) U (aA 8 U) zK dc I I)<|rS (qA (((((j:Int)-1)).toNat)*2) U (aA 8 U) (Nat.mul_pos I dc) fT U)<|rS (iK ((((j:Int)-1)).toNat) 0 (vI s.fz) U cq (aA 8 U) Lx U dc U) ?_
   have R4:=(hr.sig _ s hs).1
   refine rP 3 [] mn ?_
   refine cg (t:=99) U (bu fun A2=>?_) (br fun A2=>?_)
   ·refine bI 7 U<|RK u<|aS U<|bQ<|ai<|ai<|aI<|KK P<|av<|rP 3 [] mn ?_
    refine aH ?_
    have L:(iP l r B rs fs (j+1))=(iP l r B rs fs j):=by exact qZ (xJ I hs (fun q=>A2 I))
    rw [← L]
    have FS:(vI ((((j+1):Nat):Int)-1))=(vI (((j:Int)-1)+1)):=by exact cI I
    refine bp (O ⟨((j+1),M,N,azW),⟨I,by dsimp only; (rw [L]; exact A)⟩⟩ _ _ _ U os (cY 8<|bk U FS<|dG.nil _) (aU [0,1,2,3,4,5,6,7,8,9,10,11,12,13,14]))
   refine rP 3 [] (mc 0 U mn) ?_
   obtain ⟨bs,Ak⟩:=aM (fp l r r.ab.length) ((((j:Int)-1)).toNat) I
   have GE:=bP qp Ak
   refine rS (IA ((((j:Int)-1)).toNat) U (aA 11 U) MI dc I I)<|rS (iK ((((j:Int)-1)).toNat) 0 (vB bs) U cq (aA 11 U) GE U dc U)<|rP 2 [] mn ?_
   refine RK u<|cH U (fun F=>?_) (fun F=>?_)
   ·rw [Bool.not_eq_true'] at F
    refine bQ<|ai<|ai<|aI<|KK P<|av<|rP 3 [] mn ?_
    refine aH ?_
    have L:(iP l r B rs fs (j+1))=(iP l r B rs fs j):=by exact qZ (xJ I hs (fun q=>by rw [(AK hs Ak).2 q.2] at F; cases F))
    rw [← L]
    have Fd:(vI ((((j+1):Nat):Int)-1))=(vI (((j:Int)-1)+1)):=by exact cI I
    refine bp (O ⟨((j+1),M,N,azW),⟨I,by dsimp only; (rw [L]; exact A)⟩⟩ _ _ _ U os (cY 8<|bk U Fd<|dG.nil _) (aU [0,1,2,3,4,5,6,7,8,9,10,11,12,13,14]))
   rw [Bool.not_eq_false'] at F
   refine WK Cx<|dw cx 18 kr<|dP 4 [] (mc 0 U mn) ?_
   obtain ⟨z,hz⟩:=aM (eP l r r.ab.length) ((((j:Int)-1)).toNat) I
   have Ie:=bP ag.cells hz
   refine dS (IA ((((j:Int)-1)).toNat) U (aA 10 U) lk dc I I)<|dS (qA (((((j:Int)-1)).toNat)*2) U (aA 10 U) (Nat.mul_pos I dc) fT U) ?_
   have If:=HT hs hz
   have NE:=xE l s
   rw [← If] at NE
   have LT:(cO l s).Lo≤(cO l s).Hi:=(AK hs Ak).1 F
   refine dS (iK ((((j:Int)-1)).toNat) 0 (vI z.Lo) U cq (aA 10 U) Ie U dc U)<|dS (MX U)<|lU 4 [] (mc 0 U mn) U<|dS (IA ((((j:Int)-1)).toNat) U (aA 10 U) lk dc I I)<|dS (qA ((((((j:Int)-1)).toNat)*2)+1) U (aA 10 U) (Nat.mul_pos I dc) fT U)<|dS (iK ((((j:Int)-1)).toNat) 1 (vI z.Hi) U cq (aA 10 U) Ie U dc U)<|dS (MN U)<|dP 2 [] mn ?_
   refine cK<|aH ?_
   refine bp (jV (bE U) (aU [0,1,2,3,4,5,6,7,8,9,10,11,12,13,14]) (p ⟨((max ((gG r.Start fs)+(ej l rs.length)) z.Lo),(min r.gd z.Hi)),⟨by (rw [If]; exact Hq I hs I LT),I⟩⟩))
  refine WS fun _ Z=>rP 2 [] mn ?_
  refine RK Z<|bV U (aW fun Kh=>?_) (aV fun Kh=>?_)
  ·refine ct ?_
   have EQ:(vI (gG r.Start fs))=(vI r.Start):=by exact cI (by have e:fs=[]:=ir I; rw [e]; rfl)
   refine bp (jV (cY 7<|bk U EQ<|dG.nil _) (aU [0,1,2,3,4,5,6,7,8,9,10,11,12,13]) (o ()))
  refine av<|rP 3 [] mn ?_
  obtain ⟨xf,H1⟩:=aM fs (rs.length-1) I
  have IO:=bP iC H1
  refine rS (IA (rs.length-1) U (show js _ (rd fA fs.length 1 (fs.map iC)).holds from (qa (c:=fC) (e:=3) 3 U sm sm)) dD dc I I)<|rS (iK (rs.length-1) 0 (vI xf) U cq (show js _ (rd fA fs.length 1 (fs.map iC)).holds from (qa (c:=fC) (e:=3) 3 U sm sm)) IO U dc U)<|rP 1 [] mn ?_
  refine aH ?_
  have EP:(vI (gG r.Start fs))=(vI xf):=by exact cI (AZ _ _ _ (by rw [hfl]; exact H1))
  refine bp (jV (cY 7<|bk U EP<|dG.nil _) (aU [0,1,2,3,4,5,6,7,8,9,10,11,12,13]) (o ()))
 refine WS fun _ V=>rP 8 [0,1] (mc 1 U (mc 2 U mn)) ?_
 refine RK V<|bV U (aW fun G=>?_) (aV fun G=>?_)
 ·refine ct<|CP<|FY 255 3 ?_
  rw [show (own none 0 255 3 [])=(own none 0 255 3 (List.zipWith dy.cells (hZ l r rs fs) [])) from by rw [wW G]; rfl]
  have Eq:(vS none ((hZ l r rs fs).length) 0)=(vS none 0 0):=by first|rfl|(rw [wW G]; rfl)
  refine bp (jV (cY 6<|bk U Eq<|dG.nil _) (aU [2,3,4,5,6,7,8,9,10,11,12,13,0,1]) (m ⟨(none,0,[],[]),(by exact .inr ⟨G,U,U⟩)⟩))
 refine av<|rP 6 [0,1] (mc 1 U (mc 0 U mn)) ?_
 refine cX (J1 r sgA sgC l vwA vwC vtA vtC vbA vbC rs rA rC hle hr I (by exact fun x hx h0=>(hrs x hx).2)) (oK [8,9,10,11]<|aJ (show js _ (rd rA rs.length 1 (rs.map iC)).holds from (qa (c:=rC) (e:=3) 3 U sm sm))<|aK) U fun NW OR=>?_
 obtain ⟨S,T⟩:=NW
 try dsimp only
 refine rS (SX (bf (xs:=[(0,.tmp 48),(1,.tmp 49),(2,.tmp 53)]) (cs:=(wE.cells (wE.mk (aR.mk rA rs.length rC) (aR.mk fA fs.length fC) (aR.mk S ((jN l r rs).length) T)))) U U (bg QN U)) U U)<|ew (xs:=[.tmp 54]) (cs:=(wE.cells (wE.mk (aR.mk rA rs.length rC) (aR.mk fA fs.length fC) (aR.mk S ((jN l r rs).length) T)))) U E4 P3 U U U U (by simp [Value.cells,wE.aZ]) U U fun O2=>lj 255 3 ?_
 refine fF (es2:=(List.zipWith dy.cells (hZ l r rs fs) ([((rA,rC),(fA,fC),(S,T))]))) (m':=(hZ l r rs fs).length) 0 rfl rfl rfl Nd rfl rfl rfl (bo (es:=List.zipWith dy.cells [(dy.mk rs fs (jN l r rs))] [((rA,rC),(fA,fC),(S,T))]) 1 rfl rfl (by intro e he; simp at he; subst he; rfl) rfl) (BH _ _) dc dc (by rw [yS G]; rfl) (by rw [yS G]; rfl) rfl fun y AC=>?_
 try dsimp only
 refine wL<|M5 0 3 U U U ?_
 try dsimp only
 refine rP 1 [] mn ?_
 refine aH ?_
 have d:(vS y ((hZ l r rs fs).length) AC)=(vS y ((hZ l r rs fs).length) AC):=by first|rfl|(rw [wW G]; rfl)
 refine bp (jV (cY 6<|bk U d<|dG.nil _) (aU [3,4,5,6,7,8,9,10,11,12,13,14,1,0]) (m ⟨(y,AC,[((rA,rC),(fA,fC),(S,T))],[(own S T 3 1 ((jN l r rs).map iC))]),(by exact .inl ⟨G,_,U,U⟩)⟩))
theorem Po (l:bj) (kA:OA) (kC:Nat) (az:List RA) (cA:OA) (cC:Nat) (bA:OA) (bC:Nat) (r:cD) (sgA:OA) (sgC:Nat) (vwA:OA) (vwC:Nat) (vtA:OA) (vtC:Nat) (vbA:OA) (vbC k:Nat) (rs:List Int) (rA:OA) (rC:Nat) (fs:List Int) (fA:OA) (fC:Nat) (hin:eH l az) (hle:dI l=0) (hr:eh l r) (hk:rs.length+k=l.aa.length) (hfl:fs.length=rs.length) (hst:r.Start≤gG r.Start fs∧gG r.Start fs≤r.gd) (hrs: ∀ x∈rs,-1≤x∧x<(r.ab.length:Int)):
 Kt Tryz.prog 163 [(vA (bT.cells (ki l kA kC cA cC bA bC))),(vA (cU.cells (jE r sgA sgC))),(vA (iU.cells (iU.mk (aR.mk vwA ((cj l l.aa.length).length) vwC) (aR.mk vtA ((eP l r r.ab.length).length) vtC) (aR.mk vbA ((fp l r r.ab.length).length) vbC)))),(vS rA rs.length rC),(vS fA fs.length fC)] [(rd kA l.aL.length 9 (l.aL.map au.cells)),(rd cA l.ak.length 2 (List.zipWith ax.cells l.ak az)),(d_ (bw ax.gL l.ak az)),(rd bA l.aa.length 4 (l.aa.map bM.cells)),(rd sgA r.ab.length 2 (r.ab.map aG.cells)),(rd vwA ((cj l l.aa.length).length) 1 ((cj l l.aa.length).map iC)),(rd vtA ((eP l r r.ab.length).length) 2 ((eP l r r.ab.length).map ag.cells)),(rd vbA ((fp l r r.ab.length).length) 1 ((fp l r r.ab.length).map qp))] (cd [own rA rC 3 1 (rs.map iC),own fA fC 3 1 (fs.map iC)]) (fun (x:(OA)×Nat×(List kO))=>(vS x.1 ((iG l r k rs fs).length) x.2.1)) (fun (x:(OA)×Nat×(List kO))=>x.2.2.length=(iG l r k rs fs).length) (fun (x:(OA)×Nat×(List kO))=>(cd (bw dy.owns (iG l r k rs fs) x.2.2++[own x.1 x.2.1 255 3 (List.zipWith dy.cells (iG l r k rs fs) x.2.2)]))):=by
 induction k using Nat.strongRecOn generalizing rs rA rC fs fA fC with
 |ind k ih=>exact GC l kA kC az cA cC bA bC r sgA sgC vwA vwC vtA vtC vbA vbC k rs rA rC fs fA fC hin hle hr hk hfl hst hrs (fun L F D E C A B G H AA J K=>ih L G F D E C A B H AA J K)
end
section
open Go.RowKit
theorem Ms (l:bj) (kA:OA) (kC:Nat) (az:List RA) (cA:OA) (cC:Nat) (bA:OA) (bC:Nat) (r:cD) (sgA:OA) (sgC:Nat) (hin:eH l az) (hsl:r.ab.length≤1000000):
 rU Tryz.prog 155 [(vA (bT.cells (ki l kA kC cA cC bA bC))),(vA (cU.cells (jE r sgA sgC)))] [(rd kA l.aL.length 9 (l.aL.map au.cells)),(rd cA l.ak.length 2 (List.zipWith ax.cells l.ak az)),(d_ (bw ax.gL l.ak az)),(rd bA l.aa.length 4 (l.aa.map bM.cells)),(rd sgA r.ab.length 2 (r.ab.map aG.cells))] (fun (x:Bool×Int×(OA)×Nat×(List kO))=>bif x.1 then (vT [(vS x.2.2.1 ((qB l r).length) x.2.2.2.1),(vI 0)]) else (vT [(vS none 0 0),(vI x.2.1)])) (fun (x:Bool×Int×(OA)×Nat×(List kO))=>(x.1=true→(dN l r 0=0∧x.2.2.2.2.length=(qB l r).length))∧(x.1=false→(x.2.1=dN l r 0∧ ¬ dN l r 0=0))) (fun (x:Bool×Int×(OA)×Nat×(List kO))=>bif x.1 then [(own x.2.2.1 x.2.2.2.1 255 3 (List.zipWith dy.cells (qB l r) x.2.2.2.2)),(cd (bw dy.owns (qB l r) x.2.2.2.2))] else []):=by
 have k:=hin.te
 have j:=hin.s_
 have h:=hin.oY
 have i:=hin.s7
 refine gp kr Tryz.func155 U U fun o Q hQ hN=>?_
 try dsimp only
 refine WS fun _ X=>eK U fun m=>eK U fun n=>bI 2 U<|RK X<|ao fun _ Y=>WS fun _ Z=>e7 1 [] (mc 1 U mn) U<|rS (CL (Br l kA kC az cA cC bA bC hin) (bq [2,3,4,5]) U)<|bI 1 U<|RK Z<|WS fun _ a=>rP 2 [] mn ?_
 refine RK a<|cH U (bu fun A=>?_) (br fun A=>?_)
 ·refine WS fun _ b=>rP 3 [] mn ?_
  refine RK b<|ar<|LX hQ (false,(dI l),none,0,[]) [] [] mn U (by rfl) U U ?_
  exact v8<|D7 (gD (r:=r) (me:=0) A) A
 refine WK Y<|ao fun _ c=>WS fun _ d=>e7 2 [0,1] (mc 1 U (mc 0 U mn)) U<|rS (CL (Lf l kA kC az cA cC bA bC r sgA sgC hin (by exact hsl)) (bq [2,3,4,5,6]) U)<|rP 1 [] mn ?_
 refine RK d<|cH U (bu fun B=>?_) (br fun B=>?_)
 ·refine WS fun _ D=>rP 2 [] mn ?_
  refine RK D<|ar<|LX hQ (false,51,none,0,[]) [] [] mn U (by rfl) U U ?_
  exact v8<|nY (dk (me:=0) A B)
 refine WK c<|ao fun _ E=>dV cx [4,5,6] [] [] [0,1,2,3,4,5,6] [] U U U U U<|eS U (LW 1 U cq U U)<|eS U (LW 0 U cq U U)<|eS U (LW 1 U cq U U)<|eS U (LW 0 U cq U U)<|eJ U<|cv U fun T12 J=>cX (K_ l kA kC az cA cC bA bC r sgA sgC hin (by exact A) (by exact B)) (bq [2,3,4,5,6]) U fun e g=>?_
 obtain ⟨V,W,T,AA,R,S⟩:=e
 try dsimp only
 refine aH (J _ _ (aU [3,4,5,6,7,8,9]) ?_)
 refine cv U fun T21 K=>lj 3 1<|lj 3 1<|wL<|rG 1 U ?_
 try dsimp only [List.eraseIdx]
 refine zr U<|rG 1 U ?_
 try dsimp only [List.eraseIdx]
 refine zr U ?_
 try dsimp only
 refine ou 0 rfl rfl rfl rfl (Po l kA kC az cA cC bA bC r sgA sgC V W T AA R S l.aa.length ([]:List Int) none 0 ([]:List Int) none 0 hin (by exact A) (by exact B) sm (by rfl) (by exact ⟨Int.le_refl _,B.time.2.1⟩) (by intro x hx; cases hx)) rfl (ep 6 rfl rfl (dJ (bX _)) (ep 7 rfl rfl (dJ (bX _)) (ep 8 rfl rfl (dJ (bX _)) (ep 9 rfl rfl (dJ (bX _)) (ep 10 rfl rfl (dJ (bX _)) (ep 1 rfl rfl (jx sm) (ep 2 rfl rfl (jx sm) (ep 3 rfl rfl (jx sm) qR)))))))) rfl (fun f M=>?_)
 obtain ⟨N,O,P⟩:=f
 try dsimp only
 refine aH (K _ _ (aU [4,5,6,7,8,9,10]) ?_)
 refine cv U fun T26 L=>rG 0 U ?_
 try dsimp only [List.eraseIdx]
 refine yz ?_
 dsimp only at M
 refine rS (AG U)<|aH (L _ _ (aU [5,6,7,8,9,10,11]) ?_)
 refine fY U<|KK E<|ao fun _ F=>WS fun _ G=>rP 3 [] mn ?_
 refine RK G<|bV U (aW fun C=>?_) (aV fun C=>?_)
 ·refine WK F<|WS fun _ AB=>rP 3 [] mn ?_
  refine RK AB<|ar ?_
  refine LX hQ (true,0,N,O,P) [0,1] [] mn U (by (show List.all _ _=true; simp only [cond_true,fM,List.all_nil,IL,Bool.and_true]; rfl)) U U ?_
  exact ⟨fun _=>⟨lv A B U fun q=>C (by rw [show iG l r l.aa.length [] []=[] from (fR A B).2 q]; rfl),M⟩,Pv⟩
 refine WS fun _ H=>rP 2 [] mn ?_
 refine RK H<|ar<|LX hQ (false,8,none,0,[]) [] [] mn U (by rfl) U U ?_
 exact v8<|nY (g7 (me:=0) A B U ((fR A B).1 (ir (Int.natCast_eq_zero.1 C))))
theorem FV (ws:List dy) (wz:List kO) (wA:OA) (wC b:Nat) (hws:Ml ws) (hwz:wz.length=ws.length) (hb:b≤6):
 dH Tryz.prog 156 [(vS wA ws.length wC),(vI (b:Int))] [(rd wA ws.length 3 (List.zipWith dy.cells ws wz)),(d_ (bw dy.gL ws wz))] (vT [(vA (ag.cells (qi ws b))),(vI (pN ws b))]):=by
 have u:=hws.num
 refine bH kr Tryz.func156 U U fun x Q hQ hN=>?_
 try dsimp only
 refine WS fun _ g=>AL U ed fun w=>bI 1 U<|RK g<|WS fun _ h=>AL U ed fun t=>RK h<|WS fun _ j=>bI 1 U<|RK j<|ao fun _ k=>WS fun _ l=>rP 1 [] mn ?_
 refine RK l<|aF ?_
 have D:(0≤ws.length)∧(n7 b (ws.take 0) false (ag.mk 0 0)):=by exact ⟨Nat.zero_le _,G0⟩
 refine bZ (ι:={z:Nat×Bool×ag // (z.1≤ws.length)∧(n7 b (ws.take z.1) z.2.1 z.2.2)}) [0,1,4,5,6] [1,2,3] U U (fun z=>[(7,(vB z.1.2.1)),(8,(vI (z.1.1:Int)))]) (fun z=>[(cw t 53 (ag.cells z.1.2.2))]) (fun _=>rfl) (fun _=>rfl) (fun z=>ws.length-z.1.1) ⟨(0,false,(ag.mk 0 0)),D⟩ (bE U) (aU [1,2,3,0]) ?_
 clear D
 rintro ⟨⟨i,fd,o⟩,⟨J,A⟩⟩ J8 H
 try dsimp only at J A
 try dsimp only
 refine ao fun _ m=>WS fun _ L=>rP 4 [] mn ?_
 refine RK L<|bV U (aW fun c=>?_) (aV fun c=>?_)
 ·refine bQ<|ai<|ai<|aI<|KK k<|ao fun _ R=>WS fun _ S=>rP 2 [] mn ?_
  refine RK S<|bV U (fun B=>?_) (fun B=>?_)
  ·rw [Bool.not_eq_false'] at B
   refine WK R<|WS fun _ AA=>e7 1 [] (mc 3 U mn) U<|fK U c_ U<|rP 1 [] mn ?_
   refine RK AA<|ar<|mQ hQ [0] (mc 0 U mn) U ?_
   have AB:=yB (by have q:=A; rwa [List.take_of_length_le I] at q) hws.EP
   (have q:=AB.2 B; rw [q.1,q.2]; done)
  rw [Bool.not_eq_true'] at B
  refine WS fun _ T=>rS (SX (bf (xs:=[]) (cs:=(ag.cells (ag.mk 0 0))) U U (bg gZ U)) U U)<|fK U c_ U<|rP 1 [] mn ?_
  refine RK T<|ar<|mQ hQ [0] (mc 0 U mn) U ?_
  have AB:=yB (by have q:=A; rwa [List.take_of_length_le I] at q) hws.EP
  (have q:=AB.1 B; rw [q.1,q.2]; done)
 refine WK m<|ao fun _ C=>aF<|ao fun _ M=>WS fun _ N=>rP 2 [] mn ?_
 obtain ⟨y,hy⟩:=aM ws i I
 obtain ⟨ya,E⟩:=aM wz i I
 have K:(List.zipWith dy.cells ws wz)[i]? =some (dy.cells y ya):=er hy E
 refine rS (IA i U (aA 1 U) E4 dc I I)<|rS (qA (i*3) U (aA 1 U) (Nat.mul_pos I dc) fT U)<|rS (iK i 0 (vS ya.1.1 y.gO.length ya.1.2) U cq (aA 1 U) K U dc U)<|rP 3 [] mn ?_
 refine RK N<|cH U (aV fun d=>?_) (aW fun d=>?_)
 ·refine bQ<|ai<|aI<|KK C<|av<|rP 3 [] mn ?_
  refine aH ?_
  have X:(vI (((i+1):Nat):Int))=(vI ((i:Int)+1)):=by exact cI I
  refine bp (H ⟨((i+1),fd,o),⟨I,by dsimp only; rw [lZ hy]; exact CX A I⟩⟩ _ _ _ U os (cY 6<|bk U X<|dG.nil _) (aU [0,1,2,3]))
 refine WK M<|ao fun _ O=>dV cx [17,18] [] [] [0,1,2,3] [] U U U U U ?_
 have v:=hws.lens y (aP hy)
 obtain ⟨s,hs⟩: ∃ s,y.gO[b]? =some s:=⟨y.gO[b]'I,fQ _⟩
 refine eS U (MV U)<|eS U (MV U)<|eS U (IA i U (aA 1 U) E4 dc I I)<|eS U (qA ((i*3)+1) U (aA 1 U) (Nat.mul_pos I dc) fT U)<|eS U (iK i 1 (vS ya.2.1.1 y.jc.length ya.2.1.2) U cq (aA 1 U) K U dc U)<|eS U (MV U) ?_
 obtain ⟨f,hf⟩:=aM y.jc b I
 have p:=bP iC hf
 refine eS U (IA b U (show js _ (rd ya.2.1.1 y.jc.length 1 (y.jc.map iC)).holds from (df 2 U (bW hy E (by simp [dy.gL])))) dD dc I I)<|eS U (iK b 0 (vI f) U cq (show js _ (rd ya.2.1.1 y.jc.length 1 (y.jc.map iC)).holds from (df 2 U (bW hy E (by simp [dy.gL])))) p U dc U)<|eS U (MV U)<|eS U (MV U)<|eS U (IA i U (aA 1 U) E4 dc I I)<|eS U (qA ((i*3)+2) U (aA 1 U) (Nat.mul_pos I dc) fT U)<|eS U (iK i 2 (vS ya.2.2.1 y.l3.length ya.2.2.2) U cq (aA 1 U) K U dc U)<|eS U (MV U) ?_
 obtain ⟨e,he⟩:=aM y.l3 b I
 have n:=bP iC he
 refine eS U (IA b U (show js _ (rd ya.2.2.1 y.l3.length 1 (y.l3.map iC)).holds from (df 2 U (bW hy E (by simp [dy.gL])))) dD dc I I)<|eS U (iK b 0 (vI e) U cq (show js _ (rd ya.2.2.1 y.l3.length 1 (y.l3.map iC)).holds from (df 2 U (bW hy E (by simp [dy.gL])))) n U dc U)<|eS U (SX (bf (xs:=[(0,.tmp 31),(1,.tmp 39)]) (cs:=(ag.cells (ag.mk f e))) U U (bg gZ U)) U U)<|eJ U<|cv U fun T17 V=>AL U ed fun r=>aH (V _ _ (aU [1,2,3,4]) ?_)
 refine cv U fun T19 W=>fK U c_ U<|aH (W _ _ (aU [1,2,3,4]) ?_)
 refine fY U<|KK O<|ao fun _ F=>WS fun _ P=>?_
 have a:=hws.le y (aP hy) b f e I hf he
 refine rP 1 [] mn ?_
 refine RK P<|bV U (fun G=>?_) (fun G=>?_)
 ·refine WK F<|av<|e7 1 [] (mc 0 U mn) U<|PH U c_ U<|bI 1 U<|aH<|aN<|KK C<|av<|rP 3 [] mn ?_
  refine aH ?_
  have Z:(vI (((i+1):Nat):Int))=(vI ((i:Int)+1)):=by exact cI I
  refine bp (H ⟨((i+1),true,(ag.mk f e)),⟨I,by dsimp only; rw [lZ hy]; exact AS A G hs hf he a⟩⟩ _ _ _ U os (cY 6<|bk U Z<|dG.nil _) (aU [1,2,3,4]))
 refine av<|e7 4 [0,1] (mc 0 U (mc 4 U mn)) U<|rS (MN U)<|e7 4 [0,1] (mc 0 U (mc 4 U mn)) U<|rS (MX U)<|rS (SX (bf (xs:=[(0,.tmp 46),(1,.tmp 51)]) (cs:=(ag.cells (ag.mk (min f o.Lo) (max e o.Hi)))) U U (bg gZ U)) U U)<|fK U c_ U<|RK F<|av<|e7 1 [] (mc 0 U mn) U<|PH U c_ U<|bI 1 U<|aH<|aN<|KK C<|av<|rP 3 [] mn ?_
 refine aH ?_
 have Y:(vI (((i+1):Nat):Int))=(vI ((i:Int)+1)):=by exact cI I
 refine bp (H ⟨((i+1),true,(ag.mk (min f o.Lo) (max e o.Hi))),⟨I,by dsimp only; rw [lZ hy]; exact DK A G hs hf he a⟩⟩ _ _ _ U os (cY 6<|bk U Y<|dG.nil _) (aU [1,2,3,4]))
end
section
open Go.RowKit
theorem Ou (l:bj) (kA:OA) (kC:Nat) (az:List RA) (cA:OA) (cC:Nat) (bA:OA) (bC:Nat) (r:cD) (sgA:OA) (sgC:Nat) (hin:eH l az) (hsl:r.ab.length≤1000000):
 dH Tryz.prog 143 [(vA (bT.cells (bT.mk (bG.mk (aR.mk kA l.aL.length kC)) l.eI (aR.mk cA l.ak.length cC) (aR.mk bA l.aa.length bC) l.bK l.dj l.ck))),(vA (cU.cells (jE r sgA sgC)))] [(rd kA l.aL.length 9 (l.aL.map au.cells)),(rd cA l.ak.length 2 (List.zipWith ax.cells l.ak az)),(d_ (bw ax.gL l.ak az)),(rd bA l.aa.length 4 (l.aa.map bM.cells)),(rd sgA r.ab.length 2 (r.ab.map aG.cells))] (vT [(vA (ag.cells (z9 l r))),(vI (dT l r l.bK))]):=by
 have q:=hin.te
 have j:=hin.s_
 have h:=hin.oY
 have i:=hin.s7
 refine bH kr Tryz.func143 U U fun y Q hQ hN=>?_
 try dsimp only
 refine WS fun _ Z=>eK U fun v=>eK U fun w=>AL U ed fun x=>bI 1 U<|RK Z<|WS fun _ P=>rP 2 [0,1] (mc 2 U (mc 1 U mn)) ?_
 refine cX (Ms l kA kC az cA cC bA bC r sgA sgC hin hsl) (bq [3,4,5,6,7]) U fun u V=>?_
 obtain ⟨W,g,e,Y,X⟩:=u
 cases W
 ·obtain ⟨R,he⟩:=V.2 rfl
  try dsimp only at R he
  subst R
  try dsimp only [cond_true,cond_false,List.cons_append,List.nil_append]
  refine bI 5 U<|RK P<|ao fun _ d=>WS fun _ G=>rP 2 [] mn ?_
  refine RK G<|bV U (br fun F=>?_) (bu fun F=>?_)
  ·exact absurd F he
  refine WS fun _ H=>rS (SX (bf (xs:=[]) (cs:=(ag.cells (ag.mk 0 0))) U U (bg gZ U)) U U)<|bI 1 U<|fK U c_ U<|rP 1 [] mn ?_
  refine RK H<|ar<|mQ hQ [0] (mc 0 U mn) U ?_
  (rw [Ds (fun z=>he ((vK he).symm.trans z)),vK he]<;>rfl)
 obtain ⟨he,C⟩:=V.1 rfl
 try dsimp only [cond_true,cond_false,List.cons_append,List.nil_append]
 try dsimp only at he C
 obtain ⟨T,E,_,k⟩:=iN he
 obtain ⟨s,c⟩:=dY T
 have a:=c.head
 unfold eV at a
 have AA:=O5 T E
 have t:=AA.num
 have o:=E.len
 have p:=E.time
 refine bI 5 U<|RK P<|ao fun _ AB=>WS fun _ J=>rP 1 [] mn ?_
 refine rS (SX (gn (r:= .bool false) U U U xV) U U)<|RK J<|cp U<|WK AB<|ao fun _ K=>?_
 obtain ⟨b,S⟩: ∃ b:Nat,l.bK=(b:Int):=⟨l.bK.toNat,I⟩
 have A:=Jl he (b:=b) I
 rw [← S] at A
 rw [S]
 refine av<|e7 3 [] (mc 4 U mn) U<|rS (CL (FV (qB l r) X e Y b (by exact AA) (by exact C) I) (aJ (aQ (n:=(qB l r).length) 0 U (uw C))<|aJ (gQ 1 U KI)<|aK) U)<|bI 3 U<|AL U ed fun f=>fK U c_ U<|bI 1 U<|RK K<|ao fun _ L=>WS fun _ M=>rP 2 [] mn ?_
 refine RK M<|cH U (bu fun B=>?_) (br fun B=>?_)
 ·refine WS fun _ N=>rS (SX (bf (xs:=[]) (cs:=(ag.cells (ag.mk 0 0))) U U (bg gZ U)) U U)<|bI 1 U<|Sh U c_ U<|rP 1 [] mn ?_
  refine RK N<|ar<|mQ hQ [0] (mc 3 U mn) U ?_
  (rw [Ds (fun z=>B (A.1.trans z)),← A.1]<;>rfl)
 refine WK L<|ao fun _ O=>?_
 have D:dT l r l.bK=0:=A.1.symm.trans B
 have m:=tT D
 rw [A.2]
 refine av<|e7 10 [0,1,0,1] (mc 0 U (mc 4 U mn)) U<|rS (SX (bf (xs:=[(0,.tmp 34),(1,.tmp 39)]) (cs:=(ag.cells (ag.mk (((dK l r l.bK).Lo)-r.Start) (((dK l r l.bK).Hi)-r.Start)))) U U (bg gZ U)) U U)<|Sh U c_ U<|rP 1 [] mn ?_
 refine RK O<|ar<|mQ hQ [0] (mc 3 U mn) U ?_
 (rw [zm D,D])
end
section
open Go.RowKit
theorem Dq (l:bj) (kA:OA) (kC:Nat) (az:List RA) (cA:OA) (cC:Nat) (bA:OA) (bC:Nat) (d:ay) (sgA:OA) (sgC:Nat) (hin:eH l az) (hle:dI l=0) (hsl:d.bD.ab.length≤1000000) (hk:d.Out=true):
 dH Tryz.prog 123 [(vA (bT.cells (ki l kA kC cA cC bA bC))),(vA (aO.cells (aO.mk d.Out d.dx d.Time (jE d.bD sgA sgC))))] [(rd kA l.aL.length 9 (l.aL.map au.cells)),(rd cA l.ak.length 2 (List.zipWith ax.cells l.ak az)),(d_ (bw ax.gL l.ak az)),(rd bA l.aa.length 4 (l.aa.map bM.cells)),(rd sgA d.bD.ab.length 2 (d.bD.ab.map aG.cells))] (vT [(vA (ag.cells (o9 l d))),(vB (decide (iW l d)))]):=by
 have K:=hin.te
 have J:=hin.s_
 have H:=hin.oY
 have AA:=hin.s7
 refine bH kr Tryz.func123 U U fun O Q hQ hN=>?_
 try dsimp only
 refine WS fun _ B=>eK U fun L=>eK U fun M=>AL U ed fun N=>bI 1 U<|RK B<|ao fun _ E=>aF<|WS fun _ C=>rP 3 [] (mc 1 U mn) ?_
 refine RK C<|bV U (fun G=>?_) (fun G=>?_)
 ·exact absurd ((hk).symm.trans G) dc
 refine WS fun _ A=>rS (SX (bf (xs:=[]) (cs:=(ag.cells (ag.mk 0 0))) U U (bg gZ U)) U U)<|rP 4 [] (mc 1 U mn) ?_
 refine cM (t:=15) U (fun D=>?_) (fun D=>?_)
 ·rw [Bool.not_eq_false'] at D
  refine bI 10 U<|fK U c_ U<|rP 1 [] mn ?_
  refine RK A<|ar<|mQ hQ [0] (mc 0 U mn) U ?_
  clear hQ hN A C E B
  rw [Af hk]
  simp only [qK hk]
  refine congrArg (fun z=>Value.tuple #[_,vB z]) ?_
  first|rfl|(simp_all [gU]; done)
 rw [Bool.not_eq_true'] at D
 refine bI 1 U<|rS (LP (ag.cells d.Time) 1 U cq U U U)<|rS (SX (bf (xs:=[]) (cs:=(ag.cells (ag.mk 0 0))) U U (bg gZ U)) U U)<|rS (BI U (xb _ _ d.Time (ag.mk 0 0)))<|rP 2 [] mn ?_
 refine cM (t:=21) U (aW fun F=>?_) (aV fun F=>?_)
 ·refine bI 4 U<|fK U c_ U<|rP 1 [] mn ?_
  refine RK A<|ar<|mQ hQ [0] (mc 0 U mn) U ?_
  clear hQ hN A C E B
  rw [Af hk]
  simp only [qK hk]
  refine congrArg (fun z=>Value.tuple #[_,vB z]) ?_
  first|rfl|(simp_all [gU]; done)
 refine bI 1 U<|rS (LP (cU.cells (jE d.bD sgA sgC)) 1 U cq U U U)<|rS (CL (D6 d.bD sgA sgC) (bq [7]) U)<|bI 1 U<|fK U c_ U<|rP 1 [] mn ?_
 refine RK A<|ar<|mQ hQ [0] (mc 0 U mn) U ?_
 clear hQ hN A C E B
 rw [Af hk]
 simp only [qK hk]
 refine congrArg (fun z=>Value.tuple #[_,vB z]) ?_
 first|rfl|(simp_all [gU]; done)
theorem DD (l:bj) (kA:OA) (kC:Nat) (az:List RA) (cA:OA) (cC:Nat) (bA:OA) (bC:Nat) (d:ay) (sgA:OA) (sgC:Nat) (hin:eH l az) (hle:dI l=0) (hsl:d.bD.ab.length≤1000000) (hk:d.Out=false∧d.dx=true):
 dH Tryz.prog 123 [(vA (bT.cells (ki l kA kC cA cC bA bC))),(vA (aO.cells (aO.mk d.Out d.dx d.Time (jE d.bD sgA sgC))))] [(rd kA l.aL.length 9 (l.aL.map au.cells)),(rd cA l.ak.length 2 (List.zipWith ax.cells l.ak az)),(d_ (bw ax.gL l.ak az)),(rd bA l.aa.length 4 (l.aa.map bM.cells)),(rd sgA d.bD.ab.length 2 (d.bD.ab.map aG.cells))] (vT [(vA (ag.cells (o9 l d))),(vB (decide (iW l d)))]):=by
 have N:=hin.te
 have M:=hin.s_
 have K:=hin.oY
 have L:=hin.s7
 refine bH kr Tryz.func123 U U fun S Q hQ hN=>?_
 try dsimp only
 refine WS fun _ D=>eK U fun O=>eK U fun P=>AL U ed fun R=>bI 1 U<|RK D<|ao fun _ H=>aF<|WS fun _ E=>rP 3 [] (mc 1 U mn) ?_
 refine RK E<|cH U (fun J=>?_) (fun J=>?_)
 ·exact absurd ((hk.1).symm.trans J) dc
 refine WS fun _ F=>rP 3 [] (mc 1 U mn) ?_
 refine RK F<|bV U (fun G=>?_) (fun G=>?_)
 ·exact absurd ((hk.2).symm.trans G) dc
 refine ao fun _ B=>dV cx [10] [] [] [1,2,3,4,5,6,7] [] U U U U U<|eS U (FA 2 U fT U)<|eS U (LP (ag.cells d.Time) 0 U cq U U U)<|eS U (FA 2 U fT U)<|eS U (LP (ag.cells d.Time) 0 U cq U U U)<|eS U (CL (Md d.Time) (aK) U)<|eS U (MV U)<|r9 (t:=34) U (fun A=>?_) (fun A=>?_)
 rotate_left 1
 ·replace A:=DF A
  refine eS U (OX U)<|eS U (OX U)<|eS U (OX U)<|eS U (PK U)<|eS U (AG U)<|eJ U<|cv U fun T10 C=>fK U c_ U<|aH (C _ _ (aU [1,2,3,4,5,6,7]) ?_)
  refine fY U<|KK B<|ar<|mQ hQ [0] (mc 0 U mn) U ?_
  clear hQ hN C T10 B F E H D
  rw [Ef hk]
  simp only [tw hk]
  refine congrArg (fun z=>Value.tuple #[_,vB z]) ?_
  first|rfl|(simp_all; done)
 replace A:=DT A
 refine eS U (FA 4 U fT U)<|eS U (LP (cU.cells (jE d.bD sgA sgC)) 0 U cq U U U)<|eS U (CL (D6 d.bD sgA sgC) (bq [6]) U)<|eS U (PK U)<|eS U (AG U)<|eJ U<|cv U fun T9 AA=>fK U c_ U<|aH (AA _ _ (aU [1,2,3,4,5,6,7]) ?_)
 refine fY U<|KK B<|ar<|mQ hQ [0] (mc 0 U mn) U ?_
 clear hQ hN AA T9 B F E H D
 rw [Ef hk]
 simp only [tw hk]
 refine congrArg (fun z=>Value.tuple #[_,vB z]) ?_
 first|rfl|(simp_all; done)
theorem Cw (l:bj) (kA:OA) (kC:Nat) (az:List RA) (cA:OA) (cC:Nat) (bA:OA) (bC:Nat) (d:ay) (sgA:OA) (sgC:Nat) (hin:eH l az) (hle:dI l=0) (hsl:d.bD.ab.length≤1000000) (hk:d.Out=false∧d.dx=false):
 dH Tryz.prog 123 [(vA (bT.cells (ki l kA kC cA cC bA bC))),(vA (aO.cells (aO.mk d.Out d.dx d.Time (jE d.bD sgA sgC))))] [(rd kA l.aL.length 9 (l.aL.map au.cells)),(rd cA l.ak.length 2 (List.zipWith ax.cells l.ak az)),(d_ (bw ax.gL l.ak az)),(rd bA l.aa.length 4 (l.aa.map bM.cells)),(rd sgA d.bD.ab.length 2 (d.bD.ab.map aG.cells))] (vT [(vA (ag.cells (o9 l d))),(vB (decide (iW l d)))]):=by
 have O:=hin.te
 have N:=hin.s_
 have L:=hin.oY
 have M:=hin.s7
 refine bH kr Tryz.func123 U U fun AA Q hQ hN=>?_
 try dsimp only
 refine WS fun _ E=>eK U fun P=>eK U fun R=>AL U ed fun S=>bI 1 U<|RK E<|ao fun _ F=>aF<|WS fun _ G=>rP 3 [] (mc 1 U mn) ?_
 refine RK G<|cH U (fun K=>?_) (fun K=>?_)
 ·exact absurd ((hk.1).symm.trans K) dc
 refine WS fun _ H=>rP 3 [] (mc 1 U mn) ?_
 refine RK H<|cH U (fun J=>?_) (fun J=>?_)
 ·exact absurd ((hk.2).symm.trans J) dc
 refine ct<|aN<|KK F<|WS fun _ AB=>e7 2 [] (mc 2 U mn) U<|rS (LP (cU.cells (jE d.bD sgA sgC)) 1 U cq U U U)<|rS (CL (Ou l kA kC az cA cC bA bC d.bD sgA sgC hin hsl) (bq [3,4,5,6,7]) U)<|bI 3 U<|AL U ed fun T=>fK U c_ U<|rP 1 [] mn ?_
 refine RK AB<|ao fun _ A=>dV cx [9] [] [] [0,2,3,4,5,6,7,8] [] U U U U U<|eS U (LW 0 U cq U U)<|eS U (MV U)<|eS U (BI U mX)<|eS U (MV U)<|r9 (t:=49) U (fun B=>?_) (fun B=>?_)
 rotate_left 1
 ·replace B:=DF B
  refine eS U (OX U)<|eS U (OX U)<|eS U (OX U)<|eS U (OX U)<|eS U (PK U)<|eS U (AG U)<|eJ U<|cv U fun T12 D=>sr U c_ U<|aH (D _ _ (aU [0,2,3,4,5,6,7,8]) ?_)
  refine fY U<|KK A<|ar<|mQ hQ [0] (mc 1 U mn) U ?_
  clear hQ hN D T12 A AB H G F E
  rw [D3 hk]
  simp only [uc hk]
  refine congrArg (fun z=>Value.tuple #[_,vB z]) ?_
  first|rfl|(simp_all [gU]; done)
 replace B:=DT B
 refine eS U (FA 2 U fT U)<|eS U (LP (ag.cells d.Time) 1 U cq U U U)<|eS U (SX (bf (xs:=[]) (cs:=(ag.cells (ag.mk 0 0))) U U (bg gZ U)) U U)<|eS U (BI U (xb _ _ d.Time (ag.mk 0 0)))<|eS U (PK U)<|eS U (AG U)<|eJ U<|cv U fun T11 C=>sr U c_ U<|aH (C _ _ (aU [0,2,3,4,5,6,7,8]) ?_)
 refine fY U<|KK A<|ar<|mQ hQ [0] (mc 1 U mn) U ?_
 clear hQ hN C T11 A AB H G F E
 rw [D3 hk]
 simp only [uc hk]
 refine congrArg (fun z=>Value.tuple #[_,vB z]) ?_
 first|rfl|(simp_all [gU]; done)
theorem GS (l:bj) (kA:OA) (kC:Nat) (az:List RA) (cA:OA) (cC:Nat) (bA:OA) (bC:Nat) (d:ay) (sgA:OA) (sgC:Nat) (hin:eH l az) (hle:dI l=0) (hsl:d.bD.ab.length≤1000000):
 dH Tryz.prog 123 [(vA (bT.cells (ki l kA kC cA cC bA bC))),(vA (aO.cells (aO.mk d.Out d.dx d.Time (jE d.bD sgA sgC))))] [(rd kA l.aL.length 9 (l.aL.map au.cells)),(rd cA l.ak.length 2 (List.zipWith ax.cells l.ak az)),(d_ (bw ax.gL l.ak az)),(rd bA l.aa.length 4 (l.aa.map bM.cells)),(rd sgA d.bD.ab.length 2 (d.bD.ab.map aG.cells))] (vT [(vA (ag.cells (o9 l d))),(vB (decide (iW l d)))]):=by
 by_cases ho:d.Out=true
 ·exact Dq l kA kC az cA cC bA bC d sgA sgC hin hle hsl ho
 by_cases hf:d.dx=true
 ·exact DD l kA kC az cA cC bA bC d sgA sgC hin hle hsl ⟨by simpa using ho,hf⟩
 ·exact Cw l kA kC az cA cC bA bC d sgA sgC hin hle hsl ⟨by simpa using ho,by simpa using hf⟩
end
section
open Go.RowKit
theorem CW (r:fg) (kA:OA) (kC:Nat) (az:List RA) (cA:OA) (cC:Nat) (bA:OA) (bC:Nat) (slA:OA) (slC:Nat) (drA:OA) (drC:Nat) (ha:List dQ) (heA:OA) (heC:Nat) (hin:oW r az ha) (hle:dI r.aj=0):
 rU Tryz.prog 102 [(vA (di.cells (DP r kA kC cA cC bA bC slA slC drA drC heA heC)))] [(rd kA r.aj.aL.length 9 (r.aj.aL.map au.cells)),(rd cA r.aj.ak.length 2 (List.zipWith ax.cells r.aj.ak az)),(d_ (bw ax.gL r.aj.ak az)),(rd bA r.aj.aa.length 4 (r.aj.aa.map bM.cells)),(rd slA r.aT.length 1 (r.aT.map iC)),(rd drA r.bS.length 1 (r.bS.map iC)),(rd heA r.aB.length 1 (List.zipWith dz r.aB ha)),(d_ (bw fy r.aB ha))] (fun (x:Bool×Int×(OA)×Nat×(List RA))=>bif x.1 then (vT [(vS x.2.2.1 ((fP r).length) x.2.2.2.1),(vB true)]) else (vT [(vS none 0 0),(vB false)])) (fun (x:Bool×Int×(OA)×Nat×(List RA))=>(x.1=true→(fH r∧x.2.2.2.2.length=r.aB.length))∧(x.1=false→(x.2.1=0∧ ¬ fH r))) (fun (x:Bool×Int×(OA)×Nat×(List RA))=>bif x.1 then [(own x.2.2.1 x.2.2.2.1 204 1 (List.zipWith KC (fP r) x.2.2.2.2)),(cd (bw ET (fP r) x.2.2.2.2))] else []):=by
 have NW:=hin.line
 have O2:=hin.jd
 have PI:=hin.has
 have OR:=hin.ji
 have Nh:=hin.draw
 have Ok:=lg (r:=r)
 refine gp kr Tryz.func102 U U fun w0 Q hQ hN=>?_
 try dsimp only
 refine WS fun _ La=>eK U fun b2=>bI 2 U<|RK La<|WS fun _ Li=>e7 4 [] (mc 0 U mn) U<|RK Li<|ao fun _ Lk=>WS fun _ N=>bI 1 U<|rS (CL (o6 (r.aT.length:Int) 1 5) (aK) U)<|rP 2 [] mn ?_
 refine cg (t:=19) U (bu fun Kj=>?_) (br fun Kj=>?_)
 ·refine bI 19 U<|RK N<|aS U<|WS fun _ Lo=>rP 2 [] mn ?_
  refine RK Lo<|ar<|LX hQ (false,0,none,0,[]) [] [] mn U (by rfl) U U ?_
  (exact ⟨yo,fun _=>⟨rfl,fun q=>by have S:=q.num; have q2:=q.zp; have q3:=q.nh; have q4:=q.Ak; omega⟩⟩)
 refine rP 7 [] (mc 0 U mn) ?_
 refine cg (t:=26) U (bu fun X=>?_) (br fun X=>?_)
 ·refine bI 12 U<|RK N<|aS U<|WS fun _ Lx=>rP 2 [] mn ?_
  refine RK Lx<|ar<|LX hQ (false,0,none,0,[]) [] [] mn U (by rfl) U U ?_
  (exact ⟨yo,fun _=>⟨rfl,fun q=>by have S:=q.num; have q2:=q.zp; have q3:=q.nh; have q4:=q.Ak; omega⟩⟩)
 refine e7 2 [] (mc 0 U mn) U<|rS (CL (o6 r.f_ 0 5) (aK) U)<|rP 3 [] mn ?_
 refine cg (t:=32) U (bu fun Kz=>?_) (br fun Kz=>?_)
 ·refine bI 6 U<|RK N<|aS U<|WS fun _ L0=>rP 2 [] mn ?_
  refine RK L0<|ar<|LX hQ (false,0,none,0,[]) [] [] mn U (by rfl) U U ?_
  (exact ⟨yo,fun _=>⟨rfl,fun q=>by have S:=q.num; have q2:=q.zp; have q3:=q.nh; have q4:=q.Ak; omega⟩⟩)
 refine e7 3 [] (mc 0 U mn) U<|rS (CL (o6 (r.aB.length:Int) 1 3) (aK) U)<|rP 2 [] mn ?_
 refine RK N<|cH U (bu fun K4=>?_) (br fun K4=>?_)
 ·refine WS fun _ L2=>rP 2 [] mn ?_
  refine RK L2<|ar<|LX hQ (false,0,none,0,[]) [] [] mn U (by rfl) U U ?_
  (exact ⟨yo,fun _=>⟨rfl,fun q=>by have S:=q.num; have q2:=q.zp; have q3:=q.nh; have q4:=q.Ak; omega⟩⟩)
 refine WK Lk<|ao fun _ o=>WS fun _ p=>rP 1 [] mn ?_
 refine RK p<|aF ?_
 have A:(0≤r.aT.length)∧(xS r 0):=by exact ⟨Nat.zero_le _,Ib⟩
 refine bZ (ι:={z:Nat // (z≤r.aT.length)∧(xS r z)}) [1,4] [0,1,2,3,4,5,6,7,8] U U (fun z=>[(5,(vI (z.1:Int)))]) (fun z=>[]) (fun _=>rfl) (fun _=>rfl) (fun z=>r.aT.length-z.1) ⟨0,A⟩ (bE U) (aU [0,1,2,3,4,5,6,7,8]) ?_
 clear A
 rintro ⟨i,⟨NE,AB⟩⟩ J12 T
 try dsimp only
 refine ao fun _ s=>WS fun _ v=>rP 3 [] mn ?_
 refine RK v<|bV U (aW fun Kh=>?_) (aV fun Kh=>?_)
 ·refine bQ<|ai<|ai<|aI<|KK o<|WS fun _ CM=>bI 1 U<|RK CM<|ao fun _ Ci=>WS fun _ Ck=>rP 1 [] mn ?_
  refine RK Ck<|aF<|eL 204 1<|ru ?_
  have A:(0≤r.aB.length)∧(([]:List RA).length=0)∧(km r 0):=by exact ⟨Nat.zero_le _,rfl,xD⟩
  refine bZ (ι:={z:Nat×(List RA)×(OA)×Nat // (z.1≤r.aB.length)∧(z.2.1.length=z.1)∧(km r z.1)}) [1,4] [2,3,4,5,6,7,8,9,10] U U (fun z=>[(7,(vS z.1.2.2.1 ((List.zipWith BE (gV r z.1.1) z.1.2.1).length) z.1.2.2.2)),(8,(vI (z.1.1:Int)))]) (fun z=>[(cd (bw ET (gV r z.1.1) z.1.2.1)),(own z.1.2.2.1 z.1.2.2.2 204 1 (List.map sC (List.zipWith BE (gV r z.1.1) z.1.2.1)))]) (fun _=>rfl) (fun _=>rfl) (fun z=>r.aB.length-z.1.1) ⟨(0,([]:List RA),none,0),A⟩ (bE U) (aU [2,3,4,5,6,7,8,9,10,0,1]) ?_
  clear A
  rintro ⟨⟨h,tz,a,c⟩,⟨P,C,F⟩⟩ J46 l
  try dsimp only at P C F
  try dsimp only
  refine ao fun _ Cp=>WS fun _ Cx=>rP 5 [] (mc 0 U mn) ?_
  refine RK Cx<|bV U (aW fun K5=>?_) (aV fun K5=>?_)
  ·refine bQ<|ai<|ai<|aI<|KK Ci<|ao fun _ GT=>?_
   have M2:gV r h=fP r:=by unfold fP; rw [show h=r.aB.length by omega]
   have NZ:tz.length=r.aB.length:=by omega
   rw [M2,yM,show (List.zipWith BE (fP r) tz).length=(fP r).length from by rw [List.length_zipWith]; omega]
   have J2:fH r:=Fy (n:=i) I I I I I AB F I
   refine av<|rP 3 [] mn ?_
   refine RK GT<|ar ?_
   refine LX hQ (true,0,a,c,tz) [10,9] [] mn U (by (show List.all _ _=true; simp only [cond_true,fM,List.all_nil,DG,Bool.and_true]; rfl)) U U ?_
   exact ⟨fun _=>⟨J2,NZ⟩,Pv⟩
  refine WK Cp<|ao fun _ C0=>aF<|ao fun _ C1=>WS fun _ C2=>rP 3 [] (mc 0 U mn) ?_
  obtain ⟨ht,D⟩:=aM r.aB h I
  obtain ⟨E,H⟩:=aM ha h I
  have W:(List.zipWith dz r.aB ha)[h]? =some (dz ht E):=er D H
  refine rS (IA h U (aA 7 U) sT dc I I) ?_
  have Ja:=hin.fZ _ _ _ D H
  have Nv:=Ja.oY
  refine rS (iK h 0 (vS E.1.1 ht.length E.1.2) U cq (aA 7 U) W U dc U)<|rP 3 [] mn ?_
  refine RK C2<|cH U (bu fun e=>?_) (br fun e=>?_)
  ·refine WS fun _ C3=>rP 2 [] mn ?_
   refine RK C3<|ar<|LX hQ (false,0,none,0,[]) [] [] mn U (by rfl) U U ?_
   (exact ⟨yo,fun _=>⟨rfl,fun q=>by have S:=(q.fZ ht (aP D)).1; omega⟩⟩)
  refine WK C1<|WS fun _ Di=>bI 1 U<|RK Di<|ao fun _ Do=>WS fun _ EP=>rP 1 [] mn ?_
  refine RK EP<|aF<|eL 53 2 ?_
  have A:(0≤ht.length)∧(ow r.aj ht 0):=by exact ⟨Nat.zero_le _,vQ⟩
  refine bZ (ι:={z:Nat×(OA)×Nat // (z.1≤ht.length)∧(ow r.aj ht z.1)}) [1,4,7,8] [1,2,3,4,5,6,7,8,9,10,11] U U (fun z=>[(9,(vS z.1.2.1 (((ht.take z.1.1).map (gj r.aj)).length) z.1.2.2)),(10,(vI (z.1.1:Int)))]) (fun z=>[(own z.1.2.1 z.1.2.2 53 2 (((ht.take z.1.1).map (gj r.aj)).map ag.cells))]) (fun _=>rfl) (fun _=>rfl) (fun z=>ht.length-z.1.1) ⟨(0,none,0),A⟩ (bE U) (aU [1,2,3,4,5,6,7,8,9,10,11,0]) ?_
  clear A
  rintro ⟨⟨j,la,lc⟩,⟨R,G⟩⟩ J57 m
  try dsimp only at R G
  try dsimp only
  refine ao fun _ EQ=>WS fun _ Eq=>rP 3 [] mn ?_
  refine RK Eq<|bV U (aW fun LE=>?_) (aV fun LE=>?_)
  ·refine bQ<|ai<|ai<|aI<|KK Do<|av ?_
   rw [show ((ht.take j).map (gj r.aj))=ht.map (gj r.aj) from by rw [List.take_of_length_le I]]
   refine rP 2 [] mn ?_
   refine ew (xs:=[.tmp 137]) (cs:=[(vS la ((ht.map (gj r.aj)).length) lc)]) U Il M8 U U U U (by simp [Value.cells]) U U fun Os=>?_
   refine fF (es2:=(List.map sC (List.zipWith BE (gV r (h+1)) (tz++[(la,lc)])))) (m':=(List.zipWith BE (gV r (h+1)) (tz++[(la,lc)])).length) 11 U U U M6 U U sm (bo (es:=List.map sC [(aR.mk la ((ht.map (gj r.aj)).length) lc)]) 0 U U (by simp [yW]) U) (Jz _) (by rw [List.length_zipWith,kY I]; omega) (by rw [List.length_zipWith,kY I]; simp only [maxLen]; omega) (by rw [tp D C,List.map_append]; rfl) (by rw [tp D C]; simp) U fun J8 Ka=>?_
   try dsimp only
   refine bI 1 U<|aH<|aN<|KK C0<|av<|rP 3 [] mn ?_
   refine aH<|yr (X':=bw ET (gV r (h+1)) (tz++[(la,lc)])) 10 12 U U (Bw (a:=(la,lc)) D C) ?_
   have In:(vI (((h+1):Nat):Int))=(vI ((h:Int)+1)):=by exact cI I
   refine bp (l ⟨((h+1),(tz++[(la,lc)]),J8,Ka),⟨I,by simp; omega,xw F D (Ez I G I)⟩⟩ _ _ _ U os (cY 3<|bk U In<|dG.nil _) (aU [2,3,4,5,6,7,8,9,10,0,11]))
  refine WK EQ<|ao fun _ FS=>aF<|ao fun _ Fd=>dV cx [14,15] [] [] [0,1,2,3,4,5,6,7,8,9,10,11] [] U U U U U<|eS U (FA 0 U fT U)<|eS U (LP (bT.cells (ki r.aj kA kC cA cC bA bC)) 0 U cq U U U)<|eS U (FA 10 U fT U)<|eS U (L1 (vS heA r.aB.length heC) 0 U cq U U)<|eS U (MV U)<|eS U (IA h U (aA 7 U) sT dc I I)<|eS U (iK h 0 (vS E.1.1 ht.length E.1.2) U cq (aA 7 U) W U dc U)<|eS U (MV U) ?_
  obtain ⟨d,hd⟩:=aM ht j I
  obtain ⟨da,I8⟩:=aM E.2 j I
  have L3:(List.zipWith ay.cells ht E.2)[j]? =some (ay.cells d da):=er hd I8
  refine eS U (IA j U (show js _ (rd E.1.1 ht.length 7 (List.zipWith ay.cells ht E.2)).holds from (df 8 U (bW D H cJ))) vn dc I I)<|eS U (lQ j 0 (aO.cells (aO.mk d.Out d.dx d.Time (cU.mk d.bD.Start d.bD.gd (aR.mk da.1 d.bD.ab.length da.2)))) U cq (show js _ (rd E.1.1 ht.length 7 (List.zipWith ay.cells ht E.2)).holds from (df 8 U (bW D H cJ))) L3 U dc U U) ?_
  have PP:=Ja.sig d (aP hd)
  refine eS U (CL (GS r.aj kA kC az cA cC bA bC d da.1 da.2 asm hle asm) (oK [1,2,3,4]<|aJ (show js _ (rd da.1 d.bD.ab.length 2 (d.bD.ab.map aG.cells)).holds from (df 8 U (bW D H (dW _ (bW hd I8 (by simp [ay.gL]))))))<|aK) U)<|eS U (MV U)<|eS U (EX U)<|eS U (EX U)<|eS U (AG U)<|eJ U<|cv U fun T63 Go=>AL U ed fun Op=>aH (Go _ _ (aU [1,2,3,4,5,6,7,8,9,10,11,12]) ?_)
  refine cv U fun T65 Hi=>fK U c_ U<|aH (Hi _ _ (aU [1,2,3,4,5,6,7,8,9,10,11,12]) ?_)
  refine fY U<|KK Fd<|ao fun _ Fn=>WS fun _ F9=>rP 2 [] mn ?_
  refine RK F9<|cH U (bu fun J=>?_) (br fun J=>?_)
  ·refine WS fun _ GE=>rP 2 [] mn ?_
   refine RK GE<|ar<|LX hQ (false,0,none,0,[]) [] [] mn U (by rfl) U U ?_
   (exact ⟨yo,fun _=>⟨rfl,fun q=>by exact J ((q.fZ ht (aP D)).2 d (aP hd))⟩⟩)
  refine WK Fn<|av<|rP 2 [] (mc 0 U mn) ?_
  refine ew (xs:=[.tmp 133]) (cs:=(ag.cells (o9 r.aj d))) U lk ed U U U U (by simp [Value.cells,ag.aZ]) U U fun Or=>?_
  refine fF (es2:=(List.map ag.cells ((ht.take (j+1)).map (gj r.aj)))) (m':=((ht.take (j+1)).map (gj r.aj)).length) 13 U U U EK U U sm (bo (es:=List.map ag.cells [(o9 r.aj d)]) 0 U U (by simp [ag.aZ]) U) (kU _) (by simp only [List.length_map,List.length_take]; omega) (by simp only [maxLen,List.length_map,List.length_take]; omega) (by rw [List.take_add_one,hd]; simp [H_ J]) sq U fun J7 J9=>?_
  try dsimp only
  refine bI 1 U<|aH<|aN<|KK FS<|av<|rP 3 [] mn ?_
  refine aH ?_
  have If:(vI (((j+1):Nat):Int))=(vI ((j:Int)+1)):=by exact cI I
  refine bp (m ⟨((j+1),J7,J9),⟨I,vU G hd J⟩⟩ _ _ _ U os (cY 5<|bk U If<|dG.nil _) (aU [2,3,4,5,6,7,8,9,10,11,12,13]))
 refine WK s<|ao fun _ AA=>aF<|ao fun _ V=>ao fun _ K=>dw cx 36 kr<|dP 3 [] (mc 0 U mn) ?_
 obtain ⟨y,hy⟩:=aM r.aT i I
 have J3:=bP iC hy
 refine dS (IA i U (aA 5 U) dD dc I I)<|dS (iK i 0 (vI y) U cq (aA 5 U) J3 U dc U)<|dS (CL (o6 y 0 9999) (aK) U)<|dP 2 [] mn ?_
 refine ia (t:=51) U (bu fun K8=>?_) (br fun K8=>?_)
 ·refine k7 28 U<|cK<|RK K<|aS U<|WS fun _ w=>rP 2 [] mn ?_
  refine RK w<|ar<|LX hQ (false,0,none,0,[]) [] [] mn U (by rfl) U U ?_
  (exact ⟨yo,fun _=>⟨rfl,fun q=>by have S:=(q.ids i y hy).1; omega⟩⟩)
 refine dP 3 [] mn ?_
 refine jM (t:=54) U (aW fun LA=>?_) (aV fun LA=>?_)
 ·refine dP 18 [] (mc 0 U mn) ?_
  obtain ⟨x,hx⟩:=aM r.bS i I
  have M:=bP iC hx
  refine dS (IA i U (aA 6 U) dD dc I I)<|dS (iK i 0 (vI x) U cq (aA 6 U) M U dc U)<|k7 2 U<|dS (CL (o6 x 0 ((r.aT.length:Int)-1)) (aK) U)<|dP 2 [] mn ?_
  refine cK<|RK K<|cH U (bu fun Y=>?_) (br fun Y=>?_)
  ·refine WS fun _ A6=>rP 2 [] mn ?_
   refine RK A6<|ar<|LX hQ (false,0,none,0,[]) [] [] mn U (by rfl) U U ?_
   (exact ⟨yo,fun _=>⟨rfl,fun q=>by have S:=q.Ie hx; omega⟩⟩)
  refine WK V<|WS fun _ A7=>rP 1 [] mn ?_
  refine RK A7<|aF ?_
  have A:(0≤i)∧(∀ (q:Nat) y,q<0→r.bS[q]? =some y→y≠x):=by exact ⟨Nat.zero_le _,fun q y hq=>absurd hq (Nat.not_lt_zero _)⟩
  refine bZ (ι:={z:Nat // (z≤i)∧(∀ (q:Nat) y,q<z→r.bS[q]? =some y→y≠x)}) [1,4,5] [0,1,2,3,4,5,6,7,8] U U (fun z=>[(6,(vI (z.1:Int)))]) (fun z=>[]) (fun _=>rfl) (fun _=>rfl) (fun z=>i-z.1) ⟨0,A⟩ (bE U) (aU [0,1,2,3,4,5,6,7,8]) ?_
  clear A
  rintro ⟨k,⟨O,B⟩⟩ J34 g
  try dsimp only
  refine ao fun _ A8=>WS fun _ A9=>rP 3 [] mn ?_
  refine RK A9<|bV U (aW fun K0=>?_) (aV fun K0=>?_)
  ·refine bQ<|ai<|ai<|aI<|aN<|KK AA<|av<|rP 3 [] mn ?_
   refine aH ?_
   have Id:(vI (((i+1):Nat):Int))=(vI ((i:Int)+1)):=by exact cI I
   refine bp (T ⟨(i+1),⟨I,BZ AB (fun a ha=>by rw [hy] at ha; cases ha; exact ⟨I,fun b hb hc=>by omega⟩) (fun a ha=>by rw [hx] at ha; cases ha; exact ⟨I,fun k b hk hb=>B k b I hb⟩)⟩⟩ _ _ _ rfl os (dG.cons rfl<|dG.cons rfl<|bk rfl Id<|dG.nil _) (aU [0,1,2,3,4,5,6,7,8]))
  refine WK A8<|ao fun _ BF=>aF<|ao fun _ B3=>dw cx 11 kr<|dP 3 [] (mc 0 U mn) ?_
  obtain ⟨u,hu⟩:=aM r.bS k I
  have Z:=bP iC hu
  refine dS (IA k U (aA 6 U) dD dc I I)<|dS (iK k 0 (vI u) U cq (aA 6 U) Z U dc U)<|lU 3 [] (mc 0 U mn) U<|dS (IA i U (aA 6 U) dD dc I I)<|dS (iK i 0 (vI x) U cq (aA 6 U) M U dc U)<|dP 1 [] mn ?_
  refine cK<|RK B3<|bV U (aW fun L=>?_) (aV fun L=>?_)
  ·refine ct<|aN<|KK BF<|av<|rP 3 [] mn ?_
   refine aH ?_
   have IR:(vI (((k+1):Nat):Int))=(vI ((k:Int)+1)):=by exact cI I
   refine bp (g ⟨(k+1),⟨I,wH B hu L⟩⟩ _ _ _ U os (cY 3<|bk U IR<|dG.nil _) (aU [0,1,2,3,4,5,6,7,8]))
  refine WS fun _ B9=>rP 2 [] mn ?_
  refine RK B9<|ar<|LX hQ (false,0,none,0,[]) [] [] mn U (by rfl) U U ?_
  (exact ⟨yo,fun _=>⟨rfl,fun q=>by have S:=q.num; have q2:=q.zp; have q3:=q.nh; have q4:=q.Ak; omega⟩⟩)
 refine lU 3 [] (mc 0 U mn) U<|dS (IA i U (aA 5 U) dD dc I I)<|dS (iK i 0 (vI y) U cq (aA 5 U) J3 U dc U)<|dP 4 [] (mc 0 U mn) ?_
 obtain ⟨z,hz⟩:=aM r.aT (i-1) I
 have Ne:=bP iC hz
 refine dS (IA (i-1) U (aA 5 U) dD dc I I)<|dS (iK (i-1) 0 (vI z) U cq (aA 5 U) Ne U dc U)<|dP 4 [] mn ?_
 refine ia (t:=69) U (aV fun LT=>?_) (aW fun LT=>?_)
 ·refine k7 10 U<|cK<|RK K<|aS U<|WS fun _ AC=>rP 2 [] mn ?_
  refine RK AC<|ar<|LX hQ (false,0,none,0,[]) [] [] mn U (by rfl) U U ?_
  (exact ⟨yo,fun _=>⟨rfl,fun q=>by have S:=(q.ids i y hy).2 z I hz; omega⟩⟩)
 refine dP 3 [] (mc 0 U mn) ?_
 obtain ⟨x,hx⟩:=aM r.bS i I
 have M:=bP iC hx
 refine dS (IA i U (aA 6 U) dD dc I I)<|dS (iK i 0 (vI x) U cq (aA 6 U) M U dc U)<|k7 2 U<|dS (CL (o6 x 0 ((r.aT.length:Int)-1)) (aK) U)<|dP 2 [] mn ?_
 refine cK<|RK K<|cH U (bu fun Y=>?_) (br fun Y=>?_)
 ·refine WS fun _ AO=>rP 2 [] mn ?_
  refine RK AO<|ar<|LX hQ (false,0,none,0,[]) [] [] mn U (by rfl) U U ?_
  (exact ⟨yo,fun _=>⟨rfl,fun q=>by have S:=q.Ie hx; omega⟩⟩)
 refine WK V<|WS fun _ A0=>rP 1 [] mn ?_
 refine RK A0<|aF ?_
 have A:(0≤i)∧(∀ (q:Nat) y,q<0→r.bS[q]? =some y→y≠x):=by exact ⟨Nat.zero_le _,fun q y hq=>absurd hq (Nat.not_lt_zero _)⟩
 refine bZ (ι:={z:Nat // (z≤i)∧(∀ (q:Nat) y,q<z→r.bS[q]? =some y→y≠x)}) [1,4,5] [0,1,2,3,4,5,6,7,8] U U (fun z=>[(6,(vI (z.1:Int)))]) (fun z=>[]) (fun _=>rfl) (fun _=>rfl) (fun z=>i-z.1) ⟨0,A⟩ (bE U) (aU [0,1,2,3,4,5,6,7,8]) ?_
 clear A
 rintro ⟨k,⟨O,B⟩⟩ J23 f
 try dsimp only
 refine ao fun _ A1=>WS fun _ A2=>rP 3 [] mn ?_
 refine RK A2<|bV U (aW fun X=>?_) (aV fun X=>?_)
 ·refine bQ<|ai<|ai<|aI<|aN<|KK AA<|av<|rP 3 [] mn ?_
  refine aH ?_
  have IO:(vI (((i+1):Nat):Int))=(vI ((i:Int)+1)):=by exact cI I
  refine bp (T ⟨(i+1),⟨I,BZ AB (fun a ha=>by rw [hy] at ha; cases ha; exact ⟨I,fun b hb hc=>by (rw [hz] at hc; cases hc; omega)⟩) (fun a ha=>by rw [hx] at ha; cases ha; exact ⟨I,fun k b hk hb=>B k b I hb⟩)⟩⟩ _ _ _ rfl os (dG.cons rfl<|dG.cons rfl<|bk rfl IO<|dG.nil _) (aU [0,1,2,3,4,5,6,7,8]))
 refine WK A1<|ao fun _ A3=>aF<|ao fun _ A4=>dw cx 11 kr<|dP 3 [] (mc 0 U mn) ?_
 obtain ⟨u,hu⟩:=aM r.bS k I
 have Z:=bP iC hu
 refine dS (IA k U (aA 6 U) dD dc I I)<|dS (iK k 0 (vI u) U cq (aA 6 U) Z U dc U)<|lU 3 [] (mc 0 U mn) U<|dS (IA i U (aA 6 U) dD dc I I)<|dS (iK i 0 (vI x) U cq (aA 6 U) M U dc U)<|dP 1 [] mn ?_
 refine cK<|RK A4<|bV U (aW fun L=>?_) (aV fun L=>?_)
 ·refine ct<|aN<|KK A3<|av<|rP 3 [] mn ?_
  refine aH ?_
  have H1:(vI (((k+1):Nat):Int))=(vI ((k:Int)+1)):=by exact cI I
  refine bp (f ⟨(k+1),⟨I,wH B hu L⟩⟩ _ _ _ U os (cY 3<|bk U H1<|dG.nil _) (aU [0,1,2,3,4,5,6,7,8]))
 refine WS fun _ A5=>rP 2 [] mn ?_
 refine RK A5<|ar<|LX hQ (false,0,none,0,[]) [] [] mn U (by rfl) U U ?_
 (exact ⟨yo,fun _=>⟨rfl,fun q=>by exact q.O3 I hu hx L⟩⟩)
end
section
open Go.RowKit
theorem GR (r:fg) (kA:OA) (kC:Nat) (az:List RA) (cA:OA) (cC:Nat) (bA:OA) (bC:Nat) (slA:OA) (slC:Nat) (drA:OA) (drC:Nat) (ha:List dQ) (heA:OA) (heC:Nat) (hin:oW r az ha):
 rU Tryz.prog 76 [(vA (di.cells (DP r kA kC cA cC bA bC slA slC drA drC heA heC)))] [(rd kA r.aj.aL.length 9 (r.aj.aL.map au.cells)),(rd cA r.aj.ak.length 2 (List.zipWith ax.cells r.aj.ak az)),(d_ (bw ax.gL r.aj.ak az)),(rd bA r.aj.aa.length 4 (r.aj.aa.map bM.cells)),(rd slA r.aT.length 1 (r.aT.map iC)),(rd drA r.bS.length 1 (r.bS.map iC)),(rd heA r.aB.length 1 (List.zipWith dz r.aB ha)),(d_ (bw fy r.aB ha))] (fun (x:Bool×Int×(OA)×Nat×(List RA))=>bif x.1 then (vT [(vS x.2.2.1 ((fP r).length) x.2.2.2.1),(vI 0)]) else (vT [(vS none 0 0),(vI x.2.1)])) (fun (x:Bool×Int×(OA)×Nat×(List RA))=>(x.1=true→(jP r=0∧x.2.2.2.2.length=r.aB.length))∧(x.1=false→(x.2.1=jP r∧ ¬ jP r=0))) (fun (x:Bool×Int×(OA)×Nat×(List RA))=>bif x.1 then [(own x.2.2.1 x.2.2.2.1 204 1 (List.zipWith KC (fP r) x.2.2.2.2)),(cd (bw ET (fP r) x.2.2.2.2))] else []):=by
 have AA:=hin.line
 have b:=hin.jd
 have c:=hin.has
 have Z:=hin.ji
 have Y:=hin.draw
 have a:=lg (r:=r)
 refine gp kr Tryz.func76 U U fun f Q hQ hN=>?_
 try dsimp only
 refine WS fun _ O=>eK U fun e=>bI 2 U<|RK O<|ao fun _ P=>WS fun _ R=>bI 1 U<|rS (LP (bT.cells (ki r.aj kA kC cA cC bA bC)) 0 U cq U U U)<|rS (CL (Br r.aj kA kC az cA cC bA bC asm) (bq [1,2,3,4]) U)<|bI 1 U<|RK R<|WS fun _ S=>rP 2 [] mn ?_
 refine RK S<|cH U (bu fun A=>?_) (br fun A=>?_)
 ·refine WS fun _ T=>rP 3 [] mn ?_
  refine RK T<|ar<|LX hQ (false,(dI r.aj),none,0,[]) [] [] mn U (by rfl) U U ?_
  exact v8<|D7 (yI A) A
 refine WK P<|WS fun _ G=>rP 1 [] (mc 0 U mn) ?_
 refine cX (CW r kA kC az cA cC bA bC slA slC drA drC ha heA heC hin (by exact A)) (bq [1,2,3,4,5,6,7,8]) U fun d J=>?_
 obtain ⟨K,W,L,M,N⟩:=d
 cases K
 rotate_left 1
 ·obtain ⟨AB,V⟩:=J.1 rfl
  try dsimp only [cond_true,cond_false,List.cons_append,List.nil_append]
  refine bI 5 U<|RK G<|ao fun _ D=>WS fun _ E=>bI 2 U<|RK E<|cp U<|WK D<|WS fun _ F=>rP 3 [] mn ?_
  refine RK F<|ar ?_
  refine LX hQ (true,0,L,M,N) [0,1] [] mn U (by (show List.all _ _=true; simp only [cond_true,fM,List.all_nil,DG,Bool.and_true]; rfl)) U U ?_
  exact ⟨fun _=>⟨Bm A AB,V⟩,Pv⟩
 obtain ⟨H,he⟩:=J.2 rfl
 try dsimp only at H he
 subst H
 try dsimp only [cond_true,cond_false,List.cons_append,List.nil_append]
 refine bI 5 U<|RK G<|ao fun _ X=>WS fun _ B=>bI 2 U<|RK B<|aS U<|WS fun _ C=>rP 2 [] mn ?_
 refine RK C<|ar<|LX hQ (false,60,none,0,[]) [] [] mn U (by rfl) U U ?_
 exact v8<|nY (kR A he)
end
section
open Go.RowKit
theorem Gi (r:fg) (kA:OA) (kC:Nat) (az:List RA) (cA:OA) (cC:Nat) (bA:OA) (bC:Nat) (slA:OA) (slC:Nat) (drA:OA) (drC:Nat) (ha:List dQ) (heA:OA) (heC:Nat) (hin:oW r az ha):
 dH Tryz.prog 50 [(vA (di.cells (DP r kA kC cA cC bA bC slA slC drA drC heA heC)))] [(rd kA r.aj.aL.length 9 (r.aj.aL.map au.cells)),(rd cA r.aj.ak.length 2 (List.zipWith ax.cells r.aj.ak az)),(d_ (bw ax.gL r.aj.ak az)),(rd bA r.aj.aa.length 4 (r.aj.aa.map bM.cells)),(rd slA r.aT.length 1 (r.aT.map iC)),(rd drA r.bS.length 1 (r.bS.map iC)),(rd heA r.aB.length 1 (List.zipWith dz r.aB ha)),(d_ (bw fy r.aB ha))] (vI (jP r)):=by
 have H:=hin.line
 have M:=hin.jd
 have N:=hin.has
 have J:=hin.ji
 have AB:=hin.draw
 have K:=lg (r:=r)
 refine bH kr Tryz.func50 U U fun V Q hQ hN=>?_
 try dsimp only
 refine WS fun _ G=>eK U fun AA=>bI 1 U<|RK G<|WS fun _ C=>rP 1 [] (mc 0 U mn) ?_
 refine cX (GR r kA kC az cA cC bA bC slA slC drA drC ha heA heC hin) (bq [1,2,3,4,5,6,7,8]) U fun T E=>?_
 obtain ⟨F,L,P,R,S⟩:=T
 cases F
 rotate_left 1
 ·obtain ⟨he,O⟩:=E.1 rfl
  try dsimp only [cond_true,cond_false,List.cons_append,List.nil_append]
  refine bI 5 U<|RK C<|WS fun _ B=>rP 2 [] mn ?_
  refine RK B<|ar<|Q1 hQ U U U ?_
  first|rfl|(rw [he])
 obtain ⟨D,he⟩:=E.2 rfl
 try dsimp only at D he
 subst D
 try dsimp only [cond_true,cond_false,List.cons_append,List.nil_append]
 refine bI 5 U<|RK C<|WS fun _ A=>rP 2 [] mn ?_
 refine RK A<|ar<|Q1 hQ U U U ?_
 first|rfl|(rw [he])
end
section
open Go.RowKit
theorem FP (j:cV) (kA:OA) (kC:Nat) (az:List RA) (cA:OA) (cC:Nat) (bA:OA) (bC:Nat) (slA:OA) (slC:Nat) (drA:OA) (drC:Nat) (ha:List dQ) (heA:OA) (heC:Nat) (faA:OA) (faC:Nat) (prA:OA) (prC:Nat) (hin:hH j az ha) (hjr:jP j.Race=0):
 dH Tryz.prog 51 [(vA (dh.cells (dh.mk (di.mk (bT.mk (bG.mk (aR.mk kA j.Race.aj.aL.length kC)) j.Race.aj.eI (aR.mk cA j.Race.aj.ak.length cC) (aR.mk bA j.Race.aj.aa.length bC) j.Race.aj.bK j.Race.aj.dj j.Race.aj.ck) (aR.mk slA j.Race.aT.length slC) (aR.mk drA j.Race.bS.length drC) j.Race.f_ (aR.mk heA j.Race.aB.length heC)) (aR.mk faA j.aC.length faC) (aR.mk prA j.aq.length prC) j.cu j.j2)))] [(rd kA j.Race.aj.aL.length 9 (j.Race.aj.aL.map au.cells)),(rd cA j.Race.aj.ak.length 2 (List.zipWith ax.cells j.Race.aj.ak az)),(d_ (bw ax.gL j.Race.aj.ak az)),(rd bA j.Race.aj.aa.length 4 (j.Race.aj.aa.map bM.cells)),(rd slA j.Race.aT.length 1 (j.Race.aT.map iC)),(rd drA j.Race.bS.length 1 (j.Race.bS.map iC)),(rd heA j.Race.aB.length 1 (List.zipWith dz j.Race.aB ha)),(d_ (bw fy j.Race.aB ha)),(rd faA j.aC.length 4 (j.aC.map aX.cells)),(rd prA j.aq.length 5 (j.aq.map a_.cells))] (vB (decide (nH j))):=by
 have n:=hin.race
 have Nh:=hin.race.line
 have Qn:=hin.race.jd
 have Qr:=hin.race.has
 have Or:=hin.race.ji
 have Ok:=hin.nf
 have Op:=hin.np
 have R0:=(e8 hjr).1
 have J3:=(e8 hjr).2
 refine bH kr Tryz.func51 U U fun w0 Q hQ hN=>?_
 try dsimp only
 refine WS fun _ L3=>eK U fun b2=>bI 1 U<|RK L3<|ao fun _ M2=>WS fun _ a=>rP 5 [] (mc 0 U mn) ?_
 refine cg (t:=12) U (aV fun h5=>?_) (aW fun h5=>?_)
 ·refine bI 17 U<|RK a<|aS U<|WS fun _ NE=>rP 1 [] mn ?_
  refine RK NE<|ar<|Q1 hQ U U U ?_
  first|exact cB (bx (fun q=>by have C:=q.nf; have H:=q.min_; have K:=q.pd; have L:=q.np; omega)).symm|exact cB (bx (fun q=>by have C:=q.fault f (aP hf); unfold eT at C; split at C<;>omega)).symm|exact cB (bx (fun q=>by have A:=q.hG _ p hp; have C:=A.id; have H:=A.jF; have K:=A.fZ; have L:=A.fault; simp only [oa] at H; first|omega|(have AA:=A.up R I J; omega))).symm|exact cB (bx (fun q=>by obtain ⟨S,G,AB,V⟩:=(q.hG _ p hp).iJ; rw [F] at G; cases G; first|exact E AB|exact h148 AB|omega)).symm|exact cB (c8 ⟨I,dL D I,I,I,I,fun i p hi=>B i p (by have:=(aY.1 hi).1; omega) hi⟩).symm
 refine e7 2 [] (mc 0 U mn) U<|rS (CL (jl j.cu 0 60) (aK) U)<|rP 3 [] mn ?_
 refine cg (t:=18) U (bu fun h7=>?_) (br fun h7=>?_)
 ·refine bI 11 U<|RK a<|aS U<|WS fun _ NW=>rP 1 [] mn ?_
  refine RK NW<|ar<|Q1 hQ U U U ?_
  first|exact cB (bx (fun q=>by have C:=q.nf; have H:=q.min_; have K:=q.pd; have L:=q.np; omega)).symm|exact cB (bx (fun q=>by have C:=q.fault f (aP hf); unfold eT at C; split at C<;>omega)).symm|exact cB (bx (fun q=>by have A:=q.hG _ p hp; have C:=A.id; have H:=A.jF; have K:=A.fZ; have L:=A.fault; simp only [oa] at H; first|omega|(have AA:=A.up R I J; omega))).symm|exact cB (bx (fun q=>by obtain ⟨S,G,AB,V⟩:=(q.hG _ p hp).iJ; rw [F] at G; cases G; first|exact E AB|exact h148 AB|omega)).symm|exact cB (c8 ⟨I,dL D I,I,I,I,fun i p hi=>B i p (by have:=(aY.1 hi).1; omega) hi⟩).symm
 refine e7 2 [] (mc 0 U mn) U<|rS (CL (jl j.j2 0 100000) (aK) U)<|rP 3 [] mn ?_
 refine cg (t:=24) U (bu fun h9=>?_) (br fun h9=>?_)
 ·refine bI 5 U<|RK a<|aS U<|WS fun _ u=>rP 1 [] mn ?_
  refine RK u<|ar<|Q1 hQ U U U ?_
  first|exact cB (bx (fun q=>by have C:=q.nf; have H:=q.min_; have K:=q.pd; have L:=q.np; omega)).symm|exact cB (bx (fun q=>by have C:=q.fault f (aP hf); unfold eT at C; split at C<;>omega)).symm|exact cB (bx (fun q=>by have A:=q.hG _ p hp; have C:=A.id; have H:=A.jF; have K:=A.fZ; have L:=A.fault; simp only [oa] at H; first|omega|(have AA:=A.up R I J; omega))).symm|exact cB (bx (fun q=>by obtain ⟨S,G,AB,V⟩:=(q.hG _ p hp).iJ; rw [F] at G; cases G; first|exact E AB|exact h148 AB|omega)).symm|exact cB (c8 ⟨I,dL D I,I,I,I,fun i p hi=>B i p (by have:=(aY.1 hi).1; omega) hi⟩).symm
 refine rP 5 [] (mc 0 U mn) ?_
 refine RK a<|cH U (aV fun J5=>?_) (aW fun J5=>?_)
 ·refine WS fun _ v=>rP 1 [] mn ?_
  refine RK v<|ar<|Q1 hQ U U U ?_
  first|exact cB (bx (fun q=>by have C:=q.nf; have H:=q.min_; have K:=q.pd; have L:=q.np; omega)).symm|exact cB (bx (fun q=>by have C:=q.fault f (aP hf); unfold eT at C; split at C<;>omega)).symm|exact cB (bx (fun q=>by have A:=q.hG _ p hp; have C:=A.id; have H:=A.jF; have K:=A.fZ; have L:=A.fault; simp only [oa] at H; first|omega|(have AA:=A.up R I J; omega))).symm|exact cB (bx (fun q=>by obtain ⟨S,G,AB,V⟩:=(q.hG _ p hp).iJ; rw [F] at G; cases G; first|exact E AB|exact h148 AB|omega)).symm|exact cB (c8 ⟨I,dL D I,I,I,I,fun i p hi=>B i p (by have:=(aY.1 hi).1; omega) hi⟩).symm
 refine WK M2<|ao fun _ w=>WS fun _ x=>rP 1 [] mn ?_
 refine RK x<|aF ?_
 have T:(0≤j.aC.length)∧(o_ j 0):=by exact ⟨Nat.zero_le _,AM⟩
 refine bZ (ι:={z:Nat // (z≤j.aC.length)∧(o_ j z)}) [1] [0,1,2,3,4,5,6,7,8,9,10] U U (fun z=>[(3,(vI (z.1:Int)))]) (fun z=>[]) (fun _=>rfl) (fun _=>rfl) (fun z=>j.aC.length-z.1) ⟨0,T⟩ (bE U) (aU [0,1,2,3,4,5,6,7,8,9,10]) ?_
 clear T
 rintro ⟨i,⟨Ne,D⟩⟩ J15 W
 try dsimp only
 refine ao fun _ y=>WS fun _ AC=>rP 5 [] (mc 0 U mn) ?_
 refine RK AC<|cH U (aV fun J6=>?_) (aW fun J6=>?_)
 ·refine WK y<|ao fun _ X=>aF<|WS fun _ AO=>rP 3 [] (mc 0 U mn) ?_
  obtain ⟨f,hf⟩:=aM j.aC i I
  have NZ:=bP aX.cells hf
  refine rS (IA i U (aA 9 U) BC dc I I)<|rS (lQ i 0 (aX.cells f) U cq (aA 9 U) NZ U dc U U)<|AL U Oe fun Os=>fK U Qp U<|RK AO<|ao fun _ Ak=>WS fun _ c=>e7 4 [] (mc 0 U mn) U<|rS (CL (jl f.my 0 f.To) (aK) U)<|rP 2 [] mn ?_
  refine cg (t:=48) U (bu fun J7=>?_) (br fun J7=>?_)
  ·refine bI 4 U<|RK c<|aS U<|WS fun _ A0=>rP 1 [] mn ?_
   refine RK A0<|ar<|Q1 hQ U U U ?_
   first|exact cB (bx (fun q=>by have C:=q.nf; have H:=q.min_; have K:=q.pd; have L:=q.np; omega)).symm|exact cB (bx (fun q=>by have C:=q.fault f (aP hf); unfold eT at C; split at C<;>omega)).symm|exact cB (bx (fun q=>by have A:=q.hG _ p hp; have C:=A.id; have H:=A.jF; have K:=A.fZ; have L:=A.fault; simp only [oa] at H; first|omega|(have AA:=A.up R I J; omega))).symm|exact cB (bx (fun q=>by obtain ⟨S,G,AB,V⟩:=(q.hG _ p hp).iJ; rw [F] at G; cases G; first|exact E AB|exact h148 AB|omega)).symm|exact cB (c8 ⟨I,dL D I,I,I,I,fun i p hi=>B i p (by have:=(aY.1 hi).1; omega) hi⟩).symm
  refine rP 4 [] (mc 0 U mn) ?_
  refine RK c<|cH U (aV fun J8=>?_) (aW fun J8=>?_)
  ·refine WS fun _ A1=>rP 1 [] mn ?_
   refine RK A1<|ar<|Q1 hQ U U U ?_
   first|exact cB (bx (fun q=>by have C:=q.nf; have H:=q.min_; have K:=q.pd; have L:=q.np; omega)).symm|exact cB (bx (fun q=>by have C:=q.fault f (aP hf); unfold eT at C; split at C<;>omega)).symm|exact cB (bx (fun q=>by have A:=q.hG _ p hp; have C:=A.id; have H:=A.jF; have K:=A.fZ; have L:=A.fault; simp only [oa] at H; first|omega|(have AA:=A.up R I J; omega))).symm|exact cB (bx (fun q=>by obtain ⟨S,G,AB,V⟩:=(q.hG _ p hp).iJ; rw [F] at G; cases G; first|exact E AB|exact h148 AB|omega)).symm|exact cB (c8 ⟨I,dL D I,I,I,I,fun i p hi=>B i p (by have:=(aY.1 hi).1; omega) hi⟩).symm
  refine WK Ak<|WS fun _ A2=>e7 2 [] (mc 0 U mn) U<|RK A2<|aF<|WS fun _ A3=>rS (BI U mX)<|rP 1 [] mn ?_
  refine RK A3<|cH U (aV fun J9=>?_) (aW fun J9=>?_)
  ·refine WS fun _ A4=>rP 3 [] (mc 0 U mn) ?_
   refine RK A4<|bV U (br fun Ka=>?_) (bu fun Ka=>?_)
   ·refine ct<|aN<|aN<|KK X<|av<|rP 3 [] mn ?_
    refine aH ?_
    have IR:(vI (((i+1):Nat):Int))=(vI ((i:Int)+1)):=by exact cI I
    refine bp (W ⟨(i+1),⟨I,rm D hf (by refine ⟨I,I,I,?_⟩; split<;>omega)⟩⟩ _ _ _ U os (dG.cons U<|bk U IR<|dG.nil _) (aU [1,2,3,4,5,6,7,8,9,10,11]))
   refine WS fun _ A5=>rP 1 [] mn ?_
   refine RK A5<|ar<|Q1 hQ U U U ?_
   first|exact cB (bx (fun q=>by have C:=q.nf; have H:=q.min_; have K:=q.pd; have L:=q.np; omega)).symm|exact cB (bx (fun q=>by have C:=q.fault f (aP hf); unfold eT at C; split at C<;>omega)).symm|exact cB (bx (fun q=>by have A:=q.hG _ p hp; have C:=A.id; have H:=A.jF; have K:=A.fZ; have L:=A.fault; simp only [oa] at H; first|omega|(have AA:=A.up R I J; omega))).symm|exact cB (bx (fun q=>by obtain ⟨S,G,AB,V⟩:=(q.hG _ p hp).iJ; rw [F] at G; cases G; first|exact E AB|exact h148 AB|omega)).symm|exact cB (c8 ⟨I,dL D I,I,I,I,fun i p hi=>B i p (by have:=(aY.1 hi).1; omega) hi⟩).symm
  refine ao fun _ e=>WS fun _ A6=>rS (BI U mX)<|rP 1 [] mn ?_
  refine RK A6<|cH U (aV fun Kh=>?_) (aW fun Kh=>?_)
  ·refine WK e<|bV U (aW fun Kj=>?_) (aV fun Kj=>?_)
   ·refine WS fun _ A9=>rP 1 [] mn ?_
    refine RK A9<|ar<|Q1 hQ U U U ?_
    first|exact cB (bx (fun q=>by have C:=q.nf; have H:=q.min_; have K:=q.pd; have L:=q.np; omega)).symm|exact cB (bx (fun q=>by have C:=q.fault f (aP hf); unfold eT at C; split at C<;>omega)).symm|exact cB (bx (fun q=>by have A:=q.hG _ p hp; have C:=A.id; have H:=A.jF; have K:=A.fZ; have L:=A.fault; simp only [oa] at H; first|omega|(have AA:=A.up R I J; omega))).symm|exact cB (bx (fun q=>by obtain ⟨S,G,AB,V⟩:=(q.hG _ p hp).iJ; rw [F] at G; cases G; first|exact E AB|exact h148 AB|omega)).symm|exact cB (c8 ⟨I,dL D I,I,I,I,fun i p hi=>B i p (by have:=(aY.1 hi).1; omega) hi⟩).symm
   refine WS fun _ A7=>e7 6 [0,1] (mc 0 U (mc 1 U mn)) U<|rS (CL (jl f.ik 0 j.Race.aj.bK) (aK) U)<|rP 1 [] mn ?_
   refine RK A7<|bV U (br fun Kz=>?_) (bu fun Kz=>?_)
   ·refine ct<|aN<|aN<|KK X<|av<|rP 3 [] mn ?_
    refine aH ?_
    have Ie:(vI (((i+1):Nat):Int))=(vI ((i:Int)+1)):=by exact cI I
    refine bp (W ⟨(i+1),⟨I,rm D hf (by refine ⟨I,I,I,?_⟩; split<;>omega)⟩⟩ _ _ _ U os (dG.cons U<|bk U Ie<|dG.nil _) (aU [1,2,3,4,5,6,7,8,9,10,11]))
   refine WS fun _ A8=>rP 1 [] mn ?_
   refine RK A8<|ar<|Q1 hQ U U U ?_
   first|exact cB (bx (fun q=>by have C:=q.nf; have H:=q.min_; have K:=q.pd; have L:=q.np; omega)).symm|exact cB (bx (fun q=>by have C:=q.fault f (aP hf); unfold eT at C; split at C<;>omega)).symm|exact cB (bx (fun q=>by have A:=q.hG _ p hp; have C:=A.id; have H:=A.jF; have K:=A.fZ; have L:=A.fault; simp only [oa] at H; first|omega|(have AA:=A.up R I J; omega))).symm|exact cB (bx (fun q=>by obtain ⟨S,G,AB,V⟩:=(q.hG _ p hp).iJ; rw [F] at G; cases G; first|exact E AB|exact h148 AB|omega)).symm|exact cB (c8 ⟨I,dL D I,I,I,I,fun i p hi=>B i p (by have:=(aY.1 hi).1; omega) hi⟩).symm
  refine av<|rS (BI U mX)<|rP 1 [] mn ?_
  refine RK e<|bV U (aW fun K0=>?_) (aV fun K0=>?_)
  ·refine WS fun _ B9=>rP 1 [] mn ?_
   refine RK B9<|ar<|Q1 hQ U U U ?_
   first|exact cB (bx (fun q=>by have C:=q.nf; have H:=q.min_; have K:=q.pd; have L:=q.np; omega)).symm|exact cB (bx (fun q=>by have C:=q.fault f (aP hf); unfold eT at C; split at C<;>omega)).symm|exact cB (bx (fun q=>by have A:=q.hG _ p hp; have C:=A.id; have H:=A.jF; have K:=A.fZ; have L:=A.fault; simp only [oa] at H; first|omega|(have AA:=A.up R I J; omega))).symm|exact cB (bx (fun q=>by obtain ⟨S,G,AB,V⟩:=(q.hG _ p hp).iJ; rw [F] at G; cases G; first|exact E AB|exact h148 AB|omega)).symm|exact cB (c8 ⟨I,dL D I,I,I,I,fun i p hi=>B i p (by have:=(aY.1 hi).1; omega) hi⟩).symm
  refine WS fun _ BF=>e7 6 [0,1] (mc 0 U (mc 1 U mn)) U<|rS (CL (jl f.ik 0 j.Race.aj.bK) (aK) U)<|rP 1 [] mn ?_
  refine RK BF<|bV U (br fun K4=>?_) (bu fun K4=>?_)
  ·refine ct<|aN<|aN<|KK X<|av<|rP 3 [] mn ?_
   refine aH ?_
   have If:(vI (((i+1):Nat):Int))=(vI ((i:Int)+1)):=by exact cI I
   refine bp (W ⟨(i+1),⟨I,rm D hf (by refine ⟨I,I,I,?_⟩; split<;>omega)⟩⟩ _ _ _ U os (dG.cons U<|bk U If<|dG.nil _) (aU [1,2,3,4,5,6,7,8,9,10,11]))
  refine WS fun _ B3=>rP 1 [] mn ?_
  refine RK B3<|ar<|Q1 hQ U U U ?_
  first|exact cB (bx (fun q=>by have C:=q.nf; have H:=q.min_; have K:=q.pd; have L:=q.np; omega)).symm|exact cB (bx (fun q=>by have C:=q.fault f (aP hf); unfold eT at C; split at C<;>omega)).symm|exact cB (bx (fun q=>by have A:=q.hG _ p hp; have C:=A.id; have H:=A.jF; have K:=A.fZ; have L:=A.fault; simp only [oa] at H; first|omega|(have AA:=A.up R I J; omega))).symm|exact cB (bx (fun q=>by obtain ⟨S,G,AB,V⟩:=(q.hG _ p hp).iJ; rw [F] at G; cases G; first|exact E AB|exact h148 AB|omega)).symm|exact cB (c8 ⟨I,dL D I,I,I,I,fun i p hi=>B i p (by have:=(aY.1 hi).1; omega) hi⟩).symm
 refine bQ<|ai<|ai<|aI<|KK w<|ao fun _ CM=>WS fun _ Ci=>rP 1 [] mn ?_
 refine RK Ci<|aF ?_
 have T:(0≤j.aq.length)∧(oH j 0):=by exact ⟨Nat.zero_le _,xO⟩
 refine bZ (ι:={z:Nat // (z≤j.aq.length)∧(oH j z)}) [1] [0,1,2,3,4,5,6,7,8,9,10] U U (fun z=>[(5,(vI (z.1:Int)))]) (fun z=>[]) (fun _=>rfl) (fun _=>rfl) (fun z=>j.aq.length-z.1) ⟨0,T⟩ (bE U) (aU [0,1,2,3,4,5,6,7,8,9,10]) ?_
 clear T
 rintro ⟨k,⟨J4,B⟩⟩ J52 b
 try dsimp only
 refine ao fun _ Ck=>WS fun _ Cp=>rP 5 [] (mc 0 U mn) ?_
 refine RK Cp<|bV U (aW fun K5=>?_) (aV fun K5=>?_)
 ·refine bQ<|ai<|ai<|aI<|KK CM<|WS fun _ GT=>rP 1 [] mn ?_
  refine RK GT<|ar<|Q1 hQ U U U ?_
  first|exact cB (bx (fun q=>by have C:=q.nf; have H:=q.min_; have K:=q.pd; have L:=q.np; omega)).symm|exact cB (bx (fun q=>by have C:=q.fault f (aP hf); unfold eT at C; split at C<;>omega)).symm|exact cB (bx (fun q=>by have A:=q.hG _ p hp; have C:=A.id; have H:=A.jF; have K:=A.fZ; have L:=A.fault; simp only [oa] at H; first|omega|(have AA:=A.up R I J; omega))).symm|exact cB (bx (fun q=>by obtain ⟨S,G,AB,V⟩:=(q.hG _ p hp).iJ; rw [F] at G; cases G; first|exact E AB|exact h148 AB|omega)).symm|exact cB (c8 ⟨I,dL D I,I,I,I,fun i p hi=>B i p (by have:=(aY.1 hi).1; omega) hi⟩).symm
 refine WK Ck<|ao fun _ g=>aF<|WS fun _ Cx=>rP 3 [] (mc 0 U mn) ?_
 obtain ⟨p,hp⟩:=aM j.aq k I
 have Nv:=bP a_.cells hp
 refine rS (IA k U (aA 10 U) Ar dc I I)<|rS (lQ k 0 (a_.cells p) U cq (aA 10 U) Nv U dc U U)<|AL U I3 fun O2=>fK U LY U<|RK Cx<|ao fun _ h=>ao fun _ P=>dw cx 52 kr<|lU 2 [] (mc 0 U mn) U<|dS (CL (jl p.Id 0 9999) (aK) U)<|dP 2 [] mn ?_
 refine ia (t:=87) U (bu fun K8=>?_) (br fun K8=>?_)
 ·refine k7 47 U<|cK<|RK P<|aS U<|WS fun _ C0=>rP 1 [] mn ?_
  refine RK C0<|ar<|Q1 hQ U U U ?_
  first|exact cB (bx (fun q=>by have C:=q.nf; have H:=q.min_; have K:=q.pd; have L:=q.np; omega)).symm|exact cB (bx (fun q=>by have C:=q.fault f (aP hf); unfold eT at C; split at C<;>omega)).symm|exact cB (bx (fun q=>by have A:=q.hG _ p hp; have C:=A.id; have H:=A.jF; have K:=A.fZ; have L:=A.fault; simp only [oa] at H; first|omega|(have AA:=A.up R I J; omega))).symm|exact cB (bx (fun q=>by obtain ⟨S,G,AB,V⟩:=(q.hG _ p hp).iJ; rw [F] at G; cases G; first|exact E AB|exact h148 AB|omega)).symm|exact cB (c8 ⟨I,dL D I,I,I,I,fun i p hi=>B i p (by have:=(aY.1 hi).1; omega) hi⟩).symm
 refine dP 3 [] mn ?_
 refine jM (t:=90) U (aW fun LA=>?_) (aV fun LA=>?_)
 ·refine lU 20 [0,1] (mc 0 U (mc 1 U mn)) U<|dS (CL (jl p.iu 0 ((j.Race.aT.length:Int)-1)) (aK) U)<|dP 3 [] mn ?_
  refine ia (t:=114) U (bu fun Lo=>?_) (br fun Lo=>?_)
  ·refine k7 20 U<|cK<|RK P<|aS U<|WS fun _ Eq=>rP 1 [] mn ?_
   refine RK Eq<|ar<|Q1 hQ U U U ?_
   first|exact cB (bx (fun q=>by have C:=q.nf; have H:=q.min_; have K:=q.pd; have L:=q.np; omega)).symm|exact cB (bx (fun q=>by have C:=q.fault f (aP hf); unfold eT at C; split at C<;>omega)).symm|exact cB (bx (fun q=>by have A:=q.hG _ p hp; have C:=A.id; have H:=A.jF; have K:=A.fZ; have L:=A.fault; simp only [oa] at H; first|omega|(have AA:=A.up R I J; omega))).symm|exact cB (bx (fun q=>by obtain ⟨S,G,AB,V⟩:=(q.hG _ p hp).iJ; rw [F] at G; cases G; first|exact E AB|exact h148 AB|omega)).symm|exact cB (c8 ⟨I,dL D I,I,I,I,fun i p hi=>B i p (by have:=(aY.1 hi).1; omega) hi⟩).symm
  refine lU 7 [0,1] (mc 0 U (mc 1 U mn)) U<|dS (CL (jl p.jt 0 ((j.Race.aB.length:Int)-1)) (aK) U)<|dP 3 [] mn ?_
  refine ia (t:=125) U (bu fun Lx=>?_) (br fun Lx=>?_)
  ·refine k7 9 U<|cK<|RK P<|aS U<|WS fun _ FS=>rP 1 [] mn ?_
   refine RK FS<|ar<|Q1 hQ U U U ?_
   first|exact cB (bx (fun q=>by have C:=q.nf; have H:=q.min_; have K:=q.pd; have L:=q.np; omega)).symm|exact cB (bx (fun q=>by have C:=q.fault f (aP hf); unfold eT at C; split at C<;>omega)).symm|exact cB (bx (fun q=>by have A:=q.hG _ p hp; have C:=A.id; have H:=A.jF; have K:=A.fZ; have L:=A.fault; simp only [oa] at H; first|omega|(have AA:=A.up R I J; omega))).symm|exact cB (bx (fun q=>by obtain ⟨S,G,AB,V⟩:=(q.hG _ p hp).iJ; rw [F] at G; cases G; first|exact E AB|exact h148 AB|omega)).symm|exact cB (c8 ⟨I,dL D I,I,I,I,fun i p hi=>B i p (by have:=(aY.1 hi).1; omega) hi⟩).symm
  refine lU 6 [0,1] (mc 0 U (mc 1 U mn)) U<|dS (CL (jl p.jU 0 ((j.aC.length:Int)-1)) (aK) U)<|dP 2 [] mn ?_
  refine cK<|RK P<|cH U (bu fun L0=>?_) (br fun L0=>?_)
  ·refine WS fun _ Fd=>rP 1 [] mn ?_
   refine RK Fd<|ar<|Q1 hQ U U U ?_
   first|exact cB (bx (fun q=>by have C:=q.nf; have H:=q.min_; have K:=q.pd; have L:=q.np; omega)).symm|exact cB (bx (fun q=>by have C:=q.fault f (aP hf); unfold eT at C; split at C<;>omega)).symm|exact cB (bx (fun q=>by have A:=q.hG _ p hp; have C:=A.id; have H:=A.jF; have K:=A.fZ; have L:=A.fault; simp only [oa] at H; first|omega|(have AA:=A.up R I J; omega))).symm|exact cB (bx (fun q=>by obtain ⟨S,G,AB,V⟩:=(q.hG _ p hp).iJ; rw [F] at G; cases G; first|exact E AB|exact h148 AB|omega)).symm|exact cB (c8 ⟨I,dL D I,I,I,I,fun i p hi=>B i p (by have:=(aY.1 hi).1; omega) hi⟩).symm
  refine WK h<|ao fun _ Fn=>dV cx [11,12] [] [] [0,1,2,3,4,5,6,7,8,9,10,11] [] U U U U U<|eS U (FA 0 U fT U)<|eS U (FA 10 U fT U)<|eS U (L1 (vS heA j.Race.aB.length heC) 1 U cq U U)<|eS U (FA 2 U fT U)<|eS U (L1 (vI p.jt) 0 U cq U U) ?_
  obtain ⟨ht,O⟩:=aM j.Race.aB ((p.jt).toNat) I
  obtain ⟨M,N⟩:=aM ha ((p.jt).toNat) I
  have Z:(List.zipWith dz j.Race.aB ha)[(p.jt).toNat]? =some (dz ht M):=er O N
  refine eS U (IA ((p.jt).toNat) U (aA 8 U) sT dc I I) ?_
  have Y:=n.fZ _ _ _ O N
  have Ja:=Y.oY
  have J2:=(J3.fZ ht (aP O)).1
  refine eS U (iK ((p.jt).toNat) 0 (vS M.1.1 ht.length M.1.2) U cq (aA 8 U) Z U dc U)<|eS U (FA 1 U fT U)<|eS U (L1 (vI p.iu) 0 U cq U U) ?_
  obtain ⟨d,hd⟩:=aM ht ((p.iu).toNat) I
  obtain ⟨da,o⟩:=aM M.2 ((p.iu).toNat) I
  have r:(List.zipWith ay.cells ht M.2)[(p.iu).toNat]? =some (ay.cells d da):=er hd o
  refine eS U (IA ((p.iu).toNat) U (show js _ (rd M.1.1 ht.length 7 (List.zipWith ay.cells ht M.2)).holds from (df 9 U (bW O N cJ))) vn dc I I) ?_
  have F:=pE (j:=j) (p:=p) O hd
  have OR:=Y.sig d (aP hd)
  refine eS U (lQ ((p.iu).toNat) 0 (aO.cells (aO.mk d.Out d.dx d.Time (cU.mk d.bD.Start d.bD.gd (aR.mk da.1 d.bD.ab.length da.2)))) U cq (show js _ (rd M.1.1 ht.length 7 (List.zipWith ay.cells ht M.2)).holds from (df 9 U (bW O N cJ))) r U dc U U)<|eJ U<|cv U fun T88 H1=>AL U AU fun PI=>aH (H1 _ _ (aU [1,2,3,4,5,6,7,8,9,10,11,12]) ?_)
  refine cv U fun T90 IO=>fK U Gv U<|aH (IO _ _ (aU [1,2,3,4,5,6,7,8,9,10,11,12]) ?_)
  refine fY U<|KK Fn<|WS fun _ m=>e7 1 [] (mc 0 U mn) U<|rS (CL (ES d.Out d.dx d.Time (cU.mk d.bD.Start d.bD.gd (aR.mk da.1 d.bD.ab.length da.2))) (aK) U)<|rP 2 [] mn ?_
  refine cg (t:=149) U (bu fun E=>?_) (br fun E=>?_)
  ·refine bI 8 U<|RK m<|aS U<|WS fun _ F9=>rP 1 [] mn ?_
   refine RK F9<|ar<|Q1 hQ U U U ?_
   first|exact cB (bx (fun q=>by have C:=q.nf; have H:=q.min_; have K:=q.pd; have L:=q.np; omega)).symm|exact cB (bx (fun q=>by have C:=q.fault f (aP hf); unfold eT at C; split at C<;>omega)).symm|exact cB (bx (fun q=>by have A:=q.hG _ p hp; have C:=A.id; have H:=A.jF; have K:=A.fZ; have L:=A.fault; simp only [oa] at H; first|omega|(have AA:=A.up R I J; omega))).symm|exact cB (bx (fun q=>by obtain ⟨S,G,AB,V⟩:=(q.hG _ p hp).iJ; rw [F] at G; cases G; first|exact E AB|exact h148 AB|omega)).symm|exact cB (c8 ⟨I,dL D I,I,I,I,fun i p hi=>B i p (by have:=(aY.1 hi).1; omega) hi⟩).symm
  refine e7 5 [0,1] (mc 1 U (mc 0 U mn)) U<|rS (CL (jl p.At d.bD.Start 86400000) (aK) U)<|rP 2 [] mn ?_
  refine RK m<|bV U (br fun L2=>?_) (bu fun L2=>?_)
  ·refine ct<|aN<|KK g<|av<|rP 3 [] mn ?_
   refine aH ?_
   have I8:(vI (((k+1):Nat):Int))=(vI ((k:Int)+1)):=by exact cI I
   refine bp (b ⟨(k+1),⟨I,p7 B hp ⟨I,fun q h1 s=>by first|omega|(rw [J] at s; cases s; omega),by simp only [oa]; omega,I,I,d,F,by first|exact E|exact h148,I⟩⟩⟩ _ _ _ rfl os (dG.cons rfl<|bk rfl I8<|dG.nil _) (aU [2,3,4,5,6,7,8,9,10,11,12]))
  refine WS fun _ GE=>rP 1 [] mn ?_
  refine RK GE<|ar<|Q1 hQ U U U ?_
  first|exact cB (bx (fun q=>by have C:=q.nf; have H:=q.min_; have K:=q.pd; have L:=q.np; omega)).symm|exact cB (bx (fun q=>by have C:=q.fault f (aP hf); unfold eT at C; split at C<;>omega)).symm|exact cB (bx (fun q=>by have A:=q.hG _ p hp; have C:=A.id; have H:=A.jF; have K:=A.fZ; have L:=A.fault; simp only [oa] at H; first|omega|(have AA:=A.up R I J; omega))).symm|exact cB (bx (fun q=>by obtain ⟨S,G,AB,V⟩:=(q.hG _ p hp).iJ; rw [F] at G; cases G; first|exact E AB|exact h148 AB|omega)).symm|exact cB (c8 ⟨I,dL D I,I,I,I,fun i p hi=>B i p (by have:=(aY.1 hi).1; omega) hi⟩).symm
 refine dP 6 [0,1] (mc 0 U (mc 1 U mn)) ?_
 obtain ⟨R,J⟩:=aM j.aq (k-1) I
 have hp0m:=bP a_.cells J
 refine dS (IA (k-1) U (aA 11 U) Ar dc I I)<|dS (qA ((k-1)*5) U (aA 11 U) (Nat.mul_pos I dc) fT U)<|dS (iK (k-1) 0 (vI R.Id) U cq (aA 11 U) hp0m U dc U)<|dP 4 [] mn ?_
 refine ia (t:=103) U (aV fun LE=>?_) (aW fun LE=>?_)
 ·refine k7 31 U<|cK<|RK P<|aS U<|WS fun _ C1=>rP 1 [] mn ?_
  refine RK C1<|ar<|Q1 hQ U U U ?_
  first|exact cB (bx (fun q=>by have C:=q.nf; have H:=q.min_; have K:=q.pd; have L:=q.np; omega)).symm|exact cB (bx (fun q=>by have C:=q.fault f (aP hf); unfold eT at C; split at C<;>omega)).symm|exact cB (bx (fun q=>by have A:=q.hG _ p hp; have C:=A.id; have H:=A.jF; have K:=A.fZ; have L:=A.fault; simp only [oa] at H; first|omega|(have AA:=A.up R I J; omega))).symm|exact cB (bx (fun q=>by obtain ⟨S,G,AB,V⟩:=(q.hG _ p hp).iJ; rw [F] at G; cases G; first|exact E AB|exact h148 AB|omega)).symm|exact cB (c8 ⟨I,dL D I,I,I,I,fun i p hi=>B i p (by have:=(aY.1 hi).1; omega) hi⟩).symm
 refine lU 7 [0,1] (mc 0 U (mc 1 U mn)) U<|dS (CL (jl p.iu 0 ((j.Race.aT.length:Int)-1)) (aK) U)<|dP 3 [] mn ?_
 refine ia (t:=114) U (bu fun LT=>?_) (br fun LT=>?_)
 ·refine k7 20 U<|cK<|RK P<|aS U<|WS fun _ C2=>rP 1 [] mn ?_
  refine RK C2<|ar<|Q1 hQ U U U ?_
  first|exact cB (bx (fun q=>by have C:=q.nf; have H:=q.min_; have K:=q.pd; have L:=q.np; omega)).symm|exact cB (bx (fun q=>by have C:=q.fault f (aP hf); unfold eT at C; split at C<;>omega)).symm|exact cB (bx (fun q=>by have A:=q.hG _ p hp; have C:=A.id; have H:=A.jF; have K:=A.fZ; have L:=A.fault; simp only [oa] at H; first|omega|(have AA:=A.up R I J; omega))).symm|exact cB (bx (fun q=>by obtain ⟨S,G,AB,V⟩:=(q.hG _ p hp).iJ; rw [F] at G; cases G; first|exact E AB|exact h148 AB|omega)).symm|exact cB (c8 ⟨I,dL D I,I,I,I,fun i p hi=>B i p (by have:=(aY.1 hi).1; omega) hi⟩).symm
 refine lU 7 [0,1] (mc 0 U (mc 1 U mn)) U<|dS (CL (jl p.jt 0 ((j.Race.aB.length:Int)-1)) (aK) U)<|dP 3 [] mn ?_
 refine ia (t:=125) U (bu fun La=>?_) (br fun La=>?_)
 ·refine k7 9 U<|cK<|RK P<|aS U<|WS fun _ C3=>rP 1 [] mn ?_
  refine RK C3<|ar<|Q1 hQ U U U ?_
  first|exact cB (bx (fun q=>by have C:=q.nf; have H:=q.min_; have K:=q.pd; have L:=q.np; omega)).symm|exact cB (bx (fun q=>by have C:=q.fault f (aP hf); unfold eT at C; split at C<;>omega)).symm|exact cB (bx (fun q=>by have A:=q.hG _ p hp; have C:=A.id; have H:=A.jF; have K:=A.fZ; have L:=A.fault; simp only [oa] at H; first|omega|(have AA:=A.up R I J; omega))).symm|exact cB (bx (fun q=>by obtain ⟨S,G,AB,V⟩:=(q.hG _ p hp).iJ; rw [F] at G; cases G; first|exact E AB|exact h148 AB|omega)).symm|exact cB (c8 ⟨I,dL D I,I,I,I,fun i p hi=>B i p (by have:=(aY.1 hi).1; omega) hi⟩).symm
 refine lU 6 [0,1] (mc 0 U (mc 1 U mn)) U<|dS (CL (jl p.jU 0 ((j.aC.length:Int)-1)) (aK) U)<|dP 2 [] mn ?_
 refine cK<|RK P<|cH U (bu fun Li=>?_) (br fun Li=>?_)
 ·refine WS fun _ Di=>rP 1 [] mn ?_
  refine RK Di<|ar<|Q1 hQ U U U ?_
  first|exact cB (bx (fun q=>by have C:=q.nf; have H:=q.min_; have K:=q.pd; have L:=q.np; omega)).symm|exact cB (bx (fun q=>by have C:=q.fault f (aP hf); unfold eT at C; split at C<;>omega)).symm|exact cB (bx (fun q=>by have A:=q.hG _ p hp; have C:=A.id; have H:=A.jF; have K:=A.fZ; have L:=A.fault; simp only [oa] at H; first|omega|(have AA:=A.up R I J; omega))).symm|exact cB (bx (fun q=>by obtain ⟨S,G,AB,V⟩:=(q.hG _ p hp).iJ; rw [F] at G; cases G; first|exact E AB|exact h148 AB|omega)).symm|exact cB (c8 ⟨I,dL D I,I,I,I,fun i p hi=>B i p (by have:=(aY.1 hi).1; omega) hi⟩).symm
 refine WK h<|ao fun _ Do=>dV cx [11,12] [] [] [0,1,2,3,4,5,6,7,8,9,10,11] [] U U U U U<|eS U (FA 0 U fT U)<|eS U (FA 10 U fT U)<|eS U (L1 (vS heA j.Race.aB.length heC) 1 U cq U U)<|eS U (FA 2 U fT U)<|eS U (L1 (vI p.jt) 0 U cq U U) ?_
 obtain ⟨ht,O⟩:=aM j.Race.aB ((p.jt).toNat) I
 obtain ⟨M,N⟩:=aM ha ((p.jt).toNat) I
 have Z:(List.zipWith dz j.Race.aB ha)[(p.jt).toNat]? =some (dz ht M):=er O N
 refine eS U (IA ((p.jt).toNat) U (aA 8 U) sT dc I I) ?_
 have Y:=n.fZ _ _ _ O N
 have Ja:=Y.oY
 have J2:=(J3.fZ ht (aP O)).1
 refine eS U (iK ((p.jt).toNat) 0 (vS M.1.1 ht.length M.1.2) U cq (aA 8 U) Z U dc U)<|eS U (FA 1 U fT U)<|eS U (L1 (vI p.iu) 0 U cq U U) ?_
 obtain ⟨d,hd⟩:=aM ht ((p.iu).toNat) I
 obtain ⟨da,o⟩:=aM M.2 ((p.iu).toNat) I
 have r:(List.zipWith ay.cells ht M.2)[(p.iu).toNat]? =some (ay.cells d da):=er hd o
 refine eS U (IA ((p.iu).toNat) U (show js _ (rd M.1.1 ht.length 7 (List.zipWith ay.cells ht M.2)).holds from (df 9 U (bW O N cJ))) vn dc I I) ?_
 have F:=pE (j:=j) (p:=p) O hd
 have OR:=Y.sig d (aP hd)
 refine eS U (lQ ((p.iu).toNat) 0 (aO.cells (aO.mk d.Out d.dx d.Time (cU.mk d.bD.Start d.bD.gd (aR.mk da.1 d.bD.ab.length da.2)))) U cq (show js _ (rd M.1.1 ht.length 7 (List.zipWith ay.cells ht M.2)).holds from (df 9 U (bW O N cJ))) r U dc U U)<|eJ U<|cv U fun T73 Go=>AL U AU fun O3=>aH (Go _ _ (aU [1,2,3,4,5,6,7,8,9,10,11,12]) ?_)
 refine cv U fun T75 Hi=>fK U Gv U<|aH (Hi _ _ (aU [1,2,3,4,5,6,7,8,9,10,11,12]) ?_)
 refine fY U<|KK Do<|WS fun _ l=>e7 1 [] (mc 0 U mn) U<|rS (CL (ES d.Out d.dx d.Time (cU.mk d.bD.Start d.bD.gd (aR.mk da.1 d.bD.ab.length da.2))) (aK) U)<|rP 2 [] mn ?_
 refine cg (t:=149) U (bu fun E=>?_) (br fun E=>?_)
 ·refine bI 8 U<|RK l<|aS U<|WS fun _ EP=>rP 1 [] mn ?_
  refine RK EP<|ar<|Q1 hQ U U U ?_
  first|exact cB (bx (fun q=>by have C:=q.nf; have H:=q.min_; have K:=q.pd; have L:=q.np; omega)).symm|exact cB (bx (fun q=>by have C:=q.fault f (aP hf); unfold eT at C; split at C<;>omega)).symm|exact cB (bx (fun q=>by have A:=q.hG _ p hp; have C:=A.id; have H:=A.jF; have K:=A.fZ; have L:=A.fault; simp only [oa] at H; first|omega|(have AA:=A.up R I J; omega))).symm|exact cB (bx (fun q=>by obtain ⟨S,G,AB,V⟩:=(q.hG _ p hp).iJ; rw [F] at G; cases G; first|exact E AB|exact h148 AB|omega)).symm|exact cB (c8 ⟨I,dL D I,I,I,I,fun i p hi=>B i p (by have:=(aY.1 hi).1; omega) hi⟩).symm
 refine e7 5 [0,1] (mc 1 U (mc 0 U mn)) U<|rS (CL (jl p.At d.bD.Start 86400000) (aK) U)<|rP 2 [] mn ?_
 refine RK l<|bV U (br fun Lk=>?_) (bu fun Lk=>?_)
 ·refine ct<|aN<|KK g<|av<|rP 3 [] mn ?_
  refine aH ?_
  have In:(vI (((k+1):Nat):Int))=(vI ((k:Int)+1)):=by exact cI I
  refine bp (b ⟨(k+1),⟨I,p7 B hp ⟨I,fun q h1 s=>by first|omega|(rw [J] at s; cases s; omega),by simp only [oa]; omega,I,I,d,F,by first|exact E|exact h148,I⟩⟩⟩ _ _ _ rfl os (dG.cons rfl<|bk rfl In<|dG.nil _) (aU [2,3,4,5,6,7,8,9,10,11,12]))
 refine WS fun _ EQ=>rP 1 [] mn ?_
 refine RK EQ<|ar<|Q1 hQ U U U ?_
 first|exact cB (bx (fun q=>by have C:=q.nf; have H:=q.min_; have K:=q.pd; have L:=q.np; omega)).symm|exact cB (bx (fun q=>by have C:=q.fault f (aP hf); unfold eT at C; split at C<;>omega)).symm|exact cB (bx (fun q=>by have A:=q.hG _ p hp; have C:=A.id; have H:=A.jF; have K:=A.fZ; have L:=A.fault; simp only [oa] at H; first|omega|(have AA:=A.up R I J; omega))).symm|exact cB (bx (fun q=>by obtain ⟨S,G,AB,V⟩:=(q.hG _ p hp).iJ; rw [F] at G; cases G; first|exact E AB|exact h148 AB|omega)).symm|exact cB (c8 ⟨I,dL D I,I,I,I,fun i p hi=>B i p (by have:=(aY.1 hi).1; omega) hi⟩).symm
end
section
open Go.RowKit
theorem Cf (j:cV) (kA:OA) (kC:Nat) (az:List RA) (cA:OA) (cC:Nat) (bA:OA) (bC:Nat) (slA:OA) (slC:Nat) (drA:OA) (drC:Nat) (ha:List dQ) (heA:OA) (heC:Nat) (faA:OA) (faC:Nat) (prA:OA) (prC:Nat) (hin:hH j az ha):
 dH Tryz.prog 28 [(vA (dh.cells (dh.mk (di.mk (bT.mk (bG.mk (aR.mk kA j.Race.aj.aL.length kC)) j.Race.aj.eI (aR.mk cA j.Race.aj.ak.length cC) (aR.mk bA j.Race.aj.aa.length bC) j.Race.aj.bK j.Race.aj.dj j.Race.aj.ck) (aR.mk slA j.Race.aT.length slC) (aR.mk drA j.Race.bS.length drC) j.Race.f_ (aR.mk heA j.Race.aB.length heC)) (aR.mk faA j.aC.length faC) (aR.mk prA j.aq.length prC) j.cu j.j2)))] [(rd kA j.Race.aj.aL.length 9 (j.Race.aj.aL.map au.cells)),(rd cA j.Race.aj.ak.length 2 (List.zipWith ax.cells j.Race.aj.ak az)),(d_ (bw ax.gL j.Race.aj.ak az)),(rd bA j.Race.aj.aa.length 4 (j.Race.aj.aa.map bM.cells)),(rd slA j.Race.aT.length 1 (j.Race.aT.map iC)),(rd drA j.Race.bS.length 1 (j.Race.bS.map iC)),(rd heA j.Race.aB.length 1 (List.zipWith dz j.Race.aB ha)),(d_ (bw fy j.Race.aB ha)),(rd faA j.aC.length 4 (j.aC.map aX.cells)),(rd prA j.aq.length 5 (j.aq.map a_.cells))] (vI (dU j)):=by
 have O:=hin.race
 have L:=hin.race.line
 have R:=hin.race.jd
 have S:=hin.race.has
 have P:=hin.race.ji
 have M:=hin.nf
 have N:=hin.np
 refine bH kr Tryz.func28 U U fun AA Q hQ hN=>?_
 try dsimp only
 refine WS fun _ D=>eK U fun T=>bI 1 U<|RK D<|ao fun _ E=>WS fun _ F=>rP 1 [] mn ?_
 refine rS (LP (di.cells (di.mk (bT.mk (bG.mk (aR.mk kA j.Race.aj.aL.length kC)) j.Race.aj.eI (aR.mk cA j.Race.aj.ak.length cC) (aR.mk bA j.Race.aj.aa.length bC) j.Race.aj.bK j.Race.aj.dj j.Race.aj.ck) (aR.mk slA j.Race.aT.length slC) (aR.mk drA j.Race.bS.length drC) j.Race.f_ (aR.mk heA j.Race.aB.length heC))) 0 U cq U U U) ?_
 refine rS (CL (Gi j.Race kA kC az cA cC bA bC slA slC drA drC ha heA heC sd) (bq [1,2,3,4,5,6,7,8]) U) ?_
 refine bI 1 U<|RK F<|WS fun _ G=>rP 2 [] mn ?_
 refine RK G<|cH U (bu fun B=>?_) (br fun B=>?_)
 ·refine WS fun _ H=>rP 2 [] mn ?_
  refine RK H<|ar<|Q1 hQ U U U ?_
  first|exact cI (gR B).symm|exact cI (cr B A).symm|exact cI (h_ B A).symm
 refine WK E<|ao fun _ AB=>WS fun _ J=>rP 1 [] (mc 0 U mn) ?_
 refine rS (CL (FP j kA kC az cA cC bA bC slA slC drA drC ha heA heC faA faC prA prC hin sd) (bq [1,2,3,4,5,6,7,8,9,10]) U) ?_
 refine rP 1 [] mn ?_
 refine RK J<|cH U (bu fun A=>?_) (br fun A=>?_)
 ·refine WS fun _ K=>rP 1 [] mn ?_
  refine RK K<|ar<|Q1 hQ U U U ?_
  first|exact cI (gR B).symm|exact cI (cr B A).symm|exact cI (h_ B A).symm
 refine WK AB<|WS fun _ C=>rP 1 [] mn ?_
 refine RK C<|ar<|Q1 hQ U U U ?_
 first|exact cI (gR B).symm|exact cI (cr B A).symm|exact cI (h_ B A).symm
end
section
open Go.RowKit
theorem pX (x y:Int):
 dH Tryz.prog 47 [(vI x),(vI y)] [] (vA (ag.cells (ag.mk x y))):=by
 refine bH kr Tryz.func47 U U fun D Q hQ hN=>?_
 try dsimp only
 refine WS fun _ A=>AL U ed fun C=>RK A<|WS fun _ B=>rP 2 [] mn ?_
 refine rS (SX (bf (xs:=[(0,.tmp 5),(1,.tmp 6)]) (cs:=(ag.cells (ag.mk x y))) U U (bg gZ U)) U U)<|fK U c_ U<|RK B<|ar ?_
 exact Cs hQ [0] (mc 0 U mn) U U
theorem re (x y:Int):
 dH Tryz.prog 48 [(vI x),(vI y)] [] (vA (aO.cells (aO.mk false true (ag.mk x y) (cU.mk 0 0 (aR.mk none 0 0))))):=by
 refine bH kr Tryz.func48 U U fun D Q hQ hN=>?_
 try dsimp only
 refine WS fun _ A=>AL U AU fun C=>RK A<|WS fun _ B=>rP 2 [] mn ?_
 refine rS (CL (pX x y) (aK) U)<|rS (SX (bf (xs:=[(1,.const (vB true)),(2,.tmp 7)]) (cs:=(aO.cells (aO.mk false true (ag.mk x y) (cU.mk 0 0 (aR.mk none 0 0))))) U U (bg Q0 U)) U U)<|fK U Gv U<|RK B<|ar ?_
 exact Cs hQ [0] (mc 0 U mn) U U
theorem Ii (j:cV) (kA:OA) (kC:Nat) (az:List RA) (cA:OA) (cC:Nat) (bA:OA) (bC:Nat) (slA:OA) (slC:Nat) (drA:OA) (drC:Nat) (ha:List dQ) (heA:OA) (heC:Nat) (faA:OA) (faC:Nat) (prA:OA) (prC:Nat) (hraw:rW j az ha):
 dH Tryz.prog 9 [(vA (dh.cells (dh.mk (di.mk (bT.mk (bG.mk (aR.mk kA j.Race.aj.aL.length kC)) j.Race.aj.eI (aR.mk cA j.Race.aj.ak.length cC) (aR.mk bA j.Race.aj.aa.length bC) j.Race.aj.bK j.Race.aj.dj j.Race.aj.ck) (aR.mk slA j.Race.aT.length slC) (aR.mk drA j.Race.bS.length drC) j.Race.f_ (aR.mk heA j.Race.aB.length heC)) (aR.mk faA j.aC.length faC) (aR.mk prA j.aq.length prC) j.cu j.j2)))] [(rd kA j.Race.aj.aL.length 9 (j.Race.aj.aL.map au.cells)),(rd cA j.Race.aj.ak.length 2 (List.zipWith ax.cells j.Race.aj.ak az)),(d_ (bw ax.gL j.Race.aj.ak az)),(rd bA j.Race.aj.aa.length 4 (j.Race.aj.aa.map bM.cells)),(rd slA j.Race.aT.length 1 (j.Race.aT.map iC)),(rd drA j.Race.bS.length 1 (j.Race.bS.map iC)),(rd heA j.Race.aB.length 1 (List.zipWith dz j.Race.aB ha)),(d_ (bw fy j.Race.aB ha)),(rd faA j.aC.length 4 (j.aC.map aX.cells)),(rd prA j.aq.length 5 (j.aq.map a_.cells))] (vB (decide (¬ ld j∧dU j=0))):=by
 refine bH kr Tryz.func9 U U fun F Q hQ hN=>?_
 try dsimp only
 refine WS fun _ C=>eK U fun E=>bI 1 U<|RK C<|WS fun _ B=>e7 1 [] (mc 0 U mn) U<|rS (CL (HS j kA kC az cA cC bA bC slA slC drA drC ha heA heC faA faC prA prC hraw) (bq [1,2,3,4,5,6,7,8,9,10]) U)<|rP 2 [] mn ?_
 refine cM (t:=6) U (br fun A=>?_) (bu fun A=>?_)
 ·refine bI 1 U<|rP 4 [] mn ?_
  refine RK B<|ar<|Q1 hQ U U U ?_
  first|exact cB (bx fun q=>q.1 A).symm|exact cB (bx fun q=>absurd A q.1).symm|exact cB (fu.2 ⟨fun q=>⟨A,q⟩,fun q=>q.2⟩)
 refine rP 1 [] (mc 0 U mn) ?_
 have D:=hraw.small A
 refine rS (CL (Cf j kA kC az cA cC bA bC slA slC drA drC ha heA heC faA faC prA prC sd) (bq [1,2,3,4,5,6,7,8,9,10]) U) ?_
 refine rP 3 [] mn ?_
 refine RK B<|ar<|Q1 hQ U U U ?_
 first|exact cB (bx fun q=>q.1 A).symm|exact cB (bx fun q=>absurd A q.1).symm|exact cB (fu.2 ⟨fun q=>⟨A,q⟩,fun q=>q.2⟩)
theorem N4 (la:List Int) (laA:OA) (laC:Nat) (n:Int) (hlen:la.length≤1000000):
 dH Tryz.prog 17 [(vS laA la.length laC),(vI n)] [(rd laA la.length 1 (la.map iC))] (vB (decide (n∈la))):=by
 refine bH kr Tryz.func17 U U fun T Q hQ hN=>?_
 try dsimp only
 refine WS fun _ AA=>bI 1 U<|RK AA<|ao fun _ J=>WS fun _ K=>rP 3 [] mn ?_
 refine RK K<|aF ?_
 have B:(0≤la.length)∧(n ∉ la.take 0):=by exact ⟨Nat.zero_le _,sm⟩
 refine bZ (ι:={z:Nat // (z≤la.length)∧(n ∉ la.take z)}) [1,7,8] [0] U U (fun z=>[(9,(vI (z.1:Int)))]) (fun z=>[]) (fun _=>rfl) (fun _=>rfl) (fun z=>la.length-z.1) ⟨0,B⟩ (bE U) (aU [0]) ?_
 clear B
 rintro ⟨i,⟨P,A⟩⟩ J4 H
 try dsimp only
 refine WS fun _ L=>rP 1 [] mn ?_
 refine RK L<|ao fun _ M=>bV U (aW fun S=>?_) (aV fun S=>?_)
 ·refine bQ<|ai<|ai<|aI<|KK J<|WS fun _ F=>rP 1 [] mn ?_
  refine RK F<|ar<|Q1 hQ U U U ?_
  first|exact cB (c8 (by rw [← C]; exact aP hx)).symm|exact cB (bx (by rw [List.take_of_length_le I] at A; exact A)).symm
 refine WK M<|ao fun _ N=>aF<|WS fun _ O=>?_
 obtain ⟨x,hx⟩:=aM la i I
 have R:=bP iC hx
 refine rS (IA i U (aA 0 U) dD dc I I)<|rS (iK i 0 (vI x) U cq (aA 0 U) R U dc U)<|bI 1 U<|RK O<|WS fun _ D=>rP 3 [] mn ?_
 refine RK D<|cH U (aV fun C=>?_) (aW fun C=>?_)
 ·refine WS fun _ E=>rP 1 [] mn ?_
  refine RK E<|ar<|Q1 hQ U U U ?_
  first|exact cB (c8 (by rw [← C]; exact aP hx)).symm|exact cB (bx (by rw [List.take_of_length_le I] at A; exact A)).symm
 refine ct<|aN<|KK N<|av<|rP 2 [] mn ?_
 refine aH ?_
 have G:(vI (((i+1):Nat):Int))=(vI ((i:Int)+1)):=by exact cI I
 refine bp (H ⟨(i+1),⟨I,fun q=>by rw [w7 hx] at q; rcases g0.1 q with q|q; exact A q; exact C (cm.1 q).symm⟩⟩ _ _ _ rfl os (cY 3<|bk rfl G<|dG.nil _) (aU [0]))
end
section
open Go.RowKit
theorem Ix (l:List aX) (lA:OA) (lC:Nat) (f:Value) (p:aX→Bool) (X:aw) (hf: ∀ x0,x0∈l→CR Tryz.prog f [.agg (aX.cells x0).toArray] [X] (.bool (p x0))) (hlen:l.length≤1000000):
 dH Tryz.prog 90 [(vS lA l.length lC),f] [(rd lA l.length 4 (l.map aX.cells)),X] (vI (sD p l)):=by
 refine bH kr Tryz.func90 U U fun R Q hQ hN=>?_
 try dsimp only
 refine WS fun _ G=>bI 1 U<|RK G<|ao fun _ H=>WS fun _ AA=>rP 3 [] mn ?_
 refine RK AA<|aF ?_
 have B:(0≤l.length)∧((l.take 0).any p=false):=by simp
 refine bZ (ι:={z:Nat // (z≤l.length)∧((l.take z).any p=false)}) [0,1,7] [0,1] U U (fun z=>[(8,(vI (z.1:Int)))]) (fun z=>[]) (fun _=>rfl) (fun _=>rfl) (fun z=>l.length-z.1) ⟨0,B⟩ (bE U) (aU [0,1]) ?_
 clear B
 rintro ⟨i,⟨N,A⟩⟩ J4 F
 try dsimp only
 refine WS fun _ J=>rP 1 [] mn ?_
 refine RK J<|ao fun _ K=>bV U (aW fun P=>?_) (aV fun P=>?_)
 ·refine bQ<|ai<|ai<|aI<|KK H<|WS fun _ E=>rP 1 [] mn ?_
  refine RK E<|ar<|Q1 hQ U U U ?_
  first|exact cI (qF hx hp A).symm|exact cI (nO I A).symm
 refine WK K<|ao fun _ L=>aF<|WS fun _ M=>bI 2 U<|RK M<|WS fun _ C=>rP 3 [] mn ?_
 obtain ⟨x,hx⟩:=aM l i I
 have O:=bP aX.cells hx
 refine rS (IA i U (aA 0 U) BC dc I I)<|rS (lQ i 0 (aX.cells x) U cq (aA 0 U) O U dc U U)<|rS (SX (qk U U U (hf x (aP hx)) (bq [1])) U U)<|RK C<|cH U (fun hp=>?_) (fun hp=>?_)
 ·refine WS fun _ D=>rP 2 [] mn ?_
  refine RK D<|ar<|Q1 hQ U U U ?_
  first|exact cI (qF hx hp A).symm|exact cI (nO I A).symm
 refine ct<|aN<|KK L<|av<|rP 2 [] mn ?_
 refine aH ?_
 refine bp (F ⟨(i+1),⟨I,tv hx A hp⟩⟩ _ _ _ U os (bE U) (aU [0,1]))
theorem AN (l:List aX) (lA:OA) (lC:Nat) (f:Value) (p:aX→Bool) (X:aw) (hf: ∀ x0,x0∈l→CR Tryz.prog f [.agg (aX.cells x0).toArray] [X] (.bool (p x0))) (hlen:l.length≤1000000):
 dH Tryz.prog 62 [(vS lA l.length lC),f] [(rd lA l.length 4 (l.map aX.cells)),X] (vB (l.any p)):=by
 refine bH kr Tryz.func62 U U fun C Q hQ hN=>?_
 try dsimp only
 refine WS fun _ A=>bI 1 U<|RK A<|WS fun _ B=>bI 2 U<|rS (CL (Ix l lA lC f p X (by exact hf) hlen) (bq [0,1]) U)<|rP 2 [] mn ?_
 refine RK B<|ar<|Q1 hQ U U U ?_
 exact cB sh
theorem Ph (f:aX) (fm:List (Int×Bool)) (gm:Nat) (j:cV) (kA:OA) (kC:Nat) (az:List RA) (cA:OA) (cC:Nat) (bA:OA) (bC:Nat) (slA:OA) (slC:Nat) (drA:OA) (drC:Nat) (ha:List dQ) (heA:OA) (heC:Nat) (faA:OA) (faC:Nat) (prA:OA) (prC:Nat) (d:ay) (sgA:OA) (sgC g1:Nat) (g2 g3:Nat) (hin:hH j az ha) (hok:dU j=0) (hfm:f∈j.aC) (hsl:d.bD.ab.length≤1000000):
 dH Tryz.prog 63 [(vA (aX.cells f)),(vP g1),(vP g2),(vP g3)] [(kh iV gm (cR vB fm)),(rd kA j.Race.aj.aL.length 9 (j.Race.aj.aL.map au.cells)),(rd cA j.Race.aj.ak.length 2 (List.zipWith ax.cells j.Race.aj.ak az)),(d_ (bw ax.gL j.Race.aj.ak az)),(rd bA j.Race.aj.aa.length 4 (j.Race.aj.aa.map bM.cells)),(rd slA j.Race.aT.length 1 (j.Race.aT.map iC)),(rd drA j.Race.bS.length 1 (j.Race.bS.map iC)),(rd heA j.Race.aB.length 1 (List.zipWith dz j.Race.aB ha)),(d_ (bw fy j.Race.aB ha)),(rd faA j.aC.length 4 (j.aC.map aX.cells)),(rd prA j.aq.length 5 (j.aq.map a_.cells)),(rd sgA d.bD.ab.length 2 (d.bD.ab.map aG.cells)),(cw g1 45 [(Value.map (some gm))]),(cw g2 93 (db.cells (db.mk (dh.mk (di.mk (bT.mk (bG.mk (aR.mk kA j.Race.aj.aL.length kC)) j.Race.aj.eI (aR.mk cA j.Race.aj.ak.length cC) (aR.mk bA j.Race.aj.aa.length bC) j.Race.aj.bK j.Race.aj.dj j.Race.aj.ck) (aR.mk slA j.Race.aT.length slC) (aR.mk drA j.Race.bS.length drC) j.Race.f_ (aR.mk heA j.Race.aB.length heC)) (aR.mk faA j.aC.length faC) (aR.mk prA j.aq.length prC) j.cu j.j2)))),(cw g3 58 (aO.cells (aO.mk d.Out d.dx d.Time (jE d.bD sgA sgC))))] (vB (((List.lookup (oP j.aC f) fm).getD false)&& !decide (g4 j.Race.aj f d=0))):=by
 have L:=hin.race
 have AB:=hin.race.line
 have P:=hin.race.jd
 have R:=hin.race.has
 have M:=hin.race.ji
 have J:=hin.nf
 have K:=hin.np
 have D:=(eZ hok).1
 have G:=(eZ hok).2
 have H:=(e8 D).1
 have S:=(e8 D).2
 have F:=(dY H).2.head
 unfold eV at F
 have C:=G.fault f hfm
 have O:0≤f.ik∧f.ik≤1000000:=by have N:=C.2.2; split at N<;>omega
 refine bH kr Tryz.func63 U U fun AA Q hQ hN=>?_
 try dsimp only
 refine WS fun _ E=>eK U fun T=>bI 1 U<|RK E<|ao fun _ B=>dw cx 15 kr<|dP 5 [0,1,2] (mr 13 U (mr 14 U (mc 0 U mn))) ?_
 refine dS (CL (B4 j.aC faA faC f sd) (bq [10]) U) ?_
 refine dS (SX (vX (kV:=iV) (x:=(oP j.aC f)) (l:=fm) (f:=Value.bool) (z:=false) U U U HG (iM s9) Uj (by exact Mr 1 U)) U U)<|dP 1 [] mn ?_
 refine jM (t:=13) U (fun A=>?_) (fun A=>?_)
 ·refine dP 7 [] mn ?_
  refine cK<|RK B<|ar<|Q1 hQ U U U ?_
  first|(rw [A,Bool.true_and]; done)|(rw [A,Bool.false_and]; done)
 refine dP 3 [0,1,2] (mr 14 U (mc 0 U (mr 15 U mn))) ?_
 refine dS (CL (zJ j kA kC az cA cC bA bC slA slC drA drC ha heA heC faA faC prA prC f d sgA sgC hin (by exact C.1) sd hsl) (bq [2,3,4,5,6,7,8,9,10,11,12]) U) ?_
 refine dS (BI U xV)<|dP 2 [] mn ?_
 refine cK<|RK B<|ar<|Q1 hQ U U U ?_
 first|(rw [A,Bool.true_and]; done)|(rw [A,Bool.false_and]; done)
end
section
open Go.RowKit
theorem Mw (fm:List (Int×Bool)) (gm:Nat) (j:cV) (kA:OA) (kC:Nat) (az:List RA) (cA:OA) (cC:Nat) (bA:OA) (bC:Nat) (slA:OA) (slC:Nat) (drA:OA) (drC:Nat) (ha:List dQ) (heA:OA) (heC:Nat) (faA:OA) (faC:Nat) (prA:OA) (prC g1 g2:Nat) (hin:hH j az ha) (hok:dU j=0):
 OP Tryz.prog 61 [] [(vP g1),(vP g2)] [(kh iV gm (cR vB fm)),(rd kA j.Race.aj.aL.length 9 (j.Race.aj.aL.map au.cells)),(rd cA j.Race.aj.ak.length 2 (List.zipWith ax.cells j.Race.aj.ak az)),(d_ (bw ax.gL j.Race.aj.ak az)),(rd bA j.Race.aj.aa.length 4 (j.Race.aj.aa.map bM.cells)),(rd slA j.Race.aT.length 1 (j.Race.aT.map iC)),(rd drA j.Race.bS.length 1 (j.Race.bS.map iC)),(rd heA j.Race.aB.length 1 (List.zipWith dz j.Race.aB ha)),(d_ (bw fy j.Race.aB ha)),(rd faA j.aC.length 4 (j.aC.map aX.cells)),(rd prA j.aq.length 5 (j.aq.map a_.cells)),(cw g1 93 (db.cells (db.mk (dh.mk (di.mk (bT.mk (bG.mk (aR.mk kA j.Race.aj.aL.length kC)) j.Race.aj.eI (aR.mk cA j.Race.aj.ak.length cC) (aR.mk bA j.Race.aj.aa.length bC) j.Race.aj.bK j.Race.aj.dj j.Race.aj.ck) (aR.mk slA j.Race.aT.length slC) (aR.mk drA j.Race.bS.length drC) j.Race.f_ (aR.mk heA j.Race.aB.length heC)) (aR.mk faA j.aC.length faC) (aR.mk prA j.aq.length prC) j.cu j.j2)))),(cw g2 45 [(Value.map (some gm))])] ((0:Nat)) (ID (iE j (lF j.aC fm))) (fun k=>k=j.Race.aB.length):=by
 have Cp:=hin.race
 have IR:=hin.race.line
 have J6:=hin.race.jd
 have J7:=hin.race.has
 have Ja:=hin.race.ji
 have Ie:=hin.nf
 have I8:=hin.np
 have Ck:=(eZ hok).1
 have J8:=(eZ hok).2
 have IO:=(e8 Ck).1
 have Id:=(e8 Ck).2
 have Hi:=(dY IO).2.head
 unfold eV at Hi
 refine Ld kr Tryz.func61 U U fun l J Z A0 w0 Q hY EQ EP hQ hN=>?_
 try dsimp only
 refine WS fun _ FS=>rP 6 [] (mr 12 U mn) ?_
 refine RK FS<|aF ?_
 have B:(0≤j.Race.aB.length)∧(J 0 A0)∧(Fo A0 w0 A0):=by exact ⟨Nat.zero_le _,EQ,EP⟩
 refine bZ (ι:={z:Nat×aw // (z.1≤j.Race.aB.length)∧(J z.1 z.2)∧(Fo A0 w0 z.2)}) [0,1,2,15,16] [1,2,3,4,5,6,7,8,9,10,11,12,13] U U (fun z=>[(17,(vI (z.1.1:Int)))]) (fun z=>[z.1.2]) (fun _=>rfl) (fun _=>rfl) (fun z=>j.Race.aB.length-z.1.1) ⟨(0,A0),B⟩ (bE U) (aU [1,2,3,4,5,6,7,8,9,10,11,12,13,0]) ?_
 clear B
 rintro ⟨⟨h,A⟩,⟨X,F,G⟩⟩ J2 Eq
 try dsimp only at X F G
 try dsimp only
 refine WS fun _ Fd=>rP 1 [] mn ?_
 refine RK Fd<|ao fun _ Fn=>bV U (aW fun h5=>?_) (aV fun h5=>?_)
 ·refine bQ<|ai<|ai<|aI ?_
  refine hN _ _ _ (jZ (vs:=[]) trivial fun w hs=>O0 13 U (by show h=j.Race.aB.length; omega) F G hs)
 refine WK Fn<|ao fun _ F9=>aF<|WS fun _ GE=>?_
 obtain ⟨ht,E⟩:=aM j.Race.aB h I
 obtain ⟨C,D⟩:=aM ha h I
 have Ci:(List.zipWith dz j.Race.aB ha)[h]? =some (dz ht C):=er E D
 refine rS (IA h U (aA 7 U) sT dc I I) ?_
 have CM:=Cp.fZ _ _ _ E D
 have If:=CM.oY
 have In:=(Id.fZ ht (aP E)).1
 refine rS (iK h 0 (vS C.1.1 ht.length C.1.2) U cq (aA 7 U) Ci U dc U)<|rP 1 [] mn ?_
 refine RK GE<|WS fun _ GT=>mJ (kV:=iV) U U fun b9=>?_
 try dsimp only
 refine bI 1 U<|RK GT<|ao fun _ b=>WS fun _ e=>rP 3 [] mn ?_
 refine RK e<|aF ?_
 skip
 have B:(0≤ht.length):=by exact Nat.zero_le _
 refine bZ (ι:={z:Nat // (z≤ht.length)}) [0,1,2,5,6,15,16,17,23] [1,2,3,4,5,6,7,8,9,10,11,12,13,14] U U (fun z=>[(24,(vI (z.1:Int)))]) (fun z=>[(kh iV b9 (cR vB (iy (lx j.Race.aj j.aC fm ht) z.1 0)))]) (fun _=>rfl) (fun _=>rfl) (fun z=>ht.length-z.1) ⟨0,B⟩ (bE U) (aU [1,2,3,4,5,6,7,8,9,10,11,12,13,14,0]) ?_
 clear B
 rintro ⟨q,H1⟩ J12 Y
 try dsimp only
 refine WS fun _ g=>rP 1 [] mn ?_
 refine RK g<|ao fun _ i=>cH U (aV fun C3=>?_) (aW fun C3=>?_)
 ·refine WK i<|ao fun _ m=>aF<|WS fun _ o=>bI 2 U<|RK o<|av<|rP 2 [] mn ?_
  have A4:(eo (iy (lx j.Race.aj j.aC fm ht) q 0) (q:Int) true)=(iy (lx j.Race.aj j.aC fm ht) (q+1) 0):=by exact HH
  refine ja (kV:=iV) (x:=(q:Int)) (C':=[_,_,_,_,_,_,_,_,_,_,_,_,_,_,(kh iV b9 (cR vB (iy (lx j.Race.aj j.aC fm ht) (q+1) 0)))]) 14 U U U U HG (iM s9) U ((gN _ _ _ _).symm.trans (congrArg _ A4)) U<|aH<|aN<|KK m<|av<|rP 2 [] mn ?_
  refine aH ?_
  have A5:(vI (((q+1):Nat):Int))=(vI ((q:Int)+1)):=by exact cI I
  refine bp (Y ⟨(q+1),(by first|omega|(simp only []; omega))⟩ _ _ _ U os (cY 9<|bk U A5<|dG.nil _) (aU [0,1,2,3,4,5,6,7,8,9,10,11,12,13,14]))
 refine bQ<|ai<|ai<|aI<|KK b<|ao fun _ p=>WS fun _ r=>rP 3 [] mn ?_
 refine RK r<|aF ?_
 rw [show (iy (lx j.Race.aj j.aC fm ht) q 0)=(iy (lx j.Race.aj j.aC fm ht) ht.length 0) from by rw [show q=ht.length by omega]]
 have B:(0≤ht.length):=by exact Nat.zero_le _
 refine bZ (ι:={z:Nat // (z≤ht.length)}) [0,1,2,5,6,15,16,17,30,31] [0,1,2,3,4,5,6,7,8,9,10,11,12,13] U U (fun z=>[(32,(vI (z.1:Int)))]) (fun z=>[(kh iV b9 (cR vB (iy (lx j.Race.aj j.aC fm ht) ht.length z.1)))]) (fun _=>rfl) (fun _=>rfl) (fun z=>ht.length-z.1) ⟨0,B⟩ (bE U) (aU [0,1,2,3,4,5,6,7,8,9,10,11,12,13,14]) ?_
 clear B
 rintro ⟨q,C0⟩ J22 R
 try dsimp only
 refine WS fun _ s=>rP 1 [] mn ?_
 refine RK s<|ao fun _ t=>bV U (aW fun Di=>?_) (aV fun Di=>?_)
 ·refine bQ<|ai<|ai<|aI<|KK p<|WS fun _ y=>bI 1 U<|RK y<|ao fun _ AC=>WS fun _ AO=>rP 3 [] mn ?_
  refine RK AO<|aF ?_
  rw [show (iy (lx j.Race.aj j.aC fm ht) ht.length q)=(iy (lx j.Race.aj j.aC fm ht) ht.length ht.length) from by rw [show q=ht.length by omega]]
  refine eL 3 1 ?_
  have B:(0≤ht.length):=by exact Nat.zero_le _
  refine bZ (ι:={z:Nat×(OA)×Nat // (z.1≤ht.length)}) [0,1,2,5,6,15,16,17,47] [1,2,3,4,5,6,7,8,9,10,11,12,13,14,15] U U (fun z=>[(10,(vS z.1.2.1 ((lY (lx j.Race.aj j.aC fm ht) z.1.1).length) z.1.2.2)),(48,(vI (z.1.1:Int)))]) (fun z=>[(own z.1.2.1 z.1.2.2 3 1 ((lY (lx j.Race.aj j.aC fm ht) z.1.1).map iC))]) (fun _=>rfl) (fun _=>rfl) (fun z=>ht.length-z.1.1) ⟨(0,none,0),B⟩ (bE U) (aU [1,2,3,4,5,6,7,8,9,10,11,12,13,14,15,0]) ?_
  clear B
  rintro ⟨⟨q,a,c⟩,M⟩ J37 S
  try dsimp only at M
  try dsimp only
  refine WS fun _ Ak=>rP 1 [] mn ?_
  refine RK Ak<|ao fun _ A1=>bV U (aW fun Do=>?_) (aV fun Do=>?_)
  ·refine bQ<|ai<|ai<|aI<|KK AC<|ao fun _ V=>?_
   rw [show (lY (lx j.Race.aj j.aC fm ht) q)=(lY (lx j.Race.aj j.aC fm ht) ht.length) from by rw [show q=ht.length by omega]]
   refine av<|rP 2 [] mn ?_
   refine Im (k:=h) (k':=(h+1)) 13 15 U hY F G U U U ⟨_,_,_,IX E,U,U,U⟩ U U U U (fun B50 K AB=>?_) (fun B50 K AB=>?_)
   rotate_left 1
   ·refine rP 1 [] mn ?_
    refine RK V<|aS U<|ar ?_
    refine hQ _ _ _ (jZ (vs:=[]) trivial fun w hs=>D8 0 U K AB hs)
   refine bI 1 U<|RK V<|cp U<|ct<|aN<|KK F9<|av<|rP 2 [] mn ?_
   refine aH ?_
   have B3:(vI (((h+1):Nat):Int))=(vI ((h:Int)+1)):=by exact cI I
   refine bp (Eq ⟨((h+1),B50),⟨I,K,AB⟩⟩ _ _ _ U os (cY 5<|bk U B3<|dG.nil _) (aU [1,2,3,4,5,6,7,8,9,10,11,12,13,0]))
  refine WK A1<|ao fun _ AA=>aF<|WS fun _ A2=>bI 2 U<|RK A2<|WS fun _ A3=>rP 2 [] mn ?_
  refine rS (SX (vX (kV:=iV) (x:=(q:Int)) (l:=(iy (lx j.Race.aj j.aC fm ht) ht.length ht.length)) (f:=Value.bool) (z:=false) U U U HG (iM s9) Uj (by exact aA 14 U)) U U)<|RK A3<|bV U (fun W=>?_) (fun W=>?_)
  ·refine ct<|aN<|KK AA<|av<|rP 2 [] mn ?_
   refine aH ?_
   rw [show (lY (lx j.Race.aj j.aC fm ht) q)=(lY (lx j.Race.aj j.aC fm ht) (q+1)) from (qM (by rw [← yN (P:=(lx j.Race.aj j.aC fm ht)) (show q<ht.length by omega)]; simpa using W)).symm]
   have BF:(vI (((q+1):Nat):Int))=(vI ((q:Int)+1)):=by exact cI I
   refine bp (S ⟨((q+1),a,c),(by first|omega|(simp only []; omega))⟩ _ _ _ U os (cY 10<|bk U BF<|dG.nil _) (aU [0,1,2,3,4,5,6,7,8,9,10,11,12,13,14,15]))
  refine av<|rP 2 [] mn ?_
  refine ew (xs:=[.tmp 55]) (cs:=[(vI (q:Int))]) U dD kl U U U U (by simp [Value.cells]) U U fun J4=>?_
  refine fF (es2:=(List.map iC (lY (lx j.Race.aj j.aC fm ht) (q+1)))) (m':=(lY (lx j.Race.aj j.aC fm ht) (q+1)).length) 16 U U U tx U U sm (bo (es:=List.map iC [(q:Int)]) 0 U U (by simp [bO]) U) (lW _) (by have:=qh (P:=(lx j.Race.aj j.aC fm ht)) (n:=q); omega) (by have:=qh (P:=(lx j.Race.aj j.aC fm ht)) (n:=q); simp only [maxLen]; omega) (by rw [vo (by rw [← yN (P:=(lx j.Race.aj j.aC fm ht)) (show q<ht.length by omega)]; exact W)]; simp) sm U fun C1 C2=>?_
  try dsimp only
  refine bI 1 U<|aH<|aN<|KK AA<|av<|rP 2 [] mn ?_
  refine aH ?_
  have A9:(vI (((q+1):Nat):Int))=(vI ((q:Int)+1)):=by exact cI I
  refine bp (S ⟨((q+1),C1,C2),(by first|omega|(simp only []; omega))⟩ _ _ _ U os (cY 10<|bk U A9<|dG.nil _) (aU [1,2,3,4,5,6,7,8,9,10,11,12,13,14,15,16]))
 refine WK t<|ao fun _ T=>aF<|WS fun _ u=>rP 1 [] mn ?_
 obtain ⟨d,hd⟩:=aM ht q I
 obtain ⟨da,B9⟩:=aM C.2 q I
 have Go:(List.zipWith ay.cells ht C.2)[q]? =some (ay.cells d da):=er hd B9
 refine rS (IA q U (show js _ (rd C.1.1 ht.length 7 (List.zipWith ay.cells ht C.2)).holds from (df 8 U (bW E D cJ))) vn dc I I) ?_
 have J9:=CM.sig d (aP hd)
 refine rS (lQ q 0 (aO.cells (aO.mk d.Out d.dx d.Time (cU.mk d.bD.Start d.bD.gd (aR.mk da.1 d.bD.ab.length da.2)))) U cq (show js _ (rd C.1.1 ht.length 7 (List.zipWith ay.cells ht C.2)).holds from (df 8 U (bW E D cJ))) Go U dc U U)<|AL U AU fun L=>bI 1 U<|fK U Gv U<|RK u<|WS fun _ v=>rP 3 [] (mr 12 U mn) ?_
 refine rS (FU U) ?_
 refine rS (CL (AN j.aC faA faC (Value.func (.func 63) [].toArray [(vP g2),(vP g1),(vP L)].toArray) (fun O=>(((List.lookup (oP j.aC O) fm).getD false)&& !decide (g4 j.Race.aj O d=0))) (d_ [(kh iV gm (cR vB fm)),(rd kA j.Race.aj.aL.length 9 (j.Race.aj.aL.map au.cells)),(rd cA j.Race.aj.ak.length 2 (List.zipWith ax.cells j.Race.aj.ak az)),(d_ (bw ax.gL j.Race.aj.ak az)),(rd bA j.Race.aj.aa.length 4 (j.Race.aj.aa.map bM.cells)),(rd slA j.Race.aT.length 1 (j.Race.aT.map iC)),(rd drA j.Race.bS.length 1 (j.Race.bS.map iC)),(rd heA j.Race.aB.length 1 (List.zipWith dz j.Race.aB ha)),(d_ (bw fy j.Race.aB ha)),(rd faA j.aC.length 4 (j.aC.map aX.cells)),(rd prA j.aq.length 5 (j.aq.map a_.cells)),(rd da.1 d.bD.ab.length 2 (d.bD.ab.map aG.cells)),(cw g2 45 [(Value.map (some gm))]),(cw g1 93 (db.cells (db.mk (dh.mk (di.mk (bT.mk (bG.mk (aR.mk kA j.Race.aj.aL.length kC)) j.Race.aj.eI (aR.mk cA j.Race.aj.ak.length cC) (aR.mk bA j.Race.aj.aa.length bC) j.Race.aj.bK j.Race.aj.dj j.Race.aj.ck) (aR.mk slA j.Race.aT.length slC) (aR.mk drA j.Race.bS.length drC) j.Race.f_ (aR.mk heA j.Race.aB.length heC)) (aR.mk faA j.aC.length faC) (aR.mk prA j.aq.length prC) j.cu j.j2)))),(cw L 58 (aO.cells (aO.mk d.Out d.dx d.Time (cU.mk d.bD.Start d.bD.gd (aR.mk da.1 d.bD.ab.length da.2)))))]) (by intro O N; exact lf (fi:=[]) (ca:=[(vP g2),(vP g1),(vP L)]) (jX (Ph O fm gm j kA kC az cA cC bA bC slA slC drA drC ha heA heC faA faC prA prC d da.1 da.2 g2 g1 L (by first|assumption|exact N|omega) (by first|assumption|exact N|omega) (by first|assumption|exact N|omega) (by first|assumption|exact N|omega)) (bq [0,1,2,3,4,5,6,7,8,9,10,11,12,13,14]))) sd) (g_ 10 U U<|aJ (jT (oK [1,2,3,4,5,6,7,8,9,10,11]<|aJ (show js _ (rd da.1 d.bD.ab.length 2 (d.bD.ab.map aG.cells)).holds from (df 9 U (bW E D (dW _ (bW hd B9 (by simp [ay.gL]))))))<|g_ 13 U U<|g_ 12 U U<|g_ 0 U U<|aK))<|aK) U) ?_
 refine rP 1 [] mn ?_
 refine RK v<|bV U (fun H=>?_) (fun H=>?_)
 ·rw [Bool.not_eq_false'] at H
  refine ct<|aN<|KK T<|av<|rP 2 [] mn ?_
  refine aH ?_
  rw [show (iy (lx j.Race.aj j.aC fm ht) ht.length q)=(iy (lx j.Race.aj j.aC fm ht) ht.length (q+1)) from FT (by rw [E6 hd]; simpa using H)]
  have A8:(vI (((q+1):Nat):Int))=(vI ((q:Int)+1)):=by exact cI I
  refine bp (R ⟨(q+1),(by first|omega|(simp only []; omega))⟩ _ _ _ U os (cY 10<|bk U A8<|dG.nil _) (aU [1,2,3,4,5,6,7,8,9,10,11,12,13,14,15]))
 rw [Bool.not_eq_true'] at H
 refine av<|rP 2 [] mn ?_
 have A6:(eY (iy (lx j.Race.aj j.aC fm ht) ht.length q) (q:Int))=(iy (lx j.Race.aj j.aC fm ht) ht.length (q+1)):=by exact IF (by rw [E6 hd]; exact H)
 refine sQ (kV:=iV) (x:=(q:Int)) (C':=[_,_,_,_,_,_,_,_,_,_,_,_,_,_,_,(kh iV b9 (cR vB (iy (lx j.Race.aj j.aC fm ht) ht.length (q+1))))]) 15 U U U U HG (iM s9) U ((nQ _ _ _).symm.trans (congrArg _ A6)) U<|aH<|aN<|KK T<|av<|rP 2 [] mn ?_
 refine aH ?_
 have A7:(vI (((q+1):Nat):Int))=(vI ((q:Int)+1)):=by exact cI I
 refine bp (R ⟨(q+1),(by first|omega|(simp only []; omega))⟩ _ _ _ U os (cY 10<|bk U A7<|dG.nil _) (aU [1,2,3,4,5,6,7,8,9,10,11,12,13,14,15]))
end
section
open Go.RowKit
theorem NJ (gm:Nat) (j:cV) (kA:OA) (kC:Nat) (cA:OA) (cC:Nat) (bA:OA) (bC:Nat) (slA:OA) (slC:Nat) (drA:OA) (drC:Nat) (heA:OA) (heC:Nat) (faA:OA) (faC:Nat) (prA:OA) (prC:Nat):
 rU Tryz.prog 40 [(vA (db.cells (db.mk (dh.mk (di.mk (bT.mk (bG.mk (aR.mk kA j.Race.aj.aL.length kC)) j.Race.aj.eI (aR.mk cA j.Race.aj.ak.length cC) (aR.mk bA j.Race.aj.aa.length bC) j.Race.aj.bK j.Race.aj.dj j.Race.aj.ck) (aR.mk slA j.Race.aT.length slC) (aR.mk drA j.Race.bS.length drC) j.Race.f_ (aR.mk heA j.Race.aB.length heC)) (aR.mk faA j.aC.length faC) (aR.mk prA j.aq.length prC) j.cu j.j2)))),(Value.map (some gm))] [] (fun (x:Nat×Nat)=>(Value.func (.func 61) [].toArray [(Value.pointer (some ⟨x.1,0,none⟩)),(Value.pointer (some ⟨x.2,0,none⟩))].toArray)) (fun (x:Nat×Nat)=>True) (fun (x:Nat×Nat)=>[(cw x.1 93 (db.cells (db.mk (dh.mk (di.mk (bT.mk (bG.mk (aR.mk kA j.Race.aj.aL.length kC)) j.Race.aj.eI (aR.mk cA j.Race.aj.ak.length cC) (aR.mk bA j.Race.aj.aa.length bC) j.Race.aj.bK j.Race.aj.dj j.Race.aj.ck) (aR.mk slA j.Race.aT.length slC) (aR.mk drA j.Race.bS.length drC) j.Race.f_ (aR.mk heA j.Race.aB.length heC)) (aR.mk faA j.aC.length faC) (aR.mk prA j.aq.length prC) j.cu j.j2)))),(cw x.2 45 [(Value.map (some gm))])]):=by
 refine gp kr Tryz.func40 U U fun E Q hQ hN=>?_
 try dsimp only
 refine WS fun _ A=>eK U fun C=>wu U U fun D=>bI 1 U<|RK A<|WS fun _ B=>rS (FU U)<|rP 1 [] mn ?_
 refine RK B<|ar<|LX hQ (C,D) [1,0] [] mn U U U U ?_
 trivial
theorem Mz (fm:List (Int×Bool)) (gm:Nat) (j:cV) (kA:OA) (kC:Nat) (az:List RA) (cA:OA) (cC:Nat) (bA:OA) (bC:Nat) (slA:OA) (slC:Nat) (drA:OA) (drC:Nat) (ha:List dQ) (heA:OA) (heC:Nat) (faA:OA) (faC:Nat) (prA:OA) (prC g1 g2:Nat) (hin:hH j az ha) (hok:dU j=0):
 rU Tryz.prog 60 [(vS none 0 0),(Value.func (.func 61) [].toArray [(vP g1),(vP g2)].toArray)] [(kh iV gm (cR vB fm)),(rd kA j.Race.aj.aL.length 9 (j.Race.aj.aL.map au.cells)),(rd cA j.Race.aj.ak.length 2 (List.zipWith ax.cells j.Race.aj.ak az)),(d_ (bw ax.gL j.Race.aj.ak az)),(rd bA j.Race.aj.aa.length 4 (j.Race.aj.aa.map bM.cells)),(rd slA j.Race.aT.length 1 (j.Race.aT.map iC)),(rd drA j.Race.bS.length 1 (j.Race.bS.map iC)),(rd heA j.Race.aB.length 1 (List.zipWith dz j.Race.aB ha)),(d_ (bw fy j.Race.aB ha)),(rd faA j.aC.length 4 (j.aC.map aX.cells)),(rd prA j.aq.length 5 (j.aq.map a_.cells)),(cw g1 93 (db.cells (db.mk (dh.mk (di.mk (bT.mk (bG.mk (aR.mk kA j.Race.aj.aL.length kC)) j.Race.aj.eI (aR.mk cA j.Race.aj.ak.length cC) (aR.mk bA j.Race.aj.aa.length bC) j.Race.aj.bK j.Race.aj.dj j.Race.aj.ck) (aR.mk slA j.Race.aT.length slC) (aR.mk drA j.Race.bS.length drC) j.Race.f_ (aR.mk heA j.Race.aB.length heC)) (aR.mk faA j.aC.length faC) (aR.mk prA j.aq.length prC) j.cu j.j2)))),(cw g2 45 [(Value.map (some gm))])] (fun (x:(List RA)×(OA)×Nat)=>(vS x.2.1 ((iE j (lF j.aC fm)).length) x.2.2)) (fun (x:(List RA)×(OA)×Nat)=>x.1.length=(iE j (lF j.aC fm)).length) (fun (x:(List RA)×(OA)×Nat)=>[(own x.2.1 x.2.2 29 1 (List.zipWith yi (iE j (lF j.aC fm)) x.1)),(cd (bw G4 (iE j (lF j.aC fm)) x.1))]):=by
 have W:=hin.race
 have R:=hin.race.line
 have g:=hin.race.jd
 have m:=hin.race.has
 have X:=hin.race.ji
 have AA:=hin.nf
 have V:=hin.np
 have f:(iE j (lF j.aC fm)).length=j.Race.aB.length:=by unfold iE; rw [List.length_map]
 refine gp kr Tryz.func60 U U fun s Q hQ hN=>?_
 try dsimp only
 refine WS fun _ L=>wu U U fun T=>bI 1 U<|RK L<|ao fun _ M=>WS fun _ N=>rP 1 [] mn ?_
 refine RK N<|aF<|jr 1 U (by exact fun _ h=>h)<|jr 3 U (by exact fun _ h=>h)<|jr 5 U (by exact fun _ h=>h)<|jr 7 U (by exact fun _ h=>h)<|jr 9 U (by exact fun _ h=>h)<|jr 11 U (by exact fun _ h=>h)<|jr 13 U (by exact fun _ h=>h)<|jr 15 U (by exact fun _ h=>h)<|jr 17 U (by exact fun _ h=>h)<|jr 19 U (by exact fun _ h=>h)<|jr 21 U (by exact fun _ h=>h)<|jr 23 U (by exact fun _ h=>h)<|jr 25 U (by exact fun _ h=>h)<|eL 29 1<|ru ?_
 refine JF (L0:=[(2,(vP T))]) (F:=[(kh iV gm (cR vB fm)).ro,(rd kA j.Race.aj.aL.length 9 (j.Race.aj.aL.map au.cells)).ro,(rd cA j.Race.aj.ak.length 2 (List.zipWith ax.cells j.Race.aj.ak az)).ro,(d_ (bw ax.gL j.Race.aj.ak az)).ro,(rd bA j.Race.aj.aa.length 4 (j.Race.aj.aa.map bM.cells)).ro,(rd slA j.Race.aT.length 1 (j.Race.aT.map iC)).ro,(rd drA j.Race.bS.length 1 (j.Race.bS.map iC)).ro,(rd heA j.Race.aB.length 1 (List.zipWith dz j.Race.aB ha)).ro,(d_ (bw fy j.Race.aB ha)).ro,(rd faA j.aC.length 4 (j.aC.map aX.cells)).ro,(rd prA j.aq.length 5 (j.aq.map a_.cells)).ro,(cw g1 93 (db.cells (db.mk (dh.mk (di.mk (bT.mk (bG.mk (aR.mk kA j.Race.aj.aL.length kC)) j.Race.aj.eI (aR.mk cA j.Race.aj.ak.length cC) (aR.mk bA j.Race.aj.aa.length bC) j.Race.aj.bK j.Race.aj.dj j.Race.aj.ck) (aR.mk slA j.Race.aT.length slC) (aR.mk drA j.Race.bS.length drC) j.Race.f_ (aR.mk heA j.Race.aB.length heC)) (aR.mk faA j.aC.length faC) (aR.mk prA j.aq.length prC) j.cu j.j2)))).ro,(cw g2 45 [(Value.map (some gm))]).ro]) (fun k (y:(List RA)×(OA)×Nat)=>(y.1.length=k)) (fun k y=>[(cd (bw G4 (List.take k (iE j (lF j.aC fm))) y.1)),(own y.2.1 y.2.2 29 1 (List.zipWith yi (List.take k (iE j (lF j.aC fm))) y.1)),(cw T 42 [(vS y.2.1 ((List.take k (iE j (lF j.aC fm))).length) y.2.2)]),(kh iV gm (cR vB fm)).ro,(rd kA j.Race.aj.aL.length 9 (j.Race.aj.aL.map au.cells)).ro,(rd cA j.Race.aj.ak.length 2 (List.zipWith ax.cells j.Race.aj.ak az)).ro,(d_ (bw ax.gL j.Race.aj.ak az)).ro,(rd bA j.Race.aj.aa.length 4 (j.Race.aj.aa.map bM.cells)).ro,(rd slA j.Race.aT.length 1 (j.Race.aT.map iC)).ro,(rd drA j.Race.bS.length 1 (j.Race.bS.map iC)).ro,(rd heA j.Race.aB.length 1 (List.zipWith dz j.Race.aB ha)).ro,(d_ (bw fy j.Race.aB ha)).ro,(rd faA j.aC.length 4 (j.aC.map aX.cells)).ro,(rd prA j.aq.length 5 (j.aq.map a_.cells)).ro]) (fun _ (_:Unit)=>False) (fun _ _=>[]) [0,1,15,16,17,18,19,20,21,22,23,24,25,26] [14,13,12,11,10,9,8,7,6,5,4,3,2] (([]:List RA),none,0) rfl rfl (Mw fm gm j kA kC az cA cC bA bC slA slC drA drC ha heA heC faA faC prA prC g1 g2 (by first|assumption|omega|(simp; done)) (by first|assumption|omega|(simp; done))) rfl rfl rfl (by exact rfl) (by simp only [List.forall_mem_cons,List.not_mem_nil,false_imp_iff,implies_true,and_true]; exact ⟨⟨_,aP (i:=0) rfl,(dJ (bX _))⟩,⟨_,aP (i:=1) rfl,(dJ (bX _))⟩,⟨_,aP (i:=2) rfl,(dJ (bX _))⟩,⟨_,aP (i:=3) rfl,(dJ (bX _))⟩,⟨_,aP (i:=4) rfl,(dJ (bX _))⟩,⟨_,aP (i:=5) rfl,(dJ (bX _))⟩,⟨_,aP (i:=6) rfl,(dJ (bX _))⟩,⟨_,aP (i:=7) rfl,(dJ (bX _))⟩,⟨_,aP (i:=8) rfl,(dJ (bX _))⟩,⟨_,aP (i:=9) rfl,(dJ (bX _))⟩,⟨_,aP (i:=10) rfl,(dJ (bX _))⟩,⟨_,aP (i:=11) rfl,(dJ (bX _))⟩,⟨_,aP (i:=12) rfl,(dJ (bX _))⟩⟩) (by rintro k x R0 p ⟨_,_,_,_,rfl,_,_⟩; rfl) rfl (bE rfl) ?_ ?_ (fun _ _ _ h=>h.elim) (fun _ _ h=>h.elim)
 rotate_left 1
 ·rintro q k ⟨gz,a,c⟩ B C
  have D:=C
  try dsimp only at D
  try dsimp only
  rw [show (List.take k (iE j (lF j.aC fm)))=(iE j (lF j.aC fm)) from List.take_of_length_le (by have d:k=j.Race.aB.length:=B; omega)]
  have P:gz.length=(iE j (lF j.aC fm)).length:=by have d:k=j.Race.aB.length:=B; omega
  refine aN<|KK M<|WS fun _ G=>rP 2 [] (mc 16 U mn) ?_
  refine RK G<|ar ?_
  refine hQ _ _ _ (rq 0 U U<|jZ (vs:=[(vS a ((iE j (lF j.aC fm)).length) c)]) ⟨U,trivial⟩ fun w hs=>OZ (gz,a,c) [15,14] ?_ ?_ U U (by show List.all _ _=true; simp only [fM,List.all_nil,yd,Bool.and_true]; rfl) hs)
  ·rfl
  ·exact P
 rintro k x R0 p ⟨gz,a,c⟩ l ra rb S t K5 Qr6 o hx AB O H Y Z
 obtain ⟨xa,xc,row,A,rfl,rfl,rfl⟩:=hx
 have D:=AB
 try dsimp only at D
 try dsimp only
 have n:=(aY.1 A).1
 have E:gz.length=(List.take k (iE j (lF j.aC fm))).length:=by rw [List.length_take]; omega
 have J:(List.take (k+1) (iE j (lF j.aC fm))).length=k+1:=by rw [List.length_take]; omega
 refine av<|rP 1 [] mn ?_
 refine aH<|bp (O _ _ ?_)
 refine aF<|av<|rP 2 [] (mc 3 U mn) ?_
 refine ew (xs:=[.tmp 9]) (cs:=[(vS xa row.length xc)]) U K7 QJ U U U U (by simp [Value.cells]) U U fun r=>?_
 refine fF (es2:=(List.zipWith yi (List.take (k+1) (iE j (lF j.aC fm))) (gz++[(xa,xc)]))) (m':=(List.take (k+1) (iE j (lF j.aC fm))).length) 3 rfl rfl rfl Ty rfl rfl (zS E).symm (bo (es:=List.zipWith yi [row] [(xa,xc)]) 0 rfl rfl (by intro e he; simp [yi] at he; subst he; rfl) rfl) (Lp _ _) I (by simp only [maxLen]; omega) (by rw [xg A]; exact FW E.symm) (by first|exact zS (by rw [J]; simp; omega)|(rw [J,List.length_take]; simp; omega)) rfl fun b K=>?_
 try dsimp only
 refine N9 (Y':=bw G4 (List.take (k+1) (iE j (lF j.aC fm))) (gz++[(xa,xc)])) 2 16 U U (by rw [xg A]; exact CU E.symm U) ?_
 refine Ur U Sw U U<|aH<|aN ?_
 exact H ((gz++[(xa,xc)]),b,K) _ _ (by (rw [List.length_append]; simp; omega)) (aU [2,0,3,4,5,6,7,8,9,10,11,12,13,14,15])
theorem KG (fm:List (Int×Bool)) (gm:Nat) (j:cV) (kA:OA) (kC:Nat) (az:List RA) (cA:OA) (cC:Nat) (bA:OA) (bC:Nat) (slA:OA) (slC:Nat) (drA:OA) (drC:Nat) (ha:List dQ) (heA:OA) (heC:Nat) (faA:OA) (faC:Nat) (prA:OA) (prC g1 g2:Nat) (hin:hH j az ha) (hok:dU j=0):
 rU Tryz.prog 39 [(Value.func (.func 61) [].toArray [(vP g1),(vP g2)].toArray)] [(kh iV gm (cR vB fm)),(rd kA j.Race.aj.aL.length 9 (j.Race.aj.aL.map au.cells)),(rd cA j.Race.aj.ak.length 2 (List.zipWith ax.cells j.Race.aj.ak az)),(d_ (bw ax.gL j.Race.aj.ak az)),(rd bA j.Race.aj.aa.length 4 (j.Race.aj.aa.map bM.cells)),(rd slA j.Race.aT.length 1 (j.Race.aT.map iC)),(rd drA j.Race.bS.length 1 (j.Race.bS.map iC)),(rd heA j.Race.aB.length 1 (List.zipWith dz j.Race.aB ha)),(d_ (bw fy j.Race.aB ha)),(rd faA j.aC.length 4 (j.aC.map aX.cells)),(rd prA j.aq.length 5 (j.aq.map a_.cells)),(cw g1 93 (db.cells (db.mk (dh.mk (di.mk (bT.mk (bG.mk (aR.mk kA j.Race.aj.aL.length kC)) j.Race.aj.eI (aR.mk cA j.Race.aj.ak.length cC) (aR.mk bA j.Race.aj.aa.length bC) j.Race.aj.bK j.Race.aj.dj j.Race.aj.ck) (aR.mk slA j.Race.aT.length slC) (aR.mk drA j.Race.bS.length drC) j.Race.f_ (aR.mk heA j.Race.aB.length heC)) (aR.mk faA j.aC.length faC) (aR.mk prA j.aq.length prC) j.cu j.j2)))),(cw g2 45 [(Value.map (some gm))])] (fun (x:(List RA)×(OA)×Nat)=>(vS x.2.1 ((iE j (lF j.aC fm)).length) x.2.2)) (fun (x:(List RA)×(OA)×Nat)=>x.1.length=(iE j (lF j.aC fm)).length) (fun (x:(List RA)×(OA)×Nat)=>[(own x.2.1 x.2.2 29 1 (List.zipWith yi (iE j (lF j.aC fm)) x.1)),(cd (bw G4 (iE j (lF j.aC fm)) x.1))]):=by
 refine gp kr Tryz.func39 U U fun AA Q hQ hN=>?_
 try dsimp only
 refine WS fun _ B=>bI 1 U<|RK B<|WS fun _ C=>rP 1 [] mn ?_
 refine cX (Mz fm gm j kA kC az cA cC bA bC slA slC drA drC ha heA heC faA faC prA prC g1 g2 hin hok) (bq [0,1,2,3,4,5,6,7,8,9,10,11,12]) U fun H E=>?_
 obtain ⟨A,F,G⟩:=H
 try dsimp only
 have D:=E
 refine rP 1 [] mn ?_
 refine RK C<|ar ?_
 refine LX hQ (A,F,G) [0,1] [] mn U (by show List.all _ _=true; simp only [fM,List.all_nil,yd,Bool.and_true]; rfl) U U ?_
 exact D
end
section
open Go.RowKit
theorem Gc (j:cV) (kA:OA) (kC:Nat) (az:List RA) (cA:OA) (cC:Nat) (bA:OA) (bC:Nat) (slA:OA) (slC:Nat) (drA:OA) (drC:Nat) (ha:List dQ) (heA:OA) (heC:Nat) (faA:OA) (faC:Nat) (prA:OA) (prC:Nat) (hin:hH j az ha) (hok:dU j=0):
 rU Tryz.prog 32 [(vA (db.cells (db.mk (dh.mk (di.mk (bT.mk (bG.mk (aR.mk kA j.Race.aj.aL.length kC)) j.Race.aj.eI (aR.mk cA j.Race.aj.ak.length cC) (aR.mk bA j.Race.aj.aa.length bC) j.Race.aj.bK j.Race.aj.dj j.Race.aj.ck) (aR.mk slA j.Race.aT.length slC) (aR.mk drA j.Race.bS.length drC) j.Race.f_ (aR.mk heA j.Race.aB.length heC)) (aR.mk faA j.aC.length faC) (aR.mk prA j.aq.length prC) j.cu j.j2))))] [(rd kA j.Race.aj.aL.length 9 (j.Race.aj.aL.map au.cells)),(rd cA j.Race.aj.ak.length 2 (List.zipWith ax.cells j.Race.aj.ak az)),(d_ (bw ax.gL j.Race.aj.ak az)),(rd bA j.Race.aj.aa.length 4 (j.Race.aj.aa.map bM.cells)),(rd slA j.Race.aT.length 1 (j.Race.aT.map iC)),(rd drA j.Race.bS.length 1 (j.Race.bS.map iC)),(rd heA j.Race.aB.length 1 (List.zipWith dz j.Race.aB ha)),(d_ (bw fy j.Race.aB ha)),(rd faA j.aC.length 4 (j.aC.map aX.cells)),(rd prA j.aq.length 5 (j.aq.map a_.cells))] (fun (x:(List RA)×(OA)×Nat)=>(vS x.2.1 ((kS j).length) x.2.2)) (fun (x:(List RA)×(OA)×Nat)=>x.1.length=(kS j).length) (fun (x:(List RA)×(OA)×Nat)=>[(own x.2.1 x.2.2 29 1 (List.zipWith yi (kS j) x.1)),(cd (bw G4 (kS j) x.1))]):=by
 have AO:=hin.race
 have l:=hin.race.line
 have A5:=hin.race.jd
 have A6:=hin.race.has
 have Ak:=hin.race.ji
 have v:=hin.nf
 have AC:=hin.np
 have S:=(eZ hok).1
 have R:=(eZ hok).2
 have k:=(e8 S).1
 have A9:=(e8 S).2
 have h:=(dY k).2.head
 unfold eV at h
 have A7:=R.np
 have y:=xn (j:=j)
 refine gp kr Tryz.func32 U U fun w0 Q hQ hN=>?_
 try dsimp only
 refine WS fun _ b=>eK U fun b2=>rP 1 [] mn ?_
 refine RK b<|WS fun _ c=>mJ (kV:=iV) U U fun W=>?_
 try dsimp only
 refine bI 1 U<|RK c<|ao fun _ d=>WS fun _ e=>rP 4 [] (mc 1 U mn) ?_
 refine rS (FU U) ?_
 refine cX (zq j.aq prA prC (Value.func (.func 31) [(vA (db.cells (db.mk (dh.mk (di.mk (bT.mk (bG.mk (aR.mk kA j.Race.aj.aL.length kC)) j.Race.aj.eI (aR.mk cA j.Race.aj.ak.length cC) (aR.mk bA j.Race.aj.aa.length bC) j.Race.aj.bK j.Race.aj.dj j.Race.aj.ck) (aR.mk slA j.Race.aT.length slC) (aR.mk drA j.Race.bS.length drC) j.Race.f_ (aR.mk heA j.Race.aB.length heC)) (aR.mk faA j.aC.length faC) (aR.mk prA j.aq.length prC) j.cu j.j2))))].toArray [].toArray) (fun r V=>(gu j V)) (d_ [(rd kA j.Race.aj.aL.length 9 (j.Race.aj.aL.map au.cells)),(rd cA j.Race.aj.ak.length 2 (List.zipWith ax.cells j.Race.aj.ak az)),(d_ (bw ax.gL j.Race.aj.ak az)),(rd bA j.Race.aj.aa.length 4 (j.Race.aj.aa.map bM.cells)),(rd slA j.Race.aT.length 1 (j.Race.aT.map iC)),(rd drA j.Race.bS.length 1 (j.Race.bS.map iC)),(rd heA j.Race.aB.length 1 (List.zipWith dz j.Race.aB ha)),(d_ (bw fy j.Race.aB ha)),(rd faA j.aC.length 4 (j.aC.map aX.cells)),(rd prA j.aq.length 5 (j.aq.map a_.cells))]) (by intro r V D; exact lf (fi:=[(vA (db.cells (db.mk (dh.mk (di.mk (bT.mk (bG.mk (aR.mk kA j.Race.aj.aL.length kC)) j.Race.aj.eI (aR.mk cA j.Race.aj.ak.length cC) (aR.mk bA j.Race.aj.aa.length bC) j.Race.aj.bK j.Race.aj.dj j.Race.aj.ck) (aR.mk slA j.Race.aT.length slC) (aR.mk drA j.Race.bS.length drC) j.Race.f_ (aR.mk heA j.Race.aB.length heC)) (aR.mk faA j.aC.length faC) (aR.mk prA j.aq.length prC) j.cu j.j2))))]) (ca:=[]) (jX (ve j kA kC az cA cC bA bC slA slC drA drC ha heA heC faA faC prA prC r V (by first|assumption|(obtain ⟨AA,_,A⟩:=D; first|exact ⟨AA,A⟩|exact hin.kind _ (aP A))|omega) (by first|assumption|(obtain ⟨AA,_,A⟩:=D; first|exact ⟨AA,A⟩|exact hin.kind _ (aP A))|omega) (by first|assumption|(obtain ⟨AA,_,A⟩:=D; first|exact ⟨AA,A⟩|exact hin.kind _ (aP A))|omega)) (bq [0,1,2,3,4,5,6,7,8,9]))) sd) (g_ 11 rfl rfl<|aJ (jT (bq [2,3,4,5,6,7,8,9,10,11]))<|aK) rfl fun y9 A0=>?_
 obtain ⟨A2,A3⟩:=y9
 try dsimp only
 rw [show (lY (iw j.aq (fun r V=>(gu j V))) j.aq.length)=im j from rfl]
 refine rP 2 [] mn ?_
 refine RK e<|aF ?_
 skip
 have B:(0≤(im j).length):=by exact Nat.zero_le _
 refine bZ (ι:={z:Nat // (z≤(im j).length)}) [1,3,12,13] [0,2,3,4,5,6,7,8,9,10,11,12] U U (fun z=>[(14,(vI (z.1:Int)))]) (fun z=>[(kh iV W (cR vB (wa j.aC (FD j z.1))))]) (fun _=>rfl) (fun _=>rfl) (fun z=>(im j).length-z.1) ⟨0,B⟩ (bE U) (aU [0,2,3,4,5,6,7,8,9,10,11,12,1]) ?_
 clear B
 rintro ⟨t,i⟩ J13 G
 try dsimp only
 refine WS fun _ H=>rP 1 [] mn ?_
 refine RK H<|ao fun _ AB=>bV U (aW fun a=>?_) (aV fun a=>?_)
 ·refine bQ<|ai<|ai<|aI<|KK d<|WS fun _ L=>rP 2 [] (mc 1 U mn) ?_
  refine cX (NJ W j kA kC cA cC bA bC slA slC drA drC heA heC faA faC prA prC) (aK) U fun s A1=>?_
  obtain ⟨Y,E⟩:=s
  try dsimp only
  refine cX (KG (wa j.aC (FD j t)) W j kA kC az cA cC bA bC slA slC drA drC ha heA heC faA faC prA prC Y E hin hok) (bq [14,4,5,6,7,8,9,10,11,12,13,0,1]) U fun u T=>?_
  obtain ⟨F,X,Z⟩:=u
  try dsimp only
  have P:=T
  have q:(iE j (lF j.aC (wa j.aC (FD j t))))=(kS j):=by exact Cv I
  rw [q] at P ⊢
  refine rP 1 [] mn ?_
  refine RK L<|ar ?_
  refine LX hQ (F,X,Z) [0,1] [] mn U (by show List.all _ _=true; simp only [fM,List.all_nil,yd,Bool.and_true]; rfl) U U ?_
  exact P
 refine WK AB<|ao fun _ J=>aF<|WS fun _ K=>?_
 obtain ⟨gi,C⟩:=aM (im j) t I
 have O:=bP iC C
 refine rS (IA t U (aQ (n:=(im j).length) 0 U sm) dD dc I I)<|rS (iK t 0 (vI gi) U cq (aQ (n:=(im j).length) 0 U sm) O U dc U)<|bI 1 U<|RK K<|dw cx 17 kr<|dP 10 [] (mc 1 U mn) ?_
 obtain ⟨gk,A4,w⟩:=GZ C
 refine dP 1 [] mn ?_
 obtain ⟨p,hp⟩:=aM j.aq ((gi).toNat) I
 have m:=bP a_.cells hp
 refine dS (IA ((gi).toNat) U (aA 11 U) Ar dc I I)<|dS (qA ((((gi).toNat)*5)+3) U (aA 11 U) (Nat.mul_pos I dc) fT U) ?_
 have o:=R.hG _ p hp
 have A8:=o.fault
 refine dS (iK ((gi).toNat) 3 (vI p.jU) U cq (aA 11 U) m U dc U) ?_
 obtain ⟨f,hf⟩:=aM j.aC ((p.jU).toNat) I
 have g:=bP aX.cells hf
 refine dS (IA ((p.jU).toNat) U (aA 10 U) BC dc I I)<|dS (lQ ((p.jU).toNat) 0 (aX.cells f) U cq (aA 10 U) g U dc U U) ?_
 refine dS (CL (B4 j.aC faA faC f sd) (bq [10]) U) ?_
 refine cK ?_
 have M:(eo (wa j.aC (FD j t)) (oP j.aC f) true)=(wa j.aC (FD j (t+1))):=by rw [Jo C hp hf,Gj]
 refine ja (kV:=iV) (x:=(oP j.aC f)) (C':=[_,_,_,_,_,_,_,_,_,_,_,_,(kh iV W (cR vB (wa j.aC (FD j (t+1)))))]) 12 U U U U HG (iM s9) U ((gN _ _ _ _).symm.trans (congrArg _ M)) U<|aH<|aN<|KK J<|av<|rP 2 [] mn ?_
 refine aH ?_
 have N:(vI (((t+1):Nat):Int))=(vI ((t:Int)+1)):=by exact cI I
 refine bp (G ⟨(t+1),(by first|omega|(simp only []; omega))⟩ _ _ _ U os (cY 4<|bk U N<|dG.nil _) (aU [0,1,2,3,4,5,6,7,8,9,10,11,12]))
theorem Gy (j:cV) (kA:OA) (kC:Nat) (az:List RA) (cA:OA) (cC:Nat) (bA:OA) (bC:Nat) (slA:OA) (slC:Nat) (drA:OA) (drC:Nat) (ha:List dQ) (heA:OA) (heC:Nat) (faA:OA) (faC:Nat) (prA:OA) (prC:Nat) (hin:hH j az ha):
 rU Tryz.prog 11 [(vA (dh.cells (dh.mk (di.mk (bT.mk (bG.mk (aR.mk kA j.Race.aj.aL.length kC)) j.Race.aj.eI (aR.mk cA j.Race.aj.ak.length cC) (aR.mk bA j.Race.aj.aa.length bC) j.Race.aj.bK j.Race.aj.dj j.Race.aj.ck) (aR.mk slA j.Race.aT.length slC) (aR.mk drA j.Race.bS.length drC) j.Race.f_ (aR.mk heA j.Race.aB.length heC)) (aR.mk faA j.aC.length faC) (aR.mk prA j.aq.length prC) j.cu j.j2)))] [(rd g6 3 2 fU),(rd kA j.Race.aj.aL.length 9 (j.Race.aj.aL.map au.cells)),(rd cA j.Race.aj.ak.length 2 (List.zipWith ax.cells j.Race.aj.ak az)),(d_ (bw ax.gL j.Race.aj.ak az)),(rd bA j.Race.aj.aa.length 4 (j.Race.aj.aa.map bM.cells)),(rd slA j.Race.aT.length 1 (j.Race.aT.map iC)),(rd drA j.Race.bS.length 1 (j.Race.bS.map iC)),(rd heA j.Race.aB.length 1 (List.zipWith dz j.Race.aB ha)),(d_ (bw fy j.Race.aB ha)),(rd faA j.aC.length 4 (j.aC.map aX.cells)),(rd prA j.aq.length 5 (j.aq.map a_.cells))] (fun (x:(List RA)×(OA)×Nat)=>(vT [(vS x.2.1 ((jk j).length) x.2.2),(vI (dU j))])) (fun (x:(List RA)×(OA)×Nat)=>x.1.length=(jk j).length) (fun (x:(List RA)×(OA)×Nat)=>[(own x.2.1 x.2.2 29 1 (List.zipWith yi (jk j) x.1)),(cd (bw G4 (jk j) x.1))]):=by
 have S:=hin.race
 have N:=hin.race.line
 have AA:=hin.race.jd
 have V:=hin.race.has
 have T:=hin.race.ji
 have P:=hin.nf
 have R:=hin.np
 refine gp kr Tryz.func11 U U fun Z Q hQ hN=>?_
 try dsimp only
 refine WS fun _ H=>eK U fun X=>bI 1 U<|bI 1 U<|RK H<|WS fun _ AB=>e7 1 [] (mc 0 U mn) U<|rS (CL (tO j kA kC az cA cC bA bC slA slC drA drC ha heA heC faA faC prA prC hin) (bq [1,2,3,4,5,6,7,8,9,10,11]) U)<|bI 3 U<|AL U GU fun Y=>fK U FB U<|bI 1 U<|RK AB<|ao fun _ J=>WS fun _ K=>rP 2 [] mn ?_
 refine RK K<|cH U (bu fun A=>?_) (br fun A=>?_)
 ·refine WS fun _ L=>?_
  have C:(jk j)=[]:=q7 A
  have B:([]:List RA).length=(jk j).length:=by rw [C]; rfl
  refine lj 29 1<|wL ?_
  rw [show (own none 0 29 1 ([]:List (List Value)))=own none 0 29 1 (List.zipWith yi (jk j) []) from by rw [C]; rfl,show cd []=cd (bw G4 (jk j) []) from by rw [C]; rfl]
  refine bI 2 U<|rP 1 [] mn ?_
  refine RK L<|ar ?_
  refine LX hQ ([],none,0) [1,0] [] mn U (by show List.all _ _=true; simp only [fM,List.all_nil,yd,Bool.and_true]; rfl) U ?_ ?_
  ·first|rfl|(rw [q7 A]; rfl)|(rw [A]; rfl)
  ·exact B
 refine WK J<|WS fun _ M=>rP 1 [] (mc 0 U mn) ?_
 refine cX (Gc j kA kC az cA cC bA bC slA slC drA drC ha heA heC faA faC prA prC hin sd) (bq [3,4,5,6,7,8,9,10,11,12]) U fun W E=>?_
 obtain ⟨D,F,G⟩:=W
 try dsimp only
 have B:=E
 refine rP 1 [] mn ?_
 have O:(kS j)=(jk j):=by exact (vu A).symm
 rw [O] at B ⊢
 refine rP 1 [] mn ?_
 refine RK M<|ar ?_
 refine LX hQ (D,F,G) [0,1] [] mn U (by show List.all _ _=true; simp only [fM,List.all_nil,yd,Bool.and_true]; rfl) U ?_ ?_
 ·first|rfl|(rw [q7 A]; rfl)|(rw [A]; rfl)
 ·exact B
end
section
open Go.RowKit
theorem sk:
 rU Tryz.prog 24 [] [] (fun (x:(OA)×Nat×(OA)×Nat×(List RA)×(OA)×Nat×(OA)×Nat×(OA)×Nat×(OA)×Nat×(List dQ)×(OA)×Nat×(OA)×Nat)=>(vA (dh.cells (dh.mk (di.mk (bT.mk (bG.mk (aR.mk x.1 ei.Race.aj.aL.length x.2.1)) ei.Race.aj.eI (aR.mk x.2.2.1 ei.Race.aj.ak.length x.2.2.2.1) (aR.mk x.2.2.2.2.2.1 ei.Race.aj.aa.length x.2.2.2.2.2.2.1) ei.Race.aj.bK ei.Race.aj.dj ei.Race.aj.ck) (aR.mk x.2.2.2.2.2.2.2.1 ei.Race.aT.length x.2.2.2.2.2.2.2.2.1) (aR.mk x.2.2.2.2.2.2.2.2.2.1 ei.Race.bS.length x.2.2.2.2.2.2.2.2.2.2.1) ei.Race.f_ (aR.mk x.2.2.2.2.2.2.2.2.2.2.2.1 ei.Race.aB.length x.2.2.2.2.2.2.2.2.2.2.2.2.1)) (aR.mk x.2.2.2.2.2.2.2.2.2.2.2.2.2.2.1 ei.aC.length x.2.2.2.2.2.2.2.2.2.2.2.2.2.2.2.1) (aR.mk x.2.2.2.2.2.2.2.2.2.2.2.2.2.2.2.2.1 ei.aq.length x.2.2.2.2.2.2.2.2.2.2.2.2.2.2.2.2.2) ei.cu ei.j2)))) (fun (x:(OA)×Nat×(OA)×Nat×(List RA)×(OA)×Nat×(OA)×Nat×(OA)×Nat×(OA)×Nat×(List dQ)×(OA)×Nat×(OA)×Nat)=>hH ei x.2.2.2.2.1 x.2.2.2.2.2.2.2.2.2.2.2.2.2.1∧x.2.2.2.2.1.length=ei.Race.aj.ak.length∧Hc ei.Race.aB x.2.2.2.2.2.2.2.2.2.2.2.2.2.1) (fun (x:(OA)×Nat×(OA)×Nat×(List RA)×(OA)×Nat×(OA)×Nat×(OA)×Nat×(OA)×Nat×(List dQ)×(OA)×Nat×(OA)×Nat)=>[(own x.1 x.2.1 118 9 (ei.Race.aj.aL.map au.cells)),(own x.2.2.1 x.2.2.2.1 73 2 (List.zipWith ax.cells ei.Race.aj.ak x.2.2.2.2.1)),(cd (bw ax.owns ei.Race.aj.ak x.2.2.2.2.1)),(own x.2.2.2.2.2.1 x.2.2.2.2.2.2.1 122 4 (ei.Race.aj.aa.map bM.cells)),(own x.2.2.2.2.2.2.2.1 x.2.2.2.2.2.2.2.2.1 3 1 (ei.Race.aT.map iC)),(own x.2.2.2.2.2.2.2.2.2.1 x.2.2.2.2.2.2.2.2.2.2.1 3 1 (ei.Race.bS.map iC)),(own x.2.2.2.2.2.2.2.2.2.2.2.1 x.2.2.2.2.2.2.2.2.2.2.2.2.1 51 1 (List.zipWith dz ei.Race.aB x.2.2.2.2.2.2.2.2.2.2.2.2.2.1)),(cd (bw AQ ei.Race.aB x.2.2.2.2.2.2.2.2.2.2.2.2.2.1)),(own x.2.2.2.2.2.2.2.2.2.2.2.2.2.2.1 x.2.2.2.2.2.2.2.2.2.2.2.2.2.2.2.1 80 4 (ei.aC.map aX.cells)),(own x.2.2.2.2.2.2.2.2.2.2.2.2.2.2.2.2.1 x.2.2.2.2.2.2.2.2.2.2.2.2.2.2.2.2.2 47 5 (ei.aq.map a_.cells))]):=by
 refine gp kr Tryz.func24 U U fun V Q hQ hN=>?_
 try dsimp only
 refine WS fun _ P=>AL U SB fun T=>RK P<|WS fun _ R=>rS (CL (pX 10000 10200) (aK) U)<|rS (SX (bf (xs:=[(0,.const (vI 1)),(1,.tmp 3)]) (cs:=(au.cells (au.mk 1 (ag.mk 10000 10200) (ag.mk 0 0) (ag.mk 0 0) 0 0))) U U (bg Qd U)) U U)<|ew (xs:=[.tmp 4]) (cs:=(au.cells (au.mk 1 (ag.mk 10000 10200) (ag.mk 0 0) (ag.mk 0 0) 0 0))) U zB Eu U U U U (by simp [Value.cells,au.aZ]) U U fun E=>rS (SX (bf (xs:=[(0,.tmp 5)]) (cs:=(bG.cells (bG.mk (aR.mk (some ⟨E,0,none⟩) 1 1)))) U U (bg Ua U)) U U)<|rS (CL (pX 0 2) (aK) U)<|rS (SX (bf (xs:=[(0,.const (vI 0)),(1,.tmp 7)]) (cs:=(cW.cells (cW.mk 0 (ag.mk 0 2)))) U U (bg RG U)) U U)<|rS (CL (pX 5 6) (aK) U)<|rS (SX (bf (xs:=[(0,.const (vI 100000)),(1,.tmp 9)]) (cs:=(cW.cells (cW.mk 100000 (ag.mk 5 6)))) U U (bg RG U)) U U)<|ew (xs:=[.tmp 8,.tmp 10]) (cs:=((cW.cells (cW.mk 0 (ag.mk 0 2)))++(cW.cells (cW.mk 100000 (ag.mk 5 6))))) U yq yk U U U U (by simp [Value.cells,cW.aZ]) U U fun J=>rS (SX (bf (xs:=[(0,.const (vI 100)),(1,.tmp 11)]) (cs:=(dE.cells (dE.mk 100 (aR.mk (some ⟨J,0,none⟩) 2 2)))) U U (bg S0 U)) U U)<|ew (xs:=[.tmp 12]) (cs:=(dE.cells (dE.mk 100 (aR.mk (some ⟨J,0,none⟩) 2 2)))) U Ga Og U U U U (by simp [Value.cells,dE.aZ]) U U fun L=>rS (CL (pX 1000 1000) (aK) U)<|rS (SX (bf (xs:=[(1,.tmp 14)]) (cs:=(cE.cells (cE.mk 0 (ag.mk 1000 1000)))) U U (bg JY U)) U U)<|rS (SX (bf (xs:=[(0,.tmp 15)]) (cs:=(bM.cells (bM.mk (cE.mk 0 (ag.mk 1000 1000)) 0))) U U (bg Iq U)) U U)<|rS (CL (pX 4000 4000) (aK) U)<|rS (SX (bf (xs:=[(1,.tmp 17)]) (cs:=(cE.cells (cE.mk 0 (ag.mk 4000 4000)))) U U (bg JY U)) U U)<|rS (SX (bf (xs:=[(0,.tmp 18)]) (cs:=(bM.cells (bM.mk (cE.mk 0 (ag.mk 4000 4000)) 0))) U U (bg Iq U)) U U)<|rS (CL (pX 9000 9000) (aK) U)<|rS (SX (bf (xs:=[(1,.tmp 20)]) (cs:=(cE.cells (cE.mk 0 (ag.mk 9000 9000)))) U U (bg JY U)) U U)<|rS (SX (bf (xs:=[(0,.tmp 21)]) (cs:=(bM.cells (bM.mk (cE.mk 0 (ag.mk 9000 9000)) 0))) U U (bg Iq U)) U U)<|ew (xs:=[.tmp 16,.tmp 19,.tmp 22]) (cs:=((bM.cells (bM.mk (cE.mk 0 (ag.mk 1000 1000)) 0))++(bM.cells (bM.mk (cE.mk 0 (ag.mk 4000 4000)) 0))++(bM.cells (bM.mk (cE.mk 0 (ag.mk 9000 9000)) 0)))) U xQ RU U U U U (by simp [Value.cells,bM.aZ]) U U fun M=>rS (SX (bf (xs:=[(0,.tmp 6),(1,.const (vI 2000)),(4,.const (vI 1)),(5,.const (vI 1)),(6,.const (vI 1)),(2,.tmp 13),(3,.tmp 23)]) (cs:=(bT.cells (bT.mk (bG.mk (aR.mk (some ⟨E,0,none⟩) 1 1)) 2000 (aR.mk (some ⟨L,0,none⟩) 1 1) (aR.mk (some ⟨M,0,none⟩) 3 3) 1 1 1))) U U (bg T_ U)) U U)<|AL U Sj fun AA=>?_
 refine ku (es:=(ei.Race.aj.aL.map au.cells)) (C':=[_,_,_,_,(own (some ⟨E,0,none⟩) 1 118 9 (ei.Race.aj.aL.map au.cells)),_]) 4 U (m7 au.aZ _) U (by show _≤maxLen; exact Nat.le_trans (m:=10) (show (1:Nat)≤10 by decide) dc) U ?_
 refine ku (es:=(yh.bJ.map cW.cells)) (C':=[_,_,_,(own (some ⟨J,0,none⟩) 2 75 3 (yh.bJ.map cW.cells)),_,_]) 3 U (m7 cW.aZ _) U (by show _≤maxLen; exact Nat.le_trans (m:=10) (show (2:Nat)≤10 by decide) dc) U ?_
 refine ku (es:=(List.zipWith ax.cells ei.Race.aj.ak [((some ⟨J,0,none⟩),2)])) (C':=[_,_,(own (some ⟨L,0,none⟩) 1 73 2 (List.zipWith ax.cells ei.Race.aj.ak [((some ⟨J,0,none⟩),2)])),_,_,_]) 2 U (by intro x hx; change x∈[ax.cells yh ((some ⟨J,0,none⟩),2)] at hx; rw [cm.1 hx]; rfl) U (by show _≤maxLen; exact Nat.le_trans (m:=10) (show (1:Nat)≤10 by decide) dc) U ?_
 refine ku (es:=(ei.Race.aj.aa.map bM.cells)) (C':=[_,(own (some ⟨M,0,none⟩) 3 122 4 (ei.Race.aj.aa.map bM.cells)),_,_,_,_]) 1 U (m7 bM.aZ _) U (by show _≤maxLen; exact Nat.le_trans (m:=10) (show (3:Nat)≤10 by decide) dc) U ?_
 refine wL<|M5 (X:=[]) (X':=bw ax.owns ei.Race.aj.ak [((some ⟨J,0,none⟩),2)]) 0 4 rfl rfl rfl<|sr rfl TX rfl<|RK R<|WS fun _ S=>rS (SX (bf (xs:=[(0,.const (vI 0)),(1,.const (vI 10600))]) (cs:=(aG.cells (aG.mk 0 10600))) rfl rfl (bg Kg rfl)) rfl rfl)<|rS (SX (bf (xs:=[(0,.const (vI 0)),(1,.const (vI 11000))]) (cs:=(aG.cells (aG.mk 0 11000))) rfl rfl (bg Kg rfl)) rfl rfl)<|rS (SX (bf (xs:=[(0,.const (vI 1)),(1,.const (vI 12600))]) (cs:=(aG.cells (aG.mk 1 12600))) rfl rfl (bg Kg rfl)) rfl rfl)<|ew (xs:=[.tmp 25,.tmp 26,.tmp 27]) (cs:=((aG.cells (aG.mk 0 10600))++(aG.cells (aG.mk 0 11000))++(aG.cells (aG.mk 1 12600)))) rfl zK Gw rfl rfl rfl rfl (by simp [Value.cells,aG.aZ]) rfl rfl fun A=>rS (SX (bf (xs:=[(0,.const (vI 10000)),(1,.const (vI 20000)),(2,.tmp 28)]) (cs:=(cU.cells (cU.mk 10000 20000 (aR.mk (some ⟨A,0,none⟩) 3 3)))) rfl rfl (bg SK rfl)) rfl rfl)<|AL rfl Ti fun N=>ku (es:=(l_.ab.map aG.cells)) (C':=[_,(own (some ⟨A,0,none⟩) 3 78 2 (l_.ab.map aG.cells)),_,_,_,_,_,_]) 1 rfl (m7 aG.aZ _) rfl dc rfl<|fK rfl S6 rfl<|RK S<|ao fun _ O=>Nf (L':=[(0,(vP T)),(1,(vP AA)),(2,(vP N)),(3,(vA (ag.cells (ag.mk 10000 10200)))),(4,(vA (au.cells (au.mk 1 (ag.mk 10000 10200) (ag.mk 0 0) (ag.mk 0 0) 0 0)))),(5,(vS (some ⟨E,0,none⟩) 1 1)),(6,(vA (bG.cells (bG.mk (aR.mk (some ⟨E,0,none⟩) 1 1))))),(7,(vA (ag.cells (ag.mk 0 2)))),(8,(vA (cW.cells (cW.mk 0 (ag.mk 0 2))))),(9,(vA (ag.cells (ag.mk 5 6)))),(10,(vA (cW.cells (cW.mk 100000 (ag.mk 5 6))))),(11,(vS (some ⟨J,0,none⟩) 2 2)),(12,(vA (dE.cells (dE.mk 100 (aR.mk (some ⟨J,0,none⟩) 2 2))))),(13,(vS (some ⟨L,0,none⟩) 1 1)),(14,(vA (ag.cells (ag.mk 1000 1000)))),(15,(vA (cE.cells (cE.mk 0 (ag.mk 1000 1000))))),(16,(vA (bM.cells (bM.mk (cE.mk 0 (ag.mk 1000 1000)) 0)))),(17,(vA (ag.cells (ag.mk 4000 4000)))),(18,(vA (cE.cells (cE.mk 0 (ag.mk 4000 4000))))),(19,(vA (bM.cells (bM.mk (cE.mk 0 (ag.mk 4000 4000)) 0)))),(20,(vA (ag.cells (ag.mk 9000 9000)))),(21,(vA (cE.cells (cE.mk 0 (ag.mk 9000 9000))))),(22,(vA (bM.cells (bM.mk (cE.mk 0 (ag.mk 9000 9000)) 0)))),(23,(vS (some ⟨M,0,none⟩) 3 3)),(24,(vA (bT.cells (bT.mk (bG.mk (aR.mk (some ⟨E,0,none⟩) 1 1)) 2000 (aR.mk (some ⟨L,0,none⟩) 1 1) (aR.mk (some ⟨M,0,none⟩) 3 3) 1 1 1)))),(25,(vA (aG.cells (aG.mk 0 10600)))),(26,(vA (aG.cells (aG.mk 0 11000)))),(27,(vA (aG.cells (aG.mk 1 12600)))),(28,(vS (some ⟨A,0,none⟩) 3 3)),(29,(vA (cU.cells (cU.mk 10000 20000 (aR.mk (some ⟨A,0,none⟩) 3 3)))))]) rfl<|mx cx [0,3,4,5,6,8,9,10,14,15,16,17,19,20,21] [7,11,12,1,2,13,18,22,23,24] [false,false,false,false,false,false,false,false,false,false,false,false,false,false,false] [] [(cw N 56 (cU.cells (cU.mk 10000 20000 (aR.mk (some ⟨A,0,none⟩) 3 3)))),(own (some ⟨A,0,none⟩) 3 78 2 (l_.ab.map aG.cells)),(cd (bw ax.owns ei.Race.aj.ak [((some ⟨J,0,none⟩),2)])),(cw AA 28 (bT.cells (bT.mk (bG.mk (aR.mk (some ⟨E,0,none⟩) 1 1)) 2000 (aR.mk (some ⟨L,0,none⟩) 1 1) (aR.mk (some ⟨M,0,none⟩) 3 3) 1 1 1))),(own (some ⟨M,0,none⟩) 3 122 4 (ei.Race.aj.aa.map bM.cells)),(own (some ⟨L,0,none⟩) 1 73 2 (List.zipWith ax.cells ei.Race.aj.ak [((some ⟨J,0,none⟩),2)])),(own (some ⟨E,0,none⟩) 1 118 9 (ei.Race.aj.aL.map au.cells))] [] kr (aU [0,1,2,3,4,5,6]) (aU [])<|eS rfl (LW 3 rfl cq rfl rfl)<|eS rfl (LW 0 rfl cq rfl rfl)<|eS rfl (SX (bf (xs:=[(3,.tmp 33)]) (cs:=(aO.cells (aO.mk false false (ag.mk 0 0) (cU.mk 10000 20000 (aR.mk (some ⟨A,0,none⟩) 3 3))))) rfl rfl (bg Q0 rfl)) rfl rfl)<|eS rfl (CL (re 2600 2600) (aK) rfl)<|eS rfl (CL (re 2580 2609) (aK) rfl)<|eS rfl (CL (re 2555 2559) (aK) rfl)<|eS rfl (CL (re 2540 2549) (aK) rfl)<|eS rfl (CL (re 2570 2575) (aK) rfl)<|eS rfl (SX (bf (xs:=[(0,.const (Value.int .u8 1)),(2,.const (vI 12600)),(3,.const (vI 13000))]) (cs:=(aX.cells (aX.mk 1 0 12600 13000))) rfl rfl (bg KU rfl)) rfl rfl)<|eS rfl (SX (bf (xs:=[(0,.const (Value.int .u8 2)),(1,.const (vI 1)),(2,.const (vI 11003)),(3,.const (vI 11100))]) (cs:=(aX.cells (aX.mk 2 1 11003 11100))) rfl rfl (bg KU rfl)) rfl rfl)<|eS rfl (SX (bf (xs:=[(0,.const (Value.int .u8 3)),(2,.const (vI 10700)),(3,.const (vI 10900))]) (cs:=(aX.cells (aX.mk 3 0 10700 10900))) rfl rfl (bg KU rfl)) rfl rfl)<|eS rfl (SX (bf (xs:=[(0,.const (Value.int .u8 1)),(2,.const (vI 13000)),(3,.const (vI 14000))]) (cs:=(aX.cells (aX.mk 1 0 13000 14000))) rfl rfl (bg KU rfl)) rfl rfl)<|eS rfl (SX (bf (xs:=[(0,.const (vI 2)),(3,.const (vI 0)),(4,.const (vI 72596))]) (cs:=(a_.cells (a_.mk 2 0 0 0 72596))) rfl rfl (bg Oi rfl)) rfl rfl)<|eS rfl (SX (bf (xs:=[(0,.const (vI 5)),(3,.const (vI 1)),(4,.const (vI 72603))]) (cs:=(a_.cells (a_.mk 5 0 0 1 72603))) rfl rfl (bg Oi rfl)) rfl rfl)<|eS rfl (SX (bf (xs:=[(0,.const (vI 6)),(3,.const (vI 3)),(4,.const (vI 20000))]) (cs:=(a_.cells (a_.mk 6 0 0 3 20000))) rfl rfl (bg Oi rfl)) rfl rfl)<|eJ rfl<|D_ [.take 7,.take 11,.op 12,.take 1,.take 2,.op 13,.take 18,.take 22,.op 23,.op 24] [(34,(vA (aO.cells (aO.mk false false (ag.mk 0 0) (cU.mk 10000 20000 (aR.mk (some ⟨A,0,none⟩) 3 3)))))),(35,(vA (aO.cells (aO.mk false true (ag.mk 2600 2600) (cU.mk 0 0 (aR.mk none 0 0)))))),(36,(vA (aO.cells (aO.mk false true (ag.mk 2580 2609) (cU.mk 0 0 (aR.mk none 0 0)))))),(38,(vA (aO.cells (aO.mk false true (ag.mk 2555 2559) (cU.mk 0 0 (aR.mk none 0 0)))))),(39,(vA (aO.cells (aO.mk false true (ag.mk 2540 2549) (cU.mk 0 0 (aR.mk none 0 0)))))),(40,(vA (aO.cells (aO.mk false true (ag.mk 2570 2575) (cU.mk 0 0 (aR.mk none 0 0)))))),(44,(vA (aX.cells (aX.mk 1 0 12600 13000)))),(45,(vA (aX.cells (aX.mk 2 1 11003 11100)))),(46,(vA (aX.cells (aX.mk 3 0 10700 10900)))),(47,(vA (aX.cells (aX.mk 1 0 13000 14000)))),(49,(vA (a_.cells (a_.mk 2 0 0 0 72596)))),(50,(vA (a_.cells (a_.mk 5 0 0 1 72603)))),(51,(vA (a_.cells (a_.mk 6 0 0 3 20000))))] (fun i=>match i with |7=>37|11=>41|1=>31|2=>32|18=>48|22=>52|_=>0) (fun i b=>match i with |7=> .slice (some ⟨b,0,none⟩) 3 3|11=> .slice (some ⟨b,0,none⟩) 3 3|1=> .slice (some ⟨b,0,none⟩) 3 3|2=> .slice (some ⟨b,0,none⟩) 3 3|18=> .slice (some ⟨b,0,none⟩) 4 4|22=> .slice (some ⟨b,0,none⟩) 3 3|_=>undef) (fun i b=>match i with |7=>cw b 58 ((aO.cells (aO.mk false false (ag.mk 0 0) (cU.mk 10000 20000 (aR.mk (some ⟨A,0,none⟩) 3 3))))++(aO.cells (aO.mk false true (ag.mk 2600 2600) (cU.mk 0 0 (aR.mk none 0 0))))++(aO.cells (aO.mk false true (ag.mk 2580 2609) (cU.mk 0 0 (aR.mk none 0 0)))))|11=>cw b 58 ((aO.cells (aO.mk false true (ag.mk 2555 2559) (cU.mk 0 0 (aR.mk none 0 0))))++(aO.cells (aO.mk false true (ag.mk 2540 2549) (cU.mk 0 0 (aR.mk none 0 0))))++(aO.cells (aO.mk false true (ag.mk 2570 2575) (cU.mk 0 0 (aR.mk none 0 0)))))|1=>cw b 3 [(vI 4),(vI 7),(vI 9)]|2=>cw b 3 [(vI 2),(vI 0),(vI 1)]|18=>cw b 80 ((aX.cells (aX.mk 1 0 12600 13000))++(aX.cells (aX.mk 2 1 11003 11100))++(aX.cells (aX.mk 3 0 10700 10900))++(aX.cells (aX.mk 1 0 13000 14000)))|22=>cw b 47 ((a_.cells (a_.mk 2 0 0 0 72596))++(a_.cells (a_.mk 5 0 0 1 72603))++(a_.cells (a_.mk 6 0 0 3 20000)))|_=>cw b 0 []) rfl rfl rfl kr rfl rfl (aU [0,1,2,3,4,5,6]) (mu (vH (xs:=[.tmp 34,.tmp 35,.tmp 36]) (cs:=((aO.cells (aO.mk false false (ag.mk 0 0) (cU.mk 10000 20000 (aR.mk (some ⟨A,0,none⟩) 3 3))))++(aO.cells (aO.mk false true (ag.mk 2600 2600) (cU.mk 0 0 (aR.mk none 0 0))))++(aO.cells (aO.mk false true (ag.mk 2580 2609) (cU.mk 0 0 (aR.mk none 0 0)))))) rfl vn AU rfl rfl rfl rfl (by simp [Value.cells,aO.aZ]) rfl rfl rfl (fun _=>rfl) fun _=>rfl)<|mu (vH (xs:=[.tmp 38,.tmp 39,.tmp 40]) (cs:=((aO.cells (aO.mk false true (ag.mk 2555 2559) (cU.mk 0 0 (aR.mk none 0 0))))++(aO.cells (aO.mk false true (ag.mk 2540 2549) (cU.mk 0 0 (aR.mk none 0 0))))++(aO.cells (aO.mk false true (ag.mk 2570 2575) (cU.mk 0 0 (aR.mk none 0 0)))))) rfl vn AU rfl rfl rfl rfl (by simp [Value.cells,aO.aZ]) rfl rfl rfl (fun _=>rfl) fun _=>rfl)<|rD<|mu (vH (xs:=[.const (vI 4),.const (vI 7),.const (vI 9)]) (cs:=[(vI 4),(vI 7),(vI 9)]) rfl dD kl rfl rfl rfl rfl (by simp [Value.cells]) rfl rfl rfl (fun _=>rfl) fun _=>rfl)<|mu (vH (xs:=[.const (vI 2),.const (vI 0),.const (vI 1)]) (cs:=[(vI 2),(vI 0),(vI 1)]) rfl dD kl rfl rfl rfl rfl (by simp [Value.cells]) rfl rfl rfl (fun _=>rfl) fun _=>rfl)<|rD<|mu (vH (xs:=[.tmp 44,.tmp 45,.tmp 46,.tmp 47]) (cs:=((aX.cells (aX.mk 1 0 12600 13000))++(aX.cells (aX.mk 2 1 11003 11100))++(aX.cells (aX.mk 3 0 10700 10900))++(aX.cells (aX.mk 1 0 13000 14000)))) rfl BC Oe rfl rfl rfl rfl (by simp [Value.cells,aX.aZ]) rfl rfl rfl (fun _=>rfl) fun _=>rfl)<|mu (vH (xs:=[.tmp 49,.tmp 50,.tmp 51]) (cs:=((a_.cells (a_.mk 2 0 0 0 72596))++(a_.cells (a_.mk 5 0 0 1 72603))++(a_.cells (a_.mk 6 0 0 3 20000)))) rfl Ar I3 rfl rfl rfl rfl (by simp [Value.cells,a_.aZ]) rfl rfl rfl (fun _=>rfl) fun _=>rfl)<|rD<|rD<|Hy) ?_
 intro F
 try dsimp only
 intro G
 try dsimp only
 refine q_ U fun Y X K hT=>ew (xs:=[.tmp 37,.tmp 41]) (cs:=[(vS (some ⟨F,0,none⟩) 3 3),(vS (some ⟨G,0,none⟩) 3 3)]) U sT Su U U U U (by simp [Value.cells]) U U fun B=>nz hT 48 11 U U (fun w hs=>St.kG [3,4,5,6,7,8,9] U U hs) U U ?_
 try dsimp only [List.take]
 intro C
 try dsimp only
 intro D
 try dsimp only
 refine q_ U fun Y X K hT=>rS (SX (bf (xs:=[(0,.tmp 30),(1,.tmp 31),(2,.tmp 32),(3,.const (vI 2)),(4,.tmp 42)]) (cs:=(di.cells (di.mk (bT.mk (bG.mk (aR.mk (some ⟨E,0,none⟩) 1 1)) 2000 (aR.mk (some ⟨L,0,none⟩) 1 1) (aR.mk (some ⟨M,0,none⟩) 3 3) 1 1 1) (aR.mk (some ⟨C,0,none⟩) 3 3) (aR.mk (some ⟨D,0,none⟩) 3 3) 2 (aR.mk (some ⟨B,0,none⟩) 2 2)))) U U (bg Tv U)) U U)<|nz hT 51 13 U U (fun w hs=>St.kG [5,6,7,8,9,10,11] U U hs) U U ?_
 try dsimp only [List.take]
 intro H
 try dsimp only
 intro AB
 try dsimp only
 refine q_ U fun Y X K hT=>rS (SX (bf (xs:=[(0,.tmp 43),(1,.tmp 48),(2,.tmp 52),(3,.const (vI 1)),(4,.const (vI 500))]) (cs:=(dh.cells (dh.mk (di.mk (bT.mk (bG.mk (aR.mk (some ⟨E,0,none⟩) 1 1)) 2000 (aR.mk (some ⟨L,0,none⟩) 1 1) (aR.mk (some ⟨M,0,none⟩) 3 3) 1 1 1) (aR.mk (some ⟨C,0,none⟩) 3 3) (aR.mk (some ⟨D,0,none⟩) 3 3) 2 (aR.mk (some ⟨B,0,none⟩) 2 2)) (aR.mk (some ⟨H,0,none⟩) 4 4) (aR.mk (some ⟨AB,0,none⟩) 3 3) 1 500))) U U (bg Sx U)) U U)<|nz hT 54 15 U U (fun w hs=>St.kG [7,8,9,10,11,12,13] U U hs) U U ?_
 try dsimp only [List.take]
 refine q_ U fun Y X K hT=>iD (vs:=(dh.cells (dh.mk (di.mk (bT.mk (bG.mk (aR.mk (some ⟨E,0,none⟩) 1 1)) 2000 (aR.mk (some ⟨L,0,none⟩) 1 1) (aR.mk (some ⟨M,0,none⟩) 3 3) 1 1 1) (aR.mk (some ⟨C,0,none⟩) 3 3) (aR.mk (some ⟨D,0,none⟩) 3 3) 2 (aR.mk (some ⟨B,0,none⟩) 2 2)) (aR.mk (some ⟨H,0,none⟩) 4 4) (aR.mk (some ⟨AB,0,none⟩) 3 3) 1 500))) (cs':=(dh.cells (dh.mk (di.mk (bT.mk (bG.mk (aR.mk (some ⟨E,0,none⟩) 1 1)) 2000 (aR.mk (some ⟨L,0,none⟩) 1 1) (aR.mk (some ⟨M,0,none⟩) 3 3) 1 1 1) (aR.mk (some ⟨C,0,none⟩) 3 3) (aR.mk (some ⟨D,0,none⟩) 3 3) 2 (aR.mk (some ⟨B,0,none⟩) 2 2)) (aR.mk (some ⟨H,0,none⟩) 4 4) (aR.mk (some ⟨AB,0,none⟩) 3 3) 1 500))) (C':=[_,_,_,_,_,_,_,_,_,_,_,_,_,_,(cw T 36 (dh.cells (dh.mk (di.mk (bT.mk (bG.mk (aR.mk (some ⟨E,0,none⟩) 1 1)) 2000 (aR.mk (some ⟨L,0,none⟩) 1 1) (aR.mk (some ⟨M,0,none⟩) 3 3) 1 1 1) (aR.mk (some ⟨C,0,none⟩) 3 3) (aR.mk (some ⟨D,0,none⟩) 3 3) 2 (aR.mk (some ⟨B,0,none⟩) 2 2)) (aR.mk (some ⟨H,0,none⟩) 4 4) (aR.mk (some ⟨AB,0,none⟩) 3 3) 1 500)))]++X) 14 U U U Tm U U U U U U U<|nz hT 54 15 U U (fun w hs=>St.kG [7,8,9,10,11,12,13] U U hs) U U ?_
 try dsimp only [List.take]
 refine KK O ?_
 refine mh (es:=(ei.Race.aT.map iC)) (C':=[_,_,_,(own (some ⟨C,0,none⟩) 3 3 1 (ei.Race.aT.map iC)),_,_,_,_,_,_,_,_,_,_,_]) 3 U (m7 bO _) U (by show _≤maxLen; exact Nat.le_trans (m:=10) (show (3:Nat)≤10 by decide) dc) U ?_
 refine mh (es:=(ei.Race.bS.map iC)) (C':=[_,_,(own (some ⟨D,0,none⟩) 3 3 1 (ei.Race.bS.map iC)),_,_,_,_,_,_,_,_,_,_,_,_]) 2 U (m7 bO _) U (by show _≤maxLen; exact Nat.le_trans (m:=10) (show (3:Nat)≤10 by decide) dc) U ?_
 refine mh (es:=(ei.aC.map aX.cells)) (C':=[_,(own (some ⟨H,0,none⟩) 4 80 4 (ei.aC.map aX.cells)),_,_,_,_,_,_,_,_,_,_,_,_,_]) 1 U (m7 aX.aZ _) U (by show _≤maxLen; exact Nat.le_trans (m:=10) (show (4:Nat)≤10 by decide) dc) U ?_
 refine mh (es:=(ei.aq.map a_.cells)) (C':=[(own (some ⟨AB,0,none⟩) 3 47 5 (ei.aq.map a_.cells)),_,_,_,_,_,_,_,_,_,_,_,_,_,_]) 0 U (m7 a_.aZ _) U (by show _≤maxLen; exact Nat.le_trans (m:=10) (show (3:Nat)≤10 by decide) dc) U ?_
 refine mh (es:=(List.zipWith ay.cells HD [((some ⟨A,0,none⟩),3),(none,0),(none,0)])) (C':=[_,_,_,_,_,_,(own (some ⟨F,0,none⟩) 3 58 7 (List.zipWith ay.cells HD [((some ⟨A,0,none⟩),3),(none,0),(none,0)])),_,_,_,_,_,_,_,_]) 6 U (rj EN) U (by show _≤maxLen; exact Nat.le_trans (m:=10) (show (3:Nat)≤10 by decide) dc) U ?_
 refine mh (es:=(List.zipWith ay.cells QY [(none,0),(none,0),(none,0)])) (C':=[_,_,_,_,_,(own (some ⟨G,0,none⟩) 3 58 7 (List.zipWith ay.cells QY [(none,0),(none,0),(none,0)])),_,_,_,_,_,_,_,_,_]) 5 U (rj EN) U (by show _≤maxLen; exact Nat.le_trans (m:=10) (show (3:Nat)≤10 by decide) dc) U ?_
 refine mh (es:=(List.zipWith dz ei.Race.aB [(((some ⟨F,0,none⟩),3),[((some ⟨A,0,none⟩),3),(none,0),(none,0)]),(((some ⟨G,0,none⟩),3),[(none,0),(none,0),(none,0)])])) (C':=[_,_,_,_,(own (some ⟨B,0,none⟩) 2 51 1 (List.zipWith dz ei.Race.aB [(((some ⟨F,0,none⟩),3),[((some ⟨A,0,none⟩),3),(none,0),(none,0)]),(((some ⟨G,0,none⟩),3),[(none,0),(none,0),(none,0)])])),_,_,_,_,_,_,_,_,_,_]) 4 U (rj Iu) U (by show _≤maxLen; exact Nat.le_trans (m:=10) (show (2:Nat)≤10 by decide) dc) U ?_
 refine eL 78 2<|eL 78 2<|eL 78 2<|eL 78 2<|eL 78 2<|FJ (bw AQ ei.Race.aB [(((some ⟨F,0,none⟩),3),[((some ⟨A,0,none⟩),3),(none,0),(none,0)]),(((some ⟨G,0,none⟩),3),[(none,0),(none,0),(none,0)])]) [11,13,0,1,10,2,3,4] [5,6,7,8,9,12,14,15,16,17,18,19] U U<|ar ?_
 refine LX hQ ((some ⟨E,0,none⟩),1,(some ⟨L,0,none⟩),1,[((some ⟨J,0,none⟩),2)],(some ⟨M,0,none⟩),3,(some ⟨C,0,none⟩),3,(some ⟨D,0,none⟩),3,(some ⟨B,0,none⟩),2,[(((some ⟨F,0,none⟩),3),[((some ⟨A,0,none⟩),3),(none,0),(none,0)]),(((some ⟨G,0,none⟩),3),[(none,0),(none,0),(none,0)])],(some ⟨H,0,none⟩),4,(some ⟨AB,0,none⟩),3) [11,10,7,9,4,3,5,0,2,1] [0] (mc 12 U mn) U (by show List.all _ _=true; simp only [fM,List.all_nil,zl,Kl,Bool.and_true]; rfl) U U ?_
 exact ⟨Nt (Rw 1 dc) HP,U,HP⟩
end
section
open Go.RowKit
theorem Ab (G:List (List Int)) (H:List (List Int)) (gz:List RA) (gA:OA) (gC:Nat) (hz:List RA) (hA:OA) (hC:Nat) (h1:G.length≤1000000) (h2:H.length≤1000000) (h3: ∀ l∈G,l.length≤1000000) (h4: ∀ l∈H,l.length≤1000000) (hgz:gz.length=G.length) (hhz:hz.length=H.length):
 dH Tryz.prog 20 [(vS gA G.length gC),(vS hA H.length hC)] [(rd gA G.length 1 (List.zipWith yi G gz)),(d_ (bw Px G gz)),(rd hA H.length 1 (List.zipWith yi H hz)),(d_ (bw Px H hz))] (vB (decide (G=H))):=by
 refine bH kr Tryz.func20 U U fun Z Q hQ hN=>?_
 try dsimp only
 refine WS fun _ N=>bI 1 U<|RK N<|ao fun _ O=>WS fun _ P=>rP 5 [] mn ?_
 refine RK P<|cH U (bu fun hl=>?_) (br fun hl=>?_)
 ·refine WS fun _ R=>rP 1 [] mn ?_
  refine RK R<|ar<|Q1 hQ U U U ?_
  first|exact cB (bx (nZ hx hy h)).symm|exact cB (c8 (nW I A I)).symm|exact cB (bx (fun e=>by subst e; omega)).symm
 refine WK O<|ao fun _ S=>WS fun _ T=>rP 1 [] mn ?_
 refine RK T<|aF ?_
 have B:(0≤G.length)∧(G.take 0=H.take 0):=by exact ⟨Nat.zero_le _,rfl⟩
 refine bZ (ι:={z:Nat // (z≤G.length)∧(G.take z=H.take z)}) [0,1] [0,1,2,3] U U (fun z=>[(5,(vI (z.1:Int)))]) (fun z=>[]) (fun _=>rfl) (fun _=>rfl) (fun z=>G.length-z.1) ⟨0,B⟩ (bE U) (aU [0,1,2,3]) ?_
 clear B
 rintro ⟨i,⟨W,A⟩⟩ J7 M
 try dsimp only
 refine ao fun _ AA=>WS fun _ V=>rP 4 [] mn ?_
 refine RK V<|bV U (aW fun L=>?_) (aV fun L=>?_)
 ·refine bQ<|ai<|ai<|aI<|KK S<|WS fun _ F=>rP 1 [] mn ?_
  refine RK F<|ar<|Q1 hQ U U U ?_
  first|exact cB (bx (nZ hx hy h)).symm|exact cB (c8 (nW I A I)).symm|exact cB (bx (fun e=>by subst e; omega)).symm
 refine WK AA<|ao fun _ C=>aF<|ao fun _ D=>dw cx 10 kr<|dP 2 [] mn ?_
 obtain ⟨x,hx⟩:=aM G i I
 obtain ⟨xa,J⟩:=aM gz i I
 have X:(List.zipWith yi G gz)[i]? =some (yi x xa):=er hx J
 refine dS (IA i U (aA 0 U) K7 dc I I)<|dS (iK i 0 (vS xa.1 x.length xa.2) U cq (aA 0 U) X U dc U)<|dP 2 [] mn ?_
 obtain ⟨y,hy⟩:=aM H i I
 obtain ⟨ya,K⟩:=aM hz i I
 have Y:(List.zipWith yi H hz)[i]? =some (yi y ya):=er hy K
 refine dS (IA i U (aA 2 U) K7 dc I I)<|dS (iK i 0 (vS ya.1 y.length ya.2) U cq (aA 2 U) Y U dc U)<|dS (CL (Bh x xa.1 xa.2 y ya.1 ya.2 (by exact h3 x (aP hx)) (by exact h4 y (aP hy))) (aJ (show js _ (rd xa.1 x.length 1 (x.map iC)).holds from (df 1 U (bW hx J (by simp [Px]))))<|aJ (show js _ (rd ya.1 y.length 1 (y.map iC)).holds from (df 3 U (bW hy K (by simp [Px]))))<|aK) U)<|dP 1 [] mn ?_
 refine cK<|RK D<|cH U (bu fun h=>?_) (br fun h=>?_)
 ·refine WS fun _ E=>rP 1 [] mn ?_
  refine RK E<|ar<|Q1 hQ U U U ?_
  first|exact cB (bx (nZ hx hy h)).symm|exact cB (c8 (nW I A I)).symm|exact cB (bx (fun e=>by subst e; omega)).symm
 refine ct<|aN<|KK C<|av<|rP 3 [] mn ?_
 refine aH ?_
 have AB:(vI (((i+1):Nat):Int))=(vI ((i:Int)+1)):=by exact cI I
 refine bp (M ⟨(i+1),⟨I,uP A hx hy h⟩⟩ _ _ _ U os (dG.cons U<|dG.cons U<|bk U AB<|dG.nil _) (aU [0,1,2,3]))
theorem w4 (fq sq x:Int):
 dH Tryz.prog 25 [(vI fq),(vI sq),(Value.int .u8 x)] [(rd g6 3 2 fU)] (vB (decide (oU ei fq 0 sq=0∧pW ei fq 0 sq=x))):=by
 refine bH kr Tryz.func25 U U fun c Q hQ hN=>?_
 try dsimp only
 refine WS fun _ X=>rP 1 [] mn ?_
 refine RK X<|WS fun _ Y=>cX sk (aK) U fun b a=>?_
 obtain ⟨S,V,T,W,AA,C,G,D,H,E,AB,F,J,O,K,L,P,R⟩:=b
 try dsimp only
 obtain ⟨N,Z,M⟩:=a
 refine bI 2 U<|rS (CL (Lr ei S V AA T W C G D H E AB O F J K L P R fq 0 sq (by exact N)) (g_ 10 U U<|aJ (aQ (n:=ei.Race.aj.aL.length) 0 U sm)<|aJ (aQ (n:=ei.Race.aj.ak.length) 1 U (rJ Z))<|aJ (gQ 2 U o1)<|aJ (aQ (n:=ei.Race.aj.aa.length) 3 U sm)<|aJ (aQ (n:=ei.Race.aT.length) 4 U sm)<|aJ (aQ (n:=ei.Race.bS.length) 5 U sm)<|aJ (aQ (n:=ei.Race.aB.length) 6 U (pb M.1))<|aJ (nj 7 U M)<|aJ (aQ (n:=ei.aC.length) 8 U sm)<|aJ (aQ (n:=ei.aq.length) 9 U sm)<|aK) U)<|bI 5 U<|RK Y<|WS fun _ B=>rP 3 [] mn ?_
 refine cM (t:=18) U (aW fun A=>?_) (aV fun A=>?_)
 ·refine rP 5 [] mn ?_
  refine RK B<|ar<|Q1 hQ U U U ?_
  first|exact cB (bx fun q=>A q.1).symm|exact cB (fu.2 ⟨fun q=>⟨A,q⟩,fun q=>q.2⟩)
 refine bI 2 U<|rS (BI U mX)<|rP 2 [] mn ?_
 refine RK B<|ar<|Q1 hQ U U U ?_
 first|exact cB (bx fun q=>A q.1).symm|exact cB (fu.2 ⟨fun q=>⟨A,q⟩,fun q=>q.2⟩)
theorem Eo (iq x:Int):
 dH Tryz.prog 26 [(vI iq),(Value.int .u8 x)] [(rd g6 3 2 fU)] (vB (decide (tJ ei iq=0∧vY ei iq=x))):=by
 refine bH kr Tryz.func26 U U fun c Q hQ hN=>?_
 try dsimp only
 refine WS fun _ X=>rP 1 [] mn ?_
 refine RK X<|WS fun _ Y=>cX sk (aK) U fun b a=>?_
 obtain ⟨S,V,T,W,AA,C,G,D,H,E,AB,F,J,O,K,L,P,R⟩:=b
 try dsimp only
 obtain ⟨N,Z,M⟩:=a
 refine bI 1 U<|rS (CL (OB ei S V AA T W C G D H E AB O F J K L P R iq (by exact N)) (g_ 10 U U<|aJ (aQ (n:=ei.Race.aj.aL.length) 0 U sm)<|aJ (aQ (n:=ei.Race.aj.ak.length) 1 U (rJ Z))<|aJ (gQ 2 U o1)<|aJ (aQ (n:=ei.Race.aj.aa.length) 3 U sm)<|aJ (aQ (n:=ei.Race.aT.length) 4 U sm)<|aJ (aQ (n:=ei.Race.bS.length) 5 U sm)<|aJ (aQ (n:=ei.Race.aB.length) 6 U (pb M.1))<|aJ (nj 7 U M)<|aJ (aQ (n:=ei.aC.length) 8 U sm)<|aJ (aQ (n:=ei.aq.length) 9 U sm)<|aK) U)<|bI 5 U<|RK Y<|WS fun _ B=>rP 3 [] mn ?_
 refine cM (t:=15) U (aW fun A=>?_) (aV fun A=>?_)
 ·refine rP 5 [] mn ?_
  refine RK B<|ar<|Q1 hQ U U U ?_
  first|exact cB (bx fun q=>A q.1).symm|exact cB (fu.2 ⟨fun q=>⟨A,q⟩,fun q=>q.2⟩)
 refine bI 2 U<|rS (BI U mX)<|rP 2 [] mn ?_
 refine RK B<|ar<|Q1 hQ U U U ?_
 first|exact cB (bx fun q=>A q.1).symm|exact cB (fu.2 ⟨fun q=>⟨A,q⟩,fun q=>q.2⟩)
end
section
open Go.RowKit
theorem J0:
 dH Tryz.prog 8 [] [(rd g6 3 2 fU)] (vB true):=by
 refine bH kr Tryz.func8 U U fun w0 Q hQ hN=>?_
 try dsimp only
 refine WS fun _ Kj=>rP 1 [] mn ?_
 refine RK Kj<|WS fun _ Kz=>cX sk (aK) U fun y3 K0=>?_
 obtain ⟨J2,J8,J4,Ka,J7,K,l,O,r,T,w,X,AC,GT,A1,A5,IO,If⟩:=y3
 try dsimp only
 obtain ⟨B,C,A⟩:=K0
 refine cX (x4 ei J2 J8 J7 J4 Ka K l O r T w GT X AC A1 A5 IO If (by exact B)) (g_ 10 U U<|aJ (aQ (n:=ei.Race.aj.aL.length) 0 U sm)<|aJ (aQ (n:=ei.Race.aj.ak.length) 1 U (rJ C))<|aJ (gQ 2 U o1)<|aJ (aQ (n:=ei.Race.aj.aa.length) 3 U sm)<|aJ (aQ (n:=ei.Race.aT.length) 4 U sm)<|aJ (aQ (n:=ei.Race.bS.length) 5 U sm)<|aJ (aQ (n:=ei.Race.aB.length) 6 U (pb A.1))<|aJ (nj 7 U A)<|aJ (aQ (n:=ei.aC.length) 8 U sm)<|aJ (aQ (n:=ei.aq.length) 9 U sm)<|aK) U fun K4 LT=>?_
 obtain ⟨J3,J9⟩:=K4
 try dsimp only
 refine z3 [0,11] U U<|rP 5 [] mn ?_
 refine RK Kz<|WS fun _ Do=>cX sk (aK) U fun K5 Fd=>?_
 obtain ⟨E,f,H,i,c,L,o,P,s,AA,x,Y,AO,Go,A2,A6,IR,In⟩:=K5
 try dsimp only
 obtain ⟨B,C,A⟩:=Fd
 refine cX (Gy ei E f c H i L o P s AA x Go Y AO A2 A6 IR In (by exact B)) (g_ 11 U U<|aJ (aQ (n:=ei.Race.aj.aL.length) 0 U sm)<|aJ (aQ (n:=ei.Race.aj.ak.length) 1 U (rJ C))<|aJ (gQ 2 U o1)<|aJ (aQ (n:=ei.Race.aj.aa.length) 3 U sm)<|aJ (aQ (n:=ei.Race.aT.length) 4 U sm)<|aJ (aQ (n:=ei.Race.bS.length) 5 U sm)<|aJ (aQ (n:=ei.Race.aB.length) 6 U (pb A.1))<|aJ (nj 7 U A)<|aJ (aQ (n:=ei.aC.length) 8 U sm)<|aJ (aQ (n:=ei.aq.length) 9 U sm)<|aK) U fun K8 Fn=>?_
 obtain ⟨A9,J5,Kh⟩:=K8
 try dsimp only
 have FS:=Fn
 refine z3 [0,1,12,13] U U<|rP 5 [] mn ?_
 refine RK Do<|WS fun _ EP=>cX sk (aK) U fun LA F9=>?_
 obtain ⟨F,g,AB,j,d,M,p,R,u,V,y,Z,Ak,Hi,A3,A7,Id,I8⟩:=LA
 try dsimp only
 obtain ⟨B,C,A⟩:=F9
 refine rS (CL (ER ei F g d AB j M p R u V y Hi Z Ak A3 A7 Id I8 (by exact B)) (g_ 13 U U<|aJ (aQ (n:=ei.Race.aj.aL.length) 0 U sm)<|aJ (aQ (n:=ei.Race.aj.ak.length) 1 U (rJ C))<|aJ (gQ 2 U o1)<|aJ (aQ (n:=ei.Race.aj.aa.length) 3 U sm)<|aJ (aQ (n:=ei.Race.aT.length) 4 U sm)<|aJ (aQ (n:=ei.Race.bS.length) 5 U sm)<|aJ (aQ (n:=ei.Race.aB.length) 6 U (pb A.1))<|aJ (nj 7 U A)<|aJ (aQ (n:=ei.aC.length) 8 U sm)<|aJ (aQ (n:=ei.aq.length) 9 U sm)<|aK) U)<|z3 [10,11,12,13] U U<|rP 7 [] mn ?_
 refine RK EP<|WS fun _ EQ=>cX sk (aK) U fun LE GE=>?_
 obtain ⟨G,h,J,k,e,N,q,S,v,W,z,a,A0,H1,A4,A8,Ie,Ja⟩:=LE
 try dsimp only
 obtain ⟨B,C,A⟩:=GE
 refine rS (CL (Ew ei G h e J k N q S v W z H1 a A0 A4 A8 Ie Ja 0 (by exact B)) (g_ 13 U U<|aJ (aQ (n:=ei.Race.aj.aL.length) 0 U sm)<|aJ (aQ (n:=ei.Race.aj.ak.length) 1 U (rJ C))<|aJ (gQ 2 U o1)<|aJ (aQ (n:=ei.Race.aj.aa.length) 3 U sm)<|aJ (aQ (n:=ei.Race.aT.length) 4 U sm)<|aJ (aQ (n:=ei.Race.bS.length) 5 U sm)<|aJ (aQ (n:=ei.Race.aB.length) 6 U (pb A.1))<|aJ (nj 7 U A)<|aJ (aQ (n:=ei.aC.length) 8 U sm)<|aJ (aQ (n:=ei.aq.length) 9 U sm)<|aK) U)<|z3 [10,11,12,13] U U<|bI 5 U<|RK EQ<|WS fun _ Eq=>rS (CL (w4 0 0 1) (bq [3]) U)<|rP 1 [] mn ?_
 refine cM (t:=32) U (aW fun BF=>?_) (aV fun BF=>?_)
 ·exact absurd (Od) BF
 refine rS (CL (w4 1 0 2) (bq [3]) U)<|rP 2 [] mn ?_
 refine cM (t:=35) U (aW fun B3=>?_) (aV fun B3=>?_)
 ·exact absurd (Ol) B3
 refine rS (CL (w4 3 0 0) (bq [3]) U)<|rP 2 [] mn ?_
 refine cM (t:=38) U (aW fun B9=>?_) (aV fun B9=>?_)
 ·exact absurd (Oc) B9
 refine rS (CL (Eo 0 0) (bq [3]) U)<|rP 2 [] mn ?_
 refine cM (t:=41) U (aW fun CM=>?_) (aV fun CM=>?_)
 ·exact absurd (N2) CM
 refine rS (CL (Eo 1 2) (bq [3]) U)<|rP 2 [] mn ?_
 refine cM (t:=44) U (aW fun Ci=>?_) (aV fun Ci=>?_)
 ·exact absurd (NU) Ci
 refine rP 4 [] mn ?_
 refine cM (t:=48) U (aW fun Ck=>?_) (aV fun Ck=>?_)
 ·exact absurd (oB) Ck
 refine rP 1 [] mn ?_
 refine ew (xs:=[.const (vI 0)]) (cs:=[(vI 0)]) U dD kl U U U U (by simp [Value.cells]) U U fun J6=>?_
 refine rS (CL (DW (gX ei) J3 J9 ([0]) (some ⟨J6,0,none⟩) 1 (by rw [MG]; decide) dc) (aJ (aQ (n:=(gX ei).length) 3 U sm)<|aJ (bo 0 U U (by simp [bO]) U)<|aK) U) ?_
 refine rP 2 [] mn ?_
 refine cM (t:=53) U (aW fun Cp=>?_) (aV fun Cp=>?_)
 ·exact absurd (MG) Cp
 refine rP 4 [] mn ?_
 refine cM (t:=57) U (aW fun Cx=>?_) (aV fun Cx=>?_)
 ·exact absurd (oB) Cx
 refine rP 1 [] mn ?_
 refine ew (xs:=[.const (vI 0)]) (cs:=[(vI 0)]) U dD kl U U U U (by simp [Value.cells]) U U fun D=>ew (xs:=[.tmp 59,.const (vS none 0 0)]) (cs:=[(vS (some ⟨D,0,none⟩) 1 1),(vS none 0 0)]) U K7 QJ U U U U (by simp [Value.cells]) U U fun b=>?_
 refine ku (es:=(([0]:List Int).map iC)) (C':=[_,(own (some ⟨D,0,none⟩) 1 3 1 (([0]:List Int).map iC)),_,_,_,_,_]) 1 U (m7 bO _) U (by show _≤maxLen; exact Nat.le_trans (m:=10) (show (1:Nat)≤10 by decide) dc) U ?_
 refine lj 3 1 ?_
 refine ku (es:=(List.zipWith yi [([0]:List Int),([]:List Int)] [((some ⟨D,0,none⟩),1),(none,0)])) (C':=[_,(own (some ⟨b,0,none⟩) 2 29 1 (List.zipWith yi [([0]:List Int),([]:List Int)] [((some ⟨D,0,none⟩),1),(none,0)])),_,_,_,_,_,_]) 1 U (rj Pb) U (by show _≤maxLen; exact Nat.le_trans (m:=10) (show (2:Nat)≤10 by decide) dc) U ?_
 refine G1 (bw G4 [([0]:List Int),([]:List Int)] [((some ⟨D,0,none⟩),1),(none,0)]) [2,0] [1,3,4,5,6,7] U U ?_
 refine rS (CL (Ab (jk ei) ([([0]:List Int),([]:List Int)]) A9 J5 Kh ([((some ⟨D,0,none⟩),1),(none,0)]) (some ⟨b,0,none⟩) 2 (by rw [Kb]; decide) dc (by rw [Kb]; decide) dc (by exact FS) (by rfl)) (aJ (aQ (n:=(jk ei).length) 3 U (zS FS))<|aJ (gQ 4 U M_)<|aJ (aQ (n:=([([0]:List Int),([]:List Int)]).length) 1 U sm)<|aJ (gQ 0 U M_)<|aK) U) ?_
 refine rP 2 [] mn ?_
 refine cM (t:=63) U (aW fun C0=>?_) (aV fun C0=>?_)
 ·exact absurd (Kb) C0
 refine rP 4 [] mn ?_
 refine cM (t:=67) U (aW fun C1=>?_) (aV fun C1=>?_)
 ·exact absurd (oB) C1
 refine rP 4 [] mn ?_
 refine cM (t:=71) U (aW fun C2=>?_) (aV fun C2=>?_)
 ·exact absurd (MO.1) C2
 refine rP 4 [] mn ?_
 refine cM (t:=75) U (aW fun C3=>?_) (aV fun C3=>?_)
 ·exact absurd (MO.2) C3
 refine rP 4 [] mn ?_
 refine cM (t:=79) U (aW fun Di=>?_) (aV fun Di=>?_)
 ·exact absurd (MJ.1) Di
 refine rP 4 [] mn ?_
 refine RK Eq<|ar<|Q1 hQ U U U ?_
 exact cB (c8 MJ.2)
end
section
open Go.RowKit
theorem CV (j:cV) (kA:OA) (kC:Nat) (az:List RA) (cA:OA) (cC:Nat) (bA:OA) (bC:Nat) (slA:OA) (slC:Nat) (drA:OA) (drC:Nat) (ha:List dQ) (heA:OA) (heC:Nat) (faA:OA) (faC:Nat) (prA:OA) (prC:Nat) (hraw:rW j az ha):
 dH Tryz.prog 4 [(vA (dh.cells (dh.mk (di.mk (bT.mk (bG.mk (aR.mk kA j.Race.aj.aL.length kC)) j.Race.aj.eI (aR.mk cA j.Race.aj.ak.length cC) (aR.mk bA j.Race.aj.aa.length bC) j.Race.aj.bK j.Race.aj.dj j.Race.aj.ck) (aR.mk slA j.Race.aT.length slC) (aR.mk drA j.Race.bS.length drC) j.Race.f_ (aR.mk heA j.Race.aB.length heC)) (aR.mk faA j.aC.length faC) (aR.mk prA j.aq.length prC) j.cu j.j2)))] [(rd g6 3 2 fU),(rd kA j.Race.aj.aL.length 9 (j.Race.aj.aL.map au.cells)),(rd cA j.Race.aj.ak.length 2 (List.zipWith ax.cells j.Race.aj.ak az)),(d_ (bw ax.gL j.Race.aj.ak az)),(rd bA j.Race.aj.aa.length 4 (j.Race.aj.aa.map bM.cells)),(rd slA j.Race.aT.length 1 (j.Race.aT.map iC)),(rd drA j.Race.bS.length 1 (j.Race.bS.map iC)),(rd heA j.Race.aB.length 1 (List.zipWith dz j.Race.aB ha)),(d_ (bw fy j.Race.aB ha)),(rd faA j.aC.length 4 (j.aC.map aX.cells)),(rd prA j.aq.length 5 (j.aq.map a_.cells))] (vB true):=by
 refine bH kr Tryz.func4 U U fun w0 Q hQ hN=>?_
 try dsimp only
 refine WS fun _ BF=>eK U fun b2=>bI 1 U<|RK BF<|WS fun _ B3=>rS (CL J0 (bq [1]) U)<|bI 1 U<|RK B3<|ao fun _ B9=>WS fun _ u=>e7 1 [] (mc 0 U mn) U<|rS (CL (Ii j kA kC az cA cC bA bC slA slC drA drC ha heA heC faA faC prA prC hraw) (bq [2,3,4,5,6,7,8,9,10,11]) U)<|rP 2 [] mn ?_
 refine cg (t:=20) U (bu fun A=>?_) (br fun A=>?_)
 ·refine bI 1 U<|bI 2 U<|RK u<|aS U<|WS fun _ CM=>rP 2 [] mn ?_
  refine RK CM<|ar<|Q1 hQ U U U ?_
  first|rfl|exact cB (c8 (A_ A.2 I))
 refine rP 1 [] mn ?_
 have E:=hraw.small A.1
 have Fd:=E.race
 have Do:=E.race.line
 have H1:=E.race.jd
 have IO:=E.race.has
 have Fn:=E.race.ji
 have Eq:=E.nf
 have FS:=E.np
 have A2:=(eZ A.2).1
 have K:=(eZ A.2).2
 have Di:=(e8 A2).1
 have A3:=(e8 A2).2
 have C3:=(dY Di).2.head
 unfold eV at C3
 have If:=A3.num
 have Ie:=A3.nh
 have Id:=K.nf
 have In:=K.np
 have H:=K.pd
 have Hi:=O4 A.2
 have IR:=Pj A.2
 have C2:=GK A.2
 have Cp:=HV A.2
 have Cx:=qE (a:=((gX j).length:Int)) ⟨I,I⟩ H
 have C0:=qE (a:=(j.aq.length:Int)) ⟨I,I⟩ H
 refine bI 2 U<|RK u<|cp U<|WK B9<|WS fun _ Ci=>rP 1 [] (mc 0 U mn) ?_
 refine rS (CL (ER j kA kC az cA cC bA bC slA slC drA drC ha heA heC faA faC prA prC sd) (bq [1,2,3,4,5,6,7,8,9,10,11]) U) ?_
 refine bI 7 U<|RK Ci<|WS fun _ Ck=>rP 1 [] (mc 0 U mn) ?_
 refine cX (x4 j kA kC az cA cC bA bC slA slC drA drC ha heA heC faA faC prA prC sd) (bq [1,2,3,4,5,6,7,8,9,10,11]) U fun y9 F9=>?_
 obtain ⟨A6,A7⟩:=y9
 try dsimp only
 refine bI 5 U<|RK Ck<|ao fun _ T=>WS fun _ AA=>rP 3 [] mn ?_
 refine cg (t:=38) U (bu fun M=>?_) (br fun M=>?_)
 ·exact absurd (A.2) M
 refine rP 4 [] mn ?_
 refine cg (t:=42) U (bu fun N=>?_) (br fun N=>?_)
 ·exact absurd (A.2) N
 refine e7 5 [] (mc 1 U mn) U<|rS (BI U (qs Cx))<|rP 3 [] mn ?_
 refine cg (t:=51) U (bu fun O=>?_) (br fun O=>?_)
 ·exact absurd (C2) O
 refine e7 8 [] (mc 1 U mn) U<|rS (BI U (qs C0))<|rP 2 [] mn ?_
 refine RK AA<|cH U (bu fun P=>?_) (br fun P=>?_)
 ·exact absurd Cp P
 refine WK T<|WS fun _ V=>bI 1 U<|RK V<|ao fun _ W=>WS fun _ X=>rP 5 [] (mc 1 U mn) ?_
 refine RK X<|aF ?_
 have D:(0≤j.Race.aT.length):=by exact Nat.zero_le _
 have v:(vI (-(gh j 0 j.aq.length:Int)*j.j2))=(vI 0):=by exact cI FX
 refine bZ (ι:={z:Nat // (z≤j.Race.aT.length)}) [1,3,5,7,66] [0,1,2,3,4,5,6,7,8,9,10,11,12] U U (fun z=>[(9,(vI (-(gh j z.1 j.aq.length:Int)*j.j2))),(67,(vI (z.1:Int)))]) (fun z=>[]) (fun _=>rfl) (fun _=>rfl) (fun z=>j.Race.aT.length-z.1) ⟨0,D⟩ (bk U v<|bE U) (aU [0,1,2,3,4,5,6,7,8,9,10,11,12]) ?_
 clear D
 rintro ⟨i,A4⟩ J19 S
 try dsimp only
 refine WS fun _ Y=>rP 1 [] mn ?_
 refine RK Y<|ao fun _ Z=>bV U (aW fun A8=>?_) (aV fun A8=>?_)
 ·refine bQ<|ai<|ai<|aI<|KK W<|WS fun _ r=>bI 4 U<|rS (NG U ⟨I,I⟩)<|rP 3 [] mn ?_
  refine RK r<|ar<|Q1 hQ U U U ?_
  first|rfl|exact cB (c8 (A_ A.2 I))
 refine WK Z<|ao fun _ b=>aF<|WS fun _ c=>rP 2 [] mn ?_
 refine RK c<|WS fun _ d=>?_
 have L:=Hx A.2 (show i<j.Race.aT.length by omega)
 refine rP 2 [] (mc 1 U mn) ?_
 refine rS (CL (Ew j kA kC az cA cC bA bC slA slC drA drC ha heA heC faA faC prA prC (i:Int) sd) (bq [2,3,4,5,6,7,8,9,10,11,12]) U) ?_
 refine bI 5 U<|RK d<|WS fun _ e=>bI 1 U<|RK e<|ao fun _ f=>WS fun _ g=>rP 4 [] (mc 1 U mn) ?_
 refine RK g<|aF ?_
 have D:(0≤j.aq.length):=by exact Nat.zero_le _
 refine bZ (ι:={z:Nat // (z≤j.aq.length)}) [1,3,5,7,9,10,11,12,66,67,77,78] [0,1,2,3,4,5,6,7,8,9,10,11,12] U U (fun z=>[(13,(vI ((jG j (i:Int) z.1:Nat):Int))),(79,(vI (z.1:Int)))]) (fun z=>[]) (fun _=>rfl) (fun _=>rfl) (fun z=>j.aq.length-z.1) ⟨0,D⟩ (bE U) (aU [0,1,2,3,4,5,6,7,8,9,10,11,12]) ?_
 clear D
 rintro ⟨m,A5⟩ J29 F
 try dsimp only
 have EP:=xq (j:=j) (s:=(i:Int)) (m:=m)
 refine WS fun _ h=>rP 1 [] mn ?_
 refine RK h<|ao fun _ k=>bV U (aW fun A9=>?_) (aV fun A9=>?_)
 ·refine bQ<|ai<|ai<|aI<|KK f<|ao fun _ o=>WS fun _ q=>rP 3 [] mn ?_
  refine cg (t:=99) U (bu fun R=>?_) (br fun R=>?_)
  ·exact absurd (L.1) R
  refine rP 2 [] mn ?_
  have EP:=xq (j:=j) (s:=(i:Int)) (m:=m)
  have C1:=qE (a:= -((jG j (i:Int) m:Nat):Int)) ⟨I,I⟩ H
  refine rS (NG U ⟨I,I⟩)<|e7 2 [] (mc 1 U mn) U<|rS (BI U (qs C1))<|rP 2 [] mn ?_
  refine RK q<|cH U (bu fun AB=>?_) (br fun AB=>?_)
  ·exact absurd (by rw [L.2,show j.aq.length=m by omega]) AB
  refine WK o<|av ?_
  have J2:=uC (j:=j) (n:=i) (m:=j.aq.length) I I
  have J3:=uC (j:=j) (n:=i+1) (m:=j.aq.length) I I
  have GT:=qE (a:= -(gh j i j.aq.length:Int)) ⟨I,I⟩ H
  have Go:=qE (a:= -((gh j (i+1) j.aq.length:Nat):Int)) ⟨I,I⟩ H
  have I8:=Fm (j:=j) (i:=i) (m:=j.aq.length)
  have Ja:=L.2
  refine bI 4 U<|aH<|aN<|KK b<|av<|rP 2 [] mn ?_
  refine aH ?_
  have A0:(vI (-((gh j (i+1) j.aq.length:Nat):Int)*j.j2))=(vI ((-(gh j i j.aq.length:Int)*j.j2)+(oR j (i:Int)))):=by exact cI I
  have A1:(vI (((i+1):Nat):Int))=(vI ((i:Int)+1)):=by exact cI I
  refine bp (S ⟨(i+1),(by first|omega|(simp only []; omega))⟩ _ _ _ U os (cY 5<|bk U A0<|bk U A1<|dG.nil _) (aU [0,1,2,3,4,5,6,7,8,9,10,11,12]))
 refine WK k<|ao fun _ G=>aF<|WS fun _ l=>rP 1 [] mn ?_
 obtain ⟨p,hp⟩:=aM j.aq m I
 have EQ:=bP a_.cells hp
 refine rS (IA m U (aA 12 U) Ar dc I I)<|rS (lQ m 0 (a_.cells p) U cq (aA 12 U) EQ U dc U U)<|AL U I3 fun GE=>bI 1 U<|fK U LY U<|RK l<|WS fun _ J=>rP 5 [] (mc 0 U mn) ?_
 refine cM (t:=88) U (aW fun B=>?_) (aV fun B=>?_)
 ·refine bI 5 U<|RK J<|cp U<|ct<|aN<|KK G<|av<|rP 2 [] mn ?_
  refine aH ?_
  have AO:(vI ((jG j (i:Int) (m+1):Nat):Int))=(vI ((jG j (i:Int) m:Nat):Int)):=by exact cI (by first|exact px hp B|exact (px hp B).symm|exact pA A.2 hp C|exact (pA A.2 hp C).symm|exact pj A.2 hp B C|exact (pj A.2 hp B C).symm)
  have Ak:(vI (((m+1):Nat):Int))=(vI ((m:Int)+1)):=by exact cI I
  refine bp (F ⟨(m+1),(by first|omega|(simp only []; omega))⟩ _ _ _ U os (cY 12<|bk U AO<|bk U Ak<|dG.nil _) (aU [1,2,3,4,5,6,7,8,9,10,11,12,13]))
 refine bI 2 U<|rS (CL (N4 (gX j) A6 A7 (m:Int) I) (aJ (aQ (n:=(gX j).length) 1 U sm)<|aK) U)<|rP 2 [] mn ?_
 refine RK J<|bV U (br fun C=>?_) (bu fun C=>?_)
 ·refine ct<|aN<|KK G<|av<|rP 2 [] mn ?_
  refine aH ?_
  have y:(vI ((jG j (i:Int) (m+1):Nat):Int))=(vI ((jG j (i:Int) m:Nat):Int)):=by exact cI (by first|exact px hp B|exact (px hp B).symm|exact pA A.2 hp C|exact (pA A.2 hp C).symm|exact pj A.2 hp B C|exact (pj A.2 hp B C).symm)
  have AC:(vI (((m+1):Nat):Int))=(vI ((m:Int)+1)):=by exact cI I
  refine bp (F ⟨(m+1),(by first|omega|(simp only []; omega))⟩ _ _ _ U os (cY 12<|bk U y<|bk U AC<|dG.nil _) (aU [1,2,3,4,5,6,7,8,9,10,11,12,13]))
 refine av<|bI 3 U<|aH<|aN<|KK G<|av<|rP 2 [] mn ?_
 refine aH ?_
 have w:(vI ((jG j (i:Int) (m+1):Nat):Int))=(vI (((jG j (i:Int) m:Nat):Int)+1)):=by exact cI (by first|exact px hp B|exact (px hp B).symm|exact pA A.2 hp C|exact (pA A.2 hp C).symm|exact pj A.2 hp B C|exact (pj A.2 hp B C).symm)
 have x:(vI (((m+1):Nat):Int))=(vI ((m:Int)+1)):=by exact cI I
 refine bp (F ⟨(m+1),(by first|omega|(simp only []; omega))⟩ _ _ _ U os (cY 12<|bk U w<|bk U x<|dG.nil _) (aU [1,2,3,4,5,6,7,8,9,10,11,12,13]))
end
section
open Go.RowKit
def fD {α:Type} (cells:α→List Value) (sz:Nat) (R:World→α→Prop) (w:World) (s:aR):Prop:= ∃ l:List α,s.n=l.length∧(rd s.a l.length sz (l.map cells)).holds w∧(∀ x∈l,R w x)∧l.length≤maxLen∧s.n≤s.c
theorem vM {w:World} {R:World→cW→Prop}: ∀ {l:List dE},(∀ x∈l,fD cW.cells 3 R w x.bJ)→ ∃ (ms:List ax) (az:List RA),l.map dE.cells=List.zipWith ax.cells ms az∧ms.length=l.length∧az.length=l.length∧(∀ X∈bw ax.gL ms az,X.holds w)∧
 (∀ (k:Nat) m (a:RA),ms[k]? =some m→az[k]? =some a→m.bJ.length≤a.2∧m.bJ.length≤9223372036854775807)∧ms.map (fun m=>m.dC)=l.map (fun x=>x.dC)∧ ∀ (k:Nat) m y,ms[k]? =some m→y∈m.bJ→R w y
 |[],_=>⟨[],[],rfl,rfl,rfl,(fun X hX=>by cases hX),(fun k m a h=>by simp at h),rfl,(fun k m y h=>by simp at h)⟩
 |x::l,h=>by
  obtain ⟨ms,az,E,F,G,H,AA,J,K⟩:=vM (fun y hy=>h y (dW _ hy))
  obtain ⟨sy,A,B,C,D,L⟩:=h x sm
  have e4':sy.length≤9223372036854775807:=D
  refine ⟨⟨x.dC,sy⟩::ms,(x.bJ.a,x.bJ.c)::az,?_,by simp [F],by simp [G],fun X hX=>?_,fun k m a hm ha=>?_,by simp [J],fun k m y hm hy=>?_⟩
  ·obtain ⟨dr,⟨a,n,c⟩⟩:=x
   simp only at A
   subst A
   simp only [List.map_cons,List.zipWith_cons_cons,E]
   rfl
  ·rcases g0.1 hX with hX|hX
   ·simp only [ax.gL,cm] at hX
    subst hX; exact B
   ·exact H X hX
  ·cases k with
   |zero=>
    simp only [List.getElem?_cons_zero,Option.some.injEq] at hm ha
    subst hm ha
    exact ⟨by simp only; omega,e4'⟩
   |succ k=>exact AA k m a (by simpa using hm) (by simpa using ha)
  ·cases k with
   |zero=>
    simp only [List.getElem?_cons_zero,Option.some.injEq] at hm
    subst hm
    exact C y hy
   |succ k=>exact K k m y (by simpa using hm) hy
theorem Fh {w:World} {s:bT} {R1:World→au→Prop} {R2:World→dE→Prop} {R3:World→bM→Prop} {R4:World→cW→Prop} (h1:fD au.cells 9 R1 w s.aL.kz) (hs: ∀ x,R1 w x→0≤x.jm∧x.jm≤255) (h2:fD dE.cells 2 R2 w s.ak) (hc: ∀ x,R2 w x→fD cW.cells 3 R4 w x.bJ) (h3:fD bM.cells 4 R3 w s.aa):
 ∃ (l:bj) (az:List RA) (kA:OA) (kC:Nat) (cA:OA) (cC:Nat) (bA:OA) (bC:Nat),s=bT.mk (bG.mk (aR.mk kA l.aL.length kC)) l.eI (aR.mk cA l.ak.length cC) (aR.mk bA l.aa.length bC) l.bK l.dj l.ck∧tD l az∧
  ((rd kA l.aL.length 9 (l.aL.map au.cells)).holds w∧(rd cA l.ak.length 2 (List.zipWith ax.cells l.ak az)).holds w∧(d_ (bw ax.gL l.ak az)).holds w∧(rd bA l.aa.length 4 (l.aa.map bM.cells)).holds w)∧l.eI=s.eI∧l.bK=s.bK∧l.dj=s.dj∧l.ck=s.ck:=by
 obtain ⟨⟨⟨ka,kn,kc⟩⟩,fa,⟨ca,cn,cc⟩,⟨ba,bn,bc⟩,fi,fk,mi⟩:=s
 obtain ⟨ts,E,M,N,O,T⟩:=h1
 obtain ⟨cs,B,C,H,AA,R⟩:=h2
 obtain ⟨bs,A,F,P,G,Q⟩:=h3
 simp only at E B A
 subst E B A
 obtain ⟨ms,az,J,D,S,K,L,_⟩:=vM (fun x hx=>hc x (H x hx))
 have t4':ts.length≤9223372036854775807:=O
 have c4':cs.length≤9223372036854775807:=AA
 have b4':bs.length≤9223372036854775807:=G
 refine ⟨⟨ts,fa,ms,bs,fi,fk,mi⟩,az,ka,kc,ca,cc,ba,bc,by simp only [D],⟨t4',fun x hx=>hs x (N x hx),by simp only; omega,by simp only; omega,b4',L⟩,⟨M,?_,K,F⟩,U,U,U,U⟩
 simp only at C ⊢
 rw [D,← J]; exact C
end
section
open Go.RowKit
theorem xB {w:World} {R:World→aG→Prop}: ∀ {l:List aO},(∀ x∈l,fD aG.cells 2 R w x.bD.ab)→ ∃ (ms:List ay) (az:List RA),l.map aO.cells=List.zipWith ay.cells ms az∧ms.length=l.length∧az.length=l.length∧(∀ X∈bw ay.gL ms az,X.holds w)∧
 ∀ d∈ms,d.bD.ab.length≤9223372036854775807
 |[],_=>⟨[],[],rfl,rfl,rfl,(fun X hX=>by cases hX),fun d h=>by cases h⟩
 |x::l,h=>by
  obtain ⟨ms,az,D,E,F,G,H⟩:=xB (fun y hy=>h y (dW _ hy))
  obtain ⟨sg,A,B,AA,C,J⟩:=h x sm
  have e4':sg.length≤9223372036854775807:=C
  refine ⟨⟨x.Out,x.dx,x.Time,⟨x.bD.Start,x.bD.gd,sg⟩⟩::ms,(x.bD.ab.a,x.bD.ab.c)::az,?_,by simp [E],by simp [F],fun X hX=>?_,fun d hd=>?_⟩
  ·obtain ⟨o,f,t,⟨st,nw,⟨a,n,c⟩⟩⟩:=x
   simp only at A
   subst A
   simp only [List.map_cons,List.zipWith_cons_cons,D]
   rfl
  ·rcases g0.1 hX with hX|hX
   ·simp only [ay.gL,cm] at hX
    subst hX; exact B
   ·exact G X hX
  ·rcases bR.1 hd with rfl|hd
   ·exact e4'
   ·exact H d hd
theorem xT {w:World} {R2:World→aO→Prop} {R:World→aG→Prop} (hc: ∀ x,R2 w x→fD aG.cells 2 R w x.bD.ab): ∀ {l:List aR},(∀ x∈l,fD aO.cells 7 R2 w x)→ ∃ (ms:List (List ay)) (ha:List dQ),(l.map fun s=>[vS s.a s.n s.c])=List.zipWith dz ms ha∧ms.length=l.length∧ha.length=l.length∧(∀ X∈bw fy ms ha,X.holds w)∧
 ∀ (k:Nat) h (a:dQ),ms[k]? =some h→ha[k]? =some a→h.length≤9223372036854775807∧a.2.length=h.length∧ ∀ d∈h,d.bD.ab.length≤9223372036854775807
 |[],_=>⟨[],[],rfl,rfl,rfl,(fun X hX=>by cases hX),(fun k h a q=>by simp at q)⟩
 |x::l,h=>by
  obtain ⟨ms,ha,J,K,L,M,N⟩:=xT hc (fun y hy=>h y (dW _ hy))
  obtain ⟨ds,C,G,H,AA,P⟩:=h x sm
  obtain ⟨dm,az,D,B,O,E,F⟩:=xB fun y hy=>hc y (H y hy)
  have e4':ds.length≤9223372036854775807:=AA
  refine ⟨dm::ms,((x.a,x.c),az)::ha,?_,by simp [K],by simp [L],fun X hX=>?_,fun k m a hm A=>?_⟩
  ·obtain ⟨a,n,c⟩:=x
   simp only at C
   subst C
   simp only [List.map_cons,List.zipWith_cons_cons,J,dz,B]
  ·rcases g0.1 hX with hX|hX
   ·unfold fy at hX
    rcases bR.1 hX with rfl|hX
    ·simp only
     rw [B,← D]; exact G
    ·exact E X hX
   ·exact M X hX
  ·cases k with
   |zero=>
    simp only [List.getElem?_cons_zero,Option.some.injEq] at hm A
    subst hm A
    exact ⟨I,by simp only; omega,F⟩
   |succ k=>exact N k m a (by simpa using hm) (by simpa using A)
theorem F0 {w:World} {s:di} {R1:World→au→Prop} {R2:World→dE→Prop} {R3:World→bM→Prop} {R4:World→cW→Prop} {R5:World→Int→Prop} {R6:World→aR→Prop} {R7:World→aO→Prop} {R8:World→aG→Prop}
 (h1:fD au.cells 9 R1 w s.aj.aL.kz) (hs: ∀ x,R1 w x→0≤x.jm∧x.jm≤255) (h2:fD dE.cells 2 R2 w s.aj.ak) (hc: ∀ x,R2 w x→fD cW.cells 3 R4 w x.bJ) (h3:fD bM.cells 4 R3 w s.aj.aa)
 (h4:fD iC 1 R5 w s.aT) (h5:fD iC 1 R5 w s.bS) (h6:fD (fun s=>[vS s.a s.n s.c]) 1 R6 w s.aB) (h7: ∀ x,R6 w x→fD aO.cells 7 R7 w x) (h8: ∀ x,R7 w x→fD aG.cells 2 R8 w x.bD.ab):
 ∃ (r:fg) (az:List RA) (ha:List dQ) (kA:OA) (kC:Nat) (cA:OA) (cC:Nat) (bA:OA) (bC:Nat) (slA:OA) (slC:Nat) (drA:OA) (drC:Nat) (heA:OA) (heC:Nat),
  s=di.mk (bT.mk (bG.mk (aR.mk kA r.aj.aL.length kC)) r.aj.eI (aR.mk cA r.aj.ak.length cC) (aR.mk bA r.aj.aa.length bC) r.aj.bK r.aj.dj r.aj.ck) (aR.mk slA r.aT.length slC) (aR.mk drA r.bS.length drC) r.f_ (aR.mk heA r.aB.length heC)∧tP r az ha∧
  ((rd kA r.aj.aL.length 9 (r.aj.aL.map au.cells)).holds w∧(rd cA r.aj.ak.length 2 (List.zipWith ax.cells r.aj.ak az)).holds w∧(d_ (bw ax.gL r.aj.ak az)).holds w∧(rd bA r.aj.aa.length 4 (r.aj.aa.map bM.cells)).holds w∧
   (rd slA r.aT.length 1 (r.aT.map iC)).holds w∧(rd drA r.bS.length 1 (r.bS.map iC)).holds w∧(rd heA r.aB.length 1 (List.zipWith dz r.aB ha)).holds w∧(d_ (bw fy r.aB ha)).holds w):=by
 obtain ⟨ln,⟨sa,sn,sc⟩,⟨da,dn,dc⟩,tu,⟨ea,en,ec⟩⟩:=s
 obtain ⟨l,az,kA,kC,cA,cC,bA,bC,e,A,hh,_⟩:=Fh (s:=ln) h1 hs h2 hc h3
 subst e
 obtain ⟨sl,F,N,T,O,AA⟩:=h4
 obtain ⟨dr,B,G,P,H,Q⟩:=h5
 obtain ⟨he,D,E,L,M,S⟩:=h6
 obtain ⟨ms,ha,AB,C,R,J,K⟩:=xT h8 (fun x hx=>h7 x (L x hx))
 simp only at F B D
 subst F B D
 have s4':sl.length≤9223372036854775807:=O
 have d4':dr.length≤9223372036854775807:=H
 have q4':he.length≤9223372036854775807:=M
 refine ⟨⟨l,sl,dr,tu,ms⟩,az,ha,kA,kC,cA,cC,bA,bC,sa,sc,da,dc,ea,ec,by simp only [C],⟨A,s4',d4',by simp only; omega,by simp only; omega,K⟩,hh.1,hh.2.1,hh.2.2.1,hh.2.2.2,N,G,?_,J⟩
 simp only at E ⊢
 rw [C,← AB]; exact E
end
section
open Go.RowKit
theorem GG {w:World} {s:dh} {R1:World→au→Prop} {R2:World→dE→Prop} {R3:World→bM→Prop} {R4:World→cW→Prop} {R5:World→Int→Prop} {R6:World→aR→Prop} {R7:World→aO→Prop} {R8:World→aG→Prop} {R9:World→aX→Prop} {R10:World→a_→Prop}
 (h1:fD au.cells 9 R1 w s.Race.aj.aL.kz) (hs: ∀ x,R1 w x→0≤x.jm∧x.jm≤255) (h2:fD dE.cells 2 R2 w s.Race.aj.ak) (hc: ∀ x,R2 w x→fD cW.cells 3 R4 w x.bJ) (h3:fD bM.cells 4 R3 w s.Race.aj.aa)
 (h4:fD iC 1 R5 w s.Race.aT) (h5:fD iC 1 R5 w s.Race.bS) (h6:fD (fun s=>[vS s.a s.n s.c]) 1 R6 w s.Race.aB) (h7: ∀ x,R6 w x→fD aO.cells 7 R7 w x) (h8: ∀ x,R7 w x→fD aG.cells 2 R8 w x.bD.ab)
 (h9:fD aX.cells 4 R9 w s.aC) (hk: ∀ x,R9 w x→0≤x.Kind∧x.Kind≤255) (h10:fD a_.cells 5 R10 w s.aq):
 ∃ (j:cV) (az:List RA) (ha:List dQ) (kA:OA) (kC:Nat) (cA:OA) (cC:Nat) (bA:OA) (bC:Nat) (slA:OA) (slC:Nat) (drA:OA) (drC:Nat) (heA:OA) (heC:Nat) (faA:OA) (faC:Nat) (prA:OA) (prC:Nat),
  s=dh.mk (di.mk (bT.mk (bG.mk (aR.mk kA j.Race.aj.aL.length kC)) j.Race.aj.eI (aR.mk cA j.Race.aj.ak.length cC) (aR.mk bA j.Race.aj.aa.length bC) j.Race.aj.bK j.Race.aj.dj j.Race.aj.ck) (aR.mk slA j.Race.aT.length slC) (aR.mk drA j.Race.bS.length drC) j.Race.f_ (aR.mk heA j.Race.aB.length heC)) (aR.mk faA j.aC.length faC) (aR.mk prA j.aq.length prC) j.cu j.j2∧rW j az ha∧
  ((rd kA j.Race.aj.aL.length 9 (j.Race.aj.aL.map au.cells)).holds w∧(rd cA j.Race.aj.ak.length 2 (List.zipWith ax.cells j.Race.aj.ak az)).holds w∧(d_ (bw ax.gL j.Race.aj.ak az)).holds w∧(rd bA j.Race.aj.aa.length 4 (j.Race.aj.aa.map bM.cells)).holds w∧
   (rd slA j.Race.aT.length 1 (j.Race.aT.map iC)).holds w∧(rd drA j.Race.bS.length 1 (j.Race.bS.map iC)).holds w∧(rd heA j.Race.aB.length 1 (List.zipWith dz j.Race.aB ha)).holds w∧(d_ (bw fy j.Race.aB ha)).holds w∧
   (rd faA j.aC.length 4 (j.aC.map aX.cells)).holds w∧(rd prA j.aq.length 5 (j.aq.map a_.cells)).holds w):=by
 obtain ⟨rc,⟨fa,fn,fc⟩,⟨pa,pn,pc⟩,mi,fe⟩:=s
 obtain ⟨r,az,ha,kA,kC,cA,cC,bA,bC,slA,slC,drA,drC,heA,heC,e,A,hm⟩:=F0 (s:=rc) h1 hs h2 hc h3 h4 h5 h6 h7 h8
 subst e
 obtain ⟨fl,B,D,E,F,AA⟩:=h9
 obtain ⟨pr,C,G,J,H,K⟩:=h10
 simp only at B C
 subst B C
 have f4':fl.length≤9223372036854775807:=F
 have p4':pr.length≤9223372036854775807:=H
 exact ⟨⟨r,fl,pr,mi,fe⟩,az,ha,kA,kC,cA,cC,bA,bC,slA,slC,drA,drC,heA,heC,fa,fc,pa,pc,U,⟨A,f4',p4',fun f hf=>hk f (E f hf)⟩,hm.1,hm.2.1,hm.2.2.1,hm.2.2.2.1,hm.2.2.2.2.1,hm.2.2.2.2.2.1,hm.2.2.2.2.2.2.1,hm.2.2.2.2.2.2.2,D,G⟩
end
section
open Go.ChangeShapes Go.WideShapes Go.ChangeAt Go.RowKit
theorem TF:Tryz.prog.cellsOf 36=15:=by kernel_rfl
theorem Qi:Tryz.prog.cellsOf 32=11:=by kernel_rfl
theorem QI:Tryz.prog.cellsOf 28=7:=by kernel_rfl
theorem Rk:Tryz.prog.cellsOf 24=1:=by kernel_rfl
theorem SI:Tryz.prog.cellsOf 22=1:=by kernel_rfl
theorem Nk:Tryz.prog.cellsOf 118=9:=by kernel_rfl
theorem uz:Tryz.prog.cellsOf 3=1:=by kernel_rfl
def s8 (w:World) (n:Int):Prop:=qW n
theorem uy:qH Tryz.prog 3 Int iC s8:=O6 s9
theorem C5:Tryz.prog.cellsOf 53=2:=by kernel_rfl
structure CT (w:World) (s:ag):Prop where
 Lo:s8 w s.Lo
 Hi:s8 w s.Hi
theorem SQ:fL Tryz.prog 53=some [(3,0),(3,1)]:=by kernel_rfl
theorem GL:qH Tryz.prog 53 ag ag.cells CT:=fun {H} enc w base sp A fuel cs x h=>by
 obtain ⟨hl,hp⟩:=iR SQ h
 obtain ⟨M,O,F⟩:=hp 0 3 0 rfl
 obtain ⟨K,B,AA⟩:=uy _ _ _ _ _ _ _ _ F
 obtain ⟨N,P,G⟩:=hp 1 3 1 rfl
 obtain ⟨L,C,J⟩:=uy _ _ _ _ _ _ _ _ G
 refine ⟨⟨K,L⟩,?_,⟨AA,J⟩⟩
 have E:=gl (hl.trans C5) (by rw [uz]) C
 have D:=cG B (m:=1) (by rw [uz]) E
 exact D
theorem Uh:Tryz.prog.cellsOf 5=1:=by kernel_rfl
def TG (w:World) (n:Int):Prop:=0≤n∧n≤255
theorem Um:qH Tryz.prog 5 Int IT TG:=Qz OW
structure I9 (w:World) (s:au):Prop where
 Id:s8 w s.Id
 kN:CT w s.kN
 mj:CT w s.mj
 eG:CT w s.eG
 jm:TG w s.jm
 zP:s8 w s.zP
theorem QB:fL Tryz.prog 118=some [(3,0),(53,1),(53,3),(53,5),(5,7),(3,8)]:=by kernel_rfl
theorem QK:qH Tryz.prog 118 au au.cells I9:=fun {H} enc w base sp A fuel cs x h=>by
 obtain ⟨hl,hp⟩:=iR QB h
 obtain ⟨g,o,O⟩:=hp 0 3 0 rfl
 obtain ⟨a,B,AA⟩:=uy _ _ _ _ _ _ _ _ O
 obtain ⟨i,p,P⟩:=hp 1 53 1 rfl
 obtain ⟨b,C,V⟩:=GL _ _ _ _ _ _ _ _ P
 obtain ⟨j,q,Q⟩:=hp 2 53 3 rfl
 obtain ⟨c,D,W⟩:=GL _ _ _ _ _ _ _ _ Q
 obtain ⟨k,r,R⟩:=hp 3 53 5 rfl
 obtain ⟨d,E,X⟩:=GL _ _ _ _ _ _ _ _ R
 obtain ⟨l,s,S⟩:=hp 4 5 7 rfl
 obtain ⟨e,F,Y⟩:=Um _ _ _ _ _ _ _ _ S
 obtain ⟨n,t,T⟩:=hp 5 3 8 rfl
 obtain ⟨f,G,Z⟩:=uy _ _ _ _ _ _ _ _ T
 refine ⟨⟨a,b,c,d,e,f⟩,?_,⟨AA,V,W,X,Y,Z⟩⟩
 have N:=gl (hl.trans Nk) (by rw [uz]) G
 have M:=cG F (m:=8) (by rw [Uh]) N
 have L:=cG E (m:=7) (by rw [C5]) M
 have K:=cG D (m:=5) (by rw [C5]) L
 have J:=cG C (m:=3) (by rw [C5]) K
 have AB:=cG B (m:=1) (by rw [uz]) J
 exact AB
def QU (w:World) (s:aR):Prop:= ∃ l:List au,s.n=l.length∧(rd s.a l.length 9 (l.map au.cells)).holds w∧(∀ x∈l,I9 w x)∧l.length≤maxLen∧s.n≤s.c
theorem TU:qH Tryz.prog 22 aR (fun s=>[vS s.a s.n s.c]) QU:=kK Qs Nk QK
structure RL (w:World) (s:bG):Prop where
 kz:QU w s.kz
theorem TA:fL Tryz.prog 24=some [(22,0)]:=by kernel_rfl
theorem Tb:qH Tryz.prog 24 bG bG.cells RL:=fun {H} enc w base sp A fuel cs x h=>by
 obtain ⟨hl,hp⟩:=iR TA h
 obtain ⟨G,AA,D⟩:=hp 0 22 0 rfl
 obtain ⟨F,B,E⟩:=TU _ _ _ _ _ _ _ _ D
 refine ⟨⟨F⟩,?_,⟨E⟩⟩
 have C:=gl (hl.trans Rk) (by rw [SI]) B
 exact C
theorem SZ:Tryz.prog.cellsOf 25=1:=by kernel_rfl
theorem P0:Tryz.prog.cellsOf 73=2:=by kernel_rfl
theorem TE:Tryz.prog.cellsOf 71=1:=by kernel_rfl
theorem RC:Tryz.prog.cellsOf 75=3:=by kernel_rfl
structure NF (w:World) (s:cW):Prop where
 At:s8 w s.At
 eD:CT w s.eD
theorem Sr:fL Tryz.prog 75=some [(3,0),(53,1)]:=by kernel_rfl
theorem Tj:qH Tryz.prog 75 cW cW.cells NF:=fun {H} enc w base sp A fuel cs x h=>by
 obtain ⟨hl,hp⟩:=iR Sr h
 obtain ⟨M,O,F⟩:=hp 0 3 0 rfl
 obtain ⟨K,B,AA⟩:=uy _ _ _ _ _ _ _ _ F
 obtain ⟨N,P,G⟩:=hp 1 53 1 rfl
 obtain ⟨L,C,J⟩:=GL _ _ _ _ _ _ _ _ G
 refine ⟨⟨K,L⟩,?_,⟨AA,J⟩⟩
 have E:=gl (hl.trans RC) (by rw [C5]) C
 have D:=cG B (m:=1) (by rw [uz]) E
 exact D
def QH (w:World) (s:aR):Prop:= ∃ l:List cW,s.n=l.length∧(rd s.a l.length 3 (l.map cW.cells)).holds w∧(∀ x∈l,NF w x)∧l.length≤maxLen∧s.n≤s.c
theorem TS:qH Tryz.prog 71 aR (fun s=>[vS s.a s.n s.c]) QH:=kK Tt RC Tj
structure OI (w:World) (s:dE):Prop where
 dC:s8 w s.dC
 bJ:QH w s.bJ
theorem Uc:fL Tryz.prog 73=some [(3,0),(71,1)]:=by kernel_rfl
theorem TR:qH Tryz.prog 73 dE dE.cells OI:=fun {H} enc w base sp A fuel cs x h=>by
 obtain ⟨hl,hp⟩:=iR Uc h
 obtain ⟨M,O,F⟩:=hp 0 3 0 rfl
 obtain ⟨K,B,AA⟩:=uy _ _ _ _ _ _ _ _ F
 obtain ⟨N,P,G⟩:=hp 1 71 1 rfl
 obtain ⟨L,C,J⟩:=TS _ _ _ _ _ _ _ _ G
 refine ⟨⟨K,L⟩,?_,⟨AA,J⟩⟩
 have E:=gl (hl.trans P0) (by rw [TE]) C
 have D:=cG B (m:=1) (by rw [uz]) E
 exact D
def Qu (w:World) (s:aR):Prop:= ∃ l:List dE,s.n=l.length∧(rd s.a l.length 2 (l.map dE.cells)).holds w∧(∀ x∈l,OI w x)∧l.length≤maxLen∧s.n≤s.c
theorem S7:qH Tryz.prog 25 aR (fun s=>[vS s.a s.n s.c]) Qu:=kK Tr P0 TR
theorem TL:Tryz.prog.cellsOf 26=1:=by kernel_rfl
theorem Nl:Tryz.prog.cellsOf 122=4:=by kernel_rfl
theorem M3:Tryz.prog.cellsOf 120=3:=by kernel_rfl
structure MT (w:World) (s:cE):Prop where
 bB:s8 w s.bB
 mP:CT w s.mP
theorem Qx:fL Tryz.prog 120=some [(3,0),(53,1)]:=by kernel_rfl
theorem Ry:qH Tryz.prog 120 cE cE.cells MT:=fun {H} enc w base sp A fuel cs x h=>by
 obtain ⟨hl,hp⟩:=iR Qx h
 obtain ⟨M,O,F⟩:=hp 0 3 0 rfl
 obtain ⟨K,B,AA⟩:=uy _ _ _ _ _ _ _ _ F
 obtain ⟨N,P,G⟩:=hp 1 53 1 rfl
 obtain ⟨L,C,J⟩:=GL _ _ _ _ _ _ _ _ G
 refine ⟨⟨K,L⟩,?_,⟨AA,J⟩⟩
 have E:=gl (hl.trans M3) (by rw [C5]) C
 have D:=cG B (m:=1) (by rw [uz]) E
 exact D
structure Ji (w:World) (s:bM):Prop where
 mR:MT w s.mR
 kb:s8 w s.kb
theorem Rz:fL Tryz.prog 122=some [(120,0),(3,3)]:=by kernel_rfl
theorem Qq:qH Tryz.prog 122 bM bM.cells Ji:=fun {H} enc w base sp A fuel cs x h=>by
 obtain ⟨hl,hp⟩:=iR Rz h
 obtain ⟨M,O,F⟩:=hp 0 120 0 rfl
 obtain ⟨K,B,AA⟩:=Ry _ _ _ _ _ _ _ _ F
 obtain ⟨N,P,G⟩:=hp 1 3 3 rfl
 obtain ⟨L,C,J⟩:=uy _ _ _ _ _ _ _ _ G
 refine ⟨⟨K,L⟩,?_,⟨AA,J⟩⟩
 have E:=gl (hl.trans Nl) (by rw [uz]) C
 have D:=cG B (m:=3) (by rw [M3]) E
 exact D
def RH (w:World) (s:aR):Prop:= ∃ l:List bM,s.n=l.length∧(rd s.a l.length 4 (l.map bM.cells)).holds w∧(∀ x∈l,Ji w x)∧l.length≤maxLen∧s.n≤s.c
theorem Te:qH Tryz.prog 26 aR (fun s=>[vS s.a s.n s.c]) RH:=kK OO Nl Qq
structure QW (w:World) (s:bT):Prop where
 aL:RL w s.aL
 eI:s8 w s.eI
 ak:Qu w s.ak
 aa:RH w s.aa
 bK:s8 w s.bK
 dj:s8 w s.dj
 ck:s8 w s.ck
theorem TP:fL Tryz.prog 28=some [(24,0),(3,1),(25,2),(26,3),(3,4),(3,5),(3,6)]:=by kernel_rfl
theorem SH:qH Tryz.prog 28 bT bT.cells QW:=fun {H} enc w base sp A fuel cs x h=>by
 obtain ⟨hl,hp⟩:=iR TP h
 obtain ⟨n,u,Q⟩:=hp 0 24 0 rfl
 obtain ⟨e,B,X⟩:=Tb _ _ _ _ _ _ _ _ Q
 obtain ⟨o,v,R⟩:=hp 1 3 1 rfl
 obtain ⟨f,C,Y⟩:=uy _ _ _ _ _ _ _ _ R
 obtain ⟨p,y,S⟩:=hp 2 25 2 rfl
 obtain ⟨g,D,Z⟩:=S7 _ _ _ _ _ _ _ _ S
 obtain ⟨q,z,T⟩:=hp 3 26 3 rfl
 obtain ⟨i,E,a⟩:=Te _ _ _ _ _ _ _ _ T
 obtain ⟨r,y4,AA⟩:=hp 4 3 4 rfl
 obtain ⟨j,F,b⟩:=uy _ _ _ _ _ _ _ _ AA
 obtain ⟨s,y5,V⟩:=hp 5 3 5 rfl
 obtain ⟨k,G,c⟩:=uy _ _ _ _ _ _ _ _ V
 obtain ⟨t,y6,W⟩:=hp 6 3 6 rfl
 obtain ⟨l,AB,d⟩:=uy _ _ _ _ _ _ _ _ W
 refine ⟨⟨e,f,g,i,j,k,l⟩,?_,⟨X,Y,Z,a,b,c,d⟩⟩
 have P:=gl (hl.trans QI) (by rw [uz]) AB
 have O:=cG G (m:=6) (by rw [uz]) P
 have N:=cG F (m:=5) (by rw [uz]) O
 have M:=cG E (m:=4) (by rw [TL]) N
 have L:=cG D (m:=3) (by rw [SZ]) M
 have K:=cG C (m:=2) (by rw [uz]) L
 have J:=cG B (m:=1) (by rw [Rk]) K
 exact J
theorem Rt:Tryz.prog.cellsOf 29=1:=by kernel_rfl
def O1 (w:World) (s:aR):Prop:= ∃ l:List Int,s.n=l.length∧(rd s.a l.length 1 (l.map iC)).holds w∧(∀ x∈l,s8 w x)∧l.length≤maxLen∧s.n≤s.c
theorem Rh:qH Tryz.prog 29 aR (fun s=>[vS s.a s.n s.c]) O1:=kK SF uz uy
theorem Ud:Tryz.prog.cellsOf 30=1:=by kernel_rfl
theorem Sy:Tryz.prog.cellsOf 51=1:=by kernel_rfl
theorem Rv:Tryz.prog.cellsOf 58=7:=by kernel_rfl
theorem Up:Tryz.prog.cellsOf 4=1:=by kernel_rfl
def Tu (w:World) (n:Bool):Prop:=True
theorem Ug:qH Tryz.prog 4 Bool (fun b=>[vB b]) Tu:=Mo Ul
theorem PD:Tryz.prog.cellsOf 56=3:=by kernel_rfl
theorem Tq:Tryz.prog.cellsOf 54=1:=by kernel_rfl
theorem QQ:Tryz.prog.cellsOf 78=2:=by kernel_rfl
structure Oa (w:World) (s:aG):Prop where
 fz:s8 w s.fz
 Read:s8 w s.Read
theorem T1:fL Tryz.prog 78=some [(3,0),(3,1)]:=by kernel_rfl
theorem Ss:qH Tryz.prog 78 aG aG.cells Oa:=fun {H} enc w base sp A fuel cs x h=>by
 obtain ⟨hl,hp⟩:=iR T1 h
 obtain ⟨M,O,F⟩:=hp 0 3 0 rfl
 obtain ⟨K,B,AA⟩:=uy _ _ _ _ _ _ _ _ F
 obtain ⟨N,P,G⟩:=hp 1 3 1 rfl
 obtain ⟨L,C,J⟩:=uy _ _ _ _ _ _ _ _ G
 refine ⟨⟨K,L⟩,?_,⟨AA,J⟩⟩
 have E:=gl (hl.trans QQ) (by rw [uz]) C
 have D:=cG B (m:=1) (by rw [uz]) E
 exact D
def Qe (w:World) (s:aR):Prop:= ∃ l:List aG,s.n=l.length∧(rd s.a l.length 2 (l.map aG.cells)).holds w∧(∀ x∈l,Oa w x)∧l.length≤maxLen∧s.n≤s.c
theorem SC:qH Tryz.prog 54 aR (fun s=>[vS s.a s.n s.c]) Qe:=kK Tz QQ Ss
structure Rr (w:World) (s:cU):Prop where
 Start:s8 w s.Start
 gd:s8 w s.gd
 ab:Qe w s.ab
theorem S4:fL Tryz.prog 56=some [(3,0),(3,1),(54,2)]:=by kernel_rfl
theorem Tf:qH Tryz.prog 56 cU cU.cells Rr:=fun {H} enc w base sp A fuel cs x h=>by
 obtain ⟨hl,hp⟩:=iR S4 h
 obtain ⟨R,AA,AB⟩:=hp 0 3 0 rfl
 obtain ⟨O,B,L⟩:=uy _ _ _ _ _ _ _ _ AB
 obtain ⟨S,V,J⟩:=hp 1 3 1 rfl
 obtain ⟨P,C,M⟩:=uy _ _ _ _ _ _ _ _ J
 obtain ⟨T,W,K⟩:=hp 2 54 2 rfl
 obtain ⟨Q,D,N⟩:=SC _ _ _ _ _ _ _ _ K
 refine ⟨⟨O,P,Q⟩,?_,⟨L,M,N⟩⟩
 have G:=gl (hl.trans PD) (by rw [Tq]) D
 have F:=cG C (m:=2) (by rw [uz]) G
 have E:=cG B (m:=1) (by rw [uz]) F
 exact E
structure NR (w:World) (s:aO):Prop where
 Out:Tu w s.Out
 dx:Tu w s.dx
 Time:CT w s.Time
 bD:Rr w s.bD
theorem Tp:fL Tryz.prog 58=some [(4,0),(4,1),(53,2),(56,4)]:=by kernel_rfl
theorem SJ:qH Tryz.prog 58 aO aO.cells NR:=fun {H} enc w base sp A fuel cs x h=>by
 obtain ⟨hl,hp⟩:=iR Tp h
 obtain ⟨W,a,K⟩:=hp 0 4 0 rfl
 obtain ⟨S,B,O⟩:=Ug _ _ _ _ _ _ _ _ K
 obtain ⟨X,b,L⟩:=hp 1 4 1 rfl
 obtain ⟨T,C,P⟩:=Ug _ _ _ _ _ _ _ _ L
 obtain ⟨Y,c,M⟩:=hp 2 53 2 rfl
 obtain ⟨AA,D,Q⟩:=GL _ _ _ _ _ _ _ _ M
 obtain ⟨Z,d,N⟩:=hp 3 56 4 rfl
 obtain ⟨V,E,R⟩:=Tf _ _ _ _ _ _ _ _ N
 refine ⟨⟨S,T,AA,V⟩,?_,⟨O,P,Q,R⟩⟩
 have J:=gl (hl.trans Rv) (by rw [PD]) E
 have AB:=cG D (m:=4) (by rw [C5]) J
 have G:=cG C (m:=2) (by rw [Up]) AB
 have F:=cG B (m:=1) (by rw [Up]) G
 exact F
def Nw (w:World) (s:aR):Prop:= ∃ l:List aO,s.n=l.length∧(rd s.a l.length 7 (l.map aO.cells)).holds w∧(∀ x∈l,NR w x)∧l.length≤maxLen∧s.n≤s.c
theorem TH:qH Tryz.prog 51 aR (fun s=>[vS s.a s.n s.c]) Nw:=kK TQ Rv SJ
def PT (w:World) (s:aR):Prop:= ∃ l:List aR,s.n=l.length∧(rd s.a l.length 1 (l.map (fun s=>[vS s.a s.n s.c]))).holds w∧(∀ x∈l,Nw w x)∧l.length≤maxLen∧s.n≤s.c
theorem Sk:qH Tryz.prog 30 aR (fun s=>[vS s.a s.n s.c]) PT:=kK Sl Sy TH
structure Qh (w:World) (s:di):Prop where
 aj:QW w s.aj
 aT:O1 w s.aT
 bS:O1 w s.bS
 f_:s8 w s.f_
 aB:PT w s.aB
theorem TV:fL Tryz.prog 32=some [(28,0),(29,7),(29,8),(3,9),(30,10)]:=by kernel_rfl
theorem Tk:qH Tryz.prog 32 di di.cells Qh:=fun {H} enc w base sp A fuel cs x h=>by
 obtain ⟨hl,hp⟩:=iR TV h
 obtain ⟨b,g,M⟩:=hp 0 28 0 rfl
 obtain ⟨W,B,R⟩:=SH _ _ _ _ _ _ _ _ M
 obtain ⟨c,i,N⟩:=hp 1 29 7 rfl
 obtain ⟨X,C,S⟩:=Rh _ _ _ _ _ _ _ _ N
 obtain ⟨d,j,O⟩:=hp 2 29 8 rfl
 obtain ⟨Y,D,T⟩:=Rh _ _ _ _ _ _ _ _ O
 obtain ⟨e,k,P⟩:=hp 3 3 9 rfl
 obtain ⟨Z,E,AA⟩:=uy _ _ _ _ _ _ _ _ P
 obtain ⟨f,l,Q⟩:=hp 4 30 10 rfl
 obtain ⟨a,F,V⟩:=Sk _ _ _ _ _ _ _ _ Q
 refine ⟨⟨W,X,Y,Z,a⟩,?_,⟨R,S,T,AA,V⟩⟩
 have L:=gl (hl.trans Qi) (by rw [Ud]) F
 have K:=cG E (m:=10) (by rw [uz]) L
 have J:=cG D (m:=9) (by rw [Rt]) K
 have AB:=cG C (m:=8) (by rw [Rt]) J
 have G:=cG B (m:=7) (by rw [QI]) AB
 exact G
theorem T2:Tryz.prog.cellsOf 33=1:=by kernel_rfl
theorem Q4:Tryz.prog.cellsOf 80=4:=by kernel_rfl
structure OT (w:World) (s:aX):Prop where
 Kind:TG w s.Kind
 ik:s8 w s.ik
 my:s8 w s.my
 To:s8 w s.To
theorem TC:fL Tryz.prog 80=some [(5,0),(3,1),(3,2),(3,3)]:=by kernel_rfl
theorem Tc:qH Tryz.prog 80 aX aX.cells OT:=fun {H} enc w base sp A fuel cs x h=>by
 obtain ⟨hl,hp⟩:=iR TC h
 obtain ⟨W,a,K⟩:=hp 0 5 0 rfl
 obtain ⟨S,B,O⟩:=Um _ _ _ _ _ _ _ _ K
 obtain ⟨X,b,L⟩:=hp 1 3 1 rfl
 obtain ⟨T,C,P⟩:=uy _ _ _ _ _ _ _ _ L
 obtain ⟨Y,c,M⟩:=hp 2 3 2 rfl
 obtain ⟨AA,D,Q⟩:=uy _ _ _ _ _ _ _ _ M
 obtain ⟨Z,d,N⟩:=hp 3 3 3 rfl
 obtain ⟨V,E,R⟩:=uy _ _ _ _ _ _ _ _ N
 refine ⟨⟨S,T,AA,V⟩,?_,⟨O,P,Q,R⟩⟩
 have J:=gl (hl.trans Q4) (by rw [uz]) E
 have AB:=cG D (m:=3) (by rw [uz]) J
 have G:=cG C (m:=2) (by rw [uz]) AB
 have F:=cG B (m:=1) (by rw [Uh]) G
 exact F
def RE (w:World) (s:aR):Prop:= ∃ l:List aX,s.n=l.length∧(rd s.a l.length 4 (l.map aX.cells)).holds w∧(∀ x∈l,OT w x)∧l.length≤maxLen∧s.n≤s.c
theorem T3:qH Tryz.prog 33 aR (fun s=>[vS s.a s.n s.c]) RE:=kK S_ Q4 Tc
theorem So:Tryz.prog.cellsOf 34=1:=by kernel_rfl
theorem PS:Tryz.prog.cellsOf 47=5:=by kernel_rfl
structure OE (w:World) (s:a_):Prop where
 Id:s8 w s.Id
 iu:s8 w s.iu
 jt:s8 w s.jt
 jU:s8 w s.jU
 At:s8 w s.At
theorem Tx:fL Tryz.prog 47=some [(3,0),(3,1),(3,2),(3,3),(3,4)]:=by kernel_rfl
theorem SS:qH Tryz.prog 47 a_ a_.cells OE:=fun {H} enc w base sp A fuel cs x h=>by
 obtain ⟨hl,hp⟩:=iR Tx h
 obtain ⟨b,g,M⟩:=hp 0 3 0 rfl
 obtain ⟨W,B,R⟩:=uy _ _ _ _ _ _ _ _ M
 obtain ⟨c,i,N⟩:=hp 1 3 1 rfl
 obtain ⟨X,C,S⟩:=uy _ _ _ _ _ _ _ _ N
 obtain ⟨d,j,O⟩:=hp 2 3 2 rfl
 obtain ⟨Y,D,T⟩:=uy _ _ _ _ _ _ _ _ O
 obtain ⟨e,k,P⟩:=hp 3 3 3 rfl
 obtain ⟨Z,E,AA⟩:=uy _ _ _ _ _ _ _ _ P
 obtain ⟨f,l,Q⟩:=hp 4 3 4 rfl
 obtain ⟨a,F,V⟩:=uy _ _ _ _ _ _ _ _ Q
 refine ⟨⟨W,X,Y,Z,a⟩,?_,⟨R,S,T,AA,V⟩⟩
 have L:=gl (hl.trans PS) (by rw [uz]) F
 have K:=cG E (m:=4) (by rw [uz]) L
 have J:=cG D (m:=3) (by rw [uz]) K
 have AB:=cG C (m:=2) (by rw [uz]) J
 have G:=cG B (m:=1) (by rw [uz]) AB
 exact G
def P6 (w:World) (s:aR):Prop:= ∃ l:List a_,s.n=l.length∧(rd s.a l.length 5 (l.map a_.cells)).holds w∧(∀ x∈l,OE w x)∧l.length≤maxLen∧s.n≤s.c
theorem SV:qH Tryz.prog 34 aR (fun s=>[vS s.a s.n s.c]) P6:=kK Sv PS SS
structure TB (w:World) (s:dh):Prop where
 Race:Qh w s.Race
 aC:RE w s.aC
 aq:P6 w s.aq
 cu:s8 w s.cu
 j2:s8 w s.j2
theorem P5:fL Tryz.prog 36=some [(32,0),(33,11),(34,12),(3,13),(3,14)]:=by kernel_rfl
theorem SN:qH Tryz.prog 36 dh dh.cells TB:=fun {H} enc w base sp A fuel cs x h=>by
 obtain ⟨hl,hp⟩:=iR P5 h
 obtain ⟨b,g,M⟩:=hp 0 32 0 rfl
 obtain ⟨W,B,R⟩:=Tk _ _ _ _ _ _ _ _ M
 obtain ⟨c,i,N⟩:=hp 1 33 11 rfl
 obtain ⟨X,C,S⟩:=T3 _ _ _ _ _ _ _ _ N
 obtain ⟨d,j,O⟩:=hp 2 34 12 rfl
 obtain ⟨Y,D,T⟩:=SV _ _ _ _ _ _ _ _ O
 obtain ⟨e,k,P⟩:=hp 3 3 13 rfl
 obtain ⟨Z,E,AA⟩:=uy _ _ _ _ _ _ _ _ P
 obtain ⟨f,l,Q⟩:=hp 4 3 14 rfl
 obtain ⟨a,F,V⟩:=uy _ _ _ _ _ _ _ _ Q
 refine ⟨⟨W,X,Y,Z,a⟩,?_,⟨R,S,T,AA,V⟩⟩
 have L:=gl (hl.trans TF) (by rw [uz]) F
 have K:=cG E (m:=14) (by rw [uz]) L
 have J:=cG D (m:=13) (by rw [So]) K
 have AB:=cG C (m:=12) (by rw [T2]) J
 have G:=cG B (m:=11) (by rw [Qi]) AB
 exact G
theorem z8:ownKnob Tryz.prog.godebug=none:=by kernel_rfl
theorem yl:laidOutB Tryz.prog=true:=by kernel_rfl
theorem wb (os:Os) (started:os.Started) (H:Type) (enc:TypeId×Value→H):
 ReturnsInHanded {} Tryz.checked os 4 .any (fun w args=>(Rows.juryFeesSpec.pre enc Tryz.prog Tryz.f4 [] false w args∧laidMetH Tryz.prog [("kreisel/race.table",Rows.laid_kreisel_race_table)] w)∧sizedMet enc Tryz.prog Tryz.f4 (OpenSpec.ofChange Rows.juryFeesSpec) false w args) (Rows.juryFeesSpec.post enc Tryz.prog Tryz.f4 false true false false):=by
 refine returnsInHanded_of_change_and (C:=Tryz.checked) (X:=(fun w _=>laidMetH Tryz.prog [("kreisel/race.table",Rows.laid_kreisel_race_table)] w)) (fun _ _ _ hh h=>h.of_heap hh) z8 started kr Tryz.func4
  (ChangeSpec.witness_shaped (enc:=enc) (C:=Tryz.checked) (os:=os) (X:=(fun w _=>laidMetH Tryz.prog [("kreisel/race.table",Rows.laid_kreisel_race_table)] w)) false (World.doorLaid Tryz.prog 400 os) #[.agg #[(vS none 0 0),(vI 0),(vS none 0 0),(vS none 0 0),(vI 0),(vI 0),(vI 0),(vS none 0 0),(vS none 0 0),(vI 0),(vS none 0 0),(vS none 0 0),(vS none 0 0),(vI 0),(vI 0)]] 8 rfl (World.shaped_of_RefB kr kr) kr kr kr (CN os _)) ?_
 intro W base args ds gs before E hW _ _ hL _
 have D: ∀ (j:Nat) t v,Tryz.f4.params[j]? =some t→args[j]? =some v→Value.okWide Tryz.prog W .any base t v:=E
 have hW':=hW
 obtain ⟨p,q,K,hV,rfl,T,AA⟩:=hW
 have hA:DataW.TrodAll enc Tryz.prog W 0 (fun _=>true) true Tryz.f4.params.toList args.toList ds p:=K
 have F:=hA
 rw [Tryz.params4] at hA D
 obtain ⟨Q,Y,Z,R,a,b,L,rfl,rfl,S,V⟩:=trodAll_cons hA
 obtain ⟨rfl,rfl,rfl⟩:=trodAll_nil V
 obtain rfl:args= #[Q]:=by cases args; simp_all
 obtain ⟨rfl,rfl⟩:=trodVars_none hV
 obtain ⟨c,rfl,R0⟩:=Dx P5 SN (D 0 36 Q rfl rfl) S
 simp only [List.append_nil] at hW' F
 have J:=yn hL
 obtain ⟨j,az,ha,kA,kC,cA,cC,bA,bC,O,P,drA,drC,M,N,faA,faC,prA,prC,rfl,G,B⟩:=GG (R1:=I9) (R2:=OI) (R3:=Ji) (R4:=NF) (R5:=s8) (R6:=Nw) (R7:=NR) (R8:=Oa) (R9:=OT) (R10:=OE) R0.Race.aj.aL.kz (fun x hx=>hx.jm) R0.Race.aj.ak (fun x hx=>hx.bJ) R0.Race.aj.aa R0.Race.aT R0.Race.bS R0.Race.aB (fun x hx=>hx) (fun x hx=>hx.bD.ab) R0.aC (fun x hx=>hx.Kind) R0.aq
 have AB:=(CV j kA kC az cA cC bA bC O P drA drC ha M N faA faC prA prC G).run W (by intro A hA; simp only [bR,List.not_mem_nil,or_false] at hA; rcases hA with rfl|rfl|rfl|rfl|rfl|rfl|rfl|rfl|rfl|rfl|rfl; exact J; exact B.1; exact B.2.1; exact B.2.2.1; exact B.2.2.2.1; exact B.2.2.2.2.1; exact B.2.2.2.2.2.1; exact B.2.2.2.2.2.2.1; exact B.2.2.2.2.2.2.2.1; exact B.2.2.2.2.2.2.2.2.1; exact B.2.2.2.2.2.2.2.2.2)
 refine (AB).mono fun e W' ⟨he,hk⟩=>?_
 subst he
 exact ⟨_,U,H7 yl hW' F U U kr hk.below kr Ul⟩
theorem wM:Rows.JuryFeesSaid:=
 OpenClaim.holds_of_wide 4 Tryz.f4 rfl rfl rfl rfl rfl rfl rfl ⟨rfl,rfl,rfl,rfl,rfl⟩ rfl rfl rfl rfl rfl kr Tryz.func4 v9
  (of_decide_eq_true kr) (by unfold Func.isWrapper; first|(rw [if_pos (by decide+kernel)]; kernel_rfl)|(rw [if_neg (by decide+kernel)]; exact ⟨rfl,rfl⟩))
  (fun os started H enc _=>wb os started H enc)
/-- the statement -/
theorem juryFees_said:Rows.JuryFeesCardSaid:=
 Claim7.holds_tied_plain_at .later [] [.funcsDeep] true (true,"d8cf0626f832096ce100a6f7c79f4ede30e4673a60460e9c643b06a90f42f87b") false
  wM (fun _ h=>by cases h) kr (fun _ h=>by cases h) juryFees_row_tie rfl ⟨rfl,rfl⟩ kr rfl
  (fun f fn hf B=>by
   obtain rfl:f=4:=Option.some.inj ((show Tryz.prog.funcNamed "kreisel/kreisellaw07.JuryFees"=some 4 by kernel_rfl).symm.trans hf) |>.symm
   obtain rfl:fn=Tryz.f4:=(Option.some.inj (Tryz.func4.symm.trans B)).symm
   exact ⟨kr,fun j t ht=>by
    rw [Tryz.params4] at ht
    have hm:t∈([36]:List Nat):=by simpa using Array.mem_of_getElem? ht
    have A:(([36]:List Nat).all fun u=> !Tryz.prog.wantsStandIn u)=true:=by kernel_rfl
    exact (show Tryz.prog.wantsStandIn t=false by simpa using de.1 A t hm)⟩)
  kr
#print axioms juryFees_said
end
end Go.Proofs.YtijpnoadncadoaaGreatDoor
