/-
 The statement raceOrder_said, part 8 of 8: Rr2, B9, Ends5, Can, False, Sim, Told, Clear, Ways, WayM, R1, Y1, Y2, Y3, Y5, Rr3, Rr4, Rr5, Rra, Ry1, Ry5, Rw2, Rw3, LineOpen, RaceOpen, Order0.
 Conditions: none.
-/
import Derived.Test.YtlajhejcfcoddaaGreatDoorTy1
import Derived.Test.YtlajhejcfcoddaaGreatDoorTy2
import Derived.Test.YtlajhejcfcoddaaGreatDoorTy3
import Derived.Test.YtlajhejcfcoddaaGreatDoorTy4
import Derived.Test.YtlajhejcfcoddaaGreatDoorTy5
import Derived.Test.YtlajhejcfcoddaaGreatDoorTy6
import Derived.Test.YtlajhejcfcoddaaGreatDoorTy7
import Derived.Test.YtlajhejcfcoddaaGreatDoorCards
import Derived.Test.YtlajhejcfcoddaaGreatDoorTie
import Derived.SevenTiedAt
import Derived.LaidMore
import Derived.Stop.Joined
import Derived.Test.YtlajhejcfcoddaaGreatDoorRows
import Derived.Test.YtlajhejcfcoddaaGreatDoorProg
import Derived.KernelRfl
namespace Go.Proofs.YtlajhejcfcoddaaGreatDoor
set_option maxRecDepth 100000
set_option maxHeartbeats 4000000
set_option linter.unusedVariables false
section
open Go.RowKit
theorem Cj (r:bT) (kA:OA) (kC:Nat) (az:List RA) (cA:OA) (cC:Nat) (bA:OA) (bC:Nat) (slA:OA) (slC:Nat) (drA:OA) (drC:Nat) (ha:List cy) (heA:OA) (heC:Nat) (hraw:rD r az ha):
 ep Tryz.prog 36 [(vA (cp.cells (oQ r kA kC cA cC bA bC slA slC drA drC heA heC)))] [(rd kA r.ao.aM.length 9 (r.ao.aM.map al.cells)),(rd cA r.ao.ai.length 2 (List.zipWith ar.cells r.ao.ai az)),(fc (aU ar.g4 r.ao.ai az)),(rd bA r.ao.ae.length 4 (r.ao.ae.map bH.cells)),(rd slA r.aL.length 1 (r.aL.map iC)),(rd drA r.bE.length 1 (r.bE.map iC)),(rd heA r.an.length 1 (List.zipWith ct r.an ha)),(fc (aU iw r.an ha))] (vB (decide (nX r))):=by
 have AC:=hraw.line
 have A0:=hraw.iH
 have A2:=hraw.has
 have As:=hraw.iI
 have AO:=hraw.draw
 refine bG kr Tryz.func36 U U fun w0 Q hQ hN=>?_
 try dsimp only
 refine WS fun _ l=>fQ U fun b2=>bh 1 U<|RK l<|aj fun _ m=>WS fun _ H=>bh 1 U<|rS (LP (bW.cells (lh r.ao kA kC cA cC bA bC)) 0 U cd U U U)<|rS (CL (Jf r.ao kA kC az cA cC bA bC asm) (bg [1,2,3,4]) U)<|rP 1 [] mn ?_
 refine dh (t:=8) U (aN fun k=>?_) (aO fun k=>?_)
 ·refine bh 17 U<|RK H<|aQ U<|WS fun _ n=>rP 1 [] mn ?_
  refine RK n<|aq<|Q1 hQ U U U ?_
  exact cB (fR (pL (.inl k))).symm
 refine rP 6 [] (mc 0 U mn) ?_
 refine dh (t:=14) U (aN fun AB=>?_) (aO fun AB=>?_)
 ·refine bh 11 U<|RK H<|aQ U<|WS fun _ o=>rP 1 [] mn ?_
  refine RK o<|aq<|Q1 hQ U U U ?_
  exact cB (fR (pL (.inr I))).symm
 refine rP 6 [] (mc 0 U mn) ?_
 refine dh (t:=20) U (aN fun f=>?_) (aO fun f=>?_)
 ·refine bh 5 U<|RK H<|aQ U<|WS fun _ p=>rP 1 [] mn ?_
  refine RK p<|aq<|Q1 hQ U U U ?_
  exact cB (fR (pL (.inr I))).symm
 refine rP 5 [] (mc 0 U mn) ?_
 refine RK H<|cH U (aN fun h=>?_) (aO fun h=>?_)
 ·refine WS fun _ q=>rP 1 [] mn ?_
  refine RK q<|aq<|Q1 hQ U U U ?_
  exact cB (fR (pL (.inr I))).symm
 refine WK m<|aj fun _ s=>WS fun _ N=>rP 1 [] mn ?_
 refine RK N<|ax ?_
 have B:(0≤r.an.length)∧(lS r 0):=by exact ⟨Nat.zero_le _,BN⟩
 refine bL (ι:={z:Nat // (z≤r.an.length)∧(lS r z)}) [1] [0,1,2,3,4,5,6,7,8] U U (fun z=>[(3,(vI (z.1:Int)))]) (fun z=>[]) (fun _=>rfl) (fun _=>rfl) (fun z=>r.an.length-z.1) ⟨0,B⟩ (aV U) (aH [0,1,2,3,4,5,6,7,8]) ?_
 clear B
 rintro ⟨i,⟨x,F⟩⟩ J11 L
 try dsimp only
 refine aj fun _ O=>WS fun _ P=>rP 5 [] (mc 0 U mn) ?_
 refine RK P<|bQ U (aO fun AB=>?_) (aN fun AB=>?_)
 ·refine bD<|ab<|ab<|ay<|KK s<|WS fun _ b=>rP 1 [] mn ?_
  refine RK b<|aq<|Q1 hQ U U U ?_
  exact cB (cq (Hv k I F I)).symm
 refine WK O<|aj fun _ R=>ax<|aj fun _ S=>WS fun _ T=>rP 3 [] (mc 0 U mn) ?_
 obtain ⟨ht,D⟩:=aJ r.an i I
 obtain ⟨A,C⟩:=aJ ha i I
 have E:(List.zipWith ct r.an ha)[i]? =some (ct ht A):=dG D C
 refine rS (IA i U (aA 7 U) nA dc I I)<|rS (fT i 0 (vS A.1.1 ht.length A.1.2) U cd (aA 7 U) E U dc U) ?_
 obtain ⟨A1,Ai,w⟩:=hraw.nN _ _ _ D C
 refine rP 2 [] mn ?_
 refine RK T<|cH U (aN fun J=>?_) (aO fun J=>?_)
 ·refine WS fun _ AA=>rP 1 [] mn ?_
  refine RK AA<|aq<|Q1 hQ U U U ?_
  exact cB (fR (CU D J)).symm
 refine WK S<|WS fun _ V=>rP 1 [] mn ?_
 refine RK V<|ax ?_
 have B:(0≤ht.length)∧(np ht 0):=by exact ⟨Nat.zero_le _,Df⟩
 refine bL (ι:={z:Nat // (z≤ht.length)∧(np ht z)}) [1,3] [0,1,2,3,4,5,6,7,8] U U (fun z=>[(4,(vI (z.1:Int)))]) (fun z=>[]) (fun _=>rfl) (fun _=>rfl) (fun z=>ht.length-z.1) ⟨0,B⟩ (aV U) (aH [0,1,2,3,4,5,6,7,8]) ?_
 clear B
 rintro ⟨j,⟨y,G⟩⟩ J20 M
 try dsimp only
 refine aj fun _ W=>WS fun _ X=>fu 4 [] (mc 0 U mn) U<|rS (IA i U (aA 7 U) nA dc I I)<|rS (fT i 0 (vS A.1.1 ht.length A.1.2) U cd (aA 7 U) E U dc U)<|rP 2 [] mn ?_
 refine RK X<|bQ U (aO fun g=>?_) (aN fun g=>?_)
 ·refine bD<|ab<|ab<|ay<|aB<|KK R<|ak<|rP 3 [] mn ?_
  refine aC ?_
  have e:(vI (((i+1):Nat):Int))=(vI ((i:Int)+1)):=by exact cI I
  refine aR (L ⟨(i+1),⟨I,Bw F D (Ee J G I)⟩⟩ _ _ _ U os (du.cons U<|aY U e<|du.nil _) (aH [0,1,2,3,4,5,6,7,8]))
 refine WK W<|aj fun _ Y=>ax<|WS fun _ Z=>fu 3 [] (mc 0 U mn) U<|rS (IA i U (aA 7 U) nA dc I I)<|rS (fT i 0 (vS A.1.1 ht.length A.1.2) U cd (aA 7 U) E U dc U)<|rP 1 [] mn ?_
 obtain ⟨d,hd⟩:=aJ ht j I
 obtain ⟨da,u⟩:=aJ A.2 j I
 have v:(List.zipWith aw.cells ht A.2)[j]? =some (aw.cells d da):=dG hd u
 refine rS (IA j U (show jc _ (rd A.1.1 ht.length 7 (List.zipWith aw.cells ht A.2)).holds from (dk 8 U (bV D C cm))) ug dc I I)<|rS (mW ((j*7)+4) U (show jc _ (rd A.1.1 ht.length 7 (List.zipWith aw.cells ht A.2)).holds from (dk 8 U (bV D C cm))) (Nat.mul_pos I dc) fp U)<|rS (mW (((j*7)+4)+2) U (show jc _ (rd A.1.1 ht.length 7 (List.zipWith aw.cells ht A.2)).holds from (dk 8 U (bV D C cm))) (Nat.mul_pos I dc) fp U)<|rS (fT j 6 (vS da.1 d.cv.ah.length da.2) U cd (show jc _ (rd A.1.1 ht.length 7 (List.zipWith aw.cells ht A.2)).holds from (dk 8 U (bV D C cm))) v U dc U) ?_
 have A3:=w d (aT hd)
 refine rP 2 [] mn ?_
 refine RK Z<|bQ U (aO fun K=>?_) (aN fun K=>?_)
 ·refine bZ<|aB<|KK Y<|ak<|rP 3 [] mn ?_
  refine aC ?_
  have c:(vI (((j+1):Nat):Int))=(vI ((j:Int)+1)):=by exact cI I
  refine aR (M ⟨(j+1),⟨I,Cv G hd K⟩⟩ _ _ _ U os (du.cons U<|du.cons U<|aY U c<|du.nil _) (aH [0,1,2,3,4,5,6,7,8]))
 refine WS fun _ a=>rP 1 [] mn ?_
 refine RK a<|aq<|Q1 hQ U U U ?_
 exact cB (fR (Ez D hd K)).symm
end
section
open Go.RowKit
theorem Bp (l:aZ) (kA:OA) (kC:Nat) (az:List RA) (cA:OA) (cC:Nat) (bA:OA) (bC:Nat) (hin:er l az):
 ep Tryz.prog 21 [(vA (bW.cells (lh l kA kC cA cC bA bC)))] [(rd kA l.aM.length 9 (l.aM.map al.cells)),(rd cA l.ai.length 2 (List.zipWith ar.cells l.ai az)),(fc (aU ar.g4 l.ai az)),(rd bA l.ae.length 4 (l.ae.map bH.cells))] (vI (dC l)):=by
 have N:=hin.sQ
 have M:=hin.sr
 have K:=hin.od
 have L:=hin.sj
 refine bG kr Tryz.func21 U U fun P Q hQ hN=>?_
 try dsimp only
 refine WS fun _ C=>fQ U fun O=>bh 1 U<|RK C<|aj fun _ D=>WS fun _ E=>bh 1 U<|rS (LP (bB.cells (bB.mk (bo.mk kA l.aM.length kC))) 0 U cd U U U)<|rS (CL (v8 l.aM kA kC asm) (bg [1]) U)<|rP 1 [] mn ?_
 refine RK E<|cH U (fun A=>?_) (fun A=>?_)
 ·rw [Bool.not_eq_true'] at A
  refine WS fun _ F=>rP 1 [] mn ?_
  refine RK F<|aq<|Q1 hQ U U U ?_
  exact cI (yI (by simpa using A)).symm
 rw [Bool.not_eq_false'] at A
 refine WK D<|aj fun _ G=>WS fun _ H=>fu 1 [] (mc 0 U mn) U<|rS (CL (Nk l kA kC az cA cC bA bC hin asm) (bg [1,2,3,4]) U)<|rP 1 [] mn ?_
 refine RK H<|cH U (bu fun B=>?_) (br fun B=>?_)
 ·refine WS fun _ AA=>rP 1 [] mn ?_
  refine RK AA<|aq<|Q1 hQ U U U ?_
  exact cI (qN A B).symm
 refine WK G<|WS fun _ J=>rP 1 [] mn ?_
 refine RK J<|aq<|Q1 hQ U U U ?_
 exact cI (yh A B).symm
theorem M6 (l:aZ) (kA:OA) (kC:Nat) (az:List RA) (cA:OA) (cC:Nat) (bA:OA) (bC:Nat) (s:aK) (hin:er l az) (hok:lz l) (hs:(0≤s.gu∧s.gu≤(l.ae.length:Int)-1)∧0≤s.Read∧s.Read≤86400000):
 ep Tryz.prog 196 [(vA (bW.cells (lh l kA kC cA cC bA bC))),(vA (aK.cells s))] [(rd kA l.aM.length 9 (l.aM.map al.cells)),(rd cA l.ai.length 2 (List.zipWith ar.cells l.ai az)),(fc (aU ar.g4 l.ai az)),(rd bA l.ae.length 4 (l.ae.map bH.cells))] (vT [(vA (aa.cells (cN l s))),(vB (decide ((cN l s).Lo≤(cN l s).Hi)))]):=by
 have A0:=hin.sQ
 have As:=hin.sr
 have AO:=hin.od
 have Ai:=hin.sj
 refine bG kr Tryz.func196 U U fun w0 Q hQ hN=>?_
 try dsimp only
 refine WS fun _ i=>fQ U fun b2=>fQ U fun b3=>AL U dp fun b4=>rP 1 [] mn ?_
 refine RK i<|aj fun _ j=>dF cE [11,12] [] [] [0,1,2,3,4,5,6] [] U U U U U<|eS U (FA 2 U fp U)<|eS U (L1 (vS cA l.ai.length cC) 2 U cd U U)<|eS U (FA 3 U fp U)<|eS U (L1 (vS bA l.ae.length bC) 2 U cd U U)<|eS U (FA 0 U fp U)<|eS U (L1 (vI s.gu) 1 U cd U U) ?_
 obtain ⟨y,hy⟩:=aJ l.ae ((s.gu).toNat) I
 have w:=bK bH.cells hy
 refine eS U (IA ((s.gu).toNat) U (aA 6 U) uG dc I I)<|eS U (mW ((((s.gu).toNat)*4)+3) U (aA 6 U) (Nat.mul_pos I dc) fp U)<|eS U (fT ((s.gu).toNat) 3 (vI y.j0) U cd (aA 6 U) w U dc U) ?_
 have A1:=(hok.vK _ (aT hy)).2
 obtain ⟨x,hx⟩:=aJ l.ai ((y.j0).toNat) I
 obtain ⟨xa,J⟩:=aJ az ((y.j0).toNat) I
 have u:(List.zipWith ar.cells l.ai az)[(y.j0).toNat]? =some (ar.cells x xa):=dG hx J
 refine eS U (IA ((y.j0).toNat) U (aA 4 U) vD dc I I)<|eS U (oT ((y.j0).toNat) 0 (dq.cells (dq.mk x.dw (bo.mk xa.1 x.bq.length xa.2))) U cd (aA 4 U) u U dc U U)<|eT U<|cf U fun T6 m=>AL U Oj fun b7=>aC (m _ _ (aH [1,2,3,4,5,6,7]) ?_)
 refine cf U fun T8 o=>fX U Tv U<|aC (o _ _ (aH [1,2,3,4,5,6,7]) ?_)
 refine fF U<|KK j<|WS fun _ k=>rP 2 [] mn ?_
 refine RK k<|aj fun _ K=>ax ?_
 have A:(0≤(0:Int)∧(0:Int)≤(fz (gl x s.Read) 86400001))∧((fz (gl x s.Read) 86400001)≤(86400001:Int)∧(86400001:Int)≤86400001):=by (have Z:=ik (p:=gl x s.Read) (n:=86400001); omega)
 refine bL (ι:={z:Int×Int // (0≤z.1∧z.1≤(fz (gl x s.Read) 86400001))∧((fz (gl x s.Read) 86400001)≤z.2∧z.2≤86400001)}) [2,3,4,6] [0,1,2,3,4,5,6,7] U U (fun z=>[(7,(vI z.1.1)),(8,(vI z.1.2))]) (fun z=>[]) (fun _=>rfl) (fun _=>rfl) (fun z=>(z.1.2-z.1.1).toNat) ⟨((0:Int),(86400001:Int)),A⟩ (aV U) (aH [0,1,2,3,4,5,6,7]) ?_
 clear A
 rintro ⟨⟨a,b⟩,⟨H,AB⟩⟩ J11 F
 try dsimp only at H AB
 try dsimp only
 have B:=hok.clock _ (aT hx)
 have Z:=ik (p:=gl x s.Read) (n:=86400001)
 have Y:=ik (p:=gn x s.Read) (n:=86400001)
 refine aj fun _ L=>WS fun _ M=>rP 3 [] mn ?_
 refine RK M<|cH U (aN fun c=>?_) (aO fun c=>?_)
 ·refine WK L<|ax<|WS fun _ N=>bh 3 U<|rS (BI U (tD I I I))<|bh 1 U<|RK N<|aj fun _ O=>dK cE 9 kr<|dP 3 [] (mc 0 U mn) ?_
  refine dS (CL (C7 x xa.1 xa.2 ((a+b)/2) asm I) (av (show jc _ (rd xa.1 x.bq.length 3 (x.bq.map cz.cells)).holds from (dk 6 U (bV hx J (by simp [ar.g4]))))<|aI) U)<|dS (SX (iL (v:=(vI ((iz x ((a+b)/2)).Hi))) U U fp qQ U) U U) ?_
  have t:=qL B (show 0≤(a+b)/2∧(a+b)/2≤90000000 by omega)
  refine dP 4 [] (mc 2 U mn) ?_
  refine cR<|RK O<|cH U (aN fun g=>?_) (aO fun g=>?_)
  ·refine ak<|rP 2 [] mn ?_
   refine aC<|aB ?_
   refine aR (F ⟨(a,((a+b)/2)),(by dsimp only; have hm:=kU (r:=s.Read) B (x:=(a+b)/2) I I; rcases Int.lt_or_le ((a+b)/2) (fz (gl x s.Read) 86400001) with q|q; (have C:=hm.1 q; simp only [gl,decide_eq_false_iff_not] at C; omega); (have C:=hm.2.1 q; simp only [gl,decide_eq_true_eq] at C; omega))⟩ _ _ _ rfl (by simp only []; omega) (aV rfl) (aH [0,1,2,3,4,5,6,7]))
  refine ak<|rP 3 [] mn ?_
  refine aC<|aB ?_
  refine aR (F ⟨((((a+b)/2)+1),b),(by dsimp only; have hm:=kU (r:=s.Read) B (x:=(a+b)/2) I I; rcases Int.lt_or_le ((a+b)/2) (fz (gl x s.Read) 86400001) with q|q; (have C:=hm.1 q; simp only [gl,decide_eq_false_iff_not] at C; omega); (have C:=hm.2.1 q; simp only [gl,decide_eq_true_eq] at C; omega))⟩ _ _ _ rfl (by simp only []; omega) (aV rfl) (aH [0,1,2,3,4,5,6,7]))
 refine bD<|ab<|ab<|ay<|KK K<|WS fun _ P=>bh 2 U<|RK P<|WS fun _ R=>rP 2 [] mn ?_
 refine RK R<|aj fun _ S=>ax ?_
 have A:(-1≤((-1):Int)∧((-1):Int)≤(fz (gn x s.Read) 86400001)-1)∧((fz (gn x s.Read) 86400001)-1≤(86400000:Int)∧(86400000:Int)≤86400000):=by (have Y:=ik (p:=gn x s.Read) (n:=86400001); omega)
 refine bL (ι:={z:Int×Int // (-1≤z.1∧z.1≤(fz (gn x s.Read) 86400001)-1)∧((fz (gn x s.Read) 86400001)-1≤z.2∧z.2≤86400000)}) [2,3,4,6,10] [0,1,2,3,4,5,6,7] U U (fun z=>[(7,(vI z.1.1)),(8,(vI z.1.2))]) (fun z=>[]) (fun _=>rfl) (fun _=>rfl) (fun z=>(z.1.2-z.1.1).toNat) ⟨(((-1):Int),(86400000:Int)),A⟩ (aV U) (aH [0,1,2,3,4,5,6,7]) ?_
 clear A
 rintro ⟨⟨d,e⟩,⟨D,E⟩⟩ J20 G
 try dsimp only at D E
 try dsimp only
 have B:=hok.clock _ (aT hx)
 have Z:=ik (p:=gl x s.Read) (n:=86400001)
 have Y:=ik (p:=gn x s.Read) (n:=86400001)
 refine aj fun _ T=>WS fun _ AA=>rP 3 [] mn ?_
 refine RK AA<|bQ U (aO fun f=>?_) (aN fun f=>?_)
 ·refine bD<|ab<|ab<|ay<|KK S<|WS fun _ X=>bh 2 U<|rS (SX (bk (xs:=[(0,.tmp 63),(1,.tmp 64)]) (cs:=(aa.cells (aa.mk a d))) U U (bj gv U)) U U)<|bh 3 U<|sT U cx U<|rP 1 [] mn ?_
  refine RK X<|aq<|lG hQ [0] (mc 1 U mn) U ?_
  have e0:cN l s=⟨a,d⟩:=by (unfold cN qC; rw [wu hy hx,show a=(fz (gl x s.Read) 86400001) by omega,show d=(fz (gn x s.Read) 86400001)-1 by omega])
  rw [e0]
 refine WK T<|ax<|WS fun _ V=>bh 4 U<|rS (BI U (tD I I I))<|bh 1 U<|RK V<|aj fun _ W=>dK cE 9 kr<|dP 3 [] (mc 0 U mn) ?_
 refine dS (CL (C7 x xa.1 xa.2 (((d+e)+1)/2) asm I) (av (show jc _ (rd xa.1 x.bq.length 3 (x.bq.map cz.cells)).holds from (dk 6 U (bV hx J (by simp [ar.g4]))))<|aI) U)<|dS (SX (iL (v:=(vI ((iz x (((d+e)+1)/2)).Lo))) U U fp Aj U) U U) ?_
 have t:=qL B (show 0≤(d+e+1)/2∧(d+e+1)/2≤90000000 by omega)
 refine dP 4 [] (mc 2 U mn) ?_
 refine cR<|RK W<|cH U (aN fun h=>?_) (aO fun h=>?_)
 ·refine ak<|rP 2 [] mn ?_
  refine aC<|aB ?_
  refine aR (G ⟨((((d+e)+1)/2),e),(by dsimp only; have hm:=kU (r:=s.Read) B (x:=(d+e+1)/2) I I; rcases Int.lt_or_le ((d+e+1)/2) (fz (gn x s.Read) 86400001) with q|q; (have C:=hm.2.2.1 q; simp only [gn,decide_eq_false_iff_not] at C; omega); (have C:=hm.2.2.2 q; simp only [gn,decide_eq_true_eq] at C; omega))⟩ _ _ _ rfl (by simp only []; omega) (aV rfl) (aH [0,1,2,3,4,5,6,7]))
 refine ak<|rP 3 [] mn ?_
 refine aC<|aB ?_
 refine aR (G ⟨(d,((((d+e)+1)/2)-1)),(by dsimp only; have hm:=kU (r:=s.Read) B (x:=(d+e+1)/2) I I; rcases Int.lt_or_le ((d+e+1)/2) (fz (gn x s.Read) 86400001) with q|q; (have C:=hm.2.2.1 q; simp only [gn,decide_eq_false_iff_not] at C; omega); (have C:=hm.2.2.2 q; simp only [gn,decide_eq_true_eq] at C; omega))⟩ _ _ _ rfl (by simp only []; omega) (aV rfl) (aH [0,1,2,3,4,5,6,7]))
end
section
/-- where a sled may be after k beams more -/
def fY (w:bR):Nat→Nat→aD×Int→List (aD×Int)
 |0,_,p=>[p]
 |k+1,b,p=>(iF w b).flatMap fun o=>match kT w b p o with
  |some q=>fY w k (b+1) q
  |none=>[]
variable {w:bR}
theorem ig {k b:Nat} {p q:aD×Int}:q∈fY w (k+1) b p↔ ∃ o∈iF w b,∃ p',kT w b p o=some p'∧q∈fY w k (b+1) p':=by
 simp only [fY,List.mem_flatMap]
 constructor
 ·rintro ⟨o,ho,h⟩
  cases e:kT w b p o with
  |none=>rw [e] at h; cases h
  |some p'=>rw [e] at h; exact ⟨o,ho,p',e,h⟩
 ·rintro ⟨o,ho,p',e,h⟩
  exact ⟨o,ho,by rw [e]; exact h⟩
theorem rf: ∀ (k b:Nat) (q:aD×Int),q∈fwd w (b+k)↔ ∃ p∈fwd w b,q∈fY w k b p:=by
 intro k
 induction k with
 |zero=>
  intro b q
  simp only [Nat.add_zero,fY,bJ]
  exact ⟨fun h=>⟨q,h,rfl⟩,fun ⟨p,hp,e⟩=>e▸hp⟩
 |succ k ih=>
  intro b q
  rw [show b+(k+1)=(b+1)+k by omega,ih]
  constructor
  ·rintro ⟨p',hp',h⟩
   obtain ⟨p,hp,o,ho,e⟩:=fU.1 hp'
   exact ⟨p,hp,ig.2 ⟨o,ho,p',e,h⟩⟩
  ·rintro ⟨p,hp,h⟩
   obtain ⟨o,ho,p',e,h'⟩:=ig.1 h
   exact ⟨p',fU.2 ⟨p,hp,o,ho,e⟩,h'⟩
theorem gP {b:Nat} {p q:aD×Int} {o:Int×aa}:kT w b p o=some q↔max (p.2+bU w b) o.2.Lo≤min o.2.Hi w.gk∧q=(dy p.1 (fr o.1),max (p.2+bU w b) o.2.Lo):=by
 unfold kT
 split
 ·rename_i h
  constructor
  ·intro e; cases e; exact ⟨h,rfl⟩
  ·rintro ⟨_,rfl⟩; rfl
 ·rename_i h
  constructor
  ·intro e; cases e
  ·rintro ⟨h',_⟩; exact absurd h' h
theorem uL {b:Nat} {p q:aD×Int} {o:Int×aa}:oc w b p o=some q↔o.2.Lo≤min p.2 o.2.Hi∧q=(dy p.1 (fr o.1),min p.2 o.2.Hi-bU w b):=by
 unfold oc
 split
 ·rename_i h
  constructor
  ·intro e; cases e; exact ⟨h,rfl⟩
  ·rintro ⟨_,rfl⟩; rfl
 ·rename_i h
  constructor
  ·intro e; cases e
  ·rintro ⟨h',_⟩; exact absurd h' h
theorem Iu {b:Nat} (hb:b≤w.n):((⟨0,0⟩:aD),w.gk)∈back w b:=by
 rcases Nat.lt_or_ge b w.n with h|h
 ·exact (o6 h).2 (.inl U)
 ·rw [u3 h]; simp
theorem ny (t:aD):dy t ⟨0,0⟩=t:=by cases t; simp [dy]
theorem zH (a o u:aD):dy (dy a o) u=dy a (dy u o):=by simp only [dy,aD.mk.injEq]; omega
theorem GJ (hl: ∀ b,0≤bU w b): ∀ (k:Nat) (u:aD×Int),u∈bwd w k→u.2≤w.gk:=by
 intro k
 induction k with
 |zero=>intro u hu; simp only [bwd,bJ] at hu; subst hu; exact Int.le_refl _
 |succ k ih=>
  intro u hu
  simp only [bwd,bx,List.mem_flatMap,List.mem_filterMap] at hu
  rcases hu with rfl|⟨p,hp,o,ho,e⟩
  ·exact Int.le_refl _
  ·obtain ⟨_,rfl⟩:=uL.1 e
   have:=ih p hp
   have:=hl (w.n-(k+1))
   simp only; omega
/-- what follows a passing is told by the way back -/
theorem OB: ∀ (k b:Nat) (p q:aD×Int),b+k≤w.n→p.2≤w.gk→q∈fY w k b p→ ∃ u∈back w b,p.2≤u.2∧q.1=dy p.1 u.1:=by
 intro k
 induction k with
 |zero=>
  intro b p q hb hp hq
  simp only [fY,bJ] at hq
  subst hq
  exact ⟨_,Iu I,hp,(ny _).symm⟩
 |succ k ih=>
  intro b p q hb hp hq
  obtain ⟨o,ho,p',e,h⟩:=ig.1 hq
  obtain ⟨C,rfl⟩:=gP.1 e
  obtain ⟨u',hu',B,A⟩:=ih (b+1) _ q I (by simp only; omega) h
  simp only at B A
  refine ⟨(dy u'.1 (fr o.1),min u'.2 o.2.Hi-bU w b),(o6 I).2 (.inr ⟨u',hu',o,ho,uL.2 ⟨I,U⟩⟩),by simp only; omega,?_⟩
  rw [A,zH]
theorem L4 (hl: ∀ b,0≤bU w b): ∀ (d b:Nat) (p u:aD×Int),w.n=b+d→p.2≤u.2→u∈back w b→ ∃ k,b+k≤w.n∧ ∃ q∈fY w k b p,q.1=dy p.1 u.1:=by
 intro d
 induction d with
 |zero=>
  intro b p u hd hp hu
  rw [u3 I] at hu
  simp only [bJ] at hu
  subst hu
  exact ⟨0,I,p,by simp [fY],(ny _).symm⟩
 |succ d ih=>
  intro b p u hd hp hu
  rcases (o6 I).1 hu with rfl|⟨u',hu',o,ho,e⟩
  ·exact ⟨0,I,p,by simp [fY],(ny _).symm⟩
  ·obtain ⟨B,rfl⟩:=uL.1 e
   have hn:u'.2≤w.gk:=GJ hl _ _ hu'
   simp only at hp
   obtain ⟨k,hk,q,hq,A⟩:=ih (b+1) (dy p.1 (fr o.1),max (p.2+bU w b) o.2.Lo) u' I (by simp only; omega) hu'
   refine ⟨k+1,I,q,ig.2 ⟨o,ho,_,gP.2 ⟨I,U⟩,hq⟩,?_⟩
   rw [A]; simp only; rw [zH]
end
section
section
variable {l:aZ} {r:cJ} {one at_:Int} {d:Nat} {f g m:Int} {rec:Int→Int→Int→Bool} {i:Int}
end
theorem qt {l:aZ} {r:cJ} {d:Nat} (hd:d<l.ae.length) {o:Int×aa}:o∈iF (cu l r) d↔o=(-1,⟨r.Start,r.gk⟩)∨ ∃ k,k<r.ah.length∧ ∃ s,r.ah[k]? =some s∧(s.gu=(d:Int)∧(cN l s).Lo≤(cN l s).Hi)∧o=((k:Int),cN l s):=by
 unfold iF ud
 show o∈(-1,(⟨r.Start,r.gk⟩:aa))::((eo l r.ah r.ah.length)[d]?).getD []↔_
 rw [oU hd,Option.getD_some,bx,sk]
theorem pB {l:aZ} {r:cJ} {d:Nat} (hd:d<l.ae.length):bU (cu l r) d=ej l d:=by rw [zn,if_pos hd]
theorem uR {l:aZ} {n d:Nat} {y:Int} (h:(cQ l n)[d]? =some y):y=ej l d:=by
 unfold cQ at h
 rw [fH] at h
 have hd:d<n:=by
  rcases Nat.lt_or_ge d n with q|q
  ·exact q
  ·rw [List.getElem?_eq_none (by simpa using q)] at h; cases h
 rw [List.getElem?_range hd] at h
 exact (Option.some.inj h).symm
end
section
def QD (w:bR) (b:Nat) (i:Int):Prop:= ∃ b',b'<b∧ ∃ q∈mD w b',q.1=i
noncomputable instance (w:bR) (b:Nat) (i:Int):Decidable (QD w b i):=Classical.propDecidable _
def vZ (w:bR) (b:Nat):Bool:=(mD w b).any fun q=>decide (0≤q.1)
def Ap (w:bR) (k:Nat):List Int:=((List.range k).filter fun b=> !vZ w b).map fun (b:Nat)=>(b:Int)
noncomputable def wb (l:aZ) (r:cJ):List Int:=if eJ l r 0=0 then Ap (cu l r) (yg (lv l r)).toNat else []
theorem xO {l:aZ} {r:cJ} (h:eJ l r 0=0):wb l r=Ap (cu l r) (yg (lv l r)).toNat:=if_pos h
theorem xz {l:aZ} {r:cJ} (h: ¬ eJ l r 0=0):wb l r=[]:=if_neg h
theorem TD {l:aZ} {r:cJ} (h:eJ l r 0=0):0≤yg (lv l r)∧yg (lv l r)≤(l.ae.length:Int):=by
 have A:=(GL (uZ h)).1
 rw [lY h] at A ⊢
 obtain ⟨i,e,hi,_⟩:=o0.1 A
 have hn:(cu l r).n=l.ae.length:=eC
 omega
end
section
/-- a truth goes on from here -/
def sx (w:bR) (b:Nat) (p:aD×Int):Prop:= ∃ k,b+k≤w.n∧ ∃ q∈fY w k b p,kG w q.1=true
/-- a truth may have come here, or earlier -/
def Du (w:bR) (b:Nat) (p:aD×Int):Prop:= ∃ v,(p.1,v)∈fwd w b∧v≤p.2
def Jp (n:Int) (p:aD×Int):aD×Int:=(p.1,p.2+n)
section
variable {w:bR}
theorem G9: ∀ (k j b:Nat) (p q z:aD×Int),q∈fY w k b p→z∈fY w j (b+k) q→z∈fY w (k+j) b p:=by
 intro k
 induction k with
 |zero=>
  intro j b p q z A B
  simp only [fY,bJ] at A
  subst A
  rw [Nat.zero_add]; exact B
 |succ k ih=>
  intro j b p q z A B
  obtain ⟨o,ho,p',e,h⟩:=ig.1 A
  rw [show k+1+j=(k+j)+1 by omega]
  exact ig.2 ⟨o,ho,p',e,ih j (b+1) p' q z h (by rw [show b+1+k=b+(k+1) by omega]; exact B)⟩
theorem B6: ∀ (k b:Nat) (t:aD) (x y:Int) (q:aD×Int),y≤x→q∈fY w k b (t,x)→ ∃ q'∈fY w k b (t,y),q'.1=q.1∧q'.2≤q.2:=by
 intro k
 induction k with
 |zero=>
  intro b t x y q A hq
  simp only [fY,bJ] at hq ⊢
  subst hq
  exact ⟨_,U,U,A⟩
 |succ k ih=>
  intro b t x y q A hq
  obtain ⟨o,ho,p',e,h⟩:=ig.1 hq
  obtain ⟨B,rfl⟩:=gP.1 e
  simp only at B h
  obtain ⟨q',hq',C,D⟩:=ih (b+1) _ _ (max (y+bU w b) o.2.Lo) q I h
  exact ⟨q',ig.2 ⟨o,ho,_,gP.2 ⟨by simp only; omega,U⟩,hq'⟩,C,D⟩
theorem wF {b:Nat} {t:aD} {x y:Int} (h:sx w b (t,x)) (hy:y≤x):sx w b (t,y):=by
 obtain ⟨k,hk,q,hq,hm⟩:=h
 obtain ⟨q',hq',e,_⟩:=B6 k b t x y q hy hq
 exact ⟨k,hk,q',hq',by rw [e]; exact hm⟩
theorem uW {k b:Nat} {p q:aD×Int} (h:q∈fY w k b p) (hv:sx w (b+k) q):sx w b p:=by
 obtain ⟨j,hj,z,hz,hm⟩:=hv
 exact ⟨k+j,I,z,G9 k j b p q z h hz,hm⟩
theorem Hh {b:Nat} {p q:aD×Int} {o:Int×aa} (h:Du w b p) (ho:o∈iF w b) (e:kT w b p o=some q):Du w (b+1) q:=by
 obtain ⟨v,hv,A⟩:=h
 obtain ⟨B,rfl⟩:=gP.1 e
 exact ⟨max (v+bU w b) o.2.Lo,fU.2 ⟨_,hv,o,ho,gP.2 ⟨by simp only; omega,U⟩⟩,by simp only; omega⟩
theorem Bs {b:Nat} {p:aD×Int} (h:p∈fwd w b):Du w b p:=⟨p.2,h,Int.le_refl _⟩
theorem yE (hl: ∀ b,0≤bU w b): ∀ (b:Nat) (p:aD×Int),p∈fwd w b→w.Start≤p.2:=by
 intro b
 induction b with
 |zero=>intro p hp; simp only [fwd,bJ] at hp; subst hp; exact Int.le_refl _
 |succ b ih=>
  intro q hq
  obtain ⟨p,hp,o,ho,e⟩:=fU.1 hq
  obtain ⟨_,rfl⟩:=gP.1 e
  have:=ih p hp
  have:=hl b
  simp only; omega
/-- a beam is passed at a time, by a signal -/
def wL (w:bR) (b:Nat) (s t:Int):Prop:= ∃ p∈fwd w b,∃ o∈iF w b,o.1=s∧(max (p.2+bU w b) o.2.Lo≤t∧t≤min o.2.Hi w.gk)∧sx w (b+1) (dy p.1 (fr o.1),t)
theorem Ar (hl: ∀ b,0≤bU w b) {b:Nat} (hb:b<w.n) {s t:Int}:(∃ q∈mD w b,q.1=s∧q.2.Lo≤t∧t≤q.2.Hi)↔wL w b s t:=by
 constructor
 ·rintro ⟨q,hq,hs,C,D⟩
  obtain ⟨o,ho,p,hp,u,hu,e⟩:=ij.1 hq
  obtain ⟨B,A,rfl⟩:=jw.1 e
  simp only [jF] at C D B
  have hn:u.2≤w.gk:=GJ hl _ _ hu
  obtain ⟨k,hk,q,hq',E⟩:=L4 hl (w.n-(b+1)) (b+1) (dy p.1 (fr o.1),t) u I (by simp only; omega) hu
  refine ⟨p,hp,o,ho,hs,⟨I,I⟩,k,hk,q,hq',?_⟩
  rw [E]
  unfold wU at A
  rw [show dy (dy p.1 (fr o.1)) u.1=dy (dy p.1 u.1) (fr o.1) by simp only [dy,aD.mk.injEq]; omega]
  exact A
 ·rintro ⟨p,hp,o,ho,hs,⟨C,D⟩,k,hk,q,hq,hm⟩
  obtain ⟨u,hu,B,A⟩:=OB k (b+1) _ q hk (by simp only; omega) hq
  simp only at B A
  refine ⟨(o.1,jF w b p u o),ij.2 ⟨o,ho,p,hp,u,hu,jw.2 ⟨by simp only [jF]; omega,?_,U⟩⟩,hs,by simp only [jF]; omega,by simp only [jF]; omega⟩
  unfold wU
  rw [A] at hm
  rw [show dy (dy p.1 u.1) (fr o.1)=dy (dy p.1 (fr o.1)) u.1 by simp only [dy,aD.mk.injEq]; omega]
  exact hm
end
structure yr (w w':bR) (n:Int) (f:Int→Int):Prop where
 start:w'.Start=w.Start+n
 now:w'.gk=w.gk+n
 wn:w'.n=w.n
 low: ∀ b,0≤bU w b
 least: ∀ b,bU w' b=bU w b
 may: ∀ t,kG w t=true→kG w' t=true
 VV: ∀ s,0≤f s↔0≤s
 opt: ∀ (b:Nat) (p:aD×Int) (o:Int×aa),b<w.n→w.Start≤p.2→Du w b p→o∈iF w b→max (p.2+bU w b) o.2.Lo≤min o.2.Hi w.gk→sx w (b+1) (dy p.1 (fr o.1),max (p.2+bU w b) o.2.Lo)→
  ∃ o'∈iF w' b,o'.1=f o.1∧ ∀ t,w.Start≤t→t≤w.gk→((o.2.Lo≤t∧t≤o.2.Hi)↔(o'.2.Lo≤t+n∧t+n≤o'.2.Hi))
section
variable {w w':bR} {n:Int} {f g:Int→Int}
theorem yr.one (h:yr w w' n f) (s:Int):fr (f s)=fr s:=by
 unfold fr
 have:=h.VV s
 by_cases q:s<0
 ·rw [if_pos q,if_pos I]
 ·rw [if_neg q,if_neg I]
theorem yr.step (h:yr w w' n f) {b:Nat} {p q:aD×Int} {o:Int×aa} (hb:b<w.n) (hs:w.Start≤p.2) (hl:Du w b p) (ho:o∈iF w b) (e:kT w b p o=some q) (hv:sx w (b+1) q):
 ∃ o'∈iF w' b,kT w' b (Jp n p) o'=some (Jp n q):=by
 obtain ⟨E,rfl⟩:=gP.1 e
 obtain ⟨o',ho',D,A⟩:=h.opt b p o hb hs hl ho E hv
 have F:=h.low b
 have B:=A (max (p.2+bU w b) o.2.Lo) I I
 have C:=A (max (p.2+n+bU w b) o'.2.Lo-n) I
 refine ⟨o',ho',gP.2 ?_⟩
 simp only [Jp,h.least,h.now]
 rw [D,h.one]
 have G:=B.1 I
 have H:=(C I).2 I
 refine ⟨I,?_⟩
 simp only [Prod.mk.injEq,true_and]
 omega
theorem yr.reach (h:yr w w' n f): ∀ (k b:Nat) (p q:aD×Int),b+k≤w.n→w.Start≤p.2→Du w b p→q∈fY w k b p→sx w (b+k) q→Jp n q∈fY w' k b (Jp n p):=by
 intro k
 induction k with
 |zero=>
  intro b p q _ _ _ hq _
  simp only [fY,bJ] at hq ⊢
  rw [hq]
 |succ k ih=>
  intro b p q hb hs hl hq hv
  obtain ⟨o,ho,p',e,hq'⟩:=ig.1 hq
  have hv':sx w (b+1) p':=uW hq' (by rw [show b+1+k=b+(k+1) by omega]; exact hv)
  obtain ⟨o',ho',e'⟩:=h.step I hs hl ho e hv'
  have A:=gP.1 e
  have B:=h.low b
  exact ig.2 ⟨o',ho',_,e',ih (b+1) p' q I (by rw [A.2]; simp only; omega) (Hh hl ho e) hq' (by rw [show b+1+k=b+(k+1) by omega]; exact hv)⟩
theorem yr.Rq (h:yr w w' n f) {b:Nat} {p:aD×Int} (hs:w.Start≤p.2) (hl:Du w b p) (hv:sx w b p):sx w' b (Jp n p):=by
 obtain ⟨k,hk,q,hq,hm⟩:=hv
 exact ⟨k,by rw [h.wn]; exact hk,_,h.reach k b p q hk hs hl hq ⟨0,I,q,by simp [fY],hm⟩,h.may _ hm⟩
theorem yr.fwd (h:yr w w' n f) {b:Nat} {q:aD×Int} (hb:b≤w.n) (hq:q∈fwd w b) (hv:sx w b q):Jp n q∈Go.Proofs.YtlajhejcfcoddaaGreatDoor.fwd w' b:=by
 obtain ⟨p,hp,hr⟩:=(rf b 0 q).1 (by rw [Nat.zero_add]; exact hq)
 have hr':=h.reach b 0 p q I (yE h.low 0 p hp) (Bs hp) hr (by rw [Nat.zero_add]; exact hv)
 have:Jp n p∈Go.Proofs.YtlajhejcfcoddaaGreatDoor.fwd w' 0:=by
  simp only [Go.Proofs.YtlajhejcfcoddaaGreatDoor.fwd,bJ] at hp ⊢
  subst hp
  rw [h.start]; rfl
 have A:=(rf b 0 (Jp n q)).2 ⟨_,this,hr'⟩
 rwa [Nat.zero_add] at A
theorem yr.any (h:yr w w' n f) {b:Nat} (hb:b≤w.n) (hm:jB w (Go.Proofs.YtlajhejcfcoddaaGreatDoor.fwd w b)=true):jB w' (Go.Proofs.YtlajhejcfcoddaaGreatDoor.fwd w' b)=true:=by
 unfold jB at hm ⊢
 obtain ⟨p,hp,A⟩:=List.any_eq_true.1 hm
 exact List.any_eq_true.2 ⟨_,h.fwd hb hp ⟨0,I,p,by simp [fY],A⟩,h.may _ A⟩
theorem yr.pass (h:yr w w' n f) {b:Nat} (hb:b<w.n) {s t:Int} (hp:wL w b s t):wL w' b (f s) (t+n):=by
 obtain ⟨p,hp,o,ho,rfl,⟨D,G⟩,hv⟩:=hp
 have hs:=yE h.low b p hp
 have hl:=h.low b
 have A:sx w (b+1) (dy p.1 (fr o.1),max (p.2+bU w b) o.2.Lo):=wF hv D
 have e:kT w b p o=some (dy p.1 (fr o.1),max (p.2+bU w b) o.2.Lo):=gP.2 ⟨I,rfl⟩
 have B:sx w b p:=uW (k:=1) (ig.2 ⟨o,ho,_,e,by simp [fY]⟩) A
 obtain ⟨o',ho',C,E⟩:=h.opt b p o hb hs (Bs hp) ho I A
 have c:=(E t I I).1 I
 refine ⟨Jp n p,h.fwd I hp B,o',ho',C,?_,?_⟩
 ·simp only [Jp,h.least,h.now]; omega
 ·have F:=h.Rq (b:=b+1) (p:=(dy p.1 (fr o.1),t)) (by simp only; omega) ⟨_,fU.2 ⟨p,hp,o,ho,e⟩,D⟩ hv
  rw [C,h.one]; exact F
theorem JN (h:yr w w' n f) (h':yr w' w (-n) g):jP w'=jP w:=by
 unfold jP
 rw [h.wn]
 unfold ku
 congr 1
 refine List.filter_congr fun b hb=>?_
 have hb:=List.mem_range.1 hb
 rw [Bool.eq_iff_iff]
 exact ⟨h'.any (by rw [h.wn]; omega),h.any I⟩
theorem B2 (h:yr w w' n f) (hl': ∀ b,0≤bU w' b) {b:Nat} (hb:b<w.n) {s:Int} (hq: ∃ q∈mD w b,q.1=s): ∃ q∈mD w' b,q.1=f s:=by
 obtain ⟨q,hq,e⟩:=hq
 have A:q.2.Lo≤q.2.Hi:=nc hq
 obtain ⟨q',hq',e',_⟩:=(Ar hl' (by rw [h.wn]; exact hb)).2 (h.pass hb ((Ar h.low hb).1 ⟨q,hq,e,Int.le_refl _,A⟩))
 exact ⟨q',hq',e'⟩
theorem Ie (h:yr w w' n f) (h':yr w' w (-n) g) {b:Nat} (hb:b<w.n):vZ w' b=vZ w b:=by
 rw [Bool.eq_iff_iff]
 unfold vZ
 simp only [List.any_eq_true,decide_eq_true_eq]
 constructor
 ·rintro ⟨q,hq,A⟩
  obtain ⟨q',hq',e⟩:=B2 h' h.low (by rw [h.wn]; exact hb) ⟨q,hq,rfl⟩
  exact ⟨q',hq',by rw [e]; exact (h'.VV _).2 A⟩
 ·rintro ⟨q,hq,A⟩
  obtain ⟨q',hq',e⟩:=B2 h h'.low hb ⟨q,hq,rfl⟩
  exact ⟨q',hq',by rw [e]; exact (h.VV _).2 A⟩
end
section
variable {l l':aZ} {r r':cJ} {n:Int} {f g:Int→Int}
structure vC (l:aZ) (r:cJ) (l':aZ) (r':cJ) (n:Int) (f g:Int→Int):Prop where
 line:dC l=0
 line':dC l'=0
 yz:fm l r
 ride':fm l' r'
 Pt:l'.ae.length=l.ae.length
 to:yr (cu l r) (cu l' r') n f
 V5:yr (cu l' r') (cu l r) (-n) g
theorem vC.Hb (h:vC l r l' r' n f g):jP (cu l' r')=jP (cu l r):=JN h.to h.V5
theorem vC.e (h:vC l r l' r' n f g) {me:Int}:eJ l' r' me=eJ l r me:=by
 by_cases hm:me=0
 ·by_cases q:jP (cu l r)=[]
  ·rw [pI h.line h.yz hm q,pI h.line' h.ride' hm (h.Hb.trans q)]
  ·rw [l7 h.line h.yz hm q,l7 h.line' h.ride' hm (by rw [h.Hb]; exact q)]
 ·rw [qn h.line h.yz hm,qn h.line' h.ride' hm]
theorem vC.As (h:vC l r l' r' n f g):lv l' r'=lv l r:=by
 by_cases q:eJ l r 0=0
 ·rw [lY q,lY (h.e.trans q),h.Hb]
 ·rw [uJ q,uJ (by rw [h.e]; exact q)]
theorem vC.vK (h:vC l r l' r' n f g) {b:Int}:jO l' b=jO l b:=by unfold jO; rw [h.Pt]
theorem vC.bn (h:vC l r l' r' n f g):(cu l r).n=l.ae.length:=eC
theorem vC.eX (h:vC l r l' r' n f g):wb l' r'=wb l r:=by
 by_cases q:eJ l r 0=0
 ·rw [xO q,xO (h.e.trans q),h.As]
  have hb:=TD q
  unfold Ap
  congr 1
  refine List.filter_congr fun b A=>?_
  have A:=List.mem_range.1 A
  rw [Ie h.to h.V5 (by rw [h.bn]; omega)]
 ·rw [xz q,xz (by rw [h.e]; exact q)]
end
end
section
theorem Ts (a b:Int) (ha:0≤a) (hb:0<b):0≤a % b∧a % b<b:=⟨Int.emod_nonneg _ (Int.ne_of_gt hb),Int.emod_lt_of_pos _ hb⟩
theorem nk {l:aZ} (ht:c_ l.aM=true) (h:lz l) {i:Nat} (hi:i<l.ae.length):1≤ej l i∧ej l i≤500000000:=by
 have A:=h.Ry i hi
 have B:=FF ht h.vK i
 have hf:=h.head.1
 unfold ej pk
 refine ⟨(Int.le_ediv_iff_mul_le I).2 I,?_⟩
 have:(1000*mg l i+l.gH-1)/l.gH≤1000*mg l i+l.gH-1:=Int.ediv_le_self _ I
 omega
end
section
def de (good:List Int):aD:=good.foldl (fun t g=>dy t (fr g)) ⟨0,0⟩
theorem kf {l:List Int} {g:Int}:de (l++[g])=dy (de l) (fr g):=by unfold de; rw [List.foldl_append]; rfl
def s_ (r:cJ) (times:List Int) (b:Nat):Int:=if b=0 then r.Start else (times[b-1]?).getD 0
theorem pC {r:cJ} {times:List Int} {b:Nat} {t:Int} (h:times[b]? =some t):s_ r times (b+1)=t:=by unfold s_; rw [if_neg I,Nat.add_sub_cancel,h]; rfl
structure iJ (l:aZ) (r:cJ) (times good:List Int):Prop where
 yz:fm l r
 len:good.length=times.length
 le:times.length≤l.ae.length
 step: ∀ (b:Nat) t,times[b]? =some t→s_ r times b+ej l b≤t∧t≤r.gk
 sig: ∀ (b:Nat) t g,times[b]? =some t→good[b]? =some g→g= -1∨ ∃ (k:Nat) (s:aK),g=(k:Int)∧r.ah[k]? =some s∧s.gu=(b:Int)∧(cN l s).Lo≤t∧t≤(cN l s).Hi
 JQ:(de good).eX≤l.cO
 Sh:(r.ah.length:Int)-(de good).right≤l.eh
section
variable {l:aZ} {r:cJ} {times good:List Int}
theorem iJ.low (h:iJ l r times good) (hl:dC l=0): ∀ b,0≤bU (cu l r) b:=fun b=>by
 obtain ⟨ht,A⟩:=gR hl
 exact ((pc ht A h.yz).bU b).1
theorem iJ.least (h:iJ l r times good) {b:Nat} (hb:b<times.length):bU (cu l r) b=ej l b:=by
 have:=h.le
 rw [zn,if_pos I]
theorem iJ.from_ (h:iJ l r times good) (hl:dC l=0): ∀ b:Nat,b≤times.length→r.Start≤s_ r times b∧s_ r times b≤r.gk:=by
 intro b
 induction b with
 |zero=>intro _; have:=h.yz.time; unfold s_; rw [if_pos rfl]; omega
 |succ b ih=>
  intro hb
  have ht:times[b]? =some (times[b]'I):=eM _
  have B:=ih I
  have C:=h.step b _ ht
  have A:=h.low hl b
  rw [h.least I] at A
  rw [pC ht]
  omega
/-- what comes next, in the truth -/
theorem iJ.opt (h:iJ l r times good) (hl:dC l=0) {b:Nat} {t g:Int} (ht:times[b]? =some t) (hg:good[b]? =some g): ∃ o∈iF (cu l r) b,o.1=g∧o.2.Lo≤t∧t≤o.2.Hi:=by
 have hb:=(aS.1 ht).1
 have E:=h.le
 have F:=h.step b t ht
 have G:=h.from_ hl b I
 have B:=h.low hl b
 rw [h.least hb] at B
 rcases h.sig b t g ht hg with rfl|⟨k,s,rfl,hs,A,C,D⟩
 ·exact ⟨(-1,⟨r.Start,r.gk⟩),(qt I).2 (.inl U),U,by simp only; omega,by simp only; omega⟩
 ·exact ⟨((k:Int),cN l s),(qt I).2 (.inr ⟨k,(aS.1 hs).1,s,hs,⟨A,I⟩,U⟩),U,C,D⟩
theorem lU {α:Type} {l:List α} {b:Nat} {x:α} (h:l[b]? =some x):l.take (b+1)=l.take b++[x]:=by rw [List.take_add_one,h]; rfl
theorem iJ.live (h:iJ l r times good) (hl:dC l=0): ∀ b:Nat,b≤times.length→Du (cu l r) b (de (good.take b),s_ r times b):=by
 intro b
 induction b with
 |zero=>intro _; exact ⟨r.Start,by simp [fwd,de]; rfl,by unfold s_; rw [if_pos rfl]; exact Int.le_refl _⟩
 |succ b ih=>
  intro hb
  have B:=h.len
  have ht:times[b]? =some (times[b]'I):=eM _
  have hg:good[b]? =some (good[b]'I):=eM _
  obtain ⟨v,hv,A⟩:=ih I
  obtain ⟨o,ho,e,C,D⟩:=h.opt hl ht hg
  have E:=h.step b _ ht
  have F:=h.least (b:=b) I
  simp only at A hv
  rw [pC ht,lU hg,kf,← e]
  refine ⟨max (v+bU (cu l r) b) o.2.Lo,fU.2 ⟨_,hv,o,ho,gP.2 ⟨?_,U⟩⟩,?_⟩
  ·have G:(cu l r).gk=r.gk:=rfl
   simp only; omega
  ·simp only; omega
theorem iJ.Rq (h:iJ l r times good) (hl:dC l=0): ∀ (d b:Nat),b+d=times.length→sx (cu l r) b (de (good.take b),s_ r times b):=by
 intro d
 induction d with
 |zero=>
  intro b hb
  have hn:(cu l r).n=l.ae.length:=eC
  have C:=h.len
  have D:=h.le
  refine ⟨0,I,_,by simp [fY]; rfl,?_⟩
  rw [List.take_of_length_le I]
  unfold kG
  have A:=h.JQ
  have B:=h.Sh
  exact fR ⟨A,B⟩
 |succ d ih=>
  intro b hb
  have C:=h.len
  have ht:times[b]? =some (times[b]'I):=eM _
  have hg:good[b]? =some (good[b]'I):=eM _
  obtain ⟨o,ho,e,D,A⟩:=h.opt hl ht hg
  have B:=h.step b _ ht
  have E:=h.least (b:=b) I
  have F:(cu l r).gk=r.gk:=rfl
  have hv:=ih (b+1) I
  rw [pC ht,lU hg,kf,← e] at hv
  exact uW (k:=1) (ig.2 ⟨o,ho,_,gP.2 ⟨by first|omega|(simp only; omega),U⟩,by simp [fY]; rfl⟩) (wF hv (by first|omega|(simp only; omega)))
theorem iJ.pass (h:iJ l r times good) (hl:dC l=0) {b:Nat} {t g:Int} (ht:times[b]? =some t) (hg:good[b]? =some g):wL (cu l r) b g t:=by
 have hb:=(aS.1 ht).1
 obtain ⟨v,hv,A⟩:=h.live hl b I
 obtain ⟨o,ho,e,B,C⟩:=h.opt hl ht hg
 have D:=h.step b _ ht
 have E:=h.least (b:=b) hb
 have F:(cu l r).gk=r.gk:=rfl
 have hw:=h.Rq hl (times.length-(b+1)) (b+1) I
 rw [pC ht,lU hg,kf,← e] at hw
 simp only at A
 exact ⟨_,hv,o,ho,e,⟨by simp only; omega,I⟩,hw⟩
theorem iJ.num (h:iJ l r times good) (hl:dC l=0):(times.length:Int)∈jP (cu l r):=by
 obtain ⟨v,hv,_⟩:=h.live hl times.length (Nat.le_refl _)
 have hn:(cu l r).n=l.ae.length:=eC
 have B:=h.le
 refine o0.2 ⟨times.length,U,I,?_⟩
 unfold jB
 refine List.any_eq_true.2 ⟨_,hv,?_⟩
 have A:=h.len
 rw [List.take_of_length_le I]
 unfold kG
 exact fR ⟨h.JQ,h.Sh⟩
theorem iJ.e (h:iJ l r times good) (hl:dC l=0):eJ l r 0=0:=l7 hl h.yz rfl fun e=>by have:=h.num hl; rw [e] at this; cases this
theorem iJ.As (h:iJ l r times good) (hl:dC l=0):(times.length:Int)∈lv l r:=by rw [lY (h.e hl)]; exact h.num hl
theorem iJ.clear (h:iJ l r times good) (hl:dC l=0):(Eo l r=2→l.cr<(times.length:Int))∧(Eo l r=0→(times.length:Int)≤l.cr):=by
 have hm:=h.As hl
 have A:=(GL (uZ (h.e hl))).2 _ hm
 have B:=(O6 (uZ (h.e hl))).2 _ hm
 unfold Eo
 rw [if_pos (h.e hl)]
 constructor
 ·intro q
  split at q
  ·omega
  ·split at q<;>omega
 ·intro q
  split at q
  ·omega
  ·split at q<;>omega
end
end
section
def gK (hi:Int→Int) (least:Nat→Int) (now:Int):Nat→List Int→List Int×Int
 |_,[]=>([],now)
 |b,x::xs=>((if 0≤x then min (gK hi least now (b+1) xs).2 (hi x) else (gK hi least now (b+1) xs).2)::(gK hi least now (b+1) xs).1,(if 0≤x then min (gK hi least now (b+1) xs).2 (hi x) else (gK hi least now (b+1) xs).2)-least b)
def gf (t:Int):List Int→Int
 |[]=>t
 |x::xs=>gf x xs
def j7 (w:bR):Nat→Int→List Int→List Int→Prop
 |_,_,[],[]=>True
 |b,t,x::rs,y::fs=>(∃ o∈iF w b,o.1=x∧max (t+bU w b) o.2.Lo≤min o.2.Hi w.gk∧y=max (t+bU w b) o.2.Lo)∧j7 w (b+1) y rs fs
 |_,_,_,_=>False
section
variable {w:bR} {hi:Int→Int} {least:Nat→Int} {now:Int}
theorem rv: ∀ (b:Nat) (rs:List Int),(gK hi least now b rs).1.length=rs.length
 |_,[]=>rfl
 |b,x::xs=>by simp only [gK,List.length_cons]; rw [rv]
theorem nt: ∀ (t:Int) (fs:List Int) (y:Int),gf t (fs++[y])=y
 |_,[],_=>rfl
 |t,x::fs,y=>nt x fs y
theorem BP: ∀ (t:Int) (fs:List Int) (y:Int),fs[fs.length-1]? =some y→gf t fs=y
 |t,[],y,h=>by simp at h
 |t,[x],y,h=>by simpa [gf] using h
 |t,x::x2::fs,y,h=>by
  show gf x (x2::fs)=y
  exact BP x (x2::fs) y (by simpa using h)
theorem sV: ∀ (b:Nat) (rs:List Int) (x:Int) (ss:List Int),(gK hi least now b (rs++x::ss)).1[rs.length]? =some (if 0≤x then min (gK hi least now (b+rs.length+1) ss).2 (hi x) else (gK hi least now (b+rs.length+1) ss).2)
 |b,[],x,ss=>by simp [gK]
 |b,z::rs,x,ss=>by
  have:=sV (b+1) rs x ss
  simp only [List.cons_append,gK,List.length_cons,List.getElem?_cons_succ]
  rw [this,show b+1+rs.length+1=b+(rs.length+1)+1 by omega]
theorem kj: ∀ (b:Nat) (t:Int) (rs fs:List Int),j7 w b t rs fs→fs.length=rs.length
 |_,_,[],[],_=>rfl
 |b,t,x::rs,y::fs,h=>by simp [kj _ _ rs fs h.2]
 |_,_,[],_::_,h=>h.elim
 |_,_,_::_,[],h=>h.elim
theorem rp: ∀ (b:Nat) (t:Int) (rs fs ss gs:List Int),fs.length=rs.length→(j7 w b t (rs++ss) (fs++gs)↔j7 w b t rs fs∧j7 w (b+rs.length) (gf t fs) ss gs)
 |b,t,[],[],ss,gs,_=>by simp [j7,gf]
 |b,t,x::rs,y::fs,ss,gs,h=>by
  have ih:=rp (b+1) y rs fs ss gs (by simpa using h)
  simp only [List.cons_append,j7,List.length_cons,gf]
  rw [ih,show b+1+rs.length=b+(rs.length+1) by omega,and_assoc]
 |_,_,[],_::_,_,_,h=>by simp at h
 |_,_,_::_,[],_,_,h=>by simp at h
theorem DS (b:List Int): ∀ t:aD,b.foldl (fun t g=>dy t (fr g)) t=dy t (de b):=by
 induction b with
 |nil=>intro t; exact (ny t).symm
 |cons x b ih=>
  intro t
  show b.foldl (fun t g=>dy t (fr g)) (dy t (fr x))=dy t (b.foldl (fun t g=>dy t (fr g)) (dy ⟨0,0⟩ (fr x)))
  rw [ih,ih]; simp only [dy,aD.mk.injEq]; omega
theorem ry (a b:List Int):de (a++b)=dy (de a) (de b):=by
 show (a++b).foldl _ _=_
 rw [List.foldl_append,DS]; rfl
theorem rm:de []=(⟨0,0⟩:aD):=rfl
theorem pT (l:List Int):dy (⟨0,0⟩:aD) (de l)=de l:=by simp [dy]
theorem sG (x:Int) (l:List Int):de (x::l)=dy (fr x) (de l):=by
 rw [show x::l=[x]++l from rfl,ry,show de [x]=fr x from (kf (l:=[])).trans (by rw [rm]; simp [dy])]
theorem tG: ∀ l:List Int,0≤(de l).right∧0≤(de l).eX∧(de l).right+(de l).eX=(l.length:Int)
 |[]=>by rw [rm]; simp
 |x::l=>by
  rw [sG]
  have:=uN x
  have:=tG l
  simp only [dy,List.length_cons]
  omega
/-- chains are what the watch goes through -/
theorem ke: ∀ (k b:Nat) (p q:aD×Int),q∈fY w k b p↔ ∃ rs fs,rs.length=k∧j7 w b p.2 rs fs∧q=(dy p.1 (de rs),gf p.2 fs):=by
 intro k
 induction k with
 |zero=>
  intro b p q
  simp only [fY,bJ]
  constructor
  ·rintro rfl; exact ⟨[],[],rfl,trivial,by rw [rm,ny]; rfl⟩
  ·rintro ⟨rs,fs,A,B,rfl⟩
   have A:=jR A
   subst A
   have:=jR (kj _ _ _ _ B)
   subst this
   rw [rm,ny]; rfl
 |succ k ih=>
  intro b p q
  rw [ig]
  constructor
  ·rintro ⟨o,ho,p',e,h⟩
   obtain ⟨A,rfl⟩:=gP.1 e
   obtain ⟨rs,fs,B,C,rfl⟩:=(ih _ _ _).1 h
   refine ⟨o.1::rs,max (p.2+bU w b) o.2.Lo::fs,by simp [B],⟨⟨o,ho,U,A,U⟩,C⟩,?_⟩
   rw [sG]
   simp only [gf,dy,Prod.mk.injEq,aD.mk.injEq,and_true]; omega
  ·rintro ⟨rs,fs,A,B,rfl⟩
   cases rs with
   |nil=>simp at A
   |cons x rs=>
    cases fs with
    |nil=>exact B.elim
    |cons y fs=>
     obtain ⟨⟨o,ho,rfl,C,rfl⟩,D⟩:=B
     refine ⟨o,ho,_,gP.2 ⟨C,U⟩,(ih _ _ _).2 ⟨rs,fs,by simpa using A,D,?_⟩⟩
     rw [sG]
     simp only [gf,dy,Prod.mk.injEq,aD.mk.injEq,and_true]; omega
/-- what the reference's rows of last times know -/
structure LG (w:bR) (hi:Int→Int) (least:Nat→Int) (now:Int):Prop where
 low: ∀ b,0≤bU w b
 least: ∀ b,b<w.n→least b=bU w b
 now:now=w.gk
 hi: ∀ b o,b<w.n→o∈iF w b→0≤o.1→o.2.Hi=hi o.1
 none_: ∀ b o,b<w.n→o∈iF w b→ ¬ 0≤o.1→o.2.Hi=w.gk
theorem wv (h:LG w hi least now): ∀ (b:Nat) (rs:List Int),b+rs.length≤w.n→(gK hi least now b rs).2≤w.gk
 |_,[],_=>by simp only [gK]; exact Int.le_of_eq h.now
 |b,x::xs,hb=>by
  simp only [List.length_cons] at hb
  have B:=wv h (b+1) xs I
  have A:=h.low b
  rw [← h.least b I] at A
  simp only [gK]
  split<;>omega
theorem rq (h:LG w hi least now): ∀ (b:Nat) (t:Int) (rs fs:List Int),b+rs.length≤w.n→t≤w.gk→j7 w b t rs fs→t≤(gK hi least now b rs).2
 |_,t,[],[],_,ht,_=>by simp only [gK]; rw [h.now]; exact ht
 |b,t,x::rs,y::fs,hb,ht,hc=>by
  simp only [List.length_cons] at hb
  obtain ⟨⟨o,ho,rfl,D,rfl⟩,A⟩:=hc
  have B:=rq h (b+1) _ rs fs I I A
  have C:=h.least b I
  simp only [gK]
  split
  ·rename_i q
   have:=h.hi b o I ho q
   omega
  ·omega
 |_,_,[],_::_,_,_,hc=>hc.elim
 |_,_,_::_,[],_,_,hc=>hc.elim
theorem xA (h:LG w hi least now): ∀ (b:Nat) (t t':Int) (rs fs:List Int),b+rs.length≤w.n→t≤t'→t'≤(gK hi least now b rs).2→j7 w b t rs fs→ ∃ gs,j7 w b t' rs gs
 |_,t,_,[],[],_,_,_,_=>⟨[],trivial⟩
 |b,t,t',x::rs,y::fs,hb,ht,he,hc=>by
  simp only [List.length_cons] at hb
  obtain ⟨⟨o,ho,rfl,E,rfl⟩,A⟩:=hc
  have C:=rq h (b+1) _ rs fs I I A
  have D:=h.least b I
  have F:=wv h (b+1) rs I
  simp only [gK] at he
  have B:max (t'+bU w b) o.2.Lo≤min o.2.Hi w.gk∧max (t'+bU w b) o.2.Lo≤(gK hi least now (b+1) rs).2:=by
   split at he
   ·rename_i q
    have:=h.hi b o I ho q
    omega
   ·rename_i q
    have:=h.none_ b o I ho q
    omega
  obtain ⟨gs,hg⟩:=xA h (b+1) _ (max (t'+bU w b) o.2.Lo) rs fs I I B.2 A
  exact ⟨_::gs,⟨o,ho,U,B.1,U⟩,hg⟩
 |_,_,_,[],_::_,_,_,_,hc=>hc.elim
 |_,_,_,_::_,[],_,_,_,hc=>hc.elim
theorem Bu (b:Nat) (t t':Int) (rs fs:List Int) (ht:t'≤t) (hc:j7 w b t rs fs): ∃ gs,j7 w b t' rs gs:=by
 have A:(dy ⟨0,0⟩ (de rs),gf t fs)∈fY w rs.length b (⟨0,0⟩,t):=(ke _ _ _ _).2 ⟨rs,fs,rfl,hc,rfl⟩
 clear A
 induction rs generalizing b t t' fs with
 |nil=>exact ⟨[],trivial⟩
 |cons x rs ih=>
  cases fs with
  |nil=>exact hc.elim
  |cons y fs=>
   obtain ⟨⟨o,ho,rfl,C,rfl⟩,B⟩:=hc
   obtain ⟨gs,hg⟩:=ih (b+1) _ (max (t'+bU w b) o.2.Lo) fs I B
   exact ⟨_::gs,⟨o,ho,U,I,U⟩,hg⟩
/-- a way, as it is asked for -/
structure PC (w:bR) (hi:Int→Int) (least:Nat→Int) (now:Int) (y:dj):Prop where
 chain:j7 w 0 w.Start y.gD y.iO
 len:y.gD.length≤w.n
 last:y.lM=(gK hi least now 0 y.gD).1
 may:kG w (de y.gD)=true
theorem BA {k:Nat}:jB w (fwd w k)=true↔ ∃ rs fs,rs.length=k∧j7 w 0 w.Start rs fs∧kG w (de rs)=true:=by
 unfold jB
 rw [List.any_eq_true]
 have e:=fun q=>(rf (w:=w) k 0 q)
 rw [Nat.zero_add] at e
 constructor
 ·rintro ⟨q,hq,hm⟩
  obtain ⟨p,hp,h⟩:=(e q).1 hq
  simp only [fwd,bJ] at hp
  subst hp
  obtain ⟨rs,fs,A,B,rfl⟩:=(ke _ _ _ _).1 h
  refine ⟨rs,fs,A,B,?_⟩
  rwa [pT] at hm
 ·rintro ⟨rs,fs,A,B,C⟩
  refine ⟨_,(e _).2 ⟨((⟨0,0⟩:aD),w.Start),bJ.2 U,(ke _ _ _ _).2 ⟨rs,fs,A,B,U⟩⟩,?_⟩
  simp only [pT]; exact C
theorem Mz (h:LG w hi least now) (hs:w.Start≤w.gk) {b:Nat} (hb:b<w.n) {s t:Int}:wL w b s t↔ ∃ y,PC w hi least now y∧ ∃ f e,y.gD[b]? =some s∧y.iO[b]? =some f∧y.lM[b]? =some e∧f≤t∧t≤e:=by
 have ef:=fun q=>(rf (w:=w) b 0 q)
 rw [Nat.zero_add] at ef
 constructor
 ·rintro ⟨p,hp,o,ho,rfl,⟨C,L⟩,k,hk,q,hq,hm⟩
  obtain ⟨Y,AB,hp⟩:=(ef p).1 hp
  simp only [fwd,bJ] at AB
  subst AB
  obtain ⟨rs,fs,K,D,rfl⟩:=(ke _ _ _ _).1 hp
  obtain ⟨ss,gs,AA,E,rfl⟩:=(ke _ _ _ _).1 hq
  simp only at C L D E hm
  obtain ⟨gs',J⟩:=Bu (b+1) t (max (gf w.Start fs+bU w b) o.2.Lo) ss gs C E
  have H:=kj _ _ _ _ D
  have T:=kj _ _ _ _ J
  have hc:j7 w 0 w.Start (rs++o.1::ss) (fs++max (gf w.Start fs+bU w b) o.2.Lo::gs'):=(rp _ _ _ _ _ _ H).2 ⟨D,by rw [Nat.zero_add,K]; exact ⟨⟨o,ho,rfl,I,rfl⟩,J⟩⟩
  have he:=rq h (b+1) t ss gs I I E
  have A:=sV (hi:=hi) (least:=least) (now:=now) 0 rs o.1 ss
  rw [Nat.zero_add,K] at A
  refine ⟨⟨rs++o.1::ss,fs++max (gf w.Start fs+bU w b) o.2.Lo::gs',(gK hi least now 0 (rs++o.1::ss)).1⟩,⟨hc,by simp; omega,U,?_⟩,max (gf w.Start fs+bU w b) o.2.Lo,_,?_,?_,A,C,?_⟩
  ·show kG w (de (rs++o.1::ss))=true
   rw [show rs++o.1::ss=(rs++[o.1])++ss by simp,ry,kf]
   rwa [pT] at hm
  ·show (rs++o.1::ss)[b]? =some o.1
   rw [List.getElem?_append_right I,K,Nat.sub_self]; rfl
  ·show (fs++_::gs')[b]? =_
   rw [List.getElem?_append_right I,H,K,Nat.sub_self]; rfl
  ·split
   ·rename_i q
    have:=h.hi b o hb ho q
    omega
   ·exact he
 ·rintro ⟨y,hy,f,e,C,L,P,Q,V⟩
  obtain ⟨R,F,La⟩:=y
  obtain ⟨hc,hn,A,hm⟩:=hy
  simp only at C L P hc hn A hm
  have N:=(aS.1 C).1
  have S:=kj _ _ _ _ hc
  have eR:R=R.take b++s::R.drop (b+1):=by rw [← (aS.1 C).2]; exact (List.take_append_drop b R).symm.trans (by rw [List.drop_eq_getElem_cons N])
  have M:b<F.length:=by omega
  have eF:F=F.take b++f::F.drop (b+1):=by rw [← (aS.1 L).2]; exact (List.take_append_drop b F).symm.trans (by rw [List.drop_eq_getElem_cons M])
  rw [eR,eF,rp _ _ _ _ _ _ (by simp only [List.length_take]; omega)] at hc
  have O:(R.take b).length=b:=by rw [List.length_take]; omega
  rw [O,Nat.zero_add] at hc
  obtain ⟨D,⟨o,ho,rfl,W,rfl⟩,E⟩:=hc
  have B:=sV (hi:=hi) (least:=least) (now:=now) 0 (R.take b) o.1 (R.drop (b+1))
  rw [← eR,O,Nat.zero_add,← A,P] at B
  have B:=Option.some.inj B
  have G:t≤(gK hi least now (b+1) (R.drop (b+1))).2∧t≤min o.2.Hi w.gk:=by
   have X:=wv h (b+1) (R.drop (b+1)) (by rw [List.length_drop]; omega)
   split at B
   ·rename_i q
    have:=h.hi b o hb ho q
    omega
   ·rename_i q
    have:=h.none_ b o hb ho q
    omega
  obtain ⟨gs,J⟩:=xA h (b+1) _ t (R.drop (b+1)) (F.drop (b+1)) (by rw [List.length_drop]; omega) Q G.1 E
  refine ⟨(dy ⟨0,0⟩ (de (R.take b)),gf w.Start (F.take b)),(ef _).2 ⟨((⟨0,0⟩:aD),w.Start),bJ.2 U,(ke _ _ _ _).2 ⟨_,_,O,D,U⟩⟩,o,ho,U,⟨Q,G.2⟩,(R.drop (b+1)).length,by rw [List.length_drop]; omega,_,(ke _ _ _ _).2 ⟨_,gs,U,J,U⟩,?_⟩
  show kG w (dy (dy (dy ⟨0,0⟩ (de (R.take b))) (fr o.1)) (de (R.drop (b+1))))=true
  rw [pT,← kf,← ry,show R.take b++[o.1]++R.drop (b+1)=R from by rw [List.append_assoc]; exact eR.symm]
  exact hm
end
noncomputable def MS (l:aZ) (r:cJ) (x:Int):Int:=match r.ah[x.toNat]? with
 |some s=>(cN l s).Hi
 |none=>0
theorem DM {l:aZ} {r:cJ} {x:Int} {s:aK} (h:r.ah[x.toNat]? =some s):MS l r x=(cN l s).Hi:=by unfold MS; rw [h]
noncomputable def jx (l:aZ) (r:cJ) (rs:List Int):List Int:=(gK (MS l r) (ej l) r.gk 0 rs).1
noncomputable def oZ (l:aZ) (r:cJ) (n:Nat) (t i:Int):Option Int:=
 if i<0 then (if t≤r.gk then some t else none) else match r.ah[i.toNat]? with
  |some s=>if (s.gu=(n:Int)∧(cN l s).Lo≤(cN l s).Hi)∧max t (cN l s).Lo≤min r.gk (cN l s).Hi then some (max t (cN l s).Lo) else none
  |none=>none
noncomputable def gZ (l:aZ) (r:cJ) (rs fs:List Int):List dj:=if (r.ah.length:Int)-(de rs).right≤l.eh then [⟨rs,fs,jx l r rs⟩] else []
noncomputable def ib (l:aZ) (r:cJ):Nat→List Int→List Int→List dj
 |0,rs,fs=>if l.cO<(de rs).eX then [] else gZ l r rs fs
 |k+1,rs,fs=>if l.cO<(de rs).eX then [] else gZ l r rs fs++(List.range (r.ah.length+1)).flatMap fun (j:Nat)=>match oZ l r rs.length (gf r.Start fs+ej l rs.length) ((j:Int)-1) with
  |some t=>ib l r k (rs++[(j:Int)-1]) (fs++[t])
  |none=>[]
noncomputable def DG (l:aZ) (r:cJ) (k:Nat) (rs fs:List Int) (j:Nat):List dj:=gZ l r rs fs++(List.range j).flatMap fun (j:Nat)=>match oZ l r rs.length (gf r.Start fs+ej l rs.length) ((j:Int)-1) with
 |some t=>ib l r k (rs++[(j:Int)-1]) (fs++[t])
 |none=>[]
noncomputable def iv (l:aZ) (r:cJ) (k:Nat) (rs fs:List Int) (j:Nat):List dj:=(List.range j).flatMap fun (j:Nat)=>match oZ l r rs.length (gf r.Start fs+ej l rs.length) ((j:Int)-1) with
 |some t=>ib l r k (rs++[(j:Int)-1]) (fs++[t])
 |none=>[]
section
variable {l:aZ} {r:cJ} {k j:Nat} {rs fs:List Int} {t:Int}
theorem ru:DG l r k rs fs j=gZ l r rs fs++iv l r k rs fs j:=rfl
theorem nu (h:oZ l r rs.length (gf r.Start fs+ej l rs.length) ((j:Int)-1)=some t):iv l r k rs fs (j+1)=iv l r k rs fs j++ib l r k (rs++[(j:Int)-1]) (fs++[t]):=by
 unfold iv; rw [List.range_succ,List.flatMap_append]; simp [h]
theorem qU (h:oZ l r rs.length (gf r.Start fs+ej l rs.length) ((j:Int)-1)=none):iv l r k rs fs (j+1)=iv l r k rs fs j:=by
 unfold iv; rw [List.range_succ,List.flatMap_append]; simp [h]
theorem nE (h:l.cO<(de rs).eX):ib l r k rs fs=[]:=by cases k<;>exact if_pos h
theorem nI (h: ¬ l.cO<(de rs).eX):ib l r 0 rs fs=gZ l r rs fs:=if_neg h
theorem nR (h: ¬ l.cO<(de rs).eX):ib l r (k+1) rs fs=DG l r k rs fs (r.ah.length+1):=if_neg h
theorem B_ {n:Nat} (hn:n<l.ae.length) (hl:0≤ej l n) (ht:r.Start≤t) {i y:Int} (hi: -1≤i):oZ l r n (t+ej l n) i=some y↔ ∃ o∈iF (cu l r) n,o.1=i∧max (t+bU (cu l r) n) o.2.Lo≤min o.2.Hi (cu l r).gk∧y=max (t+bU (cu l r) n) o.2.Lo:=by
 rw [pB hn]
 have hw:(cu l r).gk=r.gk:=rfl
 unfold oZ
 constructor
 ·intro h
  split at h
  ·rename_i B
   split at h
   ·cases h
    exact ⟨(-1,⟨r.Start,r.gk⟩),(qt hn).2 (.inl U),by simp only; omega,by simp only; omega,by simp only; omega⟩
   ·cases h
  ·rename_i B
   split at h
   ·rename_i s hs
    split at h
    ·rename_i q
     cases h
     exact ⟨((i.toNat:Nat),cN l s),(qt hn).2 (.inr ⟨i.toNat,(aS.1 hs).1,s,hs,q.1,U⟩),by simp only; omega,by simp only; omega,U⟩
    ·cases h
   ·cases h
 ·rintro ⟨o,ho,rfl,A,rfl⟩
  rcases (qt hn).1 ho with rfl|⟨k,hk,s,hs,q,rfl⟩
  ·simp only at A ⊢
   rw [if_pos I,if_pos I]
   congr 1; omega
  ·simp only at A ⊢
   rw [if_neg I,Int.toNat_natCast,hs]
   simp only
   rw [if_pos ⟨q,I⟩]
theorem Kt (hl: ∀ n,n<l.ae.length→0≤ej l n): ∀ (k:Nat) (rs fs:List Int) (y:dj),rs.length+k=l.ae.length→fs.length=rs.length→r.Start≤gf r.Start fs→
 (y∈ib l r k rs fs↔ ∃ ss gs,j7 (cu l r) rs.length (gf r.Start fs) ss gs∧ss.length≤k∧y=⟨rs++ss,fs++gs,jx l r (rs++ss)⟩∧kG (cu l r) (de (rs++ss))=true):=by
 have D: ∀ (rs fs:List Int) (y:dj),¬ l.cO<(de rs).eX→(y∈gZ l r rs fs↔y=⟨rs++[],fs++[],jx l r (rs++[])⟩∧kG (cu l r) (de (rs++[]))=true):=by
  intro rs fs y hm
  unfold gZ
  rw [List.append_nil,List.append_nil]
  have e:kG (cu l r) (de rs)=true↔(r.ah.length:Int)-(de rs).right≤l.eh:=by
   unfold kG
   rw [decide_eq_true_eq]
   exact ⟨fun q=>q.2,fun q=>⟨by have:(cu l r).cO=l.cO:=rfl; omega,q⟩⟩
  split
  ·rename_i q
   rw [bJ]
   exact ⟨fun h=>⟨h,e.2 q⟩,fun h=>h.1⟩
  ·rename_i q
   exact ⟨fun h=>(by cases h),fun h=>absurd (e.1 h.2) q⟩
 have JQ: ∀ (rs ss:List Int),l.cO<(de rs).eX→ ¬ kG (cu l r) (de (rs++ss))=true:=by
  intro rs ss h q
  unfold kG at q
  have:=(of_decide_eq_true q).1
  rw [ry] at this
  have C:=tG ss
  simp only [dy] at this
  have:(cu l r).cO=l.cO:=rfl
  omega
 intro k
 induction k with
 |zero=>
  intro rs fs y hn hf hs
  by_cases hm:l.cO<(de rs).eX
  ·rw [nE hm]
   exact ⟨fun h=>(by cases h),fun ⟨ss,gs,_,_,_,q⟩=>absurd q (JQ rs ss hm)⟩
  ·rw [nI hm,D _ _ _ hm]
   constructor
   ·rintro ⟨B,C⟩; exact ⟨[],[],trivial,sm,B,C⟩
   ·rintro ⟨ss,gs,B,C,E,F⟩
    have e:=jR (Nat.le_zero.1 C)
    subst e
    have e:=jR (kj _ _ _ _ B)
    subst e
    exact ⟨E,F⟩
 |succ k ih=>
  intro rs fs y hn hf hs
  by_cases hm:l.cO<(de rs).eX
  ·rw [nE hm]
   exact ⟨fun h=>(by cases h),fun ⟨ss,gs,_,_,_,q⟩=>absurd q (JQ rs ss hm)⟩
  ·rw [nR hm]
   unfold DG
   rw [dJ,D _ _ _ hm,List.mem_flatMap]
   have A: ∀ (x y:Int),(rs++[x]).length+k=l.ae.length∧(fs++[y]).length=(rs++[x]).length:=fun x y=>by simp; omega
   constructor
   ·rintro (⟨B,C⟩|⟨j,hj,h⟩)
    ·exact ⟨[],[],trivial,sm,B,C⟩
    ·cases e:oZ l r rs.length (gf r.Start fs+ej l rs.length) ((j:Int)-1) with
     |none=>rw [e] at h; cases h
     |some t=>
      rw [e] at h
      simp only at h
      obtain ⟨o,ho,B,C,E⟩:=(B_ I (hl _ I) hs I).1 e
      have G:r.Start≤t:=by
       have:=hl rs.length I
       rw [pB I] at E
       omega
      obtain ⟨ss,gs,F,J,H,AA⟩:=(ih _ _ y (A _ t).1 (A _ t).2 (by rw [nt]; exact G)).1 h
      rw [nt,List.length_append] at F
      refine ⟨((j:Int)-1)::ss,t::gs,⟨⟨o,ho,B,C,E⟩,F⟩,by simp; omega,by simpa using H,by simpa using AA⟩
   ·rintro ⟨ss,gs,B,C,E,F⟩
    cases ss with
    |nil=>
     have e:=jR (kj _ _ _ _ B)
     subst e
     exact .inl ⟨E,F⟩
    |cons x ss=>
     cases gs with
     |nil=>exact B.elim
     |cons t gs=>
      obtain ⟨⟨o,ho,rfl,J,H⟩,AA⟩:=B
      right
      have hx: -1≤o.1∧o.1<(r.ah.length:Int):=by
       rcases (qt I).1 ho with rfl|⟨k,hk,s,hs,q,rfl⟩
       ·simp only; omega
       ·simp only; omega
      have G:r.Start≤t:=by
       have:=hl rs.length I
       rw [pB I] at H
       omega
      have K:((o.1+1).toNat:Int)-1=o.1:=by omega
      refine ⟨(o.1+1).toNat,List.mem_range.2 I,?_⟩
      rw [K,(B_ I (hl _ I) hs I).2 ⟨o,ho,rfl,J,H⟩]
      simp only
      refine (ih _ _ y (A _ t).1 (A _ t).2 (by rw [nt]; exact G)).2 ⟨ss,gs,?_,?_,?_,?_⟩
      ·rw [nt,List.length_append]; exact AA
      ·simp only [List.length_cons] at C; omega
      ·simpa using E
      ·simpa using F
end
theorem zq {l:aZ} {r:cJ} {rs fs:List Int} (h:(r.ah.length:Int)-(de rs).right≤l.eh):gZ l r rs fs=[⟨rs,fs,jx l r rs⟩]:=if_pos h
theorem xu {l:aZ} {r:cJ} {rs fs:List Int} (h: ¬ (r.ah.length:Int)-(de rs).right≤l.eh):gZ l r rs fs=[]:=if_neg h
noncomputable def eY (l:aZ) (r:cJ) (i:Nat):List aa:=(r.ah.take i).map (cN l)
noncomputable def fq (l:aZ) (r:cJ) (i:Nat):List Bool:=(r.ah.take i).map fun s=>decide ((cN l s).Lo≤(cN l s).Hi)
section
variable {l:aZ} {r:cJ} {i n:Nat} {s:aK} {rs:List Int}
theorem Es (h:r.ah[i]? =some s):eY l r (i+1)=eY l r i++[cN l s]:=by unfold eY; rw [List.take_add_one,h,List.map_append]; rfl
theorem E4 (h:r.ah[i]? =some s):fq l r (i+1)=fq l r i++[decide ((cN l s).Lo≤(cN l s).Hi)]:=by unfold fq; rw [List.take_add_one,h,List.map_append]; rfl
theorem rE (h:i≤r.ah.length):(eY l r i).length=i:=by unfold eY; rw [List.length_map,List.length_take]; omega
theorem uV (h:i≤r.ah.length):(fq l r i).length=i:=by unfold fq; rw [List.length_map,List.length_take]; omega
theorem Lb {k:Nat} {z:aa} (hs:r.ah[k]? =some s) (hz:(eY l r r.ah.length)[k]? =some z):z=cN l s:=by
 unfold eY at hz
 rw [List.take_length,fH,hs] at hz
 exact (Option.some.inj hz).symm
theorem Jd {k:Nat} {z:aa} (hz:(eY l r r.ah.length)[k]? =some z): ∃ s,r.ah[k]? =some s∧z=cN l s:=by
 unfold eY at hz
 rw [List.take_length,fH] at hz
 cases h:r.ah[k]? with
 |none=>rw [h] at hz; cases hz
 |some s=>rw [h] at hz; exact ⟨s,rfl,(Option.some.inj hz).symm⟩
theorem CP {k:Nat} {z:Bool} (hs:r.ah[k]? =some s) (hz:(fq l r r.ah.length)[k]? =some z):z=true↔(cN l s).Lo≤(cN l s).Hi:=by
 unfold fq at hz
 rw [List.take_length,fH,hs] at hz
 rw [← Option.some.inj hz]
 exact decide_eq_true_iff
theorem xI (l:aZ) (s:aK):(0≤(cN l s).Lo∧(cN l s).Lo≤86400001)∧ -1≤(cN l s).Hi∧(cN l s).Hi≤86400000:=by
 have A:=ik (p:=gl (pY l s) s.Read) (n:=86400001)
 have B:=ik (p:=gn (pY l s) s.Read) (n:=86400001)
 unfold cN qC
 simp only
 omega
/-- the last times from a beam on -/
noncomputable def jN (l:aZ) (r:cJ) (rs:List Int) (j:Nat):List Int×Int:=gK (MS l r) (ej l) r.gk j (rs.drop j)
noncomputable def jQ (l:aZ) (r:cJ) (rs:List Int) (j:Nat):List Int:=List.replicate j 0++(jN l r rs j).1
noncomputable def tm (l:aZ) (r:cJ) (rs:List Int) (j:Nat) (x:Int):Int:=if 0≤x then min (jN l r rs j).2 (MS l r x) else (jN l r rs j).2
theorem u6:jN l r rs rs.length=([],r.gk):=by unfold jN; rw [List.drop_length]; rfl
theorem GS:jQ l r rs rs.length=List.replicate rs.length 0:=by unfold jQ; rw [u6]; simp
theorem DZ:jQ l r rs 0=jx l r rs:=by unfold jQ jN jx; simp
theorem pR {j:Nat} {x:Int} (hj:0<j) (hx:rs[j-1]? =some x):jN l r rs (j-1)=(tm l r rs j x::(jN l r rs j).1,tm l r rs j x-ej l (j-1)):=by
 unfold jN tm
 have hb:=(aS.1 hx).1
 rw [List.drop_eq_getElem_cons hb,(aS.1 hx).2,show j-1+1=j by omega]
 simp only [gK]
 rw [show j-1+1=j by omega]
 rfl
theorem GW {j:Nat} (h:j≤rs.length):(jQ l r rs j).length=rs.length:=by unfold jQ jN; rw [List.length_append,List.length_replicate,rv,List.length_drop]; omega
theorem zJ {j:Nat} {x:Int} (hj:0<j) (hx:rs[j-1]? =some x):(jQ l r rs j).set (j-1) (tm l r rs j x)=jQ l r rs (j-1):=by
 unfold jQ
 rw [pR hj hx]
 simp only
 obtain ⟨k,rfl⟩: ∃ k,j=k+1:=⟨j-1,I⟩
 rw [Nat.add_sub_cancel,List.replicate_succ',List.append_assoc,List.set_append_right _ _ sm,List.length_replicate,Nat.sub_self]
 rfl
theorem FY (hr:0≤r.gk∧r.gk≤86400000) (hl: ∀ b,b<rs.length→0≤ej l b∧ej l b≤500000000) (hrs: ∀ x∈rs,0≤x→x<(r.ah.length:Int)): ∀ (d j:Nat),j+d=rs.length→(-1-500000000*(d:Int))≤(jN l r rs j).2∧(jN l r rs j).2≤86400000
 |0,j,h=>by
  obtain rfl:j=rs.length:=by omega
  rw [u6]; simp only; omega
 |d+1,j,h=>by
  have ih:=FY hr hl hrs d (j+1) I
  have hx:rs[j+1-1]? =some (rs[j]'I):=by rw [Nat.add_sub_cancel]; exact eM _
  have e:=pR (l:=l) (r:=r) (j:=j+1) I hx
  rw [Nat.add_sub_cancel] at e
  rw [e]
  simp only
  have A:=hl j I
  unfold tm
  split
  ·rename_i q
   have B:=hrs _ (List.getElem_mem (by omega:j<rs.length)) q
   obtain ⟨s,hs⟩: ∃ s,r.ah[(rs[j]'I).toNat]? =some s:=⟨r.ah[(rs[j]'I).toNat]'I,eM _⟩
   rw [DM hs]
   have C:=xI l s
   omega
  ·omega
theorem Mc {t i:Int} (hi:i<0):(t≤r.gk→oZ l r n t i=some t)∧(¬ t≤r.gk→oZ l r n t i=none):=by
 unfold oZ; rw [if_pos hi]; exact ⟨fun h=>if_pos h,fun h=>if_neg h⟩
theorem J_ {t i:Int} (hi: ¬ i<0) (hs:r.ah[i.toNat]? =some s) (hb:s.gu=(n:Int)) (hw:(cN l s).Lo≤(cN l s).Hi):(max t (cN l s).Lo≤min r.gk (cN l s).Hi→oZ l r n t i=some (max t (cN l s).Lo))∧(¬ max t (cN l s).Lo≤min r.gk (cN l s).Hi→oZ l r n t i=none):=by
 unfold oZ; rw [if_neg hi,hs]
 exact ⟨fun h=>if_pos ⟨⟨hb,hw⟩,h⟩,fun h=>if_neg fun q=>h q.2⟩
theorem yc {t i:Int} (hi: ¬ i<0) (hs:r.ah[i.toNat]? =some s) (hb: ¬ (s.gu=(n:Int)∧(cN l s).Lo≤(cN l s).Hi)):oZ l r n t i=none:=by
 unfold oZ; rw [if_neg hi,hs]
 exact if_neg fun q=>hb q.1
theorem ue {x:Int} (hx:rs[i]? =some x):(de (rs.take (i+1))).right=(de (rs.take i)).right+(if 0≤x then 1 else 0):=by
 rw [lU hx,kf]
 unfold fr
 simp only [dy]
 by_cases h:x<0
 ·rw [if_pos h,if_neg I]
 ·rw [if_neg h,if_pos I]
end
theorem wP {l:aZ} {r:cJ} {rs fs:List Int}:(gZ l r rs fs).length≤1:=by unfold gZ; split<;>simp
theorem x_ {l:aZ} {r:cJ} (hr:r.ah.length≤10): ∀ (k:Nat) (rs fs:List Int),(ib l r k rs fs).length≤12^(k+1)
 |0,rs,fs=>by
  unfold ib
  split
  ·simp
  ·have:=wP (l:=l) (r:=r) (rs:=rs) (fs:=fs); omega
 |k+1,rs,fs=>by
  unfold ib
  split
  ·simp
  ·rw [List.length_append]
   have B:=wP (l:=l) (r:=r) (rs:=rs) (fs:=fs)
   have A: ∀ j,(iv l r k rs fs j).length≤j*12^(k+1):=by
    intro j
    induction j with
    |zero=>simp [iv]
    |succ j ih=>
     cases e:oZ l r rs.length (gf r.Start fs+ej l rs.length) ((j:Int)-1) with
     |none=>rw [qU e,Nat.succ_mul]; exact Nat.le_trans ih (Nat.le_add_right _ _)
     |some t=>rw [nu e,List.length_append,Nat.succ_mul]; exact Nat.add_le_add ih (x_ hr k (rs++[(j:Int)-1]) (fs++[t]))
   have C:=A (r.ah.length+1)
   have D:(r.ah.length+1)*12^(k+1)≤11*12^(k+1):=Nat.mul_le_mul_right _ I
   have E:0<12^(k+1):=Nat.pow_pos dc
   have F:12^(k+1+1)=12*12^(k+1):=by rw [Nat.pow_succ,Nat.mul_comm]
   show (gZ l r rs fs).length+(iv l r k rs fs (r.ah.length+1)).length≤_
   omega
theorem Jr {l:aZ} {r:cJ} (hr:r.ah.length≤10) {k j:Nat} {rs fs:List Int} (hk:k≤5) (hj:j≤11):(iv l r k rs fs j).length≤40000000:=by
 have A: ∀ j,(iv l r k rs fs j).length≤j*12^(k+1):=by
  intro j
  induction j with
  |zero=>simp [iv]
  |succ j ih=>
   cases e:oZ l r rs.length (gf r.Start fs+ej l rs.length) ((j:Int)-1) with
   |none=>rw [qU e,Nat.succ_mul]; exact Nat.le_trans ih (Nat.le_add_right _ _)
   |some t=>rw [nu e,List.length_append,Nat.succ_mul]; exact Nat.add_le_add ih (x_ hr k (rs++[(j:Int)-1]) (fs++[t]))
 have C:=A j
 have B:12^(k+1)≤12^6:=Nat.pow_le_pow_right dc I
 have D:j*12^(k+1)≤11*12^6:=Nat.mul_le_mul hj B
 omega
theorem uT {l:aZ} {r:cJ} (hr:r.ah.length≤10) {k:Nat} {rs fs:List Int} (hk:k≤6):(ib l r k rs fs).length≤40000000:=by
 have A:=x_ hr k rs fs (l:=l)
 have B:12^(k+1)≤12^7:=Nat.pow_le_pow_right dc I
 omega
noncomputable def qg (l:aZ) (r:cJ):List dj:=ib l r l.ae.length [] []
section
variable {l:aZ} {r:cJ}
theorem ml:(cu l r).n=l.ae.length:=eC
theorem Ph (hle:dC l=0) (hr:fm l r):LG (cu l r) (MS l r) (ej l) r.gk:=by
 obtain ⟨ht,B⟩:=gR hle
 refine ⟨fun b=>((pc ht B hr).bU b).1,fun b hb=>(pB (by rw [ml] at hb; exact hb)).symm,U,fun b o hb ho A=>?_,fun b o hb ho A=>?_⟩
 ·rw [ml] at hb
  rcases (qt hb).1 ho with rfl|⟨k,hk,s,hs,q,rfl⟩
  ·simp only at A; omega
  ·exact (DM (by simpa using hs)).symm
 ·rw [ml] at hb
  rcases (qt hb).1 ho with rfl|⟨k,hk,s,hs,q,rfl⟩
  ·rfl
  ·simp only at A; omega
theorem pX (hle:dC l=0) (hr:fm l r) {y:dj}:y∈qg l r↔PC (cu l r) (MS l r) (ej l) r.gk y:=by
 obtain ⟨ht,D⟩:=gR hle
 have hl: ∀ n,n<l.ae.length→0≤ej l n:=fun n hn=>by have:=nk ht D (i:=n) hn; omega
 unfold qg
 rw [Kt hl _ _ _ _ sm rfl (Int.le_refl _)]
 constructor
 ·rintro ⟨ss,gs,B,A,rfl,C⟩
  exact ⟨B,by rw [ml]; exact A,U,C⟩
 ·rintro ⟨B,A,E,C⟩
  rw [ml] at A
  exact ⟨y.gD,y.iO,B,A,by rw [List.nil_append,List.nil_append]; unfold jx; rw [← E],C⟩
theorem KQ (hle:dC l=0) (hr:fm l r) {k:Nat} (hk:k≤l.ae.length):((qg l r).any fun y=>decide (y.gD.length=k))=jB (cu l r) (fwd (cu l r) k):=by
 rw [Bool.eq_iff_iff,BA,List.any_eq_true]
 constructor
 ·rintro ⟨y,hy,e⟩
  have h:=(pX hle hr).1 hy
  exact ⟨y.gD,y.iO,of_decide_eq_true e,h.chain,h.may⟩
 ·rintro ⟨rs,fs,e,A,B⟩
  exact ⟨⟨rs,fs,(gK (MS l r) (ej l) r.gk 0 rs).1⟩,(pX hle hr).2 ⟨A,by rw [ml]; simp only; omega,U,B⟩,fR e⟩
theorem fx (hle:dC l=0) (hr:fm l r):qg l r=[]↔jP (cu l r)=[]:=by
 constructor
 ·intro h
  apply List.eq_nil_iff_forall_not_mem.2
  intro x hx
  obtain ⟨k,rfl,hk,hm⟩:=o0.1 hx
  rw [ml] at hk
  rw [← KQ hle hr hk,h] at hm
  cases hm
 ·intro h
  apply List.eq_nil_iff_forall_not_mem.2
  intro y hy
  have hw:=(pX hle hr).1 hy
  have:(y.gD.length:Int)∈jP (cu l r):=o0.2 ⟨y.gD.length,rfl,hw.len,BA.2 ⟨_,_,rfl,hw.chain,hw.may⟩⟩
  rw [h] at this; cases this
/-- the times at a beam, by all ways -/
def iZ (b:Nat) (ws:List dj):List (Int×aa):=ws.filterMap fun y=>match y.gD[b]?,y.iO[b]?,y.lM[b]? with
 |some s,some f,some e=>some (s,⟨f,e⟩)
 |_,_,_=>none
theorem nW {b:Nat} {ws:List dj} {q:Int×aa}:q∈iZ b ws↔ ∃ y∈ws,y.gD[b]? =some q.1∧y.iO[b]? =some q.2.Lo∧y.lM[b]? =some q.2.Hi:=by
 unfold iZ
 rw [List.mem_filterMap]
 constructor
 ·rintro ⟨y,hy,h⟩
  cases e1:y.gD[b]? with
  |none=>rw [e1] at h; cases h
  |some s=>
   cases e2:y.iO[b]? with
   |none=>rw [e1,e2] at h; cases h
   |some f=>
    cases e3:y.lM[b]? with
    |none=>rw [e1,e2,e3] at h; cases h
    |some e=>
     rw [e1,e2,e3] at h; cases h
     exact ⟨y,hy,e1,e2,e3⟩
 ·rintro ⟨y,hy,A,B,C⟩
  exact ⟨y,hy,by rw [A,B,C]⟩
theorem ye {b:Nat} {ws:List dj} {y:dj} (h:y.gD.length≤b):iZ b (ws++[y])=iZ b ws:=by
 unfold iZ; rw [List.filterMap_append]; simp [List.getElem?_eq_none h]
theorem qa {b:Nat} {ws:List dj} {y:dj} {s f e:Int} (h1:y.gD[b]? =some s) (h2:y.iO[b]? =some f) (h3:y.lM[b]? =some e):iZ b (ws++[y])=iZ b ws++[(s,⟨f,e⟩)]:=by
 unfold iZ; rw [List.filterMap_append]; simp [h1,h2,h3]
theorem KG (hle:dC l=0) (hr:fm l r) {y:dj} (hy:y∈qg l r):y.iO.length=y.gD.length∧y.lM.length=y.gD.length∧y.gD.length≤l.ae.length:=by
 have h:=(pX hle hr).1 hy
 exact ⟨kj _ _ _ _ h.chain,by rw [h.last,rv],by have:=h.len; rwa [ml] at this⟩
theorem tJ (hle:dC l=0) (hr:fm l r) {b:Nat} (hb:b<l.ae.length) {s t:Int}:(∃ q∈mD (cu l r) b,q.1=s∧q.2.Lo≤t∧t≤q.2.Hi)↔ ∃ q∈iZ b (qg l r),q.1=s∧q.2.Lo≤t∧t≤q.2.Hi:=by
 have hh:=Ph hle hr
 rw [Ar hh.low (by rw [ml]; exact hb),Mz hh hr.time.2.1 (by rw [ml]; exact hb)]
 constructor
 ·rintro ⟨y,hy,f,e,A,B,C,D,E⟩
  exact ⟨(s,⟨f,e⟩),nW.2 ⟨y,(pX hle hr).2 hy,A,B,C⟩,U,D,E⟩
 ·rintro ⟨q,hq,rfl,D,E⟩
  obtain ⟨y,hy,A,B,C⟩:=nW.1 hq
  exact ⟨y,(pX hle hr).1 hy,_,_,A,B,C,D,E⟩
/-- a way's span is none that is empty -/
theorem xw (hle:dC l=0) (hr:fm l r) {b:Nat} {q:Int×aa} (hq:q∈iZ b (qg l r)):q.2.Lo≤q.2.Hi:=by
 have hh:=Ph hle hr
 obtain ⟨y,hy,C,D,H⟩:=nW.1 hq
 obtain ⟨hc,hn,B,hm⟩:=(pX hle hr).1 hy
 obtain ⟨R,F,La⟩:=y
 simp only at C D H hc hn B
 have G:=(aS.1 C).1
 have E:=(aS.1 D).1
 have L:=kj _ _ _ _ hc
 have eR:R=R.take b++q.1::R.drop (b+1):=by rw [← (aS.1 C).2]; exact (List.take_append_drop b R).symm.trans (by rw [List.drop_eq_getElem_cons G])
 have eF:F=F.take b++q.2.Lo::F.drop (b+1):=by rw [← (aS.1 D).2]; exact (List.take_append_drop b F).symm.trans (by rw [List.drop_eq_getElem_cons E])
 rw [eR,eF,rp _ _ _ _ _ _ (by simp only [List.length_take]; omega)] at hc
 have AA:(R.take b).length=b:=by rw [List.length_take]; omega
 rw [AA,Nat.zero_add] at hc
 obtain ⟨M,⟨o,ho,K,N,O⟩,J⟩:=hc
 have A:=sV (hi:=MS l r) (least:=ej l) (now:=r.gk) 0 (R.take b) q.1 (R.drop (b+1))
 rw [← eR,AA,Nat.zero_add,← B,H] at A
 have A:=Option.some.inj A
 have he:=rq hh (b+1) q.2.Lo (R.drop (b+1)) (F.drop (b+1)) (by rw [List.length_drop]; omega) I J
 rw [← K] at A
 split at A
 ·rename_i z
  have:=hh.hi b o I ho z
  omega
 ·omega
theorem CC {a b:List (Int×aa)} {h k:aa} (ha:kv a h) (hb:kv b k) (hab: ∀ x∈b,(∃ y∈a,y.2.Lo≤x.2.Lo)∧ ∃ y∈a,x.2.Hi≤y.2.Hi) (hba: ∀ x∈a,(∃ y∈b,y.2.Lo≤x.2.Lo)∧ ∃ y∈b,x.2.Hi≤y.2.Hi):h=k:=by
 rcases ha with ⟨rfl,rfl⟩|ha
 ·rcases hb with ⟨rfl,rfl⟩|hb
  ·rfl
  ·obtain ⟨x,hx,_⟩:=hb.lo
   obtain ⟨⟨y,hy,_⟩,_⟩:=hab x hx
   cases hy
 ·rcases hb with ⟨rfl,rfl⟩|hb
  ·obtain ⟨x,hx,_⟩:=ha.lo
   obtain ⟨⟨y,hy,_⟩,_⟩:=hba x hx
   cases hy
  ·obtain ⟨M,E,AA⟩:=ha.lo
   obtain ⟨N,F,V⟩:=ha.hi
   obtain ⟨O,G,W⟩:=hb.lo
   obtain ⟨P,H,X⟩:=hb.hi
   obtain ⟨⟨AB,A,Y⟩,_⟩:=hba M E
   obtain ⟨_,J,B,Z⟩:=hba N F
   obtain ⟨⟨K,C,c⟩,_⟩:=hab O G
   obtain ⟨_,L,D,d⟩:=hab P H
   have Q:=hb.all AB A
   have R:=hb.all J B
   have S:=ha.all K C
   have T:=ha.all L D
   apply aa.ext
   ·omega
   ·omega
theorem KZ (hle:dC l=0) (hr:fm l r) {b:Nat} (hb:b<l.ae.length) {h:aa} (hh:kv (iZ b (qg l r)) h):h=mG l r b:=by
 have hk:=uB (l:=mD (cu l r) b) (fun q hq=>nc hq)
 refine CC hh hk (fun x hx=>?_) (fun x hx=>?_)
 ·have hle':=nc hx
  obtain ⟨y,hy,_,A,C⟩:=(tJ hle hr hb (s:=x.1) (t:=x.2.Lo)).1 ⟨x,hx,rfl,Int.le_refl _,hle'⟩
  obtain ⟨z,hz,_,D,B⟩:=(tJ hle hr hb (s:=x.1) (t:=x.2.Hi)).1 ⟨x,hx,rfl,hle',Int.le_refl _⟩
  exact ⟨⟨y,hy,A⟩,z,hz,B⟩
 ·have hle':=xw hle hr hx
  obtain ⟨y,hy,_,A,C⟩:=(tJ hle hr hb (s:=x.1) (t:=x.2.Lo)).2 ⟨x,hx,rfl,Int.le_refl _,hle'⟩
  obtain ⟨z,hz,_,D,B⟩:=(tJ hle hr hb (s:=x.1) (t:=x.2.Hi)).2 ⟨x,hx,rfl,hle',Int.le_refl _⟩
  exact ⟨⟨y,hy,A⟩,z,hz,B⟩
end
def pV (ws:List dj) (b:Nat):Int:=if vp (iZ b ws)=mM then 6 else 0
def pD (ws:List dj) (b:Nat):aa:=if vp (iZ b ws)=mM then ⟨0,0⟩ else vp (iZ b ws)
theorem N0 {l:List (Int×aa)} {h:aa} (hh:kv l h) (hl: ∀ q∈l,q.2.Lo≤q.2.Hi):vp l=h:=
 CC (uB hl) hh (fun x hx=>⟨⟨x,hx,Int.le_refl _⟩,x,hx,Int.le_refl _⟩) (fun x hx=>⟨⟨x,hx,Int.le_refl _⟩,x,hx,Int.le_refl _⟩)
theorem Ff {ws:List dj} {b:Nat} (h:iZ b ws=[]):pV ws b=6∧pD ws b=⟨0,0⟩:=by
 unfold pV pD; rw [h]; exact ⟨if_pos rfl,if_pos rfl⟩
theorem DN {ws:List dj} {b:Nat} {o:aa} (hl: ∀ q∈iZ b ws,q.2.Lo≤q.2.Hi) (h:oR (iZ b ws) o):pV ws b=0∧pD ws b=o:=by
 have e:=N0 (.inr h) hl
 unfold pV pD; rw [e]; exact ⟨if_neg h.ne,if_neg h.ne⟩
/-- what was found until now -/
def nY (b:Nat) (ws:List dj) (fd:Bool) (o:aa):Prop:=(fd=false∧iZ b ws=[])∨(fd=true∧oR (iZ b ws) o)
theorem G0 {b:Nat} {o:aa}:nY b [] false o:= .inl ⟨rfl,rfl⟩
theorem Dq {q:Int×aa} (hq:q.2.Lo≤q.2.Hi):oR [q] q.2:=⟨hq,⟨q,sm,rfl⟩,⟨q,sm,rfl⟩,fun x hx=>by simp at hx; subst hx; exact ⟨Int.le_refl _,Int.le_refl _⟩⟩
theorem Ah {l:List (Int×aa)} {h:aa} {q:Int×aa} (hh:oR l h) (hq:q.2.Lo≤q.2.Hi):oR (l++[q]) ⟨min q.2.Lo h.Lo,max q.2.Hi h.Hi⟩:=by
 have:=uv (.inr hh) hq
 unfold mK at this
 rw [if_neg hh.ne] at this
 rcases this with ⟨e,_⟩|this
 ·simp at e
 ·exact this
theorem Ec {b:Nat} {ws:List dj} {fd:Bool} {o:aa} {y:dj} (h:nY b ws fd o) (hy:y.gD.length≤b):nY b (ws++[y]) fd o:=by
 unfold nY; rw [ye hy]; exact h
theorem Dm {b:Nat} {ws:List dj} {fd:Bool} {o:aa} {y:dj} {s f e:Int} (h:nY b ws fd o) (hf:fd=false) (h1:y.gD[b]? =some s) (h2:y.iO[b]? =some f) (h3:y.lM[b]? =some e) (hle:f≤e):nY b (ws++[y]) true ⟨f,e⟩:=by
 rcases h with ⟨_,q⟩|⟨q,_⟩
 ·right
  rw [qa h1 h2 h3,q]
  exact ⟨U,Dq hle⟩
 ·rw [q] at hf; cases hf
theorem Ev {b:Nat} {ws:List dj} {fd:Bool} {o:aa} {y:dj} {s f e:Int} (h:nY b ws fd o) (hf:fd=true) (h1:y.gD[b]? =some s) (h2:y.iO[b]? =some f) (h3:y.lM[b]? =some e) (hle:f≤e):nY b (ws++[y]) true ⟨min f o.Lo,max e o.Hi⟩:=by
 rcases h with ⟨q,_⟩|⟨_,q⟩
 ·rw [q] at hf; cases hf
 ·right
  rw [qa h1 h2 h3]
  exact ⟨U,Ah q hle⟩
theorem zO {b:Nat} {ws:List dj} {fd:Bool} {o:aa} (h:nY b ws fd o) (hl: ∀ q∈iZ b ws,q.2.Lo≤q.2.Hi):(fd=false→pV ws b=6∧pD ws b=⟨0,0⟩)∧(fd=true→pV ws b=0∧pD ws b=o):=by
 rcases h with ⟨q,h⟩|⟨q,h⟩
 ·exact ⟨fun _=>Ff h,fun e=>(by rw [q] at e; cases e)⟩
 ·exact ⟨fun e=>(by rw [q] at e; cases e),fun _=>DN hl h⟩
section
variable {l:aZ} {r:cJ}
theorem Lr (he:eJ l r 0=0) {b:Nat} (hb:b<l.ae.length):pV (qg l r) b=eW l r b∧pD (qg l r) b=e9 l r b:=by
 obtain ⟨A,hr,_,_⟩:=kb he
 have h:=KZ A hr hb (uB fun q hq=>xw A hr hq)
 have ho:eJ l r (jO l b)=0:=by rw [Hl hb]; exact he
 unfold pV pD
 rw [h]
 by_cases e:mG l r b=mM
 ·rw [if_pos e,if_pos e,(qy ho e).1,(qy ho e).2]; exact ⟨rfl,rfl⟩
 ·rw [if_neg e,if_neg e,(oF ho e).1,(oF ho e).2]; exact ⟨rfl,rfl⟩
theorem QG (hle:dC l=0) (hr:fm l r) {y:dj} (hy:y∈qg l r) {b:Nat} {f e:Int} (hb:b<y.gD.length) (h2:y.iO[b]? =some f) (h3:y.lM[b]? =some e):f≤e:=
 xw hle hr (q:=(y.gD[b],⟨f,e⟩)) (nW.2 ⟨y,hy,eM _,h2,h3⟩)
theorem BB:eJ l r (jO l l.cr)=eJ l r 0:=by
 by_cases h:dC l=0
 ·obtain ⟨_,A⟩:=gR h
  have hh:=A.head
  unfold gE at hh
  rw [wS I]
 ·rw [ox h,ox h]
theorem vq (h: ¬ eJ l r 0=0):eW l r l.cr=eJ l r 0:=by
 have:=(nF (b:=l.cr) (by rw [BB]; exact h)).1
 rw [this,BB]
/-- rows of times that are those of ways -/
structure NJ (ws:List dj):Prop where
 lens: ∀ y∈ws,y.iO.length=y.gD.length∧y.lM.length=y.gD.length∧y.gD.length≤6
 le: ∀ y∈ws,∀ (b:Nat) f e,b<y.gD.length→y.iO[b]? =some f→y.lM[b]? =some e→f≤e
 num:ws.length≤40000000
theorem NJ.Fm {ws:List dj} (h:NJ ws) {b:Nat}: ∀ q∈iZ b ws,q.2.Lo≤q.2.Hi:=fun q hq=>by
 obtain ⟨y,hy,A,B,C⟩:=nW.1 hq
 exact h.le y hy b _ _ (aS.1 A).1 B C
theorem PU (hle:dC l=0) (hr:fm l r):NJ (qg l r):=by
 obtain ⟨ht,B⟩:=gR hle
 have hh:=B.head
 unfold gE at hh
 refine ⟨fun y hy=>?_,fun y hy b f e hb A C=>QG hle hr hy hb A C,uT hr.len I⟩
 obtain ⟨D,A,C⟩:=KG hle hr hy
 exact ⟨D,A,I⟩
end
end
section
open Go.RowKit
theorem CB (l:List dj) (az:List kz): ∀ v∈(List.zipWith dj.cells l az).flatten,v.oneCell'=true:=by
 induction l generalizing az with
 |nil=>intro v hv; simp at hv
 |cons x l ih=>
  cases az with
  |nil=>intro v hv; simp at hv
  |cons a az=>
   intro v hv
   simp only [List.zipWith_cons_cons,List.flatten_cons,dJ] at hv
   rcases hv with hv|hv
   ·simp only [dj.cells,wI.cells,bx,List.not_mem_nil,or_false] at hv
    rcases hv with rfl|rfl|rfl<;>rfl
   ·exact ih az v hv
theorem N2: ∀ (m:dj) (a:kz) (w:World),(∀ X∈dj.owns m a,X.holds w)→ ∀ X∈dj.g4 m a,X.holds w:=fun m a w h X hX=>by
 simp only [dj.g4,bx,List.not_mem_nil,or_false] at hX
 have A:=mP (h (own a.1.1 a.1.2 lV 1 (m.gD.map iC)) (by simp [dj.owns]))
 have B:=mP (h (own a.2.1.1 a.2.1.2 lV 1 (m.iO.map iC)) (by simp [dj.owns]))
 have C:=mP (h (own a.2.2.1 a.2.2.2 lV 1 (m.lM.map iC)) (by simp [dj.owns]))
 rcases hX with rfl|rfl|rfl
 ·simpa using A
 ·simpa using B
 ·simpa using C
theorem pA: ∀ (l:List dj) (az:List kz),(aU dj.owns l az).all (·.wr)=true
 |[],_=>rfl
 |_::_,[]=>rfl
 |x::l,a::az=>by
  simp only [aU,List.all_append,cU]
  exact ⟨U,pA l az⟩
theorem MC (l:List dj) (az:List kz):(bw (aU dj.owns l az)).wr=true:=pA l az
theorem IF {l m:List dj} {az bz:List kz} (h:az.length=l.length):List.zipWith dj.cells (l++m) (az++bz)=List.zipWith dj.cells l az++List.zipWith dj.cells m bz:=List.zipWith_append h.symm
theorem tM {l:List dj} {az:List kz} (h:az.length=l.length):(List.zipWith dj.cells l az).length=l.length:=by rw [List.length_zipWith]; omega
/-- what is read of a thing that is tied, and frozen -/
theorem pU {C L:List au} {a:OA} {c e sz n:Nat} {es:List (List Value)} (i:Nat) (hC:C[i]? =some (bw L).ro) (hm:own a c e sz es∈L) (hn:es.length=n):jc C (rd a n sz es).holds:=fun w hw=>by
 subst hn
 exact mP ((show (bw L).holds w from (hw _ (aT hC):(bw L).ro.holds w)).1 _ hm)
section
variable {E:fh} {ops:Array Oper} {Q:cZ} {rest:List Oper} {D:List Deferred} {L:List (Nat×Value)} {C C1:List au}
theorem St.Ql {S:BS} {w0 w:World} {X C:List au} {A:au} (h:St S w0 (bw (X++[A])::C) w):St S w0 (A::bw X::C) w:=by
 have B:=h.ir
 have D:St S w0 (X++(A::C)) w:=by simpa using B
 exact D.tied.perm (List.Perm.swap _ _ _)
theorem St.merge {S:BS} {w0 w:World} {X Y C:List au} (h:St S w0 (bw X::bw Y::C) w):St S w0 (bw (X++Y)::C) w:=by
 have A:St S w0 (bw Y::(X++C)) w:=(h.ir).perm (List.perm_middle (a:=bw Y) (l₁:=X) (l₂:=C))
 have B:St S w0 (Y++(X++C)) w:=A.ir
 have D:St S w0 ((X++Y)++C) w:=B.perm (by rw [← List.append_assoc]; exact List.perm_append_comm.append_right _)
 exact D.tied
end
section
variable {E:fh} {ops:Array Oper} {Q:cZ} {rest:List Oper} {D:List Deferred} {L:List (Nat×Value)} {C:List au}
theorem AZ {A:au} {X X':List au} (e:X++[A]=X') (h:RJ E ops Q rest D L (bw X'::C)):RJ E ops Q rest D L (A::bw X::C):=fun a w hf hs=>h a w hf (hs.tie e)
theorem yR {X:List au} {A:au} (h:RJ E ops Q rest D L (A::bw X::C)):RJ E ops Q rest D L (bw (X++[A])::C):=fun a w hf hs=>h a w hf hs.Ql
theorem Kp {K:Act→World→Prop} {ms ns:List dj} {az bz:List kz} (hl:az.length=ms.length) (h:KJ E K D L (bw (aU dj.owns (ms++ns) (az++bz))::C)):KJ E K D L (bw (aU dj.owns ms az)::bw (aU dj.owns ns bz)::C):=fun a w hf hs=>h a w hf (by rw [iN hl.symm]; exact hs.merge)
end
/-- the head of the ways: the way that ends here, if it may -/
def xM (l:aZ) (r:cJ) (rs fs:List Int) (ra fa:RA) (hz:List kz) (LA:List au):Prop:=
 ((r.ah.length:Int)-(de rs).right≤l.eh∧ ∃ la:RA,hz=[(ra,fa,la)]∧LA=[own la.1 la.2 lV 1 ((jx l r rs).map iC)])∨(¬ (r.ah.length:Int)-(de rs).right≤l.eh∧hz=[]∧LA=[])
theorem xM.len {l:aZ} {r:cJ} {rs fs:List Int} {ra fa:RA} {hz:List kz} {LA:List au} (h:xM l r rs fs ra fa hz LA):hz.length=(gZ l r rs fs).length:=by
 unfold gZ
 rcases h with ⟨q,la,rfl,rfl⟩|⟨q,rfl,rfl⟩
 ·rw [if_pos q]; rfl
 ·rw [if_neg q]; rfl
theorem xM.wr {l:aZ} {r:cJ} {rs fs:List Int} {ra fa:RA} {hz:List kz} {LA:List au} (h:xM l r rs fs ra fa hz LA):LA.all (·.wr)=true:=by
 rcases h with ⟨q,la,rfl,rfl⟩|⟨q,rfl,rfl⟩<;>rfl
theorem IV {S:BS} {w0 w:World} {l:aZ} {r:cJ} {rs fs:List Int} {ra fa:RA} {hz az:List kz} {LA:List au} {R:List dj} {A:au} (hh:xM l r rs fs ra fa hz LA)
 (h:St S w0 [bw [own ra.1 ra.2 lV 1 (rs.map iC),own fa.1 fa.2 lV 1 (fs.map iC)],A,bw LA,bw (aU dj.owns R az)] w):St S w0 [bw (aU dj.owns (gZ l r rs fs++R) (hz++az)++[A])] w:=by
 rw [iN hh.len.symm]
 have D:St S w0 [own ra.1 ra.2 lV 1 (rs.map iC),own fa.1 fa.2 lV 1 (fs.map iC),A,bw LA,bw (aU dj.owns R az)] w:=h.ir
 rcases hh with ⟨q,la,rfl,rfl⟩|⟨q,rfl,rfl⟩
 ·unfold gZ
  rw [if_pos q]
  have B:=(St.kq [3,0,1,2,4] rfl rfl D).ir
  have E:=(St.kq [4,1,2,0,3] rfl rfl B).ir
  have C:St S w0 (((aU dj.owns [(⟨rs,fs,jx l r rs⟩:dj)] [(ra,fa,la)]++aU dj.owns R az)++[A])++[]) w:=by
   rw [List.append_nil]
   refine E.perm ?_
   show (aU dj.owns R az++(aU dj.owns [(⟨rs,fs,jx l r rs⟩:dj)] [(ra,fa,la)]++[A])).Perm _
   rw [← List.append_assoc]
   exact List.perm_append_comm.append_right _
  exact C.tied
 ·unfold gZ
  rw [if_neg q]
  have B:=(St.kq [4,2] rfl rfl D).ir
  have C:St S w0 (((aU dj.owns [] []++aU dj.owns R az)++[A])++[]) w:=by
   rw [List.append_nil]; exact B
  exact C.tied
theorem JR {E:fh} {K:Act→World→Prop} {D:gV} {L:di} {l:aZ} {r:cJ} {rs fs:List Int} {ra fa:RA} {hz az z:List kz} {LA:List au} {R W:List dj} {A A':au} (hh:xM l r rs fs ra fa hz LA) (hW:gZ l r rs fs++R=W) (hz':hz++az=z) (hA:A=A')
 (h:KJ E K D L [bw (aU dj.owns W z++[A'])]):KJ E K D L [bw [own ra.1 ra.2 lV 1 (rs.map iC),own fa.1 fa.2 lV 1 (fs.map iC)],A,bw LA,bw (aU dj.owns R az)]:=fun a w hf hs=>h a w hf (by subst hW hz' hA; exact IV hh hs)
theorem Qx {E:fh} {K:Act→World→Prop} {D:gV} {L:di} {X A:au} {W:List dj} (h:KJ E K D L [bw (aU dj.owns W []++[A])]):KJ E K D L [X,A]:=fun a w hf hs=>h a w hf (by
 have B:St E.S E.w0 [A] w:=St.kq [1] rfl rfl hs
 have C:St E.S E.w0 (([]++[A])++[]) w:=B
 have e:aU dj.owns W []=[]:=by cases W<;>rfl
 rw [e]
 exact C.tied)
theorem GV {E:fh} {K:Act→World→Prop} {D:gV} {L:di} {C:List au} (e sz:Nat) (k:KJ E K D L (own none 0 e sz []::C)):KJ E K D L C:=fun a w hf hs=>k a w hf (hs.rH e sz)
end
section
open Go.RowKit
theorem O3 (l:aZ) (kA:OA) (kC:Nat) (az:List RA) (cA:OA) (cC:Nat) (bA:OA) (bC:Nat) (r:cJ) (sgA:OA) (sgC:Nat) (hin:er l az) (hsl:r.ah.length≤1000000):
 ep Tryz.prog 191 [(vA (bW.cells (lh l kA kC cA cC bA bC))),(vA (dY.cells (lQ r sgA sgC)))] [(rd kA l.aM.length 9 (l.aM.map al.cells)),(rd cA l.ai.length 2 (List.zipWith ar.cells l.ai az)),(fc (aU ar.g4 l.ai az)),(rd bA l.ae.length 4 (l.ae.map bH.cells)),(rd sgA r.ah.length 2 (r.ah.map aK.cells))] (vB (decide (fm l r))):=by
 have Ai:=hin.sQ
 have AO:=hin.sr
 have w:=hin.od
 have AC:=hin.sj
 refine bG kr Tryz.func191 U U fun w0 Q hQ hN=>?_
 try dsimp only
 refine WS fun _ h=>fQ U fun b2=>fQ U fun b3=>bh 1 U<|RK h<|aj fun _ j=>WS fun _ H=>fu 2 [] (mc 0 U mn) U<|rS (CL (iT r.Start 0 86400000) (aI) U)<|rP 2 [] mn ?_
 refine dh (t:=11) U (bu fun X=>?_) (br fun X=>?_)
 ·refine bh 13 U<|RK H<|aQ U<|WS fun _ k=>rP 1 [] mn ?_
  refine RK k<|aq<|Q1 hQ U U U ?_
  exact cB (cq fun q=>by have C:=q.time; have u:=q.len; omega).symm
 refine fu 4 [] (mc 0 U mn) U<|rS (CL (iT r.gk r.Start 86400000) (aI) U)<|rP 3 [] mn ?_
 refine dh (t:=19) U (bu fun Z=>?_) (br fun Z=>?_)
 ·refine bh 5 U<|RK H<|aQ U<|WS fun _ m=>rP 1 [] mn ?_
  refine RK m<|aq<|Q1 hQ U U U ?_
  exact cB (cq fun q=>by have C:=q.time; have u:=q.len; omega).symm
 refine rP 5 [] (mc 0 U mn) ?_
 refine RK H<|cH U (aN fun a=>?_) (aO fun a=>?_)
 ·refine WS fun _ n=>rP 1 [] mn ?_
  refine RK n<|aq<|Q1 hQ U U U ?_
  exact cB (cq fun q=>by have C:=q.time; have u:=q.len; omega).symm
 refine WK j<|aj fun _ o=>WS fun _ J=>rP 1 [] mn ?_
 refine RK J<|ax ?_
 have F:(0≤r.ah.length)∧(qJ l r.ah 0):=by exact ⟨Nat.zero_le _,zm⟩
 refine bL (ι:={z:Nat // (z≤r.ah.length)∧(qJ l r.ah z)}) [2,3] [0,1,2,3,4,5,6] U U (fun z=>[(5,(vI (z.1:Int)))]) (fun z=>[]) (fun _=>rfl) (fun _=>rfl) (fun z=>r.ah.length-z.1) ⟨0,F⟩ (aV U) (aH [0,1,2,3,4,5,6]) ?_
 clear F
 rintro ⟨i,⟨p,A⟩⟩ J11 D
 try dsimp only
 refine aj fun _ K=>WS fun _ L=>rP 5 [] (mc 0 U mn) ?_
 refine RK L<|bQ U (aO fun Y=>?_) (aN fun Y=>?_)
 ·refine bD<|ab<|ab<|ay<|KK o<|WS fun _ T=>rP 1 [] mn ?_
  refine RK T<|aq<|Q1 hQ U U U ?_
  exact cB (fR (BC I I A I)).symm
 refine WK K<|aj fun _ E=>ax<|WS fun _ M=>rP 3 [] (mc 0 U mn) ?_
 obtain ⟨x,hx⟩:=aJ r.ah i I
 have s:=bK aK.cells hx
 refine rS (IA i U (aA 6 U) ym dc I I)<|rS (oT i 0 (aK.cells x) U cd (aA 6 U) s U dc U U)<|AL U Gj fun v=>fX U wV U<|RK M<|aj fun _ N=>WS fun _ G=>fu 6 [0,1] (mc 0 U (mc 2 U mn)) U<|rS (CL (iT x.gu 0 ((l.ae.length:Int)-1)) (aI) U)<|rP 2 [] mn ?_
 refine dh (t:=45) U (bu fun b=>?_) (br fun b=>?_)
 ·refine bh 5 U<|RK G<|aQ U<|WS fun _ O=>rP 1 [] mn ?_
  refine RK O<|aq<|Q1 hQ U U U ?_
  exact cB (cq fun q=>by have C:=q.sig i x hx; unfold ko lk at C; omega).symm
 refine fu 2 [] (mc 0 U mn) U<|rS (CL (iT x.Read 0 86400000) (aI) U)<|rP 2 [] mn ?_
 refine RK G<|cH U (bu fun c=>?_) (br fun c=>?_)
 ·refine WS fun _ P=>rP 1 [] mn ?_
  refine RK P<|aq<|Q1 hQ U U U ?_
  exact cB (cq fun q=>by have C:=q.sig i x hx; unfold ko lk at C; omega).symm
 refine WK N<|aj fun _ B=>dK cE 38 kr<|dP 3 [] mn ?_
 refine jy (t:=53) U (aO fun d=>?_) (aN fun d=>?_)
 ·refine l5 35 U<|cR<|RK B<|aW U<|bZ<|aB<|KK E<|ak<|rP 3 [] mn ?_
  refine aC ?_
  have W:(vI (((i+1):Nat):Int))=(vI ((i:Int)+1)):=by exact cI I
  refine aR (D ⟨(i+1),⟨I,l_ A hx (by unfold ko lk; (rw [G2 I]; simp only; omega))⟩⟩ _ _ _ U os (du.cons U<|du.cons U<|aY U W<|du.nil _) (aH [1,2,3,4,5,6,7]))
 refine dP 6 [0,1] (mc 0 U (mc 1 U mn)) ?_
 obtain ⟨y,hy⟩:=aJ r.ah (i-1) I
 have AB:=bK aK.cells hy
 refine dS (IA (i-1) U (aA 7 U) ym dc I I)<|dS (mW ((i-1)*2) U (aA 7 U) (Nat.mul_pos I dc) fp U)<|dS (fT (i-1) 0 (vI y.gu) U cd (aA 7 U) AB U dc U)<|dP 2 [] mn ?_
 refine jf (t:=64) U (aN fun e=>?_) (aO fun e=>?_)
 ·refine l5 24 U<|cR<|RK B<|aQ U<|WS fun _ R=>rP 1 [] mn ?_
  refine RK R<|aq<|Q1 hQ U U U ?_
  exact cB (cq fun q=>by have C:=q.sig i x hx; unfold ko lk at C; (rw [q9 I hy] at C; omega)).symm
 refine mT 6 [0,1] (mc 0 U (mc 1 U mn)) U<|dS (IA (i-1) U (aA 7 U) ym dc I I)<|dS (mW ((i-1)*2) U (aA 7 U) (Nat.mul_pos I dc) fp U)<|dS (fT (i-1) 0 (vI y.gu) U cd (aA 7 U) AB U dc U)<|dP 2 [] mn ?_
 refine jy (t:=75) U (aO fun f=>?_) (aN fun f=>?_)
 ·refine l5 13 U<|cR<|RK B<|aW U<|bZ<|aB<|KK E<|ak<|rP 3 [] mn ?_
  refine aC ?_
  have V:(vI (((i+1):Nat):Int))=(vI ((i:Int)+1)):=by exact cI I
  refine aR (D ⟨(i+1),⟨I,l_ A hx (by unfold ko lk; (rw [q9 I hy]; omega))⟩⟩ _ _ _ U os (du.cons U<|du.cons U<|aY U V<|du.nil _) (aH [1,2,3,4,5,6,7]))
 refine mT 6 [0,1] (mc 0 U (mc 1 U mn)) U<|dS (IA (i-1) U (aA 7 U) ym dc I I)<|dS (mW (((i-1)*2)+1) U (aA 7 U) (Nat.mul_pos I dc) fp U)<|dS (fT (i-1) 1 (vI y.Read) U cd (aA 7 U) AB U dc U)<|dP 4 [] mn ?_
 refine cR<|RK B<|cH U (aN fun g=>?_) (aO fun g=>?_)
 ·refine WS fun _ S=>rP 1 [] mn ?_
  refine RK S<|aq<|Q1 hQ U U U ?_
  exact cB (cq fun q=>by have C:=q.sig i x hx; unfold ko lk at C; (rw [q9 I hy] at C; omega)).symm
 refine bZ<|aB<|KK E<|ak<|rP 3 [] mn ?_
 refine aC ?_
 have AA:(vI (((i+1):Nat):Int))=(vI ((i:Int)+1)):=by exact cI I
 refine aR (D ⟨(i+1),⟨I,l_ A hx (by unfold ko lk; (rw [q9 I hy]; omega))⟩⟩ _ _ _ U os (du.cons U<|du.cons U<|aY U AA<|du.nil _) (aH [1,2,3,4,5,6,7]))
end
section
open Go.RowKit
theorem NN (l:aZ) (kA:OA) (kC:Nat) (az:List RA) (cA:OA) (cC:Nat) (bA:OA) (bC:Nat) (r:cJ) (sgA:OA) (sgC:Nat) (hin:er l az) (hle:dC l=0) (hr:fm l r):
 ld Tryz.prog 193 [(vA (bW.cells (lh l kA kC cA cC bA bC))),(vA (dY.cells (lQ r sgA sgC)))] [(rd kA l.aM.length 9 (l.aM.map al.cells)),(rd cA l.ai.length 2 (List.zipWith ar.cells l.ai az)),(fc (aU ar.g4 l.ai az)),(rd bA l.ae.length 4 (l.ae.map bH.cells)),(rd sgA r.ah.length 2 (r.ah.map aK.cells))] (fun (x:(OA)×Nat×(OA)×Nat×(OA)×Nat)=>(vA (iG.cells (iG.mk (bo.mk x.1 ((cQ l l.ae.length).length) x.2.1) (bo.mk x.2.2.1 ((eY l r r.ah.length).length) x.2.2.2.1) (bo.mk x.2.2.2.2.1 ((fq l r r.ah.length).length) x.2.2.2.2.2))))) (fun (x:(OA)×Nat×(OA)×Nat×(OA)×Nat)=>True) (fun (x:(OA)×Nat×(OA)×Nat×(OA)×Nat)=>[(own x.1 x.2.1 3 1 ((cQ l l.ae.length).map iC)),(own x.2.2.1 x.2.2.2.1 45 2 ((eY l r r.ah.length).map aa.cells)),(own x.2.2.2.2.1 x.2.2.2.2.2 4 1 ((fq l r r.ah.length).map p7))]):=by
 have A5:=hin.sQ
 have A1:=hin.sr
 have As:=hin.od
 have A0:=hin.sj
 obtain ⟨w,g⟩:=gR hle
 have t:=g.head
 unfold gE at t
 have A3:=hr.len
 have A4:=hr.time
 refine dg kr Tryz.func193 U U fun w0 Q hQ hN=>?_
 try dsimp only
 refine WS fun _ n=>fQ U fun b2=>fQ U fun b3=>AL U Pf fun b4=>RK n<|WS fun _ o=>AL U Pf fun h=>RK o<|aj fun _ p=>WS fun _ q=>rP 1 [] mn ?_
 refine RK q<|ax<|fZ 3 1 ?_
 have A:(0≤l.ae.length):=by exact Nat.zero_le _
 refine bL (ι:={z:Nat×(OA)×Nat // (z.1≤l.ae.length)}) [2,3,4,5] [2,3,4,5,6,7,8,9] U U (fun z=>[(6,(vI (z.1.1:Int)))]) (fun z=>[(own z.1.2.1 z.1.2.2 3 1 ((cQ l z.1.1).map iC)),(cb h 266 (iG.cells (iG.mk (bo.mk z.1.2.1 ((cQ l z.1.1).length) z.1.2.2) (bo.mk none 0 0) (bo.mk none 0 0))))]) (fun _=>rfl) (fun _=>rfl) (fun z=>l.ae.length-z.1.1) ⟨(0,none,0),A⟩ (aV U) (aH [2,3,4,5,6,7,8,9,0,1]) ?_
 clear A
 rintro ⟨⟨b,a,c⟩,F⟩ J9 m
 try dsimp only at F
 try dsimp only
 refine aj fun _ K=>WS fun _ L=>rP 5 [] (mc 2 U mn) ?_
 refine RK L<|cH U (aN fun j=>?_) (aO fun j=>?_)
 ·refine WK K<|aj fun _ M=>ax<|dF cE [5,6,8] [1] [0] [0,1,2,3,4,5,6,7] [0,1,2,3,4,5,6,7,8,9] U U U U U<|eS U (FA 0 U fp U)<|fS U (L1 (vS a ((cQ l b).length) c) 9 U cd U U)<|eS U (LW 2 U cd U U)<|eS U (MV U) ?_
  have A2:=nk w g (i:=b) I
  refine eS U (CL (KT l kA kC az cA cC bA bC (b:Int) hin asm asm I) (bg [3,4,5,6]) U)<|eS U (FA 0 U fp U)<|eT U<|gM U fun T14 W=>df (xs:=[.tmp 21]) (cs:=[(vI (ej l (b:Int).toNat))]) U cw js U U U U (by simp [Value.cells]) U U fun y=>aC (W _ _ (aH [1,2,3,4,5,6,7,8]) (aH [1,2,3,4,5,6,7,8,9,10]) ?_)
  refine cf U fun T16 X=>?_
  refine cL (es2:=(List.map iC (cQ l (b+1)))) (m':=(cQ l (b+1)).length) 9 U U U o2 U U sm (bf (es:=List.map iC [(ej l (b:Int).toNat)]) 0 U U (by simp [bI]) U) (jM _) (by simp only [eC]; omega) (by simp only [maxLen,eC]; omega) (by rw [vj]; simp) sm U fun H AB=>?_
  try dsimp only
  refine aC (X _ _ (aH [1,2,3,4,5,6,7,8]) ?_)
  refine cf U fun T19 Y=>UP (iG.cells (iG.mk (bo.mk H ((cQ l (b+1)).length) AB) (bo.mk none 0 0) (bo.mk none 0 0))) U xn U U<|aC (Y _ _ (aH [1,2,3,4,5,6,7,8]) ?_)
  refine fF U<|aB<|KK M<|ak<|rP 3 [] mn ?_
  refine aC ?_
  have e:(vI (((b+1):Nat):Int))=(vI ((b:Int)+1)):=by exact cI I
  refine aR (m ⟨((b+1),H,AB),(by first|omega|(simp only []; omega))⟩ _ _ _ U os (cK 4<|aY U e<|du.nil _) (aH [1,2,3,4,5,6,7,8,9,10]))
 refine bD<|ab<|ab<|ay<|KK p<|aj fun _ N=>WS fun _ O=>?_
 rw [show cQ l b=(cQ l l.ae.length) from by rw [show b=l.ae.length by omega]]
 refine rP 1 [] mn ?_
 refine RK O<|ax<|fZ 45 2<|fZ 4 1 ?_
 have A:(0≤r.ah.length):=by exact Nat.zero_le _
 refine bL (ι:={z:Nat×(OA)×Nat×(OA)×Nat // (z.1≤r.ah.length)}) [2,3,4,5] [2,3,4,5,6,7,8,9,10] U U (fun z=>[(7,(vI (z.1.1:Int)))]) (fun z=>[(own z.1.2.2.2.1 z.1.2.2.2.2 4 1 ((fq l r z.1.1).map p7)),(own z.1.2.1 z.1.2.2.1 45 2 ((eY l r z.1.1).map aa.cells)),(cb h 266 (iG.cells (iG.mk (bo.mk a ((cQ l l.ae.length).length) c) (bo.mk z.1.2.1 ((eY l r z.1.1).length) z.1.2.2.1) (bo.mk z.1.2.2.2.1 ((fq l r z.1.1).length) z.1.2.2.2.2))))]) (fun _=>rfl) (fun _=>rfl) (fun z=>r.ah.length-z.1.1) ⟨(0,none,0,none,0),A⟩ (aV U) (aH [2,3,4,5,6,7,8,9,10,0,1,11]) ?_
 clear A
 rintro ⟨⟨i,ta,tc,sa,sc⟩,G⟩ J23 J
 try dsimp only at G
 try dsimp only
 refine aj fun _ P=>WS fun _ R=>rP 5 [] (mc 1 U mn) ?_
 refine RK R<|bQ U (aO fun k=>?_) (aN fun k=>?_)
 ·refine bD<|ab<|ab<|ay<|KK N<|WS fun _ V=>?_
  rw [show eY l r i=(eY l r r.ah.length) from by rw [show i=r.ah.length by omega]]
  rw [show fq l r i=(fq l r r.ah.length) from by rw [show i=r.ah.length by omega]]
  refine rP 1 [] (mc 11 U mn) ?_
  refine fX U RO U<|RK V<|aq<|LX hQ (a,c,ta,tc,sa,sc) [8,10,9] [0] (mc 0 U mn) U U U U ?_
  trivial
 refine WK P<|aj fun _ S=>ax<|aj fun _ T=>dF cE [10,11] [] [] [0,1,2,3,4,5,6,7,8,9,10,11] [] U U U U U<|eS U (LW 2 U cd U U)<|eS U (FA 2 U fp U)<|eS U (L1 (vS sgA r.ah.length sgC) 1 U cd U U)<|eS U (MV U) ?_
 obtain ⟨s,hs⟩:=aJ r.ah i I
 have v:=bK aK.cells hs
 refine eS U (IA i U (aA 7 U) ym dc I I)<|eS U (oT i 0 (aK.cells s) U cd (aA 7 U) v U dc U U) ?_
 have u:=(hr.sig i s hs).1
 refine eS U (CL (M6 l kA kC az cA cC bA bC s hin asm (by exact u)) (bg [3,4,5,6]) U)<|eS U (MV U)<|eS U (EX U)<|eS U (EX U)<|eS U (AG U)<|eT U<|cf U fun T29 Z=>AL U dp fun AC=>aC (Z _ _ (aH [1,2,3,4,5,6,7,8,9,10,11,12]) ?_)
 refine cf U fun T31 d=>fX U cx U<|aC (d _ _ (aH [1,2,3,4,5,6,7,8,9,10,11,12]) ?_)
 refine fF U<|KK T<|WS fun _ AA=>rP 3 [0,1] (mc 12 U (mc 0 U mn)) ?_
 refine df (xs:=[.tmp 44]) (cs:=(aa.cells (cN l s))) U gY dp U U U U (by simp [Value.cells,aa.aX]) U U fun AO=>?_
 refine cL (es2:=(List.map aa.cells (eY l r (i+1)))) (m':=(eY l r (i+1)).length) 12 U U U xq U U sm (bf (es:=List.map aa.cells [(cN l s)]) 0 U U (by simp [aa.aX]) U) (g6 _) (by rw [rE I]; omega) (by rw [rE I]; simp only [maxLen]; omega) (by rw [Es hs]; simp) sm U fun B C=>?_
 try dsimp only
 refine bh 1 U<|jC (vs:=[(vS B ((eY l r (i+1)).length) C)]) (cs':=(iG.cells (iG.mk (bo.mk a ((cQ l l.ae.length).length) c) (bo.mk B ((eY l r (i+1)).length) C) (bo.mk sa ((fq l r i).length) sc)))) (C':=[_,_,_,_,_,_,_,_,_,_,_,_,_,(cb h 266 (iG.cells (iG.mk (bo.mk a ((cQ l l.ae.length).length) c) (bo.mk B ((eY l r (i+1)).length) C) (bo.mk sa ((fq l r i).length) sc))))]) 13 U U U Se U U U U U U U<|RK AA<|ak<|rP 3 [] (mc 13 U mn) ?_
 refine df (xs:=[.tmp 50]) (cs:=[(vB (decide ((cN l s).Lo≤(cN l s).Hi)))]) U Pm Wh U U U U (by simp [Value.cells]) U U fun Ai=>?_
 refine cL (es2:=(List.map p7 (fq l r (i+1)))) (m':=(fq l r (i+1)).length) 12 U U U Tw U U sm (bf (es:=List.map p7 [(decide ((cN l s).Lo≤(cN l s).Hi))]) 0 U U (by simp [AK]) U) (G6 _) (by rw [uV I]; omega) (by rw [uV I]; simp only [maxLen]; omega) (by rw [E4 hs]; simp) sm U fun D E=>?_
 try dsimp only
 refine bh 1 U<|jC (vs:=[(vS D ((fq l r (i+1)).length) E)]) (cs':=(iG.cells (iG.mk (bo.mk a ((cQ l l.ae.length).length) c) (bo.mk B ((eY l r (i+1)).length) C) (bo.mk D ((fq l r (i+1)).length) E)))) (C':=[_,_,_,_,_,_,_,_,_,_,_,_,_,_,(cb h 266 (iG.cells (iG.mk (bo.mk a ((cQ l l.ae.length).length) c) (bo.mk B ((eY l r (i+1)).length) C) (bo.mk D ((fq l r (i+1)).length) E))))]) 14 U U U Tk U U U U U U U<|aC<|aB<|KK S<|ak<|bh 2 U<|rP 1 [] mn ?_
 refine aC ?_
 have f:(vI (((i+1):Nat):Int))=(vI ((i:Int)+1)):=by exact cI I
 refine aR (J ⟨((i+1),B,C,D,E),(by first|omega|(simp only []; omega))⟩ _ _ _ U os (cK 4<|aY U f<|du.nil _) (aH [3,4,5,6,7,8,9,10,11,12,13,14]))
theorem Mw (r:cJ) (sgA:OA) (sgC:Nat) (l:aZ) (wA:OA) (wC:Nat) (tA:OA) (tC:Nat) (bA:OA) (bC:Nat) (rs:List Int) (rsA:OA) (rsC:Nat) (hle:dC l=0) (hr:fm l r) (hn:rs.length≤l.ae.length) (hrs: ∀ x∈rs,0≤x→x<(r.ah.length:Int)):
 ld Tryz.prog 194 [(vA (dY.cells (lQ r sgA sgC))),(vA (iG.cells (iG.mk (bo.mk wA ((cQ l l.ae.length).length) wC) (bo.mk tA ((eY l r r.ah.length).length) tC) (bo.mk bA ((fq l r r.ah.length).length) bC)))),(vS rsA rs.length rsC)] [(rd sgA r.ah.length 2 (r.ah.map aK.cells)),(rd wA ((cQ l l.ae.length).length) 1 ((cQ l l.ae.length).map iC)),(rd tA ((eY l r r.ah.length).length) 2 ((eY l r r.ah.length).map aa.cells)),(rd bA ((fq l r r.ah.length).length) 1 ((fq l r r.ah.length).map p7)),(rd rsA rs.length 1 (rs.map iC))] (fun (x:(OA)×Nat)=>(vS x.1 ((jx l r rs).length) x.2)) (fun (x:(OA)×Nat)=>True) (fun (x:(OA)×Nat)=>[(own x.1 x.2 3 1 ((jx l r rs).map iC))]):=by
 obtain ⟨J,D⟩:=gR hle
 have v:=D.head
 unfold gE at v
 have A2:=hr.len
 have A3:=hr.time
 have w:=FY (l:=l) (rs:=rs) ⟨I,I⟩ (fun b hb=>by have:=nk J D (i:=b) I; omega) hrs
 have A0:=eC (l:=l) (n:=l.ae.length)
 have A4:=rE (l:=l) (Nat.le_refl r.ah.length)
 refine dg kr Tryz.func194 U U fun w0 Q hQ hN=>?_
 try dsimp only
 refine WS fun _ h=>fQ U fun b2=>fQ U fun b3=>bh 1 U<|RK h<|WS fun _ m=>rP 2 [] mn ?_
 refine wG (n:=rs.length) (es:=(List.map iC (List.replicate rs.length 0))) U U U o2 I I (by simp only [maxLen]; omega) (by rw [List.map_replicate]; rfl) U fun E=>?_
 try dsimp only
 refine bh 1 U<|RK m<|WS fun _ p=>fu 3 [] (mc 2 U mn) U<|RK p<|aj fun _ q=>WS fun _ t=>rP 4 [] mn ?_
 refine RK t<|ax ?_
 rw [show (own (some ⟨E,0,none⟩) rs.length 3 1 (List.map iC (List.replicate rs.length 0)))=(own (some ⟨E,0,none⟩) rs.length 3 1 ((jQ l r rs rs.length).map iC)) from by rw [GS]]
 have B:(rs.length≤rs.length):=by exact Nat.le_refl _
 have u:(vI ((jN l r rs rs.length).2))=(vI r.gk):=by rw [u6]
 refine bL (ι:={z:Nat // (z≤rs.length)}) [2,3,4,7] [1,2,3,4,5,6,7] U U (fun z=>[(8,(vI ((jN l r rs z.1).2))),(9,(vI ((z.1:Int)-1)))]) (fun z=>[(own (some ⟨E,0,none⟩) rs.length 3 1 ((jQ l r rs z.1).map iC))]) (fun _=>rfl) (fun _=>rfl) (fun z=>z.1) ⟨rs.length,B⟩ (aY U u<|aV U) (aH [1,2,3,4,5,6,7,0]) ?_
 clear B
 rintro ⟨j,AC⟩ J10 F
 try dsimp only
 have A1:=GW (l:=l) (r:=r) (rs:=rs) (j:=j) I
 refine aj fun _ L=>WS fun _ M=>rP 2 [] mn ?_
 refine RK M<|bQ U (aO fun g=>?_) (aN fun g=>?_)
 ·refine bD<|ab<|ab<|ay<|KK q<|WS fun _ R=>rP 1 [] mn ?_
  rw [show (Value.slice (some ⟨E,0,none⟩) rs.length rs.length)=(Value.slice (some ⟨E,0,none⟩) ((jx l r rs).length) rs.length) from by rw [show (jx l r rs).length=rs.length from rv _ _]]
  rw [show jQ l r rs j=jx l r rs from by rw [show j=0 by omega]; exact DZ]
  refine rP 1 [] mn ?_
  refine RK R<|aq<|LX hQ ((some ⟨E,0,none⟩),rs.length) [7] [] mn U U U U ?_
  trivial
 refine WK L<|aj fun _ G=>ax<|aj fun _ H=>WS fun _ N=>rP 2 [] mn ?_
 have As:=w (rs.length-j) j I
 obtain ⟨x,hx⟩:=aJ rs (j-1) I
 have d:=bK iC hx
 refine rS (IA (j-1) U (aA 6 U) cw dc I I)<|rS (fT (j-1) 0 (vI x) U cd (aA 6 U) d U dc U)<|rP 1 [] mn ?_
 refine RK N<|bQ U (aO fun A=>?_) (aN fun A=>?_)
 ·refine WK H<|WS fun _ P=>rP 3 [] mn ?_
  obtain ⟨A7,c⟩:=aJ (jQ l r rs j) (j-1) I
  have hx25m:=bK iC c
  refine rS (IA (j-1) U (ag (n:=rs.length) 7 U sq) cw dc I I) ?_
  have V:((jQ l r rs j).set (j-1) ((jN l r rs j).2))=(jQ l r rs (j-1)):=by (rw [← zJ I hx]; congr 1; unfold tm; (rw [if_neg A]; done))
  refine dM (k:=(j-1)) (o:=0) (vs:=[(vI ((jN l r rs j).2))]) (es':=(List.map iC (jQ l r rs (j-1)))) (C':=[_,_,_,_,_,_,_,(own (some ⟨E,0,none⟩) rs.length 3 1 (List.map iC (jQ l r rs (j-1))))]) 7 U U U Cw U U U U hx25m U dc (by exact (List.map_set (f:=iC) (l:=(jQ l r rs j)) (i:=(j-1)) (a:=(jN l r rs j).2)).symm.trans (congrArg _ V)) U<|RK P<|ak<|rP 4 [] (mc 0 U mn) ?_
  obtain ⟨y,hy⟩:=aJ (cQ l l.ae.length) (j-1) I
  have K:=bK iC hy
  refine rS (IA (j-1) U (aA 3 U) cw dc I I)<|rS (fT (j-1) 0 (vI y) U cd (aA 3 U) K U dc U) ?_
  have C:=uR hy
  have AB:=nk J D (i:=j-1) I
  rw [← C] at AB
  refine bh 2 U<|aC<|aB<|KK G<|ak<|rP 3 [] mn ?_
  refine aC ?_
  have W:(vI ((jN l r rs (j-1)).2))=(vI (((jN l r rs j).2)-y)):=by exact cI (by rw [pR I hx]; simp only; unfold tm; rw [C]; (rw [if_neg A]; done))
  have X:(vI ((((j-1):Nat):Int)-1))=(vI (((j:Int)-1)-1)):=by exact cI I
  refine aR (F ⟨(j-1),(by first|omega|(simp only []; omega))⟩ _ _ _ U os (cK 4<|aY U W<|aY U X<|du.nil _) (aH [0,1,2,3,4,5,6,7]))
 refine dK cE 12 kr<|dP 5 [] (mc 0 U mn) ?_
 refine dS (IA (j-1) U (aA 6 U) cw dc I I)<|dS (fT (j-1) 0 (vI x) U cd (aA 6 U) d U dc U) ?_
 have A5:=hrs x (aT hx) A
 obtain ⟨z,hz⟩:=aJ (eY l r r.ah.length) ((x).toNat) I
 have Ai:=bK aa.cells hz
 refine dS (IA ((x).toNat) U (aA 4 U) gY dc I I)<|dS (mW ((((x).toNat)*2)+1) U (aA 4 U) (Nat.mul_pos I dc) fp U) ?_
 obtain ⟨s,hs,e⟩:=Jd hz
 have AO:=xI l s
 rw [← e] at AO
 have Y:MS l r x=z.Hi:=by rw [DM hs,e]
 refine dS (fT ((x).toNat) 1 (vI z.Hi) U cd (aA 4 U) Ai U dc U)<|dS (MN U)<|l5 1 U<|cR<|RK H<|WS fun _ O=>rP 3 [] mn ?_
 obtain ⟨A6,Z⟩:=aJ (jQ l r rs j) (j-1) I
 have hx19m:=bK iC Z
 refine rS (IA (j-1) U (ag (n:=rs.length) 7 U sq) cw dc I I) ?_
 have S:((jQ l r rs j).set (j-1) (min ((jN l r rs j).2) z.Hi))=(jQ l r rs (j-1)):=by (rw [← zJ I hx]; congr 1; unfold tm; (rw [if_pos A,Y]; done))
 refine dM (k:=(j-1)) (o:=0) (vs:=[(vI (min ((jN l r rs j).2) z.Hi))]) (es':=(List.map iC (jQ l r rs (j-1)))) (C':=[_,_,_,_,_,_,_,(own (some ⟨E,0,none⟩) rs.length 3 1 (List.map iC (jQ l r rs (j-1))))]) 7 U U U Cw U U U U hx19m U dc (by exact (List.map_set (f:=iC) (l:=(jQ l r rs j)) (i:=(j-1)) (a:=(min ((jN l r rs j).2) z.Hi))).symm.trans (congrArg _ S)) U<|RK O<|ak<|rP 4 [] (mc 0 U mn) ?_
 obtain ⟨y,hy⟩:=aJ (cQ l l.ae.length) (j-1) I
 have K:=bK iC hy
 refine rS (IA (j-1) U (aA 3 U) cw dc I I)<|rS (fT (j-1) 0 (vI y) U cd (aA 3 U) K U dc U) ?_
 have C:=uR hy
 have AB:=nk J D (i:=j-1) I
 rw [← C] at AB
 refine bh 2 U<|aC<|aB<|KK G<|ak<|rP 3 [] mn ?_
 refine aC ?_
 have T:(vI ((jN l r rs (j-1)).2))=(vI ((min ((jN l r rs j).2) z.Hi)-y)):=by exact cI (by rw [pR I hx]; simp only; unfold tm; rw [C]; (rw [if_pos A,Y]; done))
 have AA:(vI ((((j-1):Nat):Int)-1))=(vI (((j:Int)-1)-1)):=by exact cI I
 refine aR (F ⟨(j-1),(by first|omega|(simp only []; omega))⟩ _ _ _ U os (cK 4<|aY U T<|aY U AA<|du.nil _) (aH [0,1,2,3,4,5,6,7]))
end
section
open Go.RowKit
theorem GN (l:aZ) (kA:OA) (kC:Nat) (az:List RA) (cA:OA) (cC:Nat) (bA:OA) (bC:Nat) (r:cJ) (sgA:OA) (sgC:Nat) (vwA:OA) (vwC:Nat) (vtA:OA) (vtC:Nat) (vbA:OA) (vbC k:Nat) (rs:List Int) (rA:OA) (rC:Nat) (fs:List Int) (fA:OA) (fC:Nat) (hin:er l az) (hle:dC l=0) (hr:fm l r) (hk:rs.length+k=l.ae.length) (hfl:fs.length=rs.length) (hst:r.Start≤gf r.Start fs∧gf r.Start fs≤r.gk) (hrs: ∀ x∈rs,-1≤x∧x<(r.ah.length:Int)) (hrec: ∀ (k2:Nat) (rs2:List Int) (rA2:OA) (rC2:Nat) (fs2:List Int) (fA2:OA) (fC2:Nat),(k2<k)→(rs2.length+k2=l.ae.length)→(fs2.length=rs2.length)→(r.Start≤gf r.Start fs2∧gf r.Start fs2≤r.gk)→(∀ x∈rs2,-1≤x∧x<(r.ah.length:Int))→Dx Tryz.prog 192 [(vA (bW.cells (lh l kA kC cA cC bA bC))),(vA (dY.cells (lQ r sgA sgC))),(vA (iG.cells (iG.mk (bo.mk vwA ((cQ l l.ae.length).length) vwC) (bo.mk vtA ((eY l r r.ah.length).length) vtC) (bo.mk vbA ((fq l r r.ah.length).length) vbC)))),(vS rA2 rs2.length rC2),(vS fA2 fs2.length fC2)] [(rd kA l.aM.length 9 (l.aM.map al.cells)),(rd cA l.ai.length 2 (List.zipWith ar.cells l.ai az)),(fc (aU ar.g4 l.ai az)),(rd bA l.ae.length 4 (l.ae.map bH.cells)),(rd sgA r.ah.length 2 (r.ah.map aK.cells)),(rd vwA ((cQ l l.ae.length).length) 1 ((cQ l l.ae.length).map iC)),(rd vtA ((eY l r r.ah.length).length) 2 ((eY l r r.ah.length).map aa.cells)),(rd vbA ((fq l r r.ah.length).length) 1 ((fq l r r.ah.length).map p7))] (bw [own rA2 rC2 3 1 (rs2.map iC),own fA2 fC2 3 1 (fs2.map iC)]) (fun (x:(OA)×Nat×(List kz))=>(vS x.1 ((ib l r k2 rs2 fs2).length) x.2.1)) (fun (x:(OA)×Nat×(List kz))=>x.2.2.length=(ib l r k2 rs2 fs2).length) (fun (x:(OA)×Nat×(List kz))=>(bw (aU dj.owns (ib l r k2 rs2 fs2) x.2.2++[own x.1 x.2.1 269 3 (List.zipWith dj.cells (ib l r k2 rs2 fs2) x.2.2)])))):
 Dx Tryz.prog 192 [(vA (bW.cells (lh l kA kC cA cC bA bC))),(vA (dY.cells (lQ r sgA sgC))),(vA (iG.cells (iG.mk (bo.mk vwA ((cQ l l.ae.length).length) vwC) (bo.mk vtA ((eY l r r.ah.length).length) vtC) (bo.mk vbA ((fq l r r.ah.length).length) vbC)))),(vS rA rs.length rC),(vS fA fs.length fC)] [(rd kA l.aM.length 9 (l.aM.map al.cells)),(rd cA l.ai.length 2 (List.zipWith ar.cells l.ai az)),(fc (aU ar.g4 l.ai az)),(rd bA l.ae.length 4 (l.ae.map bH.cells)),(rd sgA r.ah.length 2 (r.ah.map aK.cells)),(rd vwA ((cQ l l.ae.length).length) 1 ((cQ l l.ae.length).map iC)),(rd vtA ((eY l r r.ah.length).length) 2 ((eY l r r.ah.length).map aa.cells)),(rd vbA ((fq l r r.ah.length).length) 1 ((fq l r r.ah.length).map p7))] (bw [own rA rC 3 1 (rs.map iC),own fA fC 3 1 (fs.map iC)]) (fun (x:(OA)×Nat×(List kz))=>(vS x.1 ((ib l r k rs fs).length) x.2.1)) (fun (x:(OA)×Nat×(List kz))=>x.2.2.length=(ib l r k rs fs).length) (fun (x:(OA)×Nat×(List kz))=>(bw (aU dj.owns (ib l r k rs fs) x.2.2++[own x.1 x.2.1 269 3 (List.zipWith dj.cells (ib l r k rs fs) x.2.2)]))):=by
 have R1:=hin.sQ
 have Qn:=hin.sr
 have Qg:=hin.od
 have Ql:=hin.sj
 obtain ⟨L2,GE⟩:=gR hle
 have LE:=GE.head
 unfold gE at LE
 have As:=hr.len
 have Rt:=hr.time
 have Rq:=eC (l:=l) (n:=l.ae.length)
 have R2:=rE (l:=l) (Nat.le_refl r.ah.length)
 have R0:=uV (l:=l) (Nat.le_refl r.ah.length)
 have R3:=tG rs
 refine mO kr Tryz.func192 U U fun w0 Q hQ hN=>?_
 try dsimp only
 refine BL 0 U U fun wz Sz hz=>?_
 try dsimp only
 refine WS fun _ KM=>fQ U fun b2=>fQ U fun b3=>fQ U fun b4=>bh 1 U<|RK KM<|WS fun _ Kj=>bh 1 U<|RK Kj<|WS fun _ K0=>bh 4 U<|RK K0<|aj fun _ K4=>WS fun _ K5=>rP 1 [] mn ?_
 refine RK K5<|ax ?_
 have C:(0≤rs.length):=by exact Nat.zero_le _
 have K8:(vI ((de (rs.take 0)).right))=(vI 0):=by rfl
 refine bL (ι:={z:Nat // (z≤rs.length)}) [3,4,5,6,7,11,12] [0,1,2,3,4,5,6,7,8,9,10,11] U U (fun z=>[(13,(vI ((de (rs.take z.1)).right))),(14,(vI (z.1:Int)))]) (fun z=>[]) (fun _=>rfl) (fun _=>rfl) (fun z=>rs.length-z.1) ⟨0,C⟩ (aY U K8<|aV U) (aH [0,1,2,3,4,5,6,7,8,9,10,11]) ?_
 clear C
 rintro ⟨i,La⟩ J10 g
 try dsimp only
 have Lk:=tG (rs.take i)
 rw [List.length_take] at Lk
 refine aj fun _ A2=>WS fun _ A3=>rP 3 [] mn ?_
 refine RK A3<|cH U (aN fun J4=>?_) (aO fun J4=>?_)
 ·refine WK A2<|aj fun _ h=>ax<|WS fun _ A4=>rP 2 [] mn ?_
  obtain ⟨x,hx⟩:=aJ rs i I
  have L3:=bK iC hx
  refine rS (IA i U (show jc _ (rd rA rs.length 1 (rs.map iC)).holds from (pU (c:=rC) (e:=3) 3 U sm sm)) cw dc I I)<|rS (fT i 0 (vI x) U cd (show jc _ (rd rA rs.length 1 (rs.map iC)).holds from (pU (c:=rC) (e:=3) 3 U sm sm)) L3 U dc U)<|rP 1 [] mn ?_
  refine RK A4<|bQ U (aO fun AO=>?_) (aN fun AO=>?_)
  ·refine bZ<|aB<|KK h<|ak<|rP 3 [] mn ?_
   refine aC ?_
   have Di:(vI ((de (rs.take (i+1))).right))=(vI ((de (rs.take i)).right)):=by exact cI (by rw [ue hx]; (rw [if_neg AO]; exact Int.add_zero _))
   have Dk:(vI (((i+1):Nat):Int))=(vI ((i:Int)+1)):=by exact cI I
   refine aR (g ⟨(i+1),(by first|omega|(simp only []; omega))⟩ _ _ _ U os (cK 7<|aY U Di<|aY U Dk<|du.nil _) (aH [0,1,2,3,4,5,6,7,8,9,10,11]))
  refine ak<|bh 3 U<|aC<|aB<|KK h<|ak<|rP 3 [] mn ?_
  refine aC ?_
  have C2:(vI ((de (rs.take (i+1))).right))=(vI (((de (rs.take i)).right)+1)):=by exact cI (by rw [ue hx]; (rw [if_pos AO]; done))
  have C3:(vI (((i+1):Nat):Int))=(vI ((i:Int)+1)):=by exact cI I
  refine aR (g ⟨(i+1),(by first|omega|(simp only []; omega))⟩ _ _ _ U os (cK 7<|aY U C2<|aY U C3<|du.nil _) (aH [0,1,2,3,4,5,6,7,8,9,10,11]))
 refine bD<|ab<|ab<|ay<|KK K4<|aj fun _ A5=>aj fun _ A6=>?_
 rw [show rs.take i=rs from List.take_of_length_le I]
 refine ak<|rP 6 [] (mc 2 U mn) ?_
 refine RK A6<|cH U (aN fun J6=>?_) (aO fun J6=>?_)
 ·refine WS fun _ A7=>dV 269 3<|rP 1 [] mn ?_
  refine RK A7<|aq<|Af (C1:=[(own none 0 269 3 [])]) hz [0] U U U<|Qx (W:=ib l r k rs fs) ?_
  rw [show (own none 0 269 3 [])=(own none 0 269 3 (List.zipWith dj.cells (ib l r k rs fs) [])) from by rw [nE I]; rfl]
  refine LM hQ (none,0,[]) 0 [] mn U (by show List.all _ _=true; rw [List.all_append,pA]; rfl) U ?_ ?_
  ·exact (by rw [nE I]; rfl)
  ·rw [nE I]; rfl
 refine WK A5 ?_
 refine oJ (ι:={z:(OA)×Nat×(List kz)×(List au) // (xM l r rs fs (rA,rC) (fA,fC) z.2.2.1 z.2.2.2)}) [3,4,5,6,7,12] [0,1,2,3,4,5,6,7,8,9,10,11] U U (fun z=>[(11,(vS z.1.1 ((gZ l r rs fs).length) z.1.2.1))]) (fun z=>[(own z.1.1 z.1.2.1 269 3 (List.zipWith dj.cells (gZ l r rs fs) z.1.2.2.1)),(bw z.1.2.2.2)]) (fun _=>rfl) (fun _=>rfl) ?_ fun K23 m=>?_
 ·rintro ⟨⟨oA,oC,E,LA⟩,H⟩
  try dsimp only at H
  try dsimp only
  have D:=H
  have LT:=D.len
  have Qr:=wP (l:=l) (r:=r) (rs:=rs) (fs:=fs)
  refine aj fun _ V=>WS fun _ A8=>rP 4 [] (mc 2 U mn) ?_
  have R4:=uT (l:=l) (r:=r) (rs:=rs) (fs:=fs) As (k:=k) I
  refine rP 1 [] mn ?_
  refine RK A8<|cH U (aN fun J7=>?_) (aO fun J7=>?_)
  ·refine WS fun _ A9=>bh 1 U<|rP 1 [] mn ?_
   refine RK A9<|aq ?_
   obtain rfl:k=0:=by omega
   refine Eu ?_
   try dsimp only
   refine Af (C1:=[(own oA oC 269 3 (List.zipWith dj.cells (gZ l r rs fs) E)),(bw LA),(bw (aU dj.owns [] []))]) hz [13,14,0] U U (by simp only [fw,List.all_nil,Bool.and_true,cU]; exact ⟨U,D.wr,pA _ _⟩) ?_
   refine JR (ra:=(rA,rC)) (fa:=(fA,fC)) (A':=(own oA oC 269 3 (List.zipWith dj.cells (ib l r 0 rs fs) E))) D ((List.append_nil _).trans (nI I).symm) (List.append_nil _) (by rw [nI I]) ?_
   refine LM hQ (oA,oC,E) 0 [] mn U (by show List.all _ _=true; rw [List.all_append,pA]; rfl) U ?_ ?_
   ·exact (by (rw [nI I]; rfl))
   ·rw [nI I]; exact LT
  refine WK V<|WS fun _ B3=>?_
  obtain ⟨B,rfl⟩: ∃ B,k=B+1:=⟨k-1,I⟩
  refine rP 3 [] (mc 1 U mn) ?_
  refine RK B3 ?_
  refine oJ (ι:=Unit) [3,4,5,6,7,11,12] [0,1,2,3,4,5,6,7,8,9,10,11,12,13] U U (fun z=>[(15,(vI (gf r.Start fs)))]) (fun z=>[]) (fun _=>rfl) (fun _=>rfl) ?_ fun K28 o=>?_
  ·intro _
   try dsimp only
   refine WS fun _ Z=>rP 4 [] (mc 0 U mn) ?_
   obtain ⟨yls,Hb⟩:=aJ (cQ l l.ae.length) (rs.length) I
   have H1:=bK iC Hb
   refine rS (IA rs.length U (aA 9 U) cw dc I I)<|rS (fT rs.length 0 (vI yls) U cd (aA 9 U) H1 U dc U) ?_
   have Rn:=nk L2 GE (i:=rs.length) I
   rw [uR Hb]
   refine bh 2 U<|RK Z<|aj fun _ B7=>WS fun _ B9=>rP 1 [] mn ?_
   refine RK B9<|ax ?_
   rw [show (gZ l r rs fs)=((gZ l r rs fs)++(iv l r B rs fs 0)) from (List.append_nil _).symm]
   rw [show E=E++[] from (List.append_nil _).symm]
   refine lX ?_
   try dsimp only
   have C:(0≤r.ah.length+1)∧(([]:List kz).length=(iv l r B rs fs 0).length):=by exact ⟨Nat.zero_le _,rfl⟩
   have d:(vI ((0:Int)-1))=(vI (-1)):=by exact cI I
   refine bL (ι:={z:Nat×(OA)×Nat×(List kz) // (z.1≤r.ah.length+1)∧(z.2.2.2.length=(iv l r B rs fs z.1).length)}) [3,4,5,6,7,12,15] [1,2,3,4,5,6,7,8,9,10,11,12,14] U U (fun z=>[(11,(vS z.1.2.1 (((gZ l r rs fs)++(iv l r B rs fs z.1.1)).length) z.1.2.2.1)),(16,(vI ((z.1.1:Int)-1)))]) (fun z=>[(bw (aU dj.owns (iv l r B rs fs z.1.1) z.1.2.2.2)),(own z.1.2.1 z.1.2.2.1 269 3 (List.zipWith dj.cells ((gZ l r rs fs)++(iv l r B rs fs z.1.1)) (E++z.1.2.2.2)))]) (fun _=>rfl) (fun _=>rfl) (fun z=>r.ah.length+1-z.1.1) ⟨(0,oA,oC,([]:List kz)),C⟩ (du.cons U<|aY U d<|du.nil _) (aH [1,2,3,4,5,6,7,8,9,10,11,12,14,0,13]) ?_
   clear C
   rintro ⟨⟨j,M,N,azW⟩,⟨f,A⟩⟩ J33 O
   try dsimp only at f A
   try dsimp only
   have L0:=Jr (l:=l) (r:=r) (k:=B) (j:=j) (rs:=rs) (fs:=fs) As I I
   refine aj fun _ Ci=>WS fun _ Ck=>rP 5 [] (mc 1 U mn) ?_
   refine RK Ck<|bQ U (aO fun J5=>?_) (aN fun J5=>?_)
   ·refine bD<|ab<|ab<|ay<|KK B7<|WS fun _ C0=>bh 1 U<|rP 1 [] mn ?_
    refine RK C0<|aq ?_
    refine Af (C1:=[(own M N 269 3 (List.zipWith dj.cells ((gZ l r rs fs)++(iv l r B rs fs j)) (E++azW))),(bw LA),(bw (aU dj.owns (iv l r B rs fs j) azW))]) hz [14,12,13] U U (by simp only [fw,List.all_nil,Bool.and_true,cU]; exact ⟨U,D.wr,pA _ _⟩) ?_
    refine JR (ra:=(rA,rC)) (fa:=(fA,fC)) (W:=ib l r (B+1) rs fs) (A':=(own M N 269 3 (List.zipWith dj.cells (ib l r (B+1) rs fs) (E++azW)))) D (by rw [nR I,ru,show r.ah.length+1=j by omega]) U (by rw [nR I,ru,show r.ah.length+1=j by omega]) ?_
    refine LM hQ (M,N,(E++azW)) 0 [] mn U (by show List.all _ _=true; rw [List.all_append,pA]; rfl) U ?_ ?_
    ·exact (by (rw [nR I,ru,show r.ah.length+1=j by omega]; rfl))
    ·rw [nR I,ru,show r.ah.length+1=j by omega]; simp only [List.length_append]; omega
   refine WK Ci<|aj fun _ P=>ax<|aj fun _ Cp=>dK cE 5 kr<|dP 5 [] (mc 1 U mn) ?_
   refine cR<|RK Cp ?_
   refine oJ (ι:={z:Int×Int // ((z.1≤z.2→oZ l r rs.length (gf r.Start fs+ej l rs.length) ((j:Int)-1)=some z.1)∧(¬ z.1≤z.2→oZ l r rs.length (gf r.Start fs+ej l rs.length) ((j:Int)-1)=none))∧(r.Start≤z.1∧z.2≤r.gk)}) [3,4,5,6,7,11,12,15,16] [0,1,2,3,4,5,6,7,8,9,10,11,12,13,14] U U (fun z=>[(17,(vI z.1.1)),(18,(vI z.1.2))]) (fun z=>[]) (fun _=>rfl) (fun _=>rfl) ?_ fun K39 p=>?_
   ·rintro ⟨⟨tt,ee⟩,⟨AB,J⟩⟩
    try dsimp only at AB J
    try dsimp only
    have F5:=AB
    have RE:=J
    refine WS fun _ a=>rP 3 [] mn ?_
    refine RK a<|bQ U (aO fun AA=>?_) (aN fun AA=>?_)
    ·refine bZ<|aB<|KK P<|ak<|rP 3 [] mn ?_
     refine aC ?_
     have L:(iv l r B rs fs (j+1))=(iv l r B rs fs j):=by exact qU (F5.2 AA)
     rw [← L]
     have Fm:(vI ((((j+1):Nat):Int)-1))=(vI (((j:Int)-1)+1)):=by exact cI I
     refine aR (O ⟨((j+1),M,N,azW),⟨I,by dsimp only; (rw [L]; exact A)⟩⟩ _ _ _ U os (cK 8<|aY U Fm<|du.nil _) (aH [0,1,2,3,4,5,6,7,8,9,10,11,12,13,14]))
    refine Ty (L':=[(3,(vS rA rs.length rC)),(4,(vS fA fs.length fC)),(5,(vP b2)),(6,(vP b3)),(7,(vP b4)),(11,(vS M (((gZ l r rs fs)++(iv l r B rs fs j)).length) N)),(12,(vI (rs.length:Int))),(15,(vI ((gf r.Start fs)+(ej l rs.length)))),(16,(vI ((j:Int)-1))),(17,(vI tt)),(18,(vI ee)),(123,(vI tt)),(124,(vI ee)),(125,(vB (decide (tt≤ee))))]) rfl<|pw cE [0,1,2,3,5,7,11,13] [4,6,8,9,10,12,14,15,16,17,18] [false,false,false,false,false,false,false,false] [] [(cb b4 266 (iG.cells (iG.mk (bo.mk vwA ((cQ l l.ae.length).length) vwC) (bo.mk vtA ((eY l r r.ah.length).length) vtC) (bo.mk vbA ((fq l r r.ah.length).length) vbC)))),(cb b3 60 (dY.cells (lQ r sgA sgC))),(cb b2 28 (bW.cells (lh l kA kC cA cC bA bC))),(bw [own rA rC 3 1 (rs.map iC),own fA fC 3 1 (fs.map iC)]).ro,(rd kA l.aM.length 9 (l.aM.map al.cells)).ro,(rd cA l.ai.length 2 (List.zipWith ar.cells l.ai az)).ro,(fc (aU ar.g4 l.ai az)).ro,(rd bA l.ae.length 4 (l.ae.map bH.cells)).ro,(rd sgA r.ah.length 2 (r.ah.map aK.cells)).ro,(rd vwA ((cQ l l.ae.length).length) 1 ((cQ l l.ae.length).map iC)).ro,(rd vtA ((eY l r r.ah.length).length) 2 ((eY l r r.ah.length).map aa.cells)).ro,(rd vbA ((fq l r r.ah.length).length) 1 ((fq l r r.ah.length).map p7)).ro,(bw LA),(bw (aU dj.owns (iv l r B rs fs j) azW))] [] kr (aH [0,1,2,3,4,5,6,7,8,9,10,11,12,13]) (aH [])<|eS rfl (MV rfl)<|eS rfl (LW 2 rfl cd rfl rfl)<|eS rfl (LW 1 rfl cd rfl rfl)<|eS rfl (LW 0 rfl cd rfl rfl)<|eS rfl (MV rfl)<|eS rfl (MV rfl)<|eS rfl (MV rfl)<|eS rfl (MV rfl)<|eT rfl<|NL [.take 4,.op 6,.take 8,.op 9,.take 10,.op 12,.take 14,.op 15,.op 16,.op 17,.op 18] [(133,(vI ((j:Int)-1))),(139,(vI tt))] (fun i=>match i with |4=>130|8=>134|10=>136|14=>140|_=>0) (fun i b=>match i with |4=> .slice (some ⟨b,0,none⟩) 0 0|8=> .slice (some ⟨b,0,none⟩) 1 1|10=> .slice (some ⟨b,0,none⟩) 0 0|14=> .slice (some ⟨b,0,none⟩) 1 1|_=>undef) (fun i b=>match i with |4=>cb b 3 []|8=>cb b 3 [(vI ((j:Int)-1))]|10=>cb b 3 []|14=>cb b 3 [(vI tt)]|_=>cb b 0 []) rfl rfl rfl kr rfl rfl (aH [0,1,2,3,4,5,6,7,8,9,10,11,12,13]) (vU (Mx rfl cw rfl rfl (fun _=>rfl) fun _=>rfl)<|yd<|vU (Pz (xs:=[.tmp 133]) (cs:=[(vI ((j:Int)-1))]) rfl cw js rfl rfl rfl rfl (by simp [Value.cells]) rfl rfl rfl (fun _=>rfl) fun _=>rfl)<|yd<|vU (Mx rfl cw rfl rfl (fun _=>rfl) fun _=>rfl)<|yd<|vU (Pz (xs:=[.tmp 139]) (cs:=[(vI tt)]) rfl cw js rfl rfl rfl rfl (by simp [Value.cells]) rfl rfl rfl (fun _=>rfl) fun _=>rfl)<|yd<|yd<|yd<|yd<|Qs) ?_
    intro In
    try dsimp only
    refine wH U fun Y X K hT=>cW (es:=(List.map iC [])) (C':=[own (some ⟨In,0,none⟩) 0 3 1 (List.map iC []),_,_,_,_,_,_,_,_,_,_,_,_,_,_,_]++X) 0 U sm U (by simp [maxLen]) U ?_
    refine cL (es2:=(List.map iC rs)) (m':=rs.length) 0 U U U o2 U U sm (show jc _ (rd rA rs.length 1 (rs.map iC)).holds from (pU (c:=rC) (e:=3) 4 U sm sm)) (jM _) (by first|omega|(simp; done)|(simp; omega)) (by (simp only [maxLen]; omega)) sm sm U fun PP P8=>?_
    try dsimp only
    refine sO hT 24 16 U U (fun w hs=>St.kq [1,2,3,4,5,6,7,8,9,10,11,12,13,14] U U hs) U U ?_
    try dsimp only [List.take]
    intro Pl
    try dsimp only
    refine wH U fun Y X K hT=>?_
    refine cL (es2:=(List.map iC (rs++[(j:Int)-1]))) (m':=(rs++[(j:Int)-1]).length) 1 U U U o2 U U sm (bf (es:=List.map iC [((j:Int)-1)]) 0 U U (by simp [bI]) U) (jM _) (by first|omega|(simp; done)|(simp; omega)) (by (simp only [maxLen]; omega)) sm sm U fun IW JQ=>?_
    try dsimp only
    refine sO hT 26 17 U U (fun w hs=>St.kq [2,3,4,5,6,7,8,9,10,11,12,13,14,15] U U hs) U U ?_
    try dsimp only [List.take]
    intro JM
    try dsimp only
    refine wH U fun Y X K hT=>cW (es:=(List.map iC [])) (C':=[own (some ⟨JM,0,none⟩) 0 3 1 (List.map iC []),_,_,_,_,_,_,_,_,_,_,_,_,_,_,_,_,_]++X) 0 U sm U (by simp [maxLen]) U ?_
    refine cL (es2:=(List.map iC fs)) (m':=fs.length) 0 U U U o2 U U sm (show jc _ (rd fA fs.length 1 (fs.map iC)).holds from (pU (c:=fC) (e:=3) 6 U sm sm)) (jM _) (by first|omega|(simp; done)|(simp; omega)) (by (simp only [maxLen]; omega)) sm sm U fun PW P_=>?_
    try dsimp only
    refine sO hT 28 18 U U (fun w hs=>St.kq [3,4,5,6,7,8,9,10,11,12,13,14,15,16] U U hs) U U ?_
    try dsimp only [List.take]
    intro Pt
    try dsimp only
    refine wH U fun Y X K hT=>?_
    refine cL (es2:=(List.map iC (fs++[tt]))) (m':=(fs++[tt]).length) 1 U U U o2 U U sm (bf (es:=List.map iC [tt]) 0 U U (by simp [bI]) U) (jM _) (by first|omega|(simp; done)|(simp; omega)) (by (simp only [maxLen]; omega)) sm sm U fun Id J2=>?_
    try dsimp only
    refine sO hT 30 19 U U (fun w hs=>St.kq [4,5,6,7,8,9,10,11,12,13,14,15,16,17] U U hs) U U ?_
    try dsimp only [List.take]
    refine wH U fun Y X K hT=>?_
    have R:=F5.1 AA
    refine xg<|rI 4 U ?_
    try dsimp only [List.eraseIdx]
    refine AZ U<|rI 2 U ?_
    try dsimp only [List.eraseIdx]
    refine AZ U ?_
    try dsimp only
    refine jd 0 rfl rfl rfl rfl (hrec B (rs++[(j:Int)-1]) IW JQ (fs++[tt]) Id J2 I (by simp only [List.length_append,List.length_singleton]; omega) (by simp only [List.length_append,List.length_singleton]; omega) (by rw [nt]; omega) (by intro x hx; rcases dJ.1 hx with hx|hx; exact hrs x hx; rw [bJ.1 hx]; omega)) rfl (ei 7 rfl rfl (dQ (bS _)) (ei 8 rfl rfl (dQ (bS _)) (ei 9 rfl rfl (dQ (bS _)) (ei 10 rfl rfl (dQ (bS _)) (ei 11 rfl rfl (dQ (bS _)) (ei 12 rfl rfl (dQ (bS _)) (ei 13 rfl rfl (dQ (bS _)) (ei 14 rfl rfl (dQ (bS _)) ks)))))))) rfl (fun NE A0=>?_)
    obtain ⟨Or,Os,v⟩:=NE
    try dsimp only
    dsimp only at A0
    refine sO hT 31 18 U U (fun w hs=>St.kq [3,4,5,6,7,8,9,10,11,12,13,14,15,16] U U hs) U U ?_
    try dsimp only [List.take]
    refine wH U fun Y X K hT=>rI 0 U ?_
    try dsimp only [List.eraseIdx]
    refine yR ?_
    have R5:=uT (l:=l) (r:=r) (k:=B) (rs:=(rs++[(j:Int)-1])) (fs:=(fs++[tt])) As I
    refine cL (es2:=(List.zipWith dj.cells ((gZ l r rs fs)++(iv l r B rs fs (j+1))) (E++(azW++v)))) (m':=((gZ l r rs fs)++(iv l r B rs fs (j+1))).length) 18 U U U PM U U (tM (by simp only [List.length_append]; omega)).symm (ag (n:=(ib l r B (rs++[(j:Int)-1]) (fs++[tt])).length) 0 U (tM A0)) (CB _ _) (by simp only [List.length_append]; omega) (by simp only [List.length_append,maxLen]; omega) (by rw [nu R,← List.append_assoc,← List.append_assoc]; exact (IF (by simp only [List.length_append]; omega)).symm) (tM (by rw [nu R]; simp only [List.length_append]; omega)) U fun If J3=>?_
    try dsimp only
    refine sO hT 32 19 U U (fun w hs=>St.kq [4,5,6,7,8,9,10,11,12,13,14,15,16,17] U U hs) U U ?_
    try dsimp only [List.take]
    refine wH U fun Y X K hT=>rS (AG U)<|sO hT 33 19 U U (fun w hs=>St.kq [4,5,6,7,8,9,10,11,12,13,14,15,16,17] U U hs) U U ?_
    try dsimp only [List.take]
    refine aB<|KK P<|ak<|rP 3 [] mn ?_
    refine aC<|Fk 1 U ?_
    try dsimp only [List.eraseIdx]
    refine Fk 17 U ?_
    try dsimp only [List.eraseIdx]
    refine Kp A ?_
    rw [← nu R]
    try dsimp only
    have Fd:(vI ((((j+1):Nat):Int)-1))=(vI (((j:Int)-1)+1)):=by exact cI I
    refine aR (O ⟨((j+1),If,J3,(azW++v)),⟨I,by dsimp only; (rw [nu R,List.length_append,List.length_append,A,A0])⟩⟩ _ _ _ U os (cK 8<|aY U Fd<|du.nil _) (aH [4,5,6,7,8,9,10,11,12,13,14,15,16,0,17]))
   refine WS fun _ a=>rP 2 [] mn ?_
   refine RK a<|bQ U (aO fun J9=>?_) (aN fun J9=>?_)
   ·refine bZ ?_
    refine aR (jT (aV U) (aH [0,1,2,3,4,5,6,7,8,9,10,11,12,13,14]) (p ⟨(((gf r.Start fs)+(ej l rs.length)),r.gk),⟨by exact Mc I,I⟩⟩))
   refine aj fun _ Cx=>WS fun _ u=>rP 3 [] (mc 1 U mn) ?_
   obtain ⟨s,hs⟩:=aJ r.ah ((((j:Int)-1)).toNat) I
   have Li:=bK aK.cells hs
   refine rS (IA ((((j:Int)-1)).toNat) U (aA 8 U) ym dc I I)<|rS (mW (((((j:Int)-1)).toNat)*2) U (aA 8 U) (Nat.mul_pos I dc) fp U)<|rS (fT ((((j:Int)-1)).toNat) 0 (vI s.gu) U cd (aA 8 U) Li U dc U) ?_
   have Ry:=(hr.sig _ s hs).1
   refine rP 3 [] mn ?_
   refine dh (t:=99) U (bu fun A1=>?_) (br fun A1=>?_)
   ·refine bh 7 U<|RK u<|aQ U<|bD<|ab<|ab<|ay<|KK P<|ak<|rP 3 [] mn ?_
    refine aC ?_
    have L:(iv l r B rs fs (j+1))=(iv l r B rs fs j):=by exact qU (yc I hs (fun q=>A1 I))
    rw [← L]
    have Eq:(vI ((((j+1):Nat):Int)-1))=(vI (((j:Int)-1)+1)):=by exact cI I
    refine aR (O ⟨((j+1),M,N,azW),⟨I,by dsimp only; (rw [L]; exact A)⟩⟩ _ _ _ U os (cK 8<|aY U Eq<|du.nil _) (aH [0,1,2,3,4,5,6,7,8,9,10,11,12,13,14]))
   refine rP 3 [] (mc 0 U mn) ?_
   obtain ⟨bs,Ai⟩:=aJ (fq l r r.ah.length) ((((j:Int)-1)).toNat) I
   have Fn:=bK p7 Ai
   refine rS (IA ((((j:Int)-1)).toNat) U (aA 11 U) Pm dc I I)<|rS (fT ((((j:Int)-1)).toNat) 0 (vB bs) U cd (aA 11 U) Fn U dc U)<|rP 2 [] mn ?_
   refine RK u<|cH U (fun F=>?_) (fun F=>?_)
   ·rw [Bool.not_eq_true'] at F
    refine bD<|ab<|ab<|ay<|KK P<|ak<|rP 3 [] mn ?_
    refine aC ?_
    have L:(iv l r B rs fs (j+1))=(iv l r B rs fs j):=by exact qU (yc I hs (fun q=>by rw [(CP hs Ai).2 q.2] at F; cases F))
    rw [← L]
    have FS:(vI ((((j+1):Nat):Int)-1))=(vI (((j:Int)-1)+1)):=by exact cI I
    refine aR (O ⟨((j+1),M,N,azW),⟨I,by dsimp only; (rw [L]; exact A)⟩⟩ _ _ _ U os (cK 8<|aY U FS<|du.nil _) (aH [0,1,2,3,4,5,6,7,8,9,10,11,12,13,14]))
   rw [Bool.not_eq_false'] at F
   refine WK Cx<|dK cE 18 kr<|dP 4 [] (mc 0 U mn) ?_
   obtain ⟨z,hz⟩:=aJ (eY l r r.ah.length) ((((j:Int)-1)).toNat) I
   have IO:=bK aa.cells hz
   refine dS (IA ((((j:Int)-1)).toNat) U (aA 10 U) gY dc I I)<|dS (mW (((((j:Int)-1)).toNat)*2) U (aA 10 U) (Nat.mul_pos I dc) fp U) ?_
   have IR:=Lb hs hz
   have Mo:=xI l s
   rw [← IR] at Mo
   have LD:(cN l s).Lo≤(cN l s).Hi:=(CP hs Ai).1 F
   refine dS (fT ((((j:Int)-1)).toNat) 0 (vI z.Lo) U cd (aA 10 U) IO U dc U)<|dS (MX U)<|mT 4 [] (mc 0 U mn) U<|dS (IA ((((j:Int)-1)).toNat) U (aA 10 U) gY dc I I)<|dS (mW ((((((j:Int)-1)).toNat)*2)+1) U (aA 10 U) (Nat.mul_pos I dc) fp U)<|dS (fT ((((j:Int)-1)).toNat) 1 (vI z.Hi) U cd (aA 10 U) IO U dc U)<|dS (MN U)<|dP 2 [] mn ?_
   refine cR<|aC ?_
   refine aR (jT (aV U) (aH [0,1,2,3,4,5,6,7,8,9,10,11,12,13,14]) (p ⟨((max ((gf r.Start fs)+(ej l rs.length)) z.Lo),(min r.gk z.Hi)),⟨by (rw [IR]; exact J_ I hs I LD),I⟩⟩))
  refine WS fun _ Z=>rP 2 [] mn ?_
  refine RK Z<|bQ U (aO fun J8=>?_) (aN fun J8=>?_)
  ·refine bZ ?_
   have Dz:(vI (gf r.Start fs))=(vI r.Start):=by exact cI (by have e:fs=[]:=jR I; rw [e]; rfl)
   refine aR (jT (cK 7<|aY U Dz<|du.nil _) (aH [0,1,2,3,4,5,6,7,8,9,10,11,12,13]) (o ()))
  refine ak<|rP 3 [] mn ?_
  obtain ⟨xf,GT⟩:=aJ fs (rs.length-1) I
  have Go:=bK iC GT
  refine rS (IA (rs.length-1) U (show jc _ (rd fA fs.length 1 (fs.map iC)).holds from (pU (c:=fC) (e:=3) 3 U sm sm)) cw dc I I)<|rS (fT (rs.length-1) 0 (vI xf) U cd (show jc _ (rd fA fs.length 1 (fs.map iC)).holds from (pU (c:=fC) (e:=3) 3 U sm sm)) Go U dc U)<|rP 1 [] mn ?_
  refine aC ?_
  have Do:(vI (gf r.Start fs))=(vI xf):=by exact cI (BP _ _ _ (by rw [hfl]; exact GT))
  refine aR (jT (cK 7<|aY U Do<|du.nil _) (aH [0,1,2,3,4,5,6,7,8,9,10,11,12,13]) (o ()))
 refine WS fun _ V=>rP 8 [0,1] (mc 1 U (mc 2 U mn)) ?_
 refine RK V<|bQ U (aO fun G=>?_) (aN fun G=>?_)
 ·refine bZ<|Eu<|GV 269 3 ?_
  rw [show (own none 0 269 3 [])=(own none 0 269 3 (List.zipWith dj.cells (gZ l r rs fs) [])) from by rw [xu G]; rfl]
  have EQ:(vS none ((gZ l r rs fs).length) 0)=(vS none 0 0):=by first|rfl|(rw [xu G]; rfl)
  refine aR (jT (cK 6<|aY U EQ<|du.nil _) (aH [2,3,4,5,6,7,8,9,10,11,12,13,0,1]) (m ⟨(none,0,[],[]),(by exact .inr ⟨G,U,U⟩)⟩))
 refine ak<|rP 6 [0,1] (mc 1 U (mc 0 U mn)) ?_
 refine cX (Mw r sgA sgC l vwA vwC vtA vtC vbA vbC rs rA rC hle hr I (by exact fun x hx h0=>(hrs x hx).2)) (l8 [8,9,10,11]<|av (show jc _ (rd rA rs.length 1 (rs.map iC)).holds from (pU (c:=rC) (e:=3) 3 U sm sm))<|aI) U fun M2 Op=>?_
 obtain ⟨S,T⟩:=M2
 try dsimp only
 refine rS (SX (bk (xs:=[(0,.tmp 48),(1,.tmp 49),(2,.tmp 53)]) (cs:=(wI.cells (wI.mk (bo.mk rA rs.length rC) (bo.mk fA fs.length fC) (bo.mk S ((jx l r rs).length) T)))) U U (bj T1 U)) U U)<|df (xs:=[.tmp 54]) (cs:=(wI.cells (wI.mk (bo.mk rA rs.length rC) (bo.mk fA fs.length fC) (bo.mk S ((jx l r rs).length) T)))) U GA SB U U U U (by simp [Value.cells,wI.aX]) U U fun Pi=>dV 269 3 ?_
 refine cL (es2:=(List.zipWith dj.cells (gZ l r rs fs) ([((rA,rC),(fA,fC),(S,T))]))) (m':=(gZ l r rs fs).length) 0 rfl rfl rfl PM rfl rfl rfl (bf (es:=List.zipWith dj.cells [(dj.mk rs fs (jx l r rs))] [((rA,rC),(fA,fC),(S,T))]) 1 rfl rfl (by intro e he; simp at he; subst he; rfl) rfl) (CB _ _) dc dc (by rw [zq G]; rfl) (by rw [zq G]; rfl) rfl fun y AC=>?_
 try dsimp only
 refine xg<|O_ 0 3 U U U ?_
 try dsimp only
 refine rP 1 [] mn ?_
 refine aC ?_
 have d:(vS y ((gZ l r rs fs).length) AC)=(vS y ((gZ l r rs fs).length) AC):=by first|rfl|(rw [xu G]; rfl)
 refine aR (jT (cK 6<|aY U d<|du.nil _) (aH [3,4,5,6,7,8,9,10,11,12,13,14,1,0]) (m ⟨(y,AC,[((rA,rC),(fA,fC),(S,T))],[(own S T 3 1 ((jx l r rs).map iC))]),(by exact .inl ⟨G,_,U,U⟩)⟩))
theorem QE (l:aZ) (kA:OA) (kC:Nat) (az:List RA) (cA:OA) (cC:Nat) (bA:OA) (bC:Nat) (r:cJ) (sgA:OA) (sgC:Nat) (vwA:OA) (vwC:Nat) (vtA:OA) (vtC:Nat) (vbA:OA) (vbC k:Nat) (rs:List Int) (rA:OA) (rC:Nat) (fs:List Int) (fA:OA) (fC:Nat) (hin:er l az) (hle:dC l=0) (hr:fm l r) (hk:rs.length+k=l.ae.length) (hfl:fs.length=rs.length) (hst:r.Start≤gf r.Start fs∧gf r.Start fs≤r.gk) (hrs: ∀ x∈rs,-1≤x∧x<(r.ah.length:Int)):
 Dx Tryz.prog 192 [(vA (bW.cells (lh l kA kC cA cC bA bC))),(vA (dY.cells (lQ r sgA sgC))),(vA (iG.cells (iG.mk (bo.mk vwA ((cQ l l.ae.length).length) vwC) (bo.mk vtA ((eY l r r.ah.length).length) vtC) (bo.mk vbA ((fq l r r.ah.length).length) vbC)))),(vS rA rs.length rC),(vS fA fs.length fC)] [(rd kA l.aM.length 9 (l.aM.map al.cells)),(rd cA l.ai.length 2 (List.zipWith ar.cells l.ai az)),(fc (aU ar.g4 l.ai az)),(rd bA l.ae.length 4 (l.ae.map bH.cells)),(rd sgA r.ah.length 2 (r.ah.map aK.cells)),(rd vwA ((cQ l l.ae.length).length) 1 ((cQ l l.ae.length).map iC)),(rd vtA ((eY l r r.ah.length).length) 2 ((eY l r r.ah.length).map aa.cells)),(rd vbA ((fq l r r.ah.length).length) 1 ((fq l r r.ah.length).map p7))] (bw [own rA rC 3 1 (rs.map iC),own fA fC 3 1 (fs.map iC)]) (fun (x:(OA)×Nat×(List kz))=>(vS x.1 ((ib l r k rs fs).length) x.2.1)) (fun (x:(OA)×Nat×(List kz))=>x.2.2.length=(ib l r k rs fs).length) (fun (x:(OA)×Nat×(List kz))=>(bw (aU dj.owns (ib l r k rs fs) x.2.2++[own x.1 x.2.1 269 3 (List.zipWith dj.cells (ib l r k rs fs) x.2.2)]))):=by
 induction k using Nat.strongRecOn generalizing rs rA rC fs fA fC with
 |ind k ih=>exact GN l kA kC az cA cC bA bC r sgA sgC vwA vwC vtA vtC vbA vbC k rs rA rC fs fA fC hin hle hr hk hfl hst hrs (fun L F D E C A B G H AA J K=>ih L G F D E C A B H AA J K)
end
section
open Go.RowKit
theorem Nc (l:aZ) (kA:OA) (kC:Nat) (az:List RA) (cA:OA) (cC:Nat) (bA:OA) (bC:Nat) (r:cJ) (sgA:OA) (sgC:Nat) (hin:er l az) (hsl:r.ah.length≤1000000):
 ld Tryz.prog 187 [(vA (bW.cells (lh l kA kC cA cC bA bC))),(vA (dY.cells (lQ r sgA sgC)))] [(rd kA l.aM.length 9 (l.aM.map al.cells)),(rd cA l.ai.length 2 (List.zipWith ar.cells l.ai az)),(fc (aU ar.g4 l.ai az)),(rd bA l.ae.length 4 (l.ae.map bH.cells)),(rd sgA r.ah.length 2 (r.ah.map aK.cells))] (fun (x:Bool×Int×(OA)×Nat×(List kz))=>bif x.1 then (vT [(vS x.2.2.1 ((qg l r).length) x.2.2.2.1),(vI 0)]) else (vT [(vS none 0 0),(vI x.2.1)])) (fun (x:Bool×Int×(OA)×Nat×(List kz))=>(x.1=true→(eJ l r 0=0∧x.2.2.2.2.length=(qg l r).length))∧(x.1=false→(x.2.1=eJ l r 0∧ ¬ eJ l r 0=0))) (fun (x:Bool×Int×(OA)×Nat×(List kz))=>bif x.1 then [(own x.2.2.1 x.2.2.2.1 269 3 (List.zipWith dj.cells (qg l r) x.2.2.2.2)),(bw (aU dj.owns (qg l r) x.2.2.2.2))] else []):=by
 have k:=hin.sQ
 have j:=hin.sr
 have h:=hin.od
 have i:=hin.sj
 refine dg kr Tryz.func187 U U fun o Q hQ hN=>?_
 try dsimp only
 refine WS fun _ X=>fQ U fun m=>fQ U fun n=>bh 2 U<|RK X<|aj fun _ Y=>WS fun _ Z=>fu 1 [] (mc 1 U mn) U<|rS (CL (Bp l kA kC az cA cC bA bC hin) (bg [2,3,4,5]) U)<|bh 1 U<|RK Z<|WS fun _ a=>rP 2 [] mn ?_
 refine RK a<|cH U (bu fun A=>?_) (br fun A=>?_)
 ·refine WS fun _ b=>rP 3 [] mn ?_
  refine RK b<|aq<|LX hQ (false,(dC l),none,0,[]) [] [] mn U (by rfl) U U ?_
  exact rL<|LI (ox (r:=r) (me:=0) A) A
 refine WK Y<|aj fun _ c=>WS fun _ d=>fu 2 [0,1] (mc 1 U (mc 0 U mn)) U<|rS (CL (O3 l kA kC az cA cC bA bC r sgA sgC hin (by exact hsl)) (bg [2,3,4,5,6]) U)<|rP 1 [] mn ?_
 refine RK d<|cH U (bu fun B=>?_) (br fun B=>?_)
 ·refine WS fun _ D=>rP 2 [] mn ?_
  refine RK D<|aq<|LX hQ (false,51,none,0,[]) [] [] mn U (by rfl) U U ?_
  exact rL<|qf (jt (me:=0) A B)
 refine WK c<|aj fun _ E=>dF cE [4,5,6] [] [] [0,1,2,3,4,5,6] [] U U U U U<|eS U (LW 1 U cd U U)<|eS U (LW 0 U cd U U)<|eS U (LW 1 U cd U U)<|eS U (LW 0 U cd U U)<|eT U<|cf U fun T12 J=>cX (NN l kA kC az cA cC bA bC r sgA sgC hin (by exact A) (by exact B)) (bg [2,3,4,5,6]) U fun e g=>?_
 obtain ⟨V,W,T,AA,R,S⟩:=e
 try dsimp only
 refine aC (J _ _ (aH [3,4,5,6,7,8,9]) ?_)
 refine cf U fun T21 K=>dV 3 1<|dV 3 1<|xg<|rI 1 U ?_
 try dsimp only [List.eraseIdx]
 refine AZ U<|rI 1 U ?_
 try dsimp only [List.eraseIdx]
 refine AZ U ?_
 try dsimp only
 refine jd 0 rfl rfl rfl rfl (QE l kA kC az cA cC bA bC r sgA sgC V W T AA R S l.ae.length ([]:List Int) none 0 ([]:List Int) none 0 hin (by exact A) (by exact B) sm (by rfl) (by exact ⟨Int.le_refl _,B.time.2.1⟩) (by intro x hx; cases hx)) rfl (ei 6 rfl rfl (dQ (bS _)) (ei 7 rfl rfl (dQ (bS _)) (ei 8 rfl rfl (dQ (bS _)) (ei 9 rfl rfl (dQ (bS _)) (ei 10 rfl rfl (dQ (bS _)) (ei 1 rfl rfl (kl sm) (ei 2 rfl rfl (kl sm) (ei 3 rfl rfl (kl sm) ks)))))))) rfl (fun f M=>?_)
 obtain ⟨N,O,P⟩:=f
 try dsimp only
 refine aC (K _ _ (aH [4,5,6,7,8,9,10]) ?_)
 refine cf U fun T26 L=>rI 0 U ?_
 try dsimp only [List.eraseIdx]
 refine yR ?_
 dsimp only at M
 refine rS (AG U)<|aC (L _ _ (aH [5,6,7,8,9,10,11]) ?_)
 refine fF U<|KK E<|aj fun _ F=>WS fun _ G=>rP 3 [] mn ?_
 refine RK G<|bQ U (aO fun C=>?_) (aN fun C=>?_)
 ·refine WK F<|WS fun _ AB=>rP 3 [] mn ?_
  refine RK AB<|aq ?_
  refine LX hQ (true,0,N,O,P) [0,1] [] mn U (by (show List.all _ _=true; simp only [cond_true,fw,List.all_nil,MC,Bool.and_true]; rfl)) U U ?_
  exact ⟨fun _=>⟨l7 A B U fun q=>C (by rw [show ib l r l.ae.length [] []=[] from (fx A B).2 q]; rfl),M⟩,NW⟩
 refine WS fun _ H=>rP 2 [] mn ?_
 refine RK H<|aq<|LX hQ (false,8,none,0,[]) [] [] mn U (by rfl) U U ?_
 exact rL<|qf (pI (me:=0) A B U ((fx A B).1 (jR (Int.natCast_eq_zero.1 C))))
theorem HR (ws:List dj) (wz:List kz) (wA:OA) (wC b:Nat) (hws:NJ ws) (hwz:wz.length=ws.length) (hb:b≤6):
 ep Tryz.prog 188 [(vS wA ws.length wC),(vI (b:Int))] [(rd wA ws.length 3 (List.zipWith dj.cells ws wz)),(fc (aU dj.g4 ws wz))] (vT [(vA (aa.cells (pD ws b))),(vI (pV ws b))]):=by
 have u:=hws.num
 refine bG kr Tryz.func188 U U fun x Q hQ hN=>?_
 try dsimp only
 refine WS fun _ g=>AL U dp fun w=>bh 1 U<|RK g<|WS fun _ h=>AL U dp fun t=>RK h<|WS fun _ j=>bh 1 U<|RK j<|aj fun _ k=>WS fun _ l=>rP 1 [] mn ?_
 refine RK l<|ax ?_
 have D:(0≤ws.length)∧(nY b (ws.take 0) false (aa.mk 0 0)):=by exact ⟨Nat.zero_le _,G0⟩
 refine bL (ι:={z:Nat×Bool×aa // (z.1≤ws.length)∧(nY b (ws.take z.1) z.2.1 z.2.2)}) [0,1,4,5,6] [1,2,3] U U (fun z=>[(7,(vB z.1.2.1)),(8,(vI (z.1.1:Int)))]) (fun z=>[(cb t 45 (aa.cells z.1.2.2))]) (fun _=>rfl) (fun _=>rfl) (fun z=>ws.length-z.1.1) ⟨(0,false,(aa.mk 0 0)),D⟩ (aV U) (aH [1,2,3,0]) ?_
 clear D
 rintro ⟨⟨i,fd,o⟩,⟨J,A⟩⟩ J8 H
 try dsimp only at J A
 try dsimp only
 refine aj fun _ m=>WS fun _ L=>rP 4 [] mn ?_
 refine RK L<|bQ U (aO fun c=>?_) (aN fun c=>?_)
 ·refine bD<|ab<|ab<|ay<|KK k<|aj fun _ R=>WS fun _ S=>rP 2 [] mn ?_
  refine RK S<|bQ U (fun B=>?_) (fun B=>?_)
  ·rw [Bool.not_eq_false'] at B
   refine WK R<|WS fun _ AA=>fu 1 [] (mc 3 U mn) U<|fX U cx U<|rP 1 [] mn ?_
   refine RK AA<|aq<|lG hQ [0] (mc 0 U mn) U ?_
   have AB:=zO (by have q:=A; rwa [List.take_of_length_le I] at q) hws.Fm
   (have q:=AB.2 B; rw [q.1,q.2]; done)
  rw [Bool.not_eq_true'] at B
  refine WS fun _ T=>rS (SX (bk (xs:=[]) (cs:=(aa.cells (aa.mk 0 0))) U U (bj gv U)) U U)<|fX U cx U<|rP 1 [] mn ?_
  refine RK T<|aq<|lG hQ [0] (mc 0 U mn) U ?_
  have AB:=zO (by have q:=A; rwa [List.take_of_length_le I] at q) hws.Fm
  (have q:=AB.1 B; rw [q.1,q.2]; done)
 refine WK m<|aj fun _ C=>ax<|aj fun _ M=>WS fun _ N=>rP 2 [] mn ?_
 obtain ⟨y,hy⟩:=aJ ws i I
 obtain ⟨ya,E⟩:=aJ wz i I
 have K:(List.zipWith dj.cells ws wz)[i]? =some (dj.cells y ya):=dG hy E
 refine rS (IA i U (aA 1 U) GA dc I I)<|rS (mW (i*3) U (aA 1 U) (Nat.mul_pos I dc) fp U)<|rS (fT i 0 (vS ya.1.1 y.gD.length ya.1.2) U cd (aA 1 U) K U dc U)<|rP 3 [] mn ?_
 refine RK N<|cH U (aN fun d=>?_) (aO fun d=>?_)
 ·refine bD<|ab<|ay<|KK C<|ak<|rP 3 [] mn ?_
  refine aC ?_
  have X:(vI (((i+1):Nat):Int))=(vI ((i:Int)+1)):=by exact cI I
  refine aR (H ⟨((i+1),fd,o),⟨I,by dsimp only; rw [lU hy]; exact Ec A I⟩⟩ _ _ _ U os (cK 6<|aY U X<|du.nil _) (aH [0,1,2,3]))
 refine WK M<|aj fun _ O=>dF cE [17,18] [] [] [0,1,2,3] [] U U U U U ?_
 have v:=hws.lens y (aT hy)
 obtain ⟨s,hs⟩: ∃ s,y.gD[b]? =some s:=⟨y.gD[b]'I,eM _⟩
 refine eS U (MV U)<|eS U (MV U)<|eS U (IA i U (aA 1 U) GA dc I I)<|eS U (mW ((i*3)+1) U (aA 1 U) (Nat.mul_pos I dc) fp U)<|eS U (fT i 1 (vS ya.2.1.1 y.iO.length ya.2.1.2) U cd (aA 1 U) K U dc U)<|eS U (MV U) ?_
 obtain ⟨f,hf⟩:=aJ y.iO b I
 have p:=bK iC hf
 refine eS U (IA b U (show jc _ (rd ya.2.1.1 y.iO.length 1 (y.iO.map iC)).holds from (dk 2 U (bV hy E (by simp [dj.g4])))) cw dc I I)<|eS U (fT b 0 (vI f) U cd (show jc _ (rd ya.2.1.1 y.iO.length 1 (y.iO.map iC)).holds from (dk 2 U (bV hy E (by simp [dj.g4])))) p U dc U)<|eS U (MV U)<|eS U (MV U)<|eS U (IA i U (aA 1 U) GA dc I I)<|eS U (mW ((i*3)+2) U (aA 1 U) (Nat.mul_pos I dc) fp U)<|eS U (fT i 2 (vS ya.2.2.1 y.lM.length ya.2.2.2) U cd (aA 1 U) K U dc U)<|eS U (MV U) ?_
 obtain ⟨e,he⟩:=aJ y.lM b I
 have n:=bK iC he
 refine eS U (IA b U (show jc _ (rd ya.2.2.1 y.lM.length 1 (y.lM.map iC)).holds from (dk 2 U (bV hy E (by simp [dj.g4])))) cw dc I I)<|eS U (fT b 0 (vI e) U cd (show jc _ (rd ya.2.2.1 y.lM.length 1 (y.lM.map iC)).holds from (dk 2 U (bV hy E (by simp [dj.g4])))) n U dc U)<|eS U (SX (bk (xs:=[(0,.tmp 31),(1,.tmp 39)]) (cs:=(aa.cells (aa.mk f e))) U U (bj gv U)) U U)<|eT U<|cf U fun T17 V=>AL U dp fun r=>aC (V _ _ (aH [1,2,3,4]) ?_)
 refine cf U fun T19 W=>fX U cx U<|aC (W _ _ (aH [1,2,3,4]) ?_)
 refine fF U<|KK O<|aj fun _ F=>WS fun _ P=>?_
 have a:=hws.le y (aT hy) b f e I hf he
 refine rP 1 [] mn ?_
 refine RK P<|bQ U (fun G=>?_) (fun G=>?_)
 ·refine WK F<|ak<|fu 1 [] (mc 0 U mn) U<|PI U cx U<|bh 1 U<|aC<|aB<|KK C<|ak<|rP 3 [] mn ?_
  refine aC ?_
  have Z:(vI (((i+1):Nat):Int))=(vI ((i:Int)+1)):=by exact cI I
  refine aR (H ⟨((i+1),true,(aa.mk f e)),⟨I,by dsimp only; rw [lU hy]; exact Dm A G hs hf he a⟩⟩ _ _ _ U os (cK 6<|aY U Z<|du.nil _) (aH [1,2,3,4]))
 refine ak<|fu 4 [0,1] (mc 0 U (mc 4 U mn)) U<|rS (MN U)<|fu 4 [0,1] (mc 0 U (mc 4 U mn)) U<|rS (MX U)<|rS (SX (bk (xs:=[(0,.tmp 46),(1,.tmp 51)]) (cs:=(aa.cells (aa.mk (min f o.Lo) (max e o.Hi)))) U U (bj gv U)) U U)<|fX U cx U<|RK F<|ak<|fu 1 [] (mc 0 U mn) U<|PI U cx U<|bh 1 U<|aC<|aB<|KK C<|ak<|rP 3 [] mn ?_
 refine aC ?_
 have Y:(vI (((i+1):Nat):Int))=(vI ((i:Int)+1)):=by exact cI I
 refine aR (H ⟨((i+1),true,(aa.mk (min f o.Lo) (max e o.Hi))),⟨I,by dsimp only; rw [lU hy]; exact Ev A G hs hf he a⟩⟩ _ _ _ U os (cK 6<|aY U Y<|du.nil _) (aH [1,2,3,4]))
end
section
open Go.RowKit
theorem QX (l:aZ) (kA:OA) (kC:Nat) (az:List RA) (cA:OA) (cC:Nat) (bA:OA) (bC:Nat) (r:cJ) (sgA:OA) (sgC:Nat) (hin:er l az) (hsl:r.ah.length≤1000000):
 ep Tryz.prog 178 [(vA (bW.cells (bW.mk (bB.mk (bo.mk kA l.aM.length kC)) l.gH (bo.mk cA l.ai.length cC) (bo.mk bA l.ae.length bC) l.cr l.eh l.cO))),(vA (dY.cells (lQ r sgA sgC)))] [(rd kA l.aM.length 9 (l.aM.map al.cells)),(rd cA l.ai.length 2 (List.zipWith ar.cells l.ai az)),(fc (aU ar.g4 l.ai az)),(rd bA l.ae.length 4 (l.ae.map bH.cells)),(rd sgA r.ah.length 2 (r.ah.map aK.cells))] (vT [(vA (aa.cells (Ax l r))),(vI (eW l r l.cr))]):=by
 have q:=hin.sQ
 have j:=hin.sr
 have h:=hin.od
 have i:=hin.sj
 refine bG kr Tryz.func178 U U fun y Q hQ hN=>?_
 try dsimp only
 refine WS fun _ Z=>fQ U fun v=>fQ U fun w=>AL U dp fun x=>bh 1 U<|RK Z<|WS fun _ P=>rP 2 [0,1] (mc 2 U (mc 1 U mn)) ?_
 refine cX (Nc l kA kC az cA cC bA bC r sgA sgC hin hsl) (bg [3,4,5,6,7]) U fun u V=>?_
 obtain ⟨W,g,e,Y,X⟩:=u
 cases W
 ·obtain ⟨R,he⟩:=V.2 rfl
  try dsimp only at R he
  subst R
  try dsimp only [cond_true,cond_false,List.cons_append,List.nil_append]
  refine bh 5 U<|RK P<|aj fun _ d=>WS fun _ G=>rP 2 [] mn ?_
  refine RK G<|bQ U (br fun F=>?_) (bu fun F=>?_)
  ·exact absurd F he
  refine WS fun _ H=>rS (SX (bk (xs:=[]) (cs:=(aa.cells (aa.mk 0 0))) U U (bj gv U)) U U)<|bh 1 U<|fX U cx U<|rP 1 [] mn ?_
  refine RK H<|aq<|lG hQ [0] (mc 0 U mn) U ?_
  (rw [Fb (fun z=>he ((vq he).symm.trans z)),vq he]<;>rfl)
 obtain ⟨he,C⟩:=V.1 rfl
 try dsimp only [cond_true,cond_false,List.cons_append,List.nil_append]
 try dsimp only at he C
 obtain ⟨T,E,_,k⟩:=kb he
 obtain ⟨s,c⟩:=gR T
 have a:=c.head
 unfold gE at a
 have AA:=PU T E
 have t:=AA.num
 have o:=E.len
 have p:=E.time
 refine bh 5 U<|RK P<|aj fun _ AB=>WS fun _ J=>rP 1 [] mn ?_
 refine rS (SX (b_ (r:= .bool false) U U U nK) U U)<|RK J<|aW U<|WK AB<|aj fun _ K=>?_
 obtain ⟨b,S⟩: ∃ b:Nat,l.cr=(b:Int):=⟨l.cr.toNat,I⟩
 have A:=Lr he (b:=b) I
 rw [← S] at A
 rw [S]
 refine ak<|fu 3 [] (mc 4 U mn) U<|rS (CL (HR (qg l r) X e Y b (by exact AA) (by exact C) I) (av (ag (n:=(qg l r).length) 0 U (tM C))<|av (dL 1 U N2)<|aI) U)<|bh 3 U<|AL U dp fun f=>fX U cx U<|bh 1 U<|RK K<|aj fun _ L=>WS fun _ M=>rP 2 [] mn ?_
 refine RK M<|cH U (bu fun B=>?_) (br fun B=>?_)
 ·refine WS fun _ N=>rS (SX (bk (xs:=[]) (cs:=(aa.cells (aa.mk 0 0))) U U (bj gv U)) U U)<|bh 1 U<|UH U cx U<|rP 1 [] mn ?_
  refine RK N<|aq<|lG hQ [0] (mc 3 U mn) U ?_
  (rw [Fb (fun z=>B (A.1.trans z)),← A.1]<;>rfl)
 refine WK L<|aj fun _ O=>?_
 have D:eW l r l.cr=0:=A.1.symm.trans B
 have m:=xB D
 rw [A.2]
 refine ak<|fu 10 [0,1,0,1] (mc 0 U (mc 4 U mn)) U<|rS (SX (bk (xs:=[(0,.tmp 34),(1,.tmp 39)]) (cs:=(aa.cells (aa.mk (((e9 l r l.cr).Lo)-r.Start) (((e9 l r l.cr).Hi)-r.Start)))) U U (bj gv U)) U U)<|UH U cx U<|rP 1 [] mn ?_
 refine RK O<|aq<|lG hQ [0] (mc 3 U mn) U ?_
 (rw [z5 D,D])
end
section
open Go.RowKit
theorem EO (l:aZ) (kA:OA) (kC:Nat) (az:List RA) (cA:OA) (cC:Nat) (bA:OA) (bC:Nat) (d:aw) (sgA:OA) (sgC:Nat) (hin:er l az) (hle:dC l=0) (hsl:d.cv.ah.length≤1000000) (hk:d.Out=true):
 ep Tryz.prog 150 [(vA (bW.cells (lh l kA kC cA cC bA bC))),(vA (bp.cells (bp.mk d.Out d.eU d.Time (lQ d.cv sgA sgC))))] [(rd kA l.aM.length 9 (l.aM.map al.cells)),(rd cA l.ai.length 2 (List.zipWith ar.cells l.ai az)),(fc (aU ar.g4 l.ai az)),(rd bA l.ae.length 4 (l.ae.map bH.cells)),(rd sgA d.cv.ah.length 2 (d.cv.ah.map aK.cells))] (vT [(vA (aa.cells (o5 l d))),(vB (decide (iy l d)))]):=by
 have K:=hin.sQ
 have J:=hin.sr
 have H:=hin.od
 have AA:=hin.sj
 refine bG kr Tryz.func150 U U fun O Q hQ hN=>?_
 try dsimp only
 refine WS fun _ B=>fQ U fun L=>fQ U fun M=>AL U dp fun N=>bh 1 U<|RK B<|aj fun _ E=>ax<|WS fun _ C=>rP 3 [] (mc 1 U mn) ?_
 refine RK C<|bQ U (fun G=>?_) (fun G=>?_)
 ·exact absurd ((hk).symm.trans G) dc
 refine WS fun _ A=>rS (SX (bk (xs:=[]) (cs:=(aa.cells (aa.mk 0 0))) U U (bj gv U)) U U)<|rP 4 [] (mc 1 U mn) ?_
 refine bY (t:=15) U (fun D=>?_) (fun D=>?_)
 ·rw [Bool.not_eq_false'] at D
  refine bh 10 U<|fX U cx U<|rP 1 [] mn ?_
  refine RK A<|aq<|lG hQ [0] (mc 0 U mn) U ?_
  clear hQ hN A C E B
  rw [AF hk]
  simp only [qT hk]
  refine congrArg (fun z=>Value.tuple #[_,vB z]) ?_
  first|rfl|(simp_all [dH]; done)
 rw [Bool.not_eq_true'] at D
 refine bh 1 U<|rS (LP (aa.cells d.Time) 1 U cd U U U)<|rS (SX (bk (xs:=[]) (cs:=(aa.cells (aa.mk 0 0))) U U (bj gv U)) U U)<|rS (BI U (ua _ _ d.Time (aa.mk 0 0)))<|rP 2 [] mn ?_
 refine bY (t:=21) U (aO fun F=>?_) (aN fun F=>?_)
 ·refine bh 4 U<|fX U cx U<|rP 1 [] mn ?_
  refine RK A<|aq<|lG hQ [0] (mc 0 U mn) U ?_
  clear hQ hN A C E B
  rw [AF hk]
  simp only [qT hk]
  refine congrArg (fun z=>Value.tuple #[_,vB z]) ?_
  first|rfl|(simp_all [dH]; done)
 refine bh 1 U<|rS (LP (dY.cells (lQ d.cv sgA sgC)) 1 U cd U U U)<|rS (CL (FZ d.cv sgA sgC) (bg [7]) U)<|bh 1 U<|fX U cx U<|rP 1 [] mn ?_
 refine RK A<|aq<|lG hQ [0] (mc 0 U mn) U ?_
 clear hQ hN A C E B
 rw [AF hk]
 simp only [qT hk]
 refine congrArg (fun z=>Value.tuple #[_,vB z]) ?_
 first|rfl|(simp_all [dH]; done)
theorem DI (l:aZ) (kA:OA) (kC:Nat) (az:List RA) (cA:OA) (cC:Nat) (bA:OA) (bC:Nat) (d:aw) (sgA:OA) (sgC:Nat) (hin:er l az) (hle:dC l=0) (hsl:d.cv.ah.length≤1000000) (hk:d.Out=false∧d.eU=true):
 ep Tryz.prog 150 [(vA (bW.cells (lh l kA kC cA cC bA bC))),(vA (bp.cells (bp.mk d.Out d.eU d.Time (lQ d.cv sgA sgC))))] [(rd kA l.aM.length 9 (l.aM.map al.cells)),(rd cA l.ai.length 2 (List.zipWith ar.cells l.ai az)),(fc (aU ar.g4 l.ai az)),(rd bA l.ae.length 4 (l.ae.map bH.cells)),(rd sgA d.cv.ah.length 2 (d.cv.ah.map aK.cells))] (vT [(vA (aa.cells (o5 l d))),(vB (decide (iy l d)))]):=by
 have N:=hin.sQ
 have M:=hin.sr
 have K:=hin.od
 have L:=hin.sj
 refine bG kr Tryz.func150 U U fun S Q hQ hN=>?_
 try dsimp only
 refine WS fun _ D=>fQ U fun O=>fQ U fun P=>AL U dp fun R=>bh 1 U<|RK D<|aj fun _ H=>ax<|WS fun _ E=>rP 3 [] (mc 1 U mn) ?_
 refine RK E<|cH U (fun J=>?_) (fun J=>?_)
 ·exact absurd ((hk.1).symm.trans J) dc
 refine WS fun _ F=>rP 3 [] (mc 1 U mn) ?_
 refine RK F<|bQ U (fun G=>?_) (fun G=>?_)
 ·exact absurd ((hk.2).symm.trans G) dc
 refine aj fun _ B=>dF cE [10] [] [] [1,2,3,4,5,6,7] [] U U U U U<|eS U (FA 2 U fp U)<|eS U (LP (aa.cells d.Time) 0 U cd U U U)<|eS U (FA 2 U fp U)<|eS U (LP (aa.cells d.Time) 0 U cd U U U)<|eS U (CL (Ny d.Time) (aI) U)<|eS U (MV U)<|rl (t:=34) U (fun A=>?_) (fun A=>?_)
 rotate_left 1
 ·replace A:=DF A
  refine eS U (OX U)<|eS U (OX U)<|eS U (OX U)<|eS U (PK U)<|eS U (AG U)<|eT U<|cf U fun T10 C=>fX U cx U<|aC (C _ _ (aH [1,2,3,4,5,6,7]) ?_)
  refine fF U<|KK B<|aq<|lG hQ [0] (mc 0 U mn) U ?_
  clear hQ hN C T10 B F E H D
  rw [Gv hk]
  simp only [tF hk]
  refine congrArg (fun z=>Value.tuple #[_,vB z]) ?_
  first|rfl|(simp_all; done)
 replace A:=DT A
 refine eS U (FA 4 U fp U)<|eS U (LP (dY.cells (lQ d.cv sgA sgC)) 0 U cd U U U)<|eS U (CL (FZ d.cv sgA sgC) (bg [6]) U)<|eS U (PK U)<|eS U (AG U)<|eT U<|cf U fun T9 AA=>fX U cx U<|aC (AA _ _ (aH [1,2,3,4,5,6,7]) ?_)
 refine fF U<|KK B<|aq<|lG hQ [0] (mc 0 U mn) U ?_
 clear hQ hN AA T9 B F E H D
 rw [Gv hk]
 simp only [tF hk]
 refine congrArg (fun z=>Value.tuple #[_,vB z]) ?_
 first|rfl|(simp_all; done)
theorem ER (l:aZ) (kA:OA) (kC:Nat) (az:List RA) (cA:OA) (cC:Nat) (bA:OA) (bC:Nat) (d:aw) (sgA:OA) (sgC:Nat) (hin:er l az) (hle:dC l=0) (hsl:d.cv.ah.length≤1000000) (hk:d.Out=false∧d.eU=false):
 ep Tryz.prog 150 [(vA (bW.cells (lh l kA kC cA cC bA bC))),(vA (bp.cells (bp.mk d.Out d.eU d.Time (lQ d.cv sgA sgC))))] [(rd kA l.aM.length 9 (l.aM.map al.cells)),(rd cA l.ai.length 2 (List.zipWith ar.cells l.ai az)),(fc (aU ar.g4 l.ai az)),(rd bA l.ae.length 4 (l.ae.map bH.cells)),(rd sgA d.cv.ah.length 2 (d.cv.ah.map aK.cells))] (vT [(vA (aa.cells (o5 l d))),(vB (decide (iy l d)))]):=by
 have O:=hin.sQ
 have N:=hin.sr
 have L:=hin.od
 have M:=hin.sj
 refine bG kr Tryz.func150 U U fun AA Q hQ hN=>?_
 try dsimp only
 refine WS fun _ E=>fQ U fun P=>fQ U fun R=>AL U dp fun S=>bh 1 U<|RK E<|aj fun _ F=>ax<|WS fun _ G=>rP 3 [] (mc 1 U mn) ?_
 refine RK G<|cH U (fun K=>?_) (fun K=>?_)
 ·exact absurd ((hk.1).symm.trans K) dc
 refine WS fun _ H=>rP 3 [] (mc 1 U mn) ?_
 refine RK H<|cH U (fun J=>?_) (fun J=>?_)
 ·exact absurd ((hk.2).symm.trans J) dc
 refine bZ<|aB<|KK F<|WS fun _ AB=>fu 2 [] (mc 2 U mn) U<|rS (LP (dY.cells (lQ d.cv sgA sgC)) 1 U cd U U U)<|rS (CL (QX l kA kC az cA cC bA bC d.cv sgA sgC hin hsl) (bg [3,4,5,6,7]) U)<|bh 3 U<|AL U dp fun T=>fX U cx U<|rP 1 [] mn ?_
 refine RK AB<|aj fun _ A=>dF cE [9] [] [] [0,2,3,4,5,6,7,8] [] U U U U U<|eS U (LW 0 U cd U U)<|eS U (MV U)<|eS U (BI U mJ)<|eS U (MV U)<|rl (t:=49) U (fun B=>?_) (fun B=>?_)
 rotate_left 1
 ·replace B:=DF B
  refine eS U (OX U)<|eS U (OX U)<|eS U (OX U)<|eS U (OX U)<|eS U (PK U)<|eS U (AG U)<|eT U<|cf U fun T12 D=>sT U cx U<|aC (D _ _ (aH [0,2,3,4,5,6,7,8]) ?_)
  refine fF U<|KK A<|aq<|lG hQ [0] (mc 1 U mn) U ?_
  clear hQ hN D T12 A AB H G F E
  rw [FE hk]
  simp only [sW hk]
  refine congrArg (fun z=>Value.tuple #[_,vB z]) ?_
  first|rfl|(simp_all [dH]; done)
 replace B:=DT B
 refine eS U (FA 2 U fp U)<|eS U (LP (aa.cells d.Time) 1 U cd U U U)<|eS U (SX (bk (xs:=[]) (cs:=(aa.cells (aa.mk 0 0))) U U (bj gv U)) U U)<|eS U (BI U (ua _ _ d.Time (aa.mk 0 0)))<|eS U (PK U)<|eS U (AG U)<|eT U<|cf U fun T11 C=>sT U cx U<|aC (C _ _ (aH [0,2,3,4,5,6,7,8]) ?_)
 refine fF U<|KK A<|aq<|lG hQ [0] (mc 1 U mn) U ?_
 clear hQ hN C T11 A AB H G F E
 rw [FE hk]
 simp only [sW hk]
 refine congrArg (fun z=>Value.tuple #[_,vB z]) ?_
 first|rfl|(simp_all [dH]; done)
theorem HH (l:aZ) (kA:OA) (kC:Nat) (az:List RA) (cA:OA) (cC:Nat) (bA:OA) (bC:Nat) (d:aw) (sgA:OA) (sgC:Nat) (hin:er l az) (hle:dC l=0) (hsl:d.cv.ah.length≤1000000):
 ep Tryz.prog 150 [(vA (bW.cells (lh l kA kC cA cC bA bC))),(vA (bp.cells (bp.mk d.Out d.eU d.Time (lQ d.cv sgA sgC))))] [(rd kA l.aM.length 9 (l.aM.map al.cells)),(rd cA l.ai.length 2 (List.zipWith ar.cells l.ai az)),(fc (aU ar.g4 l.ai az)),(rd bA l.ae.length 4 (l.ae.map bH.cells)),(rd sgA d.cv.ah.length 2 (d.cv.ah.map aK.cells))] (vT [(vA (aa.cells (o5 l d))),(vB (decide (iy l d)))]):=by
 by_cases ho:d.Out=true
 ·exact EO l kA kC az cA cC bA bC d sgA sgC hin hle hsl ho
 by_cases hf:d.eU=true
 ·exact DI l kA kC az cA cC bA bC d sgA sgC hin hle hsl ⟨by simpa using ho,hf⟩
 ·exact ER l kA kC az cA cC bA bC d sgA sgC hin hle hsl ⟨by simpa using ho,by simpa using hf⟩
end
section
open Go.RowKit
theorem EB (r:bT) (kA:OA) (kC:Nat) (az:List RA) (cA:OA) (cC:Nat) (bA:OA) (bC:Nat) (slA:OA) (slC:Nat) (drA:OA) (drC:Nat) (ha:List cy) (heA:OA) (heC:Nat) (hin:eO r az ha) (hle:dC r.ao=0):
 ld Tryz.prog 109 [(vA (cp.cells (oQ r kA kC cA cC bA bC slA slC drA drC heA heC)))] [(rd kA r.ao.aM.length 9 (r.ao.aM.map al.cells)),(rd cA r.ao.ai.length 2 (List.zipWith ar.cells r.ao.ai az)),(fc (aU ar.g4 r.ao.ai az)),(rd bA r.ao.ae.length 4 (r.ao.ae.map bH.cells)),(rd slA r.aL.length 1 (r.aL.map iC)),(rd drA r.bE.length 1 (r.bE.map iC)),(rd heA r.an.length 1 (List.zipWith ct r.an ha)),(fc (aU iw r.an ha))] (fun (x:Bool×Int×(OA)×Nat×(List RA))=>bif x.1 then (vT [(vS x.2.2.1 ((cS r).length) x.2.2.2.1),(vB true)]) else (vT [(vS none 0 0),(vB false)])) (fun (x:Bool×Int×(OA)×Nat×(List RA))=>(x.1=true→(eP r∧x.2.2.2.2.length=r.an.length))∧(x.1=false→(x.2.1=0∧ ¬ eP r))) (fun (x:Bool×Int×(OA)×Nat×(List RA))=>bif x.1 then [(own x.2.2.1 x.2.2.2.1 109 1 (List.zipWith Eb (cS r) x.2.2.2.2)),(bw (aU DA (cS r) x.2.2.2.2))] else []):=by
 have Mo:=hin.line
 have PW:=hin.iH
 have Pi:=hin.has
 have Nr:=hin.iI
 have Na:=hin.draw
 have Op:=dE (r:=r)
 refine dg kr Tryz.func109 U U fun w0 Q hQ hN=>?_
 try dsimp only
 refine WS fun _ LD=>fQ U fun b2=>bh 2 U<|RK LD<|WS fun _ LE=>fu 4 [] (mc 0 U mn) U<|RK LE<|aj fun _ LT=>WS fun _ N=>bh 1 U<|rS (CL (pb (r.aL.length:Int) 1 5) (aI) U)<|rP 2 [] mn ?_
 refine dh (t:=19) U (bu fun J7=>?_) (br fun J7=>?_)
 ·refine bh 19 U<|RK N<|aQ U<|WS fun _ La=>rP 2 [] mn ?_
  refine RK La<|aq<|LX hQ (false,0,none,0,[]) [] [] mn U (by rfl) U U ?_
  (exact ⟨Bf,fun _=>⟨rfl,fun q=>by have S:=q.num; have q2:=q.sP; have q3:=q.nh; have q4:=q.yA; omega⟩⟩)
 refine rP 7 [] (mc 0 U mn) ?_
 refine dh (t:=26) U (bu fun X=>?_) (br fun X=>?_)
 ·refine bh 12 U<|RK N<|aQ U<|WS fun _ Li=>rP 2 [] mn ?_
  refine RK Li<|aq<|LX hQ (false,0,none,0,[]) [] [] mn U (by rfl) U U ?_
  (exact ⟨Bf,fun _=>⟨rfl,fun q=>by have S:=q.num; have q2:=q.sP; have q3:=q.nh; have q4:=q.yA; omega⟩⟩)
 refine fu 2 [] (mc 0 U mn) U<|rS (CL (pb r.gJ 0 5) (aI) U)<|rP 3 [] mn ?_
 refine dh (t:=32) U (bu fun J8=>?_) (br fun J8=>?_)
 ·refine bh 6 U<|RK N<|aQ U<|WS fun _ Lk=>rP 2 [] mn ?_
  refine RK Lk<|aq<|LX hQ (false,0,none,0,[]) [] [] mn U (by rfl) U U ?_
  (exact ⟨Bf,fun _=>⟨rfl,fun q=>by have S:=q.num; have q2:=q.sP; have q3:=q.nh; have q4:=q.yA; omega⟩⟩)
 refine fu 3 [] (mc 0 U mn) U<|rS (CL (pb (r.an.length:Int) 1 3) (aI) U)<|rP 2 [] mn ?_
 refine RK N<|cH U (bu fun KM=>?_) (br fun KM=>?_)
 ·refine WS fun _ Lo=>rP 2 [] mn ?_
  refine RK Lo<|aq<|LX hQ (false,0,none,0,[]) [] [] mn U (by rfl) U U ?_
  (exact ⟨Bf,fun _=>⟨rfl,fun q=>by have S:=q.num; have q2:=q.sP; have q3:=q.nh; have q4:=q.yA; omega⟩⟩)
 refine WK LT<|aj fun _ o=>WS fun _ p=>rP 1 [] mn ?_
 refine RK p<|ax ?_
 have A:(0≤r.aL.length)∧(xj r 0):=by exact ⟨Nat.zero_le _,Kq⟩
 refine bL (ι:={z:Nat // (z≤r.aL.length)∧(xj r z)}) [1,4] [0,1,2,3,4,5,6,7,8] U U (fun z=>[(5,(vI (z.1:Int)))]) (fun z=>[]) (fun _=>rfl) (fun _=>rfl) (fun z=>r.aL.length-z.1) ⟨0,A⟩ (aV U) (aH [0,1,2,3,4,5,6,7,8]) ?_
 clear A
 rintro ⟨i,⟨L3,AB⟩⟩ J12 T
 try dsimp only
 refine aj fun _ s=>WS fun _ v=>rP 3 [] mn ?_
 refine RK v<|bQ U (aO fun J6=>?_) (aN fun J6=>?_)
 ·refine bD<|ab<|ab<|ay<|KK o<|WS fun _ B7=>bh 1 U<|RK B7<|aj fun _ B9=>WS fun _ Ci=>rP 1 [] mn ?_
  refine RK Ci<|ax<|fZ 109 1<|lX ?_
  have A:(0≤r.an.length)∧(([]:List RA).length=0)∧(kh r 0):=by exact ⟨Nat.zero_le _,rfl,xo⟩
  refine bL (ι:={z:Nat×(List RA)×(OA)×Nat // (z.1≤r.an.length)∧(z.2.1.length=z.1)∧(kh r z.1)}) [1,4] [2,3,4,5,6,7,8,9,10] U U (fun z=>[(7,(vS z.1.2.2.1 ((List.zipWith BO (gL r z.1.1) z.1.2.1).length) z.1.2.2.2)),(8,(vI (z.1.1:Int)))]) (fun z=>[(bw (aU DA (gL r z.1.1) z.1.2.1)),(own z.1.2.2.1 z.1.2.2.2 109 1 (List.map sC (List.zipWith BO (gL r z.1.1) z.1.2.1)))]) (fun _=>rfl) (fun _=>rfl) (fun z=>r.an.length-z.1.1) ⟨(0,([]:List RA),none,0),A⟩ (aV U) (aH [2,3,4,5,6,7,8,9,10,0,1]) ?_
  clear A
  rintro ⟨⟨h,tz,a,c⟩,⟨P,C,F⟩⟩ J46 l
  try dsimp only at P C F
  try dsimp only
  refine aj fun _ Ck=>WS fun _ Cp=>rP 5 [] (mc 0 U mn) ?_
  refine RK Cp<|bQ U (aO fun K0=>?_) (aN fun K0=>?_)
  ·refine bD<|ab<|ab<|ay<|KK B9<|aj fun _ Fn=>?_
   have L2:gL r h=cS r:=by unfold cS; rw [show h=r.an.length by omega]
   have M2:tz.length=r.an.length:=by omega
   rw [L2,zl,show (List.zipWith BO (cS r) tz).length=(cS r).length from by rw [List.length_zipWith]; omega]
   have Id:eP r:=HS (n:=i) I I I I I AB F I
   refine ak<|rP 3 [] mn ?_
   refine RK Fn<|aq ?_
   refine LX hQ (true,0,a,c,tz) [10,9] [] mn U (by (show List.all _ _=true; simp only [cond_true,fw,List.all_nil,xP,Bool.and_true]; rfl)) U U ?_
   exact ⟨fun _=>⟨Id,M2⟩,NW⟩
  refine WK Ck<|aj fun _ Cx=>ax<|aj fun _ C0=>WS fun _ C1=>rP 3 [] (mc 0 U mn) ?_
  obtain ⟨ht,D⟩:=aJ r.an h I
  obtain ⟨E,H⟩:=aJ ha h I
  have W:(List.zipWith ct r.an ha)[h]? =some (ct ht E):=dG D H
  refine rS (IA h U (aA 7 U) nA dc I I) ?_
  have IW:=hin.nN _ _ _ D H
  have Ne:=IW.od
  refine rS (fT h 0 (vS E.1.1 ht.length E.1.2) U cd (aA 7 U) W U dc U)<|rP 3 [] mn ?_
  refine RK C1<|cH U (bu fun e=>?_) (br fun e=>?_)
  ·refine WS fun _ C2=>rP 2 [] mn ?_
   refine RK C2<|aq<|LX hQ (false,0,none,0,[]) [] [] mn U (by rfl) U U ?_
   (exact ⟨Bf,fun _=>⟨rfl,fun q=>by have S:=(q.nN ht (aT D)).1; omega⟩⟩)
  refine WK C0<|WS fun _ C3=>bh 1 U<|RK C3<|aj fun _ Di=>WS fun _ Dk=>rP 1 [] mn ?_
  refine RK Dk<|ax<|fZ 45 2 ?_
  have A:(0≤ht.length)∧(oy r.ao ht 0):=by exact ⟨Nat.zero_le _,vz⟩
  refine bL (ι:={z:Nat×(OA)×Nat // (z.1≤ht.length)∧(oy r.ao ht z.1)}) [1,4,7,8] [1,2,3,4,5,6,7,8,9,10,11] U U (fun z=>[(9,(vS z.1.2.1 (((ht.take z.1.1).map (dI r.ao)).length) z.1.2.2)),(10,(vI (z.1.1:Int)))]) (fun z=>[(own z.1.2.1 z.1.2.2 45 2 (((ht.take z.1.1).map (dI r.ao)).map aa.cells))]) (fun _=>rfl) (fun _=>rfl) (fun z=>ht.length-z.1.1) ⟨(0,none,0),A⟩ (aV U) (aH [1,2,3,4,5,6,7,8,9,10,11,0]) ?_
  clear A
  rintro ⟨⟨j,la,lc⟩,⟨R,G⟩⟩ J57 m
  try dsimp only at R G
  try dsimp only
  refine aj fun _ Do=>WS fun _ Dz=>rP 3 [] mn ?_
  refine RK Dz<|bQ U (aO fun K8=>?_) (aN fun K8=>?_)
  ·refine bD<|ab<|ab<|ay<|KK Di<|ak ?_
   rw [show ((ht.take j).map (dI r.ao))=ht.map (dI r.ao) from by rw [List.take_of_length_le I]]
   refine rP 2 [] mn ?_
   refine df (xs:=[.tmp 137]) (cs:=[(vS la ((ht.map (dI r.ao)).length) lc)]) U FD PL U U U U (by simp [Value.cells]) U U fun PP=>?_
   refine cL (es2:=(List.map sC (List.zipWith BO (gL r (h+1)) (tz++[(la,lc)])))) (m':=(List.zipWith BO (gL r (h+1)) (tz++[(la,lc)])).length) 11 U U U PD U U sm (bf (es:=List.map sC [(bo.mk la ((ht.map (dI r.ao)).length) lc)]) 0 U U (by simp [yK]) U) (JP _) (by rw [List.length_zipWith,kQ I]; omega) (by rw [List.length_zipWith,kQ I]; simp only [maxLen]; omega) (by rw [th D C,List.map_append]; rfl) (by rw [th D C]; simp) U fun J3 J5=>?_
   try dsimp only
   refine bh 1 U<|aC<|aB<|KK Cx<|ak<|rP 3 [] mn ?_
   refine aC<|zk (X':=aU DA (gL r (h+1)) (tz++[(la,lc)])) 10 12 U U (CW (a:=(la,lc)) D C) ?_
   have IO:(vI (((h+1):Nat):Int))=(vI ((h:Int)+1)):=by exact cI I
   refine aR (l ⟨((h+1),(tz++[(la,lc)]),J3,J5),⟨I,by simp; omega,wK F D (FR I G I)⟩⟩ _ _ _ U os (cK 3<|aY U IO<|du.nil _) (aH [2,3,4,5,6,7,8,9,10,0,11]))
  refine WK Do<|aj fun _ EQ=>ax<|aj fun _ Eq=>dF cE [14,15] [] [] [0,1,2,3,4,5,6,7,8,9,10,11] [] U U U U U<|eS U (FA 0 U fp U)<|eS U (LP (bW.cells (lh r.ao kA kC cA cC bA bC)) 0 U cd U U U)<|eS U (FA 10 U fp U)<|eS U (L1 (vS heA r.an.length heC) 0 U cd U U)<|eS U (MV U)<|eS U (IA h U (aA 7 U) nA dc I I)<|eS U (fT h 0 (vS E.1.1 ht.length E.1.2) U cd (aA 7 U) W U dc U)<|eS U (MV U) ?_
  obtain ⟨d,hd⟩:=aJ ht j I
  obtain ⟨da,IR⟩:=aJ E.2 j I
  have L0:(List.zipWith aw.cells ht E.2)[j]? =some (aw.cells d da):=dG hd IR
  refine eS U (IA j U (show jc _ (rd E.1.1 ht.length 7 (List.zipWith aw.cells ht E.2)).holds from (dk 8 U (bV D H cm))) ug dc I I)<|eS U (oT j 0 (bp.cells (bp.mk d.Out d.eU d.Time (dY.mk d.cv.Start d.cv.gk (bo.mk da.1 d.cv.ah.length da.2)))) U cd (show jc _ (rd E.1.1 ht.length 7 (List.zipWith aw.cells ht E.2)).holds from (dk 8 U (bV D H cm))) L0 U dc U U) ?_
  have Pl:=IW.sig d (aT hd)
  refine eS U (CL (HH r.ao kA kC az cA cC bA bC d da.1 da.2 asm hle asm) (l8 [1,2,3,4]<|av (show jc _ (rd da.1 d.cv.ah.length 2 (d.cv.ah.map aK.cells)).holds from (dk 8 U (bV D H (cV _ (bV hd IR (by simp [aw.g4]))))))<|aI) U)<|eS U (MV U)<|eS U (EX U)<|eS U (EX U)<|eS U (AG U)<|eT U<|cf U fun T63 F5=>AL U dp fun Or=>aC (F5 _ _ (aH [1,2,3,4,5,6,7,8,9,10,11,12]) ?_)
  refine cf U fun T65 GE=>fX U cx U<|aC (GE _ _ (aH [1,2,3,4,5,6,7,8,9,10,11,12]) ?_)
  refine fF U<|KK Eq<|aj fun _ FS=>WS fun _ Fd=>rP 2 [] mn ?_
  refine RK Fd<|cH U (bu fun J=>?_) (br fun J=>?_)
  ·refine WS fun _ Fm=>rP 2 [] mn ?_
   refine RK Fm<|aq<|LX hQ (false,0,none,0,[]) [] [] mn U (by rfl) U U ?_
   (exact ⟨Bf,fun _=>⟨rfl,fun q=>by exact J ((q.nN ht (aT D)).2 d (aT hd))⟩⟩)
  refine WK FS<|ak<|rP 2 [] (mc 0 U mn) ?_
  refine df (xs:=[.tmp 133]) (cs:=(aa.cells (o5 r.ao d))) U gY dp U U U U (by simp [Value.cells,aa.aX]) U U fun Os=>?_
  refine cL (es2:=(List.map aa.cells ((ht.take (j+1)).map (dI r.ao)))) (m':=((ht.take (j+1)).map (dI r.ao)).length) 13 U U U xq U U sm (bf (es:=List.map aa.cells [(o5 r.ao d)]) 0 U U (by simp [aa.aX]) U) (g6 _) (by simp only [List.length_map,List.length_take]; omega) (by simp only [maxLen,List.length_map,List.length_take]; omega) (by rw [List.take_add_one,hd]; simp [Ja J]) sq U fun J2 J4=>?_
  try dsimp only
  refine bh 1 U<|aC<|aB<|KK EQ<|ak<|rP 3 [] mn ?_
  refine aC ?_
  have H1:(vI (((j+1):Nat):Int))=(vI ((j:Int)+1)):=by exact cI I
  refine aR (m ⟨((j+1),J2,J4),⟨I,vm G hd J⟩⟩ _ _ _ U os (cK 5<|aY U H1<|du.nil _) (aH [2,3,4,5,6,7,8,9,10,11,12,13]))
 refine WK s<|aj fun _ AA=>ax<|aj fun _ V=>aj fun _ K=>dK cE 36 kr<|dP 3 [] (mc 0 U mn) ?_
 obtain ⟨y,hy⟩:=aJ r.aL i I
 have If:=bK iC hy
 refine dS (IA i U (aA 5 U) cw dc I I)<|dS (fT i 0 (vI y) U cd (aA 5 U) If U dc U)<|dS (CL (pb y 0 9999) (aI) U)<|dP 2 [] mn ?_
 refine jf (t:=51) U (bu fun K4=>?_) (br fun K4=>?_)
 ·refine l5 28 U<|cR<|RK K<|aQ U<|WS fun _ w=>rP 2 [] mn ?_
  refine RK w<|aq<|LX hQ (false,0,none,0,[]) [] [] mn U (by rfl) U U ?_
  (exact ⟨Bf,fun _=>⟨rfl,fun q=>by have S:=(q.ids i y hy).1; omega⟩⟩)
 refine dP 3 [] mn ?_
 refine jy (t:=54) U (aO fun K5=>?_) (aN fun K5=>?_)
 ·refine dP 18 [] (mc 0 U mn) ?_
  obtain ⟨x,hx⟩:=aJ r.bE i I
  have M:=bK iC hx
  refine dS (IA i U (aA 6 U) cw dc I I)<|dS (fT i 0 (vI x) U cd (aA 6 U) M U dc U)<|l5 2 U<|dS (CL (pb x 0 ((r.aL.length:Int)-1)) (aI) U)<|dP 2 [] mn ?_
  refine cR<|RK K<|cH U (bu fun Y=>?_) (br fun Y=>?_)
  ·refine WS fun _ A4=>rP 2 [] mn ?_
   refine RK A4<|aq<|LX hQ (false,0,none,0,[]) [] [] mn U (by rfl) U U ?_
   (exact ⟨Bf,fun _=>⟨rfl,fun q=>by have S:=q.Kj hx; omega⟩⟩)
  refine WK V<|WS fun _ A5=>rP 1 [] mn ?_
  refine RK A5<|ax ?_
  have A:(0≤i)∧(∀ (q:Nat) y,q<0→r.bE[q]? =some y→y≠x):=by exact ⟨Nat.zero_le _,fun q y hq=>absurd hq (Nat.not_lt_zero _)⟩
  refine bL (ι:={z:Nat // (z≤i)∧(∀ (q:Nat) y,q<z→r.bE[q]? =some y→y≠x)}) [1,4,5] [0,1,2,3,4,5,6,7,8] U U (fun z=>[(6,(vI (z.1:Int)))]) (fun z=>[]) (fun _=>rfl) (fun _=>rfl) (fun z=>i-z.1) ⟨0,A⟩ (aV U) (aH [0,1,2,3,4,5,6,7,8]) ?_
  clear A
  rintro ⟨k,⟨O,B⟩⟩ J34 g
  try dsimp only
  refine aj fun _ A6=>WS fun _ A7=>rP 3 [] mn ?_
  refine RK A7<|bQ U (aO fun J9=>?_) (aN fun J9=>?_)
  ·refine bD<|ab<|ab<|ay<|aB<|KK AA<|ak<|rP 3 [] mn ?_
   refine aC ?_
   have Hi:(vI (((i+1):Nat):Int))=(vI ((i:Int)+1)):=by exact cI I
   refine aR (T ⟨(i+1),⟨I,BM AB (fun a ha=>by rw [hy] at ha; cases ha; exact ⟨I,fun b hb hc=>by omega⟩) (fun a ha=>by rw [hx] at ha; cases ha; exact ⟨I,fun k b hk hb=>B k b I hb⟩)⟩⟩ _ _ _ rfl os (du.cons rfl<|du.cons rfl<|aY rfl Hi<|du.nil _) (aH [0,1,2,3,4,5,6,7,8]))
  refine WK A6<|aj fun _ A8=>ax<|aj fun _ A9=>dK cE 11 kr<|dP 3 [] (mc 0 U mn) ?_
  obtain ⟨u,hu⟩:=aJ r.bE k I
  have Z:=bK iC hu
  refine dS (IA k U (aA 6 U) cw dc I I)<|dS (fT k 0 (vI u) U cd (aA 6 U) Z U dc U)<|mT 3 [] (mc 0 U mn) U<|dS (IA i U (aA 6 U) cw dc I I)<|dS (fT i 0 (vI x) U cd (aA 6 U) M U dc U)<|dP 1 [] mn ?_
  refine cR<|RK A9<|bQ U (aO fun L=>?_) (aN fun L=>?_)
  ·refine bZ<|aB<|KK A8<|ak<|rP 3 [] mn ?_
   refine aC ?_
   have Hb:(vI (((k+1):Nat):Int))=(vI ((k:Int)+1)):=by exact cI I
   refine aR (g ⟨(k+1),⟨I,xW B hu L⟩⟩ _ _ _ U os (cK 3<|aY U Hb<|du.nil _) (aH [0,1,2,3,4,5,6,7,8]))
  refine WS fun _ B3=>rP 2 [] mn ?_
  refine RK B3<|aq<|LX hQ (false,0,none,0,[]) [] [] mn U (by rfl) U U ?_
  (exact ⟨Bf,fun _=>⟨rfl,fun q=>by have S:=q.num; have q2:=q.sP; have q3:=q.nh; have q4:=q.yA; omega⟩⟩)
 refine mT 3 [] (mc 0 U mn) U<|dS (IA i U (aA 5 U) cw dc I I)<|dS (fT i 0 (vI y) U cd (aA 5 U) If U dc U)<|dP 4 [] (mc 0 U mn) ?_
 obtain ⟨z,hz⟩:=aJ r.aL (i-1) I
 have NE:=bK iC hz
 refine dS (IA (i-1) U (aA 5 U) cw dc I I)<|dS (fT (i-1) 0 (vI z) U cd (aA 5 U) NE U dc U)<|dP 4 [] mn ?_
 refine jf (t:=69) U (aN fun LA=>?_) (aO fun LA=>?_)
 ·refine l5 10 U<|cR<|RK K<|aQ U<|WS fun _ AC=>rP 2 [] mn ?_
  refine RK AC<|aq<|LX hQ (false,0,none,0,[]) [] [] mn U (by rfl) U U ?_
  (exact ⟨Bf,fun _=>⟨rfl,fun q=>by have S:=(q.ids i y hy).2 z I hz; omega⟩⟩)
 refine dP 3 [] (mc 0 U mn) ?_
 obtain ⟨x,hx⟩:=aJ r.bE i I
 have M:=bK iC hx
 refine dS (IA i U (aA 6 U) cw dc I I)<|dS (fT i 0 (vI x) U cd (aA 6 U) M U dc U)<|l5 2 U<|dS (CL (pb x 0 ((r.aL.length:Int)-1)) (aI) U)<|dP 2 [] mn ?_
 refine cR<|RK K<|cH U (bu fun Y=>?_) (br fun Y=>?_)
 ·refine WS fun _ AO=>rP 2 [] mn ?_
  refine RK AO<|aq<|LX hQ (false,0,none,0,[]) [] [] mn U (by rfl) U U ?_
  (exact ⟨Bf,fun _=>⟨rfl,fun q=>by have S:=q.Kj hx; omega⟩⟩)
 refine WK V<|WS fun _ Ai=>rP 1 [] mn ?_
 refine RK Ai<|ax ?_
 have A:(0≤i)∧(∀ (q:Nat) y,q<0→r.bE[q]? =some y→y≠x):=by exact ⟨Nat.zero_le _,fun q y hq=>absurd hq (Nat.not_lt_zero _)⟩
 refine bL (ι:={z:Nat // (z≤i)∧(∀ (q:Nat) y,q<z→r.bE[q]? =some y→y≠x)}) [1,4,5] [0,1,2,3,4,5,6,7,8] U U (fun z=>[(6,(vI (z.1:Int)))]) (fun z=>[]) (fun _=>rfl) (fun _=>rfl) (fun z=>i-z.1) ⟨0,A⟩ (aV U) (aH [0,1,2,3,4,5,6,7,8]) ?_
 clear A
 rintro ⟨k,⟨O,B⟩⟩ J23 f
 try dsimp only
 refine aj fun _ As=>WS fun _ A0=>rP 3 [] mn ?_
 refine RK A0<|bQ U (aO fun X=>?_) (aN fun X=>?_)
 ·refine bD<|ab<|ab<|ay<|aB<|KK AA<|ak<|rP 3 [] mn ?_
  refine aC ?_
  have Go:(vI (((i+1):Nat):Int))=(vI ((i:Int)+1)):=by exact cI I
  refine aR (T ⟨(i+1),⟨I,BM AB (fun a ha=>by rw [hy] at ha; cases ha; exact ⟨I,fun b hb hc=>by (rw [hz] at hc; cases hc; omega)⟩) (fun a ha=>by rw [hx] at ha; cases ha; exact ⟨I,fun k b hk hb=>B k b I hb⟩)⟩⟩ _ _ _ rfl os (du.cons rfl<|du.cons rfl<|aY rfl Go<|du.nil _) (aH [0,1,2,3,4,5,6,7,8]))
 refine WK As<|aj fun _ A1=>ax<|aj fun _ A2=>dK cE 11 kr<|dP 3 [] (mc 0 U mn) ?_
 obtain ⟨u,hu⟩:=aJ r.bE k I
 have Z:=bK iC hu
 refine dS (IA k U (aA 6 U) cw dc I I)<|dS (fT k 0 (vI u) U cd (aA 6 U) Z U dc U)<|mT 3 [] (mc 0 U mn) U<|dS (IA i U (aA 6 U) cw dc I I)<|dS (fT i 0 (vI x) U cd (aA 6 U) M U dc U)<|dP 1 [] mn ?_
 refine cR<|RK A2<|bQ U (aO fun L=>?_) (aN fun L=>?_)
 ·refine bZ<|aB<|KK A1<|ak<|rP 3 [] mn ?_
  refine aC ?_
  have GT:(vI (((k+1):Nat):Int))=(vI ((k:Int)+1)):=by exact cI I
  refine aR (f ⟨(k+1),⟨I,xW B hu L⟩⟩ _ _ _ U os (cK 3<|aY U GT<|du.nil _) (aH [0,1,2,3,4,5,6,7,8]))
 refine WS fun _ A3=>rP 2 [] mn ?_
 refine RK A3<|aq<|LX hQ (false,0,none,0,[]) [] [] mn U (by rfl) U U ?_
 (exact ⟨Bf,fun _=>⟨rfl,fun q=>by exact q.Rn I hu hx L⟩⟩)
end
section
open Go.RowKit
theorem HV (r:bT) (kA:OA) (kC:Nat) (az:List RA) (cA:OA) (cC:Nat) (bA:OA) (bC:Nat) (slA:OA) (slC:Nat) (drA:OA) (drC:Nat) (ha:List cy) (heA:OA) (heC:Nat) (hin:eO r az ha):
 ld Tryz.prog 72 [(vA (cp.cells (oQ r kA kC cA cC bA bC slA slC drA drC heA heC)))] [(rd kA r.ao.aM.length 9 (r.ao.aM.map al.cells)),(rd cA r.ao.ai.length 2 (List.zipWith ar.cells r.ao.ai az)),(fc (aU ar.g4 r.ao.ai az)),(rd bA r.ao.ae.length 4 (r.ao.ae.map bH.cells)),(rd slA r.aL.length 1 (r.aL.map iC)),(rd drA r.bE.length 1 (r.bE.map iC)),(rd heA r.an.length 1 (List.zipWith ct r.an ha)),(fc (aU iw r.an ha))] (fun (x:Bool×Int×(OA)×Nat×(List RA))=>bif x.1 then (vT [(vS x.2.2.1 ((cS r).length) x.2.2.2.1),(vI 0)]) else (vT [(vS none 0 0),(vI x.2.1)])) (fun (x:Bool×Int×(OA)×Nat×(List RA))=>(x.1=true→(cD r=0∧x.2.2.2.2.length=r.an.length))∧(x.1=false→(x.2.1=cD r∧ ¬ cD r=0))) (fun (x:Bool×Int×(OA)×Nat×(List RA))=>bif x.1 then [(own x.2.2.1 x.2.2.2.1 109 1 (List.zipWith Eb (cS r) x.2.2.2.2)),(bw (aU DA (cS r) x.2.2.2.2))] else []):=by
 have AA:=hin.line
 have b:=hin.iH
 have c:=hin.has
 have Z:=hin.iI
 have Y:=hin.draw
 have a:=dE (r:=r)
 refine dg kr Tryz.func72 U U fun f Q hQ hN=>?_
 try dsimp only
 refine WS fun _ O=>fQ U fun e=>bh 2 U<|RK O<|aj fun _ P=>WS fun _ R=>bh 1 U<|rS (LP (bW.cells (lh r.ao kA kC cA cC bA bC)) 0 U cd U U U)<|rS (CL (Bp r.ao kA kC az cA cC bA bC asm) (bg [1,2,3,4]) U)<|bh 1 U<|RK R<|WS fun _ S=>rP 2 [] mn ?_
 refine RK S<|cH U (bu fun A=>?_) (br fun A=>?_)
 ·refine WS fun _ T=>rP 3 [] mn ?_
  refine RK T<|aq<|LX hQ (false,(dC r.ao),none,0,[]) [] [] mn U (by rfl) U U ?_
  exact rL<|LI (zA A) A
 refine WK P<|WS fun _ G=>rP 1 [] (mc 0 U mn) ?_
 refine cX (EB r kA kC az cA cC bA bC slA slC drA drC ha heA heC hin (by exact A)) (bg [1,2,3,4,5,6,7,8]) U fun d J=>?_
 obtain ⟨K,W,L,M,N⟩:=d
 cases K
 rotate_left 1
 ·obtain ⟨AB,V⟩:=J.1 rfl
  try dsimp only [cond_true,cond_false,List.cons_append,List.nil_append]
  refine bh 5 U<|RK G<|aj fun _ D=>WS fun _ E=>bh 2 U<|RK E<|aW U<|WK D<|WS fun _ F=>rP 3 [] mn ?_
  refine RK F<|aq ?_
  refine LX hQ (true,0,L,M,N) [0,1] [] mn U (by (show List.all _ _=true; simp only [cond_true,fw,List.all_nil,xP,Bool.and_true]; rfl)) U U ?_
  exact ⟨fun _=>⟨BE A AB,V⟩,NW⟩
 obtain ⟨H,he⟩:=J.2 rfl
 try dsimp only at H he
 subst H
 try dsimp only [cond_true,cond_false,List.cons_append,List.nil_append]
 refine bh 5 U<|RK G<|aj fun _ X=>WS fun _ B=>bh 2 U<|RK B<|aQ U<|WS fun _ C=>rP 2 [] mn ?_
 refine RK C<|aq<|LX hQ (false,60,none,0,[]) [] [] mn U (by rfl) U U ?_
 exact rL<|qf (kH A he)
end
section
open Go.RowKit
theorem Hm (r:bT) (kA:OA) (kC:Nat) (az:List RA) (cA:OA) (cC:Nat) (bA:OA) (bC:Nat) (slA:OA) (slC:Nat) (drA:OA) (drC:Nat) (ha:List cy) (heA:OA) (heC:Nat) (hin:eO r az ha):
 ep Tryz.prog 37 [(vA (cp.cells (oQ r kA kC cA cC bA bC slA slC drA drC heA heC)))] [(rd kA r.ao.aM.length 9 (r.ao.aM.map al.cells)),(rd cA r.ao.ai.length 2 (List.zipWith ar.cells r.ao.ai az)),(fc (aU ar.g4 r.ao.ai az)),(rd bA r.ao.ae.length 4 (r.ao.ae.map bH.cells)),(rd slA r.aL.length 1 (r.aL.map iC)),(rd drA r.bE.length 1 (r.bE.map iC)),(rd heA r.an.length 1 (List.zipWith ct r.an ha)),(fc (aU iw r.an ha))] (vI (cD r)):=by
 have H:=hin.line
 have M:=hin.iH
 have N:=hin.has
 have J:=hin.iI
 have AB:=hin.draw
 have K:=dE (r:=r)
 refine bG kr Tryz.func37 U U fun V Q hQ hN=>?_
 try dsimp only
 refine WS fun _ G=>fQ U fun AA=>bh 1 U<|RK G<|WS fun _ C=>rP 1 [] (mc 0 U mn) ?_
 refine cX (HV r kA kC az cA cC bA bC slA slC drA drC ha heA heC hin) (bg [1,2,3,4,5,6,7,8]) U fun T E=>?_
 obtain ⟨F,L,P,R,S⟩:=T
 cases F
 rotate_left 1
 ·obtain ⟨he,O⟩:=E.1 rfl
  try dsimp only [cond_true,cond_false,List.cons_append,List.nil_append]
  refine bh 5 U<|RK C<|WS fun _ B=>rP 2 [] mn ?_
  refine RK B<|aq<|Q1 hQ U U U ?_
  first|rfl|(rw [he])
 obtain ⟨D,he⟩:=E.2 rfl
 try dsimp only at D he
 subst D
 try dsimp only [cond_true,cond_false,List.cons_append,List.nil_append]
 refine bh 5 U<|RK C<|WS fun _ A=>rP 2 [] mn ?_
 refine RK A<|aq<|Q1 hQ U U U ?_
 first|rfl|(rw [he])
end
section
open Go.RowKit
theorem Jh (r:bT) (kA:OA) (kC:Nat) (az:List RA) (cA:OA) (cC:Nat) (bA:OA) (bC:Nat) (slA:OA) (slC:Nat) (drA:OA) (drC:Nat) (ha:List cy) (heA:OA) (heC:Nat) (hraw:rD r az ha):
 ep Tryz.prog 8 [(vA (cp.cells (oQ r kA kC cA cC bA bC slA slC drA drC heA heC)))] [(rd kA r.ao.aM.length 9 (r.ao.aM.map al.cells)),(rd cA r.ao.ai.length 2 (List.zipWith ar.cells r.ao.ai az)),(fc (aU ar.g4 r.ao.ai az)),(rd bA r.ao.ae.length 4 (r.ao.ae.map bH.cells)),(rd slA r.aL.length 1 (r.aL.map iC)),(rd drA r.bE.length 1 (r.bE.map iC)),(rd heA r.an.length 1 (List.zipWith ct r.an ha)),(fc (aU iw r.an ha))] (vB (decide (¬ nX r∧cD r=0))):=by
 refine bG kr Tryz.func8 U U fun F Q hQ hN=>?_
 try dsimp only
 refine WS fun _ C=>fQ U fun E=>bh 1 U<|RK C<|WS fun _ B=>fu 1 [] (mc 0 U mn) U<|rS (CL (Cj r kA kC az cA cC bA bC slA slC drA drC ha heA heC hraw) (bg [1,2,3,4,5,6,7,8]) U)<|rP 2 [] mn ?_
 refine bY (t:=6) U (br fun A=>?_) (bu fun A=>?_)
 ·refine bh 1 U<|rP 4 [] mn ?_
  refine RK B<|aq<|Q1 hQ U U U ?_
  first|exact cB (cq fun q=>q.1 A).symm|exact cB (gi.2 ⟨fun q=>⟨A,q⟩,fun q=>q.2⟩)
 refine rP 1 [] (mc 0 U mn) ?_
 have D:=hraw.small A
 refine rS (CL (Hm r kA kC az cA cC bA bC slA slC drA drC ha heA heC sd) (bg [1,2,3,4,5,6,7,8]) U) ?_
 refine rP 3 [] mn ?_
 refine RK B<|aq<|Q1 hQ U U U ?_
 first|exact cB (cq fun q=>q.1 A).symm|exact cB (gi.2 ⟨fun q=>⟨A,q⟩,fun q=>q.2⟩)
end
section
open Go.RowKit
theorem NC (r:bT) (kA:OA) (kC:Nat) (az:List RA) (cA:OA) (cC:Nat) (bA:OA) (bC:Nat) (slA:OA) (slC:Nat) (drA:OA) (drC:Nat) (ha:List cy) (heA:OA) (heC:Nat) (hin:eO r az ha) (he:cD r=0):
 ld Tryz.prog 12 [(vA (cp.cells (oQ r kA kC cA cC bA bC slA slC drA drC heA heC)))] [(rd fg 3 2 eu),(rd kA r.ao.aM.length 9 (r.ao.aM.map al.cells)),(rd cA r.ao.ai.length 2 (List.zipWith ar.cells r.ao.ai az)),(fc (aU ar.g4 r.ao.ai az)),(rd bA r.ao.ae.length 4 (r.ao.ae.map bH.cells)),(rd slA r.aL.length 1 (r.aL.map iC)),(rd drA r.bE.length 1 (r.bE.map iC)),(rd heA r.an.length 1 (List.zipWith ct r.an ha)),(fc (aU iw r.an ha))] (fun (x:Nat)=>(vT [(Value.map (some x)),(vB true)])) (fun (x:Nat)=>True) (fun (x:Nat)=>[(g_ iV x (bM dD (aG r)))]):=by
 have e:=hin.line
 have l:=hin.iH
 have m:=hin.has
 have g:=hin.iI
 have f:=hin.draw
 have h:=dE (r:=r)
 have AA:=(fM he).2
 have n:=AA.num
 refine dg kr Tryz.func12 U U fun p Q hQ hN=>?_
 try dsimp only
 refine WS fun _ X=>fQ U fun o=>rP 2 [] mn ?_
 refine RK X<|WS fun _ Y=>lx (kV:=iV) U U fun V=>?_
 try dsimp only
 refine bh 1 U<|RK Y<|aj fun _ Z=>WS fun _ a=>rP 4 [] (mc 1 U mn) ?_
 refine RK a<|ax ?_
 skip
 have C:(0≤r.aL.length):=by exact Nat.zero_le _
 refine bL (ι:={z:Nat // (z≤r.aL.length)}) [1,4,11] [1,2,3,4,5,6,7,8,9,10] U U (fun z=>[(12,(vI (z.1:Int)))]) (fun z=>[(g_ iV V (bM dD (j1 r z.1)))]) (fun _=>rfl) (fun _=>rfl) (fun z=>r.aL.length-z.1) ⟨0,C⟩ (aV U) (aH [1,2,3,4,5,6,7,8,9,10,0]) ?_
 clear C
 rintro ⟨i,d⟩ J7 D
 try dsimp only
 refine WS fun _ b=>rP 1 [] mn ?_
 refine RK b<|aj fun _ c=>bQ U (aO fun W=>?_) (aN fun W=>?_)
 ·refine bD<|ab<|ab<|ay<|KK Z<|aj fun _ M=>?_
  rw [show j1 r i=aG r from by rw [show i=r.aL.length by omega]; rfl]
  refine ak<|rP 3 [] mn ?_
  refine RK M<|aq<|LX hQ V [10] [] mn U U U U ?_
  trivial
 refine WK c<|aj fun _ B=>ax<|WS fun _ AB=>bh 2 U<|RK AB<|WS fun _ J=>fu 2 [] (mc 0 U mn) U<|rS (CL (Pe (i:Int) r kA kC az cA cC bA bC slA slC drA drC ha heA heC hin) (bg [1,2,3,4,5,6,7,8,9]) U)<|bh 3 U<|AL U dp fun j=>fX U cx U<|bh 1 U<|RK J<|aj fun _ E=>WS fun _ F=>rP 3 [] mn ?_
 refine bY (t:=23) U (br fun G=>?_) (bu fun G=>?_)
 ·refine bh 3 U<|RK F<|aW U<|WK E<|WS fun _ L=>rP 2 [] mn ?_
  refine RK L<|bQ U (aO fun A=>?_) (aN fun A=>?_)
  ·refine bZ<|aB<|KK B<|ak<|rP 2 [] mn ?_
   refine aC ?_
   rw [zP he I A]
   have T:(vI (((i+1):Nat):Int))=(vI ((i:Int)+1)):=by exact cI I
   refine aR (D ⟨(i+1),(by first|omega|(simp only []; omega))⟩ _ _ _ U os (cK 3<|aY U T<|du.nil _) (aH [1,2,3,4,5,6,7,8,9,10,11]))
  refine ak<|rP 3 [] (mc 0 U mn) ?_
  have R:(dW (j1 r i) (i:Int) (px r (i:Int)))=(j1 r (i+1)):=by exact BU he I A
  refine ic (kV:=iV) (x:=(i:Int)) (C':=[_,_,_,_,_,_,_,_,_,_,_,(g_ iV V (bM dD (j1 r (i+1))))]) 11 U U U U k8 (db mY) U ((fW _ _ _ _).symm.trans (congrArg _ R)) U<|aC<|aB<|KK B<|ak<|rP 2 [] mn ?_
  refine aC ?_
  have S:(vI (((i+1):Nat):Int))=(vI ((i:Int)+1)):=by exact cI I
  refine aR (D ⟨(i+1),(by first|omega|(simp only []; omega))⟩ _ _ _ U os (cK 3<|aY U S<|du.nil _) (aH [1,2,3,4,5,6,7,8,9,10,11]))
 refine rP 3 [] mn ?_
 refine RK F<|cH U (bu fun H=>?_) (br fun H=>?_)
 ·exfalso; exact (BZ he (k:=(i:Int)) (by unfold sH; omega)).elim (fun q=>G q.1) (fun q=>H q.1)
 refine WK E<|WS fun _ K=>rP 2 [] mn ?_
 refine RK K<|bQ U (aO fun A=>?_) (aN fun A=>?_)
 ·refine bZ<|aB<|KK B<|ak<|rP 2 [] mn ?_
  refine aC ?_
  rw [zP he I A]
  have P:(vI (((i+1):Nat):Int))=(vI ((i:Int)+1)):=by exact cI I
  refine aR (D ⟨(i+1),(by first|omega|(simp only []; omega))⟩ _ _ _ U os (cK 3<|aY U P<|du.nil _) (aH [1,2,3,4,5,6,7,8,9,10,11]))
 refine ak<|rP 3 [] (mc 0 U mn) ?_
 have N:(dW (j1 r i) (i:Int) (px r (i:Int)))=(j1 r (i+1)):=by exact BU he I A
 refine ic (kV:=iV) (x:=(i:Int)) (C':=[_,_,_,_,_,_,_,_,_,_,_,(g_ iV V (bM dD (j1 r (i+1))))]) 11 U U U U k8 (db mY) U ((fW _ _ _ _).symm.trans (congrArg _ N)) U<|aC<|aB<|KK B<|ak<|rP 2 [] mn ?_
 refine aC ?_
 have O:(vI (((i+1):Nat):Int))=(vI ((i:Int)+1)):=by exact cI I
 refine aR (D ⟨(i+1),(by first|omega|(simp only []; omega))⟩ _ _ _ U os (cK 3<|aY U O<|du.nil _) (aH [1,2,3,4,5,6,7,8,9,10,11]))
end
section
open Go.RowKit
theorem kS (a b:Int) (m:g8) (gm g1:Nat) (dm:List (Int×Int)) (gd g2:Nat):
 ep Tryz.prog 13 [(vI a),(vI b),(vP g1),(vP g2)] [(g_ iV gm (bM dD m)),(cb g1 40 [(Value.map (some gm))]),(g_ iV gd (bM iV dm)),(cb g2 43 [(Value.map (some gd))])] (vB (decide (iK (fun u=>(aF m u).Hi) (fun u=>(List.lookup u dm).getD 0) a b))):=by
 refine bG kr Tryz.func13 U U fun E Q hQ hN=>?_
 try dsimp only
 refine WS fun _ D=>bh 1 U<|RK D<|WS fun _ C=>fu 2 [] (mr 1 U mn) U<|rS (SX (gh (kV:=iV) (x:=a) (l:=m) (f:=dD) (z:=(aa.mk 0 0)) U U U k8 (db mY) rO (by exact iM 0 U)) U U)<|rS (SX (iL (v:=(vI (((List.lookup a m).getD (aa.mk 0 0)).Hi))) U U fp qQ U) U U)<|fu 2 [] (mr 1 U mn) U<|rS (SX (gh (kV:=iV) (x:=b) (l:=m) (f:=dD) (z:=(aa.mk 0 0)) U U U k8 (db mY) rO (by exact iM 0 U)) U U)<|rS (SX (iL (v:=(vI (((List.lookup b m).getD (aa.mk 0 0)).Hi))) U U fp qQ U) U U)<|rP 2 [] mn ?_
 refine dh (t:=16) U (aN fun A=>?_) (aO fun A=>?_)
 ·refine rP 20 [] mn ?_
  refine RK C<|aq<|Q1 hQ U U U ?_
  first|exact cB (fR (show iK _ _ a b from Or.inl A)).symm|exact cB (gi.2 ⟨fun q=>Or.inr ⟨B,q⟩,fun q=>Or.elim (show _∨_ from q) (fun z=>absurd z A) (fun z=>And.right z)⟩)|exact cB (cq (fun q=>Or.elim (show _∨_ from q) (fun z=>absurd z A) (fun z=>absurd (And.left z) B))).symm
 refine fu 2 [] (mr 1 U mn) U<|rS (SX (gh (kV:=iV) (x:=a) (l:=m) (f:=dD) (z:=(aa.mk 0 0)) U U U k8 (db mY) rO (by exact iM 0 U)) U U)<|rS (SX (iL (v:=(vI (((List.lookup a m).getD (aa.mk 0 0)).Hi))) U U fp qQ U) U U)<|fu 2 [] (mr 1 U mn) U<|rS (SX (gh (kV:=iV) (x:=b) (l:=m) (f:=dD) (z:=(aa.mk 0 0)) U U U k8 (db mY) rO (by exact iM 0 U)) U U)<|rS (SX (iL (v:=(vI (((List.lookup b m).getD (aa.mk 0 0)).Hi))) U U fp qQ U) U U)<|rP 2 [] mn ?_
 refine bY (t:=26) U (aO fun B=>?_) (aN fun B=>?_)
 ·refine rP 10 [] mn ?_
  refine RK C<|aq<|Q1 hQ U U U ?_
  first|exact cB (fR (show iK _ _ a b from Or.inl A)).symm|exact cB (gi.2 ⟨fun q=>Or.inr ⟨B,q⟩,fun q=>Or.elim (show _∨_ from q) (fun z=>absurd z A) (fun z=>And.right z)⟩)|exact cB (cq (fun q=>Or.elim (show _∨_ from q) (fun z=>absurd z A) (fun z=>absurd (And.left z) B))).symm
 refine fu 2 [] (mr 3 U mn) U<|rS (SX (gh (kV:=iV) (x:=a) (l:=dm) (f:=iV) (z:=0) U U U Qj (db mY) UD (by exact iM 2 U)) U U)<|fu 2 [] (mr 3 U mn) U<|rS (SX (gh (kV:=iV) (x:=b) (l:=dm) (f:=iV) (z:=0) U U U Qj (db mY) UD (by exact iM 2 U)) U U)<|rP 4 [] mn ?_
 refine RK C<|aq<|Q1 hQ U U U ?_
 first|exact cB (fR (show iK _ _ a b from Or.inl A)).symm|exact cB (gi.2 ⟨fun q=>Or.inr ⟨B,q⟩,fun q=>Or.elim (show _∨_ from q) (fun z=>absurd z A) (fun z=>And.right z)⟩)|exact cB (cq (fun q=>Or.elim (show _∨_ from q) (fun z=>absurd z A) (fun z=>absurd (And.left z) B))).symm
end
section
open Go.RowKit
theorem CR (r:bT) (kA:OA) (kC:Nat) (az:List RA) (cA:OA) (cC:Nat) (bA:OA) (bC:Nat) (slA:OA) (slC:Nat) (drA:OA) (drC:Nat) (ha:List cy) (heA:OA) (heC:Nat) (which:Int) (hraw:rD r az ha) (hwb:0≤which∧which≤255):
 ep Tryz.prog 3 [(vA (cp.cells (oQ r kA kC cA cC bA bC slA slC drA drC heA heC))),(Value.int .u8 which)] [(rd fg 3 2 eu),(rd kA r.ao.aM.length 9 (r.ao.aM.map al.cells)),(rd cA r.ao.ai.length 2 (List.zipWith ar.cells r.ao.ai az)),(fc (aU ar.g4 r.ao.ai az)),(rd bA r.ao.ae.length 4 (r.ao.ae.map bH.cells)),(rd slA r.aL.length 1 (r.aL.map iC)),(rd drA r.bE.length 1 (r.bE.map iC)),(rd heA r.an.length 1 (List.zipWith ct r.an ha)),(fc (aU iw r.an ha))] (vB true):=by
 refine bG kr Tryz.func3 U U fun w0 Q hQ hN=>?_
 try dsimp only
 refine WS fun _ Li=>fQ U fun b2=>bh 1 U<|RK Li<|WS fun _ Lk=>rS (CL Jk (bg [1]) U)<|bh 1 U<|RK Lk<|aj fun _ Lo=>WS fun _ L0=>bh 2 U<|RK L0<|aW U<|WK Lo<|aj fun _ L2=>WS fun _ L3=>fu 1 [] (mc 0 U mn) U<|rS (CL (Jh r kA kC az cA cC bA bC slA slC drA drC ha heA heC hraw) (bg [2,3,4,5,6,7,8,9]) U)<|rP 1 [] mn ?_
 refine RK L3<|cH U (bu fun B=>?_) (br fun B=>?_)
 ·refine WS fun _ Mo=>rP 2 [] mn ?_
  refine RK Mo<|aq<|Q1 hQ U U U ?_
  first|rfl|exact cB (fR (mF (lT B.2 I) p))
 refine WK L2<|WS fun _ M2=>?_
 have AB:=hraw.small B.1
 have Na:=AB.line
 have Qn:=AB.iH
 have Qr:=AB.has
 have PW:=AB.iI
 have PP:=AB.draw
 have Pi:=dE (r:=r)
 have N:=(fM B.2).2
 have Rn:=N.num
 have RE:=N.nh
 have Pl:=N.sP
 refine bh 1 U<|rS (SX (tT (m:=which) U U Rw mY (qS (by first|assumption|omega))) U U)<|fu 4 [] (mc 0 U mn) U<|rS (BI U (Pb I I))<|rP 1 [] mn ?_
 refine RK M2<|aj fun _ A9=>?_
 have Rt:=Ts which ((r.an.length:Int)+1) hwb.1 I
 obtain ⟨n,hq,hn⟩: ∃ n:Nat,(which % ((r.an.length:Int)+1))=(n:Int)∧n≤r.an.length:=⟨((which % ((r.an.length:Int)+1))).toNat,I,I⟩
 rw [hq]
 refine ak<|rP 2 [] (mc 0 U mn) ?_
 refine cX (Bb (n:Int) r kA kC az cA cC bA bC slA slC drA drC ha heA heC (by exact AB)) (bg [1,2,3,4,5,6,7,8,9]) U fun Op Pt=>?_
 obtain ⟨As,A1⟩:=Op
 try dsimp only
 refine bh 5 U<|RK A9<|aj fun _ B3=>WS fun _ B7=>rP 2 [] mn ?_
 refine RK B7<|cH U (bu fun A4=>?_) (br fun A4=>?_)
 ·exact absurd (lT B.2 I) A4
 refine WK B3<|aj fun _ B9=>WS fun _ Ci=>rP 2 [] mn ?_
 refine RK Ci<|cH U (aN fun p=>?_) (aO fun p=>?_)
 ·refine WS fun _ Ck=>rP 5 [] (mc 1 U mn) ?_
  refine rS (CL (kX (cj r (n:Int)) As A1 r.bE drA drC (by have:=sv (r:=r) (h:=(n:Int)) AB.draw; omega) I) (av (ag (n:=(cj r (n:Int)).length) 0 U sm)<|fj 8 U U<|aI) U) ?_
  refine rP 2 [] mn ?_
  refine RK Ck<|aq<|Q1 hQ U U U ?_
  first|rfl|exact cB (fR (mF (lT B.2 I) p))
 refine WK B9<|WS fun _ Cp=>rP 1 [] (mc 1 U mn) ?_
 refine cX (E6 r kA kC az cA cC bA bC slA slC drA drC ha heA heC (by exact AB) (by exact B.1)) (bg [3,4,5,6,7,8,9,10]) U fun Or K5=>?_
 obtain ⟨T,Y,AA,Z,u,V,a,W,b,X,c,K,L,AO⟩:=Or
 try dsimp only
 obtain ⟨⟨s,K0⟩,R⟩:=K5
 try dsimp only at s K0 R
 refine AL U yp fun Qg=>fX U rM U<|RK Cp<|WS fun _ Cx=>rP 3 [] (mc 0 U mn) ?_
 refine DU 7 U fun KM=>?_
 rw [dx R.1] at KM
 refine rS (UE n U nA U (by first|omega|exact Nat.zero_le _|(simp; omega))) ?_
 refine rP 1 [] mn ?_
 refine Wd (cp.cells (cp.mk (bW.mk (bB.mk (bo.mk T r.ao.aM.length Y)) r.ao.gH (bo.mk AA r.ao.ai.length Z) (bo.mk V r.ao.ae.length a) r.ao.cr r.ao.eh r.ao.cO) (bo.mk W r.aL.length b) (bo.mk X r.bE.length c) r.gJ (bo.mk K n L))) U Qt U U<|RK Cx<|aj fun _ C0=>Ko 7 U (Iv (n:=n) R.1 hn) U<|Ko 8 U (O0 (G7 (f:=im) (n:=n) R.1.symm)) U ?_
 rw [show bo.mk K n L=bo.mk K ((jz r n).an.length) L from by rw [FX hn]]
 have AC:eO (jz r n) _ _:=QR (n:=n) (AB.Nr s K0 R)
 have Ai:=HB B.2 (show 1≤n by omega) hn
 have Kj:=KU B.2 (show 1≤n by omega) hn
 have Rq:=sv (r:=r) (h:=(n:Int)) AB.draw
 have Ry:=mu Kj
 refine ak<|rP 2 [] (mc 0 U mn) ?_
 refine cX (Bb (n:Int) (jz r n) T Y u AA Z V a W b X c (AO.take n) K L (by exact AC)) (fj 11 U U<|av (ag (n:=r.ao.aM.length) 1 U (by first|(simp; done)|(rw [List.length_map]; rfl)))<|av (ag (n:=r.ao.ai.length) 2 U (fG s))<|av (dL 3 U iB)<|av (ag (n:=r.ao.ae.length) 4 U (by first|(simp; done)|(rw [List.length_map]; rfl)))<|av (ag (n:=r.aL.length) 5 U (by first|(simp; done)|(rw [List.length_map]; rfl)))<|av (ag (n:=r.bE.length) 6 U (by first|(simp; done)|(rw [List.length_map]; rfl)))<|fj 7 U U<|av (gQ 8 U (JV R))<|aI) U fun Os P8=>?_
 obtain ⟨LD,LE⟩:=Os
 try dsimp only
 refine bh 5 U<|RK C0<|WS fun _ C1=>rP 1 [] (mc 1 U mn) ?_
 refine cX (NC (jz r n) T Y u AA Z V a W b X c (AO.take n) K L (by exact AC) (by exact Kj)) (fj 12 U U<|av (ag (n:=r.ao.aM.length) 2 U (by first|(simp; done)|(rw [List.length_map]; rfl)))<|av (ag (n:=r.ao.ai.length) 3 U (fG s))<|av (dL 4 U iB)<|av (ag (n:=r.ao.ae.length) 5 U (by first|(simp; done)|(rw [List.length_map]; rfl)))<|av (ag (n:=r.aL.length) 6 U (by first|(simp; done)|(rw [List.length_map]; rfl)))<|av (ag (n:=r.bE.length) 7 U (by first|(simp; done)|(rw [List.length_map]; rfl)))<|fj 8 U U<|av (gQ 9 U (JV R))<|aI) U fun F P_=>?_
 try dsimp only
 refine bh 3 U<|AL U P5 fun O=>D7 U Jg U U<|bh 1 U<|RK C1<|aj fun _ C2=>WS fun _ C3=>rP 3 [] mn ?_
 refine dh (t:=75) U (bu fun A5=>?_) (br fun A5=>?_)
 ·exact absurd (Ai.2.2) A5
 refine rP 6 [] mn ?_
 refine rS (CL (kX (cj r (n:Int)) As A1 (cj (jz r n) (n:Int)) LD LE I (by rw [Ai.1]; omega)) (av (ag (n:=(cj r (n:Int)).length) 12 U (by first|(simp; done)|(rw [List.length_map]; rfl)))<|av (ag (n:=(cj (jz r n) (n:Int)).length) 2 U sm)<|aI) U) ?_
 refine rP 3 [] mn ?_
 refine dh (t:=85) U (bu fun A6=>?_) (br fun A6=>?_)
 ·exact absurd (Ai.1.symm) A6
 refine fu 3 [] (mc 0 U mn) U<|rS (SX (wM U U k8 (by exact aA 1 U)) U U)<|rP 2 [] mn ?_
 refine RK C3<|cH U (bu fun A7=>?_) (br fun A7=>?_)
 ·exact absurd (congrArg (fun q:Nat=>(q:Int)) (OO B.2 I hn)) A7
 refine WK C2<|aj fun _ Di=>Rr [0,1,12,13,14,15,16,17,18,19,20,21,22] U ?_
 have K4:=pP N
 refine ak<|lx (kV:=iV) U U fun J=>?_
 try dsimp only
 refine AL U UT fun P=>D7 U Vq U U<|RK Di<|aj fun _ Dk=>WS fun _ Do=>rP 4 [] (mc 5 U mn) ?_
 refine RK Do<|ax ?_
 skip
 have H:(0≤r.bE.length):=by exact Nat.zero_le _
 refine bL (ι:={z:Nat // (z≤r.bE.length)}) [2,5,6,7,12,14,94,95] [0,2,3,4,5,6,7,8,9,10,11,12,13,14] U U (fun z=>[(96,(vI (z.1:Int)))]) (fun z=>[(g_ iV J (bM iV (iq r.bE z.1)))]) (fun _=>rfl) (fun _=>rfl) (fun z=>r.bE.length-z.1) ⟨0,H⟩ (aV U) (aH [0,2,3,4,5,6,7,8,9,10,11,12,13,14,1]) ?_
 clear H
 rintro ⟨i,K8⟩ J56 A8
 try dsimp only
 refine WS fun _ Dz=>rP 1 [] mn ?_
 refine RK Dz<|aj fun _ EQ=>cH U (aN fun LT=>?_) (aO fun LT=>?_)
 ·refine WK EQ<|aj fun _ Eq=>ax<|WS fun _ FS=>rP 1 [] mn ?_
  obtain ⟨x,hx⟩:=aJ r.bE i I
  have Ne:=bK iC hx
  refine rS (IA i U (aA 11 U) cw dc I I)<|rS (fT i 0 (vI x) U cd (aA 11 U) Ne U dc U)<|bh 2 U<|RK FS<|ak<|rP 3 [] (mc 0 U mn) ?_
  have If:(dW (iq r.bE i) x (i:Int))=(iq r.bE (i+1)):=by exact H3 K4 hx
  refine ic (kV:=iV) (x:=x) (C':=[_,_,_,_,_,_,_,_,_,_,_,_,_,_,(g_ iV J (bM iV (iq r.bE (i+1))))]) 14 U U U U Qj (db mY) U ((fW _ _ _ _).symm.trans (congrArg _ If)) U<|aC<|aB<|KK Eq<|ak<|rP 2 [] mn ?_
  refine aC ?_
  have In:(vI (((i+1):Nat):Int))=(vI ((i:Int)+1)):=by exact cI I
  refine aR (A8 ⟨(i+1),(by first|omega|(simp only []; omega))⟩ _ _ _ U os (cK 8<|aY U In<|du.nil _) (aH [0,1,2,3,4,5,6,7,8,9,10,11,12,13,14]))
 refine bD<|ab<|ab<|ay<|KK Dk<|aj fun _ Fd=>?_
 rw [show iq r.bE i=iq r.bE r.bE.length from by rw [show i=r.bE.length by omega]]
 refine ak<|rS (FU U)<|bh 1 U<|RK Fd<|WS fun _ Fm=>fu 4 [] (mc 4 U mn) U<|rS (MN U)<|rP 1 [] mn ?_
 refine RK Fm<|aj fun _ Fn=>?_
 obtain ⟨k,hk⟩: ∃ k:Nat,(min r.gJ (((cj r (n:Int)).length:Nat):Int))=(k:Int):=⟨((min r.gJ (((cj r (n:Int)).length:Nat):Int))).toNat,I⟩
 rw [hk]
 have K4:=pP N
 refine ak<|lx (kV:=iV) U U fun A0=>?_
 try dsimp only
 refine bh 1 U<|RK Fn<|aj fun _ F5=>WS fun _ GE=>rP 3 [] mn ?_
 refine RK GE<|ax ?_
 skip
 have H:(0≤(cj r (n:Int)).length):=by exact Nat.zero_le _
 refine bL (ι:={z:Nat // (z≤(cj r (n:Int)).length)}) [2,5,7,12,14,17,18,19,112,113] [1,2,3,4,5,6,7,8,9,10,11,12,13,14,15] U U (fun z=>[(114,(vI (z.1:Int)))]) (fun z=>[(g_ iV A0 (bM vB (tj ((cj r (n:Int)).take z.1))))]) (fun _=>rfl) (fun _=>rfl) (fun z=>(cj r (n:Int)).length-z.1) ⟨0,H⟩ (aV U) (aH [1,2,3,4,5,6,7,8,9,10,11,12,13,14,15,0]) ?_
 clear H
 rintro ⟨x,LA⟩ J70 C
 try dsimp only
 refine WS fun _ GT=>rP 1 [] mn ?_
 refine RK GT<|aj fun _ Go=>bQ U (aO fun La=>?_) (aN fun La=>?_)
 ·refine bD<|ab<|ab<|ay<|KK F5<|WS fun _ Id=>rP 2 [] mn ?_
  refine RK Id<|aq<|Q1 hQ U U U ?_
  first|rfl|exact cB (fR (mF (lT B.2 I) p))
 refine WK Go<|aj fun _ D=>ax<|WS fun _ Hb=>rP 1 [] mn ?_
 obtain ⟨i,hi⟩:=aJ (cj r (n:Int)) x I
 have NE:=bK iC hi
 refine rS (IA x U (ag (n:=(cj r (n:Int)).length) 3 U (by first|(simp; done)|(rw [List.length_map]; rfl))) cw dc I I) ?_
 refine rS (fT x 0 (vI i) U cd (ag (n:=(cj r (n:Int)).length) 3 U (by first|(simp; done)|(rw [List.length_map]; rfl))) NE U dc U) ?_
 refine bh 2 U<|RK Hb<|WS fun _ Hi=>fu 2 [] (mc 1 U mn) U<|rS (SX (j_ (kV:=iV) (x:=i) (l:=(aG (jz r n))) (f:=dD) (z:=(aa.mk 0 0)) U U U k8 (db mY) rO (by exact aA 2 U)) U U)<|bh 3 U<|AL U dp fun Ql=>fX U cx U<|bh 1 U<|RK Hi<|aj fun _ H1=>WS fun _ IO=>rP 3 [] mn ?_
 refine dh (t:=127) U (fun M=>?_) (fun M=>?_)
 ·rw [Bool.not_eq_true'] at M
  exfalso; rw [Ly B.2 I hn hi] at M; simp at M
 rw [Bool.not_eq_false'] at M
 refine bh 2 U<|rS (SX (gh (kV:=iV) (x:=i) (l:=(tj ((cj r (n:Int)).take x))) (f:=Value.bool) (z:=false) U U U yu (db mY) Wg (by exact aA 16 U)) U U)<|rP 1 [] mn ?_
 refine RK IO<|cH U (fun d=>?_) (fun d=>?_)
 ·exfalso; rw [Gb (Ga B.2 I hn hi)] at d; simp at d
 refine WK H1<|WS fun _ IR=>rP 2 [] mn ?_
 have JM:(dW (tj ((cj r (n:Int)).take x)) i true)=(tj ((cj r (n:Int)).take (x+1))):=by rw [Mh (Ga B.2 I hn hi),j8 hi]
 refine ic (kV:=iV) (x:=i) (C':=[_,_,_,_,_,_,_,_,_,_,_,_,_,_,_,_,(g_ iV A0 (bM vB (tj ((cj r (n:Int)).take (x+1)))))]) 16 U U U U yu (db mY) U ((fW _ _ _ _).symm.trans (congrArg _ JM)) U<|RK IR<|ax<|WS fun _ IW=>rP 3 [] mn ?_
 refine RK IW<|cH U (aN fun A2=>?_) (aO fun A2=>?_)
 ·refine bZ<|aB<|aB<|KK D<|ak<|rP 2 [] mn ?_
  refine aC ?_
  have JQ:(vI (((x+1):Nat):Int))=(vI ((x:Int)+1)):=by exact cI I
  refine aR (C ⟨(x+1),(by first|omega|(simp only []; omega))⟩ _ _ _ U os (cK 10<|aY U JQ<|du.nil _) (aH [1,2,3,4,5,6,7,8,9,10,11,12,13,14,15,16]))
 refine aj fun _ E=>WS fun _ v=>rP 4 [] mn ?_
 refine bY (t:=141) U (aO fun A3=>?_) (aN fun A3=>?_)
 ·refine bh 11 U<|RK v<|aW U<|WS fun _ y=>rP 4 [] mn ?_
  refine bY (t:=155) U (aO fun e=>?_) (aN fun e=>?_)
  ·refine bh 11 U<|RK y<|aW U<|ak<|rP 4 [] mn ?_
   refine bY (t:=169) U (aO fun G=>?_) (aN fun G=>?_)
   ·refine bh 9 U<|RK E<|aW U<|bZ<|aB<|aB<|KK D<|ak<|rP 2 [] mn ?_
    refine aC ?_
    have J9:(vI (((x+1):Nat):Int))=(vI ((x:Int)+1)):=by exact cI I
    refine aR (C ⟨(x+1),(by first|omega|(simp only []; omega))⟩ _ _ _ U os (cK 10<|aY U J9<|du.nil _) (aH [1,2,3,4,5,6,7,8,9,10,11,12,13,14,15,16]))
   refine rP 2 [] mn ?_
   obtain ⟨j,hj⟩:=aJ (cj r (n:Int)) 0 I
   have S:=bK iC hj
   refine rS (IA 0 U (ag (n:=(cj r (n:Int)).length) 4 U (by first|(simp; done)|(rw [List.length_map]; rfl))) cw dc U I) ?_
   refine rS (fT 0 0 (vI j) U cd (ag (n:=(cj r (n:Int)).length) 4 U (by first|(simp; done)|(rw [List.length_map]; rfl))) S U dc U) ?_
   refine bh 1 U<|rS (CL (kS j i (aG (jz r n)) F O (iq r.bE r.bE.length) J P) (bg [3,2,15,1]) U)<|rP 3 [] mn ?_
   refine RK E<|cH U (bu fun A=>?_) (br fun A=>?_)
   ·exfalso; first|exact A ((iQ B.2 I hn hk I hi asm).1 I)|exact A ((iQ B.2 I hn hk I hi asm).2 I)|exact A (po B.2 I hn hk I hi asm I)
   refine bZ<|aB<|aB<|KK D<|ak<|rP 2 [] mn ?_
   refine aC ?_
   have J8:(vI (((x+1):Nat):Int))=(vI ((x:Int)+1)):=by exact cI I
   refine aR (C ⟨(x+1),(by first|omega|(simp only []; omega))⟩ _ _ _ U os (cK 10<|aY U J8<|du.nil _) (aH [1,2,3,4,5,6,7,8,9,10,11,12,13,14,15,16]))
  refine rP 4 [] mn ?_
  obtain ⟨j,hj⟩:=aJ (cj r (n:Int)) (x-1) I
  have S:=bK iC hj
  refine rS (IA (x-1) U (ag (n:=(cj r (n:Int)).length) 4 U (by first|(simp; done)|(rw [List.length_map]; rfl))) cw dc I I) ?_
  refine rS (fT (x-1) 0 (vI j) U cd (ag (n:=(cj r (n:Int)).length) 4 U (by first|(simp; done)|(rw [List.length_map]; rfl))) S U dc U) ?_
  refine bh 1 U<|rS (CL (kS j i (aG (jz r n)) F O (iq r.bE r.bE.length) J P) (bg [3,2,15,1]) U)<|rP 3 [] mn ?_
  refine RK y<|cH U (bu fun A=>?_) (br fun A=>?_)
  ·exfalso; first|exact A ((iQ B.2 I hn hk I hi asm).1 I)|exact A ((iQ B.2 I hn hk I hi asm).2 I)|exact A (po B.2 I hn hk I hi asm I)
  refine ak<|rP 4 [] mn ?_
  refine bY (t:=169) U (aO fun G=>?_) (aN fun G=>?_)
  ·refine bh 9 U<|RK E<|aW U<|bZ<|aB<|aB<|KK D<|ak<|rP 2 [] mn ?_
   refine aC ?_
   have J7:(vI (((x+1):Nat):Int))=(vI ((x:Int)+1)):=by exact cI I
   refine aR (C ⟨(x+1),(by first|omega|(simp only []; omega))⟩ _ _ _ U os (cK 10<|aY U J7<|du.nil _) (aH [1,2,3,4,5,6,7,8,9,10,11,12,13,14,15,16]))
  refine rP 2 [] mn ?_
  obtain ⟨o,ho⟩:=aJ (cj r (n:Int)) 0 I
  have g:=bK iC ho
  refine rS (IA 0 U (ag (n:=(cj r (n:Int)).length) 4 U (by first|(simp; done)|(rw [List.length_map]; rfl))) cw dc U I) ?_
  refine rS (fT 0 0 (vI o) U cd (ag (n:=(cj r (n:Int)).length) 4 U (by first|(simp; done)|(rw [List.length_map]; rfl))) g U dc U) ?_
  refine bh 1 U<|rS (CL (kS o i (aG (jz r n)) F O (iq r.bE r.bE.length) J P) (bg [3,2,15,1]) U)<|rP 3 [] mn ?_
  refine RK E<|cH U (bu fun A=>?_) (br fun A=>?_)
  ·exfalso; first|exact A ((iQ B.2 I hn hk I hi asm).1 I)|exact A ((iQ B.2 I hn hk I hi asm).2 I)|exact A (po B.2 I hn hk I hi asm I)
  refine bZ<|aB<|aB<|KK D<|ak<|rP 2 [] mn ?_
  refine aC ?_
  have J6:(vI (((x+1):Nat):Int))=(vI ((x:Int)+1)):=by exact cI I
  refine aR (C ⟨(x+1),(by first|omega|(simp only []; omega))⟩ _ _ _ U os (cK 10<|aY U J6<|du.nil _) (aH [1,2,3,4,5,6,7,8,9,10,11,12,13,14,15,16]))
 refine rP 5 [] mn ?_
 obtain ⟨j,hj⟩:=aJ (cj r (n:Int)) (x-1) I
 have S:=bK iC hj
 refine rS (IA (x-1) U (ag (n:=(cj r (n:Int)).length) 4 U (by first|(simp; done)|(rw [List.length_map]; rfl))) cw dc I I) ?_
 refine rS (fT (x-1) 0 (vI j) U cd (ag (n:=(cj r (n:Int)).length) 4 U (by first|(simp; done)|(rw [List.length_map]; rfl))) S U dc U) ?_
 refine rS (CL (kS i j (aG (jz r n)) F O (iq r.bE r.bE.length) J P) (bg [3,2,15,1]) U)<|rP 3 [] mn ?_
 refine RK v<|cH U (bu fun A=>?_) (br fun A=>?_)
 ·exfalso; first|exact A ((iQ B.2 I hn hk I hi asm).1 I)|exact A ((iQ B.2 I hn hk I hi asm).2 I)|exact A (po B.2 I hn hk I hi asm I)
 refine WS fun _ w=>rP 4 [] mn ?_
 refine bY (t:=155) U (aO fun e=>?_) (aN fun e=>?_)
 ·refine bh 11 U<|RK w<|aW U<|ak<|rP 4 [] mn ?_
  refine bY (t:=169) U (aO fun G=>?_) (aN fun G=>?_)
  ·refine bh 9 U<|RK E<|aW U<|bZ<|aB<|aB<|KK D<|ak<|rP 2 [] mn ?_
   refine aC ?_
   have J5:(vI (((x+1):Nat):Int))=(vI ((x:Int)+1)):=by exact cI I
   refine aR (C ⟨(x+1),(by first|omega|(simp only []; omega))⟩ _ _ _ U os (cK 10<|aY U J5<|du.nil _) (aH [1,2,3,4,5,6,7,8,9,10,11,12,13,14,15,16]))
  refine rP 2 [] mn ?_
  obtain ⟨o,ho⟩:=aJ (cj r (n:Int)) 0 I
  have g:=bK iC ho
  refine rS (IA 0 U (ag (n:=(cj r (n:Int)).length) 4 U (by first|(simp; done)|(rw [List.length_map]; rfl))) cw dc U I) ?_
  refine rS (fT 0 0 (vI o) U cd (ag (n:=(cj r (n:Int)).length) 4 U (by first|(simp; done)|(rw [List.length_map]; rfl))) g U dc U) ?_
  refine bh 1 U<|rS (CL (kS o i (aG (jz r n)) F O (iq r.bE r.bE.length) J P) (bg [3,2,15,1]) U)<|rP 3 [] mn ?_
  refine RK E<|cH U (bu fun A=>?_) (br fun A=>?_)
  ·exfalso; first|exact A ((iQ B.2 I hn hk I hi asm).1 I)|exact A ((iQ B.2 I hn hk I hi asm).2 I)|exact A (po B.2 I hn hk I hi asm I)
  refine bZ<|aB<|aB<|KK D<|ak<|rP 2 [] mn ?_
  refine aC ?_
  have J4:(vI (((x+1):Nat):Int))=(vI ((x:Int)+1)):=by exact cI I
  refine aR (C ⟨(x+1),(by first|omega|(simp only []; omega))⟩ _ _ _ U os (cK 10<|aY U J4<|du.nil _) (aH [1,2,3,4,5,6,7,8,9,10,11,12,13,14,15,16]))
 refine rP 4 [] mn ?_
 refine rS (IA (x-1) U (ag (n:=(cj r (n:Int)).length) 4 U (by first|(simp; done)|(rw [List.length_map]; rfl))) cw dc I I) ?_
 refine rS (fT (x-1) 0 (vI j) U cd (ag (n:=(cj r (n:Int)).length) 4 U (by first|(simp; done)|(rw [List.length_map]; rfl))) S U dc U) ?_
 refine bh 1 U<|rS (CL (kS j i (aG (jz r n)) F O (iq r.bE r.bE.length) J P) (bg [3,2,15,1]) U)<|rP 3 [] mn ?_
 refine RK w<|cH U (bu fun A=>?_) (br fun A=>?_)
 ·exfalso; first|exact A ((iQ B.2 I hn hk I hi asm).1 I)|exact A ((iQ B.2 I hn hk I hi asm).2 I)|exact A (po B.2 I hn hk I hi asm I)
 refine ak<|rP 4 [] mn ?_
 refine bY (t:=169) U (aO fun G=>?_) (aN fun G=>?_)
 ·refine bh 9 U<|RK E<|aW U<|bZ<|aB<|aB<|KK D<|ak<|rP 2 [] mn ?_
  refine aC ?_
  have J3:(vI (((x+1):Nat):Int))=(vI ((x:Int)+1)):=by exact cI I
  refine aR (C ⟨(x+1),(by first|omega|(simp only []; omega))⟩ _ _ _ U os (cK 10<|aY U J3<|du.nil _) (aH [1,2,3,4,5,6,7,8,9,10,11,12,13,14,15,16]))
 refine rP 2 [] mn ?_
 obtain ⟨o,ho⟩:=aJ (cj r (n:Int)) 0 I
 have g:=bK iC ho
 refine rS (IA 0 U (ag (n:=(cj r (n:Int)).length) 4 U (by first|(simp; done)|(rw [List.length_map]; rfl))) cw dc U I) ?_
 refine rS (fT 0 0 (vI o) U cd (ag (n:=(cj r (n:Int)).length) 4 U (by first|(simp; done)|(rw [List.length_map]; rfl))) g U dc U) ?_
 refine bh 1 U<|rS (CL (kS o i (aG (jz r n)) F O (iq r.bE r.bE.length) J P) (bg [3,2,15,1]) U)<|rP 3 [] mn ?_
 refine RK E<|cH U (bu fun A=>?_) (br fun A=>?_)
 ·exfalso; first|exact A ((iQ B.2 I hn hk I hi asm).1 I)|exact A ((iQ B.2 I hn hk I hi asm).2 I)|exact A (po B.2 I hn hk I hi asm I)
 refine bZ<|aB<|aB<|KK D<|ak<|rP 2 [] mn ?_
 refine aC ?_
 have J2:(vI (((x+1):Nat):Int))=(vI ((x:Int)+1)):=by exact cI I
 refine aR (C ⟨(x+1),(by first|omega|(simp only []; omega))⟩ _ _ _ U os (cK 10<|aY U J2<|du.nil _) (aH [1,2,3,4,5,6,7,8,9,10,11,12,13,14,15,16]))
end
section
open Go.RowKit
def iP {α:Type} (cells:α→List Value) (sz:Nat) (R:World→α→Prop) (w:World) (s:bo):Prop:= ∃ l:List α,s.n=l.length∧(rd s.a l.length sz (l.map cells)).holds w∧(∀ x∈l,R w x)∧l.length≤maxLen∧s.n≤s.c
theorem vt {w:World} {R:World→cz→Prop}: ∀ {l:List dq},(∀ x∈l,iP cz.cells 3 R w x.bq)→ ∃ (ms:List ar) (az:List RA),l.map dq.cells=List.zipWith ar.cells ms az∧ms.length=l.length∧az.length=l.length∧(∀ X∈aU ar.g4 ms az,X.holds w)∧
 (∀ (k:Nat) m (a:RA),ms[k]? =some m→az[k]? =some a→m.bq.length≤a.2∧m.bq.length≤9223372036854775807)∧ms.map (fun m=>m.dw)=l.map (fun x=>x.dw)∧ ∀ (k:Nat) m y,ms[k]? =some m→y∈m.bq→R w y
 |[],_=>⟨[],[],rfl,rfl,rfl,(fun X hX=>by cases hX),(fun k m a h=>by simp at h),rfl,(fun k m y h=>by simp at h)⟩
 |x::l,h=>by
  obtain ⟨ms,az,E,F,G,H,AA,J,K⟩:=vt (fun y hy=>h y (cV _ hy))
  obtain ⟨sy,A,B,C,D,L⟩:=h x sm
  have e4':sy.length≤9223372036854775807:=D
  refine ⟨⟨x.dw,sy⟩::ms,(x.bq.a,x.bq.c)::az,?_,by simp [F],by simp [G],fun X hX=>?_,fun k m a hm ha=>?_,by simp [J],fun k m y hm hy=>?_⟩
  ·obtain ⟨dr,⟨a,n,c⟩⟩:=x
   simp only at A
   subst A
   simp only [List.map_cons,List.zipWith_cons_cons,E]
   rfl
  ·rcases dJ.1 hX with hX|hX
   ·simp only [ar.g4,bJ] at hX
    subst hX; exact B
   ·exact H X hX
  ·cases k with
   |zero=>
    simp only [List.getElem?_cons_zero,Option.some.injEq] at hm ha
    subst hm ha
    exact ⟨by simp only; omega,e4'⟩
   |succ k=>exact AA k m a (by simpa using hm) (by simpa using ha)
  ·cases k with
   |zero=>
    simp only [List.getElem?_cons_zero,Option.some.injEq] at hm
    subst hm
    exact C y hy
   |succ k=>exact K k m y (by simpa using hm) hy
theorem HL {w:World} {s:bW} {R1:World→al→Prop} {R2:World→dq→Prop} {R3:World→bH→Prop} {R4:World→cz→Prop} (h1:iP al.cells 9 R1 w s.aM.k7) (hs: ∀ x,R1 w x→0≤x.jo∧x.jo≤255) (h2:iP dq.cells 2 R2 w s.ai) (hc: ∀ x,R2 w x→iP cz.cells 3 R4 w x.bq) (h3:iP bH.cells 4 R3 w s.ae):
 ∃ (l:aZ) (az:List RA) (kA:OA) (kC:Nat) (cA:OA) (cC:Nat) (bA:OA) (bC:Nat),s=bW.mk (bB.mk (bo.mk kA l.aM.length kC)) l.gH (bo.mk cA l.ai.length cC) (bo.mk bA l.ae.length bC) l.cr l.eh l.cO∧sY l az∧
  ((rd kA l.aM.length 9 (l.aM.map al.cells)).holds w∧(rd cA l.ai.length 2 (List.zipWith ar.cells l.ai az)).holds w∧(fc (aU ar.g4 l.ai az)).holds w∧(rd bA l.ae.length 4 (l.ae.map bH.cells)).holds w)∧l.gH=s.gH∧l.cr=s.cr∧l.eh=s.eh∧l.cO=s.cO:=by
 obtain ⟨⟨⟨ka,kn,kc⟩⟩,fa,⟨ca,cn,cc⟩,⟨ba,bn,bc⟩,fi,fk,mi⟩:=s
 obtain ⟨ts,E,M,N,O,T⟩:=h1
 obtain ⟨cs,B,C,H,AA,R⟩:=h2
 obtain ⟨bs,A,F,P,G,Q⟩:=h3
 simp only at E B A
 subst E B A
 obtain ⟨ms,az,J,D,S,K,L,_⟩:=vt (fun x hx=>hc x (H x hx))
 have t4':ts.length≤9223372036854775807:=O
 have c4':cs.length≤9223372036854775807:=AA
 have b4':bs.length≤9223372036854775807:=G
 refine ⟨⟨ts,fa,ms,bs,fi,fk,mi⟩,az,ka,kc,ca,cc,ba,bc,by simp only [D],⟨t4',fun x hx=>hs x (N x hx),by simp only; omega,by simp only; omega,b4',L⟩,⟨M,?_,K,F⟩,U,U,U,U⟩
 simp only at C ⊢
 rw [D,← J]; exact C
end
section
open Go.RowKit
theorem wB {w:World} {R:World→aK→Prop}: ∀ {l:List bp},(∀ x∈l,iP aK.cells 2 R w x.cv.ah)→ ∃ (ms:List aw) (az:List RA),l.map bp.cells=List.zipWith aw.cells ms az∧ms.length=l.length∧az.length=l.length∧(∀ X∈aU aw.g4 ms az,X.holds w)∧
 ∀ d∈ms,d.cv.ah.length≤9223372036854775807
 |[],_=>⟨[],[],rfl,rfl,rfl,(fun X hX=>by cases hX),fun d h=>by cases h⟩
 |x::l,h=>by
  obtain ⟨ms,az,D,E,F,G,H⟩:=wB (fun y hy=>h y (cV _ hy))
  obtain ⟨sg,A,B,AA,C,J⟩:=h x sm
  have e4':sg.length≤9223372036854775807:=C
  refine ⟨⟨x.Out,x.eU,x.Time,⟨x.cv.Start,x.cv.gk,sg⟩⟩::ms,(x.cv.ah.a,x.cv.ah.c)::az,?_,by simp [E],by simp [F],fun X hX=>?_,fun d hd=>?_⟩
  ·obtain ⟨o,f,t,⟨st,nw,⟨a,n,c⟩⟩⟩:=x
   simp only at A
   subst A
   simp only [List.map_cons,List.zipWith_cons_cons,D]
   rfl
  ·rcases dJ.1 hX with hX|hX
   ·simp only [aw.g4,bJ] at hX
    subst hX; exact B
   ·exact G X hX
  ·rcases bx.1 hd with rfl|hd
   ·exact e4'
   ·exact H d hd
theorem yb {w:World} {R2:World→bp→Prop} {R:World→aK→Prop} (hc: ∀ x,R2 w x→iP aK.cells 2 R w x.cv.ah): ∀ {l:List bo},(∀ x∈l,iP bp.cells 7 R2 w x)→ ∃ (ms:List (List aw)) (ha:List cy),(l.map fun s=>[vS s.a s.n s.c])=List.zipWith ct ms ha∧ms.length=l.length∧ha.length=l.length∧(∀ X∈aU iw ms ha,X.holds w)∧
 ∀ (k:Nat) h (a:cy),ms[k]? =some h→ha[k]? =some a→h.length≤9223372036854775807∧a.2.length=h.length∧ ∀ d∈h,d.cv.ah.length≤9223372036854775807
 |[],_=>⟨[],[],rfl,rfl,rfl,(fun X hX=>by cases hX),(fun k h a q=>by simp at q)⟩
 |x::l,h=>by
  obtain ⟨ms,ha,J,K,L,M,N⟩:=yb hc (fun y hy=>h y (cV _ hy))
  obtain ⟨ds,C,G,H,AA,P⟩:=h x sm
  obtain ⟨dm,az,D,B,O,E,F⟩:=wB fun y hy=>hc y (H y hy)
  have e4':ds.length≤9223372036854775807:=AA
  refine ⟨dm::ms,((x.a,x.c),az)::ha,?_,by simp [K],by simp [L],fun X hX=>?_,fun k m a hm A=>?_⟩
  ·obtain ⟨a,n,c⟩:=x
   simp only at C
   subst C
   simp only [List.map_cons,List.zipWith_cons_cons,J,ct,B]
  ·rcases dJ.1 hX with hX|hX
   ·unfold iw at hX
    rcases bx.1 hX with rfl|hX
    ·simp only
     rw [B,← D]; exact G
    ·exact E X hX
   ·exact M X hX
  ·cases k with
   |zero=>
    simp only [List.getElem?_cons_zero,Option.some.injEq] at hm A
    subst hm A
    exact ⟨I,by simp only; omega,F⟩
   |succ k=>exact N k m a (by simpa using hm) (by simpa using A)
theorem Hz {w:World} {s:cp} {R1:World→al→Prop} {R2:World→dq→Prop} {R3:World→bH→Prop} {R4:World→cz→Prop} {R5:World→Int→Prop} {R6:World→bo→Prop} {R7:World→bp→Prop} {R8:World→aK→Prop}
 (h1:iP al.cells 9 R1 w s.ao.aM.k7) (hs: ∀ x,R1 w x→0≤x.jo∧x.jo≤255) (h2:iP dq.cells 2 R2 w s.ao.ai) (hc: ∀ x,R2 w x→iP cz.cells 3 R4 w x.bq) (h3:iP bH.cells 4 R3 w s.ao.ae)
 (h4:iP iC 1 R5 w s.aL) (h5:iP iC 1 R5 w s.bE) (h6:iP (fun s=>[vS s.a s.n s.c]) 1 R6 w s.an) (h7: ∀ x,R6 w x→iP bp.cells 7 R7 w x) (h8: ∀ x,R7 w x→iP aK.cells 2 R8 w x.cv.ah):
 ∃ (r:bT) (az:List RA) (ha:List cy) (kA:OA) (kC:Nat) (cA:OA) (cC:Nat) (bA:OA) (bC:Nat) (slA:OA) (slC:Nat) (drA:OA) (drC:Nat) (heA:OA) (heC:Nat),
  s=cp.mk (bW.mk (bB.mk (bo.mk kA r.ao.aM.length kC)) r.ao.gH (bo.mk cA r.ao.ai.length cC) (bo.mk bA r.ao.ae.length bC) r.ao.cr r.ao.eh r.ao.cO) (bo.mk slA r.aL.length slC) (bo.mk drA r.bE.length drC) r.gJ (bo.mk heA r.an.length heC)∧rD r az ha∧
  ((rd kA r.ao.aM.length 9 (r.ao.aM.map al.cells)).holds w∧(rd cA r.ao.ai.length 2 (List.zipWith ar.cells r.ao.ai az)).holds w∧(fc (aU ar.g4 r.ao.ai az)).holds w∧(rd bA r.ao.ae.length 4 (r.ao.ae.map bH.cells)).holds w∧
   (rd slA r.aL.length 1 (r.aL.map iC)).holds w∧(rd drA r.bE.length 1 (r.bE.map iC)).holds w∧(rd heA r.an.length 1 (List.zipWith ct r.an ha)).holds w∧(fc (aU iw r.an ha)).holds w):=by
 obtain ⟨ln,⟨sa,sn,sc⟩,⟨da,dn,dc⟩,tu,⟨ea,en,ec⟩⟩:=s
 obtain ⟨l,az,kA,kC,cA,cC,bA,bC,e,A,hh,_⟩:=HL (s:=ln) h1 hs h2 hc h3
 subst e
 obtain ⟨sl,F,N,T,O,AA⟩:=h4
 obtain ⟨dr,B,G,P,H,Q⟩:=h5
 obtain ⟨he,D,E,L,M,S⟩:=h6
 obtain ⟨ms,ha,AB,C,R,J,K⟩:=yb h8 (fun x hx=>h7 x (L x hx))
 simp only at F B D
 subst F B D
 have s4':sl.length≤9223372036854775807:=O
 have d4':dr.length≤9223372036854775807:=H
 have q4':he.length≤9223372036854775807:=M
 refine ⟨⟨l,sl,dr,tu,ms⟩,az,ha,kA,kC,cA,cC,bA,bC,sa,sc,da,dc,ea,ec,by simp only [C],⟨A,s4',d4',by simp only; omega,by simp only; omega,K⟩,hh.1,hh.2.1,hh.2.2.1,hh.2.2.2,N,G,?_,J⟩
 simp only at E ⊢
 rw [C,← AB]; exact E
end
section
open Go.ChangeShapes Go.WideShapes Go.ChangeAt Go.RowKit
theorem Vk:Tryz.prog.cellsOf 32=11:=by kernel_rfl
theorem RI:Tryz.prog.cellsOf 28=7:=by kernel_rfl
theorem Su:Tryz.prog.cellsOf 24=1:=by kernel_rfl
theorem VE:Tryz.prog.cellsOf 22=1:=by kernel_rfl
theorem Ps:Tryz.prog.cellsOf 153=9:=by kernel_rfl
theorem Bd:Tryz.prog.cellsOf 3=1:=by kernel_rfl
def yP (w:World) (n:Int):Prop:=ql n
theorem Be:sS Tryz.prog 3 Int iC yP:=Rs mY
theorem E3:Tryz.prog.cellsOf 45=2:=by kernel_rfl
structure DH (w:World) (s:aa):Prop where
 Lo:yP w s.Lo
 Hi:yP w s.Hi
theorem UO:fL Tryz.prog 45=some [(3,0),(3,1)]:=by kernel_rfl
theorem Hw:sS Tryz.prog 45 aa aa.cells DH:=fun {H} enc w base sp A fuel cs x h=>by
 obtain ⟨hl,hp⟩:=jG UO h
 obtain ⟨M,O,F⟩:=hp 0 3 0 rfl
 obtain ⟨K,B,AA⟩:=Be _ _ _ _ _ _ _ _ F
 obtain ⟨N,P,G⟩:=hp 1 3 1 rfl
 obtain ⟨L,C,J⟩:=Be _ _ _ _ _ _ _ _ G
 refine ⟨⟨K,L⟩,?_,⟨AA,J⟩⟩
 have E:=g7 (hl.trans E3) (by rw [Bd]) C
 have D:=dA B (m:=1) (by rw [Bd]) E
 exact D
theorem V8:Tryz.prog.cellsOf 5=1:=by kernel_rfl
def V4 (w:World) (n:Int):Prop:=0≤n∧n≤255
theorem V_:sS Tryz.prog 5 Int JA V4:=RL Rw
structure I0 (w:World) (s:al):Prop where
 Id:yP w s.Id
 kD:DH w s.kD
 lO:DH w s.lO
 eL:DH w s.eL
 jo:V4 w s.jo
 Ai:yP w s.Ai
theorem TG:fL Tryz.prog 153=some [(3,0),(45,1),(45,3),(45,5),(5,7),(3,8)]:=by kernel_rfl
theorem Uu:sS Tryz.prog 153 al al.cells I0:=fun {H} enc w base sp A fuel cs x h=>by
 obtain ⟨hl,hp⟩:=jG TG h
 obtain ⟨g,o,O⟩:=hp 0 3 0 rfl
 obtain ⟨a,B,AA⟩:=Be _ _ _ _ _ _ _ _ O
 obtain ⟨i,p,P⟩:=hp 1 45 1 rfl
 obtain ⟨b,C,V⟩:=Hw _ _ _ _ _ _ _ _ P
 obtain ⟨j,q,Q⟩:=hp 2 45 3 rfl
 obtain ⟨c,D,W⟩:=Hw _ _ _ _ _ _ _ _ Q
 obtain ⟨k,r,R⟩:=hp 3 45 5 rfl
 obtain ⟨d,E,X⟩:=Hw _ _ _ _ _ _ _ _ R
 obtain ⟨l,s,S⟩:=hp 4 5 7 rfl
 obtain ⟨e,F,Y⟩:=V_ _ _ _ _ _ _ _ _ S
 obtain ⟨n,t,T⟩:=hp 5 3 8 rfl
 obtain ⟨f,G,Z⟩:=Be _ _ _ _ _ _ _ _ T
 refine ⟨⟨a,b,c,d,e,f⟩,?_,⟨AA,V,W,X,Y,Z⟩⟩
 have N:=g7 (hl.trans Ps) (by rw [Bd]) G
 have M:=dA F (m:=8) (by rw [V8]) N
 have L:=dA E (m:=7) (by rw [E3]) M
 have K:=dA D (m:=5) (by rw [E3]) L
 have J:=dA C (m:=3) (by rw [E3]) K
 have AB:=dA B (m:=1) (by rw [Bd]) J
 exact AB
def Tu (w:World) (s:bo):Prop:= ∃ l:List al,s.n=l.length∧(rd s.a l.length 9 (l.map al.cells)).holds w∧(∀ x∈l,I0 w x)∧l.length≤maxLen∧s.n≤s.c
theorem U3:sS Tryz.prog 22 bo (fun s=>[vS s.a s.n s.c]) Tu:=my Qe Ps Uu
structure Sf (w:World) (s:bB):Prop where
 k7:Tu w s.k7
theorem U5:fL Tryz.prog 24=some [(22,0)]:=by kernel_rfl
theorem Vt:sS Tryz.prog 24 bB bB.cells Sf:=fun {H} enc w base sp A fuel cs x h=>by
 obtain ⟨hl,hp⟩:=jG U5 h
 obtain ⟨G,AA,D⟩:=hp 0 22 0 rfl
 obtain ⟨F,B,E⟩:=U3 _ _ _ _ _ _ _ _ D
 refine ⟨⟨F⟩,?_,⟨E⟩⟩
 have C:=g7 (hl.trans Su) (by rw [VE]) B
 exact C
theorem UR:Tryz.prog.cellsOf 25=1:=by kernel_rfl
theorem Sx:Tryz.prog.cellsOf 53=2:=by kernel_rfl
theorem Va:Tryz.prog.cellsOf 51=1:=by kernel_rfl
theorem TX:Tryz.prog.cellsOf 55=3:=by kernel_rfl
structure P7 (w:World) (s:cz):Prop where
 At:yP w s.At
 eI:DH w s.eI
theorem VR:fL Tryz.prog 55=some [(3,0),(45,1)]:=by kernel_rfl
theorem VX:sS Tryz.prog 55 cz cz.cells P7:=fun {H} enc w base sp A fuel cs x h=>by
 obtain ⟨hl,hp⟩:=jG VR h
 obtain ⟨M,O,F⟩:=hp 0 3 0 rfl
 obtain ⟨K,B,AA⟩:=Be _ _ _ _ _ _ _ _ F
 obtain ⟨N,P,G⟩:=hp 1 45 1 rfl
 obtain ⟨L,C,J⟩:=Hw _ _ _ _ _ _ _ _ G
 refine ⟨⟨K,L⟩,?_,⟨AA,J⟩⟩
 have E:=g7 (hl.trans TX) (by rw [E3]) C
 have D:=dA B (m:=1) (by rw [Bd]) E
 exact D
def TQ (w:World) (s:bo):Prop:= ∃ l:List cz,s.n=l.length∧(rd s.a l.length 3 (l.map cz.cells)).holds w∧(∀ x∈l,P7 w x)∧l.length≤maxLen∧s.n≤s.c
theorem UY:sS Tryz.prog 51 bo (fun s=>[vS s.a s.n s.c]) TQ:=my RU TX VX
structure Rc (w:World) (s:dq):Prop where
 dw:yP w s.dw
 bq:TQ w s.bq
theorem Vn:fL Tryz.prog 53=some [(3,0),(51,1)]:=by kernel_rfl
theorem VH:sS Tryz.prog 53 dq dq.cells Rc:=fun {H} enc w base sp A fuel cs x h=>by
 obtain ⟨hl,hp⟩:=jG Vn h
 obtain ⟨M,O,F⟩:=hp 0 3 0 rfl
 obtain ⟨K,B,AA⟩:=Be _ _ _ _ _ _ _ _ F
 obtain ⟨N,P,G⟩:=hp 1 51 1 rfl
 obtain ⟨L,C,J⟩:=UY _ _ _ _ _ _ _ _ G
 refine ⟨⟨K,L⟩,?_,⟨AA,J⟩⟩
 have E:=g7 (hl.trans Sx) (by rw [Va]) C
 have D:=dA B (m:=1) (by rw [Bd]) E
 exact D
def TZ (w:World) (s:bo):Prop:= ∃ l:List dq,s.n=l.length∧(rd s.a l.length 2 (l.map dq.cells)).holds w∧(∀ x∈l,Rc w x)∧l.length≤maxLen∧s.n≤s.c
theorem VN:sS Tryz.prog 25 bo (fun s=>[vS s.a s.n s.c]) TZ:=my SJ Sx VH
theorem UW:Tryz.prog.cellsOf 26=1:=by kernel_rfl
theorem Po:Tryz.prog.cellsOf 160=4:=by kernel_rfl
theorem O9:Tryz.prog.cellsOf 158=3:=by kernel_rfl
structure Pr (w:World) (s:cM):Prop where
 a_:yP w s.a_
 mN:DH w s.mN
theorem S0:fL Tryz.prog 158=some [(3,0),(45,1)]:=by kernel_rfl
theorem TE:sS Tryz.prog 158 cM cM.cells Pr:=fun {H} enc w base sp A fuel cs x h=>by
 obtain ⟨hl,hp⟩:=jG S0 h
 obtain ⟨M,O,F⟩:=hp 0 3 0 rfl
 obtain ⟨K,B,AA⟩:=Be _ _ _ _ _ _ _ _ F
 obtain ⟨N,P,G⟩:=hp 1 45 1 rfl
 obtain ⟨L,C,J⟩:=Hw _ _ _ _ _ _ _ _ G
 refine ⟨⟨K,L⟩,?_,⟨AA,J⟩⟩
 have E:=g7 (hl.trans O9) (by rw [E3]) C
 have D:=dA B (m:=1) (by rw [Bd]) E
 exact D
structure JT (w:World) (s:bH):Prop where
 mR:Pr w s.mR
 j0:yP w s.j0
theorem Ud:fL Tryz.prog 160=some [(158,0),(3,3)]:=by kernel_rfl
theorem SN:sS Tryz.prog 160 bH bH.cells JT:=fun {H} enc w base sp A fuel cs x h=>by
 obtain ⟨hl,hp⟩:=jG Ud h
 obtain ⟨M,O,F⟩:=hp 0 158 0 rfl
 obtain ⟨K,B,AA⟩:=TE _ _ _ _ _ _ _ _ F
 obtain ⟨N,P,G⟩:=hp 1 3 3 rfl
 obtain ⟨L,C,J⟩:=Be _ _ _ _ _ _ _ _ G
 refine ⟨⟨K,L⟩,?_,⟨AA,J⟩⟩
 have E:=g7 (hl.trans Po) (by rw [Bd]) C
 have D:=dA B (m:=3) (by rw [O9]) E
 exact D
def Tc (w:World) (s:bo):Prop:= ∃ l:List bH,s.n=l.length∧(rd s.a l.length 4 (l.map bH.cells)).holds w∧(∀ x∈l,JT w x)∧l.length≤maxLen∧s.n≤s.c
theorem Vw:sS Tryz.prog 26 bo (fun s=>[vS s.a s.n s.c]) Tc:=my PZ Po SN
structure RW (w:World) (s:bW):Prop where
 aM:Sf w s.aM
 gH:yP w s.gH
 ai:TZ w s.ai
 ae:Tc w s.ae
 cr:yP w s.cr
 eh:yP w s.eh
 cO:yP w s.cO
theorem Vr:fL Tryz.prog 28=some [(24,0),(3,1),(25,2),(26,3),(3,4),(3,5),(3,6)]:=by kernel_rfl
theorem U8:sS Tryz.prog 28 bW bW.cells RW:=fun {H} enc w base sp A fuel cs x h=>by
 obtain ⟨hl,hp⟩:=jG Vr h
 obtain ⟨n,u,Q⟩:=hp 0 24 0 rfl
 obtain ⟨e,B,X⟩:=Vt _ _ _ _ _ _ _ _ Q
 obtain ⟨o,v,R⟩:=hp 1 3 1 rfl
 obtain ⟨f,C,Y⟩:=Be _ _ _ _ _ _ _ _ R
 obtain ⟨p,y,S⟩:=hp 2 25 2 rfl
 obtain ⟨g,D,Z⟩:=VN _ _ _ _ _ _ _ _ S
 obtain ⟨q,z,T⟩:=hp 3 26 3 rfl
 obtain ⟨i,E,a⟩:=Vw _ _ _ _ _ _ _ _ T
 obtain ⟨r,y4,AA⟩:=hp 4 3 4 rfl
 obtain ⟨j,F,b⟩:=Be _ _ _ _ _ _ _ _ AA
 obtain ⟨s,y5,V⟩:=hp 5 3 5 rfl
 obtain ⟨k,G,c⟩:=Be _ _ _ _ _ _ _ _ V
 obtain ⟨t,y6,W⟩:=hp 6 3 6 rfl
 obtain ⟨l,AB,d⟩:=Be _ _ _ _ _ _ _ _ W
 refine ⟨⟨e,f,g,i,j,k,l⟩,?_,⟨X,Y,Z,a,b,c,d⟩⟩
 have P:=g7 (hl.trans RI) (by rw [Bd]) AB
 have O:=dA G (m:=6) (by rw [Bd]) P
 have N:=dA F (m:=5) (by rw [Bd]) O
 have M:=dA E (m:=4) (by rw [UW]) N
 have L:=dA D (m:=3) (by rw [UR]) M
 have K:=dA C (m:=2) (by rw [Bd]) L
 have J:=dA B (m:=1) (by rw [Su]) K
 exact J
theorem TU:Tryz.prog.cellsOf 29=1:=by kernel_rfl
def P4 (w:World) (s:bo):Prop:= ∃ l:List Int,s.n=l.length∧(rd s.a l.length 1 (l.map iC)).holds w∧(∀ x∈l,yP w x)∧l.length≤maxLen∧s.n≤s.c
theorem Tr:sS Tryz.prog 29 bo (fun s=>[vS s.a s.n s.c]) P4:=my Si Bd Be
theorem Vo:Tryz.prog.cellsOf 30=1:=by kernel_rfl
theorem VY:Tryz.prog.cellsOf 56=1:=by kernel_rfl
theorem Sj:Tryz.prog.cellsOf 62=7:=by kernel_rfl
theorem V3:Tryz.prog.cellsOf 4=1:=by kernel_rfl
def Vi (w:World) (n:Bool):Prop:=True
theorem V1:sS Tryz.prog 4 Bool (fun b=>[vB b]) Vi:=OK V0
theorem Ss:Tryz.prog.cellsOf 60=3:=by kernel_rfl
theorem Vx:Tryz.prog.cellsOf 58=1:=by kernel_rfl
theorem Px:Tryz.prog.cellsOf 107=2:=by kernel_rfl
structure Lj (w:World) (s:aK):Prop where
 gu:yP w s.gu
 Read:yP w s.Read
theorem Sy:fL Tryz.prog 107=some [(3,0),(3,1)]:=by kernel_rfl
theorem RR:sS Tryz.prog 107 aK aK.cells Lj:=fun {H} enc w base sp A fuel cs x h=>by
 obtain ⟨hl,hp⟩:=jG Sy h
 obtain ⟨M,O,F⟩:=hp 0 3 0 rfl
 obtain ⟨K,B,AA⟩:=Be _ _ _ _ _ _ _ _ F
 obtain ⟨N,P,G⟩:=hp 1 3 1 rfl
 obtain ⟨L,C,J⟩:=Be _ _ _ _ _ _ _ _ G
 refine ⟨⟨K,L⟩,?_,⟨AA,J⟩⟩
 have E:=g7 (hl.trans Px) (by rw [Bd]) C
 have D:=dA B (m:=1) (by rw [Bd]) E
 exact D
def TY (w:World) (s:bo):Prop:= ∃ l:List aK,s.n=l.length∧(rd s.a l.length 2 (l.map aK.cells)).holds w∧(∀ x∈l,Lj w x)∧l.length≤maxLen∧s.n≤s.c
theorem UJ:sS Tryz.prog 58 bo (fun s=>[vS s.a s.n s.c]) TY:=my Ue Px RR
structure SI (w:World) (s:dY):Prop where
 Start:yP w s.Start
 gk:yP w s.gk
 ah:TY w s.ah
theorem Vb:fL Tryz.prog 60=some [(3,0),(3,1),(58,2)]:=by kernel_rfl
theorem VU:sS Tryz.prog 60 dY dY.cells SI:=fun {H} enc w base sp A fuel cs x h=>by
 obtain ⟨hl,hp⟩:=jG Vb h
 obtain ⟨R,AA,AB⟩:=hp 0 3 0 rfl
 obtain ⟨O,B,L⟩:=Be _ _ _ _ _ _ _ _ AB
 obtain ⟨S,V,J⟩:=hp 1 3 1 rfl
 obtain ⟨P,C,M⟩:=Be _ _ _ _ _ _ _ _ J
 obtain ⟨T,W,K⟩:=hp 2 58 2 rfl
 obtain ⟨Q,D,N⟩:=UJ _ _ _ _ _ _ _ _ K
 refine ⟨⟨O,P,Q⟩,?_,⟨L,M,N⟩⟩
 have G:=g7 (hl.trans Ss) (by rw [Vx]) D
 have F:=dA C (m:=2) (by rw [Bd]) G
 have E:=dA B (m:=1) (by rw [Bd]) F
 exact E
structure Q_ (w:World) (s:bp):Prop where
 Out:Vi w s.Out
 eU:Vi w s.eU
 Time:DH w s.Time
 cv:SI w s.cv
theorem VA:fL Tryz.prog 62=some [(4,0),(4,1),(45,2),(60,4)]:=by kernel_rfl
theorem Vd:sS Tryz.prog 62 bp bp.cells Q_:=fun {H} enc w base sp A fuel cs x h=>by
 obtain ⟨hl,hp⟩:=jG VA h
 obtain ⟨W,a,K⟩:=hp 0 4 0 rfl
 obtain ⟨S,B,O⟩:=V1 _ _ _ _ _ _ _ _ K
 obtain ⟨X,b,L⟩:=hp 1 4 1 rfl
 obtain ⟨T,C,P⟩:=V1 _ _ _ _ _ _ _ _ L
 obtain ⟨Y,c,M⟩:=hp 2 45 2 rfl
 obtain ⟨AA,D,Q⟩:=Hw _ _ _ _ _ _ _ _ M
 obtain ⟨Z,d,N⟩:=hp 3 60 4 rfl
 obtain ⟨V,E,R⟩:=VU _ _ _ _ _ _ _ _ N
 refine ⟨⟨S,T,AA,V⟩,?_,⟨O,P,Q,R⟩⟩
 have J:=g7 (hl.trans Sj) (by rw [Ss]) E
 have AB:=dA D (m:=4) (by rw [E3]) J
 have G:=dA C (m:=2) (by rw [V3]) AB
 have F:=dA B (m:=1) (by rw [V3]) G
 exact F
def P1 (w:World) (s:bo):Prop:= ∃ l:List bp,s.n=l.length∧(rd s.a l.length 7 (l.map bp.cells)).holds w∧(∀ x∈l,Q_ w x)∧l.length≤maxLen∧s.n≤s.c
theorem U9:sS Tryz.prog 56 bo (fun s=>[vS s.a s.n s.c]) P1:=my Uk Sj Vd
def SC (w:World) (s:bo):Prop:= ∃ l:List bo,s.n=l.length∧(rd s.a l.length 1 (l.map (fun s=>[vS s.a s.n s.c]))).holds w∧(∀ x∈l,P1 w x)∧l.length≤maxLen∧s.n≤s.c
theorem UM:sS Tryz.prog 30 bo (fun s=>[vS s.a s.n s.c]) SC:=my TF VY U9
structure Vs (w:World) (s:cp):Prop where
 ao:RW w s.ao
 aL:P4 w s.aL
 bE:P4 w s.bE
 gJ:yP w s.gJ
 an:SC w s.an
theorem Tz:fL Tryz.prog 32=some [(28,0),(29,7),(29,8),(3,9),(30,10)]:=by kernel_rfl
theorem Vl:sS Tryz.prog 32 cp cp.cells Vs:=fun {H} enc w base sp A fuel cs x h=>by
 obtain ⟨hl,hp⟩:=jG Tz h
 obtain ⟨b,g,M⟩:=hp 0 28 0 rfl
 obtain ⟨W,B,R⟩:=U8 _ _ _ _ _ _ _ _ M
 obtain ⟨c,i,N⟩:=hp 1 29 7 rfl
 obtain ⟨X,C,S⟩:=Tr _ _ _ _ _ _ _ _ N
 obtain ⟨d,j,O⟩:=hp 2 29 8 rfl
 obtain ⟨Y,D,T⟩:=Tr _ _ _ _ _ _ _ _ O
 obtain ⟨e,k,P⟩:=hp 3 3 9 rfl
 obtain ⟨Z,E,AA⟩:=Be _ _ _ _ _ _ _ _ P
 obtain ⟨f,l,Q⟩:=hp 4 30 10 rfl
 obtain ⟨a,F,V⟩:=UM _ _ _ _ _ _ _ _ Q
 refine ⟨⟨W,X,Y,Z,a⟩,?_,⟨R,S,T,AA,V⟩⟩
 have L:=g7 (hl.trans Vk) (by rw [Vo]) F
 have K:=dA E (m:=10) (by rw [Bd]) L
 have J:=dA D (m:=9) (by rw [TU]) K
 have AB:=dA C (m:=8) (by rw [TU]) J
 have G:=dA B (m:=7) (by rw [RI]) AB
 exact G
theorem yo:ownKnob Tryz.prog.godebug=none:=by kernel_rfl
theorem wT:laidOutB Tryz.prog=true:=by kernel_rfl
theorem uP (os:Os) (started:os.Started) (H:Type) (enc:TypeId×Value→H):
 ReturnsInHanded {} Tryz.checked os 3 .any (fun w args=>(Rows.raceOrderSpec.pre enc Tryz.prog Tryz.f3 [] false w args∧laidMetH Tryz.prog [("kreisel/race.table",Rows.laid_kreisel_race_table)] w)∧sizedMet enc Tryz.prog Tryz.f3 (OpenSpec.ofChange Rows.raceOrderSpec) false w args) (Rows.raceOrderSpec.post enc Tryz.prog Tryz.f3 false true false false):=by
 refine returnsInHanded_of_change_and (C:=Tryz.checked) (X:=(fun w _=>laidMetH Tryz.prog [("kreisel/race.table",Rows.laid_kreisel_race_table)] w)) (fun _ _ _ hh h=>h.of_heap hh) yo started kr Tryz.func3
  (ChangeSpec.witness_shaped (enc:=enc) (C:=Tryz.checked) (os:=os) (X:=(fun w _=>laidMetH Tryz.prog [("kreisel/race.table",Rows.laid_kreisel_race_table)] w)) false (World.doorLaid Tryz.prog 400 os) #[.agg #[(vS none 0 0),(vI 0),(vS none 0 0),(vS none 0 0),(vI 0),(vI 0),(vI 0),(vS none 0 0),(vS none 0 0),(vI 0),(vS none 0 0)],Value.int .u8 0] 8 rfl (World.shaped_of_RefB kr kr) kr kr kr (Fe os _)) ?_
 intro W base args ds gs before E hW _ _ hL _
 have D: ∀ (j:Nat) t v,Tryz.f3.params[j]? =some t→args[j]? =some v→Value.okWide Tryz.prog W .any base t v:=E
 have hW':=hW
 obtain ⟨p,q,K,hV,rfl,Y,Z⟩:=hW
 have hA:DataW.TrodAll enc Tryz.prog W 0 (fun _=>true) true Tryz.f3.params.toList args.toList ds p:=K
 have F:=hA
 rw [Tryz.params3] at hA D
 obtain ⟨Q,d,g,S,l,n,L,rfl,rfl,AA,a⟩:=trodAll_cons hA
 obtain ⟨R,f,i,T,m,o,rfl,rfl,rfl,V,b⟩:=trodAll_cons a
 obtain ⟨rfl,rfl,rfl⟩:=trodAll_nil b
 obtain rfl:args= #[Q,R]:=by cases args; simp_all
 obtain ⟨rfl,rfl⟩:=trodVars_none hV
 obtain ⟨s,rfl,R0⟩:=DE Tz Vl (D 0 32 Q rfl rfl) AA
 obtain ⟨c,rfl,R1⟩:=Nv (k:= .u8) Rw (D 1 5 R rfl rfl) V
 simp only [List.append_nil] at hW' F
 have J:=yl hL
 obtain ⟨r,az,ha,kA,kC,cA,cC,bA,bC,O,P,drA,drC,M,N,rfl,G,B⟩:=Hz (R1:=I0) (R2:=Rc) (R3:=JT) (R4:=P7) (R5:=yP) (R6:=P1) (R7:=Q_) (R8:=Lj) R0.ao.aM.k7 (fun x hx=>hx.jo) R0.ao.ai (fun x hx=>hx.bq) R0.ao.ae R0.aL R0.bE R0.an (fun x hx=>hx) (fun x hx=>hx.cv.ah)
 have AB:=(CR r kA kC az cA cC bA bC O P drA drC ha M N c G R1).run W (by intro A hA; simp only [bx,List.not_mem_nil,or_false] at hA; rcases hA with rfl|rfl|rfl|rfl|rfl|rfl|rfl|rfl|rfl; exact J; exact B.1; exact B.2.1; exact B.2.2.1; exact B.2.2.2.1; exact B.2.2.2.2.1; exact B.2.2.2.2.2.1; exact B.2.2.2.2.2.2.1; exact B.2.2.2.2.2.2.2)
 refine (AB).mono fun e W' ⟨he,hk⟩=>?_
 subst he
 exact ⟨_,U,JO wT hW' F U U kr hk.below kr V0⟩
theorem vM:Rows.RaceOrderSaid:=
 OpenClaim.holds_of_wide 3 Tryz.f3 rfl rfl rfl rfl rfl rfl rfl ⟨rfl,rfl,rfl,rfl,rfl⟩ rfl rfl rfl rfl rfl kr Tryz.func3 uO
  (of_decide_eq_true kr) (by unfold Func.isWrapper; first|(rw [if_pos (by decide+kernel)]; kernel_rfl)|(rw [if_neg (by decide+kernel)]; exact ⟨rfl,rfl⟩))
  (fun os started H enc _=>uP os started H enc)
/-- the statement -/
theorem raceOrder_said:Rows.RaceOrderCardSaid:=
 Claim7.holds_tied_plain_at .later [] [.funcsDeep] true (true,"128c7b92841058bed12da8afed87bbc4b0aaabe1f53fa26f3375c79494883c5c") true
  vM (fun _ h=>by cases h) kr (fun _ h=>by cases h) raceOrder_row_tie rfl ⟨rfl,rfl⟩ kr rfl
  (fun f fn hf B=>by
   obtain rfl:f=3:=Option.some.inj ((show Tryz.prog.funcNamed "kreisel/kreisellaw06.RaceOrder"=some 3 by kernel_rfl).symm.trans hf) |>.symm
   obtain rfl:fn=Tryz.f3:=(Option.some.inj (Tryz.func3.symm.trans B)).symm
   exact ⟨kr,fun j t ht=>by
    rw [Tryz.params3] at ht
    have hm:t∈([32,5]:List Nat):=by simpa using Array.mem_of_getElem? ht
    have A:(([32,5]:List Nat).all fun u=> !Tryz.prog.wantsStandIn u)=true:=by kernel_rfl
    exact (show Tryz.prog.wantsStandIn t=false by simpa using cT.1 A t hm)⟩)
  kr
#print axioms raceOrder_said
end
end Go.Proofs.YtlajhejcfcoddaaGreatDoor
