/-
 The statement juryTrue_said, part 8 of 8: Y1, Y2, Y3, Y5, Rr3, Rr4, Rr5, Rra, Jr2, Jr3, Jz1, Jz2, Jz3, Jz4, JDrive, Ahead5, JDrv, Sel6, Jd1, Jd2, Jm2, LineOpen, RaceOpen, JOpen, True70.
 Conditions: none.
-/
import Derived.Test.YtfhghdbminmhnaaGreatDoorTy1
import Derived.Test.YtfhghdbminmhnaaGreatDoorTy2
import Derived.Test.YtfhghdbminmhnaaGreatDoorTy3
import Derived.Test.YtfhghdbminmhnaaGreatDoorTy4
import Derived.Test.YtfhghdbminmhnaaGreatDoorTy5
import Derived.Test.YtfhghdbminmhnaaGreatDoorTy6
import Derived.Test.YtfhghdbminmhnaaGreatDoorTy7
import Derived.Test.YtfhghdbminmhnaaGreatDoorCards
import Derived.Test.YtfhghdbminmhnaaGreatDoorTie
import Derived.SevenTiedAt
import Derived.LaidMore
import Derived.Stop.Joined
import Derived.Test.YtfhghdbminmhnaaGreatDoorRows
import Derived.Test.YtfhghdbminmhnaaGreatDoorProg
import Derived.KernelRfl
namespace Go.Proofs.YtfhghdbminmhnaaGreatDoor
set_option maxRecDepth 100000
set_option maxHeartbeats 4000000
set_option linter.unusedVariables false
section
open Go.RowKit
theorem N5 (l:bp) (kA:OA) (kC:Nat) (az:List RA) (cA:OA) (cC:Nat) (bA:OA) (bC:Nat) (r:bT) (sgA:OA) (sgC:Nat) (hin:dY l az) (hle:dg l=0) (hr:er l r):
 pS Tryz.prog 162 [(vA (cr.cells (jC l kA kC cA cC bA bC))),(vA (cb.cells (ji r sgA sgC)))] [(rd kA l.aS.length 9 (l.aS.map ar.cells)),(rd cA l.aj.length 2 (List.zipWith au.cells l.aj az)),(dT (br au.gd l.aj az)),(rd bA l.aa.length 4 (l.aa.map bJ.cells)),(rd sgA r.ab.length 2 (r.ab.map aA.cells))] (fun (x:(OA)×Nat×(OA)×Nat×(OA)×Nat)=>(vA (iL.cells (iL.mk (bD.mk x.1 ((cm l l.aa.length).length) x.2.1) (bD.mk x.2.2.1 ((eZ l r r.ab.length).length) x.2.2.2.1) (bD.mk x.2.2.2.2.1 ((fG l r r.ab.length).length) x.2.2.2.2.2))))) (fun (x:(OA)×Nat×(OA)×Nat×(OA)×Nat)=>True) (fun (x:(OA)×Nat×(OA)×Nat×(OA)×Nat)=>[(own x.1 x.2.1 3 1 ((cm l l.aa.length).map iC)),(own x.2.2.1 x.2.2.2.1 48 2 ((eZ l r r.ab.length).map ag.cells)),(own x.2.2.2.2.1 x.2.2.2.2.2 4 1 ((fG l r r.ab.length).map qO))]):=by
 have A5:=hin.qS
 have A1:=hin.qW
 have An:=hin.nx
 have A0:=hin.qU
 obtain ⟨w,g⟩:=du hle
 have t:=g.head
 unfold eU at t
 have A3:=hr.len
 have A4:=hr.time
 refine fB kr Tryz.func162 U U fun w0 Q hQ hN=>?_
 try dsimp only
 refine WS fun _ n=>eO U fun b2=>eO U fun b3=>AL U ON fun b4=>RK n<|WS fun _ o=>AL U ON fun h=>RK o<|ao fun _ p=>WS fun _ q=>rP 1 [] I ?_
 refine RK q<|aI<|eK 3 1 ?_
 have A:(0≤l.aa.length):=by exact Nat.zero_le _
 refine bZ (ι:={z:Nat×(OA)×Nat // (z.1≤l.aa.length)}) [2,3,4,5] [2,3,4,5,6,7,8,9] U U (fun z=>[(6,(vI (z.1.1:Int)))]) (fun z=>[(own z.1.2.1 z.1.2.2 3 1 ((cm l z.1.1).map iC)),(cp h 253 (iL.cells (iL.mk (bD.mk z.1.2.1 ((cm l z.1.1).length) z.1.2.2) (bD.mk none 0 0) (bD.mk none 0 0))))]) (fun _=>rfl) (fun _=>rfl) (fun z=>l.aa.length-z.1.1) ⟨(0,none,0),A⟩ (bu U) (aQ [2,3,4,5,6,7,8,9,0,1]) ?_
 clear A
 rintro ⟨⟨b,a,c⟩,F⟩ J9 m
 try dsimp only at F
 try dsimp only
 refine ao fun _ K=>WS fun _ L=>rP 5 [] (mc 2 U I) ?_
 refine RK L<|cy U (aU fun j=>?_) (aV fun j=>?_)
 ·refine WK K<|ao fun _ M=>aI<|dy cj [5,6,8] [1] [0] [0,1,2,3,4,5,6,7] [0,1,2,3,4,5,6,7,8,9] U U U U U<|eS U (FA 0 U eD U)<|fS U (L1 (vS a ((cm l b).length) c) 9 U b_ U U)<|eS U (LW 2 U b_ U U)<|eS U (MV U) ?_
  have A2:=mo w g (i:=b) om
  refine eS U (CL (Kh l kA kC az cA cC bA bC (b:Int) hin asm asm om) (bk [3,4,5,6]) U)<|eS U (FA 0 U eD U)<|eh U<|ja U fun T14 W=>d_ (xs:=[.tmp 21]) (cs:=[(vI (cZ l (b:Int).toNat))]) U dk jO U U U U (by simp [Value.cells]) U U fun y=>aH (W _ _ (aQ [1,2,3,4,5,6,7,8]) (aQ [1,2,3,4,5,6,7,8,9,10]) ?_)
  refine cf U fun T16 X=>?_
  refine dD (es2:=(List.map iC (cm l (b+1)))) (m':=(cm l (b+1)).length) 9 U U U rL U U sm (bo (es:=List.map iC [(cZ l (b:Int).toNat)]) 0 U U (by simp [bL]) U) (kD _) (by simp only [dh]; omega) (by simp only [maxLen,dh]; omega) (by rw [rV]; simp) sm U fun H AB=>?_
  try dsimp only
  refine aH (X _ _ (aQ [1,2,3,4,5,6,7,8]) ?_)
  refine cf U fun T19 Y=>RU (iL.cells (iL.mk (bD.mk H ((cm l (b+1)).length) AB) (bD.mk none 0 0) (bD.mk none 0 0))) U Db U U<|aH (Y _ _ (aQ [1,2,3,4,5,6,7,8]) ?_)
  refine e8 U<|aR<|KK M<|aw<|rP 3 [] I ?_
  refine aH ?_
  have e:(vI (((b+1):Nat):Int))=(vI ((b:Int)+1)):=by exact cI om
  refine bq (m ⟨((b+1),H,AB),(by first|omega|(simp only []; omega))⟩ _ _ _ U os (cY 4<|bw U e<|dG.nil _) (aQ [1,2,3,4,5,6,7,8,9,10]))
 refine bS<|ai<|ai<|aL<|KK p<|ao fun _ N=>WS fun _ O=>?_
 rw [show cm l b=(cm l l.aa.length) from by rw [show b=l.aa.length by omega]]
 refine rP 1 [] I ?_
 refine RK O<|aI<|eK 48 2<|eK 4 1 ?_
 have A:(0≤r.ab.length):=by exact Nat.zero_le _
 refine bZ (ι:={z:Nat×(OA)×Nat×(OA)×Nat // (z.1≤r.ab.length)}) [2,3,4,5] [2,3,4,5,6,7,8,9,10] U U (fun z=>[(7,(vI (z.1.1:Int)))]) (fun z=>[(own z.1.2.2.2.1 z.1.2.2.2.2 4 1 ((fG l r z.1.1).map qO)),(own z.1.2.1 z.1.2.2.1 48 2 ((eZ l r z.1.1).map ag.cells)),(cp h 253 (iL.cells (iL.mk (bD.mk a ((cm l l.aa.length).length) c) (bD.mk z.1.2.1 ((eZ l r z.1.1).length) z.1.2.2.1) (bD.mk z.1.2.2.2.1 ((fG l r z.1.1).length) z.1.2.2.2.2))))]) (fun _=>rfl) (fun _=>rfl) (fun z=>r.ab.length-z.1.1) ⟨(0,none,0,none,0),A⟩ (bu U) (aQ [2,3,4,5,6,7,8,9,10,0,1,11]) ?_
 clear A
 rintro ⟨⟨i,ta,tc,sa,sc⟩,G⟩ J23 J
 try dsimp only at G
 try dsimp only
 refine ao fun _ P=>WS fun _ R=>rP 5 [] (mc 1 U I) ?_
 refine RK R<|bW U (aV fun k=>?_) (aU fun k=>?_)
 ·refine bS<|ai<|ai<|aL<|KK N<|WS fun _ V=>?_
  rw [show eZ l r i=(eZ l r r.ab.length) from by rw [show i=r.ab.length by omega]]
  rw [show fG l r i=(fG l r r.ab.length) from by rw [show i=r.ab.length by omega]]
  refine rP 1 [] (mc 11 U I) ?_
  refine fJ U TU U<|RK V<|aq<|LX hQ (a,c,ta,tc,sa,sc) [8,10,9] [0] (mc 0 U I) U U U U ?_
  trivial
 refine WK P<|ao fun _ S=>aI<|ao fun _ T=>dy cj [10,11] [] [] [0,1,2,3,4,5,6,7,8,9,10,11] [] U U U U U<|eS U (LW 2 U b_ U U)<|eS U (FA 2 U eD U)<|eS U (L1 (vS sgA r.ab.length sgC) 1 U b_ U U)<|eS U (MV U) ?_
 obtain ⟨s,hs⟩:=aJ r.ab i om
 have v:=bM aA.cells hs
 refine eS U (IA i U (aB 7 U) wL dc om om)<|eS U (lM i 0 (aA.cells s) U b_ (aB 7 U) v U dc U U) ?_
 have u:=(hr.sig i s hs).1
 refine eS U (CL (MY l kA kC az cA cC bA bC s hin asm (by exact u)) (bk [3,4,5,6]) U)<|eS U (MV U)<|eS U (EX U)<|eS U (EX U)<|eS U (AG U)<|eh U<|cf U fun T29 Z=>AL U ed fun AC=>aH (Z _ _ (aQ [1,2,3,4,5,6,7,8,9,10,11,12]) ?_)
 refine cf U fun T31 d=>fJ U cW U<|aH (d _ _ (aQ [1,2,3,4,5,6,7,8,9,10,11,12]) ?_)
 refine e8 U<|KK T<|WS fun _ AA=>rP 3 [0,1] (mc 12 U (mc 0 U I)) ?_
 refine d_ (xs:=[.tmp 44]) (cs:=(ag.cells (cG l s))) U lu ed U U U U (by simp [Value.cells,ag.a_]) U U fun AO=>?_
 refine dD (es2:=(List.map ag.cells (eZ l r (i+1)))) (m':=(eZ l r (i+1)).length) 12 U U U Fg U U sm (bo (es:=List.map ag.cells [(cG l s)]) 0 U U (by simp [ag.a_]) U) (kU _) (by rw [se om]; omega) (by rw [se om]; simp only [maxLen]; omega) (by rw [DD hs]; simp) sm U fun B C=>?_
 try dsimp only
 refine bE 1 U<|il (vs:=[(vS B ((eZ l r (i+1)).length) C)]) (cs':=(iL.cells (iL.mk (bD.mk a ((cm l l.aa.length).length) c) (bD.mk B ((eZ l r (i+1)).length) C) (bD.mk sa ((fG l r i).length) sc)))) (C':=[_,_,_,_,_,_,_,_,_,_,_,_,_,(cp h 253 (iL.cells (iL.mk (bD.mk a ((cm l l.aa.length).length) c) (bD.mk B ((eZ l r (i+1)).length) C) (bD.mk sa ((fG l r i).length) sc))))]) 13 U U U Sq U U U U U U U<|RK AA<|aw<|rP 3 [] (mc 13 U I) ?_
 refine d_ (xs:=[.tmp 50]) (cs:=[(vB (decide ((cG l s).Lo≤(cG l s).Hi)))]) U Ox WN U U U U (by simp [Value.cells]) U U fun Ad=>?_
 refine dD (es2:=(List.map qO (fG l r (i+1)))) (m':=(fG l r (i+1)).length) 12 U U U SV U U sm (bo (es:=List.map qO [(decide ((cG l s).Lo≤(cG l s).Hi))]) 0 U U (by simp [AR]) U) (Gk _) (by rw [vh om]; omega) (by rw [vh om]; simp only [maxLen]; omega) (by rw [Ev hs]; simp) sm U fun D E=>?_
 try dsimp only
 refine bE 1 U<|il (vs:=[(vS D ((fG l r (i+1)).length) E)]) (cs':=(iL.cells (iL.mk (bD.mk a ((cm l l.aa.length).length) c) (bD.mk B ((eZ l r (i+1)).length) C) (bD.mk D ((fG l r (i+1)).length) E)))) (C':=[_,_,_,_,_,_,_,_,_,_,_,_,_,_,(cp h 253 (iL.cells (iL.mk (bD.mk a ((cm l l.aa.length).length) c) (bD.mk B ((eZ l r (i+1)).length) C) (bD.mk D ((fG l r (i+1)).length) E))))]) 14 U U U Ub U U U U U U U<|aH<|aR<|KK S<|aw<|bE 2 U<|rP 1 [] I ?_
 refine aH ?_
 have f:(vI (((i+1):Nat):Int))=(vI ((i:Int)+1)):=by exact cI om
 refine bq (J ⟨((i+1),B,C,D,E),(by first|omega|(simp only []; omega))⟩ _ _ _ U os (cY 4<|bw U f<|dG.nil _) (aQ [3,4,5,6,7,8,9,10,11,12,13,14]))
theorem KG (r:bT) (sgA:OA) (sgC:Nat) (l:bp) (wA:OA) (wC:Nat) (tA:OA) (tC:Nat) (bA:OA) (bC:Nat) (rs:List Int) (rsA:OA) (rsC:Nat) (hle:dg l=0) (hr:er l r) (hn:rs.length≤l.aa.length) (hrs: ∀ x∈rs,0≤x→x<(r.ab.length:Int)):
 pS Tryz.prog 174 [(vA (cb.cells (ji r sgA sgC))),(vA (iL.cells (iL.mk (bD.mk wA ((cm l l.aa.length).length) wC) (bD.mk tA ((eZ l r r.ab.length).length) tC) (bD.mk bA ((fG l r r.ab.length).length) bC)))),(vS rsA rs.length rsC)] [(rd sgA r.ab.length 2 (r.ab.map aA.cells)),(rd wA ((cm l l.aa.length).length) 1 ((cm l l.aa.length).map iC)),(rd tA ((eZ l r r.ab.length).length) 2 ((eZ l r r.ab.length).map ag.cells)),(rd bA ((fG l r r.ab.length).length) 1 ((fG l r r.ab.length).map qO)),(rd rsA rs.length 1 (rs.map iC))] (fun (x:(OA)×Nat)=>(vS x.1 ((jz l r rs).length) x.2)) (fun (x:(OA)×Nat)=>True) (fun (x:(OA)×Nat)=>[(own x.1 x.2 3 1 ((jz l r rs).map iC))]):=by
 obtain ⟨J,D⟩:=du hle
 have v:=D.head
 unfold eU at v
 have A2:=hr.len
 have A3:=hr.time
 have w:=Fy (l:=l) (rs:=rs) ⟨om,om⟩ (fun b hb=>by have:=mo J D (i:=b) om; omega) hrs
 have A0:=dh (l:=l) (n:=l.aa.length)
 have A4:=se (l:=l) (Nat.le_refl r.ab.length)
 refine fB kr Tryz.func174 U U fun w0 Q hQ hN=>?_
 try dsimp only
 refine WS fun _ h=>eO U fun b2=>eO U fun b3=>bE 1 U<|RK h<|WS fun _ m=>rP 2 [] I ?_
 refine wD (n:=rs.length) (es:=(List.map iC (List.replicate rs.length 0))) U U U rL om om (by simp only [maxLen]; omega) (by rw [List.map_replicate]; rfl) U fun E=>?_
 try dsimp only
 refine bE 1 U<|RK m<|WS fun _ p=>eV 3 [] (mc 2 U I) U<|RK p<|ao fun _ q=>WS fun _ t=>rP 4 [] I ?_
 refine RK t<|aI ?_
 rw [show (own (some ⟨E,0,none⟩) rs.length 3 1 (List.map iC (List.replicate rs.length 0)))=(own (some ⟨E,0,none⟩) rs.length 3 1 ((jU l r rs rs.length).map iC)) from by rw [Gj]]
 have B:(rs.length≤rs.length):=by exact Nat.le_refl _
 have u:(vI ((jV l r rs rs.length).2))=(vI r.gh):=by rw [vg]
 refine bZ (ι:={z:Nat // (z≤rs.length)}) [2,3,4,7] [1,2,3,4,5,6,7] U U (fun z=>[(8,(vI ((jV l r rs z.1).2))),(9,(vI ((z.1:Int)-1)))]) (fun z=>[(own (some ⟨E,0,none⟩) rs.length 3 1 ((jU l r rs z.1).map iC))]) (fun _=>rfl) (fun _=>rfl) (fun z=>z.1) ⟨rs.length,B⟩ (bw U u<|bu U) (aQ [1,2,3,4,5,6,7,0]) ?_
 clear B
 rintro ⟨j,AC⟩ J10 F
 try dsimp only
 have A1:=G6 (l:=l) (r:=r) (rs:=rs) (j:=j) om
 refine ao fun _ L=>WS fun _ M=>rP 2 [] I ?_
 refine RK M<|bW U (aV fun g=>?_) (aU fun g=>?_)
 ·refine bS<|ai<|ai<|aL<|KK q<|WS fun _ R=>rP 1 [] I ?_
  rw [show (Value.slice (some ⟨E,0,none⟩) rs.length rs.length)=(Value.slice (some ⟨E,0,none⟩) ((jz l r rs).length) rs.length) from by rw [show (jz l r rs).length=rs.length from sH _ _]]
  rw [show jU l r rs j=jz l r rs from by rw [show j=0 by omega]; exact DG]
  refine rP 1 [] I ?_
  refine RK R<|aq<|LX hQ ((some ⟨E,0,none⟩),rs.length) [7] [] I U U U U ?_
  trivial
 refine WK L<|ao fun _ G=>aI<|ao fun _ H=>WS fun _ N=>rP 2 [] I ?_
 have An:=w (rs.length-j) j om
 obtain ⟨x,hx⟩:=aJ rs (j-1) om
 have d:=bM iC hx
 refine rS (IA (j-1) U (aB 6 U) dk dc om om)<|rS (gE (j-1) 0 (vI x) U b_ (aB 6 U) d U dc U)<|rP 1 [] I ?_
 refine RK N<|bW U (aV fun A=>?_) (aU fun A=>?_)
 ·refine WK H<|WS fun _ P=>rP 3 [] I ?_
  obtain ⟨A7,c⟩:=aJ (jU l r rs j) (j-1) om
  have hx25m:=bM iC c
  refine rS (IA (j-1) U (av (n:=rs.length) 7 U sq) dk dc om om) ?_
  have V:((jU l r rs j).set (j-1) ((jV l r rs j).2))=(jU l r rs (j-1)):=by (rw [← zS om hx]; congr 1; unfold uY; (rw [if_neg A]; done))
  refine f_ (k:=(j-1)) (o:=0) (vs:=[(vI ((jV l r rs j).2))]) (es':=(List.map iC (jU l r rs (j-1)))) (C':=[_,_,_,_,_,_,_,(own (some ⟨E,0,none⟩) rs.length 3 1 (List.map iC (jU l r rs (j-1))))]) 7 U U U Ab U U U U hx25m U dc (by exact (List.map_set (f:=iC) (l:=(jU l r rs j)) (i:=(j-1)) (a:=(jV l r rs j).2)).symm.trans (congrArg _ V)) U<|RK P<|aw<|rP 4 [] (mc 0 U I) ?_
  obtain ⟨y,hy⟩:=aJ (cm l l.aa.length) (j-1) om
  have K:=bM iC hy
  refine rS (IA (j-1) U (aB 3 U) dk dc om om)<|rS (gE (j-1) 0 (vI y) U b_ (aB 3 U) K U dc U) ?_
  have C:=vK hy
  have AB:=mo J D (i:=j-1) om
  rw [← C] at AB
  refine bE 2 U<|aH<|aR<|KK G<|aw<|rP 3 [] I ?_
  refine aH ?_
  have W:(vI ((jV l r rs (j-1)).2))=(vI (((jV l r rs j).2)-y)):=by exact cI (by rw [qf om hx]; simp only; unfold uY; rw [C]; (rw [if_neg A]; done))
  have X:(vI ((((j-1):Nat):Int)-1))=(vI (((j:Int)-1)-1)):=by exact cI om
  refine bq (F ⟨(j-1),(by first|omega|(simp only []; omega))⟩ _ _ _ U os (cY 4<|bw U W<|bw U X<|dG.nil _) (aQ [0,1,2,3,4,5,6,7]))
 refine dj cj 12 kr<|dP 5 [] (mc 0 U I) ?_
 refine dS (IA (j-1) U (aB 6 U) dk dc om om)<|dS (gE (j-1) 0 (vI x) U b_ (aB 6 U) d U dc U) ?_
 have A5:=hrs x (aP hx) A
 obtain ⟨z,hz⟩:=aJ (eZ l r r.ab.length) ((x).toNat) om
 have Ad:=bM ag.cells hz
 refine dS (IA ((x).toNat) U (aB 4 U) lu dc om om)<|dS (o6 ((((x).toNat)*2)+1) U (aB 4 U) (Nat.mul_pos om dc) eD U) ?_
 obtain ⟨s,hs,e⟩:=Ir hz
 have AO:=yo l s
 rw [← e] at AO
 have Y:Mc l r x=z.Hi:=by rw [D4 hs,e]
 refine dS (gE ((x).toNat) 1 (vI z.Hi) U b_ (aB 4 U) Ad U dc U)<|dS (MN U)<|kE 1 U<|cD<|RK H<|WS fun _ O=>rP 3 [] I ?_
 obtain ⟨A6,Z⟩:=aJ (jU l r rs j) (j-1) om
 have hx19m:=bM iC Z
 refine rS (IA (j-1) U (av (n:=rs.length) 7 U sq) dk dc om om) ?_
 have S:((jU l r rs j).set (j-1) (min ((jV l r rs j).2) z.Hi))=(jU l r rs (j-1)):=by (rw [← zS om hx]; congr 1; unfold uY; (rw [if_pos A,Y]; done))
 refine f_ (k:=(j-1)) (o:=0) (vs:=[(vI (min ((jV l r rs j).2) z.Hi))]) (es':=(List.map iC (jU l r rs (j-1)))) (C':=[_,_,_,_,_,_,_,(own (some ⟨E,0,none⟩) rs.length 3 1 (List.map iC (jU l r rs (j-1))))]) 7 U U U Ab U U U U hx19m U dc (by exact (List.map_set (f:=iC) (l:=(jU l r rs j)) (i:=(j-1)) (a:=(min ((jV l r rs j).2) z.Hi))).symm.trans (congrArg _ S)) U<|RK O<|aw<|rP 4 [] (mc 0 U I) ?_
 obtain ⟨y,hy⟩:=aJ (cm l l.aa.length) (j-1) om
 have K:=bM iC hy
 refine rS (IA (j-1) U (aB 3 U) dk dc om om)<|rS (gE (j-1) 0 (vI y) U b_ (aB 3 U) K U dc U) ?_
 have C:=vK hy
 have AB:=mo J D (i:=j-1) om
 rw [← C] at AB
 refine bE 2 U<|aH<|aR<|KK G<|aw<|rP 3 [] I ?_
 refine aH ?_
 have T:(vI ((jV l r rs (j-1)).2))=(vI ((min ((jV l r rs j).2) z.Hi)-y)):=by exact cI (by rw [qf om hx]; simp only; unfold uY; rw [C]; (rw [if_pos A,Y]; done))
 have AA:(vI ((((j-1):Nat):Int)-1))=(vI (((j:Int)-1)-1)):=by exact cI om
 refine bq (F ⟨(j-1),(by first|omega|(simp only []; omega))⟩ _ _ _ U os (cY 4<|bw U T<|bw U AA<|dG.nil _) (aQ [0,1,2,3,4,5,6,7]))
end
section
open Go.RowKit
theorem He (l:bp) (kA:OA) (kC:Nat) (az:List RA) (cA:OA) (cC:Nat) (bA:OA) (bC:Nat) (r:bT) (sgA:OA) (sgC:Nat) (vwA:OA) (vwC:Nat) (vtA:OA) (vtC:Nat) (vbA:OA) (vbC k:Nat) (rs:List Int) (rA:OA) (rC:Nat) (fs:List Int) (fA:OA) (fC:Nat) (hin:dY l az) (hle:dg l=0) (hr:er l r) (hk:rs.length+k=l.aa.length) (hfl:fs.length=rs.length) (hst:r.Start≤gF r.Start fs∧gF r.Start fs≤r.gh) (hrs: ∀ x∈rs,-1≤x∧x<(r.ab.length:Int)) (hrec: ∀ (k2:Nat) (rs2:List Int) (rA2:OA) (rC2:Nat) (fs2:List Int) (fA2:OA) (fC2:Nat),(k2<k)→(rs2.length+k2=l.aa.length)→(fs2.length=rs2.length)→(r.Start≤gF r.Start fs2∧gF r.Start fs2≤r.gh)→(∀ x∈rs2,-1≤x∧x<(r.ab.length:Int))→Ma Tryz.prog 161 [(vA (cr.cells (jC l kA kC cA cC bA bC))),(vA (cb.cells (ji r sgA sgC))),(vA (iL.cells (iL.mk (bD.mk vwA ((cm l l.aa.length).length) vwC) (bD.mk vtA ((eZ l r r.ab.length).length) vtC) (bD.mk vbA ((fG l r r.ab.length).length) vbC)))),(vS rA2 rs2.length rC2),(vS fA2 fs2.length fC2)] [(rd kA l.aS.length 9 (l.aS.map ar.cells)),(rd cA l.aj.length 2 (List.zipWith au.cells l.aj az)),(dT (br au.gd l.aj az)),(rd bA l.aa.length 4 (l.aa.map bJ.cells)),(rd sgA r.ab.length 2 (r.ab.map aA.cells)),(rd vwA ((cm l l.aa.length).length) 1 ((cm l l.aa.length).map iC)),(rd vtA ((eZ l r r.ab.length).length) 2 ((eZ l r r.ab.length).map ag.cells)),(rd vbA ((fG l r r.ab.length).length) 1 ((fG l r r.ab.length).map qO))] (bV [own rA2 rC2 3 1 (rs2.map iC),own fA2 fC2 3 1 (fs2.map iC)]) (fun (x:(OA)×Nat×(List kN))=>(vS x.1 ((iv l r k2 rs2 fs2).length) x.2.1)) (fun (x:(OA)×Nat×(List kN))=>x.2.2.length=(iv l r k2 rs2 fs2).length) (fun (x:(OA)×Nat×(List kN))=>(bV (br dE.owns (iv l r k2 rs2 fs2) x.2.2++[own x.1 x.2.1 256 3 (List.zipWith dE.cells (iv l r k2 rs2 fs2) x.2.2)])))):
 Ma Tryz.prog 161 [(vA (cr.cells (jC l kA kC cA cC bA bC))),(vA (cb.cells (ji r sgA sgC))),(vA (iL.cells (iL.mk (bD.mk vwA ((cm l l.aa.length).length) vwC) (bD.mk vtA ((eZ l r r.ab.length).length) vtC) (bD.mk vbA ((fG l r r.ab.length).length) vbC)))),(vS rA rs.length rC),(vS fA fs.length fC)] [(rd kA l.aS.length 9 (l.aS.map ar.cells)),(rd cA l.aj.length 2 (List.zipWith au.cells l.aj az)),(dT (br au.gd l.aj az)),(rd bA l.aa.length 4 (l.aa.map bJ.cells)),(rd sgA r.ab.length 2 (r.ab.map aA.cells)),(rd vwA ((cm l l.aa.length).length) 1 ((cm l l.aa.length).map iC)),(rd vtA ((eZ l r r.ab.length).length) 2 ((eZ l r r.ab.length).map ag.cells)),(rd vbA ((fG l r r.ab.length).length) 1 ((fG l r r.ab.length).map qO))] (bV [own rA rC 3 1 (rs.map iC),own fA fC 3 1 (fs.map iC)]) (fun (x:(OA)×Nat×(List kN))=>(vS x.1 ((iv l r k rs fs).length) x.2.1)) (fun (x:(OA)×Nat×(List kN))=>x.2.2.length=(iv l r k rs fs).length) (fun (x:(OA)×Nat×(List kN))=>(bV (br dE.owns (iv l r k rs fs) x.2.2++[own x.1 x.2.1 256 3 (List.zipWith dE.cells (iv l r k rs fs) x.2.2)]))):=by
 have R5:=hin.qS
 have Pw:=hin.qW
 have Pr:=hin.nx
 have Pv:=hin.qU
 obtain ⟨L3,GE⟩:=du hle
 have La:=GE.head
 unfold eU at La
 have An:=hr.len
 have R2:=hr.time
 have R1:=dh (l:=l) (n:=l.aa.length)
 have R6:=se (l:=l) (Nat.le_refl r.ab.length)
 have R4:=vh (l:=l) (Nat.le_refl r.ab.length)
 have R7:=uy rs
 refine vM kr Tryz.func161 U U fun w0 Q hQ hN=>?_
 try dsimp only
 refine BB 0 U U fun wz Sz hz=>?_
 try dsimp only
 refine WS fun _ KP=>eO U fun b2=>eO U fun b3=>eO U fun b4=>bE 1 U<|RK KP<|WS fun _ K0=>bE 1 U<|RK K0<|WS fun _ K4=>bE 4 U<|RK K4<|ao fun _ K5=>WS fun _ K8=>rP 1 [] I ?_
 refine RK K8<|aI ?_
 have C:(0≤rs.length):=by exact Nat.zero_le _
 have LE:(vI ((db (rs.take 0)).right))=(vI 0):=by rfl
 refine bZ (ι:={z:Nat // (z≤rs.length)}) [3,4,5,6,7,11,12] [0,1,2,3,4,5,6,7,8,9,10,11] U U (fun z=>[(13,(vI ((db (rs.take z.1)).right))),(14,(vI (z.1:Int)))]) (fun z=>[]) (fun _=>rfl) (fun _=>rfl) (fun z=>rs.length-z.1) ⟨0,C⟩ (bw U LE<|bu U) (aQ [0,1,2,3,4,5,6,7,8,9,10,11]) ?_
 clear C
 rintro ⟨i,Li⟩ J10 g
 try dsimp only
 have L0:=uy (rs.take i)
 rw [List.length_take] at L0
 refine ao fun _ A2=>WS fun _ A3=>rP 3 [] I ?_
 refine RK A3<|cy U (aU fun J4=>?_) (aV fun J4=>?_)
 ·refine WK A2<|ao fun _ h=>aI<|WS fun _ A4=>rP 2 [] I ?_
  obtain ⟨x,hx⟩:=aJ rs i om
  have M2:=bM iC hx
  refine rS (IA i U (show iJ _ (rd rA rs.length 1 (rs.map iC)).holds from (qe (c:=rC) (e:=3) 3 U sm sm)) dk dc om om)<|rS (gE i 0 (vI x) U b_ (show iJ _ (rd rA rs.length 1 (rs.map iC)).holds from (qe (c:=rC) (e:=3) 3 U sm sm)) M2 U dc U)<|rP 1 [] I ?_
  refine RK A4<|bW U (aV fun AO=>?_) (aU fun AO=>?_)
  ·refine cu<|aR<|KK h<|aw<|rP 3 [] I ?_
   refine aH ?_
   have C3:(vI ((db (rs.take (i+1))).right))=(vI ((db (rs.take i)).right)):=by exact cI (by rw [uQ hx]; (rw [if_neg AO]; exact Int.add_zero _))
   have Di:(vI (((i+1):Nat):Int))=(vI ((i:Int)+1)):=by exact cI om
   refine bq (g ⟨(i+1),(by first|omega|(simp only []; omega))⟩ _ _ _ U os (cY 7<|bw U C3<|bw U Di<|dG.nil _) (aQ [0,1,2,3,4,5,6,7,8,9,10,11]))
  refine aw<|bE 3 U<|aH<|aR<|KK h<|aw<|rP 3 [] I ?_
  refine aH ?_
  have C0:(vI ((db (rs.take (i+1))).right))=(vI (((db (rs.take i)).right)+1)):=by exact cI (by rw [uQ hx]; (rw [if_pos AO]; done))
  have C2:(vI (((i+1):Nat):Int))=(vI ((i:Int)+1)):=by exact cI om
  refine bq (g ⟨(i+1),(by first|omega|(simp only []; omega))⟩ _ _ _ U os (cY 7<|bw U C0<|bw U C2<|dG.nil _) (aQ [0,1,2,3,4,5,6,7,8,9,10,11]))
 refine bS<|ai<|ai<|aL<|KK K5<|ao fun _ A5=>ao fun _ A6=>?_
 rw [show rs.take i=rs from List.take_of_length_le om]
 refine aw<|rP 6 [] (mc 2 U I) ?_
 refine RK A6<|cy U (aU fun J6=>?_) (aV fun J6=>?_)
 ·refine WS fun _ A7=>lh 256 3<|rP 1 [] I ?_
  refine RK A7<|aq<|Ag (C1:=[(own none 0 256 3 [])]) hz [0] U U U<|P0 (W:=iv l r k rs fs) ?_
  rw [show (own none 0 256 3 [])=(own none 0 256 3 (List.zipWith dE.cells (iv l r k rs fs) [])) from by rw [nZ om]; rfl]
  refine LM hQ (none,0,[]) 0 [] I U (by show List.all _ _=true; rw [List.all_append,qv]; rfl) U ?_ ?_
  ·exact (by rw [nZ om]; rfl)
  ·rw [nZ om]; rfl
 refine WK A5 ?_
 refine kW (ι:={z:(OA)×Nat×(List kN)×(List ay) // (yr l r rs fs (rA,rC) (fA,fC) z.2.2.1 z.2.2.2)}) [3,4,5,6,7,12] [0,1,2,3,4,5,6,7,8,9,10,11] U U (fun z=>[(11,(vS z.1.1 ((g9 l r rs fs).length) z.1.2.1))]) (fun z=>[(own z.1.1 z.1.2.1 256 3 (List.zipWith dE.cells (g9 l r rs fs) z.1.2.2.1)),(bV z.1.2.2.2)]) (fun _=>rfl) (fun _=>rfl) ?_ fun K23 m=>?_
 ·rintro ⟨⟨oA,oC,E,LA⟩,H⟩
  try dsimp only at H
  try dsimp only
  have D:=H
  have Lh:=D.len
  have Qr:=w8 (l:=l) (r:=r) (rs:=rs) (fs:=fs)
  refine ao fun _ V=>WS fun _ A8=>rP 4 [] (mc 2 U I) ?_
  have R8:=vQ (l:=l) (r:=r) (rs:=rs) (fs:=fs) An (k:=k) om
  refine rP 1 [] I ?_
  refine RK A8<|cy U (aU fun J7=>?_) (aV fun J7=>?_)
  ·refine WS fun _ A9=>bE 1 U<|rP 1 [] I ?_
   refine RK A9<|aq ?_
   obtain rfl:k=0:=by omega
   refine ES ?_
   try dsimp only
   refine Ag (C1:=[(own oA oC 256 3 (List.zipWith dE.cells (g9 l r rs fs) E)),(bV LA),(bV (br dE.owns [] []))]) hz [13,14,0] U U (by simp only [g5,List.all_nil,Bool.and_true,cE]; exact ⟨U,D.wr,qv _ _⟩) ?_
   refine Ly (ra:=(rA,rC)) (fa:=(fA,fC)) (A':=(own oA oC 256 3 (List.zipWith dE.cells (iv l r 0 rs fs) E))) D ((List.append_nil _).trans (oe om).symm) (List.append_nil _) (by rw [oe om]) ?_
   refine LM hQ (oA,oC,E) 0 [] I U (by show List.all _ _=true; rw [List.all_append,qv]; rfl) U ?_ ?_
   ·exact (by (rw [oe om]; rfl))
   ·rw [oe om]; exact Lh
  refine WK V<|WS fun _ Bd=>?_
  obtain ⟨B,rfl⟩: ∃ B,k=B+1:=⟨k-1,om⟩
  refine rP 3 [] (mc 1 U I) ?_
  refine RK Bd ?_
  refine kW (ι:=Unit) [3,4,5,6,7,11,12] [0,1,2,3,4,5,6,7,8,9,10,11,12,13] U U (fun z=>[(15,(vI (gF r.Start fs)))]) (fun z=>[]) (fun _=>rfl) (fun _=>rfl) ?_ fun K28 o=>?_
  ·intro _
   try dsimp only
   refine WS fun _ Z=>rP 4 [] (mc 0 U I) ?_
   obtain ⟨yls,Go⟩:=aJ (cm l l.aa.length) (rs.length) om
   have Hm:=bM iC Go
   refine rS (IA rs.length U (aB 9 U) dk dc om om)<|rS (gE rs.length 0 (vI yls) U b_ (aB 9 U) Hm U dc U) ?_
   have R0:=mo L3 GE (i:=rs.length) om
   rw [vK Go]
   refine bE 2 U<|RK Z<|ao fun _ Bo=>WS fun _ B3=>rP 1 [] I ?_
   refine RK B3<|aI ?_
   rw [show (g9 l r rs fs)=((g9 l r rs fs)++(iB l r B rs fs 0)) from (List.append_nil _).symm]
   rw [show E=E++[] from (List.append_nil _).symm]
   refine n9 ?_
   try dsimp only
   have C:(0≤r.ab.length+1)∧(([]:List kN).length=(iB l r B rs fs 0).length):=by exact ⟨Nat.zero_le _,rfl⟩
   have d:(vI ((0:Int)-1))=(vI (-1)):=by exact cI om
   refine bZ (ι:={z:Nat×(OA)×Nat×(List kN) // (z.1≤r.ab.length+1)∧(z.2.2.2.length=(iB l r B rs fs z.1).length)}) [3,4,5,6,7,12,15] [1,2,3,4,5,6,7,8,9,10,11,12,14] U U (fun z=>[(11,(vS z.1.2.1 (((g9 l r rs fs)++(iB l r B rs fs z.1.1)).length) z.1.2.2.1)),(16,(vI ((z.1.1:Int)-1)))]) (fun z=>[(bV (br dE.owns (iB l r B rs fs z.1.1) z.1.2.2.2)),(own z.1.2.1 z.1.2.2.1 256 3 (List.zipWith dE.cells ((g9 l r rs fs)++(iB l r B rs fs z.1.1)) (E++z.1.2.2.2)))]) (fun _=>rfl) (fun _=>rfl) (fun z=>r.ab.length+1-z.1.1) ⟨(0,oA,oC,([]:List kN)),C⟩ (dG.cons U<|bw U d<|dG.nil _) (aQ [1,2,3,4,5,6,7,8,9,10,11,12,14,0,13]) ?_
   clear C
   rintro ⟨⟨j,M,N,azW⟩,⟨f,A⟩⟩ J33 O
   try dsimp only at f A
   try dsimp only
   have L2:=K2 (l:=l) (r:=r) (k:=B) (j:=j) (rs:=rs) (fs:=fs) An om om
   refine ao fun _ B9=>WS fun _ Ci=>rP 5 [] (mc 1 U I) ?_
   refine RK Ci<|bW U (aV fun J5=>?_) (aU fun J5=>?_)
   ·refine bS<|ai<|ai<|aL<|KK Bo<|WS fun _ Cx=>bE 1 U<|rP 1 [] I ?_
    refine RK Cx<|aq ?_
    refine Ag (C1:=[(own M N 256 3 (List.zipWith dE.cells ((g9 l r rs fs)++(iB l r B rs fs j)) (E++azW))),(bV LA),(bV (br dE.owns (iB l r B rs fs j) azW))]) hz [14,12,13] U U (by simp only [g5,List.all_nil,Bool.and_true,cE]; exact ⟨U,D.wr,qv _ _⟩) ?_
    refine Ly (ra:=(rA,rC)) (fa:=(fA,fC)) (W:=iv l r (B+1) rs fs) (A':=(own M N 256 3 (List.zipWith dE.cells (iv l r (B+1) rs fs) (E++azW)))) D (by rw [ov om,r_,show r.ab.length+1=j by omega]) U (by rw [ov om,r_,show r.ab.length+1=j by omega]) ?_
    refine LM hQ (M,N,(E++azW)) 0 [] I U (by show List.all _ _=true; rw [List.all_append,qv]; rfl) U ?_ ?_
    ·exact (by (rw [ov om,r_,show r.ab.length+1=j by omega]; rfl))
    ·rw [ov om,r_,show r.ab.length+1=j by omega]; simp only [List.length_append]; omega
   refine WK B9<|ao fun _ P=>aI<|ao fun _ Ck=>dj cj 5 kr<|dP 5 [] (mc 1 U I) ?_
   refine cD<|RK Ck ?_
   refine kW (ι:={z:Int×Int // ((z.1≤z.2→po l r rs.length (gF r.Start fs+cZ l rs.length) ((j:Int)-1)=some z.1)∧(¬ z.1≤z.2→po l r rs.length (gF r.Start fs+cZ l rs.length) ((j:Int)-1)=none))∧(r.Start≤z.1∧z.2≤r.gh)}) [3,4,5,6,7,11,12,15,16] [0,1,2,3,4,5,6,7,8,9,10,11,12,13,14] U U (fun z=>[(17,(vI z.1.1)),(18,(vI z.1.2))]) (fun z=>[]) (fun _=>rfl) (fun _=>rfl) ?_ fun K39 p=>?_
   ·rintro ⟨⟨tt,ee⟩,⟨AB,J⟩⟩
    try dsimp only at AB J
    try dsimp only
    have Fn:=AB
    have Re:=J
    refine WS fun _ a=>rP 3 [] I ?_
    refine RK a<|bW U (aV fun AA=>?_) (aU fun AA=>?_)
    ·refine cu<|aR<|KK P<|aw<|rP 3 [] I ?_
     refine aH ?_
     have L:(iB l r B rs fs (j+1))=(iB l r B rs fs j):=by exact qZ (Fn.2 AA)
     rw [← L]
     have FS:(vI ((((j+1):Nat):Int)-1))=(vI (((j:Int)-1)+1)):=by exact cI om
     refine bq (O ⟨((j+1),M,N,azW),⟨om,by dsimp only; (rw [L]; exact A)⟩⟩ _ _ _ U os (cY 8<|bw U FS<|dG.nil _) (aQ [0,1,2,3,4,5,6,7,8,9,10,11,12,13,14]))
    refine LL (L':=[(3,(vS rA rs.length rC)),(4,(vS fA fs.length fC)),(5,(vP b2)),(6,(vP b3)),(7,(vP b4)),(11,(vS M (((g9 l r rs fs)++(iB l r B rs fs j)).length) N)),(12,(vI (rs.length:Int))),(15,(vI ((gF r.Start fs)+(cZ l rs.length)))),(16,(vI ((j:Int)-1))),(17,(vI tt)),(18,(vI ee)),(123,(vI tt)),(124,(vI ee)),(125,(vB (decide (tt≤ee))))]) rfl<|lT cj [0,1,2,3,5,7,11,13] [4,6,8,9,10,12,14,15,16,17,18] [false,false,false,false,false,false,false,false] [] [(cp b4 253 (iL.cells (iL.mk (bD.mk vwA ((cm l l.aa.length).length) vwC) (bD.mk vtA ((eZ l r r.ab.length).length) vtC) (bD.mk vbA ((fG l r r.ab.length).length) vbC)))),(cp b3 43 (cb.cells (ji r sgA sgC))),(cp b2 28 (cr.cells (jC l kA kC cA cC bA bC))),(bV [own rA rC 3 1 (rs.map iC),own fA fC 3 1 (fs.map iC)]).ro,(rd kA l.aS.length 9 (l.aS.map ar.cells)).ro,(rd cA l.aj.length 2 (List.zipWith au.cells l.aj az)).ro,(dT (br au.gd l.aj az)).ro,(rd bA l.aa.length 4 (l.aa.map bJ.cells)).ro,(rd sgA r.ab.length 2 (r.ab.map aA.cells)).ro,(rd vwA ((cm l l.aa.length).length) 1 ((cm l l.aa.length).map iC)).ro,(rd vtA ((eZ l r r.ab.length).length) 2 ((eZ l r r.ab.length).map ag.cells)).ro,(rd vbA ((fG l r r.ab.length).length) 1 ((fG l r r.ab.length).map qO)).ro,(bV LA),(bV (br dE.owns (iB l r B rs fs j) azW))] [] kr (aQ [0,1,2,3,4,5,6,7,8,9,10,11,12,13]) (aQ [])<|eS rfl (MV rfl)<|eS rfl (LW 2 rfl b_ rfl rfl)<|eS rfl (LW 1 rfl b_ rfl rfl)<|eS rfl (LW 0 rfl b_ rfl rfl)<|eS rfl (MV rfl)<|eS rfl (MV rfl)<|eS rfl (MV rfl)<|eS rfl (MV rfl)<|eh rfl<|FY [.take 4,.op 6,.take 8,.op 9,.take 10,.op 12,.take 14,.op 15,.op 16,.op 17,.op 18] [(133,(vI ((j:Int)-1))),(139,(vI tt))] (fun i=>match i with |4=>130|8=>134|10=>136|14=>140|_=>0) (fun i b=>match i with |4=> .slice (some ⟨b,0,none⟩) 0 0|8=> .slice (some ⟨b,0,none⟩) 1 1|10=> .slice (some ⟨b,0,none⟩) 0 0|14=> .slice (some ⟨b,0,none⟩) 1 1|_=>undef) (fun i b=>match i with |4=>cp b 3 []|8=>cp b 3 [(vI ((j:Int)-1))]|10=>cp b 3 []|14=>cp b 3 [(vI tt)]|_=>cp b 0 []) rfl rfl rfl kr rfl rfl (aQ [0,1,2,3,4,5,6,7,8,9,10,11,12,13]) (iH (JH rfl dk rfl rfl (fun _=>rfl) fun _=>rfl)<|mM<|iH (wh (xs:=[.tmp 133]) (cs:=[(vI ((j:Int)-1))]) rfl dk jO rfl rfl rfl rfl (by simp [Value.cells]) rfl rfl rfl (fun _=>rfl) fun _=>rfl)<|mM<|iH (JH rfl dk rfl rfl (fun _=>rfl) fun _=>rfl)<|mM<|iH (wh (xs:=[.tmp 139]) (cs:=[(vI tt)]) rfl dk jO rfl rfl rfl rfl (by simp [Value.cells]) rfl rfl rfl (fun _=>rfl) fun _=>rfl)<|mM<|mM<|mM<|mM<|Aq) ?_
    intro Ik
    try dsimp only
    refine rI U fun Y X K hT=>fH (es:=(List.map iC [])) (C':=[own (some ⟨Ik,0,none⟩) 0 3 1 (List.map iC []),_,_,_,_,_,_,_,_,_,_,_,_,_,_,_]++X) 0 U sm U (by simp [maxLen]) U ?_
    refine dD (es2:=(List.map iC rs)) (m':=rs.length) 0 U U U rL U U sm (show iJ _ (rd rA rs.length 1 (rs.map iC)).holds from (qe (c:=rC) (e:=3) 4 U sm sm)) (kD _) (by first|omega|(simp; done)|(simp; omega)) (by (simp only [maxLen]; omega)) sm sm U fun PN Pm=>?_
    try dsimp only
    refine oa hT 24 16 U U (fun w hs=>St.j0 [1,2,3,4,5,6,7,8,9,10,11,12,13,14] U U hs) U U ?_
    try dsimp only [List.take]
    intro Pj
    try dsimp only
    refine rI U fun Y X K hT=>?_
    refine dD (es2:=(List.map iC (rs++[(j:Int)-1]))) (m':=(rs++[(j:Int)-1]).length) 1 U U U rL U U sm (bo (es:=List.map iC [((j:Int)-1)]) 0 U U (by simp [bL]) U) (kD _) (by first|omega|(simp; done)|(simp; omega)) (by (simp only [maxLen]; omega)) sm sm U fun IR Jh=>?_
    try dsimp only
    refine oa hT 26 17 U U (fun w hs=>St.j0 [2,3,4,5,6,7,8,9,10,11,12,13,14,15] U U hs) U U ?_
    try dsimp only [List.take]
    intro In
    try dsimp only
    refine rI U fun Y X K hT=>fH (es:=(List.map iC [])) (C':=[own (some ⟨In,0,none⟩) 0 3 1 (List.map iC []),_,_,_,_,_,_,_,_,_,_,_,_,_,_,_,_,_]++X) 0 U sm U (by simp [maxLen]) U ?_
    refine dD (es2:=(List.map iC fs)) (m':=fs.length) 0 U U U rL U U sm (show iJ _ (rd fA fs.length 1 (fs.map iC)).holds from (qe (c:=fC) (e:=3) 6 U sm sm)) (kD _) (by first|omega|(simp; done)|(simp; omega)) (by (simp only [maxLen]; omega)) sm sm U fun PP Pq=>?_
    try dsimp only
    refine oa hT 28 18 U U (fun w hs=>St.j0 [3,4,5,6,7,8,9,10,11,12,13,14,15,16] U U hs) U U ?_
    try dsimp only [List.take]
    intro Pl
    try dsimp only
    refine rI U fun Y X K hT=>?_
    refine dD (es2:=(List.map iC (fs++[tt]))) (m':=(fs++[tt]).length) 1 U U U rL U U sm (bo (es:=List.map iC [tt]) 0 U U (by simp [bL]) U) (kD _) (by first|omega|(simp; done)|(simp; omega)) (by (simp only [maxLen]; omega)) sm sm U fun Id J2=>?_
    try dsimp only
    refine oa hT 30 19 U U (fun w hs=>St.j0 [4,5,6,7,8,9,10,11,12,13,14,15,16,17] U U hs) U U ?_
    try dsimp only [List.take]
    refine rI U fun Y X K hT=>?_
    have R:=Fn.1 AA
    refine ye<|sB 4 U ?_
    try dsimp only [List.eraseIdx]
    refine AS U<|sB 2 U ?_
    try dsimp only [List.eraseIdx]
    refine AS U ?_
    try dsimp only
    refine oO 0 rfl rfl rfl rfl (hrec B (rs++[(j:Int)-1]) IR Jh (fs++[tt]) Id J2 om (by simp only [List.length_append,List.length_singleton]; omega) (by simp only [List.length_append,List.length_singleton]; omega) (by rw [nM]; omega) (by intro x hx; rcases gu.1 hx with hx|hx; exact hrs x hx; rw [cv.1 hx]; omega)) rfl (eB 7 rfl rfl (dQ (bY _)) (eB 8 rfl rfl (dQ (bY _)) (eB 9 rfl rfl (dQ (bY _)) (eB 10 rfl rfl (dQ (bY _)) (eB 11 rfl rfl (dQ (bY _)) (eB 12 rfl rfl (dQ (bY _)) (eB 13 rfl rfl (dQ (bY _)) (eB 14 rfl rfl (dQ (bY _)) rK)))))))) rfl (fun NP A0=>?_)
    obtain ⟨Os,Oy,v⟩:=NP
    try dsimp only
    dsimp only at A0
    refine oa hT 31 18 U U (fun w hs=>St.j0 [3,4,5,6,7,8,9,10,11,12,13,14,15,16] U U hs) U U ?_
    try dsimp only [List.take]
    refine rI U fun Y X K hT=>sB 0 U ?_
    try dsimp only [List.eraseIdx]
    refine zc ?_
    have R9:=vQ (l:=l) (r:=r) (k:=B) (rs:=(rs++[(j:Int)-1])) (fs:=(fs++[tt])) An om
    refine dD (es2:=(List.zipWith dE.cells ((g9 l r rs fs)++(iB l r B rs fs (j+1))) (E++(azW++v)))) (m':=((g9 l r rs fs)++(iB l r B rs fs (j+1))).length) 18 U U U Pb U U (uK (by simp only [List.length_append]; omega)).symm (av (n:=(iv l r B (rs++[(j:Int)-1]) (fs++[tt])).length) 0 U (uK A0)) (B1 _ _) (by simp only [List.length_append]; omega) (by simp only [List.length_append,maxLen]; omega) (by rw [nP R,← List.append_assoc,← List.append_assoc]; exact (JP (by simp only [List.length_append]; omega)).symm) (uK (by rw [nP R]; simp only [List.length_append]; omega)) U fun If J3=>?_
    try dsimp only
    refine oa hT 32 19 U U (fun w hs=>St.j0 [4,5,6,7,8,9,10,11,12,13,14,15,16,17] U U hs) U U ?_
    try dsimp only [List.take]
    refine rI U fun Y X K hT=>rS (AG U)<|oa hT 33 19 U U (fun w hs=>St.j0 [4,5,6,7,8,9,10,11,12,13,14,15,16,17] U U hs) U U ?_
    try dsimp only [List.take]
    refine aR<|KK P<|aw<|rP 3 [] I ?_
    refine aH<|F9 1 U ?_
    try dsimp only [List.eraseIdx]
    refine F9 17 U ?_
    try dsimp only [List.eraseIdx]
    refine I6 A ?_
    rw [← nP R]
    try dsimp only
    have FE:(vI ((((j+1):Nat):Int)-1))=(vI (((j:Int)-1)+1)):=by exact cI om
    refine bq (O ⟨((j+1),If,J3,(azW++v)),⟨om,by dsimp only; (rw [nP R,List.length_append,List.length_append,A,A0])⟩⟩ _ _ _ U os (cY 8<|bw U FE<|dG.nil _) (aQ [4,5,6,7,8,9,10,11,12,13,14,15,16,0,17]))
   refine WS fun _ a=>rP 2 [] I ?_
   refine RK a<|bW U (aV fun J9=>?_) (aU fun J9=>?_)
   ·refine cu ?_
    refine bq (g_ (bu U) (aQ [0,1,2,3,4,5,6,7,8,9,10,11,12,13,14]) (p ⟨(((gF r.Start fs)+(cZ l rs.length)),r.gh),⟨by exact JL om,om⟩⟩))
   refine ao fun _ Cp=>WS fun _ u=>rP 3 [] (mc 1 U I) ?_
   obtain ⟨s,hs⟩:=aJ r.ab ((((j:Int)-1)).toNat) om
   have Lk:=bM aA.cells hs
   refine rS (IA ((((j:Int)-1)).toNat) U (aB 8 U) wL dc om om)<|rS (o6 (((((j:Int)-1)).toNat)*2) U (aB 8 U) (Nat.mul_pos om dc) eD U)<|rS (gE ((((j:Int)-1)).toNat) 0 (vI s.fE) U b_ (aB 8 U) Lk U dc U) ?_
   have R3:=(hr.sig _ s hs).1
   refine rP 3 [] I ?_
   refine bK (t:=99) U (aX fun A1=>?_) (aW fun A1=>?_)
   ·refine bE 7 U<|RK u<|aT U<|bS<|ai<|ai<|aL<|KK P<|aw<|rP 3 [] I ?_
    refine aH ?_
    have L:(iB l r B rs fs (j+1))=(iB l r B rs fs j):=by exact qZ (xT om hs (fun q=>A1 om))
    rw [← L]
    have Eq:(vI ((((j+1):Nat):Int)-1))=(vI (((j:Int)-1)+1)):=by exact cI om
    refine bq (O ⟨((j+1),M,N,azW),⟨om,by dsimp only; (rw [L]; exact A)⟩⟩ _ _ _ U os (cY 8<|bw U Eq<|dG.nil _) (aQ [0,1,2,3,4,5,6,7,8,9,10,11,12,13,14]))
   refine rP 3 [] (mc 0 U I) ?_
   obtain ⟨bs,Ad⟩:=aJ (fG l r r.ab.length) ((((j:Int)-1)).toNat) om
   have Fd:=bM qO Ad
   refine rS (IA ((((j:Int)-1)).toNat) U (aB 11 U) Ox dc om om)<|rS (gE ((((j:Int)-1)).toNat) 0 (vB bs) U b_ (aB 11 U) Fd U dc U)<|rP 2 [] I ?_
   refine RK u<|cy U (fun F=>?_) (fun F=>?_)
   ·rw [Bool.not_eq_true'] at F
    refine bS<|ai<|ai<|aL<|KK P<|aw<|rP 3 [] I ?_
    refine aH ?_
    have L:(iB l r B rs fs (j+1))=(iB l r B rs fs j):=by exact qZ (xT om hs (fun q=>by rw [(Ch hs Ad).2 q.2] at F; cases F))
    rw [← L]
    have FC:(vI ((((j+1):Nat):Int)-1))=(vI (((j:Int)-1)+1)):=by exact cI om
    refine bq (O ⟨((j+1),M,N,azW),⟨om,by dsimp only; (rw [L]; exact A)⟩⟩ _ _ _ U os (cY 8<|bw U FC<|dG.nil _) (aQ [0,1,2,3,4,5,6,7,8,9,10,11,12,13,14]))
   rw [Bool.not_eq_false'] at F
   refine WK Cp<|dj cj 18 kr<|dP 4 [] (mc 0 U I) ?_
   obtain ⟨z,hz⟩:=aJ (eZ l r r.ab.length) ((((j:Int)-1)).toNat) om
   have H1:=bM ag.cells hz
   refine dS (IA ((((j:Int)-1)).toNat) U (aB 10 U) lu dc om om)<|dS (o6 (((((j:Int)-1)).toNat)*2) U (aB 10 U) (Nat.mul_pos om dc) eD U) ?_
   have IO:=ID hs hz
   have M_:=yo l s
   rw [← IO] at M_
   have LT:(cG l s).Lo≤(cG l s).Hi:=(Ch hs Ad).1 F
   refine dS (gE ((((j:Int)-1)).toNat) 0 (vI z.Lo) U b_ (aB 10 U) H1 U dc U)<|dS (MX U)<|lz 4 [] (mc 0 U I) U<|dS (IA ((((j:Int)-1)).toNat) U (aB 10 U) lu dc om om)<|dS (o6 ((((((j:Int)-1)).toNat)*2)+1) U (aB 10 U) (Nat.mul_pos om dc) eD U)<|dS (gE ((((j:Int)-1)).toNat) 1 (vI z.Hi) U b_ (aB 10 U) H1 U dc U)<|dS (MN U)<|dP 2 [] I ?_
   refine cD<|aH ?_
   refine bq (g_ (bu U) (aQ [0,1,2,3,4,5,6,7,8,9,10,11,12,13,14]) (p ⟨((max ((gF r.Start fs)+(cZ l rs.length)) z.Lo),(min r.gh z.Hi)),⟨by (rw [IO]; exact JK om hs om LT),om⟩⟩))
  refine WS fun _ Z=>rP 2 [] I ?_
  refine RK Z<|bW U (aV fun J8=>?_) (aU fun J8=>?_)
  ·refine cu ?_
   have Du:(vI (gF r.Start fs))=(vI r.Start):=by exact cI (by have e:fs=[]:=ko om; rw [e]; rfl)
   refine bq (g_ (cY 7<|bw U Du<|dG.nil _) (aQ [0,1,2,3,4,5,6,7,8,9,10,11,12,13]) (o ()))
  refine aw<|rP 3 [] I ?_
  obtain ⟨xf,GR⟩:=aJ fs (rs.length-1) om
  have GT:=bM iC GR
  refine rS (IA (rs.length-1) U (show iJ _ (rd fA fs.length 1 (fs.map iC)).holds from (qe (c:=fC) (e:=3) 3 U sm sm)) dk dc om om)<|rS (gE (rs.length-1) 0 (vI xf) U b_ (show iJ _ (rd fA fs.length 1 (fs.map iC)).holds from (qe (c:=fC) (e:=3) 3 U sm sm)) GT U dc U)<|rP 1 [] I ?_
  refine aH ?_
  have Do:(vI (gF r.Start fs))=(vI xf):=by exact cI (BU _ _ _ (by rw [hfl]; exact GR))
  refine bq (g_ (cY 7<|bw U Do<|dG.nil _) (aQ [0,1,2,3,4,5,6,7,8,9,10,11,12,13]) (o ()))
 refine WS fun _ V=>rP 8 [0,1] (mc 1 U (mc 2 U I)) ?_
 refine RK V<|bW U (aV fun G=>?_) (aU fun G=>?_)
 ·refine cu<|ES<|G2 256 3 ?_
  rw [show (own none 0 256 3 [])=(own none 0 256 3 (List.zipWith dE.cells (g9 l r rs fs) [])) from by rw [yg G]; rfl]
  have EQ:(vS none ((g9 l r rs fs).length) 0)=(vS none 0 0):=by first|rfl|(rw [yg G]; rfl)
  refine bq (g_ (cY 6<|bw U EQ<|dG.nil _) (aQ [2,3,4,5,6,7,8,9,10,11,12,13,0,1]) (m ⟨(none,0,[],[]),(by exact .inr ⟨G,U,U⟩)⟩))
 refine aw<|rP 6 [0,1] (mc 1 U (mc 0 U I)) ?_
 refine cX (KG r sgA sgC l vwA vwC vtA vtC vbA vbC rs rA rC hle hr om (by exact fun x hx h0=>(hrs x hx).2)) (nV [8,9,10,11]<|aC (show iJ _ (rd rA rs.length 1 (rs.map iC)).holds from (qe (c:=rC) (e:=3) 3 U sm sm))<|aO) U fun NE Or=>?_
 obtain ⟨S,T⟩:=NE
 try dsimp only
 refine rS (SX (bf (xs:=[(0,.tmp 48),(1,.tmp 49),(2,.tmp 53)]) (cs:=(yq.cells (yq.mk (bD.mk rA rs.length rC) (bD.mk fA fs.length fC) (bD.mk S ((jz l r rs).length) T)))) U U (bg Rr U)) U U)<|d_ (xs:=[.tmp 54]) (cs:=(yq.cells (yq.mk (bD.mk rA rs.length rC) (bD.mk fA fs.length fC) (bD.mk S ((jz l r rs).length) T)))) U FZ Tv U U U U (by simp [Value.cells,yq.a_]) U U fun Pi=>lh 256 3 ?_
 refine dD (es2:=(List.zipWith dE.cells (g9 l r rs fs) ([((rA,rC),(fA,fC),(S,T))]))) (m':=(g9 l r rs fs).length) 0 rfl rfl rfl Pb rfl rfl rfl (bo (es:=List.zipWith dE.cells [(dE.mk rs fs (jz l r rs))] [((rA,rC),(fA,fC),(S,T))]) 1 rfl rfl (by intro e he; simp at he; subst he; rfl) rfl) (B1 _ _) dc dc (by rw [zV G]; rfl) (by rw [zV G]; rfl) rfl fun y AC=>?_
 try dsimp only
 refine ye<|OW 0 3 U U U ?_
 try dsimp only
 refine rP 1 [] I ?_
 refine aH ?_
 have d:(vS y ((g9 l r rs fs).length) AC)=(vS y ((g9 l r rs fs).length) AC):=by first|rfl|(rw [yg G]; rfl)
 refine bq (g_ (cY 6<|bw U d<|dG.nil _) (aQ [3,4,5,6,7,8,9,10,11,12,13,14,1,0]) (m ⟨(y,AC,[((rA,rC),(fA,fC),(S,T))],[(own S T 3 1 ((jz l r rs).map iC))]),(by exact .inl ⟨G,_,U,U⟩)⟩))
theorem QH (l:bp) (kA:OA) (kC:Nat) (az:List RA) (cA:OA) (cC:Nat) (bA:OA) (bC:Nat) (r:bT) (sgA:OA) (sgC:Nat) (vwA:OA) (vwC:Nat) (vtA:OA) (vtC:Nat) (vbA:OA) (vbC k:Nat) (rs:List Int) (rA:OA) (rC:Nat) (fs:List Int) (fA:OA) (fC:Nat) (hin:dY l az) (hle:dg l=0) (hr:er l r) (hk:rs.length+k=l.aa.length) (hfl:fs.length=rs.length) (hst:r.Start≤gF r.Start fs∧gF r.Start fs≤r.gh) (hrs: ∀ x∈rs,-1≤x∧x<(r.ab.length:Int)):
 Ma Tryz.prog 161 [(vA (cr.cells (jC l kA kC cA cC bA bC))),(vA (cb.cells (ji r sgA sgC))),(vA (iL.cells (iL.mk (bD.mk vwA ((cm l l.aa.length).length) vwC) (bD.mk vtA ((eZ l r r.ab.length).length) vtC) (bD.mk vbA ((fG l r r.ab.length).length) vbC)))),(vS rA rs.length rC),(vS fA fs.length fC)] [(rd kA l.aS.length 9 (l.aS.map ar.cells)),(rd cA l.aj.length 2 (List.zipWith au.cells l.aj az)),(dT (br au.gd l.aj az)),(rd bA l.aa.length 4 (l.aa.map bJ.cells)),(rd sgA r.ab.length 2 (r.ab.map aA.cells)),(rd vwA ((cm l l.aa.length).length) 1 ((cm l l.aa.length).map iC)),(rd vtA ((eZ l r r.ab.length).length) 2 ((eZ l r r.ab.length).map ag.cells)),(rd vbA ((fG l r r.ab.length).length) 1 ((fG l r r.ab.length).map qO))] (bV [own rA rC 3 1 (rs.map iC),own fA fC 3 1 (fs.map iC)]) (fun (x:(OA)×Nat×(List kN))=>(vS x.1 ((iv l r k rs fs).length) x.2.1)) (fun (x:(OA)×Nat×(List kN))=>x.2.2.length=(iv l r k rs fs).length) (fun (x:(OA)×Nat×(List kN))=>(bV (br dE.owns (iv l r k rs fs) x.2.2++[own x.1 x.2.1 256 3 (List.zipWith dE.cells (iv l r k rs fs) x.2.2)]))):=by
 induction k using Nat.strongRecOn generalizing rs rA rC fs fA fC with
 |ind k ih=>exact He l kA kC az cA cC bA bC r sgA sgC vwA vwC vtA vtC vbA vbC k rs rA rC fs fA fC hin hle hr hk hfl hst hrs (fun L F D E C A B G H AA J K=>ih L G F D E C A B H AA J K)
end
section
open Go.RowKit
theorem Mm (l:bp) (kA:OA) (kC:Nat) (az:List RA) (cA:OA) (cC:Nat) (bA:OA) (bC:Nat) (r:bT) (sgA:OA) (sgC:Nat) (hin:dY l az) (hsl:r.ab.length≤1000000):
 pS Tryz.prog 154 [(vA (cr.cells (jC l kA kC cA cC bA bC))),(vA (cb.cells (ji r sgA sgC)))] [(rd kA l.aS.length 9 (l.aS.map ar.cells)),(rd cA l.aj.length 2 (List.zipWith au.cells l.aj az)),(dT (br au.gd l.aj az)),(rd bA l.aa.length 4 (l.aa.map bJ.cells)),(rd sgA r.ab.length 2 (r.ab.map aA.cells))] (fun (x:Bool×Int×(OA)×Nat×(List kN))=>bif x.1 then (vT [(vS x.2.2.1 ((qR l r).length) x.2.2.2.1),(vI 0)]) else (vT [(vS none 0 0),(vI x.2.1)])) (fun (x:Bool×Int×(OA)×Nat×(List kN))=>(x.1=true→(eW l r 0=0∧x.2.2.2.2.length=(qR l r).length))∧(x.1=false→(x.2.1=eW l r 0∧ ¬ eW l r 0=0))) (fun (x:Bool×Int×(OA)×Nat×(List kN))=>bif x.1 then [(own x.2.2.1 x.2.2.2.1 256 3 (List.zipWith dE.cells (qR l r) x.2.2.2.2)),(bV (br dE.owns (qR l r) x.2.2.2.2))] else []):=by
 have k:=hin.qS
 have j:=hin.qW
 have h:=hin.nx
 have i:=hin.qU
 refine fB kr Tryz.func154 U U fun o Q hQ hN=>?_
 try dsimp only
 refine WS fun _ X=>eO U fun m=>eO U fun n=>bE 2 U<|RK X<|ao fun _ Y=>WS fun _ Z=>eV 1 [] (mc 1 U I) U<|rS (CL (BM l kA kC az cA cC bA bC hin) (bk [2,3,4,5]) U)<|bE 1 U<|RK Z<|WS fun _ a=>rP 2 [] I ?_
 refine RK a<|cy U (aX fun A=>?_) (aW fun A=>?_)
 ·refine WS fun _ b=>rP 3 [] I ?_
  refine RK b<|aq<|LX hQ (false,(dg l),none,0,[]) [] [] I U (by rfl) U U ?_
  exact sJ<|Rg (mY (r:=r) (me:=0) A) A
 refine WK Y<|ao fun _ c=>WS fun _ d=>eV 2 [0,1] (mc 1 U (mc 0 U I)) U<|rS (CL (EY l kA kC az cA cC bA bC r sgA sgC hin (by exact hsl)) (bk [2,3,4,5,6]) U)<|rP 1 [] I ?_
 refine RK d<|cy U (aX fun B=>?_) (aW fun B=>?_)
 ·refine WS fun _ D=>rP 2 [] I ?_
  refine RK D<|aq<|LX hQ (false,51,none,0,[]) [] [] I U (by rfl) U U ?_
  exact sJ<|u_ (fP (me:=0) A B)
 refine WK c<|ao fun _ E=>dy cj [4,5,6] [] [] [0,1,2,3,4,5,6] [] U U U U U<|eS U (LW 1 U b_ U U)<|eS U (LW 0 U b_ U U)<|eS U (LW 1 U b_ U U)<|eS U (LW 0 U b_ U U)<|eh U<|cf U fun T12 J=>cX (N5 l kA kC az cA cC bA bC r sgA sgC hin (by exact A) (by exact B)) (bk [2,3,4,5,6]) U fun e g=>?_
 obtain ⟨V,W,T,AA,R,S⟩:=e
 try dsimp only
 refine aH (J _ _ (aQ [3,4,5,6,7,8,9]) ?_)
 refine cf U fun T21 K=>lh 3 1<|lh 3 1<|ye<|sB 1 U ?_
 try dsimp only [List.eraseIdx]
 refine AS U<|sB 1 U ?_
 try dsimp only [List.eraseIdx]
 refine AS U ?_
 try dsimp only
 refine oO 0 rfl rfl rfl rfl (QH l kA kC az cA cC bA bC r sgA sgC V W T AA R S l.aa.length ([]:List Int) none 0 ([]:List Int) none 0 hin (by exact A) (by exact B) sm (by rfl) (by exact ⟨Int.le_refl _,B.time.2.1⟩) (by intro x hx; cases hx)) rfl (eB 6 rfl rfl (dQ (bY _)) (eB 7 rfl rfl (dQ (bY _)) (eB 8 rfl rfl (dQ (bY _)) (eB 9 rfl rfl (dQ (bY _)) (eB 10 rfl rfl (dQ (bY _)) (eB 1 rfl rfl (jv sm) (eB 2 rfl rfl (jv sm) (eB 3 rfl rfl (jv sm) rK)))))))) rfl (fun f M=>?_)
 obtain ⟨N,O,P⟩:=f
 try dsimp only
 refine aH (K _ _ (aQ [4,5,6,7,8,9,10]) ?_)
 refine cf U fun T26 L=>sB 0 U ?_
 try dsimp only [List.eraseIdx]
 refine zc ?_
 dsimp only at M
 refine rS (AG U)<|aH (L _ _ (aQ [5,6,7,8,9,10,11]) ?_)
 refine e8 U<|KK E<|ao fun _ F=>WS fun _ G=>rP 3 [] I ?_
 refine RK G<|bW U (aV fun C=>?_) (aU fun C=>?_)
 ·refine WK F<|WS fun _ AB=>rP 3 [] I ?_
  refine RK AB<|aq ?_
  refine LX hQ (true,0,N,O,P) [0,1] [] I U (by (show List.all _ _=true; simp only [cond_true,g5,List.all_nil,Lc,Bool.and_true]; rfl)) U U ?_
  exact ⟨fun _=>⟨pM A B U fun q=>C (by rw [show iv l r l.aa.length [] []=[] from (g6 A B).2 q]; rfl),M⟩,QA⟩
 refine WS fun _ H=>rP 2 [] I ?_
 refine RK H<|aq<|LX hQ (false,8,none,0,[]) [] [] I U (by rfl) U U ?_
 exact sJ<|u_ (tL (me:=0) A B U ((g6 A B).1 (ko (Int.natCast_eq_zero.1 C))))
theorem HL (ws:List dE) (wz:List kN) (wA:OA) (wC b:Nat) (hws:MB ws) (hwz:wz.length=ws.length) (hb:b≤6):
 dL Tryz.prog 155 [(vS wA ws.length wC),(vI (b:Int))] [(rd wA ws.length 3 (List.zipWith dE.cells ws wz)),(dT (br dE.gd ws wz))] (vT [(vA (ag.cells (pX ws b))),(vI (qg ws b))]):=by
 have u:=hws.num
 refine bH kr Tryz.func155 U U fun x Q hQ hN=>?_
 try dsimp only
 refine WS fun _ g=>AL U ed fun w=>bE 1 U<|RK g<|WS fun _ h=>AL U ed fun t=>RK h<|WS fun _ j=>bE 1 U<|RK j<|ao fun _ k=>WS fun _ l=>rP 1 [] I ?_
 refine RK l<|aI ?_
 have D:(0≤ws.length)∧(ot b (ws.take 0) false (ag.mk 0 0)):=by exact ⟨Nat.zero_le _,HA⟩
 refine bZ (ι:={z:Nat×Bool×ag // (z.1≤ws.length)∧(ot b (ws.take z.1) z.2.1 z.2.2)}) [0,1,4,5,6] [1,2,3] U U (fun z=>[(7,(vB z.1.2.1)),(8,(vI (z.1.1:Int)))]) (fun z=>[(cp t 48 (ag.cells z.1.2.2))]) (fun _=>rfl) (fun _=>rfl) (fun z=>ws.length-z.1.1) ⟨(0,false,(ag.mk 0 0)),D⟩ (bu U) (aQ [1,2,3,0]) ?_
 clear D
 rintro ⟨⟨i,fd,o⟩,⟨J,A⟩⟩ J8 H
 try dsimp only at J A
 try dsimp only
 refine ao fun _ m=>WS fun _ L=>rP 4 [] I ?_
 refine RK L<|bW U (aV fun c=>?_) (aU fun c=>?_)
 ·refine bS<|ai<|ai<|aL<|KK k<|ao fun _ R=>WS fun _ S=>rP 2 [] I ?_
  refine RK S<|bW U (fun B=>?_) (fun B=>?_)
  ·rw [Bool.not_eq_false'] at B
   refine WK R<|WS fun _ AA=>eV 1 [] (mc 3 U I) U<|fJ U cW U<|rP 1 [] I ?_
   refine RK AA<|aq<|mj hQ [0] (mc 0 U I) U ?_
   have AB:=zC (by have q:=A; rwa [List.take_of_length_le om] at q) hws.FC
   (have q:=AB.2 B; rw [q.1,q.2]; done)
  rw [Bool.not_eq_true'] at B
  refine WS fun _ T=>rS (SX (bf (xs:=[]) (cs:=(ag.cells (ag.mk 0 0))) U U (bg gO U)) U U)<|fJ U cW U<|rP 1 [] I ?_
  refine RK T<|aq<|mj hQ [0] (mc 0 U I) U ?_
  have AB:=zC (by have q:=A; rwa [List.take_of_length_le om] at q) hws.FC
  (have q:=AB.1 B; rw [q.1,q.2]; done)
 refine WK m<|ao fun _ C=>aI<|ao fun _ M=>WS fun _ N=>rP 2 [] I ?_
 obtain ⟨y,hy⟩:=aJ ws i om
 obtain ⟨ya,E⟩:=aJ wz i om
 have K:(List.zipWith dE.cells ws wz)[i]? =some (dE.cells y ya):=dF hy E
 refine rS (IA i U (aB 1 U) FZ dc om om)<|rS (o6 (i*3) U (aB 1 U) (Nat.mul_pos om dc) eD U)<|rS (gE i 0 (vS ya.1.1 y.gP.length ya.1.2) U b_ (aB 1 U) K U dc U)<|rP 3 [] I ?_
 refine RK N<|cy U (aU fun d=>?_) (aV fun d=>?_)
 ·refine bS<|ai<|aL<|KK C<|aw<|rP 3 [] I ?_
  refine aH ?_
  have X:(vI (((i+1):Nat):Int))=(vI ((i:Int)+1)):=by exact cI om
  refine bq (H ⟨((i+1),fd,o),⟨om,by dsimp only; rw [mw hy]; exact EK A om⟩⟩ _ _ _ U os (cY 6<|bw U X<|dG.nil _) (aQ [0,1,2,3]))
 refine WK M<|ao fun _ O=>dy cj [17,18] [] [] [0,1,2,3] [] U U U U U ?_
 have v:=hws.lens y (aP hy)
 obtain ⟨s,hs⟩: ∃ s,y.gP[b]? =some s:=⟨y.gP[b]'om,fg _⟩
 refine eS U (MV U)<|eS U (MV U)<|eS U (IA i U (aB 1 U) FZ dc om om)<|eS U (o6 ((i*3)+1) U (aB 1 U) (Nat.mul_pos om dc) eD U)<|eS U (gE i 1 (vS ya.2.1.1 y.iZ.length ya.2.1.2) U b_ (aB 1 U) K U dc U)<|eS U (MV U) ?_
 obtain ⟨f,hf⟩:=aJ y.iZ b om
 have p:=bM iC hf
 refine eS U (IA b U (show iJ _ (rd ya.2.1.1 y.iZ.length 1 (y.iZ.map iC)).holds from (cU 2 U (bQ hy E (by simp [dE.gd])))) dk dc om om)<|eS U (gE b 0 (vI f) U b_ (show iJ _ (rd ya.2.1.1 y.iZ.length 1 (y.iZ.map iC)).holds from (cU 2 U (bQ hy E (by simp [dE.gd])))) p U dc U)<|eS U (MV U)<|eS U (MV U)<|eS U (IA i U (aB 1 U) FZ dc om om)<|eS U (o6 ((i*3)+2) U (aB 1 U) (Nat.mul_pos om dc) eD U)<|eS U (gE i 2 (vS ya.2.2.1 y.my.length ya.2.2.2) U b_ (aB 1 U) K U dc U)<|eS U (MV U) ?_
 obtain ⟨e,he⟩:=aJ y.my b om
 have n:=bM iC he
 refine eS U (IA b U (show iJ _ (rd ya.2.2.1 y.my.length 1 (y.my.map iC)).holds from (cU 2 U (bQ hy E (by simp [dE.gd])))) dk dc om om)<|eS U (gE b 0 (vI e) U b_ (show iJ _ (rd ya.2.2.1 y.my.length 1 (y.my.map iC)).holds from (cU 2 U (bQ hy E (by simp [dE.gd])))) n U dc U)<|eS U (SX (bf (xs:=[(0,.tmp 31),(1,.tmp 39)]) (cs:=(ag.cells (ag.mk f e))) U U (bg gO U)) U U)<|eh U<|cf U fun T17 V=>AL U ed fun r=>aH (V _ _ (aQ [1,2,3,4]) ?_)
 refine cf U fun T19 W=>fJ U cW U<|aH (W _ _ (aQ [1,2,3,4]) ?_)
 refine e8 U<|KK O<|ao fun _ F=>WS fun _ P=>?_
 have a:=hws.le y (aP hy) b f e om hf he
 refine rP 1 [] I ?_
 refine RK P<|bW U (fun G=>?_) (fun G=>?_)
 ·refine WK F<|aw<|eV 1 [] (mc 0 U I) U<|Ug U cW U<|bE 1 U<|aH<|aR<|KK C<|aw<|rP 3 [] I ?_
  refine aH ?_
  have Z:(vI (((i+1):Nat):Int))=(vI ((i:Int)+1)):=by exact cI om
  refine bq (H ⟨((i+1),true,(ag.mk f e)),⟨om,by dsimp only; rw [mw hy]; exact BW A G hs hf he a⟩⟩ _ _ _ U os (cY 6<|bw U Z<|dG.nil _) (aQ [1,2,3,4]))
 refine aw<|eV 4 [0,1] (mc 0 U (mc 4 U I)) U<|rS (MN U)<|eV 4 [0,1] (mc 0 U (mc 4 U I)) U<|rS (MX U)<|rS (SX (bf (xs:=[(0,.tmp 46),(1,.tmp 51)]) (cs:=(ag.cells (ag.mk (min f o.Lo) (max e o.Hi)))) U U (bg gO U)) U U)<|fJ U cW U<|RK F<|aw<|eV 1 [] (mc 0 U I) U<|Ug U cW U<|bE 1 U<|aH<|aR<|KK C<|aw<|rP 3 [] I ?_
 refine aH ?_
 have Y:(vI (((i+1):Nat):Int))=(vI ((i:Int)+1)):=by exact cI om
 refine bq (H ⟨((i+1),true,(ag.mk (min f o.Lo) (max e o.Hi))),⟨om,by dsimp only; rw [mw hy]; exact DN A G hs hf he a⟩⟩ _ _ _ U os (cY 6<|bw U Y<|dG.nil _) (aQ [1,2,3,4]))
end
section
open Go.RowKit
theorem QM (l:bp) (kA:OA) (kC:Nat) (az:List RA) (cA:OA) (cC:Nat) (bA:OA) (bC:Nat) (r:bT) (sgA:OA) (sgC:Nat) (hin:dY l az) (hsl:r.ab.length≤1000000):
 dL Tryz.prog 138 [(vA (cr.cells (cr.mk (bP.mk (bD.mk kA l.aS.length kC)) l.hZ (bD.mk cA l.aj.length cC) (bD.mk bA l.aa.length bC) l.bO l.fO l.dq))),(vA (cb.cells (ji r sgA sgC)))] [(rd kA l.aS.length 9 (l.aS.map ar.cells)),(rd cA l.aj.length 2 (List.zipWith au.cells l.aj az)),(dT (br au.gd l.aj az)),(rd bA l.aa.length 4 (l.aa.map bJ.cells)),(rd sgA r.ab.length 2 (r.ab.map aA.cells))] (vT [(vA (ag.cells (zX l r))),(vI (dV l r l.bO))]):=by
 have q:=hin.qS
 have j:=hin.qW
 have h:=hin.nx
 have i:=hin.qU
 refine bH kr Tryz.func138 U U fun y Q hQ hN=>?_
 try dsimp only
 refine WS fun _ Z=>eO U fun v=>eO U fun w=>AL U ed fun x=>bE 1 U<|RK Z<|WS fun _ P=>rP 2 [0,1] (mc 2 U (mc 1 U I)) ?_
 refine cX (Mm l kA kC az cA cC bA bC r sgA sgC hin hsl) (bk [3,4,5,6,7]) U fun u V=>?_
 obtain ⟨W,g,e,Y,X⟩:=u
 cases W
 ·obtain ⟨R,he⟩:=V.2 rfl
  try dsimp only at R he
  subst R
  try dsimp only [cond_true,cond_false,List.cons_append,List.nil_append]
  refine bE 5 U<|RK P<|ao fun _ d=>WS fun _ G=>rP 2 [] I ?_
  refine RK G<|bW U (aW fun F=>?_) (aX fun F=>?_)
  ·exact absurd F he
  refine WS fun _ H=>rS (SX (bf (xs:=[]) (cs:=(ag.cells (ag.mk 0 0))) U U (bg gO U)) U U)<|bE 1 U<|fJ U cW U<|rP 1 [] I ?_
  refine RK H<|aq<|mj hQ [0] (mc 0 U I) U ?_
  (rw [Dx (fun z=>he ((wi he).symm.trans z)),wi he]<;>rfl)
 obtain ⟨he,C⟩:=V.1 rfl
 try dsimp only [cond_true,cond_false,List.cons_append,List.nil_append]
 try dsimp only at he C
 obtain ⟨T,E,_,k⟩:=jc he
 obtain ⟨s,c⟩:=du T
 have a:=c.head
 unfold eU at a
 have AA:=P9 T E
 have t:=AA.num
 have o:=E.len
 have p:=E.time
 refine bE 5 U<|RK P<|ao fun _ AB=>WS fun _ J=>rP 1 [] I ?_
 refine rS (SX (gn (r:= .bool false) U U U ky) U U)<|RK J<|ct U<|WK AB<|ao fun _ K=>?_
 obtain ⟨b,S⟩: ∃ b:Nat,l.bO=(b:Int):=⟨l.bO.toNat,om⟩
 have A:=Jn he (b:=b) om
 rw [← S] at A
 rw [S]
 refine aw<|eV 3 [] (mc 4 U I) U<|rS (CL (HL (qR l r) X e Y b (by exact AA) (by exact C) om) (aC (av (n:=(qR l r).length) 0 U (uK C))<|aC (eT 1 U Mg)<|aO) U)<|bE 3 U<|AL U ed fun f=>fJ U cW U<|bE 1 U<|RK K<|ao fun _ L=>WS fun _ M=>rP 2 [] I ?_
 refine RK M<|cy U (aX fun B=>?_) (aW fun B=>?_)
 ·refine WS fun _ N=>rS (SX (bf (xs:=[]) (cs:=(ag.cells (ag.mk 0 0))) U U (bg gO U)) U U)<|bE 1 U<|Us U cW U<|rP 1 [] I ?_
  refine RK N<|aq<|mj hQ [0] (mc 3 U I) U ?_
  (rw [Dx (fun z=>B (A.1.trans z)),← A.1]<;>rfl)
 refine WK L<|ao fun _ O=>?_
 have D:dV l r l.bO=0:=A.1.symm.trans B
 have m:=rG D
 rw [A.2]
 refine aw<|eV 10 [0,1,0,1] (mc 0 U (mc 4 U I)) U<|rS (SX (bf (xs:=[(0,.tmp 34),(1,.tmp 39)]) (cs:=(ag.cells (ag.mk (((dI l r l.bO).Lo)-r.Start) (((dI l r l.bO).Hi)-r.Start)))) U U (bg gO U)) U U)<|Us U cW U<|rP 1 [] I ?_
 refine RK O<|aq<|mj hQ [0] (mc 3 U I) U ?_
 (rw [zW D,D])
end
section
open Go.RowKit
theorem Es (l:bp) (kA:OA) (kC:Nat) (az:List RA) (cA:OA) (cC:Nat) (bA:OA) (bC:Nat) (d:ax) (sgA:OA) (sgC:Nat) (hin:dY l az) (hle:dg l=0) (hsl:d.bx.ab.length≤1000000) (hk:d.Out=true):
 dL Tryz.prog 112 [(vA (cr.cells (jC l kA kC cA cC bA bC))),(vA (aM.cells (aM.mk d.Out d.dC d.Time (ji d.bx sgA sgC))))] [(rd kA l.aS.length 9 (l.aS.map ar.cells)),(rd cA l.aj.length 2 (List.zipWith au.cells l.aj az)),(dT (br au.gd l.aj az)),(rd bA l.aa.length 4 (l.aa.map bJ.cells)),(rd sgA d.bx.ab.length 2 (d.bx.ab.map aA.cells))] (vT [(vA (ag.cells (pB l d))),(vB (decide (iP l d)))]):=by
 have K:=hin.qS
 have J:=hin.qW
 have H:=hin.nx
 have AA:=hin.qU
 refine bH kr Tryz.func112 U U fun O Q hQ hN=>?_
 try dsimp only
 refine WS fun _ B=>eO U fun L=>eO U fun M=>AL U ed fun N=>bE 1 U<|RK B<|ao fun _ E=>aI<|WS fun _ C=>rP 3 [] (mc 1 U I) ?_
 refine RK C<|bW U (fun G=>?_) (fun G=>?_)
 ·exact absurd ((hk).symm.trans G) dc
 refine WS fun _ A=>rS (SX (bf (xs:=[]) (cs:=(ag.cells (ag.mk 0 0))) U U (bg gO U)) U U)<|rP 4 [] (mc 1 U I) ?_
 refine bU (t:=15) U (fun D=>?_) (fun D=>?_)
 ·rw [Bool.not_eq_false'] at D
  refine bE 10 U<|fJ U cW U<|rP 1 [] I ?_
  refine RK A<|aq<|mj hQ [0] (mc 0 U I) U ?_
  clear hQ hN A C E B
  rw [z_ hk]
  simp only [rp hk]
  refine congrArg (fun z=>Value.tuple #[_,vB z]) ?_
  first|rfl|(simp_all [gj]; done)
 rw [Bool.not_eq_true'] at D
 refine bE 1 U<|rS (LP (ag.cells d.Time) 1 U b_ U U U)<|rS (SX (bf (xs:=[]) (cs:=(ag.cells (ag.mk 0 0))) U U (bg gO U)) U U)<|rS (BI U (xC _ _ d.Time (ag.mk 0 0)))<|rP 2 [] I ?_
 refine bU (t:=21) U (aV fun F=>?_) (aU fun F=>?_)
 ·refine bE 4 U<|fJ U cW U<|rP 1 [] I ?_
  refine RK A<|aq<|mj hQ [0] (mc 0 U I) U ?_
  clear hQ hN A C E B
  rw [z_ hk]
  simp only [rp hk]
  refine congrArg (fun z=>Value.tuple #[_,vB z]) ?_
  first|rfl|(simp_all [gj]; done)
 refine bE 1 U<|rS (LP (cb.cells (ji d.bx sgA sgC)) 1 U b_ U U U)<|rS (CL (FV d.bx sgA sgC) (bk [7]) U)<|bE 1 U<|fJ U cW U<|rP 1 [] I ?_
 refine RK A<|aq<|mj hQ [0] (mc 0 U I) U ?_
 clear hQ hN A C E B
 rw [z_ hk]
 simp only [rp hk]
 refine congrArg (fun z=>Value.tuple #[_,vB z]) ?_
 first|rfl|(simp_all [gj]; done)
theorem D1 (l:bp) (kA:OA) (kC:Nat) (az:List RA) (cA:OA) (cC:Nat) (bA:OA) (bC:Nat) (d:ax) (sgA:OA) (sgC:Nat) (hin:dY l az) (hle:dg l=0) (hsl:d.bx.ab.length≤1000000) (hk:d.Out=false∧d.dC=true):
 dL Tryz.prog 112 [(vA (cr.cells (jC l kA kC cA cC bA bC))),(vA (aM.cells (aM.mk d.Out d.dC d.Time (ji d.bx sgA sgC))))] [(rd kA l.aS.length 9 (l.aS.map ar.cells)),(rd cA l.aj.length 2 (List.zipWith au.cells l.aj az)),(dT (br au.gd l.aj az)),(rd bA l.aa.length 4 (l.aa.map bJ.cells)),(rd sgA d.bx.ab.length 2 (d.bx.ab.map aA.cells))] (vT [(vA (ag.cells (pB l d))),(vB (decide (iP l d)))]):=by
 have N:=hin.qS
 have M:=hin.qW
 have K:=hin.nx
 have L:=hin.qU
 refine bH kr Tryz.func112 U U fun S Q hQ hN=>?_
 try dsimp only
 refine WS fun _ D=>eO U fun O=>eO U fun P=>AL U ed fun R=>bE 1 U<|RK D<|ao fun _ H=>aI<|WS fun _ E=>rP 3 [] (mc 1 U I) ?_
 refine RK E<|cy U (fun J=>?_) (fun J=>?_)
 ·exact absurd ((hk.1).symm.trans J) dc
 refine WS fun _ F=>rP 3 [] (mc 1 U I) ?_
 refine RK F<|bW U (fun G=>?_) (fun G=>?_)
 ·exact absurd ((hk.2).symm.trans G) dc
 refine ao fun _ B=>dy cj [10] [] [] [1,2,3,4,5,6,7] [] U U U U U<|eS U (FA 2 U eD U)<|eS U (LP (ag.cells d.Time) 0 U b_ U U U)<|eS U (FA 2 U eD U)<|eS U (LP (ag.cells d.Time) 0 U b_ U U U)<|eS U (CL (Nw d.Time) (aO) U)<|eS U (MV U)<|sb (t:=34) U (fun A=>?_) (fun A=>?_)
 rotate_left 1
 ·replace A:=DF A
  refine eS U (OX U)<|eS U (OX U)<|eS U (OX U)<|eS U (PK U)<|eS U (AG U)<|eh U<|cf U fun T10 C=>fJ U cW U<|aH (C _ _ (aQ [1,2,3,4,5,6,7]) ?_)
  refine e8 U<|KK B<|aq<|mj hQ [0] (mc 0 U I) U ?_
  clear hQ hN C T10 B F E H D
  rw [FX hk]
  simp only [uh hk]
  refine congrArg (fun z=>Value.tuple #[_,vB z]) ?_
  first|rfl|(simp_all; done)
 replace A:=DT A
 refine eS U (FA 4 U eD U)<|eS U (LP (cb.cells (ji d.bx sgA sgC)) 0 U b_ U U U)<|eS U (CL (FV d.bx sgA sgC) (bk [6]) U)<|eS U (PK U)<|eS U (AG U)<|eh U<|cf U fun T9 AA=>fJ U cW U<|aH (AA _ _ (aQ [1,2,3,4,5,6,7]) ?_)
 refine e8 U<|KK B<|aq<|mj hQ [0] (mc 0 U I) U ?_
 clear hQ hN AA T9 B F E H D
 rw [FX hk]
 simp only [uh hk]
 refine congrArg (fun z=>Value.tuple #[_,vB z]) ?_
 first|rfl|(simp_all; done)
theorem EJ (l:bp) (kA:OA) (kC:Nat) (az:List RA) (cA:OA) (cC:Nat) (bA:OA) (bC:Nat) (d:ax) (sgA:OA) (sgC:Nat) (hin:dY l az) (hle:dg l=0) (hsl:d.bx.ab.length≤1000000) (hk:d.Out=false∧d.dC=false):
 dL Tryz.prog 112 [(vA (cr.cells (jC l kA kC cA cC bA bC))),(vA (aM.cells (aM.mk d.Out d.dC d.Time (ji d.bx sgA sgC))))] [(rd kA l.aS.length 9 (l.aS.map ar.cells)),(rd cA l.aj.length 2 (List.zipWith au.cells l.aj az)),(dT (br au.gd l.aj az)),(rd bA l.aa.length 4 (l.aa.map bJ.cells)),(rd sgA d.bx.ab.length 2 (d.bx.ab.map aA.cells))] (vT [(vA (ag.cells (pB l d))),(vB (decide (iP l d)))]):=by
 have O:=hin.qS
 have N:=hin.qW
 have L:=hin.nx
 have M:=hin.qU
 refine bH kr Tryz.func112 U U fun AA Q hQ hN=>?_
 try dsimp only
 refine WS fun _ E=>eO U fun P=>eO U fun R=>AL U ed fun S=>bE 1 U<|RK E<|ao fun _ F=>aI<|WS fun _ G=>rP 3 [] (mc 1 U I) ?_
 refine RK G<|cy U (fun K=>?_) (fun K=>?_)
 ·exact absurd ((hk.1).symm.trans K) dc
 refine WS fun _ H=>rP 3 [] (mc 1 U I) ?_
 refine RK H<|cy U (fun J=>?_) (fun J=>?_)
 ·exact absurd ((hk.2).symm.trans J) dc
 refine cu<|aR<|KK F<|WS fun _ AB=>eV 2 [] (mc 2 U I) U<|rS (LP (cb.cells (ji d.bx sgA sgC)) 1 U b_ U U U)<|rS (CL (QM l kA kC az cA cC bA bC d.bx sgA sgC hin hsl) (bk [3,4,5,6,7]) U)<|bE 3 U<|AL U ed fun T=>fJ U cW U<|rP 1 [] I ?_
 refine RK AB<|ao fun _ A=>dy cj [9] [] [] [0,2,3,4,5,6,7,8] [] U U U U U<|eS U (LW 0 U b_ U U)<|eS U (MV U)<|eS U (BI U lZ)<|eS U (MV U)<|sb (t:=49) U (fun B=>?_) (fun B=>?_)
 rotate_left 1
 ·replace B:=DF B
  refine eS U (OX U)<|eS U (OX U)<|eS U (OX U)<|eS U (OX U)<|eS U (PK U)<|eS U (AG U)<|eh U<|cf U fun T12 D=>qT U cW U<|aH (D _ _ (aQ [0,2,3,4,5,6,7,8]) ?_)
  refine e8 U<|KK A<|aq<|mj hQ [0] (mc 1 U I) U ?_
  clear hQ hN D T12 A AB H G F E
  rw [Fu hk]
  simp only [uW hk]
  refine congrArg (fun z=>Value.tuple #[_,vB z]) ?_
  first|rfl|(simp_all [gj]; done)
 replace B:=DT B
 refine eS U (FA 2 U eD U)<|eS U (LP (ag.cells d.Time) 1 U b_ U U U)<|eS U (SX (bf (xs:=[]) (cs:=(ag.cells (ag.mk 0 0))) U U (bg gO U)) U U)<|eS U (BI U (xC _ _ d.Time (ag.mk 0 0)))<|eS U (PK U)<|eS U (AG U)<|eh U<|cf U fun T11 C=>qT U cW U<|aH (C _ _ (aQ [0,2,3,4,5,6,7,8]) ?_)
 refine e8 U<|KK A<|aq<|mj hQ [0] (mc 1 U I) U ?_
 clear hQ hN C T11 A AB H G F E
 rw [Fu hk]
 simp only [uW hk]
 refine congrArg (fun z=>Value.tuple #[_,vB z]) ?_
 first|rfl|(simp_all [gj]; done)
theorem Hx (l:bp) (kA:OA) (kC:Nat) (az:List RA) (cA:OA) (cC:Nat) (bA:OA) (bC:Nat) (d:ax) (sgA:OA) (sgC:Nat) (hin:dY l az) (hle:dg l=0) (hsl:d.bx.ab.length≤1000000):
 dL Tryz.prog 112 [(vA (cr.cells (jC l kA kC cA cC bA bC))),(vA (aM.cells (aM.mk d.Out d.dC d.Time (ji d.bx sgA sgC))))] [(rd kA l.aS.length 9 (l.aS.map ar.cells)),(rd cA l.aj.length 2 (List.zipWith au.cells l.aj az)),(dT (br au.gd l.aj az)),(rd bA l.aa.length 4 (l.aa.map bJ.cells)),(rd sgA d.bx.ab.length 2 (d.bx.ab.map aA.cells))] (vT [(vA (ag.cells (pB l d))),(vB (decide (iP l d)))]):=by
 by_cases ho:d.Out=true
 ·exact Es l kA kC az cA cC bA bC d sgA sgC hin hle hsl ho
 by_cases hf:d.dC=true
 ·exact D1 l kA kC az cA cC bA bC d sgA sgC hin hle hsl ⟨by simpa using ho,hf⟩
 ·exact EJ l kA kC az cA cC bA bC d sgA sgC hin hle hsl ⟨by simpa using ho,by simpa using hf⟩
end
section
open Go.RowKit
theorem D9 (r:fu) (kA:OA) (kC:Nat) (az:List RA) (cA:OA) (cC:Nat) (bA:OA) (bC:Nat) (slA:OA) (slC:Nat) (drA:OA) (drC:Nat) (ha:List c_) (heA:OA) (heC:Nat) (hin:lS r az ha) (hle:dg r.ak=0):
 pS Tryz.prog 86 [(vA (eX.cells (yX r kA kC cA cC bA bC slA slC drA drC heA heC)))] [(rd kA r.ak.aS.length 9 (r.ak.aS.map ar.cells)),(rd cA r.ak.aj.length 2 (List.zipWith au.cells r.ak.aj az)),(dT (br au.gd r.ak.aj az)),(rd bA r.ak.aa.length 4 (r.ak.aa.map bJ.cells)),(rd slA r.bj.length 1 (r.bj.map iC)),(rd drA r.cq.length 1 (r.cq.map iC)),(rd heA r.aD.length 1 (List.zipWith cL r.aD ha)),(dT (br fj r.aD ha))] (fun (x:Bool×Int×(OA)×Nat×(List RA))=>bif x.1 then (vT [(vS x.2.2.1 ((fU r).length) x.2.2.2.1),(vB true)]) else (vT [(vS none 0 0),(vB false)])) (fun (x:Bool×Int×(OA)×Nat×(List RA))=>(x.1=true→(fQ r∧x.2.2.2.2.length=r.aD.length))∧(x.1=false→(x.2.1=0∧ ¬ fQ r))) (fun (x:Bool×Int×(OA)×Nat×(List RA))=>bif x.1 then [(own x.2.2.1 x.2.2.2.1 190 1 (List.zipWith Mq (fU r) x.2.2.2.2)),(bV (br Fc (fU r) x.2.2.2.2))] else []):=by
 have NP:=hin.line
 have Pj:=hin.iu
 have Pl:=hin.has
 have Os:=hin.ir
 have Op:=hin.draw
 have Oy:=j4 (r:=r)
 refine fB kr Tryz.func86 U U fun w0 Q hQ hN=>?_
 try dsimp only
 refine WS fun _ Lh=>eO U fun b2=>bE 2 U<|RK Lh<|WS fun _ Li=>eV 4 [] (mc 0 U I) U<|RK Li<|ao fun _ Lk=>WS fun _ N=>bE 1 U<|rS (CL (pb (r.bj.length:Int) 1 5) (aO) U)<|rP 2 [] I ?_
 refine bK (t:=19) U (aX fun J9=>?_) (aW fun J9=>?_)
 ·refine bE 19 U<|RK N<|aT U<|WS fun _ Lo=>rP 2 [] I ?_
  refine RK Lo<|aq<|LX hQ (false,0,none,0,[]) [] [] I U (by rfl) U U ?_
  (exact ⟨E8,fun _=>⟨rfl,fun q=>by have S:=q.num; have q2:=q.Ad; have q3:=q.nh; have q4:=q.Bd; omega⟩⟩)
 refine rP 7 [] (mc 0 U I) ?_
 refine bK (t:=26) U (aX fun X=>?_) (aW fun X=>?_)
 ·refine bE 12 U<|RK N<|aT U<|WS fun _ L0=>rP 2 [] I ?_
  refine RK L0<|aq<|LX hQ (false,0,none,0,[]) [] [] I U (by rfl) U U ?_
  (exact ⟨E8,fun _=>⟨rfl,fun q=>by have S:=q.num; have q2:=q.Ad; have q3:=q.nh; have q4:=q.Bd; omega⟩⟩)
 refine eV 2 [] (mc 0 U I) U<|rS (CL (pb r.kM 0 5) (aO) U)<|rP 3 [] I ?_
 refine bK (t:=32) U (aX fun K0=>?_) (aW fun K0=>?_)
 ·refine bE 6 U<|RK N<|aT U<|WS fun _ L2=>rP 2 [] I ?_
  refine RK L2<|aq<|LX hQ (false,0,none,0,[]) [] [] I U (by rfl) U U ?_
  (exact ⟨E8,fun _=>⟨rfl,fun q=>by have S:=q.num; have q2:=q.Ad; have q3:=q.nh; have q4:=q.Bd; omega⟩⟩)
 refine eV 3 [] (mc 0 U I) U<|rS (CL (pb (r.aD.length:Int) 1 3) (aO) U)<|rP 2 [] I ?_
 refine RK N<|cy U (aX fun K5=>?_) (aW fun K5=>?_)
 ·refine WS fun _ L3=>rP 2 [] I ?_
  refine RK L3<|aq<|LX hQ (false,0,none,0,[]) [] [] I U (by rfl) U U ?_
  (exact ⟨E8,fun _=>⟨rfl,fun q=>by have S:=q.num; have q2:=q.Ad; have q3:=q.nh; have q4:=q.Bd; omega⟩⟩)
 refine WK Lk<|ao fun _ o=>WS fun _ p=>rP 1 [] I ?_
 refine RK p<|aI ?_
 have A:(0≤r.bj.length)∧(xX r 0):=by exact ⟨Nat.zero_le _,It⟩
 refine bZ (ι:={z:Nat // (z≤r.bj.length)∧(xX r z)}) [1,4] [0,1,2,3,4,5,6,7,8] U U (fun z=>[(5,(vI (z.1:Int)))]) (fun z=>[]) (fun _=>rfl) (fun _=>rfl) (fun z=>r.bj.length-z.1) ⟨0,A⟩ (bu U) (aQ [0,1,2,3,4,5,6,7,8]) ?_
 clear A
 rintro ⟨i,⟨NE,AB⟩⟩ J12 T
 try dsimp only
 refine ao fun _ s=>WS fun _ v=>rP 3 [] I ?_
 refine RK v<|bW U (aV fun J8=>?_) (aU fun J8=>?_)
 ·refine bS<|ai<|ai<|aL<|KK o<|WS fun _ B9=>bE 1 U<|RK B9<|ao fun _ Ci=>WS fun _ Ck=>rP 1 [] I ?_
  refine RK Ck<|aI<|eK 190 1<|n9 ?_
  have A:(0≤r.aD.length)∧(([]:List RA).length=0)∧(kp r 0):=by exact ⟨Nat.zero_le _,rfl,x4⟩
  refine bZ (ι:={z:Nat×(List RA)×(OA)×Nat // (z.1≤r.aD.length)∧(z.2.1.length=z.1)∧(kp r z.1)}) [1,4] [2,3,4,5,6,7,8,9,10] U U (fun z=>[(7,(vS z.1.2.2.1 ((List.zipWith CP (gV r z.1.1) z.1.2.1).length) z.1.2.2.2)),(8,(vI (z.1.1:Int)))]) (fun z=>[(bV (br Fc (gV r z.1.1) z.1.2.1)),(own z.1.2.2.1 z.1.2.2.2 190 1 (List.map sC (List.zipWith CP (gV r z.1.1) z.1.2.1)))]) (fun _=>rfl) (fun _=>rfl) (fun z=>r.aD.length-z.1.1) ⟨(0,([]:List RA),none,0),A⟩ (bu U) (aQ [2,3,4,5,6,7,8,9,10,0,1]) ?_
  clear A
  rintro ⟨⟨h,tz,a,c⟩,⟨P,C,F⟩⟩ J46 l
  try dsimp only at P C F
  try dsimp only
  refine ao fun _ Cp=>WS fun _ Cx=>rP 5 [] (mc 0 U I) ?_
  refine RK Cx<|bW U (aV fun K8=>?_) (aU fun K8=>?_)
  ·refine bS<|ai<|ai<|aL<|KK Ci<|ao fun _ GE=>?_
   have M_:gV r h=fU r:=by unfold fU; rw [show h=r.aD.length by omega]
   have Ne:tz.length=r.aD.length:=by omega
   rw [M_,zu,show (List.zipWith CP (fU r) tz).length=(fU r).length from by rw [List.length_zipWith]; omega]
   have Ik:fQ r:=Gp (n:=i) om om om om om AB F om
   refine aw<|rP 3 [] I ?_
   refine RK GE<|aq ?_
   refine LX hQ (true,0,a,c,tz) [10,9] [] I U (by (show List.all _ _=true; simp only [cond_true,g5,List.all_nil,EL,Bool.and_true]; rfl)) U U ?_
   exact ⟨fun _=>⟨Ik,Ne⟩,QA⟩
  refine WK Cp<|ao fun _ C0=>aI<|ao fun _ C1=>WS fun _ C2=>rP 3 [] (mc 0 U I) ?_
  obtain ⟨ht,D⟩:=aJ r.aD h om
  obtain ⟨E,H⟩:=aJ ha h om
  have W:(List.zipWith cL r.aD ha)[h]? =some (cL ht E):=dF D H
  refine rS (IA h U (aB 7 U) oz dc om om) ?_
  have If:=hin.gH _ _ _ D H
  have Or:=If.nx
  refine rS (gE h 0 (vS E.1.1 ht.length E.1.2) U b_ (aB 7 U) W U dc U)<|rP 3 [] I ?_
  refine RK C2<|cy U (aX fun e=>?_) (aW fun e=>?_)
  ·refine WS fun _ C3=>rP 2 [] I ?_
   refine RK C3<|aq<|LX hQ (false,0,none,0,[]) [] [] I U (by rfl) U U ?_
   (exact ⟨E8,fun _=>⟨rfl,fun q=>by have S:=(q.gH ht (aP D)).1; omega⟩⟩)
  refine WK C1<|WS fun _ Di=>bE 1 U<|RK Di<|ao fun _ Do=>WS fun _ Du=>rP 1 [] I ?_
  refine RK Du<|aI<|eK 48 2 ?_
  have A:(0≤ht.length)∧(oI r.ak ht 0):=by exact ⟨Nat.zero_le _,wk⟩
  refine bZ (ι:={z:Nat×(OA)×Nat // (z.1≤ht.length)∧(oI r.ak ht z.1)}) [1,4,7,8] [1,2,3,4,5,6,7,8,9,10,11] U U (fun z=>[(9,(vS z.1.2.1 (((ht.take z.1.1).map (gl r.ak)).length) z.1.2.2)),(10,(vI (z.1.1:Int)))]) (fun z=>[(own z.1.2.1 z.1.2.2 48 2 (((ht.take z.1.1).map (gl r.ak)).map ag.cells))]) (fun _=>rfl) (fun _=>rfl) (fun z=>ht.length-z.1.1) ⟨(0,none,0),A⟩ (bu U) (aQ [1,2,3,4,5,6,7,8,9,10,11,0]) ?_
  clear A
  rintro ⟨⟨j,la,lc⟩,⟨R,G⟩⟩ J57 m
  try dsimp only at R G
  try dsimp only
  refine ao fun _ EQ=>WS fun _ Eq=>rP 3 [] I ?_
  refine RK Eq<|bW U (aV fun LT=>?_) (aU fun LT=>?_)
  ·refine bS<|ai<|ai<|aL<|KK Do<|aw ?_
   rw [show ((ht.take j).map (gl r.ak))=ht.map (gl r.ak) from by rw [List.take_of_length_le om]]
   refine rP 2 [] I ?_
   refine d_ (xs:=[.tmp 137]) (cs:=[(vS la ((ht.map (gl r.ak)).length) lc)]) U JF OE U U U U (by simp [Value.cells]) U U fun Pi=>?_
   refine dD (es2:=(List.map sC (List.zipWith CP (gV r (h+1)) (tz++[(la,lc)])))) (m':=(List.zipWith CP (gV r (h+1)) (tz++[(la,lc)])).length) 11 U U U Pd U U sm (bo (es:=List.map sC [(bD.mk la ((ht.map (gl r.ak)).length) lc)]) 0 U U (by simp [zL]) U) (KA _) (by rw [List.length_zipWith,k8 om]; omega) (by rw [List.length_zipWith,k8 om]; simp only [maxLen]; omega) (by rw [uH D C,List.map_append]; rfl) (by rw [uH D C]; simp) U fun J5 J7=>?_
   try dsimp only
   refine bE 1 U<|aH<|aR<|KK C0<|aw<|rP 3 [] I ?_
   refine aH<|xM (X':=br Fc (gV r (h+1)) (tz++[(la,lc)])) 10 12 U U (By (a:=(la,lc)) D C) ?_
   have IR:(vI (((h+1):Nat):Int))=(vI ((h:Int)+1)):=by exact cI om
   refine bq (l ⟨((h+1),(tz++[(la,lc)]),J5,J7),⟨om,by simp; omega,yw F D (EW om G om)⟩⟩ _ _ _ U os (cY 3<|bw U IR<|dG.nil _) (aQ [2,3,4,5,6,7,8,9,10,0,11]))
  refine WK EQ<|ao fun _ FC=>aI<|ao fun _ FE=>dy cj [14,15] [] [] [0,1,2,3,4,5,6,7,8,9,10,11] [] U U U U U<|eS U (FA 0 U eD U)<|eS U (LP (cr.cells (jC r.ak kA kC cA cC bA bC)) 0 U b_ U U U)<|eS U (FA 10 U eD U)<|eS U (L1 (vS heA r.aD.length heC) 0 U b_ U U)<|eS U (MV U)<|eS U (IA h U (aB 7 U) oz dc om om)<|eS U (gE h 0 (vS E.1.1 ht.length E.1.2) U b_ (aB 7 U) W U dc U)<|eS U (MV U) ?_
  obtain ⟨d,hd⟩:=aJ ht j om
  obtain ⟨da,Id⟩:=aJ E.2 j om
  have M2:(List.zipWith ax.cells ht E.2)[j]? =some (ax.cells d da):=dF hd Id
  refine eS U (IA j U (show iJ _ (rd E.1.1 ht.length 7 (List.zipWith ax.cells ht E.2)).holds from (cU 8 U (bQ D H cx))) rr dc om om)<|eS U (lM j 0 (aM.cells (aM.mk d.Out d.dC d.Time (cb.mk d.bx.Start d.bx.gh (bD.mk da.1 d.bx.ab.length da.2)))) U b_ (show iJ _ (rd E.1.1 ht.length 7 (List.zipWith ax.cells ht E.2)).holds from (cU 8 U (bQ D H cx))) M2 U dc U U) ?_
  have Pm:=If.sig d (aP hd)
  refine eS U (CL (Hx r.ak kA kC az cA cC bA bC d da.1 da.2 asm hle asm) (nV [1,2,3,4]<|aC (show iJ _ (rd da.1 d.bx.ab.length 2 (d.bx.ab.map aA.cells)).holds from (cU 8 U (bQ D H (di _ (bQ hd Id (by simp [ax.gd]))))))<|aO) U)<|eS U (MV U)<|eS U (EX U)<|eS U (EX U)<|eS U (AG U)<|eh U<|cf U fun T63 GR=>AL U ed fun PN=>aH (GR _ _ (aQ [1,2,3,4,5,6,7,8,9,10,11,12]) ?_)
  refine cf U fun T65 GT=>fJ U cW U<|aH (GT _ _ (aQ [1,2,3,4,5,6,7,8,9,10,11,12]) ?_)
  refine e8 U<|KK FE<|ao fun _ FS=>WS fun _ Fd=>rP 2 [] I ?_
  refine RK Fd<|cy U (aX fun J=>?_) (aW fun J=>?_)
  ·refine WS fun _ Fn=>rP 2 [] I ?_
   refine RK Fn<|aq<|LX hQ (false,0,none,0,[]) [] [] I U (by rfl) U U ?_
   (exact ⟨E8,fun _=>⟨rfl,fun q=>by exact J ((q.gH ht (aP D)).2 d (aP hd))⟩⟩)
  refine WK FS<|aw<|rP 2 [] (mc 0 U I) ?_
  refine d_ (xs:=[.tmp 133]) (cs:=(ag.cells (pB r.ak d))) U lu ed U U U U (by simp [Value.cells,ag.a_]) U U fun PP=>?_
  refine dD (es2:=(List.map ag.cells ((ht.take (j+1)).map (gl r.ak)))) (m':=((ht.take (j+1)).map (gl r.ak)).length) 13 U U U Fg U U sm (bo (es:=List.map ag.cells [(pB r.ak d)]) 0 U U (by simp [ag.a_]) U) (kU _) (by simp only [List.length_map,List.length_take]; omega) (by simp only [maxLen,List.length_map,List.length_take]; omega) (by rw [List.take_add_one,hd]; simp [Ks J]) sq U fun J4 J6=>?_
  try dsimp only
  refine bE 1 U<|aH<|aR<|KK FC<|aw<|rP 3 [] I ?_
  refine aH ?_
  have IO:(vI (((j+1):Nat):Int))=(vI ((j:Int)+1)):=by exact cI om
  refine bq (m ⟨((j+1),J4,J6),⟨om,wm G hd J⟩⟩ _ _ _ U os (cY 5<|bw U IO<|dG.nil _) (aQ [2,3,4,5,6,7,8,9,10,11,12,13]))
 refine WK s<|ao fun _ AA=>aI<|ao fun _ V=>ao fun _ K=>dj cj 36 kr<|dP 3 [] (mc 0 U I) ?_
 obtain ⟨y,hy⟩:=aJ r.bj i om
 have In:=bM iC hy
 refine dS (IA i U (aB 5 U) dk dc om om)<|dS (gE i 0 (vI y) U b_ (aB 5 U) In U dc U)<|dS (CL (pb y 0 9999) (aO) U)<|dP 2 [] I ?_
 refine g7 (t:=51) U (aX fun LA=>?_) (aW fun LA=>?_)
 ·refine kE 28 U<|cD<|RK K<|aT U<|WS fun _ w=>rP 2 [] I ?_
  refine RK w<|aq<|LX hQ (false,0,none,0,[]) [] [] I U (by rfl) U U ?_
  (exact ⟨E8,fun _=>⟨rfl,fun q=>by have S:=(q.ids i y hy).1; omega⟩⟩)
 refine dP 3 [] I ?_
 refine jB (t:=54) U (aV fun LE=>?_) (aU fun LE=>?_)
 ·refine dP 18 [] (mc 0 U I) ?_
  obtain ⟨x,hx⟩:=aJ r.cq i om
  have M:=bM iC hx
  refine dS (IA i U (aB 6 U) dk dc om om)<|dS (gE i 0 (vI x) U b_ (aB 6 U) M U dc U)<|kE 2 U<|dS (CL (pb x 0 ((r.bj.length:Int)-1)) (aO) U)<|dP 2 [] I ?_
  refine cD<|RK K<|cy U (aX fun Y=>?_) (aW fun Y=>?_)
  ·refine WS fun _ A5=>rP 2 [] I ?_
   refine RK A5<|aq<|LX hQ (false,0,none,0,[]) [] [] I U (by rfl) U U ?_
   (exact ⟨E8,fun _=>⟨rfl,fun q=>by have S:=q.KP hx; omega⟩⟩)
  refine WK V<|WS fun _ A6=>rP 1 [] I ?_
  refine RK A6<|aI ?_
  have A:(0≤i)∧(∀ (q:Nat) y,q<0→r.cq[q]? =some y→y≠x):=by exact ⟨Nat.zero_le _,fun q y hq=>absurd hq (Nat.not_lt_zero _)⟩
  refine bZ (ι:={z:Nat // (z≤i)∧(∀ (q:Nat) y,q<z→r.cq[q]? =some y→y≠x)}) [1,4,5] [0,1,2,3,4,5,6,7,8] U U (fun z=>[(6,(vI (z.1:Int)))]) (fun z=>[]) (fun _=>rfl) (fun _=>rfl) (fun z=>i-z.1) ⟨0,A⟩ (bu U) (aQ [0,1,2,3,4,5,6,7,8]) ?_
  clear A
  rintro ⟨k,⟨O,B⟩⟩ J34 g
  try dsimp only
  refine ao fun _ A7=>WS fun _ A8=>rP 3 [] I ?_
  refine RK A8<|bW U (aV fun K4=>?_) (aU fun K4=>?_)
  ·refine bS<|ai<|ai<|aL<|aR<|KK AA<|aw<|rP 3 [] I ?_
   refine aH ?_
   have H1:(vI (((i+1):Nat):Int))=(vI ((i:Int)+1)):=by exact cI om
   refine bq (T ⟨(i+1),⟨om,De AB (fun a ha=>by rw [hy] at ha; cases ha; exact ⟨om,fun b hb hc=>by omega⟩) (fun a ha=>by rw [hx] at ha; cases ha; exact ⟨om,fun k b hk hb=>B k b om hb⟩)⟩⟩ _ _ _ rfl os (dG.cons rfl<|dG.cons rfl<|bw rfl H1<|dG.nil _) (aQ [0,1,2,3,4,5,6,7,8]))
  refine WK A7<|ao fun _ A9=>aI<|ao fun _ Bo=>dj cj 11 kr<|dP 3 [] (mc 0 U I) ?_
  obtain ⟨u,hu⟩:=aJ r.cq k om
  have Z:=bM iC hu
  refine dS (IA k U (aB 6 U) dk dc om om)<|dS (gE k 0 (vI u) U b_ (aB 6 U) Z U dc U)<|lz 3 [] (mc 0 U I) U<|dS (IA i U (aB 6 U) dk dc om om)<|dS (gE i 0 (vI x) U b_ (aB 6 U) M U dc U)<|dP 1 [] I ?_
  refine cD<|RK Bo<|bW U (aV fun L=>?_) (aU fun L=>?_)
  ·refine cu<|aR<|KK A9<|aw<|rP 3 [] I ?_
   refine aH ?_
   have Hm:(vI (((k+1):Nat):Int))=(vI ((k:Int)+1)):=by exact cI om
   refine bq (g ⟨(k+1),⟨om,xy B hu L⟩⟩ _ _ _ U os (cY 3<|bw U Hm<|dG.nil _) (aQ [0,1,2,3,4,5,6,7,8]))
  refine WS fun _ B3=>rP 2 [] I ?_
  refine RK B3<|aq<|LX hQ (false,0,none,0,[]) [] [] I U (by rfl) U U ?_
  (exact ⟨E8,fun _=>⟨rfl,fun q=>by have S:=q.num; have q2:=q.Ad; have q3:=q.nh; have q4:=q.Bd; omega⟩⟩)
 refine lz 3 [] (mc 0 U I) U<|dS (IA i U (aB 5 U) dk dc om om)<|dS (gE i 0 (vI y) U b_ (aB 5 U) In U dc U)<|dP 4 [] (mc 0 U I) ?_
 obtain ⟨z,hz⟩:=aJ r.bj (i-1) om
 have Nr:=bM iC hz
 refine dS (IA (i-1) U (aB 5 U) dk dc om om)<|dS (gE (i-1) 0 (vI z) U b_ (aB 5 U) Nr U dc U)<|dP 4 [] I ?_
 refine g7 (t:=69) U (aU fun La=>?_) (aV fun La=>?_)
 ·refine kE 10 U<|cD<|RK K<|aT U<|WS fun _ AC=>rP 2 [] I ?_
  refine RK AC<|aq<|LX hQ (false,0,none,0,[]) [] [] I U (by rfl) U U ?_
  (exact ⟨E8,fun _=>⟨rfl,fun q=>by have S:=(q.ids i y hy).2 z om hz; omega⟩⟩)
 refine dP 3 [] (mc 0 U I) ?_
 obtain ⟨x,hx⟩:=aJ r.cq i om
 have M:=bM iC hx
 refine dS (IA i U (aB 6 U) dk dc om om)<|dS (gE i 0 (vI x) U b_ (aB 6 U) M U dc U)<|kE 2 U<|dS (CL (pb x 0 ((r.bj.length:Int)-1)) (aO) U)<|dP 2 [] I ?_
 refine cD<|RK K<|cy U (aX fun Y=>?_) (aW fun Y=>?_)
 ·refine WS fun _ AO=>rP 2 [] I ?_
  refine RK AO<|aq<|LX hQ (false,0,none,0,[]) [] [] I U (by rfl) U U ?_
  (exact ⟨E8,fun _=>⟨rfl,fun q=>by have S:=q.KP hx; omega⟩⟩)
 refine WK V<|WS fun _ An=>rP 1 [] I ?_
 refine RK An<|aI ?_
 have A:(0≤i)∧(∀ (q:Nat) y,q<0→r.cq[q]? =some y→y≠x):=by exact ⟨Nat.zero_le _,fun q y hq=>absurd hq (Nat.not_lt_zero _)⟩
 refine bZ (ι:={z:Nat // (z≤i)∧(∀ (q:Nat) y,q<z→r.cq[q]? =some y→y≠x)}) [1,4,5] [0,1,2,3,4,5,6,7,8] U U (fun z=>[(6,(vI (z.1:Int)))]) (fun z=>[]) (fun _=>rfl) (fun _=>rfl) (fun z=>i-z.1) ⟨0,A⟩ (bu U) (aQ [0,1,2,3,4,5,6,7,8]) ?_
 clear A
 rintro ⟨k,⟨O,B⟩⟩ J23 f
 try dsimp only
 refine ao fun _ A0=>WS fun _ A1=>rP 3 [] I ?_
 refine RK A1<|bW U (aV fun X=>?_) (aU fun X=>?_)
 ·refine bS<|ai<|ai<|aL<|aR<|KK AA<|aw<|rP 3 [] I ?_
  refine aH ?_
  have Hi:(vI (((i+1):Nat):Int))=(vI ((i:Int)+1)):=by exact cI om
  refine bq (T ⟨(i+1),⟨om,De AB (fun a ha=>by rw [hy] at ha; cases ha; exact ⟨om,fun b hb hc=>by (rw [hz] at hc; cases hc; omega)⟩) (fun a ha=>by rw [hx] at ha; cases ha; exact ⟨om,fun k b hk hb=>B k b om hb⟩)⟩⟩ _ _ _ rfl os (dG.cons rfl<|dG.cons rfl<|bw rfl Hi<|dG.nil _) (aQ [0,1,2,3,4,5,6,7,8]))
 refine WK A0<|ao fun _ A2=>aI<|ao fun _ A3=>dj cj 11 kr<|dP 3 [] (mc 0 U I) ?_
 obtain ⟨u,hu⟩:=aJ r.cq k om
 have Z:=bM iC hu
 refine dS (IA k U (aB 6 U) dk dc om om)<|dS (gE k 0 (vI u) U b_ (aB 6 U) Z U dc U)<|lz 3 [] (mc 0 U I) U<|dS (IA i U (aB 6 U) dk dc om om)<|dS (gE i 0 (vI x) U b_ (aB 6 U) M U dc U)<|dP 1 [] I ?_
 refine cD<|RK A3<|bW U (aV fun L=>?_) (aU fun L=>?_)
 ·refine cu<|aR<|KK A2<|aw<|rP 3 [] I ?_
  refine aH ?_
  have Go:(vI (((k+1):Nat):Int))=(vI ((k:Int)+1)):=by exact cI om
  refine bq (f ⟨(k+1),⟨om,xy B hu L⟩⟩ _ _ _ U os (cY 3<|bw U Go<|dG.nil _) (aQ [0,1,2,3,4,5,6,7,8]))
 refine WS fun _ A4=>rP 2 [] I ?_
 refine RK A4<|aq<|LX hQ (false,0,none,0,[]) [] [] I U (by rfl) U U ?_
 (exact ⟨E8,fun _=>⟨rfl,fun q=>by exact q.Pq om hu hx L⟩⟩)
end
section
open Go.RowKit
theorem GS (r:fu) (kA:OA) (kC:Nat) (az:List RA) (cA:OA) (cC:Nat) (bA:OA) (bC:Nat) (slA:OA) (slC:Nat) (drA:OA) (drC:Nat) (ha:List c_) (heA:OA) (heC:Nat) (hin:lS r az ha):
 pS Tryz.prog 59 [(vA (eX.cells (yX r kA kC cA cC bA bC slA slC drA drC heA heC)))] [(rd kA r.ak.aS.length 9 (r.ak.aS.map ar.cells)),(rd cA r.ak.aj.length 2 (List.zipWith au.cells r.ak.aj az)),(dT (br au.gd r.ak.aj az)),(rd bA r.ak.aa.length 4 (r.ak.aa.map bJ.cells)),(rd slA r.bj.length 1 (r.bj.map iC)),(rd drA r.cq.length 1 (r.cq.map iC)),(rd heA r.aD.length 1 (List.zipWith cL r.aD ha)),(dT (br fj r.aD ha))] (fun (x:Bool×Int×(OA)×Nat×(List RA))=>bif x.1 then (vT [(vS x.2.2.1 ((fU r).length) x.2.2.2.1),(vI 0)]) else (vT [(vS none 0 0),(vI x.2.1)])) (fun (x:Bool×Int×(OA)×Nat×(List RA))=>(x.1=true→(jE r=0∧x.2.2.2.2.length=r.aD.length))∧(x.1=false→(x.2.1=jE r∧ ¬ jE r=0))) (fun (x:Bool×Int×(OA)×Nat×(List RA))=>bif x.1 then [(own x.2.2.1 x.2.2.2.1 190 1 (List.zipWith Mq (fU r) x.2.2.2.2)),(bV (br Fc (fU r) x.2.2.2.2))] else []):=by
 have AA:=hin.line
 have b:=hin.iu
 have c:=hin.has
 have Z:=hin.ir
 have Y:=hin.draw
 have a:=j4 (r:=r)
 refine fB kr Tryz.func59 U U fun f Q hQ hN=>?_
 try dsimp only
 refine WS fun _ O=>eO U fun e=>bE 2 U<|RK O<|ao fun _ P=>WS fun _ R=>bE 1 U<|rS (LP (cr.cells (jC r.ak kA kC cA cC bA bC)) 0 U b_ U U U)<|rS (CL (BM r.ak kA kC az cA cC bA bC asm) (bk [1,2,3,4]) U)<|bE 1 U<|RK R<|WS fun _ S=>rP 2 [] I ?_
 refine RK S<|cy U (aX fun A=>?_) (aW fun A=>?_)
 ·refine WS fun _ T=>rP 3 [] I ?_
  refine RK T<|aq<|LX hQ (false,(dg r.ak),none,0,[]) [] [] I U (by rfl) U U ?_
  exact sJ<|Rg (za A) A
 refine WK P<|WS fun _ G=>rP 1 [] (mc 0 U I) ?_
 refine cX (D9 r kA kC az cA cC bA bC slA slC drA drC ha heA heC hin (by exact A)) (bk [1,2,3,4,5,6,7,8]) U fun d J=>?_
 obtain ⟨K,W,L,M,N⟩:=d
 cases K
 rotate_left 1
 ·obtain ⟨AB,V⟩:=J.1 rfl
  try dsimp only [cond_true,cond_false,List.cons_append,List.nil_append]
  refine bE 5 U<|RK G<|ao fun _ D=>WS fun _ E=>bE 2 U<|RK E<|ct U<|WK D<|WS fun _ F=>rP 3 [] I ?_
  refine RK F<|aq ?_
  refine LX hQ (true,0,L,M,N) [0,1] [] I U (by (show List.all _ _=true; simp only [cond_true,g5,List.all_nil,EL,Bool.and_true]; rfl)) U U ?_
  exact ⟨fun _=>⟨Bl A AB,V⟩,QA⟩
 obtain ⟨H,he⟩:=J.2 rfl
 try dsimp only at H he
 subst H
 try dsimp only [cond_true,cond_false,List.cons_append,List.nil_append]
 refine bE 5 U<|RK G<|ao fun _ X=>WS fun _ B=>bE 2 U<|RK B<|aT U<|WS fun _ C=>rP 2 [] I ?_
 refine RK C<|aq<|LX hQ (false,60,none,0,[]) [] [] I U (by rfl) U U ?_
 exact sJ<|u_ (kI A he)
end
section
open Go.RowKit
theorem G_ (r:fu) (kA:OA) (kC:Nat) (az:List RA) (cA:OA) (cC:Nat) (bA:OA) (bC:Nat) (slA:OA) (slC:Nat) (drA:OA) (drC:Nat) (ha:List c_) (heA:OA) (heC:Nat) (hin:lS r az ha):
 dL Tryz.prog 39 [(vA (eX.cells (yX r kA kC cA cC bA bC slA slC drA drC heA heC)))] [(rd kA r.ak.aS.length 9 (r.ak.aS.map ar.cells)),(rd cA r.ak.aj.length 2 (List.zipWith au.cells r.ak.aj az)),(dT (br au.gd r.ak.aj az)),(rd bA r.ak.aa.length 4 (r.ak.aa.map bJ.cells)),(rd slA r.bj.length 1 (r.bj.map iC)),(rd drA r.cq.length 1 (r.cq.map iC)),(rd heA r.aD.length 1 (List.zipWith cL r.aD ha)),(dT (br fj r.aD ha))] (vI (jE r)):=by
 have H:=hin.line
 have M:=hin.iu
 have N:=hin.has
 have J:=hin.ir
 have AB:=hin.draw
 have K:=j4 (r:=r)
 refine bH kr Tryz.func39 U U fun V Q hQ hN=>?_
 try dsimp only
 refine WS fun _ G=>eO U fun AA=>bE 1 U<|RK G<|WS fun _ C=>rP 1 [] (mc 0 U I) ?_
 refine cX (GS r kA kC az cA cC bA bC slA slC drA drC ha heA heC hin) (bk [1,2,3,4,5,6,7,8]) U fun T E=>?_
 obtain ⟨F,L,P,R,S⟩:=T
 cases F
 rotate_left 1
 ·obtain ⟨he,O⟩:=E.1 rfl
  try dsimp only [cond_true,cond_false,List.cons_append,List.nil_append]
  refine bE 5 U<|RK C<|WS fun _ B=>rP 2 [] I ?_
  refine RK B<|aq<|Q1 hQ U U U ?_
  first|rfl|(rw [he])
 obtain ⟨D,he⟩:=E.2 rfl
 try dsimp only at D he
 subst D
 try dsimp only [cond_true,cond_false,List.cons_append,List.nil_append]
 refine bE 5 U<|RK C<|WS fun _ A=>rP 2 [] I ?_
 refine RK A<|aq<|Q1 hQ U U U ?_
 first|rfl|(rw [he])
end
section
open Go.RowKit
theorem HT (j:cK) (kA:OA) (kC:Nat) (az:List RA) (cA:OA) (cC:Nat) (bA:OA) (bC:Nat) (slA:OA) (slC:Nat) (drA:OA) (drC:Nat) (ha:List c_) (heA:OA) (heC:Nat) (faA:OA) (faC:Nat) (prA:OA) (prC:Nat) (hin:gT j az ha) (hjr:jE j.Race=0):
 dL Tryz.prog 40 [(vA (ep.cells (nu j kA kC cA cC bA bC slA slC drA drC heA heC faA faC prA prC)))] [(rd kA j.Race.ak.aS.length 9 (j.Race.ak.aS.map ar.cells)),(rd cA j.Race.ak.aj.length 2 (List.zipWith au.cells j.Race.ak.aj az)),(dT (br au.gd j.Race.ak.aj az)),(rd bA j.Race.ak.aa.length 4 (j.Race.ak.aa.map bJ.cells)),(rd slA j.Race.bj.length 1 (j.Race.bj.map iC)),(rd drA j.Race.cq.length 1 (j.Race.cq.map iC)),(rd heA j.Race.aD.length 1 (List.zipWith cL j.Race.aD ha)),(dT (br fj j.Race.aD ha)),(rd faA j.aG.length 4 (j.aG.map aK.cells)),(rd prA j.aF.length 5 (j.aF.map aY.cells))] (vB (decide (qj j))):=by
 have n:=hin.race
 have Nr:=hin.race.line
 have Pw:=hin.race.iu
 have Qr:=hin.race.has
 have PN:=hin.race.ir
 have Os:=hin.nf
 have Oy:=hin.np
 have Re:=(eH hjr).1
 have Ik:=(eH hjr).2
 refine bH kr Tryz.func40 U U fun w0 Q hQ hN=>?_
 try dsimp only
 refine WS fun _ L3=>eO U fun b2=>bE 1 U<|RK L3<|ao fun _ M2=>WS fun _ a=>rP 5 [] (mc 0 U I) ?_
 refine bK (t:=12) U (aU fun h5=>?_) (aV fun h5=>?_)
 ·refine bE 17 U<|RK a<|aT U<|WS fun _ M_=>rP 1 [] I ?_
  refine RK M_<|aq<|Q1 hQ U U U ?_
  first|exact cB (bI (fun q=>by have C:=q.nf; have H:=q.min_; have J:=q.tN; have K:=q.np; omega)).symm|exact cB (bI (fun q=>by have C:=q.fault f (aP hf); unfold eA at C; split at C<;>omega)).symm|exact cB (bI (fun q=>by have A:=q.hO _ p hp; have C:=A.id; have H:=A.lx; have J:=A.gH; have K:=A.fault; simp only [ry] at H; first|omega|(have V:=A.up AA om L; omega))).symm|exact cB (bI (fun q=>by obtain ⟨R,G,AB,T⟩:=(q.hO _ p hp).kH; rw [F] at G; cases G; first|exact E AB|exact h148 AB|omega)).symm|exact cB (dN ⟨om,dW D om,om,om,om,fun i p hi=>B i p (by have:=(aZ.1 hi).1; omega) hi⟩).symm
 refine eV 2 [] (mc 0 U I) U<|rS (CL (iY j.ei 0 60) (aO) U)<|rP 3 [] I ?_
 refine bK (t:=18) U (aX fun h7=>?_) (aW fun h7=>?_)
 ·refine bE 11 U<|RK a<|aT U<|WS fun _ NE=>rP 1 [] I ?_
  refine RK NE<|aq<|Q1 hQ U U U ?_
  first|exact cB (bI (fun q=>by have C:=q.nf; have H:=q.min_; have J:=q.tN; have K:=q.np; omega)).symm|exact cB (bI (fun q=>by have C:=q.fault f (aP hf); unfold eA at C; split at C<;>omega)).symm|exact cB (bI (fun q=>by have A:=q.hO _ p hp; have C:=A.id; have H:=A.lx; have J:=A.gH; have K:=A.fault; simp only [ry] at H; first|omega|(have V:=A.up AA om L; omega))).symm|exact cB (bI (fun q=>by obtain ⟨R,G,AB,T⟩:=(q.hO _ p hp).kH; rw [F] at G; cases G; first|exact E AB|exact h148 AB|omega)).symm|exact cB (dN ⟨om,dW D om,om,om,om,fun i p hi=>B i p (by have:=(aZ.1 hi).1; omega) hi⟩).symm
 refine eV 2 [] (mc 0 U I) U<|rS (CL (iY j.wv 0 100000) (aO) U)<|rP 3 [] I ?_
 refine bK (t:=24) U (aX fun h9=>?_) (aW fun h9=>?_)
 ·refine bE 5 U<|RK a<|aT U<|WS fun _ s=>rP 1 [] I ?_
  refine RK s<|aq<|Q1 hQ U U U ?_
  first|exact cB (bI (fun q=>by have C:=q.nf; have H:=q.min_; have J:=q.tN; have K:=q.np; omega)).symm|exact cB (bI (fun q=>by have C:=q.fault f (aP hf); unfold eA at C; split at C<;>omega)).symm|exact cB (bI (fun q=>by have A:=q.hO _ p hp; have C:=A.id; have H:=A.lx; have J:=A.gH; have K:=A.fault; simp only [ry] at H; first|omega|(have V:=A.up AA om L; omega))).symm|exact cB (bI (fun q=>by obtain ⟨R,G,AB,T⟩:=(q.hO _ p hp).kH; rw [F] at G; cases G; first|exact E AB|exact h148 AB|omega)).symm|exact cB (dN ⟨om,dW D om,om,om,om,fun i p hi=>B i p (by have:=(aZ.1 hi).1; omega) hi⟩).symm
 refine rP 5 [] (mc 0 U I) ?_
 refine RK a<|cy U (aU fun Jh=>?_) (aV fun Jh=>?_)
 ·refine WS fun _ u=>rP 1 [] I ?_
  refine RK u<|aq<|Q1 hQ U U U ?_
  first|exact cB (bI (fun q=>by have C:=q.nf; have H:=q.min_; have J:=q.tN; have K:=q.np; omega)).symm|exact cB (bI (fun q=>by have C:=q.fault f (aP hf); unfold eA at C; split at C<;>omega)).symm|exact cB (bI (fun q=>by have A:=q.hO _ p hp; have C:=A.id; have H:=A.lx; have J:=A.gH; have K:=A.fault; simp only [ry] at H; first|omega|(have V:=A.up AA om L; omega))).symm|exact cB (bI (fun q=>by obtain ⟨R,G,AB,T⟩:=(q.hO _ p hp).kH; rw [F] at G; cases G; first|exact E AB|exact h148 AB|omega)).symm|exact cB (dN ⟨om,dW D om,om,om,om,fun i p hi=>B i p (by have:=(aZ.1 hi).1; omega) hi⟩).symm
 refine WK M2<|ao fun _ v=>WS fun _ w=>rP 1 [] I ?_
 refine RK w<|aI ?_
 have S:(0≤j.aG.length)∧(pA j 0):=by exact ⟨Nat.zero_le _,BR⟩
 refine bZ (ι:={z:Nat // (z≤j.aG.length)∧(pA j z)}) [1] [0,1,2,3,4,5,6,7,8,9,10] U U (fun z=>[(3,(vI (z.1:Int)))]) (fun z=>[]) (fun _=>rfl) (fun _=>rfl) (fun z=>j.aG.length-z.1) ⟨0,S⟩ (bu U) (aQ [0,1,2,3,4,5,6,7,8,9,10]) ?_
 clear S
 rintro ⟨i,⟨Ne,D⟩⟩ J15 W
 try dsimp only
 refine ao fun _ x=>WS fun _ y=>rP 5 [] (mc 0 U I) ?_
 refine RK y<|cy U (aU fun J2=>?_) (aV fun J2=>?_)
 ·refine WK x<|ao fun _ X=>aI<|WS fun _ AC=>rP 3 [] (mc 0 U I) ?_
  obtain ⟨f,hf⟩:=aJ j.aG i om
  have NP:=bM aK.cells hf
  refine rS (IA i U (aB 9 U) yQ dc om om)<|rS (lM i 0 (aK.cells f) U b_ (aB 9 U) NP U dc U U)<|AL U PI fun PP=>fJ U SR U<|RK AC<|ao fun _ AO=>WS fun _ c=>eV 4 [] (mc 0 U I) U<|rS (CL (iY f.iN 0 f.To) (aO) U)<|rP 2 [] I ?_
  refine bK (t:=48) U (aX fun J4=>?_) (aW fun J4=>?_)
  ·refine bE 4 U<|RK c<|aT U<|WS fun _ Ad=>rP 1 [] I ?_
   refine RK Ad<|aq<|Q1 hQ U U U ?_
   first|exact cB (bI (fun q=>by have C:=q.nf; have H:=q.min_; have J:=q.tN; have K:=q.np; omega)).symm|exact cB (bI (fun q=>by have C:=q.fault f (aP hf); unfold eA at C; split at C<;>omega)).symm|exact cB (bI (fun q=>by have A:=q.hO _ p hp; have C:=A.id; have H:=A.lx; have J:=A.gH; have K:=A.fault; simp only [ry] at H; first|omega|(have V:=A.up AA om L; omega))).symm|exact cB (bI (fun q=>by obtain ⟨R,G,AB,T⟩:=(q.hO _ p hp).kH; rw [F] at G; cases G; first|exact E AB|exact h148 AB|omega)).symm|exact cB (dN ⟨om,dW D om,om,om,om,fun i p hi=>B i p (by have:=(aZ.1 hi).1; omega) hi⟩).symm
  refine rP 4 [] (mc 0 U I) ?_
  refine RK c<|cy U (aU fun J5=>?_) (aV fun J5=>?_)
  ·refine WS fun _ An=>rP 1 [] I ?_
   refine RK An<|aq<|Q1 hQ U U U ?_
   first|exact cB (bI (fun q=>by have C:=q.nf; have H:=q.min_; have J:=q.tN; have K:=q.np; omega)).symm|exact cB (bI (fun q=>by have C:=q.fault f (aP hf); unfold eA at C; split at C<;>omega)).symm|exact cB (bI (fun q=>by have A:=q.hO _ p hp; have C:=A.id; have H:=A.lx; have J:=A.gH; have K:=A.fault; simp only [ry] at H; first|omega|(have V:=A.up AA om L; omega))).symm|exact cB (bI (fun q=>by obtain ⟨R,G,AB,T⟩:=(q.hO _ p hp).kH; rw [F] at G; cases G; first|exact E AB|exact h148 AB|omega)).symm|exact cB (dN ⟨om,dW D om,om,om,om,fun i p hi=>B i p (by have:=(aZ.1 hi).1; omega) hi⟩).symm
  refine WK AO<|WS fun _ A0=>eV 2 [] (mc 0 U I) U<|RK A0<|aI<|WS fun _ A1=>rS (BI U lZ)<|rP 1 [] I ?_
  refine RK A1<|cy U (aU fun J6=>?_) (aV fun J6=>?_)
  ·refine WS fun _ A2=>rP 3 [] (mc 0 U I) ?_
   refine RK A2<|bW U (aW fun J7=>?_) (aX fun J7=>?_)
   ·refine cu<|aR<|aR<|KK X<|aw<|rP 3 [] I ?_
    refine aH ?_
    have Go:(vI (((i+1):Nat):Int))=(vI ((i:Int)+1)):=by exact cI om
    refine bq (W ⟨(i+1),⟨om,rJ D hf (by refine ⟨om,om,om,?_⟩; split<;>omega)⟩⟩ _ _ _ U os (dG.cons U<|bw U Go<|dG.nil _) (aQ [1,2,3,4,5,6,7,8,9,10,11]))
   refine WS fun _ A3=>rP 1 [] I ?_
   refine RK A3<|aq<|Q1 hQ U U U ?_
   first|exact cB (bI (fun q=>by have C:=q.nf; have H:=q.min_; have J:=q.tN; have K:=q.np; omega)).symm|exact cB (bI (fun q=>by have C:=q.fault f (aP hf); unfold eA at C; split at C<;>omega)).symm|exact cB (bI (fun q=>by have A:=q.hO _ p hp; have C:=A.id; have H:=A.lx; have J:=A.gH; have K:=A.fault; simp only [ry] at H; first|omega|(have V:=A.up AA om L; omega))).symm|exact cB (bI (fun q=>by obtain ⟨R,G,AB,T⟩:=(q.hO _ p hp).kH; rw [F] at G; cases G; first|exact E AB|exact h148 AB|omega)).symm|exact cB (dN ⟨om,dW D om,om,om,om,fun i p hi=>B i p (by have:=(aZ.1 hi).1; omega) hi⟩).symm
  refine ao fun _ e=>WS fun _ A4=>rS (BI U lZ)<|rP 1 [] I ?_
  refine RK A4<|cy U (aU fun J8=>?_) (aV fun J8=>?_)
  ·refine WK e<|bW U (aV fun J9=>?_) (aU fun J9=>?_)
   ·refine WS fun _ A7=>rP 1 [] I ?_
    refine RK A7<|aq<|Q1 hQ U U U ?_
    first|exact cB (bI (fun q=>by have C:=q.nf; have H:=q.min_; have J:=q.tN; have K:=q.np; omega)).symm|exact cB (bI (fun q=>by have C:=q.fault f (aP hf); unfold eA at C; split at C<;>omega)).symm|exact cB (bI (fun q=>by have A:=q.hO _ p hp; have C:=A.id; have H:=A.lx; have J:=A.gH; have K:=A.fault; simp only [ry] at H; first|omega|(have V:=A.up AA om L; omega))).symm|exact cB (bI (fun q=>by obtain ⟨R,G,AB,T⟩:=(q.hO _ p hp).kH; rw [F] at G; cases G; first|exact E AB|exact h148 AB|omega)).symm|exact cB (dN ⟨om,dW D om,om,om,om,fun i p hi=>B i p (by have:=(aZ.1 hi).1; omega) hi⟩).symm
   refine WS fun _ A5=>eV 6 [0,1] (mc 0 U (mc 1 U I)) U<|rS (CL (iY f.de 0 j.Race.ak.bO) (aO) U)<|rP 1 [] I ?_
   refine RK A5<|bW U (aW fun KP=>?_) (aX fun KP=>?_)
   ·refine cu<|aR<|aR<|KK X<|aw<|rP 3 [] I ?_
    refine aH ?_
    have Hi:(vI (((i+1):Nat):Int))=(vI ((i:Int)+1)):=by exact cI om
    refine bq (W ⟨(i+1),⟨om,rJ D hf (by refine ⟨om,om,om,?_⟩; split<;>omega)⟩⟩ _ _ _ U os (dG.cons U<|bw U Hi<|dG.nil _) (aQ [1,2,3,4,5,6,7,8,9,10,11]))
   refine WS fun _ A6=>rP 1 [] I ?_
   refine RK A6<|aq<|Q1 hQ U U U ?_
   first|exact cB (bI (fun q=>by have C:=q.nf; have H:=q.min_; have J:=q.tN; have K:=q.np; omega)).symm|exact cB (bI (fun q=>by have C:=q.fault f (aP hf); unfold eA at C; split at C<;>omega)).symm|exact cB (bI (fun q=>by have A:=q.hO _ p hp; have C:=A.id; have H:=A.lx; have J:=A.gH; have K:=A.fault; simp only [ry] at H; first|omega|(have V:=A.up AA om L; omega))).symm|exact cB (bI (fun q=>by obtain ⟨R,G,AB,T⟩:=(q.hO _ p hp).kH; rw [F] at G; cases G; first|exact E AB|exact h148 AB|omega)).symm|exact cB (dN ⟨om,dW D om,om,om,om,fun i p hi=>B i p (by have:=(aZ.1 hi).1; omega) hi⟩).symm
  refine aw<|rS (BI U lZ)<|rP 1 [] I ?_
  refine RK e<|bW U (aV fun K0=>?_) (aU fun K0=>?_)
  ·refine WS fun _ Bd=>rP 1 [] I ?_
   refine RK Bd<|aq<|Q1 hQ U U U ?_
   first|exact cB (bI (fun q=>by have C:=q.nf; have H:=q.min_; have J:=q.tN; have K:=q.np; omega)).symm|exact cB (bI (fun q=>by have C:=q.fault f (aP hf); unfold eA at C; split at C<;>omega)).symm|exact cB (bI (fun q=>by have A:=q.hO _ p hp; have C:=A.id; have H:=A.lx; have J:=A.gH; have K:=A.fault; simp only [ry] at H; first|omega|(have V:=A.up AA om L; omega))).symm|exact cB (bI (fun q=>by obtain ⟨R,G,AB,T⟩:=(q.hO _ p hp).kH; rw [F] at G; cases G; first|exact E AB|exact h148 AB|omega)).symm|exact cB (dN ⟨om,dW D om,om,om,om,fun i p hi=>B i p (by have:=(aZ.1 hi).1; omega) hi⟩).symm
  refine WS fun _ A8=>eV 6 [0,1] (mc 0 U (mc 1 U I)) U<|rS (CL (iY f.de 0 j.Race.ak.bO) (aO) U)<|rP 1 [] I ?_
  refine RK A8<|bW U (aW fun K4=>?_) (aX fun K4=>?_)
  ·refine cu<|aR<|aR<|KK X<|aw<|rP 3 [] I ?_
   refine aH ?_
   have Hm:(vI (((i+1):Nat):Int))=(vI ((i:Int)+1)):=by exact cI om
   refine bq (W ⟨(i+1),⟨om,rJ D hf (by refine ⟨om,om,om,?_⟩; split<;>omega)⟩⟩ _ _ _ U os (dG.cons U<|bw U Hm<|dG.nil _) (aQ [1,2,3,4,5,6,7,8,9,10,11]))
  refine WS fun _ A9=>rP 1 [] I ?_
  refine RK A9<|aq<|Q1 hQ U U U ?_
  first|exact cB (bI (fun q=>by have C:=q.nf; have H:=q.min_; have J:=q.tN; have K:=q.np; omega)).symm|exact cB (bI (fun q=>by have C:=q.fault f (aP hf); unfold eA at C; split at C<;>omega)).symm|exact cB (bI (fun q=>by have A:=q.hO _ p hp; have C:=A.id; have H:=A.lx; have J:=A.gH; have K:=A.fault; simp only [ry] at H; first|omega|(have V:=A.up AA om L; omega))).symm|exact cB (bI (fun q=>by obtain ⟨R,G,AB,T⟩:=(q.hO _ p hp).kH; rw [F] at G; cases G; first|exact E AB|exact h148 AB|omega)).symm|exact cB (dN ⟨om,dW D om,om,om,om,fun i p hi=>B i p (by have:=(aZ.1 hi).1; omega) hi⟩).symm
 refine bS<|ai<|ai<|aL<|KK v<|ao fun _ Bo=>WS fun _ B3=>rP 1 [] I ?_
 refine RK B3<|aI ?_
 have S:(0≤j.aF.length)∧(oW j 0):=by exact ⟨Nat.zero_le _,xZ⟩
 refine bZ (ι:={z:Nat // (z≤j.aF.length)∧(oW j z)}) [1] [0,1,2,3,4,5,6,7,8,9,10] U U (fun z=>[(5,(vI (z.1:Int)))]) (fun z=>[]) (fun _=>rfl) (fun _=>rfl) (fun z=>j.aF.length-z.1) ⟨0,S⟩ (bu U) (aQ [0,1,2,3,4,5,6,7,8,9,10]) ?_
 clear S
 rintro ⟨k,⟨In,B⟩⟩ J52 b
 try dsimp only
 refine ao fun _ B9=>WS fun _ Ci=>rP 5 [] (mc 0 U I) ?_
 refine RK Ci<|bW U (aV fun K5=>?_) (aU fun K5=>?_)
 ·refine bS<|ai<|ai<|aL<|KK Bo<|WS fun _ Fd=>rP 1 [] I ?_
  refine RK Fd<|aq<|Q1 hQ U U U ?_
  first|exact cB (bI (fun q=>by have C:=q.nf; have H:=q.min_; have J:=q.tN; have K:=q.np; omega)).symm|exact cB (bI (fun q=>by have C:=q.fault f (aP hf); unfold eA at C; split at C<;>omega)).symm|exact cB (bI (fun q=>by have A:=q.hO _ p hp; have C:=A.id; have H:=A.lx; have J:=A.gH; have K:=A.fault; simp only [ry] at H; first|omega|(have V:=A.up AA om L; omega))).symm|exact cB (bI (fun q=>by obtain ⟨R,G,AB,T⟩:=(q.hO _ p hp).kH; rw [F] at G; cases G; first|exact E AB|exact h148 AB|omega)).symm|exact cB (dN ⟨om,dW D om,om,om,om,fun i p hi=>B i p (by have:=(aZ.1 hi).1; omega) hi⟩).symm
 refine WK B9<|ao fun _ g=>aI<|WS fun _ Ck=>rP 3 [] (mc 0 U I) ?_
 obtain ⟨p,hp⟩:=aJ j.aF k om
 have Op:=bM aY.cells hp
 refine rS (IA k U (aB 10 U) Aj dc om om)<|rS (lM k 0 (aY.cells p) U b_ (aB 10 U) Op U dc U U)<|AL U JO fun Pi=>fJ U Pz U<|RK Ck<|ao fun _ h=>ao fun _ P=>dj cj 52 kr<|lz 2 [] (mc 0 U I) U<|dS (CL (iY p.Id 0 9999) (aO) U)<|dP 2 [] I ?_
 refine g7 (t:=87) U (aX fun K8=>?_) (aW fun K8=>?_)
 ·refine kE 47 U<|cD<|RK P<|aT U<|WS fun _ Cp=>rP 1 [] I ?_
  refine RK Cp<|aq<|Q1 hQ U U U ?_
  first|exact cB (bI (fun q=>by have C:=q.nf; have H:=q.min_; have J:=q.tN; have K:=q.np; omega)).symm|exact cB (bI (fun q=>by have C:=q.fault f (aP hf); unfold eA at C; split at C<;>omega)).symm|exact cB (bI (fun q=>by have A:=q.hO _ p hp; have C:=A.id; have H:=A.lx; have J:=A.gH; have K:=A.fault; simp only [ry] at H; omega)).symm|exact cB (bI (fun q=>by obtain ⟨R,G,AB,T⟩:=(q.hO _ p hp).kH; rw [F] at G; cases G; first|exact E AB|exact h148 AB|omega)).symm|exact cB (dN ⟨om,dW D om,om,om,om,fun i p hi=>B i p (by have:=(aZ.1 hi).1; omega) hi⟩).symm
 refine dP 3 [] I ?_
 refine jB (t:=90) U (aV fun LA=>?_) (aU fun LA=>?_)
 ·refine lz 20 [0,1] (mc 0 U (mc 1 U I)) U<|dS (CL (iY p.iK 0 ((j.Race.bj.length:Int)-1)) (aO) U)<|dP 3 [] I ?_
  refine g7 (t:=114) U (aX fun Lk=>?_) (aW fun Lk=>?_)
  ·refine kE 20 U<|cD<|RK P<|aT U<|WS fun _ Du=>rP 1 [] I ?_
   refine RK Du<|aq<|Q1 hQ U U U ?_
   first|exact cB (bI (fun q=>by have C:=q.nf; have H:=q.min_; have J:=q.tN; have K:=q.np; omega)).symm|exact cB (bI (fun q=>by have C:=q.fault f (aP hf); unfold eA at C; split at C<;>omega)).symm|exact cB (bI (fun q=>by have A:=q.hO _ p hp; have C:=A.id; have H:=A.lx; have J:=A.gH; have K:=A.fault; simp only [ry] at H; omega)).symm|exact cB (bI (fun q=>by obtain ⟨R,G,AB,T⟩:=(q.hO _ p hp).kH; rw [F] at G; cases G; first|exact E AB|exact h148 AB|omega)).symm|exact cB (dN ⟨om,dW D om,om,om,om,fun i p hi=>B i p (by have:=(aZ.1 hi).1; omega) hi⟩).symm
  refine lz 7 [0,1] (mc 0 U (mc 1 U I)) U<|dS (CL (iY p.jl 0 ((j.Race.aD.length:Int)-1)) (aO) U)<|dP 3 [] I ?_
  refine g7 (t:=125) U (aX fun Lo=>?_) (aW fun Lo=>?_)
  ·refine kE 9 U<|cD<|RK P<|aT U<|WS fun _ EQ=>rP 1 [] I ?_
   refine RK EQ<|aq<|Q1 hQ U U U ?_
   first|exact cB (bI (fun q=>by have C:=q.nf; have H:=q.min_; have J:=q.tN; have K:=q.np; omega)).symm|exact cB (bI (fun q=>by have C:=q.fault f (aP hf); unfold eA at C; split at C<;>omega)).symm|exact cB (bI (fun q=>by have A:=q.hO _ p hp; have C:=A.id; have H:=A.lx; have J:=A.gH; have K:=A.fault; simp only [ry] at H; omega)).symm|exact cB (bI (fun q=>by obtain ⟨R,G,AB,T⟩:=(q.hO _ p hp).kH; rw [F] at G; cases G; first|exact E AB|exact h148 AB|omega)).symm|exact cB (dN ⟨om,dW D om,om,om,om,fun i p hi=>B i p (by have:=(aZ.1 hi).1; omega) hi⟩).symm
  refine lz 6 [0,1] (mc 0 U (mc 1 U I)) U<|dS (CL (iY p.jy 0 ((j.aG.length:Int)-1)) (aO) U)<|dP 2 [] I ?_
  refine cD<|RK P<|cy U (aX fun L0=>?_) (aW fun L0=>?_)
  ·refine WS fun _ Eq=>rP 1 [] I ?_
   refine RK Eq<|aq<|Q1 hQ U U U ?_
   first|exact cB (bI (fun q=>by have C:=q.nf; have H:=q.min_; have J:=q.tN; have K:=q.np; omega)).symm|exact cB (bI (fun q=>by have C:=q.fault f (aP hf); unfold eA at C; split at C<;>omega)).symm|exact cB (bI (fun q=>by have A:=q.hO _ p hp; have C:=A.id; have H:=A.lx; have J:=A.gH; have K:=A.fault; simp only [ry] at H; omega)).symm|exact cB (bI (fun q=>by obtain ⟨R,G,AB,T⟩:=(q.hO _ p hp).kH; rw [F] at G; cases G; first|exact E AB|exact h148 AB|omega)).symm|exact cB (dN ⟨om,dW D om,om,om,om,fun i p hi=>B i p (by have:=(aZ.1 hi).1; omega) hi⟩).symm
  refine WK h<|ao fun _ FC=>dy cj [11,12] [] [] [0,1,2,3,4,5,6,7,8,9,10,11] [] U U U U U<|eS U (FA 0 U eD U)<|eS U (FA 10 U eD U)<|eS U (L1 (vS heA j.Race.aD.length heC) 1 U b_ U U)<|eS U (FA 2 U eD U)<|eS U (L1 (vI p.jl) 0 U b_ U U) ?_
  obtain ⟨ht,O⟩:=aJ j.Race.aD ((p.jl).toNat) om
  obtain ⟨M,N⟩:=aJ ha ((p.jl).toNat) om
  have Z:(List.zipWith cL j.Race.aD ha)[(p.jl).toNat]? =some (cL ht M):=dF O N
  refine eS U (IA ((p.jl).toNat) U (aB 8 U) oz dc om om) ?_
  have Y:=n.gH _ _ _ O N
  have IR:=Y.nx
  have If:=(Ik.gH ht (aP O)).1
  refine eS U (gE ((p.jl).toNat) 0 (vS M.1.1 ht.length M.1.2) U b_ (aB 8 U) Z U dc U)<|eS U (FA 1 U eD U)<|eS U (L1 (vI p.iK) 0 U b_ U U) ?_
  obtain ⟨d,hd⟩:=aJ ht ((p.iK).toNat) om
  obtain ⟨da,o⟩:=aJ M.2 ((p.iK).toNat) om
  have r:(List.zipWith ax.cells ht M.2)[(p.iK).toNat]? =some (ax.cells d da):=dF hd o
  refine eS U (IA ((p.iK).toNat) U (show iJ _ (rd M.1.1 ht.length 7 (List.zipWith ax.cells ht M.2)).holds from (cU 9 U (bQ O N cx))) rr dc om om) ?_
  have F:=pK (j:=j) (p:=p) O hd
  have Or:=Y.sig d (aP hd)
  refine eS U (lM ((p.iK).toNat) 0 (aM.cells (aM.mk d.Out d.dC d.Time (cb.mk d.bx.Start d.bx.gh (bD.mk da.1 d.bx.ab.length da.2)))) U b_ (show iJ _ (rd M.1.1 ht.length 7 (List.zipWith ax.cells ht M.2)).holds from (cU 9 U (bQ O N cx))) r U dc U U)<|eh U<|cf U fun T88 GR=>AL U AK fun Pl=>aH (GR _ _ (aQ [1,2,3,4,5,6,7,8,9,10,11,12]) ?_)
  refine cf U fun T90 GT=>fJ U Hy U<|aH (GT _ _ (aQ [1,2,3,4,5,6,7,8,9,10,11,12]) ?_)
  refine e8 U<|KK FC<|WS fun _ m=>eV 1 [] (mc 0 U I) U<|rS (CL (FR d.Out d.dC d.Time (cb.mk d.bx.Start d.bx.gh (bD.mk da.1 d.bx.ab.length da.2))) (aO) U)<|rP 2 [] I ?_
  refine bK (t:=149) U (aX fun E=>?_) (aW fun E=>?_)
  ·refine bE 8 U<|RK m<|aT U<|WS fun _ FE=>rP 1 [] I ?_
   refine RK FE<|aq<|Q1 hQ U U U ?_
   first|exact cB (bI (fun q=>by have C:=q.nf; have H:=q.min_; have J:=q.tN; have K:=q.np; omega)).symm|exact cB (bI (fun q=>by have C:=q.fault f (aP hf); unfold eA at C; split at C<;>omega)).symm|exact cB (bI (fun q=>by have A:=q.hO _ p hp; have C:=A.id; have H:=A.lx; have J:=A.gH; have K:=A.fault; simp only [ry] at H; first|omega|(have V:=A.up AA om L; omega))).symm|exact cB (bI (fun q=>by obtain ⟨R,G,AB,T⟩:=(q.hO _ p hp).kH; rw [F] at G; cases G; exact E AB)).symm|exact cB (dN ⟨om,dW D om,om,om,om,fun i p hi=>B i p (by have:=(aZ.1 hi).1; omega) hi⟩).symm
  refine eV 5 [0,1] (mc 1 U (mc 0 U I)) U<|rS (CL (iY p.At d.bx.Start 86400000) (aO) U)<|rP 2 [] I ?_
  refine RK m<|bW U (aW fun L2=>?_) (aX fun L2=>?_)
  ·refine cu<|aR<|KK g<|aw<|rP 3 [] I ?_
   refine aH ?_
   have IO:(vI (((k+1):Nat):Int))=(vI ((k:Int)+1)):=by exact cI om
   refine bq (b ⟨(k+1),⟨om,tp B hp ⟨om,fun q h1 h2=>by omega,by simp only [ry]; omega,om,om,d,F,by first|exact E|exact h148,om⟩⟩⟩ _ _ _ U os (dG.cons U<|bw U IO<|dG.nil _) (aQ [2,3,4,5,6,7,8,9,10,11,12]))
  refine WS fun _ FS=>rP 1 [] I ?_
  refine RK FS<|aq<|Q1 hQ U U U ?_
  first|exact cB (bI (fun q=>by have C:=q.nf; have H:=q.min_; have J:=q.tN; have K:=q.np; omega)).symm|exact cB (bI (fun q=>by have C:=q.fault f (aP hf); unfold eA at C; split at C<;>omega)).symm|exact cB (bI (fun q=>by have A:=q.hO _ p hp; have C:=A.id; have H:=A.lx; have J:=A.gH; have K:=A.fault; simp only [ry] at H; first|omega|(have V:=A.up AA om L; omega))).symm|exact cB (bI (fun q=>by obtain ⟨R,G,AB,T⟩:=(q.hO _ p hp).kH; rw [F] at G; cases G; omega)).symm|exact cB (dN ⟨om,dW D om,om,om,om,fun i p hi=>B i p (by have:=(aZ.1 hi).1; omega) hi⟩).symm
 refine dP 6 [0,1] (mc 0 U (mc 1 U I)) ?_
 obtain ⟨AA,L⟩:=aJ j.aF (k-1) om
 have hp0m:=bM aY.cells L
 refine dS (IA (k-1) U (aB 11 U) Aj dc om om)<|dS (o6 ((k-1)*5) U (aB 11 U) (Nat.mul_pos om dc) eD U)<|dS (gE (k-1) 0 (vI AA.Id) U b_ (aB 11 U) hp0m U dc U)<|dP 4 [] I ?_
 refine g7 (t:=103) U (aU fun LE=>?_) (aV fun LE=>?_)
 ·refine kE 31 U<|cD<|RK P<|aT U<|WS fun _ Cx=>rP 1 [] I ?_
  refine RK Cx<|aq<|Q1 hQ U U U ?_
  first|exact cB (bI (fun q=>by have C:=q.nf; have H:=q.min_; have J:=q.tN; have K:=q.np; omega)).symm|exact cB (bI (fun q=>by have C:=q.fault f (aP hf); unfold eA at C; split at C<;>omega)).symm|exact cB (bI (fun q=>by have A:=q.hO _ p hp; have C:=A.id; have H:=A.lx; have J:=A.gH; have K:=A.fault; simp only [ry] at H; (have V:=A.up AA om L; omega))).symm|exact cB (bI (fun q=>by obtain ⟨R,G,AB,T⟩:=(q.hO _ p hp).kH; rw [F] at G; cases G; first|exact E AB|exact h148 AB|omega)).symm|exact cB (dN ⟨om,dW D om,om,om,om,fun i p hi=>B i p (by have:=(aZ.1 hi).1; omega) hi⟩).symm
 refine lz 7 [0,1] (mc 0 U (mc 1 U I)) U<|dS (CL (iY p.iK 0 ((j.Race.bj.length:Int)-1)) (aO) U)<|dP 3 [] I ?_
 refine g7 (t:=114) U (aX fun LT=>?_) (aW fun LT=>?_)
 ·refine kE 20 U<|cD<|RK P<|aT U<|WS fun _ C0=>rP 1 [] I ?_
  refine RK C0<|aq<|Q1 hQ U U U ?_
  first|exact cB (bI (fun q=>by have C:=q.nf; have H:=q.min_; have J:=q.tN; have K:=q.np; omega)).symm|exact cB (bI (fun q=>by have C:=q.fault f (aP hf); unfold eA at C; split at C<;>omega)).symm|exact cB (bI (fun q=>by have A:=q.hO _ p hp; have C:=A.id; have H:=A.lx; have J:=A.gH; have K:=A.fault; simp only [ry] at H; omega)).symm|exact cB (bI (fun q=>by obtain ⟨R,G,AB,T⟩:=(q.hO _ p hp).kH; rw [F] at G; cases G; first|exact E AB|exact h148 AB|omega)).symm|exact cB (dN ⟨om,dW D om,om,om,om,fun i p hi=>B i p (by have:=(aZ.1 hi).1; omega) hi⟩).symm
 refine lz 7 [0,1] (mc 0 U (mc 1 U I)) U<|dS (CL (iY p.jl 0 ((j.Race.aD.length:Int)-1)) (aO) U)<|dP 3 [] I ?_
 refine g7 (t:=125) U (aX fun La=>?_) (aW fun La=>?_)
 ·refine kE 9 U<|cD<|RK P<|aT U<|WS fun _ C1=>rP 1 [] I ?_
  refine RK C1<|aq<|Q1 hQ U U U ?_
  first|exact cB (bI (fun q=>by have C:=q.nf; have H:=q.min_; have J:=q.tN; have K:=q.np; omega)).symm|exact cB (bI (fun q=>by have C:=q.fault f (aP hf); unfold eA at C; split at C<;>omega)).symm|exact cB (bI (fun q=>by have A:=q.hO _ p hp; have C:=A.id; have H:=A.lx; have J:=A.gH; have K:=A.fault; simp only [ry] at H; omega)).symm|exact cB (bI (fun q=>by obtain ⟨R,G,AB,T⟩:=(q.hO _ p hp).kH; rw [F] at G; cases G; first|exact E AB|exact h148 AB|omega)).symm|exact cB (dN ⟨om,dW D om,om,om,om,fun i p hi=>B i p (by have:=(aZ.1 hi).1; omega) hi⟩).symm
 refine lz 6 [0,1] (mc 0 U (mc 1 U I)) U<|dS (CL (iY p.jy 0 ((j.aG.length:Int)-1)) (aO) U)<|dP 2 [] I ?_
 refine cD<|RK P<|cy U (aX fun Lh=>?_) (aW fun Lh=>?_)
 ·refine WS fun _ C2=>rP 1 [] I ?_
  refine RK C2<|aq<|Q1 hQ U U U ?_
  first|exact cB (bI (fun q=>by have C:=q.nf; have H:=q.min_; have J:=q.tN; have K:=q.np; omega)).symm|exact cB (bI (fun q=>by have C:=q.fault f (aP hf); unfold eA at C; split at C<;>omega)).symm|exact cB (bI (fun q=>by have A:=q.hO _ p hp; have C:=A.id; have H:=A.lx; have J:=A.gH; have K:=A.fault; simp only [ry] at H; omega)).symm|exact cB (bI (fun q=>by obtain ⟨R,G,AB,T⟩:=(q.hO _ p hp).kH; rw [F] at G; cases G; first|exact E AB|exact h148 AB|omega)).symm|exact cB (dN ⟨om,dW D om,om,om,om,fun i p hi=>B i p (by have:=(aZ.1 hi).1; omega) hi⟩).symm
 refine WK h<|ao fun _ C3=>dy cj [11,12] [] [] [0,1,2,3,4,5,6,7,8,9,10,11] [] U U U U U<|eS U (FA 0 U eD U)<|eS U (FA 10 U eD U)<|eS U (L1 (vS heA j.Race.aD.length heC) 1 U b_ U U)<|eS U (FA 2 U eD U)<|eS U (L1 (vI p.jl) 0 U b_ U U) ?_
 obtain ⟨ht,O⟩:=aJ j.Race.aD ((p.jl).toNat) om
 obtain ⟨M,N⟩:=aJ ha ((p.jl).toNat) om
 have Z:(List.zipWith cL j.Race.aD ha)[(p.jl).toNat]? =some (cL ht M):=dF O N
 refine eS U (IA ((p.jl).toNat) U (aB 8 U) oz dc om om) ?_
 have Y:=n.gH _ _ _ O N
 have IR:=Y.nx
 have If:=(Ik.gH ht (aP O)).1
 refine eS U (gE ((p.jl).toNat) 0 (vS M.1.1 ht.length M.1.2) U b_ (aB 8 U) Z U dc U)<|eS U (FA 1 U eD U)<|eS U (L1 (vI p.iK) 0 U b_ U U) ?_
 obtain ⟨d,hd⟩:=aJ ht ((p.iK).toNat) om
 obtain ⟨da,o⟩:=aJ M.2 ((p.iK).toNat) om
 have r:(List.zipWith ax.cells ht M.2)[(p.iK).toNat]? =some (ax.cells d da):=dF hd o
 refine eS U (IA ((p.iK).toNat) U (show iJ _ (rd M.1.1 ht.length 7 (List.zipWith ax.cells ht M.2)).holds from (cU 9 U (bQ O N cx))) rr dc om om) ?_
 have F:=pK (j:=j) (p:=p) O hd
 have Or:=Y.sig d (aP hd)
 refine eS U (lM ((p.iK).toNat) 0 (aM.cells (aM.mk d.Out d.dC d.Time (cb.mk d.bx.Start d.bx.gh (bD.mk da.1 d.bx.ab.length da.2)))) U b_ (show iJ _ (rd M.1.1 ht.length 7 (List.zipWith ax.cells ht M.2)).holds from (cU 9 U (bQ O N cx))) r U dc U U)<|eh U<|cf U fun T73 Fn=>AL U AK fun Pj=>aH (Fn _ _ (aQ [1,2,3,4,5,6,7,8,9,10,11,12]) ?_)
 refine cf U fun T75 GE=>fJ U Hy U<|aH (GE _ _ (aQ [1,2,3,4,5,6,7,8,9,10,11,12]) ?_)
 refine e8 U<|KK C3<|WS fun _ l=>eV 1 [] (mc 0 U I) U<|rS (CL (FR d.Out d.dC d.Time (cb.mk d.bx.Start d.bx.gh (bD.mk da.1 d.bx.ab.length da.2))) (aO) U)<|rP 2 [] I ?_
 refine bK (t:=149) U (aX fun E=>?_) (aW fun E=>?_)
 ·refine bE 8 U<|RK l<|aT U<|WS fun _ Di=>rP 1 [] I ?_
  refine RK Di<|aq<|Q1 hQ U U U ?_
  first|exact cB (bI (fun q=>by have C:=q.nf; have H:=q.min_; have J:=q.tN; have K:=q.np; omega)).symm|exact cB (bI (fun q=>by have C:=q.fault f (aP hf); unfold eA at C; split at C<;>omega)).symm|exact cB (bI (fun q=>by have A:=q.hO _ p hp; have C:=A.id; have H:=A.lx; have J:=A.gH; have K:=A.fault; simp only [ry] at H; first|omega|(have V:=A.up AA om L; omega))).symm|exact cB (bI (fun q=>by obtain ⟨R,G,AB,T⟩:=(q.hO _ p hp).kH; rw [F] at G; cases G; exact E AB)).symm|exact cB (dN ⟨om,dW D om,om,om,om,fun i p hi=>B i p (by have:=(aZ.1 hi).1; omega) hi⟩).symm
 refine eV 5 [0,1] (mc 1 U (mc 0 U I)) U<|rS (CL (iY p.At d.bx.Start 86400000) (aO) U)<|rP 2 [] I ?_
 refine RK l<|bW U (aW fun Li=>?_) (aX fun Li=>?_)
 ·refine cu<|aR<|KK g<|aw<|rP 3 [] I ?_
  refine aH ?_
  have H1:(vI (((k+1):Nat):Int))=(vI ((k:Int)+1)):=by exact cI om
  refine bq (b ⟨(k+1),⟨om,tp B hp ⟨om,fun q h1 h2=>by (rw [L] at h2; cases h2; omega),by simp only [ry]; omega,om,om,d,F,by first|exact E|exact h148,om⟩⟩⟩ _ _ _ rfl os (dG.cons rfl<|bw rfl H1<|dG.nil _) (aQ [2,3,4,5,6,7,8,9,10,11,12]))
 refine WS fun _ Do=>rP 1 [] I ?_
 refine RK Do<|aq<|Q1 hQ U U U ?_
 first|exact cB (bI (fun q=>by have C:=q.nf; have H:=q.min_; have J:=q.tN; have K:=q.np; omega)).symm|exact cB (bI (fun q=>by have C:=q.fault f (aP hf); unfold eA at C; split at C<;>omega)).symm|exact cB (bI (fun q=>by have A:=q.hO _ p hp; have C:=A.id; have H:=A.lx; have J:=A.gH; have K:=A.fault; simp only [ry] at H; first|omega|(have V:=A.up AA om L; omega))).symm|exact cB (bI (fun q=>by obtain ⟨R,G,AB,T⟩:=(q.hO _ p hp).kH; rw [F] at G; cases G; omega)).symm|exact cB (dN ⟨om,dW D om,om,om,om,fun i p hi=>B i p (by have:=(aZ.1 hi).1; omega) hi⟩).symm
end
section
open Go.RowKit
theorem CC (j:cK) (kA:OA) (kC:Nat) (az:List RA) (cA:OA) (cC:Nat) (bA:OA) (bC:Nat) (slA:OA) (slC:Nat) (drA:OA) (drC:Nat) (ha:List c_) (heA:OA) (heC:Nat) (faA:OA) (faC:Nat) (prA:OA) (prC:Nat) (hin:gT j az ha):
 dL Tryz.prog 21 [(vA (ep.cells (nu j kA kC cA cC bA bC slA slC drA drC heA heC faA faC prA prC)))] [(rd kA j.Race.ak.aS.length 9 (j.Race.ak.aS.map ar.cells)),(rd cA j.Race.ak.aj.length 2 (List.zipWith au.cells j.Race.ak.aj az)),(dT (br au.gd j.Race.ak.aj az)),(rd bA j.Race.ak.aa.length 4 (j.Race.ak.aa.map bJ.cells)),(rd slA j.Race.bj.length 1 (j.Race.bj.map iC)),(rd drA j.Race.cq.length 1 (j.Race.cq.map iC)),(rd heA j.Race.aD.length 1 (List.zipWith cL j.Race.aD ha)),(dT (br fj j.Race.aD ha)),(rd faA j.aG.length 4 (j.aG.map aK.cells)),(rd prA j.aF.length 5 (j.aF.map aY.cells))] (vI (ej j)):=by
 have O:=hin.race
 have L:=hin.race.line
 have R:=hin.race.iu
 have S:=hin.race.has
 have P:=hin.race.ir
 have M:=hin.nf
 have N:=hin.np
 refine bH kr Tryz.func21 U U fun AA Q hQ hN=>?_
 try dsimp only
 refine WS fun _ D=>eO U fun T=>bE 1 U<|RK D<|ao fun _ E=>WS fun _ F=>bE 1 U<|rS (LP (eX.cells (yX j.Race kA kC cA cC bA bC slA slC drA drC heA heC)) 0 U b_ U U U)<|rS (CL (G_ j.Race kA kC az cA cC bA bC slA slC drA drC ha heA heC asm) (bk [1,2,3,4,5,6,7,8]) U)<|bE 1 U<|RK F<|WS fun _ G=>rP 2 [] I ?_
 refine RK G<|cy U (aX fun C=>?_) (aW fun C=>?_)
 ·refine WS fun _ H=>rP 2 [] I ?_
  refine RK H<|aq<|Q1 hQ U U U ?_
  exact cI (zy C).symm
 refine WK E<|ao fun _ AB=>WS fun _ J=>eV 1 [] (mc 0 U I) U<|rS (CL (HT j kA kC az cA cC bA bC slA slC drA drC ha heA heC faA faC prA prC hin asm) (bk [1,2,3,4,5,6,7,8,9,10]) U)<|rP 1 [] I ?_
 refine RK J<|cy U (aX fun A=>?_) (aW fun A=>?_)
 ·refine WS fun _ K=>rP 1 [] I ?_
  refine RK K<|aq<|Q1 hQ U U U ?_
  exact cI (jF C A).symm
 refine WK AB<|WS fun _ B=>rP 1 [] I ?_
 refine RK B<|aq<|Q1 hQ U U U ?_
 exact cI (xQ C A).symm
end
section
open Go.RowKit
theorem qc (x y:Int):
 dL Tryz.prog 34 [(vI x),(vI y)] [] (vA (ag.cells (ag.mk x y))):=by
 refine bH kr Tryz.func34 U U fun D Q hQ hN=>?_
 try dsimp only
 refine WS fun _ A=>AL U ed fun C=>RK A<|WS fun _ B=>rP 2 [] I ?_
 refine rS (SX (bf (xs:=[(0,.tmp 5),(1,.tmp 6)]) (cs:=(ag.cells (ag.mk x y))) U U (bg gO U)) U U)<|fJ U cW U<|RK B<|aq ?_
 exact Dn hQ [0] (mc 0 U I) U U
theorem q8 (x y:Int):
 dL Tryz.prog 35 [(vI x),(vI y)] [] (vA (aM.cells (aM.mk false true (ag.mk x y) (cb.mk 0 0 (bD.mk none 0 0))))):=by
 refine bH kr Tryz.func35 U U fun D Q hQ hN=>?_
 try dsimp only
 refine WS fun _ A=>AL U AK fun C=>RK A<|WS fun _ B=>rP 2 [] I ?_
 refine rS (CL (qc x y) (aO) U)<|rS (SX (bf (xs:=[(1,.const (vB true)),(2,.tmp 7)]) (cs:=(aM.cells (aM.mk false true (ag.mk x y) (cb.mk 0 0 (bD.mk none 0 0))))) U U (bg PE U)) U U)<|fJ U Hy U<|RK B<|aq ?_
 exact Dn hQ [0] (mc 0 U I) U U
theorem Cu (j:cK) (kA:OA) (kC:Nat) (az:List RA) (cA:OA) (cC:Nat) (bA:OA) (bC:Nat) (slA:OA) (slC:Nat) (drA:OA) (drC:Nat) (ha:List c_) (heA:OA) (heC:Nat) (faA:OA) (faC:Nat) (prA:OA) (prC:Nat) (hraw:oN j az ha):
 dL Tryz.prog 5 [(vA (ep.cells (nu j kA kC cA cC bA bC slA slC drA drC heA heC faA faC prA prC)))] [(rd kA j.Race.ak.aS.length 9 (j.Race.ak.aS.map ar.cells)),(rd cA j.Race.ak.aj.length 2 (List.zipWith au.cells j.Race.ak.aj az)),(dT (br au.gd j.Race.ak.aj az)),(rd bA j.Race.ak.aa.length 4 (j.Race.ak.aa.map bJ.cells)),(rd slA j.Race.bj.length 1 (j.Race.bj.map iC)),(rd drA j.Race.cq.length 1 (j.Race.cq.map iC)),(rd heA j.Race.aD.length 1 (List.zipWith cL j.Race.aD ha)),(dT (br fj j.Race.aD ha)),(rd faA j.aG.length 4 (j.aG.map aK.cells)),(rd prA j.aF.length 5 (j.aF.map aY.cells))] (vB (decide (¬ nc j∧ej j=0))):=by
 refine bH kr Tryz.func5 U U fun F Q hQ hN=>?_
 try dsimp only
 refine WS fun _ C=>eO U fun E=>bE 1 U<|RK C<|WS fun _ A=>eV 1 [] (mc 0 U I) U<|rS (CL (JW j kA kC az cA cC bA bC slA slC drA drC ha heA heC faA faC prA prC hraw) (bk [1,2,3,4,5,6,7,8,9,10]) U)<|rP 2 [] I ?_
 refine bU (t:=6) U (aW fun B=>?_) (aX fun B=>?_)
 ·refine bE 1 U<|rP 4 [] I ?_
  refine RK A<|aq<|Q1 hQ U U U ?_
  exact cB (bI fun q=>q.1 B).symm
 refine rP 1 [] (mc 0 U I) ?_
 have D:=hraw.small B
 refine rS (CL (CC j kA kC az cA cC bA bC slA slC drA drC ha heA heC faA faC prA prC asm) (bk [1,2,3,4,5,6,7,8,9,10]) U)<|rP 3 [] I ?_
 refine RK A<|aq<|Q1 hQ U U U ?_
 exact cB (gR.2 ⟨fun q=>⟨B,q⟩,fun q=>q.2⟩)
theorem Am (la:List Int) (laA:OA) (laC:Nat) (n:Int) (hlen:la.length≤1000000):
 dL Tryz.prog 11 [(vS laA la.length laC),(vI n)] [(rd laA la.length 1 (la.map iC))] (vB (decide (n∈la))):=by
 refine bH kr Tryz.func11 U U fun T Q hQ hN=>?_
 try dsimp only
 refine WS fun _ AA=>bE 1 U<|RK AA<|ao fun _ J=>WS fun _ K=>rP 3 [] I ?_
 refine RK K<|aI ?_
 have B:(0≤la.length)∧(n ∉ la.take 0):=by exact ⟨Nat.zero_le _,sm⟩
 refine bZ (ι:={z:Nat // (z≤la.length)∧(n ∉ la.take z)}) [1,7,8] [0] U U (fun z=>[(9,(vI (z.1:Int)))]) (fun z=>[]) (fun _=>rfl) (fun _=>rfl) (fun z=>la.length-z.1) ⟨0,B⟩ (bu U) (aQ [0]) ?_
 clear B
 rintro ⟨i,⟨P,A⟩⟩ J4 H
 try dsimp only
 refine WS fun _ L=>rP 1 [] I ?_
 refine RK L<|ao fun _ M=>bW U (aV fun S=>?_) (aU fun S=>?_)
 ·refine bS<|ai<|ai<|aL<|KK J<|WS fun _ F=>rP 1 [] I ?_
  refine RK F<|aq<|Q1 hQ U U U ?_
  exact cB (bI (by rw [List.take_of_length_le om] at A; exact A)).symm
 refine WK M<|ao fun _ N=>aI<|WS fun _ O=>?_
 obtain ⟨x,hx⟩:=aJ la i om
 have R:=bM iC hx
 refine rS (IA i U (aB 0 U) dk dc om om)<|rS (gE i 0 (vI x) U b_ (aB 0 U) R U dc U)<|bE 1 U<|RK O<|WS fun _ D=>rP 3 [] I ?_
 refine RK D<|cy U (aU fun C=>?_) (aV fun C=>?_)
 ·refine WS fun _ E=>rP 1 [] I ?_
  refine RK E<|aq<|Q1 hQ U U U ?_
  exact cB (dN (by rw [← C]; exact aP hx)).symm
 refine cu<|aR<|KK N<|aw<|rP 2 [] I ?_
 refine aH ?_
 have G:(vI (((i+1):Nat):Int))=(vI ((i:Int)+1)):=by exact cI om
 refine bq (H ⟨(i+1),⟨om,fun q=>by rw [xd hx] at q; rcases gu.1 q with q|q; exact A q; exact C (cv.1 q).symm⟩⟩ _ _ _ rfl os (cY 3<|bw rfl G<|dG.nil _) (aQ [0]))
end
section
open Go.RowKit
theorem sS:
 pS Tryz.prog 13 [] [] (fun (x:(OA)×Nat×(OA)×Nat×(List RA)×(OA)×Nat×(OA)×Nat×(OA)×Nat×(OA)×Nat×(List c_)×(OA)×Nat×(OA)×Nat)=>(vA (ep.cells (ep.mk (eX.mk (cr.mk (bP.mk (bD.mk x.1 eo.Race.ak.aS.length x.2.1)) eo.Race.ak.hZ (bD.mk x.2.2.1 eo.Race.ak.aj.length x.2.2.2.1) (bD.mk x.2.2.2.2.2.1 eo.Race.ak.aa.length x.2.2.2.2.2.2.1) eo.Race.ak.bO eo.Race.ak.fO eo.Race.ak.dq) (bD.mk x.2.2.2.2.2.2.2.1 eo.Race.bj.length x.2.2.2.2.2.2.2.2.1) (bD.mk x.2.2.2.2.2.2.2.2.2.1 eo.Race.cq.length x.2.2.2.2.2.2.2.2.2.2.1) eo.Race.kM (bD.mk x.2.2.2.2.2.2.2.2.2.2.2.1 eo.Race.aD.length x.2.2.2.2.2.2.2.2.2.2.2.2.1)) (bD.mk x.2.2.2.2.2.2.2.2.2.2.2.2.2.2.1 eo.aG.length x.2.2.2.2.2.2.2.2.2.2.2.2.2.2.2.1) (bD.mk x.2.2.2.2.2.2.2.2.2.2.2.2.2.2.2.2.1 eo.aF.length x.2.2.2.2.2.2.2.2.2.2.2.2.2.2.2.2.2) eo.ei eo.wv)))) (fun (x:(OA)×Nat×(OA)×Nat×(List RA)×(OA)×Nat×(OA)×Nat×(OA)×Nat×(OA)×Nat×(List c_)×(OA)×Nat×(OA)×Nat)=>gT eo x.2.2.2.2.1 x.2.2.2.2.2.2.2.2.2.2.2.2.2.1∧x.2.2.2.2.1.length=eo.Race.ak.aj.length∧xe eo.Race.aD x.2.2.2.2.2.2.2.2.2.2.2.2.2.1) (fun (x:(OA)×Nat×(OA)×Nat×(List RA)×(OA)×Nat×(OA)×Nat×(OA)×Nat×(OA)×Nat×(List c_)×(OA)×Nat×(OA)×Nat)=>[(own x.1 x.2.1 102 9 (eo.Race.ak.aS.map ar.cells)),(own x.2.2.1 x.2.2.2.1 107 2 (List.zipWith au.cells eo.Race.ak.aj x.2.2.2.2.1)),(bV (br au.owns eo.Race.ak.aj x.2.2.2.2.1)),(own x.2.2.2.2.2.1 x.2.2.2.2.2.2.1 85 4 (eo.Race.ak.aa.map bJ.cells)),(own x.2.2.2.2.2.2.2.1 x.2.2.2.2.2.2.2.2.1 3 1 (eo.Race.bj.map iC)),(own x.2.2.2.2.2.2.2.2.2.1 x.2.2.2.2.2.2.2.2.2.2.1 3 1 (eo.Race.cq.map iC)),(own x.2.2.2.2.2.2.2.2.2.2.2.1 x.2.2.2.2.2.2.2.2.2.2.2.2.1 51 1 (List.zipWith cL eo.Race.aD x.2.2.2.2.2.2.2.2.2.2.2.2.2.1)),(bV (br qG eo.Race.aD x.2.2.2.2.2.2.2.2.2.2.2.2.2.1)),(own x.2.2.2.2.2.2.2.2.2.2.2.2.2.2.1 x.2.2.2.2.2.2.2.2.2.2.2.2.2.2.2.1 54 4 (eo.aG.map aK.cells)),(own x.2.2.2.2.2.2.2.2.2.2.2.2.2.2.2.2.1 x.2.2.2.2.2.2.2.2.2.2.2.2.2.2.2.2.2 56 5 (eo.aF.map aY.cells))]):=by
 refine fB kr Tryz.func13 U U fun V Q hQ hN=>?_
 try dsimp only
 refine WS fun _ P=>AL U Qk fun T=>RK P<|WS fun _ R=>rS (CL (qc 10000 10200) (aO) U)<|rS (SX (bf (xs:=[(0,.const (vI 1)),(1,.tmp 3)]) (cs:=(ar.cells (ar.mk 1 (ag.mk 10000 10200) (ag.mk 0 0) (ag.mk 0 0) 0 0))) U U (bg Tk U)) U U)<|d_ (xs:=[.tmp 4]) (cs:=(ar.cells (ar.mk 1 (ag.mk 10000 10200) (ag.mk 0 0) (ag.mk 0 0) 0 0))) U yO E5 U U U U (by simp [Value.cells,ar.a_]) U U fun E=>rS (SX (bf (xs:=[(0,.tmp 5)]) (cs:=(bP.cells (bP.mk (bD.mk (some ⟨E,0,none⟩) 1 1)))) U U (bg Th U)) U U)<|rS (CL (qc 0 2) (aO) U)<|rS (SX (bf (xs:=[(0,.const (vI 0)),(1,.tmp 7)]) (cs:=(cM.cells (cM.mk 0 (ag.mk 0 2)))) U U (bg O8 U)) U U)<|rS (CL (qc 5 6) (aO) U)<|rS (SX (bf (xs:=[(0,.const (vI 100000)),(1,.tmp 9)]) (cs:=(cM.cells (cM.mk 100000 (ag.mk 5 6)))) U U (bg O8 U)) U U)<|d_ (xs:=[.tmp 8,.tmp 10]) (cs:=((cM.cells (cM.mk 0 (ag.mk 0 2)))++(cM.cells (cM.mk 100000 (ag.mk 5 6))))) U rY s_ U U U U (by simp [Value.cells,cM.a_]) U U fun J=>rS (SX (bf (xs:=[(0,.const (vI 100)),(1,.tmp 11)]) (cs:=(dx.cells (dx.mk 100 (bD.mk (some ⟨J,0,none⟩) 2 2)))) U U (bg RH U)) U U)<|d_ (xs:=[.tmp 12]) (cs:=(dx.cells (dx.mk 100 (bD.mk (some ⟨J,0,none⟩) 2 2)))) U yV JR U U U U (by simp [Value.cells,dx.a_]) U U fun L=>rS (CL (qc 1000 1000) (aO) U)<|rS (SX (bf (xs:=[(1,.tmp 14)]) (cs:=(cH.cells (cH.mk 0 (ag.mk 1000 1000)))) U U (bg Qu U)) U U)<|rS (SX (bf (xs:=[(0,.tmp 15)]) (cs:=(bJ.cells (bJ.mk (cH.mk 0 (ag.mk 1000 1000)) 0))) U U (bg Qq U)) U U)<|rS (CL (qc 4000 4000) (aO) U)<|rS (SX (bf (xs:=[(1,.tmp 17)]) (cs:=(cH.cells (cH.mk 0 (ag.mk 4000 4000)))) U U (bg Qu U)) U U)<|rS (SX (bf (xs:=[(0,.tmp 18)]) (cs:=(bJ.cells (bJ.mk (cH.mk 0 (ag.mk 4000 4000)) 0))) U U (bg Qq U)) U U)<|rS (CL (qc 9000 9000) (aO) U)<|rS (SX (bf (xs:=[(1,.tmp 20)]) (cs:=(cH.cells (cH.mk 0 (ag.mk 9000 9000)))) U U (bg Qu U)) U U)<|rS (SX (bf (xs:=[(0,.tmp 21)]) (cs:=(bJ.cells (bJ.mk (cH.mk 0 (ag.mk 9000 9000)) 0))) U U (bg Qq U)) U U)<|d_ (xs:=[.tmp 16,.tmp 19,.tmp 22]) (cs:=((bJ.cells (bJ.mk (cH.mk 0 (ag.mk 1000 1000)) 0))++(bJ.cells (bJ.mk (cH.mk 0 (ag.mk 4000 4000)) 0))++(bJ.cells (bJ.mk (cH.mk 0 (ag.mk 9000 9000)) 0)))) U uR UP U U U U (by simp [Value.cells,bJ.a_]) U U fun M=>rS (SX (bf (xs:=[(0,.tmp 6),(1,.const (vI 2000)),(4,.const (vI 1)),(5,.const (vI 1)),(6,.const (vI 1)),(2,.tmp 13),(3,.tmp 23)]) (cs:=(cr.cells (cr.mk (bP.mk (bD.mk (some ⟨E,0,none⟩) 1 1)) 2000 (bD.mk (some ⟨L,0,none⟩) 1 1) (bD.mk (some ⟨M,0,none⟩) 3 3) 1 1 1))) U U (bg U2 U)) U U)<|AL U Td fun AA=>?_
 refine fH (es:=(eo.Race.ak.aS.map ar.cells)) (C':=[_,_,_,_,(own (some ⟨E,0,none⟩) 1 102 9 (eo.Race.ak.aS.map ar.cells)),_]) 4 U (kT ar.a_ _) U (by show _≤maxLen; exact Nat.le_trans (m:=10) (show (1:Nat)≤10 by decide) dc) U ?_
 refine fH (es:=(yU.bG.map cM.cells)) (C':=[_,_,_,(own (some ⟨J,0,none⟩) 2 104 3 (yU.bG.map cM.cells)),_,_]) 3 U (kT cM.a_ _) U (by show _≤maxLen; exact Nat.le_trans (m:=10) (show (2:Nat)≤10 by decide) dc) U ?_
 refine fH (es:=(List.zipWith au.cells eo.Race.ak.aj [((some ⟨J,0,none⟩),2)])) (C':=[_,_,(own (some ⟨L,0,none⟩) 1 107 2 (List.zipWith au.cells eo.Race.ak.aj [((some ⟨J,0,none⟩),2)])),_,_,_]) 2 U (by intro x hx; change x∈[au.cells yU ((some ⟨J,0,none⟩),2)] at hx; rw [cv.1 hx]; rfl) U (by show _≤maxLen; exact Nat.le_trans (m:=10) (show (1:Nat)≤10 by decide) dc) U ?_
 refine fH (es:=(eo.Race.ak.aa.map bJ.cells)) (C':=[_,(own (some ⟨M,0,none⟩) 3 85 4 (eo.Race.ak.aa.map bJ.cells)),_,_,_,_]) 1 U (kT bJ.a_ _) U (by show _≤maxLen; exact Nat.le_trans (m:=10) (show (3:Nat)≤10 by decide) dc) U ?_
 refine ye<|OW (X:=[]) (X':=br au.owns eo.Race.ak.aj [((some ⟨J,0,none⟩),2)]) 0 4 rfl rfl rfl<|qT rfl P4 rfl<|RK R<|WS fun _ S=>rS (SX (bf (xs:=[(0,.const (vI 0)),(1,.const (vI 10600))]) (cs:=(aA.cells (aA.mk 0 10600))) rfl rfl (bg Et rfl)) rfl rfl)<|rS (SX (bf (xs:=[(0,.const (vI 0)),(1,.const (vI 11000))]) (cs:=(aA.cells (aA.mk 0 11000))) rfl rfl (bg Et rfl)) rfl rfl)<|rS (SX (bf (xs:=[(0,.const (vI 1)),(1,.const (vI 12600))]) (cs:=(aA.cells (aA.mk 1 12600))) rfl rfl (bg Et rfl)) rfl rfl)<|d_ (xs:=[.tmp 25,.tmp 26,.tmp 27]) (cs:=((aA.cells (aA.mk 0 10600))++(aA.cells (aA.mk 0 11000))++(aA.cells (aA.mk 1 12600)))) rfl wL Cf rfl rfl rfl rfl (by simp [Value.cells,aA.a_]) rfl rfl fun A=>rS (SX (bf (xs:=[(0,.const (vI 10000)),(1,.const (vI 20000)),(2,.tmp 28)]) (cs:=(cb.cells (cb.mk 10000 20000 (bD.mk (some ⟨A,0,none⟩) 3 3)))) rfl rfl (bg We rfl)) rfl rfl)<|AL rfl Lr fun N=>fH (es:=(l7.ab.map aA.cells)) (C':=[_,(own (some ⟨A,0,none⟩) 3 87 2 (l7.ab.map aA.cells)),_,_,_,_,_,_]) 1 rfl (kT aA.a_ _) rfl dc rfl<|fJ rfl CM rfl<|RK S<|ao fun _ O=>LL (L':=[(0,(vP T)),(1,(vP AA)),(2,(vP N)),(3,(vA (ag.cells (ag.mk 10000 10200)))),(4,(vA (ar.cells (ar.mk 1 (ag.mk 10000 10200) (ag.mk 0 0) (ag.mk 0 0) 0 0)))),(5,(vS (some ⟨E,0,none⟩) 1 1)),(6,(vA (bP.cells (bP.mk (bD.mk (some ⟨E,0,none⟩) 1 1))))),(7,(vA (ag.cells (ag.mk 0 2)))),(8,(vA (cM.cells (cM.mk 0 (ag.mk 0 2))))),(9,(vA (ag.cells (ag.mk 5 6)))),(10,(vA (cM.cells (cM.mk 100000 (ag.mk 5 6))))),(11,(vS (some ⟨J,0,none⟩) 2 2)),(12,(vA (dx.cells (dx.mk 100 (bD.mk (some ⟨J,0,none⟩) 2 2))))),(13,(vS (some ⟨L,0,none⟩) 1 1)),(14,(vA (ag.cells (ag.mk 1000 1000)))),(15,(vA (cH.cells (cH.mk 0 (ag.mk 1000 1000))))),(16,(vA (bJ.cells (bJ.mk (cH.mk 0 (ag.mk 1000 1000)) 0)))),(17,(vA (ag.cells (ag.mk 4000 4000)))),(18,(vA (cH.cells (cH.mk 0 (ag.mk 4000 4000))))),(19,(vA (bJ.cells (bJ.mk (cH.mk 0 (ag.mk 4000 4000)) 0)))),(20,(vA (ag.cells (ag.mk 9000 9000)))),(21,(vA (cH.cells (cH.mk 0 (ag.mk 9000 9000))))),(22,(vA (bJ.cells (bJ.mk (cH.mk 0 (ag.mk 9000 9000)) 0)))),(23,(vS (some ⟨M,0,none⟩) 3 3)),(24,(vA (cr.cells (cr.mk (bP.mk (bD.mk (some ⟨E,0,none⟩) 1 1)) 2000 (bD.mk (some ⟨L,0,none⟩) 1 1) (bD.mk (some ⟨M,0,none⟩) 3 3) 1 1 1)))),(25,(vA (aA.cells (aA.mk 0 10600)))),(26,(vA (aA.cells (aA.mk 0 11000)))),(27,(vA (aA.cells (aA.mk 1 12600)))),(28,(vS (some ⟨A,0,none⟩) 3 3)),(29,(vA (cb.cells (cb.mk 10000 20000 (bD.mk (some ⟨A,0,none⟩) 3 3)))))]) rfl<|lT cj [0,3,4,5,6,8,9,10,14,15,16,17,19,20,21] [7,11,12,1,2,13,18,22,23,24] [false,false,false,false,false,false,false,false,false,false,false,false,false,false,false] [] [(cp N 43 (cb.cells (cb.mk 10000 20000 (bD.mk (some ⟨A,0,none⟩) 3 3)))),(own (some ⟨A,0,none⟩) 3 87 2 (l7.ab.map aA.cells)),(bV (br au.owns eo.Race.ak.aj [((some ⟨J,0,none⟩),2)])),(cp AA 28 (cr.cells (cr.mk (bP.mk (bD.mk (some ⟨E,0,none⟩) 1 1)) 2000 (bD.mk (some ⟨L,0,none⟩) 1 1) (bD.mk (some ⟨M,0,none⟩) 3 3) 1 1 1))),(own (some ⟨M,0,none⟩) 3 85 4 (eo.Race.ak.aa.map bJ.cells)),(own (some ⟨L,0,none⟩) 1 107 2 (List.zipWith au.cells eo.Race.ak.aj [((some ⟨J,0,none⟩),2)])),(own (some ⟨E,0,none⟩) 1 102 9 (eo.Race.ak.aS.map ar.cells))] [] kr (aQ [0,1,2,3,4,5,6]) (aQ [])<|eS rfl (LW 3 rfl b_ rfl rfl)<|eS rfl (LW 0 rfl b_ rfl rfl)<|eS rfl (SX (bf (xs:=[(3,.tmp 33)]) (cs:=(aM.cells (aM.mk false false (ag.mk 0 0) (cb.mk 10000 20000 (bD.mk (some ⟨A,0,none⟩) 3 3))))) rfl rfl (bg PE rfl)) rfl rfl)<|eS rfl (CL (q8 2600 2600) (aO) rfl)<|eS rfl (CL (q8 2580 2609) (aO) rfl)<|eS rfl (CL (q8 2555 2559) (aO) rfl)<|eS rfl (CL (q8 2540 2549) (aO) rfl)<|eS rfl (CL (q8 2570 2575) (aO) rfl)<|eS rfl (SX (bf (xs:=[(0,.const (Value.int .u8 1)),(2,.const (vI 12600)),(3,.const (vI 13000))]) (cs:=(aK.cells (aK.mk 1 0 12600 13000))) rfl rfl (bg Me rfl)) rfl rfl)<|eS rfl (SX (bf (xs:=[(0,.const (Value.int .u8 2)),(1,.const (vI 1)),(2,.const (vI 11003)),(3,.const (vI 11100))]) (cs:=(aK.cells (aK.mk 2 1 11003 11100))) rfl rfl (bg Me rfl)) rfl rfl)<|eS rfl (SX (bf (xs:=[(0,.const (Value.int .u8 3)),(2,.const (vI 10700)),(3,.const (vI 10900))]) (cs:=(aK.cells (aK.mk 3 0 10700 10900))) rfl rfl (bg Me rfl)) rfl rfl)<|eS rfl (SX (bf (xs:=[(0,.const (Value.int .u8 1)),(2,.const (vI 13000)),(3,.const (vI 14000))]) (cs:=(aK.cells (aK.mk 1 0 13000 14000))) rfl rfl (bg Me rfl)) rfl rfl)<|eS rfl (SX (bf (xs:=[(0,.const (vI 2)),(3,.const (vI 0)),(4,.const (vI 72596))]) (cs:=(aY.cells (aY.mk 2 0 0 0 72596))) rfl rfl (bg Og rfl)) rfl rfl)<|eS rfl (SX (bf (xs:=[(0,.const (vI 5)),(3,.const (vI 1)),(4,.const (vI 72603))]) (cs:=(aY.cells (aY.mk 5 0 0 1 72603))) rfl rfl (bg Og rfl)) rfl rfl)<|eS rfl (SX (bf (xs:=[(0,.const (vI 6)),(3,.const (vI 3)),(4,.const (vI 20000))]) (cs:=(aY.cells (aY.mk 6 0 0 3 20000))) rfl rfl (bg Og rfl)) rfl rfl)<|eh rfl<|FY [.take 7,.take 11,.op 12,.take 1,.take 2,.op 13,.take 18,.take 22,.op 23,.op 24] [(34,(vA (aM.cells (aM.mk false false (ag.mk 0 0) (cb.mk 10000 20000 (bD.mk (some ⟨A,0,none⟩) 3 3)))))),(35,(vA (aM.cells (aM.mk false true (ag.mk 2600 2600) (cb.mk 0 0 (bD.mk none 0 0)))))),(36,(vA (aM.cells (aM.mk false true (ag.mk 2580 2609) (cb.mk 0 0 (bD.mk none 0 0)))))),(38,(vA (aM.cells (aM.mk false true (ag.mk 2555 2559) (cb.mk 0 0 (bD.mk none 0 0)))))),(39,(vA (aM.cells (aM.mk false true (ag.mk 2540 2549) (cb.mk 0 0 (bD.mk none 0 0)))))),(40,(vA (aM.cells (aM.mk false true (ag.mk 2570 2575) (cb.mk 0 0 (bD.mk none 0 0)))))),(44,(vA (aK.cells (aK.mk 1 0 12600 13000)))),(45,(vA (aK.cells (aK.mk 2 1 11003 11100)))),(46,(vA (aK.cells (aK.mk 3 0 10700 10900)))),(47,(vA (aK.cells (aK.mk 1 0 13000 14000)))),(49,(vA (aY.cells (aY.mk 2 0 0 0 72596)))),(50,(vA (aY.cells (aY.mk 5 0 0 1 72603)))),(51,(vA (aY.cells (aY.mk 6 0 0 3 20000))))] (fun i=>match i with |7=>37|11=>41|1=>31|2=>32|18=>48|22=>52|_=>0) (fun i b=>match i with |7=> .slice (some ⟨b,0,none⟩) 3 3|11=> .slice (some ⟨b,0,none⟩) 3 3|1=> .slice (some ⟨b,0,none⟩) 3 3|2=> .slice (some ⟨b,0,none⟩) 3 3|18=> .slice (some ⟨b,0,none⟩) 4 4|22=> .slice (some ⟨b,0,none⟩) 3 3|_=>undef) (fun i b=>match i with |7=>cp b 50 ((aM.cells (aM.mk false false (ag.mk 0 0) (cb.mk 10000 20000 (bD.mk (some ⟨A,0,none⟩) 3 3))))++(aM.cells (aM.mk false true (ag.mk 2600 2600) (cb.mk 0 0 (bD.mk none 0 0))))++(aM.cells (aM.mk false true (ag.mk 2580 2609) (cb.mk 0 0 (bD.mk none 0 0)))))|11=>cp b 50 ((aM.cells (aM.mk false true (ag.mk 2555 2559) (cb.mk 0 0 (bD.mk none 0 0))))++(aM.cells (aM.mk false true (ag.mk 2540 2549) (cb.mk 0 0 (bD.mk none 0 0))))++(aM.cells (aM.mk false true (ag.mk 2570 2575) (cb.mk 0 0 (bD.mk none 0 0)))))|1=>cp b 3 [(vI 4),(vI 7),(vI 9)]|2=>cp b 3 [(vI 2),(vI 0),(vI 1)]|18=>cp b 54 ((aK.cells (aK.mk 1 0 12600 13000))++(aK.cells (aK.mk 2 1 11003 11100))++(aK.cells (aK.mk 3 0 10700 10900))++(aK.cells (aK.mk 1 0 13000 14000)))|22=>cp b 56 ((aY.cells (aY.mk 2 0 0 0 72596))++(aY.cells (aY.mk 5 0 0 1 72603))++(aY.cells (aY.mk 6 0 0 3 20000)))|_=>cp b 0 []) rfl rfl rfl kr rfl rfl (aQ [0,1,2,3,4,5,6]) (iH (wh (xs:=[.tmp 34,.tmp 35,.tmp 36]) (cs:=((aM.cells (aM.mk false false (ag.mk 0 0) (cb.mk 10000 20000 (bD.mk (some ⟨A,0,none⟩) 3 3))))++(aM.cells (aM.mk false true (ag.mk 2600 2600) (cb.mk 0 0 (bD.mk none 0 0))))++(aM.cells (aM.mk false true (ag.mk 2580 2609) (cb.mk 0 0 (bD.mk none 0 0)))))) rfl rr AK rfl rfl rfl rfl (by simp [Value.cells,aM.a_]) rfl rfl rfl (fun _=>rfl) fun _=>rfl)<|iH (wh (xs:=[.tmp 38,.tmp 39,.tmp 40]) (cs:=((aM.cells (aM.mk false true (ag.mk 2555 2559) (cb.mk 0 0 (bD.mk none 0 0))))++(aM.cells (aM.mk false true (ag.mk 2540 2549) (cb.mk 0 0 (bD.mk none 0 0))))++(aM.cells (aM.mk false true (ag.mk 2570 2575) (cb.mk 0 0 (bD.mk none 0 0)))))) rfl rr AK rfl rfl rfl rfl (by simp [Value.cells,aM.a_]) rfl rfl rfl (fun _=>rfl) fun _=>rfl)<|mM<|iH (wh (xs:=[.const (vI 4),.const (vI 7),.const (vI 9)]) (cs:=[(vI 4),(vI 7),(vI 9)]) rfl dk jO rfl rfl rfl rfl (by simp [Value.cells]) rfl rfl rfl (fun _=>rfl) fun _=>rfl)<|iH (wh (xs:=[.const (vI 2),.const (vI 0),.const (vI 1)]) (cs:=[(vI 2),(vI 0),(vI 1)]) rfl dk jO rfl rfl rfl rfl (by simp [Value.cells]) rfl rfl rfl (fun _=>rfl) fun _=>rfl)<|mM<|iH (wh (xs:=[.tmp 44,.tmp 45,.tmp 46,.tmp 47]) (cs:=((aK.cells (aK.mk 1 0 12600 13000))++(aK.cells (aK.mk 2 1 11003 11100))++(aK.cells (aK.mk 3 0 10700 10900))++(aK.cells (aK.mk 1 0 13000 14000)))) rfl yQ PI rfl rfl rfl rfl (by simp [Value.cells,aK.a_]) rfl rfl rfl (fun _=>rfl) fun _=>rfl)<|iH (wh (xs:=[.tmp 49,.tmp 50,.tmp 51]) (cs:=((aY.cells (aY.mk 2 0 0 0 72596))++(aY.cells (aY.mk 5 0 0 1 72603))++(aY.cells (aY.mk 6 0 0 3 20000)))) rfl Aj JO rfl rfl rfl rfl (by simp [Value.cells,aY.a_]) rfl rfl rfl (fun _=>rfl) fun _=>rfl)<|mM<|mM<|Aq) ?_
 intro F
 try dsimp only
 intro G
 try dsimp only
 refine rI U fun Y X K hT=>d_ (xs:=[.tmp 37,.tmp 41]) (cs:=[(vS (some ⟨F,0,none⟩) 3 3),(vS (some ⟨G,0,none⟩) 3 3)]) U oz Tz U U U U (by simp [Value.cells]) U U fun B=>oa hT 48 11 U U (fun w hs=>St.j0 [3,4,5,6,7,8,9] U U hs) U U ?_
 try dsimp only [List.take]
 intro C
 try dsimp only
 intro D
 try dsimp only
 refine rI U fun Y X K hT=>rS (SX (bf (xs:=[(0,.tmp 30),(1,.tmp 31),(2,.tmp 32),(3,.const (vI 2)),(4,.tmp 42)]) (cs:=(eX.cells (eX.mk (cr.mk (bP.mk (bD.mk (some ⟨E,0,none⟩) 1 1)) 2000 (bD.mk (some ⟨L,0,none⟩) 1 1) (bD.mk (some ⟨M,0,none⟩) 3 3) 1 1 1) (bD.mk (some ⟨C,0,none⟩) 3 3) (bD.mk (some ⟨D,0,none⟩) 3 3) 2 (bD.mk (some ⟨B,0,none⟩) 2 2)))) U U (bg Wd U)) U U)<|oa hT 51 13 U U (fun w hs=>St.j0 [5,6,7,8,9,10,11] U U hs) U U ?_
 try dsimp only [List.take]
 intro H
 try dsimp only
 intro AB
 try dsimp only
 refine rI U fun Y X K hT=>rS (SX (bf (xs:=[(0,.tmp 43),(1,.tmp 48),(2,.tmp 52),(3,.const (vI 1)),(4,.const (vI 500))]) (cs:=(ep.cells (ep.mk (eX.mk (cr.mk (bP.mk (bD.mk (some ⟨E,0,none⟩) 1 1)) 2000 (bD.mk (some ⟨L,0,none⟩) 1 1) (bD.mk (some ⟨M,0,none⟩) 3 3) 1 1 1) (bD.mk (some ⟨C,0,none⟩) 3 3) (bD.mk (some ⟨D,0,none⟩) 3 3) 2 (bD.mk (some ⟨B,0,none⟩) 2 2)) (bD.mk (some ⟨H,0,none⟩) 4 4) (bD.mk (some ⟨AB,0,none⟩) 3 3) 1 500))) U U (bg Wi U)) U U)<|oa hT 54 15 U U (fun w hs=>St.j0 [7,8,9,10,11,12,13] U U hs) U U ?_
 try dsimp only [List.take]
 refine rI U fun Y X K hT=>il (vs:=(ep.cells (ep.mk (eX.mk (cr.mk (bP.mk (bD.mk (some ⟨E,0,none⟩) 1 1)) 2000 (bD.mk (some ⟨L,0,none⟩) 1 1) (bD.mk (some ⟨M,0,none⟩) 3 3) 1 1 1) (bD.mk (some ⟨C,0,none⟩) 3 3) (bD.mk (some ⟨D,0,none⟩) 3 3) 2 (bD.mk (some ⟨B,0,none⟩) 2 2)) (bD.mk (some ⟨H,0,none⟩) 4 4) (bD.mk (some ⟨AB,0,none⟩) 3 3) 1 500))) (cs':=(ep.cells (ep.mk (eX.mk (cr.mk (bP.mk (bD.mk (some ⟨E,0,none⟩) 1 1)) 2000 (bD.mk (some ⟨L,0,none⟩) 1 1) (bD.mk (some ⟨M,0,none⟩) 3 3) 1 1 1) (bD.mk (some ⟨C,0,none⟩) 3 3) (bD.mk (some ⟨D,0,none⟩) 3 3) 2 (bD.mk (some ⟨B,0,none⟩) 2 2)) (bD.mk (some ⟨H,0,none⟩) 4 4) (bD.mk (some ⟨AB,0,none⟩) 3 3) 1 500))) (C':=[_,_,_,_,_,_,_,_,_,_,_,_,_,_,(cp T 36 (ep.cells (ep.mk (eX.mk (cr.mk (bP.mk (bD.mk (some ⟨E,0,none⟩) 1 1)) 2000 (bD.mk (some ⟨L,0,none⟩) 1 1) (bD.mk (some ⟨M,0,none⟩) 3 3) 1 1 1) (bD.mk (some ⟨C,0,none⟩) 3 3) (bD.mk (some ⟨D,0,none⟩) 3 3) 2 (bD.mk (some ⟨B,0,none⟩) 2 2)) (bD.mk (some ⟨H,0,none⟩) 4 4) (bD.mk (some ⟨AB,0,none⟩) 3 3) 1 500)))]++X) 14 U U U Qm U U U U U U U<|oa hT 54 15 U U (fun w hs=>St.j0 [7,8,9,10,11,12,13] U U hs) U U ?_
 try dsimp only [List.take]
 refine KK O ?_
 refine iQ (es:=(eo.Race.bj.map iC)) (C':=[_,_,_,(own (some ⟨C,0,none⟩) 3 3 1 (eo.Race.bj.map iC)),_,_,_,_,_,_,_,_,_,_,_]) 3 U (kT bL _) U (by show _≤maxLen; exact Nat.le_trans (m:=10) (show (3:Nat)≤10 by decide) dc) U ?_
 refine iQ (es:=(eo.Race.cq.map iC)) (C':=[_,_,(own (some ⟨D,0,none⟩) 3 3 1 (eo.Race.cq.map iC)),_,_,_,_,_,_,_,_,_,_,_,_]) 2 U (kT bL _) U (by show _≤maxLen; exact Nat.le_trans (m:=10) (show (3:Nat)≤10 by decide) dc) U ?_
 refine iQ (es:=(eo.aG.map aK.cells)) (C':=[_,(own (some ⟨H,0,none⟩) 4 54 4 (eo.aG.map aK.cells)),_,_,_,_,_,_,_,_,_,_,_,_,_]) 1 U (kT aK.a_ _) U (by show _≤maxLen; exact Nat.le_trans (m:=10) (show (4:Nat)≤10 by decide) dc) U ?_
 refine iQ (es:=(eo.aF.map aY.cells)) (C':=[(own (some ⟨AB,0,none⟩) 3 56 5 (eo.aF.map aY.cells)),_,_,_,_,_,_,_,_,_,_,_,_,_,_]) 0 U (kT aY.a_ _) U (by show _≤maxLen; exact Nat.le_trans (m:=10) (show (3:Nat)≤10 by decide) dc) U ?_
 refine iQ (es:=(List.zipWith ax.cells Km [((some ⟨A,0,none⟩),3),(none,0),(none,0)])) (C':=[_,_,_,_,_,_,(own (some ⟨F,0,none⟩) 3 50 7 (List.zipWith ax.cells Km [((some ⟨A,0,none⟩),3),(none,0),(none,0)])),_,_,_,_,_,_,_,_]) 6 U (oi AF) U (by show _≤maxLen; exact Nat.le_trans (m:=10) (show (3:Nat)≤10 by decide) dc) U ?_
 refine iQ (es:=(List.zipWith ax.cells So [(none,0),(none,0),(none,0)])) (C':=[_,_,_,_,_,(own (some ⟨G,0,none⟩) 3 50 7 (List.zipWith ax.cells So [(none,0),(none,0),(none,0)])),_,_,_,_,_,_,_,_,_]) 5 U (oi AF) U (by show _≤maxLen; exact Nat.le_trans (m:=10) (show (3:Nat)≤10 by decide) dc) U ?_
 refine iQ (es:=(List.zipWith cL eo.Race.aD [(((some ⟨F,0,none⟩),3),[((some ⟨A,0,none⟩),3),(none,0),(none,0)]),(((some ⟨G,0,none⟩),3),[(none,0),(none,0),(none,0)])])) (C':=[_,_,_,_,(own (some ⟨B,0,none⟩) 2 51 1 (List.zipWith cL eo.Race.aD [(((some ⟨F,0,none⟩),3),[((some ⟨A,0,none⟩),3),(none,0),(none,0)]),(((some ⟨G,0,none⟩),3),[(none,0),(none,0),(none,0)])])),_,_,_,_,_,_,_,_,_,_]) 4 U (oi Dg) U (by show _≤maxLen; exact Nat.le_trans (m:=10) (show (2:Nat)≤10 by decide) dc) U ?_
 refine eK 87 2<|eK 87 2<|eK 87 2<|eK 87 2<|eK 87 2<|zN (br qG eo.Race.aD [(((some ⟨F,0,none⟩),3),[((some ⟨A,0,none⟩),3),(none,0),(none,0)]),(((some ⟨G,0,none⟩),3),[(none,0),(none,0),(none,0)])]) [11,13,0,1,10,2,3,4] [5,6,7,8,9,12,14,15,16,17,18,19] U U<|aq ?_
 refine LX hQ ((some ⟨E,0,none⟩),1,(some ⟨L,0,none⟩),1,[((some ⟨J,0,none⟩),2)],(some ⟨M,0,none⟩),3,(some ⟨C,0,none⟩),3,(some ⟨D,0,none⟩),3,(some ⟨B,0,none⟩),2,[(((some ⟨F,0,none⟩),3),[((some ⟨A,0,none⟩),3),(none,0),(none,0)]),(((some ⟨G,0,none⟩),3),[(none,0),(none,0),(none,0)])],(some ⟨H,0,none⟩),4,(some ⟨AB,0,none⟩),3) [11,10,7,9,4,3,5,0,2,1] [0] (mc 12 U I) U (by show List.all _ _=true; simp only [g5,List.all_nil,nA,yH,Bool.and_true]; rfl) U U ?_
 exact ⟨P8 (SP 1 dc) Jk,U,Jk⟩
end
section
open Go.RowKit
theorem z6 (G:List (List Int)) (H:List (List Int)) (gz:List RA) (gA:OA) (gC:Nat) (hz:List RA) (hA:OA) (hC:Nat) (h1:G.length≤1000000) (h2:H.length≤1000000) (h3: ∀ l∈G,l.length≤1000000) (h4: ∀ l∈H,l.length≤1000000) (hgz:gz.length=G.length) (hhz:hz.length=H.length):
 dL Tryz.prog 19 [(vS gA G.length gC),(vS hA H.length hC)] [(rd gA G.length 1 (List.zipWith uP G gz)),(dT (br L7 G gz)),(rd hA H.length 1 (List.zipWith uP H hz)),(dT (br L7 H hz))] (vB (decide (G=H))):=by
 refine bH kr Tryz.func19 U U fun Z Q hQ hN=>?_
 try dsimp only
 refine WS fun _ N=>bE 1 U<|RK N<|ao fun _ O=>WS fun _ P=>rP 5 [] I ?_
 refine RK P<|cy U (aX fun hl=>?_) (aW fun hl=>?_)
 ·refine WS fun _ R=>rP 1 [] I ?_
  refine RK R<|aq<|Q1 hQ U U U ?_
  exact cB (bI (fun e=>by subst e; omega)).symm
 refine WK O<|ao fun _ S=>WS fun _ T=>rP 1 [] I ?_
 refine RK T<|aI ?_
 have A:(0≤G.length)∧(G.take 0=H.take 0):=by exact ⟨Nat.zero_le _,rfl⟩
 refine bZ (ι:={z:Nat // (z≤G.length)∧(G.take z=H.take z)}) [0,1] [0,1,2,3] U U (fun z=>[(5,(vI (z.1:Int)))]) (fun z=>[]) (fun _=>rfl) (fun _=>rfl) (fun z=>G.length-z.1) ⟨0,A⟩ (bu U) (aQ [0,1,2,3]) ?_
 clear A
 rintro ⟨i,⟨W,B⟩⟩ J7 M
 try dsimp only
 refine ao fun _ AA=>WS fun _ V=>rP 4 [] I ?_
 refine RK V<|bW U (aV fun L=>?_) (aU fun L=>?_)
 ·refine bS<|ai<|ai<|aL<|KK S<|WS fun _ F=>rP 1 [] I ?_
  refine RK F<|aq<|Q1 hQ U U U ?_
  exact cB (dN (yC om B om)).symm
 refine WK AA<|ao fun _ C=>aI<|ao fun _ D=>dj cj 10 kr<|dP 2 [] I ?_
 obtain ⟨x,hx⟩:=aJ G i om
 obtain ⟨xa,J⟩:=aJ gz i om
 have X:(List.zipWith uP G gz)[i]? =some (uP x xa):=dF hx J
 refine dS (IA i U (aB 0 U) BX dc om om)<|dS (gE i 0 (vS xa.1 x.length xa.2) U b_ (aB 0 U) X U dc U)<|dP 2 [] I ?_
 obtain ⟨y,hy⟩:=aJ H i om
 obtain ⟨ya,K⟩:=aJ hz i om
 have Y:(List.zipWith uP H hz)[i]? =some (uP y ya):=dF hy K
 refine dS (IA i U (aB 2 U) BX dc om om)<|dS (gE i 0 (vS ya.1 y.length ya.2) U b_ (aB 2 U) Y U dc U)<|dS (CL (BK x xa.1 xa.2 y ya.1 ya.2 (by exact h3 x (aP hx)) (by exact h4 y (aP hy))) (aC (show iJ _ (rd xa.1 x.length 1 (x.map iC)).holds from (cU 1 U (bQ hx J (by simp [L7]))))<|aC (show iJ _ (rd ya.1 y.length 1 (y.map iC)).holds from (cU 3 U (bQ hy K (by simp [L7]))))<|aO) U)<|dP 1 [] I ?_
 refine cD<|RK D<|cy U (aX fun h=>?_) (aW fun h=>?_)
 ·refine WS fun _ E=>rP 1 [] I ?_
  refine RK E<|aq<|Q1 hQ U U U ?_
  exact cB (bI (xA hx hy h)).symm
 refine cu<|aR<|KK C<|aw<|rP 3 [] I ?_
 refine aH ?_
 have AB:(vI (((i+1):Nat):Int))=(vI ((i:Int)+1)):=by exact cI om
 refine bq (M ⟨(i+1),⟨om,vl B hx hy h⟩⟩ _ _ _ U os (dG.cons U<|dG.cons U<|bw U AB<|dG.nil _) (aQ [0,1,2,3]))
theorem yE (fq sq x:Int):
 dL Tryz.prog 16 [(vI fq),(vI sq),(Value.int .u8 x)] [(rd gU 3 2 fW)] (vB (decide (m7 eo fq 0 sq=0∧lG eo fq 0 sq=x))):=by
 refine bH kr Tryz.func16 U U fun c Q hQ hN=>?_
 try dsimp only
 refine WS fun _ X=>rP 1 [] I ?_
 refine RK X<|WS fun _ Y=>cX sS (aO) U fun b a=>?_
 obtain ⟨S,V,T,W,AA,C,G,D,H,E,AB,F,J,O,K,L,P,R⟩:=b
 try dsimp only
 obtain ⟨N,Z,M⟩:=a
 refine bE 2 U<|rS (CL (FL eo S V AA T W C G D H E AB O F J K L P R fq 0 sq (by exact N)) (gJ 10 U U<|aC (av (n:=eo.Race.ak.aS.length) 0 U sm)<|aC (av (n:=eo.Race.ak.aj.length) 1 U (jm Z))<|aC (eT 2 U kJ)<|aC (av (n:=eo.Race.ak.aa.length) 3 U sm)<|aC (av (n:=eo.Race.bj.length) 4 U sm)<|aC (av (n:=eo.Race.cq.length) 5 U sm)<|aC (av (n:=eo.Race.aD.length) 6 U (ig M.1))<|aC (jM 7 U M)<|aC (av (n:=eo.aG.length) 8 U sm)<|aC (av (n:=eo.aF.length) 9 U sm)<|aO) U)<|bE 5 U<|RK Y<|WS fun _ A=>rP 3 [] I ?_
 refine bU (t:=18) U (aV fun B=>?_) (aU fun B=>?_)
 ·refine rP 5 [] I ?_
  refine RK A<|aq<|Q1 hQ U U U ?_
  exact cB (bI fun q=>B q.1).symm
 refine bE 2 U<|rS (BI U lZ)<|rP 2 [] I ?_
 refine RK A<|aq<|Q1 hQ U U U ?_
 exact cB (gR.2 ⟨fun q=>⟨B,q⟩,fun q=>q.2⟩)
theorem FK (iq x:Int):
 dL Tryz.prog 17 [(vI iq),(Value.int .u8 x)] [(rd gU 3 2 fW)] (vB (decide (tf eo iq=0∧qF eo iq=x))):=by
 refine bH kr Tryz.func17 U U fun c Q hQ hN=>?_
 try dsimp only
 refine WS fun _ X=>rP 1 [] I ?_
 refine RK X<|WS fun _ Y=>cX sS (aO) U fun b a=>?_
 obtain ⟨S,V,T,W,AA,C,G,D,H,E,AB,F,J,O,K,L,P,R⟩:=b
 try dsimp only
 obtain ⟨N,Z,M⟩:=a
 refine bE 1 U<|rS (CL (I1 eo S V AA T W C G D H E AB O F J K L P R iq (by exact N)) (gJ 10 U U<|aC (av (n:=eo.Race.ak.aS.length) 0 U sm)<|aC (av (n:=eo.Race.ak.aj.length) 1 U (jm Z))<|aC (eT 2 U kJ)<|aC (av (n:=eo.Race.ak.aa.length) 3 U sm)<|aC (av (n:=eo.Race.bj.length) 4 U sm)<|aC (av (n:=eo.Race.cq.length) 5 U sm)<|aC (av (n:=eo.Race.aD.length) 6 U (ig M.1))<|aC (jM 7 U M)<|aC (av (n:=eo.aG.length) 8 U sm)<|aC (av (n:=eo.aF.length) 9 U sm)<|aO) U)<|bE 5 U<|RK Y<|WS fun _ A=>rP 3 [] I ?_
 refine bU (t:=15) U (aV fun B=>?_) (aU fun B=>?_)
 ·refine rP 5 [] I ?_
  refine RK A<|aq<|Q1 hQ U U U ?_
  exact cB (bI fun q=>B q.1).symm
 refine bE 2 U<|rS (BI U lZ)<|rP 2 [] I ?_
 refine RK A<|aq<|Q1 hQ U U U ?_
 exact cB (gR.2 ⟨fun q=>⟨B,q⟩,fun q=>q.2⟩)
end
section
open Go.RowKit
theorem IT:
 dL Tryz.prog 4 [] [(rd gU 3 2 fW)] (vB true):=by
 refine bH kr Tryz.func4 U U fun w0 Q hQ hN=>?_
 try dsimp only
 refine WS fun _ J9=>rP 1 [] I ?_
 refine RK J9<|WS fun _ KP=>cX sS (aO) U fun y3 K0=>?_
 obtain ⟨Ik,J5,Jh,J7,J4,K,l,O,r,T,w,X,AC,Fn,A0,A4,Go,IO⟩:=y3
 try dsimp only
 obtain ⟨B,C,A⟩:=K0
 refine cX (B_ eo Ik J5 J4 Jh J7 K l O r T w Fn X AC A0 A4 Go IO (by exact B)) (gJ 10 U U<|aC (av (n:=eo.Race.ak.aS.length) 0 U sm)<|aC (av (n:=eo.Race.ak.aj.length) 1 U (jm C))<|aC (eT 2 U kJ)<|aC (av (n:=eo.Race.ak.aa.length) 3 U sm)<|aC (av (n:=eo.Race.bj.length) 4 U sm)<|aC (av (n:=eo.Race.cq.length) 5 U sm)<|aC (av (n:=eo.Race.aD.length) 6 U (ig A.1))<|aC (jM 7 U A)<|aC (av (n:=eo.aG.length) 8 U sm)<|aC (av (n:=eo.aF.length) 9 U sm)<|aO) U fun K4 LT=>?_
 obtain ⟨In,J6⟩:=K4
 try dsimp only
 refine Ap [0,11] U U<|rP 5 [] I ?_
 refine RK KP<|WS fun _ Di=>cX sS (aO) U fun K5 FC=>?_
 obtain ⟨E,f,H,i,c,L,o,P,s,AA,x,Y,AO,GE,A1,A5,Hi,IR⟩:=K5
 try dsimp only
 obtain ⟨B,C,A⟩:=FC
 refine cX (zf eo E f c H i L o P s AA x GE Y AO A1 A5 Hi IR (by exact B)) (gJ 11 U U<|aC (av (n:=eo.Race.ak.aS.length) 0 U sm)<|aC (av (n:=eo.Race.ak.aj.length) 1 U (jm C))<|aC (eT 2 U kJ)<|aC (av (n:=eo.Race.ak.aa.length) 3 U sm)<|aC (av (n:=eo.Race.bj.length) 4 U sm)<|aC (av (n:=eo.Race.cq.length) 5 U sm)<|aC (av (n:=eo.Race.aD.length) 6 U (ig A.1))<|aC (jM 7 U A)<|aC (av (n:=eo.aG.length) 8 U sm)<|aC (av (n:=eo.aF.length) 9 U sm)<|aO) U fun K8 FE=>?_
 obtain ⟨A8,J2,J8⟩:=K8
 try dsimp only
 have Eq:=FE
 refine Ap [0,1,12,13] U U<|rP 5 [] I ?_
 refine RK Di<|WS fun _ Do=>cX sS (aO) U fun LA FS=>?_
 obtain ⟨F,g,AB,j,d,M,p,R,u,V,y,Z,Ad,GR,A2,A6,Hm,Id⟩:=LA
 try dsimp only
 obtain ⟨B,C,A⟩:=FS
 refine rS (CL (Oj eo F g d AB j M p R u V y GR Z Ad A2 A6 Hm Id (by exact B)) (gJ 13 U U<|aC (av (n:=eo.Race.ak.aS.length) 0 U sm)<|aC (av (n:=eo.Race.ak.aj.length) 1 U (jm C))<|aC (eT 2 U kJ)<|aC (av (n:=eo.Race.ak.aa.length) 3 U sm)<|aC (av (n:=eo.Race.bj.length) 4 U sm)<|aC (av (n:=eo.Race.cq.length) 5 U sm)<|aC (av (n:=eo.Race.aD.length) 6 U (ig A.1))<|aC (jM 7 U A)<|aC (av (n:=eo.aG.length) 8 U sm)<|aC (av (n:=eo.aF.length) 9 U sm)<|aO) U)<|Ap [10,11,12,13] U U<|rP 7 [] I ?_
 refine RK Do<|WS fun _ Du=>cX sS (aO) U fun LE Fd=>?_
 obtain ⟨G,h,J,k,e,N,q,S,v,W,z,a,An,GT,A3,A7,H1,If⟩:=LE
 try dsimp only
 obtain ⟨B,C,A⟩:=Fd
 refine rS (CL (MQ eo G h e J k N q S v W z GT a An A3 A7 H1 If 0 (by exact B)) (gJ 13 U U<|aC (av (n:=eo.Race.ak.aS.length) 0 U sm)<|aC (av (n:=eo.Race.ak.aj.length) 1 U (jm C))<|aC (eT 2 U kJ)<|aC (av (n:=eo.Race.ak.aa.length) 3 U sm)<|aC (av (n:=eo.Race.bj.length) 4 U sm)<|aC (av (n:=eo.Race.cq.length) 5 U sm)<|aC (av (n:=eo.Race.aD.length) 6 U (ig A.1))<|aC (jM 7 U A)<|aC (av (n:=eo.aG.length) 8 U sm)<|aC (av (n:=eo.aF.length) 9 U sm)<|aO) U)<|Ap [10,11,12,13] U U<|bE 5 U<|RK Du<|WS fun _ EQ=>rS (CL (yE 0 0 1) (bk [3]) U)<|rP 1 [] I ?_
 refine bU (t:=32) U (aV fun A9=>?_) (aU fun A9=>?_)
 ·exact absurd (QU) A9
 refine rS (CL (yE 1 0 2) (bk [3]) U)<|rP 2 [] I ?_
 refine bU (t:=35) U (aV fun Bd=>?_) (aU fun Bd=>?_)
 ·exact absurd (PG) Bd
 refine rS (CL (yE 3 0 0) (bk [3]) U)<|rP 2 [] I ?_
 refine bU (t:=38) U (aV fun Bo=>?_) (aU fun Bo=>?_)
 ·exact absurd (PZ) Bo
 refine rS (CL (FK 0 0) (bk [3]) U)<|rP 2 [] I ?_
 refine bU (t:=41) U (aV fun B3=>?_) (aU fun B3=>?_)
 ·exact absurd (Qc) B3
 refine rS (CL (FK 1 2) (bk [3]) U)<|rP 2 [] I ?_
 refine bU (t:=44) U (aV fun B9=>?_) (aU fun B9=>?_)
 ·exact absurd (PO) B9
 refine rP 4 [] I ?_
 refine bU (t:=48) U (aV fun Ci=>?_) (aU fun Ci=>?_)
 ·exact absurd (oP) Ci
 refine rP 1 [] I ?_
 refine d_ (xs:=[.const (vI 0)]) (cs:=[(vI 0)]) U dk jO U U U U (by simp [Value.cells]) U U fun J3=>?_
 refine rS (CL (Ec (ki eo) In J6 ([0]) (some ⟨J3,0,none⟩) 1 (by rw [OH]; decide) dc) (aC (av (n:=(ki eo).length) 3 U sm)<|aC (bo 0 U U (by simp [bL]) U)<|aO) U) ?_
 refine rP 2 [] I ?_
 refine bU (t:=53) U (aV fun Ck=>?_) (aU fun Ck=>?_)
 ·exact absurd (OH) Ck
 refine rP 4 [] I ?_
 refine bU (t:=57) U (aV fun Cp=>?_) (aU fun Cp=>?_)
 ·exact absurd (oP) Cp
 refine rP 1 [] I ?_
 refine d_ (xs:=[.const (vI 0)]) (cs:=[(vI 0)]) U dk jO U U U U (by simp [Value.cells]) U U fun D=>d_ (xs:=[.tmp 59,.const (vS none 0 0)]) (cs:=[(vS (some ⟨D,0,none⟩) 1 1),(vS none 0 0)]) U BX Sd U U U U (by simp [Value.cells]) U U fun b=>?_
 refine fH (es:=(([0]:List Int).map iC)) (C':=[_,(own (some ⟨D,0,none⟩) 1 3 1 (([0]:List Int).map iC)),_,_,_,_,_]) 1 U (kT bL _) U (by show _≤maxLen; exact Nat.le_trans (m:=10) (show (1:Nat)≤10 by decide) dc) U ?_
 refine lh 3 1 ?_
 refine fH (es:=(List.zipWith uP [([0]:List Int),([]:List Int)] [((some ⟨D,0,none⟩),1),(none,0)])) (C':=[_,(own (some ⟨b,0,none⟩) 2 29 1 (List.zipWith uP [([0]:List Int),([]:List Int)] [((some ⟨D,0,none⟩),1),(none,0)])),_,_,_,_,_,_]) 1 U (oi PJ) U (by show _≤maxLen; exact Nat.le_trans (m:=10) (show (2:Nat)≤10 by decide) dc) U ?_
 refine G5 (br H6 [([0]:List Int),([]:List Int)] [((some ⟨D,0,none⟩),1),(none,0)]) [2,0] [1,3,4,5,6,7] U U ?_
 refine rS (CL (z6 (dH eo) ([([0]:List Int),([]:List Int)]) A8 J2 J8 ([((some ⟨D,0,none⟩),1),(none,0)]) (some ⟨b,0,none⟩) 2 (by rw [Ku]; decide) dc (by rw [Ku]; decide) dc (by exact Eq) (by rfl)) (aC (av (n:=(dH eo).length) 3 U (lH Eq))<|aC (eT 4 U zk)<|aC (av (n:=([([0]:List Int),([]:List Int)]).length) 1 U sm)<|aC (eT 0 U zk)<|aO) U) ?_
 refine rP 2 [] I ?_
 refine bU (t:=63) U (aV fun Cx=>?_) (aU fun Cx=>?_)
 ·exact absurd (Ku) Cx
 refine rP 4 [] I ?_
 refine bU (t:=67) U (aV fun C0=>?_) (aU fun C0=>?_)
 ·exact absurd (oP) C0
 refine rP 4 [] I ?_
 refine bU (t:=71) U (aV fun C1=>?_) (aU fun C1=>?_)
 ·exact absurd (OT.1) C1
 refine rP 4 [] I ?_
 refine bU (t:=75) U (aV fun C2=>?_) (aU fun C2=>?_)
 ·exact absurd (OT.2) C2
 refine rP 4 [] I ?_
 refine bU (t:=79) U (aV fun C3=>?_) (aU fun C3=>?_)
 ·exact absurd (OM.1) C3
 refine rP 4 [] I ?_
 refine RK EQ<|aq<|Q1 hQ U U U ?_
 exact cB (dN OM.2)
end
section
def wj (st:Int) (times:List Int) (b:Nat):Int:=if b=0 then st else (times[b-1]?).getD 0
structure ng (l:bp) (st:Int) (b:Nat) (at_ left:Int) (times:List Int) (sg:List aA) (good:List Int):Prop where
 len:times.length=b
 GR:good.length=b
 Hm:sg.length≤b
 from_:at_=wj st times b
 step: ∀ (k:Nat) t,times[k]? =some t→wj st times k+cZ l k≤t
 Uu:1000≤st∧st≤at_∧at_≤101000+500003000*(b:Int)
 mono: ∀ t∈times,t≤at_
 ob:0≤left∧(db good).e7=l.dq-left
 Uw:(db good).right=(sg.length:Int)
 sig: ∀ (k:Nat) t g,times[k]? =some t→good[k]? =some g→g= -1∨ ∃ (i:Nat) (s:aA),g=(i:Int)∧sg[i]? =some s∧s.fE=(k:Int)∧(cG l s).Lo≤t∧t≤(cG l s).Hi
section
variable {l:bp} {st at_ left d:Int} {b:Nat} {times good:List Int} {sg:List aA}
theorem AX (h:1000≤st∧st≤101000) (hm:0≤l.dq):ng l st 0 st l.dq [] [] []:=⟨rfl,rfl,Nat.le_refl _,rfl,fun k t h=>absurd h sm,om,fun t h=>absurd h sm,⟨hm,by simp [db]⟩,by simp [db],fun k t g h=>absurd h sm⟩
theorem yj {t:Int} {k:Nat} (hk:k≤times.length):wj st (times++[t]) k=wj st times k:=by
 unfold wj
 by_cases c:k=0
 ·rw [if_pos c,if_pos c]
 ·rw [if_neg c,if_neg c,List.getElem?_append_left om]
theorem pI {α:Type} {l:List α} {x y:α} {k:Nat} (h:(l++[x])[k]? =some y):l[k]? =some y∨(k=l.length∧y=x):=by
 rcases Nat.lt_or_ge k l.length with c|c
 ·rw [List.getElem?_append_left c] at h; exact .inl h
 ·have hk:=(aZ.1 h).1
  rw [List.length_append] at hk
  simp only [List.length_singleton] at hk
  obtain rfl:k=l.length:=by omega
  rw [List.getElem?_append_right (Nat.le_refl _),Nat.sub_self] at h
  simp only [List.getElem?_cons_zero,Option.some.injEq] at h
  exact .inr ⟨U,h.symm⟩
/-- what of the next beam is alike, whether it tells or not -/
theorem ng.next (h:ng l st b at_ left times sg good) (hd:cZ l b≤d∧d≤cZ l b+2999) (hl:1≤cZ l b∧cZ l b≤500000000):(times++[at_+d]).length=b+1∧at_+d=wj st (times++[at_+d]) (b+1)∧(∀ (k:Nat) t,(times++[at_+d])[k]? =some t→wj st (times++[at_+d]) k+cZ l k≤t)∧(1000≤st∧st≤at_+d∧at_+d≤101000+500003000*((b+1:Nat):Int))∧ ∀ t∈times++[at_+d],t≤at_+d:=by
 have B:=h.Uu
 have A:=h.len
 refine ⟨by rw [List.length_append,A]; rfl,?_,fun k t ht=>?_,om,fun t ht=>?_⟩
 ·unfold wj
  rw [if_neg om,Nat.add_sub_cancel,← A,List.getElem?_append_right (Nat.le_refl _),Nat.sub_self]; rfl
 ·rcases pI ht with q|⟨rfl,rfl⟩
  ·have hk:=(aZ.1 q).1
   rw [yj om]; exact h.step k t q
  ·rw [yj (Nat.le_refl _),A,← h.from_]; omega
 ·rcases gu.1 ht with ht|ht
  ·have:=h.mono t ht; omega
  ·rw [cv.1 ht]; exact Int.le_refl _
theorem ng.Du (h:ng l st b at_ left times sg good) (hd:cZ l b≤d∧d≤cZ l b+2999) (hl:1≤cZ l b∧cZ l b≤500000000) (hp:0<left):ng l st (b+1) (at_+d) (left-1) (times++[at_+d]) sg (good++[-1]):=by
 obtain ⟨A,B,C,D,E⟩:=h.next hd hl
 have F:=h.ob
 have G:=h.Uw
 have hs:=h.Hm
 have ht:db (good++[-1])=dM (db good) (fV (-1)):=iU
 refine ⟨A,by rw [List.length_append,h.GR]; rfl,om,B,C,D,E,⟨om,by rw [ht]; simp [dM,fV]; omega⟩,by rw [ht]; simp [dM,fV]; omega,fun k t g hk hg=>?_⟩
 rcases pI hg with q|⟨_,q⟩
 ·rcases pI hk with u|⟨u,_⟩
  ·exact h.sig k t g u q
  ·have:=(aZ.1 q).1; have:=h.GR; have:=h.len; omega
 ·exact .inl q
theorem ng.FE (h:ng l st b at_ left times sg good) {s:aA} (hd:cZ l b≤d∧d≤cZ l b+2999) (hl:1≤cZ l b∧cZ l b≤500000000) (hb:s.fE=(b:Int)) (hw:(cG l s).Lo≤at_+d∧at_+d≤(cG l s).Hi):ng l st (b+1) (at_+d) left (times++[at_+d]) (sg++[s]) (good++[(sg.length:Int)]):=by
 obtain ⟨F,G,H,AA,J⟩:=h.next hd hl
 have M:=h.ob
 have N:=h.Uw
 have hs:=h.Hm
 have ht:db (good++[(sg.length:Int)])=dM (db good) (fV (sg.length:Int)):=iU
 have ho:fV (sg.length:Int)=⟨1,0⟩:=by unfold fV; rw [if_neg om]
 refine ⟨F,by rw [List.length_append,h.GR]; rfl,by rw [List.length_append]; simp only [List.length_singleton]; omega,G,H,AA,J,⟨om,by rw [ht,ho]; simp [dM]; omega⟩,by rw [ht,ho,List.length_append]; simp [dM]; omega,fun k t g hk hg=>?_⟩
 rcases pI hg with q|⟨K,L⟩
 ·have E:=(aZ.1 q).1
  rcases pI hk with u|⟨u,_⟩
  ·rcases h.sig k t g u q with e|⟨i,s',C,B,D⟩
   ·exact .inl e
   ·exact .inr ⟨i,s',C,by rw [List.getElem?_append_left (aZ.1 B).1]; exact B,D⟩
  ·have:=h.GR; have:=h.len; omega
 ·have A:k=b:=by rw [K,h.GR]
  subst A
  rcases pI hk with u|⟨_,u⟩
  ·have:=(aZ.1 u).1; have:=h.len; omega
  ·subst u
   exact .inr ⟨sg.length,s,L,by rw [List.getElem?_append_right (Nat.le_refl _),Nat.sub_self]; rfl,hb,hw⟩
theorem A_ {nw:Int} (h:ng l st b at_ left times sg good) (hf:0≤l.fO) (hn:b≤l.aa.length) (hw:at_≤nw) (hr:er l ⟨st,nw,sg⟩):gZ l ⟨st,nw,sg⟩ times good:=by
 have A:=h.ob
 refine ⟨hr,by rw [h.GR,h.len],by rw [h.len]; exact hn,fun k t ht=>⟨h.step k t ht,?_⟩,fun k t g ht hg=>h.sig k t g ht hg,om,?_⟩
 ·have:=h.mono t (aP ht); show t≤nw; omega
 ·show (sg.length:Int)-_≤_
  rw [h.Uw]; omega
end
end
section
open Go.RowKit
theorem Np {a b:Int}:mZ (a+b) 1000000≤mZ a 1000000+mZ b 1000000:=by unfold mZ; omega
theorem tx {c:au} {t:Int}: ∀ (l:List cM) (s:ag),(s.Lo≤(l.foldl (gQ c t) s).Lo∧(l.foldl (gQ c t) s).Hi≤s.Hi)∧(∀ x∈l,x.dR.Lo-mL c t x≤(l.foldl (gQ c t) s).Lo∧(l.foldl (gQ c t) s).Hi≤x.dR.Hi+mL c t x)∧
 (∀ M,s.Lo≤M→(∀ x∈l,x.dR.Lo-mL c t x≤M)→(l.foldl (gQ c t) s).Lo≤M)∧ ∀ M,M≤s.Hi→(∀ x∈l,M≤x.dR.Hi+mL c t x)→M≤(l.foldl (gQ c t) s).Hi
 |[],s=>⟨⟨Int.le_refl _,Int.le_refl _⟩,(fun x hx=>by cases hx),(fun M h _=>h),fun M h _=>h⟩
 |y::l,s=>by
  obtain ⟨⟨D,E⟩,b,B,d⟩:=tx (c:=c) (t:=t) l (gQ c t s y)
  have F:(gQ c t s y).Lo=max s.Lo (y.dR.Lo-mL c t y):=rfl
  have G:(gQ c t s y).Hi=min s.Hi (y.dR.Hi+mL c t y):=rfl
  simp only [List.foldl_cons]
  refine ⟨⟨om,om⟩,fun x hx=>?_,fun M C A=>B M ?_ fun x hx=>A x (di _ hx),fun M C A=>d M ?_ fun x hx=>A x (di _ hx)⟩
  ·rcases bR.1 hx with rfl|hx
   ·omega
   ·exact b x hx
  ·have:=A y sm; omega
  ·have:=A y sm; omega
theorem Jv {c:au} {t M:Int} (h0: -1099511627776≤M) (h: ∀ x∈c.bG,x.dR.Lo-mL c t x≤M):(gr c t).Lo≤M:=(tx c.bG _).2.2.1 M h0 h
theorem KW {c:au} {t M:Int} (h0:M≤1099511627776) (h: ∀ x∈c.bG,M≤x.dR.Hi+mL c t x):M≤(gr c t).Hi:=(tx c.bG _).2.2.2 M h0 h
theorem Iu {c:au} (h:eP c) {x o:cM} (hx:x∈c.bG) (ho:o∈c.bG):x.dR.Lo-o.dR.Hi≤mZ (c.dw*max (x.At-o.At) (o.At-x.At)) 1000000:=by
 obtain ⟨i,hi⟩:=List.getElem?_of_mem hx
 obtain ⟨k,hk⟩:=List.getElem?_of_mem ho
 rcases Nat.lt_trichotomy k i with q|q|q
 ·have A:=(h.pair i k x o hi q hk).1
  have B:=(AT h.sync i x hi).2 k o q hk
  rw [show max (x.At-o.At) (o.At-x.At)=x.At-o.At by omega]; exact A
 ·subst q; rw [hi] at hk; cases hk
  have A:=(h.rT hi).2
  rw [show max (x.At-x.At) (x.At-x.At)=0 by omega,Int.mul_zero]; unfold mZ; omega
 ·have A:=(h.pair k i o x hk q hi).2
  have B:=(AT h.sync k o hk).2 i x q hi
  rw [show max (x.At-o.At) (o.At-x.At)=o.At-x.At by omega]; exact A
theorem Mp {c:au} (h:0≤c.dw) (x o:cM) (t:Int):mZ (c.dw*max (x.At-o.At) (o.At-x.At)) 1000000≤mL c t x+mL c t o:=by
 unfold mL
 have A:c.dw*max (x.At-o.At) (o.At-x.At)≤c.dw*(max (t-x.At) (x.At-t)+max (t-o.At) (o.At-t)):=Int.mul_le_mul_of_nonneg_left om h
 rw [Int.mul_add] at A
 exact Int.le_trans (IF A) Np
theorem EB {c:au} (h:eP c) {t:Int} (ht:0≤t∧t≤90000000):(gr c t).Lo≤(gr c t).Hi:=by
 have hb:=od h ht
 refine Jv om fun x hx=>KW ?_ fun o ho=>?_
 ·obtain ⟨i,hi⟩:=List.getElem?_of_mem hx
  have A:=h.rT hi
  have B:=tM h.qN ht A.1
  omega
 ·have A:=Iu h hx ho
  have B:=Mp h.qN.1 x o t
  omega
end
section
section
variable {l:bp} {b:Nat}
/-- what a clock tells, by a choice -/
theorem Ca (hl:dg l=0) {y:bJ} (hy:l.aa[b]? =some y) {t rd:Int} (he:nj l y.dU t=0) (hr:t+(fh l y.dU t).Lo≤rd∧rd≤t+(fh l y.dU t).Hi):(0≤t∧t≤86400000)∧(cG l ⟨(b:Int),rd⟩).Lo≤t∧t≤(cG l ⟨(b:Int),rd⟩).Hi:=by
 obtain ⟨_,A⟩:=du hl
 have hb:=(A.re _ (aP hy)).2
 have ht:0≤t∧t≤86400000:=by
  apply Classical.byContradiction
  intro q
  rw [(nH hl (fun r=>q r.2)).1] at he
  omega
 obtain ⟨c,hc⟩: ∃ c,l.aj[y.dU.toNat]? =some c:=⟨l.aj[y.dU.toNat]'om,fg _⟩
 have B:=A.clock _ (aP hc)
 have e:=pG (l:=l) (ck:=y.dU) (at_:=t) hl ⟨⟨hb.1,om⟩,ht⟩ hc
 rw [e.2] at hr
 refine ⟨ht,?_⟩
 unfold cG
 rw [tT (l:=l) (s:=⟨(b:Int),rd⟩) (b:=y) (c:=c) (by simpa using hy) hc]
 exact (IQ B ht).1 dso
theorem Bm (hl:dg l=0) {y:bJ} (hy:l.aa[b]? =some y) {t:Int} (he:nj l y.dU t=0):(0≤t∧t≤86400000)∧(-110000≤(fh l y.dU t).Lo∧(fh l y.dU t).Lo≤10000)∧(fh l y.dU t).Lo≤(fh l y.dU t).Hi∧(fh l y.dU t).Hi≤110000:=by
 obtain ⟨_,B⟩:=du hl
 have hb:=(B.re _ (aP hy)).2
 have ht:0≤t∧t≤86400000:=by
  apply Classical.byContradiction
  intro q
  rw [(nH hl (fun r=>q r.2)).1] at he
  omega
 obtain ⟨c,hc⟩: ∃ c,l.aj[y.dU.toNat]? =some c:=⟨l.aj[y.dU.toNat]'om,fg _⟩
 have A:=B.clock _ (aP hc)
 have e:=pG (l:=l) (ck:=y.dU) (at_:=t) hl ⟨⟨hb.1,om⟩,ht⟩ hc
 have C:=od A (at_:=t) om
 have D:=EB A (t:=t) om
 rw [e.2]
 omega
end
end
section
def wq (bl:List Int) (i:Int):Int:=if bl.length=0 then 0 else bl.getD (i % (bl.length:Int)).toNat 0
theorem wE {bl:List Int} (hb: ∀ z∈bl,0≤z∧z≤4294967295) (i:Int):0≤wq bl i∧wq bl i≤4294967295:=by
 unfold wq
 split
 ·omega
 ·rw [List.getD_eq_getElem?_getD]
  cases h:bl[(i % (bl.length:Int)).toNat]? with
  |none=>simp
  |some z=>exact hb z (aP h)
theorem Pu {bl:List Int} {i z:Int} (h: ¬ (bl.length:Int)=0) (hz:bl[(i % (bl.length:Int)).toNat]? =some z):wq bl i=z:=by
 unfold wq; rw [if_neg om,List.getD_eq_getElem?_getD,hz]; rfl
section
variable {r:fu} {h i:Nat} {ht:List ax} {d:ax} {bl:List Int} {n:Int} {out:Bool}
end
section
variable {r:fu} {i:Nat} {k:Int}
end
end
section
open Go.RowKit
theorem lv (bl:List Int) (blA:OA) (blC:Nat) (i:Int) (hbl: ∀ z∈bl,0≤z∧z≤4294967295) (hbn:bl.length≤9223372036854775807) (hi:0≤i∧i≤1000):
 dL Tryz.prog 22 [(vS blA bl.length blC),(vI i)] [(rd blA bl.length 1 (bl.map pV))] (vI (wq bl i)):=by
 refine bH kr Tryz.func22 U U fun K Q hQ hN=>?_
 try dsimp only
 refine WS fun _ B=>bE 1 U<|RK B<|ao fun _ C=>WS fun _ D=>rP 3 [] I ?_
 refine RK D<|cy U (aU fun A=>?_) (aV fun A=>?_)
 ·refine WS fun _ E=>rP 1 [] I ?_
  refine RK E<|aq<|Q1 hQ U U U ?_
  exact cI (by unfold wq; rw [if_pos om])
 refine WK C<|WS fun _ F=>rP 4 [] I ?_
 refine rS (BI U (mG om om)) ?_
 have AA:=Int.emod_nonneg i A
 have J:=Int.emod_lt_of_pos i (show 0<(bl.length:Int) by omega)
 obtain ⟨z,hz⟩:=aJ bl (((i % (bl.length:Int))).toNat) om
 have G:=bM pV hz
 refine rS (IA (((i % (bl.length:Int))).toNat) U (aB 0 U) VR dc om om)<|rS (gE (((i % (bl.length:Int))).toNat) 0 (Value.int .u32 z) U b_ (aB 0 U) G U dc U) ?_
 have H:=hbl z (aP hz)
 refine rS (SX (mC (m:=z) U U IB sO (qq (by first|assumption|omega))) U U)<|rP 1 [] I ?_
 refine RK F<|aq<|Q1 hQ U U U ?_
 exact cI (Pu A hz).symm
end
section
open Go.RowKit
theorem KM (l:bp) (kA:OA) (kC:Nat) (az:List RA) (cA:OA) (cC:Nat) (bA:OA) (bC:Nat) (bl:List Int) (blA:OA) (blC:Nat) (hin:dY l az) (hbl: ∀ z∈bl,0≤z∧z≤4294967295) (hbn:bl.length≤9223372036854775807) (hle:dg l=0):
 pS Tryz.prog 6 [(vA (cr.cells (jC l kA kC cA cC bA bC))),(vS blA bl.length blC)] [(rd kA l.aS.length 9 (l.aS.map ar.cells)),(rd cA l.aj.length 2 (List.zipWith au.cells l.aj az)),(dT (br au.gd l.aj az)),(rd bA l.aa.length 4 (l.aa.map bJ.cells)),(rd blA bl.length 1 (bl.map pV))] (fun (x:Bool×Int×Int×Int×(List aA)×(OA)×Nat×(List Int)×(OA)×Nat×(List Int)×Nat)=>bif x.1 then (vT [(vA (cb.cells (cb.mk x.2.2.1 x.2.2.2.1 (bD.mk x.2.2.2.2.2.1 x.2.2.2.2.1.length x.2.2.2.2.2.2.1)))),(vS x.2.2.2.2.2.2.2.2.1 x.2.2.2.2.2.2.2.1.length x.2.2.2.2.2.2.2.2.2.1),(vB (decide (er l (bT.mk x.2.2.1 x.2.2.2.1 x.2.2.2.2.1))))]) else (vT [(vA (cb.cells (cb.mk x.2.2.1 x.2.2.2.1 (bD.mk x.2.2.2.2.2.1 x.2.2.2.2.2.2.2.2.2.2.2 x.2.2.2.2.2.2.1)))),(vS none 0 0),(vB false)])) (fun (x:Bool×Int×Int×Int×(List aA)×(OA)×Nat×(List Int)×(OA)×Nat×(List Int)×Nat)=>(x.1=true→((er l (bT.mk x.2.2.1 x.2.2.2.1 x.2.2.2.2.1)→gZ l (bT.mk x.2.2.1 x.2.2.2.1 x.2.2.2.2.1) x.2.2.2.2.2.2.2.1 x.2.2.2.2.2.2.2.2.2.2.1)∧l.bO<(x.2.2.2.2.2.2.2.1.length:Int)∧1000≤x.2.2.1∧x.2.2.1≤101000))∧(x.1=false→(x.2.1=0∧True))) (fun (x:Bool×Int×Int×Int×(List aA)×(OA)×Nat×(List Int)×(OA)×Nat×(List Int)×Nat)=>bif x.1 then [(own x.2.2.2.2.2.1 x.2.2.2.2.2.2.1 87 2 (x.2.2.2.2.1.map aA.cells)),(own x.2.2.2.2.2.2.2.2.1 x.2.2.2.2.2.2.2.2.2.1 3 1 (x.2.2.2.2.2.2.2.1.map iC))] else []):=by
 have K5:=hin.qS
 have K0:=hin.qW
 have J2:=hin.nx
 have J4:=hin.qU
 obtain ⟨GT,Cp⟩:=du hle
 have Fd:=Cp.head
 unfold eU at Fd
 refine fB kr Tryz.func6 U U fun w0 Q hQ hN=>?_
 try dsimp only
 refine WS fun _ C2=>eO U fun b2=>AL U Lr fun b3=>bE 2 U<|RK C2<|WS fun _ C3=>rP 1 [] I ?_
 have J5:=wE hbl 0
 refine rS (CL (lv bl blA blC 0 hbl hbn om) (bk [6]) U)<|rS (BI U (mG om om))<|rP 2 [] I ?_
 refine RK C3<|ao fun _ Di=>?_
 obtain ⟨st,GR⟩: ∃ z:Int,(1000+((wq bl 0) % 100000))=z:=⟨_,rfl⟩
 rw [GR]
 have Cx:1000≤st∧st≤101000:=by omega
 refine aw<|bE 3 U<|Wt (cb.cells (cb.mk st 0 (bD.mk none 0 0))) U Ab U U<|bE 1 U<|Wt (cb.cells (cb.mk st st (bD.mk none 0 0))) U Ab U U<|RK Di<|WS fun _ Do=>eV 3 [] (mc 1 U I) U<|RK Do<|ao fun _ EQ=>ao fun _ Eq=>dj cj 14 kr<|dP 4 [] (mc 1 U I) ?_
 have J6:=wE hbl 1
 refine dS (CL (lv bl blA blC 1 hbl hbn om) (bk [6]) U)<|dP 6 [] (mc 1 U I) ?_
 have hr1n:=Int.emod_nonneg (wq bl 1) (show ((l.aa.length:Int)-l.bO)≠0 by omega)
 have hr1l:=Int.emod_lt_of_pos (wq bl 1) (show 0<((l.aa.length:Int)-l.bO) by omega)
 refine dS (BI U (mG om om))<|dP 2 [] I ?_
 refine cD<|RK Eq<|aI ?_
 obtain ⟨nb,Fn,H1⟩: ∃ nb:Nat,((l.bO+1)+((wq bl 1) % ((l.aa.length:Int)-l.bO)))=(nb:Int)∧(l.bO+1≤(nb:Int)∧nb≤l.aa.length):=⟨(((l.bO+1)+((wq bl 1) % ((l.aa.length:Int)-l.bO)))).toNat,om,om⟩
 rw [Fn]
 refine eK 3 1<|eK 87 2 ?_
 have AB:(0≤nb)∧(ng l st 0 st l.dq ([]) ([]) ([]))∧(l.dq≤l.dq):=by exact ⟨Nat.zero_le _,AX Cx om,Int.le_refl _⟩
 refine bZ (ι:={z:Nat×Int×Int×(List Int)×(OA)×Nat×(List aA)×(OA)×Nat×(List Int) // (z.1≤nb)∧(ng l st z.1 z.2.1 z.2.2.1 z.2.2.2.1 z.2.2.2.2.2.2.1 z.2.2.2.2.2.2.2.2.2)∧(z.2.2.1≤l.dq)}) [1,2,4,6,36] [3,4,5,6,7,8] U U (fun z=>[(5,(vS z.1.2.2.2.2.1 z.1.2.2.2.1.length z.1.2.2.2.2.2.1)),(7,(vI z.1.2.1)),(8,(vI z.1.2.2.1)),(37,(vI (z.1.1:Int)))]) (fun z=>[(own z.1.2.2.2.2.2.2.2.1 z.1.2.2.2.2.2.2.2.2.1 87 2 (z.1.2.2.2.2.2.2.1.map aA.cells)),(own z.1.2.2.2.2.1 z.1.2.2.2.2.2.1 3 1 (z.1.2.2.2.1.map iC)),(cp b3 43 (cb.cells (cb.mk st st (bD.mk z.1.2.2.2.2.2.2.2.1 z.1.2.2.2.2.2.2.1.length z.1.2.2.2.2.2.2.2.2.1))))]) (fun _=>rfl) (fun _=>rfl) (fun z=>nb-z.1.1) ⟨(0,st,l.dq,[],none,0,[],none,0,[]),AB⟩ (bu U) (aQ [3,4,5,6,7,8,0,1,2]) ?_
 clear AB
 rintro ⟨⟨b,A,left,times,tA,tC,sg,sA,sC,good⟩,⟨R,B,F⟩⟩ J9 P
 try dsimp only at R B F
 try dsimp only
 have K8:=B.len
 have K:=B.Hm
 have K4:=B.ob
 refine WS fun _ c=>rP 1 [] I ?_
 refine RK c<|ao fun _ e=>bW U (aV fun C0=>?_) (aU fun C0=>?_)
 ·refine bS<|ai<|ai<|aL<|KK EQ<|WS fun _ m=>rP 2 [] I ?_
  have Go:=wE hbl 40
  have B3:=B.Uu
  refine rS (CL (lv bl blA blC 40 hbl hbn om) (bk [5]) U)<|rS (BI U (mG om om))<|rP 2 [] I ?_
  refine Wy (cb.cells (cb.mk st (A+((wq bl 40) % 5000)) (bD.mk sA sg.length sC))) U Ab U U<|RK m<|ao fun _ o=>?_
  obtain ⟨nw,GE⟩: ∃ z:Int,(A+((wq bl 40) % 5000))=z:=⟨_,rfl⟩
  rw [GE]
  have Ck:A≤nw:=by omega
  have K:=B.Hm
  refine dy cj [5] [] [] [0,1,2,3,4,5,6,7,8] [] U U U U U<|eS U (LW 8 U b_ U U)<|eS U (MV U)<|eS U (LW 0 U b_ U U)<|eS U (LW 8 U b_ U U) ?_
  refine eS U (CL (EY l kA kC az cA cC bA bC (bT.mk st nw sg) sA sC hin (by (simp; omega))) (nV [1,2,3,4]<|aC (av (n:=sg.length) 6 U sm)<|aO) U) ?_
  refine eS U (AG U)<|eS U (AG U)<|eh U<|cf U fun T21 Ad=>WD U CM U<|aH (Ad _ _ (aQ [0,1,2,3,4,5,6,7,8]) ?_)
  refine e8 U<|KK o<|aq<|LX hQ (true,0,st,nw,sg,sA,sC,times,tA,tC,good,0) [6,7] [0] (mc 8 U I) U U U U ?_
  exact ⟨fun _=>⟨fun hr=>A_ B om om Ck hr,by have:=B.len; dsimp only; omega,by have:=B.Uu; dsimp only; omega⟩,QA⟩
 refine WK e<|ao fun _ G=>aI<|WS fun _ f=>bE 2 U<|RK f<|WS fun _ g=>rP 2 [] (mc 0 U I) ?_
 have Ci:=uZ (i:=(b:Int)) hle om
 rw [Int.toNat_natCast] at Ci
 have S:=mo GT Cp (i:=b) om
 have B3:=B.Uu
 have J3:=B.ob
 refine rS (CL (NY l kA kC az cA cC bA bC (b:Int) hin) (bk [1,2,3,4]) U)<|bE 5 U<|RK g<|ao fun _ h=>WS fun _ j=>rP 2 [] I ?_
 refine RK j<|cy U (aX fun Z=>?_) (aW fun Z=>?_)
 ·exact absurd Ci.1 Z
 refine WK h ?_
 refine kW (ι:={z:Int // (cZ l b≤z∧z≤cZ l b+2999)}) [1,2,4,5,6,8,9,10,36,37] [0,1,2,3,4,5,6,7,8] U U (fun z=>[(7,(vI (A+z.1)))]) (fun z=>[]) (fun _=>rfl) (fun _=>rfl) ?_ fun K17 H=>?_
 ·rintro ⟨d,B9⟩
  try dsimp only
  refine ao fun _ k=>?_
  have E:cZ l b≤d∧d≤cZ l b+2999:=by assumption
  refine aw<|rP 2 [] I ?_
  refine d_ (xs:=[.tmp 69]) (cs:=[(vI (A+d))]) U dk jO U U U U (by simp [Value.cells]) U U fun IR=>?_
  refine dD (es2:=(List.map iC (times++[A+d]))) (m':=(times++[A+d]).length) 8 U U U rL U U sm (bo (es:=List.map iC [(A+d)]) 0 U U (by simp [bL]) U) (kD _) (by first|omega|(simp; done)|(simp; omega)) (by (simp only [maxLen]; omega)) sm sm U fun N O=>?_
  try dsimp only
  refine bE 1 U<|RK k<|ao fun _ L=>WS fun _ M=>rP 3 [] I ?_
  refine bU (t:=74) U (aV fun a=>?_) (aU fun a=>?_)
  ·refine bE 4 U<|rP 4 [] I ?_
   refine RK M<|ct U<|WK L<|ao fun _ v=>dy cj [12,13] [] [] [0,1,2,3,4,5,6,7,8,9] [] U U U U U<|eS U (LW 1 U b_ U U)<|eS U (FA 3 U eD U)<|eS U (L1 (vS bA l.aa.length bC) 1 U b_ U U)<|eS U (MV U) ?_
   obtain ⟨y,hy⟩:=aJ l.aa b om
   have AA:=bM bJ.cells hy
   refine eS U (IA b U (aB 5 U) uR dc om om)<|eS U (o6 ((b*4)+3) U (aB 5 U) (Nat.mul_pos om dc) eD U)<|eS U (gE b 3 (vI y.dU) U b_ (aB 5 U) AA U dc U)<|eS U (MV U)<|eS U (CL (E4 l kA kC az cA cC bA bC y.dU (A+d) hin) (bk [2,3,4,5]) U)<|eS U (MV U)<|eS U (EX U)<|eS U (EX U)<|eS U (AG U)<|eh U<|cf U fun T41 A4=>AL U ed fun In=>aH (A4 _ _ (aQ [1,2,3,4,5,6,7,8,9,10]) ?_)
   refine cf U fun T43 A5=>fJ U cW U<|aH (A5 _ _ (aQ [1,2,3,4,5,6,7,8,9,10]) ?_)
   refine e8 U<|KK v<|ao fun _ w=>WS fun _ AC=>rP 2 [] I ?_
   refine RK AC<|cy U (aX fun D=>?_) (aW fun D=>?_)
   ·refine WS fun _ AO=>eV 1 [] (mc 10 U I) U<|PB U CM U<|rP 2 [] I ?_
    refine RK AO<|aq<|LX hQ (false,0,st,st,[],sA,sC,[],none,0,[],sg.length) [] [0] (mc 10 U I) U U U U ?_
    exact ⟨E8,fun _=>⟨U,trivial⟩⟩
   refine WK w<|dy cj [21,22,24] [1] [0] [0,1,2,3,4,5,6,7,9] [0,1,2,3,4,5,6,7,8,9,10] U U U U U<|eS U (FA 2 U eD U)<|fS U (L1 (vS sA sg.length sC) 10 U b_ U U)<|eS U (MV U)<|eS U (MV U) ?_
   have FS:=Bm hle hy D
   have K:=B.Hm
   refine eS U (FA 0 U eD U)<|eS U (L1 (vI ((fh l y.dU (A+d)).Lo)) 0 U b_ U U)<|eS U (BI U (kx ⟨om,om⟩))<|eS U (MV U)<|eS U (MV U)<|eS U (BI U (nt ⟨om,om⟩))<|eS U (BI U (kx ⟨om,om⟩)) ?_
   have FC:=wE hbl (5+(4*(b:Int)))
   refine eS U (CL (lv bl blA blC (5+(4*(b:Int))) hbl hbn om) (bk [7]) U)<|eS U (FA 1 U eD U)<|eS U (L1 (vI ((fh l y.dU (A+d)).Hi)) 0 U b_ U U)<|eS U (FA 0 U eD U)<|eS U (L1 (vI ((fh l y.dU (A+d)).Lo)) 0 U b_ U U)<|eS U (BI U (uA ⟨om,om⟩))<|eS U (BI U (kx ⟨om,om⟩)) ?_
   have hr5n:=Int.emod_nonneg (wq bl (5+(4*(b:Int)))) (show ((fh l y.dU (A+d)).Hi-(fh l y.dU (A+d)).Lo+1)≠0 by omega)
   have hr5l:=Int.emod_lt_of_pos (wq bl (5+(4*(b:Int)))) (show 0<((fh l y.dU (A+d)).Hi-(fh l y.dU (A+d)).Lo+1) by omega)
   refine eS U (BI U (mG om om))<|eS U (BI U (kx ⟨om,om⟩)) ?_
   obtain ⟨rd,T⟩: ∃ z:Int,(((A+d)+((fh l y.dU (A+d)).Lo))+((wq bl (5+(4*(b:Int)))) % ((((fh l y.dU (A+d)).Hi)-((fh l y.dU (A+d)).Lo))+1)))=z:=⟨_,rfl⟩
   rw [T]
   have J:A+d+(fh l y.dU (A+d)).Lo≤rd∧rd≤A+d+(fh l y.dU (A+d)).Hi:=by omega
   refine eS U (SX (bf (xs:=[(0,.tmp 102),(1,.tmp 119)]) (cs:=(aA.cells (aA.mk (b:Int) rd))) U U (bg Et U)) U U)<|eS U (FA 2 U eD U)<|eh U<|ja U fun T47 A6=>d_ (xs:=[.tmp 120]) (cs:=(aA.cells (aA.mk (b:Int) rd))) U wL Cf U U U U (by simp [Value.cells,aA.a_]) U U fun Jh=>aH (A6 _ _ (aQ [1,2,3,4,5,6,7,8,10]) (aQ [1,2,3,4,5,6,7,8,9,10,11]) ?_)
   refine cf U fun T49 A7=>?_
   refine dD (es2:=(List.map aA.cells (sg++[aA.mk (b:Int) rd]))) (m':=(sg++[aA.mk (b:Int) rd]).length) 9 U U U Qe U U sm (bo (es:=List.map aA.cells [(aA.mk (b:Int) rd)]) 0 U U (by simp [aA.a_]) U) (lJ _) (by first|omega|(simp; done)|(simp; omega)) (by (simp only [maxLen]; omega)) sm sm U fun W Y=>?_
   try dsimp only
   refine aH (A7 _ _ (aQ [1,2,3,4,5,6,7,8,10]) ?_)
   refine cf U fun T52 A8=>Mo (cb.cells (cb.mk st st (bD.mk W ((sg++[aA.mk (b:Int) rd]).length) Y))) U Q6 U U<|aH (A8 _ _ (aQ [1,2,3,4,5,6,7,8,10]) ?_)
   refine e8 U<|aR<|KK G<|aw<|rP 2 [] I ?_
   refine aH ?_
   have Bo:(vI (((b+1):Nat):Int))=(vI ((b:Int)+1)):=by exact cI om
   refine bq (P ⟨((b+1),(A+d),left,(times++[A+d]),N,O,(sg++[aA.mk (b:Int) rd]),W,Y,(good++[(sg.length:Int)])),⟨om,B.FE E S U (Ca hle hy D J).2,F⟩⟩ _ _ _ U os (cY 8<|bw U Bo<|dG.nil _) (aQ [3,4,5,6,7,8,9,10,11]))
  refine bE 2 U<|rS (BI U (nt ⟨om,om⟩))<|rP 1 [] I ?_
  have KP:=wE hbl (4+(4*(b:Int)))
  refine rS (CL (lv bl blA blC (4+(4*(b:Int))) hbl hbn om) (bk [6]) U)<|rS (BI U (mG om om))<|rP 2 [] I ?_
  refine RK M<|cy U (aU fun C1=>?_) (aV fun C1=>?_)
  ·refine WS fun _ p=>bE 3 U<|RK p<|bS<|ai<|aL<|KK G<|aw<|rP 2 [] I ?_
   refine aH ?_
   have A9:(vI (((b+1):Nat):Int))=(vI ((b:Int)+1)):=by exact cI om
   refine bq (P ⟨((b+1),(A+d),(left-1),(times++[A+d]),N,O,sg,sA,sC,(good++[-1])),⟨om,B.Du E S a,dso⟩⟩ _ _ _ U os (cY 8<|bw U A9<|dG.nil _) (aQ [1,2,3,4,5,6,7,8,9]))
  refine WK L<|ao fun _ q=>dy cj [12,13] [] [] [0,1,2,3,4,5,6,7,8,9] [] U U U U U<|eS U (LW 1 U b_ U U)<|eS U (FA 3 U eD U)<|eS U (L1 (vS bA l.aa.length bC) 1 U b_ U U)<|eS U (MV U) ?_
  obtain ⟨y,hy⟩:=aJ l.aa b om
  have AA:=bM bJ.cells hy
  refine eS U (IA b U (aB 5 U) uR dc om om)<|eS U (o6 ((b*4)+3) U (aB 5 U) (Nat.mul_pos om dc) eD U)<|eS U (gE b 3 (vI y.dU) U b_ (aB 5 U) AA U dc U)<|eS U (MV U)<|eS U (CL (E4 l kA kC az cA cC bA bC y.dU (A+d) hin) (bk [2,3,4,5]) U)<|eS U (MV U)<|eS U (EX U)<|eS U (EX U)<|eS U (AG U)<|eh U<|cf U fun T27 An=>AL U ed fun Id=>aH (An _ _ (aQ [1,2,3,4,5,6,7,8,9,10]) ?_)
  refine cf U fun T29 A0=>fJ U cW U<|aH (A0 _ _ (aQ [1,2,3,4,5,6,7,8,9,10]) ?_)
  refine e8 U<|KK q<|ao fun _ r=>WS fun _ s=>rP 2 [] I ?_
  refine RK s<|cy U (aX fun D=>?_) (aW fun D=>?_)
  ·refine WS fun _ u=>eV 1 [] (mc 10 U I) U<|PB U CM U<|rP 2 [] I ?_
   refine RK u<|aq<|LX hQ (false,0,st,st,[],sA,sC,[],none,0,[],sg.length) [] [0] (mc 10 U I) U U U U ?_
   exact ⟨E8,fun _=>⟨U,trivial⟩⟩
  refine WK r<|dy cj [21,22,24] [1] [0] [0,1,2,3,4,5,6,7,9] [0,1,2,3,4,5,6,7,8,9,10] U U U U U<|eS U (FA 2 U eD U)<|fS U (L1 (vS sA sg.length sC) 10 U b_ U U)<|eS U (MV U)<|eS U (MV U) ?_
  have FS:=Bm hle hy D
  have K:=B.Hm
  refine eS U (FA 0 U eD U)<|eS U (L1 (vI ((fh l y.dU (A+d)).Lo)) 0 U b_ U U)<|eS U (BI U (kx ⟨om,om⟩))<|eS U (MV U)<|eS U (MV U)<|eS U (BI U (nt ⟨om,om⟩))<|eS U (BI U (kx ⟨om,om⟩)) ?_
  have FC:=wE hbl (5+(4*(b:Int)))
  refine eS U (CL (lv bl blA blC (5+(4*(b:Int))) hbl hbn om) (bk [7]) U)<|eS U (FA 1 U eD U)<|eS U (L1 (vI ((fh l y.dU (A+d)).Hi)) 0 U b_ U U)<|eS U (FA 0 U eD U)<|eS U (L1 (vI ((fh l y.dU (A+d)).Lo)) 0 U b_ U U)<|eS U (BI U (uA ⟨om,om⟩))<|eS U (BI U (kx ⟨om,om⟩)) ?_
  have hr5n:=Int.emod_nonneg (wq bl (5+(4*(b:Int)))) (show ((fh l y.dU (A+d)).Hi-(fh l y.dU (A+d)).Lo+1)≠0 by omega)
  have hr5l:=Int.emod_lt_of_pos (wq bl (5+(4*(b:Int)))) (show 0<((fh l y.dU (A+d)).Hi-(fh l y.dU (A+d)).Lo+1) by omega)
  refine eS U (BI U (mG om om))<|eS U (BI U (kx ⟨om,om⟩)) ?_
  obtain ⟨rd,T⟩: ∃ z:Int,(((A+d)+((fh l y.dU (A+d)).Lo))+((wq bl (5+(4*(b:Int)))) % ((((fh l y.dU (A+d)).Hi)-((fh l y.dU (A+d)).Lo))+1)))=z:=⟨_,rfl⟩
  rw [T]
  have J:A+d+(fh l y.dU (A+d)).Lo≤rd∧rd≤A+d+(fh l y.dU (A+d)).Hi:=by omega
  refine eS U (SX (bf (xs:=[(0,.tmp 102),(1,.tmp 119)]) (cs:=(aA.cells (aA.mk (b:Int) rd))) U U (bg Et U)) U U)<|eS U (FA 2 U eD U)<|eh U<|ja U fun T33 A1=>d_ (xs:=[.tmp 120]) (cs:=(aA.cells (aA.mk (b:Int) rd))) U wL Cf U U U U (by simp [Value.cells,aA.a_]) U U fun Ik=>aH (A1 _ _ (aQ [1,2,3,4,5,6,7,8,10]) (aQ [1,2,3,4,5,6,7,8,9,10,11]) ?_)
  refine cf U fun T35 A2=>?_
  refine dD (es2:=(List.map aA.cells (sg++[aA.mk (b:Int) rd]))) (m':=(sg++[aA.mk (b:Int) rd]).length) 9 U U U Qe U U sm (bo (es:=List.map aA.cells [(aA.mk (b:Int) rd)]) 0 U U (by simp [aA.a_]) U) (lJ _) (by first|omega|(simp; done)|(simp; omega)) (by (simp only [maxLen]; omega)) sm sm U fun V X=>?_
  try dsimp only
  refine aH (A2 _ _ (aQ [1,2,3,4,5,6,7,8,10]) ?_)
  refine cf U fun T38 A3=>Mo (cb.cells (cb.mk st st (bD.mk V ((sg++[aA.mk (b:Int) rd]).length) X))) U Q6 U U<|aH (A3 _ _ (aQ [1,2,3,4,5,6,7,8,10]) ?_)
  refine e8 U<|aR<|KK G<|aw<|rP 2 [] I ?_
  refine aH ?_
  have Bd:(vI (((b+1):Nat):Int))=(vI ((b:Int)+1)):=by exact cI om
  refine bq (P ⟨((b+1),(A+d),left,(times++[A+d]),N,O,(sg++[aA.mk (b:Int) rd]),V,X,(good++[(sg.length:Int)])),⟨om,B.FE E S U (Ca hle hy D J).2,F⟩⟩ _ _ _ U os (cY 8<|bw U Bd<|dG.nil _) (aQ [3,4,5,6,7,8,9,10,11]))
 refine aw<|bE 4 U<|rS (BI U (nt ⟨om,om⟩))<|rP 1 [] I ?_
 have J7:=wE hbl (2+(4*(b:Int)))
 refine rS (CL (lv bl blA blC (2+(4*(b:Int))) hbl hbn om) (bk [5]) U)<|d_ (xs:=[.const (vI 1),.const (vI 50),.const (vI 3000)]) (cs:=[(vI 1),(vI 50),(vI 3000)]) U dk jO U U U U (by simp [Value.cells]) U U fun IO=>bE 2 U<|rS (BI U (nt ⟨om,om⟩))<|rP 1 [] I ?_
 have J8:=wE hbl (3+(4*(b:Int)))
 refine rS (CL (lv bl blA blC (3+(4*(b:Int))) hbl hbn om) (bk [6]) U)<|rS (BI U (mG om om)) ?_
 try dsimp only
 rcases (show ((wq bl (3+(4*(b:Int)))) % 3)=0∨((wq bl (3+(4*(b:Int)))) % 3)=1∨((wq bl (3+(4*(b:Int)))) % 3)=2 from by omega) with C|C|C
 ·rw [C]
  refine rS (Ur 0 0 U dk U dc U)<|eV 1 [] (mc 0 U I) U<|rS (BI U (mG om om))<|rP 3 [] I ?_
  refine aH ?_
  refine bq (g_ (bu U) (aQ [1,2,3,4,5,6,7,8,9]) (H ⟨((o5 l (b:Int))+((wq bl (2+(4*(b:Int)))) % 1)),(by first|omega|(dsimp only; omega))⟩))
 ·rw [C]
  refine rS (Ur 1 1 U dk U dc U)<|eV 1 [] (mc 0 U I) U<|rS (BI U (mG om om))<|rP 3 [] I ?_
  refine aH ?_
  refine bq (g_ (bu U) (aQ [1,2,3,4,5,6,7,8,9]) (H ⟨((o5 l (b:Int))+((wq bl (2+(4*(b:Int)))) % 50)),(by first|omega|(dsimp only; omega))⟩))
 rw [C]
 refine rS (Ur 2 2 U dk U dc U)<|eV 1 [] (mc 0 U I) U<|rS (BI U (mG om om))<|rP 3 [] I ?_
 refine aH ?_
 refine bq (g_ (bu U) (aQ [1,2,3,4,5,6,7,8,9]) (H ⟨((o5 l (b:Int))+((wq bl (2+(4*(b:Int)))) % 3000)),(by first|omega|(dsimp only; omega))⟩))
end
section
open Go.RowKit
theorem D6 (j:cK) (kA:OA) (kC:Nat) (az:List RA) (cA:OA) (cC:Nat) (bA:OA) (bC:Nat) (slA:OA) (slC:Nat) (drA:OA) (drC:Nat) (ha:List c_) (heA:OA) (heC:Nat) (faA:OA) (faC:Nat) (prA:OA) (prC:Nat) (which when9:Int) (bl:List Int) (blA:OA) (blC:Nat) (hraw:oN j az ha) (hwb:0≤which∧which≤255) (hwh:0≤when9∧when9≤4294967295) (hbl: ∀ z∈bl,0≤z∧z≤4294967295) (hbn:bl.length≤9223372036854775807):
 dL Tryz.prog 3 [(vA (ep.cells (nu j kA kC cA cC bA bC slA slC drA drC heA heC faA faC prA prC))),(Value.int .u8 which),(Value.int .u32 when9),(vS blA bl.length blC)] [(rd gU 3 2 fW),(rd kA j.Race.ak.aS.length 9 (j.Race.ak.aS.map ar.cells)),(rd cA j.Race.ak.aj.length 2 (List.zipWith au.cells j.Race.ak.aj az)),(dT (br au.gd j.Race.ak.aj az)),(rd bA j.Race.ak.aa.length 4 (j.Race.ak.aa.map bJ.cells)),(rd slA j.Race.bj.length 1 (j.Race.bj.map iC)),(rd drA j.Race.cq.length 1 (j.Race.cq.map iC)),(rd heA j.Race.aD.length 1 (List.zipWith cL j.Race.aD ha)),(dT (br fj j.Race.aD ha)),(rd faA j.aG.length 4 (j.aG.map aK.cells)),(rd prA j.aF.length 5 (j.aF.map aY.cells)),(rd blA bl.length 1 (bl.map pV))] (vB true):=by
 refine bH kr Tryz.func3 U U fun w0 Q hQ hN=>?_
 try dsimp only
 refine WS fun _ T4=>eO U fun b2=>bE 1 U<|RK T4<|WS fun _ T5=>rS (CL IT (bk [1]) U)<|bE 1 U<|RK T5<|ao fun _ T6=>WS fun _ Jh=>eV 1 [] (mc 0 U I) U<|rS (CL (Cu j kA kC az cA cC bA bC slA slC drA drC ha heA heC faA faC prA prC hraw) (bk [2,3,4,5,6,7,8,9,10,11]) U)<|rP 2 [] I ?_
 refine bK (t:=34) U (aX fun C0=>?_) (aW fun C0=>?_)
 ·refine bE 9 U<|RK Jh<|aT U<|WS fun _ T7=>rP 2 [] I ?_
  refine RK T7<|aq<|Q1 hQ U U U ?_
  rfl
 have v:=hraw.small C0.1
 have R2:=v.race
 have Uw:=v.race.line
 have W_:=v.race.iu
 have XA:=v.race.has
 have W2:=v.race.ir
 have WP:=v.nf
 have W1:=v.np
 have R0:=(eE C0.2).1
 have FE:=(eE C0.2).2
 have R1:=(eH R0).1
 have R3:=(eH R0).2
 have UV:=(du R1).2.head
 unfold eU at UV
 have XD:=R3.num
 have XC:=R3.nh
 have XB:=FE.nf
 have XE:=FE.np
 have W9:=FE.tN
 have T9:0≤j.Race.ak.bO:=by omega
 have W0:=FE.min_
 refine rP 6 [] (mc 0 U I) ?_
 refine bK (t:=40) U (aU fun S2=>?_) (aV fun S2=>?_)
 ·refine bE 3 U<|RK Jh<|aT U<|WS fun _ T8=>rP 2 [] I ?_
  refine RK T8<|aq<|Q1 hQ U U U ?_
  rfl
 refine bE 3 U<|RK Jh<|ct U<|WK T6<|WS fun _ Ne=>bE 2 U<|rS (LP (cr.cells (jC j.Race.ak kA kC cA cC bA bC)) 0 U b_ U U U)<|rP 1 [] I ?_
 refine cX (KM j.Race.ak kA kC az cA cC bA bC bl blA blC asm hbl hbn asm) (bk [2,3,4,5,12]) U fun y9 Ik=>?_
 obtain ⟨R9,WI,A,C,B,H,AB,times17,A7,A8,ST,W4⟩:=y9
 cases R9
 ·obtain ⟨Pm,he⟩:=Ik.2 rfl
  try dsimp only at Pm he
  subst Pm
  try dsimp only [cond_true,cond_false,List.cons_append,List.nil_append]
  refine bE 4 U<|AL U Lr fun W6=>fJ U CM U<|bE 2 U<|RK Ne<|ao fun _ WM=>WS fun _ LA=>bE 2 U<|RK LA<|aT U<|WS fun _ LE=>rP 2 [] I ?_
  refine RK LE<|aq<|Q1 hQ U U U ?_
  rfl
 obtain ⟨htruth,Pv,R6⟩:=Ik.1 rfl
 try dsimp only [cond_true,cond_false,List.cons_append,List.nil_append]
 refine bE 4 U<|AL U Lr fun J7=>fJ U CM U<|bE 2 U<|RK Ne<|ao fun _ LT=>WS fun _ La=>rP 2 [] I ?_
 refine RK La<|cy U (aX fun GE=>?_) (aW fun GE=>?_)
 ·refine WS fun _ Lh=>rP 2 [] I ?_
  refine RK Lh<|aq<|Q1 hQ U U U ?_
  rfl
 refine WK LT<|ao fun _ Li=>?_
 try dsimp only at htruth Pv R6
 have hT:=htruth GE
 have R4:=GE.time
 have If:=GE.len
 dsimp only at R4 If
 refine aw<|bE 1 U<|rS (SX (mC (m:=which) U U M1 sO (mV (by first|assumption|omega))) U U)<|eV 3 [] (mc 3 U I) U<|rS (BI U (mG om om))<|rP 1 [] I ?_
 refine RK Li<|ao fun _ Lk=>?_
 have XG:=Sb which (j.aG.length:Int) hwb.1 om
 obtain ⟨k,Uu,Uh⟩: ∃ k:Nat,(which % (j.aG.length:Int))=(k:Int)∧k<j.aG.length:=⟨((which % (j.aG.length:Int))).toNat,om,om⟩
 rw [Uu]
 refine aw<|rP 1 [] (mc 3 U I) ?_
 refine cX (M7 j kA kC az cA cC bA bC slA slC drA drC ha heA heC faA faC prA prC (by exact v) (by exact C0.1)) (bk [5,6,7,8,9,10,11,12,13,14]) U fun Vb R7=>?_
 obtain ⟨V,c,W,d,Ad,Z,e,GR,GT,Cp,Cx,A9,Bd,In,P,R,A5,A6⟩:=Vb
 try dsimp only
 obtain ⟨⟨Ck,Pl⟩,Re⟩:=R7
 try dsimp only at Ck Pl Re
 have hin2r:=R2.Pr Ck Pl Re
 have WZ:gT j _ _:=⟨hin2r,v.nf,v.np,v.kind⟩
 refine AL rfl Qk fun S1=>fJ rfl Qm rfl<|RK Lk<|ao fun _ Lo=>LL (L':=[(0,(Value.agg (ep.cells (nu j kA kC cA cC bA bC slA slC drA drC heA heC faA faC prA prC)).toArray)),(1,(Value.int .u8 which)),(2,(Value.int .u32 when9)),(3,(Value.slice blA bl.length blC)),(4,(Value.pointer (some ⟨b2,0,none⟩))),(8,(Value.bool false)),(9,(Value.bool true)),(10,(Value.pointer (some ⟨J7,0,none⟩))),(11,(Value.slice A7 times17.length A8)),(12,(Value.bool (decide (er j.Race.ak (bT.mk A C B))))),(13,(Value.int .i64 (k:Int))),(14,(Value.pointer (some ⟨S1,0,none⟩))),(30,(Value.bool true)),(31,(Value.agg (ep.cells (nu j kA kC cA cC bA bC slA slC drA drC heA heC faA faC prA prC)).toArray)),(32,(Value.bool (decide (¬ nc j∧ej j=0)))),(33,(Value.bool (!(decide (¬ nc j∧ej j=0))))),(34,(Value.bool false)),(35,(Value.pointer (some ⟨b2,11,none⟩))),(36,(Value.slice faA j.aG.length faC)),(37,(Value.int .i64 (j.aG.length:Int))),(38,(Value.bool (decide ((j.aG.length:Int)=0)))),(39,(Value.bool (decide ((j.aG.length:Int)=0)))),(40,(Value.bool false)),(41,(Value.bool true)),(42,(Value.bool false)),(43,(Value.bool false)),(45,(Value.tuple [(Value.agg (cb.cells (cb.mk A C (bD.mk H B.length AB))).toArray),(Value.slice A7 times17.length A8),(Value.bool (decide (er j.Race.ak (bT.mk A C B))))].toArray)),(46,(Value.pointer (some ⟨b2,0,none⟩))),(47,(Value.pointer (some ⟨b2,0,none⟩))),(48,(Value.agg (cr.cells (jC j.Race.ak kA kC cA cC bA bC)).toArray)),(49,(Value.slice blA bl.length blC)),(50,(Value.tuple [(Value.agg (cb.cells (cb.mk A C (bD.mk H B.length AB))).toArray),(Value.slice A7 times17.length A8),(Value.bool (decide (er j.Race.ak (bT.mk A C B))))].toArray)),(51,(Value.agg (cb.cells (cb.mk A C (bD.mk H B.length AB))).toArray)),(52,(Value.slice A7 times17.length A8)),(53,(Value.bool (decide (er j.Race.ak (bT.mk A C B))))),(54,(Value.bool (decide (er j.Race.ak (bT.mk A C B))))),(55,(Value.bool (!(decide (er j.Race.ak (bT.mk A C B)))))),(57,(Value.int .u8 which)),(58,(Value.int .i64 which)),(59,(Value.pointer (some ⟨b2,11,none⟩))),(60,(Value.slice faA j.aG.length faC)),(61,(Value.int .i64 (j.aG.length:Int))),(62,(Value.int .i64 (k:Int))),(63,(Value.agg (ep.cells (nu j kA kC cA cC bA bC slA slC drA drC heA heC faA faC prA prC)).toArray)),(64,(Value.agg (ep.cells (ep.mk (eX.mk (cr.mk (bP.mk (bD.mk V j.Race.ak.aS.length c)) j.Race.ak.hZ (bD.mk W j.Race.ak.aj.length d) (bD.mk Z j.Race.ak.aa.length e) j.Race.ak.bO j.Race.ak.fO j.Race.ak.dq) (bD.mk GR j.Race.bj.length GT) (bD.mk Cp j.Race.cq.length Cx) j.Race.kM (bD.mk A9 j.Race.aD.length Bd)) (bD.mk P j.aG.length R) (bD.mk A5 j.aF.length A6) j.ei j.wv)).toArray))]) rfl<|lT cj [2,3,6,7,9,10,12,13] [0,8,1,11,4,5,14] [false,false,false,false,false,false,false,false] [] [(own V c 102 9 (j.Race.ak.aS.map ar.cells)),(own W d 107 2 (List.zipWith au.cells j.Race.ak.aj Ad)),(bV (br au.owns j.Race.ak.aj Ad)),(own Z e 85 4 (j.Race.ak.aa.map bJ.cells)),(own GR GT 3 1 (j.Race.bj.map iC)),(own Cp Cx 3 1 (j.Race.cq.map iC)),(own A9 Bd 51 1 (List.zipWith cL j.Race.aD In)),(bV (br qG j.Race.aD In)),(own P R 54 4 (j.aG.map aK.cells)),(own A5 A6 56 5 (j.aF.map aY.cells)),(cp J7 43 (cb.cells (cb.mk A C (bD.mk H B.length AB)))),(own H AB 87 2 (B.map aA.cells)),(own A7 A8 3 1 (times17.map iC)),(cp b2 36 (ep.cells (nu j kA kC cA cC bA bC slA slC drA drC heA heC faA faC prA prC))),(rd gU 3 2 fW).ro,(rd kA j.Race.ak.aS.length 9 (j.Race.ak.aS.map ar.cells)).ro,(rd cA j.Race.ak.aj.length 2 (List.zipWith au.cells j.Race.ak.aj az)).ro,(dT (br au.gd j.Race.ak.aj az)).ro,(rd bA j.Race.ak.aa.length 4 (j.Race.ak.aa.map bJ.cells)).ro,(rd slA j.Race.bj.length 1 (j.Race.bj.map iC)).ro,(rd drA j.Race.cq.length 1 (j.Race.cq.map iC)).ro,(rd heA j.Race.aD.length 1 (List.zipWith cL j.Race.aD ha)).ro,(dT (br fj j.Race.aD ha)).ro,(rd faA j.aG.length 4 (j.aG.map aK.cells)).ro,(rd prA j.aF.length 5 (j.aF.map aY.cells)).ro,(rd blA bl.length 1 (bl.map pV)).ro] [] kr (aQ [1,2,3,4,5,6,7,8,9,10,11,12,13,14,15,16,17,18,19,20,21,22,23,24,25,26]) (aQ [])<|eS rfl (LW 10 rfl b_ rfl rfl)<|eS rfl (SX (bf (xs:=[(3,.tmp 67)]) (cs:=(aM.cells (aM.mk false false (ag.mk 0 0) (cb.mk A C (bD.mk H B.length AB))))) rfl rfl (bg PE rfl)) rfl rfl)<|eS rfl (FA 0 rfl eD rfl)<|eS rfl (FA 7 rfl eD rfl)<|eS rfl (FA 0 rfl eD rfl)<|eS rfl (FA 8 rfl eD rfl)<|eS rfl (FA 0 rfl eD rfl)<|eS rfl (FA 10 rfl eD rfl)<|eh rfl<|Jp [.take 0,.op 8,.take 1,.op 11,.take 4,.take 5,.op 14] [(68,(Value.agg (aM.cells (aM.mk false false (ag.mk 0 0) (cb.mk A C (bD.mk H B.length AB)))).toArray))] (fun i=>match i with |0=>65|1=>66|4=>69|5=>70|_=>0) (fun i ρ=>match i with |0=> .slice (some ⟨ρ 0,0,none⟩) 1 1|1=> .slice (some ⟨ρ 1,0,none⟩) 1 1|4=> .slice (some ⟨ρ 4,0,none⟩) 1 1|5=> .slice (some ⟨ρ 5,0,none⟩) 1 1|_=>undef) (fun i ρ=>match i with |0=>cp (ρ 0) 3 [(Value.int .i64 1)]|1=>cp (ρ 1) 3 [(Value.int .i64 0)]|4=>cp (ρ 4) 50 (aM.cells (aM.mk false false (ag.mk 0 0) (cb.mk A C (bD.mk H B.length AB))))|5=>cp (ρ 5) 51 [.slice (some ⟨ρ 4,0,none⟩) 1 1]|_=>cp 0 0 []) (fun i=>match i with |5=>[4]|_=>[]) rfl rfl rfl kr rfl rfl (aQ [1,2,3,4,5,6,7,8,9,10,11,12,13,14,15,16,17,18,19,20,21,22,23,24,25,26]) kr kr (iH (fun ρ ρ2 h hd=>⟨congrArg (fun x=>Value.slice (some ⟨x,0,none⟩) 1 1) h,congrArg (fun x=>cp x 3 [(Value.int .i64 1)]) h⟩)<|mM<|iH (fun ρ ρ2 h hd=>⟨congrArg (fun x=>Value.slice (some ⟨x,0,none⟩) 1 1) h,congrArg (fun x=>cp x 3 [(Value.int .i64 0)]) h⟩)<|mM<|iH (fun ρ ρ2 h hd=>⟨congrArg (fun x=>Value.slice (some ⟨x,0,none⟩) 1 1) h,congrArg (fun x=>cp x 50 (aM.cells (aM.mk false false (ag.mk 0 0) (cb.mk A C (bD.mk H B.length AB))))) h⟩)<|iH (fun ρ ρ2 h hd=>⟨congrArg (fun x=>Value.slice (some ⟨x,0,none⟩) 1 1) h,(show cp (ρ 5) 51 [Value.slice (some ⟨ρ 4,0,none⟩) 1 1]=cp (ρ2 5) 51 [Value.slice (some ⟨ρ2 4,0,none⟩) 1 1] from by rw [show ρ 5=ρ2 5 from h,show ρ 4=ρ2 4 from hd 4 (List.mem_singleton.2 rfl)])⟩)<|mM<|Aq) (iH (JD (xs:=[.const (Value.int .i64 1)]) (cs:=[(Value.int .i64 1)]) rfl dk jO rfl rfl rfl rfl (by simp [Value.cells]) rfl rfl rfl (fun _=>rfl) fun _=>rfl)<|mM<|iH (JD (xs:=[.const (Value.int .i64 0)]) (cs:=[(Value.int .i64 0)]) rfl dk jO rfl rfl rfl rfl (by simp [Value.cells]) rfl rfl rfl (fun _=>rfl) fun _=>rfl)<|mM<|iH (JD (xs:=[.tmp 68]) (cs:=(aM.cells (aM.mk false false (ag.mk 0 0) (cb.mk A C (bD.mk H B.length AB))))) rfl rr AK rfl rfl rfl rfl (by simp [Value.cells,aM.a_]) rfl rfl rfl (fun _=>rfl) fun _=>rfl)<|iH (PF (k:=4) (j:=69) rfl oz Tz rfl rfl rfl rfl rfl (fun _=>rfl) (fun _=>rfl) fun _=>rfl)<|mM<|Aq) (fun ρ=>?_)
 intro AC
 show FJ _ _ _ _ _ _ _ _ _ _ _ ((65,vS (some ⟨AC,0,none⟩) 1 1)::_) (cp AC 3 [(vI 1)]::_)
 refine EP U fun Y X K EQ=>Wn (ep.cells (ep.mk (eX.mk (cr.mk (bP.mk (bD.mk V j.Race.ak.aS.length c)) j.Race.ak.hZ (bD.mk W j.Race.ak.aj.length d) (bD.mk Z j.Race.ak.aa.length e) j.Race.ak.bO j.Race.ak.fO j.Race.ak.dq) (bD.mk (some ⟨AC,0,none⟩) 1 1) (bD.mk Cp j.Race.cq.length Cx) j.Race.kM (bD.mk A9 j.Race.aD.length Bd)) (bD.mk P j.aG.length R) (bD.mk A5 j.aF.length A6) j.ei j.wv)) U Db U U<|D_ EQ 54 28 U U (fun w hs=>St.j0 [2,3,4,5,6,7,8,9,10,11,12,13,14,15,16,17,18,19,20,21,22,23,24,25,26,27] U U hs) U U ?_
 try dsimp only [List.take]
 intro AO
 show FJ _ _ _ _ _ _ _ _ _ _ _ ((66,vS (some ⟨AO,0,none⟩) 1 1)::_) (cp AO 3 [(vI 0)]::_)
 refine EP U fun Y X K EQ=>Uo (ep.cells (ep.mk (eX.mk (cr.mk (bP.mk (bD.mk V j.Race.ak.aS.length c)) j.Race.ak.hZ (bD.mk W j.Race.ak.aj.length d) (bD.mk Z j.Race.ak.aa.length e) j.Race.ak.bO j.Race.ak.fO j.Race.ak.dq) (bD.mk (some ⟨AC,0,none⟩) 1 1) (bD.mk (some ⟨AO,0,none⟩) 1 1) j.Race.kM (bD.mk A9 j.Race.aD.length Bd)) (bD.mk P j.aG.length R) (bD.mk A5 j.aF.length A6) j.ei j.wv)) U Db U U<|D_ EQ 55 29 U U (fun w hs=>St.j0 [3,4,5,6,7,8,9,10,11,12,13,14,15,16,17,18,19,20,21,22,23,24,25,26,27,28] U U hs) U U ?_
 try dsimp only [List.take]
 intro u
 show FJ _ _ _ _ _ _ _ _ _ _ _ ((69,vS (some ⟨u,0,none⟩) 1 1)::_) (cp u 50 (aM.cells (aM.mk false false (ag.mk 0 0) (cb.mk A C (bD.mk H B.length AB))))::_)
 intro An
 show FJ _ _ _ _ _ _ _ _ _ _ _ ((70,vS (some ⟨An,0,none⟩) 1 1)::_) (cp An 51 [(vS (some ⟨u,0,none⟩) 1 1)]::_)
 refine EP U fun Y X K EQ=>WO (ep.cells (ep.mk (eX.mk (cr.mk (bP.mk (bD.mk V j.Race.ak.aS.length c)) j.Race.ak.hZ (bD.mk W j.Race.ak.aj.length d) (bD.mk Z j.Race.ak.aa.length e) j.Race.ak.bO j.Race.ak.fO j.Race.ak.dq) (bD.mk (some ⟨AC,0,none⟩) 1 1) (bD.mk (some ⟨AO,0,none⟩) 1 1) j.Race.kM (bD.mk (some ⟨An,0,none⟩) 1 1)) (bD.mk P j.aG.length R) (bD.mk A5 j.aF.length A6) j.ei j.wv)) U RR U U<|D_ EQ 57 31 U U (fun w hs=>St.j0 [5,6,7,8,9,10,11,12,13,14,15,16,17,18,19,20,21,22,23,24,25,26,27,28,29,30] U U hs) U U ?_
 try dsimp only [List.take]
 refine KK Lo<|ao fun _ L0=>?_
 refine iQ (es:=(([1]:List Int).map iC)) (C':=[_,_,_,(own (some ⟨AC,0,none⟩) 1 3 1 (([1]:List Int).map iC)),_,_,_,_,_,_,_,_,_,_,_,_,_,_,_,_,_,_,_,_,_,_,_,_,_,_,_]) 3 U (kT bL _) U (by show _≤maxLen; exact Nat.le_trans (m:=10) (show (1:Nat)≤10 by decide) dc) U ?_
 refine iQ (es:=(([0]:List Int).map iC)) (C':=[_,_,(own (some ⟨AO,0,none⟩) 1 3 1 (([0]:List Int).map iC)),_,_,_,_,_,_,_,_,_,_,_,_,_,_,_,_,_,_,_,_,_,_,_,_,_,_,_,_]) 2 U (kT bL _) U (by show _≤maxLen; exact Nat.le_trans (m:=10) (show (1:Nat)≤10 by decide) dc) U ?_
 refine iQ (es:=(List.zipWith ax.cells [dJ (bT.mk A C B)] [(H,AB)])) (C':=[_,(own (some ⟨u,0,none⟩) 1 50 7 (List.zipWith ax.cells [dJ (bT.mk A C B)] [(H,AB)])),_,_,_,_,_,_,_,_,_,_,_,_,_,_,_,_,_,_,_,_,_,_,_,_,_,_,_,_,_]) 1 U (oi AF) U (by show _≤maxLen; exact Nat.le_trans (m:=10) (show (1:Nat)≤10 by decide) dc) U ?_
 refine iQ (es:=(List.zipWith cL [[dJ (bT.mk A C B)]] [(((some ⟨u,0,none⟩),1),[(H,AB)])])) (C':=[(own (some ⟨An,0,none⟩) 1 51 1 (List.zipWith cL [[dJ (bT.mk A C B)]] [(((some ⟨u,0,none⟩),1),[(H,AB)])])),_,_,_,_,_,_,_,_,_,_,_,_,_,_,_,_,_,_,_,_,_,_,_,_,_,_,_,_,_,_]) 0 U (oi Dg) U (by show _≤maxLen; exact Nat.le_trans (m:=10) (show (1:Nat)≤10 by decide) dc) U ?_
 refine zN (br qG [[dJ (bT.mk A C B)]] [(((some ⟨u,0,none⟩),1),[(H,AB)])]) [1,16] [0,2,3,4,5,6,7,8,9,10,11,12,13,14,15,17,18,19,20,21,22,23,24,25,26,27,28,29,30] U U ?_
 refine DZ 13 U (by rw [List.length_map]; omega) (fun WF E=>?_)
 refine aw<|rP 3 [] (mc 4 U I) ?_
 obtain ⟨f,hf⟩:=aJ j.aG k om
 have J3:=bM aK.cells hf
 refine rS (WH k U E yQ om om)<|bE 1 U<|RK L0<|WS fun _ L2=>rP 5 [] (mc 17 U I) ?_
 obtain ⟨fin,p⟩:=aJ times17 ((j.Race.ak.bO).toNat) om
 have hfin9m:=bM iC p
 refine rS (IA ((j.Race.ak.bO).toNat) U (av (n:=times17.length) 16 U sm) dk dc om om)<|rS (gE ((j.Race.ak.bO).toNat) 0 (vI fin) U b_ (av (n:=times17.length) 16 U sm) hfin9m U dc U)<|rP 1 [] I ?_
 refine RK L2 ?_
 have UG:=Ls hT R1 T9 p
 dsimp only at UG
 have UK:=FE.fault f (aP hf)
 have WX:=UK.2.1
 refine kW (ι:={z:(List aK) // (z.length=j.aG.length)∧(∀ x∈z,0≤x.Kind∧x.Kind≤255)}) [2,4,9,10,11,13,14,15,16] [0,1,2,3,4,5,6,7,8,9,10,11,12,14,15,16,17,18,19,20,21,22,23,24,25,26,27,28,29] U U (fun z=>[]) (fun z=>[(own P R 54 4 (z.1.map aK.cells))]) (fun _=>rfl) (fun _=>rfl) ?_ fun K63 IR=>?_
 ·rintro ⟨fs,⟨Eq,FC⟩⟩
  try dsimp only
  have Qr:=Eq
  have Pw:=FC
  refine WS fun _ C1=>eV 2 [] (mc 16 U I) U<|rS (BI U (nt ⟨om,om⟩))<|bE 1 U<|RK C1<|ao fun _ C2=>dj cj 15 kr<|lz 3 [] (mc 14 U I) U<|dS (BI U (Jl om om (FD om)))<|dS (SX (mC (m:=(when9/8)) U U IB sO (qq (by first|assumption|omega))) U U)<|dP 7 [] (mc 14 U I) ?_
  have hr9n:=Int.emod_nonneg (when9/8) (show (((fin-A)+(60000*j.ei))+1000)≠0 by omega)
  have hr9l:=Int.emod_lt_of_pos (when9/8) (show 0<(((fin-A)+(60000*j.ei))+1000) by omega)
  refine dS (BI U (mG om om))<|dP 2 [] I ?_
  refine cD<|RK C2<|ao fun _ C3=>?_
  obtain ⟨J,Oy⟩: ∃ z:Int,(A+((when9/8) % (((fin-A)+(60000*j.ei))+1000)))=z:=⟨_,rfl⟩
  rw [Oy]
  refine aw<|bE 2 U<|rS (SX (bf (xs:=[(0,.const (vI 1)),(3,.tmp 142),(4,.tmp 143)]) (cs:=(aY.cells (aY.mk 1 0 0 (k:Int) J))) U U (bg Og U)) U U)<|d_ (xs:=[.tmp 144]) (cs:=(aY.cells (aY.mk 1 0 0 (k:Int) J))) U Aj JO U U U U (by simp [Value.cells,aY.a_]) U U fun Ci=>rP 1 [] I ?_
  refine Wx (ep.cells (ep.mk (eX.mk (cr.mk (bP.mk (bD.mk V j.Race.ak.aS.length c)) j.Race.ak.hZ (bD.mk W j.Race.ak.aj.length d) (bD.mk Z j.Race.ak.aa.length e) j.Race.ak.bO j.Race.ak.fO j.Race.ak.dq) (bD.mk (some ⟨AC,0,none⟩) 1 1) (bD.mk (some ⟨AO,0,none⟩) 1 1) j.Race.kM (bD.mk (some ⟨An,0,none⟩) 1 1)) (bD.mk P j.aG.length R) (bD.mk (some ⟨Ci,0,none⟩) 1 1) j.ei j.wv)) U Rn U U<|RK C3<|ao fun _ L3=>ao fun _ M2=>?_
  refine iQ (es:=([uD k J].map aY.cells)) (C':=[(own (some ⟨Ci,0,none⟩) 1 56 5 ([uD k J].map aY.cells)),_,_,_,_,_,_,_,_,_,_,_,_,_,_,_,_,_,_,_,_,_,_,_,_,_,_,_,_,_,_]) 0 U (kT aY.a_ _) U (by show _≤maxLen; exact Nat.le_trans (m:=10) (show (1:Nat)≤10 by decide) dc) U ?_
  rw [show bD.mk P j.aG.length R=bD.mk P fs.length R from by rw [Qr]]
  have FS:oN (hU j (bT.mk A C B) fs k J) _ [(((some ⟨u,0,none⟩),1),[(H,AB)])]:=I8 hin2r.line dso om Pw
  have B9:xe ([[dJ (bT.mk A C B)]]:List (List ax)) [(((some ⟨u,0,none⟩),1),[(H,AB)])]:=Nv
  refine aw<|rP 1 [] (mc 5 U I) ?_
  refine rS (CL (Cu (hU j (bT.mk A C B) fs k J) V c Ad W d Z e (some ⟨AC,0,none⟩) 1 (some ⟨AO,0,none⟩) 1 ([(((some ⟨u,0,none⟩),1),[(H,AB)])]) (some ⟨An,0,none⟩) 1 P R (some ⟨Ci,0,none⟩) 1 (by exact FS)) (aC (av (n:=j.Race.ak.aS.length) 6 U (by (rw [List.length_map]; rfl)))<|aC (av (n:=j.Race.ak.aj.length) 7 U (jm Ck))<|aC (eT 8 U kJ)<|aC (av (n:=j.Race.ak.aa.length) 9 U (by (rw [List.length_map]; rfl)))<|aC (av (n:=([1]:List Int).length) 4 U (by (rw [List.length_map]; rfl)))<|aC (av (n:=([0]:List Int).length) 3 U (by (rw [List.length_map]; rfl)))<|aC (av (n:=([[dJ (bT.mk A C B)]]).length) 2 U (by rfl))<|aC (jM 1 U B9)<|aC (av (n:=fs.length) 30 U (by (rw [List.length_map]; rfl)))<|aC (av (n:=([uD k J]).length) 0 U (by (rw [List.length_map]; rfl)))<|aO) U) ?_
  refine rP 1 [] I ?_
  refine RK M2<|cy U (aX fun s=>?_) (aW fun s=>?_)
  ·refine WS fun _ M_=>rP 2 [] I ?_
   refine RK M_<|aq<|Q1 hQ U U U ?_
   rfl
  refine WK L3<|ao fun _ NE=>?_
  have Fd:=FS.small s.1
  refine aw<|rP 5 [] (mc 15 U I) ?_
  refine RK NE ?_
  obtain ⟨g,J2⟩:=aJ fs k om
  have hf2m:=bM aK.cells J2
  have Id:eA j.Race.ak g:=(eE s.2).2.fault g (aP J2)
  have WW:=Id.1
  have WY:0≤g.de∧g.de≤j.Race.ak.bO:=by have h2:=Id.2.2; split at h2<;>omega
  refine kW (ι:={z:Int×Int // (U8 (bT.mk A C B) times17 g z.1)∧(QY times17 fin g z.2)}) [4,9,10,11,13,14,15,16,18,19] [0,1,2,3,4,5,6,7,8,9,10,11,12,13,14,15,16,17,18,19,20,21,22,23,24,25,26,27,28,29,30] U U (fun z=>[(20,(vI z.1.1)),(21,(vI z.1.2))]) (fun z=>[]) (fun _=>rfl) (fun _=>rfl) ?_ fun K72 Bo=>?_
  ·rintro ⟨⟨i9,o9⟩,⟨A3,A4⟩⟩
   try dsimp only at A3 A4
   try dsimp only
   have O:=Kd hT s.2 J2 p A3 A4
   refine kW (ι:=Unit) [4,9,13,14,16,18,19] [0,1,2,3,4,5,6,7,8,9,10,11,12,13,14,16,17,18,19,20,21,22,23,24,25,26,27,28,29,30] U U (fun z=>[(22,(vB (decide (i9≤g.To∧g.iN≤o9))))]) (fun z=>[]) (fun _=>rfl) (fun _=>rfl) ?_ fun K73 B3=>?_
   ·intro _
    try dsimp only
    refine WS fun _ Di=>rP 2 [] (mc 5 U I) ?_
    refine rS (CL (FL (hU j (bT.mk A C B) fs k J) V c Ad W d Z e (some ⟨AC,0,none⟩) 1 (some ⟨AO,0,none⟩) 1 ([(((some ⟨u,0,none⟩),1),[(H,AB)])]) (some ⟨An,0,none⟩) 1 P R (some ⟨Ci,0,none⟩) 1 (k:Int) 0 0 (by exact Fd)) (gJ 17 U U<|aC (av (n:=j.Race.ak.aS.length) 6 U (by (rw [List.length_map]; rfl)))<|aC (av (n:=j.Race.ak.aj.length) 7 U (jm Ck))<|aC (eT 8 U kJ)<|aC (av (n:=j.Race.ak.aa.length) 9 U (by (rw [List.length_map]; rfl)))<|aC (av (n:=([1]:List Int).length) 4 U (by (rw [List.length_map]; rfl)))<|aC (av (n:=([0]:List Int).length) 3 U (by (rw [List.length_map]; rfl)))<|aC (av (n:=([[dJ (bT.mk A C B)]]).length) 2 U (by rfl))<|aC (jM 1 U B9)<|aC (av (n:=fs.length) 29 U (by (rw [List.length_map]; rfl)))<|aC (av (n:=([uD k J]).length) 0 U (by (rw [List.length_map]; rfl)))<|aO) U) ?_
    refine bE 5 U<|RK Di<|WS fun _ Do=>rP 1 [] (mc 5 U I) ?_
    refine rS (CL (I1 (hU j (bT.mk A C B) fs k J) V c Ad W d Z e (some ⟨AC,0,none⟩) 1 (some ⟨AO,0,none⟩) 1 ([(((some ⟨u,0,none⟩),1),[(H,AB)])]) (some ⟨An,0,none⟩) 1 P R (some ⟨Ci,0,none⟩) 1 0 (by exact Fd)) (gJ 17 U U<|aC (av (n:=j.Race.ak.aS.length) 6 U (by (rw [List.length_map]; rfl)))<|aC (av (n:=j.Race.ak.aj.length) 7 U (jm Ck))<|aC (eT 8 U kJ)<|aC (av (n:=j.Race.ak.aa.length) 9 U (by (rw [List.length_map]; rfl)))<|aC (av (n:=([1]:List Int).length) 4 U (by (rw [List.length_map]; rfl)))<|aC (av (n:=([0]:List Int).length) 3 U (by (rw [List.length_map]; rfl)))<|aC (av (n:=([[dJ (bT.mk A C B)]]).length) 2 U (by rfl))<|aC (jM 1 U B9)<|aC (av (n:=fs.length) 29 U (by (rw [List.length_map]; rfl)))<|aC (av (n:=([uD k J]).length) 0 U (by (rw [List.length_map]; rfl)))<|aO) U) ?_
    refine bE 5 U<|RK Do<|WS fun _ Du=>rP 1 [] (mc 5 U I) ?_
    refine cX (zf (hU j (bT.mk A C B) fs k J) V c Ad W d Z e (some ⟨AC,0,none⟩) 1 (some ⟨AO,0,none⟩) 1 ([(((some ⟨u,0,none⟩),1),[(H,AB)])]) (some ⟨An,0,none⟩) 1 P R (some ⟨Ci,0,none⟩) 1 (by exact Fd)) (gJ 17 U U<|aC (av (n:=j.Race.ak.aS.length) 6 U (by (rw [List.length_map]; rfl)))<|aC (av (n:=j.Race.ak.aj.length) 7 U (jm Ck))<|aC (eT 8 U kJ)<|aC (av (n:=j.Race.ak.aa.length) 9 U (by (rw [List.length_map]; rfl)))<|aC (av (n:=([1]:List Int).length) 4 U (by (rw [List.length_map]; rfl)))<|aC (av (n:=([0]:List Int).length) 3 U (by (rw [List.length_map]; rfl)))<|aC (av (n:=([[dJ (bT.mk A C B)]]).length) 2 U (by rfl))<|aC (jM 1 U B9)<|aC (av (n:=fs.length) 29 U (by (rw [List.length_map]; rfl)))<|aC (av (n:=([uD k J]).length) 0 U (by (rw [List.length_map]; rfl)))<|aO) U fun V9 R8=>?_
    obtain ⟨y,W5,W7⟩:=V9
    try dsimp only
    have A0:=R8
    refine rP 5 [] I ?_
    refine RK Du<|ao fun _ Op=>WS fun _ Or=>?_
    try dsimp only at A0
    have If:=O.rl
    refine rP 3 [] I ?_
    refine bK (t:=228) U (aX fun Go=>?_) (aW fun Go=>?_)
    ·exact absurd (O.te) Go
    refine rP 4 [] I ?_
    refine bK (t:=232) U (aX fun Hi=>?_) (aW fun Hi=>?_)
    ·exact absurd (O.le) Hi
    refine rP 4 [] I ?_
    refine bK (t:=236) U (aX fun Hm=>?_) (aW fun Hm=>?_)
    ·exact absurd (s.2) Hm
    refine bE 1 U<|rS (BI U FI)<|rP 2 [] I ?_
    refine bK (t:=240) U (aU fun K4=>?_) (aV fun K4=>?_)
    ·exfalso; have:=O.tb; omega
    refine bE 1 U<|rS (BI U FI)<|rP 2 [] I ?_
    refine bK (t:=244) U (aU fun K5=>?_) (aV fun K5=>?_)
    ·exfalso; have:=O.lb; omega
    refine rP 4 [] I ?_
    refine RK Or<|cy U (aX fun K8=>?_) (aW fun K8=>?_)
    ·exfalso; omega
    refine WK Op<|WS fun _ Os=>bE 6 U<|RK Os<|WS fun _ N=>rP 5 [] I ?_
    refine bK (t:=258) U (aX fun H1=>?_) (aW fun H1=>?_)
    ·refine bE 6 U<|rS (BI U ky)<|rP 1 [] I ?_
     refine bK (t:=266) U (aX fun A1=>?_) (aW fun A1=>?_)
     ·refine rP 7 [] I ?_
      refine bK (t:=273) U (aX fun T=>?_) (aW fun T=>?_)
      ·refine bE 6 U<|rS (BI U ky)<|rP 1 [] I ?_
       refine bK (t:=281) U (aX fun F=>?_) (aW fun F=>?_)
       ·refine rP 7 [] I ?_
        refine bU (t:=288) U (aW fun D=>?_) (aX fun D=>?_)
        ·exfalso; omega
        refine rP 11 [] I ?_
        refine RK N<|aq<|Q1 hQ U U U ?_
        rfl
       refine rP 4 [] I ?_
       refine bU (t:=285) U (aV fun G=>?_) (aU fun G=>?_)
       ·exact absurd (O.l2 F) G
       refine rP 3 [] I ?_
       refine bU (t:=288) U (aW fun D=>?_) (aX fun D=>?_)
       ·exfalso; omega
       refine rP 11 [] I ?_
       refine RK N<|aq<|Q1 hQ U U U ?_
       rfl
      refine bE 1 U<|rS (BI U ky)<|rP 3 [] I ?_
      refine bU (t:=278) U (aW fun AA=>?_) (aX fun AA=>?_)
      ·exact absurd AA (O.l1 T)
      refine bE 1 U<|rS (BI U ky)<|rP 1 [] I ?_
      refine bK (t:=281) U (aX fun F=>?_) (aW fun F=>?_)
      ·refine rP 7 [] I ?_
       refine bU (t:=288) U (aW fun D=>?_) (aX fun D=>?_)
       ·exfalso; omega
       refine rP 11 [] I ?_
       refine RK N<|aq<|Q1 hQ U U U ?_
       rfl
      refine rP 4 [] I ?_
      refine bU (t:=285) U (aV fun G=>?_) (aU fun G=>?_)
      ·exact absurd (O.l2 F) G
      refine rP 3 [] I ?_
      refine bU (t:=288) U (aW fun D=>?_) (aX fun D=>?_)
      ·exfalso; omega
      refine rP 11 [] I ?_
      refine RK N<|aq<|Q1 hQ U U U ?_
      rfl
     refine rP 4 [] I ?_
     refine bU (t:=270) U (aV fun A2=>?_) (aU fun A2=>?_)
     ·exact absurd (O.t2 A1) A2
     refine rP 3 [] I ?_
     refine bK (t:=273) U (aX fun T=>?_) (aW fun T=>?_)
     ·refine bE 6 U<|rS (BI U ky)<|rP 1 [] I ?_
      refine bK (t:=281) U (aX fun F=>?_) (aW fun F=>?_)
      ·refine rP 7 [] I ?_
       refine bU (t:=288) U (aW fun D=>?_) (aX fun D=>?_)
       ·exfalso; omega
       refine rP 11 [] I ?_
       refine RK N<|aq<|Q1 hQ U U U ?_
       rfl
      refine rP 4 [] I ?_
      refine bU (t:=285) U (aV fun G=>?_) (aU fun G=>?_)
      ·exact absurd (O.l2 F) G
      refine rP 3 [] I ?_
      refine bU (t:=288) U (aW fun D=>?_) (aX fun D=>?_)
      ·exfalso; omega
      refine rP 11 [] I ?_
      refine RK N<|aq<|Q1 hQ U U U ?_
      rfl
     refine bE 1 U<|rS (BI U ky)<|rP 3 [] I ?_
     refine bU (t:=278) U (aW fun AA=>?_) (aX fun AA=>?_)
     ·exact absurd AA (O.l1 T)
     refine bE 1 U<|rS (BI U ky)<|rP 1 [] I ?_
     refine bK (t:=281) U (aX fun F=>?_) (aW fun F=>?_)
     ·refine rP 7 [] I ?_
      refine bU (t:=288) U (aW fun D=>?_) (aX fun D=>?_)
      ·exfalso; omega
      refine rP 11 [] I ?_
      refine RK N<|aq<|Q1 hQ U U U ?_
      rfl
     refine rP 4 [] I ?_
     refine bU (t:=285) U (aV fun G=>?_) (aU fun G=>?_)
     ·exact absurd (O.l2 F) G
     refine rP 3 [] I ?_
     refine bU (t:=288) U (aW fun D=>?_) (aX fun D=>?_)
     ·exfalso; omega
     refine rP 11 [] I ?_
     refine RK N<|aq<|Q1 hQ U U U ?_
     rfl
    refine bE 1 U<|rS (BI U ky)<|rP 3 [] I ?_
    refine bU (t:=263) U (aW fun IO=>?_) (aX fun IO=>?_)
    ·exact absurd IO (O.t1 H1)
    refine bE 1 U<|rS (BI U ky)<|rP 1 [] I ?_
    refine bK (t:=266) U (aX fun A1=>?_) (aW fun A1=>?_)
    ·refine rP 7 [] I ?_
     refine bK (t:=273) U (aX fun T=>?_) (aW fun T=>?_)
     ·refine bE 6 U<|rS (BI U ky)<|rP 1 [] I ?_
      refine bK (t:=281) U (aX fun F=>?_) (aW fun F=>?_)
      ·refine rP 7 [] I ?_
       refine bK (t:=288) U (aX fun D=>?_) (aW fun D=>?_)
       ·exfalso; omega
       refine rP 4 [] I ?_
       refine bU (t:=292) U (aW fun L=>?_) (aX fun L=>?_)
       ·exfalso; omega
       refine rP 7 [] I ?_
       refine RK N<|aq<|Q1 hQ U U U ?_
       rfl
      refine rP 4 [] I ?_
      refine bU (t:=285) U (aV fun G=>?_) (aU fun G=>?_)
      ·exact absurd (O.l2 F) G
      refine rP 3 [] I ?_
      refine bK (t:=288) U (aX fun D=>?_) (aW fun D=>?_)
      ·exfalso; omega
      refine rP 4 [] I ?_
      refine bU (t:=292) U (aW fun L=>?_) (aX fun L=>?_)
      ·exfalso; omega
      refine rP 7 [] I ?_
      refine RK N<|aq<|Q1 hQ U U U ?_
      rfl
     refine bE 1 U<|rS (BI U ky)<|rP 3 [] I ?_
     refine bU (t:=278) U (aW fun AA=>?_) (aX fun AA=>?_)
     ·exact absurd AA (O.l1 T)
     refine bE 1 U<|rS (BI U ky)<|rP 1 [] I ?_
     refine bK (t:=281) U (aX fun F=>?_) (aW fun F=>?_)
     ·refine rP 7 [] I ?_
      refine bK (t:=288) U (aX fun D=>?_) (aW fun D=>?_)
      ·exfalso; omega
      refine rP 4 [] I ?_
      refine bK (t:=292) U (aX fun L=>?_) (aW fun L=>?_)
      ·exfalso; omega
      refine rP 1 [] I ?_
      obtain ⟨row,M⟩:=aJ (dH (hU j (bT.mk A C B) fs k J)) 0 om
      obtain ⟨rowa,S⟩:=aJ y 0 om
      have r:(List.zipWith uP (dH (hU j (bT.mk A C B) fs k J)) y)[0]? =some (uP row rowa):=dF M S
      refine rS (IA 0 U (av (n:=(dH (hU j (bT.mk A C B) fs k J)).length) 0 U (lH A0)) BX dc U om)<|rS (gE 0 0 (vS rowa.1 row.length rowa.2) U b_ (av (n:=(dH (hU j (bT.mk A C B) fs k J)).length) 0 U (lH A0)) r U dc U)<|rS (CL (Am row rowa.1 rowa.2 0 (by exact uT s.2 _ (aP M))) (aC (show iJ _ (rd rowa.1 row.length 1 (row.map iC)).holds from (fun w hw=>(eT 1 U zk) w hw _ (bQ M S (by simp [L7]))))<|aO) U)<|rP 3 [] I ?_
      refine RK N<|aq<|Q1 hQ U U U ?_
      exact cB (dN (O.Nr D L row M))
     refine rP 4 [] I ?_
     refine bU (t:=285) U (aV fun G=>?_) (aU fun G=>?_)
     ·exact absurd (O.l2 F) G
     refine rP 3 [] I ?_
     refine bK (t:=288) U (aX fun D=>?_) (aW fun D=>?_)
     ·exfalso; omega
     refine rP 4 [] I ?_
     refine bK (t:=292) U (aX fun L=>?_) (aW fun L=>?_)
     ·exfalso; omega
     refine rP 1 [] I ?_
     obtain ⟨row,M⟩:=aJ (dH (hU j (bT.mk A C B) fs k J)) 0 om
     obtain ⟨rowa,S⟩:=aJ y 0 om
     have r:(List.zipWith uP (dH (hU j (bT.mk A C B) fs k J)) y)[0]? =some (uP row rowa):=dF M S
     refine rS (IA 0 U (av (n:=(dH (hU j (bT.mk A C B) fs k J)).length) 0 U (lH A0)) BX dc U om)<|rS (gE 0 0 (vS rowa.1 row.length rowa.2) U b_ (av (n:=(dH (hU j (bT.mk A C B) fs k J)).length) 0 U (lH A0)) r U dc U)<|rS (CL (Am row rowa.1 rowa.2 0 (by exact uT s.2 _ (aP M))) (aC (show iJ _ (rd rowa.1 row.length 1 (row.map iC)).holds from (fun w hw=>(eT 1 U zk) w hw _ (bQ M S (by simp [L7]))))<|aO) U)<|rP 3 [] I ?_
     refine RK N<|aq<|Q1 hQ U U U ?_
     exact cB (dN (O.Nr D L row M))
    refine rP 4 [] I ?_
    refine bU (t:=270) U (aV fun A2=>?_) (aU fun A2=>?_)
    ·exact absurd (O.t2 A1) A2
    refine rP 3 [] I ?_
    refine bK (t:=273) U (aX fun T=>?_) (aW fun T=>?_)
    ·refine bE 6 U<|rS (BI U ky)<|rP 1 [] I ?_
     refine bK (t:=281) U (aX fun F=>?_) (aW fun F=>?_)
     ·refine rP 7 [] I ?_
      refine bK (t:=288) U (aX fun D=>?_) (aW fun D=>?_)
      ·exfalso; omega
      refine rP 4 [] I ?_
      refine bU (t:=292) U (aW fun L=>?_) (aX fun L=>?_)
      ·exfalso; omega
      refine rP 7 [] I ?_
      refine RK N<|aq<|Q1 hQ U U U ?_
      rfl
     refine rP 4 [] I ?_
     refine bU (t:=285) U (aV fun G=>?_) (aU fun G=>?_)
     ·exact absurd (O.l2 F) G
     refine rP 3 [] I ?_
     refine bK (t:=288) U (aX fun D=>?_) (aW fun D=>?_)
     ·exfalso; omega
     refine rP 4 [] I ?_
     refine bU (t:=292) U (aW fun L=>?_) (aX fun L=>?_)
     ·exfalso; omega
     refine rP 7 [] I ?_
     refine RK N<|aq<|Q1 hQ U U U ?_
     rfl
    refine bE 1 U<|rS (BI U ky)<|rP 3 [] I ?_
    refine bU (t:=278) U (aW fun AA=>?_) (aX fun AA=>?_)
    ·exact absurd AA (O.l1 T)
    refine bE 1 U<|rS (BI U ky)<|rP 1 [] I ?_
    refine bK (t:=281) U (aX fun F=>?_) (aW fun F=>?_)
    ·refine rP 7 [] I ?_
     refine bK (t:=288) U (aX fun D=>?_) (aW fun D=>?_)
     ·exfalso; omega
     refine rP 4 [] I ?_
     refine bK (t:=292) U (aX fun L=>?_) (aW fun L=>?_)
     ·exfalso; omega
     refine rP 1 [] I ?_
     obtain ⟨row,M⟩:=aJ (dH (hU j (bT.mk A C B) fs k J)) 0 om
     obtain ⟨rowa,S⟩:=aJ y 0 om
     have r:(List.zipWith uP (dH (hU j (bT.mk A C B) fs k J)) y)[0]? =some (uP row rowa):=dF M S
     refine rS (IA 0 U (av (n:=(dH (hU j (bT.mk A C B) fs k J)).length) 0 U (lH A0)) BX dc U om)<|rS (gE 0 0 (vS rowa.1 row.length rowa.2) U b_ (av (n:=(dH (hU j (bT.mk A C B) fs k J)).length) 0 U (lH A0)) r U dc U)<|rS (CL (Am row rowa.1 rowa.2 0 (by exact uT s.2 _ (aP M))) (aC (show iJ _ (rd rowa.1 row.length 1 (row.map iC)).holds from (fun w hw=>(eT 1 U zk) w hw _ (bQ M S (by simp [L7]))))<|aO) U)<|rP 3 [] I ?_
     refine RK N<|aq<|Q1 hQ U U U ?_
     exact cB (dN (O.Nr D L row M))
    refine rP 4 [] I ?_
    refine bU (t:=285) U (aV fun G=>?_) (aU fun G=>?_)
    ·exact absurd (O.l2 F) G
    refine rP 3 [] I ?_
    refine bK (t:=288) U (aX fun D=>?_) (aW fun D=>?_)
    ·exfalso; omega
    refine rP 4 [] I ?_
    refine bK (t:=292) U (aX fun L=>?_) (aW fun L=>?_)
    ·exfalso; omega
    refine rP 1 [] I ?_
    obtain ⟨row,M⟩:=aJ (dH (hU j (bT.mk A C B) fs k J)) 0 om
    obtain ⟨rowa,S⟩:=aJ y 0 om
    have r:(List.zipWith uP (dH (hU j (bT.mk A C B) fs k J)) y)[0]? =some (uP row rowa):=dF M S
    refine rS (IA 0 U (av (n:=(dH (hU j (bT.mk A C B) fs k J)).length) 0 U (lH A0)) BX dc U om)<|rS (gE 0 0 (vS rowa.1 row.length rowa.2) U b_ (av (n:=(dH (hU j (bT.mk A C B) fs k J)).length) 0 U (lH A0)) r U dc U)<|rS (CL (Am row rowa.1 rowa.2 0 (by exact uT s.2 _ (aP M))) (aC (show iJ _ (rd rowa.1 row.length 1 (row.map iC)).holds from (fun w hw=>(eT 1 U zk) w hw _ (bQ M S (by simp [L7]))))<|aO) U)<|rP 3 [] I ?_
    refine RK N<|aq<|Q1 hQ U U U ?_
    exact cB (dN (O.Nr D L row M))
   refine aw<|rP 2 [] I ?_
   refine rS (SX (iy U U E) U U)<|rS (GC ((k*4)+3) U E eD U) ?_
   refine rS (gE k 3 (vI g.To) U b_ (av (n:=fs.length) 30 U (by (simp; done))) hf2m U dc U) ?_
   refine rP 2 [] I ?_
   refine bU (t:=202) U (aV fun K0=>?_) (aU fun K0=>?_)
   ·refine rP 8 [] I ?_
    refine aH ?_
    have Pj:(decide (i9≤g.To∧g.iN≤o9))=false:=bI om
    refine bq (g_ (cY 7<|lE U Pj<|dG.nil _) (aQ [0,1,2,3,4,5,6,7,8,9,10,11,12,13,14,16,17,18,19,20,21,22,23,24,25,26,27,28,29,30]) (B3 ()))
   refine rP 2 [] I ?_
   refine rS (SX (iy U U E) U U)<|rS (GC ((k*4)+2) U E eD U) ?_
   refine rS (gE k 2 (vI g.iN) U b_ (av (n:=fs.length) 30 U (by (simp; done))) hf2m U dc U) ?_
   refine rP 3 [] I ?_
   refine aH ?_
   have Pi:(decide (i9≤g.To∧g.iN≤o9))=(decide (g.iN≤o9)):=gR.2 om
   refine bq (g_ (cY 7<|lE U Pi<|dG.nil _) (aQ [0,1,2,3,4,5,6,7,8,9,10,11,12,13,14,16,17,18,19,20,21,22,23,24,25,26,27,28,29,30]) (B3 ()))
  refine WS fun _ B3=>rP 1 [] I ?_
  refine rS (SX (iy U U E) U U)<|rS (GC (k*4) U E eD U) ?_
  refine rS (gE k 0 (Value.int .u8 g.Kind) U b_ (av (n:=fs.length) 30 U (by (simp; done))) hf2m U dc U) ?_
  refine RK B3<|aI<|WS fun _ Di=>rS (BI U lZ)<|rP 1 [] I ?_
  refine RK Di<|bW U (aV fun J8=>?_) (aU fun J8=>?_)
  ·refine WS fun _ NP=>rS (BI U lZ)<|rP 1 [] I ?_
   refine RK NP<|bW U (aV fun KP=>?_) (aU fun KP=>?_)
   ·refine cu<|aR ?_
    refine bq (g_ (bu U) (aQ [0,1,2,3,4,5,6,7,8,9,10,11,12,13,14,15,16,17,18,19,20,21,22,23,24,25,26,27,28,29,30]) (Bo ⟨(A,fin),⟨⟨fun q=>by first|rfl|omega,fun q1 q2=>by first|rfl|omega,fun q1 q2=>by first|assumption|omega,fun q=>by first|assumption|omega⟩,⟨fun q=>by first|rfl|omega,fun q=>by first|assumption|omega,fun q=>by first|assumption|omega⟩⟩⟩))
   refine dj cj 16 kr<|dP 2 [] I ?_
   refine dS (SX (iy U U E) U U)<|dS (GC ((k*4)+1) U E eD U) ?_
   refine dS (gE k 1 (vI g.de) U b_ (av (n:=fs.length) 30 U (by (simp; done))) hf2m U dc U) ?_
   obtain ⟨fin,p⟩:=aJ times17 ((g.de).toNat) om
   have hfin9m:=bM iC p
   refine dS (IA ((g.de).toNat) U (av (n:=times17.length) 16 U (by (simp; done))) dk dc om om) ?_
   refine dS (gE ((g.de).toNat) 0 (vI fin) U b_ (av (n:=times17.length) 16 U (by (simp; done))) hfin9m U dc U) ?_
   refine dP 2 [] I ?_
   refine dS (SX (iy U U E) U U)<|dS (GC ((k*4)+1) U E eD U) ?_
   refine dS (gE k 1 (vI g.de) U b_ (av (n:=fs.length) 30 U (by (simp; done))) hf2m U dc U) ?_
   refine dS (IA ((g.de).toNat) U (av (n:=times17.length) 16 U (by (simp; done))) dk dc om om) ?_
   refine dS (gE ((g.de).toNat) 0 (vI fin) U b_ (av (n:=times17.length) 16 U (by (simp; done))) hfin9m U dc U) ?_
   refine dP 2 [] I ?_
   refine cD<|aH<|aR ?_
   refine bq (g_ (bu U) (aQ [0,1,2,3,4,5,6,7,8,9,10,11,12,13,14,15,16,17,18,19,20,21,22,23,24,25,26,27,28,29,30]) (Bo ⟨(fin,fin),⟨⟨fun q=>by first|rfl|omega,fun q1 q2=>by first|rfl|omega,fun q1 q2=>by first|assumption|omega,fun q=>by first|assumption|omega⟩,⟨fun q=>by first|rfl|omega,fun q=>by first|assumption|omega,fun q=>by first|assumption|omega⟩⟩⟩))
  refine WS fun _ Do=>rP 2 [] I ?_
  refine rS (SX (iy U U E) U U)<|rS (GC ((k*4)+1) U E eD U) ?_
  refine rS (gE k 1 (vI g.de) U b_ (av (n:=fs.length) 30 U (by (simp; done))) hf2m U dc U) ?_
  obtain ⟨fin,p⟩:=aJ times17 ((g.de).toNat) om
  have hfin9m:=bM iC p
  refine rS (IA ((g.de).toNat) U (av (n:=times17.length) 16 U (by (simp; done))) dk dc om om) ?_
  refine rS (gE ((g.de).toNat) 0 (vI fin) U b_ (av (n:=times17.length) 16 U (by (simp; done))) hfin9m U dc U) ?_
  refine bE 1 U<|RK Do<|WS fun _ Du=>rP 1 [] I ?_
  refine rS (SX (iy U U E) U U)<|rS (GC ((k*4)+1) U E eD U) ?_
  refine rS (gE k 1 (vI g.de) U b_ (av (n:=fs.length) 30 U (by (simp; done))) hf2m U dc U) ?_
  refine rP 1 [] I ?_
  refine RK Du<|bW U (aV fun J9=>?_) (aU fun J9=>?_)
  ·refine cu<|aR ?_
   refine bq (g_ (bu U) (aQ [0,1,2,3,4,5,6,7,8,9,10,11,12,13,14,15,16,17,18,19,20,21,22,23,24,25,26,27,28,29,30]) (Bo ⟨(A,fin),⟨⟨fun q=>by first|rfl|omega,fun q1 q2=>by first|rfl|omega,fun q1 q2=>by first|assumption|omega,fun q=>by first|assumption|omega⟩,⟨fun q=>by first|rfl|omega,fun q=>by first|assumption|omega,fun q=>by first|assumption|omega⟩⟩⟩))
  refine aw<|rP 2 [] I ?_
  refine rS (SX (iy U U E) U U)<|rS (GC ((k*4)+1) U E eD U) ?_
  refine rS (gE k 1 (vI g.de) U b_ (av (n:=fs.length) 30 U (by (simp; done))) hf2m U dc U) ?_
  refine rP 1 [] I ?_
  obtain ⟨o8,VO⟩:=aJ times17 (((g.de-1)).toNat) om
  have ho8m:=bM iC VO
  refine rS (IA (((g.de-1)).toNat) U (av (n:=times17.length) 16 U (by (simp; done))) dk dc om om) ?_
  refine rS (gE (((g.de-1)).toNat) 0 (vI o8) U b_ (av (n:=times17.length) 16 U (by (simp; done))) ho8m U dc U) ?_
  refine rP 1 [] I ?_
  refine aH<|aR ?_
  refine bq (g_ (bu U) (aQ [0,1,2,3,4,5,6,7,8,9,10,11,12,13,14,15,16,17,18,19,20,21,22,23,24,25,26,27,28,29,30]) (Bo ⟨(o8,fin),⟨⟨fun q=>by first|rfl|omega,fun q1 q2=>by first|rfl|omega,fun q1 q2=>by first|assumption|omega,fun q=>by first|assumption|omega⟩,⟨fun q=>by first|rfl|omega,fun q=>by first|assumption|omega,fun q=>by first|assumption|omega⟩⟩⟩))
 refine WS fun _ C1=>rP 1 [] I ?_
 refine rS (BI U (mG om om))<|rS (BI U FI)<|RK C1<|bW U (aV fun T0=>?_) (aU fun T0=>?_)
 ·refine cu ?_
  refine bq (g_ (bu U) (aQ [0,1,2,3,4,5,6,7,8,9,10,11,12,14,15,16,17,18,19,20,21,22,23,24,25,26,27,28,29,13]) (IR ⟨j.aG,(by exact ⟨U,v.kind⟩)⟩))
 refine ao fun _ C2=>dj cj 11 kr<|kE 1 U<|dS (SX (iy U U E) U U)<|dS (GC ((k*4)+3) U E eD U)<|dS (gE k 3 (vI f.To) U b_ (av (n:=j.aG.length) 13 U sm) J3 U dc U)<|kE 1 U<|dS (SX (iy U U E) U U)<|dS (GC ((k*4)+2) U E eD U)<|dS (gE k 2 (vI f.iN) U b_ (av (n:=j.aG.length) 13 U sm) J3 U dc U)<|kE 1 U<|dS (BI U (mG om om))<|kE 1 U<|cD<|RK C2<|ao fun _ C3=>dj cj 15 kr<|lz 4 [] (mc 15 U I) U<|dS (BI U (Jl om om (FD om)))<|dS (SX (mC (m:=(when9/4)) U U IB sO (qq (by first|assumption|omega))) U U)<|dP 5 [] (mc 15 U I) ?_
 have hr8n:=Int.emod_nonneg (when9/4) (show ((fin-A)+1000)≠0 by omega)
 have hr8l:=Int.emod_lt_of_pos (when9/4) (show 0<((fin-A)+1000) by omega)
 refine dS (BI U (mG om om))<|dP 1 [] I ?_
 obtain ⟨fr,UU⟩: ∃ z:Int,(A+((when9/4) % ((fin-A)+1000)))=z:=⟨_,rfl⟩
 rw [UU]
 refine dS (SX (iy U U E) U U)<|dS (GC ((k*4)+2) U E eD U)<|cD ?_
 have PN:(j.aG.set k (aK.mk f.Kind f.de fr f.To))=(j.aG.set k (aK.mk f.Kind f.de fr f.To)):=by rfl
 refine f_ (k:=k) (o:=2) (vs:=[(vI fr)]) (es':=(List.map aK.cells (j.aG.set k (aK.mk f.Kind f.de fr f.To)))) (C':=[_,_,_,_,_,_,_,_,_,_,_,_,_,(own P R 54 4 (List.map aK.cells (j.aG.set k (aK.mk f.Kind f.de fr f.To)))),_,_,_,_,_,_,_,_,_,_,_,_,_,_,_,_]) 13 U U U Ab U U U U J3 U dc (by exact (List.map_set (f:=aK.cells) (l:=j.aG) (i:=k) (a:=(aK.mk f.Kind f.de fr f.To))).symm.trans (congrArg _ PN)) U<|RK C3<|aw<|rP 2 [] I ?_
 refine rS (SX (iy U U E) U U)<|rS (GC ((k*4)+2) U E eD U) ?_
 obtain ⟨f1,Pq⟩:=aJ (j.aG.set k (aK.mk f.Kind f.de fr f.To)) k os
 have hf1m:(List.map aK.cells (j.aG.set k (aK.mk f.Kind f.de fr f.To)))[k]? =some (aK.cells f1):=by rw [gf,Pq]; rfl
 refine rS (gE k 2 (vI f1.iN) U b_ (av (n:=(j.aG.set k (aK.mk f.Kind f.de fr f.To)).length) 13 U sm) hf1m U dc U) ?_
 have R5:=fun (b:Int)=>Ji (b:=b) Uh Pq
 have hf1f:=(R5 0).1
 refine rP 2 [] I ?_
 obtain ⟨tz,VT⟩: ∃ z:Int,(f1.iN+((f.To-f.iN) % 5000))=z:=⟨_,rfl⟩
 rw [VT]
 refine rS (SX (iy U U E) U U)<|rS (GC ((k*4)+3) U E eD U) ?_
 have PP:((j.aG.set k (aK.mk f.Kind f.de fr f.To)).set k (aK.mk f1.Kind f1.de f1.iN tz))=(j.aG.set k (aK.mk f.Kind f.de fr tz)):=by exact (R5 tz).2
 refine f_ (k:=k) (o:=3) (vs:=[(vI tz)]) (es':=(List.map aK.cells (j.aG.set k (aK.mk f.Kind f.de fr tz)))) (C':=[_,_,_,_,_,_,_,_,_,_,_,_,_,(own P R 54 4 (List.map aK.cells (j.aG.set k (aK.mk f.Kind f.de fr tz)))),_,_,_,_,_,_,_,_,_,_,_,_,_,_,_,_]) 13 U U U Ab U U U U hf1m U dc (by exact (List.map_set (f:=aK.cells) (l:=(j.aG.set k (aK.mk f.Kind f.de fr f.To))) (i:=k) (a:=(aK.mk f1.Kind f1.de f1.iN tz))).symm.trans (congrArg _ PP)) U<|aH ?_
 refine bq (g_ (bu U) (aQ [0,1,2,3,4,5,6,7,8,9,10,11,12,14,15,16,17,18,19,20,21,22,23,24,25,26,27,28,29,13]) (IR ⟨(j.aG.set k (aK.mk f.Kind f.de fr tz)),(by exact ⟨List.length_set,Lq v.kind hf U⟩)⟩))
end
section
open Go.RowKit
def fK {α:Type} (cells:α→List Value) (sz:Nat) (R:World→α→Prop) (w:World) (s:bD):Prop:= ∃ l:List α,s.n=l.length∧(rd s.a l.length sz (l.map cells)).holds w∧(∀ x∈l,R w x)∧l.length≤maxLen∧s.n≤s.c
theorem wu {w:World} {R:World→cM→Prop}: ∀ {l:List dx},(∀ x∈l,fK cM.cells 3 R w x.bG)→ ∃ (ms:List au) (az:List RA),l.map dx.cells=List.zipWith au.cells ms az∧ms.length=l.length∧az.length=l.length∧(∀ X∈br au.gd ms az,X.holds w)∧
 (∀ (k:Nat) m (a:RA),ms[k]? =some m→az[k]? =some a→m.bG.length≤a.2∧m.bG.length≤9223372036854775807)∧ms.map (fun m=>m.dw)=l.map (fun x=>x.dw)∧ ∀ (k:Nat) m y,ms[k]? =some m→y∈m.bG→R w y
 |[],_=>⟨[],[],rfl,rfl,rfl,(fun X hX=>by cases hX),(fun k m a h=>by simp at h),rfl,(fun k m y h=>by simp at h)⟩
 |x::l,h=>by
  obtain ⟨ms,az,E,F,G,H,AA,J,K⟩:=wu (fun y hy=>h y (di _ hy))
  obtain ⟨sy,A,B,C,D,L⟩:=h x sm
  have e4':sy.length≤9223372036854775807:=D
  refine ⟨⟨x.dw,sy⟩::ms,(x.bG.a,x.bG.c)::az,?_,by simp [F],by simp [G],fun X hX=>?_,fun k m a hm ha=>?_,by simp [J],fun k m y hm hy=>?_⟩
  ·obtain ⟨dr,⟨a,n,c⟩⟩:=x
   simp only at A
   subst A
   simp only [List.map_cons,List.zipWith_cons_cons,E]
   rfl
  ·rcases gu.1 hX with hX|hX
   ·simp only [au.gd,cv] at hX
    subst hX; exact B
   ·exact H X hX
  ·cases k with
   |zero=>
    simp only [List.getElem?_cons_zero,Option.some.injEq] at hm ha
    subst hm ha
    exact ⟨by simp only; omega,e4'⟩
   |succ k=>exact AA k m a (by simpa using hm) (by simpa using ha)
  ·cases k with
   |zero=>
    simp only [List.getElem?_cons_zero,Option.some.injEq] at hm
    subst hm
    exact C y hy
   |succ k=>exact K k m y (by simpa using hm) hy
theorem HK {w:World} {s:cr} {R1:World→ar→Prop} {R2:World→dx→Prop} {R3:World→bJ→Prop} {R4:World→cM→Prop} (h1:fK ar.cells 9 R1 w s.aS.kl) (hs: ∀ x,R1 w x→0≤x.je∧x.je≤255) (h2:fK dx.cells 2 R2 w s.aj) (hc: ∀ x,R2 w x→fK cM.cells 3 R4 w x.bG) (h3:fK bJ.cells 4 R3 w s.aa):
 ∃ (l:bp) (az:List RA) (kA:OA) (kC:Nat) (cA:OA) (cC:Nat) (bA:OA) (bC:Nat),s=cr.mk (bP.mk (bD.mk kA l.aS.length kC)) l.hZ (bD.mk cA l.aj.length cC) (bD.mk bA l.aa.length bC) l.bO l.fO l.dq∧uq l az∧
  ((rd kA l.aS.length 9 (l.aS.map ar.cells)).holds w∧(rd cA l.aj.length 2 (List.zipWith au.cells l.aj az)).holds w∧(dT (br au.gd l.aj az)).holds w∧(rd bA l.aa.length 4 (l.aa.map bJ.cells)).holds w)∧l.hZ=s.hZ∧l.bO=s.bO∧l.fO=s.fO∧l.dq=s.dq:=by
 obtain ⟨⟨⟨ka,kn,kc⟩⟩,fa,⟨ca,cn,cc⟩,⟨ba,bn,bc⟩,fi,fk,mi⟩:=s
 obtain ⟨ts,E,M,N,O,T⟩:=h1
 obtain ⟨cs,B,C,H,AA,R⟩:=h2
 obtain ⟨bs,A,F,P,G,Q⟩:=h3
 simp only at E B A
 subst E B A
 obtain ⟨ms,az,J,D,S,K,L,_⟩:=wu (fun x hx=>hc x (H x hx))
 have t4':ts.length≤9223372036854775807:=O
 have c4':cs.length≤9223372036854775807:=AA
 have b4':bs.length≤9223372036854775807:=G
 refine ⟨⟨ts,fa,ms,bs,fi,fk,mi⟩,az,ka,kc,ca,cc,ba,bc,by simp only [D],⟨t4',fun x hx=>hs x (N x hx),by simp only; omega,by simp only; omega,b4',L⟩,⟨M,?_,K,F⟩,U,U,U,U⟩
 simp only at C ⊢
 rw [D,← J]; exact C
end
section
open Go.RowKit
theorem xI {w:World} {R:World→aA→Prop}: ∀ {l:List aM},(∀ x∈l,fK aA.cells 2 R w x.bx.ab)→ ∃ (ms:List ax) (az:List RA),l.map aM.cells=List.zipWith ax.cells ms az∧ms.length=l.length∧az.length=l.length∧(∀ X∈br ax.gd ms az,X.holds w)∧
 ∀ d∈ms,d.bx.ab.length≤9223372036854775807
 |[],_=>⟨[],[],rfl,rfl,rfl,(fun X hX=>by cases hX),fun d h=>by cases h⟩
 |x::l,h=>by
  obtain ⟨ms,az,D,E,F,G,H⟩:=xI (fun y hy=>h y (di _ hy))
  obtain ⟨sg,A,B,AA,C,J⟩:=h x sm
  have e4':sg.length≤9223372036854775807:=C
  refine ⟨⟨x.Out,x.dC,x.Time,⟨x.bx.Start,x.bx.gh,sg⟩⟩::ms,(x.bx.ab.a,x.bx.ab.c)::az,?_,by simp [E],by simp [F],fun X hX=>?_,fun d hd=>?_⟩
  ·obtain ⟨o,f,t,⟨st,nw,⟨a,n,c⟩⟩⟩:=x
   simp only at A
   subst A
   simp only [List.map_cons,List.zipWith_cons_cons,D]
   rfl
  ·rcases gu.1 hX with hX|hX
   ·simp only [ax.gd,cv] at hX
    subst hX; exact B
   ·exact G X hX
  ·rcases bR.1 hd with rfl|hd
   ·exact e4'
   ·exact H d hd
theorem yk {w:World} {R2:World→aM→Prop} {R:World→aA→Prop} (hc: ∀ x,R2 w x→fK aA.cells 2 R w x.bx.ab): ∀ {l:List bD},(∀ x∈l,fK aM.cells 7 R2 w x)→ ∃ (ms:List (List ax)) (ha:List c_),(l.map fun s=>[vS s.a s.n s.c])=List.zipWith cL ms ha∧ms.length=l.length∧ha.length=l.length∧(∀ X∈br fj ms ha,X.holds w)∧
 ∀ (k:Nat) h (a:c_),ms[k]? =some h→ha[k]? =some a→h.length≤9223372036854775807∧a.2.length=h.length∧ ∀ d∈h,d.bx.ab.length≤9223372036854775807
 |[],_=>⟨[],[],rfl,rfl,rfl,(fun X hX=>by cases hX),(fun k h a q=>by simp at q)⟩
 |x::l,h=>by
  obtain ⟨ms,ha,J,K,L,M,N⟩:=yk hc (fun y hy=>h y (di _ hy))
  obtain ⟨ds,C,G,H,AA,P⟩:=h x sm
  obtain ⟨dm,az,D,B,O,E,F⟩:=xI fun y hy=>hc y (H y hy)
  have e4':ds.length≤9223372036854775807:=AA
  refine ⟨dm::ms,((x.a,x.c),az)::ha,?_,by simp [K],by simp [L],fun X hX=>?_,fun k m a hm A=>?_⟩
  ·obtain ⟨a,n,c⟩:=x
   simp only at C
   subst C
   simp only [List.map_cons,List.zipWith_cons_cons,J,cL,B]
  ·rcases gu.1 hX with hX|hX
   ·unfold fj at hX
    rcases bR.1 hX with rfl|hX
    ·simp only
     rw [B,← D]; exact G
    ·exact E X hX
   ·exact M X hX
  ·cases k with
   |zero=>
    simp only [List.getElem?_cons_zero,Option.some.injEq] at hm A
    subst hm A
    exact ⟨om,by simp only; omega,F⟩
   |succ k=>exact N k m a (by simpa using hm) (by simpa using A)
theorem GG {w:World} {s:eX} {R1:World→ar→Prop} {R2:World→dx→Prop} {R3:World→bJ→Prop} {R4:World→cM→Prop} {R5:World→Int→Prop} {R6:World→bD→Prop} {R7:World→aM→Prop} {R8:World→aA→Prop}
 (h1:fK ar.cells 9 R1 w s.ak.aS.kl) (hs: ∀ x,R1 w x→0≤x.je∧x.je≤255) (h2:fK dx.cells 2 R2 w s.ak.aj) (hc: ∀ x,R2 w x→fK cM.cells 3 R4 w x.bG) (h3:fK bJ.cells 4 R3 w s.ak.aa)
 (h4:fK iC 1 R5 w s.bj) (h5:fK iC 1 R5 w s.cq) (h6:fK (fun s=>[vS s.a s.n s.c]) 1 R6 w s.aD) (h7: ∀ x,R6 w x→fK aM.cells 7 R7 w x) (h8: ∀ x,R7 w x→fK aA.cells 2 R8 w x.bx.ab):
 ∃ (r:fu) (az:List RA) (ha:List c_) (kA:OA) (kC:Nat) (cA:OA) (cC:Nat) (bA:OA) (bC:Nat) (slA:OA) (slC:Nat) (drA:OA) (drC:Nat) (heA:OA) (heC:Nat),
  s=eX.mk (cr.mk (bP.mk (bD.mk kA r.ak.aS.length kC)) r.ak.hZ (bD.mk cA r.ak.aj.length cC) (bD.mk bA r.ak.aa.length bC) r.ak.bO r.ak.fO r.ak.dq) (bD.mk slA r.bj.length slC) (bD.mk drA r.cq.length drC) r.kM (bD.mk heA r.aD.length heC)∧uU r az ha∧
  ((rd kA r.ak.aS.length 9 (r.ak.aS.map ar.cells)).holds w∧(rd cA r.ak.aj.length 2 (List.zipWith au.cells r.ak.aj az)).holds w∧(dT (br au.gd r.ak.aj az)).holds w∧(rd bA r.ak.aa.length 4 (r.ak.aa.map bJ.cells)).holds w∧
   (rd slA r.bj.length 1 (r.bj.map iC)).holds w∧(rd drA r.cq.length 1 (r.cq.map iC)).holds w∧(rd heA r.aD.length 1 (List.zipWith cL r.aD ha)).holds w∧(dT (br fj r.aD ha)).holds w):=by
 obtain ⟨ln,⟨sa,sn,sc⟩,⟨da,dn,dc⟩,tu,⟨ea,en,ec⟩⟩:=s
 obtain ⟨l,az,kA,kC,cA,cC,bA,bC,e,A,hh,_⟩:=HK (s:=ln) h1 hs h2 hc h3
 subst e
 obtain ⟨sl,F,N,T,O,AA⟩:=h4
 obtain ⟨dr,B,G,P,H,Q⟩:=h5
 obtain ⟨he,D,E,L,M,S⟩:=h6
 obtain ⟨ms,ha,AB,C,R,J,K⟩:=yk h8 (fun x hx=>h7 x (L x hx))
 simp only at F B D
 subst F B D
 have s4':sl.length≤9223372036854775807:=O
 have d4':dr.length≤9223372036854775807:=H
 have q4':he.length≤9223372036854775807:=M
 refine ⟨⟨l,sl,dr,tu,ms⟩,az,ha,kA,kC,cA,cC,bA,bC,sa,sc,da,dc,ea,ec,by simp only [C],⟨A,s4',d4',by simp only; omega,by simp only; omega,K⟩,hh.1,hh.2.1,hh.2.2.1,hh.2.2.2,N,G,?_,J⟩
 simp only at E ⊢
 rw [C,← AB]; exact E
end
section
open Go.RowKit
theorem Hp {w:World} {s:ep} {R1:World→ar→Prop} {R2:World→dx→Prop} {R3:World→bJ→Prop} {R4:World→cM→Prop} {R5:World→Int→Prop} {R6:World→bD→Prop} {R7:World→aM→Prop} {R8:World→aA→Prop} {R9:World→aK→Prop} {R10:World→aY→Prop}
 (h1:fK ar.cells 9 R1 w s.Race.ak.aS.kl) (hs: ∀ x,R1 w x→0≤x.je∧x.je≤255) (h2:fK dx.cells 2 R2 w s.Race.ak.aj) (hc: ∀ x,R2 w x→fK cM.cells 3 R4 w x.bG) (h3:fK bJ.cells 4 R3 w s.Race.ak.aa)
 (h4:fK iC 1 R5 w s.Race.bj) (h5:fK iC 1 R5 w s.Race.cq) (h6:fK (fun s=>[vS s.a s.n s.c]) 1 R6 w s.Race.aD) (h7: ∀ x,R6 w x→fK aM.cells 7 R7 w x) (h8: ∀ x,R7 w x→fK aA.cells 2 R8 w x.bx.ab)
 (h9:fK aK.cells 4 R9 w s.aG) (hk: ∀ x,R9 w x→0≤x.Kind∧x.Kind≤255) (h10:fK aY.cells 5 R10 w s.aF):
 ∃ (j:cK) (az:List RA) (ha:List c_) (kA:OA) (kC:Nat) (cA:OA) (cC:Nat) (bA:OA) (bC:Nat) (slA:OA) (slC:Nat) (drA:OA) (drC:Nat) (heA:OA) (heC:Nat) (faA:OA) (faC:Nat) (prA:OA) (prC:Nat),
  s=ep.mk (eX.mk (cr.mk (bP.mk (bD.mk kA j.Race.ak.aS.length kC)) j.Race.ak.hZ (bD.mk cA j.Race.ak.aj.length cC) (bD.mk bA j.Race.ak.aa.length bC) j.Race.ak.bO j.Race.ak.fO j.Race.ak.dq) (bD.mk slA j.Race.bj.length slC) (bD.mk drA j.Race.cq.length drC) j.Race.kM (bD.mk heA j.Race.aD.length heC)) (bD.mk faA j.aG.length faC) (bD.mk prA j.aF.length prC) j.ei j.wv∧oN j az ha∧
  ((rd kA j.Race.ak.aS.length 9 (j.Race.ak.aS.map ar.cells)).holds w∧(rd cA j.Race.ak.aj.length 2 (List.zipWith au.cells j.Race.ak.aj az)).holds w∧(dT (br au.gd j.Race.ak.aj az)).holds w∧(rd bA j.Race.ak.aa.length 4 (j.Race.ak.aa.map bJ.cells)).holds w∧
   (rd slA j.Race.bj.length 1 (j.Race.bj.map iC)).holds w∧(rd drA j.Race.cq.length 1 (j.Race.cq.map iC)).holds w∧(rd heA j.Race.aD.length 1 (List.zipWith cL j.Race.aD ha)).holds w∧(dT (br fj j.Race.aD ha)).holds w∧
   (rd faA j.aG.length 4 (j.aG.map aK.cells)).holds w∧(rd prA j.aF.length 5 (j.aF.map aY.cells)).holds w):=by
 obtain ⟨rc,⟨fa,fn,fc⟩,⟨pa,pn,pc⟩,mi,fe⟩:=s
 obtain ⟨r,az,ha,kA,kC,cA,cC,bA,bC,slA,slC,drA,drC,heA,heC,e,A,hm⟩:=GG (s:=rc) h1 hs h2 hc h3 h4 h5 h6 h7 h8
 subst e
 obtain ⟨fl,B,D,E,F,AA⟩:=h9
 obtain ⟨pr,C,G,J,H,K⟩:=h10
 simp only at B C
 subst B C
 have f4':fl.length≤9223372036854775807:=F
 have p4':pr.length≤9223372036854775807:=H
 exact ⟨⟨r,fl,pr,mi,fe⟩,az,ha,kA,kC,cA,cC,bA,bC,slA,slC,drA,drC,heA,heC,fa,fc,pa,pc,U,⟨A,f4',p4',fun f hf=>hk f (E f hf)⟩,hm.1,hm.2.1,hm.2.2.1,hm.2.2.2.1,hm.2.2.2.2.1,hm.2.2.2.2.2.1,hm.2.2.2.2.2.2.1,hm.2.2.2.2.2.2.2,D,G⟩
end
section
open Go.ChangeShapes Go.WideShapes Go.ChangeAt Go.RowKit
theorem UI:Tryz.prog.cellsOf 36=15:=by kernel_rfl
theorem Rq:Tryz.prog.cellsOf 32=11:=by kernel_rfl
theorem Ru:Tryz.prog.cellsOf 28=7:=by kernel_rfl
theorem SB:Tryz.prog.cellsOf 24=1:=by kernel_rfl
theorem Vu:Tryz.prog.cellsOf 22=1:=by kernel_rfl
theorem O0:Tryz.prog.cellsOf 102=9:=by kernel_rfl
theorem vb:Tryz.prog.cellsOf 3=1:=by kernel_rfl
def tU (w:World) (n:Int):Prop:=ru n
theorem vc:pW Tryz.prog 3 Int iC tU:=P6 sO
theorem DM:Tryz.prog.cellsOf 48=2:=by kernel_rfl
structure Ea (w:World) (s:ag):Prop where
 Lo:tU w s.Lo
 Hi:tU w s.Hi
theorem VS:fL Tryz.prog 48=some [(3,0),(3,1)]:=by kernel_rfl
theorem H3:pW Tryz.prog 48 ag ag.cells Ea:=fun {H} enc w base sp A fuel cs x h=>by
 obtain ⟨hl,hp⟩:=iD VS h
 obtain ⟨M,O,F⟩:=hp 0 3 0 rfl
 obtain ⟨K,B,AA⟩:=vc _ _ _ _ _ _ _ _ F
 obtain ⟨N,P,G⟩:=hp 1 3 1 rfl
 obtain ⟨L,C,J⟩:=vc _ _ _ _ _ _ _ _ G
 refine ⟨⟨K,L⟩,?_,⟨AA,J⟩⟩
 have E:=gp (hl.trans DM) (by rw [vb]) C
 have D:=cJ B (m:=1) (by rw [vb]) E
 exact D
theorem Wu:Tryz.prog.cellsOf 5=1:=by kernel_rfl
def V3 (w:World) (n:Int):Prop:=0≤n∧n≤255
theorem Wl:pW Tryz.prog 5 Int Lm V3:=SG M1
structure LI (w:World) (s:ar):Prop where
 Id:tU w s.Id
 kG:Ea w s.kG
 mm:Ea w s.mm
 eQ:Ea w s.eQ
 je:V3 w s.je
 zZ:tU w s.zZ
theorem S3:fL Tryz.prog 102=some [(3,0),(48,1),(48,3),(48,5),(5,7),(3,8)]:=by kernel_rfl
theorem Rl:pW Tryz.prog 102 ar ar.cells LI:=fun {H} enc w base sp A fuel cs x h=>by
 obtain ⟨hl,hp⟩:=iD S3 h
 obtain ⟨g,o,O⟩:=hp 0 3 0 rfl
 obtain ⟨a,B,AA⟩:=vc _ _ _ _ _ _ _ _ O
 obtain ⟨i,p,P⟩:=hp 1 48 1 rfl
 obtain ⟨b,C,V⟩:=H3 _ _ _ _ _ _ _ _ P
 obtain ⟨j,q,Q⟩:=hp 2 48 3 rfl
 obtain ⟨c,D,W⟩:=H3 _ _ _ _ _ _ _ _ Q
 obtain ⟨k,r,R⟩:=hp 3 48 5 rfl
 obtain ⟨d,E,X⟩:=H3 _ _ _ _ _ _ _ _ R
 obtain ⟨l,s,S⟩:=hp 4 5 7 rfl
 obtain ⟨e,F,Y⟩:=Wl _ _ _ _ _ _ _ _ S
 obtain ⟨n,t,T⟩:=hp 5 3 8 rfl
 obtain ⟨f,G,Z⟩:=vc _ _ _ _ _ _ _ _ T
 refine ⟨⟨a,b,c,d,e,f⟩,?_,⟨AA,V,W,X,Y,Z⟩⟩
 have N:=gp (hl.trans O0) (by rw [vb]) G
 have M:=cJ F (m:=8) (by rw [Wu]) N
 have L:=cJ E (m:=7) (by rw [DM]) M
 have K:=cJ D (m:=5) (by rw [DM]) L
 have J:=cJ C (m:=3) (by rw [DM]) K
 have AB:=cJ B (m:=1) (by rw [vb]) J
 exact AB
def Ta (w:World) (s:bD):Prop:= ∃ l:List ar,s.n=l.length∧(rd s.a l.length 9 (l.map ar.cells)).holds w∧(∀ x∈l,LI w x)∧l.length≤maxLen∧s.n≤s.c
theorem UF:pW Tryz.prog 22 bD (fun s=>[vS s.a s.n s.c]) Ta:=j3 Tb O0 Rl
structure Rz (w:World) (s:bP):Prop where
 kl:Ta w s.kl
theorem VD:fL Tryz.prog 24=some [(22,0)]:=by kernel_rfl
theorem U9:pW Tryz.prog 24 bP bP.cells Rz:=fun {H} enc w base sp A fuel cs x h=>by
 obtain ⟨hl,hp⟩:=iD VD h
 obtain ⟨G,AA,D⟩:=hp 0 22 0 rfl
 obtain ⟨F,B,E⟩:=UF _ _ _ _ _ _ _ _ D
 refine ⟨⟨F⟩,?_,⟨E⟩⟩
 have C:=gp (hl.trans SB) (by rw [Vu]) B
 exact C
theorem V8:Tryz.prog.cellsOf 25=1:=by kernel_rfl
theorem OC:Tryz.prog.cellsOf 107=2:=by kernel_rfl
theorem RX:Tryz.prog.cellsOf 105=1:=by kernel_rfl
theorem Pc:Tryz.prog.cellsOf 104=3:=by kernel_rfl
structure LK (w:World) (s:cM):Prop where
 At:tU w s.At
 dR:Ea w s.dR
theorem Uf:fL Tryz.prog 104=some [(3,0),(48,1)]:=by kernel_rfl
theorem TQ:pW Tryz.prog 104 cM cM.cells LK:=fun {H} enc w base sp A fuel cs x h=>by
 obtain ⟨hl,hp⟩:=iD Uf h
 obtain ⟨M,O,F⟩:=hp 0 3 0 rfl
 obtain ⟨K,B,AA⟩:=vc _ _ _ _ _ _ _ _ F
 obtain ⟨N,P,G⟩:=hp 1 48 1 rfl
 obtain ⟨L,C,J⟩:=H3 _ _ _ _ _ _ _ _ G
 refine ⟨⟨K,L⟩,?_,⟨AA,J⟩⟩
 have E:=gp (hl.trans Pc) (by rw [DM]) C
 have D:=cJ B (m:=1) (by rw [vb]) E
 exact D
def O5 (w:World) (s:bD):Prop:= ∃ l:List cM,s.n=l.length∧(rd s.a l.length 3 (l.map cM.cells)).holds w∧(∀ x∈l,LK w x)∧l.length≤maxLen∧s.n≤s.c
theorem TS:pW Tryz.prog 105 bD (fun s=>[vS s.a s.n s.c]) O5:=j3 SA Pc TQ
structure Ia (w:World) (s:dx):Prop where
 dw:tU w s.dw
 bG:O5 w s.bG
theorem TE:fL Tryz.prog 107=some [(3,0),(105,1)]:=by kernel_rfl
theorem RS:pW Tryz.prog 107 dx dx.cells Ia:=fun {H} enc w base sp A fuel cs x h=>by
 obtain ⟨hl,hp⟩:=iD TE h
 obtain ⟨M,O,F⟩:=hp 0 3 0 rfl
 obtain ⟨K,B,AA⟩:=vc _ _ _ _ _ _ _ _ F
 obtain ⟨N,P,G⟩:=hp 1 105 1 rfl
 obtain ⟨L,C,J⟩:=TS _ _ _ _ _ _ _ _ G
 refine ⟨⟨K,L⟩,?_,⟨AA,J⟩⟩
 have E:=gp (hl.trans OC) (by rw [RX]) C
 have D:=cJ B (m:=1) (by rw [vb]) E
 exact D
def SW (w:World) (s:bD):Prop:= ∃ l:List dx,s.n=l.length∧(rd s.a l.length 2 (l.map dx.cells)).holds w∧(∀ x∈l,Ia w x)∧l.length≤maxLen∧s.n≤s.c
theorem VY:pW Tryz.prog 25 bD (fun s=>[vS s.a s.n s.c]) SW:=j3 U7 OC RS
theorem Vc:Tryz.prog.cellsOf 26=1:=by kernel_rfl
theorem TI:Tryz.prog.cellsOf 85=4:=by kernel_rfl
theorem Sr:Tryz.prog.cellsOf 83=3:=by kernel_rfl
structure Uc (w:World) (s:cH):Prop where
 bB:tU w s.bB
 m0:Ea w s.m0
theorem Vl:fL Tryz.prog 83=some [(3,0),(48,1)]:=by kernel_rfl
theorem U1:pW Tryz.prog 83 cH cH.cells Uc:=fun {H} enc w base sp A fuel cs x h=>by
 obtain ⟨hl,hp⟩:=iD Vl h
 obtain ⟨M,O,F⟩:=hp 0 3 0 rfl
 obtain ⟨K,B,AA⟩:=vc _ _ _ _ _ _ _ _ F
 obtain ⟨N,P,G⟩:=hp 1 48 1 rfl
 obtain ⟨L,C,J⟩:=H3 _ _ _ _ _ _ _ _ G
 refine ⟨⟨K,L⟩,?_,⟨AA,J⟩⟩
 have E:=gp (hl.trans Sr) (by rw [DM]) C
 have D:=cJ B (m:=1) (by rw [vb]) E
 exact D
structure QN (w:World) (s:bJ):Prop where
 ni:Uc w s.ni
 dU:tU w s.dU
theorem VK:fL Tryz.prog 85=some [(83,0),(3,3)]:=by kernel_rfl
theorem VZ:pW Tryz.prog 85 bJ bJ.cells QN:=fun {H} enc w base sp A fuel cs x h=>by
 obtain ⟨hl,hp⟩:=iD VK h
 obtain ⟨M,O,F⟩:=hp 0 83 0 rfl
 obtain ⟨K,B,AA⟩:=U1 _ _ _ _ _ _ _ _ F
 obtain ⟨N,P,G⟩:=hp 1 3 3 rfl
 obtain ⟨L,C,J⟩:=vc _ _ _ _ _ _ _ _ G
 refine ⟨⟨K,L⟩,?_,⟨AA,J⟩⟩
 have E:=gp (hl.trans TI) (by rw [vb]) C
 have D:=cJ B (m:=3) (by rw [Sr]) E
 exact D
def Sh (w:World) (s:bD):Prop:= ∃ l:List bJ,s.n=l.length∧(rd s.a l.length 4 (l.map bJ.cells)).holds w∧(∀ x∈l,QN w x)∧l.length≤maxLen∧s.n≤s.c
theorem Ve:pW Tryz.prog 26 bD (fun s=>[vS s.a s.n s.c]) Sh:=j3 Po TI VZ
structure RQ (w:World) (s:cr):Prop where
 aS:Rz w s.aS
 hZ:tU w s.hZ
 aj:SW w s.aj
 aa:Sh w s.aa
 bO:tU w s.bO
 fO:tU w s.fO
 dq:tU w s.dq
theorem Vg:fL Tryz.prog 28=some [(24,0),(3,1),(25,2),(26,3),(3,4),(3,5),(3,6)]:=by kernel_rfl
theorem Uy:pW Tryz.prog 28 cr cr.cells RQ:=fun {H} enc w base sp A fuel cs x h=>by
 obtain ⟨hl,hp⟩:=iD Vg h
 obtain ⟨n,u,Q⟩:=hp 0 24 0 rfl
 obtain ⟨e,B,X⟩:=U9 _ _ _ _ _ _ _ _ Q
 obtain ⟨o,v,R⟩:=hp 1 3 1 rfl
 obtain ⟨f,C,Y⟩:=vc _ _ _ _ _ _ _ _ R
 obtain ⟨p,y,S⟩:=hp 2 25 2 rfl
 obtain ⟨g,D,Z⟩:=VY _ _ _ _ _ _ _ _ S
 obtain ⟨q,z,T⟩:=hp 3 26 3 rfl
 obtain ⟨i,E,a⟩:=Ve _ _ _ _ _ _ _ _ T
 obtain ⟨r,y4,AA⟩:=hp 4 3 4 rfl
 obtain ⟨j,F,b⟩:=vc _ _ _ _ _ _ _ _ AA
 obtain ⟨s,y5,V⟩:=hp 5 3 5 rfl
 obtain ⟨k,G,c⟩:=vc _ _ _ _ _ _ _ _ V
 obtain ⟨t,y6,W⟩:=hp 6 3 6 rfl
 obtain ⟨l,AB,d⟩:=vc _ _ _ _ _ _ _ _ W
 refine ⟨⟨e,f,g,i,j,k,l⟩,?_,⟨X,Y,Z,a,b,c,d⟩⟩
 have P:=gp (hl.trans Ru) (by rw [vb]) AB
 have O:=cJ G (m:=6) (by rw [vb]) P
 have N:=cJ F (m:=5) (by rw [vb]) O
 have M:=cJ E (m:=4) (by rw [Vc]) N
 have L:=cJ D (m:=3) (by rw [V8]) M
 have K:=cJ C (m:=2) (by rw [vb]) L
 have J:=cJ B (m:=1) (by rw [SB]) K
 exact J
theorem Ro:Tryz.prog.cellsOf 29=1:=by kernel_rfl
def Rb (w:World) (s:bD):Prop:= ∃ l:List Int,s.n=l.length∧(rd s.a l.length 1 (l.map iC)).holds w∧(∀ x∈l,tU w x)∧l.length≤maxLen∧s.n≤s.c
theorem Sc:pW Tryz.prog 29 bD (fun s=>[vS s.a s.n s.c]) Rb:=j3 UZ vb vc
theorem VG:Tryz.prog.cellsOf 30=1:=by kernel_rfl
theorem VL:Tryz.prog.cellsOf 51=1:=by kernel_rfl
theorem RE:Tryz.prog.cellsOf 50=7:=by kernel_rfl
theorem Wv:Tryz.prog.cellsOf 4=1:=by kernel_rfl
def VQ (w:World) (n:Bool):Prop:=True
theorem Wo:pW Tryz.prog 4 Bool (fun b=>[vB b]) VQ:=Mr Wp
theorem T3:Tryz.prog.cellsOf 43=3:=by kernel_rfl
theorem UR:Tryz.prog.cellsOf 41=1:=by kernel_rfl
theorem Tg:Tryz.prog.cellsOf 87=2:=by kernel_rfl
structure QL (w:World) (s:aA):Prop where
 fE:tU w s.fE
 Read:tU w s.Read
theorem UD:fL Tryz.prog 87=some [(3,0),(3,1)]:=by kernel_rfl
theorem Vh:pW Tryz.prog 87 aA aA.cells QL:=fun {H} enc w base sp A fuel cs x h=>by
 obtain ⟨hl,hp⟩:=iD UD h
 obtain ⟨M,O,F⟩:=hp 0 3 0 rfl
 obtain ⟨K,B,AA⟩:=vc _ _ _ _ _ _ _ _ F
 obtain ⟨N,P,G⟩:=hp 1 3 1 rfl
 obtain ⟨L,C,J⟩:=vc _ _ _ _ _ _ _ _ G
 refine ⟨⟨K,L⟩,?_,⟨AA,J⟩⟩
 have E:=gp (hl.trans Tg) (by rw [vb]) C
 have D:=cJ B (m:=1) (by rw [vb]) E
 exact D
def SS (w:World) (s:bD):Prop:= ∃ l:List aA,s.n=l.length∧(rd s.a l.length 2 (l.map aA.cells)).holds w∧(∀ x∈l,QL w x)∧l.length≤maxLen∧s.n≤s.c
theorem Wf:pW Tryz.prog 41 bD (fun s=>[vS s.a s.n s.c]) SS:=j3 Vd Tg Vh
structure SF (w:World) (s:cb):Prop where
 Start:tU w s.Start
 gh:tU w s.gh
 ab:SS w s.ab
theorem Vf:fL Tryz.prog 43=some [(3,0),(3,1),(41,2)]:=by kernel_rfl
theorem UC:pW Tryz.prog 43 cb cb.cells SF:=fun {H} enc w base sp A fuel cs x h=>by
 obtain ⟨hl,hp⟩:=iD Vf h
 obtain ⟨R,AA,AB⟩:=hp 0 3 0 rfl
 obtain ⟨O,B,L⟩:=vc _ _ _ _ _ _ _ _ AB
 obtain ⟨S,V,J⟩:=hp 1 3 1 rfl
 obtain ⟨P,C,M⟩:=vc _ _ _ _ _ _ _ _ J
 obtain ⟨T,W,K⟩:=hp 2 41 2 rfl
 obtain ⟨Q,D,N⟩:=Wf _ _ _ _ _ _ _ _ K
 refine ⟨⟨O,P,Q⟩,?_,⟨L,M,N⟩⟩
 have G:=gp (hl.trans T3) (by rw [UR]) D
 have F:=cJ C (m:=2) (by rw [vb]) G
 have E:=cJ B (m:=1) (by rw [vb]) F
 exact E
structure QQ (w:World) (s:aM):Prop where
 Out:VQ w s.Out
 dC:VQ w s.dC
 Time:Ea w s.Time
 bx:SF w s.bx
theorem Vm:fL Tryz.prog 50=some [(4,0),(4,1),(48,2),(43,4)]:=by kernel_rfl
theorem U_:pW Tryz.prog 50 aM aM.cells QQ:=fun {H} enc w base sp A fuel cs x h=>by
 obtain ⟨hl,hp⟩:=iD Vm h
 obtain ⟨W,a,K⟩:=hp 0 4 0 rfl
 obtain ⟨S,B,O⟩:=Wo _ _ _ _ _ _ _ _ K
 obtain ⟨X,b,L⟩:=hp 1 4 1 rfl
 obtain ⟨T,C,P⟩:=Wo _ _ _ _ _ _ _ _ L
 obtain ⟨Y,c,M⟩:=hp 2 48 2 rfl
 obtain ⟨AA,D,Q⟩:=H3 _ _ _ _ _ _ _ _ M
 obtain ⟨Z,d,N⟩:=hp 3 43 4 rfl
 obtain ⟨V,E,R⟩:=UC _ _ _ _ _ _ _ _ N
 refine ⟨⟨S,T,AA,V⟩,?_,⟨O,P,Q,R⟩⟩
 have J:=gp (hl.trans RE) (by rw [T3]) E
 have AB:=cJ D (m:=4) (by rw [DM]) J
 have G:=cJ C (m:=2) (by rw [Wv]) AB
 have F:=cJ B (m:=1) (by rw [Wv]) G
 exact F
def Pt (w:World) (s:bD):Prop:= ∃ l:List aM,s.n=l.length∧(rd s.a l.length 7 (l.map aM.cells)).holds w∧(∀ x∈l,QQ w x)∧l.length≤maxLen∧s.n≤s.c
theorem UM:pW Tryz.prog 51 bD (fun s=>[vS s.a s.n s.c]) Pt:=j3 Vv RE U_
def SI (w:World) (s:bD):Prop:= ∃ l:List bD,s.n=l.length∧(rd s.a l.length 1 (l.map (fun s=>[vS s.a s.n s.c]))).holds w∧(∀ x∈l,Pt w x)∧l.length≤maxLen∧s.n≤s.c
theorem VI:pW Tryz.prog 30 bD (fun s=>[vS s.a s.n s.c]) SI:=j3 UJ VL UM
structure Sl (w:World) (s:eX):Prop where
 ak:RQ w s.ak
 bj:Rb w s.bj
 cq:Rb w s.cq
 kM:tU w s.kM
 aD:SI w s.aD
theorem Vk:fL Tryz.prog 32=some [(28,0),(29,7),(29,8),(3,9),(30,10)]:=by kernel_rfl
theorem V1:pW Tryz.prog 32 eX eX.cells Sl:=fun {H} enc w base sp A fuel cs x h=>by
 obtain ⟨hl,hp⟩:=iD Vk h
 obtain ⟨b,g,M⟩:=hp 0 28 0 rfl
 obtain ⟨W,B,R⟩:=Uy _ _ _ _ _ _ _ _ M
 obtain ⟨c,i,N⟩:=hp 1 29 7 rfl
 obtain ⟨X,C,S⟩:=Sc _ _ _ _ _ _ _ _ N
 obtain ⟨d,j,O⟩:=hp 2 29 8 rfl
 obtain ⟨Y,D,T⟩:=Sc _ _ _ _ _ _ _ _ O
 obtain ⟨e,k,P⟩:=hp 3 3 9 rfl
 obtain ⟨Z,E,AA⟩:=vc _ _ _ _ _ _ _ _ P
 obtain ⟨f,l,Q⟩:=hp 4 30 10 rfl
 obtain ⟨a,F,V⟩:=VI _ _ _ _ _ _ _ _ Q
 refine ⟨⟨W,X,Y,Z,a⟩,?_,⟨R,S,T,AA,V⟩⟩
 have L:=gp (hl.trans Rq) (by rw [VG]) F
 have K:=cJ E (m:=10) (by rw [vb]) L
 have J:=cJ D (m:=9) (by rw [Ro]) K
 have AB:=cJ C (m:=8) (by rw [Ro]) J
 have G:=cJ B (m:=7) (by rw [Ru]) AB
 exact G
theorem V_:Tryz.prog.cellsOf 33=1:=by kernel_rfl
theorem Tq:Tryz.prog.cellsOf 54=4:=by kernel_rfl
structure Qt (w:World) (s:aK):Prop where
 Kind:V3 w s.Kind
 de:tU w s.de
 iN:tU w s.iN
 To:tU w s.To
theorem UO:fL Tryz.prog 54=some [(5,0),(3,1),(3,2),(3,3)]:=by kernel_rfl
theorem V7:pW Tryz.prog 54 aK aK.cells Qt:=fun {H} enc w base sp A fuel cs x h=>by
 obtain ⟨hl,hp⟩:=iD UO h
 obtain ⟨W,a,K⟩:=hp 0 5 0 rfl
 obtain ⟨S,B,O⟩:=Wl _ _ _ _ _ _ _ _ K
 obtain ⟨X,b,L⟩:=hp 1 3 1 rfl
 obtain ⟨T,C,P⟩:=vc _ _ _ _ _ _ _ _ L
 obtain ⟨Y,c,M⟩:=hp 2 3 2 rfl
 obtain ⟨AA,D,Q⟩:=vc _ _ _ _ _ _ _ _ M
 obtain ⟨Z,d,N⟩:=hp 3 3 3 rfl
 obtain ⟨V,E,R⟩:=vc _ _ _ _ _ _ _ _ N
 refine ⟨⟨S,T,AA,V⟩,?_,⟨O,P,Q,R⟩⟩
 have J:=gp (hl.trans Tq) (by rw [vb]) E
 have AB:=cJ D (m:=3) (by rw [vb]) J
 have G:=cJ C (m:=2) (by rw [vb]) AB
 have F:=cJ B (m:=1) (by rw [Wu]) G
 exact F
def RO (w:World) (s:bD):Prop:= ∃ l:List aK,s.n=l.length∧(rd s.a l.length 4 (l.map aK.cells)).holds w∧(∀ x∈l,Qt w x)∧l.length≤maxLen∧s.n≤s.c
theorem Wj:pW Tryz.prog 33 bD (fun s=>[vS s.a s.n s.c]) RO:=j3 V0 Tq V7
theorem US:Tryz.prog.cellsOf 34=1:=by kernel_rfl
theorem S4:Tryz.prog.cellsOf 56=5:=by kernel_rfl
structure Q7 (w:World) (s:aY):Prop where
 Id:tU w s.Id
 iK:tU w s.iK
 jl:tU w s.jl
 jy:tU w s.jy
 At:tU w s.At
theorem VP:fL Tryz.prog 56=some [(3,0),(3,1),(3,2),(3,3),(3,4)]:=by kernel_rfl
theorem Vn:pW Tryz.prog 56 aY aY.cells Q7:=fun {H} enc w base sp A fuel cs x h=>by
 obtain ⟨hl,hp⟩:=iD VP h
 obtain ⟨b,g,M⟩:=hp 0 3 0 rfl
 obtain ⟨W,B,R⟩:=vc _ _ _ _ _ _ _ _ M
 obtain ⟨c,i,N⟩:=hp 1 3 1 rfl
 obtain ⟨X,C,S⟩:=vc _ _ _ _ _ _ _ _ N
 obtain ⟨d,j,O⟩:=hp 2 3 2 rfl
 obtain ⟨Y,D,T⟩:=vc _ _ _ _ _ _ _ _ O
 obtain ⟨e,k,P⟩:=hp 3 3 3 rfl
 obtain ⟨Z,E,AA⟩:=vc _ _ _ _ _ _ _ _ P
 obtain ⟨f,l,Q⟩:=hp 4 3 4 rfl
 obtain ⟨a,F,V⟩:=vc _ _ _ _ _ _ _ _ Q
 refine ⟨⟨W,X,Y,Z,a⟩,?_,⟨R,S,T,AA,V⟩⟩
 have L:=gp (hl.trans S4) (by rw [vb]) F
 have K:=cJ E (m:=4) (by rw [vb]) L
 have J:=cJ D (m:=3) (by rw [vb]) K
 have AB:=cJ C (m:=2) (by rw [vb]) J
 have G:=cJ B (m:=1) (by rw [vb]) AB
 exact G
def TW (w:World) (s:bD):Prop:= ∃ l:List aY,s.n=l.length∧(rd s.a l.length 5 (l.map aY.cells)).holds w∧(∀ x∈l,Q7 w x)∧l.length≤maxLen∧s.n≤s.c
theorem V5:pW Tryz.prog 34 bD (fun s=>[vS s.a s.n s.c]) TW:=j3 Vx S4 Vn
structure UX (w:World) (s:ep):Prop where
 Race:Sl w s.Race
 aG:RO w s.aG
 aF:TW w s.aF
 ei:tU w s.ei
 wv:tU w s.wv
theorem RN:fL Tryz.prog 36=some [(32,0),(33,11),(34,12),(3,13),(3,14)]:=by kernel_rfl
theorem V2:pW Tryz.prog 36 ep ep.cells UX:=fun {H} enc w base sp A fuel cs x h=>by
 obtain ⟨hl,hp⟩:=iD RN h
 obtain ⟨b,g,M⟩:=hp 0 32 0 rfl
 obtain ⟨W,B,R⟩:=V1 _ _ _ _ _ _ _ _ M
 obtain ⟨c,i,N⟩:=hp 1 33 11 rfl
 obtain ⟨X,C,S⟩:=Wj _ _ _ _ _ _ _ _ N
 obtain ⟨d,j,O⟩:=hp 2 34 12 rfl
 obtain ⟨Y,D,T⟩:=V5 _ _ _ _ _ _ _ _ O
 obtain ⟨e,k,P⟩:=hp 3 3 13 rfl
 obtain ⟨Z,E,AA⟩:=vc _ _ _ _ _ _ _ _ P
 obtain ⟨f,l,Q⟩:=hp 4 3 14 rfl
 obtain ⟨a,F,V⟩:=vc _ _ _ _ _ _ _ _ Q
 refine ⟨⟨W,X,Y,Z,a⟩,?_,⟨R,S,T,AA,V⟩⟩
 have L:=gp (hl.trans UI) (by rw [vb]) F
 have K:=cJ E (m:=14) (by rw [vb]) L
 have J:=cJ D (m:=13) (by rw [US]) K
 have AB:=cJ C (m:=12) (by rw [V_]) J
 have G:=cJ B (m:=11) (by rw [Rq]) AB
 exact G
theorem Vy:Tryz.prog.cellsOf 37=1:=by kernel_rfl
def Tw (w:World) (n:Int):Prop:=0≤n∧n≤4294967295
theorem UW:pW Tryz.prog 37 Int pV Tw:=QI IB
def Vt (w:World) (s:bD):Prop:= ∃ l:List Int,s.n=l.length∧(rd s.a l.length 1 (l.map pV)).holds w∧(∀ x∈l,Tw w x)∧l.length≤maxLen∧s.n≤s.c
theorem VH:pW Tryz.prog 38 bD (fun s=>[vS s.a s.n s.c]) Vt:=j3 RW Vy UW
theorem Ak:ownKnob Tryz.prog.godebug=none:=by kernel_rfl
theorem yS:laidOutB Tryz.prog=true:=by kernel_rfl
theorem wH (os:Os) (started:os.Started) (H:Type) (enc:TypeId×Value→H):
 ReturnsInHanded {} Tryz.checked os 3 .any (fun w args=>(Rows.juryTrueSpec.pre enc Tryz.prog Tryz.f3 [] false w args∧laidMetH Tryz.prog [("kreisel/race.table",Rows.laid_kreisel_race_table)] w)∧sizedMet enc Tryz.prog Tryz.f3 (OpenSpec.ofChange Rows.juryTrueSpec) false w args) (Rows.juryTrueSpec.post enc Tryz.prog Tryz.f3 false true false false):=by
 refine returnsInHanded_of_change_and (C:=Tryz.checked) (X:=(fun w _=>laidMetH Tryz.prog [("kreisel/race.table",Rows.laid_kreisel_race_table)] w)) (fun _ _ _ hh h=>h.of_heap hh) Ak started kr Tryz.func3
  (ChangeSpec.witness_shaped (enc:=enc) (C:=Tryz.checked) (os:=os) (X:=(fun w _=>laidMetH Tryz.prog [("kreisel/race.table",Rows.laid_kreisel_race_table)] w)) false (World.doorLaid Tryz.prog 400 os) #[.agg #[(vS none 0 0),(vI 0),(vS none 0 0),(vS none 0 0),(vI 0),(vI 0),(vI 0),(vS none 0 0),(vS none 0 0),(vI 0),(vS none 0 0),(vS none 0 0),(vS none 0 0),(vI 0),(vI 0)],Value.int .u8 0,Value.int .u32 0,vS none 0 0] 8 rfl (World.shaped_of_RefB kr kr) kr kr kr (EH os _)) ?_
 intro W base args ds gs before AB hW _ _ hL _
 have D: ∀ (j:Nat) t v,Tryz.f3.params[j]? =some t→args[j]? =some v→Value.okWide Tryz.prog W .any base t v:=AB
 have hW':=hW
 obtain ⟨p,q,O,hV,rfl,m,n⟩:=hW
 have hA:DataW.TrodAll enc Tryz.prog W 0 (fun _=>true) true Tryz.f3.params.toList args.toList ds p:=O
 have J:=hA
 rw [Tryz.params3] at hA D
 obtain ⟨AA,AO,d0,a,p0,q0,P,rfl,rfl,f,o⟩:=trodAll_cons hA
 obtain ⟨V,Ad,d1,b,p1,q1,rfl,rfl,rfl,g,r⟩:=trodAll_cons o
 obtain ⟨Y,An,d2,c,p2,q2,rfl,rfl,rfl,i,s⟩:=trodAll_cons r
 obtain ⟨Z,A0,d3,d,p3,q3,rfl,rfl,rfl,l,u⟩:=trodAll_cons s
 obtain ⟨rfl,rfl,rfl⟩:=trodAll_nil u
 obtain rfl:args= #[AA,V,Y,Z]:=by cases args; simp_all
 obtain ⟨rfl,rfl⟩:=trodVars_none hV
 obtain ⟨s0,rfl,R0⟩:=ED RN V2 (D 0 36 AA rfl rfl) f
 obtain ⟨y,rfl,R1⟩:=Fp (k:= .u8) M1 (D 1 5 V rfl rfl) g
 obtain ⟨z,rfl,R2⟩:=Fp (k:= .u32) IB (D 2 37 Y rfl rfl) i
 obtain ⟨s3,rfl,R3⟩:=GA VH RW (D 3 38 Z rfl rfl) l
 simp only [List.append_nil] at hW' J
 have N:=yR hL
 obtain ⟨j,az,ha,kA,kC,cA,cC,bA,bC,S,T,drA,drC,Q,R,faA,faC,prA,prC,rfl,L,B⟩:=Hp (R1:=LI) (R2:=Ia) (R3:=QN) (R4:=LK) (R5:=tU) (R6:=Pt) (R7:=QQ) (R8:=QL) (R9:=Qt) (R10:=Q7) R0.Race.ak.aS.kl (fun x hx=>hx.je) R0.Race.ak.aj (fun x hx=>hx.bG) R0.Race.ak.aa R0.Race.bj R0.Race.cq R0.Race.aD (fun x hx=>hx) (fun x hx=>hx.bx.ab) R0.aG (fun x hx=>hx.Kind) R0.aF
 obtain ⟨lA,ln,lC⟩:=s3
 obtain ⟨bl,K,E,F,G⟩:=R3
 simp only at K E
 subst K
 have M:=(D6 j kA kC az cA cC bA bC S T drA drC ha Q R faA faC prA prC y z bl lA lC L R1 R2 (fun x hx=>F x hx) G.1).run W (by intro A hA; simp only [bR,List.not_mem_nil,or_false] at hA; rcases hA with rfl|rfl|rfl|rfl|rfl|rfl|rfl|rfl|rfl|rfl|rfl|rfl; exact N; exact B.1; exact B.2.1; exact B.2.2.1; exact B.2.2.2.1; exact B.2.2.2.2.1; exact B.2.2.2.2.2.1; exact B.2.2.2.2.2.2.1; exact B.2.2.2.2.2.2.2.1; exact B.2.2.2.2.2.2.2.2.1; exact B.2.2.2.2.2.2.2.2.2; exact E)
 refine (M).mono fun e W' ⟨he,hk⟩=>?_
 subst he
 exact ⟨_,U,I9 yS hW' J U U kr hk.below kr Wp⟩
theorem xN:Rows.JuryTrueSaid:=
 OpenClaim.holds_of_wide 3 Tryz.f3 rfl rfl rfl rfl rfl rfl rfl ⟨rfl,rfl,rfl,rfl,rfl⟩ rfl rfl rfl rfl rfl kr Tryz.func3 wP
  (of_decide_eq_true kr) (by unfold Func.isWrapper; first|(rw [if_pos (by decide+kernel)]; kernel_rfl)|(rw [if_neg (by decide+kernel)]; exact ⟨rfl,rfl⟩))
  (fun os started H enc _=>wH os started H enc)
/-- the statement -/
theorem juryTrue_said:Rows.JuryTrueCardSaid:=
 Claim7.holds_tied_plain_at .later [] [.funcsDeep] true (true,"033e9b20058d598793942568cf20ddcee0103e281a05992d75678dd7a8545cb7") false
  xN (fun _ h=>by cases h) kr (fun _ h=>by cases h) juryTrue_row_tie rfl ⟨rfl,rfl⟩ kr rfl
  (fun f fn hf B=>by
   obtain rfl:f=3:=Option.some.inj ((show Tryz.prog.funcNamed "kreisel/kreisellaw07.JuryTrue"=some 3 by kernel_rfl).symm.trans hf) |>.symm
   obtain rfl:fn=Tryz.f3:=(Option.some.inj (Tryz.func3.symm.trans B)).symm
   exact ⟨kr,fun j t ht=>by
    rw [Tryz.params3] at ht
    have hm:t∈([36,5,37,38]:List Nat):=by simpa using Array.mem_of_getElem? ht
    have A:(([36,5,37,38]:List Nat).all fun u=> !Tryz.prog.wantsStandIn u)=true:=by kernel_rfl
    exact (show Tryz.prog.wantsStandIn t=false by simpa using cN.1 A t hm)⟩)
  kr
#print axioms juryTrue_said
end
end Go.Proofs.YtfhghdbminmhnaaGreatDoor
