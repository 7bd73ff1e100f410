/-
 The statement juryAll_said, part 7 of 8: Jw7, Jw8, Jw9, Jwa, Jwb, BoolC, RaceR, B7, B8, Rr2, Jr1, B9, Rr1, WLe, Ends5, Can, False, Sim, Told, Clear, Ways, Async, WayM, R1, Y1.
 Conditions: none.
-/
import Derived.Test.YtijpnoadncadoaaGreatDoorTy1
import Derived.Test.YtijpnoadncadoaaGreatDoorTy2
import Derived.Test.YtijpnoadncadoaaGreatDoorTy3
import Derived.Test.YtijpnoadncadoaaGreatDoorTy4
import Derived.Test.YtijpnoadncadoaaGreatDoorTy5
import Derived.Test.YtijpnoadncadoaaGreatDoorTy6
namespace Go.Proofs.YtijpnoadncadoaaGreatDoor
set_option maxRecDepth 100000
set_option maxHeartbeats 4000000
set_option linter.unusedVariables false
section
open Go.RowKit
theorem zY (j:cH) (kA:OA) (kC:Nat) (az:List RA) (cA:OA) (cC:Nat) (bA:OA) (bC:Nat) (slA:OA) (slC:Nat) (drA:OA) (drC:Nat) (ha:List dG) (heA:OA) (heC:Nat) (faA:OA) (faC:Nat) (prA:OA) (prC:Nat) (kq hq sq:Int) (hin:gZ j az ha):
 dx Tryz.prog 12 [(vA (gG.cells (nN j kA kC cA cC bA bC slA slC drA drC heA heC faA faC prA prC))),(vI kq),(vI hq),(vI sq)] [(rd gN 3 2 fF),(rd kA j.Race.au.aV.length 9 (j.Race.au.aV.map ao.cells)),(rd cA j.Race.au.ar.length 2 (List.zipWith ay.cells j.Race.au.ar az)),(dL (br ay.gn j.Race.au.ar az)),(rd bA j.Race.au.ab.length 4 (j.Race.au.ab.map bI.cells)),(rd slA j.Race.bj.length 1 (j.Race.bj.map iC)),(rd drA j.Race.cq.length 1 (j.Race.cq.map iC)),(rd heA j.Race.aH.length 1 (List.zipWith de j.Race.aH ha)),(dL (br eY j.Race.aH ha)),(rd faA j.aI.length 4 (j.aI.map aS.cells)),(rd prA j.ax.length 5 (j.ax.map aZ.cells))] (vT [(Value.int .u8 (lO j kq hq sq)),(vI (mB j kq hq sq))]):=by
 have O:=hin.race
 have n:=hin.race.line
 have AC:=hin.race.iX
 have AO:=hin.race.has
 have x:=hin.race.iW
 have r:=hin.nf
 have w:=hin.np
 refine bB kr Tryz.func12 U U fun w0 Q hQ hN=>?_
 try dsimp only
 refine WS fun _ W=>er U fun b2=>bE 2 U<|RK W<|WS fun _ X=>eN 1 [] (mc 0 U I) U<|rS (CL (sN j kA kC az cA cC bA bC slA slC drA drC ha heA heC faA faC prA prC hin) (bq [1,2,3,4,5,6,7,8,9,10,11]) U)<|bE 3 U<|AL U Ff fun b4=>fu U Fl U<|bE 1 U<|RK X<|aj fun _ Y=>WS fun _ Z=>rP 2 [] I ?_
 refine RK Z<|cu U (bp fun B=>?_) (bo fun B=>?_)
 ·refine WS fun _ a=>rP 3 [] I ?_
  refine RK a<|ak<|Q2 hQ U U U U ?_
  (have e:=Gi (k:=kq) (h:=hq) (s:=sq) B; rw [e.1,e.2]; done)
 refine WK Y<|aj fun _ b=>WS fun _ E=>rP 5 [] (mc 1 U I) ?_
 refine dZ (xs:=[.tmp 24]) (cs:=[(vI kq)]) U dp j5 U U U U (by simp [Value.cells]) U U fun P=>?_
 refine rS (CL (dx.eq (iE 0 ((j.aI.length:Int)-1) ([kq]) (some ⟨P,0,none⟩) 1 (by (simp; done))) cv) (aK (bk 0 U U (by simp [bJ]) U)<|aM) U) ?_
 refine rP 2 [] I ?_
 refine bU (t:=28) U (bp fun T=>?_) (bo fun T=>?_)
 ·refine bE 21 U<|RK E<|aQ U<|WS fun _ F=>rP 2 [] I ?_
  refine RK F<|ak<|Q2 hQ U U U U ?_
  (have e:=uA (k:=kq) (h:=hq) (s:=sq) B (fun q=>by unfold kB at q; omega); rw [e.1,e.2]; done)
 refine rP 6 [] (mc 2 U I) ?_
 refine dZ (xs:=[.tmp 34]) (cs:=[(vI hq)]) U dp j5 U U U U (by simp [Value.cells]) U U fun R=>?_
 refine rS (CL (dx.eq (iE 0 ((j.Race.aH.length:Int)-1) ([hq]) (some ⟨R,0,none⟩) 1 (by (simp; done))) cv) (aK (bk 0 U U (by simp [bJ]) U)<|aM) U) ?_
 refine rP 3 [] I ?_
 refine bU (t:=39) U (bp fun AA=>?_) (bo fun AA=>?_)
 ·refine bE 10 U<|RK E<|aQ U<|WS fun _ G=>rP 2 [] I ?_
  refine RK G<|ak<|Q2 hQ U U U U ?_
  (have e:=uA (k:=kq) (h:=hq) (s:=sq) B (fun q=>by unfold kB at q; omega); rw [e.1,e.2]; done)
 refine rP 6 [] (mc 3 U I) ?_
 refine dZ (xs:=[.tmp 45]) (cs:=[(vI sq)]) U dp j5 U U U U (by simp [Value.cells]) U U fun S=>?_
 refine rS (CL (dx.eq (iE 0 ((j.Race.bj.length:Int)-1) ([sq]) (some ⟨S,0,none⟩) 1 (by (simp; done))) cv) (aK (bk 0 U U (by simp [bJ]) U)<|aM) U) ?_
 refine rP 2 [] I ?_
 refine RK E<|cu U (bp fun V=>?_) (bo fun V=>?_)
 ·refine WS fun _ H=>rP 2 [] I ?_
  refine RK H<|ak<|Q2 hQ U U U U ?_
  (have e:=uA (k:=kq) (h:=hq) (s:=sq) B (fun q=>by unfold kB at q; omega); rw [e.1,e.2]; done)
 refine WK b<|aj fun _ AB=>dg cp 18 kr<|dP 4 [0,1] (mc 3 U (mc 4 U I)) ?_
 have N:=(eH B).1
 have l:=(eH B).2
 have m:=(eQ N).1
 have o:=(eQ N).2
 have i:=(dK m).2.head
 unfold eL at i
 obtain ⟨f,hf⟩:=aJ j.aI ((kq).toNat) om
 have g:=bK aS.cells hf
 refine dS (IA ((kq).toNat) U (aA 14 U) Ar dc om om)<|dS (lh ((kq).toNat) 0 (aS.cells f) U cb (aA 14 U) g U dc U U)<|dP 4 [] (mc 4 U I) ?_
 obtain ⟨ht,D⟩:=aJ j.Race.aH ((hq).toNat) om
 obtain ⟨A,C⟩:=aJ ha ((hq).toNat) om
 have M:(List.zipWith de j.Race.aH ha)[(hq).toNat]? =some (de ht A):=dC D C
 refine dS (IA ((hq).toNat) U (aA 12 U) rK dc om om) ?_
 have L:=O.gj _ _ _ D C
 have u:=L.ot
 have v:=(o.gj ht (aR D)).1
 refine dS (hG ((hq).toNat) 0 (vS A.1.1 ht.length A.1.2) U cb (aA 12 U) M U dc U)<|dP 1 [] I ?_
 have p:=L.sig
 have K:=l.fault f (aR hf)
 have z:0≤f.g9∧f.g9≤1000000:=by have y:=K.2.2; split at y<;>omega
 obtain ⟨d,hd⟩:=aJ ht ((sq).toNat) om
 obtain ⟨da,J⟩:=aJ A.2 ((sq).toNat) om
 have c:(List.zipWith aw.cells ht A.2)[(sq).toNat]? =some (aw.cells d da):=dC hd J
 refine dS (IA ((sq).toNat) U (show iN _ (rd A.1.1 ht.length 7 (List.zipWith aw.cells ht A.2)).holds from (cR 13 U (bM D C ct))) s8 dc om om)<|dS (lh ((sq).toNat) 0 (aO.cells (aO.mk d.Out d.c_ d.Time (cN.mk d.bw.Start d.bw.fJ (bH.mk da.1 d.bw.aa.length da.2)))) U cb (show iN _ (rd A.1.1 ht.length 7 (List.zipWith aw.cells ht A.2)).holds from (cR 13 U (bM D C ct))) c U dc U U) ?_
 have A0:=p d (aR hd)
 refine dS (CL (zA j kA kC az cA cC bA bC slA slC drA drC ha heA heC faA faC prA prC f d da.1 da.2 hin (by exact K.1) asm asm) (ox [6,7,8,9,10,11,12,13,14,15]<|aK (show iN _ (rd da.1 d.bw.aa.length 2 (d.bw.aa.map aF.cells)).holds from (cR 13 U (bM D C (dJ _ (bM hd J (by simp [aw.gn]))))))<|aM) U)<|dP 2 [] I ?_
 refine cE<|RK AB<|ak<|Q2 hQ U U U U ?_
 (have e:=oQ (k:=kq) (h:=hq) (s:=sq) B (by unfold kB; omega) hf D hd; rw [e.1,e.2]; done)
theorem G_ (j:cH) (kA:OA) (kC:Nat) (az:List RA) (cA:OA) (cC:Nat) (bA:OA) (bC:Nat) (slA:OA) (slC:Nat) (drA:OA) (drC:Nat) (ha:List dG) (heA:OA) (heC:Nat) (faA:OA) (faC:Nat) (prA:OA) (prC:Nat) (iq:Int) (hin:gZ j az ha):
 dx Tryz.prog 13 [(vA (gG.cells (nN j kA kC cA cC bA bC slA slC drA drC heA heC faA faC prA prC))),(vI iq)] [(rd gN 3 2 fF),(rd kA j.Race.au.aV.length 9 (j.Race.au.aV.map ao.cells)),(rd cA j.Race.au.ar.length 2 (List.zipWith ay.cells j.Race.au.ar az)),(dL (br ay.gn j.Race.au.ar az)),(rd bA j.Race.au.ab.length 4 (j.Race.au.ab.map bI.cells)),(rd slA j.Race.bj.length 1 (j.Race.bj.map iC)),(rd drA j.Race.cq.length 1 (j.Race.cq.map iC)),(rd heA j.Race.aH.length 1 (List.zipWith de j.Race.aH ha)),(dL (br eY j.Race.aH ha)),(rd faA j.aI.length 4 (j.aI.map aS.cells)),(rd prA j.ax.length 5 (j.ax.map aZ.cells))] (vT [(Value.int .u8 (tU j iq)),(vI (rW j iq))]):=by
 have R:=hin.race
 have M:=hin.race.line
 have T:=hin.race.iX
 have AA:=hin.race.has
 have S:=hin.race.iW
 have O:=hin.nf
 have P:=hin.np
 refine bB kr Tryz.func13 U U fun X Q hQ hN=>?_
 try dsimp only
 refine WS fun _ F=>er U fun V=>bE 2 U<|RK F<|WS fun _ G=>eN 1 [] (mc 0 U I) U<|rS (CL (sN j kA kC az cA cC bA bC slA slC drA drC ha heA heC faA faC prA prC hin) (bq [1,2,3,4,5,6,7,8,9,10,11]) U)<|bE 3 U<|AL U Ff fun W=>fu U Fl U<|bE 1 U<|RK G<|aj fun _ H=>WS fun _ AB=>rP 2 [] I ?_
 refine RK AB<|cu U (bp fun A=>?_) (bo fun A=>?_)
 ·refine WS fun _ J=>rP 3 [] I ?_
  refine RK J<|ak<|Q2 hQ U U U U ?_
  (have e:=JE (i:=iq) A; rw [e.1,e.2]; done)
 refine WK H<|aj fun _ K=>WS fun _ L=>rP 5 [] (mc 1 U I) ?_
 refine dZ (xs:=[.tmp 20]) (cs:=[(vI iq)]) U dp j5 U U U U (by simp [Value.cells]) U U fun D=>?_
 refine rS (CL (dx.eq (iE 0 ((j.ax.length:Int)-1) ([iq]) (some ⟨D,0,none⟩) 1 (by (simp; done))) cv) (aK (bk 0 U U (by simp [bJ]) U)<|aM) U) ?_
 refine rP 1 [] I ?_
 refine RK L<|cu U (bp fun E=>?_) (bo fun E=>?_)
 ·refine WS fun _ B=>rP 2 [] I ?_
  refine RK B<|ak<|Q2 hQ U U U U ?_
  (have e:=Kc (i:=iq) A om; rw [e.1,e.2]; done)
 refine WK K<|aj fun _ C=>dg cp 9 kr<|dP 4 [0,1] (mc 1 U (mc 2 U I)) ?_
 obtain ⟨p,hp⟩:=aJ j.ax ((iq).toNat) om
 have N:=bK aZ.cells hp
 refine dS (IA ((iq).toNat) U (aA 13 U) BH dc om om)<|dS (lh ((iq).toNat) 0 (aZ.cells p) U cb (aA 13 U) N U dc U U)<|dS (CL (Jh j kA kC az cA cC bA bC slA slC drA drC ha heA heC faA faC prA prC p hin asm (by exact ⟨_,hp⟩)) (bq [4,5,6,7,8,9,10,11,12,13]) U)<|dP 2 [] I ?_
 refine cE<|RK C<|ak<|Q2 hQ U U U U ?_
 (have e:=vQ (i:=iq) A om hp; rw [e.1,e.2]; done)
theorem wh (j:cH) (kA:OA) (kC:Nat) (az:List RA) (cA:OA) (cC:Nat) (bA:OA) (bC:Nat) (slA:OA) (slC:Nat) (drA:OA) (drC:Nat) (ha:List dG) (heA:OA) (heC:Nat) (faA:OA) (faC:Nat) (prA:OA) (prC:Nat) (hin:gZ j az ha):
 q6 Tryz.prog 10 [(vA (gG.cells (nN j kA kC cA cC bA bC slA slC drA drC heA heC faA faC prA prC)))] [(rd gN 3 2 fF),(rd kA j.Race.au.aV.length 9 (j.Race.au.aV.map ao.cells)),(rd cA j.Race.au.ar.length 2 (List.zipWith ay.cells j.Race.au.ar az)),(dL (br ay.gn j.Race.au.ar az)),(rd bA j.Race.au.ab.length 4 (j.Race.au.ab.map bI.cells)),(rd slA j.Race.bj.length 1 (j.Race.bj.map iC)),(rd drA j.Race.cq.length 1 (j.Race.cq.map iC)),(rd heA j.Race.aH.length 1 (List.zipWith de j.Race.aH ha)),(dL (br eY j.Race.aH ha)),(rd faA j.aI.length 4 (j.aI.map aS.cells)),(rd prA j.ax.length 5 (j.ax.map aZ.cells))] (fun (x:(OA)×Nat)=>(vT [(vS x.1 ((iG j).length) x.2),(vI (dU j))])) (fun (x:(OA)×Nat)=>True) (fun (x:(OA)×Nat)=>[(own x.1 x.2 3 1 ((iG j).map iC))]):=by
 have S:=hin.race
 have L:=hin.race.line
 have V:=hin.race.iX
 have W:=hin.race.has
 have T:=hin.race.iW
 have P:=hin.nf
 have R:=hin.np
 refine fR kr Tryz.func10 U U fun a Q hQ hN=>?_
 try dsimp only
 refine WS fun _ E=>er U fun Y=>bE 1 U<|bE 1 U<|RK E<|WS fun _ F=>eN 1 [] (mc 0 U I) U<|rS (CL (sN j kA kC az cA cC bA bC slA slC drA drC ha heA heC faA faC prA prC hin) (bq [1,2,3,4,5,6,7,8,9,10,11]) U)<|bE 3 U<|AL U Ff fun Z=>fu U Fl U<|bE 1 U<|RK F<|aj fun _ G=>WS fun _ H=>rP 2 [] I ?_
 refine RK H<|cu U (bp fun A=>?_) (bo fun A=>?_)
 ·refine WS fun _ AB=>kW 3 1 ?_
  rw [show (own none 0 3 1 ([]:List (List Value)))=own none 0 3 1 ((iG j).map iC) from by rw [wN A]; rfl]
  refine bE 2 U<|rP 1 [] I ?_
  refine RK AB<|ak ?_
  refine LX hQ (none,0) [0] [] I U U U ?_ ?_
  ·(rw [wN A]; rfl)
  ·trivial
 refine WK G<|WS fun _ J=>rP 3 [0,1] (mc 1 U (mc 0 U I)) ?_
 refine rS (FU U) ?_
 refine cX (zy j.ax prA prC (Value.func (.func 31) [(vA (cU.cells (cU.mk (nN j kA kC cA cC bA bC slA slC drA drC heA heC faA faC prA prC))))].toArray [].toArray) (fun N B=>(eI j B)) (dL [(rd kA j.Race.au.aV.length 9 (j.Race.au.aV.map ao.cells)),(rd cA j.Race.au.ar.length 2 (List.zipWith ay.cells j.Race.au.ar az)),(dL (br ay.gn j.Race.au.ar az)),(rd bA j.Race.au.ab.length 4 (j.Race.au.ab.map bI.cells)),(rd slA j.Race.bj.length 1 (j.Race.bj.map iC)),(rd drA j.Race.cq.length 1 (j.Race.cq.map iC)),(rd heA j.Race.aH.length 1 (List.zipWith de j.Race.aH ha)),(dL (br eY j.Race.aH ha)),(rd faA j.aI.length 4 (j.aI.map aS.cells)),(rd prA j.ax.length 5 (j.ax.map aZ.cells))]) (by intro N B M; exact kG (fi:=[(vA (cU.cells (cU.mk (nN j kA kC cA cC bA bC slA slC drA drC heA heC faA faC prA prC))))]) (ca:=[]) (jJ (uI j kA kC az cA cC bA bC slA slC drA drC ha heA heC faA faC prA prC N B asm asm (by (obtain ⟨X,_,K⟩:=M; exact ⟨X,K⟩))) (bq [0,1,2,3,4,5,6,7,8,9]))) asm) (gT 12 rfl rfl<|aK (jF (bq [3,4,5,6,7,8,9,10,11,12]))<|aM) rfl fun O AA=>?_
 obtain ⟨C,D⟩:=O
 try dsimp only
 refine rP 1 [] I ?_
 rw [show (iQ (hO j.ax (fun N B=>(eI j B))) j.ax.length)=iG j from by rw [lL A]; rfl]
 refine rP 1 [] I ?_
 refine RK J<|ak ?_
 refine LX hQ (C,D) [0] [] I U U U ?_ ?_
 ·(rw [A]; rfl)
 ·trivial
theorem Mo (j:cH) (kA:OA) (kC:Nat) (az:List RA) (cA:OA) (cC:Nat) (bA:OA) (bC:Nat) (slA:OA) (slC:Nat) (drA:OA) (drC:Nat) (ha:List dG) (heA:OA) (heC:Nat) (faA:OA) (faC:Nat) (prA:OA) (prC:Nat) (hin:gZ j az ha):
 dx Tryz.prog 15 [(vA (gG.cells (nN j kA kC cA cC bA bC slA slC drA drC heA heC faA faC prA prC)))] [(rd gN 3 2 fF),(rd kA j.Race.au.aV.length 9 (j.Race.au.aV.map ao.cells)),(rd cA j.Race.au.ar.length 2 (List.zipWith ay.cells j.Race.au.ar az)),(dL (br ay.gn j.Race.au.ar az)),(rd bA j.Race.au.ab.length 4 (j.Race.au.ab.map bI.cells)),(rd slA j.Race.bj.length 1 (j.Race.bj.map iC)),(rd drA j.Race.cq.length 1 (j.Race.cq.map iC)),(rd heA j.Race.aH.length 1 (List.zipWith de j.Race.aH ha)),(dL (br eY j.Race.aH ha)),(rd faA j.aI.length 4 (j.aI.map aS.cells)),(rd prA j.ax.length 5 (j.ax.map aZ.cells))] (vT [(vI (zh j)),(vI (zz j)),(vI (dU j))]):=by
 have R:=hin.race
 have M:=hin.race.line
 have Y:=hin.race.iX
 have Z:=hin.race.has
 have S:=hin.race.iW
 have O:=hin.nf
 have P:=hin.np
 refine bB kr Tryz.func15 U U fun k Q hQ hN=>?_
 try dsimp only
 refine WS fun _ G=>er U fun f=>bE 3 U<|RK G<|WS fun _ H=>rP 1 [] (mc 0 U I) ?_
 refine cX (wh j kA kC az cA cC bA bC slA slC drA drC ha heA heC faA faC prA prC hin) (bq [1,2,3,4,5,6,7,8,9,10,11]) U fun c b=>?_
 obtain ⟨d,g⟩:=c
 try dsimp only
 refine bE 5 U<|RK H<|aj fun _ AB=>WS fun _ J=>rP 2 [] I ?_
 refine RK J<|cu U (bp fun A=>?_) (bo fun A=>?_)
 ·refine WS fun _ D=>rP 4 [] I ?_
  refine RK D<|ak<|Q3 hQ U U U U U ?_
  (have e:=Fv A; rw [e.1,e.2]; done)
 refine WK AB<|WS fun _ E=>?_
 have C:=(eH A).2
 have X:(iG j).length≤8:=by have h:=C.np; have i:=wY (j:=j); rw [lL A]; omega
 have B:=C.rY
 have N:=C.np
 have K:=DQ (a:=((iG j).length:Int)) ⟨om,om⟩ B
 have L:=DQ (a:=(j.ax.length:Int)) ⟨om,om⟩ B
 have T:=Int.mul_le_mul_of_nonneg_right (show (0:Int)≤((iG j).length:Int) by omega) B.1
 have AA:=Int.mul_le_mul_of_nonneg_right (show ((iG j).length:Int)≤8 by omega) B.1
 have V:=Int.mul_le_mul_of_nonneg_right (show (0:Int)≤(j.ax.length:Int) by omega) B.1
 have W:=Int.mul_le_mul_of_nonneg_right N B.1
 refine eN 4 [] (mc 1 U I) U<|rS (BI U (tn K))<|bE 1 U<|RK E<|aj fun _ F=>dg cp 12 kr<|lu 6 [] (mc 1 U I) U<|dS (BI U (tn L))<|dP 5 [] I ?_
 refine cE<|RK F<|ak<|Q3 hQ U U U U U ?_
 (have e:=wi A; rw [e.1,e.2,A,lL A]; rfl)
theorem I4 (i:Int) (p:aZ) (sq:Int) (g1:Nat) (j:cH) (kA:OA) (kC:Nat) (az:List RA) (cA:OA) (cC:Nat) (bA:OA) (bC:Nat) (slA:OA) (slC:Nat) (drA:OA) (drC:Nat) (ha:List dG) (heA:OA) (heC:Nat) (faA:OA) (faC:Nat) (prA:OA) (prC g2:Nat) (hin:gZ j az ha) (hok:dU j=0) (hp: ∃ i:Nat,j.ax[i]? =some p):
 dx Tryz.prog 36 [(vI i),(vA (aZ.cells p)),(vP g1),(vP g2)] [(cm g1 3 [(vI sq)]),(rd kA j.Race.au.aV.length 9 (j.Race.au.aV.map ao.cells)),(rd cA j.Race.au.ar.length 2 (List.zipWith ay.cells j.Race.au.ar az)),(dL (br ay.gn j.Race.au.ar az)),(rd bA j.Race.au.ab.length 4 (j.Race.au.ab.map bI.cells)),(rd slA j.Race.bj.length 1 (j.Race.bj.map iC)),(rd drA j.Race.cq.length 1 (j.Race.cq.map iC)),(rd heA j.Race.aH.length 1 (List.zipWith de j.Race.aH ha)),(dL (br eY j.Race.aH ha)),(rd faA j.aI.length 4 (j.aI.map aS.cells)),(rd prA j.ax.length 5 (j.ax.map aZ.cells)),(cm g2 93 (cU.cells (cU.mk (nN j kA kC cA cC bA bC slA slC drA drC heA heC faA faC prA prC))))] (vB (z9 j sq p)):=by
 refine bB kr Tryz.func36 U U fun E Q hQ hN=>?_
 try dsimp only
 refine WS fun _ C=>er U fun D=>bE 1 U<|RK C<|WS fun _ B=>rP 5 [0,1] (mc 0 U (mr 1 U I)) ?_
 refine ck (t:=11) U (aT fun A=>?_) (aU fun A=>?_)
 ·refine rP 7 [] I ?_
  refine RK B<|ak<|Q1 hQ U U U ?_
  (rw [Lv A]; done)
 refine eN 3 [0,1] (mr 12 U (mc 0 U I)) U<|rS (CL (uI j kA kC az cA cC bA bC slA slC drA drC ha heA heC faA faC prA prC i p hin hok hp) (bq [2,3,4,5,6,7,8,9,10,11]) U)<|rP 3 [] I ?_
 refine RK B<|ak<|Q1 hQ U U U ?_
 (rw [HI A]; done)
theorem KE (j:cH) (kA:OA) (kC:Nat) (az:List RA) (cA:OA) (cC:Nat) (bA:OA) (bC:Nat) (slA:OA) (slC:Nat) (drA:OA) (drC:Nat) (ha:List dG) (heA:OA) (heC:Nat) (faA:OA) (faC:Nat) (prA:OA) (prC:Nat) (sq:Int) (hin:gZ j az ha):
 dx Tryz.prog 16 [(vA (gG.cells (nN j kA kC cA cC bA bC slA slC drA drC heA heC faA faC prA prC))),(vI sq)] [(rd gN 3 2 fF),(rd kA j.Race.au.aV.length 9 (j.Race.au.aV.map ao.cells)),(rd cA j.Race.au.ar.length 2 (List.zipWith ay.cells j.Race.au.ar az)),(dL (br ay.gn j.Race.au.ar az)),(rd bA j.Race.au.ab.length 4 (j.Race.au.ab.map bI.cells)),(rd slA j.Race.bj.length 1 (j.Race.bj.map iC)),(rd drA j.Race.cq.length 1 (j.Race.cq.map iC)),(rd heA j.Race.aH.length 1 (List.zipWith de j.Race.aH ha)),(dL (br eY j.Race.aH ha)),(rd faA j.aI.length 4 (j.aI.map aS.cells)),(rd prA j.ax.length 5 (j.ax.map aZ.cells))] (vT [(vI (sk j sq)),(vI (qw j sq))]):=by
 have c:=hin.race
 have W:=hin.race.line
 have i:=hin.race.iX
 have k:=hin.race.has
 have d:=hin.race.iW
 have Z:=hin.nf
 have b:=hin.np
 refine bB kr Tryz.func16 U U fun q Q hQ hN=>?_
 try dsimp only
 refine WS fun _ M=>er U fun o=>vR U U fun AB=>bE 2 U<|RK M<|WS fun _ N=>eN 1 [] (mc 1 U I) U<|rS (CL (sN j kA kC az cA cC bA bC slA slC drA drC ha heA heC faA faC prA prC hin) (bq [2,3,4,5,6,7,8,9,10,11,12]) U)<|bE 3 U<|AL U Ff fun J=>fu U Fl U<|bE 1 U<|RK N<|aj fun _ O=>WS fun _ P=>rP 2 [] I ?_
 refine RK P<|cu U (bp fun A=>?_) (bo fun A=>?_)
 ·refine WS fun _ R=>rP 3 [] I ?_
  refine RK R<|ak<|Q2 hQ U U U U ?_
  (have e:=FG (s:=sq) A; rw [e.1,e.2]; done)
 refine WK O<|aj fun _ S=>WS fun _ C=>rP 6 [0,1] (mc 2 U (mc 1 U I)) ?_
 refine dZ (xs:=[.tmp 22]) (cs:=[(vI sq)]) U dp j5 U U U U (by simp [Value.cells]) U U fun K=>?_
 refine rS (CL (dx.eq (iE 0 ((j.Race.bj.length:Int)-1) ([sq]) (some ⟨K,0,none⟩) 1 (by (simp; done))) cv) (aK (bk 0 U U (by simp [bJ]) U)<|aM) U) ?_
 refine rP 1 [] I ?_
 refine RK C<|cu U (bp fun L=>?_) (bo fun L=>?_)
 ·refine WS fun _ D=>rP 2 [] I ?_
  refine RK D<|ak<|Q2 hQ U U U U ?_
  (have e:=F6 (s:=sq) A om; rw [e.1,e.2]; done)
 refine WK S<|WS fun _ E=>rP 2 [] (mc 3 U I) ?_
 refine rS (FU U) ?_
 refine cX (zy j.ax prA prC (Value.func (.func 36) [].toArray [(vP AB),(vP J)].toArray) (fun H B=>(z9 j sq B)) (dL [(cm AB 3 [(vI sq)]),(rd kA j.Race.au.aV.length 9 (j.Race.au.aV.map ao.cells)),(rd cA j.Race.au.ar.length 2 (List.zipWith ay.cells j.Race.au.ar az)),(dL (br ay.gn j.Race.au.ar az)),(rd bA j.Race.au.ab.length 4 (j.Race.au.ab.map bI.cells)),(rd slA j.Race.bj.length 1 (j.Race.bj.map iC)),(rd drA j.Race.cq.length 1 (j.Race.cq.map iC)),(rd heA j.Race.aH.length 1 (List.zipWith de j.Race.aH ha)),(dL (br eY j.Race.aH ha)),(rd faA j.aI.length 4 (j.aI.map aS.cells)),(rd prA j.ax.length 5 (j.ax.map aZ.cells)),(cm J 93 (cU.cells (cU.mk (nN j kA kC cA cC bA bC slA slC drA drC heA heC faA faC prA prC))))]) (by intro H B X; exact kG (fi:=[]) (ca:=[(vP AB),(vP J)]) (jJ (I4 H B sq AB j kA kC az cA cC bA bC slA slC drA drC ha heA heC faA faC prA prC J asm asm (by (obtain ⟨n,_,V⟩:=X; exact ⟨n,V⟩))) (bq [0,1,2,3,4,5,6,7,8,9,10,11]))) asm) (gT 14 rfl rfl<|aK (jF (bq [2,5,6,7,8,9,10,11,12,13,14,1]))<|aM) rfl fun Y f=>?_
 obtain ⟨g,h⟩:=Y
 try dsimp only
 refine bE 1 U<|RK E<|WS fun _ F=>rP 1 [] I ?_
 have G:=(eH A).2
 have m:=G.np
 have AA:=G.rY
 have l:(iQ (hO j.ax fun _ p=>z9 j sq p) j.ax.length).length≤8:=Nat.le_trans nk om
 have T:=DQ (a:= -(((iQ (hO j.ax fun _ p=>z9 j sq p) j.ax.length).length:Nat):Int)) ⟨om,om⟩ AA
 refine bE 1 U<|rS (NG U ⟨om,om⟩)<|eN 2 [] (mc 4 U I) U<|rS (BI U (tn T))<|rP 2 [] I ?_
 refine RK F<|ak<|Q2 hQ U U U U ?_
 (have e:=HC (s:=sq) A om; rw [e.1,e.2]; done)
end
section
open Go.RowKit
theorem HB (l:List aS) (lA:OA) (lC:Nat) (f:Value) (p:aS→Bool) (X:av) (hf: ∀ x0,x0∈l→CX Tryz.prog f [.agg (aS.cells x0).toArray] [X] (.bool (p x0))) (hlen:l.length≤1000000):
 dx Tryz.prog 90 [(vS lA l.length lC),f] [(rd lA l.length 4 (l.map aS.cells)),X] (vI (rQ p l)):=by
 refine bB kr Tryz.func90 U U fun R Q hQ hN=>?_
 try dsimp only
 refine WS fun _ G=>bE 1 U<|RK G<|aj fun _ H=>WS fun _ AA=>rP 3 [] I ?_
 refine RK AA<|aB ?_
 have B:(0≤l.length)∧((l.take 0).any p=false):=by simp
 refine bT (ι:={z:Nat // (z≤l.length)∧((l.take z).any p=false)}) [0,1,7] [0,1] U U (fun z=>[(8,(vI (z.1:Int)))]) (fun z=>[]) (fun _=>rfl) (fun _=>rfl) (fun z=>l.length-z.1) ⟨0,B⟩ (bx U) (aP [0,1]) ?_
 clear B
 rintro ⟨i,⟨N,A⟩⟩ J4 F
 try dsimp only
 refine WS fun _ J=>rP 1 [] I ?_
 refine RK J<|aj fun _ K=>bQ U (aT fun P=>?_) (aU fun P=>?_)
 ·refine bL<|ai<|ai<|aG<|KK H<|WS fun _ E=>rP 1 [] I ?_
  refine RK E<|ak<|Q1 hQ U U U ?_
  exact cI (pB om A).symm
 refine WK K<|aj fun _ L=>aB<|WS fun _ M=>bE 2 U<|RK M<|WS fun _ C=>rP 3 [] I ?_
 obtain ⟨x,hx⟩:=aJ l i om
 have O:=bK aS.cells hx
 refine rS (IA i U (aA 0 U) Ar dc om om)<|rS (lh i 0 (aS.cells x) U cb (aA 0 U) O U dc U U)<|rS (SX (pO U U U (hf x (aR hx)) (bq [1])) U U)<|RK C<|cu U (fun hp=>?_) (fun hp=>?_)
 ·refine WS fun _ D=>rP 2 [] I ?_
  refine RK D<|ak<|Q1 hQ U U U ?_
  exact cI (td hx hp A).symm
 refine cf<|aL<|KK L<|aq<|rP 2 [] I ?_
 refine aD ?_
 refine a7 (F ⟨(i+1),⟨om,sM hx A hp⟩⟩ _ _ _ U os (bx U) (aP [0,1]))
theorem BW (l:List aS) (lA:OA) (lC:Nat) (f:Value) (p:aS→Bool) (X:av) (hf: ∀ x0,x0∈l→CX Tryz.prog f [.agg (aS.cells x0).toArray] [X] (.bool (p x0))) (hlen:l.length≤1000000):
 dx Tryz.prog 62 [(vS lA l.length lC),f] [(rd lA l.length 4 (l.map aS.cells)),X] (vB (l.any p)):=by
 refine bB kr Tryz.func62 U U fun C Q hQ hN=>?_
 try dsimp only
 refine WS fun _ A=>bE 1 U<|RK A<|WS fun _ B=>bE 2 U<|rS (CL (HB l lA lC f p X (by exact hf) hlen) (bq [0,1]) U)<|rP 2 [] I ?_
 refine RK B<|ak<|Q1 hQ U U U ?_
 exact cB rj
theorem Ph (f:aS) (fm:List (Int×Bool)) (gm:Nat) (j:cH) (kA:OA) (kC:Nat) (az:List RA) (cA:OA) (cC:Nat) (bA:OA) (bC:Nat) (slA:OA) (slC:Nat) (drA:OA) (drC:Nat) (ha:List dG) (heA:OA) (heC:Nat) (faA:OA) (faC:Nat) (prA:OA) (prC:Nat) (d:aw) (sgA:OA) (sgC g1:Nat) (g2 g3:Nat) (hin:gZ j az ha) (hok:dU j=0) (hfm:f∈j.aI) (hsl:d.bw.aa.length≤1000000):
 dx Tryz.prog 63 [(vA (aS.cells f)),(vP g1),(vP g2),(vP g3)] [(jM iV gm (cK vB fm)),(rd kA j.Race.au.aV.length 9 (j.Race.au.aV.map ao.cells)),(rd cA j.Race.au.ar.length 2 (List.zipWith ay.cells j.Race.au.ar az)),(dL (br ay.gn j.Race.au.ar az)),(rd bA j.Race.au.ab.length 4 (j.Race.au.ab.map bI.cells)),(rd slA j.Race.bj.length 1 (j.Race.bj.map iC)),(rd drA j.Race.cq.length 1 (j.Race.cq.map iC)),(rd heA j.Race.aH.length 1 (List.zipWith de j.Race.aH ha)),(dL (br eY j.Race.aH ha)),(rd faA j.aI.length 4 (j.aI.map aS.cells)),(rd prA j.ax.length 5 (j.ax.map aZ.cells)),(rd sgA d.bw.aa.length 2 (d.bw.aa.map aF.cells)),(cm g1 45 [(Value.map (some gm))]),(cm g2 93 (cU.cells (cU.mk (nN j kA kC cA cC bA bC slA slC drA drC heA heC faA faC prA prC)))),(cm g3 58 (aO.cells (aO.mk d.Out d.c_ d.Time (jf d.bw sgA sgC))))] (vB (((List.lookup (oo j.aI f) fm).getD false)&& !decide (fK j.Race.au f d=0))):=by
 have L:=hin.race
 have AB:=hin.race.line
 have P:=hin.race.iX
 have R:=hin.race.has
 have M:=hin.race.iW
 have J:=hin.nf
 have K:=hin.np
 have D:=(eH hok).1
 have G:=(eH hok).2
 have H:=(eQ D).1
 have S:=(eQ D).2
 have F:=(dK H).2.head
 unfold eL at F
 have C:=G.fault f hfm
 have O:0≤f.g9∧f.g9≤1000000:=by have N:=C.2.2; split at N<;>omega
 refine bB kr Tryz.func63 U U fun AA Q hQ hN=>?_
 try dsimp only
 refine WS fun _ E=>er U fun T=>bE 1 U<|RK E<|aj fun _ B=>dg cp 15 kr<|lu 5 [0,1,2] (mr 13 U (mr 14 U (mc 0 U I))) U<|dS (CL (Am j.aI faA faC f asm) (bq [10]) U)<|dS (SX (ob (kV:=iV) (x:=(oo j.aI f)) (l:=fm) (f:=Value.bool) (z:=false) U U U Av (gJ rM) Su (by exact L5 1 U)) U U)<|dP 1 [] I ?_
 refine js (t:=13) U (fun A=>?_) (fun A=>?_)
 ·refine dP 7 [] I ?_
  refine cE<|RK B<|ak<|Q1 hQ U U U ?_
  (rw [A,Bool.false_and]; done)
 refine lu 3 [0,1,2] (mr 14 U (mc 0 U (mr 15 U I))) U<|dS (CL (zA j kA kC az cA cC bA bC slA slC drA drC ha heA heC faA faC prA prC f d sgA sgC hin (by exact C.1) asm hsl) (bq [2,3,4,5,6,7,8,9,10,11,12]) U)<|dS (BI U pT)<|dP 2 [] I ?_
 refine cE<|RK B<|ak<|Q1 hQ U U U ?_
 (rw [A,Bool.true_and]; done)
end
section
open Go.RowKit
theorem Ms (fm:List (Int×Bool)) (gm:Nat) (j:cH) (kA:OA) (kC:Nat) (az:List RA) (cA:OA) (cC:Nat) (bA:OA) (bC:Nat) (slA:OA) (slC:Nat) (drA:OA) (drC:Nat) (ha:List dG) (heA:OA) (heC:Nat) (faA:OA) (faC:Nat) (prA:OA) (prC g1 g2:Nat) (hin:gZ j az ha) (hok:dU j=0):
 NB Tryz.prog 61 [] [(vP g1),(vP g2)] [(jM iV gm (cK vB fm)),(rd kA j.Race.au.aV.length 9 (j.Race.au.aV.map ao.cells)),(rd cA j.Race.au.ar.length 2 (List.zipWith ay.cells j.Race.au.ar az)),(dL (br ay.gn j.Race.au.ar az)),(rd bA j.Race.au.ab.length 4 (j.Race.au.ab.map bI.cells)),(rd slA j.Race.bj.length 1 (j.Race.bj.map iC)),(rd drA j.Race.cq.length 1 (j.Race.cq.map iC)),(rd heA j.Race.aH.length 1 (List.zipWith de j.Race.aH ha)),(dL (br eY j.Race.aH ha)),(rd faA j.aI.length 4 (j.aI.map aS.cells)),(rd prA j.ax.length 5 (j.ax.map aZ.cells)),(cm g1 93 (cU.cells (cU.mk (nN j kA kC cA cC bA bC slA slC drA drC heA heC faA faC prA prC)))),(cm g2 45 [(Value.map (some gm))])] ((0:Nat)) (H5 (g8 j (lk j.aI fm))) (fun k=>k=j.Race.aH.length):=by
 have Cp:=hin.race
 have IO:=hin.race.line
 have J5:=hin.race.iX
 have J6:=hin.race.has
 have Jc:=hin.race.iW
 have Id:=hin.nf
 have Ja:=hin.np
 have Ck:=(eH hok).1
 have J7:=(eH hok).2
 have H1:=(eQ Ck).1
 have IR:=(eQ Ck).2
 have G5:=(dK H1).2.head
 unfold eL at G5
 refine Mh kr Tryz.func61 U U fun l J Z A0 w0 Q hY EQ EF hQ hN=>?_
 try dsimp only
 refine WS fun _ FS=>rP 6 [] (mr 12 U I) ?_
 refine RK FS<|aB ?_
 have B:(0≤j.Race.aH.length)∧(J 0 A0)∧(Fo A0 w0 A0):=by exact ⟨Nat.zero_le _,EQ,EF⟩
 refine bT (ι:={z:Nat×av // (z.1≤j.Race.aH.length)∧(J z.1 z.2)∧(Fo A0 w0 z.2)}) [0,1,2,15,16] [1,2,3,4,5,6,7,8,9,10,11,12,13] U U (fun z=>[(17,(vI (z.1.1:Int)))]) (fun z=>[z.1.2]) (fun _=>rfl) (fun _=>rfl) (fun z=>j.Race.aH.length-z.1.1) ⟨(0,A0),B⟩ (bx U) (aP [1,2,3,4,5,6,7,8,9,10,11,12,13,0]) ?_
 clear B
 rintro ⟨⟨h,A⟩,⟨X,F,G⟩⟩ J2 Eq
 try dsimp only at X F G
 try dsimp only
 refine WS fun _ Fd=>rP 1 [] I ?_
 refine RK Fd<|aj fun _ Fn=>bQ U (aT fun h5=>?_) (aU fun h5=>?_)
 ·refine bL<|ai<|ai<|aG ?_
  refine hN _ _ _ (jI (vs:=[]) trivial fun w hs=>Oz 13 U (by show h=j.Race.aH.length; omega) F G hs)
 refine WK Fn<|aj fun _ GE=>aB<|WS fun _ GT=>?_
 obtain ⟨ht,E⟩:=aJ j.Race.aH h om
 obtain ⟨C,D⟩:=aJ ha h om
 have Ci:(List.zipWith de j.Race.aH ha)[h]? =some (de ht C):=dC E D
 refine rS (IA h U (aA 7 U) rK dc om om) ?_
 have Cf:=Cp.gj _ _ _ E D
 have If:=Cf.ot
 have In:=(IR.gj ht (aR E)).1
 refine rS (hG h 0 (vS C.1.1 ht.length C.1.2) U cb (aA 7 U) Ci U dc U)<|rP 1 [] I ?_
 refine RK GT<|WS fun _ Gl=>lj (kV:=iV) U U fun b9=>?_
 try dsimp only
 refine bE 1 U<|RK Gl<|aj fun _ b=>WS fun _ e=>rP 3 [] I ?_
 refine RK e<|aB ?_
 skip
 have B:(0≤ht.length):=by exact Nat.zero_le _
 refine bT (ι:={z:Nat // (z≤ht.length)}) [0,1,2,5,6,15,16,17,23] [1,2,3,4,5,6,7,8,9,10,11,12,13,14] U U (fun z=>[(24,(vI (z.1:Int)))]) (fun z=>[(jM iV b9 (cK vB (hU (kX j.Race.au j.aI fm ht) z.1 0)))]) (fun _=>rfl) (fun _=>rfl) (fun z=>ht.length-z.1) ⟨0,B⟩ (bx U) (aP [1,2,3,4,5,6,7,8,9,10,11,12,13,14,0]) ?_
 clear B
 rintro ⟨q,Hi⟩ J12 Y
 try dsimp only
 refine WS fun _ g=>rP 1 [] I ?_
 refine RK g<|aj fun _ i=>cu U (aU fun C3=>?_) (aT fun C3=>?_)
 ·refine WK i<|aj fun _ m=>aB<|WS fun _ o=>bE 2 U<|RK o<|aq<|rP 2 [] I ?_
  have A5:(dz (hU (kX j.Race.au j.aI fm ht) q 0) (q:Int) true)=(hU (kX j.Race.au j.aI fm ht) (q+1) 0):=by exact I8
  refine il (kV:=iV) (x:=(q:Int)) (C':=[_,_,_,_,_,_,_,_,_,_,_,_,_,_,(jM iV b9 (cK vB (hU (kX j.Race.au j.aI fm ht) (q+1) 0)))]) 14 U U U U Av (gJ rM) U ((fU _ _ _ _).symm.trans (congrArg _ A5)) U<|aD<|aL<|KK m<|aq<|rP 2 [] I ?_
  refine aD ?_
  have A6:(vI (((q+1):Nat):Int))=(vI ((q:Int)+1)):=by exact cI om
  refine a7 (Y ⟨(q+1),(by first|omega|(simp only []; omega))⟩ _ _ _ U os (cw 9<|aX U A6<|df.nil _) (aP [0,1,2,3,4,5,6,7,8,9,10,11,12,13,14]))
 refine bL<|ai<|ai<|aG<|KK b<|aj fun _ p=>WS fun _ r=>rP 3 [] I ?_
 refine RK r<|aB ?_
 rw [show (hU (kX j.Race.au j.aI fm ht) q 0)=(hU (kX j.Race.au j.aI fm ht) ht.length 0) from by rw [show q=ht.length by omega]]
 have B:(0≤ht.length):=by exact Nat.zero_le _
 refine bT (ι:={z:Nat // (z≤ht.length)}) [0,1,2,5,6,15,16,17,30,31] [0,1,2,3,4,5,6,7,8,9,10,11,12,13] U U (fun z=>[(32,(vI (z.1:Int)))]) (fun z=>[(jM iV b9 (cK vB (hU (kX j.Race.au j.aI fm ht) ht.length z.1)))]) (fun _=>rfl) (fun _=>rfl) (fun z=>ht.length-z.1) ⟨0,B⟩ (bx U) (aP [0,1,2,3,4,5,6,7,8,9,10,11,12,13,14]) ?_
 clear B
 rintro ⟨q,C0⟩ J22 R
 try dsimp only
 refine WS fun _ s=>rP 1 [] I ?_
 refine RK s<|aj fun _ t=>bQ U (aT fun Di=>?_) (aU fun Di=>?_)
 ·refine bL<|ai<|ai<|aG<|KK p<|WS fun _ y=>bE 1 U<|RK y<|aj fun _ AC=>WS fun _ AO=>rP 3 [] I ?_
  refine RK AO<|aB ?_
  rw [show (hU (kX j.Race.au j.aI fm ht) ht.length q)=(hU (kX j.Race.au j.aI fm ht) ht.length ht.length) from by rw [show q=ht.length by omega]]
  refine ew 3 1 ?_
  have B:(0≤ht.length):=by exact Nat.zero_le _
  refine bT (ι:={z:Nat×(OA)×Nat // (z.1≤ht.length)}) [0,1,2,5,6,15,16,17,47] [1,2,3,4,5,6,7,8,9,10,11,12,13,14,15] U U (fun z=>[(10,(vS z.1.2.1 ((iQ (kX j.Race.au j.aI fm ht) z.1.1).length) z.1.2.2)),(48,(vI (z.1.1:Int)))]) (fun z=>[(own z.1.2.1 z.1.2.2 3 1 ((iQ (kX j.Race.au j.aI fm ht) z.1.1).map iC))]) (fun _=>rfl) (fun _=>rfl) (fun z=>ht.length-z.1.1) ⟨(0,none,0),B⟩ (bx U) (aP [1,2,3,4,5,6,7,8,9,10,11,12,13,14,15,0]) ?_
  clear B
  rintro ⟨⟨q,a,c⟩,M⟩ J37 S
  try dsimp only at M
  try dsimp only
  refine WS fun _ A1=>rP 1 [] I ?_
  refine RK A1<|aj fun _ A2=>bQ U (aT fun Do=>?_) (aU fun Do=>?_)
  ·refine bL<|ai<|ai<|aG<|KK AC<|aj fun _ V=>?_
   rw [show (iQ (kX j.Race.au j.aI fm ht) q)=(iQ (kX j.Race.au j.aI fm ht) ht.length) from by rw [show q=ht.length by omega]]
   refine aq<|rP 2 [] I ?_
   refine H2 (k:=h) (k':=(h+1)) 13 15 U hY F G U U U ⟨_,_,_,Hk E,U,U,U⟩ U U U U (fun B50 K AB=>?_) (fun B50 K AB=>?_)
   rotate_left 1
   ·refine rP 1 [] I ?_
    refine RK V<|aQ U<|ak ?_
    refine hQ _ _ _ (jI (vs:=[]) trivial fun w hs=>D_ 0 U K AB hs)
   refine bE 1 U<|RK V<|cg U<|cf<|aL<|KK GE<|aq<|rP 2 [] I ?_
   refine aD ?_
   have B9:(vI (((h+1):Nat):Int))=(vI ((h:Int)+1)):=by exact cI om
   refine a7 (Eq ⟨((h+1),B50),⟨om,K,AB⟩⟩ _ _ _ U os (cw 5<|aX U B9<|df.nil _) (aP [1,2,3,4,5,6,7,8,9,10,11,12,13,0]))
  refine WK A2<|aj fun _ AA=>aB<|WS fun _ A3=>bE 2 U<|RK A3<|WS fun _ A4=>rP 2 [] I ?_
  refine rS (SX (ob (kV:=iV) (x:=(q:Int)) (l:=(hU (kX j.Race.au j.aI fm ht) ht.length ht.length)) (f:=Value.bool) (z:=false) U U U Av (gJ rM) Su (by exact aA 14 U)) U U)<|RK A4<|bQ U (fun W=>?_) (fun W=>?_)
  ·refine cf<|aL<|KK AA<|aq<|rP 2 [] I ?_
   refine aD ?_
   rw [show (iQ (kX j.Race.au j.aI fm ht) q)=(iQ (kX j.Race.au j.aI fm ht) (q+1)) from (oW (by rw [← yf (P:=(kX j.Race.au j.aI fm ht)) (show q<ht.length by omega)]; simpa using W)).symm]
   have B3:(vI (((q+1):Nat):Int))=(vI ((q:Int)+1)):=by exact cI om
   refine a7 (S ⟨((q+1),a,c),(by first|omega|(simp only []; omega))⟩ _ _ _ U os (cw 10<|aX U B3<|df.nil _) (aP [0,1,2,3,4,5,6,7,8,9,10,11,12,13,14,15]))
  refine aq<|rP 2 [] I ?_
  refine dZ (xs:=[.tmp 55]) (cs:=[(vI (q:Int))]) U dp j5 U U U U (by simp [Value.cells]) U U fun J3=>?_
  refine fg (es2:=(List.map iC (iQ (kX j.Race.au j.aI fm ht) (q+1)))) (m':=(iQ (kX j.Race.au j.aI fm ht) (q+1)).length) 16 U U U ub U U sm (bk (es:=List.map iC [(q:Int)]) 0 U U (by simp [bJ]) U) (lT _) (by have:=nk (P:=(kX j.Race.au j.aI fm ht)) (n:=q); omega) (by have:=nk (P:=(kX j.Race.au j.aI fm ht)) (n:=q); simp only [maxLen]; omega) (by rw [qD (by rw [← yf (P:=(kX j.Race.au j.aI fm ht)) (show q<ht.length by omega)]; exact W)]; simp) sm U fun C1 C2=>?_
  try dsimp only
  refine bE 1 U<|aD<|aL<|KK AA<|aq<|rP 2 [] I ?_
  refine aD ?_
  have BV:(vI (((q+1):Nat):Int))=(vI ((q:Int)+1)):=by exact cI om
  refine a7 (S ⟨((q+1),C1,C2),(by first|omega|(simp only []; omega))⟩ _ _ _ U os (cw 10<|aX U BV<|df.nil _) (aP [1,2,3,4,5,6,7,8,9,10,11,12,13,14,15,16]))
 refine WK t<|aj fun _ T=>aB<|WS fun _ u=>rP 1 [] I ?_
 obtain ⟨d,hd⟩:=aJ ht q om
 obtain ⟨da,CF⟩:=aJ C.2 q om
 have Go:(List.zipWith aw.cells ht C.2)[q]? =some (aw.cells d da):=dC hd CF
 refine rS (IA q U (show iN _ (rd C.1.1 ht.length 7 (List.zipWith aw.cells ht C.2)).holds from (cR 8 U (bM E D ct))) s8 dc om om) ?_
 have J8:=Cf.sig d (aR hd)
 refine rS (lh q 0 (aO.cells (aO.mk d.Out d.c_ d.Time (cN.mk d.bw.Start d.bw.fJ (bH.mk da.1 d.bw.aa.length da.2)))) U cb (show iN _ (rd C.1.1 ht.length 7 (List.zipWith aw.cells ht C.2)).holds from (cR 8 U (bM E D ct))) Go U dc U U)<|AL U zS fun L=>bE 1 U<|fu U Cv U<|RK u<|WS fun _ v=>rP 3 [] (mr 12 U I) ?_
 refine rS (FU U) ?_
 refine rS (CL (BW j.aI faA faC (Value.func (.func 63) [].toArray [(vP g2),(vP g1),(vP L)].toArray) (fun O=>(((List.lookup (oo j.aI O) fm).getD false)&& !decide (fK j.Race.au O d=0))) (dL [(jM iV gm (cK vB fm)),(rd kA j.Race.au.aV.length 9 (j.Race.au.aV.map ao.cells)),(rd cA j.Race.au.ar.length 2 (List.zipWith ay.cells j.Race.au.ar az)),(dL (br ay.gn j.Race.au.ar az)),(rd bA j.Race.au.ab.length 4 (j.Race.au.ab.map bI.cells)),(rd slA j.Race.bj.length 1 (j.Race.bj.map iC)),(rd drA j.Race.cq.length 1 (j.Race.cq.map iC)),(rd heA j.Race.aH.length 1 (List.zipWith de j.Race.aH ha)),(dL (br eY j.Race.aH ha)),(rd faA j.aI.length 4 (j.aI.map aS.cells)),(rd prA j.ax.length 5 (j.ax.map aZ.cells)),(rd da.1 d.bw.aa.length 2 (d.bw.aa.map aF.cells)),(cm g2 45 [(Value.map (some gm))]),(cm g1 93 (cU.cells (cU.mk (nN j kA kC cA cC bA bC slA slC drA drC heA heC faA faC prA prC)))),(cm L 58 (aO.cells (aO.mk d.Out d.c_ d.Time (cN.mk d.bw.Start d.bw.fJ (bH.mk da.1 d.bw.aa.length da.2)))))]) (by intro O N; exact kG (fi:=[]) (ca:=[(vP g2),(vP g1),(vP L)]) (jJ (Ph O fm gm j kA kC az cA cC bA bC slA slC drA drC ha heA heC faA faC prA prC d da.1 da.2 g2 g1 L (by first|assumption|exact N|omega) (by first|assumption|exact N|omega) (by first|assumption|exact N|omega) (by first|assumption|exact N|omega)) (bq [0,1,2,3,4,5,6,7,8,9,10,11,12,13,14]))) asm) (gT 10 U U<|aK (jF (ox [1,2,3,4,5,6,7,8,9,10,11]<|aK (show iN _ (rd da.1 d.bw.aa.length 2 (d.bw.aa.map aF.cells)).holds from (cR 9 U (bM E D (dJ _ (bM hd CF (by simp [aw.gn]))))))<|gT 13 U U<|gT 12 U U<|gT 0 U U<|aM))<|aM) U) ?_
 refine rP 1 [] I ?_
 refine RK v<|bQ U (fun H=>?_) (fun H=>?_)
 ·rw [Bool.not_eq_false'] at H
  refine cf<|aL<|KK T<|aq<|rP 2 [] I ?_
  refine aD ?_
  rw [show (hU (kX j.Race.au j.aI fm ht) ht.length q)=(hU (kX j.Race.au j.aI fm ht) ht.length (q+1)) from Gs (by rw [Ec hd]; simpa using H)]
  have A9:(vI (((q+1):Nat):Int))=(vI ((q:Int)+1)):=by exact cI om
  refine a7 (R ⟨(q+1),(by first|omega|(simp only []; omega))⟩ _ _ _ U os (cw 10<|aX U A9<|df.nil _) (aP [1,2,3,4,5,6,7,8,9,10,11,12,13,14,15]))
 rw [Bool.not_eq_true'] at H
 refine aq<|rP 2 [] I ?_
 have A7:(eO (hU (kX j.Race.au j.aI fm ht) ht.length q) (q:Int))=(hU (kX j.Race.au j.aI fm ht) ht.length (q+1)):=by exact HP (by rw [Ec hd]; exact H)
 refine sG (kV:=iV) (x:=(q:Int)) (C':=[_,_,_,_,_,_,_,_,_,_,_,_,_,_,_,(jM iV b9 (cK vB (hU (kX j.Race.au j.aI fm ht) ht.length (q+1))))]) 15 U U U U Av (gJ rM) U ((nj _ _ _).symm.trans (congrArg _ A7)) U<|aD<|aL<|KK T<|aq<|rP 2 [] I ?_
 refine aD ?_
 have A8:(vI (((q+1):Nat):Int))=(vI ((q:Int)+1)):=by exact cI om
 refine a7 (R ⟨(q+1),(by first|omega|(simp only []; omega))⟩ _ _ _ U os (cw 10<|aX U A8<|df.nil _) (aP [1,2,3,4,5,6,7,8,9,10,11,12,13,14,15]))
end
section
open Go.RowKit
theorem O5 (gm:Nat) (j:cH) (kA:OA) (kC:Nat) (cA:OA) (cC:Nat) (bA:OA) (bC:Nat) (slA:OA) (slC:Nat) (drA:OA) (drC:Nat) (heA:OA) (heC:Nat) (faA:OA) (faC:Nat) (prA:OA) (prC:Nat):
 q6 Tryz.prog 40 [(vA (cU.cells (cU.mk (nN j kA kC cA cC bA bC slA slC drA drC heA heC faA faC prA prC)))),(Value.map (some gm))] [] (fun (x:Nat×Nat)=>(Value.func (.func 61) [].toArray [(Value.pointer (some ⟨x.1,0,none⟩)),(Value.pointer (some ⟨x.2,0,none⟩))].toArray)) (fun (x:Nat×Nat)=>True) (fun (x:Nat×Nat)=>[(cm x.1 93 (cU.cells (cU.mk (nN j kA kC cA cC bA bC slA slC drA drC heA heC faA faC prA prC)))),(cm x.2 45 [(Value.map (some gm))])]):=by
 refine fR kr Tryz.func40 U U fun E Q hQ hN=>?_
 try dsimp only
 refine WS fun _ A=>er U fun C=>vR U U fun D=>bE 1 U<|RK A<|WS fun _ B=>rS (FU U)<|rP 1 [] I ?_
 refine RK B<|ak<|LX hQ (C,D) [1,0] [] I U U U U ?_
 trivial
theorem L6 (fm:List (Int×Bool)) (gm:Nat) (j:cH) (kA:OA) (kC:Nat) (az:List RA) (cA:OA) (cC:Nat) (bA:OA) (bC:Nat) (slA:OA) (slC:Nat) (drA:OA) (drC:Nat) (ha:List dG) (heA:OA) (heC:Nat) (faA:OA) (faC:Nat) (prA:OA) (prC g1 g2:Nat) (hin:gZ j az ha) (hok:dU j=0):
 q6 Tryz.prog 60 [(vS none 0 0),(Value.func (.func 61) [].toArray [(vP g1),(vP g2)].toArray)] [(jM iV gm (cK vB fm)),(rd kA j.Race.au.aV.length 9 (j.Race.au.aV.map ao.cells)),(rd cA j.Race.au.ar.length 2 (List.zipWith ay.cells j.Race.au.ar az)),(dL (br ay.gn j.Race.au.ar az)),(rd bA j.Race.au.ab.length 4 (j.Race.au.ab.map bI.cells)),(rd slA j.Race.bj.length 1 (j.Race.bj.map iC)),(rd drA j.Race.cq.length 1 (j.Race.cq.map iC)),(rd heA j.Race.aH.length 1 (List.zipWith de j.Race.aH ha)),(dL (br eY j.Race.aH ha)),(rd faA j.aI.length 4 (j.aI.map aS.cells)),(rd prA j.ax.length 5 (j.ax.map aZ.cells)),(cm g1 93 (cU.cells (cU.mk (nN j kA kC cA cC bA bC slA slC drA drC heA heC faA faC prA prC)))),(cm g2 45 [(Value.map (some gm))])] (fun (x:(List RA)×(OA)×Nat)=>(vS x.2.1 ((g8 j (lk j.aI fm)).length) x.2.2)) (fun (x:(List RA)×(OA)×Nat)=>x.1.length=(g8 j (lk j.aI fm)).length) (fun (x:(List RA)×(OA)×Nat)=>[(own x.2.1 x.2.2 29 1 (List.zipWith vD (g8 j (lk j.aI fm)) x.1)),(bX (br GY (g8 j (lk j.aI fm)) x.1))]):=by
 have W:=hin.race
 have P:=hin.race.line
 have g:=hin.race.iX
 have m:=hin.race.has
 have X:=hin.race.iW
 have AA:=hin.nf
 have V:=hin.np
 have f:(g8 j (lk j.aI fm)).length=j.Race.aH.length:=by unfold g8; rw [List.length_map]
 refine fR kr Tryz.func60 U U fun s Q hQ hN=>?_
 try dsimp only
 refine WS fun _ K=>vR U U fun T=>bE 1 U<|RK K<|aj fun _ L=>WS fun _ M=>rP 1 [] I ?_
 refine RK M<|aB<|jd 1 U (by exact fun _ h=>h)<|jd 3 U (by exact fun _ h=>h)<|jd 5 U (by exact fun _ h=>h)<|jd 7 U (by exact fun _ h=>h)<|jd 9 U (by exact fun _ h=>h)<|jd 11 U (by exact fun _ h=>h)<|jd 13 U (by exact fun _ h=>h)<|jd 15 U (by exact fun _ h=>h)<|jd 17 U (by exact fun _ h=>h)<|jd 19 U (by exact fun _ h=>h)<|jd 21 U (by exact fun _ h=>h)<|jd 23 U (by exact fun _ h=>h)<|jd 25 U (by exact fun _ h=>h)<|ew 29 1<|qE ?_
 refine JQ (L0:=[(2,(vP T))]) (F:=[(jM iV gm (cK vB fm)).ro,(rd kA j.Race.au.aV.length 9 (j.Race.au.aV.map ao.cells)).ro,(rd cA j.Race.au.ar.length 2 (List.zipWith ay.cells j.Race.au.ar az)).ro,(dL (br ay.gn j.Race.au.ar az)).ro,(rd bA j.Race.au.ab.length 4 (j.Race.au.ab.map bI.cells)).ro,(rd slA j.Race.bj.length 1 (j.Race.bj.map iC)).ro,(rd drA j.Race.cq.length 1 (j.Race.cq.map iC)).ro,(rd heA j.Race.aH.length 1 (List.zipWith de j.Race.aH ha)).ro,(dL (br eY j.Race.aH ha)).ro,(rd faA j.aI.length 4 (j.aI.map aS.cells)).ro,(rd prA j.ax.length 5 (j.ax.map aZ.cells)).ro,(cm g1 93 (cU.cells (cU.mk (nN j kA kC cA cC bA bC slA slC drA drC heA heC faA faC prA prC)))).ro,(cm g2 45 [(Value.map (some gm))]).ro]) (fun k (y:(List RA)×(OA)×Nat)=>(y.1.length=k)) (fun k y=>[(bX (br GY (List.take k (g8 j (lk j.aI fm))) y.1)),(own y.2.1 y.2.2 29 1 (List.zipWith vD (List.take k (g8 j (lk j.aI fm))) y.1)),(cm T 42 [(vS y.2.1 ((List.take k (g8 j (lk j.aI fm))).length) y.2.2)]),(jM iV gm (cK vB fm)).ro,(rd kA j.Race.au.aV.length 9 (j.Race.au.aV.map ao.cells)).ro,(rd cA j.Race.au.ar.length 2 (List.zipWith ay.cells j.Race.au.ar az)).ro,(dL (br ay.gn j.Race.au.ar az)).ro,(rd bA j.Race.au.ab.length 4 (j.Race.au.ab.map bI.cells)).ro,(rd slA j.Race.bj.length 1 (j.Race.bj.map iC)).ro,(rd drA j.Race.cq.length 1 (j.Race.cq.map iC)).ro,(rd heA j.Race.aH.length 1 (List.zipWith de j.Race.aH ha)).ro,(dL (br eY j.Race.aH ha)).ro,(rd faA j.aI.length 4 (j.aI.map aS.cells)).ro,(rd prA j.ax.length 5 (j.ax.map aZ.cells)).ro]) (fun _ (_:Unit)=>False) (fun _ _=>[]) [0,1,15,16,17,18,19,20,21,22,23,24,25,26] [14,13,12,11,10,9,8,7,6,5,4,3,2] (([]:List RA),none,0) rfl rfl (Ms fm gm j kA kC az cA cC bA bC slA slC drA drC ha heA heC faA faC prA prC g1 g2 (by first|assumption|omega|(simp; done)) (by first|assumption|omega|(simp; done))) rfl rfl rfl (by exact rfl) (by simp only [List.forall_mem_cons,List.not_mem_nil,false_imp_iff,implies_true,and_true]; exact ⟨⟨_,aR (i:=0) rfl,(dy (bR _))⟩,⟨_,aR (i:=1) rfl,(dy (bR _))⟩,⟨_,aR (i:=2) rfl,(dy (bR _))⟩,⟨_,aR (i:=3) rfl,(dy (bR _))⟩,⟨_,aR (i:=4) rfl,(dy (bR _))⟩,⟨_,aR (i:=5) rfl,(dy (bR _))⟩,⟨_,aR (i:=6) rfl,(dy (bR _))⟩,⟨_,aR (i:=7) rfl,(dy (bR _))⟩,⟨_,aR (i:=8) rfl,(dy (bR _))⟩,⟨_,aR (i:=9) rfl,(dy (bR _))⟩,⟨_,aR (i:=10) rfl,(dy (bR _))⟩,⟨_,aR (i:=11) rfl,(dy (bR _))⟩,⟨_,aR (i:=12) rfl,(dy (bR _))⟩⟩) (by rintro k x R0 p ⟨_,_,_,_,rfl,_,_⟩; rfl) rfl (bx rfl) ?_ ?_ (fun _ _ _ h=>h.elim) (fun _ _ h=>h.elim)
 rotate_left 1
 ·rintro q k ⟨gz,a,c⟩ B C
  have D:=C
  try dsimp only at D
  try dsimp only
  rw [show (List.take k (g8 j (lk j.aI fm)))=(g8 j (lk j.aI fm)) from List.take_of_length_le (by have d:k=j.Race.aH.length:=B; omega)]
  have O:gz.length=(g8 j (lk j.aI fm)).length:=by have d:k=j.Race.aH.length:=B; omega
  refine aL<|KK L<|WS fun _ G=>rP 2 [] (mc 16 U I) ?_
  refine RK G<|ak ?_
  refine hQ _ _ _ (qG 0 U U<|jI (vs:=[(vS a ((g8 j (lk j.aI fm)).length) c)]) ⟨U,trivial⟩ fun w hs=>OC (gz,a,c) [15,14] ?_ ?_ U U (by show List.all _ _=true; simp only [fy,List.all_nil,xM,Bool.and_true]; rfl) hs)
  ·rfl
  ·exact O
 rintro k x R0 p ⟨gz,a,c⟩ l ra rb S t K5 Qr6 o hx AB N H Y Z
 obtain ⟨xa,xc,row,A,rfl,rfl,rfl⟩:=hx
 have D:=AB
 try dsimp only at D
 try dsimp only
 have n:=(aW.1 A).1
 have E:gz.length=(List.take k (g8 j (lk j.aI fm))).length:=by rw [List.length_take]; omega
 have R:(List.take (k+1) (g8 j (lk j.aI fm))).length=k+1:=by rw [List.length_take]; omega
 refine aq<|rP 1 [] I ?_
 refine aD<|a7 (N _ _ ?_)
 refine aB<|aq<|rP 2 [] (mc 3 U I) ?_
 refine dZ (xs:=[.tmp 9]) (cs:=[(vS xa row.length xc)]) U DE PX U U U U (by simp [Value.cells]) U U fun r=>?_
 refine fg (es2:=(List.zipWith vD (List.take (k+1) (g8 j (lk j.aI fm))) (gz++[(xa,xc)]))) (m':=(List.take (k+1) (g8 j (lk j.aI fm))).length) 3 rfl rfl rfl SZ rfl rfl (mG E).symm (bk (es:=List.zipWith vD [row] [(xa,xc)]) 0 rfl rfl (by intro e he; simp [vD] at he; subst he; rfl) rfl) (My _ _) om (by simp only [maxLen]; omega) (by rw [xC A]; exact Fk E.symm) (by exact mG (by rw [R]; simp; omega)) rfl fun b J=>?_
 try dsimp only
 refine Oe (Y':=br GY (List.take (k+1) (g8 j (lk j.aI fm))) (gz++[(xa,xc)])) 2 16 U U (by rw [xC A]; exact Dd E.symm U) ?_
 refine UL U Tb U U<|aD<|aL ?_
 exact H ((gz++[(xa,xc)]),b,J) _ _ (by (rw [List.length_append]; simp; omega)) (aP [2,0,3,4,5,6,7,8,9,10,11,12,13,14,15])
theorem KI (fm:List (Int×Bool)) (gm:Nat) (j:cH) (kA:OA) (kC:Nat) (az:List RA) (cA:OA) (cC:Nat) (bA:OA) (bC:Nat) (slA:OA) (slC:Nat) (drA:OA) (drC:Nat) (ha:List dG) (heA:OA) (heC:Nat) (faA:OA) (faC:Nat) (prA:OA) (prC g1 g2:Nat) (hin:gZ j az ha) (hok:dU j=0):
 q6 Tryz.prog 39 [(Value.func (.func 61) [].toArray [(vP g1),(vP g2)].toArray)] [(jM iV gm (cK vB fm)),(rd kA j.Race.au.aV.length 9 (j.Race.au.aV.map ao.cells)),(rd cA j.Race.au.ar.length 2 (List.zipWith ay.cells j.Race.au.ar az)),(dL (br ay.gn j.Race.au.ar az)),(rd bA j.Race.au.ab.length 4 (j.Race.au.ab.map bI.cells)),(rd slA j.Race.bj.length 1 (j.Race.bj.map iC)),(rd drA j.Race.cq.length 1 (j.Race.cq.map iC)),(rd heA j.Race.aH.length 1 (List.zipWith de j.Race.aH ha)),(dL (br eY j.Race.aH ha)),(rd faA j.aI.length 4 (j.aI.map aS.cells)),(rd prA j.ax.length 5 (j.ax.map aZ.cells)),(cm g1 93 (cU.cells (cU.mk (nN j kA kC cA cC bA bC slA slC drA drC heA heC faA faC prA prC)))),(cm g2 45 [(Value.map (some gm))])] (fun (x:(List RA)×(OA)×Nat)=>(vS x.2.1 ((g8 j (lk j.aI fm)).length) x.2.2)) (fun (x:(List RA)×(OA)×Nat)=>x.1.length=(g8 j (lk j.aI fm)).length) (fun (x:(List RA)×(OA)×Nat)=>[(own x.2.1 x.2.2 29 1 (List.zipWith vD (g8 j (lk j.aI fm)) x.1)),(bX (br GY (g8 j (lk j.aI fm)) x.1))]):=by
 refine fR kr Tryz.func39 U U fun AA Q hQ hN=>?_
 try dsimp only
 refine WS fun _ B=>bE 1 U<|RK B<|WS fun _ C=>rP 1 [] I ?_
 refine cX (L6 fm gm j kA kC az cA cC bA bC slA slC drA drC ha heA heC faA faC prA prC g1 g2 hin hok) (bq [0,1,2,3,4,5,6,7,8,9,10,11,12]) U fun H E=>?_
 obtain ⟨A,F,G⟩:=H
 try dsimp only
 have D:=E
 refine rP 1 [] I ?_
 refine RK C<|ak ?_
 refine LX hQ (A,F,G) [0,1] [] I U (by show List.all _ _=true; simp only [fy,List.all_nil,xM,Bool.and_true]; rfl) U U ?_
 exact D
end
section
open Go.RowKit
theorem Fy (j:cH) (kA:OA) (kC:Nat) (az:List RA) (cA:OA) (cC:Nat) (bA:OA) (bC:Nat) (slA:OA) (slC:Nat) (drA:OA) (drC:Nat) (ha:List dG) (heA:OA) (heC:Nat) (faA:OA) (faC:Nat) (prA:OA) (prC:Nat) (hin:gZ j az ha) (hok:dU j=0):
 q6 Tryz.prog 32 [(vA (cU.cells (cU.mk (nN j kA kC cA cC bA bC slA slC drA drC heA heC faA faC prA prC))))] [(rd kA j.Race.au.aV.length 9 (j.Race.au.aV.map ao.cells)),(rd cA j.Race.au.ar.length 2 (List.zipWith ay.cells j.Race.au.ar az)),(dL (br ay.gn j.Race.au.ar az)),(rd bA j.Race.au.ab.length 4 (j.Race.au.ab.map bI.cells)),(rd slA j.Race.bj.length 1 (j.Race.bj.map iC)),(rd drA j.Race.cq.length 1 (j.Race.cq.map iC)),(rd heA j.Race.aH.length 1 (List.zipWith de j.Race.aH ha)),(dL (br eY j.Race.aH ha)),(rd faA j.aI.length 4 (j.aI.map aS.cells)),(rd prA j.ax.length 5 (j.ax.map aZ.cells))] (fun (x:(List RA)×(OA)×Nat)=>(vS x.2.1 ((jY j).length) x.2.2)) (fun (x:(List RA)×(OA)×Nat)=>x.1.length=(jY j).length) (fun (x:(List RA)×(OA)×Nat)=>[(own x.2.1 x.2.2 29 1 (List.zipWith vD (jY j) x.1)),(bX (br GY (jY j) x.1))]):=by
 have AC:=hin.race
 have i:=hin.race.line
 have A5:=hin.race.iX
 have A6:=hin.race.has
 have AO:=hin.race.iW
 have u:=hin.nf
 have y:=hin.np
 have P:=(eH hok).1
 have O:=(eH hok).2
 have h:=(eQ P).1
 have A9:=(eQ P).2
 have d:=(dK h).2.head
 unfold eL at d
 have A7:=O.np
 have w:=wY (j:=j)
 refine fR kr Tryz.func32 U U fun w0 Q hQ hN=>?_
 try dsimp only
 refine WS fun _ Y=>er U fun b2=>rP 1 [] I ?_
 refine RK Y<|WS fun _ Z=>lj (kV:=iV) U U fun T=>?_
 try dsimp only
 refine bE 1 U<|RK Z<|aj fun _ a=>WS fun _ b=>rP 4 [] (mc 1 U I) ?_
 refine rS (FU U) ?_
 refine cX (zy j.ax prA prC (Value.func (.func 31) [(vA (cU.cells (cU.mk (nN j kA kC cA cC bA bC slA slC drA drC heA heC faA faC prA prC))))].toArray [].toArray) (fun q S=>(eI j S)) (dL [(rd kA j.Race.au.aV.length 9 (j.Race.au.aV.map ao.cells)),(rd cA j.Race.au.ar.length 2 (List.zipWith ay.cells j.Race.au.ar az)),(dL (br ay.gn j.Race.au.ar az)),(rd bA j.Race.au.ab.length 4 (j.Race.au.ab.map bI.cells)),(rd slA j.Race.bj.length 1 (j.Race.bj.map iC)),(rd drA j.Race.cq.length 1 (j.Race.cq.map iC)),(rd heA j.Race.aH.length 1 (List.zipWith de j.Race.aH ha)),(dL (br eY j.Race.aH ha)),(rd faA j.aI.length 4 (j.aI.map aS.cells)),(rd prA j.ax.length 5 (j.ax.map aZ.cells))]) (by intro q S k; exact kG (fi:=[(vA (cU.cells (cU.mk (nN j kA kC cA cC bA bC slA slC drA drC heA heC faA faC prA prC))))]) (ca:=[]) (jJ (uI j kA kC az cA cC bA bC slA slC drA drC ha heA heC faA faC prA prC q S asm asm (by (obtain ⟨i_,_,e⟩:=k; exact ⟨i_,e⟩))) (bq [0,1,2,3,4,5,6,7,8,9]))) asm) (gT 11 rfl rfl<|aK (jF (bq [2,3,4,5,6,7,8,9,10,11]))<|aM) rfl fun y9 A0=>?_
 obtain ⟨A2,A3⟩:=y9
 try dsimp only
 rw [show (iQ (hO j.ax (fun q S=>(eI j S))) j.ax.length)=iF j from rfl]
 refine rP 2 [] I ?_
 refine RK b<|aB ?_
 skip
 have A:(0≤(iF j).length):=by exact Nat.zero_le _
 refine bT (ι:={z:Nat // (z≤(iF j).length)}) [1,3,12,13] [0,2,3,4,5,6,7,8,9,10,11,12] U U (fun z=>[(14,(vI (z.1:Int)))]) (fun z=>[(jM iV T (cK vB (vx j.aI (FF j z.1))))]) (fun _=>rfl) (fun _=>rfl) (fun z=>(iF j).length-z.1) ⟨0,A⟩ (bx U) (aP [0,2,3,4,5,6,7,8,9,10,11,12,1]) ?_
 clear A
 rintro ⟨t,g⟩ J13 E
 try dsimp only
 refine WS fun _ F=>rP 1 [] I ?_
 refine RK F<|aj fun _ G=>bQ U (aT fun X=>?_) (aU fun X=>?_)
 ·refine bL<|ai<|ai<|aG<|KK a<|WS fun _ J=>rP 2 [] (mc 1 U I) ?_
  refine cX (O5 T j kA kC cA cC bA bC slA slC drA drC heA heC faA faC prA prC) (aM) U fun r A1=>?_
  obtain ⟨V,C⟩:=r
  try dsimp only
  refine cX (KI (vx j.aI (FF j t)) T j kA kC az cA cC bA bC slA slC drA drC ha heA heC faA faC prA prC V C hin hok) (bq [14,4,5,6,7,8,9,10,11,12,13,0,1]) U fun s R=>?_
  obtain ⟨D,AA,W⟩:=s
  try dsimp only
  have N:=R
  have o:(g8 j (lk j.aI (vx j.aI (FF j t))))=(jY j):=by exact C4 om
  rw [o] at N ⊢
  refine rP 1 [] I ?_
  refine RK J<|ak ?_
  refine LX hQ (D,AA,W) [0,1] [] I U (by show List.all _ _=true; simp only [fy,List.all_nil,xM,Bool.and_true]; rfl) U U ?_
  exact N
 refine WK G<|aj fun _ H=>aB<|WS fun _ AB=>?_
 obtain ⟨gi,B⟩:=aJ (iF j) t om
 have M:=bK iC B
 refine rS (IA t U (aN (n:=(iF j).length) 0 U sm) dp dc om om)<|rS (hG t 0 (vI gi) U cb (aN (n:=(iF j).length) 0 U sm) M U dc U)<|bE 1 U<|RK AB<|dg cp 17 kr<|dP 10 [] (mc 1 U I) ?_
 obtain ⟨gk,A4,v⟩:=GJ B
 refine dP 1 [] I ?_
 obtain ⟨p,hp⟩:=aJ j.ax ((gi).toNat) om
 have l:=bK aZ.cells hp
 refine dS (IA ((gi).toNat) U (aA 11 U) BH dc om om)<|dS (qc ((((gi).toNat)*5)+3) U (aA 11 U) (Nat.mul_pos om dc) fE U) ?_
 have m:=O.gO _ p hp
 have A8:=m.fault
 refine dS (hG ((gi).toNat) 3 (vI p.fZ) U cb (aA 11 U) l U dc U) ?_
 obtain ⟨f,hf⟩:=aJ j.aI ((p.fZ).toNat) om
 have c:=bK aS.cells hf
 refine dS (IA ((p.fZ).toNat) U (aA 10 U) Ar dc om om)<|dS (lh ((p.fZ).toNat) 0 (aS.cells f) U cb (aA 10 U) c U dc U U)<|dS (CL (Am j.aI faA faC f asm) (bq [10]) U)<|cE ?_
 have K:(dz (vx j.aI (FF j t)) (oo j.aI f) true)=(vx j.aI (FF j (t+1))):=by rw [Ij B hp hf,GL]
 refine il (kV:=iV) (x:=(oo j.aI f)) (C':=[_,_,_,_,_,_,_,_,_,_,_,_,(jM iV T (cK vB (vx j.aI (FF j (t+1)))))]) 12 U U U U Av (gJ rM) U ((fU _ _ _ _).symm.trans (congrArg _ K)) U<|aD<|aL<|KK H<|aq<|rP 2 [] I ?_
 refine aD ?_
 have L:(vI (((t+1):Nat):Int))=(vI ((t:Int)+1)):=by exact cI om
 refine a7 (E ⟨(t+1),(by first|omega|(simp only []; omega))⟩ _ _ _ U os (cw 4<|aX U L<|df.nil _) (aP [0,1,2,3,4,5,6,7,8,9,10,11,12]))
theorem yP (j:cH) (kA:OA) (kC:Nat) (az:List RA) (cA:OA) (cC:Nat) (bA:OA) (bC:Nat) (slA:OA) (slC:Nat) (drA:OA) (drC:Nat) (ha:List dG) (heA:OA) (heC:Nat) (faA:OA) (faC:Nat) (prA:OA) (prC:Nat) (hin:gZ j az ha):
 q6 Tryz.prog 11 [(vA (gG.cells (nN j kA kC cA cC bA bC slA slC drA drC heA heC faA faC prA prC)))] [(rd gN 3 2 fF),(rd kA j.Race.au.aV.length 9 (j.Race.au.aV.map ao.cells)),(rd cA j.Race.au.ar.length 2 (List.zipWith ay.cells j.Race.au.ar az)),(dL (br ay.gn j.Race.au.ar az)),(rd bA j.Race.au.ab.length 4 (j.Race.au.ab.map bI.cells)),(rd slA j.Race.bj.length 1 (j.Race.bj.map iC)),(rd drA j.Race.cq.length 1 (j.Race.cq.map iC)),(rd heA j.Race.aH.length 1 (List.zipWith de j.Race.aH ha)),(dL (br eY j.Race.aH ha)),(rd faA j.aI.length 4 (j.aI.map aS.cells)),(rd prA j.ax.length 5 (j.ax.map aZ.cells))] (fun (x:(List RA)×(OA)×Nat)=>(vT [(vS x.2.1 ((eu j).length) x.2.2),(vI (dU j))])) (fun (x:(List RA)×(OA)×Nat)=>x.1.length=(eu j).length) (fun (x:(List RA)×(OA)×Nat)=>[(own x.2.1 x.2.2 29 1 (List.zipWith vD (eu j) x.1)),(bX (br GY (eu j) x.1))]):=by
 have S:=hin.race
 have N:=hin.race.line
 have AA:=hin.race.iX
 have V:=hin.race.has
 have T:=hin.race.iW
 have P:=hin.nf
 have R:=hin.np
 refine fR kr Tryz.func11 U U fun Z Q hQ hN=>?_
 try dsimp only
 refine WS fun _ H=>er U fun X=>bE 1 U<|bE 1 U<|RK H<|WS fun _ AB=>eN 1 [] (mc 0 U I) U<|rS (CL (sN j kA kC az cA cC bA bC slA slC drA drC ha heA heC faA faC prA prC hin) (bq [1,2,3,4,5,6,7,8,9,10,11]) U)<|bE 3 U<|AL U Ff fun Y=>fu U Fl U<|bE 1 U<|RK AB<|aj fun _ J=>WS fun _ K=>rP 2 [] I ?_
 refine RK K<|cu U (bp fun A=>?_) (bo fun A=>?_)
 ·refine WS fun _ L=>?_
  have C:(eu j)=[]:=vr A
  have B:([]:List RA).length=(eu j).length:=by rw [C]; rfl
  refine kW 29 1<|w6 ?_
  rw [show (own none 0 29 1 ([]:List (List Value)))=own none 0 29 1 (List.zipWith vD (eu j) []) from by rw [C]; rfl,show bX []=bX (br GY (eu j) []) from by rw [C]; rfl]
  refine bE 2 U<|rP 1 [] I ?_
  refine RK L<|ak ?_
  refine LX hQ ([],none,0) [1,0] [] I U (by show List.all _ _=true; simp only [fy,List.all_nil,xM,Bool.and_true]; rfl) U ?_ ?_
  ·(rw [vr A]; rfl)
  ·exact B
 refine WK J<|WS fun _ M=>rP 1 [] (mc 0 U I) ?_
 refine cX (Fy j kA kC az cA cC bA bC slA slC drA drC ha heA heC faA faC prA prC hin asm) (bq [3,4,5,6,7,8,9,10,11,12]) U fun W E=>?_
 obtain ⟨D,F,G⟩:=W
 try dsimp only
 have B:=E
 refine rP 1 [] I ?_
 have O:(jY j)=(eu j):=by exact (oh A).symm
 rw [O] at B ⊢
 refine rP 1 [] I ?_
 refine RK M<|ak ?_
 refine LX hQ (D,F,G) [0,1] [] I U (by show List.all _ _=true; simp only [fy,List.all_nil,xM,Bool.and_true]; rfl) U ?_ ?_
 ·(rw [A]; rfl)
 ·exact B
end
section
open Go.RowKit
def pV (b:Bool):List Value:=[.bool b]
@[simp] theorem zC (b:Bool):(pV b).length=1:=rfl
theorem F_ (l:List Bool): ∀ v∈(l.map pV).flatten,v.oneCell'=true:=tJ (fun s=>rfl) l
end
section
def lJ (r:eV) (i:Nat):Prop:= ∀ (j:Nat) x,j<i→r.aH[j]? =some x→ ¬ o0 x
def mO (x:List aw) (i:Nat):Prop:= ∀ (j:Nat) d,j<i→x[j]? =some d→ ¬ 15<(d.bw.aa.length:Int)
section
variable {r:eV} {i:Nat} {x:List aw} {d:aw}
theorem Bo:lJ r 0:=fun j x hj=>absurd hj (Nat.not_lt_zero _)
theorem BR (h:lJ r i) (hx:r.aH[i]? =some x) (ho: ¬ o0 x):lJ r (i+1):=fun j y hj hy=>by
 rcases Nat.lt_or_ge j i with q|q
 ·exact h j y q hy
 ·obtain rfl:j=i:=by omega
  rw [hx] at hy; cases hy; exact ho
theorem BX:mO x 0:=fun j x hj=>absurd hj (Nat.not_lt_zero _)
theorem Az (h:mO x i) (hx:x[i]? =some d) (ho: ¬ 15<(d.bw.aa.length:Int)):mO x (i+1):=fun j y hj hy=>by
 rcases Nat.lt_or_ge j i with q|q
 ·exact h j y q hy
 ·obtain rfl:j=i:=by omega
  rw [hx] at hy; cases hy; exact ho
theorem Dq (hl: ¬ 8<(x.length:Int)) (h:mO x i) (hi:x.length≤i): ¬ o0 x:=by
 rintro (q|⟨d,hd,q⟩)
 ·exact hl q
 ·obtain ⟨j,hj⟩:=List.getElem?_of_mem hd
  exact h j d (by have:=(aW.1 hj).1; omega) hj q
theorem Gw (h1: ¬ mA r.au) (h2: ¬ 8<(r.bj.length:Int)∧ ¬ 8<(r.cq.length:Int)∧ ¬ 5<(r.aH.length:Int)) (h:lJ r i) (hi:r.aH.length≤i): ¬ mw r:=by
 rintro ((q|q)|⟨x,hx,q⟩)
 ·exact h1 q
 ·omega
 ·obtain ⟨j,hj⟩:=List.getElem?_of_mem hx
  exact h j x (by have:=(aW.1 hj).1; omega) hj q
theorem pP (h:mA r.au∨8<(r.bj.length:Int)∨8<(r.cq.length:Int)∨5<(r.aH.length:Int)):mw r:= .inl h
theorem By (hx:r.aH[i]? =some x) (h:8<(x.length:Int)):mw r:= .inr ⟨x,aR hx,.inl h⟩
theorem C5 {j:Nat} (hx:r.aH[i]? =some x) (hd:x[j]? =some d) (h:15<(d.bw.aa.length:Int)):mw r:= .inr ⟨x,aR hx,.inr ⟨d,aR hd,h⟩⟩
end
noncomputable def oF (l:bg) (d:aw):ag:=if d.Out=true then gF else fP l d
theorem JA {l:bg} {d:aw} (h:iM l d):oF l d=fP l d:=by
 unfold oF
 split
 ·rename_i q
  rw [D3 q]
  rw [qS q] at h
  exact h.2.1.symm
 ·rfl
theorem zL {l:bg} {d:aw} (h:d.Out=true):oF l d=gF:=if_pos h
theorem Ef {l:bg} {d:aw} (h:d.Out=false∧d.c_=true):oF l d=d.Time:=by unfold oF; rw [if_neg (by rw [h.1]; decide),D1 h]
theorem E1 {l:bg} {d:aw} (h:d.Out=false∧d.c_=false):oF l d=zd l d.bw:=by unfold oF; rw [if_neg (by rw [h.1]; decide),D9 h]
def RN (r:eV) (j:Nat):Prop:= ∀ x,r.bj[j]? =some x→(0≤x∧x≤9999)∧ ∀ y,0<j→r.bj[j-1]? =some y→y<x
def Hs (r:eV) (j:Nat):Prop:= ∀ x,r.cq[j]? =some x→(0≤x∧x≤(r.bj.length:Int)-1)∧ ∀ (k:Nat) y,k<j→r.cq[k]? =some y→y≠x
def wX (r:eV) (i:Nat):Prop:= ∀ j,j<i→RN r j∧Hs r j
section
variable {r:eV} {i k:Nat} {x:Int}
theorem Ia:wX r 0:=fun j hj=>absurd hj (Nat.not_lt_zero _)
theorem Be (h:wX r i) (h1:RN r i) (h2:Hs r i):wX r (i+1):=fun j hj=>by
 rcases Nat.lt_or_ge j i with q|q
 ·exact h j q
 ·obtain rfl:j=i:=by omega
  exact ⟨h1,h2⟩
theorem v7 {l:List Int} {u v:Int} (h: ∀ (q:Nat) y,q<k→l[q]? =some y→y≠v) (hx:l[k]? =some u) (hne: ¬ u=v): ∀ (q:Nat) y,q<k+1→l[q]? =some y→y≠v:=fun q y hq hy=>by
 rcases Nat.lt_or_ge q k with c|c
 ·exact h q y c hy
 ·obtain rfl:q=k:=by omega
  rw [hx] at hy; cases hy; exact hne
theorem JN (hl:r.cq.length=r.bj.length) (h:wX r r.bj.length):r.cq.Perm (GI r.bj.length):=by
 have nd:r.cq.Nodup:=by
  rw [List.nodup_iff_pairwise_ne,eC]
  intro a b ha hb A
  exact ((h b om).2 _ (e_ hb)).2 a _ A (e_ ha)
 have hm: ∀ x∈r.cq,x∈GI r.bj.length:=fun x hx=>by
  obtain ⟨j,hj⟩:=List.getElem?_of_mem hx
  have:=((h j (by have:=(aW.1 hj).1; omega)).2 x hj).1
  exact cr.2 ⟨x.toNat,List.mem_range.2 om,om⟩
 have ndu:(GI r.bj.length).Nodup:=by
  unfold GI
  rw [List.nodup_iff_pairwise_ne,List.pairwise_map]
  exact List.pairwise_lt_range.imp fun h=>by omega
 have e:m8 r.cq=(GI r.bj.length).filter fun x=>decide (x∈r.cq):=by
  refine FI sQ ((wT _).filter _) (lM.nodup_iff.2 nd) (ndu.filter _) fun x=>?_
  rw [lM.mem_iff,List.mem_filter,decide_eq_true_eq]
  exact ⟨fun q=>⟨hm x q,q⟩,fun q=>q.2⟩
 have B:=congrArg List.length e
 rw [sX,hl] at B
 have C:(GI r.bj.length).filter (fun x=>decide (x∈r.cq))=GI r.bj.length:=List.filter_sublist.eq_of_length (by rw [← B]; simp)
 rw [C] at e
 rw [← e]; exact lM.symm
theorem Fc {n:Nat} (h1:1≤(r.bj.length:Int)∧(r.bj.length:Int)≤5) (h2:r.cq.length=r.bj.length) (h3:0≤r.qe∧r.qe≤5) (h4:1≤(r.aH.length:Int)∧(r.aH.length:Int)≤3)
 (hn:n=r.bj.length) (h6:wX r n) (h7:j7 r i) (hi:r.aH.length≤i):fj r:=by
 subst hn
 refine ⟨h1,h3,h4,fun k x hx=>(h6 k (aW.1 hx).1).1 x hx,JN h2 h6,fun h hh=>?_⟩
 obtain ⟨j,hj⟩:=List.getElem?_of_mem hh
 exact h7 j h (by have:=(aW.1 hj).1; omega) hj
theorem fj.Jt (h:fj r) (hx:r.cq[i]? =some x):0≤x∧x≤(r.bj.length:Int)-1:=by
 obtain ⟨k,hk,rfl⟩:=cr.1 (h.draw.mem_iff.1 (aR hx))
 have:=List.mem_range.1 hk
 omega
theorem fj.Ob (h:fj r):r.cq.Nodup:=by
 refine h.draw.nodup_iff.2 ?_
 rw [List.nodup_iff_pairwise_ne,List.pairwise_map]
 exact List.pairwise_lt_range.imp fun h=>by omega
theorem fj.Ok (h:fj r) {u v:Int} (hki:k<i) (hu:r.cq[k]? =some u) (hv:r.cq[i]? =some v): ¬ u=v:=by
 have A:=h.Ob
 rw [List.nodup_iff_pairwise_ne,eC] at A
 obtain ⟨a,ea⟩:=aW.1 hu
 obtain ⟨b,eb⟩:=aW.1 hv
 subst ea eb
 exact A k i a b hki
end
section
variable {r:eV} {i k n:Nat} {s:ag} {l:bg} {hs:List (List aw)}
end
section
variable {r:eV} {i x:Int} {own s:ag} {k:Nat} {ys zs:List Int}
end
section
variable {B:List Bool} {P Q:Int→Prop} {k x:Nat} {m:sE} {i y a b:Int} {ys:List Int}
end
end
section
open Go.RowKit
theorem iR (n lo hi:Int):
 dx Tryz.prog 137 [(vI n),(vI lo),(vI hi)] [] (vB (decide (lo≤n∧n≤hi))):=by
 refine bB kr Tryz.func137 U U fun D Q hQ hN=>?_
 try dsimp only
 refine WS fun _ B=>bE 1 U<|RK B<|WS fun _ A=>rP 4 [] I ?_
 refine bU (t:=10) U (aU fun C=>?_) (aT fun C=>?_)
 ·refine rP 5 [] I ?_
  refine RK A<|ak<|Q1 hQ U U U ?_
  exact cB (gv.2 om)
 refine rP 5 [] I ?_
 refine RK A<|ak<|Q1 hQ U U U ?_
 exact cB (bD om).symm
theorem AP (ts:List ao) (tsA:OA) (tsC:Nat) (hst: ∀ x∈ts,bP x) (hlen:ts.length≤12):
 q6 Tryz.prog 160 [(vA (bZ.cells (bZ.mk (bH.mk tsA ts.length tsC))))] [(rd tsA ts.length 9 (ts.map ao.cells))] (fun (x:(OA)×Nat)=>(vS x.1 ((ia ts (ts.length+1)).length) x.2)) (fun (x:(OA)×Nat)=>True) (fun (x:(OA)×Nat)=>[(own x.1 x.2 53 2 ((ia ts (ts.length+1)).map ag.cells))]):=by
 refine fR kr Tryz.func160 U U fun V Q hQ hN=>?_
 try dsimp only
 refine WS fun _ J=>er U fun AA=>bE 1 U<|RK J<|WS fun _ K=>bE 1 U<|RK K<|aj fun _ L=>WS fun _ M=>rP 1 [] I ?_
 refine RK M<|aB<|ew 53 2 ?_
 have A:(0≤ts.length+1):=by exact Nat.zero_le _
 refine bT (ι:={z:Nat×(OA)×Nat // (z.1≤ts.length+1)}) [1] [1,2] U U (fun z=>[(3,(vS z.1.2.1 ((ia ts z.1.1).length) z.1.2.2)),(4,(vI (z.1.1:Int)))]) (fun z=>[(own z.1.2.1 z.1.2.2 53 2 ((ia ts z.1.1).map ag.cells))]) (fun _=>rfl) (fun _=>rfl) (fun z=>ts.length+1-z.1.1) ⟨(0,none,0),A⟩ (bx U) (aP [1,2,0]) ?_
 clear A
 rintro ⟨⟨i,a,c⟩,B⟩ J6 AB
 try dsimp only at B
 try dsimp only
 refine aj fun _ N=>WS fun _ O=>rP 5 [] (mc 0 U I) ?_
 refine RK O<|bQ U (aT fun T=>?_) (aU fun T=>?_)
 ·refine bL<|ai<|ai<|aG<|KK L<|WS fun _ E=>?_
  obtain rfl:i=ts.length+1:=by omega
  refine rP 2 [] I ?_
  refine RK E<|ak<|LX hQ (a,c) [2] [] I U U U U ?_
  trivial
 refine WK N<|aj fun _ C=>aB<|WS fun _ D=>eN 2 [] (mc 0 U I) U<|rS (CL (zT ts tsA tsC 0 (i:Int) hst hlen om) (bq [1]) U)<|bE 3 U<|AL U dN fun P=>AL U dN fun R=>rL U cS U<|fu U cS U<|RK D<|aq<|rP 2 [] (mc 1 U I) ?_
 refine dZ (xs:=[.tmp 21]) (cs:=(ag.cells (ei ts (0:Int).toNat ((i:Int)-0).toNat))) U kS dN U U U U (by simp [Value.cells,ag.aY]) U U fun S=>?_
 refine fg (es2:=(List.map ag.cells (ia ts (i+1)))) (m':=(ia ts (i+1)).length) 5 U U U Ex U U sm (bk (es:=List.map ag.cells [(ei ts (0:Int).toNat ((i:Int)-0).toNat)]) 0 U U (by simp [ag.aY]) U) (ky _) (by simp only [ow]; omega) (by simp only [maxLen,ow]; omega) (by rw [B7]; simp) sm U fun G H=>?_
 try dsimp only
 refine bE 1 U<|aD<|aL<|KK C<|aq<|rP 3 [] I ?_
 refine aD ?_
 have F:(vI (((i+1):Nat):Int))=(vI ((i:Int)+1)):=by exact cI om
 refine a7 (AB ⟨((i+1),G,H),(by first|omega|(simp only []; omega))⟩ _ _ _ U os (df.cons U<|df.cons U<|aX U F<|df.nil _) (aP [3,4,5]))
theorem Qg (ts:List ao) (tsA:OA) (tsC:Nat) (s:cy) (hlen:ts.length≤1000000) (hside: ∀ x∈ts,0≤x.iY∧x.iY≤255):
 dx Tryz.prog 153 [(vA (bZ.cells (bZ.mk (bH.mk tsA ts.length tsC)))),(vA (cy.cells s))] [(rd tsA ts.length 9 (ts.map ao.cells))] (vT [(vA (ag.cells (ND ts s))),(vI (Ed ts s))]):=by
 refine bB kr Tryz.func153 U U fun r Q hQ hN=>?_
 try dsimp only
 refine WS fun _ R=>er U fun i=>er U fun k=>AL U dN fun l=>bE 1 U<|RK R<|aj fun _ S=>WS fun _ T=>eN 1 [] (mc 2 U I) U<|rS (CL (vL ts tsA tsC hlen) (bq [3]) U)<|rP 1 [] I ?_
 refine RK T<|cu U (fun AB=>?_) (fun AB=>?_)
 ·rw [Bool.not_eq_true'] at AB
  refine WS fun _ AA=>rS (SX (a_ (xs:=[]) (cs:=(ag.cells (ag.mk 0 0))) U U (bf gM U)) U U)<|fu U cS U<|rP 1 [] I ?_
  refine RK AA<|ak<|my hQ [0] (mc 0 U I) U ?_
  (have e:=JZ (s:=s) (by simpa using AB); rw [e.1,e.2]<;>rfl)
 rw [Bool.not_eq_false'] at AB
 refine WK S<|aj fun _ V=>WS fun _ W=>?_
 have M:=jV AB
 have Z:=kF AB
 refine eN 2 [0,1] (mc 2 U (mc 1 U I)) U<|rS (CL (ry ts tsA tsC s asm asm) (bq [3]) U)<|rP 1 [] I ?_
 refine RK W<|cu U (bp fun D=>?_) (bo fun D=>?_)
 ·refine WS fun _ O=>rS (SX (a_ (xs:=[]) (cs:=(ag.cells (ag.mk 0 0))) U U (bf gM U)) U U)<|fu U cS U<|rP 1 [] I ?_
  refine RK O<|ak<|my hQ [0] (mc 0 U I) U ?_
  (have e:=IT AB D; rw [e.1,e.2]<;>rfl)
 refine WK V<|aj fun _ H=>l3 cp [0,2,3] [1,4,5,6,7] [false,false,false] [] [(cm l 53 (ag.cells (ag.mk 0 0))),(cm k 120 (cy.cells s)),(cm i 24 (bZ.cells (bZ.mk (bH.mk tsA ts.length tsC)))),(rd tsA ts.length 9 (ts.map ao.cells)).ro] [] kr (aP [0,1,2,3]) (aP []) ?_
 have q:=D.1
 have N:=qp M D
 have p:(ia ts (ts.length+1)).length=ts.length+1:=ow
 refine eS U (LW 2 U cb U U)<|eS U (FA 0 U fE U)<|eS U (L1 (vI s.bu) 1 U cb U U)<|ep U<|mz [1,6] kr (iy ?_<|iy ?_<|pX)
 rotate_left 1
 ·refine NO U U [1,4,5,7] fun T12 J=>AL U dN fun f=>RD J 1 U<|N1 1<|NO U U [4,5,7] fun T14 P=>cX (AP ts tsA tsC asm asm) (bq [4]) U fun Y b=>?_
  obtain ⟨d,o⟩:=Y
  try dsimp only
  refine RD P 2 U<|N1 4<|NO U U [5,7] fun T19 E=>?_
  obtain ⟨z,hz⟩:=aJ (ia ts (ts.length+1)) ((s.bu).toNat) om
  have A:=bK ag.cells hz
  refine rS (IA ((s.bu).toNat) U (aN (n:=(ia ts (ts.length+1)).length) 0 U sm) kS dc om om)<|RD E 2 U<|N1 5<|NO U U [7] fun T20 F=>rS (lh ((s.bu).toNat) 0 (ag.cells z) U cb (aN (n:=(ia ts (ts.length+1)).length) 0 U sm) A U dc U U)<|RD F 2 U<|N1 7<|NO U U [] fun T21 C=>rL U cS U<|RD C 2 U<|lx<|KK H<|WS fun _ B=>rP 1 [] I ?_
  have A:=pd hz
  have G:=l4 M 0 s.bu.toNat
  unfold lv at N
  rw [← A] at G
  refine eN 11 [0,1,0,1] (mc 1 U (mc 3 U I)) U<|rS (SX (a_ (xs:=[(0,.tmp 27),(1,.tmp 33)]) (cs:=(ag.cells (ag.mk (z.Lo+s.mu.Lo) (z.Hi+s.mu.Hi)))) U U (bf gM U)) U U)<|GX U cS U<|rP 1 [] I ?_
  refine RK B<|ak<|my hQ [0] (mc 2 U I) U ?_
  (have e:=wc AB D; subst A; rw [e.1,e.2]<;>rfl)
 refine NO U U [4,5,6,7] fun T12 J=>cX (AP ts tsA tsC asm asm) (bq [3]) U fun X a=>?_
 obtain ⟨c,m⟩:=X
 try dsimp only
 refine RD J 1 U<|mz [4,6] kr (iy ?_<|iy ?_<|pX)
 rotate_left 1
 ·refine NO U U [4,5,7] fun T17 K=>AL U dN fun g=>RD K 2 U<|N1 4<|NO U U [5,7] fun T19 E=>?_
  obtain ⟨z,hz⟩:=aJ (ia ts (ts.length+1)) ((s.bu).toNat) om
  have A:=bK ag.cells hz
  refine rS (IA ((s.bu).toNat) U (aN (n:=(ia ts (ts.length+1)).length) 1 U sm) kS dc om om)<|RD E 2 U<|N1 5<|NO U U [7] fun T20 F=>rS (lh ((s.bu).toNat) 0 (ag.cells z) U cb (aN (n:=(ia ts (ts.length+1)).length) 1 U sm) A U dc U U)<|RD F 2 U<|N1 7<|NO U U [] fun T21 C=>fu U cS U<|RD C 2 U<|lx<|KK H<|WS fun _ B=>rP 1 [] I ?_
  have A:=pd hz
  have G:=l4 M 0 s.bu.toNat
  unfold lv at N
  rw [← A] at G
  refine eN 11 [0,1,0,1] (mc 0 U (mc 3 U I)) U<|rS (SX (a_ (xs:=[(0,.tmp 27),(1,.tmp 33)]) (cs:=(ag.cells (ag.mk (z.Lo+s.mu.Lo) (z.Hi+s.mu.Hi)))) U U (bf gM U)) U U)<|GX U cS U<|rP 1 [] I ?_
  refine RK B<|ak<|my hQ [0] (mc 2 U I) U ?_
  (have e:=wc AB D; subst A; rw [e.1,e.2]<;>rfl)
 refine NO U U [5,6,7] fun T17 K=>?_
 obtain ⟨z,hz⟩:=aJ (ia ts (ts.length+1)) ((s.bu).toNat) om
 have A:=bK ag.cells hz
 refine rS (IA ((s.bu).toNat) U (aN (n:=(ia ts (ts.length+1)).length) 0 U sm) kS dc om om)<|RD K 1 U<|mz [5,6] kr (iy ?_<|iy ?_<|pX)
 rotate_left 1
 ·refine NO U U [5,7] fun T18 L=>AL U dN fun h=>RD L 2 U<|N1 5<|NO U U [7] fun T20 F=>rS (lh ((s.bu).toNat) 0 (ag.cells z) U cb (aN (n:=(ia ts (ts.length+1)).length) 1 U sm) A U dc U U)<|RD F 2 U<|N1 7<|NO U U [] fun T21 C=>fu U cS U<|RD C 2 U<|lx<|KK H<|WS fun _ B=>rP 1 [] I ?_
  have A:=pd hz
  have G:=l4 M 0 s.bu.toNat
  unfold lv at N
  rw [← A] at G
  refine eN 11 [0,1,0,1] (mc 0 U (mc 3 U I)) U<|rS (SX (a_ (xs:=[(0,.tmp 27),(1,.tmp 33)]) (cs:=(ag.cells (ag.mk (z.Lo+s.mu.Lo) (z.Hi+s.mu.Hi)))) U U (bf gM U)) U U)<|GX U cS U<|rP 1 [] I ?_
  refine RK B<|ak<|my hQ [0] (mc 2 U I) U ?_
  (have e:=wc AB D; subst A; rw [e.1,e.2]<;>rfl)
 refine NO U U [6,7] fun T18 L=>rS (lh ((s.bu).toNat) 0 (ag.cells z) U cb (aN (n:=(ia ts (ts.length+1)).length) 0 U sm) A U dc U U)<|RD L 1 U<|N1 6<|NO U U [7] fun T19 E=>AL U dN fun j=>RD E 2 U<|N1 7<|NO U U [] fun T21 C=>fu U cS U<|RD C 2 U<|lx<|KK H<|WS fun _ B=>rP 1 [] I ?_
 have A:=pd hz
 have G:=l4 M 0 s.bu.toNat
 unfold lv at N
 rw [← A] at G
 refine eN 11 [0,1,0,1] (mc 0 U (mc 3 U I)) U<|rS (SX (a_ (xs:=[(0,.tmp 27),(1,.tmp 33)]) (cs:=(ag.cells (ag.mk (z.Lo+s.mu.Lo) (z.Hi+s.mu.Hi)))) U U (bf gM U)) U U)<|GX U cS U<|rP 1 [] I ?_
 refine RK B<|ak<|my hQ [0] (mc 2 U I) U ?_
 (have e:=wc AB D; subst A; rw [e.1,e.2]<;>rfl)
theorem Gx (ts:List ao) (tsA:OA) (tsC:Nat) (p:cy) (q:cy) (hlen:ts.length≤1000000) (hside: ∀ x∈ts,0≤x.iY∧x.iY≤255) (hord: ¬ q.bu<p.bu):
 dx Tryz.prog 154 [(vA (bZ.cells (bZ.mk (bH.mk tsA ts.length tsC)))),(vA (cy.cells p)),(vA (cy.cells q))] [(rd tsA ts.length 9 (ts.map ao.cells))] (vT [(vA (ag.cells (kN ts p q))),(vI (lK ts p q))]):=by
 refine bB kr Tryz.func154 U U fun k Q hQ hN=>?_
 try dsimp only
 refine WS fun _ N=>er U fun f=>er U fun g=>er U fun i=>AL U dN fun j=>bE 1 U<|RK N<|aj fun _ O=>WS fun _ P=>eN 1 [] (mc 3 U I) U<|rS (CL (vL ts tsA tsC hlen) (bq [4]) U)<|rP 1 [] I ?_
 refine RK P<|cu U (fun A=>?_) (fun A=>?_)
 ·rw [Bool.not_eq_true'] at A
  refine WS fun _ R=>rS (SX (a_ (xs:=[]) (cs:=(ag.cells (ag.mk 0 0))) U U (bf gM U)) U U)<|fu U cS U<|rP 1 [] I ?_
  refine RK R<|ak<|my hQ [0] (mc 0 U I) U ?_
  (have e:=uk (a:=p) (b:=q) (by simpa using A); rw [e.1,e.2]<;>rfl)
 rw [Bool.not_eq_false'] at A
 refine WK O<|aj fun _ S=>WS fun _ E=>?_
 have D:=jV A
 have M:=kF A
 refine eN 2 [0,1] (mc 3 U (mc 2 U I)) U<|rS (CL (ry ts tsA tsC p asm asm) (bq [4]) U)<|rP 2 [] I ?_
 refine bU (t:=20) U (bp fun B=>?_) (bo fun B=>?_)
 ·refine bE 5 U<|RK E<|aQ U<|WS fun _ G=>rS (SX (a_ (xs:=[]) (cs:=(ag.cells (ag.mk 0 0))) U U (bf gM U)) U U)<|fu U cS U<|rP 1 [] I ?_
  refine RK G<|ak<|my hQ [0] (mc 0 U I) U ?_
  (have e:=oO (a:=p) (b:=q) A (fun h=>by first|exact B h.1|exact C h.2); rw [e.1,e.2]<;>rfl)
 refine eN 2 [0,1] (mc 3 U (mc 1 U I)) U<|rS (CL (ry ts tsA tsC q asm asm) (bq [4]) U)<|rP 2 [] I ?_
 refine RK E<|cu U (bp fun C=>?_) (bo fun C=>?_)
 ·refine WS fun _ H=>rS (SX (a_ (xs:=[]) (cs:=(ag.cells (ag.mk 0 0))) U U (bf gM U)) U U)<|fu U cS U<|rP 1 [] I ?_
  refine RK H<|ak<|my hQ [0] (mc 0 U I) U ?_
  (have e:=oO (a:=p) (b:=q) A (fun h=>by first|exact B h.1|exact C h.2); rw [e.1,e.2]<;>rfl)
 refine WK S<|aj fun _ AB=>WS fun _ J=>?_
 have AA:fh ts p∧fh ts q:=⟨B,C⟩
 have T:=qp D B
 have V:=qp D C
 have c:=B.1
 have d:=C.1
 have Y:=wM D M C B
 unfold lv at T V
 refine rP 5 [0,1] (mc 1 U (mc 2 U I)) ?_
 refine RK J<|cu U (aU fun F=>?_) (aT fun F=>?_)
 ·exfalso; omega
 refine WK AB<|WS fun _ K=>rP 2 [] (mc 3 U I) ?_
 have Z:=l4 D p.bu.toNat (q.bu-p.bu).toNat
 refine eN 3 [0,1] (mc 2 U (mc 1 U I)) U<|rS (CL (zT ts tsA tsC p.bu q.bu asm asm om) (bq [4]) U)<|bE 3 U<|AL U dN fun W=>AL U dN fun X=>rL U cS U<|fu U cS U<|RK K<|WS fun _ L=>eN 20 [0,1,2,0,1,2] (mc 1 U (mc 3 U (mc 4 U I))) U<|rS (SX (a_ (xs:=[(0,.tmp 64),(1,.tmp 74)]) (cs:=(ag.cells (ag.mk ((((ei ts p.bu.toNat (q.bu-p.bu).toNat).Lo)+q.mu.Lo)-p.mu.Hi) ((((ei ts p.bu.toNat (q.bu-p.bu).toNat).Hi)+q.mu.Hi)-p.mu.Lo)))) U U (bf gM U)) U U)<|GX U cS U<|rP 1 [] I ?_
 refine RK L<|ak<|my hQ [0] (mc 2 U I) U ?_
 (have e:=lp A AA; rw [e.1,e.2,qA F]<;>rfl)
theorem IS (ts:List ao) (tsA:OA) (tsC:Nat) (p:cy) (q:cy) (hlen:ts.length≤1000000) (hside: ∀ x∈ts,0≤x.iY∧x.iY≤255):
 dx Tryz.prog 154 [(vA (bZ.cells (bZ.mk (bH.mk tsA ts.length tsC)))),(vA (cy.cells p)),(vA (cy.cells q))] [(rd tsA ts.length 9 (ts.map ao.cells))] (vT [(vA (ag.cells (kN ts p q))),(vI (lK ts p q))]):=by
 refine bB kr Tryz.func154 U U fun u Q hQ hN=>?_
 try dsimp only
 refine WS fun _ S=>er U fun n=>er U fun o=>er U fun r=>AL U dN fun s=>bE 1 U<|RK S<|aj fun _ T=>WS fun _ AA=>eN 1 [] (mc 3 U I) U<|rS (CL (vL ts tsA tsC hlen) (bq [4]) U)<|rP 1 [] I ?_
 refine RK AA<|cu U (fun A=>?_) (fun A=>?_)
 ·rw [Bool.not_eq_true'] at A
  refine WS fun _ V=>rS (SX (a_ (xs:=[]) (cs:=(ag.cells (ag.mk 0 0))) U U (bf gM U)) U U)<|fu U cS U<|rP 1 [] I ?_
  refine RK V<|ak<|my hQ [0] (mc 0 U I) U ?_
  (have e:=uk (a:=p) (b:=q) (by simpa using A); rw [e.1,e.2]<;>rfl)
 rw [Bool.not_eq_false'] at A
 refine WK T<|aj fun _ W=>WS fun _ E=>?_
 have D:=jV A
 have P:=kF A
 refine eN 2 [0,1] (mc 3 U (mc 2 U I)) U<|rS (CL (ry ts tsA tsC p asm asm) (bq [4]) U)<|rP 2 [] I ?_
 refine bU (t:=20) U (bp fun B=>?_) (bo fun B=>?_)
 ·refine bE 5 U<|RK E<|aQ U<|WS fun _ G=>rS (SX (a_ (xs:=[]) (cs:=(ag.cells (ag.mk 0 0))) U U (bf gM U)) U U)<|fu U cS U<|rP 1 [] I ?_
  refine RK G<|ak<|my hQ [0] (mc 0 U I) U ?_
  (have e:=oO (a:=p) (b:=q) A (fun h=>by first|exact B h.1|exact C h.2); rw [e.1,e.2]<;>rfl)
 refine eN 2 [0,1] (mc 3 U (mc 1 U I)) U<|rS (CL (ry ts tsA tsC q asm asm) (bq [4]) U)<|rP 2 [] I ?_
 refine RK E<|cu U (bp fun C=>?_) (bo fun C=>?_)
 ·refine WS fun _ H=>rS (SX (a_ (xs:=[]) (cs:=(ag.cells (ag.mk 0 0))) U U (bf gM U)) U U)<|fu U cS U<|rP 1 [] I ?_
  refine RK H<|ak<|my hQ [0] (mc 0 U I) U ?_
  (have e:=oO (a:=p) (b:=q) A (fun h=>by first|exact B h.1|exact C h.2); rw [e.1,e.2]<;>rfl)
 refine WK W<|aj fun _ AB=>WS fun _ J=>?_
 have R:fh ts p∧fh ts q:=⟨B,C⟩
 have X:=qp D B
 have Y:=qp D C
 have l:=B.1
 have m:=C.1
 have j:=wM D P C B
 unfold lv at X Y
 refine rP 5 [0,1] (mc 1 U (mc 2 U I)) ?_
 refine RK J<|cu U (aU fun F=>?_) (aT fun F=>?_)
 ·refine WS fun _ K=>eN 3 [0,1,2] (mc 3 U (mc 1 U (mc 2 U I))) U<|rS (CL (Gx ts tsA tsC q p hlen hside om) (bq [4]) U)<|bE 3 U<|AL U dN fun d=>fu U cS U<|bE 1 U<|RK K<|WS fun _ L=>rP 2 [] (mc 0 U I) ?_
  have O:kN ts q p=jQ ts q p:=(lp A ⟨C,B⟩).2
  have Z: -400000≤(kN ts q p).Lo∧(kN ts q p).Hi≤400000:=by rw [O]; omega
  have c:(kN ts q p).Lo≤(kN ts q p).Hi:=by rw [O]; omega
  refine rS (NG U ⟨om,om⟩)<|eN 2 [] (mc 0 U I) U<|rS (NG U ⟨om,om⟩)<|rS (SX (a_ (xs:=[(0,.tmp 41),(1,.tmp 44)]) (cs:=(ag.cells (ag.mk (-((kN ts q p).Hi)) (-((kN ts q p).Lo))))) U U (bf gM U)) U U)<|rL U cS U<|rP 1 [] I ?_
  refine RK L<|ak<|my hQ [0] (mc 1 U I) U ?_
  (have e:=lp A R; have i:=lp A ⟨C,B⟩; rw [e.1,e.2,i.2,Dc F]<;>rfl)
 refine WK AB<|WS fun _ M=>rP 2 [] (mc 3 U I) ?_
 have k:=l4 D p.bu.toNat (q.bu-p.bu).toNat
 refine eN 3 [0,1] (mc 2 U (mc 1 U I)) U<|rS (CL (zT ts tsA tsC p.bu q.bu asm asm om) (bq [4]) U)<|bE 3 U<|AL U dN fun f=>AL U dN fun g=>rL U cS U<|fu U cS U<|RK M<|WS fun _ N=>eN 20 [0,1,2,0,1,2] (mc 1 U (mc 3 U (mc 4 U I))) U<|rS (SX (a_ (xs:=[(0,.tmp 64),(1,.tmp 74)]) (cs:=(ag.cells (ag.mk ((((ei ts p.bu.toNat (q.bu-p.bu).toNat).Lo)+q.mu.Lo)-p.mu.Hi) ((((ei ts p.bu.toNat (q.bu-p.bu).toNat).Hi)+q.mu.Hi)-p.mu.Lo)))) U U (bf gM U)) U U)<|GX U cS U<|rP 1 [] I ?_
 refine RK N<|ak<|my hQ [0] (mc 2 U I) U ?_
 (have e:=lp A R; rw [e.1,e.2,qA F]<;>rfl)
end
section
open Go.RowKit
theorem HD (l:bg) (kA:OA) (kC:Nat) (az:List RA) (cA:OA) (cC:Nat) (bA:OA) (bC:Nat) (hraw:sS l az):
 dx Tryz.prog 75 [(vA (cV.cells (jN l kA kC cA cC bA bC)))] [(rd kA l.aV.length 9 (l.aV.map ao.cells)),(rd cA l.ar.length 2 (List.zipWith ay.cells l.ar az)),(dL (br ay.gn l.ar az)),(rd bA l.ab.length 4 (l.ab.map bI.cells))] (vB (decide (mA l))):=by
 have e:=hraw.sH
 have d:=hraw.sI
 have a:=hraw.ot
 have b:=hraw.sL
 refine bB kr Tryz.func75 U U fun g Q hQ hN=>?_
 try dsimp only
 refine WS fun _ O=>er U fun f=>bE 1 U<|RK O<|aj fun _ P=>WS fun _ D=>bE 1 U<|rS (LP (bZ.cells (bZ.mk (bH.mk kA l.aV.length kC))) 0 U cb U U U)<|rS (CL (KB l.aV kA kC) (bq [1]) U)<|rP 1 [] I ?_
 refine bU (t:=7) U (aU fun Z=>?_) (aT fun Z=>?_)
 ·refine bE 11 U<|RK D<|aQ U<|WS fun _ R=>rP 1 [] I ?_
  refine RK R<|ak<|Q1 hQ U U U ?_
  exact cB (dq (.inl om)).symm
 refine rP 6 [] (mc 0 U I) ?_
 refine bU (t:=13) U (aU fun C=>?_) (aT fun C=>?_)
 ·refine bE 5 U<|RK D<|aQ U<|WS fun _ S=>rP 1 [] I ?_
  refine RK S<|ak<|Q1 hQ U U U ?_
  exact cB (dq (.inl om)).symm
 refine rP 5 [] (mc 0 U I) ?_
 refine RK D<|cu U (aU fun N=>?_) (aT fun N=>?_)
 ·refine WS fun _ T=>rP 1 [] I ?_
  refine RK T<|ak<|Q1 hQ U U U ?_
  exact cB (dq (.inl om)).symm
 refine WK P<|aj fun _ AA=>WS fun _ V=>rP 1 [] I ?_
 refine RK V<|aB ?_
 have A:(0≤l.ar.length)∧(zt l 0):=by exact ⟨Nat.zero_le _,fun j c hj=>absurd hj (Nat.not_lt_zero _)⟩
 refine bT (ι:={z:Nat // (z≤l.ar.length)∧(zt l z)}) [1] [0,1,2,3,4] U U (fun z=>[(3,(vI (z.1:Int)))]) (fun z=>[]) (fun _=>rfl) (fun _=>rfl) (fun z=>l.ar.length-z.1) ⟨0,A⟩ (bx U) (aP [0,1,2,3,4]) ?_
 clear A
 rintro ⟨i,⟨W,B⟩⟩ J10 F
 try dsimp only
 refine aj fun _ G=>WS fun _ H=>rP 5 [] (mc 0 U I) ?_
 refine RK H<|bQ U (aT fun C=>?_) (aU fun C=>?_)
 ·refine bL<|ai<|ai<|aG<|KK AA<|WS fun _ L=>rP 1 [] I ?_
  refine RK L<|ak<|Q1 hQ U U U ?_
  exact cB (bD (Ki om om B)).symm
 refine WK G<|aj fun _ AB=>aB<|WS fun _ J=>rP 3 [] (mc 0 U I) ?_
 obtain ⟨x,hx⟩:=aJ l.ar i om
 obtain ⟨xa,X⟩:=aJ az i om
 have Y:(List.zipWith ay.cells l.ar az)[i]? =some (ay.cells x xa):=dC hx X
 refine rS (IA i U (aA 2 U) F0 dc om om)<|rS (qc ((i*2)+1) U (aA 2 U) (Nat.mul_pos om dc) fE U)<|rS (hG i 1 (vS xa.1 x.bG.length xa.2) U cb (aA 2 U) Y U dc U)<|rP 2 [] I ?_
 refine RK J<|cu U (aU fun E=>?_) (aT fun E=>?_)
 ·refine WS fun _ K=>rP 1 [] I ?_
  refine RK K<|ak<|Q1 hQ U U U ?_
  exact cB (dq (Hm hx E)).symm
 refine cf<|aL<|KK AB<|aq<|rP 3 [] I ?_
 refine aD ?_
 have M:(vI (((i+1):Nat):Int))=(vI ((i:Int)+1)):=by exact cI om
 refine a7 (F ⟨(i+1),⟨om,lQ B hx om⟩⟩ _ _ _ U os (df.cons U<|aX U M<|df.nil _) (aP [0,1,2,3,4]))
theorem wF (d m:Int) (hd:0≤d∧d≤1000) (hm:0≤m∧m≤90000000):
 dx Tryz.prog 152 [(vI d),(vI m)] [] (vI (oE (d*m) 1000000)):=by
 have J:=Pq (a:=d) (b:=m) (A:=1000) (B:=90000000) hd.1 hd.2 hm.1 hm.2
 refine bB kr Tryz.func152 U U fun K Q hQ hN=>?_
 try dsimp only
 refine WS fun _ C=>bE 1 U<|RK C<|WS fun _ D=>bE 2 U<|rS (BI U (tn ⟨om,om⟩))<|bE 1 U<|RK D<|aj fun _ E=>WS fun _ F=>bE 1 U<|rS (BI U (RM om om))<|rP 1 [] I ?_
 refine RK F<|cu U (aU fun AA=>?_) (aT fun AA=>?_)
 ·refine WS fun _ G=>bE 1 U<|rS (BI U (sR om om om))<|rP 2 [] I ?_
  refine RK G<|ak<|Q1 hQ U U U ?_
  exact cI (by unfold oE; omega)
 refine WK E<|WS fun _ H=>bE 1 U<|rS (BI U (sR om om om))<|rP 1 [] I ?_
 refine RK H<|ak<|Q1 hQ U U U ?_
 exact cI (by unfold oE; omega)
theorem JF (c:ay) (sA:OA) (sC:Nat) (hlen:c.bG.length≤1000000):
 dx Tryz.prog 138 [(vA (du.cells (du.mk c.dj (bH.mk sA c.bG.length sC))))] [(rd sA c.bG.length 3 (c.bG.map cQ.cells))] (vB (decide (eM c))):=by
 refine bB kr Tryz.func138 U U fun w0 Q hQ hN=>?_
 try dsimp only
 refine WS fun _ EF=>er U fun b2=>bE 1 U<|RK EF<|aj fun _ EQ=>WS fun _ A8=>eN 2 [] (mc 0 U I) U<|rS (CL (iR c.dj 0 1000) (aM) U)<|rP 2 [] I ?_
 refine bU (t:=14) U (bp fun Cp=>?_) (bo fun Cp=>?_)
 ·refine bE 6 U<|RK A8<|aQ U<|WS fun _ Eq=>rP 1 [] I ?_
  refine RK Eq<|ak<|Q1 hQ U U U ?_
  exact cB (bD fun h=>by have q1:=h.rR; have q2:=h.len; omega).symm
 refine eN 3 [] (mc 0 U I) U<|rS (CL (iR (c.bG.length:Int) 1 5) (aM) U)<|rP 2 [] I ?_
 refine RK A8<|cu U (bp fun Cx=>?_) (bo fun Cx=>?_)
 ·refine WS fun _ FS=>rP 1 [] I ?_
  refine RK FS<|ak<|Q1 hQ U U U ?_
  exact cB (bD fun h=>by have q1:=h.rR; have q2:=h.len; omega).symm
 refine WK EQ<|aj fun _ Fd=>WS fun _ Fn=>rP 1 [] I ?_
 refine RK Fn<|aB ?_
 have A:(0≤c.bG.length)∧(∀ (j:Nat) y,j<0→c.bG[j]? =some y→e9 c j y):=by exact ⟨Nat.zero_le _,fun j y hj=>absurd hj (Nat.not_lt_zero _)⟩
 refine bT (ι:={z:Nat // (z≤c.bG.length)∧(∀ (j:Nat) y,j<z→c.bG[j]? =some y→e9 c j y)}) [1] [0,1] U U (fun z=>[(3,(vI (z.1:Int)))]) (fun z=>[]) (fun _=>rfl) (fun _=>rfl) (fun z=>c.bG.length-z.1) ⟨0,A⟩ (bx U) (aP [0,1]) ?_
 clear A
 rintro ⟨i,⟨a,C⟩⟩ J9 f
 try dsimp only
 have Hi:=Hw a C
 refine aj fun _ g=>WS fun _ l=>rP 5 [] (mc 0 U I) ?_
 refine RK l<|cu U (aU fun C0=>?_) (aT fun C0=>?_)
 ·refine WK g<|aj fun _ AA=>aB<|WS fun _ n=>rP 3 [] (mc 0 U I) ?_
  obtain ⟨x,hx⟩:=aJ c.bG i om
  have b:=bK cQ.cells hx
  refine rS (IA i U (aA 1 U) x3 dc om om)<|rS (lh i 0 (cQ.cells x) U cb (aA 1 U) b U dc U U)<|AL U x4 fun Go=>fu U yY U<|RK n<|aj fun _ B=>dg cp 41 kr<|lu 2 [] (mc 0 U I) U<|dS (CL (iR x.At 0 86400000) (aM) U)<|dP 2 [] I ?_
  refine gY (t:=37) U (bp fun C1=>?_) (bo fun C1=>?_)
  ·refine kI 36 U<|cE<|RK B<|aQ U<|WS fun _ p=>rP 1 [] I ?_
   refine RK p<|ak<|Q1 hQ U U U ?_
   exact cB (bD fun h=>by have q:=h.sync i x hx; unfold e9 at q; (rw [gE om] at q; omega)).symm
  refine dP 3 [] I ?_
  refine js (t:=40) U (aT fun C2=>?_) (aU fun C2=>?_)
  ·refine dP 19 [] (mc 0 U I) ?_
   refine gY (t:=59) U (aU fun X=>?_) (aT fun X=>?_)
   ·refine kI 14 U<|cE<|RK B<|aQ U<|WS fun _ w=>rP 1 [] I ?_
    refine RK w<|ak<|Q1 hQ U U U ?_
    exact cB (bD fun h=>by have q:=h.sync i x hx; unfold e9 at q; (rw [gE om] at q; omega)).symm
   refine dP 9 [] (mc 0 U I) ?_
   refine gY (t:=68) U (aU fun Y=>?_) (aT fun Y=>?_)
   ·refine kI 5 U<|cE<|RK B<|aQ U<|WS fun _ AC=>rP 1 [] I ?_
    refine RK AC<|ak<|Q1 hQ U U U ?_
    exact cB (bD fun h=>by have q:=h.sync i x hx; unfold e9 at q; (rw [gE om] at q; omega)).symm
   refine dP 5 [] (mc 0 U I) ?_
   refine cE<|RK B<|bQ U (aT fun Z=>?_) (aU fun Z=>?_)
   ·refine cf<|aL<|KK AA<|aq<|rP 3 [] I ?_
    refine aD ?_
    have B3:(vI (((i+1):Nat):Int))=(vI ((i:Int)+1)):=by exact cI om
    refine a7 (f ⟨(i+1),⟨om,lQ C hx (by unfold e9; (rw [gE om]; omega))⟩⟩ _ _ _ U os (df.cons U<|aX U B3<|df.nil _) (aP [1,2]))
   refine WS fun _ AO=>rP 1 [] I ?_
   refine RK AO<|ak<|Q1 hQ U U U ?_
   exact cB (bD fun h=>by have q:=h.sync i x hx; unfold e9 at q; (rw [gE om] at q; omega)).symm
  refine dP 6 [0,1] (mc 0 U (mc 1 U I)) ?_
  obtain ⟨y,hy⟩:=aJ c.bG (i-1) om
  have d:=bK cQ.cells hy
  refine dS (IA (i-1) U (aA 2 U) x3 dc om om)<|dS (qc ((i-1)*3) U (aA 2 U) (Nat.mul_pos om dc) fE U)<|dS (hG (i-1) 0 (vI y.At) U cb (aA 2 U) d U dc U)<|dP 4 [] I ?_
  refine gY (t:=53) U (aU fun C3=>?_) (aT fun C3=>?_)
  ·refine kI 20 U<|cE<|RK B<|aQ U<|WS fun _ r=>rP 1 [] I ?_
   refine RK r<|ak<|Q1 hQ U U U ?_
   exact cB (bD fun h=>by have q:=h.sync i x hx; unfold e9 at q; (rw [wk om hy] at q; omega)).symm
  refine dP 6 [] (mc 0 U I) ?_
  refine gY (t:=59) U (aU fun X=>?_) (aT fun X=>?_)
  ·refine kI 14 U<|cE<|RK B<|aQ U<|WS fun _ s=>rP 1 [] I ?_
   refine RK s<|ak<|Q1 hQ U U U ?_
   exact cB (bD fun h=>by have q:=h.sync i x hx; unfold e9 at q; (rw [gE om] at q; omega)).symm
  refine dP 9 [] (mc 0 U I) ?_
  refine gY (t:=68) U (aU fun Y=>?_) (aT fun Y=>?_)
  ·refine kI 5 U<|cE<|RK B<|aQ U<|WS fun _ u=>rP 1 [] I ?_
   refine RK u<|ak<|Q1 hQ U U U ?_
   exact cB (bD fun h=>by have q:=h.sync i x hx; unfold e9 at q; (rw [gE om] at q; omega)).symm
  refine dP 5 [] (mc 0 U I) ?_
  refine cE<|RK B<|bQ U (aT fun Z=>?_) (aU fun Z=>?_)
  ·refine cf<|aL<|KK AA<|aq<|rP 3 [] I ?_
   refine aD ?_
   have BV:(vI (((i+1):Nat):Int))=(vI ((i:Int)+1)):=by exact cI om
   refine a7 (f ⟨(i+1),⟨om,lQ C hx (by unfold e9; (rw [wk om hy]; omega))⟩⟩ _ _ _ U os (df.cons U<|aX U BV<|df.nil _) (aP [1,2]))
  refine WS fun _ v=>rP 1 [] I ?_
  refine RK v<|ak<|Q1 hQ U U U ?_
  exact cB (bD fun h=>by have q:=h.sync i x hx; unfold e9 at q; (rw [gE om] at q; omega)).symm
 refine bL<|ai<|ai<|aG<|KK Fd<|aj fun _ A0=>WS fun _ A1=>rP 1 [] I ?_
 refine RK A1<|aB ?_
 have A:(0≤c.bG.length)∧(uc c 0):=by exact ⟨Nat.zero_le _,fun j y hj=>absurd hj (Nat.not_lt_zero _)⟩
 refine bT (ι:={z:Nat // (z≤c.bG.length)∧(uc c z)}) [1] [0,1] U U (fun z=>[(5,(vI (z.1:Int)))]) (fun z=>[]) (fun _=>rfl) (fun _=>rfl) (fun z=>c.bG.length-z.1) ⟨0,A⟩ (bx U) (aP [0,1]) ?_
 clear A
 rintro ⟨m,⟨CF,G⟩⟩ J28 e
 try dsimp only
 have F:=v_ (P:=e9 c) om C
 refine aj fun _ A2=>WS fun _ A3=>rP 5 [] (mc 0 U I) ?_
 refine RK A3<|bQ U (aT fun Di=>?_) (aU fun Di=>?_)
 ·refine bL<|ai<|ai<|aG<|KK A0<|WS fun _ A9=>rP 1 [] I ?_
  refine RK A9<|ak<|Q1 hQ U U U ?_
  exact cB (dq (Kb om om (v_ om C) om G)).symm
 refine WK A2<|aj fun _ A4=>aB<|WS fun _ A5=>rP 1 [] I ?_
 refine RK A5<|aB ?_
 have A:(0≤m)∧(∀ y,c.bG[m]? =some y→Es c y 0):=by exact ⟨Nat.zero_le _,fun y _ j o hj=>absurd hj (Nat.not_lt_zero _)⟩
 refine bT (ι:={z:Nat // (z≤m)∧(∀ y,c.bG[m]? =some y→Es c y z)}) [1,5] [0,1] U U (fun z=>[(6,(vI (z.1:Int)))]) (fun z=>[]) (fun _=>rfl) (fun _=>rfl) (fun z=>m-z.1) ⟨0,A⟩ (bx U) (aP [0,1]) ?_
 clear A
 rintro ⟨k,⟨Cf,D⟩⟩ J33 T
 try dsimp only
 refine aj fun _ A6=>WS fun _ A7=>rP 3 [] I ?_
 refine RK A7<|bQ U (aT fun Do=>?_) (aU fun Do=>?_)
 ·refine bL<|ai<|ai<|aG<|aL<|KK A4<|aq<|rP 3 [] I ?_
  refine aD ?_
  have B9:(vI (((m+1):Nat):Int))=(vI ((m:Int)+1)):=by exact cI om
  refine a7 (e ⟨(m+1),⟨om,Df G D om⟩⟩ _ _ _ U os (df.cons U<|aX U B9<|df.nil _) (aP [0,1]))
 refine WK A6<|aj fun _ V=>aB<|aj fun _ W=>l3 cp [0,1,2,3,4,5,6,7,8,9] [10,11,12,13] [false,false,false,false,false,false,false,false,false,false] [] [(cm b2 73 (du.cells (du.mk c.dj (bH.mk sA c.bG.length sC)))),(rd sA c.bG.length 3 (c.bG.map cQ.cells)).ro] [] kr (aP [0,1]) (aP [])<|eS U (FA 1 U fE U)<|eS U (L1 (vS sA c.bG.length sC) 0 U cb U U)<|eS U (MV U) ?_
 obtain ⟨x,hx⟩:=aJ c.bG k om
 have b:=bK cQ.cells hx
 refine eS U (IA k U (aA 1 U) x3 dc om om)<|eS U (lh k 0 (cQ.cells x) U cb (aA 1 U) b U dc U U)<|eS U (FA 1 U fE U)<|eS U (L1 (vS sA c.bG.length sC) 0 U cb U U)<|eS U (MV U) ?_
 obtain ⟨y,hy⟩:=aJ c.bG m om
 have d:=bK cQ.cells hy
 refine eS U (IA m U (aA 1 U) x3 dc om om)<|eS U (lh m 0 (cQ.cells y) U cb (aA 1 U) d U dc U U)<|ep U<|mz [10,11] kr (iy ?_<|iy ?_<|pX)
 rotate_left 1
 ·refine NO U U [10,12,13] fun T38 M=>AL U x4 fun Ci=>RD M 1 U<|N1 10<|NO U U [12,13] fun T40 N=>AL U x4 fun Ck=>RD N 2 U<|N1 12<|NO U U [13] fun T42 O=>fu U yY U<|RD O 2 U<|N1 13<|NO U U [] fun T43 R=>rL U yY U<|RD R 2 U<|lx<|KK W<|WS fun _ J=>rP 6 [0,1,2] (mc 2 U (mc 1 U (mc 0 U I))) ?_
  obtain ⟨GE,GT,Gl⟩:=ux (fun j z _ hz=>F j z hz) hy (F _ _ hy) (show k<m by omega) hx
  refine bE 1 U<|rS (CL (wF c.dj (y.At-x.At) om om) (aM) U)<|bE 1 U<|RK J<|WS fun _ E=>rP 10 [0,1] (mc 0 U (mc 1 U I)) ?_
  refine bU (t:=113) U (aU fun H=>?_) (aT fun H=>?_)
  ·refine bE 10 U<|RK E<|aQ U<|WS fun _ K=>rP 1 [] I ?_
   refine RK K<|ak<|Q1 hQ U U U ?_
   exact cB (bD fun h=>by have q:=h.pair m k y x hy om hx; unfold nG at q; omega).symm
  refine rP 10 [0,1] (mc 1 U (mc 0 U I)) ?_
  refine RK E<|bQ U (aT fun AB=>?_) (aU fun AB=>?_)
  ·refine cf<|aL<|KK V<|aq<|rP 3 [] I ?_
   refine aD ?_
   have S:(vI (((k+1):Nat):Int))=(vI ((k:Int)+1)):=by exact cI om
   refine a7 (T ⟨(k+1),⟨om,fun z hz=>by rw [hy] at hz; cases hz; exact lQ (D _ hy) hx (by unfold nG; omega)⟩⟩ _ _ _ rfl os (df.cons rfl<|df.cons rfl<|aX rfl S<|df.nil _) (aP [2,3]))
  refine WS fun _ L=>rP 1 [] I ?_
  refine RK L<|ak<|Q1 hQ U U U ?_
  exact cB (bD fun h=>by have q:=h.pair m k y x hy om hx; unfold nG at q; omega).symm
 refine NO U U [11,12,13] fun T38 M=>AL U x4 fun Ci=>RD M 1 U<|N1 11<|NO U U [12,13] fun T40 N=>AL U x4 fun Ck=>RD N 2 U<|N1 12<|NO U U [13] fun T42 O=>rL U yY U<|RD O 2 U<|N1 13<|NO U U [] fun T43 R=>fu U yY U<|RD R 2 U<|lx<|KK W<|WS fun _ J=>rP 6 [0,1,2] (mc 2 U (mc 0 U (mc 1 U I))) ?_
 obtain ⟨GE,GT,Gl⟩:=ux (fun j z _ hz=>F j z hz) hy (F _ _ hy) (show k<m by omega) hx
 refine bE 1 U<|rS (CL (wF c.dj (y.At-x.At) om om) (aM) U)<|bE 1 U<|RK J<|WS fun _ E=>rP 10 [0,1] (mc 1 U (mc 0 U I)) ?_
 refine bU (t:=113) U (aU fun H=>?_) (aT fun H=>?_)
 ·refine bE 10 U<|RK E<|aQ U<|WS fun _ K=>rP 1 [] I ?_
  refine RK K<|ak<|Q1 hQ U U U ?_
  exact cB (bD fun h=>by have q:=h.pair m k y x hy om hx; unfold nG at q; omega).symm
 refine rP 10 [0,1] (mc 0 U (mc 1 U I)) ?_
 refine RK E<|bQ U (aT fun AB=>?_) (aU fun AB=>?_)
 ·refine cf<|aL<|KK V<|aq<|rP 3 [] I ?_
  refine aD ?_
  have S:(vI (((k+1):Nat):Int))=(vI ((k:Int)+1)):=by exact cI om
  refine a7 (T ⟨(k+1),⟨om,fun z hz=>by rw [hy] at hz; cases hz; exact lQ (D _ hy) hx (by unfold nG; omega)⟩⟩ _ _ _ rfl os (df.cons rfl<|df.cons rfl<|aX rfl S<|df.nil _) (aP [2,3]))
 refine WS fun _ L=>rP 1 [] I ?_
 refine RK L<|ak<|Q1 hQ U U U ?_
 exact cB (bD fun h=>by have q:=h.pair m k y x hy om hx; unfold nG at q; omega).symm
theorem BD (c:ay) (sA:OA) (sC:Nat) (at_:Int) (hc:eM c) (ha:0≤at_∧at_≤90000000):
 dx Tryz.prog 185 [(vA (du.cells (du.mk c.dj (bH.mk sA c.bG.length sC)))),(vI at_)] [(rd sA c.bG.length 3 (c.bG.map cQ.cells))] (vA (ag.cells (iv c at_))):=by
 have e:=hc.len
 have W:=hc.rR
 refine bB kr Tryz.func185 U U fun j Q hQ hN=>?_
 try dsimp only
 refine WS fun _ R=>er U fun g=>AL U dN fun h=>RK R<|WS fun _ S=>AL U dN fun d=>RK S<|aj fun _ T=>WS fun _ AA=>rP 1 [] I ?_
 refine RK AA<|aB ?_
 have A:(0≤c.bG.length):=by exact Nat.zero_le _
 refine bT (ι:={z:Nat // (z≤c.bG.length)}) [1,2,4,5] [1,2,3] U U (fun z=>[(6,(vI (z.1:Int)))]) (fun z=>[(cm d 53 (ag.cells (kE c at_ z.1)))]) (fun _=>rfl) (fun _=>rfl) (fun z=>c.bG.length-z.1) ⟨0,A⟩ (bx U) (aP [1,2,3,0]) ?_
 clear A
 rintro ⟨i,X⟩ J8 D
 try dsimp only
 refine aj fun _ V=>WS fun _ E=>rP 5 [] (mc 1 U I) ?_
 refine RK E<|bQ U (aT fun O=>?_) (aU fun O=>?_)
 ·refine bL<|ai<|ai<|aG<|KK T<|WS fun _ J=>rP 1 [] (mc 3 U I) ?_
  refine fu U cS U<|RK J<|ak<|Cj hQ [0] (mc 0 U I) U ?_
  rw [CB hc (show c.bG.length≤i by omega)]
 refine WK V<|aj fun _ B=>aB<|WS fun _ F=>rP 3 [] (mc 1 U I) ?_
 obtain ⟨x,hx⟩:=aJ c.bG i om
 have Z:=bK cQ.cells hx
 refine rS (IA i U (aA 2 U) x3 dc om om)<|rS (lh i 0 (cQ.cells x) U cb (aA 2 U) Z U dc U U)<|AL U x4 fun a=>fu U yY U<|RK F<|WS fun _ G=>rP 2 [] (mc 2 U I) ?_
 have Y:=hc.uo hx
 have f:0≤oE (c.dj*max (at_-x.At) (x.At-at_)) 1000000∧oE (c.dj*max (at_-x.At) (x.At-at_)) 1000000≤90001:=uj W ha Y.1
 refine eN 8 [] (mc 0 U I) U<|rS (MX U)<|rS (CL (wF c.dj (max (at_-x.At) (x.At-at_)) om om) (aM) U)<|bE 1 U<|RK G<|WS fun _ H=>eN 10 [] (mc 0 U I) U<|rS (SX (a_ (xs:=[(0,.tmp 38),(1,.tmp 43)]) (cs:=(ag.cells (ag.mk (x.eh.Lo-(oE (c.dj*(max (at_-x.At) (x.At-at_))) 1000000)) (x.eh.Hi+(oE (c.dj*(max (at_-x.At) (x.At-at_))) 1000000))))) U U (bf gM U)) U U)<|AL U dN fun b=>fu U cS U<|RK H<|aj fun _ C=>WS fun _ AB=>rP 2 [] I ?_
 refine RK AB<|bQ U (aT fun P=>?_) (aU fun P=>?_)
 ·refine WK C<|aq<|eN 4 [0,1] (mc 5 U (mc 0 U I)) U<|rS (MX U)<|rP 4 [0,1] (mc 5 U (mc 0 U I)) ?_
  refine rS (MN U)<|rS (SX (a_ (xs:=[(0,.tmp 52),(1,.tmp 57)]) (cs:=(ag.cells (ag.mk (max ((kE c at_ i).Lo) (x.eh.Lo-(oE (c.dj*(max (at_-x.At) (x.At-at_))) 1000000))) (min ((kE c at_ i).Hi) (x.eh.Hi+(oE (c.dj*(max (at_-x.At) (x.At-at_))) 1000000)))))) U U (bf gM U)) U U)<|ID U cS U<|aD<|aL<|KK B ?_
  have M:(ag.cells (ag.mk (max ((kE c at_ i).Lo) (x.eh.Lo-(oE (c.dj*(max (at_-x.At) (x.At-at_))) 1000000))) (min ((kE c at_ i).Hi) (x.eh.Hi+(oE (c.dj*(max (at_-x.At) (x.At-at_))) 1000000)))))=(ag.cells (kE c at_ (i+1))):=by exact congrArg ag.cells (BA hx om).symm
  rw [M]
  refine aq<|rP 3 [] I ?_
  refine aD ?_
  have N:(vI (((i+1):Nat):Int))=(vI ((i:Int)+1)):=by exact cI om
  refine a7 (D ⟨(i+1),(by first|omega|(simp only []; omega))⟩ _ _ _ U os (cw 4<|aX U N<|df.nil _) (aP [2,3,4,5]))
 refine aq<|eN 1 [] (mc 0 U I) U<|ID U cS U<|RK C<|aq<|eN 4 [0,1] (mc 5 U (mc 0 U I)) U<|rS (MX U)<|rP 4 [0,1] (mc 5 U (mc 0 U I)) ?_
 refine rS (MN U)<|rS (SX (a_ (xs:=[(0,.tmp 52),(1,.tmp 57)]) (cs:=(ag.cells (ag.mk (max (x.eh.Lo-(oE (c.dj*(max (at_-x.At) (x.At-at_))) 1000000)) (x.eh.Lo-(oE (c.dj*(max (at_-x.At) (x.At-at_))) 1000000))) (min (x.eh.Hi+(oE (c.dj*(max (at_-x.At) (x.At-at_))) 1000000)) (x.eh.Hi+(oE (c.dj*(max (at_-x.At) (x.At-at_))) 1000000)))))) U U (bf gM U)) U U)<|ID U cS U<|aD<|aL<|KK B ?_
 have K:(ag.cells (ag.mk (max (x.eh.Lo-(oE (c.dj*(max (at_-x.At) (x.At-at_))) 1000000)) (x.eh.Lo-(oE (c.dj*(max (at_-x.At) (x.At-at_))) 1000000))) (min (x.eh.Hi+(oE (c.dj*(max (at_-x.At) (x.At-at_))) 1000000)) (x.eh.Hi+(oE (c.dj*(max (at_-x.At) (x.At-at_))) 1000000)))))=(ag.cells (kE c at_ (i+1))):=by exact congrArg ag.cells (z4 hc ha hx om).symm
 rw [K]
 refine aq<|rP 3 [] I ?_
 refine aD ?_
 have L:(vI (((i+1):Nat):Int))=(vI ((i:Int)+1)):=by exact cI om
 refine a7 (D ⟨(i+1),(by first|omega|(simp only []; omega))⟩ _ _ _ U os (cw 4<|aX U L<|df.nil _) (aP [2,3,4,5]))
theorem IP (l:bg) (kA:OA) (kC:Nat) (az:List RA) (cA:OA) (cC:Nat) (bA:OA) (bC:Nat) (n:Int) (hin:eo l az) (htr:c8 l.aV=true) (hbk: ∀ b∈l.ab,jR l b) (hn:0≤n∧n<(l.ab.length:Int)):
 dx Tryz.prog 140 [(vA (cV.cells (jN l kA kC cA cC bA bC))),(vI n)] [(rd kA l.aV.length 9 (l.aV.map ao.cells)),(rd cA l.ar.length 2 (List.zipWith ay.cells l.ar az)),(dL (br ay.gn l.ar az)),(rd bA l.ab.length 4 (l.ab.map bI.cells))] (vI (kY l n.toNat)):=by
 have AA:=hin.sH
 have S:=hin.sI
 have P:=hin.ot
 have R:=hin.sL
 have T:=hin.side
 refine bB kr Tryz.func140 U U fun X Q hQ hN=>?_
 try dsimp only
 refine WS fun _ G=>er U fun V=>bE 1 U<|RK G<|aj fun _ H=>WS fun _ AB=>rP 2 [] I ?_
 refine RK AB<|cu U (aU fun F=>?_) (aT fun F=>?_)
 ·refine aj fun _ J=>dH cp [11,12] [] [] [0,1,2,3,4] [] U U U U U<|eS U (FA 0 U fE U)<|eS U (LP (bZ.cells (bZ.mk (bH.mk kA l.aV.length kC))) 0 U cb U U U)<|eS U (FA 3 U fE U)<|eS U (L1 (vS bA l.ab.length bC) 0 U cb U U) ?_
  obtain ⟨y,hy⟩:=aJ l.ab 0 om
  have A:=bK bI.cells hy
  refine eS U (IA 0 U (aA 4 U) xH dc U om)<|eS U (qc (0*4) U (aA 4 U) (Nat.mul_pos om dc) fE U)<|eS U (lh 0 0 (cy.cells y.mx) U cb (aA 4 U) A U dc U U)<|eS U (CL (Qg l.aV kA kC y.mx asm asm) (bq [1]) U)<|eS U (MV U)<|eS U (EX U)<|eS U (EX U)<|eS U (AG U)<|ep U<|cj U fun T6 L=>AL U dN fun W=>aD (L _ _ (aP [1,2,3,4,5]) ?_)
  refine cj U fun T8 M=>fu U cS U<|aD (M _ _ (aP [1,2,3,4,5]) ?_)
  refine fH U<|KK J<|WS fun _ K=>rP 3 [] (mc 0 U I) ?_
  refine RK K<|ak<|Q1 hQ U U U ?_
  (refine congrArg (Value.int .i64) ?_; rw [show n.toNat=0 by omega]; rw [yi hy,(wc htr (hbk _ (List.mem_of_getElem? hy)).1).2])
 refine WK H<|aj fun _ B=>dH cp [19,20] [] [] [0,1,2,3,4] [] U U U U U<|eS U (FA 0 U fE U)<|eS U (LP (bZ.cells (bZ.mk (bH.mk kA l.aV.length kC))) 0 U cb U U U)<|eS U (FA 3 U fE U)<|eS U (L1 (vS bA l.ab.length bC) 0 U cb U U)<|eS U (MV U)<|eS U (BI U (wg ⟨om,om⟩)) ?_
 obtain ⟨y,hy⟩:=aJ l.ab (((n-1)).toNat) om
 have A:=bK bI.cells hy
 refine eS U (IA (((n-1)).toNat) U (aA 4 U) xH dc om om)<|eS U (qc ((((n-1)).toNat)*4) U (aA 4 U) (Nat.mul_pos om dc) fE U)<|eS U (lh (((n-1)).toNat) 0 (cy.cells y.mx) U cb (aA 4 U) A U dc U U)<|eS U (FA 3 U fE U)<|eS U (L1 (vS bA l.ab.length bC) 0 U cb U U)<|eS U (MV U) ?_
 obtain ⟨x,hx⟩:=aJ l.ab ((n).toNat) om
 have N:=bK bI.cells hx
 refine eS U (IA ((n).toNat) U (aA 4 U) xH dc om om)<|eS U (qc (((n).toNat)*4) U (aA 4 U) (Nat.mul_pos om dc) fE U)<|eS U (lh ((n).toNat) 0 (cy.cells x.mx) U cb (aA 4 U) N U dc U U)<|eS U (CL (IS l.aV kA kC y.mx x.mx asm asm) (bq [1]) U)<|eS U (MV U)<|eS U (EX U)<|eS U (EX U)<|eS U (AG U)<|ep U<|cj U fun T11 D=>AL U dN fun O=>aD (D _ _ (aP [1,2,3,4,5]) ?_)
 refine cj U fun T13 E=>fu U cS U<|aD (E _ _ (aP [1,2,3,4,5]) ?_)
 refine fH U<|KK B<|WS fun _ C=>rP 3 [] (mc 0 U I) ?_
 refine RK C<|ak<|Q1 hQ U U U ?_
 (refine congrArg (Value.int .i64) ?_; rw [BC om hx (by rw [show n.toNat-1=(n-1).toNat by omega]; exact hy),(lp htr ⟨(hbk _ (List.mem_of_getElem? hy)).1,(hbk _ (List.mem_of_getElem? hx)).1⟩).2])
theorem JG (l:bg) (kA:OA) (kC:Nat) (az:List RA) (cA:OA) (cC:Nat) (bA:OA) (bC:Nat) (n:Int) (hin:eo l az) (htr:c8 l.aV=true) (hok:kZ l) (hn:0≤n∧n<(l.ab.length:Int)):
 dx Tryz.prog 177 [(vA (cV.cells (jN l kA kC cA cC bA bC))),(vI n)] [(rd kA l.aV.length 9 (l.aV.map ao.cells)),(rd cA l.ar.length 2 (List.zipWith ay.cells l.ar az)),(dL (br ay.gn l.ar az)),(rd bA l.ab.length 4 (l.ab.map bI.cells))] (vI (dV l n.toNat)):=by
 have G:=hin.sH
 have F:=hin.sI
 have D:=hin.ot
 have E:=hin.sL
 have C:=hok.head
 unfold eL at C
 have H:=Aj htr hok.sZ n.toNat
 have AA:=hok.Pv n.toNat om
 refine bB kr Tryz.func177 U U fun K Q hQ hN=>?_
 try dsimp only
 refine WS fun _ A=>er U fun J=>bE 1 U<|RK A<|aj fun _ B=>dg cp 12 kr<|lu 2 [] (mc 0 U I) U<|dS (CL (IP l kA kC az cA cC bA bC n hin htr (by exact hok.sZ) hn) (bq [1,2,3,4]) U)<|dS (BI U (tn ⟨om,om⟩))<|lu 6 [] (mc 0 U I) U<|dS (BI U (sR om om om))<|dP 1 [] I ?_
 refine cE<|RK B<|ak<|Q1 hQ U U U ?_
 exact cI (by unfold dV oE; rw [Int.mul_comm])
theorem MC (l:bg) (kA:OA) (kC:Nat) (az:List RA) (cA:OA) (cC:Nat) (bA:OA) (bC:Nat) (hin:eo l az) (htr:c8 l.aV=true):
 dx Tryz.prog 121 [(vA (cV.cells (jN l kA kC cA cC bA bC)))] [(rd kA l.aV.length 9 (l.aV.map ao.cells)),(rd cA l.ar.length 2 (List.zipWith ay.cells l.ar az)),(dL (br ay.gn l.ar az)),(rd bA l.ab.length 4 (l.ab.map bI.cells))] (vB (decide (kZ l))):=by
 have FS:=hin.sH
 have Do:=hin.sI
 have C2:=hin.ot
 have Di:=hin.sL
 have EF:=hin.side
 have EQ:=jV htr
 have C1:=kF htr
 refine bB kr Tryz.func121 U U fun w0 Q hQ hN=>?_
 try dsimp only
 refine WS fun _ BV=>er U fun b2=>bE 1 U<|RK BV<|aj fun _ B3=>WS fun _ D=>eN 2 [] (mc 0 U I) U<|rS (CL (iR l.ku 1 5000) (aM) U)<|rP 2 [] I ?_
 refine bU (t:=10) U (bp fun A0=>?_) (bo fun A0=>?_)
 ·refine bE 35 U<|RK D<|aQ U<|WS fun _ B9=>rP 1 [] I ?_
  refine RK B9<|ak<|Q1 hQ U U U ?_
  exact cB (bD fun h=>by have q:=h.head; unfold eL at q; omega).symm
 refine eN 3 [] (mc 0 U I) U<|rS (CL (iR (l.ar.length:Int) 1 4) (aM) U)<|rP 3 [] I ?_
 refine bU (t:=17) U (bp fun A1=>?_) (bo fun A1=>?_)
 ·refine bE 28 U<|RK D<|aQ U<|WS fun _ CF=>rP 1 [] I ?_
  refine RK CF<|ak<|Q1 hQ U U U ?_
  exact cB (bD fun h=>by have q:=h.head; unfold eL at q; omega).symm
 refine eN 3 [] (mc 0 U I) U<|rS (CL (iR (l.ab.length:Int) 1 6) (aM) U)<|rP 3 [] I ?_
 refine bU (t:=24) U (bp fun A2=>?_) (bo fun A2=>?_)
 ·refine bE 21 U<|RK D<|aQ U<|WS fun _ Cf=>rP 1 [] I ?_
  refine RK Cf<|ak<|Q1 hQ U U U ?_
  exact cB (bD fun h=>by have q:=h.head; unfold eL at q; omega).symm
 refine eN 6 [] (mc 0 U I) U<|rS (CL (iR l.cD 0 ((l.ab.length:Int)-1)) (aM) U)<|rP 3 [] I ?_
 refine bU (t:=34) U (bp fun A3=>?_) (bo fun A3=>?_)
 ·refine bE 11 U<|RK D<|aQ U<|WS fun _ Ci=>rP 1 [] I ?_
  refine RK Ci<|ak<|Q1 hQ U U U ?_
  exact cB (bD fun h=>by have q:=h.head; unfold eL at q; omega).symm
 refine eN 2 [] (mc 0 U I) U<|rS (CL (iR l.iI 0 3) (aM) U)<|rP 3 [] I ?_
 refine bU (t:=40) U (bp fun A4=>?_) (bo fun A4=>?_)
 ·refine bE 5 U<|RK D<|aQ U<|WS fun _ Ck=>rP 1 [] I ?_
  refine RK Ck<|ak<|Q1 hQ U U U ?_
  exact cB (bD fun h=>by have q:=h.head; unfold eL at q; omega).symm
 refine eN 2 [] (mc 0 U I) U<|rS (CL (iR l.eP 0 3) (aM) U)<|rP 2 [] I ?_
 refine RK D<|cu U (bp fun A5=>?_) (bo fun A5=>?_)
 ·refine WS fun _ N=>rP 1 [] I ?_
  refine RK N<|ak<|Q1 hQ U U U ?_
  exact cB (bD fun h=>by have q:=h.head; unfold eL at q; omega).symm
 refine WK B3<|aj fun _ O=>WS fun _ R=>rP 1 [] I ?_
 refine RK R<|aB ?_
 have A:(0≤l.ar.length)∧(∀ (j:Nat) y,j<0→l.ar[j]? =some y→eM y):=by exact ⟨Nat.zero_le _,fun j y hj=>absurd hj (Nat.not_lt_zero _)⟩
 refine bT (ι:={z:Nat // (z≤l.ar.length)∧(∀ (j:Nat) y,j<z→l.ar[j]? =some y→eM y)}) [1] [0,1,2,3,4] U U (fun z=>[(3,(vI (z.1:Int)))]) (fun z=>[]) (fun _=>rfl) (fun _=>rfl) (fun z=>l.ar.length-z.1) ⟨0,A⟩ (bx U) (aP [0,1,2,3,4]) ?_
 clear A
 rintro ⟨i,⟨Cp,F⟩⟩ J13 K
 try dsimp only
 refine aj fun _ S=>WS fun _ T=>rP 5 [] (mc 0 U I) ?_
 refine RK T<|cu U (aU fun A6=>?_) (aT fun A6=>?_)
 ·refine WK S<|aj fun _ AA=>aB<|WS fun _ V=>rP 3 [] (mc 0 U I) ?_
  obtain ⟨x,hx⟩:=aJ l.ar i om
  obtain ⟨xa,J⟩:=aJ az i om
  have C0:(List.zipWith ay.cells l.ar az)[i]? =some (ay.cells x xa):=dC hx J
  refine rS (IA i U (aA 2 U) F0 dc om om)<|rS (lh i 0 (du.cells (du.mk x.dj (bH.mk xa.1 x.bG.length xa.2))) U cb (aA 2 U) C0 U dc U U) ?_
  have Eq:=(hin.Sw _ _ _ hx J).2
  refine rS (CL (JF x xa.1 xa.2 asm) (aK (show iN _ (rd xa.1 x.bG.length 3 (x.bG.map cQ.cells)).holds from (cR 3 U (bM hx J (by simp [ay.gn]))))<|aM) U)<|rP 1 [] I ?_
  refine RK V<|bQ U (bo fun AB=>?_) (bp fun AB=>?_)
  ·refine cf<|aL<|KK AA<|aq<|rP 3 [] I ?_
   refine aD ?_
   have u:(vI (((i+1):Nat):Int))=(vI ((i:Int)+1)):=by exact cI om
   refine a7 (K ⟨(i+1),⟨om,lQ (P:=fun _ y=>eM y) F hx AB⟩⟩ _ _ _ U os (df.cons U<|aX U u<|df.nil _) (aP [0,1,2,3,4]))
  refine WS fun _ W=>rP 1 [] I ?_
  refine RK W<|ak<|Q1 hQ U U U ?_
  exact cB (bD fun h=>AB (h.clock _ (aR hx))).symm
 refine bL<|ai<|ai<|aG<|KK O<|aj fun _ X=>WS fun _ Y=>rP 1 [] I ?_
 refine RK Y<|aB ?_
 have A:(0≤l.ab.length)∧(∀ (j:Nat) y,j<0→l.ab[j]? =some y→jR l y):=by exact ⟨Nat.zero_le _,fun j y hj=>absurd hj (Nat.not_lt_zero _)⟩
 refine bT (ι:={z:Nat // (z≤l.ab.length)∧(∀ (j:Nat) y,j<z→l.ab[j]? =some y→jR l y)}) [1] [0,1,2,3,4] U U (fun z=>[(4,(vI (z.1:Int)))]) (fun z=>[]) (fun _=>rfl) (fun _=>rfl) (fun z=>l.ab.length-z.1) ⟨0,A⟩ (bx U) (aP [0,1,2,3,4]) ?_
 clear A
 rintro ⟨m,⟨Cx,B⟩⟩ J22 L
 try dsimp only
 refine aj fun _ Z=>WS fun _ a=>rP 5 [] (mc 0 U I) ?_
 refine RK a<|bQ U (aT fun A7=>?_) (aU fun A7=>?_)
 ·refine bL<|ai<|ai<|aG<|KK X<|aj fun _ e=>WS fun _ f=>rP 1 [] I ?_
  refine RK f<|aB ?_
  have A:(0≤l.ab.length)∧(∀ j,j<0→1≤kY l j):=by exact ⟨Nat.zero_le _,fun j hj=>absurd hj (Nat.not_lt_zero _)⟩
  refine bT (ι:={z:Nat // (z≤l.ab.length)∧(∀ j,j<z→1≤kY l j)}) [1] [0,1,2,3,4] U U (fun z=>[(5,(vI (z.1:Int)))]) (fun z=>[]) (fun _=>rfl) (fun _=>rfl) (fun z=>l.ab.length-z.1) ⟨0,A⟩ (bx U) (aP [0,1,2,3,4]) ?_
  clear A
  rintro ⟨n,⟨AO,C⟩⟩ J32 M
  try dsimp only
  have C3:=vY (P:=jR l) om B
  refine aj fun _ g=>WS fun _ k=>rP 5 [] (mc 0 U I) ?_
  refine RK k<|bQ U (aT fun A9=>?_) (aU fun A9=>?_)
  ·refine bL<|ai<|ai<|aG<|KK e<|WS fun _ s=>rP 1 [] I ?_
   refine RK s<|ak<|Q1 hQ U U U ?_
   exact cB (dq (yN (by unfold eL; omega) (vY om F) (vY om B) (fun j hj=>C j om))).symm
  refine WK g<|aj fun _ o=>aB<|WS fun _ p=>eN 2 [] (mc 0 U I) U<|rS (CL (IP l kA kC az cA cC bA bC (n:Int) hin htr asm om) (bq [1,2,3,4]) U)<|rP 1 [] I ?_
  refine RK p<|bQ U (aT fun E=>?_) (aU fun E=>?_)
  ·refine cf<|aL<|KK o<|aq<|rP 3 [] I ?_
   refine aD ?_
   have w:(vI (((n+1):Nat):Int))=(vI ((n:Int)+1)):=by exact cI om
   refine a7 (M ⟨(n+1),⟨om,fun j hj=>by rcases Nat.lt_or_ge j n with q|q; exact C j q; (obtain rfl:j=n:=by omega); simp only [Int.toNat_natCast] at E; omega⟩⟩ _ _ _ rfl os (df.cons rfl<|aX rfl w<|df.nil _) (aP [0,1,2,3,4]))
  refine WS fun _ r=>rP 1 [] I ?_
  refine RK r<|ak<|Q1 hQ U U U ?_
  exact cB (bD fun h=>by have q:=h.Pv n om; simp only [Int.toNat_natCast] at E; omega).symm
 refine WK Z<|aj fun _ b=>aB<|aj fun _ H=>dg cp 24 kr<|kI 1 U<|dS (LP (bZ.cells (bZ.mk (bH.mk kA l.aV.length kC))) 0 U cb U U U)<|dP 3 [] (mc 0 U I) ?_
 obtain ⟨y,hy⟩:=aJ l.ab m om
 have AC:=bK bI.cells hy
 refine dS (IA m U (aA 4 U) xH dc om om)<|dS (qc (m*4) U (aA 4 U) (Nat.mul_pos om dc) fE U)<|dS (lh m 0 (cy.cells y.mx) U cb (aA 4 U) AC U dc U U)<|dS (CL (ry l.aV kA kC y.mx asm asm) (bq [1]) U)<|dP 2 [] I ?_
 refine gY (t:=77) U (bp fun G=>?_) (bo fun G=>?_)
 ·refine kI 13 U<|cE<|RK H<|aQ U<|WS fun _ c=>rP 1 [] I ?_
  refine RK c<|ak<|Q1 hQ U U U ?_
  exact cB (bD fun h=>by have q:=h.sZ _ (aR hy); have q2:=q.2; first|exact G q.1|omega).symm
 refine lu 3 [] (mc 0 U I) U<|dS (IA m U (aA 4 U) xH dc om om)<|dS (qc ((m*4)+3) U (aA 4 U) (Nat.mul_pos om dc) fE U)<|dS (hG m 3 (vI y.jX) U cb (aA 4 U) AC U dc U)<|lu 4 [] (mc 0 U I) U<|dS (CL (iR y.jX 0 ((l.ar.length:Int)-1)) (aM) U)<|dP 2 [] I ?_
 refine cE<|RK H<|bQ U (bo fun A8=>?_) (bp fun A8=>?_)
 ·refine cf<|aL<|KK b<|aq<|rP 3 [] I ?_
  refine aD ?_
  have v:(vI (((m+1):Nat):Int))=(vI ((m:Int)+1)):=by exact cI om
  refine a7 (L ⟨(m+1),⟨om,lQ (P:=fun _ y=>jR l y) B hy ⟨G,om,om⟩⟩⟩ _ _ _ U os (df.cons U<|aX U v<|df.nil _) (aP [0,1,2,3,4]))
 refine WS fun _ d=>rP 1 [] I ?_
 refine RK d<|ak<|Q1 hQ U U U ?_
 exact cB (bD fun h=>by have q:=h.sZ _ (aR hy); have q2:=q.2; first|exact G q.1|omega).symm
end
section
open Go.RowKit
theorem Bv (r:eV) (kA:OA) (kC:Nat) (az:List RA) (cA:OA) (cC:Nat) (bA:OA) (bC:Nat) (slA:OA) (slC:Nat) (drA:OA) (drC:Nat) (ha:List dG) (heA:OA) (heC:Nat) (hraw:tx r az ha):
 dx Tryz.prog 49 [(vA (ig.cells (zM r kA kC cA cC bA bC slA slC drA drC heA heC)))] [(rd kA r.au.aV.length 9 (r.au.aV.map ao.cells)),(rd cA r.au.ar.length 2 (List.zipWith ay.cells r.au.ar az)),(dL (br ay.gn r.au.ar az)),(rd bA r.au.ab.length 4 (r.au.ab.map bI.cells)),(rd slA r.bj.length 1 (r.bj.map iC)),(rd drA r.cq.length 1 (r.cq.map iC)),(rd heA r.aH.length 1 (List.zipWith de r.aH ha)),(dL (br eY r.aH ha))] (vB (decide (mw r))):=by
 have AC:=hraw.line
 have A2:=hraw.iX
 have A4:=hraw.has
 have A1:=hraw.iW
 have AO:=hraw.draw
 refine bB kr Tryz.func49 U U fun w0 Q hQ hN=>?_
 try dsimp only
 refine WS fun _ l=>er U fun b2=>bE 1 U<|RK l<|aj fun _ m=>WS fun _ H=>bE 1 U<|rS (LP (cV.cells (jN r.au kA kC cA cC bA bC)) 0 U cb U U U)<|rS (CL (HD r.au kA kC az cA cC bA bC asm) (bq [1,2,3,4]) U)<|rP 1 [] I ?_
 refine bU (t:=8) U (aU fun k=>?_) (aT fun k=>?_)
 ·refine bE 17 U<|RK H<|aQ U<|WS fun _ n=>rP 1 [] I ?_
  refine RK n<|ak<|Q1 hQ U U U ?_
  exact cB (dq (pP (.inl k))).symm
 refine rP 6 [] (mc 0 U I) ?_
 refine bU (t:=14) U (aU fun AB=>?_) (aT fun AB=>?_)
 ·refine bE 11 U<|RK H<|aQ U<|WS fun _ o=>rP 1 [] I ?_
  refine RK o<|ak<|Q1 hQ U U U ?_
  exact cB (dq (pP (.inr om))).symm
 refine rP 6 [] (mc 0 U I) ?_
 refine bU (t:=20) U (aU fun f=>?_) (aT fun f=>?_)
 ·refine bE 5 U<|RK H<|aQ U<|WS fun _ p=>rP 1 [] I ?_
  refine RK p<|ak<|Q1 hQ U U U ?_
  exact cB (dq (pP (.inr om))).symm
 refine rP 5 [] (mc 0 U I) ?_
 refine RK H<|cu U (aU fun h=>?_) (aT fun h=>?_)
 ·refine WS fun _ q=>rP 1 [] I ?_
  refine RK q<|ak<|Q1 hQ U U U ?_
  exact cB (dq (pP (.inr om))).symm
 refine WK m<|aj fun _ s=>WS fun _ N=>rP 1 [] I ?_
 refine RK N<|aB ?_
 have B:(0≤r.aH.length)∧(lJ r 0):=by exact ⟨Nat.zero_le _,Bo⟩
 refine bT (ι:={z:Nat // (z≤r.aH.length)∧(lJ r z)}) [1] [0,1,2,3,4,5,6,7,8] U U (fun z=>[(3,(vI (z.1:Int)))]) (fun z=>[]) (fun _=>rfl) (fun _=>rfl) (fun z=>r.aH.length-z.1) ⟨0,B⟩ (bx U) (aP [0,1,2,3,4,5,6,7,8]) ?_
 clear B
 rintro ⟨i,⟨x,F⟩⟩ J11 L
 try dsimp only
 refine aj fun _ O=>WS fun _ P=>rP 5 [] (mc 0 U I) ?_
 refine RK P<|bQ U (aT fun AB=>?_) (aU fun AB=>?_)
 ·refine bL<|ai<|ai<|aG<|KK s<|WS fun _ b=>rP 1 [] I ?_
  refine RK b<|ak<|Q1 hQ U U U ?_
  exact cB (bD (Gw k om F om)).symm
 refine WK O<|aj fun _ R=>aB<|aj fun _ S=>WS fun _ T=>rP 3 [] (mc 0 U I) ?_
 obtain ⟨ht,D⟩:=aJ r.aH i om
 obtain ⟨A,C⟩:=aJ ha i om
 have E:(List.zipWith de r.aH ha)[i]? =some (de ht A):=dC D C
 refine rS (IA i U (aA 7 U) rK dc om om)<|rS (hG i 0 (vS A.1.1 ht.length A.1.2) U cb (aA 7 U) E U dc U) ?_
 obtain ⟨A3,A0,w⟩:=hraw.gj _ _ _ D C
 refine rP 2 [] I ?_
 refine RK T<|cu U (aU fun J=>?_) (aT fun J=>?_)
 ·refine WS fun _ AA=>rP 1 [] I ?_
  refine RK AA<|ak<|Q1 hQ U U U ?_
  exact cB (dq (By D J)).symm
 refine WK S<|WS fun _ V=>rP 1 [] I ?_
 refine RK V<|aB ?_
 have B:(0≤ht.length)∧(mO ht 0):=by exact ⟨Nat.zero_le _,BX⟩
 refine bT (ι:={z:Nat // (z≤ht.length)∧(mO ht z)}) [1,3] [0,1,2,3,4,5,6,7,8] U U (fun z=>[(4,(vI (z.1:Int)))]) (fun z=>[]) (fun _=>rfl) (fun _=>rfl) (fun z=>ht.length-z.1) ⟨0,B⟩ (bx U) (aP [0,1,2,3,4,5,6,7,8]) ?_
 clear B
 rintro ⟨j,⟨y,G⟩⟩ J20 M
 try dsimp only
 refine aj fun _ W=>WS fun _ X=>eN 4 [] (mc 0 U I) U<|rS (IA i U (aA 7 U) rK dc om om)<|rS (hG i 0 (vS A.1.1 ht.length A.1.2) U cb (aA 7 U) E U dc U)<|rP 2 [] I ?_
 refine RK X<|bQ U (aT fun g=>?_) (aU fun g=>?_)
 ·refine bL<|ai<|ai<|aG<|aL<|KK R<|aq<|rP 3 [] I ?_
  refine aD ?_
  have e:(vI (((i+1):Nat):Int))=(vI ((i:Int)+1)):=by exact cI om
  refine a7 (L ⟨(i+1),⟨om,BR F D (Dq J G om)⟩⟩ _ _ _ U os (df.cons U<|aX U e<|df.nil _) (aP [0,1,2,3,4,5,6,7,8]))
 refine WK W<|aj fun _ Y=>aB<|WS fun _ Z=>eN 3 [] (mc 0 U I) U<|rS (IA i U (aA 7 U) rK dc om om)<|rS (hG i 0 (vS A.1.1 ht.length A.1.2) U cb (aA 7 U) E U dc U)<|rP 1 [] I ?_
 obtain ⟨d,hd⟩:=aJ ht j om
 obtain ⟨da,u⟩:=aJ A.2 j om
 have v:(List.zipWith aw.cells ht A.2)[j]? =some (aw.cells d da):=dC hd u
 refine rS (IA j U (show iN _ (rd A.1.1 ht.length 7 (List.zipWith aw.cells ht A.2)).holds from (cR 8 U (bM D C ct))) s8 dc om om)<|rS (qc ((j*7)+4) U (show iN _ (rd A.1.1 ht.length 7 (List.zipWith aw.cells ht A.2)).holds from (cR 8 U (bM D C ct))) (Nat.mul_pos om dc) fE U)<|rS (qc (((j*7)+4)+2) U (show iN _ (rd A.1.1 ht.length 7 (List.zipWith aw.cells ht A.2)).holds from (cR 8 U (bM D C ct))) (Nat.mul_pos om dc) fE U)<|rS (hG j 6 (vS da.1 d.bw.aa.length da.2) U cb (show iN _ (rd A.1.1 ht.length 7 (List.zipWith aw.cells ht A.2)).holds from (cR 8 U (bM D C ct))) v U dc U) ?_
 have A5:=w d (aR hd)
 refine rP 2 [] I ?_
 refine RK Z<|bQ U (aT fun K=>?_) (aU fun K=>?_)
 ·refine cf<|aL<|KK Y<|aq<|rP 3 [] I ?_
  refine aD ?_
  have c:(vI (((j+1):Nat):Int))=(vI ((j:Int)+1)):=by exact cI om
  refine a7 (M ⟨(j+1),⟨om,Az G hd K⟩⟩ _ _ _ U os (df.cons U<|df.cons U<|aX U c<|df.nil _) (aP [0,1,2,3,4,5,6,7,8]))
 refine WS fun _ a=>rP 1 [] I ?_
 refine RK a<|ak<|Q1 hQ U U U ?_
 exact cB (dq (C5 D hd K)).symm
end
section
open Go.RowKit
theorem iS (n lo hi:Int):
 dx Tryz.prog 77 [(vI n),(vI lo),(vI hi)] [] (vB (decide (lo≤n∧n≤hi))):=by
 refine bB kr Tryz.func77 U U fun D Q hQ hN=>?_
 try dsimp only
 refine WS fun _ B=>bE 1 U<|RK B<|WS fun _ A=>rP 4 [] I ?_
 refine bU (t:=10) U (aU fun C=>?_) (aT fun C=>?_)
 ·refine rP 5 [] I ?_
  refine RK A<|ak<|Q1 hQ U U U ?_
  exact cB (gv.2 om)
 refine rP 5 [] I ?_
 refine RK A<|ak<|Q1 hQ U U U ?_
 exact cB (bD om).symm
theorem DY (o fx:Bool) (tm:ag) (rv:cN):
 dx Tryz.prog 78 [(vA (aO.cells (aO.mk o fx tm rv)))] [] (vB (decide (o=false∧fx=false))):=by
 refine bB kr Tryz.func78 U U fun E Q hQ hN=>?_
 try dsimp only
 refine WS fun _ B=>er U fun D=>bE 1 U<|RK B<|WS fun _ A=>rP 4 [] (mc 0 U I) ?_
 refine ck (t:=6) U (fun C=>?_) (fun C=>?_)
 ·rw [Bool.not_eq_false'] at C
  refine rP 5 [] I ?_
  refine RK A<|ak<|Q1 hQ U U U ?_
  clear hQ hN A B
  refine cB ?_
  (simp_all; done)
 rw [Bool.not_eq_true'] at C
 refine rP 5 [] (mc 0 U I) ?_
 refine RK A<|ak<|Q1 hQ U U U ?_
 clear hQ hN A B
 refine cB ?_
 (simp_all; done)
theorem IX (j:cH) (kA:OA) (kC:Nat) (az:List RA) (cA:OA) (cC:Nat) (bA:OA) (bC:Nat) (slA:OA) (slC:Nat) (drA:OA) (drC:Nat) (ha:List dG) (heA:OA) (heC:Nat) (faA:OA) (faC:Nat) (prA:OA) (prC:Nat) (hraw:q_ j az ha):
 dx Tryz.prog 27 [(vA (gG.cells (nN j kA kC cA cC bA bC slA slC drA drC heA heC faA faC prA prC)))] [(rd kA j.Race.au.aV.length 9 (j.Race.au.aV.map ao.cells)),(rd cA j.Race.au.ar.length 2 (List.zipWith ay.cells j.Race.au.ar az)),(dL (br ay.gn j.Race.au.ar az)),(rd bA j.Race.au.ab.length 4 (j.Race.au.ab.map bI.cells)),(rd slA j.Race.bj.length 1 (j.Race.bj.map iC)),(rd drA j.Race.cq.length 1 (j.Race.cq.map iC)),(rd heA j.Race.aH.length 1 (List.zipWith de j.Race.aH ha)),(dL (br eY j.Race.aH ha)),(rd faA j.aI.length 4 (j.aI.map aS.cells)),(rd prA j.ax.length 5 (j.ax.map aZ.cells))] (vB (decide (pC j))):=by
 have E:=hraw.race
 have F:=hraw.nf
 have G:=hraw.np
 refine bB kr Tryz.func27 U U fun AA Q hQ hN=>?_
 try dsimp only
 refine WS fun _ D=>er U fun H=>bE 1 U<|RK D<|WS fun _ B=>bE 1 U<|rS (LP (ig.cells (zM j.Race kA kC cA cC bA bC slA slC drA drC heA heC)) 0 U cb U U U)<|rS (CL (Bv j.Race kA kC az cA cC bA bC slA slC drA drC ha heA heC asm) (bq [1,2,3,4,5,6,7,8]) U)<|rP 1 [] I ?_
 refine bU (t:=6) U (aU fun C=>?_) (aT fun C=>?_)
 ·refine rP 12 [] I ?_
  refine RK B<|ak<|Q1 hQ U U U ?_
  (exact cB (dq (show pC j from .inl (.inl C))).symm)
 refine rP 6 [] (mc 0 U I) ?_
 refine bU (t:=12) U (aU fun A=>?_) (aT fun A=>?_)
 ·refine rP 6 [] I ?_
  refine RK B<|ak<|Q1 hQ U U U ?_
  (exact cB (dq (show pC j from .inl (.inr A))).symm)
 refine rP 6 [] (mc 0 U I) ?_
 refine RK B<|ak<|Q1 hQ U U U ?_
 (exact cB (gv.2 (show _↔pC j from ⟨.inr,fun q=>Or.elim q (fun q=>Or.elim q (fun q=>absurd q C) (fun q=>absurd q A)) id⟩)))
end
section
open Go.RowKit
theorem Bf (l:bg) (kA:OA) (kC:Nat) (az:List RA) (cA:OA) (cC:Nat) (bA:OA) (bC:Nat) (hin:eo l az):
 dx Tryz.prog 101 [(vA (cV.cells (jN l kA kC cA cC bA bC)))] [(rd kA l.aV.length 9 (l.aV.map ao.cells)),(rd cA l.ar.length 2 (List.zipWith ay.cells l.ar az)),(dL (br ay.gn l.ar az)),(rd bA l.ab.length 4 (l.ab.map bI.cells))] (vI (dw l)):=by
 have N:=hin.sH
 have M:=hin.sI
 have K:=hin.ot
 have L:=hin.sL
 refine bB kr Tryz.func101 U U fun P Q hQ hN=>?_
 try dsimp only
 refine WS fun _ C=>er U fun O=>bE 1 U<|RK C<|aj fun _ D=>WS fun _ E=>bE 1 U<|rS (LP (bZ.cells (bZ.mk (bH.mk kA l.aV.length kC))) 0 U cb U U U)<|rS (CL (vL l.aV kA kC asm) (bq [1]) U)<|rP 1 [] I ?_
 refine RK E<|cu U (fun A=>?_) (fun A=>?_)
 ·rw [Bool.not_eq_true'] at A
  refine WS fun _ F=>rP 1 [] I ?_
  refine RK F<|ak<|Q1 hQ U U U ?_
  exact cI (x9 (by simpa using A)).symm
 rw [Bool.not_eq_false'] at A
 refine WK D<|aj fun _ G=>WS fun _ H=>eN 1 [] (mc 0 U I) U<|rS (CL (MC l kA kC az cA cC bA bC hin asm) (bq [1,2,3,4]) U)<|rP 1 [] I ?_
 refine RK H<|cu U (bp fun B=>?_) (bo fun B=>?_)
 ·refine WS fun _ AA=>rP 1 [] I ?_
  refine RK AA<|ak<|Q1 hQ U U U ?_
  exact cI (qk A B).symm
 refine WK G<|WS fun _ J=>rP 1 [] I ?_
 refine RK J<|ak<|Q1 hQ U U U ?_
 exact cI (wv A B).symm
theorem Mt (l:bg) (kA:OA) (kC:Nat) (az:List RA) (cA:OA) (cC:Nat) (bA:OA) (bC:Nat) (s:aF) (hin:eo l az) (hok:kZ l) (hs:(0≤s.eZ∧s.eZ≤(l.ab.length:Int)-1)∧0≤s.Read∧s.Read≤86400000):
 dx Tryz.prog 178 [(vA (cV.cells (jN l kA kC cA cC bA bC))),(vA (aF.cells s))] [(rd kA l.aV.length 9 (l.aV.map ao.cells)),(rd cA l.ar.length 2 (List.zipWith ay.cells l.ar az)),(dL (br ay.gn l.ar az)),(rd bA l.ab.length 4 (l.ab.map bI.cells))] (vT [(vA (ag.cells (cJ l s))),(vB (decide ((cJ l s).Lo≤(cJ l s).Hi)))]):=by
 have A2:=hin.sH
 have A1:=hin.sI
 have AO:=hin.ot
 have A0:=hin.sL
 refine bB kr Tryz.func178 U U fun w0 Q hQ hN=>?_
 try dsimp only
 refine WS fun _ i=>er U fun b2=>er U fun b3=>AL U dN fun b4=>rP 1 [] I ?_
 refine RK i<|aj fun _ j=>dH cp [11,12] [] [] [0,1,2,3,4,5,6] [] U U U U U<|eS U (FA 2 U fE U)<|eS U (L1 (vS cA l.ar.length cC) 2 U cb U U)<|eS U (FA 3 U fE U)<|eS U (L1 (vS bA l.ab.length bC) 2 U cb U U)<|eS U (FA 0 U fE U)<|eS U (L1 (vI s.eZ) 1 U cb U U) ?_
 obtain ⟨y,hy⟩:=aJ l.ab ((s.eZ).toNat) om
 have w:=bK bI.cells hy
 refine eS U (IA ((s.eZ).toNat) U (aA 6 U) xH dc om om)<|eS U (qc ((((s.eZ).toNat)*4)+3) U (aA 6 U) (Nat.mul_pos om dc) fE U)<|eS U (hG ((s.eZ).toNat) 3 (vI y.jX) U cb (aA 6 U) w U dc U) ?_
 have A3:=(hok.sZ _ (aR hy)).2
 obtain ⟨x,hx⟩:=aJ l.ar ((y.jX).toNat) om
 obtain ⟨xa,J⟩:=aJ az ((y.jX).toNat) om
 have u:(List.zipWith ay.cells l.ar az)[(y.jX).toNat]? =some (ay.cells x xa):=dC hx J
 refine eS U (IA ((y.jX).toNat) U (aA 4 U) F0 dc om om)<|eS U (lh ((y.jX).toNat) 0 (du.cells (du.mk x.dj (bH.mk xa.1 x.bG.length xa.2))) U cb (aA 4 U) u U dc U U)<|ep U<|cj U fun T6 m=>AL U O0 fun b7=>aD (m _ _ (aP [1,2,3,4,5,6,7]) ?_)
 refine cj U fun T8 o=>fu U PU U<|aD (o _ _ (aP [1,2,3,4,5,6,7]) ?_)
 refine fH U<|KK j<|WS fun _ k=>rP 2 [] I ?_
 refine RK k<|aj fun _ K=>aB ?_
 have A:(0≤(0:Int)∧(0:Int)≤(fp (gh x s.Read) 86400001))∧((fp (gh x s.Read) 86400001)≤(86400001:Int)∧(86400001:Int)≤86400001):=by (have Z:=iz (p:=gh x s.Read) (n:=86400001); omega)
 refine bT (ι:={z:Int×Int // (0≤z.1∧z.1≤(fp (gh x s.Read) 86400001))∧((fp (gh x s.Read) 86400001)≤z.2∧z.2≤86400001)}) [2,3,4,6] [0,1,2,3,4,5,6,7] U U (fun z=>[(7,(vI z.1.1)),(8,(vI z.1.2))]) (fun z=>[]) (fun _=>rfl) (fun _=>rfl) (fun z=>(z.1.2-z.1.1).toNat) ⟨((0:Int),(86400001:Int)),A⟩ (bx U) (aP [0,1,2,3,4,5,6,7]) ?_
 clear A
 rintro ⟨⟨a,b⟩,⟨H,AB⟩⟩ J11 F
 try dsimp only at H AB
 try dsimp only
 have B:=hok.clock _ (aR hx)
 have Z:=iz (p:=gh x s.Read) (n:=86400001)
 have Y:=iz (p:=gl x s.Read) (n:=86400001)
 refine aj fun _ L=>WS fun _ M=>rP 3 [] I ?_
 refine RK M<|cu U (aU fun c=>?_) (aT fun c=>?_)
 ·refine WK L<|aB<|WS fun _ N=>bE 3 U<|rS (BI U (sR om om om))<|bE 1 U<|RK N<|aj fun _ O=>dg cp 9 kr<|dP 3 [] (mc 0 U I) ?_
  refine dS (CL (BD x xa.1 xa.2 ((a+b)/2) asm om) (aK (show iN _ (rd xa.1 x.bG.length 3 (x.bG.map cQ.cells)).holds from (cR 6 U (bM hx J (by simp [ay.gn]))))<|aM) U)<|dS (SX (rh (v:=(vI ((iv x ((a+b)/2)).Hi))) U U fE JV U) U U) ?_
  have t:=qJ B (show 0≤(a+b)/2∧(a+b)/2≤90000000 by omega)
  refine dP 4 [] (mc 2 U I) ?_
  refine cE<|RK O<|cu U (aU fun g=>?_) (aT fun g=>?_)
  ·refine aq<|rP 2 [] I ?_
   refine aD<|aL ?_
   refine a7 (F ⟨(a,((a+b)/2)),(by dsimp only; have hm:=kQ (r:=s.Read) B (x:=(a+b)/2) om om; rcases Int.lt_or_le ((a+b)/2) (fp (gh x s.Read) 86400001) with q|q; (have C:=hm.1 q; simp only [gh,decide_eq_false_iff_not] at C; omega); (have C:=hm.2.1 q; simp only [gh,decide_eq_true_eq] at C; omega))⟩ _ _ _ rfl (by simp only []; omega) (bx rfl) (aP [0,1,2,3,4,5,6,7]))
  refine aq<|rP 3 [] I ?_
  refine aD<|aL ?_
  refine a7 (F ⟨((((a+b)/2)+1),b),(by dsimp only; have hm:=kQ (r:=s.Read) B (x:=(a+b)/2) om om; rcases Int.lt_or_le ((a+b)/2) (fp (gh x s.Read) 86400001) with q|q; (have C:=hm.1 q; simp only [gh,decide_eq_false_iff_not] at C; omega); (have C:=hm.2.1 q; simp only [gh,decide_eq_true_eq] at C; omega))⟩ _ _ _ rfl (by simp only []; omega) (bx rfl) (aP [0,1,2,3,4,5,6,7]))
 refine bL<|ai<|ai<|aG<|KK K<|WS fun _ P=>bE 2 U<|RK P<|WS fun _ R=>rP 2 [] I ?_
 refine RK R<|aj fun _ S=>aB ?_
 have A:(-1≤((-1):Int)∧((-1):Int)≤(fp (gl x s.Read) 86400001)-1)∧((fp (gl x s.Read) 86400001)-1≤(86400000:Int)∧(86400000:Int)≤86400000):=by (have Y:=iz (p:=gl x s.Read) (n:=86400001); omega)
 refine bT (ι:={z:Int×Int // (-1≤z.1∧z.1≤(fp (gl x s.Read) 86400001)-1)∧((fp (gl x s.Read) 86400001)-1≤z.2∧z.2≤86400000)}) [2,3,4,6,10] [0,1,2,3,4,5,6,7] U U (fun z=>[(7,(vI z.1.1)),(8,(vI z.1.2))]) (fun z=>[]) (fun _=>rfl) (fun _=>rfl) (fun z=>(z.1.2-z.1.1).toNat) ⟨(((-1):Int),(86400000:Int)),A⟩ (bx U) (aP [0,1,2,3,4,5,6,7]) ?_
 clear A
 rintro ⟨⟨d,e⟩,⟨D,E⟩⟩ J20 G
 try dsimp only at D E
 try dsimp only
 have B:=hok.clock _ (aR hx)
 have Z:=iz (p:=gh x s.Read) (n:=86400001)
 have Y:=iz (p:=gl x s.Read) (n:=86400001)
 refine aj fun _ T=>WS fun _ AA=>rP 3 [] I ?_
 refine RK AA<|bQ U (aT fun f=>?_) (aU fun f=>?_)
 ·refine bL<|ai<|ai<|aG<|KK S<|WS fun _ X=>bE 2 U<|rS (SX (a_ (xs:=[(0,.tmp 63),(1,.tmp 64)]) (cs:=(ag.cells (ag.mk a d))) U U (bf gM U)) U U)<|bE 3 U<|rL U cS U<|rP 1 [] I ?_
  refine RK X<|ak<|my hQ [0] (mc 1 U I) U ?_
  have e0:cJ l s=⟨a,d⟩:=by (unfold cJ qv; rw [wL hy hx,show a=(fp (gh x s.Read) 86400001) by omega,show d=(fp (gl x s.Read) 86400001)-1 by omega])
  rw [e0]
 refine WK T<|aB<|WS fun _ V=>bE 4 U<|rS (BI U (sR om om om))<|bE 1 U<|RK V<|aj fun _ W=>dg cp 9 kr<|dP 3 [] (mc 0 U I) ?_
 refine dS (CL (BD x xa.1 xa.2 (((d+e)+1)/2) asm om) (aK (show iN _ (rd xa.1 x.bG.length 3 (x.bG.map cQ.cells)).holds from (cR 6 U (bM hx J (by simp [ay.gn]))))<|aM) U)<|dS (SX (rh (v:=(vI ((iv x (((d+e)+1)/2)).Lo))) U U fE Iu U) U U) ?_
 have t:=qJ B (show 0≤(d+e+1)/2∧(d+e+1)/2≤90000000 by omega)
 refine dP 4 [] (mc 2 U I) ?_
 refine cE<|RK W<|cu U (aU fun h=>?_) (aT fun h=>?_)
 ·refine aq<|rP 2 [] I ?_
  refine aD<|aL ?_
  refine a7 (G ⟨((((d+e)+1)/2),e),(by dsimp only; have hm:=kQ (r:=s.Read) B (x:=(d+e+1)/2) om om; rcases Int.lt_or_le ((d+e+1)/2) (fp (gl x s.Read) 86400001) with q|q; (have C:=hm.2.2.1 q; simp only [gl,decide_eq_false_iff_not] at C; omega); (have C:=hm.2.2.2 q; simp only [gl,decide_eq_true_eq] at C; omega))⟩ _ _ _ rfl (by simp only []; omega) (bx rfl) (aP [0,1,2,3,4,5,6,7]))
 refine aq<|rP 3 [] I ?_
 refine aD<|aL ?_
 refine a7 (G ⟨(d,((((d+e)+1)/2)-1)),(by dsimp only; have hm:=kQ (r:=s.Read) B (x:=(d+e+1)/2) om om; rcases Int.lt_or_le ((d+e+1)/2) (fp (gl x s.Read) 86400001) with q|q; (have C:=hm.2.2.1 q; simp only [gl,decide_eq_false_iff_not] at C; omega); (have C:=hm.2.2.2 q; simp only [gl,decide_eq_true_eq] at C; omega))⟩ _ _ _ rfl (by simp only []; omega) (bx rfl) (aP [0,1,2,3,4,5,6,7]))
end
section
open Go.RowKit
theorem o6 (n lo hi:Int):
 dx Tryz.prog 122 [(vI n),(vI lo),(vI hi)] [] (vB (decide (lo≤n∧n≤hi))):=by
 refine bB kr Tryz.func122 U U fun D Q hQ hN=>?_
 try dsimp only
 refine WS fun _ B=>bE 1 U<|RK B<|WS fun _ A=>rP 4 [] I ?_
 refine bU (t:=10) U (aU fun C=>?_) (aT fun C=>?_)
 ·refine rP 5 [] I ?_
  refine RK A<|ak<|Q1 hQ U U U ?_
  exact cB (gv.2 om)
 refine rP 5 [] I ?_
 refine RK A<|ak<|Q1 hQ U U U ?_
 exact cB (bD om).symm
theorem Et (r:cx) (sgA:OA) (sgC:Nat):
 dx Tryz.prog 141 [(vA (cN.cells (jf r sgA sgC)))] [(rd sgA r.aa.length 2 (r.aa.map aF.cells))] (vB (decide (mC r))):=by
 refine bB kr Tryz.func141 U U fun F Q hQ hN=>?_
 try dsimp only
 refine WS fun _ B=>er U fun E=>bE 1 U<|RK B<|WS fun _ A=>rP 4 [] (mc 0 U I) ?_
 refine ck (t:=6) U (aT fun C=>?_) (aU fun C=>?_)
 ·refine rP 11 [] I ?_
  refine RK A<|ak<|Q1 hQ U U U ?_
  simp only [mC]
  exact cB (bD om).symm
 refine rP 5 [] (mc 0 U I) ?_
 refine ck (t:=11) U (aT fun D=>?_) (aU fun D=>?_)
 ·refine rP 6 [] I ?_
  refine RK A<|ak<|Q1 hQ U U U ?_
  simp only [mC]
  exact cB (bD om).symm
 refine rP 6 [] (mc 0 U I) ?_
 refine RK A<|ak<|Q1 hQ U U U ?_
 simp only [mC]
 exact cB (gv.2 om)
theorem Mk (s:ag):
 dx Tryz.prog 142 [(vA (ag.cells s))] [] (vB (decide (lE s))):=by
 refine bB kr Tryz.func142 U U fun F Q hQ hN=>?_
 try dsimp only
 refine WS fun _ B=>er U fun E=>bE 1 U<|RK B<|WS fun _ A=>rP 4 [] (mc 0 U I) ?_
 refine ck (t:=6) U (aT fun C=>?_) (aU fun C=>?_)
 ·refine rP 12 [] I ?_
  refine RK A<|ak<|Q1 hQ U U U ?_
  simp only [lE]
  exact cB (bD om).symm
 refine rP 7 [] (mc 0 U I) ?_
 refine ck (t:=13) U (aT fun D=>?_) (aU fun D=>?_)
 ·refine rP 5 [] I ?_
  refine RK A<|ak<|Q1 hQ U U U ?_
  simp only [lE]
  exact cB (bD om).symm
 refine rP 5 [] (mc 0 U I) ?_
 refine RK A<|ak<|Q1 hQ U U U ?_
 simp only [lE]
 exact cB (gv.2 om)
theorem Ax (la:List Int) (laA:OA) (laC:Nat) (lb:List Int) (lbA:OA) (lbC:Nat) (h1:la.length≤1000000) (h2:lb.length≤1000000):
 dx Tryz.prog 38 [(vS laA la.length laC),(vS lbA lb.length lbC)] [(rd laA la.length 1 (la.map iC)),(rd lbA lb.length 1 (lb.map iC))] (vB (decide (la=lb))):=by
 refine bB kr Tryz.func38 U U fun V Q hQ hN=>?_
 try dsimp only
 refine WS fun _ J=>bE 1 U<|RK J<|aj fun _ K=>WS fun _ L=>rP 5 [] I ?_
 refine RK L<|cu U (bp fun hl=>?_) (bo fun hl=>?_)
 ·refine WS fun _ M=>rP 1 [] I ?_
  refine RK M<|ak<|Q1 hQ U U U ?_
  exact cB (bD (fun e=>by subst e; omega)).symm
 refine WK K<|aj fun _ N=>WS fun _ O=>rP 1 [] I ?_
 refine RK O<|aB ?_
 have A:(0≤la.length)∧(la.take 0=lb.take 0):=by simp
 refine bT (ι:={z:Nat // (z≤la.length)∧(la.take z=lb.take z)}) [0,1] [0,1] U U (fun z=>[(5,(vI (z.1:Int)))]) (fun z=>[]) (fun _=>rfl) (fun _=>rfl) (fun z=>la.length-z.1) ⟨0,A⟩ (bx U) (aP [0,1]) ?_
 clear A
 rintro ⟨i,⟨S,B⟩⟩ J7 AB
 try dsimp only
 refine aj fun _ P=>WS fun _ R=>rP 4 [] I ?_
 refine RK R<|bQ U (aT fun H=>?_) (aU fun H=>?_)
 ·refine bL<|ai<|ai<|aG<|KK N<|WS fun _ F=>rP 1 [] I ?_
  refine RK F<|ak<|Q1 hQ U U U ?_
  exact cB (dq (qI om B om)).symm
 refine WK P<|aj fun _ C=>aB<|aj fun _ D=>dg cp 9 kr<|dP 2 [] I ?_
 obtain ⟨x,hx⟩:=aJ la i om
 have T:=bK iC hx
 refine dS (IA i U (aA 0 U) dp dc om om)<|dS (hG i 0 (vI x) U cb (aA 0 U) T U dc U)<|dP 2 [] I ?_
 obtain ⟨y,hy⟩:=aJ lb i om
 have AA:=bK iC hy
 refine dS (IA i U (aA 1 U) dp dc om om)<|dS (hG i 0 (vI y) U cb (aA 1 U) AA U dc U)<|dP 1 [] I ?_
 refine cE<|RK D<|cu U (bp fun h=>?_) (bo fun h=>?_)
 ·refine WS fun _ E=>rP 1 [] I ?_
  refine RK E<|ak<|Q1 hQ U U U ?_
  exact cB (bD (qi hx hy h)).symm
 refine cf<|aL<|KK C<|aq<|rP 3 [] I ?_
 refine aD ?_
 have G:(vI (((i+1):Nat):Int))=(vI ((i:Int)+1)):=by exact cI om
 refine a7 (AB ⟨(i+1),⟨om,uV B hx hy h⟩⟩ _ _ _ U os (df.cons U<|df.cons U<|aX U G<|df.nil _) (aP [0,1]))
end
section
structure DD (w w':bS):Prop where
 start:w'.Start=w.Start
 now:w.fJ≤w'.fJ
 n:w'.n=w.n
 least: ∀ b,bY w' b≤bY w b
 times:w'.vn=w.vn
 NZ:w.eP≤w'.eP
 Qx:w.iI≤w'.iI
 sigs:w'.N_=w.N_
variable {w w':bS}
theorem DD.opt (h:DD w w') {b:Nat} {o:Int×ag} (ho:o∈iH w b): ∃ o'∈iH w' b,o'.1=o.1∧o'.2.Lo≤o.2.Lo∧o.2.Hi≤o'.2.Hi:=by
 unfold iH at ho
 rcases bO.1 ho with rfl|ho
 ·exact ⟨(-1,⟨w'.Start,w'.fJ⟩),ct ..,U,by simp only [h.start]; omega,h.now⟩
 ·refine ⟨o,dJ _ ?_,U,Int.le_refl _,Int.le_refl _⟩
  unfold tW at ho ⊢; rw [h.times]; exact ho
theorem DD.may (h:DD w w') {t:aC} (ht:ks w t=true):ks w' t=true:=by
 unfold ks at ht ⊢
 have:=of_decide_eq_true ht
 have A:=h.NZ
 have B:=h.Qx
 have C:=h.sigs
 exact dq om
theorem DD.fwd (h:DD w w'): ∀ (b:Nat) (p:aC×Int),p∈fwd w b→ ∃ p'∈Go.Proofs.YtijpnoadncadoaaGreatDoor.fwd w' b,p'.1=p.1∧p'.2≤p.2:=by
 intro b
 induction b with
 |zero=>
  intro p hp
  simp only [Go.Proofs.YtijpnoadncadoaaGreatDoor.fwd,cd] at hp ⊢
  subst hp
  exact ⟨_,U,U,by simp only [h.start]; omega⟩
 |succ b ih=>
  intro q hq
  obtain ⟨p,hp,o,ho,e⟩:=fO.1 hq
  obtain ⟨p',hp',A,D⟩:=ih p hp
  obtain ⟨o',ho',B,E,F⟩:=h.opt ho
  have hl:=h.least b
  have hn:=h.now
  unfold kK at e
  split at e
  ·rename_i C
   simp only [Option.some.injEq] at e
   subst e
   refine ⟨(dv p'.1 (e7 o'.1),max (p'.2+bY w' b) o'.2.Lo),fO.2 ⟨p',hp',o',ho',by unfold kK; rw [if_pos om]⟩,by simp only [A,B],by simp only; omega⟩
  ·cases e
theorem DD.bwd (h:DD w w'): ∀ (k:Nat) (p:aC×Int),p∈bwd w k→ ∃ p'∈Go.Proofs.YtijpnoadncadoaaGreatDoor.bwd w' k,p'.1=p.1∧p.2≤p'.2:=by
 intro k
 induction k with
 |zero=>
  intro p hp
  simp only [Go.Proofs.YtijpnoadncadoaaGreatDoor.bwd,cd] at hp ⊢
  subst hp
  exact ⟨_,U,U,h.now⟩
 |succ k ih=>
  intro q hq
  simp only [Go.Proofs.YtijpnoadncadoaaGreatDoor.bwd,bO,List.mem_flatMap,List.mem_filterMap] at hq ⊢
  rcases hq with rfl|⟨p,hp,o,ho,e⟩
  ·exact ⟨_,.inl U,U,h.now⟩
  ·obtain ⟨p',hp',A,D⟩:=ih p hp
   obtain ⟨o',ho',B,E,F⟩:=h.opt ho
   have hl:=h.least (w.n-(k+1))
   rw [h.n]
   unfold nM at e
   split at e
   ·rename_i C
    simp only [Option.some.injEq] at e
    subst e
    exact ⟨(dv p'.1 (e7 o'.1),min p'.2 o'.2.Hi-bY w' (w.n-(k+1))),.inr ⟨p',hp',o',ho',by unfold nM; rw [if_pos om]⟩,by simp only [A,B],by simp only; omega⟩
   ·cases e
theorem DD.back (h:DD w w') {b:Nat} {p:aC×Int} (hp:p∈back w b): ∃ p'∈Go.Proofs.YtijpnoadncadoaaGreatDoor.back w' b,p'.1=p.1∧p.2≤p'.2:=by
 unfold Go.Proofs.YtijpnoadncadoaaGreatDoor.back at hp ⊢
 rw [h.n]
 exact h.bwd _ p hp
theorem DD.pass (h:DD w w') {b:Nat} {q:Int×ag} (hq:q∈ml w b): ∃ q'∈ml w' b,q'.1=q.1∧q'.2.Lo≤q.2.Lo∧q.2.Hi≤q'.2.Hi:=by
 obtain ⟨o,ho,p,hp,u,hu,e⟩:=ir.1 hq
 obtain ⟨D,E,rfl⟩:=jq.1 e
 obtain ⟨o',ho',A,F,G⟩:=h.opt ho
 obtain ⟨p',hp',B,H⟩:=h.fwd _ p hp
 obtain ⟨u',hu',C,AA⟩:=h.back hu
 have hl:=h.least b
 simp only [jx] at D
 refine ⟨(o'.1,jx w' b p' u' o'),ir.2 ⟨o',ho',p',hp',u',hu',jq.2 ⟨?_,?_,U⟩⟩,A,?_,?_⟩
 ·simp only [jx]; omega
 ·have:=h.may E
  unfold w4 at this ⊢
  rw [A,B,C]; exact this
 ·simp only [jx]; omega
 ·simp only [jx]; omega
theorem oN {k:Int}:k∈gX w↔ ∃ i:Nat,k=(i:Int)∧i≤w.n∧jt w (fwd w i)=true:=by
 unfold gX ke
 simp only [cr,List.mem_filter,List.mem_range]
 constructor
 ·rintro ⟨i,⟨B,A⟩,rfl⟩; exact ⟨i,rfl,om,A⟩
 ·rintro ⟨i,rfl,B,A⟩; exact ⟨i,⟨om,A⟩,rfl⟩
theorem DD.Gl (h:DD w w') {k:Int} (hk:k∈gX w):k∈gX w':=by
 obtain ⟨i,rfl,C,A⟩:=oN.1 hk
 refine oN.2 ⟨i,U,by rw [h.n]; exact C,?_⟩
 unfold jt at A ⊢
 obtain ⟨p,hp,D⟩:=List.any_eq_true.1 A
 obtain ⟨p',hp',B,_⟩:=h.fwd _ p hp
 exact List.any_eq_true.2 ⟨p',hp',by rw [B]; exact h.may D⟩
/-- two rides, of two lines, of which one allows more -/
structure Ss (l:bg) (r:cx) (l':bg) (r':cx):Prop where
 line:dw l=0
 line':dw l'=0
 jy:dR l r
 ride':dR l' r'
 w:DD (bW l r) (bW l' r')
 Nn:l'.ab.length=l.ab.length
variable {l l':bg} {r r':cx}
theorem Ss.ok (h:Ss l r l' r') (he:dF l r 0=0):dF l' r' 0=0:=by
 refine kP h.line' h.ride' U fun e=>?_
 obtain ⟨k,hk⟩:=List.exists_mem_of_ne_nil _ (iw he).2.2.2
 have:=h.w.Gl hk
 rw [e] at this; cases this
theorem Ss.CF (h:Ss l r l' r') {k:Int} (hk:k∈g4 l r):k∈g4 l' r':=by
 by_cases he:dF l r 0=0
 ·rw [j2 he] at hk
  rw [j2 (h.ok he)]
  exact h.w.Gl hk
 ·rw [mW he] at hk; cases hk
theorem Fj {b:Nat} (hb:b<l.ab.length):dF l r (jn l b)=dF l r 0:=by rw [sP om]
theorem yx {b:Nat}:bY (bW l r) b=if b<l.ab.length then dV l b else 0:=by
 unfold bY bW b_
 split
 ·rename_i h
  simp [h]
 ·rename_i h
  simp [h]
theorem E7 {sg:List aF} {i:Nat} (h:i=0):kv sg i=⟨-1,0⟩:=by subst h; rfl
theorem rf {sg:List aF} {i:Nat} {y:aF} (h:0<i) (hy:sg[i-1]? =some y):kv sg i=y:=by unfold kv; rw [if_neg om,hy]; rfl
def O9 (l:bg):Prop:= ¬ mA l∧dw l=0
noncomputable instance (l:bg):Decidable (O9 l):=Classical.propDecidable _
end
section
/-- where a sled may be after k beams more -/
def fW (w:bS):Nat→Nat→aC×Int→List (aC×Int)
 |0,_,p=>[p]
 |k+1,b,p=>(iH w b).flatMap fun o=>match kK w b p o with
  |some q=>fW w k (b+1) q
  |none=>[]
variable {w:bS}
theorem im {k b:Nat} {p q:aC×Int}:q∈fW w (k+1) b p↔ ∃ o∈iH w b,∃ p',kK w b p o=some p'∧q∈fW w k (b+1) p':=by
 simp only [fW,List.mem_flatMap]
 constructor
 ·rintro ⟨o,ho,h⟩
  cases e:kK w b p o with
  |none=>rw [e] at h; cases h
  |some p'=>rw [e] at h; exact ⟨o,ho,p',e,h⟩
 ·rintro ⟨o,ho,p',e,h⟩
  exact ⟨o,ho,by rw [e]; exact h⟩
theorem q8: ∀ (k b:Nat) (q:aC×Int),q∈fwd w (b+k)↔ ∃ p∈fwd w b,q∈fW w k b p:=by
 intro k
 induction k with
 |zero=>
  intro b q
  simp only [Nat.add_zero,fW,cd]
  exact ⟨fun h=>⟨q,h,rfl⟩,fun ⟨p,hp,e⟩=>e▸hp⟩
 |succ k ih=>
  intro b q
  rw [show b+(k+1)=(b+1)+k by omega,ih]
  constructor
  ·rintro ⟨p',hp',h⟩
   obtain ⟨p,hp,o,ho,e⟩:=fO.1 hp'
   exact ⟨p,hp,im.2 ⟨o,ho,p',e,h⟩⟩
  ·rintro ⟨p,hp,h⟩
   obtain ⟨o,ho,p',e,h'⟩:=im.1 h
   exact ⟨p',fO.2 ⟨p,hp,o,ho,e⟩,h'⟩
theorem gP {b:Nat} {p q:aC×Int} {o:Int×ag}:kK w b p o=some q↔max (p.2+bY w b) o.2.Lo≤min o.2.Hi w.fJ∧q=(dv p.1 (e7 o.1),max (p.2+bY w b) o.2.Lo):=by
 unfold kK
 split
 ·rename_i h
  constructor
  ·intro e; cases e; exact ⟨h,rfl⟩
  ·rintro ⟨_,rfl⟩; rfl
 ·rename_i h
  constructor
  ·intro e; cases e
  ·rintro ⟨h',_⟩; exact absurd h' h
theorem um {b:Nat} {p q:aC×Int} {o:Int×ag}:nM w b p o=some q↔o.2.Lo≤min p.2 o.2.Hi∧q=(dv p.1 (e7 o.1),min p.2 o.2.Hi-bY w b):=by
 unfold nM
 split
 ·rename_i h
  constructor
  ·intro e; cases e; exact ⟨h,rfl⟩
  ·rintro ⟨_,rfl⟩; rfl
 ·rename_i h
  constructor
  ·intro e; cases e
  ·rintro ⟨h',_⟩; exact absurd h' h
theorem FB {b:Nat} (hb:b≤w.n):((⟨0,0⟩:aC),w.fJ)∈back w b:=by
 rcases Nat.lt_or_ge b w.n with h|h
 ·exact (oP h).2 (.inl U)
 ·rw [uv h]; simp
theorem mQ (t:aC):dv t ⟨0,0⟩=t:=by cases t; simp [dv]
theorem yr (a o u:aC):dv (dv a o) u=dv a (dv u o):=by simp only [dv,aC.mk.injEq]; omega
theorem EH (hl: ∀ b,0≤bY w b): ∀ (k:Nat) (u:aC×Int),u∈bwd w k→u.2≤w.fJ:=by
 intro k
 induction k with
 |zero=>intro u hu; simp only [bwd,cd] at hu; subst hu; exact Int.le_refl _
 |succ k ih=>
  intro u hu
  simp only [bwd,bO,List.mem_flatMap,List.mem_filterMap] at hu
  rcases hu with rfl|⟨p,hp,o,ho,e⟩
  ·exact Int.le_refl _
  ·obtain ⟨_,rfl⟩:=um.1 e
   have:=ih p hp
   have:=hl (w.n-(k+1))
   simp only; omega
/-- what follows a passing is told by the way back -/
theorem Lj: ∀ (k b:Nat) (p q:aC×Int),b+k≤w.n→p.2≤w.fJ→q∈fW w k b p→ ∃ u∈back w b,p.2≤u.2∧q.1=dv p.1 u.1:=by
 intro k
 induction k with
 |zero=>
  intro b p q hb hp hq
  simp only [fW,cd] at hq
  subst hq
  exact ⟨_,FB om,hp,(mQ _).symm⟩
 |succ k ih=>
  intro b p q hb hp hq
  obtain ⟨o,ho,p',e,h⟩:=im.1 hq
  obtain ⟨C,rfl⟩:=gP.1 e
  obtain ⟨u',hu',B,A⟩:=ih (b+1) _ q om (by simp only; omega) h
  simp only at B A
  refine ⟨(dv u'.1 (e7 o.1),min u'.2 o.2.Hi-bY w b),(oP om).2 (.inr ⟨u',hu',o,ho,um.2 ⟨om,U⟩⟩),by simp only; omega,?_⟩
  rw [A,yr]
theorem H7 (hl: ∀ b,0≤bY w b): ∀ (d b:Nat) (p u:aC×Int),w.n=b+d→p.2≤u.2→u∈back w b→ ∃ k,b+k≤w.n∧ ∃ q∈fW w k b p,q.1=dv p.1 u.1:=by
 intro d
 induction d with
 |zero=>
  intro b p u hd hp hu
  rw [uv om] at hu
  simp only [cd] at hu
  subst hu
  exact ⟨0,om,p,by simp [fW],(mQ _).symm⟩
 |succ d ih=>
  intro b p u hd hp hu
  rcases (oP om).1 hu with rfl|⟨u',hu',o,ho,e⟩
  ·exact ⟨0,om,p,by simp [fW],(mQ _).symm⟩
  ·obtain ⟨B,rfl⟩:=um.1 e
   have hn:u'.2≤w.fJ:=EH hl _ _ hu'
   simp only at hp
   obtain ⟨k,hk,q,hq,A⟩:=ih (b+1) (dv p.1 (e7 o.1),max (p.2+bY w b) o.2.Lo) u' om (by simp only; omega) hu'
   refine ⟨k+1,om,q,im.2 ⟨o,ho,_,gP.2 ⟨om,U⟩,hq⟩,?_⟩
   rw [A]; simp only; rw [yr]
end
section
section
variable {l:bg} {r:cx} {one at_:Int} {d:Nat} {f g m:Int} {rec:Int→Int→Int→Bool} {i:Int}
end
theorem qK {l:bg} {r:cx} {d:Nat} (hd:d<l.ab.length) {o:Int×ag}:o∈iH (bW l r) d↔o=(-1,⟨r.Start,r.fJ⟩)∨ ∃ k,k<r.aa.length∧ ∃ s,r.aa[k]? =some s∧(s.eZ=(d:Int)∧(cJ l s).Lo≤(cJ l s).Hi)∧o=((k:Int),cJ l s):=by
 unfold iH tW
 show o∈(-1,(⟨r.Start,r.fJ⟩:ag))::((cG l r.aa r.aa.length)[d]?).getD []↔_
 rw [oL hd,Option.getD_some,bO,rZ]
theorem pG {l:bg} {r:cx} {d:Nat} (hd:d<l.ab.length):bY (bW l r) d=dV l d:=by rw [yx,if_pos hd]
theorem uX {l:bg} {n d:Nat} {y:Int} (h:(b_ l n)[d]? =some y):y=dV l d:=by
 unfold b_ at h
 rw [fz] at h
 have hd:d<n:=by
  rcases Nat.lt_or_ge d n with q|q
  ·exact q
  ·rw [List.getElem?_eq_none (by simpa using q)] at h; cases h
 rw [List.getElem?_range hd] at h
 exact (Option.some.inj h).symm
end
section
def CE (w:bS) (b:Nat) (i:Int):Prop:= ∃ b',b'<b∧ ∃ q∈ml w b',q.1=i
noncomputable instance (w:bS) (b:Nat) (i:Int):Decidable (CE w b i):=Classical.propDecidable _
noncomputable def zq (w:bS) (n:Nat):List Int:=((List.range n).map fun (k:Nat)=>(k:Int)).filter fun i=> !decide (CE w w.n i)
noncomputable def JO (l:bg) (r:cx):List Int:=if dF l r 0=0 then zq (bW l r) r.aa.length else []
theorem FK {l:bg} {r:cx} (h:dF l r 0=0):JO l r=zq (bW l r) r.aa.length:=if_pos h
def tQ (w:bS) (b:Nat):Bool:=(ml w b).any fun q=>decide (0≤q.1)
def vV (w:bS) (k:Nat):List Int:=((List.range k).filter fun b=> !tQ w b).map fun (b:Nat)=>(b:Int)
noncomputable def tS (l:bg) (r:cx):List Int:=if dF l r 0=0 then vV (bW l r) (nt (g4 l r)).toNat else []
theorem sh {l:bg} {r:cx} (h:dF l r 0=0):tS l r=vV (bW l r) (nt (g4 l r)).toNat:=if_pos h
theorem xb {l:bg} {r:cx} (h: ¬ dF l r 0=0):tS l r=[]:=if_neg h
theorem CO {w:bS} {n:Nat} {i:Int}:i∈zq w n↔(0≤i∧i<(n:Int))∧ ¬ CE w w.n i:=by
 unfold zq
 rw [List.mem_filter,cr]
 simp only [Bool.not_eq_true',decide_eq_false_iff_not]
 constructor
 ·rintro ⟨⟨k,hk,rfl⟩,A⟩
  have:=List.mem_range.1 hk
  exact ⟨om,A⟩
 ·rintro ⟨B,A⟩
  exact ⟨⟨i.toNat,List.mem_range.2 om,om⟩,A⟩
theorem Q6 {l:bg} {r:cx} (h:dF l r 0=0):0≤nt (g4 l r)∧nt (g4 l r)≤(l.ab.length:Int):=by
 have A:=(E4 (uO h)).1
 rw [j2 h] at A ⊢
 obtain ⟨i,e,hi,_⟩:=oN.1 A
 have hn:(bW l r).n=l.ab.length:=cP
 omega
end
section
/-- a truth goes on from here -/
def si (w:bS) (b:Nat) (p:aC×Int):Prop:= ∃ k,b+k≤w.n∧ ∃ q∈fW w k b p,ks w q.1=true
/-- a truth may have come here, or earlier -/
def Cd (w:bS) (b:Nat) (p:aC×Int):Prop:= ∃ v,(p.1,v)∈fwd w b∧v≤p.2
def Iw (n:Int) (p:aC×Int):aC×Int:=(p.1,p.2+n)
section
variable {w:bS}
theorem GK: ∀ (k j b:Nat) (p q z:aC×Int),q∈fW w k b p→z∈fW w j (b+k) q→z∈fW w (k+j) b p:=by
 intro k
 induction k with
 |zero=>
  intro j b p q z A B
  simp only [fW,cd] at A
  subst A
  rw [Nat.zero_add]; exact B
 |succ k ih=>
  intro j b p q z A B
  obtain ⟨o,ho,p',e,h⟩:=im.1 A
  rw [show k+1+j=(k+j)+1 by omega]
  exact im.2 ⟨o,ho,p',e,ih j (b+1) p' q z h (by rw [show b+1+k=b+(k+1) by omega]; exact B)⟩
theorem BZ: ∀ (k b:Nat) (t:aC) (x y:Int) (q:aC×Int),y≤x→q∈fW w k b (t,x)→ ∃ q'∈fW w k b (t,y),q'.1=q.1∧q'.2≤q.2:=by
 intro k
 induction k with
 |zero=>
  intro b t x y q A hq
  simp only [fW,cd] at hq ⊢
  subst hq
  exact ⟨_,U,U,A⟩
 |succ k ih=>
  intro b t x y q A hq
  obtain ⟨o,ho,p',e,h⟩:=im.1 hq
  obtain ⟨B,rfl⟩:=gP.1 e
  simp only at B h
  obtain ⟨q',hq',C,D⟩:=ih (b+1) _ _ (max (y+bY w b) o.2.Lo) q om h
  exact ⟨q',im.2 ⟨o,ho,_,gP.2 ⟨by simp only; omega,U⟩,hq'⟩,C,D⟩
theorem xB {b:Nat} {t:aC} {x y:Int} (h:si w b (t,x)) (hy:y≤x):si w b (t,y):=by
 obtain ⟨k,hk,q,hq,hm⟩:=h
 obtain ⟨q',hq',e,_⟩:=BZ k b t x y q hy hq
 exact ⟨k,hk,q',hq',by rw [e]; exact hm⟩
theorem uL {k b:Nat} {p q:aC×Int} (h:q∈fW w k b p) (hv:si w (b+k) q):si w b p:=by
 obtain ⟨j,hj,z,hz,hm⟩:=hv
 exact ⟨k+j,om,z,GK k j b p q z h hz,hm⟩
theorem FX {b:Nat} {p q:aC×Int} {o:Int×ag} (h:Cd w b p) (ho:o∈iH w b) (e:kK w b p o=some q):Cd w (b+1) q:=by
 obtain ⟨v,hv,A⟩:=h
 obtain ⟨B,rfl⟩:=gP.1 e
 exact ⟨max (v+bY w b) o.2.Lo,fO.2 ⟨_,hv,o,ho,gP.2 ⟨by simp only; omega,U⟩⟩,by simp only; omega⟩
theorem AJ {b:Nat} {p:aC×Int} (h:p∈fwd w b):Cd w b p:=⟨p.2,h,Int.le_refl _⟩
theorem yK (hl: ∀ b,0≤bY w b): ∀ (b:Nat) (p:aC×Int),p∈fwd w b→w.Start≤p.2:=by
 intro b
 induction b with
 |zero=>intro p hp; simp only [fwd,cd] at hp; subst hp; exact Int.le_refl _
 |succ b ih=>
  intro q hq
  obtain ⟨p,hp,o,ho,e⟩:=fO.1 hq
  obtain ⟨_,rfl⟩:=gP.1 e
  have:=ih p hp
  have:=hl b
  simp only; omega
/-- a beam is passed at a time, by a signal -/
def v9 (w:bS) (b:Nat) (s t:Int):Prop:= ∃ p∈fwd w b,∃ o∈iH w b,o.1=s∧(max (p.2+bY w b) o.2.Lo≤t∧t≤min o.2.Hi w.fJ)∧si w (b+1) (dv p.1 (e7 o.1),t)
theorem vK (hl: ∀ b,0≤bY w b) {b:Nat} (hb:b<w.n) {s t:Int}:(∃ q∈ml w b,q.1=s∧q.2.Lo≤t∧t≤q.2.Hi)↔v9 w b s t:=by
 constructor
 ·rintro ⟨q,hq,hs,C,D⟩
  obtain ⟨o,ho,p,hp,u,hu,e⟩:=ir.1 hq
  obtain ⟨B,A,rfl⟩:=jq.1 e
  simp only [jx] at C D B
  have hn:u.2≤w.fJ:=EH hl _ _ hu
  obtain ⟨k,hk,q,hq',E⟩:=H7 hl (w.n-(b+1)) (b+1) (dv p.1 (e7 o.1),t) u om (by simp only; omega) hu
  refine ⟨p,hp,o,ho,hs,⟨om,om⟩,k,hk,q,hq',?_⟩
  rw [E]
  unfold w4 at A
  rw [show dv (dv p.1 (e7 o.1)) u.1=dv (dv p.1 u.1) (e7 o.1) by simp only [dv,aC.mk.injEq]; omega]
  exact A
 ·rintro ⟨p,hp,o,ho,hs,⟨C,D⟩,k,hk,q,hq,hm⟩
  obtain ⟨u,hu,B,A⟩:=Lj k (b+1) _ q hk (by simp only; omega) hq
  simp only at B A
  refine ⟨(o.1,jx w b p u o),ir.2 ⟨o,ho,p,hp,u,hu,jq.2 ⟨by simp only [jx]; omega,?_,U⟩⟩,hs,by simp only [jx]; omega,by simp only [jx]; omega⟩
  unfold w4
  rw [A] at hm
  rw [show dv (dv p.1 u.1) (e7 o.1)=dv (dv p.1 (e7 o.1)) u.1 by simp only [dv,aC.mk.injEq]; omega]
  exact hm
end
structure xY (w w':bS) (n:Int) (f:Int→Int):Prop where
 start:w'.Start=w.Start+n
 now:w'.fJ=w.fJ+n
 wn:w'.n=w.n
 low: ∀ b,0≤bY w b
 least: ∀ b,bY w' b=bY w b
 may: ∀ t,ks w t=true→ks w' t=true
 Uk: ∀ s,0≤f s↔0≤s
 opt: ∀ (b:Nat) (p:aC×Int) (o:Int×ag),b<w.n→w.Start≤p.2→Cd w b p→o∈iH w b→max (p.2+bY w b) o.2.Lo≤min o.2.Hi w.fJ→si w (b+1) (dv p.1 (e7 o.1),max (p.2+bY w b) o.2.Lo)→
  ∃ o'∈iH w' b,o'.1=f o.1∧ ∀ t,w.Start≤t→t≤w.fJ→((o.2.Lo≤t∧t≤o.2.Hi)↔(o'.2.Lo≤t+n∧t+n≤o'.2.Hi))
section
variable {w w':bS} {n:Int} {f g:Int→Int}
theorem xY.one (h:xY w w' n f) (s:Int):e7 (f s)=e7 s:=by
 unfold e7
 have:=h.Uk s
 by_cases q:s<0
 ·rw [if_pos q,if_pos om]
 ·rw [if_neg q,if_neg om]
theorem xY.step (h:xY w w' n f) {b:Nat} {p q:aC×Int} {o:Int×ag} (hb:b<w.n) (hs:w.Start≤p.2) (hl:Cd w b p) (ho:o∈iH w b) (e:kK w b p o=some q) (hv:si w (b+1) q):
 ∃ o'∈iH w' b,kK w' b (Iw n p) o'=some (Iw n q):=by
 obtain ⟨E,rfl⟩:=gP.1 e
 obtain ⟨o',ho',D,A⟩:=h.opt b p o hb hs hl ho E hv
 have F:=h.low b
 have B:=A (max (p.2+bY w b) o.2.Lo) om om
 have C:=A (max (p.2+n+bY w b) o'.2.Lo-n) om
 refine ⟨o',ho',gP.2 ?_⟩
 simp only [Iw,h.least,h.now]
 rw [D,h.one]
 have G:=B.1 om
 have H:=(C om).2 om
 refine ⟨om,?_⟩
 simp only [Prod.mk.injEq,true_and]
 omega
theorem xY.reach (h:xY w w' n f): ∀ (k b:Nat) (p q:aC×Int),b+k≤w.n→w.Start≤p.2→Cd w b p→q∈fW w k b p→si w (b+k) q→Iw n q∈fW w' k b (Iw n p):=by
 intro k
 induction k with
 |zero=>
  intro b p q _ _ _ hq _
  simp only [fW,cd] at hq ⊢
  rw [hq]
 |succ k ih=>
  intro b p q hb hs hl hq hv
  obtain ⟨o,ho,p',e,hq'⟩:=im.1 hq
  have hv':si w (b+1) p':=uL hq' (by rw [show b+1+k=b+(k+1) by omega]; exact hv)
  obtain ⟨o',ho',e'⟩:=h.step om hs hl ho e hv'
  have A:=gP.1 e
  have B:=h.low b
  exact im.2 ⟨o',ho',_,e',ih (b+1) p' q om (by rw [A.2]; simp only; omega) (FX hl ho e) hq' (by rw [show b+1+k=b+(k+1) by omega]; exact hv)⟩
theorem xY.OR (h:xY w w' n f) {b:Nat} {p:aC×Int} (hs:w.Start≤p.2) (hl:Cd w b p) (hv:si w b p):si w' b (Iw n p):=by
 obtain ⟨k,hk,q,hq,hm⟩:=hv
 exact ⟨k,by rw [h.wn]; exact hk,_,h.reach k b p q hk hs hl hq ⟨0,om,q,by simp [fW],hm⟩,h.may _ hm⟩
theorem xY.fwd (h:xY w w' n f) {b:Nat} {q:aC×Int} (hb:b≤w.n) (hq:q∈fwd w b) (hv:si w b q):Iw n q∈Go.Proofs.YtijpnoadncadoaaGreatDoor.fwd w' b:=by
 obtain ⟨p,hp,hr⟩:=(q8 b 0 q).1 (by rw [Nat.zero_add]; exact hq)
 have hr':=h.reach b 0 p q om (yK h.low 0 p hp) (AJ hp) hr (by rw [Nat.zero_add]; exact hv)
 have:Iw n p∈Go.Proofs.YtijpnoadncadoaaGreatDoor.fwd w' 0:=by
  simp only [Go.Proofs.YtijpnoadncadoaaGreatDoor.fwd,cd] at hp ⊢
  subst hp
  rw [h.start]; rfl
 have A:=(q8 b 0 (Iw n q)).2 ⟨_,this,hr'⟩
 rwa [Nat.zero_add] at A
theorem xY.any (h:xY w w' n f) {b:Nat} (hb:b≤w.n) (hm:jt w (Go.Proofs.YtijpnoadncadoaaGreatDoor.fwd w b)=true):jt w' (Go.Proofs.YtijpnoadncadoaaGreatDoor.fwd w' b)=true:=by
 unfold jt at hm ⊢
 obtain ⟨p,hp,A⟩:=List.any_eq_true.1 hm
 exact List.any_eq_true.2 ⟨_,h.fwd hb hp ⟨0,om,p,by simp [fW],A⟩,h.may _ A⟩
theorem xY.pass (h:xY w w' n f) {b:Nat} (hb:b<w.n) {s t:Int} (hp:v9 w b s t):v9 w' b (f s) (t+n):=by
 obtain ⟨p,hp,o,ho,rfl,⟨D,G⟩,hv⟩:=hp
 have hs:=yK h.low b p hp
 have hl:=h.low b
 have A:si w (b+1) (dv p.1 (e7 o.1),max (p.2+bY w b) o.2.Lo):=xB hv D
 have e:kK w b p o=some (dv p.1 (e7 o.1),max (p.2+bY w b) o.2.Lo):=gP.2 ⟨om,rfl⟩
 have B:si w b p:=uL (k:=1) (im.2 ⟨o,ho,_,e,by simp [fW]⟩) A
 obtain ⟨o',ho',C,E⟩:=h.opt b p o hb hs (AJ hp) ho om A
 have c:=(E t om om).1 om
 refine ⟨Iw n p,h.fwd om hp B,o',ho',C,?_,?_⟩
 ·simp only [Iw,h.least,h.now]; omega
 ·have F:=h.OR (b:=b+1) (p:=(dv p.1 (e7 o.1),t)) (by simp only; omega) ⟨_,fO.2 ⟨p,hp,o,ho,e⟩,D⟩ hv
  rw [C,h.one]; exact F
theorem G7 (h:xY w w' n f) (h':xY w' w (-n) g):gX w'=gX w:=by
 unfold gX
 rw [h.wn]
 unfold ke
 congr 1
 refine List.filter_congr fun b hb=>?_
 have hb:=List.mem_range.1 hb
 rw [Bool.eq_iff_iff]
 exact ⟨h'.any (by rw [h.wn]; omega),h.any om⟩
theorem AA (h:xY w w' n f) (hl': ∀ b,0≤bY w' b) {b:Nat} (hb:b<w.n) {s:Int} (hq: ∃ q∈ml w b,q.1=s): ∃ q∈ml w' b,q.1=f s:=by
 obtain ⟨q,hq,e⟩:=hq
 have A:q.2.Lo≤q.2.Hi:=mM hq
 obtain ⟨q',hq',e',_⟩:=(vK hl' (by rw [h.wn]; exact hb)).2 (h.pass hb ((vK h.low hb).1 ⟨q,hq,e,Int.le_refl _,A⟩))
 exact ⟨q',hq',e'⟩
theorem E6 (h:xY w w' n f) (h':xY w' w (-n) g) {b:Nat} (hb:b<w.n):tQ w' b=tQ w b:=by
 rw [Bool.eq_iff_iff]
 unfold tQ
 simp only [List.any_eq_true,decide_eq_true_eq]
 constructor
 ·rintro ⟨q,hq,A⟩
  obtain ⟨q',hq',e⟩:=AA h' h.low (by rw [h.wn]; exact hb) ⟨q,hq,rfl⟩
  exact ⟨q',hq',by rw [e]; exact (h'.Uk _).2 A⟩
 ·rintro ⟨q,hq,A⟩
  obtain ⟨q',hq',e⟩:=AA h h'.low hb ⟨q,hq,rfl⟩
  exact ⟨q',hq',by rw [e]; exact (h.Uk _).2 A⟩
end
section
variable {l l':bg} {r r':cx} {n:Int} {f g:Int→Int}
structure vu (l:bg) (r:cx) (l':bg) (r':cx) (n:Int) (f g:Int→Int):Prop where
 line:dw l=0
 line':dw l'=0
 jy:dR l r
 ride':dR l' r'
 Nn:l'.ab.length=l.ab.length
 to:xY (bW l r) (bW l' r') n f
 UB:xY (bW l' r') (bW l r) (-n) g
theorem vu.Gl (h:vu l r l' r' n f g):gX (bW l' r')=gX (bW l r):=G7 h.to h.UB
theorem vu.e (h:vu l r l' r' n f g) {me:Int}:dF l' r' me=dF l r me:=by
 by_cases hm:me=0
 ·by_cases q:gX (bW l r)=[]
  ·rw [gQ h.line h.jy hm q,gQ h.line' h.ride' hm (h.Gl.trans q)]
  ·rw [kP h.line h.jy hm q,kP h.line' h.ride' hm (by rw [h.Gl]; exact q)]
 ·rw [qN h.line h.jy hm,qN h.line' h.ride' hm]
theorem vu.CF (h:vu l r l' r' n f g):g4 l' r'=g4 l r:=by
 by_cases q:dF l r 0=0
 ·rw [j2 q,j2 (h.e.trans q),h.Gl]
 ·rw [mW q,mW (by rw [h.e]; exact q)]
theorem vu.sZ (h:vu l r l' r' n f g) {b:Int}:jn l' b=jn l b:=by unfold jn; rw [h.Nn]
theorem vu.bn (h:vu l r l' r' n f g):(bW l r).n=l.ab.length:=cP
theorem vu.eG (h:vu l r l' r' n f g):tS l' r'=tS l r:=by
 by_cases q:dF l r 0=0
 ·rw [sh q,sh (h.e.trans q),h.CF]
  have hb:=Q6 q
  unfold vV
  congr 1
  refine List.filter_congr fun b A=>?_
  have A:=List.mem_range.1 A
  rw [E6 h.to h.UB (by rw [h.bn]; omega)]
 ·rw [xb q,xb (by rw [h.e]; exact q)]
end
end
section
theorem mT {l:bg} (ht:c8 l.aV=true) (h:kZ l) {i:Nat} (hi:i<l.ab.length):1≤dV l i∧dV l i≤500000000:=by
 have A:=h.Pv i hi
 have B:=Aj ht h.sZ i
 have hf:=h.head.1
 unfold dV oE
 refine ⟨(Int.le_ediv_iff_mul_le om).2 om,?_⟩
 have:(1000*kY l i+l.ku-1)/l.ku≤1000*kY l i+l.ku-1:=Int.ediv_le_self _ om
 omega
end
section
def db (good:List Int):aC:=good.foldl (fun t g=>dv t (e7 g)) ⟨0,0⟩
theorem jT {l:List Int} {g:Int}:db (l++[g])=dv (db l) (e7 g):=by unfold db; rw [List.foldl_append]; rfl
def t_ (r:cx) (times:List Int) (b:Nat):Int:=if b=0 then r.Start else (times[b-1]?).getD 0
theorem pI {r:cx} {times:List Int} {b:Nat} {t:Int} (h:times[b]? =some t):t_ r times (b+1)=t:=by unfold t_; rw [if_neg om,Nat.add_sub_cancel,h]; rfl
structure iK (l:bg) (r:cx) (times good:List Int):Prop where
 jy:dR l r
 len:good.length=times.length
 le:times.length≤l.ab.length
 step: ∀ (b:Nat) t,times[b]? =some t→t_ r times b+dV l b≤t∧t≤r.fJ
 sig: ∀ (b:Nat) t g,times[b]? =some t→good[b]? =some g→g= -1∨ ∃ (k:Nat) (s:aF),g=(k:Int)∧r.aa[k]? =some s∧s.eZ=(b:Int)∧(cJ l s).Lo≤t∧t≤(cJ l s).Hi
 Ja:(db good).eG≤l.eP
 Rl:(r.aa.length:Int)-(db good).right≤l.iI
section
variable {l:bg} {r:cx} {times good:List Int}
theorem iK.low (h:iK l r times good) (hl:dw l=0): ∀ b,0≤bY (bW l r) b:=fun b=>by
 obtain ⟨ht,A⟩:=dK hl
 exact ((lg ht A h.jy).bY b).1
theorem iK.least (h:iK l r times good) {b:Nat} (hb:b<times.length):bY (bW l r) b=dV l b:=by
 have:=h.le
 rw [yx,if_pos om]
theorem iK.from_ (h:iK l r times good) (hl:dw l=0): ∀ b:Nat,b≤times.length→r.Start≤t_ r times b∧t_ r times b≤r.fJ:=by
 intro b
 induction b with
 |zero=>intro _; have:=h.jy.time; unfold t_; rw [if_pos rfl]; omega
 |succ b ih=>
  intro hb
  have ht:times[b]? =some (times[b]'om):=e_ _
  have B:=ih om
  have C:=h.step b _ ht
  have A:=h.low hl b
  rw [h.least om] at A
  rw [pI ht]
  omega
/-- what comes next, in the truth -/
theorem iK.opt (h:iK l r times good) (hl:dw l=0) {b:Nat} {t g:Int} (ht:times[b]? =some t) (hg:good[b]? =some g): ∃ o∈iH (bW l r) b,o.1=g∧o.2.Lo≤t∧t≤o.2.Hi:=by
 have hb:=(aW.1 ht).1
 have E:=h.le
 have F:=h.step b t ht
 have G:=h.from_ hl b om
 have B:=h.low hl b
 rw [h.least hb] at B
 rcases h.sig b t g ht hg with rfl|⟨k,s,rfl,hs,A,C,D⟩
 ·exact ⟨(-1,⟨r.Start,r.fJ⟩),(qK om).2 (.inl U),U,by simp only; omega,by simp only; omega⟩
 ·exact ⟨((k:Int),cJ l s),(qK om).2 (.inr ⟨k,(aW.1 hs).1,s,hs,⟨A,om⟩,U⟩),U,C,D⟩
theorem lB {α:Type} {l:List α} {b:Nat} {x:α} (h:l[b]? =some x):l.take (b+1)=l.take b++[x]:=by rw [List.take_add_one,h]; rfl
theorem iK.live (h:iK l r times good) (hl:dw l=0): ∀ b:Nat,b≤times.length→Cd (bW l r) b (db (good.take b),t_ r times b):=by
 intro b
 induction b with
 |zero=>intro _; exact ⟨r.Start,by simp [fwd,db]; rfl,by unfold t_; rw [if_pos rfl]; exact Int.le_refl _⟩
 |succ b ih=>
  intro hb
  have B:=h.len
  have ht:times[b]? =some (times[b]'om):=e_ _
  have hg:good[b]? =some (good[b]'om):=e_ _
  obtain ⟨v,hv,A⟩:=ih om
  obtain ⟨o,ho,e,C,D⟩:=h.opt hl ht hg
  have E:=h.step b _ ht
  have F:=h.least (b:=b) om
  simp only at A hv
  rw [pI ht,lB hg,jT,← e]
  refine ⟨max (v+bY (bW l r) b) o.2.Lo,fO.2 ⟨_,hv,o,ho,gP.2 ⟨?_,U⟩⟩,?_⟩
  ·have G:(bW l r).fJ=r.fJ:=rfl
   simp only; omega
  ·simp only; omega
theorem iK.OR (h:iK l r times good) (hl:dw l=0): ∀ (d b:Nat),b+d=times.length→si (bW l r) b (db (good.take b),t_ r times b):=by
 intro d
 induction d with
 |zero=>
  intro b hb
  have hn:(bW l r).n=l.ab.length:=cP
  have C:=h.len
  have D:=h.le
  refine ⟨0,om,_,by simp [fW]; rfl,?_⟩
  rw [List.take_of_length_le om]
  unfold ks
  have A:=h.Ja
  have B:=h.Rl
  exact dq ⟨A,B⟩
 |succ d ih=>
  intro b hb
  have C:=h.len
  have ht:times[b]? =some (times[b]'om):=e_ _
  have hg:good[b]? =some (good[b]'om):=e_ _
  obtain ⟨o,ho,e,D,A⟩:=h.opt hl ht hg
  have B:=h.step b _ ht
  have E:=h.least (b:=b) om
  have F:(bW l r).fJ=r.fJ:=rfl
  have hv:=ih (b+1) om
  rw [pI ht,lB hg,jT,← e] at hv
  exact uL (k:=1) (im.2 ⟨o,ho,_,gP.2 ⟨by first|omega|(simp only; omega),U⟩,by simp [fW]; rfl⟩) (xB hv (by first|omega|(simp only; omega)))
theorem iK.pass (h:iK l r times good) (hl:dw l=0) {b:Nat} {t g:Int} (ht:times[b]? =some t) (hg:good[b]? =some g):v9 (bW l r) b g t:=by
 have hb:=(aW.1 ht).1
 obtain ⟨v,hv,A⟩:=h.live hl b om
 obtain ⟨o,ho,e,B,C⟩:=h.opt hl ht hg
 have D:=h.step b _ ht
 have E:=h.least (b:=b) hb
 have F:(bW l r).fJ=r.fJ:=rfl
 have hw:=h.OR hl (times.length-(b+1)) (b+1) om
 rw [pI ht,lB hg,jT,← e] at hw
 simp only at A
 exact ⟨_,hv,o,ho,e,⟨by simp only; omega,om⟩,hw⟩
theorem iK.num (h:iK l r times good) (hl:dw l=0):(times.length:Int)∈gX (bW l r):=by
 obtain ⟨v,hv,_⟩:=h.live hl times.length (Nat.le_refl _)
 have hn:(bW l r).n=l.ab.length:=cP
 have B:=h.le
 refine oN.2 ⟨times.length,U,om,?_⟩
 unfold jt
 refine List.any_eq_true.2 ⟨_,hv,?_⟩
 have A:=h.len
 rw [List.take_of_length_le om]
 unfold ks
 exact dq ⟨h.Ja,h.Rl⟩
theorem iK.e (h:iK l r times good) (hl:dw l=0):dF l r 0=0:=kP hl h.jy rfl fun e=>by have:=h.num hl; rw [e] at this; cases this
theorem iK.CF (h:iK l r times good) (hl:dw l=0):(times.length:Int)∈g4 l r:=by rw [j2 (h.e hl)]; exact h.num hl
theorem iK.not_false (h:iK l r times good) (hl:dw l=0) {b:Nat} {g:Int} (hg:good[b]? =some g) (h0:0≤g): ¬ g∈JO l r∧ ¬ (b:Int)∈tS l r:=by
 have hb:=(aW.1 hg).1
 have A:=h.len
 have B:=h.le
 have ht:times[b]? =some (times[b]'om):=e_ _
 have hn:(bW l r).n=l.ab.length:=cP
 obtain ⟨q,hq,e,_⟩:=(vK (h.low hl) om).2 (h.pass hl ht hg)
 constructor
 ·rw [FK (h.e hl)]
  intro hm
  exact (CO.1 hm).2 ⟨b,om,q,hq,e⟩
 ·rw [sh (h.e hl)]
  intro hm
  unfold vV at hm
  obtain ⟨k,hk,ek⟩:=cr.1 hm
  obtain rfl:k=b:=by omega
  have hr:=(List.mem_filter.1 hk).2
  have:tQ (bW l r) k=true:=List.any_eq_true.2 ⟨q,hq,dq om⟩
  rw [this] at hr
  cases hr
end
end
section
def gI (hi:Int→Int) (least:Nat→Int) (now:Int):Nat→List Int→List Int×Int
 |_,[]=>([],now)
 |b,x::xs=>((if 0≤x then min (gI hi least now (b+1) xs).2 (hi x) else (gI hi least now (b+1) xs).2)::(gI hi least now (b+1) xs).1,(if 0≤x then min (gI hi least now (b+1) xs).2 (hi x) else (gI hi least now (b+1) xs).2)-least b)
def gd (t:Int):List Int→Int
 |[]=>t
 |x::xs=>gd x xs
def jZ (w:bS):Nat→Int→List Int→List Int→Prop
 |_,_,[],[]=>True
 |b,t,x::rs,y::fs=>(∃ o∈iH w b,o.1=x∧max (t+bY w b) o.2.Lo≤min o.2.Hi w.fJ∧y=max (t+bY w b) o.2.Lo)∧jZ w (b+1) y rs fs
 |_,_,_,_=>False
section
variable {w:bS} {hi:Int→Int} {least:Nat→Int} {now:Int}
theorem rm: ∀ (b:Nat) (rs:List Int),(gI hi least now b rs).1.length=rs.length
 |_,[]=>rfl
 |b,x::xs=>by simp only [gI,List.length_cons]; rw [rm]
theorem mR: ∀ (t:Int) (fs:List Int) (y:Int),gd t (fs++[y])=y
 |_,[],_=>rfl
 |t,x::fs,y=>mR x fs y
theorem BF: ∀ (t:Int) (fs:List Int) (y:Int),fs[fs.length-1]? =some y→gd t fs=y
 |t,[],y,h=>by simp at h
 |t,[x],y,h=>by simpa [gd] using h
 |t,x::x2::fs,y,h=>by
  show gd x (x2::fs)=y
  exact BF x (x2::fs) y (by simpa using h)
theorem ti: ∀ (b:Nat) (rs:List Int) (x:Int) (ss:List Int),(gI hi least now b (rs++x::ss)).1[rs.length]? =some (if 0≤x then min (gI hi least now (b+rs.length+1) ss).2 (hi x) else (gI hi least now (b+rs.length+1) ss).2)
 |b,[],x,ss=>by simp [gI]
 |b,z::rs,x,ss=>by
  have:=ti (b+1) rs x ss
  simp only [List.cons_append,gI,List.length_cons,List.getElem?_cons_succ]
  rw [this,show b+1+rs.length+1=b+(rs.length+1)+1 by omega]
theorem j6: ∀ (b:Nat) (t:Int) (rs fs:List Int),jZ w b t rs fs→fs.length=rs.length
 |_,_,[],[],_=>rfl
 |b,t,x::rs,y::fs,h=>by simp [j6 _ _ rs fs h.2]
 |_,_,[],_::_,h=>h.elim
 |_,_,_::_,[],h=>h.elim
theorem qZ: ∀ (b:Nat) (t:Int) (rs fs ss gs:List Int),fs.length=rs.length→(jZ w b t (rs++ss) (fs++gs)↔jZ w b t rs fs∧jZ w (b+rs.length) (gd t fs) ss gs)
 |b,t,[],[],ss,gs,_=>by simp [jZ,gd]
 |b,t,x::rs,y::fs,ss,gs,h=>by
  have ih:=qZ (b+1) y rs fs ss gs (by simpa using h)
  simp only [List.cons_append,jZ,List.length_cons,gd]
  rw [ih,show b+1+rs.length=b+(rs.length+1) by omega,and_assoc]
 |_,_,[],_::_,_,_,h=>by simp at h
 |_,_,_::_,[],_,_,h=>by simp at h
theorem Cn (b:List Int): ∀ t:aC,b.foldl (fun t g=>dv t (e7 g)) t=dv t (db b):=by
 induction b with
 |nil=>intro t; exact (mQ t).symm
 |cons x b ih=>
  intro t
  show b.foldl (fun t g=>dv t (e7 g)) (dv t (e7 x))=dv t (b.foldl (fun t g=>dv t (e7 g)) (dv ⟨0,0⟩ (e7 x)))
  rw [ih,ih]; simp only [dv,aC.mk.injEq]; omega
theorem rz (a b:List Int):db (a++b)=dv (db a) (db b):=by
 show (a++b).foldl _ _=_
 rw [List.foldl_append,Cn]; rfl
theorem qX:db []=(⟨0,0⟩:aC):=rfl
theorem pj (l:List Int):dv (⟨0,0⟩:aC) (db l)=db l:=by simp [dv]
theorem r8 (x:Int) (l:List Int):db (x::l)=dv (e7 x) (db l):=by
 rw [show x::l=[x]++l from rfl,rz,show db [x]=e7 x from (jT (l:=[])).trans (by rw [qX]; simp [dv])]
theorem tR: ∀ l:List Int,0≤(db l).right∧0≤(db l).eG∧(db l).right+(db l).eG=(l.length:Int)
 |[]=>by rw [qX]; simp
 |x::l=>by
  rw [r8]
  have:=uK x
  have:=tR l
  simp only [dv,List.length_cons]
  omega
/-- chains are what the watch goes through -/
theorem jO: ∀ (k b:Nat) (p q:aC×Int),q∈fW w k b p↔ ∃ rs fs,rs.length=k∧jZ w b p.2 rs fs∧q=(dv p.1 (db rs),gd p.2 fs):=by
 intro k
 induction k with
 |zero=>
  intro b p q
  simp only [fW,cd]
  constructor
  ·rintro rfl; exact ⟨[],[],rfl,trivial,by rw [qX,mQ]; rfl⟩
  ·rintro ⟨rs,fs,A,B,rfl⟩
   have A:=hE A
   subst A
   have:=hE (j6 _ _ _ _ B)
   subst this
   rw [qX,mQ]; rfl
 |succ k ih=>
  intro b p q
  rw [im]
  constructor
  ·rintro ⟨o,ho,p',e,h⟩
   obtain ⟨A,rfl⟩:=gP.1 e
   obtain ⟨rs,fs,B,C,rfl⟩:=(ih _ _ _).1 h
   refine ⟨o.1::rs,max (p.2+bY w b) o.2.Lo::fs,by simp [B],⟨⟨o,ho,U,A,U⟩,C⟩,?_⟩
   rw [r8]
   simp only [gd,dv,Prod.mk.injEq,aC.mk.injEq,and_true]; omega
  ·rintro ⟨rs,fs,A,B,rfl⟩
   cases rs with
   |nil=>simp at A
   |cons x rs=>
    cases fs with
    |nil=>exact B.elim
    |cons y fs=>
     obtain ⟨⟨o,ho,rfl,C,rfl⟩,D⟩:=B
     refine ⟨o,ho,_,gP.2 ⟨C,U⟩,(ih _ _ _).2 ⟨rs,fs,by simpa using A,D,?_⟩⟩
     rw [r8]
     simp only [gd,dv,Prod.mk.injEq,aC.mk.injEq,and_true]; omega
/-- what the reference's rows of last times know -/
structure JY (w:bS) (hi:Int→Int) (least:Nat→Int) (now:Int):Prop where
 low: ∀ b,0≤bY w b
 least: ∀ b,b<w.n→least b=bY w b
 now:now=w.fJ
 hi: ∀ b o,b<w.n→o∈iH w b→0≤o.1→o.2.Hi=hi o.1
 none_: ∀ b o,b<w.n→o∈iH w b→ ¬ 0≤o.1→o.2.Hi=w.fJ
theorem wR (h:JY w hi least now): ∀ (b:Nat) (rs:List Int),b+rs.length≤w.n→(gI hi least now b rs).2≤w.fJ
 |_,[],_=>by simp only [gI]; exact Int.le_of_eq h.now
 |b,x::xs,hb=>by
  simp only [List.length_cons] at hb
  have B:=wR h (b+1) xs om
  have A:=h.low b
  rw [← h.least b om] at A
  simp only [gI]
  split<;>omega
theorem rE (h:JY w hi least now): ∀ (b:Nat) (t:Int) (rs fs:List Int),b+rs.length≤w.n→t≤w.fJ→jZ w b t rs fs→t≤(gI hi least now b rs).2
 |_,t,[],[],_,ht,_=>by simp only [gI]; rw [h.now]; exact ht
 |b,t,x::rs,y::fs,hb,ht,hc=>by
  simp only [List.length_cons] at hb
  obtain ⟨⟨o,ho,rfl,D,rfl⟩,A⟩:=hc
  have B:=rE h (b+1) _ rs fs om om A
  have C:=h.least b om
  simp only [gI]
  split
  ·rename_i q
   have:=h.hi b o om ho q
   omega
  ·omega
 |_,_,[],_::_,_,_,hc=>hc.elim
 |_,_,_::_,[],_,_,hc=>hc.elim
theorem wW (h:JY w hi least now): ∀ (b:Nat) (t t':Int) (rs fs:List Int),b+rs.length≤w.n→t≤t'→t'≤(gI hi least now b rs).2→jZ w b t rs fs→ ∃ gs,jZ w b t' rs gs
 |_,t,_,[],[],_,_,_,_=>⟨[],trivial⟩
 |b,t,t',x::rs,y::fs,hb,ht,he,hc=>by
  simp only [List.length_cons] at hb
  obtain ⟨⟨o,ho,rfl,E,rfl⟩,A⟩:=hc
  have C:=rE h (b+1) _ rs fs om om A
  have D:=h.least b om
  have F:=wR h (b+1) rs om
  simp only [gI] at he
  have B:max (t'+bY w b) o.2.Lo≤min o.2.Hi w.fJ∧max (t'+bY w b) o.2.Lo≤(gI hi least now (b+1) rs).2:=by
   split at he
   ·rename_i q
    have:=h.hi b o om ho q
    omega
   ·rename_i q
    have:=h.none_ b o om ho q
    omega
  obtain ⟨gs,hg⟩:=wW h (b+1) _ (max (t'+bY w b) o.2.Lo) rs fs om om B.2 A
  exact ⟨_::gs,⟨o,ho,U,B.1,U⟩,hg⟩
 |_,_,_,[],_::_,_,_,_,hc=>hc.elim
 |_,_,_,_::_,[],_,_,_,hc=>hc.elim
theorem Ap (b:Nat) (t t':Int) (rs fs:List Int) (ht:t'≤t) (hc:jZ w b t rs fs): ∃ gs,jZ w b t' rs gs:=by
 have A:(dv ⟨0,0⟩ (db rs),gd t fs)∈fW w rs.length b (⟨0,0⟩,t):=(jO _ _ _ _).2 ⟨rs,fs,rfl,hc,rfl⟩
 clear A
 induction rs generalizing b t t' fs with
 |nil=>exact ⟨[],trivial⟩
 |cons x rs ih=>
  cases fs with
  |nil=>exact hc.elim
  |cons y fs=>
   obtain ⟨⟨o,ho,rfl,C,rfl⟩,B⟩:=hc
   obtain ⟨gs,hg⟩:=ih (b+1) _ (max (t'+bY w b) o.2.Lo) fs om B
   exact ⟨_::gs,⟨o,ho,U,om,U⟩,hg⟩
/-- a way, as it is asked for -/
structure No (w:bS) (hi:Int→Int) (least:Nat→Int) (now:Int) (y:dh):Prop where
 chain:jZ w 0 w.Start y.gu y.iO
 len:y.gu.length≤w.n
 last:y.lP=(gI hi least now 0 y.gu).1
 may:ks w (db y.gu)=true
theorem Bu {k:Nat}:jt w (fwd w k)=true↔ ∃ rs fs,rs.length=k∧jZ w 0 w.Start rs fs∧ks w (db rs)=true:=by
 unfold jt
 rw [List.any_eq_true]
 have e:=fun q=>(q8 (w:=w) k 0 q)
 rw [Nat.zero_add] at e
 constructor
 ·rintro ⟨q,hq,hm⟩
  obtain ⟨p,hp,h⟩:=(e q).1 hq
  simp only [fwd,cd] at hp
  subst hp
  obtain ⟨rs,fs,A,B,rfl⟩:=(jO _ _ _ _).1 h
  refine ⟨rs,fs,A,B,?_⟩
  rwa [pj] at hm
 ·rintro ⟨rs,fs,A,B,C⟩
  refine ⟨_,(e _).2 ⟨((⟨0,0⟩:aC),w.Start),cd.2 U,(jO _ _ _ _).2 ⟨rs,fs,A,B,U⟩⟩,?_⟩
  simp only [pj]; exact C
theorem IM (h:JY w hi least now) (hs:w.Start≤w.fJ) {b:Nat} (hb:b<w.n) {s t:Int}:v9 w b s t↔ ∃ y,No w hi least now y∧ ∃ f e,y.gu[b]? =some s∧y.iO[b]? =some f∧y.lP[b]? =some e∧f≤t∧t≤e:=by
 have ef:=fun q=>(q8 (w:=w) b 0 q)
 rw [Nat.zero_add] at ef
 constructor
 ·rintro ⟨p,hp,o,ho,rfl,⟨C,L⟩,k,hk,q,hq,hm⟩
  obtain ⟨Y,AB,hp⟩:=(ef p).1 hp
  simp only [fwd,cd] at AB
  subst AB
  obtain ⟨rs,fs,K,D,rfl⟩:=(jO _ _ _ _).1 hp
  obtain ⟨ss,gs,AA,E,rfl⟩:=(jO _ _ _ _).1 hq
  simp only at C L D E hm
  obtain ⟨gs',J⟩:=Ap (b+1) t (max (gd w.Start fs+bY w b) o.2.Lo) ss gs C E
  have H:=j6 _ _ _ _ D
  have T:=j6 _ _ _ _ J
  have hc:jZ w 0 w.Start (rs++o.1::ss) (fs++max (gd w.Start fs+bY w b) o.2.Lo::gs'):=(qZ _ _ _ _ _ _ H).2 ⟨D,by rw [Nat.zero_add,K]; exact ⟨⟨o,ho,rfl,om,rfl⟩,J⟩⟩
  have he:=rE h (b+1) t ss gs om om E
  have A:=ti (hi:=hi) (least:=least) (now:=now) 0 rs o.1 ss
  rw [Nat.zero_add,K] at A
  refine ⟨⟨rs++o.1::ss,fs++max (gd w.Start fs+bY w b) o.2.Lo::gs',(gI hi least now 0 (rs++o.1::ss)).1⟩,⟨hc,by simp; omega,U,?_⟩,max (gd w.Start fs+bY w b) o.2.Lo,_,?_,?_,A,C,?_⟩
  ·show ks w (db (rs++o.1::ss))=true
   rw [show rs++o.1::ss=(rs++[o.1])++ss by simp,rz,jT]
   rwa [pj] at hm
  ·show (rs++o.1::ss)[b]? =some o.1
   rw [List.getElem?_append_right om,K,Nat.sub_self]; rfl
  ·show (fs++_::gs')[b]? =_
   rw [List.getElem?_append_right om,H,K,Nat.sub_self]; rfl
  ·split
   ·rename_i q
    have:=h.hi b o hb ho q
    omega
   ·exact he
 ·rintro ⟨y,hy,f,e,C,L,P,Q,V⟩
  obtain ⟨R,F,La⟩:=y
  obtain ⟨hc,hn,A,hm⟩:=hy
  simp only at C L P hc hn A hm
  have N:=(aW.1 C).1
  have S:=j6 _ _ _ _ hc
  have eR:R=R.take b++s::R.drop (b+1):=by rw [← (aW.1 C).2]; exact (List.take_append_drop b R).symm.trans (by rw [List.drop_eq_getElem_cons N])
  have M:b<F.length:=by omega
  have eF:F=F.take b++f::F.drop (b+1):=by rw [← (aW.1 L).2]; exact (List.take_append_drop b F).symm.trans (by rw [List.drop_eq_getElem_cons M])
  rw [eR,eF,qZ _ _ _ _ _ _ (by simp only [List.length_take]; omega)] at hc
  have O:(R.take b).length=b:=by rw [List.length_take]; omega
  rw [O,Nat.zero_add] at hc
  obtain ⟨D,⟨o,ho,rfl,W,rfl⟩,E⟩:=hc
  have B:=ti (hi:=hi) (least:=least) (now:=now) 0 (R.take b) o.1 (R.drop (b+1))
  rw [← eR,O,Nat.zero_add,← A,P] at B
  have B:=Option.some.inj B
  have G:t≤(gI hi least now (b+1) (R.drop (b+1))).2∧t≤min o.2.Hi w.fJ:=by
   have X:=wR h (b+1) (R.drop (b+1)) (by rw [List.length_drop]; omega)
   split at B
   ·rename_i q
    have:=h.hi b o hb ho q
    omega
   ·rename_i q
    have:=h.none_ b o hb ho q
    omega
  obtain ⟨gs,J⟩:=wW h (b+1) _ t (R.drop (b+1)) (F.drop (b+1)) (by rw [List.length_drop]; omega) Q G.1 E
  refine ⟨(dv ⟨0,0⟩ (db (R.take b)),gd w.Start (F.take b)),(ef _).2 ⟨((⟨0,0⟩:aC),w.Start),cd.2 U,(jO _ _ _ _).2 ⟨_,_,O,D,U⟩⟩,o,ho,U,⟨Q,G.2⟩,(R.drop (b+1)).length,by rw [List.length_drop]; omega,_,(jO _ _ _ _).2 ⟨_,gs,U,J,U⟩,?_⟩
  show ks w (dv (dv (dv ⟨0,0⟩ (db (R.take b))) (e7 o.1)) (db (R.drop (b+1))))=true
  rw [pj,← jT,← rz,show R.take b++[o.1]++R.drop (b+1)=R from by rw [List.append_assoc]; exact eR.symm]
  exact hm
end
noncomputable def KA (l:bg) (r:cx) (x:Int):Int:=match r.aa[x.toNat]? with
 |some s=>(cJ l s).Hi
 |none=>0
theorem CA {l:bg} {r:cx} {x:Int} {s:aF} (h:r.aa[x.toNat]? =some s):KA l r x=(cJ l s).Hi:=by unfold KA; rw [h]
noncomputable def jo (l:bg) (r:cx) (rs:List Int):List Int:=(gI (KA l r) (dV l) r.fJ 0 rs).1
noncomputable def oU (l:bg) (r:cx) (n:Nat) (t i:Int):Option Int:=
 if i<0 then (if t≤r.fJ then some t else none) else match r.aa[i.toNat]? with
  |some s=>if (s.eZ=(n:Int)∧(cJ l s).Lo≤(cJ l s).Hi)∧max t (cJ l s).Lo≤min r.fJ (cJ l s).Hi then some (max t (cJ l s).Lo) else none
  |none=>none
noncomputable def gW (l:bg) (r:cx) (rs fs:List Int):List dh:=if (r.aa.length:Int)-(db rs).right≤l.iI then [⟨rs,fs,jo l r rs⟩] else []
noncomputable def ik (l:bg) (r:cx):Nat→List Int→List Int→List dh
 |0,rs,fs=>if l.eP<(db rs).eG then [] else gW l r rs fs
 |k+1,rs,fs=>if l.eP<(db rs).eG then [] else gW l r rs fs++(List.range (r.aa.length+1)).flatMap fun (j:Nat)=>match oU l r rs.length (gd r.Start fs+dV l rs.length) ((j:Int)-1) with
  |some t=>ik l r k (rs++[(j:Int)-1]) (fs++[t])
  |none=>[]
noncomputable def De (l:bg) (r:cx) (k:Nat) (rs fs:List Int) (j:Nat):List dh:=gW l r rs fs++(List.range j).flatMap fun (j:Nat)=>match oU l r rs.length (gd r.Start fs+dV l rs.length) ((j:Int)-1) with
 |some t=>ik l r k (rs++[(j:Int)-1]) (fs++[t])
 |none=>[]
noncomputable def iB (l:bg) (r:cx) (k:Nat) (rs fs:List Int) (j:Nat):List dh:=(List.range j).flatMap fun (j:Nat)=>match oU l r rs.length (gd r.Start fs+dV l rs.length) ((j:Int)-1) with
 |some t=>ik l r k (rs++[(j:Int)-1]) (fs++[t])
 |none=>[]
section
variable {l:bg} {r:cx} {k j:Nat} {rs fs:List Int} {t:Int}
theorem qV:De l r k rs fs j=gW l r rs fs++iB l r k rs fs j:=rfl
theorem mP (h:oU l r rs.length (gd r.Start fs+dV l rs.length) ((j:Int)-1)=some t):iB l r k rs fs (j+1)=iB l r k rs fs j++ik l r k (rs++[(j:Int)-1]) (fs++[t]):=by
 unfold iB; rw [List.range_succ,List.flatMap_append]; simp [h]
theorem qq (h:oU l r rs.length (gd r.Start fs+dV l rs.length) ((j:Int)-1)=none):iB l r k rs fs (j+1)=iB l r k rs fs j:=by
 unfold iB; rw [List.range_succ,List.flatMap_append]; simp [h]
theorem m0 (h:l.eP<(db rs).eG):ik l r k rs fs=[]:=by cases k<;>exact if_pos h
theorem ni (h: ¬ l.eP<(db rs).eG):ik l r 0 rs fs=gW l r rs fs:=if_neg h
theorem nm (h: ¬ l.eP<(db rs).eG):ik l r (k+1) rs fs=De l r k rs fs (r.aa.length+1):=if_neg h
theorem AZ {n:Nat} (hn:n<l.ab.length) (hl:0≤dV l n) (ht:r.Start≤t) {i y:Int} (hi: -1≤i):oU l r n (t+dV l n) i=some y↔ ∃ o∈iH (bW l r) n,o.1=i∧max (t+bY (bW l r) n) o.2.Lo≤min o.2.Hi (bW l r).fJ∧y=max (t+bY (bW l r) n) o.2.Lo:=by
 rw [pG hn]
 have hw:(bW l r).fJ=r.fJ:=rfl
 unfold oU
 constructor
 ·intro h
  split at h
  ·rename_i B
   split at h
   ·cases h
    exact ⟨(-1,⟨r.Start,r.fJ⟩),(qK hn).2 (.inl U),by simp only; omega,by simp only; omega,by simp only; omega⟩
   ·cases h
  ·rename_i B
   split at h
   ·rename_i s hs
    split at h
    ·rename_i q
     cases h
     exact ⟨((i.toNat:Nat),cJ l s),(qK hn).2 (.inr ⟨i.toNat,(aW.1 hs).1,s,hs,q.1,U⟩),by simp only; omega,by simp only; omega,U⟩
    ·cases h
   ·cases h
 ·rintro ⟨o,ho,rfl,A,rfl⟩
  rcases (qK hn).1 ho with rfl|⟨k,hk,s,hs,q,rfl⟩
  ·simp only at A ⊢
   rw [if_pos om,if_pos om]
   congr 1; omega
  ·simp only at A ⊢
   rw [if_neg om,Int.toNat_natCast,hs]
   simp only
   rw [if_pos ⟨q,om⟩]
theorem Hj (hl: ∀ n,n<l.ab.length→0≤dV l n): ∀ (k:Nat) (rs fs:List Int) (y:dh),rs.length+k=l.ab.length→fs.length=rs.length→r.Start≤gd r.Start fs→
 (y∈ik l r k rs fs↔ ∃ ss gs,jZ (bW l r) rs.length (gd r.Start fs) ss gs∧ss.length≤k∧y=⟨rs++ss,fs++gs,jo l r (rs++ss)⟩∧ks (bW l r) (db (rs++ss))=true):=by
 have D: ∀ (rs fs:List Int) (y:dh),¬ l.eP<(db rs).eG→(y∈gW l r rs fs↔y=⟨rs++[],fs++[],jo l r (rs++[])⟩∧ks (bW l r) (db (rs++[]))=true):=by
  intro rs fs y hm
  unfold gW
  rw [List.append_nil,List.append_nil]
  have e:ks (bW l r) (db rs)=true↔(r.aa.length:Int)-(db rs).right≤l.iI:=by
   unfold ks
   rw [decide_eq_true_eq]
   exact ⟨fun q=>q.2,fun q=>⟨by have:(bW l r).eP=l.eP:=rfl; omega,q⟩⟩
  split
  ·rename_i q
   rw [cd]
   exact ⟨fun h=>⟨h,e.2 q⟩,fun h=>h.1⟩
  ·rename_i q
   exact ⟨fun h=>(by cases h),fun h=>absurd (e.1 h.2) q⟩
 have Ja: ∀ (rs ss:List Int),l.eP<(db rs).eG→ ¬ ks (bW l r) (db (rs++ss))=true:=by
  intro rs ss h q
  unfold ks at q
  have:=(of_decide_eq_true q).1
  rw [rz] at this
  have C:=tR ss
  simp only [dv] at this
  have:(bW l r).eP=l.eP:=rfl
  omega
 intro k
 induction k with
 |zero=>
  intro rs fs y hn hf hs
  by_cases hm:l.eP<(db rs).eG
  ·rw [m0 hm]
   exact ⟨fun h=>(by cases h),fun ⟨ss,gs,_,_,_,q⟩=>absurd q (Ja rs ss hm)⟩
  ·rw [ni hm,D _ _ _ hm]
   constructor
   ·rintro ⟨B,C⟩; exact ⟨[],[],trivial,sm,B,C⟩
   ·rintro ⟨ss,gs,B,C,E,F⟩
    have e:=hE (Nat.le_zero.1 C)
    subst e
    have e:=hE (j6 _ _ _ _ B)
    subst e
    exact ⟨E,F⟩
 |succ k ih=>
  intro rs fs y hn hf hs
  by_cases hm:l.eP<(db rs).eG
  ·rw [m0 hm]
   exact ⟨fun h=>(by cases h),fun ⟨ss,gs,_,_,_,q⟩=>absurd q (Ja rs ss hm)⟩
  ·rw [nm hm]
   unfold De
   rw [gR,D _ _ _ hm,List.mem_flatMap]
   have A: ∀ (x y:Int),(rs++[x]).length+k=l.ab.length∧(fs++[y]).length=(rs++[x]).length:=fun x y=>by simp; omega
   constructor
   ·rintro (⟨B,C⟩|⟨j,hj,h⟩)
    ·exact ⟨[],[],trivial,sm,B,C⟩
    ·cases e:oU l r rs.length (gd r.Start fs+dV l rs.length) ((j:Int)-1) with
     |none=>rw [e] at h; cases h
     |some t=>
      rw [e] at h
      simp only at h
      obtain ⟨o,ho,B,C,E⟩:=(AZ om (hl _ om) hs om).1 e
      have G:r.Start≤t:=by
       have:=hl rs.length om
       rw [pG om] at E
       omega
      obtain ⟨ss,gs,F,J,H,AA⟩:=(ih _ _ y (A _ t).1 (A _ t).2 (by rw [mR]; exact G)).1 h
      rw [mR,List.length_append] at F
      refine ⟨((j:Int)-1)::ss,t::gs,⟨⟨o,ho,B,C,E⟩,F⟩,by simp; omega,by simpa using H,by simpa using AA⟩
   ·rintro ⟨ss,gs,B,C,E,F⟩
    cases ss with
    |nil=>
     have e:=hE (j6 _ _ _ _ B)
     subst e
     exact .inl ⟨E,F⟩
    |cons x ss=>
     cases gs with
     |nil=>exact B.elim
     |cons t gs=>
      obtain ⟨⟨o,ho,rfl,J,H⟩,AA⟩:=B
      right
      have hx: -1≤o.1∧o.1<(r.aa.length:Int):=by
       rcases (qK om).1 ho with rfl|⟨k,hk,s,hs,q,rfl⟩
       ·simp only; omega
       ·simp only; omega
      have G:r.Start≤t:=by
       have:=hl rs.length om
       rw [pG om] at H
       omega
      have K:((o.1+1).toNat:Int)-1=o.1:=by omega
      refine ⟨(o.1+1).toNat,List.mem_range.2 om,?_⟩
      rw [K,(AZ om (hl _ om) hs om).2 ⟨o,ho,rfl,J,H⟩]
      simp only
      refine (ih _ _ y (A _ t).1 (A _ t).2 (by rw [mR]; exact G)).2 ⟨ss,gs,?_,?_,?_,?_⟩
      ·rw [mR,List.length_append]; exact AA
      ·simp only [List.length_cons] at C; omega
      ·simpa using E
      ·simpa using F
end
theorem x_ {l:bg} {r:cx} {rs fs:List Int} (h:(r.aa.length:Int)-(db rs).right≤l.iI):gW l r rs fs=[⟨rs,fs,jo l r rs⟩]:=if_pos h
theorem wq {l:bg} {r:cx} {rs fs:List Int} (h: ¬ (r.aa.length:Int)-(db rs).right≤l.iI):gW l r rs fs=[]:=if_neg h
noncomputable def eB (l:bg) (r:cx) (i:Nat):List ag:=(r.aa.take i).map (cJ l)
noncomputable def eX (l:bg) (r:cx) (i:Nat):List Bool:=(r.aa.take i).map fun s=>decide ((cJ l s).Lo≤(cJ l s).Hi)
section
variable {l:bg} {r:cx} {i n:Nat} {s:aF} {rs:List Int}
theorem Cy (h:r.aa[i]? =some s):eB l r (i+1)=eB l r i++[cJ l s]:=by unfold eB; rw [List.take_add_one,h,List.map_append]; rfl
theorem Dh (h:r.aa[i]? =some s):eX l r (i+1)=eX l r i++[decide ((cJ l s).Lo≤(cJ l s).Hi)]:=by unfold eX; rw [List.take_add_one,h,List.map_append]; rfl
theorem rF (h:i≤r.aa.length):(eB l r i).length=i:=by unfold eB; rw [List.length_map,List.length_take]; omega
theorem uU (h:i≤r.aa.length):(eX l r i).length=i:=by unfold eX; rw [List.length_map,List.length_take]; omega
theorem HZ {k:Nat} {z:ag} (hs:r.aa[k]? =some s) (hz:(eB l r r.aa.length)[k]? =some z):z=cJ l s:=by
 unfold eB at hz
 rw [List.take_length,fz,hs] at hz
 exact (Option.some.inj hz).symm
theorem HT {k:Nat} {z:ag} (hz:(eB l r r.aa.length)[k]? =some z): ∃ s,r.aa[k]? =some s∧z=cJ l s:=by
 unfold eB at hz
 rw [List.take_length,fz] at hz
 cases h:r.aa[k]? with
 |none=>rw [h] at hz; cases hz
 |some s=>rw [h] at hz; exact ⟨s,rfl,(Option.some.inj hz).symm⟩
theorem Au {k:Nat} {z:Bool} (hs:r.aa[k]? =some s) (hz:(eX l r r.aa.length)[k]? =some z):z=true↔(cJ l s).Lo≤(cJ l s).Hi:=by
 unfold eX at hz
 rw [List.take_length,fz,hs] at hz
 rw [← Option.some.inj hz]
 exact decide_eq_true_iff
theorem wD (l:bg) (s:aF):(0≤(cJ l s).Lo∧(cJ l s).Lo≤86400001)∧ -1≤(cJ l s).Hi∧(cJ l s).Hi≤86400000:=by
 have A:=iz (p:=gh (pS l s) s.Read) (n:=86400001)
 have B:=iz (p:=gl (pS l s) s.Read) (n:=86400001)
 unfold cJ qv
 simp only
 omega
/-- the last times from a beam on -/
noncomputable def jK (l:bg) (r:cx) (rs:List Int) (j:Nat):List Int×Int:=gI (KA l r) (dV l) r.fJ j (rs.drop j)
noncomputable def jH (l:bg) (r:cx) (rs:List Int) (j:Nat):List Int:=List.replicate j 0++(jK l r rs j).1
noncomputable def tj (l:bg) (r:cx) (rs:List Int) (j:Nat) (x:Int):Int:=if 0≤x then min (jK l r rs j).2 (KA l r x) else (jK l r rs j).2
theorem uB:jK l r rs rs.length=([],r.fJ):=by unfold jK; rw [List.drop_length]; rfl
theorem F1:jH l r rs rs.length=List.replicate rs.length 0:=by unfold jH; rw [uB]; simp
theorem CQ:jH l r rs 0=jo l r rs:=by unfold jH jK jo; simp
theorem pg {j:Nat} {x:Int} (hj:0<j) (hx:rs[j-1]? =some x):jK l r rs (j-1)=(tj l r rs j x::(jK l r rs j).1,tj l r rs j x-dV l (j-1)):=by
 unfold jK tj
 have hb:=(aW.1 hx).1
 rw [List.drop_eq_getElem_cons hb,(aW.1 hx).2,show j-1+1=j by omega]
 simp only [gI]
 rw [show j-1+1=j by omega]
 rfl
theorem FR {j:Nat} (h:j≤rs.length):(jH l r rs j).length=rs.length:=by unfold jH jK; rw [List.length_append,List.length_replicate,rm,List.length_drop]; omega
theorem yb {j:Nat} {x:Int} (hj:0<j) (hx:rs[j-1]? =some x):(jH l r rs j).set (j-1) (tj l r rs j x)=jH l r rs (j-1):=by
 unfold jH
 rw [pg hj hx]
 simp only
 obtain ⟨k,rfl⟩: ∃ k,j=k+1:=⟨j-1,om⟩
 rw [Nat.add_sub_cancel,List.replicate_succ',List.append_assoc,List.set_append_right _ _ sm,List.length_replicate,Nat.sub_self]
 rfl
theorem Ey (hr:0≤r.fJ∧r.fJ≤86400000) (hl: ∀ b,b<rs.length→0≤dV l b∧dV l b≤500000000) (hrs: ∀ x∈rs,0≤x→x<(r.aa.length:Int)): ∀ (d j:Nat),j+d=rs.length→(-1-500000000*(d:Int))≤(jK l r rs j).2∧(jK l r rs j).2≤86400000
 |0,j,h=>by
  obtain rfl:j=rs.length:=by omega
  rw [uB]; simp only; omega
 |d+1,j,h=>by
  have ih:=Ey hr hl hrs d (j+1) om
  have hx:rs[j+1-1]? =some (rs[j]'om):=by rw [Nat.add_sub_cancel]; exact e_ _
  have e:=pg (l:=l) (r:=r) (j:=j+1) om hx
  rw [Nat.add_sub_cancel] at e
  rw [e]
  simp only
  have A:=hl j om
  unfold tj
  split
  ·rename_i q
   have B:=hrs _ (List.getElem_mem (by omega:j<rs.length)) q
   obtain ⟨s,hs⟩: ∃ s,r.aa[(rs[j]'om).toNat]? =some s:=⟨r.aa[(rs[j]'om).toNat]'om,e_ _⟩
   rw [CA hs]
   have C:=wD l s
   omega
  ·omega
theorem Hn {t i:Int} (hi:i<0):(t≤r.fJ→oU l r n t i=some t)∧(¬ t≤r.fJ→oU l r n t i=none):=by
 unfold oU; rw [if_pos hi]; exact ⟨fun h=>if_pos h,fun h=>if_neg h⟩
theorem Jv {t i:Int} (hi: ¬ i<0) (hs:r.aa[i.toNat]? =some s) (hb:s.eZ=(n:Int)) (hw:(cJ l s).Lo≤(cJ l s).Hi):(max t (cJ l s).Lo≤min r.fJ (cJ l s).Hi→oU l r n t i=some (max t (cJ l s).Lo))∧(¬ max t (cJ l s).Lo≤min r.fJ (cJ l s).Hi→oU l r n t i=none):=by
 unfold oU; rw [if_neg hi,hs]
 exact ⟨fun h=>if_pos ⟨⟨hb,hw⟩,h⟩,fun h=>if_neg fun q=>h q.2⟩
theorem xj {t i:Int} (hi: ¬ i<0) (hs:r.aa[i.toNat]? =some s) (hb: ¬ (s.eZ=(n:Int)∧(cJ l s).Lo≤(cJ l s).Hi)):oU l r n t i=none:=by
 unfold oU; rw [if_neg hi,hs]
 exact if_neg fun q=>hb q.1
theorem tO {x:Int} (hx:rs[i]? =some x):(db (rs.take (i+1))).right=(db (rs.take i)).right+(if 0≤x then 1 else 0):=by
 rw [lB hx,jT]
 unfold e7
 simp only [dv]
 by_cases h:x<0
 ·rw [if_pos h,if_neg om]
 ·rw [if_neg h,if_pos om]
end
theorem xN {l:bg} {r:cx} {rs fs:List Int}:(gW l r rs fs).length≤1:=by unfold gW; split<;>simp
theorem xz {l:bg} {r:cx} (hr:r.aa.length≤10): ∀ (k:Nat) (rs fs:List Int),(ik l r k rs fs).length≤12^(k+1)
 |0,rs,fs=>by
  unfold ik
  split
  ·simp
  ·have:=xN (l:=l) (r:=r) (rs:=rs) (fs:=fs); omega
 |k+1,rs,fs=>by
  unfold ik
  split
  ·simp
  ·rw [List.length_append]
   have B:=xN (l:=l) (r:=r) (rs:=rs) (fs:=fs)
   have A: ∀ j,(iB l r k rs fs j).length≤j*12^(k+1):=by
    intro j
    induction j with
    |zero=>simp [iB]
    |succ j ih=>
     cases e:oU l r rs.length (gd r.Start fs+dV l rs.length) ((j:Int)-1) with
     |none=>rw [qq e,Nat.succ_mul]; exact Nat.le_trans ih (Nat.le_add_right _ _)
     |some t=>rw [mP e,List.length_append,Nat.succ_mul]; exact Nat.add_le_add ih (xz hr k (rs++[(j:Int)-1]) (fs++[t]))
   have C:=A (r.aa.length+1)
   have D:(r.aa.length+1)*12^(k+1)≤11*12^(k+1):=Nat.mul_le_mul_right _ om
   have E:0<12^(k+1):=Nat.pow_pos dc
   have F:12^(k+1+1)=12*12^(k+1):=by rw [Nat.pow_succ,Nat.mul_comm]
   show (gW l r rs fs).length+(iB l r k rs fs (r.aa.length+1)).length≤_
   omega
theorem Hr {l:bg} {r:cx} (hr:r.aa.length≤10) {k j:Nat} {rs fs:List Int} (hk:k≤5) (hj:j≤11):(iB l r k rs fs j).length≤40000000:=by
 have A: ∀ j,(iB l r k rs fs j).length≤j*12^(k+1):=by
  intro j
  induction j with
  |zero=>simp [iB]
  |succ j ih=>
   cases e:oU l r rs.length (gd r.Start fs+dV l rs.length) ((j:Int)-1) with
   |none=>rw [qq e,Nat.succ_mul]; exact Nat.le_trans ih (Nat.le_add_right _ _)
   |some t=>rw [mP e,List.length_append,Nat.succ_mul]; exact Nat.add_le_add ih (xz hr k (rs++[(j:Int)-1]) (fs++[t]))
 have C:=A j
 have B:12^(k+1)≤12^6:=Nat.pow_le_pow_right dc om
 have D:j*12^(k+1)≤11*12^6:=Nat.mul_le_mul hj B
 omega
theorem uC {l:bg} {r:cx} (hr:r.aa.length≤10) {k:Nat} {rs fs:List Int} (hk:k≤6):(ik l r k rs fs).length≤40000000:=by
 have A:=xz hr k rs fs (l:=l)
 have B:12^(k+1)≤12^7:=Nat.pow_le_pow_right dc om
 omega
noncomputable def qd (l:bg) (r:cx):List dh:=ik l r l.ab.length [] []
section
variable {l:bg} {r:cx}
theorem lW:(bW l r).n=l.ab.length:=cP
theorem Nw (hle:dw l=0) (hr:dR l r):JY (bW l r) (KA l r) (dV l) r.fJ:=by
 obtain ⟨ht,B⟩:=dK hle
 refine ⟨fun b=>((lg ht B hr).bY b).1,fun b hb=>(pG (by rw [lW] at hb; exact hb)).symm,U,fun b o hb ho A=>?_,fun b o hb ho A=>?_⟩
 ·rw [lW] at hb
  rcases (qK hb).1 ho with rfl|⟨k,hk,s,hs,q,rfl⟩
  ·simp only at A; omega
  ·exact (CA (by simpa using hs)).symm
 ·rw [lW] at hb
  rcases (qK hb).1 ho with rfl|⟨k,hk,s,hs,q,rfl⟩
  ·rfl
  ·simp only at A; omega
theorem pR (hle:dw l=0) (hr:dR l r) {y:dh}:y∈qd l r↔No (bW l r) (KA l r) (dV l) r.fJ y:=by
 obtain ⟨ht,D⟩:=dK hle
 have hl: ∀ n,n<l.ab.length→0≤dV l n:=fun n hn=>by have:=mT ht D (i:=n) hn; omega
 unfold qd
 rw [Hj hl _ _ _ _ sm rfl (Int.le_refl _)]
 constructor
 ·rintro ⟨ss,gs,B,A,rfl,C⟩
  exact ⟨B,by rw [lW]; exact A,U,C⟩
 ·rintro ⟨B,A,E,C⟩
  rw [lW] at A
  exact ⟨y.gu,y.iO,B,A,by rw [List.nil_append,List.nil_append]; unfold jo; rw [← E],C⟩
theorem Hc (hle:dw l=0) (hr:dR l r) {k:Nat} (hk:k≤l.ab.length):((qd l r).any fun y=>decide (y.gu.length=k))=jt (bW l r) (fwd (bW l r) k):=by
 rw [Bool.eq_iff_iff,Bu,List.any_eq_true]
 constructor
 ·rintro ⟨y,hy,e⟩
  have h:=(pR hle hr).1 hy
  exact ⟨y.gu,y.iO,of_decide_eq_true e,h.chain,h.may⟩
 ·rintro ⟨rs,fs,e,A,B⟩
  exact ⟨⟨rs,fs,(gI (KA l r) (dV l) r.fJ 0 rs).1⟩,(pR hle hr).2 ⟨A,by rw [lW]; simp only; omega,U,B⟩,dq e⟩
theorem fD (hle:dw l=0) (hr:dR l r):qd l r=[]↔gX (bW l r)=[]:=by
 constructor
 ·intro h
  apply List.eq_nil_iff_forall_not_mem.2
  intro x hx
  obtain ⟨k,rfl,hk,hm⟩:=oN.1 hx
  rw [lW] at hk
  rw [← Hc hle hr hk,h] at hm
  cases hm
 ·intro h
  apply List.eq_nil_iff_forall_not_mem.2
  intro y hy
  have hw:=(pR hle hr).1 hy
  have:(y.gu.length:Int)∈gX (bW l r):=oN.2 ⟨y.gu.length,rfl,hw.len,Bu.2 ⟨_,_,rfl,hw.chain,hw.may⟩⟩
  rw [h] at this; cases this
/-- the times at a beam, by all ways -/
def ja (b:Nat) (ws:List dh):List (Int×ag):=ws.filterMap fun y=>match y.gu[b]?,y.iO[b]?,y.lP[b]? with
 |some s,some f,some e=>some (s,⟨f,e⟩)
 |_,_,_=>none
theorem ng {b:Nat} {ws:List dh} {q:Int×ag}:q∈ja b ws↔ ∃ y∈ws,y.gu[b]? =some q.1∧y.iO[b]? =some q.2.Lo∧y.lP[b]? =some q.2.Hi:=by
 unfold ja
 rw [List.mem_filterMap]
 constructor
 ·rintro ⟨y,hy,h⟩
  cases e1:y.gu[b]? with
  |none=>rw [e1] at h; cases h
  |some s=>
   cases e2:y.iO[b]? with
   |none=>rw [e1,e2] at h; cases h
   |some f=>
    cases e3:y.lP[b]? with
    |none=>rw [e1,e2,e3] at h; cases h
    |some e=>
     rw [e1,e2,e3] at h; cases h
     exact ⟨y,hy,e1,e2,e3⟩
 ·rintro ⟨y,hy,A,B,C⟩
  exact ⟨y,hy,by rw [A,B,C]⟩
theorem xp {b:Nat} {ws:List dh} {y:dh} (h:y.gu.length≤b):ja b (ws++[y])=ja b ws:=by
 unfold ja; rw [List.filterMap_append]; simp [List.getElem?_eq_none h]
theorem pY {b:Nat} {ws:List dh} {y:dh} {s f e:Int} (h1:y.gu[b]? =some s) (h2:y.iO[b]? =some f) (h3:y.lP[b]? =some e):ja b (ws++[y])=ja b ws++[(s,⟨f,e⟩)]:=by
 unfold ja; rw [List.filterMap_append]; simp [h1,h2,h3]
theorem Iq (hle:dw l=0) (hr:dR l r) {y:dh} (hy:y∈qd l r):y.iO.length=y.gu.length∧y.lP.length=y.gu.length∧y.gu.length≤l.ab.length:=by
 have h:=(pR hle hr).1 hy
 exact ⟨j6 _ _ _ _ h.chain,by rw [h.last,rm],by have:=h.len; rwa [lW] at this⟩
theorem ua (hle:dw l=0) (hr:dR l r) {b:Nat} (hb:b<l.ab.length) {s t:Int}:(∃ q∈ml (bW l r) b,q.1=s∧q.2.Lo≤t∧t≤q.2.Hi)↔ ∃ q∈ja b (qd l r),q.1=s∧q.2.Lo≤t∧t≤q.2.Hi:=by
 have hh:=Nw hle hr
 rw [vK hh.low (by rw [lW]; exact hb),IM hh hr.time.2.1 (by rw [lW]; exact hb)]
 constructor
 ·rintro ⟨y,hy,f,e,A,B,C,D,E⟩
  exact ⟨(s,⟨f,e⟩),ng.2 ⟨y,(pR hle hr).2 hy,A,B,C⟩,U,D,E⟩
 ·rintro ⟨q,hq,rfl,D,E⟩
  obtain ⟨y,hy,A,B,C⟩:=ng.1 hq
  exact ⟨y,(pR hle hr).1 hy,_,_,A,B,C,D,E⟩
/-- a way's span is none that is empty -/
theorem xe (hle:dw l=0) (hr:dR l r) {b:Nat} {q:Int×ag} (hq:q∈ja b (qd l r)):q.2.Lo≤q.2.Hi:=by
 have hh:=Nw hle hr
 obtain ⟨y,hy,C,D,H⟩:=ng.1 hq
 obtain ⟨hc,hn,B,hm⟩:=(pR hle hr).1 hy
 obtain ⟨R,F,La⟩:=y
 simp only at C D H hc hn B
 have G:=(aW.1 C).1
 have E:=(aW.1 D).1
 have L:=j6 _ _ _ _ hc
 have eR:R=R.take b++q.1::R.drop (b+1):=by rw [← (aW.1 C).2]; exact (List.take_append_drop b R).symm.trans (by rw [List.drop_eq_getElem_cons G])
 have eF:F=F.take b++q.2.Lo::F.drop (b+1):=by rw [← (aW.1 D).2]; exact (List.take_append_drop b F).symm.trans (by rw [List.drop_eq_getElem_cons E])
 rw [eR,eF,qZ _ _ _ _ _ _ (by simp only [List.length_take]; omega)] at hc
 have AA:(R.take b).length=b:=by rw [List.length_take]; omega
 rw [AA,Nat.zero_add] at hc
 obtain ⟨M,⟨o,ho,K,N,O⟩,J⟩:=hc
 have A:=ti (hi:=KA l r) (least:=dV l) (now:=r.fJ) 0 (R.take b) q.1 (R.drop (b+1))
 rw [← eR,AA,Nat.zero_add,← B,H] at A
 have A:=Option.some.inj A
 have he:=rE hh (b+1) q.2.Lo (R.drop (b+1)) (F.drop (b+1)) (by rw [List.length_drop]; omega) om J
 rw [← K] at A
 split at A
 ·rename_i z
  have:=hh.hi b o om ho z
  omega
 ·omega
theorem Bk {a b:List (Int×ag)} {h k:ag} (ha:ki a h) (hb:ki b k) (hab: ∀ x∈b,(∃ y∈a,y.2.Lo≤x.2.Lo)∧ ∃ y∈a,x.2.Hi≤y.2.Hi) (hba: ∀ x∈a,(∃ y∈b,y.2.Lo≤x.2.Lo)∧ ∃ y∈b,x.2.Hi≤y.2.Hi):h=k:=by
 rcases ha with ⟨rfl,rfl⟩|ha
 ·rcases hb with ⟨rfl,rfl⟩|hb
  ·rfl
  ·obtain ⟨x,hx,_⟩:=hb.lo
   obtain ⟨⟨y,hy,_⟩,_⟩:=hab x hx
   cases hy
 ·rcases hb with ⟨rfl,rfl⟩|hb
  ·obtain ⟨x,hx,_⟩:=ha.lo
   obtain ⟨⟨y,hy,_⟩,_⟩:=hba x hx
   cases hy
  ·obtain ⟨M,E,AA⟩:=ha.lo
   obtain ⟨N,F,V⟩:=ha.hi
   obtain ⟨O,G,W⟩:=hb.lo
   obtain ⟨P,H,X⟩:=hb.hi
   obtain ⟨⟨AB,A,Y⟩,_⟩:=hba M E
   obtain ⟨_,J,B,Z⟩:=hba N F
   obtain ⟨⟨K,C,c⟩,_⟩:=hab O G
   obtain ⟨_,L,D,d⟩:=hab P H
   have Q:=hb.all AB A
   have R:=hb.all J B
   have S:=ha.all K C
   have T:=ha.all L D
   apply ag.ext
   ·omega
   ·omega
theorem GZ (hle:dw l=0) (hr:dR l r) {b:Nat} (hb:b<l.ab.length) {h:ag} (hh:ki (ja b (qd l r)) h):h=mo l r b:=by
 have hk:=uW (l:=ml (bW l r) b) (fun q hq=>mM hq)
 refine Bk hh hk (fun x hx=>?_) (fun x hx=>?_)
 ·have hle':=mM hx
  obtain ⟨y,hy,_,A,C⟩:=(ua hle hr hb (s:=x.1) (t:=x.2.Lo)).1 ⟨x,hx,rfl,Int.le_refl _,hle'⟩
  obtain ⟨z,hz,_,D,B⟩:=(ua hle hr hb (s:=x.1) (t:=x.2.Hi)).1 ⟨x,hx,rfl,hle',Int.le_refl _⟩
  exact ⟨⟨y,hy,A⟩,z,hz,B⟩
 ·have hle':=xe hle hr hx
  obtain ⟨y,hy,_,A,C⟩:=(ua hle hr hb (s:=x.1) (t:=x.2.Lo)).2 ⟨x,hx,rfl,Int.le_refl _,hle'⟩
  obtain ⟨z,hz,_,D,B⟩:=(ua hle hr hb (s:=x.1) (t:=x.2.Hi)).2 ⟨x,hx,rfl,hle',Int.le_refl _⟩
  exact ⟨⟨y,hy,A⟩,z,hz,B⟩
end
def po (ws:List dh) (b:Nat):Int:=if vc (ja b ws)=l6 then 6 else 0
def ph (ws:List dh) (b:Nat):ag:=if vc (ja b ws)=l6 then ⟨0,0⟩ else vc (ja b ws)
theorem KP {l:List (Int×ag)} {h:ag} (hh:ki l h) (hl: ∀ q∈l,q.2.Lo≤q.2.Hi):vc l=h:=
 Bk (uW hl) hh (fun x hx=>⟨⟨x,hx,Int.le_refl _⟩,x,hx,Int.le_refl _⟩) (fun x hx=>⟨⟨x,hx,Int.le_refl _⟩,x,hx,Int.le_refl _⟩)
theorem CZ {ws:List dh} {b:Nat} (h:ja b ws=[]):po ws b=6∧ph ws b=⟨0,0⟩:=by
 unfold po ph; rw [h]; exact ⟨if_pos rfl,if_pos rfl⟩
theorem Cr {ws:List dh} {b:Nat} {o:ag} (hl: ∀ q∈ja b ws,q.2.Lo≤q.2.Hi) (h:oz (ja b ws) o):po ws b=0∧ph ws b=o:=by
 have e:=KP (.inr h) hl
 unfold po ph; rw [e]; exact ⟨if_neg h.ne,if_neg h.ne⟩
/-- what was found until now -/
def ny (b:Nat) (ws:List dh) (fd:Bool) (o:ag):Prop:=(fd=false∧ja b ws=[])∨(fd=true∧oz (ja b ws) o)
theorem Gp {b:Nat} {o:ag}:ny b [] false o:= .inl ⟨rfl,rfl⟩
theorem Bt {q:Int×ag} (hq:q.2.Lo≤q.2.Hi):oz [q] q.2:=⟨hq,⟨q,sm,rfl⟩,⟨q,sm,rfl⟩,fun x hx=>by simp at hx; subst hx; exact ⟨Int.le_refl _,Int.le_refl _⟩⟩
theorem yW {l:List (Int×ag)} {h:ag} {q:Int×ag} (hh:oz l h) (hq:q.2.Lo≤q.2.Hi):oz (l++[q]) ⟨min q.2.Lo h.Lo,max q.2.Hi h.Hi⟩:=by
 have:=ug (.inr hh) hq
 unfold mq at this
 rw [if_neg hh.ne] at this
 rcases this with ⟨e,_⟩|this
 ·simp at e
 ·exact this
theorem C6 {b:Nat} {ws:List dh} {fd:Bool} {o:ag} {y:dh} (h:ny b ws fd o) (hy:y.gu.length≤b):ny b (ws++[y]) fd o:=by
 unfold ny; rw [xp hy]; exact h
theorem AU {b:Nat} {ws:List dh} {fd:Bool} {o:ag} {y:dh} {s f e:Int} (h:ny b ws fd o) (hf:fd=false) (h1:y.gu[b]? =some s) (h2:y.iO[b]? =some f) (h3:y.lP[b]? =some e) (hle:f≤e):ny b (ws++[y]) true ⟨f,e⟩:=by
 rcases h with ⟨_,q⟩|⟨q,_⟩
 ·right
  rw [pY h1 h2 h3,q]
  exact ⟨U,Bt hle⟩
 ·rw [q] at hf; cases hf
theorem Dn {b:Nat} {ws:List dh} {fd:Bool} {o:ag} {y:dh} {s f e:Int} (h:ny b ws fd o) (hf:fd=true) (h1:y.gu[b]? =some s) (h2:y.iO[b]? =some f) (h3:y.lP[b]? =some e) (hle:f≤e):ny b (ws++[y]) true ⟨min f o.Lo,max e o.Hi⟩:=by
 rcases h with ⟨q,_⟩|⟨_,q⟩
 ·rw [q] at hf; cases hf
 ·right
  rw [pY h1 h2 h3]
  exact ⟨U,yW q hle⟩
theorem yh {b:Nat} {ws:List dh} {fd:Bool} {o:ag} (h:ny b ws fd o) (hl: ∀ q∈ja b ws,q.2.Lo≤q.2.Hi):(fd=false→po ws b=6∧ph ws b=⟨0,0⟩)∧(fd=true→po ws b=0∧ph ws b=o):=by
 rcases h with ⟨q,h⟩|⟨q,h⟩
 ·exact ⟨fun _=>CZ h,fun e=>(by rw [q] at e; cases e)⟩
 ·exact ⟨fun e=>(by rw [q] at e; cases e),fun _=>Cr hl h⟩
section
variable {l:bg} {r:cx}
theorem IE (he:dF l r 0=0) {b:Nat} (hb:b<l.ab.length):po (qd l r) b=dI l r b∧ph (qd l r) b=dD l r b:=by
 obtain ⟨A,hr,_,_⟩:=iw he
 have h:=GZ A hr hb (uW fun q hq=>xe A hr hq)
 have ho:dF l r (jn l b)=0:=by rw [Fj hb]; exact he
 unfold po ph
 rw [h]
 by_cases e:mo l r b=l6
 ·rw [if_pos e,if_pos e,(qn ho e).1,(qn ho e).2]; exact ⟨rfl,rfl⟩
 ·rw [if_neg e,if_neg e,(nX ho e).1,(nX ho e).2]; exact ⟨rfl,rfl⟩
theorem N7 (hle:dw l=0) (hr:dR l r) {y:dh} (hy:y∈qd l r) {b:Nat} {f e:Int} (hb:b<y.gu.length) (h2:y.iO[b]? =some f) (h3:y.lP[b]? =some e):f≤e:=
 xe hle hr (q:=(y.gu[b],⟨f,e⟩)) (ng.2 ⟨y,hy,e_ _,h2,h3⟩)
theorem BQ:dF l r (jn l l.cD)=dF l r 0:=by
 by_cases h:dw l=0
 ·obtain ⟨_,A⟩:=dK h
  have hh:=A.head
  unfold eL at hh
  rw [sP om]
 ·rw [fX h,fX h]
theorem vi (h: ¬ dF l r 0=0):dI l r l.cD=dF l r 0:=by
 have:=(lH (b:=l.cD) (by rw [BQ]; exact h)).1
 rw [this,BQ]
/-- rows of times that are those of ways -/
structure KN (ws:List dh):Prop where
 lens: ∀ y∈ws,y.iO.length=y.gu.length∧y.lP.length=y.gu.length∧y.gu.length≤6
 le: ∀ y∈ws,∀ (b:Nat) f e,b<y.gu.length→y.iO[b]? =some f→y.lP[b]? =some e→f≤e
 num:ws.length≤40000000
theorem KN.EF {ws:List dh} (h:KN ws) {b:Nat}: ∀ q∈ja b ws,q.2.Lo≤q.2.Hi:=fun q hq=>by
 obtain ⟨y,hy,A,B,C⟩:=ng.1 hq
 exact h.le y hy b _ _ (aW.1 A).1 B C
theorem Om (hle:dw l=0) (hr:dR l r):KN (qd l r):=by
 obtain ⟨ht,B⟩:=dK hle
 have hh:=B.head
 unfold eL at hh
 refine ⟨fun y hy=>?_,fun y hy b f e hb A C=>N7 hle hr hy hb A C,uC hr.len om⟩
 obtain ⟨D,A,C⟩:=Iq hle hr hy
 exact ⟨D,A,om⟩
end
end
section
open Go.RowKit
/-- a row is taken that was made before; an operation -/
inductive fG where
 |take (i:Nat)
 |op (j:Nat)
def fG.ix:fG→Nat
 | .take i=>i
 | .op j=>j
def BL (dO:Nat→Nat):List fG→List Nat
 |[]=>[]
 | .take i::s=>dO i::BL dO s
 | .op _::s=>BL dO s
theorem tL {dO:Nat→Nat} {i:Nat}: ∀ {s:List fG},fG.take i∈s→dO i∈BL dO s
 | .take k::s,h=>by
  rcases bO.1 h with e|h
  ·cases e; exact ct ..
  ·exact dJ _ (tL h)
 | .op k::s,h=>by
  rcases bO.1 h with e|h
  ·cases e
  ·exact tL (s:=s) h
def rB (m:Array Nat) (dO:Nat→Nat) (x y:fG):Bool:=x.ix != y.ix&&(match y with | .op j=>iL m x.ix j| .take i=>match x with | .take k=>dO k != dO i| .op _=>true)
def SA (m:Array Nat) (dO:Nat→Nat):List fG→Bool
 |[]=>true
 |x::s=>s.all (rB m dO x)&&SA m dO s
theorem EZ {m:Array Nat} {dO:Nat→Nat}: ∀ {s:List fG},SA m dO s=true→s.Pairwise fun x y=>rB m dO x y=true
 |[],_=>List.Pairwise.nil
 |x::s,h=>by
  simp only [SA,cW] at h
  exact List.Pairwise.cons (fun y hy=>cT.1 h.1 y hy) (EZ h.2)
/-- what is known of the slots B is known in L -/
def AE (B L:di):Prop:= ∀ t v,B.lookup t=some v→L.lookup t=some v
theorem zG {B L:di} (h:B.map (fun p=>L.lookup p.1)=B.map (fun p=>some p.2)):AE B L:=by
 induction B with
 |nil=>intro t v h; simp at h
 |cons p B ih=>
  obtain ⟨k,u⟩:=p
  simp only [List.map_cons,List.cons.injEq] at h
  intro t v hl
  by_cases e:t=k
  ·subst e
   simp only [List.lookup,beq_self_eq_true,Option.some.injEq] at hl
   rw [h.1,hl]
  ·have:(t==k)=false:=by simpa using e
   simp only [List.lookup,this] at hl
   exact ih h.2 t v hl
theorem nJ {L Y:di} {t:Nat}:(L++Y).lookup t=match L.lookup t with |some v=>some v|none=>Y.lookup t:=by
 induction L with
 |nil=>rfl
 |cons p L ih=>
  obtain ⟨k,u⟩:=p
  by_cases e:t==k
  ·simp [List.lookup,e]
  ·have:(t==k)=false:=by simpa using e
   simp only [List.cons_append,List.lookup,this,ih]
theorem AE.app {B L Y:di} (h:AE B L):AE B (L++Y):=fun t v ht=>by rw [nJ,h t v ht]
theorem OH {B L:di} (h:AE B L) {x:Operand} {v:Value} (hv:ev B x=some v):ev L x=some v:=by
 cases x<;>simp only [ev] at hv ⊢ <;>first|exact h _ _ hv|exact hv
theorem D8 {B L:di} (h:AE B L): ∀ {xs:List Operand} {vs:List Value},evs B xs=some vs→evs L xs=some vs
 |[],vs,hv=>hv
 |x::xs,vs,hv=>by
  simp only [evs] at hv ⊢
  cases e1:ev B x with
  |none=>rw [e1] at hv; simp at hv
  |some v=>
   cases e2:evs B xs with
   |none=>rw [e1,e2] at hv; simp at hv
   |some us=>
    rw [e1,e2] at hv
    rw [OH h e1,D8 h e2]; exact hv
section
variable (E:eT) (ops:Array Oper) (D:List Deferred) (C':List av) (K0:Act→World→Prop) (B:List (Nat×Value)) (dO:Nat→Nat) (VO:Nat→Nat→Value) (AO:Nat→Nat→av)
def CH:List fG→di→List av→Prop
 |[],L,C=>KJ E K0 D L C
 | .take i::s,L,C=> ∀ b,CH s ((dO i,VO i b)::L) (AO i b::C)
 | .op j::s,L,C=> ∀ o,ops[j]? =some o→ ∀ (Y:di) (X:List av) (K:Act→World→Prop),(∀ L' C'',(∀ w,St E.S E.w0 C'' w→St E.S E.w0 C' w)→((BL dO s).all fun d=>(L'.lookup d).isNone)=true→B.map (fun p=>L'.lookup p.1)=B.map (fun p=>some p.2)→CH s L' C''→KJ E K D (L'++Y) (C''++X))→RJ E ops (NQ K) [o] D (L++Y) (C++X)
/-- a row that is made at any time -/
def QT (i:Nat):Prop:= ∀ o,ops[i]? =some o→ ∀ (L:di) (C:List av) (K:Act→World→Prop),AE B L→(∀ w,St E.S E.w0 C w→St E.S E.w0 C' w)→(∀ b,KJ E K D ((dO i,VO i b)::L) (AO i b::C))→RJ E ops (NQ K) [o] D L C
end
section
variable {E:eT} {ops:Array Oper} {D:List Deferred} {C' C1:List av} {K0:Act→World→Prop} {B:List (Nat×Value)} {dO:Nat→Nat} {VO:Nat→Nat→Value} {AO:Nat→Nat→av}
theorem MB {Q:cZ} {rest:List Oper} {L L2:di} {C C2:List av} (hL: ∀ a,Fr E.n D L a→Fr E.n D L2 a) (hC: ∀ w,St E.S E.w0 C w→St E.S E.w0 C2 w) (h:RJ E ops Q rest D L2 C2):RJ E ops Q rest D L C:=fun a w hf hs=>h a w (hL a hf) (hC w hs)
theorem EC {K:Act→World→Prop} {L L2:di} {C C2:List av} (hL: ∀ a,Fr E.n D L a→Fr E.n D L2 a) (hC: ∀ w,St E.S E.w0 C w→St E.S E.w0 C2 w) (h:KJ E K D L2 C2):KJ E K D L C:=fun a w hf hs=>h a w (hL a hf) (hC w hs)
theorem EJ {n:Nat} {L L2:di} (h: ∀ t v,L2.lookup t=some v→L.lookup t=some v) (a:Act) (hf:Fr n D L a):Fr n D L2 a:=⟨hf.defers,hf.size,fun t v ht=>hf.at_ t v (h t v ht)⟩
theorem DB: ∀ (T0 s':List fG) (dn:List (Nat×Nat)) (L Y:di) (C:List av),(∀ x∈T0,∃ i b,x= .take i∧(i,b)∈dn)→(T0++s').Pairwise (fun x y=>rB (qa ops) dO x y=true)→(dn.map (·.1)).Nodup→(∀ p∈dn,fG.take p.1∈T0++s')→(∀ p∈dn,Y.lookup (dO p.1)=some (VO p.1 p.2))→(∀ i,fG.take i∈T0++s'→L.lookup (dO i)=none)→
 CH E ops D C' K0 B dO VO AO (T0++s') L C→ ∃ (dn':List (Nat×Nat)) (L':di) (C2:List av),CH E ops D C' K0 B dO VO AO s' L' C2∧(dn'.map (·.1)).Nodup∧(∀ p,p∈dn'↔p∈dn∧fG.take p.1∈s')∧(∀ t v,(L'++Y).lookup t=some v→(L++Y).lookup t=some v)∧(∀ i,fG.take i∈s'→L'.lookup (dO i)=none)∧(∀ w,St E.S E.w0 (C++dn.map fun p=>AO p.1 p.2) w→St E.S E.w0 (C2++dn'.map fun p=>AO p.1 p.2) w)
 |[],s',dn,L,Y,C,_,_,hn,hm,_,hl,h=>⟨dn,L,C,h,hn,fun p=>⟨fun q=>⟨q,hm p q⟩,fun q=>q.1⟩,fun t v q=>q,hl,fun w q=>q⟩
 |x::T0,s',dn,L,Y,C,ht,hp,hn,hm,hy,hl,h=>by
  obtain ⟨i,b,rfl,hb⟩:=ht x (ct ..)
  obtain ⟨J,P⟩:=List.pairwise_cons.1 hp
  have AB: ∀ y∈T0++s',i≠y.ix:=fun y hy e=>by
   have:=J y hy
   simp only [rB,cW,bne_iff_ne,fG.ix] at this
   exact this.1 e
  have N: ∀ k,fG.take k∈T0++s'→dO k≠dO i:=fun k hk e=>by
   have:=J _ hk
   simp only [rB,cW,bne_iff_ne] at this
   exact this.2 e.symm
  have K:dn.Perm ((i,b)::dn.erase (i,b)):=List.perm_cons_erase hb
  have H:((dn.erase (i,b)).map (·.1)).Nodup∧i ∉ (dn.erase (i,b)).map (·.1):=by
   have:=(K.map (·.1)).nodup_iff.1 hn
   exact ⟨(List.nodup_cons.1 this).2,(List.nodup_cons.1 this).1⟩
  have A: ∀ p∈dn.erase (i,b),p∈dn∧p.1≠i:=fun p hp=>⟨List.mem_of_mem_erase hp,fun e=>by have q:=List.mem_map_of_mem (f:=fun p:Nat×Nat=>p.1) hp; simp only [e] at q; exact H.2 q⟩
  have O:L.lookup (dO i)=none:=hl i (ct ..)
  obtain ⟨dn',L',C2,R,T,AA,V,W,X⟩:=DB T0 s' (dn.erase (i,b)) ((dO i,VO i b)::L) Y (AO i b::C) (fun x hx=>by
   obtain ⟨k,c,rfl,hk⟩:=ht x (dJ _ hx)
   refine ⟨k,c,U,?_⟩
   have F:k≠i:=fun e=>AB _ (List.mem_append_left _ hx) e.symm
   exact (List.mem_erase_of_ne (fun e=>F (congrArg Prod.fst e))).2 hk) P H.1 (fun p hp=>by
   obtain ⟨M,G⟩:=A p hp
   rcases bO.1 (hm p M) with e|e
   ·injection e with e; exact absurd e G
   ·exact e) (fun p hp=>hy p (A p hp).1) (fun k hk=>by
   have:(dO k==dO i)=false:=by simpa using N k hk
   simp only [List.lookup,this]
   exact hl k (dJ _ hk)) (h b)
  refine ⟨dn',L',C2,R,T,fun p=>?_,fun t v hv=>?_,W,fun w hw=>X w ?_⟩
  ·rw [AA]
   constructor
   ·rintro ⟨M,G⟩; exact ⟨(A p M).1,G⟩
   ·rintro ⟨M,G⟩
    have F:p.1≠i:=fun e=>AB _ (List.mem_append_right _ G) e.symm
    exact ⟨(List.mem_erase_of_ne (fun e=>F (congrArg Prod.fst e))).2 M,G⟩
  ·have:=V t v hv
   rw [nJ] at this ⊢
   by_cases e:t=dO i
   ·subst e
    simp only [List.lookup,beq_self_eq_true] at this
    rw [O]; simp only
    rw [hy _ hb]; exact this
   ·have Q:(t==dO i)=false:=by simpa using e
    simp only [List.lookup,Q] at this
    exact this
  ·refine hw.perm ?_
   show (C++dn.map fun p=>AO p.1 p.2).Perm (AO i b::(C++(dn.erase (i,b)).map fun p=>AO p.1 p.2))
   refine ((K.map fun p:Nat×Nat=>AO p.1 p.2).append_left C).trans ?_
   exact List.perm_middle
theorem Bd: ∀ (s:List fG) (j:Nat),fG.op j∈s→ ∃ T0 k s',s=T0++fG.op k::s'∧ ∀ x∈T0,∃ i,x=fG.take i
 | .take i::s,j,h=>by
  rcases bO.1 h with e|h
  ·cases e
  ·obtain ⟨T0,k,s',rfl,A⟩:=Bd s j h
   exact ⟨.take i::T0,k,s',U,fun x hx=>by
    rcases bO.1 hx with rfl|hx
    ·exact ⟨i,U⟩
    ·exact A x hx⟩
 | .op k::s,j,_=>⟨[],k,s,rfl,fun x hx=>by cases hx⟩
def kx (s:List fG) (dn:List (Nat×Nat)):List Nat:=(s.map fG.ix).filter fun i=> !(dn.map (·.1)).contains i
theorem q7 {s:List fG} {dn:List (Nat×Nat)} {i:Nat}:i∈kx s dn↔(∃ x∈s,x.ix=i)∧ ∀ p∈dn,p.1≠i:=by
 unfold kx
 rw [List.mem_filter,cr]
 refine and_congr Iff.rfl ?_
 rw [Bool.not_eq_true',← Bool.not_eq_true,List.contains_iff_mem,cr]
 constructor
 ·intro h p hp e; exact h ⟨p,hp,e⟩
 ·rintro h ⟨p,hp,e⟩; exact h p hp e
theorem qj (hal: ∀ i,QT E ops D C' B dO VO AO i∨True): ∀ (n:Nat) (s:List fG) (dn:List (Nat×Nat)) (L Y:di) (C:List av),(∀ i,fG.take i∈s→QT E ops D C' B dO VO AO i)→s.Pairwise (fun x y=>rB (qa ops) dO x y=true)→(kx s dn).length=n→(dn.map (·.1)).Nodup→(∀ p∈dn,fG.take p.1∈s)→(∀ p∈dn,Y.lookup (dO p.1)=some (VO p.1 p.2))→(∀ i,fG.take i∈s→L.lookup (dO i)=none)→AE B L→
 (∀ w,St E.S E.w0 C w→St E.S E.w0 C' w)→CH E ops D C' K0 B dO VO AO s L C→TN E ops D C' C1 (fun L C=>KJ E K0 D L C) [] n (kx s dn) (L++Y) (C++dn.map fun p=>AO p.1 p.2)
 |0,s,dn,L,Y,C,_,hp,hlen,hn,hm,hy,hl,hB,hC,h=>by
  have hr:kx s dn=[]:=hE hlen
  have Q: ∀ x∈s,∃ i b,x=fG.take i∧(i,b)∈dn:=fun x hx=>by
   have hx':x.ix ∉ kx s dn:=by rw [hr]; exact List.not_mem_nil
   rw [q7] at hx'
   have: ∃ p∈dn,p.1=x.ix:=by
    apply Classical.byContradiction
    intro q
    exact hx' ⟨⟨x,hx,U⟩,fun p hp e=>q ⟨p,hp,e⟩⟩
   obtain ⟨p,T,AA⟩:=this
   have ht:=hm p T
   rcases List.mem_iff_getElem.1 hx with ⟨a,ha,ea⟩
   rcases List.mem_iff_getElem.1 ht with ⟨c,hc,ec⟩
   have d:a=c:=by
    rcases Nat.lt_trichotomy a c with q|q|q
    ·have:=eC.1 hp a c ha hc q
     simp only [rB,cW,bne_iff_ne,ea,ec] at this
     exact absurd AA.symm this.1
    ·exact q
    ·have:=eC.1 hp c a hc ha q
     simp only [rB,cW,bne_iff_ne,ea,ec] at this
     exact absurd AA this.1
   subst d
   exact ⟨p.1,p.2,by rw [← ea,ec],T⟩
  obtain ⟨dn',L',C2,V,J,O,W,h5,X⟩:=DB s [] dn L Y C Q (by simpa using hp) hn (by simpa using hm) hy (by simpa using hl) (by simpa using h)
  show KJ E K0 D _ _
  have hd:dn'=[]:=List.eq_nil_iff_forall_not_mem.2 fun p hp=>by have:=((O p).1 hp).2; cases this
  subst hd
  refine EC (L2:=L') (C2:=C2) (fun a hf=>EJ (fun t v ht=>W t v (by rw [nJ,ht])) a hf) (fun w hw=>by have:=X w hw; simpa using this) V
 |n+1,s,dn,L,Y,C,hal',hp,hlen,hn,hm,hy,hl,hB,hC,h=>by
  intro i hi o ho K hK
  obtain ⟨G,m⟩:=List.mem_filter.1 hi
  obtain ⟨⟨x,hx,rfl⟩,H⟩:=q7.1 G
  have A: ∀ k∈kx s dn,iL (qa ops) k x.ix=false:=fun k hk=>by
   have:=cT.1 m k hk
   simpa using this
  cases x with
  |take i=>
   simp only [fG.ix] at H A ho hK G ⊢
   refine hal' i hx o ho _ _ K hB.app (fun w hw=>hC w (hw.take (List.sublist_append_left _ _))) fun b=>?_
   have l:=hl i hx
   have AB:(kx s dn).filter (· != i)=kx s ((i,b)::dn):=by
    unfold kx
    rw [List.filter_filter]
    apply List.filter_congr
    intro k _
    simp only [List.map_cons,List.contains_cons,Bool.not_or]
    rfl
   have N:(kx s dn).Nodup:=by
    unfold kx
    refine List.Nodup.sublist List.filter_sublist<|List.pairwise_map.2 (hp.imp fun {a c} q=>?_)
    simp only [rB,cW,bne_iff_ne] at q
    exact q.1
   have M: ∀ k,fG.take k∈s→k≠i→dO k≠dO i:=fun k hk AC e=>by
    rcases List.mem_iff_getElem.1 hx with ⟨a,ha,ea⟩
    rcases List.mem_iff_getElem.1 hk with ⟨c,hc,ec⟩
    rcases Nat.lt_trichotomy a c with q|q|q
    ·have:=eC.1 hp a c ha hc q
     simp only [rB,cW,bne_iff_ne,ea,ec] at this
     exact this.2 e.symm
    ·subst q; rw [ea] at ec; cases ec; exact AC rfl
    ·have:=eC.1 hp c a hc ha q
     simp only [rB,cW,bne_iff_ne,ea,ec] at this
     exact this.2 e
   refine EC (L2:=L++((dO i,VO i b)::Y)) (C2:=C++((i,b)::dn).map fun p=>AO p.1 p.2) (fun a hf=>EJ (fun t v ht=>?_) a hf) (fun w hw=>hw.perm (List.perm_middle).symm) (hK _ _ (fun w hw=>hC w (hw.take (List.sublist_append_left _ _))) (fun q=>by cases q) ?_)
   ·rw [nJ] at ht
    by_cases e:t=dO i
    ·subst e
     rw [l] at ht
     simp only [List.lookup,beq_self_eq_true] at ht ⊢
     exact ht
    ·have e2:(t==dO i)=false:=by simpa using e
     simp only [List.lookup,e2] at ht ⊢
     rw [nJ]; exact ht
   ·rw [AB]
    refine qj hal n s ((i,b)::dn) L ((dO i,VO i b)::Y) C hal' hp ?_ (List.nodup_cons.2 ⟨fun q=>?_,hn⟩) (fun p hp'=>?_) (fun p hp'=>?_) hl hB hC h
    ·rw [← AB,← List.Nodup.erase_eq_filter N,List.length_erase_of_mem G,hlen]; rfl
    ·obtain ⟨p,hp',e⟩:=cr.1 q
     exact H p hp' e
    ·rcases bO.1 hp' with rfl|hp'
     ·exact hx
     ·exact hm p hp'
    ·rcases bO.1 hp' with rfl|hp'
     ·simp [List.lookup]
     ·have:(dO p.1==dO i)=false:=by simpa using M p.1 (hm p hp') (H p hp')
      simp only [List.lookup,this]
      exact hy p hp'
  |op j=>
   simp only [fG.ix] at H A ho hK G ⊢
   obtain ⟨T0,k,s',rfl,hT⟩:=Bd s j hx
   obtain ⟨q1,q2,q3⟩:=List.pairwise_append.1 hp
   obtain ⟨q4,q5⟩:=List.pairwise_cons.1 q2
   have R: ∀ k',fG.op k'∈T0++fG.op k::s'→k'∈kx (T0++fG.op k::s') dn:=fun k' hk'=>by
    refine q7.2 ⟨⟨_,hk',U⟩,fun p hp' e=>?_⟩
    have ht:=hm p hp'
    rcases List.mem_iff_getElem.1 hk' with ⟨a,ha,ea⟩
    rcases List.mem_iff_getElem.1 ht with ⟨c,hc,ec⟩
    rcases Nat.lt_trichotomy a c with q|q|q
    ·have:=eC.1 hp a c ha hc q
     simp only [rB,cW,bne_iff_ne,ea,ec,fG.ix] at this
     exact this.1 e.symm
    ·subst q; rw [ea] at ec; cases ec
    ·have:=eC.1 hp c a hc ha q
     simp only [rB,cW,bne_iff_ne,ea,ec,fG.ix] at this
     exact this.1 e
   have A0:k=j:=by
    apply Classical.byContradiction
    intro A1
    have hj':fG.op j∈s':=by
     rcases gR.1 hx with q|q
     ·obtain ⟨i,e⟩:=hT _ q; cases e
     ·rcases bO.1 q with e|q
      ·injection e with e; exact absurd e.symm A1
      ·exact q
    have:=q4 _ hj'
    simp only [rB,cW,fG.ix] at this
    have J:=A k (R k sm)
    rw [this.2] at J; cases J
   subst A0
   have F: ∀ x∈T0,∃ i b,x=fG.take i∧(i,b)∈dn:=fun x hx'=>by
    obtain ⟨i,rfl⟩:=hT x hx'
    apply Classical.byContradiction
    intro q
    have r:i∈kx (T0++fG.op k::s') dn:=q7.2 ⟨⟨_,List.mem_append_left _ hx',rfl⟩,fun p hp' e=>q ⟨i,p.2,rfl,by rw [← e]; exact hp'⟩⟩
    have:=q3 _ hx' _ (ct ..)
    simp only [rB,cW,fG.ix] at this
    have J:=A i r
    rw [this.2] at J; cases J
   obtain ⟨dn',L',C2,V,J,O,W,h5,X⟩:=DB T0 (fG.op k::s') dn L Y C F hp hn hm hy hl h
   refine MB (fun a hf=>EJ W a hf) X (V o ho Y (dn'.map fun p=>AO p.1 p.2) K fun L3 C3 P A2 Z g=>?_)
   have AB:(kx (T0++fG.op k::s') dn).filter (· != k)=kx s' dn':=by
    unfold kx
    rw [List.map_append,List.filter_append,List.map_cons,List.filter_append]
    have e1:(List.map fG.ix T0).filter (fun i=> !(dn.map (·.1)).contains i)=[]:=by
     apply List.filter_eq_nil_iff.2
     intro z hz
     obtain ⟨x,hx',rfl⟩:=cr.1 hz
     obtain ⟨i,b,rfl,hb⟩:=F x hx'
     simp only [fG.ix,Bool.not_eq_true',Bool.not_eq_false,List.contains_iff_mem]
     exact List.mem_map_of_mem (f:=(·.1)) hb
    rw [e1]
    simp only [List.filter_nil,List.nil_append]
    have u:k ∉ dn.map (·.1):=fun q=>by
     obtain ⟨p,hp',e⟩:=cr.1 q
     exact H p hp' e
    rw [List.filter_cons_of_pos (by simpa [fG.ix] using u),List.filter_cons_of_neg (by simp [fG.ix]),List.filter_filter]
    apply List.filter_congr
    intro z hz
    obtain ⟨y,hy',rfl⟩:=cr.1 hz
    have A3:y.ix≠k:=fun e=>by
     have:=q4 y hy'
     simp only [rB,cW,bne_iff_ne,fG.ix] at this
     exact this.1 e.symm
    rw [Bool.eq_iff_iff]
    simp only [cW,bne_iff_ne,Bool.not_eq_true',← Bool.not_eq_true,List.contains_iff_mem]
    constructor
    ·rintro ⟨_,hq⟩ hc
     obtain ⟨p,hp',e⟩:=cr.1 hc
     exact hq (by rw [← e]; exact List.mem_map_of_mem (f:=(·.1)) ((O p).1 hp').1)
    ·intro hq
     refine ⟨A3,fun hc=>?_⟩
     obtain ⟨p,hp',e⟩:=cr.1 hc
     apply hq
     rw [← e]
     refine List.mem_map_of_mem (f:=(·.1)) ((O p).2 ⟨hp',?_⟩)
     have ht:=hm p hp'
     rcases gR.1 ht with ht|ht
     ·exfalso
      have:=q3 _ ht _ (dJ _ hy')
      simp only [rB,cW,bne_iff_ne,fG.ix] at this
      exact this.1 e
     ·exact ht
   have N:(kx (T0++fG.op k::s') dn).Nodup:=by
    unfold kx
    refine List.Nodup.sublist List.filter_sublist<|List.pairwise_map.2 (hp.imp fun {a c} q=>?_)
    simp only [rB,cW,bne_iff_ne] at q
    exact q.1
   refine hK _ _ (fun w hw=>P w (hw.take (List.sublist_append_left _ _))) (fun q=>by cases q) ?_
   rw [AB]
   have hdn': ∀ p∈dn',fG.take p.1∈s':=fun p hp'=>by
    rcases bO.1 ((O p).1 hp').2 with e|e
    ·cases e
    ·exact e
   refine qj hal n s' dn' L3 Y C3 (fun i hi=>hal' i (by simp [hi])) q5 ?_ J hdn' (fun p hp'=>hy p ((O p).1 hp').1) (fun i hi=>?_) (zG Z) P g
   ·rw [← AB,← List.Nodup.erase_eq_filter N,List.length_erase_of_mem G,hlen]; rfl
   ·have:=cT.1 A2 _ (tL hi)
    simpa using this
/-- the rows, at any time; the others, one after the other -/
theorem Ev {tb rem:List Nat} {L:di} {C:List av} (s:List fG) (B:di) (dO:Nat→Nat) (VO:Nat→Nat→Value) (AO:Nat→Nat→av) {n:Nat} (htb:tb=[]) (hr:s.map fG.ix=rem) (hn:rem.length=n) (hp:SA (qa ops) dO s=true) (hl:((BL dO s).all fun d=>(L.lookup d).isNone)=true) (hB:B.map (fun p=>L.lookup p.1)=B.map (fun p=>some p.2)) (hC: ∀ w,St E.S E.w0 C w→St E.S E.w0 C' w)
 (hal: ∀ i,fG.take i∈s→QT E ops D C' B dO VO AO i) (h:CH E ops D C' K0 B dO VO AO s L C):TN E ops D C' C1 (fun L C=>KJ E K0 D L C) tb n rem L C:=by
 subst htb hr
 have e:kx s []=s.map fG.ix:=by unfold kx; simp
 have:=qj (C1:=C1) (fun i=> .inr trivial) n s [] L [] C hal (EZ hp) (by rw [e]; exact hn) List.nodup_nil (fun p hp=>by cases hp) (fun p hp=>by cases hp) (fun i hi=>by
  have:=cT.1 hl _ (tL hi)
  simpa using this) (zG hB) hC h
 simpa [e] using this
theorem Ka {p:Nat→Prop}: ∀ i,fG.take i∈([]:List fG)→p i:=fun i h=>by cases h
theorem qM {p:Nat→Prop} {j:Nat} {s:List fG} (h: ∀ i,fG.take i∈s→p i): ∀ i,fG.take i∈fG.op j::s→p i:=fun i hi=>by
 rcases bO.1 hi with e|hi
 ·cases e
 ·exact h i hi
theorem lY {p:Nat→Prop} {j:Nat} {s:List fG} (hj:p j) (h: ∀ i,fG.take i∈s→p i): ∀ i,fG.take i∈fG.take j::s→p i:=fun i hi=>by
 rcases bO.1 hi with e|hi
 ·cases e; exact hj
 ·exact h i hi
end
section
variable {E:eT} {ops:Array Oper} {D:List Deferred} {C':List av} {B:List (Nat×Value)} {dO:Nat→Nat} {VO:Nat→Nat→Value} {AO:Nat→Nat→av}
variable {d:Nat} {ty:TypeId} {ps:String} {af:Array Edge}
theorem HL {i t e sz:Nat} (ho:ops[i]? =some ⟨some d,.buildSlice t 0 #[],ty,ps,af,none⟩) (ht:tE E.P t=some (e,sz)) (hd:Nat.blt d E.n=true) (h1:dO i=d) (h2: ∀ b,VO i b= .slice (some ⟨b,0,none⟩) 0 0) (h3: ∀ b,AO i b=cm b e []):QT E ops D C' B dO VO AO i:=fun o ho' L C K hB _ hk=>by
 rw [ho] at ho'; cases ho'
 exact Q4 U ht hd fun b=>aD (by have:=hk b; rw [h1,h2,h3] at this; exact this)
theorem vf {i t e sz n:Nat} {xs:List Operand} {vs:List Value} {cs zs:List Value} (ho:ops[i]? =some ⟨some d,.buildSlice t n ((xs.zipIdx.map fun p=>(p.2,p.1)).toArray),ty,ps,af,none⟩) (ht:tE E.P t=some (e,sz)) (hz:tZ E.P e=some zs) (hx:evs B xs=some vs) (hn:xs.length=n) (hp:Nat.blt 0 (n*sz)=true) (hb:Nat.ble (n*sz) 16777216=true) (hv: ∀ v∈vs,v.cells.size=sz)
 (hc:(vs.map (·.cells.toList)).flatten=cs) (hd:Nat.blt d E.n=true) (h1:dO i=d) (h2: ∀ b,VO i b= .slice (some ⟨b,0,none⟩) n n) (h3: ∀ b,AO i b=cm b e cs):QT E ops D C' B dO VO AO i:=fun o ho' L C K hB _ hk=>by
 rw [ho] at ho'; cases ho'
 exact dZ U ht hz (D8 hB hx) hn hp hb hv hc hd fun b=>aD (by have:=hk b; rw [h1,h2,h3] at this; exact this)
end
section
variable {E:eT} {ops:Array Oper} {D:List Deferred} {C':List av} {K0:Act→World→Prop} {B:List (Nat×Value)} {dO:Nat→Nat} {VO:Nat→Nat→Value} {AO:Nat→Nat→av}
theorem qR {j:Nat} {s:List fG} {L:di} {C:List av} {o:Oper} (ho:ops[j]? =some o)
 (h: ∀ (Y:di) (X:List av) (K:Act→World→Prop),(∀ L' C'',(∀ w,St E.S E.w0 C'' w→St E.S E.w0 C' w)→((BL dO s).all fun d=>(L'.lookup d).isNone)=true→B.map (fun p=>L'.lookup p.1)=B.map (fun p=>some p.2)→CH E ops D C' K0 B dO VO AO s L' C''→KJ E K D (L'++Y) (C''++X))→RJ E ops (NQ K) [o] D (L++Y) (C++X)):CH E ops D C' K0 B dO VO AO (.op j::s) L C:=fun o' ho'=>by
 rw [ho] at ho'; cases ho'
 exact h
theorem nB {s:List fG} {L Y:di} {C X:List av} {K:Act→World→Prop} (hT: ∀ L' C'',(∀ w,St E.S E.w0 C'' w→St E.S E.w0 C' w)→((BL dO s).all fun d=>(L'.lookup d).isNone)=true→B.map (fun p=>L'.lookup p.1)=B.map (fun p=>some p.2)→CH E ops D C' K0 B dO VO AO s L' C''→KJ E K D (L'++Y) (C''++X)) (nL nC:Nat)
 (hL:L.take nL++Y=L) (hC:C.take nC++X=C) (h1: ∀ w,St E.S E.w0 (C.take nC) w→St E.S E.w0 C' w) (h2:((BL dO s).all fun d=>((L.take nL).lookup d).isNone)=true) (h3:B.map (fun p=>(L.take nL).lookup p.1)=B.map (fun p=>some p.2)) (h:CH E ops D C' K0 B dO VO AO s (L.take nL) (C.take nC)):RJ E ops (NQ K) [] D L C:=by
 have:=hT _ _ h1 h2 h3 h
 rw [hL,hC] at this
 exact aD this
theorem Nl {c:Code} {Q:cZ} {L L':di} {C:List av} (h:L'.map (fun p=>L.lookup p.1)=L'.map (fun p=>some p.2)) (k:WJ E c Q D L' C):WJ E c Q D L C:=fun a w hf hs=>k a w (EJ (zG h) a hf) hs
theorem wu: ∀ {C:List av} {i:Nat} {A:av},C[i]? =some A→C.Perm (A::C.eraseIdx i)
 |[],i,A,h=>by simp at h
 |x::C,0,A,h=>by
  simp at h; subst h
  exact List.Perm.refl _
 |x::C,i+1,A,h=>((wu (C:=C) (i:=i) (by simpa using h)).cons x).trans (List.Perm.swap _ _ _)
theorem St.front {S:BS} {w0 w:World} {C:List av} {A:av} (i:Nat) (hi:C[i]? =some A) (h:St S w0 C w):St S w0 (A::C.eraseIdx i) w:=h.perm (wu hi)
theorem El {K:Act→World→Prop} {L:di} {C:List av} {A:av} (i:Nat) (hi:C[i]? =some A) (h:KJ E K D L (A::C.eraseIdx i)):KJ E K D L C:=fun a w hf hs=>h a w hf (hs.front i hi)
theorem qY {Q:cZ} {rest:List Oper} {L:di} {C:List av} {A:av} (i:Nat) (hi:C[i]? =some A) (h:RJ E ops Q rest D L (A::C.eraseIdx i)):RJ E ops Q rest D L C:=fun a w hf hs=>h a w hf (hs.front i hi)
end
end
section
open Go.RowKit
theorem BG (l:List dh) (az:List kp): ∀ v∈(List.zipWith dh.cells l az).flatten,v.oneCell'=true:=by
 induction l generalizing az with
 |nil=>intro v hv; simp at hv
 |cons x l ih=>
  cases az with
  |nil=>intro v hv; simp at hv
  |cons a az=>
   intro v hv
   simp only [List.zipWith_cons_cons,List.flatten_cons,gR] at hv
   rcases hv with hv|hv
   ·simp only [dh.cells,wI.cells,bO,List.not_mem_nil,or_false] at hv
    rcases hv with rfl|rfl|rfl<;>rfl
   ·exact ih az v hv
theorem Mr: ∀ (m:dh) (a:kp) (w:World),(∀ X∈dh.owns m a,X.holds w)→ ∀ X∈dh.gn m a,X.holds w:=fun m a w h X hX=>by
 simp only [dh.gn,bO,List.not_mem_nil,or_false] at hX
 have A:=nv (h (own a.1.1 a.1.2 lR 1 (m.gu.map iC)) (by simp [dh.owns]))
 have B:=nv (h (own a.2.1.1 a.2.1.2 lR 1 (m.iO.map iC)) (by simp [dh.owns]))
 have C:=nv (h (own a.2.2.1 a.2.2.2 lR 1 (m.lP.map iC)) (by simp [dh.owns]))
 rcases hX with rfl|rfl|rfl
 ·simpa using A
 ·simpa using B
 ·simpa using C
theorem pz: ∀ (l:List dh) (az:List kp),(br dh.owns l az).all (·.wr)=true
 |[],_=>rfl
 |_::_,[]=>rfl
 |x::l,a::az=>by
  simp only [br,List.all_append,cW]
  exact ⟨U,pz l az⟩
theorem HF (l:List dh) (az:List kp):(bX (br dh.owns l az)).wr=true:=pz l az
theorem Ix {l m:List dh} {az bz:List kp} (h:az.length=l.length):List.zipWith dh.cells (l++m) (az++bz)=List.zipWith dh.cells l az++List.zipWith dh.cells m bz:=List.zipWith_append h.symm
theorem sW {l:List dh} {az:List kp} (h:az.length=l.length):(List.zipWith dh.cells l az).length=l.length:=by rw [List.length_zipWith]; omega
/-- what is read of a thing that is tied, and frozen -/
theorem pw {C L:List av} {a:OA} {c e sz n:Nat} {es:List (List Value)} (i:Nat) (hC:C[i]? =some (bX L).ro) (hm:own a c e sz es∈L) (hn:es.length=n):iN C (rd a n sz es).holds:=fun w hw=>by
 subst hn
 exact nv ((show (bX L).holds w from (hw _ (aR hC):(bX L).ro.holds w)).1 _ hm)
section
variable {E:eT} {ops:Array Oper} {Q:cZ} {rest:List Oper} {D:List Deferred} {L:List (Nat×Value)} {C C1:List av}
theorem St.NN {S:BS} {w0 w:World} {X C:List av} {A:av} (h:St S w0 (bX (X++[A])::C) w):St S w0 (A::bX X::C) w:=by
 have B:=h.je
 have D:St S w0 (X++(A::C)) w:=by simpa using B
 exact D.tied.perm (List.Perm.swap _ _ _)
theorem St.merge {S:BS} {w0 w:World} {X Y C:List av} (h:St S w0 (bX X::bX Y::C) w):St S w0 (bX (X++Y)::C) w:=by
 have A:St S w0 (bX Y::(X++C)) w:=(h.je).perm (List.perm_middle (a:=bX Y) (l₁:=X) (l₂:=C))
 have B:St S w0 (Y++(X++C)) w:=A.je
 have D:St S w0 ((X++Y)++C) w:=B.perm (by rw [← List.append_assoc]; exact List.perm_append_comm.append_right _)
 exact D.tied
end
section
variable {E:eT} {ops:Array Oper} {Q:cZ} {rest:List Oper} {D:List Deferred} {L:List (Nat×Value)} {C:List av}
theorem z7 {A:av} {X X':List av} (e:X++[A]=X') (h:RJ E ops Q rest D L (bX X'::C)):RJ E ops Q rest D L (A::bX X::C):=fun a w hf hs=>h a w hf (hs.tie e)
theorem yF {X:List av} {A:av} (h:RJ E ops Q rest D L (A::bX X::C)):RJ E ops Q rest D L (bX (X++[A])::C):=fun a w hf hs=>h a w hf hs.NN
theorem JC {K:Act→World→Prop} {ms ns:List dh} {az bz:List kp} (hl:az.length=ms.length) (h:KJ E K D L (bX (br dh.owns (ms++ns) (az++bz))::C)):KJ E K D L (bX (br dh.owns ms az)::bX (br dh.owns ns bz)::C):=fun a w hf hs=>h a w hf (by rw [kT hl.symm]; exact hs.merge)
end
/-- the head of the ways: the way that ends here, if it may -/
def wj (l:bg) (r:cx) (rs fs:List Int) (ra fa:RA) (hz:List kp) (LA:List av):Prop:=
 ((r.aa.length:Int)-(db rs).right≤l.iI∧ ∃ la:RA,hz=[(ra,fa,la)]∧LA=[own la.1 la.2 lR 1 ((jo l r rs).map iC)])∨(¬ (r.aa.length:Int)-(db rs).right≤l.iI∧hz=[]∧LA=[])
theorem wj.len {l:bg} {r:cx} {rs fs:List Int} {ra fa:RA} {hz:List kp} {LA:List av} (h:wj l r rs fs ra fa hz LA):hz.length=(gW l r rs fs).length:=by
 unfold gW
 rcases h with ⟨q,la,rfl,rfl⟩|⟨q,rfl,rfl⟩
 ·rw [if_pos q]; rfl
 ·rw [if_neg q]; rfl
theorem wj.wr {l:bg} {r:cx} {rs fs:List Int} {ra fa:RA} {hz:List kp} {LA:List av} (h:wj l r rs fs ra fa hz LA):LA.all (·.wr)=true:=by
 rcases h with ⟨q,la,rfl,rfl⟩|⟨q,rfl,rfl⟩<;>rfl
theorem IY {S:BS} {w0 w:World} {l:bg} {r:cx} {rs fs:List Int} {ra fa:RA} {hz az:List kp} {LA:List av} {R:List dh} {A:av} (hh:wj l r rs fs ra fa hz LA)
 (h:St S w0 [bX [own ra.1 ra.2 lR 1 (rs.map iC),own fa.1 fa.2 lR 1 (fs.map iC)],A,bX LA,bX (br dh.owns R az)] w):St S w0 [bX (br dh.owns (gW l r rs fs++R) (hz++az)++[A])] w:=by
 rw [kT hh.len.symm]
 have D:St S w0 [own ra.1 ra.2 lR 1 (rs.map iC),own fa.1 fa.2 lR 1 (fs.map iC),A,bX LA,bX (br dh.owns R az)] w:=h.je
 rcases hh with ⟨q,la,rfl,rfl⟩|⟨q,rfl,rfl⟩
 ·unfold gW
  rw [if_pos q]
  have B:=(St.kh [3,0,1,2,4] rfl rfl D).je
  have E:=(St.kh [4,1,2,0,3] rfl rfl B).je
  have C:St S w0 (((br dh.owns [(⟨rs,fs,jo l r rs⟩:dh)] [(ra,fa,la)]++br dh.owns R az)++[A])++[]) w:=by
   rw [List.append_nil]
   refine E.perm ?_
   show (br dh.owns R az++(br dh.owns [(⟨rs,fs,jo l r rs⟩:dh)] [(ra,fa,la)]++[A])).Perm _
   rw [← List.append_assoc]
   exact List.perm_append_comm.append_right _
  exact C.tied
 ·unfold gW
  rw [if_neg q]
  have B:=(St.kh [4,2] rfl rfl D).je
  have C:St S w0 (((br dh.owns [] []++br dh.owns R az)++[A])++[]) w:=by
   rw [List.append_nil]; exact B
  exact C.tied
theorem Hh {E:eT} {K:Act→World→Prop} {D:g6} {L:di} {l:bg} {r:cx} {rs fs:List Int} {ra fa:RA} {hz az z:List kp} {LA:List av} {R W:List dh} {A A':av} (hh:wj l r rs fs ra fa hz LA) (hW:gW l r rs fs++R=W) (hz':hz++az=z) (hA:A=A')
 (h:KJ E K D L [bX (br dh.owns W z++[A'])]):KJ E K D L [bX [own ra.1 ra.2 lR 1 (rs.map iC),own fa.1 fa.2 lR 1 (fs.map iC)],A,bX LA,bX (br dh.owns R az)]:=fun a w hf hs=>h a w hf (by subst hW hz' hA; exact IY hh hs)
theorem On {E:eT} {K:Act→World→Prop} {D:g6} {L:di} {X A:av} {W:List dh} (h:KJ E K D L [bX (br dh.owns W []++[A])]):KJ E K D L [X,A]:=fun a w hf hs=>h a w hf (by
 have B:St E.S E.w0 [A] w:=St.kh [1] rfl rfl hs
 have C:St E.S E.w0 (([]++[A])++[]) w:=B
 have e:br dh.owns W []=[]:=by cases W<;>rfl
 rw [e]
 exact C.tied)
theorem Gg {E:eT} {K:Act→World→Prop} {D:g6} {L:di} {C:List av} (e sz:Nat) (k:KJ E K D L (own none 0 e sz []::C)):KJ E K D L C:=fun a w hf hs=>k a w hf (hs.s9 e sz)
end
section
open Go.RowKit
theorem Lx (l:bg) (kA:OA) (kC:Nat) (az:List RA) (cA:OA) (cC:Nat) (bA:OA) (bC:Nat) (r:cx) (sgA:OA) (sgC:Nat) (hin:eo l az) (hsl:r.aa.length≤1000000):
 dx Tryz.prog 162 [(vA (cV.cells (jN l kA kC cA cC bA bC))),(vA (cN.cells (jf r sgA sgC)))] [(rd kA l.aV.length 9 (l.aV.map ao.cells)),(rd cA l.ar.length 2 (List.zipWith ay.cells l.ar az)),(dL (br ay.gn l.ar az)),(rd bA l.ab.length 4 (l.ab.map bI.cells)),(rd sgA r.aa.length 2 (r.aa.map aF.cells))] (vB (decide (dR l r))):=by
 have A0:=hin.sH
 have AO:=hin.sI
 have w:=hin.ot
 have AC:=hin.sL
 refine bB kr Tryz.func162 U U fun w0 Q hQ hN=>?_
 try dsimp only
 refine WS fun _ h=>er U fun b2=>er U fun b3=>bE 1 U<|RK h<|aj fun _ j=>WS fun _ H=>eN 2 [] (mc 0 U I) U<|rS (CL (iR r.Start 0 86400000) (aM) U)<|rP 2 [] I ?_
 refine bU (t:=11) U (bp fun X=>?_) (bo fun X=>?_)
 ·refine bE 13 U<|RK H<|aQ U<|WS fun _ k=>rP 1 [] I ?_
  refine RK k<|ak<|Q1 hQ U U U ?_
  exact cB (bD fun q=>by have C:=q.time; have u:=q.len; omega).symm
 refine eN 4 [] (mc 0 U I) U<|rS (CL (iR r.fJ r.Start 86400000) (aM) U)<|rP 3 [] I ?_
 refine bU (t:=19) U (bp fun Z=>?_) (bo fun Z=>?_)
 ·refine bE 5 U<|RK H<|aQ U<|WS fun _ m=>rP 1 [] I ?_
  refine RK m<|ak<|Q1 hQ U U U ?_
  exact cB (bD fun q=>by have C:=q.time; have u:=q.len; omega).symm
 refine rP 5 [] (mc 0 U I) ?_
 refine RK H<|cu U (aU fun a=>?_) (aT fun a=>?_)
 ·refine WS fun _ n=>rP 1 [] I ?_
  refine RK n<|ak<|Q1 hQ U U U ?_
  exact cB (bD fun q=>by have C:=q.time; have u:=q.len; omega).symm
 refine WK j<|aj fun _ o=>WS fun _ J=>rP 1 [] I ?_
 refine RK J<|aB ?_
 have F:(0≤r.aa.length)∧(ou l r.aa 0):=by exact ⟨Nat.zero_le _,uM⟩
 refine bT (ι:={z:Nat // (z≤r.aa.length)∧(ou l r.aa z)}) [2,3] [0,1,2,3,4,5,6] U U (fun z=>[(5,(vI (z.1:Int)))]) (fun z=>[]) (fun _=>rfl) (fun _=>rfl) (fun z=>r.aa.length-z.1) ⟨0,F⟩ (bx U) (aP [0,1,2,3,4,5,6]) ?_
 clear F
 rintro ⟨i,⟨p,A⟩⟩ J11 D
 try dsimp only
 refine aj fun _ K=>WS fun _ L=>rP 5 [] (mc 0 U I) ?_
 refine RK L<|bQ U (aT fun Y=>?_) (aU fun Y=>?_)
 ·refine bL<|ai<|ai<|aG<|KK o<|WS fun _ T=>rP 1 [] I ?_
  refine RK T<|ak<|Q1 hQ U U U ?_
  exact cB (dq (xd om om A om)).symm
 refine WK K<|aj fun _ E=>aB<|WS fun _ M=>rP 3 [] (mc 0 U I) ?_
 obtain ⟨x,hx⟩:=aJ r.aa i om
 have s:=bK aF.cells hx
 refine rS (IA i U (aA 6 U) zU dc om om)<|rS (lh i 0 (aF.cells x) U cb (aA 6 U) s U dc U U)<|AL U FW fun v=>fu U uT U<|RK M<|aj fun _ N=>WS fun _ G=>eN 6 [0,1] (mc 0 U (mc 2 U I)) U<|rS (CL (iR x.eZ 0 ((l.ab.length:Int)-1)) (aM) U)<|rP 2 [] I ?_
 refine bU (t:=45) U (bp fun b=>?_) (bo fun b=>?_)
 ·refine bE 5 U<|RK G<|aQ U<|WS fun _ O=>rP 1 [] I ?_
  refine RK O<|ak<|Q1 hQ U U U ?_
  exact cB (bD fun q=>by have C:=q.sig i x hx; unfold g5 ij at C; omega).symm
 refine eN 2 [] (mc 0 U I) U<|rS (CL (iR x.Read 0 86400000) (aM) U)<|rP 2 [] I ?_
 refine RK G<|cu U (bp fun c=>?_) (bo fun c=>?_)
 ·refine WS fun _ P=>rP 1 [] I ?_
  refine RK P<|ak<|Q1 hQ U U U ?_
  exact cB (bD fun q=>by have C:=q.sig i x hx; unfold g5 ij at C; omega).symm
 refine WK N<|aj fun _ B=>dg cp 38 kr<|dP 3 [] I ?_
 refine js (t:=53) U (aT fun d=>?_) (aU fun d=>?_)
 ·refine kI 35 U<|cE<|RK B<|cg U<|cf<|aL<|KK E<|aq<|rP 3 [] I ?_
  refine aD ?_
  have W:(vI (((i+1):Nat):Int))=(vI ((i:Int)+1)):=by exact cI om
  refine a7 (D ⟨(i+1),⟨om,ji A hx (by unfold g5 ij; (rw [E7 om]; simp only; omega))⟩⟩ _ _ _ U os (df.cons U<|df.cons U<|aX U W<|df.nil _) (aP [1,2,3,4,5,6,7]))
 refine dP 6 [0,1] (mc 0 U (mc 1 U I)) ?_
 obtain ⟨y,hy⟩:=aJ r.aa (i-1) om
 have AB:=bK aF.cells hy
 refine dS (IA (i-1) U (aA 7 U) zU dc om om)<|dS (qc ((i-1)*2) U (aA 7 U) (Nat.mul_pos om dc) fE U)<|dS (hG (i-1) 0 (vI y.eZ) U cb (aA 7 U) AB U dc U)<|dP 2 [] I ?_
 refine gY (t:=64) U (aU fun e=>?_) (aT fun e=>?_)
 ·refine kI 24 U<|cE<|RK B<|aQ U<|WS fun _ R=>rP 1 [] I ?_
  refine RK R<|ak<|Q1 hQ U U U ?_
  exact cB (bD fun q=>by have C:=q.sig i x hx; unfold g5 ij at C; (rw [rf om hy] at C; omega)).symm
 refine lu 6 [0,1] (mc 0 U (mc 1 U I)) U<|dS (IA (i-1) U (aA 7 U) zU dc om om)<|dS (qc ((i-1)*2) U (aA 7 U) (Nat.mul_pos om dc) fE U)<|dS (hG (i-1) 0 (vI y.eZ) U cb (aA 7 U) AB U dc U)<|dP 2 [] I ?_
 refine js (t:=75) U (aT fun f=>?_) (aU fun f=>?_)
 ·refine kI 13 U<|cE<|RK B<|cg U<|cf<|aL<|KK E<|aq<|rP 3 [] I ?_
  refine aD ?_
  have V:(vI (((i+1):Nat):Int))=(vI ((i:Int)+1)):=by exact cI om
  refine a7 (D ⟨(i+1),⟨om,ji A hx (by unfold g5 ij; (rw [rf om hy]; omega))⟩⟩ _ _ _ U os (df.cons U<|df.cons U<|aX U V<|df.nil _) (aP [1,2,3,4,5,6,7]))
 refine lu 6 [0,1] (mc 0 U (mc 1 U I)) U<|dS (IA (i-1) U (aA 7 U) zU dc om om)<|dS (qc (((i-1)*2)+1) U (aA 7 U) (Nat.mul_pos om dc) fE U)<|dS (hG (i-1) 1 (vI y.Read) U cb (aA 7 U) AB U dc U)<|dP 4 [] I ?_
 refine cE<|RK B<|cu U (aU fun g=>?_) (aT fun g=>?_)
 ·refine WS fun _ S=>rP 1 [] I ?_
  refine RK S<|ak<|Q1 hQ U U U ?_
  exact cB (bD fun q=>by have C:=q.sig i x hx; unfold g5 ij at C; (rw [rf om hy] at C; omega)).symm
 refine cf<|aL<|KK E<|aq<|rP 3 [] I ?_
 refine aD ?_
 have AA:(vI (((i+1):Nat):Int))=(vI ((i:Int)+1)):=by exact cI om
 refine a7 (D ⟨(i+1),⟨om,ji A hx (by unfold g5 ij; (rw [rf om hy]; omega))⟩⟩ _ _ _ U os (df.cons U<|df.cons U<|aX U AA<|df.nil _) (aP [1,2,3,4,5,6,7]))
end
section
open Go.RowKit
theorem KU (l:bg) (kA:OA) (kC:Nat) (az:List RA) (cA:OA) (cC:Nat) (bA:OA) (bC:Nat) (r:cx) (sgA:OA) (sgC:Nat) (hin:eo l az) (hle:dw l=0) (hr:dR l r):
 q6 Tryz.prog 164 [(vA (cV.cells (jN l kA kC cA cC bA bC))),(vA (cN.cells (jf r sgA sgC)))] [(rd kA l.aV.length 9 (l.aV.map ao.cells)),(rd cA l.ar.length 2 (List.zipWith ay.cells l.ar az)),(dL (br ay.gn l.ar az)),(rd bA l.ab.length 4 (l.ab.map bI.cells)),(rd sgA r.aa.length 2 (r.aa.map aF.cells))] (fun (x:(OA)×Nat×(OA)×Nat×(OA)×Nat)=>(vA (iJ.cells (iJ.mk (bH.mk x.1 ((b_ l l.ab.length).length) x.2.1) (bH.mk x.2.2.1 ((eB l r r.aa.length).length) x.2.2.2.1) (bH.mk x.2.2.2.2.1 ((eX l r r.aa.length).length) x.2.2.2.2.2))))) (fun (x:(OA)×Nat×(OA)×Nat×(OA)×Nat)=>True) (fun (x:(OA)×Nat×(OA)×Nat×(OA)×Nat)=>[(own x.1 x.2.1 3 1 ((b_ l l.ab.length).map iC)),(own x.2.2.1 x.2.2.2.1 53 2 ((eB l r r.aa.length).map ag.cells)),(own x.2.2.2.2.1 x.2.2.2.2.2 4 1 ((eX l r r.aa.length).map pV))]):=by
 have A7:=hin.sH
 have A3:=hin.sI
 have A1:=hin.ot
 have A2:=hin.sL
 obtain ⟨w,g⟩:=dK hle
 have t:=g.head
 unfold eL at t
 have A5:=hr.len
 have A6:=hr.time
 refine fR kr Tryz.func164 U U fun w0 Q hQ hN=>?_
 try dsimp only
 refine WS fun _ n=>er U fun b2=>er U fun b3=>AL U MS fun b4=>RK n<|WS fun _ o=>AL U MS fun h=>RK o<|aj fun _ p=>WS fun _ q=>rP 1 [] I ?_
 refine RK q<|aB<|ew 3 1 ?_
 have A:(0≤l.ab.length):=by exact Nat.zero_le _
 refine bT (ι:={z:Nat×(OA)×Nat // (z.1≤l.ab.length)}) [2,3,4,5] [2,3,4,5,6,7,8,9] U U (fun z=>[(6,(vI (z.1.1:Int)))]) (fun z=>[(own z.1.2.1 z.1.2.2 3 1 ((b_ l z.1.1).map iC)),(cm h 252 (iJ.cells (iJ.mk (bH.mk z.1.2.1 ((b_ l z.1.1).length) z.1.2.2) (bH.mk none 0 0) (bH.mk none 0 0))))]) (fun _=>rfl) (fun _=>rfl) (fun z=>l.ab.length-z.1.1) ⟨(0,none,0),A⟩ (bx U) (aP [2,3,4,5,6,7,8,9,0,1]) ?_
 clear A
 rintro ⟨⟨b,a,c⟩,F⟩ J9 m
 try dsimp only at F
 try dsimp only
 refine aj fun _ K=>WS fun _ L=>rP 5 [] (mc 2 U I) ?_
 refine RK L<|cu U (aU fun j=>?_) (aT fun j=>?_)
 ·refine WK K<|aj fun _ M=>aB<|dH cp [5,6,8] [1] [0] [0,1,2,3,4,5,6,7] [0,1,2,3,4,5,6,7,8,9] U U U U U<|eS U (FA 0 U fE U)<|fS U (L1 (vS a ((b_ l b).length) c) 9 U cb U U)<|eS U (LW 2 U cb U U)<|eS U (MV U) ?_
  have A4:=mT w g (i:=b) om
  refine eS U (CL (JG l kA kC az cA cC bA bC (b:Int) hin asm asm om) (bq [3,4,5,6]) U)<|eS U (FA 0 U fE U)<|ep U<|lX U fun T14 W=>dZ (xs:=[.tmp 21]) (cs:=[(vI (dV l (b:Int).toNat))]) U dp j5 U U U U (by simp [Value.cells]) U U fun y=>aD (W _ _ (aP [1,2,3,4,5,6,7,8]) (aP [1,2,3,4,5,6,7,8,9,10]) ?_)
  refine cj U fun T16 X=>?_
  refine fg (es2:=(List.map iC (b_ l (b+1)))) (m':=(b_ l (b+1)).length) 9 U U U ub U U sm (bk (es:=List.map iC [(dV l (b:Int).toNat)]) 0 U U (by simp [bJ]) U) (lT _) (by simp only [cP]; omega) (by simp only [maxLen,cP]; omega) (by rw [qx]; simp) sm U fun H AB=>?_
  try dsimp only
  refine aD (X _ _ (aP [1,2,3,4,5,6,7,8]) ?_)
  refine cj U fun T19 Y=>TF (iJ.cells (iJ.mk (bH.mk H ((b_ l (b+1)).length) AB) (bH.mk none 0 0) (bH.mk none 0 0))) U KV U U<|aD (Y _ _ (aP [1,2,3,4,5,6,7,8]) ?_)
  refine fH U<|aL<|KK M<|aq<|rP 3 [] I ?_
  refine aD ?_
  have e:(vI (((b+1):Nat):Int))=(vI ((b:Int)+1)):=by exact cI om
  refine a7 (m ⟨((b+1),H,AB),(by first|omega|(simp only []; omega))⟩ _ _ _ U os (cw 4<|aX U e<|df.nil _) (aP [1,2,3,4,5,6,7,8,9,10]))
 refine bL<|ai<|ai<|aG<|KK p<|aj fun _ N=>WS fun _ O=>?_
 rw [show b_ l b=(b_ l l.ab.length) from by rw [show b=l.ab.length by omega]]
 refine rP 1 [] I ?_
 refine RK O<|aB<|ew 53 2<|ew 4 1 ?_
 have A:(0≤r.aa.length):=by exact Nat.zero_le _
 refine bT (ι:={z:Nat×(OA)×Nat×(OA)×Nat // (z.1≤r.aa.length)}) [2,3,4,5] [2,3,4,5,6,7,8,9,10] U U (fun z=>[(7,(vI (z.1.1:Int)))]) (fun z=>[(own z.1.2.2.2.1 z.1.2.2.2.2 4 1 ((eX l r z.1.1).map pV)),(own z.1.2.1 z.1.2.2.1 53 2 ((eB l r z.1.1).map ag.cells)),(cm h 252 (iJ.cells (iJ.mk (bH.mk a ((b_ l l.ab.length).length) c) (bH.mk z.1.2.1 ((eB l r z.1.1).length) z.1.2.2.1) (bH.mk z.1.2.2.2.1 ((eX l r z.1.1).length) z.1.2.2.2.2))))]) (fun _=>rfl) (fun _=>rfl) (fun z=>r.aa.length-z.1.1) ⟨(0,none,0,none,0),A⟩ (bx U) (aP [2,3,4,5,6,7,8,9,10,0,1,11]) ?_
 clear A
 rintro ⟨⟨i,ta,tc,sa,sc⟩,G⟩ J23 J
 try dsimp only at G
 try dsimp only
 refine aj fun _ P=>WS fun _ R=>rP 5 [] (mc 1 U I) ?_
 refine RK R<|bQ U (aT fun k=>?_) (aU fun k=>?_)
 ·refine bL<|ai<|ai<|aG<|KK N<|WS fun _ V=>?_
  rw [show eB l r i=(eB l r r.aa.length) from by rw [show i=r.aa.length by omega]]
  rw [show eX l r i=(eX l r r.aa.length) from by rw [show i=r.aa.length by omega]]
  refine rP 1 [] (mc 11 U I) ?_
  refine fu U Si U<|RK V<|ak<|LX hQ (a,c,ta,tc,sa,sc) [8,10,9] [0] (mc 0 U I) U U U U ?_
  trivial
 refine WK P<|aj fun _ S=>aB<|aj fun _ T=>dH cp [10,11] [] [] [0,1,2,3,4,5,6,7,8,9,10,11] [] U U U U U<|eS U (LW 2 U cb U U)<|eS U (FA 2 U fE U)<|eS U (L1 (vS sgA r.aa.length sgC) 1 U cb U U)<|eS U (MV U) ?_
 obtain ⟨s,hs⟩:=aJ r.aa i om
 have v:=bK aF.cells hs
 refine eS U (IA i U (aA 7 U) zU dc om om)<|eS U (lh i 0 (aF.cells s) U cb (aA 7 U) v U dc U U) ?_
 have u:=(hr.sig i s hs).1
 refine eS U (CL (Mt l kA kC az cA cC bA bC s hin asm (by exact u)) (bq [3,4,5,6]) U)<|eS U (MV U)<|eS U (EX U)<|eS U (EX U)<|eS U (AG U)<|ep U<|cj U fun T29 Z=>AL U dN fun AC=>aD (Z _ _ (aP [1,2,3,4,5,6,7,8,9,10,11,12]) ?_)
 refine cj U fun T31 d=>fu U cS U<|aD (d _ _ (aP [1,2,3,4,5,6,7,8,9,10,11,12]) ?_)
 refine fH U<|KK T<|WS fun _ AA=>rP 3 [0,1] (mc 12 U (mc 0 U I)) ?_
 refine dZ (xs:=[.tmp 44]) (cs:=(ag.cells (cJ l s))) U kS dN U U U U (by simp [Value.cells,ag.aY]) U U fun AO=>?_
 refine fg (es2:=(List.map ag.cells (eB l r (i+1)))) (m':=(eB l r (i+1)).length) 12 U U U Ex U U sm (bk (es:=List.map ag.cells [(cJ l s)]) 0 U U (by simp [ag.aY]) U) (ky _) (by rw [rF om]; omega) (by rw [rF om]; simp only [maxLen]; omega) (by rw [Cy hs]; simp) sm U fun B C=>?_
 try dsimp only
 refine bE 1 U<|ib (vs:=[(vS B ((eB l r (i+1)).length) C)]) (cs':=(iJ.cells (iJ.mk (bH.mk a ((b_ l l.ab.length).length) c) (bH.mk B ((eB l r (i+1)).length) C) (bH.mk sa ((eX l r i).length) sc)))) (C':=[_,_,_,_,_,_,_,_,_,_,_,_,_,(cm h 252 (iJ.cells (iJ.mk (bH.mk a ((b_ l l.ab.length).length) c) (bH.mk B ((eB l r (i+1)).length) C) (bH.mk sa ((eX l r i).length) sc))))]) 13 U U U Ry U U U U U U U<|RK AA<|aq<|rP 3 [] (mc 13 U I) ?_
 refine dZ (xs:=[.tmp 50]) (cs:=[(vB (decide ((cJ l s).Lo≤(cJ l s).Hi)))]) U Nr UP U U U U (by simp [Value.cells]) U U fun A0=>?_
 refine fg (es2:=(List.map pV (eX l r (i+1)))) (m':=(eX l r (i+1)).length) 12 U U U R_ U U sm (bk (es:=List.map pV [(decide ((cJ l s).Lo≤(cJ l s).Hi))]) 0 U U (by simp [zC]) U) (F_ _) (by rw [uU om]; omega) (by rw [uU om]; simp only [maxLen]; omega) (by rw [Dh hs]; simp) sm U fun D E=>?_
 try dsimp only
 refine bE 1 U<|ib (vs:=[(vS D ((eX l r (i+1)).length) E)]) (cs':=(iJ.cells (iJ.mk (bH.mk a ((b_ l l.ab.length).length) c) (bH.mk B ((eB l r (i+1)).length) C) (bH.mk D ((eX l r (i+1)).length) E)))) (C':=[_,_,_,_,_,_,_,_,_,_,_,_,_,_,(cm h 252 (iJ.cells (iJ.mk (bH.mk a ((b_ l l.ab.length).length) c) (bH.mk B ((eB l r (i+1)).length) C) (bH.mk D ((eX l r (i+1)).length) E))))]) 14 U U U QJ U U U U U U U<|aD<|aL<|KK S<|aq<|bE 2 U<|rP 1 [] I ?_
 refine aD ?_
 have f:(vI (((i+1):Nat):Int))=(vI ((i:Int)+1)):=by exact cI om
 refine a7 (J ⟨((i+1),B,C,D,E),(by first|omega|(simp only []; omega))⟩ _ _ _ U os (cw 4<|aX U f<|df.nil _) (aP [3,4,5,6,7,8,9,10,11,12,13,14]))
theorem Ha (r:cx) (sgA:OA) (sgC:Nat) (l:bg) (wA:OA) (wC:Nat) (tA:OA) (tC:Nat) (bA:OA) (bC:Nat) (rs:List Int) (rsA:OA) (rsC:Nat) (hle:dw l=0) (hr:dR l r) (hn:rs.length≤l.ab.length) (hrs: ∀ x∈rs,0≤x→x<(r.aa.length:Int)):
 q6 Tryz.prog 176 [(vA (cN.cells (jf r sgA sgC))),(vA (iJ.cells (iJ.mk (bH.mk wA ((b_ l l.ab.length).length) wC) (bH.mk tA ((eB l r r.aa.length).length) tC) (bH.mk bA ((eX l r r.aa.length).length) bC)))),(vS rsA rs.length rsC)] [(rd sgA r.aa.length 2 (r.aa.map aF.cells)),(rd wA ((b_ l l.ab.length).length) 1 ((b_ l l.ab.length).map iC)),(rd tA ((eB l r r.aa.length).length) 2 ((eB l r r.aa.length).map ag.cells)),(rd bA ((eX l r r.aa.length).length) 1 ((eX l r r.aa.length).map pV)),(rd rsA rs.length 1 (rs.map iC))] (fun (x:(OA)×Nat)=>(vS x.1 ((jo l r rs).length) x.2)) (fun (x:(OA)×Nat)=>True) (fun (x:(OA)×Nat)=>[(own x.1 x.2 3 1 ((jo l r rs).map iC))]):=by
 obtain ⟨J,D⟩:=dK hle
 have v:=D.head
 unfold eL at v
 have A4:=hr.len
 have A5:=hr.time
 have w:=Ey (l:=l) (rs:=rs) ⟨om,om⟩ (fun b hb=>by have:=mT J D (i:=b) om; omega) hrs
 have A2:=cP (l:=l) (n:=l.ab.length)
 have A6:=rF (l:=l) (Nat.le_refl r.aa.length)
 refine fR kr Tryz.func176 U U fun w0 Q hQ hN=>?_
 try dsimp only
 refine WS fun _ h=>er U fun b2=>er U fun b3=>bE 1 U<|RK h<|WS fun _ m=>rP 2 [] I ?_
 refine u3 (n:=rs.length) (es:=(List.map iC (List.replicate rs.length 0))) U U U ub om om (by simp only [maxLen]; omega) (by rw [List.map_replicate]; rfl) U fun E=>?_
 try dsimp only
 refine bE 1 U<|RK m<|WS fun _ p=>eN 3 [] (mc 2 U I) U<|RK p<|aj fun _ q=>WS fun _ t=>rP 4 [] I ?_
 refine RK t<|aB ?_
 rw [show (own (some ⟨E,0,none⟩) rs.length 3 1 (List.map iC (List.replicate rs.length 0)))=(own (some ⟨E,0,none⟩) rs.length 3 1 ((jH l r rs rs.length).map iC)) from by rw [F1]]
 have B:(rs.length≤rs.length):=by exact Nat.le_refl _
 have u:(vI ((jK l r rs rs.length).2))=(vI r.fJ):=by rw [uB]
 refine bT (ι:={z:Nat // (z≤rs.length)}) [2,3,4,7] [1,2,3,4,5,6,7] U U (fun z=>[(8,(vI ((jK l r rs z.1).2))),(9,(vI ((z.1:Int)-1)))]) (fun z=>[(own (some ⟨E,0,none⟩) rs.length 3 1 ((jH l r rs z.1).map iC))]) (fun _=>rfl) (fun _=>rfl) (fun z=>z.1) ⟨rs.length,B⟩ (aX U u<|bx U) (aP [1,2,3,4,5,6,7,0]) ?_
 clear B
 rintro ⟨j,AC⟩ J10 F
 try dsimp only
 have A3:=FR (l:=l) (r:=r) (rs:=rs) (j:=j) om
 refine aj fun _ L=>WS fun _ M=>rP 2 [] I ?_
 refine RK M<|bQ U (aT fun g=>?_) (aU fun g=>?_)
 ·refine bL<|ai<|ai<|aG<|KK q<|WS fun _ R=>rP 1 [] I ?_
  rw [show (Value.slice (some ⟨E,0,none⟩) rs.length rs.length)=(Value.slice (some ⟨E,0,none⟩) ((jo l r rs).length) rs.length) from by rw [show (jo l r rs).length=rs.length from rm _ _]]
  rw [show jH l r rs j=jo l r rs from by rw [show j=0 by omega]; exact CQ]
  refine rP 1 [] I ?_
  refine RK R<|ak<|LX hQ ((some ⟨E,0,none⟩),rs.length) [7] [] I U U U U ?_
  trivial
 refine WK L<|aj fun _ G=>aB<|aj fun _ H=>WS fun _ N=>rP 2 [] I ?_
 have A1:=w (rs.length-j) j om
 obtain ⟨x,hx⟩:=aJ rs (j-1) om
 have d:=bK iC hx
 refine rS (IA (j-1) U (aA 6 U) dp dc om om)<|rS (hG (j-1) 0 (vI x) U cb (aA 6 U) d U dc U)<|rP 1 [] I ?_
 refine RK N<|bQ U (aT fun A=>?_) (aU fun A=>?_)
 ·refine WK H<|WS fun _ P=>rP 3 [] I ?_
  obtain ⟨A9,c⟩:=aJ (jH l r rs j) (j-1) om
  have hx25m:=bK iC c
  refine rS (IA (j-1) U (aN (n:=rs.length) 7 U sq) dp dc om om) ?_
  have V:((jH l r rs j).set (j-1) ((jK l r rs j).2))=(jH l r rs (j-1)):=by (rw [← yb om hx]; congr 1; unfold tj; (rw [if_neg A]; done))
  refine iU (k:=(j-1)) (o:=0) (vs:=[(vI ((jK l r rs j).2))]) (es':=(List.map iC (jH l r rs (j-1)))) (C':=[_,_,_,_,_,_,_,(own (some ⟨E,0,none⟩) rs.length 3 1 (List.map iC (jH l r rs (j-1))))]) 7 U U U ER U U U U hx25m U dc (by exact (List.map_set (f:=iC) (l:=(jH l r rs j)) (i:=(j-1)) (a:=(jK l r rs j).2)).symm.trans (congrArg _ V)) U<|RK P<|aq<|rP 4 [] (mc 0 U I) ?_
  obtain ⟨y,hy⟩:=aJ (b_ l l.ab.length) (j-1) om
  have K:=bK iC hy
  refine rS (IA (j-1) U (aA 3 U) dp dc om om)<|rS (hG (j-1) 0 (vI y) U cb (aA 3 U) K U dc U) ?_
  have C:=uX hy
  have AB:=mT J D (i:=j-1) om
  rw [← C] at AB
  refine bE 2 U<|aD<|aL<|KK G<|aq<|rP 3 [] I ?_
  refine aD ?_
  have W:(vI ((jK l r rs (j-1)).2))=(vI (((jK l r rs j).2)-y)):=by exact cI (by rw [pg om hx]; simp only; unfold tj; rw [C]; (rw [if_neg A]; done))
  have X:(vI ((((j-1):Nat):Int)-1))=(vI (((j:Int)-1)-1)):=by exact cI om
  refine a7 (F ⟨(j-1),(by first|omega|(simp only []; omega))⟩ _ _ _ U os (cw 4<|aX U W<|aX U X<|df.nil _) (aP [0,1,2,3,4,5,6,7]))
 refine dg cp 12 kr<|dP 5 [] (mc 0 U I) ?_
 refine dS (IA (j-1) U (aA 6 U) dp dc om om)<|dS (hG (j-1) 0 (vI x) U cb (aA 6 U) d U dc U) ?_
 have A7:=hrs x (aR hx) A
 obtain ⟨z,hz⟩:=aJ (eB l r r.aa.length) ((x).toNat) om
 have A0:=bK ag.cells hz
 refine dS (IA ((x).toNat) U (aA 4 U) kS dc om om)<|dS (qc ((((x).toNat)*2)+1) U (aA 4 U) (Nat.mul_pos om dc) fE U) ?_
 obtain ⟨s,hs,e⟩:=HT hz
 have AO:=wD l s
 rw [← e] at AO
 have Y:KA l r x=z.Hi:=by rw [CA hs,e]
 refine dS (hG ((x).toNat) 1 (vI z.Hi) U cb (aA 4 U) A0 U dc U)<|dS (MN U)<|kI 1 U<|cE<|RK H<|WS fun _ O=>rP 3 [] I ?_
 obtain ⟨A8,Z⟩:=aJ (jH l r rs j) (j-1) om
 have hx19m:=bK iC Z
 refine rS (IA (j-1) U (aN (n:=rs.length) 7 U sq) dp dc om om) ?_
 have S:((jH l r rs j).set (j-1) (min ((jK l r rs j).2) z.Hi))=(jH l r rs (j-1)):=by (rw [← yb om hx]; congr 1; unfold tj; (rw [if_pos A,Y]; done))
 refine iU (k:=(j-1)) (o:=0) (vs:=[(vI (min ((jK l r rs j).2) z.Hi))]) (es':=(List.map iC (jH l r rs (j-1)))) (C':=[_,_,_,_,_,_,_,(own (some ⟨E,0,none⟩) rs.length 3 1 (List.map iC (jH l r rs (j-1))))]) 7 U U U ER U U U U hx19m U dc (by exact (List.map_set (f:=iC) (l:=(jH l r rs j)) (i:=(j-1)) (a:=(min ((jK l r rs j).2) z.Hi))).symm.trans (congrArg _ S)) U<|RK O<|aq<|rP 4 [] (mc 0 U I) ?_
 obtain ⟨y,hy⟩:=aJ (b_ l l.ab.length) (j-1) om
 have K:=bK iC hy
 refine rS (IA (j-1) U (aA 3 U) dp dc om om)<|rS (hG (j-1) 0 (vI y) U cb (aA 3 U) K U dc U) ?_
 have C:=uX hy
 have AB:=mT J D (i:=j-1) om
 rw [← C] at AB
 refine bE 2 U<|aD<|aL<|KK G<|aq<|rP 3 [] I ?_
 refine aD ?_
 have T:(vI ((jK l r rs (j-1)).2))=(vI ((min ((jK l r rs j).2) z.Hi)-y)):=by exact cI (by rw [pg om hx]; simp only; unfold tj; rw [C]; (rw [if_pos A,Y]; done))
 have AA:(vI ((((j-1):Nat):Int)-1))=(vI (((j:Int)-1)-1)):=by exact cI om
 refine a7 (F ⟨(j-1),(by first|omega|(simp only []; omega))⟩ _ _ _ U os (cw 4<|aX U T<|aX U AA<|df.nil _) (aP [0,1,2,3,4,5,6,7]))
end
end Go.Proofs.YtijpnoadncadoaaGreatDoor
