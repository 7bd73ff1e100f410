/-
 The statement juryHit_said, part 7 of 8: Jw4, Jw5, Rc1, Rc2, Rc3, Rc4, Rs1, S2, Rs2, Rs3, Rs4, Rt2, Jw6, Jw7, Jw8, Jw9, Jwa, Jwc, B7, B8, Rr2, Jr1, B9, Rr1.
 Conditions: none.
-/
import Derived.Test.YtijpnoadncadoaaGreatDoorTx1
import Derived.Test.YtijpnoadncadoaaGreatDoorTx2
import Derived.Test.YtijpnoadncadoaaGreatDoorTx3
import Derived.Test.YtijpnoadncadoaaGreatDoorTx4
import Derived.Test.YtijpnoadncadoaaGreatDoorTx5
import Derived.Test.YtijpnoadncadoaaGreatDoorTx6
namespace Go.Proofs.YtijpnoadncadoaaGreatDoor
set_option maxRecDepth 100000
set_option maxHeartbeats 4000000
set_option linter.unusedVariables false
section
open Go.RowKit
theorem JN (j:cN) (kA:OA) (kC:Nat) (az:List RA) (cA:OA) (cC:Nat) (bA:OA) (bC:Nat) (slA:OA) (slC:Nat) (drA:OA) (drC:Nat) (ha:List cW) (heA:OA) (heC:Nat) (faA:OA) (faC:Nat) (prA:OA) (prC:Nat) (fw ff ft:Int) (d:av) (sgA:OA) (sgC:Nat) (hin:gG j az ha) (hw:0≤fw∧fw≤1000000) (hsl:d.a_.aa.length≤1000000):
 dG Tryz.prog 34 [(vA (c_.cells (c_.mk (nY j kA kC cA cC bA bC slA slC drA drC heA heC faA faC prA prC)))),(vA (aM.cells (aM.mk 1 fw ff ft))),(vA (aP.cells (aP.mk d.Out d.dj d.Time (jk d.a_ sgA sgC))))] [(rd kA j.Race.ar.aV.length 9 (j.Race.ar.aV.map ao.cells)),(rd cA j.Race.ar.aj.length 2 (List.zipWith aw.cells j.Race.ar.aj az)),(dR (bj aw.f_ j.Race.ar.aj az)),(rd bA j.Race.ar.ab.length 4 (j.Race.ar.ab.map bJ.cells)),(rd slA j.Race.aY.length 1 (j.Race.aY.map iC)),(rd drA j.Race.ck.length 1 (j.Race.ck.map iC)),(rd heA j.Race.aB.length 1 (List.zipWith cL j.Race.aB ha)),(dR (bj eY j.Race.aB ha)),(rd faA j.ay.length 4 (j.ay.map aM.cells)),(rd prA j.aD.length 5 (j.aD.map aX.cells)),(rd sgA d.a_.aa.length 2 (d.a_.aa.map aG.cells))] (Value.int .u8 (eC j.Race.ar (aM.mk 1 fw ff ft) d)):=by
 have l:=hin.race
 have h:=hin.race.line
 have r:=hin.race.ij
 have s:=hin.race.has
 have m:=hin.race.ic
 have i:=hin.nf
 have k:=hin.np
 refine bG kr Tryz.func34 U U fun u Q hQ hN=>?_
 try dsimp only
 refine WS fun _ a=>eI U fun n=>eI U fun o=>eI U fun p=>bD 1 U<|RK a<|ak fun _ b=>WS fun _ c=>eQ 1 [] (mc 0 U mn) U<|rS (CL (uj d.Out d.dj d.Time (jk d.a_ sgA sgC)) (aO) U)<|rP 1 [] mn ?_
 refine RK c<|cx U (bq fun A=>?_) (br fun A=>?_)
 ·refine WS fun _ e=>rP 1 [] mn ?_
  refine RK e<|aq<|Q1 hQ U U U ?_
  (rw [sh (fun q=>A q)]; done)
 refine WK b<|ak fun _ f=>dA ct [4,5] [] [] [0,1,2,3,4,5,6,7,8,9,10,11,12,13] [] U U U U U<|eS U (CL xq (aO) U)<|eS U (FA 0 U fj U)<|eS U (L1 (Value.int .u8 1) 1 U cj U U)<|eS U (SX (vu (vs:=(eX.cells (eX.mk (Value.func (.func 84) [].toArray [].toArray) (Value.func (.func 83) [].toArray [].toArray)))) 1 U U U Kx cj U dc U) U U)<|eh U<|cd U fun T9 g=>AL U Jq fun X=>aF (g _ _ (aQ [1,2,3,4,5,6,7,8,9,10,11,12,13,14]) ?_)
 refine cd U fun T11 W=>fG U Jj U<|aF (W _ _ (aQ [1,2,3,4,5,6,7,8,9,10,11,12,13,14]) ?_)
 refine fp U<|KK f<|WS fun _ V=>eQ 4 [0,1,2] (mc 0 U (mc 3 U (mc 2 U mn))) U<|rS (CL (Sl j kA kC cA cC bA bC slA slC drA drC heA heC faA faC prA prC 1 fw ff ft) (aO) U)<|rP 5 [] mn ?_
 refine RK V<|ak fun _ AA=>mA ct [0,1,2,3,4,5,6,7,8,9] [10,11,12,13] [false,false,false,false,false,false,false,false,false,false] [] [(cu X 132 (eX.cells (eX.mk (Value.func (.func 84) [].toArray [].toArray) (Value.func (.func 83) [].toArray [].toArray)))),(cu p 58 (aP.cells (aP.mk d.Out d.dj d.Time (jk d.a_ sgA sgC)))),(cu o 80 (aM.cells (aM.mk 1 fw ff ft))),(cu n 93 (c_.cells (c_.mk (nY j kA kC cA cC bA bC slA slC drA drC heA heC faA faC prA prC)))),(rd kA j.Race.ar.aV.length 9 (j.Race.ar.aV.map ao.cells)).ro,(rd cA j.Race.ar.aj.length 2 (List.zipWith aw.cells j.Race.ar.aj az)).ro,(dR (bj aw.f_ j.Race.ar.aj az)).ro,(rd bA j.Race.ar.ab.length 4 (j.Race.ar.ab.map bJ.cells)).ro,(rd slA j.Race.aY.length 1 (j.Race.aY.map iC)).ro,(rd drA j.Race.ck.length 1 (j.Race.ck.map iC)).ro,(rd heA j.Race.aB.length 1 (List.zipWith cL j.Race.aB ha)).ro,(dR (bj eY j.Race.aB ha)).ro,(rd faA j.ay.length 4 (j.ay.map aM.cells)).ro,(rd prA j.aD.length 5 (j.aD.map aX.cells)).ro,(rd sgA d.a_.aa.length 2 (d.a_.aa.map aG.cells)).ro] [] kr (aQ [0,1,2,3,4,5,6,7,8,9,10,11,12,13,14]) (aQ [])<|eS U (LW 3 U cj U U)<|eS U (FA 4 U fj U)<|eS U (LP (cz.cells (jk d.a_ sgA sgC)) 1 U cj U U U)<|eS U (MV U)<|eS U (CL (l4 j kA kC az cA cC bA bC slA slC drA drC ha heA heC faA faC prA prC d.a_ sgA sgC (-1) hin hsl) (bu [4,5,6,7,8,9,10,11,12,13,14]) U)<|eS U (LW 3 U cj U U)<|eS U (FA 4 U fj U)<|eS U (LP (cz.cells (jk d.a_ sgA sgC)) 1 U cj U U U)<|eS U (MV U)<|eS U (CL (l4 j kA kC az cA cC bA bC slA slC drA drC ha heA heC faA faC prA prC d.a_ sgA sgC j.Race.ar.bS hin hsl) (bu [4,5,6,7,8,9,10,11,12,13,14]) U)<|eh U<|mU [10,11] kr (iI ?_<|iI ?_<|qt)
 rotate_left 1
 ·refine NO U U [10,12,13] fun T14 P=>AL U oN fun Y=>RD P 1 U<|N1 10<|NO U U [12,13] fun T16 R=>AL U oN fun Z=>RD R 2 U<|N1 12<|NO U U [13] fun T18 S=>fG U mF U<|RD S 2 U<|N1 13<|NO U U [] fun T19 T=>qO U mF U<|RD T 2 U<|lX<|KK AA<|ak fun _ F=>aH<|WS fun _ E=>rP 3 [] (mc 0 U mn) ?_
  refine b_ (t:=40) U (fun C=>?_) (fun C=>?_)
  ·refine bD 16 U<|RK E<|aS U<|WS fun _ J=>rP 1 [] mn ?_
   refine RK J<|aq<|Q1 hQ U U U ?_
   (rw [jL rfl A]; (rw [gU (.inl C)]; done))
  refine rP 8 [0,1] (mc 0 U (mc 4 U mn)) ?_
  refine b_ (t:=48) U (aU fun D=>?_) (aT fun D=>?_)
  ·refine bD 8 U<|RK E<|aS U<|WS fun _ K=>rP 1 [] mn ?_
   refine RK K<|aq<|Q1 hQ U U U ?_
   (rw [jL rfl A]; (rw [gU (.inr (.inl D))]; done))
  refine rP 8 [0,1] (mc 1 U (mc 4 U mn)) ?_
  refine RK E<|cx U (aU fun B=>?_) (aT fun B=>?_)
  ·refine WS fun _ L=>rP 1 [] mn ?_
   refine RK L<|aq<|Q1 hQ U U U ?_
   (rw [jL rfl A]; (rw [gU (.inr (.inr B))]; done))
  refine WS fun _ G=>rP 3 [] (mc 0 U mn) ?_
  refine cp (t:=59) U (fun AB=>?_) (fun AB=>?_)
  ·refine bD 8 U<|RK G<|bR U<|cf<|aN<|KK F<|WS fun _ O=>rP 1 [] mn ?_
   refine RK O<|aq<|Q1 hQ U U U ?_
   (rw [jL rfl A]; (rw [jH (AK (by simpa using C) (by first|exact D|(simp only []; omega)) (by first|exact B|(simp only []; omega))) (fun q=>by rw [AB] at q; exact Bool.noConfusion q.1)]; done))
  refine eQ 5 [0,1,2,3] (mc 2 U (mc 4 U (mc 0 U (mc 1 U mn)))) U<|rS (CL (tN 1 fw ff ft ((cr j.Race.ar d.a_ (-1)).Lo) ((cr j.Race.ar d.a_ (-1)).Hi) ((cr j.Race.ar d.a_ (-1)).each) ((cr j.Race.ar d.a_ (-1)).never) ((cr j.Race.ar d.a_ j.Race.ar.bS).Lo) ((cr j.Race.ar d.a_ j.Race.ar.bS).Hi) ((cr j.Race.ar d.a_ j.Race.ar.bS).each) ((cr j.Race.ar d.a_ j.Race.ar.bS).never)) (aO) U)<|rP 2 [] mn ?_
  refine RK G<|cx U (aU fun H=>?_) (aT fun H=>?_)
  ·refine WS fun _ M=>rP 1 [] mn ?_
   refine RK M<|aq<|Q1 hQ U U U ?_
   (rw [jL rfl A]; (rw [pb (AK (by simpa using C) (by first|exact D|(simp only []; omega)) (by first|exact B|(simp only []; omega))) AB ((oL (show ¬ (1:Int)=3 by decide)).2 H)]; done))
  refine cf<|aN<|KK F<|WS fun _ N=>rP 1 [] mn ?_
  refine RK N<|aq<|Q1 hQ U U U ?_
  (rw [jL rfl A]; (rw [jH (AK (by simpa using C) (by first|exact D|(simp only []; omega)) (by first|exact B|(simp only []; omega))) (fun q=>H ((oL (show ¬ (1:Int)=3 by decide)).1 q.2))]; done))
 refine NO U U [11,12,13] fun T14 P=>AL U oN fun Y=>RD P 1 U<|N1 11<|NO U U [12,13] fun T16 R=>AL U oN fun Z=>RD R 2 U<|N1 12<|NO U U [13] fun T18 S=>qO U mF U<|RD S 2 U<|N1 13<|NO U U [] fun T19 T=>fG U mF U<|RD T 2 U<|lX<|KK AA<|ak fun _ F=>aH<|WS fun _ E=>rP 3 [] (mc 1 U mn) ?_
 refine b_ (t:=40) U (fun C=>?_) (fun C=>?_)
 ·refine bD 16 U<|RK E<|aS U<|WS fun _ J=>rP 1 [] mn ?_
  refine RK J<|aq<|Q1 hQ U U U ?_
  (rw [jL rfl A]; (rw [gU (.inl C)]; done))
 refine rP 8 [0,1] (mc 1 U (mc 4 U mn)) ?_
 refine b_ (t:=48) U (aU fun D=>?_) (aT fun D=>?_)
 ·refine bD 8 U<|RK E<|aS U<|WS fun _ K=>rP 1 [] mn ?_
  refine RK K<|aq<|Q1 hQ U U U ?_
  (rw [jL rfl A]; (rw [gU (.inr (.inl D))]; done))
 refine rP 8 [0,1] (mc 0 U (mc 4 U mn)) ?_
 refine RK E<|cx U (aU fun B=>?_) (aT fun B=>?_)
 ·refine WS fun _ L=>rP 1 [] mn ?_
  refine RK L<|aq<|Q1 hQ U U U ?_
  (rw [jL rfl A]; (rw [gU (.inr (.inr B))]; done))
 refine WS fun _ G=>rP 3 [] (mc 1 U mn) ?_
 refine cp (t:=59) U (fun AB=>?_) (fun AB=>?_)
 ·refine bD 8 U<|RK G<|bR U<|cf<|aN<|KK F<|WS fun _ O=>rP 1 [] mn ?_
  refine RK O<|aq<|Q1 hQ U U U ?_
  (rw [jL rfl A]; (rw [jH (AK (by simpa using C) (by first|exact D|(simp only []; omega)) (by first|exact B|(simp only []; omega))) (fun q=>by rw [AB] at q; exact Bool.noConfusion q.1)]; done))
 refine eQ 5 [0,1,2,3] (mc 2 U (mc 4 U (mc 1 U (mc 0 U mn)))) U<|rS (CL (tN 1 fw ff ft ((cr j.Race.ar d.a_ (-1)).Lo) ((cr j.Race.ar d.a_ (-1)).Hi) ((cr j.Race.ar d.a_ (-1)).each) ((cr j.Race.ar d.a_ (-1)).never) ((cr j.Race.ar d.a_ j.Race.ar.bS).Lo) ((cr j.Race.ar d.a_ j.Race.ar.bS).Hi) ((cr j.Race.ar d.a_ j.Race.ar.bS).each) ((cr j.Race.ar d.a_ j.Race.ar.bS).never)) (aO) U)<|rP 2 [] mn ?_
 refine RK G<|cx U (aU fun H=>?_) (aT fun H=>?_)
 ·refine WS fun _ M=>rP 1 [] mn ?_
  refine RK M<|aq<|Q1 hQ U U U ?_
  (rw [jL rfl A]; (rw [pb (AK (by simpa using C) (by first|exact D|(simp only []; omega)) (by first|exact B|(simp only []; omega))) AB ((oL (show ¬ (1:Int)=3 by decide)).2 H)]; done))
 refine cf<|aN<|KK F<|WS fun _ N=>rP 1 [] mn ?_
 refine RK N<|aq<|Q1 hQ U U U ?_
 (rw [jL rfl A]; (rw [jH (AK (by simpa using C) (by first|exact D|(simp only []; omega)) (by first|exact B|(simp only []; omega))) (fun q=>H ((oL (show ¬ (1:Int)=3 by decide)).1 q.2))]; done))
theorem KI (j:cN) (kA:OA) (kC:Nat) (az:List RA) (cA:OA) (cC:Nat) (bA:OA) (bC:Nat) (slA:OA) (slC:Nat) (drA:OA) (drC:Nat) (ha:List cW) (heA:OA) (heC:Nat) (faA:OA) (faC:Nat) (prA:OA) (prC:Nat) (fw ff ft:Int) (d:av) (sgA:OA) (sgC:Nat) (hin:gG j az ha) (hw:0≤fw∧fw≤1000000) (hsl:d.a_.aa.length≤1000000):
 dG Tryz.prog 34 [(vA (c_.cells (c_.mk (nY j kA kC cA cC bA bC slA slC drA drC heA heC faA faC prA prC)))),(vA (aM.cells (aM.mk 2 fw ff ft))),(vA (aP.cells (aP.mk d.Out d.dj d.Time (jk d.a_ sgA sgC))))] [(rd kA j.Race.ar.aV.length 9 (j.Race.ar.aV.map ao.cells)),(rd cA j.Race.ar.aj.length 2 (List.zipWith aw.cells j.Race.ar.aj az)),(dR (bj aw.f_ j.Race.ar.aj az)),(rd bA j.Race.ar.ab.length 4 (j.Race.ar.ab.map bJ.cells)),(rd slA j.Race.aY.length 1 (j.Race.aY.map iC)),(rd drA j.Race.ck.length 1 (j.Race.ck.map iC)),(rd heA j.Race.aB.length 1 (List.zipWith cL j.Race.aB ha)),(dR (bj eY j.Race.aB ha)),(rd faA j.ay.length 4 (j.ay.map aM.cells)),(rd prA j.aD.length 5 (j.aD.map aX.cells)),(rd sgA d.a_.aa.length 2 (d.a_.aa.map aG.cells))] (Value.int .u8 (eC j.Race.ar (aM.mk 2 fw ff ft) d)):=by
 have l:=hin.race
 have h:=hin.race.line
 have r:=hin.race.ij
 have s:=hin.race.has
 have m:=hin.race.ic
 have i:=hin.nf
 have k:=hin.np
 refine bG kr Tryz.func34 U U fun u Q hQ hN=>?_
 try dsimp only
 refine WS fun _ a=>eI U fun n=>eI U fun o=>eI U fun p=>bD 1 U<|RK a<|ak fun _ b=>WS fun _ c=>eQ 1 [] (mc 0 U mn) U<|rS (CL (uj d.Out d.dj d.Time (jk d.a_ sgA sgC)) (aO) U)<|rP 1 [] mn ?_
 refine RK c<|cx U (bq fun A=>?_) (br fun A=>?_)
 ·refine WS fun _ e=>rP 1 [] mn ?_
  refine RK e<|aq<|Q1 hQ U U U ?_
  (rw [sh (fun q=>A q)]; done)
 refine WK b<|ak fun _ f=>dA ct [4,5] [] [] [0,1,2,3,4,5,6,7,8,9,10,11,12,13] [] U U U U U<|eS U (CL xq (aO) U)<|eS U (FA 0 U fj U)<|eS U (L1 (Value.int .u8 2) 1 U cj U U)<|eS U (SX (vu (vs:=(eX.cells (eX.mk (Value.func (.func 85) [].toArray [].toArray) (Value.func (.func 83) [].toArray [].toArray)))) 2 U U U Kx cj U dc U) U U)<|eh U<|cd U fun T9 g=>AL U Jq fun X=>aF (g _ _ (aQ [1,2,3,4,5,6,7,8,9,10,11,12,13,14]) ?_)
 refine cd U fun T11 W=>fG U Jj U<|aF (W _ _ (aQ [1,2,3,4,5,6,7,8,9,10,11,12,13,14]) ?_)
 refine fp U<|KK f<|WS fun _ V=>eQ 4 [0,1,2] (mc 0 U (mc 3 U (mc 2 U mn))) U<|rS (CL (Rc j kA kC cA cC bA bC slA slC drA drC heA heC faA faC prA prC 2 fw ff ft hw) (aO) U)<|rP 5 [] mn ?_
 refine RK V<|ak fun _ AA=>mA ct [0,1,2,3,4,5,6,7,8,9] [10,11,12,13] [false,false,false,false,false,false,false,false,false,false] [] [(cu X 132 (eX.cells (eX.mk (Value.func (.func 85) [].toArray [].toArray) (Value.func (.func 83) [].toArray [].toArray)))),(cu p 58 (aP.cells (aP.mk d.Out d.dj d.Time (jk d.a_ sgA sgC)))),(cu o 80 (aM.cells (aM.mk 2 fw ff ft))),(cu n 93 (c_.cells (c_.mk (nY j kA kC cA cC bA bC slA slC drA drC heA heC faA faC prA prC)))),(rd kA j.Race.ar.aV.length 9 (j.Race.ar.aV.map ao.cells)).ro,(rd cA j.Race.ar.aj.length 2 (List.zipWith aw.cells j.Race.ar.aj az)).ro,(dR (bj aw.f_ j.Race.ar.aj az)).ro,(rd bA j.Race.ar.ab.length 4 (j.Race.ar.ab.map bJ.cells)).ro,(rd slA j.Race.aY.length 1 (j.Race.aY.map iC)).ro,(rd drA j.Race.ck.length 1 (j.Race.ck.map iC)).ro,(rd heA j.Race.aB.length 1 (List.zipWith cL j.Race.aB ha)).ro,(dR (bj eY j.Race.aB ha)).ro,(rd faA j.ay.length 4 (j.ay.map aM.cells)).ro,(rd prA j.aD.length 5 (j.aD.map aX.cells)).ro,(rd sgA d.a_.aa.length 2 (d.a_.aa.map aG.cells)).ro] [] kr (aQ [0,1,2,3,4,5,6,7,8,9,10,11,12,13,14]) (aQ [])<|eS U (LW 3 U cj U U)<|eS U (FA 4 U fj U)<|eS U (LP (cz.cells (jk d.a_ sgA sgC)) 1 U cj U U U)<|eS U (MV U)<|eS U (CL (l4 j kA kC az cA cC bA bC slA slC drA drC ha heA heC faA faC prA prC d.a_ sgA sgC (fw-1) hin hsl) (bu [4,5,6,7,8,9,10,11,12,13,14]) U)<|eS U (LW 3 U cj U U)<|eS U (FA 4 U fj U)<|eS U (LP (cz.cells (jk d.a_ sgA sgC)) 1 U cj U U U)<|eS U (MV U)<|eS U (CL (l4 j kA kC az cA cC bA bC slA slC drA drC ha heA heC faA faC prA prC d.a_ sgA sgC fw hin hsl) (bu [4,5,6,7,8,9,10,11,12,13,14]) U)<|eh U<|mU [10,11] kr (iI ?_<|iI ?_<|qt)
 rotate_left 1
 ·refine NO U U [10,12,13] fun T14 P=>AL U oN fun Y=>RD P 1 U<|N1 10<|NO U U [12,13] fun T16 R=>AL U oN fun Z=>RD R 2 U<|N1 12<|NO U U [13] fun T18 S=>fG U mF U<|RD S 2 U<|N1 13<|NO U U [] fun T19 T=>qO U mF U<|RD T 2 U<|lX<|KK AA<|ak fun _ F=>aH<|WS fun _ E=>rP 3 [] (mc 0 U mn) ?_
  refine b_ (t:=40) U (fun C=>?_) (fun C=>?_)
  ·refine bD 16 U<|RK E<|aS U<|WS fun _ J=>rP 1 [] mn ?_
   refine RK J<|aq<|Q1 hQ U U U ?_
   (rw [jG rfl A]; (rw [gU (.inl C)]; done))
  refine rP 8 [0,1] (mc 0 U (mc 4 U mn)) ?_
  refine b_ (t:=48) U (aU fun D=>?_) (aT fun D=>?_)
  ·refine bD 8 U<|RK E<|aS U<|WS fun _ K=>rP 1 [] mn ?_
   refine RK K<|aq<|Q1 hQ U U U ?_
   (rw [jG rfl A]; (rw [gU (.inr (.inl D))]; done))
  refine rP 8 [0,1] (mc 1 U (mc 4 U mn)) ?_
  refine RK E<|cx U (aU fun B=>?_) (aT fun B=>?_)
  ·refine WS fun _ L=>rP 1 [] mn ?_
   refine RK L<|aq<|Q1 hQ U U U ?_
   (rw [jG rfl A]; (rw [gU (.inr (.inr B))]; done))
  refine WS fun _ G=>rP 3 [] (mc 0 U mn) ?_
  refine cp (t:=59) U (fun AB=>?_) (fun AB=>?_)
  ·refine bD 8 U<|RK G<|bR U<|cf<|aN<|KK F<|WS fun _ O=>rP 1 [] mn ?_
   refine RK O<|aq<|Q1 hQ U U U ?_
   (rw [jG rfl A]; (rw [jH (AK (by simpa using C) (by first|exact D|(simp only []; omega)) (by first|exact B|(simp only []; omega))) (fun q=>by rw [AB] at q; exact Bool.noConfusion q.1)]; done))
  refine eQ 5 [0,1,2,3] (mc 2 U (mc 4 U (mc 0 U (mc 1 U mn)))) U<|rS (CL (tN 2 fw ff ft ((cr j.Race.ar d.a_ (fw-1)).Lo) ((cr j.Race.ar d.a_ (fw-1)).Hi) ((cr j.Race.ar d.a_ (fw-1)).each) ((cr j.Race.ar d.a_ (fw-1)).never) ((cr j.Race.ar d.a_ fw).Lo) ((cr j.Race.ar d.a_ fw).Hi) ((cr j.Race.ar d.a_ fw).each) ((cr j.Race.ar d.a_ fw).never)) (aO) U)<|rP 2 [] mn ?_
  refine RK G<|cx U (aU fun H=>?_) (aT fun H=>?_)
  ·refine WS fun _ M=>rP 1 [] mn ?_
   refine RK M<|aq<|Q1 hQ U U U ?_
   (rw [jG rfl A]; (rw [pb (AK (by simpa using C) (by first|exact D|(simp only []; omega)) (by first|exact B|(simp only []; omega))) AB ((oL (show ¬ (2:Int)=3 by decide)).2 H)]; done))
  refine cf<|aN<|KK F<|WS fun _ N=>rP 1 [] mn ?_
  refine RK N<|aq<|Q1 hQ U U U ?_
  (rw [jG rfl A]; (rw [jH (AK (by simpa using C) (by first|exact D|(simp only []; omega)) (by first|exact B|(simp only []; omega))) (fun q=>H ((oL (show ¬ (2:Int)=3 by decide)).1 q.2))]; done))
 refine NO U U [11,12,13] fun T14 P=>AL U oN fun Y=>RD P 1 U<|N1 11<|NO U U [12,13] fun T16 R=>AL U oN fun Z=>RD R 2 U<|N1 12<|NO U U [13] fun T18 S=>qO U mF U<|RD S 2 U<|N1 13<|NO U U [] fun T19 T=>fG U mF U<|RD T 2 U<|lX<|KK AA<|ak fun _ F=>aH<|WS fun _ E=>rP 3 [] (mc 1 U mn) ?_
 refine b_ (t:=40) U (fun C=>?_) (fun C=>?_)
 ·refine bD 16 U<|RK E<|aS U<|WS fun _ J=>rP 1 [] mn ?_
  refine RK J<|aq<|Q1 hQ U U U ?_
  (rw [jG rfl A]; (rw [gU (.inl C)]; done))
 refine rP 8 [0,1] (mc 1 U (mc 4 U mn)) ?_
 refine b_ (t:=48) U (aU fun D=>?_) (aT fun D=>?_)
 ·refine bD 8 U<|RK E<|aS U<|WS fun _ K=>rP 1 [] mn ?_
  refine RK K<|aq<|Q1 hQ U U U ?_
  (rw [jG rfl A]; (rw [gU (.inr (.inl D))]; done))
 refine rP 8 [0,1] (mc 0 U (mc 4 U mn)) ?_
 refine RK E<|cx U (aU fun B=>?_) (aT fun B=>?_)
 ·refine WS fun _ L=>rP 1 [] mn ?_
  refine RK L<|aq<|Q1 hQ U U U ?_
  (rw [jG rfl A]; (rw [gU (.inr (.inr B))]; done))
 refine WS fun _ G=>rP 3 [] (mc 1 U mn) ?_
 refine cp (t:=59) U (fun AB=>?_) (fun AB=>?_)
 ·refine bD 8 U<|RK G<|bR U<|cf<|aN<|KK F<|WS fun _ O=>rP 1 [] mn ?_
  refine RK O<|aq<|Q1 hQ U U U ?_
  (rw [jG rfl A]; (rw [jH (AK (by simpa using C) (by first|exact D|(simp only []; omega)) (by first|exact B|(simp only []; omega))) (fun q=>by rw [AB] at q; exact Bool.noConfusion q.1)]; done))
 refine eQ 5 [0,1,2,3] (mc 2 U (mc 4 U (mc 1 U (mc 0 U mn)))) U<|rS (CL (tN 2 fw ff ft ((cr j.Race.ar d.a_ (fw-1)).Lo) ((cr j.Race.ar d.a_ (fw-1)).Hi) ((cr j.Race.ar d.a_ (fw-1)).each) ((cr j.Race.ar d.a_ (fw-1)).never) ((cr j.Race.ar d.a_ fw).Lo) ((cr j.Race.ar d.a_ fw).Hi) ((cr j.Race.ar d.a_ fw).each) ((cr j.Race.ar d.a_ fw).never)) (aO) U)<|rP 2 [] mn ?_
 refine RK G<|cx U (aU fun H=>?_) (aT fun H=>?_)
 ·refine WS fun _ M=>rP 1 [] mn ?_
  refine RK M<|aq<|Q1 hQ U U U ?_
  (rw [jG rfl A]; (rw [pb (AK (by simpa using C) (by first|exact D|(simp only []; omega)) (by first|exact B|(simp only []; omega))) AB ((oL (show ¬ (2:Int)=3 by decide)).2 H)]; done))
 refine cf<|aN<|KK F<|WS fun _ N=>rP 1 [] mn ?_
 refine RK N<|aq<|Q1 hQ U U U ?_
 (rw [jG rfl A]; (rw [jH (AK (by simpa using C) (by first|exact D|(simp only []; omega)) (by first|exact B|(simp only []; omega))) (fun q=>H ((oL (show ¬ (2:Int)=3 by decide)).1 q.2))]; done))
theorem Iv (j:cN) (kA:OA) (kC:Nat) (az:List RA) (cA:OA) (cC:Nat) (bA:OA) (bC:Nat) (slA:OA) (slC:Nat) (drA:OA) (drC:Nat) (ha:List cW) (heA:OA) (heC:Nat) (faA:OA) (faC:Nat) (prA:OA) (prC:Nat) (fw ff ft:Int) (d:av) (sgA:OA) (sgC:Nat) (hin:gG j az ha) (hw:0≤fw∧fw≤1000000) (hsl:d.a_.aa.length≤1000000):
 dG Tryz.prog 34 [(vA (c_.cells (c_.mk (nY j kA kC cA cC bA bC slA slC drA drC heA heC faA faC prA prC)))),(vA (aM.cells (aM.mk 3 fw ff ft))),(vA (aP.cells (aP.mk d.Out d.dj d.Time (jk d.a_ sgA sgC))))] [(rd kA j.Race.ar.aV.length 9 (j.Race.ar.aV.map ao.cells)),(rd cA j.Race.ar.aj.length 2 (List.zipWith aw.cells j.Race.ar.aj az)),(dR (bj aw.f_ j.Race.ar.aj az)),(rd bA j.Race.ar.ab.length 4 (j.Race.ar.ab.map bJ.cells)),(rd slA j.Race.aY.length 1 (j.Race.aY.map iC)),(rd drA j.Race.ck.length 1 (j.Race.ck.map iC)),(rd heA j.Race.aB.length 1 (List.zipWith cL j.Race.aB ha)),(dR (bj eY j.Race.aB ha)),(rd faA j.ay.length 4 (j.ay.map aM.cells)),(rd prA j.aD.length 5 (j.aD.map aX.cells)),(rd sgA d.a_.aa.length 2 (d.a_.aa.map aG.cells))] (Value.int .u8 (eC j.Race.ar (aM.mk 3 fw ff ft) d)):=by
 have l:=hin.race
 have h:=hin.race.line
 have r:=hin.race.ij
 have s:=hin.race.has
 have m:=hin.race.ic
 have i:=hin.nf
 have k:=hin.np
 refine bG kr Tryz.func34 U U fun u Q hQ hN=>?_
 try dsimp only
 refine WS fun _ a=>eI U fun n=>eI U fun o=>eI U fun p=>bD 1 U<|RK a<|ak fun _ b=>WS fun _ c=>eQ 1 [] (mc 0 U mn) U<|rS (CL (uj d.Out d.dj d.Time (jk d.a_ sgA sgC)) (aO) U)<|rP 1 [] mn ?_
 refine RK c<|cx U (bq fun A=>?_) (br fun A=>?_)
 ·refine WS fun _ e=>rP 1 [] mn ?_
  refine RK e<|aq<|Q1 hQ U U U ?_
  (rw [sh (fun q=>A q)]; done)
 refine WK b<|ak fun _ f=>dA ct [4,5] [] [] [0,1,2,3,4,5,6,7,8,9,10,11,12,13] [] U U U U U<|eS U (CL xq (aO) U)<|eS U (FA 0 U fj U)<|eS U (L1 (Value.int .u8 3) 1 U cj U U)<|eS U (SX (vu (vs:=(eX.cells (eX.mk (Value.func (.func 86) [].toArray [].toArray) (Value.func (.func 87) [].toArray [].toArray)))) 3 U U U Kx cj U dc U) U U)<|eh U<|cd U fun T9 g=>AL U Jq fun X=>aF (g _ _ (aQ [1,2,3,4,5,6,7,8,9,10,11,12,13,14]) ?_)
 refine cd U fun T11 W=>fG U Jj U<|aF (W _ _ (aQ [1,2,3,4,5,6,7,8,9,10,11,12,13,14]) ?_)
 refine fp U<|KK f<|WS fun _ V=>eQ 4 [0,1,2] (mc 0 U (mc 3 U (mc 2 U mn))) U<|rS (CL (RF j kA kC cA cC bA bC slA slC drA drC heA heC faA faC prA prC 3 fw ff ft) (aO) U)<|rP 5 [] mn ?_
 refine RK V<|ak fun _ AA=>mA ct [0,1,2,3,4,5,6,7,8,9] [10,11,12,13] [false,false,false,false,false,false,false,false,false,false] [] [(cu X 132 (eX.cells (eX.mk (Value.func (.func 86) [].toArray [].toArray) (Value.func (.func 87) [].toArray [].toArray)))),(cu p 58 (aP.cells (aP.mk d.Out d.dj d.Time (jk d.a_ sgA sgC)))),(cu o 80 (aM.cells (aM.mk 3 fw ff ft))),(cu n 93 (c_.cells (c_.mk (nY j kA kC cA cC bA bC slA slC drA drC heA heC faA faC prA prC)))),(rd kA j.Race.ar.aV.length 9 (j.Race.ar.aV.map ao.cells)).ro,(rd cA j.Race.ar.aj.length 2 (List.zipWith aw.cells j.Race.ar.aj az)).ro,(dR (bj aw.f_ j.Race.ar.aj az)).ro,(rd bA j.Race.ar.ab.length 4 (j.Race.ar.ab.map bJ.cells)).ro,(rd slA j.Race.aY.length 1 (j.Race.aY.map iC)).ro,(rd drA j.Race.ck.length 1 (j.Race.ck.map iC)).ro,(rd heA j.Race.aB.length 1 (List.zipWith cL j.Race.aB ha)).ro,(dR (bj eY j.Race.aB ha)).ro,(rd faA j.ay.length 4 (j.ay.map aM.cells)).ro,(rd prA j.aD.length 5 (j.aD.map aX.cells)).ro,(rd sgA d.a_.aa.length 2 (d.a_.aa.map aG.cells)).ro] [] kr (aQ [0,1,2,3,4,5,6,7,8,9,10,11,12,13,14]) (aQ [])<|eS U (LW 3 U cj U U)<|eS U (FA 4 U fj U)<|eS U (LP (cz.cells (jk d.a_ sgA sgC)) 1 U cj U U U)<|eS U (MV U)<|eS U (CL (l4 j kA kC az cA cC bA bC slA slC drA drC ha heA heC faA faC prA prC d.a_ sgA sgC fw hin hsl) (bu [4,5,6,7,8,9,10,11,12,13,14]) U)<|eS U (LW 3 U cj U U)<|eS U (FA 4 U fj U)<|eS U (LP (cz.cells (jk d.a_ sgA sgC)) 1 U cj U U U)<|eS U (MV U)<|eS U (CL (l4 j kA kC az cA cC bA bC slA slC drA drC ha heA heC faA faC prA prC d.a_ sgA sgC fw hin hsl) (bu [4,5,6,7,8,9,10,11,12,13,14]) U)<|eh U<|mU [10,11] kr (iI ?_<|iI ?_<|qt)
 rotate_left 1
 ·refine NO U U [10,12,13] fun T14 P=>AL U oN fun Y=>RD P 1 U<|N1 10<|NO U U [12,13] fun T16 R=>AL U oN fun Z=>RD R 2 U<|N1 12<|NO U U [13] fun T18 S=>fG U mF U<|RD S 2 U<|N1 13<|NO U U [] fun T19 T=>qO U mF U<|RD T 2 U<|lX<|KK AA<|ak fun _ F=>aH<|WS fun _ E=>rP 3 [] (mc 0 U mn) ?_
  refine b_ (t:=40) U (fun C=>?_) (fun C=>?_)
  ·refine bD 16 U<|RK E<|aS U<|WS fun _ J=>rP 1 [] mn ?_
   refine RK J<|aq<|Q1 hQ U U U ?_
   (rw [jM rfl A]; (rw [gU (.inl C)]; done))
  refine rP 8 [0,1] (mc 0 U (mc 4 U mn)) ?_
  refine b_ (t:=48) U (aU fun D=>?_) (aT fun D=>?_)
  ·refine bD 8 U<|RK E<|aS U<|WS fun _ K=>rP 1 [] mn ?_
   refine RK K<|aq<|Q1 hQ U U U ?_
   (rw [jM rfl A]; (rw [gU (.inr (.inl D))]; done))
  refine rP 8 [0,1] (mc 1 U (mc 4 U mn)) ?_
  refine RK E<|cx U (aU fun B=>?_) (aT fun B=>?_)
  ·refine WS fun _ L=>rP 1 [] mn ?_
   refine RK L<|aq<|Q1 hQ U U U ?_
   (rw [jM rfl A]; (rw [gU (.inr (.inr B))]; done))
  refine WS fun _ G=>rP 3 [] (mc 0 U mn) ?_
  refine cp (t:=59) U (fun AB=>?_) (fun AB=>?_)
  ·refine bD 8 U<|RK G<|bR U<|cf<|aN<|KK F<|WS fun _ O=>rP 1 [] mn ?_
   refine RK O<|aq<|Q1 hQ U U U ?_
   (rw [jM rfl A]; (rw [jH (AK (by simpa using C) (by first|exact D|(simp only []; omega)) (by first|exact B|(simp only []; omega))) (fun q=>by rw [AB] at q; exact Bool.noConfusion q.1)]; done))
  refine eQ 5 [0,1,2,3] (mc 2 U (mc 4 U (mc 0 U (mc 1 U mn)))) U<|rS (CL (EJ 3 fw ff ft ((cr j.Race.ar d.a_ fw).Lo) ((cr j.Race.ar d.a_ fw).Hi) ((cr j.Race.ar d.a_ fw).each) ((cr j.Race.ar d.a_ fw).never) ((cr j.Race.ar d.a_ fw).Lo) ((cr j.Race.ar d.a_ fw).Hi) ((cr j.Race.ar d.a_ fw).each) ((cr j.Race.ar d.a_ fw).never)) (aO) U)<|rP 2 [] mn ?_
  refine RK G<|cx U (aU fun H=>?_) (aT fun H=>?_)
  ·refine WS fun _ M=>rP 1 [] mn ?_
   refine RK M<|aq<|Q1 hQ U U U ?_
   (rw [jM rfl A]; (rw [pb (AK (by simpa using C) (by first|exact D|(simp only []; omega)) (by first|exact B|(simp only []; omega))) AB ((zX rfl).2 H)]; done))
  refine cf<|aN<|KK F<|WS fun _ N=>rP 1 [] mn ?_
  refine RK N<|aq<|Q1 hQ U U U ?_
  (rw [jM rfl A]; (rw [jH (AK (by simpa using C) (by first|exact D|(simp only []; omega)) (by first|exact B|(simp only []; omega))) (fun q=>H ((zX rfl).1 q.2))]; done))
 refine NO U U [11,12,13] fun T14 P=>AL U oN fun Y=>RD P 1 U<|N1 11<|NO U U [12,13] fun T16 R=>AL U oN fun Z=>RD R 2 U<|N1 12<|NO U U [13] fun T18 S=>qO U mF U<|RD S 2 U<|N1 13<|NO U U [] fun T19 T=>fG U mF U<|RD T 2 U<|lX<|KK AA<|ak fun _ F=>aH<|WS fun _ E=>rP 3 [] (mc 1 U mn) ?_
 refine b_ (t:=40) U (fun C=>?_) (fun C=>?_)
 ·refine bD 16 U<|RK E<|aS U<|WS fun _ J=>rP 1 [] mn ?_
  refine RK J<|aq<|Q1 hQ U U U ?_
  (rw [jM rfl A]; (rw [gU (.inl C)]; done))
 refine rP 8 [0,1] (mc 1 U (mc 4 U mn)) ?_
 refine b_ (t:=48) U (aU fun D=>?_) (aT fun D=>?_)
 ·refine bD 8 U<|RK E<|aS U<|WS fun _ K=>rP 1 [] mn ?_
  refine RK K<|aq<|Q1 hQ U U U ?_
  (rw [jM rfl A]; (rw [gU (.inr (.inl D))]; done))
 refine rP 8 [0,1] (mc 0 U (mc 4 U mn)) ?_
 refine RK E<|cx U (aU fun B=>?_) (aT fun B=>?_)
 ·refine WS fun _ L=>rP 1 [] mn ?_
  refine RK L<|aq<|Q1 hQ U U U ?_
  (rw [jM rfl A]; (rw [gU (.inr (.inr B))]; done))
 refine WS fun _ G=>rP 3 [] (mc 1 U mn) ?_
 refine cp (t:=59) U (fun AB=>?_) (fun AB=>?_)
 ·refine bD 8 U<|RK G<|bR U<|cf<|aN<|KK F<|WS fun _ O=>rP 1 [] mn ?_
  refine RK O<|aq<|Q1 hQ U U U ?_
  (rw [jM rfl A]; (rw [jH (AK (by simpa using C) (by first|exact D|(simp only []; omega)) (by first|exact B|(simp only []; omega))) (fun q=>by rw [AB] at q; exact Bool.noConfusion q.1)]; done))
 refine eQ 5 [0,1,2,3] (mc 2 U (mc 4 U (mc 1 U (mc 0 U mn)))) U<|rS (CL (EJ 3 fw ff ft ((cr j.Race.ar d.a_ fw).Lo) ((cr j.Race.ar d.a_ fw).Hi) ((cr j.Race.ar d.a_ fw).each) ((cr j.Race.ar d.a_ fw).never) ((cr j.Race.ar d.a_ fw).Lo) ((cr j.Race.ar d.a_ fw).Hi) ((cr j.Race.ar d.a_ fw).each) ((cr j.Race.ar d.a_ fw).never)) (aO) U)<|rP 2 [] mn ?_
 refine RK G<|cx U (aU fun H=>?_) (aT fun H=>?_)
 ·refine WS fun _ M=>rP 1 [] mn ?_
  refine RK M<|aq<|Q1 hQ U U U ?_
  (rw [jM rfl A]; (rw [pb (AK (by simpa using C) (by first|exact D|(simp only []; omega)) (by first|exact B|(simp only []; omega))) AB ((zX rfl).2 H)]; done))
 refine cf<|aN<|KK F<|WS fun _ N=>rP 1 [] mn ?_
 refine RK N<|aq<|Q1 hQ U U U ?_
 (rw [jM rfl A]; (rw [jH (AK (by simpa using C) (by first|exact D|(simp only []; omega)) (by first|exact B|(simp only []; omega))) (fun q=>H ((zX rfl).1 q.2))]; done))
theorem An (j:cN) (kA:OA) (kC:Nat) (az:List RA) (cA:OA) (cC:Nat) (bA:OA) (bC:Nat) (slA:OA) (slC:Nat) (drA:OA) (drC:Nat) (ha:List cW) (heA:OA) (heC:Nat) (faA:OA) (faC:Nat) (prA:OA) (prC:Nat) (f:aM) (d:av) (sgA:OA) (sgC:Nat) (hin:gG j az ha) (hk:1≤f.Kind∧f.Kind≤3) (hw:0≤f.eL∧f.eL≤1000000) (hsl:d.a_.aa.length≤1000000):
 dG Tryz.prog 34 [(vA (c_.cells (c_.mk (nY j kA kC cA cC bA bC slA slC drA drC heA heC faA faC prA prC)))),(vA (aM.cells f)),(vA (aP.cells (aP.mk d.Out d.dj d.Time (jk d.a_ sgA sgC))))] [(rd kA j.Race.ar.aV.length 9 (j.Race.ar.aV.map ao.cells)),(rd cA j.Race.ar.aj.length 2 (List.zipWith aw.cells j.Race.ar.aj az)),(dR (bj aw.f_ j.Race.ar.aj az)),(rd bA j.Race.ar.ab.length 4 (j.Race.ar.ab.map bJ.cells)),(rd slA j.Race.aY.length 1 (j.Race.aY.map iC)),(rd drA j.Race.ck.length 1 (j.Race.ck.map iC)),(rd heA j.Race.aB.length 1 (List.zipWith cL j.Race.aB ha)),(dR (bj eY j.Race.aB ha)),(rd faA j.ay.length 4 (j.ay.map aM.cells)),(rd prA j.aD.length 5 (j.aD.map aX.cells)),(rd sgA d.a_.aa.length 2 (d.a_.aa.map aG.cells))] (Value.int .u8 (eC j.Race.ar f d)):=by
 obtain ⟨fk,fw,ff,ft⟩:=f
 have A:fk=1∨fk=2∨fk=3:=by have:=hk; simp only at this; omega
 rcases A with rfl|rfl|rfl
 ·exact JN j kA kC az cA cC bA bC slA slC drA drC ha heA heC faA faC prA prC fw ff ft d sgA sgC hin hw hsl
 ·exact KI j kA kC az cA cC bA bC slA slC drA drC ha heA heC faA faC prA prC fw ff ft d sgA sgC hin hw hsl
 ·exact Iv j kA kC az cA cC bA bC slA slC drA drC ha heA heC faA faC prA prC fw ff ft d sgA sgC hin hw hsl
end
section
open Go.RowKit
theorem KE (j:cN) (kA:OA) (kC:Nat) (az:List RA) (cA:OA) (cC:Nat) (bA:OA) (bC:Nat) (slA:OA) (slC:Nat) (drA:OA) (drC:Nat) (ha:List cW) (heA:OA) (heC:Nat) (faA:OA) (faC:Nat) (prA:OA) (prC:Nat) (p:aX) (hin:gG j az ha) (hok:dE j=0) (hp: ∃ i:Nat,j.aD[i]? =some p):
 dG Tryz.prog 35 [(vA (c_.cells (c_.mk (nY j kA kC cA cC bA bC slA slC drA drC heA heC faA faC prA prC)))),(vA (aX.cells p))] [(rd kA j.Race.ar.aV.length 9 (j.Race.ar.aV.map ao.cells)),(rd cA j.Race.ar.aj.length 2 (List.zipWith aw.cells j.Race.ar.aj az)),(dR (bj aw.f_ j.Race.ar.aj az)),(rd bA j.Race.ar.ab.length 4 (j.Race.ar.ab.map bJ.cells)),(rd slA j.Race.aY.length 1 (j.Race.aY.map iC)),(rd drA j.Race.ck.length 1 (j.Race.ck.map iC)),(rd heA j.Race.aB.length 1 (List.zipWith cL j.Race.aB ha)),(dR (bj eY j.Race.aB ha)),(rd faA j.ay.length 4 (j.ay.map aM.cells)),(rd prA j.aD.length 5 (j.aD.map aX.cells))] (Value.int .u8 (mR j p)):=by
 have S:=hin.race
 have e:=hin.race.line
 have s:=hin.race.ij
 have t:=hin.race.has
 have q:=hin.race.ic
 have k:=hin.nf
 have o:=hin.np
 have R:=(eP hok).1
 have P:=(eP hok).2
 have c:=(eU R).1
 have h:=(eU R).2
 have a:=(dM c).2.head
 unfold eW at a
 obtain ⟨pi,f⟩:=hp
 have G:=P.g8 pi p f
 have x:=G.gf
 have g:=G.lj
 simp only [q9] at g
 have w:=G.fault
 have u:=P.min_
 refine bG kr Tryz.func35 U U fun w0 Q hQ hN=>?_
 try dsimp only
 refine WS fun _ T=>eI U fun z=>eI U fun b3=>rP 1 [] mn ?_
 refine RK T<|ak fun _ AA=>dA ct [20,21] [] [] [0,1,2,3,4,5,6,7,8,9,10,11] [] U U U U U<|eS U (LW 1 U cj U U)<|eS U (FA 0 U fj U)<|eS U (FA 0 U fj U)<|eS U (FA 10 U fj U)<|eS U (L1 (vS heA j.Race.aB.length heC) 1 U cj U U)<|eS U (FA 2 U fj U)<|eS U (L1 (vI p.jm) 0 U cj U U) ?_
 obtain ⟨ht,C⟩:=aL j.Race.aB ((p.jm).toNat) I
 obtain ⟨A,B⟩:=aL ha ((p.jm).toNat) I
 have O:(List.zipWith cL j.Race.aB ha)[(p.jm).toNat]? =some (cL ht A):=dy C B
 refine eS U (IA ((p.jm).toNat) U (aA 8 U) oh dc I I)<|eS U (g6 ((p.jm).toNat) 0 (vS A.1.1 ht.length A.1.2) U cj (aA 8 U) O U dc U)<|eS U (FA 1 U fj U)<|eS U (L1 (vI p.iM) 0 U cj U U) ?_
 have N:=S.gf _ _ _ C B
 have m:=N.og
 have n:=(h.gf ht (aR C)).1
 obtain ⟨d,hd⟩:=aL ht ((p.iM).toNat) I
 obtain ⟨da,M⟩:=aL A.2 ((p.iM).toNat) I
 have Z:(List.zipWith av.cells ht A.2)[(p.iM).toNat]? =some (av.cells d da):=dy hd M
 refine eS U (IA ((p.iM).toNat) U (show iK _ (rd A.1.1 ht.length 7 (List.zipWith av.cells ht A.2)).holds from (cO 9 U (bK C B cy))) qJ dc I I)<|eS U (o9 ((((p.iM).toNat)*7)+4) U (show iK _ (rd A.1.1 ht.length 7 (List.zipWith av.cells ht A.2)).holds from (cO 9 U (bK C B cy))) (Nat.mul_pos I dc) fj U) ?_
 have D:=po (j:=j) (p:=p) C hd
 have y:=N.sig d (aR hd)
 have v:=L7 (l:=j.Race.ar) (r:=d.a_) (b:=j.Race.ar.bS) I
 refine eS U (lx ((p.iM).toNat) 4 (cz.cells (cz.mk d.a_.Start d.a_.fR (bH.mk da.1 d.a_.aa.length da.2))) U cj (show iK _ (rd A.1.1 ht.length 7 (List.zipWith av.cells ht A.2)).holds from (cO 9 U (bK C B cy))) Z U dc U U)<|eS U (FA 0 U fj U)<|eS U (FA 0 U fj U)<|eS U (FA 0 U fj U)<|eS U (FA 4 U fj U)<|eS U (L1 (vI j.Race.ar.bS) 1 U cj U U)<|eS U (CL (l4 j kA kC az cA cC bA bC slA slC drA drC ha heA heC faA faC prA prC d.a_ da.1 da.2 j.Race.ar.bS hin asm) (mT [2,3,4,5,6,7,8,9,10,11]<|aK (show iK _ (rd da.1 d.a_.aa.length 2 (d.a_.aa.map aG.cells)).holds from (cO 9 U (bK C B (dI _ (bK hd M (by simp [av.f_]))))))<|aO) U)<|eh U<|cd U fun T5 X=>AL U oN fun b6=>aF (X _ _ (aQ [1,2,3,4,5,6,7,8,9,10,11,12]) ?_)
 refine cd U fun T7 Y=>fG U mF U<|aF (Y _ _ (aQ [1,2,3,4,5,6,7,8,9,10,11,12]) ?_)
 refine fp U<|KK AA<|WS fun _ V=>eQ 3 [] (mc 2 U mn) U<|rS (BI U (uB ⟨I,I⟩))<|bD 1 U<|RK V<|ak fun _ W=>aH<|WS fun _ H=>rP 9 [0,1] (mc 1 U (mc 0 U mn)) ?_
 refine RK H<|cx U (aU fun E=>?_) (aT fun E=>?_)
 ·refine WS fun _ AB=>rP 1 [] mn ?_
  refine RK AB<|aq<|Q1 hQ U U U ?_
  (rw [PI D E]; done)
 refine WS fun _ J=>rP 9 [0,1] (mc 1 U (mc 0 U mn)) ?_
 refine RK J<|cx U (aU fun F=>?_) (aT fun F=>?_)
 ·refine WS fun _ K=>rP 1 [] mn ?_
  refine RK K<|aq<|Q1 hQ U U U ?_
  (rw [P4 D E F]; done)
 refine cf<|aN<|KK W<|WS fun _ L=>rP 1 [] mn ?_
 refine RK L<|aq<|Q1 hQ U U U ?_
 (rw [Qd D E F]; done)
theorem vn (j:cN) (kA:OA) (kC:Nat) (az:List RA) (cA:OA) (cC:Nat) (bA:OA) (bC:Nat) (slA:OA) (slC:Nat) (drA:OA) (drC:Nat) (ha:List cW) (heA:OA) (heC:Nat) (faA:OA) (faC:Nat) (prA:OA) (prC:Nat) (i:Int) (p:aX) (hin:gG j az ha) (hok:dE j=0) (hp: ∃ i:Nat,j.aD[i]? =some p):
 dG Tryz.prog 31 [(vA (c_.cells (c_.mk (nY j kA kC cA cC bA bC slA slC drA drC heA heC faA faC prA prC)))),(vI i),(vA (aX.cells p))] [(rd kA j.Race.ar.aV.length 9 (j.Race.ar.aV.map ao.cells)),(rd cA j.Race.ar.aj.length 2 (List.zipWith aw.cells j.Race.ar.aj az)),(dR (bj aw.f_ j.Race.ar.aj az)),(rd bA j.Race.ar.ab.length 4 (j.Race.ar.ab.map bJ.cells)),(rd slA j.Race.aY.length 1 (j.Race.aY.map iC)),(rd drA j.Race.ck.length 1 (j.Race.ck.map iC)),(rd heA j.Race.aB.length 1 (List.zipWith cL j.Race.aB ha)),(dR (bj eY j.Race.aB ha)),(rd faA j.ay.length 4 (j.ay.map aM.cells)),(rd prA j.aD.length 5 (j.aD.map aX.cells))] (vB (iv j p)):=by
 have O:=hin.race
 have V:=hin.race.line
 have h:=hin.race.ij
 have k:=hin.race.has
 have c:=hin.race.ic
 have Y:=hin.nf
 have b:=hin.np
 have M:=(eP hok).1
 have E:=(eP hok).2
 have AA:=(eU M).1
 have X:=(eU M).2
 have T:=(dM AA).2.head
 unfold eW at T
 obtain ⟨pi,N⟩:=hp
 have F:=E.g8 pi p N
 have n:=F.gf
 have W:=F.lj
 simp only [q9] at W
 have m:=F.fault
 have l:=E.min_
 refine bG kr Tryz.func31 U U fun u Q hQ hN=>?_
 try dsimp only
 refine WS fun _ P=>eI U fun r=>eI U fun s=>bD 1 U<|RK P<|ak fun _ G=>dp ct 29 kr<|lU 2 [0,1] (mc 1 U (mc 0 U mn)) U<|dS (CL (KE j kA kC az cA cC bA bC slA slC drA drC ha heA heC faA faC prA prC p hin hok (by exact ⟨pi,N⟩)) (bu [2,3,4,5,6,7,8,9,10,11]) U)<|dS (BI U qh)<|dP 1 [] mn ?_
 refine jy (t:=11) U (br fun D=>?_) (bq fun D=>?_)
 ·refine kX 17 U<|kX 2 U<|dP 5 [] mn ?_
  refine cK<|RK G<|aq<|Q1 hQ U U U ?_
  (rw [HW D]; done)
 refine dP 6 [0,0,1] (mc 1 U (mc 0 U mn)) ?_
 obtain ⟨f,hf⟩:=aL j.ay ((p.jU).toNat) I
 have S:=bM aM.cells hf
 refine dS (IA ((p.jU).toNat) U (aA 10 U) wi dc I I)<|dS (lx ((p.jU).toNat) 0 (aM.cells f) U cj (aA 10 U) S U dc U U)<|dP 6 [0,1] (mc 1 U (mc 0 U mn)) ?_
 obtain ⟨ht,C⟩:=aL j.Race.aB ((p.jm).toNat) I
 obtain ⟨A,B⟩:=aL ha ((p.jm).toNat) I
 have L:(List.zipWith cL j.Race.aB ha)[(p.jm).toNat]? =some (cL ht A):=dy C B
 refine dS (IA ((p.jm).toNat) U (aA 8 U) oh dc I I)<|dS (g6 ((p.jm).toNat) 0 (vS A.1.1 ht.length A.1.2) U cj (aA 8 U) L U dc U)<|dP 1 [] mn ?_
 have K:=O.gf _ _ _ C B
 have Z:=K.og
 have a:=(X.gf ht (aR C)).1
 refine dP 1 [] (mc 0 U mn) ?_
 obtain ⟨d,hd⟩:=aL ht ((p.iM).toNat) I
 obtain ⟨da,AB⟩:=aL A.2 ((p.iM).toNat) I
 have R:(List.zipWith av.cells ht A.2)[(p.iM).toNat]? =some (av.cells d da):=dy hd AB
 refine dS (IA ((p.iM).toNat) U (show iK _ (rd A.1.1 ht.length 7 (List.zipWith av.cells ht A.2)).holds from (cO 9 U (bK C B cy))) qJ dc I I) ?_
 have H:=po (j:=j) (p:=p) C hd
 have o:=K.sig d (aR hd)
 have J:=E.fault f (aR hf)
 have g:0≤f.eL∧f.eL≤1000000:=by have e:=J.2.2; split at e<;>omega
 refine dS (lx ((p.iM).toNat) 0 (aP.cells (aP.mk d.Out d.dj d.Time (cz.mk d.a_.Start d.a_.fR (bH.mk da.1 d.a_.aa.length da.2)))) U cj (show iK _ (rd A.1.1 ht.length 7 (List.zipWith av.cells ht A.2)).holds from (cO 9 U (bK C B cy))) R U dc U U)<|dS (CL (An j kA kC az cA cC bA bC slA slC drA drC ha heA heC faA faC prA prC f d da.1 da.2 hin (by exact J.1) asm asm) (mT [2,3,4,5,6,7,8,9,10,11]<|aK (show iK _ (rd da.1 d.a_.aa.length 2 (d.a_.aa.map aG.cells)).holds from (cO 9 U (bK C B (dI _ (bK hd AB (by simp [av.f_]))))))<|aO) U)<|dS (BI U qh)<|dP 2 [] mn ?_
 refine cK<|RK G<|aq<|Q1 hQ U U U ?_
 (rw [Jl H hf (fun q=>D q)]; done)
end
section
open Go.RowKit
theorem Jg (n lo hi:Int) (g1 g2:Nat):
 dG Tryz.prog 147 [(vI n),(vP g1),(vP g2)] [(cu g1 3 [(vI lo)]),(cu g2 3 [(vI hi)])] (vB (decide (n<lo∨hi<n))):=by
 refine bG kr Tryz.func147 U U fun D Q hQ hN=>?_
 try dsimp only
 refine WS fun _ B=>bD 1 U<|RK B<|WS fun _ A=>rP 4 [] (mr 0 U mn) ?_
 refine b_ (t:=8) U (aU fun C=>?_) (aT fun C=>?_)
 ·refine rP 5 [] mn ?_
  refine RK A<|aq<|Q1 hQ U U U ?_
  exact cB (dx I).symm
 refine rP 5 [] (mr 1 U mn) ?_
 refine RK A<|aq<|Q1 hQ U U U ?_
 exact cB (gR.2 I)
theorem ux (lo hi:Int) (l:List Int) (lA:OA) (lC:Nat) (hlen:l.length≤1000000):
 dG Tryz.prog 126 [(vI lo),(vI hi),(vS lA l.length lC)] [(rd lA l.length 1 (l.map iC))] (vB (qi lo hi l)):=by
 refine bG kr Tryz.func126 U U fun F Q hQ hN=>?_
 try dsimp only
 refine WS fun _ D=>wJ U U fun A=>wJ U U fun B=>bD 1 U<|RK D<|WS fun _ E=>rP 1 [] mn ?_
 refine rS (FU U) ?_
 refine rS (CL (p_ l lA lC (Value.func (.func 147) [].toArray [(vP A),(vP B)].toArray) (fun C=>(decide (C<lo∨hi<C))) (dR [(cu A 3 [(vI lo)]),(cu B 3 [(vI hi)])]) (by intro C _; exact lh (fi:=[]) (ca:=[(vP A),(vP B)]) (jS (Jg C lo hi A B) (bu [0,1]))) hlen) (gY 2 U U<|aK (jX (bu [1,0]))<|aO) U) ?_
 refine rP 2 [] mn ?_
 refine RK E<|aq ?_
 exact Q1 hQ U U U U
theorem L8 (s:ag):
 dG Tryz.prog 210 [(vA (ag.cells s))] [] (vB (decide (mq s))):=by
 refine bG kr Tryz.func210 U U fun F Q hQ hN=>?_
 try dsimp only
 refine WS fun _ B=>eI U fun E=>bD 1 U<|RK B<|WS fun _ A=>rP 4 [] (mc 0 U mn) ?_
 refine ej (xs:=[.tmp 4,.tmp 6]) (cs:=[(vI s.Lo),(vI s.Hi)]) U dv kj U U U U (by simp [Value.cells]) U U fun C=>?_
 refine rS (CL (dG.eq (ux 1 600000 ([s.Lo,s.Hi]) (some ⟨C,0,none⟩) 2 (by (simp; done))) o3) (aK (bw 0 U U (by simp [bL]) U)<|aO) U) ?_
 refine rP 1 [] mn ?_
 refine cp (t:=9) U (aT fun D=>?_) (aU fun D=>?_)
 ·refine rP 7 [] mn ?_
  refine RK A<|aq<|Q1 hQ U U U ?_
  simp only [mq]
  exact cB (bE I).symm
 refine rP 7 [] (mc 1 U mn) ?_
 refine RK A<|aq<|Q1 hQ U U U ?_
 simp only [mq]
 exact cB (gR.2 I)
theorem JS (d:av) (sgA:OA) (sgC:Nat):
 dG Tryz.prog 207 [(vA (aP.cells (aP.mk d.Out d.dj d.Time (jk d.a_ sgA sgC))))] [(rd sgA d.a_.aa.length 2 (d.a_.aa.map aG.cells))] (vB (decide (mZ d.a_))):=by
 refine bG kr Tryz.func207 U U fun F Q hQ hN=>?_
 try dsimp only
 refine WS fun _ B=>eI U fun E=>bD 1 U<|RK B<|WS fun _ A=>rP 5 [] (mc 0 U mn) ?_
 refine cp (t:=7) U (aT fun C=>?_) (aU fun C=>?_)
 ·refine rP 13 [] mn ?_
  refine RK A<|aq<|Q1 hQ U U U ?_
  simp only [mZ]
  exact cB (bE I).symm
 refine rP 6 [] (mc 0 U mn) ?_
 refine cp (t:=13) U (aT fun D=>?_) (aU fun D=>?_)
 ·refine rP 7 [] mn ?_
  refine RK A<|aq<|Q1 hQ U U U ?_
  simp only [mZ]
  exact cB (bE I).symm
 refine rP 7 [] (mc 0 U mn) ?_
 refine RK A<|aq<|Q1 hQ U U U ?_
 simp only [mZ]
 exact cB (gR.2 I)
theorem Tj (d:av) (sgA:OA) (sgC:Nat):
 dG Tryz.prog 205 [(vA (aP.cells (aP.mk d.Out d.dj d.Time (jk d.a_ sgA sgC))))] [(rd sgA d.a_.aa.length 2 (d.a_.aa.map aG.cells))] (vB d.Out):=by
 refine bG kr Tryz.func205 U U fun D Q hQ hN=>?_
 try dsimp only
 refine WS fun _ A=>eI U fun C=>bD 1 U<|RK A<|WS fun _ B=>rP 3 [] (mc 0 U mn) ?_
 refine RK B<|aq<|Q1 hQ U U U ?_
 rfl
theorem Sd (d:av) (sgA:OA) (sgC:Nat):
 dG Tryz.prog 208 [(vA (aP.cells (aP.mk d.Out d.dj d.Time (jk d.a_ sgA sgC))))] [(rd sgA d.a_.aa.length 2 (d.a_.aa.map aG.cells))] (vB d.dj):=by
 refine bG kr Tryz.func208 U U fun D Q hQ hN=>?_
 try dsimp only
 refine WS fun _ A=>eI U fun C=>bD 1 U<|RK A<|WS fun _ B=>rP 3 [] (mc 0 U mn) ?_
 refine RK B<|aq<|Q1 hQ U U U ?_
 rfl
theorem Sy (d:av) (sgA:OA) (sgC:Nat):
 dG Tryz.prog 211 [(vA (aP.cells (aP.mk d.Out d.dj d.Time (jk d.a_ sgA sgC))))] [(rd sgA d.a_.aa.length 2 (d.a_.aa.map aG.cells))] (vB true):=by
 refine bG kr Tryz.func211 U U fun D Q hQ hN=>?_
 try dsimp only
 refine WS fun _ A=>eI U fun C=>bD 1 U<|RK A<|WS fun _ B=>rP 1 [] mn ?_
 refine RK B<|aq<|Q1 hQ U U U ?_
 rfl
end
section
open Go.RowKit
theorem NC (l:bk) (kA:OA) (kC:Nat) (az:List RA) (cA:OA) (cC:Nat) (bA:OA) (bC:Nat) (d:av) (sgA:OA) (sgC:Nat) (hin:eg l az):
 dG Tryz.prog 206 [(vA (cv.cells (jN l kA kC cA cC bA bC))),(vA (aP.cells (aP.mk d.Out d.dj d.Time (jk d.a_ sgA sgC))))] [(rd kA l.aV.length 9 (l.aV.map ao.cells)),(rd cA l.aj.length 2 (List.zipWith aw.cells l.aj az)),(dR (bj aw.f_ l.aj az)),(rd bA l.ab.length 4 (l.ab.map bJ.cells)),(rd sgA d.a_.aa.length 2 (d.a_.aa.map aG.cells))] (vT [(vA (ag.cells d.Time)),(vB (decide (d.dj=false∧d.Time=gP∧mZ d.a_)))]):=by
 refine bG kr Tryz.func206 U U fun K Q hQ hN=>?_
 try dsimp only
 refine WS fun _ B=>eI U fun H=>eI U fun AA=>AL U dV fun J=>rP 1 [] mn ?_
 refine RK B<|ak fun _ A=>dA ct [15] [] [] [1,2,3,4,5,6,7] [] U U U U U<|eS U (FA 2 U fj U)<|eS U (LP (ag.cells d.Time) 0 U cj U U U)<|eS U (FA 1 U fj U)<|eS U (L1 (vB d.dj) 0 U cj U U)<|eS U (NT U)<|eS U (MV U)<|rY (t:=11) U (fun G=>?_) (fun G=>?_)
 rotate_left 1
 ·rw [Bool.not_eq_false'] at G
  refine eS U (OX U)<|eS U (OX U)<|eS U (OX U)<|eS U (OX U)<|eS U (PK U)<|eS U (MV U)<|eS U (OX U)<|eS U (OX U)<|eS U (PK U)<|eS U (AG U)<|eh U<|cd U fun T10 C=>fG U cZ U<|aF (C _ _ (aQ [1,2,3,4,5,6,7]) ?_)
  refine fp U<|KK A<|aq<|mV hQ [0] (mc 0 U mn) U ?_
  clear hQ hN C T10 A B
  refine congrArg (fun z=>Value.tuple #[_,vB z]) ?_
  first|rfl|(simp_all [gP]; done)
 rw [Bool.not_eq_true'] at G
 refine eS U (FA 2 U fj U)<|eS U (LP (ag.cells d.Time) 0 U cj U U U)<|eS U (SX (bp (xs:=[]) (cs:=(ag.cells (ag.mk 0 0))) U U (bo gX U)) U U)<|eS U (BI U (x3 _ _ d.Time (ag.mk 0 0)))<|eS U (PK U)<|eS U (MV U)<|rY (t:=17) U (fun D=>?_) (fun D=>?_)
 rotate_left 1
 ·replace D:=DF D
  refine eS U (OX U)<|eS U (OX U)<|eS U (PK U)<|eS U (AG U)<|eh U<|cd U fun T9 F=>fG U cZ U<|aF (F _ _ (aQ [1,2,3,4,5,6,7]) ?_)
  refine fp U<|KK A<|aq<|mV hQ [0] (mc 0 U mn) U ?_
  clear hQ hN F T9 A B
  refine congrArg (fun z=>Value.tuple #[_,vB z]) ?_
  first|rfl|(simp_all [gP]; done)
 replace D:=DT D
 refine eS U (LW 0 U cj U U)<|eS U (CL (JS d sgA sgC) (bu [6]) U)<|eS U (PK U)<|eS U (AG U)<|eh U<|cd U fun T8 E=>fG U cZ U<|aF (E _ _ (aQ [1,2,3,4,5,6,7]) ?_)
 refine fp U<|KK A<|aq<|mV hQ [0] (mc 0 U mn) U ?_
 clear hQ hN E T8 A B
 refine congrArg (fun z=>Value.tuple #[_,vB z]) ?_
 first|rfl|(simp_all [gP]; done)
theorem NA (l:bk) (kA:OA) (kC:Nat) (az:List RA) (cA:OA) (cC:Nat) (bA:OA) (bC:Nat) (d:av) (sgA:OA) (sgC:Nat) (hin:eg l az):
 dG Tryz.prog 209 [(vA (cv.cells (jN l kA kC cA cC bA bC))),(vA (aP.cells (aP.mk d.Out d.dj d.Time (jk d.a_ sgA sgC))))] [(rd kA l.aV.length 9 (l.aV.map ao.cells)),(rd cA l.aj.length 2 (List.zipWith aw.cells l.aj az)),(dR (bj aw.f_ l.aj az)),(rd bA l.ab.length 4 (l.ab.map bJ.cells)),(rd sgA d.a_.aa.length 2 (d.a_.aa.map aG.cells))] (vT [(vA (ag.cells d.Time)),(vB (decide (mq d.Time∧mZ d.a_)))]):=by
 refine bG kr Tryz.func209 U U fun AA Q hQ hN=>?_
 try dsimp only
 refine WS fun _ B=>eI U fun F=>eI U fun G=>AL U dV fun H=>rP 1 [] mn ?_
 refine RK B<|ak fun _ A=>dA ct [9] [] [] [1,2,3,4,5,6,7] [] U U U U U<|eS U (FA 2 U fj U)<|eS U (LP (ag.cells d.Time) 0 U cj U U U)<|eS U (FA 2 U fj U)<|eS U (LP (ag.cells d.Time) 0 U cj U U U)<|eS U (CL (L8 d.Time) (aO) U)<|eS U (MV U)<|rY (t:=11) U (fun C=>?_) (fun C=>?_)
 rotate_left 1
 ·replace C:=DF C
  refine eS U (OX U)<|eS U (OX U)<|eS U (PK U)<|eS U (AG U)<|eh U<|cd U fun T8 E=>fG U cZ U<|aF (E _ _ (aQ [1,2,3,4,5,6,7]) ?_)
  refine fp U<|KK A<|aq<|mV hQ [0] (mc 0 U mn) U ?_
  clear hQ hN E T8 A B
  refine congrArg (fun z=>Value.tuple #[_,vB z]) ?_
  first|rfl|(simp_all; done)
 replace C:=DT C
 refine eS U (LW 0 U cj U U)<|eS U (CL (JS d sgA sgC) (bu [6]) U)<|eS U (PK U)<|eS U (AG U)<|eh U<|cd U fun T7 D=>fG U cZ U<|aF (D _ _ (aQ [1,2,3,4,5,6,7]) ?_)
 refine fp U<|KK A<|aq<|mV hQ [0] (mc 0 U mn) U ?_
 clear hQ hN D T7 A B
 refine congrArg (fun z=>Value.tuple #[_,vB z]) ?_
 first|rfl|(simp_all; done)
theorem NN (l:bk) (kA:OA) (kC:Nat) (az:List RA) (cA:OA) (cC:Nat) (bA:OA) (bC:Nat) (d:av) (sgA:OA) (sgC:Nat) (hin:eg l az) (hsl:d.a_.aa.length≤1000000):
 dG Tryz.prog 212 [(vA (cv.cells (jN l kA kC cA cC bA bC))),(vA (aP.cells (aP.mk d.Out d.dj d.Time (jk d.a_ sgA sgC))))] [(rd kA l.aV.length 9 (l.aV.map ao.cells)),(rd cA l.aj.length 2 (List.zipWith aw.cells l.aj az)),(dR (bj aw.f_ l.aj az)),(rd bA l.ab.length 4 (l.ab.map bJ.cells)),(rd sgA d.a_.aa.length 2 (d.a_.aa.map aG.cells))] (vT [(vA (ag.cells (Aw l d.a_))),(vB (decide (de l d.a_ l.bS=0∧d.Time=gP)))]):=by
 have K:=hin.sJ
 have AA:=hin.sL
 have G:=hin.og
 have H:=hin.sH
 have J:=hin.side
 refine bG kr Tryz.func212 U U fun P Q hQ hN=>?_
 try dsimp only
 refine WS fun _ C=>eI U fun L=>eI U fun M=>AL U dV fun N=>bD 1 U<|RK C<|WS fun _ D=>eQ 2 [] (mc 2 U mn) U<|rS (LP (cz.cells (jk d.a_ sgA sgC)) 1 U cj U U U)<|rS (CL (S9 l kA kC az cA cC bA bC d.a_ sgA sgC hin hsl) (bu [3,4,5,6,7]) U)<|bD 3 U<|AL U dV fun O=>fG U cZ U<|rP 1 [] mn ?_
 refine RK D<|ak fun _ A=>dA ct [9] [] [] [0,2,3,4,5,6,7,8] [] U U U U U<|eS U (LW 0 U cj U U)<|eS U (MV U)<|eS U (BI U lE)<|eS U (MV U)<|rY (t:=18) U (fun E=>?_) (fun E=>?_)
 rotate_left 1
 ·replace E:=DF E
  refine eS U (OX U)<|eS U (OX U)<|eS U (OX U)<|eS U (OX U)<|eS U (PK U)<|eS U (AG U)<|eh U<|cd U fun T10 B=>qO U cZ U<|aF (B _ _ (aQ [0,2,3,4,5,6,7,8]) ?_)
  refine fp U<|KK A<|aq<|mV hQ [0] (mc 1 U mn) U ?_
  clear hQ hN B T10 A D C
  refine congrArg (fun z=>Value.tuple #[_,vB z]) ?_
  first|rfl|(simp_all [gP]; done)
 replace E:=DT E
 refine eS U (FA 2 U fj U)<|eS U (LP (ag.cells d.Time) 1 U cj U U U)<|eS U (SX (bp (xs:=[]) (cs:=(ag.cells (ag.mk 0 0))) U U (bo gX U)) U U)<|eS U (BI U (x3 _ _ d.Time (ag.mk 0 0)))<|eS U (PK U)<|eS U (AG U)<|eh U<|cd U fun T9 F=>qO U cZ U<|aF (F _ _ (aQ [0,2,3,4,5,6,7,8]) ?_)
 refine fp U<|KK A<|aq<|mV hQ [0] (mc 1 U mn) U ?_
 clear hQ hN F T9 A D C
 refine congrArg (fun z=>Value.tuple #[_,vB z]) ?_
 first|rfl|(simp_all [gP]; done)
theorem F4 (d:av) (sgA:OA) (sgC g1:Nat):
 dG Tryz.prog 149 [(vA (m0.cells (m0.mk (Value.func (.func 205) [].toArray [].toArray) (Value.func (.func 206) [].toArray [].toArray)))),(vP g1)] [(rd sgA d.a_.aa.length 2 (d.a_.aa.map aG.cells)),(cu g1 58 (aP.cells (aP.mk d.Out d.dj d.Time (jk d.a_ sgA sgC))))] (vB d.Out):=by
 refine bG kr Tryz.func149 U U fun D Q hQ hN=>?_
 try dsimp only
 refine WS fun _ A=>eI U fun C=>bD 1 U<|RK A<|WS fun _ B=>eQ 3 [0,1] (mc 0 U (mr 2 U mn)) U<|rS (CL (Tj d sgA sgC) (bu [1]) U)<|rP 1 [] mn ?_
 refine RK B<|aq<|Q1 hQ U U U ?_
 rfl
theorem F6 (d:av) (sgA:OA) (sgC g1:Nat):
 dG Tryz.prog 149 [(vA (m0.cells (m0.mk (Value.func (.func 208) [].toArray [].toArray) (Value.func (.func 209) [].toArray [].toArray)))),(vP g1)] [(rd sgA d.a_.aa.length 2 (d.a_.aa.map aG.cells)),(cu g1 58 (aP.cells (aP.mk d.Out d.dj d.Time (jk d.a_ sgA sgC))))] (vB d.dj):=by
 refine bG kr Tryz.func149 U U fun D Q hQ hN=>?_
 try dsimp only
 refine WS fun _ A=>eI U fun C=>bD 1 U<|RK A<|WS fun _ B=>eQ 3 [0,1] (mc 0 U (mr 2 U mn)) U<|rS (CL (Sd d sgA sgC) (bu [1]) U)<|rP 1 [] mn ?_
 refine RK B<|aq<|Q1 hQ U U U ?_
 rfl
theorem HM (d:av) (sgA:OA) (sgC g1:Nat):
 dG Tryz.prog 149 [(vA (m0.cells (m0.mk (Value.func (.func 211) [].toArray [].toArray) (Value.func (.func 212) [].toArray [].toArray)))),(vP g1)] [(rd sgA d.a_.aa.length 2 (d.a_.aa.map aG.cells)),(cu g1 58 (aP.cells (aP.mk d.Out d.dj d.Time (jk d.a_ sgA sgC))))] (vB true):=by
 refine bG kr Tryz.func149 U U fun D Q hQ hN=>?_
 try dsimp only
 refine WS fun _ A=>eI U fun C=>bD 1 U<|RK A<|WS fun _ B=>eQ 3 [0,1] (mc 0 U (mr 2 U mn)) U<|rS (CL (Sy d sgA sgC) (bu [1]) U)<|rP 1 [] mn ?_
 refine RK B<|aq<|Q1 hQ U U U ?_
 rfl
end
section
open Go.RowKit
theorem x4 (d:av) (sgA:OA) (sgC g1:Nat):
 dG Tryz.prog 148 [(vS gS 3 3),(Value.func (.func 149) [].toArray [(vP g1)].toArray)] [(rd gS 3 2 fP),(rd sgA d.a_.aa.length 2 (d.a_.aa.map aG.cells)),(cu g1 58 (aP.cells (aP.mk d.Out d.dj d.Time (jk d.a_ sgA sgC))))] (vI (oY d)):=by
 refine bG kr Tryz.func148 U U fun b Q hQ hN=>?_
 try dsimp only
 refine WS fun _ F=>bD 1 U<|RK F<|ak fun _ AA=>WS fun _ G=>bD 3 U<|RK G<|aH<|rD 4<|kW fun R4 Z=>WS fun _ H=>rS (SX (gl (r:= .bool true) U U U pg) U U)<|RK H<|ak fun _ AB=>aS U<|WK AB<|ak fun _ J=>aH<|WS fun _ K=>bD 2 U<|RK K<|WS fun _ L=>rP 3 [] mn ?_
 refine rS (IA 0 U (aA 0 U) Lt dc U I)<|rS (lx 0 0 (m0.cells (m0.mk (Value.func (.func 205) [].toArray [].toArray) (Value.func (.func 206) [].toArray [].toArray))) U cj (aA 0 U) (show fP[0]? =some [(Value.func (.func 205) [].toArray [].toArray),(Value.func (.func 206) [].toArray [].toArray)] from U) U dc U U)<|rS (CL (F4 d sgA sgC g1) (bu [1,2]) U)<|RK L<|cx U (fun X=>?_) (fun X=>?_)
 ·refine WS fun _ M=>rP 2 [] mn ?_
  refine RK M<|aq<|Q1 hQ U U U ?_
  clear hQ hN M L K J AB H G AA F
  refine cI ?_
  simp [oY, *]
 refine cf<|aN<|KK J<|au<|rS (SX (gl (r:= .int .i64 1) U U U (nO ⟨dc,dc⟩)) U U)<|bD 1 U<|RK Z<|kW fun R12 W=>WS fun _ A=>rS (SX (gl (r:= .bool true) U U U pg) U U)<|RK A<|ak fun _ B=>aS U<|WK B<|ak fun _ C=>aH<|WS fun _ D=>bD 2 U<|RK D<|WS fun _ E=>rP 3 [] mn ?_
 refine rS (IA 1 U (aA 0 U) Lt dc U I)<|rS (lx 1 0 (m0.cells (m0.mk (Value.func (.func 208) [].toArray [].toArray) (Value.func (.func 209) [].toArray [].toArray))) U cj (aA 0 U) (show fP[1]? =some [(Value.func (.func 208) [].toArray [].toArray),(Value.func (.func 209) [].toArray [].toArray)] from U) U dc U U)<|rS (CL (F6 d sgA sgC g1) (bu [1,2]) U)<|RK E<|cx U (fun Y=>?_) (fun Y=>?_)
 ·refine WS fun _ N=>rP 2 [] mn ?_
  refine RK N<|aq<|Q1 hQ U U U ?_
  clear hQ hN N E D C B A L K J AB H G AA F
  refine cI ?_
  simp [oY, *]
 refine cf<|aN<|KK C<|au<|rS (SX (gl (r:= .int .i64 2) U U U (nO ⟨dc,dc⟩)) U U)<|bD 1 U<|RK W<|kW fun R20 a=>WS fun _ O=>rS (SX (gl (r:= .bool true) U U U pg) U U)<|RK O<|ak fun _ P=>aS U<|WK P<|ak fun _ V=>aH<|WS fun _ R=>bD 2 U<|RK R<|WS fun _ S=>bD 3 U<|rS (IA 2 U (aA 0 U) Lt dc U I)<|rS (lx 2 0 (m0.cells (m0.mk (Value.func (.func 211) [].toArray [].toArray) (Value.func (.func 212) [].toArray [].toArray))) U cj (aA 0 U) (show fP[2]? =some [(Value.func (.func 211) [].toArray [].toArray),(Value.func (.func 212) [].toArray [].toArray)] from U) U dc U U)<|rS (CL (HM d sgA sgC g1) (bu [1,2]) U)<|RK S<|aS U<|WS fun _ T=>rP 2 [] mn ?_
 refine RK T<|aq<|Q1 hQ U U U ?_
 clear hQ hN T S R V P O E D C B A L K J AB H G AA F
 refine cI ?_
 simp [oY, *]
end
section
open Go.RowKit
theorem Tv (d:av) (sgA:OA) (sgC g1:Nat) (hk:d.Out=true):
 dG Tryz.prog 148 [(vS gS 3 3),(Value.func (.func 149) [].toArray [(vP g1)].toArray)] [(rd gS 3 2 fP),(rd sgA d.a_.aa.length 2 (d.a_.aa.map aG.cells)),(cu g1 58 (aP.cells (aP.mk d.Out d.dj d.Time (jk d.a_ sgA sgC))))] (vI 0):=by
 have h:=x4 d sgA sgC g1
 have e:oY d=0:=by simp [oY,hk]
 rw [e] at h
 exact h
theorem RG (d:av) (sgA:OA) (sgC g1:Nat) (hk:d.Out=false∧d.dj=true):
 dG Tryz.prog 148 [(vS gS 3 3),(Value.func (.func 149) [].toArray [(vP g1)].toArray)] [(rd gS 3 2 fP),(rd sgA d.a_.aa.length 2 (d.a_.aa.map aG.cells)),(cu g1 58 (aP.cells (aP.mk d.Out d.dj d.Time (jk d.a_ sgA sgC))))] (vI 1):=by
 have h:=x4 d sgA sgC g1
 have e:oY d=1:=by simp [oY,hk]
 rw [e] at h
 exact h
theorem Rl (d:av) (sgA:OA) (sgC g1:Nat) (hk:d.Out=false∧d.dj=false):
 dG Tryz.prog 148 [(vS gS 3 3),(Value.func (.func 149) [].toArray [(vP g1)].toArray)] [(rd gS 3 2 fP),(rd sgA d.a_.aa.length 2 (d.a_.aa.map aG.cells)),(cu g1 58 (aP.cells (aP.mk d.Out d.dj d.Time (jk d.a_ sgA sgC))))] (vI 2):=by
 have h:=x4 d sgA sgC g1
 have e:oY d=2:=by simp [oY,hk]
 rw [e] at h
 exact h
theorem Cd (l:bk) (kA:OA) (kC:Nat) (az:List RA) (cA:OA) (cC:Nat) (bA:OA) (bC:Nat) (d:av) (sgA:OA) (sgC:Nat) (hin:eg l az) (hsl:d.a_.aa.length≤1000000) (hk:d.Out=true):
 dG Tryz.prog 127 [(vA (cv.cells (jN l kA kC cA cC bA bC))),(vA (aP.cells (aP.mk d.Out d.dj d.Time (jk d.a_ sgA sgC))))] [(rd gS 3 2 fP),(rd kA l.aV.length 9 (l.aV.map ao.cells)),(rd cA l.aj.length 2 (List.zipWith aw.cells l.aj az)),(dR (bj aw.f_ l.aj az)),(rd bA l.ab.length 4 (l.ab.map bJ.cells)),(rd sgA d.a_.aa.length 2 (d.a_.aa.map aG.cells))] (vT [(vA (ag.cells (gh l d))),(vB (decide (iW l d)))]):=by
 refine bG kr Tryz.func127 U U fun AA Q hQ hN=>?_
 try dsimp only
 refine WS fun _ A=>eI U fun G=>eI U fun D=>AL U dV fun H=>bD 1 U<|RK A<|WS fun _ B=>rS (SX (DB U U zm) U U)<|rS (FU U)<|rS (CL (Tv d sgA sgC D hk) (QN 3 8 1 U U U U U U) U)<|bD 1 U<|RK B<|ak fun _ C=>dp ct 9 kr<|kX 1 U<|dS (SX (D0 (k:=0) U U U zm U I) U U)<|dS (o9 ((0*2)+1) U (aA 3 U) (Nat.mul_pos I dc) fj U)<|dS (g6 0 1 (Value.func (.func 206) [].toArray [].toArray) U cj (aA 3 U) (show fP[0]? =some [(Value.func (.func 205) [].toArray [].toArray),(Value.func (.func 206) [].toArray [].toArray)] from U) U dc U)<|lU 2 [0,1] (mc 2 U (mc 1 U mn)) U<|dS (CL (NC l kA kC az cA cC bA bC d sgA sgC hin) (bu [4,5,6,7,8]) U)<|kX 2 U<|cK<|fG U cZ U<|rP 1 [] mn ?_
 refine RK C<|aq<|mV hQ [0] (mc 0 U mn) U ?_
 have E:=Fe (l:=l) hk
 have F:=rl (l:=l) hk
 simp only [E,F]
theorem AQ (l:bk) (kA:OA) (kC:Nat) (az:List RA) (cA:OA) (cC:Nat) (bA:OA) (bC:Nat) (d:av) (sgA:OA) (sgC:Nat) (hin:eg l az) (hsl:d.a_.aa.length≤1000000) (hk:d.Out=false∧d.dj=true):
 dG Tryz.prog 127 [(vA (cv.cells (jN l kA kC cA cC bA bC))),(vA (aP.cells (aP.mk d.Out d.dj d.Time (jk d.a_ sgA sgC))))] [(rd gS 3 2 fP),(rd kA l.aV.length 9 (l.aV.map ao.cells)),(rd cA l.aj.length 2 (List.zipWith aw.cells l.aj az)),(dR (bj aw.f_ l.aj az)),(rd bA l.ab.length 4 (l.ab.map bJ.cells)),(rd sgA d.a_.aa.length 2 (d.a_.aa.map aG.cells))] (vT [(vA (ag.cells (gh l d))),(vB (decide (iW l d)))]):=by
 refine bG kr Tryz.func127 U U fun AA Q hQ hN=>?_
 try dsimp only
 refine WS fun _ A=>eI U fun G=>eI U fun D=>AL U dV fun H=>bD 1 U<|RK A<|WS fun _ B=>rS (SX (DB U U zm) U U)<|rS (FU U)<|rS (CL (RG d sgA sgC D hk) (QN 3 8 1 U U U U U U) U)<|bD 1 U<|RK B<|ak fun _ C=>dp ct 9 kr<|kX 1 U<|dS (SX (D0 (k:=1) U U U zm U I) U U)<|dS (o9 ((1*2)+1) U (aA 3 U) (Nat.mul_pos I dc) fj U)<|dS (g6 1 1 (Value.func (.func 209) [].toArray [].toArray) U cj (aA 3 U) (show fP[1]? =some [(Value.func (.func 208) [].toArray [].toArray),(Value.func (.func 209) [].toArray [].toArray)] from U) U dc U)<|lU 2 [0,1] (mc 2 U (mc 1 U mn)) U<|dS (CL (NA l kA kC az cA cC bA bC d sgA sgC hin) (bu [4,5,6,7,8]) U)<|kX 2 U<|cK<|fG U cZ U<|rP 1 [] mn ?_
 refine RK C<|aq<|mV hQ [0] (mc 0 U mn) U ?_
 have E:=FB (l:=l) hk
 have F:=tT (l:=l) hk
 simp only [E,F]
theorem Bs (l:bk) (kA:OA) (kC:Nat) (az:List RA) (cA:OA) (cC:Nat) (bA:OA) (bC:Nat) (d:av) (sgA:OA) (sgC:Nat) (hin:eg l az) (hsl:d.a_.aa.length≤1000000) (hk:d.Out=false∧d.dj=false):
 dG Tryz.prog 127 [(vA (cv.cells (jN l kA kC cA cC bA bC))),(vA (aP.cells (aP.mk d.Out d.dj d.Time (jk d.a_ sgA sgC))))] [(rd gS 3 2 fP),(rd kA l.aV.length 9 (l.aV.map ao.cells)),(rd cA l.aj.length 2 (List.zipWith aw.cells l.aj az)),(dR (bj aw.f_ l.aj az)),(rd bA l.ab.length 4 (l.ab.map bJ.cells)),(rd sgA d.a_.aa.length 2 (d.a_.aa.map aG.cells))] (vT [(vA (ag.cells (gh l d))),(vB (decide (iW l d)))]):=by
 refine bG kr Tryz.func127 U U fun AA Q hQ hN=>?_
 try dsimp only
 refine WS fun _ A=>eI U fun G=>eI U fun D=>AL U dV fun H=>bD 1 U<|RK A<|WS fun _ B=>rS (SX (DB U U zm) U U)<|rS (FU U)<|rS (CL (Rl d sgA sgC D hk) (QN 3 8 1 U U U U U U) U)<|bD 1 U<|RK B<|ak fun _ C=>dp ct 9 kr<|kX 1 U<|dS (SX (D0 (k:=2) U U U zm U I) U U)<|dS (o9 ((2*2)+1) U (aA 3 U) (Nat.mul_pos I dc) fj U)<|dS (g6 2 1 (Value.func (.func 212) [].toArray [].toArray) U cj (aA 3 U) (show fP[2]? =some [(Value.func (.func 211) [].toArray [].toArray),(Value.func (.func 212) [].toArray [].toArray)] from U) U dc U)<|lU 2 [0,1] (mc 2 U (mc 1 U mn)) U<|dS (CL (NN l kA kC az cA cC bA bC d sgA sgC hin hsl) (bu [4,5,6,7,8]) U)<|kX 2 U<|cK<|fG U cZ U<|rP 1 [] mn ?_
 refine RK C<|aq<|mV hQ [0] (mc 0 U mn) U ?_
 have E:=EC (l:=l) hk
 have F:=qE (l:=l) hk
 simp only [E,F]
theorem D3 (l:bk) (kA:OA) (kC:Nat) (az:List RA) (cA:OA) (cC:Nat) (bA:OA) (bC:Nat) (d:av) (sgA:OA) (sgC:Nat) (hin:eg l az) (hsl:d.a_.aa.length≤1000000):
 dG Tryz.prog 127 [(vA (cv.cells (jN l kA kC cA cC bA bC))),(vA (aP.cells (aP.mk d.Out d.dj d.Time (jk d.a_ sgA sgC))))] [(rd gS 3 2 fP),(rd kA l.aV.length 9 (l.aV.map ao.cells)),(rd cA l.aj.length 2 (List.zipWith aw.cells l.aj az)),(dR (bj aw.f_ l.aj az)),(rd bA l.ab.length 4 (l.ab.map bJ.cells)),(rd sgA d.a_.aa.length 2 (d.a_.aa.map aG.cells))] (vT [(vA (ag.cells (gh l d))),(vB (decide (iW l d)))]):=by
 by_cases ho:d.Out=true
 ·exact Cd l kA kC az cA cC bA bC d sgA sgC hin hsl ho
 by_cases hf:d.dj=true
 ·exact AQ l kA kC az cA cC bA bC d sgA sgC hin hsl ⟨by simpa using ho,hf⟩
 ·exact Bs l kA kC az cA cC bA bC d sgA sgC hin hsl ⟨by simpa using ho,by simpa using hf⟩
end
section
open Go.RowKit
theorem JG (lA:OA) (lN lC:Nat):
 pG Tryz.prog 125 [(vS lA lN lC)] [] (fun (x:Nat)=>(Value.func (.func 146) [].toArray [(vP x)].toArray)) (fun (x:Nat)=>True) (fun (x:Nat)=>[(cu x 29 [(vS lA lN lC)])]):=by
 refine e_ kr Tryz.func125 U U fun D Q hQ hN=>?_
 try dsimp only
 refine WS fun _ A=>wJ U U fun C=>bD 1 U<|RK A<|WS fun _ B=>rS (FU U)<|rP 1 [] mn ?_
 refine RK B<|aq<|LX hQ C [0] [] mn U U U U ?_
 trivial
theorem JE (nl:List Int) (nlA:OA) (nlC g1:Nat) (hlen:nl.length≤12):
 Nw Tryz.prog 146 [] [(vP g1)] [(rd nlA nl.length 1 (nl.map iC)),(cu g1 29 [(vS nlA nl.length nlC)])] (rm nl):=by
 refine EF kr Tryz.func146 U U fun l J Z A0 T Q hY K AB hQ hN=>?_
 try dsimp only
 refine WS fun _ M=>rP 3 [] (mr 2 U mn) ?_
 refine RK M<|aH ?_
 have F:(0≤nl.length)∧(J 0 A0)∧(Fo A0 T A0):=by exact ⟨Nat.zero_le _,K,AB⟩
 refine bY (ι:={z:Nat×ax // (z.1≤nl.length)∧(J z.1 z.2)∧(Fo A0 T z.2)}) [0,1,5,6] [1] U U (fun z=>[(7,(vI (z.1.1:Int)))]) (fun z=>[z.1.2]) (fun _=>rfl) (fun _=>rfl) (fun z=>nl.length-z.1.1) ⟨(0,A0),F⟩ (bB U) (aQ [1,0]) ?_
 clear F
 rintro ⟨⟨i,A⟩,⟨G,B,C⟩⟩ J2 L
 try dsimp only at G B C
 try dsimp only
 refine WS fun _ N=>rP 1 [] mn ?_
 refine RK N<|ak fun _ O=>bW U (aT fun AA=>?_) (aU fun AA=>?_)
 ·refine bP<|ai<|ai<|aJ ?_
  refine hN _ _ _ (jV (vs:=[]) trivial fun w hs=>TE 1 U (by rw [ui]; have e:nl.length=i:=I; rw [e]; exact B) C hs)
 refine WK O<|ak fun _ P=>aH<|WS fun _ R=>?_
 obtain ⟨x,hx⟩:=aL nl i I
 have S:=bM iC hx
 refine rS (IA i U (aA 0 U) dv dc I I)<|rS (g6 i 0 (vI x) U cj (aA 0 U) S U dc U)<|bD 1 U<|RK R<|WS fun _ H=>rP 2 [] mn ?_
 refine Fg 1 hY B C U U U (G0 hx) U U (fun B9 E D=>?_) (fun B9 E D=>?_)
 rotate_left 1
 ·refine rP 1 [] mn ?_
  refine RK H<|aS U<|aq ?_
  refine hQ _ _ _ (jV (vs:=[]) trivial fun w hs=>N_ 1 U E D hs)
 refine bD 1 U<|RK H<|bR U<|cf<|aN<|KK P<|au<|rP 2 [] mn ?_
 refine aF ?_
 refine bg (L ⟨((i+1),B9),⟨I,E,D⟩⟩ _ _ _ U os (bB U) (aQ [0,1]))
end
section
open Go.RowKit
theorem Nn (x:Int):
 dG Tryz.prog 184 [(vI x)] [] (vB false):=by
 refine bG kr Tryz.func184 U U fun C Q hQ hN=>?_
 try dsimp only
 refine WS fun _ A=>bD 1 U<|RK A<|WS fun _ B=>rP 4 [] mn ?_
 refine RK B<|aq<|Q1 hQ U U U ?_
 simp
theorem MG (x y:Int):
 dG Tryz.prog 171 [(vI x),(vI y)] [] (vB (decide (x<y))):=by
 refine bG kr Tryz.func171 U U fun C Q hQ hN=>?_
 try dsimp only
 refine WS fun _ A=>bD 1 U<|RK A<|WS fun _ B=>bD 1 U<|rS (CL (Nn x) (aO) U)<|rP 11 [] mn ?_
 refine RK B<|aq<|Q1 hQ U U U ?_
 exact cB (gR.2 I)
theorem HF (l:List Int) (lA:OA) (lC:Nat) (hlen:l.length≤1000000):
 LB Tryz.prog 165 [(vS lA l.length lC),(vI 0),(vI (l.length:Int))] [] (own lA lC 3 1 (l.map iC)) (fun (x:(List Int))=>(vT [])) (fun (x:(List Int))=>x.Perm l∧x.Pairwise (· ≤ ·)) (fun (x:(List Int))=>(own lA lC 3 1 (x.map iC))):=by
 refine uR kr Tryz.func165 U U fun g Q hQ hN=>?_
 try dsimp only
 refine WS fun _ X=>bD 1 U<|rS (SX (gl (r:= .int .i64 1) U U U (nO ⟨dc,dc⟩)) U U)<|rP 1 [] mn ?_
 refine RK X<|aH ?_
 have A:(1≤1∧(1≤l.length∨1=1))∧(l.length=l.length)∧(l.Perm l)∧(Qz l 1):=by exact ⟨I,rfl,List.Perm.refl _,M_⟩
 refine bY (ι:={z:Nat×(List Int) // (1≤z.1∧(z.1≤l.length∨z.1=1))∧(z.2.length=l.length)∧(z.2.Perm l)∧(Qz z.2 z.1)}) [0,1,2] [] U U (fun z=>[(6,(vI (z.1.1:Int)))]) (fun z=>[(own lA lC 3 1 (z.1.2.map iC))]) (fun _=>rfl) (fun _=>rfl) (fun z=>l.length-z.1.1) ⟨(1,l),A⟩ (bB U) (aQ [0]) ?_
 clear A
 rintro ⟨⟨i,m⟩,⟨K,AB,E,F⟩⟩ J2 M
 try dsimp only at K AB E F
 try dsimp only
 refine ak fun _ Y=>WS fun _ Z=>rP 3 [] mn ?_
 refine RK Z<|bW U (aT fun e=>?_) (aU fun e=>?_)
 ·refine bP<|ai<|ai<|aJ<|LM hN m 0 [] mn U U U U ?_
  exact ⟨E,Mq F I⟩
 refine WK Y<|ak fun _ O=>aH<|WS fun _ b=>rP 2 [] mn ?_
 refine RK b<|aH ?_
 have A:(i≤i)∧(m.length=l.length)∧(m.Perm l)∧(O_ m i i):=by exact ⟨Nat.le_refl _,AB,E,F9 F I⟩
 refine bY (ι:={z:Nat×(List Int) // (z.1≤i)∧(z.2.length=l.length)∧(z.2.Perm l)∧(O_ z.2 i z.1)}) [0,1,2,6] [] U U (fun z=>[(7,(vI (z.1.1:Int)))]) (fun z=>[(own lA lC 3 1 (z.1.2.map iC))]) (fun _=>rfl) (fun _=>rfl) (fun z=>z.1.1) ⟨(i,m),A⟩ (bB U) (aQ [0]) ?_
 clear A
 rintro ⟨⟨j,q⟩,⟨G,B,C,D⟩⟩ J8 W
 try dsimp only at G B C D
 try dsimp only
 refine ak fun _ c=>ak fun _ J=>dp ct 15 kr<|dP 4 [] mn ?_
 refine jy (t:=19) U (aT fun hj=>?_) (aU fun hj=>?_)
 ·refine kX 11 U<|cK<|RK J<|bR U<|bP<|ai<|ai<|aJ<|aN<|KK O<|au<|rP 3 [] mn ?_
  refine aF ?_
  refine bg (M ⟨((i+1),q),⟨I,B,C,by exact KR I D⟩⟩ _ _ _ U (by simp only []; omega) (bB U) (aQ [0]))
 refine dP 2 [] mn ?_
 obtain ⟨x,hx⟩:=aL q j I
 have L:=bM iC hx
 refine dS (IA j U (aC (n:=l.length) 0 U sq) dv dc I I) ?_
 refine dS (g6 j 0 (vI x) U cj (aC (n:=q.length) 0 U sm) L U dc U)<|dP 3 [] mn ?_
 obtain ⟨y,hy⟩:=aL q (j-1) I
 have V:=bM iC hy
 refine dS (IA (j-1) U (aC (n:=l.length) 0 U sq) dv dc I I) ?_
 refine dS (g6 (j-1) 0 (vI y) U cj (aC (n:=q.length) 0 U sm) V U dc U)<|dS (CL (MG x y) (aO) U)<|dP 1 [] mn ?_
 refine cK<|RK J<|bW U (aT fun H=>?_) (aU fun H=>?_)
 ·refine bP<|ai<|ai<|aJ<|aN<|KK O<|au<|rP 3 [] mn ?_
  refine aF ?_
  refine bg (M ⟨((i+1),q),⟨I,B,C,by exact JY hx hy I G H D⟩⟩ _ _ _ U (by simp only []; omega) (bB U) (aQ [0]))
 refine WK c<|ak fun _ N=>aH<|dA ct [15,16,17] [8,9,12,13,14] [] [] [0] U U U U U<|eS U (MV U)<|eS U (MV U)<|eS U (MV U)<|eS U (MV U)<|eS U (BI U (vK ⟨I,I⟩))<|eS U (MV U)<|eS U (MV U)<|eS U (BI U (vK ⟨I,I⟩)) ?_
 refine fS U (IA (j-1) U (aC (n:=l.length) 0 U sq) dv dc I I) ?_
 refine fS U (g6 (j-1) 0 (vI y) U cj (aC (n:=q.length) 0 U sm) V U dc U)<|eS U (MV U)<|eS U (MV U) ?_
 refine fS U (IA j U (aC (n:=l.length) 0 U sq) dv dc I I) ?_
 refine fS U (g6 j 0 (vI x) U cj (aC (n:=q.length) 0 U sm) L U dc U) ?_
 refine fS U (IA j U (aC (n:=l.length) 0 U sq) dv dc I I) ?_
 refine eh U<|cd U fun T12 P=>fW (k:=j) (o:=0) (vs:=[(vI y)]) (es':=(List.map iC (q.set j y))) (C':=[(own lA lC 3 1 (List.map iC (q.set j y)))]) 0 U U U CU U U U U L U dc (by exact (List.map_set (f:=iC) (l:=q) (i:=j) (a:=y)).symm) U<|aF (P _ _ (aQ []) ?_)
 refine cd U fun T13 R=>?_
 obtain ⟨d,AA⟩:=aL (q.set j y) (j-1) os
 have hx15m:(List.map iC (q.set j y))[(j-1)]? =some (iC d):=by rw [fM,AA]; rfl
 refine rS (IA (j-1) U (aC (n:=l.length) 0 U sq) dv dc I I) ?_
 refine aF (R _ _ (aQ []) ?_)
 refine cd U fun T16 S=>fW (k:=(j-1)) (o:=0) (vs:=[(vI x)]) (es':=(List.map iC ((q.set j y).set (j-1) x))) (C':=[(own lA lC 3 1 (List.map iC ((q.set j y).set (j-1) x)))]) 0 U U U CU U U U U hx15m U dc (by exact (List.map_set (f:=iC) (l:=(q.set j y)) (i:=(j-1)) (a:=x)).symm) U<|aF (S _ _ (aQ []) ?_)
 refine fp U<|aN<|KK N<|au<|rP 3 [] mn ?_
 refine aF ?_
 have T:(vI (((j-1):Nat):Int))=(vI ((j:Int)-1)):=by exact cI I
 refine bg (W ⟨((j-1),((q.set j y).set (j-1) x)),⟨I,by simp; exact B,(HQ hx hy).trans C,Jh hx hy I G H D⟩⟩ _ _ _ U (by simp only []; omega) (cG 4<|bf U T<|dh.nil _) (aQ [0]))
theorem M3 (x:Int) (hx:0≤x∧x≤100):
 pG Tryz.prog 175 [(Value.int .u64 x)] [] (fun (x:Int)=>(vI x)) (fun (x:Int)=>True) (fun (x:Int)=>[]):=by
 refine e_ kr Tryz.func175 U U fun N Q hQ hN=>?_
 try dsimp only
 refine WS fun _ D=>bD 1 U<|RK D<|ak fun _ E=>WS fun _ F=>rP 1 [] mn ?_
 refine rS (BI U E1)<|RK F<|cx U (aU fun L=>?_) (aT fun L=>?_)
 ·exfalso; omega
 refine WK E<|ak fun _ G=>WS fun _ H=>rP 1 [] mn ?_
 refine rS (BI U E1)<|RK H<|cx U (aU fun M=>?_) (aT fun M=>?_)
 ·exfalso; omega
 refine WK G<|ak fun _ AA=>WS fun _ J=>rP 1 [] mn ?_
 refine rS (BI U E1)<|RK J<|cx U (aU fun C=>?_) (aT fun C=>?_)
 ·exfalso; omega
 refine WK AA<|WS fun _ B=>bD 2 U<|rS (SX (nm (m:=x) U U RI L_ (Bu (by first|assumption|omega))) U U)<|Pq (k:=(x).toNat) U U U Wm I (Nat.lt_of_lt_of_le (m:=200) I (of_decide_eq_true kr)) U fun A K=>rS (SX (nm (m:=A) U U L_ si (mN (by first|assumption|omega))) U U)<|rP 2 [] mn ?_
 refine RK B<|aq<|LX hQ (0+A) [] [] mn U U U U ?_
 trivial
theorem P2 (x:Int) (hx:0≤x∧x≤100):
 pG Tryz.prog 159 [(Value.int .u64 x)] [] (fun (x:Int)=>(vI x)) (fun (x:Int)=>True) (fun (x:Int)=>[]):=by
 refine e_ kr Tryz.func159 U U fun F Q hQ hN=>?_
 try dsimp only
 refine WS fun _ A=>bD 1 U<|RK A<|ak fun _ B=>bR U<|WK B<|WS fun _ C=>rP 1 [] mn ?_
 refine cX (M3 x hx) (aO) U fun E D=>?_
 try dsimp only
 refine rP 1 [] mn ?_
 refine RK C<|aq<|LX hQ E [] [] mn U U U U ?_
 trivial
theorem SH (l:List Int) (lA:OA) (lC:Nat) (u:Int) (hlen:l.length≤12):
 LB Tryz.prog 158 [(vS lA l.length lC),(vI 0),(vI (l.length:Int)),(vI u)] [] (own lA lC 3 1 (l.map iC)) (fun (x:(List Int))=>(vT [])) (fun (x:(List Int))=>x.Perm l∧x.Pairwise (· ≤ ·)) (fun (x:(List Int))=>(own lA lC 3 1 (x.map iC))):=by
 refine uR kr Tryz.func158 U U fun K Q hQ hN=>?_
 try dsimp only
 refine WS fun _ A=>bD 1 U<|RK A<|WS fun _ B=>bD 1 U<|RK B<|aH<|rD 1<|kW fun R3 AA=>aH<|WS fun _ C=>bD 4 U<|RK C<|ak fun _ H=>WS fun _ D=>rP 2 [] mn ?_
 refine RK D<|bW U (aT fun G=>?_) (aU fun G=>?_)
 ·exfalso; omega
 refine WS fun _ E=>rP 3 [] mn ?_
 refine oK 0 U U U U (HF l lA lC I) U qP U (fun J F=>?_)
 try dsimp only
 refine RK E<|aq<|LM hQ J 0 [] mn U U U U ?_
 assumption
theorem O4 (l:List Int) (lA:OA) (lC:Nat) (hlen:l.length≤12):
 LB Tryz.prog 145 [(vS lA l.length lC)] [] (own lA lC 3 1 (l.map iC)) (fun (x:(List Int))=>(vT [])) (fun (x:(List Int))=>x.Perm l∧x.Pairwise (· ≤ ·)) (fun (x:(List Int))=>(own lA lC 3 1 (x.map iC))):=by
 refine uR kr Tryz.func145 U U fun F Q hQ hN=>?_
 try dsimp only
 refine WS fun _ A=>bD 3 U<|RK A<|au<|rP 3 [] mn ?_
 refine rS (SX (nm (m:=(l.length:Int)) U U si Ts (AE (by first|assumption|omega))) U U)<|cX (P2 (l.length:Int) I) (aO) U fun E B=>?_
 try dsimp only
 refine oK 0 U U U U (SH l lA lC E hlen) U qP U (fun D C=>?_)
 try dsimp only
 refine aF<|LM hN D 0 [] mn U U U U ?_
 assumption
end
section
open Go.RowKit
theorem Jo (nl:List Int) (nlA:OA) (nlC g1:Nat) (hlen:nl.length≤12):
 pG Tryz.prog 157 [(vS none 0 0),(Value.func (.func 146) [].toArray [(vP g1)].toArray)] [(rd nlA nl.length 1 (nl.map iC)),(cu g1 29 [(vS nlA nl.length nlC)])] (fun (x:(OA)×Nat)=>(vS x.1 nl.length x.2)) (fun (x:(OA)×Nat)=>True) (fun (x:(OA)×Nat)=>[(own x.1 x.2 3 1 (nl.map iC))]):=by
 refine e_ kr Tryz.func157 U U fun R Q hQ hN=>?_
 try dsimp only
 refine WS fun _ D=>wJ U U fun J=>bD 1 U<|RK D<|ak fun _ E=>WS fun _ G=>rP 1 [] mn ?_
 refine RK G<|aH<|ji 1 U (by exact fun _ h=>h)<|ji 3 U (by exact fun _ h=>h)<|eM 3 1 ?_
 refine EM (L0:=[(2,(vP J))]) (F:=[(rd nlA nl.length 1 (nl.map iC)).ro,(cu g1 29 [(vS nlA nl.length nlC)]).ro]) (xs:=(rm nl)) (fun k (y:(OA)×Nat)=>True) (fun k y=>[(own y.1 y.2 3 1 ((nl.take k).map iC)),(cu J 29 [(vS y.1 ((nl.take k).length) y.2)]),(rd nlA nl.length 1 (nl.map iC)).ro]) (fun _ (_:Unit)=>False) (fun _ _=>[]) [0,3,4] [2,1] (none,0) U U (JE nl nlA nlC g1 (by first|assumption|omega|(simp; done))) U U U (by trivial) (by simp only [List.forall_mem_cons,List.not_mem_nil,false_imp_iff,implies_true,and_true]; exact ⟨⟨_,sm,(dH (bX _))⟩,⟨_,sm,(dH (bX _))⟩⟩) (by exact Ee) U (bB U) ?_ ?_ (fun _ _ _ h=>h.elim) (fun _ _ h=>h.elim)
 rotate_left 1
 ·rintro O ⟨a,c⟩ AA
  try dsimp only
  rw [yD]
  refine aN<|KK E<|WS fun _ A=>rP 2 [] (mc 4 U mn) ?_
  refine RK A<|aq<|hQ _ _ _ (rn 0 U U<|jV (vs:=[(vS a nl.length c)]) ⟨U,trivial⟩ fun w hs=>QC (a,c) [3] ?_ ?_ U U U hs)
  ·rfl
  ·trivial
 rintro k x ⟨a,c⟩ l ra rb S T K5 Qr6 hx K H B L M
 obtain ⟨y,hy,rfl⟩:=HA hx
 try dsimp only
 refine au<|rP 1 [] mn ?_
 refine aF<|bg (H _ _ ?_)
 refine aH<|au<|rP 2 [] (mc 2 U mn) ?_
 refine ej (xs:=[.tmp 9]) (cs:=[(vI y)]) U dv kj U U U U (by simp [Value.cells]) U U fun P=>?_
 refine dJ (es2:=(List.map iC (nl.take (k+1)))) (m':=(nl.take (k+1)).length) 2 U U U sx U U sm (bw (es:=List.map iC [y]) 0 U U (by simp [bL]) U) (lg _) (by simp; omega) (by simp [maxLen]; omega) (by rw [D2 hy]; simp) sm U fun N C=>?_
 try dsimp only
 refine Wg U Gi U U<|aF<|aN ?_
 exact B (N,C) _ _ (by trivial) (aQ [1,2,3,4])
theorem Gg (nl:List Int) (nlA:OA) (nlC g1:Nat) (hlen:nl.length≤12):
 pG Tryz.prog 144 [(Value.func (.func 146) [].toArray [(vP g1)].toArray)] [(rd nlA nl.length 1 (nl.map iC)),(cu g1 29 [(vS nlA nl.length nlC)])] (fun (x:(OA)×Nat)=>(vS x.1 nl.length x.2)) (fun (x:(OA)×Nat)=>True) (fun (x:(OA)×Nat)=>[(own x.1 x.2 3 1 (nl.map iC))]):=by
 refine e_ kr Tryz.func144 U U fun G Q hQ hN=>?_
 try dsimp only
 refine WS fun _ A=>bD 1 U<|RK A<|WS fun _ B=>rP 1 [] mn ?_
 refine cX (Jo nl nlA nlC g1 hlen) (bu [0,1]) U fun F E=>?_
 obtain ⟨C,D⟩:=F
 try dsimp only
 refine rP 1 [] mn ?_
 refine RK B<|aq<|LX hQ (C,D) [0] [] mn U U U U ?_
 trivial
theorem Ki (nl:List Int) (nlA:OA) (nlC g1:Nat) (hlen:nl.length≤12):
 pG Tryz.prog 124 [(Value.func (.func 146) [].toArray [(vP g1)].toArray)] [(rd nlA nl.length 1 (nl.map iC)),(cu g1 29 [(vS nlA nl.length nlC)])] (fun (x:(OA)×Nat)=>(vS x.1 nl.length x.2)) (fun (x:(OA)×Nat)=>True) (fun (x:(OA)×Nat)=>[(own x.1 x.2 3 1 ((nG nl).map iC))]):=by
 refine e_ kr Tryz.func124 U U fun J Q hQ hN=>?_
 try dsimp only
 refine WS fun _ B=>bD 1 U<|RK B<|WS fun _ C=>rP 1 [] mn ?_
 refine cX (Gg nl nlA nlC g1 hlen) (bu [0,1]) U fun AA H=>?_
 obtain ⟨F,G⟩:=AA
 try dsimp only
 refine bD 1 U<|RK C<|WS fun _ D=>rP 1 [] mn ?_
 refine oK 0 U U U U (O4 nl F G hlen) U qP U (fun m A=>?_)
 try dsimp only
 refine RK D<|WS fun _ E=>?_
 obtain rfl:=Cj A.1 A.2
 skip
 refine rP 2 [] mn ?_
 refine RK E<|aq<|LX hQ (F,G) [0] [] mn U U U U ?_
 trivial
end
section
open Go.RowKit
theorem JK (r:eZ) (kA:OA) (kC:Nat) (az:List RA) (cA:OA) (cC:Nat) (bA:OA) (bC:Nat) (slA:OA) (slC:Nat) (drA:OA) (drC:Nat) (ha:List cW) (heA:OA) (heC:Nat) (tz:List RA) (tA:OA) (tC:Nat) (ms:Value) (gw h:Nat) (gm g1 g2:Nat) (hin:lG r az ha) (htz:tz.length=r.aB.length) (hh:h<r.aB.length) (hok:ku r (h+1)):
 LB Tryz.prog 150 [(vI (h:Int)),(vP g1),(vP g2)] [(rd kA r.ar.aV.length 9 (r.ar.aV.map ao.cells)),(rd cA r.ar.aj.length 2 (List.zipWith aw.cells r.ar.aj az)),(dR (bj aw.f_ r.ar.aj az)),(rd bA r.ar.ab.length 4 (r.ar.ab.map bJ.cells)),(rd slA r.aY.length 1 (r.aY.map iC)),(rd drA r.ck.length 1 (r.ck.map iC)),(rd heA r.aB.length 1 (List.zipWith cL r.aB ha)),(dR (bj eY r.aB ha)),(rd tA ((fQ r).length) 1 (List.zipWith MZ (fQ r) tz)),(dR (bj QU (fQ r) tz)),(cu gw 212 (ky.cells (ky.mk (yx r kA kC cA cC bA bC slA slC drA drC heA heC) (bH.mk tA ((fQ r).length) tC) ms))),(cu g1 187 [(vP gw)]),(cu g2 153 [(Value.map (some gm))])] (j1 iV gm (cS jW (er r.ar r.aB r.aY.length h 0))) (fun (x:Unit)=>(vT [])) (fun (x:Unit)=>True) (fun (x:Unit)=>(j1 iV gm (cS jW (er r.ar r.aB r.aY.length (h+1) 0)))):=by
 have v:=hin.line
 have A3:=hin.ij
 have A4:=hin.has
 have AF:=hin.ic
 have AC:=hin.draw
 have AO:=j4 (r:=r)
 refine uR kr Tryz.func150 U U fun w0 Q hQ hN=>?_
 try dsimp only
 refine WS fun _ g=>eQ 1 [] (mr 12 U mn) U<|rS (SX (cR U U) U U)<|rP 3 [] (mr 11 U mn) ?_
 obtain ⟨ht,B⟩:=aL r.aB h I
 obtain ⟨A,C⟩:=aL ha h I
 have Z:(List.zipWith cL r.aB ha)[h]? =some (cL ht A):=dy B C
 have s:=hin.gf _ _ _ B C
 have AD:=s.og
 have N:=hok h ht I B
 obtain ⟨tr,G⟩:=aL (fQ r) h I
 obtain ⟨tra,F⟩:=aL tz h I
 have c:(List.zipWith MZ (fQ r) tz)[h]? =some (MZ tr tra):=dy G F
 refine rS (IA h U (aA 9 U) IM dc I I)<|rS (g6 h 0 (vS tra.1 tr.length tra.2) U cj (aA 9 U) c U dc U) ?_
 have AB:=GC B G
 have A0:tr.length=r.aY.length:=by rw [AB,List.length_map]; exact N.1
 have Ay:=N.1
 refine rP 2 [] mn ?_
 refine RK g<|aH ?_
 have E:(0≤r.aY.length):=by exact Nat.zero_le _
 refine bY (ι:={z:Nat // (z≤r.aY.length)}) [0,1,2,14,15] [1,2,3,4,5,6,7,8,9,10,11,12,13] U U (fun z=>[(16,(vI (z.1:Int)))]) (fun z=>[(j1 iV gm (cS jW (er r.ar r.aB r.aY.length h z.1)))]) (fun _=>rfl) (fun _=>rfl) (fun z=>r.aY.length-z.1) ⟨0,E⟩ (bB U) (aQ [1,2,3,4,5,6,7,8,9,10,11,12,13,0]) ?_
 clear E
 rintro ⟨i,u⟩ J2 K
 try dsimp only
 have a:i<r.aY.length→(er r.ar r.aB r.aY.length h i).lookup (i:Int)=jZ r.ar r.aB i h:=K6
 refine WS fun _ k=>rP 1 [] mn ?_
 refine RK k<|ak fun _ m=>bW U (aT fun h5=>?_) (aU fun h5=>?_)
 ·refine bP<|ai<|ai<|aJ ?_
  rw [show (er r.ar r.aB r.aY.length h i)=(er r.ar r.aB r.aY.length (h+1) 0) from by rw [show i=r.aY.length by omega]; exact MQ]
  refine LM hN () 13 [] mn U U U U ?_
  trivial
 refine WK m<|ak fun _ L=>aH<|WS fun _ n=>rP 1 [] mn ?_
 obtain ⟨x,hx⟩:=aL tr i I
 have y:=bM ag.cells hx
 refine rS (IA i U (show iK _ (rd tra.1 tr.length 2 (tr.map ag.cells)).holds from (cO 9 U (bK G F (by simp [QU])))) lq dc I I)<|rS (lx i 0 (ag.cells x) U cj (show iK _ (rd tra.1 tr.length 2 (tr.map ag.cells)).holds from (cO 9 U (bK G F (by simp [QU])))) y U dc U U)<|AL U dV fun b8=>bD 1 U<|fG U cZ U<|RK n<|WS fun _ o=>eQ 2 [] (mr 13 U mn) U<|rS (SX (sW (kV:=iV) (x:=(i:Int)) (l:=(er r.ar r.aB r.aY.length h i)) (f:=jW) (z:=(ag.mk 0 0)) U U U sO (ig si) UC (by exact aA 14 U)) U U)<|bD 3 U<|AL U dV fun A1=>fG U cZ U<|bD 1 U<|RK o<|ak fun _ P=>WS fun _ H=>eQ 1 [] (mr 13 U mn) U<|rS (SX (cR U U) U U)<|eQ 4 [] (mr 12 U mn) U<|rS (IA h U (aA 8 U) oh dc I I)<|rS (g6 h 0 (vS A.1.1 ht.length A.1.2) U cj (aA 8 U) Z U dc U)<|rP 1 [] mn ?_
 obtain ⟨d,hd⟩:=aL ht i I
 obtain ⟨da,p⟩:=aL A.2 i I
 have q:(List.zipWith av.cells ht A.2)[i]? =some (av.cells d da):=dy hd p
 refine rS (IA i U (show iK _ (rd A.1.1 ht.length 7 (List.zipWith av.cells ht A.2)).holds from (cO 9 U (bK B C cy))) qJ dc I I)<|rS (o9 (i*7) U (show iK _ (rd A.1.1 ht.length 7 (List.zipWith av.cells ht A.2)).holds from (cO 9 U (bK B C cy))) (Nat.mul_pos I dc) fj U)<|rS (g6 i 0 (vB d.Out) U cj (show iK _ (rd A.1.1 ht.length 7 (List.zipWith av.cells ht A.2)).holds from (cO 9 U (bK B C cy))) q U dc U)<|rP 1 [] mn ?_
 refine b_ (t:=39) U (fun J=>?_) (fun J=>?_)
 ·refine bD 3 U<|RK H<|aS U<|WS fun _ R=>rP 2 [] (mr 14 U mn) ?_
  have T:(e9 (er r.ar r.aB r.aY.length h i) (i:Int))=(er r.ar r.aB r.aY.length h (i+1)):=by exact Fb (by exact GV B hd J)
  refine s8 (kV:=iV) (x:=(i:Int)) (C':=[_,_,_,_,_,_,_,_,_,_,_,_,_,_,_,(j1 iV gm (cS jW (er r.ar r.aB r.aY.length h (i+1))))]) 15 U U U U sO (ig si) U ((nK _ _ _).symm.trans (congrArg _ T)) U<|RK R<|bP<|ai<|aJ<|KK L<|au<|rP 2 [] mn ?_
  refine aF ?_
  have AA:(vI (((i+1):Nat):Int))=(vI ((i:Int)+1)):=by exact cI I
  refine bg (K ⟨(i+1),(by first|omega|(simp only []; omega))⟩ _ _ _ U os (cG 5<|bf U AA<|dh.nil _) (aQ [2,3,4,5,6,7,8,9,10,11,12,13,14,15]))
 refine rP 3 [] mn ?_
 refine RK H<|cx U (fun D=>?_) (fun D=>?_)
 ·rw [Bool.not_eq_true'] at D
  refine WS fun _ S=>rP 2 [] (mr 14 U mn) ?_
  have V:(e9 (er r.ar r.aB r.aY.length h i) (i:Int))=(er r.ar r.aB r.aY.length h (i+1)):=by exact Fb (by exact Er ((a I).symm.trans (Option.not_isSome_iff_eq_none.1 (by rw [D]; decide))))
  refine s8 (kV:=iV) (x:=(i:Int)) (C':=[_,_,_,_,_,_,_,_,_,_,_,_,_,_,_,(j1 iV gm (cS jW (er r.ar r.aB r.aY.length h (i+1))))]) 15 U U U U sO (ig si) U ((nK _ _ _).symm.trans (congrArg _ V)) U<|RK S<|bP<|ai<|aJ<|KK L<|au<|rP 2 [] mn ?_
  refine aF ?_
  have W:(vI (((i+1):Nat):Int))=(vI ((i:Int)+1)):=by exact cI I
  refine bg (K ⟨(i+1),(by first|omega|(simp only []; omega))⟩ _ _ _ U os (cG 5<|bf U W<|dh.nil _) (aQ [2,3,4,5,6,7,8,9,10,11,12,13,14,15]))
 rw [Bool.not_eq_false'] at D
 refine WK P<|au ?_
 obtain ⟨O,b⟩:=Option.isSome_iff_exists.1 D
 have M:jZ r.ar r.aB i h=some O:=(a I).symm.trans b
 have e:=QI AB hx hd
 have A5:=ET (fun j x hj hx=>hok j x I hx) I M
 have w:=Fv (N.2 d (aR hd))
 rw [← e] at w
 rw [show ((List.lookup (i:Int) (er r.ar r.aB r.aY.length h i)).getD (ag.mk 0 0))=O from by rw [b]; rfl]
 refine eQ 6 [0,1,2] (mr 14 U (mc 0 U (mc 1 U mn))) U<|rS (BI U (ue I I I))<|eQ 5 [0,1] (mc 0 U (mc 1 U mn)) U<|rS (BI U (ue I I I))<|rP 1 [] mn ?_
 refine rS (SX (bp (xs:=[(0,.tmp 52),(1,.tmp 58)]) (cs:=(ag.cells (ag.mk (O.Lo+(x.Lo/10)) (O.Hi+(x.Hi/10))))) U U (bo gX U)) U U) ?_
 have X:(ed (er r.ar r.aB r.aY.length h i) (i:Int) (ag.mk (O.Lo+(x.Lo/10)) (O.Hi+(x.Hi/10))))=(er r.ar r.aB r.aY.length h (i+1)):=by exact LO I (by rw [M]; rfl) (by rw [e]; exact DI B hd (by rw [J]; decide) M)
 refine iX (kV:=iV) (x:=(i:Int)) (C':=[_,_,_,_,_,_,_,_,_,_,_,_,_,_,_,(j1 iV gm (cS jW (er r.ar r.aB r.aY.length h (i+1))))]) 15 U U U U sO (ig si) U ((gp _ _ _ _).symm.trans (congrArg _ X)) U<|aF<|aN<|KK L<|au<|rP 2 [] mn ?_
 refine aF ?_
 have Y:(vI (((i+1):Nat):Int))=(vI ((i:Int)+1)):=by exact cI I
 refine bg (K ⟨(i+1),(by first|omega|(simp only []; omega))⟩ _ _ _ U os (cG 5<|bf U Y<|dh.nil _) (aQ [2,3,4,5,6,7,8,9,10,11,12,13,14,15]))
theorem SM (r:eZ) (kA:OA) (kC:Nat) (az:List RA) (cA:OA) (cC:Nat) (bA:OA) (bC:Nat) (slA:OA) (slC:Nat) (drA:OA) (drC:Nat) (ha:List cW) (heA:OA) (heC:Nat) (tz:List RA) (tA:OA) (tC:Nat) (ms:Value) (gw n:Nat) (hin:lG r az ha) (htz:tz.length=r.aB.length) (hn:n≤r.aB.length) (hok:ku r n):
 pG Tryz.prog 128 [(vP gw),(vI (n:Int))] [(rd kA r.ar.aV.length 9 (r.ar.aV.map ao.cells)),(rd cA r.ar.aj.length 2 (List.zipWith aw.cells r.ar.aj az)),(dR (bj aw.f_ r.ar.aj az)),(rd bA r.ar.ab.length 4 (r.ar.ab.map bJ.cells)),(rd slA r.aY.length 1 (r.aY.map iC)),(rd drA r.ck.length 1 (r.ck.map iC)),(rd heA r.aB.length 1 (List.zipWith cL r.aB ha)),(dR (bj eY r.aB ha)),(rd tA ((fQ r).length) 1 (List.zipWith MZ (fQ r) tz)),(dR (bj QU (fQ r) tz)),(cu gw 212 (ky.cells (ky.mk (yx r kA kC cA cC bA bC slA slC drA drC heA heC) (bH.mk tA ((fQ r).length) tC) ms)))] (fun (x:Nat)=>(Value.map (some x))) (fun (x:Nat)=>True) (fun (x:Nat)=>[(j1 iV x (cS jW (Bh r n)))]):=by
 have c:=hin.line
 have m:=hin.ij
 have o:=hin.has
 have e:=hin.ic
 have d:=hin.draw
 have f:=j4 (r:=r)
 refine e_ kr Tryz.func128 U U fun q Q hQ hN=>?_
 try dsimp only
 refine WS fun _ V=>wJ U U fun k=>rP 1 [] mn ?_
 refine RK V<|WS fun _ W=>lF (kV:=iV) U U fun B=>?_
 try dsimp only
 refine AL U SP fun l=>MR U E6 U U<|RK W<|ak fun _ X=>WS fun _ Y=>eQ 1 [] (mc 2 U mn) U<|rS (SX (cR U U) U U)<|rP 5 [] (mr 13 U mn) ?_
 refine RK Y<|aH ?_
 skip
 have A:(0≤r.aY.length):=by exact Nat.zero_le _
 refine bY (ι:={z:Nat // (z≤r.aY.length)}) [1,2,5,15] [0,2,3,4,5,6,7,8,9,10,11,12,13] U U (fun z=>[(16,(vI (z.1:Int)))]) (fun z=>[(j1 iV B (cS jW (er r.ar r.aB z.1 0 0)))]) (fun _=>rfl) (fun _=>rfl) (fun z=>r.aY.length-z.1) ⟨0,A⟩ (bB U) (aQ [0,2,3,4,5,6,7,8,9,10,11,12,13,1]) ?_
 clear A
 rintro ⟨i,a⟩ J8 AA
 try dsimp only
 refine WS fun _ Z=>rP 1 [] mn ?_
 refine RK Z<|ak fun _ D=>cx U (aU fun S=>?_) (aT fun S=>?_)
 ·refine WK D<|ak fun _ E=>aH<|WS fun _ F=>bD 2 U<|RK F<|au<|rP 2 [] (mc 0 U mn) ?_
  refine rS (SX (bp (xs:=[]) (cs:=(ag.cells (ag.mk 0 0))) U U (bo gX U)) U U) ?_
  have O:(ed (er r.ar r.aB i 0 0) (i:Int) (ag.mk 0 0))=(er r.ar r.aB (i+1) 0 0):=by exact Nx
  refine iX (kV:=iV) (x:=(i:Int)) (C':=[_,_,_,_,_,_,_,_,_,_,_,_,_,(j1 iV B (cS jW (er r.ar r.aB (i+1) 0 0)))]) 13 U U U U sO (ig si) U ((gp _ _ _ _).symm.trans (congrArg _ O)) U<|aF<|aN<|KK E<|au<|rP 2 [] mn ?_
  refine aF ?_
  have P:(vI (((i+1):Nat):Int))=(vI ((i:Int)+1)):=by exact cI I
  refine bg (AA ⟨(i+1),(by first|omega|(simp only []; omega))⟩ _ _ _ U os (cG 4<|bf U P<|dh.nil _) (aQ [0,1,2,3,4,5,6,7,8,9,10,11,12,13]))
 refine bP<|ai<|ai<|aJ<|KK X<|WS fun _ G=>rS (FU U)<|bD 1 U<|RK G<|ak fun _ H=>WS fun _ AB=>rP 2 [] mn ?_
 refine RK AB<|aH ?_
 rw [show (er r.ar r.aB i 0 0)=(er r.ar r.aB r.aY.length 0 0) from by rw [show i=r.aY.length by omega]]
 have A:(0≤n):=by exact Nat.zero_le _
 refine bY (ι:={z:Nat // (z≤n)}) [2,5,7,24] [0,1,2,3,4,5,6,7,8,9,10,11,12] U U (fun z=>[(25,(vI (z.1:Int)))]) (fun z=>[(j1 iV B (cS jW (er r.ar r.aB r.aY.length z.1 0)))]) (fun _=>rfl) (fun _=>rfl) (fun z=>n-z.1) ⟨0,A⟩ (bB U) (aQ [0,1,2,3,4,5,6,7,8,9,10,11,12,13]) ?_
 clear A
 rintro ⟨h,b⟩ J19 C
 try dsimp only
 refine WS fun _ J=>rP 1 [] mn ?_
 refine RK J<|ak fun _ K=>bW U (aT fun T=>?_) (aU fun T=>?_)
 ·refine bP<|ai<|ai<|aJ<|KK H<|ak fun _ N=>?_
  rw [show (er r.ar r.aB r.aY.length h 0)=(Bh r n) from by rw [show h=n by omega]; exact L5]
  refine au<|rP 2 [] (mc 0 U mn) ?_
  refine RK N<|aq<|LX hQ B [13] [] mn U U U U ?_
  trivial
 refine WK K<|ak fun _ L=>aH<|WS fun _ M=>bD 2 U<|RK M<|au<|rP 2 [] mn ?_
 refine oK 13 U U U U (JK r kA kC az cA cC bA bC slA slC drA drC ha heA heC tz tA tC ms gw h B k l hin htz I (by exact fun j x hj hx=>hok j x I hx)) U (ei 2 U U (dH (bX _)) (ei 3 U U (dH (bX _)) (ei 4 U U (dH (bX _)) (ei 5 U U (dH (bX _)) (ei 6 U U (dH (bX _)) (ei 7 U U (dH (bX _)) (ei 8 U U (dH (bX _)) (ei 9 U U (dH (bX _)) (ei 10 U U (dH (bX _)) (ei 11 U U (dH (bX _)) (ei 12 U U (dH (bX _)) (ei 1 U U (bX _) (ei 0 U U (bX _) qP))))))))))))) U (fun p g=>?_)
 try dsimp only
 refine aF<|aN<|KK L<|au<|rP 2 [] mn ?_
 refine aF ?_
 have R:(vI (((h+1):Nat):Int))=(vI ((h:Int)+1)):=by exact cI I
 refine bg (C ⟨(h+1),(by first|omega|(simp only []; omega))⟩ _ _ _ U os (cG 4<|bf U R<|dh.nil _) (aQ [0,1,2,3,4,5,6,7,8,9,10,11,12,13]))
end
section
open Go.RowKit
theorem M4 (r:eZ) (kA:OA) (kC:Nat) (az:List RA) (cA:OA) (cC:Nat) (bA:OA) (bC:Nat) (slA:OA) (slC:Nat) (drA:OA) (drC:Nat) (ha:List cW) (heA:OA) (heC:Nat) (hin:lG r az ha):
 pG Tryz.prog 103 [(vA (fB.cells (yx r kA kC cA cC bA bC slA slC drA drC heA heC)))] [(rd gS 3 2 fP),(rd kA r.ar.aV.length 9 (r.ar.aV.map ao.cells)),(rd cA r.ar.aj.length 2 (List.zipWith aw.cells r.ar.aj az)),(dR (bj aw.f_ r.ar.aj az)),(rd bA r.ar.ab.length 4 (r.ar.ab.map bJ.cells)),(rd slA r.aY.length 1 (r.aY.map iC)),(rd drA r.ck.length 1 (r.ck.map iC)),(rd heA r.aB.length 1 (List.zipWith cL r.aB ha)),(dR (bj eY r.aB ha))] (fun (x:Bool×Int×Nat×Nat×(OA)×Nat×(List RA))=>bif x.1 then (vT [(Value.pointer (some ⟨x.2.2.1,0,none⟩)),(vI 0)]) else (vT [(Value.pointer none),(vI x.2.1)])) (fun (x:Bool×Int×Nat×Nat×(OA)×Nat×(List RA))=>(x.1=true→(jK r=0∧x.2.2.2.2.2.2.length=r.aB.length))∧(x.1=false→(x.2.1=jK r∧ ¬ jK r=0))) (fun (x:Bool×Int×Nat×Nat×(OA)×Nat×(List RA))=>bif x.1 then [(cu x.2.2.1 212 (ky.cells (ky.mk (yx r kA kC cA cC bA bC slA slC drA drC heA heC) (bH.mk x.2.2.2.2.1 ((fQ r).length) x.2.2.2.2.2.1) (Value.map (some x.2.2.2.1))))),(own x.2.2.2.2.1 x.2.2.2.2.2.1 204 1 (List.zipWith MZ (fQ r) x.2.2.2.2.2.2)),(bQ (bj FZ (fQ r) x.2.2.2.2.2.2)),(j1 iV x.2.2.2.1 (cS jW (OE r)))] else []):=by
 have K5:=hin.line
 have O1:=hin.ij
 have O6:=hin.has
 have L2:=hin.ic
 have Lo:=hin.draw
 have Fn:=j4 (r:=r)
 refine e_ kr Tryz.func103 U U fun w0 Q hQ hN=>?_
 try dsimp only
 refine WS fun _ J3=>eI U fun b2=>bD 2 U<|RK J3<|ak fun _ J4=>WS fun _ J5=>bD 1 U<|rS (LP (cv.cells (jN r.ar kA kC cA cC bA bC)) 0 U cj U U U)<|rS (CL (wT r.ar kA kC az cA cC bA bC asm) (bu [2,3,4,5]) U)<|bD 1 U<|RK J5<|WS fun _ J6=>rP 2 [] mn ?_
 refine RK J6<|cx U (bq fun B=>?_) (br fun B=>?_)
 ·refine WS fun _ J7=>rP 3 [] mn ?_
  refine RK J7<|aq<|LX hQ (false,(dD r.ar),0,0,none,0,[]) [] [] mn U (by rfl) U U ?_
  exact wh<|EG (zp B) B
 refine WK J4<|WS fun _ J8=>eQ 4 [] (mc 0 U mn) U<|RK J8<|WS fun _ J9=>rP 2 [] (mc 0 U mn) ?_
 refine cX (JG drA r.ck.length drC) (aO) U fun Hh L3=>?_
 try dsimp only
 refine cX (Ki r.ck drA drC Hh asm) (bu [8,0]) U fun Lk Mu=>?_
 obtain ⟨NE,Os⟩:=Lk
 try dsimp only
 refine bD 1 U<|RK J9<|ak fun _ e=>WS fun _ H=>rP 1 [] mn ?_
 refine ej (xs:=[.tmp 29]) (cs:=[(vI (r.aY.length:Int))]) U dv kj U U U U (by simp [Value.cells]) U U fun Hi=>?_
 refine rS (CL (dG.eq (ux 1 5 ([(r.aY.length:Int)]) (some ⟨Hi,0,none⟩) 1 (by (simp; done))) cD) (aK (bw 0 U U (by simp [bL]) U)<|aO) U) ?_
 refine rP 2 [] mn ?_
 refine b_ (t:=33) U (bq fun IL=>?_) (br fun IL=>?_)
 ·refine bD 26 U<|RK H<|aS U<|WS fun _ f=>rP 2 [] mn ?_
  refine RK f<|aq<|LX hQ (false,60,0,0,none,0,[]) [] [] mn U (by rfl) U U ?_
  exact wh<|nW (kO B (fun q:fK r=>by have q1:=q.num; have q2:=q.AD; have q3:=q.nh; have q4:=q.zF; omega))
 refine rP 6 [] mn ?_
 refine b_ (t:=39) U (bq fun IO=>?_) (br fun IO=>?_)
 ·refine bD 20 U<|RK H<|aS U<|WS fun _ g=>rP 2 [] mn ?_
  refine RK g<|aq<|LX hQ (false,60,0,0,none,0,[]) [] [] mn U (by rfl) U U ?_
  exact wh<|nW (kO B (fun q:fK r=>by have q1:=q.num; have q2:=q.AD; have q3:=q.nh; have q4:=q.zF; omega))
 refine rP 2 [] (mc 3 U mn) ?_
 refine ej (xs:=[.tmp 41]) (cs:=[(vI r.mj)]) U dv kj U U U U (by simp [Value.cells]) U U fun H1=>?_
 refine rS (CL (dG.eq (ux 0 5 ([r.mj]) (some ⟨H1,0,none⟩) 1 (by (simp; done))) cD) (aK (bw 0 U U (by simp [bL]) U)<|aO) U) ?_
 refine rP 3 [] mn ?_
 refine b_ (t:=46) U (bq fun IR=>?_) (br fun IR=>?_)
 ·refine bD 13 U<|RK H<|aS U<|WS fun _ k=>rP 2 [] mn ?_
  refine RK k<|aq<|LX hQ (false,60,0,0,none,0,[]) [] [] mn U (by rfl) U U ?_
  exact wh<|nW (kO B (fun q:fK r=>by have q1:=q.num; have q2:=q.AD; have q3:=q.nh; have q4:=q.zF; omega))
 refine rP 3 [] (mc 4 U mn) ?_
 refine ej (xs:=[.tmp 49]) (cs:=[(vI (r.aB.length:Int))]) U dv kj U U U U (by simp [Value.cells]) U U fun IB=>?_
 refine rS (CL (dG.eq (ux 1 3 ([(r.aB.length:Int)]) (some ⟨IB,0,none⟩) 1 (by (simp; done))) cD) (aK (bw 0 U U (by simp [bL]) U)<|aO) U) ?_
 refine rP 3 [] mn ?_
 refine b_ (t:=54) U (bq fun Id=>?_) (br fun Id=>?_)
 ·refine bD 5 U<|RK H<|aS U<|WS fun _ l=>rP 2 [] mn ?_
  refine RK l<|aq<|LX hQ (false,60,0,0,none,0,[]) [] [] mn U (by rfl) U U ?_
  exact wh<|nW (kO B (fun q:fK r=>by have q1:=q.num; have q2:=q.AD; have q3:=q.nh; have q4:=q.zF; omega))
 refine eQ 2 [] (mc 5 U mn) U<|rS (CL (ux 0 9999 r.aY slA slC asm) (bu [11]) U)<|rP 2 [] mn ?_
 refine RK H<|cx U (fun N=>?_) (fun N=>?_)
 ·rw [Bool.not_eq_true'] at N
  refine WS fun _ m=>rP 2 [] mn ?_
  refine RK m<|aq<|LX hQ (false,60,0,0,none,0,[]) [] [] mn U (by rfl) U U ?_
  exact wh<|nW (kO B (fun q:fK r=>by exact absurd (q.ins.symm.trans N) dc))
 rw [Bool.not_eq_false'] at N
 refine WK e<|ak fun _ o=>WS fun _ p=>?_
 have O8:(nG r.ck).length=r.aY.length:=by rw [uu]; omega
 refine rP 2 [] mn ?_
 refine RK p<|aH ?_
 have A:(0≤r.aY.length)∧(r8 r 0):=by exact ⟨Nat.zero_le _,DZ⟩
 refine bY (ι:={z:Nat // (z≤r.aY.length)∧(r8 r z)}) [1,5,6,60] [3,5,6,7,8,9,10,11,12,13,14] U U (fun z=>[(61,(vI (z.1:Int)))]) (fun z=>[]) (fun _=>rfl) (fun _=>rfl) (fun z=>r.aY.length-z.1) ⟨0,A⟩ (bB U) (aQ [3,5,6,7,8,9,10,11,12,13,14]) ?_
 clear A
 rintro ⟨i,⟨K4,J⟩⟩ J28 V
 try dsimp only
 refine WS fun _ s=>rP 1 [] mn ?_
 refine RK s<|ak fun _ w=>cx U (aU fun In=>?_) (aT fun In=>?_)
 ·refine WK w<|ak fun _ W=>aH<|WS fun _ AC=>bD 2 U<|RK AC<|ak fun _ O=>dp ct 24 kr<|dP 2 [] mn ?_
  obtain ⟨x,hx⟩:=aL (nG r.ck) i I
  have K8:=bM iC hx
  refine dS (IA i U (aC (n:=r.ck.length) 0 U sq) dv dc I I) ?_
  refine dS (g6 i 0 (vI x) U cj (aC (n:=(nG r.ck).length) 0 U sm) K8 U dc U)<|dP 3 [] mn ?_
  refine g_ (t:=70) U (bq fun S=>?_) (br fun S=>?_)
  ·refine kX 17 U<|cK<|RK O<|aS U<|WS fun _ AF=>rP 2 [] mn ?_
   refine RK AF<|aq<|LX hQ (false,60,0,0,none,0,[]) [] [] mn U (by rfl) U U ?_
   exact wh<|nW (kO B (fun q:fK r=>by exact absurd (q.drawn hx) S))
  refine dP 3 [] mn ?_
  refine jy (t:=73) U (aT fun Jf=>?_) (aU fun Jf=>?_)
  ·refine kX 14 U<|cK<|RK O<|bR U<|cf<|aN<|KK W<|au<|rP 2 [] mn ?_
   refine aF ?_
   have Do:(vI (((i+1):Nat):Int))=(vI ((i:Int)+1)):=by exact cI I
   refine bg (V ⟨(i+1),⟨I,xS J hx S (fun u v hu hv hw=>by omega)⟩⟩ _ _ _ U os (cG 4<|bf U Do<|dh.nil _) (aQ [0,1,2,3,4,5,6,7,8,9,10]))
  refine dP 3 [] (mc 1 U mn) ?_
  obtain ⟨y,hy⟩:=aL r.aY i I
  have LA:=bM iC hy
  refine dS (IA i U (aA 7 U) dv dc I I)<|dS (g6 i 0 (vI y) U cj (aA 7 U) LA U dc U)<|dP 4 [] (mc 1 U mn) ?_
  obtain ⟨z,hz⟩:=aL r.aY (i-1) I
  have LE:=bM iC hz
  refine dS (IA (i-1) U (aA 7 U) dv dc I I)<|dS (g6 (i-1) 0 (vI z) U cj (aA 7 U) LE U dc U)<|dP 3 [] mn ?_
  refine cK<|RK O<|bW U (aT fun Jx=>?_) (aU fun Jx=>?_)
  ·refine cf<|aN<|KK W<|au<|rP 2 [] mn ?_
   refine aF ?_
   have Di:(vI (((i+1):Nat):Int))=(vI ((i:Int)+1)):=by exact cI I
   refine bg (V ⟨(i+1),⟨I,xS J hx S (fun u v hu hv hw=>by (rw [hy] at hu; cases hu; rw [hz] at hw; cases hw; omega))⟩⟩ _ _ _ rfl os (cG 4<|bf rfl Di<|dh.nil _) (aQ [0,1,2,3,4,5,6,7,8,9,10]))
  refine WS fun _ AO=>rP 2 [] mn ?_
  refine RK AO<|aq<|LX hQ (false,60,0,0,none,0,[]) [] [] mn U (by rfl) U U ?_
  exact wh<|nW (kO B (fun q:fK r=>by have q1:=(q.ids i y hy).2 z I hz; omega))
 refine bP<|ai<|ai<|aJ<|KK o<|WS fun _ Ay=>eQ 1 [] (mc 1 U mn) U<|rS (SX (bp (xs:=[(0,.tmp 89)]) (cs:=(ky.cells (ky.mk (yx r kA kC cA cC bA bC slA slC drA drC heA heC) (bH.mk none 0 0) (Value.map none)))) U U (bo SQ U)) U U)<|eI U fun L=>bD 1 U<|RK Ay<|ak fun _ A0=>WS fun _ A1=>rP 4 [] (mc 2 U mn) ?_
 refine RK A1<|aH<|eM 204 1<|oc ?_
 have A:(0≤r.aB.length)∧(([]:List RA).length=0)∧(ku r 0):=by exact ⟨Nat.zero_le _,rfl,xU⟩
 refine bY (ι:={z:Nat×(List RA)×(OA)×Nat // (z.1≤r.aB.length)∧(z.2.1.length=z.1)∧(ku r z.1)}) [1,5,8,93,94] [3,4,5,6,7,8,9,10,11,12,13] U U (fun z=>[(95,(vI (z.1.1:Int)))]) (fun z=>[(bQ (bj FZ (gT r z.1.1) z.1.2.1)),(own z.1.2.2.1 z.1.2.2.2 204 1 (List.map sC (List.zipWith B4 (gT r z.1.1) z.1.2.1))),(cu L 212 (ky.cells (ky.mk (yx r kA kC cA cC bA bC slA slC drA drC heA heC) (bH.mk z.1.2.2.1 ((List.zipWith B4 (gT r z.1.1) z.1.2.1).length) z.1.2.2.2) (Value.map none))))]) (fun _=>rfl) (fun _=>rfl) (fun z=>r.aB.length-z.1.1) ⟨(0,([]:List RA),none,0),A⟩ (bB U) (aQ [3,4,5,6,7,8,9,10,11,12,13,0,1,2]) ?_
 clear A
 rintro ⟨⟨h,tz,a,c⟩,⟨T,C,E⟩⟩ J42 Z
 try dsimp only at T C E
 try dsimp only
 refine WS fun _ A2=>rP 1 [] mn ?_
 refine RK A2<|ak fun _ A3=>bW U (aT fun J2=>?_) (aU fun J2=>?_)
 ·refine bP<|ai<|ai<|aJ<|KK A0<|ak fun _ C3=>?_
  have K0:gT r h=fQ r:=by unfold fQ; rw [show h=r.aB.length by omega]
  have GE:tz.length=r.aB.length:=by omega
  rw [K0,zr,show (List.zipWith B4 (fQ r) tz).length=(fQ r).length from by rw [List.length_zipWith]; omega]
  have X:fK r:=IN (n:=i) I I I I I N J E I
  refine au<|rP 5 [] (mc 1 U mn) ?_
  refine cX (SM r kA kC az cA cC bA bC slA slC drA drC ha heA heC tz a c (Value.map none) L r.aB.length hin asm I (by exact X.Np)) (mT [3,4,5,6,7,8,9,10]<|aK (aC (n:=(fQ r).length) 12 U (Ng (by rw [Fn]; exact GE)))<|aK (fT 11 U Q5)<|gY 13 U U<|aO) U fun K M2=>?_
  try dsimp only
  refine rS (SX (cR U U) U U)<|rP 1 [] mn ?_
  refine ir (vs:=[(Value.map (some K))]) (cs':=(ky.cells (ky.mk (yx r kA kC cA cC bA bC slA slC drA drC heA heC) (bH.mk a ((fQ r).length) c) (Value.map (some K))))) (C':=[_,_,_,_,_,_,_,_,_,_,_,_,_,_,(cu L 212 (ky.cells (ky.mk (yx r kA kC cA cC bA bC slA slC drA drC heA heC) (bH.mk a ((fQ r).length) c) (Value.map (some K)))))]) 14 U U U E6 U U U U U U U<|RK C3<|ak fun _ DS=>?_
  rw [show Bh r r.aB.length=OE r from rfl]
  refine au<|rP 3 [] mn ?_
  refine RK DS<|aq ?_
  refine LX hQ (true,0,L,K,a,c,tz) [14,13,12,0] [] mn U (by (show List.all _ _=true; simp only [cond_true,eG,List.all_nil,Ef,Bool.and_true]; rfl)) U U ?_
  exact ⟨fun _=>⟨BZ B X,GE⟩,QR⟩
 refine WK A3<|ak fun _ A4=>aH<|WS fun _ A5=>?_
 obtain ⟨ht,D⟩:=aL r.aB h I
 obtain ⟨G,AB⟩:=aL ha h I
 have Fd:(List.zipWith cL r.aB ha)[h]? =some (cL ht G):=dy D AB
 refine rS (IA h U (aA 9 U) oh dc I I)<|rS (g6 h 0 (vS G.1.1 ht.length G.1.2) U cj (aA 9 U) Fd U dc U)<|rP 1 [] mn ?_
 refine RK A5<|ak fun _ A6=>WS fun _ A7=>?_
 have FV:=hin.gf _ _ _ D AB
 have L0:=FV.og
 refine rP 4 [] mn ?_
 refine RK A7<|cx U (bq fun Y=>?_) (br fun Y=>?_)
 ·refine WS fun _ A8=>rP 2 [] mn ?_
  refine RK A8<|aq<|LX hQ (false,60,0,0,none,0,[]) [] [] mn U (by rfl) U U ?_
  exact wh<|nW (kO B (fun q:fK r=>by have q1:=(q.gf ht (aR D)).1; omega))
 refine WK A6<|WS fun _ A9=>bD 1 U<|RK A9<|ak fun _ Bp=>WS fun _ B3=>rP 3 [] mn ?_
 refine RK B3<|aH<|eM 53 2 ?_
 have A:(0≤ht.length)∧(oy r.ar ht 0):=by exact ⟨Nat.zero_le _,vU⟩
 refine bY (ι:={z:Nat×(OA)×Nat // (z.1≤ht.length)∧(oy r.ar ht z.1)}) [1,5,8,10,93,94,95,103,104] [1,2,3,4,5,6,7,8,9,10,11,12,13,14] U U (fun z=>[(11,(vS z.1.2.1 (((ht.take z.1.1).map (gh r.ar)).length) z.1.2.2)),(105,(vI (z.1.1:Int)))]) (fun z=>[(own z.1.2.1 z.1.2.2 53 2 (((ht.take z.1.1).map (gh r.ar)).map ag.cells))]) (fun _=>rfl) (fun _=>rfl) (fun z=>ht.length-z.1.1) ⟨(0,none,0),A⟩ (bB U) (aQ [1,2,3,4,5,6,7,8,9,10,11,12,13,14,0]) ?_
 clear A
 rintro ⟨⟨j,la,lc⟩,⟨AA,F⟩⟩ J53 b
 try dsimp only at AA F
 try dsimp only
 refine WS fun _ B9=>rP 1 [] mn ?_
 refine RK B9<|ak fun _ Ci=>bW U (aT fun If=>?_) (aU fun If=>?_)
 ·refine bP<|ai<|ai<|aJ<|KK Bp<|au<|bD 2 U<|rS (SX (cR U U) U U)<|rP 2 [] (mc 13 U mn) ?_
  rw [show ((ht.take j).map (gh r.ar))=ht.map (gh r.ar) from by rw [List.take_of_length_le I]]
  refine rP 1 [] mn ?_
  refine ej (xs:=[.tmp 128]) (cs:=[(vS la ((ht.map (gh r.ar)).length) lc)]) U IM Ou U U U U (by simp [Value.cells]) U U fun Or=>?_
  refine dJ (es2:=(List.map sC (List.zipWith B4 (gT r (h+1)) (tz++[(la,lc)])))) (m':=(List.zipWith B4 (gT r (h+1)) (tz++[(la,lc)])).length) 13 U U U OC U U sm (bw (es:=List.map sC [(bH.mk la ((ht.map (gh r.ar)).length) lc)]) 0 U U (by simp [zt]) U) (Lf _) (by rw [List.length_zipWith,k9 I]; omega) (by rw [List.length_zipWith,k9 I]; simp only [maxLen]; omega) (by rw [tG D C,List.map_append]; rfl) (by rw [tG D C]; simp) U fun P R=>?_
  try dsimp only
  refine rS (SX (cR U U) U U)<|bD 1 U<|ir (vs:=[(vS P ((List.zipWith B4 (gT r (h+1)) (tz++[(la,lc)])).length) R)]) (cs':=(ky.cells (ky.mk (yx r kA kC cA cC bA bC slA slC drA drC heA heC) (bH.mk P ((List.zipWith B4 (gT r (h+1)) (tz++[(la,lc)])).length) R) (Value.map none)))) (C':=[_,_,_,_,_,_,_,_,_,_,_,_,_,_,(cu L 212 (ky.cells (ky.mk (yx r kA kC cA cC bA bC slA slC drA drC heA heC) (bH.mk P ((List.zipWith B4 (gT r (h+1)) (tz++[(la,lc)])).length) R) (Value.map none)))),_]) 14 U U U Sh U U U U U U U<|aF<|aN<|KK A4<|au<|rP 2 [] mn ?_
  refine aF<|xN (X':=bj FZ (gT r (h+1)) (tz++[(la,lc)])) 12 15 U U (BC (a:=(la,lc)) D C) ?_
  have Eq:(vI (((h+1):Nat):Int))=(vI ((h:Int)+1)):=by exact cI I
  refine bg (Z ⟨((h+1),(tz++[(la,lc)]),P,R),⟨I,by simp; omega,yk E D (FY I F I)⟩⟩ _ _ _ U os (cG 5<|bf U Eq<|dh.nil _) (aQ [2,3,4,5,6,7,8,9,10,11,12,0,13,14]))
 refine WK Ci<|ak fun _ Ck=>aH<|WS fun _ Cp=>?_
 obtain ⟨d,hd⟩:=aL ht j I
 obtain ⟨da,FS⟩:=aL G.2 j I
 have Km:(List.zipWith av.cells ht G.2)[j]? =some (av.cells d da):=dy hd FS
 refine rS (IA j U (show iK _ (rd G.1.1 ht.length 7 (List.zipWith av.cells ht G.2)).holds from (cO 10 U (bK D AB cy))) qJ dc I I)<|rS (lx j 0 (aP.cells (aP.mk d.Out d.dj d.Time (cz.mk d.a_.Start d.a_.fR (bH.mk da.1 d.a_.aa.length da.2)))) U cj (show iK _ (rd G.1.1 ht.length 7 (List.zipWith av.cells ht G.2)).holds from (cO 10 U (bK D AB cy))) Km U dc U U)<|AL U Aa fun Ne=>fG U DC U<|RK Cp<|WS fun _ Cx=>bD 1 U<|rS (LP (cv.cells (jN r.ar kA kC cA cC bA bC)) 2 U cj U U U)<|rP 1 [] (mc 0 U mn) ?_
 have PB:=FV.sig d (aR hd)
 refine rS (CL (D3 r.ar kA kC az cA cC bA bC d da.1 da.2 asm asm) (mT [3,4,5,6,7]<|aK (show iK _ (rd da.1 d.a_.aa.length 2 (d.a_.aa.map aG.cells)).holds from (cO 11 U (bK D AB (dI _ (bK hd FS (by simp [av.f_]))))))<|aO) U)<|bD 3 U<|AL U dV fun OB=>fG U cZ U<|bD 1 U<|RK Cx<|ak fun _ C0=>WS fun _ C1=>rP 2 [] mn ?_
 refine RK C1<|bW U (br fun M=>?_) (bq fun M=>?_)
 ·refine WK C0<|au<|rP 2 [] (mc 0 U mn) ?_
  refine ej (xs:=[.tmp 119]) (cs:=(ag.cells (gh r.ar d))) U lq dV U U U U (by simp [Value.cells,ag.aZ]) U U fun Op=>?_
  refine dJ (es2:=(List.map ag.cells ((ht.take (j+1)).map (gh r.ar)))) (m':=((ht.take (j+1)).map (gh r.ar)).length) 17 U U U FE U U sm (bw (es:=List.map ag.cells [(gh r.ar d)]) 0 U U (by simp [ag.aZ]) U) (kU _) (by simp only [List.length_map,List.length_take]; omega) (by simp only [maxLen,List.length_map,List.length_take]; omega) (by rw [List.take_add_one,hd]; simp) sq U fun Go IC=>?_
  try dsimp only
  refine bD 1 U<|aF<|aN<|KK Ck<|au<|rP 2 [] mn ?_
  refine aF ?_
  have EQ:(vI (((j+1):Nat):Int))=(vI ((j:Int)+1)):=by exact cI I
  refine bg (b ⟨((j+1),Go,IC),⟨I,vR F hd M⟩⟩ _ _ _ U os (cG 10<|bf U EQ<|dh.nil _) (aQ [3,4,5,6,7,8,9,10,11,12,13,14,15,16,17]))
 refine WS fun _ C2=>rP 2 [] mn ?_
 refine RK C2<|aq<|LX hQ (false,60,0,0,none,0,[]) [] [] mn U (by rfl) U U ?_
 exact wh<|nW (kO B (fun q:fK r=>by exact M ((q.gf ht (aR D)).2 d (aR hd))))
end
section
open Go.RowKit
theorem JF (r:eZ) (kA:OA) (kC:Nat) (az:List RA) (cA:OA) (cC:Nat) (bA:OA) (bC:Nat) (slA:OA) (slC:Nat) (drA:OA) (drC:Nat) (ha:List cW) (heA:OA) (heC:Nat) (hin:lG r az ha):
 dG Tryz.prog 79 [(vA (fB.cells (yx r kA kC cA cC bA bC slA slC drA drC heA heC)))] [(rd gS 3 2 fP),(rd kA r.ar.aV.length 9 (r.ar.aV.map ao.cells)),(rd cA r.ar.aj.length 2 (List.zipWith aw.cells r.ar.aj az)),(dR (bj aw.f_ r.ar.aj az)),(rd bA r.ar.ab.length 4 (r.ar.ab.map bJ.cells)),(rd slA r.aY.length 1 (r.aY.map iC)),(rd drA r.ck.length 1 (r.ck.map iC)),(rd heA r.aB.length 1 (List.zipWith cL r.aB ha)),(dR (bj eY r.aB ha))] (vI (jK r)):=by
 have H:=hin.line
 have R:=hin.ij
 have S:=hin.has
 have J:=hin.ic
 have AB:=hin.draw
 have K:=j4 (r:=r)
 refine bG kr Tryz.func79 U U fun X Q hQ hN=>?_
 try dsimp only
 refine WS fun _ G=>eI U fun W=>bD 1 U<|RK G<|WS fun _ C=>rP 1 [] (mc 0 U mn) ?_
 refine cX (M4 r kA kC az cA cC bA bC slA slC drA drC ha heA heC hin) (bu [1,2,3,4,5,6,7,8,9]) U fun V E=>?_
 obtain ⟨F,N,P,O,AA,L,M⟩:=V
 cases F
 rotate_left 1
 ·obtain ⟨he,T⟩:=E.1 rfl
  try dsimp only [cond_true,cond_false,List.cons_append,List.nil_append]
  refine bD 5 U<|RK C<|WS fun _ B=>rP 2 [] mn ?_
  refine RK B<|aq<|Q1 hQ U U U ?_
  first|rfl|(rw [he])
 obtain ⟨D,he⟩:=E.2 rfl
 try dsimp only at D he
 subst D
 try dsimp only [cond_true,cond_false,List.cons_append,List.nil_append]
 refine bD 5 U<|RK C<|WS fun _ A=>rP 2 [] mn ?_
 refine RK A<|aq<|Q1 hQ U U U ?_
 first|rfl|(rw [he])
end
section
open Go.RowKit
theorem Iy (j:cN) (kA:OA) (kC:Nat) (az:List RA) (cA:OA) (cC:Nat) (bA:OA) (bC:Nat) (slA:OA) (slC:Nat) (drA:OA) (drC:Nat) (ha:List cW) (heA:OA) (heC:Nat) (faA:OA) (faC:Nat) (prA:OA) (prC:Nat) (hin:gG j az ha):
 dG Tryz.prog 52 [(vA (fz.cells (nY j kA kC cA cC bA bC slA slC drA drC heA heC faA faC prA prC)))] [(rd gS 3 2 fP),(rd kA j.Race.ar.aV.length 9 (j.Race.ar.aV.map ao.cells)),(rd cA j.Race.ar.aj.length 2 (List.zipWith aw.cells j.Race.ar.aj az)),(dR (bj aw.f_ j.Race.ar.aj az)),(rd bA j.Race.ar.ab.length 4 (j.Race.ar.ab.map bJ.cells)),(rd slA j.Race.aY.length 1 (j.Race.aY.map iC)),(rd drA j.Race.ck.length 1 (j.Race.ck.map iC)),(rd heA j.Race.aB.length 1 (List.zipWith cL j.Race.aB ha)),(dR (bj eY j.Race.aB ha)),(rd faA j.ay.length 4 (j.ay.map aM.cells)),(rd prA j.aD.length 5 (j.aD.map aX.cells))] (vI (dE j)):=by
 have Fd:=hin.race
 have J9:=hin.race.line
 have Os:=hin.race.ij
 have O1:=hin.race.has
 have Mu:=hin.race.ic
 have Lo:=hin.nf
 have L3:=hin.np
 refine bG kr Tryz.func52 U U fun w0 Q hQ hN=>?_
 try dsimp only
 refine WS fun _ In=>eI U fun b2=>bD 1 U<|RK In<|Am U<|ak fun _ Jf=>WS fun _ Jx=>bD 1 U<|rS (LP (fB.cells (yx j.Race kA kC cA cC bA bC slA slC drA drC heA heC)) 0 U cj U U U)<|rS (CL (JF j.Race kA kC az cA cC bA bC slA slC drA drC ha heA heC asm) (bu [1,2,3,4,5,6,7,8,9]) U)<|bD 1 U<|RK Jx<|WS fun _ J2=>rP 2 [] mn ?_
 refine RK J2<|cx U (bq fun A=>?_) (br fun A=>?_)
 ·refine WS fun _ J3=>rP 2 [] mn ?_
  refine RK J3<|aq<|Q1 hQ U U U ?_
  exact cI (yV A).symm
 refine WK Jf<|WS fun _ J4=>rP 2 [] (mc 0 U mn) ?_
 refine rS (FU U) ?_
 refine cX (LI j.ay faA faC (Value.func (.func 81) [].toArray [(vP b2)].toArray) (fun u8 u9=>(decide (¬ oP j.Race.ar.bS u9))) (dR [(cu b2 36 (fz.cells (nY j kA kC cA cC bA bC slA slC drA drC heA heC faA faC prA prC)))]) (by intro u8 u9 Km; exact lh (fi:=[]) (ca:=[(vP b2)]) (jS (Iu u8 u9 j kA kC cA cC bA bC slA slC drA drC heA heC faA faC prA prC b2 (by (obtain ⟨i_,_,J7⟩:=Km; exact hin.kind _ (aR J7)))) (bu [0]))) asm) (gY 10 rfl rfl<|aK (jX (bu [0]))<|aO) rfl fun LE M2=>?_
 obtain ⟨Ne,Op⟩:=LE
 try dsimp only
 refine bD 1 U<|RK J4<|ak fun _ b=>WS fun _ G=>rP 5 [] (mc 1 U mn) ?_
 refine b_ (t:=25) U (aU fun IC=>?_) (aT fun IC=>?_)
 ·refine bD 24 U<|RK G<|aS U<|WS fun _ c=>rP 1 [] mn ?_
  refine RK c<|aq<|Q1 hQ U U U ?_
  exact cI (jI A (fun q=>by have AA:=q.nf; have O:=q.min_; have V:=q.sK; have W:=q.np; omega)).symm
 refine rP 5 [] mn ?_
 refine b_ (t:=30) U (aU fun S=>?_) (aT fun S=>?_)
 ·refine bD 19 U<|RK G<|aS U<|WS fun _ e=>rP 1 [] mn ?_
  refine RK e<|aq<|Q1 hQ U U U ?_
  exact cI (jI A (Dz S)).symm
 refine rP 2 [] (mc 1 U mn) ?_
 refine ej (xs:=[.tmp 32]) (cs:=[(vI j.fX)]) U dv kj U U U U (by simp [Value.cells]) U U fun GE=>?_
 refine rS (CL (dG.eq (im 0 60 ([j.fX]) (some ⟨GE,0,none⟩) 1 (by (simp; done))) cD) (aK (bw 0 U U (by simp [bL]) U)<|aO) U) ?_
 refine rP 3 [] mn ?_
 refine b_ (t:=37) U (bq fun IO=>?_) (br fun IO=>?_)
 ·refine bD 12 U<|RK G<|aS U<|WS fun _ f=>rP 1 [] mn ?_
  refine RK f<|aq<|Q1 hQ U U U ?_
  exact cI (jI A (fun q=>by have AA:=q.nf; have O:=q.min_; have V:=q.sK; have W:=q.np; omega)).symm
 refine rP 2 [] (mc 2 U mn) ?_
 refine ej (xs:=[.tmp 39]) (cs:=[(vI j.yA)]) U dv kj U U U U (by simp [Value.cells]) U U fun GT=>?_
 refine rS (CL (dG.eq (im 0 100000 ([j.yA]) (some ⟨GT,0,none⟩) 1 (by (simp; done))) cD) (aK (bw 0 U U (by simp [bL]) U)<|aO) U) ?_
 refine rP 3 [] mn ?_
 refine b_ (t:=44) U (bq fun IR=>?_) (br fun IR=>?_)
 ·refine bD 5 U<|RK G<|aS U<|WS fun _ g=>rP 1 [] mn ?_
  refine RK g<|aq<|Q1 hQ U U U ?_
  exact cI (jI A (fun q=>by have AA:=q.nf; have O:=q.min_; have V:=q.sK; have W:=q.np; omega)).symm
 refine rP 5 [] (mc 3 U mn) ?_
 refine RK G<|cx U (aU fun If=>?_) (aT fun If=>?_)
 ·refine WS fun _ h=>rP 1 [] mn ?_
  refine RK h<|aq<|Q1 hQ U U U ?_
  exact cI (jI A (fun q=>by have AA:=q.nf; have O:=q.min_; have V:=q.sK; have W:=q.np; omega)).symm
 refine WK b<|WS fun _ l=>bD 1 U<|RK l<|WS fun _ m=>bD 1 U<|RK m<|ak fun _ n=>Ak<|KK n<|ak fun _ C=>WS fun _ o=>rP 4 [] (mc 3 U mn) ?_
 refine RK o<|aH ?_
 have N:(0≤j.aD.length)∧(ot j 0):=by exact ⟨Nat.zero_le _,yp⟩
 refine bY (ι:={z:Nat // (z≤j.aD.length)∧(ot j z)}) [1,5,51,52] [2,3,4,5,6,7,8,9,10,11,12,13,14] U U (fun z=>[(6,(vI (pC j z.1))),(53,(vI (z.1:Int)))]) (fun z=>[]) (fun _=>rfl) (fun _=>rfl) (fun z=>j.aD.length-z.1) ⟨0,N⟩ (bB U) (aQ [2,3,4,5,6,7,8,9,10,11,12,13,14]) ?_
 clear N
 rintro ⟨k,⟨B,D⟩⟩ J28 P
 try dsimp only
 refine WS fun _ r=>rP 1 [] mn ?_
 refine RK r<|ak fun _ s=>bW U (aT fun IL=>?_) (aU fun IL=>?_)
 ·refine bP<|ai<|ai<|aJ<|KK C<|WS fun _ C2=>rP 2 [] mn ?_
  refine RK C2<|aq<|Q1 hQ U U U ?_
  exact cI (ub A ⟨I,BE S,I,I,I,fun i p hi=>D i p (by have:=(aW.1 hi).1; omega) hi⟩).symm
 refine WK s<|ak fun _ R=>aH<|WS fun _ u=>?_
 obtain ⟨p,hp⟩:=aL j.aD k I
 have K0:=bM aX.cells hp
 refine rS (IA k U (aA 12 U) Bq dc I I)<|rS (lx k 0 (aX.cells p) U cj (aA 12 U) K0 U dc U U)<|AL U Mp fun Np=>fG U QF U<|RK u<|WS fun _ AB=>rP 1 [] mn ?_
 have J8:=Mr D B
 refine rP 3 [] (mc 0 U mn) ?_
 refine ej (xs:=[.tmp 60]) (cs:=[(vI p.Id)]) U dv kj U U U U (by simp [Value.cells]) U U fun Go=>?_
 refine rS (CL (dG.eq (im ((pC j k)+1) 9999 ([p.Id]) (some ⟨Go,0,none⟩) 1 (by (simp; done))) cD) (aK (bw 0 U U (by simp [bL]) U)<|aO) U) ?_
 refine rP 1 [] mn ?_
 refine cp (t:=63) U (aT fun Y=>?_) (aU fun Y=>?_)
 ·refine bD 32 U<|RK AB<|ak fun _ Ck=>WS fun _ Cp=>bD 1 U<|RK Cp<|bR U<|WK Ck<|ak fun _ Lk=>WS fun _ Cx=>bD 2 U<|RK Cx<|aS U<|WS fun _ C0=>bD 1 U<|RK C0<|bP<|ai<|fh U<|ai<|ai<|aJ<|KK C<|WS fun _ C1=>rP 2 [] mn ?_
  refine RK C1<|aq<|Q1 hQ U U U ?_
  exact cI (jI A (rL hp (fun q=>by have q0:=wD q B; have AA:=q.id; have O:=q.lj; have V:=q.gf; have W:=q.fault; simp only [q9] at O; omega))).symm
 refine rP 7 [0,1] (mc 3 U (mc 1 U mn)) ?_
 refine ej (xs:=[.tmp 70]) (cs:=[(vI p.iM)]) U dv kj U U U U (by simp [Value.cells]) U U fun Hh=>?_
 refine rS (CL (dG.eq (im 0 ((j.Race.aY.length:Int)-1) ([p.iM]) (some ⟨Hh,0,none⟩) 1 (by (simp; done))) cD) (aK (bw 0 U U (by simp [bL]) U)<|aO) U) ?_
 refine rP 2 [] mn ?_
 refine cp (t:=74) U (aT fun Z=>?_) (aU fun Z=>?_)
 ·refine bD 21 U<|RK AB<|ak fun _ A9=>WS fun _ Bp=>bD 1 U<|RK Bp<|bR U<|WK A9<|ak fun _ Li=>WS fun _ B3=>bD 2 U<|RK B3<|aS U<|WS fun _ B9=>bD 1 U<|RK B9<|bP<|ai<|fh U<|ai<|ai<|aJ<|KK C<|WS fun _ Ci=>rP 2 [] mn ?_
  refine RK Ci<|aq<|Q1 hQ U U U ?_
  exact cI (jI A (rL hp (fun q=>by have q0:=wD q B; have AA:=q.id; have O:=q.lj; have V:=q.gf; have W:=q.fault; simp only [q9] at O; omega))).symm
 refine rP 7 [0,1] (mc 4 U (mc 2 U mn)) ?_
 refine ej (xs:=[.tmp 81]) (cs:=[(vI p.jm)]) U dv kj U U U U (by simp [Value.cells]) U U fun Hi=>?_
 refine rS (CL (dG.eq (im 0 ((j.Race.aB.length:Int)-1) ([p.jm]) (some ⟨Hi,0,none⟩) 1 (by (simp; done))) cD) (aK (bw 0 U U (by simp [bL]) U)<|aO) U) ?_
 refine rP 2 [] mn ?_
 refine cp (t:=85) U (aT fun a=>?_) (aU fun a=>?_)
 ·refine bD 10 U<|RK AB<|ak fun _ A4=>WS fun _ A5=>bD 1 U<|RK A5<|bR U<|WK A4<|ak fun _ La=>WS fun _ A6=>bD 2 U<|RK A6<|aS U<|WS fun _ A7=>bD 1 U<|RK A7<|bP<|ai<|fh U<|ai<|ai<|aJ<|KK C<|WS fun _ A8=>rP 2 [] mn ?_
  refine RK A8<|aq<|Q1 hQ U U U ?_
  exact cI (jI A (rL hp (fun q=>by have q0:=wD q B; have AA:=q.id; have O:=q.lj; have V:=q.gf; have W:=q.fault; simp only [q9] at O; omega))).symm
 refine rP 6 [0,1] (mc 5 U (mc 3 U mn)) ?_
 refine ej (xs:=[.tmp 91]) (cs:=[(vI p.jU)]) U dv kj U U U U (by simp [Value.cells]) U U fun H1=>?_
 refine rS (CL (dG.eq (im 0 ((j.ay.length:Int)-1) ([p.jU]) (some ⟨H1,0,none⟩) 1 (by (simp; done))) cD) (aK (bw 0 U U (by simp [bL]) U)<|aO) U) ?_
 refine bD 2 U<|RK AB<|ak fun _ L=>WS fun _ v=>rP 1 [] mn ?_
 refine RK v<|bW U (aT fun T=>?_) (aU fun T=>?_)
 ·refine WK L<|ak fun _ A0=>WS fun _ A1=>rP 2 [] mn ?_
  refine RK A1<|bW U (br fun F=>?_) (bq fun F=>?_)
  ·refine WK A0<|au<|eQ 3 [] (mc 4 U mn) U<|aF<|aN<|KK R<|au<|rP 2 [] mn ?_
   refine aF ?_
   have EQ:(vI (pC j (k+1)))=(vI p.Id):=by exact cI (nQ hp)
   have Eq:(vI (((k+1):Nat):Int))=(vI ((k:Int)+1)):=by exact cI I
   refine bg (P ⟨(k+1),(by exact absurd F T)⟩ _ _ _ U os (cG 4<|bf U EQ<|bf U Eq<|dh.nil _) (aQ [5,6,7,8,9,10,11,12,13,14,15,16,17]))
  refine WS fun _ A2=>bD 1 U<|RK A2<|bP<|ai<|fh U<|ai<|ai<|aJ<|KK C<|WS fun _ A3=>rP 2 [] mn ?_
  refine RK A3<|aq<|Q1 hQ U U U ?_
  exact cI (jI A (rL hp (fun q=>by have q0:=wD q B; have AA:=q.id; have O:=q.lj; have V:=q.gf; have W:=q.fault; simp only [q9] at O; omega))).symm
 refine ak fun _ w=>dA ct [11,12] [] [] [0,1,2,3,4,5,6,7,8,9,10,11,12,13,14,15,16,17] [] U U U U U<|eS U (FA 0 U fj U)<|eS U (FA 10 U fj U)<|eS U (L1 (vS heA j.Race.aB.length heC) 6 U cj U U)<|eS U (FA 2 U fj U)<|eS U (L1 (vI p.jm) 4 U cj U U) ?_
 have K4:=(eU A).2
 obtain ⟨ht,K⟩:=aL j.Race.aB ((p.jm).toNat) I
 obtain ⟨E,J⟩:=aL ha ((p.jm).toNat) I
 have FV:(List.zipWith cL j.Race.aB ha)[(p.jm).toNat]? =some (cL ht E):=dy K J
 refine eS U (IA ((p.jm).toNat) U (aA 14 U) oh dc I I)<|eS U (g6 ((p.jm).toNat) 0 (vS E.1.1 ht.length E.1.2) U cj (aA 14 U) FV U dc U)<|eS U (FA 1 U fj U) ?_
 have FS:=Fd.gf _ _ _ K J
 have L0:=FS.og
 have L2:=(K4.gf ht (aR K)).1
 refine eS U (L1 (vI p.iM) 4 U cj U U) ?_
 obtain ⟨d,hd⟩:=aL ht ((p.iM).toNat) I
 obtain ⟨da,J5⟩:=aL E.2 ((p.iM).toNat) I
 have J6:(List.zipWith av.cells ht E.2)[(p.iM).toNat]? =some (av.cells d da):=dy hd J5
 refine eS U (IA ((p.iM).toNat) U (show iK _ (rd E.1.1 ht.length 7 (List.zipWith av.cells ht E.2)).holds from (cO 15 U (bK K J cy))) qJ dc I I) ?_
 have M:=po (j:=j) (p:=p) K hd
 have O6:=FS.sig d (aR hd)
 refine eS U (lx ((p.iM).toNat) 0 (aP.cells (aP.mk d.Out d.dj d.Time (cz.mk d.a_.Start d.a_.fR (bH.mk da.1 d.a_.aa.length da.2)))) U cj (show iK _ (rd E.1.1 ht.length 7 (List.zipWith av.cells ht E.2)).holds from (cO 15 U (bK K J cy))) J6 U dc U U)<|eh U<|cd U fun T43 C3=>AL U Aa fun OB=>aF (C3 _ _ (aQ [1,2,3,4,5,6,7,8,9,10,11,12,13,14,15,16,17,18]) ?_)
 refine cd U fun T45 DS=>fG U DC U<|aF (DS _ _ (aQ [1,2,3,4,5,6,7,8,9,10,11,12,13,14,15,16,17,18]) ?_)
 refine fp U<|KK w<|au<|eQ 1 [] (mc 0 U mn) U<|rS (CL (uj d.Out d.dj d.Time (cz.mk d.a_.Start d.a_.fR (bH.mk da.1 d.a_.aa.length da.2))) (aO) U)<|rP 1 [] mn ?_
 refine cp (t:=109) U (aT fun H=>?_) (aU fun H=>?_)
 ·refine bD 9 U<|RK L<|ak fun _ LT=>WS fun _ AF=>bD 2 U<|RK AF<|aS U<|WS fun _ AO=>bD 1 U<|RK AO<|bP<|ai<|fh U<|ai<|ai<|aJ<|KK C<|WS fun _ Ay=>rP 2 [] mn ?_
  refine RK Ay<|aq<|Q1 hQ U U U ?_
  exact cI (jI A (rL hp (fun q=>by obtain ⟨d2,X,r1,r2⟩:=q.jJ; rw [M] at X; cases X; first|exact H r1|omega))).symm
 refine rP 5 [0,1] (mc 0 U (mc 5 U mn)) ?_
 refine ej (xs:=[.tmp 114]) (cs:=[(vI p.At)]) U dv kj U U U U (by simp [Value.cells]) U U fun IB=>?_
 refine rS (CL (dG.eq (im d.a_.Start 86400000 ([p.At]) (some ⟨IB,0,none⟩) 1 (by (simp; done))) cD) (aK (bw 0 U U (by simp [bL]) U)<|aO) U) ?_
 refine bD 2 U<|RK L<|ak fun _ x=>WS fun _ y=>rP 2 [] mn ?_
 refine RK y<|bW U (br fun F=>?_) (bq fun F=>?_)
 ·refine WK x<|au<|eQ 3 [] (mc 6 U mn) U<|aF<|aN<|KK R<|au<|rP 2 [] mn ?_
  refine aF ?_
  have Di:(vI (pC j (k+1)))=(vI p.Id):=by exact cI (nQ hp)
  have Do:(vI (((k+1):Nat):Int))=(vI ((k:Int)+1)):=by exact cI I
  refine bg (P ⟨(k+1),(by exact ⟨I,tn D hp (ML hp Y J8.1 Z a T M H F)⟩)⟩ _ _ _ U os (cG 4<|bf U Di<|bf U Do<|dh.nil _) (aQ [7,8,9,10,11,12,13,14,15,16,17,18,19]))
 refine WS fun _ AC=>bD 1 U<|RK AC<|bP<|ai<|fh U<|ai<|ai<|aJ<|KK C<|WS fun _ AD=>rP 2 [] mn ?_
 refine RK AD<|aq<|Q1 hQ U U U ?_
 exact cI (jI A (rL hp (fun q=>by obtain ⟨d2,X,r1,r2⟩:=q.jJ; rw [M] at X; cases X; first|exact H r1|omega))).symm
theorem rM (j:cN) (kA:OA) (kC:Nat) (az:List RA) (cA:OA) (cC:Nat) (bA:OA) (bC:Nat) (slA:OA) (slC:Nat) (drA:OA) (drC:Nat) (ha:List cW) (heA:OA) (heC:Nat) (faA:OA) (faC:Nat) (prA:OA) (prC:Nat) (hin:gG j az ha):
 dG Tryz.prog 29 [(vA (fz.cells (nY j kA kC cA cC bA bC slA slC drA drC heA heC faA faC prA prC)))] [(rd gS 3 2 fP),(rd kA j.Race.ar.aV.length 9 (j.Race.ar.aV.map ao.cells)),(rd cA j.Race.ar.aj.length 2 (List.zipWith aw.cells j.Race.ar.aj az)),(dR (bj aw.f_ j.Race.ar.aj az)),(rd bA j.Race.ar.ab.length 4 (j.Race.ar.ab.map bJ.cells)),(rd slA j.Race.aY.length 1 (j.Race.aY.map iC)),(rd drA j.Race.ck.length 1 (j.Race.ck.map iC)),(rd heA j.Race.aB.length 1 (List.zipWith cL j.Race.aB ha)),(dR (bj eY j.Race.aB ha)),(rd faA j.ay.length 4 (j.ay.map aM.cells)),(rd prA j.aD.length 5 (j.aD.map aX.cells))] (vT [(vA (c_.cells (c_.mk (nY j kA kC cA cC bA bC slA slC drA drC heA heC faA faC prA prC)))),(vI (dE j))]):=by
 refine bG kr Tryz.func29 U U fun E Q hQ hN=>?_
 try dsimp only
 refine WS fun _ A=>eI U fun C=>AL U Ez fun D=>bD 1 U<|RK A<|ak fun _ B=>dp ct 4 kr<|lU 1 [] (mc 1 U mn) U<|dS (SX (bp (xs:=[(0,.tmp 4)]) (cs:=(c_.cells (c_.mk (nY j kA kC cA cC bA bC slA slC drA drC heA heC faA faC prA prC)))) U U (bo Vr U)) U U)<|lU 1 [] (mc 1 U mn) U<|dS (CL (Iy j kA kC az cA cC bA bC slA slC drA drC ha heA heC faA faC prA prC hin) (bu [2,3,4,5,6,7,8,9,10,11,12]) U)<|cK<|fG U DR U<|rP 1 [] mn ?_
 refine RK B<|aq<|mV hQ [0] (mc 0 U mn) U ?_
 rfl
end
section
open Go.RowKit
theorem Ah (j:cN) (kA:OA) (kC:Nat) (az:List RA) (cA:OA) (cC:Nat) (bA:OA) (bC:Nat) (slA:OA) (slC:Nat) (drA:OA) (drC:Nat) (ha:List cW) (heA:OA) (heC:Nat) (faA:OA) (faC:Nat) (prA:OA) (prC:Nat) (kq hq sq:Int) (hin:gG j az ha):
 dG Tryz.prog 12 [(vA (fz.cells (nY j kA kC cA cC bA bC slA slC drA drC heA heC faA faC prA prC))),(vI kq),(vI hq),(vI sq)] [(rd gS 3 2 fP),(rd kA j.Race.ar.aV.length 9 (j.Race.ar.aV.map ao.cells)),(rd cA j.Race.ar.aj.length 2 (List.zipWith aw.cells j.Race.ar.aj az)),(dR (bj aw.f_ j.Race.ar.aj az)),(rd bA j.Race.ar.ab.length 4 (j.Race.ar.ab.map bJ.cells)),(rd slA j.Race.aY.length 1 (j.Race.aY.map iC)),(rd drA j.Race.ck.length 1 (j.Race.ck.map iC)),(rd heA j.Race.aB.length 1 (List.zipWith cL j.Race.aB ha)),(dR (bj eY j.Race.aB ha)),(rd faA j.ay.length 4 (j.ay.map aM.cells)),(rd prA j.aD.length 5 (j.aD.map aX.cells))] (vT [(Value.int .u8 (ld j kq hq sq)),(vI (mX j kq hq sq))]):=by
 have O:=hin.race
 have n:=hin.race.line
 have AC:=hin.race.ij
 have AD:=hin.race.has
 have x:=hin.race.ic
 have r:=hin.nf
 have w:=hin.np
 refine bG kr Tryz.func12 U U fun w0 Q hQ hN=>?_
 try dsimp only
 refine WS fun _ W=>eI U fun b2=>bD 2 U<|RK W<|WS fun _ X=>eQ 1 [] (mc 0 U mn) U<|rS (CL (rM j kA kC az cA cC bA bC slA slC drA drC ha heA heC faA faC prA prC hin) (bu [1,2,3,4,5,6,7,8,9,10,11]) U)<|bD 3 U<|AL U Ez fun b4=>fG U DR U<|bD 1 U<|RK X<|ak fun _ Y=>WS fun _ Z=>rP 2 [] mn ?_
 refine RK Z<|cx U (bq fun B=>?_) (br fun B=>?_)
 ·refine WS fun _ a=>rP 3 [] mn ?_
  refine RK a<|aq<|Q2 hQ U U U U ?_
  (have e:=Hk (k:=kq) (h:=hq) (s:=sq) B; rw [e.1,e.2]; done)
 refine WK Y<|ak fun _ b=>WS fun _ E=>rP 5 [] (mc 1 U mn) ?_
 refine ej (xs:=[.tmp 24]) (cs:=[(vI kq)]) U dv kj U U U U (by simp [Value.cells]) U U fun P=>?_
 refine rS (CL (dG.eq (im 0 ((j.ay.length:Int)-1) ([kq]) (some ⟨P,0,none⟩) 1 (by (simp; done))) cD) (aK (bw 0 U U (by simp [bL]) U)<|aO) U) ?_
 refine rP 2 [] mn ?_
 refine b_ (t:=28) U (bq fun T=>?_) (br fun T=>?_)
 ·refine bD 21 U<|RK E<|aS U<|WS fun _ F=>rP 2 [] mn ?_
  refine RK F<|aq<|Q2 hQ U U U U ?_
  (have e:=u6 (k:=kq) (h:=hq) (s:=sq) B (fun q=>by unfold lJ at q; omega); rw [e.1,e.2]; done)
 refine rP 6 [] (mc 2 U mn) ?_
 refine ej (xs:=[.tmp 34]) (cs:=[(vI hq)]) U dv kj U U U U (by simp [Value.cells]) U U fun R=>?_
 refine rS (CL (dG.eq (im 0 ((j.Race.aB.length:Int)-1) ([hq]) (some ⟨R,0,none⟩) 1 (by (simp; done))) cD) (aK (bw 0 U U (by simp [bL]) U)<|aO) U) ?_
 refine rP 3 [] mn ?_
 refine b_ (t:=39) U (bq fun AA=>?_) (br fun AA=>?_)
 ·refine bD 10 U<|RK E<|aS U<|WS fun _ G=>rP 2 [] mn ?_
  refine RK G<|aq<|Q2 hQ U U U U ?_
  (have e:=u6 (k:=kq) (h:=hq) (s:=sq) B (fun q=>by unfold lJ at q; omega); rw [e.1,e.2]; done)
 refine rP 6 [] (mc 3 U mn) ?_
 refine ej (xs:=[.tmp 45]) (cs:=[(vI sq)]) U dv kj U U U U (by simp [Value.cells]) U U fun S=>?_
 refine rS (CL (dG.eq (im 0 ((j.Race.aY.length:Int)-1) ([sq]) (some ⟨S,0,none⟩) 1 (by (simp; done))) cD) (aK (bw 0 U U (by simp [bL]) U)<|aO) U) ?_
 refine rP 2 [] mn ?_
 refine RK E<|cx U (bq fun V=>?_) (br fun V=>?_)
 ·refine WS fun _ H=>rP 2 [] mn ?_
  refine RK H<|aq<|Q2 hQ U U U U ?_
  (have e:=u6 (k:=kq) (h:=hq) (s:=sq) B (fun q=>by unfold lJ at q; omega); rw [e.1,e.2]; done)
 refine WK b<|ak fun _ AB=>dp ct 18 kr<|dP 4 [0,1] (mc 3 U (mc 4 U mn)) ?_
 have N:=(eP B).1
 have l:=(eP B).2
 have m:=(eU N).1
 have o:=(eU N).2
 have i:=(dM m).2.head
 unfold eW at i
 obtain ⟨f,hf⟩:=aL j.ay ((kq).toNat) I
 have g:=bM aM.cells hf
 refine dS (IA ((kq).toNat) U (aA 14 U) wi dc I I)<|dS (lx ((kq).toNat) 0 (aM.cells f) U cj (aA 14 U) g U dc U U)<|dP 4 [] (mc 4 U mn) ?_
 obtain ⟨ht,D⟩:=aL j.Race.aB ((hq).toNat) I
 obtain ⟨A,C⟩:=aL ha ((hq).toNat) I
 have M:(List.zipWith cL j.Race.aB ha)[(hq).toNat]? =some (cL ht A):=dy D C
 refine dS (IA ((hq).toNat) U (aA 12 U) oh dc I I) ?_
 have L:=O.gf _ _ _ D C
 have u:=L.og
 have v:=(o.gf ht (aR D)).1
 refine dS (g6 ((hq).toNat) 0 (vS A.1.1 ht.length A.1.2) U cj (aA 12 U) M U dc U)<|dP 1 [] mn ?_
 have p:=L.sig
 have K:=l.fault f (aR hf)
 have z:0≤f.eL∧f.eL≤1000000:=by have y:=K.2.2; split at y<;>omega
 obtain ⟨d,hd⟩:=aL ht ((sq).toNat) I
 obtain ⟨da,J⟩:=aL A.2 ((sq).toNat) I
 have c:(List.zipWith av.cells ht A.2)[(sq).toNat]? =some (av.cells d da):=dy hd J
 refine dS (IA ((sq).toNat) U (show iK _ (rd A.1.1 ht.length 7 (List.zipWith av.cells ht A.2)).holds from (cO 13 U (bK D C cy))) qJ dc I I)<|dS (lx ((sq).toNat) 0 (aP.cells (aP.mk d.Out d.dj d.Time (cz.mk d.a_.Start d.a_.fR (bH.mk da.1 d.a_.aa.length da.2)))) U cj (show iK _ (rd A.1.1 ht.length 7 (List.zipWith av.cells ht A.2)).holds from (cO 13 U (bK D C cy))) c U dc U U) ?_
 have AF:=p d (aR hd)
 refine dS (CL (An j kA kC az cA cC bA bC slA slC drA drC ha heA heC faA faC prA prC f d da.1 da.2 hin (by exact K.1) asm asm) (mT [6,7,8,9,10,11,12,13,14,15]<|aK (show iK _ (rd da.1 d.a_.aa.length 2 (d.a_.aa.map aG.cells)).holds from (cO 13 U (bK D C (dI _ (bK hd J (by simp [av.f_]))))))<|aO) U)<|dP 2 [] mn ?_
 refine cK<|RK AB<|aq<|Q2 hQ U U U U ?_
 (have e:=qY (k:=kq) (h:=hq) (s:=sq) B (by unfold lJ; omega) hf D hd; rw [e.1,e.2]; done)
theorem OM (j:cN) (kA:OA) (kC:Nat) (az:List RA) (cA:OA) (cC:Nat) (bA:OA) (bC:Nat) (slA:OA) (slC:Nat) (drA:OA) (drC:Nat) (ha:List cW) (heA:OA) (heC:Nat) (faA:OA) (faC:Nat) (prA:OA) (prC:Nat) (iq:Int) (hin:gG j az ha):
 dG Tryz.prog 13 [(vA (fz.cells (nY j kA kC cA cC bA bC slA slC drA drC heA heC faA faC prA prC))),(vI iq)] [(rd gS 3 2 fP),(rd kA j.Race.ar.aV.length 9 (j.Race.ar.aV.map ao.cells)),(rd cA j.Race.ar.aj.length 2 (List.zipWith aw.cells j.Race.ar.aj az)),(dR (bj aw.f_ j.Race.ar.aj az)),(rd bA j.Race.ar.ab.length 4 (j.Race.ar.ab.map bJ.cells)),(rd slA j.Race.aY.length 1 (j.Race.aY.map iC)),(rd drA j.Race.ck.length 1 (j.Race.ck.map iC)),(rd heA j.Race.aB.length 1 (List.zipWith cL j.Race.aB ha)),(dR (bj eY j.Race.aB ha)),(rd faA j.ay.length 4 (j.ay.map aM.cells)),(rd prA j.aD.length 5 (j.aD.map aX.cells))] (vT [(Value.int .u8 (vQ j iq)),(vI (tI j iq))]):=by
 have R:=hin.race
 have M:=hin.race.line
 have T:=hin.race.ij
 have AA:=hin.race.has
 have S:=hin.race.ic
 have O:=hin.nf
 have P:=hin.np
 refine bG kr Tryz.func13 U U fun X Q hQ hN=>?_
 try dsimp only
 refine WS fun _ F=>eI U fun V=>bD 2 U<|RK F<|WS fun _ G=>eQ 1 [] (mc 0 U mn) U<|rS (CL (rM j kA kC az cA cC bA bC slA slC drA drC ha heA heC faA faC prA prC hin) (bu [1,2,3,4,5,6,7,8,9,10,11]) U)<|bD 3 U<|AL U Ez fun W=>fG U DR U<|bD 1 U<|RK G<|ak fun _ H=>WS fun _ AB=>rP 2 [] mn ?_
 refine RK AB<|cx U (bq fun A=>?_) (br fun A=>?_)
 ·refine WS fun _ J=>rP 3 [] mn ?_
  refine RK J<|aq<|Q2 hQ U U U U ?_
  (have e:=Le (i:=iq) A; rw [e.1,e.2]; done)
 refine WK H<|ak fun _ K=>WS fun _ L=>rP 5 [] (mc 1 U mn) ?_
 refine ej (xs:=[.tmp 20]) (cs:=[(vI iq)]) U dv kj U U U U (by simp [Value.cells]) U U fun D=>?_
 refine rS (CL (dG.eq (im 0 ((j.aD.length:Int)-1) ([iq]) (some ⟨D,0,none⟩) 1 (by (simp; done))) cD) (aK (bw 0 U U (by simp [bL]) U)<|aO) U) ?_
 refine rP 1 [] mn ?_
 refine RK L<|cx U (bq fun E=>?_) (br fun E=>?_)
 ·refine WS fun _ B=>rP 2 [] mn ?_
  refine RK B<|aq<|Q2 hQ U U U U ?_
  (have e:=IU (i:=iq) A I; rw [e.1,e.2]; done)
 refine WK K<|ak fun _ C=>dp ct 9 kr<|dP 4 [0,1] (mc 1 U (mc 2 U mn)) ?_
 obtain ⟨p,hp⟩:=aL j.aD ((iq).toNat) I
 have N:=bM aX.cells hp
 refine dS (IA ((iq).toNat) U (aA 13 U) Bq dc I I)<|dS (lx ((iq).toNat) 0 (aX.cells p) U cj (aA 13 U) N U dc U U)<|dS (CL (KE j kA kC az cA cC bA bC slA slC drA drC ha heA heC faA faC prA prC p hin asm (by exact ⟨_,hp⟩)) (bu [4,5,6,7,8,9,10,11,12,13]) U)<|dP 2 [] mn ?_
 refine cK<|RK C<|aq<|Q2 hQ U U U U ?_
 (have e:=Af (i:=iq) A I hp; rw [e.1,e.2]; done)
theorem CG (j:cN) (kA:OA) (kC:Nat) (az:List RA) (cA:OA) (cC:Nat) (bA:OA) (bC:Nat) (slA:OA) (slC:Nat) (drA:OA) (drC:Nat) (ha:List cW) (heA:OA) (heC:Nat) (faA:OA) (faC:Nat) (prA:OA) (prC:Nat) (hin:gG j az ha):
 pG Tryz.prog 10 [(vA (fz.cells (nY j kA kC cA cC bA bC slA slC drA drC heA heC faA faC prA prC)))] [(rd gS 3 2 fP),(rd kA j.Race.ar.aV.length 9 (j.Race.ar.aV.map ao.cells)),(rd cA j.Race.ar.aj.length 2 (List.zipWith aw.cells j.Race.ar.aj az)),(dR (bj aw.f_ j.Race.ar.aj az)),(rd bA j.Race.ar.ab.length 4 (j.Race.ar.ab.map bJ.cells)),(rd slA j.Race.aY.length 1 (j.Race.aY.map iC)),(rd drA j.Race.ck.length 1 (j.Race.ck.map iC)),(rd heA j.Race.aB.length 1 (List.zipWith cL j.Race.aB ha)),(dR (bj eY j.Race.aB ha)),(rd faA j.ay.length 4 (j.ay.map aM.cells)),(rd prA j.aD.length 5 (j.aD.map aX.cells))] (fun (x:(OA)×Nat)=>(vT [(vS x.1 ((kp j).length) x.2),(vI (dE j))])) (fun (x:(OA)×Nat)=>True) (fun (x:(OA)×Nat)=>[(own x.1 x.2 3 1 ((kp j).map iC))]):=by
 have S:=hin.race
 have L:=hin.race.line
 have V:=hin.race.ij
 have W:=hin.race.has
 have T:=hin.race.ic
 have P:=hin.nf
 have R:=hin.np
 refine e_ kr Tryz.func10 U U fun a Q hQ hN=>?_
 try dsimp only
 refine WS fun _ E=>eI U fun Y=>bD 1 U<|bD 1 U<|RK E<|WS fun _ F=>eQ 1 [] (mc 0 U mn) U<|rS (CL (rM j kA kC az cA cC bA bC slA slC drA drC ha heA heC faA faC prA prC hin) (bu [1,2,3,4,5,6,7,8,9,10,11]) U)<|bD 3 U<|AL U Ez fun Z=>fG U DR U<|bD 1 U<|RK F<|ak fun _ G=>WS fun _ H=>rP 2 [] mn ?_
 refine RK H<|cx U (bq fun A=>?_) (br fun A=>?_)
 ·refine WS fun _ AB=>jO 3 1 ?_
  rw [show (own none 0 3 1 ([]:List (List Value)))=own none 0 3 1 ((kp j).map iC) from by rw [yn A]; rfl]
  refine bD 2 U<|rP 1 [] mn ?_
  refine RK AB<|aq ?_
  refine LX hQ (none,0) [0] [] mn U U U ?_ ?_
  ·(rw [yn A]; rfl)
  ·trivial
 refine WK G<|WS fun _ J=>rP 3 [0,1] (mc 1 U (mc 0 U mn)) ?_
 refine rS (FU U) ?_
 refine cX (Au j.aD prA prC (Value.func (.func 31) [(vA (c_.cells (c_.mk (nY j kA kC cA cC bA bC slA slC drA drC heA heC faA faC prA prC))))].toArray [].toArray) (fun N B=>(iv j B)) (dR [(rd kA j.Race.ar.aV.length 9 (j.Race.ar.aV.map ao.cells)),(rd cA j.Race.ar.aj.length 2 (List.zipWith aw.cells j.Race.ar.aj az)),(dR (bj aw.f_ j.Race.ar.aj az)),(rd bA j.Race.ar.ab.length 4 (j.Race.ar.ab.map bJ.cells)),(rd slA j.Race.aY.length 1 (j.Race.aY.map iC)),(rd drA j.Race.ck.length 1 (j.Race.ck.map iC)),(rd heA j.Race.aB.length 1 (List.zipWith cL j.Race.aB ha)),(dR (bj eY j.Race.aB ha)),(rd faA j.ay.length 4 (j.ay.map aM.cells)),(rd prA j.aD.length 5 (j.aD.map aX.cells))]) (by intro N B M; exact lh (fi:=[(vA (c_.cells (c_.mk (nY j kA kC cA cC bA bC slA slC drA drC heA heC faA faC prA prC))))]) (ca:=[]) (jS (vn j kA kC az cA cC bA bC slA slC drA drC ha heA heC faA faC prA prC N B asm asm (by (obtain ⟨X,_,K⟩:=M; exact ⟨X,K⟩))) (bu [0,1,2,3,4,5,6,7,8,9]))) asm) (gY 12 rfl rfl<|aK (jX (bu [3,4,5,6,7,8,9,10,11,12]))<|aO) rfl fun O AA=>?_
 obtain ⟨C,D⟩:=O
 try dsimp only
 refine rP 1 [] mn ?_
 rw [show (jn (h_ j.aD (fun N B=>(iv j B))) j.aD.length)=kp j from by rw [p7 A]; rfl]
 refine rP 1 [] mn ?_
 refine RK J<|aq ?_
 refine LX hQ (C,D) [0] [] mn U U U ?_ ?_
 ·(rw [A]; rfl)
 ·trivial
theorem M6 (j:cN) (kA:OA) (kC:Nat) (az:List RA) (cA:OA) (cC:Nat) (bA:OA) (bC:Nat) (slA:OA) (slC:Nat) (drA:OA) (drC:Nat) (ha:List cW) (heA:OA) (heC:Nat) (faA:OA) (faC:Nat) (prA:OA) (prC:Nat) (hin:gG j az ha):
 dG Tryz.prog 15 [(vA (fz.cells (nY j kA kC cA cC bA bC slA slC drA drC heA heC faA faC prA prC)))] [(rd gS 3 2 fP),(rd kA j.Race.ar.aV.length 9 (j.Race.ar.aV.map ao.cells)),(rd cA j.Race.ar.aj.length 2 (List.zipWith aw.cells j.Race.ar.aj az)),(dR (bj aw.f_ j.Race.ar.aj az)),(rd bA j.Race.ar.ab.length 4 (j.Race.ar.ab.map bJ.cells)),(rd slA j.Race.aY.length 1 (j.Race.aY.map iC)),(rd drA j.Race.ck.length 1 (j.Race.ck.map iC)),(rd heA j.Race.aB.length 1 (List.zipWith cL j.Race.aB ha)),(dR (bj eY j.Race.aB ha)),(rd faA j.ay.length 4 (j.ay.map aM.cells)),(rd prA j.aD.length 5 (j.aD.map aX.cells))] (vT [(vI (z9 j)),(vI (zY j)),(vI (dE j))]):=by
 have R:=hin.race
 have M:=hin.race.line
 have Y:=hin.race.ij
 have Z:=hin.race.has
 have S:=hin.race.ic
 have O:=hin.nf
 have P:=hin.np
 refine bG kr Tryz.func15 U U fun k Q hQ hN=>?_
 try dsimp only
 refine WS fun _ G=>eI U fun f=>bD 3 U<|RK G<|WS fun _ H=>rP 1 [] (mc 0 U mn) ?_
 refine cX (CG j kA kC az cA cC bA bC slA slC drA drC ha heA heC faA faC prA prC hin) (bu [1,2,3,4,5,6,7,8,9,10,11]) U fun c b=>?_
 obtain ⟨d,g⟩:=c
 try dsimp only
 refine bD 5 U<|RK H<|ak fun _ AB=>WS fun _ J=>rP 2 [] mn ?_
 refine RK J<|cx U (bq fun A=>?_) (br fun A=>?_)
 ·refine WS fun _ D=>rP 4 [] mn ?_
  refine RK D<|aq<|Q3 hQ U U U U U ?_
  (have e:=Hy A; rw [e.1,e.2]; done)
 refine WK AB<|WS fun _ E=>?_
 have C:=(eP A).2
 have X:(kp j).length≤8:=by have h:=C.np; have i:=xV (j:=j); rw [p7 A]; omega
 have B:=C.sK
 have N:=C.np
 have K:=DX (a:=((kp j).length:Int)) ⟨I,I⟩ B
 have L:=DX (a:=(j.aD.length:Int)) ⟨I,I⟩ B
 have T:=Int.mul_le_mul_of_nonneg_right (show (0:Int)≤((kp j).length:Int) by omega) B.1
 have AA:=Int.mul_le_mul_of_nonneg_right (show ((kp j).length:Int)≤8 by omega) B.1
 have V:=Int.mul_le_mul_of_nonneg_right (show (0:Int)≤(j.aD.length:Int) by omega) B.1
 have W:=Int.mul_le_mul_of_nonneg_right N B.1
 refine eQ 4 [] (mc 1 U mn) U<|rS (BI U (uB K))<|bD 1 U<|RK E<|ak fun _ F=>dp ct 12 kr<|lU 6 [] (mc 1 U mn) U<|dS (BI U (uB L))<|dP 5 [] mn ?_
 refine cK<|RK F<|aq<|Q3 hQ U U U U U ?_
 (have e:=xL A; rw [e.1,e.2,A,p7 A]; rfl)
theorem Kd (i:Int) (p:aX) (sq:Int) (g1:Nat) (j:cN) (kA:OA) (kC:Nat) (az:List RA) (cA:OA) (cC:Nat) (bA:OA) (bC:Nat) (slA:OA) (slC:Nat) (drA:OA) (drC:Nat) (ha:List cW) (heA:OA) (heC:Nat) (faA:OA) (faC:Nat) (prA:OA) (prC g2:Nat) (hin:gG j az ha) (hok:dE j=0) (hp: ∃ i:Nat,j.aD[i]? =some p):
 dG Tryz.prog 36 [(vI i),(vA (aX.cells p)),(vP g1),(vP g2)] [(cu g1 3 [(vI sq)]),(rd kA j.Race.ar.aV.length 9 (j.Race.ar.aV.map ao.cells)),(rd cA j.Race.ar.aj.length 2 (List.zipWith aw.cells j.Race.ar.aj az)),(dR (bj aw.f_ j.Race.ar.aj az)),(rd bA j.Race.ar.ab.length 4 (j.Race.ar.ab.map bJ.cells)),(rd slA j.Race.aY.length 1 (j.Race.aY.map iC)),(rd drA j.Race.ck.length 1 (j.Race.ck.map iC)),(rd heA j.Race.aB.length 1 (List.zipWith cL j.Race.aB ha)),(dR (bj eY j.Race.aB ha)),(rd faA j.ay.length 4 (j.ay.map aM.cells)),(rd prA j.aD.length 5 (j.aD.map aX.cells)),(cu g2 93 (c_.cells (c_.mk (nY j kA kC cA cC bA bC slA slC drA drC heA heC faA faC prA prC))))] (vB (zQ j sq p)):=by
 refine bG kr Tryz.func36 U U fun E Q hQ hN=>?_
 try dsimp only
 refine WS fun _ C=>eI U fun D=>bD 1 U<|RK C<|WS fun _ B=>rP 5 [0,1] (mc 0 U (mr 1 U mn)) ?_
 refine cp (t:=11) U (aT fun A=>?_) (aU fun A=>?_)
 ·refine rP 7 [] mn ?_
  refine RK B<|aq<|Q1 hQ U U U ?_
  (rw [LS A]; done)
 refine eQ 3 [0,1] (mr 12 U (mc 0 U mn)) U<|rS (CL (vn j kA kC az cA cC bA bC slA slC drA drC ha heA heC faA faC prA prC i p hin hok hp) (bu [2,3,4,5,6,7,8,9,10,11]) U)<|rP 3 [] mn ?_
 refine RK B<|aq<|Q1 hQ U U U ?_
 (rw [Iz A]; done)
theorem NL (j:cN) (kA:OA) (kC:Nat) (az:List RA) (cA:OA) (cC:Nat) (bA:OA) (bC:Nat) (slA:OA) (slC:Nat) (drA:OA) (drC:Nat) (ha:List cW) (heA:OA) (heC:Nat) (faA:OA) (faC:Nat) (prA:OA) (prC:Nat) (sq:Int) (hin:gG j az ha):
 dG Tryz.prog 16 [(vA (fz.cells (nY j kA kC cA cC bA bC slA slC drA drC heA heC faA faC prA prC))),(vI sq)] [(rd gS 3 2 fP),(rd kA j.Race.ar.aV.length 9 (j.Race.ar.aV.map ao.cells)),(rd cA j.Race.ar.aj.length 2 (List.zipWith aw.cells j.Race.ar.aj az)),(dR (bj aw.f_ j.Race.ar.aj az)),(rd bA j.Race.ar.ab.length 4 (j.Race.ar.ab.map bJ.cells)),(rd slA j.Race.aY.length 1 (j.Race.aY.map iC)),(rd drA j.Race.ck.length 1 (j.Race.ck.map iC)),(rd heA j.Race.aB.length 1 (List.zipWith cL j.Race.aB ha)),(dR (bj eY j.Race.aB ha)),(rd faA j.ay.length 4 (j.ay.map aM.cells)),(rd prA j.aD.length 5 (j.aD.map aX.cells))] (vT [(vI (te j sq)),(vI (qM j sq))]):=by
 have c:=hin.race
 have W:=hin.race.line
 have i:=hin.race.ij
 have k:=hin.race.has
 have d:=hin.race.ic
 have Z:=hin.nf
 have b:=hin.np
 refine bG kr Tryz.func16 U U fun q Q hQ hN=>?_
 try dsimp only
 refine WS fun _ M=>eI U fun o=>wJ U U fun AB=>bD 2 U<|RK M<|WS fun _ N=>eQ 1 [] (mc 1 U mn) U<|rS (CL (rM j kA kC az cA cC bA bC slA slC drA drC ha heA heC faA faC prA prC hin) (bu [2,3,4,5,6,7,8,9,10,11,12]) U)<|bD 3 U<|AL U Ez fun J=>fG U DR U<|bD 1 U<|RK N<|ak fun _ O=>WS fun _ P=>rP 2 [] mn ?_
 refine RK P<|cx U (bq fun A=>?_) (br fun A=>?_)
 ·refine WS fun _ R=>rP 3 [] mn ?_
  refine RK R<|aq<|Q2 hQ U U U U ?_
  (have e:=GU (s:=sq) A; rw [e.1,e.2]; done)
 refine WK O<|ak fun _ S=>WS fun _ C=>rP 6 [0,1] (mc 2 U (mc 1 U mn)) ?_
 refine ej (xs:=[.tmp 22]) (cs:=[(vI sq)]) U dv kj U U U U (by simp [Value.cells]) U U fun K=>?_
 refine rS (CL (dG.eq (im 0 ((j.Race.aY.length:Int)-1) ([sq]) (some ⟨K,0,none⟩) 1 (by (simp; done))) cD) (aK (bw 0 U U (by simp [bL]) U)<|aO) U) ?_
 refine rP 1 [] mn ?_
 refine RK C<|cx U (bq fun L=>?_) (br fun L=>?_)
 ·refine WS fun _ D=>rP 2 [] mn ?_
  refine RK D<|aq<|Q2 hQ U U U U ?_
  (have e:=F7 (s:=sq) A I; rw [e.1,e.2]; done)
 refine WK S<|WS fun _ E=>rP 2 [] (mc 3 U mn) ?_
 refine rS (FU U) ?_
 refine cX (Au j.aD prA prC (Value.func (.func 36) [].toArray [(vP AB),(vP J)].toArray) (fun H B=>(zQ j sq B)) (dR [(cu AB 3 [(vI sq)]),(rd kA j.Race.ar.aV.length 9 (j.Race.ar.aV.map ao.cells)),(rd cA j.Race.ar.aj.length 2 (List.zipWith aw.cells j.Race.ar.aj az)),(dR (bj aw.f_ j.Race.ar.aj az)),(rd bA j.Race.ar.ab.length 4 (j.Race.ar.ab.map bJ.cells)),(rd slA j.Race.aY.length 1 (j.Race.aY.map iC)),(rd drA j.Race.ck.length 1 (j.Race.ck.map iC)),(rd heA j.Race.aB.length 1 (List.zipWith cL j.Race.aB ha)),(dR (bj eY j.Race.aB ha)),(rd faA j.ay.length 4 (j.ay.map aM.cells)),(rd prA j.aD.length 5 (j.aD.map aX.cells)),(cu J 93 (c_.cells (c_.mk (nY j kA kC cA cC bA bC slA slC drA drC heA heC faA faC prA prC))))]) (by intro H B X; exact lh (fi:=[]) (ca:=[(vP AB),(vP J)]) (jS (Kd H B sq AB j kA kC az cA cC bA bC slA slC drA drC ha heA heC faA faC prA prC J asm asm (by (obtain ⟨n,_,V⟩:=X; exact ⟨n,V⟩))) (bu [0,1,2,3,4,5,6,7,8,9,10,11]))) asm) (gY 14 rfl rfl<|aK (jX (bu [2,5,6,7,8,9,10,11,12,13,14,1]))<|aO) rfl fun Y f=>?_
 obtain ⟨g,h⟩:=Y
 try dsimp only
 refine bD 1 U<|RK E<|WS fun _ F=>rP 1 [] mn ?_
 have G:=(eP A).2
 have m:=G.np
 have AA:=G.sK
 have l:(jn (h_ j.aD fun _ p=>zQ j sq p) j.aD.length).length≤8:=Nat.le_trans pX I
 have T:=DX (a:= -(((jn (h_ j.aD fun _ p=>zQ j sq p) j.aD.length).length:Nat):Int)) ⟨I,I⟩ AA
 refine bD 1 U<|rS (NG U ⟨I,I⟩)<|eQ 2 [] (mc 4 U mn) U<|rS (BI U (uB T))<|rP 2 [] mn ?_
 refine RK F<|aq<|Q2 hQ U U U U ?_
 (have e:=IP (s:=sq) A I; rw [e.1,e.2]; done)
end
section
open Go.RowKit
theorem Jz (l:List aM) (lA:OA) (lC:Nat) (f:Value) (p:aM→Bool) (X:ax) (hf: ∀ x0,x0∈l→DY Tryz.prog f [.agg (aM.cells x0).toArray] [X] (.bool (p x0))) (hlen:l.length≤1000000):
 dG Tryz.prog 90 [(vS lA l.length lC),f] [(rd lA l.length 4 (l.map aM.cells)),X] (vI (sM p l)):=by
 refine bG kr Tryz.func90 U U fun R Q hQ hN=>?_
 try dsimp only
 refine WS fun _ G=>bD 1 U<|RK G<|ak fun _ H=>WS fun _ AA=>rP 3 [] mn ?_
 refine RK AA<|aH ?_
 have B:(0≤l.length)∧((l.take 0).any p=false):=by simp
 refine bY (ι:={z:Nat // (z≤l.length)∧((l.take z).any p=false)}) [0,1,7] [0,1] U U (fun z=>[(8,(vI (z.1:Int)))]) (fun z=>[]) (fun _=>rfl) (fun _=>rfl) (fun z=>l.length-z.1) ⟨0,B⟩ (bB U) (aQ [0,1]) ?_
 clear B
 rintro ⟨i,⟨N,A⟩⟩ J4 F
 try dsimp only
 refine WS fun _ J=>rP 1 [] mn ?_
 refine RK J<|ak fun _ K=>bW U (aT fun P=>?_) (aU fun P=>?_)
 ·refine bP<|ai<|ai<|aJ<|KK H<|WS fun _ E=>rP 1 [] mn ?_
  refine RK E<|aq<|Q1 hQ U U U ?_
  exact cI (qd I A).symm
 refine WK K<|ak fun _ L=>aH<|WS fun _ M=>bD 2 U<|RK M<|WS fun _ C=>rP 3 [] mn ?_
 obtain ⟨x,hx⟩:=aL l i I
 have O:=bM aM.cells hx
 refine rS (IA i U (aA 0 U) wi dc I I)<|rS (lx i 0 (aM.cells x) U cj (aA 0 U) O U dc U U)<|rS (SX (qa U U U (hf x (aR hx)) (bu [1])) U U)<|RK C<|cx U (fun hp=>?_) (fun hp=>?_)
 ·refine WS fun _ D=>rP 2 [] mn ?_
  refine RK D<|aq<|Q1 hQ U U U ?_
  exact cI (tO hx hp A).symm
 refine cf<|aN<|KK L<|au<|rP 2 [] mn ?_
 refine aF ?_
 refine bg (F ⟨(i+1),⟨I,uq hx A hp⟩⟩ _ _ _ U os (bB U) (aQ [0,1]))
theorem CM (l:List aM) (lA:OA) (lC:Nat) (f:Value) (p:aM→Bool) (X:ax) (hf: ∀ x0,x0∈l→DY Tryz.prog f [.agg (aM.cells x0).toArray] [X] (.bool (p x0))) (hlen:l.length≤1000000):
 dG Tryz.prog 62 [(vS lA l.length lC),f] [(rd lA l.length 4 (l.map aM.cells)),X] (vB (l.any p)):=by
 refine bG kr Tryz.func62 U U fun C Q hQ hN=>?_
 try dsimp only
 refine WS fun _ A=>bD 1 U<|RK A<|WS fun _ B=>bD 2 U<|rS (CL (Jz l lA lC f p X (by exact hf) hlen) (bu [0,1]) U)<|rP 2 [] mn ?_
 refine RK B<|aq<|Q1 hQ U U U ?_
 exact cB rN
theorem Qo (f:aM) (fm:List (Int×Bool)) (gm:Nat) (j:cN) (kA:OA) (kC:Nat) (az:List RA) (cA:OA) (cC:Nat) (bA:OA) (bC:Nat) (slA:OA) (slC:Nat) (drA:OA) (drC:Nat) (ha:List cW) (heA:OA) (heC:Nat) (faA:OA) (faC:Nat) (prA:OA) (prC:Nat) (d:av) (sgA:OA) (sgC g1:Nat) (g2 g3:Nat) (hin:gG j az ha) (hok:dE j=0) (hfm:f∈j.ay) (hsl:d.a_.aa.length≤1000000):
 dG Tryz.prog 63 [(vA (aM.cells f)),(vP g1),(vP g2),(vP g3)] [(j1 iV gm (cS vB fm)),(rd kA j.Race.ar.aV.length 9 (j.Race.ar.aV.map ao.cells)),(rd cA j.Race.ar.aj.length 2 (List.zipWith aw.cells j.Race.ar.aj az)),(dR (bj aw.f_ j.Race.ar.aj az)),(rd bA j.Race.ar.ab.length 4 (j.Race.ar.ab.map bJ.cells)),(rd slA j.Race.aY.length 1 (j.Race.aY.map iC)),(rd drA j.Race.ck.length 1 (j.Race.ck.map iC)),(rd heA j.Race.aB.length 1 (List.zipWith cL j.Race.aB ha)),(dR (bj eY j.Race.aB ha)),(rd faA j.ay.length 4 (j.ay.map aM.cells)),(rd prA j.aD.length 5 (j.aD.map aX.cells)),(rd sgA d.a_.aa.length 2 (d.a_.aa.map aG.cells)),(cu g1 45 [(Value.map (some gm))]),(cu g2 93 (c_.cells (c_.mk (nY j kA kC cA cC bA bC slA slC drA drC heA heC faA faC prA prC)))),(cu g3 58 (aP.cells (aP.mk d.Out d.dj d.Time (jk d.a_ sgA sgC))))] (vB (((List.lookup (kH j.ay f) fm).getD false)&& !decide (eC j.Race.ar f d=0))):=by
 have L:=hin.race
 have AB:=hin.race.line
 have P:=hin.race.ij
 have R:=hin.race.has
 have M:=hin.race.ic
 have J:=hin.nf
 have K:=hin.np
 have D:=(eP hok).1
 have G:=(eP hok).2
 have H:=(eU D).1
 have S:=(eU D).2
 have F:=(dM H).2.head
 unfold eW at F
 have C:=G.fault f hfm
 have O:0≤f.eL∧f.eL≤1000000:=by have N:=C.2.2; split at N<;>omega
 refine bG kr Tryz.func63 U U fun AA Q hQ hN=>?_
 try dsimp only
 refine WS fun _ E=>eI U fun T=>bD 1 U<|RK E<|ak fun _ B=>dp ct 15 kr<|lU 5 [0,1,2] (mr 13 U (mr 14 U (mc 0 U mn))) U<|dS (CL (xz j.ay faA faC f asm) (bu [10]) U)<|dS (SX (vL (kV:=iV) (x:=(kH j.ay f)) (l:=fm) (f:=Value.bool) (z:=false) U U U HE (ig si) Wd (by exact Nk 1 U)) U U)<|dP 1 [] mn ?_
 refine jy (t:=13) U (fun A=>?_) (fun A=>?_)
 ·refine dP 7 [] mn ?_
  refine cK<|RK B<|aq<|Q1 hQ U U U ?_
  (rw [A,Bool.false_and]; done)
 refine lU 3 [0,1,2] (mr 14 U (mc 0 U (mr 15 U mn))) U<|dS (CL (An j kA kC az cA cC bA bC slA slC drA drC ha heA heC faA faC prA prC f d sgA sgC hin (by exact C.1) asm hsl) (bu [2,3,4,5,6,7,8,9,10,11,12]) U)<|dS (BI U qh)<|dP 2 [] mn ?_
 refine cK<|RK B<|aq<|Q1 hQ U U U ?_
 (rw [A,Bool.true_and]; done)
end
section
open Go.RowKit
theorem Ml (fm:List (Int×Bool)) (gm:Nat) (j:cN) (kA:OA) (kC:Nat) (az:List RA) (cA:OA) (cC:Nat) (bA:OA) (bC:Nat) (slA:OA) (slC:Nat) (drA:OA) (drC:Nat) (ha:List cW) (heA:OA) (heC:Nat) (faA:OA) (faC:Nat) (prA:OA) (prC g1 g2:Nat) (hin:gG j az ha) (hok:dE j=0):
 P7 Tryz.prog 61 [] [(vP g1),(vP g2)] [(j1 iV gm (cS vB fm)),(rd kA j.Race.ar.aV.length 9 (j.Race.ar.aV.map ao.cells)),(rd cA j.Race.ar.aj.length 2 (List.zipWith aw.cells j.Race.ar.aj az)),(dR (bj aw.f_ j.Race.ar.aj az)),(rd bA j.Race.ar.ab.length 4 (j.Race.ar.ab.map bJ.cells)),(rd slA j.Race.aY.length 1 (j.Race.aY.map iC)),(rd drA j.Race.ck.length 1 (j.Race.ck.map iC)),(rd heA j.Race.aB.length 1 (List.zipWith cL j.Race.aB ha)),(dR (bj eY j.Race.aB ha)),(rd faA j.ay.length 4 (j.ay.map aM.cells)),(rd prA j.aD.length 5 (j.aD.map aX.cells)),(cu g1 93 (c_.cells (c_.mk (nY j kA kC cA cC bA bC slA slC drA drC heA heC faA faC prA prC)))),(cu g2 45 [(Value.map (some gm))])] ((0:Nat)) (Kw (gV j (kD j.ay fm))) (fun k=>k=j.Race.aB.length):=by
 have Ck:=hin.race
 have H1:=hin.race.line
 have Jx:=hin.race.ij
 have J3:=hin.race.has
 have Id:=hin.race.ic
 have IC:=hin.nf
 have IR:=hin.np
 have Ci:=(eP hok).1
 have J4:=(eP hok).2
 have Hi:=(eU Ci).1
 have IB:=(eU Ci).2
 have Go:=(dM Hi).2.head
 unfold eW at Go
 refine Nz kr Tryz.func61 U U fun l J Z A0 w0 Q hY Do Di hQ hN=>?_
 try dsimp only
 refine WS fun _ Eq=>rP 6 [] (mr 12 U mn) ?_
 refine RK Eq<|aH ?_
 have B:(0≤j.Race.aB.length)∧(J 0 A0)∧(Fo A0 w0 A0):=by exact ⟨Nat.zero_le _,Do,Di⟩
 refine bY (ι:={z:Nat×ax // (z.1≤j.Race.aB.length)∧(J z.1 z.2)∧(Fo A0 w0 z.2)}) [0,1,2,15,16] [1,2,3,4,5,6,7,8,9,10,11,12,13] U U (fun z=>[(17,(vI (z.1.1:Int)))]) (fun z=>[z.1.2]) (fun _=>rfl) (fun _=>rfl) (fun z=>j.Race.aB.length-z.1.1) ⟨(0,A0),B⟩ (bB U) (aQ [1,2,3,4,5,6,7,8,9,10,11,12,13,0]) ?_
 clear B
 rintro ⟨⟨h,A⟩,⟨X,F,G⟩⟩ J2 EQ
 try dsimp only at X F G
 try dsimp only
 refine WS fun _ FS=>rP 1 [] mn ?_
 refine RK FS<|ak fun _ FV=>bW U (aT fun h5=>?_) (aU fun h5=>?_)
 ·refine bP<|ai<|ai<|aJ ?_
  refine hN _ _ _ (jV (vs:=[]) trivial fun w hs=>Qk 13 U (by show h=j.Race.aB.length; omega) F G hs)
 refine WK FV<|ak fun _ Fd=>aH<|WS fun _ Fn=>?_
 obtain ⟨ht,E⟩:=aL j.Race.aB h I
 obtain ⟨C,D⟩:=aL ha h I
 have B9:(List.zipWith cL j.Race.aB ha)[h]? =some (cL ht C):=dy E D
 refine rS (IA h U (aA 7 U) oh dc I I) ?_
 have B3:=Ck.gf _ _ _ E D
 have IL:=B3.og
 have IO:=(IB.gf ht (aR E)).1
 refine rS (g6 h 0 (vS C.1.1 ht.length C.1.2) U cj (aA 7 U) B9 U dc U)<|rP 1 [] mn ?_
 refine RK Fn<|WS fun _ GE=>lF (kV:=iV) U U fun b9=>?_
 try dsimp only
 refine bD 1 U<|RK GE<|ak fun _ b=>WS fun _ e=>rP 3 [] mn ?_
 refine RK e<|aH ?_
 skip
 have B:(0≤ht.length):=by exact Nat.zero_le _
 refine bY (ι:={z:Nat // (z≤ht.length)}) [0,1,2,5,6,15,16,17,23] [1,2,3,4,5,6,7,8,9,10,11,12,13,14] U U (fun z=>[(24,(vI (z.1:Int)))]) (fun z=>[(j1 iV b9 (cS vB (ib (ly j.Race.ar j.ay fm ht) z.1 0)))]) (fun _=>rfl) (fun _=>rfl) (fun z=>ht.length-z.1) ⟨0,B⟩ (bB U) (aQ [1,2,3,4,5,6,7,8,9,10,11,12,13,14,0]) ?_
 clear B
 rintro ⟨q,Hh⟩ J12 Y
 try dsimp only
 refine WS fun _ g=>rP 1 [] mn ?_
 refine RK g<|ak fun _ i=>cx U (aU fun C2=>?_) (aT fun C2=>?_)
 ·refine WK i<|ak fun _ m=>aH<|WS fun _ o=>bD 2 U<|RK o<|au<|rP 2 [] mn ?_
  have A2:(ed (ib (ly j.Race.ar j.ay fm ht) q 0) (q:Int) true)=(ib (ly j.Race.ar j.ay fm ht) (q+1) 0):=by exact IG
  refine iX (kV:=iV) (x:=(q:Int)) (C':=[_,_,_,_,_,_,_,_,_,_,_,_,_,_,(j1 iV b9 (cS vB (ib (ly j.Race.ar j.ay fm ht) (q+1) 0)))]) 14 U U U U HE (ig si) U ((gp _ _ _ _).symm.trans (congrArg _ A2)) U<|aF<|aN<|KK m<|au<|rP 2 [] mn ?_
  refine aF ?_
  have A3:(vI (((q+1):Nat):Int))=(vI ((q:Int)+1)):=by exact cI I
  refine bg (Y ⟨(q+1),(by first|omega|(simp only []; omega))⟩ _ _ _ U os (cG 9<|bf U A3<|dh.nil _) (aQ [0,1,2,3,4,5,6,7,8,9,10,11,12,13,14]))
 refine bP<|ai<|ai<|aJ<|KK b<|ak fun _ p=>WS fun _ r=>rP 3 [] mn ?_
 refine RK r<|aH ?_
 rw [show (ib (ly j.Race.ar j.ay fm ht) q 0)=(ib (ly j.Race.ar j.ay fm ht) ht.length 0) from by rw [show q=ht.length by omega]]
 have B:(0≤ht.length):=by exact Nat.zero_le _
 refine bY (ι:={z:Nat // (z≤ht.length)}) [0,1,2,5,6,15,16,17,30,31] [0,1,2,3,4,5,6,7,8,9,10,11,12,13] U U (fun z=>[(32,(vI (z.1:Int)))]) (fun z=>[(j1 iV b9 (cS vB (ib (ly j.Race.ar j.ay fm ht) ht.length z.1)))]) (fun _=>rfl) (fun _=>rfl) (fun z=>ht.length-z.1) ⟨0,B⟩ (bB U) (aQ [0,1,2,3,4,5,6,7,8,9,10,11,12,13,14]) ?_
 clear B
 rintro ⟨q,Cx⟩ J22 R
 try dsimp only
 refine WS fun _ s=>rP 1 [] mn ?_
 refine RK s<|ak fun _ t=>bW U (aT fun C3=>?_) (aU fun C3=>?_)
 ·refine bP<|ai<|ai<|aJ<|KK p<|WS fun _ y=>bD 1 U<|RK y<|ak fun _ AC=>WS fun _ AD=>rP 3 [] mn ?_
  refine RK AD<|aH ?_
  rw [show (ib (ly j.Race.ar j.ay fm ht) ht.length q)=(ib (ly j.Race.ar j.ay fm ht) ht.length ht.length) from by rw [show q=ht.length by omega]]
  refine eM 3 1 ?_
  have B:(0≤ht.length):=by exact Nat.zero_le _
  refine bY (ι:={z:Nat×(OA)×Nat // (z.1≤ht.length)}) [0,1,2,5,6,15,16,17,47] [1,2,3,4,5,6,7,8,9,10,11,12,13,14,15] U U (fun z=>[(10,(vS z.1.2.1 ((jn (ly j.Race.ar j.ay fm ht) z.1.1).length) z.1.2.2)),(48,(vI (z.1.1:Int)))]) (fun z=>[(own z.1.2.1 z.1.2.2 3 1 ((jn (ly j.Race.ar j.ay fm ht) z.1.1).map iC))]) (fun _=>rfl) (fun _=>rfl) (fun z=>ht.length-z.1.1) ⟨(0,none,0),B⟩ (bB U) (aQ [1,2,3,4,5,6,7,8,9,10,11,12,13,14,15,0]) ?_
  clear B
  rintro ⟨⟨q,a,c⟩,M⟩ J37 S
  try dsimp only at M
  try dsimp only
  refine WS fun _ AF=>rP 1 [] mn ?_
  refine RK AF<|ak fun _ AO=>bW U (aT fun DS=>?_) (aU fun DS=>?_)
  ·refine bP<|ai<|ai<|aJ<|KK AC<|ak fun _ V=>?_
   rw [show (jn (ly j.Race.ar j.ay fm ht) q)=(jn (ly j.Race.ar j.ay fm ht) ht.length) from by rw [show q=ht.length by omega]]
   refine au<|rP 2 [] mn ?_
   refine II (k:=h) (k':=(h+1)) 13 15 U hY F G U U U ⟨_,_,_,Ks E,U,U,U⟩ U U U U (fun B50 K AB=>?_) (fun B50 K AB=>?_)
   rotate_left 1
   ·refine rP 1 [] mn ?_
    refine RK V<|aS U<|aq ?_
    refine hQ _ _ _ (jV (vs:=[]) trivial fun w hs=>E2 0 U K AB hs)
   refine bD 1 U<|RK V<|bR U<|cf<|aN<|KK Fd<|au<|rP 2 [] mn ?_
   refine aF ?_
   have A9:(vI (((h+1):Nat):Int))=(vI ((h:Int)+1)):=by exact cI I
   refine bg (EQ ⟨((h+1),B50),⟨I,K,AB⟩⟩ _ _ _ U os (cG 5<|bf U A9<|dh.nil _) (aQ [1,2,3,4,5,6,7,8,9,10,11,12,13,0]))
  refine WK AO<|ak fun _ AA=>aH<|WS fun _ Ay=>bD 2 U<|RK Ay<|WS fun _ A1=>rP 2 [] mn ?_
  refine rS (SX (vL (kV:=iV) (x:=(q:Int)) (l:=(ib (ly j.Race.ar j.ay fm ht) ht.length ht.length)) (f:=Value.bool) (z:=false) U U U HE (ig si) Wd (by exact aA 14 U)) U U)<|RK A1<|bW U (fun W=>?_) (fun W=>?_)
  ·refine cf<|aN<|KK AA<|au<|rP 2 [] mn ?_
   refine aF ?_
   rw [show (jn (ly j.Race.ar j.ay fm ht) q)=(jn (ly j.Race.ar j.ay fm ht) (q+1)) from (pt (by rw [← zi (P:=(ly j.Race.ar j.ay fm ht)) (show q<ht.length by omega)]; simpa using W)).symm]
   have A8:(vI (((q+1):Nat):Int))=(vI ((q:Int)+1)):=by exact cI I
   refine bg (S ⟨((q+1),a,c),(by first|omega|(simp only []; omega))⟩ _ _ _ U os (cG 10<|bf U A8<|dh.nil _) (aQ [0,1,2,3,4,5,6,7,8,9,10,11,12,13,14,15]))
  refine au<|rP 2 [] mn ?_
  refine ej (xs:=[.tmp 55]) (cs:=[(vI (q:Int))]) U dv kj U U U U (by simp [Value.cells]) U U fun In=>?_
  refine dJ (es2:=(List.map iC (jn (ly j.Race.ar j.ay fm ht) (q+1)))) (m':=(jn (ly j.Race.ar j.ay fm ht) (q+1)).length) 16 U U U sx U U sm (bw (es:=List.map iC [(q:Int)]) 0 U U (by simp [bL]) U) (lg _) (by have:=pX (P:=(ly j.Race.ar j.ay fm ht)) (n:=q); omega) (by have:=pX (P:=(ly j.Race.ar j.ay fm ht)) (n:=q); simp only [maxLen]; omega) (by rw [qx (by rw [← zi (P:=(ly j.Race.ar j.ay fm ht)) (show q<ht.length by omega)]; exact W)]; simp) sm U fun C0 C1=>?_
  try dsimp only
  refine bD 1 U<|aF<|aN<|KK AA<|au<|rP 2 [] mn ?_
  refine aF ?_
  have A7:(vI (((q+1):Nat):Int))=(vI ((q:Int)+1)):=by exact cI I
  refine bg (S ⟨((q+1),C0,C1),(by first|omega|(simp only []; omega))⟩ _ _ _ U os (cG 10<|bf U A7<|dh.nil _) (aQ [1,2,3,4,5,6,7,8,9,10,11,12,13,14,15,16]))
 refine WK t<|ak fun _ T=>aH<|WS fun _ u=>rP 1 [] mn ?_
 obtain ⟨d,hd⟩:=aL ht q I
 obtain ⟨da,Bp⟩:=aL C.2 q I
 have GT:(List.zipWith av.cells ht C.2)[q]? =some (av.cells d da):=dy hd Bp
 refine rS (IA q U (show iK _ (rd C.1.1 ht.length 7 (List.zipWith av.cells ht C.2)).holds from (cO 8 U (bK E D cy))) qJ dc I I) ?_
 have J5:=B3.sig d (aR hd)
 refine rS (lx q 0 (aP.cells (aP.mk d.Out d.dj d.Time (cz.mk d.a_.Start d.a_.fR (bH.mk da.1 d.a_.aa.length da.2)))) U cj (show iK _ (rd C.1.1 ht.length 7 (List.zipWith av.cells ht C.2)).holds from (cO 8 U (bK E D cy))) GT U dc U U)<|AL U Aa fun L=>bD 1 U<|fG U DC U<|RK u<|WS fun _ v=>rP 3 [] (mr 12 U mn) ?_
 refine rS (FU U) ?_
 refine rS (CL (CM j.ay faA faC (Value.func (.func 63) [].toArray [(vP g2),(vP g1),(vP L)].toArray) (fun O=>(((List.lookup (kH j.ay O) fm).getD false)&& !decide (eC j.Race.ar O d=0))) (dR [(j1 iV gm (cS vB fm)),(rd kA j.Race.ar.aV.length 9 (j.Race.ar.aV.map ao.cells)),(rd cA j.Race.ar.aj.length 2 (List.zipWith aw.cells j.Race.ar.aj az)),(dR (bj aw.f_ j.Race.ar.aj az)),(rd bA j.Race.ar.ab.length 4 (j.Race.ar.ab.map bJ.cells)),(rd slA j.Race.aY.length 1 (j.Race.aY.map iC)),(rd drA j.Race.ck.length 1 (j.Race.ck.map iC)),(rd heA j.Race.aB.length 1 (List.zipWith cL j.Race.aB ha)),(dR (bj eY j.Race.aB ha)),(rd faA j.ay.length 4 (j.ay.map aM.cells)),(rd prA j.aD.length 5 (j.aD.map aX.cells)),(rd da.1 d.a_.aa.length 2 (d.a_.aa.map aG.cells)),(cu g2 45 [(Value.map (some gm))]),(cu g1 93 (c_.cells (c_.mk (nY j kA kC cA cC bA bC slA slC drA drC heA heC faA faC prA prC)))),(cu L 58 (aP.cells (aP.mk d.Out d.dj d.Time (cz.mk d.a_.Start d.a_.fR (bH.mk da.1 d.a_.aa.length da.2)))))]) (by intro O N; exact lh (fi:=[]) (ca:=[(vP g2),(vP g1),(vP L)]) (jS (Qo O fm gm j kA kC az cA cC bA bC slA slC drA drC ha heA heC faA faC prA prC d da.1 da.2 g2 g1 L (by first|assumption|exact N|omega) (by first|assumption|exact N|omega) (by first|assumption|exact N|omega) (by first|assumption|exact N|omega)) (bu [0,1,2,3,4,5,6,7,8,9,10,11,12,13,14]))) asm) (gY 10 U U<|aK (jX (mT [1,2,3,4,5,6,7,8,9,10,11]<|aK (show iK _ (rd da.1 d.a_.aa.length 2 (d.a_.aa.map aG.cells)).holds from (cO 9 U (bK E D (dI _ (bK hd Bp (by simp [av.f_]))))))<|gY 13 U U<|gY 12 U U<|gY 0 U U<|aO))<|aO) U) ?_
 refine rP 1 [] mn ?_
 refine RK v<|bW U (fun H=>?_) (fun H=>?_)
 ·rw [Bool.not_eq_false'] at H
  refine cf<|aN<|KK T<|au<|rP 2 [] mn ?_
  refine aF ?_
  rw [show (ib (ly j.Race.ar j.ay fm ht) ht.length q)=(ib (ly j.Race.ar j.ay fm ht) ht.length (q+1)) from HN (by rw [E3 hd]; simpa using H)]
  have A6:(vI (((q+1):Nat):Int))=(vI ((q:Int)+1)):=by exact cI I
  refine bg (R ⟨(q+1),(by first|omega|(simp only []; omega))⟩ _ _ _ U os (cG 10<|bf U A6<|dh.nil _) (aQ [1,2,3,4,5,6,7,8,9,10,11,12,13,14,15]))
 rw [Bool.not_eq_true'] at H
 refine au<|rP 2 [] mn ?_
 have A4:(e9 (ib (ly j.Race.ar j.ay fm ht) ht.length q) (q:Int))=(ib (ly j.Race.ar j.ay fm ht) ht.length (q+1)):=by exact KS (by rw [E3 hd]; exact H)
 refine s8 (kV:=iV) (x:=(q:Int)) (C':=[_,_,_,_,_,_,_,_,_,_,_,_,_,_,_,(j1 iV b9 (cS vB (ib (ly j.Race.ar j.ay fm ht) ht.length (q+1))))]) 15 U U U U HE (ig si) U ((nK _ _ _).symm.trans (congrArg _ A4)) U<|aF<|aN<|KK T<|au<|rP 2 [] mn ?_
 refine aF ?_
 have A5:(vI (((q+1):Nat):Int))=(vI ((q:Int)+1)):=by exact cI I
 refine bg (R ⟨(q+1),(by first|omega|(simp only []; omega))⟩ _ _ _ U os (cG 10<|bf U A5<|dh.nil _) (aQ [1,2,3,4,5,6,7,8,9,10,11,12,13,14,15]))
end
section
open Go.RowKit
theorem I6 (gm:Nat) (j:cN) (kA:OA) (kC:Nat) (cA:OA) (cC:Nat) (bA:OA) (bC:Nat) (slA:OA) (slC:Nat) (drA:OA) (drC:Nat) (heA:OA) (heC:Nat) (faA:OA) (faC:Nat) (prA:OA) (prC:Nat):
 pG Tryz.prog 40 [(vA (c_.cells (c_.mk (nY j kA kC cA cC bA bC slA slC drA drC heA heC faA faC prA prC)))),(Value.map (some gm))] [] (fun (x:Nat×Nat)=>(Value.func (.func 61) [].toArray [(Value.pointer (some ⟨x.1,0,none⟩)),(Value.pointer (some ⟨x.2,0,none⟩))].toArray)) (fun (x:Nat×Nat)=>True) (fun (x:Nat×Nat)=>[(cu x.1 93 (c_.cells (c_.mk (nY j kA kC cA cC bA bC slA slC drA drC heA heC faA faC prA prC)))),(cu x.2 45 [(Value.map (some gm))])]):=by
 refine e_ kr Tryz.func40 U U fun E Q hQ hN=>?_
 try dsimp only
 refine WS fun _ A=>eI U fun C=>wJ U U fun D=>bD 1 U<|RK A<|WS fun _ B=>rS (FU U)<|rP 1 [] mn ?_
 refine RK B<|aq<|LX hQ (C,D) [1,0] [] mn U U U U ?_
 trivial
theorem LU (fm:List (Int×Bool)) (gm:Nat) (j:cN) (kA:OA) (kC:Nat) (az:List RA) (cA:OA) (cC:Nat) (bA:OA) (bC:Nat) (slA:OA) (slC:Nat) (drA:OA) (drC:Nat) (ha:List cW) (heA:OA) (heC:Nat) (faA:OA) (faC:Nat) (prA:OA) (prC g1 g2:Nat) (hin:gG j az ha) (hok:dE j=0):
 pG Tryz.prog 60 [(vS none 0 0),(Value.func (.func 61) [].toArray [(vP g1),(vP g2)].toArray)] [(j1 iV gm (cS vB fm)),(rd kA j.Race.ar.aV.length 9 (j.Race.ar.aV.map ao.cells)),(rd cA j.Race.ar.aj.length 2 (List.zipWith aw.cells j.Race.ar.aj az)),(dR (bj aw.f_ j.Race.ar.aj az)),(rd bA j.Race.ar.ab.length 4 (j.Race.ar.ab.map bJ.cells)),(rd slA j.Race.aY.length 1 (j.Race.aY.map iC)),(rd drA j.Race.ck.length 1 (j.Race.ck.map iC)),(rd heA j.Race.aB.length 1 (List.zipWith cL j.Race.aB ha)),(dR (bj eY j.Race.aB ha)),(rd faA j.ay.length 4 (j.ay.map aM.cells)),(rd prA j.aD.length 5 (j.aD.map aX.cells)),(cu g1 93 (c_.cells (c_.mk (nY j kA kC cA cC bA bC slA slC drA drC heA heC faA faC prA prC)))),(cu g2 45 [(Value.map (some gm))])] (fun (x:(List RA)×(OA)×Nat)=>(vS x.2.1 ((gV j (kD j.ay fm)).length) x.2.2)) (fun (x:(List RA)×(OA)×Nat)=>x.1.length=(gV j (kD j.ay fm)).length) (fun (x:(List RA)×(OA)×Nat)=>[(own x.2.1 x.2.2 29 1 (List.zipWith uM (gV j (kD j.ay fm)) x.1)),(bQ (bj Dv (gV j (kD j.ay fm)) x.1))]):=by
 have W:=hin.race
 have P:=hin.race.line
 have g:=hin.race.ij
 have m:=hin.race.has
 have X:=hin.race.ic
 have AA:=hin.nf
 have V:=hin.np
 have f:(gV j (kD j.ay fm)).length=j.Race.aB.length:=by unfold gV; rw [List.length_map]
 refine e_ kr Tryz.func60 U U fun s Q hQ hN=>?_
 try dsimp only
 refine WS fun _ K=>wJ U U fun T=>bD 1 U<|RK K<|ak fun _ L=>WS fun _ M=>rP 1 [] mn ?_
 refine RK M<|aH<|ji 1 U (by exact fun _ h=>h)<|ji 3 U (by exact fun _ h=>h)<|ji 5 U (by exact fun _ h=>h)<|ji 7 U (by exact fun _ h=>h)<|ji 9 U (by exact fun _ h=>h)<|ji 11 U (by exact fun _ h=>h)<|ji 13 U (by exact fun _ h=>h)<|ji 15 U (by exact fun _ h=>h)<|ji 17 U (by exact fun _ h=>h)<|ji 19 U (by exact fun _ h=>h)<|ji 21 U (by exact fun _ h=>h)<|ji 23 U (by exact fun _ h=>h)<|ji 25 U (by exact fun _ h=>h)<|eM 29 1<|oc ?_
 refine HS (L0:=[(2,(vP T))]) (F:=[(j1 iV gm (cS vB fm)).ro,(rd kA j.Race.ar.aV.length 9 (j.Race.ar.aV.map ao.cells)).ro,(rd cA j.Race.ar.aj.length 2 (List.zipWith aw.cells j.Race.ar.aj az)).ro,(dR (bj aw.f_ j.Race.ar.aj az)).ro,(rd bA j.Race.ar.ab.length 4 (j.Race.ar.ab.map bJ.cells)).ro,(rd slA j.Race.aY.length 1 (j.Race.aY.map iC)).ro,(rd drA j.Race.ck.length 1 (j.Race.ck.map iC)).ro,(rd heA j.Race.aB.length 1 (List.zipWith cL j.Race.aB ha)).ro,(dR (bj eY j.Race.aB ha)).ro,(rd faA j.ay.length 4 (j.ay.map aM.cells)).ro,(rd prA j.aD.length 5 (j.aD.map aX.cells)).ro,(cu g1 93 (c_.cells (c_.mk (nY j kA kC cA cC bA bC slA slC drA drC heA heC faA faC prA prC)))).ro,(cu g2 45 [(Value.map (some gm))]).ro]) (fun k (y:(List RA)×(OA)×Nat)=>(y.1.length=k)) (fun k y=>[(bQ (bj Dv (List.take k (gV j (kD j.ay fm))) y.1)),(own y.2.1 y.2.2 29 1 (List.zipWith uM (List.take k (gV j (kD j.ay fm))) y.1)),(cu T 42 [(vS y.2.1 ((List.take k (gV j (kD j.ay fm))).length) y.2.2)]),(j1 iV gm (cS vB fm)).ro,(rd kA j.Race.ar.aV.length 9 (j.Race.ar.aV.map ao.cells)).ro,(rd cA j.Race.ar.aj.length 2 (List.zipWith aw.cells j.Race.ar.aj az)).ro,(dR (bj aw.f_ j.Race.ar.aj az)).ro,(rd bA j.Race.ar.ab.length 4 (j.Race.ar.ab.map bJ.cells)).ro,(rd slA j.Race.aY.length 1 (j.Race.aY.map iC)).ro,(rd drA j.Race.ck.length 1 (j.Race.ck.map iC)).ro,(rd heA j.Race.aB.length 1 (List.zipWith cL j.Race.aB ha)).ro,(dR (bj eY j.Race.aB ha)).ro,(rd faA j.ay.length 4 (j.ay.map aM.cells)).ro,(rd prA j.aD.length 5 (j.aD.map aX.cells)).ro]) (fun _ (_:Unit)=>False) (fun _ _=>[]) [0,1,15,16,17,18,19,20,21,22,23,24,25,26] [14,13,12,11,10,9,8,7,6,5,4,3,2] (([]:List RA),none,0) rfl rfl (Ml fm gm j kA kC az cA cC bA bC slA slC drA drC ha heA heC faA faC prA prC g1 g2 (by first|assumption|omega|(simp; done)) (by first|assumption|omega|(simp; done))) rfl rfl rfl (by exact rfl) (by simp only [List.forall_mem_cons,List.not_mem_nil,false_imp_iff,implies_true,and_true]; exact ⟨⟨_,aR (i:=0) rfl,(dH (bX _))⟩,⟨_,aR (i:=1) rfl,(dH (bX _))⟩,⟨_,aR (i:=2) rfl,(dH (bX _))⟩,⟨_,aR (i:=3) rfl,(dH (bX _))⟩,⟨_,aR (i:=4) rfl,(dH (bX _))⟩,⟨_,aR (i:=5) rfl,(dH (bX _))⟩,⟨_,aR (i:=6) rfl,(dH (bX _))⟩,⟨_,aR (i:=7) rfl,(dH (bX _))⟩,⟨_,aR (i:=8) rfl,(dH (bX _))⟩,⟨_,aR (i:=9) rfl,(dH (bX _))⟩,⟨_,aR (i:=10) rfl,(dH (bX _))⟩,⟨_,aR (i:=11) rfl,(dH (bX _))⟩,⟨_,aR (i:=12) rfl,(dH (bX _))⟩⟩) (by rintro k x R0 p ⟨_,_,_,_,rfl,_,_⟩; rfl) rfl (bB rfl) ?_ ?_ (fun _ _ _ h=>h.elim) (fun _ _ h=>h.elim)
 rotate_left 1
 ·rintro q k ⟨gz,a,c⟩ B C
  have D:=C
  try dsimp only at D
  try dsimp only
  rw [show (List.take k (gV j (kD j.ay fm)))=(gV j (kD j.ay fm)) from List.take_of_length_le (by have d:k=j.Race.aB.length:=B; omega)]
  have O:gz.length=(gV j (kD j.ay fm)).length:=by have d:k=j.Race.aB.length:=B; omega
  refine aN<|KK L<|WS fun _ G=>rP 2 [] (mc 16 U mn) ?_
  refine RK G<|aq ?_
  refine hQ _ _ _ (rn 0 U U<|jV (vs:=[(vS a ((gV j (kD j.ay fm)).length) c)]) ⟨U,trivial⟩ fun w hs=>QC (gz,a,c) [15,14] ?_ ?_ U U (by show List.all _ _=true; simp only [eG,List.all_nil,qA,Bool.and_true]; rfl) hs)
  ·rfl
  ·exact O
 rintro k x R0 p ⟨gz,a,c⟩ l ra rb S t K5 Qr6 o hx AB N H Y Z
 obtain ⟨xa,xc,row,A,rfl,rfl,rfl⟩:=hx
 have D:=AB
 try dsimp only at D
 try dsimp only
 have n:=(aW.1 A).1
 have E:gz.length=(List.take k (gV j (kD j.ay fm))).length:=by rw [List.length_take]; omega
 have R:(List.take (k+1) (gV j (kD j.ay fm))).length=k+1:=by rw [List.length_take]; omega
 refine au<|rP 1 [] mn ?_
 refine aF<|bg (N _ _ ?_)
 refine aH<|au<|rP 2 [] (mc 3 U mn) ?_
 refine ej (xs:=[.tmp 9]) (cs:=[(vS xa row.length xc)]) U Dy SV U U U U (by simp [Value.cells]) U U fun r=>?_
 refine dJ (es2:=(List.zipWith uM (List.take (k+1) (gV j (kD j.ay fm))) (gz++[(xa,xc)]))) (m':=(List.take (k+1) (gV j (kD j.ay fm))).length) 3 rfl rfl rfl Uv rfl rfl (nq E).symm (bw (es:=List.zipWith uM [row] [(xa,xc)]) 0 rfl rfl (by intro e he; simp [uM] at he; subst he; rfl) rfl) (NX _ _) I (by simp only [maxLen]; omega) (by rw [w5 A]; exact GY E.symm) (by exact nq (by rw [R]; simp; omega)) rfl fun b J=>?_
 try dsimp only
 refine QD (Y':=bj Dv (List.take (k+1) (gV j (kD j.ay fm))) (gz++[(xa,xc)])) 2 16 U U (by rw [w5 A]; exact D_ E.symm U) ?_
 refine Wq U Vc U U<|aF<|aN ?_
 exact H ((gz++[(xa,xc)]),b,J) _ _ (by (rw [List.length_append]; simp; omega)) (aQ [2,0,3,4,5,6,7,8,9,10,11,12,13,14,15])
theorem Fi (fm:List (Int×Bool)) (gm:Nat) (j:cN) (kA:OA) (kC:Nat) (az:List RA) (cA:OA) (cC:Nat) (bA:OA) (bC:Nat) (slA:OA) (slC:Nat) (drA:OA) (drC:Nat) (ha:List cW) (heA:OA) (heC:Nat) (faA:OA) (faC:Nat) (prA:OA) (prC g1 g2:Nat) (hin:gG j az ha) (hok:dE j=0):
 pG Tryz.prog 39 [(Value.func (.func 61) [].toArray [(vP g1),(vP g2)].toArray)] [(j1 iV gm (cS vB fm)),(rd kA j.Race.ar.aV.length 9 (j.Race.ar.aV.map ao.cells)),(rd cA j.Race.ar.aj.length 2 (List.zipWith aw.cells j.Race.ar.aj az)),(dR (bj aw.f_ j.Race.ar.aj az)),(rd bA j.Race.ar.ab.length 4 (j.Race.ar.ab.map bJ.cells)),(rd slA j.Race.aY.length 1 (j.Race.aY.map iC)),(rd drA j.Race.ck.length 1 (j.Race.ck.map iC)),(rd heA j.Race.aB.length 1 (List.zipWith cL j.Race.aB ha)),(dR (bj eY j.Race.aB ha)),(rd faA j.ay.length 4 (j.ay.map aM.cells)),(rd prA j.aD.length 5 (j.aD.map aX.cells)),(cu g1 93 (c_.cells (c_.mk (nY j kA kC cA cC bA bC slA slC drA drC heA heC faA faC prA prC)))),(cu g2 45 [(Value.map (some gm))])] (fun (x:(List RA)×(OA)×Nat)=>(vS x.2.1 ((gV j (kD j.ay fm)).length) x.2.2)) (fun (x:(List RA)×(OA)×Nat)=>x.1.length=(gV j (kD j.ay fm)).length) (fun (x:(List RA)×(OA)×Nat)=>[(own x.2.1 x.2.2 29 1 (List.zipWith uM (gV j (kD j.ay fm)) x.1)),(bQ (bj Dv (gV j (kD j.ay fm)) x.1))]):=by
 refine e_ kr Tryz.func39 U U fun AA Q hQ hN=>?_
 try dsimp only
 refine WS fun _ B=>bD 1 U<|RK B<|WS fun _ C=>rP 1 [] mn ?_
 refine cX (LU fm gm j kA kC az cA cC bA bC slA slC drA drC ha heA heC faA faC prA prC g1 g2 hin hok) (bu [0,1,2,3,4,5,6,7,8,9,10,11,12]) U fun H E=>?_
 obtain ⟨A,F,G⟩:=H
 try dsimp only
 have D:=E
 refine rP 1 [] mn ?_
 refine RK C<|aq ?_
 refine LX hQ (A,F,G) [0,1] [] mn U (by show List.all _ _=true; simp only [eG,List.all_nil,qA,Bool.and_true]; rfl) U U ?_
 exact D
end
section
open Go.RowKit
theorem Rp (j:cN) (kA:OA) (kC:Nat) (az:List RA) (cA:OA) (cC:Nat) (bA:OA) (bC:Nat) (slA:OA) (slC:Nat) (drA:OA) (drC:Nat) (ha:List cW) (heA:OA) (heC:Nat) (faA:OA) (faC:Nat) (prA:OA) (prC:Nat) (kq:Int) (hin:gG j az ha):
 pG Tryz.prog 21 [(vA (fz.cells (nY j kA kC cA cC bA bC slA slC drA drC heA heC faA faC prA prC))),(vI kq)] [(rd gS 3 2 fP),(rd kA j.Race.ar.aV.length 9 (j.Race.ar.aV.map ao.cells)),(rd cA j.Race.ar.aj.length 2 (List.zipWith aw.cells j.Race.ar.aj az)),(dR (bj aw.f_ j.Race.ar.aj az)),(rd bA j.Race.ar.ab.length 4 (j.Race.ar.ab.map bJ.cells)),(rd slA j.Race.aY.length 1 (j.Race.aY.map iC)),(rd drA j.Race.ck.length 1 (j.Race.ck.map iC)),(rd heA j.Race.aB.length 1 (List.zipWith cL j.Race.aB ha)),(dR (bj eY j.Race.aB ha)),(rd faA j.ay.length 4 (j.ay.map aM.cells)),(rd prA j.aD.length 5 (j.aD.map aX.cells))] (fun (x:(List RA)×(OA)×Nat)=>(vT [(vS x.2.1 ((kN j kq).length) x.2.2),(vI (BK j kq))])) (fun (x:(List RA)×(OA)×Nat)=>x.1.length=(kN j kq).length) (fun (x:(List RA)×(OA)×Nat)=>[(own x.2.1 x.2.2 29 1 (List.zipWith uM (kN j kq) x.1)),(bQ (bj Dv (kN j kq) x.1))]):=by
 have o:=hin.race
 have g:=hin.race.line
 have r:=hin.race.ij
 have s:=hin.race.has
 have p:=hin.race.ic
 have m:=hin.nf
 have n:=hin.np
 refine e_ kr Tryz.func21 U U fun v Q hQ hN=>?_
 try dsimp only
 refine WS fun _ W=>eI U fun t=>bD 2 U<|RK W<|WS fun _ X=>eQ 1 [] (mc 0 U mn) U<|rS (CL (rM j kA kC az cA cC bA bC slA slC drA drC ha heA heC faA faC prA prC hin) (bu [1,2,3,4,5,6,7,8,9,10,11]) U)<|bD 3 U<|AL U Ez fun u=>fG U DR U<|bD 1 U<|RK X<|ak fun _ Y=>WS fun _ Z=>rP 2 [] mn ?_
 refine RK Z<|cx U (bq fun A=>?_) (br fun A=>?_)
 ·refine WS fun _ a=>?_
  have B:(kN j kq)=[]:=(by exact (F1 A).1)
  have C:([]:List RA).length=(kN j kq).length:=by rw [B]; rfl
  refine jO 29 1<|sS ?_
  rw [show (own none 0 29 1 ([]:List (List Value)))=own none 0 29 1 (List.zipWith uM (kN j kq) []) from by rw [B]; rfl,show bQ []=bQ (bj Dv (kN j kq) []) from by rw [B]; rfl]
  refine bD 1 U<|rP 2 [] mn ?_
  refine RK a<|aq ?_
  refine LX hQ ([],none,0) [1,0] [] mn U (by show List.all _ _=true; simp only [eG,List.all_nil,qA,Bool.and_true]; rfl) U ?_ ?_
  ·(have e:=F1 (k:=kq) A; rw [e.1,e.2]; rfl)
  ·exact C
 refine WK Y<|ak fun _ b=>WS fun _ c=>rP 5 [] (mc 1 U mn) ?_
 refine ej (xs:=[.tmp 20]) (cs:=[(vI kq)]) U dv kj U U U U (by simp [Value.cells]) U U fun S=>?_
 refine rS (CL (dG.eq (im 0 ((j.ay.length:Int)-1) ([kq]) (some ⟨S,0,none⟩) 1 (by (simp; done))) cD) (aK (bw 0 U U (by simp [bL]) U)<|aO) U) ?_
 refine rP 1 [] mn ?_
 refine RK c<|cx U (bq fun V=>?_) (br fun V=>?_)
 ·refine WS fun _ G=>?_
  have B:(kN j kq)=[]:=(by exact (E5 A I).1)
  have C:([]:List RA).length=(kN j kq).length:=by rw [B]; rfl
  refine jO 29 1<|sS ?_
  rw [show (own none 0 29 1 ([]:List (List Value)))=own none 0 29 1 (List.zipWith uM (kN j kq) []) from by rw [B]; rfl,show bQ []=bQ (bj Dv (kN j kq) []) from by rw [B]; rfl]
  refine rP 2 [] mn ?_
  refine RK G<|aq ?_
  refine LX hQ ([],none,0) [1,0] [] mn U (by show List.all _ _=true; simp only [eG,List.all_nil,qA,Bool.and_true]; rfl) U ?_ ?_
  ·(have e:=E5 (k:=kq) A I; rw [e.1,e.2]; rfl)
  ·exact C
 refine WK b<|ak fun _ H=>dA ct [1,10,11,12,13,14] [] [] [0,1,2,3,4,5,6,7,8,9,10,11,12,13] [] U U U U U<|eS U (LW 1 U cj U U)<|eS U (FA 11 U fj U)<|eS U (L1 (vS faA j.ay.length faC) 2 U cj U U)<|eS U (FA 11 U fj U)<|eS U (L1 (vS faA j.ay.length faC) 2 U cj U U)<|eS U (MV U) ?_
 obtain ⟨f,hf⟩:=aL j.ay ((kq).toNat) I
 have d:=bM aM.cells hf
 refine eS U (IA ((kq).toNat) U (aA 12 U) wi dc I I)<|eS U (lx ((kq).toNat) 0 (aM.cells f) U cj (aA 12 U) d U dc U U)<|eS U (CL (xz j.ay faA faC f asm) (bu [12]) U)<|eS U (AG U)<|eh U<|cd U fun T13 AB=>lF (kV:=iV) U U fun D=>?_
 try dsimp only
 refine aF (AB _ _ (aQ [1,2,3,4,5,6,7,8,9,10,11,12,13,14]) ?_)
 refine cd U fun T15 J=>?_
 have O:(ed ([]:List (Int×Bool)) (kH j.ay f) true)=[(kH j.ay f,true)]:=by rfl
 refine vd (kV:=iV) (x:=(kH j.ay f)) (C':=[(j1 iV D (cS vB ([(kH j.ay f,true)]))),_,_,_,_,_,_,_,_,_,_,_,_,_,_]) 0 U U U U HE (ig si) U ((gp _ _ _ _).symm.trans (congrArg _ O)) U<|aF (J _ _ (aQ [1,2,3,4,5,6,7,8,9,10,11,12,13,14]) ?_)
 refine cd U fun T17 K=>rS (MV U)<|aF (K _ _ (aQ [1,2,3,4,5,6,7,8,9,10,11,12,13,14]) ?_)
 refine cd U fun T18 L=>cX (I6 D j kA kC cA cC bA bC slA slC drA drC heA heC faA faC prA prC) (aO) U fun i q=>?_
 obtain ⟨T,E⟩:=i
 try dsimp only
 refine aF (L _ _ (aQ [3,4,5,6,7,8,9,10,11,12,13,14,15,16]) ?_)
 refine cd U fun T23 M=>cX (Fi ([(kH j.ay f,true)]) D j kA kC az cA cC bA bC slA slC drA drC ha heA heC faA faC prA prC T E hin asm) (bu [2,7,8,9,10,11,12,13,14,15,16,0,1]) U fun l P=>?_
 obtain ⟨F,R,AA⟩:=l
 try dsimp only
 have C:=P
 refine aF (M _ _ (aQ [5,6,7,8,9,10,11,12,13,14,15,16,17,18]) ?_)
 refine cd U fun T29 N=>?_
 have h:(gV j (kD j.ay ([(kH j.ay f,true)])))=(kN j kq):=by exact (IY A I hf).1.symm
 rw [h] at C ⊢
 refine rS (AG U)<|aF (N _ _ (aQ [5,6,7,8,9,10,11,12,13,14,15,16,17,18]) ?_)
 refine fp U<|KK H<|aq ?_
 refine LX hQ (F,R,AA) [0,1] [] mn U (by show List.all _ _=true; simp only [eG,List.all_nil,qA,Bool.and_true]; rfl) U ?_ ?_
 ·(rw [(IY A I hf).2]; rfl)
 ·exact C
end
section
open Go.RowKit
theorem jc (n lo hi:Int):
 dG Tryz.prog 137 [(vI n),(vI lo),(vI hi)] [] (vB (decide (lo≤n∧n≤hi))):=by
 refine bG kr Tryz.func137 U U fun D Q hQ hN=>?_
 try dsimp only
 refine WS fun _ B=>bD 1 U<|RK B<|WS fun _ A=>rP 4 [] mn ?_
 refine b_ (t:=10) U (aU fun C=>?_) (aT fun C=>?_)
 ·refine rP 5 [] mn ?_
  refine RK A<|aq<|Q1 hQ U U U ?_
  exact cB (gR.2 I)
 refine rP 5 [] mn ?_
 refine RK A<|aq<|Q1 hQ U U U ?_
 exact cB (bE I).symm
theorem BY (ts:List ao) (tsA:OA) (tsC:Nat) (hst: ∀ x∈ts,bV x) (hlen:ts.length≤12):
 pG Tryz.prog 160 [(vA (bO.cells (bO.mk (bH.mk tsA ts.length tsC))))] [(rd tsA ts.length 9 (ts.map ao.cells))] (fun (x:(OA)×Nat)=>(vS x.1 ((il ts (ts.length+1)).length) x.2)) (fun (x:(OA)×Nat)=>True) (fun (x:(OA)×Nat)=>[(own x.1 x.2 53 2 ((il ts (ts.length+1)).map ag.cells))]):=by
 refine e_ kr Tryz.func160 U U fun V Q hQ hN=>?_
 try dsimp only
 refine WS fun _ J=>eI U fun AA=>bD 1 U<|RK J<|WS fun _ K=>bD 1 U<|RK K<|ak fun _ L=>WS fun _ M=>rP 1 [] mn ?_
 refine RK M<|aH<|eM 53 2 ?_
 have A:(0≤ts.length+1):=by exact Nat.zero_le _
 refine bY (ι:={z:Nat×(OA)×Nat // (z.1≤ts.length+1)}) [1] [1,2] U U (fun z=>[(3,(vS z.1.2.1 ((il ts z.1.1).length) z.1.2.2)),(4,(vI (z.1.1:Int)))]) (fun z=>[(own z.1.2.1 z.1.2.2 53 2 ((il ts z.1.1).map ag.cells))]) (fun _=>rfl) (fun _=>rfl) (fun z=>ts.length+1-z.1.1) ⟨(0,none,0),A⟩ (bB U) (aQ [1,2,0]) ?_
 clear A
 rintro ⟨⟨i,a,c⟩,B⟩ J6 AC
 try dsimp only at B
 try dsimp only
 refine ak fun _ N=>WS fun _ O=>rP 5 [] (mc 0 U mn) ?_
 refine RK O<|bW U (aT fun T=>?_) (aU fun T=>?_)
 ·refine bP<|ai<|ai<|aJ<|KK L<|WS fun _ E=>?_
  obtain rfl:i=ts.length+1:=by omega
  refine rP 2 [] mn ?_
  refine RK E<|aq<|LX hQ (a,c) [2] [] mn U U U U ?_
  trivial
 refine WK N<|ak fun _ C=>aH<|WS fun _ D=>eQ 2 [] (mc 0 U mn) U<|rS (CL (AB ts tsA tsC 0 (i:Int) hst hlen I) (bu [1]) U)<|bD 3 U<|AL U dV fun P=>AL U dV fun R=>qO U cZ U<|fG U cZ U<|RK D<|au<|rP 2 [] (mc 1 U mn) ?_
 refine ej (xs:=[.tmp 21]) (cs:=(ag.cells (eE ts (0:Int).toNat ((i:Int)-0).toNat))) U lq dV U U U U (by simp [Value.cells,ag.aZ]) U U fun S=>?_
 refine dJ (es2:=(List.map ag.cells (il ts (i+1)))) (m':=(il ts (i+1)).length) 5 U U U FE U U sm (bw (es:=List.map ag.cells [(eE ts (0:Int).toNat ((i:Int)-0).toNat)]) 0 U U (by simp [ag.aZ]) U) (kU _) (by simp only [oV]; omega) (by simp only [maxLen,oV]; omega) (by rw [AS]; simp) sm U fun G H=>?_
 try dsimp only
 refine bD 1 U<|aF<|aN<|KK C<|au<|rP 3 [] mn ?_
 refine aF ?_
 have F:(vI (((i+1):Nat):Int))=(vI ((i:Int)+1)):=by exact cI I
 refine bg (AC ⟨((i+1),G,H),(by first|omega|(simp only []; omega))⟩ _ _ _ U os (dh.cons U<|dh.cons U<|bf U F<|dh.nil _) (aQ [3,4,5]))
theorem RM (ts:List ao) (tsA:OA) (tsC:Nat) (s:cH) (hlen:ts.length≤1000000) (hside: ∀ x∈ts,0≤x.jg∧x.jg≤255):
 dG Tryz.prog 153 [(vA (bO.cells (bO.mk (bH.mk tsA ts.length tsC)))),(vA (cH.cells s))] [(rd tsA ts.length 9 (ts.map ao.cells))] (vT [(vA (ag.cells (Qh ts s))),(vI (Fy ts s))]):=by
 refine bG kr Tryz.func153 U U fun r Q hQ hN=>?_
 try dsimp only
 refine WS fun _ R=>eI U fun i=>eI U fun k=>AL U dV fun l=>bD 1 U<|RK R<|ak fun _ S=>WS fun _ T=>eQ 1 [] (mc 2 U mn) U<|rS (CL (wL ts tsA tsC hlen) (bu [3]) U)<|rP 1 [] mn ?_
 refine RK T<|cx U (fun AB=>?_) (fun AB=>?_)
 ·rw [Bool.not_eq_true'] at AB
  refine WS fun _ AA=>rS (SX (bp (xs:=[]) (cs:=(ag.cells (ag.mk 0 0))) U U (bo gX U)) U U)<|fG U cZ U<|rP 1 [] mn ?_
  refine RK AA<|aq<|mV hQ [0] (mc 0 U mn) U ?_
  (have e:=I4 (s:=s) (by simpa using AB); rw [e.1,e.2]<;>rfl)
 rw [Bool.not_eq_false'] at AB
 refine WK S<|ak fun _ V=>WS fun _ W=>?_
 have M:=ke AB
 have Z:=k7 AB
 refine eQ 2 [0,1] (mc 2 U (mc 1 U mn)) U<|rS (CL (rR ts tsA tsC s asm asm) (bu [3]) U)<|rP 1 [] mn ?_
 refine RK W<|cx U (bq fun D=>?_) (br fun D=>?_)
 ·refine WS fun _ O=>rS (SX (bp (xs:=[]) (cs:=(ag.cells (ag.mk 0 0))) U U (bo gX U)) U U)<|fG U cZ U<|rP 1 [] mn ?_
  refine RK O<|aq<|mV hQ [0] (mc 0 U mn) U ?_
  (have e:=Kg AB D; rw [e.1,e.2]<;>rfl)
 refine WK V<|ak fun _ H=>mA ct [0,2,3] [1,4,5,6,7] [false,false,false] [] [(cu l 53 (ag.cells (ag.mk 0 0))),(cu k 120 (cH.cells s)),(cu i 24 (bO.cells (bO.mk (bH.mk tsA ts.length tsC)))),(rd tsA ts.length 9 (ts.map ao.cells)).ro] [] kr (aQ [0,1,2,3]) (aQ []) ?_
 have q:=D.1
 have N:=qS M D
 have p:(il ts (ts.length+1)).length=ts.length+1:=oV
 refine eS U (LW 2 U cj U U)<|eS U (FA 0 U fj U)<|eS U (L1 (vI s.bx) 1 U cj U U)<|eh U<|mU [1,6] kr (iI ?_<|iI ?_<|qt)
 rotate_left 1
 ·refine NO U U [1,4,5,7] fun T12 J=>AL U dV fun f=>RD J 1 U<|N1 1<|NO U U [4,5,7] fun T14 P=>cX (BY ts tsA tsC asm asm) (bu [4]) U fun Y b=>?_
  obtain ⟨d,o⟩:=Y
  try dsimp only
  refine RD P 2 U<|N1 4<|NO U U [5,7] fun T19 E=>?_
  obtain ⟨z,hz⟩:=aL (il ts (ts.length+1)) ((s.bx).toNat) I
  have A:=bM ag.cells hz
  refine rS (IA ((s.bx).toNat) U (aC (n:=(il ts (ts.length+1)).length) 0 U sm) lq dc I I)<|RD E 2 U<|N1 5<|NO U U [7] fun T20 F=>rS (lx ((s.bx).toNat) 0 (ag.cells z) U cj (aC (n:=(il ts (ts.length+1)).length) 0 U sm) A U dc U U)<|RD F 2 U<|N1 7<|NO U U [] fun T21 C=>qO U cZ U<|RD C 2 U<|lX<|KK H<|WS fun _ B=>rP 1 [] mn ?_
  have A:=pW hz
  have G:=mC M 0 s.bx.toNat
  unfold lV at N
  rw [← A] at G
  refine eQ 11 [0,1,0,1] (mc 1 U (mc 3 U mn)) U<|rS (SX (bp (xs:=[(0,.tmp 27),(1,.tmp 33)]) (cs:=(ag.cells (ag.mk (z.Lo+s.mS.Lo) (z.Hi+s.mS.Hi)))) U U (bo gX U)) U U)<|Ha U cZ U<|rP 1 [] mn ?_
  refine RK B<|aq<|mV hQ [0] (mc 2 U mn) U ?_
  (have e:=xW AB D; subst A; rw [e.1,e.2]<;>rfl)
 refine NO U U [4,5,6,7] fun T12 J=>cX (BY ts tsA tsC asm asm) (bu [3]) U fun X a=>?_
 obtain ⟨c,m⟩:=X
 try dsimp only
 refine RD J 1 U<|mU [4,6] kr (iI ?_<|iI ?_<|qt)
 rotate_left 1
 ·refine NO U U [4,5,7] fun T17 K=>AL U dV fun g=>RD K 2 U<|N1 4<|NO U U [5,7] fun T19 E=>?_
  obtain ⟨z,hz⟩:=aL (il ts (ts.length+1)) ((s.bx).toNat) I
  have A:=bM ag.cells hz
  refine rS (IA ((s.bx).toNat) U (aC (n:=(il ts (ts.length+1)).length) 1 U sm) lq dc I I)<|RD E 2 U<|N1 5<|NO U U [7] fun T20 F=>rS (lx ((s.bx).toNat) 0 (ag.cells z) U cj (aC (n:=(il ts (ts.length+1)).length) 1 U sm) A U dc U U)<|RD F 2 U<|N1 7<|NO U U [] fun T21 C=>fG U cZ U<|RD C 2 U<|lX<|KK H<|WS fun _ B=>rP 1 [] mn ?_
  have A:=pW hz
  have G:=mC M 0 s.bx.toNat
  unfold lV at N
  rw [← A] at G
  refine eQ 11 [0,1,0,1] (mc 0 U (mc 3 U mn)) U<|rS (SX (bp (xs:=[(0,.tmp 27),(1,.tmp 33)]) (cs:=(ag.cells (ag.mk (z.Lo+s.mS.Lo) (z.Hi+s.mS.Hi)))) U U (bo gX U)) U U)<|Ha U cZ U<|rP 1 [] mn ?_
  refine RK B<|aq<|mV hQ [0] (mc 2 U mn) U ?_
  (have e:=xW AB D; subst A; rw [e.1,e.2]<;>rfl)
 refine NO U U [5,6,7] fun T17 K=>?_
 obtain ⟨z,hz⟩:=aL (il ts (ts.length+1)) ((s.bx).toNat) I
 have A:=bM ag.cells hz
 refine rS (IA ((s.bx).toNat) U (aC (n:=(il ts (ts.length+1)).length) 0 U sm) lq dc I I)<|RD K 1 U<|mU [5,6] kr (iI ?_<|iI ?_<|qt)
 rotate_left 1
 ·refine NO U U [5,7] fun T18 L=>AL U dV fun h=>RD L 2 U<|N1 5<|NO U U [7] fun T20 F=>rS (lx ((s.bx).toNat) 0 (ag.cells z) U cj (aC (n:=(il ts (ts.length+1)).length) 1 U sm) A U dc U U)<|RD F 2 U<|N1 7<|NO U U [] fun T21 C=>fG U cZ U<|RD C 2 U<|lX<|KK H<|WS fun _ B=>rP 1 [] mn ?_
  have A:=pW hz
  have G:=mC M 0 s.bx.toNat
  unfold lV at N
  rw [← A] at G
  refine eQ 11 [0,1,0,1] (mc 0 U (mc 3 U mn)) U<|rS (SX (bp (xs:=[(0,.tmp 27),(1,.tmp 33)]) (cs:=(ag.cells (ag.mk (z.Lo+s.mS.Lo) (z.Hi+s.mS.Hi)))) U U (bo gX U)) U U)<|Ha U cZ U<|rP 1 [] mn ?_
  refine RK B<|aq<|mV hQ [0] (mc 2 U mn) U ?_
  (have e:=xW AB D; subst A; rw [e.1,e.2]<;>rfl)
 refine NO U U [6,7] fun T18 L=>rS (lx ((s.bx).toNat) 0 (ag.cells z) U cj (aC (n:=(il ts (ts.length+1)).length) 0 U sm) A U dc U U)<|RD L 1 U<|N1 6<|NO U U [7] fun T19 E=>AL U dV fun j=>RD E 2 U<|N1 7<|NO U U [] fun T21 C=>fG U cZ U<|RD C 2 U<|lX<|KK H<|WS fun _ B=>rP 1 [] mn ?_
 have A:=pW hz
 have G:=mC M 0 s.bx.toNat
 unfold lV at N
 rw [← A] at G
 refine eQ 11 [0,1,0,1] (mc 0 U (mc 3 U mn)) U<|rS (SX (bp (xs:=[(0,.tmp 27),(1,.tmp 33)]) (cs:=(ag.cells (ag.mk (z.Lo+s.mS.Lo) (z.Hi+s.mS.Hi)))) U U (bo gX U)) U U)<|Ha U cZ U<|rP 1 [] mn ?_
 refine RK B<|aq<|mV hQ [0] (mc 2 U mn) U ?_
 (have e:=xW AB D; subst A; rw [e.1,e.2]<;>rfl)
theorem Gx (ts:List ao) (tsA:OA) (tsC:Nat) (p:cH) (q:cH) (hlen:ts.length≤1000000) (hside: ∀ x∈ts,0≤x.jg∧x.jg≤255) (hord: ¬ q.bx<p.bx):
 dG Tryz.prog 154 [(vA (bO.cells (bO.mk (bH.mk tsA ts.length tsC)))),(vA (cH.cells p)),(vA (cH.cells q))] [(rd tsA ts.length 9 (ts.map ao.cells))] (vT [(vA (ag.cells (lf ts p q))),(vI (mw ts p q))]):=by
 refine bG kr Tryz.func154 U U fun k Q hQ hN=>?_
 try dsimp only
 refine WS fun _ N=>eI U fun f=>eI U fun g=>eI U fun i=>AL U dV fun j=>bD 1 U<|RK N<|ak fun _ O=>WS fun _ P=>eQ 1 [] (mc 3 U mn) U<|rS (CL (wL ts tsA tsC hlen) (bu [4]) U)<|rP 1 [] mn ?_
 refine RK P<|cx U (fun A=>?_) (fun A=>?_)
 ·rw [Bool.not_eq_true'] at A
  refine WS fun _ R=>rS (SX (bp (xs:=[]) (cs:=(ag.cells (ag.mk 0 0))) U U (bo gX U)) U U)<|fG U cZ U<|rP 1 [] mn ?_
  refine RK R<|aq<|mV hQ [0] (mc 0 U mn) U ?_
  (have e:=u3 (a:=p) (b:=q) (by simpa using A); rw [e.1,e.2]<;>rfl)
 rw [Bool.not_eq_false'] at A
 refine WK O<|ak fun _ S=>WS fun _ E=>?_
 have D:=ke A
 have M:=k7 A
 refine eQ 2 [0,1] (mc 3 U (mc 2 U mn)) U<|rS (CL (rR ts tsA tsC p asm asm) (bu [4]) U)<|rP 2 [] mn ?_
 refine b_ (t:=20) U (bq fun B=>?_) (br fun B=>?_)
 ·refine bD 5 U<|RK E<|aS U<|WS fun _ G=>rS (SX (bp (xs:=[]) (cs:=(ag.cells (ag.mk 0 0))) U U (bo gX U)) U U)<|fG U cZ U<|rP 1 [] mn ?_
  refine RK G<|aq<|mV hQ [0] (mc 0 U mn) U ?_
  (have e:=o8 (a:=p) (b:=q) A (fun h=>by first|exact B h.1|exact C h.2); rw [e.1,e.2]<;>rfl)
 refine eQ 2 [0,1] (mc 3 U (mc 1 U mn)) U<|rS (CL (rR ts tsA tsC q asm asm) (bu [4]) U)<|rP 2 [] mn ?_
 refine RK E<|cx U (bq fun C=>?_) (br fun C=>?_)
 ·refine WS fun _ H=>rS (SX (bp (xs:=[]) (cs:=(ag.cells (ag.mk 0 0))) U U (bo gX U)) U U)<|fG U cZ U<|rP 1 [] mn ?_
  refine RK H<|aq<|mV hQ [0] (mc 0 U mn) U ?_
  (have e:=o8 (a:=p) (b:=q) A (fun h=>by first|exact B h.1|exact C h.2); rw [e.1,e.2]<;>rfl)
 refine WK S<|ak fun _ AC=>WS fun _ J=>?_
 have AA:fH ts p∧fH ts q:=⟨B,C⟩
 have T:=qS D B
 have V:=qS D C
 have c:=B.1
 have d:=C.1
 have Y:=wR D M C B
 unfold lV at T V
 refine rP 5 [0,1] (mc 1 U (mc 2 U mn)) ?_
 refine RK J<|cx U (aU fun F=>?_) (aT fun F=>?_)
 ·exfalso; omega
 refine WK AC<|WS fun _ K=>rP 2 [] (mc 3 U mn) ?_
 have Z:=mC D p.bx.toNat (q.bx-p.bx).toNat
 refine eQ 3 [0,1] (mc 2 U (mc 1 U mn)) U<|rS (CL (AB ts tsA tsC p.bx q.bx asm asm I) (bu [4]) U)<|bD 3 U<|AL U dV fun W=>AL U dV fun X=>qO U cZ U<|fG U cZ U<|RK K<|WS fun _ L=>eQ 20 [0,1,2,0,1,2] (mc 1 U (mc 3 U (mc 4 U mn))) U<|rS (SX (bp (xs:=[(0,.tmp 64),(1,.tmp 74)]) (cs:=(ag.cells (ag.mk ((((eE ts p.bx.toNat (q.bx-p.bx).toNat).Lo)+q.mS.Lo)-p.mS.Hi) ((((eE ts p.bx.toNat (q.bx-p.bx).toNat).Hi)+q.mS.Hi)-p.mS.Lo)))) U U (bo gX U)) U U)<|Ha U cZ U<|rP 1 [] mn ?_
 refine RK L<|aq<|mV hQ [0] (mc 2 U mn) U ?_
 (have e:=lP A AA; rw [e.1,e.2,q7 F]<;>rfl)
theorem K7 (ts:List ao) (tsA:OA) (tsC:Nat) (p:cH) (q:cH) (hlen:ts.length≤1000000) (hside: ∀ x∈ts,0≤x.jg∧x.jg≤255):
 dG Tryz.prog 154 [(vA (bO.cells (bO.mk (bH.mk tsA ts.length tsC)))),(vA (cH.cells p)),(vA (cH.cells q))] [(rd tsA ts.length 9 (ts.map ao.cells))] (vT [(vA (ag.cells (lf ts p q))),(vI (mw ts p q))]):=by
 refine bG kr Tryz.func154 U U fun u Q hQ hN=>?_
 try dsimp only
 refine WS fun _ S=>eI U fun n=>eI U fun o=>eI U fun r=>AL U dV fun s=>bD 1 U<|RK S<|ak fun _ T=>WS fun _ AA=>eQ 1 [] (mc 3 U mn) U<|rS (CL (wL ts tsA tsC hlen) (bu [4]) U)<|rP 1 [] mn ?_
 refine RK AA<|cx U (fun A=>?_) (fun A=>?_)
 ·rw [Bool.not_eq_true'] at A
  refine WS fun _ V=>rS (SX (bp (xs:=[]) (cs:=(ag.cells (ag.mk 0 0))) U U (bo gX U)) U U)<|fG U cZ U<|rP 1 [] mn ?_
  refine RK V<|aq<|mV hQ [0] (mc 0 U mn) U ?_
  (have e:=u3 (a:=p) (b:=q) (by simpa using A); rw [e.1,e.2]<;>rfl)
 rw [Bool.not_eq_false'] at A
 refine WK T<|ak fun _ W=>WS fun _ E=>?_
 have D:=ke A
 have P:=k7 A
 refine eQ 2 [0,1] (mc 3 U (mc 2 U mn)) U<|rS (CL (rR ts tsA tsC p asm asm) (bu [4]) U)<|rP 2 [] mn ?_
 refine b_ (t:=20) U (bq fun B=>?_) (br fun B=>?_)
 ·refine bD 5 U<|RK E<|aS U<|WS fun _ G=>rS (SX (bp (xs:=[]) (cs:=(ag.cells (ag.mk 0 0))) U U (bo gX U)) U U)<|fG U cZ U<|rP 1 [] mn ?_
  refine RK G<|aq<|mV hQ [0] (mc 0 U mn) U ?_
  (have e:=o8 (a:=p) (b:=q) A (fun h=>by first|exact B h.1|exact C h.2); rw [e.1,e.2]<;>rfl)
 refine eQ 2 [0,1] (mc 3 U (mc 1 U mn)) U<|rS (CL (rR ts tsA tsC q asm asm) (bu [4]) U)<|rP 2 [] mn ?_
 refine RK E<|cx U (bq fun C=>?_) (br fun C=>?_)
 ·refine WS fun _ H=>rS (SX (bp (xs:=[]) (cs:=(ag.cells (ag.mk 0 0))) U U (bo gX U)) U U)<|fG U cZ U<|rP 1 [] mn ?_
  refine RK H<|aq<|mV hQ [0] (mc 0 U mn) U ?_
  (have e:=o8 (a:=p) (b:=q) A (fun h=>by first|exact B h.1|exact C h.2); rw [e.1,e.2]<;>rfl)
 refine WK W<|ak fun _ AC=>WS fun _ J=>?_
 have R:fH ts p∧fH ts q:=⟨B,C⟩
 have X:=qS D B
 have Y:=qS D C
 have l:=B.1
 have m:=C.1
 have j:=wR D P C B
 unfold lV at X Y
 refine rP 5 [0,1] (mc 1 U (mc 2 U mn)) ?_
 refine RK J<|cx U (aU fun F=>?_) (aT fun F=>?_)
 ·refine WS fun _ K=>eQ 3 [0,1,2] (mc 3 U (mc 1 U (mc 2 U mn))) U<|rS (CL (Gx ts tsA tsC q p hlen hside I) (bu [4]) U)<|bD 3 U<|AL U dV fun d=>fG U cZ U<|bD 1 U<|RK K<|WS fun _ L=>rP 2 [] (mc 0 U mn) ?_
  have O:lf ts q p=j3 ts q p:=(lP A ⟨C,B⟩).2
  have Z: -400000≤(lf ts q p).Lo∧(lf ts q p).Hi≤400000:=by rw [O]; omega
  have c:(lf ts q p).Lo≤(lf ts q p).Hi:=by rw [O]; omega
  refine rS (NG U ⟨I,I⟩)<|eQ 2 [] (mc 0 U mn) U<|rS (NG U ⟨I,I⟩)<|rS (SX (bp (xs:=[(0,.tmp 41),(1,.tmp 44)]) (cs:=(ag.cells (ag.mk (-((lf ts q p).Hi)) (-((lf ts q p).Lo))))) U U (bo gX U)) U U)<|qO U cZ U<|rP 1 [] mn ?_
  refine RK L<|aq<|mV hQ [0] (mc 1 U mn) U ?_
  (have e:=lP A R; have i:=lP A ⟨C,B⟩; rw [e.1,e.2,i.2,Eo F]<;>rfl)
 refine WK AC<|WS fun _ M=>rP 2 [] (mc 3 U mn) ?_
 have k:=mC D p.bx.toNat (q.bx-p.bx).toNat
 refine eQ 3 [0,1] (mc 2 U (mc 1 U mn)) U<|rS (CL (AB ts tsA tsC p.bx q.bx asm asm I) (bu [4]) U)<|bD 3 U<|AL U dV fun f=>AL U dV fun g=>qO U cZ U<|fG U cZ U<|RK M<|WS fun _ N=>eQ 20 [0,1,2,0,1,2] (mc 1 U (mc 3 U (mc 4 U mn))) U<|rS (SX (bp (xs:=[(0,.tmp 64),(1,.tmp 74)]) (cs:=(ag.cells (ag.mk ((((eE ts p.bx.toNat (q.bx-p.bx).toNat).Lo)+q.mS.Lo)-p.mS.Hi) ((((eE ts p.bx.toNat (q.bx-p.bx).toNat).Hi)+q.mS.Hi)-p.mS.Lo)))) U U (bo gX U)) U U)<|Ha U cZ U<|rP 1 [] mn ?_
 refine RK N<|aq<|mV hQ [0] (mc 2 U mn) U ?_
 (have e:=lP A R; rw [e.1,e.2,q7 F]<;>rfl)
end
section
open Go.RowKit
theorem K1 (l:bk) (kA:OA) (kC:Nat) (az:List RA) (cA:OA) (cC:Nat) (bA:OA) (bC:Nat) (hraw:uk l az):
 dG Tryz.prog 75 [(vA (cv.cells (jN l kA kC cA cC bA bC)))] [(rd kA l.aV.length 9 (l.aV.map ao.cells)),(rd cA l.aj.length 2 (List.zipWith aw.cells l.aj az)),(dR (bj aw.f_ l.aj az)),(rd bA l.ab.length 4 (l.ab.map bJ.cells))] (vB (decide (l9 l))):=by
 have e:=hraw.sJ
 have d:=hraw.sL
 have a:=hraw.og
 have b:=hraw.sH
 refine bG kr Tryz.func75 U U fun g Q hQ hN=>?_
 try dsimp only
 refine WS fun _ O=>eI U fun f=>bD 1 U<|RK O<|ak fun _ P=>WS fun _ D=>bD 1 U<|rS (LP (bO.cells (bO.mk (bH.mk kA l.aV.length kC))) 0 U cj U U U)<|rS (CL (Mf l.aV kA kC) (bu [1]) U)<|rP 1 [] mn ?_
 refine b_ (t:=7) U (aU fun Z=>?_) (aT fun Z=>?_)
 ·refine bD 11 U<|RK D<|aS U<|WS fun _ R=>rP 1 [] mn ?_
  refine RK R<|aq<|Q1 hQ U U U ?_
  exact cB (dx (.inl I)).symm
 refine rP 6 [] (mc 0 U mn) ?_
 refine b_ (t:=13) U (aU fun C=>?_) (aT fun C=>?_)
 ·refine bD 5 U<|RK D<|aS U<|WS fun _ S=>rP 1 [] mn ?_
  refine RK S<|aq<|Q1 hQ U U U ?_
  exact cB (dx (.inl I)).symm
 refine rP 5 [] (mc 0 U mn) ?_
 refine RK D<|cx U (aU fun N=>?_) (aT fun N=>?_)
 ·refine WS fun _ T=>rP 1 [] mn ?_
  refine RK T<|aq<|Q1 hQ U U U ?_
  exact cB (dx (.inl I)).symm
 refine WK P<|ak fun _ AA=>WS fun _ V=>rP 1 [] mn ?_
 refine RK V<|aH ?_
 have A:(0≤l.aj.length)∧(Aj l 0):=by exact ⟨Nat.zero_le _,fun j c hj=>absurd hj (Nat.not_lt_zero _)⟩
 refine bY (ι:={z:Nat // (z≤l.aj.length)∧(Aj l z)}) [1] [0,1,2,3,4] U U (fun z=>[(3,(vI (z.1:Int)))]) (fun z=>[]) (fun _=>rfl) (fun _=>rfl) (fun z=>l.aj.length-z.1) ⟨0,A⟩ (bB U) (aQ [0,1,2,3,4]) ?_
 clear A
 rintro ⟨i,⟨W,B⟩⟩ J10 F
 try dsimp only
 refine ak fun _ G=>WS fun _ H=>rP 5 [] (mc 0 U mn) ?_
 refine RK H<|bW U (aT fun C=>?_) (aU fun C=>?_)
 ·refine bP<|ai<|ai<|aJ<|KK AA<|WS fun _ L=>rP 1 [] mn ?_
  refine RK L<|aq<|Q1 hQ U U U ?_
  exact cB (bE (Ie I I B)).symm
 refine WK G<|ak fun _ AB=>aH<|WS fun _ J=>rP 3 [] (mc 0 U mn) ?_
 obtain ⟨x,hx⟩:=aL l.aj i I
 obtain ⟨xa,X⟩:=aL az i I
 have Y:(List.zipWith aw.cells l.aj az)[i]? =some (aw.cells x xa):=dy hx X
 refine rS (IA i U (aA 2 U) Az dc I I)<|rS (o9 ((i*2)+1) U (aA 2 U) (Nat.mul_pos I dc) fj U)<|rS (g6 i 1 (vS xa.1 x.bI.length xa.2) U cj (aA 2 U) Y U dc U)<|rP 2 [] mn ?_
 refine RK J<|cx U (aU fun E=>?_) (aT fun E=>?_)
 ·refine WS fun _ K=>rP 1 [] mn ?_
  refine RK K<|aq<|Q1 hQ U U U ?_
  exact cB (dx (IF hx E)).symm
 refine cf<|aN<|KK AB<|au<|rP 3 [] mn ?_
 refine aF ?_
 have M:(vI (((i+1):Nat):Int))=(vI ((i:Int)+1)):=by exact cI I
 refine bg (F ⟨(i+1),⟨I,mo B hx I⟩⟩ _ _ _ U os (dh.cons U<|bf U M<|dh.nil _) (aQ [0,1,2,3,4]))
theorem wV (d m:Int) (hd:0≤d∧d≤1000) (hm:0≤m∧m≤90000000):
 dG Tryz.prog 152 [(vI d),(vI m)] [] (vI (oZ (d*m) 1000000)):=by
 have J:=Pb (a:=d) (b:=m) (A:=1000) (B:=90000000) hd.1 hd.2 hm.1 hm.2
 refine bG kr Tryz.func152 U U fun K Q hQ hN=>?_
 try dsimp only
 refine WS fun _ C=>bD 1 U<|RK C<|WS fun _ D=>bD 2 U<|rS (BI U (uB ⟨I,I⟩))<|bD 1 U<|RK D<|ak fun _ E=>WS fun _ F=>bD 1 U<|rS (BI U (Fx I I))<|rP 1 [] mn ?_
 refine RK F<|cx U (aU fun AA=>?_) (aT fun AA=>?_)
 ·refine WS fun _ G=>bD 1 U<|rS (BI U (ue I I I))<|rP 2 [] mn ?_
  refine RK G<|aq<|Q1 hQ U U U ?_
  exact cI (by unfold oZ; omega)
 refine WK E<|WS fun _ H=>bD 1 U<|rS (BI U (ue I I I))<|rP 1 [] mn ?_
 refine RK H<|aq<|Q1 hQ U U U ?_
 exact cI (by unfold oZ; omega)
theorem Ip (c:aw) (sA:OA) (sC:Nat) (hlen:c.bI.length≤1000000):
 dG Tryz.prog 138 [(vA (dq.cells (dq.mk c.dC (bH.mk sA c.bI.length sC))))] [(rd sA c.bI.length 3 (c.bI.map cQ.cells))] (vB (decide (e8 c))):=by
 refine bG kr Tryz.func138 U U fun w0 Q hQ hN=>?_
 try dsimp only
 refine WS fun _ Di=>eI U fun b2=>bD 1 U<|RK Di<|ak fun _ Do=>WS fun _ A5=>eQ 2 [] (mc 0 U mn) U<|rS (CL (jc c.dC 0 1000) (aO) U)<|rP 2 [] mn ?_
 refine b_ (t:=14) U (bq fun Ck=>?_) (br fun Ck=>?_)
 ·refine bD 6 U<|RK A5<|aS U<|WS fun _ EQ=>rP 1 [] mn ?_
  refine RK EQ<|aq<|Q1 hQ U U U ?_
  exact cB (bE fun h=>by have q1:=h.sN; have q2:=h.len; omega).symm
 refine eQ 3 [] (mc 0 U mn) U<|rS (CL (jc (c.bI.length:Int) 1 5) (aO) U)<|rP 2 [] mn ?_
 refine RK A5<|cx U (bq fun Cp=>?_) (br fun Cp=>?_)
 ·refine WS fun _ Eq=>rP 1 [] mn ?_
  refine RK Eq<|aq<|Q1 hQ U U U ?_
  exact cB (bE fun h=>by have q1:=h.sN; have q2:=h.len; omega).symm
 refine WK Do<|ak fun _ FS=>WS fun _ FV=>rP 1 [] mn ?_
 refine RK FV<|aH ?_
 have A:(0≤c.bI.length)∧(∀ (j:Nat) y,j<0→c.bI[j]? =some y→fJ c j y):=by exact ⟨Nat.zero_le _,fun j y hj=>absurd hj (Nat.not_lt_zero _)⟩
 refine bY (ι:={z:Nat // (z≤c.bI.length)∧(∀ (j:Nat) y,j<z→c.bI[j]? =some y→fJ c j y)}) [1] [0,1] U U (fun z=>[(3,(vI (z.1:Int)))]) (fun z=>[]) (fun _=>rfl) (fun _=>rfl) (fun z=>c.bI.length-z.1) ⟨0,A⟩ (bB U) (aQ [0,1]) ?_
 clear A
 rintro ⟨i,⟨a,C⟩⟩ J9 f
 try dsimp only
 have Hh:=Kh a C
 refine ak fun _ g=>WS fun _ l=>rP 5 [] (mc 0 U mn) ?_
 refine RK l<|cx U (aU fun Cx=>?_) (aT fun Cx=>?_)
 ·refine WK g<|ak fun _ AA=>aH<|WS fun _ n=>rP 3 [] (mc 0 U mn) ?_
  obtain ⟨x,hx⟩:=aL c.bI i I
  have b:=bM cQ.cells hx
  refine rS (IA i U (aA 1 U) wX dc I I)<|rS (lx i 0 (cQ.cells x) U cj (aA 1 U) b U dc U U)<|AL U yC fun GT=>fG U z5 U<|RK n<|ak fun _ B=>dp ct 41 kr<|lU 2 [] (mc 0 U mn) U<|dS (CL (jc x.At 0 86400000) (aO) U)<|dP 2 [] mn ?_
  refine g_ (t:=37) U (bq fun C0=>?_) (br fun C0=>?_)
  ·refine kX 36 U<|cK<|RK B<|aS U<|WS fun _ p=>rP 1 [] mn ?_
   refine RK p<|aq<|Q1 hQ U U U ?_
   exact cB (bE fun h=>by have q:=h.sync i x hx; unfold fJ at q; (rw [gQ I] at q; omega)).symm
  refine dP 3 [] mn ?_
  refine jy (t:=40) U (aT fun C1=>?_) (aU fun C1=>?_)
  ·refine dP 19 [] (mc 0 U mn) ?_
   refine g_ (t:=59) U (aU fun X=>?_) (aT fun X=>?_)
   ·refine kX 14 U<|cK<|RK B<|aS U<|WS fun _ w=>rP 1 [] mn ?_
    refine RK w<|aq<|Q1 hQ U U U ?_
    exact cB (bE fun h=>by have q:=h.sync i x hx; unfold fJ at q; (rw [gQ I] at q; omega)).symm
   refine dP 9 [] (mc 0 U mn) ?_
   refine g_ (t:=68) U (aU fun Y=>?_) (aT fun Y=>?_)
   ·refine kX 5 U<|cK<|RK B<|aS U<|WS fun _ AC=>rP 1 [] mn ?_
    refine RK AC<|aq<|Q1 hQ U U U ?_
    exact cB (bE fun h=>by have q:=h.sync i x hx; unfold fJ at q; (rw [gQ I] at q; omega)).symm
   refine dP 5 [] (mc 0 U mn) ?_
   refine cK<|RK B<|bW U (aT fun Z=>?_) (aU fun Z=>?_)
   ·refine cf<|aN<|KK AA<|au<|rP 3 [] mn ?_
    refine aF ?_
    have A8:(vI (((i+1):Nat):Int))=(vI ((i:Int)+1)):=by exact cI I
    refine bg (f ⟨(i+1),⟨I,mo C hx (by unfold fJ; (rw [gQ I]; omega))⟩⟩ _ _ _ U os (dh.cons U<|bf U A8<|dh.nil _) (aQ [1,2]))
   refine WS fun _ AD=>rP 1 [] mn ?_
   refine RK AD<|aq<|Q1 hQ U U U ?_
   exact cB (bE fun h=>by have q:=h.sync i x hx; unfold fJ at q; (rw [gQ I] at q; omega)).symm
  refine dP 6 [0,1] (mc 0 U (mc 1 U mn)) ?_
  obtain ⟨y,hy⟩:=aL c.bI (i-1) I
  have d:=bM cQ.cells hy
  refine dS (IA (i-1) U (aA 2 U) wX dc I I)<|dS (o9 ((i-1)*3) U (aA 2 U) (Nat.mul_pos I dc) fj U)<|dS (g6 (i-1) 0 (vI y.At) U cj (aA 2 U) d U dc U)<|dP 4 [] mn ?_
  refine g_ (t:=53) U (aU fun C2=>?_) (aT fun C2=>?_)
  ·refine kX 20 U<|cK<|RK B<|aS U<|WS fun _ r=>rP 1 [] mn ?_
   refine RK r<|aq<|Q1 hQ U U U ?_
   exact cB (bE fun h=>by have q:=h.sync i x hx; unfold fJ at q; (rw [wP I hy] at q; omega)).symm
  refine dP 6 [] (mc 0 U mn) ?_
  refine g_ (t:=59) U (aU fun X=>?_) (aT fun X=>?_)
  ·refine kX 14 U<|cK<|RK B<|aS U<|WS fun _ s=>rP 1 [] mn ?_
   refine RK s<|aq<|Q1 hQ U U U ?_
   exact cB (bE fun h=>by have q:=h.sync i x hx; unfold fJ at q; (rw [gQ I] at q; omega)).symm
  refine dP 9 [] (mc 0 U mn) ?_
  refine g_ (t:=68) U (aU fun Y=>?_) (aT fun Y=>?_)
  ·refine kX 5 U<|cK<|RK B<|aS U<|WS fun _ u=>rP 1 [] mn ?_
   refine RK u<|aq<|Q1 hQ U U U ?_
   exact cB (bE fun h=>by have q:=h.sync i x hx; unfold fJ at q; (rw [gQ I] at q; omega)).symm
  refine dP 5 [] (mc 0 U mn) ?_
  refine cK<|RK B<|bW U (aT fun Z=>?_) (aU fun Z=>?_)
  ·refine cf<|aN<|KK AA<|au<|rP 3 [] mn ?_
   refine aF ?_
   have A7:(vI (((i+1):Nat):Int))=(vI ((i:Int)+1)):=by exact cI I
   refine bg (f ⟨(i+1),⟨I,mo C hx (by unfold fJ; (rw [wP I hy]; omega))⟩⟩ _ _ _ U os (dh.cons U<|bf U A7<|dh.nil _) (aQ [1,2]))
  refine WS fun _ v=>rP 1 [] mn ?_
  refine RK v<|aq<|Q1 hQ U U U ?_
  exact cB (bE fun h=>by have q:=h.sync i x hx; unfold fJ at q; (rw [gQ I] at q; omega)).symm
 refine bP<|ai<|ai<|aJ<|KK FS<|ak fun _ AF=>WS fun _ AO=>rP 1 [] mn ?_
 refine RK AO<|aH ?_
 have A:(0≤c.bI.length)∧(uo c 0):=by exact ⟨Nat.zero_le _,fun j y hj=>absurd hj (Nat.not_lt_zero _)⟩
 refine bY (ι:={z:Nat // (z≤c.bI.length)∧(uo c z)}) [1] [0,1] U U (fun z=>[(5,(vI (z.1:Int)))]) (fun z=>[]) (fun _=>rfl) (fun _=>rfl) (fun z=>c.bI.length-z.1) ⟨0,A⟩ (bB U) (aQ [0,1]) ?_
 clear A
 rintro ⟨m,⟨Bp,G⟩⟩ J28 e
 try dsimp only
 have F:=w8 (P:=fJ c) I C
 refine ak fun _ Ay=>WS fun _ A0=>rP 5 [] (mc 0 U mn) ?_
 refine RK A0<|bW U (aT fun C3=>?_) (aU fun C3=>?_)
 ·refine bP<|ai<|ai<|aJ<|KK AF<|WS fun _ A6=>rP 1 [] mn ?_
  refine RK A6<|aq<|Q1 hQ U U U ?_
  exact cB (dx (Kb I I (w8 I C) I G)).symm
 refine WK Ay<|ak fun _ A1=>aH<|WS fun _ A2=>rP 1 [] mn ?_
 refine RK A2<|aH ?_
 have A:(0≤m)∧(∀ y,c.bI[m]? =some y→Fh c y 0):=by exact ⟨Nat.zero_le _,fun y _ j o hj=>absurd hj (Nat.not_lt_zero _)⟩
 refine bY (ι:={z:Nat // (z≤m)∧(∀ y,c.bI[m]? =some y→Fh c y z)}) [1,5] [0,1] U U (fun z=>[(6,(vI (z.1:Int)))]) (fun z=>[]) (fun _=>rfl) (fun _=>rfl) (fun z=>m-z.1) ⟨0,A⟩ (bB U) (aQ [0,1]) ?_
 clear A
 rintro ⟨k,⟨B3,D⟩⟩ J33 T
 try dsimp only
 refine ak fun _ A3=>WS fun _ A4=>rP 3 [] mn ?_
 refine RK A4<|bW U (aT fun DS=>?_) (aU fun DS=>?_)
 ·refine bP<|ai<|ai<|aJ<|aN<|KK A1<|au<|rP 3 [] mn ?_
  refine aF ?_
  have A9:(vI (((m+1):Nat):Int))=(vI ((m:Int)+1)):=by exact cI I
  refine bg (e ⟨(m+1),⟨I,Ew G D I⟩⟩ _ _ _ U os (dh.cons U<|bf U A9<|dh.nil _) (aQ [0,1]))
 refine WK A3<|ak fun _ V=>aH<|ak fun _ W=>mA ct [0,1,2,3,4,5,6,7,8,9] [10,11,12,13] [false,false,false,false,false,false,false,false,false,false] [] [(cu b2 73 (dq.cells (dq.mk c.dC (bH.mk sA c.bI.length sC)))),(rd sA c.bI.length 3 (c.bI.map cQ.cells)).ro] [] kr (aQ [0,1]) (aQ [])<|eS U (FA 1 U fj U)<|eS U (L1 (vS sA c.bI.length sC) 0 U cj U U)<|eS U (MV U) ?_
 obtain ⟨x,hx⟩:=aL c.bI k I
 have b:=bM cQ.cells hx
 refine eS U (IA k U (aA 1 U) wX dc I I)<|eS U (lx k 0 (cQ.cells x) U cj (aA 1 U) b U dc U U)<|eS U (FA 1 U fj U)<|eS U (L1 (vS sA c.bI.length sC) 0 U cj U U)<|eS U (MV U) ?_
 obtain ⟨y,hy⟩:=aL c.bI m I
 have d:=bM cQ.cells hy
 refine eS U (IA m U (aA 1 U) wX dc I I)<|eS U (lx m 0 (cQ.cells y) U cj (aA 1 U) d U dc U U)<|eh U<|mU [10,11] kr (iI ?_<|iI ?_<|qt)
 rotate_left 1
 ·refine NO U U [10,12,13] fun T38 M=>AL U yC fun B9=>RD M 1 U<|N1 10<|NO U U [12,13] fun T40 N=>AL U yC fun Ci=>RD N 2 U<|N1 12<|NO U U [13] fun T42 O=>fG U z5 U<|RD O 2 U<|N1 13<|NO U U [] fun T43 R=>qO U z5 U<|RD R 2 U<|lX<|KK W<|WS fun _ J=>rP 6 [0,1,2] (mc 2 U (mc 1 U (mc 0 U mn))) ?_
  obtain ⟨Fd,Fn,GE⟩:=vb (fun j z _ hz=>F j z hz) hy (F _ _ hy) (show k<m by omega) hx
  refine bD 1 U<|rS (CL (wV c.dC (y.At-x.At) I I) (aO) U)<|bD 1 U<|RK J<|WS fun _ E=>rP 10 [0,1] (mc 0 U (mc 1 U mn)) ?_
  refine b_ (t:=113) U (aU fun H=>?_) (aT fun H=>?_)
  ·refine bD 10 U<|RK E<|aS U<|WS fun _ K=>rP 1 [] mn ?_
   refine RK K<|aq<|Q1 hQ U U U ?_
   exact cB (bE fun h=>by have q:=h.pair m k y x hy I hx; unfold nS at q; omega).symm
  refine rP 10 [0,1] (mc 1 U (mc 0 U mn)) ?_
  refine RK E<|bW U (aT fun AB=>?_) (aU fun AB=>?_)
  ·refine cf<|aN<|KK V<|au<|rP 3 [] mn ?_
   refine aF ?_
   have S:(vI (((k+1):Nat):Int))=(vI ((k:Int)+1)):=by exact cI I
   refine bg (T ⟨(k+1),⟨I,fun z hz=>by rw [hy] at hz; cases hz; exact mo (D _ hy) hx (by unfold nS; omega)⟩⟩ _ _ _ rfl os (dh.cons rfl<|dh.cons rfl<|bf rfl S<|dh.nil _) (aQ [2,3]))
  refine WS fun _ L=>rP 1 [] mn ?_
  refine RK L<|aq<|Q1 hQ U U U ?_
  exact cB (bE fun h=>by have q:=h.pair m k y x hy I hx; unfold nS at q; omega).symm
 refine NO U U [11,12,13] fun T38 M=>AL U yC fun B9=>RD M 1 U<|N1 11<|NO U U [12,13] fun T40 N=>AL U yC fun Ci=>RD N 2 U<|N1 12<|NO U U [13] fun T42 O=>qO U z5 U<|RD O 2 U<|N1 13<|NO U U [] fun T43 R=>fG U z5 U<|RD R 2 U<|lX<|KK W<|WS fun _ J=>rP 6 [0,1,2] (mc 2 U (mc 0 U (mc 1 U mn))) ?_
 obtain ⟨Fd,Fn,GE⟩:=vb (fun j z _ hz=>F j z hz) hy (F _ _ hy) (show k<m by omega) hx
 refine bD 1 U<|rS (CL (wV c.dC (y.At-x.At) I I) (aO) U)<|bD 1 U<|RK J<|WS fun _ E=>rP 10 [0,1] (mc 1 U (mc 0 U mn)) ?_
 refine b_ (t:=113) U (aU fun H=>?_) (aT fun H=>?_)
 ·refine bD 10 U<|RK E<|aS U<|WS fun _ K=>rP 1 [] mn ?_
  refine RK K<|aq<|Q1 hQ U U U ?_
  exact cB (bE fun h=>by have q:=h.pair m k y x hy I hx; unfold nS at q; omega).symm
 refine rP 10 [0,1] (mc 0 U (mc 1 U mn)) ?_
 refine RK E<|bW U (aT fun AB=>?_) (aU fun AB=>?_)
 ·refine cf<|aN<|KK V<|au<|rP 3 [] mn ?_
  refine aF ?_
  have S:(vI (((k+1):Nat):Int))=(vI ((k:Int)+1)):=by exact cI I
  refine bg (T ⟨(k+1),⟨I,fun z hz=>by rw [hy] at hz; cases hz; exact mo (D _ hy) hx (by unfold nS; omega)⟩⟩ _ _ _ rfl os (dh.cons rfl<|dh.cons rfl<|bf rfl S<|dh.nil _) (aQ [2,3]))
 refine WS fun _ L=>rP 1 [] mn ?_
 refine RK L<|aq<|Q1 hQ U U U ?_
 exact cB (bE fun h=>by have q:=h.pair m k y x hy I hx; unfold nS at q; omega).symm
theorem Bf (c:aw) (sA:OA) (sC:Nat) (at_:Int) (hc:e8 c) (ha:0≤at_∧at_≤90000000):
 dG Tryz.prog 185 [(vA (dq.cells (dq.mk c.dC (bH.mk sA c.bI.length sC)))),(vI at_)] [(rd sA c.bI.length 3 (c.bI.map cQ.cells))] (vA (ag.cells (iF c at_))):=by
 have e:=hc.len
 have W:=hc.sN
 refine bG kr Tryz.func185 U U fun j Q hQ hN=>?_
 try dsimp only
 refine WS fun _ R=>eI U fun g=>AL U dV fun h=>RK R<|WS fun _ S=>AL U dV fun d=>RK S<|ak fun _ T=>WS fun _ AA=>rP 1 [] mn ?_
 refine RK AA<|aH ?_
 have A:(0≤c.bI.length):=by exact Nat.zero_le _
 refine bY (ι:={z:Nat // (z≤c.bI.length)}) [1,2,4,5] [1,2,3] U U (fun z=>[(6,(vI (z.1:Int)))]) (fun z=>[(cu d 53 (ag.cells (k8 c at_ z.1)))]) (fun _=>rfl) (fun _=>rfl) (fun z=>c.bI.length-z.1) ⟨0,A⟩ (bB U) (aQ [1,2,3,0]) ?_
 clear A
 rintro ⟨i,X⟩ J8 D
 try dsimp only
 refine ak fun _ V=>WS fun _ E=>rP 5 [] (mc 1 U mn) ?_
 refine RK E<|bW U (aT fun O=>?_) (aU fun O=>?_)
 ·refine bP<|ai<|ai<|aJ<|KK T<|WS fun _ J=>rP 1 [] (mc 3 U mn) ?_
  refine fG U cZ U<|RK J<|aq<|CV hQ [0] (mc 0 U mn) U ?_
  rw [En hc (show c.bI.length≤i by omega)]
 refine WK V<|ak fun _ B=>aH<|WS fun _ F=>rP 3 [] (mc 1 U mn) ?_
 obtain ⟨x,hx⟩:=aL c.bI i I
 have Z:=bM cQ.cells hx
 refine rS (IA i U (aA 2 U) wX dc I I)<|rS (lx i 0 (cQ.cells x) U cj (aA 2 U) Z U dc U U)<|AL U yC fun a=>fG U z5 U<|RK F<|WS fun _ G=>rP 2 [] (mc 2 U mn) ?_
 have Y:=hc.vp hx
 have f:0≤oZ (c.dC*max (at_-x.At) (x.At-at_)) 1000000∧oZ (c.dC*max (at_-x.At) (x.At-at_)) 1000000≤90001:=uY W ha Y.1
 refine eQ 8 [] (mc 0 U mn) U<|rS (MX U)<|rS (CL (wV c.dC (max (at_-x.At) (x.At-at_)) I I) (aO) U)<|bD 1 U<|RK G<|WS fun _ H=>eQ 10 [] (mc 0 U mn) U<|rS (SX (bp (xs:=[(0,.tmp 38),(1,.tmp 43)]) (cs:=(ag.cells (ag.mk (x.eB.Lo-(oZ (c.dC*(max (at_-x.At) (x.At-at_))) 1000000)) (x.eB.Hi+(oZ (c.dC*(max (at_-x.At) (x.At-at_))) 1000000))))) U U (bo gX U)) U U)<|AL U dV fun b=>fG U cZ U<|RK H<|ak fun _ C=>WS fun _ AB=>rP 2 [] mn ?_
 refine RK AB<|bW U (aT fun P=>?_) (aU fun P=>?_)
 ·refine WK C<|au<|eQ 4 [0,1] (mc 5 U (mc 0 U mn)) U<|rS (MX U)<|rP 4 [0,1] (mc 5 U (mc 0 U mn)) ?_
  refine rS (MN U)<|rS (SX (bp (xs:=[(0,.tmp 52),(1,.tmp 57)]) (cs:=(ag.cells (ag.mk (max ((k8 c at_ i).Lo) (x.eB.Lo-(oZ (c.dC*(max (at_-x.At) (x.At-at_))) 1000000))) (min ((k8 c at_ i).Hi) (x.eB.Hi+(oZ (c.dC*(max (at_-x.At) (x.At-at_))) 1000000)))))) U U (bo gX U)) U U)<|HV U cZ U<|aF<|aN<|KK B ?_
  have M:(ag.cells (ag.mk (max ((k8 c at_ i).Lo) (x.eB.Lo-(oZ (c.dC*(max (at_-x.At) (x.At-at_))) 1000000))) (min ((k8 c at_ i).Hi) (x.eB.Hi+(oZ (c.dC*(max (at_-x.At) (x.At-at_))) 1000000)))))=(ag.cells (k8 c at_ (i+1))):=by exact congrArg ag.cells (B2 hx I).symm
  rw [M]
  refine au<|rP 3 [] mn ?_
  refine aF ?_
  have N:(vI (((i+1):Nat):Int))=(vI ((i:Int)+1)):=by exact cI I
  refine bg (D ⟨(i+1),(by first|omega|(simp only []; omega))⟩ _ _ _ U os (cG 4<|bf U N<|dh.nil _) (aQ [2,3,4,5]))
 refine au<|eQ 1 [] (mc 0 U mn) U<|HV U cZ U<|RK C<|au<|eQ 4 [0,1] (mc 5 U (mc 0 U mn)) U<|rS (MX U)<|rP 4 [0,1] (mc 5 U (mc 0 U mn)) ?_
 refine rS (MN U)<|rS (SX (bp (xs:=[(0,.tmp 52),(1,.tmp 57)]) (cs:=(ag.cells (ag.mk (max (x.eB.Lo-(oZ (c.dC*(max (at_-x.At) (x.At-at_))) 1000000)) (x.eB.Lo-(oZ (c.dC*(max (at_-x.At) (x.At-at_))) 1000000))) (min (x.eB.Hi+(oZ (c.dC*(max (at_-x.At) (x.At-at_))) 1000000)) (x.eB.Hi+(oZ (c.dC*(max (at_-x.At) (x.At-at_))) 1000000)))))) U U (bo gX U)) U U)<|HV U cZ U<|aF<|aN<|KK B ?_
 have K:(ag.cells (ag.mk (max (x.eB.Lo-(oZ (c.dC*(max (at_-x.At) (x.At-at_))) 1000000)) (x.eB.Lo-(oZ (c.dC*(max (at_-x.At) (x.At-at_))) 1000000))) (min (x.eB.Hi+(oZ (c.dC*(max (at_-x.At) (x.At-at_))) 1000000)) (x.eB.Hi+(oZ (c.dC*(max (at_-x.At) (x.At-at_))) 1000000)))))=(ag.cells (k8 c at_ (i+1))):=by exact congrArg ag.cells (z4 hc ha hx I).symm
 rw [K]
 refine au<|rP 3 [] mn ?_
 refine aF ?_
 have L:(vI (((i+1):Nat):Int))=(vI ((i:Int)+1)):=by exact cI I
 refine bg (D ⟨(i+1),(by first|omega|(simp only []; omega))⟩ _ _ _ U os (cG 4<|bf U L<|dh.nil _) (aQ [2,3,4,5]))
theorem Kn (l:bk) (kA:OA) (kC:Nat) (az:List RA) (cA:OA) (cC:Nat) (bA:OA) (bC:Nat) (n:Int) (hin:eg l az) (htr:di l.aV=true) (hbk: ∀ b∈l.ab,j6 l b) (hn:0≤n∧n<(l.ab.length:Int)):
 dG Tryz.prog 140 [(vA (cv.cells (jN l kA kC cA cC bA bC))),(vI n)] [(rd kA l.aV.length 9 (l.aV.map ao.cells)),(rd cA l.aj.length 2 (List.zipWith aw.cells l.aj az)),(dR (bj aw.f_ l.aj az)),(rd bA l.ab.length 4 (l.ab.map bJ.cells))] (vI (lz l n.toNat)):=by
 have AA:=hin.sJ
 have S:=hin.sL
 have P:=hin.og
 have R:=hin.sH
 have T:=hin.side
 refine bG kr Tryz.func140 U U fun X Q hQ hN=>?_
 try dsimp only
 refine WS fun _ G=>eI U fun V=>bD 1 U<|RK G<|ak fun _ H=>WS fun _ AB=>rP 2 [] mn ?_
 refine RK AB<|cx U (aU fun F=>?_) (aT fun F=>?_)
 ·refine ak fun _ J=>dA ct [11,12] [] [] [0,1,2,3,4] [] U U U U U<|eS U (FA 0 U fj U)<|eS U (LP (bO.cells (bO.mk (bH.mk kA l.aV.length kC))) 0 U cj U U U)<|eS U (FA 3 U fj U)<|eS U (L1 (vS bA l.ab.length bC) 0 U cj U U) ?_
  obtain ⟨y,hy⟩:=aL l.ab 0 I
  have A:=bM bJ.cells hy
  refine eS U (IA 0 U (aA 4 U) wq dc U I)<|eS U (o9 (0*4) U (aA 4 U) (Nat.mul_pos I dc) fj U)<|eS U (lx 0 0 (cH.cells y.mW) U cj (aA 4 U) A U dc U U)<|eS U (CL (RM l.aV kA kC y.mW asm asm) (bu [1]) U)<|eS U (MV U)<|eS U (EX U)<|eS U (EX U)<|eS U (AG U)<|eh U<|cd U fun T6 L=>AL U dV fun W=>aF (L _ _ (aQ [1,2,3,4,5]) ?_)
  refine cd U fun T8 M=>fG U cZ U<|aF (M _ _ (aQ [1,2,3,4,5]) ?_)
  refine fp U<|KK J<|WS fun _ K=>rP 3 [] (mc 0 U mn) ?_
  refine RK K<|aq<|Q1 hQ U U U ?_
  (refine congrArg (Value.int .i64) ?_; rw [show n.toNat=0 by omega]; rw [yO hy,(xW htr (hbk _ (List.mem_of_getElem? hy)).1).2])
 refine WK H<|ak fun _ B=>dA ct [19,20] [] [] [0,1,2,3,4] [] U U U U U<|eS U (FA 0 U fj U)<|eS U (LP (bO.cells (bO.mk (bH.mk kA l.aV.length kC))) 0 U cj U U U)<|eS U (FA 3 U fj U)<|eS U (L1 (vS bA l.ab.length bC) 0 U cj U U)<|eS U (MV U)<|eS U (BI U (vK ⟨I,I⟩)) ?_
 obtain ⟨y,hy⟩:=aL l.ab (((n-1)).toNat) I
 have A:=bM bJ.cells hy
 refine eS U (IA (((n-1)).toNat) U (aA 4 U) wq dc I I)<|eS U (o9 ((((n-1)).toNat)*4) U (aA 4 U) (Nat.mul_pos I dc) fj U)<|eS U (lx (((n-1)).toNat) 0 (cH.cells y.mW) U cj (aA 4 U) A U dc U U)<|eS U (FA 3 U fj U)<|eS U (L1 (vS bA l.ab.length bC) 0 U cj U U)<|eS U (MV U) ?_
 obtain ⟨x,hx⟩:=aL l.ab ((n).toNat) I
 have N:=bM bJ.cells hx
 refine eS U (IA ((n).toNat) U (aA 4 U) wq dc I I)<|eS U (o9 (((n).toNat)*4) U (aA 4 U) (Nat.mul_pos I dc) fj U)<|eS U (lx ((n).toNat) 0 (cH.cells x.mW) U cj (aA 4 U) N U dc U U)<|eS U (CL (K7 l.aV kA kC y.mW x.mW asm asm) (bu [1]) U)<|eS U (MV U)<|eS U (EX U)<|eS U (EX U)<|eS U (AG U)<|eh U<|cd U fun T11 D=>AL U dV fun O=>aF (D _ _ (aQ [1,2,3,4,5]) ?_)
 refine cd U fun T13 E=>fG U cZ U<|aF (E _ _ (aQ [1,2,3,4,5]) ?_)
 refine fp U<|KK B<|WS fun _ C=>rP 3 [] (mc 0 U mn) ?_
 refine RK C<|aq<|Q1 hQ U U U ?_
 (refine congrArg (Value.int .i64) ?_; rw [Ce I hx (by rw [show n.toNat-1=(n-1).toNat by omega]; exact hy),(lP htr ⟨(hbk _ (List.mem_of_getElem? hy)).1,(hbk _ (List.mem_of_getElem? hx)).1⟩).2])
theorem H7 (l:bk) (kA:OA) (kC:Nat) (az:List RA) (cA:OA) (cC:Nat) (bA:OA) (bC:Nat) (n:Int) (hin:eg l az) (htr:di l.aV=true) (hok:lK l) (hn:0≤n∧n<(l.ab.length:Int)):
 dG Tryz.prog 177 [(vA (cv.cells (jN l kA kC cA cC bA bC))),(vI n)] [(rd kA l.aV.length 9 (l.aV.map ao.cells)),(rd cA l.aj.length 2 (List.zipWith aw.cells l.aj az)),(dR (bj aw.f_ l.aj az)),(rd bA l.ab.length 4 (l.ab.map bJ.cells))] (vI (dY l n.toNat)):=by
 have G:=hin.sJ
 have F:=hin.sL
 have D:=hin.og
 have E:=hin.sH
 have C:=hok.head
 unfold eW at C
 have H:=BD htr hok.ua n.toNat
 have AA:=hok.Qe n.toNat I
 refine bG kr Tryz.func177 U U fun K Q hQ hN=>?_
 try dsimp only
 refine WS fun _ A=>eI U fun J=>bD 1 U<|RK A<|ak fun _ B=>dp ct 12 kr<|lU 2 [] (mc 0 U mn) U<|dS (CL (Kn l kA kC az cA cC bA bC n hin htr (by exact hok.ua) hn) (bu [1,2,3,4]) U)<|dS (BI U (uB ⟨I,I⟩))<|lU 6 [] (mc 0 U mn) U<|dS (BI U (ue I I I))<|dP 1 [] mn ?_
 refine cK<|RK B<|aq<|Q1 hQ U U U ?_
 exact cI (by unfold dY oZ; rw [Int.mul_comm])
theorem MH (l:bk) (kA:OA) (kC:Nat) (az:List RA) (cA:OA) (cC:Nat) (bA:OA) (bC:Nat) (hin:eg l az) (htr:di l.aV=true):
 dG Tryz.prog 121 [(vA (cv.cells (jN l kA kC cA cC bA bC)))] [(rd kA l.aV.length 9 (l.aV.map ao.cells)),(rd cA l.aj.length 2 (List.zipWith aw.cells l.aj az)),(dR (bj aw.f_ l.aj az)),(rd bA l.ab.length 4 (l.ab.map bJ.cells))] (vB (decide (lK l))):=by
 have Eq:=hin.sJ
 have DS:=hin.sL
 have C1:=hin.og
 have C3:=hin.sH
 have Di:=hin.side
 have Do:=ke htr
 have C0:=k7 htr
 refine bG kr Tryz.func121 U U fun w0 Q hQ hN=>?_
 try dsimp only
 refine WS fun _ A7=>eI U fun b2=>bD 1 U<|RK A7<|ak fun _ A8=>WS fun _ D=>eQ 2 [] (mc 0 U mn) U<|rS (CL (jc l.iR 1 5000) (aO) U)<|rP 2 [] mn ?_
 refine b_ (t:=10) U (bq fun AF=>?_) (br fun AF=>?_)
 ·refine bD 35 U<|RK D<|aS U<|WS fun _ A9=>rP 1 [] mn ?_
  refine RK A9<|aq<|Q1 hQ U U U ?_
  exact cB (bE fun h=>by have q:=h.head; unfold eW at q; omega).symm
 refine eQ 3 [] (mc 0 U mn) U<|rS (CL (jc (l.aj.length:Int) 1 4) (aO) U)<|rP 3 [] mn ?_
 refine b_ (t:=17) U (bq fun AO=>?_) (br fun AO=>?_)
 ·refine bD 28 U<|RK D<|aS U<|WS fun _ Bp=>rP 1 [] mn ?_
  refine RK Bp<|aq<|Q1 hQ U U U ?_
  exact cB (bE fun h=>by have q:=h.head; unfold eW at q; omega).symm
 refine eQ 3 [] (mc 0 U mn) U<|rS (CL (jc (l.ab.length:Int) 1 6) (aO) U)<|rP 3 [] mn ?_
 refine b_ (t:=24) U (bq fun Ay=>?_) (br fun Ay=>?_)
 ·refine bD 21 U<|RK D<|aS U<|WS fun _ B3=>rP 1 [] mn ?_
  refine RK B3<|aq<|Q1 hQ U U U ?_
  exact cB (bE fun h=>by have q:=h.head; unfold eW at q; omega).symm
 refine eQ 6 [] (mc 0 U mn) U<|rS (CL (jc l.bS 0 ((l.ab.length:Int)-1)) (aO) U)<|rP 3 [] mn ?_
 refine b_ (t:=34) U (bq fun A0=>?_) (br fun A0=>?_)
 ·refine bD 11 U<|RK D<|aS U<|WS fun _ B9=>rP 1 [] mn ?_
  refine RK B9<|aq<|Q1 hQ U U U ?_
  exact cB (bE fun h=>by have q:=h.head; unfold eW at q; omega).symm
 refine eQ 2 [] (mc 0 U mn) U<|rS (CL (jc l.fZ 0 3) (aO) U)<|rP 3 [] mn ?_
 refine b_ (t:=40) U (bq fun A1=>?_) (br fun A1=>?_)
 ·refine bD 5 U<|RK D<|aS U<|WS fun _ Ci=>rP 1 [] mn ?_
  refine RK Ci<|aq<|Q1 hQ U U U ?_
  exact cB (bE fun h=>by have q:=h.head; unfold eW at q; omega).symm
 refine eQ 2 [] (mc 0 U mn) U<|rS (CL (jc l.dL 0 3) (aO) U)<|rP 2 [] mn ?_
 refine RK D<|cx U (bq fun A2=>?_) (br fun A2=>?_)
 ·refine WS fun _ N=>rP 1 [] mn ?_
  refine RK N<|aq<|Q1 hQ U U U ?_
  exact cB (bE fun h=>by have q:=h.head; unfold eW at q; omega).symm
 refine WK A8<|ak fun _ O=>WS fun _ R=>rP 1 [] mn ?_
 refine RK R<|aH ?_
 have A:(0≤l.aj.length)∧(∀ (j:Nat) y,j<0→l.aj[j]? =some y→e8 y):=by exact ⟨Nat.zero_le _,fun j y hj=>absurd hj (Nat.not_lt_zero _)⟩
 refine bY (ι:={z:Nat // (z≤l.aj.length)∧(∀ (j:Nat) y,j<z→l.aj[j]? =some y→e8 y)}) [1] [0,1,2,3,4] U U (fun z=>[(3,(vI (z.1:Int)))]) (fun z=>[]) (fun _=>rfl) (fun _=>rfl) (fun z=>l.aj.length-z.1) ⟨0,A⟩ (bB U) (aQ [0,1,2,3,4]) ?_
 clear A
 rintro ⟨i,⟨Ck,F⟩⟩ J13 K
 try dsimp only
 refine ak fun _ S=>WS fun _ T=>rP 5 [] (mc 0 U mn) ?_
 refine RK T<|cx U (aU fun A3=>?_) (aT fun A3=>?_)
 ·refine WK S<|ak fun _ AA=>aH<|WS fun _ V=>rP 3 [] (mc 0 U mn) ?_
  obtain ⟨x,hx⟩:=aL l.aj i I
  obtain ⟨xa,J⟩:=aL az i I
  have Cx:(List.zipWith aw.cells l.aj az)[i]? =some (aw.cells x xa):=dy hx J
  refine rS (IA i U (aA 2 U) Az dc I I)<|rS (lx i 0 (dq.cells (dq.mk x.dC (bH.mk xa.1 x.bI.length xa.2))) U cj (aA 2 U) Cx U dc U U) ?_
  have EQ:=(hin.TO _ _ _ hx J).2
  refine rS (CL (Ip x xa.1 xa.2 asm) (aK (show iK _ (rd xa.1 x.bI.length 3 (x.bI.map cQ.cells)).holds from (cO 3 U (bK hx J (by simp [aw.f_]))))<|aO) U)<|rP 1 [] mn ?_
  refine RK V<|bW U (br fun AB=>?_) (bq fun AB=>?_)
  ·refine cf<|aN<|KK AA<|au<|rP 3 [] mn ?_
   refine aF ?_
   have u:(vI (((i+1):Nat):Int))=(vI ((i:Int)+1)):=by exact cI I
   refine bg (K ⟨(i+1),⟨I,mo (P:=fun _ y=>e8 y) F hx AB⟩⟩ _ _ _ U os (dh.cons U<|bf U u<|dh.nil _) (aQ [0,1,2,3,4]))
  refine WS fun _ W=>rP 1 [] mn ?_
  refine RK W<|aq<|Q1 hQ U U U ?_
  exact cB (bE fun h=>AB (h.clock _ (aR hx))).symm
 refine bP<|ai<|ai<|aJ<|KK O<|ak fun _ X=>WS fun _ Y=>rP 1 [] mn ?_
 refine RK Y<|aH ?_
 have A:(0≤l.ab.length)∧(∀ (j:Nat) y,j<0→l.ab[j]? =some y→j6 l y):=by exact ⟨Nat.zero_le _,fun j y hj=>absurd hj (Nat.not_lt_zero _)⟩
 refine bY (ι:={z:Nat // (z≤l.ab.length)∧(∀ (j:Nat) y,j<z→l.ab[j]? =some y→j6 l y)}) [1] [0,1,2,3,4] U U (fun z=>[(4,(vI (z.1:Int)))]) (fun z=>[]) (fun _=>rfl) (fun _=>rfl) (fun z=>l.ab.length-z.1) ⟨0,A⟩ (bB U) (aQ [0,1,2,3,4]) ?_
 clear A
 rintro ⟨m,⟨Cp,B⟩⟩ J22 L
 try dsimp only
 refine ak fun _ Z=>WS fun _ a=>rP 5 [] (mc 0 U mn) ?_
 refine RK a<|bW U (aT fun A4=>?_) (aU fun A4=>?_)
 ·refine bP<|ai<|ai<|aJ<|KK X<|ak fun _ e=>WS fun _ f=>rP 1 [] mn ?_
  refine RK f<|aH ?_
  have A:(0≤l.ab.length)∧(∀ j,j<0→1≤lz l j):=by exact ⟨Nat.zero_le _,fun j hj=>absurd hj (Nat.not_lt_zero _)⟩
  refine bY (ι:={z:Nat // (z≤l.ab.length)∧(∀ j,j<z→1≤lz l j)}) [1] [0,1,2,3,4] U U (fun z=>[(5,(vI (z.1:Int)))]) (fun z=>[]) (fun _=>rfl) (fun _=>rfl) (fun z=>l.ab.length-z.1) ⟨0,A⟩ (bB U) (aQ [0,1,2,3,4]) ?_
  clear A
  rintro ⟨n,⟨AD,C⟩⟩ J32 M
  try dsimp only
  have C2:=yd (P:=j6 l) I B
  refine ak fun _ g=>WS fun _ k=>rP 5 [] (mc 0 U mn) ?_
  refine RK k<|bW U (aT fun A6=>?_) (aU fun A6=>?_)
  ·refine bP<|ai<|ai<|aJ<|KK e<|WS fun _ s=>rP 1 [] mn ?_
   refine RK s<|aq<|Q1 hQ U U U ?_
   exact cB (dx (zh (by unfold eW; omega) (yd I F) (yd I B) (fun j hj=>C j I))).symm
  refine WK g<|ak fun _ o=>aH<|WS fun _ p=>eQ 2 [] (mc 0 U mn) U<|rS (CL (Kn l kA kC az cA cC bA bC (n:Int) hin htr asm I) (bu [1,2,3,4]) U)<|rP 1 [] mn ?_
  refine RK p<|bW U (aT fun E=>?_) (aU fun E=>?_)
  ·refine cf<|aN<|KK o<|au<|rP 3 [] mn ?_
   refine aF ?_
   have w:(vI (((n+1):Nat):Int))=(vI ((n:Int)+1)):=by exact cI I
   refine bg (M ⟨(n+1),⟨I,fun j hj=>by rcases Nat.lt_or_ge j n with q|q; exact C j q; (obtain rfl:j=n:=by omega); simp only [Int.toNat_natCast] at E; omega⟩⟩ _ _ _ rfl os (dh.cons rfl<|bf rfl w<|dh.nil _) (aQ [0,1,2,3,4]))
  refine WS fun _ r=>rP 1 [] mn ?_
  refine RK r<|aq<|Q1 hQ U U U ?_
  exact cB (bE fun h=>by have q:=h.Qe n I; simp only [Int.toNat_natCast] at E; omega).symm
 refine WK Z<|ak fun _ b=>aH<|ak fun _ H=>dp ct 24 kr<|kX 1 U<|dS (LP (bO.cells (bO.mk (bH.mk kA l.aV.length kC))) 0 U cj U U U)<|dP 3 [] (mc 0 U mn) ?_
 obtain ⟨y,hy⟩:=aL l.ab m I
 have AC:=bM bJ.cells hy
 refine dS (IA m U (aA 4 U) wq dc I I)<|dS (o9 (m*4) U (aA 4 U) (Nat.mul_pos I dc) fj U)<|dS (lx m 0 (cH.cells y.mW) U cj (aA 4 U) AC U dc U U)<|dS (CL (rR l.aV kA kC y.mW asm asm) (bu [1]) U)<|dP 2 [] mn ?_
 refine g_ (t:=77) U (bq fun G=>?_) (br fun G=>?_)
 ·refine kX 13 U<|cK<|RK H<|aS U<|WS fun _ c=>rP 1 [] mn ?_
  refine RK c<|aq<|Q1 hQ U U U ?_
  exact cB (bE fun h=>by have q:=h.ua _ (aR hy); have q2:=q.2; first|exact G q.1|omega).symm
 refine lU 3 [] (mc 0 U mn) U<|dS (IA m U (aA 4 U) wq dc I I)<|dS (o9 ((m*4)+3) U (aA 4 U) (Nat.mul_pos I dc) fj U)<|dS (g6 m 3 (vI y.kf) U cj (aA 4 U) AC U dc U)<|lU 4 [] (mc 0 U mn) U<|dS (CL (jc y.kf 0 ((l.aj.length:Int)-1)) (aO) U)<|dP 2 [] mn ?_
 refine cK<|RK H<|bW U (br fun A5=>?_) (bq fun A5=>?_)
 ·refine cf<|aN<|KK b<|au<|rP 3 [] mn ?_
  refine aF ?_
  have v:(vI (((m+1):Nat):Int))=(vI ((m:Int)+1)):=by exact cI I
  refine bg (L ⟨(m+1),⟨I,mo (P:=fun _ y=>j6 l y) B hy ⟨G,I,I⟩⟩⟩ _ _ _ U os (dh.cons U<|bf U v<|dh.nil _) (aQ [0,1,2,3,4]))
 refine WS fun _ d=>rP 1 [] mn ?_
 refine RK d<|aq<|Q1 hQ U U U ?_
 exact cB (bE fun h=>by have q:=h.ua _ (aR hy); have q2:=q.2; first|exact G q.1|omega).symm
end
section
open Go.RowKit
theorem B7 (r:eZ) (kA:OA) (kC:Nat) (az:List RA) (cA:OA) (cC:Nat) (bA:OA) (bC:Nat) (slA:OA) (slC:Nat) (drA:OA) (drC:Nat) (ha:List cW) (heA:OA) (heC:Nat) (hraw:uC r az ha):
 dG Tryz.prog 49 [(vA (fB.cells (yx r kA kC cA cC bA bC slA slC drA drC heA heC)))] [(rd kA r.ar.aV.length 9 (r.ar.aV.map ao.cells)),(rd cA r.ar.aj.length 2 (List.zipWith aw.cells r.ar.aj az)),(dR (bj aw.f_ r.ar.aj az)),(rd bA r.ar.ab.length 4 (r.ar.ab.map bJ.cells)),(rd slA r.aY.length 1 (r.aY.map iC)),(rd drA r.ck.length 1 (r.ck.map iC)),(rd heA r.aB.length 1 (List.zipWith cL r.aB ha)),(dR (bj eY r.aB ha))] (vB (decide (l8 r))):=by
 have AC:=hraw.line
 have Ay:=hraw.ij
 have A1:=hraw.has
 have AO:=hraw.ic
 have AD:=hraw.draw
 refine bG kr Tryz.func49 U U fun w0 Q hQ hN=>?_
 try dsimp only
 refine WS fun _ l=>eI U fun b2=>bD 1 U<|RK l<|ak fun _ m=>WS fun _ H=>bD 1 U<|rS (LP (cv.cells (jN r.ar kA kC cA cC bA bC)) 0 U cj U U U)<|rS (CL (K1 r.ar kA kC az cA cC bA bC asm) (bu [1,2,3,4]) U)<|rP 1 [] mn ?_
 refine b_ (t:=8) U (aU fun k=>?_) (aT fun k=>?_)
 ·refine bD 17 U<|RK H<|aS U<|WS fun _ n=>rP 1 [] mn ?_
  refine RK n<|aq<|Q1 hQ U U U ?_
  exact cB (dx (pS (.inl k))).symm
 refine rP 6 [] (mc 0 U mn) ?_
 refine b_ (t:=14) U (aU fun AB=>?_) (aT fun AB=>?_)
 ·refine bD 11 U<|RK H<|aS U<|WS fun _ o=>rP 1 [] mn ?_
  refine RK o<|aq<|Q1 hQ U U U ?_
  exact cB (dx (pS (.inr I))).symm
 refine rP 6 [] (mc 0 U mn) ?_
 refine b_ (t:=20) U (aU fun f=>?_) (aT fun f=>?_)
 ·refine bD 5 U<|RK H<|aS U<|WS fun _ p=>rP 1 [] mn ?_
  refine RK p<|aq<|Q1 hQ U U U ?_
  exact cB (dx (pS (.inr I))).symm
 refine rP 5 [] (mc 0 U mn) ?_
 refine RK H<|cx U (aU fun h=>?_) (aT fun h=>?_)
 ·refine WS fun _ q=>rP 1 [] mn ?_
  refine RK q<|aq<|Q1 hQ U U U ?_
  exact cB (dx (pS (.inr I))).symm
 refine WK m<|ak fun _ s=>WS fun _ N=>rP 1 [] mn ?_
 refine RK N<|aH ?_
 have B:(0≤r.aB.length)∧(mg r 0):=by exact ⟨Nat.zero_le _,Bk⟩
 refine bY (ι:={z:Nat // (z≤r.aB.length)∧(mg r z)}) [1] [0,1,2,3,4,5,6,7,8] U U (fun z=>[(3,(vI (z.1:Int)))]) (fun z=>[]) (fun _=>rfl) (fun _=>rfl) (fun z=>r.aB.length-z.1) ⟨0,B⟩ (bB U) (aQ [0,1,2,3,4,5,6,7,8]) ?_
 clear B
 rintro ⟨i,⟨x,F⟩⟩ J11 L
 try dsimp only
 refine ak fun _ O=>WS fun _ P=>rP 5 [] (mc 0 U mn) ?_
 refine RK P<|bW U (aT fun AB=>?_) (aU fun AB=>?_)
 ·refine bP<|ai<|ai<|aJ<|KK s<|WS fun _ b=>rP 1 [] mn ?_
  refine RK b<|aq<|Q1 hQ U U U ?_
  exact cB (bE (Hu k I F I)).symm
 refine WK O<|ak fun _ R=>aH<|ak fun _ S=>WS fun _ T=>rP 3 [] (mc 0 U mn) ?_
 obtain ⟨ht,D⟩:=aL r.aB i I
 obtain ⟨A,C⟩:=aL ha i I
 have E:(List.zipWith cL r.aB ha)[i]? =some (cL ht A):=dy D C
 refine rS (IA i U (aA 7 U) oh dc I I)<|rS (g6 i 0 (vS A.1.1 ht.length A.1.2) U cj (aA 7 U) E U dc U) ?_
 obtain ⟨A0,AF,w⟩:=hraw.gf _ _ _ D C
 refine rP 2 [] mn ?_
 refine RK T<|cx U (aU fun J=>?_) (aT fun J=>?_)
 ·refine WS fun _ AA=>rP 1 [] mn ?_
  refine RK AA<|aq<|Q1 hQ U U U ?_
  exact cB (dx (B_ D J)).symm
 refine WK S<|WS fun _ V=>rP 1 [] mn ?_
 refine RK V<|aH ?_
 have B:(0≤ht.length)∧(nB ht 0):=by exact ⟨Nat.zero_le _,Bz⟩
 refine bY (ι:={z:Nat // (z≤ht.length)∧(nB ht z)}) [1,3] [0,1,2,3,4,5,6,7,8] U U (fun z=>[(4,(vI (z.1:Int)))]) (fun z=>[]) (fun _=>rfl) (fun _=>rfl) (fun z=>ht.length-z.1) ⟨0,B⟩ (bB U) (aQ [0,1,2,3,4,5,6,7,8]) ?_
 clear B
 rintro ⟨j,⟨y,G⟩⟩ J20 M
 try dsimp only
 refine ak fun _ W=>WS fun _ X=>eQ 4 [] (mc 0 U mn) U<|rS (IA i U (aA 7 U) oh dc I I)<|rS (g6 i 0 (vS A.1.1 ht.length A.1.2) U cj (aA 7 U) E U dc U)<|rP 2 [] mn ?_
 refine RK X<|bW U (aT fun g=>?_) (aU fun g=>?_)
 ·refine bP<|ai<|ai<|aJ<|aN<|KK R<|au<|rP 3 [] mn ?_
  refine aF ?_
  have e:(vI (((i+1):Nat):Int))=(vI ((i:Int)+1)):=by exact cI I
  refine bg (L ⟨(i+1),⟨I,Cs F D (EA J G I)⟩⟩ _ _ _ U os (dh.cons U<|bf U e<|dh.nil _) (aQ [0,1,2,3,4,5,6,7,8]))
 refine WK W<|ak fun _ Y=>aH<|WS fun _ Z=>eQ 3 [] (mc 0 U mn) U<|rS (IA i U (aA 7 U) oh dc I I)<|rS (g6 i 0 (vS A.1.1 ht.length A.1.2) U cj (aA 7 U) E U dc U)<|rP 1 [] mn ?_
 obtain ⟨d,hd⟩:=aL ht j I
 obtain ⟨da,u⟩:=aL A.2 j I
 have v:(List.zipWith av.cells ht A.2)[j]? =some (av.cells d da):=dy hd u
 refine rS (IA j U (show iK _ (rd A.1.1 ht.length 7 (List.zipWith av.cells ht A.2)).holds from (cO 8 U (bK D C cy))) qJ dc I I)<|rS (o9 ((j*7)+4) U (show iK _ (rd A.1.1 ht.length 7 (List.zipWith av.cells ht A.2)).holds from (cO 8 U (bK D C cy))) (Nat.mul_pos I dc) fj U)<|rS (o9 (((j*7)+4)+2) U (show iK _ (rd A.1.1 ht.length 7 (List.zipWith av.cells ht A.2)).holds from (cO 8 U (bK D C cy))) (Nat.mul_pos I dc) fj U)<|rS (g6 j 6 (vS da.1 d.a_.aa.length da.2) U cj (show iK _ (rd A.1.1 ht.length 7 (List.zipWith av.cells ht A.2)).holds from (cO 8 U (bK D C cy))) v U dc U) ?_
 have A2:=w d (aR hd)
 refine rP 2 [] mn ?_
 refine RK Z<|bW U (aT fun K=>?_) (aU fun K=>?_)
 ·refine cf<|aN<|KK Y<|au<|rP 3 [] mn ?_
  refine aF ?_
  have c:(vI (((j+1):Nat):Int))=(vI ((j:Int)+1)):=by exact cI I
  refine bg (M ⟨(j+1),⟨I,BO G hd K⟩⟩ _ _ _ U os (dh.cons U<|dh.cons U<|bf U c<|dh.nil _) (aQ [0,1,2,3,4,5,6,7,8]))
 refine WS fun _ a=>rP 1 [] mn ?_
 refine RK a<|aq<|Q1 hQ U U U ?_
 exact cB (dx (D1 D hd K)).symm
end
section
open Go.RowKit
theorem jd (n lo hi:Int):
 dG Tryz.prog 77 [(vI n),(vI lo),(vI hi)] [] (vB (decide (lo≤n∧n≤hi))):=by
 refine bG kr Tryz.func77 U U fun D Q hQ hN=>?_
 try dsimp only
 refine WS fun _ B=>bD 1 U<|RK B<|WS fun _ A=>rP 4 [] mn ?_
 refine b_ (t:=10) U (aU fun C=>?_) (aT fun C=>?_)
 ·refine rP 5 [] mn ?_
  refine RK A<|aq<|Q1 hQ U U U ?_
  exact cB (gR.2 I)
 refine rP 5 [] mn ?_
 refine RK A<|aq<|Q1 hQ U U U ?_
 exact cB (bE I).symm
theorem Fm (o fx:Bool) (tm:ag) (rv:cz):
 dG Tryz.prog 78 [(vA (aP.cells (aP.mk o fx tm rv)))] [] (vB (decide (o=false∧fx=false))):=by
 refine bG kr Tryz.func78 U U fun E Q hQ hN=>?_
 try dsimp only
 refine WS fun _ B=>eI U fun D=>bD 1 U<|RK B<|WS fun _ A=>rP 4 [] (mc 0 U mn) ?_
 refine cp (t:=6) U (fun C=>?_) (fun C=>?_)
 ·rw [Bool.not_eq_false'] at C
  refine rP 5 [] mn ?_
  refine RK A<|aq<|Q1 hQ U U U ?_
  clear hQ hN A B
  refine cB ?_
  (simp_all; done)
 rw [Bool.not_eq_true'] at C
 refine rP 5 [] (mc 0 U mn) ?_
 refine RK A<|aq<|Q1 hQ U U U ?_
 clear hQ hN A B
 refine cB ?_
 (simp_all; done)
theorem H5 (j:cN) (kA:OA) (kC:Nat) (az:List RA) (cA:OA) (cC:Nat) (bA:OA) (bC:Nat) (slA:OA) (slC:Nat) (drA:OA) (drC:Nat) (ha:List cW) (heA:OA) (heC:Nat) (faA:OA) (faC:Nat) (prA:OA) (prC:Nat) (hraw:sk j az ha):
 dG Tryz.prog 27 [(vA (fz.cells (nY j kA kC cA cC bA bC slA slC drA drC heA heC faA faC prA prC)))] [(rd kA j.Race.ar.aV.length 9 (j.Race.ar.aV.map ao.cells)),(rd cA j.Race.ar.aj.length 2 (List.zipWith aw.cells j.Race.ar.aj az)),(dR (bj aw.f_ j.Race.ar.aj az)),(rd bA j.Race.ar.ab.length 4 (j.Race.ar.ab.map bJ.cells)),(rd slA j.Race.aY.length 1 (j.Race.aY.map iC)),(rd drA j.Race.ck.length 1 (j.Race.ck.map iC)),(rd heA j.Race.aB.length 1 (List.zipWith cL j.Race.aB ha)),(dR (bj eY j.Race.aB ha)),(rd faA j.ay.length 4 (j.ay.map aM.cells)),(rd prA j.aD.length 5 (j.aD.map aX.cells))] (vB (decide (oR j))):=by
 have E:=hraw.race
 have F:=hraw.nf
 have G:=hraw.np
 refine bG kr Tryz.func27 U U fun AA Q hQ hN=>?_
 try dsimp only
 refine WS fun _ D=>eI U fun H=>bD 1 U<|RK D<|WS fun _ B=>bD 1 U<|rS (LP (fB.cells (yx j.Race kA kC cA cC bA bC slA slC drA drC heA heC)) 0 U cj U U U)<|rS (CL (B7 j.Race kA kC az cA cC bA bC slA slC drA drC ha heA heC asm) (bu [1,2,3,4,5,6,7,8]) U)<|rP 1 [] mn ?_
 refine b_ (t:=6) U (aU fun C=>?_) (aT fun C=>?_)
 ·refine rP 12 [] mn ?_
  refine RK B<|aq<|Q1 hQ U U U ?_
  (exact cB (dx (show oR j from .inl (.inl C))).symm)
 refine rP 6 [] (mc 0 U mn) ?_
 refine b_ (t:=12) U (aU fun A=>?_) (aT fun A=>?_)
 ·refine rP 6 [] mn ?_
  refine RK B<|aq<|Q1 hQ U U U ?_
  (exact cB (dx (show oR j from .inl (.inr A))).symm)
 refine rP 6 [] (mc 0 U mn) ?_
 refine RK B<|aq<|Q1 hQ U U U ?_
 (exact cB (gR.2 (show _↔oR j from ⟨.inr,fun q=>Or.elim q (fun q=>Or.elim q (fun q=>absurd q C) (fun q=>absurd q A)) id⟩)))
end
section
open Go.RowKit
theorem Ct (l:bk) (kA:OA) (kC:Nat) (az:List RA) (cA:OA) (cC:Nat) (bA:OA) (bC:Nat) (hin:eg l az):
 dG Tryz.prog 101 [(vA (cv.cells (jN l kA kC cA cC bA bC)))] [(rd kA l.aV.length 9 (l.aV.map ao.cells)),(rd cA l.aj.length 2 (List.zipWith aw.cells l.aj az)),(dR (bj aw.f_ l.aj az)),(rd bA l.ab.length 4 (l.ab.map bJ.cells))] (vI (dD l)):=by
 have N:=hin.sJ
 have M:=hin.sL
 have K:=hin.og
 have L:=hin.sH
 refine bG kr Tryz.func101 U U fun P Q hQ hN=>?_
 try dsimp only
 refine WS fun _ C=>eI U fun O=>bD 1 U<|RK C<|ak fun _ D=>WS fun _ E=>bD 1 U<|rS (LP (bO.cells (bO.mk (bH.mk kA l.aV.length kC))) 0 U cj U U U)<|rS (CL (wL l.aV kA kC asm) (bu [1]) U)<|rP 1 [] mn ?_
 refine RK E<|cx U (fun A=>?_) (fun A=>?_)
 ·rw [Bool.not_eq_true'] at A
  refine WS fun _ F=>rP 1 [] mn ?_
  refine RK F<|aq<|Q1 hQ U U U ?_
  exact cI (zw (by simpa using A)).symm
 rw [Bool.not_eq_false'] at A
 refine WK D<|ak fun _ G=>WS fun _ H=>eQ 1 [] (mc 0 U mn) U<|rS (CL (MH l kA kC az cA cC bA bC hin asm) (bu [1,2,3,4]) U)<|rP 1 [] mn ?_
 refine RK H<|cx U (bq fun B=>?_) (br fun B=>?_)
 ·refine WS fun _ AA=>rP 1 [] mn ?_
  refine RK AA<|aq<|Q1 hQ U U U ?_
  exact cI (qC A B).symm
 refine WK G<|WS fun _ J=>rP 1 [] mn ?_
 refine RK J<|aq<|Q1 hQ U U U ?_
 exact cI (wY A B).symm
theorem Ni (l:bk) (kA:OA) (kC:Nat) (az:List RA) (cA:OA) (cC:Nat) (bA:OA) (bC:Nat) (s:aG) (hin:eg l az) (hok:lK l) (hs:(0≤s.fE∧s.fE≤(l.ab.length:Int)-1)∧0≤s.Read∧s.Read≤86400000):
 dG Tryz.prog 178 [(vA (cv.cells (jN l kA kC cA cC bA bC))),(vA (aG.cells s))] [(rd kA l.aV.length 9 (l.aV.map ao.cells)),(rd cA l.aj.length 2 (List.zipWith aw.cells l.aj az)),(dR (bj aw.f_ l.aj az)),(rd bA l.ab.length 4 (l.ab.map bJ.cells))] (vT [(vA (ag.cells (cP l s))),(vB (decide ((cP l s).Lo≤(cP l s).Hi)))]):=by
 have Ay:=hin.sJ
 have AO:=hin.sL
 have AD:=hin.og
 have AF:=hin.sH
 refine bG kr Tryz.func178 U U fun w0 Q hQ hN=>?_
 try dsimp only
 refine WS fun _ i=>eI U fun b2=>eI U fun b3=>AL U dV fun b4=>rP 1 [] mn ?_
 refine RK i<|ak fun _ j=>dA ct [11,12] [] [] [0,1,2,3,4,5,6] [] U U U U U<|eS U (FA 2 U fj U)<|eS U (L1 (vS cA l.aj.length cC) 2 U cj U U)<|eS U (FA 3 U fj U)<|eS U (L1 (vS bA l.ab.length bC) 2 U cj U U)<|eS U (FA 0 U fj U)<|eS U (L1 (vI s.fE) 1 U cj U U) ?_
 obtain ⟨y,hy⟩:=aL l.ab ((s.fE).toNat) I
 have w:=bM bJ.cells hy
 refine eS U (IA ((s.fE).toNat) U (aA 6 U) wq dc I I)<|eS U (o9 ((((s.fE).toNat)*4)+3) U (aA 6 U) (Nat.mul_pos I dc) fj U)<|eS U (g6 ((s.fE).toNat) 3 (vI y.kf) U cj (aA 6 U) w U dc U) ?_
 have A0:=(hok.ua _ (aR hy)).2
 obtain ⟨x,hx⟩:=aL l.aj ((y.kf).toNat) I
 obtain ⟨xa,J⟩:=aL az ((y.kf).toNat) I
 have u:(List.zipWith aw.cells l.aj az)[(y.kf).toNat]? =some (aw.cells x xa):=dy hx J
 refine eS U (IA ((y.kf).toNat) U (aA 4 U) Az dc I I)<|eS U (lx ((y.kf).toNat) 0 (dq.cells (dq.mk x.dC (bH.mk xa.1 x.bI.length xa.2))) U cj (aA 4 U) u U dc U U)<|eh U<|cd U fun T6 m=>AL U Qq fun b7=>aF (m _ _ (aQ [1,2,3,4,5,6,7]) ?_)
 refine cd U fun T8 o=>fG U RO U<|aF (o _ _ (aQ [1,2,3,4,5,6,7]) ?_)
 refine fp U<|KK j<|WS fun _ k=>rP 2 [] mn ?_
 refine RK k<|ak fun _ K=>aH ?_
 have A:(0≤(0:Int)∧(0:Int)≤(fI (gI x s.Read) 86400001))∧((fI (gI x s.Read) 86400001)≤(86400001:Int)∧(86400001:Int)≤86400001):=by (have Z:=iG (p:=gI x s.Read) (n:=86400001); omega)
 refine bY (ι:={z:Int×Int // (0≤z.1∧z.1≤(fI (gI x s.Read) 86400001))∧((fI (gI x s.Read) 86400001)≤z.2∧z.2≤86400001)}) [2,3,4,6] [0,1,2,3,4,5,6,7] U U (fun z=>[(7,(vI z.1.1)),(8,(vI z.1.2))]) (fun z=>[]) (fun _=>rfl) (fun _=>rfl) (fun z=>(z.1.2-z.1.1).toNat) ⟨((0:Int),(86400001:Int)),A⟩ (bB U) (aQ [0,1,2,3,4,5,6,7]) ?_
 clear A
 rintro ⟨⟨a,b⟩,⟨H,AB⟩⟩ J11 F
 try dsimp only at H AB
 try dsimp only
 have B:=hok.clock _ (aR hx)
 have Z:=iG (p:=gI x s.Read) (n:=86400001)
 have Y:=iG (p:=gK x s.Read) (n:=86400001)
 refine ak fun _ L=>WS fun _ M=>rP 3 [] mn ?_
 refine RK M<|cx U (aU fun c=>?_) (aT fun c=>?_)
 ·refine WK L<|aH<|WS fun _ N=>bD 3 U<|rS (BI U (ue I I I))<|bD 1 U<|RK N<|ak fun _ O=>dp ct 9 kr<|dP 3 [] (mc 0 U mn) ?_
  refine dS (CL (Bf x xa.1 xa.2 ((a+b)/2) asm I) (aK (show iK _ (rd xa.1 x.bI.length 3 (x.bI.map cQ.cells)).holds from (cO 6 U (bK hx J (by simp [aw.f_]))))<|aO) U)<|dS (SX (rQ (v:=(vI ((iF x ((a+b)/2)).Hi))) U U fj IW U) U U) ?_
  have t:=qQ B (show 0≤(a+b)/2∧(a+b)/2≤90000000 by omega)
  refine dP 4 [] (mc 2 U mn) ?_
  refine cK<|RK O<|cx U (aU fun g=>?_) (aT fun g=>?_)
  ·refine au<|rP 2 [] mn ?_
   refine aF<|aN ?_
   refine bg (F ⟨(a,((a+b)/2)),(by dsimp only; have hm:=lp (r:=s.Read) B (x:=(a+b)/2) I I; rcases Int.lt_or_le ((a+b)/2) (fI (gI x s.Read) 86400001) with q|q; (have C:=hm.1 q; simp only [gI,decide_eq_false_iff_not] at C; omega); (have C:=hm.2.1 q; simp only [gI,decide_eq_true_eq] at C; omega))⟩ _ _ _ rfl (by simp only []; omega) (bB rfl) (aQ [0,1,2,3,4,5,6,7]))
  refine au<|rP 3 [] mn ?_
  refine aF<|aN ?_
  refine bg (F ⟨((((a+b)/2)+1),b),(by dsimp only; have hm:=lp (r:=s.Read) B (x:=(a+b)/2) I I; rcases Int.lt_or_le ((a+b)/2) (fI (gI x s.Read) 86400001) with q|q; (have C:=hm.1 q; simp only [gI,decide_eq_false_iff_not] at C; omega); (have C:=hm.2.1 q; simp only [gI,decide_eq_true_eq] at C; omega))⟩ _ _ _ rfl (by simp only []; omega) (bB rfl) (aQ [0,1,2,3,4,5,6,7]))
 refine bP<|ai<|ai<|aJ<|KK K<|WS fun _ P=>bD 2 U<|RK P<|WS fun _ R=>rP 2 [] mn ?_
 refine RK R<|ak fun _ S=>aH ?_
 have A:(-1≤((-1):Int)∧((-1):Int)≤(fI (gK x s.Read) 86400001)-1)∧((fI (gK x s.Read) 86400001)-1≤(86400000:Int)∧(86400000:Int)≤86400000):=by (have Y:=iG (p:=gK x s.Read) (n:=86400001); omega)
 refine bY (ι:={z:Int×Int // (-1≤z.1∧z.1≤(fI (gK x s.Read) 86400001)-1)∧((fI (gK x s.Read) 86400001)-1≤z.2∧z.2≤86400000)}) [2,3,4,6,10] [0,1,2,3,4,5,6,7] U U (fun z=>[(7,(vI z.1.1)),(8,(vI z.1.2))]) (fun z=>[]) (fun _=>rfl) (fun _=>rfl) (fun z=>(z.1.2-z.1.1).toNat) ⟨(((-1):Int),(86400000:Int)),A⟩ (bB U) (aQ [0,1,2,3,4,5,6,7]) ?_
 clear A
 rintro ⟨⟨d,e⟩,⟨D,E⟩⟩ J20 G
 try dsimp only at D E
 try dsimp only
 have B:=hok.clock _ (aR hx)
 have Z:=iG (p:=gI x s.Read) (n:=86400001)
 have Y:=iG (p:=gK x s.Read) (n:=86400001)
 refine ak fun _ T=>WS fun _ AA=>rP 3 [] mn ?_
 refine RK AA<|bW U (aT fun f=>?_) (aU fun f=>?_)
 ·refine bP<|ai<|ai<|aJ<|KK S<|WS fun _ X=>bD 2 U<|rS (SX (bp (xs:=[(0,.tmp 63),(1,.tmp 64)]) (cs:=(ag.cells (ag.mk a d))) U U (bo gX U)) U U)<|bD 3 U<|qO U cZ U<|rP 1 [] mn ?_
  refine RK X<|aq<|mV hQ [0] (mc 1 U mn) U ?_
  have e0:cP l s=⟨a,d⟩:=by (unfold cP rq; rw [ym hy hx,show a=(fI (gI x s.Read) 86400001) by omega,show d=(fI (gK x s.Read) 86400001)-1 by omega])
  rw [e0]
 refine WK T<|aH<|WS fun _ V=>bD 4 U<|rS (BI U (ue I I I))<|bD 1 U<|RK V<|ak fun _ W=>dp ct 9 kr<|dP 3 [] (mc 0 U mn) ?_
 refine dS (CL (Bf x xa.1 xa.2 (((d+e)+1)/2) asm I) (aK (show iK _ (rd xa.1 x.bI.length 3 (x.bI.map cQ.cells)).holds from (cO 6 U (bK hx J (by simp [aw.f_]))))<|aO) U)<|dS (SX (rQ (v:=(vI ((iF x (((d+e)+1)/2)).Lo))) U U fj JQ U) U U) ?_
 have t:=qQ B (show 0≤(d+e+1)/2∧(d+e+1)/2≤90000000 by omega)
 refine dP 4 [] (mc 2 U mn) ?_
 refine cK<|RK W<|cx U (aU fun h=>?_) (aT fun h=>?_)
 ·refine au<|rP 2 [] mn ?_
  refine aF<|aN ?_
  refine bg (G ⟨((((d+e)+1)/2),e),(by dsimp only; have hm:=lp (r:=s.Read) B (x:=(d+e+1)/2) I I; rcases Int.lt_or_le ((d+e+1)/2) (fI (gK x s.Read) 86400001) with q|q; (have C:=hm.2.2.1 q; simp only [gK,decide_eq_false_iff_not] at C; omega); (have C:=hm.2.2.2 q; simp only [gK,decide_eq_true_eq] at C; omega))⟩ _ _ _ rfl (by simp only []; omega) (bB rfl) (aQ [0,1,2,3,4,5,6,7]))
 refine au<|rP 3 [] mn ?_
 refine aF<|aN ?_
 refine bg (G ⟨(d,((((d+e)+1)/2)-1)),(by dsimp only; have hm:=lp (r:=s.Read) B (x:=(d+e+1)/2) I I; rcases Int.lt_or_le ((d+e+1)/2) (fI (gK x s.Read) 86400001) with q|q; (have C:=hm.2.2.1 q; simp only [gK,decide_eq_false_iff_not] at C; omega); (have C:=hm.2.2.2 q; simp only [gK,decide_eq_true_eq] at C; omega))⟩ _ _ _ rfl (by simp only []; omega) (bB rfl) (aQ [0,1,2,3,4,5,6,7]))
end
section
open Go.RowKit
theorem pk (n lo hi:Int):
 dG Tryz.prog 122 [(vI n),(vI lo),(vI hi)] [] (vB (decide (lo≤n∧n≤hi))):=by
 refine bG kr Tryz.func122 U U fun D Q hQ hN=>?_
 try dsimp only
 refine WS fun _ B=>bD 1 U<|RK B<|WS fun _ A=>rP 4 [] mn ?_
 refine b_ (t:=10) U (aU fun C=>?_) (aT fun C=>?_)
 ·refine rP 5 [] mn ?_
  refine RK A<|aq<|Q1 hQ U U U ?_
  exact cB (gR.2 I)
 refine rP 5 [] mn ?_
 refine RK A<|aq<|Q1 hQ U U U ?_
 exact cB (bE I).symm
theorem Fp (r:cw) (sgA:OA) (sgC:Nat):
 dG Tryz.prog 141 [(vA (cz.cells (jk r sgA sgC)))] [(rd sgA r.aa.length 2 (r.aa.map aG.cells))] (vB (decide (mZ r))):=by
 refine bG kr Tryz.func141 U U fun F Q hQ hN=>?_
 try dsimp only
 refine WS fun _ B=>eI U fun E=>bD 1 U<|RK B<|WS fun _ A=>rP 4 [] (mc 0 U mn) ?_
 refine cp (t:=6) U (aT fun C=>?_) (aU fun C=>?_)
 ·refine rP 11 [] mn ?_
  refine RK A<|aq<|Q1 hQ U U U ?_
  simp only [mZ]
  exact cB (bE I).symm
 refine rP 5 [] (mc 0 U mn) ?_
 refine cp (t:=11) U (aT fun D=>?_) (aU fun D=>?_)
 ·refine rP 6 [] mn ?_
  refine RK A<|aq<|Q1 hQ U U U ?_
  simp only [mZ]
  exact cB (bE I).symm
 refine rP 6 [] (mc 0 U mn) ?_
 refine RK A<|aq<|Q1 hQ U U U ?_
 simp only [mZ]
 exact cB (gR.2 I)
theorem Mg (s:ag):
 dG Tryz.prog 142 [(vA (ag.cells s))] [] (vB (decide (mq s))):=by
 refine bG kr Tryz.func142 U U fun F Q hQ hN=>?_
 try dsimp only
 refine WS fun _ B=>eI U fun E=>bD 1 U<|RK B<|WS fun _ A=>rP 4 [] (mc 0 U mn) ?_
 refine cp (t:=6) U (aT fun C=>?_) (aU fun C=>?_)
 ·refine rP 12 [] mn ?_
  refine RK A<|aq<|Q1 hQ U U U ?_
  simp only [mq]
  exact cB (bE I).symm
 refine rP 7 [] (mc 0 U mn) ?_
 refine cp (t:=13) U (aT fun D=>?_) (aU fun D=>?_)
 ·refine rP 5 [] mn ?_
  refine RK A<|aq<|Q1 hQ U U U ?_
  simp only [mq]
  exact cB (bE I).symm
 refine rP 5 [] (mc 0 U mn) ?_
 refine RK A<|aq<|Q1 hQ U U U ?_
 simp only [mq]
 exact cB (gR.2 I)
theorem Cg (la:List Int) (laA:OA) (laC:Nat) (lb:List Int) (lbA:OA) (lbC:Nat) (h1:la.length≤1000000) (h2:lb.length≤1000000):
 dG Tryz.prog 38 [(vS laA la.length laC),(vS lbA lb.length lbC)] [(rd laA la.length 1 (la.map iC)),(rd lbA lb.length 1 (lb.map iC))] (vB (decide (la=lb))):=by
 refine bG kr Tryz.func38 U U fun V Q hQ hN=>?_
 try dsimp only
 refine WS fun _ J=>bD 1 U<|RK J<|ak fun _ K=>WS fun _ L=>rP 5 [] mn ?_
 refine RK L<|cx U (bq fun hl=>?_) (br fun hl=>?_)
 ·refine WS fun _ M=>rP 1 [] mn ?_
  refine RK M<|aq<|Q1 hQ U U U ?_
  exact cB (bE (fun e=>by subst e; omega)).symm
 refine WK K<|ak fun _ N=>WS fun _ O=>rP 1 [] mn ?_
 refine RK O<|aH ?_
 have A:(0≤la.length)∧(la.take 0=lb.take 0):=by simp
 refine bY (ι:={z:Nat // (z≤la.length)∧(la.take z=lb.take z)}) [0,1] [0,1] U U (fun z=>[(5,(vI (z.1:Int)))]) (fun z=>[]) (fun _=>rfl) (fun _=>rfl) (fun z=>la.length-z.1) ⟨0,A⟩ (bB U) (aQ [0,1]) ?_
 clear A
 rintro ⟨i,⟨S,B⟩⟩ J7 AB
 try dsimp only
 refine ak fun _ P=>WS fun _ R=>rP 4 [] mn ?_
 refine RK R<|bW U (aT fun H=>?_) (aU fun H=>?_)
 ·refine bP<|ai<|ai<|aJ<|KK N<|WS fun _ F=>rP 1 [] mn ?_
  refine RK F<|aq<|Q1 hQ U U U ?_
  exact cB (dx (qF I B I)).symm
 refine WK P<|ak fun _ C=>aH<|ak fun _ D=>dp ct 9 kr<|dP 2 [] mn ?_
 obtain ⟨x,hx⟩:=aL la i I
 have T:=bM iC hx
 refine dS (IA i U (aA 0 U) dv dc I I)<|dS (g6 i 0 (vI x) U cj (aA 0 U) T U dc U)<|dP 2 [] mn ?_
 obtain ⟨y,hy⟩:=aL lb i I
 have AA:=bM iC hy
 refine dS (IA i U (aA 1 U) dv dc I I)<|dS (g6 i 0 (vI y) U cj (aA 1 U) AA U dc U)<|dP 1 [] mn ?_
 refine cK<|RK D<|cx U (bq fun h=>?_) (br fun h=>?_)
 ·refine WS fun _ E=>rP 1 [] mn ?_
  refine RK E<|aq<|Q1 hQ U U U ?_
  exact cB (bE (rh hx hy h)).symm
 refine cf<|aN<|KK C<|au<|rP 3 [] mn ?_
 refine aF ?_
 have G:(vI (((i+1):Nat):Int))=(vI ((i:Int)+1)):=by exact cI I
 refine bg (AB ⟨(i+1),⟨I,uU B hx hy h⟩⟩ _ _ _ U os (dh.cons U<|dh.cons U<|bf U G<|dh.nil _) (aQ [0,1]))
end
end Go.Proofs.YtijpnoadncadoaaGreatDoor
