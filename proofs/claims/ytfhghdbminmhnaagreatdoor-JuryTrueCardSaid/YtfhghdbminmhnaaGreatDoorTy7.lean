/-
 The statement juryTrue_said, part 7 of 8: Rc2, Rc3, Rc4, Rs1, S2, Rs2, Rs3, Rs4, Rt2, Jw6, Jw7, Jw8, Jw9, Jwa, Jwb, B7, B8, Rr2, Jr1, B9, Rr1, Ways, WayM, R1.
 Conditions: none.
-/
import Derived.Test.YtfhghdbminmhnaaGreatDoorTy1
import Derived.Test.YtfhghdbminmhnaaGreatDoorTy2
import Derived.Test.YtfhghdbminmhnaaGreatDoorTy3
import Derived.Test.YtfhghdbminmhnaaGreatDoorTy4
import Derived.Test.YtfhghdbminmhnaaGreatDoorTy5
import Derived.Test.YtfhghdbminmhnaaGreatDoorTy6
namespace Go.Proofs.YtfhghdbminmhnaaGreatDoor
set_option maxRecDepth 100000
set_option maxHeartbeats 4000000
set_option linter.unusedVariables false
section
open Go.RowKit
theorem MD (l:bp) (kA:OA) (kC:Nat) (az:List RA) (cA:OA) (cC:Nat) (bA:OA) (bC:Nat) (d:ax) (sgA:OA) (sgC:Nat) (hin:dY l az):
 dL Tryz.prog 204 [(vA (cr.cells (jC l kA kC cA cC bA bC))),(vA (aM.cells (aM.mk d.Out d.dC d.Time (ji d.bx sgA sgC))))] [(rd kA l.aS.length 9 (l.aS.map ar.cells)),(rd cA l.aj.length 2 (List.zipWith au.cells l.aj az)),(dT (br au.gd l.aj az)),(rd bA l.aa.length 4 (l.aa.map bJ.cells)),(rd sgA d.bx.ab.length 2 (d.bx.ab.map aA.cells))] (vT [(vA (ag.cells d.Time)),(vB (decide (d.dC=false∧d.Time=gj∧nq d.bx)))]):=by
 refine bH kr Tryz.func204 U U fun K Q hQ hN=>?_
 try dsimp only
 refine WS fun _ B=>eO U fun H=>eO U fun AA=>AL U ed fun J=>rP 1 [] I ?_
 refine RK B<|ao fun _ A=>dy cj [15] [] [] [1,2,3,4,5,6,7] [] U U U U U<|eS U (FA 2 U eD U)<|eS U (LP (ag.cells d.Time) 0 U b_ U U U)<|eS U (FA 1 U eD U)<|eS U (L1 (vB d.dC) 0 U b_ U U)<|eS U (NT U)<|eS U (MV U)<|sb (t:=11) U (fun G=>?_) (fun G=>?_)
 rotate_left 1
 ·rw [Bool.not_eq_false'] at G
  refine eS U (OX U)<|eS U (OX U)<|eS U (OX U)<|eS U (OX U)<|eS U (PK U)<|eS U (MV U)<|eS U (OX U)<|eS U (OX U)<|eS U (PK U)<|eS U (AG U)<|eh U<|cf U fun T10 C=>fJ U cW U<|aH (C _ _ (aQ [1,2,3,4,5,6,7]) ?_)
  refine e8 U<|KK A<|aq<|mj hQ [0] (mc 0 U I) U ?_
  clear hQ hN C T10 A B
  refine congrArg (fun z=>Value.tuple #[_,vB z]) ?_
  first|rfl|(simp_all [gj]; done)
 rw [Bool.not_eq_true'] at G
 refine eS U (FA 2 U eD U)<|eS U (LP (ag.cells d.Time) 0 U b_ U U U)<|eS U (SX (bf (xs:=[]) (cs:=(ag.cells (ag.mk 0 0))) U U (bg gO U)) U U)<|eS U (BI U (xC _ _ d.Time (ag.mk 0 0)))<|eS U (PK U)<|eS U (MV U)<|sb (t:=17) U (fun D=>?_) (fun D=>?_)
 rotate_left 1
 ·replace D:=DF D
  refine eS U (OX U)<|eS U (OX U)<|eS U (PK U)<|eS U (AG U)<|eh U<|cf U fun T9 F=>fJ U cW U<|aH (F _ _ (aQ [1,2,3,4,5,6,7]) ?_)
  refine e8 U<|KK A<|aq<|mj hQ [0] (mc 0 U I) U ?_
  clear hQ hN F T9 A B
  refine congrArg (fun z=>Value.tuple #[_,vB z]) ?_
  first|rfl|(simp_all [gj]; done)
 replace D:=DT D
 refine eS U (LW 0 U b_ U U)<|eS U (CL (Ip d sgA sgC) (bk [6]) U)<|eS U (PK U)<|eS U (AG U)<|eh U<|cf U fun T8 E=>fJ U cW U<|aH (E _ _ (aQ [1,2,3,4,5,6,7]) ?_)
 refine e8 U<|KK A<|aq<|mj hQ [0] (mc 0 U I) U ?_
 clear hQ hN E T8 A B
 refine congrArg (fun z=>Value.tuple #[_,vB z]) ?_
 first|rfl|(simp_all [gj]; done)
theorem Mx (l:bp) (kA:OA) (kC:Nat) (az:List RA) (cA:OA) (cC:Nat) (bA:OA) (bC:Nat) (d:ax) (sgA:OA) (sgC:Nat) (hin:dY l az):
 dL Tryz.prog 207 [(vA (cr.cells (jC l kA kC cA cC bA bC))),(vA (aM.cells (aM.mk d.Out d.dC d.Time (ji d.bx sgA sgC))))] [(rd kA l.aS.length 9 (l.aS.map ar.cells)),(rd cA l.aj.length 2 (List.zipWith au.cells l.aj az)),(dT (br au.gd l.aj az)),(rd bA l.aa.length 4 (l.aa.map bJ.cells)),(rd sgA d.bx.ab.length 2 (d.bx.ab.map aA.cells))] (vT [(vA (ag.cells d.Time)),(vB (decide (mu d.Time∧nq d.bx)))]):=by
 refine bH kr Tryz.func207 U U fun AA Q hQ hN=>?_
 try dsimp only
 refine WS fun _ B=>eO U fun F=>eO U fun G=>AL U ed fun H=>rP 1 [] I ?_
 refine RK B<|ao fun _ A=>dy cj [9] [] [] [1,2,3,4,5,6,7] [] U U U U U<|eS U (FA 2 U eD U)<|eS U (LP (ag.cells d.Time) 0 U b_ U U U)<|eS U (FA 2 U eD U)<|eS U (LP (ag.cells d.Time) 0 U b_ U U U)<|eS U (CL (Ms d.Time) (aO) U)<|eS U (MV U)<|sb (t:=11) U (fun C=>?_) (fun C=>?_)
 rotate_left 1
 ·replace C:=DF C
  refine eS U (OX U)<|eS U (OX U)<|eS U (PK U)<|eS U (AG U)<|eh U<|cf U fun T8 E=>fJ U cW U<|aH (E _ _ (aQ [1,2,3,4,5,6,7]) ?_)
  refine e8 U<|KK A<|aq<|mj hQ [0] (mc 0 U I) U ?_
  clear hQ hN E T8 A B
  refine congrArg (fun z=>Value.tuple #[_,vB z]) ?_
  first|rfl|(simp_all; done)
 replace C:=DT C
 refine eS U (LW 0 U b_ U U)<|eS U (CL (Ip d sgA sgC) (bk [6]) U)<|eS U (PK U)<|eS U (AG U)<|eh U<|cf U fun T7 D=>fJ U cW U<|aH (D _ _ (aQ [1,2,3,4,5,6,7]) ?_)
 refine e8 U<|KK A<|aq<|mj hQ [0] (mc 0 U I) U ?_
 clear hQ hN D T7 A B
 refine congrArg (fun z=>Value.tuple #[_,vB z]) ?_
 first|rfl|(simp_all; done)
theorem No (l:bp) (kA:OA) (kC:Nat) (az:List RA) (cA:OA) (cC:Nat) (bA:OA) (bC:Nat) (d:ax) (sgA:OA) (sgC:Nat) (hin:dY l az) (hsl:d.bx.ab.length≤1000000):
 dL Tryz.prog 210 [(vA (cr.cells (jC l kA kC cA cC bA bC))),(vA (aM.cells (aM.mk d.Out d.dC d.Time (ji d.bx sgA sgC))))] [(rd kA l.aS.length 9 (l.aS.map ar.cells)),(rd cA l.aj.length 2 (List.zipWith au.cells l.aj az)),(dT (br au.gd l.aj az)),(rd bA l.aa.length 4 (l.aa.map bJ.cells)),(rd sgA d.bx.ab.length 2 (d.bx.ab.map aA.cells))] (vT [(vA (ag.cells (zX l d.bx))),(vB (decide (dV l d.bx l.bO=0∧d.Time=gj)))]):=by
 have K:=hin.qS
 have AA:=hin.qW
 have G:=hin.nx
 have H:=hin.qU
 have J:=hin.side
 refine bH kr Tryz.func210 U U fun P Q hQ hN=>?_
 try dsimp only
 refine WS fun _ C=>eO U fun L=>eO U fun M=>AL U ed fun N=>bE 1 U<|RK C<|WS fun _ D=>eV 2 [] (mc 2 U I) U<|rS (LP (cb.cells (ji d.bx sgA sgC)) 1 U b_ U U U)<|rS (CL (SM l kA kC az cA cC bA bC d.bx sgA sgC hin hsl) (bk [3,4,5,6,7]) U)<|bE 3 U<|AL U ed fun O=>fJ U cW U<|rP 1 [] I ?_
 refine RK D<|ao fun _ A=>dy cj [9] [] [] [0,2,3,4,5,6,7,8] [] U U U U U<|eS U (LW 0 U b_ U U)<|eS U (MV U)<|eS U (BI U lZ)<|eS U (MV U)<|sb (t:=18) U (fun E=>?_) (fun E=>?_)
 rotate_left 1
 ·replace E:=DF E
  refine eS U (OX U)<|eS U (OX U)<|eS U (OX U)<|eS U (OX U)<|eS U (PK U)<|eS U (AG U)<|eh U<|cf U fun T10 B=>qT U cW U<|aH (B _ _ (aQ [0,2,3,4,5,6,7,8]) ?_)
  refine e8 U<|KK A<|aq<|mj hQ [0] (mc 1 U I) U ?_
  clear hQ hN B T10 A D C
  refine congrArg (fun z=>Value.tuple #[_,vB z]) ?_
  first|rfl|(simp_all [gj]; done)
 replace E:=DT E
 refine eS U (FA 2 U eD U)<|eS U (LP (ag.cells d.Time) 1 U b_ U U U)<|eS U (SX (bf (xs:=[]) (cs:=(ag.cells (ag.mk 0 0))) U U (bg gO U)) U U)<|eS U (BI U (xC _ _ d.Time (ag.mk 0 0)))<|eS U (PK U)<|eS U (AG U)<|eh U<|cf U fun T9 F=>qT U cW U<|aH (F _ _ (aQ [0,2,3,4,5,6,7,8]) ?_)
 refine e8 U<|KK A<|aq<|mj hQ [0] (mc 1 U I) U ?_
 clear hQ hN F T9 A D C
 refine congrArg (fun z=>Value.tuple #[_,vB z]) ?_
 first|rfl|(simp_all [gj]; done)
theorem Hr (d:ax) (sgA:OA) (sgC g1:Nat):
 dL Tryz.prog 145 [(vA (nm.cells (nm.mk (Value.func (.func 203) [].toArray [].toArray) (Value.func (.func 204) [].toArray [].toArray)))),(vP g1)] [(rd sgA d.bx.ab.length 2 (d.bx.ab.map aA.cells)),(cp g1 50 (aM.cells (aM.mk d.Out d.dC d.Time (ji d.bx sgA sgC))))] (vB d.Out):=by
 refine bH kr Tryz.func145 U U fun D Q hQ hN=>?_
 try dsimp only
 refine WS fun _ A=>eO U fun C=>bE 1 U<|RK A<|WS fun _ B=>eV 3 [0,1] (mc 0 U (mr 2 U I)) U<|rS (CL (TC d sgA sgC) (bk [1]) U)<|rP 1 [] I ?_
 refine RK B<|aq<|Q1 hQ U U U ?_
 rfl
theorem HF (d:ax) (sgA:OA) (sgC g1:Nat):
 dL Tryz.prog 145 [(vA (nm.cells (nm.mk (Value.func (.func 206) [].toArray [].toArray) (Value.func (.func 207) [].toArray [].toArray)))),(vP g1)] [(rd sgA d.bx.ab.length 2 (d.bx.ab.map aA.cells)),(cp g1 50 (aM.cells (aM.mk d.Out d.dC d.Time (ji d.bx sgA sgC))))] (vB d.dC):=by
 refine bH kr Tryz.func145 U U fun D Q hQ hN=>?_
 try dsimp only
 refine WS fun _ A=>eO U fun C=>bE 1 U<|RK A<|WS fun _ B=>eV 3 [0,1] (mc 0 U (mr 2 U I)) U<|rS (CL (TP d sgA sgC) (bk [1]) U)<|rP 1 [] I ?_
 refine RK B<|aq<|Q1 hQ U U U ?_
 rfl
theorem Gu (d:ax) (sgA:OA) (sgC g1:Nat):
 dL Tryz.prog 145 [(vA (nm.cells (nm.mk (Value.func (.func 209) [].toArray [].toArray) (Value.func (.func 210) [].toArray [].toArray)))),(vP g1)] [(rd sgA d.bx.ab.length 2 (d.bx.ab.map aA.cells)),(cp g1 50 (aM.cells (aM.mk d.Out d.dC d.Time (ji d.bx sgA sgC))))] (vB true):=by
 refine bH kr Tryz.func145 U U fun D Q hQ hN=>?_
 try dsimp only
 refine WS fun _ A=>eO U fun C=>bE 1 U<|RK A<|WS fun _ B=>eV 3 [0,1] (mc 0 U (mr 2 U I)) U<|rS (CL (Sx d sgA sgC) (bk [1]) U)<|rP 1 [] I ?_
 refine RK B<|aq<|Q1 hQ U U U ?_
 rfl
end
section
open Go.RowKit
theorem yd (d:ax) (sgA:OA) (sgC g1:Nat):
 dL Tryz.prog 144 [(vS gU 3 3),(Value.func (.func 145) [].toArray [(vP g1)].toArray)] [(rd gU 3 2 fW),(rd sgA d.bx.ab.length 2 (d.bx.ab.map aA.cells)),(cp g1 50 (aM.cells (aM.mk d.Out d.dC d.Time (ji d.bx sgA sgC))))] (vI (o3 d)):=by
 refine bH kr Tryz.func144 U U fun b Q hQ hN=>?_
 try dsimp only
 refine WS fun _ F=>bE 1 U<|RK F<|ao fun _ AA=>WS fun _ G=>bE 3 U<|RK G<|aI<|rW 4<|kS fun R4 Z=>WS fun _ H=>rS (SX (gn (r:= .bool true) U U U qB) U U)<|RK H<|ao fun _ AB=>aT U<|WK AB<|ao fun _ J=>aI<|WS fun _ K=>bE 2 U<|RK K<|WS fun _ L=>rP 3 [] I ?_
 refine rS (IA 0 U (aB 0 U) JE dc U om)<|rS (lM 0 0 (nm.cells (nm.mk (Value.func (.func 203) [].toArray [].toArray) (Value.func (.func 204) [].toArray [].toArray))) U b_ (aB 0 U) (show fW[0]? =some [(Value.func (.func 203) [].toArray [].toArray),(Value.func (.func 204) [].toArray [].toArray)] from U) U dc U U)<|rS (CL (Hr d sgA sgC g1) (bk [1,2]) U)<|RK L<|cy U (fun X=>?_) (fun X=>?_)
 ·refine WS fun _ M=>rP 2 [] I ?_
  refine RK M<|aq<|Q1 hQ U U U ?_
  clear hQ hN M L K J AB H G AA F
  refine cI ?_
  simp [o3, *]
 refine cu<|aR<|KK J<|aw<|rS (SX (gn (r:= .int .i64 1) U U U (kx ⟨dc,dc⟩)) U U)<|bE 1 U<|RK Z<|kS fun R12 W=>WS fun _ A=>rS (SX (gn (r:= .bool true) U U U qB) U U)<|RK A<|ao fun _ B=>aT U<|WK B<|ao fun _ C=>aI<|WS fun _ D=>bE 2 U<|RK D<|WS fun _ E=>rP 3 [] I ?_
 refine rS (IA 1 U (aB 0 U) JE dc U om)<|rS (lM 1 0 (nm.cells (nm.mk (Value.func (.func 206) [].toArray [].toArray) (Value.func (.func 207) [].toArray [].toArray))) U b_ (aB 0 U) (show fW[1]? =some [(Value.func (.func 206) [].toArray [].toArray),(Value.func (.func 207) [].toArray [].toArray)] from U) U dc U U)<|rS (CL (HF d sgA sgC g1) (bk [1,2]) U)<|RK E<|cy U (fun Y=>?_) (fun Y=>?_)
 ·refine WS fun _ N=>rP 2 [] I ?_
  refine RK N<|aq<|Q1 hQ U U U ?_
  clear hQ hN N E D C B A L K J AB H G AA F
  refine cI ?_
  simp [o3, *]
 refine cu<|aR<|KK C<|aw<|rS (SX (gn (r:= .int .i64 2) U U U (kx ⟨dc,dc⟩)) U U)<|bE 1 U<|RK W<|kS fun R20 a=>WS fun _ O=>rS (SX (gn (r:= .bool true) U U U qB) U U)<|RK O<|ao fun _ P=>aT U<|WK P<|ao fun _ V=>aI<|WS fun _ R=>bE 2 U<|RK R<|WS fun _ S=>bE 3 U<|rS (IA 2 U (aB 0 U) JE dc U om)<|rS (lM 2 0 (nm.cells (nm.mk (Value.func (.func 209) [].toArray [].toArray) (Value.func (.func 210) [].toArray [].toArray))) U b_ (aB 0 U) (show fW[2]? =some [(Value.func (.func 209) [].toArray [].toArray),(Value.func (.func 210) [].toArray [].toArray)] from U) U dc U U)<|rS (CL (Gu d sgA sgC g1) (bk [1,2]) U)<|RK S<|aT U<|WS fun _ T=>rP 2 [] I ?_
 refine RK T<|aq<|Q1 hQ U U U ?_
 clear hQ hN T S R V P O E D C B A L K J AB H G AA F
 refine cI ?_
 simp [o3, *]
end
section
open Go.RowKit
theorem TY (d:ax) (sgA:OA) (sgC g1:Nat) (hk:d.Out=true):
 dL Tryz.prog 144 [(vS gU 3 3),(Value.func (.func 145) [].toArray [(vP g1)].toArray)] [(rd gU 3 2 fW),(rd sgA d.bx.ab.length 2 (d.bx.ab.map aA.cells)),(cp g1 50 (aM.cells (aM.mk d.Out d.dC d.Time (ji d.bx sgA sgC))))] (vI 0):=by
 have h:=yd d sgA sgC g1
 have e:o3 d=0:=by simp [o3,hk]
 rw [e] at h
 exact h
theorem Sn (d:ax) (sgA:OA) (sgC g1:Nat) (hk:d.Out=false∧d.dC=true):
 dL Tryz.prog 144 [(vS gU 3 3),(Value.func (.func 145) [].toArray [(vP g1)].toArray)] [(rd gU 3 2 fW),(rd sgA d.bx.ab.length 2 (d.bx.ab.map aA.cells)),(cp g1 50 (aM.cells (aM.mk d.Out d.dC d.Time (ji d.bx sgA sgC))))] (vI 1):=by
 have h:=yd d sgA sgC g1
 have e:o3 d=1:=by simp [o3,hk]
 rw [e] at h
 exact h
theorem Rk (d:ax) (sgA:OA) (sgC g1:Nat) (hk:d.Out=false∧d.dC=false):
 dL Tryz.prog 144 [(vS gU 3 3),(Value.func (.func 145) [].toArray [(vP g1)].toArray)] [(rd gU 3 2 fW),(rd sgA d.bx.ab.length 2 (d.bx.ab.map aA.cells)),(cp g1 50 (aM.cells (aM.mk d.Out d.dC d.Time (ji d.bx sgA sgC))))] (vI 2):=by
 have h:=yd d sgA sgC g1
 have e:o3 d=2:=by simp [o3,hk]
 rw [e] at h
 exact h
theorem CQ (l:bp) (kA:OA) (kC:Nat) (az:List RA) (cA:OA) (cC:Nat) (bA:OA) (bC:Nat) (d:ax) (sgA:OA) (sgC:Nat) (hin:dY l az) (hsl:d.bx.ab.length≤1000000) (hk:d.Out=true):
 dL Tryz.prog 122 [(vA (cr.cells (jC l kA kC cA cC bA bC))),(vA (aM.cells (aM.mk d.Out d.dC d.Time (ji d.bx sgA sgC))))] [(rd gU 3 2 fW),(rd kA l.aS.length 9 (l.aS.map ar.cells)),(rd cA l.aj.length 2 (List.zipWith au.cells l.aj az)),(dT (br au.gd l.aj az)),(rd bA l.aa.length 4 (l.aa.map bJ.cells)),(rd sgA d.bx.ab.length 2 (d.bx.ab.map aA.cells))] (vT [(vA (ag.cells (gl l d))),(vB (decide (iP l d)))]):=by
 refine bH kr Tryz.func122 U U fun AA Q hQ hN=>?_
 try dsimp only
 refine WS fun _ A=>eO U fun G=>eO U fun D=>AL U ed fun H=>bE 1 U<|RK A<|WS fun _ B=>rS (SX (DW U U zt) U U)<|rS (FU U)<|rS (CL (TY d sgA sgC D hk) (QX 3 8 1 U U U U U U) U)<|bE 1 U<|RK B<|ao fun _ C=>dj cj 9 kr<|kE 1 U<|dS (SX (ER (k:=0) U U U zt U om) U U)<|dS (o6 ((0*2)+1) U (aB 3 U) (Nat.mul_pos om dc) eD U)<|dS (gE 0 1 (Value.func (.func 204) [].toArray [].toArray) U b_ (aB 3 U) (show fW[0]? =some [(Value.func (.func 203) [].toArray [].toArray),(Value.func (.func 204) [].toArray [].toArray)] from U) U dc U)<|lz 2 [0,1] (mc 2 U (mc 1 U I)) U<|dS (CL (MD l kA kC az cA cC bA bC d sgA sgC hin) (bk [4,5,6,7,8]) U)<|kE 2 U<|cD<|fJ U cW U<|rP 1 [] I ?_
 refine RK C<|aq<|mj hQ [0] (mc 0 U I) U ?_
 have E:=EZ (l:=l) hk
 have F:=rp (l:=l) hk
 simp only [E,F]
theorem CA (l:bp) (kA:OA) (kC:Nat) (az:List RA) (cA:OA) (cC:Nat) (bA:OA) (bC:Nat) (d:ax) (sgA:OA) (sgC:Nat) (hin:dY l az) (hsl:d.bx.ab.length≤1000000) (hk:d.Out=false∧d.dC=true):
 dL Tryz.prog 122 [(vA (cr.cells (jC l kA kC cA cC bA bC))),(vA (aM.cells (aM.mk d.Out d.dC d.Time (ji d.bx sgA sgC))))] [(rd gU 3 2 fW),(rd kA l.aS.length 9 (l.aS.map ar.cells)),(rd cA l.aj.length 2 (List.zipWith au.cells l.aj az)),(dT (br au.gd l.aj az)),(rd bA l.aa.length 4 (l.aa.map bJ.cells)),(rd sgA d.bx.ab.length 2 (d.bx.ab.map aA.cells))] (vT [(vA (ag.cells (gl l d))),(vB (decide (iP l d)))]):=by
 refine bH kr Tryz.func122 U U fun AA Q hQ hN=>?_
 try dsimp only
 refine WS fun _ A=>eO U fun G=>eO U fun D=>AL U ed fun H=>bE 1 U<|RK A<|WS fun _ B=>rS (SX (DW U U zt) U U)<|rS (FU U)<|rS (CL (Sn d sgA sgC D hk) (QX 3 8 1 U U U U U U) U)<|bE 1 U<|RK B<|ao fun _ C=>dj cj 9 kr<|kE 1 U<|dS (SX (ER (k:=1) U U U zt U om) U U)<|dS (o6 ((1*2)+1) U (aB 3 U) (Nat.mul_pos om dc) eD U)<|dS (gE 1 1 (Value.func (.func 207) [].toArray [].toArray) U b_ (aB 3 U) (show fW[1]? =some [(Value.func (.func 206) [].toArray [].toArray),(Value.func (.func 207) [].toArray [].toArray)] from U) U dc U)<|lz 2 [0,1] (mc 2 U (mc 1 U I)) U<|dS (CL (Mx l kA kC az cA cC bA bC d sgA sgC hin) (bk [4,5,6,7,8]) U)<|kE 2 U<|cD<|fJ U cW U<|rP 1 [] I ?_
 refine RK C<|aq<|mj hQ [0] (mc 0 U I) U ?_
 have E:=F7 (l:=l) hk
 have F:=uh (l:=l) hk
 simp only [E,F]
theorem C_ (l:bp) (kA:OA) (kC:Nat) (az:List RA) (cA:OA) (cC:Nat) (bA:OA) (bC:Nat) (d:ax) (sgA:OA) (sgC:Nat) (hin:dY l az) (hsl:d.bx.ab.length≤1000000) (hk:d.Out=false∧d.dC=false):
 dL Tryz.prog 122 [(vA (cr.cells (jC l kA kC cA cC bA bC))),(vA (aM.cells (aM.mk d.Out d.dC d.Time (ji d.bx sgA sgC))))] [(rd gU 3 2 fW),(rd kA l.aS.length 9 (l.aS.map ar.cells)),(rd cA l.aj.length 2 (List.zipWith au.cells l.aj az)),(dT (br au.gd l.aj az)),(rd bA l.aa.length 4 (l.aa.map bJ.cells)),(rd sgA d.bx.ab.length 2 (d.bx.ab.map aA.cells))] (vT [(vA (ag.cells (gl l d))),(vB (decide (iP l d)))]):=by
 refine bH kr Tryz.func122 U U fun AA Q hQ hN=>?_
 try dsimp only
 refine WS fun _ A=>eO U fun G=>eO U fun D=>AL U ed fun H=>bE 1 U<|RK A<|WS fun _ B=>rS (SX (DW U U zt) U U)<|rS (FU U)<|rS (CL (Rk d sgA sgC D hk) (QX 3 8 1 U U U U U U) U)<|bE 1 U<|RK B<|ao fun _ C=>dj cj 9 kr<|kE 1 U<|dS (SX (ER (k:=2) U U U zt U om) U U)<|dS (o6 ((2*2)+1) U (aB 3 U) (Nat.mul_pos om dc) eD U)<|dS (gE 2 1 (Value.func (.func 210) [].toArray [].toArray) U b_ (aB 3 U) (show fW[2]? =some [(Value.func (.func 209) [].toArray [].toArray),(Value.func (.func 210) [].toArray [].toArray)] from U) U dc U)<|lz 2 [0,1] (mc 2 U (mc 1 U I)) U<|dS (CL (No l kA kC az cA cC bA bC d sgA sgC hin hsl) (bk [4,5,6,7,8]) U)<|kE 2 U<|cD<|fJ U cW U<|rP 1 [] I ?_
 refine RK C<|aq<|mj hQ [0] (mc 0 U I) U ?_
 have E:=Ga (l:=l) hk
 have F:=uW (l:=l) hk
 simp only [E,F]
theorem D0 (l:bp) (kA:OA) (kC:Nat) (az:List RA) (cA:OA) (cC:Nat) (bA:OA) (bC:Nat) (d:ax) (sgA:OA) (sgC:Nat) (hin:dY l az) (hsl:d.bx.ab.length≤1000000):
 dL Tryz.prog 122 [(vA (cr.cells (jC l kA kC cA cC bA bC))),(vA (aM.cells (aM.mk d.Out d.dC d.Time (ji d.bx sgA sgC))))] [(rd gU 3 2 fW),(rd kA l.aS.length 9 (l.aS.map ar.cells)),(rd cA l.aj.length 2 (List.zipWith au.cells l.aj az)),(dT (br au.gd l.aj az)),(rd bA l.aa.length 4 (l.aa.map bJ.cells)),(rd sgA d.bx.ab.length 2 (d.bx.ab.map aA.cells))] (vT [(vA (ag.cells (gl l d))),(vB (decide (iP l d)))]):=by
 by_cases ho:d.Out=true
 ·exact CQ l kA kC az cA cC bA bC d sgA sgC hin hsl ho
 by_cases hf:d.dC=true
 ·exact CA l kA kC az cA cC bA bC d sgA sgC hin hsl ⟨by simpa using ho,hf⟩
 ·exact C_ l kA kC az cA cC bA bC d sgA sgC hin hsl ⟨by simpa using ho,by simpa using hf⟩
end
section
open Go.RowKit
theorem KV (lA:OA) (lN lC:Nat):
 pS Tryz.prog 120 [(vS lA lN lC)] [] (fun (x:Nat)=>(Value.func (.func 142) [].toArray [(vP x)].toArray)) (fun (x:Nat)=>True) (fun (x:Nat)=>[(cp x 29 [(vS lA lN lC)])]):=by
 refine fB kr Tryz.func120 U U fun D Q hQ hN=>?_
 try dsimp only
 refine WS fun _ A=>wR U U fun C=>bE 1 U<|RK A<|WS fun _ B=>rS (FU U)<|rP 1 [] I ?_
 refine RK B<|aq<|LX hQ C [0] [] I U U U U ?_
 trivial
theorem Lb (nl:List Int) (nlA:OA) (nlC g1:Nat) (hlen:nl.length≤12):
 Nz Tryz.prog 142 [] [(vP g1)] [(rd nlA nl.length 1 (nl.map iC)),(cp g1 29 [(vS nlA nl.length nlC)])] (r9 nl):=by
 refine Gh kr Tryz.func142 U U fun l J Z A0 T Q hY K AB hQ hN=>?_
 try dsimp only
 refine WS fun _ M=>rP 3 [] (mr 2 U I) ?_
 refine RK M<|aI ?_
 have F:(0≤nl.length)∧(J 0 A0)∧(Fo A0 T A0):=by exact ⟨Nat.zero_le _,K,AB⟩
 refine bZ (ι:={z:Nat×ay // (z.1≤nl.length)∧(J z.1 z.2)∧(Fo A0 T z.2)}) [0,1,5,6] [1] U U (fun z=>[(7,(vI (z.1.1:Int)))]) (fun z=>[z.1.2]) (fun _=>rfl) (fun _=>rfl) (fun z=>nl.length-z.1.1) ⟨(0,A0),F⟩ (bu U) (aQ [1,0]) ?_
 clear F
 rintro ⟨⟨i,A⟩,⟨G,B,C⟩⟩ J2 L
 try dsimp only at G B C
 try dsimp only
 refine WS fun _ N=>rP 1 [] I ?_
 refine RK N<|ao fun _ O=>bW U (aV fun AA=>?_) (aU fun AA=>?_)
 ·refine bS<|ai<|ai<|aL ?_
  refine hN _ _ _ (jW (vs:=[]) trivial fun w hs=>SN 1 U (by rw [ub]; have e:nl.length=i:=om; rw [e]; exact B) C hs)
 refine WK O<|ao fun _ P=>aI<|WS fun _ R=>?_
 obtain ⟨x,hx⟩:=aJ nl i om
 have S:=bM iC hx
 refine rS (IA i U (aB 0 U) dk dc om om)<|rS (gE i 0 (vI x) U b_ (aB 0 U) S U dc U)<|bE 1 U<|RK R<|WS fun _ H=>rP 2 [] I ?_
 refine Fz 1 hY B C U U U (HG hx) U U (fun B9 E D=>?_) (fun B9 E D=>?_)
 rotate_left 1
 ·refine rP 1 [] I ?_
  refine RK H<|aT U<|aq ?_
  refine hQ _ _ _ (jW (vs:=[]) trivial fun w hs=>OS 1 U E D hs)
 refine bE 1 U<|RK H<|ct U<|cu<|aR<|KK P<|aw<|rP 2 [] I ?_
 refine aH ?_
 refine bq (L ⟨((i+1),B9),⟨om,E,D⟩⟩ _ _ _ U os (bu U) (aQ [0,1]))
end
section
open Go.RowKit
theorem Ob (x:Int):
 dL Tryz.prog 182 [(vI x)] [] (vB false):=by
 refine bH kr Tryz.func182 U U fun C Q hQ hN=>?_
 try dsimp only
 refine WS fun _ A=>bE 1 U<|RK A<|WS fun _ B=>rP 4 [] I ?_
 refine RK B<|aq<|Q1 hQ U U U ?_
 simp
theorem Ok (x y:Int):
 dL Tryz.prog 169 [(vI x),(vI y)] [] (vB (decide (x<y))):=by
 refine bH kr Tryz.func169 U U fun C Q hQ hN=>?_
 try dsimp only
 refine WS fun _ A=>bE 1 U<|RK A<|WS fun _ B=>bE 1 U<|rS (CL (Ob x) (aO) U)<|rP 11 [] I ?_
 refine RK B<|aq<|Q1 hQ U U U ?_
 exact cB (gR.2 om)
theorem GJ (l:List Int) (lA:OA) (lC:Nat) (hlen:l.length≤1000000):
 Ma Tryz.prog 163 [(vS lA l.length lC),(vI 0),(vI (l.length:Int))] [] (own lA lC 3 1 (l.map iC)) (fun (x:(List Int))=>(vT [])) (fun (x:(List Int))=>x.Perm l∧x.Pairwise (· ≤ ·)) (fun (x:(List Int))=>(own lA lC 3 1 (x.map iC))):=by
 refine vM kr Tryz.func163 U U fun g Q hQ hN=>?_
 try dsimp only
 refine WS fun _ X=>bE 1 U<|rS (SX (gn (r:= .int .i64 1) U U U (kx ⟨dc,dc⟩)) U U)<|rP 1 [] I ?_
 refine RK X<|aI ?_
 have A:(1≤1∧(1≤l.length∨1=1))∧(l.length=l.length)∧(l.Perm l)∧(QS l 1):=by exact ⟨om,rfl,List.Perm.refl _,Ny⟩
 refine bZ (ι:={z:Nat×(List Int) // (1≤z.1∧(z.1≤l.length∨z.1=1))∧(z.2.length=l.length)∧(z.2.Perm l)∧(QS z.2 z.1)}) [0,1,2] [] U U (fun z=>[(6,(vI (z.1.1:Int)))]) (fun z=>[(own lA lC 3 1 (z.1.2.map iC))]) (fun _=>rfl) (fun _=>rfl) (fun z=>l.length-z.1.1) ⟨(1,l),A⟩ (bu U) (aQ [0]) ?_
 clear A
 rintro ⟨⟨i,m⟩,⟨K,AB,E,F⟩⟩ J2 M
 try dsimp only at K AB E F
 try dsimp only
 refine ao fun _ Y=>WS fun _ Z=>rP 3 [] I ?_
 refine RK Z<|bW U (aV fun e=>?_) (aU fun e=>?_)
 ·refine bS<|ai<|ai<|aL<|LM hN m 0 [] I U U U U ?_
  exact ⟨E,MJ F om⟩
 refine WK Y<|ao fun _ O=>aI<|WS fun _ b=>rP 2 [] I ?_
 refine RK b<|aI ?_
 have A:(i≤i)∧(m.length=l.length)∧(m.Perm l)∧(Pg m i i):=by exact ⟨Nat.le_refl _,AB,E,Hk F om⟩
 refine bZ (ι:={z:Nat×(List Int) // (z.1≤i)∧(z.2.length=l.length)∧(z.2.Perm l)∧(Pg z.2 i z.1)}) [0,1,2,6] [] U U (fun z=>[(7,(vI (z.1.1:Int)))]) (fun z=>[(own lA lC 3 1 (z.1.2.map iC))]) (fun _=>rfl) (fun _=>rfl) (fun z=>z.1.1) ⟨(i,m),A⟩ (bu U) (aQ [0]) ?_
 clear A
 rintro ⟨⟨j,q⟩,⟨G,B,C,D⟩⟩ J8 W
 try dsimp only at G B C D
 try dsimp only
 refine ao fun _ c=>ao fun _ J=>dj cj 15 kr<|dP 4 [] I ?_
 refine jB (t:=19) U (aV fun hj=>?_) (aU fun hj=>?_)
 ·refine kE 11 U<|cD<|RK J<|ct U<|bS<|ai<|ai<|aL<|aR<|KK O<|aw<|rP 3 [] I ?_
  refine aH ?_
  refine bq (M ⟨((i+1),q),⟨om,B,C,by exact JQ om D⟩⟩ _ _ _ U (by simp only []; omega) (bu U) (aQ [0]))
 refine dP 2 [] I ?_
 obtain ⟨x,hx⟩:=aJ q j om
 have L:=bM iC hx
 refine dS (IA j U (av (n:=l.length) 0 U sq) dk dc om om) ?_
 refine dS (gE j 0 (vI x) U b_ (av (n:=q.length) 0 U sm) L U dc U)<|dP 3 [] I ?_
 obtain ⟨y,hy⟩:=aJ q (j-1) om
 have V:=bM iC hy
 refine dS (IA (j-1) U (av (n:=l.length) 0 U sq) dk dc om om) ?_
 refine dS (gE (j-1) 0 (vI y) U b_ (av (n:=q.length) 0 U sm) V U dc U)<|dS (CL (Ok x y) (aO) U)<|dP 1 [] I ?_
 refine cD<|RK J<|bW U (aV fun H=>?_) (aU fun H=>?_)
 ·refine bS<|ai<|ai<|aL<|aR<|KK O<|aw<|rP 3 [] I ?_
  refine aH ?_
  refine bq (M ⟨((i+1),q),⟨om,B,C,by exact IH hx hy om G H D⟩⟩ _ _ _ U (by simp only []; omega) (bu U) (aQ [0]))
 refine WK c<|ao fun _ N=>aI<|dy cj [15,16,17] [8,9,12,13,14] [] [] [0] U U U U U<|eS U (MV U)<|eS U (MV U)<|eS U (MV U)<|eS U (MV U)<|eS U (BI U (uA ⟨om,om⟩))<|eS U (MV U)<|eS U (MV U)<|eS U (BI U (uA ⟨om,om⟩)) ?_
 refine fS U (IA (j-1) U (av (n:=l.length) 0 U sq) dk dc om om) ?_
 refine fS U (gE (j-1) 0 (vI y) U b_ (av (n:=q.length) 0 U sm) V U dc U)<|eS U (MV U)<|eS U (MV U) ?_
 refine fS U (IA j U (av (n:=l.length) 0 U sq) dk dc om om) ?_
 refine fS U (gE j 0 (vI x) U b_ (av (n:=q.length) 0 U sm) L U dc U) ?_
 refine fS U (IA j U (av (n:=l.length) 0 U sq) dk dc om om) ?_
 refine eh U<|cf U fun T12 P=>f_ (k:=j) (o:=0) (vs:=[(vI y)]) (es':=(List.map iC (q.set j y))) (C':=[(own lA lC 3 1 (List.map iC (q.set j y)))]) 0 U U U Ab U U U U L U dc (by exact (List.map_set (f:=iC) (l:=q) (i:=j) (a:=y)).symm) U<|aH (P _ _ (aQ []) ?_)
 refine cf U fun T13 R=>?_
 obtain ⟨d,AA⟩:=aJ (q.set j y) (j-1) os
 have hx15m:(List.map iC (q.set j y))[(j-1)]? =some (iC d):=by rw [gf,AA]; rfl
 refine rS (IA (j-1) U (av (n:=l.length) 0 U sq) dk dc om om) ?_
 refine aH (R _ _ (aQ []) ?_)
 refine cf U fun T16 S=>f_ (k:=(j-1)) (o:=0) (vs:=[(vI x)]) (es':=(List.map iC ((q.set j y).set (j-1) x))) (C':=[(own lA lC 3 1 (List.map iC ((q.set j y).set (j-1) x)))]) 0 U U U Ab U U U U hx15m U dc (by exact (List.map_set (f:=iC) (l:=(q.set j y)) (i:=(j-1)) (a:=x)).symm) U<|aH (S _ _ (aQ []) ?_)
 refine e8 U<|aR<|KK N<|aw<|rP 3 [] I ?_
 refine aH ?_
 have T:(vI (((j-1):Nat):Int))=(vI ((j:Int)-1)):=by exact cI om
 refine bq (W ⟨((j-1),((q.set j y).set (j-1) x)),⟨om,by simp; exact B,(H5 hx hy).trans C,Kx hx hy om G H D⟩⟩ _ _ _ U (by simp only []; omega) (cY 4<|bw U T<|dG.nil _) (aQ [0]))
theorem Oa (x:Int) (hx:0≤x∧x≤100):
 pS Tryz.prog 173 [(Value.int .u64 x)] [] (fun (x:Int)=>(vI x)) (fun (x:Int)=>True) (fun (x:Int)=>[]):=by
 refine fB kr Tryz.func173 U U fun N Q hQ hN=>?_
 try dsimp only
 refine WS fun _ D=>bE 1 U<|RK D<|ao fun _ E=>WS fun _ F=>rP 1 [] I ?_
 refine rS (BI U Fl)<|RK F<|cy U (aU fun L=>?_) (aV fun L=>?_)
 ·exfalso; omega
 refine WK E<|ao fun _ G=>WS fun _ H=>rP 1 [] I ?_
 refine rS (BI U Fl)<|RK H<|cy U (aU fun M=>?_) (aV fun M=>?_)
 ·exfalso; omega
 refine WK G<|ao fun _ AA=>WS fun _ J=>rP 1 [] I ?_
 refine rS (BI U Fl)<|RK J<|cy U (aU fun C=>?_) (aV fun C=>?_)
 ·exfalso; omega
 refine WK AA<|WS fun _ B=>bE 2 U<|rS (SX (mC (m:=x) U U RM M1 (BG (by first|assumption|omega))) U U)<|QT (k:=(x).toNat) U U U WU om (Nat.lt_of_lt_of_le (m:=200) om (of_decide_eq_true kr)) U fun A K=>rS (SX (mC (m:=A) U U M1 sO (mV (by first|assumption|omega))) U U)<|rP 2 [] I ?_
 refine RK B<|aq<|LX hQ (0+A) [] [] I U U U U ?_
 trivial
theorem QD (x:Int) (hx:0≤x∧x≤100):
 pS Tryz.prog 158 [(Value.int .u64 x)] [] (fun (x:Int)=>(vI x)) (fun (x:Int)=>True) (fun (x:Int)=>[]):=by
 refine fB kr Tryz.func158 U U fun F Q hQ hN=>?_
 try dsimp only
 refine WS fun _ A=>bE 1 U<|RK A<|ao fun _ B=>ct U<|WK B<|WS fun _ C=>rP 1 [] I ?_
 refine cX (Oa x hx) (aO) U fun E D=>?_
 try dsimp only
 refine rP 1 [] I ?_
 refine RK C<|aq<|LX hQ E [] [] I U U U U ?_
 trivial
theorem TF (l:List Int) (lA:OA) (lC:Nat) (u:Int) (hlen:l.length≤12):
 Ma Tryz.prog 157 [(vS lA l.length lC),(vI 0),(vI (l.length:Int)),(vI u)] [] (own lA lC 3 1 (l.map iC)) (fun (x:(List Int))=>(vT [])) (fun (x:(List Int))=>x.Perm l∧x.Pairwise (· ≤ ·)) (fun (x:(List Int))=>(own lA lC 3 1 (x.map iC))):=by
 refine vM kr Tryz.func157 U U fun K Q hQ hN=>?_
 try dsimp only
 refine WS fun _ A=>bE 1 U<|RK A<|WS fun _ B=>bE 1 U<|RK B<|aI<|rW 1<|kS fun R3 AA=>aI<|WS fun _ C=>bE 4 U<|RK C<|ao fun _ H=>WS fun _ D=>rP 2 [] I ?_
 refine RK D<|bW U (aV fun G=>?_) (aU fun G=>?_)
 ·exfalso; omega
 refine WS fun _ E=>rP 3 [] I ?_
 refine oO 0 U U U U (GJ l lA lC om) U rK U (fun J F=>?_)
 try dsimp only
 refine RK E<|aq<|LM hQ J 0 [] I U U U U ?_
 assumption
theorem PA (l:List Int) (lA:OA) (lC:Nat) (hlen:l.length≤12):
 Ma Tryz.prog 141 [(vS lA l.length lC)] [] (own lA lC 3 1 (l.map iC)) (fun (x:(List Int))=>(vT [])) (fun (x:(List Int))=>x.Perm l∧x.Pairwise (· ≤ ·)) (fun (x:(List Int))=>(own lA lC 3 1 (x.map iC))):=by
 refine vM kr Tryz.func141 U U fun F Q hQ hN=>?_
 try dsimp only
 refine WS fun _ A=>bE 3 U<|RK A<|aw<|rP 3 [] I ?_
 refine rS (SX (mC (m:=(l.length:Int)) U U sO TA (AY (by first|assumption|omega))) U U)<|cX (QD (l.length:Int) om) (aO) U fun E B=>?_
 try dsimp only
 refine oO 0 U U U U (TF l lA lC E hlen) U rK U (fun D C=>?_)
 try dsimp only
 refine aH<|LM hN D 0 [] I U U U U ?_
 assumption
end
section
open Go.RowKit
theorem Ic (nl:List Int) (nlA:OA) (nlC g1:Nat) (hlen:nl.length≤12):
 pS Tryz.prog 156 [(vS none 0 0),(Value.func (.func 142) [].toArray [(vP g1)].toArray)] [(rd nlA nl.length 1 (nl.map iC)),(cp g1 29 [(vS nlA nl.length nlC)])] (fun (x:(OA)×Nat)=>(vS x.1 nl.length x.2)) (fun (x:(OA)×Nat)=>True) (fun (x:(OA)×Nat)=>[(own x.1 x.2 3 1 (nl.map iC))]):=by
 refine fB kr Tryz.func156 U U fun R Q hQ hN=>?_
 try dsimp only
 refine WS fun _ D=>wR U U fun J=>bE 1 U<|RK D<|ao fun _ E=>WS fun _ G=>rP 1 [] I ?_
 refine RK G<|aI<|jk 1 U (by exact fun _ h=>h)<|jk 3 U (by exact fun _ h=>h)<|eK 3 1 ?_
 refine Fm (L0:=[(2,(vP J))]) (F:=[(rd nlA nl.length 1 (nl.map iC)).ro,(cp g1 29 [(vS nlA nl.length nlC)]).ro]) (xs:=(r9 nl)) (fun k (y:(OA)×Nat)=>True) (fun k y=>[(own y.1 y.2 3 1 ((nl.take k).map iC)),(cp J 29 [(vS y.1 ((nl.take k).length) y.2)]),(rd nlA nl.length 1 (nl.map iC)).ro]) (fun _ (_:Unit)=>False) (fun _ _=>[]) [0,3,4] [2,1] (none,0) U U (Lb nl nlA nlC g1 (by first|assumption|omega|(simp; done))) U U U (by trivial) (by simp only [List.forall_mem_cons,List.not_mem_nil,false_imp_iff,implies_true,and_true]; exact ⟨⟨_,sm,(dQ (bY _))⟩,⟨_,sm,(dQ (bY _))⟩⟩) (by exact Ey) U (bu U) ?_ ?_ (fun _ _ _ h=>h.elim) (fun _ _ h=>h.elim)
 rotate_left 1
 ·rintro O ⟨a,c⟩ AA
  try dsimp only
  rw [yT]
  refine aR<|KK E<|WS fun _ A=>rP 2 [] (mc 4 U I) ?_
  refine RK A<|aq<|hQ _ _ _ (rn 0 U U<|jW (vs:=[(vS a nl.length c)]) ⟨U,trivial⟩ fun w hs=>QJ (a,c) [3] ?_ ?_ U U U hs)
  ·rfl
  ·trivial
 rintro k x ⟨a,c⟩ l ra rb S T K5 Qr6 hx K H B L M
 obtain ⟨y,hy,rfl⟩:=H4 hx
 try dsimp only
 refine aw<|rP 1 [] I ?_
 refine aH<|bq (H _ _ ?_)
 refine aI<|aw<|rP 2 [] (mc 2 U I) ?_
 refine d_ (xs:=[.tmp 9]) (cs:=[(vI y)]) U dk jO U U U U (by simp [Value.cells]) U U fun P=>?_
 refine dD (es2:=(List.map iC (nl.take (k+1)))) (m':=(nl.take (k+1)).length) 2 U U U rL U U sm (bo (es:=List.map iC [y]) 0 U U (by simp [bL]) U) (kD _) (by simp; omega) (by simp [maxLen]; omega) (by rw [xd hy]; simp) sm U fun N C=>?_
 try dsimp only
 refine WQ U Db U U<|aH<|aR ?_
 exact B (N,C) _ _ (by trivial) (aQ [1,2,3,4])
theorem Hf (nl:List Int) (nlA:OA) (nlC g1:Nat) (hlen:nl.length≤12):
 pS Tryz.prog 140 [(Value.func (.func 142) [].toArray [(vP g1)].toArray)] [(rd nlA nl.length 1 (nl.map iC)),(cp g1 29 [(vS nlA nl.length nlC)])] (fun (x:(OA)×Nat)=>(vS x.1 nl.length x.2)) (fun (x:(OA)×Nat)=>True) (fun (x:(OA)×Nat)=>[(own x.1 x.2 3 1 (nl.map iC))]):=by
 refine fB kr Tryz.func140 U U fun G Q hQ hN=>?_
 try dsimp only
 refine WS fun _ A=>bE 1 U<|RK A<|WS fun _ B=>rP 1 [] I ?_
 refine cX (Ic nl nlA nlC g1 hlen) (bk [0,1]) U fun F E=>?_
 obtain ⟨C,D⟩:=F
 try dsimp only
 refine rP 1 [] I ?_
 refine RK B<|aq<|LX hQ (C,D) [0] [] I U U U U ?_
 trivial
theorem J_ (nl:List Int) (nlA:OA) (nlC g1:Nat) (hlen:nl.length≤12):
 pS Tryz.prog 119 [(Value.func (.func 142) [].toArray [(vP g1)].toArray)] [(rd nlA nl.length 1 (nl.map iC)),(cp g1 29 [(vS nlA nl.length nlC)])] (fun (x:(OA)×Nat)=>(vS x.1 nl.length x.2)) (fun (x:(OA)×Nat)=>True) (fun (x:(OA)×Nat)=>[(own x.1 x.2 3 1 ((oc nl).map iC))]):=by
 refine fB kr Tryz.func119 U U fun J Q hQ hN=>?_
 try dsimp only
 refine WS fun _ B=>bE 1 U<|RK B<|WS fun _ C=>rP 1 [] I ?_
 refine cX (Hf nl nlA nlC g1 hlen) (bk [0,1]) U fun AA H=>?_
 obtain ⟨F,G⟩:=AA
 try dsimp only
 refine bE 1 U<|RK C<|WS fun _ D=>rP 1 [] I ?_
 refine oO 0 U U U U (PA nl F G hlen) U rK U (fun m A=>?_)
 try dsimp only
 refine RK D<|WS fun _ E=>?_
 obtain rfl:=Ct A.1 A.2
 skip
 refine rP 2 [] I ?_
 refine RK E<|aq<|LX hQ (F,G) [0] [] I U U U U ?_
 trivial
end
section
open Go.RowKit
theorem Js (r:fu) (kA:OA) (kC:Nat) (az:List RA) (cA:OA) (cC:Nat) (bA:OA) (bC:Nat) (slA:OA) (slC:Nat) (drA:OA) (drC:Nat) (ha:List c_) (heA:OA) (heC:Nat) (tz:List RA) (tA:OA) (tC:Nat) (ms:Value) (gw h:Nat) (gm g1 g2:Nat) (hin:lS r az ha) (htz:tz.length=r.aD.length) (hh:h<r.aD.length) (hok:kp r (h+1)):
 Ma Tryz.prog 146 [(vI (h:Int)),(vP g1),(vP g2)] [(rd kA r.ak.aS.length 9 (r.ak.aS.map ar.cells)),(rd cA r.ak.aj.length 2 (List.zipWith au.cells r.ak.aj az)),(dT (br au.gd r.ak.aj az)),(rd bA r.ak.aa.length 4 (r.ak.aa.map bJ.cells)),(rd slA r.bj.length 1 (r.bj.map iC)),(rd drA r.cq.length 1 (r.cq.map iC)),(rd heA r.aD.length 1 (List.zipWith cL r.aD ha)),(dT (br fj r.aD ha)),(rd tA ((fU r).length) 1 (List.zipWith Mq (fU r) tz)),(dT (br Rf (fU r) tz)),(cp gw 207 (kv.cells (kv.mk (yX r kA kC cA cC bA bC slA slC drA drC heA heC) (bD.mk tA ((fU r).length) tC) ms))),(cp g1 178 [(vP gw)]),(cp g2 205 [(Value.map (some gm))])] (kh iV gm (cT jY (eG r.ak r.aD r.bj.length h 0))) (fun (x:Unit)=>(vT [])) (fun (x:Unit)=>True) (fun (x:Unit)=>(kh iV gm (cT jY (eG r.ak r.aD r.bj.length (h+1) 0)))):=by
 have v:=hin.line
 have A4:=hin.iu
 have A5:=hin.has
 have Ad:=hin.ir
 have AC:=hin.draw
 have An:=j4 (r:=r)
 refine vM kr Tryz.func146 U U fun w0 Q hQ hN=>?_
 try dsimp only
 refine WS fun _ g=>eV 1 [] (mr 12 U I) U<|rS (SX (cS U U) U U)<|rP 3 [] (mr 11 U I) ?_
 obtain ⟨ht,B⟩:=aJ r.aD h om
 obtain ⟨A,C⟩:=aJ ha h om
 have Z:(List.zipWith cL r.aD ha)[h]? =some (cL ht A):=dF B C
 have s:=hin.gH _ _ _ B C
 have AO:=s.nx
 have N:=hok h ht om B
 obtain ⟨tr,G⟩:=aJ (fU r) h om
 obtain ⟨tra,F⟩:=aJ tz h om
 have c:(List.zipWith Mq (fU r) tz)[h]? =some (Mq tr tra):=dF G F
 refine rS (IA h U (aB 9 U) JF dc om om)<|rS (gE h 0 (vS tra.1 tr.length tra.2) U b_ (aB 9 U) c U dc U) ?_
 have AB:=G3 B G
 have A1:tr.length=r.bj.length:=by rw [AB,List.length_map]; exact N.1
 have A0:=N.1
 refine rP 2 [] I ?_
 refine RK g<|aI ?_
 have E:(0≤r.bj.length):=by exact Nat.zero_le _
 refine bZ (ι:={z:Nat // (z≤r.bj.length)}) [0,1,2,14,15] [1,2,3,4,5,6,7,8,9,10,11,12,13] U U (fun z=>[(16,(vI (z.1:Int)))]) (fun z=>[(kh iV gm (cT jY (eG r.ak r.aD r.bj.length h z.1)))]) (fun _=>rfl) (fun _=>rfl) (fun z=>r.bj.length-z.1) ⟨0,E⟩ (bu U) (aQ [1,2,3,4,5,6,7,8,9,10,11,12,13,0]) ?_
 clear E
 rintro ⟨i,u⟩ J2 K
 try dsimp only
 have a:i<r.bj.length→(eG r.ak r.aD r.bj.length h i).lookup (i:Int)=jZ r.ak r.aD i h:=Jj
 refine WS fun _ k=>rP 1 [] I ?_
 refine RK k<|ao fun _ m=>bW U (aV fun h5=>?_) (aU fun h5=>?_)
 ·refine bS<|ai<|ai<|aL ?_
  rw [show (eG r.ak r.aD r.bj.length h i)=(eG r.ak r.aD r.bj.length (h+1) 0) from by rw [show i=r.bj.length by omega]; exact Of]
  refine LM hN () 13 [] I U U U U ?_
  trivial
 refine WK m<|ao fun _ L=>aI<|WS fun _ n=>rP 1 [] I ?_
 obtain ⟨x,hx⟩:=aJ tr i om
 have y:=bM ag.cells hx
 refine rS (IA i U (show iJ _ (rd tra.1 tr.length 2 (tr.map ag.cells)).holds from (cU 9 U (bQ G F (by simp [Rf])))) lu dc om om)<|rS (lM i 0 (ag.cells x) U b_ (show iJ _ (rd tra.1 tr.length 2 (tr.map ag.cells)).holds from (cU 9 U (bQ G F (by simp [Rf])))) y U dc U U)<|AL U ed fun b8=>bE 1 U<|fJ U cW U<|RK n<|WS fun _ o=>eV 2 [] (mr 13 U I) U<|rS (SX (tD (kV:=iV) (x:=(i:Int)) (l:=(eG r.ak r.aD r.bj.length h i)) (f:=jY) (z:=(ag.mk 0 0)) U U U s9 (iz sO) VF (by exact aB 14 U)) U U)<|bE 3 U<|AL U ed fun A2=>fJ U cW U<|bE 1 U<|RK o<|ao fun _ P=>WS fun _ H=>eV 1 [] (mr 13 U I) U<|rS (SX (cS U U) U U)<|eV 4 [] (mr 12 U I) U<|rS (IA h U (aB 8 U) oz dc om om)<|rS (gE h 0 (vS A.1.1 ht.length A.1.2) U b_ (aB 8 U) Z U dc U)<|rP 1 [] I ?_
 obtain ⟨d,hd⟩:=aJ ht i om
 obtain ⟨da,p⟩:=aJ A.2 i om
 have q:(List.zipWith ax.cells ht A.2)[i]? =some (ax.cells d da):=dF hd p
 refine rS (IA i U (show iJ _ (rd A.1.1 ht.length 7 (List.zipWith ax.cells ht A.2)).holds from (cU 9 U (bQ B C cx))) rr dc om om)<|rS (o6 (i*7) U (show iJ _ (rd A.1.1 ht.length 7 (List.zipWith ax.cells ht A.2)).holds from (cU 9 U (bQ B C cx))) (Nat.mul_pos om dc) eD U)<|rS (gE i 0 (vB d.Out) U b_ (show iJ _ (rd A.1.1 ht.length 7 (List.zipWith ax.cells ht A.2)).holds from (cU 9 U (bQ B C cx))) q U dc U)<|rP 1 [] I ?_
 refine bK (t:=39) U (fun J=>?_) (fun J=>?_)
 ·refine bE 3 U<|RK H<|aT U<|WS fun _ R=>rP 2 [] (mr 14 U I) ?_
  have T:(fy (eG r.ak r.aD r.bj.length h i) (i:Int))=(eG r.ak r.aD r.bj.length h (i+1)):=by exact Fv (by exact HY B hd J)
  refine tj (kV:=iV) (x:=(i:Int)) (C':=[_,_,_,_,_,_,_,_,_,_,_,_,_,_,_,(kh iV gm (cT jY (eG r.ak r.aD r.bj.length h (i+1))))]) 15 U U U U s9 (iz sO) U ((ou _ _ _).symm.trans (congrArg _ T)) U<|RK R<|bS<|ai<|aL<|KK L<|aw<|rP 2 [] I ?_
  refine aH ?_
  have AA:(vI (((i+1):Nat):Int))=(vI ((i:Int)+1)):=by exact cI om
  refine bq (K ⟨(i+1),(by first|omega|(simp only []; omega))⟩ _ _ _ U os (cY 5<|bw U AA<|dG.nil _) (aQ [2,3,4,5,6,7,8,9,10,11,12,13,14,15]))
 refine rP 3 [] I ?_
 refine RK H<|cy U (fun D=>?_) (fun D=>?_)
 ·rw [Bool.not_eq_true'] at D
  refine WS fun _ S=>rP 2 [] (mr 14 U I) ?_
  have V:(fy (eG r.ak r.aD r.bj.length h i) (i:Int))=(eG r.ak r.aD r.bj.length h (i+1)):=by exact Fv (by exact EE ((a om).symm.trans (Option.not_isSome_iff_eq_none.1 (by rw [D]; decide))))
  refine tj (kV:=iV) (x:=(i:Int)) (C':=[_,_,_,_,_,_,_,_,_,_,_,_,_,_,_,(kh iV gm (cT jY (eG r.ak r.aD r.bj.length h (i+1))))]) 15 U U U U s9 (iz sO) U ((ou _ _ _).symm.trans (congrArg _ V)) U<|RK S<|bS<|ai<|aL<|KK L<|aw<|rP 2 [] I ?_
  refine aH ?_
  have W:(vI (((i+1):Nat):Int))=(vI ((i:Int)+1)):=by exact cI om
  refine bq (K ⟨(i+1),(by first|omega|(simp only []; omega))⟩ _ _ _ U os (cY 5<|bw U W<|dG.nil _) (aQ [2,3,4,5,6,7,8,9,10,11,12,13,14,15]))
 rw [Bool.not_eq_false'] at D
 refine WK P<|aw ?_
 obtain ⟨O,b⟩:=Option.isSome_iff_exists.1 D
 have M:jZ r.ak r.aD i h=some O:=(a om).symm.trans b
 have e:=Pk AB hx hd
 have A6:=E6 (fun j x hj hx=>hok j x om hx) om M
 have w:=Fk (N.2 d (aP hd))
 rw [← e] at w
 rw [show ((List.lookup (i:Int) (eG r.ak r.aD r.bj.length h i)).getD (ag.mk 0 0))=O from by rw [b]; rfl]
 refine eV 6 [0,1,2] (mr 14 U (mc 0 U (mc 1 U I))) U<|rS (BI U (uz om om om))<|eV 5 [0,1] (mc 0 U (mc 1 U I)) U<|rS (BI U (uz om om om))<|rP 1 [] I ?_
 refine rS (SX (bf (xs:=[(0,.tmp 52),(1,.tmp 58)]) (cs:=(ag.cells (ag.mk (O.Lo+(x.Lo/10)) (O.Hi+(x.Hi/10))))) U U (bg gO U)) U U) ?_
 have X:(ew (eG r.ak r.aD r.bj.length h i) (i:Int) (ag.mk (O.Lo+(x.Lo/10)) (O.Hi+(x.Hi/10))))=(eG r.ak r.aD r.bj.length h (i+1)):=by exact Nh om (by rw [M]; rfl) (by rw [e]; exact DA B hd (by rw [J]; decide) M)
 refine iR (kV:=iV) (x:=(i:Int)) (C':=[_,_,_,_,_,_,_,_,_,_,_,_,_,_,_,(kh iV gm (cT jY (eG r.ak r.aD r.bj.length h (i+1))))]) 15 U U U U s9 (iz sO) U ((gN _ _ _ _).symm.trans (congrArg _ X)) U<|aH<|aR<|KK L<|aw<|rP 2 [] I ?_
 refine aH ?_
 have Y:(vI (((i+1):Nat):Int))=(vI ((i:Int)+1)):=by exact cI om
 refine bq (K ⟨(i+1),(by first|omega|(simp only []; omega))⟩ _ _ _ U os (cY 5<|bw U Y<|dG.nil _) (aQ [2,3,4,5,6,7,8,9,10,11,12,13,14,15]))
theorem Sk (r:fu) (kA:OA) (kC:Nat) (az:List RA) (cA:OA) (cC:Nat) (bA:OA) (bC:Nat) (slA:OA) (slC:Nat) (drA:OA) (drC:Nat) (ha:List c_) (heA:OA) (heC:Nat) (tz:List RA) (tA:OA) (tC:Nat) (ms:Value) (gw n:Nat) (hin:lS r az ha) (htz:tz.length=r.aD.length) (hn:n≤r.aD.length) (hok:kp r n):
 pS Tryz.prog 123 [(vP gw),(vI (n:Int))] [(rd kA r.ak.aS.length 9 (r.ak.aS.map ar.cells)),(rd cA r.ak.aj.length 2 (List.zipWith au.cells r.ak.aj az)),(dT (br au.gd r.ak.aj az)),(rd bA r.ak.aa.length 4 (r.ak.aa.map bJ.cells)),(rd slA r.bj.length 1 (r.bj.map iC)),(rd drA r.cq.length 1 (r.cq.map iC)),(rd heA r.aD.length 1 (List.zipWith cL r.aD ha)),(dT (br fj r.aD ha)),(rd tA ((fU r).length) 1 (List.zipWith Mq (fU r) tz)),(dT (br Rf (fU r) tz)),(cp gw 207 (kv.cells (kv.mk (yX r kA kC cA cC bA bC slA slC drA drC heA heC) (bD.mk tA ((fU r).length) tC) ms)))] (fun (x:Nat)=>(Value.map (some x))) (fun (x:Nat)=>True) (fun (x:Nat)=>[(kh iV x (cT jY (Bw r n)))]):=by
 have c:=hin.line
 have m:=hin.iu
 have o:=hin.has
 have e:=hin.ir
 have d:=hin.draw
 have f:=j4 (r:=r)
 refine fB kr Tryz.func123 U U fun q Q hQ hN=>?_
 try dsimp only
 refine WS fun _ V=>wR U U fun k=>rP 1 [] I ?_
 refine RK V<|WS fun _ W=>mT (kV:=iV) U U fun B=>?_
 try dsimp only
 refine AL U Sp fun l=>NI U FN U U<|RK W<|ao fun _ X=>WS fun _ Y=>eV 1 [] (mc 2 U I) U<|rS (SX (cS U U) U U)<|rP 5 [] (mr 13 U I) ?_
 refine RK Y<|aI ?_
 skip
 have A:(0≤r.bj.length):=by exact Nat.zero_le _
 refine bZ (ι:={z:Nat // (z≤r.bj.length)}) [1,2,5,15] [0,2,3,4,5,6,7,8,9,10,11,12,13] U U (fun z=>[(16,(vI (z.1:Int)))]) (fun z=>[(kh iV B (cT jY (eG r.ak r.aD z.1 0 0)))]) (fun _=>rfl) (fun _=>rfl) (fun z=>r.bj.length-z.1) ⟨0,A⟩ (bu U) (aQ [0,2,3,4,5,6,7,8,9,10,11,12,13,1]) ?_
 clear A
 rintro ⟨i,a⟩ J8 AA
 try dsimp only
 refine WS fun _ Z=>rP 1 [] I ?_
 refine RK Z<|ao fun _ D=>cy U (aU fun S=>?_) (aV fun S=>?_)
 ·refine WK D<|ao fun _ E=>aI<|WS fun _ F=>bE 2 U<|RK F<|aw<|rP 2 [] (mc 0 U I) ?_
  refine rS (SX (bf (xs:=[]) (cs:=(ag.cells (ag.mk 0 0))) U U (bg gO U)) U U) ?_
  have O:(ew (eG r.ak r.aD i 0 0) (i:Int) (ag.mk 0 0))=(eG r.ak r.aD (i+1) 0 0):=by exact Mz
  refine iR (kV:=iV) (x:=(i:Int)) (C':=[_,_,_,_,_,_,_,_,_,_,_,_,_,(kh iV B (cT jY (eG r.ak r.aD (i+1) 0 0)))]) 13 U U U U s9 (iz sO) U ((gN _ _ _ _).symm.trans (congrArg _ O)) U<|aH<|aR<|KK E<|aw<|rP 2 [] I ?_
  refine aH ?_
  have P:(vI (((i+1):Nat):Int))=(vI ((i:Int)+1)):=by exact cI om
  refine bq (AA ⟨(i+1),(by first|omega|(simp only []; omega))⟩ _ _ _ U os (cY 4<|bw U P<|dG.nil _) (aQ [0,1,2,3,4,5,6,7,8,9,10,11,12,13]))
 refine bS<|ai<|ai<|aL<|KK X<|WS fun _ G=>rS (FU U)<|bE 1 U<|RK G<|ao fun _ H=>WS fun _ AB=>rP 2 [] I ?_
 refine RK AB<|aI ?_
 rw [show (eG r.ak r.aD i 0 0)=(eG r.ak r.aD r.bj.length 0 0) from by rw [show i=r.bj.length by omega]]
 have A:(0≤n):=by exact Nat.zero_le _
 refine bZ (ι:={z:Nat // (z≤n)}) [2,5,7,24] [0,1,2,3,4,5,6,7,8,9,10,11,12] U U (fun z=>[(25,(vI (z.1:Int)))]) (fun z=>[(kh iV B (cT jY (eG r.ak r.aD r.bj.length z.1 0)))]) (fun _=>rfl) (fun _=>rfl) (fun z=>n-z.1) ⟨0,A⟩ (bu U) (aQ [0,1,2,3,4,5,6,7,8,9,10,11,12,13]) ?_
 clear A
 rintro ⟨h,b⟩ J19 C
 try dsimp only
 refine WS fun _ J=>rP 1 [] I ?_
 refine RK J<|ao fun _ K=>bW U (aV fun T=>?_) (aU fun T=>?_)
 ·refine bS<|ai<|ai<|aL<|KK H<|ao fun _ N=>?_
  rw [show (eG r.ak r.aD r.bj.length h 0)=(Bw r n) from by rw [show h=n by omega]; exact NH]
  refine aw<|rP 2 [] (mc 0 U I) ?_
  refine RK N<|aq<|LX hQ B [13] [] I U U U U ?_
  trivial
 refine WK K<|ao fun _ L=>aI<|WS fun _ M=>bE 2 U<|RK M<|aw<|rP 2 [] I ?_
 refine oO 13 U U U U (Js r kA kC az cA cC bA bC slA slC drA drC ha heA heC tz tA tC ms gw h B k l hin htz om (by exact fun j x hj hx=>hok j x om hx)) U (eB 2 U U (dQ (bY _)) (eB 3 U U (dQ (bY _)) (eB 4 U U (dQ (bY _)) (eB 5 U U (dQ (bY _)) (eB 6 U U (dQ (bY _)) (eB 7 U U (dQ (bY _)) (eB 8 U U (dQ (bY _)) (eB 9 U U (dQ (bY _)) (eB 10 U U (dQ (bY _)) (eB 11 U U (dQ (bY _)) (eB 12 U U (dQ (bY _)) (eB 1 U U (bY _) (eB 0 U U (bY _) rK))))))))))))) U (fun p g=>?_)
 try dsimp only
 refine aH<|aR<|KK L<|aw<|rP 2 [] I ?_
 refine aH ?_
 have R:(vI (((h+1):Nat):Int))=(vI ((h:Int)+1)):=by exact cI om
 refine bq (C ⟨(h+1),(by first|omega|(simp only []; omega))⟩ _ _ _ U os (cY 4<|bw U R<|dG.nil _) (aQ [0,1,2,3,4,5,6,7,8,9,10,11,12,13]))
end
section
open Go.RowKit
theorem Mt (r:fu) (kA:OA) (kC:Nat) (az:List RA) (cA:OA) (cC:Nat) (bA:OA) (bC:Nat) (slA:OA) (slC:Nat) (drA:OA) (drC:Nat) (ha:List c_) (heA:OA) (heC:Nat) (hin:lS r az ha):
 pS Tryz.prog 103 [(vA (eX.cells (yX r kA kC cA cC bA bC slA slC drA drC heA heC)))] [(rd gU 3 2 fW),(rd kA r.ak.aS.length 9 (r.ak.aS.map ar.cells)),(rd cA r.ak.aj.length 2 (List.zipWith au.cells r.ak.aj az)),(dT (br au.gd r.ak.aj az)),(rd bA r.ak.aa.length 4 (r.ak.aa.map bJ.cells)),(rd slA r.bj.length 1 (r.bj.map iC)),(rd drA r.cq.length 1 (r.cq.map iC)),(rd heA r.aD.length 1 (List.zipWith cL r.aD ha)),(dT (br fj r.aD ha))] (fun (x:Bool×Int×Nat×Nat×(OA)×Nat×(List RA))=>bif x.1 then (vT [(Value.pointer (some ⟨x.2.2.1,0,none⟩)),(vI 0)]) else (vT [(Value.pointer none),(vI x.2.1)])) (fun (x:Bool×Int×Nat×Nat×(OA)×Nat×(List RA))=>(x.1=true→(jE r=0∧x.2.2.2.2.2.2.length=r.aD.length))∧(x.1=false→(x.2.1=jE r∧ ¬ jE r=0))) (fun (x:Bool×Int×Nat×Nat×(OA)×Nat×(List RA))=>bif x.1 then [(cp x.2.2.1 207 (kv.cells (kv.mk (yX r kA kC cA cC bA bC slA slC drA drC heA heC) (bD.mk x.2.2.2.2.1 ((fU r).length) x.2.2.2.2.2.1) (Value.map (some x.2.2.2.1))))),(own x.2.2.2.2.1 x.2.2.2.2.2.1 190 1 (List.zipWith Mq (fU r) x.2.2.2.2.2.2)),(bV (br Fc (fU r) x.2.2.2.2.2.2)),(kh iV x.2.2.2.1 (cT jY (OD r)))] else []):=by
 have LA:=hin.line
 have PN:=hin.iu
 have PP:=hin.has
 have L3:=hin.ir
 have L0:=hin.draw
 have Fn:=j4 (r:=r)
 refine fB kr Tryz.func103 U U fun w0 Q hQ hN=>?_
 try dsimp only
 refine WS fun _ J5=>eO U fun b2=>bE 2 U<|RK J5<|ao fun _ J6=>WS fun _ J7=>bE 1 U<|rS (LP (cr.cells (jC r.ak kA kC cA cC bA bC)) 0 U b_ U U U)<|rS (CL (r8 r.ak kA kC az cA cC bA bC asm) (bk [2,3,4,5]) U)<|bE 1 U<|RK J7<|WS fun _ J8=>rP 2 [] I ?_
 refine RK J8<|cy U (aX fun B=>?_) (aW fun B=>?_)
 ·refine WS fun _ J9=>rP 3 [] I ?_
  refine RK J9<|aq<|LX hQ (false,(dg r.ak),0,0,none,0,[]) [] [] I U (by rfl) U U ?_
  exact sJ<|Rg (za B) B
 refine WK J6<|WS fun _ KP=>eV 4 [] (mc 0 U I) U<|RK KP<|WS fun _ K0=>rP 2 [] (mc 0 U I) ?_
 refine cX (KV drA r.cq.length drC) (aO) U fun Go M2=>?_
 try dsimp only
 refine cX (J_ r.cq drA drC Go asm) (bk [8,0]) U fun Lo NE=>?_
 obtain ⟨Ne,Oy⟩:=Lo
 try dsimp only
 refine bE 1 U<|RK K0<|ao fun _ e=>WS fun _ H=>rP 1 [] I ?_
 refine d_ (xs:=[.tmp 29]) (cs:=[(vI (r.bj.length:Int))]) U dk jO U U U U (by simp [Value.cells]) U U fun Hi=>?_
 refine rS (CL (dL.eq (tY 1 5 ([(r.bj.length:Int)]) (some ⟨Hi,0,none⟩) 1 (by (simp; done))) cw) (aC (bo 0 U U (by simp [bL]) U)<|aO) U) ?_
 refine rP 2 [] I ?_
 refine bK (t:=33) U (aX fun IR=>?_) (aW fun IR=>?_)
 ·refine bE 26 U<|RK H<|aT U<|WS fun _ f=>rP 2 [] I ?_
  refine RK f<|aq<|LX hQ (false,60,0,0,none,0,[]) [] [] I U (by rfl) U U ?_
  exact sJ<|u_ (kI B (fun q:fQ r=>by have q1:=q.num; have q2:=q.Ad; have q3:=q.nh; have q4:=q.Bd; omega))
 refine rP 6 [] I ?_
 refine bK (t:=39) U (aX fun Id=>?_) (aW fun Id=>?_)
 ·refine bE 20 U<|RK H<|aT U<|WS fun _ g=>rP 2 [] I ?_
  refine RK g<|aq<|LX hQ (false,60,0,0,none,0,[]) [] [] I U (by rfl) U U ?_
  exact sJ<|u_ (kI B (fun q:fQ r=>by have q1:=q.num; have q2:=q.Ad; have q3:=q.nh; have q4:=q.Bd; omega))
 refine rP 2 [] (mc 3 U I) ?_
 refine d_ (xs:=[.tmp 41]) (cs:=[(vI r.kM)]) U dk jO U U U U (by simp [Value.cells]) U U fun Hm=>?_
 refine rS (CL (dL.eq (tY 0 5 ([r.kM]) (some ⟨Hm,0,none⟩) 1 (by (simp; done))) cw) (aC (bo 0 U U (by simp [bL]) U)<|aO) U) ?_
 refine rP 3 [] I ?_
 refine bK (t:=46) U (aX fun If=>?_) (aW fun If=>?_)
 ·refine bE 13 U<|RK H<|aT U<|WS fun _ k=>rP 2 [] I ?_
  refine RK k<|aq<|LX hQ (false,60,0,0,none,0,[]) [] [] I U (by rfl) U U ?_
  exact sJ<|u_ (kI B (fun q:fQ r=>by have q1:=q.num; have q2:=q.Ad; have q3:=q.nh; have q4:=q.Bd; omega))
 refine rP 3 [] (mc 4 U I) ?_
 refine d_ (xs:=[.tmp 49]) (cs:=[(vI (r.aD.length:Int))]) U dk jO U U U U (by simp [Value.cells]) U U fun H1=>?_
 refine rS (CL (dL.eq (tY 1 3 ([(r.aD.length:Int)]) (some ⟨H1,0,none⟩) 1 (by (simp; done))) cw) (aC (bo 0 U U (by simp [bL]) U)<|aO) U) ?_
 refine rP 3 [] I ?_
 refine bK (t:=54) U (aX fun Ik=>?_) (aW fun Ik=>?_)
 ·refine bE 5 U<|RK H<|aT U<|WS fun _ l=>rP 2 [] I ?_
  refine RK l<|aq<|LX hQ (false,60,0,0,none,0,[]) [] [] I U (by rfl) U U ?_
  exact sJ<|u_ (kI B (fun q:fQ r=>by have q1:=q.num; have q2:=q.Ad; have q3:=q.nh; have q4:=q.Bd; omega))
 refine eV 2 [] (mc 5 U I) U<|rS (CL (tY 0 9999 r.bj slA slC asm) (bk [11]) U)<|rP 2 [] I ?_
 refine RK H<|cy U (fun N=>?_) (fun N=>?_)
 ·rw [Bool.not_eq_true'] at N
  refine WS fun _ m=>rP 2 [] I ?_
  refine RK m<|aq<|LX hQ (false,60,0,0,none,0,[]) [] [] I U (by rfl) U U ?_
  exact sJ<|u_ (kI B (fun q:fQ r=>by exact absurd (q.ins.symm.trans N) dc))
 rw [Bool.not_eq_false'] at N
 refine WK e<|ao fun _ o=>WS fun _ p=>?_
 have Pi:(oc r.cq).length=r.bj.length:=by rw [uC]; omega
 refine rP 2 [] I ?_
 refine RK p<|aI ?_
 have A:(0≤r.bj.length)∧(sI r 0):=by exact ⟨Nat.zero_le _,Ds⟩
 refine bZ (ι:={z:Nat // (z≤r.bj.length)∧(sI r z)}) [1,5,6,60] [3,5,6,7,8,9,10,11,12,13,14] U U (fun z=>[(61,(vI (z.1:Int)))]) (fun z=>[]) (fun _=>rfl) (fun _=>rfl) (fun z=>r.bj.length-z.1) ⟨0,A⟩ (bu U) (aQ [3,5,6,7,8,9,10,11,12,13,14]) ?_
 clear A
 rintro ⟨i,⟨K8,J⟩⟩ J28 V
 try dsimp only
 refine WS fun _ s=>rP 1 [] I ?_
 refine RK s<|ao fun _ w=>cy U (aU fun Jh=>?_) (aV fun Jh=>?_)
 ·refine WK w<|ao fun _ W=>aI<|WS fun _ AC=>bE 2 U<|RK AC<|ao fun _ O=>dj cj 24 kr<|dP 2 [] I ?_
  obtain ⟨x,hx⟩:=aJ (oc r.cq) i om
  have LE:=bM iC hx
  refine dS (IA i U (av (n:=r.cq.length) 0 U sq) dk dc om om) ?_
  refine dS (gE i 0 (vI x) U b_ (av (n:=(oc r.cq).length) 0 U sm) LE U dc U)<|dP 3 [] I ?_
  refine g7 (t:=70) U (aX fun S=>?_) (aW fun S=>?_)
  ·refine kE 17 U<|cD<|RK O<|aT U<|WS fun _ AO=>rP 2 [] I ?_
   refine RK AO<|aq<|LX hQ (false,60,0,0,none,0,[]) [] [] I U (by rfl) U U ?_
   exact sJ<|u_ (kI B (fun q:fQ r=>by exact absurd (q.drawn hx) S))
  refine dP 3 [] I ?_
  refine jB (t:=73) U (aV fun J2=>?_) (aU fun J2=>?_)
  ·refine kE 14 U<|cD<|RK O<|ct U<|cu<|aR<|KK W<|aw<|rP 2 [] I ?_
   refine aH ?_
   have EQ:(vI (((i+1):Nat):Int))=(vI ((i:Int)+1)):=by exact cI om
   refine bq (V ⟨(i+1),⟨om,xo J hx S (fun u v hu hv hw=>by omega)⟩⟩ _ _ _ U os (cY 4<|bw U EQ<|dG.nil _) (aQ [0,1,2,3,4,5,6,7,8,9,10]))
  refine dP 3 [] (mc 1 U I) ?_
  obtain ⟨y,hy⟩:=aJ r.bj i om
  have LT:=bM iC hy
  refine dS (IA i U (aB 7 U) dk dc om om)<|dS (gE i 0 (vI y) U b_ (aB 7 U) LT U dc U)<|dP 4 [] (mc 1 U I) ?_
  obtain ⟨z,hz⟩:=aJ r.bj (i-1) om
  have La:=bM iC hz
  refine dS (IA (i-1) U (aB 7 U) dk dc om om)<|dS (gE (i-1) 0 (vI z) U b_ (aB 7 U) La U dc U)<|dP 3 [] I ?_
  refine cD<|RK O<|bW U (aV fun J3=>?_) (aU fun J3=>?_)
  ·refine cu<|aR<|KK W<|aw<|rP 2 [] I ?_
   refine aH ?_
   have Du:(vI (((i+1):Nat):Int))=(vI ((i:Int)+1)):=by exact cI om
   refine bq (V ⟨(i+1),⟨om,xo J hx S (fun u v hu hv hw=>by (rw [hy] at hu; cases hu; rw [hz] at hw; cases hw; omega))⟩⟩ _ _ _ rfl os (cY 4<|bw rfl Du<|dG.nil _) (aQ [0,1,2,3,4,5,6,7,8,9,10]))
  refine WS fun _ An=>rP 2 [] I ?_
  refine RK An<|aq<|LX hQ (false,60,0,0,none,0,[]) [] [] I U (by rfl) U U ?_
  exact sJ<|u_ (kI B (fun q:fQ r=>by have q1:=(q.ids i y hy).2 z om hz; omega))
 refine bS<|ai<|ai<|aL<|KK o<|WS fun _ A0=>eV 1 [] (mc 1 U I) U<|rS (SX (bf (xs:=[(0,.tmp 89)]) (cs:=(kv.cells (kv.mk (yX r kA kC cA cC bA bC slA slC drA drC heA heC) (bD.mk none 0 0) (Value.map none)))) U U (bg T2 U)) U U)<|eO U fun L=>bE 1 U<|RK A0<|ao fun _ A1=>WS fun _ A2=>rP 4 [] (mc 2 U I) ?_
 refine RK A2<|aI<|eK 190 1<|n9 ?_
 have A:(0≤r.aD.length)∧(([]:List RA).length=0)∧(kp r 0):=by exact ⟨Nat.zero_le _,rfl,x4⟩
 refine bZ (ι:={z:Nat×(List RA)×(OA)×Nat // (z.1≤r.aD.length)∧(z.2.1.length=z.1)∧(kp r z.1)}) [1,5,8,93,94] [3,4,5,6,7,8,9,10,11,12,13] U U (fun z=>[(95,(vI (z.1.1:Int)))]) (fun z=>[(bV (br Fc (gV r z.1.1) z.1.2.1)),(own z.1.2.2.1 z.1.2.2.2 190 1 (List.map sC (List.zipWith CP (gV r z.1.1) z.1.2.1))),(cp L 207 (kv.cells (kv.mk (yX r kA kC cA cC bA bC slA slC drA drC heA heC) (bD.mk z.1.2.2.1 ((List.zipWith CP (gV r z.1.1) z.1.2.1).length) z.1.2.2.2) (Value.map none))))]) (fun _=>rfl) (fun _=>rfl) (fun z=>r.aD.length-z.1.1) ⟨(0,([]:List RA),none,0),A⟩ (bu U) (aQ [3,4,5,6,7,8,9,10,11,12,13,0,1,2]) ?_
 clear A
 rintro ⟨⟨h,tz,a,c⟩,⟨T,C,E⟩⟩ J42 Z
 try dsimp only at T C E
 try dsimp only
 refine WS fun _ A3=>rP 1 [] I ?_
 refine RK A3<|ao fun _ A4=>bW U (aV fun J4=>?_) (aU fun J4=>?_)
 ·refine bS<|ai<|ai<|aL<|KK A1<|ao fun _ Di=>?_
  have K5:gV r h=fU r:=by unfold fU; rw [show h=r.aD.length by omega]
  have GE:tz.length=r.aD.length:=by omega
  rw [K5,zu,show (List.zipWith CP (fU r) tz).length=(fU r).length from by rw [List.length_zipWith]; omega]
  have X:fQ r:=Iw (n:=i) om om om om om N J E om
  refine aw<|rP 5 [] (mc 1 U I) ?_
  refine cX (Sk r kA kC az cA cC bA bC slA slC drA drC ha heA heC tz a c (Value.map none) L r.aD.length hin asm om (by exact X.M_)) (nV [3,4,5,6,7,8,9,10]<|aC (av (n:=(fU r).length) 12 U (Nk (by rw [Fn]; exact GE)))<|aC (eT 11 U TG)<|gJ 13 U U<|aO) U fun K NP=>?_
  try dsimp only
  refine rS (SX (cS U U) U U)<|rP 1 [] I ?_
  refine il (vs:=[(Value.map (some K))]) (cs':=(kv.cells (kv.mk (yX r kA kC cA cC bA bC slA slC drA drC heA heC) (bD.mk a ((fU r).length) c) (Value.map (some K))))) (C':=[_,_,_,_,_,_,_,_,_,_,_,_,_,_,(cp L 207 (kv.cells (kv.mk (yX r kA kC cA cC bA bC slA slC drA drC heA heC) (bD.mk a ((fU r).length) c) (Value.map (some K)))))]) 14 U U U FN U U U U U U U<|RK Di<|ao fun _ Do=>?_
  rw [show Bw r r.aD.length=OD r from rfl]
  refine aw<|rP 3 [] I ?_
  refine RK Do<|aq ?_
  refine LX hQ (true,0,L,K,a,c,tz) [14,13,12,0] [] I U (by (show List.all _ _=true; simp only [cond_true,g5,List.all_nil,EL,Bool.and_true]; rfl)) U U ?_
  exact ⟨fun _=>⟨Bl B X,GE⟩,QA⟩
 refine WK A4<|ao fun _ A5=>aI<|WS fun _ A6=>?_
 obtain ⟨ht,D⟩:=aJ r.aD h om
 obtain ⟨G,AB⟩:=aJ ha h om
 have Fd:(List.zipWith cL r.aD ha)[h]? =some (cL ht G):=dF D AB
 refine rS (IA h U (aB 9 U) oz dc om om)<|rS (gE h 0 (vS G.1.1 ht.length G.1.2) U b_ (aB 9 U) Fd U dc U)<|rP 1 [] I ?_
 refine RK A6<|ao fun _ A7=>WS fun _ A8=>?_
 have FS:=hin.gH _ _ _ D AB
 have L2:=FS.nx
 refine rP 4 [] I ?_
 refine RK A8<|cy U (aX fun Y=>?_) (aW fun Y=>?_)
 ·refine WS fun _ A9=>rP 2 [] I ?_
  refine RK A9<|aq<|LX hQ (false,60,0,0,none,0,[]) [] [] I U (by rfl) U U ?_
  exact sJ<|u_ (kI B (fun q:fQ r=>by have q1:=(q.gH ht (aP D)).1; omega))
 refine WK A7<|WS fun _ Bo=>bE 1 U<|RK Bo<|ao fun _ B3=>WS fun _ B9=>rP 3 [] I ?_
 refine RK B9<|aI<|eK 48 2 ?_
 have A:(0≤ht.length)∧(oI r.ak ht 0):=by exact ⟨Nat.zero_le _,wk⟩
 refine bZ (ι:={z:Nat×(OA)×Nat // (z.1≤ht.length)∧(oI r.ak ht z.1)}) [1,5,8,10,93,94,95,103,104] [1,2,3,4,5,6,7,8,9,10,11,12,13,14] U U (fun z=>[(11,(vS z.1.2.1 (((ht.take z.1.1).map (gl r.ak)).length) z.1.2.2)),(105,(vI (z.1.1:Int)))]) (fun z=>[(own z.1.2.1 z.1.2.2 48 2 (((ht.take z.1.1).map (gl r.ak)).map ag.cells))]) (fun _=>rfl) (fun _=>rfl) (fun z=>ht.length-z.1.1) ⟨(0,none,0),A⟩ (bu U) (aQ [1,2,3,4,5,6,7,8,9,10,11,12,13,14,0]) ?_
 clear A
 rintro ⟨⟨j,la,lc⟩,⟨AA,F⟩⟩ J53 b
 try dsimp only at AA F
 try dsimp only
 refine WS fun _ Ci=>rP 1 [] I ?_
 refine RK Ci<|ao fun _ Ck=>bW U (aV fun In=>?_) (aU fun In=>?_)
 ·refine bS<|ai<|ai<|aL<|KK B3<|aw<|bE 2 U<|rS (SX (cS U U) U U)<|rP 2 [] (mc 13 U I) ?_
  rw [show ((ht.take j).map (gl r.ak))=ht.map (gl r.ak) from by rw [List.take_of_length_le om]]
  refine rP 1 [] I ?_
  refine d_ (xs:=[.tmp 128]) (cs:=[(vS la ((ht.map (gl r.ak)).length) lc)]) U JF OE U U U U (by simp [Value.cells]) U U fun Os=>?_
  refine dD (es2:=(List.map sC (List.zipWith CP (gV r (h+1)) (tz++[(la,lc)])))) (m':=(List.zipWith CP (gV r (h+1)) (tz++[(la,lc)])).length) 13 U U U Pd U U sm (bo (es:=List.map sC [(bD.mk la ((ht.map (gl r.ak)).length) lc)]) 0 U U (by simp [zL]) U) (KA _) (by rw [List.length_zipWith,k8 om]; omega) (by rw [List.length_zipWith,k8 om]; simp only [maxLen]; omega) (by rw [uH D C,List.map_append]; rfl) (by rw [uH D C]; simp) U fun P R=>?_
  try dsimp only
  refine rS (SX (cS U U) U U)<|bE 1 U<|il (vs:=[(vS P ((List.zipWith CP (gV r (h+1)) (tz++[(la,lc)])).length) R)]) (cs':=(kv.cells (kv.mk (yX r kA kC cA cC bA bC slA slC drA drC heA heC) (bD.mk P ((List.zipWith CP (gV r (h+1)) (tz++[(la,lc)])).length) R) (Value.map none)))) (C':=[_,_,_,_,_,_,_,_,_,_,_,_,_,_,(cp L 207 (kv.cells (kv.mk (yX r kA kC cA cC bA bC slA slC drA drC heA heC) (bD.mk P ((List.zipWith CP (gV r (h+1)) (tz++[(la,lc)])).length) R) (Value.map none)))),_]) 14 U U U Tt U U U U U U U<|aH<|aR<|KK A5<|aw<|rP 2 [] I ?_
  refine aH<|xM (X':=br Fc (gV r (h+1)) (tz++[(la,lc)])) 12 15 U U (By (a:=(la,lc)) D C) ?_
  have FC:(vI (((h+1):Nat):Int))=(vI ((h:Int)+1)):=by exact cI om
  refine bq (Z ⟨((h+1),(tz++[(la,lc)]),P,R),⟨om,by simp; omega,yw E D (EW om F om)⟩⟩ _ _ _ U os (cY 5<|bw U FC<|dG.nil _) (aQ [2,3,4,5,6,7,8,9,10,11,12,0,13,14]))
 refine WK Ck<|ao fun _ Cp=>aI<|WS fun _ Cx=>?_
 obtain ⟨d,hd⟩:=aJ ht j om
 obtain ⟨da,FE⟩:=aJ G.2 j om
 have K4:(List.zipWith ax.cells ht G.2)[j]? =some (ax.cells d da):=dF hd FE
 refine rS (IA j U (show iJ _ (rd G.1.1 ht.length 7 (List.zipWith ax.cells ht G.2)).holds from (cU 10 U (bQ D AB cx))) rr dc om om)<|rS (lM j 0 (aM.cells (aM.mk d.Out d.dC d.Time (cb.mk d.bx.Start d.bx.gh (bD.mk da.1 d.bx.ab.length da.2)))) U b_ (show iJ _ (rd G.1.1 ht.length 7 (List.zipWith ax.cells ht G.2)).holds from (cU 10 U (bQ D AB cx))) K4 U dc U U)<|AL U AK fun Nr=>fJ U Hy U<|RK Cx<|WS fun _ C0=>bE 1 U<|rS (LP (cr.cells (jC r.ak kA kC cA cC bA bC)) 2 U b_ U U U)<|rP 1 [] (mc 0 U I) ?_
 have Pj:=FS.sig d (aP hd)
 refine rS (CL (D0 r.ak kA kC az cA cC bA bC d da.1 da.2 asm asm) (nV [3,4,5,6,7]<|aC (show iJ _ (rd da.1 d.bx.ab.length 2 (d.bx.ab.map aA.cells)).holds from (cU 11 U (bQ D AB (di _ (bQ hd FE (by simp [ax.gd]))))))<|aO) U)<|bE 3 U<|AL U ed fun Op=>fJ U cW U<|bE 1 U<|RK C0<|ao fun _ C1=>WS fun _ C2=>rP 2 [] I ?_
 refine RK C2<|bW U (aW fun M=>?_) (aX fun M=>?_)
 ·refine WK C1<|aw<|rP 2 [] (mc 0 U I) ?_
  refine d_ (xs:=[.tmp 119]) (cs:=(ag.cells (gl r.ak d))) U lu ed U U U U (by simp [Value.cells,ag.a_]) U U fun Or=>?_
  refine dD (es2:=(List.map ag.cells ((ht.take (j+1)).map (gl r.ak)))) (m':=((ht.take (j+1)).map (gl r.ak)).length) 17 U U U Fg U U sm (bo (es:=List.map ag.cells [(gl r.ak d)]) 0 U U (by simp [ag.a_]) U) (kU _) (by simp only [List.length_map,List.length_take]; omega) (by simp only [maxLen,List.length_map,List.length_take]; omega) (by rw [List.take_add_one,hd]; simp) sq U fun GT IO=>?_
  try dsimp only
  refine bE 1 U<|aH<|aR<|KK Cp<|aw<|rP 2 [] I ?_
  refine aH ?_
  have Eq:(vI (((j+1):Nat):Int))=(vI ((j:Int)+1)):=by exact cI om
  refine bq (b ⟨((j+1),GT,IO),⟨om,wm F hd M⟩⟩ _ _ _ U os (cY 10<|bw U Eq<|dG.nil _) (aQ [3,4,5,6,7,8,9,10,11,12,13,14,15,16,17]))
 refine WS fun _ C3=>rP 2 [] I ?_
 refine RK C3<|aq<|LX hQ (false,60,0,0,none,0,[]) [] [] I U (by rfl) U U ?_
 exact sJ<|u_ (kI B (fun q:fQ r=>by exact M ((q.gH ht (aP D)).2 d (aP hd))))
end
section
open Go.RowKit
theorem Lp (r:fu) (kA:OA) (kC:Nat) (az:List RA) (cA:OA) (cC:Nat) (bA:OA) (bC:Nat) (slA:OA) (slC:Nat) (drA:OA) (drC:Nat) (ha:List c_) (heA:OA) (heC:Nat) (hin:lS r az ha):
 dL Tryz.prog 68 [(vA (eX.cells (yX r kA kC cA cC bA bC slA slC drA drC heA heC)))] [(rd gU 3 2 fW),(rd kA r.ak.aS.length 9 (r.ak.aS.map ar.cells)),(rd cA r.ak.aj.length 2 (List.zipWith au.cells r.ak.aj az)),(dT (br au.gd r.ak.aj az)),(rd bA r.ak.aa.length 4 (r.ak.aa.map bJ.cells)),(rd slA r.bj.length 1 (r.bj.map iC)),(rd drA r.cq.length 1 (r.cq.map iC)),(rd heA r.aD.length 1 (List.zipWith cL r.aD ha)),(dT (br fj r.aD ha))] (vI (jE r)):=by
 have H:=hin.line
 have R:=hin.iu
 have S:=hin.has
 have J:=hin.ir
 have AB:=hin.draw
 have K:=j4 (r:=r)
 refine bH kr Tryz.func68 U U fun X Q hQ hN=>?_
 try dsimp only
 refine WS fun _ G=>eO U fun W=>bE 1 U<|RK G<|WS fun _ C=>rP 1 [] (mc 0 U I) ?_
 refine cX (Mt r kA kC az cA cC bA bC slA slC drA drC ha heA heC hin) (bk [1,2,3,4,5,6,7,8,9]) U fun V E=>?_
 obtain ⟨F,N,P,O,AA,L,M⟩:=V
 cases F
 rotate_left 1
 ·obtain ⟨he,T⟩:=E.1 rfl
  try dsimp only [cond_true,cond_false,List.cons_append,List.nil_append]
  refine bE 5 U<|RK C<|WS fun _ B=>rP 2 [] I ?_
  refine RK B<|aq<|Q1 hQ U U U ?_
  first|rfl|(rw [he])
 obtain ⟨D,he⟩:=E.2 rfl
 try dsimp only at D he
 subst D
 try dsimp only [cond_true,cond_false,List.cons_append,List.nil_append]
 refine bE 5 U<|RK C<|WS fun _ A=>rP 2 [] I ?_
 refine RK A<|aq<|Q1 hQ U U U ?_
 first|rfl|(rw [he])
end
section
open Go.RowKit
theorem Kf (j:cK) (kA:OA) (kC:Nat) (az:List RA) (cA:OA) (cC:Nat) (bA:OA) (bC:Nat) (slA:OA) (slC:Nat) (drA:OA) (drC:Nat) (ha:List c_) (heA:OA) (heC:Nat) (faA:OA) (faC:Nat) (prA:OA) (prC:Nat) (hin:gT j az ha):
 dL Tryz.prog 49 [(vA (ep.cells (nu j kA kC cA cC bA bC slA slC drA drC heA heC faA faC prA prC)))] [(rd gU 3 2 fW),(rd kA j.Race.ak.aS.length 9 (j.Race.ak.aS.map ar.cells)),(rd cA j.Race.ak.aj.length 2 (List.zipWith au.cells j.Race.ak.aj az)),(dT (br au.gd j.Race.ak.aj az)),(rd bA j.Race.ak.aa.length 4 (j.Race.ak.aa.map bJ.cells)),(rd slA j.Race.bj.length 1 (j.Race.bj.map iC)),(rd drA j.Race.cq.length 1 (j.Race.cq.map iC)),(rd heA j.Race.aD.length 1 (List.zipWith cL j.Race.aD ha)),(dT (br fj j.Race.aD ha)),(rd faA j.aG.length 4 (j.aG.map aK.cells)),(rd prA j.aF.length 5 (j.aF.map aY.cells))] (vI (ej j)):=by
 have FS:=hin.race
 have KP:=hin.race.line
 have Os:=hin.race.iu
 have Oy:=hin.race.has
 have M2:=hin.race.ir
 have Lo:=hin.nf
 have L3:=hin.np
 refine bH kr Tryz.func49 U U fun w0 Q hQ hN=>?_
 try dsimp only
 refine WS fun _ In=>eO U fun b2=>bE 1 U<|RK In<|Bh U<|ao fun _ Jh=>WS fun _ J2=>bE 1 U<|rS (LP (eX.cells (yX j.Race kA kC cA cC bA bC slA slC drA drC heA heC)) 0 U b_ U U U)<|rS (CL (Lp j.Race kA kC az cA cC bA bC slA slC drA drC ha heA heC asm) (bk [1,2,3,4,5,6,7,8,9]) U)<|bE 1 U<|RK J2<|WS fun _ J3=>rP 2 [] I ?_
 refine RK J3<|cy U (aX fun A=>?_) (aW fun A=>?_)
 ·refine WS fun _ J4=>rP 2 [] I ?_
  refine RK J4<|aq<|Q1 hQ U U U ?_
  exact cI (zy A).symm
 refine WK Jh<|WS fun _ J5=>rP 2 [] (mc 0 U I) ?_
 refine rS (FU U) ?_
 refine cX (M0 j.aG faA faC (Value.func (.func 70) [].toArray [(vP b2)].toArray) (fun u8 u9=>(decide (¬ o2 j.Race.ak.bO u9))) (dT [(cp b2 36 (ep.cells (nu j kA kC cA cC bA bC slA slC drA drC heA heC faA faC prA prC)))]) (by intro u8 u9 K0; exact k7 (fi:=[]) (ca:=[(vP b2)]) (jS (LB u8 u9 j kA kC cA cC bA bC slA slC drA drC heA heC faA faC prA prC b2 (by (obtain ⟨i_,_,J8⟩:=K0; exact hin.kind _ (aP J8)))) (bk [0]))) asm) (gJ 10 rfl rfl<|aC (jX (bk [0]))<|aO) rfl fun LT M_=>?_
 obtain ⟨NP,Op⟩:=LT
 try dsimp only
 refine bE 1 U<|RK J5<|ao fun _ b=>WS fun _ G=>rP 5 [] (mc 1 U I) ?_
 refine bK (t:=25) U (aU fun H1=>?_) (aV fun H1=>?_)
 ·refine bE 24 U<|RK G<|aT U<|WS fun _ c=>rP 1 [] I ?_
  refine RK c<|aq<|Q1 hQ U U U ?_
  exact cI (jF A (fun q=>by have AA:=q.nf; have O:=q.min_; have V:=q.tN; have W:=q.np; omega)).symm
 refine rP 5 [] I ?_
 refine bK (t:=30) U (aU fun S=>?_) (aV fun S=>?_)
 ·refine bE 19 U<|RK G<|aT U<|WS fun _ e=>rP 1 [] I ?_
  refine RK e<|aq<|Q1 hQ U U U ?_
  exact cI (jF A (DY S)).symm
 refine rP 2 [] (mc 1 U I) ?_
 refine d_ (xs:=[.tmp 32]) (cs:=[(vI j.ei)]) U dk jO U U U U (by simp [Value.cells]) U U fun Fn=>?_
 refine rS (CL (dL.eq (iG 0 60 ([j.ei]) (some ⟨Fn,0,none⟩) 1 (by (simp; done))) cw) (aC (bo 0 U U (by simp [bL]) U)<|aO) U) ?_
 refine rP 3 [] I ?_
 refine bK (t:=37) U (aX fun IR=>?_) (aW fun IR=>?_)
 ·refine bE 12 U<|RK G<|aT U<|WS fun _ f=>rP 1 [] I ?_
  refine RK f<|aq<|Q1 hQ U U U ?_
  exact cI (jF A (fun q=>by have AA:=q.nf; have O:=q.min_; have V:=q.tN; have W:=q.np; omega)).symm
 refine rP 2 [] (mc 2 U I) ?_
 refine d_ (xs:=[.tmp 39]) (cs:=[(vI j.wv)]) U dk jO U U U U (by simp [Value.cells]) U U fun GE=>?_
 refine rS (CL (dL.eq (iG 0 100000 ([j.wv]) (some ⟨GE,0,none⟩) 1 (by (simp; done))) cw) (aC (bo 0 U U (by simp [bL]) U)<|aO) U) ?_
 refine rP 3 [] I ?_
 refine bK (t:=44) U (aX fun If=>?_) (aW fun If=>?_)
 ·refine bE 5 U<|RK G<|aT U<|WS fun _ g=>rP 1 [] I ?_
  refine RK g<|aq<|Q1 hQ U U U ?_
  exact cI (jF A (fun q=>by have AA:=q.nf; have O:=q.min_; have V:=q.tN; have W:=q.np; omega)).symm
 refine rP 5 [] (mc 3 U I) ?_
 refine RK G<|cy U (aU fun Ik=>?_) (aV fun Ik=>?_)
 ·refine WS fun _ h=>rP 1 [] I ?_
  refine RK h<|aq<|Q1 hQ U U U ?_
  exact cI (jF A (fun q=>by have AA:=q.nf; have O:=q.min_; have V:=q.tN; have W:=q.np; omega)).symm
 refine WK b<|WS fun _ l=>bE 1 U<|RK l<|WS fun _ m=>bE 1 U<|RK m<|ao fun _ n=>Bf<|KK n<|ao fun _ C=>WS fun _ o=>rP 4 [] (mc 3 U I) ?_
 refine RK o<|aI ?_
 have N:(0≤j.aF.length)∧(oW j 0):=by exact ⟨Nat.zero_le _,xZ⟩
 refine bZ (ι:={z:Nat // (z≤j.aF.length)∧(oW j z)}) [1,5,51,52] [2,3,4,5,6,7,8,9,10,11,12,13,14] U U (fun z=>[(6,(vI (pR j z.1))),(53,(vI (z.1:Int)))]) (fun z=>[]) (fun _=>rfl) (fun _=>rfl) (fun z=>j.aF.length-z.1) ⟨0,N⟩ (bu U) (aQ [2,3,4,5,6,7,8,9,10,11,12,13,14]) ?_
 clear N
 rintro ⟨k,⟨B,D⟩⟩ J28 P
 try dsimp only
 refine WS fun _ r=>rP 1 [] I ?_
 refine RK r<|ao fun _ s=>bW U (aV fun IO=>?_) (aU fun IO=>?_)
 ·refine bS<|ai<|ai<|aL<|KK C<|WS fun _ C2=>rP 2 [] I ?_
  refine RK C2<|aq<|Q1 hQ U U U ?_
  exact cI (xQ A ⟨om,Dh S,om,om,om,fun i p hi=>D i p (by have:=(aZ.1 hi).1; omega) hi⟩).symm
 refine WK s<|ao fun _ R=>aI<|WS fun _ u=>?_
 obtain ⟨p,hp⟩:=aJ j.aF k om
 have K4:=bM aY.cells hp
 refine rS (IA k U (aB 12 U) Aj dc om om)<|rS (lM k 0 (aY.cells p) U b_ (aB 12 U) K4 U dc U U)<|AL U JO fun Ne=>fJ U Pz U<|RK u<|WS fun _ AB=>rP 1 [] I ?_
 have J9:=Mk D B
 refine rP 3 [] (mc 0 U I) ?_
 refine d_ (xs:=[.tmp 60]) (cs:=[(vI p.Id)]) U dk jO U U U U (by simp [Value.cells]) U U fun GR=>?_
 refine rS (CL (dL.eq (iG ((pR j k)+1) 9999 ([p.Id]) (some ⟨GR,0,none⟩) 1 (by (simp; done))) cw) (aC (bo 0 U U (by simp [bL]) U)<|aO) U) ?_
 refine rP 1 [] I ?_
 refine bU (t:=63) U (aV fun Y=>?_) (aU fun Y=>?_)
 ·refine bE 32 U<|RK AB<|ao fun _ Ck=>WS fun _ Cp=>bE 1 U<|RK Cp<|ct U<|WK Ck<|ao fun _ Lk=>WS fun _ Cx=>bE 2 U<|RK Cx<|aT U<|WS fun _ C0=>bE 1 U<|RK C0<|bS<|ai<|fD U<|ai<|ai<|aL<|KK C<|WS fun _ C1=>rP 2 [] I ?_
  refine RK C1<|aq<|Q1 hQ U U U ?_
  exact cI (jF A (sE hp (fun q=>by have q0:=wT q B; have AA:=q.id; have O:=q.lx; have V:=q.gH; have W:=q.fault; simp only [ry] at O; omega))).symm
 refine rP 7 [0,1] (mc 3 U (mc 1 U I)) ?_
 refine d_ (xs:=[.tmp 70]) (cs:=[(vI p.iK)]) U dk jO U U U U (by simp [Value.cells]) U U fun GT=>?_
 refine rS (CL (dL.eq (iG 0 ((j.Race.bj.length:Int)-1) ([p.iK]) (some ⟨GT,0,none⟩) 1 (by (simp; done))) cw) (aC (bo 0 U U (by simp [bL]) U)<|aO) U) ?_
 refine rP 2 [] I ?_
 refine bU (t:=74) U (aV fun Z=>?_) (aU fun Z=>?_)
 ·refine bE 21 U<|RK AB<|ao fun _ Bd=>WS fun _ Bo=>bE 1 U<|RK Bo<|ct U<|WK Bd<|ao fun _ Li=>WS fun _ B3=>bE 2 U<|RK B3<|aT U<|WS fun _ B9=>bE 1 U<|RK B9<|bS<|ai<|fD U<|ai<|ai<|aL<|KK C<|WS fun _ Ci=>rP 2 [] I ?_
  refine RK Ci<|aq<|Q1 hQ U U U ?_
  exact cI (jF A (sE hp (fun q=>by have q0:=wT q B; have AA:=q.id; have O:=q.lx; have V:=q.gH; have W:=q.fault; simp only [ry] at O; omega))).symm
 refine rP 7 [0,1] (mc 4 U (mc 2 U I)) ?_
 refine d_ (xs:=[.tmp 81]) (cs:=[(vI p.jl)]) U dk jO U U U U (by simp [Value.cells]) U U fun Go=>?_
 refine rS (CL (dL.eq (iG 0 ((j.Race.aD.length:Int)-1) ([p.jl]) (some ⟨Go,0,none⟩) 1 (by (simp; done))) cw) (aC (bo 0 U U (by simp [bL]) U)<|aO) U) ?_
 refine rP 2 [] I ?_
 refine bU (t:=85) U (aV fun a=>?_) (aU fun a=>?_)
 ·refine bE 10 U<|RK AB<|ao fun _ A5=>WS fun _ A6=>bE 1 U<|RK A6<|ct U<|WK A5<|ao fun _ Lh=>WS fun _ A7=>bE 2 U<|RK A7<|aT U<|WS fun _ A8=>bE 1 U<|RK A8<|bS<|ai<|fD U<|ai<|ai<|aL<|KK C<|WS fun _ A9=>rP 2 [] I ?_
  refine RK A9<|aq<|Q1 hQ U U U ?_
  exact cI (jF A (sE hp (fun q=>by have q0:=wT q B; have AA:=q.id; have O:=q.lx; have V:=q.gH; have W:=q.fault; simp only [ry] at O; omega))).symm
 refine rP 6 [0,1] (mc 5 U (mc 3 U I)) ?_
 refine d_ (xs:=[.tmp 91]) (cs:=[(vI p.jy)]) U dk jO U U U U (by simp [Value.cells]) U U fun Hi=>?_
 refine rS (CL (dL.eq (iG 0 ((j.aG.length:Int)-1) ([p.jy]) (some ⟨Hi,0,none⟩) 1 (by (simp; done))) cw) (aC (bo 0 U U (by simp [bL]) U)<|aO) U) ?_
 refine bE 2 U<|RK AB<|ao fun _ L=>WS fun _ v=>rP 1 [] I ?_
 refine RK v<|bW U (aV fun T=>?_) (aU fun T=>?_)
 ·refine WK L<|ao fun _ A1=>WS fun _ A2=>rP 2 [] I ?_
  refine RK A2<|bW U (aW fun F=>?_) (aX fun F=>?_)
  ·refine WK A1<|aw<|eV 3 [] (mc 4 U I) U<|aH<|aR<|KK R<|aw<|rP 2 [] I ?_
   refine aH ?_
   have EQ:(vI (pR j (k+1)))=(vI p.Id):=by exact cI (nW hp)
   have Eq:(vI (((k+1):Nat):Int))=(vI ((k:Int)+1)):=by exact cI om
   refine bq (P ⟨(k+1),(by exact absurd F T)⟩ _ _ _ U os (cY 4<|bw U EQ<|bw U Eq<|dG.nil _) (aQ [5,6,7,8,9,10,11,12,13,14,15,16,17]))
  refine WS fun _ A3=>bE 1 U<|RK A3<|bS<|ai<|fD U<|ai<|ai<|aL<|KK C<|WS fun _ A4=>rP 2 [] I ?_
  refine RK A4<|aq<|Q1 hQ U U U ?_
  exact cI (jF A (sE hp (fun q=>by have q0:=wT q B; have AA:=q.id; have O:=q.lx; have V:=q.gH; have W:=q.fault; simp only [ry] at O; omega))).symm
 refine ao fun _ w=>dy cj [11,12] [] [] [0,1,2,3,4,5,6,7,8,9,10,11,12,13,14,15,16,17] [] U U U U U<|eS U (FA 0 U eD U)<|eS U (FA 10 U eD U)<|eS U (L1 (vS heA j.Race.aD.length heC) 6 U b_ U U)<|eS U (FA 2 U eD U)<|eS U (L1 (vI p.jl) 4 U b_ U U) ?_
 have K5:=(eH A).2
 obtain ⟨ht,K⟩:=aJ j.Race.aD ((p.jl).toNat) om
 obtain ⟨E,J⟩:=aJ ha ((p.jl).toNat) om
 have FE:(List.zipWith cL j.Race.aD ha)[(p.jl).toNat]? =some (cL ht E):=dF K J
 refine eS U (IA ((p.jl).toNat) U (aB 14 U) oz dc om om)<|eS U (gE ((p.jl).toNat) 0 (vS E.1.1 ht.length E.1.2) U b_ (aB 14 U) FE U dc U)<|eS U (FA 1 U eD U) ?_
 have FC:=FS.gH _ _ _ K J
 have L0:=FC.nx
 have L2:=(K5.gH ht (aP K)).1
 refine eS U (L1 (vI p.iK) 4 U b_ U U) ?_
 obtain ⟨d,hd⟩:=aJ ht ((p.iK).toNat) om
 obtain ⟨da,J6⟩:=aJ E.2 ((p.iK).toNat) om
 have J7:(List.zipWith ax.cells ht E.2)[(p.iK).toNat]? =some (ax.cells d da):=dF hd J6
 refine eS U (IA ((p.iK).toNat) U (show iJ _ (rd E.1.1 ht.length 7 (List.zipWith ax.cells ht E.2)).holds from (cU 15 U (bQ K J cx))) rr dc om om) ?_
 have M:=pK (j:=j) (p:=p) K hd
 have PN:=FC.sig d (aP hd)
 refine eS U (lM ((p.iK).toNat) 0 (aM.cells (aM.mk d.Out d.dC d.Time (cb.mk d.bx.Start d.bx.gh (bD.mk da.1 d.bx.ab.length da.2)))) U b_ (show iJ _ (rd E.1.1 ht.length 7 (List.zipWith ax.cells ht E.2)).holds from (cU 15 U (bQ K J cx))) J7 U dc U U)<|eh U<|cf U fun T43 C3=>AL U AK fun Nr=>aH (C3 _ _ (aQ [1,2,3,4,5,6,7,8,9,10,11,12,13,14,15,16,17,18]) ?_)
 refine cf U fun T45 Di=>fJ U Hy U<|aH (Di _ _ (aQ [1,2,3,4,5,6,7,8,9,10,11,12,13,14,15,16,17,18]) ?_)
 refine e8 U<|KK w<|aw<|eV 1 [] (mc 0 U I) U<|rS (CL (uO d.Out d.dC d.Time (cb.mk d.bx.Start d.bx.gh (bD.mk da.1 d.bx.ab.length da.2))) (aO) U)<|rP 1 [] I ?_
 refine bU (t:=109) U (aV fun H=>?_) (aU fun H=>?_)
 ·refine bE 9 U<|RK L<|ao fun _ La=>WS fun _ Ad=>bE 2 U<|RK Ad<|aT U<|WS fun _ An=>bE 1 U<|RK An<|bS<|ai<|fD U<|ai<|ai<|aL<|KK C<|WS fun _ A0=>rP 2 [] I ?_
  refine RK A0<|aq<|Q1 hQ U U U ?_
  exact cI (jF A (sE hp (fun q=>by obtain ⟨d2,X,r1,r2⟩:=q.kH; rw [M] at X; cases X; first|exact H r1|omega))).symm
 refine rP 5 [0,1] (mc 0 U (mc 5 U I)) ?_
 refine d_ (xs:=[.tmp 114]) (cs:=[(vI p.At)]) U dk jO U U U U (by simp [Value.cells]) U U fun Hm=>?_
 refine rS (CL (dL.eq (iG d.bx.Start 86400000 ([p.At]) (some ⟨Hm,0,none⟩) 1 (by (simp; done))) cw) (aC (bo 0 U U (by simp [bL]) U)<|aO) U) ?_
 refine bE 2 U<|RK L<|ao fun _ x=>WS fun _ y=>rP 2 [] I ?_
 refine RK y<|bW U (aW fun F=>?_) (aX fun F=>?_)
 ·refine WK x<|aw<|eV 3 [] (mc 6 U I) U<|aH<|aR<|KK R<|aw<|rP 2 [] I ?_
  refine aH ?_
  have Do:(vI (pR j (k+1)))=(vI p.Id):=by exact cI (nW hp)
  have Du:(vI (((k+1):Nat):Int))=(vI ((k:Int)+1)):=by exact cI om
  refine bq (P ⟨(k+1),(by exact ⟨om,tp D hp (MT hp Y J9.1 Z a T M H F)⟩)⟩ _ _ _ U os (cY 4<|bw U Do<|bw U Du<|dG.nil _) (aQ [7,8,9,10,11,12,13,14,15,16,17,18,19]))
 refine WS fun _ AC=>bE 1 U<|RK AC<|bS<|ai<|fD U<|ai<|ai<|aL<|KK C<|WS fun _ AO=>rP 2 [] I ?_
 refine RK AO<|aq<|Q1 hQ U U U ?_
 exact cI (jF A (sE hp (fun q=>by obtain ⟨d2,X,r1,r2⟩:=q.kH; rw [M] at X; cases X; first|exact H r1|omega))).symm
theorem uo (j:cK) (kA:OA) (kC:Nat) (az:List RA) (cA:OA) (cC:Nat) (bA:OA) (bC:Nat) (slA:OA) (slC:Nat) (drA:OA) (drC:Nat) (ha:List c_) (heA:OA) (heC:Nat) (faA:OA) (faC:Nat) (prA:OA) (prC:Nat) (hin:gT j az ha):
 dL Tryz.prog 27 [(vA (ep.cells (nu j kA kC cA cC bA bC slA slC drA drC heA heC faA faC prA prC)))] [(rd gU 3 2 fW),(rd kA j.Race.ak.aS.length 9 (j.Race.ak.aS.map ar.cells)),(rd cA j.Race.ak.aj.length 2 (List.zipWith au.cells j.Race.ak.aj az)),(dT (br au.gd j.Race.ak.aj az)),(rd bA j.Race.ak.aa.length 4 (j.Race.ak.aa.map bJ.cells)),(rd slA j.Race.bj.length 1 (j.Race.bj.map iC)),(rd drA j.Race.cq.length 1 (j.Race.cq.map iC)),(rd heA j.Race.aD.length 1 (List.zipWith cL j.Race.aD ha)),(dT (br fj j.Race.aD ha)),(rd faA j.aG.length 4 (j.aG.map aK.cells)),(rd prA j.aF.length 5 (j.aF.map aY.cells))] (vT [(vA (df.cells (df.mk (nu j kA kC cA cC bA bC slA slC drA drC heA heC faA faC prA prC)))),(vI (ej j))]):=by
 refine bH kr Tryz.func27 U U fun E Q hQ hN=>?_
 try dsimp only
 refine WS fun _ A=>eO U fun C=>AL U HQ fun D=>bE 1 U<|RK A<|ao fun _ B=>dj cj 4 kr<|lz 1 [] (mc 1 U I) U<|dS (SX (bf (xs:=[(0,.tmp 4)]) (cs:=(df.cells (df.mk (nu j kA kC cA cC bA bC slA slC drA drC heA heC faA faC prA prC)))) U U (bg VX U)) U U)<|lz 1 [] (mc 1 U I) U<|dS (CL (Kf j kA kC az cA cC bA bC slA slC drA drC ha heA heC faA faC prA prC hin) (bk [2,3,4,5,6,7,8,9,10,11,12]) U)<|cD<|fJ U HR U<|rP 1 [] I ?_
 refine RK B<|aq<|mj hQ [0] (mc 0 U I) U ?_
 rfl
end
section
open Go.RowKit
theorem FL (j:cK) (kA:OA) (kC:Nat) (az:List RA) (cA:OA) (cC:Nat) (bA:OA) (bC:Nat) (slA:OA) (slC:Nat) (drA:OA) (drC:Nat) (ha:List c_) (heA:OA) (heC:Nat) (faA:OA) (faC:Nat) (prA:OA) (prC:Nat) (kq hq sq:Int) (hin:gT j az ha):
 dL Tryz.prog 8 [(vA (ep.cells (nu j kA kC cA cC bA bC slA slC drA drC heA heC faA faC prA prC))),(vI kq),(vI hq),(vI sq)] [(rd gU 3 2 fW),(rd kA j.Race.ak.aS.length 9 (j.Race.ak.aS.map ar.cells)),(rd cA j.Race.ak.aj.length 2 (List.zipWith au.cells j.Race.ak.aj az)),(dT (br au.gd j.Race.ak.aj az)),(rd bA j.Race.ak.aa.length 4 (j.Race.ak.aa.map bJ.cells)),(rd slA j.Race.bj.length 1 (j.Race.bj.map iC)),(rd drA j.Race.cq.length 1 (j.Race.cq.map iC)),(rd heA j.Race.aD.length 1 (List.zipWith cL j.Race.aD ha)),(dT (br fj j.Race.aD ha)),(rd faA j.aG.length 4 (j.aG.map aK.cells)),(rd prA j.aF.length 5 (j.aF.map aY.cells))] (vT [(Value.int .u8 (lG j kq hq sq)),(vI (m7 j kq hq sq))]):=by
 have O:=hin.race
 have n:=hin.race.line
 have AC:=hin.race.iu
 have AO:=hin.race.has
 have x:=hin.race.ir
 have r:=hin.nf
 have w:=hin.np
 refine bH kr Tryz.func8 U U fun w0 Q hQ hN=>?_
 try dsimp only
 refine WS fun _ W=>eO U fun b2=>bE 2 U<|RK W<|WS fun _ X=>eV 1 [] (mc 0 U I) U<|rS (CL (uo j kA kC az cA cC bA bC slA slC drA drC ha heA heC faA faC prA prC hin) (bk [1,2,3,4,5,6,7,8,9,10,11]) U)<|bE 3 U<|AL U HQ fun b4=>fJ U HR U<|bE 1 U<|RK X<|ao fun _ Y=>WS fun _ Z=>rP 2 [] I ?_
 refine RK Z<|cy U (aX fun B=>?_) (aW fun B=>?_)
 ·refine WS fun _ a=>rP 3 [] I ?_
  refine RK a<|aq<|Q2 hQ U U U U ?_
  (have e:=GP (k:=kq) (h:=hq) (s:=sq) B; rw [e.1,e.2]; done)
 refine WK Y<|ao fun _ b=>WS fun _ E=>rP 5 [] (mc 1 U I) ?_
 refine d_ (xs:=[.tmp 24]) (cs:=[(vI kq)]) U dk jO U U U U (by simp [Value.cells]) U U fun P=>?_
 refine rS (CL (dL.eq (iG 0 ((j.aG.length:Int)-1) ([kq]) (some ⟨P,0,none⟩) 1 (by (simp; done))) cw) (aC (bo 0 U U (by simp [bL]) U)<|aO) U) ?_
 refine rP 2 [] I ?_
 refine bK (t:=28) U (aX fun T=>?_) (aW fun T=>?_)
 ·refine bE 21 U<|RK E<|aT U<|WS fun _ F=>rP 2 [] I ?_
  refine RK F<|aq<|Q2 hQ U U U U ?_
  (have e:=vk (k:=kq) (h:=hq) (s:=sq) B (fun q=>by unfold lI at q; omega); rw [e.1,e.2]; done)
 refine rP 6 [] (mc 2 U I) ?_
 refine d_ (xs:=[.tmp 34]) (cs:=[(vI hq)]) U dk jO U U U U (by simp [Value.cells]) U U fun R=>?_
 refine rS (CL (dL.eq (iG 0 ((j.Race.aD.length:Int)-1) ([hq]) (some ⟨R,0,none⟩) 1 (by (simp; done))) cw) (aC (bo 0 U U (by simp [bL]) U)<|aO) U) ?_
 refine rP 3 [] I ?_
 refine bK (t:=39) U (aX fun AA=>?_) (aW fun AA=>?_)
 ·refine bE 10 U<|RK E<|aT U<|WS fun _ G=>rP 2 [] I ?_
  refine RK G<|aq<|Q2 hQ U U U U ?_
  (have e:=vk (k:=kq) (h:=hq) (s:=sq) B (fun q=>by unfold lI at q; omega); rw [e.1,e.2]; done)
 refine rP 6 [] (mc 3 U I) ?_
 refine d_ (xs:=[.tmp 45]) (cs:=[(vI sq)]) U dk jO U U U U (by simp [Value.cells]) U U fun S=>?_
 refine rS (CL (dL.eq (iG 0 ((j.Race.bj.length:Int)-1) ([sq]) (some ⟨S,0,none⟩) 1 (by (simp; done))) cw) (aC (bo 0 U U (by simp [bL]) U)<|aO) U) ?_
 refine rP 2 [] I ?_
 refine RK E<|cy U (aX fun V=>?_) (aW fun V=>?_)
 ·refine WS fun _ H=>rP 2 [] I ?_
  refine RK H<|aq<|Q2 hQ U U U U ?_
  (have e:=vk (k:=kq) (h:=hq) (s:=sq) B (fun q=>by unfold lI at q; omega); rw [e.1,e.2]; done)
 refine WK b<|ao fun _ AB=>dj cj 18 kr<|dP 4 [0,1] (mc 3 U (mc 4 U I)) ?_
 have N:=(eE B).1
 have l:=(eE B).2
 have m:=(eH N).1
 have o:=(eH N).2
 have i:=(du m).2.head
 unfold eU at i
 obtain ⟨f,hf⟩:=aJ j.aG ((kq).toNat) om
 have g:=bM aK.cells hf
 refine dS (IA ((kq).toNat) U (aB 14 U) yQ dc om om)<|dS (lM ((kq).toNat) 0 (aK.cells f) U b_ (aB 14 U) g U dc U U)<|dP 4 [] (mc 4 U I) ?_
 obtain ⟨ht,D⟩:=aJ j.Race.aD ((hq).toNat) om
 obtain ⟨A,C⟩:=aJ ha ((hq).toNat) om
 have M:(List.zipWith cL j.Race.aD ha)[(hq).toNat]? =some (cL ht A):=dF D C
 refine dS (IA ((hq).toNat) U (aB 12 U) oz dc om om) ?_
 have L:=O.gH _ _ _ D C
 have u:=L.nx
 have v:=(o.gH ht (aP D)).1
 refine dS (gE ((hq).toNat) 0 (vS A.1.1 ht.length A.1.2) U b_ (aB 12 U) M U dc U)<|dP 1 [] I ?_
 have p:=L.sig
 have K:=l.fault f (aP hf)
 have z:0≤f.de∧f.de≤1000000:=by have y:=K.2.2; split at y<;>omega
 obtain ⟨d,hd⟩:=aJ ht ((sq).toNat) om
 obtain ⟨da,J⟩:=aJ A.2 ((sq).toNat) om
 have c:(List.zipWith ax.cells ht A.2)[(sq).toNat]? =some (ax.cells d da):=dF hd J
 refine dS (IA ((sq).toNat) U (show iJ _ (rd A.1.1 ht.length 7 (List.zipWith ax.cells ht A.2)).holds from (cU 13 U (bQ D C cx))) rr dc om om)<|dS (lM ((sq).toNat) 0 (aM.cells (aM.mk d.Out d.dC d.Time (cb.mk d.bx.Start d.bx.gh (bD.mk da.1 d.bx.ab.length da.2)))) U b_ (show iJ _ (rd A.1.1 ht.length 7 (List.zipWith ax.cells ht A.2)).holds from (cU 13 U (bQ D C cx))) c U dc U U) ?_
 have Ad:=p d (aP hd)
 refine dS (CL (Aw j kA kC az cA cC bA bC slA slC drA drC ha heA heC faA faC prA prC f d da.1 da.2 hin (by exact K.1) asm asm) (nV [6,7,8,9,10,11,12,13,14,15]<|aC (show iJ _ (rd da.1 d.bx.ab.length 2 (d.bx.ab.map aA.cells)).holds from (cU 13 U (bQ D C (di _ (bQ hd J (by simp [ax.gd]))))))<|aO) U)<|dP 2 [] I ?_
 refine cD<|RK AB<|aq<|Q2 hQ U U U U ?_
 (have e:=q7 (k:=kq) (h:=hq) (s:=sq) B (by unfold lI; omega) hf D hd; rw [e.1,e.2]; done)
theorem I1 (j:cK) (kA:OA) (kC:Nat) (az:List RA) (cA:OA) (cC:Nat) (bA:OA) (bC:Nat) (slA:OA) (slC:Nat) (drA:OA) (drC:Nat) (ha:List c_) (heA:OA) (heC:Nat) (faA:OA) (faC:Nat) (prA:OA) (prC:Nat) (iq:Int) (hin:gT j az ha):
 dL Tryz.prog 9 [(vA (ep.cells (nu j kA kC cA cC bA bC slA slC drA drC heA heC faA faC prA prC))),(vI iq)] [(rd gU 3 2 fW),(rd kA j.Race.ak.aS.length 9 (j.Race.ak.aS.map ar.cells)),(rd cA j.Race.ak.aj.length 2 (List.zipWith au.cells j.Race.ak.aj az)),(dT (br au.gd j.Race.ak.aj az)),(rd bA j.Race.ak.aa.length 4 (j.Race.ak.aa.map bJ.cells)),(rd slA j.Race.bj.length 1 (j.Race.bj.map iC)),(rd drA j.Race.cq.length 1 (j.Race.cq.map iC)),(rd heA j.Race.aD.length 1 (List.zipWith cL j.Race.aD ha)),(dT (br fj j.Race.aD ha)),(rd faA j.aG.length 4 (j.aG.map aK.cells)),(rd prA j.aF.length 5 (j.aF.map aY.cells))] (vT [(Value.int .u8 (qF j iq)),(vI (tf j iq))]):=by
 have R:=hin.race
 have M:=hin.race.line
 have T:=hin.race.iu
 have AA:=hin.race.has
 have S:=hin.race.ir
 have O:=hin.nf
 have P:=hin.np
 refine bH kr Tryz.func9 U U fun X Q hQ hN=>?_
 try dsimp only
 refine WS fun _ F=>eO U fun V=>bE 2 U<|RK F<|WS fun _ G=>eV 1 [] (mc 0 U I) U<|rS (CL (uo j kA kC az cA cC bA bC slA slC drA drC ha heA heC faA faC prA prC hin) (bk [1,2,3,4,5,6,7,8,9,10,11]) U)<|bE 3 U<|AL U HQ fun W=>fJ U HR U<|bE 1 U<|RK G<|ao fun _ H=>WS fun _ AB=>rP 2 [] I ?_
 refine RK AB<|cy U (aX fun A=>?_) (aW fun A=>?_)
 ·refine WS fun _ J=>rP 3 [] I ?_
  refine RK J<|aq<|Q2 hQ U U U U ?_
  (have e:=IU (i:=iq) A; rw [e.1,e.2]; done)
 refine WK H<|ao fun _ K=>WS fun _ L=>rP 5 [] (mc 1 U I) ?_
 refine d_ (xs:=[.tmp 20]) (cs:=[(vI iq)]) U dk jO U U U U (by simp [Value.cells]) U U fun D=>?_
 refine rS (CL (dL.eq (iG 0 ((j.aF.length:Int)-1) ([iq]) (some ⟨D,0,none⟩) 1 (by (simp; done))) cw) (aC (bo 0 U U (by simp [bL]) U)<|aO) U) ?_
 refine rP 1 [] I ?_
 refine RK L<|cy U (aX fun E=>?_) (aW fun E=>?_)
 ·refine WS fun _ B=>rP 2 [] I ?_
  refine RK B<|aq<|Q2 hQ U U U U ?_
  (have e:=Kk (i:=iq) A om; rw [e.1,e.2]; done)
 refine WK K<|ao fun _ C=>dj cj 9 kr<|dP 4 [0,1] (mc 1 U (mc 2 U I)) ?_
 obtain ⟨p,hp⟩:=aJ j.aF ((iq).toNat) om
 have N:=bM aY.cells hp
 refine dS (IA ((iq).toNat) U (aB 13 U) Aj dc om om)<|dS (lM ((iq).toNat) 0 (aY.cells p) U b_ (aB 13 U) N U dc U U)<|dS (CL (JG j kA kC az cA cC bA bC slA slC drA drC ha heA heC faA faC prA prC p hin asm (by exact ⟨_,hp⟩)) (bk [4,5,6,7,8,9,10,11,12,13]) U)<|dP 2 [] I ?_
 refine cD<|RK C<|aq<|Q2 hQ U U U U ?_
 (have e:=wY (i:=iq) A om hp; rw [e.1,e.2]; done)
theorem B_ (j:cK) (kA:OA) (kC:Nat) (az:List RA) (cA:OA) (cC:Nat) (bA:OA) (bC:Nat) (slA:OA) (slC:Nat) (drA:OA) (drC:Nat) (ha:List c_) (heA:OA) (heC:Nat) (faA:OA) (faC:Nat) (prA:OA) (prC:Nat) (hin:gT j az ha):
 pS Tryz.prog 12 [(vA (ep.cells (nu j kA kC cA cC bA bC slA slC drA drC heA heC faA faC prA prC)))] [(rd gU 3 2 fW),(rd kA j.Race.ak.aS.length 9 (j.Race.ak.aS.map ar.cells)),(rd cA j.Race.ak.aj.length 2 (List.zipWith au.cells j.Race.ak.aj az)),(dT (br au.gd j.Race.ak.aj az)),(rd bA j.Race.ak.aa.length 4 (j.Race.ak.aa.map bJ.cells)),(rd slA j.Race.bj.length 1 (j.Race.bj.map iC)),(rd drA j.Race.cq.length 1 (j.Race.cq.map iC)),(rd heA j.Race.aD.length 1 (List.zipWith cL j.Race.aD ha)),(dT (br fj j.Race.aD ha)),(rd faA j.aG.length 4 (j.aG.map aK.cells)),(rd prA j.aF.length 5 (j.aF.map aY.cells))] (fun (x:(OA)×Nat)=>(vT [(vS x.1 ((ki j).length) x.2),(vI (ej j))])) (fun (x:(OA)×Nat)=>True) (fun (x:(OA)×Nat)=>[(own x.1 x.2 3 1 ((ki j).map iC))]):=by
 have S:=hin.race
 have L:=hin.race.line
 have V:=hin.race.iu
 have W:=hin.race.has
 have T:=hin.race.ir
 have P:=hin.nf
 have R:=hin.np
 refine fB kr Tryz.func12 U U fun a Q hQ hN=>?_
 try dsimp only
 refine WS fun _ E=>eO U fun Y=>bE 1 U<|bE 1 U<|RK E<|WS fun _ F=>eV 1 [] (mc 0 U I) U<|rS (CL (uo j kA kC az cA cC bA bC slA slC drA drC ha heA heC faA faC prA prC hin) (bk [1,2,3,4,5,6,7,8,9,10,11]) U)<|bE 3 U<|AL U HQ fun Z=>fJ U HR U<|bE 1 U<|RK F<|ao fun _ G=>WS fun _ H=>rP 2 [] I ?_
 refine RK H<|cy U (aX fun A=>?_) (aW fun A=>?_)
 ·refine WS fun _ AB=>lh 3 1 ?_
  rw [show (own none 0 3 1 ([]:List (List Value)))=own none 0 3 1 ((ki j).map iC) from by rw [xx A]; rfl]
  refine bE 2 U<|rP 1 [] I ?_
  refine RK AB<|aq ?_
  refine LX hQ (none,0) [0] [] I U U U ?_ ?_
  ·(rw [xx A]; rfl)
  ·trivial
 refine WK G<|WS fun _ J=>rP 3 [0,1] (mc 1 U (mc 0 U I)) ?_
 refine rS (FU U) ?_
 refine cX (AD j.aF prA prC (Value.func (.func 33) [(vA (df.cells (df.mk (nu j kA kC cA cC bA bC slA slC drA drC heA heC faA faC prA prC))))].toArray [].toArray) (fun N B=>(hG j B)) (dT [(rd kA j.Race.ak.aS.length 9 (j.Race.ak.aS.map ar.cells)),(rd cA j.Race.ak.aj.length 2 (List.zipWith au.cells j.Race.ak.aj az)),(dT (br au.gd j.Race.ak.aj az)),(rd bA j.Race.ak.aa.length 4 (j.Race.ak.aa.map bJ.cells)),(rd slA j.Race.bj.length 1 (j.Race.bj.map iC)),(rd drA j.Race.cq.length 1 (j.Race.cq.map iC)),(rd heA j.Race.aD.length 1 (List.zipWith cL j.Race.aD ha)),(dT (br fj j.Race.aD ha)),(rd faA j.aG.length 4 (j.aG.map aK.cells)),(rd prA j.aF.length 5 (j.aF.map aY.cells))]) (by intro N B M; exact k7 (fi:=[(vA (df.cells (df.mk (nu j kA kC cA cC bA bC slA slC drA drC heA heC faA faC prA prC))))]) (ca:=[]) (jS (vt j kA kC az cA cC bA bC slA slC drA drC ha heA heC faA faC prA prC N B asm asm (by (obtain ⟨X,_,K⟩:=M; exact ⟨X,K⟩))) (bk [0,1,2,3,4,5,6,7,8,9]))) asm) (gJ 12 rfl rfl<|aC (jX (bk [3,4,5,6,7,8,9,10,11,12]))<|aO) rfl fun O AA=>?_
 obtain ⟨C,D⟩:=O
 try dsimp only
 refine rP 1 [] I ?_
 rw [show (l0 (ib j.aF (fun N B=>(hG j B))) j.aF.length)=ki j from by rw [qs A]; rfl]
 refine rP 1 [] I ?_
 refine RK J<|aq ?_
 refine LX hQ (C,D) [0] [] I U U U ?_ ?_
 ·(rw [A]; rfl)
 ·trivial
theorem Oj (j:cK) (kA:OA) (kC:Nat) (az:List RA) (cA:OA) (cC:Nat) (bA:OA) (bC:Nat) (slA:OA) (slC:Nat) (drA:OA) (drC:Nat) (ha:List c_) (heA:OA) (heC:Nat) (faA:OA) (faC:Nat) (prA:OA) (prC:Nat) (hin:gT j az ha):
 dL Tryz.prog 14 [(vA (ep.cells (nu j kA kC cA cC bA bC slA slC drA drC heA heC faA faC prA prC)))] [(rd gU 3 2 fW),(rd kA j.Race.ak.aS.length 9 (j.Race.ak.aS.map ar.cells)),(rd cA j.Race.ak.aj.length 2 (List.zipWith au.cells j.Race.ak.aj az)),(dT (br au.gd j.Race.ak.aj az)),(rd bA j.Race.ak.aa.length 4 (j.Race.ak.aa.map bJ.cells)),(rd slA j.Race.bj.length 1 (j.Race.bj.map iC)),(rd drA j.Race.cq.length 1 (j.Race.cq.map iC)),(rd heA j.Race.aD.length 1 (List.zipWith cL j.Race.aD ha)),(dT (br fj j.Race.aD ha)),(rd faA j.aG.length 4 (j.aG.map aK.cells)),(rd prA j.aF.length 5 (j.aF.map aY.cells))] (vT [(vI (AH j)),(vI (zY j)),(vI (ej j))]):=by
 have R:=hin.race
 have M:=hin.race.line
 have Y:=hin.race.iu
 have Z:=hin.race.has
 have S:=hin.race.ir
 have O:=hin.nf
 have P:=hin.np
 refine bH kr Tryz.func14 U U fun k Q hQ hN=>?_
 try dsimp only
 refine WS fun _ G=>eO U fun f=>bE 3 U<|RK G<|WS fun _ H=>rP 1 [] (mc 0 U I) ?_
 refine cX (B_ j kA kC az cA cC bA bC slA slC drA drC ha heA heC faA faC prA prC hin) (bk [1,2,3,4,5,6,7,8,9,10,11]) U fun c b=>?_
 obtain ⟨d,g⟩:=c
 try dsimp only
 refine bE 5 U<|RK H<|ao fun _ AB=>WS fun _ J=>rP 2 [] I ?_
 refine RK J<|cy U (aX fun A=>?_) (aW fun A=>?_)
 ·refine WS fun _ D=>rP 4 [] I ?_
  refine RK D<|aq<|Q3 hQ U U U U U ?_
  (have e:=Hh A; rw [e.1,e.2]; done)
 refine WK AB<|WS fun _ E=>?_
 have C:=(eE A).2
 have X:(ki j).length≤8:=by have h:=C.np; have i:=xz (j:=j); rw [qs A]; omega
 have B:=C.tN
 have N:=C.np
 have K:=DX (a:=((ki j).length:Int)) ⟨om,om⟩ B
 have L:=DX (a:=(j.aF.length:Int)) ⟨om,om⟩ B
 have T:=Int.mul_le_mul_of_nonneg_right (show (0:Int)≤((ki j).length:Int) by omega) B.1
 have AA:=Int.mul_le_mul_of_nonneg_right (show ((ki j).length:Int)≤8 by omega) B.1
 have V:=Int.mul_le_mul_of_nonneg_right (show (0:Int)≤(j.aF.length:Int) by omega) B.1
 have W:=Int.mul_le_mul_of_nonneg_right N B.1
 refine eV 4 [] (mc 1 U I) U<|rS (BI U (nt K))<|bE 1 U<|RK E<|ao fun _ F=>dj cj 12 kr<|lz 6 [] (mc 1 U I) U<|dS (BI U (nt L))<|dP 5 [] I ?_
 refine cD<|RK F<|aq<|Q3 hQ U U U U U ?_
 (have e:=xL A; rw [e.1,e.2,A,qs A]; rfl)
theorem Jt (i:Int) (p:aY) (sq:Int) (g1:Nat) (j:cK) (kA:OA) (kC:Nat) (az:List RA) (cA:OA) (cC:Nat) (bA:OA) (bC:Nat) (slA:OA) (slC:Nat) (drA:OA) (drC:Nat) (ha:List c_) (heA:OA) (heC:Nat) (faA:OA) (faC:Nat) (prA:OA) (prC g2:Nat) (hin:gT j az ha) (hok:ej j=0) (hp: ∃ i:Nat,j.aF[i]? =some p):
 dL Tryz.prog 36 [(vI i),(vA (aY.cells p)),(vP g1),(vP g2)] [(cp g1 3 [(vI sq)]),(rd kA j.Race.ak.aS.length 9 (j.Race.ak.aS.map ar.cells)),(rd cA j.Race.ak.aj.length 2 (List.zipWith au.cells j.Race.ak.aj az)),(dT (br au.gd j.Race.ak.aj az)),(rd bA j.Race.ak.aa.length 4 (j.Race.ak.aa.map bJ.cells)),(rd slA j.Race.bj.length 1 (j.Race.bj.map iC)),(rd drA j.Race.cq.length 1 (j.Race.cq.map iC)),(rd heA j.Race.aD.length 1 (List.zipWith cL j.Race.aD ha)),(dT (br fj j.Race.aD ha)),(rd faA j.aG.length 4 (j.aG.map aK.cells)),(rd prA j.aF.length 5 (j.aF.map aY.cells)),(cp g2 91 (df.cells (df.mk (nu j kA kC cA cC bA bC slA slC drA drC heA heC faA faC prA prC))))] (vB (AA j sq p)):=by
 refine bH kr Tryz.func36 U U fun E Q hQ hN=>?_
 try dsimp only
 refine WS fun _ C=>eO U fun D=>bE 1 U<|RK C<|WS fun _ B=>rP 5 [0,1] (mc 0 U (mr 1 U I)) ?_
 refine bU (t:=11) U (aV fun A=>?_) (aU fun A=>?_)
 ·refine rP 7 [] I ?_
  refine RK B<|aq<|Q1 hQ U U U ?_
  (rw [Nu A]; done)
 refine eV 3 [0,1] (mr 12 U (mc 0 U I)) U<|rS (CL (vt j kA kC az cA cC bA bC slA slC drA drC ha heA heC faA faC prA prC i p hin hok hp) (bk [2,3,4,5,6,7,8,9,10,11]) U)<|rP 3 [] I ?_
 refine RK B<|aq<|Q1 hQ U U U ?_
 (rw [H8 A]; done)
theorem MQ (j:cK) (kA:OA) (kC:Nat) (az:List RA) (cA:OA) (cC:Nat) (bA:OA) (bC:Nat) (slA:OA) (slC:Nat) (drA:OA) (drC:Nat) (ha:List c_) (heA:OA) (heC:Nat) (faA:OA) (faC:Nat) (prA:OA) (prC:Nat) (sq:Int) (hin:gT j az ha):
 dL Tryz.prog 15 [(vA (ep.cells (nu j kA kC cA cC bA bC slA slC drA drC heA heC faA faC prA prC))),(vI sq)] [(rd gU 3 2 fW),(rd kA j.Race.ak.aS.length 9 (j.Race.ak.aS.map ar.cells)),(rd cA j.Race.ak.aj.length 2 (List.zipWith au.cells j.Race.ak.aj az)),(dT (br au.gd j.Race.ak.aj az)),(rd bA j.Race.ak.aa.length 4 (j.Race.ak.aa.map bJ.cells)),(rd slA j.Race.bj.length 1 (j.Race.bj.map iC)),(rd drA j.Race.cq.length 1 (j.Race.cq.map iC)),(rd heA j.Race.aD.length 1 (List.zipWith cL j.Race.aD ha)),(dT (br fj j.Race.aD ha)),(rd faA j.aG.length 4 (j.aG.map aK.cells)),(rd prA j.aF.length 5 (j.aF.map aY.cells))] (vT [(vI (tR j sq)),(vI (rf j sq))]):=by
 have c:=hin.race
 have W:=hin.race.line
 have i:=hin.race.iu
 have k:=hin.race.has
 have d:=hin.race.ir
 have Z:=hin.nf
 have b:=hin.np
 refine bH kr Tryz.func15 U U fun q Q hQ hN=>?_
 try dsimp only
 refine WS fun _ M=>eO U fun o=>wR U U fun AC=>bE 2 U<|RK M<|WS fun _ N=>eV 1 [] (mc 1 U I) U<|rS (CL (uo j kA kC az cA cC bA bC slA slC drA drC ha heA heC faA faC prA prC hin) (bk [2,3,4,5,6,7,8,9,10,11,12]) U)<|bE 3 U<|AL U HQ fun J=>fJ U HR U<|bE 1 U<|RK N<|ao fun _ O=>WS fun _ P=>rP 2 [] I ?_
 refine RK P<|cy U (aX fun A=>?_) (aW fun A=>?_)
 ·refine WS fun _ R=>rP 3 [] I ?_
  refine RK R<|aq<|Q2 hQ U U U U ?_
  (have e:=HO (s:=sq) A; rw [e.1,e.2]; done)
 refine WK O<|ao fun _ S=>WS fun _ C=>rP 6 [0,1] (mc 2 U (mc 1 U I)) ?_
 refine d_ (xs:=[.tmp 22]) (cs:=[(vI sq)]) U dk jO U U U U (by simp [Value.cells]) U U fun K=>?_
 refine rS (CL (dL.eq (iG 0 ((j.Race.bj.length:Int)-1) ([sq]) (some ⟨K,0,none⟩) 1 (by (simp; done))) cw) (aC (bo 0 U U (by simp [bL]) U)<|aO) U) ?_
 refine rP 1 [] I ?_
 refine RK C<|cy U (aX fun L=>?_) (aW fun L=>?_)
 ·refine WS fun _ D=>rP 2 [] I ?_
  refine RK D<|aq<|Q2 hQ U U U U ?_
  (have e:=Gq (s:=sq) A om; rw [e.1,e.2]; done)
 refine WK S<|WS fun _ E=>rP 2 [] (mc 3 U I) ?_
 refine rS (FU U) ?_
 refine cX (AD j.aF prA prC (Value.func (.func 36) [].toArray [(vP AC),(vP J)].toArray) (fun H B=>(AA j sq B)) (dT [(cp AC 3 [(vI sq)]),(rd kA j.Race.ak.aS.length 9 (j.Race.ak.aS.map ar.cells)),(rd cA j.Race.ak.aj.length 2 (List.zipWith au.cells j.Race.ak.aj az)),(dT (br au.gd j.Race.ak.aj az)),(rd bA j.Race.ak.aa.length 4 (j.Race.ak.aa.map bJ.cells)),(rd slA j.Race.bj.length 1 (j.Race.bj.map iC)),(rd drA j.Race.cq.length 1 (j.Race.cq.map iC)),(rd heA j.Race.aD.length 1 (List.zipWith cL j.Race.aD ha)),(dT (br fj j.Race.aD ha)),(rd faA j.aG.length 4 (j.aG.map aK.cells)),(rd prA j.aF.length 5 (j.aF.map aY.cells)),(cp J 91 (df.cells (df.mk (nu j kA kC cA cC bA bC slA slC drA drC heA heC faA faC prA prC))))]) (by intro H B X; exact k7 (fi:=[]) (ca:=[(vP AC),(vP J)]) (jS (Jt H B sq AC j kA kC az cA cC bA bC slA slC drA drC ha heA heC faA faC prA prC J asm asm (by (obtain ⟨n,_,V⟩:=X; exact ⟨n,V⟩))) (bk [0,1,2,3,4,5,6,7,8,9,10,11]))) asm) (gJ 14 rfl rfl<|aC (jX (bk [2,5,6,7,8,9,10,11,12,13,14,1]))<|aO) rfl fun Y f=>?_
 obtain ⟨g,h⟩:=Y
 try dsimp only
 refine bE 1 U<|RK E<|WS fun _ F=>rP 1 [] I ?_
 have G:=(eE A).2
 have m:=G.np
 have AB:=G.tN
 have l:(l0 (ib j.aF fun _ p=>AA j sq p) j.aF.length).length≤8:=Nat.le_trans qh om
 have T:=DX (a:= -(((l0 (ib j.aF fun _ p=>AA j sq p) j.aF.length).length:Nat):Int)) ⟨om,om⟩ AB
 refine bE 1 U<|rS (NG U ⟨om,om⟩)<|eV 2 [] (mc 4 U I) U<|rS (BI U (nt T))<|rP 2 [] I ?_
 refine RK F<|aq<|Q2 hQ U U U U ?_
 (have e:=KL (s:=sq) A om; rw [e.1,e.2]; done)
end
section
open Go.RowKit
theorem Ld (l:List aK) (lA:OA) (lC:Nat) (f:Value) (p:aK→Bool) (X:ay) (hf: ∀ x0,x0∈l→DI Tryz.prog f [.agg (aK.cells x0).toArray] [X] (.bool (p x0))) (hlen:l.length≤1000000):
 dL Tryz.prog 108 [(vS lA l.length lC),f] [(rd lA l.length 4 (l.map aK.cells)),X] (vI (sY p l)):=by
 refine bH kr Tryz.func108 U U fun R Q hQ hN=>?_
 try dsimp only
 refine WS fun _ G=>bE 1 U<|RK G<|ao fun _ H=>WS fun _ AA=>rP 3 [] I ?_
 refine RK AA<|aI ?_
 have B:(0≤l.length)∧((l.take 0).any p=false):=by simp
 refine bZ (ι:={z:Nat // (z≤l.length)∧((l.take z).any p=false)}) [0,1,7] [0,1] U U (fun z=>[(8,(vI (z.1:Int)))]) (fun z=>[]) (fun _=>rfl) (fun _=>rfl) (fun z=>l.length-z.1) ⟨0,B⟩ (bu U) (aQ [0,1]) ?_
 clear B
 rintro ⟨i,⟨N,A⟩⟩ J4 F
 try dsimp only
 refine WS fun _ J=>rP 1 [] I ?_
 refine RK J<|ao fun _ K=>bW U (aV fun P=>?_) (aU fun P=>?_)
 ·refine bS<|ai<|ai<|aL<|KK H<|WS fun _ E=>rP 1 [] I ?_
  refine RK E<|aq<|Q1 hQ U U U ?_
  exact cI (ql om A).symm
 refine WK K<|ao fun _ L=>aI<|WS fun _ M=>bE 2 U<|RK M<|WS fun _ C=>rP 3 [] I ?_
 obtain ⟨x,hx⟩:=aJ l i om
 have O:=bM aK.cells hx
 refine rS (IA i U (aB 0 U) yQ dc om om)<|rS (lM i 0 (aK.cells x) U b_ (aB 0 U) O U dc U U)<|rS (SX (qk U U U (hf x (aP hx)) (bk [1])) U U)<|RK C<|cy U (fun hp=>?_) (fun hp=>?_)
 ·refine WS fun _ D=>rP 2 [] I ?_
  refine RK D<|aq<|Q1 hQ U U U ?_
  exact cI (uu hx hp A).symm
 refine cu<|aR<|KK L<|aw<|rP 2 [] I ?_
 refine aH ?_
 refine bq (F ⟨(i+1),⟨om,ur hx A hp⟩⟩ _ _ _ U os (bu U) (aQ [0,1]))
theorem CS (l:List aK) (lA:OA) (lC:Nat) (f:Value) (p:aK→Bool) (X:ay) (hf: ∀ x0,x0∈l→DI Tryz.prog f [.agg (aK.cells x0).toArray] [X] (.bool (p x0))) (hlen:l.length≤1000000):
 dL Tryz.prog 82 [(vS lA l.length lC),f] [(rd lA l.length 4 (l.map aK.cells)),X] (vB (l.any p)):=by
 refine bH kr Tryz.func82 U U fun C Q hQ hN=>?_
 try dsimp only
 refine WS fun _ A=>bE 1 U<|RK A<|WS fun _ B=>bE 2 U<|rS (CL (Ld l lA lC f p X (by exact hf) hlen) (bk [0,1]) U)<|rP 2 [] I ?_
 refine RK B<|aq<|Q1 hQ U U U ?_
 exact cB sK
theorem Qn (f:aK) (fm:List (Int×Bool)) (gm:Nat) (j:cK) (kA:OA) (kC:Nat) (az:List RA) (cA:OA) (cC:Nat) (bA:OA) (bC:Nat) (slA:OA) (slC:Nat) (drA:OA) (drC:Nat) (ha:List c_) (heA:OA) (heC:Nat) (faA:OA) (faC:Nat) (prA:OA) (prC:Nat) (d:ax) (sgA:OA) (sgC g1:Nat) (g2 g3:Nat) (hin:gT j az ha) (hok:ej j=0) (hfm:f∈j.aG) (hsl:d.bx.ab.length≤1000000):
 dL Tryz.prog 83 [(vA (aK.cells f)),(vP g1),(vP g2),(vP g3)] [(kh iV gm (cT vB fm)),(rd kA j.Race.ak.aS.length 9 (j.Race.ak.aS.map ar.cells)),(rd cA j.Race.ak.aj.length 2 (List.zipWith au.cells j.Race.ak.aj az)),(dT (br au.gd j.Race.ak.aj az)),(rd bA j.Race.ak.aa.length 4 (j.Race.ak.aa.map bJ.cells)),(rd slA j.Race.bj.length 1 (j.Race.bj.map iC)),(rd drA j.Race.cq.length 1 (j.Race.cq.map iC)),(rd heA j.Race.aD.length 1 (List.zipWith cL j.Race.aD ha)),(dT (br fj j.Race.aD ha)),(rd faA j.aG.length 4 (j.aG.map aK.cells)),(rd prA j.aF.length 5 (j.aF.map aY.cells)),(rd sgA d.bx.ab.length 2 (d.bx.ab.map aA.cells)),(cp g1 132 [(Value.map (some gm))]),(cp g2 91 (df.cells (df.mk (nu j kA kC cA cC bA bC slA slC drA drC heA heC faA faC prA prC)))),(cp g3 50 (aM.cells (aM.mk d.Out d.dC d.Time (ji d.bx sgA sgC))))] (vB (((List.lookup (o0 j.aG f) fm).getD false)&& !decide (fF j.Race.ak f d=0))):=by
 have L:=hin.race
 have AB:=hin.race.line
 have P:=hin.race.iu
 have R:=hin.race.has
 have M:=hin.race.ir
 have J:=hin.nf
 have K:=hin.np
 have D:=(eE hok).1
 have G:=(eE hok).2
 have H:=(eH D).1
 have S:=(eH D).2
 have F:=(du H).2.head
 unfold eU at F
 have C:=G.fault f hfm
 have O:0≤f.de∧f.de≤1000000:=by have N:=C.2.2; split at N<;>omega
 refine bH kr Tryz.func83 U U fun AA Q hQ hN=>?_
 try dsimp only
 refine WS fun _ E=>eO U fun T=>bE 1 U<|RK E<|ao fun _ B=>dj cj 15 kr<|lz 5 [0,1,2] (mr 13 U (mr 14 U (mc 0 U I))) U<|dS (CL (B4 j.aG faA faC f asm) (bk [10]) U)<|dS (SX (wB (kV:=iV) (x:=(o0 j.aG f)) (l:=fm) (f:=Value.bool) (z:=false) U U U CO (iz sO) Wm (by exact Mj 1 U)) U U)<|dP 1 [] I ?_
 refine jB (t:=13) U (fun A=>?_) (fun A=>?_)
 ·refine dP 7 [] I ?_
  refine cD<|RK B<|aq<|Q1 hQ U U U ?_
  (rw [A,Bool.false_and]; done)
 refine lz 3 [0,1,2] (mr 14 U (mc 0 U (mr 15 U I))) U<|dS (CL (Aw j kA kC az cA cC bA bC slA slC drA drC ha heA heC faA faC prA prC f d sgA sgC hin (by exact C.1) asm hsl) (bk [2,3,4,5,6,7,8,9,10,11,12]) U)<|dS (BI U ky)<|dP 2 [] I ?_
 refine cD<|RK B<|aq<|Q1 hQ U U U ?_
 (rw [A,Bool.true_and]; done)
end
section
open Go.RowKit
theorem NN (fm:List (Int×Bool)) (gm:Nat) (j:cK) (kA:OA) (kC:Nat) (az:List RA) (cA:OA) (cC:Nat) (bA:OA) (bC:Nat) (slA:OA) (slC:Nat) (drA:OA) (drC:Nat) (ha:List c_) (heA:OA) (heC:Nat) (faA:OA) (faC:Nat) (prA:OA) (prC g1 g2:Nat) (hin:gT j az ha) (hok:ej j=0):
 QK Tryz.prog 81 [] [(vP g1),(vP g2)] [(kh iV gm (cT vB fm)),(rd kA j.Race.ak.aS.length 9 (j.Race.ak.aS.map ar.cells)),(rd cA j.Race.ak.aj.length 2 (List.zipWith au.cells j.Race.ak.aj az)),(dT (br au.gd j.Race.ak.aj az)),(rd bA j.Race.ak.aa.length 4 (j.Race.ak.aa.map bJ.cells)),(rd slA j.Race.bj.length 1 (j.Race.bj.map iC)),(rd drA j.Race.cq.length 1 (j.Race.cq.map iC)),(rd heA j.Race.aD.length 1 (List.zipWith cL j.Race.aD ha)),(dT (br fj j.Race.aD ha)),(rd faA j.aG.length 4 (j.aG.map aK.cells)),(rd prA j.aF.length 5 (j.aF.map aY.cells)),(cp g1 91 (df.cells (df.mk (nu j kA kC cA cC bA bC slA slC drA drC heA heC faA faC prA prC)))),(cp g2 132 [(Value.map (some gm))])] ((0:Nat)) (LF (hP j (lV j.aG fm))) (fun k=>k=j.Race.aD.length):=by
 have Ck:=hin.race
 have Hi:=hin.race.line
 have J3:=hin.race.iu
 have J4:=hin.race.has
 have If:=hin.race.ir
 have H1:=hin.nf
 have Id:=hin.np
 have Ci:=(eE hok).1
 have J5:=(eE hok).2
 have Go:=(eH Ci).1
 have Hm:=(eH Ci).2
 have GR:=(du Go).2.head
 unfold eU at GR
 refine MI kr Tryz.func81 U U fun l J Z A0 w0 Q hY Du Do hQ hN=>?_
 try dsimp only
 refine WS fun _ Eq=>rP 6 [] (mr 12 U I) ?_
 refine RK Eq<|aI ?_
 have B:(0≤j.Race.aD.length)∧(J 0 A0)∧(Fo A0 w0 A0):=by exact ⟨Nat.zero_le _,Du,Do⟩
 refine bZ (ι:={z:Nat×ay // (z.1≤j.Race.aD.length)∧(J z.1 z.2)∧(Fo A0 w0 z.2)}) [0,1,2,15,16] [1,2,3,4,5,6,7,8,9,10,11,12,13] U U (fun z=>[(17,(vI (z.1.1:Int)))]) (fun z=>[z.1.2]) (fun _=>rfl) (fun _=>rfl) (fun z=>j.Race.aD.length-z.1.1) ⟨(0,A0),B⟩ (bu U) (aQ [1,2,3,4,5,6,7,8,9,10,11,12,13,0]) ?_
 clear B
 rintro ⟨⟨h,A⟩,⟨X,F,G⟩⟩ J2 EQ
 try dsimp only at X F G
 try dsimp only
 refine WS fun _ FC=>rP 1 [] I ?_
 refine RK FC<|ao fun _ FE=>bW U (aV fun h5=>?_) (aU fun h5=>?_)
 ·refine bS<|ai<|ai<|aL ?_
  refine hN _ _ _ (jW (vs:=[]) trivial fun w hs=>QV 13 U (by show h=j.Race.aD.length; omega) F G hs)
 refine WK FE<|ao fun _ FS=>aI<|WS fun _ Fd=>?_
 obtain ⟨ht,E⟩:=aJ j.Race.aD h om
 obtain ⟨C,D⟩:=aJ ha h om
 have B9:(List.zipWith cL j.Race.aD ha)[h]? =some (cL ht C):=dF E D
 refine rS (IA h U (aB 7 U) oz dc om om) ?_
 have B3:=Ck.gH _ _ _ E D
 have IO:=B3.nx
 have IR:=(Hm.gH ht (aP E)).1
 refine rS (gE h 0 (vS C.1.1 ht.length C.1.2) U b_ (aB 7 U) B9 U dc U)<|rP 1 [] I ?_
 refine RK Fd<|WS fun _ Fn=>mT (kV:=iV) U U fun b9=>?_
 try dsimp only
 refine bE 1 U<|RK Fn<|ao fun _ b=>WS fun _ e=>rP 3 [] I ?_
 refine RK e<|aI ?_
 skip
 have B:(0≤ht.length):=by exact Nat.zero_le _
 refine bZ (ι:={z:Nat // (z≤ht.length)}) [0,1,2,5,6,15,16,17,23] [1,2,3,4,5,6,7,8,9,10,11,12,13,14] U U (fun z=>[(24,(vI (z.1:Int)))]) (fun z=>[(kh iV b9 (cT vB (ic (ly j.Race.ak j.aG fm ht) z.1 0)))]) (fun _=>rfl) (fun _=>rfl) (fun z=>ht.length-z.1) ⟨0,B⟩ (bu U) (aQ [1,2,3,4,5,6,7,8,9,10,11,12,13,14,0]) ?_
 clear B
 rintro ⟨q,GT⟩ J12 Y
 try dsimp only
 refine WS fun _ g=>rP 1 [] I ?_
 refine RK g<|ao fun _ i=>cy U (aU fun C2=>?_) (aV fun C2=>?_)
 ·refine WK i<|ao fun _ m=>aI<|WS fun _ o=>bE 2 U<|RK o<|aw<|rP 2 [] I ?_
  have A3:(ew (ic (ly j.Race.ak j.aG fm ht) q 0) (q:Int) true)=(ic (ly j.Race.ak j.aG fm ht) (q+1) 0):=by exact Lv
  refine iR (kV:=iV) (x:=(q:Int)) (C':=[_,_,_,_,_,_,_,_,_,_,_,_,_,_,(kh iV b9 (cT vB (ic (ly j.Race.ak j.aG fm ht) (q+1) 0)))]) 14 U U U U CO (iz sO) U ((gN _ _ _ _).symm.trans (congrArg _ A3)) U<|aH<|aR<|KK m<|aw<|rP 2 [] I ?_
  refine aH ?_
  have A4:(vI (((q+1):Nat):Int))=(vI ((q:Int)+1)):=by exact cI om
  refine bq (Y ⟨(q+1),(by first|omega|(simp only []; omega))⟩ _ _ _ U os (cY 9<|bw U A4<|dG.nil _) (aQ [0,1,2,3,4,5,6,7,8,9,10,11,12,13,14]))
 refine bS<|ai<|ai<|aL<|KK b<|ao fun _ p=>WS fun _ r=>rP 3 [] I ?_
 refine RK r<|aI ?_
 rw [show (ic (ly j.Race.ak j.aG fm ht) q 0)=(ic (ly j.Race.ak j.aG fm ht) ht.length 0) from by rw [show q=ht.length by omega]]
 have B:(0≤ht.length):=by exact Nat.zero_le _
 refine bZ (ι:={z:Nat // (z≤ht.length)}) [0,1,2,5,6,15,16,17,30,31] [0,1,2,3,4,5,6,7,8,9,10,11,12,13] U U (fun z=>[(32,(vI (z.1:Int)))]) (fun z=>[(kh iV b9 (cT vB (ic (ly j.Race.ak j.aG fm ht) ht.length z.1)))]) (fun _=>rfl) (fun _=>rfl) (fun z=>ht.length-z.1) ⟨0,B⟩ (bu U) (aQ [0,1,2,3,4,5,6,7,8,9,10,11,12,13,14]) ?_
 clear B
 rintro ⟨q,Cx⟩ J22 R
 try dsimp only
 refine WS fun _ s=>rP 1 [] I ?_
 refine RK s<|ao fun _ t=>bW U (aV fun C3=>?_) (aU fun C3=>?_)
 ·refine bS<|ai<|ai<|aL<|KK p<|WS fun _ y=>bE 1 U<|RK y<|ao fun _ AC=>WS fun _ AO=>rP 3 [] I ?_
  refine RK AO<|aI ?_
  rw [show (ic (ly j.Race.ak j.aG fm ht) ht.length q)=(ic (ly j.Race.ak j.aG fm ht) ht.length ht.length) from by rw [show q=ht.length by omega]]
  refine eK 3 1 ?_
  have B:(0≤ht.length):=by exact Nat.zero_le _
  refine bZ (ι:={z:Nat×(OA)×Nat // (z.1≤ht.length)}) [0,1,2,5,6,15,16,17,47] [1,2,3,4,5,6,7,8,9,10,11,12,13,14,15] U U (fun z=>[(10,(vS z.1.2.1 ((l0 (ly j.Race.ak j.aG fm ht) z.1.1).length) z.1.2.2)),(48,(vI (z.1.1:Int)))]) (fun z=>[(own z.1.2.1 z.1.2.2 3 1 ((l0 (ly j.Race.ak j.aG fm ht) z.1.1).map iC))]) (fun _=>rfl) (fun _=>rfl) (fun z=>ht.length-z.1.1) ⟨(0,none,0),B⟩ (bu U) (aQ [1,2,3,4,5,6,7,8,9,10,11,12,13,14,15,0]) ?_
  clear B
  rintro ⟨⟨q,a,c⟩,M⟩ J37 S
  try dsimp only at M
  try dsimp only
  refine WS fun _ Ad=>rP 1 [] I ?_
  refine RK Ad<|ao fun _ An=>bW U (aV fun Di=>?_) (aU fun Di=>?_)
  ·refine bS<|ai<|ai<|aL<|KK AC<|ao fun _ V=>?_
   rw [show (l0 (ly j.Race.ak j.aG fm ht) q)=(l0 (ly j.Race.ak j.aG fm ht) ht.length) from by rw [show q=ht.length by omega]]
   refine aw<|rP 2 [] I ?_
   refine Jg (k:=h) (k':=(h+1)) 13 15 U hY F G U U U ⟨_,_,_,LO E,U,U,U⟩ U U U U (fun B50 K AB=>?_) (fun B50 K AB=>?_)
   rotate_left 1
   ·refine rP 1 [] I ?_
    refine RK V<|aT U<|aq ?_
    refine hQ _ _ _ (jW (vs:=[]) trivial fun w hs=>E1 0 U K AB hs)
   refine bE 1 U<|RK V<|ct U<|cu<|aR<|KK FS<|aw<|rP 2 [] I ?_
   refine aH ?_
   have Bd:(vI (((h+1):Nat):Int))=(vI ((h:Int)+1)):=by exact cI om
   refine bq (EQ ⟨((h+1),B50),⟨om,K,AB⟩⟩ _ _ _ U os (cY 5<|bw U Bd<|dG.nil _) (aQ [1,2,3,4,5,6,7,8,9,10,11,12,13,0]))
  refine WK An<|ao fun _ AA=>aI<|WS fun _ A1=>bE 2 U<|RK A1<|WS fun _ A2=>rP 2 [] I ?_
  refine rS (SX (wB (kV:=iV) (x:=(q:Int)) (l:=(ic (ly j.Race.ak j.aG fm ht) ht.length ht.length)) (f:=Value.bool) (z:=false) U U U CO (iz sO) Wm (by exact aB 14 U)) U U)<|RK A2<|bW U (fun W=>?_) (fun W=>?_)
  ·refine cu<|aR<|KK AA<|aw<|rP 2 [] I ?_
   refine aH ?_
   rw [show (l0 (ly j.Race.ak j.aG fm ht) q)=(l0 (ly j.Race.ak j.aG fm ht) (q+1)) from (s8 (by rw [← zx (P:=(ly j.Race.ak j.aG fm ht)) (show q<ht.length by omega)]; simpa using W)).symm]
   have A9:(vI (((q+1):Nat):Int))=(vI ((q:Int)+1)):=by exact cI om
   refine bq (S ⟨((q+1),a,c),(by first|omega|(simp only []; omega))⟩ _ _ _ U os (cY 10<|bw U A9<|dG.nil _) (aQ [0,1,2,3,4,5,6,7,8,9,10,11,12,13,14,15]))
  refine aw<|rP 2 [] I ?_
  refine d_ (xs:=[.tmp 55]) (cs:=[(vI (q:Int))]) U dk jO U U U U (by simp [Value.cells]) U U fun In=>?_
  refine dD (es2:=(List.map iC (l0 (ly j.Race.ak j.aG fm ht) (q+1)))) (m':=(l0 (ly j.Race.ak j.aG fm ht) (q+1)).length) 16 U U U rL U U sm (bo (es:=List.map iC [(q:Int)]) 0 U U (by simp [bL]) U) (kD _) (by have:=qh (P:=(ly j.Race.ak j.aG fm ht)) (n:=q); omega) (by have:=qh (P:=(ly j.Race.ak j.aG fm ht)) (n:=q); simp only [maxLen]; omega) (by rw [yb (by rw [← zx (P:=(ly j.Race.ak j.aG fm ht)) (show q<ht.length by omega)]; exact W)]; simp) sm U fun C0 C1=>?_
  try dsimp only
  refine bE 1 U<|aH<|aR<|KK AA<|aw<|rP 2 [] I ?_
  refine aH ?_
  have A8:(vI (((q+1):Nat):Int))=(vI ((q:Int)+1)):=by exact cI om
  refine bq (S ⟨((q+1),C0,C1),(by first|omega|(simp only []; omega))⟩ _ _ _ U os (cY 10<|bw U A8<|dG.nil _) (aQ [1,2,3,4,5,6,7,8,9,10,11,12,13,14,15,16]))
 refine WK t<|ao fun _ T=>aI<|WS fun _ u=>rP 1 [] I ?_
 obtain ⟨d,hd⟩:=aJ ht q om
 obtain ⟨da,Bo⟩:=aJ C.2 q om
 have GE:(List.zipWith ax.cells ht C.2)[q]? =some (ax.cells d da):=dF hd Bo
 refine rS (IA q U (show iJ _ (rd C.1.1 ht.length 7 (List.zipWith ax.cells ht C.2)).holds from (cU 8 U (bQ E D cx))) rr dc om om) ?_
 have J6:=B3.sig d (aP hd)
 refine rS (lM q 0 (aM.cells (aM.mk d.Out d.dC d.Time (cb.mk d.bx.Start d.bx.gh (bD.mk da.1 d.bx.ab.length da.2)))) U b_ (show iJ _ (rd C.1.1 ht.length 7 (List.zipWith ax.cells ht C.2)).holds from (cU 8 U (bQ E D cx))) GE U dc U U)<|AL U AK fun L=>bE 1 U<|fJ U Hy U<|RK u<|WS fun _ v=>rP 3 [] (mr 12 U I) ?_
 refine rS (FU U) ?_
 refine rS (CL (CS j.aG faA faC (Value.func (.func 83) [].toArray [(vP g2),(vP g1),(vP L)].toArray) (fun O=>(((List.lookup (o0 j.aG O) fm).getD false)&& !decide (fF j.Race.ak O d=0))) (dT [(kh iV gm (cT vB fm)),(rd kA j.Race.ak.aS.length 9 (j.Race.ak.aS.map ar.cells)),(rd cA j.Race.ak.aj.length 2 (List.zipWith au.cells j.Race.ak.aj az)),(dT (br au.gd j.Race.ak.aj az)),(rd bA j.Race.ak.aa.length 4 (j.Race.ak.aa.map bJ.cells)),(rd slA j.Race.bj.length 1 (j.Race.bj.map iC)),(rd drA j.Race.cq.length 1 (j.Race.cq.map iC)),(rd heA j.Race.aD.length 1 (List.zipWith cL j.Race.aD ha)),(dT (br fj j.Race.aD ha)),(rd faA j.aG.length 4 (j.aG.map aK.cells)),(rd prA j.aF.length 5 (j.aF.map aY.cells)),(rd da.1 d.bx.ab.length 2 (d.bx.ab.map aA.cells)),(cp g2 132 [(Value.map (some gm))]),(cp g1 91 (df.cells (df.mk (nu j kA kC cA cC bA bC slA slC drA drC heA heC faA faC prA prC)))),(cp L 50 (aM.cells (aM.mk d.Out d.dC d.Time (cb.mk d.bx.Start d.bx.gh (bD.mk da.1 d.bx.ab.length da.2)))))]) (by intro O N; exact k7 (fi:=[]) (ca:=[(vP g2),(vP g1),(vP L)]) (jS (Qn O fm gm j kA kC az cA cC bA bC slA slC drA drC ha heA heC faA faC prA prC d da.1 da.2 g2 g1 L (by first|assumption|exact N|omega) (by first|assumption|exact N|omega) (by first|assumption|exact N|omega) (by first|assumption|exact N|omega)) (bk [0,1,2,3,4,5,6,7,8,9,10,11,12,13,14]))) asm) (gJ 10 U U<|aC (jX (nV [1,2,3,4,5,6,7,8,9,10,11]<|aC (show iJ _ (rd da.1 d.bx.ab.length 2 (d.bx.ab.map aA.cells)).holds from (cU 9 U (bQ E D (di _ (bQ hd Bo (by simp [ax.gd]))))))<|gJ 13 U U<|gJ 12 U U<|gJ 0 U U<|aO))<|aO) U) ?_
 refine rP 1 [] I ?_
 refine RK v<|bW U (fun H=>?_) (fun H=>?_)
 ·rw [Bool.not_eq_false'] at H
  refine cu<|aR<|KK T<|aw<|rP 2 [] I ?_
  refine aH ?_
  rw [show (ic (ly j.Race.ak j.aG fm ht) ht.length q)=(ic (ly j.Race.ak j.aG fm ht) ht.length (q+1)) from Hn (by rw [Fj hd]; simpa using H)]
  have A7:(vI (((q+1):Nat):Int))=(vI ((q:Int)+1)):=by exact cI om
  refine bq (R ⟨(q+1),(by first|omega|(simp only []; omega))⟩ _ _ _ U os (cY 10<|bw U A7<|dG.nil _) (aQ [1,2,3,4,5,6,7,8,9,10,11,12,13,14,15]))
 rw [Bool.not_eq_true'] at H
 refine aw<|rP 2 [] I ?_
 have A5:(fy (ic (ly j.Race.ak j.aG fm ht) ht.length q) (q:Int))=(ic (ly j.Race.ak j.aG fm ht) ht.length (q+1)):=by exact LU (by rw [Fj hd]; exact H)
 refine tj (kV:=iV) (x:=(q:Int)) (C':=[_,_,_,_,_,_,_,_,_,_,_,_,_,_,_,(kh iV b9 (cT vB (ic (ly j.Race.ak j.aG fm ht) ht.length (q+1))))]) 15 U U U U CO (iz sO) U ((ou _ _ _).symm.trans (congrArg _ A5)) U<|aH<|aR<|KK T<|aw<|rP 2 [] I ?_
 refine aH ?_
 have A6:(vI (((q+1):Nat):Int))=(vI ((q:Int)+1)):=by exact cI om
 refine bq (R ⟨(q+1),(by first|omega|(simp only []; omega))⟩ _ _ _ U os (cY 10<|bw U A6<|dG.nil _) (aQ [1,2,3,4,5,6,7,8,9,10,11,12,13,14,15]))
end
section
open Go.RowKit
theorem Py (gm:Nat) (j:cK) (kA:OA) (kC:Nat) (cA:OA) (cC:Nat) (bA:OA) (bC:Nat) (slA:OA) (slC:Nat) (drA:OA) (drC:Nat) (heA:OA) (heC:Nat) (faA:OA) (faC:Nat) (prA:OA) (prC:Nat):
 pS Tryz.prog 57 [(vA (df.cells (df.mk (nu j kA kC cA cC bA bC slA slC drA drC heA heC faA faC prA prC)))),(Value.map (some gm))] [] (fun (x:Nat×Nat)=>(Value.func (.func 81) [].toArray [(Value.pointer (some ⟨x.1,0,none⟩)),(Value.pointer (some ⟨x.2,0,none⟩))].toArray)) (fun (x:Nat×Nat)=>True) (fun (x:Nat×Nat)=>[(cp x.1 91 (df.cells (df.mk (nu j kA kC cA cC bA bC slA slC drA drC heA heC faA faC prA prC)))),(cp x.2 132 [(Value.map (some gm))])]):=by
 refine fB kr Tryz.func57 U U fun E Q hQ hN=>?_
 try dsimp only
 refine WS fun _ A=>eO U fun C=>wR U U fun D=>bE 1 U<|RK A<|WS fun _ B=>rS (FU U)<|rP 1 [] I ?_
 refine RK B<|aq<|LX hQ (C,D) [1,0] [] I U U U U ?_
 trivial
theorem MU (fm:List (Int×Bool)) (gm:Nat) (j:cK) (kA:OA) (kC:Nat) (az:List RA) (cA:OA) (cC:Nat) (bA:OA) (bC:Nat) (slA:OA) (slC:Nat) (drA:OA) (drC:Nat) (ha:List c_) (heA:OA) (heC:Nat) (faA:OA) (faC:Nat) (prA:OA) (prC g1 g2:Nat) (hin:gT j az ha) (hok:ej j=0):
 pS Tryz.prog 80 [(vS none 0 0),(Value.func (.func 81) [].toArray [(vP g1),(vP g2)].toArray)] [(kh iV gm (cT vB fm)),(rd kA j.Race.ak.aS.length 9 (j.Race.ak.aS.map ar.cells)),(rd cA j.Race.ak.aj.length 2 (List.zipWith au.cells j.Race.ak.aj az)),(dT (br au.gd j.Race.ak.aj az)),(rd bA j.Race.ak.aa.length 4 (j.Race.ak.aa.map bJ.cells)),(rd slA j.Race.bj.length 1 (j.Race.bj.map iC)),(rd drA j.Race.cq.length 1 (j.Race.cq.map iC)),(rd heA j.Race.aD.length 1 (List.zipWith cL j.Race.aD ha)),(dT (br fj j.Race.aD ha)),(rd faA j.aG.length 4 (j.aG.map aK.cells)),(rd prA j.aF.length 5 (j.aF.map aY.cells)),(cp g1 91 (df.cells (df.mk (nu j kA kC cA cC bA bC slA slC drA drC heA heC faA faC prA prC)))),(cp g2 132 [(Value.map (some gm))])] (fun (x:(List RA)×(OA)×Nat)=>(vS x.2.1 ((hP j (lV j.aG fm)).length) x.2.2)) (fun (x:(List RA)×(OA)×Nat)=>x.1.length=(hP j (lV j.aG fm)).length) (fun (x:(List RA)×(OA)×Nat)=>[(own x.2.1 x.2.2 29 1 (List.zipWith uP (hP j (lV j.aG fm)) x.1)),(bV (br H6 (hP j (lV j.aG fm)) x.1))]):=by
 have W:=hin.race
 have P:=hin.race.line
 have g:=hin.race.iu
 have m:=hin.race.has
 have X:=hin.race.ir
 have AA:=hin.nf
 have V:=hin.np
 have f:(hP j (lV j.aG fm)).length=j.Race.aD.length:=by unfold hP; rw [List.length_map]
 refine fB kr Tryz.func80 U U fun s Q hQ hN=>?_
 try dsimp only
 refine WS fun _ K=>wR U U fun T=>bE 1 U<|RK K<|ao fun _ L=>WS fun _ M=>rP 1 [] I ?_
 refine RK M<|aI<|jk 1 U (by exact fun _ h=>h)<|jk 3 U (by exact fun _ h=>h)<|jk 5 U (by exact fun _ h=>h)<|jk 7 U (by exact fun _ h=>h)<|jk 9 U (by exact fun _ h=>h)<|jk 11 U (by exact fun _ h=>h)<|jk 13 U (by exact fun _ h=>h)<|jk 15 U (by exact fun _ h=>h)<|jk 17 U (by exact fun _ h=>h)<|jk 19 U (by exact fun _ h=>h)<|jk 21 U (by exact fun _ h=>h)<|jk 23 U (by exact fun _ h=>h)<|jk 25 U (by exact fun _ h=>h)<|eK 29 1<|n9 ?_
 refine IV (L0:=[(2,(vP T))]) (F:=[(kh iV gm (cT vB fm)).ro,(rd kA j.Race.ak.aS.length 9 (j.Race.ak.aS.map ar.cells)).ro,(rd cA j.Race.ak.aj.length 2 (List.zipWith au.cells j.Race.ak.aj az)).ro,(dT (br au.gd j.Race.ak.aj az)).ro,(rd bA j.Race.ak.aa.length 4 (j.Race.ak.aa.map bJ.cells)).ro,(rd slA j.Race.bj.length 1 (j.Race.bj.map iC)).ro,(rd drA j.Race.cq.length 1 (j.Race.cq.map iC)).ro,(rd heA j.Race.aD.length 1 (List.zipWith cL j.Race.aD ha)).ro,(dT (br fj j.Race.aD ha)).ro,(rd faA j.aG.length 4 (j.aG.map aK.cells)).ro,(rd prA j.aF.length 5 (j.aF.map aY.cells)).ro,(cp g1 91 (df.cells (df.mk (nu j kA kC cA cC bA bC slA slC drA drC heA heC faA faC prA prC)))).ro,(cp g2 132 [(Value.map (some gm))]).ro]) (fun k (y:(List RA)×(OA)×Nat)=>(y.1.length=k)) (fun k y=>[(bV (br H6 (List.take k (hP j (lV j.aG fm))) y.1)),(own y.2.1 y.2.2 29 1 (List.zipWith uP (List.take k (hP j (lV j.aG fm))) y.1)),(cp T 61 [(vS y.2.1 ((List.take k (hP j (lV j.aG fm))).length) y.2.2)]),(kh iV gm (cT vB fm)).ro,(rd kA j.Race.ak.aS.length 9 (j.Race.ak.aS.map ar.cells)).ro,(rd cA j.Race.ak.aj.length 2 (List.zipWith au.cells j.Race.ak.aj az)).ro,(dT (br au.gd j.Race.ak.aj az)).ro,(rd bA j.Race.ak.aa.length 4 (j.Race.ak.aa.map bJ.cells)).ro,(rd slA j.Race.bj.length 1 (j.Race.bj.map iC)).ro,(rd drA j.Race.cq.length 1 (j.Race.cq.map iC)).ro,(rd heA j.Race.aD.length 1 (List.zipWith cL j.Race.aD ha)).ro,(dT (br fj j.Race.aD ha)).ro,(rd faA j.aG.length 4 (j.aG.map aK.cells)).ro,(rd prA j.aF.length 5 (j.aF.map aY.cells)).ro]) (fun _ (_:Unit)=>False) (fun _ _=>[]) [0,1,15,16,17,18,19,20,21,22,23,24,25,26] [14,13,12,11,10,9,8,7,6,5,4,3,2] (([]:List RA),none,0) rfl rfl (NN fm gm j kA kC az cA cC bA bC slA slC drA drC ha heA heC faA faC prA prC g1 g2 (by first|assumption|omega|(simp; done)) (by first|assumption|omega|(simp; done))) rfl rfl rfl (by exact rfl) (by simp only [List.forall_mem_cons,List.not_mem_nil,false_imp_iff,implies_true,and_true]; exact ⟨⟨_,aP (i:=0) rfl,(dQ (bY _))⟩,⟨_,aP (i:=1) rfl,(dQ (bY _))⟩,⟨_,aP (i:=2) rfl,(dQ (bY _))⟩,⟨_,aP (i:=3) rfl,(dQ (bY _))⟩,⟨_,aP (i:=4) rfl,(dQ (bY _))⟩,⟨_,aP (i:=5) rfl,(dQ (bY _))⟩,⟨_,aP (i:=6) rfl,(dQ (bY _))⟩,⟨_,aP (i:=7) rfl,(dQ (bY _))⟩,⟨_,aP (i:=8) rfl,(dQ (bY _))⟩,⟨_,aP (i:=9) rfl,(dQ (bY _))⟩,⟨_,aP (i:=10) rfl,(dQ (bY _))⟩,⟨_,aP (i:=11) rfl,(dQ (bY _))⟩,⟨_,aP (i:=12) rfl,(dQ (bY _))⟩⟩) (by rintro k x R0 p ⟨_,_,_,_,rfl,_,_⟩; rfl) rfl (bu rfl) ?_ ?_ (fun _ _ _ h=>h.elim) (fun _ _ h=>h.elim)
 rotate_left 1
 ·rintro q k ⟨gz,a,c⟩ B C
  have D:=C
  try dsimp only at D
  try dsimp only
  rw [show (List.take k (hP j (lV j.aG fm)))=(hP j (lV j.aG fm)) from List.take_of_length_le (by have d:k=j.Race.aD.length:=B; omega)]
  have O:gz.length=(hP j (lV j.aG fm)).length:=by have d:k=j.Race.aD.length:=B; omega
  refine aR<|KK L<|WS fun _ G=>rP 2 [] (mc 16 U I) ?_
  refine RK G<|aq ?_
  refine hQ _ _ _ (rn 0 U U<|jW (vs:=[(vS a ((hP j (lV j.aG fm)).length) c)]) ⟨U,trivial⟩ fun w hs=>QJ (gz,a,c) [15,14] ?_ ?_ U U (by show List.all _ _=true; simp only [g5,List.all_nil,yn,Bool.and_true]; rfl) hs)
  ·rfl
  ·exact O
 rintro k x R0 p ⟨gz,a,c⟩ l ra rb S t K5 Qr6 o hx AB N H Y Z
 obtain ⟨xa,xc,row,A,rfl,rfl,rfl⟩:=hx
 have D:=AB
 try dsimp only at D
 try dsimp only
 have n:=(aZ.1 A).1
 have E:gz.length=(List.take k (hP j (lV j.aG fm))).length:=by rw [List.length_take]; omega
 have R:(List.take (k+1) (hP j (lV j.aG fm))).length=k+1:=by rw [List.length_take]; omega
 refine aw<|rP 1 [] I ?_
 refine aH<|bq (N _ _ ?_)
 refine aI<|aw<|rP 2 [] (mc 3 U I) ?_
 refine d_ (xs:=[.tmp 9]) (cs:=[(vS xa row.length xc)]) U BX Sd U U U U (by simp [Value.cells]) U U fun r=>?_
 refine dD (es2:=(List.zipWith uP (List.take (k+1) (hP j (lV j.aG fm))) (gz++[(xa,xc)]))) (m':=(List.take (k+1) (hP j (lV j.aG fm))).length) 3 rfl rfl rfl Vo rfl rfl (lH E).symm (bo (es:=List.zipWith uP [row] [(xa,xc)]) 0 rfl rfl (by intro e he; simp [uP] at he; subst he; rfl) rfl) (Nj _ _) om (by simp only [maxLen]; omega) (by rw [x_ A]; exact GO E.symm) (by exact lH (by rw [R]; simp; omega)) rfl fun b J=>?_
 try dsimp only
 refine Qd (Y':=br H6 (List.take (k+1) (hP j (lV j.aG fm))) (gz++[(xa,xc)])) 2 16 U U (by rw [x_ A]; exact Er E.symm U) ?_
 refine WT U Vi U U<|aH<|aR ?_
 exact H ((gz++[(xa,xc)]),b,J) _ _ (by (rw [List.length_append]; simp; omega)) (aQ [2,0,3,4,5,6,7,8,9,10,11,12,13,14,15])
theorem M8 (fm:List (Int×Bool)) (gm:Nat) (j:cK) (kA:OA) (kC:Nat) (az:List RA) (cA:OA) (cC:Nat) (bA:OA) (bC:Nat) (slA:OA) (slC:Nat) (drA:OA) (drC:Nat) (ha:List c_) (heA:OA) (heC:Nat) (faA:OA) (faC:Nat) (prA:OA) (prC g1 g2:Nat) (hin:gT j az ha) (hok:ej j=0):
 pS Tryz.prog 56 [(Value.func (.func 81) [].toArray [(vP g1),(vP g2)].toArray)] [(kh iV gm (cT vB fm)),(rd kA j.Race.ak.aS.length 9 (j.Race.ak.aS.map ar.cells)),(rd cA j.Race.ak.aj.length 2 (List.zipWith au.cells j.Race.ak.aj az)),(dT (br au.gd j.Race.ak.aj az)),(rd bA j.Race.ak.aa.length 4 (j.Race.ak.aa.map bJ.cells)),(rd slA j.Race.bj.length 1 (j.Race.bj.map iC)),(rd drA j.Race.cq.length 1 (j.Race.cq.map iC)),(rd heA j.Race.aD.length 1 (List.zipWith cL j.Race.aD ha)),(dT (br fj j.Race.aD ha)),(rd faA j.aG.length 4 (j.aG.map aK.cells)),(rd prA j.aF.length 5 (j.aF.map aY.cells)),(cp g1 91 (df.cells (df.mk (nu j kA kC cA cC bA bC slA slC drA drC heA heC faA faC prA prC)))),(cp g2 132 [(Value.map (some gm))])] (fun (x:(List RA)×(OA)×Nat)=>(vS x.2.1 ((hP j (lV j.aG fm)).length) x.2.2)) (fun (x:(List RA)×(OA)×Nat)=>x.1.length=(hP j (lV j.aG fm)).length) (fun (x:(List RA)×(OA)×Nat)=>[(own x.2.1 x.2.2 29 1 (List.zipWith uP (hP j (lV j.aG fm)) x.1)),(bV (br H6 (hP j (lV j.aG fm)) x.1))]):=by
 refine fB kr Tryz.func56 U U fun AA Q hQ hN=>?_
 try dsimp only
 refine WS fun _ B=>bE 1 U<|RK B<|WS fun _ C=>rP 1 [] I ?_
 refine cX (MU fm gm j kA kC az cA cC bA bC slA slC drA drC ha heA heC faA faC prA prC g1 g2 hin hok) (bk [0,1,2,3,4,5,6,7,8,9,10,11,12]) U fun H E=>?_
 obtain ⟨A,F,G⟩:=H
 try dsimp only
 have D:=E
 refine rP 1 [] I ?_
 refine RK C<|aq ?_
 refine LX hQ (A,F,G) [0,1] [] I U (by show List.all _ _=true; simp only [g5,List.all_nil,yn,Bool.and_true]; rfl) U U ?_
 exact D
end
section
open Go.RowKit
theorem HI (j:cK) (kA:OA) (kC:Nat) (az:List RA) (cA:OA) (cC:Nat) (bA:OA) (bC:Nat) (slA:OA) (slC:Nat) (drA:OA) (drC:Nat) (ha:List c_) (heA:OA) (heC:Nat) (faA:OA) (faC:Nat) (prA:OA) (prC:Nat) (hin:gT j az ha) (hok:ej j=0):
 pS Tryz.prog 31 [(vA (df.cells (df.mk (nu j kA kC cA cC bA bC slA slC drA drC heA heC faA faC prA prC))))] [(rd kA j.Race.ak.aS.length 9 (j.Race.ak.aS.map ar.cells)),(rd cA j.Race.ak.aj.length 2 (List.zipWith au.cells j.Race.ak.aj az)),(dT (br au.gd j.Race.ak.aj az)),(rd bA j.Race.ak.aa.length 4 (j.Race.ak.aa.map bJ.cells)),(rd slA j.Race.bj.length 1 (j.Race.bj.map iC)),(rd drA j.Race.cq.length 1 (j.Race.cq.map iC)),(rd heA j.Race.aD.length 1 (List.zipWith cL j.Race.aD ha)),(dT (br fj j.Race.aD ha)),(rd faA j.aG.length 4 (j.aG.map aK.cells)),(rd prA j.aF.length 5 (j.aF.map aY.cells))] (fun (x:(List RA)×(OA)×Nat)=>(vS x.2.1 ((jG j).length) x.2.2)) (fun (x:(List RA)×(OA)×Nat)=>x.1.length=(jG j).length) (fun (x:(List RA)×(OA)×Nat)=>[(own x.2.1 x.2.2 29 1 (List.zipWith uP (jG j) x.1)),(bV (br H6 (jG j) x.1))]):=by
 have AC:=hin.race
 have i:=hin.race.line
 have A3:=hin.race.iu
 have A4:=hin.race.has
 have AO:=hin.race.ir
 have u:=hin.nf
 have y:=hin.np
 have P:=(eE hok).1
 have O:=(eE hok).2
 have h:=(eH P).1
 have A7:=(eH P).2
 have d:=(du h).2.head
 unfold eU at d
 have A5:=O.np
 have w:=xz (j:=j)
 refine fB kr Tryz.func31 U U fun w0 Q hQ hN=>?_
 try dsimp only
 refine WS fun _ Y=>eO U fun b2=>rP 1 [] I ?_
 refine RK Y<|WS fun _ Z=>mT (kV:=iV) U U fun T=>?_
 try dsimp only
 refine bE 1 U<|RK Z<|ao fun _ a=>WS fun _ b=>rP 4 [] (mc 1 U I) ?_
 refine rS (FU U) ?_
 refine cX (AD j.aF prA prC (Value.func (.func 33) [(vA (df.cells (df.mk (nu j kA kC cA cC bA bC slA slC drA drC heA heC faA faC prA prC))))].toArray [].toArray) (fun q S=>(hG j S)) (dT [(rd kA j.Race.ak.aS.length 9 (j.Race.ak.aS.map ar.cells)),(rd cA j.Race.ak.aj.length 2 (List.zipWith au.cells j.Race.ak.aj az)),(dT (br au.gd j.Race.ak.aj az)),(rd bA j.Race.ak.aa.length 4 (j.Race.ak.aa.map bJ.cells)),(rd slA j.Race.bj.length 1 (j.Race.bj.map iC)),(rd drA j.Race.cq.length 1 (j.Race.cq.map iC)),(rd heA j.Race.aD.length 1 (List.zipWith cL j.Race.aD ha)),(dT (br fj j.Race.aD ha)),(rd faA j.aG.length 4 (j.aG.map aK.cells)),(rd prA j.aF.length 5 (j.aF.map aY.cells))]) (by intro q S k; exact k7 (fi:=[(vA (df.cells (df.mk (nu j kA kC cA cC bA bC slA slC drA drC heA heC faA faC prA prC))))]) (ca:=[]) (jS (vt j kA kC az cA cC bA bC slA slC drA drC ha heA heC faA faC prA prC q S asm asm (by (obtain ⟨i_,_,e⟩:=k; exact ⟨i_,e⟩))) (bk [0,1,2,3,4,5,6,7,8,9]))) asm) (gJ 11 rfl rfl<|aC (jX (bk [2,3,4,5,6,7,8,9,10,11]))<|aO) rfl fun y9 Ad=>?_
 obtain ⟨A0,A1⟩:=y9
 try dsimp only
 rw [show (l0 (ib j.aF (fun q S=>(hG j S))) j.aF.length)=iI j from rfl]
 refine rP 2 [] I ?_
 refine RK b<|aI ?_
 skip
 have A:(0≤(iI j).length):=by exact Nat.zero_le _
 refine bZ (ι:={z:Nat // (z≤(iI j).length)}) [1,3,12,13] [0,2,3,4,5,6,7,8,9,10,11,12] U U (fun z=>[(14,(vI (z.1:Int)))]) (fun z=>[(kh iV T (cT vB (wM j.aG (Gs j z.1))))]) (fun _=>rfl) (fun _=>rfl) (fun z=>(iI j).length-z.1) ⟨0,A⟩ (bu U) (aQ [0,2,3,4,5,6,7,8,9,10,11,12,1]) ?_
 clear A
 rintro ⟨t,g⟩ J13 E
 try dsimp only
 refine WS fun _ F=>rP 1 [] I ?_
 refine RK F<|ao fun _ G=>bW U (aV fun X=>?_) (aU fun X=>?_)
 ·refine bS<|ai<|ai<|aL<|KK a<|WS fun _ J=>rP 2 [] (mc 1 U I) ?_
  refine cX (Py T j kA kC cA cC bA bC slA slC drA drC heA heC faA faC prA prC) (aO) U fun r An=>?_
  obtain ⟨V,C⟩:=r
  try dsimp only
  refine cX (M8 (wM j.aG (Gs j t)) T j kA kC az cA cC bA bC slA slC drA drC ha heA heC faA faC prA prC V C hin hok) (bk [14,4,5,6,7,8,9,10,11,12,13,0,1]) U fun s R=>?_
  obtain ⟨D,AA,W⟩:=s
  try dsimp only
  have N:=R
  have o:(hP j (lV j.aG (wM j.aG (Gs j t))))=(jG j):=by exact EG om
  rw [o] at N ⊢
  refine rP 1 [] I ?_
  refine RK J<|aq ?_
  refine LX hQ (D,AA,W) [0,1] [] I U (by show List.all _ _=true; simp only [g5,List.all_nil,yn,Bool.and_true]; rfl) U U ?_
  exact N
 refine WK G<|ao fun _ H=>aI<|WS fun _ AB=>?_
 obtain ⟨gi,B⟩:=aJ (iI j) t om
 have M:=bM iC B
 refine rS (IA t U (av (n:=(iI j).length) 0 U sm) dk dc om om)<|rS (gE t 0 (vI gi) U b_ (av (n:=(iI j).length) 0 U sm) M U dc U)<|bE 1 U<|RK AB<|dj cj 17 kr<|dP 10 [] (mc 1 U I) ?_
 obtain ⟨gk,A2,v⟩:=HU B
 refine dP 1 [] I ?_
 obtain ⟨p,hp⟩:=aJ j.aF ((gi).toNat) om
 have l:=bM aY.cells hp
 refine dS (IA ((gi).toNat) U (aB 11 U) Aj dc om om)<|dS (o6 ((((gi).toNat)*5)+3) U (aB 11 U) (Nat.mul_pos om dc) eD U) ?_
 have m:=O.hO _ p hp
 have A6:=m.fault
 refine dS (gE ((gi).toNat) 3 (vI p.jy) U b_ (aB 11 U) l U dc U) ?_
 obtain ⟨f,hf⟩:=aJ j.aG ((p.jy).toNat) om
 have c:=bM aK.cells hf
 refine dS (IA ((p.jy).toNat) U (aB 10 U) yQ dc om om)<|dS (lM ((p.jy).toNat) 0 (aK.cells f) U b_ (aB 10 U) c U dc U U)<|dS (CL (B4 j.aG faA faC f asm) (bk [10]) U)<|cD ?_
 have K:(ew (wM j.aG (Gs j t)) (o0 j.aG f) true)=(wM j.aG (Gs j (t+1))):=by rw [JS B hp hf,Hl]
 refine iR (kV:=iV) (x:=(o0 j.aG f)) (C':=[_,_,_,_,_,_,_,_,_,_,_,_,(kh iV T (cT vB (wM j.aG (Gs j (t+1)))))]) 12 U U U U CO (iz sO) U ((gN _ _ _ _).symm.trans (congrArg _ K)) U<|aH<|aR<|KK H<|aw<|rP 2 [] I ?_
 refine aH ?_
 have L:(vI (((t+1):Nat):Int))=(vI ((t:Int)+1)):=by exact cI om
 refine bq (E ⟨(t+1),(by first|omega|(simp only []; omega))⟩ _ _ _ U os (cY 4<|bw U L<|dG.nil _) (aQ [0,1,2,3,4,5,6,7,8,9,10,11,12]))
theorem zf (j:cK) (kA:OA) (kC:Nat) (az:List RA) (cA:OA) (cC:Nat) (bA:OA) (bC:Nat) (slA:OA) (slC:Nat) (drA:OA) (drC:Nat) (ha:List c_) (heA:OA) (heC:Nat) (faA:OA) (faC:Nat) (prA:OA) (prC:Nat) (hin:gT j az ha):
 pS Tryz.prog 10 [(vA (ep.cells (nu j kA kC cA cC bA bC slA slC drA drC heA heC faA faC prA prC)))] [(rd gU 3 2 fW),(rd kA j.Race.ak.aS.length 9 (j.Race.ak.aS.map ar.cells)),(rd cA j.Race.ak.aj.length 2 (List.zipWith au.cells j.Race.ak.aj az)),(dT (br au.gd j.Race.ak.aj az)),(rd bA j.Race.ak.aa.length 4 (j.Race.ak.aa.map bJ.cells)),(rd slA j.Race.bj.length 1 (j.Race.bj.map iC)),(rd drA j.Race.cq.length 1 (j.Race.cq.map iC)),(rd heA j.Race.aD.length 1 (List.zipWith cL j.Race.aD ha)),(dT (br fj j.Race.aD ha)),(rd faA j.aG.length 4 (j.aG.map aK.cells)),(rd prA j.aF.length 5 (j.aF.map aY.cells))] (fun (x:(List RA)×(OA)×Nat)=>(vT [(vS x.2.1 ((dH j).length) x.2.2),(vI (ej j))])) (fun (x:(List RA)×(OA)×Nat)=>x.1.length=(dH j).length) (fun (x:(List RA)×(OA)×Nat)=>[(own x.2.1 x.2.2 29 1 (List.zipWith uP (dH j) x.1)),(bV (br H6 (dH j) x.1))]):=by
 have S:=hin.race
 have N:=hin.race.line
 have AA:=hin.race.iu
 have V:=hin.race.has
 have T:=hin.race.ir
 have P:=hin.nf
 have R:=hin.np
 refine fB kr Tryz.func10 U U fun Z Q hQ hN=>?_
 try dsimp only
 refine WS fun _ H=>eO U fun X=>bE 1 U<|bE 1 U<|RK H<|WS fun _ AB=>eV 1 [] (mc 0 U I) U<|rS (CL (uo j kA kC az cA cC bA bC slA slC drA drC ha heA heC faA faC prA prC hin) (bk [1,2,3,4,5,6,7,8,9,10,11]) U)<|bE 3 U<|AL U HQ fun Y=>fJ U HR U<|bE 1 U<|RK AB<|ao fun _ J=>WS fun _ K=>rP 2 [] I ?_
 refine RK K<|cy U (aX fun A=>?_) (aW fun A=>?_)
 ·refine WS fun _ L=>?_
  have C:(dH j)=[]:=wG A
  have B:([]:List RA).length=(dH j).length:=by rw [C]; rfl
  refine lh 29 1<|ye ?_
  rw [show (own none 0 29 1 ([]:List (List Value)))=own none 0 29 1 (List.zipWith uP (dH j) []) from by rw [C]; rfl,show bV []=bV (br H6 (dH j) []) from by rw [C]; rfl]
  refine bE 2 U<|rP 1 [] I ?_
  refine RK L<|aq ?_
  refine LX hQ ([],none,0) [1,0] [] I U (by show List.all _ _=true; simp only [g5,List.all_nil,yn,Bool.and_true]; rfl) U ?_ ?_
  ·(rw [wG A]; rfl)
  ·exact B
 refine WK J<|WS fun _ M=>rP 1 [] (mc 0 U I) ?_
 refine cX (HI j kA kC az cA cC bA bC slA slC drA drC ha heA heC faA faC prA prC hin asm) (bk [3,4,5,6,7,8,9,10,11,12]) U fun W E=>?_
 obtain ⟨D,F,G⟩:=W
 try dsimp only
 have B:=E
 refine rP 1 [] I ?_
 have O:(jG j)=(dH j):=by exact (mH A).symm
 rw [O] at B ⊢
 refine rP 1 [] I ?_
 refine RK M<|aq ?_
 refine LX hQ (D,F,G) [0,1] [] I U (by show List.all _ _=true; simp only [g5,List.all_nil,yn,Bool.and_true]; rfl) U ?_ ?_
 ·(rw [A]; rfl)
 ·exact B
end
section
open Go.RowKit
theorem iW (n lo hi:Int):
 dL Tryz.prog 46 [(vI n),(vI lo),(vI hi)] [] (vB (decide (lo≤n∧n≤hi))):=by
 refine bH kr Tryz.func46 U U fun D Q hQ hN=>?_
 try dsimp only
 refine WS fun _ B=>bE 1 U<|RK B<|WS fun _ A=>rP 4 [] I ?_
 refine bK (t:=10) U (aU fun C=>?_) (aV fun C=>?_)
 ·refine rP 5 [] I ?_
  refine RK A<|aq<|Q1 hQ U U U ?_
  exact cB (gR.2 om)
 refine rP 5 [] I ?_
 refine RK A<|aq<|Q1 hQ U U U ?_
 exact cB (bI om).symm
theorem Cm (ts:List ar) (tsA:OA) (tsC:Nat) (hst: ∀ x∈ts,bX x) (hlen:ts.length≤12):
 pS Tryz.prog 159 [(vA (bP.cells (bP.mk (bD.mk tsA ts.length tsC))))] [(rd tsA ts.length 9 (ts.map ar.cells))] (fun (x:(OA)×Nat)=>(vS x.1 ((ik ts (ts.length+1)).length) x.2)) (fun (x:(OA)×Nat)=>True) (fun (x:(OA)×Nat)=>[(own x.1 x.2 48 2 ((ik ts (ts.length+1)).map ag.cells))]):=by
 refine fB kr Tryz.func159 U U fun V Q hQ hN=>?_
 try dsimp only
 refine WS fun _ J=>eO U fun AA=>bE 1 U<|RK J<|WS fun _ K=>bE 1 U<|RK K<|ao fun _ L=>WS fun _ M=>rP 1 [] I ?_
 refine RK M<|aI<|eK 48 2 ?_
 have A:(0≤ts.length+1):=by exact Nat.zero_le _
 refine bZ (ι:={z:Nat×(OA)×Nat // (z.1≤ts.length+1)}) [1] [1,2] U U (fun z=>[(3,(vS z.1.2.1 ((ik ts z.1.1).length) z.1.2.2)),(4,(vI (z.1.1:Int)))]) (fun z=>[(own z.1.2.1 z.1.2.2 48 2 ((ik ts z.1.1).map ag.cells))]) (fun _=>rfl) (fun _=>rfl) (fun z=>ts.length+1-z.1.1) ⟨(0,none,0),A⟩ (bu U) (aQ [1,2,0]) ?_
 clear A
 rintro ⟨⟨i,a,c⟩,B⟩ J6 AB
 try dsimp only at B
 try dsimp only
 refine ao fun _ N=>WS fun _ O=>rP 5 [] (mc 0 U I) ?_
 refine RK O<|bW U (aV fun T=>?_) (aU fun T=>?_)
 ·refine bS<|ai<|ai<|aL<|KK L<|WS fun _ E=>?_
  obtain rfl:i=ts.length+1:=by omega
  refine rP 2 [] I ?_
  refine RK E<|aq<|LX hQ (a,c) [2] [] I U U U U ?_
  trivial
 refine WK N<|ao fun _ C=>aI<|WS fun _ D=>eV 2 [] (mc 0 U I) U<|rS (CL (Bg ts tsA tsC 0 (i:Int) hst hlen om) (bk [1]) U)<|bE 3 U<|AL U ed fun P=>AL U ed fun R=>qT U cW U<|fJ U cW U<|RK D<|aw<|rP 2 [] (mc 1 U I) ?_
 refine d_ (xs:=[.tmp 21]) (cs:=(ag.cells (eN ts (0:Int).toNat ((i:Int)-0).toNat))) U lu ed U U U U (by simp [Value.cells,ag.a_]) U U fun S=>?_
 refine dD (es2:=(List.map ag.cells (ik ts (i+1)))) (m':=(ik ts (i+1)).length) 5 U U U Fg U U sm (bo (es:=List.map ag.cells [(eN ts (0:Int).toNat ((i:Int)-0).toNat)]) 0 U U (by simp [ag.a_]) U) (kU _) (by simp only [o7]; omega) (by simp only [maxLen,o7]; omega) (by rw [Bq]; simp) sm U fun G H=>?_
 try dsimp only
 refine bE 1 U<|aH<|aR<|KK C<|aw<|rP 3 [] I ?_
 refine aH ?_
 have F:(vI (((i+1):Nat):Int))=(vI ((i:Int)+1)):=by exact cI om
 refine bq (AB ⟨((i+1),G,H),(by first|omega|(simp only []; omega))⟩ _ _ _ U os (dG.cons U<|dG.cons U<|bw U F<|dG.nil _) (aQ [3,4,5]))
theorem Rt (ts:List ar) (tsA:OA) (tsC:Nat) (s:cH) (hlen:ts.length≤1000000) (hside: ∀ x∈ts,0≤x.je∧x.je≤255):
 dL Tryz.prog 152 [(vA (bP.cells (bP.mk (bD.mk tsA ts.length tsC)))),(vA (cH.cells s))] [(rd tsA ts.length 9 (ts.map ar.cells))] (vT [(vA (ag.cells (Q5 ts s))),(vI (Fx ts s))]):=by
 refine bH kr Tryz.func152 U U fun r Q hQ hN=>?_
 try dsimp only
 refine WS fun _ R=>eO U fun i=>eO U fun k=>AL U ed fun l=>bE 1 U<|RK R<|ao fun _ S=>WS fun _ T=>eV 1 [] (mc 2 U I) U<|rS (CL (w5 ts tsA tsC hlen) (bk [3]) U)<|rP 1 [] I ?_
 refine RK T<|cy U (fun AB=>?_) (fun AB=>?_)
 ·rw [Bool.not_eq_true'] at AB
  refine WS fun _ AA=>rS (SX (bf (xs:=[]) (cs:=(ag.cells (ag.mk 0 0))) U U (bg gO U)) U U)<|fJ U cW U<|rP 1 [] I ?_
  refine RK AA<|aq<|mj hQ [0] (mc 0 U I) U ?_
  (have e:=Jo (s:=s) (by simpa using AB); rw [e.1,e.2]<;>rfl)
 rw [Bool.not_eq_false'] at AB
 refine WK S<|ao fun _ V=>WS fun _ W=>?_
 have M:=ke AB
 have Z:=kZ AB
 refine eV 2 [0,1] (mc 2 U (mc 1 U I)) U<|rS (CL (si ts tsA tsC s asm asm) (bk [3]) U)<|rP 1 [] I ?_
 refine RK W<|cy U (aX fun D=>?_) (aW fun D=>?_)
 ·refine WS fun _ O=>rS (SX (bf (xs:=[]) (cs:=(ag.cells (ag.mk 0 0))) U U (bg gO U)) U U)<|fJ U cW U<|rP 1 [] I ?_
  refine RK O<|aq<|mj hQ [0] (mc 0 U I) U ?_
  (have e:=Jy AB D; rw [e.1,e.2]<;>rfl)
 refine WK V<|ao fun _ H=>lT cj [0,2,3] [1,4,5,6,7] [false,false,false] [] [(cp l 48 (ag.cells (ag.mk 0 0))),(cp k 83 (cH.cells s)),(cp i 24 (bP.cells (bP.mk (bD.mk tsA ts.length tsC)))),(rd tsA ts.length 9 (ts.map ar.cells)).ro] [] kr (aQ [0,1,2,3]) (aQ []) ?_
 have q:=D.1
 have N:=q6 M D
 have p:(ik ts (ts.length+1)).length=ts.length+1:=o7
 refine eS U (LW 2 U b_ U U)<|eS U (FA 0 U eD U)<|eS U (L1 (vI s.bB) 1 U b_ U U)<|eh U<|m6 [1,6] kr (iF ?_<|iF ?_<|qC)
 rotate_left 1
 ·refine NO U U [1,4,5,7] fun T12 J=>AL U ed fun f=>RD J 1 U<|N1 1<|NO U U [4,5,7] fun T14 P=>cX (Cm ts tsA tsC asm asm) (bk [4]) U fun Y b=>?_
  obtain ⟨d,o⟩:=Y
  try dsimp only
  refine RD P 2 U<|N1 4<|NO U U [5,7] fun T19 E=>?_
  obtain ⟨z,hz⟩:=aJ (ik ts (ts.length+1)) ((s.bB).toNat) om
  have A:=bM ag.cells hz
  refine rS (IA ((s.bB).toNat) U (av (n:=(ik ts (ts.length+1)).length) 0 U sm) lu dc om om)<|RD E 2 U<|N1 5<|NO U U [7] fun T20 F=>rS (lM ((s.bB).toNat) 0 (ag.cells z) U b_ (av (n:=(ik ts (ts.length+1)).length) 0 U sm) A U dc U U)<|RD F 2 U<|N1 7<|NO U U [] fun T21 C=>qT U cW U<|RD C 2 U<|l3<|KK H<|WS fun _ B=>rP 1 [] I ?_
  have A:=pU hz
  have G:=mD M 0 s.bB.toNat
  unfold lX at N
  rw [← A] at G
  refine eV 11 [0,1,0,1] (mc 1 U (mc 3 U I)) U<|rS (SX (bf (xs:=[(0,.tmp 27),(1,.tmp 33)]) (cs:=(ag.cells (ag.mk (z.Lo+s.m0.Lo) (z.Hi+s.m0.Hi)))) U U (bg gO U)) U U)<|DV U cW U<|rP 1 [] I ?_
  refine RK B<|aq<|mj hQ [0] (mc 2 U I) U ?_
  (have e:=yi AB D; subst A; rw [e.1,e.2]<;>rfl)
 refine NO U U [4,5,6,7] fun T12 J=>cX (Cm ts tsA tsC asm asm) (bk [3]) U fun X a=>?_
 obtain ⟨c,m⟩:=X
 try dsimp only
 refine RD J 1 U<|m6 [4,6] kr (iF ?_<|iF ?_<|qC)
 rotate_left 1
 ·refine NO U U [4,5,7] fun T17 K=>AL U ed fun g=>RD K 2 U<|N1 4<|NO U U [5,7] fun T19 E=>?_
  obtain ⟨z,hz⟩:=aJ (ik ts (ts.length+1)) ((s.bB).toNat) om
  have A:=bM ag.cells hz
  refine rS (IA ((s.bB).toNat) U (av (n:=(ik ts (ts.length+1)).length) 1 U sm) lu dc om om)<|RD E 2 U<|N1 5<|NO U U [7] fun T20 F=>rS (lM ((s.bB).toNat) 0 (ag.cells z) U b_ (av (n:=(ik ts (ts.length+1)).length) 1 U sm) A U dc U U)<|RD F 2 U<|N1 7<|NO U U [] fun T21 C=>fJ U cW U<|RD C 2 U<|l3<|KK H<|WS fun _ B=>rP 1 [] I ?_
  have A:=pU hz
  have G:=mD M 0 s.bB.toNat
  unfold lX at N
  rw [← A] at G
  refine eV 11 [0,1,0,1] (mc 0 U (mc 3 U I)) U<|rS (SX (bf (xs:=[(0,.tmp 27),(1,.tmp 33)]) (cs:=(ag.cells (ag.mk (z.Lo+s.m0.Lo) (z.Hi+s.m0.Hi)))) U U (bg gO U)) U U)<|DV U cW U<|rP 1 [] I ?_
  refine RK B<|aq<|mj hQ [0] (mc 2 U I) U ?_
  (have e:=yi AB D; subst A; rw [e.1,e.2]<;>rfl)
 refine NO U U [5,6,7] fun T17 K=>?_
 obtain ⟨z,hz⟩:=aJ (ik ts (ts.length+1)) ((s.bB).toNat) om
 have A:=bM ag.cells hz
 refine rS (IA ((s.bB).toNat) U (av (n:=(ik ts (ts.length+1)).length) 0 U sm) lu dc om om)<|RD K 1 U<|m6 [5,6] kr (iF ?_<|iF ?_<|qC)
 rotate_left 1
 ·refine NO U U [5,7] fun T18 L=>AL U ed fun h=>RD L 2 U<|N1 5<|NO U U [7] fun T20 F=>rS (lM ((s.bB).toNat) 0 (ag.cells z) U b_ (av (n:=(ik ts (ts.length+1)).length) 1 U sm) A U dc U U)<|RD F 2 U<|N1 7<|NO U U [] fun T21 C=>fJ U cW U<|RD C 2 U<|l3<|KK H<|WS fun _ B=>rP 1 [] I ?_
  have A:=pU hz
  have G:=mD M 0 s.bB.toNat
  unfold lX at N
  rw [← A] at G
  refine eV 11 [0,1,0,1] (mc 0 U (mc 3 U I)) U<|rS (SX (bf (xs:=[(0,.tmp 27),(1,.tmp 33)]) (cs:=(ag.cells (ag.mk (z.Lo+s.m0.Lo) (z.Hi+s.m0.Hi)))) U U (bg gO U)) U U)<|DV U cW U<|rP 1 [] I ?_
  refine RK B<|aq<|mj hQ [0] (mc 2 U I) U ?_
  (have e:=yi AB D; subst A; rw [e.1,e.2]<;>rfl)
 refine NO U U [6,7] fun T18 L=>rS (lM ((s.bB).toNat) 0 (ag.cells z) U b_ (av (n:=(ik ts (ts.length+1)).length) 0 U sm) A U dc U U)<|RD L 1 U<|N1 6<|NO U U [7] fun T19 E=>AL U ed fun j=>RD E 2 U<|N1 7<|NO U U [] fun T21 C=>fJ U cW U<|RD C 2 U<|l3<|KK H<|WS fun _ B=>rP 1 [] I ?_
 have A:=pU hz
 have G:=mD M 0 s.bB.toNat
 unfold lX at N
 rw [← A] at G
 refine eV 11 [0,1,0,1] (mc 0 U (mc 3 U I)) U<|rS (SX (bf (xs:=[(0,.tmp 27),(1,.tmp 33)]) (cs:=(ag.cells (ag.mk (z.Lo+s.m0.Lo) (z.Hi+s.m0.Hi)))) U U (bg gO U)) U U)<|DV U cW U<|rP 1 [] I ?_
 refine RK B<|aq<|mj hQ [0] (mc 2 U I) U ?_
 (have e:=yi AB D; subst A; rw [e.1,e.2]<;>rfl)
theorem HB (ts:List ar) (tsA:OA) (tsC:Nat) (p:cH) (q:cH) (hlen:ts.length≤1000000) (hside: ∀ x∈ts,0≤x.je∧x.je≤255) (hord: ¬ q.bB<p.bB):
 dL Tryz.prog 153 [(vA (bP.cells (bP.mk (bD.mk tsA ts.length tsC)))),(vA (cH.cells p)),(vA (cH.cells q))] [(rd tsA ts.length 9 (ts.map ar.cells))] (vT [(vA (ag.cells (k6 ts p q))),(vI (l_ ts p q))]):=by
 refine bH kr Tryz.func153 U U fun k Q hQ hN=>?_
 try dsimp only
 refine WS fun _ N=>eO U fun f=>eO U fun g=>eO U fun i=>AL U ed fun j=>bE 1 U<|RK N<|ao fun _ O=>WS fun _ P=>eV 1 [] (mc 3 U I) U<|rS (CL (w5 ts tsA tsC hlen) (bk [4]) U)<|rP 1 [] I ?_
 refine RK P<|cy U (fun A=>?_) (fun A=>?_)
 ·rw [Bool.not_eq_true'] at A
  refine WS fun _ R=>rS (SX (bf (xs:=[]) (cs:=(ag.cells (ag.mk 0 0))) U U (bg gO U)) U U)<|fJ U cW U<|rP 1 [] I ?_
  refine RK R<|aq<|mj hQ [0] (mc 0 U I) U ?_
  (have e:=vE (a:=p) (b:=q) (by simpa using A); rw [e.1,e.2]<;>rfl)
 rw [Bool.not_eq_false'] at A
 refine WK O<|ao fun _ S=>WS fun _ E=>?_
 have D:=ke A
 have M:=kZ A
 refine eV 2 [0,1] (mc 3 U (mc 2 U I)) U<|rS (CL (si ts tsA tsC p asm asm) (bk [4]) U)<|rP 2 [] I ?_
 refine bK (t:=20) U (aX fun B=>?_) (aW fun B=>?_)
 ·refine bE 5 U<|RK E<|aT U<|WS fun _ G=>rS (SX (bf (xs:=[]) (cs:=(ag.cells (ag.mk 0 0))) U U (bg gO U)) U U)<|fJ U cW U<|rP 1 [] I ?_
  refine RK G<|aq<|mj hQ [0] (mc 0 U I) U ?_
  (have e:=pE (a:=p) (b:=q) A (fun h=>by first|exact B h.1|exact C h.2); rw [e.1,e.2]<;>rfl)
 refine eV 2 [0,1] (mc 3 U (mc 1 U I)) U<|rS (CL (si ts tsA tsC q asm asm) (bk [4]) U)<|rP 2 [] I ?_
 refine RK E<|cy U (aX fun C=>?_) (aW fun C=>?_)
 ·refine WS fun _ H=>rS (SX (bf (xs:=[]) (cs:=(ag.cells (ag.mk 0 0))) U U (bg gO U)) U U)<|fJ U cW U<|rP 1 [] I ?_
  refine RK H<|aq<|mj hQ [0] (mc 0 U I) U ?_
  (have e:=pE (a:=p) (b:=q) A (fun h=>by first|exact B h.1|exact C h.2); rw [e.1,e.2]<;>rfl)
 refine WK S<|ao fun _ AB=>WS fun _ J=>?_
 have AA:fR ts p∧fR ts q:=⟨B,C⟩
 have T:=q6 D B
 have V:=q6 D C
 have c:=B.1
 have d:=C.1
 have Y:=xU D M C B
 unfold lX at T V
 refine rP 5 [0,1] (mc 1 U (mc 2 U I)) ?_
 refine RK J<|cy U (aU fun F=>?_) (aV fun F=>?_)
 ·exfalso; omega
 refine WK AB<|WS fun _ K=>rP 2 [] (mc 3 U I) ?_
 have Z:=mD D p.bB.toNat (q.bB-p.bB).toNat
 refine eV 3 [0,1] (mc 2 U (mc 1 U I)) U<|rS (CL (Bg ts tsA tsC p.bB q.bB asm asm om) (bk [4]) U)<|bE 3 U<|AL U ed fun W=>AL U ed fun X=>qT U cW U<|fJ U cW U<|RK K<|WS fun _ L=>eV 20 [0,1,2,0,1,2] (mc 1 U (mc 3 U (mc 4 U I))) U<|rS (SX (bf (xs:=[(0,.tmp 64),(1,.tmp 74)]) (cs:=(ag.cells (ag.mk ((((eN ts p.bB.toNat (q.bB-p.bB).toNat).Lo)+q.m0.Lo)-p.m0.Hi) ((((eN ts p.bB.toNat (q.bB-p.bB).toNat).Hi)+q.m0.Hi)-p.m0.Lo)))) U U (bg gO U)) U U)<|DV U cW U<|rP 1 [] I ?_
 refine RK L<|aq<|mj hQ [0] (mc 2 U I) U ?_
 (have e:=lB A AA; rw [e.1,e.2,rj F]<;>rfl)
theorem IJ (ts:List ar) (tsA:OA) (tsC:Nat) (p:cH) (q:cH) (hlen:ts.length≤1000000) (hside: ∀ x∈ts,0≤x.je∧x.je≤255):
 dL Tryz.prog 153 [(vA (bP.cells (bP.mk (bD.mk tsA ts.length tsC)))),(vA (cH.cells p)),(vA (cH.cells q))] [(rd tsA ts.length 9 (ts.map ar.cells))] (vT [(vA (ag.cells (k6 ts p q))),(vI (l_ ts p q))]):=by
 refine bH kr Tryz.func153 U U fun u Q hQ hN=>?_
 try dsimp only
 refine WS fun _ S=>eO U fun n=>eO U fun o=>eO U fun r=>AL U ed fun s=>bE 1 U<|RK S<|ao fun _ T=>WS fun _ AA=>eV 1 [] (mc 3 U I) U<|rS (CL (w5 ts tsA tsC hlen) (bk [4]) U)<|rP 1 [] I ?_
 refine RK AA<|cy U (fun A=>?_) (fun A=>?_)
 ·rw [Bool.not_eq_true'] at A
  refine WS fun _ V=>rS (SX (bf (xs:=[]) (cs:=(ag.cells (ag.mk 0 0))) U U (bg gO U)) U U)<|fJ U cW U<|rP 1 [] I ?_
  refine RK V<|aq<|mj hQ [0] (mc 0 U I) U ?_
  (have e:=vE (a:=p) (b:=q) (by simpa using A); rw [e.1,e.2]<;>rfl)
 rw [Bool.not_eq_false'] at A
 refine WK T<|ao fun _ W=>WS fun _ E=>?_
 have D:=ke A
 have P:=kZ A
 refine eV 2 [0,1] (mc 3 U (mc 2 U I)) U<|rS (CL (si ts tsA tsC p asm asm) (bk [4]) U)<|rP 2 [] I ?_
 refine bK (t:=20) U (aX fun B=>?_) (aW fun B=>?_)
 ·refine bE 5 U<|RK E<|aT U<|WS fun _ G=>rS (SX (bf (xs:=[]) (cs:=(ag.cells (ag.mk 0 0))) U U (bg gO U)) U U)<|fJ U cW U<|rP 1 [] I ?_
  refine RK G<|aq<|mj hQ [0] (mc 0 U I) U ?_
  (have e:=pE (a:=p) (b:=q) A (fun h=>by first|exact B h.1|exact C h.2); rw [e.1,e.2]<;>rfl)
 refine eV 2 [0,1] (mc 3 U (mc 1 U I)) U<|rS (CL (si ts tsA tsC q asm asm) (bk [4]) U)<|rP 2 [] I ?_
 refine RK E<|cy U (aX fun C=>?_) (aW fun C=>?_)
 ·refine WS fun _ H=>rS (SX (bf (xs:=[]) (cs:=(ag.cells (ag.mk 0 0))) U U (bg gO U)) U U)<|fJ U cW U<|rP 1 [] I ?_
  refine RK H<|aq<|mj hQ [0] (mc 0 U I) U ?_
  (have e:=pE (a:=p) (b:=q) A (fun h=>by first|exact B h.1|exact C h.2); rw [e.1,e.2]<;>rfl)
 refine WK W<|ao fun _ AB=>WS fun _ J=>?_
 have R:fR ts p∧fR ts q:=⟨B,C⟩
 have X:=q6 D B
 have Y:=q6 D C
 have l:=B.1
 have m:=C.1
 have j:=xU D P C B
 unfold lX at X Y
 refine rP 5 [0,1] (mc 1 U (mc 2 U I)) ?_
 refine RK J<|cy U (aU fun F=>?_) (aV fun F=>?_)
 ·refine WS fun _ K=>eV 3 [0,1,2] (mc 3 U (mc 1 U (mc 2 U I))) U<|rS (CL (HB ts tsA tsC q p hlen hside om) (bk [4]) U)<|bE 3 U<|AL U ed fun d=>fJ U cW U<|bE 1 U<|RK K<|WS fun _ L=>rP 2 [] (mc 0 U I) ?_
  have O:k6 ts q p=j7 ts q p:=(lB A ⟨C,B⟩).2
  have Z: -400000≤(k6 ts q p).Lo∧(k6 ts q p).Hi≤400000:=by rw [O]; omega
  have c:(k6 ts q p).Lo≤(k6 ts q p).Hi:=by rw [O]; omega
  refine rS (NG U ⟨om,om⟩)<|eV 2 [] (mc 0 U I) U<|rS (NG U ⟨om,om⟩)<|rS (SX (bf (xs:=[(0,.tmp 41),(1,.tmp 44)]) (cs:=(ag.cells (ag.mk (-((k6 ts q p).Hi)) (-((k6 ts q p).Lo))))) U U (bg gO U)) U U)<|qT U cW U<|rP 1 [] I ?_
  refine RK L<|aq<|mj hQ [0] (mc 1 U I) U ?_
  (have e:=lB A R; have i:=lB A ⟨C,B⟩; rw [e.1,e.2,i.2,DE F]<;>rfl)
 refine WK AB<|WS fun _ M=>rP 2 [] (mc 3 U I) ?_
 have k:=mD D p.bB.toNat (q.bB-p.bB).toNat
 refine eV 3 [0,1] (mc 2 U (mc 1 U I)) U<|rS (CL (Bg ts tsA tsC p.bB q.bB asm asm om) (bk [4]) U)<|bE 3 U<|AL U ed fun f=>AL U ed fun g=>qT U cW U<|fJ U cW U<|RK M<|WS fun _ N=>eV 20 [0,1,2,0,1,2] (mc 1 U (mc 3 U (mc 4 U I))) U<|rS (SX (bf (xs:=[(0,.tmp 64),(1,.tmp 74)]) (cs:=(ag.cells (ag.mk ((((eN ts p.bB.toNat (q.bB-p.bB).toNat).Lo)+q.m0.Lo)-p.m0.Hi) ((((eN ts p.bB.toNat (q.bB-p.bB).toNat).Hi)+q.m0.Hi)-p.m0.Lo)))) U U (bg gO U)) U U)<|DV U cW U<|rP 1 [] I ?_
 refine RK N<|aq<|mj hQ [0] (mc 2 U I) U ?_
 (have e:=lB A R; rw [e.1,e.2,rj F]<;>rfl)
end
section
open Go.RowKit
theorem Kn (l:bp) (kA:OA) (kC:Nat) (az:List RA) (cA:OA) (cC:Nat) (bA:OA) (bC:Nat) (hraw:uq l az):
 dL Tryz.prog 58 [(vA (cr.cells (jC l kA kC cA cC bA bC)))] [(rd kA l.aS.length 9 (l.aS.map ar.cells)),(rd cA l.aj.length 2 (List.zipWith au.cells l.aj az)),(dT (br au.gd l.aj az)),(rd bA l.aa.length 4 (l.aa.map bJ.cells))] (vB (decide (m8 l))):=by
 have e:=hraw.qS
 have d:=hraw.qW
 have a:=hraw.nx
 have b:=hraw.qU
 refine bH kr Tryz.func58 U U fun g Q hQ hN=>?_
 try dsimp only
 refine WS fun _ O=>eO U fun f=>bE 1 U<|RK O<|ao fun _ P=>WS fun _ D=>bE 1 U<|rS (LP (bP.cells (bP.mk (bD.mk kA l.aS.length kC))) 0 U b_ U U U)<|rS (CL (On l.aS kA kC) (bk [1]) U)<|rP 1 [] I ?_
 refine bK (t:=7) U (aU fun Z=>?_) (aV fun Z=>?_)
 ·refine bE 11 U<|RK D<|aT U<|WS fun _ R=>rP 1 [] I ?_
  refine RK R<|aq<|Q1 hQ U U U ?_
  exact cB (dN (.inl om)).symm
 refine rP 6 [] (mc 0 U I) ?_
 refine bK (t:=13) U (aU fun C=>?_) (aV fun C=>?_)
 ·refine bE 5 U<|RK D<|aT U<|WS fun _ S=>rP 1 [] I ?_
  refine RK S<|aq<|Q1 hQ U U U ?_
  exact cB (dN (.inl om)).symm
 refine rP 5 [] (mc 0 U I) ?_
 refine RK D<|cy U (aU fun N=>?_) (aV fun N=>?_)
 ·refine WS fun _ T=>rP 1 [] I ?_
  refine RK T<|aq<|Q1 hQ U U U ?_
  exact cB (dN (.inl om)).symm
 refine WK P<|ao fun _ AA=>WS fun _ V=>rP 1 [] I ?_
 refine RK V<|aI ?_
 have A:(0≤l.aj.length)∧(AN l 0):=by exact ⟨Nat.zero_le _,fun j c hj=>absurd hj (Nat.not_lt_zero _)⟩
 refine bZ (ι:={z:Nat // (z≤l.aj.length)∧(AN l z)}) [1] [0,1,2,3,4] U U (fun z=>[(3,(vI (z.1:Int)))]) (fun z=>[]) (fun _=>rfl) (fun _=>rfl) (fun z=>l.aj.length-z.1) ⟨0,A⟩ (bu U) (aQ [0,1,2,3,4]) ?_
 clear A
 rintro ⟨i,⟨W,B⟩⟩ J10 F
 try dsimp only
 refine ao fun _ G=>WS fun _ H=>rP 5 [] (mc 0 U I) ?_
 refine RK H<|bW U (aV fun C=>?_) (aU fun C=>?_)
 ·refine bS<|ai<|ai<|aL<|KK AA<|WS fun _ L=>rP 1 [] I ?_
  refine RK L<|aq<|Q1 hQ U U U ?_
  exact cB (bI (Kc om om B)).symm
 refine WK G<|ao fun _ AB=>aI<|WS fun _ J=>rP 3 [] (mc 0 U I) ?_
 obtain ⟨x,hx⟩:=aJ l.aj i om
 obtain ⟨xa,X⟩:=aJ az i om
 have Y:(List.zipWith au.cells l.aj az)[i]? =some (au.cells x xa):=dF hx X
 refine rS (IA i U (aB 2 U) yV dc om om)<|rS (o6 ((i*2)+1) U (aB 2 U) (Nat.mul_pos om dc) eD U)<|rS (gE i 1 (vS xa.1 x.bG.length xa.2) U b_ (aB 2 U) Y U dc U)<|rP 2 [] I ?_
 refine RK J<|cy U (aU fun E=>?_) (aV fun E=>?_)
 ·refine WS fun _ K=>rP 1 [] I ?_
  refine RK K<|aq<|Q1 hQ U U U ?_
  exact cB (dN (Kq hx E)).symm
 refine cu<|aR<|KK AB<|aw<|rP 3 [] I ?_
 refine aH ?_
 have M:(vI (((i+1):Nat):Int))=(vI ((i:Int)+1)):=by exact cI om
 refine bq (F ⟨(i+1),⟨om,mh B hx om⟩⟩ _ _ _ U os (dG.cons U<|bw U M<|dG.nil _) (aQ [0,1,2,3,4]))
theorem xR (d m:Int) (hd:0≤d∧d≤1000) (hm:0≤m∧m≤90000000):
 dL Tryz.prog 151 [(vI d),(vI m)] [] (vI (mZ (d*m) 1000000)):=by
 have J:=QF (a:=d) (b:=m) (A:=1000) (B:=90000000) hd.1 hd.2 hm.1 hm.2
 refine bH kr Tryz.func151 U U fun K Q hQ hN=>?_
 try dsimp only
 refine WS fun _ C=>bE 1 U<|RK C<|WS fun _ D=>bE 2 U<|rS (BI U (nt ⟨om,om⟩))<|bE 1 U<|RK D<|ao fun _ E=>WS fun _ F=>bE 1 U<|rS (BI U (mG om om))<|rP 1 [] I ?_
 refine RK F<|cy U (aU fun AA=>?_) (aV fun AA=>?_)
 ·refine WS fun _ G=>bE 1 U<|rS (BI U (uz om om om))<|rP 2 [] I ?_
  refine RK G<|aq<|Q1 hQ U U U ?_
  exact cI (by unfold mZ; omega)
 refine WK E<|WS fun _ H=>bE 1 U<|rS (BI U (uz om om om))<|rP 1 [] I ?_
 refine RK H<|aq<|Q1 hQ U U U ?_
 exact cI (by unfold mZ; omega)
theorem Iy (c:au) (sA:OA) (sC:Nat) (hlen:c.bG.length≤1000000):
 dL Tryz.prog 133 [(vA (dx.cells (dx.mk c.dw (bD.mk sA c.bG.length sC))))] [(rd sA c.bG.length 3 (c.bG.map cM.cells))] (vB (decide (eP c))):=by
 refine bH kr Tryz.func133 U U fun w0 Q hQ hN=>?_
 try dsimp only
 refine WS fun _ Do=>eO U fun b2=>bE 1 U<|RK Do<|ao fun _ Du=>WS fun _ A6=>eV 2 [] (mc 0 U I) U<|rS (CL (iW c.dw 0 1000) (aO) U)<|rP 2 [] I ?_
 refine bK (t:=14) U (aX fun Ck=>?_) (aW fun Ck=>?_)
 ·refine bE 6 U<|RK A6<|aT U<|WS fun _ EQ=>rP 1 [] I ?_
  refine RK EQ<|aq<|Q1 hQ U U U ?_
  exact cB (bI fun h=>by have q1:=h.qN; have q2:=h.len; omega).symm
 refine eV 3 [] (mc 0 U I) U<|rS (CL (iW (c.bG.length:Int) 1 5) (aO) U)<|rP 2 [] I ?_
 refine RK A6<|cy U (aX fun Cp=>?_) (aW fun Cp=>?_)
 ·refine WS fun _ Eq=>rP 1 [] I ?_
  refine RK Eq<|aq<|Q1 hQ U U U ?_
  exact cB (bI fun h=>by have q1:=h.qN; have q2:=h.len; omega).symm
 refine WK Du<|ao fun _ FC=>WS fun _ FE=>rP 1 [] I ?_
 refine RK FE<|aI ?_
 have A:(0≤c.bG.length)∧(∀ (j:Nat) y,j<0→c.bG[j]? =some y→fM c j y):=by exact ⟨Nat.zero_le _,fun j y hj=>absurd hj (Nat.not_lt_zero _)⟩
 refine bZ (ι:={z:Nat // (z≤c.bG.length)∧(∀ (j:Nat) y,j<z→c.bG[j]? =some y→fM c j y)}) [1] [0,1] U U (fun z=>[(3,(vI (z.1:Int)))]) (fun z=>[]) (fun _=>rfl) (fun _=>rfl) (fun z=>c.bG.length-z.1) ⟨0,A⟩ (bu U) (aQ [0,1]) ?_
 clear A
 rintro ⟨i,⟨a,C⟩⟩ J9 f
 try dsimp only
 have GT:=Jf a C
 refine ao fun _ g=>WS fun _ l=>rP 5 [] (mc 0 U I) ?_
 refine RK l<|cy U (aU fun Cx=>?_) (aV fun Cx=>?_)
 ·refine WK g<|ao fun _ AA=>aI<|WS fun _ n=>rP 3 [] (mc 0 U I) ?_
  obtain ⟨x,hx⟩:=aJ c.bG i om
  have b:=bM cM.cells hx
  refine rS (IA i U (aB 1 U) rY dc om om)<|rS (lM i 0 (cM.cells x) U b_ (aB 1 U) b U dc U U)<|AL U s_ fun GE=>fJ U ua U<|RK n<|ao fun _ B=>dj cj 41 kr<|lz 2 [] (mc 0 U I) U<|dS (CL (iW x.At 0 86400000) (aO) U)<|dP 2 [] I ?_
  refine g7 (t:=37) U (aX fun C0=>?_) (aW fun C0=>?_)
  ·refine kE 36 U<|cD<|RK B<|aT U<|WS fun _ p=>rP 1 [] I ?_
   refine RK p<|aq<|Q1 hQ U U U ?_
   exact cB (bI fun h=>by have q:=h.sync i x hx; unfold fM at q; (rw [gS om] at q; omega)).symm
  refine dP 3 [] I ?_
  refine jB (t:=40) U (aV fun C1=>?_) (aU fun C1=>?_)
  ·refine dP 19 [] (mc 0 U I) ?_
   refine g7 (t:=59) U (aU fun X=>?_) (aV fun X=>?_)
   ·refine kE 14 U<|cD<|RK B<|aT U<|WS fun _ w=>rP 1 [] I ?_
    refine RK w<|aq<|Q1 hQ U U U ?_
    exact cB (bI fun h=>by have q:=h.sync i x hx; unfold fM at q; (rw [gS om] at q; omega)).symm
   refine dP 9 [] (mc 0 U I) ?_
   refine g7 (t:=68) U (aU fun Y=>?_) (aV fun Y=>?_)
   ·refine kE 5 U<|cD<|RK B<|aT U<|WS fun _ AC=>rP 1 [] I ?_
    refine RK AC<|aq<|Q1 hQ U U U ?_
    exact cB (bI fun h=>by have q:=h.sync i x hx; unfold fM at q; (rw [gS om] at q; omega)).symm
   refine dP 5 [] (mc 0 U I) ?_
   refine cD<|RK B<|bW U (aV fun Z=>?_) (aU fun Z=>?_)
   ·refine cu<|aR<|KK AA<|aw<|rP 3 [] I ?_
    refine aH ?_
    have A9:(vI (((i+1):Nat):Int))=(vI ((i:Int)+1)):=by exact cI om
    refine bq (f ⟨(i+1),⟨om,mh C hx (by unfold fM; (rw [gS om]; omega))⟩⟩ _ _ _ U os (dG.cons U<|bw U A9<|dG.nil _) (aQ [1,2]))
   refine WS fun _ AO=>rP 1 [] I ?_
   refine RK AO<|aq<|Q1 hQ U U U ?_
   exact cB (bI fun h=>by have q:=h.sync i x hx; unfold fM at q; (rw [gS om] at q; omega)).symm
  refine dP 6 [0,1] (mc 0 U (mc 1 U I)) ?_
  obtain ⟨y,hy⟩:=aJ c.bG (i-1) om
  have d:=bM cM.cells hy
  refine dS (IA (i-1) U (aB 2 U) rY dc om om)<|dS (o6 ((i-1)*3) U (aB 2 U) (Nat.mul_pos om dc) eD U)<|dS (gE (i-1) 0 (vI y.At) U b_ (aB 2 U) d U dc U)<|dP 4 [] I ?_
  refine g7 (t:=53) U (aU fun C2=>?_) (aV fun C2=>?_)
  ·refine kE 20 U<|cD<|RK B<|aT U<|WS fun _ r=>rP 1 [] I ?_
   refine RK r<|aq<|Q1 hQ U U U ?_
   exact cB (bI fun h=>by have q:=h.sync i x hx; unfold fM at q; (rw [xw om hy] at q; omega)).symm
  refine dP 6 [] (mc 0 U I) ?_
  refine g7 (t:=59) U (aU fun X=>?_) (aV fun X=>?_)
  ·refine kE 14 U<|cD<|RK B<|aT U<|WS fun _ s=>rP 1 [] I ?_
   refine RK s<|aq<|Q1 hQ U U U ?_
   exact cB (bI fun h=>by have q:=h.sync i x hx; unfold fM at q; (rw [gS om] at q; omega)).symm
  refine dP 9 [] (mc 0 U I) ?_
  refine g7 (t:=68) U (aU fun Y=>?_) (aV fun Y=>?_)
  ·refine kE 5 U<|cD<|RK B<|aT U<|WS fun _ u=>rP 1 [] I ?_
   refine RK u<|aq<|Q1 hQ U U U ?_
   exact cB (bI fun h=>by have q:=h.sync i x hx; unfold fM at q; (rw [gS om] at q; omega)).symm
  refine dP 5 [] (mc 0 U I) ?_
  refine cD<|RK B<|bW U (aV fun Z=>?_) (aU fun Z=>?_)
  ·refine cu<|aR<|KK AA<|aw<|rP 3 [] I ?_
   refine aH ?_
   have A8:(vI (((i+1):Nat):Int))=(vI ((i:Int)+1)):=by exact cI om
   refine bq (f ⟨(i+1),⟨om,mh C hx (by unfold fM; (rw [xw om hy]; omega))⟩⟩ _ _ _ U os (dG.cons U<|bw U A8<|dG.nil _) (aQ [1,2]))
  refine WS fun _ v=>rP 1 [] I ?_
  refine RK v<|aq<|Q1 hQ U U U ?_
  exact cB (bI fun h=>by have q:=h.sync i x hx; unfold fM at q; (rw [gS om] at q; omega)).symm
 refine bS<|ai<|ai<|aL<|KK FC<|ao fun _ Ad=>WS fun _ An=>rP 1 [] I ?_
 refine RK An<|aI ?_
 have A:(0≤c.bG.length)∧(uI c 0):=by exact ⟨Nat.zero_le _,fun j y hj=>absurd hj (Nat.not_lt_zero _)⟩
 refine bZ (ι:={z:Nat // (z≤c.bG.length)∧(uI c z)}) [1] [0,1] U U (fun z=>[(5,(vI (z.1:Int)))]) (fun z=>[]) (fun _=>rfl) (fun _=>rfl) (fun z=>c.bG.length-z.1) ⟨0,A⟩ (bu U) (aQ [0,1]) ?_
 clear A
 rintro ⟨m,⟨Bo,G⟩⟩ J28 e
 try dsimp only
 have F:=xu (P:=fM c) om C
 refine ao fun _ A0=>WS fun _ A1=>rP 5 [] (mc 0 U I) ?_
 refine RK A1<|bW U (aV fun C3=>?_) (aU fun C3=>?_)
 ·refine bS<|ai<|ai<|aL<|KK Ad<|WS fun _ A7=>rP 1 [] I ?_
  refine RK A7<|aq<|Q1 hQ U U U ?_
  exact cB (dN (JU om om (xu om C) om G)).symm
 refine WK A0<|ao fun _ A2=>aI<|WS fun _ A3=>rP 1 [] I ?_
 refine RK A3<|aI ?_
 have A:(0≤m)∧(∀ y,c.bG[m]? =some y→FW c y 0):=by exact ⟨Nat.zero_le _,fun y _ j o hj=>absurd hj (Nat.not_lt_zero _)⟩
 refine bZ (ι:={z:Nat // (z≤m)∧(∀ y,c.bG[m]? =some y→FW c y z)}) [1,5] [0,1] U U (fun z=>[(6,(vI (z.1:Int)))]) (fun z=>[]) (fun _=>rfl) (fun _=>rfl) (fun z=>m-z.1) ⟨0,A⟩ (bu U) (aQ [0,1]) ?_
 clear A
 rintro ⟨k,⟨B3,D⟩⟩ J33 T
 try dsimp only
 refine ao fun _ A4=>WS fun _ A5=>rP 3 [] I ?_
 refine RK A5<|bW U (aV fun Di=>?_) (aU fun Di=>?_)
 ·refine bS<|ai<|ai<|aL<|aR<|KK A2<|aw<|rP 3 [] I ?_
  refine aH ?_
  have Bd:(vI (((m+1):Nat):Int))=(vI ((m:Int)+1)):=by exact cI om
  refine bq (e ⟨(m+1),⟨om,Eb G D om⟩⟩ _ _ _ U os (dG.cons U<|bw U Bd<|dG.nil _) (aQ [0,1]))
 refine WK A4<|ao fun _ V=>aI<|ao fun _ W=>lT cj [0,1,2,3,4,5,6,7,8,9] [10,11,12,13] [false,false,false,false,false,false,false,false,false,false] [] [(cp b2 107 (dx.cells (dx.mk c.dw (bD.mk sA c.bG.length sC)))),(rd sA c.bG.length 3 (c.bG.map cM.cells)).ro] [] kr (aQ [0,1]) (aQ [])<|eS U (FA 1 U eD U)<|eS U (L1 (vS sA c.bG.length sC) 0 U b_ U U)<|eS U (MV U) ?_
 obtain ⟨x,hx⟩:=aJ c.bG k om
 have b:=bM cM.cells hx
 refine eS U (IA k U (aB 1 U) rY dc om om)<|eS U (lM k 0 (cM.cells x) U b_ (aB 1 U) b U dc U U)<|eS U (FA 1 U eD U)<|eS U (L1 (vS sA c.bG.length sC) 0 U b_ U U)<|eS U (MV U) ?_
 obtain ⟨y,hy⟩:=aJ c.bG m om
 have d:=bM cM.cells hy
 refine eS U (IA m U (aB 1 U) rY dc om om)<|eS U (lM m 0 (cM.cells y) U b_ (aB 1 U) d U dc U U)<|eh U<|m6 [10,11] kr (iF ?_<|iF ?_<|qC)
 rotate_left 1
 ·refine NO U U [10,12,13] fun T38 M=>AL U s_ fun B9=>RD M 1 U<|N1 10<|NO U U [12,13] fun T40 N=>AL U s_ fun Ci=>RD N 2 U<|N1 12<|NO U U [13] fun T42 O=>fJ U ua U<|RD O 2 U<|N1 13<|NO U U [] fun T43 R=>qT U ua U<|RD R 2 U<|l3<|KK W<|WS fun _ J=>rP 6 [0,1,2] (mc 2 U (mc 1 U (mc 0 U I))) ?_
  obtain ⟨FS,Fd,Fn⟩:=vd (fun j z _ hz=>F j z hz) hy (F _ _ hy) (show k<m by omega) hx
  refine bE 1 U<|rS (CL (xR c.dw (y.At-x.At) om om) (aO) U)<|bE 1 U<|RK J<|WS fun _ E=>rP 10 [0,1] (mc 0 U (mc 1 U I)) ?_
  refine bK (t:=113) U (aU fun H=>?_) (aV fun H=>?_)
  ·refine bE 10 U<|RK E<|aT U<|WS fun _ K=>rP 1 [] I ?_
   refine RK K<|aq<|Q1 hQ U U U ?_
   exact cB (bI fun h=>by have q:=h.pair m k y x hy om hx; unfold n_ at q; omega).symm
  refine rP 10 [0,1] (mc 1 U (mc 0 U I)) ?_
  refine RK E<|bW U (aV fun AB=>?_) (aU fun AB=>?_)
  ·refine cu<|aR<|KK V<|aw<|rP 3 [] I ?_
   refine aH ?_
   have S:(vI (((k+1):Nat):Int))=(vI ((k:Int)+1)):=by exact cI om
   refine bq (T ⟨(k+1),⟨om,fun z hz=>by rw [hy] at hz; cases hz; exact mh (D _ hy) hx (by unfold n_; omega)⟩⟩ _ _ _ rfl os (dG.cons rfl<|dG.cons rfl<|bw rfl S<|dG.nil _) (aQ [2,3]))
  refine WS fun _ L=>rP 1 [] I ?_
  refine RK L<|aq<|Q1 hQ U U U ?_
  exact cB (bI fun h=>by have q:=h.pair m k y x hy om hx; unfold n_ at q; omega).symm
 refine NO U U [11,12,13] fun T38 M=>AL U s_ fun B9=>RD M 1 U<|N1 11<|NO U U [12,13] fun T40 N=>AL U s_ fun Ci=>RD N 2 U<|N1 12<|NO U U [13] fun T42 O=>qT U ua U<|RD O 2 U<|N1 13<|NO U U [] fun T43 R=>fJ U ua U<|RD R 2 U<|l3<|KK W<|WS fun _ J=>rP 6 [0,1,2] (mc 2 U (mc 0 U (mc 1 U I))) ?_
 obtain ⟨FS,Fd,Fn⟩:=vd (fun j z _ hz=>F j z hz) hy (F _ _ hy) (show k<m by omega) hx
 refine bE 1 U<|rS (CL (xR c.dw (y.At-x.At) om om) (aO) U)<|bE 1 U<|RK J<|WS fun _ E=>rP 10 [0,1] (mc 1 U (mc 0 U I)) ?_
 refine bK (t:=113) U (aU fun H=>?_) (aV fun H=>?_)
 ·refine bE 10 U<|RK E<|aT U<|WS fun _ K=>rP 1 [] I ?_
  refine RK K<|aq<|Q1 hQ U U U ?_
  exact cB (bI fun h=>by have q:=h.pair m k y x hy om hx; unfold n_ at q; omega).symm
 refine rP 10 [0,1] (mc 0 U (mc 1 U I)) ?_
 refine RK E<|bW U (aV fun AB=>?_) (aU fun AB=>?_)
 ·refine cu<|aR<|KK V<|aw<|rP 3 [] I ?_
  refine aH ?_
  have S:(vI (((k+1):Nat):Int))=(vI ((k:Int)+1)):=by exact cI om
  refine bq (T ⟨(k+1),⟨om,fun z hz=>by rw [hy] at hz; cases hz; exact mh (D _ hy) hx (by unfold n_; omega)⟩⟩ _ _ _ rfl os (dG.cons rfl<|dG.cons rfl<|bw rfl S<|dG.nil _) (aQ [2,3]))
 refine WS fun _ L=>rP 1 [] I ?_
 refine RK L<|aq<|Q1 hQ U U U ?_
 exact cB (bI fun h=>by have q:=h.pair m k y x hy om hx; unfold n_ at q; omega).symm
theorem B7 (c:au) (sA:OA) (sC:Nat) (at_:Int) (hc:eP c) (ha:0≤at_∧at_≤90000000):
 dL Tryz.prog 183 [(vA (dx.cells (dx.mk c.dw (bD.mk sA c.bG.length sC)))),(vI at_)] [(rd sA c.bG.length 3 (c.bG.map cM.cells))] (vA (ag.cells (gr c at_))):=by
 have e:=hc.len
 have W:=hc.qN
 refine bH kr Tryz.func183 U U fun j Q hQ hN=>?_
 try dsimp only
 refine WS fun _ R=>eO U fun g=>AL U ed fun h=>RK R<|WS fun _ S=>AL U ed fun d=>RK S<|ao fun _ T=>WS fun _ AA=>rP 1 [] I ?_
 refine RK AA<|aI ?_
 have A:(0≤c.bG.length):=by exact Nat.zero_le _
 refine bZ (ι:={z:Nat // (z≤c.bG.length)}) [1,2,4,5] [1,2,3] U U (fun z=>[(6,(vI (z.1:Int)))]) (fun z=>[(cp d 48 (ag.cells (kX c at_ z.1)))]) (fun _=>rfl) (fun _=>rfl) (fun z=>c.bG.length-z.1) ⟨0,A⟩ (bu U) (aQ [1,2,3,0]) ?_
 clear A
 rintro ⟨i,X⟩ J8 D
 try dsimp only
 refine ao fun _ V=>WS fun _ E=>rP 5 [] (mc 1 U I) ?_
 refine RK E<|bW U (aV fun O=>?_) (aU fun O=>?_)
 ·refine bS<|ai<|ai<|aL<|KK T<|WS fun _ J=>rP 1 [] (mc 3 U I) ?_
  refine fJ U cW U<|RK J<|aq<|Dn hQ [0] (mc 0 U I) U ?_
  rw [Ep hc (show c.bG.length≤i by omega)]
 refine WK V<|ao fun _ B=>aI<|WS fun _ F=>rP 3 [] (mc 1 U I) ?_
 obtain ⟨x,hx⟩:=aJ c.bG i om
 have Z:=bM cM.cells hx
 refine rS (IA i U (aB 2 U) rY dc om om)<|rS (lM i 0 (cM.cells x) U b_ (aB 2 U) Z U dc U U)<|AL U s_ fun a=>fJ U ua U<|RK F<|WS fun _ G=>rP 2 [] (mc 2 U I) ?_
 have Y:=hc.rT hx
 have f:0≤mZ (c.dw*max (at_-x.At) (x.At-at_)) 1000000∧mZ (c.dw*max (at_-x.At) (x.At-at_)) 1000000≤90001:=tM W ha Y.1
 refine eV 8 [] (mc 0 U I) U<|rS (MX U)<|rS (CL (xR c.dw (max (at_-x.At) (x.At-at_)) om om) (aO) U)<|bE 1 U<|RK G<|WS fun _ H=>eV 10 [] (mc 0 U I) U<|rS (SX (bf (xs:=[(0,.tmp 38),(1,.tmp 43)]) (cs:=(ag.cells (ag.mk (x.dR.Lo-(mZ (c.dw*(max (at_-x.At) (x.At-at_))) 1000000)) (x.dR.Hi+(mZ (c.dw*(max (at_-x.At) (x.At-at_))) 1000000))))) U U (bg gO U)) U U)<|AL U ed fun b=>fJ U cW U<|RK H<|ao fun _ C=>WS fun _ AB=>rP 2 [] I ?_
 refine RK AB<|bW U (aV fun P=>?_) (aU fun P=>?_)
 ·refine WK C<|aw<|eV 4 [0,1] (mc 5 U (mc 0 U I)) U<|rS (MX U)<|rP 4 [0,1] (mc 5 U (mc 0 U I)) ?_
  refine rS (MN U)<|rS (SX (bf (xs:=[(0,.tmp 52),(1,.tmp 57)]) (cs:=(ag.cells (ag.mk (max ((kX c at_ i).Lo) (x.dR.Lo-(mZ (c.dw*(max (at_-x.At) (x.At-at_))) 1000000))) (min ((kX c at_ i).Hi) (x.dR.Hi+(mZ (c.dw*(max (at_-x.At) (x.At-at_))) 1000000)))))) U U (bg gO U)) U U)<|JC U cW U<|aH<|aR<|KK B ?_
  have M:(ag.cells (ag.mk (max ((kX c at_ i).Lo) (x.dR.Lo-(mZ (c.dw*(max (at_-x.At) (x.At-at_))) 1000000))) (min ((kX c at_ i).Hi) (x.dR.Hi+(mZ (c.dw*(max (at_-x.At) (x.At-at_))) 1000000)))))=(ag.cells (kX c at_ (i+1))):=by exact congrArg ag.cells (Cy hx om).symm
  rw [M]
  refine aw<|rP 3 [] I ?_
  refine aH ?_
  have N:(vI (((i+1):Nat):Int))=(vI ((i:Int)+1)):=by exact cI om
  refine bq (D ⟨(i+1),(by first|omega|(simp only []; omega))⟩ _ _ _ U os (cY 4<|bw U N<|dG.nil _) (aQ [2,3,4,5]))
 refine aw<|eV 1 [] (mc 0 U I) U<|JC U cW U<|RK C<|aw<|eV 4 [0,1] (mc 5 U (mc 0 U I)) U<|rS (MX U)<|rP 4 [0,1] (mc 5 U (mc 0 U I)) ?_
 refine rS (MN U)<|rS (SX (bf (xs:=[(0,.tmp 52),(1,.tmp 57)]) (cs:=(ag.cells (ag.mk (max (x.dR.Lo-(mZ (c.dw*(max (at_-x.At) (x.At-at_))) 1000000)) (x.dR.Lo-(mZ (c.dw*(max (at_-x.At) (x.At-at_))) 1000000))) (min (x.dR.Hi+(mZ (c.dw*(max (at_-x.At) (x.At-at_))) 1000000)) (x.dR.Hi+(mZ (c.dw*(max (at_-x.At) (x.At-at_))) 1000000)))))) U U (bg gO U)) U U)<|JC U cW U<|aH<|aR<|KK B ?_
 have K:(ag.cells (ag.mk (max (x.dR.Lo-(mZ (c.dw*(max (at_-x.At) (x.At-at_))) 1000000)) (x.dR.Lo-(mZ (c.dw*(max (at_-x.At) (x.At-at_))) 1000000))) (min (x.dR.Hi+(mZ (c.dw*(max (at_-x.At) (x.At-at_))) 1000000)) (x.dR.Hi+(mZ (c.dw*(max (at_-x.At) (x.At-at_))) 1000000)))))=(ag.cells (kX c at_ (i+1))):=by exact congrArg ag.cells (z7 hc ha hx om).symm
 rw [K]
 refine aw<|rP 3 [] I ?_
 refine aH ?_
 have L:(vI (((i+1):Nat):Int))=(vI ((i:Int)+1)):=by exact cI om
 refine bq (D ⟨(i+1),(by first|omega|(simp only []; omega))⟩ _ _ _ U os (cY 4<|bw U L<|dG.nil _) (aQ [2,3,4,5]))
theorem Ih (l:bp) (kA:OA) (kC:Nat) (az:List RA) (cA:OA) (cC:Nat) (bA:OA) (bC:Nat) (n:Int) (hin:dY l az) (htr:dB l.aS=true) (hbk: ∀ b∈l.aa,j_ l b) (hn:0≤n∧n<(l.aa.length:Int)):
 dL Tryz.prog 135 [(vA (cr.cells (jC l kA kC cA cC bA bC))),(vI n)] [(rd kA l.aS.length 9 (l.aS.map ar.cells)),(rd cA l.aj.length 2 (List.zipWith au.cells l.aj az)),(dT (br au.gd l.aj az)),(rd bA l.aa.length 4 (l.aa.map bJ.cells))] (vI (lg l n.toNat)):=by
 have AA:=hin.qS
 have S:=hin.qW
 have P:=hin.nx
 have R:=hin.qU
 have T:=hin.side
 refine bH kr Tryz.func135 U U fun X Q hQ hN=>?_
 try dsimp only
 refine WS fun _ G=>eO U fun V=>bE 1 U<|RK G<|ao fun _ H=>WS fun _ AB=>rP 2 [] I ?_
 refine RK AB<|cy U (aU fun F=>?_) (aV fun F=>?_)
 ·refine ao fun _ J=>dy cj [11,12] [] [] [0,1,2,3,4] [] U U U U U<|eS U (FA 0 U eD U)<|eS U (LP (bP.cells (bP.mk (bD.mk kA l.aS.length kC))) 0 U b_ U U U)<|eS U (FA 3 U eD U)<|eS U (L1 (vS bA l.aa.length bC) 0 U b_ U U) ?_
  obtain ⟨y,hy⟩:=aJ l.aa 0 om
  have A:=bM bJ.cells hy
  refine eS U (IA 0 U (aB 4 U) uR dc U om)<|eS U (o6 (0*4) U (aB 4 U) (Nat.mul_pos om dc) eD U)<|eS U (lM 0 0 (cH.cells y.ni) U b_ (aB 4 U) A U dc U U)<|eS U (CL (Rt l.aS kA kC y.ni asm asm) (bk [1]) U)<|eS U (MV U)<|eS U (EX U)<|eS U (EX U)<|eS U (AG U)<|eh U<|cf U fun T6 L=>AL U ed fun W=>aH (L _ _ (aQ [1,2,3,4,5]) ?_)
  refine cf U fun T8 M=>fJ U cW U<|aH (M _ _ (aQ [1,2,3,4,5]) ?_)
  refine e8 U<|KK J<|WS fun _ K=>rP 3 [] (mc 0 U I) ?_
  refine RK K<|aq<|Q1 hQ U U U ?_
  (refine congrArg (Value.int .i64) ?_; rw [show n.toNat=0 by omega]; rw [zB hy,(yi htr (hbk _ (List.mem_of_getElem? hy)).1).2])
 refine WK H<|ao fun _ B=>dy cj [19,20] [] [] [0,1,2,3,4] [] U U U U U<|eS U (FA 0 U eD U)<|eS U (LP (bP.cells (bP.mk (bD.mk kA l.aS.length kC))) 0 U b_ U U U)<|eS U (FA 3 U eD U)<|eS U (L1 (vS bA l.aa.length bC) 0 U b_ U U)<|eS U (MV U)<|eS U (BI U (uA ⟨om,om⟩)) ?_
 obtain ⟨y,hy⟩:=aJ l.aa (((n-1)).toNat) om
 have A:=bM bJ.cells hy
 refine eS U (IA (((n-1)).toNat) U (aB 4 U) uR dc om om)<|eS U (o6 ((((n-1)).toNat)*4) U (aB 4 U) (Nat.mul_pos om dc) eD U)<|eS U (lM (((n-1)).toNat) 0 (cH.cells y.ni) U b_ (aB 4 U) A U dc U U)<|eS U (FA 3 U eD U)<|eS U (L1 (vS bA l.aa.length bC) 0 U b_ U U)<|eS U (MV U) ?_
 obtain ⟨x,hx⟩:=aJ l.aa ((n).toNat) om
 have N:=bM bJ.cells hx
 refine eS U (IA ((n).toNat) U (aB 4 U) uR dc om om)<|eS U (o6 (((n).toNat)*4) U (aB 4 U) (Nat.mul_pos om dc) eD U)<|eS U (lM ((n).toNat) 0 (cH.cells x.ni) U b_ (aB 4 U) N U dc U U)<|eS U (CL (IJ l.aS kA kC y.ni x.ni asm asm) (bk [1]) U)<|eS U (MV U)<|eS U (EX U)<|eS U (EX U)<|eS U (AG U)<|eh U<|cf U fun T11 D=>AL U ed fun O=>aH (D _ _ (aQ [1,2,3,4,5]) ?_)
 refine cf U fun T13 E=>fJ U cW U<|aH (E _ _ (aQ [1,2,3,4,5]) ?_)
 refine e8 U<|KK B<|WS fun _ C=>rP 3 [] (mc 0 U I) ?_
 refine RK C<|aq<|Q1 hQ U U U ?_
 (refine congrArg (Value.int .i64) ?_; rw [CN om hx (by rw [show n.toNat-1=(n-1).toNat by omega]; exact hy),(lB htr ⟨(hbk _ (List.mem_of_getElem? hy)).1,(hbk _ (List.mem_of_getElem? hx)).1⟩).2])
theorem Kh (l:bp) (kA:OA) (kC:Nat) (az:List RA) (cA:OA) (cC:Nat) (bA:OA) (bC:Nat) (n:Int) (hin:dY l az) (htr:dB l.aS=true) (hok:lF l) (hn:0≤n∧n<(l.aa.length:Int)):
 dL Tryz.prog 175 [(vA (cr.cells (jC l kA kC cA cC bA bC))),(vI n)] [(rd kA l.aS.length 9 (l.aS.map ar.cells)),(rd cA l.aj.length 2 (List.zipWith au.cells l.aj az)),(dT (br au.gd l.aj az)),(rd bA l.aa.length 4 (l.aa.map bJ.cells))] (vI (cZ l n.toNat)):=by
 have G:=hin.qS
 have F:=hin.qW
 have D:=hin.nx
 have E:=hin.qU
 have C:=hok.head
 unfold eU at C
 have H:=zq htr hok.re n.toNat
 have AA:=hok.Oy n.toNat om
 refine bH kr Tryz.func175 U U fun K Q hQ hN=>?_
 try dsimp only
 refine WS fun _ A=>eO U fun J=>bE 1 U<|RK A<|ao fun _ B=>dj cj 12 kr<|lz 2 [] (mc 0 U I) U<|dS (CL (Ih l kA kC az cA cC bA bC n hin htr (by exact hok.re) hn) (bk [1,2,3,4]) U)<|dS (BI U (nt ⟨om,om⟩))<|lz 6 [] (mc 0 U I) U<|dS (BI U (uz om om om))<|dP 1 [] I ?_
 refine cD<|RK B<|aq<|Q1 hQ U U U ?_
 exact cI (by unfold cZ mZ; rw [Int.mul_comm])
theorem Oh (l:bp) (kA:OA) (kC:Nat) (az:List RA) (cA:OA) (cC:Nat) (bA:OA) (bC:Nat) (hin:dY l az) (htr:dB l.aS=true):
 dL Tryz.prog 110 [(vA (cr.cells (jC l kA kC cA cC bA bC)))] [(rd kA l.aS.length 9 (l.aS.map ar.cells)),(rd cA l.aj.length 2 (List.zipWith au.cells l.aj az)),(dT (br au.gd l.aj az)),(rd bA l.aa.length 4 (l.aa.map bJ.cells))] (vB (decide (lF l))):=by
 have Eq:=hin.qS
 have Di:=hin.qW
 have C1:=hin.nx
 have C3:=hin.qU
 have Do:=hin.side
 have Du:=ke htr
 have C0:=kZ htr
 refine bH kr Tryz.func110 U U fun w0 Q hQ hN=>?_
 try dsimp only
 refine WS fun _ A8=>eO U fun b2=>bE 1 U<|RK A8<|ao fun _ A9=>WS fun _ D=>eV 2 [] (mc 0 U I) U<|rS (CL (iW l.hZ 1 5000) (aO) U)<|rP 2 [] I ?_
 refine bK (t:=10) U (aX fun Ad=>?_) (aW fun Ad=>?_)
 ·refine bE 35 U<|RK D<|aT U<|WS fun _ Bd=>rP 1 [] I ?_
  refine RK Bd<|aq<|Q1 hQ U U U ?_
  exact cB (bI fun h=>by have q:=h.head; unfold eU at q; omega).symm
 refine eV 3 [] (mc 0 U I) U<|rS (CL (iW (l.aj.length:Int) 1 4) (aO) U)<|rP 3 [] I ?_
 refine bK (t:=17) U (aX fun An=>?_) (aW fun An=>?_)
 ·refine bE 28 U<|RK D<|aT U<|WS fun _ Bo=>rP 1 [] I ?_
  refine RK Bo<|aq<|Q1 hQ U U U ?_
  exact cB (bI fun h=>by have q:=h.head; unfold eU at q; omega).symm
 refine eV 3 [] (mc 0 U I) U<|rS (CL (iW (l.aa.length:Int) 1 6) (aO) U)<|rP 3 [] I ?_
 refine bK (t:=24) U (aX fun A0=>?_) (aW fun A0=>?_)
 ·refine bE 21 U<|RK D<|aT U<|WS fun _ B3=>rP 1 [] I ?_
  refine RK B3<|aq<|Q1 hQ U U U ?_
  exact cB (bI fun h=>by have q:=h.head; unfold eU at q; omega).symm
 refine eV 6 [] (mc 0 U I) U<|rS (CL (iW l.bO 0 ((l.aa.length:Int)-1)) (aO) U)<|rP 3 [] I ?_
 refine bK (t:=34) U (aX fun A1=>?_) (aW fun A1=>?_)
 ·refine bE 11 U<|RK D<|aT U<|WS fun _ B9=>rP 1 [] I ?_
  refine RK B9<|aq<|Q1 hQ U U U ?_
  exact cB (bI fun h=>by have q:=h.head; unfold eU at q; omega).symm
 refine eV 2 [] (mc 0 U I) U<|rS (CL (iW l.fO 0 3) (aO) U)<|rP 3 [] I ?_
 refine bK (t:=40) U (aX fun A2=>?_) (aW fun A2=>?_)
 ·refine bE 5 U<|RK D<|aT U<|WS fun _ Ci=>rP 1 [] I ?_
  refine RK Ci<|aq<|Q1 hQ U U U ?_
  exact cB (bI fun h=>by have q:=h.head; unfold eU at q; omega).symm
 refine eV 2 [] (mc 0 U I) U<|rS (CL (iW l.dq 0 3) (aO) U)<|rP 2 [] I ?_
 refine RK D<|cy U (aX fun A3=>?_) (aW fun A3=>?_)
 ·refine WS fun _ N=>rP 1 [] I ?_
  refine RK N<|aq<|Q1 hQ U U U ?_
  exact cB (bI fun h=>by have q:=h.head; unfold eU at q; omega).symm
 refine WK A9<|ao fun _ O=>WS fun _ R=>rP 1 [] I ?_
 refine RK R<|aI ?_
 have A:(0≤l.aj.length)∧(∀ (j:Nat) y,j<0→l.aj[j]? =some y→eP y):=by exact ⟨Nat.zero_le _,fun j y hj=>absurd hj (Nat.not_lt_zero _)⟩
 refine bZ (ι:={z:Nat // (z≤l.aj.length)∧(∀ (j:Nat) y,j<z→l.aj[j]? =some y→eP y)}) [1] [0,1,2,3,4] U U (fun z=>[(3,(vI (z.1:Int)))]) (fun z=>[]) (fun _=>rfl) (fun _=>rfl) (fun z=>l.aj.length-z.1) ⟨0,A⟩ (bu U) (aQ [0,1,2,3,4]) ?_
 clear A
 rintro ⟨i,⟨Ck,F⟩⟩ J13 K
 try dsimp only
 refine ao fun _ S=>WS fun _ T=>rP 5 [] (mc 0 U I) ?_
 refine RK T<|cy U (aU fun A4=>?_) (aV fun A4=>?_)
 ·refine WK S<|ao fun _ AA=>aI<|WS fun _ V=>rP 3 [] (mc 0 U I) ?_
  obtain ⟨x,hx⟩:=aJ l.aj i om
  obtain ⟨xa,J⟩:=aJ az i om
  have Cx:(List.zipWith au.cells l.aj az)[i]? =some (au.cells x xa):=dF hx J
  refine rS (IA i U (aB 2 U) yV dc om om)<|rS (lM i 0 (dx.cells (dx.mk x.dw (bD.mk xa.1 x.bG.length xa.2))) U b_ (aB 2 U) Cx U dc U U) ?_
  have EQ:=(hin.Re _ _ _ hx J).2
  refine rS (CL (Iy x xa.1 xa.2 asm) (aC (show iJ _ (rd xa.1 x.bG.length 3 (x.bG.map cM.cells)).holds from (cU 3 U (bQ hx J (by simp [au.gd]))))<|aO) U)<|rP 1 [] I ?_
  refine RK V<|bW U (aW fun AB=>?_) (aX fun AB=>?_)
  ·refine cu<|aR<|KK AA<|aw<|rP 3 [] I ?_
   refine aH ?_
   have u:(vI (((i+1):Nat):Int))=(vI ((i:Int)+1)):=by exact cI om
   refine bq (K ⟨(i+1),⟨om,mh (P:=fun _ y=>eP y) F hx AB⟩⟩ _ _ _ U os (dG.cons U<|bw U u<|dG.nil _) (aQ [0,1,2,3,4]))
  refine WS fun _ W=>rP 1 [] I ?_
  refine RK W<|aq<|Q1 hQ U U U ?_
  exact cB (bI fun h=>AB (h.clock _ (aP hx))).symm
 refine bS<|ai<|ai<|aL<|KK O<|ao fun _ X=>WS fun _ Y=>rP 1 [] I ?_
 refine RK Y<|aI ?_
 have A:(0≤l.aa.length)∧(∀ (j:Nat) y,j<0→l.aa[j]? =some y→j_ l y):=by exact ⟨Nat.zero_le _,fun j y hj=>absurd hj (Nat.not_lt_zero _)⟩
 refine bZ (ι:={z:Nat // (z≤l.aa.length)∧(∀ (j:Nat) y,j<z→l.aa[j]? =some y→j_ l y)}) [1] [0,1,2,3,4] U U (fun z=>[(4,(vI (z.1:Int)))]) (fun z=>[]) (fun _=>rfl) (fun _=>rfl) (fun z=>l.aa.length-z.1) ⟨0,A⟩ (bu U) (aQ [0,1,2,3,4]) ?_
 clear A
 rintro ⟨m,⟨Cp,B⟩⟩ J22 L
 try dsimp only
 refine ao fun _ Z=>WS fun _ a=>rP 5 [] (mc 0 U I) ?_
 refine RK a<|bW U (aV fun A5=>?_) (aU fun A5=>?_)
 ·refine bS<|ai<|ai<|aL<|KK X<|ao fun _ e=>WS fun _ f=>rP 1 [] I ?_
  refine RK f<|aI ?_
  have A:(0≤l.aa.length)∧(∀ j,j<0→1≤lg l j):=by exact ⟨Nat.zero_le _,fun j hj=>absurd hj (Nat.not_lt_zero _)⟩
  refine bZ (ι:={z:Nat // (z≤l.aa.length)∧(∀ j,j<z→1≤lg l j)}) [1] [0,1,2,3,4] U U (fun z=>[(5,(vI (z.1:Int)))]) (fun z=>[]) (fun _=>rfl) (fun _=>rfl) (fun z=>l.aa.length-z.1) ⟨0,A⟩ (bu U) (aQ [0,1,2,3,4]) ?_
  clear A
  rintro ⟨n,⟨AO,C⟩⟩ J32 M
  try dsimp only
  have C2:=yz (P:=j_ l) om B
  refine ao fun _ g=>WS fun _ k=>rP 5 [] (mc 0 U I) ?_
  refine RK k<|bW U (aV fun A7=>?_) (aU fun A7=>?_)
  ·refine bS<|ai<|ai<|aL<|KK e<|WS fun _ s=>rP 1 [] I ?_
   refine RK s<|aq<|Q1 hQ U U U ?_
   exact cB (dN (y7 (by unfold eU; omega) (yz om F) (yz om B) (fun j hj=>C j om))).symm
  refine WK g<|ao fun _ o=>aI<|WS fun _ p=>eV 2 [] (mc 0 U I) U<|rS (CL (Ih l kA kC az cA cC bA bC (n:Int) hin htr asm om) (bk [1,2,3,4]) U)<|rP 1 [] I ?_
  refine RK p<|bW U (aV fun E=>?_) (aU fun E=>?_)
  ·refine cu<|aR<|KK o<|aw<|rP 3 [] I ?_
   refine aH ?_
   have w:(vI (((n+1):Nat):Int))=(vI ((n:Int)+1)):=by exact cI om
   refine bq (M ⟨(n+1),⟨om,fun j hj=>by rcases Nat.lt_or_ge j n with q|q; exact C j q; (obtain rfl:j=n:=by omega); simp only [Int.toNat_natCast] at E; omega⟩⟩ _ _ _ rfl os (dG.cons rfl<|bw rfl w<|dG.nil _) (aQ [0,1,2,3,4]))
  refine WS fun _ r=>rP 1 [] I ?_
  refine RK r<|aq<|Q1 hQ U U U ?_
  exact cB (bI fun h=>by have q:=h.Oy n om; simp only [Int.toNat_natCast] at E; omega).symm
 refine WK Z<|ao fun _ b=>aI<|ao fun _ H=>dj cj 24 kr<|kE 1 U<|dS (LP (bP.cells (bP.mk (bD.mk kA l.aS.length kC))) 0 U b_ U U U)<|dP 3 [] (mc 0 U I) ?_
 obtain ⟨y,hy⟩:=aJ l.aa m om
 have AC:=bM bJ.cells hy
 refine dS (IA m U (aB 4 U) uR dc om om)<|dS (o6 (m*4) U (aB 4 U) (Nat.mul_pos om dc) eD U)<|dS (lM m 0 (cH.cells y.ni) U b_ (aB 4 U) AC U dc U U)<|dS (CL (si l.aS kA kC y.ni asm asm) (bk [1]) U)<|dP 2 [] I ?_
 refine g7 (t:=77) U (aX fun G=>?_) (aW fun G=>?_)
 ·refine kE 13 U<|cD<|RK H<|aT U<|WS fun _ c=>rP 1 [] I ?_
  refine RK c<|aq<|Q1 hQ U U U ?_
  exact cB (bI fun h=>by have q:=h.re _ (aP hy); have q2:=q.2; first|exact G q.1|omega).symm
 refine lz 3 [] (mc 0 U I) U<|dS (IA m U (aB 4 U) uR dc om om)<|dS (o6 ((m*4)+3) U (aB 4 U) (Nat.mul_pos om dc) eD U)<|dS (gE m 3 (vI y.dU) U b_ (aB 4 U) AC U dc U)<|lz 4 [] (mc 0 U I) U<|dS (CL (iW y.dU 0 ((l.aj.length:Int)-1)) (aO) U)<|dP 2 [] I ?_
 refine cD<|RK H<|bW U (aW fun A6=>?_) (aX fun A6=>?_)
 ·refine cu<|aR<|KK b<|aw<|rP 3 [] I ?_
  refine aH ?_
  have v:(vI (((m+1):Nat):Int))=(vI ((m:Int)+1)):=by exact cI om
  refine bq (L ⟨(m+1),⟨om,mh (P:=fun _ y=>j_ l y) B hy ⟨G,om,om⟩⟩⟩ _ _ _ U os (dG.cons U<|bw U v<|dG.nil _) (aQ [0,1,2,3,4]))
 refine WS fun _ d=>rP 1 [] I ?_
 refine RK d<|aq<|Q1 hQ U U U ?_
 exact cB (bI fun h=>by have q:=h.re _ (aP hy); have q2:=q.2; first|exact G q.1|omega).symm
end
section
open Go.RowKit
theorem Bn (r:fu) (kA:OA) (kC:Nat) (az:List RA) (cA:OA) (cC:Nat) (bA:OA) (bC:Nat) (slA:OA) (slC:Nat) (drA:OA) (drC:Nat) (ha:List c_) (heA:OA) (heC:Nat) (hraw:uU r az ha):
 dL Tryz.prog 38 [(vA (eX.cells (yX r kA kC cA cC bA bC slA slC drA drC heA heC)))] [(rd kA r.ak.aS.length 9 (r.ak.aS.map ar.cells)),(rd cA r.ak.aj.length 2 (List.zipWith au.cells r.ak.aj az)),(dT (br au.gd r.ak.aj az)),(rd bA r.ak.aa.length 4 (r.ak.aa.map bJ.cells)),(rd slA r.bj.length 1 (r.bj.map iC)),(rd drA r.cq.length 1 (r.cq.map iC)),(rd heA r.aD.length 1 (List.zipWith cL r.aD ha)),(dT (br fj r.aD ha))] (vB (decide (mA r))):=by
 have AC:=hraw.line
 have A0:=hraw.iu
 have A2:=hraw.has
 have An:=hraw.ir
 have AO:=hraw.draw
 refine bH kr Tryz.func38 U U fun w0 Q hQ hN=>?_
 try dsimp only
 refine WS fun _ l=>eO U fun b2=>bE 1 U<|RK l<|ao fun _ m=>WS fun _ H=>bE 1 U<|rS (LP (cr.cells (jC r.ak kA kC cA cC bA bC)) 0 U b_ U U U)<|rS (CL (Kn r.ak kA kC az cA cC bA bC asm) (bk [1,2,3,4]) U)<|rP 1 [] I ?_
 refine bK (t:=8) U (aU fun k=>?_) (aV fun k=>?_)
 ·refine bE 17 U<|RK H<|aT U<|WS fun _ n=>rP 1 [] I ?_
  refine RK n<|aq<|Q1 hQ U U U ?_
  exact cB (dN (qd (.inl k))).symm
 refine rP 6 [] (mc 0 U I) ?_
 refine bK (t:=14) U (aU fun AB=>?_) (aV fun AB=>?_)
 ·refine bE 11 U<|RK H<|aT U<|WS fun _ o=>rP 1 [] I ?_
  refine RK o<|aq<|Q1 hQ U U U ?_
  exact cB (dN (qd (.inr om))).symm
 refine rP 6 [] (mc 0 U I) ?_
 refine bK (t:=20) U (aU fun f=>?_) (aV fun f=>?_)
 ·refine bE 5 U<|RK H<|aT U<|WS fun _ p=>rP 1 [] I ?_
  refine RK p<|aq<|Q1 hQ U U U ?_
  exact cB (dN (qd (.inr om))).symm
 refine rP 5 [] (mc 0 U I) ?_
 refine RK H<|cy U (aU fun h=>?_) (aV fun h=>?_)
 ·refine WS fun _ q=>rP 1 [] I ?_
  refine RK q<|aq<|Q1 hQ U U U ?_
  exact cB (dN (qd (.inr om))).symm
 refine WK m<|ao fun _ s=>WS fun _ N=>rP 1 [] I ?_
 refine RK N<|aI ?_
 have B:(0≤r.aD.length)∧(l4 r 0):=by exact ⟨Nat.zero_le _,CT⟩
 refine bZ (ι:={z:Nat // (z≤r.aD.length)∧(l4 r z)}) [1] [0,1,2,3,4,5,6,7,8] U U (fun z=>[(3,(vI (z.1:Int)))]) (fun z=>[]) (fun _=>rfl) (fun _=>rfl) (fun z=>r.aD.length-z.1) ⟨0,B⟩ (bu U) (aQ [0,1,2,3,4,5,6,7,8]) ?_
 clear B
 rintro ⟨i,⟨x,F⟩⟩ J11 L
 try dsimp only
 refine ao fun _ O=>WS fun _ P=>rP 5 [] (mc 0 U I) ?_
 refine RK P<|bW U (aV fun AB=>?_) (aU fun AB=>?_)
 ·refine bS<|ai<|ai<|aL<|KK s<|WS fun _ b=>rP 1 [] I ?_
  refine RK b<|aq<|Q1 hQ U U U ?_
  exact cB (bI (HM k om F om)).symm
 refine WK O<|ao fun _ R=>aI<|ao fun _ S=>WS fun _ T=>rP 3 [] (mc 0 U I) ?_
 obtain ⟨ht,D⟩:=aJ r.aD i om
 obtain ⟨A,C⟩:=aJ ha i om
 have E:(List.zipWith cL r.aD ha)[i]? =some (cL ht A):=dF D C
 refine rS (IA i U (aB 7 U) oz dc om om)<|rS (gE i 0 (vS A.1.1 ht.length A.1.2) U b_ (aB 7 U) E U dc U) ?_
 obtain ⟨A1,Ad,w⟩:=hraw.gH _ _ _ D C
 refine rP 2 [] I ?_
 refine RK T<|cy U (aU fun J=>?_) (aV fun J=>?_)
 ·refine WS fun _ AA=>rP 1 [] I ?_
  refine RK AA<|aq<|Q1 hQ U U U ?_
  exact cB (dN (Cv D J)).symm
 refine WK S<|WS fun _ V=>rP 1 [] I ?_
 refine RK V<|aI ?_
 have B:(0≤ht.length)∧(nN ht 0):=by exact ⟨Nat.zero_le _,Ce⟩
 refine bZ (ι:={z:Nat // (z≤ht.length)∧(nN ht z)}) [1,3] [0,1,2,3,4,5,6,7,8] U U (fun z=>[(4,(vI (z.1:Int)))]) (fun z=>[]) (fun _=>rfl) (fun _=>rfl) (fun z=>ht.length-z.1) ⟨0,B⟩ (bu U) (aQ [0,1,2,3,4,5,6,7,8]) ?_
 clear B
 rintro ⟨j,⟨y,G⟩⟩ J20 M
 try dsimp only
 refine ao fun _ W=>WS fun _ X=>eV 4 [] (mc 0 U I) U<|rS (IA i U (aB 7 U) oz dc om om)<|rS (gE i 0 (vS A.1.1 ht.length A.1.2) U b_ (aB 7 U) E U dc U)<|rP 2 [] I ?_
 refine RK X<|bW U (aV fun g=>?_) (aU fun g=>?_)
 ·refine bS<|ai<|ai<|aL<|aR<|KK R<|aw<|rP 3 [] I ?_
  refine aH ?_
  have e:(vI (((i+1):Nat):Int))=(vI ((i:Int)+1)):=by exact cI om
  refine bq (L ⟨(i+1),⟨om,Bu F D (Ek J G om)⟩⟩ _ _ _ U os (dG.cons U<|bw U e<|dG.nil _) (aQ [0,1,2,3,4,5,6,7,8]))
 refine WK W<|ao fun _ Y=>aI<|WS fun _ Z=>eV 3 [] (mc 0 U I) U<|rS (IA i U (aB 7 U) oz dc om om)<|rS (gE i 0 (vS A.1.1 ht.length A.1.2) U b_ (aB 7 U) E U dc U)<|rP 1 [] I ?_
 obtain ⟨d,hd⟩:=aJ ht j om
 obtain ⟨da,u⟩:=aJ A.2 j om
 have v:(List.zipWith ax.cells ht A.2)[j]? =some (ax.cells d da):=dF hd u
 refine rS (IA j U (show iJ _ (rd A.1.1 ht.length 7 (List.zipWith ax.cells ht A.2)).holds from (cU 8 U (bQ D C cx))) rr dc om om)<|rS (o6 ((j*7)+4) U (show iJ _ (rd A.1.1 ht.length 7 (List.zipWith ax.cells ht A.2)).holds from (cU 8 U (bQ D C cx))) (Nat.mul_pos om dc) eD U)<|rS (o6 (((j*7)+4)+2) U (show iJ _ (rd A.1.1 ht.length 7 (List.zipWith ax.cells ht A.2)).holds from (cU 8 U (bQ D C cx))) (Nat.mul_pos om dc) eD U)<|rS (gE j 6 (vS da.1 d.bx.ab.length da.2) U b_ (show iJ _ (rd A.1.1 ht.length 7 (List.zipWith ax.cells ht A.2)).holds from (cU 8 U (bQ D C cx))) v U dc U) ?_
 have A3:=w d (aP hd)
 refine rP 2 [] I ?_
 refine RK Z<|bW U (aV fun K=>?_) (aU fun K=>?_)
 ·refine cu<|aR<|KK Y<|aw<|rP 3 [] I ?_
  refine aH ?_
  have c:(vI (((j+1):Nat):Int))=(vI ((j:Int)+1)):=by exact cI om
  refine bq (M ⟨(j+1),⟨om,CR G hd K⟩⟩ _ _ _ U os (dG.cons U<|dG.cons U<|bw U c<|dG.nil _) (aQ [0,1,2,3,4,5,6,7,8]))
 refine WS fun _ a=>rP 1 [] I ?_
 refine RK a<|aq<|Q1 hQ U U U ?_
 exact cB (dN (Ej D hd K)).symm
end
section
open Go.RowKit
theorem iY (n lo hi:Int):
 dL Tryz.prog 60 [(vI n),(vI lo),(vI hi)] [] (vB (decide (lo≤n∧n≤hi))):=by
 refine bH kr Tryz.func60 U U fun D Q hQ hN=>?_
 try dsimp only
 refine WS fun _ B=>bE 1 U<|RK B<|WS fun _ A=>rP 4 [] I ?_
 refine bK (t:=10) U (aU fun C=>?_) (aV fun C=>?_)
 ·refine rP 5 [] I ?_
  refine RK A<|aq<|Q1 hQ U U U ?_
  exact cB (gR.2 om)
 refine rP 5 [] I ?_
 refine RK A<|aq<|Q1 hQ U U U ?_
 exact cB (bI om).symm
theorem FR (o fx:Bool) (tm:ag) (rv:cb):
 dL Tryz.prog 61 [(vA (aM.cells (aM.mk o fx tm rv)))] [] (vB (decide (o=false∧fx=false))):=by
 refine bH kr Tryz.func61 U U fun E Q hQ hN=>?_
 try dsimp only
 refine WS fun _ B=>eO U fun D=>bE 1 U<|RK B<|WS fun _ A=>rP 4 [] (mc 0 U I) ?_
 refine bU (t:=6) U (fun C=>?_) (fun C=>?_)
 ·rw [Bool.not_eq_false'] at C
  refine rP 5 [] I ?_
  refine RK A<|aq<|Q1 hQ U U U ?_
  clear hQ hN A B
  refine cB ?_
  (simp_all; done)
 rw [Bool.not_eq_true'] at C
 refine rP 5 [] (mc 0 U I) ?_
 refine RK A<|aq<|Q1 hQ U U U ?_
 clear hQ hN A B
 refine cB ?_
 (simp_all; done)
theorem JW (j:cK) (kA:OA) (kC:Nat) (az:List RA) (cA:OA) (cC:Nat) (bA:OA) (bC:Nat) (slA:OA) (slC:Nat) (drA:OA) (drC:Nat) (ha:List c_) (heA:OA) (heC:Nat) (faA:OA) (faC:Nat) (prA:OA) (prC:Nat) (hraw:oN j az ha):
 dL Tryz.prog 20 [(vA (ep.cells (nu j kA kC cA cC bA bC slA slC drA drC heA heC faA faC prA prC)))] [(rd kA j.Race.ak.aS.length 9 (j.Race.ak.aS.map ar.cells)),(rd cA j.Race.ak.aj.length 2 (List.zipWith au.cells j.Race.ak.aj az)),(dT (br au.gd j.Race.ak.aj az)),(rd bA j.Race.ak.aa.length 4 (j.Race.ak.aa.map bJ.cells)),(rd slA j.Race.bj.length 1 (j.Race.bj.map iC)),(rd drA j.Race.cq.length 1 (j.Race.cq.map iC)),(rd heA j.Race.aD.length 1 (List.zipWith cL j.Race.aD ha)),(dT (br fj j.Race.aD ha)),(rd faA j.aG.length 4 (j.aG.map aK.cells)),(rd prA j.aF.length 5 (j.aF.map aY.cells))] (vB (decide (nc j))):=by
 have E:=hraw.race
 have F:=hraw.nf
 have G:=hraw.np
 refine bH kr Tryz.func20 U U fun AA Q hQ hN=>?_
 try dsimp only
 refine WS fun _ D=>eO U fun H=>bE 1 U<|RK D<|WS fun _ B=>bE 1 U<|rS (LP (eX.cells (yX j.Race kA kC cA cC bA bC slA slC drA drC heA heC)) 0 U b_ U U U)<|rS (CL (Bn j.Race kA kC az cA cC bA bC slA slC drA drC ha heA heC asm) (bk [1,2,3,4,5,6,7,8]) U)<|rP 1 [] I ?_
 refine bK (t:=6) U (aU fun C=>?_) (aV fun C=>?_)
 ·refine rP 12 [] I ?_
  refine RK B<|aq<|Q1 hQ U U U ?_
  (exact cB (dN (show nc j from .inl (.inl C))).symm)
 refine rP 6 [] (mc 0 U I) ?_
 refine bK (t:=12) U (aU fun A=>?_) (aV fun A=>?_)
 ·refine rP 6 [] I ?_
  refine RK B<|aq<|Q1 hQ U U U ?_
  (exact cB (dN (show nc j from .inl (.inr A))).symm)
 refine rP 6 [] (mc 0 U I) ?_
 refine RK B<|aq<|Q1 hQ U U U ?_
 (exact cB (gR.2 (show _↔nc j from ⟨.inr,fun q=>Or.elim q (fun q=>Or.elim q (fun q=>absurd q C) (fun q=>absurd q A)) id⟩)))
end
section
open Go.RowKit
theorem BM (l:bp) (kA:OA) (kC:Nat) (az:List RA) (cA:OA) (cC:Nat) (bA:OA) (bC:Nat) (hin:dY l az):
 dL Tryz.prog 85 [(vA (cr.cells (jC l kA kC cA cC bA bC)))] [(rd kA l.aS.length 9 (l.aS.map ar.cells)),(rd cA l.aj.length 2 (List.zipWith au.cells l.aj az)),(dT (br au.gd l.aj az)),(rd bA l.aa.length 4 (l.aa.map bJ.cells))] (vI (dg l)):=by
 have N:=hin.qS
 have M:=hin.qW
 have K:=hin.nx
 have L:=hin.qU
 refine bH kr Tryz.func85 U U fun P Q hQ hN=>?_
 try dsimp only
 refine WS fun _ C=>eO U fun O=>bE 1 U<|RK C<|ao fun _ D=>WS fun _ E=>bE 1 U<|rS (LP (bP.cells (bP.mk (bD.mk kA l.aS.length kC))) 0 U b_ U U U)<|rS (CL (w5 l.aS kA kC asm) (bk [1]) U)<|rP 1 [] I ?_
 refine RK E<|cy U (fun A=>?_) (fun A=>?_)
 ·rw [Bool.not_eq_true'] at A
  refine WS fun _ F=>rP 1 [] I ?_
  refine RK F<|aq<|Q1 hQ U U U ?_
  exact cI (zM (by simpa using A)).symm
 rw [Bool.not_eq_false'] at A
 refine WK D<|ao fun _ G=>WS fun _ H=>eV 1 [] (mc 0 U I) U<|rS (CL (Oh l kA kC az cA cC bA bC hin asm) (bk [1,2,3,4]) U)<|rP 1 [] I ?_
 refine RK H<|cy U (aX fun B=>?_) (aW fun B=>?_)
 ·refine WS fun _ AA=>rP 1 [] I ?_
  refine RK AA<|aq<|Q1 hQ U U U ?_
  exact cI (rN A B).symm
 refine WK G<|WS fun _ J=>rP 1 [] I ?_
 refine RK J<|aq<|Q1 hQ U U U ?_
 exact cI (w7 A B).symm
theorem MY (l:bp) (kA:OA) (kC:Nat) (az:List RA) (cA:OA) (cC:Nat) (bA:OA) (bC:Nat) (s:aA) (hin:dY l az) (hok:lF l) (hs:(0≤s.fE∧s.fE≤(l.aa.length:Int)-1)∧0≤s.Read∧s.Read≤86400000):
 dL Tryz.prog 176 [(vA (cr.cells (jC l kA kC cA cC bA bC))),(vA (aA.cells s))] [(rd kA l.aS.length 9 (l.aS.map ar.cells)),(rd cA l.aj.length 2 (List.zipWith au.cells l.aj az)),(dT (br au.gd l.aj az)),(rd bA l.aa.length 4 (l.aa.map bJ.cells))] (vT [(vA (ag.cells (cG l s))),(vB (decide ((cG l s).Lo≤(cG l s).Hi)))]):=by
 have A0:=hin.qS
 have An:=hin.qW
 have AO:=hin.nx
 have Ad:=hin.qU
 refine bH kr Tryz.func176 U U fun w0 Q hQ hN=>?_
 try dsimp only
 refine WS fun _ i=>eO U fun b2=>eO U fun b3=>AL U ed fun b4=>rP 1 [] I ?_
 refine RK i<|ao fun _ j=>dy cj [11,12] [] [] [0,1,2,3,4,5,6] [] U U U U U<|eS U (FA 2 U eD U)<|eS U (L1 (vS cA l.aj.length cC) 2 U b_ U U)<|eS U (FA 3 U eD U)<|eS U (L1 (vS bA l.aa.length bC) 2 U b_ U U)<|eS U (FA 0 U eD U)<|eS U (L1 (vI s.fE) 1 U b_ U U) ?_
 obtain ⟨y,hy⟩:=aJ l.aa ((s.fE).toNat) om
 have w:=bM bJ.cells hy
 refine eS U (IA ((s.fE).toNat) U (aB 6 U) uR dc om om)<|eS U (o6 ((((s.fE).toNat)*4)+3) U (aB 6 U) (Nat.mul_pos om dc) eD U)<|eS U (gE ((s.fE).toNat) 3 (vI y.dU) U b_ (aB 6 U) w U dc U) ?_
 have A1:=(hok.re _ (aP hy)).2
 obtain ⟨x,hx⟩:=aJ l.aj ((y.dU).toNat) om
 obtain ⟨xa,J⟩:=aJ az ((y.dU).toNat) om
 have u:(List.zipWith au.cells l.aj az)[(y.dU).toNat]? =some (au.cells x xa):=dF hx J
 refine eS U (IA ((y.dU).toNat) U (aB 4 U) yV dc om om)<|eS U (lM ((y.dU).toNat) 0 (dx.cells (dx.mk x.dw (bD.mk xa.1 x.bG.length xa.2))) U b_ (aB 4 U) u U dc U U)<|eh U<|cf U fun T6 m=>AL U JR fun b7=>aH (m _ _ (aQ [1,2,3,4,5,6,7]) ?_)
 refine cf U fun T8 o=>fJ U OV U<|aH (o _ _ (aQ [1,2,3,4,5,6,7]) ?_)
 refine e8 U<|KK j<|WS fun _ k=>rP 2 [] I ?_
 refine RK k<|ao fun _ K=>aI ?_
 have A:(0≤(0:Int)∧(0:Int)≤(fz (fX x s.Read) 86400001))∧((fz (fX x s.Read) 86400001)≤(86400001:Int)∧(86400001:Int)≤86400001):=by (have Z:=iE (p:=fX x s.Read) (n:=86400001); omega)
 refine bZ (ι:={z:Int×Int // (0≤z.1∧z.1≤(fz (fX x s.Read) 86400001))∧((fz (fX x s.Read) 86400001)≤z.2∧z.2≤86400001)}) [2,3,4,6] [0,1,2,3,4,5,6,7] U U (fun z=>[(7,(vI z.1.1)),(8,(vI z.1.2))]) (fun z=>[]) (fun _=>rfl) (fun _=>rfl) (fun z=>(z.1.2-z.1.1).toNat) ⟨((0:Int),(86400001:Int)),A⟩ (bu U) (aQ [0,1,2,3,4,5,6,7]) ?_
 clear A
 rintro ⟨⟨a,b⟩,⟨H,AB⟩⟩ J11 F
 try dsimp only at H AB
 try dsimp only
 have B:=hok.clock _ (aP hx)
 have Z:=iE (p:=fX x s.Read) (n:=86400001)
 have Y:=iE (p:=fY x s.Read) (n:=86400001)
 refine ao fun _ L=>WS fun _ M=>rP 3 [] I ?_
 refine RK M<|cy U (aU fun c=>?_) (aV fun c=>?_)
 ·refine WK L<|aI<|WS fun _ N=>bE 3 U<|rS (BI U (uz om om om))<|bE 1 U<|RK N<|ao fun _ O=>dj cj 9 kr<|dP 3 [] (mc 0 U I) ?_
  refine dS (CL (B7 x xa.1 xa.2 ((a+b)/2) asm om) (aC (show iJ _ (rd xa.1 x.bG.length 3 (x.bG.map cM.cells)).holds from (cU 6 U (bQ hx J (by simp [au.gd]))))<|aO) U)<|dS (SX (sD (v:=(vI ((gr x ((a+b)/2)).Hi))) U U eD Ke U) U U) ?_
  have t:=od B (show 0≤(a+b)/2∧(a+b)/2≤90000000 by omega)
  refine dP 4 [] (mc 2 U I) ?_
  refine cD<|RK O<|cy U (aU fun g=>?_) (aV fun g=>?_)
  ·refine aw<|rP 2 [] I ?_
   refine aH<|aR ?_
   refine bq (F ⟨(a,((a+b)/2)),(by dsimp only; have hm:=km (r:=s.Read) B (x:=(a+b)/2) om om; rcases Int.lt_or_le ((a+b)/2) (fz (fX x s.Read) 86400001) with q|q; (have C:=hm.1 q; simp only [fX,decide_eq_false_iff_not] at C; omega); (have C:=hm.2.1 q; simp only [fX,decide_eq_true_eq] at C; omega))⟩ _ _ _ rfl (by simp only []; omega) (bu rfl) (aQ [0,1,2,3,4,5,6,7]))
  refine aw<|rP 3 [] I ?_
  refine aH<|aR ?_
  refine bq (F ⟨((((a+b)/2)+1),b),(by dsimp only; have hm:=km (r:=s.Read) B (x:=(a+b)/2) om om; rcases Int.lt_or_le ((a+b)/2) (fz (fX x s.Read) 86400001) with q|q; (have C:=hm.1 q; simp only [fX,decide_eq_false_iff_not] at C; omega); (have C:=hm.2.1 q; simp only [fX,decide_eq_true_eq] at C; omega))⟩ _ _ _ rfl (by simp only []; omega) (bu rfl) (aQ [0,1,2,3,4,5,6,7]))
 refine bS<|ai<|ai<|aL<|KK K<|WS fun _ P=>bE 2 U<|RK P<|WS fun _ R=>rP 2 [] I ?_
 refine RK R<|ao fun _ S=>aI ?_
 have A:(-1≤((-1):Int)∧((-1):Int)≤(fz (fY x s.Read) 86400001)-1)∧((fz (fY x s.Read) 86400001)-1≤(86400000:Int)∧(86400000:Int)≤86400000):=by (have Y:=iE (p:=fY x s.Read) (n:=86400001); omega)
 refine bZ (ι:={z:Int×Int // (-1≤z.1∧z.1≤(fz (fY x s.Read) 86400001)-1)∧((fz (fY x s.Read) 86400001)-1≤z.2∧z.2≤86400000)}) [2,3,4,6,10] [0,1,2,3,4,5,6,7] U U (fun z=>[(7,(vI z.1.1)),(8,(vI z.1.2))]) (fun z=>[]) (fun _=>rfl) (fun _=>rfl) (fun z=>(z.1.2-z.1.1).toNat) ⟨(((-1):Int),(86400000:Int)),A⟩ (bu U) (aQ [0,1,2,3,4,5,6,7]) ?_
 clear A
 rintro ⟨⟨d,e⟩,⟨D,E⟩⟩ J20 G
 try dsimp only at D E
 try dsimp only
 have B:=hok.clock _ (aP hx)
 have Z:=iE (p:=fX x s.Read) (n:=86400001)
 have Y:=iE (p:=fY x s.Read) (n:=86400001)
 refine ao fun _ T=>WS fun _ AA=>rP 3 [] I ?_
 refine RK AA<|bW U (aV fun f=>?_) (aU fun f=>?_)
 ·refine bS<|ai<|ai<|aL<|KK S<|WS fun _ X=>bE 2 U<|rS (SX (bf (xs:=[(0,.tmp 63),(1,.tmp 64)]) (cs:=(ag.cells (ag.mk a d))) U U (bg gO U)) U U)<|bE 3 U<|qT U cW U<|rP 1 [] I ?_
  refine RK X<|aq<|mj hQ [0] (mc 1 U I) U ?_
  have e0:cG l s=⟨a,d⟩:=by (unfold cG oG; rw [tT hy hx,show a=(fz (fX x s.Read) 86400001) by omega,show d=(fz (fY x s.Read) 86400001)-1 by omega])
  rw [e0]
 refine WK T<|aI<|WS fun _ V=>bE 4 U<|rS (BI U (uz om om om))<|bE 1 U<|RK V<|ao fun _ W=>dj cj 9 kr<|dP 3 [] (mc 0 U I) ?_
 refine dS (CL (B7 x xa.1 xa.2 (((d+e)+1)/2) asm om) (aC (show iJ _ (rd xa.1 x.bG.length 3 (x.bG.map cM.cells)).holds from (cU 6 U (bQ hx J (by simp [au.gd]))))<|aO) U)<|dS (SX (sD (v:=(vI ((gr x (((d+e)+1)/2)).Lo))) U U eD IX U) U U) ?_
 have t:=od B (show 0≤(d+e+1)/2∧(d+e+1)/2≤90000000 by omega)
 refine dP 4 [] (mc 2 U I) ?_
 refine cD<|RK W<|cy U (aU fun h=>?_) (aV fun h=>?_)
 ·refine aw<|rP 2 [] I ?_
  refine aH<|aR ?_
  refine bq (G ⟨((((d+e)+1)/2),e),(by dsimp only; have hm:=km (r:=s.Read) B (x:=(d+e+1)/2) om om; rcases Int.lt_or_le ((d+e+1)/2) (fz (fY x s.Read) 86400001) with q|q; (have C:=hm.2.2.1 q; simp only [fY,decide_eq_false_iff_not] at C; omega); (have C:=hm.2.2.2 q; simp only [fY,decide_eq_true_eq] at C; omega))⟩ _ _ _ rfl (by simp only []; omega) (bu rfl) (aQ [0,1,2,3,4,5,6,7]))
 refine aw<|rP 3 [] I ?_
 refine aH<|aR ?_
 refine bq (G ⟨(d,((((d+e)+1)/2)-1)),(by dsimp only; have hm:=km (r:=s.Read) B (x:=(d+e+1)/2) om om; rcases Int.lt_or_le ((d+e+1)/2) (fz (fY x s.Read) 86400001) with q|q; (have C:=hm.2.2.1 q; simp only [fY,decide_eq_false_iff_not] at C; omega); (have C:=hm.2.2.2 q; simp only [fY,decide_eq_true_eq] at C; omega))⟩ _ _ _ rfl (by simp only []; omega) (bu rfl) (aQ [0,1,2,3,4,5,6,7]))
end
section
open Go.RowKit
theorem pb (n lo hi:Int):
 dL Tryz.prog 111 [(vI n),(vI lo),(vI hi)] [] (vB (decide (lo≤n∧n≤hi))):=by
 refine bH kr Tryz.func111 U U fun D Q hQ hN=>?_
 try dsimp only
 refine WS fun _ B=>bE 1 U<|RK B<|WS fun _ A=>rP 4 [] I ?_
 refine bK (t:=10) U (aU fun C=>?_) (aV fun C=>?_)
 ·refine rP 5 [] I ?_
  refine RK A<|aq<|Q1 hQ U U U ?_
  exact cB (gR.2 om)
 refine rP 5 [] I ?_
 refine RK A<|aq<|Q1 hQ U U U ?_
 exact cB (bI om).symm
theorem FV (r:bT) (sgA:OA) (sgC:Nat):
 dL Tryz.prog 136 [(vA (cb.cells (ji r sgA sgC)))] [(rd sgA r.ab.length 2 (r.ab.map aA.cells))] (vB (decide (nq r))):=by
 refine bH kr Tryz.func136 U U fun F Q hQ hN=>?_
 try dsimp only
 refine WS fun _ B=>eO U fun E=>bE 1 U<|RK B<|WS fun _ A=>rP 4 [] (mc 0 U I) ?_
 refine bU (t:=6) U (aV fun C=>?_) (aU fun C=>?_)
 ·refine rP 11 [] I ?_
  refine RK A<|aq<|Q1 hQ U U U ?_
  simp only [nq]
  exact cB (bI om).symm
 refine rP 5 [] (mc 0 U I) ?_
 refine bU (t:=11) U (aV fun D=>?_) (aU fun D=>?_)
 ·refine rP 6 [] I ?_
  refine RK A<|aq<|Q1 hQ U U U ?_
  simp only [nq]
  exact cB (bI om).symm
 refine rP 6 [] (mc 0 U I) ?_
 refine RK A<|aq<|Q1 hQ U U U ?_
 simp only [nq]
 exact cB (gR.2 om)
theorem Nw (s:ag):
 dL Tryz.prog 137 [(vA (ag.cells s))] [] (vB (decide (mu s))):=by
 refine bH kr Tryz.func137 U U fun F Q hQ hN=>?_
 try dsimp only
 refine WS fun _ B=>eO U fun E=>bE 1 U<|RK B<|WS fun _ A=>rP 4 [] (mc 0 U I) ?_
 refine bU (t:=6) U (aV fun C=>?_) (aU fun C=>?_)
 ·refine rP 12 [] I ?_
  refine RK A<|aq<|Q1 hQ U U U ?_
  simp only [mu]
  exact cB (bI om).symm
 refine rP 7 [] (mc 0 U I) ?_
 refine bU (t:=13) U (aV fun D=>?_) (aU fun D=>?_)
 ·refine rP 5 [] I ?_
  refine RK A<|aq<|Q1 hQ U U U ?_
  simp only [mu]
  exact cB (bI om).symm
 refine rP 5 [] (mc 0 U I) ?_
 refine RK A<|aq<|Q1 hQ U U U ?_
 simp only [mu]
 exact cB (gR.2 om)
theorem BK (la:List Int) (laA:OA) (laC:Nat) (lb:List Int) (lbA:OA) (lbC:Nat) (h1:la.length≤1000000) (h2:lb.length≤1000000):
 dL Tryz.prog 37 [(vS laA la.length laC),(vS lbA lb.length lbC)] [(rd laA la.length 1 (la.map iC)),(rd lbA lb.length 1 (lb.map iC))] (vB (decide (la=lb))):=by
 refine bH kr Tryz.func37 U U fun V Q hQ hN=>?_
 try dsimp only
 refine WS fun _ J=>bE 1 U<|RK J<|ao fun _ K=>WS fun _ L=>rP 5 [] I ?_
 refine RK L<|cy U (aX fun hl=>?_) (aW fun hl=>?_)
 ·refine WS fun _ M=>rP 1 [] I ?_
  refine RK M<|aq<|Q1 hQ U U U ?_
  exact cB (bI (fun e=>by subst e; omega)).symm
 refine WK K<|ao fun _ N=>WS fun _ O=>rP 1 [] I ?_
 refine RK O<|aI ?_
 have A:(0≤la.length)∧(la.take 0=lb.take 0):=by simp
 refine bZ (ι:={z:Nat // (z≤la.length)∧(la.take z=lb.take z)}) [0,1] [0,1] U U (fun z=>[(5,(vI (z.1:Int)))]) (fun z=>[]) (fun _=>rfl) (fun _=>rfl) (fun z=>la.length-z.1) ⟨0,A⟩ (bu U) (aQ [0,1]) ?_
 clear A
 rintro ⟨i,⟨S,B⟩⟩ J7 AB
 try dsimp only
 refine ao fun _ P=>WS fun _ R=>rP 4 [] I ?_
 refine RK R<|bW U (aV fun H=>?_) (aU fun H=>?_)
 ·refine bS<|ai<|ai<|aL<|KK N<|WS fun _ F=>rP 1 [] I ?_
  refine RK F<|aq<|Q1 hQ U U U ?_
  exact cB (dN (yC om B om)).symm
 refine WK P<|ao fun _ C=>aI<|ao fun _ D=>dj cj 9 kr<|dP 2 [] I ?_
 obtain ⟨x,hx⟩:=aJ la i om
 have T:=bM iC hx
 refine dS (IA i U (aB 0 U) dk dc om om)<|dS (gE i 0 (vI x) U b_ (aB 0 U) T U dc U)<|dP 2 [] I ?_
 obtain ⟨y,hy⟩:=aJ lb i om
 have AA:=bM iC hy
 refine dS (IA i U (aB 1 U) dk dc om om)<|dS (gE i 0 (vI y) U b_ (aB 1 U) AA U dc U)<|dP 1 [] I ?_
 refine cD<|RK D<|cy U (aX fun h=>?_) (aW fun h=>?_)
 ·refine WS fun _ E=>rP 1 [] I ?_
  refine RK E<|aq<|Q1 hQ U U U ?_
  exact cB (bI (xA hx hy h)).symm
 refine cu<|aR<|KK C<|aw<|rP 3 [] I ?_
 refine aH ?_
 have G:(vI (((i+1):Nat):Int))=(vI ((i:Int)+1)):=by exact cI om
 refine bq (AB ⟨(i+1),⟨om,vl B hx hy h⟩⟩ _ _ _ U os (dG.cons U<|dG.cons U<|bw U G<|dG.nil _) (aQ [0,1]))
end
section
def gW (hi:Int→Int) (least:Nat→Int) (now:Int):Nat→List Int→List Int×Int
 |_,[]=>([],now)
 |b,x::xs=>((if 0≤x then min (gW hi least now (b+1) xs).2 (hi x) else (gW hi least now (b+1) xs).2)::(gW hi least now (b+1) xs).1,(if 0≤x then min (gW hi least now (b+1) xs).2 (hi x) else (gW hi least now (b+1) xs).2)-least b)
def gF (t:Int):List Int→Int
 |[]=>t
 |x::xs=>gF x xs
def kg (w:cg):Nat→Int→List Int→List Int→Prop
 |_,_,[],[]=>True
 |b,t,x::rs,y::fs=>(∃ o∈jK w b,o.1=x∧max (t+cO w b) o.2.Lo≤min o.2.Hi w.gh∧y=max (t+cO w b) o.2.Lo)∧kg w (b+1) y rs fs
 |_,_,_,_=>False
section
variable {w:cg} {hi:Int→Int} {least:Nat→Int} {now:Int}
theorem sH: ∀ (b:Nat) (rs:List Int),(gW hi least now b rs).1.length=rs.length
 |_,[]=>rfl
 |b,x::xs=>by simp only [gW,List.length_cons]; rw [sH]
theorem nM: ∀ (t:Int) (fs:List Int) (y:Int),gF t (fs++[y])=y
 |_,[],_=>rfl
 |t,x::fs,y=>nM x fs y
theorem BU: ∀ (t:Int) (fs:List Int) (y:Int),fs[fs.length-1]? =some y→gF t fs=y
 |t,[],y,h=>by simp at h
 |t,[x],y,h=>by simpa [gF] using h
 |t,x::x2::fs,y,h=>by
  show gF x (x2::fs)=y
  exact BU x (x2::fs) y (by simpa using h)
theorem uX: ∀ (b:Nat) (rs:List Int) (x:Int) (ss:List Int),(gW hi least now b (rs++x::ss)).1[rs.length]? =some (if 0≤x then min (gW hi least now (b+rs.length+1) ss).2 (hi x) else (gW hi least now (b+rs.length+1) ss).2)
 |b,[],x,ss=>by simp [gW]
 |b,z::rs,x,ss=>by
  have:=uX (b+1) rs x ss
  simp only [List.cons_append,gW,List.length_cons,List.getElem?_cons_succ]
  rw [this,show b+1+rs.length+1=b+(rs.length+1)+1 by omega]
theorem kj: ∀ (b:Nat) (t:Int) (rs fs:List Int),kg w b t rs fs→fs.length=rs.length
 |_,_,[],[],_=>rfl
 |b,t,x::rs,y::fs,h=>by simp [kj _ _ rs fs h.2]
 |_,_,[],_::_,h=>h.elim
 |_,_,_::_,[],h=>h.elim
theorem sQ: ∀ (b:Nat) (t:Int) (rs fs ss gs:List Int),fs.length=rs.length→(kg w b t (rs++ss) (fs++gs)↔kg w b t rs fs∧kg w (b+rs.length) (gF t fs) ss gs)
 |b,t,[],[],ss,gs,_=>by simp [kg,gF]
 |b,t,x::rs,y::fs,ss,gs,h=>by
  have ih:=sQ (b+1) y rs fs ss gs (by simpa using h)
  simp only [List.cons_append,kg,List.length_cons,gF]
  rw [ih,show b+1+rs.length=b+(rs.length+1) by omega,and_assoc]
 |_,_,[],_::_,_,_,h=>by simp at h
 |_,_,_::_,[],_,_,h=>by simp at h
theorem EI (b:List Int): ∀ t:aN,b.foldl (fun t g=>dM t (fV g)) t=dM t (db b):=by
 induction b with
 |nil=>intro t; exact (nI t).symm
 |cons x b ih=>
  intro t
  show b.foldl (fun t g=>dM t (fV g)) (dM t (fV x))=dM t (b.foldl (fun t g=>dM t (fV g)) (dM ⟨0,0⟩ (fV x)))
  rw [ih,ih]; simp only [dM,aN.mk.injEq]; omega
theorem sf (a b:List Int):db (a++b)=dM (db a) (db b):=by
 show (a++b).foldl _ _=_
 rw [List.foldl_append,EI]; rfl
theorem sh:db []=(⟨0,0⟩:aN):=rfl
theorem pY (l:List Int):dM (⟨0,0⟩:aN) (db l)=db l:=by simp [dM]
theorem tv (x:Int) (l:List Int):db (x::l)=dM (fV x) (db l):=by
 rw [show x::l=[x]++l from rfl,sf,show db [x]=fV x from (iU (l:=[])).trans (by rw [sh]; simp [dM])]
theorem uy: ∀ l:List Int,0≤(db l).right∧0≤(db l).e7∧(db l).right+(db l).e7=(l.length:Int)
 |[]=>by rw [sh]; simp
 |x::l=>by
  rw [tv]
  have:=vw x
  have:=uy l
  simp only [dM,List.length_cons]
  omega
/-- chains are what the watch goes through -/
theorem j5: ∀ (k b:Nat) (p q:aN×Int),q∈h_ w k b p↔ ∃ rs fs,rs.length=k∧kg w b p.2 rs fs∧q=(dM p.1 (db rs),gF p.2 fs):=by
 intro k
 induction k with
 |zero=>
  intro b p q
  simp only [h_,cv]
  constructor
  ·rintro rfl; exact ⟨[],[],rfl,trivial,by rw [sh,nI]; rfl⟩
  ·rintro ⟨rs,fs,A,B,rfl⟩
   have A:=ko A
   subst A
   have:=ko (kj _ _ _ _ B)
   subst this
   rw [sh,nI]; rfl
 |succ k ih=>
  intro b p q
  rw [jN]
  constructor
  ·rintro ⟨o,ho,p',e,h⟩
   obtain ⟨A,rfl⟩:=lj.1 e
   obtain ⟨rs,fs,B,C,rfl⟩:=(ih _ _ _).1 h
   refine ⟨o.1::rs,max (p.2+cO w b) o.2.Lo::fs,by simp [B],⟨⟨o,ho,U,A,U⟩,C⟩,?_⟩
   rw [tv]
   simp only [gF,dM,Prod.mk.injEq,aN.mk.injEq,and_true]; omega
  ·rintro ⟨rs,fs,A,B,rfl⟩
   cases rs with
   |nil=>simp at A
   |cons x rs=>
    cases fs with
    |nil=>exact B.elim
    |cons y fs=>
     obtain ⟨⟨o,ho,rfl,C,rfl⟩,D⟩:=B
     refine ⟨o,ho,_,lj.2 ⟨C,U⟩,(ih _ _ _).2 ⟨rs,fs,by simpa using A,D,?_⟩⟩
     rw [tv]
     simp only [gF,dM,Prod.mk.injEq,aN.mk.injEq,and_true]; omega
/-- what the reference's rows of last times know -/
structure K1 (w:cg) (hi:Int→Int) (least:Nat→Int) (now:Int):Prop where
 low: ∀ b,0≤cO w b
 least: ∀ b,b<w.n→least b=cO w b
 now:now=w.gh
 hi: ∀ b o,b<w.n→o∈jK w b→0≤o.1→o.2.Hi=hi o.1
 none_: ∀ b o,b<w.n→o∈jK w b→ ¬ 0≤o.1→o.2.Hi=w.gh
theorem xg (h:K1 w hi least now): ∀ (b:Nat) (rs:List Int),b+rs.length≤w.n→(gW hi least now b rs).2≤w.gh
 |_,[],_=>by simp only [gW]; exact Int.le_of_eq h.now
 |b,x::xs,hb=>by
  simp only [List.length_cons] at hb
  have B:=xg h (b+1) xs om
  have A:=h.low b
  rw [← h.least b om] at A
  simp only [gW]
  split<;>omega
theorem sw (h:K1 w hi least now): ∀ (b:Nat) (t:Int) (rs fs:List Int),b+rs.length≤w.n→t≤w.gh→kg w b t rs fs→t≤(gW hi least now b rs).2
 |_,t,[],[],_,ht,_=>by simp only [gW]; rw [h.now]; exact ht
 |b,t,x::rs,y::fs,hb,ht,hc=>by
  simp only [List.length_cons] at hb
  obtain ⟨⟨o,ho,rfl,D,rfl⟩,A⟩:=hc
  have B:=sw h (b+1) _ rs fs om om A
  have C:=h.least b om
  simp only [gW]
  split
  ·rename_i q
   have:=h.hi b o om ho q
   omega
  ·omega
 |_,_,[],_::_,_,_,hc=>hc.elim
 |_,_,_::_,[],_,_,hc=>hc.elim
theorem xr (h:K1 w hi least now): ∀ (b:Nat) (t t':Int) (rs fs:List Int),b+rs.length≤w.n→t≤t'→t'≤(gW hi least now b rs).2→kg w b t rs fs→ ∃ gs,kg w b t' rs gs
 |_,t,_,[],[],_,_,_,_=>⟨[],trivial⟩
 |b,t,t',x::rs,y::fs,hb,ht,he,hc=>by
  simp only [List.length_cons] at hb
  obtain ⟨⟨o,ho,rfl,E,rfl⟩,A⟩:=hc
  have C:=sw h (b+1) _ rs fs om om A
  have D:=h.least b om
  have F:=xg h (b+1) rs om
  simp only [gW] at he
  have B:max (t'+cO w b) o.2.Lo≤min o.2.Hi w.gh∧max (t'+cO w b) o.2.Lo≤(gW hi least now (b+1) rs).2:=by
   split at he
   ·rename_i q
    have:=h.hi b o om ho q
    omega
   ·rename_i q
    have:=h.none_ b o om ho q
    omega
  obtain ⟨gs,hg⟩:=xr h (b+1) _ (max (t'+cO w b) o.2.Lo) rs fs om om B.2 A
  exact ⟨_::gs,⟨o,ho,U,B.1,U⟩,hg⟩
 |_,_,_,[],_::_,_,_,_,hc=>hc.elim
 |_,_,_,_::_,[],_,_,_,hc=>hc.elim
theorem C7 (b:Nat) (t t':Int) (rs fs:List Int) (ht:t'≤t) (hc:kg w b t rs fs): ∃ gs,kg w b t' rs gs:=by
 have A:(dM ⟨0,0⟩ (db rs),gF t fs)∈h_ w rs.length b (⟨0,0⟩,t):=(j5 _ _ _ _).2 ⟨rs,fs,rfl,hc,rfl⟩
 clear A
 induction rs generalizing b t t' fs with
 |nil=>exact ⟨[],trivial⟩
 |cons x rs ih=>
  cases fs with
  |nil=>exact hc.elim
  |cons y fs=>
   obtain ⟨⟨o,ho,rfl,C,rfl⟩,B⟩:=hc
   obtain ⟨gs,hg⟩:=ih (b+1) _ (max (t'+cO w b) o.2.Lo) fs om B
   exact ⟨_::gs,⟨o,ho,U,om,U⟩,hg⟩
/-- a way, as it is asked for -/
structure OZ (w:cg) (hi:Int→Int) (least:Nat→Int) (now:Int) (y:dE):Prop where
 chain:kg w 0 w.Start y.gP y.iZ
 len:y.gP.length≤w.n
 last:y.my=(gW hi least now 0 y.gP).1
 may:l8 w (db y.gP)=true
theorem CV {k:Nat}:lf w (pO w k)=true↔ ∃ rs fs,rs.length=k∧kg w 0 w.Start rs fs∧l8 w (db rs)=true:=by
 unfold lf
 rw [List.any_eq_true]
 have e:=fun q=>(zA (w:=w) k 0 q)
 rw [Nat.zero_add] at e
 constructor
 ·rintro ⟨q,hq,hm⟩
  obtain ⟨p,hp,h⟩:=(e q).1 hq
  simp only [pO,cv] at hp
  subst hp
  obtain ⟨rs,fs,A,B,rfl⟩:=(j5 _ _ _ _).1 h
  refine ⟨rs,fs,A,B,?_⟩
  rwa [pY] at hm
 ·rintro ⟨rs,fs,A,B,C⟩
  refine ⟨_,(e _).2 ⟨((⟨0,0⟩:aN),w.Start),cv.2 U,(j5 _ _ _ _).2 ⟨rs,fs,A,B,U⟩⟩,?_⟩
  simp only [pY]; exact C
theorem KI (h:K1 w hi least now) (hs:w.Start≤w.gh) {b:Nat} (hb:b<w.n) {s t:Int}:DR w b s t↔ ∃ y,OZ w hi least now y∧ ∃ f e,y.gP[b]? =some s∧y.iZ[b]? =some f∧y.my[b]? =some e∧f≤t∧t≤e:=by
 have ef:=fun q=>(zA (w:=w) b 0 q)
 rw [Nat.zero_add] at ef
 constructor
 ·rintro ⟨p,hp,o,ho,rfl,⟨C,L⟩,k,hk,q,hq,hm⟩
  obtain ⟨Y,AB,hp⟩:=(ef p).1 hp
  simp only [pO,cv] at AB
  subst AB
  obtain ⟨rs,fs,K,D,rfl⟩:=(j5 _ _ _ _).1 hp
  obtain ⟨ss,gs,AA,E,rfl⟩:=(j5 _ _ _ _).1 hq
  simp only at C L D E hm
  obtain ⟨gs',J⟩:=C7 (b+1) t (max (gF w.Start fs+cO w b) o.2.Lo) ss gs C E
  have H:=kj _ _ _ _ D
  have T:=kj _ _ _ _ J
  have hc:kg w 0 w.Start (rs++o.1::ss) (fs++max (gF w.Start fs+cO w b) o.2.Lo::gs'):=(sQ _ _ _ _ _ _ H).2 ⟨D,by rw [Nat.zero_add,K]; exact ⟨⟨o,ho,rfl,om,rfl⟩,J⟩⟩
  have he:=sw h (b+1) t ss gs om om E
  have A:=uX (hi:=hi) (least:=least) (now:=now) 0 rs o.1 ss
  rw [Nat.zero_add,K] at A
  refine ⟨⟨rs++o.1::ss,fs++max (gF w.Start fs+cO w b) o.2.Lo::gs',(gW hi least now 0 (rs++o.1::ss)).1⟩,⟨hc,by simp; omega,U,?_⟩,max (gF w.Start fs+cO w b) o.2.Lo,_,?_,?_,A,C,?_⟩
  ·show l8 w (db (rs++o.1::ss))=true
   rw [show rs++o.1::ss=(rs++[o.1])++ss by simp,sf,iU]
   rwa [pY] at hm
  ·show (rs++o.1::ss)[b]? =some o.1
   rw [List.getElem?_append_right om,K,Nat.sub_self]; rfl
  ·show (fs++_::gs')[b]? =_
   rw [List.getElem?_append_right om,H,K,Nat.sub_self]; rfl
  ·split
   ·rename_i q
    have:=h.hi b o hb ho q
    omega
   ·exact he
 ·rintro ⟨y,hy,f,e,C,L,P,Q,V⟩
  obtain ⟨R,F,La⟩:=y
  obtain ⟨hc,hn,A,hm⟩:=hy
  simp only at C L P hc hn A hm
  have N:=(aZ.1 C).1
  have S:=kj _ _ _ _ hc
  have eR:R=R.take b++s::R.drop (b+1):=by rw [← (aZ.1 C).2]; exact (List.take_append_drop b R).symm.trans (by rw [List.drop_eq_getElem_cons N])
  have M:b<F.length:=by omega
  have eF:F=F.take b++f::F.drop (b+1):=by rw [← (aZ.1 L).2]; exact (List.take_append_drop b F).symm.trans (by rw [List.drop_eq_getElem_cons M])
  rw [eR,eF,sQ _ _ _ _ _ _ (by simp only [List.length_take]; omega)] at hc
  have O:(R.take b).length=b:=by rw [List.length_take]; omega
  rw [O,Nat.zero_add] at hc
  obtain ⟨D,⟨o,ho,rfl,W,rfl⟩,E⟩:=hc
  have B:=uX (hi:=hi) (least:=least) (now:=now) 0 (R.take b) o.1 (R.drop (b+1))
  rw [← eR,O,Nat.zero_add,← A,P] at B
  have B:=Option.some.inj B
  have G:t≤(gW hi least now (b+1) (R.drop (b+1))).2∧t≤min o.2.Hi w.gh:=by
   have X:=xg h (b+1) (R.drop (b+1)) (by rw [List.length_drop]; omega)
   split at B
   ·rename_i q
    have:=h.hi b o hb ho q
    omega
   ·rename_i q
    have:=h.none_ b o hb ho q
    omega
  obtain ⟨gs,J⟩:=xr h (b+1) _ t (R.drop (b+1)) (F.drop (b+1)) (by rw [List.length_drop]; omega) Q G.1 E
  refine ⟨(dM ⟨0,0⟩ (db (R.take b)),gF w.Start (F.take b)),(ef _).2 ⟨((⟨0,0⟩:aN),w.Start),cv.2 U,(j5 _ _ _ _).2 ⟨_,_,O,D,U⟩⟩,o,ho,U,⟨Q,G.2⟩,(R.drop (b+1)).length,by rw [List.length_drop]; omega,_,(j5 _ _ _ _).2 ⟨_,gs,U,J,U⟩,?_⟩
  show l8 w (dM (dM (dM ⟨0,0⟩ (db (R.take b))) (fV o.1)) (db (R.drop (b+1))))=true
  rw [pY,← iU,← sf,show R.take b++[o.1]++R.drop (b+1)=R from by rw [List.append_assoc]; exact eR.symm]
  exact hm
end
noncomputable def Mc (l:bp) (r:bT) (x:Int):Int:=match r.ab[x.toNat]? with
 |some s=>(cG l s).Hi
 |none=>0
theorem D4 {l:bp} {r:bT} {x:Int} {s:aA} (h:r.ab[x.toNat]? =some s):Mc l r x=(cG l s).Hi:=by unfold Mc; rw [h]
noncomputable def jz (l:bp) (r:bT) (rs:List Int):List Int:=(gW (Mc l r) (cZ l) r.gh 0 rs).1
noncomputable def po (l:bp) (r:bT) (n:Nat) (t i:Int):Option Int:=
 if i<0 then (if t≤r.gh then some t else none) else match r.ab[i.toNat]? with
  |some s=>if (s.fE=(n:Int)∧(cG l s).Lo≤(cG l s).Hi)∧max t (cG l s).Lo≤min r.gh (cG l s).Hi then some (max t (cG l s).Lo) else none
  |none=>none
noncomputable def g9 (l:bp) (r:bT) (rs fs:List Int):List dE:=if (r.ab.length:Int)-(db rs).right≤l.fO then [⟨rs,fs,jz l r rs⟩] else []
noncomputable def iv (l:bp) (r:bT):Nat→List Int→List Int→List dE
 |0,rs,fs=>if l.dq<(db rs).e7 then [] else g9 l r rs fs
 |k+1,rs,fs=>if l.dq<(db rs).e7 then [] else g9 l r rs fs++(List.range (r.ab.length+1)).flatMap fun (j:Nat)=>match po l r rs.length (gF r.Start fs+cZ l rs.length) ((j:Int)-1) with
  |some t=>iv l r k (rs++[(j:Int)-1]) (fs++[t])
  |none=>[]
noncomputable def EO (l:bp) (r:bT) (k:Nat) (rs fs:List Int) (j:Nat):List dE:=g9 l r rs fs++(List.range j).flatMap fun (j:Nat)=>match po l r rs.length (gF r.Start fs+cZ l rs.length) ((j:Int)-1) with
 |some t=>iv l r k (rs++[(j:Int)-1]) (fs++[t])
 |none=>[]
noncomputable def iB (l:bp) (r:bT) (k:Nat) (rs fs:List Int) (j:Nat):List dE:=(List.range j).flatMap fun (j:Nat)=>match po l r rs.length (gF r.Start fs+cZ l rs.length) ((j:Int)-1) with
 |some t=>iv l r k (rs++[(j:Int)-1]) (fs++[t])
 |none=>[]
section
variable {l:bp} {r:bT} {k j:Nat} {rs fs:List Int} {t:Int}
theorem r_:EO l r k rs fs j=g9 l r rs fs++iB l r k rs fs j:=rfl
theorem nP (h:po l r rs.length (gF r.Start fs+cZ l rs.length) ((j:Int)-1)=some t):iB l r k rs fs (j+1)=iB l r k rs fs j++iv l r k (rs++[(j:Int)-1]) (fs++[t]):=by
 unfold iB; rw [List.range_succ,List.flatMap_append]; simp [h]
theorem qZ (h:po l r rs.length (gF r.Start fs+cZ l rs.length) ((j:Int)-1)=none):iB l r k rs fs (j+1)=iB l r k rs fs j:=by
 unfold iB; rw [List.range_succ,List.flatMap_append]; simp [h]
theorem nZ (h:l.dq<(db rs).e7):iv l r k rs fs=[]:=by cases k<;>exact if_pos h
theorem oe (h: ¬ l.dq<(db rs).e7):iv l r 0 rs fs=g9 l r rs fs:=if_neg h
theorem ov (h: ¬ l.dq<(db rs).e7):iv l r (k+1) rs fs=EO l r k rs fs (r.ab.length+1):=if_neg h
theorem Cr {n:Nat} (hn:n<l.aa.length) (hl:0≤cZ l n) (ht:r.Start≤t) {i y:Int} (hi: -1≤i):po l r n (t+cZ l n) i=some y↔ ∃ o∈jK (cQ l r) n,o.1=i∧max (t+cO (cQ l r) n) o.2.Lo≤min o.2.Hi (cQ l r).gh∧y=max (t+cO (cQ l r) n) o.2.Lo:=by
 rw [qx hn]
 have hw:(cQ l r).gh=r.gh:=rfl
 unfold po
 constructor
 ·intro h
  split at h
  ·rename_i B
   split at h
   ·cases h
    exact ⟨(-1,⟨r.Start,r.gh⟩),(rR hn).2 (.inl U),by simp only; omega,by simp only; omega,by simp only; omega⟩
   ·cases h
  ·rename_i B
   split at h
   ·rename_i s hs
    split at h
    ·rename_i q
     cases h
     exact ⟨((i.toNat:Nat),cG l s),(rR hn).2 (.inr ⟨i.toNat,(aZ.1 hs).1,s,hs,q.1,U⟩),by simp only; omega,by simp only; omega,U⟩
    ·cases h
   ·cases h
 ·rintro ⟨o,ho,rfl,A,rfl⟩
  rcases (rR hn).1 ho with rfl|⟨k,hk,s,hs,q,rfl⟩
  ·simp only at A ⊢
   rw [if_pos om,if_pos om]
   congr 1; omega
  ·simp only at A ⊢
   rw [if_neg om,Int.toNat_natCast,hs]
   simp only
   rw [if_pos ⟨q,om⟩]
theorem Ju (hl: ∀ n,n<l.aa.length→0≤cZ l n): ∀ (k:Nat) (rs fs:List Int) (y:dE),rs.length+k=l.aa.length→fs.length=rs.length→r.Start≤gF r.Start fs→
 (y∈iv l r k rs fs↔ ∃ ss gs,kg (cQ l r) rs.length (gF r.Start fs) ss gs∧ss.length≤k∧y=⟨rs++ss,fs++gs,jz l r (rs++ss)⟩∧l8 (cQ l r) (db (rs++ss))=true):=by
 have D: ∀ (rs fs:List Int) (y:dE),¬ l.dq<(db rs).e7→(y∈g9 l r rs fs↔y=⟨rs++[],fs++[],jz l r (rs++[])⟩∧l8 (cQ l r) (db (rs++[]))=true):=by
  intro rs fs y hm
  unfold g9
  rw [List.append_nil,List.append_nil]
  have e:l8 (cQ l r) (db rs)=true↔(r.ab.length:Int)-(db rs).right≤l.fO:=by
   unfold l8
   rw [decide_eq_true_eq]
   exact ⟨fun q=>q.2,fun q=>⟨by have:(cQ l r).dq=l.dq:=rfl; omega,q⟩⟩
  split
  ·rename_i q
   rw [cv]
   exact ⟨fun h=>⟨h,e.2 q⟩,fun h=>h.1⟩
  ·rename_i q
   exact ⟨fun h=>(by cases h),fun h=>absurd (e.1 h.2) q⟩
 have Du: ∀ (rs ss:List Int),l.dq<(db rs).e7→ ¬ l8 (cQ l r) (db (rs++ss))=true:=by
  intro rs ss h q
  unfold l8 at q
  have:=(of_decide_eq_true q).1
  rw [sf] at this
  have C:=uy ss
  simp only [dM] at this
  have:(cQ l r).dq=l.dq:=rfl
  omega
 intro k
 induction k with
 |zero=>
  intro rs fs y hn hf hs
  by_cases hm:l.dq<(db rs).e7
  ·rw [nZ hm]
   exact ⟨fun h=>(by cases h),fun ⟨ss,gs,_,_,_,q⟩=>absurd q (Du rs ss hm)⟩
  ·rw [oe hm,D _ _ _ hm]
   constructor
   ·rintro ⟨B,C⟩; exact ⟨[],[],trivial,sm,B,C⟩
   ·rintro ⟨ss,gs,B,C,E,F⟩
    have e:=ko (Nat.le_zero.1 C)
    subst e
    have e:=ko (kj _ _ _ _ B)
    subst e
    exact ⟨E,F⟩
 |succ k ih=>
  intro rs fs y hn hf hs
  by_cases hm:l.dq<(db rs).e7
  ·rw [nZ hm]
   exact ⟨fun h=>(by cases h),fun ⟨ss,gs,_,_,_,q⟩=>absurd q (Du rs ss hm)⟩
  ·rw [ov hm]
   unfold EO
   rw [gu,D _ _ _ hm,List.mem_flatMap]
   have A: ∀ (x y:Int),(rs++[x]).length+k=l.aa.length∧(fs++[y]).length=(rs++[x]).length:=fun x y=>by simp; omega
   constructor
   ·rintro (⟨B,C⟩|⟨j,hj,h⟩)
    ·exact ⟨[],[],trivial,sm,B,C⟩
    ·cases e:po l r rs.length (gF r.Start fs+cZ l rs.length) ((j:Int)-1) with
     |none=>rw [e] at h; cases h
     |some t=>
      rw [e] at h
      simp only at h
      obtain ⟨o,ho,B,C,E⟩:=(Cr om (hl _ om) hs om).1 e
      have G:r.Start≤t:=by
       have:=hl rs.length om
       rw [qx om] at E
       omega
      obtain ⟨ss,gs,F,J,H,AA⟩:=(ih _ _ y (A _ t).1 (A _ t).2 (by rw [nM]; exact G)).1 h
      rw [nM,List.length_append] at F
      refine ⟨((j:Int)-1)::ss,t::gs,⟨⟨o,ho,B,C,E⟩,F⟩,by simp; omega,by simpa using H,by simpa using AA⟩
   ·rintro ⟨ss,gs,B,C,E,F⟩
    cases ss with
    |nil=>
     have e:=ko (kj _ _ _ _ B)
     subst e
     exact .inl ⟨E,F⟩
    |cons x ss=>
     cases gs with
     |nil=>exact B.elim
     |cons t gs=>
      obtain ⟨⟨o,ho,rfl,J,H⟩,AA⟩:=B
      right
      have hx: -1≤o.1∧o.1<(r.ab.length:Int):=by
       rcases (rR om).1 ho with rfl|⟨k,hk,s,hs,q,rfl⟩
       ·simp only; omega
       ·simp only; omega
      have G:r.Start≤t:=by
       have:=hl rs.length om
       rw [qx om] at H
       omega
      have K:((o.1+1).toNat:Int)-1=o.1:=by omega
      refine ⟨(o.1+1).toNat,List.mem_range.2 om,?_⟩
      rw [K,(Cr om (hl _ om) hs om).2 ⟨o,ho,rfl,J,H⟩]
      simp only
      refine (ih _ _ y (A _ t).1 (A _ t).2 (by rw [nM]; exact G)).2 ⟨ss,gs,?_,?_,?_,?_⟩
      ·rw [nM,List.length_append]; exact AA
      ·simp only [List.length_cons] at C; omega
      ·simpa using E
      ·simpa using F
end
theorem zV {l:bp} {r:bT} {rs fs:List Int} (h:(r.ab.length:Int)-(db rs).right≤l.fO):g9 l r rs fs=[⟨rs,fs,jz l r rs⟩]:=if_pos h
theorem yg {l:bp} {r:bT} {rs fs:List Int} (h: ¬ (r.ab.length:Int)-(db rs).right≤l.fO):g9 l r rs fs=[]:=if_neg h
noncomputable def eZ (l:bp) (r:bT) (i:Nat):List ag:=(r.ab.take i).map (cG l)
noncomputable def fG (l:bp) (r:bT) (i:Nat):List Bool:=(r.ab.take i).map fun s=>decide ((cG l s).Lo≤(cG l s).Hi)
section
variable {l:bp} {r:bT} {i n:Nat} {s:aA} {rs:List Int}
theorem DD (h:r.ab[i]? =some s):eZ l r (i+1)=eZ l r i++[cG l s]:=by unfold eZ; rw [List.take_add_one,h,List.map_append]; rfl
theorem Ev (h:r.ab[i]? =some s):fG l r (i+1)=fG l r i++[decide ((cG l s).Lo≤(cG l s).Hi)]:=by unfold fG; rw [List.take_add_one,h,List.map_append]; rfl
theorem se (h:i≤r.ab.length):(eZ l r i).length=i:=by unfold eZ; rw [List.length_map,List.length_take]; omega
theorem vh (h:i≤r.ab.length):(fG l r i).length=i:=by unfold fG; rw [List.length_map,List.length_take]; omega
theorem ID {k:Nat} {z:ag} (hs:r.ab[k]? =some s) (hz:(eZ l r r.ab.length)[k]? =some z):z=cG l s:=by
 unfold eZ at hz
 rw [List.take_length,gf,hs] at hz
 exact (Option.some.inj hz).symm
theorem Ir {k:Nat} {z:ag} (hz:(eZ l r r.ab.length)[k]? =some z): ∃ s,r.ab[k]? =some s∧z=cG l s:=by
 unfold eZ at hz
 rw [List.take_length,gf] at hz
 cases h:r.ab[k]? with
 |none=>rw [h] at hz; cases hz
 |some s=>rw [h] at hz; exact ⟨s,rfl,(Option.some.inj hz).symm⟩
theorem Ch {k:Nat} {z:Bool} (hs:r.ab[k]? =some s) (hz:(fG l r r.ab.length)[k]? =some z):z=true↔(cG l s).Lo≤(cG l s).Hi:=by
 unfold fG at hz
 rw [List.take_length,gf,hs] at hz
 rw [← Option.some.inj hz]
 exact decide_eq_true_iff
theorem yo (l:bp) (s:aA):(0≤(cG l s).Lo∧(cG l s).Lo≤86400001)∧ -1≤(cG l s).Hi∧(cG l s).Hi≤86400000:=by
 have A:=iE (p:=fX (qz l s) s.Read) (n:=86400001)
 have B:=iE (p:=fY (qz l s) s.Read) (n:=86400001)
 unfold cG oG
 simp only
 omega
/-- the last times from a beam on -/
noncomputable def jV (l:bp) (r:bT) (rs:List Int) (j:Nat):List Int×Int:=gW (Mc l r) (cZ l) r.gh j (rs.drop j)
noncomputable def jU (l:bp) (r:bT) (rs:List Int) (j:Nat):List Int:=List.replicate j 0++(jV l r rs j).1
noncomputable def uY (l:bp) (r:bT) (rs:List Int) (j:Nat) (x:Int):Int:=if 0≤x then min (jV l r rs j).2 (Mc l r x) else (jV l r rs j).2
theorem vg:jV l r rs rs.length=([],r.gh):=by unfold jV; rw [List.drop_length]; rfl
theorem Gj:jU l r rs rs.length=List.replicate rs.length 0:=by unfold jU; rw [vg]; simp
theorem DG:jU l r rs 0=jz l r rs:=by unfold jU jV jz; simp
theorem qf {j:Nat} {x:Int} (hj:0<j) (hx:rs[j-1]? =some x):jV l r rs (j-1)=(uY l r rs j x::(jV l r rs j).1,uY l r rs j x-cZ l (j-1)):=by
 unfold jV uY
 have hb:=(aZ.1 hx).1
 rw [List.drop_eq_getElem_cons hb,(aZ.1 hx).2,show j-1+1=j by omega]
 simp only [gW]
 rw [show j-1+1=j by omega]
 rfl
theorem G6 {j:Nat} (h:j≤rs.length):(jU l r rs j).length=rs.length:=by unfold jU jV; rw [List.length_append,List.length_replicate,sH,List.length_drop]; omega
theorem zS {j:Nat} {x:Int} (hj:0<j) (hx:rs[j-1]? =some x):(jU l r rs j).set (j-1) (uY l r rs j x)=jU l r rs (j-1):=by
 unfold jU
 rw [qf hj hx]
 simp only
 obtain ⟨k,rfl⟩: ∃ k,j=k+1:=⟨j-1,om⟩
 rw [Nat.add_sub_cancel,List.replicate_succ',List.append_assoc,List.set_append_right _ _ sm,List.length_replicate,Nat.sub_self]
 rfl
theorem Fy (hr:0≤r.gh∧r.gh≤86400000) (hl: ∀ b,b<rs.length→0≤cZ l b∧cZ l b≤500000000) (hrs: ∀ x∈rs,0≤x→x<(r.ab.length:Int)): ∀ (d j:Nat),j+d=rs.length→(-1-500000000*(d:Int))≤(jV l r rs j).2∧(jV l r rs j).2≤86400000
 |0,j,h=>by
  obtain rfl:j=rs.length:=by omega
  rw [vg]; simp only; omega
 |d+1,j,h=>by
  have ih:=Fy hr hl hrs d (j+1) om
  have hx:rs[j+1-1]? =some (rs[j]'om):=by rw [Nat.add_sub_cancel]; exact fg _
  have e:=qf (l:=l) (r:=r) (j:=j+1) om hx
  rw [Nat.add_sub_cancel] at e
  rw [e]
  simp only
  have A:=hl j om
  unfold uY
  split
  ·rename_i q
   have B:=hrs _ (List.getElem_mem (by omega:j<rs.length)) q
   obtain ⟨s,hs⟩: ∃ s,r.ab[(rs[j]'om).toNat]? =some s:=⟨r.ab[(rs[j]'om).toNat]'om,fg _⟩
   rw [D4 hs]
   have C:=yo l s
   omega
  ·omega
theorem JL {t i:Int} (hi:i<0):(t≤r.gh→po l r n t i=some t)∧(¬ t≤r.gh→po l r n t i=none):=by
 unfold po; rw [if_pos hi]; exact ⟨fun h=>if_pos h,fun h=>if_neg h⟩
theorem JK {t i:Int} (hi: ¬ i<0) (hs:r.ab[i.toNat]? =some s) (hb:s.fE=(n:Int)) (hw:(cG l s).Lo≤(cG l s).Hi):(max t (cG l s).Lo≤min r.gh (cG l s).Hi→po l r n t i=some (max t (cG l s).Lo))∧(¬ max t (cG l s).Lo≤min r.gh (cG l s).Hi→po l r n t i=none):=by
 unfold po; rw [if_neg hi,hs]
 exact ⟨fun h=>if_pos ⟨⟨hb,hw⟩,h⟩,fun h=>if_neg fun q=>h q.2⟩
theorem xT {t i:Int} (hi: ¬ i<0) (hs:r.ab[i.toNat]? =some s) (hb: ¬ (s.fE=(n:Int)∧(cG l s).Lo≤(cG l s).Hi)):po l r n t i=none:=by
 unfold po; rw [if_neg hi,hs]
 exact if_neg fun q=>hb q.1
theorem uQ {x:Int} (hx:rs[i]? =some x):(db (rs.take (i+1))).right=(db (rs.take i)).right+(if 0≤x then 1 else 0):=by
 rw [mw hx,iU]
 unfold fV
 simp only [dM]
 by_cases h:x<0
 ·rw [if_pos h,if_neg om]
 ·rw [if_neg h,if_pos om]
end
theorem w8 {l:bp} {r:bT} {rs fs:List Int}:(g9 l r rs fs).length≤1:=by unfold g9; split<;>simp
theorem xp {l:bp} {r:bT} (hr:r.ab.length≤10): ∀ (k:Nat) (rs fs:List Int),(iv l r k rs fs).length≤12^(k+1)
 |0,rs,fs=>by
  unfold iv
  split
  ·simp
  ·have:=w8 (l:=l) (r:=r) (rs:=rs) (fs:=fs); omega
 |k+1,rs,fs=>by
  unfold iv
  split
  ·simp
  ·rw [List.length_append]
   have B:=w8 (l:=l) (r:=r) (rs:=rs) (fs:=fs)
   have A: ∀ j,(iB l r k rs fs j).length≤j*12^(k+1):=by
    intro j
    induction j with
    |zero=>simp [iB]
    |succ j ih=>
     cases e:po l r rs.length (gF r.Start fs+cZ l rs.length) ((j:Int)-1) with
     |none=>rw [qZ e,Nat.succ_mul]; exact Nat.le_trans ih (Nat.le_add_right _ _)
     |some t=>rw [nP e,List.length_append,Nat.succ_mul]; exact Nat.add_le_add ih (xp hr k (rs++[(j:Int)-1]) (fs++[t]))
   have C:=A (r.ab.length+1)
   have D:(r.ab.length+1)*12^(k+1)≤11*12^(k+1):=Nat.mul_le_mul_right _ om
   have E:0<12^(k+1):=Nat.pow_pos dc
   have F:12^(k+1+1)=12*12^(k+1):=by rw [Nat.pow_succ,Nat.mul_comm]
   show (g9 l r rs fs).length+(iB l r k rs fs (r.ab.length+1)).length≤_
   omega
theorem K2 {l:bp} {r:bT} (hr:r.ab.length≤10) {k j:Nat} {rs fs:List Int} (hk:k≤5) (hj:j≤11):(iB l r k rs fs j).length≤40000000:=by
 have A: ∀ j,(iB l r k rs fs j).length≤j*12^(k+1):=by
  intro j
  induction j with
  |zero=>simp [iB]
  |succ j ih=>
   cases e:po l r rs.length (gF r.Start fs+cZ l rs.length) ((j:Int)-1) with
   |none=>rw [qZ e,Nat.succ_mul]; exact Nat.le_trans ih (Nat.le_add_right _ _)
   |some t=>rw [nP e,List.length_append,Nat.succ_mul]; exact Nat.add_le_add ih (xp hr k (rs++[(j:Int)-1]) (fs++[t]))
 have C:=A j
 have B:12^(k+1)≤12^6:=Nat.pow_le_pow_right dc om
 have D:j*12^(k+1)≤11*12^6:=Nat.mul_le_mul hj B
 omega
theorem vQ {l:bp} {r:bT} (hr:r.ab.length≤10) {k:Nat} {rs fs:List Int} (hk:k≤6):(iv l r k rs fs).length≤40000000:=by
 have A:=xp hr k rs fs (l:=l)
 have B:12^(k+1)≤12^7:=Nat.pow_le_pow_right dc om
 omega
noncomputable def qR (l:bp) (r:bT):List dE:=iv l r l.aa.length [] []
section
variable {l:bp} {r:bT}
theorem mE:(cQ l r).n=l.aa.length:=dh
theorem OB (hle:dg l=0) (hr:er l r):K1 (cQ l r) (Mc l r) (cZ l) r.gh:=by
 obtain ⟨ht,B⟩:=du hle
 refine ⟨fun b=>((lL ht B hr).cO b).1,fun b hb=>(qx (by rw [mE] at hb; exact hb)).symm,U,fun b o hb ho A=>?_,fun b o hb ho A=>?_⟩
 ·rw [mE] at hb
  rcases (rR hb).1 ho with rfl|⟨k,hk,s,hs,q,rfl⟩
  ·simp only at A; omega
  ·exact (D4 (by simpa using hs)).symm
 ·rw [mE] at hb
  rcases (rR hb).1 ho with rfl|⟨k,hk,s,hs,q,rfl⟩
  ·rfl
  ·simp only at A; omega
theorem qa (hle:dg l=0) (hr:er l r) {y:dE}:y∈qR l r↔OZ (cQ l r) (Mc l r) (cZ l) r.gh y:=by
 obtain ⟨ht,D⟩:=du hle
 have hl: ∀ n,n<l.aa.length→0≤cZ l n:=fun n hn=>by have:=mo ht D (i:=n) hn; omega
 unfold qR
 rw [Ju hl _ _ _ _ sm rfl (Int.le_refl _)]
 constructor
 ·rintro ⟨ss,gs,B,A,rfl,C⟩
  exact ⟨B,by rw [mE]; exact A,U,C⟩
 ·rintro ⟨B,A,E,C⟩
  rw [mE] at A
  exact ⟨y.gP,y.iZ,B,A,by rw [List.nil_append,List.nil_append]; unfold jz; rw [← E],C⟩
theorem I5 (hle:dg l=0) (hr:er l r) {k:Nat} (hk:k≤l.aa.length):((qR l r).any fun y=>decide (y.gP.length=k))=lf (cQ l r) (pO (cQ l r) k):=by
 rw [Bool.eq_iff_iff,CV,List.any_eq_true]
 constructor
 ·rintro ⟨y,hy,e⟩
  have h:=(qa hle hr).1 hy
  exact ⟨y.gP,y.iZ,of_decide_eq_true e,h.chain,h.may⟩
 ·rintro ⟨rs,fs,e,A,B⟩
  exact ⟨⟨rs,fs,(gW (Mc l r) (cZ l) r.gh 0 rs).1⟩,(qa hle hr).2 ⟨A,by rw [mE]; simp only; omega,U,B⟩,dN e⟩
theorem g6 (hle:dg l=0) (hr:er l r):qR l r=[]↔lQ (cQ l r)=[]:=by
 constructor
 ·intro h
  apply List.eq_nil_iff_forall_not_mem.2
  intro x hx
  obtain ⟨k,rfl,hk,hm⟩:=yf.1 hx
  rw [mE] at hk
  rw [← I5 hle hr hk,h] at hm
  cases hm
 ·intro h
  apply List.eq_nil_iff_forall_not_mem.2
  intro y hy
  have hw:=(qa hle hr).1 hy
  have:(y.gP.length:Int)∈lQ (cQ l r):=yf.2 ⟨y.gP.length,rfl,hw.len,CV.2 ⟨_,_,rfl,hw.chain,hw.may⟩⟩
  rw [h] at this; cases this
/-- the times at a beam, by all ways -/
def jf (b:Nat) (ws:List dE):List (Int×ag):=ws.filterMap fun y=>match y.gP[b]?,y.iZ[b]?,y.my[b]? with
 |some s,some f,some e=>some (s,⟨f,e⟩)
 |_,_,_=>none
theorem oq {b:Nat} {ws:List dE} {q:Int×ag}:q∈jf b ws↔ ∃ y∈ws,y.gP[b]? =some q.1∧y.iZ[b]? =some q.2.Lo∧y.my[b]? =some q.2.Hi:=by
 unfold jf
 rw [List.mem_filterMap]
 constructor
 ·rintro ⟨y,hy,h⟩
  cases e1:y.gP[b]? with
  |none=>rw [e1] at h; cases h
  |some s=>
   cases e2:y.iZ[b]? with
   |none=>rw [e1,e2] at h; cases h
   |some f=>
    cases e3:y.my[b]? with
    |none=>rw [e1,e2,e3] at h; cases h
    |some e=>
     rw [e1,e2,e3] at h; cases h
     exact ⟨y,hy,e1,e2,e3⟩
 ·rintro ⟨y,hy,A,B,C⟩
  exact ⟨y,hy,by rw [A,B,C]⟩
theorem yD {b:Nat} {ws:List dE} {y:dE} (h:y.gP.length≤b):jf b (ws++[y])=jf b ws:=by
 unfold jf; rw [List.filterMap_append]; simp [List.getElem?_eq_none h]
theorem qI {b:Nat} {ws:List dE} {y:dE} {s f e:Int} (h1:y.gP[b]? =some s) (h2:y.iZ[b]? =some f) (h3:y.my[b]? =some e):jf b (ws++[y])=jf b ws++[(s,⟨f,e⟩)]:=by
 unfold jf; rw [List.filterMap_append]; simp [h1,h2,h3]
theorem IL (hle:dg l=0) (hr:er l r) {y:dE} (hy:y∈qR l r):y.iZ.length=y.gP.length∧y.my.length=y.gP.length∧y.gP.length≤l.aa.length:=by
 have h:=(qa hle hr).1 hy
 exact ⟨kj _ _ _ _ h.chain,by rw [h.last,sH],by have:=h.len; rwa [mE] at this⟩
theorem uw (hle:dg l=0) (hr:er l r) {b:Nat} (hb:b<l.aa.length) {s t:Int}:(∃ q∈qM (cQ l r) b,q.1=s∧q.2.Lo≤t∧t≤q.2.Hi)↔ ∃ q∈jf b (qR l r),q.1=s∧q.2.Lo≤t∧t≤q.2.Hi:=by
 have hh:=OB hle hr
 rw [FT hh.low (by rw [mE]; exact hb),KI hh hr.time.2.1 (by rw [mE]; exact hb)]
 constructor
 ·rintro ⟨y,hy,f,e,A,B,C,D,E⟩
  exact ⟨(s,⟨f,e⟩),oq.2 ⟨y,(qa hle hr).2 hy,A,B,C⟩,U,D,E⟩
 ·rintro ⟨q,hq,rfl,D,E⟩
  obtain ⟨y,hy,A,B,C⟩:=oq.1 hq
  exact ⟨y,(qa hle hr).1 hy,_,_,A,B,C,D,E⟩
/-- a way's span is none that is empty -/
theorem yp (hle:dg l=0) (hr:er l r) {b:Nat} {q:Int×ag} (hq:q∈jf b (qR l r)):q.2.Lo≤q.2.Hi:=by
 have hh:=OB hle hr
 obtain ⟨y,hy,C,D,H⟩:=oq.1 hq
 obtain ⟨hc,hn,B,hm⟩:=(qa hle hr).1 hy
 obtain ⟨R,F,La⟩:=y
 simp only at C D H hc hn B
 have G:=(aZ.1 C).1
 have E:=(aZ.1 D).1
 have L:=kj _ _ _ _ hc
 have eR:R=R.take b++q.1::R.drop (b+1):=by rw [← (aZ.1 C).2]; exact (List.take_append_drop b R).symm.trans (by rw [List.drop_eq_getElem_cons G])
 have eF:F=F.take b++q.2.Lo::F.drop (b+1):=by rw [← (aZ.1 D).2]; exact (List.take_append_drop b F).symm.trans (by rw [List.drop_eq_getElem_cons E])
 rw [eR,eF,sQ _ _ _ _ _ _ (by simp only [List.length_take]; omega)] at hc
 have AA:(R.take b).length=b:=by rw [List.length_take]; omega
 rw [AA,Nat.zero_add] at hc
 obtain ⟨M,⟨o,ho,K,N,O⟩,J⟩:=hc
 have A:=uX (hi:=Mc l r) (least:=cZ l) (now:=r.gh) 0 (R.take b) q.1 (R.drop (b+1))
 rw [← eR,AA,Nat.zero_add,← B,H] at A
 have A:=Option.some.inj A
 have he:=sw hh (b+1) q.2.Lo (R.drop (b+1)) (F.drop (b+1)) (by rw [List.length_drop]; omega) om J
 rw [← K] at A
 split at A
 ·rename_i z
  have:=hh.hi b o om ho z
  omega
 ·omega
theorem CD {a b:List (Int×ag)} {h k:ag} (ha:kF a h) (hb:kF b k) (hab: ∀ x∈b,(∃ y∈a,y.2.Lo≤x.2.Lo)∧ ∃ y∈a,x.2.Hi≤y.2.Hi) (hba: ∀ x∈a,(∃ y∈b,y.2.Lo≤x.2.Lo)∧ ∃ y∈b,x.2.Hi≤y.2.Hi):h=k:=by
 rcases ha with ⟨rfl,rfl⟩|ha
 ·rcases hb with ⟨rfl,rfl⟩|hb
  ·rfl
  ·obtain ⟨x,hx,_⟩:=hb.lo
   obtain ⟨⟨y,hy,_⟩,_⟩:=hab x hx
   cases hy
 ·rcases hb with ⟨rfl,rfl⟩|hb
  ·obtain ⟨x,hx,_⟩:=ha.lo
   obtain ⟨⟨y,hy,_⟩,_⟩:=hba x hx
   cases hy
  ·obtain ⟨M,E,AA⟩:=ha.lo
   obtain ⟨N,F,V⟩:=ha.hi
   obtain ⟨O,G,W⟩:=hb.lo
   obtain ⟨P,H,X⟩:=hb.hi
   obtain ⟨⟨AB,A,Y⟩,_⟩:=hba M E
   obtain ⟨_,J,B,Z⟩:=hba N F
   obtain ⟨⟨K,C,c⟩,_⟩:=hab O G
   obtain ⟨_,L,D,d⟩:=hab P H
   have Q:=hb.all AB A
   have R:=hb.all J B
   have S:=ha.all K C
   have T:=ha.all L D
   apply ag.ext
   ·omega
   ·omega
theorem IY (hle:dg l=0) (hr:er l r) {b:Nat} (hb:b<l.aa.length) {h:ag} (hh:kF (jf b (qR l r)) h):h=mU l r b:=by
 have hk:=th (l:=qM (cQ l r) b) (fun q hq=>ny hq)
 refine CD hh hk (fun x hx=>?_) (fun x hx=>?_)
 ·have hle':=ny hx
  obtain ⟨y,hy,_,A,C⟩:=(uw hle hr hb (s:=x.1) (t:=x.2.Lo)).1 ⟨x,hx,rfl,Int.le_refl _,hle'⟩
  obtain ⟨z,hz,_,D,B⟩:=(uw hle hr hb (s:=x.1) (t:=x.2.Hi)).1 ⟨x,hx,rfl,hle',Int.le_refl _⟩
  exact ⟨⟨y,hy,A⟩,z,hz,B⟩
 ·have hle':=yp hle hr hx
  obtain ⟨y,hy,_,A,C⟩:=(uw hle hr hb (s:=x.1) (t:=x.2.Lo)).2 ⟨x,hx,rfl,Int.le_refl _,hle'⟩
  obtain ⟨z,hz,_,D,B⟩:=(uw hle hr hb (s:=x.1) (t:=x.2.Hi)).2 ⟨x,hx,rfl,hle',Int.le_refl _⟩
  exact ⟨⟨y,hy,A⟩,z,hz,B⟩
end
def qg (ws:List dE) (b:Nat):Int:=if ud (jf b ws)=mS then 6 else 0
def pX (ws:List dE) (b:Nat):ag:=if ud (jf b ws)=mS then ⟨0,0⟩ else ud (jf b ws)
theorem Mn {l:List (Int×ag)} {h:ag} (hh:kF l h) (hl: ∀ q∈l,q.2.Lo≤q.2.Hi):ud l=h:=
 CD (th hl) hh (fun x hx=>⟨⟨x,hx,Int.le_refl _⟩,x,hx,Int.le_refl _⟩) (fun x hx=>⟨⟨x,hx,Int.le_refl _⟩,x,hx,Int.le_refl _⟩)
theorem EU {ws:List dE} {b:Nat} (h:jf b ws=[]):qg ws b=6∧pX ws b=⟨0,0⟩:=by
 unfold qg pX; rw [h]; exact ⟨if_pos rfl,if_pos rfl⟩
theorem DQ {ws:List dE} {b:Nat} {o:ag} (hl: ∀ q∈jf b ws,q.2.Lo≤q.2.Hi) (h:ow (jf b ws) o):qg ws b=0∧pX ws b=o:=by
 have e:=Mn (.inr h) hl
 unfold qg pX; rw [e]; exact ⟨if_neg h.ne,if_neg h.ne⟩
/-- what was found until now -/
def ot (b:Nat) (ws:List dE) (fd:Bool) (o:ag):Prop:=(fd=false∧jf b ws=[])∨(fd=true∧ow (jf b ws) o)
theorem HA {b:Nat} {o:ag}:ot b [] false o:= .inl ⟨rfl,rfl⟩
theorem CY {q:Int×ag} (hq:q.2.Lo≤q.2.Hi):ow [q] q.2:=⟨hq,⟨q,sm,rfl⟩,⟨q,sm,rfl⟩,fun x hx=>by simp at hx; subst hx; exact ⟨Int.le_refl _,Int.le_refl _⟩⟩
theorem Aa {l:List (Int×ag)} {h:ag} {q:Int×ag} (hh:ow l h) (hq:q.2.Lo≤q.2.Hi):ow (l++[q]) ⟨min q.2.Lo h.Lo,max q.2.Hi h.Hi⟩:=by
 have:=vz (.inr hh) hq
 unfold mW at this
 rw [if_neg hh.ne] at this
 rcases this with ⟨e,_⟩|this
 ·simp at e
 ·exact this
theorem EK {b:Nat} {ws:List dE} {fd:Bool} {o:ag} {y:dE} (h:ot b ws fd o) (hy:y.gP.length≤b):ot b (ws++[y]) fd o:=by
 unfold ot; rw [yD hy]; exact h
theorem BW {b:Nat} {ws:List dE} {fd:Bool} {o:ag} {y:dE} {s f e:Int} (h:ot b ws fd o) (hf:fd=false) (h1:y.gP[b]? =some s) (h2:y.iZ[b]? =some f) (h3:y.my[b]? =some e) (hle:f≤e):ot b (ws++[y]) true ⟨f,e⟩:=by
 rcases h with ⟨_,q⟩|⟨q,_⟩
 ·right
  rw [qI h1 h2 h3,q]
  exact ⟨U,CY hle⟩
 ·rw [q] at hf; cases hf
theorem DN {b:Nat} {ws:List dE} {fd:Bool} {o:ag} {y:dE} {s f e:Int} (h:ot b ws fd o) (hf:fd=true) (h1:y.gP[b]? =some s) (h2:y.iZ[b]? =some f) (h3:y.my[b]? =some e) (hle:f≤e):ot b (ws++[y]) true ⟨min f o.Lo,max e o.Hi⟩:=by
 rcases h with ⟨q,_⟩|⟨_,q⟩
 ·rw [q] at hf; cases hf
 ·right
  rw [qI h1 h2 h3]
  exact ⟨U,Aa q hle⟩
theorem zC {b:Nat} {ws:List dE} {fd:Bool} {o:ag} (h:ot b ws fd o) (hl: ∀ q∈jf b ws,q.2.Lo≤q.2.Hi):(fd=false→qg ws b=6∧pX ws b=⟨0,0⟩)∧(fd=true→qg ws b=0∧pX ws b=o):=by
 rcases h with ⟨q,h⟩|⟨q,h⟩
 ·exact ⟨fun _=>EU h,fun e=>(by rw [q] at e; cases e)⟩
 ·exact ⟨fun e=>(by rw [q] at e; cases e),fun _=>DQ hl h⟩
section
variable {l:bp} {r:bT}
theorem Jn (he:eW l r 0=0) {b:Nat} (hb:b<l.aa.length):qg (qR l r) b=dV l r b∧pX (qR l r) b=dI l r b:=by
 obtain ⟨A,hr,_,_⟩:=jc he
 have h:=IY A hr hb (th fun q hq=>yp A hr hq)
 have ho:eW l r (jT l b)=0:=by rw [zJ hb]; exact he
 unfold qg pX
 rw [h]
 by_cases e:mU l r b=mS
 ·rw [if_pos e,if_pos e,(rz ho e).1,(rz ho e).2]; exact ⟨rfl,rfl⟩
 ·rw [if_neg e,if_neg e,(mX ho e).1,(mX ho e).2]; exact ⟨rfl,rfl⟩
theorem QB (hle:dg l=0) (hr:er l r) {y:dE} (hy:y∈qR l r) {b:Nat} {f e:Int} (hb:b<y.gP.length) (h2:y.iZ[b]? =some f) (h3:y.my[b]? =some e):f≤e:=
 yp hle hr (q:=(y.gP[b],⟨f,e⟩)) (oq.2 ⟨y,hy,fg _,h2,h3⟩)
theorem C6:eW l r (jT l l.bO)=eW l r 0:=by
 by_cases h:dg l=0
 ·obtain ⟨_,A⟩:=du h
  have hh:=A.head
  unfold eU at hh
  rw [um om]
 ·rw [mY h,mY h]
theorem wi (h: ¬ eW l r 0=0):dV l r l.bO=eW l r 0:=by
 have:=(mx (b:=l.bO) (by rw [C6]; exact h)).1
 rw [this,C6]
/-- rows of times that are those of ways -/
structure MB (ws:List dE):Prop where
 lens: ∀ y∈ws,y.iZ.length=y.gP.length∧y.my.length=y.gP.length∧y.gP.length≤6
 le: ∀ y∈ws,∀ (b:Nat) f e,b<y.gP.length→y.iZ[b]? =some f→y.my[b]? =some e→f≤e
 num:ws.length≤40000000
theorem MB.FC {ws:List dE} (h:MB ws) {b:Nat}: ∀ q∈jf b ws,q.2.Lo≤q.2.Hi:=fun q hq=>by
 obtain ⟨y,hy,A,B,C⟩:=oq.1 hq
 exact h.le y hy b _ _ (aZ.1 A).1 B C
theorem P9 (hle:dg l=0) (hr:er l r):MB (qR l r):=by
 obtain ⟨ht,B⟩:=du hle
 have hh:=B.head
 unfold eU at hh
 refine ⟨fun y hy=>?_,fun y hy b f e hb A C=>QB hle hr hy hb A C,vQ hr.len om⟩
 obtain ⟨D,A,C⟩:=IL hle hr hy
 exact ⟨D,A,om⟩
end
end
section
open Go.RowKit
theorem B1 (l:List dE) (az:List kN): ∀ v∈(List.zipWith dE.cells l az).flatten,v.oneCell'=true:=by
 induction l generalizing az with
 |nil=>intro v hv; simp at hv
 |cons x l ih=>
  cases az with
  |nil=>intro v hv; simp at hv
  |cons a az=>
   intro v hv
   simp only [List.zipWith_cons_cons,List.flatten_cons,gu] at hv
   rcases hv with hv|hv
   ·simp only [dE.cells,yq.cells,bR,List.not_mem_nil,or_false] at hv
    rcases hv with rfl|rfl|rfl<;>rfl
   ·exact ih az v hv
theorem Mg: ∀ (m:dE) (a:kN) (w:World),(∀ X∈dE.owns m a,X.holds w)→ ∀ X∈dE.gd m a,X.holds w:=fun m a w h X hX=>by
 simp only [dE.gd,bR,List.not_mem_nil,or_false] at hX
 have A:=oh (h (own a.1.1 a.1.2 mq 1 (m.gP.map iC)) (by simp [dE.owns]))
 have B:=oh (h (own a.2.1.1 a.2.1.2 mq 1 (m.iZ.map iC)) (by simp [dE.owns]))
 have C:=oh (h (own a.2.2.1 a.2.2.2 mq 1 (m.my.map iC)) (by simp [dE.owns]))
 rcases hX with rfl|rfl|rfl
 ·simpa using A
 ·simpa using B
 ·simpa using C
theorem qv: ∀ (l:List dE) (az:List kN),(br dE.owns l az).all (·.wr)=true
 |[],_=>rfl
 |_::_,[]=>rfl
 |x::l,a::az=>by
  simp only [br,List.all_append,cE]
  exact ⟨U,qv l az⟩
theorem Lc (l:List dE) (az:List kN):(bV (br dE.owns l az)).wr=true:=qv l az
theorem JP {l m:List dE} {az bz:List kN} (h:az.length=l.length):List.zipWith dE.cells (l++m) (az++bz)=List.zipWith dE.cells l az++List.zipWith dE.cells m bz:=List.zipWith_append h.symm
theorem uK {l:List dE} {az:List kN} (h:az.length=l.length):(List.zipWith dE.cells l az).length=l.length:=by rw [List.length_zipWith]; omega
/-- what is read of a thing that is tied, and frozen -/
theorem qe {C L:List ay} {a:OA} {c e sz n:Nat} {es:List (List Value)} (i:Nat) (hC:C[i]? =some (bV L).ro) (hm:own a c e sz es∈L) (hn:es.length=n):iJ C (rd a n sz es).holds:=fun w hw=>by
 subst hn
 exact oh ((show (bV L).holds w from (hw _ (aP hC):(bV L).ro.holds w)).1 _ hm)
section
variable {E:fp} {ops:Array Oper} {Q:dv} {rest:List Oper} {D:List Deferred} {L:List (Nat×Value)} {C C1:List ay}
theorem St.Pw {S:BS} {w0 w:World} {X C:List ay} {A:ay} (h:St S w0 (bV (X++[A])::C) w):St S w0 (A::bV X::C) w:=by
 have B:=h.iO
 have D:St S w0 (X++(A::C)) w:=by simpa using B
 exact D.tied.perm (List.Perm.swap _ _ _)
theorem St.merge {S:BS} {w0 w:World} {X Y C:List ay} (h:St S w0 (bV X::bV Y::C) w):St S w0 (bV (X++Y)::C) w:=by
 have A:St S w0 (bV Y::(X++C)) w:=(h.iO).perm (List.perm_middle (a:=bV Y) (l₁:=X) (l₂:=C))
 have B:St S w0 (Y++(X++C)) w:=A.iO
 have D:St S w0 ((X++Y)++C) w:=B.perm (by rw [← List.append_assoc]; exact List.perm_append_comm.append_right _)
 exact D.tied
end
section
variable {E:fp} {ops:Array Oper} {Q:dv} {rest:List Oper} {D:List Deferred} {L:List (Nat×Value)} {C:List ay}
theorem AS {A:ay} {X X':List ay} (e:X++[A]=X') (h:RJ E ops Q rest D L (bV X'::C)):RJ E ops Q rest D L (A::bV X::C):=fun a w hf hs=>h a w hf (hs.tie e)
theorem zc {X:List ay} {A:ay} (h:RJ E ops Q rest D L (A::bV X::C)):RJ E ops Q rest D L (bV (X++[A])::C):=fun a w hf hs=>h a w hf hs.Pw
theorem I6 {K:Act→World→Prop} {ms ns:List dE} {az bz:List kN} (hl:az.length=ms.length) (h:KJ E K D L (bV (br dE.owns (ms++ns) (az++bz))::C)):KJ E K D L (bV (br dE.owns ms az)::bV (br dE.owns ns bz)::C):=fun a w hf hs=>h a w hf (by rw [jx hl.symm]; exact hs.merge)
end
/-- the head of the ways: the way that ends here, if it may -/
def yr (l:bp) (r:bT) (rs fs:List Int) (ra fa:RA) (hz:List kN) (LA:List ay):Prop:=
 ((r.ab.length:Int)-(db rs).right≤l.fO∧ ∃ la:RA,hz=[(ra,fa,la)]∧LA=[own la.1 la.2 mq 1 ((jz l r rs).map iC)])∨(¬ (r.ab.length:Int)-(db rs).right≤l.fO∧hz=[]∧LA=[])
theorem yr.len {l:bp} {r:bT} {rs fs:List Int} {ra fa:RA} {hz:List kN} {LA:List ay} (h:yr l r rs fs ra fa hz LA):hz.length=(g9 l r rs fs).length:=by
 unfold g9
 rcases h with ⟨q,la,rfl,rfl⟩|⟨q,rfl,rfl⟩
 ·rw [if_pos q]; rfl
 ·rw [if_neg q]; rfl
theorem yr.wr {l:bp} {r:bT} {rs fs:List Int} {ra fa:RA} {hz:List kN} {LA:List ay} (h:yr l r rs fs ra fa hz LA):LA.all (·.wr)=true:=by
 rcases h with ⟨q,la,rfl,rfl⟩|⟨q,rfl,rfl⟩<;>rfl
theorem Ij {S:BS} {w0 w:World} {l:bp} {r:bT} {rs fs:List Int} {ra fa:RA} {hz az:List kN} {LA:List ay} {R:List dE} {A:ay} (hh:yr l r rs fs ra fa hz LA)
 (h:St S w0 [bV [own ra.1 ra.2 mq 1 (rs.map iC),own fa.1 fa.2 mq 1 (fs.map iC)],A,bV LA,bV (br dE.owns R az)] w):St S w0 [bV (br dE.owns (g9 l r rs fs++R) (hz++az)++[A])] w:=by
 rw [jx hh.len.symm]
 have D:St S w0 [own ra.1 ra.2 mq 1 (rs.map iC),own fa.1 fa.2 mq 1 (fs.map iC),A,bV LA,bV (br dE.owns R az)] w:=h.iO
 rcases hh with ⟨q,la,rfl,rfl⟩|⟨q,rfl,rfl⟩
 ·unfold g9
  rw [if_pos q]
  have B:=(St.j0 [3,0,1,2,4] rfl rfl D).iO
  have E:=(St.j0 [4,1,2,0,3] rfl rfl B).iO
  have C:St S w0 (((br dE.owns [(⟨rs,fs,jz l r rs⟩:dE)] [(ra,fa,la)]++br dE.owns R az)++[A])++[]) w:=by
   rw [List.append_nil]
   refine E.perm ?_
   show (br dE.owns R az++(br dE.owns [(⟨rs,fs,jz l r rs⟩:dE)] [(ra,fa,la)]++[A])).Perm _
   rw [← List.append_assoc]
   exact List.perm_append_comm.append_right _
  exact C.tied
 ·unfold g9
  rw [if_neg q]
  have B:=(St.j0 [4,2] rfl rfl D).iO
  have C:St S w0 (((br dE.owns [] []++br dE.owns R az)++[A])++[]) w:=by
   rw [List.append_nil]; exact B
  exact C.tied
theorem Ly {E:fp} {K:Act→World→Prop} {D:g8} {L:dA} {l:bp} {r:bT} {rs fs:List Int} {ra fa:RA} {hz az z:List kN} {LA:List ay} {R W:List dE} {A A':ay} (hh:yr l r rs fs ra fa hz LA) (hW:g9 l r rs fs++R=W) (hz':hz++az=z) (hA:A=A')
 (h:KJ E K D L [bV (br dE.owns W z++[A'])]):KJ E K D L [bV [own ra.1 ra.2 mq 1 (rs.map iC),own fa.1 fa.2 mq 1 (fs.map iC)],A,bV LA,bV (br dE.owns R az)]:=fun a w hf hs=>h a w hf (by subst hW hz' hA; exact Ij hh hs)
theorem P0 {E:fp} {K:Act→World→Prop} {D:g8} {L:dA} {X A:ay} {W:List dE} (h:KJ E K D L [bV (br dE.owns W []++[A])]):KJ E K D L [X,A]:=fun a w hf hs=>h a w hf (by
 have B:St E.S E.w0 [A] w:=St.j0 [1] rfl rfl hs
 have C:St E.S E.w0 (([]++[A])++[]) w:=B
 have e:br dE.owns W []=[]:=by cases W<;>rfl
 rw [e]
 exact C.tied)
theorem G2 {E:fp} {K:Act→World→Prop} {D:g8} {L:dA} {C:List ay} (e sz:Nat) (k:KJ E K D L (own none 0 e sz []::C)):KJ E K D L C:=fun a w hf hs=>k a w hf (hs.ug e sz)
end
section
open Go.RowKit
theorem EY (l:bp) (kA:OA) (kC:Nat) (az:List RA) (cA:OA) (cC:Nat) (bA:OA) (bC:Nat) (r:bT) (sgA:OA) (sgC:Nat) (hin:dY l az) (hsl:r.ab.length≤1000000):
 dL Tryz.prog 25 [(vA (cr.cells (jC l kA kC cA cC bA bC))),(vA (cb.cells (ji r sgA sgC)))] [(rd kA l.aS.length 9 (l.aS.map ar.cells)),(rd cA l.aj.length 2 (List.zipWith au.cells l.aj az)),(dT (br au.gd l.aj az)),(rd bA l.aa.length 4 (l.aa.map bJ.cells)),(rd sgA r.ab.length 2 (r.ab.map aA.cells))] (vB (decide (er l r))):=by
 have Ad:=hin.qS
 have AO:=hin.qW
 have w:=hin.nx
 have AC:=hin.qU
 refine bH kr Tryz.func25 U U fun w0 Q hQ hN=>?_
 try dsimp only
 refine WS fun _ h=>eO U fun b2=>eO U fun b3=>bE 1 U<|RK h<|ao fun _ j=>WS fun _ H=>eV 2 [] (mc 0 U I) U<|rS (CL (iW r.Start 0 86400000) (aO) U)<|rP 2 [] I ?_
 refine bK (t:=11) U (aX fun X=>?_) (aW fun X=>?_)
 ·refine bE 13 U<|RK H<|aT U<|WS fun _ k=>rP 1 [] I ?_
  refine RK k<|aq<|Q1 hQ U U U ?_
  exact cB (bI fun q=>by have C:=q.time; have u:=q.len; omega).symm
 refine eV 4 [] (mc 0 U I) U<|rS (CL (iW r.gh r.Start 86400000) (aO) U)<|rP 3 [] I ?_
 refine bK (t:=19) U (aX fun Z=>?_) (aW fun Z=>?_)
 ·refine bE 5 U<|RK H<|aT U<|WS fun _ m=>rP 1 [] I ?_
  refine RK m<|aq<|Q1 hQ U U U ?_
  exact cB (bI fun q=>by have C:=q.time; have u:=q.len; omega).symm
 refine rP 5 [] (mc 0 U I) ?_
 refine RK H<|cy U (aU fun a=>?_) (aV fun a=>?_)
 ·refine WS fun _ n=>rP 1 [] I ?_
  refine RK n<|aq<|Q1 hQ U U U ?_
  exact cB (bI fun q=>by have C:=q.time; have u:=q.len; omega).symm
 refine WK j<|ao fun _ o=>WS fun _ J=>rP 1 [] I ?_
 refine RK J<|aI ?_
 have F:(0≤r.ab.length)∧(o1 l r.ab 0):=by exact ⟨Nat.zero_le _,vZ⟩
 refine bZ (ι:={z:Nat // (z≤r.ab.length)∧(o1 l r.ab z)}) [2,3] [0,1,2,3,4,5,6] U U (fun z=>[(5,(vI (z.1:Int)))]) (fun z=>[]) (fun _=>rfl) (fun _=>rfl) (fun z=>r.ab.length-z.1) ⟨0,F⟩ (bu U) (aQ [0,1,2,3,4,5,6]) ?_
 clear F
 rintro ⟨i,⟨p,A⟩⟩ J11 D
 try dsimp only
 refine ao fun _ K=>WS fun _ L=>rP 5 [] (mc 0 U I) ?_
 refine RK L<|bW U (aV fun Y=>?_) (aU fun Y=>?_)
 ·refine bS<|ai<|ai<|aL<|KK o<|WS fun _ T=>rP 1 [] I ?_
  refine RK T<|aq<|Q1 hQ U U U ?_
  exact cB (dN (xJ om om A om)).symm
 refine WK K<|ao fun _ E=>aI<|WS fun _ M=>rP 3 [] (mc 0 U I) ?_
 obtain ⟨x,hx⟩:=aJ r.ab i om
 have s:=bM aA.cells hx
 refine rS (IA i U (aB 6 U) wL dc om om)<|rS (lM i 0 (aA.cells x) U b_ (aB 6 U) s U dc U U)<|AL U Cf fun v=>fJ U vN U<|RK M<|ao fun _ N=>WS fun _ G=>eV 6 [0,1] (mc 0 U (mc 2 U I)) U<|rS (CL (iW x.fE 0 ((l.aa.length:Int)-1)) (aO) U)<|rP 2 [] I ?_
 refine bK (t:=45) U (aX fun b=>?_) (aW fun b=>?_)
 ·refine bE 5 U<|RK G<|aT U<|WS fun _ O=>rP 1 [] I ?_
  refine RK O<|aq<|Q1 hQ U U U ?_
  exact cB (bI fun q=>by have C:=q.sig i x hx; unfold iM js at C; omega).symm
 refine eV 2 [] (mc 0 U I) U<|rS (CL (iW x.Read 0 86400000) (aO) U)<|rP 2 [] I ?_
 refine RK G<|cy U (aX fun c=>?_) (aW fun c=>?_)
 ·refine WS fun _ P=>rP 1 [] I ?_
  refine RK P<|aq<|Q1 hQ U U U ?_
  exact cB (bI fun q=>by have C:=q.sig i x hx; unfold iM js at C; omega).symm
 refine WK N<|ao fun _ B=>dj cj 38 kr<|dP 3 [] I ?_
 refine jB (t:=53) U (aV fun d=>?_) (aU fun d=>?_)
 ·refine kE 35 U<|cD<|RK B<|ct U<|cu<|aR<|KK E<|aw<|rP 3 [] I ?_
  refine aH ?_
  have W:(vI (((i+1):Nat):Int))=(vI ((i:Int)+1)):=by exact cI om
  refine bq (D ⟨(i+1),⟨om,jn A hx (by unfold iM js; (rw [G8 om]; simp only; omega))⟩⟩ _ _ _ U os (dG.cons U<|dG.cons U<|bw U W<|dG.nil _) (aQ [1,2,3,4,5,6,7]))
 refine dP 6 [0,1] (mc 0 U (mc 1 U I)) ?_
 obtain ⟨y,hy⟩:=aJ r.ab (i-1) om
 have AB:=bM aA.cells hy
 refine dS (IA (i-1) U (aB 7 U) wL dc om om)<|dS (o6 ((i-1)*2) U (aB 7 U) (Nat.mul_pos om dc) eD U)<|dS (gE (i-1) 0 (vI y.fE) U b_ (aB 7 U) AB U dc U)<|dP 2 [] I ?_
 refine g7 (t:=64) U (aU fun e=>?_) (aV fun e=>?_)
 ·refine kE 24 U<|cD<|RK B<|aT U<|WS fun _ R=>rP 1 [] I ?_
  refine RK R<|aq<|Q1 hQ U U U ?_
  exact cB (bI fun q=>by have C:=q.sig i x hx; unfold iM js at C; (rw [sN om hy] at C; omega)).symm
 refine lz 6 [0,1] (mc 0 U (mc 1 U I)) U<|dS (IA (i-1) U (aB 7 U) wL dc om om)<|dS (o6 ((i-1)*2) U (aB 7 U) (Nat.mul_pos om dc) eD U)<|dS (gE (i-1) 0 (vI y.fE) U b_ (aB 7 U) AB U dc U)<|dP 2 [] I ?_
 refine jB (t:=75) U (aV fun f=>?_) (aU fun f=>?_)
 ·refine kE 13 U<|cD<|RK B<|ct U<|cu<|aR<|KK E<|aw<|rP 3 [] I ?_
  refine aH ?_
  have V:(vI (((i+1):Nat):Int))=(vI ((i:Int)+1)):=by exact cI om
  refine bq (D ⟨(i+1),⟨om,jn A hx (by unfold iM js; (rw [sN om hy]; omega))⟩⟩ _ _ _ U os (dG.cons U<|dG.cons U<|bw U V<|dG.nil _) (aQ [1,2,3,4,5,6,7]))
 refine lz 6 [0,1] (mc 0 U (mc 1 U I)) U<|dS (IA (i-1) U (aB 7 U) wL dc om om)<|dS (o6 (((i-1)*2)+1) U (aB 7 U) (Nat.mul_pos om dc) eD U)<|dS (gE (i-1) 1 (vI y.Read) U b_ (aB 7 U) AB U dc U)<|dP 4 [] I ?_
 refine cD<|RK B<|cy U (aU fun g=>?_) (aV fun g=>?_)
 ·refine WS fun _ S=>rP 1 [] I ?_
  refine RK S<|aq<|Q1 hQ U U U ?_
  exact cB (bI fun q=>by have C:=q.sig i x hx; unfold iM js at C; (rw [sN om hy] at C; omega)).symm
 refine cu<|aR<|KK E<|aw<|rP 3 [] I ?_
 refine aH ?_
 have AA:(vI (((i+1):Nat):Int))=(vI ((i:Int)+1)):=by exact cI om
 refine bq (D ⟨(i+1),⟨om,jn A hx (by unfold iM js; (rw [sN om hy]; omega))⟩⟩ _ _ _ U os (dG.cons U<|dG.cons U<|bw U AA<|dG.nil _) (aQ [1,2,3,4,5,6,7]))
end
end Go.Proofs.YtfhghdbminmhnaaGreatDoor
