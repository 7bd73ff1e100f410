/-
 The statement raceTimes_said, part 6 of 8: Rc2, Rc3, Rc4, Rs1, S2, Rs2, Rs3, Rs4, CloneM, Rs5, Rs6, Rs7, Rt2, Rt3, Rr1, B7, B8, Rr2, Rx1, Rx2, B10, WLe, Z1, Rx4, B11, Ends5, Can, False, Sim, Told, Clear.
 Conditions: none.
-/
import Derived.Test.YtcoejkiaokbmpaaGreatDoorTm1
import Derived.Test.YtcoejkiaokbmpaaGreatDoorTm2
import Derived.Test.YtcoejkiaokbmpaaGreatDoorTm3
import Derived.Test.YtcoejkiaokbmpaaGreatDoorTm4
import Derived.Test.YtcoejkiaokbmpaaGreatDoorTm5
import Derived.MapKept
import Derived.Laws.Externs
namespace Go.Proofs.YtcoejkiaokbmpaaGreatDoor
set_option maxRecDepth 100000
set_option maxHeartbeats 4000000
set_option linter.unusedVariables false
section
open Go.RowKit
theorem Iw (l:aQ) (kA:OA) (kC:Nat) (az:List RA) (cA:OA) (cC:Nat) (bA:OA) (bC:Nat) (d:aw) (sgA:OA) (sgC:Nat) (hin:dF l az):
 dL Tryz.prog 197 [(vA (cb.cells (jI l kA kC cA cC bA bC))),(vA (bq.cells (bq.mk d.Out d.de d.Time (j1 d.bO sgA sgC))))] [(rd kA l.aH.length 9 (l.aH.map aj.cells)),(rd cA l.ah.length 2 (List.zipWith al.cells l.ah az)),(eg (aZ al.fB l.ah az)),(rd bA l.ab.length 4 (l.ab.map bL.cells)),(rd sgA d.bO.ag.length 2 (d.bO.ag.map aD.cells))] (vT [(vA (aa.cells d.Time)),(vB (decide (d.de=false∧d.Time=cg∧kI d.bO)))]):=by
 refine bu kr Tryz.func197 U U fun K Q hQ hN=>?_
 try dsimp only
 refine WS fun _ B=>eQ U fun H=>eQ U fun AA=>AL U cR fun J=>rP 1 [] mn ?_
 refine RK B<|ai fun _ A=>dj bX [15] [] [] [1,2,3,4,5,6,7] [] U U U U U<|eS U (FA 2 U fq U)<|eS U (LP (aa.cells d.Time) 0 U bQ U U U)<|eS U (FA 1 U fq U)<|eS U (L1 (vB d.de) 0 U bQ U U)<|eS U (NT U)<|eS U (MV U)<|o3 (t:=11) U (fun G=>?_) (fun G=>?_)
 rotate_left 1
 ·rw [Bool.not_eq_false'] at G
  refine eS U (OX U)<|eS U (OX U)<|eS U (OX U)<|eS U (OX U)<|eS U (PK U)<|eS U (MV U)<|eS U (OX U)<|eS U (OX U)<|eS U (PK U)<|eS U (AG U)<|dW U<|bV U fun T10 C=>fg U bS U<|aA (C _ _ (aC [1,2,3,4,5,6,7]) ?_)
  refine eU U<|KK A<|an<|ja hQ [0] (mc 0 U mn) U ?_
  clear hQ hN C T10 A B
  refine congrArg (fun z=>Value.tuple #[_,vB z]) ?_
  first|rfl|(simp_all [cg]; done)
 rw [Bool.not_eq_true'] at G
 refine eS U (FA 2 U fq U)<|eS U (LP (aa.cells d.Time) 0 U bQ U U U)<|eS U (SX (bg (xs:=[]) (cs:=(aa.cells (aa.mk 0 0))) U U (bh eM U)) U U)<|eS U (BI U (q7 _ _ d.Time (aa.mk 0 0)))<|eS U (PK U)<|eS U (MV U)<|o3 (t:=17) U (fun D=>?_) (fun D=>?_)
 rotate_left 1
 ·replace D:=DF D
  refine eS U (OX U)<|eS U (OX U)<|eS U (PK U)<|eS U (AG U)<|dW U<|bV U fun T9 F=>fg U bS U<|aA (F _ _ (aC [1,2,3,4,5,6,7]) ?_)
  refine eU U<|KK A<|an<|ja hQ [0] (mc 0 U mn) U ?_
  clear hQ hN F T9 A B
  refine congrArg (fun z=>Value.tuple #[_,vB z]) ?_
  first|rfl|(simp_all [cg]; done)
 replace D:=DT D
 refine eS U (LW 0 U bQ U U)<|eS U (CL (Gt d sgA sgC) (bf [6]) U)<|eS U (PK U)<|eS U (AG U)<|dW U<|bV U fun T8 E=>fg U bS U<|aA (E _ _ (aC [1,2,3,4,5,6,7]) ?_)
 refine eU U<|KK A<|an<|ja hQ [0] (mc 0 U mn) U ?_
 clear hQ hN E T8 A B
 refine congrArg (fun z=>Value.tuple #[_,vB z]) ?_
 first|rfl|(simp_all [cg]; done)
theorem HH (l:aQ) (kA:OA) (kC:Nat) (az:List RA) (cA:OA) (cC:Nat) (bA:OA) (bC:Nat) (d:aw) (sgA:OA) (sgC:Nat) (hin:dF l az):
 dL Tryz.prog 200 [(vA (cb.cells (jI l kA kC cA cC bA bC))),(vA (bq.cells (bq.mk d.Out d.de d.Time (j1 d.bO sgA sgC))))] [(rd kA l.aH.length 9 (l.aH.map aj.cells)),(rd cA l.ah.length 2 (List.zipWith al.cells l.ah az)),(eg (aZ al.fB l.ah az)),(rd bA l.ab.length 4 (l.ab.map bL.cells)),(rd sgA d.bO.ag.length 2 (d.bO.ag.map aD.cells))] (vT [(vA (aa.cells d.Time)),(vB (decide (kG d.Time∧kI d.bO)))]):=by
 refine bu kr Tryz.func200 U U fun AA Q hQ hN=>?_
 try dsimp only
 refine WS fun _ B=>eQ U fun F=>eQ U fun G=>AL U cR fun H=>rP 1 [] mn ?_
 refine RK B<|ai fun _ A=>dj bX [9] [] [] [1,2,3,4,5,6,7] [] U U U U U<|eS U (FA 2 U fq U)<|eS U (LP (aa.cells d.Time) 0 U bQ U U U)<|eS U (FA 2 U fq U)<|eS U (LP (aa.cells d.Time) 0 U bQ U U U)<|eS U (CL (Ic d.Time) (aR) U)<|eS U (MV U)<|o3 (t:=11) U (fun C=>?_) (fun C=>?_)
 rotate_left 1
 ·replace C:=DF C
  refine eS U (OX U)<|eS U (OX U)<|eS U (PK U)<|eS U (AG U)<|dW U<|bV U fun T8 E=>fg U bS U<|aA (E _ _ (aC [1,2,3,4,5,6,7]) ?_)
  refine eU U<|KK A<|an<|ja hQ [0] (mc 0 U mn) U ?_
  clear hQ hN E T8 A B
  refine congrArg (fun z=>Value.tuple #[_,vB z]) ?_
  first|rfl|(simp_all; done)
 replace C:=DT C
 refine eS U (LW 0 U bQ U U)<|eS U (CL (Gt d sgA sgC) (bf [6]) U)<|eS U (PK U)<|eS U (AG U)<|dW U<|bV U fun T7 D=>fg U bS U<|aA (D _ _ (aC [1,2,3,4,5,6,7]) ?_)
 refine eU U<|KK A<|an<|ja hQ [0] (mc 0 U mn) U ?_
 clear hQ hN D T7 A B
 refine congrArg (fun z=>Value.tuple #[_,vB z]) ?_
 first|rfl|(simp_all; done)
theorem H9 (l:aQ) (kA:OA) (kC:Nat) (az:List RA) (cA:OA) (cC:Nat) (bA:OA) (bC:Nat) (d:aw) (sgA:OA) (sgC:Nat) (hin:dF l az) (hsl:d.bO.ag.length≤1000000):
 dL Tryz.prog 202 [(vA (cb.cells (jI l kA kC cA cC bA bC))),(vA (bq.cells (bq.mk d.Out d.de d.Time (j1 d.bO sgA sgC))))] [(rd kA l.aH.length 9 (l.aH.map aj.cells)),(rd cA l.ah.length 2 (List.zipWith al.cells l.ah az)),(eg (aZ al.fB l.ah az)),(rd bA l.ab.length 4 (l.ab.map bL.cells)),(rd sgA d.bO.ag.length 2 (d.bO.ag.map aD.cells))] (vT [(vA (aa.cells (ze l d.bO))),(vB (decide (ek l d.bO l.cQ=0∧d.Time=cg)))]):=by
 have K:=hin.pO
 have AA:=hin.pJ
 have G:=hin.mE
 have H:=hin.pQ
 have J:=hin.side
 refine bu kr Tryz.func202 U U fun P Q hQ hN=>?_
 try dsimp only
 refine WS fun _ C=>eQ U fun L=>eQ U fun M=>AL U cR fun N=>bp 1 U<|RK C<|WS fun _ D=>eZ 2 [] (mc 2 U mn) U<|rS (LP (dZ.cells (j1 d.bO sgA sgC)) 1 U bQ U U U)<|rS (CL (L5 l kA kC az cA cC bA bC d.bO sgA sgC hin hsl) (bf [3,4,5,6,7]) U)<|bp 3 U<|AL U cR fun O=>fg U bS U<|rP 1 [] mn ?_
 refine RK D<|ai fun _ A=>dj bX [9] [] [] [0,2,3,4,5,6,7,8] [] U U U U U<|eS U (LW 0 U bQ U U)<|eS U (MV U)<|eS U (BI U pD)<|eS U (MV U)<|o3 (t:=18) U (fun E=>?_) (fun E=>?_)
 rotate_left 1
 ·replace E:=DF E
  refine eS U (OX U)<|eS U (OX U)<|eS U (OX U)<|eS U (OX U)<|eS U (PK U)<|eS U (AG U)<|dW U<|bV U fun T10 B=>qf U bS U<|aA (B _ _ (aC [0,2,3,4,5,6,7,8]) ?_)
  refine eU U<|KK A<|an<|ja hQ [0] (mc 1 U mn) U ?_
  clear hQ hN B T10 A D C
  refine congrArg (fun z=>Value.tuple #[_,vB z]) ?_
  first|rfl|(simp_all [cg]; done)
 replace E:=DT E
 refine eS U (FA 2 U fq U)<|eS U (LP (aa.cells d.Time) 1 U bQ U U U)<|eS U (SX (bg (xs:=[]) (cs:=(aa.cells (aa.mk 0 0))) U U (bh eM U)) U U)<|eS U (BI U (q7 _ _ d.Time (aa.mk 0 0)))<|eS U (PK U)<|eS U (AG U)<|dW U<|bV U fun T9 F=>qf U bS U<|aA (F _ _ (aC [0,2,3,4,5,6,7,8]) ?_)
 refine eU U<|KK A<|an<|ja hQ [0] (mc 1 U mn) U ?_
 clear hQ hN F T9 A D C
 refine congrArg (fun z=>Value.tuple #[_,vB z]) ?_
 first|rfl|(simp_all [cg]; done)
theorem DX (d:aw) (sgA:OA) (sgC g1:Nat):
 dL Tryz.prog 95 [(vA (kJ.cells (kJ.mk (Value.func (.func 196) [].toArray [].toArray) (Value.func (.func 197) [].toArray [].toArray)))),(vP g1)] [(rd sgA d.bO.ag.length 2 (d.bO.ag.map aD.cells)),(cd g1 76 (bq.cells (bq.mk d.Out d.de d.Time (j1 d.bO sgA sgC))))] (vB d.Out):=by
 refine bu kr Tryz.func95 U U fun D Q hQ hN=>?_
 try dsimp only
 refine WS fun _ A=>eQ U fun C=>bp 1 U<|RK A<|WS fun _ B=>eZ 3 [0,1] (mc 0 U (mr 2 U mn)) U<|rS (CL (M7 d sgA sgC) (bf [1]) U)<|rP 1 [] mn ?_
 refine RK B<|an<|Q1 hQ U U U ?_
 rfl
theorem DZ (d:aw) (sgA:OA) (sgC g1:Nat):
 dL Tryz.prog 95 [(vA (kJ.cells (kJ.mk (Value.func (.func 199) [].toArray [].toArray) (Value.func (.func 200) [].toArray [].toArray)))),(vP g1)] [(rd sgA d.bO.ag.length 2 (d.bO.ag.map aD.cells)),(cd g1 76 (bq.cells (bq.mk d.Out d.de d.Time (j1 d.bO sgA sgC))))] (vB d.de):=by
 refine bu kr Tryz.func95 U U fun D Q hQ hN=>?_
 try dsimp only
 refine WS fun _ A=>eQ U fun C=>bp 1 U<|RK A<|WS fun _ B=>eZ 3 [0,1] (mc 0 U (mr 2 U mn)) U<|rS (CL (Lq d sgA sgC) (bf [1]) U)<|rP 1 [] mn ?_
 refine RK B<|an<|Q1 hQ U U U ?_
 rfl
theorem Cz (d:aw) (sgA:OA) (sgC g1:Nat):
 dL Tryz.prog 95 [(vA (kJ.cells (kJ.mk (Value.func (.func 201) [].toArray [].toArray) (Value.func (.func 202) [].toArray [].toArray)))),(vP g1)] [(rd sgA d.bO.ag.length 2 (d.bO.ag.map aD.cells)),(cd g1 76 (bq.cells (bq.mk d.Out d.de d.Time (j1 d.bO sgA sgC))))] (vB true):=by
 refine bu kr Tryz.func95 U U fun D Q hQ hN=>?_
 try dsimp only
 refine WS fun _ A=>eQ U fun C=>bp 1 U<|RK A<|WS fun _ B=>eZ 3 [0,1] (mc 0 U (mr 2 U mn)) U<|rS (CL (M3 d sgA sgC) (bf [1]) U)<|rP 1 [] mn ?_
 refine RK B<|an<|Q1 hQ U U U ?_
 rfl
end
section
open Go.RowKit
theorem ui (d:aw) (sgA:OA) (sgC g1:Nat):
 dL Tryz.prog 94 [(vS gZ 3 3),(Value.func (.func 95) [].toArray [(vP g1)].toArray)] [(rd gZ 3 2 fQ),(rd sgA d.bO.ag.length 2 (d.bO.ag.map aD.cells)),(cd g1 76 (bq.cells (bq.mk d.Out d.de d.Time (j1 d.bO sgA sgC))))] (vI (mC d)):=by
 refine bu kr Tryz.func94 U U fun b Q hQ hN=>?_
 try dsimp only
 refine WS fun _ F=>bp 1 U<|RK F<|ai fun _ AA=>WS fun _ G=>bp 3 U<|RK G<|av<|ly 4<|g7 fun R4 Z=>WS fun _ H=>rS (SX (dG (r:= .bool true) U U U lq) U U)<|RK H<|ai fun _ AB=>aJ U<|WK AB<|ai fun _ J=>av<|WS fun _ K=>bp 2 U<|RK K<|WS fun _ L=>rP 3 [] mn ?_
 refine rS (IA 0 U (aq 0 U) GM dc U I)<|rS (j0 0 0 (kJ.cells (kJ.mk (Value.func (.func 196) [].toArray [].toArray) (Value.func (.func 197) [].toArray [].toArray))) U bQ (aq 0 U) (show fQ[0]? =some [(Value.func (.func 196) [].toArray [].toArray),(Value.func (.func 197) [].toArray [].toArray)] from U) U dc U U)<|rS (CL (DX d sgA sgC g1) (bf [1,2]) U)<|RK L<|cw U (fun X=>?_) (fun X=>?_)
 ·refine WS fun _ M=>rP 2 [] mn ?_
  refine RK M<|an<|Q1 hQ U U U ?_
  clear hQ hN M L K J AB H G AA F
  refine cI ?_
  simp [mC, *]
 refine cy<|aG<|KK J<|ak<|rS (SX (dG (r:= .int .i64 1) U U U (kK ⟨dc,dc⟩)) U U)<|bp 1 U<|RK Z<|g7 fun R12 W=>WS fun _ A=>rS (SX (dG (r:= .bool true) U U U lq) U U)<|RK A<|ai fun _ B=>aJ U<|WK B<|ai fun _ C=>av<|WS fun _ D=>bp 2 U<|RK D<|WS fun _ E=>rP 3 [] mn ?_
 refine rS (IA 1 U (aq 0 U) GM dc U I)<|rS (j0 1 0 (kJ.cells (kJ.mk (Value.func (.func 199) [].toArray [].toArray) (Value.func (.func 200) [].toArray [].toArray))) U bQ (aq 0 U) (show fQ[1]? =some [(Value.func (.func 199) [].toArray [].toArray),(Value.func (.func 200) [].toArray [].toArray)] from U) U dc U U)<|rS (CL (DZ d sgA sgC g1) (bf [1,2]) U)<|RK E<|cw U (fun Y=>?_) (fun Y=>?_)
 ·refine WS fun _ N=>rP 2 [] mn ?_
  refine RK N<|an<|Q1 hQ U U U ?_
  clear hQ hN N E D C B A L K J AB H G AA F
  refine cI ?_
  simp [mC, *]
 refine cy<|aG<|KK C<|ak<|rS (SX (dG (r:= .int .i64 2) U U U (kK ⟨dc,dc⟩)) U U)<|bp 1 U<|RK W<|g7 fun R20 a=>WS fun _ O=>rS (SX (dG (r:= .bool true) U U U lq) U U)<|RK O<|ai fun _ P=>aJ U<|WK P<|ai fun _ V=>av<|WS fun _ R=>bp 2 U<|RK R<|WS fun _ S=>bp 3 U<|rS (IA 2 U (aq 0 U) GM dc U I)<|rS (j0 2 0 (kJ.cells (kJ.mk (Value.func (.func 201) [].toArray [].toArray) (Value.func (.func 202) [].toArray [].toArray))) U bQ (aq 0 U) (show fQ[2]? =some [(Value.func (.func 201) [].toArray [].toArray),(Value.func (.func 202) [].toArray [].toArray)] from U) U dc U U)<|rS (CL (Cz d sgA sgC g1) (bf [1,2]) U)<|RK S<|aJ U<|WS fun _ T=>rP 2 [] mn ?_
 refine RK T<|an<|Q1 hQ U U U ?_
 clear hQ hN T S R V P O E D C B A L K J AB H G AA F
 refine cI ?_
 simp [mC, *]
end
section
open Go.RowKit
theorem Nc (d:aw) (sgA:OA) (sgC g1:Nat) (hk:d.Out=true):
 dL Tryz.prog 94 [(vS gZ 3 3),(Value.func (.func 95) [].toArray [(vP g1)].toArray)] [(rd gZ 3 2 fQ),(rd sgA d.bO.ag.length 2 (d.bO.ag.map aD.cells)),(cd g1 76 (bq.cells (bq.mk d.Out d.de d.Time (j1 d.bO sgA sgC))))] (vI 0):=by
 have h:=ui d sgA sgC g1
 have e:mC d=0:=by simp [mC,hk]
 rw [e] at h
 exact h
theorem Mp (d:aw) (sgA:OA) (sgC g1:Nat) (hk:d.Out=false∧d.de=true):
 dL Tryz.prog 94 [(vS gZ 3 3),(Value.func (.func 95) [].toArray [(vP g1)].toArray)] [(rd gZ 3 2 fQ),(rd sgA d.bO.ag.length 2 (d.bO.ag.map aD.cells)),(cd g1 76 (bq.cells (bq.mk d.Out d.de d.Time (j1 d.bO sgA sgC))))] (vI 1):=by
 have h:=ui d sgA sgC g1
 have e:mC d=1:=by simp [mC,hk]
 rw [e] at h
 exact h
theorem Lz (d:aw) (sgA:OA) (sgC g1:Nat) (hk:d.Out=false∧d.de=false):
 dL Tryz.prog 94 [(vS gZ 3 3),(Value.func (.func 95) [].toArray [(vP g1)].toArray)] [(rd gZ 3 2 fQ),(rd sgA d.bO.ag.length 2 (d.bO.ag.map aD.cells)),(cd g1 76 (bq.cells (bq.mk d.Out d.de d.Time (j1 d.bO sgA sgC))))] (vI 2):=by
 have h:=ui d sgA sgC g1
 have e:mC d=2:=by simp [mC,hk]
 rw [e] at h
 exact h
theorem yW (l:aQ) (kA:OA) (kC:Nat) (az:List RA) (cA:OA) (cC:Nat) (bA:OA) (bC:Nat) (d:aw) (sgA:OA) (sgC:Nat) (hin:dF l az) (hsl:d.bO.ag.length≤1000000) (hk:d.Out=true):
 dL Tryz.prog 71 [(vA (cb.cells (jI l kA kC cA cC bA bC))),(vA (bq.cells (bq.mk d.Out d.de d.Time (j1 d.bO sgA sgC))))] [(rd gZ 3 2 fQ),(rd kA l.aH.length 9 (l.aH.map aj.cells)),(rd cA l.ah.length 2 (List.zipWith al.cells l.ah az)),(eg (aZ al.fB l.ah az)),(rd bA l.ab.length 4 (l.ab.map bL.cells)),(rd sgA d.bO.ag.length 2 (d.bO.ag.map aD.cells))] (vT [(vA (aa.cells (eL l d))),(vB (decide (gN l d)))]):=by
 refine bu kr Tryz.func71 U U fun AA Q hQ hN=>?_
 try dsimp only
 refine WS fun _ A=>eQ U fun G=>eQ U fun D=>AL U cR fun H=>bp 1 U<|RK A<|WS fun _ B=>rS (SX (AP U U wm) U U)<|rS (FU U)<|rS (CL (Nc d sgA sgC D hk) (JV 3 8 1 U U U U U U) U)<|bp 1 U<|RK B<|ai fun _ C=>cU bX 9 kr<|jY 1 U<|dS (SX (Aw (k:=0) U U U wm U I) U U)<|dS (mF ((0*2)+1) U (aq 3 U) (Nat.mul_pos I dc) fq U)<|dS (fE 0 1 (Value.func (.func 197) [].toArray [].toArray) U bQ (aq 3 U) (show fQ[0]? =some [(Value.func (.func 196) [].toArray [].toArray),(Value.func (.func 197) [].toArray [].toArray)] from U) U dc U)<|lg 2 [0,1] (mc 2 U (mc 1 U mn)) U<|dS (CL (Iw l kA kC az cA cC bA bC d sgA sgC hin) (bf [4,5,6,7,8]) U)<|jY 2 U<|cv<|fg U bS U<|rP 1 [] mn ?_
 refine RK C<|an<|ja hQ [0] (mc 0 U mn) U ?_
 have E:=B8 (l:=l) hk
 have F:=oW (l:=l) hk
 simp only [E,F]
theorem yY (l:aQ) (kA:OA) (kC:Nat) (az:List RA) (cA:OA) (cC:Nat) (bA:OA) (bC:Nat) (d:aw) (sgA:OA) (sgC:Nat) (hin:dF l az) (hsl:d.bO.ag.length≤1000000) (hk:d.Out=false∧d.de=true):
 dL Tryz.prog 71 [(vA (cb.cells (jI l kA kC cA cC bA bC))),(vA (bq.cells (bq.mk d.Out d.de d.Time (j1 d.bO sgA sgC))))] [(rd gZ 3 2 fQ),(rd kA l.aH.length 9 (l.aH.map aj.cells)),(rd cA l.ah.length 2 (List.zipWith al.cells l.ah az)),(eg (aZ al.fB l.ah az)),(rd bA l.ab.length 4 (l.ab.map bL.cells)),(rd sgA d.bO.ag.length 2 (d.bO.ag.map aD.cells))] (vT [(vA (aa.cells (eL l d))),(vB (decide (gN l d)))]):=by
 refine bu kr Tryz.func71 U U fun AA Q hQ hN=>?_
 try dsimp only
 refine WS fun _ A=>eQ U fun G=>eQ U fun D=>AL U cR fun H=>bp 1 U<|RK A<|WS fun _ B=>rS (SX (AP U U wm) U U)<|rS (FU U)<|rS (CL (Mp d sgA sgC D hk) (JV 3 8 1 U U U U U U) U)<|bp 1 U<|RK B<|ai fun _ C=>cU bX 9 kr<|jY 1 U<|dS (SX (Aw (k:=1) U U U wm U I) U U)<|dS (mF ((1*2)+1) U (aq 3 U) (Nat.mul_pos I dc) fq U)<|dS (fE 1 1 (Value.func (.func 200) [].toArray [].toArray) U bQ (aq 3 U) (show fQ[1]? =some [(Value.func (.func 199) [].toArray [].toArray),(Value.func (.func 200) [].toArray [].toArray)] from U) U dc U)<|lg 2 [0,1] (mc 2 U (mc 1 U mn)) U<|dS (CL (HH l kA kC az cA cC bA bC d sgA sgC hin) (bf [4,5,6,7,8]) U)<|jY 2 U<|cv<|fg U bS U<|rP 1 [] mn ?_
 refine RK C<|an<|ja hQ [0] (mc 0 U mn) U ?_
 have E:=Cd (l:=l) hk
 have F:=tG (l:=l) hk
 simp only [E,F]
theorem xU (l:aQ) (kA:OA) (kC:Nat) (az:List RA) (cA:OA) (cC:Nat) (bA:OA) (bC:Nat) (d:aw) (sgA:OA) (sgC:Nat) (hin:dF l az) (hsl:d.bO.ag.length≤1000000) (hk:d.Out=false∧d.de=false):
 dL Tryz.prog 71 [(vA (cb.cells (jI l kA kC cA cC bA bC))),(vA (bq.cells (bq.mk d.Out d.de d.Time (j1 d.bO sgA sgC))))] [(rd gZ 3 2 fQ),(rd kA l.aH.length 9 (l.aH.map aj.cells)),(rd cA l.ah.length 2 (List.zipWith al.cells l.ah az)),(eg (aZ al.fB l.ah az)),(rd bA l.ab.length 4 (l.ab.map bL.cells)),(rd sgA d.bO.ag.length 2 (d.bO.ag.map aD.cells))] (vT [(vA (aa.cells (eL l d))),(vB (decide (gN l d)))]):=by
 refine bu kr Tryz.func71 U U fun AA Q hQ hN=>?_
 try dsimp only
 refine WS fun _ A=>eQ U fun G=>eQ U fun D=>AL U cR fun H=>bp 1 U<|RK A<|WS fun _ B=>rS (SX (AP U U wm) U U)<|rS (FU U)<|rS (CL (Lz d sgA sgC D hk) (JV 3 8 1 U U U U U U) U)<|bp 1 U<|RK B<|ai fun _ C=>cU bX 9 kr<|jY 1 U<|dS (SX (Aw (k:=2) U U U wm U I) U U)<|dS (mF ((2*2)+1) U (aq 3 U) (Nat.mul_pos I dc) fq U)<|dS (fE 2 1 (Value.func (.func 202) [].toArray [].toArray) U bQ (aq 3 U) (show fQ[2]? =some [(Value.func (.func 201) [].toArray [].toArray),(Value.func (.func 202) [].toArray [].toArray)] from U) U dc U)<|lg 2 [0,1] (mc 2 U (mc 1 U mn)) U<|dS (CL (H9 l kA kC az cA cC bA bC d sgA sgC hin hsl) (bf [4,5,6,7,8]) U)<|jY 2 U<|cv<|fg U bS U<|rP 1 [] mn ?_
 refine RK C<|an<|ja hQ [0] (mc 0 U mn) U ?_
 have E:=Cs (l:=l) hk
 have F:=ug (l:=l) hk
 simp only [E,F]
theorem zZ (l:aQ) (kA:OA) (kC:Nat) (az:List RA) (cA:OA) (cC:Nat) (bA:OA) (bC:Nat) (d:aw) (sgA:OA) (sgC:Nat) (hin:dF l az) (hsl:d.bO.ag.length≤1000000):
 dL Tryz.prog 71 [(vA (cb.cells (jI l kA kC cA cC bA bC))),(vA (bq.cells (bq.mk d.Out d.de d.Time (j1 d.bO sgA sgC))))] [(rd gZ 3 2 fQ),(rd kA l.aH.length 9 (l.aH.map aj.cells)),(rd cA l.ah.length 2 (List.zipWith al.cells l.ah az)),(eg (aZ al.fB l.ah az)),(rd bA l.ab.length 4 (l.ab.map bL.cells)),(rd sgA d.bO.ag.length 2 (d.bO.ag.map aD.cells))] (vT [(vA (aa.cells (eL l d))),(vB (decide (gN l d)))]):=by
 by_cases ho:d.Out=true
 ·exact yW l kA kC az cA cC bA bC d sgA sgC hin hsl ho
 by_cases hf:d.de=true
 ·exact yY l kA kC az cA cC bA bC d sgA sgC hin hsl ⟨by simpa using ho,hf⟩
 ·exact xU l kA kC az cA cC bA bC d sgA sgC hin hsl ⟨by simpa using ho,by simpa using hf⟩
end
section
open Go.RowKit
theorem yx (lA:OA) (lN lC:Nat):
 pH Tryz.prog 63 [(vS lA lN lC)] [] (fun (x:Nat)=>(Value.func (.func 85) [].toArray [(vP x)].toArray)) (fun (x:Nat)=>True) (fun (x:Nat)=>[(cd x 29 [(vS lA lN lC)])]):=by
 refine fm kr Tryz.func63 U U fun D Q hQ hN=>?_
 try dsimp only
 refine WS fun _ A=>xp U U fun C=>bp 1 U<|RK A<|WS fun _ B=>rS (FU U)<|rP 1 [] mn ?_
 refine RK B<|an<|LX hQ C [0] [] mn U U U U ?_
 trivial
theorem E6 (nl:List Int) (nlA:OA) (nlC g1:Nat) (hlen:nl.length≤12):
 Iy Tryz.prog 85 [] [(vP g1)] [(rd nlA nl.length 1 (nl.map iC)),(cd g1 29 [(vS nlA nl.length nlC)])] (oL nl):=by
 refine BY kr Tryz.func85 U U fun l J Z A0 T Q hY K AB hQ hN=>?_
 try dsimp only
 refine WS fun _ M=>rP 3 [] (mr 2 U mn) ?_
 refine RK M<|av ?_
 have F:(0≤nl.length)∧(J 0 A0)∧(Fo A0 T A0):=by exact ⟨Nat.zero_le _,K,AB⟩
 refine bI (ι:={z:Nat×ao // (z.1≤nl.length)∧(J z.1 z.2)∧(Fo A0 T z.2)}) [0,1,5,6] [1] U U (fun z=>[(7,(vI (z.1.1:Int)))]) (fun z=>[z.1.2]) (fun _=>rfl) (fun _=>rfl) (fun z=>nl.length-z.1.1) ⟨(0,A0),F⟩ (aU U) (aC [1,0]) ?_
 clear F
 rintro ⟨⟨i,A⟩,⟨G,B,C⟩⟩ J2 L
 try dsimp only at G B C
 try dsimp only
 refine WS fun _ N=>rP 1 [] mn ?_
 refine RK N<|ai fun _ O=>bH U (aP fun AA=>?_) (aO fun AA=>?_)
 ·refine bx<|ae<|ae<|ax ?_
  refine hN _ _ _ (jN (vs:=[]) trivial fun w hs=>Nd 1 U (by rw [ql]; have e:nl.length=i:=I; rw [e]; exact B) C hs)
 refine WK O<|ai fun _ P=>av<|WS fun _ R=>?_
 obtain ⟨x,hx⟩:=aB nl i I
 have S:=br iC hx
 refine rS (IA i U (aq 0 U) cN dc I I)<|rS (fE i 0 (vI x) U bQ (aq 0 U) S U dc U)<|bp 1 U<|RK R<|WS fun _ H=>rP 2 [] mn ?_
 refine BR 1 hY B C U U U (De hx) U U (fun B9 E D=>?_) (fun B9 E D=>?_)
 rotate_left 1
 ·refine rP 1 [] mn ?_
  refine RK H<|aJ U<|an ?_
  refine hQ _ _ _ (jN (vs:=[]) trivial fun w hs=>IS 1 U E D hs)
 refine bp 1 U<|RK H<|bU U<|cy<|aG<|KK P<|ak<|rP 2 [] mn ?_
 refine aA ?_
 refine aS (L ⟨((i+1),B9),⟨I,E,D⟩⟩ _ _ _ U os (aU U) (aC [0,1]))
end
section
open Go.RowKit
theorem H7 (x:Int):
 dL Tryz.prog 146 [(vI x)] [] (vB false):=by
 refine bu kr Tryz.func146 U U fun C Q hQ hN=>?_
 try dsimp only
 refine WS fun _ A=>bp 1 U<|RK A<|WS fun _ B=>rP 4 [] mn ?_
 refine RK B<|an<|Q1 hQ U U U ?_
 simp
theorem Hs (x y:Int):
 dL Tryz.prog 105 [(vI x),(vI y)] [] (vB (decide (x<y))):=by
 refine bu kr Tryz.func105 U U fun C Q hQ hN=>?_
 try dsimp only
 refine WS fun _ A=>bp 1 U<|RK A<|WS fun _ B=>bp 1 U<|rS (CL (H7 x) (aR) U)<|rP 11 [] mn ?_
 refine RK B<|an<|Q1 hQ U U U ?_
 exact cB (decide_eq_decide.2 I)
theorem CS (l:List Int) (lA:OA) (lC:Nat) (hlen:l.length≤1000000):
 zS Tryz.prog 99 [(vS lA l.length lC),(vI 0),(vI (l.length:Int))] [] (own lA lC 3 1 (l.map iC)) (fun (x:(List Int))=>(vT [])) (fun (x:(List Int))=>x.Perm l∧x.Pairwise (· ≤ ·)) (fun (x:(List Int))=>(own lA lC 3 1 (x.map iC))):=by
 refine lS kr Tryz.func99 U U fun g Q hQ hN=>?_
 try dsimp only
 refine WS fun _ X=>bp 1 U<|rS (SX (dG (r:= .int .i64 1) U U U (kK ⟨dc,dc⟩)) U U)<|rP 1 [] mn ?_
 refine RK X<|av ?_
 have A:(1≤1∧(1≤l.length∨1=1))∧(l.length=l.length)∧(l.Perm l)∧(J_ l 1):=by exact ⟨I,rfl,List.Perm.refl _,HA⟩
 refine bI (ι:={z:Nat×(List Int) // (1≤z.1∧(z.1≤l.length∨z.1=1))∧(z.2.length=l.length)∧(z.2.Perm l)∧(J_ z.2 z.1)}) [0,1,2] [] U U (fun z=>[(6,(vI (z.1.1:Int)))]) (fun z=>[(own lA lC 3 1 (z.1.2.map iC))]) (fun _=>rfl) (fun _=>rfl) (fun z=>l.length-z.1.1) ⟨(1,l),A⟩ (aU U) (aC [0]) ?_
 clear A
 rintro ⟨⟨i,m⟩,⟨K,AB,E,F⟩⟩ J2 M
 try dsimp only at K AB E F
 try dsimp only
 refine ai fun _ Y=>WS fun _ Z=>rP 3 [] mn ?_
 refine RK Z<|bH U (aP fun e=>?_) (aO fun e=>?_)
 ·refine bx<|ae<|ae<|ax<|LM hN m 0 [] mn U U U U ?_
  exact ⟨E,Iq F I⟩
 refine WK Y<|ai fun _ O=>av<|WS fun _ b=>rP 2 [] mn ?_
 refine RK b<|av ?_
 have A:(i≤i)∧(m.length=l.length)∧(m.Perm l)∧(KU m i i):=by exact ⟨Nat.le_refl _,AB,E,Da F I⟩
 refine bI (ι:={z:Nat×(List Int) // (z.1≤i)∧(z.2.length=l.length)∧(z.2.Perm l)∧(KU z.2 i z.1)}) [0,1,2,6] [] U U (fun z=>[(7,(vI (z.1.1:Int)))]) (fun z=>[(own lA lC 3 1 (z.1.2.map iC))]) (fun _=>rfl) (fun _=>rfl) (fun z=>z.1.1) ⟨(i,m),A⟩ (aU U) (aC [0]) ?_
 clear A
 rintro ⟨⟨j,q⟩,⟨G,B,C,D⟩⟩ J8 W
 try dsimp only at G B C D
 try dsimp only
 refine ai fun _ c=>ai fun _ J=>cU bX 15 kr<|dP 4 [] mn ?_
 refine fU (t:=19) U (aP fun hj=>?_) (aO fun hj=>?_)
 ·refine jY 11 U<|cv<|RK J<|bU U<|bx<|ae<|ae<|ax<|aG<|KK O<|ak<|rP 3 [] mn ?_
  refine aA ?_
  refine aS (M ⟨((i+1),q),⟨I,B,C,by exact Fh I D⟩⟩ _ _ _ U (by simp only []; omega) (aU U) (aC [0]))
 refine dP 2 [] mn ?_
 obtain ⟨x,hx⟩:=aB q j I
 have L:=br iC hx
 refine dS (IA j U (au (n:=l.length) 0 U sq) cN dc I I) ?_
 refine dS (fE j 0 (vI x) U bQ (au (n:=q.length) 0 U sm) L U dc U)<|dP 3 [] mn ?_
 obtain ⟨y,hy⟩:=aB q (j-1) I
 have V:=br iC hy
 refine dS (IA (j-1) U (au (n:=l.length) 0 U sq) cN dc I I) ?_
 refine dS (fE (j-1) 0 (vI y) U bQ (au (n:=q.length) 0 U sm) V U dc U)<|dS (CL (Hs x y) (aR) U)<|dP 1 [] mn ?_
 refine cv<|RK J<|bH U (aP fun H=>?_) (aO fun H=>?_)
 ·refine bx<|ae<|ae<|ax<|aG<|KK O<|ak<|rP 3 [] mn ?_
  refine aA ?_
  refine aS (M ⟨((i+1),q),⟨I,B,C,by exact GZ hx hy I G H D⟩⟩ _ _ _ U (by simp only []; omega) (aU U) (aC [0]))
 refine WK c<|ai fun _ N=>av<|dj bX [15,16,17] [8,9,12,13,14] [] [] [0] U U U U U<|eS U (MV U)<|eS U (MV U)<|eS U (MV U)<|eS U (MV U)<|eS U (BI U (pG ⟨I,I⟩))<|eS U (MV U)<|eS U (MV U)<|eS U (BI U (pG ⟨I,I⟩)) ?_
 refine fS U (IA (j-1) U (au (n:=l.length) 0 U sq) cN dc I I) ?_
 refine fS U (fE (j-1) 0 (vI y) U bQ (au (n:=q.length) 0 U sm) V U dc U)<|eS U (MV U)<|eS U (MV U) ?_
 refine fS U (IA j U (au (n:=l.length) 0 U sq) cN dc I I) ?_
 refine fS U (fE j 0 (vI x) U bQ (au (n:=q.length) 0 U sm) L U dc U) ?_
 refine fS U (IA j U (au (n:=l.length) 0 U sq) cN dc I I) ?_
 refine dW U<|bV U fun T12 P=>d_ (k:=j) (o:=0) (vs:=[(vI y)]) (es':=(List.map iC (q.set j y))) (C':=[(own lA lC 3 1 (List.map iC (q.set j y)))]) 0 U U U xN U U U U L U dc (by exact (List.map_set (f:=iC) (l:=q) (i:=j) (a:=y)).symm) U<|aA (P _ _ (aC []) ?_)
 refine bV U fun T13 R=>?_
 obtain ⟨d,AA⟩:=aB (q.set j y) (j-1) os
 have hx15m:(List.map iC (q.set j y))[(j-1)]? =some (iC d):=by rw [eG,AA]; rfl
 refine rS (IA (j-1) U (au (n:=l.length) 0 U sq) cN dc I I) ?_
 refine aA (R _ _ (aC []) ?_)
 refine bV U fun T16 S=>d_ (k:=(j-1)) (o:=0) (vs:=[(vI x)]) (es':=(List.map iC ((q.set j y).set (j-1) x))) (C':=[(own lA lC 3 1 (List.map iC ((q.set j y).set (j-1) x)))]) 0 U U U xN U U U U hx15m U dc (by exact (List.map_set (f:=iC) (l:=(q.set j y)) (i:=(j-1)) (a:=x)).symm) U<|aA (S _ _ (aC []) ?_)
 refine eU U<|aG<|KK N<|ak<|rP 3 [] mn ?_
 refine aA ?_
 have T:(vI (((j-1):Nat):Int))=(vI ((j:Int)-1)):=by exact cI I
 refine aS (W ⟨((j-1),((q.set j y).set (j-1) x)),⟨I,by simp; exact B,(Eb hx hy).trans C,Gw hx hy I G H D⟩⟩ _ _ _ U (by simp only []; omega) (cE 4<|aV U T<|cS.nil _) (aC [0]))
theorem HO (x:Int) (hx:0≤x∧x≤100):
 pH Tryz.prog 109 [(Value.int .u64 x)] [] (fun (x:Int)=>(vI x)) (fun (x:Int)=>True) (fun (x:Int)=>[]):=by
 refine fm kr Tryz.func109 U U fun N Q hQ hN=>?_
 try dsimp only
 refine WS fun _ D=>bp 1 U<|RK D<|ai fun _ E=>WS fun _ F=>rP 1 [] mn ?_
 refine rS (BI U B1)<|RK F<|cw U (aO fun L=>?_) (aP fun L=>?_)
 ·exfalso; omega
 refine WK E<|ai fun _ G=>WS fun _ H=>rP 1 [] mn ?_
 refine rS (BI U B1)<|RK H<|cw U (aO fun M=>?_) (aP fun M=>?_)
 ·exfalso; omega
 refine WK G<|ai fun _ AA=>WS fun _ J=>rP 1 [] mn ?_
 refine rS (BI U B1)<|RK J<|cw U (aO fun C=>?_) (aP fun C=>?_)
 ·exfalso; omega
 refine WK AA<|WS fun _ B=>bp 2 U<|rS (SX (tq (m:=x) U U Nm Mm (xT (by first|assumption|omega))) U U)<|Ke (k:=(x).toNat) U U U PC I (Nat.lt_of_lt_of_le (m:=200) I (of_decide_eq_true kr)) U fun A K=>rS (SX (tq (m:=A) U U Mm p_ (sr (by first|assumption|omega))) U U)<|rP 2 [] mn ?_
 refine RK B<|an<|LX hQ (0+A) [] [] mn U U U U ?_
 trivial
theorem Kj (x:Int) (hx:0≤x∧x≤100):
 pH Tryz.prog 81 [(Value.int .u64 x)] [] (fun (x:Int)=>(vI x)) (fun (x:Int)=>True) (fun (x:Int)=>[]):=by
 refine fm kr Tryz.func81 U U fun F Q hQ hN=>?_
 try dsimp only
 refine WS fun _ A=>bp 1 U<|RK A<|ai fun _ B=>bU U<|WK B<|WS fun _ C=>rP 1 [] mn ?_
 refine cX (HO x hx) (aR) U fun E D=>?_
 try dsimp only
 refine rP 1 [] mn ?_
 refine RK C<|an<|LX hQ E [] [] mn U U U U ?_
 trivial
theorem NH (l:List Int) (lA:OA) (lC:Nat) (u:Int) (hlen:l.length≤12):
 zS Tryz.prog 80 [(vS lA l.length lC),(vI 0),(vI (l.length:Int)),(vI u)] [] (own lA lC 3 1 (l.map iC)) (fun (x:(List Int))=>(vT [])) (fun (x:(List Int))=>x.Perm l∧x.Pairwise (· ≤ ·)) (fun (x:(List Int))=>(own lA lC 3 1 (x.map iC))):=by
 refine lS kr Tryz.func80 U U fun K Q hQ hN=>?_
 try dsimp only
 refine WS fun _ A=>bp 1 U<|RK A<|WS fun _ B=>bp 1 U<|RK B<|av<|ly 1<|g7 fun R3 AA=>av<|WS fun _ C=>bp 4 U<|RK C<|ai fun _ H=>WS fun _ D=>rP 2 [] mn ?_
 refine RK D<|bH U (aP fun G=>?_) (aO fun G=>?_)
 ·exfalso; omega
 refine WS fun _ E=>rP 3 [] mn ?_
 refine js 0 U U U U (CS l lA lC I) U kE U (fun J F=>?_)
 try dsimp only
 refine RK E<|an<|LM hQ J 0 [] mn U U U U ?_
 assumption
theorem JR (l:List Int) (lA:OA) (lC:Nat) (hlen:l.length≤12):
 zS Tryz.prog 57 [(vS lA l.length lC)] [] (own lA lC 3 1 (l.map iC)) (fun (x:(List Int))=>(vT [])) (fun (x:(List Int))=>x.Perm l∧x.Pairwise (· ≤ ·)) (fun (x:(List Int))=>(own lA lC 3 1 (x.map iC))):=by
 refine lS kr Tryz.func57 U U fun F Q hQ hN=>?_
 try dsimp only
 refine WS fun _ A=>bp 3 U<|RK A<|ak<|rP 3 [] mn ?_
 refine rS (SX (tq (m:=(l.length:Int)) U U p_ MD (w5 (by first|assumption|omega))) U U)<|cX (Kj (l.length:Int) I) (aR) U fun E B=>?_
 try dsimp only
 refine js 0 U U U U (NH l lA lC E hlen) U kE U (fun D C=>?_)
 try dsimp only
 refine aA<|LM hN D 0 [] mn U U U U ?_
 assumption
end
section
open Go.RowKit
theorem GV (nl:List Int) (nlA:OA) (nlC g1:Nat) (hlen:nl.length≤12):
 pH Tryz.prog 98 [(vS none 0 0),(Value.func (.func 85) [].toArray [(vP g1)].toArray)] [(rd nlA nl.length 1 (nl.map iC)),(cd g1 29 [(vS nlA nl.length nlC)])] (fun (x:(OA)×Nat)=>(vS x.1 nl.length x.2)) (fun (x:(OA)×Nat)=>True) (fun (x:(OA)×Nat)=>[(own x.1 x.2 3 1 (nl.map iC))]):=by
 refine fm kr Tryz.func98 U U fun R Q hQ hN=>?_
 try dsimp only
 refine WS fun _ D=>xp U U fun J=>bp 1 U<|RK D<|ai fun _ E=>WS fun _ G=>rP 1 [] mn ?_
 refine RK G<|av<|lR 1 U (by exact fun _ h=>h)<|lR 3 U (by exact fun _ h=>h)<|fT 3 1 ?_
 refine B6 (L0:=[(2,(vP J))]) (F:=[(rd nlA nl.length 1 (nl.map iC)).ro,(cd g1 29 [(vS nlA nl.length nlC)]).ro]) (xs:=(oL nl)) (fun k (y:(OA)×Nat)=>True) (fun k y=>[(own y.1 y.2 3 1 ((nl.take k).map iC)),(cd J 29 [(vS y.1 ((nl.take k).length) y.2)]),(rd nlA nl.length 1 (nl.map iC)).ro]) (fun _ (_:Unit)=>False) (fun _ _=>[]) [0,3,4] [2,1] (none,0) U U (E6 nl nlA nlC g1 (by first|assumption|omega|(simp; done))) U U U (by trivial) (by simp only [List.forall_mem_cons,List.not_mem_nil,false_imp_iff,implies_true,and_true]; exact ⟨⟨_,sm,(dH (bP _))⟩,⟨_,sm,(dH (bP _))⟩⟩) (by exact Ar) U (aU U) ?_ ?_ (fun _ _ _ h=>h.elim) (fun _ _ h=>h.elim)
 rotate_left 1
 ·rintro O ⟨a,c⟩ AA
  try dsimp only
  rw [vC]
  refine aG<|KK E<|WS fun _ A=>rP 2 [] (mc 4 U mn) ?_
  refine RK A<|an<|hQ _ _ _ (p9 0 U U<|jN (vs:=[(vS a nl.length c)]) ⟨U,trivial⟩ fun w hs=>Mh (a,c) [3] ?_ ?_ U U U hs)
  ·rfl
  ·trivial
 rintro k x ⟨a,c⟩ l ra rb S T K5 Qr6 hx K H B L M
 obtain ⟨y,hy,rfl⟩:=DK hx
 try dsimp only
 refine ak<|rP 1 [] mn ?_
 refine aA<|aS (H _ _ ?_)
 refine av<|ak<|rP 2 [] (mc 2 U mn) ?_
 refine fw (xs:=[.tmp 9]) (cs:=[(vI y)]) U cN lX U U U U (by simp [Value.cells]) U U fun P=>?_
 refine cG (es2:=(List.map iC (nl.take (k+1)))) (m':=(nl.take (k+1)).length) 2 U U U l0 U U sm (bj (es:=List.map iC [y]) 0 U U (by simp [bW]) U) (gL _) (by simp; omega) (by simp [maxLen]; omega) (by rw [nW hy]; simp) sm U fun N C=>?_
 try dsimp only
 refine PH U FW U U<|aA<|aG ?_
 exact B (N,C) _ _ (by trivial) (aC [1,2,3,4])
theorem C8 (nl:List Int) (nlA:OA) (nlC g1:Nat) (hlen:nl.length≤12):
 pH Tryz.prog 78 [(Value.func (.func 85) [].toArray [(vP g1)].toArray)] [(rd nlA nl.length 1 (nl.map iC)),(cd g1 29 [(vS nlA nl.length nlC)])] (fun (x:(OA)×Nat)=>(vS x.1 nl.length x.2)) (fun (x:(OA)×Nat)=>True) (fun (x:(OA)×Nat)=>[(own x.1 x.2 3 1 (nl.map iC))]):=by
 refine fm kr Tryz.func78 U U fun G Q hQ hN=>?_
 try dsimp only
 refine WS fun _ A=>bp 1 U<|RK A<|WS fun _ B=>rP 1 [] mn ?_
 refine cX (GV nl nlA nlC g1 hlen) (bf [0,1]) U fun F E=>?_
 obtain ⟨C,D⟩:=F
 try dsimp only
 refine rP 1 [] mn ?_
 refine RK B<|an<|LX hQ (C,D) [0] [] mn U U U U ?_
 trivial
theorem ym (nl:List Int) (nlA:OA) (nlC g1:Nat) (hlen:nl.length≤12):
 pH Tryz.prog 54 [(Value.func (.func 85) [].toArray [(vP g1)].toArray)] [(rd nlA nl.length 1 (nl.map iC)),(cd g1 29 [(vS nlA nl.length nlC)])] (fun (x:(OA)×Nat)=>(vS x.1 nl.length x.2)) (fun (x:(OA)×Nat)=>True) (fun (x:(OA)×Nat)=>[(own x.1 x.2 3 1 ((kO nl).map iC))]):=by
 refine fm kr Tryz.func54 U U fun J Q hQ hN=>?_
 try dsimp only
 refine WS fun _ B=>bp 1 U<|RK B<|WS fun _ C=>rP 1 [] mn ?_
 refine cX (C8 nl nlA nlC g1 hlen) (bf [0,1]) U fun AA H=>?_
 obtain ⟨F,G⟩:=AA
 try dsimp only
 refine bp 1 U<|RK C<|WS fun _ D=>rP 1 [] mn ?_
 refine js 0 U U U U (JR nl F G hlen) U kE U (fun m A=>?_)
 try dsimp only
 refine RK D<|WS fun _ E=>?_
 obtain rfl:=zq A.1 A.2
 skip
 refine rP 2 [] mn ?_
 refine RK E<|an<|LX hQ (F,G) [0] [] mn U U U U ?_
 trivial
end
section
open Go.RowKit
theorem Fv (r:cV) (kA:OA) (kC:Nat) (az:List RA) (cA:OA) (cC:Nat) (bA:OA) (bC:Nat) (slA:OA) (slC:Nat) (drA:OA) (drC:Nat) (ha:List dv) (heA:OA) (heC:Nat) (tz:List RA) (tA:OA) (tC:Nat) (ms:Value) (gw h:Nat) (gm g1 g2:Nat) (hin:fZ r az ha) (htz:tz.length=r.ay.length) (hh:h<r.ay.length) (hok:iw r (h+1)):
 zS Tryz.prog 74 [(vI (h:Int)),(vP g1),(vP g2)] [(rd kA r.aF.aH.length 9 (r.aF.aH.map aj.cells)),(rd cA r.aF.ah.length 2 (List.zipWith al.cells r.aF.ah az)),(eg (aZ al.fB r.aF.ah az)),(rd bA r.aF.ab.length 4 (r.aF.ab.map bL.cells)),(rd slA r.aT.length 1 (r.aT.map iC)),(rd drA r.bo.length 1 (r.bo.map iC)),(rd heA r.ay.length 1 (List.zipWith c_ r.ay ha)),(eg (aZ gP r.ay ha)),(rd tA ((cj r).length) 1 (List.zipWith wF (cj r) tz)),(eg (aZ xM (cj r) tz)),(cd gw 100 (g0.cells (g0.mk (pB r kA kC cA cC bA bC slA slC drA drC heA heC) (bE.mk tA ((cj r).length) tC) ms))),(cd g1 77 [(vP gw)]),(cd g2 86 [(Value.map (some gm))])] (jV iV gm (cz gE (dC r.aF r.ay r.aT.length h 0))) (fun (x:Unit)=>(vT [])) (fun (x:Unit)=>True) (fun (x:Unit)=>(jV iV gm (cz gE (dC r.aF r.ay r.aT.length (h+1) 0)))):=by
 have w:=hin.line
 have AJ:=hin.iG
 have AK:=hin.has
 have AD:=hin.iE
 have AB:=hin.draw
 have AE:=dK (r:=r)
 refine lS kr Tryz.func74 U U fun w0 Q hQ hN=>?_
 try dsimp only
 refine WS fun _ g=>eZ 1 [] (mr 12 U mn) U<|rS (SX (cm U U) U U)<|rP 3 [] (mr 11 U mn) ?_
 obtain ⟨ht,B⟩:=aB r.ay h I
 obtain ⟨A,C⟩:=aB ha h I
 have Z:(List.zipWith c_ r.ay ha)[h]? =some (c_ ht A):=db B C
 have u:=hin.mH _ _ _ B C
 have AC:=u.mE
 have N:=hok h ht I B
 obtain ⟨tr,G⟩:=aB (cj r) h I
 obtain ⟨tra,F⟩:=aB tz h I
 have c:(List.zipWith wF (cj r) tz)[h]? =some (wF tr tra):=db G F
 refine rS (IA h U (aq 9 U) Bn dc I I)<|rS (fE h 0 (vS tra.1 tr.length tra.2) U bQ (aq 9 U) c U dc U) ?_
 have AN:=px B G
 have AG:tr.length=r.aT.length:=by rw [AN,List.length_map]; exact N.1
 have AF:=N.1
 refine rP 2 [] mn ?_
 refine RK g<|av ?_
 have E:(0≤r.aT.length):=by exact Nat.zero_le _
 refine bI (ι:={z:Nat // (z≤r.aT.length)}) [0,1,2,14,15] [1,2,3,4,5,6,7,8,9,10,11,12,13] U U (fun z=>[(16,(vI (z.1:Int)))]) (fun z=>[(jV iV gm (cz gE (dC r.aF r.ay r.aT.length h z.1)))]) (fun _=>rfl) (fun _=>rfl) (fun z=>r.aT.length-z.1) ⟨0,E⟩ (aU U) (aC [1,2,3,4,5,6,7,8,9,10,11,12,13,0]) ?_
 clear E
 rintro ⟨i,v⟩ J2 K
 try dsimp only
 have a:i<r.aT.length→(dC r.aF r.ay r.aT.length h i).lookup (i:Int)=eu r.aF r.ay i h:=Gd
 refine WS fun _ k=>rP 1 [] mn ?_
 refine RK k<|ai fun _ m=>bH U (aP fun h5=>?_) (aO fun h5=>?_)
 ·refine bx<|ae<|ae<|ax ?_
  rw [show (dC r.aF r.ay r.aT.length h i)=(dC r.aF r.ay r.aT.length (h+1) 0) from by rw [show i=r.aT.length by omega]; exact II]
  refine LM hN () 13 [] mn U U U U ?_
  trivial
 refine WK m<|ai fun _ L=>av<|WS fun _ o=>rP 1 [] mn ?_
 obtain ⟨x,hx⟩:=aB tr i I
 have AA:=br aa.cells hx
 refine rS (IA i U (show fR _ (rd tra.1 tr.length 2 (tr.map aa.cells)).holds from (bT 9 U (bk G F (by simp [xM])))) kB dc I I)<|rS (j0 i 0 (aa.cells x) U bQ (show fR _ (rd tra.1 tr.length 2 (tr.map aa.cells)).holds from (bT 9 U (bk G F (by simp [xM])))) AA U dc U U)<|AL U cR fun b8=>bp 1 U<|fg U bS U<|RK o<|WS fun _ p=>eZ 2 [] (mr 13 U mn) U<|rS (SX (lI (kV:=iV) (x:=(i:Int)) (l:=(dC r.aF r.ay r.aT.length h i)) (f:=gE) (z:=(aa.mk 0 0)) U U U sZ (h_ p_) Ev (by exact aq 14 U)) U U)<|bp 3 U<|AL U cR fun AH=>fg U bS U<|bp 1 U<|RK p<|ai fun _ P=>WS fun _ H=>eZ 1 [] (mr 13 U mn) U<|rS (SX (cm U U) U U)<|eZ 4 [] (mr 12 U mn) U<|rS (IA h U (aq 8 U) mL dc I I)<|rS (fE h 0 (vS A.1.1 ht.length A.1.2) U bQ (aq 8 U) Z U dc U)<|rP 1 [] mn ?_
 obtain ⟨d,hd⟩:=aB ht i I
 obtain ⟨da,q⟩:=aB A.2 i I
 have s:(List.zipWith aw.cells ht A.2)[i]? =some (aw.cells d da):=db hd q
 refine rS (IA i U (show fR _ (rd A.1.1 ht.length 7 (List.zipWith aw.cells ht A.2)).holds from (bT 9 U (bk B C ck))) sU dc I I)<|rS (mF (i*7) U (show fR _ (rd A.1.1 ht.length 7 (List.zipWith aw.cells ht A.2)).holds from (bT 9 U (bk B C ck))) (Nat.mul_pos I dc) fq U)<|rS (fE i 0 (vB d.Out) U bQ (show fR _ (rd A.1.1 ht.length 7 (List.zipWith aw.cells ht A.2)).holds from (bT 9 U (bk B C ck))) s U dc U)<|rP 1 [] mn ?_
 refine cr (t:=39) U (fun J=>?_) (fun J=>?_)
 ·refine bp 3 U<|RK H<|aJ U<|WS fun _ R=>rP 2 [] (mr 14 U mn) ?_
  have T:(ep (dC r.aF r.ay r.aT.length h i) (i:Int))=(dC r.aF r.ay r.aT.length h (i+1)):=by exact B5 (by exact wB B hd J)
  refine uT (kV:=iV) (x:=(i:Int)) (C':=[_,_,_,_,_,_,_,_,_,_,_,_,_,_,_,(jV iV gm (cz gE (dC r.aF r.ay r.aT.length h (i+1))))]) 15 U U U U sZ (h_ p_) U ((n8 _ _ _).symm.trans (congrArg _ T)) U<|RK R<|bx<|ae<|ax<|KK L<|ak<|rP 2 [] mn ?_
  refine aA ?_
  have AI:(vI (((i+1):Nat):Int))=(vI ((i:Int)+1)):=by exact cI I
  refine aS (K ⟨(i+1),(by first|omega|(simp only []; omega))⟩ _ _ _ U os (cE 5<|aV U AI<|cS.nil _) (aC [2,3,4,5,6,7,8,9,10,11,12,13,14,15]))
 refine rP 3 [] mn ?_
 refine RK H<|cw U (fun D=>?_) (fun D=>?_)
 ·rw [Bool.not_eq_true'] at D
  refine WS fun _ S=>rP 2 [] (mr 14 U mn) ?_
  have V:(ep (dC r.aF r.ay r.aT.length h i) (i:Int))=(dC r.aF r.ay r.aT.length h (i+1)):=by exact B5 (by exact uZ ((a I).symm.trans (Option.not_isSome_iff_eq_none.1 (by rw [D]; decide))))
  refine uT (kV:=iV) (x:=(i:Int)) (C':=[_,_,_,_,_,_,_,_,_,_,_,_,_,_,_,(jV iV gm (cz gE (dC r.aF r.ay r.aT.length h (i+1))))]) 15 U U U U sZ (h_ p_) U ((n8 _ _ _).symm.trans (congrArg _ V)) U<|RK S<|bx<|ae<|ax<|KK L<|ak<|rP 2 [] mn ?_
  refine aA ?_
  have W:(vI (((i+1):Nat):Int))=(vI ((i:Int)+1)):=by exact cI I
  refine aS (K ⟨(i+1),(by first|omega|(simp only []; omega))⟩ _ _ _ U os (cE 5<|aV U W<|cS.nil _) (aC [2,3,4,5,6,7,8,9,10,11,12,13,14,15]))
 rw [Bool.not_eq_false'] at D
 refine WK P<|ak ?_
 obtain ⟨O,b⟩:=Option.isSome_iff_exists.1 D
 have M:eu r.aF r.ay i h=some O:=(a I).symm.trans b
 have e:=xE AN hx hd
 have AM:=tm (fun j x hj hx=>hok j x I hx) I M
 have y:=w9 (N.2 d (aI hd))
 rw [← e] at y
 rw [show ((List.lookup (i:Int) (dC r.aF r.ay r.aT.length h i)).getD (aa.mk 0 0))=O from by rw [b]; rfl]
 refine eZ 6 [0,1,2] (mr 14 U (mc 0 U (mc 1 U mn))) U<|rS (BI U (oS I I I))<|eZ 5 [0,1] (mc 0 U (mc 1 U mn)) U<|rS (BI U (oS I I I))<|rP 1 [] mn ?_
 refine rS (SX (bg (xs:=[(0,.tmp 52),(1,.tmp 58)]) (cs:=(aa.cells (aa.mk (O.Lo+(x.Lo/10)) (O.Hi+(x.Hi/10))))) U U (bh eM U)) U U) ?_
 have X:(ei (dC r.aF r.ay r.aT.length h i) (i:Int) (aa.mk (O.Lo+(x.Lo/10)) (O.Hi+(x.Hi/10))))=(dC r.aF r.ay r.aT.length h (i+1)):=by exact Ii I (by rw [M]; rfl) (by rw [e]; exact tL B hd (by rw [J]; decide) M)
 refine jF (kV:=iV) (x:=(i:Int)) (C':=[_,_,_,_,_,_,_,_,_,_,_,_,_,_,_,(jV iV gm (cz gE (dC r.aF r.ay r.aT.length h (i+1))))]) 15 U U U U sZ (h_ p_) U ((gJ _ _ _ _).symm.trans (congrArg _ X)) U<|aA<|aG<|KK L<|ak<|rP 2 [] mn ?_
 refine aA ?_
 have Y:(vI (((i+1):Nat):Int))=(vI ((i:Int)+1)):=by exact cI I
 refine aS (K ⟨(i+1),(by first|omega|(simp only []; omega))⟩ _ _ _ U os (cE 5<|aV U Y<|cS.nil _) (aC [2,3,4,5,6,7,8,9,10,11,12,13,14,15]))
theorem IX (r:cV) (kA:OA) (kC:Nat) (az:List RA) (cA:OA) (cC:Nat) (bA:OA) (bC:Nat) (slA:OA) (slC:Nat) (drA:OA) (drC:Nat) (ha:List dv) (heA:OA) (heC:Nat) (tz:List RA) (tA:OA) (tC:Nat) (ms:Value) (gw n:Nat) (hin:fZ r az ha) (htz:tz.length=r.ay.length) (hn:n≤r.ay.length) (hok:iw r n):
 pH Tryz.prog 48 [(vP gw),(vI (n:Int))] [(rd kA r.aF.aH.length 9 (r.aF.aH.map aj.cells)),(rd cA r.aF.ah.length 2 (List.zipWith al.cells r.aF.ah az)),(eg (aZ al.fB r.aF.ah az)),(rd bA r.aF.ab.length 4 (r.aF.ab.map bL.cells)),(rd slA r.aT.length 1 (r.aT.map iC)),(rd drA r.bo.length 1 (r.bo.map iC)),(rd heA r.ay.length 1 (List.zipWith c_ r.ay ha)),(eg (aZ gP r.ay ha)),(rd tA ((cj r).length) 1 (List.zipWith wF (cj r) tz)),(eg (aZ xM (cj r) tz)),(cd gw 100 (g0.cells (g0.mk (pB r kA kC cA cC bA bC slA slC drA drC heA heC) (bE.mk tA ((cj r).length) tC) ms)))] (fun (x:Nat)=>(Value.map (some x))) (fun (x:Nat)=>True) (fun (x:Nat)=>[(jV iV x (cz gE (aN r n)))]):=by
 have c:=hin.line
 have m:=hin.iG
 have o:=hin.has
 have e:=hin.iE
 have d:=hin.draw
 have f:=dK (r:=r)
 refine fm kr Tryz.func48 U U fun q Q hQ hN=>?_
 try dsimp only
 refine WS fun _ V=>xp U U fun k=>rP 1 [] mn ?_
 refine RK V<|WS fun _ W=>oY (kV:=iV) U U fun B=>?_
 try dsimp only
 refine AL U LZ fun l=>Ha U Hr U U<|RK W<|ai fun _ X=>WS fun _ Y=>eZ 1 [] (mc 2 U mn) U<|rS (SX (cm U U) U U)<|rP 5 [] (mr 13 U mn) ?_
 refine RK Y<|av ?_
 skip
 have A:(0≤r.aT.length):=by exact Nat.zero_le _
 refine bI (ι:={z:Nat // (z≤r.aT.length)}) [1,2,5,15] [0,2,3,4,5,6,7,8,9,10,11,12,13] U U (fun z=>[(16,(vI (z.1:Int)))]) (fun z=>[(jV iV B (cz gE (dC r.aF r.ay z.1 0 0)))]) (fun _=>rfl) (fun _=>rfl) (fun z=>r.aT.length-z.1) ⟨0,A⟩ (aU U) (aC [0,2,3,4,5,6,7,8,9,10,11,12,13,1]) ?_
 clear A
 rintro ⟨i,a⟩ J8 AA
 try dsimp only
 refine WS fun _ Z=>rP 1 [] mn ?_
 refine RK Z<|ai fun _ D=>cw U (aO fun S=>?_) (aP fun S=>?_)
 ·refine WK D<|ai fun _ E=>av<|WS fun _ F=>bp 2 U<|RK F<|ak<|rP 2 [] (mc 0 U mn) ?_
  refine rS (SX (bg (xs:=[]) (cs:=(aa.cells (aa.mk 0 0))) U U (bh eM U)) U U) ?_
  have O:(ei (dC r.aF r.ay i 0 0) (i:Int) (aa.mk 0 0))=(dC r.aF r.ay (i+1) 0 0):=by exact HQ
  refine jF (kV:=iV) (x:=(i:Int)) (C':=[_,_,_,_,_,_,_,_,_,_,_,_,_,(jV iV B (cz gE (dC r.aF r.ay (i+1) 0 0)))]) 13 U U U U sZ (h_ p_) U ((gJ _ _ _ _).symm.trans (congrArg _ O)) U<|aA<|aG<|KK E<|ak<|rP 2 [] mn ?_
  refine aA ?_
  have P:(vI (((i+1):Nat):Int))=(vI ((i:Int)+1)):=by exact cI I
  refine aS (AA ⟨(i+1),(by first|omega|(simp only []; omega))⟩ _ _ _ U os (cE 4<|aV U P<|cS.nil _) (aC [0,1,2,3,4,5,6,7,8,9,10,11,12,13]))
 refine bx<|ae<|ae<|ax<|KK X<|WS fun _ G=>rS (FU U)<|bp 1 U<|RK G<|ai fun _ H=>WS fun _ AB=>rP 2 [] mn ?_
 refine RK AB<|av ?_
 rw [show (dC r.aF r.ay i 0 0)=(dC r.aF r.ay r.aT.length 0 0) from by rw [show i=r.aT.length by omega]]
 have A:(0≤n):=by exact Nat.zero_le _
 refine bI (ι:={z:Nat // (z≤n)}) [2,5,7,24] [0,1,2,3,4,5,6,7,8,9,10,11,12] U U (fun z=>[(25,(vI (z.1:Int)))]) (fun z=>[(jV iV B (cz gE (dC r.aF r.ay r.aT.length z.1 0)))]) (fun _=>rfl) (fun _=>rfl) (fun z=>n-z.1) ⟨0,A⟩ (aU U) (aC [0,1,2,3,4,5,6,7,8,9,10,11,12,13]) ?_
 clear A
 rintro ⟨h,b⟩ J19 C
 try dsimp only
 refine WS fun _ J=>rP 1 [] mn ?_
 refine RK J<|ai fun _ K=>bH U (aP fun T=>?_) (aO fun T=>?_)
 ·refine bx<|ae<|ae<|ax<|KK H<|ai fun _ N=>?_
  rw [show (dC r.aF r.ay r.aT.length h 0)=(aN r n) from by rw [show h=n by omega]; exact HT]
  refine ak<|rP 2 [] (mc 0 U mn) ?_
  refine RK N<|an<|LX hQ B [13] [] mn U U U U ?_
  trivial
 refine WK K<|ai fun _ L=>av<|WS fun _ M=>bp 2 U<|RK M<|ak<|rP 2 [] mn ?_
 refine js 13 U U U U (Fv r kA kC az cA cC bA bC slA slC drA drC ha heA heC tz tA tC ms gw h B k l hin htz I (by exact fun j x hj hx=>hok j x I hx)) U (du 2 U U (dH (bP _)) (du 3 U U (dH (bP _)) (du 4 U U (dH (bP _)) (du 5 U U (dH (bP _)) (du 6 U U (dH (bP _)) (du 7 U U (dH (bP _)) (du 8 U U (dH (bP _)) (du 9 U U (dH (bP _)) (du 10 U U (dH (bP _)) (du 11 U U (dH (bP _)) (du 12 U U (dH (bP _)) (du 1 U U (bP _) (du 0 U U (bP _) kE))))))))))))) U (fun p g=>?_)
 try dsimp only
 refine aA<|aG<|KK L<|ak<|rP 2 [] mn ?_
 refine aA ?_
 have R:(vI (((h+1):Nat):Int))=(vI ((h:Int)+1)):=by exact cI I
 refine aS (C ⟨(h+1),(by first|omega|(simp only []; omega))⟩ _ _ _ U os (cE 4<|aV U R<|cS.nil _) (aC [0,1,2,3,4,5,6,7,8,9,10,11,12,13]))
end
section
open Go.RowKit
theorem s8 (r:cV) (kA:OA) (kC:Nat) (az:List RA) (cA:OA) (cC:Nat) (bA:OA) (bC:Nat) (slA:OA) (slC:Nat) (drA:OA) (drC:Nat) (ha:List dv) (heA:OA) (heC:Nat) (hin:fZ r az ha):
 pH Tryz.prog 42 [(vA (eC.cells (pB r kA kC cA cC bA bC slA slC drA drC heA heC)))] [(rd gZ 3 2 fQ),(rd kA r.aF.aH.length 9 (r.aF.aH.map aj.cells)),(rd cA r.aF.ah.length 2 (List.zipWith al.cells r.aF.ah az)),(eg (aZ al.fB r.aF.ah az)),(rd bA r.aF.ab.length 4 (r.aF.ab.map bL.cells)),(rd slA r.aT.length 1 (r.aT.map iC)),(rd drA r.bo.length 1 (r.bo.map iC)),(rd heA r.ay.length 1 (List.zipWith c_ r.ay ha)),(eg (aZ gP r.ay ha))] (fun (x:Bool×Int×Nat×Nat×(OA)×Nat×(List RA))=>bif x.1 then (vT [(Value.pointer (some ⟨x.2.2.1,0,none⟩)),(vI 0)]) else (vT [(Value.pointer none),(vI x.2.1)])) (fun (x:Bool×Int×Nat×Nat×(OA)×Nat×(List RA))=>(x.1=true→(eN r=0∧x.2.2.2.2.2.2.length=r.ay.length))∧(x.1=false→(x.2.1=eN r∧ ¬ eN r=0))) (fun (x:Bool×Int×Nat×Nat×(OA)×Nat×(List RA))=>bif x.1 then [(cd x.2.2.1 100 (g0.cells (g0.mk (pB r kA kC cA cC bA bC slA slC drA drC heA heC) (bE.mk x.2.2.2.2.1 ((cj r).length) x.2.2.2.2.2.1) (Value.map (some x.2.2.2.1))))),(own x.2.2.2.2.1 x.2.2.2.2.2.1 78 1 (List.zipWith wF (cj r) x.2.2.2.2.2.2)),(bM (aZ yh (cj r) x.2.2.2.2.2.2)),(jV iV x.2.2.2.1 (cz gE (gh r)))] else []):=by
 have BA:=hin.line
 have BU:=hin.iG
 have BV:=hin.has
 have BK:=hin.iE
 have BI:=hin.draw
 have Ai:=dK (r:=r)
 refine fm kr Tryz.func42 U U fun w0 Q hQ hN=>?_
 try dsimp only
 refine WS fun _ A1=>eQ U fun b2=>bp 2 U<|RK A1<|ai fun _ A2=>WS fun _ A3=>bp 1 U<|rS (LP (cb.cells (jI r.aF kA kC cA cC bA bC)) 0 U bQ U U U)<|rS (CL (yD r.aF kA kC az cA cC bA bC asm) (bf [2,3,4,5]) U)<|bp 1 U<|RK A3<|WS fun _ A4=>rP 2 [] mn ?_
 refine RK A4<|cw U (aW fun B=>?_) (aX fun B=>?_)
 ·refine WS fun _ A5=>rP 3 [] mn ?_
  refine RK A5<|an<|LX hQ (false,(cY r.aF),0,0,none,0,[]) [] [] mn U (by rfl) U U ?_
  exact rf<|Lj (wb B) B
 refine WK A2<|WS fun _ A6=>eZ 4 [] (mc 0 U mn) U<|RK A6<|WS fun _ A7=>rP 2 [] (mc 0 U mn) ?_
 refine cX (yx drA r.bo.length drC) (aR) U fun An BL=>?_
 try dsimp only
 refine cX (ym r.bo drA drC An asm) (bf [8,0]) U fun BH BM=>?_
 obtain ⟨BO,BT⟩:=BH
 try dsimp only
 refine bp 1 U<|RK A7<|ai fun _ e=>WS fun _ H=>rP 1 [] mn ?_
 refine fw (xs:=[.tmp 29]) (cs:=[(vI (r.aT.length:Int))]) U cN lX U U U U (by simp [Value.cells]) U U fun Ao=>?_
 refine rS (CL (dL.eq (l7 1 5 ([(r.aT.length:Int)]) (some ⟨Ao,0,none⟩) 1 (by (simp; done))) cZ) (aL (bj 0 U U (by simp [bW]) U)<|aR) U) ?_
 refine rP 2 [] mn ?_
 refine cr (t:=33) U (aW fun As=>?_) (aX fun As=>?_)
 ·refine bp 26 U<|RK H<|aJ U<|WS fun _ f=>rP 2 [] mn ?_
  refine RK f<|an<|LX hQ (false,60,0,0,none,0,[]) [] [] mn U (by rfl) U U ?_
  exact rf<|vv (jq B (fun q:eI r=>by have q1:=q.num; have q2:=q.uP; have q3:=q.nh; have q4:=q.uA; omega))
 refine rP 6 [] mn ?_
 refine cr (t:=39) U (aW fun At=>?_) (aX fun At=>?_)
 ·refine bp 20 U<|RK H<|aJ U<|WS fun _ g=>rP 2 [] mn ?_
  refine RK g<|an<|LX hQ (false,60,0,0,none,0,[]) [] [] mn U (by rfl) U U ?_
  exact rf<|vv (jq B (fun q:eI r=>by have q1:=q.num; have q2:=q.uP; have q3:=q.nh; have q4:=q.uA; omega))
 refine rP 2 [] (mc 3 U mn) ?_
 refine fw (xs:=[.tmp 41]) (cs:=[(vI r.i_)]) U cN lX U U U U (by simp [Value.cells]) U U fun Ap=>?_
 refine rS (CL (dL.eq (l7 0 5 ([r.i_]) (some ⟨Ap,0,none⟩) 1 (by (simp; done))) cZ) (aL (bj 0 U U (by simp [bW]) U)<|aR) U) ?_
 refine rP 3 [] mn ?_
 refine cr (t:=46) U (aW fun Au=>?_) (aX fun Au=>?_)
 ·refine bp 13 U<|RK H<|aJ U<|WS fun _ k=>rP 2 [] mn ?_
  refine RK k<|an<|LX hQ (false,60,0,0,none,0,[]) [] [] mn U (by rfl) U U ?_
  exact rf<|vv (jq B (fun q:eI r=>by have q1:=q.num; have q2:=q.uP; have q3:=q.nh; have q4:=q.uA; omega))
 refine rP 3 [] (mc 4 U mn) ?_
 refine fw (xs:=[.tmp 49]) (cs:=[(vI (r.ay.length:Int))]) U cN lX U U U U (by simp [Value.cells]) U U fun Aq=>?_
 refine rS (CL (dL.eq (l7 1 3 ([(r.ay.length:Int)]) (some ⟨Aq,0,none⟩) 1 (by (simp; done))) cZ) (aL (bj 0 U U (by simp [bW]) U)<|aR) U) ?_
 refine rP 3 [] mn ?_
 refine cr (t:=54) U (aW fun Av=>?_) (aX fun Av=>?_)
 ·refine bp 5 U<|RK H<|aJ U<|WS fun _ l=>rP 2 [] mn ?_
  refine RK l<|an<|LX hQ (false,60,0,0,none,0,[]) [] [] mn U (by rfl) U U ?_
  exact rf<|vv (jq B (fun q:eI r=>by have q1:=q.num; have q2:=q.uP; have q3:=q.nh; have q4:=q.uA; omega))
 refine eZ 2 [] (mc 5 U mn) U<|rS (CL (l7 0 9999 r.aT slA slC asm) (bf [11]) U)<|rP 2 [] mn ?_
 refine RK H<|cw U (fun N=>?_) (fun N=>?_)
 ·rw [Bool.not_eq_true'] at N
  refine WS fun _ m=>rP 2 [] mn ?_
  refine RK m<|an<|LX hQ (false,60,0,0,none,0,[]) [] [] mn U (by rfl) U U ?_
  exact rf<|vv (jq B (fun q:eI r=>by exact absurd (q.ins.symm.trans N) dc))
 rw [Bool.not_eq_false'] at N
 refine WK e<|ai fun _ o=>WS fun _ p=>?_
 have BW:(kO r.bo).length=r.aT.length:=by rw [qn]; omega
 refine rP 2 [] mn ?_
 refine RK p<|av ?_
 have A:(0≤r.aT.length)∧(pf r 0):=by exact ⟨Nat.zero_le _,Am⟩
 refine bI (ι:={z:Nat // (z≤r.aT.length)∧(pf r z)}) [1,5,6,60] [3,5,6,7,8,9,10,11,12,13,14] U U (fun z=>[(61,(vI (z.1:Int)))]) (fun z=>[]) (fun _=>rfl) (fun _=>rfl) (fun z=>r.aT.length-z.1) ⟨0,A⟩ (aU U) (aC [3,5,6,7,8,9,10,11,12,13,14]) ?_
 clear A
 rintro ⟨i,⟨A_,J⟩⟩ J28 V
 try dsimp only
 refine WS fun _ s=>rP 1 [] mn ?_
 refine RK s<|ai fun _ w=>cw U (aO fun Ax=>?_) (aP fun Ax=>?_)
 ·refine WK w<|ai fun _ W=>av<|WS fun _ AA=>bp 2 U<|RK AA<|ai fun _ O=>cU bX 24 kr<|dP 2 [] mn ?_
  obtain ⟨x,hx⟩:=aB (kO r.bo) i I
  have BB:=br iC hx
  refine dS (IA i U (au (n:=r.bo.length) 0 U sq) cN dc I I) ?_
  refine dS (fE i 0 (vI x) U bQ (au (n:=(kO r.bo).length) 0 U sm) BB U dc U)<|dP 3 [] mn ?_
  refine gX (t:=70) U (aW fun S=>?_) (aX fun S=>?_)
  ·refine jY 17 U<|cv<|RK O<|aJ U<|WS fun _ AB=>rP 2 [] mn ?_
   refine RK AB<|an<|LX hQ (false,60,0,0,none,0,[]) [] [] mn U (by rfl) U U ?_
   exact rf<|vv (jq B (fun q:eI r=>by exact absurd (q.drawn hx) S))
  refine dP 3 [] mn ?_
  refine fU (t:=73) U (aP fun Ay=>?_) (aO fun Ay=>?_)
  ·refine jY 14 U<|cv<|RK O<|bU U<|cy<|aG<|KK W<|ak<|rP 2 [] mn ?_
   refine aA ?_
   have Ac:(vI (((i+1):Nat):Int))=(vI ((i:Int)+1)):=by exact cI I
   refine aS (V ⟨(i+1),⟨I,vm J hx S (fun u v hu hv hw=>by omega)⟩⟩ _ _ _ U os (cE 4<|aV U Ac<|cS.nil _) (aC [0,1,2,3,4,5,6,7,8,9,10]))
  refine dP 3 [] (mc 1 U mn) ?_
  obtain ⟨y,hy⟩:=aB r.aT i I
  have BC:=br iC hy
  refine dS (IA i U (aq 7 U) cN dc I I)<|dS (fE i 0 (vI y) U bQ (aq 7 U) BC U dc U)<|dP 4 [] (mc 1 U mn) ?_
  obtain ⟨z,hz⟩:=aB r.aT (i-1) I
  have BD:=br iC hz
  refine dS (IA (i-1) U (aq 7 U) cN dc I I)<|dS (fE (i-1) 0 (vI z) U bQ (aq 7 U) BD U dc U)<|dP 3 [] mn ?_
  refine cv<|RK O<|bH U (aP fun Az=>?_) (aO fun Az=>?_)
  ·refine cy<|aG<|KK W<|ak<|rP 2 [] mn ?_
   refine aA ?_
   have Ab:(vI (((i+1):Nat):Int))=(vI ((i:Int)+1)):=by exact cI I
   refine aS (V ⟨(i+1),⟨I,vm J hx S (fun u v hu hv hw=>by (rw [hy] at hu; cases hu; rw [hz] at hw; cases hw; omega))⟩⟩ _ _ _ rfl os (cE 4<|aV rfl Ab<|cS.nil _) (aC [0,1,2,3,4,5,6,7,8,9,10]))
  refine WS fun _ AC=>rP 2 [] mn ?_
  refine RK AC<|an<|LX hQ (false,60,0,0,none,0,[]) [] [] mn U (by rfl) U U ?_
  exact rf<|vv (jq B (fun q:eI r=>by have q1:=(q.ids i y hy).2 z I hz; omega))
 refine bx<|ae<|ae<|ax<|KK o<|WS fun _ AD=>eZ 1 [] (mc 1 U mn) U<|rS (SX (bg (xs:=[(0,.tmp 89)]) (cs:=(g0.cells (g0.mk (pB r kA kC cA cC bA bC slA slC drA drC heA heC) (bE.mk none 0 0) (Value.map none)))) U U (bh LQ U)) U U)<|eQ U fun L=>bp 1 U<|RK AD<|ai fun _ AE=>WS fun _ AF=>rP 4 [] (mc 2 U mn) ?_
 refine RK AF<|av<|fT 78 1<|nU ?_
 have A:(0≤r.ay.length)∧(([]:List RA).length=0)∧(iw r 0):=by exact ⟨Nat.zero_le _,rfl,ur⟩
 refine bI (ι:={z:Nat×(List RA)×(OA)×Nat // (z.1≤r.ay.length)∧(z.2.1.length=z.1)∧(iw r z.1)}) [1,5,8,93,94] [3,4,5,6,7,8,9,10,11,12,13] U U (fun z=>[(95,(vI (z.1.1:Int)))]) (fun z=>[(bM (aZ yh (fx r z.1.1) z.1.2.1)),(own z.1.2.2.1 z.1.2.2.2 78 1 (List.map sC (List.zipWith zy (fx r z.1.1) z.1.2.1))),(cd L 100 (g0.cells (g0.mk (pB r kA kC cA cC bA bC slA slC drA drC heA heC) (bE.mk z.1.2.2.1 ((List.zipWith zy (fx r z.1.1) z.1.2.1).length) z.1.2.2.2) (Value.map none))))]) (fun _=>rfl) (fun _=>rfl) (fun z=>r.ay.length-z.1.1) ⟨(0,([]:List RA),none,0),A⟩ (aU U) (aC [3,4,5,6,7,8,9,10,11,12,13,0,1,2]) ?_
 clear A
 rintro ⟨⟨h,tz,a,c⟩,⟨T,C,E⟩⟩ J42 Z
 try dsimp only at T C E
 try dsimp only
 refine WS fun _ AG=>rP 1 [] mn ?_
 refine RK AG<|ai fun _ AH=>bH U (aP fun A0=>?_) (aO fun A0=>?_)
 ·refine bx<|ae<|ae<|ax<|KK AE<|ai fun _ AZ=>?_
  have A9:fx r h=cj r:=by unfold cj; rw [show h=r.ay.length by omega]
  have Aj:tz.length=r.ay.length:=by omega
  rw [A9,vN,show (List.zipWith zy (cj r) tz).length=(cj r).length from by rw [List.length_zipWith]; omega]
  have X:eI r:=Fi (n:=i) I I I I I N J E I
  refine ak<|rP 5 [] (mc 1 U mn) ?_
  refine cX (IX r kA kC az cA cC bA bC slA slC drA drC ha heA heC tz a c (Value.map none) L r.ay.length hin asm I (by exact X.po)) (kF [3,4,5,6,7,8,9,10]<|aL (au (n:=(cj r).length) 12 U (jK (by rw [Ai]; exact Aj)))<|aL (eY 11 U oG)<|fM 13 U U<|aR) U fun K BN=>?_
  try dsimp only
  refine rS (SX (cm U U) U U)<|rP 1 [] mn ?_
  refine hO (vs:=[(Value.map (some K))]) (cs':=(g0.cells (g0.mk (pB r kA kC cA cC bA bC slA slC drA drC heA heC) (bE.mk a ((cj r).length) c) (Value.map (some K))))) (C':=[_,_,_,_,_,_,_,_,_,_,_,_,_,_,(cd L 100 (g0.cells (g0.mk (pB r kA kC cA cC bA bC slA slC drA drC heA heC) (bE.mk a ((cj r).length) c) (Value.map (some K)))))]) 14 U U U Hr U U U U U U U<|RK AZ<|ai fun _ Aa=>?_
  rw [show aN r r.ay.length=gh r from rfl]
  refine ak<|rP 3 [] mn ?_
  refine RK Aa<|an ?_
  refine LX hQ (true,0,L,K,a,c,tz) [14,13,12,0] [] mn U (by (show List.all _ _=true; simp only [cond_true,iD,List.all_nil,xz,Bool.and_true]; rfl)) U U ?_
  exact ⟨fun _=>⟨xS B X,Aj⟩,Lm⟩
 refine WK AH<|ai fun _ AI=>av<|WS fun _ AJ=>?_
 obtain ⟨ht,D⟩:=aB r.ay h I
 obtain ⟨G,BE⟩:=aB ha h I
 have Ah:(List.zipWith c_ r.ay ha)[h]? =some (c_ ht G):=db D BE
 refine rS (IA h U (aq 9 U) mL dc I I)<|rS (fE h 0 (vS G.1.1 ht.length G.1.2) U bQ (aq 9 U) Ah U dc U)<|rP 1 [] mn ?_
 refine RK AJ<|ai fun _ AK=>WS fun _ AM=>?_
 have Ag:=hin.mH _ _ _ D BE
 have BJ:=Ag.mE
 refine rP 4 [] mn ?_
 refine RK AM<|cw U (aW fun Y=>?_) (aX fun Y=>?_)
 ·refine WS fun _ AN=>rP 2 [] mn ?_
  refine RK AN<|an<|LX hQ (false,60,0,0,none,0,[]) [] [] mn U (by rfl) U U ?_
  exact rf<|vv (jq B (fun q:eI r=>by have q1:=(q.mH ht (aI D)).1; omega))
 refine WK AK<|WS fun _ AO=>bp 1 U<|RK AO<|ai fun _ AP=>WS fun _ AQ=>rP 3 [] mn ?_
 refine RK AQ<|av<|fT 47 2 ?_
 have A:(0≤ht.length)∧(mj r.aF ht 0):=by exact ⟨Nat.zero_le _,sP⟩
 refine bI (ι:={z:Nat×(OA)×Nat // (z.1≤ht.length)∧(mj r.aF ht z.1)}) [1,5,8,10,93,94,95,103,104] [1,2,3,4,5,6,7,8,9,10,11,12,13,14] U U (fun z=>[(11,(vS z.1.2.1 (((ht.take z.1.1).map (eL r.aF)).length) z.1.2.2)),(105,(vI (z.1.1:Int)))]) (fun z=>[(own z.1.2.1 z.1.2.2 47 2 (((ht.take z.1.1).map (eL r.aF)).map aa.cells))]) (fun _=>rfl) (fun _=>rfl) (fun z=>ht.length-z.1.1) ⟨(0,none,0),A⟩ (aU U) (aC [1,2,3,4,5,6,7,8,9,10,11,12,13,14,0]) ?_
 clear A
 rintro ⟨⟨j,la,lc⟩,⟨Ak,F⟩⟩ J53 b
 try dsimp only at Ak F
 try dsimp only
 refine WS fun _ AR=>rP 1 [] mn ?_
 refine RK AR<|ai fun _ AS=>bH U (aP fun Aw=>?_) (aO fun Aw=>?_)
 ·refine bx<|ae<|ae<|ax<|KK AP<|ak<|bp 2 U<|rS (SX (cm U U) U U)<|rP 2 [] (mc 13 U mn) ?_
  rw [show ((ht.take j).map (eL r.aF))=ht.map (eL r.aF) from by rw [List.take_of_length_le I]]
  refine rP 1 [] mn ?_
  refine fw (xs:=[.tmp 128]) (cs:=[(vS la ((ht.map (eL r.aF)).length) lc)]) U Bn Nb U U U U (by simp [Value.cells]) U U fun BS=>?_
  refine cG (es2:=(List.map sC (List.zipWith zy (fx r (h+1)) (tz++[(la,lc)])))) (m':=(List.zipWith zy (fx r (h+1)) (tz++[(la,lc)])).length) 13 U U U L8 U U sm (bj (es:=List.map sC [(bE.mk la ((ht.map (eL r.aF)).length) lc)]) 0 U U (by simp [vV]) U) (Eh _) (by rw [List.length_zipWith,jA I]; omega) (by rw [List.length_zipWith,jA I]; simp only [maxLen]; omega) (by rw [qi D C,List.map_append]; rfl) (by rw [qi D C]; simp) U fun P R=>?_
  try dsimp only
  refine rS (SX (cm U U) U U)<|bp 1 U<|hO (vs:=[(vS P ((List.zipWith zy (fx r (h+1)) (tz++[(la,lc)])).length) R)]) (cs':=(g0.cells (g0.mk (pB r kA kC cA cC bA bC slA slC drA drC heA heC) (bE.mk P ((List.zipWith zy (fx r (h+1)) (tz++[(la,lc)])).length) R) (Value.map none)))) (C':=[_,_,_,_,_,_,_,_,_,_,_,_,_,_,(cd L 100 (g0.cells (g0.mk (pB r kA kC cA cC bA bC slA slC drA drC heA heC) (bE.mk P ((List.zipWith zy (fx r (h+1)) (tz++[(la,lc)])).length) R) (Value.map none)))),_]) 14 U U U Oe U U U U U U U<|aA<|aG<|KK AI<|ak<|rP 2 [] mn ?_
  refine aA<|wq (X':=aZ yh (fx r (h+1)) (tz++[(la,lc)])) 12 15 U U (yv (a:=(la,lc)) D C) ?_
  have Ae:(vI (((h+1):Nat):Int))=(vI ((h:Int)+1)):=by exact cI I
  refine aS (Z ⟨((h+1),(tz++[(la,lc)]),P,R),⟨I,by simp; omega,uf E D (Cc I F I)⟩⟩ _ _ _ U os (cE 5<|aV U Ae<|cS.nil _) (aC [2,3,4,5,6,7,8,9,10,11,12,0,13,14]))
 refine WK AS<|ai fun _ AT=>av<|WS fun _ AU=>?_
 obtain ⟨d,hd⟩:=aB ht j I
 obtain ⟨da,Af⟩:=aB G.2 j I
 have A8:(List.zipWith aw.cells ht G.2)[j]? =some (aw.cells d da):=db hd Af
 refine rS (IA j U (show fR _ (rd G.1.1 ht.length 7 (List.zipWith aw.cells ht G.2)).holds from (bT 10 U (bk D BE ck))) sU dc I I)<|rS (j0 j 0 (bq.cells (bq.mk d.Out d.de d.Time (dZ.mk d.bO.Start d.bO.eX (bE.mk da.1 d.bO.ag.length da.2)))) U bQ (show fR _ (rd G.1.1 ht.length 7 (List.zipWith aw.cells ht G.2)).holds from (bT 10 U (bk D BE ck))) A8 U dc U U)<|AL U OY fun BP=>fg U OV U<|RK AU<|WS fun _ AV=>bp 1 U<|rS (LP (cb.cells (jI r.aF kA kC cA cC bA bC)) 2 U bQ U U U)<|rP 1 [] (mc 0 U mn) ?_
 have BX:=Ag.sig d (aI hd)
 refine rS (CL (zZ r.aF kA kC az cA cC bA bC d da.1 da.2 asm asm) (kF [3,4,5,6,7]<|aL (show fR _ (rd da.1 d.bO.ag.length 2 (d.bO.ag.map aD.cells)).holds from (bT 11 U (bk D BE (dq _ (bk hd Af (by simp [aw.fB]))))))<|aR) U)<|bp 3 U<|AL U cR fun BQ=>fg U bS U<|bp 1 U<|RK AV<|ai fun _ AW=>WS fun _ AX=>rP 2 [] mn ?_
 refine RK AX<|bH U (aX fun M=>?_) (aW fun M=>?_)
 ·refine WK AW<|ak<|rP 2 [] (mc 0 U mn) ?_
  refine fw (xs:=[.tmp 119]) (cs:=(aa.cells (eL r.aF d))) U kB cR U U U U (by simp [Value.cells,aa.a_]) U U fun BR=>?_
  refine cG (es2:=(List.map aa.cells ((ht.take (j+1)).map (eL r.aF)))) (m':=((ht.take (j+1)).map (eL r.aF)).length) 17 U U U Gv U U sm (bj (es:=List.map aa.cells [(eL r.aF d)]) 0 U U (by simp [aa.a_]) U) (ij _) (by simp only [List.length_map,List.length_take]; omega) (by simp only [maxLen,List.length_map,List.length_take]; omega) (by rw [List.take_add_one,hd]; simp) sq U fun Al Ar=>?_
  try dsimp only
  refine bp 1 U<|aA<|aG<|KK AT<|ak<|rP 2 [] mn ?_
  refine aA ?_
  have Ad:(vI (((j+1):Nat):Int))=(vI ((j:Int)+1)):=by exact cI I
  refine aS (b ⟨((j+1),Al,Ar),⟨I,sG F hd M⟩⟩ _ _ _ U os (cE 10<|aV U Ad<|cS.nil _) (aC [3,4,5,6,7,8,9,10,11,12,13,14,15,16,17]))
 refine WS fun _ AY=>rP 2 [] mn ?_
 refine RK AY<|an<|LX hQ (false,60,0,0,none,0,[]) [] [] mn U (by rfl) U U ?_
 exact rf<|vv (jq B (fun q:eI r=>by exact M ((q.mH ht (aI D)).2 d (aI hd))))
end
section
open Go.RowKit
theorem sh {C:List ao} {g t:Nat} {cs:List Value} {n sz:Nat} {es:List (List Value)} (i:Nat) (hC:C[i]? =some (cd g t cs).ro) (h1:es.length=n) (h2: ∀ e∈es,e.length=sz) (h3:es.flatten=cs):fR C (rd (some ⟨g,0,none⟩) n sz es).holds:=fun w hw=>
 rm (show (cd g t cs).holds w from hw (cd g t cs).ro (aI hC)) h1 h2 ⟨[],by simp [h3]⟩
section
variable {E:eB} {ops:Array Oper} {Q:cM} {rest:List Oper} {D:List Deferred} {L:List (Nat×Value)} {C:List ao}
variable {dst:Option Nat} {d:Nat} {ty:TypeId} {ps:String} {af:Array Edge} {g:Option (Nat×Bool)}
end
end
section
open Go.RowKit
theorem F9 (r:cV) (kA:OA) (kC:Nat) (az:List RA) (cA:OA) (cC:Nat) (bA:OA) (bC:Nat) (slA:OA) (slC:Nat) (drA:OA) (drC:Nat) (ha:List dv) (heA:OA) (heC:Nat) (tz:List RA) (tA:OA) (tC:Nat) (ms:Value) (gw:Nat) (l:List Int) (lA:OA) (lC:Nat) (hin:fZ r az ha) (hlen:l.length≤1000000):
 dL Tryz.prog 44 [(vP gw),(vS lA l.length lC)] [(rd kA r.aF.aH.length 9 (r.aF.aH.map aj.cells)),(rd cA r.aF.ah.length 2 (List.zipWith al.cells r.aF.ah az)),(eg (aZ al.fB r.aF.ah az)),(rd bA r.aF.ab.length 4 (r.aF.ab.map bL.cells)),(rd slA r.aT.length 1 (r.aT.map iC)),(rd drA r.bo.length 1 (r.bo.map iC)),(rd heA r.ay.length 1 (List.zipWith c_ r.ay ha)),(eg (aZ gP r.ay ha)),(rd tA ((cj r).length) 1 (List.zipWith wF (cj r) tz)),(eg (aZ xM (cj r) tz)),(cd gw 100 (g0.cells (g0.mk (pB r kA kC cA cC bA bC slA slC drA drC heA heC) (bE.mk tA ((cj r).length) tC) ms))),(rd lA l.length 1 (l.map iC))] (vB (oa 0 ((r.aT.length:Int)-1) l)):=by
 have C:=hin.line
 have G:=hin.iG
 have H:=hin.has
 have E:=hin.iE
 have D:=hin.draw
 have F:=dK (r:=r)
 refine bu kr Tryz.func44 U U fun AA Q hQ hN=>?_
 try dsimp only
 refine WS fun _ A=>bp 1 U<|RK A<|WS fun _ B=>bp 1 U<|rS (SX (cm U U) U U)<|eZ 6 [] (mr 10 U mn) U<|rS (CL (l7 0 ((r.aT.length:Int)-1) l lA lC hlen) (bf [11]) U)<|rP 1 [] mn ?_
 refine RK B<|an ?_
 exact Q1 hQ U U U U
end
section
open Go.RowKit
theorem Bh (l:List Int) (lA:OA) (lC:Nat) (hlen:l.length=1):
 zS Tryz.prog 62 [(vS lA 1 lC)] [] (own lA lC 3 1 (l.map iC)) (fun (x:Unit)=>(vS lA 1 lC)) (fun (x:Unit)=>True) (fun (x:Unit)=>(own lA lC 3 1 (l.map iC))):=by
 refine lS kr Tryz.func62 U U fun E Q hQ hN=>?_
 try dsimp only
 refine WS fun _ A=>bp 1 U<|RK A<|ai fun _ D=>WS fun _ B=>bp 2 U<|rS (SX (dG (r:= .bool true) U U U lq) U U)<|RK B<|aJ U<|WS fun _ C=>rP 2 [] mn ?_
 refine RK C<|an<|LM hQ () 0 [] mn U U U U ?_
 trivial
end
section
open Go.RowKit
theorem Dn (r:cV) (kA:OA) (kC:Nat) (az:List RA) (cA:OA) (cC:Nat) (bA:OA) (bC:Nat) (slA:OA) (slC:Nat) (drA:OA) (drC:Nat) (ha:List dv) (heA:OA) (heC:Nat) (a:Int) (gq:Nat) (hin:fZ r az ha):
 pH Tryz.prog 32 [(vA (eC.cells (pB r kA kC cA cC bA bC slA slC drA drC heA heC))),(vS (some ⟨gq,0,none⟩) 1 1)] [(rd gZ 3 2 fQ),(rd kA r.aF.aH.length 9 (r.aF.aH.map aj.cells)),(rd cA r.aF.ah.length 2 (List.zipWith al.cells r.aF.ah az)),(eg (aZ al.fB r.aF.ah az)),(rd bA r.aF.ab.length 4 (r.aF.ab.map bL.cells)),(rd slA r.aT.length 1 (r.aT.map iC)),(rd drA r.bo.length 1 (r.bo.map iC)),(rd heA r.ay.length 1 (List.zipWith c_ r.ay ha)),(eg (aZ gP r.ay ha)),(cd gq 3 [(vI a)])] (fun (x:Bool×Int×Nat×Nat×(OA)×Nat×(List RA)×(OA)×Nat)=>bif x.1 then (vT [(Value.pointer (some ⟨x.2.2.1,0,none⟩)),(vS x.2.2.2.2.2.2.2.1 1 x.2.2.2.2.2.2.2.2),(vI 0)]) else (vT [(Value.pointer none),(vS none 0 0),(vI x.2.1)])) (fun (x:Bool×Int×Nat×Nat×(OA)×Nat×(List RA)×(OA)×Nat)=>(x.1=true→(pS r a=0∧x.2.2.2.2.2.2.1.length=r.ay.length))∧(x.1=false→(x.2.1=pS r a∧ ¬ pS r a=0))) (fun (x:Bool×Int×Nat×Nat×(OA)×Nat×(List RA)×(OA)×Nat)=>bif x.1 then [(cd x.2.2.1 100 (g0.cells (g0.mk (pB r kA kC cA cC bA bC slA slC drA drC heA heC) (bE.mk x.2.2.2.2.1 ((cj r).length) x.2.2.2.2.2.1) (Value.map (some x.2.2.2.1))))),(own x.2.2.2.2.1 x.2.2.2.2.2.1 78 1 (List.zipWith wF (cj r) x.2.2.2.2.2.2.1)),(bM (aZ yh (cj r) x.2.2.2.2.2.2.1)),(jV iV x.2.2.2.1 (cz gE (gh r))),(own x.2.2.2.2.2.2.2.1 x.2.2.2.2.2.2.2.2 47 2 ([(aY (gh r) a)].map aa.cells))] else []):=by
 have AA:=hin.line
 have AO:=hin.iG
 have AP:=hin.has
 have AG:=hin.iE
 have AF:=hin.draw
 have g:=dK (r:=r)
 refine fm kr Tryz.func32 U U fun w0 Q hQ hN=>?_
 try dsimp only
 refine WS fun _ y=>eQ U fun b2=>bp 3 U<|RK y<|WS fun _ N=>rP 1 [] (mc 0 U mn) ?_
 refine cX (s8 r kA kC az cA cC bA bC slA slC drA drC ha heA heC hin) (bf [1,2,3,4,5,6,7,8,9]) U fun y4 k=>?_
 obtain ⟨m,AN,F,E,o,B,C⟩:=y4
 cases m
 ·obtain ⟨e,he⟩:=k.2 rfl
  try dsimp only at e he
  subst e
  try dsimp only [cond_true,cond_false,List.cons_append,List.nil_append]
  refine bp 5 U<|RK N<|ai fun _ AC=>WS fun _ H=>rP 2 [] mn ?_
  refine RK H<|bH U (aX fun G=>?_) (aW fun G=>?_)
  ·exact absurd G he
  refine WS fun _ AS=>rP 4 [] mn ?_
  refine RK AS<|an<|LX hQ (false,(eN r),0,0,none,0,[],none,0) [] [] mn U (by rfl) U U ?_
  exact rf<|Lj (oH (i:=a) he) he
 obtain ⟨he,j⟩:=k.1 rfl
 try dsimp only [cond_true,cond_false,List.cons_append,List.nil_append]
 refine bp 5 U<|RK N<|ai fun _ J=>WS fun _ K=>bp 1 U<|rS (SX (dG (r:= .bool false) U U U pN) U U)<|RK K<|bU U<|WK J<|ai fun _ L=>WS fun _ A=>rP 2 [] mn ?_
 refine rS (CL (dL.eq (F9 r kA kC az cA cC bA bC slA slC drA drC ha heA heC C o B (Value.map (some E)) F ([a]) (some ⟨gq,0,none⟩) 1 hin (by (simp; done))) cZ) (kF [6,7,8,9,10,11,12,13]<|aL (au (n:=(cj r).length) 1 U (jK (by rw [g]; exact j)))<|aL (eY 2 U oG)<|fM 0 U U<|aL (sh 14 U U (by simp [bW]) U)<|aR) U) ?_
 refine rP 2 [] mn ?_
 refine cr (t:=26) U (aW fun w=>?_) (aX fun w=>?_)
 ·refine bp 3 U<|bp 4 U<|bp 2 U<|RK A<|aJ U<|WS fun _ M=>rP 3 [] mn ?_
  refine RK M<|an<|LX hQ (false,2,0,0,none,0,[],none,0) [] [] mn U (by rfl) U U ?_
  exact rf<|vv (oZ (i:=a) he I)
 refine rP 1 [] mn ?_
 refine cX (yx (some ⟨gq,0,none⟩) 1 1) (aR) U fun s AH=>?_
 try dsimp only
 refine cX (ym ([a]) (some ⟨gq,0,none⟩) 1 s (by (simp; done))) (aL (sh 15 U U (by simp [bW]) U)<|fM 0 U U<|aR) U fun AB AI=>?_
 obtain ⟨p,u⟩:=AB
 try dsimp only
 try dsimp only
 refine js 0 U U U U (Bh (kO ([a])) p u (by (simp; done))) U kE U (fun AQ AJ=>?_)
 try dsimp only
 refine bp 3 U<|rS (SX (dG (r:= .bool false) U U U lq) U U)<|bp 1 U<|RK A<|bU U<|WK L<|WS fun _ O=>bp 1 U<|RK O<|ai fun _ P=>WS fun _ R=>bp 3 U<|RK R<|av<|ly 2<|g7 fun R33 d=>WS fun _ S=>rS (SX (dG (r:= .bool true) U U U lq) U U)<|RK S<|ai fun _ T=>aJ U<|WK T<|ai fun _ AR=>av<|WS fun _ V=>rS (Pt 0 0 U cN U dc U)<|eZ 2 [] (mr 16 U mn) U<|RK V<|WS fun _ W=>bp 1 U<|rS (SX (cm U U) U U)<|eZ 3 [] (mc 2 U mn) U<|rS (SX (lI (kV:=iV) (x:=a) (l:=(gh r)) (f:=gE) (z:=(aa.mk 0 0)) U U U sZ (h_ p_) Ev (by exact aq 5 U)) U U)<|bp 3 U<|AL U cR fun AK=>fg U bS U<|rP 1 [] mn ?_
 refine RK W<|ai fun _ X=>WS fun _ Y=>?_
 rw [show ((List.lookup a (gh r)).getD (aa.mk 0 0))=(aY (gh r) a) from rfl]
 refine rP 2 [] mn ?_
 refine RK Y<|cw U (fun D=>?_) (fun D=>?_)
 ·rw [Bool.not_eq_true'] at D
  refine WS fun _ Z=>rP 3 [] mn ?_
  refine RK Z<|an<|LX hQ (false,6,0,0,none,0,[],none,0) [] [] mn U (by rfl) U U ?_
  exact rf<|vv (m0 (i:=a) he I asm)
 rw [Bool.not_eq_false'] at D
 refine WK X<|ak<|rP 2 [] (mc 0 U mn) ?_
 refine fw (xs:=[.tmp 54]) (cs:=(aa.cells (aY (gh r) a))) U kB cR U U U U (by simp [Value.cells,aa.a_]) U U fun AM=>ik 47 2<|cG (es2:=(List.map aa.cells ([(aY (gh r) a)]))) (m':=([(aY (gh r) a)]).length) 0 U U U Gv U U sm (bj (es:=List.map aa.cells [(aY (gh r) a)]) 1 U U (by simp [aa.a_]) U) (ij _) sm (by simp [maxLen]) sm sm U fun q v=>?_
 try dsimp only
 refine bp 1 U<|aA<|aG<|KK AR<|ak<|rS (SX (dG (r:= .int .i64 1) U U U (kK ⟨dc,dc⟩)) U U)<|bp 1 U<|RK d<|g7 fun R46 AE=>WS fun _ b=>rS (SX (dG (r:= .bool false) U U U lq) U U)<|RK b<|ai fun _ AD=>bU U<|bx<|ae<|ae<|ax<|KK P<|WS fun _ c=>rP 5 [] mn ?_
 refine RK c<|an ?_
 refine LX hQ (true,0,F,E,o,B,C,q,v) [5,6,7,8,0] [] mn U (by (show List.all _ _=true; simp only [cond_true,iD,List.all_nil,xz,Bool.and_true]; rfl)) U U ?_
 exact ⟨fun _=>⟨qu he I asm,j⟩,Lm⟩
end
section
open Go.RowKit
theorem Mx (i:Int) (r:cV) (kA:OA) (kC:Nat) (az:List RA) (cA:OA) (cC:Nat) (bA:OA) (bC:Nat) (slA:OA) (slC:Nat) (drA:OA) (drC:Nat) (ha:List dv) (heA:OA) (heC:Nat) (hin:fZ r az ha):
 dL Tryz.prog 17 [(vA (eC.cells (pB r kA kC cA cC bA bC slA slC drA drC heA heC))),(vI i)] [(rd gZ 3 2 fQ),(rd kA r.aF.aH.length 9 (r.aF.aH.map aj.cells)),(rd cA r.aF.ah.length 2 (List.zipWith al.cells r.aF.ah az)),(eg (aZ al.fB r.aF.ah az)),(rd bA r.aF.ab.length 4 (r.aF.ab.map bL.cells)),(rd slA r.aT.length 1 (r.aT.map iC)),(rd drA r.bo.length 1 (r.bo.map iC)),(rd heA r.ay.length 1 (List.zipWith c_ r.ay ha)),(eg (aZ gP r.ay ha))] (vT [(vA (aa.cells (kQ r i))),(vI (pS r i))]):=by
 have M:=hin.line
 have g:=hin.iG
 have j:=hin.has
 have W:=hin.iE
 have R:=hin.draw
 have X:=dK (r:=r)
 refine bu kr Tryz.func17 U U fun o Q hQ hN=>?_
 try dsimp only
 refine WS fun _ L=>eQ U fun l=>AL U cR fun m=>bp 1 U<|RK L<|WS fun _ G=>rP 2 [] (mc 1 U mn) ?_
 refine fw (xs:=[.tmp 11]) (cs:=[(vI i)]) U cN lX U U U U (by simp [Value.cells]) U U fun d=>cX (Dn r kA kC az cA cC bA bC slA slC drA drC ha heA heC i d hin) (bf [3,4,5,6,7,8,9,10,11,0]) U fun k J=>?_
 obtain ⟨K,e,f,O,a,b,c,Y,Z⟩:=k
 cases K
 ·obtain ⟨H,he⟩:=J.2 rfl
  try dsimp only at H he
  subst H
  try dsimp only [cond_true,cond_false,List.cons_append,List.nil_append]
  refine bp 7 U<|RK G<|ai fun _ P=>WS fun _ B=>rP 2 [] mn ?_
  refine RK B<|bH U (aX fun A=>?_) (aW fun A=>?_)
  ·exact absurd A he
  refine WS fun _ C=>rS (SX (bg (xs:=[]) (cs:=(aa.cells (aa.mk 0 0))) U U (bh eM U)) U U)<|bp 1 U<|qf U bS U<|rP 1 [] mn ?_
  refine RK C<|an<|ja hQ [0] (mc 1 U mn) U ?_
  first|(rw [show kQ r i=cg from if_neg he]; rfl)|(rw [he,show kQ r i=aY _ _ from if_pos he]; done)
 obtain ⟨he,N⟩:=J.1 rfl
 try dsimp only [cond_true,cond_false,List.cons_append,List.nil_append]
 try dsimp only at N
 obtain ⟨AB,S,T⟩:=C5 he
 have AA:=E_ AB
 have V:=yd AB
 refine bp 7 U<|RK G<|ai fun _ D=>WS fun _ E=>bp 1 U<|rS (SX (dG (r:= .bool false) U U U pN) U U)<|RK E<|bU U<|WK D<|WS fun _ F=>rP 1 [] mn ?_
 refine rS (IA 0 U (au (n:=1) 4 U sq) kB dc U I) ?_
 refine rS (j0 0 0 (aa.cells (aY (gh r) i)) U bQ (au (n:=([(aY (gh r) i)]).length) 4 U sm) (show ([(aY (gh r) i)].map aa.cells)[0]? =some [(vI ((aY (gh r) i).Lo)),(vI ((aY (gh r) i).Hi))] from U) U dc U U)<|Hu U bS U<|rP 1 [] mn ?_
 refine RK F<|an<|ja hQ [0] (mc 6 U mn) U ?_
 first|(rw [show kQ r i=cg from if_neg he]; rfl)|(rw [he,show kQ r i=aY _ _ from if_pos he]; done)
theorem E4 (r:cV) (kA:OA) (kC:Nat) (az:List RA) (cA:OA) (cC:Nat) (bA:OA) (bC:Nat) (slA:OA) (slC:Nat) (drA:OA) (drC:Nat) (ha:List dv) (heA:OA) (heC:Nat) (hin:fZ r az ha):
 dL Tryz.prog 21 [(vA (eC.cells (pB r kA kC cA cC bA bC slA slC drA drC heA heC)))] [(rd gZ 3 2 fQ),(rd kA r.aF.aH.length 9 (r.aF.aH.map aj.cells)),(rd cA r.aF.ah.length 2 (List.zipWith al.cells r.aF.ah az)),(eg (aZ al.fB r.aF.ah az)),(rd bA r.aF.ab.length 4 (r.aF.ab.map bL.cells)),(rd slA r.aT.length 1 (r.aT.map iC)),(rd drA r.bo.length 1 (r.bo.map iC)),(rd heA r.ay.length 1 (List.zipWith c_ r.ay ha)),(eg (aZ gP r.ay ha))] (vI (eN r)):=by
 have H:=hin.line
 have R:=hin.iG
 have S:=hin.has
 have J:=hin.iE
 have AB:=hin.draw
 have K:=dK (r:=r)
 refine bu kr Tryz.func21 U U fun X Q hQ hN=>?_
 try dsimp only
 refine WS fun _ G=>eQ U fun W=>bp 1 U<|RK G<|WS fun _ C=>rP 1 [] (mc 0 U mn) ?_
 refine cX (s8 r kA kC az cA cC bA bC slA slC drA drC ha heA heC hin) (bf [1,2,3,4,5,6,7,8,9]) U fun V E=>?_
 obtain ⟨F,N,P,O,AA,L,M⟩:=V
 cases F
 rotate_left 1
 ·obtain ⟨he,T⟩:=E.1 rfl
  try dsimp only [cond_true,cond_false,List.cons_append,List.nil_append]
  refine bp 5 U<|RK C<|WS fun _ B=>rP 2 [] mn ?_
  refine RK B<|an<|Q1 hQ U U U ?_
  first|rfl|(rw [he])
 obtain ⟨D,he⟩:=E.2 rfl
 try dsimp only at D he
 subst D
 try dsimp only [cond_true,cond_false,List.cons_append,List.nil_append]
 refine bp 5 U<|RK C<|WS fun _ A=>rP 2 [] mn ?_
 refine RK A<|an<|Q1 hQ U U U ?_
 first|rfl|(rw [he])
end
section
open Go.RowKit
theorem Kt (h i:Int) (r:cV) (kA:OA) (kC:Nat) (az:List RA) (cA:OA) (cC:Nat) (bA:OA) (bC:Nat) (slA:OA) (slC:Nat) (drA:OA) (drC:Nat) (ha:List dv) (heA:OA) (heC:Nat) (hin:fZ r az ha):
 dL Tryz.prog 15 [(vA (eC.cells (pB r kA kC cA cC bA bC slA slC drA drC heA heC))),(vI h),(vI i)] [(rd gZ 3 2 fQ),(rd kA r.aF.aH.length 9 (r.aF.aH.map aj.cells)),(rd cA r.aF.ah.length 2 (List.zipWith al.cells r.aF.ah az)),(eg (aZ al.fB r.aF.ah az)),(rd bA r.aF.ab.length 4 (r.aF.ab.map bL.cells)),(rd slA r.aT.length 1 (r.aT.map iC)),(rd drA r.bo.length 1 (r.bo.map iC)),(rd heA r.ay.length 1 (List.zipWith c_ r.ay ha)),(eg (aZ gP r.ay ha))] (vT [(vA (aa.cells (fK r h i))),(vI (oV r h i))]):=by
 have AB:=hin.line
 have AJ:=hin.iG
 have AK:=hin.has
 have AG:=hin.iE
 have AE:=hin.draw
 have F:=dK (r:=r)
 refine bu kr Tryz.func15 U U fun w0 Q hQ hN=>?_
 try dsimp only
 refine WS fun _ u=>eQ U fun b2=>AL U cR fun b3=>bp 1 U<|RK u<|WS fun _ X=>rP 1 [] (mc 1 U mn) ?_
 refine cX (s8 r kA kC az cA cC bA bC slA slC drA drC ha heA heC hin) (bf [2,3,4,5,6,7,8,9,10]) U fun y5 c=>?_
 obtain ⟨f,AI,o,m,g,j,HD⟩:=y5
 cases f
 ·obtain ⟨Y,he⟩:=c.2 rfl
  try dsimp only at Y he
  subst Y
  try dsimp only [cond_true,cond_false,List.cons_append,List.nil_append]
  refine bp 5 U<|RK X<|ai fun _ AD=>av<|WS fun _ N=>rP 3 [] mn ?_
  refine RK N<|bH U (aX fun M=>?_) (aW fun M=>?_)
  ·exact absurd M he
  refine WS fun _ O=>rS (SX (bg (xs:=[]) (cs:=(aa.cells (aa.mk 0 0))) U U (bh eM U)) U U)<|bp 1 U<|fg U bS U<|rP 1 [] mn ?_
  refine RK O<|an<|ja hQ [0] (mc 0 U mn) U ?_
  first|(have e:=im (h:=h) (i:=i) he; have B:fK r h i=cg:=if_neg (fun q=>by rw [e] at q; exact he q); rw [e,B]; rfl)|(have e:=iq (h:=h) (i:=i) he I; have B:fK r h i=cg:=if_neg (fun q=>by rw [e] at q; cases q); rw [e,B]; rfl)|(have e:=gK he I A hd C; have B:fK r h i=cg:=if_neg (fun q=>by rw [e] at q; cases q); rw [e,B]; rfl)|(have e:=jk he I A hd C; rw [e.1,e.2,H]; done)
 obtain ⟨he,J⟩:=c.1 rfl
 try dsimp only [cond_true,cond_false,List.cons_append,List.nil_append]
 try dsimp only at J
 have a:=(iR he).2
 refine bp 5 U<|RK X<|ai fun _ P=>av<|WS fun _ R=>bp 1 U<|rS (SX (dG (r:= .bool false) U U U pN) U U)<|bp 1 U<|RK R<|bU U<|WS fun _ K=>rP 5 [] (mc 5 U mn) ?_
 refine fw (xs:=[.tmp 25]) (cs:=[(vI h)]) U cN lX U U U U (by simp [Value.cells]) U U fun k=>?_
 refine rS (CL (dL.eq (l7 0 ((r.ay.length:Int)-1) ([h]) (some ⟨k,0,none⟩) 1 sd) cZ) (aL (bj 0 U U (by simp [bW]) U)<|aR) U) ?_
 refine rP 2 [] mn ?_
 refine cr (t:=29) U (aW fun s=>?_) (aX fun s=>?_)
 ·refine bp 7 U<|RK K<|aJ U<|WS fun _ S=>rS (SX (bg (xs:=[]) (cs:=(aa.cells (aa.mk 0 0))) U U (bh eM U)) U U)<|Ec U bS U<|rP 1 [] mn ?_
  refine RK S<|an<|ja hQ [0] (mc 5 U mn) U ?_
  first|(have e:=im (h:=h) (i:=i) he; have B:fK r h i=cg:=if_neg (fun q=>by rw [e] at q; exact he q); rw [e,B]; rfl)|(have e:=iq (h:=h) (i:=i) he I; have B:fK r h i=cg:=if_neg (fun q=>by rw [e] at q; cases q); rw [e,B]; rfl)|(have e:=gK he I A hd C; have B:fK r h i=cg:=if_neg (fun q=>by rw [e] at q; cases q); rw [e,B]; rfl)|(have e:=jk he I A hd C; rw [e.1,e.2,H]; done)
 refine rP 2 [] mn ?_
 refine fw (xs:=[.tmp 31]) (cs:=[(vI i)]) U cN lX U U U U (by simp [Value.cells]) U U fun l=>?_
 refine rS (CL (dL.eq (F9 r kA kC az cA cC bA bC slA slC drA drC ha heA heC HD g j (Value.map (some m)) o ([i]) (some ⟨l,0,none⟩) 1 hin sd) cZ) (kF [9,10,11,12,13,14,15,16]<|aL (au (n:=(cj r).length) 3 U (jK (by rw [F]; exact J)))<|aL (eY 4 U oG)<|fM 2 U U<|aL (bj 0 U U (by simp [bW]) U)<|aR) U) ?_
 refine rP 3 [] mn ?_
 refine RK K<|cw U (aW fun p=>?_) (aX fun p=>?_)
 ·refine WS fun _ T=>rS (SX (bg (xs:=[]) (cs:=(aa.cells (aa.mk 0 0))) U U (bh eM U)) U U)<|Hu U bS U<|rP 1 [] mn ?_
  refine RK T<|an<|ja hQ [0] (mc 6 U mn) U ?_
  first|(have e:=im (h:=h) (i:=i) he; have B:fK r h i=cg:=if_neg (fun q=>by rw [e] at q; exact he q); rw [e,B]; rfl)|(have e:=iq (h:=h) (i:=i) he I; have B:fK r h i=cg:=if_neg (fun q=>by rw [e] at q; cases q); rw [e,B]; rfl)|(have e:=gK he I A hd C; have B:fK r h i=cg:=if_neg (fun q=>by rw [e] at q; cases q); rw [e,B]; rfl)|(have e:=jk he I A hd C; rw [e.1,e.2,H]; done)
 refine WS fun _ AM=>rP 3 [] (mc 7 U mn) ?_
 obtain ⟨ht,A⟩:=aB r.ay ((h).toNat) I
 obtain ⟨D,E⟩:=aB ha ((h).toNat) I
 have Z:(List.zipWith c_ r.ay ha)[(h).toNat]? =some (c_ ht D):=db A E
 refine rS (IA ((h).toNat) U (aq 15 U) mL dc I I) ?_
 have z:=hin.mH _ _ _ A E
 have AF:=z.mE
 have AA:=(a.mH ht (aI A)).1
 refine rS (fE ((h).toNat) 0 (vS D.1.1 ht.length D.1.2) U bQ (aq 15 U) Z U dc U)<|rP 1 [] mn ?_
 obtain ⟨d,hd⟩:=aB ht ((i).toNat) I
 obtain ⟨da,v⟩:=aB D.2 ((i).toNat) I
 have y:(List.zipWith aw.cells ht D.2)[(i).toNat]? =some (aw.cells d da):=db hd v
 refine rS (IA ((i).toNat) U (show fR _ (rd D.1.1 ht.length 7 (List.zipWith aw.cells ht D.2)).holds from (bT 16 U (bk A E ck))) sU dc I I)<|rS (mF (((i).toNat)*7) U (show fR _ (rd D.1.1 ht.length 7 (List.zipWith aw.cells ht D.2)).holds from (bT 16 U (bk A E ck))) (Nat.mul_pos I dc) fq U)<|rS (fE ((i).toNat) 0 (vB d.Out) U bQ (show fR _ (rd D.1.1 ht.length 7 (List.zipWith aw.cells ht D.2)).holds from (bT 16 U (bk A E ck))) y U dc U)<|rP 1 [] mn ?_
 refine RK AM<|cw U (fun C=>?_) (fun C=>?_)
 ·refine WS fun _ V=>rS (SX (bg (xs:=[]) (cs:=(aa.cells (aa.mk 0 0))) U U (bh eM U)) U U)<|Hu U bS U<|rP 1 [] mn ?_
  refine RK V<|an<|ja hQ [0] (mc 6 U mn) U ?_
  first|(have e:=im (h:=h) (i:=i) he; have B:fK r h i=cg:=if_neg (fun q=>by rw [e] at q; exact he q); rw [e,B]; rfl)|(have e:=iq (h:=h) (i:=i) he I; have B:fK r h i=cg:=if_neg (fun q=>by rw [e] at q; cases q); rw [e,B]; rfl)|(have e:=gK he I A hd C; have B:fK r h i=cg:=if_neg (fun q=>by rw [e] at q; cases q); rw [e,B]; rfl)|(have e:=jk he I A hd C; rw [e.1,e.2,H]; done)
 refine cy<|aG<|KK P<|WS fun _ W=>bp 1 U<|rS (SX (cm U U) U U)<|rP 3 [] (mc 2 U mn) ?_
 obtain ⟨tr,AN⟩:=aB (cj r) ((h).toNat) I
 obtain ⟨tra,G⟩:=aB HD ((h).toNat) I
 have b:(List.zipWith wF (cj r) HD)[(h).toNat]? =some (wF tr tra):=db AN G
 refine rS (IA ((h).toNat) U (au (n:=(cj r).length) 3 U (jK (by rw [F]; exact J))) Bn dc I I) ?_
 have L:=px A AN
 have AH:tr.length=r.aT.length:=by rw [L,List.length_map]; exact AA
 refine rS (fE ((h).toNat) 0 (vS tra.1 tr.length tra.2) U bQ (au (n:=(cj r).length) 3 U (jK (by rw [F]; exact J))) b U dc U) ?_
 refine rP 1 [] mn ?_
 obtain ⟨x,hx⟩:=aB tr ((i).toNat) I
 have AC:=br aa.cells hx
 refine rS (IA ((i).toNat) U (show fR _ (rd tra.1 tr.length 2 (tr.map aa.cells)).holds from (fun w hw=>(eY 4 U oG) w hw _ (bk AN G (by simp [xM])))) kB dc I I) ?_
 have H:=xE L hx hd
 refine rS (j0 ((i).toNat) 0 (aa.cells x) U bQ (show fR _ (rd tra.1 tr.length 2 (tr.map aa.cells)).holds from (fun w hw=>(eY 4 U oG) w hw _ (bk AN G (by simp [xM])))) AC U dc U U)<|Hu U bS U<|rP 1 [] mn ?_
 refine RK W<|an<|ja hQ [0] (mc 6 U mn) U ?_
 first|(have e:=im (h:=h) (i:=i) he; have B:fK r h i=cg:=if_neg (fun q=>by rw [e] at q; exact he q); rw [e,B]; rfl)|(have e:=iq (h:=h) (i:=i) he I; have B:fK r h i=cg:=if_neg (fun q=>by rw [e] at q; cases q); rw [e,B]; rfl)|(have e:=gK he I A hd C; have B:fK r h i=cg:=if_neg (fun q=>by rw [e] at q; cases q); rw [e,B]; rfl)|(have e:=jk he I A hd C; rw [e.1,e.2,H]; done)
end
section
open Go.RowKit
theorem jO (n lo hi:Int):
 dL Tryz.prog 45 [(vI n),(vI lo),(vI hi)] [] (vB (decide (lo≤n∧n≤hi))):=by
 refine bu kr Tryz.func45 U U fun D Q hQ hN=>?_
 try dsimp only
 refine WS fun _ B=>bp 1 U<|RK B<|WS fun _ A=>rP 4 [] mn ?_
 refine cr (t:=10) U (aO fun C=>?_) (aP fun C=>?_)
 ·refine rP 5 [] mn ?_
  refine RK A<|an<|Q1 hQ U U U ?_
  exact cB (decide_eq_decide.2 I)
 refine rP 5 [] mn ?_
 refine RK A<|an<|Q1 hQ U U U ?_
 exact cB (bw I).symm
theorem BH (r:cf) (sgA:OA) (sgC:Nat):
 dL Tryz.prog 123 [(vA (dZ.cells (j1 r sgA sgC)))] [(rd sgA r.ag.length 2 (r.ag.map aD.cells))] (vB (decide (kI r))):=by
 refine bu kr Tryz.func123 U U fun F Q hQ hN=>?_
 try dsimp only
 refine WS fun _ B=>eQ U fun E=>bp 1 U<|RK B<|WS fun _ A=>rP 4 [] (mc 0 U mn) ?_
 refine dY (t:=6) U (aP fun C=>?_) (aO fun C=>?_)
 ·refine rP 11 [] mn ?_
  refine RK A<|an<|Q1 hQ U U U ?_
  simp only [kI]
  exact cB (bw I).symm
 refine rP 5 [] (mc 0 U mn) ?_
 refine dY (t:=11) U (aP fun D=>?_) (aO fun D=>?_)
 ·refine rP 6 [] mn ?_
  refine RK A<|an<|Q1 hQ U U U ?_
  simp only [kI]
  exact cB (bw I).symm
 refine rP 6 [] (mc 0 U mn) ?_
 refine RK A<|an<|Q1 hQ U U U ?_
 simp only [kI]
 exact cB (decide_eq_decide.2 I)
theorem IE (s:aa):
 dL Tryz.prog 84 [(vA (aa.cells s))] [] (vB (decide (kG s))):=by
 refine bu kr Tryz.func84 U U fun F Q hQ hN=>?_
 try dsimp only
 refine WS fun _ B=>eQ U fun E=>bp 1 U<|RK B<|WS fun _ A=>rP 4 [] (mc 0 U mn) ?_
 refine dY (t:=6) U (aP fun C=>?_) (aO fun C=>?_)
 ·refine rP 12 [] mn ?_
  refine RK A<|an<|Q1 hQ U U U ?_
  simp only [kG]
  exact cB (bw I).symm
 refine rP 7 [] (mc 0 U mn) ?_
 refine dY (t:=13) U (aP fun D=>?_) (aO fun D=>?_)
 ·refine rP 5 [] mn ?_
  refine RK A<|an<|Q1 hQ U U U ?_
  simp only [kG]
  exact cB (bw I).symm
 refine rP 5 [] (mc 0 U mn) ?_
 refine RK A<|an<|Q1 hQ U U U ?_
 simp only [kG]
 exact cB (decide_eq_decide.2 I)
theorem ov (la:List Int) (laA:OA) (laC:Nat) (lb:List Int) (lbA:OA) (lbC:Nat) (h1:la.length≤1000000) (h2:lb.length≤1000000):
 dL Tryz.prog 13 [(vS laA la.length laC),(vS lbA lb.length lbC)] [(rd laA la.length 1 (la.map iC)),(rd lbA lb.length 1 (lb.map iC))] (vB (decide (la=lb))):=by
 refine bu kr Tryz.func13 U U fun V Q hQ hN=>?_
 try dsimp only
 refine WS fun _ J=>bp 1 U<|RK J<|ai fun _ K=>WS fun _ L=>rP 5 [] mn ?_
 refine RK L<|cw U (aW fun hl=>?_) (aX fun hl=>?_)
 ·refine WS fun _ M=>rP 1 [] mn ?_
  refine RK M<|an<|Q1 hQ U U U ?_
  exact cB (bw (fun e=>by subst e; omega)).symm
 refine WK K<|ai fun _ N=>WS fun _ O=>rP 1 [] mn ?_
 refine RK O<|av ?_
 have A:(0≤la.length)∧(la.take 0=lb.take 0):=by simp
 refine bI (ι:={z:Nat // (z≤la.length)∧(la.take z=lb.take z)}) [0,1] [0,1] U U (fun z=>[(5,(vI (z.1:Int)))]) (fun z=>[]) (fun _=>rfl) (fun _=>rfl) (fun z=>la.length-z.1) ⟨0,A⟩ (aU U) (aC [0,1]) ?_
 clear A
 rintro ⟨i,⟨S,B⟩⟩ J7 AB
 try dsimp only
 refine ai fun _ P=>WS fun _ R=>rP 4 [] mn ?_
 refine RK R<|bH U (aP fun H=>?_) (aO fun H=>?_)
 ·refine bx<|ae<|ae<|ax<|KK N<|WS fun _ F=>rP 1 [] mn ?_
  refine RK F<|an<|Q1 hQ U U U ?_
  exact cB (dw (b_ I B I)).symm
 refine WK P<|ai fun _ C=>av<|ai fun _ D=>cU bX 9 kr<|dP 2 [] mn ?_
 obtain ⟨x,hx⟩:=aB la i I
 have T:=br iC hx
 refine dS (IA i U (aq 0 U) cN dc I I)<|dS (fE i 0 (vI x) U bQ (aq 0 U) T U dc U)<|dP 2 [] mn ?_
 obtain ⟨y,hy⟩:=aB lb i I
 have AA:=br iC hy
 refine dS (IA i U (aq 1 U) cN dc I I)<|dS (fE i 0 (vI y) U bQ (aq 1 U) AA U dc U)<|dP 1 [] mn ?_
 refine cv<|RK D<|cw U (aW fun h=>?_) (aX fun h=>?_)
 ·refine WS fun _ E=>rP 1 [] mn ?_
  refine RK E<|an<|Q1 hQ U U U ?_
  exact cB (bw (lT hx hy h)).symm
 refine cy<|aG<|KK C<|ak<|rP 3 [] mn ?_
 refine aA ?_
 have G:(vI (((i+1):Nat):Int))=(vI ((i:Int)+1)):=by exact cI I
 refine aS (AB ⟨(i+1),⟨I,ir B hx hy h⟩⟩ _ _ _ U os (cS.cons U<|cS.cons U<|aV U G<|cS.nil _) (aC [0,1]))
end
section
open Go.RowKit
theorem gA (n lo hi:Int):
 dL Tryz.prog 119 [(vI n),(vI lo),(vI hi)] [] (vB (decide (lo≤n∧n≤hi))):=by
 refine bu kr Tryz.func119 U U fun D Q hQ hN=>?_
 try dsimp only
 refine WS fun _ B=>bp 1 U<|RK B<|WS fun _ A=>rP 4 [] mn ?_
 refine cr (t:=10) U (aO fun C=>?_) (aP fun C=>?_)
 ·refine rP 5 [] mn ?_
  refine RK A<|an<|Q1 hQ U U U ?_
  exact cB (decide_eq_decide.2 I)
 refine rP 5 [] mn ?_
 refine RK A<|an<|Q1 hQ U U U ?_
 exact cB (bw I).symm
theorem yT (ts:List aj) (tsA:OA) (tsC:Nat) (hst: ∀ x∈ts,bD x) (hlen:ts.length≤12):
 pH Tryz.prog 164 [(vA (bB.cells (bB.mk (bE.mk tsA ts.length tsC))))] [(rd tsA ts.length 9 (ts.map aj.cells))] (fun (x:(OA)×Nat)=>(vS x.1 ((gf ts (ts.length+1)).length) x.2)) (fun (x:(OA)×Nat)=>True) (fun (x:(OA)×Nat)=>[(own x.1 x.2 47 2 ((gf ts (ts.length+1)).map aa.cells))]):=by
 refine fm kr Tryz.func164 U U fun V Q hQ hN=>?_
 try dsimp only
 refine WS fun _ J=>eQ U fun AA=>bp 1 U<|RK J<|WS fun _ K=>bp 1 U<|RK K<|ai fun _ L=>WS fun _ M=>rP 1 [] mn ?_
 refine RK M<|av<|fT 47 2 ?_
 have A:(0≤ts.length+1):=by exact Nat.zero_le _
 refine bI (ι:={z:Nat×(OA)×Nat // (z.1≤ts.length+1)}) [1] [1,2] U U (fun z=>[(3,(vS z.1.2.1 ((gf ts z.1.1).length) z.1.2.2)),(4,(vI (z.1.1:Int)))]) (fun z=>[(own z.1.2.1 z.1.2.2 47 2 ((gf ts z.1.1).map aa.cells))]) (fun _=>rfl) (fun _=>rfl) (fun z=>ts.length+1-z.1.1) ⟨(0,none,0),A⟩ (aU U) (aC [1,2,0]) ?_
 clear A
 rintro ⟨⟨i,a,c⟩,B⟩ J6 AB
 try dsimp only at B
 try dsimp only
 refine ai fun _ N=>WS fun _ O=>rP 5 [] (mc 0 U mn) ?_
 refine RK O<|bH U (aP fun T=>?_) (aO fun T=>?_)
 ·refine bx<|ae<|ae<|ax<|KK L<|WS fun _ E=>?_
  obtain rfl:i=ts.length+1:=by omega
  refine rP 2 [] mn ?_
  refine RK E<|an<|LX hQ (a,c) [2] [] mn U U U U ?_
  trivial
 refine WK N<|ai fun _ C=>av<|WS fun _ D=>eZ 2 [] (mc 0 U mn) U<|rS (CL (xy ts tsA tsC 0 (i:Int) hst hlen I) (bf [1]) U)<|bp 3 U<|AL U cR fun P=>AL U cR fun R=>qf U bS U<|fg U bS U<|RK D<|ak<|rP 2 [] (mc 1 U mn) ?_
 refine fw (xs:=[.tmp 21]) (cs:=(aa.cells (dI ts (0:Int).toNat ((i:Int)-0).toNat))) U kB cR U U U U (by simp [Value.cells,aa.a_]) U U fun S=>?_
 refine cG (es2:=(List.map aa.cells (gf ts (i+1)))) (m':=(gf ts (i+1)).length) 5 U U U Gv U U sm (bj (es:=List.map aa.cells [(dI ts (0:Int).toNat ((i:Int)-0).toNat)]) 0 U U (by simp [aa.a_]) U) (ij _) (by simp only [mA]; omega) (by simp only [maxLen,mA]; omega) (by rw [y_]; simp) sm U fun G H=>?_
 try dsimp only
 refine bp 1 U<|aA<|aG<|KK C<|ak<|rP 3 [] mn ?_
 refine aA ?_
 have F:(vI (((i+1):Nat):Int))=(vI ((i:Int)+1)):=by exact cI I
 refine aS (AB ⟨((i+1),G,H),(by first|omega|(simp only []; omega))⟩ _ _ _ U os (cS.cons U<|cS.cons U<|aV U F<|cS.nil _) (aC [3,4,5]))
theorem Nr (ts:List aj) (tsA:OA) (tsC:Nat) (s:ct) (hlen:ts.length≤1000000) (hside: ∀ x∈ts,0≤x.gI∧x.gI≤255):
 dL Tryz.prog 148 [(vA (bB.cells (bB.mk (bE.mk tsA ts.length tsC)))),(vA (ct.cells s))] [(rd tsA ts.length 9 (ts.map aj.cells))] (vT [(vA (aa.cells (Ka ts s))),(vI (BE ts s))]):=by
 refine bu kr Tryz.func148 U U fun t Q hQ hN=>?_
 try dsimp only
 refine WS fun _ R=>eQ U fun j=>eQ U fun l=>AL U cR fun m=>bp 1 U<|RK R<|ai fun _ S=>WS fun _ T=>eZ 1 [] (mc 2 U mn) U<|rS (CL (td ts tsA tsC hlen) (bf [3]) U)<|rP 1 [] mn ?_
 refine RK T<|cw U (fun AB=>?_) (fun AB=>?_)
 ·rw [Bool.not_eq_true'] at AB
  refine WS fun _ AA=>rS (SX (bg (xs:=[]) (cs:=(aa.cells (aa.mk 0 0))) U U (bh eM U)) U U)<|fg U bS U<|rP 1 [] mn ?_
  refine RK AA<|an<|ja hQ [0] (mc 0 U mn) U ?_
  (have e:=FV (s:=s) (by simpa using AB); rw [e.1,e.2]<;>rfl)
 rw [Bool.not_eq_false'] at AB
 refine WK S<|ai fun _ V=>WS fun _ W=>?_
 have M:=iN AB
 have Z:=jw AB
 refine eZ 2 [0,1] (mc 2 U (mc 1 U mn)) U<|rS (CL (pg ts tsA tsC s asm asm) (bf [3]) U)<|rP 1 [] mn ?_
 refine RK W<|cw U (aW fun D=>?_) (aX fun D=>?_)
 ·refine WS fun _ O=>rS (SX (bg (xs:=[]) (cs:=(aa.cells (aa.mk 0 0))) U U (bh eM U)) U U)<|fg U bS U<|rP 1 [] mn ?_
  refine RK O<|an<|ja hQ [0] (mc 0 U mn) U ?_
  (have e:=E5 AB D; rw [e.1,e.2]<;>rfl)
 refine WK V<|ai fun _ H=>kS bX [0,2,3] [1,4,5,6,7] [false,false,false] [] [(cd m 47 (aa.cells (aa.mk 0 0))),(cd l 139 (ct.cells s)),(cd j 24 (bB.cells (bB.mk (bE.mk tsA ts.length tsC)))),(rd tsA ts.length 9 (ts.map aj.cells)).ro] [] kr (aC [0,1,2,3]) (aC []) ?_
 have r:=D.1
 have N:=oQ M D
 have q:(gf ts (ts.length+1)).length=ts.length+1:=mA
 refine eS U (LW 2 U bQ U U)<|eS U (FA 0 U fq U)<|eS U (L1 (vI s.aM) 1 U bQ U U)<|dW U<|mD [1,6] kr (g_ ?_<|g_ ?_<|pP)
 rotate_left 1
 ·refine NO U U [1,4,5,7] fun T12 J=>AL U cR fun f=>RD J 1 U<|N1 1<|NO U U [4,5,7] fun T14 P=>cX (yT ts tsA tsC asm asm) (bf [4]) U fun Y b=>?_
  obtain ⟨d,p⟩:=Y
  try dsimp only
  refine RD P 2 U<|N1 4<|NO U U [5,7] fun T19 E=>?_
  obtain ⟨z,hz⟩:=aB (gf ts (ts.length+1)) ((s.aM).toNat) I
  have A:=br aa.cells hz
  refine rS (IA ((s.aM).toNat) U (au (n:=(gf ts (ts.length+1)).length) 0 U sm) kB dc I I)<|RD E 2 U<|N1 5<|NO U U [7] fun T20 F=>rS (j0 ((s.aM).toNat) 0 (aa.cells z) U bQ (au (n:=(gf ts (ts.length+1)).length) 0 U sm) A U dc U U)<|RD F 2 U<|N1 7<|NO U U [] fun T21 C=>qf U bS U<|RD C 2 U<|mm<|KK H<|WS fun _ B=>rP 1 [] mn ?_
  have A:=nY hz
  have G:=ki M 0 s.aM.toNat
  unfold jX at N
  rw [← A] at G
  refine eZ 11 [0,1,0,1] (mc 1 U (mc 3 U mn)) U<|rS (SX (bg (xs:=[(0,.tmp 27),(1,.tmp 33)]) (cs:=(aa.cells (aa.mk (z.Lo+s.jW.Lo) (z.Hi+s.jW.Hi)))) U U (bh eM U)) U U)<|zO U bS U<|rP 1 [] mn ?_
  refine RK B<|an<|ja hQ [0] (mc 2 U mn) U ?_
  (have e:=ua AB D; subst A; rw [e.1,e.2]<;>rfl)
 refine NO U U [4,5,6,7] fun T12 J=>cX (yT ts tsA tsC asm asm) (bf [3]) U fun X a=>?_
 obtain ⟨c,o⟩:=X
 try dsimp only
 refine RD J 1 U<|mD [4,6] kr (g_ ?_<|g_ ?_<|pP)
 rotate_left 1
 ·refine NO U U [4,5,7] fun T17 K=>AL U cR fun g=>RD K 2 U<|N1 4<|NO U U [5,7] fun T19 E=>?_
  obtain ⟨z,hz⟩:=aB (gf ts (ts.length+1)) ((s.aM).toNat) I
  have A:=br aa.cells hz
  refine rS (IA ((s.aM).toNat) U (au (n:=(gf ts (ts.length+1)).length) 1 U sm) kB dc I I)<|RD E 2 U<|N1 5<|NO U U [7] fun T20 F=>rS (j0 ((s.aM).toNat) 0 (aa.cells z) U bQ (au (n:=(gf ts (ts.length+1)).length) 1 U sm) A U dc U U)<|RD F 2 U<|N1 7<|NO U U [] fun T21 C=>fg U bS U<|RD C 2 U<|mm<|KK H<|WS fun _ B=>rP 1 [] mn ?_
  have A:=nY hz
  have G:=ki M 0 s.aM.toNat
  unfold jX at N
  rw [← A] at G
  refine eZ 11 [0,1,0,1] (mc 0 U (mc 3 U mn)) U<|rS (SX (bg (xs:=[(0,.tmp 27),(1,.tmp 33)]) (cs:=(aa.cells (aa.mk (z.Lo+s.jW.Lo) (z.Hi+s.jW.Hi)))) U U (bh eM U)) U U)<|zO U bS U<|rP 1 [] mn ?_
  refine RK B<|an<|ja hQ [0] (mc 2 U mn) U ?_
  (have e:=ua AB D; subst A; rw [e.1,e.2]<;>rfl)
 refine NO U U [5,6,7] fun T17 K=>?_
 obtain ⟨z,hz⟩:=aB (gf ts (ts.length+1)) ((s.aM).toNat) I
 have A:=br aa.cells hz
 refine rS (IA ((s.aM).toNat) U (au (n:=(gf ts (ts.length+1)).length) 0 U sm) kB dc I I)<|RD K 1 U<|mD [5,6] kr (g_ ?_<|g_ ?_<|pP)
 rotate_left 1
 ·refine NO U U [5,7] fun T18 L=>AL U cR fun i=>RD L 2 U<|N1 5<|NO U U [7] fun T20 F=>rS (j0 ((s.aM).toNat) 0 (aa.cells z) U bQ (au (n:=(gf ts (ts.length+1)).length) 1 U sm) A U dc U U)<|RD F 2 U<|N1 7<|NO U U [] fun T21 C=>fg U bS U<|RD C 2 U<|mm<|KK H<|WS fun _ B=>rP 1 [] mn ?_
  have A:=nY hz
  have G:=ki M 0 s.aM.toNat
  unfold jX at N
  rw [← A] at G
  refine eZ 11 [0,1,0,1] (mc 0 U (mc 3 U mn)) U<|rS (SX (bg (xs:=[(0,.tmp 27),(1,.tmp 33)]) (cs:=(aa.cells (aa.mk (z.Lo+s.jW.Lo) (z.Hi+s.jW.Hi)))) U U (bh eM U)) U U)<|zO U bS U<|rP 1 [] mn ?_
  refine RK B<|an<|ja hQ [0] (mc 2 U mn) U ?_
  (have e:=ua AB D; subst A; rw [e.1,e.2]<;>rfl)
 refine NO U U [6,7] fun T18 L=>rS (j0 ((s.aM).toNat) 0 (aa.cells z) U bQ (au (n:=(gf ts (ts.length+1)).length) 0 U sm) A U dc U U)<|RD L 1 U<|N1 6<|NO U U [7] fun T19 E=>AL U cR fun k=>RD E 2 U<|N1 7<|NO U U [] fun T21 C=>fg U bS U<|RD C 2 U<|mm<|KK H<|WS fun _ B=>rP 1 [] mn ?_
 have A:=nY hz
 have G:=ki M 0 s.aM.toNat
 unfold jX at N
 rw [← A] at G
 refine eZ 11 [0,1,0,1] (mc 0 U (mc 3 U mn)) U<|rS (SX (bg (xs:=[(0,.tmp 27),(1,.tmp 33)]) (cs:=(aa.cells (aa.mk (z.Lo+s.jW.Lo) (z.Hi+s.jW.Hi)))) U U (bh eM U)) U U)<|zO U bS U<|rP 1 [] mn ?_
 refine RK B<|an<|ja hQ [0] (mc 2 U mn) U ?_
 (have e:=ua AB D; subst A; rw [e.1,e.2]<;>rfl)
theorem C7 (ts:List aj) (tsA:OA) (tsC:Nat) (p:ct) (q:ct) (hlen:ts.length≤1000000) (hside: ∀ x∈ts,0≤x.gI∧x.gI≤255) (hord: ¬ q.aM<p.aM):
 dL Tryz.prog 149 [(vA (bB.cells (bB.mk (bE.mk tsA ts.length tsC)))),(vA (ct.cells p)),(vA (ct.cells q))] [(rd tsA ts.length 9 (ts.map aj.cells))] (vT [(vA (aa.cells (jy ts p q))),(vI (j8 ts p q))]):=by
 refine bu kr Tryz.func149 U U fun k Q hQ hN=>?_
 try dsimp only
 refine WS fun _ N=>eQ U fun f=>eQ U fun g=>eQ U fun i=>AL U cR fun j=>bp 1 U<|RK N<|ai fun _ O=>WS fun _ P=>eZ 1 [] (mc 3 U mn) U<|rS (CL (td ts tsA tsC hlen) (bf [4]) U)<|rP 1 [] mn ?_
 refine RK P<|cw U (fun A=>?_) (fun A=>?_)
 ·rw [Bool.not_eq_true'] at A
  refine WS fun _ R=>rS (SX (bg (xs:=[]) (cs:=(aa.cells (aa.mk 0 0))) U U (bh eM U)) U U)<|fg U bS U<|rP 1 [] mn ?_
  refine RK R<|an<|ja hQ [0] (mc 0 U mn) U ?_
  (have e:=rz (a:=p) (b:=q) (by simpa using A); rw [e.1,e.2]<;>rfl)
 rw [Bool.not_eq_false'] at A
 refine WK O<|ai fun _ S=>WS fun _ E=>?_
 have D:=iN A
 have M:=jw A
 refine eZ 2 [0,1] (mc 3 U (mc 2 U mn)) U<|rS (CL (pg ts tsA tsC p asm asm) (bf [4]) U)<|rP 2 [] mn ?_
 refine cr (t:=20) U (aW fun B=>?_) (aX fun B=>?_)
 ·refine bp 5 U<|RK E<|aJ U<|WS fun _ G=>rS (SX (bg (xs:=[]) (cs:=(aa.cells (aa.mk 0 0))) U U (bh eM U)) U U)<|fg U bS U<|rP 1 [] mn ?_
  refine RK G<|an<|ja hQ [0] (mc 0 U mn) U ?_
  (have e:=mN (a:=p) (b:=q) A (fun h=>by first|exact B h.1|exact C h.2); rw [e.1,e.2]<;>rfl)
 refine eZ 2 [0,1] (mc 3 U (mc 1 U mn)) U<|rS (CL (pg ts tsA tsC q asm asm) (bf [4]) U)<|rP 2 [] mn ?_
 refine RK E<|cw U (aW fun C=>?_) (aX fun C=>?_)
 ·refine WS fun _ H=>rS (SX (bg (xs:=[]) (cs:=(aa.cells (aa.mk 0 0))) U U (bh eM U)) U U)<|fg U bS U<|rP 1 [] mn ?_
  refine RK H<|an<|ja hQ [0] (mc 0 U mn) U ?_
  (have e:=mN (a:=p) (b:=q) A (fun h=>by first|exact B h.1|exact C h.2); rw [e.1,e.2]<;>rfl)
 refine WK S<|ai fun _ AB=>WS fun _ J=>?_
 have AA:eH ts p∧eH ts q:=⟨B,C⟩
 have T:=oQ D B
 have V:=oQ D C
 have c:=B.1
 have d:=C.1
 have Y:=uE D M C B
 unfold jX at T V
 refine rP 5 [0,1] (mc 1 U (mc 2 U mn)) ?_
 refine RK J<|cw U (aO fun F=>?_) (aP fun F=>?_)
 ·exfalso; omega
 refine WK AB<|WS fun _ K=>rP 2 [] (mc 3 U mn) ?_
 have Z:=ki D p.aM.toNat (q.aM-p.aM).toNat
 refine eZ 3 [0,1] (mc 2 U (mc 1 U mn)) U<|rS (CL (xy ts tsA tsC p.aM q.aM asm asm I) (bf [4]) U)<|bp 3 U<|AL U cR fun W=>AL U cR fun X=>qf U bS U<|fg U bS U<|RK K<|WS fun _ L=>eZ 20 [0,1,2,0,1,2] (mc 1 U (mc 3 U (mc 4 U mn))) U<|rS (SX (bg (xs:=[(0,.tmp 64),(1,.tmp 74)]) (cs:=(aa.cells (aa.mk ((((dI ts p.aM.toNat (q.aM-p.aM).toNat).Lo)+q.jW.Lo)-p.jW.Hi) ((((dI ts p.aM.toNat (q.aM-p.aM).toNat).Hi)+q.jW.Hi)-p.jW.Lo)))) U U (bh eM U)) U U)<|zO U bS U<|rP 1 [] mn ?_
 refine RK L<|an<|ja hQ [0] (mc 2 U mn) U ?_
 (have e:=jP A AA; rw [e.1,e.2,oI F]<;>rfl)
theorem Em (ts:List aj) (tsA:OA) (tsC:Nat) (p:ct) (q:ct) (hlen:ts.length≤1000000) (hside: ∀ x∈ts,0≤x.gI∧x.gI≤255):
 dL Tryz.prog 149 [(vA (bB.cells (bB.mk (bE.mk tsA ts.length tsC)))),(vA (ct.cells p)),(vA (ct.cells q))] [(rd tsA ts.length 9 (ts.map aj.cells))] (vT [(vA (aa.cells (jy ts p q))),(vI (j8 ts p q))]):=by
 refine bu kr Tryz.func149 U U fun v Q hQ hN=>?_
 try dsimp only
 refine WS fun _ S=>eQ U fun o=>eQ U fun r=>eQ U fun s=>AL U cR fun u=>bp 1 U<|RK S<|ai fun _ T=>WS fun _ AA=>eZ 1 [] (mc 3 U mn) U<|rS (CL (td ts tsA tsC hlen) (bf [4]) U)<|rP 1 [] mn ?_
 refine RK AA<|cw U (fun A=>?_) (fun A=>?_)
 ·rw [Bool.not_eq_true'] at A
  refine WS fun _ V=>rS (SX (bg (xs:=[]) (cs:=(aa.cells (aa.mk 0 0))) U U (bh eM U)) U U)<|fg U bS U<|rP 1 [] mn ?_
  refine RK V<|an<|ja hQ [0] (mc 0 U mn) U ?_
  (have e:=rz (a:=p) (b:=q) (by simpa using A); rw [e.1,e.2]<;>rfl)
 rw [Bool.not_eq_false'] at A
 refine WK T<|ai fun _ W=>WS fun _ E=>?_
 have D:=iN A
 have P:=jw A
 refine eZ 2 [0,1] (mc 3 U (mc 2 U mn)) U<|rS (CL (pg ts tsA tsC p asm asm) (bf [4]) U)<|rP 2 [] mn ?_
 refine cr (t:=20) U (aW fun B=>?_) (aX fun B=>?_)
 ·refine bp 5 U<|RK E<|aJ U<|WS fun _ G=>rS (SX (bg (xs:=[]) (cs:=(aa.cells (aa.mk 0 0))) U U (bh eM U)) U U)<|fg U bS U<|rP 1 [] mn ?_
  refine RK G<|an<|ja hQ [0] (mc 0 U mn) U ?_
  (have e:=mN (a:=p) (b:=q) A (fun h=>by first|exact B h.1|exact C h.2); rw [e.1,e.2]<;>rfl)
 refine eZ 2 [0,1] (mc 3 U (mc 1 U mn)) U<|rS (CL (pg ts tsA tsC q asm asm) (bf [4]) U)<|rP 2 [] mn ?_
 refine RK E<|cw U (aW fun C=>?_) (aX fun C=>?_)
 ·refine WS fun _ H=>rS (SX (bg (xs:=[]) (cs:=(aa.cells (aa.mk 0 0))) U U (bh eM U)) U U)<|fg U bS U<|rP 1 [] mn ?_
  refine RK H<|an<|ja hQ [0] (mc 0 U mn) U ?_
  (have e:=mN (a:=p) (b:=q) A (fun h=>by first|exact B h.1|exact C h.2); rw [e.1,e.2]<;>rfl)
 refine WK W<|ai fun _ AB=>WS fun _ J=>?_
 have R:eH ts p∧eH ts q:=⟨B,C⟩
 have X:=oQ D B
 have Y:=oQ D C
 have l:=B.1
 have m:=C.1
 have j:=uE D P C B
 unfold jX at X Y
 refine rP 5 [0,1] (mc 1 U (mc 2 U mn)) ?_
 refine RK J<|cw U (aO fun F=>?_) (aP fun F=>?_)
 ·refine WS fun _ K=>eZ 3 [0,1,2] (mc 3 U (mc 1 U (mc 2 U mn))) U<|rS (CL (C7 ts tsA tsC q p hlen hside I) (bf [4]) U)<|bp 3 U<|AL U cR fun d=>fg U bS U<|bp 1 U<|RK K<|WS fun _ L=>rP 2 [] (mc 0 U mn) ?_
  have O:jy ts q p=iM ts q p:=(jP A ⟨C,B⟩).2
  have Z: -400000≤(jy ts q p).Lo∧(jy ts q p).Hi≤400000:=by rw [O]; omega
  have c:(jy ts q p).Lo≤(jy ts q p).Hi:=by rw [O]; omega
  refine rS (NG U ⟨I,I⟩)<|eZ 2 [] (mc 0 U mn) U<|rS (NG U ⟨I,I⟩)<|rS (SX (bg (xs:=[(0,.tmp 41),(1,.tmp 44)]) (cs:=(aa.cells (aa.mk (-((jy ts q p).Hi)) (-((jy ts q p).Lo))))) U U (bh eM U)) U U)<|qf U bS U<|rP 1 [] mn ?_
  refine RK L<|an<|ja hQ [0] (mc 1 U mn) U ?_
  (have e:=jP A R; have i:=jP A ⟨C,B⟩; rw [e.1,e.2,i.2,z5 F]<;>rfl)
 refine WK AB<|WS fun _ M=>rP 2 [] (mc 3 U mn) ?_
 have k:=ki D p.aM.toNat (q.aM-p.aM).toNat
 refine eZ 3 [0,1] (mc 2 U (mc 1 U mn)) U<|rS (CL (xy ts tsA tsC p.aM q.aM asm asm I) (bf [4]) U)<|bp 3 U<|AL U cR fun f=>AL U cR fun g=>qf U bS U<|fg U bS U<|RK M<|WS fun _ N=>eZ 20 [0,1,2,0,1,2] (mc 1 U (mc 3 U (mc 4 U mn))) U<|rS (SX (bg (xs:=[(0,.tmp 64),(1,.tmp 74)]) (cs:=(aa.cells (aa.mk ((((dI ts p.aM.toNat (q.aM-p.aM).toNat).Lo)+q.jW.Lo)-p.jW.Hi) ((((dI ts p.aM.toNat (q.aM-p.aM).toNat).Hi)+q.jW.Hi)-p.jW.Lo)))) U U (bh eM U)) U U)<|zO U bS U<|rP 1 [] mn ?_
 refine RK N<|an<|ja hQ [0] (mc 2 U mn) U ?_
 (have e:=jP A R; rw [e.1,e.2,oI F]<;>rfl)
end
section
open Go.RowKit
theorem El (l:aQ) (kA:OA) (kC:Nat) (az:List RA) (cA:OA) (cC:Nat) (bA:OA) (bC:Nat) (hraw:qY l az):
 dL Tryz.prog 31 [(vA (cb.cells (jI l kA kC cA cC bA bC)))] [(rd kA l.aH.length 9 (l.aH.map aj.cells)),(rd cA l.ah.length 2 (List.zipWith al.cells l.ah az)),(eg (aZ al.fB l.ah az)),(rd bA l.ab.length 4 (l.ab.map bL.cells))] (vB (decide (jv l))):=by
 have e:=hraw.pO
 have d:=hraw.pJ
 have a:=hraw.mE
 have b:=hraw.pQ
 refine bu kr Tryz.func31 U U fun g Q hQ hN=>?_
 try dsimp only
 refine WS fun _ O=>eQ U fun f=>bp 1 U<|RK O<|ai fun _ P=>WS fun _ D=>bp 1 U<|rS (LP (bB.cells (bB.mk (bE.mk kA l.aH.length kC))) 0 U bQ U U U)<|rS (CL (Ik l.aH kA kC) (bf [1]) U)<|rP 1 [] mn ?_
 refine cr (t:=7) U (aO fun Z=>?_) (aP fun Z=>?_)
 ·refine bp 11 U<|RK D<|aJ U<|WS fun _ R=>rP 1 [] mn ?_
  refine RK R<|an<|Q1 hQ U U U ?_
  exact cB (dw (.inl I)).symm
 refine rP 6 [] (mc 0 U mn) ?_
 refine cr (t:=13) U (aO fun C=>?_) (aP fun C=>?_)
 ·refine bp 5 U<|RK D<|aJ U<|WS fun _ S=>rP 1 [] mn ?_
  refine RK S<|an<|Q1 hQ U U U ?_
  exact cB (dw (.inl I)).symm
 refine rP 5 [] (mc 0 U mn) ?_
 refine RK D<|cw U (aO fun N=>?_) (aP fun N=>?_)
 ·refine WS fun _ T=>rP 1 [] mn ?_
  refine RK T<|an<|Q1 hQ U U U ?_
  exact cB (dw (.inl I)).symm
 refine WK P<|ai fun _ AA=>WS fun _ V=>rP 1 [] mn ?_
 refine RK V<|av ?_
 have A:(0≤l.ah.length)∧(xG l 0):=by exact ⟨Nat.zero_le _,fun j c hj=>absurd hj (Nat.not_lt_zero _)⟩
 refine bI (ι:={z:Nat // (z≤l.ah.length)∧(xG l z)}) [1] [0,1,2,3,4] U U (fun z=>[(3,(vI (z.1:Int)))]) (fun z=>[]) (fun _=>rfl) (fun _=>rfl) (fun z=>l.ah.length-z.1) ⟨0,A⟩ (aU U) (aC [0,1,2,3,4]) ?_
 clear A
 rintro ⟨i,⟨W,B⟩⟩ J10 F
 try dsimp only
 refine ai fun _ G=>WS fun _ H=>rP 5 [] (mc 0 U mn) ?_
 refine RK H<|bH U (aP fun C=>?_) (aO fun C=>?_)
 ·refine bx<|ae<|ae<|ax<|KK AA<|WS fun _ L=>rP 1 [] mn ?_
  refine RK L<|an<|Q1 hQ U U U ?_
  exact cB (bw (Gl I I B)).symm
 refine WK G<|ai fun _ AB=>av<|WS fun _ J=>rP 3 [] (mc 0 U mn) ?_
 obtain ⟨x,hx⟩:=aB l.ah i I
 obtain ⟨xa,X⟩:=aB az i I
 have Y:(List.zipWith al.cells l.ah az)[i]? =some (al.cells x xa):=db hx X
 refine rS (IA i U (aq 2 U) vw dc I I)<|rS (mF ((i*2)+1) U (aq 2 U) (Nat.mul_pos I dc) fq U)<|rS (fE i 1 (vS xa.1 x.aK.length xa.2) U bQ (aq 2 U) Y U dc U)<|rP 2 [] mn ?_
 refine RK J<|cw U (aO fun E=>?_) (aP fun E=>?_)
 ·refine WS fun _ K=>rP 1 [] mn ?_
  refine RK K<|an<|Q1 hQ U U U ?_
  exact cB (dw (Gp hx E)).symm
 refine cy<|aG<|KK AB<|ak<|rP 3 [] mn ?_
 refine aA ?_
 have M:(vI (((i+1):Nat):Int))=(vI ((i:Int)+1)):=by exact cI I
 refine aS (F ⟨(i+1),⟨I,kh B hx I⟩⟩ _ _ _ U os (cS.cons U<|aV U M<|cS.nil _) (aC [0,1,2,3,4]))
theorem uW (d m:Int) (hd:0≤d∧d≤1000) (hm:0≤m∧m≤90000000):
 dL Tryz.prog 147 [(vI d),(vI m)] [] (vI (nv (d*m) 1000000)):=by
 have J:=KG (a:=d) (b:=m) (A:=1000) (B:=90000000) hd.1 hd.2 hm.1 hm.2
 refine bu kr Tryz.func147 U U fun K Q hQ hN=>?_
 try dsimp only
 refine WS fun _ C=>bp 1 U<|RK C<|WS fun _ D=>bp 2 U<|rS (BI U (Cb ⟨I,I⟩))<|bp 1 U<|RK D<|ai fun _ E=>WS fun _ F=>bp 1 U<|rS (BI U (MH I I))<|rP 1 [] mn ?_
 refine RK F<|cw U (aO fun AA=>?_) (aP fun AA=>?_)
 ·refine WS fun _ G=>bp 1 U<|rS (BI U (oS I I I))<|rP 2 [] mn ?_
  refine RK G<|an<|Q1 hQ U U U ?_
  exact cI (by unfold nv; omega)
 refine WK E<|WS fun _ H=>bp 1 U<|rS (BI U (oS I I I))<|rP 1 [] mn ?_
 refine RK H<|an<|Q1 hQ U U U ?_
 exact cI (by unfold nv; omega)
theorem Fs (c:al) (sA:OA) (sC:Nat) (hlen:c.aK.length≤1000000):
 dL Tryz.prog 120 [(vA (cT.cells (cT.mk c.cJ (bE.mk sA c.aK.length sC))))] [(rd sA c.aK.length 3 (c.aK.map bY.cells))] (vB (decide (ed c))):=by
 refine bu kr Tryz.func120 U U fun w0 Q hQ hN=>?_
 try dsimp only
 refine WS fun _ Ad=>eQ U fun b2=>bp 1 U<|RK Ad<|ai fun _ Ae=>WS fun _ AM=>eZ 2 [] (mc 0 U mn) U<|rS (CL (gA c.cJ 0 1000) (aR) U)<|rP 2 [] mn ?_
 refine cr (t:=14) U (aW fun AV=>?_) (aX fun AV=>?_)
 ·refine bp 6 U<|RK AM<|aJ U<|WS fun _ Af=>rP 1 [] mn ?_
  refine RK Af<|an<|Q1 hQ U U U ?_
  exact cB (bw fun h=>by have q1:=h.pI; have q2:=h.len; omega).symm
 refine eZ 3 [] (mc 0 U mn) U<|rS (CL (gA (c.aK.length:Int) 1 5) (aR) U)<|rP 2 [] mn ?_
 refine RK AM<|cw U (aW fun AW=>?_) (aX fun AW=>?_)
 ·refine WS fun _ Ag=>rP 1 [] mn ?_
  refine RK Ag<|an<|Q1 hQ U U U ?_
  exact cB (bw fun h=>by have q1:=h.pI; have q2:=h.len; omega).symm
 refine WK Ae<|ai fun _ Ah=>WS fun _ Ai=>rP 1 [] mn ?_
 refine RK Ai<|av ?_
 have A:(0≤c.aK.length)∧(∀ (j:Nat) y,j<0→c.aK[j]? =some y→eE c j y):=by exact ⟨Nat.zero_le _,fun j y hj=>absurd hj (Nat.not_lt_zero _)⟩
 refine bI (ι:={z:Nat // (z≤c.aK.length)∧(∀ (j:Nat) y,j<z→c.aK[j]? =some y→eE c j y)}) [1] [0,1] U U (fun z=>[(3,(vI (z.1:Int)))]) (fun z=>[]) (fun _=>rfl) (fun _=>rfl) (fun z=>c.aK.length-z.1) ⟨0,A⟩ (aU U) (aC [0,1]) ?_
 clear A
 rintro ⟨i,⟨a,C⟩⟩ J9 f
 try dsimp only
 have Ao:=E2 a C
 refine ai fun _ g=>WS fun _ l=>rP 5 [] (mc 0 U mn) ?_
 refine RK l<|cw U (aO fun AX=>?_) (aP fun AX=>?_)
 ·refine WK g<|ai fun _ An=>av<|WS fun _ p=>rP 3 [] (mc 0 U mn) ?_
  obtain ⟨x,hx⟩:=aB c.aK i I
  have b:=br bY.cells hx
  refine rS (IA i U (aq 1 U) ml dc I I)<|rS (j0 i 0 (bY.cells x) U bQ (aq 1 U) b U dc U U)<|AL U qU fun Am=>fg U qh U<|RK p<|ai fun _ B=>cU bX 41 kr<|lg 2 [] (mc 0 U mn) U<|dS (CL (gA x.At 0 86400000) (aR) U)<|dP 2 [] mn ?_
  refine gX (t:=37) U (aW fun AY=>?_) (aX fun AY=>?_)
  ·refine jY 36 U<|cv<|RK B<|aJ U<|WS fun _ r=>rP 1 [] mn ?_
   refine RK r<|an<|Q1 hQ U U U ?_
   exact cB (bw fun h=>by have q:=h.sync i x hx; unfold eE at q; (rw [fr I] at q; omega)).symm
  refine dP 3 [] mn ?_
  refine fU (t:=40) U (aP fun AZ=>?_) (aO fun AZ=>?_)
  ·refine dP 19 [] (mc 0 U mn) ?_
   refine gX (t:=59) U (aO fun X=>?_) (aP fun X=>?_)
   ·refine jY 14 U<|cv<|RK B<|aJ U<|WS fun _ AA=>rP 1 [] mn ?_
    refine RK AA<|an<|Q1 hQ U U U ?_
    exact cB (bw fun h=>by have q:=h.sync i x hx; unfold eE at q; (rw [fr I] at q; omega)).symm
   refine dP 9 [] (mc 0 U mn) ?_
   refine gX (t:=68) U (aO fun Y=>?_) (aP fun Y=>?_)
   ·refine jY 5 U<|cv<|RK B<|aJ U<|WS fun _ AB=>rP 1 [] mn ?_
    refine RK AB<|an<|Q1 hQ U U U ?_
    exact cB (bw fun h=>by have q:=h.sync i x hx; unfold eE at q; (rw [fr I] at q; omega)).symm
   refine dP 5 [] (mc 0 U mn) ?_
   refine cv<|RK B<|bH U (aP fun Z=>?_) (aO fun Z=>?_)
   ·refine cy<|aG<|KK An<|ak<|rP 3 [] mn ?_
    refine aA ?_
    have AP:(vI (((i+1):Nat):Int))=(vI ((i:Int)+1)):=by exact cI I
    refine aS (f ⟨(i+1),⟨I,kh C hx (by unfold eE; (rw [fr I]; omega))⟩⟩ _ _ _ U os (cS.cons U<|aV U AP<|cS.nil _) (aC [1,2]))
   refine WS fun _ AC=>rP 1 [] mn ?_
   refine RK AC<|an<|Q1 hQ U U U ?_
   exact cB (bw fun h=>by have q:=h.sync i x hx; unfold eE at q; (rw [fr I] at q; omega)).symm
  refine dP 6 [0,1] (mc 0 U (mc 1 U mn)) ?_
  obtain ⟨y,hy⟩:=aB c.aK (i-1) I
  have d:=br bY.cells hy
  refine dS (IA (i-1) U (aq 2 U) ml dc I I)<|dS (mF ((i-1)*3) U (aq 2 U) (Nat.mul_pos I dc) fq U)<|dS (fE (i-1) 0 (vI y.At) U bQ (aq 2 U) d U dc U)<|dP 4 [] mn ?_
  refine gX (t:=53) U (aO fun Aa=>?_) (aP fun Aa=>?_)
  ·refine jY 20 U<|cv<|RK B<|aJ U<|WS fun _ s=>rP 1 [] mn ?_
   refine RK s<|an<|Q1 hQ U U U ?_
   exact cB (bw fun h=>by have q:=h.sync i x hx; unfold eE at q; (rw [uD I hy] at q; omega)).symm
  refine dP 6 [] (mc 0 U mn) ?_
  refine gX (t:=59) U (aO fun X=>?_) (aP fun X=>?_)
  ·refine jY 14 U<|cv<|RK B<|aJ U<|WS fun _ u=>rP 1 [] mn ?_
   refine RK u<|an<|Q1 hQ U U U ?_
   exact cB (bw fun h=>by have q:=h.sync i x hx; unfold eE at q; (rw [fr I] at q; omega)).symm
  refine dP 9 [] (mc 0 U mn) ?_
  refine gX (t:=68) U (aO fun Y=>?_) (aP fun Y=>?_)
  ·refine jY 5 U<|cv<|RK B<|aJ U<|WS fun _ v=>rP 1 [] mn ?_
   refine RK v<|an<|Q1 hQ U U U ?_
   exact cB (bw fun h=>by have q:=h.sync i x hx; unfold eE at q; (rw [fr I] at q; omega)).symm
  refine dP 5 [] (mc 0 U mn) ?_
  refine cv<|RK B<|bH U (aP fun Z=>?_) (aO fun Z=>?_)
  ·refine cy<|aG<|KK An<|ak<|rP 3 [] mn ?_
   refine aA ?_
   have AO:(vI (((i+1):Nat):Int))=(vI ((i:Int)+1)):=by exact cI I
   refine aS (f ⟨(i+1),⟨I,kh C hx (by unfold eE; (rw [uD I hy]; omega))⟩⟩ _ _ _ U os (cS.cons U<|aV U AO<|cS.nil _) (aC [1,2]))
  refine WS fun _ w=>rP 1 [] mn ?_
  refine RK w<|an<|Q1 hQ U U U ?_
  exact cB (bw fun h=>by have q:=h.sync i x hx; unfold eE at q; (rw [fr I] at q; omega)).symm
 refine bx<|ae<|ae<|ax<|KK Ah<|ai fun _ AD=>WS fun _ AE=>rP 1 [] mn ?_
 refine RK AE<|av ?_
 have A:(0≤c.aK.length)∧(qv c 0):=by exact ⟨Nat.zero_le _,fun j y hj=>absurd hj (Nat.not_lt_zero _)⟩
 refine bI (ι:={z:Nat // (z≤c.aK.length)∧(qv c z)}) [1] [0,1] U U (fun z=>[(5,(vI (z.1:Int)))]) (fun z=>[]) (fun _=>rfl) (fun _=>rfl) (fun z=>c.aK.length-z.1) ⟨0,A⟩ (aU U) (aC [0,1]) ?_
 clear A
 rintro ⟨m,⟨AR,G⟩⟩ J28 e
 try dsimp only
 have F:=uQ (P:=eE c) I C
 refine ai fun _ AF=>WS fun _ AG=>rP 5 [] (mc 0 U mn) ?_
 refine RK AG<|bH U (aP fun Ab=>?_) (aO fun Ab=>?_)
 ·refine bx<|ae<|ae<|ax<|KK AD<|WS fun _ AN=>rP 1 [] mn ?_
  refine RK AN<|an<|Q1 hQ U U U ?_
  exact cB (dw (Fk I I (uQ I C) I G)).symm
 refine WK AF<|ai fun _ AH=>av<|WS fun _ AI=>rP 1 [] mn ?_
 refine RK AI<|av ?_
 have A:(0≤m)∧(∀ y,c.aK[m]? =some y→BL c y 0):=by exact ⟨Nat.zero_le _,fun y _ j o hj=>absurd hj (Nat.not_lt_zero _)⟩
 refine bI (ι:={z:Nat // (z≤m)∧(∀ y,c.aK[m]? =some y→BL c y z)}) [1,5] [0,1] U U (fun z=>[(6,(vI (z.1:Int)))]) (fun z=>[]) (fun _=>rfl) (fun _=>rfl) (fun z=>m-z.1) ⟨0,A⟩ (aU U) (aC [0,1]) ?_
 clear A
 rintro ⟨k,⟨AS,D⟩⟩ J33 T
 try dsimp only
 refine ai fun _ AJ=>WS fun _ AK=>rP 3 [] mn ?_
 refine RK AK<|bH U (aP fun Ac=>?_) (aO fun Ac=>?_)
 ·refine bx<|ae<|ae<|ax<|aG<|KK AH<|ak<|rP 3 [] mn ?_
  refine aA ?_
  have AQ:(vI (((m+1):Nat):Int))=(vI ((m:Int)+1)):=by exact cI I
  refine aS (e ⟨(m+1),⟨I,Ba G D I⟩⟩ _ _ _ U os (cS.cons U<|aV U AQ<|cS.nil _) (aC [0,1]))
 refine WK AJ<|ai fun _ V=>av<|ai fun _ W=>kS bX [0,1,2,3,4,5,6,7,8,9] [10,11,12,13] [false,false,false,false,false,false,false,false,false,false] [] [(cd b2 119 (cT.cells (cT.mk c.cJ (bE.mk sA c.aK.length sC)))),(rd sA c.aK.length 3 (c.aK.map bY.cells)).ro] [] kr (aC [0,1]) (aC [])<|eS U (FA 1 U fq U)<|eS U (L1 (vS sA c.aK.length sC) 0 U bQ U U)<|eS U (MV U) ?_
 obtain ⟨x,hx⟩:=aB c.aK k I
 have b:=br bY.cells hx
 refine eS U (IA k U (aq 1 U) ml dc I I)<|eS U (j0 k 0 (bY.cells x) U bQ (aq 1 U) b U dc U U)<|eS U (FA 1 U fq U)<|eS U (L1 (vS sA c.aK.length sC) 0 U bQ U U)<|eS U (MV U) ?_
 obtain ⟨y,hy⟩:=aB c.aK m I
 have d:=br bY.cells hy
 refine eS U (IA m U (aq 1 U) ml dc I I)<|eS U (j0 m 0 (bY.cells y) U bQ (aq 1 U) d U dc U U)<|dW U<|mD [10,11] kr (g_ ?_<|g_ ?_<|pP)
 rotate_left 1
 ·refine NO U U [10,12,13] fun T38 M=>AL U qU fun AT=>RD M 1 U<|N1 10<|NO U U [12,13] fun T40 N=>AL U qU fun AU=>RD N 2 U<|N1 12<|NO U U [13] fun T42 O=>fg U qh U<|RD O 2 U<|N1 13<|NO U U [] fun T43 R=>qf U qh U<|RD R 2 U<|mm<|KK W<|WS fun _ J=>rP 6 [0,1,2] (mc 2 U (mc 1 U (mc 0 U mn))) ?_
  obtain ⟨Aj,Ak,Al⟩:=rF (fun j z _ hz=>F j z hz) hy (F _ _ hy) (show k<m by omega) hx
  refine bp 1 U<|rS (CL (uW c.cJ (y.At-x.At) I I) (aR) U)<|bp 1 U<|RK J<|WS fun _ E=>rP 10 [0,1] (mc 0 U (mc 1 U mn)) ?_
  refine cr (t:=113) U (aO fun H=>?_) (aP fun H=>?_)
  ·refine bp 10 U<|RK E<|aJ U<|WS fun _ K=>rP 1 [] mn ?_
   refine RK K<|an<|Q1 hQ U U U ?_
   exact cB (bw fun h=>by have q:=h.pair m k y x hy I hx; unfold mK at q; omega).symm
  refine rP 10 [0,1] (mc 1 U (mc 0 U mn)) ?_
  refine RK E<|bH U (aP fun Ap=>?_) (aO fun Ap=>?_)
  ·refine cy<|aG<|KK V<|ak<|rP 3 [] mn ?_
   refine aA ?_
   have S:(vI (((k+1):Nat):Int))=(vI ((k:Int)+1)):=by exact cI I
   refine aS (T ⟨(k+1),⟨I,fun z hz=>by rw [hy] at hz; cases hz; exact kh (D _ hy) hx (by unfold mK; omega)⟩⟩ _ _ _ rfl os (cS.cons rfl<|cS.cons rfl<|aV rfl S<|cS.nil _) (aC [2,3]))
  refine WS fun _ L=>rP 1 [] mn ?_
  refine RK L<|an<|Q1 hQ U U U ?_
  exact cB (bw fun h=>by have q:=h.pair m k y x hy I hx; unfold mK at q; omega).symm
 refine NO U U [11,12,13] fun T38 M=>AL U qU fun AT=>RD M 1 U<|N1 11<|NO U U [12,13] fun T40 N=>AL U qU fun AU=>RD N 2 U<|N1 12<|NO U U [13] fun T42 O=>qf U qh U<|RD O 2 U<|N1 13<|NO U U [] fun T43 R=>fg U qh U<|RD R 2 U<|mm<|KK W<|WS fun _ J=>rP 6 [0,1,2] (mc 2 U (mc 0 U (mc 1 U mn))) ?_
 obtain ⟨Aj,Ak,Al⟩:=rF (fun j z _ hz=>F j z hz) hy (F _ _ hy) (show k<m by omega) hx
 refine bp 1 U<|rS (CL (uW c.cJ (y.At-x.At) I I) (aR) U)<|bp 1 U<|RK J<|WS fun _ E=>rP 10 [0,1] (mc 1 U (mc 0 U mn)) ?_
 refine cr (t:=113) U (aO fun H=>?_) (aP fun H=>?_)
 ·refine bp 10 U<|RK E<|aJ U<|WS fun _ K=>rP 1 [] mn ?_
  refine RK K<|an<|Q1 hQ U U U ?_
  exact cB (bw fun h=>by have q:=h.pair m k y x hy I hx; unfold mK at q; omega).symm
 refine rP 10 [0,1] (mc 0 U (mc 1 U mn)) ?_
 refine RK E<|bH U (aP fun Ap=>?_) (aO fun Ap=>?_)
 ·refine cy<|aG<|KK V<|ak<|rP 3 [] mn ?_
  refine aA ?_
  have S:(vI (((k+1):Nat):Int))=(vI ((k:Int)+1)):=by exact cI I
  refine aS (T ⟨(k+1),⟨I,fun z hz=>by rw [hy] at hz; cases hz; exact kh (D _ hy) hx (by unfold mK; omega)⟩⟩ _ _ _ rfl os (cS.cons rfl<|cS.cons rfl<|aV rfl S<|cS.nil _) (aC [2,3]))
 refine WS fun _ L=>rP 1 [] mn ?_
 refine RK L<|an<|Q1 hQ U U U ?_
 exact cB (bw fun h=>by have q:=h.pair m k y x hy I hx; unfold mK at q; omega).symm
theorem x9 (c:al) (sA:OA) (sC:Nat) (at_:Int) (hc:ed c) (ha:0≤at_∧at_≤90000000):
 dL Tryz.prog 178 [(vA (cT.cells (cT.mk c.cJ (bE.mk sA c.aK.length sC)))),(vI at_)] [(rd sA c.aK.length 3 (c.aK.map bY.cells))] (vA (aa.cells (gp c at_))):=by
 have e:=hc.len
 have W:=hc.pI
 refine bu kr Tryz.func178 U U fun k Q hQ hN=>?_
 try dsimp only
 refine WS fun _ R=>eQ U fun g=>AL U cR fun j=>RK R<|WS fun _ S=>AL U cR fun d=>RK S<|ai fun _ T=>WS fun _ AA=>rP 1 [] mn ?_
 refine RK AA<|av ?_
 have A:(0≤c.aK.length):=by exact Nat.zero_le _
 refine bI (ι:={z:Nat // (z≤c.aK.length)}) [1,2,4,5] [1,2,3] U U (fun z=>[(6,(vI (z.1:Int)))]) (fun z=>[(cd d 47 (aa.cells (jz c at_ z.1)))]) (fun _=>rfl) (fun _=>rfl) (fun z=>c.aK.length-z.1) ⟨0,A⟩ (aU U) (aC [1,2,3,0]) ?_
 clear A
 rintro ⟨i,X⟩ J8 D
 try dsimp only
 refine ai fun _ V=>WS fun _ E=>rP 5 [] (mc 1 U mn) ?_
 refine RK E<|bH U (aP fun O=>?_) (aO fun O=>?_)
 ·refine bx<|ae<|ae<|ax<|KK T<|WS fun _ J=>rP 1 [] (mc 3 U mn) ?_
  refine fg U bS U<|RK J<|an<|Ir hQ [0] (mc 0 U mn) U ?_
  rw [AM hc (show c.aK.length≤i by omega)]
 refine WK V<|ai fun _ B=>av<|WS fun _ F=>rP 3 [] (mc 1 U mn) ?_
 obtain ⟨x,hx⟩:=aB c.aK i I
 have Z:=br bY.cells hx
 refine rS (IA i U (aq 2 U) ml dc I I)<|rS (j0 i 0 (bY.cells x) U bQ (aq 2 U) Z U dc U U)<|AL U qU fun a=>fg U qh U<|RK F<|WS fun _ G=>rP 2 [] (mc 2 U mn) ?_
 have Y:=hc.rH hx
 have f:0≤nv (c.cJ*max (at_-x.At) (x.At-at_)) 1000000∧nv (c.cJ*max (at_-x.At) (x.At-at_)) 1000000≤90001:=rR W ha Y.1
 refine eZ 8 [] (mc 0 U mn) U<|rS (MX U)<|rS (CL (uW c.cJ (max (at_-x.At) (x.At-at_)) I I) (aR) U)<|bp 1 U<|RK G<|WS fun _ H=>eZ 10 [] (mc 0 U mn) U<|rS (SX (bg (xs:=[(0,.tmp 38),(1,.tmp 43)]) (cs:=(aa.cells (aa.mk (x.dg.Lo-(nv (c.cJ*(max (at_-x.At) (x.At-at_))) 1000000)) (x.dg.Hi+(nv (c.cJ*(max (at_-x.At) (x.At-at_))) 1000000))))) U U (bh eM U)) U U)<|AL U cR fun b=>fg U bS U<|RK H<|ai fun _ C=>WS fun _ AB=>rP 2 [] mn ?_
 refine RK AB<|bH U (aP fun P=>?_) (aO fun P=>?_)
 ·refine WK C<|ak<|eZ 4 [0,1] (mc 5 U (mc 0 U mn)) U<|rS (MX U)<|rP 4 [0,1] (mc 5 U (mc 0 U mn)) ?_
  refine rS (MN U)<|rS (SX (bg (xs:=[(0,.tmp 52),(1,.tmp 57)]) (cs:=(aa.cells (aa.mk (max ((jz c at_ i).Lo) (x.dg.Lo-(nv (c.cJ*(max (at_-x.At) (x.At-at_))) 1000000))) (min ((jz c at_ i).Hi) (x.dg.Hi+(nv (c.cJ*(max (at_-x.At) (x.At-at_))) 1000000)))))) U U (bh eM U)) U U)<|Ec U bS U<|aA<|aG<|KK B ?_
  have M:(aa.cells (aa.mk (max ((jz c at_ i).Lo) (x.dg.Lo-(nv (c.cJ*(max (at_-x.At) (x.At-at_))) 1000000))) (min ((jz c at_ i).Hi) (x.dg.Hi+(nv (c.cJ*(max (at_-x.At) (x.At-at_))) 1000000)))))=(aa.cells (jz c at_ (i+1))):=by exact congrArg aa.cells (yw hx I).symm
  rw [M]
  refine ak<|rP 3 [] mn ?_
  refine aA ?_
  have N:(vI (((i+1):Nat):Int))=(vI ((i:Int)+1)):=by exact cI I
  refine aS (D ⟨(i+1),(by first|omega|(simp only []; omega))⟩ _ _ _ U os (cE 4<|aV U N<|cS.nil _) (aC [2,3,4,5]))
 refine ak<|eZ 1 [] (mc 0 U mn) U<|Ec U bS U<|RK C<|ak<|eZ 4 [0,1] (mc 5 U (mc 0 U mn)) U<|rS (MX U)<|rP 4 [0,1] (mc 5 U (mc 0 U mn)) ?_
 refine rS (MN U)<|rS (SX (bg (xs:=[(0,.tmp 52),(1,.tmp 57)]) (cs:=(aa.cells (aa.mk (max (x.dg.Lo-(nv (c.cJ*(max (at_-x.At) (x.At-at_))) 1000000)) (x.dg.Lo-(nv (c.cJ*(max (at_-x.At) (x.At-at_))) 1000000))) (min (x.dg.Hi+(nv (c.cJ*(max (at_-x.At) (x.At-at_))) 1000000)) (x.dg.Hi+(nv (c.cJ*(max (at_-x.At) (x.At-at_))) 1000000)))))) U U (bh eM U)) U U)<|Ec U bS U<|aA<|aG<|KK B ?_
 have K:(aa.cells (aa.mk (max (x.dg.Lo-(nv (c.cJ*(max (at_-x.At) (x.At-at_))) 1000000)) (x.dg.Lo-(nv (c.cJ*(max (at_-x.At) (x.At-at_))) 1000000))) (min (x.dg.Hi+(nv (c.cJ*(max (at_-x.At) (x.At-at_))) 1000000)) (x.dg.Hi+(nv (c.cJ*(max (at_-x.At) (x.At-at_))) 1000000)))))=(aa.cells (jz c at_ (i+1))):=by exact congrArg aa.cells (wV hc ha hx I).symm
 rw [K]
 refine ak<|rP 3 [] mn ?_
 refine aA ?_
 have L:(vI (((i+1):Nat):Int))=(vI ((i:Int)+1)):=by exact cI I
 refine aS (D ⟨(i+1),(by first|omega|(simp only []; omega))⟩ _ _ _ U os (cE 4<|aV U L<|cS.nil _) (aC [2,3,4,5]))
theorem Gi (l:aQ) (kA:OA) (kC:Nat) (az:List RA) (cA:OA) (cC:Nat) (bA:OA) (bC:Nat) (n:Int) (hin:dF l az) (htr:cK l.aH=true) (hbk: ∀ b∈l.ab,iK l b) (hn:0≤n∧n<(l.ab.length:Int)):
 dL Tryz.prog 122 [(vA (cb.cells (jI l kA kC cA cC bA bC))),(vI n)] [(rd kA l.aH.length 9 (l.aH.map aj.cells)),(rd cA l.ah.length 2 (List.zipWith al.cells l.ah az)),(eg (aZ al.fB l.ah az)),(rd bA l.ab.length 4 (l.ab.map bL.cells))] (vI (kZ l n.toNat)):=by
 have AA:=hin.pO
 have S:=hin.pJ
 have P:=hin.mE
 have R:=hin.pQ
 have T:=hin.side
 refine bu kr Tryz.func122 U U fun X Q hQ hN=>?_
 try dsimp only
 refine WS fun _ G=>eQ U fun V=>bp 1 U<|RK G<|ai fun _ H=>WS fun _ AB=>rP 2 [] mn ?_
 refine RK AB<|cw U (aO fun F=>?_) (aP fun F=>?_)
 ·refine ai fun _ J=>dj bX [11,12] [] [] [0,1,2,3,4] [] U U U U U<|eS U (FA 0 U fq U)<|eS U (LP (bB.cells (bB.mk (bE.mk kA l.aH.length kC))) 0 U bQ U U U)<|eS U (FA 3 U fq U)<|eS U (L1 (vS bA l.ab.length bC) 0 U bQ U U) ?_
  obtain ⟨y,hy⟩:=aB l.ab 0 I
  have A:=br bL.cells hy
  refine eS U (IA 0 U (aq 4 U) rO dc U I)<|eS U (mF (0*4) U (aq 4 U) (Nat.mul_pos I dc) fq U)<|eS U (j0 0 0 (ct.cells y.jx) U bQ (aq 4 U) A U dc U U)<|eS U (CL (Nr l.aH kA kC y.jx asm asm) (bf [1]) U)<|eS U (MV U)<|eS U (EX U)<|eS U (EX U)<|eS U (AG U)<|dW U<|bV U fun T6 L=>AL U cR fun W=>aA (L _ _ (aC [1,2,3,4,5]) ?_)
  refine bV U fun T8 M=>fg U bS U<|aA (M _ _ (aC [1,2,3,4,5]) ?_)
  refine eU U<|KK J<|WS fun _ K=>rP 3 [] (mc 0 U mn) ?_
  refine RK K<|an<|Q1 hQ U U U ?_
  (refine congrArg (Value.int .i64) ?_; rw [show n.toNat=0 by omega]; rw [wx hy,(ua htr (hbk _ (List.mem_of_getElem? hy)).1).2])
 refine WK H<|ai fun _ B=>dj bX [19,20] [] [] [0,1,2,3,4] [] U U U U U<|eS U (FA 0 U fq U)<|eS U (LP (bB.cells (bB.mk (bE.mk kA l.aH.length kC))) 0 U bQ U U U)<|eS U (FA 3 U fq U)<|eS U (L1 (vS bA l.ab.length bC) 0 U bQ U U)<|eS U (MV U)<|eS U (BI U (pG ⟨I,I⟩)) ?_
 obtain ⟨y,hy⟩:=aB l.ab (((n-1)).toNat) I
 have A:=br bL.cells hy
 refine eS U (IA (((n-1)).toNat) U (aq 4 U) rO dc I I)<|eS U (mF ((((n-1)).toNat)*4) U (aq 4 U) (Nat.mul_pos I dc) fq U)<|eS U (j0 (((n-1)).toNat) 0 (ct.cells y.jx) U bQ (aq 4 U) A U dc U U)<|eS U (FA 3 U fq U)<|eS U (L1 (vS bA l.ab.length bC) 0 U bQ U U)<|eS U (MV U) ?_
 obtain ⟨x,hx⟩:=aB l.ab ((n).toNat) I
 have N:=br bL.cells hx
 refine eS U (IA ((n).toNat) U (aq 4 U) rO dc I I)<|eS U (mF (((n).toNat)*4) U (aq 4 U) (Nat.mul_pos I dc) fq U)<|eS U (j0 ((n).toNat) 0 (ct.cells x.jx) U bQ (aq 4 U) N U dc U U)<|eS U (CL (Em l.aH kA kC y.jx x.jx asm asm) (bf [1]) U)<|eS U (MV U)<|eS U (EX U)<|eS U (EX U)<|eS U (AG U)<|dW U<|bV U fun T11 D=>AL U cR fun O=>aA (D _ _ (aC [1,2,3,4,5]) ?_)
 refine bV U fun T13 E=>fg U bS U<|aA (E _ _ (aC [1,2,3,4,5]) ?_)
 refine eU U<|KK B<|WS fun _ C=>rP 3 [] (mc 0 U mn) ?_
 refine RK C<|an<|Q1 hQ U U U ?_
 (refine congrArg (Value.int .i64) ?_; rw [zm I hx (by rw [show n.toNat-1=(n-1).toNat by omega]; exact hy),(jP htr ⟨(hbk _ (List.mem_of_getElem? hy)).1,(hbk _ (List.mem_of_getElem? hx)).1⟩).2])
theorem GA (l:aQ) (kA:OA) (kC:Nat) (az:List RA) (cA:OA) (cC:Nat) (bA:OA) (bC:Nat) (n:Int) (hin:dF l az) (htr:cK l.aH=true) (hok:ke l) (hn:0≤n∧n<(l.ab.length:Int)):
 dL Tryz.prog 175 [(vA (cb.cells (jI l kA kC cA cC bA bC))),(vI n)] [(rd kA l.aH.length 9 (l.aH.map aj.cells)),(rd cA l.ah.length 2 (List.zipWith al.cells l.ah az)),(eg (aZ al.fB l.ah az)),(rd bA l.ab.length 4 (l.ab.map bL.cells))] (vI (dp l n.toNat)):=by
 have G:=hin.pO
 have F:=hin.pJ
 have D:=hin.mE
 have E:=hin.pQ
 have C:=hok.head
 unfold fu at C
 have H:=Bt htr hok.sQ n.toNat
 have AA:=hok.Ln n.toNat I
 refine bu kr Tryz.func175 U U fun K Q hQ hN=>?_
 try dsimp only
 refine WS fun _ A=>eQ U fun J=>bp 1 U<|RK A<|ai fun _ B=>cU bX 12 kr<|lg 2 [] (mc 0 U mn) U<|dS (CL (Gi l kA kC az cA cC bA bC n hin htr (by exact hok.sQ) hn) (bf [1,2,3,4]) U)<|dS (BI U (Cb ⟨I,I⟩))<|lg 6 [] (mc 0 U mn) U<|dS (BI U (oS I I I))<|dP 1 [] mn ?_
 refine cv<|RK B<|an<|Q1 hQ U U U ?_
 exact cI (by unfold dp nv; rw [Int.mul_comm])
theorem Ie (l:aQ) (kA:OA) (kC:Nat) (az:List RA) (cA:OA) (cC:Nat) (bA:OA) (bC:Nat) (hin:dF l az) (htr:cK l.aH=true):
 dL Tryz.prog 90 [(vA (cb.cells (jI l kA kC cA cC bA bC)))] [(rd kA l.aH.length 9 (l.aH.map aj.cells)),(rd cA l.ah.length 2 (List.zipWith al.cells l.ah az)),(eg (aZ al.fB l.ah az)),(rd bA l.ab.length 4 (l.ab.map bL.cells))] (vB (decide (ke l))):=by
 have Ae:=hin.pO
 have Aa:=hin.pJ
 have AX:=hin.mE
 have AZ:=hin.pQ
 have Ab:=hin.side
 have Ac:=iN htr
 have AW:=jw htr
 refine bu kr Tryz.func90 U U fun w0 Q hQ hN=>?_
 try dsimp only
 refine WS fun _ AM=>eQ U fun b2=>bp 1 U<|RK AM<|ai fun _ AN=>WS fun _ D=>eZ 2 [] (mc 0 U mn) U<|rS (CL (gA l.gY 1 5000) (aR) U)<|rP 2 [] mn ?_
 refine cr (t:=10) U (aW fun AC=>?_) (aX fun AC=>?_)
 ·refine bp 35 U<|RK D<|aJ U<|WS fun _ AO=>rP 1 [] mn ?_
  refine RK AO<|an<|Q1 hQ U U U ?_
  exact cB (bw fun h=>by have q:=h.head; unfold fu at q; omega).symm
 refine eZ 3 [] (mc 0 U mn) U<|rS (CL (gA (l.ah.length:Int) 1 4) (aR) U)<|rP 3 [] mn ?_
 refine cr (t:=17) U (aW fun AD=>?_) (aX fun AD=>?_)
 ·refine bp 28 U<|RK D<|aJ U<|WS fun _ AP=>rP 1 [] mn ?_
  refine RK AP<|an<|Q1 hQ U U U ?_
  exact cB (bw fun h=>by have q:=h.head; unfold fu at q; omega).symm
 refine eZ 3 [] (mc 0 U mn) U<|rS (CL (gA (l.ab.length:Int) 1 6) (aR) U)<|rP 3 [] mn ?_
 refine cr (t:=24) U (aW fun AE=>?_) (aX fun AE=>?_)
 ·refine bp 21 U<|RK D<|aJ U<|WS fun _ AQ=>rP 1 [] mn ?_
  refine RK AQ<|an<|Q1 hQ U U U ?_
  exact cB (bw fun h=>by have q:=h.head; unfold fu at q; omega).symm
 refine eZ 6 [] (mc 0 U mn) U<|rS (CL (gA l.cQ 0 ((l.ab.length:Int)-1)) (aR) U)<|rP 3 [] mn ?_
 refine cr (t:=34) U (aW fun AF=>?_) (aX fun AF=>?_)
 ·refine bp 11 U<|RK D<|aJ U<|WS fun _ AR=>rP 1 [] mn ?_
  refine RK AR<|an<|Q1 hQ U U U ?_
  exact cB (bw fun h=>by have q:=h.head; unfold fu at q; omega).symm
 refine eZ 2 [] (mc 0 U mn) U<|rS (CL (gA l.eO 0 3) (aR) U)<|rP 3 [] mn ?_
 refine cr (t:=40) U (aW fun AG=>?_) (aX fun AG=>?_)
 ·refine bp 5 U<|RK D<|aJ U<|WS fun _ AS=>rP 1 [] mn ?_
  refine RK AS<|an<|Q1 hQ U U U ?_
  exact cB (bw fun h=>by have q:=h.head; unfold fu at q; omega).symm
 refine eZ 2 [] (mc 0 U mn) U<|rS (CL (gA l.cW 0 3) (aR) U)<|rP 2 [] mn ?_
 refine RK D<|cw U (aW fun AH=>?_) (aX fun AH=>?_)
 ·refine WS fun _ N=>rP 1 [] mn ?_
  refine RK N<|an<|Q1 hQ U U U ?_
  exact cB (bw fun h=>by have q:=h.head; unfold fu at q; omega).symm
 refine WK AN<|ai fun _ O=>WS fun _ R=>rP 1 [] mn ?_
 refine RK R<|av ?_
 have A:(0≤l.ah.length)∧(∀ (j:Nat) y,j<0→l.ah[j]? =some y→ed y):=by exact ⟨Nat.zero_le _,fun j y hj=>absurd hj (Nat.not_lt_zero _)⟩
 refine bI (ι:={z:Nat // (z≤l.ah.length)∧(∀ (j:Nat) y,j<z→l.ah[j]? =some y→ed y)}) [1] [0,1,2,3,4] U U (fun z=>[(3,(vI (z.1:Int)))]) (fun z=>[]) (fun _=>rfl) (fun _=>rfl) (fun z=>l.ah.length-z.1) ⟨0,A⟩ (aU U) (aC [0,1,2,3,4]) ?_
 clear A
 rintro ⟨i,⟨AT,F⟩⟩ J13 K
 try dsimp only
 refine ai fun _ S=>WS fun _ T=>rP 5 [] (mc 0 U mn) ?_
 refine RK T<|cw U (aO fun AI=>?_) (aP fun AI=>?_)
 ·refine WK S<|ai fun _ Af=>av<|WS fun _ V=>rP 3 [] (mc 0 U mn) ?_
  obtain ⟨x,hx⟩:=aB l.ah i I
  obtain ⟨xa,J⟩:=aB az i I
  have AV:(List.zipWith al.cells l.ah az)[i]? =some (al.cells x xa):=db hx J
  refine rS (IA i U (aq 2 U) vw dc I I)<|rS (j0 i 0 (cT.cells (cT.mk x.cJ (bE.mk xa.1 x.aK.length xa.2))) U bQ (aq 2 U) AV U dc U U) ?_
  have Ad:=(hin.NB _ _ _ hx J).2
  refine rS (CL (Fs x xa.1 xa.2 asm) (aL (show fR _ (rd xa.1 x.aK.length 3 (x.aK.map bY.cells)).holds from (bT 3 U (bk hx J (by simp [al.fB]))))<|aR) U)<|rP 1 [] mn ?_
  refine RK V<|bH U (aX fun Ag=>?_) (aW fun Ag=>?_)
  ·refine cy<|aG<|KK Af<|ak<|rP 3 [] mn ?_
   refine aA ?_
   have u:(vI (((i+1):Nat):Int))=(vI ((i:Int)+1)):=by exact cI I
   refine aS (K ⟨(i+1),⟨I,kh (P:=fun _ y=>ed y) F hx Ag⟩⟩ _ _ _ U os (cS.cons U<|aV U u<|cS.nil _) (aC [0,1,2,3,4]))
  refine WS fun _ W=>rP 1 [] mn ?_
  refine RK W<|an<|Q1 hQ U U U ?_
  exact cB (bw fun h=>Ag (h.clock _ (aI hx))).symm
 refine bx<|ae<|ae<|ax<|KK O<|ai fun _ X=>WS fun _ Y=>rP 1 [] mn ?_
 refine RK Y<|av ?_
 have A:(0≤l.ab.length)∧(∀ (j:Nat) y,j<0→l.ab[j]? =some y→iK l y):=by exact ⟨Nat.zero_le _,fun j y hj=>absurd hj (Nat.not_lt_zero _)⟩
 refine bI (ι:={z:Nat // (z≤l.ab.length)∧(∀ (j:Nat) y,j<z→l.ab[j]? =some y→iK l y)}) [1] [0,1,2,3,4] U U (fun z=>[(4,(vI (z.1:Int)))]) (fun z=>[]) (fun _=>rfl) (fun _=>rfl) (fun z=>l.ab.length-z.1) ⟨0,A⟩ (aU U) (aC [0,1,2,3,4]) ?_
 clear A
 rintro ⟨m,⟨AU,B⟩⟩ J22 L
 try dsimp only
 refine ai fun _ Z=>WS fun _ a=>rP 5 [] (mc 0 U mn) ?_
 refine RK a<|bH U (aP fun AJ=>?_) (aO fun AJ=>?_)
 ·refine bx<|ae<|ae<|ax<|KK X<|ai fun _ e=>WS fun _ f=>rP 1 [] mn ?_
  refine RK f<|av ?_
  have A:(0≤l.ab.length)∧(∀ j,j<0→1≤kZ l j):=by exact ⟨Nat.zero_le _,fun j hj=>absurd hj (Nat.not_lt_zero _)⟩
  refine bI (ι:={z:Nat // (z≤l.ab.length)∧(∀ j,j<z→1≤kZ l j)}) [1] [0,1,2,3,4] U U (fun z=>[(5,(vI (z.1:Int)))]) (fun z=>[]) (fun _=>rfl) (fun _=>rfl) (fun z=>l.ab.length-z.1) ⟨0,A⟩ (aU U) (aC [0,1,2,3,4]) ?_
  clear A
  rintro ⟨n,⟨AB,C⟩⟩ J32 M
  try dsimp only
  have AY:=tP (P:=iK l) I B
  refine ai fun _ g=>WS fun _ k=>rP 5 [] (mc 0 U mn) ?_
  refine RK k<|bH U (aP fun AL=>?_) (aO fun AL=>?_)
  ·refine bx<|ae<|ae<|ax<|KK e<|WS fun _ s=>rP 1 [] mn ?_
   refine RK s<|an<|Q1 hQ U U U ?_
   exact cB (dw (v9 (by unfold fu; omega) (tP I F) (tP I B) (fun j hj=>C j I))).symm
  refine WK g<|ai fun _ o=>av<|WS fun _ p=>eZ 2 [] (mc 0 U mn) U<|rS (CL (Gi l kA kC az cA cC bA bC (n:Int) hin htr asm I) (bf [1,2,3,4]) U)<|rP 1 [] mn ?_
  refine RK p<|bH U (aP fun E=>?_) (aO fun E=>?_)
  ·refine cy<|aG<|KK o<|ak<|rP 3 [] mn ?_
   refine aA ?_
   have w:(vI (((n+1):Nat):Int))=(vI ((n:Int)+1)):=by exact cI I
   refine aS (M ⟨(n+1),⟨I,fun j hj=>by rcases Nat.lt_or_ge j n with q|q; exact C j q; (obtain rfl:j=n:=by omega); simp only [Int.toNat_natCast] at E; omega⟩⟩ _ _ _ rfl os (cS.cons rfl<|aV rfl w<|cS.nil _) (aC [0,1,2,3,4]))
  refine WS fun _ r=>rP 1 [] mn ?_
  refine RK r<|an<|Q1 hQ U U U ?_
  exact cB (bw fun h=>by have q:=h.Ln n I; simp only [Int.toNat_natCast] at E; omega).symm
 refine WK Z<|ai fun _ b=>av<|ai fun _ H=>cU bX 24 kr<|jY 1 U<|dS (LP (bB.cells (bB.mk (bE.mk kA l.aH.length kC))) 0 U bQ U U U)<|dP 3 [] (mc 0 U mn) ?_
 obtain ⟨y,hy⟩:=aB l.ab m I
 have AA:=br bL.cells hy
 refine dS (IA m U (aq 4 U) rO dc I I)<|dS (mF (m*4) U (aq 4 U) (Nat.mul_pos I dc) fq U)<|dS (j0 m 0 (ct.cells y.jx) U bQ (aq 4 U) AA U dc U U)<|dS (CL (pg l.aH kA kC y.jx asm asm) (bf [1]) U)<|dP 2 [] mn ?_
 refine gX (t:=77) U (aW fun G=>?_) (aX fun G=>?_)
 ·refine jY 13 U<|cv<|RK H<|aJ U<|WS fun _ c=>rP 1 [] mn ?_
  refine RK c<|an<|Q1 hQ U U U ?_
  exact cB (bw fun h=>by have q:=h.sQ _ (aI hy); have q2:=q.2; first|exact G q.1|omega).symm
 refine lg 3 [] (mc 0 U mn) U<|dS (IA m U (aq 4 U) rO dc I I)<|dS (mF ((m*4)+3) U (aq 4 U) (Nat.mul_pos I dc) fq U)<|dS (fE m 3 (vI y.ig) U bQ (aq 4 U) AA U dc U)<|lg 4 [] (mc 0 U mn) U<|dS (CL (gA y.ig 0 ((l.ah.length:Int)-1)) (aR) U)<|dP 2 [] mn ?_
 refine cv<|RK H<|bH U (aX fun AK=>?_) (aW fun AK=>?_)
 ·refine cy<|aG<|KK b<|ak<|rP 3 [] mn ?_
  refine aA ?_
  have v:(vI (((m+1):Nat):Int))=(vI ((m:Int)+1)):=by exact cI I
  refine aS (L ⟨(m+1),⟨I,kh (P:=fun _ y=>iK l y) B hy ⟨G,I,I⟩⟩⟩ _ _ _ U os (cS.cons U<|aV U v<|cS.nil _) (aC [0,1,2,3,4]))
 refine WS fun _ d=>rP 1 [] mn ?_
 refine RK d<|an<|Q1 hQ U U U ?_
 exact cB (bw fun h=>by have q:=h.sQ _ (aI hy); have q2:=q.2; first|exact G q.1|omega).symm
end
section
open Go.RowKit
theorem zB (r:cV) (kA:OA) (kC:Nat) (az:List RA) (cA:OA) (cC:Nat) (bA:OA) (bC:Nat) (slA:OA) (slC:Nat) (drA:OA) (drC:Nat) (ha:List dv) (heA:OA) (heC:Nat) (hraw:qA r az ha):
 dL Tryz.prog 6 [(vA (eC.cells (pB r kA kC cA cC bA bC slA slC drA drC heA heC)))] [(rd kA r.aF.aH.length 9 (r.aF.aH.map aj.cells)),(rd cA r.aF.ah.length 2 (List.zipWith al.cells r.aF.ah az)),(eg (aZ al.fB r.aF.ah az)),(rd bA r.aF.ab.length 4 (r.aF.ab.map bL.cells)),(rd slA r.aT.length 1 (r.aT.map iC)),(rd drA r.bo.length 1 (r.bo.map iC)),(rd heA r.ay.length 1 (List.zipWith c_ r.ay ha)),(eg (aZ gP r.ay ha))] (vB (decide (kH r))):=by
 have AC:=hraw.line
 have AG:=hraw.iG
 have AI:=hraw.has
 have AF:=hraw.iE
 have AD:=hraw.draw
 refine bu kr Tryz.func6 U U fun w0 Q hQ hN=>?_
 try dsimp only
 refine WS fun _ m=>eQ U fun b2=>bp 1 U<|RK m<|ai fun _ o=>WS fun _ H=>bp 1 U<|rS (LP (cb.cells (jI r.aF kA kC cA cC bA bC)) 0 U bQ U U U)<|rS (CL (El r.aF kA kC az cA cC bA bC asm) (bf [1,2,3,4]) U)<|rP 1 [] mn ?_
 refine cr (t:=8) U (aO fun l=>?_) (aP fun l=>?_)
 ·refine bp 17 U<|RK H<|aJ U<|WS fun _ p=>rP 1 [] mn ?_
  refine RK p<|an<|Q1 hQ U U U ?_
  exact cB (dw (nP (.inl l))).symm
 refine rP 6 [] (mc 0 U mn) ?_
 refine cr (t:=14) U (aO fun AL=>?_) (aP fun AL=>?_)
 ·refine bp 11 U<|RK H<|aJ U<|WS fun _ q=>rP 1 [] mn ?_
  refine RK q<|an<|Q1 hQ U U U ?_
  exact cB (dw (nP (.inr I))).symm
 refine rP 6 [] (mc 0 U mn) ?_
 refine cr (t:=20) U (aO fun f=>?_) (aP fun f=>?_)
 ·refine bp 5 U<|RK H<|aJ U<|WS fun _ s=>rP 1 [] mn ?_
  refine RK s<|an<|Q1 hQ U U U ?_
  exact cB (dw (nP (.inr I))).symm
 refine rP 5 [] (mc 0 U mn) ?_
 refine RK H<|cw U (aO fun k=>?_) (aP fun k=>?_)
 ·refine WS fun _ u=>rP 1 [] mn ?_
  refine RK u<|an<|Q1 hQ U U U ?_
  exact cB (dw (nP (.inr I))).symm
 refine WK o<|ai fun _ v=>WS fun _ N=>rP 1 [] mn ?_
 refine RK N<|av ?_
 have B:(0≤r.ay.length)∧(kg r 0):=by exact ⟨Nat.zero_le _,zb⟩
 refine bI (ι:={z:Nat // (z≤r.ay.length)∧(kg r z)}) [1] [0,1,2,3,4,5,6,7,8] U U (fun z=>[(3,(vI (z.1:Int)))]) (fun z=>[]) (fun _=>rfl) (fun _=>rfl) (fun z=>r.ay.length-z.1) ⟨0,B⟩ (aU U) (aC [0,1,2,3,4,5,6,7,8]) ?_
 clear B
 rintro ⟨i,⟨AA,F⟩⟩ J11 L
 try dsimp only
 refine ai fun _ O=>WS fun _ P=>rP 5 [] (mc 0 U mn) ?_
 refine RK P<|bH U (aP fun AL=>?_) (aO fun AL=>?_)
 ·refine bx<|ae<|ae<|ax<|KK v<|WS fun _ b=>rP 1 [] mn ?_
  refine RK b<|an<|Q1 hQ U U U ?_
  exact cB (bw (CB l I F I)).symm
 refine WK O<|ai fun _ R=>av<|ai fun _ S=>WS fun _ T=>rP 3 [] (mc 0 U mn) ?_
 obtain ⟨ht,D⟩:=aB r.ay i I
 obtain ⟨A,C⟩:=aB ha i I
 have E:(List.zipWith c_ r.ay ha)[i]? =some (c_ ht A):=db D C
 refine rS (IA i U (aq 7 U) mL dc I I)<|rS (fE i 0 (vS A.1.1 ht.length A.1.2) U bQ (aq 7 U) E U dc U) ?_
 obtain ⟨AH,AE,y⟩:=hraw.mH _ _ _ D C
 refine rP 2 [] mn ?_
 refine RK T<|cw U (aO fun J=>?_) (aP fun J=>?_)
 ·refine WS fun _ AK=>rP 1 [] mn ?_
  refine RK AK<|an<|Q1 hQ U U U ?_
  exact cB (dw (yM D J)).symm
 refine WK S<|WS fun _ V=>rP 1 [] mn ?_
 refine RK V<|av ?_
 have B:(0≤ht.length)∧(k7 ht 0):=by exact ⟨Nat.zero_le _,zl⟩
 refine bI (ι:={z:Nat // (z≤ht.length)∧(k7 ht z)}) [1,3] [0,1,2,3,4,5,6,7,8] U U (fun z=>[(4,(vI (z.1:Int)))]) (fun z=>[]) (fun _=>rfl) (fun _=>rfl) (fun z=>ht.length-z.1) ⟨0,B⟩ (aU U) (aC [0,1,2,3,4,5,6,7,8]) ?_
 clear B
 rintro ⟨j,⟨AB,G⟩⟩ J20 M
 try dsimp only
 refine ai fun _ W=>WS fun _ X=>eZ 4 [] (mc 0 U mn) U<|rS (IA i U (aq 7 U) mL dc I I)<|rS (fE i 0 (vS A.1.1 ht.length A.1.2) U bQ (aq 7 U) E U dc U)<|rP 2 [] mn ?_
 refine RK X<|bH U (aP fun g=>?_) (aO fun g=>?_)
 ·refine bx<|ae<|ae<|ax<|aG<|KK R<|ak<|rP 3 [] mn ?_
  refine aA ?_
  have e:(vI (((i+1):Nat):Int))=(vI ((i:Int)+1)):=by exact cI I
  refine aS (L ⟨(i+1),⟨I,yI F D (Ah J G I)⟩⟩ _ _ _ U os (cS.cons U<|aV U e<|cS.nil _) (aC [0,1,2,3,4,5,6,7,8]))
 refine WK W<|ai fun _ Y=>av<|WS fun _ Z=>eZ 3 [] (mc 0 U mn) U<|rS (IA i U (aq 7 U) mL dc I I)<|rS (fE i 0 (vS A.1.1 ht.length A.1.2) U bQ (aq 7 U) E U dc U)<|rP 1 [] mn ?_
 obtain ⟨d,hd⟩:=aB ht j I
 obtain ⟨da,w⟩:=aB A.2 j I
 have x:(List.zipWith aw.cells ht A.2)[j]? =some (aw.cells d da):=db hd w
 refine rS (IA j U (show fR _ (rd A.1.1 ht.length 7 (List.zipWith aw.cells ht A.2)).holds from (bT 8 U (bk D C ck))) sU dc I I)<|rS (mF ((j*7)+4) U (show fR _ (rd A.1.1 ht.length 7 (List.zipWith aw.cells ht A.2)).holds from (bT 8 U (bk D C ck))) (Nat.mul_pos I dc) fq U)<|rS (mF (((j*7)+4)+2) U (show fR _ (rd A.1.1 ht.length 7 (List.zipWith aw.cells ht A.2)).holds from (bT 8 U (bk D C ck))) (Nat.mul_pos I dc) fq U)<|rS (fE j 6 (vS da.1 d.bO.ag.length da.2) U bQ (show fR _ (rd A.1.1 ht.length 7 (List.zipWith aw.cells ht A.2)).holds from (bT 8 U (bk D C ck))) x U dc U) ?_
 have AJ:=y d (aI hd)
 refine rP 2 [] mn ?_
 refine RK Z<|bH U (aP fun K=>?_) (aO fun K=>?_)
 ·refine cy<|aG<|KK Y<|ak<|rP 3 [] mn ?_
  refine aA ?_
  have c:(vI (((j+1):Nat):Int))=(vI ((j:Int)+1)):=by exact cI I
  refine aS (M ⟨(j+1),⟨I,zn G hd K⟩⟩ _ _ _ U os (cS.cons U<|cS.cons U<|aV U c<|cS.nil _) (aC [0,1,2,3,4,5,6,7,8]))
 refine WS fun _ a=>rP 1 [] mn ?_
 refine RK a<|an<|Q1 hQ U U U ?_
 exact cB (dw (AY D hd K)).symm
end
section
open Go.RowKit
theorem Cn (l:List Int) (lA:OA) (lC:Nat) (hlen:l.length≤1000000):
 pH Tryz.prog 47 [(vS lA l.length lC)] [(rd lA l.length 1 (l.map iC))] (fun (x:(OA)×Nat)=>(vS x.1 l.length x.2)) (fun (x:(OA)×Nat)=>True) (fun (x:(OA)×Nat)=>[(own x.1 x.2 3 1 (l.map iC))]):=by
 refine fm kr Tryz.func47 U U fun L Q hQ hN=>?_
 try dsimp only
 refine WS fun _ D=>bp 1 U<|RK D<|ai fun _ E=>WS fun _ F=>rP 1 [] mn ?_
 refine rS (BI U (Kk Nu))<|RK F<|cw U (aO fun B=>?_) (aP fun B=>?_)
 ·refine WS fun _ G=>GS (aq 0 U) B dc fun C=>?_
  have A:l=[]:=by simpa using C
  refine ik 3 1 ?_
  rw [show (own none 0 3 1 ([]:List (List Value)))=own none 0 3 1 (l.map iC) from by rw [A]; rfl]
  refine rP 1 [] mn ?_
  refine RK G<|an ?_
  refine LX hQ (none,0) [0] [] mn U U U ?_ ?_
  ·first|rfl|(rw [A]; rfl)
  ·trivial
 refine WK E<|WS fun _ H=>mX U cN U fun J=>rP 1 [] mn ?_
 refine fp (es:=(List.map iC [])) (C':=[own (some ⟨J,0,none⟩) 0 3 1 (List.map iC []),_]) 0 U sm U (by simp [maxLen]) U ?_
 refine cG (es2:=(List.map iC l)) (m':=l.length) 0 U U U l0 U U sm (aq 1 U) (gL _) os (by first|(simp only [maxLen]; omega)|(simp [maxLen]; omega)) sm sm U fun AA K=>?_
 try dsimp only
 refine rP 1 [] mn ?_
 refine RK H<|an ?_
 refine LX hQ (AA,K) [0] [] mn U U U ?_ ?_
 ·first|rfl|(rw [A]; rfl)
 ·trivial
theorem yu (l:List Int) (lA:OA) (lC:Nat) (f:Value) (key:Int→Int) (X:ao) (hf: ∀ x0 x1,x0∈l∧x1∈l→AF Tryz.prog f [.int .i64 x0,.int .i64 x1] [X] (.int .i64 (key x0-key x1))) (hkb: ∀ x∈l,0≤key x∧key x≤30000000) (hlen:l.length≤1000000):
 zS Tryz.prog 139 [(vS lA l.length lC),(vI 0),(vI (l.length:Int)),f] [X] (own lA lC 3 1 (l.map iC)) (fun (x:Unit)=>(vT [])) (fun (x:Unit)=>True) (fun (x:Unit)=>(own lA lC 3 1 ((bG key l).map iC))):=by
 refine lS kr Tryz.func139 U U fun s Q hQ hN=>?_
 try dsimp only
 refine WS fun _ Z=>bp 1 U<|rS (SX (dG (r:= .int .i64 1) U U U (kK ⟨dc,dc⟩)) U U)<|rP 1 [] mn ?_
 refine RK Z<|av ?_
 have C:(1≤1∧(1≤l.length∨1=1))∧(l.length=l.length)∧(1=1∧l=[]∨qS key l 1 l)∧(∀ x∈l,x∈l):=by exact ⟨I,rfl,C9,fun x h=>h⟩
 refine bI (ι:={z:Nat×(List Int) // (1≤z.1∧(z.1≤l.length∨z.1=1))∧(z.2.length=l.length)∧(z.1=1∧l=[]∨qS key l z.1 z.2)∧(∀ x∈z.2,x∈l)}) [0,1,2,3] [1] U U (fun z=>[(8,(vI (z.1.1:Int)))]) (fun z=>[(own lA lC 3 1 (z.1.2.map iC))]) (fun _=>rfl) (fun _=>rfl) (fun z=>l.length-z.1.1) ⟨(1,l),C⟩ (aU U) (aC [1,0]) ?_
 clear C
 rintro ⟨⟨i,m⟩,⟨AB,E,F,G⟩⟩ J2 L
 try dsimp only at AB E F G
 try dsimp only
 refine ai fun _ b=>WS fun _ c=>rP 3 [] mn ?_
 refine RK c<|bH U (aP fun p=>?_) (aO fun p=>?_)
 ·refine bx<|ae<|ae<|ax ?_
  rw [show m=bG key l from EF I E F]
  refine LM hN () 1 [] mn U U U U ?_
  trivial
 refine WK b<|ai fun _ N=>av<|WS fun _ d=>rP 2 [] mn ?_
 refine RK d<|av ?_
 have C:(i≤i)∧(m.length=l.length)∧(∀ x∈m,x∈l)∧(xX key l i i m):=by exact ⟨Nat.le_refl _,E,G,z9 I (H0 I F)⟩
 refine bI (ι:={z:Nat×(List Int) // (z.1≤i)∧(z.2.length=l.length)∧(∀ x∈z.2,x∈l)∧(xX key l i z.1 z.2)}) [0,1,2,3,8] [0] U U (fun z=>[(9,(vI (z.1.1:Int)))]) (fun z=>[(own lA lC 3 1 (z.1.2.map iC))]) (fun _=>rfl) (fun _=>rfl) (fun z=>z.1.1) ⟨(i,m),C⟩ (aU U) (aC [0,1]) ?_
 clear C
 rintro ⟨⟨j,q⟩,⟨J,D,A,B⟩⟩ J8 Y
 try dsimp only at J D A B
 try dsimp only
 refine ai fun _ e=>ai fun _ H=>cU bX 17 kr<|dP 4 [] mn ?_
 refine fU (t:=21) U (aP fun V=>?_) (aO fun V=>?_)
 ·refine jY 13 U<|cv<|RK H<|bU U<|bx<|ae<|ae<|ax<|aG<|KK N<|ak<|rP 3 [] mn ?_
  refine aA ?_
  refine aS (L ⟨((i+1),q),⟨I,D,.inr (by first|exact wy I B|exact wa I B hx hy I),A⟩⟩ _ _ _ U (by simp only []; omega) (aU U) (aC [0,1]))
 refine dP 3 [] mn ?_
 obtain ⟨x,hx⟩:=aB q j I
 have K:=br iC hx
 refine dS (IA j U (au (n:=l.length) 1 U sq) cN dc I I) ?_
 refine dS (fE j 0 (vI x) U bQ (au (n:=q.length) 1 U sm) K U dc U)<|dP 3 [] mn ?_
 obtain ⟨y,hy⟩:=aB q (j-1) I
 have AA:=br iC hy
 refine dS (IA (j-1) U (au (n:=l.length) 1 U sq) cN dc I I) ?_
 refine dS (fE (j-1) 0 (vI y) U bQ (au (n:=q.length) 1 U sm) AA U dc U)<|dS (SX (pV U U U (hf x y ⟨A _ (aI hx),A _ (aI hy)⟩) (bf [0])) U U)<|dP 2 [] mn ?_
 refine cv<|RK H<|bH U (aP fun W=>?_) (aO fun W=>?_)
 ·refine bx<|ae<|ae<|ax<|aG<|KK N<|ak<|rP 3 [] mn ?_
  refine aA ?_
  refine aS (L ⟨((i+1),q),⟨I,D,.inr (by first|exact wy I B|exact wa I B hx hy I),A⟩⟩ _ _ _ U (by simp only []; omega) (aU U) (aC [0,1]))
 refine WK e<|ai fun _ M=>av<|dj bX [15,16,17] [8,9,12,13,14] [] [0] [0,1] U U U U U<|eS U (MV U)<|eS U (MV U)<|eS U (MV U)<|eS U (MV U)<|eS U (BI U (pG ⟨I,I⟩))<|eS U (MV U)<|eS U (MV U)<|eS U (BI U (pG ⟨I,I⟩)) ?_
 refine fS U (IA (j-1) U (au (n:=l.length) 1 U sq) cN dc I I) ?_
 refine fS U (fE (j-1) 0 (vI y) U bQ (au (n:=q.length) 1 U sm) AA U dc U)<|eS U (MV U)<|eS U (MV U) ?_
 refine fS U (IA j U (au (n:=l.length) 1 U sq) cN dc I I) ?_
 refine fS U (fE j 0 (vI x) U bQ (au (n:=q.length) 1 U sm) K U dc U) ?_
 refine fS U (IA j U (au (n:=l.length) 1 U sq) cN dc I I) ?_
 refine dW U<|bV U fun T14 O=>d_ (k:=j) (o:=0) (vs:=[(vI y)]) (es':=(List.map iC (q.set j y))) (C':=[_,(own lA lC 3 1 (List.map iC (q.set j y)))]) 1 U U U xN U U U U K U dc (by exact (List.map_set (f:=iC) (l:=q) (i:=j) (a:=y)).symm) U<|aA (O _ _ (aC [0]) ?_)
 refine bV U fun T15 P=>?_
 obtain ⟨g,T⟩:=aB (q.set j y) (j-1) os
 have hx17m:(List.map iC (q.set j y))[(j-1)]? =some (iC g):=by rw [eG,T]; rfl
 refine rS (IA (j-1) U (au (n:=l.length) 1 U sq) cN dc I I) ?_
 refine aA (P _ _ (aC [0]) ?_)
 refine bV U fun T18 R=>d_ (k:=(j-1)) (o:=0) (vs:=[(vI x)]) (es':=(List.map iC ((q.set j y).set (j-1) x))) (C':=[_,(own lA lC 3 1 (List.map iC ((q.set j y).set (j-1) x)))]) 1 U U U xN U U U U hx17m U dc (by exact (List.map_set (f:=iC) (l:=(q.set j y)) (i:=(j-1)) (a:=x)).symm) U<|aA (R _ _ (aC [0]) ?_)
 refine eU U<|aG<|KK M<|ak<|rP 3 [] mn ?_
 refine aA ?_
 have S:(vI (((j-1):Nat):Int))=(vI ((j:Int)-1)):=by exact cI I
 refine aS (Y ⟨((j-1),((q.set j y).set (j-1) x)),⟨I,by simp; exact D,GK hx hy A,DE I B hx hy I⟩⟩ _ _ _ U (by simp only []; omega) (cE 5<|aV U S<|cS.nil _) (aC [0,1]))
theorem Fc (l:List Int) (lA:OA) (lC:Nat) (f:Value) (key:Int→Int) (X:ao) (hf: ∀ x0 x1,x0∈l∧x1∈l→AF Tryz.prog f [.int .i64 x0,.int .i64 x1] [X] (.int .i64 (key x0-key x1))) (hkb: ∀ x∈l,0≤key x∧key x≤30000000) (hlen:l.length≤12):
 zS Tryz.prog 97 [(vS lA l.length lC),(vI (l.length:Int)),f] [X] (own lA lC 3 1 (l.map iC)) (fun (x:Unit)=>(vT [])) (fun (x:Unit)=>True) (fun (x:Unit)=>(own lA lC 3 1 ((bG key l).map iC))):=by
 refine lS kr Tryz.func97 U U fun N Q hQ hN=>?_
 try dsimp only
 refine WS fun _ C=>bp 1 U<|RK C<|WS fun _ D=>bp 3 U<|RK D<|ai fun _ E=>av<|ly 1<|g7 fun R4 M=>ai fun _ L=>WS fun _ F=>rP 3 [] mn ?_
 refine RK F<|cw U (aO fun K=>?_) (aP fun K=>?_)
 ·exfalso; omega
 refine bx<|ae<|ae<|ax<|KK E<|WS fun _ G=>rP 4 [] mn ?_
 refine js 0 U U U U (yu l lA lC f key X (by exact hf) hkb sd) U (du 1 U U (dH (bP _)) kE) U (fun O J=>?_)
 try dsimp only
 refine RK G<|av<|ly 1<|g7 fun R11 AA=>ai fun _ H=>WS fun _ A=>rP 3 [] mn ?_
 refine RK A<|cw U (aO fun B=>?_) (aP fun B=>?_)
 ·exfalso; omega
 refine bx<|ae<|ae<|ax<|LM hN () 0 [] mn U U U U ?_
 trivial
theorem xu (l:List Int) (lA:OA) (lC:Nat) (f:Value) (key:Int→Int) (X:ao) (hf: ∀ x0 x1,x0∈l∧x1∈l→AF Tryz.prog f [.int .i64 x0,.int .i64 x1] [X] (.int .i64 (key x0-key x1))) (hkb: ∀ x∈l,0≤key x∧key x≤30000000) (hlen:l.length≤12):
 zS Tryz.prog 75 [(vS lA l.length lC),f] [X] (own lA lC 3 1 (l.map iC)) (fun (x:Unit)=>(vT [])) (fun (x:Unit)=>True) (fun (x:Unit)=>(own lA lC 3 1 ((bG key l).map iC))):=by
 refine lS kr Tryz.func75 U U fun B Q hQ hN=>?_
 try dsimp only
 refine ak<|rP 4 [] mn ?_
 refine js 0 U U U U (Fc l lA lC f key X (by exact hf) hkb hlen) U (du 1 U U (dH (bP _)) kE) U (fun C A=>?_)
 try dsimp only
 refine aA<|LM hN () 0 [] mn U U U U ?_
 trivial
theorem CW (l:List Int) (lA:OA) (lC:Nat) (f:Value) (key:Int→Int) (X:ao) (hf: ∀ x0 x1,x0∈l∧x1∈l→AF Tryz.prog f [.int .i64 x0,.int .i64 x1] [X] (.int .i64 (key x0-key x1))) (hkb: ∀ x∈l,0≤key x∧key x≤30000000) (hlen:l.length≤12):
 pH Tryz.prog 49 [(vS lA l.length lC),f] [(rd lA l.length 1 (l.map iC)),X] (fun (x:(OA)×Nat)=>(vS x.1 ((bG key l).length) x.2)) (fun (x:(OA)×Nat)=>True) (fun (x:(OA)×Nat)=>[(own x.1 x.2 3 1 ((bG key l).map iC))]):=by
 refine fm kr Tryz.func49 U U fun J Q hQ hN=>?_
 try dsimp only
 refine WS fun _ B=>bp 1 U<|RK B<|WS fun _ C=>rP 1 [] mn ?_
 refine cX (Cn l lA lC sd) (bf [0]) U fun AA G=>?_
 obtain ⟨E,F⟩:=AA
 try dsimp only
 refine bp 1 U<|RK C<|WS fun _ D=>rP 2 [] mn ?_
 refine js 0 U U U U (xu l E F f key X (by exact hf) hkb hlen) U (du 2 U U (dH (bP _)) kE) U (fun K H=>?_)
 try dsimp only
 refine RK D<|WS fun _ A=>rP 2 [] mn ?_
 refine RK A<|an ?_
 refine LX hQ (E,F) [0] [] mn U U U ?_ ?_
 ·first|rfl|(rw [il]; rfl)
 ·trivial
theorem Du (l:List Int) (lA:OA) (lC k:Nat) (hk:k≤l.length) (hlen:l.length≤1000000):
 zS Tryz.prog 51 [(vS lA k lC)] [] (own lA lC 3 1 (l.map iC)) (fun (x:Unit)=>(vT [])) (fun (x:Unit)=>True) (fun (x:Unit)=>(own lA lC 3 1 ((oh k l).map iC))):=by
 refine lS kr Tryz.func51 U U fun V Q hQ hN=>?_
 try dsimp only
 refine WS fun _ J=>rP 5 [] mn ?_
 refine RK J<|av ?_
 have B:(0≤k)∧(Dy l k 0 l):=by exact ⟨Nat.zero_le _,G7⟩
 have P:(vI ((k:Int)-1-(0:Int)))=(vI ((k:Int)-1)):=by exact cI I
 refine bI (ι:={z:Nat×(List Int) // (z.1≤k)∧(Dy l k z.1 z.2)}) [0] [] U U (fun z=>[(2,(vI (z.1.1:Int))),(3,(vI ((k:Int)-1-(z.1.1:Int))))]) (fun z=>[(own lA lC 3 1 (z.1.2.map iC))]) (fun _=>rfl) (fun _=>rfl) (fun z=>k-z.1.1) ⟨(0,l),B⟩ (cS.cons U<|aV U P<|cS.nil _) (aC [0]) ?_
 clear B
 rintro ⟨⟨i,m⟩,⟨C,A⟩⟩ J3 AB
 try dsimp only at C A
 try dsimp only
 have AA:=A.1
 refine ai fun _ K=>WS fun _ L=>rP 3 [] mn ?_
 refine RK L<|bH U (aP fun T=>?_) (aO fun T=>?_)
 ·refine bx<|ae<|ae<|ax ?_
  rw [show m=oh k l from Im hk I A]
  refine LM hN () 0 [] mn U U U U ?_
  trivial
 refine WK K<|ai fun _ M=>av<|dj bX [13,14,15] [6,7,10,11,12] [] [] [0] U U U U U<|eS U (MV U)<|eS U (MV U)<|eS U (MV U)<|eS U (MV U)<|eS U (MV U)<|eS U (MV U) ?_
 obtain ⟨y,hy⟩:=aB m ((((k:Int)-1-(i:Int))).toNat) I
 have R:=br iC hy
 refine fS U (L4 ((((k:Int)-1-(i:Int))).toNat) U (au (n:=m.length) 0 U sm) cN dc I I I)<|fS U (fE ((((k:Int)-1-(i:Int))).toNat) 0 (vI y) U bQ (au (n:=m.length) 0 U sm) R U dc U)<|eS U (MV U)<|eS U (MV U) ?_
 obtain ⟨x,hx⟩:=aB m i I
 have H:=br iC hx
 refine fS U (L4 i U (au (n:=m.length) 0 U sm) cN dc I I I)<|fS U (fE i 0 (vI x) U bQ (au (n:=m.length) 0 U sm) H U dc U)<|fS U (L4 i U (au (n:=m.length) 0 U sm) cN dc I I I)<|dW U<|bV U fun T8 N=>d_ (k:=i) (o:=0) (vs:=[(vI y)]) (es':=(List.map iC (m.set i y))) (C':=[(own lA lC 3 1 (List.map iC (m.set i y)))]) 0 U U U xN U U U U H U dc (by exact (List.map_set (f:=iC) (l:=m) (i:=i) (a:=y)).symm) U<|aA (N _ _ (aC []) ?_)
 refine bV U fun T9 O=>?_
 obtain ⟨S,G⟩:=aB (m.set i y) ((((k:Int)-1-(i:Int))).toNat) os
 have hx11m:(List.map iC (m.set i y))[(((k:Int)-1-(i:Int))).toNat]? =some (iC S):=by rw [eG,G]; rfl
 refine rS (L4 ((((k:Int)-1-(i:Int))).toNat) U (au (n:=(m.set i y).length) 0 U sm) cN dc I I (by simp; omega)) ?_
 refine aA (O _ _ (aC []) ?_)
 refine bV U fun T12 D=>d_ (k:=(((k:Int)-1-(i:Int))).toNat) (o:=0) (vs:=[(vI x)]) (es':=(List.map iC ((m.set i y).set ((((k:Int)-1-(i:Int))).toNat) x))) (C':=[(own lA lC 3 1 (List.map iC ((m.set i y).set ((((k:Int)-1-(i:Int))).toNat) x)))]) 0 U U U xN U U U U hx11m U dc (by exact (List.map_set (f:=iC) (l:=(m.set i y)) (i:=(((k:Int)-1-(i:Int))).toNat) (a:=x)).symm) U<|aA (D _ _ (aC []) ?_)
 refine eU U<|aG<|KK M<|ak<|rP 6 [] mn ?_
 refine aA ?_
 have E:(vI (((i+1):Nat):Int))=(vI ((i:Int)+1)):=by exact cI I
 have F:(vI ((k:Int)-1-(((i+1):Nat):Int)))=(vI (((k:Int)-1-(i:Int))-1)):=by exact cI I
 refine aS (AB ⟨((i+1),((m.set i y).set ((((k:Int)-1-(i:Int))).toNat) x)),⟨I,EG hk I I A hx hy⟩⟩ _ _ _ U os (cS.cons U<|aV U E<|aV U F<|cS.nil _) (aC [0]))
end
section
open Go.RowKit
theorem Fe (a b:Int) (m:lZ) (gm g1:Nat) (hb: ∀ p∈m,0≤p.2.Lo∧p.2.Lo≤p.2.Hi∧p.2.Hi≤30000000):
 dL Tryz.prog 50 [(vI a),(vI b),(vP g1)] [(jV iV gm (cz gE m)),(cd g1 86 [(Value.map (some gm))])] (vI ((aY m a).Hi-(aY m b).Hi)):=by
 have A:=tH (i:=a) hb
 have B:=tH (i:=b) hb
 refine bu kr Tryz.func50 U U fun E Q hQ hN=>?_
 try dsimp only
 refine WS fun _ C=>bp 1 U<|RK C<|WS fun _ D=>eZ 2 [] (mr 1 U mn) U<|rS (SX (sJ (kV:=iV) (x:=a) (l:=m) (f:=gE) (z:=(aa.mk 0 0)) U U U sZ (h_ p_) Ev (by exact BW 0 U)) U U)<|rS (SX (k6 (v:=(vI (((List.lookup a m).getD (aa.mk 0 0)).Hi))) U U fq xh U) U U)<|rP 2 [] (mr 1 U mn) ?_
 refine rS (SX (sJ (kV:=iV) (x:=b) (l:=m) (f:=gE) (z:=(aa.mk 0 0)) U U U sZ (h_ p_) Ev (by exact BW 0 U)) U U)<|rS (SX (k6 (v:=(vI (((List.lookup b m).getD (aa.mk 0 0)).Hi))) U U fq xh U) U U) ?_
 unfold aY at A B
 simp only [cg] at A B
 refine rP 2 [] mn ?_
 refine RK D<|an ?_
 exact Q1 hQ U U U U
theorem HI (heatX:Int) (r:cV) (kA:OA) (kC:Nat) (az:List RA) (cA:OA) (cC:Nat) (bA:OA) (bC:Nat) (slA:OA) (slC:Nat) (drA:OA) (drC:Nat) (ha:List dv) (heA:OA) (heC:Nat) (hin:fZ r az ha):
 pH Tryz.prog 19 [(vA (eC.cells (pB r kA kC cA cC bA bC slA slC drA drC heA heC))),(vI heatX)] [(rd gZ 3 2 fQ),(rd kA r.aF.aH.length 9 (r.aF.aH.map aj.cells)),(rd cA r.aF.ah.length 2 (List.zipWith al.cells r.aF.ah az)),(eg (aZ al.fB r.aF.ah az)),(rd bA r.aF.ab.length 4 (r.aF.ab.map bL.cells)),(rd slA r.aT.length 1 (r.aT.map iC)),(rd drA r.bo.length 1 (r.bo.map iC)),(rd heA r.ay.length 1 (List.zipWith c_ r.ay ha)),(eg (aZ gP r.ay ha))] (fun (x:(OA)×Nat)=>(vT [(vS x.1 ((eP r heatX).length) x.2),(vI (g6 r heatX))])) (fun (x:(OA)×Nat)=>True) (fun (x:(OA)×Nat)=>[(own x.1 x.2 3 1 ((eP r heatX).map iC))]):=by
 have AV:=hin.line
 have Ap:=hin.iG
 have Aq:=hin.has
 have Af:=hin.iE
 have AE:=hin.draw
 have AH:=dK (r:=r)
 refine fm kr Tryz.func19 U U fun w0 Q hQ hN=>?_
 try dsimp only
 refine WS fun _ AU=>eQ U fun b2=>bp 2 U<|RK AU<|wU U<|WS fun _ e=>rP 1 [] (mc 0 U mn) ?_
 refine cX (s8 r kA kC az cA cC bA bC slA slC drA drC ha heA heC hin) (bf [1,2,3,4,5,6,7,8,9]) U fun y4 AI=>?_
 obtain ⟨AJ,Am,AR,AQ,AZ,AK,AM⟩:=y4
 cases AJ
 ·obtain ⟨AF,he⟩:=AI.2 rfl
  try dsimp only at AF he
  subst AF
  try dsimp only [cond_true,cond_false,List.cons_append,List.nil_append]
  refine bp 5 U<|RK e<|ai fun _ Ae=>WS fun _ R=>rP 2 [] mn ?_
  refine RK R<|bH U (aX fun P=>?_) (aW fun P=>?_)
  ·exact absurd P he
  refine WS fun _ S=>rP 1 [] mn ?_
  have A:g6 r heatX=eN r:=uM he
  have B:eP r heatX=[]:=o9 (by rw [A]; exact he)
  refine ik 3 1 ?_
  rw [show (own none 0 3 1 ([]:List (List Value)))=own none 0 3 1 ((eP r heatX).map iC) from by rw [B]; rfl]
  refine rP 2 [] mn ?_
  refine RK S<|an ?_
  refine LX hQ (none,0) [0] [] mn U U U ?_ ?_
  ·first|rfl|(rw [A,B]; rfl)|(rw [A]; rfl)|(rw [A,B,g5]; rfl)
  ·trivial
 obtain ⟨he,AX⟩:=AI.1 rfl
 try dsimp only [cond_true,cond_false,List.cons_append,List.nil_append]
 have G:=(iR he).2
 have Ar:=G.uP
 have Ao:=G.uA
 refine bp 5 U<|RK e<|ai fun _ T=>WS fun _ As=>bp 1 U<|rS (SX (dG (r:= .bool false) U U U pN) U U)<|RK As<|bU U<|WK T<|ai fun _ V=>WS fun _ W=>rP 4 [] (mc 4 U mn) ?_
 refine fw (xs:=[.tmp 25]) (cs:=[(vI heatX)]) U cN lX U U U U (by simp [Value.cells]) U U fun AO=>?_
 refine rS (CL (dL.eq (l7 0 (r.ay.length:Int) ([heatX]) (some ⟨AO,0,none⟩) 1 sd) cZ) (aL (bj 0 U U (by simp [bW]) U)<|aR) U) ?_
 refine rP 1 [] mn ?_
 refine RK W<|cw U (aW fun AS=>?_) (aX fun AS=>?_)
 ·refine WS fun _ X=>?_
  have A:g6 r heatX=2:=vc he I
  have B:eP r heatX=[]:=o9 (by rw [A]; decide)
  refine ik 3 1 ?_
  rw [show (own none 0 3 1 ([]:List (List Value)))=own none 0 3 1 ((eP r heatX).map iC) from by rw [B]; rfl]
  refine rP 2 [] mn ?_
  refine RK X<|an ?_
  refine LX hQ (none,0) [0] [] mn U U U ?_ ?_
  ·first|rfl|(rw [A,B]; rfl)|(rw [A]; rfl)|(rw [A,B,g5]; rfl)
  ·trivial
 refine WK V<|ai fun _ Y=>WS fun _ Z=>rP 2 [] mn ?_
 refine RK Z<|cw U (aO fun D=>?_) (aP fun D=>?_)
 ·refine WS fun _ b=>rP 2 [] (mc 5 U mn) ?_
  refine cX (Cn r.bo drA drC sd) (bf [12]) U fun Ac Ag=>?_
  obtain ⟨N,O⟩:=Ac
  try dsimp only
  have A:g6 r heatX=0:=o7 he I
  have B:eP r heatX=r.bo:=l6 A D
  rw [show (own N O 3 1 (r.bo.map iC))=(own N O 3 1 ((eP r heatX).map iC)) from by rw [l6 A D]]
  refine rP 2 [] mn ?_
  refine RK b<|an ?_
  refine LX hQ (N,O) [0] [] mn U U U ?_ ?_
  ·first|rfl|(rw [A,B]; rfl)|(rw [A]; rfl)|(rw [A,B,g5]; rfl)
  ·trivial
 refine WK Y<|WS fun _ d=>?_
 obtain ⟨n,rfl⟩: ∃ n:Nat,heatX=(n:Int):=⟨heatX.toNat,I⟩
 refine rP 2 [] mn ?_
 refine cX (IX r kA kC az cA cC bA bC slA slC drA drC ha heA heC AM AZ AK (Value.map (some AQ)) AR n hin I sd (by exact G.po)) (kF [7,8,9,10,11,12,13,14]<|aL (au (n:=(cj r).length) 2 U (jK (by rw [AH]; exact AX)))<|aL (eY 3 U oG)<|fM 1 U U<|aR) U fun C Ah=>?_
 try dsimp only
 refine AL U LZ fun Au=>Ha U Hr U U<|RK d<|WS fun _ g=>bp 1 U<|RK g<|ai fun _ j=>xo<|KK j<|ai fun _ k=>WS fun _ m=>rP 4 [] (mc 7 U mn) ?_
 refine RK m<|av<|fT 3 1 ?_
 have F:(0≤r.bo.length):=by exact Nat.zero_le _
 refine bI (ι:={z:Nat×(OA)×Nat // (z.1≤r.bo.length)}) [1,2,6,8,38,39] [1,2,5,6,7,8,9,10,11,12,13,14,15,16,17] U U (fun z=>[(9,(vS z.1.2.1 (((r.bo.take z.1.1).filter fun u=>(List.lookup u (aN r n)).isSome).length) z.1.2.2)),(40,(vI (z.1.1:Int)))]) (fun z=>[(own z.1.2.1 z.1.2.2 3 1 (((r.bo.take z.1.1).filter fun u=>(List.lookup u (aN r n)).isSome).map iC))]) (fun _=>rfl) (fun _=>rfl) (fun z=>r.bo.length-z.1.1) ⟨(0,none,0),F⟩ (aU U) (aC [1,2,5,6,7,8,9,10,11,12,13,14,15,16,17,0]) ?_
 clear F
 rintro ⟨⟨i,a,c⟩,K⟩ J38 L
 try dsimp only at K
 try dsimp only
 refine WS fun _ o=>rP 1 [] mn ?_
 refine RK o<|ai fun _ p=>bH U (aP fun AT=>?_) (aO fun AT=>?_)
 ·refine bx<|ae<|ae<|ax<|KK k<|ai fun _ w=>?_
  rw [show r.bo.take i=r.bo from List.take_of_length_le I]
  refine ak<|rP 1 [] mn ?_
  have AW:=Bs he (show n≤r.ay.length by omega)
  have AG:=Nat.le_trans (List.length_filter_le (fun u=>(List.lookup u (aN r n)).isSome) r.bo) AE
  have An:(bG (fun u=>(aY (aN r n) u).Hi) (r.bo.filter fun u=>(List.lookup u (aN r n)).isSome)).length≤12:=by rw [il]; exact AG
  refine rS (FU U) ?_
  refine cX (CW (r.bo.filter fun u=>(List.lookup u (aN r n)).isSome) a c (Value.func (.func 50) [].toArray [(vP Au)].toArray) (fun u=>(aY (aN r n) u).Hi) (eg [(jV iV C (cz gE (aN r n))),(cd Au 86 [(Value.map (some C))])]) (by intro Aa Ab _; exact mB (fi:=[]) (ca:=[(vP Au)]) (kU (Fe Aa Ab (aN r n) C Au (by first|assumption|omega)) (bf [0,1]))) (by exact NI AW) (by exact AG)) (aL (au (n:=(r.bo.filter fun u=>(List.lookup u (aN r n)).isSome).length) 15 U sm)<|aL (kR (bf [1,0]))<|aR) U fun Ad Ai=>?_
  obtain ⟨H,J⟩:=Ad
  try dsimp only
  refine bp 1 U<|RK w<|WS fun _ y=>rP 5 [] (mc 6 U mn) ?_
  refine rS (MN U)<|KW 0 U fun AD=>?_
  simp only [List.length_map] at AD
  refine rS (NX (((min r.i_ (((bG (fun u=>(aY (aN r n) u).Hi) (r.bo.filter fun u=>(List.lookup u (aN r n)).isSome)).length:Nat):Int))).toNat) U cN I (by first|omega|exact Nat.zero_le _|(simp; omega))) ?_
  refine js 0 U U U U (Du (bG (fun u=>(aY (aN r n) u).Hi) (r.bo.filter fun u=>(List.lookup u (aN r n)).isSome)) H J (((min r.i_ (((bG (fun u=>(aY (aN r n) u).Hi) (r.bo.filter fun u=>(List.lookup u (aN r n)).isSome)).length:Nat):Int))).toNat) I I) U kE U (fun At Aj=>?_)
  try dsimp only
  refine RK y<|WS fun _ AA=>rP 1 [] mn ?_
  have A:g6 r (n:Int)=0:=o7 he I
  have B:eP r (n:Int)=(oh (((min r.i_ (((bG (fun u=>(aY (aN r n) u).Hi) (r.bo.filter fun u=>(List.lookup u (aN r n)).isSome)).length:Nat):Int))).toNat) (bG (fun u=>(aY (aN r n) u).Hi) (r.bo.filter fun u=>(List.lookup u (aN r n)).isSome))):=by rw [oT A D]; exact (rN rfl I).symm
  rw [show (own H J 3 1 ((oh (((min r.i_ (((bG (fun u=>(aY (aN r n) u).Hi) (r.bo.filter fun u=>(List.lookup u (aN r n)).isSome)).length:Nat):Int))).toNat) (bG (fun u=>(aY (aN r n) u).Hi) (r.bo.filter fun u=>(List.lookup u (aN r n)).isSome))).map iC))=(own H J 3 1 ((eP r (n:Int)).map iC)) from by rw [oT A D]; exact congrArg (fun z=>own _ _ _ _ (List.map iC z)) (rN rfl I)]
  refine rP 2 [] mn ?_
  refine RK AA<|an ?_
  refine LX hQ (H,J) [0] [] mn U U U ?_ ?_
  ·first|rfl|(rw [A,B]; rfl)|(rw [A]; rfl)|(rw [A,B,g5]; rfl)
  ·trivial
 refine WK p<|ai fun _ M=>av<|WS fun _ q=>?_
 obtain ⟨x,hx⟩:=aB r.bo i I
 have AY:=br iC hx
 refine rS (IA i U (aq 12 U) cN dc I I)<|rS (fE i 0 (vI x) U bQ (aq 12 U) AY U dc U)<|bp 1 U<|RK q<|ai fun _ s=>WS fun _ t=>eZ 2 [] (mc 0 U mn) U<|rS (SX (lI (kV:=iV) (x:=x) (l:=(aN r n)) (f:=gE) (z:=(aa.mk 0 0)) U U U sZ (h_ p_) Ev (by exact aq 1 U)) U U)<|bp 3 U<|AL U cR fun Ak=>fg U bS U<|bp 1 U<|RK t<|WS fun _ v=>rP 2 [] mn ?_
 refine RK v<|cw U (fun E=>?_) (fun E=>?_)
 ·rw [Bool.not_eq_true'] at E
  refine bx<|ae<|ax<|KK M<|ak<|rP 2 [] mn ?_
  refine aA ?_
  rw [show ((r.bo.take i).filter fun u=>(List.lookup u (aN r n)).isSome)=((r.bo.take (i+1)).filter fun u=>(List.lookup u (aN r n)).isSome) from (BM hx E).symm]
  have AB:(vI (((i+1):Nat):Int))=(vI ((i:Int)+1)):=by exact cI I
  refine aS (L ⟨((i+1),a,c),(by first|omega|(simp only []; omega))⟩ _ _ _ U os (cE 7<|aV U AB<|cS.nil _) (aC [1,2,3,4,5,6,7,8,9,10,11,12,13,14,15,16]))
 rw [Bool.not_eq_false'] at E
 refine WK s<|ak<|rP 2 [] mn ?_
 refine fw (xs:=[.tmp 53]) (cs:=[(vI x)]) U cN lX U U U U (by simp [Value.cells]) U U fun Al=>?_
 refine cG (es2:=(List.map iC ((r.bo.take (i+1)).filter fun u=>(List.lookup u (aN r n)).isSome))) (m':=((r.bo.take (i+1)).filter fun u=>(List.lookup u (aN r n)).isSome).length) 17 U U U l0 U U sm (bj (es:=List.map iC [x]) 0 U U (by simp [bW]) U) (gL _) (by have:=List.length_filter_le (fun u=>(List.lookup u (aN r n)).isSome) (r.bo.take i); rw [List.length_take] at this; first|omega|(simp; omega)) (by have:=List.length_filter_le (fun u=>(List.lookup u (aN r n)).isSome) (r.bo.take i); rw [List.length_take] at this; simp only [maxLen]; first|omega|(simp; omega)) (by rw [oJ hx E]; simp) sm U fun AN AP=>?_
 try dsimp only
 refine bp 1 U<|aA<|aG<|KK M<|ak<|rP 2 [] mn ?_
 refine aA ?_
 have AC:(vI (((i+1):Nat):Int))=(vI ((i:Int)+1)):=by exact cI I
 refine aS (L ⟨((i+1),AN,AP),(by first|omega|(simp only []; omega))⟩ _ _ _ U os (cE 7<|aV U AC<|cS.nil _) (aC [2,3,4,5,6,7,8,9,10,11,12,13,14,15,16,17]))
end
section
open Go.RowKit
theorem HX (l:aQ) (kA:OA) (kC:Nat) (az:List RA) (cA:OA) (cC:Nat) (bA:OA) (bC:Nat) (hin:dF l az) (hng: ¬ jv l):
 pH Tryz.prog 40 [(vA (cb.cells (jI l kA kC cA cC bA bC)))] [(rd kA l.aH.length 9 (l.aH.map aj.cells)),(rd cA l.ah.length 2 (List.zipWith al.cells l.ah az)),(eg (aZ al.fB l.ah az)),(rd bA l.ab.length 4 (l.ab.map bL.cells))] (fun (x:(OA)×Nat×(OA)×Nat×(List RA)×(OA)×Nat)=>(vA (cb.cells (cb.mk (bB.mk (bE.mk x.1 l.aH.length x.2.1)) l.gY (bE.mk x.2.2.1 l.ah.length x.2.2.2.1) (bE.mk x.2.2.2.2.2.1 l.ab.length x.2.2.2.2.2.2) l.cQ l.eO l.cW)))) (fun (x:(OA)×Nat×(OA)×Nat×(List RA)×(OA)×Nat)=>x.2.2.2.2.1.length=l.ah.length∧sk l.ah x.2.2.2.2.1) (fun (x:(OA)×Nat×(OA)×Nat×(List RA)×(OA)×Nat)=>[(own x.1 x.2.1 163 9 (l.aH.map aj.cells)),(own x.2.2.1 x.2.2.2.1 119 2 (List.zipWith al.cells l.ah x.2.2.2.2.1)),(bM (aZ al.owns l.ah x.2.2.2.2.1)),(own x.2.2.2.2.2.1 x.2.2.2.2.2.2 141 4 (l.ab.map bL.cells))]):=by
 have v:=hin.pO
 have u:=hin.pJ
 have G:=hin.mE
 have t:=hin.pQ
 have Z:=qI hng
 refine fm OM Tryz.func40 U U fun w0 Q hQ hN=>?_
 try dsimp only
 refine WS fun _ p=>eQ U fun b2=>AL U O5 fun b3=>RK p<|WS fun _ q=>rP 1 [] mn ?_
 refine rS (LP (bB.cells (bB.mk (bE.mk kA l.aH.length kC))) 1 U NA U U U) ?_
 refine cX (K9 l.aH kA kC sd) (bf [2]) U fun y w=>?_
 obtain ⟨c,d⟩:=y
 try dsimp only
 refine bp 1 U<|Pb (cb.cells (cb.mk (bB.mk (bE.mk c l.aH.length d)) l.gY (bE.mk cA l.ah.length cC) (bE.mk bA l.ab.length bC) l.cQ l.eO l.cW)) U Mu U U<|RK q<|WS fun _ r=>mX U vw U fun e=>rP 2 [] (mc 3 U mn) ?_
 refine fp (es:=(List.map cT.cells [])) (C':=[own (some ⟨e,0,none⟩) 0 119 2 (List.map cT.cells []),_,_,_,_,_,_,_]) 0 U sm U (by simp [maxLen]) U ?_
 refine cG (es2:=(List.zipWith al.cells l.ah az)) (m':=l.ah.length) 0 U U U OC U U sm (aq 5 U) (Bm _ _) os (by first|(simp only [maxLen]; omega)|(simp [maxLen]; omega)) sm (jR G) U fun B D=>?_
 try dsimp only
 refine bp 1 U<|KB (cb.cells (cb.mk (bB.mk (bE.mk c l.aH.length d)) l.gY (bE.mk B l.ah.length D) (bE.mk bA l.ab.length bC) l.cQ l.eO l.cW)) U N_ U U<|RK r<|ai fun _ N=>WS fun _ O=>rP 1 [] mn ?_
 refine RK O<|av<|nU ?_
 have H:(0≤l.ah.length)∧(([]:List RA).length=0)∧(sk l.ah ([]:List RA)):=by exact ⟨Nat.zero_le _,rfl,fun k m a _ h=>by simp at h⟩
 refine bI (ι:={z:Nat×(List RA) // (z.1≤l.ah.length)∧(z.2.length=z.1)∧(sk l.ah z.2)}) [1,2] [2,3,4,5,6,7,8] U U (fun z=>[(3,(vI (z.1.1:Int)))]) (fun z=>[(bM (aZ al.owns (l.ah.take z.1.1) z.1.2)),(own B D 119 2 (List.zipWith al.cells l.ah (pA z.1.2 az z.1.1)))]) (fun _=>rfl) (fun _=>rfl) (fun z=>l.ah.length-z.1.1) ⟨(0,([]:List RA)),H⟩ (aU U) (aC [2,3,4,5,6,7,8,0,1]) ?_
 clear H
 rintro ⟨⟨i,bz⟩,⟨AB,A,F⟩⟩ J15 M
 try dsimp only at AB A F
 try dsimp only
 refine ai fun _ P=>WS fun _ R=>rP 5 [] (mc 2 U mn) ?_
 refine RK R<|bH U (aP fun j=>?_) (aO fun j=>?_)
 ·refine bx<|ae<|ae<|ax<|KK N<|WS fun _ T=>mX U rO U fun g=>?_
  rw [show pA bz az i=bz from EP I]
  rw [show l.ah.take i=l.ah from List.take_of_length_le I]
  refine rP 2 [] (mc 3 U mn) ?_
  refine fp (es:=(List.map bL.cells [])) (C':=[own (some ⟨g,0,none⟩) 0 141 4 (List.map bL.cells []),_,_,_,_,_,_,_,_,_]) 0 U sm U (by simp [maxLen]) U ?_
  refine cG (es2:=(List.map bL.cells l.ab)) (m':=l.ab.length) 0 U U U O3 U U sm (aq 7 U) (sX _) os (by first|(simp only [maxLen]; omega)|(simp [maxLen]; omega)) sm sm U fun K L=>?_
  try dsimp only
  refine bp 1 U<|KB (cb.cells (cb.mk (bB.mk (bE.mk c l.aH.length d)) l.gY (bE.mk B l.ah.length D) (bE.mk K l.ab.length L) l.cQ l.eO l.cW)) U Pe U U<|RK T<|WS fun _ AA=>rP 1 [] (mc 3 U mn) ?_
  refine zO U Nn U<|RK AA<|an ?_
  refine LX hQ (c,d,B,D,bz,K,L) [1,9,8,0] [0] (mc 2 U mn) U (by simp only [iD,List.all_nil,qK,Bool.and_true]; rfl) U U ?_
  exact ⟨dso,F⟩
 refine WK P<|ai fun _ S=>av<|dj bX [3,10,13] [6,7,8,9,10] [0,1] [0,1,2,3,4,5,6,7] [0,1,2,3,4,5,6,7,8] U U U U U<|eS U (FA 2 U ES U)<|eS U (L1 (vS B l.ah.length D) 2 U JF U U)<|eS U (MV U)<|eS U (FA 2 U ES U)<|eS U (L1 (vS B l.ah.length D) 2 U JF U U)<|eS U (MV U) ?_
 obtain ⟨x,hx⟩:=aB l.ah i I
 obtain ⟨xa,J⟩:=aB az i I
 have b:(List.zipWith al.cells l.ah (pA bz az i))[i]? =some (al.cells x xa):=db hx (By A J)
 refine fS U (IA i U (au (n:=l.ah.length) 8 U (jR (by rw [o2 A I]; exact G))) vw dc I I) ?_
 refine fS U (mF ((i*2)+1) U (au (n:=l.ah.length) 8 U (jR (by rw [o2 A I]; exact G))) (Nat.mul_pos I dc) BK U) ?_
 refine fS U (fE i 1 (vS xa.1 x.aK.length xa.2) U IV (au (n:=l.ah.length) 8 U (jR (by rw [o2 A I]; exact G))) b U dc U) ?_
 refine fS U (IA i U (au (n:=l.ah.length) 8 U (jR (by rw [o2 A I]; exact G))) vw dc I I) ?_
 refine fS U (mF ((i*2)+1) U (au (n:=l.ah.length) 8 U (jR (by rw [o2 A I]; exact G))) (Nat.mul_pos I dc) BK U) ?_
 refine dW U<|iB U fun T20 V=>mX U ml U fun f=>aA (V _ _ (aC [1,2,3,4,5,6,7,8]) (aC [1,2,3,4,5,6,7,8,9]) ?_)
 refine iB U fun T22 W=>fp (es:=(List.map bY.cells [])) (C':=[own (some ⟨f,0,none⟩) 0 137 3 (List.map bY.cells []),_,_,_,_,_,_,_,_,_]) 0 U sm U (by simp [maxLen]) U ?_
 refine cG (es2:=(List.map bY.cells x.aK)) (m':=x.aK.length) 0 U U U MW U U sm (show fR _ (rd xa.1 x.aK.length 3 (x.aK.map bY.cells)).holds from (bT 6 U (bk hx J (by simp [al.fB])))) (sW _) (by have:=Z.2.2.2 x (aI hx); simp; omega) (by have:=Z.2.2.2 x (aI hx); simp only [maxLen]; simp; omega) sm sm U fun C E=>?_
 try dsimp only
 refine MG 0 U fun s=>aA (W _ _ (aC [1,2,3,4,5,6,7,8]) (aC [1,2,3,4,5,6,7,8,9]) ?_)
 refine bV U fun T25 X=>d_ (k:=i) (o:=1) (vs:=[(vS C x.aK.length E)]) (es':=(List.zipWith al.cells l.ah (pA (bz++[(C,E)]) az (i+1)))) (C':=[_,_,_,_,_,_,_,_,_,(own B D 119 2 (List.zipWith al.cells l.ah (pA (bz++[(C,E)]) az (i+1))))]) 9 U U U Ms U U U U b U dc (by exact Iv (nw:=(C,E)) hx A J) U<|aA (X _ _ (aC [1,2,3,4,5,6,7,8]) ?_)
 refine eU U<|aG<|KK S<|ak<|rP 3 [] mn ?_
 refine aA<|wq (X':=aZ al.owns (l.ah.take (i+1)) (bz++[(C,E)])) 8 0 U U (Dz (nw:=(C,E)) hx A) ?_
 have Y:(vI (((i+1):Nat):Int))=(vI ((i:Int)+1)):=by exact cI I
 refine aS (M ⟨((i+1),(bz++[(C,E)])),⟨I,by simp; omega,FG F A hx (by simpa using s)⟩⟩ _ _ _ U os (cS.cons U<|cS.cons U<|aV U Y<|cS.nil _) (aC [1,2,3,4,5,6,7,0,8]))
end
section
structure Bc (w w':bJ):Prop where
 start:w'.Start=w.Start
 now:w.eX≤w'.eX
 n:w'.n=w.n
 least: ∀ b,bK w' b≤bK w b
 times:w'.sN=w.sN
 JK:w.cW≤w'.cW
 LC:w.eO≤w'.eO
 sigs:w'.JN=w.JN
variable {w w':bJ}
theorem Bc.opt (h:Bc w w') {b:Nat} {o:Int×aa} (ho:o∈gr w b): ∃ o'∈gr w' b,o'.1=o.1∧o'.2.Lo≤o.2.Lo∧o.2.Hi≤o'.2.Hi:=by
 unfold gr at ho
 rcases List.mem_cons.1 ho with rfl|ho
 ·exact ⟨(-1,⟨w'.Start,w'.eX⟩),ck ..,U,by simp only [h.start]; omega,h.now⟩
 ·refine ⟨o,dq _ ?_,U,Int.le_refl _,Int.le_refl _⟩
  unfold qP at ho ⊢; rw [h.times]; exact ho
theorem Bc.may (h:Bc w w') {t:ar} (ht:jl w t=true):jl w' t=true:=by
 unfold jl at ht ⊢
 have:=of_decide_eq_true ht
 have A:=h.JK
 have B:=h.LC
 have C:=h.sigs
 exact dw I
theorem Bc.fwd (h:Bc w w'): ∀ (b:Nat) (p:ar×Int),p∈fwd w b→ ∃ p'∈Go.Proofs.YtcoejkiaokbmpaaGreatDoor.fwd w' b,p'.1=p.1∧p'.2≤p.2:=by
 intro b
 induction b with
 |zero=>
  intro p hp
  simp only [Go.Proofs.YtcoejkiaokbmpaaGreatDoor.fwd,cu] at hp ⊢
  subst hp
  exact ⟨_,U,U,by simp only [h.start]; omega⟩
 |succ b ih=>
  intro q hq
  obtain ⟨p,hp,o,ho,e⟩:=eT.1 hq
  obtain ⟨p',hp',A,D⟩:=ih p hp
  obtain ⟨o',ho',B,E,F⟩:=h.opt ho
  have hl:=h.least b
  have hn:=h.now
  unfold jB at e
  split at e
  ·rename_i C
   simp only [Option.some.injEq] at e
   subst e
   refine ⟨(cP p'.1 (ej o'.1),max (p'.2+bK w' b) o'.2.Lo),eT.2 ⟨p',hp',o',ho',by unfold jB; rw [if_pos I]⟩,by simp only [A,B],by simp only; omega⟩
  ·cases e
theorem Bc.bwd (h:Bc w w'): ∀ (k:Nat) (p:ar×Int),p∈bwd w k→ ∃ p'∈Go.Proofs.YtcoejkiaokbmpaaGreatDoor.bwd w' k,p'.1=p.1∧p.2≤p'.2:=by
 intro k
 induction k with
 |zero=>
  intro p hp
  simp only [Go.Proofs.YtcoejkiaokbmpaaGreatDoor.bwd,cu] at hp ⊢
  subst hp
  exact ⟨_,U,U,h.now⟩
 |succ k ih=>
  intro q hq
  simp only [Go.Proofs.YtcoejkiaokbmpaaGreatDoor.bwd,g8,List.mem_flatMap,List.mem_filterMap] at hq ⊢
  rcases hq with rfl|⟨p,hp,o,ho,e⟩
  ·exact ⟨_,.inl U,U,h.now⟩
  ·obtain ⟨p',hp',A,D⟩:=ih p hp
   obtain ⟨o',ho',B,E,F⟩:=h.opt ho
   have hl:=h.least (w.n-(k+1))
   rw [h.n]
   unfold lY at e
   split at e
   ·rename_i C
    simp only [Option.some.injEq] at e
    subst e
    exact ⟨(cP p'.1 (ej o'.1),min p'.2 o'.2.Hi-bK w' (w.n-(k+1))),.inr ⟨p',hp',o',ho',by unfold lY; rw [if_pos I]⟩,by simp only [A,B],by simp only; omega⟩
   ·cases e
theorem Bc.back (h:Bc w w') {b:Nat} {p:ar×Int} (hp:p∈back w b): ∃ p'∈Go.Proofs.YtcoejkiaokbmpaaGreatDoor.back w' b,p'.1=p.1∧p.2≤p'.2:=by
 unfold Go.Proofs.YtcoejkiaokbmpaaGreatDoor.back at hp ⊢
 rw [h.n]
 exact h.bwd _ p hp
theorem Bc.pass (h:Bc w w') {b:Nat} {q:Int×aa} (hq:q∈kP w b): ∃ q'∈kP w' b,q'.1=q.1∧q'.2.Lo≤q.2.Lo∧q.2.Hi≤q'.2.Hi:=by
 obtain ⟨o,ho,p,hp,u,hu,e⟩:=gj.1 hq
 obtain ⟨D,E,rfl⟩:=hG.1 e
 obtain ⟨o',ho',A,F,G⟩:=h.opt ho
 obtain ⟨p',hp',B,H⟩:=h.fwd _ p hp
 obtain ⟨u',hu',C,AA⟩:=h.back hu
 have hl:=h.least b
 simp only [ic] at D
 refine ⟨(o'.1,ic w' b p' u' o'),gj.2 ⟨o',ho',p',hp',u',hu',hG.2 ⟨?_,?_,U⟩⟩,A,?_,?_⟩
 ·simp only [ic]; omega
 ·have:=h.may E
  unfold uY at this ⊢
  rw [A,B,C]; exact this
 ·simp only [ic]; omega
 ·simp only [ic]; omega
theorem ni {k:Int}:k∈iI w↔ ∃ i:Nat,k=(i:Int)∧i≤w.n∧g9 w (fwd w i)=true:=by
 unfold iI jg
 simp only [s_,List.mem_filter,List.mem_range]
 constructor
 ·rintro ⟨i,⟨B,A⟩,rfl⟩; exact ⟨i,rfl,I,A⟩
 ·rintro ⟨i,rfl,B,A⟩; exact ⟨i,⟨I,A⟩,rfl⟩
theorem Bc.Dw (h:Bc w w') {k:Int} (hk:k∈iI w):k∈iI w':=by
 obtain ⟨i,rfl,C,A⟩:=ni.1 hk
 refine ni.2 ⟨i,U,by rw [h.n]; exact C,?_⟩
 unfold g9 at A ⊢
 obtain ⟨p,hp,D⟩:=List.any_eq_true.1 A
 obtain ⟨p',hp',B,_⟩:=h.fwd _ p hp
 exact List.any_eq_true.2 ⟨p',hp',by rw [B]; exact h.may D⟩
/-- two rides, of two lines, of which one allows more -/
structure N0 (l:aQ) (r:cf) (l':aQ) (r':cf):Prop where
 line:cY l=0
 line':cY l'=0
 vE:er l r
 ride':er l' r'
 w:Bc (bZ l r) (bZ l' r')
 I6:l'.ab.length=l.ab.length
variable {l l':aQ} {r r':cf}
theorem N0.ok (h:N0 l r l' r') (he:dM l r 0=0):dM l' r' 0=0:=by
 refine lj h.line' h.ride' U fun e=>?_
 obtain ⟨k,hk⟩:=List.exists_mem_of_ne_nil _ (iL he).2.2.2
 have:=h.w.Dw hk
 rw [e] at this; cases this
theorem N0.As (h:N0 l r l' r') {k:Int} (hk:k∈kD l r):k∈kD l' r':=by
 by_cases he:dM l r 0=0
 ·rw [kd he] at hk
  rw [kd (h.ok he)]
  exact h.w.Dw hk
 ·rw [rK he] at hk; cases hk
theorem Cw {b:Nat} (hb:b<l.ab.length):dM l r (iT l b)=dM l r 0:=by rw [yK I]
theorem wi {b:Nat}:bK (bZ l r) b=if b<l.ab.length then dp l b else 0:=by
 unfold bK bZ cq
 split
 ·rename_i h
  simp [h]
 ·rename_i h
  simp [h]
theorem DD {sg:List aD} {i:Nat} (h:i=0):nq sg i=⟨-1,0⟩:=by subst h; rfl
theorem pk {sg:List aD} {i:Nat} {y:aD} (h:0<i) (hy:sg[i-1]? =some y):nq sg i=y:=by unfold nq; rw [if_neg I,hy]; rfl
def JM (l:aQ):Prop:= ¬ jv l∧cY l=0
noncomputable instance (l:aQ):Decidable (JM l):=Classical.propDecidable _
end
section
open Go.RowKit
theorem ID (r:cf) (sgA:OA) (sgC:Nat) (hsl:r.ag.length≤1000000):
 pH Tryz.prog 41 [(vA (dZ.cells (j1 r sgA sgC)))] [(rd sgA r.ag.length 2 (r.ag.map aD.cells))] (fun (x:(OA)×Nat)=>(vA (dZ.cells (dZ.mk r.Start r.eX (bE.mk x.1 r.ag.length x.2))))) (fun (x:(OA)×Nat)=>True) (fun (x:(OA)×Nat)=>[(own x.1 x.2 165 2 (r.ag.map aD.cells))]):=by
 refine fm kr Tryz.func41 U U fun AA Q hQ hN=>?_
 try dsimp only
 refine WS fun _ A=>eQ U fun G=>AL U O7 fun H=>RK A<|WS fun _ B=>mX U vy U fun F=>rP 2 [] (mc 2 U mn) ?_
 refine fp (es:=(List.map aD.cells [])) (C':=[own (some ⟨F,0,none⟩) 0 165 2 (List.map aD.cells []),_,_,_]) 0 U sm U (by simp [maxLen]) U ?_
 refine cG (es2:=(List.map aD.cells r.ag)) (m':=r.ag.length) 0 U U U OL U U sm (aq 3 U) (qX _) os (by first|(simp only [maxLen]; omega)|(simp [maxLen]; omega)) sm sm U fun D E=>?_
 try dsimp only
 refine bp 1 U<|Pb (dZ.cells (j1 r D E)) U Ov U U<|RK B<|WS fun _ C=>rP 1 [] (mc 2 U mn) ?_
 refine qf U LK U<|RK C<|an<|LX hQ (D,E) [0] [0] (mc 1 U mn) U U U U ?_
 trivial
end
section
open Go.RowKit
theorem AU (r:cV) (kA:OA) (kC:Nat) (az:List RA) (cA:OA) (cC:Nat) (bA:OA) (bC:Nat) (slA:OA) (slC:Nat) (drA:OA) (drC:Nat) (ha:List dv) (heA:OA) (heC:Nat) (hin:fZ r az ha) (hng: ¬ kH r):
 pH Tryz.prog 14 [(vA (eC.cells (pB r kA kC cA cC bA bC slA slC drA drC heA heC)))] [(rd kA r.aF.aH.length 9 (r.aF.aH.map aj.cells)),(rd cA r.aF.ah.length 2 (List.zipWith al.cells r.aF.ah az)),(eg (aZ al.fB r.aF.ah az)),(rd bA r.aF.ab.length 4 (r.aF.ab.map bL.cells)),(rd slA r.aT.length 1 (r.aT.map iC)),(rd drA r.bo.length 1 (r.bo.map iC)),(rd heA r.ay.length 1 (List.zipWith c_ r.ay ha)),(eg (aZ gP r.ay ha))] (fun (x:(OA)×Nat×(OA)×Nat×(List RA)×(OA)×Nat×(OA)×Nat×(OA)×Nat×(OA)×Nat×(List dv))=>(vA (eC.cells (eC.mk (cb.mk (bB.mk (bE.mk x.1 r.aF.aH.length x.2.1)) r.aF.gY (bE.mk x.2.2.1 r.aF.ah.length x.2.2.2.1) (bE.mk x.2.2.2.2.2.1 r.aF.ab.length x.2.2.2.2.2.2.1) r.aF.cQ r.aF.eO r.aF.cW) (bE.mk x.2.2.2.2.2.2.2.1 r.aT.length x.2.2.2.2.2.2.2.2.1) (bE.mk x.2.2.2.2.2.2.2.2.2.1 r.bo.length x.2.2.2.2.2.2.2.2.2.2.1) r.i_ (bE.mk x.2.2.2.2.2.2.2.2.2.2.2.1 r.ay.length x.2.2.2.2.2.2.2.2.2.2.2.2.1))))) (fun (x:(OA)×Nat×(OA)×Nat×(List RA)×(OA)×Nat×(OA)×Nat×(OA)×Nat×(OA)×Nat×(List dv))=>(x.2.2.2.2.1.length=r.aF.ah.length∧sk r.aF.ah x.2.2.2.2.1)∧Iz r.ay x.2.2.2.2.2.2.2.2.2.2.2.2.2) (fun (x:(OA)×Nat×(OA)×Nat×(List RA)×(OA)×Nat×(OA)×Nat×(OA)×Nat×(OA)×Nat×(List dv))=>[(own x.1 x.2.1 163 9 (r.aF.aH.map aj.cells)),(own x.2.2.1 x.2.2.2.1 119 2 (List.zipWith al.cells r.aF.ah x.2.2.2.2.1)),(bM (aZ al.owns r.aF.ah x.2.2.2.2.1)),(own x.2.2.2.2.2.1 x.2.2.2.2.2.2.1 141 4 (r.aF.ab.map bL.cells)),(own x.2.2.2.2.2.2.2.1 x.2.2.2.2.2.2.2.2.1 3 1 (r.aT.map iC)),(own x.2.2.2.2.2.2.2.2.2.1 x.2.2.2.2.2.2.2.2.2.2.1 3 1 (r.bo.map iC)),(own x.2.2.2.2.2.2.2.2.2.2.2.1 x.2.2.2.2.2.2.2.2.2.2.2.2.1 71 1 (List.zipWith c_ r.ay x.2.2.2.2.2.2.2.2.2.2.2.2.2)),(bM (aZ tQ r.ay x.2.2.2.2.2.2.2.2.2.2.2.2.2))]):=by
 have p:=hin.line
 have At:=hin.iG
 have G:=hin.has
 have Aq:=hin.iE
 have An:=hin.draw
 have Ar:=dK (r:=r)
 have AW:=tx hng
 refine fm kr Tryz.func14 U U fun w0 Q hQ hN=>?_
 try dsimp only
 refine WS fun _ Af=>eQ U fun b2=>AL U LH fun b3=>RK Af<|WS fun _ Ag=>rP 1 [] mn ?_
 refine rS (LP (cb.cells (jI r.aF kA kC cA cC bA bC)) 1 U bQ U U U)<|cX (HX r.aF kA kC az cA cC bA bC (by exact p) (by exact AW.1)) (bf [2,3,4,5]) U fun y5 Al=>?_
 obtain ⟨T,V,Au,L,s,K,N⟩:=y5
 try dsimp only
 obtain ⟨Ah,Ai⟩:=Al
 refine bp 1 U<|Pz (eC.cells (eC.mk (cb.mk (bB.mk (bE.mk T r.aF.aH.length V)) r.aF.gY (bE.mk Au r.aF.ah.length L) (bE.mk K r.aF.ab.length N) r.aF.cQ r.aF.eO r.aF.cW) (bE.mk slA r.aT.length slC) (bE.mk drA r.bo.length drC) r.i_ (bE.mk heA r.ay.length heC))) U Nn U U<|RK Ag<|WS fun _ v=>mX U cN U fun AZ=>rP 2 [] (mc 6 U mn) ?_
 refine fp (es:=(List.map iC [])) (C':=[own (some ⟨AZ,0,none⟩) 0 3 1 (List.map iC []),_,_,_,_,_,_,_,_,_,_,_,_,_,_]) 0 U sm U (by simp [maxLen]) U ?_
 refine cG (es2:=(List.map iC r.aT)) (m':=r.aT.length) 0 U U U l0 U U sm (aq 11 U) (gL _) (by simp; omega) (by simp only [maxLen]; simp; omega) sm sm U fun X Y=>?_
 try dsimp only
 refine bp 1 U<|PG (eC.cells (eC.mk (cb.mk (bB.mk (bE.mk T r.aF.aH.length V)) r.aF.gY (bE.mk Au r.aF.ah.length L) (bE.mk K r.aF.ab.length N) r.aF.cQ r.aF.eO r.aF.cW) (bE.mk X r.aT.length Y) (bE.mk drA r.bo.length drC) r.i_ (bE.mk heA r.ay.length heC))) U FW U U<|RK v<|WS fun _ w=>mX U cN U fun Aa=>rP 2 [] (mc 7 U mn) ?_
 refine fp (es:=(List.map iC [])) (C':=[own (some ⟨Aa,0,none⟩) 0 3 1 (List.map iC []),_,_,_,_,_,_,_,_,_,_,_,_,_,_,_]) 0 U sm U (by simp [maxLen]) U ?_
 refine cG (es2:=(List.map iC r.bo)) (m':=r.bo.length) 0 U U U l0 U U sm (aq 13 U) (gL _) (by simp; omega) (by simp only [maxLen]; simp; omega) sm sm U fun g j=>?_
 try dsimp only
 refine bp 1 U<|PD (eC.cells (eC.mk (cb.mk (bB.mk (bE.mk T r.aF.aH.length V)) r.aF.gY (bE.mk Au r.aF.ah.length L) (bE.mk K r.aF.ab.length N) r.aF.cQ r.aF.eO r.aF.cW) (bE.mk X r.aT.length Y) (bE.mk g r.bo.length j) r.i_ (bE.mk heA r.ay.length heC))) U FW U U<|RK w<|WS fun _ AA=>mX U mL U fun Ab=>rP 2 [] (mc 8 U mn) ?_
 refine fp (es:=(List.map sC [])) (C':=[own (some ⟨Ab,0,none⟩) 0 71 1 (List.map sC []),_,_,_,_,_,_,_,_,_,_,_,_,_,_,_,_]) 0 U sm U (by simp [maxLen]) U ?_
 refine cG (es2:=(List.zipWith c_ r.ay ha)) (m':=r.ay.length) 0 U U U Ph U U sm (aq 15 U) (Cy _ _) (by simp; omega) (by simp only [maxLen]; simp; omega) sm (gn G) U fun J M=>?_
 try dsimp only
 refine bp 1 U<|PF (eC.cells (eC.mk (cb.mk (bB.mk (bE.mk T r.aF.aH.length V)) r.aF.gY (bE.mk Au r.aF.ah.length L) (bE.mk K r.aF.ab.length N) r.aF.cQ r.aF.eO r.aF.cW) (bE.mk X r.aT.length Y) (bE.mk g r.bo.length j) r.i_ (bE.mk J r.ay.length M))) U Oy U U<|RK AA<|ai fun _ AB=>WS fun _ AC=>rP 1 [] mn ?_
 refine RK AC<|av<|nU ?_
 have F:(0≤r.ay.length)∧(([]:List dv).length=0)∧(∀ (k:Nat) y (a:dv),r.ay[k]? =some y→([]:List dv)[k]? =some a→a.2.length=y.length):=by exact ⟨Nat.zero_le _,rfl,fun k y a _ q=>by simp at q⟩
 refine bI (ι:={z:Nat×(List dv) // (z.1≤r.ay.length)∧(z.2.length=z.1)∧(∀ (k:Nat) y (a:dv),r.ay[k]? =some y→z.2[k]? =some a→a.2.length=y.length)}) [1,2] [2,3,4,5,6,7,8,9,10,11,12,13,14,15,16,17] U U (fun z=>[(3,(vI (z.1.1:Int)))]) (fun z=>[(bM (aZ tQ (r.ay.take z.1.1) z.1.2)),(own J M 71 1 (List.zipWith c_ r.ay (j9 z.1.2 ha z.1.1)))]) (fun _=>rfl) (fun _=>rfl) (fun z=>r.ay.length-z.1.1) ⟨(0,([]:List dv)),F⟩ (aU U) (aC [2,3,4,5,6,7,8,9,10,11,12,13,14,15,16,17,0,1]) ?_
 clear F
 rintro ⟨⟨h,hz⟩,⟨m,B,S⟩⟩ J28 t
 try dsimp only at m B S
 try dsimp only
 refine ai fun _ AD=>WS fun _ AE=>rP 5 [] (mc 7 U mn) ?_
 refine RK AE<|bH U (aP fun Ad=>?_) (aO fun Ad=>?_)
 ·refine bx<|ae<|ae<|ax<|KK AB<|ai fun _ AM=>?_
  have Aj:Iz r.ay hz:=⟨I,S⟩
  rw [show (j9 hz ha h)=hz from yg I,show r.ay.take h=r.ay from List.take_of_length_le I]
  refine ak<|rP 1 [] (mc 7 U mn) ?_
  refine Hu U LD U<|RK AM<|an ?_
  refine LX hQ (T,V,Au,L,s,K,N,X,Y,g,j,J,M,hz) [2,3,4,5,1,0,17,16] [0] (mc 6 U mn) U (by show List.all _ _=true; simp only [iD,List.all_nil,qK,Gc,Bool.and_true]; rfl) U U ?_
  exact ⟨⟨Ah,Ai⟩,Aj⟩
 refine WK AD<|ai fun _ AF=>av<|ai fun _ AG=>dj bX [3,9,11] [6,7,8] [0,1] [0,1,2,3,4,5,6,7,8,9,10,11,12,13,14,15,16] [0,1,2,3,4,5,6,7,8,9,10,11,12,13,14,15,16,17] U U U U U<|eS U (FA 10 U fq U)<|eS U (L1 (vS J r.ay.length M) 7 U bQ U U)<|eS U (MV U)<|eS U (FA 10 U fq U)<|eS U (L1 (vS J r.ay.length M) 7 U bQ U U)<|eS U (MV U) ?_
 obtain ⟨ht,Av⟩:=aB r.ay h I
 obtain ⟨C,O⟩:=aB ha h I
 have e:(List.zipWith c_ r.ay (j9 hz ha h))[h]? =some (c_ ht C):=db Av (BD B O)
 have AX:=hin.mH _ _ _ Av O
 have H:=AX.mE
 have AY:=AW.2.2.2.2 ht (aI Av)
 refine fS U (IA h U (au (n:=r.ay.length) 17 U (gn (by rw [gz B I]; exact G))) mL dc I I) ?_
 refine fS U (fE h 0 (vS C.1.1 ht.length C.1.2) U bQ (au (n:=r.ay.length) 17 U (gn (by rw [gz B I]; exact G))) e U dc U) ?_
 refine fS U (IA h U (au (n:=r.ay.length) 17 U (gn (by rw [gz B I]; exact G))) mL dc I I) ?_
 refine dW U<|iB U fun T34 AN=>mX U sU U fun Ac=>aA (AN _ _ (aC [1,2,3,4,5,6,7,8,9,10,11,12,13,14,15,16,17]) (aC [1,2,3,4,5,6,7,8,9,10,11,12,13,14,15,16,17,18]) ?_)
 refine iB U fun T36 AO=>fp (es:=(List.map bq.cells [])) (C':=[own (some ⟨Ac,0,none⟩) 0 76 7 (List.map bq.cells []),_,_,_,_,_,_,_,_,_,_,_,_,_,_,_,_,_,_]) 0 U sm U (by simp [maxLen]) U ?_
 refine cG (es2:=(List.zipWith aw.cells ht C.2)) (m':=ht.length) 0 U U U OE U U sm (show fR _ (rd C.1.1 ht.length 7 (List.zipWith aw.cells ht C.2)).holds from (bT 16 U (bk Av O ck))) (IC _ _) (by simp; omega) (by simp only [maxLen]; simp; omega) sm (lp H) U fun D E=>?_
 try dsimp only
 refine aA (AO _ _ (aC [1,2,3,4,5,6,7,8,9,10,11,12,13,14,15,16,17]) (aC [1,2,3,4,5,6,7,8,9,10,11,12,13,14,15,16,17,18]) ?_)
 refine bV U fun T39 AP=>d_ (k:=h) (o:=0) (vs:=[(vS D ht.length E)]) (es':=(List.zipWith c_ r.ay (j9 (hz++[((D,E),C.2)]) ha (h+1)))) (C':=[_,_,_,_,_,_,_,_,_,_,_,_,_,_,_,_,_,_,(own J M 71 1 (List.zipWith c_ r.ay (j9 (hz++[((D,E),C.2)]) ha (h+1))))]) 18 U U U Of U U U U e U dc (by exact zg (b:=((D,E),C.2)) Av B O) U<|aA (AP _ _ (aC [1,2,3,4,5,6,7,8,9,10,11,12,13,14,15,16,17]) ?_)
 refine eU U<|KK AG<|WS fun _ AH=>rP 1 [] mn ?_
 refine RK AH<|av<|nU ?_
 have F:(0≤ht.length)∧(([]:List RA).length=0):=by exact ⟨Nat.zero_le _,rfl⟩
 refine bI (ι:={z:Nat×(List RA) // (z.1≤ht.length)∧(z.2.length=z.1)}) [1,2,3] [2,3,4,5,6,7,8,9,10,11,12,13,14,15,16,17,18,19] U U (fun z=>[(4,(vI (z.1.1:Int)))]) (fun z=>[(bM (aZ z3 (ht.take z.1.1) z.1.2)),(own D E 76 7 (List.zipWith aw.cells ht (j9 z.1.2 C.2 z.1.1)))]) (fun _=>rfl) (fun _=>rfl) (fun z=>ht.length-z.1.1) ⟨(0,([]:List RA)),F⟩ (aU U) (aC [2,3,4,5,6,7,8,9,10,11,12,13,14,15,16,17,18,19,0,1]) ?_
 clear F
 rintro ⟨⟨i,dz⟩,⟨Z,A⟩⟩ J41 u
 try dsimp only at Z A
 try dsimp only
 refine ai fun _ AI=>WS fun _ AJ=>rP 4 [] (mc 7 U mn) ?_
 have W:(List.zipWith c_ r.ay (j9 (hz++[((D,E),C.2)]) ha (h+1)))[h]? =some (c_ ht ((D,E),C.2)):=db Av (Gf B)
 refine rS (IA h U (au (n:=r.ay.length) 17 U (gn (by rw [gz (by simp; omega) I]; exact G))) mL dc I I) ?_
 refine rS (fE h 0 (vS D ht.length E) U bQ (au (n:=r.ay.length) 17 U (gn (by rw [gz (by simp; omega) I]; exact G))) W U dc U) ?_
 refine rP 2 [] mn ?_
 refine RK AJ<|bH U (aP fun Ae=>?_) (aO fun Ae=>?_)
 ·refine bx<|ae<|ae<|ax<|aG<|KK AF<|ak<|rP 3 [] mn ?_
  refine aA ?_
  have Ao:dz.length=ht.length:=by omega
  rw [show (j9 dz C.2 i)=dz from yg I,show ht.take i=ht from List.take_of_length_le I]
  refine Kl (Z':=aZ tQ (r.ay.take (h+1)) (hz++[((D,E),dz)])) 16 18 19 U U (tS (f:=tQ) (b:=((D,E),dz)) Av B) ?_
  rw [F4 (y:=dz)]
  have AT:(vI (((h+1):Nat):Int))=(vI ((h:Int)+1)):=by exact cI I
  refine aS (t ⟨((h+1),(hz++[((D,E),dz)])),⟨I,by simp; omega,H6 Av S B dso⟩⟩ _ _ _ U os (cS.cons U<|cS.cons U<|aV U AT<|cS.nil _) (aC [1,2,3,4,5,6,7,8,9,10,11,12,13,14,15,16,0,17]))
 refine WK AI<|ai fun _ AK=>av<|dj bX [15,18] [12,13,14,15,16] [0] [0,1,2,3,4,5,6,7,8,9,10,11,12,13,14,15,16,17,18] [0,1,2,3,4,5,6,7,8,9,10,11,12,13,14,15,16,17,18,19] U U U U U<|eS U (FA 10 U fq U)<|eS U (L1 (vS J r.ay.length M) 7 U bQ U U)<|eS U (MV U) ?_
 refine eS U (IA h U (au (n:=r.ay.length) 17 U (gn (by rw [gz (by simp; omega) I]; exact G))) mL dc I I) ?_
 refine eS U (fE h 0 (vS D ht.length E) U bQ (au (n:=r.ay.length) 17 U (gn (by rw [gz (by simp; omega) I]; exact G))) W U dc U) ?_
 refine eS U (MV U)<|eS U (FA 10 U fq U)<|eS U (L1 (vS J r.ay.length M) 7 U bQ U U)<|eS U (MV U) ?_
 refine eS U (IA h U (au (n:=r.ay.length) 17 U (gn (by rw [gz (by simp; omega) I]; exact G))) mL dc I I) ?_
 refine eS U (fE h 0 (vS D ht.length E) U bQ (au (n:=r.ay.length) 17 U (gn (by rw [gz (by simp; omega) I]; exact G))) W U dc U) ?_
 refine eS U (MV U) ?_
 obtain ⟨d,hd⟩:=aB ht i I
 obtain ⟨da,l⟩:=aB C.2 i I
 have AV:(List.zipWith aw.cells ht (j9 dz C.2 i))[i]? =some (aw.cells d da):=db hd (BD A l)
 have Ak:=AX.sig d (aI hd)
 have Ap:=AY.2 d (aI hd)
 refine fS U (IA i U (au (n:=ht.length) 19 U (lp (by rw [gz A I]; exact H))) sU dc I I) ?_
 refine fS U (mF ((i*7)+4) U (au (n:=ht.length) 19 U (lp (by rw [gz A I]; exact H))) (Nat.mul_pos I dc) fq U) ?_
 refine fS U (j0 i 4 (dZ.cells (dZ.mk d.bO.Start d.bO.eX (bE.mk da.1 d.bO.ag.length da.2))) U bQ (au (n:=ht.length) 19 U (lp (by rw [gz A I]; exact H))) AV U dc U U) ?_
 refine fS U (IA i U (au (n:=ht.length) 19 U (lp (by rw [gz A I]; exact H))) sU dc I I) ?_
 refine fS U (mF ((i*7)+4) U (au (n:=ht.length) 19 U (lp (by rw [gz A I]; exact H))) (Nat.mul_pos I dc) fq U) ?_
 refine dW U<|iB U fun T46 AQ=>cX (ID d.bO da.1 da.2 (by exact Ak)) (aL (show fR _ (rd da.1 d.bO.ag.length 2 (d.bO.ag.map aD.cells)).holds from (bT 15 U (bk Av O (dq _ (bk hd l (by simp [aw.fB]))))))<|aR) U fun Am As=>?_
 obtain ⟨P,R⟩:=Am
 try dsimp only
 refine aA (AQ _ _ (aC [1,2,3,4,5,6,7,8,9,10,11,12,13,14,15,16,17,18,19]) (aC [1,2,3,4,5,6,7,8,9,10,11,12,13,14,15,16,17,18,19,20]) ?_)
 refine bV U fun T51 AR=>d_ (k:=i) (o:=4) (vs:=(dZ.cells (j1 d.bO P R))) (es':=(List.zipWith aw.cells ht (j9 (dz++[(P,R)]) C.2 (i+1)))) (C':=[_,_,_,_,_,_,_,_,_,_,_,_,_,_,_,_,_,_,_,_,(own D E 76 7 (List.zipWith aw.cells ht (j9 (dz++[(P,R)]) C.2 (i+1))))]) 20 U U U LK U U U U AV U dc (by exact zg (c:=aw.cells) (b:=(P,R)) hd A l) U<|aA (AR _ _ (aC [1,2,3,4,5,6,7,8,9,10,11,12,13,14,15,16,17,18,19]) ?_)
 refine eU U<|aG<|KK AK<|ak<|rP 3 [] mn ?_
 refine aA<|Kx (Y':=aZ z3 (ht.take (i+1)) (dz++[(P,R)])) 19 0 U U (tS (f:=z3) (b:=(P,R)) hd A) ?_
 have AS:(vI (((i+1):Nat):Int))=(vI ((i:Int)+1)):=by exact cI I
 refine aS (u ⟨((i+1),(dz++[(P,R)])),⟨I,by simp; omega⟩⟩ _ _ _ U os (cE 3<|aV U AS<|cS.nil _) (aC [1,2,3,4,5,6,7,8,9,10,11,12,13,14,15,16,17,18,0,19]))
end
section
open Go.RowKit
theorem H4 (l:aQ) (kA:OA) (kC:Nat) (az:List RA) (cA:OA) (cC:Nat) (bA:OA) (bC:Nat) (m:aQ) (k2A:OA) (k2C:Nat) (az2:List RA) (c2A:OA) (c2C:Nat) (b2A:OA) (b2C:Nat) (hin:dF l az) (hin2:dF m az2) (hsm: ¬ jv l) (hsm2: ¬ jv m):
 dL Tryz.prog 52 [(vA (cb.cells (jI l kA kC cA cC bA bC))),(vA (cb.cells (cb.mk (bB.mk (bE.mk k2A m.aH.length k2C)) m.gY (bE.mk c2A m.ah.length c2C) (bE.mk b2A m.ab.length b2C) m.cQ m.eO m.cW)))] [(rd kA l.aH.length 9 (l.aH.map aj.cells)),(rd cA l.ah.length 2 (List.zipWith al.cells l.ah az)),(eg (aZ al.fB l.ah az)),(rd bA l.ab.length 4 (l.ab.map bL.cells)),(rd k2A m.aH.length 9 (m.aH.map aj.cells)),(rd c2A m.ah.length 2 (List.zipWith al.cells m.ah az2)),(eg (aZ al.fB m.ah az2)),(rd b2A m.ab.length 4 (m.ab.map bL.cells))] (vB (decide (l=m))):=by
 have A0:=hin.pO
 have Az:=hin.pJ
 have Ax:=hin.mE
 have Ay:=hin.pQ
 have Au:=hin2.pO
 have At:=hin2.pJ
 have Ar:=hin2.mE
 have As:=hin2.pQ
 have AS:=qI hsm
 have j:=qI hsm2
 refine bu kr Tryz.func52 U U fun w0 Q hQ hN=>?_
 try dsimp only
 refine WS fun _ Ae=>eQ U fun b2=>eQ U fun b3=>bp 1 U<|RK Ae<|ai fun _ Af=>WS fun _ Aw=>bp 1 U<|rS (LP (bB.cells (bB.mk (bE.mk kA l.aH.length kC))) 1 U bQ U U U)<|rP 1 [] mn ?_
 refine rS (LP (bB.cells (bB.mk (bE.mk k2A m.aH.length k2C))) 0 U bQ U U U) ?_
 refine rS (CL (JE l.aH kA kC m.aH k2A k2C sd sd) (bf [2,6]) U) ?_
 refine rP 2 [] mn ?_
 refine cr (t:=16) U (aW fun C=>?_) (aX fun C=>?_)
 ·refine bp 45 U<|RK Aw<|aJ U<|WS fun _ Ag=>rP 1 [] mn ?_
  refine RK Ag<|an<|Q1 hQ U U U ?_
  first|exact cB (bw (fun e=>by subst e; first|exact C rfl|omega)).symm|exact cB (bw (fun e=>by subst e; rw [hp] at hq; cases hq; exact E rfl)).symm|exact cB (bw (fun e=>by subst e; rw [hx] at hy; cases hy; first|(rw [hz] at hu; cases hu; exact D rfl)|omega)).symm|exact cB (dw (fH C I I I I (b_ I B I) (b_ I A I))).symm
 refine rP 7 [0,1] (mc 1 U (mc 0 U mn)) ?_
 refine cr (t:=23) U (aW fun AX=>?_) (aX fun AX=>?_)
 ·refine bp 38 U<|RK Aw<|aJ U<|WS fun _ Ah=>rP 1 [] mn ?_
  refine RK Ah<|an<|Q1 hQ U U U ?_
  first|exact cB (bw (fun e=>by subst e; first|exact C rfl|omega)).symm|exact cB (bw (fun e=>by subst e; rw [hp] at hq; cases hq; exact E rfl)).symm|exact cB (bw (fun e=>by subst e; rw [hx] at hy; cases hy; first|(rw [hz] at hu; cases hu; exact D rfl)|omega)).symm|exact cB (dw (fH C I I I I (b_ I B I) (b_ I A I))).symm
 refine rP 7 [0,1] (mc 1 U (mc 0 U mn)) ?_
 refine cr (t:=30) U (aW fun AY=>?_) (aX fun AY=>?_)
 ·refine bp 31 U<|RK Aw<|aJ U<|WS fun _ Ai=>rP 1 [] mn ?_
  refine RK Ai<|an<|Q1 hQ U U U ?_
  first|exact cB (bw (fun e=>by subst e; first|exact C rfl|omega)).symm|exact cB (bw (fun e=>by subst e; rw [hp] at hq; cases hq; exact E rfl)).symm|exact cB (bw (fun e=>by subst e; rw [hx] at hy; cases hy; first|(rw [hz] at hu; cases hu; exact D rfl)|omega)).symm|exact cB (dw (fH C I I I I (b_ I B I) (b_ I A I))).symm
 refine rP 7 [0,1] (mc 1 U (mc 0 U mn)) ?_
 refine cr (t:=37) U (aW fun AZ=>?_) (aX fun AZ=>?_)
 ·refine bp 24 U<|RK Aw<|aJ U<|WS fun _ Aj=>rP 1 [] mn ?_
  refine RK Aj<|an<|Q1 hQ U U U ?_
  first|exact cB (bw (fun e=>by subst e; first|exact C rfl|omega)).symm|exact cB (bw (fun e=>by subst e; rw [hp] at hq; cases hq; exact E rfl)).symm|exact cB (bw (fun e=>by subst e; rw [hx] at hy; cases hy; first|(rw [hz] at hu; cases hu; exact D rfl)|omega)).symm|exact cB (dw (fH C I I I I (b_ I B I) (b_ I A I))).symm
 refine rP 7 [0,1] (mc 1 U (mc 0 U mn)) ?_
 refine cr (t:=44) U (aW fun Aa=>?_) (aX fun Aa=>?_)
 ·refine bp 17 U<|RK Aw<|aJ U<|WS fun _ AB=>rP 1 [] mn ?_
  refine RK AB<|an<|Q1 hQ U U U ?_
  first|exact cB (bw (fun e=>by subst e; first|exact C rfl|omega)).symm|exact cB (bw (fun e=>by subst e; rw [hp] at hq; cases hq; exact E rfl)).symm|exact cB (bw (fun e=>by subst e; rw [hx] at hy; cases hy; first|(rw [hz] at hu; cases hu; exact D rfl)|omega)).symm|exact cB (dw (fH C I I I I (b_ I B I) (b_ I A I))).symm
 refine rP 9 [0,1] (mc 1 U (mc 0 U mn)) ?_
 refine cr (t:=53) U (aW fun Ac=>?_) (aX fun Ac=>?_)
 ·refine bp 8 U<|RK Aw<|aJ U<|WS fun _ AC=>rP 1 [] mn ?_
  refine RK AC<|an<|Q1 hQ U U U ?_
  first|exact cB (bw (fun e=>by subst e; first|exact C rfl|omega)).symm|exact cB (bw (fun e=>by subst e; rw [hp] at hq; cases hq; exact E rfl)).symm|exact cB (bw (fun e=>by subst e; rw [hx] at hy; cases hy; first|(rw [hz] at hu; cases hu; exact D rfl)|omega)).symm|exact cB (dw (fH C I I I I (b_ I B I) (b_ I A I))).symm
 refine rP 8 [0,1] (mc 1 U (mc 0 U mn)) ?_
 refine RK Aw<|cw U (aW fun Ad=>?_) (aX fun Ad=>?_)
 ·refine WS fun _ AD=>rP 1 [] mn ?_
  refine RK AD<|an<|Q1 hQ U U U ?_
  first|exact cB (bw (fun e=>by subst e; first|exact C rfl|omega)).symm|exact cB (bw (fun e=>by subst e; rw [hp] at hq; cases hq; exact E rfl)).symm|exact cB (bw (fun e=>by subst e; rw [hx] at hy; cases hy; first|(rw [hz] at hu; cases hu; exact D rfl)|omega)).symm|exact cB (dw (fH C I I I I (b_ I B I) (b_ I A I))).symm
 refine WK Af<|ai fun _ AE=>WS fun _ AF=>rP 1 [] mn ?_
 refine RK AF<|av ?_
 have F:(0≤l.ah.length)∧(l.ah.take 0=m.ah.take 0):=by simp
 refine bI (ι:={z:Nat // (z≤l.ah.length)∧(l.ah.take z=m.ah.take z)}) [2,3] [0,1,2,3,4,5,6,7,8,9] U U (fun z=>[(5,(vI (z.1:Int)))]) (fun z=>[]) (fun _=>rfl) (fun _=>rfl) (fun z=>l.ah.length-z.1) ⟨0,F⟩ (aU U) (aC [0,1,2,3,4,5,6,7,8,9]) ?_
 clear F
 rintro ⟨i,⟨Ak,B⟩⟩ J15 d
 try dsimp only
 refine ai fun _ AG=>WS fun _ AH=>rP 5 [] (mc 1 U mn) ?_
 refine RK AH<|bH U (aP fun AW=>?_) (aO fun AW=>?_)
 ·refine bx<|ae<|ae<|ax<|KK AE<|ai fun _ AI=>WS fun _ AJ=>rP 1 [] mn ?_
  refine RK AJ<|av ?_
  have F:(0≤l.ab.length)∧(l.ab.take 0=m.ab.take 0):=by simp
  refine bI (ι:={z:Nat // (z≤l.ab.length)∧(l.ab.take z=m.ab.take z)}) [2,3] [0,1,2,3,4,5,6,7,8,9] U U (fun z=>[(9,(vI (z.1:Int)))]) (fun z=>[]) (fun _=>rfl) (fun _=>rfl) (fun z=>l.ab.length-z.1) ⟨0,F⟩ (aU U) (aC [0,1,2,3,4,5,6,7,8,9]) ?_
  clear F
  rintro ⟨n,⟨AT,A⟩⟩ J43 AA
  try dsimp only
  refine ai fun _ AK=>WS fun _ AM=>rP 5 [] (mc 1 U mn) ?_
  refine RK AM<|bH U (aP fun Ab=>?_) (aO fun Ab=>?_)
  ·refine bx<|ae<|ae<|ax<|KK AI<|WS fun _ AQ=>rP 1 [] mn ?_
   refine RK AQ<|an<|Q1 hQ U U U ?_
   first|exact cB (bw (fun e=>by subst e; first|exact C rfl|omega)).symm|exact cB (bw (fun e=>by subst e; rw [hp] at hq; cases hq; exact E rfl)).symm|exact cB (bw (fun e=>by subst e; rw [hx] at hy; cases hy; first|(rw [hz] at hu; cases hu; exact D rfl)|omega)).symm|exact cB (dw (fH C I I I I (b_ I B I) (b_ I A I))).symm
  refine WK AK<|ai fun _ AN=>av<|ai fun _ AO=>cU bX 11 kr<|dP 3 [] (mc 1 U mn) ?_
  obtain ⟨p,hp⟩:=aB l.ab n I
  have Al:=br bL.cells hp
  refine dS (IA n U (aq 5 U) rO dc I I)<|dS (j0 n 0 (bL.cells p) U bQ (aq 5 U) Al U dc U U)<|dP 3 [] (mc 0 U mn) ?_
  obtain ⟨q,hq⟩:=aB m.ab n I
  have Am:=br bL.cells hq
  refine dS (IA n U (aq 9 U) rO dc I I)<|dS (j0 n 0 (bL.cells q) U bQ (aq 9 U) Am U dc U U)<|dS (BI U (KN _ _ p q))<|cv<|RK AO<|bH U (aX fun E=>?_) (aW fun E=>?_)
  ·refine cy<|aG<|KK AN<|ak<|rP 3 [] mn ?_
   refine aA ?_
   have AR:(vI (((n+1):Nat):Int))=(vI ((n:Int)+1)):=by exact cI I
   refine aS (AA ⟨(n+1),⟨I,ir A hp hq E⟩⟩ _ _ _ U os (cS.cons U<|cS.cons U<|aV U AR<|cS.nil _) (aC [0,1,2,3,4,5,6,7,8,9]))
  refine WS fun _ AP=>rP 1 [] mn ?_
  refine RK AP<|an<|Q1 hQ U U U ?_
  first|exact cB (bw (fun e=>by subst e; first|exact C rfl|omega)).symm|exact cB (bw (fun e=>by subst e; rw [hp] at hq; cases hq; exact E rfl)).symm|exact cB (bw (fun e=>by subst e; rw [hx] at hy; cases hy; first|(rw [hz] at hu; cases hu; exact D rfl)|omega)).symm|exact cB (dw (fH C I I I I (b_ I B I) (b_ I A I))).symm
 refine WK AG<|ai fun _ f=>av<|ai fun _ g=>kS bX [0,1,2,3,4,5,6,7,8,9] [10,11,12,13] [false,false,false,false,false,false,false,false,false,false] [] [(cd b3 28 (cb.cells (cb.mk (bB.mk (bE.mk k2A m.aH.length k2C)) m.gY (bE.mk c2A m.ah.length c2C) (bE.mk b2A m.ab.length b2C) m.cQ m.eO m.cW))),(cd b2 28 (cb.cells (jI l kA kC cA cC bA bC))),(rd kA l.aH.length 9 (l.aH.map aj.cells)).ro,(rd cA l.ah.length 2 (List.zipWith al.cells l.ah az)).ro,(eg (aZ al.fB l.ah az)).ro,(rd bA l.ab.length 4 (l.ab.map bL.cells)).ro,(rd k2A m.aH.length 9 (m.aH.map aj.cells)).ro,(rd c2A m.ah.length 2 (List.zipWith al.cells m.ah az2)).ro,(eg (aZ al.fB m.ah az2)).ro,(rd b2A m.ab.length 4 (m.ab.map bL.cells)).ro] [] kr (aC [0,1,2,3,4,5,6,7,8,9]) (aC [])<|eS U (FA 2 U fq U)<|eS U (L1 (vS cA l.ah.length cC) 1 U bQ U U)<|eS U (MV U) ?_
 obtain ⟨x,hx⟩:=aB l.ah i I
 obtain ⟨xa,a⟩:=aB az i I
 have Ao:(List.zipWith al.cells l.ah az)[i]? =some (al.cells x xa):=db hx a
 refine eS U (IA i U (aq 3 U) vw dc I I)<|eS U (j0 i 0 (cT.cells (cT.mk x.cJ (bE.mk xa.1 x.aK.length xa.2))) U bQ (aq 3 U) Ao U dc U U)<|eS U (FA 2 U fq U)<|eS U (L1 (vS c2A m.ah.length c2C) 0 U bQ U U)<|eS U (MV U) ?_
 obtain ⟨y,hy⟩:=aB m.ah i I
 obtain ⟨ya,b⟩:=aB az2 i I
 have Aq:(List.zipWith al.cells m.ah az2)[i]? =some (al.cells y ya):=db hy b
 refine eS U (IA i U (aq 7 U) vw dc I I)<|eS U (j0 i 0 (cT.cells (cT.mk y.cJ (bE.mk ya.1 y.aK.length ya.2))) U bQ (aq 7 U) Aq U dc U U)<|dW U<|mD [10,11] kr (g_ ?_<|g_ ?_<|pP)
 rotate_left 1
 ·refine NO U U [10,12,13] fun T21 Av=>AL U wD fun AU=>RD Av 1 U<|N1 10<|NO U U [12,13] fun T23 V=>AL U wD fun AV=>RD V 2 U<|N1 12<|NO U U [13] fun T25 W=>fg U vY U<|RD W 2 U<|N1 13<|NO U U [] fun T26 X=>qf U vY U<|RD X 2 U<|mm<|KK g<|ai fun _ K=>WS fun _ H=>rP 6 [0,1] (mc 0 U (mc 1 U mn)) ?_
  refine cr (t:=84) U (aW fun r=>?_) (aX fun r=>?_)
  ·refine bp 8 U<|RK H<|aJ U<|WS fun _ L=>rP 1 [] mn ?_
   refine RK L<|an<|Q1 hQ U U U ?_
   first|exact cB (bw (fun e=>by subst e; first|exact C rfl|omega)).symm|exact cB (bw (fun e=>by subst e; rw [hp] at hq; cases hq; exact E rfl)).symm|exact cB (bw (fun e=>by subst e; rw [hx] at hy; cases hy; first|(rw [hz] at hu; cases hu; exact D rfl)|omega)).symm|exact cB (dw (fH C I I I I (b_ I B I) (b_ I A I))).symm
  refine rP 8 [0,1] (mc 0 U (mc 1 U mn)) ?_
  refine RK H<|cw U (aW fun s=>?_) (aX fun s=>?_)
  ·refine WS fun _ M=>rP 1 [] mn ?_
   refine RK M<|an<|Q1 hQ U U U ?_
   first|exact cB (bw (fun e=>by subst e; first|exact C rfl|omega)).symm|exact cB (bw (fun e=>by subst e; rw [hp] at hq; cases hq; exact E rfl)).symm|exact cB (bw (fun e=>by subst e; rw [hx] at hy; cases hy; first|(rw [hz] at hu; cases hu; exact D rfl)|omega)).symm|exact cB (dw (fH C I I I I (b_ I B I) (b_ I A I))).symm
  refine WK K<|WS fun _ N=>rP 1 [] mn ?_
  refine RK N<|av ?_
  have F:(0≤x.aK.length)∧(x.aK.take 0=y.aK.take 0):=by simp
  refine bI (ι:={z:Nat // (z≤x.aK.length)∧(x.aK.take z=y.aK.take z)}) [2,3,5,6,7] [0,1,2,3,4,5,6,7,8,9,10,11] U U (fun z=>[(8,(vI (z.1:Int)))]) (fun z=>[]) (fun _=>rfl) (fun _=>rfl) (fun z=>x.aK.length-z.1) ⟨0,F⟩ (aU U) (aC [0,1,2,3,4,5,6,7,8,9,10,11]) ?_
  clear F
  rintro ⟨k,⟨c,G⟩⟩ J32 J
  try dsimp only
  have An:=AS.2.2.2 x (aI hx)
  have Ap:=j.2.2.2 y (aI hy)
  refine ai fun _ O=>WS fun _ P=>rP 5 [] (mc 0 U mn) ?_
  refine RK P<|bH U (aP fun o=>?_) (aO fun o=>?_)
  ·refine bx<|ae<|ae<|ax<|aG<|KK f<|ak<|rP 3 [] mn ?_
   refine aA ?_
   have Z:(vI (((i+1):Nat):Int))=(vI ((i:Int)+1)):=by exact cI I
   refine aS (d ⟨(i+1),⟨I,ir B hx hy (ve I I I G)⟩⟩ _ _ _ U os (cS.cons U<|cS.cons U<|aV U Z<|cS.nil _) (aC [2,3,4,5,6,7,8,9,10,11]))
  refine WK O<|ai fun _ R=>av<|ai fun _ S=>cU bX 11 kr<|dP 3 [] (mc 0 U mn) ?_
  obtain ⟨z,hz⟩:=aB x.aK k I
  have w:=br bY.cells hz
  refine dS (IA k U (show fR _ (rd xa.1 x.aK.length 3 (x.aK.map bY.cells)).holds from (bT 6 U (bk hx a (by simp [al.fB])))) ml dc I I)<|dS (j0 k 0 (bY.cells z) U bQ (show fR _ (rd xa.1 x.aK.length 3 (x.aK.map bY.cells)).holds from (bT 6 U (bk hx a (by simp [al.fB])))) w U dc U U)<|dP 3 [] (mc 1 U mn) ?_
  obtain ⟨u,hu⟩:=aB y.aK k I
  have v:=br bY.cells hu
  refine dS (IA k U (show fR _ (rd ya.1 y.aK.length 3 (y.aK.map bY.cells)).holds from (bT 10 U (bk hy b (by simp [al.fB])))) ml dc I I)<|dS (j0 k 0 (bY.cells u) U bQ (show fR _ (rd ya.1 y.aK.length 3 (y.aK.map bY.cells)).holds from (bT 10 U (bk hy b (by simp [al.fB])))) v U dc U U)<|dS (BI U (Gj _ _ z u))<|cv<|RK S<|bH U (aX fun D=>?_) (aW fun D=>?_)
  ·refine cy<|aG<|KK R<|ak<|rP 3 [] mn ?_
   refine aA ?_
   have Y:(vI (((k+1):Nat):Int))=(vI ((k:Int)+1)):=by exact cI I
   refine aS (J ⟨(k+1),⟨I,ir G hz hu D⟩⟩ _ _ _ U os (cE 5<|aV U Y<|cS.nil _) (aC [0,1,2,3,4,5,6,7,8,9,10,11]))
  refine WS fun _ T=>rP 1 [] mn ?_
  refine RK T<|an<|Q1 hQ U U U ?_
  first|exact cB (bw (fun e=>by subst e; first|exact C rfl|omega)).symm|exact cB (bw (fun e=>by subst e; rw [hp] at hq; cases hq; exact E rfl)).symm|exact cB (bw (fun e=>by subst e; rw [hx] at hy; cases hy; first|(rw [hz] at hu; cases hu; exact D rfl)|omega)).symm|exact cB (dw (fH C I I I I (b_ I B I) (b_ I A I))).symm
 refine NO U U [11,12,13] fun T21 Av=>AL U wD fun AU=>RD Av 1 U<|N1 11<|NO U U [12,13] fun T23 V=>AL U wD fun AV=>RD V 2 U<|N1 12<|NO U U [13] fun T25 W=>qf U vY U<|RD W 2 U<|N1 13<|NO U U [] fun T26 X=>fg U vY U<|RD X 2 U<|mm<|KK g<|ai fun _ K=>WS fun _ H=>rP 6 [0,1] (mc 1 U (mc 0 U mn)) ?_
 refine cr (t:=84) U (aW fun r=>?_) (aX fun r=>?_)
 ·refine bp 8 U<|RK H<|aJ U<|WS fun _ L=>rP 1 [] mn ?_
  refine RK L<|an<|Q1 hQ U U U ?_
  first|exact cB (bw (fun e=>by subst e; first|exact C rfl|omega)).symm|exact cB (bw (fun e=>by subst e; rw [hp] at hq; cases hq; exact E rfl)).symm|exact cB (bw (fun e=>by subst e; rw [hx] at hy; cases hy; first|(rw [hz] at hu; cases hu; exact D rfl)|omega)).symm|exact cB (dw (fH C I I I I (b_ I B I) (b_ I A I))).symm
 refine rP 8 [0,1] (mc 1 U (mc 0 U mn)) ?_
 refine RK H<|cw U (aW fun s=>?_) (aX fun s=>?_)
 ·refine WS fun _ M=>rP 1 [] mn ?_
  refine RK M<|an<|Q1 hQ U U U ?_
  first|exact cB (bw (fun e=>by subst e; first|exact C rfl|omega)).symm|exact cB (bw (fun e=>by subst e; rw [hp] at hq; cases hq; exact E rfl)).symm|exact cB (bw (fun e=>by subst e; rw [hx] at hy; cases hy; first|(rw [hz] at hu; cases hu; exact D rfl)|omega)).symm|exact cB (dw (fH C I I I I (b_ I B I) (b_ I A I))).symm
 refine WK K<|WS fun _ N=>rP 1 [] mn ?_
 refine RK N<|av ?_
 have F:(0≤x.aK.length)∧(x.aK.take 0=y.aK.take 0):=by simp
 refine bI (ι:={z:Nat // (z≤x.aK.length)∧(x.aK.take z=y.aK.take z)}) [2,3,5,6,7] [0,1,2,3,4,5,6,7,8,9,10,11] U U (fun z=>[(8,(vI (z.1:Int)))]) (fun z=>[]) (fun _=>rfl) (fun _=>rfl) (fun z=>x.aK.length-z.1) ⟨0,F⟩ (aU U) (aC [0,1,2,3,4,5,6,7,8,9,10,11]) ?_
 clear F
 rintro ⟨k,⟨c,G⟩⟩ J32 J
 try dsimp only
 have An:=AS.2.2.2 x (aI hx)
 have Ap:=j.2.2.2 y (aI hy)
 refine ai fun _ O=>WS fun _ P=>rP 5 [] (mc 1 U mn) ?_
 refine RK P<|bH U (aP fun o=>?_) (aO fun o=>?_)
 ·refine bx<|ae<|ae<|ax<|aG<|KK f<|ak<|rP 3 [] mn ?_
  refine aA ?_
  have Z:(vI (((i+1):Nat):Int))=(vI ((i:Int)+1)):=by exact cI I
  refine aS (d ⟨(i+1),⟨I,ir B hx hy (ve I I I G)⟩⟩ _ _ _ U os (cS.cons U<|cS.cons U<|aV U Z<|cS.nil _) (aC [2,3,4,5,6,7,8,9,10,11]))
 refine WK O<|ai fun _ R=>av<|ai fun _ S=>cU bX 11 kr<|dP 3 [] (mc 1 U mn) ?_
 obtain ⟨z,hz⟩:=aB x.aK k I
 have w:=br bY.cells hz
 refine dS (IA k U (show fR _ (rd xa.1 x.aK.length 3 (x.aK.map bY.cells)).holds from (bT 6 U (bk hx a (by simp [al.fB])))) ml dc I I)<|dS (j0 k 0 (bY.cells z) U bQ (show fR _ (rd xa.1 x.aK.length 3 (x.aK.map bY.cells)).holds from (bT 6 U (bk hx a (by simp [al.fB])))) w U dc U U)<|dP 3 [] (mc 0 U mn) ?_
 obtain ⟨u,hu⟩:=aB y.aK k I
 have v:=br bY.cells hu
 refine dS (IA k U (show fR _ (rd ya.1 y.aK.length 3 (y.aK.map bY.cells)).holds from (bT 10 U (bk hy b (by simp [al.fB])))) ml dc I I)<|dS (j0 k 0 (bY.cells u) U bQ (show fR _ (rd ya.1 y.aK.length 3 (y.aK.map bY.cells)).holds from (bT 10 U (bk hy b (by simp [al.fB])))) v U dc U U)<|dS (BI U (Gj _ _ z u))<|cv<|RK S<|bH U (aX fun D=>?_) (aW fun D=>?_)
 ·refine cy<|aG<|KK R<|ak<|rP 3 [] mn ?_
  refine aA ?_
  have Y:(vI (((k+1):Nat):Int))=(vI ((k:Int)+1)):=by exact cI I
  refine aS (J ⟨(k+1),⟨I,ir G hz hu D⟩⟩ _ _ _ U os (cE 5<|aV U Y<|cS.nil _) (aC [0,1,2,3,4,5,6,7,8,9,10,11]))
 refine WS fun _ T=>rP 1 [] mn ?_
 refine RK T<|an<|Q1 hQ U U U ?_
 first|exact cB (bw (fun e=>by subst e; first|exact C rfl|omega)).symm|exact cB (bw (fun e=>by subst e; rw [hp] at hq; cases hq; exact E rfl)).symm|exact cB (bw (fun e=>by subst e; rw [hx] at hy; cases hy; first|(rw [hz] at hu; cases hu; exact D rfl)|omega)).symm|exact cB (dw (fH C I I I I (b_ I B I) (b_ I A I))).symm
end
section
/-- where a sled may be after k beams more -/
def eW (w:bJ):Nat→Nat→ar×Int→List (ar×Int)
 |0,_,p=>[p]
 |k+1,b,p=>(gr w b).flatMap fun o=>match jB w b p o with
  |some q=>eW w k (b+1) q
  |none=>[]
variable {w:bJ}
theorem gk {k b:Nat} {p q:ar×Int}:q∈eW w (k+1) b p↔ ∃ o∈gr w b,∃ p',jB w b p o=some p'∧q∈eW w k (b+1) p':=by
 simp only [eW,List.mem_flatMap]
 constructor
 ·rintro ⟨o,ho,h⟩
  cases e:jB w b p o with
  |none=>rw [e] at h; cases h
  |some p'=>rw [e] at h; exact ⟨o,ho,p',e,h⟩
 ·rintro ⟨o,ho,p',e,h⟩
  exact ⟨o,ho,by rw [e]; exact h⟩
theorem pw: ∀ (k b:Nat) (q:ar×Int),q∈fwd w (b+k)↔ ∃ p∈fwd w b,q∈eW w k b p:=by
 intro k
 induction k with
 |zero=>
  intro b q
  simp only [Nat.add_zero,eW,cu]
  exact ⟨fun h=>⟨q,h,rfl⟩,fun ⟨p,hp,e⟩=>e▸hp⟩
 |succ k ih=>
  intro b q
  rw [show b+(k+1)=(b+1)+k by omega,ih]
  constructor
  ·rintro ⟨p',hp',h⟩
   obtain ⟨p,hp,o,ho,e⟩:=eT.1 hp'
   exact ⟨p,hp,gk.2 ⟨o,ho,p',e,h⟩⟩
  ·rintro ⟨p,hp,h⟩
   obtain ⟨o,ho,p',e,h'⟩:=gk.1 h
   exact ⟨p',eT.2 ⟨p,hp,o,ho,e⟩,h'⟩
theorem fI {b:Nat} {p q:ar×Int} {o:Int×aa}:jB w b p o=some q↔max (p.2+bK w b) o.2.Lo≤min o.2.Hi w.eX∧q=(cP p.1 (ej o.1),max (p.2+bK w b) o.2.Lo):=by
 unfold jB
 split
 ·rename_i h
  constructor
  ·intro e; cases e; exact ⟨h,rfl⟩
  ·rintro ⟨_,rfl⟩; rfl
 ·rename_i h
  constructor
  ·intro e; cases e
  ·rintro ⟨h',_⟩; exact absurd h' h
theorem rV {b:Nat} {p q:ar×Int} {o:Int×aa}:lY w b p o=some q↔o.2.Lo≤min p.2 o.2.Hi∧q=(cP p.1 (ej o.1),min p.2 o.2.Hi-bK w b):=by
 unfold lY
 split
 ·rename_i h
  constructor
  ·intro e; cases e; exact ⟨h,rfl⟩
  ·rintro ⟨_,rfl⟩; rfl
 ·rename_i h
  constructor
  ·intro e; cases e
  ·rintro ⟨h',_⟩; exact absurd h' h
theorem CP {b:Nat} (hb:b≤w.n):((⟨0,0⟩:ar),w.eX)∈back w b:=by
 rcases Nat.lt_or_ge b w.n with h|h
 ·exact (nk h).2 (.inl U)
 ·rw [rJ h]; simp
theorem lf (t:ar):cP t ⟨0,0⟩=t:=by cases t; simp [cP]
theorem we (a o u:ar):cP (cP a o) u=cP a (cP u o):=by simp only [cP,ar.mk.injEq]; omega
theorem Ct (hl: ∀ b,0≤bK w b): ∀ (k:Nat) (u:ar×Int),u∈bwd w k→u.2≤w.eX:=by
 intro k
 induction k with
 |zero=>intro u hu; simp only [bwd,cu] at hu; subst hu; exact Int.le_refl _
 |succ k ih=>
  intro u hu
  simp only [bwd,g8,List.mem_flatMap,List.mem_filterMap] at hu
  rcases hu with rfl|⟨p,hp,o,ho,e⟩
  ·exact Int.le_refl _
  ·obtain ⟨_,rfl⟩:=rV.1 e
   have:=ih p hp
   have:=hl (w.n-(k+1))
   simp only; omega
/-- what follows a passing is told by the way back -/
theorem HW: ∀ (k b:Nat) (p q:ar×Int),b+k≤w.n→p.2≤w.eX→q∈eW w k b p→ ∃ u∈back w b,p.2≤u.2∧q.1=cP p.1 u.1:=by
 intro k
 induction k with
 |zero=>
  intro b p q hb hp hq
  simp only [eW,cu] at hq
  subst hq
  exact ⟨_,CP I,hp,(lf _).symm⟩
 |succ k ih=>
  intro b p q hb hp hq
  obtain ⟨o,ho,p',e,h⟩:=gk.1 hq
  obtain ⟨C,rfl⟩:=fI.1 e
  obtain ⟨u',hu',B,A⟩:=ih (b+1) _ q I (by simp only; omega) h
  simp only at B A
  refine ⟨(cP u'.1 (ej o.1),min u'.2 o.2.Hi-bK w b),(nk I).2 (.inr ⟨u',hu',o,ho,rV.2 ⟨I,U⟩⟩),by simp only; omega,?_⟩
  rw [A,we]
theorem GR (hl: ∀ b,0≤bK w b): ∀ (d b:Nat) (p u:ar×Int),w.n=b+d→p.2≤u.2→u∈back w b→ ∃ k,b+k≤w.n∧ ∃ q∈eW w k b p,q.1=cP p.1 u.1:=by
 intro d
 induction d with
 |zero=>
  intro b p u hd hp hu
  rw [rJ I] at hu
  simp only [cu] at hu
  subst hu
  exact ⟨0,I,p,by simp [eW],(lf _).symm⟩
 |succ d ih=>
  intro b p u hd hp hu
  rcases (nk I).1 hu with rfl|⟨u',hu',o,ho,e⟩
  ·exact ⟨0,I,p,by simp [eW],(lf _).symm⟩
  ·obtain ⟨B,rfl⟩:=rV.1 e
   have hn:u'.2≤w.eX:=Ct hl _ _ hu'
   simp only at hp
   obtain ⟨k,hk,q,hq,A⟩:=ih (b+1) (cP p.1 (ej o.1),max (p.2+bK w b) o.2.Lo) u' I (by simp only; omega) hu'
   refine ⟨k+1,I,q,gk.2 ⟨o,ho,_,fI.2 ⟨I,U⟩,hq⟩,?_⟩
   rw [A]; simp only; rw [we]
end
section
section
variable {l:aQ} {r:cf} {one at_:Int} {d:Nat} {f g m:Int} {rec:Int→Int→Int→Bool} {i:Int}
end
theorem ow {l:aQ} {r:cf} {d:Nat} (hd:d<l.ab.length) {o:Int×aa}:o∈gr (bZ l r) d↔o=(-1,⟨r.Start,r.eX⟩)∨ ∃ k,k<r.ag.length∧ ∃ s,r.ag[k]? =some s∧(s.e7=(d:Int)∧(cD l s).Lo≤(cD l s).Hi)∧o=((k:Int),cD l s):=by
 unfold gr qP
 show o∈(-1,(⟨r.Start,r.eX⟩:aa))::((dB l r.ag r.ag.length)[d]?).getD []↔_
 rw [mO hd,Option.getD_some,g8,pR]
theorem nM {l:aQ} {r:cf} {d:Nat} (hd:d<l.ab.length):bK (bZ l r) d=dp l d:=by rw [wi,if_pos hd]
theorem rI {l:aQ} {n d:Nat} {y:Int} (h:(cq l n)[d]? =some y):y=dp l d:=by
 unfold cq at h
 rw [eG] at h
 have hd:d<n:=by
  rcases Nat.lt_or_ge d n with q|q
  ·exact q
  ·rw [List.getElem?_eq_none (by simpa using q)] at h; cases h
 rw [List.getElem?_range hd] at h
 exact (Option.some.inj h).symm
end
section
def KX (w:bJ) (b:Nat) (i:Int):Prop:= ∃ b',b'<b∧ ∃ q∈kP w b',q.1=i
noncomputable instance (w:bJ) (b:Nat) (i:Int):Decidable (KX w b i):=Classical.propDecidable _
def s9 (w:bJ) (b:Nat):Bool:=(kP w b).any fun q=>decide (0≤q.1)
def wP (w:bJ) (k:Nat):List Int:=((List.range k).filter fun b=> !s9 w b).map fun (b:Nat)=>(b:Int)
noncomputable def tv (l:aQ) (r:cf):List Int:=if dM l r 0=0 then wP (bZ l r) (vx (kD l r)).toNat else []
theorem vq {l:aQ} {r:cf} (h:dM l r 0=0):tv l r=wP (bZ l r) (vx (kD l r)).toNat:=if_pos h
theorem uk {l:aQ} {r:cf} (h: ¬ dM l r 0=0):tv l r=[]:=if_neg h
theorem MA {l:aQ} {r:cf} (h:dM l r 0=0):0≤vx (kD l r)∧vx (kD l r)≤(l.ab.length:Int):=by
 have A:=(IQ (D6 h)).1
 rw [kd h] at A ⊢
 obtain ⟨i,e,hi,_⟩:=ni.1 A
 have hn:(bZ l r).n=l.ab.length:=dx
 omega
end
section
/-- a truth goes on from here -/
def p7 (w:bJ) (b:Nat) (p:ar×Int):Prop:= ∃ k,b+k≤w.n∧ ∃ q∈eW w k b p,jl w q.1=true
/-- a truth may have come here, or earlier -/
def zK (w:bJ) (b:Nat) (p:ar×Int):Prop:= ∃ v,(p.1,v)∈fwd w b∧v≤p.2
def Gy (n:Int) (p:ar×Int):ar×Int:=(p.1,p.2+n)
section
variable {w:bJ}
theorem D9: ∀ (k j b:Nat) (p q z:ar×Int),q∈eW w k b p→z∈eW w j (b+k) q→z∈eW w (k+j) b p:=by
 intro k
 induction k with
 |zero=>
  intro j b p q z A B
  simp only [eW,cu] at A
  subst A
  rw [Nat.zero_add]; exact B
 |succ k ih=>
  intro j b p q z A B
  obtain ⟨o,ho,p',e,h⟩:=gk.1 A
  rw [show k+1+j=(k+j)+1 by omega]
  exact gk.2 ⟨o,ho,p',e,ih j (b+1) p' q z h (by rw [show b+1+k=b+(k+1) by omega]; exact B)⟩
theorem zt: ∀ (k b:Nat) (t:ar) (x y:Int) (q:ar×Int),y≤x→q∈eW w k b (t,x)→ ∃ q'∈eW w k b (t,y),q'.1=q.1∧q'.2≤q.2:=by
 intro k
 induction k with
 |zero=>
  intro b t x y q A hq
  simp only [eW,cu] at hq ⊢
  subst hq
  exact ⟨_,U,U,A⟩
 |succ k ih=>
  intro b t x y q A hq
  obtain ⟨o,ho,p',e,h⟩:=gk.1 hq
  obtain ⟨B,rfl⟩:=fI.1 e
  simp only at B h
  obtain ⟨q',hq',C,D⟩:=ih (b+1) _ _ (max (y+bK w b) o.2.Lo) q I h
  exact ⟨q',gk.2 ⟨o,ho,_,fI.2 ⟨by simp only; omega,U⟩,hq'⟩,C,D⟩
theorem vo {b:Nat} {t:ar} {x y:Int} (h:p7 w b (t,x)) (hy:y≤x):p7 w b (t,y):=by
 obtain ⟨k,hk,q,hq,hm⟩:=h
 obtain ⟨q',hq',e,_⟩:=zt k b t x y q hy hq
 exact ⟨k,hk,q',hq',by rw [e]; exact hm⟩
theorem r9 {k b:Nat} {p q:ar×Int} (h:q∈eW w k b p) (hv:p7 w (b+k) q):p7 w b p:=by
 obtain ⟨j,hj,z,hz,hm⟩:=hv
 exact ⟨k+j,I,z,D9 k j b p q z h hz,hm⟩
theorem DO {b:Nat} {p q:ar×Int} {o:Int×aa} (h:zK w b p) (ho:o∈gr w b) (e:jB w b p o=some q):zK w (b+1) q:=by
 obtain ⟨v,hv,A⟩:=h
 obtain ⟨B,rfl⟩:=fI.1 e
 exact ⟨max (v+bK w b) o.2.Lo,eT.2 ⟨_,hv,o,ho,fI.2 ⟨by simp only; omega,U⟩⟩,by simp only; omega⟩
theorem yL {b:Nat} {p:ar×Int} (h:p∈fwd w b):zK w b p:=⟨p.2,h,Int.le_refl _⟩
theorem vL (hl: ∀ b,0≤bK w b): ∀ (b:Nat) (p:ar×Int),p∈fwd w b→w.Start≤p.2:=by
 intro b
 induction b with
 |zero=>intro p hp; simp only [fwd,cu] at hp; subst hp; exact Int.le_refl _
 |succ b ih=>
  intro q hq
  obtain ⟨p,hp,o,ho,e⟩:=eT.1 hq
  obtain ⟨_,rfl⟩:=fI.1 e
  have:=ih p hp
  have:=hl b
  simp only; omega
/-- a beam is passed at a time, by a signal -/
def u_ (w:bJ) (b:Nat) (s t:Int):Prop:= ∃ p∈fwd w b,∃ o∈gr w b,o.1=s∧(max (p.2+bK w b) o.2.Lo≤t∧t≤min o.2.Hi w.eX)∧p7 w (b+1) (cP p.1 (ej o.1),t)
theorem wO (hl: ∀ b,0≤bK w b) {b:Nat} (hb:b<w.n) {s t:Int}:(∃ q∈kP w b,q.1=s∧q.2.Lo≤t∧t≤q.2.Hi)↔u_ w b s t:=by
 constructor
 ·rintro ⟨q,hq,hs,C,D⟩
  obtain ⟨o,ho,p,hp,u,hu,e⟩:=gj.1 hq
  obtain ⟨B,A,rfl⟩:=hG.1 e
  simp only [ic] at C D B
  have hn:u.2≤w.eX:=Ct hl _ _ hu
  obtain ⟨k,hk,q,hq',E⟩:=GR hl (w.n-(b+1)) (b+1) (cP p.1 (ej o.1),t) u I (by simp only; omega) hu
  refine ⟨p,hp,o,ho,hs,⟨I,I⟩,k,hk,q,hq',?_⟩
  rw [E]
  unfold uY at A
  rw [show cP (cP p.1 (ej o.1)) u.1=cP (cP p.1 u.1) (ej o.1) by simp only [cP,ar.mk.injEq]; omega]
  exact A
 ·rintro ⟨p,hp,o,ho,hs,⟨C,D⟩,k,hk,q,hq,hm⟩
  obtain ⟨u,hu,B,A⟩:=HW k (b+1) _ q hk (by simp only; omega) hq
  simp only at B A
  refine ⟨(o.1,ic w b p u o),gj.2 ⟨o,ho,p,hp,u,hu,hG.2 ⟨by simp only [ic]; omega,?_,U⟩⟩,hs,by simp only [ic]; omega,by simp only [ic]; omega⟩
  unfold uY
  rw [A] at hm
  rw [show cP (cP p.1 u.1) (ej o.1)=cP (cP p.1 (ej o.1)) u.1 by simp only [cP,ar.mk.injEq]; omega]
  exact hm
end
structure vD (w w':bJ) (n:Int) (f:Int→Int):Prop where
 start:w'.Start=w.Start+n
 now:w'.eX=w.eX+n
 wn:w'.n=w.n
 low: ∀ b,0≤bK w b
 least: ∀ b,bK w' b=bK w b
 may: ∀ t,jl w t=true→jl w' t=true
 Oz: ∀ s,0≤f s↔0≤s
 opt: ∀ (b:Nat) (p:ar×Int) (o:Int×aa),b<w.n→w.Start≤p.2→zK w b p→o∈gr w b→max (p.2+bK w b) o.2.Lo≤min o.2.Hi w.eX→p7 w (b+1) (cP p.1 (ej o.1),max (p.2+bK w b) o.2.Lo)→
  ∃ o'∈gr w' b,o'.1=f o.1∧ ∀ t,w.Start≤t→t≤w.eX→((o.2.Lo≤t∧t≤o.2.Hi)↔(o'.2.Lo≤t+n∧t+n≤o'.2.Hi))
section
variable {w w':bJ} {n:Int} {f g:Int→Int}
theorem vD.one (h:vD w w' n f) (s:Int):ej (f s)=ej s:=by
 unfold ej
 have:=h.Oz s
 by_cases q:s<0
 ·rw [if_pos q,if_pos I]
 ·rw [if_neg q,if_neg I]
theorem vD.step (h:vD w w' n f) {b:Nat} {p q:ar×Int} {o:Int×aa} (hb:b<w.n) (hs:w.Start≤p.2) (hl:zK w b p) (ho:o∈gr w b) (e:jB w b p o=some q) (hv:p7 w (b+1) q):
 ∃ o'∈gr w' b,jB w' b (Gy n p) o'=some (Gy n q):=by
 obtain ⟨E,rfl⟩:=fI.1 e
 obtain ⟨o',ho',D,A⟩:=h.opt b p o hb hs hl ho E hv
 have F:=h.low b
 have B:=A (max (p.2+bK w b) o.2.Lo) I I
 have C:=A (max (p.2+n+bK w b) o'.2.Lo-n) I
 refine ⟨o',ho',fI.2 ?_⟩
 simp only [Gy,h.least,h.now]
 rw [D,h.one]
 have G:=B.1 I
 have H:=(C I).2 I
 refine ⟨I,?_⟩
 simp only [Prod.mk.injEq,true_and]
 omega
theorem vD.reach (h:vD w w' n f): ∀ (k b:Nat) (p q:ar×Int),b+k≤w.n→w.Start≤p.2→zK w b p→q∈eW w k b p→p7 w (b+k) q→Gy n q∈eW w' k b (Gy n p):=by
 intro k
 induction k with
 |zero=>
  intro b p q _ _ _ hq _
  simp only [eW,cu] at hq ⊢
  rw [hq]
 |succ k ih=>
  intro b p q hb hs hl hq hv
  obtain ⟨o,ho,p',e,hq'⟩:=gk.1 hq
  have hv':p7 w (b+1) p':=r9 hq' (by rw [show b+1+k=b+(k+1) by omega]; exact hv)
  obtain ⟨o',ho',e'⟩:=h.step I hs hl ho e hv'
  have A:=fI.1 e
  have B:=h.low b
  exact gk.2 ⟨o',ho',_,e',ih (b+1) p' q I (by rw [A.2]; simp only; omega) (DO hl ho e) hq' (by rw [show b+1+k=b+(k+1) by omega]; exact hv)⟩
theorem vD.Jw (h:vD w w' n f) {b:Nat} {p:ar×Int} (hs:w.Start≤p.2) (hl:zK w b p) (hv:p7 w b p):p7 w' b (Gy n p):=by
 obtain ⟨k,hk,q,hq,hm⟩:=hv
 exact ⟨k,by rw [h.wn]; exact hk,_,h.reach k b p q hk hs hl hq ⟨0,I,q,by simp [eW],hm⟩,h.may _ hm⟩
theorem vD.fwd (h:vD w w' n f) {b:Nat} {q:ar×Int} (hb:b≤w.n) (hq:q∈fwd w b) (hv:p7 w b q):Gy n q∈Go.Proofs.YtcoejkiaokbmpaaGreatDoor.fwd w' b:=by
 obtain ⟨p,hp,hr⟩:=(pw b 0 q).1 (by rw [Nat.zero_add]; exact hq)
 have hr':=h.reach b 0 p q I (vL h.low 0 p hp) (yL hp) hr (by rw [Nat.zero_add]; exact hv)
 have:Gy n p∈Go.Proofs.YtcoejkiaokbmpaaGreatDoor.fwd w' 0:=by
  simp only [Go.Proofs.YtcoejkiaokbmpaaGreatDoor.fwd,cu] at hp ⊢
  subst hp
  rw [h.start]; rfl
 have A:=(pw b 0 (Gy n q)).2 ⟨_,this,hr'⟩
 rwa [Nat.zero_add] at A
theorem vD.any (h:vD w w' n f) {b:Nat} (hb:b≤w.n) (hm:g9 w (Go.Proofs.YtcoejkiaokbmpaaGreatDoor.fwd w b)=true):g9 w' (Go.Proofs.YtcoejkiaokbmpaaGreatDoor.fwd w' b)=true:=by
 unfold g9 at hm ⊢
 obtain ⟨p,hp,A⟩:=List.any_eq_true.1 hm
 exact List.any_eq_true.2 ⟨_,h.fwd hb hp ⟨0,I,p,by simp [eW],A⟩,h.may _ A⟩
theorem vD.pass (h:vD w w' n f) {b:Nat} (hb:b<w.n) {s t:Int} (hp:u_ w b s t):u_ w' b (f s) (t+n):=by
 obtain ⟨p,hp,o,ho,rfl,⟨D,G⟩,hv⟩:=hp
 have hs:=vL h.low b p hp
 have hl:=h.low b
 have A:p7 w (b+1) (cP p.1 (ej o.1),max (p.2+bK w b) o.2.Lo):=vo hv D
 have e:jB w b p o=some (cP p.1 (ej o.1),max (p.2+bK w b) o.2.Lo):=fI.2 ⟨I,rfl⟩
 have B:p7 w b p:=r9 (k:=1) (gk.2 ⟨o,ho,_,e,by simp [eW]⟩) A
 obtain ⟨o',ho',C,E⟩:=h.opt b p o hb hs (yL hp) ho I A
 have c:=(E t I I).1 I
 refine ⟨Gy n p,h.fwd I hp B,o',ho',C,?_,?_⟩
 ·simp only [Gy,h.least,h.now]; omega
 ·have F:=h.Jw (b:=b+1) (p:=(cP p.1 (ej o.1),t)) (by simp only; omega) ⟨_,eT.2 ⟨p,hp,o,ho,e⟩,D⟩ hv
  rw [C,h.one]; exact F
theorem GO (h:vD w w' n f) (h':vD w' w (-n) g):iI w'=iI w:=by
 unfold iI
 rw [h.wn]
 unfold jg
 congr 1
 refine List.filter_congr fun b hb=>?_
 have hb:=List.mem_range.1 hb
 rw [Bool.eq_iff_iff]
 exact ⟨h'.any (by rw [h.wn]; omega),h.any I⟩
theorem yX (h:vD w w' n f) (hl': ∀ b,0≤bK w' b) {b:Nat} (hb:b<w.n) {s:Int} (hq: ∃ q∈kP w b,q.1=s): ∃ q∈kP w' b,q.1=f s:=by
 obtain ⟨q,hq,e⟩:=hq
 have A:q.2.Lo≤q.2.Hi:=kW hq
 obtain ⟨q',hq',e',_⟩:=(wO hl' (by rw [h.wn]; exact hb)).2 (h.pass hb ((wO h.low hb).1 ⟨q,hq,e,Int.le_refl _,A⟩))
 exact ⟨q',hq',e'⟩
theorem Dv (h:vD w w' n f) (h':vD w' w (-n) g) {b:Nat} (hb:b<w.n):s9 w' b=s9 w b:=by
 rw [Bool.eq_iff_iff]
 unfold s9
 simp only [List.any_eq_true,decide_eq_true_eq]
 constructor
 ·rintro ⟨q,hq,A⟩
  obtain ⟨q',hq',e⟩:=yX h' h.low (by rw [h.wn]; exact hb) ⟨q,hq,rfl⟩
  exact ⟨q',hq',by rw [e]; exact (h'.Oz _).2 A⟩
 ·rintro ⟨q,hq,A⟩
  obtain ⟨q',hq',e⟩:=yX h h'.low hb ⟨q,hq,rfl⟩
  exact ⟨q',hq',by rw [e]; exact (h.Oz _).2 A⟩
end
section
variable {l l':aQ} {r r':cf} {n:Int} {f g:Int→Int}
structure sY (l:aQ) (r:cf) (l':aQ) (r':cf) (n:Int) (f g:Int→Int):Prop where
 line:cY l=0
 line':cY l'=0
 vE:er l r
 ride':er l' r'
 I6:l'.ab.length=l.ab.length
 to:vD (bZ l r) (bZ l' r') n f
 Pv:vD (bZ l' r') (bZ l r) (-n) g
theorem sY.Dw (h:sY l r l' r' n f g):iI (bZ l' r')=iI (bZ l r):=GO h.to h.Pv
theorem sY.e (h:sY l r l' r' n f g) {me:Int}:dM l' r' me=dM l r me:=by
 by_cases hm:me=0
 ·by_cases q:iI (bZ l r)=[]
  ·rw [nN h.line h.vE hm q,nN h.line' h.ride' hm (h.Dw.trans q)]
  ·rw [lj h.line h.vE hm q,lj h.line' h.ride' hm (by rw [h.Dw]; exact q)]
 ·rw [oM h.line h.vE hm,oM h.line' h.ride' hm]
theorem sY.As (h:sY l r l' r' n f g):kD l' r'=kD l r:=by
 by_cases q:dM l r 0=0
 ·rw [kd q,kd (h.e.trans q),h.Dw]
 ·rw [rK q,rK (by rw [h.e]; exact q)]
theorem sY.sQ (h:sY l r l' r' n f g) {b:Int}:iT l' b=iT l b:=by unfold iT; rw [h.I6]
theorem sY.bn (h:sY l r l' r' n f g):(bZ l r).n=l.ab.length:=dx
theorem sY.dT (h:sY l r l' r' n f g):tv l' r'=tv l r:=by
 by_cases q:dM l r 0=0
 ·rw [vq q,vq (h.e.trans q),h.As]
  have hb:=MA q
  unfold wP
  congr 1
  refine List.filter_congr fun b A=>?_
  have A:=List.mem_range.1 A
  rw [Dv h.to h.Pv (by rw [h.bn]; omega)]
 ·rw [uk q,uk (by rw [h.e]; exact q)]
end
end
section
theorem lk {l:aQ} (ht:cK l.aH=true) (h:ke l) {i:Nat} (hi:i<l.ab.length):1≤dp l i∧dp l i≤500000000:=by
 have A:=h.Ln i hi
 have B:=Bt ht h.sQ i
 have hf:=h.head.1
 unfold dp nv
 refine ⟨(Int.le_ediv_iff_mul_le I).2 I,?_⟩
 have:(1000*kZ l i+l.gY-1)/l.gY≤1000*kZ l i+l.gY-1:=Int.ediv_le_self _ I
 omega
end
section
def cH (good:List Int):ar:=good.foldl (fun t g=>cP t (ej g)) ⟨0,0⟩
theorem iP {l:List Int} {g:Int}:cH (l++[g])=cP (cH l) (ej g):=by unfold cH; rw [List.foldl_append]; rfl
def qO (r:cf) (times:List Int) (b:Nat):Int:=if b=0 then r.Start else (times[b-1]?).getD 0
theorem nJ {r:cf} {times:List Int} {b:Nat} {t:Int} (h:times[b]? =some t):qO r times (b+1)=t:=by unfold qO; rw [if_neg I,Nat.add_sub_cancel,h]; rfl
structure gT (l:aQ) (r:cf) (times good:List Int):Prop where
 vE:er l r
 len:good.length=times.length
 le:times.length≤l.ab.length
 step: ∀ (b:Nat) t,times[b]? =some t→qO r times b+dp l b≤t∧t≤r.eX
 sig: ∀ (b:Nat) t g,times[b]? =some t→good[b]? =some g→g= -1∨ ∃ (k:Nat) (s:aD),g=(k:Int)∧r.ag[k]? =some s∧s.e7=(b:Int)∧(cD l s).Lo≤t∧t≤(cD l s).Hi
 Eo:(cH good).dT≤l.cW
 Nw:(r.ag.length:Int)-(cH good).right≤l.eO
section
variable {l:aQ} {r:cf} {times good:List Int}
theorem gT.low (h:gT l r times good) (hl:cY l=0): ∀ b,0≤bK (bZ l r) b:=fun b=>by
 obtain ⟨ht,A⟩:=fF hl
 exact ((m7 ht A h.vE).bK b).1
theorem gT.least (h:gT l r times good) {b:Nat} (hb:b<times.length):bK (bZ l r) b=dp l b:=by
 have:=h.le
 rw [wi,if_pos I]
theorem gT.from_ (h:gT l r times good) (hl:cY l=0): ∀ b:Nat,b≤times.length→r.Start≤qO r times b∧qO r times b≤r.eX:=by
 intro b
 induction b with
 |zero=>intro _; have:=h.vE.time; unfold qO; rw [if_pos rfl]; omega
 |succ b ih=>
  intro hb
  have ht:times[b]? =some (times[b]'I):=e_ _
  have B:=ih I
  have C:=h.step b _ ht
  have A:=h.low hl b
  rw [h.least I] at A
  rw [nJ ht]
  omega
/-- what comes next, in the truth -/
theorem gT.opt (h:gT l r times good) (hl:cY l=0) {b:Nat} {t g:Int} (ht:times[b]? =some t) (hg:good[b]? =some g): ∃ o∈gr (bZ l r) b,o.1=g∧o.2.Lo≤t∧t≤o.2.Hi:=by
 have hb:=(List.getElem?_eq_some_iff.1 ht).1
 have E:=h.le
 have F:=h.step b t ht
 have G:=h.from_ hl b I
 have B:=h.low hl b
 rw [h.least hb] at B
 rcases h.sig b t g ht hg with rfl|⟨k,s,rfl,hs,A,C,D⟩
 ·exact ⟨(-1,⟨r.Start,r.eX⟩),(ow I).2 (.inl U),U,by simp only; omega,by simp only; omega⟩
 ·exact ⟨((k:Int),cD l s),(ow I).2 (.inr ⟨k,(List.getElem?_eq_some_iff.1 hs).1,s,hs,⟨A,I⟩,U⟩),U,C,D⟩
theorem kf {α:Type} {l:List α} {b:Nat} {x:α} (h:l[b]? =some x):l.take (b+1)=l.take b++[x]:=by rw [List.take_add_one,h]; rfl
theorem gT.live (h:gT l r times good) (hl:cY l=0): ∀ b:Nat,b≤times.length→zK (bZ l r) b (cH (good.take b),qO r times b):=by
 intro b
 induction b with
 |zero=>intro _; exact ⟨r.Start,by simp [fwd,cH]; rfl,by unfold qO; rw [if_pos rfl]; exact Int.le_refl _⟩
 |succ b ih=>
  intro hb
  have B:=h.len
  have ht:times[b]? =some (times[b]'I):=e_ _
  have hg:good[b]? =some (good[b]'I):=e_ _
  obtain ⟨v,hv,A⟩:=ih I
  obtain ⟨o,ho,e,C,D⟩:=h.opt hl ht hg
  have E:=h.step b _ ht
  have F:=h.least (b:=b) I
  simp only at A hv
  rw [nJ ht,kf hg,iP,← e]
  refine ⟨max (v+bK (bZ l r) b) o.2.Lo,eT.2 ⟨_,hv,o,ho,fI.2 ⟨?_,U⟩⟩,?_⟩
  ·have G:(bZ l r).eX=r.eX:=rfl
   simp only; omega
  ·simp only; omega
theorem gT.Jw (h:gT l r times good) (hl:cY l=0): ∀ (d b:Nat),b+d=times.length→p7 (bZ l r) b (cH (good.take b),qO r times b):=by
 intro d
 induction d with
 |zero=>
  intro b hb
  have hn:(bZ l r).n=l.ab.length:=dx
  have C:=h.len
  have D:=h.le
  refine ⟨0,I,_,by simp [eW]; rfl,?_⟩
  rw [List.take_of_length_le I]
  unfold jl
  have A:=h.Eo
  have B:=h.Nw
  exact dw ⟨A,B⟩
 |succ d ih=>
  intro b hb
  have C:=h.len
  have ht:times[b]? =some (times[b]'I):=e_ _
  have hg:good[b]? =some (good[b]'I):=e_ _
  obtain ⟨o,ho,e,D,A⟩:=h.opt hl ht hg
  have B:=h.step b _ ht
  have E:=h.least (b:=b) I
  have F:(bZ l r).eX=r.eX:=rfl
  have hv:=ih (b+1) I
  rw [nJ ht,kf hg,iP,← e] at hv
  exact r9 (k:=1) (gk.2 ⟨o,ho,_,fI.2 ⟨by first|omega|(simp only; omega),U⟩,by simp [eW]; rfl⟩) (vo hv (by first|omega|(simp only; omega)))
theorem gT.pass (h:gT l r times good) (hl:cY l=0) {b:Nat} {t g:Int} (ht:times[b]? =some t) (hg:good[b]? =some g):u_ (bZ l r) b g t:=by
 have hb:=(List.getElem?_eq_some_iff.1 ht).1
 obtain ⟨v,hv,A⟩:=h.live hl b I
 obtain ⟨o,ho,e,B,C⟩:=h.opt hl ht hg
 have D:=h.step b _ ht
 have E:=h.least (b:=b) hb
 have F:(bZ l r).eX=r.eX:=rfl
 have hw:=h.Jw hl (times.length-(b+1)) (b+1) I
 rw [nJ ht,kf hg,iP,← e] at hw
 simp only at A
 exact ⟨_,hv,o,ho,e,⟨by simp only; omega,I⟩,hw⟩
theorem gT.num (h:gT l r times good) (hl:cY l=0):(times.length:Int)∈iI (bZ l r):=by
 obtain ⟨v,hv,_⟩:=h.live hl times.length (Nat.le_refl _)
 have hn:(bZ l r).n=l.ab.length:=dx
 have B:=h.le
 refine ni.2 ⟨times.length,U,I,?_⟩
 unfold g9
 refine List.any_eq_true.2 ⟨_,hv,?_⟩
 have A:=h.len
 rw [List.take_of_length_le I]
 unfold jl
 exact dw ⟨h.Eo,h.Nw⟩
theorem gT.e (h:gT l r times good) (hl:cY l=0):dM l r 0=0:=lj hl h.vE rfl fun e=>by have:=h.num hl; rw [e] at this; cases this
theorem gT.As (h:gT l r times good) (hl:cY l=0):(times.length:Int)∈kD l r:=by rw [kd (h.e hl)]; exact h.num hl
end
end
end Go.Proofs.YtcoejkiaokbmpaaGreatDoor
