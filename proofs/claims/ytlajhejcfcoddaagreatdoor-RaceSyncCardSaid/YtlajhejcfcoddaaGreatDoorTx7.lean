/-
 The statement raceSync_said, part 7 of 8: Rt3, B10, Z1, Rx4, DrawB, Rep6, Async, NJoin, Rr1, RkS, RaS, RtS, Rx1, Rx3, Rx5, Rx8, Rx9, Rx10, Rx11, Rx12, Rz1, Rz2, Rt2, Rx2, Rz3, Rz4, B7.
 Conditions: none.
-/
import Derived.Test.YtlajhejcfcoddaaGreatDoorTx1
import Derived.Test.YtlajhejcfcoddaaGreatDoorTx2
import Derived.Test.YtlajhejcfcoddaaGreatDoorTx3
import Derived.Test.YtlajhejcfcoddaaGreatDoorTx4
import Derived.Test.YtlajhejcfcoddaaGreatDoorTx5
import Derived.Test.YtlajhejcfcoddaaGreatDoorTx6
import Derived.KernelRfl
namespace Go.Proofs.YtlajhejcfcoddaaGreatDoor
set_option maxRecDepth 100000
set_option maxHeartbeats 4000000
set_option linter.unusedVariables false
section
open Go.RowKit
theorem Eg (h i:Int) (r:bY) (kA:OA) (kC:Nat) (az:List RA) (cA:OA) (cC:Nat) (bA:OA) (bC:Nat) (slA:OA) (slC:Nat) (drA:OA) (drC:Nat) (ha:List cK) (heA:OA) (heC:Nat) (hin:fp r az ha):
 eB Tryz.prog 15 [(vA (cm.cells (oz r kA kC cA cC bA bC slA slC drA drC heA heC))),(vI h),(vI i)] [(rd fg 3 2 eu),(rd kA r.an.aL.length 9 (r.an.aL.map ak.cells)),(rd cA r.an.ah.length 2 (List.zipWith ao.cells r.an.ah az)),(e9 (aW ao.gP r.an.ah az)),(rd bA r.an.ae.length 4 (r.an.ae.map bE.cells)),(rd slA r.aM.length 1 (r.aM.map iC)),(rd drA r.bK.length 1 (r.bK.map iC)),(rd heA r.aq.length 1 (List.zipWith cD r.aq ha)),(e9 (aW iy r.aq ha))] (vT [(vA (aa.cells (hZ r h i))),(vI (ke r h i))]):=by
 have AO:=hin.line
 have A4:=hin.iW
 have A5:=hin.has
 have A1:=hin.jd
 have Ap:=hin.draw
 have F:=dQ (r:=r)
 refine bG kr Tryz.func15 U U fun w0 Q hQ hN=>?_
 try dsimp only
 refine WS fun _ u=>gd U fun b2=>AL U dv fun b3=>bo 1 U<|RK u<|WS fun _ X=>rP 1 [] (mc 1 U mn) ?_
 refine cX (oG r kA kC az cA cC bA bC slA slC drA drC ha heA heC hin) (bp [2,3,4,5,6,7,8,9,10]) U fun y5 c=>?_
 obtain ⟨f,A3,o,m,g,j,AD⟩:=y5
 cases f
 ·obtain ⟨Y,he⟩:=c.2 rfl
  try dsimp only at Y he
  subst Y
  try dsimp only [cond_true,cond_false,List.cons_append,List.nil_append]
  refine bo 5 U<|RK X<|aj fun _ Ao=>ax<|WS fun _ N=>rP 3 [] mn ?_
  refine RK N<|bS U (bw fun M=>?_) (bx fun M=>?_)
  ·exact absurd M he
  refine WS fun _ O=>rS (SX (bh (xs:=[]) (cs:=(aa.cells (aa.mk 0 0))) U U (bg gH U)) U U)<|bo 1 U<|gl U cy U<|rP 1 [] mn ?_
  refine RK O<|ar<|lP hQ [0] (mc 0 U mn) U ?_
  first|(have e:=pc (h:=h) (i:=i) he; have B:hZ r h i=dJ:=if_neg (fun q=>by rw [e] at q; exact he q); rw [e,B]; rfl)|(have e:=pj (h:=h) (i:=i) he I; have B:hZ r h i=dJ:=if_neg (fun q=>by rw [e] at q; cases q); rw [e,B]; rfl)|(have e:=nI he I A hd C; have B:hZ r h i=dJ:=if_neg (fun q=>by rw [e] at q; cases q); rw [e,B]; rfl)|(have e:=qN he I A hd C; rw [e.1,e.2,H]; done)
 obtain ⟨he,J⟩:=c.1 rfl
 try dsimp only [cond_true,cond_false,List.cons_append,List.nil_append]
 try dsimp only at J
 have a:=(ig he).2
 refine bo 5 U<|RK X<|aj fun _ P=>ax<|WS fun _ R=>bo 1 U<|rS (SX (cb (r:= .bool false) U U U nK) U U)<|bo 1 U<|RK R<|a_ U<|WS fun _ K=>rP 5 [] (mc 5 U mn) ?_
 refine c_ (xs:=[.tmp 25]) (cs:=[(vI h)]) U cL jA U U U U (by simp [Value.cells]) U U fun k=>?_
 refine rS (CL (eB.eq (kx 0 ((r.aq.length:Int)-1) ([h]) (some ⟨k,0,none⟩) 1 sd) cZ) (au (aZ 0 U U (by simp [bI]) U)<|aI) U) ?_
 refine rP 2 [] mn ?_
 refine dp (t:=29) U (bx fun s=>?_) (bw fun s=>?_)
 ·refine bo 7 U<|RK K<|aR U<|WS fun _ S=>rS (SX (bh (xs:=[]) (cs:=(aa.cells (aa.mk 0 0))) U U (bg gH U)) U U)<|IE U cy U<|rP 1 [] mn ?_
  refine RK S<|ar<|lP hQ [0] (mc 5 U mn) U ?_
  first|(have e:=pc (h:=h) (i:=i) he; have B:hZ r h i=dJ:=if_neg (fun q=>by rw [e] at q; exact he q); rw [e,B]; rfl)|(have e:=pj (h:=h) (i:=i) he I; have B:hZ r h i=dJ:=if_neg (fun q=>by rw [e] at q; cases q); rw [e,B]; rfl)|(have e:=nI he I A hd C; have B:hZ r h i=dJ:=if_neg (fun q=>by rw [e] at q; cases q); rw [e,B]; rfl)|(have e:=qN he I A hd C; rw [e.1,e.2,H]; done)
 refine rP 2 [] mn ?_
 refine c_ (xs:=[.tmp 31]) (cs:=[(vI i)]) U cL jA U U U U (by simp [Value.cells]) U U fun l=>?_
 refine rS (CL (eB.eq (Bf r kA kC az cA cC bA bC slA slC drA drC ha heA heC AD g j (Value.map (some m)) o ([i]) (some ⟨l,0,none⟩) 1 hin sd) cZ) (l5 [9,10,11,12,13,14,15,16]<|au (ag (n:=(cT r).length) 3 U (np (by rw [F]; exact J)))<|au (cY 4 U tJ)<|fP 2 U U<|au (aZ 0 U U (by simp [bI]) U)<|aI) U) ?_
 refine rP 3 [] mn ?_
 refine RK K<|cP U (bx fun p=>?_) (bw fun p=>?_)
 ·refine WS fun _ T=>rS (SX (bh (xs:=[]) (cs:=(aa.cells (aa.mk 0 0))) U U (bg gH U)) U U)<|O6 U cy U<|rP 1 [] mn ?_
  refine RK T<|ar<|lP hQ [0] (mc 6 U mn) U ?_
  first|(have e:=pc (h:=h) (i:=i) he; have B:hZ r h i=dJ:=if_neg (fun q=>by rw [e] at q; exact he q); rw [e,B]; rfl)|(have e:=pj (h:=h) (i:=i) he I; have B:hZ r h i=dJ:=if_neg (fun q=>by rw [e] at q; cases q); rw [e,B]; rfl)|(have e:=nI he I A hd C; have B:hZ r h i=dJ:=if_neg (fun q=>by rw [e] at q; cases q); rw [e,B]; rfl)|(have e:=qN he I A hd C; rw [e.1,e.2,H]; done)
 refine WS fun _ AA=>rP 3 [] (mc 7 U mn) ?_
 obtain ⟨ht,A⟩:=aJ r.aq ((h).toNat) I
 obtain ⟨D,E⟩:=aJ ha ((h).toNat) I
 have Z:(List.zipWith cD r.aq ha)[(h).toNat]? =some (cD ht D):=dG A E
 refine rS (IA ((h).toNat) U (aC 15 U) ou dc I I) ?_
 have z:=hin.m8 _ _ _ A E
 have A0:=z.oo
 have AC:=(a.m8 ht (aT A)).1
 refine rS (gi ((h).toNat) 0 (vS D.1.1 ht.length D.1.2) U cj (aC 15 U) Z U dc U)<|rP 1 [] mn ?_
 obtain ⟨d,hd⟩:=aJ ht ((i).toNat) I
 obtain ⟨da,v⟩:=aJ D.2 ((i).toNat) I
 have y:(List.zipWith aw.cells ht D.2)[(i).toNat]? =some (aw.cells d da):=dG hd v
 refine rS (IA ((i).toNat) U (show iA _ (rd D.1.1 ht.length 7 (List.zipWith aw.cells ht D.2)).holds from (dA 16 U (bM A E cq))) ug dc I I)<|rS (mW (((i).toNat)*7) U (show iA _ (rd D.1.1 ht.length 7 (List.zipWith aw.cells ht D.2)).holds from (dA 16 U (bM A E cq))) (Nat.mul_pos I dc) fw U)<|rS (gi ((i).toNat) 0 (vB d.Out) U cj (show iA _ (rd D.1.1 ht.length 7 (List.zipWith aw.cells ht D.2)).holds from (dA 16 U (bM A E cq))) y U dc U)<|rP 1 [] mn ?_
 refine RK AA<|cP U (fun C=>?_) (fun C=>?_)
 ·refine WS fun _ V=>rS (SX (bh (xs:=[]) (cs:=(aa.cells (aa.mk 0 0))) U U (bg gH U)) U U)<|O6 U cy U<|rP 1 [] mn ?_
  refine RK V<|ar<|lP hQ [0] (mc 6 U mn) U ?_
  first|(have e:=pc (h:=h) (i:=i) he; have B:hZ r h i=dJ:=if_neg (fun q=>by rw [e] at q; exact he q); rw [e,B]; rfl)|(have e:=pj (h:=h) (i:=i) he I; have B:hZ r h i=dJ:=if_neg (fun q=>by rw [e] at q; cases q); rw [e,B]; rfl)|(have e:=nI he I A hd C; have B:hZ r h i=dJ:=if_neg (fun q=>by rw [e] at q; cases q); rw [e,B]; rfl)|(have e:=qN he I A hd C; rw [e.1,e.2,H]; done)
 refine cr<|aH<|KK P<|WS fun _ W=>bo 1 U<|rS (SX (bP U U) U U)<|rP 3 [] (mc 2 U mn) ?_
 obtain ⟨tr,AB⟩:=aJ (cT r) ((h).toNat) I
 obtain ⟨tra,G⟩:=aJ AD ((h).toNat) I
 have b:(List.zipWith E4 (cT r) AD)[(h).toNat]? =some (E4 tr tra):=dG AB G
 refine rS (IA ((h).toNat) U (ag (n:=(cT r).length) 3 U (np (by rw [F]; exact J))) FG dc I I) ?_
 have L:=zP A AB
 have A2:tr.length=r.aM.length:=by rw [L,List.length_map]; exact AC
 refine rS (gi ((h).toNat) 0 (vS tra.1 tr.length tra.2) U cj (ag (n:=(cT r).length) 3 U (np (by rw [F]; exact J))) b U dc U) ?_
 refine rP 1 [] mn ?_
 obtain ⟨x,hx⟩:=aJ tr ((i).toNat) I
 have AS:=bO aa.cells hx
 refine rS (IA ((i).toNat) U (show iA _ (rd tra.1 tr.length 2 (tr.map aa.cells)).holds from (fun w hw=>(cY 4 U tJ) w hw _ (bM AB G (by simp [M1])))) g4 dc I I) ?_
 have H:=IG L hx hd
 refine rS (oY ((i).toNat) 0 (aa.cells x) U cj (show iA _ (rd tra.1 tr.length 2 (tr.map aa.cells)).holds from (fun w hw=>(cY 4 U tJ) w hw _ (bM AB G (by simp [M1])))) AS U dc U U)<|O6 U cy U<|rP 1 [] mn ?_
 refine RK W<|ar<|lP hQ [0] (mc 6 U mn) U ?_
 first|(have e:=pc (h:=h) (i:=i) he; have B:hZ r h i=dJ:=if_neg (fun q=>by rw [e] at q; exact he q); rw [e,B]; rfl)|(have e:=pj (h:=h) (i:=i) he I; have B:hZ r h i=dJ:=if_neg (fun q=>by rw [e] at q; cases q); rw [e,B]; rfl)|(have e:=nI he I A hd C; have B:hZ r h i=dJ:=if_neg (fun q=>by rw [e] at q; cases q); rw [e,B]; rfl)|(have e:=qN he I A hd C; rw [e.1,e.2,H]; done)
end
section
open Go.RowKit
theorem Nd (l:aX) (kA:OA) (kC:Nat) (az:List RA) (cA:OA) (cC:Nat) (bA:OA) (bC:Nat) (hin:ew l az) (hng: ¬ lX l):
 lB Tryz.prog 45 [(vA (bZ.cells (lJ l kA kC cA cC bA bC)))] [(rd kA l.aL.length 9 (l.aL.map ak.cells)),(rd cA l.ah.length 2 (List.zipWith ao.cells l.ah az)),(e9 (aW ao.gP l.ah az)),(rd bA l.ae.length 4 (l.ae.map bE.cells))] (fun (x:(OA)×Nat×(OA)×Nat×(List RA)×(OA)×Nat)=>(vA (bZ.cells (bZ.mk (bB.mk (bj.mk x.1 l.aL.length x.2.1)) l.gk (bj.mk x.2.2.1 l.ah.length x.2.2.2.1) (bj.mk x.2.2.2.2.2.1 l.ae.length x.2.2.2.2.2.2) l.bU l.dN l.cw)))) (fun (x:(OA)×Nat×(OA)×Nat×(List RA)×(OA)×Nat)=>x.2.2.2.2.1.length=l.ah.length∧oD l.ah x.2.2.2.2.1) (fun (x:(OA)×Nat×(OA)×Nat×(List RA)×(OA)×Nat)=>[(own x.1 x.2.1 153 9 (l.aL.map ak.cells)),(own x.2.2.1 x.2.2.2.1 53 2 (List.zipWith ao.cells l.ah x.2.2.2.2.1)),(br (aW ao.owns l.ah x.2.2.2.2.1)),(own x.2.2.2.2.2.1 x.2.2.2.2.2.2 160 4 (l.ae.map bE.cells))]):=by
 have v:=hin.sw
 have u:=hin.sr
 have G:=hin.oo
 have t:=hin.sH
 have Z:=Dw hng
 refine di VE Tryz.func45 U U fun w0 Q hQ hN=>?_
 try dsimp only
 refine WS fun _ p=>gd U fun b2=>AL U Ur fun b3=>RK p<|WS fun _ q=>rP 1 [] mn ?_
 refine rS (LP (bB.cells (bB.mk (bj.mk kA l.aL.length kC))) 1 U Sg U U U) ?_
 refine cX (Rh l.aL kA kC sd) (bp [2]) U fun y w=>?_
 obtain ⟨c,d⟩:=y
 try dsimp only
 refine bo 1 U<|U0 (bZ.cells (bZ.mk (bB.mk (bj.mk c l.aL.length d)) l.gk (bj.mk cA l.ah.length cC) (bj.mk bA l.ae.length bC) l.bU l.dN l.cw)) U Uq U U<|RK q<|WS fun _ r=>ld U uQ U fun e=>rP 2 [] (mc 3 U mn) ?_
 refine cR (es:=(List.map dx.cells [])) (C':=[own (some ⟨e,0,none⟩) 0 53 2 (List.map dx.cells []),_,_,_,_,_,_,_]) 0 U sm U (by simp [maxLen]) U ?_
 refine ck (es2:=(List.zipWith ao.cells l.ah az)) (m':=l.ah.length) 0 U U U TI U U sm (aC 5 U) (xz _ _) os (by first|(simp only [maxLen]; omega)|(simp [maxLen]; omega)) sm (eM G) U fun B D=>?_
 try dsimp only
 refine bo 1 U<|QH (bZ.cells (bZ.mk (bB.mk (bj.mk c l.aL.length d)) l.gk (bj.mk B l.ah.length D) (bj.mk bA l.ae.length bC) l.bU l.dN l.cw)) U Tx U U<|RK r<|aj fun _ N=>WS fun _ O=>rP 1 [] mn ?_
 refine RK O<|ax<|lV ?_
 have H:(0≤l.ah.length)∧(([]:List RA).length=0)∧(oD l.ah ([]:List RA)):=by exact ⟨Nat.zero_le _,rfl,fun k m a _ h=>by simp at h⟩
 refine bL (ι:={z:Nat×(List RA) // (z.1≤l.ah.length)∧(z.2.length=z.1)∧(oD l.ah z.2)}) [1,2] [2,3,4,5,6,7,8] U U (fun z=>[(3,(vI (z.1.1:Int)))]) (fun z=>[(br (aW ao.owns (l.ah.take z.1.1) z.1.2)),(own B D 53 2 (List.zipWith ao.cells l.ah (sh z.1.2 az z.1.1)))]) (fun _=>rfl) (fun _=>rfl) (fun z=>l.ah.length-z.1.1) ⟨(0,([]:List RA)),H⟩ (aU U) (aG [2,3,4,5,6,7,8,0,1]) ?_
 clear H
 rintro ⟨⟨i,bz⟩,⟨AB,A,F⟩⟩ J15 M
 try dsimp only at AB A F
 try dsimp only
 refine aj fun _ P=>WS fun _ R=>rP 5 [] (mc 2 U mn) ?_
 refine RK R<|bS U (aP fun j=>?_) (aQ fun j=>?_)
 ·refine bD<|ab<|ab<|ay<|KK N<|WS fun _ T=>ld U vo U fun g=>?_
  rw [show sh bz az i=bz from Jx I]
  rw [show l.ah.take i=l.ah from List.take_of_length_le I]
  refine rP 2 [] (mc 3 U mn) ?_
  refine cR (es:=(List.map bE.cells [])) (C':=[own (some ⟨g,0,none⟩) 0 160 4 (List.map bE.cells []),_,_,_,_,_,_,_,_,_]) 0 U sm U (by simp [maxLen]) U ?_
  refine ck (es2:=(List.map bE.cells l.ae)) (m':=l.ae.length) 0 U U U SV U U sm (aC 7 U) (qh _) os (by first|(simp only [maxLen]; omega)|(simp [maxLen]; omega)) sm sm U fun K L=>?_
  try dsimp only
  refine bo 1 U<|QH (bZ.cells (bZ.mk (bB.mk (bj.mk c l.aL.length d)) l.gk (bj.mk B l.ah.length D) (bj.mk K l.ae.length L) l.bU l.dN l.cw)) U SG U U<|RK T<|WS fun _ AA=>rP 1 [] (mc 3 U mn) ?_
  refine Ga U Qz U<|RK AA<|ar ?_
  refine LX hQ (c,d,B,D,bz,K,L) [1,9,8,0] [0] (mc 2 U mn) U (by simp only [fE,List.all_nil,fQ,Bool.and_true]; rfl) U U ?_
  exact ⟨dso,F⟩
 refine WK P<|aj fun _ S=>ax<|dK cx [3,10,13] [6,7,8,9,10] [0,1] [0,1,2,3,4,5,6,7] [0,1,2,3,4,5,6,7,8] U U U U U<|eS U (FA 2 U Jr U)<|eS U (L1 (vS B l.ah.length D) 2 U Qy U U)<|eS U (MV U)<|eS U (FA 2 U Jr U)<|eS U (L1 (vS B l.ah.length D) 2 U Qy U U)<|eS U (MV U) ?_
 obtain ⟨x,hx⟩:=aJ l.ah i I
 obtain ⟨xa,J⟩:=aJ az i I
 have b:(List.zipWith ao.cells l.ah (sh bz az i))[i]? =some (ao.cells x xa):=dG hx (Fz A J)
 refine fS U (IA i U (ag (n:=l.ah.length) 8 U (eM (by rw [qU A I]; exact G))) uQ dc I I) ?_
 refine fS U (mW ((i*2)+1) U (ag (n:=l.ah.length) 8 U (eM (by rw [qU A I]; exact G))) (Nat.mul_pos I dc) Kr U) ?_
 refine fS U (gi i 1 (vS xa.1 x.aN.length xa.2) U S9 (ag (n:=l.ah.length) 8 U (eM (by rw [qU A I]; exact G))) b U dc U) ?_
 refine fS U (IA i U (ag (n:=l.ah.length) 8 U (eM (by rw [qU A I]; exact G))) uQ dc I I) ?_
 refine fS U (mW ((i*2)+1) U (ag (n:=l.ah.length) 8 U (eM (by rw [qU A I]; exact G))) (Nat.mul_pos I dc) Kr U) ?_
 refine eT U<|gS U fun T20 V=>ld U pz U fun f=>aA (V _ _ (aG [1,2,3,4,5,6,7,8]) (aG [1,2,3,4,5,6,7,8,9]) ?_)
 refine gS U fun T22 W=>cR (es:=(List.map bJ.cells [])) (C':=[own (some ⟨f,0,none⟩) 0 55 3 (List.map bJ.cells []),_,_,_,_,_,_,_,_,_]) 0 U sm U (by simp [maxLen]) U ?_
 refine ck (es2:=(List.map bJ.cells x.aN)) (m':=x.aN.length) 0 U U U yA U U sm (show iA _ (rd xa.1 x.aN.length 3 (x.aN.map bJ.cells)).holds from (dA 6 U (bM hx J (by simp [ao.gP])))) (e_ _) (by have:=Z.2.2.2 x (aT hx); simp; omega) (by have:=Z.2.2.2 x (aT hx); simp only [maxLen]; simp; omega) sm sm U fun C E=>?_
 try dsimp only
 refine Ge 0 U fun s=>aA (W _ _ (aG [1,2,3,4,5,6,7,8]) (aG [1,2,3,4,5,6,7,8,9]) ?_)
 refine cf U fun T25 X=>dk (k:=i) (o:=1) (vs:=[(vS C x.aN.length E)]) (es':=(List.zipWith ao.cells l.ah (sh (bz++[(C,E)]) az (i+1)))) (C':=[_,_,_,_,_,_,_,_,_,(own B D 53 2 (List.zipWith ao.cells l.ah (sh (bz++[(C,E)]) az (i+1))))]) 9 U U U Kp U U U U b U dc (by exact Oz (nw:=(C,E)) hx A J) U<|aA (X _ _ (aG [1,2,3,4,5,6,7,8]) ?_)
 refine fO U<|aH<|KK S<|al<|rP 3 [] mn ?_
 refine aA<|zA (X':=aW ao.owns (l.ah.take (i+1)) (bz++[(C,E)])) 8 0 U U (GW (nw:=(C,E)) hx A) ?_
 have Y:(vI (((i+1):Nat):Int))=(vI ((i:Int)+1)):=by exact cI I
 refine aV (M ⟨((i+1),(bz++[(C,E)])),⟨I,by simp; omega,CM F A hx (by simpa using s)⟩⟩ _ _ _ U os (dF.cons U<|dF.cons U<|bk U Y<|dF.nil _) (aG [1,2,3,4,5,6,7,0,8]))
end
section
open Go.RowKit
theorem Nl (r:cE) (sgA:OA) (sgC:Nat) (hsl:r.ai.length≤1000000):
 lB Tryz.prog 46 [(vA (d_.cells (mh r sgA sgC)))] [(rd sgA r.ai.length 2 (r.ai.map aK.cells))] (fun (x:(OA)×Nat)=>(vA (d_.cells (d_.mk r.Start r.gp (bj.mk x.1 r.ai.length x.2))))) (fun (x:(OA)×Nat)=>True) (fun (x:(OA)×Nat)=>[(own x.1 x.2 107 2 (r.ai.map aK.cells))]):=by
 refine di kr Tryz.func46 U U fun AA Q hQ hN=>?_
 try dsimp only
 refine WS fun _ A=>gd U fun G=>AL U Un fun H=>RK A<|WS fun _ B=>ld U yK U fun F=>rP 2 [] (mc 2 U mn) ?_
 refine cR (es:=(List.map aK.cells [])) (C':=[own (some ⟨F,0,none⟩) 0 107 2 (List.map aK.cells []),_,_,_]) 0 U sm U (by simp [maxLen]) U ?_
 refine ck (es2:=(List.map aK.cells r.ai)) (m':=r.ai.length) 0 U U U SI U U sm (aC 3 U) (oS _) os (by first|(simp only [maxLen]; omega)|(simp [maxLen]; omega)) sm sm U fun D E=>?_
 try dsimp only
 refine bo 1 U<|U0 (d_.cells (mh r D E)) U TX U U<|RK B<|WS fun _ C=>rP 1 [] (mc 2 U mn) ?_
 refine ti U Q_ U<|RK C<|ar<|LX hQ (D,E) [0] [0] (mc 1 U mn) U U U U ?_
 trivial
end
section
open Go.RowKit
theorem EK (r:bY) (kA:OA) (kC:Nat) (az:List RA) (cA:OA) (cC:Nat) (bA:OA) (bC:Nat) (slA:OA) (slC:Nat) (drA:OA) (drC:Nat) (ha:List cK) (heA:OA) (heC:Nat) (hin:fp r az ha) (hng: ¬ nR r):
 lB Tryz.prog 11 [(vA (cm.cells (oz r kA kC cA cC bA bC slA slC drA drC heA heC)))] [(rd kA r.an.aL.length 9 (r.an.aL.map ak.cells)),(rd cA r.an.ah.length 2 (List.zipWith ao.cells r.an.ah az)),(e9 (aW ao.gP r.an.ah az)),(rd bA r.an.ae.length 4 (r.an.ae.map bE.cells)),(rd slA r.aM.length 1 (r.aM.map iC)),(rd drA r.bK.length 1 (r.bK.map iC)),(rd heA r.aq.length 1 (List.zipWith cD r.aq ha)),(e9 (aW iy r.aq ha))] (fun (x:(OA)×Nat×(OA)×Nat×(List RA)×(OA)×Nat×(OA)×Nat×(OA)×Nat×(OA)×Nat×(List cK))=>(vA (cm.cells (cm.mk (bZ.mk (bB.mk (bj.mk x.1 r.an.aL.length x.2.1)) r.an.gk (bj.mk x.2.2.1 r.an.ah.length x.2.2.2.1) (bj.mk x.2.2.2.2.2.1 r.an.ae.length x.2.2.2.2.2.2.1) r.an.bU r.an.dN r.an.cw) (bj.mk x.2.2.2.2.2.2.2.1 r.aM.length x.2.2.2.2.2.2.2.2.1) (bj.mk x.2.2.2.2.2.2.2.2.2.1 r.bK.length x.2.2.2.2.2.2.2.2.2.2.1) r.gX (bj.mk x.2.2.2.2.2.2.2.2.2.2.2.1 r.aq.length x.2.2.2.2.2.2.2.2.2.2.2.2.1))))) (fun (x:(OA)×Nat×(OA)×Nat×(List RA)×(OA)×Nat×(OA)×Nat×(OA)×Nat×(OA)×Nat×(List cK))=>(x.2.2.2.2.1.length=r.an.ah.length∧oD r.an.ah x.2.2.2.2.1)∧si r.aq x.2.2.2.2.2.2.2.2.2.2.2.2.2) (fun (x:(OA)×Nat×(OA)×Nat×(List RA)×(OA)×Nat×(OA)×Nat×(OA)×Nat×(OA)×Nat×(List cK))=>[(own x.1 x.2.1 153 9 (r.an.aL.map ak.cells)),(own x.2.2.1 x.2.2.2.1 53 2 (List.zipWith ao.cells r.an.ah x.2.2.2.2.1)),(br (aW ao.owns r.an.ah x.2.2.2.2.1)),(own x.2.2.2.2.2.1 x.2.2.2.2.2.2.1 160 4 (r.an.ae.map bE.cells)),(own x.2.2.2.2.2.2.2.1 x.2.2.2.2.2.2.2.2.1 3 1 (r.aM.map iC)),(own x.2.2.2.2.2.2.2.2.2.1 x.2.2.2.2.2.2.2.2.2.2.1 3 1 (r.bK.map iC)),(own x.2.2.2.2.2.2.2.2.2.2.2.1 x.2.2.2.2.2.2.2.2.2.2.2.2.1 56 1 (List.zipWith cD r.aq x.2.2.2.2.2.2.2.2.2.2.2.2.2)),(br (aW iz r.aq x.2.2.2.2.2.2.2.2.2.2.2.2.2))]):=by
 have p:=hin.line
 have Hi:=hin.iW
 have G:=hin.has
 have Gm:=hin.jd
 have Fn:=hin.draw
 have Go:=dQ (r:=r)
 have Ci:=Gv hng
 refine di kr Tryz.func11 U U fun w0 Q hQ hN=>?_
 try dsimp only
 refine WS fun _ Di=>gd U fun b2=>AL U yF fun b3=>RK Di<|WS fun _ Do=>rP 1 [] mn ?_
 refine rS (LP (bZ.cells (lJ r.an kA kC cA cC bA bC)) 1 U cj U U U)<|cX (Nd r.an kA kC az cA cC bA bC (by exact p) (by exact Ci.1)) (bp [2,3,4,5]) U fun y5 FT=>?_
 obtain ⟨T,V,AA,L,s,K,N⟩:=y5
 try dsimp only
 obtain ⟨EQ,Eq⟩:=FT
 refine bo 1 U<|V6 (cm.cells (cm.mk (bZ.mk (bB.mk (bj.mk T r.an.aL.length V)) r.an.gk (bj.mk AA r.an.ah.length L) (bj.mk K r.an.ae.length N) r.an.bU r.an.dN r.an.cw) (bj.mk slA r.aM.length slC) (bj.mk drA r.bK.length drC) r.gX (bj.mk heA r.aq.length heC))) U Qz U U<|RK Do<|WS fun _ v=>ld U cL U fun Cx=>rP 2 [] (mc 6 U mn) ?_
 refine cR (es:=(List.map iC [])) (C':=[own (some ⟨Cx,0,none⟩) 0 3 1 (List.map iC []),_,_,_,_,_,_,_,_,_,_,_,_,_,_]) 0 U sm U (by simp [maxLen]) U ?_
 refine ck (es2:=(List.map iC r.aM)) (m':=r.aM.length) 0 U U U pw U U sm (aC 11 U) (jP _) (by simp; omega) (by simp only [maxLen]; simp; omega) sm sm U fun X Y=>?_
 try dsimp only
 refine bo 1 U<|UF (cm.cells (cm.mk (bZ.mk (bB.mk (bj.mk T r.an.aL.length V)) r.an.gk (bj.mk AA r.an.ah.length L) (bj.mk K r.an.ae.length N) r.an.bU r.an.dN r.an.cw) (bj.mk X r.aM.length Y) (bj.mk drA r.bK.length drC) r.gX (bj.mk heA r.aq.length heC))) U xN U U<|RK v<|WS fun _ w=>ld U cL U fun C0=>rP 2 [] (mc 7 U mn) ?_
 refine cR (es:=(List.map iC [])) (C':=[own (some ⟨C0,0,none⟩) 0 3 1 (List.map iC []),_,_,_,_,_,_,_,_,_,_,_,_,_,_,_]) 0 U sm U (by simp [maxLen]) U ?_
 refine ck (es2:=(List.map iC r.bK)) (m':=r.bK.length) 0 U U U pw U U sm (aC 13 U) (jP _) (by simp; omega) (by simp only [maxLen]; simp; omega) sm sm U fun g j=>?_
 try dsimp only
 refine bo 1 U<|Wa (cm.cells (cm.mk (bZ.mk (bB.mk (bj.mk T r.an.aL.length V)) r.an.gk (bj.mk AA r.an.ah.length L) (bj.mk K r.an.ae.length N) r.an.bU r.an.dN r.an.cw) (bj.mk X r.aM.length Y) (bj.mk g r.bK.length j) r.gX (bj.mk heA r.aq.length heC))) U xN U U<|RK w<|WS fun _ AC=>ld U ou U fun C1=>rP 2 [] (mc 8 U mn) ?_
 refine cR (es:=(List.map sC [])) (C':=[own (some ⟨C1,0,none⟩) 0 56 1 (List.map sC []),_,_,_,_,_,_,_,_,_,_,_,_,_,_,_,_]) 0 U sm U (by simp [maxLen]) U ?_
 refine ck (es2:=(List.zipWith cD r.aq ha)) (m':=r.aq.length) 0 U U U S5 U U sm (aC 15 U) (zN _ _) (by simp; omega) (by simp only [maxLen]; simp; omega) sm (du G) U fun J M=>?_
 try dsimp only
 refine bo 1 U<|Wd (cm.cells (cm.mk (bZ.mk (bB.mk (bj.mk T r.an.aL.length V)) r.an.gk (bj.mk AA r.an.ah.length L) (bj.mk K r.an.ae.length N) r.an.bU r.an.dN r.an.cw) (bj.mk X r.aM.length Y) (bj.mk g r.bK.length j) r.gX (bj.mk J r.aq.length M))) U Sv U U<|RK AC<|aj fun _ AO=>WS fun _ AS=>rP 1 [] mn ?_
 refine RK AS<|ax<|lV ?_
 have F:(0≤r.aq.length)∧(([]:List cK).length=0)∧(∀ (k:Nat) y (a:cK),r.aq[k]? =some y→([]:List cK)[k]? =some a→a.2.length=y.length):=by exact ⟨Nat.zero_le _,rfl,fun k y a _ q=>by simp at q⟩
 refine bL (ι:={z:Nat×(List cK) // (z.1≤r.aq.length)∧(z.2.length=z.1)∧(∀ (k:Nat) y (a:cK),r.aq[k]? =some y→z.2[k]? =some a→a.2.length=y.length)}) [1,2] [2,3,4,5,6,7,8,9,10,11,12,13,14,15,16,17] U U (fun z=>[(3,(vI (z.1.1:Int)))]) (fun z=>[(br (aW iz (r.aq.take z.1.1) z.1.2)),(own J M 56 1 (List.zipWith cD r.aq (jh z.1.2 ha z.1.1)))]) (fun _=>rfl) (fun _=>rfl) (fun z=>r.aq.length-z.1.1) ⟨(0,([]:List cK)),F⟩ (aU U) (aG [2,3,4,5,6,7,8,9,10,11,12,13,14,15,16,17,0,1]) ?_
 clear F
 rintro ⟨⟨h,hz⟩,⟨m,B,S⟩⟩ J28 t
 try dsimp only at m B S
 try dsimp only
 refine aj fun _ Ao=>WS fun _ Ap=>rP 5 [] (mc 7 U mn) ?_
 refine RK Ap<|bS U (aP fun C3=>?_) (aQ fun C3=>?_)
 ·refine bD<|ab<|ab<|ay<|KK AO<|aj fun _ A6=>?_
  have FR:si r.aq hz:=⟨I,S⟩
  rw [show (jh hz ha h)=hz from qq I,show r.aq.take h=r.aq from List.take_of_length_le I]
  refine al<|rP 1 [] (mc 7 U mn) ?_
  refine O6 U rZ U<|RK A6<|ar ?_
  refine LX hQ (T,V,AA,L,s,K,N,X,Y,g,j,J,M,hz) [2,3,4,5,1,0,17,16] [0] (mc 6 U mn) U (by show List.all _ _=true; simp only [fE,List.all_nil,fQ,jZ,Bool.and_true]; rfl) U U ?_
  exact ⟨⟨EQ,Eq⟩,FR⟩
 refine WK Ao<|aj fun _ A0=>ax<|aj fun _ A1=>dK cx [3,9,11] [6,7,8] [0,1] [0,1,2,3,4,5,6,7,8,9,10,11,12,13,14,15,16] [0,1,2,3,4,5,6,7,8,9,10,11,12,13,14,15,16,17] U U U U U<|eS U (FA 10 U fw U)<|eS U (L1 (vS J r.aq.length M) 7 U cj U U)<|eS U (MV U)<|eS U (FA 10 U fw U)<|eS U (L1 (vS J r.aq.length M) 7 U cj U U)<|eS U (MV U) ?_
 obtain ⟨ht,AB⟩:=aJ r.aq h I
 obtain ⟨C,O⟩:=aJ ha h I
 have e:(List.zipWith cD r.aq (jh hz ha h))[h]? =some (cD ht C):=dG AB (uk B O)
 have Ck:=hin.m8 _ _ _ AB O
 have H:=Ck.oo
 have Cp:=Ci.2.2.2.2 ht (aT AB)
 refine fS U (IA h U (ag (n:=r.aq.length) 17 U (du (by rw [eJ B I]; exact G))) ou dc I I) ?_
 refine fS U (gi h 0 (vS C.1.1 ht.length C.1.2) U cj (ag (n:=r.aq.length) 17 U (du (by rw [eJ B I]; exact G))) e U dc U) ?_
 refine fS U (IA h U (ag (n:=r.aq.length) 17 U (du (by rw [eJ B I]; exact G))) ou dc I I) ?_
 refine eT U<|gS U fun T34 A7=>ld U ug U fun C2=>aA (A7 _ _ (aG [1,2,3,4,5,6,7,8,9,10,11,12,13,14,15,16,17]) (aG [1,2,3,4,5,6,7,8,9,10,11,12,13,14,15,16,17,18]) ?_)
 refine gS U fun T36 A8=>cR (es:=(List.map bq.cells [])) (C':=[own (some ⟨C2,0,none⟩) 0 62 7 (List.map bq.cells []),_,_,_,_,_,_,_,_,_,_,_,_,_,_,_,_,_,_]) 0 U sm U (by simp [maxLen]) U ?_
 refine ck (es2:=(List.zipWith aw.cells ht C.2)) (m':=ht.length) 0 U U U Sc U U sm (show iA _ (rd C.1.1 ht.length 7 (List.zipWith aw.cells ht C.2)).holds from (dA 16 U (bM AB O cq))) (GH _ _) (by simp; omega) (by simp only [maxLen]; simp; omega) sm (j9 H) U fun D E=>?_
 try dsimp only
 refine aA (A8 _ _ (aG [1,2,3,4,5,6,7,8,9,10,11,12,13,14,15,16,17]) (aG [1,2,3,4,5,6,7,8,9,10,11,12,13,14,15,16,17,18]) ?_)
 refine cf U fun T39 A9=>dk (k:=h) (o:=0) (vs:=[(vS D ht.length E)]) (es':=(List.zipWith cD r.aq (jh (hz++[((D,E),C.2)]) ha (h+1)))) (C':=[_,_,_,_,_,_,_,_,_,_,_,_,_,_,_,_,_,_,(own J M 56 1 (List.zipWith cD r.aq (jh (hz++[((D,E),C.2)]) ha (h+1))))]) 18 U U U SA U U U U e U dc (by exact qL (b:=((D,E),C.2)) AB B O) U<|aA (A9 _ _ (aG [1,2,3,4,5,6,7,8,9,10,11,12,13,14,15,16,17]) ?_)
 refine fO U<|KK A1<|WS fun _ A2=>rP 1 [] mn ?_
 refine RK A2<|ax<|lV ?_
 have F:(0≤ht.length)∧(([]:List RA).length=0):=by exact ⟨Nat.zero_le _,rfl⟩
 refine bL (ι:={z:Nat×(List RA) // (z.1≤ht.length)∧(z.2.length=z.1)}) [1,2,3] [2,3,4,5,6,7,8,9,10,11,12,13,14,15,16,17,18,19] U U (fun z=>[(4,(vI (z.1.1:Int)))]) (fun z=>[(br (aW nt (ht.take z.1.1) z.1.2)),(own D E 62 7 (List.zipWith aw.cells ht (jh z.1.2 C.2 z.1.1)))]) (fun _=>rfl) (fun _=>rfl) (fun z=>ht.length-z.1.1) ⟨(0,([]:List RA)),F⟩ (aU U) (aG [2,3,4,5,6,7,8,9,10,11,12,13,14,15,16,17,18,19,0,1]) ?_
 clear F
 rintro ⟨⟨i,dz⟩,⟨Z,A⟩⟩ J41 u
 try dsimp only at Z A
 try dsimp only
 refine aj fun _ A3=>WS fun _ A4=>rP 4 [] (mc 7 U mn) ?_
 have W:(List.zipWith cD r.aq (jh (hz++[((D,E),C.2)]) ha (h+1)))[h]? =some (cD ht ((D,E),C.2)):=dG AB (Dg B)
 refine rS (IA h U (ag (n:=r.aq.length) 17 U (du (by rw [eJ (by simp; omega) I]; exact G))) ou dc I I) ?_
 refine rS (gi h 0 (vS D ht.length E) U cj (ag (n:=r.aq.length) 17 U (du (by rw [eJ (by simp; omega) I]; exact G))) W U dc U) ?_
 refine rP 2 [] mn ?_
 refine RK A4<|bS U (aP fun DL=>?_) (aQ fun DL=>?_)
 ·refine bD<|ab<|ab<|ay<|aH<|KK A0<|al<|rP 3 [] mn ?_
  refine aA ?_
  have GE:dz.length=ht.length:=by omega
  rw [show (jh dz C.2 i)=dz from qq I,show ht.take i=ht from List.take_of_length_le I]
  refine JF (Z':=aW iz (r.aq.take (h+1)) (hz++[((D,E),dz)])) 16 18 19 U U (n8 (f:=iz) (b:=((D,E),dz)) AB B) ?_
  rw [Df (y:=dz)]
  have B9:(vI (((h+1):Nat):Int))=(vI ((h:Int)+1)):=by exact cI I
  refine aV (t ⟨((h+1),(hz++[((D,E),dz)])),⟨I,by simp; omega,Gi AB S B dso⟩⟩ _ _ _ U os (dF.cons U<|dF.cons U<|bk U B9<|dF.nil _) (aG [1,2,3,4,5,6,7,8,9,10,11,12,13,14,15,16,0,17]))
 refine WK A3<|aj fun _ A5=>ax<|dK cx [15,18] [12,13,14,15,16] [0] [0,1,2,3,4,5,6,7,8,9,10,11,12,13,14,15,16,17,18] [0,1,2,3,4,5,6,7,8,9,10,11,12,13,14,15,16,17,18,19] U U U U U<|eS U (FA 10 U fw U)<|eS U (L1 (vS J r.aq.length M) 7 U cj U U)<|eS U (MV U) ?_
 refine eS U (IA h U (ag (n:=r.aq.length) 17 U (du (by rw [eJ (by simp; omega) I]; exact G))) ou dc I I) ?_
 refine eS U (gi h 0 (vS D ht.length E) U cj (ag (n:=r.aq.length) 17 U (du (by rw [eJ (by simp; omega) I]; exact G))) W U dc U) ?_
 refine eS U (MV U)<|eS U (FA 10 U fw U)<|eS U (L1 (vS J r.aq.length M) 7 U cj U U)<|eS U (MV U) ?_
 refine eS U (IA h U (ag (n:=r.aq.length) 17 U (du (by rw [eJ (by simp; omega) I]; exact G))) ou dc I I) ?_
 refine eS U (gi h 0 (vS D ht.length E) U cj (ag (n:=r.aq.length) 17 U (du (by rw [eJ (by simp; omega) I]; exact G))) W U dc U) ?_
 refine eS U (MV U) ?_
 obtain ⟨d,hd⟩:=aJ ht i I
 obtain ⟨da,l⟩:=aJ C.2 i I
 have Ca:(List.zipWith aw.cells ht (jh dz C.2 i))[i]? =some (aw.cells d da):=dG hd (uk A l)
 have FS:=Ck.sig d (aT hd)
 have GT:=Cp.2 d (aT hd)
 refine fS U (IA i U (ag (n:=ht.length) 19 U (j9 (by rw [eJ A I]; exact H))) ug dc I I) ?_
 refine fS U (mW ((i*7)+4) U (ag (n:=ht.length) 19 U (j9 (by rw [eJ A I]; exact H))) (Nat.mul_pos I dc) fw U) ?_
 refine fS U (oY i 4 (d_.cells (d_.mk d.cv.Start d.cv.gp (bj.mk da.1 d.cv.ai.length da.2))) U cj (ag (n:=ht.length) 19 U (j9 (by rw [eJ A I]; exact H))) Ca U dc U U) ?_
 refine fS U (IA i U (ag (n:=ht.length) 19 U (j9 (by rw [eJ A I]; exact H))) ug dc I I) ?_
 refine fS U (mW ((i*7)+4) U (ag (n:=ht.length) 19 U (j9 (by rw [eJ A I]; exact H))) (Nat.mul_pos I dc) fw U) ?_
 refine eT U<|gS U fun T46 Bm=>cX (Nl d.cv da.1 da.2 (by exact FS)) (au (show iA _ (rd da.1 d.cv.ai.length 2 (d.cv.ai.map aK.cells)).holds from (dA 15 U (bM AB O (cV _ (bM hd l (by simp [aw.gP]))))))<|aI) U fun Fd Hc=>?_
 obtain ⟨P,R⟩:=Fd
 try dsimp only
 refine aA (Bm _ _ (aG [1,2,3,4,5,6,7,8,9,10,11,12,13,14,15,16,17,18,19]) (aG [1,2,3,4,5,6,7,8,9,10,11,12,13,14,15,16,17,18,19,20]) ?_)
 refine cf U fun T51 B3=>dk (k:=i) (o:=4) (vs:=(d_.cells (mh d.cv P R))) (es':=(List.zipWith aw.cells ht (jh (dz++[(P,R)]) C.2 (i+1)))) (C':=[_,_,_,_,_,_,_,_,_,_,_,_,_,_,_,_,_,_,_,_,(own D E 62 7 (List.zipWith aw.cells ht (jh (dz++[(P,R)]) C.2 (i+1))))]) 20 U U U Q_ U U U U Ca U dc (by exact qL (c:=aw.cells) (b:=(P,R)) hd A l) U<|aA (B3 _ _ (aG [1,2,3,4,5,6,7,8,9,10,11,12,13,14,15,16,17,18,19]) ?_)
 refine fO U<|aH<|KK A5<|al<|rP 3 [] mn ?_
 refine aA<|Ep (Y':=aW nt (ht.take (i+1)) (dz++[(P,R)])) 19 0 U U (n8 (f:=nt) (b:=(P,R)) hd A) ?_
 have B7:(vI (((i+1):Nat):Int))=(vI ((i:Int)+1)):=by exact cI I
 refine aV (u ⟨((i+1),(dz++[(P,R)])),⟨I,by simp; omega⟩⟩ _ _ _ U os (cU 3<|bk U B7<|dF.nil _) (aG [1,2,3,4,5,6,7,8,9,10,11,12,13,14,15,16,17,18,0,19]))
end
section
theorem TN.sub {E:fq} {ops:Array Oper} {Q:df} {D:hP} {C' C1 C:List av} {tb rem:List Nat}: ∀ {n:Nat} {L L':dh},dF L L'→TN E ops D C' C1 (fun L C=>KJ E (Q .normal) D L C) tb n rem L' C→TN E ops D C' C1 (fun L C=>KJ E (Q .normal) D L C) tb n rem L C:=by
 intro n
 cases n with
 |zero=>intro L L' hs h; exact ja hs (fun _ h=>h) h
 |succ n=>intro L L' hs h i hi o ho K hK; exact O_ hs (fun _ h=>h) (h i hi o ho K hK)
theorem Nu {E:fq} {ops:Array Oper} {Q:df} {D:hP} {C' C1 C:List av} {bs:List Bool} {os:List Oper} {L:dh} {tb rem:List Nat} {n:Nat} {t:Nat} {b:Bool} (h:L.lookup t=some (.bool b))
 (h1:b=true→qo E ops D C' C1 (fun L'=>TN E ops D C' C1 (fun L C=>KJ E (Q .normal) D L C) tb n rem L' C) bs os ((t,.bool true)::L)) (h2:b=false→qo E ops D C' C1 (fun L'=>TN E ops D C' C1 (fun L C=>KJ E (Q .normal) D L C) tb n rem L' C) bs os ((t,.bool false)::L)):
 qo E ops D C' C1 (fun L'=>TN E ops D C' C1 (fun L C=>KJ E (Q .normal) D L C) tb n rem L' C) bs os L:=by
 have A: ∀ v:Bool,b=v→dF L ((t,.bool v)::L):=fun v hv=>dF.cons (hv▸h) (fun _ _ h=>h)
 cases b
 ·exact qo.mono (fun _ _=>TN.sub) (A _ U) (h2 U)
 ·exact qo.mono (fun _ _=>TN.sub) (A _ U) (h1 U)
theorem Md {E:fq} {ops:Array Oper} {Q:df} {D:List Deferred} {L:List (Nat×Value)} {C1 C2 C:List av} {t n:Nat} {b:Bool} {bs:List Bool} {os:List Oper} {tb rem:List Nat} (h:L.lookup t=some (.bool b)) (h2:b=false→qo E ops D C2 C1 (fun L2=>TN E ops D C2 C1 (fun L C=>KJ E (Q .normal) D L C) tb n rem L2 C) bs os ((t,.bool false)::L)) (h1:b=true→qo E ops D C2 C1 (fun L2=>TN E ops D C2 C1 (fun L C=>KJ E (Q .normal) D L C) tb n rem L2 C) bs os ((t,.bool true)::L)):qo E ops D C2 C1 (fun L2=>TN E ops D C2 C1 (fun L C=>KJ E (Q .normal) D L C) tb n rem L2 C) bs os L:=Nu h h1 h2
end
section
open Go.RowKit
section
variable {r:bY} {h i:Int} {t:aa} {k:Nat}
end
/-- there is a table -/
theorem AF {r:bY} (he:cM r=0): ∃ G,iH (aD (aF r)) ((aF r).map (·.1)) G∧BX G:=by
 have key: ∀ (L:List Int),Fp (fun u=>(aD (aF r) u).Lo) L→ ∀ i,i≤L.length→ ∃ G last,mD (aD (aF r)) (L.take i) G last:=fun L B i=>by
  induction i with
  |zero=>intro _; exact ⟨[],-1,F7⟩
  |succ i ih=>
   intro hi
   obtain ⟨G,last,hG⟩:=ih I
   have hx:L[i]? =some (L[i]'I):=fc _
   have C:=g8 (i:=L[i]'I) (oh he)
   by_cases hl:last<(aD (aF r) (L[i]'I)).Lo
   ·obtain ⟨g,hg⟩: ∃ g,(G++[[]])[(G++[([]:List Int)]).length-1]? =some g:=⟨_,fc sm⟩
    exact ⟨_,_,p_ I hx hg hG hl⟩
   ·have hp:=FE C.1 hG hl
    obtain ⟨g,hg⟩: ∃ g,G[G.length-1]? =some g:=⟨_,fc I⟩
    exact ⟨_,_,oZ I (fun u _=>(g8 (i:=u) (oh he)).2.1) B hx hg hG hl⟩
 obtain ⟨G,last,hG⟩:=key (eK (fun u=>(aD (aF r) u).Lo) ((aF r).map (·.1))) uV _ (Nat.le_refl _)
 have A:=vK hG.ok
 rw [List.take_length] at A
 exact ⟨_,qH A.1 qx,A.2⟩
theorem vW {r:bY}:(dU r).length≤1000000∧ ∀ l∈dU r,l.length≤1000000:=by
 by_cases he:cM r=0
 ·have E:(aF r).length≤5:=pk he
  have A: ∃ G,iH (aD (aF r)) ((aF r).map (·.1)) G∧BX G:=by
   refine Classical.byContradiction fun hn=>?_
   exact hn (AF he)
  obtain ⟨G,hG,hA⟩:=A
  rw [← uq he hG hA]
  have C:=hG.perm.length_eq
  rw [List.length_map] at C
  have B: ∀ G:List (List Int),(∀ g∈G,g≠[])→G.length≤G.flatten.length:=fun G=>by
   induction G with
   |nil=>intro _; simp
   |cons g G ih=>
    intro hG
    have B:=ih fun y hy=>hG y (cV _ hy)
    have D:=List.length_pos_iff.2 (hG g cq)
    simp only [List.flatten_cons,List.length_cons,List.length_append]; omega
  refine ⟨by have:=B G hG.some_; omega,fun l hl=>?_⟩
  have D:l.length≤G.flatten.length:=(List.sublist_flatten_of_mem hl).length_le
  omega
 ·rw [CD he]; simp
theorem DD {r:bY} {h i:Int} {t:aa}:(ff r h i t).length≤r.aM.length:=by
 unfold ff
 split
 ·refine Nat.le_trans (List.length_filter_le _ _) ?_
  rw [gI,List.length_map]
  exact uW
 ·simp
end
section
open Go.RowKit
/-- a row is taken that was made before; an operation -/
inductive fX where
 |take (i:Nat)
 |op (j:Nat)
def fX.ix:fX→Nat
 | .take i=>i
 | .op j=>j
def BA (dO:Nat→Nat):List fX→List Nat
 |[]=>[]
 | .take i::s=>dO i::BA dO s
 | .op _::s=>BA dO s
theorem tM {dO:Nat→Nat} {i:Nat}: ∀ {s:List fX},fX.take i∈s→dO i∈BA dO s
 | .take k::s,h=>by
  rcases bu.1 h with e|h
  ·cases e; exact cq ..
  ·exact cV _ (tM h)
 | .op k::s,h=>by
  rcases bu.1 h with e|h
  ·cases e
  ·exact tM (s:=s) h
def rB (m:Array Nat) (dO:Nat→Nat) (x y:fX):Bool:=x.ix != y.ix&&(match y with | .op j=>iO m x.ix j| .take i=>match x with | .take k=>dO k != dO i| .op _=>true)
def UI (m:Array Nat) (dO:Nat→Nat):List fX→Bool
 |[]=>true
 |x::s=>s.all (rB m dO x)&&UI m dO s
theorem FQ {m:Array Nat} {dO:Nat→Nat}: ∀ {s:List fX},UI m dO s=true→s.Pairwise fun x y=>rB m dO x y=true
 |[],_=>List.Pairwise.nil
 |x::s,h=>by
  simp only [UI,cS] at h
  exact List.Pairwise.cons (fun y hy=>cW.1 h.1 y hy) (FQ h.2)
/-- what is known of the slots B is known in L -/
def BV (B L:dh):Prop:= ∀ t v,B.lookup t=some v→L.lookup t=some v
theorem wi {B L:dh} (h:B.map (fun p=>L.lookup p.1)=B.map (fun p=>some p.2)):BV B L:=by
 induction B with
 |nil=>intro t v h; simp at h
 |cons p B ih=>
  obtain ⟨k,u⟩:=p
  simp only [List.map_cons,List.cons.injEq] at h
  intro t v hl
  by_cases e:t=k
  ·subst e
   simp only [List.lookup,beq_self_eq_true,Option.some.injEq] at hl
   rw [h.1,hl]
  ·have:(t==k)=false:=by simpa using e
   simp only [List.lookup,this] at hl
   exact ih h.2 t v hl
theorem oj {L Y:dh} {t:Nat}:(L++Y).lookup t=match L.lookup t with |some v=>some v|none=>Y.lookup t:=by
 induction L with
 |nil=>rfl
 |cons p L ih=>
  obtain ⟨k,u⟩:=p
  by_cases e:t==k
  ·simp [List.lookup,e]
  ·have:(t==k)=false:=by simpa using e
   simp only [List.cons_append,List.lookup,this,ih]
theorem BV.app {B L Y:dh} (h:BV B L):BV B (L++Y):=fun t v ht=>by rw [oj,h t v ht]
theorem Q0 {B L:dh} (h:BV B L) {x:Operand} {v:Value} (hv:ev B x=some v):ev L x=some v:=by
 cases x<;>simp only [ev] at hv ⊢ <;>first|exact h _ _ hv|exact hv
theorem GG {B L:dh} (h:BV B L): ∀ {xs:List Operand} {vs:List Value},evs B xs=some vs→evs L xs=some vs
 |[],vs,hv=>hv
 |x::xs,vs,hv=>by
  simp only [evs] at hv ⊢
  cases e1:ev B x with
  |none=>rw [e1] at hv; simp at hv
  |some v=>
   cases e2:evs B xs with
   |none=>rw [e1,e2] at hv; simp at hv
   |some us=>
    rw [e1,e2] at hv
    rw [Q0 h e1,GG h e2]; exact hv
section
variable (E:fq) (ops:Array Oper) (D:List Deferred) (C':List av) (K0:Act→World→Prop) (B:List (Nat×Value)) (dO:Nat→Nat) (VO:Nat→Nat→Value) (AO:Nat→Nat→av)
def CH:List fX→dh→List av→Prop
 |[],L,C=>KJ E K0 D L C
 | .take i::s,L,C=> ∀ b,CH s ((dO i,VO i b)::L) (AO i b::C)
 | .op j::s,L,C=> ∀ o,ops[j]? =some o→ ∀ (Y:dh) (X:List av) (K:Act→World→Prop),(∀ L' C'',(∀ w,St E.S E.w0 C'' w→St E.S E.w0 C' w)→((BA dO s).all fun d=>(L'.lookup d).isNone)=true→B.map (fun p=>L'.lookup p.1)=B.map (fun p=>some p.2)→CH s L' C''→KJ E K D (L'++Y) (C''++X))→RJ E ops (NQ K) [o] D (L++Y) (C++X)
/-- a row that is made at any time -/
def Tm (i:Nat):Prop:= ∀ o,ops[i]? =some o→ ∀ (L:dh) (C:List av) (K:Act→World→Prop),BV B L→(∀ b,KJ E K D ((dO i,VO i b)::L) (AO i b::C))→RJ E ops (NQ K) [o] D L C
end
section
variable {E:fq} {ops:Array Oper} {D:List Deferred} {C' C1:List av} {K0:Act→World→Prop} {B:List (Nat×Value)} {dO:Nat→Nat} {VO:Nat→Nat→Value} {AO:Nat→Nat→av}
theorem GS {Q:df} {rest:List Oper} {L L2:dh} {C C2:List av} (hL: ∀ a,Fr E.n D L a→Fr E.n D L2 a) (hC: ∀ w,St E.S E.w0 C w→St E.S E.w0 C2 w) (h:RJ E ops Q rest D L2 C2):RJ E ops Q rest D L C:=fun a w hf hs=>h a w (hL a hf) (hC w hs)
theorem Bg {K:Act→World→Prop} {L L2:dh} {C C2:List av} (hL: ∀ a,Fr E.n D L a→Fr E.n D L2 a) (hC: ∀ w,St E.S E.w0 C w→St E.S E.w0 C2 w) (h:KJ E K D L2 C2):KJ E K D L C:=fun a w hf hs=>h a w (hL a hf) (hC w hs)
theorem BU {n:Nat} {L L2:dh} (h: ∀ t v,L2.lookup t=some v→L.lookup t=some v) (a:Act) (hf:Fr n D L a):Fr n D L2 a:=⟨hf.defers,hf.size,fun t v ht=>hf.at_ t v (h t v ht)⟩
theorem Fs: ∀ (T0 s':List fX) (dn:List (Nat×Nat)) (L Y:dh) (C:List av),(∀ x∈T0,∃ i b,x= .take i∧(i,b)∈dn)→(T0++s').Pairwise (fun x y=>rB (qk ops) dO x y=true)→(dn.map (·.1)).Nodup→(∀ p∈dn,fX.take p.1∈T0++s')→(∀ p∈dn,Y.lookup (dO p.1)=some (VO p.1 p.2))→(∀ i,fX.take i∈T0++s'→L.lookup (dO i)=none)→
 CH E ops D C' K0 B dO VO AO (T0++s') L C→ ∃ (dn':List (Nat×Nat)) (L':dh) (C2:List av),CH E ops D C' K0 B dO VO AO s' L' C2∧(dn'.map (·.1)).Nodup∧(∀ p,p∈dn'↔p∈dn∧fX.take p.1∈s')∧(∀ t v,(L'++Y).lookup t=some v→(L++Y).lookup t=some v)∧(∀ i,fX.take i∈s'→L'.lookup (dO i)=none)∧(∀ w,St E.S E.w0 (C++dn.map fun p=>AO p.1 p.2) w→St E.S E.w0 (C2++dn'.map fun p=>AO p.1 p.2) w)
 |[],s',dn,L,Y,C,_,_,hn,hm,_,hl,h=>⟨dn,L,C,h,hn,fun p=>⟨fun q=>⟨q,hm p q⟩,fun q=>q.1⟩,fun t v q=>q,hl,fun w q=>q⟩
 |x::T0,s',dn,L,Y,C,ht,hp,hn,hm,hy,hl,h=>by
  obtain ⟨i,b,rfl,hb⟩:=ht x (cq ..)
  obtain ⟨J,P⟩:=List.pairwise_cons.1 hp
  have AB: ∀ y∈T0++s',i≠y.ix:=fun y hy e=>by
   have:=J y hy
   simp only [rB,cS,bne_iff_ne,fX.ix] at this
   exact this.1 e
  have N: ∀ k,fX.take k∈T0++s'→dO k≠dO i:=fun k hk e=>by
   have:=J _ hk
   simp only [rB,cS,bne_iff_ne] at this
   exact this.2 e.symm
  have K:dn.Perm ((i,b)::dn.erase (i,b)):=List.perm_cons_erase hb
  have H:((dn.erase (i,b)).map (·.1)).Nodup∧i ∉ (dn.erase (i,b)).map (·.1):=by
   have:=(K.map (·.1)).nodup_iff.1 hn
   exact ⟨(List.nodup_cons.1 this).2,(List.nodup_cons.1 this).1⟩
  have A: ∀ p∈dn.erase (i,b),p∈dn∧p.1≠i:=fun p hp=>⟨List.mem_of_mem_erase hp,fun e=>by have q:=List.mem_map_of_mem (f:=fun p:Nat×Nat=>p.1) hp; simp only [e] at q; exact H.2 q⟩
  have O:L.lookup (dO i)=none:=hl i (cq ..)
  obtain ⟨dn',L',C2,R,T,AA,V,W,X⟩:=Fs T0 s' (dn.erase (i,b)) ((dO i,VO i b)::L) Y (AO i b::C) (fun x hx=>by
   obtain ⟨k,c,rfl,hk⟩:=ht x (cV _ hx)
   refine ⟨k,c,U,?_⟩
   have F:k≠i:=fun e=>AB _ (List.mem_append_left _ hx) e.symm
   exact (List.mem_erase_of_ne (fun e=>F (congrArg Prod.fst e))).2 hk) P H.1 (fun p hp=>by
   obtain ⟨M,G⟩:=A p hp
   rcases bu.1 (hm p M) with e|e
   ·injection e with e; exact absurd e G
   ·exact e) (fun p hp=>hy p (A p hp).1) (fun k hk=>by
   have:(dO k==dO i)=false:=by simpa using N k hk
   simp only [List.lookup,this]
   exact hl k (cV _ hk)) (h b)
  refine ⟨dn',L',C2,R,T,fun p=>?_,fun t v hv=>?_,W,fun w hw=>X w ?_⟩
  ·rw [AA]
   constructor
   ·rintro ⟨M,G⟩; exact ⟨(A p M).1,G⟩
   ·rintro ⟨M,G⟩
    have F:p.1≠i:=fun e=>AB _ (List.mem_append_right _ G) e.symm
    exact ⟨(List.mem_erase_of_ne (fun e=>F (congrArg Prod.fst e))).2 M,G⟩
  ·have:=V t v hv
   rw [oj] at this ⊢
   by_cases e:t=dO i
   ·subst e
    simp only [List.lookup,beq_self_eq_true] at this
    rw [O]; simp only
    rw [hy _ hb]; exact this
   ·have Q:(t==dO i)=false:=by simpa using e
    simp only [List.lookup,Q] at this
    exact this
  ·refine hw.perm ?_
   show (C++dn.map fun p=>AO p.1 p.2).Perm (AO i b::(C++(dn.erase (i,b)).map fun p=>AO p.1 p.2))
   refine ((K.map fun p:Nat×Nat=>AO p.1 p.2).append_left C).trans ?_
   exact List.perm_middle
theorem Cy: ∀ (s:List fX) (j:Nat),fX.op j∈s→ ∃ T0 k s',s=T0++fX.op k::s'∧ ∀ x∈T0,∃ i,x=fX.take i
 | .take i::s,j,h=>by
  rcases bu.1 h with e|h
  ·cases e
  ·obtain ⟨T0,k,s',rfl,A⟩:=Cy s j h
   exact ⟨.take i::T0,k,s',U,fun x hx=>by
    rcases bu.1 hx with rfl|hx
    ·exact ⟨i,U⟩
    ·exact A x hx⟩
 | .op k::s,j,_=>⟨[],k,s,rfl,fun x hx=>by cases hx⟩
def kQ (s:List fX) (dn:List (Nat×Nat)):List Nat:=(s.map fX.ix).filter fun i=> !(dn.map (·.1)).contains i
theorem rT {s:List fX} {dn:List (Nat×Nat)} {i:Nat}:i∈kQ s dn↔(∃ x∈s,x.ix=i)∧ ∀ p∈dn,p.1≠i:=by
 unfold kQ
 rw [List.mem_filter,bX]
 refine and_congr Iff.rfl ?_
 rw [Bool.not_eq_true',← Bool.not_eq_true,List.contains_iff_mem,bX]
 constructor
 ·intro h p hp e; exact h ⟨p,hp,e⟩
 ·rintro h ⟨p,hp,e⟩; exact h p hp e
theorem qu (hal: ∀ i,Tm E ops D B dO VO AO i∨True): ∀ (n:Nat) (s:List fX) (dn:List (Nat×Nat)) (L Y:dh) (C:List av),(∀ i,fX.take i∈s→Tm E ops D B dO VO AO i)→s.Pairwise (fun x y=>rB (qk ops) dO x y=true)→(kQ s dn).length=n→(dn.map (·.1)).Nodup→(∀ p∈dn,fX.take p.1∈s)→(∀ p∈dn,Y.lookup (dO p.1)=some (VO p.1 p.2))→(∀ i,fX.take i∈s→L.lookup (dO i)=none)→BV B L→
 (∀ w,St E.S E.w0 C w→St E.S E.w0 C' w)→CH E ops D C' K0 B dO VO AO s L C→TN E ops D C' C1 (fun L C=>KJ E K0 D L C) [] n (kQ s dn) (L++Y) (C++dn.map fun p=>AO p.1 p.2)
 |0,s,dn,L,Y,C,_,hp,hlen,hn,hm,hy,hl,hB,hC,h=>by
  have hr:kQ s dn=[]:=jX hlen
  have Q: ∀ x∈s,∃ i b,x=fX.take i∧(i,b)∈dn:=fun x hx=>by
   have hx':x.ix ∉ kQ s dn:=by rw [hr]; exact List.not_mem_nil
   rw [rT] at hx'
   have: ∃ p∈dn,p.1=x.ix:=by
    apply Classical.byContradiction
    intro q
    exact hx' ⟨⟨x,hx,U⟩,fun p hp e=>q ⟨p,hp,e⟩⟩
   obtain ⟨p,T,AA⟩:=this
   have ht:=hm p T
   rcases List.mem_iff_getElem.1 hx with ⟨a,ha,ea⟩
   rcases List.mem_iff_getElem.1 ht with ⟨c,hc,ec⟩
   have d:a=c:=by
    rcases Nat.lt_trichotomy a c with q|q|q
    ·have:=eQ.1 hp a c ha hc q
     simp only [rB,cS,bne_iff_ne,ea,ec] at this
     exact absurd AA.symm this.1
    ·exact q
    ·have:=eQ.1 hp c a hc ha q
     simp only [rB,cS,bne_iff_ne,ea,ec] at this
     exact absurd AA this.1
   subst d
   exact ⟨p.1,p.2,by rw [← ea,ec],T⟩
  obtain ⟨dn',L',C2,V,J,O,W,h5,X⟩:=Fs s [] dn L Y C Q (by simpa using hp) hn (by simpa using hm) hy (by simpa using hl) (by simpa using h)
  show KJ E K0 D _ _
  have hd:dn'=[]:=List.eq_nil_iff_forall_not_mem.2 fun p hp=>by have:=((O p).1 hp).2; cases this
  subst hd
  refine Bg (L2:=L') (C2:=C2) (fun a hf=>BU (fun t v ht=>W t v (by rw [oj,ht])) a hf) (fun w hw=>by have:=X w hw; simpa using this) V
 |n+1,s,dn,L,Y,C,hal',hp,hlen,hn,hm,hy,hl,hB,hC,h=>by
  intro i hi o ho K hK
  obtain ⟨G,m⟩:=List.mem_filter.1 hi
  obtain ⟨⟨x,hx,rfl⟩,H⟩:=rT.1 G
  have A: ∀ k∈kQ s dn,iO (qk ops) k x.ix=false:=fun k hk=>by
   have:=cW.1 m k hk
   simpa using this
  cases x with
  |take i=>
   simp only [fX.ix] at H A ho hK G ⊢
   refine hal' i hx o ho _ _ K hB.app fun b=>?_
   have l:=hl i hx
   have AB:(kQ s dn).filter (· != i)=kQ s ((i,b)::dn):=by
    unfold kQ
    rw [List.filter_filter]
    apply List.filter_congr
    intro k _
    simp only [List.map_cons,List.contains_cons,Bool.not_or]
    rfl
   have N:(kQ s dn).Nodup:=by
    unfold kQ
    refine List.Nodup.sublist List.filter_sublist<|List.pairwise_map.2 (hp.imp fun {a c} q=>?_)
    simp only [rB,cS,bne_iff_ne] at q
    exact q.1
   have M: ∀ k,fX.take k∈s→k≠i→dO k≠dO i:=fun k hk AC e=>by
    rcases List.mem_iff_getElem.1 hx with ⟨a,ha,ea⟩
    rcases List.mem_iff_getElem.1 hk with ⟨c,hc,ec⟩
    rcases Nat.lt_trichotomy a c with q|q|q
    ·have:=eQ.1 hp a c ha hc q
     simp only [rB,cS,bne_iff_ne,ea,ec] at this
     exact this.2 e.symm
    ·subst q; rw [ea] at ec; cases ec; exact AC rfl
    ·have:=eQ.1 hp c a hc ha q
     simp only [rB,cS,bne_iff_ne,ea,ec] at this
     exact this.2 e
   refine Bg (L2:=L++((dO i,VO i b)::Y)) (C2:=C++((i,b)::dn).map fun p=>AO p.1 p.2) (fun a hf=>BU (fun t v ht=>?_) a hf) (fun w hw=>hw.perm (List.perm_middle).symm) (hK _ _ (fun w hw=>hC w (hw.take (List.sublist_append_left _ _))) (fun q=>by cases q) ?_)
   ·rw [oj] at ht
    by_cases e:t=dO i
    ·subst e
     rw [l] at ht
     simp only [List.lookup,beq_self_eq_true] at ht ⊢
     exact ht
    ·have e2:(t==dO i)=false:=by simpa using e
     simp only [List.lookup,e2] at ht ⊢
     rw [oj]; exact ht
   ·rw [AB]
    refine qu hal n s ((i,b)::dn) L ((dO i,VO i b)::Y) C hal' hp ?_ (List.nodup_cons.2 ⟨fun q=>?_,hn⟩) (fun p hp'=>?_) (fun p hp'=>?_) hl hB hC h
    ·rw [← AB,← List.Nodup.erase_eq_filter N,List.length_erase_of_mem G,hlen]; rfl
    ·obtain ⟨p,hp',e⟩:=bX.1 q
     exact H p hp' e
    ·rcases bu.1 hp' with rfl|hp'
     ·exact hx
     ·exact hm p hp'
    ·rcases bu.1 hp' with rfl|hp'
     ·simp [List.lookup]
     ·have:(dO p.1==dO i)=false:=by simpa using M p.1 (hm p hp') (H p hp')
      simp only [List.lookup,this]
      exact hy p hp'
  |op j=>
   simp only [fX.ix] at H A ho hK G ⊢
   obtain ⟨T0,k,s',rfl,hT⟩:=Cy s j hx
   obtain ⟨q1,q2,q3⟩:=List.pairwise_append.1 hp
   obtain ⟨q4,q5⟩:=List.pairwise_cons.1 q2
   have R: ∀ k',fX.op k'∈T0++fX.op k::s'→k'∈kQ (T0++fX.op k::s') dn:=fun k' hk'=>by
    refine rT.2 ⟨⟨_,hk',U⟩,fun p hp' e=>?_⟩
    have ht:=hm p hp'
    rcases List.mem_iff_getElem.1 hk' with ⟨a,ha,ea⟩
    rcases List.mem_iff_getElem.1 ht with ⟨c,hc,ec⟩
    rcases Nat.lt_trichotomy a c with q|q|q
    ·have:=eQ.1 hp a c ha hc q
     simp only [rB,cS,bne_iff_ne,ea,ec,fX.ix] at this
     exact this.1 e.symm
    ·subst q; rw [ea] at ec; cases ec
    ·have:=eQ.1 hp c a hc ha q
     simp only [rB,cS,bne_iff_ne,ea,ec,fX.ix] at this
     exact this.1 e
   have AS:k=j:=by
    apply Classical.byContradiction
    intro Ao
    have hj':fX.op j∈s':=by
     rcases dM.1 hx with q|q
     ·obtain ⟨i,e⟩:=hT _ q; cases e
     ·rcases bu.1 q with e|q
      ·injection e with e; exact absurd e.symm Ao
      ·exact q
    have:=q4 _ hj'
    simp only [rB,cS,fX.ix] at this
    have J:=A k (R k sm)
    rw [this.2] at J; cases J
   subst AS
   have F: ∀ x∈T0,∃ i b,x=fX.take i∧(i,b)∈dn:=fun x hx'=>by
    obtain ⟨i,rfl⟩:=hT x hx'
    apply Classical.byContradiction
    intro q
    have r:i∈kQ (T0++fX.op k::s') dn:=rT.2 ⟨⟨_,List.mem_append_left _ hx',rfl⟩,fun p hp' e=>q ⟨i,p.2,rfl,by rw [← e]; exact hp'⟩⟩
    have:=q3 _ hx' _ (cq ..)
    simp only [rB,cS,fX.ix] at this
    have J:=A i r
    rw [this.2] at J; cases J
   obtain ⟨dn',L',C2,V,J,O,W,h5,X⟩:=Fs T0 (fX.op k::s') dn L Y C F hp hn hm hy hl h
   refine GS (fun a hf=>BU W a hf) X (V o ho Y (dn'.map fun p=>AO p.1 p.2) K fun L3 C3 P Ap Z g=>?_)
   have AB:(kQ (T0++fX.op k::s') dn).filter (· != k)=kQ s' dn':=by
    unfold kQ
    rw [List.map_append,List.filter_append,List.map_cons,List.filter_append]
    have e1:(List.map fX.ix T0).filter (fun i=> !(dn.map (·.1)).contains i)=[]:=by
     apply List.filter_eq_nil_iff.2
     intro z hz
     obtain ⟨x,hx',rfl⟩:=bX.1 hz
     obtain ⟨i,b,rfl,hb⟩:=F x hx'
     simp only [fX.ix,Bool.not_eq_true',Bool.not_eq_false,List.contains_iff_mem]
     exact List.mem_map_of_mem (f:=(·.1)) hb
    rw [e1]
    simp only [List.filter_nil,List.nil_append]
    have u:k ∉ dn.map (·.1):=fun q=>by
     obtain ⟨p,hp',e⟩:=bX.1 q
     exact H p hp' e
    rw [List.filter_cons_of_pos (by simpa [fX.ix] using u),List.filter_cons_of_neg (by simp [fX.ix]),List.filter_filter]
    apply List.filter_congr
    intro z hz
    obtain ⟨y,hy',rfl⟩:=bX.1 hz
    have A0:y.ix≠k:=fun e=>by
     have:=q4 y hy'
     simp only [rB,cS,bne_iff_ne,fX.ix] at this
     exact this.1 e.symm
    rw [Bool.eq_iff_iff]
    simp only [cS,bne_iff_ne,Bool.not_eq_true',← Bool.not_eq_true,List.contains_iff_mem]
    constructor
    ·rintro ⟨_,hq⟩ hc
     obtain ⟨p,hp',e⟩:=bX.1 hc
     exact hq (by rw [← e]; exact List.mem_map_of_mem (f:=(·.1)) ((O p).1 hp').1)
    ·intro hq
     refine ⟨A0,fun hc=>?_⟩
     obtain ⟨p,hp',e⟩:=bX.1 hc
     apply hq
     rw [← e]
     refine List.mem_map_of_mem (f:=(·.1)) ((O p).2 ⟨hp',?_⟩)
     have ht:=hm p hp'
     rcases dM.1 ht with ht|ht
     ·exfalso
      have:=q3 _ ht _ (cV _ hy')
      simp only [rB,cS,bne_iff_ne,fX.ix] at this
      exact this.1 e
     ·exact ht
   have N:(kQ (T0++fX.op k::s') dn).Nodup:=by
    unfold kQ
    refine List.Nodup.sublist List.filter_sublist<|List.pairwise_map.2 (hp.imp fun {a c} q=>?_)
    simp only [rB,cS,bne_iff_ne] at q
    exact q.1
   refine hK _ _ (fun w hw=>P w (hw.take (List.sublist_append_left _ _))) (fun q=>by cases q) ?_
   rw [AB]
   have hdn': ∀ p∈dn',fX.take p.1∈s':=fun p hp'=>by
    rcases bu.1 ((O p).1 hp').2 with e|e
    ·cases e
    ·exact e
   refine qu hal n s' dn' L3 Y C3 (fun i hi=>hal' i (by simp [hi])) q5 ?_ J hdn' (fun p hp'=>hy p ((O p).1 hp').1) (fun i hi=>?_) (wi Z) P g
   ·rw [← AB,← List.Nodup.erase_eq_filter N,List.length_erase_of_mem G,hlen]; rfl
   ·have:=cW.1 Ap _ (tM hi)
    simpa using this
/-- the rows, at any time; the others, one after the other -/
theorem Nf {tb rem:List Nat} {L:dh} {C:List av} (s:List fX) (B:dh) (dO:Nat→Nat) (VO:Nat→Nat→Value) (AO:Nat→Nat→av) {n:Nat} (htb:tb=[]) (hr:s.map fX.ix=rem) (hn:rem.length=n) (hp:UI (qk ops) dO s=true) (hl:((BA dO s).all fun d=>(L.lookup d).isNone)=true) (hB:B.map (fun p=>L.lookup p.1)=B.map (fun p=>some p.2)) (hC: ∀ w,St E.S E.w0 C w→St E.S E.w0 C' w)
 (hal: ∀ i,fX.take i∈s→Tm E ops D B dO VO AO i) (h:CH E ops D C' K0 B dO VO AO s L C):TN E ops D C' C1 (fun L C=>KJ E K0 D L C) tb n rem L C:=by
 subst htb hr
 have e:kQ s []=s.map fX.ix:=by unfold kQ; simp
 have:=qu (C1:=C1) (fun i=> .inr trivial) n s [] L [] C hal (FQ hp) (by rw [e]; exact hn) List.nodup_nil (fun p hp=>by cases hp) (fun p hp=>by cases hp) (fun i hi=>by
  have:=cW.1 hl _ (tM hi)
  simpa using this) (wi hB) hC h
 simpa [e] using this
theorem QP {p:Nat→Prop}: ∀ i,fX.take i∈([]:List fX)→p i:=fun i h=>by cases h
theorem yc {p:Nat→Prop} {j:Nat} {s:List fX} (h: ∀ i,fX.take i∈s→p i): ∀ i,fX.take i∈fX.op j::s→p i:=fun i hi=>by
 rcases bu.1 hi with e|hi
 ·cases e
 ·exact h i hi
theorem wj {p:Nat→Prop} {j:Nat} {s:List fX} (hj:p j) (h: ∀ i,fX.take i∈s→p i): ∀ i,fX.take i∈fX.take j::s→p i:=fun i hi=>by
 rcases bu.1 hi with e|hi
 ·cases e; exact hj
 ·exact h i hi
end
section
variable {E:fq} {ops:Array Oper} {D:List Deferred} {B:List (Nat×Value)} {dO:Nat→Nat} {VO:Nat→Nat→Value} {AO:Nat→Nat→av}
variable {d:Nat} {ty:TypeId} {ps:String} {af:Array Edge}
theorem Ji {i t e sz:Nat} (ho:ops[i]? =some ⟨some d,.buildSlice t 0 #[],ty,ps,af,none⟩) (ht:tE E.P t=some (e,sz)) (hd:Nat.blt d E.n=true) (h1:dO i=d) (h2: ∀ b,VO i b= .slice (some ⟨b,0,none⟩) 0 0) (h3: ∀ b,AO i b=cd b e []):Tm E ops D B dO VO AO i:=fun o ho' L C K hB hk=>by
 rw [ho] at ho'; cases ho'
 exact ld U ht hd fun b=>aA (by have:=hk b; rw [h1,h2,h3] at this; exact this)
theorem PM {i t e sz n:Nat} {xs:List Operand} {vs:List Value} {cs zs:List Value} (ho:ops[i]? =some ⟨some d,.buildSlice t n ((xs.zipIdx.map fun p=>(p.2,p.1)).toArray),ty,ps,af,none⟩) (ht:tE E.P t=some (e,sz)) (hz:tZ E.P e=some zs) (hx:evs B xs=some vs) (hn:xs.length=n) (hp:Nat.blt 0 (n*sz)=true) (hb:Nat.ble (n*sz) 16777216=true) (hv: ∀ v∈vs,v.cells.size=sz)
 (hc:(vs.map (·.cells.toList)).flatten=cs) (hd:Nat.blt d E.n=true) (h1:dO i=d) (h2: ∀ b,VO i b= .slice (some ⟨b,0,none⟩) n n) (h3: ∀ b,AO i b=cd b e cs):Tm E ops D B dO VO AO i:=fun o ho' L C K hB hk=>by
 rw [ho] at ho'; cases ho'
 exact c_ U ht hz (GG hB hx) hn hp hb hv hc hd fun b=>aA (by have:=hk b; rw [h1,h2,h3] at this; exact this)
end
section
variable {E:fq} {ops:Array Oper} {D:List Deferred} {C':List av} {K0:Act→World→Prop} {B:List (Nat×Value)} {dO:Nat→Nat} {VO:Nat→Nat→Value} {AO:Nat→Nat→av}
theorem xY {j:Nat} {s:List fX} {L:dh} {C:List av} {o:Oper} (ho:ops[j]? =some o)
 (h: ∀ (Y:dh) (X:List av) (K:Act→World→Prop),(∀ L' C'',(∀ w,St E.S E.w0 C'' w→St E.S E.w0 C' w)→((BA dO s).all fun d=>(L'.lookup d).isNone)=true→B.map (fun p=>L'.lookup p.1)=B.map (fun p=>some p.2)→CH E ops D C' K0 B dO VO AO s L' C''→KJ E K D (L'++Y) (C''++X))→RJ E ops (NQ K) [o] D (L++Y) (C++X)):CH E ops D C' K0 B dO VO AO (.op j::s) L C:=fun o' ho'=>by
 rw [ho] at ho'; cases ho'
 exact h
theorem sN {s:List fX} {L Y:dh} {C X:List av} {K:Act→World→Prop} (hT: ∀ L' C'',(∀ w,St E.S E.w0 C'' w→St E.S E.w0 C' w)→((BA dO s).all fun d=>(L'.lookup d).isNone)=true→B.map (fun p=>L'.lookup p.1)=B.map (fun p=>some p.2)→CH E ops D C' K0 B dO VO AO s L' C''→KJ E K D (L'++Y) (C''++X)) (nL nC:Nat)
 (hL:L.take nL++Y=L) (hC:C.take nC++X=C) (h1: ∀ w,St E.S E.w0 (C.take nC) w→St E.S E.w0 C' w) (h2:((BA dO s).all fun d=>((L.take nL).lookup d).isNone)=true) (h3:B.map (fun p=>(L.take nL).lookup p.1)=B.map (fun p=>some p.2)) (h:CH E ops D C' K0 B dO VO AO s (L.take nL) (C.take nC)):RJ E ops (NQ K) [] D L C:=by
 have:=hT _ _ h1 h2 h3 h
 rw [hL,hC] at this
 exact aA this
theorem Ub {c:Code} {Q:df} {L L':dh} {C:List av} (h:L'.map (fun p=>L.lookup p.1)=L'.map (fun p=>some p.2)) (k:WJ E c Q D L' C):WJ E c Q D L C:=fun a w hf hs=>k a w (BU (wi h) a hf) hs
theorem yn: ∀ {C:List av} {i:Nat} {A:av},C[i]? =some A→C.Perm (A::C.eraseIdx i)
 |[],i,A,h=>by simp at h
 |x::C,0,A,h=>by
  simp at h; subst h
  exact List.Perm.refl _
 |x::C,i+1,A,h=>((yn (C:=C) (i:=i) (by simpa using h)).cons x).trans (List.Perm.swap _ _ _)
theorem St.front {S:BS} {w0 w:World} {C:List av} {A:av} (i:Nat) (hi:C[i]? =some A) (h:St S w0 C w):St S w0 (A::C.eraseIdx i) w:=h.perm (yn hi)
theorem Gd {K:Act→World→Prop} {L:dh} {C:List av} {A:av} (i:Nat) (hi:C[i]? =some A) (h:KJ E K D L (A::C.eraseIdx i)):KJ E K D L C:=fun a w hf hs=>h a w hf (hs.front i hi)
theorem rL {Q:df} {rest:List Oper} {L:dh} {C:List av} {A:av} (i:Nat) (hi:C[i]? =some A) (h:RJ E ops Q rest D L (A::C.eraseIdx i)):RJ E ops Q rest D L C:=fun a w hf hs=>h a w hf (hs.front i hi)
end
end
section
open Go.RowKit
section
variable {E:fq} {ops:Array Oper} {D:List Deferred} {C' C1:List av} {tb:List Nat}
theorem x4 {V:Type} {F:dh→List av→Prop} (P:V→Prop) (fL:V→dh) (fC:V→List av) (n:Nat) (rest:List Nat) {m:Nat} {rem:List Nat} {L:dh} {C:List av} (h1:(∀ v,P v→TN E ops D C' C1 F tb n rest (fL v) (fC v))→TN E ops D C' C1 F tb m rem L C) (h2: ∀ v,P v→TN E ops D C' C1 F tb n rest (fL v) (fC v)):TN E ops D C' C1 F tb m rem L C:=h1 h2
theorem il {F:dh→List av→Prop} {rem':List Nat} {n i:Nat} {L:dh} {C:List av} {o:Oper} (ho:ops[i]? =some o)
 (h: ∀ K:Act→World→Prop,(∀ L' C'',(∀ w,St E.S E.w0 C'' w→St E.S E.w0 C' w)→TN E ops D C' C1 F tb n rem' L' C''→KJ E K D L' C'')→RJ E ops (NQ K) [o] D L C) (hm:((i::rem').filter fun k=>(i::rem').all fun j=> !iO (qk ops) j k)=[i]:=by kernel_rfl) (hr:(i::rem').filter (· != i)=rem':=by kernel_rfl) (ht:tb.contains i=false:=by rfl):TN E ops D C' C1 F tb (n+1) (i::rem') L C:=
 iE [i] hm (ej (iJ ho hr ht h) j5)
theorem QD {K0:Act→World→Prop} {n:Nat} {rem:List Nat} {L L2:dh} {C C2:List av} (hL: ∀ a,Fr E.n D L a→Fr E.n D L2 a) (hC: ∀ w,St E.S E.w0 C w→St E.S E.w0 C2 w) (h:TN E ops D C' C1 (fun L C=>KJ E K0 D L C) tb n rem L2 C2):TN E ops D C' C1 (fun L C=>KJ E K0 D L C) tb n rem L C:=by
 cases n with
 |zero=>exact Bg hL hC h
 |succ n=>exact fun i hi o ho K hK=>GS hL hC (h i hi o ho K hK)
theorem j1 {V:Type} {P:V→Prop} {fL:V→dh} {fC:V→List av} {K0:Act→World→Prop} {n:Nat} {rem rest:List Nat} {L:dh} {C:List av} (hJ: ∀ v,P v→TN E ops D C' C1 (fun L C=>KJ E K0 D L C) tb n rest (fL v) (fC v)) (v:V) (hp:P v) (ix:List Nat) (hL:(fL v).map (fun p=>L.lookup p.1)=(fL v).map (fun p=>some p.2)) (hn:decide ix.Nodup=true) (hC:mo C ix=some (fC v)) (hr:rem=rest:=by kernel_rfl):TN E ops D C' C1 (fun L C=>KJ E K0 D L C) tb n rem L C:=hr▸
 QD (fun a hf=>BU (wi hL) a hf) (fun w hs=>St.kJ _ hn (jS hC) hs) (hJ v hp)
end
theorem Mf {E:fq} {id:Nat} {ops:Array Oper} {Q:df} {D:hP} {L:dh} {C:List av} (hm:E.P.follows .mixedOrders=true) (T i1:List Nat) {C':List av} {free:List Nat} {I4:List Bool} (h1:mo C i1=some C') (hf:free=Ul ops.size T) (hfe:I4=UK free.length [])
 (h:qo E ops D C' [] (fun L'=>TN E ops D C' [] (fun L C=>KJ E (Q .normal) D L C) [] T.length T L' C) I4 (eW ops free) L) (hc:Gj ops free T I4 []=true:=by kernel_rfl) (n1:decide i1.Nodup=true:=by rfl):WJ E (.region id ops true) Q D L C:=
 oJ hm free T I4 [] C' [] hc (N2 i1 h1 n1) (N2 [] rfl rfl) h
section
end
end
section
open Go.RowKit
theorem pb (n lo hi:Int):
 eB Tryz.prog 149 [(vI n),(vI lo),(vI hi)] [] (vB (decide (lo≤n∧n≤hi))):=by
 refine bG kr Tryz.func149 U U fun D Q hQ hN=>?_
 try dsimp only
 refine WS fun _ B=>bo 1 U<|RK B<|WS fun _ A=>rP 4 [] mn ?_
 refine dp (t:=10) U (aQ fun C=>?_) (aP fun C=>?_)
 ·refine rP 5 [] mn ?_
  refine RK A<|ar<|Q1 hQ U U U ?_
  exact cB (gO.2 I)
 refine rP 5 [] mn ?_
 refine RK A<|ar<|Q1 hQ U U U ?_
 exact cB (ct I).symm
theorem Gy (r:cE) (sgA:OA) (sgC:Nat):
 eB Tryz.prog 177 [(vA (d_.cells (mh r sgA sgC)))] [(rd sgA r.ai.length 2 (r.ai.map aK.cells))] (vB (decide (mQ r))):=by
 refine bG kr Tryz.func177 U U fun F Q hQ hN=>?_
 try dsimp only
 refine WS fun _ B=>gd U fun E=>bo 1 U<|RK B<|WS fun _ A=>rP 4 [] (mc 0 U mn) ?_
 refine cu (t:=6) U (aP fun C=>?_) (aQ fun C=>?_)
 ·refine rP 11 [] mn ?_
  refine RK A<|ar<|Q1 hQ U U U ?_
  simp only [mQ]
  exact cB (ct I).symm
 refine rP 5 [] (mc 0 U mn) ?_
 refine cu (t:=11) U (aP fun D=>?_) (aQ fun D=>?_)
 ·refine rP 6 [] mn ?_
  refine RK A<|ar<|Q1 hQ U U U ?_
  simp only [mQ]
  exact cB (ct I).symm
 refine rP 6 [] (mc 0 U mn) ?_
 refine RK A<|ar<|Q1 hQ U U U ?_
 simp only [mQ]
 exact cB (gO.2 I)
theorem NU (s:aa):
 eB Tryz.prog 22 [(vA (aa.cells s))] [] (vB (decide (iU s))):=by
 refine bG kr Tryz.func22 U U fun F Q hQ hN=>?_
 try dsimp only
 refine WS fun _ B=>gd U fun E=>bo 1 U<|RK B<|WS fun _ A=>rP 4 [] (mc 0 U mn) ?_
 refine cu (t:=6) U (aP fun C=>?_) (aQ fun C=>?_)
 ·refine rP 12 [] mn ?_
  refine RK A<|ar<|Q1 hQ U U U ?_
  simp only [iU]
  exact cB (ct I).symm
 refine rP 7 [] (mc 0 U mn) ?_
 refine cu (t:=13) U (aP fun D=>?_) (aQ fun D=>?_)
 ·refine rP 5 [] mn ?_
  refine RK A<|ar<|Q1 hQ U U U ?_
  simp only [iU]
  exact cB (ct I).symm
 refine rP 5 [] (mc 0 U mn) ?_
 refine RK A<|ar<|Q1 hQ U U U ?_
 simp only [iU]
 exact cB (gO.2 I)
theorem oH (la:List Int) (laA:OA) (laC:Nat) (lb:List Int) (lbA:OA) (lbC:Nat) (h1:la.length≤1000000) (h2:lb.length≤1000000):
 eB Tryz.prog 10 [(vS laA la.length laC),(vS lbA lb.length lbC)] [(rd laA la.length 1 (la.map iC)),(rd lbA lb.length 1 (lb.map iC))] (vB (decide (la=lb))):=by
 refine bG kr Tryz.func10 U U fun V Q hQ hN=>?_
 try dsimp only
 refine WS fun _ J=>bo 1 U<|RK J<|aj fun _ K=>WS fun _ L=>rP 5 [] mn ?_
 refine RK L<|cP U (bx fun hl=>?_) (bw fun hl=>?_)
 ·refine WS fun _ M=>rP 1 [] mn ?_
  refine RK M<|ar<|Q1 hQ U U U ?_
  exact cB (ct (fun e=>by subst e; omega)).symm
 refine WK K<|aj fun _ N=>WS fun _ O=>rP 1 [] mn ?_
 refine RK O<|ax ?_
 have A:(0≤la.length)∧(la.take 0=lb.take 0):=by simp
 refine bL (ι:={z:Nat // (z≤la.length)∧(la.take z=lb.take z)}) [0,1] [0,1] U U (fun z=>[(5,(vI (z.1:Int)))]) (fun z=>[]) (fun _=>rfl) (fun _=>rfl) (fun z=>la.length-z.1) ⟨0,A⟩ (aU U) (aG [0,1]) ?_
 clear A
 rintro ⟨i,⟨S,B⟩⟩ J7 AB
 try dsimp only
 refine aj fun _ P=>WS fun _ R=>rP 4 [] mn ?_
 refine RK R<|bS U (aP fun H=>?_) (aQ fun H=>?_)
 ·refine bD<|ab<|ab<|ay<|KK N<|WS fun _ F=>rP 1 [] mn ?_
  refine RK F<|ar<|Q1 hQ U U U ?_
  exact cB (gf (nM I B I)).symm
 refine WK P<|aj fun _ C=>ax<|aj fun _ D=>dH cx 9 kr<|dP 2 [] mn ?_
 obtain ⟨x,hx⟩:=aJ la i I
 have T:=bO iC hx
 refine dS (IA i U (aC 0 U) cL dc I I)<|dS (gi i 0 (vI x) U cj (aC 0 U) T U dc U)<|dP 2 [] mn ?_
 obtain ⟨y,hy⟩:=aJ lb i I
 have AA:=bO iC hy
 refine dS (IA i U (aC 1 U) cL dc I I)<|dS (gi i 0 (vI y) U cj (aC 1 U) AA U dc U)<|dP 1 [] mn ?_
 refine cQ<|RK D<|cP U (bx fun h=>?_) (bw fun h=>?_)
 ·refine WS fun _ E=>rP 1 [] mn ?_
  refine RK E<|ar<|Q1 hQ U U U ?_
  exact cB (ct (nY hx hy h)).symm
 refine cr<|aH<|KK C<|al<|rP 3 [] mn ?_
 refine aA ?_
 have G:(vI (((i+1):Nat):Int))=(vI ((i:Int)+1)):=by exact cI I
 refine aV (AB ⟨(i+1),⟨I,vc B hx hy h⟩⟩ _ _ _ U os (dF.cons U<|dF.cons U<|bk U G<|dF.nil _) (aG [0,1]))
end
section
open Go.RowKit
theorem Ko (m:g_) (gm g1:Nat):
 EG Tryz.prog 86 [] [(vP g1)] [(iS iV gm (bW er m)),(cd g1 40 [(Value.map (some gm))])] ([]:List Int) (fun ys x ys'=> ∃ n zs,(ys++[n]++zs).Perm (m.map (·.1))∧x=[vI n]∧ys'=ys++[n]) (fun ys=>ys.Perm (m.map (·.1))):=by
 refine tG kr Tryz.func86 U U fun l J Z A0 S Q hY M L hQ hN=>?_
 try dsimp only
 refine WS fun _ O=>rP 1 [] (mr 2 U mn) ?_
 refine j4 (kV:=iV) (m:=bW er m) 1 U U ot U ⟨U,fun h=>h⟩ (by exact lH 1 U) U fun V=>?_
 try dsimp only
 refine RK O<|ax ?_
 have G:(oW m m ([]:List Int))∧(∀ p∈m,p∈m)∧(J ([]:List Int) A0)∧(Fo A0 S A0):=by exact ⟨vJ,fun p hp=>hp,M,L⟩
 refine bL (ι:={z:g_×(List Int)×av // (oW m z.1 z.2.1)∧(∀ p∈z.1,p∈m)∧(J z.2.1 z.2.2)∧(Fo A0 S z.2.2)}) [0,1,5] [2,3] U U (fun z=>[]) (fun z=>[(yX iV V gm (bW er m) (bW er z.1.1) none),z.1.2.2]) (fun _=>rfl) (fun _=>rfl) (fun z=>z.1.1.length) ⟨(m,([]:List Int),A0),G⟩ (dF.nil _) (aG [2,3,0,1]) ?_
 clear G
 rintro ⟨⟨left,ys,A⟩,⟨B,H,C,D⟩⟩ J3 N
 try dsimp only at B H C D
 try dsimp only
 refine WS fun _ AB=>jC (eX qp).inj (f:=er) 2 U U U U (fun T=>?_) (fun x y hm hn=>?_)
 ·refine rP 1 [] mn ?_
  refine RK AB<|aj fun _ AA=>a_ U<|bD<|ab<|ab<|ay ?_
  refine hN _ _ _ (ik (vs:=[]) trivial fun w hs=>Kl 3 U (by rw [T] at B; exact yf B) C D hs)
 try dsimp only
 refine bo 1 U<|RK AB<|aj fun _ P=>aR U<|WK P<|ax<|WS fun _ R=>rS (SX (jz 2 U U U) U U)<|bo 2 U<|RK R<|WS fun _ K=>rP 2 [] mn ?_
 refine kS (k:=ys) (k':=(ys++[(x)])) 3 (by first|exact hsz|exact Nat.le_refl _) hY C D U U U (by exact ⟨x,_,oT hn hm B,U,U⟩) U U (fun B9 F E=>?_) (fun B9 F E=>?_)
 rotate_left 1
 ·refine rP 1 [] mn ?_
  refine RK K<|aR U<|ar ?_
  refine hQ _ _ _ (ik (vs:=[]) trivial fun w hs=>sL 3 U F E hs)
 refine rP 1 [] mn ?_
 refine RK K<|a_ U<|cr<|aH<|ib 2 U fR U ?_
 refine aV (N ⟨((cH left x),(ys++[(x)]),B9),⟨oT hn hm B,gu H,F,E⟩⟩ _ _ _ U (fh hm) (aU U) (aG [0,1,2,3]))
theorem GR (gm:Nat):
 lB Tryz.prog 52 [(Value.map (some gm))] [] (fun (x:Nat)=>(Value.func (.func 86) [].toArray [(vP x)].toArray)) (fun (x:Nat)=>True) (fun (x:Nat)=>[(cd x 40 [(Value.map (some gm))])]):=by
 refine di kr Tryz.func52 U U fun D Q hQ hN=>?_
 try dsimp only
 refine WS fun _ A=>uG U U fun C=>bo 1 U<|RK A<|WS fun _ B=>rS (FU U)<|rP 1 [] mn ?_
 refine RK B<|ar<|LX hQ C [0] [] mn U U U U ?_
 trivial
end
section
open Go.RowKit
theorem G8 (m:g_) (gm g1:Nat) (hlen:m.length≤12):
 lB Tryz.prog 120 [(vS none 0 0),(Value.func (.func 86) [].toArray [(vP g1)].toArray)] [(iS iV gm (bW er m)),(cd g1 40 [(Value.map (some gm))])] (fun (x:(List Int)×(OA)×Nat)=>(vS x.2.1 x.1.length x.2.2)) (fun (x:(List Int)×(OA)×Nat)=>x.1.Perm (m.map (·.1))) (fun (x:(List Int)×(OA)×Nat)=>[(own x.2.1 x.2.2 3 1 (x.1.map iC))]):=by
 refine di kr Tryz.func120 U U fun X Q hQ hN=>?_
 try dsimp only
 refine WS fun _ AB=>uG U U fun N=>bo 1 U<|RK AB<|aj fun _ J=>WS fun _ K=>rP 1 [] mn ?_
 refine RK K<|ax<|kR 1 U (by exact fun _ h=>h)<|kR 3 U (by exact fun _ h=>h)<|gr 3 1 ?_
 refine nJ (L0:=[(2,(vP N))]) (F:=[(iS iV gm (bW er m)).ro,(cd g1 40 [(Value.map (some gm))]).ro]) (fun k (y:(OA)×Nat)=>(∃ zs,(k++zs).Perm (m.map (·.1)))) (fun k y=>[(own y.1 y.2 3 1 (k.map iC)),(cd N 29 [(vS y.1 k.length y.2)]),(iS iV gm (bW er m)).ro]) (fun _ (_:Unit)=>False) (fun _ _=>[]) [0,3,4] [2,1] (none,0) rfl rfl (Ko m gm g1) rfl rfl rfl (by exact ⟨_,List.Perm.refl _⟩) (by simp only [List.forall_mem_cons,List.not_mem_nil,false_imp_iff,implies_true,and_true]; exact ⟨⟨_,sm,(dV (bV _))⟩,⟨_,sm,(dV (bV _))⟩⟩) (by rintro k x AA ⟨n,zs,_,rfl,_⟩; rfl) rfl (aU rfl) ?_ ?_ (fun _ _ _ h=>h.elim) (fun _ _ h=>h.elim)
 rotate_left 1
 ·rintro V k ⟨a,c⟩ E A
  have B:=A
  try dsimp only at B
  try dsimp only
  refine aH<|KK J<|WS fun _ C=>rP 2 [] (mc 4 U mn) ?_
  refine RK C<|ar<|hQ _ _ _ (o0 0 U U<|ik (vs:=[(vS a k.length c)]) ⟨U,trivial⟩ fun w hs=>JO (k,a,c) [3] ?_ ?_ U U U hs)
  ·rfl
  ·first|exact E|exact hys
 rintro k x AA ⟨a,c⟩ l ra rb S Y K5 Qr6 T hx G L D O P
 obtain ⟨n,zs,hn,rfl,rfl⟩:=hx; have M:=hn.length_eq; simp only [List.length_append,List.length_map,List.length_singleton] at M
 have B:=G
 try dsimp only at B
 try dsimp only
 refine al<|rP 1 [] mn ?_
 refine aA<|aV (L _ _ ?_)
 refine ax<|al<|rP 2 [] (mc 2 U mn) ?_
 refine c_ (xs:=[.tmp 9]) (cs:=[(vI n)]) U cL jA U U U U (by simp [Value.cells]) U U fun W=>?_
 refine ck (es2:=(List.map iC (k++[n]))) (m':=(k++[n]).length) 2 U U U pw U U sm (aZ (es:=List.map iC [n]) 0 U U (by simp [bI]) U) (jP _) os (by simp only [maxLen]; omega) sm sm U fun R H=>?_
 try dsimp only
 refine Vx U xN U U<|aA<|aH ?_
 exact D (R,H) _ _ (by exact ⟨_,hn⟩) (aG [1,2,3,4])
end
section
open Go.RowKit
theorem EH (m:g_) (gm g1:Nat) (hlen:m.length≤12):
 lB Tryz.prog 85 [(Value.func (.func 86) [].toArray [(vP g1)].toArray)] [(iS iV gm (bW er m)),(cd g1 40 [(Value.map (some gm))])] (fun (x:(List Int)×(OA)×Nat)=>(vS x.2.1 x.1.length x.2.2)) (fun (x:(List Int)×(OA)×Nat)=>x.1.Perm (m.map (·.1))) (fun (x:(List Int)×(OA)×Nat)=>[(own x.2.1 x.2.2 3 1 (x.1.map iC))]):=by
 refine di kr Tryz.func85 U U fun AA Q hQ hN=>?_
 try dsimp only
 refine WS fun _ A=>bo 1 U<|RK A<|WS fun _ B=>rP 1 [] mn ?_
 refine cX (G8 m gm g1 hlen) (bp [0,1]) U fun H C=>?_
 obtain ⟨E,F,G⟩:=H
 try dsimp only
 have D:=C
 refine rP 1 [] mn ?_
 refine RK B<|ar<|LX hQ (E,F,G) [0] [] mn U U U U ?_
 first|exact hfin|exact D
theorem z6 (m:g_) (gm g1:Nat) (hlen:m.length≤12):
 lB Tryz.prog 51 [(Value.func (.func 86) [].toArray [(vP g1)].toArray)] [(iS iV gm (bW er m)),(cd g1 40 [(Value.map (some gm))])] (fun (x:(OA)×Nat)=>(vS x.1 m.length x.2)) (fun (x:(OA)×Nat)=>True) (fun (x:(OA)×Nat)=>[(own x.1 x.2 3 1 ((dB (m.map (·.1))).map iC))]):=by
 refine di kr Tryz.func51 U U fun M Q hQ hN=>?_
 try dsimp only
 refine WS fun _ E=>bo 1 U<|RK E<|WS fun _ F=>rP 1 [] mn ?_
 refine cX (EH m gm g1 hlen) (bp [0,1]) U fun L H=>?_
 obtain ⟨AA,J,K⟩:=L
 try dsimp only
 have D:=H
 refine bo 1 U<|RK F<|WS fun _ G=>rP 1 [] mn ?_
 have B:=D.length_eq
 simp only [List.length_map] at B
 refine jm 0 U U U U (Ac AA J K sd) U kG U (fun ms C=>?_)
 try dsimp only
 refine RK G<|WS fun _ A=>?_
 obtain rfl:=qs (C.1.trans D) C.2
 skip
 refine rP 2 [] mn ?_
 refine RK A<|ar ?_
 refine LX hQ (J,K) [0] [] mn U U U ?_ ?_
 ·first|rfl|(rw [B]; rfl)
 ·trivial
end
section
open Go.RowKit
theorem wH (l:List Int) (lA:OA) (lC:Nat) (hlen:l.length≤1000000):
 lB Tryz.prog 40 [(vS lA l.length lC)] [(rd lA l.length 1 (l.map iC))] (fun (x:(OA)×Nat)=>(vS x.1 l.length x.2)) (fun (x:(OA)×Nat)=>True) (fun (x:(OA)×Nat)=>[(own x.1 x.2 3 1 (l.map iC))]):=by
 refine di kr Tryz.func40 U U fun L Q hQ hN=>?_
 try dsimp only
 refine WS fun _ D=>bo 1 U<|RK D<|aj fun _ E=>WS fun _ F=>rP 1 [] mn ?_
 refine rS (BI U (qy TL))<|RK F<|cP U (aQ fun B=>?_) (aP fun B=>?_)
 ·refine WS fun _ G=>mE (aC 0 U) B dc fun C=>?_
  have A:l=[]:=by simpa using C
  refine ed 3 1 ?_
  rw [show (own none 0 3 1 ([]:List (List Value)))=own none 0 3 1 (l.map iC) from by rw [A]; rfl]
  refine rP 1 [] mn ?_
  refine RK G<|ar ?_
  refine LX hQ (none,0) [0] [] mn U U U ?_ ?_
  ·first|rfl|(rw [A]; rfl)
  ·trivial
 refine WK E<|WS fun _ H=>ld U cL U fun J=>rP 1 [] mn ?_
 refine cR (es:=(List.map iC [])) (C':=[own (some ⟨J,0,none⟩) 0 3 1 (List.map iC []),_]) 0 U sm U (by simp [maxLen]) U ?_
 refine ck (es2:=(List.map iC l)) (m':=l.length) 0 U U U pw U U sm (aC 1 U) (jP _) os (by first|(simp only [maxLen]; omega)|(simp [maxLen]; omega)) sm sm U fun AA K=>?_
 try dsimp only
 refine rP 1 [] mn ?_
 refine RK H<|ar ?_
 refine LX hQ (AA,K) [0] [] mn U U U ?_ ?_
 ·first|rfl|(rw [A]; rfl)
 ·trivial
theorem Dt (l:List Int) (lA:OA) (lC:Nat) (f:Value) (key:Int→Int) (X:av) (hf: ∀ x0 x1,x0∈l∧x1∈l→Ew Tryz.prog f [.int .i64 x0,.int .i64 x1] [X] (.int .i64 (key x0-key x1))) (hkb: ∀ x∈l,0≤key x∧key x≤30000000) (hlen:l.length≤1000000):
 DO Tryz.prog 162 [(vS lA l.length lC),(vI 0),(vI (l.length:Int)),f] [X] (own lA lC 3 1 (l.map iC)) (fun (x:Unit)=>(vT [])) (fun (x:Unit)=>True) (fun (x:Unit)=>(own lA lC 3 1 ((eK key l).map iC))):=by
 refine mX kr Tryz.func162 U U fun s Q hQ hN=>?_
 try dsimp only
 refine WS fun _ Z=>bo 1 U<|rS (SX (cb (r:= .int .i64 1) U U U (iG ⟨dc,dc⟩)) U U)<|rP 1 [] mn ?_
 refine RK Z<|ax ?_
 have C:(1≤1∧(1≤l.length∨1=1))∧(l.length=l.length)∧(1=1∧l=[]∨ur key l 1 l)∧(∀ x∈l,x∈l):=by exact ⟨I,rfl,G1,fun x h=>h⟩
 refine bL (ι:={z:Nat×(List Int) // (1≤z.1∧(z.1≤l.length∨z.1=1))∧(z.2.length=l.length)∧(z.1=1∧l=[]∨ur key l z.1 z.2)∧(∀ x∈z.2,x∈l)}) [0,1,2,3] [1] U U (fun z=>[(8,(vI (z.1.1:Int)))]) (fun z=>[(own lA lC 3 1 (z.1.2.map iC))]) (fun _=>rfl) (fun _=>rfl) (fun z=>l.length-z.1.1) ⟨(1,l),C⟩ (aU U) (aG [1,0]) ?_
 clear C
 rintro ⟨⟨i,m⟩,⟨AB,E,F,G⟩⟩ J2 L
 try dsimp only at AB E F G
 try dsimp only
 refine aj fun _ b=>WS fun _ c=>rP 3 [] mn ?_
 refine RK c<|bS U (aP fun p=>?_) (aQ fun p=>?_)
 ·refine bD<|ab<|ab<|ay ?_
  rw [show m=eK key l from IN I E F]
  refine LM hN () 1 [] mn U U U U ?_
  trivial
 refine WK b<|aj fun _ N=>ax<|WS fun _ d=>rP 2 [] mn ?_
 refine RK d<|ax ?_
 have C:(i≤i)∧(m.length=l.length)∧(∀ x∈m,x∈l)∧(BO key l i i m):=by exact ⟨Nat.le_refl _,E,G,Fg I (On I F)⟩
 refine bL (ι:={z:Nat×(List Int) // (z.1≤i)∧(z.2.length=l.length)∧(∀ x∈z.2,x∈l)∧(BO key l i z.1 z.2)}) [0,1,2,3,8] [0] U U (fun z=>[(9,(vI (z.1.1:Int)))]) (fun z=>[(own lA lC 3 1 (z.1.2.map iC))]) (fun _=>rfl) (fun _=>rfl) (fun z=>z.1.1) ⟨(i,m),C⟩ (aU U) (aG [0,1]) ?_
 clear C
 rintro ⟨⟨j,q⟩,⟨J,D,A,B⟩⟩ J8 Y
 try dsimp only at J D A B
 try dsimp only
 refine aj fun _ e=>aj fun _ H=>dH cx 17 kr<|dP 4 [] mn ?_
 refine jl (t:=21) U (aP fun V=>?_) (aQ fun V=>?_)
 ·refine lQ 13 U<|cQ<|RK H<|a_ U<|bD<|ab<|ab<|ay<|aH<|KK N<|al<|rP 3 [] mn ?_
  refine aA ?_
  refine aV (L ⟨((i+1),q),⟨I,D,.inr (by first|exact zL I B|exact zV I B hx hy I),A⟩⟩ _ _ _ U (by simp only []; omega) (aU U) (aG [0,1]))
 refine dP 3 [] mn ?_
 obtain ⟨x,hx⟩:=aJ q j I
 have K:=bO iC hx
 refine dS (IA j U (ag (n:=l.length) 1 U sq) cL dc I I) ?_
 refine dS (gi j 0 (vI x) U cj (ag (n:=q.length) 1 U sm) K U dc U)<|dP 3 [] mn ?_
 obtain ⟨y,hy⟩:=aJ q (j-1) I
 have AA:=bO iC hy
 refine dS (IA (j-1) U (ag (n:=l.length) 1 U sq) cL dc I I) ?_
 refine dS (gi (j-1) 0 (vI y) U cj (ag (n:=q.length) 1 U sm) AA U dc U)<|dS (SX (s7 U U U (hf x y ⟨A _ (aT hx),A _ (aT hy)⟩) (bp [0])) U U)<|dP 2 [] mn ?_
 refine cQ<|RK H<|bS U (aP fun W=>?_) (aQ fun W=>?_)
 ·refine bD<|ab<|ab<|ay<|aH<|KK N<|al<|rP 3 [] mn ?_
  refine aA ?_
  refine aV (L ⟨((i+1),q),⟨I,D,.inr (by first|exact zL I B|exact zV I B hx hy I),A⟩⟩ _ _ _ U (by simp only []; omega) (aU U) (aG [0,1]))
 refine WK e<|aj fun _ M=>ax<|dK cx [15,16,17] [8,9,12,13,14] [] [0] [0,1] U U U U U<|eS U (MV U)<|eS U (MV U)<|eS U (MV U)<|eS U (MV U)<|eS U (BI U (su ⟨I,I⟩))<|eS U (MV U)<|eS U (MV U)<|eS U (BI U (su ⟨I,I⟩)) ?_
 refine fS U (IA (j-1) U (ag (n:=l.length) 1 U sq) cL dc I I) ?_
 refine fS U (gi (j-1) 0 (vI y) U cj (ag (n:=q.length) 1 U sm) AA U dc U)<|eS U (MV U)<|eS U (MV U) ?_
 refine fS U (IA j U (ag (n:=l.length) 1 U sq) cL dc I I) ?_
 refine fS U (gi j 0 (vI x) U cj (ag (n:=q.length) 1 U sm) K U dc U) ?_
 refine fS U (IA j U (ag (n:=l.length) 1 U sq) cL dc I I) ?_
 refine eT U<|cf U fun T14 O=>dk (k:=j) (o:=0) (vs:=[(vI y)]) (es':=(List.map iC (q.set j y))) (C':=[_,(own lA lC 3 1 (List.map iC (q.set j y)))]) 1 U U U Cs U U U U K U dc (by exact (List.map_set (f:=iC) (l:=q) (i:=j) (a:=y)).symm) U<|aA (O _ _ (aG [0]) ?_)
 refine cf U fun T15 P=>?_
 obtain ⟨g,T⟩:=aJ (q.set j y) (j-1) os
 have hx17m:(List.map iC (q.set j y))[(j-1)]? =some (iC g):=by rw [fB,T]; rfl
 refine rS (IA (j-1) U (ag (n:=l.length) 1 U sq) cL dc I I) ?_
 refine aA (P _ _ (aG [0]) ?_)
 refine cf U fun T18 R=>dk (k:=(j-1)) (o:=0) (vs:=[(vI x)]) (es':=(List.map iC ((q.set j y).set (j-1) x))) (C':=[_,(own lA lC 3 1 (List.map iC ((q.set j y).set (j-1) x)))]) 1 U U U Cs U U U U hx17m U dc (by exact (List.map_set (f:=iC) (l:=(q.set j y)) (i:=(j-1)) (a:=x)).symm) U<|aA (R _ _ (aG [0]) ?_)
 refine fO U<|aH<|KK M<|al<|rP 3 [] mn ?_
 refine aA ?_
 have S:(vI (((j-1):Nat):Int))=(vI ((j:Int)-1)):=by exact cI I
 refine aV (Y ⟨((j-1),((q.set j y).set (j-1) x)),⟨I,by simp; exact D,Ll hx hy A,G4 I B hx hy I⟩⟩ _ _ _ U (by simp only []; omega) (cU 5<|bk U S<|dF.nil _) (aG [0,1]))
theorem Lx (l:List Int) (lA:OA) (lC:Nat) (f:Value) (key:Int→Int) (X:av) (hf: ∀ x0 x1,x0∈l∧x1∈l→Ew Tryz.prog f [.int .i64 x0,.int .i64 x1] [X] (.int .i64 (key x0-key x1))) (hkb: ∀ x∈l,0≤key x∧key x≤30000000) (hlen:l.length≤12):
 DO Tryz.prog 116 [(vS lA l.length lC),(vI (l.length:Int)),f] [X] (own lA lC 3 1 (l.map iC)) (fun (x:Unit)=>(vT [])) (fun (x:Unit)=>True) (fun (x:Unit)=>(own lA lC 3 1 ((eK key l).map iC))):=by
 refine mX kr Tryz.func116 U U fun N Q hQ hN=>?_
 try dsimp only
 refine WS fun _ C=>bo 1 U<|RK C<|WS fun _ D=>bo 3 U<|RK D<|aj fun _ E=>ax<|kj 1<|eH fun R4 M=>aj fun _ L=>WS fun _ F=>rP 3 [] mn ?_
 refine RK F<|cP U (aQ fun K=>?_) (aP fun K=>?_)
 ·exfalso; omega
 refine bD<|ab<|ab<|ay<|KK E<|WS fun _ G=>rP 4 [] mn ?_
 refine jm 0 U U U U (Dt l lA lC f key X (by exact hf) hkb sd) U (eA 1 U U (dV (bV _)) kG) U (fun O J=>?_)
 try dsimp only
 refine RK G<|ax<|kj 1<|eH fun R11 AA=>aj fun _ H=>WS fun _ A=>rP 3 [] mn ?_
 refine RK A<|cP U (aQ fun B=>?_) (aP fun B=>?_)
 ·exfalso; omega
 refine bD<|ab<|ab<|ay<|LM hN () 0 [] mn U U U U ?_
 trivial
theorem Av (l:List Int) (lA:OA) (lC:Nat) (f:Value) (key:Int→Int) (X:av) (hf: ∀ x0 x1,x0∈l∧x1∈l→Ew Tryz.prog f [.int .i64 x0,.int .i64 x1] [X] (.int .i64 (key x0-key x1))) (hkb: ∀ x∈l,0≤key x∧key x≤30000000) (hlen:l.length≤12):
 DO Tryz.prog 79 [(vS lA l.length lC),f] [X] (own lA lC 3 1 (l.map iC)) (fun (x:Unit)=>(vT [])) (fun (x:Unit)=>True) (fun (x:Unit)=>(own lA lC 3 1 ((eK key l).map iC))):=by
 refine mX kr Tryz.func79 U U fun B Q hQ hN=>?_
 try dsimp only
 refine al<|rP 4 [] mn ?_
 refine jm 0 U U U U (Lx l lA lC f key X (by exact hf) hkb hlen) U (eA 1 U U (dV (bV _)) kG) U (fun C A=>?_)
 try dsimp only
 refine aA<|LM hN () 0 [] mn U U U U ?_
 trivial
theorem zp (l:List Int) (lA:OA) (lC:Nat) (f:Value) (key:Int→Int) (X:av) (hf: ∀ x0 x1,x0∈l∧x1∈l→Ew Tryz.prog f [.int .i64 x0,.int .i64 x1] [X] (.int .i64 (key x0-key x1))) (hkb: ∀ x∈l,0≤key x∧key x≤30000000) (hlen:l.length≤12):
 lB Tryz.prog 42 [(vS lA l.length lC),f] [(rd lA l.length 1 (l.map iC)),X] (fun (x:(OA)×Nat)=>(vS x.1 ((eK key l).length) x.2)) (fun (x:(OA)×Nat)=>True) (fun (x:(OA)×Nat)=>[(own x.1 x.2 3 1 ((eK key l).map iC))]):=by
 refine di kr Tryz.func42 U U fun J Q hQ hN=>?_
 try dsimp only
 refine WS fun _ B=>bo 1 U<|RK B<|WS fun _ C=>rP 1 [] mn ?_
 refine cX (wH l lA lC sd) (bp [0]) U fun AA G=>?_
 obtain ⟨E,F⟩:=AA
 try dsimp only
 refine bo 1 U<|RK C<|WS fun _ D=>rP 2 [] mn ?_
 refine jm 0 U U U U (Av l E F f key X (by exact hf) hkb hlen) U (eA 2 U U (dV (bV _)) kG) U (fun K H=>?_)
 try dsimp only
 refine RK D<|WS fun _ A=>rP 2 [] mn ?_
 refine RK A<|ar ?_
 refine LX hQ (E,F) [0] [] mn U U U ?_ ?_
 ·first|rfl|(rw [kM]; rfl)
 ·trivial
theorem Ho (l:List Int) (lA:OA) (lC k:Nat) (hk:k≤l.length) (hlen:l.length≤1000000):
 DO Tryz.prog 44 [(vS lA k lC)] [] (own lA lC 3 1 (l.map iC)) (fun (x:Unit)=>(vT [])) (fun (x:Unit)=>True) (fun (x:Unit)=>(own lA lC 3 1 ((sv k l).map iC))):=by
 refine mX kr Tryz.func44 U U fun V Q hQ hN=>?_
 try dsimp only
 refine WS fun _ J=>rP 5 [] mn ?_
 refine RK J<|ax ?_
 have B:(0≤k)∧(HJ l k 0 l):=by exact ⟨Nat.zero_le _,MP⟩
 have P:(vI ((k:Int)-1-(0:Int)))=(vI ((k:Int)-1)):=by exact cI I
 refine bL (ι:={z:Nat×(List Int) // (z.1≤k)∧(HJ l k z.1 z.2)}) [0] [] U U (fun z=>[(2,(vI (z.1.1:Int))),(3,(vI ((k:Int)-1-(z.1.1:Int))))]) (fun z=>[(own lA lC 3 1 (z.1.2.map iC))]) (fun _=>rfl) (fun _=>rfl) (fun z=>k-z.1.1) ⟨(0,l),B⟩ (dF.cons U<|bk U P<|dF.nil _) (aG [0]) ?_
 clear B
 rintro ⟨⟨i,m⟩,⟨C,A⟩⟩ J3 AB
 try dsimp only at C A
 try dsimp only
 have AA:=A.1
 refine aj fun _ K=>WS fun _ L=>rP 3 [] mn ?_
 refine RK L<|bS U (aP fun T=>?_) (aQ fun T=>?_)
 ·refine bD<|ab<|ab<|ay ?_
  rw [show m=sv k l from Ou hk I A]
  refine LM hN () 0 [] mn U U U U ?_
  trivial
 refine WK K<|aj fun _ M=>ax<|dK cx [13,14,15] [6,7,10,11,12] [] [] [0] U U U U U<|eS U (MV U)<|eS U (MV U)<|eS U (MV U)<|eS U (MV U)<|eS U (MV U)<|eS U (MV U) ?_
 obtain ⟨y,hy⟩:=aJ m ((((k:Int)-1-(i:Int))).toNat) I
 have R:=bO iC hy
 refine fS U (Tz ((((k:Int)-1-(i:Int))).toNat) U (ag (n:=m.length) 0 U sm) cL dc I I I)<|fS U (gi ((((k:Int)-1-(i:Int))).toNat) 0 (vI y) U cj (ag (n:=m.length) 0 U sm) R U dc U)<|eS U (MV U)<|eS U (MV U) ?_
 obtain ⟨x,hx⟩:=aJ m i I
 have H:=bO iC hx
 refine fS U (Tz i U (ag (n:=m.length) 0 U sm) cL dc I I I)<|fS U (gi i 0 (vI x) U cj (ag (n:=m.length) 0 U sm) H U dc U)<|fS U (Tz i U (ag (n:=m.length) 0 U sm) cL dc I I I)<|eT U<|cf U fun T8 N=>dk (k:=i) (o:=0) (vs:=[(vI y)]) (es':=(List.map iC (m.set i y))) (C':=[(own lA lC 3 1 (List.map iC (m.set i y)))]) 0 U U U Cs U U U U H U dc (by exact (List.map_set (f:=iC) (l:=m) (i:=i) (a:=y)).symm) U<|aA (N _ _ (aG []) ?_)
 refine cf U fun T9 O=>?_
 obtain ⟨S,G⟩:=aJ (m.set i y) ((((k:Int)-1-(i:Int))).toNat) os
 have hx11m:(List.map iC (m.set i y))[(((k:Int)-1-(i:Int))).toNat]? =some (iC S):=by rw [fB,G]; rfl
 refine rS (Tz ((((k:Int)-1-(i:Int))).toNat) U (ag (n:=(m.set i y).length) 0 U sm) cL dc I I (by simp; omega)) ?_
 refine aA (O _ _ (aG []) ?_)
 refine cf U fun T12 D=>dk (k:=(((k:Int)-1-(i:Int))).toNat) (o:=0) (vs:=[(vI x)]) (es':=(List.map iC ((m.set i y).set ((((k:Int)-1-(i:Int))).toNat) x))) (C':=[(own lA lC 3 1 (List.map iC ((m.set i y).set ((((k:Int)-1-(i:Int))).toNat) x)))]) 0 U U U Cs U U U U hx11m U dc (by exact (List.map_set (f:=iC) (l:=(m.set i y)) (i:=(((k:Int)-1-(i:Int))).toNat) (a:=x)).symm) U<|aA (D _ _ (aG []) ?_)
 refine fO U<|aH<|KK M<|al<|rP 6 [] mn ?_
 refine aA ?_
 have E:(vI (((i+1):Nat):Int))=(vI ((i:Int)+1)):=by exact cI I
 have F:(vI ((k:Int)-1-(((i+1):Nat):Int)))=(vI (((k:Int)-1-(i:Int))-1)):=by exact cI I
 refine aV (AB ⟨((i+1),((m.set i y).set ((((k:Int)-1-(i:Int))).toNat) x)),⟨I,Jk hk I I A hx hy⟩⟩ _ _ _ U os (dF.cons U<|bk U E<|bk U F<|dF.nil _) (aG [0]))
end
section
open Go.RowKit
theorem Jn (a b:Int) (r:bY) (kA:OA) (kC:Nat) (cA:OA) (cC:Nat) (bA:OA) (bC:Nat) (slA:OA) (slC:Nat) (drA:OA) (drC:Nat) (heA:OA) (heC:Nat) (tA:OA) (tN tC:Nat) (gs gw:Nat) (m:g_) (g1:Nat) (hb: ∀ p∈m,0≤p.2.Lo∧p.2.Lo≤p.2.Hi∧p.2.Hi≤30000000):
 eB Tryz.prog 53 [(vI a),(vI b),(vP g1)] [(cd gw 112 (gh.cells (gh.mk (oz r kA kC cA cC bA bC slA slC drA drC heA heC) (bj.mk tA tN tC) (Value.map (some gs))))),(iS iV gs (bW er m)),(cd g1 94 [(vP gw)])] (vI ((aD m a).Lo-(aD m b).Lo)):=by
 have A:=g8 (i:=a) hb
 have B:=g8 (i:=b) hb
 refine bG kr Tryz.func53 U U fun E Q hQ hN=>?_
 try dsimp only
 refine WS fun _ C=>bo 1 U<|RK C<|aj fun _ D=>dH cx 16 kr<|mV 1 [] (mr 2 U mn) U<|dS (SX (bP U U) U U)<|mV 3 [] (mr 0 U mn) U<|dS (SX (lg (kV:=iV) (x:=a) (l:=m) (f:=er) (z:=(aa.mk 0 0)) U U U ot (eX qp) xy (by exact lH 1 U)) U U)<|dS (SX (lk (v:=(vI (((List.lookup a m).getD (aa.mk 0 0)).Lo))) U U fw Af U) U U)<|mV 1 [] (mr 2 U mn) U<|dS (SX (bP U U) U U)<|dP 3 [] (mr 0 U mn) ?_
 refine dS (SX (lg (kV:=iV) (x:=b) (l:=m) (f:=er) (z:=(aa.mk 0 0)) U U U ot (eX qp) xy (by exact lH 1 U)) U U)<|dS (SX (lk (v:=(vI (((List.lookup b m).getD (aa.mk 0 0)).Lo))) U U fw Af U) U U) ?_
 unfold aD at A B
 simp only [dJ] at A B
 refine dP 2 [] mn ?_
 refine cQ<|RK D<|ar ?_
 exact Q1 hQ U U U U
theorem FY (r:bY) (kA:OA) (kC:Nat) (az:List RA) (cA:OA) (cC:Nat) (bA:OA) (bC:Nat) (slA:OA) (slC:Nat) (drA:OA) (drC:Nat) (ha:List cK) (heA:OA) (heC:Nat) (hin:fp r az ha):
 lB Tryz.prog 17 [(vA (cm.cells (oz r kA kC cA cC bA bC slA slC drA drC heA heC)))] [(rd fg 3 2 eu),(rd kA r.an.aL.length 9 (r.an.aL.map ak.cells)),(rd cA r.an.ah.length 2 (List.zipWith ao.cells r.an.ah az)),(e9 (aW ao.gP r.an.ah az)),(rd bA r.an.ae.length 4 (r.an.ae.map bE.cells)),(rd slA r.aM.length 1 (r.aM.map iC)),(rd drA r.bK.length 1 (r.bK.map iC)),(rd heA r.aq.length 1 (List.zipWith cD r.aq ha)),(e9 (aW iy r.aq ha))] (fun (x:(List RA)×(OA)×Nat)=>(vT [(vS x.2.1 ((dU r).length) x.2.2),(vI (cM r))])) (fun (x:(List RA)×(OA)×Nat)=>x.1.length=(dU r).length) (fun (x:(List RA)×(OA)×Nat)=>[(own x.2.1 x.2.2 29 1 (List.zipWith nx (dU r) x.1)),(br (aW th (dU r) x.1))]):=by
 have Go:=hin.line
 have K8:=hin.iW
 have LA:=hin.has
 have J3:=hin.jd
 have I0:=hin.draw
 have J4:=dQ (r:=r)
 refine di kr Tryz.func17 U U fun w0 Q hQ hN=>?_
 try dsimp only
 refine WS fun _ Fd=>gd U fun b2=>bo 2 U<|RK Fd<|WS fun _ AS=>rP 1 [] (mc 0 U mn) ?_
 refine cX (oG r kA kC az cA cC bA bC slA slC drA drC ha heA heC hin) (bp [1,2,3,4,5,6,7,8,9]) U fun y4 C3=>?_
 obtain ⟨DL,K0,X,O,Di,W,J8⟩:=y4
 cases DL
 ·obtain ⟨C0,he⟩:=C3.2 rfl
  try dsimp only at C0 he
  subst C0
  try dsimp only [cond_true,cond_false,List.cons_append,List.nil_append]
  refine bo 3 U<|AL U RI fun KR=>GZ U Tv U U<|bo 1 U<|RK AS<|aj fun _ In=>WS fun _ p=>rP 2 [] mn ?_
  refine RK p<|bS U (bw fun g=>?_) (bx fun g=>?_)
  ·exact absurd g he
  refine WS fun _ s=>rP 1 [] mn ?_
  have E:dU r=[]:=CD he
  have Z:([]:List RA).length=(dU r).length:=by rw [E]; rfl
  refine ed 29 1<|xb ?_
  rw [show (own none 0 29 1 ([]:List (List Value)))=own none 0 29 1 (List.zipWith nx (dU r) []) from by rw [E]; rfl,show br []=br (aW th (dU r) []) from by rw [E]; rfl]
  refine rP 2 [] mn ?_
  refine RK s<|ar ?_
  refine LX hQ ([],none,0) [1,0] [] mn U (by show List.all _ _=true; simp only [fE,List.all_nil,Lz,Bool.and_true]; rfl) U ?_ ?_
  ·first|rfl|(rw [E]; rfl)|(rw [he,← E,List.length_map]; rfl)|(rw [he,E]; rfl)
  ·exact Z
 obtain ⟨he,LL⟩:=C3.1 rfl
 try dsimp only [cond_true,cond_false,List.cons_append,List.nil_append]
 have AB:=oh he
 have J2:=pk he
 refine bo 3 U<|AL U RI fun R=>GZ U Tv U U<|bo 1 U<|RK AS<|aj fun _ t=>WS fun _ v=>bo 1 U<|rS (SX (cb (r:= .bool false) U U U nK) U U)<|RK v<|a_ U<|WK t<|WS fun _ w=>bo 1 U<|RK w<|WS fun _ y=>bo 1 U<|RK y<|aj fun _ AC=>WS fun _ AO=>fY 1 [] (mc 0 U mn) U<|rS (SX (bP U U) U U)<|rP 2 [] (mc 1 U mn) ?_
 refine cX (GR O) (aI) U fun Eq J5=>?_
 try dsimp only
 refine cX (z6 (aF r) O Eq sd) (bp [5,0]) U fun Id J6=>?_
 obtain ⟨EQ,FR⟩:=Id
 try dsimp only
 rw [show (aF r).length=(dB ((aF r).map (·.1))).length from by rw [gI,List.length_map]]
 refine rS (FU U) ?_
 refine cX (zp (dB ((aF r).map (·.1))) EQ FR (Value.func (.func 53) [].toArray [(vP R)].toArray) (fun u=>(aD (aF r) u).Lo) (e9 [(cd X 112 (gh.cells (gh.mk (oz r kA kC cA cC bA bC slA slC drA drC heA heC) (bj.mk Di ((cT r).length) W) (Value.map (some O))))),(iS iV O (bW er (aF r))),(cd R 94 [(vP X)])]) (by intro IO IR _; exact oi (fi:=[]) (ca:=[(vP R)]) (mA (Jn IO IR r kA kC cA cC bA bC slA slC drA drC heA heC Di ((cT r).length) W O X (aF r) R (by first|assumption|omega)) (NR 0 1 2 U U U U U U))) (by exact TG AB) (by rw [gI,List.length_map]; omega)) (au (ag (n:=(dB ((aF r).map (·.1))).length) 0 U sm)<|au (mB (NR 3 6 2 U U U U U U))<|aI) U fun If J7=>?_
 obtain ⟨J9,Kc⟩:=If
 try dsimp only
 have LE:(eK (fun u=>(aD (aF r) u).Lo) (dB ((aF r).map (·.1)))).length=(aF r).length:=by rw [kM,gI,List.length_map]
 have C2:Fp (fun u=>(aD (aF r) u).Lo) (eK (fun u=>(aD (aF r) u).Lo) (dB ((aF r).map (·.1)))):=uV
 refine rP 2 [] mn ?_
 refine RK AO<|ax<|gr 29 1<|lV ?_
 have H:(0≤(eK (fun u=>(aD (aF r) u).Lo) (dB ((aF r).map (·.1)))).length)∧(([]:List RA).length=([]:List (List Int)).length)∧(mD (aD (aF r)) ((eK (fun u=>(aD (aF r) u).Lo) (dB ((aF r).map (·.1)))).take 0) ([]:List (List Int)) (-1))∧(-1≤(-1)∧(-1)≤30000000):=by exact ⟨Nat.zero_le _,rfl,F7,I⟩
 refine bL (ι:={z:Nat×(List (List Int))×(List RA)×(OA)×Nat×Int // (z.1≤(eK (fun u=>(aD (aF r) u).Lo) (dB ((aF r).map (·.1)))).length)∧(z.2.2.1.length=z.2.1.length)∧(mD (aD (aF r)) ((eK (fun u=>(aD (aF r) u).Lo) (dB ((aF r).map (·.1)))).take z.1) z.2.1 z.2.2.2.2.2)∧(-1≤z.2.2.2.2.2∧z.2.2.2.2.2≤30000000)}) [1,4,29,30] [2,3,5,6,7,8,9,11,12,13,14,15,16,17,18,19] U U (fun z=>[(6,(vS z.1.2.2.2.1 z.1.2.1.length z.1.2.2.2.2.1)),(7,(vI z.1.2.2.2.2.2)),(31,(vI (z.1.1:Int)))]) (fun z=>[(br (aW th z.1.2.1 z.1.2.2.1)),(own z.1.2.2.2.1 z.1.2.2.2.2.1 29 1 (List.zipWith nx z.1.2.1 z.1.2.2.1))]) (fun _=>rfl) (fun _=>rfl) (fun z=>(eK (fun u=>(aD (aF r) u).Lo) (dB ((aF r).map (·.1)))).length-z.1.1) ⟨(0,([]:List (List Int)),([]:List RA),none,0,(-1)),H⟩ (aU U) (aG [2,3,5,6,7,8,9,11,12,13,14,15,16,17,18,19,0,1]) ?_
 clear H
 rintro ⟨⟨i,G,gz,a,c,last⟩,⟨b,C,A,d⟩⟩ J37 T
 try dsimp only at b C A d
 try dsimp only
 have GE:G.length≤12:=by have:=GJ A; omega
 have K4:(G++[([]:List Int)]).length=G.length+1:=by simp
 have I4:(gz++[((none,0):RA)]).length=gz.length+1:=by simp
 refine WS fun _ Ao=>rP 1 [] mn ?_
 refine RK Ao<|aj fun _ Ap=>bS U (aP fun FS=>?_) (aQ fun FS=>?_)
 ·refine bD<|ab<|ab<|ay<|KK AC<|aj fun _ A7=>aj fun _ A8=>?_
  have GE:G.length≤12:=by have:=GJ A; omega
  refine al<|rP 3 [] mn ?_
  refine RK A8<|ax ?_
  have H:(0≤G.length):=by exact Nat.zero_le _
  refine bL (ι:={z:Nat // (z≤G.length)}) [1,6,66,67] [0,1,3,4,5,6,7,8,9,10,11,12,13,14,15,17] U U (fun z=>[(68,(vI (z.1:Int)))]) (fun z=>[(br (aW th (n_ G z.1) gz))]) (fun _=>rfl) (fun _=>rfl) (fun z=>G.length-z.1) ⟨0,H⟩ (aU U) (aG [0,1,3,4,5,6,7,8,9,10,11,12,13,14,15,17,16]) ?_
  clear H
  rintro ⟨j,Do⟩ J65 h
  try dsimp only
  refine WS fun _ A9=>rP 1 [] mn ?_
  refine RK A9<|aj fun _ Bm=>bS U (aP fun FT=>?_) (aQ fun FT=>?_)
  ·refine bD<|ab<|ab<|ay<|KK A7<|aj fun _ B9=>?_
   have Gm:G.length≤j:=by omega
   have Y:=vK A.ok
   rw [List.take_of_length_le I] at Y
   have E:G.map dB=dU r:=uq he (qH Y.1 (qx.trans fT)) Y.2
   have Z:gz.length=(dU r).length:=by rw [← E,List.length_map]; omega
   rw [Et Gm,E,← Ki,E]
   refine al<|bo 1 U<|rP 2 [] mn ?_
   refine RK B9<|ar ?_
   refine LX hQ (gz,a,c) [15,16] [] mn U (by show List.all _ _=true; simp only [fE,List.all_nil,Lz,Bool.and_true]; rfl) U ?_ ?_
   ·first|rfl|(rw [E]; rfl)|(rw [he,← E,List.length_map]; rfl)|(rw [he,E]; rfl)
   ·exact Z
  refine WK Bm<|aj fun _ B3=>ax<|aj fun _ B7=>?_
  obtain ⟨cg,B⟩:=aJ G j I
  obtain ⟨cga,D⟩:=aJ gz j I
  have F:(List.zipWith nx G gz)[j]? =some (nx cg cga):=dG B D
  refine DZ (f:=th) 16 (Ix B) D U U U ?_
  try dsimp only
  refine al<|rS (IA j U (ag (n:=G.length) 17 U (lz C)) pJ dc I I)<|rS (gi j 0 (vS cga.1 cg.length cga.2) U cj (ag (n:=G.length) 17 U (lz C)) F U dc U)<|bo 1 U<|RK B7<|al<|rP 1 [] mn ?_
  refine jm 0 U U U U (Ac cg cga.1 cga.2 (by have:=Ar A (aT B); omega)) U kG U (fun msrt C1=>?_)
  try dsimp only
  refine aA<|aH<|KK B3<|al<|rP 2 [] mn ?_
  refine aA ?_
  obtain rfl:=qs C1.1 C1.2
  refine Oy (f:=th) (ms:=n_ G j) (m:=dB cg) 1 0 (by rw [DX]; omega) D U U U ?_
  rw [Fj B]
  have Cx:(vI (((j+1):Nat):Int))=(vI ((j:Int)+1)):=by exact cI I
  refine aV (h ⟨(j+1),(by first|omega|(simp only []; omega))⟩ _ _ _ U os (cU 4<|bk U Cx<|dF.nil _) (aG [1,2,3,4,5,6,7,8,9,10,11,12,13,14,15,16,0]))
 refine WK Ap<|aj fun _ AA=>ax<|WS fun _ A0=>?_
 obtain ⟨x,hx⟩:=aJ (eK (fun u=>(aD (aF r) u).Lo) (dB ((aF r).map (·.1)))) i I
 have H1:=bO iC hx
 refine rS (IA i U (ag (n:=(eK (fun u=>(aD (aF r) u).Lo) (dB ((aF r).map (·.1)))).length) 0 U sm) cL dc I I)<|rS (gi i 0 (vI x) U cj (ag (n:=(eK (fun u=>(aD (aF r) u).Lo) (dB ((aF r).map (·.1)))).length) 0 U sm) H1 U dc U)<|bo 1 U<|RK A0<|WS fun _ A1=>fY 1 [] (mc 2 U mn) U<|rS (SX (bP U U) U U)<|rP 2 [] (mc 3 U mn) ?_
 have Hc:=g8 (i:=x) AB
 refine rP 1 [] mn ?_
 refine rS (SX (lg (kV:=iV) (x:=x) (l:=(aF r)) (f:=er) (z:=(aa.mk 0 0)) U U U ot (eX qp) xy (by exact aC 6 U)) U U)<|AL U dv fun KT=>gl U cy U<|RK A1<|aj fun _ V=>WS fun _ A2=>?_
 rw [show ((List.lookup x (aF r)).getD (aa.mk 0 0))=(aD (aF r) x) from rfl]
 refine rP 4 [] (mc 0 U mn) ?_
 refine RK A2<|bS U (aP fun N=>?_) (aQ fun N=>?_)
 ·refine WK V<|aj fun _ A5=>?_
  have K5:1≤G.length:=FE Hc.1 A N
  refine al<|rP 4 [] mn ?_
  refine RK A5<|aj fun _ A6=>?_
  have GT:(G.length-1)<G.length:=by first|omega|(simp; done)
  obtain ⟨cg,B⟩:=aJ G (G.length-1) I
  obtain ⟨cga,D⟩:=aJ gz (G.length-1) I
  have F:(List.zipWith nx G gz)[(G.length-1)]? =some (nx cg cga):=dG B D
  refine DZ (f:=th) 17 B D U U U ?_
  try dsimp only
  refine al<|bo 4 U<|rS (IA (G.length-1) U (ag (n:=G.length) 19 U (lz C)) pJ dc I I)<|rS (gi (G.length-1) 0 (vS cga.1 cg.length cga.2) U cj (ag (n:=G.length) 19 U (lz C)) F U dc U)<|rP 1 [] mn ?_
  have Fn:cg.length≤12:=(dM.1 (show cg∈G++[[]] from by first|exact aT B|exact List.mem_append_left _ (aT B))).elim (fun q=>by have:=Ar A q; omega) (fun q=>by simp at q; subst q; simp)
  refine c_ (xs:=[.tmp 57]) (cs:=[(vI x)]) U cL jA U U U U (by simp [Value.cells]) U U fun KY=>?_
  refine ck (es2:=(List.map iC (cg++[x]))) (m':=(cg++[x]).length) 1 U U U pw U U sm (aZ (es:=List.map iC [x]) 0 U U (by simp [bI]) U) (jP _) os (by first|(simp only [maxLen]; omega)|(simp [maxLen]; omega)) sm sm U fun K M=>?_
  try dsimp only
  refine rS (IA (G.length-1) U (ag (n:=G.length) 20 U (lz C)) pJ dc I I)<|dk (k:=(G.length-1)) (o:=0) (vs:=[(vS K ((cg++[x]).length) M)]) (es':=(List.zipWith nx (G.set (G.length-1) (cg++[x])) (gz.set (G.length-1) (K,M)))) (C':=[_,_,_,_,_,_,_,_,_,_,_,_,_,_,_,_,_,_,_,_,(own a c 29 1 (List.zipWith nx (G.set (G.length-1) (cg++[x])) (gz.set (G.length-1) (K,M))))]) 20 U U U xN U U U U F U dc (by exact qS (c:=nx) (m:=(cg++[x])) (a:=(K,M))) U<|F3 (f:=th) (ms:=G) (asl:=gz) (m:=(cg++[x])) (a:=(K,M)) 2 1 I I U U U<|RK A6<|al<|fY 3 [] (mc 2 U mn) U<|rS (MX U)<|bo 1 U<|aA<|aH<|KK AA<|al<|rP 2 [] mn ?_
  refine aA ?_
  have Ck:(vS a ((G.set (G.length-1) (cg++[x])).length) c)=(vS a G.length c):=by rw [List.length_set]
  have Cp:(vI (((i+1):Nat):Int))=(vI ((i:Int)+1)):=by exact cI I
  refine aV (T ⟨((i+1),(G.set (G.length-1) (cg++[x])),(gz.set (G.length-1) (K,M)),a,c,(max last ((aD (aF r) x).Hi))),⟨I,by simp; omega,by first|exact p_ I hx B A N|exact oZ I (fun u _=>(g8 (i:=u) AB).2.1) C2 hx B A N,dso⟩⟩ _ _ _ U os (cU 4<|bk U Ck<|dF.cons U<|bk U Cp<|dF.nil _) (aG [3,4,5,6,7,8,9,10,11,12,13,14,15,16,17,18,0,19]))
 refine al<|rP 1 [] mn ?_
 refine c_ (xs:=[.const (vS none 0 0)]) (cs:=[(vS none 0 0)]) U pJ v8 U U U U (by simp [Value.cells]) U U fun KU=>?_
 refine ck (es2:=(List.zipWith nx (G++[[]]) (gz++[(none,0)]))) (m':=(G++[[]]).length) 19 rfl rfl rfl Vn rfl rfl (lz C).symm (aZ (es:=List.zipWith nx [[]] [(none,0)]) 0 rfl rfl (by intro e he; simp [nx] at he; subst he; rfl) rfl) (M9 _ _) I (by simp only [maxLen]; omega) (Ii I) (by simp; omega) rfl fun P S=>?_
 try dsimp only
 refine ed 3 1<|Q9 (Y':=aW th (G++[[]]) (gz++[(none,0)])) 19 0 U U (E_ I U)<|bo 1 U<|RK V<|WS fun _ A3=>rP 4 [] mn ?_
 refine RK A3<|aj fun _ A4=>?_
 have GT:((G++[[]]).length-1)<(G++[[]]).length:=by first|omega|(simp; done)
 obtain ⟨cg,B⟩: ∃ y_,(G++[[]])[((G++[[]]).length-1)]? =some y_:=⟨(G++[[]])[((G++[[]]).length-1)]'I,fc _⟩
 obtain ⟨cga,D⟩: ∃ y_,(gz++[(none,0)])[((G++[[]]).length-1)]? =some y_:=⟨(gz++[(none,0)])[((G++[[]]).length-1)]'I,fc _⟩
 have F:(List.zipWith nx (G++[[]]) (gz++[(none,0)]))[((G++[[]]).length-1)]? =some (nx cg cga):=dG B D
 refine DZ (f:=th) 0 B D U U U ?_
 try dsimp only
 refine al<|rP 4 [] mn ?_
 refine rS (IA ((G++[[]]).length-1) U (ag (n:=(G++[[]]).length) 20 U (lz (by simp; omega))) pJ dc I I) ?_
 refine rS (gi ((G++[[]]).length-1) 0 (vS cga.1 cg.length cga.2) U cj (ag (n:=(G++[[]]).length) 20 U (lz (by simp; omega))) F U dc U) ?_
 refine rP 1 [] mn ?_
 have Fn:cg.length≤12:=(dM.1 (show cg∈G++[[]] from by first|exact aT B|exact List.mem_append_left _ (aT B))).elim (fun q=>by have:=Ar A q; omega) (fun q=>by simp at q; subst q; simp)
 refine c_ (xs:=[.tmp 57]) (cs:=[(vI x)]) U cL jA U U U U (by simp [Value.cells]) U U fun KX=>?_
 refine ck (es2:=(List.map iC (cg++[x]))) (m':=(cg++[x]).length) 1 U U U pw U U sm (aZ (es:=List.map iC [x]) 0 U U (by simp [bI]) U) (jP _) os (by first|(simp only [maxLen]; omega)|(simp [maxLen]; omega)) sm sm U fun J L=>?_
 try dsimp only
 refine rS (IA ((G++[[]]).length-1) U (ag (n:=(G++[[]]).length) 21 U (lz (by simp; omega))) pJ dc I I) ?_
 refine dk (k:=((G++[[]]).length-1)) (o:=0) (vs:=[(vS J ((cg++[x]).length) L)]) (es':=(List.zipWith nx ((G++[[]]).set ((G++[[]]).length-1) (cg++[x])) ((gz++[(none,0)]).set ((G++[[]]).length-1) (J,L)))) (C':=[_,_,_,_,_,_,_,_,_,_,_,_,_,_,_,_,_,_,_,_,_,(own P S 29 1 (List.zipWith nx ((G++[[]]).set ((G++[[]]).length-1) (cg++[x])) ((gz++[(none,0)]).set ((G++[[]]).length-1) (J,L))))]) 21 U U U xN U U U U F U dc (by exact qS (c:=nx) (m:=(cg++[x])) (a:=(J,L))) U<|F3 (f:=th) (ms:=(G++[[]])) (asl:=(gz++[(none,0)])) (m:=(cg++[x])) (a:=(J,L)) 2 1 I I U U U<|RK A4<|al<|fY 3 [] (mc 3 U mn) U<|rS (MX U)<|bo 1 U<|aA<|aH<|KK AA<|al<|rP 2 [] mn ?_
 refine aA ?_
 have Ca:(vS P (((G++[[]]).set ((G++[[]]).length-1) (cg++[x])).length) S)=(vS P ((G++[[]]).length) S):=by rw [List.length_set]
 have Ci:(vI (((i+1):Nat):Int))=(vI ((i:Int)+1)):=by exact cI I
 refine aV (T ⟨((i+1),((G++[[]]).set ((G++[[]]).length-1) (cg++[x])),((gz++[(none,0)]).set ((G++[[]]).length-1) (J,L)),P,S,(max last ((aD (aF r) x).Hi))),⟨I,by simp; omega,by first|exact p_ I hx B A N|exact oZ I (fun u _=>(g8 (i:=u) AB).2.1) C2 hx B A N,dso⟩⟩ _ _ _ U os (cU 4<|bk U Ca<|dF.cons U<|bk U Ci<|dF.nil _) (aG [4,5,6,7,8,9,10,11,12,13,14,15,16,17,18,19,0,20]))
end
section
open Go.RowKit
theorem vz (G:List (List Int)) (H:List (List Int)) (gz:List RA) (gA:OA) (gC:Nat) (hz:List RA) (hA:OA) (hC:Nat) (h1:G.length≤1000000) (h2:H.length≤1000000) (h3: ∀ l∈G,l.length≤1000000) (h4: ∀ l∈H,l.length≤1000000) (hgz:gz.length=G.length) (hhz:hz.length=H.length):
 eB Tryz.prog 18 [(vS gA G.length gC),(vS hA H.length hC)] [(rd gA G.length 1 (List.zipWith nx G gz)),(e9 (aW Rx G gz)),(rd hA H.length 1 (List.zipWith nx H hz)),(e9 (aW Rx H hz))] (vB (decide (G=H))):=by
 refine bG kr Tryz.func18 U U fun Z Q hQ hN=>?_
 try dsimp only
 refine WS fun _ N=>bo 1 U<|RK N<|aj fun _ O=>WS fun _ P=>rP 5 [] mn ?_
 refine RK P<|cP U (bx fun hl=>?_) (bw fun hl=>?_)
 ·refine WS fun _ R=>rP 1 [] mn ?_
  refine RK R<|ar<|Q1 hQ U U U ?_
  first|exact cB (ct (nY hx hy h)).symm|exact cB (gf (nM I A I)).symm|exact cB (ct (fun e=>by subst e; omega)).symm
 refine WK O<|aj fun _ S=>WS fun _ T=>rP 1 [] mn ?_
 refine RK T<|ax ?_
 have B:(0≤G.length)∧(G.take 0=H.take 0):=by exact ⟨Nat.zero_le _,rfl⟩
 refine bL (ι:={z:Nat // (z≤G.length)∧(G.take z=H.take z)}) [0,1] [0,1,2,3] U U (fun z=>[(5,(vI (z.1:Int)))]) (fun z=>[]) (fun _=>rfl) (fun _=>rfl) (fun z=>G.length-z.1) ⟨0,B⟩ (aU U) (aG [0,1,2,3]) ?_
 clear B
 rintro ⟨i,⟨W,A⟩⟩ J7 M
 try dsimp only
 refine aj fun _ AA=>WS fun _ V=>rP 4 [] mn ?_
 refine RK V<|bS U (aP fun L=>?_) (aQ fun L=>?_)
 ·refine bD<|ab<|ab<|ay<|KK S<|WS fun _ F=>rP 1 [] mn ?_
  refine RK F<|ar<|Q1 hQ U U U ?_
  first|exact cB (ct (nY hx hy h)).symm|exact cB (gf (nM I A I)).symm|exact cB (ct (fun e=>by subst e; omega)).symm
 refine WK AA<|aj fun _ C=>ax<|aj fun _ D=>dH cx 10 kr<|dP 2 [] mn ?_
 obtain ⟨x,hx⟩:=aJ G i I
 obtain ⟨xa,J⟩:=aJ gz i I
 have X:(List.zipWith nx G gz)[i]? =some (nx x xa):=dG hx J
 refine dS (IA i U (aC 0 U) pJ dc I I)<|dS (gi i 0 (vS xa.1 x.length xa.2) U cj (aC 0 U) X U dc U)<|dP 2 [] mn ?_
 obtain ⟨y,hy⟩:=aJ H i I
 obtain ⟨ya,K⟩:=aJ hz i I
 have Y:(List.zipWith nx H hz)[i]? =some (nx y ya):=dG hy K
 refine dS (IA i U (aC 2 U) pJ dc I I)<|dS (gi i 0 (vS ya.1 y.length ya.2) U cj (aC 2 U) Y U dc U)<|dS (CL (oH x xa.1 xa.2 y ya.1 ya.2 (by exact h3 x (aT hx)) (by exact h4 y (aT hy))) (au (show iA _ (rd xa.1 x.length 1 (x.map iC)).holds from (dA 1 U (bM hx J (by simp [Rx]))))<|au (show iA _ (rd ya.1 y.length 1 (y.map iC)).holds from (dA 3 U (bM hy K (by simp [Rx]))))<|aI) U)<|dP 1 [] mn ?_
 refine cQ<|RK D<|cP U (bx fun h=>?_) (bw fun h=>?_)
 ·refine WS fun _ E=>rP 1 [] mn ?_
  refine RK E<|ar<|Q1 hQ U U U ?_
  first|exact cB (ct (nY hx hy h)).symm|exact cB (gf (nM I A I)).symm|exact cB (ct (fun e=>by subst e; omega)).symm
 refine cr<|aH<|KK C<|al<|rP 3 [] mn ?_
 refine aA ?_
 have AB:(vI (((i+1):Nat):Int))=(vI ((i:Int)+1)):=by exact cI I
 refine aV (M ⟨(i+1),⟨I,vc A hx hy h⟩⟩ _ _ _ U os (dF.cons U<|dF.cons U<|bk U AB<|dF.nil _) (aG [0,1,2,3]))
end
section
open Go.RowKit
theorem JR (l:List ak) (lA:OA) (lC:Nat) (hlen:l.length≤1000000):
 lB Tryz.prog 142 [(vS lA l.length lC)] [(rd lA l.length 9 (l.map ak.cells))] (fun (x:(OA)×Nat)=>(vS x.1 l.length x.2)) (fun (x:(OA)×Nat)=>True) (fun (x:(OA)×Nat)=>[(own x.1 x.2 153 9 (l.map ak.cells))]):=by
 refine di kr Tryz.func142 U U fun L Q hQ hN=>?_
 try dsimp only
 refine WS fun _ D=>bo 1 U<|RK D<|aj fun _ E=>WS fun _ F=>rP 1 [] mn ?_
 refine rS (BI U (qy QM))<|RK F<|cP U (aQ fun B=>?_) (aP fun B=>?_)
 ·refine WS fun _ G=>mE (aC 0 U) B dc fun C=>?_
  have A:l=[]:=by simpa using C
  refine ed 153 9 ?_
  rw [show (own none 0 153 9 ([]:List (List Value)))=own none 0 153 9 (l.map ak.cells) from by rw [A]; rfl]
  refine rP 1 [] mn ?_
  refine RK G<|ar ?_
  refine LX hQ (none,0) [0] [] mn U U U ?_ ?_
  ·first|rfl|(rw [A]; rfl)
  ·trivial
 refine WK E<|WS fun _ H=>ld U wQ U fun J=>rP 1 [] mn ?_
 refine cR (es:=(List.map ak.cells [])) (C':=[own (some ⟨J,0,none⟩) 0 153 9 (List.map ak.cells []),_]) 0 U sm U (by simp [maxLen]) U ?_
 refine ck (es2:=(List.map ak.cells l)) (m':=l.length) 0 U U U Up U U sm (aC 1 U) (nH _) os (by first|(simp only [maxLen]; omega)|(simp [maxLen]; omega)) sm sm U fun AA K=>?_
 try dsimp only
 refine rP 1 [] mn ?_
 refine RK H<|ar ?_
 refine LX hQ (AA,K) [0] [] mn U U U ?_ ?_
 ·first|rfl|(rw [A]; rfl)
 ·trivial
theorem LK (l:List bE) (lA:OA) (lC:Nat) (hlen:l.length≤1000000):
 lB Tryz.prog 144 [(vS lA l.length lC)] [(rd lA l.length 4 (l.map bE.cells))] (fun (x:(OA)×Nat)=>(vS x.1 l.length x.2)) (fun (x:(OA)×Nat)=>True) (fun (x:(OA)×Nat)=>[(own x.1 x.2 160 4 (l.map bE.cells))]):=by
 refine di kr Tryz.func144 U U fun L Q hQ hN=>?_
 try dsimp only
 refine WS fun _ D=>bo 1 U<|RK D<|aj fun _ E=>WS fun _ F=>rP 1 [] mn ?_
 refine rS (BI U (qy QU))<|RK F<|cP U (aQ fun B=>?_) (aP fun B=>?_)
 ·refine WS fun _ G=>mE (aC 0 U) B dc fun C=>?_
  have A:l=[]:=by simpa using C
  refine ed 160 4 ?_
  rw [show (own none 0 160 4 ([]:List (List Value)))=own none 0 160 4 (l.map bE.cells) from by rw [A]; rfl]
  refine rP 1 [] mn ?_
  refine RK G<|ar ?_
  refine LX hQ (none,0) [0] [] mn U U U ?_ ?_
  ·first|rfl|(rw [A]; rfl)
  ·trivial
 refine WK E<|WS fun _ H=>ld U vo U fun J=>rP 1 [] mn ?_
 refine cR (es:=(List.map bE.cells [])) (C':=[own (some ⟨J,0,none⟩) 0 160 4 (List.map bE.cells []),_]) 0 U sm U (by simp [maxLen]) U ?_
 refine ck (es2:=(List.map bE.cells l)) (m':=l.length) 0 U U U SV U U sm (aC 1 U) (qh _) os (by first|(simp only [maxLen]; omega)|(simp [maxLen]; omega)) sm sm U fun AA K=>?_
 try dsimp only
 refine rP 1 [] mn ?_
 refine RK H<|ar ?_
 refine LX hQ (AA,K) [0] [] mn U U U ?_ ?_
 ·first|rfl|(rw [A]; rfl)
 ·trivial
theorem Jq (l:List bJ) (lA:OA) (lC:Nat) (hlen:l.length≤1000000):
 lB Tryz.prog 145 [(vS lA l.length lC)] [(rd lA l.length 3 (l.map bJ.cells))] (fun (x:(OA)×Nat)=>(vS x.1 l.length x.2)) (fun (x:(OA)×Nat)=>True) (fun (x:(OA)×Nat)=>[(own x.1 x.2 55 3 (l.map bJ.cells))]):=by
 refine di kr Tryz.func145 U U fun L Q hQ hN=>?_
 try dsimp only
 refine WS fun _ D=>bo 1 U<|RK D<|aj fun _ E=>WS fun _ F=>rP 1 [] mn ?_
 refine rS (BI U (qy Ut))<|RK F<|cP U (aQ fun B=>?_) (aP fun B=>?_)
 ·refine WS fun _ G=>mE (aC 0 U) B dc fun C=>?_
  have A:l=[]:=by simpa using C
  refine ed 55 3 ?_
  rw [show (own none 0 55 3 ([]:List (List Value)))=own none 0 55 3 (l.map bJ.cells) from by rw [A]; rfl]
  refine rP 1 [] mn ?_
  refine RK G<|ar ?_
  refine LX hQ (none,0) [0] [] mn U U U ?_ ?_
  ·first|rfl|(rw [A]; rfl)
  ·trivial
 refine WK E<|WS fun _ H=>ld U pz U fun J=>rP 1 [] mn ?_
 refine cR (es:=(List.map bJ.cells [])) (C':=[own (some ⟨J,0,none⟩) 0 55 3 (List.map bJ.cells []),_]) 0 U sm U (by simp [maxLen]) U ?_
 refine ck (es2:=(List.map bJ.cells l)) (m':=l.length) 0 U U U yA U U sm (aC 1 U) (e_ _) os (by first|(simp only [maxLen]; omega)|(simp [maxLen]; omega)) sm sm U fun AA K=>?_
 try dsimp only
 refine rP 1 [] mn ?_
 refine RK H<|ar ?_
 refine LX hQ (AA,K) [0] [] mn U U U ?_ ?_
 ·first|rfl|(rw [A]; rfl)
 ·trivial
theorem LU (l:List aK) (lA:OA) (lC:Nat) (hlen:l.length≤1000000):
 lB Tryz.prog 148 [(vS lA l.length lC)] [(rd lA l.length 2 (l.map aK.cells))] (fun (x:(OA)×Nat)=>(vS x.1 l.length x.2)) (fun (x:(OA)×Nat)=>True) (fun (x:(OA)×Nat)=>[(own x.1 x.2 107 2 (l.map aK.cells))]):=by
 refine di kr Tryz.func148 U U fun L Q hQ hN=>?_
 try dsimp only
 refine WS fun _ D=>bo 1 U<|RK D<|aj fun _ E=>WS fun _ F=>rP 1 [] mn ?_
 refine rS (BI U (qy Tk))<|RK F<|cP U (aQ fun B=>?_) (aP fun B=>?_)
 ·refine WS fun _ G=>mE (aC 0 U) B dc fun C=>?_
  have A:l=[]:=by simpa using C
  refine ed 107 2 ?_
  rw [show (own none 0 107 2 ([]:List (List Value)))=own none 0 107 2 (l.map aK.cells) from by rw [A]; rfl]
  refine rP 1 [] mn ?_
  refine RK G<|ar ?_
  refine LX hQ (none,0) [0] [] mn U U U ?_ ?_
  ·first|rfl|(rw [A]; rfl)
  ·trivial
 refine WK E<|WS fun _ H=>ld U yK U fun J=>rP 1 [] mn ?_
 refine cR (es:=(List.map aK.cells [])) (C':=[own (some ⟨J,0,none⟩) 0 107 2 (List.map aK.cells []),_]) 0 U sm U (by simp [maxLen]) U ?_
 refine ck (es2:=(List.map aK.cells l)) (m':=l.length) 0 U U U SI U U sm (aC 1 U) (oS _) os (by first|(simp only [maxLen]; omega)|(simp [maxLen]; omega)) sm sm U fun AA K=>?_
 try dsimp only
 refine rP 1 [] mn ?_
 refine RK H<|ar ?_
 refine LX hQ (AA,K) [0] [] mn U U U ?_ ?_
 ·first|rfl|(rw [A]; rfl)
 ·trivial
theorem Kd (es:List (List Value)) (lA:OA) (n lC:Nat) (hlen:n≤1000000) (hes:es.length=n) (hone: ∀ v∈es.flatten,v.oneCell'=true):
 lB Tryz.prog 143 [(vS lA n lC)] [(rd lA n 2 es)] (fun (x:(OA)×Nat)=>(vS x.1 n x.2)) (fun (x:(OA)×Nat)=>True) (fun (x:(OA)×Nat)=>[(own x.1 x.2 53 2 es)]):=by
 refine di kr Tryz.func143 U U fun L Q hQ hN=>?_
 try dsimp only
 refine WS fun _ D=>bo 1 U<|RK D<|aj fun _ E=>WS fun _ F=>rP 1 [] mn ?_
 refine rS (BI U (qy Tp))<|RK F<|cP U (aQ fun B=>?_) (aP fun B=>?_)
 ·refine WS fun _ G=>mE (aC 0 U) B dc fun C=>?_
  have A:es=[]:=C
  refine ed 53 2 ?_
  rw [show (own none 0 53 2 ([]:List (List Value)))=own none 0 53 2 es from by rw [A]]
  refine rP 1 [] mn ?_
  refine RK G<|ar ?_
  refine LX hQ (none,0) [0] [] mn U U U ?_ ?_
  ·first|rfl|(rw [hes]; rfl)|(rw [← hes,A]; rfl)
  ·trivial
 refine WK E<|WS fun _ H=>ld U uQ U fun J=>rP 1 [] mn ?_
 refine cR (es:=(List.map dx.cells [])) (C':=[own (some ⟨J,0,none⟩) 0 53 2 (List.map dx.cells []),_]) 0 U sm U (by simp [maxLen]) U ?_
 refine ck (es2:=es) (m':=es.length) 0 U U U TI U U sm (aC 1 U) hone (by simp; omega) (by simp [maxLen]; omega) sm U U fun AA K=>?_
 try dsimp only
 refine rP 1 [] mn ?_
 refine RK H<|ar ?_
 refine LX hQ (AA,K) [0] [] mn U U U ?_ ?_
 ·first|rfl|(rw [hes]; rfl)|(rw [← hes,A]; rfl)
 ·trivial
theorem K7 (es:List (List Value)) (lA:OA) (n lC:Nat) (hlen:n≤1000000) (hes:es.length=n) (hone: ∀ v∈es.flatten,v.oneCell'=true):
 lB Tryz.prog 147 [(vS lA n lC)] [(rd lA n 7 es)] (fun (x:(OA)×Nat)=>(vS x.1 n x.2)) (fun (x:(OA)×Nat)=>True) (fun (x:(OA)×Nat)=>[(own x.1 x.2 62 7 es)]):=by
 refine di kr Tryz.func147 U U fun L Q hQ hN=>?_
 try dsimp only
 refine WS fun _ D=>bo 1 U<|RK D<|aj fun _ E=>WS fun _ F=>rP 1 [] mn ?_
 refine rS (BI U (qy RH))<|RK F<|cP U (aQ fun B=>?_) (aP fun B=>?_)
 ·refine WS fun _ G=>mE (aC 0 U) B dc fun C=>?_
  have A:es=[]:=C
  refine ed 62 7 ?_
  rw [show (own none 0 62 7 ([]:List (List Value)))=own none 0 62 7 es from by rw [A]]
  refine rP 1 [] mn ?_
  refine RK G<|ar ?_
  refine LX hQ (none,0) [0] [] mn U U U ?_ ?_
  ·first|rfl|(rw [hes]; rfl)|(rw [← hes,A]; rfl)
  ·trivial
 refine WK E<|WS fun _ H=>ld U ug U fun J=>rP 1 [] mn ?_
 refine cR (es:=(List.map bq.cells [])) (C':=[own (some ⟨J,0,none⟩) 0 62 7 (List.map bq.cells []),_]) 0 U sm U (by simp [maxLen]) U ?_
 refine ck (es2:=es) (m':=es.length) 0 U U U Sc U U sm (aC 1 U) hone (by simp; omega) (by simp [maxLen]; omega) sm U U fun AA K=>?_
 try dsimp only
 refine rP 1 [] mn ?_
 refine RK H<|ar ?_
 refine LX hQ (AA,K) [0] [] mn U U U ?_ ?_
 ·first|rfl|(rw [hes]; rfl)|(rw [← hes,A]; rfl)
 ·trivial
theorem I3 (es:List (List Value)) (lA:OA) (n lC:Nat) (hlen:n≤1000000) (hes:es.length=n) (hone: ∀ v∈es.flatten,v.oneCell'=true):
 lB Tryz.prog 146 [(vS lA n lC)] [(rd lA n 1 es)] (fun (x:(OA)×Nat)=>(vS x.1 n x.2)) (fun (x:(OA)×Nat)=>True) (fun (x:(OA)×Nat)=>[(own x.1 x.2 56 1 es)]):=by
 refine di kr Tryz.func146 U U fun L Q hQ hN=>?_
 try dsimp only
 refine WS fun _ D=>bo 1 U<|RK D<|aj fun _ E=>WS fun _ F=>rP 1 [] mn ?_
 refine rS (BI U (qy So))<|RK F<|cP U (aQ fun B=>?_) (aP fun B=>?_)
 ·refine WS fun _ G=>mE (aC 0 U) B dc fun C=>?_
  have A:es=[]:=C
  refine ed 56 1 ?_
  rw [show (own none 0 56 1 ([]:List (List Value)))=own none 0 56 1 es from by rw [A]]
  refine rP 1 [] mn ?_
  refine RK G<|ar ?_
  refine LX hQ (none,0) [0] [] mn U U U ?_ ?_
  ·first|rfl|(rw [hes]; rfl)|(rw [← hes,A]; rfl)
  ·trivial
 refine WK E<|WS fun _ H=>ld U ou U fun J=>rP 1 [] mn ?_
 refine cR (es:=(List.map sC [])) (C':=[own (some ⟨J,0,none⟩) 0 56 1 (List.map sC []),_]) 0 U sm U (by simp [maxLen]) U ?_
 refine ck (es2:=es) (m':=es.length) 0 U U U S5 U U sm (aC 1 U) hone (by simp; omega) (by simp [maxLen]; omega) sm U U fun AA K=>?_
 try dsimp only
 refine rP 1 [] mn ?_
 refine RK H<|ar ?_
 refine LX hQ (AA,K) [0] [] mn U U U ?_ ?_
 ·first|rfl|(rw [hes]; rfl)|(rw [← hes,A]; rfl)
 ·trivial
end
section
open Go.RowKit
theorem O3 (r:bY) (kA:OA) (kC:Nat) (az:List RA) (cA:OA) (cC:Nat) (bA:OA) (bC:Nat) (slA:OA) (slC:Nat) (drA:OA) (drC:Nat) (ha:List cK) (heA:OA) (heC:Nat) (hin:fp r az ha):
 lB Tryz.prog 108 [(vA (cm.cells (oz r kA kC cA cC bA bC slA slC drA drC heA heC)))] [(rd kA r.an.aL.length 9 (r.an.aL.map ak.cells)),(rd cA r.an.ah.length 2 (List.zipWith ao.cells r.an.ah az)),(e9 (aW ao.gP r.an.ah az)),(rd bA r.an.ae.length 4 (r.an.ae.map bE.cells)),(rd slA r.aM.length 1 (r.aM.map iC)),(rd drA r.bK.length 1 (r.bK.map iC)),(rd heA r.aq.length 1 (List.zipWith cD r.aq ha)),(e9 (aW iy r.aq ha))] (fun (x:(OA)×Nat×(OA)×Nat×(List RA)×(OA)×Nat×(OA)×Nat×(OA)×Nat×(OA)×Nat×(List cK))=>(vA (cm.cells (cm.mk (bZ.mk (bB.mk (bj.mk x.1 r.an.aL.length x.2.1)) r.an.gk (bj.mk x.2.2.1 r.an.ah.length x.2.2.2.1) (bj.mk x.2.2.2.2.2.1 r.an.ae.length x.2.2.2.2.2.2.1) r.an.bU r.an.dN r.an.cw) (bj.mk x.2.2.2.2.2.2.2.1 r.aM.length x.2.2.2.2.2.2.2.2.1) (bj.mk x.2.2.2.2.2.2.2.2.2.1 r.bK.length x.2.2.2.2.2.2.2.2.2.2.1) r.gX (bj.mk x.2.2.2.2.2.2.2.2.2.2.2.1 r.aq.length x.2.2.2.2.2.2.2.2.2.2.2.2.1))))) (fun (x:(OA)×Nat×(OA)×Nat×(List RA)×(OA)×Nat×(OA)×Nat×(OA)×Nat×(OA)×Nat×(List cK))=>(x.2.2.2.2.1.length=r.an.ah.length∧oD r.an.ah x.2.2.2.2.1)∧si r.aq x.2.2.2.2.2.2.2.2.2.2.2.2.2) (fun (x:(OA)×Nat×(OA)×Nat×(List RA)×(OA)×Nat×(OA)×Nat×(OA)×Nat×(OA)×Nat×(List cK))=>[(own x.1 x.2.1 153 9 (r.an.aL.map ak.cells)),(own x.2.2.1 x.2.2.2.1 53 2 (List.zipWith ao.cells r.an.ah x.2.2.2.2.1)),(br (aW ao.owns r.an.ah x.2.2.2.2.1)),(own x.2.2.2.2.2.1 x.2.2.2.2.2.2.1 160 4 (r.an.ae.map bE.cells)),(own x.2.2.2.2.2.2.2.1 x.2.2.2.2.2.2.2.2.1 3 1 (r.aM.map iC)),(own x.2.2.2.2.2.2.2.2.2.1 x.2.2.2.2.2.2.2.2.2.2.1 3 1 (r.bK.map iC)),(own x.2.2.2.2.2.2.2.2.2.2.2.1 x.2.2.2.2.2.2.2.2.2.2.2.2.1 56 1 (List.zipWith cD r.aq x.2.2.2.2.2.2.2.2.2.2.2.2.2)),(br (aW iz r.aq x.2.2.2.2.2.2.2.2.2.2.2.2.2))]):=by
 have C:=hin.line
 have J9:=hin.iW
 have M:=hin.has
 have LT:=hin.jd
 have LA:=hin.draw
 have La:=dQ (r:=r)
 have Or:=C.sw
 have Ne:=C.sr
 have NE:=C.sH
 have J6:=C.oo
 refine di kr Tryz.func108 U U fun w0 Q hQ hN=>?_
 try dsimp only
 refine WS fun _ J2=>gd U fun b2=>AL U yF fun b3=>RK J2<|WS fun _ J3=>rP 2 [] mn ?_
 refine RK J3<|aj fun _ J4=>dK cx [8,13,18,22,25,28] [7,11,15] [0,1,2] [0,2,3,4,5,6,7,8,9] [0,1,2,3,4,5,6,7,8,9] U U U U U<|eS U (MV U)<|eS U (MV U)<|eS U (MV U)<|eS U (MV U)<|eS U (SX (bP U U) U U)<|eS U (FA 0 U fw U)<|eS U (FA 0 U fw U)<|fS U (L1 (vS kA r.an.aL.length kC) 1 U cj U U)<|eS U (MV U)<|eS U (SX (bP U U) U U)<|eS U (FA 2 U fw U)<|fS U (L1 (vS cA r.an.ah.length cC) 1 U cj U U)<|eS U (MV U)<|eS U (SX (bP U U) U U)<|eS U (FA 3 U fw U)<|fS U (L1 (vS bA r.an.ae.length bC) 1 U cj U U)<|eS U (SX (bP U U) U U)<|eS U (FA 0 U fw U)<|eS U (FA 0 U fw U)<|eS U (SX (bP U U) U U)<|eS U (FA 2 U fw U)<|eS U (SX (bP U U) U U)<|eS U (FA 3 U fw U)<|eT U<|gS U fun T6 J5=>?_
 refine cX (JR r.an.aL kA kC sd) (bp [2]) U fun y7 Os=>?_
 obtain ⟨a9,S⟩:=y7
 try dsimp only
 refine aA (J5 _ _ (aG [1,3,4,5,6,7,8,9,10]) (aG [1,2,3,4,5,6,7,8,9,10]) ?_)
 refine gS U fun T11 Di=>?_
 refine cX (Kd (List.zipWith ao.cells r.an.ah az) cA r.an.ah.length cC sd (by exact eM J6) (by exact xz _ _)) (bp [4]) U fun KT Li=>?_
 obtain ⟨J,K⟩:=KT
 try dsimp only
 refine aA (Di _ _ (aG [2,4,5,6,7,8,9,10,11]) (aG [2,3,4,5,6,7,8,9,10,11]) ?_)
 refine gS U fun T16 Do=>?_
 refine cX (LK r.an.ae bA bC sd) (bp [7]) U fun KU Lk=>?_
 obtain ⟨Y,Z⟩:=KU
 try dsimp only
 refine aA (Do _ _ (aG [3,5,6,7,8,9,10,11,12]) (aG [3,4,5,6,7,8,9,10,11,12]) ?_)
 refine cf U fun T21 EQ=>Vq (cm.cells (cm.mk (bZ.mk (bB.mk (bj.mk a9 r.an.aL.length S)) r.an.gk (bj.mk cA r.an.ah.length cC) (bj.mk bA r.an.ae.length bC) r.an.bU r.an.dN r.an.cw) (bj.mk slA r.aM.length slC) (bj.mk drA r.bK.length drC) r.gX (bj.mk heA r.aq.length heC))) U VW U U<|aA (EQ _ _ (aG [3,5,6,7,8,9,10,11,12]) ?_)
 refine cf U fun T22 Eq=>Vq (cm.cells (cm.mk (bZ.mk (bB.mk (bj.mk a9 r.an.aL.length S)) r.an.gk (bj.mk J r.an.ah.length K) (bj.mk bA r.an.ae.length bC) r.an.bU r.an.dN r.an.cw) (bj.mk slA r.aM.length slC) (bj.mk drA r.bK.length drC) r.gX (bj.mk heA r.aq.length heC))) U Tx U U<|aA (Eq _ _ (aG [3,5,6,7,8,9,10,11,12]) ?_)
 refine cf U fun T23 FR=>Vq (cm.cells (cm.mk (bZ.mk (bB.mk (bj.mk a9 r.an.aL.length S)) r.an.gk (bj.mk J r.an.ah.length K) (bj.mk Y r.an.ae.length Z) r.an.bU r.an.dN r.an.cw) (bj.mk slA r.aM.length slC) (bj.mk drA r.bK.length drC) r.gX (bj.mk heA r.aq.length heC))) U SG U U<|aA (FR _ _ (aG [3,5,6,7,8,9,10,11,12]) ?_)
 refine fO U<|KK J4<|aj fun _ A3=>WS fun _ A4=>bo 1 U<|rS (SX (bP U U) U U)<|rP 4 [] (mc 4 U mn) ?_
 refine RK A4<|ax<|lV ?_
 have E:(0≤r.an.ah.length)∧(([]:List RA).length=0)∧(oD r.an.ah ([]:List RA)):=by exact ⟨Nat.zero_le _,rfl,fun k m a _ h=>by simp at h⟩
 refine bL (ι:={z:Nat×(List RA) // (z.1≤r.an.ah.length)∧(z.2.length=z.1)∧(oD r.an.ah z.2)}) [1,2,3,39] [1,3,4,5,6,7,8,9,10,11,12,13] U U (fun z=>[(40,(vI (z.1.1:Int)))]) (fun z=>[(br (aW ao.owns (r.an.ah.take z.1.1) z.1.2)),(own J K 53 2 (List.zipWith ao.cells r.an.ah (jh z.1.2 az z.1.1)))]) (fun _=>rfl) (fun _=>rfl) (fun z=>r.an.ah.length-z.1.1) ⟨(0,([]:List RA)),E⟩ (aU U) (aG [1,3,4,5,6,7,8,9,10,11,12,13,0,2]) ?_
 clear E
 rintro ⟨⟨i,bz⟩,⟨Ap,B,V⟩⟩ J26 A0
 try dsimp only at Ap B V
 try dsimp only
 refine WS fun _ A5=>rP 1 [] mn ?_
 refine RK A5<|aj fun _ A6=>cP U (aQ fun In=>?_) (aP fun In=>?_)
 ·refine WK A6<|aj fun _ A7=>ax<|WS fun _ A8=>rP 2 [] mn ?_
  refine RK A8<|dK cx [13,16] [10,11,12,13,14] [0] [0,1,2,3,4,5,6,7,8,9,10,11,12] [0,1,2,3,4,5,6,7,8,9,10,11,12,13] U U U U U<|eS U (MV U)<|eS U (SX (bP U U) U U)<|eS U (FA 2 U fw U)<|eS U (L1 (vS J r.an.ah.length K) 3 U cj U U)<|eS U (MV U)<|eS U (MV U)<|eS U (SX (bP U U) U U)<|eS U (FA 2 U fw U)<|eS U (L1 (vS J r.an.ah.length K) 3 U cj U U)<|eS U (MV U) ?_
  obtain ⟨x,hx⟩:=aJ r.an.ah i I
  obtain ⟨xa,s⟩:=aJ az i I
  have If:(List.zipWith ao.cells r.an.ah (jh bz az i))[i]? =some (ao.cells x xa):=dG hx (uk B s)
  have Op:=(C.LL _ _ _ hx s).2
  refine fS U (IA i U (ag (n:=r.an.ah.length) 13 U (eM (by rw [eJ B I]; exact C.oo))) uQ dc I I) ?_
  refine fS U (mW ((i*2)+1) U (ag (n:=r.an.ah.length) 13 U (eM (by rw [eJ B I]; exact C.oo))) (Nat.mul_pos I dc) fw U) ?_
  refine fS U (gi i 1 (vS xa.1 x.aN.length xa.2) U cj (ag (n:=r.an.ah.length) 13 U (eM (by rw [eJ B I]; exact C.oo))) If U dc U) ?_
  refine fS U (IA i U (ag (n:=r.an.ah.length) 13 U (eM (by rw [eJ B I]; exact C.oo))) uQ dc I I) ?_
  refine fS U (mW ((i*2)+1) U (ag (n:=r.an.ah.length) 13 U (eM (by rw [eJ B I]; exact C.oo))) (Nat.mul_pos I dc) fw U) ?_
  refine eT U<|gS U fun T32 FS=>?_
  refine cX (Jq x.aN xa.1 xa.2 sd) (au (show iA _ (rd xa.1 x.aN.length 3 (x.aN.map bJ.cells)).holds from (dA 6 U (bM hx s (by simp [ao.gP]))))<|aI) U fun KX Lo=>?_
  obtain ⟨P,T⟩:=KX
  try dsimp only
  refine aA (FS _ _ (aG [1,2,3,4,5,6,7,8,9,10,11,12,13]) (aG [1,2,3,4,5,6,7,8,9,10,11,12,13,14]) ?_)
  refine cf U fun T37 FT=>dk (k:=i) (o:=1) (vs:=[(vS P x.aN.length T)]) (es':=(List.zipWith ao.cells r.an.ah (jh (bz++[(P,T)]) az (i+1)))) (C':=[_,_,_,_,_,_,_,_,_,_,_,_,_,_,(own J K 53 2 (List.zipWith ao.cells r.an.ah (jh (bz++[(P,T)]) az (i+1))))]) 14 U U U Kp U U U U If U dc (by exact qL (c:=ao.cells) (b:=(P,T)) hx B s) U<|aA (FT _ _ (aG [1,2,3,4,5,6,7,8,9,10,11,12,13]) ?_)
  refine fO U<|aH<|KK A7<|al<|rP 2 [] mn ?_
  refine aA<|Qj 0 U fun t=>?_
  simp only [List.length_map] at t
  refine Ep (Y':=aW ao.owns (r.an.ah.take (i+1)) (bz++[(P,T)])) 13 0 U U (n8 (f:=ao.owns) (b:=(P,T)) hx B) ?_
  have H1:(vI (((i+1):Nat):Int))=(vI ((i:Int)+1)):=by exact cI I
  refine aV (A0 ⟨((i+1),(bz++[(P,T)])),⟨I,by simp; omega,CM V B hx t⟩⟩ _ _ _ U os (cU 4<|bk U H1<|dF.nil _) (aG [1,2,3,4,5,6,7,8,9,10,11,12,0,13]))
 refine bD<|ab<|ab<|ay<|KK A3<|aj fun _ A9=>?_
 have J7:bz.length=r.an.ah.length:=by omega
 have J8:=V
 rw [show (jh bz az i)=bz from qq I,show r.an.ah.take i=r.an.ah from List.take_of_length_le I]
 refine dK cx [2,5,8,10,12,14] [1,3,5] [0,1,2] [0,1,2,4,5,6,7,8,9,10,11,12,13] [0,1,2,3,4,5,6,7,8,9,10,11,12,13] U U U U U<|eS U (FA 7 U fw U)<|fS U (L1 (vS slA r.aM.length slC) 3 U cj U U)<|eS U (FA 8 U fw U)<|fS U (L1 (vS drA r.bK.length drC) 3 U cj U U)<|eS U (FA 10 U fw U)<|fS U (L1 (vS heA r.aq.length heC) 3 U cj U U)<|eS U (FA 7 U fw U)<|eS U (FA 8 U fw U)<|eS U (FA 10 U fw U)<|eT U<|gS U fun T40 Fd=>?_
 refine cX (wH r.aM slA slC sd) (bp [8]) U fun KY L0=>?_
 obtain ⟨g,j⟩:=KY
 try dsimp only
 refine aA (Fd _ _ (aG [1,2,3,5,6,7,8,9,10,11,12,13,14]) (aG [1,2,3,4,5,6,7,8,9,10,11,12,13,14]) ?_)
 refine gS U fun T45 Fn=>?_
 refine cX (wH r.bK drA drC sd) (bp [10]) U fun Kc L2=>?_
 obtain ⟨w,AO⟩:=Kc
 try dsimp only
 refine aA (Fn _ _ (aG [2,3,4,6,7,8,9,10,11,12,13,14,15]) (aG [2,3,4,5,6,7,8,9,10,11,12,13,14,15]) ?_)
 refine gS U fun T50 GE=>?_
 refine cX (I3 (List.zipWith cD r.aq ha) heA r.aq.length heC sd (by exact du M) (by exact zN _ _)) (bp [12]) U fun K0 L3=>?_
 obtain ⟨W,X⟩:=K0
 try dsimp only
 refine aA (GE _ _ (aG [3,4,5,7,8,9,10,11,12,13,14,15,16]) (aG [3,4,5,6,7,8,9,10,11,12,13,14,15,16]) ?_)
 refine cf U fun T55 GT=>UF (cm.cells (cm.mk (bZ.mk (bB.mk (bj.mk a9 r.an.aL.length S)) r.an.gk (bj.mk J r.an.ah.length K) (bj.mk Y r.an.ae.length Z) r.an.bU r.an.dN r.an.cw) (bj.mk g r.aM.length j) (bj.mk drA r.bK.length drC) r.gX (bj.mk heA r.aq.length heC))) U xN U U<|aA (GT _ _ (aG [3,4,5,7,8,9,10,11,12,13,14,15,16]) ?_)
 refine cf U fun T56 Gm=>UF (cm.cells (cm.mk (bZ.mk (bB.mk (bj.mk a9 r.an.aL.length S)) r.an.gk (bj.mk J r.an.ah.length K) (bj.mk Y r.an.ae.length Z) r.an.bU r.an.dN r.an.cw) (bj.mk g r.aM.length j) (bj.mk w r.bK.length AO) r.gX (bj.mk heA r.aq.length heC))) U xN U U<|aA (Gm _ _ (aG [3,4,5,7,8,9,10,11,12,13,14,15,16]) ?_)
 refine cf U fun T57 Go=>UF (cm.cells (cm.mk (bZ.mk (bB.mk (bj.mk a9 r.an.aL.length S)) r.an.gk (bj.mk J r.an.ah.length K) (bj.mk Y r.an.ae.length Z) r.an.bU r.an.dN r.an.cw) (bj.mk g r.aM.length j) (bj.mk w r.bK.length AO) r.gX (bj.mk W r.aq.length X))) U Sv U U<|aA (Go _ _ (aG [3,4,5,7,8,9,10,11,12,13,14,15,16]) ?_)
 refine fO U<|KK A9<|aj fun _ Bm=>WS fun _ B3=>rP 4 [] (mc 6 U mn) ?_
 refine RK B3<|ax<|lV ?_
 have E:(0≤r.aq.length)∧(([]:List cK).length=0)∧(∀ (k:Nat) y (a:cK),r.aq[k]? =some y→([]:List cK)[k]? =some a→a.2.length=y.length):=by exact ⟨Nat.zero_le _,rfl,fun k y a _ q=>by simp at q⟩
 refine bL (ι:={z:Nat×(List cK) // (z.1≤r.aq.length)∧(z.2.length=z.1)∧(∀ (k:Nat) y (a:cK),r.aq[k]? =some y→z.2[k]? =some a→a.2.length=y.length)}) [1,2,74] [2,3,4,5,6,7,8,9,10,11,12,13,14,15,16,17] U U (fun z=>[(75,(vI (z.1.1:Int)))]) (fun z=>[(br (aW iz (r.aq.take z.1.1) z.1.2)),(own W X 56 1 (List.zipWith cD r.aq (jh z.1.2 ha z.1.1)))]) (fun _=>rfl) (fun _=>rfl) (fun z=>r.aq.length-z.1.1) ⟨(0,([]:List cK)),E⟩ (aU U) (aG [2,3,4,5,6,7,8,9,10,11,12,13,14,15,16,17,0,1]) ?_
 clear E
 rintro ⟨⟨h,hz⟩,⟨l,A,L⟩⟩ J60 A1
 try dsimp only at l A L
 try dsimp only
 refine WS fun _ B7=>rP 1 [] mn ?_
 refine RK B7<|aj fun _ B9=>bS U (aP fun I0=>?_) (aQ fun I0=>?_)
 ·refine bD<|ab<|ab<|ay<|KK Bm<|aj fun _ DL=>?_
  have KR:si r.aq hz:=⟨I,L⟩
  rw [show (jh hz ha h)=hz from qq I,show r.aq.take h=r.aq from List.take_of_length_le I]
  refine al<|rP 1 [] (mc 5 U mn) ?_
  refine Pg U rZ U<|RK DL<|ar ?_
  refine LX hQ (a9,S,J,K,bz,Y,Z,g,j,w,AO,W,X,hz) [3,15,14,2,1,0,17,16] [0] (mc 4 U mn) U (by show List.all _ _=true; simp only [fE,List.all_nil,fQ,jZ,Bool.and_true]; rfl) U U ?_
  exact ⟨⟨J7,J8⟩,KR⟩
 refine WK B9<|aj fun _ Ca=>ax<|WS fun _ Ci=>rP 2 [] mn ?_
 refine RK Ci<|aj fun _ Ck=>dK cx [8,10] [6,7,8] [0] [0,1,2,3,4,5,6,7,8,9,10,11,12,13,14,15,16] [0,1,2,3,4,5,6,7,8,9,10,11,12,13,14,15,16,17] U U U U U<|eS U (FA 10 U fw U)<|eS U (L1 (vS W r.aq.length X) 5 U cj U U)<|eS U (MV U)<|eS U (FA 10 U fw U)<|eS U (L1 (vS W r.aq.length X) 5 U cj U U)<|eS U (MV U) ?_
 obtain ⟨ht,N⟩:=aJ r.aq h I
 obtain ⟨D,O⟩:=aJ ha h I
 have u:(List.zipWith cD r.aq (jh hz ha h))[h]? =some (cD ht D):=dG N (uk A O)
 have Ao:=hin.m8 _ _ _ N O
 have e:=Ao.oo
 have J9:=Ao.len
 refine fS U (IA h U (ag (n:=r.aq.length) 17 U (du (by rw [eJ A I]; exact M))) ou dc I I) ?_
 refine fS U (gi h 0 (vS D.1.1 ht.length D.1.2) U cj (ag (n:=r.aq.length) 17 U (du (by rw [eJ A I]; exact M))) u U dc U) ?_
 refine fS U (IA h U (ag (n:=r.aq.length) 17 U (du (by rw [eJ A I]; exact M))) ou dc I I) ?_
 refine eT U<|gS U fun T67 Hc=>?_
 refine cX (K7 (List.zipWith aw.cells ht D.2) D.1.1 ht.length D.1.2 sd (by exact j9 e) (by exact GH _ _)) (au (show iA _ (rd D.1.1 ht.length 7 (List.zipWith aw.cells ht D.2)).holds from (dA 13 U (bM N O cq)))<|aI) U fun K4 M2=>?_
 obtain ⟨G,H⟩:=K4
 try dsimp only
 refine aA (Hc _ _ (aG [1,2,3,4,5,6,7,8,9,10,11,12,13,14,15,16,17]) (aG [1,2,3,4,5,6,7,8,9,10,11,12,13,14,15,16,17,18]) ?_)
 refine cf U fun T72 Hi=>dk (k:=h) (o:=0) (vs:=[(vS G ht.length H)]) (es':=(List.zipWith cD r.aq (jh (hz++[((G,H),D.2)]) ha (h+1)))) (C':=[_,_,_,_,_,_,_,_,_,_,_,_,_,_,_,_,_,_,(own W X 56 1 (List.zipWith cD r.aq (jh (hz++[((G,H),D.2)]) ha (h+1))))]) 18 U U U SA U U U U u U dc (by exact qL (b:=((G,H),D.2)) N A O) U<|aA (Hi _ _ (aG [1,2,3,4,5,6,7,8,9,10,11,12,13,14,15,16,17]) ?_)
 refine fO U<|KK Ck<|WS fun _ Cp=>rP 3 [] (mc 6 U mn) ?_
 have v:(List.zipWith cD r.aq (jh (hz++[((G,H),D.2)]) ha (h+1)))[h]? =some (cD ht ((G,H),D.2)):=dG N (Dg A)
 refine rS (IA h U (ag (n:=r.aq.length) 18 U (du (by rw [eJ (by simp; omega) I]; exact M))) ou dc I I) ?_
 refine rS (gi h 0 (vS G ht.length H) U cj (ag (n:=r.aq.length) 18 U (du (by rw [eJ (by simp; omega) I]; exact M))) v U dc U) ?_
 refine rP 2 [] mn ?_
 refine RK Cp<|ax<|lV ?_
 have E:(0≤ht.length)∧(([]:List RA).length=0):=by exact ⟨Nat.zero_le _,rfl⟩
 refine bL (ι:={z:Nat×(List RA) // (z.1≤ht.length)∧(z.2.length=z.1)}) [1,2,5,74,75,93] [2,3,4,5,6,7,8,9,10,11,12,13,14,15,16,17,18,19] U U (fun z=>[(94,(vI (z.1.1:Int)))]) (fun z=>[(br (aW nt (ht.take z.1.1) z.1.2)),(own G H 62 7 (List.zipWith aw.cells ht (jh z.1.2 D.2 z.1.1)))]) (fun _=>rfl) (fun _=>rfl) (fun z=>ht.length-z.1.1) ⟨(0,([]:List RA)),E⟩ (aU U) (aG [2,3,4,5,6,7,8,9,10,11,12,13,14,15,16,17,18,19,0,1]) ?_
 clear E
 rintro ⟨⟨i,dz⟩,⟨p,F⟩⟩ J74 A2
 try dsimp only at p F
 try dsimp only
 refine WS fun _ Cx=>rP 1 [] mn ?_
 refine RK Cx<|aj fun _ C0=>bS U (aP fun I4=>?_) (aQ fun I4=>?_)
 ·refine bD<|ab<|ab<|ay<|aH<|KK Ca<|al<|rP 2 [] mn ?_
  refine aA ?_
  have LE:dz.length=ht.length:=by omega
  rw [show (jh dz D.2 i)=dz from qq I,show ht.take i=ht from List.take_of_length_le I]
  refine JF (Z':=aW iz (r.aq.take (h+1)) (hz++[((G,H),dz)])) 16 18 19 U U (n8 (f:=iz) (b:=((G,H),dz)) N A) ?_
  rw [Df (y:=dz)]
  have IR:(vI (((h+1):Nat):Int))=(vI ((h:Int)+1)):=by exact cI I
  refine aV (A1 ⟨((h+1),(hz++[((G,H),dz)])),⟨I,by simp; omega,Gi N L A dso⟩⟩ _ _ _ U os (cU 3<|bk U IR<|dF.nil _) (aG [1,2,3,4,5,6,7,8,9,10,11,12,13,14,15,16,0,17]))
 refine WK C0<|aj fun _ C1=>ax<|WS fun _ C2=>rP 2 [] mn ?_
 refine RK C2<|aj fun _ C3=>?_
 refine wZ 19 U (by rw [j9 (by rw [eJ F I]; exact e)]; omega) (fun K8 AB=>?_)
 refine al<|rP 3 [] (mc 5 U mn) ?_
 refine rS (IA h U (ag (n:=r.aq.length) 17 U (du (by rw [eJ (by simp; omega) I]; exact M))) ou dc I I) ?_
 refine rS (gi h 0 (vS G ht.length H) U cj (ag (n:=r.aq.length) 17 U (du (by rw [eJ (by simp; omega) I]; exact M))) v U dc U) ?_
 refine rP 1 [] mn ?_
 obtain ⟨d,hd⟩:=aJ ht i I
 obtain ⟨da,AS⟩:=aJ D.2 i I
 have Id:(List.zipWith aw.cells ht (jh dz D.2 i))[i]? =some (aw.cells d da):=dG hd (uk F AS)
 have Nx:=Ao.sig d (aT hd)
 refine rS (V0 i U AB ug I I)<|rS (Pu ((i*7)+4) U AB fw U)<|bo 1 U<|RK C3<|al<|rP 2 [] mn ?_
 refine rS (SX (mj U U AB) U U)<|rS (Pu (((i*7)+4)+2) U AB fw U) ?_
 refine rS (gi i 6 (vS da.1 d.cv.ai.length da.2) U cj (ag (n:=ht.length) 19 U (j9 (by rw [eJ F I]; exact e))) Id U dc U) ?_
 refine cX (LU d.cv.ai da.1 da.2 sd) (au (show iA _ (rd da.1 d.cv.ai.length 2 (d.cv.ai.map aK.cells)).holds from (dA 13 U (bM N O (cV _ (bM hd AS (by simp [aw.gP]))))))<|aI) U fun K5 M4=>?_
 obtain ⟨R,AA⟩:=K5
 try dsimp only
 refine rS (SX (mj U U AB) U U)<|rS (Pu (((i*7)+4)+2) U AB fw U)<|dk (k:=i) (o:=6) (vs:=[(vS R d.cv.ai.length AA)]) (es':=(List.zipWith aw.cells ht (jh (dz++[(R,AA)]) D.2 (i+1)))) (C':=[_,_,_,_,_,_,_,_,_,_,_,_,_,_,_,_,_,_,_,_,(own G H 62 7 (List.zipWith aw.cells ht (jh (dz++[(R,AA)]) D.2 (i+1))))]) 20 U U U TX U U U U Id U dc (by exact qL (c:=aw.cells) (b:=(R,AA)) hd F AS) U<|aA<|aH<|KK C1<|al<|rP 2 [] mn ?_
 refine aA<|Ep (Y':=aW nt (ht.take (i+1)) (dz++[(R,AA)])) 19 0 U U (n8 (f:=nt) (b:=(R,AA)) hd F) ?_
 have IO:(vI (((i+1):Nat):Int))=(vI ((i:Int)+1)):=by exact cI I
 refine aV (A2 ⟨((i+1),(dz++[(R,AA)])),⟨I,by simp; omega⟩⟩ _ _ _ U os (cU 6<|bk U IO<|dF.nil _) (aG [1,2,3,4,5,6,7,8,9,10,11,12,13,14,15,16,17,18,0,19]))
end
section
open Go.RowKit
theorem yp (r:bY) (kA:OA) (kC:Nat) (az:List RA) (cA:OA) (cC:Nat) (bA:OA) (bC:Nat) (slA:OA) (slC:Nat) (drA:OA) (drC:Nat) (ha:List cK) (heA:OA) (heC:Nat) (tz:List RA) (tA:OA) (tC:Nat) (ms:Value) (gw:Nat) (h i:Int) (t:aa) (hin:fp r az ha) (hok:fj r):
 lB Tryz.prog 69 [(vP gw),(vI h),(vI i),(vA (aa.cells t))] [(rd kA r.an.aL.length 9 (r.an.aL.map ak.cells)),(rd cA r.an.ah.length 2 (List.zipWith ao.cells r.an.ah az)),(e9 (aW ao.gP r.an.ah az)),(rd bA r.an.ae.length 4 (r.an.ae.map bE.cells)),(rd slA r.aM.length 1 (r.aM.map iC)),(rd drA r.bK.length 1 (r.bK.map iC)),(rd heA r.aq.length 1 (List.zipWith cD r.aq ha)),(e9 (aW iy r.aq ha)),(rd tA ((cT r).length) 1 (List.zipWith E4 (cT r) tz)),(e9 (aW M1 (cT r) tz)),(cd gw 112 (gh.cells (gh.mk (oz r kA kC cA cC bA bC slA slC drA drC heA heC) (bj.mk tA ((cT r).length) tC) ms)))] (fun (x:Bool×Int×(OA)×Nat×(OA)×Nat×(List RA)×(OA)×Nat×(OA)×Nat×(OA)×Nat×(OA)×Nat×(List cK))=>bif x.1 then (vT [(vA (cm.cells (cm.mk (bZ.mk (bB.mk (bj.mk x.2.2.1 r.an.aL.length x.2.2.2.1)) r.an.gk (bj.mk x.2.2.2.2.1 r.an.ah.length x.2.2.2.2.2.1) (bj.mk x.2.2.2.2.2.2.2.1 r.an.ae.length x.2.2.2.2.2.2.2.2.1) r.an.bU r.an.dN r.an.cw) (bj.mk x.2.2.2.2.2.2.2.2.2.1 r.aM.length x.2.2.2.2.2.2.2.2.2.2.1) (bj.mk x.2.2.2.2.2.2.2.2.2.2.2.1 r.bK.length x.2.2.2.2.2.2.2.2.2.2.2.2.1) r.gX (bj.mk x.2.2.2.2.2.2.2.2.2.2.2.2.2.1 ((g9 r.aq h i t).length) x.2.2.2.2.2.2.2.2.2.2.2.2.2.2.1)))),(vI 0)]) else (vT [(vA (cm.cells (cm.mk (bZ.mk (bB.mk (bj.mk none 0 0)) 0 (bj.mk none 0 0) (bj.mk none 0 0) 0 0 0) (bj.mk none 0 0) (bj.mk none 0 0) 0 (bj.mk none 0 0)))),(vI x.2.1)])) (fun (x:Bool×Int×(OA)×Nat×(OA)×Nat×(List RA)×(OA)×Nat×(OA)×Nat×(OA)×Nat×(OA)×Nat×(List cK))=>(x.1=true→((qE r h i t)=0∧(x.2.2.2.2.2.2.1.length=r.an.ah.length∧oD r.an.ah x.2.2.2.2.2.2.1)∧si (g9 r.aq h i t) x.2.2.2.2.2.2.2.2.2.2.2.2.2.2.2))∧(x.1=false→(x.2.1=(qE r h i t)∧ ¬ (qE r h i t)=0))) (fun (x:Bool×Int×(OA)×Nat×(OA)×Nat×(List RA)×(OA)×Nat×(OA)×Nat×(OA)×Nat×(OA)×Nat×(List cK))=>bif x.1 then [(own x.2.2.1 x.2.2.2.1 153 9 (r.an.aL.map ak.cells)),(own x.2.2.2.2.1 x.2.2.2.2.2.1 53 2 (List.zipWith ao.cells r.an.ah x.2.2.2.2.2.2.1)),(br (aW ao.owns r.an.ah x.2.2.2.2.2.2.1)),(own x.2.2.2.2.2.2.2.1 x.2.2.2.2.2.2.2.2.1 160 4 (r.an.ae.map bE.cells)),(own x.2.2.2.2.2.2.2.2.2.1 x.2.2.2.2.2.2.2.2.2.2.1 3 1 (r.aM.map iC)),(own x.2.2.2.2.2.2.2.2.2.2.2.1 x.2.2.2.2.2.2.2.2.2.2.2.2.1 3 1 (r.bK.map iC)),(own x.2.2.2.2.2.2.2.2.2.2.2.2.2.1 x.2.2.2.2.2.2.2.2.2.2.2.2.2.2.1 56 1 (List.zipWith cD (g9 r.aq h i t) x.2.2.2.2.2.2.2.2.2.2.2.2.2.2.2)),(br (aW iz (g9 r.aq h i t) x.2.2.2.2.2.2.2.2.2.2.2.2.2.2.2))] else []):=by
 have A3:=hin.line
 have Ca:=hin.iW
 have Ck:=hin.has
 have A9:=hin.jd
 have A6:=hin.draw
 have Bm:=dQ (r:=r)
 have Cx:=hok.num
 have Cp:=hok.nh
 refine di UR Tryz.func69 U U fun w0 Q hQ hN=>?_
 try dsimp only
 refine WS fun _ AS=>gd U fun b2=>AL U yF fun b3=>bo 1 U<|RK AS<|aj fun _ Ao=>WS fun _ J=>bo 1 U<|rS (SX (bP U U) U U)<|rP 6 [] (mr 12 U mn) ?_
 refine c_ (xs:=[.tmp 18]) (cs:=[(vI h)]) U cL jA U U U U (by simp [Value.cells]) U U fun b6=>?_
 refine rS (CL (eB.eq (kx 0 ((r.aq.length:Int)-1) ([h]) (some ⟨b6,0,none⟩) 1 sd) cZ) (au (aZ 0 U U (by simp [bI]) U)<|aI) U) ?_
 refine rP 2 [] mn ?_
 refine dp (t:=22) U (bx fun AC=>?_) (bw fun AC=>?_)
 ·refine bo 11 U<|RK J<|aR U<|WS fun _ Ap=>rS (SX (bh (xs:=[]) (cs:=(cm.cells (cm.mk (bZ.mk (bB.mk (bj.mk none 0 0)) 0 (bj.mk none 0 0) (bj.mk none 0 0) 0 0 0) (bj.mk none 0 0) (bj.mk none 0 0) 0 (bj.mk none 0 0)))) U U (bg Ha U)) U U)<|ti U rZ U<|rP 1 [] mn ?_
  refine RK Ap<|ar ?_
  refine LX hQ (false,2,none,0,none,0,[],none,0,none,0,none,0,none,0,[]) [] [0] (mc 1 U mn) U (by first|rfl|(show List.all _ _=true; simp only [cond_true,fE,List.all_nil,fQ,jZ,Bool.and_true]; rfl)) U ?_ ?_
  ·first|rfl|(simp only [cond_true,jo]; rfl)
  ·refine ⟨Bo,fun _=>?_⟩; first|exact qb (mI (r:=r) (h:=h) (i:=i) (t:=t) I)|exact qb (mI (r:=r) (h:=h) (i:=i) (t:=t) (fun q=>absurd q.2 asm))|exact qb (tS (r:=r) (t:=t) ⟨I,asm⟩ A hd H)
 refine rP 2 [] mn ?_
 refine c_ (xs:=[.tmp 24]) (cs:=[(vI i)]) U cL jA U U U U (by simp [Value.cells]) U U fun b8=>?_
 refine rS (CL (eB.eq (Bf r kA kC az cA cC bA bC slA slC drA drC ha heA heC tz tA tC ms gw ([i]) (some ⟨b8,0,none⟩) 1 hin sd) cZ) (l5 [4,5,6,7,8,9,10,11,12,13,14]<|au (aZ 0 U U (by simp [bI]) U)<|aI) U) ?_
 refine rP 3 [] mn ?_
 refine dp (t:=29) U (bx fun AO=>?_) (bw fun AO=>?_)
 ·refine bo 4 U<|RK J<|aR U<|WS fun _ A0=>rS (SX (bh (xs:=[]) (cs:=(cm.cells (cm.mk (bZ.mk (bB.mk (bj.mk none 0 0)) 0 (bj.mk none 0 0) (bj.mk none 0 0) 0 0 0) (bj.mk none 0 0) (bj.mk none 0 0) 0 (bj.mk none 0 0)))) U U (bg Ha U)) U U)<|Ga U rZ U<|rP 1 [] mn ?_
  refine RK A0<|ar ?_
  refine LX hQ (false,2,none,0,none,0,[],none,0,none,0,none,0,none,0,[]) [] [0] (mc 2 U mn) U (by first|rfl|(show List.all _ _=true; simp only [cond_true,fE,List.all_nil,fQ,jZ,Bool.and_true]; rfl)) U ?_ ?_
  ·first|rfl|(simp only [cond_true,jo]; rfl)
  ·refine ⟨Bo,fun _=>?_⟩; first|exact qb (mI (r:=r) (h:=h) (i:=i) (t:=t) I)|exact qb (mI (r:=r) (h:=h) (i:=i) (t:=t) (fun q=>absurd q.2 asm))|exact qb (tS (r:=r) (t:=t) ⟨I,asm⟩ A hd H)
 refine fY 1 [] (mc 3 U mn) U<|rS (CL (Gk t) (aI) U)<|rP 2 [] mn ?_
 refine RK J<|cP U (bx fun Z=>?_) (bw fun Z=>?_)
 ·refine WS fun _ b=>rS (SX (bh (xs:=[]) (cs:=(cm.cells (cm.mk (bZ.mk (bB.mk (bj.mk none 0 0)) 0 (bj.mk none 0 0) (bj.mk none 0 0) 0 0 0) (bj.mk none 0 0) (bj.mk none 0 0) 0 (bj.mk none 0 0)))) U U (bg Ha U)) U U)<|Ga U rZ U<|rP 1 [] mn ?_
  refine RK b<|ar ?_
  refine LX hQ (false,2,none,0,none,0,[],none,0,none,0,none,0,none,0,[]) [] [0] (mc 2 U mn) U (by first|rfl|(show List.all _ _=true; simp only [cond_true,fE,List.all_nil,fQ,jZ,Bool.and_true]; rfl)) U ?_ ?_
  ·first|rfl|(simp only [cond_true,jo]; rfl)
  ·refine ⟨Bo,fun _=>?_⟩; first|exact qb (mI (r:=r) (h:=h) (i:=i) (t:=t) I)|exact qb (mI (r:=r) (h:=h) (i:=i) (t:=t) (fun q=>absurd q.2 asm))|exact qb (tS (r:=r) (t:=t) ⟨I,asm⟩ A hd H)
 refine WK Ao<|aj fun _ e=>WS fun _ f=>bo 1 U<|rS (SX (bP U U) U U)<|rP 4 [] (mr 14 U mn) ?_
 obtain ⟨ht,A⟩:=aJ r.aq ((h).toNat) I
 obtain ⟨C,E⟩:=aJ ha ((h).toNat) I
 have w:(List.zipWith cD r.aq ha)[(h).toNat]? =some (cD ht C):=dG A E
 refine rS (IA ((h).toNat) U (aC 10 U) ou dc I I) ?_
 have A2:=hin.m8 _ _ _ A E
 have A7:=A2.oo
 have Ci:=(hok.m8 ht (aT A)).1
 refine rS (gi ((h).toNat) 0 (vS C.1.1 ht.length C.1.2) U Q4 (aC 10 U) w U dc U)<|rP 1 [] mn ?_
 obtain ⟨d,hd⟩:=aJ ht ((i).toNat) I
 obtain ⟨da,K⟩:=aJ C.2 ((i).toNat) I
 have A1:(List.zipWith aw.cells ht C.2)[(i).toNat]? =some (aw.cells d da):=dG hd K
 refine rS (IA ((i).toNat) U (show iA _ (rd C.1.1 ht.length 7 (List.zipWith aw.cells ht C.2)).holds from (dA 11 U (bM A E cq))) ug dc I I)<|rS (mW (((i).toNat)*7) U (show iA _ (rd C.1.1 ht.length 7 (List.zipWith aw.cells ht C.2)).holds from (dA 11 U (bM A E cq))) (Nat.mul_pos I dc) Qf U)<|rS (gi ((i).toNat) 0 (vB d.Out) U We (show iA _ (rd C.1.1 ht.length 7 (List.zipWith aw.cells ht C.2)).holds from (dA 11 U (bM A E cq))) A1 U dc U)<|RK f<|cP U (fun H=>?_) (fun H=>?_)
 ·refine WS fun _ g=>rS (SX (bh (xs:=[]) (cs:=(cm.cells (cm.mk (bZ.mk (bB.mk (bj.mk none 0 0)) 0 (bj.mk none 0 0) (bj.mk none 0 0) 0 0 0) (bj.mk none 0 0) (bj.mk none 0 0) 0 (bj.mk none 0 0)))) U U (bg Ha U)) U U)<|Ga U rZ U<|rP 1 [] mn ?_
  refine RK g<|ar ?_
  refine LX hQ (false,8,none,0,none,0,[],none,0,none,0,none,0,none,0,[]) [] [0] (mc 2 U mn) U (by first|rfl|(show List.all _ _=true; simp only [cond_true,fE,List.all_nil,fQ,jZ,Bool.and_true]; rfl)) U ?_ ?_
  ·first|rfl|(simp only [cond_true,jo]; rfl)
  ·refine ⟨Bo,fun _=>?_⟩; first|exact qb (mI (r:=r) (h:=h) (i:=i) (t:=t) I)|exact qb (mI (r:=r) (h:=h) (i:=i) (t:=t) (fun q=>absurd q.2 asm))|exact qb (tS (r:=r) (t:=t) ⟨I,asm⟩ A hd H)
 refine WK e<|WS fun _ j=>bo 1 U<|rS (SX (bP U U) U U)<|rP 1 [] mn ?_
 refine rS (VY (cm.cells (oz r kA kC cA cC bA bC slA slC drA drC heA heC)) 14 U RV U U U)<|cX (O3 r kA kC az cA cC bA bC slA slC drA drC ha heA heC hin) (bp [4,5,6,7,8,9,10,11]) U fun A5 z=>?_
 obtain ⟨L,T,M,AA,S,N,V,O,W,P,X,R,Y,G⟩:=A5
 try dsimp only
 obtain ⟨⟨s,u⟩,D⟩:=z
 try dsimp only at s u D
 have A8:=D.1
 refine AL U yF fun B3=>gl U rZ U<|RK j<|aj fun _ l=>?_
 obtain ⟨B,F⟩:=aJ G ((h).toNat) (by have:=D.1; omega)
 have y:(List.zipWith cD r.aq G)[(h).toNat]? =some (cD ht B):=dG A F
 have A4:=D.2 _ _ _ A F
 refine QB 8 A F U U ?_
 try dsimp only
 refine dH cx 9 kr<|mV 3 [] (mc 3 U mn) U<|dS (IA ((h).toNat) U (ag (n:=r.aq.length) 10 U (du D.1)) ou dc I I)<|dS (gi ((h).toNat) 0 (vS B.1.1 ht.length B.1.2) U Q4 (ag (n:=r.aq.length) 10 U (du D.1)) y U dc U)<|dP 2 [] (mc 14 U mn) ?_
 refine dS (SX (bh (xs:=[(1,.const (vB true)),(2,.tmp 59)]) (cs:=(bq.cells (bq.mk false true t (d_.mk 0 0 (bj.mk none 0 0))))) U U (bg Qh U)) U U) ?_
 obtain ⟨K,AB⟩:=aJ B.2 ((i).toNat) I
 have v:(List.zipWith aw.cells ht B.2)[(i).toNat]? =some (aw.cells d K):=dG hd AB
 refine dS (IA ((i).toNat) U (ag (n:=ht.length) 0 U (j9 A4)) ug dc I I)<|cQ<|dk (k:=(i).toNat) (o:=0) (vs:=(bq.cells (bq.mk false true t (d_.mk 0 0 (bj.mk none 0 0))))) (es':=(List.zipWith aw.cells (ht.set (i).toNat (kZ t)) (B.2.set (i).toNat (none,0)))) (C':=[(own B.1.1 B.1.2 62 7 (List.zipWith aw.cells (ht.set (i).toNat (kZ t)) (B.2.set (i).toNat (none,0)))),_,_,_,_,_,_,_,_,_,_,_,_,_,_,_,_,_,_,_,_,_,_,_,_,_]) 0 U U U Ri U U U U v U dc (by exact qS (c:=aw.cells) (m:=kZ t) (a:=(none,0))) U<|RK l<|aj fun _ p=>Rc (d':=kZ t) 1 hd AB U U U ?_
 refine N6 (h':=(ht.set (i).toNat (kZ t))) (a':=(B.1,(B.2.set (i).toNat (none,0)))) 2 0 1 I (by have:=D.1; omega) U U ?_
 rw [← wm A,show List.zipWith cD r.aq G=List.zipWith cD (g9 r.aq h i t) (G.set (h).toNat (B.1,(B.2.set (i).toNat (none,0)))) from by rw [wm A]; exact (Iv A F (by rw [List.length_set])).symm]
 replace D:=QV (i:=i) (t:=t) D A F
 refine al<|fY 1 [] (mc 1 U mn) U<|Vv U rZ U<|rP 1 [] mn ?_
 refine RK p<|ar ?_
 refine LX hQ (true,0,L,T,M,AA,S,N,V,O,W,P,X,R,Y,(G.set (h).toNat (B.1,(B.2.set (i).toNat (none,0))))) [2,3,4,5,6,7,8,0] [0] (mc 11 U mn) U (by first|rfl|(show List.all _ _=true; simp only [cond_true,fE,List.all_nil,fQ,jZ,Bool.and_true]; rfl)) U ?_ ?_
 ·first|rfl|(simp only [cond_true,jo]; rfl)
 ·exact ⟨fun _=>⟨NK ⟨I,Z⟩ A hd H,⟨s,u⟩,D⟩,OD⟩
end
section
open Go.RowKit
theorem Lw (h i:Int) (t:aa) (r:bY) (kA:OA) (kC:Nat) (az:List RA) (cA:OA) (cC:Nat) (bA:OA) (bC:Nat) (slA:OA) (slC:Nat) (drA:OA) (drC:Nat) (ha:List cK) (heA:OA) (heC:Nat) (hin:fp r az ha):
 lB Tryz.prog 29 [(vA (cm.cells (oz r kA kC cA cC bA bC slA slC drA drC heA heC))),(vI h),(vI i),(vA (aa.cells t))] [(rd fg 3 2 eu),(rd kA r.an.aL.length 9 (r.an.aL.map ak.cells)),(rd cA r.an.ah.length 2 (List.zipWith ao.cells r.an.ah az)),(e9 (aW ao.gP r.an.ah az)),(rd bA r.an.ae.length 4 (r.an.ae.map bE.cells)),(rd slA r.aM.length 1 (r.aM.map iC)),(rd drA r.bK.length 1 (r.bK.map iC)),(rd heA r.aq.length 1 (List.zipWith cD r.aq ha)),(e9 (aW iy r.aq ha))] (fun (x:Bool×Int×(OA)×Nat×(OA)×Nat×(List RA)×(OA)×Nat×(OA)×Nat×(OA)×Nat×(OA)×Nat×(List cK))=>bif x.1 then (vT [(vA (cm.cells (cm.mk (bZ.mk (bB.mk (bj.mk x.2.2.1 r.an.aL.length x.2.2.2.1)) r.an.gk (bj.mk x.2.2.2.2.1 r.an.ah.length x.2.2.2.2.2.1) (bj.mk x.2.2.2.2.2.2.2.1 r.an.ae.length x.2.2.2.2.2.2.2.2.1) r.an.bU r.an.dN r.an.cw) (bj.mk x.2.2.2.2.2.2.2.2.2.1 r.aM.length x.2.2.2.2.2.2.2.2.2.2.1) (bj.mk x.2.2.2.2.2.2.2.2.2.2.2.1 r.bK.length x.2.2.2.2.2.2.2.2.2.2.2.2.1) r.gX (bj.mk x.2.2.2.2.2.2.2.2.2.2.2.2.2.1 ((g9 r.aq h i t).length) x.2.2.2.2.2.2.2.2.2.2.2.2.2.2.1)))),(vI 0)]) else (vT [(vA (cm.cells (cm.mk (bZ.mk (bB.mk (bj.mk none 0 0)) 0 (bj.mk none 0 0) (bj.mk none 0 0) 0 0 0) (bj.mk none 0 0) (bj.mk none 0 0) 0 (bj.mk none 0 0)))),(vI x.2.1)])) (fun (x:Bool×Int×(OA)×Nat×(OA)×Nat×(List RA)×(OA)×Nat×(OA)×Nat×(OA)×Nat×(OA)×Nat×(List cK))=>(x.1=true→((g0 r h i t)=0∧(x.2.2.2.2.2.2.1.length=r.an.ah.length∧oD r.an.ah x.2.2.2.2.2.2.1)∧si (g9 r.aq h i t) x.2.2.2.2.2.2.2.2.2.2.2.2.2.2.2))∧(x.1=false→(x.2.1=(g0 r h i t)∧ ¬ (g0 r h i t)=0))) (fun (x:Bool×Int×(OA)×Nat×(OA)×Nat×(List RA)×(OA)×Nat×(OA)×Nat×(OA)×Nat×(OA)×Nat×(List cK))=>bif x.1 then [(own x.2.2.1 x.2.2.2.1 153 9 (r.an.aL.map ak.cells)),(own x.2.2.2.2.1 x.2.2.2.2.2.1 53 2 (List.zipWith ao.cells r.an.ah x.2.2.2.2.2.2.1)),(br (aW ao.owns r.an.ah x.2.2.2.2.2.2.1)),(own x.2.2.2.2.2.2.2.1 x.2.2.2.2.2.2.2.2.1 160 4 (r.an.ae.map bE.cells)),(own x.2.2.2.2.2.2.2.2.2.1 x.2.2.2.2.2.2.2.2.2.2.1 3 1 (r.aM.map iC)),(own x.2.2.2.2.2.2.2.2.2.2.2.1 x.2.2.2.2.2.2.2.2.2.2.2.2.1 3 1 (r.bK.map iC)),(own x.2.2.2.2.2.2.2.2.2.2.2.2.2.1 x.2.2.2.2.2.2.2.2.2.2.2.2.2.2.1 56 1 (List.zipWith cD (g9 r.aq h i t) x.2.2.2.2.2.2.2.2.2.2.2.2.2.2.2)),(br (aW iz (g9 r.aq h i t) x.2.2.2.2.2.2.2.2.2.2.2.2.2.2.2))] else []):=by
 have u:=hin.line
 have Ao:=hin.iW
 have Ap:=hin.has
 have AC:=hin.jd
 have z:=hin.draw
 have e:=dQ (r:=r)
 refine di kr Tryz.func29 U U fun w0 Q hQ hN=>?_
 try dsimp only
 refine WS fun _ s=>gd U fun b2=>gd U fun b3=>AL U yF fun b4=>bo 1 U<|RK s<|WS fun _ Y=>rP 1 [] (mc 2 U mn) ?_
 refine cX (oG r kA kC az cA cC bA bC slA slC drA drC ha heA heC hin) (bp [3,4,5,6,7,8,9,10,11]) U fun y6 g=>?_
 obtain ⟨k,AS,q,S,m,o,p⟩:=y6
 cases k
 ·obtain ⟨M,he⟩:=g.2 rfl
  try dsimp only at M he
  subst M
  try dsimp only [cond_true,cond_false,List.cons_append,List.nil_append]
  refine bo 5 U<|RK Y<|aj fun _ y=>WS fun _ AA=>rP 2 [] mn ?_
  refine RK AA<|bS U (bw fun T=>?_) (bx fun T=>?_)
  ·exact absurd T he
  refine WS fun _ V=>rS (SX (bh (xs:=[]) (cs:=(cm.cells (cm.mk (bZ.mk (bB.mk (bj.mk none 0 0)) 0 (bj.mk none 0 0) (bj.mk none 0 0) 0 0 0) (bj.mk none 0 0) (bj.mk none 0 0) 0 (bj.mk none 0 0)))) U U (bg Ha U)) U U)<|bo 1 U<|gl U rZ U<|rP 1 [] mn ?_
  refine RK V<|ar ?_
  refine LX hQ (false,(cM r),none,0,none,0,[],none,0,none,0,none,0,none,0,[]) [] [0] (mc 0 U mn) U (by first|rfl|(show List.all _ _=true; simp only [cond_true,fE,List.all_nil,fQ,jZ,Bool.and_true]; rfl)) U ?_ ?_
  ·first|rfl|(simp only [cond_true,jo]; rfl)
  ·refine ⟨Bo,fun _=>?_⟩; first|exact IJ (sQ (h:=h) (i:=i) (t:=t) he) he|exact IJ (pg (h:=h) (i:=i) (t:=t) b) he
 obtain ⟨he,f⟩:=g.1 rfl
 try dsimp only [cond_true,cond_false,List.cons_append,List.nil_append]
 have b:=he
 try dsimp only at f
 have d:=(ig he).2
 refine bo 5 U<|RK Y<|aj fun _ W=>WS fun _ X=>bo 1 U<|rS (SX (cb (r:= .bool false) U U U nK) U U)<|RK X<|a_ U<|WK W<|WS fun _ N=>rP 4 [] (mc 5 U mn) ?_
 refine cX (yp r kA kC az cA cC bA bC slA slC drA drC ha heA heC p m o (Value.map (some S)) q h i t hin (by exact d)) (l5 [8,9,10,11,12,13,14,15]<|au (ag (n:=(cT r).length) 1 U (np (by rw [e]; exact f)))<|au (cY 2 U tJ)<|fP 0 U U<|aI) U fun v P=>?_
 obtain ⟨l,w,A,G,B,H,R,C,AB,D,J,E,K,F,L,j⟩:=v
 cases l
 ·obtain ⟨M,he⟩:=P.2 rfl
  try dsimp only at M he
  subst M
  try dsimp only [cond_true,cond_false,List.cons_append,List.nil_append]
  refine bo 2 U<|Pg U rZ U<|rP 1 [] mn ?_
  refine RK N<|ar ?_
  refine LX hQ (false,(qE r h i t),none,0,none,0,[],none,0,none,0,none,0,none,0,[]) [] [0] (mc 4 U mn) U (by first|rfl|(show List.all _ _=true; simp only [cond_true,fE,List.all_nil,fQ,jZ,Bool.and_true]; rfl)) U ?_ ?_
  ·first|rfl|(simp only [cond_true,jo]; rfl)
  ·refine ⟨Bo,fun _=>?_⟩; first|exact IJ (sQ (h:=h) (i:=i) (t:=t) he) he|exact IJ (pg (h:=h) (i:=i) (t:=t) b) he
 obtain ⟨O,⟨Z,a⟩,c⟩:=P.1 rfl
 try dsimp only [cond_true,cond_false,List.cons_append,List.nil_append]
 try dsimp only at O Z a c
 refine bo 2 U<|jG (vs:=(cm.cells (cm.mk (bZ.mk (bB.mk (bj.mk A r.an.aL.length G)) r.an.gk (bj.mk B r.an.ah.length H) (bj.mk C r.an.ae.length AB) r.an.bU r.an.dN r.an.cw) (bj.mk D r.aM.length J) (bj.mk E r.bK.length K) r.gX (bj.mk F ((g9 r.aq h i t).length) L)))) (cs':=(cm.cells (cm.mk (bZ.mk (bB.mk (bj.mk A r.an.aL.length G)) r.an.gk (bj.mk B r.an.ah.length H) (bj.mk C r.an.ae.length AB) r.an.bU r.an.dN r.an.cw) (bj.mk D r.aM.length J) (bj.mk E r.bK.length K) r.gX (bj.mk F ((g9 r.aq h i t).length) L)))) (C':=[_,_,_,_,_,_,_,_,_,_,_,_,(cd b4 32 (cm.cells (cm.mk (bZ.mk (bB.mk (bj.mk A r.an.aL.length G)) r.an.gk (bj.mk B r.an.ah.length H) (bj.mk C r.an.ae.length AB) r.an.bU r.an.dN r.an.cw) (bj.mk D r.aM.length J) (bj.mk E r.bK.length K) r.gX (bj.mk F ((g9 r.aq h i t).length) L)))),_,_,_,_,_,_,_,_,_,_,_]) 12 U U U rZ U U U U U U U<|rP 1 [] mn ?_
 refine RK N<|ar ?_
 refine LX hQ (true,0,A,G,B,H,R,C,AB,D,J,E,K,F,L,j) [0,1,2,3,4,5,6,7] [0] (mc 12 U mn) U (by first|rfl|(show List.all _ _=true; simp only [cond_true,fE,List.all_nil,fQ,jZ,Bool.and_true]; rfl)) U ?_ ?_
 ·first|rfl|(simp only [cond_true,jo]; rfl)
 ·exact ⟨fun _=>⟨(pg he).trans O,⟨Z,a⟩,c⟩,OD⟩
end
section
open Go.RowKit
theorem NM (la:List Int) (laA:OA) (laC:Nat) (lb:List Int) (lbA:OA) (lbC:Nat) (h1:la.length≤1000000) (h2:lb.length≤1000000):
 eB Tryz.prog 70 [(vS laA la.length laC),(vS lbA lb.length lbC)] [(rd laA la.length 1 (la.map iC)),(rd lbA lb.length 1 (lb.map iC))] (vB (decide (la=lb))):=by
 refine bG kr Tryz.func70 U U fun W Q hQ hN=>?_
 try dsimp only
 refine WS fun _ K=>bo 1 U<|RK K<|aj fun _ L=>WS fun _ M=>rP 5 [] mn ?_
 refine RK M<|cP U (bx fun hl=>?_) (bw fun hl=>?_)
 ·refine WS fun _ N=>rP 1 [] mn ?_
  refine RK N<|ar<|Q1 hQ U U U ?_
  first|exact cB (ct (nY hx hy h)).symm|exact cB (gf (nM I A I)).symm|exact cB (ct (fun e=>by subst e; omega)).symm
 refine WK L<|aj fun _ O=>WS fun _ P=>rP 3 [] mn ?_
 refine RK P<|ax ?_
 have B:(0≤la.length)∧(la.take 0=lb.take 0):=by simp
 refine bL (ι:={z:Nat // (z≤la.length)∧(la.take z=lb.take z)}) [0,1,12] [0,1] U U (fun z=>[(13,(vI (z.1:Int)))]) (fun z=>[]) (fun _=>rfl) (fun _=>rfl) (fun z=>la.length-z.1) ⟨0,B⟩ (aU U) (aG [0,1]) ?_
 clear B
 rintro ⟨i,⟨T,A⟩⟩ J7 J
 try dsimp only
 refine WS fun _ R=>rP 1 [] mn ?_
 refine RK R<|aj fun _ S=>bS U (aP fun AB=>?_) (aQ fun AB=>?_)
 ·refine bD<|ab<|ab<|ay<|KK O<|WS fun _ G=>rP 1 [] mn ?_
  refine RK G<|ar<|Q1 hQ U U U ?_
  first|exact cB (ct (nY hx hy h)).symm|exact cB (gf (nM I A I)).symm|exact cB (ct (fun e=>by subst e; omega)).symm
 refine WK S<|aj fun _ C=>ax<|WS fun _ D=>bo 2 U<|RK D<|aj fun _ E=>dH cx 9 kr<|dP 2 [] mn ?_
 obtain ⟨x,hx⟩:=aJ la i I
 have AA:=bO iC hx
 refine dS (IA i U (aC 0 U) cL dc I I)<|dS (gi i 0 (vI x) U cj (aC 0 U) AA U dc U)<|dP 2 [] mn ?_
 obtain ⟨y,hy⟩:=aJ lb i I
 have V:=bO iC hy
 refine dS (IA i U (aC 1 U) cL dc I I)<|dS (gi i 0 (vI y) U cj (aC 1 U) V U dc U)<|dP 1 [] mn ?_
 refine cQ<|RK E<|cP U (bx fun h=>?_) (bw fun h=>?_)
 ·refine WS fun _ F=>rP 1 [] mn ?_
  refine RK F<|ar<|Q1 hQ U U U ?_
  first|exact cB (ct (nY hx hy h)).symm|exact cB (gf (nM I A I)).symm|exact cB (ct (fun e=>by subst e; omega)).symm
 refine cr<|aH<|KK C<|al<|rP 2 [] mn ?_
 refine aA ?_
 have H:(vI (((i+1):Nat):Int))=(vI ((i:Int)+1)):=by exact cI I
 refine aV (J ⟨(i+1),⟨I,vc A hx hy h⟩⟩ _ _ _ U os (cU 3<|bk U H<|dF.nil _) (aG [0,1]))
theorem HX (h i:Int) (t:aa) (r:bY) (kA:OA) (kC:Nat) (az:List RA) (cA:OA) (cC:Nat) (bA:OA) (bC:Nat) (slA:OA) (slC:Nat) (drA:OA) (drC:Nat) (ha:List cK) (heA:OA) (heC:Nat) (hin:fp r az ha):
 lB Tryz.prog 31 [(vA (cm.cells (oz r kA kC cA cC bA bC slA slC drA drC heA heC))),(vI h),(vI i),(vA (aa.cells t))] [(rd fg 3 2 eu),(rd kA r.an.aL.length 9 (r.an.aL.map ak.cells)),(rd cA r.an.ah.length 2 (List.zipWith ao.cells r.an.ah az)),(e9 (aW ao.gP r.an.ah az)),(rd bA r.an.ae.length 4 (r.an.ae.map bE.cells)),(rd slA r.aM.length 1 (r.aM.map iC)),(rd drA r.bK.length 1 (r.bK.map iC)),(rd heA r.aq.length 1 (List.zipWith cD r.aq ha)),(e9 (aW iy r.aq ha))] (fun (x:(OA)×Nat)=>(vT [(vS x.1 ((ff r h i t).length) x.2),(vI (g0 r h i t))])) (fun (x:(OA)×Nat)=>True) (fun (x:(OA)×Nat)=>[(own x.1 x.2 3 1 ((ff r h i t).map iC))]):=by
 have Hi:=hin.line
 have K5:=hin.iW
 have K8:=hin.has
 have J6:=hin.jd
 have J4:=hin.draw
 have C2:=dQ (r:=r)
 refine di kr Tryz.func31 U U fun w0 Q hQ hN=>?_
 try dsimp only
 refine WS fun _ Hc=>gd U fun b2=>gd U fun b3=>bo 2 U<|RK Hc<|WS fun _ Ap=>rP 1 [] (mc 1 U mn) ?_
 refine cX (oG r kA kC az cA cC bA bC slA slC drA drC ha heA heC hin) (bp [2,3,4,5,6,7,8,9,10]) U fun y5 C3=>?_
 obtain ⟨Di,K0,v,G,f,g,AD⟩:=y5
 cases Di
 ·obtain ⟨B,he⟩:=C3.2 rfl
  try dsimp only at B he
  subst B
  try dsimp only [cond_true,cond_false,List.cons_append,List.nil_append]
  refine bo 5 U<|RK Ap<|aj fun _ J2=>WS fun _ AC=>rP 2 [] mn ?_
  refine RK AC<|bS U (bw fun w=>?_) (bx fun w=>?_)
  ·exact absurd w he
  refine WS fun _ AO=>rP 1 [] mn ?_
  have A:g0 r h i t=cM r:=sQ he
  have C:ff r h i t=[]:=yi (by rw [A]; exact he)
  refine ed 3 1 ?_
  rw [show (own none 0 3 1 ([]:List (List Value)))=own none 0 3 1 ((ff r h i t).map iC) from by rw [C]; rfl]
  refine rP 2 [] mn ?_
  refine RK AO<|ar ?_
  refine LX hQ (none,0) [0] [] mn U U U ?_ ?_
  ·first|rfl|(rw [A,C]; rfl)|(rw [A]; rfl)
  ·trivial
 obtain ⟨he,m⟩:=C3.1 rfl
 try dsimp only [cond_true,cond_false,List.cons_append,List.nil_append]
 have AB:=he
 try dsimp only at m
 have Cx:=(ig he).2
 refine bo 5 U<|RK Ap<|aj fun _ AS=>WS fun _ Ao=>bo 1 U<|rS (SX (cb (r:= .bool false) U U U nK) U U)<|RK Ao<|a_ U<|WK AS<|WS fun _ Z=>rP 4 [] (mc 4 U mn) ?_
 refine cX (yp r kA kC az cA cC bA bC slA slC drA drC ha heA heC AD f g (Value.map (some G)) v h i t hin (by exact Cx)) (l5 [7,8,9,10,11,12,13,14]<|au (ag (n:=(cT r).length) 1 U (np (by rw [C2]; exact m)))<|au (cY 2 U tJ)<|fP 0 U U<|aI) U fun IO d=>?_
 obtain ⟨Do,I0,L,S,M,T,o,N,AA,O,V,P,W,R,X,DL⟩:=IO
 cases Do
 ·obtain ⟨B,he⟩:=d.2 rfl
  try dsimp only at B he
  subst B
  try dsimp only [cond_true,cond_false,List.cons_append,List.nil_append]
  refine bo 3 U<|AL U yF fun KU=>gl U rZ U<|bo 1 U<|RK Z<|aj fun _ J3=>WS fun _ A0=>rP 2 [] mn ?_
  refine RK A0<|bS U (bw fun y=>?_) (bx fun y=>?_)
  ·exact absurd y he
  refine WS fun _ A1=>rP 1 [] mn ?_
  have A:g0 r h i t=qE r h i t:=pg AB
  have C:ff r h i t=[]:=yi (by rw [A]; exact he)
  refine ed 3 1 ?_
  rw [show (own none 0 3 1 ([]:List (List Value)))=own none 0 3 1 ((ff r h i t).map iC) from by rw [C]; rfl]
  refine rP 2 [] mn ?_
  refine RK A1<|ar ?_
  refine LX hQ (none,0) [0] [] mn U U U ?_ ?_
  ·first|rfl|(rw [A,C]; rfl)|(rw [A]; rfl)
  ·trivial
 obtain ⟨E,⟨j,Ci⟩,J⟩:=d.1 rfl
 try dsimp only [cond_true,cond_false,List.cons_append,List.nil_append]
 try dsimp only at E j Ci J
 have l:g0 r h i t=0:=(pg AB).trans E
 have Ck:=hin.rep j Ci J
 refine bo 3 U<|AL U yF fun KX=>gl U rZ U<|bo 1 U<|RK Z<|aj fun _ A2=>WS fun _ A3=>bo 1 U<|rS (SX (cb (r:= .bool false) U U U nK) U U)<|RK A3<|a_ U<|WK A2<|WS fun _ A4=>rP 1 [] (mc 0 U mn) ?_
 refine cX (oG (jN r h i t) L S o M T N AA O V P W DL R X (by exact Ck)) (fP 15 U U<|au (ag (n:=r.an.aL.length) 1 U sm)<|au (ag (n:=r.an.ah.length) 2 U (eM j))<|au (cY 3 U fr)<|au (ag (n:=r.an.ae.length) 4 U sm)<|au (ag (n:=r.aM.length) 5 U sm)<|au (ag (n:=r.bK.length) 6 U sm)<|au (ag (n:=(g9 r.aq h i t).length) 7 U (du J.1))<|au (gM 8 U J)<|aI) U fun IR e=>?_
 obtain ⟨EQ,I4,s,p,Eq,FR,Ov⟩:=IR
 cases EQ
 ·obtain ⟨B,he⟩:=e.2 rfl
  try dsimp only at B he
  subst B
  try dsimp only [cond_true,cond_false,List.cons_append,List.nil_append]
  exact absurd (ze l) he
 obtain ⟨he,m⟩:=e.1 rfl
 try dsimp only [cond_true,cond_false,List.cons_append,List.nil_append]
 have C0:=oh AB
 have F:=pk AB
 have C1:=oh he
 have J5:=pk he
 refine bo 5 U<|RK A4<|WS fun _ A5=>bo 1 U<|RK A5<|aj fun _ A6=>WS fun _ A7=>bo 1 U<|rS (SX (bP U U) U U)<|rP 2 [] (mc 13 U mn) ?_
 refine cX (GR G) (aI) U fun Fn J7=>?_
 try dsimp only
 refine cX (z6 (aF r) G Fn sd) (bp [17,0]) U fun Id J8=>?_
 obtain ⟨KT,Kc⟩:=Id
 try dsimp only
 rw [show (aF r).length=(dB ((aF r).map (·.1))).length from by rw [gI,List.length_map]]
 refine rP 1 [] mn ?_
 have Cp:(dB ((aF r).map (·.1))).length≤5:=by rw [gI,List.length_map]; exact F
 refine rP 1 [] mn ?_
 refine RK A7<|ax<|gr 3 1 ?_
 have D:(0≤(dB ((aF r).map (·.1))).length):=by exact Nat.zero_le _
 refine bL (ι:={z:Nat×(OA)×Nat // (z.1≤(dB ((aF r).map (·.1))).length)}) [10,13,47,48] [1,3,4,5,6,8,9,10,11,12,13,14,15,16,17,18,19,22,23,24,25,26,27,28,29,30] U U (fun z=>[(15,(vS z.1.2.1 ((((dB ((aF r).map (·.1))).take z.1.1).filter (fun u=> !decide (dI (aF r) u (aD (aF r) u)=dI (aF (jN r h i t)) u (aD (aF (jN r h i t)) u)))).length) z.1.2.2)),(49,(vI (z.1.1:Int)))]) (fun z=>[(own z.1.2.1 z.1.2.2 3 1 ((((dB ((aF r).map (·.1))).take z.1.1).filter (fun u=> !decide (dI (aF r) u (aD (aF r) u)=dI (aF (jN r h i t)) u (aD (aF (jN r h i t)) u)))).map iC))]) (fun _=>rfl) (fun _=>rfl) (fun z=>(dB ((aF r).map (·.1))).length-z.1.1) ⟨(0,none,0),D⟩ (aU U) (aG [1,3,4,5,6,8,9,10,11,12,13,14,15,16,17,18,19,22,23,24,25,26,27,28,29,30,0]) ?_
 clear D
 rintro ⟨⟨k,a,c⟩,K⟩ J65 Y
 try dsimp only at K
 try dsimp only
 have K4:((((dB ((aF r).map (·.1))).take k).filter (fun u=> !decide (dI (aF r) u (aD (aF r) u)=dI (aF (jN r h i t)) u (aD (aF (jN r h i t)) u))))).length≤12:=Nat.le_trans (List.length_filter_le _ _) (by rw [List.length_take]; omega)
 refine WS fun _ A8=>rP 1 [] mn ?_
 refine RK A8<|aj fun _ A9=>bS U (aP fun Go=>?_) (aQ fun Go=>?_)
 ·refine bD<|ab<|ab<|ay<|KK A6<|WS fun _ B7=>rP 1 [] mn ?_
  have A:=l
  have C:ff r h i t=(((dB ((aF r).map (·.1))).take k).filter (fun u=> !decide (dI (aF r) u (aD (aF r) u)=dI (aF (jN r h i t)) u (aD (aF (jN r h i t)) u)))):=by rw [D2 l,List.take_of_length_le I]
  rw [← C]
  refine rP 2 [] mn ?_
  refine RK B7<|ar ?_
  refine LX hQ (a,c) [26] [] mn U U U ?_ ?_
  ·first|rfl|(rw [A,C]; rfl)|(rw [A]; rfl)
  ·trivial
 refine WK A9<|aj fun _ b=>ax<|WS fun _ Bm=>?_
 obtain ⟨x,hx⟩:=aJ (dB ((aF r).map (·.1))) k I
 have H1:=bO iC hx
 refine rS (IA k U (ag (n:=(dB ((aF r).map (·.1))).length) 0 U sm) cL dc I I)<|rS (gi k 0 (vI x) U cj (ag (n:=(dB ((aF r).map (·.1))).length) 0 U sm) H1 U dc U)<|bo 1 U<|RK Bm<|WS fun _ B3=>rP 2 [] mn ?_
 refine cX (Bi r kA kC cA cC bA bC slA slC drA drC heA heC f ((cT r).length) g G v (aF r) x (by exact C0) (by exact B6 (aT hx)) I) (bp [13,16]) U fun If J9=>?_
 obtain ⟨FS,GE⟩:=If
 try dsimp only
 refine rP 2 [] mn ?_
 refine cX (Bi (bY.mk r.an r.aM r.bK r.gX (g9 r.aq h i t)) L S M T N AA O V P W R X Eq ((cT (jN r h i t)).length) FR p s (aF (jN r h i t)) x (by exact C1) (by exact fun q=>by have:=Mr E x; rw [q] at this; exact B6 (aT hx) (Option.not_isSome_iff_eq_none.1 (by rw [← this]; decide))) I) (bp [2,5]) U fun In KR=>?_
 obtain ⟨FT,GT⟩:=In
 try dsimp only
 refine rS (CL (NM (dI (aF r) x (aD (aF r) x)) FS GE (dI (aF (jN r h i t)) x (aD (aF (jN r h i t)) x)) FT GT (by exact Nat.le_trans wS I) (by exact Nat.le_trans wS I)) (au (ag (n:=(dI (aF r) x (aD (aF r) x)).length) 1 U sm)<|au (ag (n:=(dI (aF (jN r h i t)) x (aD (aF (jN r h i t)) x)).length) 0 U sm)<|aI) U)<|rP 1 [] mn ?_
 refine RK B3<|bS U (bw fun H=>?_) (bx fun H=>?_)
 ·refine cr<|aH<|KK b<|al<|rP 1 [] mn ?_
  have Cp:(dB ((aF r).map (·.1))).length≤5:=by rw [gI,List.length_map]; exact F
  refine rP 1 [] mn ?_
  refine aA ?_
  rw [show (((dB ((aF r).map (·.1))).take k).filter (fun u=> !decide (dI (aF r) u (aD (aF r) u)=dI (aF (jN r h i t)) u (aD (aF (jN r h i t)) u))))=(((dB ((aF r).map (·.1))).take (k+1)).filter (fun u=> !decide (dI (aF r) u (aD (aF r) u)=dI (aF (jN r h i t)) u (aD (aF (jN r h i t)) u)))) from (F1 hx (by simpa using H)).symm]
  have Ca:(vI (((k+1):Nat):Int))=(vI ((k:Int)+1)):=by exact cI I
  refine aV (Y ⟨((k+1),a,c),(by first|omega|(simp only []; omega))⟩ _ _ _ U (by first|omega|(dsimp only; omega)) (cU 5<|bk U Ca<|dF.nil _) (aG [2,3,4,5,6,7,8,9,10,11,12,13,14,15,16,17,18,19,20,21,22,23,24,25,26,27,28]))
 refine al<|rP 2 [] mn ?_
 refine c_ (xs:=[.tmp 62]) (cs:=[(vI x)]) U cL jA U U U U (by simp [Value.cells]) U U fun KY=>?_
 refine ck (es2:=(List.map iC (((dB ((aF r).map (·.1))).take (k+1)).filter (fun u=> !decide (dI (aF r) u (aD (aF r) u)=dI (aF (jN r h i t)) u (aD (aF (jN r h i t)) u)))))) (m':=(((dB ((aF r).map (·.1))).take (k+1)).filter (fun u=> !decide (dI (aF r) u (aD (aF r) u)=dI (aF (jN r h i t)) u (aD (aF (jN r h i t)) u)))).length) 29 U U U pw U U sm (aZ (es:=List.map iC [x]) 0 U U (by simp [bI]) U) (jP _) os (by simp only [maxLen]; first|omega|(simp; omega)) (by rw [xp hx (by simpa using H)]; simp) (by rw [xp hx (by simpa using H)]; simp) U fun Fd Gm=>?_
 try dsimp only
 refine bo 1 U<|aA<|aH<|KK b<|al<|rP 1 [] mn ?_
 have Cp:(dB ((aF r).map (·.1))).length≤5:=by rw [gI,List.length_map]; exact F
 refine rP 1 [] mn ?_
 refine aA ?_
 have B9:(vI (((k+1):Nat):Int))=(vI ((k:Int)+1)):=by exact cI I
 refine aV (Y ⟨((k+1),Fd,Gm),(by first|omega|(simp only []; omega))⟩ _ _ _ U (by first|omega|(dsimp only; omega)) (cU 5<|bk U B9<|dF.nil _) (aG [3,4,5,6,7,8,9,10,11,12,13,14,15,16,17,18,19,20,21,22,23,24,25,26,27,28,29]))
end
section
open Go.RowKit
theorem my (x y:Int):
 eB Tryz.prog 30 [(vI x),(vI y)] [] (vA (aa.cells (aa.mk x y))):=by
 refine bG kr Tryz.func30 U U fun D Q hQ hN=>?_
 try dsimp only
 refine WS fun _ A=>AL U dv fun C=>RK A<|WS fun _ B=>rP 2 [] mn ?_
 refine rS (SX (bh (xs:=[(0,.tmp 5),(1,.tmp 6)]) (cs:=(aa.cells (aa.mk x y))) U U (bg gH U)) U U)<|gl U cy U<|RK B<|ar ?_
 exact IC hQ [0] (mc 0 U mn) U U
theorem Ae (x:Int):
 eB Tryz.prog 106 [(vI x)] [] (vA (cN.cells (cN.mk 0 (aa.mk x x)))):=by
 refine bG kr Tryz.func106 U U fun D Q hQ hN=>?_
 try dsimp only
 refine WS fun _ A=>AL U Dr fun C=>RK A<|WS fun _ B=>rP 2 [] mn ?_
 refine rS (CL (my x x) (aI) U)<|rS (SX (bh (xs:=[(1,.tmp 5)]) (cs:=(cN.cells (cN.mk 0 (aa.mk x x)))) U U (bg Te U)) U U)<|gl U IU U<|RK B<|ar ?_
 exact IC hQ [0] (mc 0 U mn) U U
theorem re (x y:Int):
 eB Tryz.prog 68 [(vI x),(vI y)] [] (vA (bq.cells (bq.mk false true (aa.mk x y) (d_.mk 0 0 (bj.mk none 0 0))))):=by
 refine bG kr Tryz.func68 U U fun D Q hQ hN=>?_
 try dsimp only
 refine WS fun _ A=>AL U Ns fun C=>RK A<|WS fun _ B=>rP 2 [] mn ?_
 refine rS (CL (my x y) (aI) U)<|rS (SX (bh (xs:=[(1,.const (vB true)),(2,.tmp 7)]) (cs:=(bq.cells (bq.mk false true (aa.mk x y) (d_.mk 0 0 (bj.mk none 0 0))))) U U (bg Qh U)) U U)<|gl U Ri U<|RK B<|ar ?_
 exact IC hQ [0] (mc 0 U mn) U U
theorem Oi:
 lB Tryz.prog 66 [] [] (fun (x:(OA)×Nat×(OA)×Nat×(List RA)×(OA)×Nat)=>(vA (bZ.cells (bZ.mk (bB.mk (bj.mk x.1 aO.an.aL.length x.2.1)) aO.an.gk (bj.mk x.2.2.1 aO.an.ah.length x.2.2.2.1) (bj.mk x.2.2.2.2.2.1 aO.an.ae.length x.2.2.2.2.2.2) aO.an.bU aO.an.dN aO.an.cw)))) (fun (x:(OA)×Nat×(OA)×Nat×(List RA)×(OA)×Nat)=>x.2.2.2.2.1.length=aO.an.ah.length∧ew aO.an x.2.2.2.2.1) (fun (x:(OA)×Nat×(OA)×Nat×(List RA)×(OA)×Nat)=>[(own x.1 x.2.1 153 9 (aO.an.aL.map ak.cells)),(own x.2.2.1 x.2.2.2.1 53 2 (List.zipWith ao.cells aO.an.ah x.2.2.2.2.1)),(br (aW ao.owns aO.an.ah x.2.2.2.2.1)),(own x.2.2.2.2.2.1 x.2.2.2.2.2.2 160 4 (aO.an.ae.map bE.cells))]):=by
 refine di kr Tryz.func66 U U fun AA Q hQ hN=>?_
 try dsimp only
 refine WS fun _ E=>AL U Ur fun H=>RK E<|WS fun _ F=>bo 1 U<|RK F<|WS fun _ G=>rS (CL (my 10000 10200) (aI) U)<|rS (CL (my 0 100) (aI) U)<|rS (SX (bh (xs:=[(0,.const (vI 1)),(1,.tmp 2),(2,.tmp 3)]) (cs:=(ak.cells (ak.mk 1 (aa.mk 10000 10200) (aa.mk 0 100) (aa.mk 0 0) 0 0))) U U (bg RO U)) U U)<|c_ (xs:=[.tmp 4]) (cs:=(ak.cells (ak.mk 1 (aa.mk 10000 10200) (aa.mk 0 100) (aa.mk 0 0) 0 0))) U wQ F8 U U U U (by simp [Value.cells,ak.aS]) U U fun B=>rS (SX (bh (xs:=[(0,.tmp 5)]) (cs:=(bB.cells (bB.mk (bj.mk (some ⟨B,0,none⟩) 1 1)))) U U (bg SP U)) U U)<|rS (CL (my 0 2) (aI) U)<|rS (SX (bh (xs:=[(0,.const (vI 0)),(1,.tmp 7)]) (cs:=(bJ.cells (bJ.mk 0 (aa.mk 0 2)))) U U (bg Tu U)) U U)<|rS (CL (my 5 6) (aI) U)<|rS (SX (bh (xs:=[(0,.const (vI 100000)),(1,.tmp 9)]) (cs:=(bJ.cells (bJ.mk 100000 (aa.mk 5 6)))) U U (bg Tu U)) U U)<|c_ (xs:=[.tmp 8,.tmp 10]) (cs:=((bJ.cells (bJ.mk 0 (aa.mk 0 2)))++(bJ.cells (bJ.mk 100000 (aa.mk 5 6))))) U pz vr U U U U (by simp [Value.cells,bJ.aS]) U U fun A=>rS (SX (bh (xs:=[(0,.const (vI 100)),(1,.tmp 11)]) (cs:=(dx.cells (dx.mk 100 (bj.mk (some ⟨A,0,none⟩) 2 2)))) U U (bg UJ U)) U U)<|c_ (xs:=[.tmp 12]) (cs:=(dx.cells (dx.mk 100 (bj.mk (some ⟨A,0,none⟩) 2 2)))) U uQ Ov U U U U (by simp [Value.cells,dx.aS]) U U fun C=>bo 1 U<|rS (CL (Ae 1000) (aI) U)<|rS (SX (bh (xs:=[(0,.tmp 15)]) (cs:=(bE.cells (bE.mk (cN.mk 0 (aa.mk 1000 1000)) 0))) U U (bg Jm U)) U U)<|bo 1 U<|rS (CL (Ae 4000) (aI) U)<|rS (SX (bh (xs:=[(0,.tmp 18)]) (cs:=(bE.cells (bE.mk (cN.mk 0 (aa.mk 4000 4000)) 0))) U U (bg Jm U)) U U)<|rP 1 [] mn ?_
 refine rS (CL (Ae 9000) (aI) U)<|rS (SX (bh (xs:=[(0,.tmp 21)]) (cs:=(bE.cells (bE.mk (cN.mk 0 (aa.mk 9000 9000)) 0))) U U (bg Jm U)) U U)<|c_ (xs:=[.tmp 16,.tmp 19,.tmp 22]) (cs:=((bE.cells (bE.mk (cN.mk 0 (aa.mk 1000 1000)) 0))++(bE.cells (bE.mk (cN.mk 0 (aa.mk 4000 4000)) 0))++(bE.cells (bE.mk (cN.mk 0 (aa.mk 9000 9000)) 0)))) U vo S4 U U U U (by simp [Value.cells,bE.aS]) U U fun D=>rS (SX (bh (xs:=[(0,.tmp 6),(1,.const (vI 2000)),(4,.const (vI 1)),(5,.const (vI 1)),(6,.const (vI 1)),(2,.tmp 13),(3,.tmp 23)]) (cs:=(bZ.cells (bZ.mk (bB.mk (bj.mk (some ⟨B,0,none⟩) 1 1)) 2000 (bj.mk (some ⟨C,0,none⟩) 1 1) (bj.mk (some ⟨D,0,none⟩) 3 3) 1 1 1))) U U (bg VS U)) U U) ?_
 refine cR (es:=(aO.an.aL.map ak.cells)) (C':=[_,_,_,(own (some ⟨B,0,none⟩) 1 153 9 (aO.an.aL.map ak.cells)),_]) 3 U (nm ak.aS _) U (by show _≤maxLen; exact Nat.le_trans (m:=10) (show (1:Nat)≤10 by decide) dc) U ?_
 refine cR (es:=(yH.aN.map bJ.cells)) (C':=[_,_,(own (some ⟨A,0,none⟩) 2 55 3 (yH.aN.map bJ.cells)),_,_]) 2 U (nm bJ.aS _) U (by show _≤maxLen; exact Nat.le_trans (m:=10) (show (2:Nat)≤10 by decide) dc) U ?_
 refine cR (es:=(List.zipWith ao.cells aO.an.ah [((some ⟨A,0,none⟩),2)])) (C':=[_,(own (some ⟨C,0,none⟩) 1 53 2 (List.zipWith ao.cells aO.an.ah [((some ⟨A,0,none⟩),2)])),_,_,_]) 1 U (by intro x hx; change x∈[ao.cells yH ((some ⟨A,0,none⟩),2)] at hx; rw [bH.1 hx]; rfl) U (by show _≤maxLen; exact Nat.le_trans (m:=10) (show (1:Nat)≤10 by decide) dc) U ?_
 refine cR (es:=(aO.an.ae.map bE.cells)) (C':=[(own (some ⟨D,0,none⟩) 3 160 4 (aO.an.ae.map bE.cells)),_,_,_,_]) 0 U (nm bE.aS _) U (by show _≤maxLen; exact Nat.le_trans (m:=10) (show (3:Nat)≤10 by decide) dc) U ?_
 refine xb<|Pd (X:=[]) (X':=aW ao.owns aO.an.ah [((some ⟨A,0,none⟩),2)]) 0 3 U U U<|Pg U Qz U<|RK G<|ar ?_
 refine LX hQ ((some ⟨B,0,none⟩),1,(some ⟨C,0,none⟩),1,[((some ⟨A,0,none⟩),2)],(some ⟨D,0,none⟩),3) [3,2,0,1] [0] (mc 4 U mn) U (by simp only [fE,List.all_nil,fQ,Bool.and_true]; rfl) U U ?_
 exact ⟨U,SQ 1 dc⟩
theorem Nc:
 lB Tryz.prog 67 [] [] (fun (x:(OA)×Nat)=>(vA (d_.cells (d_.mk mT.Start mT.gp (bj.mk x.1 mT.ai.length x.2))))) (fun (x:(OA)×Nat)=>True) (fun (x:(OA)×Nat)=>[(own x.1 x.2 107 2 (mT.ai.map aK.cells))]):=by
 refine di kr Tryz.func67 U U fun E Q hQ hN=>?_
 try dsimp only
 refine WS fun _ B=>AL U Un fun D=>RK B<|WS fun _ C=>rS (SX (bh (xs:=[(0,.const (vI 0)),(1,.const (vI 10600))]) (cs:=(aK.cells (aK.mk 0 10600))) U U (bg Gh U)) U U)<|rS (SX (bh (xs:=[(0,.const (vI 0)),(1,.const (vI 11000))]) (cs:=(aK.cells (aK.mk 0 11000))) U U (bg Gh U)) U U)<|rS (SX (bh (xs:=[(0,.const (vI 1)),(1,.const (vI 12600))]) (cs:=(aK.cells (aK.mk 1 12600))) U U (bg Gh U)) U U)<|c_ (xs:=[.tmp 1,.tmp 2,.tmp 3]) (cs:=((aK.cells (aK.mk 0 10600))++(aK.cells (aK.mk 0 11000))++(aK.cells (aK.mk 1 12600)))) U yK FP U U U U (by simp [Value.cells,aK.aS]) U U fun A=>rS (SX (bh (xs:=[(0,.const (vI 10000)),(1,.const (vI 20000)),(2,.tmp 4)]) (cs:=(d_.cells (d_.mk 10000 20000 (bj.mk (some ⟨A,0,none⟩) 3 3)))) U U (bg U4 U)) U U)<|cR (es:=(mT.ai.map aK.cells)) (C':=[(own (some ⟨A,0,none⟩) 3 107 2 (mT.ai.map aK.cells)),_]) 0 U (nm aK.aS _) U dc U<|ti U Q_ U<|RK C<|ar<|LX hQ ((some ⟨A,0,none⟩),3) [0] [0] (mc 1 U mn) U U U U ?_
 trivial
end
section
open Go.RowKit
theorem jK:
 lB Tryz.prog 28 [] [] (fun (x:(OA)×Nat×(OA)×Nat×(List RA)×(OA)×Nat×(OA)×Nat×(OA)×Nat×(OA)×Nat×(List cK))=>(vA (cm.cells (cm.mk (bZ.mk (bB.mk (bj.mk x.1 aO.an.aL.length x.2.1)) aO.an.gk (bj.mk x.2.2.1 aO.an.ah.length x.2.2.2.1) (bj.mk x.2.2.2.2.2.1 aO.an.ae.length x.2.2.2.2.2.2.1) aO.an.bU aO.an.dN aO.an.cw) (bj.mk x.2.2.2.2.2.2.2.1 aO.aM.length x.2.2.2.2.2.2.2.2.1) (bj.mk x.2.2.2.2.2.2.2.2.2.1 aO.bK.length x.2.2.2.2.2.2.2.2.2.2.1) aO.gX (bj.mk x.2.2.2.2.2.2.2.2.2.2.2.1 aO.aq.length x.2.2.2.2.2.2.2.2.2.2.2.2.1))))) (fun (x:(OA)×Nat×(OA)×Nat×(List RA)×(OA)×Nat×(OA)×Nat×(OA)×Nat×(OA)×Nat×(List cK))=>fp aO x.2.2.2.2.1 x.2.2.2.2.2.2.2.2.2.2.2.2.2∧x.2.2.2.2.1.length=aO.an.ah.length∧si aO.aq x.2.2.2.2.2.2.2.2.2.2.2.2.2) (fun (x:(OA)×Nat×(OA)×Nat×(List RA)×(OA)×Nat×(OA)×Nat×(OA)×Nat×(OA)×Nat×(List cK))=>[(own x.1 x.2.1 153 9 (aO.an.aL.map ak.cells)),(own x.2.2.1 x.2.2.2.1 53 2 (List.zipWith ao.cells aO.an.ah x.2.2.2.2.1)),(br (aW ao.owns aO.an.ah x.2.2.2.2.1)),(own x.2.2.2.2.2.1 x.2.2.2.2.2.2.1 160 4 (aO.an.ae.map bE.cells)),(own x.2.2.2.2.2.2.2.1 x.2.2.2.2.2.2.2.2.1 3 1 (aO.aM.map iC)),(own x.2.2.2.2.2.2.2.2.2.1 x.2.2.2.2.2.2.2.2.2.2.1 3 1 (aO.bK.map iC)),(own x.2.2.2.2.2.2.2.2.2.2.2.1 x.2.2.2.2.2.2.2.2.2.2.2.2.1 56 1 (List.zipWith cD aO.aq x.2.2.2.2.2.2.2.2.2.2.2.2.2)),(br (aW iz aO.aq x.2.2.2.2.2.2.2.2.2.2.2.2.2))]):=by
 refine di kr Tryz.func28 U U fun Y Q hQ hN=>?_
 try dsimp only
 refine WS fun _ P=>AL U yF fun X=>RK P<|WS fun _ R=>cX Oi (aI) U fun W T=>?_
 obtain ⟨J,M,K,N,L,E,F⟩:=W
 try dsimp only
 obtain ⟨S,O⟩:=T
 refine c_ (xs:=[.const (vI 4),.const (vI 7),.const (vI 9)]) (cs:=[(vI 4),(vI 7),(vI 9)]) U cL jA U U U U (by simp [Value.cells]) U U fun G=>c_ (xs:=[.const (vI 2),.const (vI 0),.const (vI 1)]) (cs:=[(vI 2),(vI 0),(vI 1)]) U cL jA U U U U (by simp [Value.cells]) U U fun H=>cX Nc (aI) U fun AA V=>?_
 obtain ⟨A,B⟩:=AA
 try dsimp only
 refine rS (SX (bh (xs:=[(3,.tmp 4)]) (cs:=(bq.cells (bq.mk false false (aa.mk 0 0) (d_.mk mT.Start mT.gp (bj.mk A mT.ai.length B))))) U U (bg Qh U)) U U)<|rS (CL (re 2600 2600) (aI) U)<|rS (CL (re 2580 2609) (aI) U)<|c_ (xs:=[.tmp 5,.tmp 6,.tmp 7]) (cs:=((bq.cells (bq.mk false false (aa.mk 0 0) (d_.mk mT.Start mT.gp (bj.mk A mT.ai.length B))))++(bq.cells (bq.mk false true (aa.mk 2600 2600) (d_.mk 0 0 (bj.mk none 0 0))))++(bq.cells (bq.mk false true (aa.mk 2580 2609) (d_.mk 0 0 (bj.mk none 0 0)))))) U ug Ns U U U U (by simp [Value.cells,bq.aS]) U U fun C=>rS (CL (re 2555 2559) (aI) U)<|rS (CL (re 2540 2549) (aI) U)<|rS (CL (re 2570 2575) (aI) U)<|c_ (xs:=[.tmp 9,.tmp 10,.tmp 11]) (cs:=((bq.cells (bq.mk false true (aa.mk 2555 2559) (d_.mk 0 0 (bj.mk none 0 0))))++(bq.cells (bq.mk false true (aa.mk 2540 2549) (d_.mk 0 0 (bj.mk none 0 0))))++(bq.cells (bq.mk false true (aa.mk 2570 2575) (d_.mk 0 0 (bj.mk none 0 0)))))) U ug Ns U U U U (by simp [Value.cells,bq.aS]) U U fun D=>c_ (xs:=[.tmp 8,.tmp 12]) (cs:=[(vS (some ⟨C,0,none⟩) 3 3),(vS (some ⟨D,0,none⟩) 3 3)]) U ou Vm U U U U (by simp [Value.cells]) U U fun AB=>rS (SX (bh (xs:=[(0,.tmp 1),(1,.tmp 2),(2,.tmp 3),(3,.const (vI 2)),(4,.tmp 13)]) (cs:=(cm.cells (cm.mk (bZ.mk (bB.mk (bj.mk J aO.an.aL.length M)) aO.an.gk (bj.mk K aO.an.ah.length N) (bj.mk E aO.an.ae.length F) aO.an.bU aO.an.dN aO.an.cw) (bj.mk (some ⟨G,0,none⟩) 3 3) (bj.mk (some ⟨H,0,none⟩) 3 3) 2 (bj.mk (some ⟨AB,0,none⟩) 2 2)))) U U (bg Ha U)) U U) ?_
 refine cR (es:=(aO.aM.map iC)) (C':=[_,_,_,_,_,(own (some ⟨G,0,none⟩) 3 3 1 (aO.aM.map iC)),_,_,_,_,_]) 5 U (nm bI _) U (by show _≤maxLen; exact Nat.le_trans (m:=10) (show (3:Nat)≤10 by decide) dc) U ?_
 refine cR (es:=(aO.bK.map iC)) (C':=[_,_,_,_,(own (some ⟨H,0,none⟩) 3 3 1 (aO.bK.map iC)),_,_,_,_,_,_]) 4 U (nm bI _) U (by show _≤maxLen; exact Nat.le_trans (m:=10) (show (3:Nat)≤10 by decide) dc) U ?_
 refine cR (es:=(List.zipWith aw.cells TK [(A,B),(none,0),(none,0)])) (C':=[_,_,(own (some ⟨C,0,none⟩) 3 62 7 (List.zipWith aw.cells TK [(A,B),(none,0),(none,0)])),_,_,_,_,_,_,_,_]) 2 U (o5 GF) U (by show _≤maxLen; exact Nat.le_trans (m:=10) (show (3:Nat)≤10 by decide) dc) U ?_
 refine cR (es:=(List.zipWith aw.cells TO [(none,0),(none,0),(none,0)])) (C':=[_,(own (some ⟨D,0,none⟩) 3 62 7 (List.zipWith aw.cells TO [(none,0),(none,0),(none,0)])),_,_,_,_,_,_,_,_,_]) 1 U (o5 GF) U (by show _≤maxLen; exact Nat.le_trans (m:=10) (show (3:Nat)≤10 by decide) dc) U ?_
 refine cR (es:=(List.zipWith cD aO.aq [(((some ⟨C,0,none⟩),3),[(A,B),(none,0),(none,0)]),(((some ⟨D,0,none⟩),3),[(none,0),(none,0),(none,0)])])) (C':=[(own (some ⟨AB,0,none⟩) 2 56 1 (List.zipWith cD aO.aq [(((some ⟨C,0,none⟩),3),[(A,B),(none,0),(none,0)]),(((some ⟨D,0,none⟩),3),[(none,0),(none,0),(none,0)])])),_,_,_,_,_,_,_,_,_,_]) 0 U (o5 JV) U (by show _≤maxLen; exact Nat.le_trans (m:=10) (show (2:Nat)≤10 by decide) dc) U ?_
 refine ed 107 2<|ed 107 2<|ed 107 2<|ed 107 2<|ed 107 2<|uA (aW iz aO.aq [(((some ⟨C,0,none⟩),3),[(A,B),(none,0),(none,0)]),(((some ⟨D,0,none⟩),3),[(none,0),(none,0),(none,0)])]) [7,8,0,1,6,2,3,4] [5,9,10,11,12,13,14,15] U U<|Wb U rZ U<|RK R<|ar ?_
 refine LX hQ (J,M,K,N,L,E,F,(some ⟨G,0,none⟩),3,(some ⟨H,0,none⟩),3,(some ⟨AB,0,none⟩),2,[(((some ⟨C,0,none⟩),3),[(A,B),(none,0),(none,0)]),(((some ⟨D,0,none⟩),3),[(none,0),(none,0),(none,0)])]) [4,5,6,7,3,2,1,0] [0] (mc 8 U mn) U (by show List.all _ _=true; simp only [fE,List.all_nil,fQ,jZ,Bool.and_true]; rfl) U U ?_
 exact ⟨Ro O IS,S,IS⟩
end
section
open Go.RowKit
theorem Sm (i:Int) (r:bY) (kA:OA) (kC:Nat) (az:List RA) (cA:OA) (cC:Nat) (bA:OA) (bC:Nat) (slA:OA) (slC:Nat) (drA:OA) (drC:Nat) (ha:List cK) (heA:OA) (heC:Nat) (hin:fp r az ha):
 eB Tryz.prog 47 [(vA (cm.cells (oz r kA kC cA cC bA bC slA slC drA drC heA heC))),(vI i)] [(rd fg 3 2 eu),(rd kA r.an.aL.length 9 (r.an.aL.map ak.cells)),(rd cA r.an.ah.length 2 (List.zipWith ao.cells r.an.ah az)),(e9 (aW ao.gP r.an.ah az)),(rd bA r.an.ae.length 4 (r.an.ae.map bE.cells)),(rd slA r.aM.length 1 (r.aM.map iC)),(rd drA r.bK.length 1 (r.bK.map iC)),(rd heA r.aq.length 1 (List.zipWith cD r.aq ha)),(e9 (aW iy r.aq ha))] (vT [(vA (aa.cells (r8 r i))),(vI (jR r i))]):=by
 have M:=hin.line
 have g:=hin.iW
 have h:=hin.has
 have W:=hin.jd
 have R:=hin.draw
 have X:=dQ (r:=r)
 refine bG kr Tryz.func47 U U fun m Q hQ hN=>?_
 try dsimp only
 refine WS fun _ L=>gd U fun k=>AL U dv fun l=>bo 1 U<|RK L<|WS fun _ G=>rP 2 [] (mc 1 U mn) ?_
 refine c_ (xs:=[.tmp 11]) (cs:=[(vI i)]) U cL jA U U U U (by simp [Value.cells]) U U fun d=>cX (zF r kA kC az cA cC bA bC slA slC drA drC ha heA heC i d hin) (bp [3,4,5,6,7,8,9,10,11,0]) U fun j J=>?_
 obtain ⟨K,e,f,O,a,b,c,Y,Z⟩:=j
 cases K
 ·obtain ⟨H,he⟩:=J.2 rfl
  try dsimp only at H he
  subst H
  try dsimp only [cond_true,cond_false,List.cons_append,List.nil_append]
  refine bo 7 U<|RK G<|aj fun _ P=>WS fun _ B=>rP 2 [] mn ?_
  refine RK B<|bS U (bw fun A=>?_) (bx fun A=>?_)
  ·exact absurd A he
  refine WS fun _ C=>rS (SX (bh (xs:=[]) (cs:=(aa.cells (aa.mk 0 0))) U U (bg gH U)) U U)<|bo 1 U<|ti U cy U<|rP 1 [] mn ?_
  refine RK C<|ar<|lP hQ [0] (mc 1 U mn) U ?_
  first|(rw [show r8 r i=dJ from if_neg he]; rfl)|(rw [he,show r8 r i=aD _ _ from if_pos he]; done)
 obtain ⟨he,N⟩:=J.1 rfl
 try dsimp only [cond_true,cond_false,List.cons_append,List.nil_append]
 try dsimp only at N
 obtain ⟨AB,S,T⟩:=yP he
 have AA:=oh AB
 have V:=pk AB
 refine bo 7 U<|RK G<|aj fun _ D=>WS fun _ E=>bo 1 U<|rS (SX (cb (r:= .bool false) U U U nK) U U)<|RK E<|a_ U<|WK D<|WS fun _ F=>rP 1 [] mn ?_
 refine rS (IA 0 U (ag (n:=1) 4 U sq) g4 dc U I) ?_
 refine rS (oY 0 0 (aa.cells (aD (aF r) i)) U cj (ag (n:=([(aD (aF r) i)]).length) 4 U sm) (show ([(aD (aF r) i)].map aa.cells)[0]? =some [(vI ((aD (aF r) i).Lo)),(vI ((aD (aF r) i).Hi))] from U) U dc U U)<|O6 U cy U<|rP 1 [] mn ?_
 refine RK F<|ar<|lP hQ [0] (mc 6 U mn) U ?_
 first|(rw [show r8 r i=dJ from if_neg he]; rfl)|(rw [he,show r8 r i=aD _ _ from if_pos he]; done)
end
section
open Go.RowKit
theorem Ln (a b:Int) (m:g_) (gm g1:Nat) (hb: ∀ p∈m,0≤p.2.Lo∧p.2.Lo≤p.2.Hi∧p.2.Hi≤30000000):
 eB Tryz.prog 43 [(vI a),(vI b),(vP g1)] [(iS iV gm (bW er m)),(cd g1 40 [(Value.map (some gm))])] (vI ((aD m a).Hi-(aD m b).Hi)):=by
 have A:=g8 (i:=a) hb
 have B:=g8 (i:=b) hb
 refine bG kr Tryz.func43 U U fun E Q hQ hN=>?_
 try dsimp only
 refine WS fun _ C=>bo 1 U<|RK C<|WS fun _ D=>fY 2 [] (mr 1 U mn) U<|rS (SX (lg (kV:=iV) (x:=a) (l:=m) (f:=er) (z:=(aa.mk 0 0)) U U U ot (eX qp) xy (by exact lH 0 U)) U U)<|rS (SX (lk (v:=(vI (((List.lookup a m).getD (aa.mk 0 0)).Hi))) U U fw AU U) U U)<|rP 2 [] (mr 1 U mn) ?_
 refine rS (SX (lg (kV:=iV) (x:=b) (l:=m) (f:=er) (z:=(aa.mk 0 0)) U U U ot (eX qp) xy (by exact lH 0 U)) U U)<|rS (SX (lk (v:=(vI (((List.lookup b m).getD (aa.mk 0 0)).Hi))) U U fw AU U) U U) ?_
 unfold aD at A B
 simp only [dJ] at A B
 refine rP 2 [] mn ?_
 refine RK D<|ar ?_
 exact Q1 hQ U U U U
theorem Oh (heatX:Int) (r:bY) (kA:OA) (kC:Nat) (az:List RA) (cA:OA) (cC:Nat) (bA:OA) (bC:Nat) (slA:OA) (slC:Nat) (drA:OA) (drC:Nat) (ha:List cK) (heA:OA) (heC:Nat) (hin:fp r az ha):
 lB Tryz.prog 9 [(vA (cm.cells (oz r kA kC cA cC bA bC slA slC drA drC heA heC))),(vI heatX)] [(rd fg 3 2 eu),(rd kA r.an.aL.length 9 (r.an.aL.map ak.cells)),(rd cA r.an.ah.length 2 (List.zipWith ao.cells r.an.ah az)),(e9 (aW ao.gP r.an.ah az)),(rd bA r.an.ae.length 4 (r.an.ae.map bE.cells)),(rd slA r.aM.length 1 (r.aM.map iC)),(rd drA r.bK.length 1 (r.bK.map iC)),(rd heA r.aq.length 1 (List.zipWith cD r.aq ha)),(e9 (aW iy r.aq ha))] (fun (x:(OA)×Nat)=>(vT [(vS x.1 ((iq r heatX).length) x.2),(vI (ji r heatX))])) (fun (x:(OA)×Nat)=>True) (fun (x:(OA)×Nat)=>[(own x.1 x.2 3 1 ((iq r heatX).map iC))]):=by
 have Ci:=hin.line
 have Gm:=hin.iW
 have Go:=hin.has
 have Do:=hin.jd
 have Ao:=hin.draw
 have A2:=dQ (r:=r)
 refine di kr Tryz.func9 U U fun w0 Q hQ hN=>?_
 try dsimp only
 refine WS fun _ Ca=>gd U fun b2=>bo 2 U<|RK Ca<|z9 U<|WS fun _ e=>rP 1 [] (mc 0 U mn) ?_
 refine cX (oG r kA kC az cA cC bA bC slA slC drA drC ha heA heC hin) (bp [1,2,3,4,5,6,7,8,9]) U fun y4 A3=>?_
 obtain ⟨A4,Fn,B3,Bm,C0,A5,A6⟩:=y4
 cases A4
 ·obtain ⟨A0,he⟩:=A3.2 rfl
  try dsimp only at A0 he
  subst A0
  try dsimp only [cond_true,cond_false,List.cons_append,List.nil_append]
  refine bo 5 U<|RK e<|aj fun _ Di=>WS fun _ R=>rP 2 [] mn ?_
  refine RK R<|bS U (bw fun P=>?_) (bx fun P=>?_)
  ·exact absurd P he
  refine WS fun _ S=>rP 1 [] mn ?_
  have A:ji r heatX=cM r:=E0 he
  have B:iq r heatX=[]:=zT (by rw [A]; exact he)
  refine ed 3 1 ?_
  rw [show (own none 0 3 1 ([]:List (List Value)))=own none 0 3 1 ((iq r heatX).map iC) from by rw [B]; rfl]
  refine rP 2 [] mn ?_
  refine RK S<|ar ?_
  refine LX hQ (none,0) [0] [] mn U U U ?_ ?_
  ·first|rfl|(rw [A,B]; rfl)|(rw [A]; rfl)|(rw [A,B,kl]; rfl)
  ·trivial
 obtain ⟨he,Cp⟩:=A3.1 rfl
 try dsimp only [cond_true,cond_false,List.cons_append,List.nil_append]
 have G:=(ig he).2
 have Hc:=G.xL
 have GT:=G.yI
 refine bo 5 U<|RK e<|aj fun _ T=>WS fun _ AA=>bo 1 U<|rS (SX (cb (r:= .bool false) U U U nK) U U)<|RK AA<|a_ U<|WK T<|aj fun _ V=>WS fun _ W=>rP 4 [] (mc 4 U mn) ?_
 refine c_ (xs:=[.tmp 25]) (cs:=[(vI heatX)]) U cL jA U U U U (by simp [Value.cells]) U U fun A8=>?_
 refine rS (CL (eB.eq (kx 0 (r.aq.length:Int) ([heatX]) (some ⟨A8,0,none⟩) 1 sd) cZ) (au (aZ 0 U U (by simp [bI]) U)<|aI) U) ?_
 refine rP 1 [] mn ?_
 refine RK W<|cP U (bx fun B7=>?_) (bw fun B7=>?_)
 ·refine WS fun _ X=>?_
  have A:ji r heatX=2:=EJ he I
  have B:iq r heatX=[]:=zT (by rw [A]; decide)
  refine ed 3 1 ?_
  rw [show (own none 0 3 1 ([]:List (List Value)))=own none 0 3 1 ((iq r heatX).map iC) from by rw [B]; rfl]
  refine rP 2 [] mn ?_
  refine RK X<|ar ?_
  refine LX hQ (none,0) [0] [] mn U U U ?_ ?_
  ·first|rfl|(rw [A,B]; rfl)|(rw [A]; rfl)|(rw [A,B,kl]; rfl)
  ·trivial
 refine WK V<|aj fun _ Y=>WS fun _ Z=>rP 2 [] mn ?_
 refine RK Z<|cP U (aQ fun D=>?_) (aP fun D=>?_)
 ·refine WS fun _ b=>rP 2 [] (mc 5 U mn) ?_
  refine cX (wH r.bK drA drC sd) (bp [12]) U fun C3 EQ=>?_
  obtain ⟨N,O⟩:=C3
  try dsimp only
  have A:ji r heatX=0:=zg he I
  have B:iq r heatX=r.bK:=vw A D
  rw [show (own N O 3 1 (r.bK.map iC))=(own N O 3 1 ((iq r heatX).map iC)) from by rw [vw A D]]
  refine rP 2 [] mn ?_
  refine RK b<|ar ?_
  refine LX hQ (N,O) [0] [] mn U U U ?_ ?_
  ·first|rfl|(rw [A,B]; rfl)|(rw [A]; rfl)|(rw [A,B,kl]; rfl)
  ·trivial
 refine WK Y<|WS fun _ d=>?_
 obtain ⟨n,rfl⟩: ∃ n:Nat,heatX=(n:Int):=⟨heatX.toNat,I⟩
 refine rP 2 [] mn ?_
 refine cX (Pn r kA kC az cA cC bA bC slA slC drA drC ha heA heC A6 C0 A5 (Value.map (some Bm)) B3 n hin I sd (by exact G.Ap)) (l5 [7,8,9,10,11,12,13,14]<|au (ag (n:=(cT r).length) 2 U (np (by rw [A2]; exact Cp)))<|au (cY 3 U tJ)<|fP 1 U U<|aI) U fun C Eq=>?_
 try dsimp only
 refine AL U RU fun AB=>GZ U N5 U U<|RK d<|WS fun _ g=>bo 1 U<|RK g<|aj fun _ h=>AJ<|KK h<|aj fun _ j=>WS fun _ k=>rP 4 [] (mc 7 U mn) ?_
 refine RK k<|ax<|gr 3 1 ?_
 have F:(0≤r.bK.length):=by exact Nat.zero_le _
 refine bL (ι:={z:Nat×(OA)×Nat // (z.1≤r.bK.length)}) [1,2,6,8,38,39] [1,2,5,6,7,8,9,10,11,12,13,14,15,16,17] U U (fun z=>[(9,(vS z.1.2.1 (((r.bK.take z.1.1).filter fun u=>(List.lookup u (eP r n)).isSome).length) z.1.2.2)),(40,(vI (z.1.1:Int)))]) (fun z=>[(own z.1.2.1 z.1.2.2 3 1 (((r.bK.take z.1.1).filter fun u=>(List.lookup u (eP r n)).isSome).map iC))]) (fun _=>rfl) (fun _=>rfl) (fun z=>r.bK.length-z.1.1) ⟨(0,none,0),F⟩ (aU U) (aG [1,2,5,6,7,8,9,10,11,12,13,14,15,16,17,0]) ?_
 clear F
 rintro ⟨⟨i,a,c⟩,K⟩ J38 L
 try dsimp only at K
 try dsimp only
 refine WS fun _ m=>rP 1 [] mn ?_
 refine RK m<|aj fun _ o=>bS U (aP fun B9=>?_) (aQ fun B9=>?_)
 ·refine bD<|ab<|ab<|ay<|KK j<|aj fun _ v=>?_
  rw [show r.bK.take i=r.bK from List.take_of_length_le I]
  refine al<|rP 1 [] mn ?_
  have Ck:=FH he (show n≤r.aq.length by omega)
  have A1:=Nat.le_trans (List.length_filter_le (fun u=>(List.lookup u (eP r n)).isSome) r.bK) Ao
  have GE:(eK (fun u=>(aD (eP r n) u).Hi) (r.bK.filter fun u=>(List.lookup u (eP r n)).isSome)).length≤12:=by rw [kM]; exact A1
  refine rS (FU U) ?_
  refine cX (zp (r.bK.filter fun u=>(List.lookup u (eP r n)).isSome) a c (Value.func (.func 43) [].toArray [(vP AB)].toArray) (fun u=>(aD (eP r n) u).Hi) (e9 [(iS iV C (bW er (eP r n))),(cd AB 40 [(Value.map (some C))])]) (by intro C1 C2 _; exact oi (fi:=[]) (ca:=[(vP AB)]) (mA (Ln C1 C2 (eP r n) C AB (by first|assumption|omega)) (bp [0,1]))) (by exact Ti Ck) (by exact A1)) (au (ag (n:=(r.bK.filter fun u=>(List.lookup u (eP r n)).isSome).length) 15 U sm)<|au (mB (bp [1,0]))<|aI) U fun DL FR=>?_
  obtain ⟨H,J⟩:=DL
  try dsimp only
  refine bo 1 U<|RK v<|WS fun _ w=>rP 5 [] (mc 6 U mn) ?_
  refine rS (MN U)<|JZ 0 U fun AS=>?_
  simp only [List.length_map] at AS
  refine rS (UB (((min r.gX (((eK (fun u=>(aD (eP r n) u).Hi) (r.bK.filter fun u=>(List.lookup u (eP r n)).isSome)).length:Nat):Int))).toNat) U cL I (by first|omega|exact Nat.zero_le _|(simp; omega))) ?_
  refine jm 0 U U U U (Ho (eK (fun u=>(aD (eP r n) u).Hi) (r.bK.filter fun u=>(List.lookup u (eP r n)).isSome)) H J (((min r.gX (((eK (fun u=>(aD (eP r n) u).Hi) (r.bK.filter fun u=>(List.lookup u (eP r n)).isSome)).length:Nat):Int))).toNat) I I) U kG U (fun IO FS=>?_)
  try dsimp only
  refine RK w<|WS fun _ y=>rP 1 [] mn ?_
  have A:ji r (n:Int)=0:=zg he I
  have B:iq r (n:Int)=(sv (((min r.gX (((eK (fun u=>(aD (eP r n) u).Hi) (r.bK.filter fun u=>(List.lookup u (eP r n)).isSome)).length:Nat):Int))).toNat) (eK (fun u=>(aD (eP r n) u).Hi) (r.bK.filter fun u=>(List.lookup u (eP r n)).isSome))):=by rw [vV A D]; exact (zS rfl I).symm
  rw [show (own H J 3 1 ((sv (((min r.gX (((eK (fun u=>(aD (eP r n) u).Hi) (r.bK.filter fun u=>(List.lookup u (eP r n)).isSome)).length:Nat):Int))).toNat) (eK (fun u=>(aD (eP r n) u).Hi) (r.bK.filter fun u=>(List.lookup u (eP r n)).isSome))).map iC))=(own H J 3 1 ((iq r (n:Int)).map iC)) from by rw [vV A D]; exact congrArg (fun z=>own _ _ _ _ (List.map iC z)) (zS rfl I)]
  refine rP 2 [] mn ?_
  refine RK y<|ar ?_
  refine LX hQ (H,J) [0] [] mn U U U ?_ ?_
  ·first|rfl|(rw [A,B]; rfl)|(rw [A]; rfl)|(rw [A,B,kl]; rfl)
  ·trivial
 refine WK o<|aj fun _ M=>ax<|WS fun _ p=>?_
 obtain ⟨x,hx⟩:=aJ r.bK i I
 have Cx:=bO iC hx
 refine rS (IA i U (aC 12 U) cL dc I I)<|rS (gi i 0 (vI x) U cj (aC 12 U) Cx U dc U)<|bo 1 U<|RK p<|aj fun _ q=>WS fun _ s=>fY 2 [] (mc 0 U mn) U<|rS (SX (kX (kV:=iV) (x:=x) (l:=(eP r n)) (f:=er) (z:=(aa.mk 0 0)) U U U ot (eX qp) xy (by exact aC 1 U)) U U)<|bo 3 U<|AL U dv fun FT=>gl U cy U<|bo 1 U<|RK s<|WS fun _ t=>rP 2 [] mn ?_
 refine RK t<|cP U (fun E=>?_) (fun E=>?_)
 ·rw [Bool.not_eq_true'] at E
  refine bD<|ab<|ay<|KK M<|al<|rP 2 [] mn ?_
  refine aA ?_
  rw [show ((r.bK.take i).filter fun u=>(List.lookup u (eP r n)).isSome)=((r.bK.take (i+1)).filter fun u=>(List.lookup u (eP r n)).isSome) from (F1 hx E).symm]
  have AC:(vI (((i+1):Nat):Int))=(vI ((i:Int)+1)):=by exact cI I
  refine aV (L ⟨((i+1),a,c),(by first|omega|(simp only []; omega))⟩ _ _ _ U os (cU 7<|bk U AC<|dF.nil _) (aG [1,2,3,4,5,6,7,8,9,10,11,12,13,14,15,16]))
 rw [Bool.not_eq_false'] at E
 refine WK q<|al<|rP 2 [] mn ?_
 refine c_ (xs:=[.tmp 53]) (cs:=[(vI x)]) U cL jA U U U U (by simp [Value.cells]) U U fun Fd=>?_
 refine ck (es2:=(List.map iC ((r.bK.take (i+1)).filter fun u=>(List.lookup u (eP r n)).isSome))) (m':=((r.bK.take (i+1)).filter fun u=>(List.lookup u (eP r n)).isSome).length) 17 U U U pw U U sm (aZ (es:=List.map iC [x]) 0 U U (by simp [bI]) U) (jP _) (by have:=List.length_filter_le (fun u=>(List.lookup u (eP r n)).isSome) (r.bK.take i); rw [List.length_take] at this; first|omega|(simp; omega)) (by have:=List.length_filter_le (fun u=>(List.lookup u (eP r n)).isSome) (r.bK.take i); rw [List.length_take] at this; simp only [maxLen]; first|omega|(simp; omega)) (by rw [xp hx E]; simp) sm U fun A7 A9=>?_
 try dsimp only
 refine bo 1 U<|aA<|aH<|KK M<|al<|rP 2 [] mn ?_
 refine aA ?_
 have AO:(vI (((i+1):Nat):Int))=(vI ((i:Int)+1)):=by exact cI I
 refine aV (L ⟨((i+1),A7,A9),(by first|omega|(simp only []; omega))⟩ _ _ _ U os (cU 7<|bk U AO<|dF.nil _) (aG [2,3,4,5,6,7,8,9,10,11,12,13,14,15,16,17]))
end
section
open Go.RowKit
theorem zW (i lo hi:Int) (r:bY) (kA:OA) (kC:Nat) (az:List RA) (cA:OA) (cC:Nat) (bA:OA) (bC:Nat) (slA:OA) (slC:Nat) (drA:OA) (drC:Nat) (ha:List cK) (heA:OA) (heC:Nat) (hin:fp r az ha):
 eB Tryz.prog 32 [(vA (cm.cells (oz r kA kC cA cC bA bC slA slC drA drC heA heC))),(vI i),(vI lo),(vI hi)] [(rd fg 3 2 eu),(rd kA r.an.aL.length 9 (r.an.aL.map ak.cells)),(rd cA r.an.ah.length 2 (List.zipWith ao.cells r.an.ah az)),(e9 (aW ao.gP r.an.ah az)),(rd bA r.an.ae.length 4 (r.an.ae.map bE.cells)),(rd slA r.aM.length 1 (r.aM.map iC)),(rd drA r.bK.length 1 (r.bK.map iC)),(rd heA r.aq.length 1 (List.zipWith cD r.aq ha)),(e9 (aW iy r.aq ha))] (vB (decide (jR r i=0∧r8 r i=aa.mk lo hi))):=by
 have E:=hin.line
 have AA:=hin.iW
 have J:=hin.has
 have G:=hin.jd
 have F:=hin.draw
 have H:=dQ (r:=r)
 refine bG kr Tryz.func32 U U fun M Q hQ hN=>?_
 try dsimp only
 refine WS fun _ C=>gd U fun K=>bo 1 U<|RK C<|WS fun _ D=>fY 2 [] (mc 0 U mn) U<|rS (CL (Sm i r kA kC az cA cC bA bC slA slC drA drC ha heA heC hin) (bp [1,2,3,4,5,6,7,8,9]) U)<|bo 3 U<|AL U dv fun L=>gl U cy U<|bo 1 U<|RK D<|aj fun _ B=>dH cx 10 kr<|dP 3 [] mn ?_
 refine jl (t:=19) U (aP fun A=>?_) (aQ fun A=>?_)
 ·refine dP 7 [] mn ?_
  refine cQ<|RK B<|ar<|Q1 hQ U U U ?_
  first|exact cB (ct fun q=>A q.1).symm|exact cB (gO.2 ⟨fun q=>⟨A,q⟩,fun q=>q.2⟩)
 refine mV 3 [] (mc 0 U mn) U<|dS (CL (my lo hi) (aI) U)<|dS (BI U (tH _ _ (r8 r i) (aa.mk lo hi)))<|dP 2 [] mn ?_
 refine cQ<|RK B<|ar<|Q1 hQ U U U ?_
 first|exact cB (ct fun q=>A q.1).symm|exact cB (gO.2 ⟨fun q=>⟨A,q⟩,fun q=>q.2⟩)
theorem zj (i:Int) (want:List Int) (wantA:OA) (wantC:Nat) (r:bY) (kA:OA) (kC:Nat) (az:List RA) (cA:OA) (cC:Nat) (bA:OA) (bC:Nat) (slA:OA) (slC:Nat) (drA:OA) (drC:Nat) (ha:List cK) (heA:OA) (heC:Nat) (hin:fp r az ha) (hwl:want.length≤12):
 eB Tryz.prog 33 [(vA (cm.cells (oz r kA kC cA cC bA bC slA slC drA drC heA heC))),(vI i),(vS wantA want.length wantC)] [(rd wantA want.length 1 (want.map iC)),(rd fg 3 2 eu),(rd kA r.an.aL.length 9 (r.an.aL.map ak.cells)),(rd cA r.an.ah.length 2 (List.zipWith ao.cells r.an.ah az)),(e9 (aW ao.gP r.an.ah az)),(rd bA r.an.ae.length 4 (r.an.ae.map bE.cells)),(rd slA r.aM.length 1 (r.aM.map iC)),(rd drA r.bK.length 1 (r.bK.map iC)),(rd heA r.aq.length 1 (List.zipWith cD r.aq ha)),(e9 (aW iy r.aq ha))] (vB (decide (jR r i=0∧fV r i=want))):=by
 have E:=hin.line
 have K:=hin.iW
 have L:=hin.has
 have G:=hin.jd
 have F:=hin.draw
 have H:=dQ (r:=r)
 have M:=tf (r:=r) (i:=i)
 refine bG kr Tryz.func33 U U fun R Q hQ hN=>?_
 try dsimp only
 refine WS fun _ C=>gd U fun P=>bo 1 U<|RK C<|WS fun _ D=>rP 2 [] (mc 0 U mn) ?_
 refine cX (An i r kA kC az cA cC bA bC slA slC drA drC ha heA heC hin) (bp [2,3,4,5,6,7,8,9,10]) U fun O N=>?_
 obtain ⟨AA,J⟩:=O
 try dsimp only
 refine bo 5 U<|RK D<|WS fun _ B=>rP 3 [] mn ?_
 refine cu (t:=17) U (aP fun A=>?_) (aQ fun A=>?_)
 ·refine rP 5 [] mn ?_
  refine RK B<|ar<|Q1 hQ U U U ?_
  first|exact cB (ct fun q=>A q.1).symm|exact cB (gO.2 ⟨fun q=>⟨A,q⟩,fun q=>q.2⟩)
 refine bo 2 U<|rS (CL (oH (fV r i) AA J want wantA wantC I I) (au (ag (n:=(fV r i).length) 0 U sm)<|fP 2 U U<|aI) U)<|rP 2 [] mn ?_
 refine RK B<|ar<|Q1 hQ U U U ?_
 first|exact cB (ct fun q=>A q.1).symm|exact cB (gO.2 ⟨fun q=>⟨A,q⟩,fun q=>q.2⟩)
theorem zJ (heatX:Int) (want:List Int) (wantA:OA) (wantC:Nat) (hwl:want.length≤12):
 eB Tryz.prog 35 [(vI heatX),(vS wantA want.length wantC)] [(rd fg 3 2 eu),(rd wantA want.length 1 (want.map iC))] (vB (decide (ji aO heatX=0∧iq aO heatX=want))):=by
 have b:=Ef (r:=aO) (h:=heatX) dc
 refine bG kr Tryz.func35 U U fun d Q hQ hN=>?_
 try dsimp only
 refine WS fun _ V=>rP 1 [] mn ?_
 refine RK V<|WS fun _ W=>cX jK (aI) U fun c Y=>?_
 obtain ⟨N,S,P,AA,R,C,G,D,H,E,AB,F,J,M⟩:=c
 try dsimp only
 obtain ⟨L,X,K⟩:=Y
 refine rP 1 [] mn ?_
 refine cX (Oh heatX aO N S R P AA C G D H E AB M F J (by exact L)) (fP 8 U U<|au (ag (n:=aO.an.aL.length) 0 U sm)<|au (ag (n:=aO.an.ah.length) 1 U (eM X))<|au (cY 2 U fr)<|au (ag (n:=aO.an.ae.length) 3 U sm)<|au (ag (n:=aO.aM.length) 4 U sm)<|au (ag (n:=aO.bK.length) 5 U sm)<|au (ag (n:=aO.aq.length) 6 U (du K.1))<|au (gM 7 U K)<|aI) U fun Z a=>?_
 obtain ⟨O,T⟩:=Z
 try dsimp only
 refine bo 5 U<|RK W<|WS fun _ B=>rP 3 [] mn ?_
 refine cu (t:=15) U (aP fun A=>?_) (aQ fun A=>?_)
 ·refine rP 5 [] mn ?_
  refine RK B<|ar<|Q1 hQ U U U ?_
  first|exact cB (ct fun q=>A q.1).symm|exact cB (gO.2 ⟨fun q=>⟨A,q⟩,fun q=>q.2⟩)
 refine bo 2 U<|rS (CL (oH (iq aO heatX) O T want wantA wantC I I) (au (ag (n:=(iq aO heatX).length) 0 U sm)<|fP 10 U U<|aI) U)<|rP 2 [] mn ?_
 refine RK B<|ar<|Q1 hQ U U U ?_
 first|exact cB (ct fun q=>A q.1).symm|exact cB (gO.2 ⟨fun q=>⟨A,q⟩,fun q=>q.2⟩)
theorem By (a b:Int) (x y:Int):
 eB Tryz.prog 34 [(vI a),(vI b),(Value.int .u8 x),(Value.int .u8 y)] [(rd fg 3 2 eu)] (vB (decide (((n7 aO a b=0∧v7 aO a b=x)∧n7 aO a b=0)∧qC aO a b=y))):=by
 refine bG kr Tryz.func34 U U fun w Q hQ hN=>?_
 try dsimp only
 refine WS fun _ p=>rP 1 [] mn ?_
 refine RK p<|WS fun _ r=>cX jK (aI) U fun v s=>?_
 obtain ⟨j,m,k,o,l,J,V,L,X,N,Z,P,d,h⟩:=v
 try dsimp only
 obtain ⟨F,G,E⟩:=s
 refine bo 2 U<|rS (CL (Kv a b aO j m l k o J V L X N Z h P d (by exact F)) (fP 8 U U<|au (ag (n:=aO.an.aL.length) 0 U sm)<|au (ag (n:=aO.an.ah.length) 1 U (eM G))<|au (cY 2 U fr)<|au (ag (n:=aO.an.ae.length) 3 U sm)<|au (ag (n:=aO.aM.length) 4 U sm)<|au (ag (n:=aO.bK.length) 5 U sm)<|au (ag (n:=aO.aq.length) 6 U (du E.1))<|au (gM 7 U E)<|aI) U)<|qG [8] U U<|rP 5 [] mn ?_
 refine RK r<|WS fun _ f=>cX jK (aI) U fun u g=>?_
 obtain ⟨H,T,AB,AA,S,K,W,M,Y,O,c,R,e,i⟩:=u
 try dsimp only
 obtain ⟨F,G,E⟩:=g
 refine bo 2 U<|rS (CL (Qd a b aO H T S AB AA K W M Y O c i R e (by exact F)) (fP 8 U U<|au (ag (n:=aO.an.aL.length) 0 U sm)<|au (ag (n:=aO.an.ah.length) 1 U (eM G))<|au (cY 2 U fr)<|au (ag (n:=aO.an.ae.length) 3 U sm)<|au (ag (n:=aO.aM.length) 4 U sm)<|au (ag (n:=aO.bK.length) 5 U sm)<|au (ag (n:=aO.aq.length) 6 U (du E.1))<|au (gM 7 U E)<|aI) U)<|bo 5 U<|RK f<|WS fun _ D=>rP 3 [] mn ?_
 refine cu (t:=29) U (aP fun A=>?_) (aQ fun A=>?_)
 ·refine rP 14 [] mn ?_
  refine RK D<|ar<|Q1 hQ U U U ?_
  first|exact cB (ct fun q=>A q.1.1.1).symm|exact cB (ct fun q=>B q.1.1.2).symm|exact cB (ct fun q=>C q.1.2).symm|exact cB (gO.2 ⟨fun q=>⟨⟨⟨A,B⟩,C⟩,q⟩,fun q=>q.2⟩)
 refine bo 2 U<|rS (BI U mJ)<|rP 2 [] mn ?_
 refine cu (t:=34) U (aP fun B=>?_) (aQ fun B=>?_)
 ·refine rP 9 [] mn ?_
  refine RK D<|ar<|Q1 hQ U U U ?_
  first|exact cB (ct fun q=>A q.1.1.1).symm|exact cB (ct fun q=>B q.1.1.2).symm|exact cB (ct fun q=>C q.1.2).symm|exact cB (gO.2 ⟨fun q=>⟨⟨⟨A,B⟩,C⟩,q⟩,fun q=>q.2⟩)
 refine rP 4 [] mn ?_
 refine cu (t:=38) U (aP fun C=>?_) (aQ fun C=>?_)
 ·refine rP 5 [] mn ?_
  refine RK D<|ar<|Q1 hQ U U U ?_
  first|exact cB (ct fun q=>A q.1.1.1).symm|exact cB (ct fun q=>B q.1.1.2).symm|exact cB (ct fun q=>C q.1.2).symm|exact cB (gO.2 ⟨fun q=>⟨⟨⟨A,B⟩,C⟩,q⟩,fun q=>q.2⟩)
 refine bo 2 U<|rS (BI U mJ)<|rP 2 [] mn ?_
 refine RK D<|ar<|Q1 hQ U U U ?_
 first|exact cB (ct fun q=>A q.1.1.1).symm|exact cB (ct fun q=>B q.1.1.2).symm|exact cB (ct fun q=>C q.1.2).symm|exact cB (gO.2 ⟨fun q=>⟨⟨⟨A,B⟩,C⟩,q⟩,fun q=>q.2⟩)
end
section
open Go.RowKit
theorem LF:
 eB Tryz.prog 7 [] [(rd fg 3 2 eu)] (vB true):=by
 have Eq:=vW (r:=aO)
 have C0:=vW (r:=lx)
 have ZQ:=DD (r:=aO) (h:=0) (i:=2) (t:=aa.mk 2590 2599)
 have ZP:aO.aM.length=3:=rfl
 refine bG kr Tryz.func7 U U fun w0 Q hQ hN=>?_
 try dsimp only
 refine WS fun _ ZE=>rP 1 [] mn ?_
 refine RK ZE<|WS fun _ ZF=>cX jK (aI) U fun y3 ZH=>?_
 obtain ⟨Y_,ZC,ZA,ZD,ZB,Xi,YP,Xm,YT,Xq,YX,Xu,Yb,Y0⟩:=y3
 try dsimp only
 obtain ⟨A,F,B⟩:=ZH
 refine rS (CL (Eg 0 0 aO Y_ ZC ZB ZA ZD Xi YP Xm YT Xq YX Y0 Xu Yb (by exact A)) (fP 8 U U<|au (ag (n:=aO.an.aL.length) 0 U sm)<|au (ag (n:=aO.an.ah.length) 1 U (eM F))<|au (cY 2 U fr)<|au (ag (n:=aO.an.ae.length) 3 U sm)<|au (ag (n:=aO.aM.length) 4 U sm)<|au (ag (n:=aO.bK.length) 5 U sm)<|au (ag (n:=aO.aq.length) 6 U (du B.1))<|au (gM 7 U B)<|aI) U)<|bo 1 U<|qG [8] U U<|bo 2 U<|AL U dv fun C2=>gl U cy U<|rP 1 [] mn ?_
 refine RK ZF<|WS fun _ Yo=>cX jK (aI) U fun ZI Yv=>?_
 obtain ⟨Xc,YJ,Xf,YM,YG,Xj,YQ,Xn,YU,Xr,YY,Xv,Yc,Y1⟩:=ZI
 try dsimp only
 obtain ⟨A,F,B⟩:=Yv
 refine cX (FY aO Xc YJ YG Xf YM Xj YQ Xn YU Xr YY Y1 Xv Yc (by exact A)) (fP 9 U U<|au (ag (n:=aO.an.aL.length) 0 U sm)<|au (ag (n:=aO.an.ah.length) 1 U (eM F))<|au (cY 2 U fr)<|au (ag (n:=aO.an.ae.length) 3 U sm)<|au (ag (n:=aO.aM.length) 4 U sm)<|au (ag (n:=aO.bK.length) 5 U sm)<|au (ag (n:=aO.aq.length) 6 U (du B.1))<|au (gM 7 U B)<|aI) U fun ZJ Yw=>?_
 obtain ⟨a,B7,B9⟩:=ZJ
 try dsimp only
 have XP:=Yw
 have Hc:=XP
 refine bo 1 U<|qG [0,1,10,11] U U<|rP 4 [] mn ?_
 refine RK Yo<|WS fun _ Yp=>cX jK (aI) U fun ZK Yx=>?_
 obtain ⟨Xd,YK,Xg,YN,YH,Xk,YR,Xo,YV,Xs,YZ,Xw,Yd,Y2⟩:=ZK
 try dsimp only
 obtain ⟨A,F,B⟩:=Yx
 refine rS (CL (my 2590 2599) (aI) U)<|cX (Lw 0 2 (aa.mk 2590 2599) aO Xd YK YH Xg YN Xk YR Xo YV Xs YZ Y2 Xw Yd (by exact A)) (fP 11 U U<|au (ag (n:=aO.an.aL.length) 0 U sm)<|au (ag (n:=aO.an.ah.length) 1 U (eM F))<|au (cY 2 U fr)<|au (ag (n:=aO.an.ae.length) 3 U sm)<|au (ag (n:=aO.aM.length) 4 U sm)<|au (ag (n:=aO.bK.length) 5 U sm)<|au (ag (n:=aO.aq.length) 6 U (du B.1))<|au (gM 7 U B)<|aI) U fun ZL IO=>?_
 obtain ⟨Y3,ZO,G,N,H,O,M,AB,P,J,R,K,S,L,T,AA⟩:=ZL
 cases Y3
 ·obtain ⟨Yt,he⟩:=IO.2 rfl
  try dsimp only at Yt he
  subst Yt
  try dsimp only [cond_true,cond_false,List.cons_append,List.nil_append]
  exact absurd Cw he
 obtain ⟨Yu,⟨EQ,Ys⟩,C1⟩:=IO.1 rfl
 try dsimp only [cond_true,cond_false,List.cons_append,List.nil_append]
 try dsimp only at Yu EQ Ys C1
 have H1:fp lx _ _:=fp.rep A EQ Ys C1
 refine bo 1 U<|qG [0,1,2,3,4,5,6,7,16,17,18,19] U U<|bo 2 U<|AL U yF fun Ca=>gl U rZ U<|bo 1 U<|RK Yp<|WS fun _ Yq=>rP 1 [] (mc 0 U mn) ?_
 refine cX (FY lx G N M H O AB P J R K S AA L T (by exact H1)) (fP 12 U U<|au (ag (n:=aO.an.aL.length) 1 U (by rw [List.length_map]; rfl))<|au (ag (n:=aO.an.ah.length) 2 U (eM EQ))<|au (cY 3 U fr)<|au (ag (n:=aO.an.ae.length) 4 U (by rw [List.length_map]; rfl))<|au (ag (n:=aO.aM.length) 5 U (by rw [List.length_map]; rfl))<|au (ag (n:=aO.bK.length) 6 U (by rw [List.length_map]; rfl))<|au (ag (n:=(g9 aO.aq 0 2 (aa.mk 2590 2599)).length) 7 U (du C1.1))<|au (gM 8 U C1)<|aI) U fun ZM Yy=>?_
 obtain ⟨b,A7,A8⟩:=ZM
 try dsimp only
 have XP:=Yy
 have Hi:=XP
 refine rP 5 [] mn ?_
 refine RK Yq<|WS fun _ Yr=>cX jK (aI) U fun ZN Yz=>?_
 obtain ⟨Xe,YL,Xh,YO,YI,Xl,YS,Xp,YW,Xt,Ya,Xx,Ye,XW⟩:=ZN
 try dsimp only
 obtain ⟨A,F,B⟩:=Yz
 refine rS (CL (my 2590 2599) (aI) U)<|cX (HX 0 2 (aa.mk 2590 2599) aO Xe YL YI Xh YO Xl YS Xp YW Xt Ya XW Xx Ye (by exact A)) (fP 22 U U<|au (ag (n:=aO.an.aL.length) 0 U sm)<|au (ag (n:=aO.an.ah.length) 1 U (eM F))<|au (cY 2 U fr)<|au (ag (n:=aO.an.ae.length) 3 U sm)<|au (ag (n:=aO.aM.length) 4 U sm)<|au (ag (n:=aO.bK.length) 5 U sm)<|au (ag (n:=aO.aq.length) 6 U (du B.1))<|au (gM 7 U B)<|aI) U fun Y4 ZG=>?_
 obtain ⟨W,Z⟩:=Y4
 try dsimp only
 refine bo 1 U<|qG [0,9,10,11,12,13,14,15,16,17,18,19,20,21,22,23] U U<|rP 4 [] mn ?_
 refine RK Yr<|aj fun _ R8=>Mf cx [8,9,10,11,12,13,14,15,16,17,18,19,20,21,22,23,24,25,26,27,28,29,30,31,32,33,34,35,36,37,38,39,40,41,42,43,44,45,46,47,48,49,50,51,52,53,54,55,56,57,58,59,60,61,62,63,64,65,66,67,68,69,70,71,72,73] [0,1,2,3,4,5,6,7,8,9,10,11,12,13,14,15] U U U<|eS U (MV U)<|eS U (BI U mJ)<|eS U (MV U)<|Md (t:=40) U (aP fun Yf=>?_) (aQ fun Yf=>?_)
 ·exact absurd (PN.1) Yf
 refine eS U (LW 14 U cj U U)<|eS U (CL (my 2596 2602) (aI) U)<|eS U (BI U (tH _ _ (hZ aO 0 0) (aa.mk 2596 2602)))<|eS U (PK U)<|eS U (MV U)<|eT U<|il U fun T106 R9=>cu (t:=45) U (aP fun Yg=>?_) (aQ fun Yg=>?_)
 ·exact absurd (PN.2) Yg
 refine cX jK (aI) U fun Y5 XQ=>?_
 obtain ⟨IR,M2,I4,Op,Lk,J6,Pi,KT,QL,K0,Rk,LE,R3,XX⟩:=Y5
 try dsimp only
 obtain ⟨A,F,B⟩:=XQ
 refine RD R9 8 U<|il U fun T123 ST=>rS (CL (zW 0 514 515 aO IR M2 Lk I4 Op J6 Pi KT QL K0 Rk XX LE R3 (by exact A)) (fP 23 U U<|au (ag (n:=aO.an.aL.length) 0 U sm)<|au (ag (n:=aO.an.ah.length) 1 U (eM F))<|au (cY 2 U fr)<|au (ag (n:=aO.an.ae.length) 3 U sm)<|au (ag (n:=aO.aM.length) 4 U sm)<|au (ag (n:=aO.bK.length) 5 U sm)<|au (ag (n:=aO.aq.length) 6 U (du B.1))<|au (gM 7 U B)<|aI) U)<|RD ST 8 U<|il U fun T124 Sz=>qG [8,9,10,11,12,13,14,15,16,17,18,19,20,21,22,23] U U<|rS (PK U)<|RD Sz 0 U<|il U fun T125 S1=>rS (MV U)<|RD S1 0 U ?_
 refine x4 (V:=OA×Nat×OA×Nat×List RA×OA×Nat×OA×Nat×OA×Nat×OA×Nat×List cK×Nat) (fun (j,z,l,AO,X,p,Ao,s,A0,v,A2,x,A4,c,e)=>fp aO X c∧X.length=aO.an.ah.length∧si aO.aq c) (fun (j,z,l,AO,X,p,Ao,s,A0,v,A2,x,A4,c,e)=>[(3,(vS B7 ((dU aO).length) B9)),(4,(vI (cM aO))),(5,(vP Ca)),(6,(vI 0)),(7,(vS A7 ((dU lx).length) A8)),(8,(vI (cM lx))),(9,(vS W ((ff aO 0 2 (aa.mk 2590 2599)).length) Z)),(10,(vI (g0 aO 0 2 (aa.mk 2590 2599)))),(49,(vB true)),(50,(vA (cm.cells (cm.mk (bZ.mk (bB.mk (bj.mk j aO.an.aL.length z)) aO.an.gk (bj.mk l aO.an.ah.length AO) (bj.mk p aO.an.ae.length Ao) aO.an.bU aO.an.dN aO.an.cw) (bj.mk s aO.aM.length A0) (bj.mk v aO.bK.length A2) aO.gX (bj.mk x aO.aq.length A4))))),(51,(vS (some ⟨e,0,none⟩) 2 2))]) (fun (j,z,l,AO,X,p,Ao,s,A0,v,A2,x,A4,c,e)=>[(cd e 3 [(vI 1),(vI 2)]),(own j z 153 9 (aO.an.aL.map ak.cells)),(own l AO 53 2 (List.zipWith ao.cells aO.an.ah X)),(br (aW ao.owns aO.an.ah X)),(own p Ao 160 4 (aO.an.ae.map bE.cells)),(own s A0 3 1 (aO.aM.map iC)),(own v A2 3 1 (aO.bK.map iC)),(own x A4 56 1 (List.zipWith cD aO.aq c)),(br (aW iz aO.aq c)),(own W Z 3 1 ((ff aO 0 2 (aa.mk 2590 2599)).map iC)),(own A7 A8 29 1 (List.zipWith nx (dU lx) b)),(br (aW th (dU lx) b)),(cd Ca 32 (cm.cells (cm.mk (bZ.mk (bB.mk (bj.mk G aO.an.aL.length N)) aO.an.gk (bj.mk H aO.an.ah.length O) (bj.mk AB aO.an.ae.length P) aO.an.bU aO.an.dN aO.an.cw) (bj.mk J aO.aM.length R) (bj.mk K aO.bK.length S) aO.gX (bj.mk L ((g9 aO.aq 0 2 (aa.mk 2590 2599)).length) T)))),(own G N 153 9 (aO.an.aL.map ak.cells)),(own H O 53 2 (List.zipWith ao.cells aO.an.ah M)),(br (aW ao.owns aO.an.ah M)),(own AB P 160 4 (aO.an.ae.map bE.cells)),(own J R 3 1 (aO.aM.map iC)),(own K S 3 1 (aO.bK.map iC)),(own L T 56 1 (List.zipWith cD (g9 aO.aq 0 2 (aa.mk 2590 2599)) AA)),(br (aW iz (g9 aO.aq 0 2 (aa.mk 2590 2599)) AA)),(own B7 B9 29 1 (List.zipWith nx (dU aO) a)),(br (aW th (dU aO) a)),(cd C2 45 (aa.cells (hZ aO 0 0))),(rd fg 3 2 eu).ro]) 60 [14,15,16,17,18,19,20,21,22,23,24,25,26,27,28,29,30,31,32,33,34,35,36,37,38,39,40,41,42,43,44,45,46,47,48,49,50,51,52,53,54,55,56,57,58,59,60,61,62,63,64,65,66,67,68,69,70,71,72,73] (fun hJ=>?_) ?_
 ·refine iE [12,13] kr (ej ?_<|ej ?_<|j5)
  rotate_left 1
  ·refine iJ U U U fun T162 TQ=>cu (t:=49) U (aP fun C3=>?_) (aQ fun C3=>?_)
   ·exact absurd (⟨mM.1,mM.2.1⟩) C3
   refine c_ (xs:=[.const (vI 1),.const (vI 2)]) (cs:=[(vI 1),(vI 2)]) U cL jA U U U U (by simp [Value.cells]) U U fun Xz=>RD TQ 1 U<|N1 12<|iJ U U U fun T164 Ta=>cX jK (aI) U fun Y7 XS=>?_
   obtain ⟨If,NE,J3,Os,L0,J8,Pl,KX,Qr,K5,R0,LT,R5,XZ⟩:=Y7
   try dsimp only
   obtain ⟨A,F,B⟩:=XS
   refine RD Ta 9 U ?_
   exact j1 hJ (If,NE,J3,Os,L0,J8,Pl,KX,Qr,K5,R0,LT,R5,XZ,Xz) ⟨A,F,B⟩ [8,0,1,2,3,4,5,6,7,9,10,11,12,13,14,15,16,17,18,19,20,21,22,23,24] U U U
  refine iJ U U U fun T143 S2=>cu (t:=49) U (aP fun C3=>?_) (aQ fun C3=>?_)
  ·exact absurd (⟨mM.1,mM.2.1⟩) C3
  refine cX jK (aI) U fun Y6 XR=>?_
  obtain ⟨Id,M4,J2,Or,Lo,J7,Pk,KU,Qq,K4,Rw,LL,R4,XY⟩:=Y6
  try dsimp only
  obtain ⟨A,F,B⟩:=XR
  refine RD S2 8 U<|N1 13<|iJ U U U fun T160 TC=>c_ (xs:=[.const (vI 1),.const (vI 2)]) (cs:=[(vI 1),(vI 2)]) U cL jA U U U U (by simp [Value.cells]) U U fun Xy=>RD TC 9 U ?_
  exact j1 hJ (Id,M4,J2,Or,Lo,J7,Pk,KU,Qq,K4,Rw,LL,R4,XY,Xy) ⟨A,F,B⟩ [0,1,2,3,4,5,6,7,8,9,10,11,12,13,14,15,16,17,18,19,20,21,22,23,24] U U U
 rintro ⟨j,z,l,AO,X,p,Ao,s,A0,v,A2,x,A4,c,e⟩ ⟨A,F,B⟩
 try dsimp only
 refine il U fun T181 T0=>rS (CL (zj 0 ([1,2]) (some ⟨e,0,none⟩) 2 aO j z X l AO p Ao s A0 v A2 c x A4 (by exact A) dc) (au (aZ 0 U U (by simp [bI]) U)<|fP 24 U U<|au (ag (n:=aO.an.aL.length) 1 U sm)<|au (ag (n:=aO.an.ah.length) 2 U (eM F))<|au (cY 3 U fr)<|au (ag (n:=aO.an.ae.length) 4 U sm)<|au (ag (n:=aO.aM.length) 5 U sm)<|au (ag (n:=aO.bK.length) 6 U sm)<|au (ag (n:=aO.aq.length) 7 U (du B.1))<|au (gM 8 U B)<|aI) U)<|RD T0 9 U<|il U fun T182 T2=>qG [0,9,10,11,12,13,14,15,16,17,18,19,20,21,22,23,24] U U<|rS (PK U)<|RD T2 1 U<|il U fun T183 T4=>rS (MV U)<|RD T4 1 U ?_
 refine x4 (V:=OA×Nat×OA×Nat×List RA×OA×Nat×OA×Nat×OA×Nat×OA×Nat×List cK×Nat) (fun (k,AC,o,AS,Y,q,Ap,u,A1,w,A3,y,A5,d,f)=>fp aO Y d∧Y.length=aO.an.ah.length∧si aO.aq d) (fun (k,AC,o,AS,Y,q,Ap,u,A1,w,A3,y,A5,d,f)=>[(3,(vS B7 ((dU aO).length) B9)),(4,(vI (cM aO))),(5,(vP Ca)),(6,(vI 0)),(7,(vS A7 ((dU lx).length) A8)),(8,(vI (cM lx))),(9,(vS W ((ff aO 0 2 (aa.mk 2590 2599)).length) Z)),(10,(vI (g0 aO 0 2 (aa.mk 2590 2599)))),(54,(vB true)),(55,(vA (cm.cells (cm.mk (bZ.mk (bB.mk (bj.mk k aO.an.aL.length AC)) aO.an.gk (bj.mk o aO.an.ah.length AS) (bj.mk q aO.an.ae.length Ap) aO.an.bU aO.an.dN aO.an.cw) (bj.mk u aO.aM.length A1) (bj.mk w aO.bK.length A3) aO.gX (bj.mk y aO.aq.length A5))))),(56,(vS (some ⟨f,0,none⟩) 2 2))]) (fun (k,AC,o,AS,Y,q,Ap,u,A1,w,A3,y,A5,d,f)=>[(cd f 3 [(vI 2),(vI 3)]),(own k AC 153 9 (aO.an.aL.map ak.cells)),(own o AS 53 2 (List.zipWith ao.cells aO.an.ah Y)),(br (aW ao.owns aO.an.ah Y)),(own q Ap 160 4 (aO.an.ae.map bE.cells)),(own u A1 3 1 (aO.aM.map iC)),(own w A3 3 1 (aO.bK.map iC)),(own y A5 56 1 (List.zipWith cD aO.aq d)),(br (aW iz aO.aq d)),(cd e 3 [(vI 1),(vI 2)]),(own W Z 3 1 ((ff aO 0 2 (aa.mk 2590 2599)).map iC)),(own A7 A8 29 1 (List.zipWith nx (dU lx) b)),(br (aW th (dU lx) b)),(cd Ca 32 (cm.cells (cm.mk (bZ.mk (bB.mk (bj.mk G aO.an.aL.length N)) aO.an.gk (bj.mk H aO.an.ah.length O) (bj.mk AB aO.an.ae.length P) aO.an.bU aO.an.dN aO.an.cw) (bj.mk J aO.aM.length R) (bj.mk K aO.bK.length S) aO.gX (bj.mk L ((g9 aO.aq 0 2 (aa.mk 2590 2599)).length) T)))),(own G N 153 9 (aO.an.aL.map ak.cells)),(own H O 53 2 (List.zipWith ao.cells aO.an.ah M)),(br (aW ao.owns aO.an.ah M)),(own AB P 160 4 (aO.an.ae.map bE.cells)),(own J R 3 1 (aO.aM.map iC)),(own K S 3 1 (aO.bK.map iC)),(own L T 56 1 (List.zipWith cD (g9 aO.aq 0 2 (aa.mk 2590 2599)) AA)),(br (aW iz (g9 aO.aq 0 2 (aa.mk 2590 2599)) AA)),(own B7 B9 29 1 (List.zipWith nx (dU aO) a)),(br (aW th (dU aO) a)),(cd C2 45 (aa.cells (hZ aO 0 0))),(rd fg 3 2 eu).ro]) 55 [19,20,21,22,23,24,25,26,27,28,29,30,31,32,33,34,35,36,37,38,39,40,41,42,43,44,45,46,47,48,49,50,51,52,53,54,55,56,57,58,59,60,61,62,63,64,65,66,67,68,69,70,71,72,73] (fun hJ=>?_) ?_
 ·refine iE [17,18] kr (ej ?_<|ej ?_<|j5)
  rotate_left 1
  ·refine iJ U U U fun T220 T7=>cu (t:=54) U (aP fun DL=>?_) (aQ fun DL=>?_)
   ·exact absurd (⟨mM.1,mM.2.2⟩) DL
   refine c_ (xs:=[.const (vI 2),.const (vI 3)]) (cs:=[(vI 2),(vI 3)]) U cL jA U U U U (by simp [Value.cells]) U U fun X1=>RD T7 2 U<|N1 17<|iJ U U U fun T222 T8=>cX jK (aI) U fun Y9 XV=>?_
   obtain ⟨I0,Nx,J5,PX,L3,KR,QG,Kc,Re,LA,R2,Li,R7,Xb⟩:=Y9
   try dsimp only
   obtain ⟨A,F,B⟩:=XV
   refine RD T8 10 U ?_
   exact j1 hJ (I0,Nx,J5,PX,L3,KR,QG,Kc,Re,LA,R2,Li,R7,Xb,X1) ⟨A,F,B⟩ [8,0,1,2,3,4,5,6,7,9,10,11,12,13,14,15,16,17,18,19,20,21,22,23,24,25] U U U
  refine iJ U U U fun T201 T5=>cu (t:=54) U (aP fun DL=>?_) (aQ fun DL=>?_)
  ·exact absurd (⟨mM.1,mM.2.2⟩) DL
  refine cX jK (aI) U fun Y8 XU=>?_
  obtain ⟨In,Ne,J4,PP,L2,J9,P8,KY,Ra,K8,R1,La,R6,Xa⟩:=Y8
  try dsimp only
  obtain ⟨A,F,B⟩:=XU
  refine RD T5 9 U<|N1 18<|iJ U U U fun T218 T6=>c_ (xs:=[.const (vI 2),.const (vI 3)]) (cs:=[(vI 2),(vI 3)]) U cL jA U U U U (by simp [Value.cells]) U U fun X0=>RD T6 10 U ?_
  exact j1 hJ (In,Ne,J4,PP,L2,J9,P8,KY,Ra,K8,R1,La,R6,Xa,X0) ⟨A,F,B⟩ [0,1,2,3,4,5,6,7,8,9,10,11,12,13,14,15,16,17,18,19,20,21,22,23,24,25] U U U
 rintro ⟨k,AC,o,AS,Y,q,Ap,u,A1,w,A3,y,A5,d,f⟩ ⟨A,F,B⟩
 try dsimp only
 refine il U fun T239 T9=>rS (CL (zj 2 ([2,3]) (some ⟨f,0,none⟩) 2 aO k AC Y o AS q Ap u A1 w A3 d y A5 (by exact A) dc) (au (aZ 0 U U (by simp [bI]) U)<|fP 25 U U<|au (ag (n:=aO.an.aL.length) 1 U sm)<|au (ag (n:=aO.an.ah.length) 2 U (eM F))<|au (cY 3 U fr)<|au (ag (n:=aO.an.ae.length) 4 U sm)<|au (ag (n:=aO.aM.length) 5 U sm)<|au (ag (n:=aO.bK.length) 6 U sm)<|au (ag (n:=aO.aq.length) 7 U (du B.1))<|au (gM 8 U B)<|aI) U)<|RD T9 10 U<|il U fun T240 UC=>qG [0,9,10,11,12,13,14,15,16,17,18,19,20,21,22,23,24,25] U U<|rS (PK U)<|RD UC 2 U<|il U fun T241 UQ=>rS (MV U)<|RD UQ 2 U<|il U fun T242 UV=>cu (t:=59) U (aP fun Yh=>?_) (aQ fun Yh=>?_)
 ·exact absurd (⟨CT.1,CT.2.2⟩) Yh
 refine rS (CL (By 1 2 2 0) (bp [17]) U)<|RD UV 2 U<|il U fun T243 UX=>rS (PK U)<|RD UX 2 U<|il U fun T244 VO=>rS (MV U)<|RD VO 2 U<|il U fun T245 VQ=>cu (t:=62) U (aP fun Yi=>?_) (aQ fun Yi=>?_)
 ·exact absurd (⟨⟨⟨As.1,As.2.1⟩,As.1⟩,As.2.2⟩) Yi
 refine rS (CL (By 0 1 0 1) (bp [17]) U)<|RD VQ 2 U<|il U fun T246 VR=>rS (PK U)<|RD VR 2 U<|il U fun T247 VX=>rS (MV U)<|RD VX 2 U<|il U fun T248 Vb=>cu (t:=65) U (aP fun Yj=>?_) (aQ fun Yj=>?_)
 ·exact absurd (⟨⟨⟨AM.1,AM.2.1⟩,AM.1⟩,AM.2.2⟩) Yj
 refine rS (MV U)<|RD Vb 2 U<|il U fun T249 Vc=>rS (BI U mJ)<|RD Vc 2 U<|il U fun T250 V8=>rS (PK U)<|RD V8 2 U<|il U fun T251 WB=>rS (MV U)<|RD WB 2 U ?_
 refine x4 (V:=Nat×Nat) (fun (C,g)=>True) (fun (C,g)=>[(5,(vP Ca)),(6,(vI 0)),(7,(vS A7 ((dU lx).length) A8)),(8,(vI (cM lx))),(9,(vS W ((ff aO 0 2 (aa.mk 2590 2599)).length) Z)),(10,(vI (g0 aO 0 2 (aa.mk 2590 2599)))),(69,(vB true)),(70,(vS B7 ((dU aO).length) B9)),(71,(vS (some ⟨C,0,none⟩) 3 3)),(72,(vS (some ⟨g,0,none⟩) 1 1))]) (fun (C,g)=>[(cd g 29 [(vS (some ⟨C,0,none⟩) 3 3)]),(cd C 3 [(vI 0),(vI 1),(vI 2)]),(cd f 3 [(vI 2),(vI 3)]),(cd e 3 [(vI 1),(vI 2)]),(own W Z 3 1 ((ff aO 0 2 (aa.mk 2590 2599)).map iC)),(own A7 A8 29 1 (List.zipWith nx (dU lx) b)),(br (aW th (dU lx) b)),(cd Ca 32 (cm.cells (cm.mk (bZ.mk (bB.mk (bj.mk G aO.an.aL.length N)) aO.an.gk (bj.mk H aO.an.ah.length O) (bj.mk AB aO.an.ae.length P) aO.an.bU aO.an.dN aO.an.cw) (bj.mk J aO.aM.length R) (bj.mk K aO.bK.length S) aO.gX (bj.mk L ((g9 aO.aq 0 2 (aa.mk 2590 2599)).length) T)))),(own G N 153 9 (aO.an.aL.map ak.cells)),(own H O 53 2 (List.zipWith ao.cells aO.an.ah M)),(br (aW ao.owns aO.an.ah M)),(own AB P 160 4 (aO.an.ae.map bE.cells)),(own J R 3 1 (aO.aM.map iC)),(own K S 3 1 (aO.bK.map iC)),(own L T 56 1 (List.zipWith cD (g9 aO.aq 0 2 (aa.mk 2590 2599)) AA)),(br (aW iz (g9 aO.aq 0 2 (aa.mk 2590 2599)) AA)),(own B7 B9 29 1 (List.zipWith nx (dU aO) a)),(br (aW th (dU aO) a)),(cd C2 45 (aa.cells (hZ aO 0 0))),(rd fg 3 2 eu).ro]) 39 [35,36,37,38,39,40,41,42,43,44,45,46,47,48,49,50,51,52,53,54,55,56,57,58,59,60,61,62,63,64,65,66,67,68,69,70,71,72,73] (fun hJ=>?_) ?_
 ·refine iE [32,33] kr (ej ?_<|ej ?_<|j5)
  ·refine iJ U U U fun T254 WC=>cu (t:=69) U (aP fun Di=>?_) (aQ fun Di=>?_)
   ·exact absurd (qM) Di
   refine rS (MV U)<|RD WC 2 U<|N1 33<|iJ U U U fun T255 WD=>c_ (xs:=[.const (vI 0),.const (vI 1),.const (vI 2)]) (cs:=[(vI 0),(vI 1),(vI 2)]) U cL jA U U U U (by simp [Value.cells]) U U fun FR=>RD WD 3 U<|N1 34<|iJ U U U fun T257 WE=>c_ (xs:=[.tmp 71]) (cs:=[(vS (some ⟨FR,0,none⟩) 3 3)]) U pJ v8 U U U U (by simp [Value.cells]) U U fun X2=>RD WE 4 U ?_
   exact j1 hJ (FR,X2) trivial [0,1,2,3,4,5,6,7,8,9,10,11,12,13,14,15,16,17,18,19] U U U
  refine iJ U U U fun T259 WF=>cu (t:=69) U (aP fun Di=>?_) (aQ fun Di=>?_)
  ·exact absurd (qM) Di
  refine c_ (xs:=[.const (vI 0),.const (vI 1),.const (vI 2)]) (cs:=[(vI 0),(vI 1),(vI 2)]) U cL jA U U U U (by simp [Value.cells]) U U fun Ck=>RD WF 3 U<|iE [32,34] kr (ej ?_<|ej ?_<|j5)
  rotate_left 1
  ·refine iJ U U U fun T264 WI=>c_ (xs:=[.tmp 71]) (cs:=[(vS (some ⟨Ck,0,none⟩) 3 3)]) U pJ v8 U U U U (by simp [Value.cells]) U U fun X4=>RD WI 4 U<|N1 32<|iJ U U U fun T266 WL=>rS (MV U)<|RD WL 4 U ?_
   exact j1 hJ (Ck,X4) trivial [0,1,2,3,4,5,6,7,8,9,10,11,12,13,14,15,16,17,18,19] U U U
  refine iJ U U U fun T261 WG=>rS (MV U)<|RD WG 3 U<|N1 34<|iJ U U U fun T262 WH=>c_ (xs:=[.tmp 71]) (cs:=[(vS (some ⟨Ck,0,none⟩) 3 3)]) U pJ v8 U U U U (by simp [Value.cells]) U U fun X3=>RD WH 4 U ?_
  exact j1 hJ (Ck,X3) trivial [0,1,2,3,4,5,6,7,8,9,10,11,12,13,14,15,16,17,18,19] U U U
 rintro ⟨C,g⟩-
 try dsimp only
 refine il U fun T267 WM=>?_
 refine cR (es:=(([0,1,2]:List Int).map iC)) (C':=[_,(own (some ⟨C,0,none⟩) 3 3 1 (([0,1,2]:List Int).map iC)),_,_,_,_,_,_,_,_,_,_,_,_,_,_,_,_,_,_]) 1 U (nm bI _) U (by show _≤maxLen; exact Nat.le_trans (m:=10) (show (3:Nat)≤10 by decide) dc) U ?_
 refine cR (es:=(List.zipWith nx [([0,1,2]:List Int)] [((some ⟨C,0,none⟩),3)])) (C':=[(own (some ⟨g,0,none⟩) 1 29 1 (List.zipWith nx [([0,1,2]:List Int)] [((some ⟨C,0,none⟩),3)])),_,_,_,_,_,_,_,_,_,_,_,_,_,_,_,_,_,_,_]) 0 U (o5 I9) U (by show _≤maxLen; exact Nat.le_trans (m:=10) (show (1:Nat)≤10 by decide) dc) U ?_
 refine uA (aW th [([0,1,2]:List Int)] [((some ⟨C,0,none⟩),3)]) [1] [0,2,3,4,5,6,7,8,9,10,11,12,13,14,15,16,17,18,19] U U<|rS (CL (vz (dU aO) ([([0,1,2]:List Int)]) a B7 B9 ([((some ⟨C,0,none⟩),3)]) (some ⟨g,0,none⟩) 1 (by first|exact Eq.1|exact C0.1) dc (by first|exact Eq.2|exact C0.2) dc (by exact Hc) (by rfl)) (au (ag (n:=(dU aO).length) 16 U (lz Hc))<|au (cY 17 U Fx)<|au (ag (n:=([([0,1,2]:List Int)]).length) 1 U sm)<|au (cY 0 U Fx)<|aI) U)<|RD WM 4 U<|il U fun T268 WN=>rS (PK U)<|RD WN 4 U<|il U fun T269 WO=>rS (MV U)<|RD WO 4 U<|il U fun T270 WP=>cu (t:=75) U (aP fun Yk=>?_) (aQ fun Yk=>?_)
 ·exact absurd (Ox) Yk
 refine rS (MV U)<|RD WP 4 U<|il U fun T271 WQ=>rS (SX (cb (r:= .bool true) U U U mJ) U U)<|RD WQ 4 U<|il U fun T272 WR=>rS (PK U)<|RD WR 4 U<|il U fun T273 WT=>rS (MV U)<|RD WT 4 U<|il U fun T274 WU=>rS (LW 7 U cj U U)<|RD WU 4 U<|il U fun T275 WV=>?_
 refine rS (CL (zW 2 516 516 lx G N M H O AB P J R K S AA L T (by exact H1)) (fP 19 U U<|au (ag (n:=aO.an.aL.length) 8 U (by rw [List.length_map]; rfl))<|au (ag (n:=aO.an.ah.length) 9 U (eM EQ))<|au (cY 10 U fr)<|au (ag (n:=aO.an.ae.length) 11 U (by rw [List.length_map]; rfl))<|au (ag (n:=aO.aM.length) 12 U (by rw [List.length_map]; rfl))<|au (ag (n:=aO.bK.length) 13 U (by rw [List.length_map]; rfl))<|au (ag (n:=(g9 aO.aq 0 2 (aa.mk 2590 2599)).length) 14 U (du C1.1))<|au (gM 15 U C1)<|aI) U) ?_
 refine RD WV 4 U<|il U fun T276 WW=>rS (PK U)<|RD WW 4 U<|il U fun T277 WX=>rS (MV U)<|RD WX 4 U<|il U fun T278 WY=>cu (t:=83) U (aP fun Ym=>?_) (aQ fun Ym=>?_)
 ·exact absurd (Le) Ym
 refine rS (MV U)<|RD WY 4 U<|il U fun T279 WZ=>rS (BI U mJ)<|RD WZ 4 U<|il U fun T280 Wf=>rS (PK U)<|RD Wf 4 U<|il U fun T281 Wg=>rS (MV U)<|RD Wg 4 U ?_
 refine x4 (V:=Nat×Nat×Nat) (fun (D,E,A6)=>True) (fun (D,E,A6)=>[(9,(vS W ((ff aO 0 2 (aa.mk 2590 2599)).length) Z)),(10,(vI (g0 aO 0 2 (aa.mk 2590 2599)))),(71,(vS (some ⟨C,0,none⟩) 3 3)),(87,(vB true)),(88,(vS A7 ((dU lx).length) A8)),(89,(vS (some ⟨D,0,none⟩) 2 2)),(90,(vS (some ⟨E,0,none⟩) 1 1)),(91,(vS (some ⟨A6,0,none⟩) 2 2))]) (fun (D,E,A6)=>[(cd A6 29 [(vS (some ⟨D,0,none⟩) 2 2),(vS (some ⟨E,0,none⟩) 1 1)]),(cd E 3 [(vI 2)]),(cd D 3 [(vI 0),(vI 1)]),(br (aW th [([0,1,2]:List Int)] [((some ⟨C,0,none⟩),3)])),(own (some ⟨g,0,none⟩) 1 29 1 (List.zipWith nx [([0,1,2]:List Int)] [((some ⟨C,0,none⟩),3)])),(cd f 3 [(vI 2),(vI 3)]),(cd e 3 [(vI 1),(vI 2)]),(own W Z 3 1 ((ff aO 0 2 (aa.mk 2590 2599)).map iC)),(own A7 A8 29 1 (List.zipWith nx (dU lx) b)),(br (aW th (dU lx) b)),(cd Ca 32 (cm.cells (cm.mk (bZ.mk (bB.mk (bj.mk G aO.an.aL.length N)) aO.an.gk (bj.mk H aO.an.ah.length O) (bj.mk AB aO.an.ae.length P) aO.an.bU aO.an.dN aO.an.cw) (bj.mk J aO.aM.length R) (bj.mk K aO.bK.length S) aO.gX (bj.mk L ((g9 aO.aq 0 2 (aa.mk 2590 2599)).length) T)))),(own G N 153 9 (aO.an.aL.map ak.cells)),(own H O 53 2 (List.zipWith ao.cells aO.an.ah M)),(br (aW ao.owns aO.an.ah M)),(own AB P 160 4 (aO.an.ae.map bE.cells)),(own J R 3 1 (aO.aM.map iC)),(own K S 3 1 (aO.bK.map iC)),(own L T 56 1 (List.zipWith cD (g9 aO.aq 0 2 (aa.mk 2590 2599)) AA)),(br (aW iz (g9 aO.aq 0 2 (aa.mk 2590 2599)) AA)),(own B7 B9 29 1 (List.zipWith nx (dU aO) a)),(br (aW th (dU aO) a)),(cd C2 45 (aa.cells (hZ aO 0 0))),(rd fg 3 2 eu).ro]) 20 [54,55,56,57,58,59,60,61,62,63,64,65,66,67,68,69,70,71,72,73] (fun hJ=>?_) ?_
 ·refine iE [50,51,52] kr (ej ?_<|ej ?_<|ej ?_<|j5)
  ·refine iJ U U U fun T285 Wh=>cu (t:=87) U (aP fun Ci=>?_) (aQ fun Ci=>?_)
   ·exact absurd (xE) Ci
   refine rS (MV U)<|RD Wh 4 U<|iE [51,52] kr (ej ?_<|ej ?_<|j5)
   rotate_left 1
   ·refine iJ U U U fun T292 Wl=>c_ (xs:=[.const (vI 2)]) (cs:=[(vI 2)]) U cL jA U U U U (by simp [Value.cells]) U U fun Fd=>RD Wl 5 U<|N1 51<|iJ U U U fun T294 Wm=>c_ (xs:=[.const (vI 0),.const (vI 1)]) (cs:=[(vI 0),(vI 1)]) U cL jA U U U U (by simp [Value.cells]) U U fun Fn=>RD Wm 6 U<|N1 53<|iJ U U U fun T296 Wn=>c_ (xs:=[.tmp 89,.tmp 90]) (cs:=[(vS (some ⟨Fn,0,none⟩) 2 2),(vS (some ⟨Fd,0,none⟩) 1 1)]) U pJ v8 U U U U (by simp [Value.cells]) U U fun X6=>RD Wn 7 U ?_
    exact j1 hJ (Fn,Fd,X6) trivial [0,2,1,3,4,5,6,7,8,9,10,11,12,13,14,15,16,17,18,19,20,21,22] U U U
   refine iJ U U U fun T286 Wi=>c_ (xs:=[.const (vI 0),.const (vI 1)]) (cs:=[(vI 0),(vI 1)]) U cL jA U U U U (by simp [Value.cells]) U U fun FS=>RD Wi 5 U<|N1 52<|iJ U U U fun T288 Wj=>c_ (xs:=[.const (vI 2)]) (cs:=[(vI 2)]) U cL jA U U U U (by simp [Value.cells]) U U fun FT=>RD Wj 6 U<|N1 53<|iJ U U U fun T290 Wk=>c_ (xs:=[.tmp 89,.tmp 90]) (cs:=[(vS (some ⟨FS,0,none⟩) 2 2),(vS (some ⟨FT,0,none⟩) 1 1)]) U pJ v8 U U U U (by simp [Value.cells]) U U fun X5=>RD Wk 7 U ?_
   exact j1 hJ (FS,FT,X5) trivial [0,1,2,3,4,5,6,7,8,9,10,11,12,13,14,15,16,17,18,19,20,21,22] U U U
  ·refine iJ U U U fun T298 Wo=>cu (t:=87) U (aP fun Ci=>?_) (aQ fun Ci=>?_)
   ·exact absurd (xE) Ci
   refine c_ (xs:=[.const (vI 0),.const (vI 1)]) (cs:=[(vI 0),(vI 1)]) U cL jA U U U U (by simp [Value.cells]) U U fun A9=>RD Wo 5 U<|iE [50,52] kr (ej ?_<|ej ?_<|j5)
   ·refine iJ U U U fun T300 Wp=>rS (MV U)<|RD Wp 5 U<|N1 52<|iJ U U U fun T301 Wq=>c_ (xs:=[.const (vI 2)]) (cs:=[(vI 2)]) U cL jA U U U U (by simp [Value.cells]) U U fun GE=>RD Wq 6 U<|N1 53<|iJ U U U fun T303 Wr=>c_ (xs:=[.tmp 89,.tmp 90]) (cs:=[(vS (some ⟨A9,0,none⟩) 2 2),(vS (some ⟨GE,0,none⟩) 1 1)]) U pJ v8 U U U U (by simp [Value.cells]) U U fun X7=>RD Wr 7 U ?_
    exact j1 hJ (A9,GE,X7) trivial [0,1,2,3,4,5,6,7,8,9,10,11,12,13,14,15,16,17,18,19,20,21,22] U U U
   refine iJ U U U fun T305 Ws=>c_ (xs:=[.const (vI 2)]) (cs:=[(vI 2)]) U cL jA U U U U (by simp [Value.cells]) U U fun Cp=>RD Ws 6 U<|iE [50,53] kr (ej ?_<|ej ?_<|j5)
   rotate_left 1
   ·refine iJ U U U fun T310 Wv=>c_ (xs:=[.tmp 89,.tmp 90]) (cs:=[(vS (some ⟨A9,0,none⟩) 2 2),(vS (some ⟨Cp,0,none⟩) 1 1)]) U pJ v8 U U U U (by simp [Value.cells]) U U fun X9=>RD Wv 7 U<|N1 50<|iJ U U U fun T312 Ww=>rS (MV U)<|RD Ww 7 U ?_
    exact j1 hJ (A9,Cp,X9) trivial [0,1,2,3,4,5,6,7,8,9,10,11,12,13,14,15,16,17,18,19,20,21,22] U U U
   refine iJ U U U fun T307 Wt=>rS (MV U)<|RD Wt 6 U<|N1 53<|iJ U U U fun T308 Wu=>c_ (xs:=[.tmp 89,.tmp 90]) (cs:=[(vS (some ⟨A9,0,none⟩) 2 2),(vS (some ⟨Cp,0,none⟩) 1 1)]) U pJ v8 U U U U (by simp [Value.cells]) U U fun X8=>RD Wu 7 U ?_
   exact j1 hJ (A9,Cp,X8) trivial [0,1,2,3,4,5,6,7,8,9,10,11,12,13,14,15,16,17,18,19,20,21,22] U U U
  refine iJ U U U fun T313 Wx=>cu (t:=87) U (aP fun Ci=>?_) (aQ fun Ci=>?_)
  ·exact absurd (xE) Ci
  refine c_ (xs:=[.const (vI 2)]) (cs:=[(vI 2)]) U cL jA U U U U (by simp [Value.cells]) U U fun Bm=>RD Wx 5 U<|iE [50,51] kr (ej ?_<|ej ?_<|j5)
  ·refine iJ U U U fun T315 Wy=>rS (MV U)<|RD Wy 5 U<|N1 51<|iJ U U U fun T316 Wz=>c_ (xs:=[.const (vI 0),.const (vI 1)]) (cs:=[(vI 0),(vI 1)]) U cL jA U U U U (by simp [Value.cells]) U U fun GT=>RD Wz 6 U<|N1 53<|iJ U U U fun T318 W0=>c_ (xs:=[.tmp 89,.tmp 90]) (cs:=[(vS (some ⟨GT,0,none⟩) 2 2),(vS (some ⟨Bm,0,none⟩) 1 1)]) U pJ v8 U U U U (by simp [Value.cells]) U U fun X_=>RD W0 7 U ?_
   exact j1 hJ (GT,Bm,X_) trivial [0,2,1,3,4,5,6,7,8,9,10,11,12,13,14,15,16,17,18,19,20,21,22] U U U
  refine iJ U U U fun T320 W1=>c_ (xs:=[.const (vI 0),.const (vI 1)]) (cs:=[(vI 0),(vI 1)]) U cL jA U U U U (by simp [Value.cells]) U U fun Cx=>RD W1 6 U<|iE [50,53] kr (ej ?_<|ej ?_<|j5)
  rotate_left 1
  ·refine iJ U U U fun T325 W4=>c_ (xs:=[.tmp 89,.tmp 90]) (cs:=[(vS (some ⟨Cx,0,none⟩) 2 2),(vS (some ⟨Bm,0,none⟩) 1 1)]) U pJ v8 U U U U (by simp [Value.cells]) U U fun YB=>RD W4 7 U<|N1 50<|iJ U U U fun T327 W5=>rS (MV U)<|RD W5 7 U ?_
   exact j1 hJ (Cx,Bm,YB) trivial [0,2,1,3,4,5,6,7,8,9,10,11,12,13,14,15,16,17,18,19,20,21,22] U U U
  refine iJ U U U fun T322 W2=>rS (MV U)<|RD W2 6 U<|N1 53<|iJ U U U fun T323 W3=>c_ (xs:=[.tmp 89,.tmp 90]) (cs:=[(vS (some ⟨Cx,0,none⟩) 2 2),(vS (some ⟨Bm,0,none⟩) 1 1)]) U pJ v8 U U U U (by simp [Value.cells]) U U fun YA=>RD W3 7 U ?_
  exact j1 hJ (Cx,Bm,YA) trivial [0,2,1,3,4,5,6,7,8,9,10,11,12,13,14,15,16,17,18,19,20,21,22] U U U
 rintro ⟨D,E,A6⟩-
 try dsimp only
 refine il U fun T328 W6=>?_
 refine cR (es:=(([0,1]:List Int).map iC)) (C':=[_,_,(own (some ⟨D,0,none⟩) 2 3 1 (([0,1]:List Int).map iC)),_,_,_,_,_,_,_,_,_,_,_,_,_,_,_,_,_,_,_,_]) 2 U (nm bI _) U (by show _≤maxLen; exact Nat.le_trans (m:=10) (show (2:Nat)≤10 by decide) dc) U ?_
 refine cR (es:=(([2]:List Int).map iC)) (C':=[_,(own (some ⟨E,0,none⟩) 1 3 1 (([2]:List Int).map iC)),_,_,_,_,_,_,_,_,_,_,_,_,_,_,_,_,_,_,_,_,_]) 1 U (nm bI _) U (by show _≤maxLen; exact Nat.le_trans (m:=10) (show (1:Nat)≤10 by decide) dc) U ?_
 refine cR (es:=(List.zipWith nx [([0,1]:List Int),([2]:List Int)] [((some ⟨D,0,none⟩),2),((some ⟨E,0,none⟩),1)])) (C':=[(own (some ⟨A6,0,none⟩) 2 29 1 (List.zipWith nx [([0,1]:List Int),([2]:List Int)] [((some ⟨D,0,none⟩),2),((some ⟨E,0,none⟩),1)])),_,_,_,_,_,_,_,_,_,_,_,_,_,_,_,_,_,_,_,_,_,_]) 0 U (o5 I9) U (by show _≤maxLen; exact Nat.le_trans (m:=10) (show (2:Nat)≤10 by decide) dc) U ?_
 refine uA (aW th [([0,1]:List Int),([2]:List Int)] [((some ⟨D,0,none⟩),2),((some ⟨E,0,none⟩),1)]) [2,1] [0,3,4,5,6,7,8,9,10,11,12,13,14,15,16,17,18,19,20,21,22] U U<|rS (CL (vz (dU lx) ([([0,1]:List Int),([2]:List Int)]) b A7 A8 ([((some ⟨D,0,none⟩),2),((some ⟨E,0,none⟩),1)]) (some ⟨A6,0,none⟩) 2 (by first|exact Eq.1|exact C0.1) dc (by first|exact Eq.2|exact C0.2) dc (by exact Hi) (by rfl)) (au (ag (n:=(dU lx).length) 7 U (lz Hi))<|au (cY 8 U Fx)<|au (ag (n:=([([0,1]:List Int),([2]:List Int)]).length) 1 U sm)<|au (cY 0 U Fx)<|aI) U)<|RD W6 6 U<|il U fun T329 W7=>rS (PK U)<|RD W7 6 U<|il U fun T330 W8=>rS (MV U)<|RD W8 6 U<|il U fun T331 W9=>cu (t:=94) U (aP fun Yn=>?_) (aQ fun Yn=>?_)
 ·exact absurd (Kh) Yn
 refine rS (MV U)<|RD W9 6 U<|il U fun T332 W_=>rS (BI U mJ)<|RD W_ 6 U<|il U fun T333 XA=>rS (PK U)<|RD XA 6 U<|il U fun T334 XB=>rS (MV U)<|RD XB 6 U ?_
 refine x4 (V:=Nat) (fun B3=>True) (fun B3=>[(71,(vS (some ⟨C,0,none⟩) 3 3)),(89,(vS (some ⟨D,0,none⟩) 2 2)),(90,(vS (some ⟨E,0,none⟩) 1 1)),(98,(vB true)),(99,(vS W ((ff aO 0 2 (aa.mk 2590 2599)).length) Z)),(100,(vS (some ⟨B3,0,none⟩) 1 1))]) (fun B3=>[(cd B3 3 [(vI 2)]),(br (aW th [([0,1]:List Int),([2]:List Int)] [((some ⟨D,0,none⟩),2),((some ⟨E,0,none⟩),1)])),(own (some ⟨A6,0,none⟩) 2 29 1 (List.zipWith nx [([0,1]:List Int),([2]:List Int)] [((some ⟨D,0,none⟩),2),((some ⟨E,0,none⟩),1)])),(br (aW th [([0,1,2]:List Int)] [((some ⟨C,0,none⟩),3)])),(own (some ⟨g,0,none⟩) 1 29 1 (List.zipWith nx [([0,1,2]:List Int)] [((some ⟨C,0,none⟩),3)])),(cd f 3 [(vI 2),(vI 3)]),(cd e 3 [(vI 1),(vI 2)]),(own W Z 3 1 ((ff aO 0 2 (aa.mk 2590 2599)).map iC)),(own A7 A8 29 1 (List.zipWith nx (dU lx) b)),(br (aW th (dU lx) b)),(cd Ca 32 (cm.cells (cm.mk (bZ.mk (bB.mk (bj.mk G aO.an.aL.length N)) aO.an.gk (bj.mk H aO.an.ah.length O) (bj.mk AB aO.an.ae.length P) aO.an.bU aO.an.dN aO.an.cw) (bj.mk J aO.aM.length R) (bj.mk K aO.bK.length S) aO.gX (bj.mk L ((g9 aO.aq 0 2 (aa.mk 2590 2599)).length) T)))),(own G N 153 9 (aO.an.aL.map ak.cells)),(own H O 53 2 (List.zipWith ao.cells aO.an.ah M)),(br (aW ao.owns aO.an.ah M)),(own AB P 160 4 (aO.an.ae.map bE.cells)),(own J R 3 1 (aO.aM.map iC)),(own K S 3 1 (aO.bK.map iC)),(own L T 56 1 (List.zipWith cD (g9 aO.aq 0 2 (aa.mk 2590 2599)) AA)),(br (aW iz (g9 aO.aq 0 2 (aa.mk 2590 2599)) AA)),(own B7 B9 29 1 (List.zipWith nx (dU aO) a)),(br (aW th (dU aO) a)),(cd C2 45 (aa.cells (hZ aO 0 0))),(rd fg 3 2 eu).ro]) 11 [63,64,65,66,67,68,69,70,71,72,73] (fun hJ=>?_) ?_
 ·refine iE [61,62] kr (ej ?_<|ej ?_<|j5)
  rotate_left 1
  ·refine iJ U U U fun T339 XE=>cu (t:=98) U (aP fun Do=>?_) (aQ fun Do=>?_)
   ·exact absurd (Cw) Do
   refine c_ (xs:=[.const (vI 2)]) (cs:=[(vI 2)]) U cL jA U U U U (by simp [Value.cells]) U U fun YD=>RD XE 7 U<|N1 61<|iJ U U U fun T341 XG=>rS (MV U)<|RD XG 7 U ?_
   exact j1 hJ YD trivial [0,1,2,3,4,5,6,7,8,9,10,11,12,13,14,15,16,17,18,19,20,21,22] U U U
  refine iJ U U U fun T336 XC=>cu (t:=98) U (aP fun Do=>?_) (aQ fun Do=>?_)
  ·exact absurd (Cw) Do
  refine rS (MV U)<|RD XC 6 U<|N1 62<|iJ U U U fun T337 XD=>c_ (xs:=[.const (vI 2)]) (cs:=[(vI 2)]) U cL jA U U U U (by simp [Value.cells]) U U fun YC=>RD XD 7 U ?_
  exact j1 hJ YC trivial [0,1,2,3,4,5,6,7,8,9,10,11,12,13,14,15,16,17,18,19,20,21,22] U U U
 rintro B3-
 try dsimp only
 refine il U fun T342 XH=>rS (CL (oH (ff aO 0 2 (aa.mk 2590 2599)) W Z ([2]) (some ⟨B3,0,none⟩) 1 I dc) (au (ag (n:=(ff aO 0 2 (aa.mk 2590 2599)).length) 7 U sm)<|au (aZ 0 U U (by simp [bI]) U)<|aI) U)<|RD XH 7 U<|il U fun T343 XI=>rS (PK U)<|RD XI 7 U<|il U fun T344 XJ=>rS (MV U)<|RD XJ 7 U<|il U fun T345 XK=>cu (t:=103) U (aP fun Gm=>?_) (aQ fun Gm=>?_)
 ·exact absurd (Nw) Gm
 refine c_ (xs:=[.const (vI 0),.const (vI 2),.const (vI 1)]) (cs:=[(vI 0),(vI 2),(vI 1)]) U cL jA U U U U (by simp [Value.cells]) U U fun YE=>RD XK 8 U<|il U fun T347 XL=>rS (CL (zJ 1 ([0,2,1]) (some ⟨YE,0,none⟩) 3 dc) (fP 23 U U<|au (aZ 0 U U (by simp [bI]) U)<|aI) U)<|RD XL 8 U<|il U fun T348 XM=>rS (PK U)<|RD XM 8 U<|il U fun T349 XN=>rS (MV U)<|RD XN 8 U<|il U fun T350 XO=>cu (t:=107) U (aP fun Go=>?_) (aQ fun Go=>?_)
 ·exact absurd (KA) Go
 refine c_ (xs:=[.const (vI 0),.const (vI 1),.const (vI 2)]) (cs:=[(vI 0),(vI 1),(vI 2)]) U cL jA U U U U (by simp [Value.cells]) U U fun YF=>RD XO 9 U<|Ks [109,110,0] kr kr U _ U U (aG [9,10,11,12,13,14,15,16,17,18,19,20,21,22,23,24])<|dS (CL (zJ 2 ([0,1,2]) (some ⟨YF,0,none⟩) 3 dc) (fP 24 U U<|au (aZ 0 U U (by simp [bI]) U)<|aI) U)<|dP 2 [] mn ?_
 refine cQ<|RK R8<|ar<|Q1 hQ U U U ?_
 exact cB (gf JA)
end
section
open Go.RowKit
theorem jc (n lo hi:Int):
 eB Tryz.prog 91 [(vI n),(vI lo),(vI hi)] [] (vB (decide (lo≤n∧n≤hi))):=by
 refine bG kr Tryz.func91 U U fun D Q hQ hN=>?_
 try dsimp only
 refine WS fun _ B=>bo 1 U<|RK B<|WS fun _ A=>rP 4 [] mn ?_
 refine dp (t:=10) U (aQ fun C=>?_) (aP fun C=>?_)
 ·refine rP 5 [] mn ?_
  refine RK A<|ar<|Q1 hQ U U U ?_
  exact cB (gO.2 I)
 refine rP 5 [] mn ?_
 refine RK A<|ar<|Q1 hQ U U U ?_
 exact cB (ct I).symm
theorem Ct (ts:List ak) (tsA:OA) (tsC:Nat) (hst: ∀ x∈ts,bQ x) (hlen:ts.length≤12):
 lB Tryz.prog 170 [(vA (bB.cells (bB.mk (bj.mk tsA ts.length tsC))))] [(rd tsA ts.length 9 (ts.map ak.cells))] (fun (x:(OA)×Nat)=>(vS x.1 ((ir ts (ts.length+1)).length) x.2)) (fun (x:(OA)×Nat)=>True) (fun (x:(OA)×Nat)=>[(own x.1 x.2 45 2 ((ir ts (ts.length+1)).map aa.cells))]):=by
 refine di kr Tryz.func170 U U fun V Q hQ hN=>?_
 try dsimp only
 refine WS fun _ J=>gd U fun AA=>bo 1 U<|RK J<|WS fun _ K=>bo 1 U<|RK K<|aj fun _ L=>WS fun _ M=>rP 1 [] mn ?_
 refine RK M<|ax<|gr 45 2 ?_
 have A:(0≤ts.length+1):=by exact Nat.zero_le _
 refine bL (ι:={z:Nat×(OA)×Nat // (z.1≤ts.length+1)}) [1] [1,2] U U (fun z=>[(3,(vS z.1.2.1 ((ir ts z.1.1).length) z.1.2.2)),(4,(vI (z.1.1:Int)))]) (fun z=>[(own z.1.2.1 z.1.2.2 45 2 ((ir ts z.1.1).map aa.cells))]) (fun _=>rfl) (fun _=>rfl) (fun z=>ts.length+1-z.1.1) ⟨(0,none,0),A⟩ (aU U) (aG [1,2,0]) ?_
 clear A
 rintro ⟨⟨i,a,c⟩,B⟩ J6 AB
 try dsimp only at B
 try dsimp only
 refine aj fun _ N=>WS fun _ O=>rP 5 [] (mc 0 U mn) ?_
 refine RK O<|bS U (aP fun T=>?_) (aQ fun T=>?_)
 ·refine bD<|ab<|ab<|ay<|KK L<|WS fun _ E=>?_
  obtain rfl:i=ts.length+1:=by omega
  refine rP 2 [] mn ?_
  refine RK E<|ar<|LX hQ (a,c) [2] [] mn U U U U ?_
  trivial
 refine WK N<|aj fun _ C=>ax<|WS fun _ D=>fY 2 [] (mc 0 U mn) U<|rS (CL (Aj ts tsA tsC 0 (i:Int) hst hlen I) (bp [1]) U)<|bo 3 U<|AL U dv fun P=>AL U dv fun R=>ti U cy U<|gl U cy U<|RK D<|al<|rP 2 [] (mc 1 U mn) ?_
 refine c_ (xs:=[.tmp 21]) (cs:=(aa.cells (eL ts (0:Int).toNat ((i:Int)-0).toNat))) U g4 dv U U U U (by simp [Value.cells,aa.aS]) U U fun S=>?_
 refine ck (es2:=(List.map aa.cells (ir ts (i+1)))) (m':=(ir ts (i+1)).length) 5 U U U w4 U U sm (aZ (es:=List.map aa.cells [(eL ts (0:Int).toNat ((i:Int)-0).toNat)]) 0 U U (by simp [aa.aS]) U) (ia _) (by simp only [o1]; omega) (by simp only [maxLen,o1]; omega) (by rw [Dx]; simp) sm U fun G H=>?_
 try dsimp only
 refine bo 1 U<|aA<|aH<|KK C<|al<|rP 3 [] mn ?_
 refine aA ?_
 have F:(vI (((i+1):Nat):Int))=(vI ((i:Int)+1)):=by exact cI I
 refine aV (AB ⟨((i+1),G,H),(by first|omega|(simp only []; omega))⟩ _ _ _ U os (dF.cons U<|dF.cons U<|bk U F<|dF.nil _) (aG [3,4,5]))
theorem Su (ts:List ak) (tsA:OA) (tsC:Nat) (s:cN) (hlen:ts.length≤1000000) (hside: ∀ x∈ts,0≤x.jq∧x.jq≤255):
 eB Tryz.prog 133 [(vA (bB.cells (bB.mk (bj.mk tsA ts.length tsC)))),(vA (cN.cells s))] [(rd tsA ts.length 9 (ts.map ak.cells))] (vT [(vA (aa.cells (P0 ts s))),(vI (FC ts s))]):=by
 refine bG kr Tryz.func133 U U fun r Q hQ hN=>?_
 try dsimp only
 refine WS fun _ R=>gd U fun i=>gd U fun k=>AL U dv fun l=>bo 1 U<|RK R<|aj fun _ S=>WS fun _ T=>fY 1 [] (mc 2 U mn) U<|rS (CL (wy ts tsA tsC hlen) (bp [3]) U)<|rP 1 [] mn ?_
 refine RK T<|cP U (fun AB=>?_) (fun AB=>?_)
 ·rw [Bool.not_eq_true'] at AB
  refine WS fun _ AA=>rS (SX (bh (xs:=[]) (cs:=(aa.cells (aa.mk 0 0))) U U (bg gH U)) U U)<|gl U cy U<|rP 1 [] mn ?_
  refine RK AA<|ar<|lP hQ [0] (mc 0 U mn) U ?_
  (have e:=Kk (s:=s) (by simpa using AB); rw [e.1,e.2]<;>rfl)
 rw [Bool.not_eq_false'] at AB
 refine WK S<|aj fun _ V=>WS fun _ W=>?_
 have M:=ki AB
 have Z:=k6 AB
 refine fY 2 [0,1] (mc 2 U (mc 1 U mn)) U<|rS (CL (rr ts tsA tsC s asm asm) (bp [3]) U)<|rP 1 [] mn ?_
 refine RK W<|cP U (bx fun D=>?_) (bw fun D=>?_)
 ·refine WS fun _ O=>rS (SX (bh (xs:=[]) (cs:=(aa.cells (aa.mk 0 0))) U U (bg gH U)) U U)<|gl U cy U<|rP 1 [] mn ?_
  refine RK O<|ar<|lP hQ [0] (mc 0 U mn) U ?_
  (have e:=ME AB D; rw [e.1,e.2]<;>rfl)
 refine WK V<|aj fun _ H=>oJ cx [0,2,3] [1,4,5,6,7] [false,false,false] [] [(cd l 45 (aa.cells (aa.mk 0 0))),(cd k 158 (cN.cells s)),(cd i 24 (bB.cells (bB.mk (bj.mk tsA ts.length tsC)))),(rd tsA ts.length 9 (ts.map ak.cells)).ro] [] kr (aG [0,1,2,3]) (aG []) ?_
 have q:=D.1
 have N:=qT M D
 have p:(ir ts (ts.length+1)).length=ts.length+1:=o1
 refine eS U (LW 2 U cj U U)<|eS U (FA 0 U fw U)<|eS U (L1 (vI s.bf) 1 U cj U U)<|eT U<|iE [1,6] kr (ej ?_<|ej ?_<|j5)
 rotate_left 1
 ·refine NO U U [1,4,5,7] fun T12 J=>AL U dv fun f=>RD J 1 U<|N1 1<|NO U U [4,5,7] fun T14 P=>cX (Ct ts tsA tsC asm asm) (bp [4]) U fun Y b=>?_
  obtain ⟨d,o⟩:=Y
  try dsimp only
  refine RD P 2 U<|N1 4<|NO U U [5,7] fun T19 E=>?_
  obtain ⟨z,hz⟩:=aJ (ir ts (ts.length+1)) ((s.bf).toNat) I
  have A:=bO aa.cells hz
  refine rS (IA ((s.bf).toNat) U (ag (n:=(ir ts (ts.length+1)).length) 0 U sm) g4 dc I I)<|RD E 2 U<|N1 5<|NO U U [7] fun T20 F=>rS (oY ((s.bf).toNat) 0 (aa.cells z) U cj (ag (n:=(ir ts (ts.length+1)).length) 0 U sm) A U dc U U)<|RD F 2 U<|N1 7<|NO U U [] fun T21 C=>ti U cy U<|RD C 2 U<|nW<|KK H<|WS fun _ B=>rP 1 [] mn ?_
  have A:=p7 hz
  have G:=mx M 0 s.bf.toNat
  unfold lO at N
  rw [← A] at G
  refine fY 11 [0,1,0,1] (mc 1 U (mc 3 U mn)) U<|rS (SX (bh (xs:=[(0,.tmp 27),(1,.tmp 33)]) (cs:=(aa.cells (aa.mk (z.Lo+s.mS.Lo) (z.Hi+s.mS.Hi)))) U U (bg gH U)) U U)<|Ga U cy U<|rP 1 [] mn ?_
  refine RK B<|ar<|lP hQ [0] (mc 2 U mn) U ?_
  (have e:=yh AB D; subst A; rw [e.1,e.2]<;>rfl)
 refine NO U U [4,5,6,7] fun T12 J=>cX (Ct ts tsA tsC asm asm) (bp [3]) U fun X a=>?_
 obtain ⟨c,m⟩:=X
 try dsimp only
 refine RD J 1 U<|iE [4,6] kr (ej ?_<|ej ?_<|j5)
 rotate_left 1
 ·refine NO U U [4,5,7] fun T17 K=>AL U dv fun g=>RD K 2 U<|N1 4<|NO U U [5,7] fun T19 E=>?_
  obtain ⟨z,hz⟩:=aJ (ir ts (ts.length+1)) ((s.bf).toNat) I
  have A:=bO aa.cells hz
  refine rS (IA ((s.bf).toNat) U (ag (n:=(ir ts (ts.length+1)).length) 1 U sm) g4 dc I I)<|RD E 2 U<|N1 5<|NO U U [7] fun T20 F=>rS (oY ((s.bf).toNat) 0 (aa.cells z) U cj (ag (n:=(ir ts (ts.length+1)).length) 1 U sm) A U dc U U)<|RD F 2 U<|N1 7<|NO U U [] fun T21 C=>gl U cy U<|RD C 2 U<|nW<|KK H<|WS fun _ B=>rP 1 [] mn ?_
  have A:=p7 hz
  have G:=mx M 0 s.bf.toNat
  unfold lO at N
  rw [← A] at G
  refine fY 11 [0,1,0,1] (mc 0 U (mc 3 U mn)) U<|rS (SX (bh (xs:=[(0,.tmp 27),(1,.tmp 33)]) (cs:=(aa.cells (aa.mk (z.Lo+s.mS.Lo) (z.Hi+s.mS.Hi)))) U U (bg gH U)) U U)<|Ga U cy U<|rP 1 [] mn ?_
  refine RK B<|ar<|lP hQ [0] (mc 2 U mn) U ?_
  (have e:=yh AB D; subst A; rw [e.1,e.2]<;>rfl)
 refine NO U U [5,6,7] fun T17 K=>?_
 obtain ⟨z,hz⟩:=aJ (ir ts (ts.length+1)) ((s.bf).toNat) I
 have A:=bO aa.cells hz
 refine rS (IA ((s.bf).toNat) U (ag (n:=(ir ts (ts.length+1)).length) 0 U sm) g4 dc I I)<|RD K 1 U<|iE [5,6] kr (ej ?_<|ej ?_<|j5)
 rotate_left 1
 ·refine NO U U [5,7] fun T18 L=>AL U dv fun h=>RD L 2 U<|N1 5<|NO U U [7] fun T20 F=>rS (oY ((s.bf).toNat) 0 (aa.cells z) U cj (ag (n:=(ir ts (ts.length+1)).length) 1 U sm) A U dc U U)<|RD F 2 U<|N1 7<|NO U U [] fun T21 C=>gl U cy U<|RD C 2 U<|nW<|KK H<|WS fun _ B=>rP 1 [] mn ?_
  have A:=p7 hz
  have G:=mx M 0 s.bf.toNat
  unfold lO at N
  rw [← A] at G
  refine fY 11 [0,1,0,1] (mc 0 U (mc 3 U mn)) U<|rS (SX (bh (xs:=[(0,.tmp 27),(1,.tmp 33)]) (cs:=(aa.cells (aa.mk (z.Lo+s.mS.Lo) (z.Hi+s.mS.Hi)))) U U (bg gH U)) U U)<|Ga U cy U<|rP 1 [] mn ?_
  refine RK B<|ar<|lP hQ [0] (mc 2 U mn) U ?_
  (have e:=yh AB D; subst A; rw [e.1,e.2]<;>rfl)
 refine NO U U [6,7] fun T18 L=>rS (oY ((s.bf).toNat) 0 (aa.cells z) U cj (ag (n:=(ir ts (ts.length+1)).length) 0 U sm) A U dc U U)<|RD L 1 U<|N1 6<|NO U U [7] fun T19 E=>AL U dv fun j=>RD E 2 U<|N1 7<|NO U U [] fun T21 C=>gl U cy U<|RD C 2 U<|nW<|KK H<|WS fun _ B=>rP 1 [] mn ?_
 have A:=p7 hz
 have G:=mx M 0 s.bf.toNat
 unfold lO at N
 rw [← A] at G
 refine fY 11 [0,1,0,1] (mc 0 U (mc 3 U mn)) U<|rS (SX (bh (xs:=[(0,.tmp 27),(1,.tmp 33)]) (cs:=(aa.cells (aa.mk (z.Lo+s.mS.Lo) (z.Hi+s.mS.Hi)))) U U (bg gH U)) U U)<|Ga U cy U<|rP 1 [] mn ?_
 refine RK B<|ar<|lP hQ [0] (mc 2 U mn) U ?_
 (have e:=yh AB D; subst A; rw [e.1,e.2]<;>rfl)
theorem Ij (ts:List ak) (tsA:OA) (tsC:Nat) (p:cN) (q:cN) (hlen:ts.length≤1000000) (hside: ∀ x∈ts,0≤x.jq∧x.jq≤255) (hord: ¬ q.bf<p.bf):
 eB Tryz.prog 134 [(vA (bB.cells (bB.mk (bj.mk tsA ts.length tsC)))),(vA (cN.cells p)),(vA (cN.cells q))] [(rd tsA ts.length 9 (ts.map ak.cells))] (vT [(vA (aa.cells (kY ts p q))),(vI (lU ts p q))]):=by
 refine bG kr Tryz.func134 U U fun k Q hQ hN=>?_
 try dsimp only
 refine WS fun _ N=>gd U fun f=>gd U fun g=>gd U fun i=>AL U dv fun j=>bo 1 U<|RK N<|aj fun _ O=>WS fun _ P=>fY 1 [] (mc 3 U mn) U<|rS (CL (wy ts tsA tsC hlen) (bp [4]) U)<|rP 1 [] mn ?_
 refine RK P<|cP U (fun A=>?_) (fun A=>?_)
 ·rw [Bool.not_eq_true'] at A
  refine WS fun _ R=>rS (SX (bh (xs:=[]) (cs:=(aa.cells (aa.mk 0 0))) U U (bg gH U)) U U)<|gl U cy U<|rP 1 [] mn ?_
  refine RK R<|ar<|lP hQ [0] (mc 0 U mn) U ?_
  (have e:=vd (a:=p) (b:=q) (by simpa using A); rw [e.1,e.2]<;>rfl)
 rw [Bool.not_eq_false'] at A
 refine WK O<|aj fun _ S=>WS fun _ E=>?_
 have D:=ki A
 have M:=k6 A
 refine fY 2 [0,1] (mc 3 U (mc 2 U mn)) U<|rS (CL (rr ts tsA tsC p asm asm) (bp [4]) U)<|rP 2 [] mn ?_
 refine dp (t:=20) U (bx fun B=>?_) (bw fun B=>?_)
 ·refine bo 5 U<|RK E<|aR U<|WS fun _ G=>rS (SX (bh (xs:=[]) (cs:=(aa.cells (aa.mk 0 0))) U U (bg gH U)) U U)<|gl U cy U<|rP 1 [] mn ?_
  refine RK G<|ar<|lP hQ [0] (mc 0 U mn) U ?_
  (have e:=o9 (a:=p) (b:=q) A (fun h=>by first|exact B h.1|exact C h.2); rw [e.1,e.2]<;>rfl)
 refine fY 2 [0,1] (mc 3 U (mc 1 U mn)) U<|rS (CL (rr ts tsA tsC q asm asm) (bp [4]) U)<|rP 2 [] mn ?_
 refine RK E<|cP U (bx fun C=>?_) (bw fun C=>?_)
 ·refine WS fun _ H=>rS (SX (bh (xs:=[]) (cs:=(aa.cells (aa.mk 0 0))) U U (bg gH U)) U U)<|gl U cy U<|rP 1 [] mn ?_
  refine RK H<|ar<|lP hQ [0] (mc 0 U mn) U ?_
  (have e:=o9 (a:=p) (b:=q) A (fun h=>by first|exact B h.1|exact C h.2); rw [e.1,e.2]<;>rfl)
 refine WK S<|aj fun _ AB=>WS fun _ J=>?_
 have AA:fG ts p∧fG ts q:=⟨B,C⟩
 have T:=qT D B
 have V:=qT D C
 have c:=B.1
 have d:=C.1
 have Y:=xZ D M C B
 unfold lO at T V
 refine rP 5 [0,1] (mc 1 U (mc 2 U mn)) ?_
 refine RK J<|cP U (aQ fun F=>?_) (aP fun F=>?_)
 ·exfalso; omega
 refine WK AB<|WS fun _ K=>rP 2 [] (mc 3 U mn) ?_
 have Z:=mx D p.bf.toNat (q.bf-p.bf).toNat
 refine fY 3 [0,1] (mc 2 U (mc 1 U mn)) U<|rS (CL (Aj ts tsA tsC p.bf q.bf asm asm I) (bp [4]) U)<|bo 3 U<|AL U dv fun W=>AL U dv fun X=>ti U cy U<|gl U cy U<|RK K<|WS fun _ L=>fY 20 [0,1,2,0,1,2] (mc 1 U (mc 3 U (mc 4 U mn))) U<|rS (SX (bh (xs:=[(0,.tmp 64),(1,.tmp 74)]) (cs:=(aa.cells (aa.mk ((((eL ts p.bf.toNat (q.bf-p.bf).toNat).Lo)+q.mS.Lo)-p.mS.Hi) ((((eL ts p.bf.toNat (q.bf-p.bf).toNat).Hi)+q.mS.Hi)-p.mS.Lo)))) U U (bg gH U)) U U)<|Ga U cy U<|rP 1 [] mn ?_
 refine RK L<|ar<|lP hQ [0] (mc 2 U mn) U ?_
 (have e:=lG A AA; rw [e.1,e.2,qV F]<;>rfl)
theorem Jo (ts:List ak) (tsA:OA) (tsC:Nat) (p:cN) (q:cN) (hlen:ts.length≤1000000) (hside: ∀ x∈ts,0≤x.jq∧x.jq≤255):
 eB Tryz.prog 134 [(vA (bB.cells (bB.mk (bj.mk tsA ts.length tsC)))),(vA (cN.cells p)),(vA (cN.cells q))] [(rd tsA ts.length 9 (ts.map ak.cells))] (vT [(vA (aa.cells (kY ts p q))),(vI (lU ts p q))]):=by
 refine bG kr Tryz.func134 U U fun u Q hQ hN=>?_
 try dsimp only
 refine WS fun _ S=>gd U fun n=>gd U fun o=>gd U fun r=>AL U dv fun s=>bo 1 U<|RK S<|aj fun _ T=>WS fun _ AA=>fY 1 [] (mc 3 U mn) U<|rS (CL (wy ts tsA tsC hlen) (bp [4]) U)<|rP 1 [] mn ?_
 refine RK AA<|cP U (fun A=>?_) (fun A=>?_)
 ·rw [Bool.not_eq_true'] at A
  refine WS fun _ V=>rS (SX (bh (xs:=[]) (cs:=(aa.cells (aa.mk 0 0))) U U (bg gH U)) U U)<|gl U cy U<|rP 1 [] mn ?_
  refine RK V<|ar<|lP hQ [0] (mc 0 U mn) U ?_
  (have e:=vd (a:=p) (b:=q) (by simpa using A); rw [e.1,e.2]<;>rfl)
 rw [Bool.not_eq_false'] at A
 refine WK T<|aj fun _ W=>WS fun _ E=>?_
 have D:=ki A
 have P:=k6 A
 refine fY 2 [0,1] (mc 3 U (mc 2 U mn)) U<|rS (CL (rr ts tsA tsC p asm asm) (bp [4]) U)<|rP 2 [] mn ?_
 refine dp (t:=20) U (bx fun B=>?_) (bw fun B=>?_)
 ·refine bo 5 U<|RK E<|aR U<|WS fun _ G=>rS (SX (bh (xs:=[]) (cs:=(aa.cells (aa.mk 0 0))) U U (bg gH U)) U U)<|gl U cy U<|rP 1 [] mn ?_
  refine RK G<|ar<|lP hQ [0] (mc 0 U mn) U ?_
  (have e:=o9 (a:=p) (b:=q) A (fun h=>by first|exact B h.1|exact C h.2); rw [e.1,e.2]<;>rfl)
 refine fY 2 [0,1] (mc 3 U (mc 1 U mn)) U<|rS (CL (rr ts tsA tsC q asm asm) (bp [4]) U)<|rP 2 [] mn ?_
 refine RK E<|cP U (bx fun C=>?_) (bw fun C=>?_)
 ·refine WS fun _ H=>rS (SX (bh (xs:=[]) (cs:=(aa.cells (aa.mk 0 0))) U U (bg gH U)) U U)<|gl U cy U<|rP 1 [] mn ?_
  refine RK H<|ar<|lP hQ [0] (mc 0 U mn) U ?_
  (have e:=o9 (a:=p) (b:=q) A (fun h=>by first|exact B h.1|exact C h.2); rw [e.1,e.2]<;>rfl)
 refine WK W<|aj fun _ AB=>WS fun _ J=>?_
 have R:fG ts p∧fG ts q:=⟨B,C⟩
 have X:=qT D B
 have Y:=qT D C
 have l:=B.1
 have m:=C.1
 have j:=xZ D P C B
 unfold lO at X Y
 refine rP 5 [0,1] (mc 1 U (mc 2 U mn)) ?_
 refine RK J<|cP U (aQ fun F=>?_) (aP fun F=>?_)
 ·refine WS fun _ K=>fY 3 [0,1,2] (mc 3 U (mc 1 U (mc 2 U mn))) U<|rS (CL (Ij ts tsA tsC q p hlen hside I) (bp [4]) U)<|bo 3 U<|AL U dv fun d=>gl U cy U<|bo 1 U<|RK K<|WS fun _ L=>rP 2 [] (mc 0 U mn) ?_
  have O:kY ts q p=j6 ts q p:=(lG A ⟨C,B⟩).2
  have Z: -400000≤(kY ts q p).Lo∧(kY ts q p).Hi≤400000:=by rw [O]; omega
  have c:(kY ts q p).Lo≤(kY ts q p).Hi:=by rw [O]; omega
  refine rS (NG U ⟨I,I⟩)<|fY 2 [] (mc 0 U mn) U<|rS (NG U ⟨I,I⟩)<|rS (SX (bh (xs:=[(0,.tmp 41),(1,.tmp 44)]) (cs:=(aa.cells (aa.mk (-((kY ts q p).Hi)) (-((kY ts q p).Lo))))) U U (bg gH U)) U U)<|ti U cy U<|rP 1 [] mn ?_
  refine RK L<|ar<|lP hQ [0] (mc 1 U mn) U ?_
  (have e:=lG A R; have i:=lG A ⟨C,B⟩; rw [e.1,e.2,i.2,Em F]<;>rfl)
 refine WK AB<|WS fun _ M=>rP 2 [] (mc 3 U mn) ?_
 have k:=mx D p.bf.toNat (q.bf-p.bf).toNat
 refine fY 3 [0,1] (mc 2 U (mc 1 U mn)) U<|rS (CL (Aj ts tsA tsC p.bf q.bf asm asm I) (bp [4]) U)<|bo 3 U<|AL U dv fun f=>AL U dv fun g=>ti U cy U<|gl U cy U<|RK M<|WS fun _ N=>fY 20 [0,1,2,0,1,2] (mc 1 U (mc 3 U (mc 4 U mn))) U<|rS (SX (bh (xs:=[(0,.tmp 64),(1,.tmp 74)]) (cs:=(aa.cells (aa.mk ((((eL ts p.bf.toNat (q.bf-p.bf).toNat).Lo)+q.mS.Lo)-p.mS.Hi) ((((eL ts p.bf.toNat (q.bf-p.bf).toNat).Hi)+q.mS.Hi)-p.mS.Lo)))) U U (bg gH U)) U U)<|Ga U cy U<|rP 1 [] mn ?_
 refine RK N<|ar<|lP hQ [0] (mc 2 U mn) U ?_
 (have e:=lG A R; rw [e.1,e.2,qV F]<;>rfl)
end
end Go.Proofs.YtlajhejcfcoddaaGreatDoor
