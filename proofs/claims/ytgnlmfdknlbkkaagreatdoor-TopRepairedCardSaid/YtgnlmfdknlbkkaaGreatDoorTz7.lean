/-
 The statement topRepaired_said, part 7 of 9: Rt1, Rt2, Rr1, B11, WLe, Ends5, Can, Sim, Told, Clear, Ways, WayM, B7, B8, B9, R1, Y1, Y2, Y3, Y5, Rx5, Rx1, Rx8, Rx9, Rx10, Rx11, RkS, RaS, RtS, Rx12.
 Conditions: none.
-/
import Derived.Test.YtgnlmfdknlbkkaaGreatDoorTz1
import Derived.Test.YtgnlmfdknlbkkaaGreatDoorTz2
import Derived.Test.YtgnlmfdknlbkkaaGreatDoorTz3
import Derived.Test.YtgnlmfdknlbkkaaGreatDoorTz4
import Derived.Test.YtgnlmfdknlbkkaaGreatDoorTz5
import Derived.Test.YtgnlmfdknlbkkaaGreatDoorTz6
open List (append_assoc map range replicate zipWith)
namespace Go.Proofs.YtgnlmfdknlbkkaaGreatDoor
set_option maxRecDepth 100000
set_option maxHeartbeats 4000000
set_option linter.unusedVariables false
variable {k b d j:Nat} {sg:List aZ} {i s t x f e:Int} {y:dN} {p:aI×Int} {q o:Int×aa} {l:a_} {r:cW} {rs fs:List Int} {z h:aa} {ws R W:List dN} {fd:Bool} {bz hz:List l9} {C X LA:List ar} {L:dH} {S:BS} {w0 w:World} {A:ar} {K:Act→World→Prop} {ra fa:RA} {E:fM} {D:iF}
abbrev ACN:= @List.all_append
section
open Go.RowKit
theorem Jq (i:Int) (r:cN) (kA:OA) (kC:Nat) (az:List RA) (cA:OA) (cC:Nat) (bA:OA) (bC:Nat) (slA:OA) (slC:Nat) (drA:OA) (drC:Nat) (ha:List cq) (heA:OA) (heC:Nat) (hin:gI r az ha):
 lf Tryz.prog 13 [(vA (cf.cells (pP r kA kC cA cC bA bC slA slC drA drC heA heC))),(vI i)] ((rd ig 3 2 fY)::(Dp r kA az cA bA slA drA ha heA)) (fun (x:(OA)×Nat)=>(vT [(vS x.1 ((ks r i).length) x.2),(vI (oF r i))])) (fun (x:(OA)×Nat)=>True) (fun (x:(OA)×Nat)=>[(fB x.1 x.2 (ks r i))]):=by
 have N:=hin.line;have c:=hin.hE;have d:=hin.has;have AA:=hin.hO;have R:=hin.draw;have V:=fJ (r:=r);refine cR kr Tryz.func13 U U fun g Q hQ hN=>?_
 try dsimp only
 refine aS bS 2 U<|dV U fun f=>cm aj 8 [] (mc 0 U mn) ?_;refine dC (xs:=[.tmp 11]) (cs:=[(vI i)]) U cM jW U U U U (by simp [Value.cells]) U U fun a=>cX (Cq r kA kC az cA cC bA bC slA slC drA drC ha heA heC i a hin) (aP [2,3,4,5,6,7,8,9,10,0]) U fun e F=>?_;obtain ⟨G,b,M,L,H,AB,Z,X,Y⟩:=e;cases G
 ·obtain ⟨B,he⟩:=F.2 rfl
  try dsimp only at B he
  subst B
  try dsimp only [cond_true,cond_false,List.cons_append,List.nil_append]
  refine aq aj 16 ?_;refine bE U (aK fun A=>?_) (aJ fun A=>?_)
  ·exact absurd A he
  refine aq aW 2 ?_;refine fT 3 1 ?_;rw [show (own none 0 3 1 ([]:List (List Value)))=own none 0 3 1 ((ks r i).map iC) from by rw [Cu he];rfl];refine aq aj 6 ?_;refine LX hQ (none,0) [0] [] mn U U U ?_ ?_
  ·(rw [Cu he];rfl)
  ·trivial
 obtain ⟨he,O⟩:=F.1 rfl
 try dsimp only [cond_true,cond_false,List.cons_append,List.nil_append]
 try dsimp only at O
 obtain ⟨D,S,C⟩:=B8 he;have E:=yp D;have T:=tv D;refine aS aj 13 U<|rS (SX (ck (r:= .bool false) U U U nm) U U)<|aq aj 9 ?_;refine cX (DY r kA kC cA cC bA bC slA slC drA drC heA heC H ((dL r).length) AB L M (bI r) i (by exact E) (by exact C) I) (aP [0,3]) U fun P W=>?_;obtain ⟨J,K⟩:=P
 try dsimp only
 rw [show (e9 (bI r) i (cd (bI r) i))=ks r i from (Kz he).symm];refine aq aj 5 ?_;refine LX hQ (J,K) [0] [] mn U U U ?_ ?_
 ·(rw [he];rfl)
 ·trivial
end
section
open Go.RowKit
variable (i:Int) (r:cN) (kA:OA) (kC:Nat) (az:List RA) (cA:OA) (cC:Nat) (bA:OA) (bC:Nat) (slA:OA) (slC:Nat) (drA:OA) (drC:Nat) (ha:List cq) (heA:OA) (heC:Nat)
theorem IZ (hin:gI r az ha):
 de Tryz.prog 15 [(vA (cf.cells (pP r kA kC cA cC bA bC slA slC drA drC heA heC))),(vI i)] ((rd ig 3 2 fY)::(Dp r kA az cA bA slA drA ha heA)) (vT [(vA (aa.cells (yX r i))),(vI (oF r i))]):=by
 have F:=hin.line;have Y:=hin.hE;have Z:=hin.has;have N:=hin.hO;have AB:=hin.draw;have O:=fJ (r:=r);refine bg kr Tryz.func15 U U fun d Q hQ hN=>?_
 try dsimp only
 refine aS bS 2 U<|dV U fun b=>AL U dA fun c=>cm aj 7 [] (mc 1 U mn) ?_;refine dC (xs:=[.tmp 11]) (cs:=[(vI i)]) U cM jW U U U U (by simp [Value.cells]) U U fun V=>cX (Cq r kA kC az cA cC bA bC slA slC drA drC ha heA heC i V hin) (aP [3,4,5,6,7,8,9,10,11,0]) U fun a D=>?_;obtain ⟨E,W,X,H,S,T,AA,P,R⟩:=a;cases E
 ·obtain ⟨B,he⟩:=D.2 rfl
  try dsimp only at B he
  subst B
  try dsimp only [cond_true,cond_false,List.cons_append,List.nil_append]
  refine aq aj 16 ?_;refine bE U (aK fun A=>?_) (aJ fun A=>?_)
  ·exact absurd A he
  refine aS aW 2 U<|rS (SX (aU (xs:=[]) (cs:=(aa.cells (aa.mk 0 0))) U U (aT gP U)) U U)<|aS aj 1 U<|o8 U cJ U<|aq aj 4 ?_;refine mU hQ [0] (mc 1 U mn) U ?_
  first|(rw [show yX r i=gO from c1 he];rfl)|(rw [he,show yX r i=cd _ _ from c0 he];done)
 obtain ⟨he,G⟩:=D.1 rfl
 try dsimp only [cond_true,cond_false,List.cons_append,List.nil_append]
 try dsimp only at G
 obtain ⟨C,J,K⟩:=B8 he;have L:=yp C;have M:=tv C;refine aS aj 13 U<|rS (SX (ck (r:= .bool false) U U U nm) U U)<|aq aj 8 ?_;refine rS (IA 0 U (ak (n:=1) 4 U sq) iA dc U I) ?_;refine rS (ld 0 0 (aa.cells (cd (bI r) i)) U bP (ak (n:=([(cd (bI r) i)]).length) 4 U sm) (show ([(cd (bI r) i)].map aa.cells)[0]? =some [(vI ((cd (bI r) i).Lo)),(vI ((cd (bI r) i).Hi))] from U) U dc U U)<|Zn U cJ U<|aq aj 4 ?_;refine mU hQ [0] (mc 6 U mn) U ?_
 first|(rw [show yX r i=gO from c1 he];rfl)|(rw [he,show yX r i=cd _ _ from c0 he];done)
theorem F4 (hin:gI r az ha):
 de Tryz.prog 31 [(vA (cf.cells (pP r kA kC cA cC bA bC slA slC drA drC heA heC)))] ((rd ig 3 2 fY)::(Dp r kA az cA bA slA drA ha heA)) (vI (eK r)):=by
 have D:=hin.line;have M:=hin.hE;have N:=hin.has;have F:=hin.hO;have E:=hin.draw;have G:=fJ (r:=r);refine bg kr Tryz.func31 U U fun T Q hQ hN=>?_
 try dsimp only
 refine aS bS 2 U<|dV U fun S=>cm aj 6 [] (mc 0 U mn) ?_;refine cX (uL r kA kC az cA cC bA bC slA slC drA drC ha heA heC hin) (aP [1,2,3,4,5,6,7,8,9]) U fun R B=>?_;obtain ⟨C,J,L,K,P,H,AA⟩:=R;cases C;rotate_left 1
 ·obtain ⟨he,O⟩:=B.1 rfl
  try dsimp only [cond_true,cond_false,List.cons_append,List.nil_append]
  refine cr aj 14 hQ U U ?_
  first|rfl|(rw [he])
 obtain ⟨A,he⟩:=B.2 rfl
 try dsimp only at A he
 subst A
 try dsimp only [cond_true,cond_false,List.cons_append,List.nil_append]
 refine cr aj 14 hQ U U ?_
 first|rfl|(rw [he])
end
section
open Go.RowKit
theorem qU (n lo hi:Int):
 de Tryz.prog 153 [(vI n),(vI lo),(vI hi)] [] (vB (decide (lo≤n∧n≤hi))):=by
 refine bg kr Tryz.func153 U U fun B Q hQ hN=>?_
 try dsimp only
 refine aq bS 11 ?_;refine bJ (t:=10) U (aH fun A=>?_) (aG fun A=>?_)
 ·exact cr aj 8 hQ U U<|cB (iw.2 I)
 exact cr aj 8 hQ U U<|cB (bj I).symm
theorem JV (r:cW) (sgA:OA) (sgC:Nat):
 de Tryz.prog 202 [(vA (dx.cells (jR r sgA sgC)))] [(gR sgA r.ab)] (vB (decide (oh r))):=by
 refine bg kr Tryz.func202 U U fun D Q hQ hN=>?_
 try dsimp only
 refine aS bS 2 U<|dV U fun C=>cm aj 9 [] (mc 0 U mn) ?_;refine cz (t:=6) U (aG fun A=>?_) (aH fun A=>?_)
 ·refine cr aj 14 hQ U U ?_;simp only [oh];exact cB (bj I).symm
 refine cm aj 5 [] (mc 0 U mn) ?_;refine cz (t:=11) U (aG fun B=>?_) (aH fun B=>?_)
 ·refine cr aj 9 hQ U U ?_;simp only [oh];exact cB (bj I).symm
 refine yY aj 9 hQ [] (mc 0 U mn) U U ?_;simp only [oh];exact cB (iw.2 I)
theorem DB (s:aa):
 de Tryz.prog 10 [(vA (aa.cells s))] [] (vB (decide (iv s))):=by
 refine bg kr Tryz.func10 U U fun D Q hQ hN=>?_
 try dsimp only
 refine aS bS 2 U<|dV U fun C=>cm aj 9 [] (mc 0 U mn) ?_;refine cz (t:=6) U (aG fun A=>?_) (aH fun A=>?_)
 ·refine cr aj 15 hQ U U ?_;simp only [iv];exact cB (bj I).symm
 refine cm aj 7 [] (mc 0 U mn) ?_;refine cz (t:=13) U (aG fun B=>?_) (aH fun B=>?_)
 ·refine cr aj 8 hQ U U ?_;simp only [iv];exact cB (bj I).symm
 refine yY aj 8 hQ [] (mc 0 U mn) U U ?_;simp only [iv];exact cB (iw.2 I)
theorem tx (la:List Int) (laA:OA) (laC:Nat) (lb:List Int) (lbA:OA) (lbC:Nat) (h1:la.length≤1000000) (h2:lb.length≤1000000):
 de Tryz.prog 39 [(vS laA la.length laC),(vS lbA lb.length lbC)] [(eE laA la),(eE lbA lb)] (vB (decide (la=lb))):=by
 refine bg kr Tryz.func39 U U fun AA Q hQ hN=>?_
 try dsimp only
 refine aq bS 15 ?_;refine bY U (aJ fun hl=>?_) (aK fun hl=>?_)
 ·exact cr aW 6 hQ rfl rfl<|cB (bj (fun e=>by subst e;omega)).symm
 refine aq aW 9 ?_;have A:(0≤la.length)∧(la.take 0=lb.take 0):=by simp
 refine bu (ι:={z:Nat // (z≤la.length)∧(la.take z=lb.take z)}) [0,1] [0,1] U U (fun z=>[(5,(vI (z.1:Int)))]) (fun z=>[]) (fun _=>rfl) (fun _=>rfl) (fun z=>la.length-z.1) ⟨0,A⟩ (aN U) (aB [0,1]) ?_;clear A;rintro ⟨i,⟨F,B⟩⟩ J7 E
 try dsimp only
 refine aq bS 9 ?_;refine bE U (aG fun D=>?_) (aH fun D=>?_)
 ·exact aS aW 1 U<|cr fD 8 hQ U U<|cB (cT (iH I B I)).symm
 refine aS aW 5 U<|cK bX 9 kr<|dP 2 [] mn ?_;obtain ⟨x,hx⟩:=ax la i I;have G:=bw iC hx;refine dS (IA i U (au 0 U) cM dc I I)<|dS (gG i 0 (vI x) U bP (au 0 U) G U dc U)<|dP 2 [] mn ?_;obtain ⟨y,hy⟩:=ax lb i I;have H:=bw iC hy;refine dS (IA i U (au 1 U) cM dc I I)<|dS (gG i 0 (vI y) U bP (au 1 U) H U dc U)<|iR 1 U<|cy<|aq aj 2 ?_;refine bY U (aJ fun h=>?_) (aK fun h=>?_)
 ·exact cr aW 6 hQ U U<|cB (bj (kg hx hy h)).symm
 refine aq aW 8 ?_;have C:(vI (((i+1):Nat):Int))=(vI ((i:Int)+1)):=by exact cI I
 refine aL (E ⟨(i+1),⟨I,iS B hx hy h⟩⟩ _ _ _ U os (cS.cons U<|cS.cons U<|aQ U C<|cS.nil _) (aB [0,1]))
end
section
open Go.RowKit
theorem Re (l:a_) (kA:OA) (kC:Nat) (az:List RA) (cA:OA) (cC:Nat) (bA:OA) (bC:Nat) (m:a_) (k2A:OA) (k2C:Nat) (az2:List RA) (c2A:OA) (c2C:Nat) (b2A:OA) (b2C:Nat) (hin:dW l az) (hin2:dW m az2) (hsm: ¬ nH l) (hsm2: ¬ nH m):
 de Tryz.prog 38 [(vA (bU.cells (kN l kA kC cA cC bA bC))),(vA (bU.cells (bU.mk (aY.mk (aV.mk k2A m.bW.length k2C)) m.g7 (aV.mk c2A m.aD.length c2C) (aV.mk b2A m.ag.length b2C) m.b_ m.e_ m.di)))] ((rE l kA az cA bA)++[(gQ k2A m.bW),(pb c2A m.aD az2),(iX (bx aX.lG m.aD az2)),(oG b2A m.ag)]) (vB (decide (l=m))):=by
 have B3:=hin.sS;have By:=hin.sT;have A9:=hin.mD;have Bx:=hin.sU;have A6:=hin2.sS;have A5:=hin2.sT;have A3:=hin2.mD;have A4:=hin2.sU;have b:=AS hsm;have T:=AS hsm2;refine bg kr Tryz.func38 U U fun w0 Q hQ hN=>?_
 try dsimp only
 refine aS bS 2 U<|dV U fun b2=>dV U fun b3=>aS aj 7 U<|rS (LP (aY.cells (aY.mk (aV.mk kA l.bW.length kC))) 1 U bP U U U)<|aS aj 1 U<|rS (LP (aY.cells (aY.mk (aV.mk k2A m.bW.length k2C))) 0 U bP U U U)<|rS (CL (Wi l.bW kA kC m.bW k2A k2C asm asm) (aP [2,6]) U)<|aq aj 2 ?_;refine bJ (t:=16) U (aJ fun D=>?_) (aK fun D=>?_)
 ·exact cr aj 54 hQ rfl rfl<|cB (bj (fun e=>by subst e;first|exact D rfl|omega)).symm
 refine cm aj 7 [0,1] (mc 1 U (mc 0 U mn)) ?_;refine bJ (t:=23) U (aJ fun h=>?_) (aK fun h=>?_)
 ·exact cr aj 47 hQ rfl rfl<|cB (bj (fun e=>by subst e;first|exact D rfl|omega)).symm
 refine cm aj 7 [0,1] (mc 1 U (mc 0 U mn)) ?_;refine bJ (t:=30) U (aJ fun j=>?_) (aK fun j=>?_)
 ·exact cr aj 40 hQ rfl rfl<|cB (bj (fun e=>by subst e;first|exact D rfl|omega)).symm
 refine cm aj 7 [0,1] (mc 1 U (mc 0 U mn)) ?_;refine bJ (t:=37) U (aJ fun o=>?_) (aK fun o=>?_)
 ·exact cr aj 33 hQ rfl rfl<|cB (bj (fun e=>by subst e;first|exact D rfl|omega)).symm
 refine cm aj 7 [0,1] (mc 1 U (mc 0 U mn)) ?_;refine bJ (t:=44) U (aJ fun r=>?_) (aK fun r=>?_)
 ·exact cr aj 26 hQ rfl rfl<|cB (bj (fun e=>by subst e;first|exact D rfl|omega)).symm
 refine cm aj 9 [0,1] (mc 1 U (mc 0 U mn)) ?_;refine bJ (t:=53) U (aJ fun v=>?_) (aK fun v=>?_)
 ·exact cr aj 17 hQ rfl rfl<|cB (bj (fun e=>by subst e;first|exact D rfl|omega)).symm
 refine cm aj 10 [0,1] (mc 1 U (mc 0 U mn)) ?_;refine bY U (aJ fun w=>?_) (aK fun w=>?_)
 ·exact cr aW 6 hQ rfl rfl<|cB (bj (fun e=>by subst e;first|exact D rfl|omega)).symm
 refine aq aW 9 ?_;have A:(0≤l.aD.length)∧(l.aD.take 0=m.aD.take 0):=by simp
 refine bu (ι:={z:Nat // (z≤l.aD.length)∧(l.aD.take z=m.aD.take z)}) [2,3] [0,1,2,3,4,5,6,7,8,9] U U (fun z=>[(5,(vI (z.1:Int)))]) (fun z=>[]) (fun _=>rfl) (fun _=>rfl) (fun z=>l.aD.length-z.1) ⟨0,A⟩ (aN U) (aB [0,1,2,3,4,5,6,7,8,9]) ?_;clear A;rintro ⟨i,⟨AC,E⟩⟩ J15 S
 try dsimp only
 refine cm bS 10 [] (mc 1 U mn) ?_;refine bE U (aG fun g=>?_) (aH fun g=>?_)
 ·refine aS aW 1 U<|aq fD 9 ?_;have A:(0≤l.ag.length)∧(l.ag.take 0=m.ag.take 0):=by simp
  refine bu (ι:={z:Nat // (z≤l.ag.length)∧(l.ag.take z=m.ag.take z)}) [2,3] [0,1,2,3,4,5,6,7,8,9] U U (fun z=>[(9,(vI (z.1:Int)))]) (fun z=>[]) (fun _=>rfl) (fun _=>rfl) (fun z=>l.ag.length-z.1) ⟨0,A⟩ (aN U) (aB [0,1,2,3,4,5,6,7,8,9]) ?_;clear A;rintro ⟨n,⟨c,F⟩⟩ J43 Z
  try dsimp only
  refine cm bS 10 [] (mc 1 U mn) ?_;refine bE U (aG fun s=>?_) (aH fun s=>?_)
  ·exact aS aW 1 U<|cr fD 8 hQ U U<|cB (cT (Lw D I I I I (iH I E I) (iH I F I))).symm
  refine aS aW 5 U<|cK bX 11 kr<|dP 3 [] (mc 1 U mn) ?_;obtain ⟨p,hp⟩:=ax l.ag n I;have AO:=bw dT.cells hp;refine dS (IA n U (au 5 U) wN dc I I)<|dS (ld n 0 (dT.cells p) U bP (au 5 U) AO U dc U U)<|dP 3 [] (mc 0 U mn) ?_;obtain ⟨q,hq⟩:=ax m.ag n I;have AP:=bw dT.cells hq;refine dS (IA n U (au 9 U) wN dc I I)<|dS (ld n 0 (dT.cells q) U bP (au 9 U) AP U dc U U)<|dS (BI U (U0 _ _ p q))<|cy<|aq aj 2 ?_;refine bE U (aK fun G=>?_) (aJ fun G=>?_)
  ·refine aq aW 8 ?_;have a:(vI (((n+1):Nat):Int))=(vI ((n:Int)+1)):=by exact cI I
   refine aL (Z ⟨(n+1),⟨I,iS F hp hq G⟩⟩ _ _ _ U os (cS.cons U<|cS.cons U<|aQ U a<|cS.nil _) (aB [0,1,2,3,4,5,6,7,8,9]))
  exact cr aW 6 hQ rfl rfl<|cB (bj (fun e=>by subst e;rw [hp] at hq;cases hq;exact G rfl)).symm
 refine aq aW 5 ?_;refine mh bX [0,1,2,3,4,5,6,7,8,9] [10,11,12,13] [false,false,false,false,false,false,false,false,false,false] [] [(cb b3 28 (bU.cells (bU.mk (aY.mk (aV.mk k2A m.bW.length k2C)) m.g7 (aV.mk c2A m.aD.length c2C) (aV.mk b2A m.ag.length b2C) m.b_ m.e_ m.di))),(cb b2 28 (bU.cells (kN l kA kC cA cC bA bC))),(gQ kA l.bW).ro,(pb cA l.aD az).ro,(iX (bx aX.lG l.aD az)).ro,(oG bA l.ag).ro,(gQ k2A m.bW).ro,(pb c2A m.aD az2).ro,(iX (bx aX.lG m.aD az2)).ro,(oG b2A m.ag).ro] [] kr (aB [0,1,2,3,4,5,6,7,8,9]) (aB [])<|eS U (FA 2 U eB U)<|eS U (L1 (vS cA l.aD.length cC) 1 U bP U U)<|eS U (MV U) ?_;obtain ⟨x,hx⟩:=ax l.aD i I;obtain ⟨xa,O⟩:=ax az i I;have A0:(zipWith aX.cells l.aD az)[i]? =some (aX.cells x xa):=cD hx O;refine eS U (IA i U (au 3 U) xK dc I I)<|eS U (ld i 0 (dB.cells (dB.mk x.dG (aV.mk xa.1 x.bo.length xa.2))) U bP (au 3 U) A0 U dc U U)<|eS U (FA 2 U eB U)<|eS U (L1 (vS c2A m.aD.length c2C) 0 U bP U U)<|eS U (MV U) ?_;obtain ⟨y,hy⟩:=ax m.aD i I;obtain ⟨ya,P⟩:=ax az2 i I;have A2:(zipWith aX.cells m.aD az2)[i]? =some (aX.cells y ya):=cD hy P;refine eS U (IA i U (au 7 U) xK dc I I)<|eS U (ld i 0 (dB.cells (dB.mk y.dG (aV.mk ya.1 y.bo.length ya.2))) U bP (au 7 U) A2 U dc U U)<|dI U<|nF [10,11] kr (iT ?_<|iT ?_<|re);rotate_left 1
 ·refine NO U U [10,12,13] fun T21 AB=>AL U zK fun d=>RD AB 1 U<|N1 10<|NO U U [12,13] fun T23 J=>AL U zK fun f=>RD J 2 U<|N1 12<|NO U U [13] fun T25 K=>eN U B4 U<|RD K 2 U<|N1 13<|NO U U [] fun T26 L=>o8 U B4 U<|RD L 2 U<|mC<|cm jE 10 [0,1] (mc 0 U (mc 1 U mn)) ?_;refine bJ (t:=84) U (aJ fun V=>?_) (aK fun V=>?_)
  ·exact cr aj 17 hQ rfl rfl<|cB (bj (fun e=>by subst e;rw [hx] at hy;cases hy;omega)).symm
  refine cm aj 10 [0,1] (mc 0 U (mc 1 U mn)) ?_;refine bY U (aJ fun W=>?_) (aK fun W=>?_)
  ·exact cr aW 6 hQ rfl rfl<|cB (bj (fun e=>by subst e;rw [hx] at hy;cases hy;omega)).symm
  refine aq aW 8 ?_;have A:(0≤x.bo.length)∧(x.bo.take 0=y.bo.take 0):=by simp
  refine bu (ι:={z:Nat // (z≤x.bo.length)∧(x.bo.take z=y.bo.take z)}) [2,3,5,6,7] [0,1,2,3,4,5,6,7,8,9,10,11] U U (fun z=>[(8,(vI (z.1:Int)))]) (fun z=>[]) (fun _=>rfl) (fun _=>rfl) (fun z=>x.bo.length-z.1) ⟨0,A⟩ (aN U) (aB [0,1,2,3,4,5,6,7,8,9,10,11]) ?_;clear A;rintro ⟨k,⟨R,B⟩⟩ J32 H
  try dsimp only
  have An:=b.2.2.2 x (aF hx);have A1:=T.2.2.2 y (aF hy);refine cm bS 10 [] (mc 0 U mn) ?_;refine bE U (aG fun AA=>?_) (aH fun AA=>?_)
  ·refine aS aW 1 U<|aq fD 8 ?_;have N:(vI (((i+1):Nat):Int))=(vI ((i:Int)+1)):=by exact cI I
   refine aL (S ⟨(i+1),⟨I,iS E hx hy (Bf I I I B)⟩⟩ _ _ _ U os (cS.cons U<|cS.cons U<|aQ U N<|cS.nil _) (aB [2,3,4,5,6,7,8,9,10,11]))
  refine aS aW 5 U<|cK bX 11 kr<|dP 3 [] (mc 0 U mn) ?_;obtain ⟨z,hz⟩:=ax x.bo k I;have Y:=bw dj.cells hz;refine dS (IA k U (show ij _ (nG xa.1 x.bo).holds from (ct 6 U (bq hx O (by simp [aX.lG])))) po dc I I)<|dS (ld k 0 (dj.cells z) U bP (show ij _ (nG xa.1 x.bo).holds from (ct 6 U (bq hx O (by simp [aX.lG])))) Y U dc U U)<|dP 3 [] (mc 1 U mn) ?_;obtain ⟨u,hu⟩:=ax y.bo k I;have X:=bw dj.cells hu;refine dS (IA k U (show ij _ (nG ya.1 y.bo).holds from (ct 10 U (bq hy P (by simp [aX.lG])))) po dc I I)<|dS (ld k 0 (dj.cells u) U bP (show ij _ (nG ya.1 y.bo).holds from (ct 10 U (bq hy P (by simp [aX.lG])))) X U dc U U)<|dS (BI U (MT _ _ z u))<|cy<|aq aj 2 ?_;refine bE U (aK fun C=>?_) (aJ fun C=>?_)
  ·refine aq aW 8 ?_;have M:(vI (((k+1):Nat):Int))=(vI ((k:Int)+1)):=by exact cI I
   refine aL (H ⟨(k+1),⟨I,iS B hz hu C⟩⟩ _ _ _ U os (cx 5<|aQ U M<|cS.nil _) (aB [0,1,2,3,4,5,6,7,8,9,10,11]))
  exact cr aW 6 hQ rfl rfl<|cB (bj (fun e=>by subst e;rw [hx] at hy;cases hy;(rw [hz] at hu;cases hu;exact C rfl))).symm
 refine NO U U [11,12,13] fun T21 AB=>AL U zK fun d=>RD AB 1 U<|N1 11<|NO U U [12,13] fun T23 J=>AL U zK fun f=>RD J 2 U<|N1 12<|NO U U [13] fun T25 K=>o8 U B4 U<|RD K 2 U<|N1 13<|NO U U [] fun T26 L=>eN U B4 U<|RD L 2 U<|mC<|cm jE 10 [0,1] (mc 1 U (mc 0 U mn)) ?_;refine bJ (t:=84) U (aJ fun V=>?_) (aK fun V=>?_)
 ·exact cr aj 17 hQ rfl rfl<|cB (bj (fun e=>by subst e;rw [hx] at hy;cases hy;omega)).symm
 refine cm aj 10 [0,1] (mc 1 U (mc 0 U mn)) ?_;refine bY U (aJ fun W=>?_) (aK fun W=>?_)
 ·exact cr aW 6 hQ rfl rfl<|cB (bj (fun e=>by subst e;rw [hx] at hy;cases hy;omega)).symm
 refine aq aW 8 ?_;have A:(0≤x.bo.length)∧(x.bo.take 0=y.bo.take 0):=by simp
 refine bu (ι:={z:Nat // (z≤x.bo.length)∧(x.bo.take z=y.bo.take z)}) [2,3,5,6,7] [0,1,2,3,4,5,6,7,8,9,10,11] U U (fun z=>[(8,(vI (z.1:Int)))]) (fun z=>[]) (fun _=>rfl) (fun _=>rfl) (fun z=>x.bo.length-z.1) ⟨0,A⟩ (aN U) (aB [0,1,2,3,4,5,6,7,8,9,10,11]) ?_;clear A;rintro ⟨k,⟨R,B⟩⟩ J32 H
 try dsimp only
 have An:=b.2.2.2 x (aF hx);have A1:=T.2.2.2 y (aF hy);refine cm bS 10 [] (mc 1 U mn) ?_;refine bE U (aG fun AA=>?_) (aH fun AA=>?_)
 ·refine aS aW 1 U<|aq fD 8 ?_;have N:(vI (((i+1):Nat):Int))=(vI ((i:Int)+1)):=by exact cI I
  refine aL (S ⟨(i+1),⟨I,iS E hx hy (Bf I I I B)⟩⟩ _ _ _ U os (cS.cons U<|cS.cons U<|aQ U N<|cS.nil _) (aB [2,3,4,5,6,7,8,9,10,11]))
 refine aS aW 5 U<|cK bX 11 kr<|dP 3 [] (mc 1 U mn) ?_;obtain ⟨z,hz⟩:=ax x.bo k I;have Y:=bw dj.cells hz;refine dS (IA k U (show ij _ (nG xa.1 x.bo).holds from (ct 6 U (bq hx O (by simp [aX.lG])))) po dc I I)<|dS (ld k 0 (dj.cells z) U bP (show ij _ (nG xa.1 x.bo).holds from (ct 6 U (bq hx O (by simp [aX.lG])))) Y U dc U U)<|dP 3 [] (mc 0 U mn) ?_;obtain ⟨u,hu⟩:=ax y.bo k I;have X:=bw dj.cells hu;refine dS (IA k U (show ij _ (nG ya.1 y.bo).holds from (ct 10 U (bq hy P (by simp [aX.lG])))) po dc I I)<|dS (ld k 0 (dj.cells u) U bP (show ij _ (nG ya.1 y.bo).holds from (ct 10 U (bq hy P (by simp [aX.lG])))) X U dc U U)<|dS (BI U (MT _ _ z u))<|cy<|aq aj 2 ?_;refine bE U (aK fun C=>?_) (aJ fun C=>?_)
 ·refine aq aW 8 ?_;have M:(vI (((k+1):Nat):Int))=(vI ((k:Int)+1)):=by exact cI I
  refine aL (H ⟨(k+1),⟨I,iS B hz hu C⟩⟩ _ _ _ U os (cx 5<|aQ U M<|cS.nil _) (aB [0,1,2,3,4,5,6,7,8,9,10,11]))
 exact cr aW 6 hQ rfl rfl<|cB (bj (fun e=>by subst e;rw [hx] at hy;cases hy;(rw [hz] at hu;cases hu;exact C rfl))).symm
end
section
variable {w w':cw}
theorem EK {k:Int}:k∈ou w↔ ∃ i:Nat,k=(i:Int)∧i≤w.n∧mO w (sE w i)=true:=by
 unfold ou ml;simp only [cu,n3,AAd];constructor
 ·rintro ⟨i,⟨B,A⟩,rfl⟩;exact ⟨i,rfl,I,A⟩
 ·rintro ⟨i,rfl,B,A⟩;exact ⟨i,⟨I,A⟩,rfl⟩
variable {l l':a_} {r r':cW}
theorem KZ (hb:b<l.ag.length):fO l r (lT l b)=fO l r 0:=by rw [zL I]
theorem KB:cU (dX l r) b=if b<l.ag.length then ew l b else 0:=by
 unfold cU dX cv;split
 ·rename_i h;simp [h]
 ·rename_i h;simp [h]
theorem Kl {i:Nat} (h:i=0):nk sg i=⟨-1,0⟩:=by subst h;rfl
theorem uu {i:Nat} {y:aZ} (h:0<i) (hy:sg[i-1]? =some y):nk sg i=y:=by unfold nk;rw [c1 I,hy];rfl
end
section
/-- where a sled may be after k beams more -/
def mA (w:cw):Nat→Nat→aI×Int→List (aI×Int)
 |0,_,p=>[p]
 |k+1,b,p=>(kX w b).flatMap fun o=>match oE w b p o with
  |some q=>mA w k (b+1) q
  |none=>[]
variable {w:cw}
theorem qS {q:aI×Int}:q∈mA w (k+1) b p↔ ∃ o∈kX w b,∃ p',oE w b p o=some p'∧q∈mA w k (b+1) p':=by
 simp only [mA,AAx];constructor
 ·rintro ⟨o,ho,h⟩;cases e:oE w b p o with
  |none=>rw [e] at h;cases h
  |some p'=>rw [e] at h;exact ⟨o,ho,p',e,h⟩
 ·rintro ⟨o,ho,p',e,h⟩;exact ⟨o,ho,by rw [e];exact h⟩
theorem CU: ∀ (k b:Nat) (q:aI×Int),q∈sE w (b+k)↔ ∃ p∈sE w b,q∈mA w k b p:=by
 intro k
 induction k with
 |zero=>
  intro b q;simp only [AB7,mA,bT];exact ⟨fun h=>⟨q,h,rfl⟩,fun ⟨p,hp,e⟩=>e▸hp⟩
 |succ k ih=>
  intro b q;rw [show b+(k+1)=(b+1)+k by omega,ih];constructor
  ·rintro ⟨p',hp',h⟩;obtain ⟨p,hp,o,ho,e⟩:=lO.1 hp';exact ⟨p,hp,qS.2 ⟨o,ho,p',e,h⟩⟩
  ·rintro ⟨p,hp,h⟩;obtain ⟨o,ho,p',e,h'⟩:=qS.1 h;exact ⟨p',lO.2 ⟨p,hp,o,ho,e⟩,h'⟩
theorem ue {q:aI×Int}:oE w b p o=some q↔max (p.2+cU w b) o.2.Lo≤min o.2.Hi w.hU∧q=(dZ p.1 (gT o.1),max (p.2+cU w b) o.2.Lo):=by
 unfold oE;split
 ·rename_i h;constructor
  ·intro e;cases e;exact ⟨h,rfl⟩
  ·rintro ⟨_,rfl⟩;rfl
 ·rename_i h;constructor
  ·intro e;cases e
  ·rintro ⟨h',_⟩;exact absurd h' h
theorem xM {q:aI×Int}:rr w b p o=some q↔o.2.Lo≤min p.2 o.2.Hi∧q=(dZ p.1 (gT o.1),min p.2 o.2.Hi-cU w b):=by
 unfold rr;split
 ·rename_i h;constructor
  ·intro e;cases e;exact ⟨h,rfl⟩
  ·rintro ⟨_,rfl⟩;rfl
 ·rename_i h;constructor
  ·intro e;cases e
  ·rintro ⟨h',_⟩;exact absurd h' h
theorem Mu (hb:b≤w.n):((⟨0,0⟩:aI),w.hU)∈back w b:=by
 rcases r4 b w.n with h|h
 ·exact (q6 h).2 (.inl U)
 ·rw [yf h];simp
theorem o4 (t:aI):dZ t ⟨0,0⟩=t:=by cases t;simp [dZ]
theorem C6 (a o u:aI):dZ (dZ a o) u=dZ a (dZ u o):=by simp only [dZ,aI.mk.injEq];omega
theorem I2 (hl: ∀ b,0≤cU w b): ∀ (k:Nat) (u:aI×Int),u∈TE w k→u.2≤w.hU:=by
 intro k
 induction k with
 |zero=>intro u hu;simp only [TE,bT] at hu;subst hu;exact wt _
 |succ k ih=>
  intro u hu;simp only [TE,bH,AAx,AAD] at hu;rcases hu with rfl|⟨p,hp,o,ho,e⟩
  ·exact wt _
  ·obtain ⟨_,rfl⟩:=xM.1 e;have:=ih p hp;have:=hl (w.n-(k+1));simp only;omega
/-- what follows a passing is told by the way back -/
theorem SL: ∀ (k b:Nat) (p q:aI×Int),b+k≤w.n→p.2≤w.hU→q∈mA w k b p→ ∃ u∈back w b,p.2≤u.2∧q.1=dZ p.1 u.1:=by
 intro k
 induction k with
 |zero=>
  intro b p q hb hp hq;simp only [mA,bT] at hq;subst hq;exact ⟨_,Mu I,hp,(o4 _).symm⟩
 |succ k ih=>
  intro b p q hb hp hq;obtain ⟨o,ho,p',e,h⟩:=qS.1 hq;obtain ⟨C,rfl⟩:=ue.1 e;obtain ⟨u',hu',B,A⟩:=ih (b+1) _ q I (by simp only;omega) h;simp only at B A;refine ⟨(dZ u'.1 (gT o.1),min u'.2 o.2.Hi-cU w b),(q6 I).2 (.inr ⟨u',hu',o,ho,xM.2 ⟨I,U⟩⟩),by simp only;omega,?_⟩;rw [A,C6]
theorem OU (hl: ∀ b,0≤cU w b): ∀ (d b:Nat) (p u:aI×Int),w.n=b+d→p.2≤u.2→u∈back w b→ ∃ k,b+k≤w.n∧ ∃ q∈mA w k b p,q.1=dZ p.1 u.1:=by
 intro d
 induction d with
 |zero=>
  intro b p u hd hp hu;rw [yf I] at hu;simp only [bT] at hu;subst hu;exact ⟨0,I,p,by simp [mA],(o4 _).symm⟩
 |succ d ih=>
  intro b p u hd hp hu;rcases (q6 I).1 hu with rfl|⟨u',hu',o,ho,e⟩
  ·exact ⟨0,I,p,by simp [mA],(o4 _).symm⟩
  ·obtain ⟨B,rfl⟩:=xM.1 e;have hn:u'.2≤w.hU:=I2 hl _ _ hu';simp only at hp;obtain ⟨k,hk,q,hq,A⟩:=ih (b+1) (dZ p.1 (gT o.1),max (p.2+cU w b) o.2.Lo) u' I (by simp only;omega) hu';refine ⟨k+1,I,q,qS.2 ⟨o,ho,_,ue.2 ⟨I,U⟩,hq⟩,?_⟩;rw [A];simp only;rw [C6]
end
section
section
variable {l:a_} {r:cW} {one at_:Int} {d:Nat} {f g m:Int} {rec:Int→Int→Int→Bool} {i:Int}
end
theorem xN (hd:d<l.ag.length):o∈kX (dX l r) d↔o=(-1,⟨r.Start,r.hU⟩)∨ ∃ k,k<r.ab.length∧ ∃ s,r.ab[k]? =some s∧(s.fR=(d:Int)∧(du l s).Lo≤(du l s).Hi)∧o=((k:Int),du l s):=by
 unfold kX zk;show o∈(-1,(⟨r.Start,r.hU⟩:aa))::((cL l r.ab r.ab.length)[d]?).getD []↔_
 rw [qG hd,ABa,bH,vj]
theorem se (hd:d<l.ag.length):cU (dX l r) d=ew l d:=by rw [KB,c0 hd]
theorem yu {n:Nat} {y:Int} (h:(cv l n)[d]? =some y):y=ew l d:=by
 unfold cv at h;rw [gM] at h;have hd:d<n:=by
  rcases r4 d n with q|q
  ·exact q
  ·rw [AAo (by simpa using q)] at h;cases h
 rw [ABG hd] at h;exact (m3 h).symm
end
section
/-- a truth goes on from here -/
def Z5 (w:cw) (b:Nat) (p:aI×Int):Prop:= ∃ k,b+k≤w.n∧ ∃ q∈mA w k b p,oH w q.1=true
section
variable {w:cw}
/-- a beam is passed at a time, by a signal -/
def PO (w:cw) (b:Nat) (s t:Int):Prop:= ∃ p∈sE w b,∃ o∈kX w b,o.1=s∧(max (p.2+cU w b) o.2.Lo≤t∧t≤min o.2.Hi w.hU)∧Z5 w (b+1) (dZ p.1 (gT o.1),t)
theorem Rx (hl:∀ b,0≤cU w b) (hb:b<w.n):(∃ q∈u3 w b,q.1=s∧q.2.Lo≤t∧t≤q.2.Hi)↔PO w b s t:=by
 constructor
 ·rintro ⟨q,hq,hs,C,D⟩;obtain ⟨o,ho,p,hp,u,hu,e⟩:=kj.1 hq;obtain ⟨B,A,rfl⟩:=mm.1 e;simp only [mJ] at C D B;have hn:u.2≤w.hU:=I2 hl _ _ hu;obtain ⟨k,hk,q,hq',E⟩:=OU hl (w.n-(b+1)) (b+1) (dZ p.1 (gT o.1),t) u I (by simp only;omega) hu;refine ⟨p,hp,o,ho,hs,⟨I,I⟩,k,hk,q,hq',?_⟩;rw [E];unfold CT at A;rw [show dZ (dZ p.1 (gT o.1)) u.1=dZ (dZ p.1 u.1) (gT o.1) by simp only [dZ,aI.mk.injEq];omega];exact A
 ·rintro ⟨p,hp,o,ho,hs,⟨C,D⟩,k,hk,q,hq,hm⟩;obtain ⟨u,hu,B,A⟩:=SL k (b+1) _ q hk (by simp only;omega) hq;simp only at B A;refine ⟨(o.1,mJ w b p u o),kj.2 ⟨o,ho,p,hp,u,hu,mm.2 ⟨by simp only [mJ];omega,?_,U⟩⟩,hs,by simp only [mJ];omega,by simp only [mJ];omega⟩;unfold CT;rw [A] at hm;rw [show dZ (dZ p.1 u.1) (gT o.1)=dZ (dZ p.1 (gT o.1)) u.1 by simp only [dZ,aI.mk.injEq];omega];exact hm
end
section
variable {w w':cw} {n:Int} {f g:Int→Int}
end
section
variable {l l':a_} {r r':cW} {n:Int} {f g:Int→Int}
end
end
section
theorem UG (a b:Int) (ha:0≤a) (hb:0<b):0≤a % b∧a % b<b:=⟨Int.emod_nonneg _ (Int.ne_of_gt hb),Int.emod_lt_of_pos _ hb⟩
theorem o0 (ht:cE l.bW=true) (h:nP l) {i:Nat} (hi:i<l.ag.length):1≤ew l i∧ew l i≤500000000:=by
 have A:=h.TZ i hi;have B:=CZ ht h.vt i;have hf:=h.head.1;unfold ew qB;refine ⟨(Int.le_ediv_iff_mul_le I).2 I,?_⟩;have:(1000*mL l i+l.g7-1)/l.g7≤1000*mL l i+l.g7-1:=ACF _ I;omega
end
section
def dR (good:List Int):aI:=good.foldl (fun t g=>dZ t (gT g)) ⟨0,0⟩
theorem qd {l:List Int} {g:Int}:dR (l++[g])=dZ (dR l) (gT g):=by unfold dR;rw [List.foldl_append];rfl
section
variable {l:a_} {r:cW} {times good:List Int}
theorem uc {α:Type} {l:List α} {x:α} (h:l[b]? =some x):l.take (b+1)=l.take b++[x]:=by rw [l1,h];rfl
end
end
section
def il (hi:Int→Int) (least:Nat→Int) (now:Int):Nat→List Int→List Int×Int
 |_,[]=>([],now)
 |b,x::xs=>((if 0≤x then min (il hi least now (b+1) xs).2 (hi x) else (il hi least now (b+1) xs).2)::(il hi least now (b+1) xs).1,(if 0≤x then min (il hi least now (b+1) xs).2 (hi x) else (il hi least now (b+1) xs).2)-least b)
def g6 (t:Int):List Int→Int
 |[]=>t
 |x::xs=>g6 x xs
def lH (w:cw):Nat→Int→List Int→List Int→Prop
 |_,_,[],[]=>True
 |b,t,x::rs,y::fs=>(∃ o∈kX w b,o.1=x∧max (t+cU w b) o.2.Lo≤min o.2.Hi w.hU∧y=max (t+cU w b) o.2.Lo)∧lH w (b+1) y rs fs
 |_,_,_,_=>False
section
variable {w:cw} {hi:Int→Int} {least:Nat→Int} {now:Int}
theorem ub: ∀ (b:Nat) (rs:List Int),(il hi least now b rs).1.length=rs.length
 |_,[]=>rfl
 |b,x::xs=>by simp only [il,y3];rw [ub]
theorem o2: ∀ (t:Int) (fs:List Int) (y:Int),g6 t (fs++[y])=y
 |_,[],_=>rfl
 |t,x::fs,y=>o2 x fs y
theorem Gq: ∀ (t:Int) (fs:List Int) (y:Int),fs[fs.length-1]? =some y→g6 t fs=y
 |t,[],y,h=>by simp at h
 |t,[x],y,h=>by simpa [g6] using h
 |t,x::x2::fs,y,h=>by
  show g6 x (x2::fs)=y
  exact Gq x (x2::fs) y (by simpa using h)
theorem wO: ∀ (b:Nat) (rs:List Int) (x:Int) (ss:List Int),(il hi least now b (rs++x::ss)).1[rs.length]? =some (if 0≤x then min (il hi least now (b+rs.length+1) ss).2 (hi x) else (il hi least now (b+rs.length+1) ss).2)
 |b,[],x,ss=>by simp [il]
 |b,z::rs,x,ss=>by
  have:=wO (b+1) rs x ss;simp only [AAX,il,y3,List.getElem?_cons_succ];rw [this,show b+1+rs.length+1=b+(rs.length+1)+1 by omega]
theorem lK: ∀ (b:Nat) (t:Int) (rs fs:List Int),lH w b t rs fs→fs.length=rs.length
 |_,_,[],[],_=>rfl
 |b,t,x::rs,y::fs,h=>by simp [lK _ _ rs fs h.2]
 |_,_,[],_::_,h=>h.elim
 |_,_,_::_,[],h=>h.elim
theorem uk: ∀ (b:Nat) (t:Int) (rs fs ss gs:List Int),fs.length=rs.length→(lH w b t (rs++ss) (fs++gs)↔lH w b t rs fs∧lH w (b+rs.length) (g6 t fs) ss gs)
 |b,t,[],[],ss,gs,_=>by simp [lH,g6]
 |b,t,x::rs,y::fs,ss,gs,h=>by
  have ih:=uk (b+1) y rs fs ss gs (by simpa using h);simp only [AAX,lH,y3,g6];rw [ih,show b+1+rs.length=b+(rs.length+1) by omega,and_assoc]
 |_,_,[],_::_,_,_,h=>by simp at h
 |_,_,_::_,[],_,_,h=>by simp at h
theorem Hj (b:List Int): ∀ t:aI,b.foldl (fun t g=>dZ t (gT g)) t=dZ t (dR b):=by
 induction b with
 |nil=>intro t;exact (o4 t).symm
 |cons x b ih=>
  intro t;show b.foldl (fun t g=>dZ t (gT g)) (dZ t (gT x))=dZ t (b.foldl (fun t g=>dZ t (gT g)) (dZ ⟨0,0⟩ (gT x)))
  rw [ih,ih];simp only [dZ,aI.mk.injEq];omega
theorem uH (a b:List Int):dR (a++b)=dZ (dR a) (dR b):=by
 show (a++b).foldl _ _=_
 rw [List.foldl_append,Hj];rfl
theorem uK:dR []=(⟨0,0⟩:aI):=rfl
variable (x:Int) (l:List Int)
theorem rU:dZ (⟨0,0⟩:aI) (dR l)=dR l:=by simp [dZ]
theorem vG:dR (x::l)=dZ (gT x) (dR l):=by
 rw [show x::l=[x]++l from rfl,uH,show dR [x]=gT x from (qd (l:=[])).trans (by rw [uK];simp [dZ])]
theorem wQ: ∀ l:List Int,0≤(dR l).right∧0≤(dR l).fK∧(dR l).right+(dR l).fK=(l.length:Int)
 |[]=>by rw [uK];simp
 |x::l=>by
  rw [vG];have:=xy x;have:=wQ l;simp only [dZ,y3];omega
/-- chains are what the watch goes through -/
theorem lF: ∀ (k b:Nat) (p q:aI×Int),q∈mA w k b p↔ ∃ rs fs,rs.length=k∧lH w b p.2 rs fs∧q=(dZ p.1 (dR rs),g6 p.2 fs):=by
 intro k
 induction k with
 |zero=>
  intro b p q;simp only [mA,bT];constructor
  ·rintro rfl;exact ⟨[],[],rfl,trivial,by rw [uK,o4];rfl⟩
  ·rintro ⟨rs,fs,A,B,rfl⟩;have A:=kq A;subst A;have:=kq (lK _ _ _ _ B);subst this;rw [uK,o4];rfl
 |succ k ih=>
  intro b p q;rw [qS];constructor
  ·rintro ⟨o,ho,p',e,h⟩;obtain ⟨A,rfl⟩:=ue.1 e;obtain ⟨rs,fs,B,C,rfl⟩:=(ih _ _ _).1 h;refine ⟨o.1::rs,max (p.2+cU w b) o.2.Lo::fs,by simp [B],⟨⟨o,ho,U,A,U⟩,C⟩,?_⟩;rw [vG];simp only [g6,dZ,p4,aI.mk.injEq,ABC];omega
  ·rintro ⟨rs,fs,A,B,rfl⟩;cases rs with
   |nil=>simp at A
   |cons x rs=>
    cases fs with
    |nil=>exact B.elim
    |cons y fs=>
     obtain ⟨⟨o,ho,rfl,C,rfl⟩,D⟩:=B;refine ⟨o,ho,_,ue.2 ⟨C,U⟩,(ih _ _ _).2 ⟨rs,fs,by simpa using A,D,?_⟩⟩;rw [vG];simp only [g6,dZ,p4,aI.mk.injEq,ABC];omega
/-- what the reference's rows of last times know -/
structure PI (w:cw) (hi:Int→Int) (least:Nat→Int) (now:Int):Prop where
 low: ∀ b,0≤cU w b
 least: ∀ b,b<w.n→least b=cU w b
 now:now=w.hU
 hi: ∀ b o,b<w.n→o∈kX w b→0≤o.1→o.2.Hi=hi o.1
 none_: ∀ b o,b<w.n→o∈kX w b→ ¬ 0≤o.1→o.2.Hi=w.hU
theorem AA (h:PI w hi least now): ∀ (b:Nat) (rs:List Int),b+rs.length≤w.n→(il hi least now b rs).2≤w.hU
 |_,[],_=>by simp only [il];exact Int.le_of_eq h.now
 |b,x::xs,hb=>by
  simp only [y3] at hb;have B:=AA h (b+1) xs I;have A:=h.low b;rw [← h.least b I] at A;simp only [il];split<;>omega
theorem uw (h:PI w hi least now): ∀ (b:Nat) (t:Int) (rs fs:List Int),b+rs.length≤w.n→t≤w.hU→lH w b t rs fs→t≤(il hi least now b rs).2
 |_,t,[],[],_,ht,_=>by simp only [il];rw [h.now];exact ht
 |b,t,x::rs,y::fs,hb,ht,hc=>by
  simp only [y3] at hb;obtain ⟨⟨o,ho,rfl,D,rfl⟩,A⟩:=hc;have B:=uw h (b+1) _ rs fs I I A;have C:=h.least b I;simp only [il];split
  ·rename_i q;have:=h.hi b o I ho q;omega
  ·omega
 |_,_,[],_::_,_,_,hc=>hc.elim
 |_,_,_::_,[],_,_,hc=>hc.elim
theorem Aj (h:PI w hi least now): ∀ (b:Nat) (t t':Int) (rs fs:List Int),b+rs.length≤w.n→t≤t'→t'≤(il hi least now b rs).2→lH w b t rs fs→ ∃ gs,lH w b t' rs gs
 |_,t,_,[],[],_,_,_,_=>⟨[],trivial⟩
 |b,t,t',x::rs,y::fs,hb,ht,he,hc=>by
  simp only [y3] at hb;obtain ⟨⟨o,ho,rfl,E,rfl⟩,A⟩:=hc;have C:=uw h (b+1) _ rs fs I I A;have D:=h.least b I;have F:=AA h (b+1) rs I;simp only [il] at he;have B:max (t'+cU w b) o.2.Lo≤min o.2.Hi w.hU∧max (t'+cU w b) o.2.Lo≤(il hi least now (b+1) rs).2:=by
   split at he
   ·rename_i q;have:=h.hi b o I ho q;omega
   ·rename_i q;have:=h.none_ b o I ho q;omega
  obtain ⟨gs,hg⟩:=Aj h (b+1) _ (max (t'+cU w b) o.2.Lo) rs fs I I B.2 A;exact ⟨_::gs,⟨o,ho,U,B.1,U⟩,hg⟩
 |_,_,_,[],_::_,_,_,_,hc=>hc.elim
 |_,_,_,_::_,[],_,_,_,hc=>hc.elim
theorem E5 (b:Nat) (t t':Int) (rs fs:List Int) (ht:t'≤t) (hc:lH w b t rs fs): ∃ gs,lH w b t' rs gs:=by
 have A:(dZ ⟨0,0⟩ (dR rs),g6 t fs)∈mA w rs.length b (⟨0,0⟩,t):=(lF _ _ _ _).2 ⟨rs,fs,rfl,hc,rfl⟩;clear A
 induction rs generalizing b t t' fs with
 |nil=>exact ⟨[],trivial⟩
 |cons x rs ih=>
  cases fs with
  |nil=>exact hc.elim
  |cons y fs=>
   obtain ⟨⟨o,ho,rfl,C,rfl⟩,B⟩:=hc;obtain ⟨gs,hg⟩:=ih (b+1) _ (max (t'+cU w b) o.2.Lo) fs I B;exact ⟨_::gs,⟨o,ho,U,I,U⟩,hg⟩
/-- a way, as it is asked for -/
structure Ut (w:cw) (hi:Int→Int) (least:Nat→Int) (now:Int) (y:dN):Prop where
 chain:lH w 0 w.Start y.ia y.j8
 len:y.ia.length≤w.n
 last:y.oD=(il hi least now 0 y.ia).1
 may:oH w (dR y.ia)=true
theorem F3:mO w (sE w k)=true↔ ∃ rs fs,rs.length=k∧lH w 0 w.Start rs fs∧oH w (dR rs)=true:=by
 unfold mO;rw [AAm];have e:=fun q=>(CU (w:=w) k 0 q);rw [AAk] at e;constructor
 ·rintro ⟨q,hq,hm⟩;obtain ⟨p,hp,h⟩:=(e q).1 hq;simp only [sE,bT] at hp;subst hp;obtain ⟨rs,fs,A,B,rfl⟩:=(lF _ _ _ _).1 h;refine ⟨rs,fs,A,B,?_⟩
  rwa [rU] at hm
 ·rintro ⟨rs,fs,A,B,C⟩;refine ⟨_,(e _).2 ⟨((⟨0,0⟩:aI),w.Start),bT.2 U,(lF _ _ _ _).2 ⟨rs,fs,A,B,U⟩⟩,?_⟩;simp only [rU];exact C
theorem OW (h:PI w hi least now) (hs:w.Start≤w.hU) (hb:b<w.n):PO w b s t↔ ∃ y,Ut w hi least now y∧ ∃ f e,y.ia[b]? =some s∧y.j8[b]? =some f∧y.oD[b]? =some e∧f≤t∧t≤e:=by
 have ef:=fun q=>(CU (w:=w) b 0 q);rw [AAk] at ef;constructor
 ·rintro ⟨p,hp,o,ho,rfl,⟨C,L⟩,k,hk,q,hq,hm⟩;obtain ⟨Y,AC,hp⟩:=(ef p).1 hp;simp only [sE,bT] at AC;subst AC;obtain ⟨rs,fs,K,D,rfl⟩:=(lF _ _ _ _).1 hp;obtain ⟨ss,gs,AB,E,rfl⟩:=(lF _ _ _ _).1 hq;simp only at C L D E hm;obtain ⟨gs',J⟩:=E5 (b+1) t (max (g6 w.Start fs+cU w b) o.2.Lo) ss gs C E;have H:=lK _ _ _ _ D;have T:=lK _ _ _ _ J;have hc:lH w 0 w.Start (rs++o.1::ss) (fs++max (g6 w.Start fs+cU w b) o.2.Lo::gs'):=(uk _ _ _ _ _ _ H).2 ⟨D,by rw [AAk,K];exact ⟨⟨o,ho,rfl,I,rfl⟩,J⟩⟩;have he:=uw h (b+1) t ss gs I I E;have A:=wO (hi:=hi) (least:=least) (now:=now) 0 rs o.1 ss;rw [AAk,K] at A;refine ⟨⟨rs++o.1::ss,fs++max (g6 w.Start fs+cU w b) o.2.Lo::gs',(il hi least now 0 (rs++o.1::ss)).1⟩,⟨hc,by simp;omega,U,?_⟩,max (g6 w.Start fs+cU w b) o.2.Lo,_,?_,?_,A,C,?_⟩
  ·show oH w (dR (rs++o.1::ss))=true
   rw [show rs++o.1::ss=(rs++[o.1])++ss by simp,uH,qd]
   rwa [rU] at hm
  ·show (rs++o.1::ss)[b]? =some o.1
   rw [k_ I,K,AAw];rfl
  ·show (fs++_::gs')[b]? =_
   rw [k_ I,H,K,AAw];rfl
  ·split
   ·rename_i q;have:=h.hi b o hb ho q;omega
   ·exact he
 ·rintro ⟨y,hy,f,e,C,L,P,Q,V⟩;obtain ⟨R,F,La⟩:=y;obtain ⟨hc,hn,A,hm⟩:=hy;simp only at C L P hc hn A hm;have N:=(aR.1 C).1;have S:=lK _ _ _ _ hc;have eR:R=R.take b++s::R.drop (b+1):=by rw [← (aR.1 C).2];exact (ABA b R).symm.trans (by rw [u1 N])
  have M:b<F.length:=by omega
  have eF:F=F.take b++f::F.drop (b+1):=by rw [← (aR.1 L).2];exact (ABA b F).symm.trans (by rw [u1 M])
  rw [eR,eF,uk _ _ _ _ _ _ (by simp only [k5];omega)] at hc;have O:(R.take b).length=b:=by rw [k5];omega
  rw [O,AAk] at hc;obtain ⟨D,⟨o,ho,rfl,W,rfl⟩,E⟩:=hc;have B:=wO (hi:=hi) (least:=least) (now:=now) 0 (R.take b) o.1 (R.drop (b+1));rw [← eR,O,AAk,← A,P] at B;have B:=m3 B;have G:t≤(il hi least now (b+1) (R.drop (b+1))).2∧t≤min o.2.Hi w.hU:=by
   have X:=AA h (b+1) (R.drop (b+1)) (by rw [AA9];omega);split at B
   ·rename_i q;have:=h.hi b o hb ho q;omega
   ·rename_i q;have:=h.none_ b o hb ho q;omega
  obtain ⟨gs,J⟩:=Aj h (b+1) _ t (R.drop (b+1)) (F.drop (b+1)) (by rw [AA9];omega) Q G.1 E;refine ⟨(dZ ⟨0,0⟩ (dR (R.take b)),g6 w.Start (F.take b)),(ef _).2 ⟨((⟨0,0⟩:aI),w.Start),bT.2 U,(lF _ _ _ _).2 ⟨_,_,O,D,U⟩⟩,o,ho,U,⟨Q,G.2⟩,(R.drop (b+1)).length,by rw [AA9];omega,_,(lF _ _ _ _).2 ⟨_,gs,U,J,U⟩,?_⟩;show oH w (dZ (dZ (dZ ⟨0,0⟩ (dR (R.take b))) (gT o.1)) (dR (R.drop (b+1))))=true
  rw [rU,← qd,← uH,show R.take b++[o.1]++R.drop (b+1)=R from by rw [append_assoc];exact eR.symm];exact hm
end
noncomputable def Q9 (l:a_) (r:cW) (x:Int):Int:=match r.ab[x.toNat]? with
 |some s=>(du l s).Hi
 |none=>0
theorem G0 {s:aZ} (h:r.ab[x.toNat]? =some s):Q9 l r x=(du l s).Hi:=by unfold Q9;rw [h]
noncomputable def ku (l:a_) (r:cW) (rs:List Int):List Int:=(il (Q9 l r) (ew l) r.hU 0 rs).1
noncomputable def rf (l:a_) (r:cW) (n:Nat) (t i:Int):Option Int:=
 if i<0 then (if t≤r.hU then some t else none) else match r.ab[i.toNat]? with
  |some s=>if (s.fR=(n:Int)∧(du l s).Lo≤(du l s).Hi)∧max t (du l s).Lo≤min r.hU (du l s).Hi then some (max t (du l s).Lo) else none
  |none=>none
noncomputable def iL (l:a_) (r:cW) (rs fs:List Int):List dN:=if (r.ab.length:Int)-(dR rs).right≤l.e_ then [⟨rs,fs,ku l r rs⟩] else []
noncomputable def jl (l:a_) (r:cW):Nat→List Int→List Int→List dN
 |0,rs,fs=>if l.di<(dR rs).fK then [] else iL l r rs fs
 |k+1,rs,fs=>if l.di<(dR rs).fK then [] else iL l r rs fs++(range (r.ab.length+1)).flatMap fun (j:Nat)=>match rf l r rs.length (g6 r.Start fs+ew l rs.length) ((j:Int)-1) with
  |some t=>jl l r k (rs++[(j:Int)-1]) (fs++[t])
  |none=>[]
noncomputable def Ho (l:a_) (r:cW) (k:Nat) (rs fs:List Int) (j:Nat):List dN:=iL l r rs fs++(range j).flatMap fun (j:Nat)=>match rf l r rs.length (g6 r.Start fs+ew l rs.length) ((j:Int)-1) with
 |some t=>jl l r k (rs++[(j:Int)-1]) (fs++[t])
 |none=>[]
noncomputable def jr (l:a_) (r:cW) (k:Nat) (rs fs:List Int) (j:Nat):List dN:=(range j).flatMap fun (j:Nat)=>match rf l r rs.length (g6 r.Start fs+ew l rs.length) ((j:Int)-1) with
 |some t=>jl l r k (rs++[(j:Int)-1]) (fs++[t])
 |none=>[]
section
variable {l:a_} {r:cW} {k j:Nat} {rs fs:List Int} {t:Int}
theorem uq:Ho l r k rs fs j=iL l r rs fs++jr l r k rs fs j:=rfl
theorem oV (h:rf l r rs.length (g6 r.Start fs+ew l rs.length) ((j:Int)-1)=some t):jr l r k rs fs (j+1)=jr l r k rs fs j++jl l r k (rs++[(j:Int)-1]) (fs++[t]):=by
 unfold jr;rw [AAV,List.flatMap_append];simp [h]
theorem tG (h:rf l r rs.length (g6 r.Start fs+ew l rs.length) ((j:Int)-1)=none):jr l r k rs fs (j+1)=jr l r k rs fs j:=by
 unfold jr;rw [AAV,List.flatMap_append];simp [h]
theorem pf (h:l.di<(dR rs).fK):jl l r k rs fs=[]:=by cases k<;>exact c0 h
theorem o6 (h: ¬ l.di<(dR rs).fK):jl l r 0 rs fs=iL l r rs fs:=c1 h
theorem pG (h: ¬ l.di<(dR rs).fK):jl l r (k+1) rs fs=Ho l r k rs fs (r.ab.length+1):=c1 h
theorem EH {n:Nat} (hn:n<l.ag.length) (hl:0≤ew l n) (ht:r.Start≤t) {y:Int} (hi:-1≤i):rf l r n (t+ew l n) i=some y↔ ∃ o∈kX (dX l r) n,o.1=i∧max (t+cU (dX l r) n) o.2.Lo≤min o.2.Hi (dX l r).hU∧y=max (t+cU (dX l r) n) o.2.Lo:=by
 rw [se hn];have hw:(dX l r).hU=r.hU:=rfl;unfold rf;constructor
 ·intro h;split at h
  ·rename_i B;split at h
   ·cases h;exact ⟨(-1,⟨r.Start,r.hU⟩),(xN hn).2 (.inl U),by simp only;omega,by simp only;omega,by simp only;omega⟩
   ·cases h
  ·rename_i B;split at h
   ·rename_i s hs;split at h
    ·rename_i q;cases h;exact ⟨((i.toNat:Nat),du l s),(xN hn).2 (.inr ⟨i.toNat,(aR.1 hs).1,s,hs,q.1,U⟩),by simp only;omega,by simp only;omega,U⟩
    ·cases h
   ·cases h
 ·rintro ⟨o,ho,rfl,A,rfl⟩;rcases (xN hn).1 ho with rfl|⟨k,hk,s,hs,q,rfl⟩
  ·simp only at A ⊢;rw [c0 I,c0 I];congr 1;omega
  ·simp only at A ⊢;rw [c1 I,AAP,hs];simp only;rw [c0 ⟨q,I⟩]
theorem QC (hl: ∀ n,n<l.ag.length→0≤ew l n): ∀ (k:Nat) (rs fs:List Int) (y:dN),rs.length+k=l.ag.length→fs.length=rs.length→r.Start≤g6 r.Start fs→
 (y∈jl l r k rs fs↔ ∃ ss gs,lH (dX l r) rs.length (g6 r.Start fs) ss gs∧ss.length≤k∧y=⟨rs++ss,fs++gs,ku l r (rs++ss)⟩∧oH (dX l r) (dR (rs++ss))=true):=by
 have D: ∀ (rs fs:List Int) (y:dN),¬ l.di<(dR rs).fK→(y∈iL l r rs fs↔y=⟨rs++[],fs++[],ku l r (rs++[])⟩∧oH (dX l r) (dR (rs++[]))=true):=by
  intro rs fs y hm;unfold iL;rw [AAJ,AAJ];have e:oH (dX l r) (dR rs)=true↔(r.ab.length:Int)-(dR rs).right≤l.e_:=by
   unfold oH;rw [r0];exact ⟨fun q=>q.2,fun q=>⟨by have:(dX l r).di=l.di:=rfl;omega,q⟩⟩
  split
  ·rename_i q;rw [bT];exact ⟨fun h=>⟨h,e.2 q⟩,fun h=>h.1⟩
  ·rename_i q;exact ⟨fun h=>(by cases h),fun h=>absurd (e.1 h.2) q⟩
 have miss: ∀ (rs ss:List Int),l.di<(dR rs).fK→ ¬ oH (dX l r) (dR (rs++ss))=true:=by
  intro rs ss h q;unfold oH at q;have:=(s6 q).1;rw [uH] at this;have C:=wQ ss;simp only [dZ] at this;have:(dX l r).di=l.di:=rfl;omega
 intro k
 induction k with
 |zero=>
  intro rs fs y hn hf hs;by_cases hm:l.di<(dR rs).fK
  ·rw [pf hm];exact ⟨fun h=>(by cases h),fun ⟨ss,gs,_,_,_,q⟩=>absurd q (miss rs ss hm)⟩
  ·rw [o6 hm,D _ _ _ hm];constructor
   ·rintro ⟨B,C⟩;exact ⟨[],[],trivial,sm,B,C⟩
   ·rintro ⟨ss,gs,B,C,E,F⟩;have e:=kq (Nat.le_zero.1 C);subst e;have e:=kq (lK _ _ _ _ B);subst e;exact ⟨E,F⟩
 |succ k ih=>
  intro rs fs y hn hf hs;by_cases hm:l.di<(dR rs).fK
  ·rw [pf hm];exact ⟨fun h=>(by cases h),fun ⟨ss,gs,_,_,_,q⟩=>absurd q (miss rs ss hm)⟩
  ·rw [pG hm];unfold Ho;rw [dY,D _ _ _ hm,AAx];have A: ∀ (x y:Int),(rs++[x]).length+k=l.ag.length∧(fs++[y]).length=(rs++[x]).length:=fun x y=>by simp;omega
   constructor
   ·rintro (⟨B,C⟩|⟨j,hj,h⟩)
    ·exact ⟨[],[],trivial,sm,B,C⟩
    ·cases e:rf l r rs.length (g6 r.Start fs+ew l rs.length) ((j:Int)-1) with
     |none=>rw [e] at h;cases h
     |some t=>
      rw [e] at h;simp only at h;obtain ⟨o,ho,B,C,E⟩:=(EH I (hl _ I) hs I).1 e;have G:r.Start≤t:=by
       have:=hl rs.length I;rw [se I] at E;omega
      obtain ⟨ss,gs,F,J,H,AA⟩:=(ih _ _ y (A _ t).1 (A _ t).2 (by rw [o2];exact G)).1 h;rw [o2,e4] at F;refine ⟨((j:Int)-1)::ss,t::gs,⟨⟨o,ho,B,C,E⟩,F⟩,by simp;omega,by simpa using H,by simpa using AA⟩
   ·rintro ⟨ss,gs,B,C,E,F⟩;cases ss with
    |nil=>
     have e:=kq (lK _ _ _ _ B);subst e;exact .inl ⟨E,F⟩
    |cons x ss=>
     cases gs with
     |nil=>exact B.elim
     |cons t gs=>
      obtain ⟨⟨o,ho,rfl,J,H⟩,AA⟩:=B;right;have hx: -1≤o.1∧o.1<(r.ab.length:Int):=by
       rcases (xN I).1 ho with rfl|⟨k,hk,s,hs,q,rfl⟩
       ·simp only;omega
       ·simp only;omega
      have G:r.Start≤t:=by
       have:=hl rs.length I;rw [se I] at H;omega
      have K:((o.1+1).toNat:Int)-1=o.1:=by omega
      refine ⟨(o.1+1).toNat,AAd.2 I,?_⟩;rw [K,(EH I (hl _ I) hs I).2 ⟨o,ho,rfl,J,H⟩];simp only;refine (ih _ _ y (A _ t).1 (A _ t).2 (by rw [o2];exact G)).2 ⟨ss,gs,?_,?_,?_,?_⟩
      ·rw [o2,e4];exact AA
      ·simp only [y3] at C;omega
      ·simpa using E
      ·simpa using F
end
theorem BX (h:(r.ab.length:Int)-(dR rs).right≤l.e_):iL l r rs fs=[⟨rs,fs,ku l r rs⟩]:=c0 h
theorem AQ (h:¬ (r.ab.length:Int)-(dR rs).right≤l.e_):iL l r rs fs=[]:=c1 h
noncomputable def fu (l:a_) (r:cW) (i:Nat):List aa:=(r.ab.take i).map (du l)
noncomputable def fQ (l:a_) (r:cW) (i:Nat):List Bool:=(r.ab.take i).map fun s=>decide ((du l s).Lo≤(du l s).Hi)
section
variable {l:a_} {r:cW} {i n:Nat} {s:aZ} {rs:List Int}
theorem Ig (h:r.ab[i]? =some s):fu l r (i+1)=fu l r i++[du l s]:=by unfold fu;rw [l1,h,AAF];rfl
theorem Ht (h:r.ab[i]? =some s):fQ l r (i+1)=fQ l r i++[decide ((du l s).Lo≤(du l s).Hi)]:=by unfold fQ;rw [l1,h,AAF];rfl
theorem uJ (h:i≤r.ab.length):(fu l r i).length=i:=by unfold fu;rw [c3,k5];omega
theorem xJ (h:i≤r.ab.length):(fQ l r i).length=i:=by unfold fQ;rw [c3,k5];omega
theorem QU (hs:r.ab[k]? =some s) (hz:(fu l r r.ab.length)[k]? =some z):z=du l s:=by
 unfold fu at hz;rw [AA8,gM,hs] at hz;exact (m3 hz).symm
theorem Ps (hz:(fu l r r.ab.length)[k]? =some z): ∃ s,r.ab[k]? =some s∧z=du l s:=by
 unfold fu at hz;rw [AA8,gM] at hz;cases h:r.ab[k]? with
 |none=>rw [h] at hz;cases hz
 |some s=>rw [h] at hz;exact ⟨s,rfl,(m3 hz).symm⟩
theorem FN {z:Bool} (hs:r.ab[k]? =some s) (hz:(fQ l r r.ab.length)[k]? =some z):z=true↔(du l s).Lo≤(du l s).Hi:=by
 unfold fQ at hz;rw [AA8,gM,hs] at hz;rw [← m3 hz];exact ACW
theorem zC (l:a_) (s:aZ):(0≤(du l s).Lo∧(du l s).Lo≤86400001)∧ -1≤(du l s).Hi∧(du l s).Hi≤86400000:=by
 have A:=jL (p:=iW (sD l s) s.Read) (n:=86400001);have B:=jL (p:=iU (sD l s) s.Read) (n:=86400001);unfold du EB;simp only;omega
/-- the last times from a beam on -/
noncomputable def kY (l:a_) (r:cW) (rs:List Int) (j:Nat):List Int×Int:=il (Q9 l r) (ew l) r.hU j (rs.drop j)
noncomputable def kZ (l:a_) (r:cW) (rs:List Int) (j:Nat):List Int:=replicate j 0++(kY l r rs j).1
noncomputable def wG (l:a_) (r:cW) (rs:List Int) (j:Nat) (x:Int):Int:=if 0≤x then min (kY l r rs j).2 (Q9 l r x) else (kY l r rs j).2
theorem xS:kY l r rs rs.length=([],r.hU):=by unfold kY;rw [List.drop_length];rfl
theorem LI:kZ l r rs rs.length=replicate rs.length 0:=by unfold kZ;rw [xS];simp
theorem HA:kZ l r rs 0=ku l r rs:=by unfold kZ kY ku;simp
theorem rQ (hj:0<j) (hx:rs[j-1]? =some x):kY l r rs (j-1)=(wG l r rs j x::(kY l r rs j).1,wG l r rs j x-ew l (j-1)):=by
 unfold kY wG;have hb:=(aR.1 hx).1;rw [u1 hb,(aR.1 hx).2,show j-1+1=j by omega];simp only [il];rw [show j-1+1=j by omega];rfl
theorem Me (h:j≤rs.length):(kZ l r rs j).length=rs.length:=by unfold kZ kY;rw [e4,ABR,ub,AA9];omega
theorem CB (hj:0<j) (hx:rs[j-1]? =some x):(kZ l r rs j).set (j-1) (wG l r rs j x)=kZ l r rs (j-1):=by
 unfold kZ;rw [rQ hj hx];simp only;obtain ⟨k,rfl⟩: ∃ k,j=k+1:=⟨j-1,I⟩;rw [AA_,ABw,append_assoc,AAu _ _ sm,ABR,AAw];rfl
theorem Ji (hr:0≤r.hU∧r.hU≤86400000) (hl: ∀ b,b<rs.length→0≤ew l b∧ew l b≤500000000) (hrs: ∀ x∈rs,0≤x→x<(r.ab.length:Int)): ∀ (d j:Nat),j+d=rs.length→(-1-500000000*(d:Int))≤(kY l r rs j).2∧(kY l r rs j).2≤86400000
 |0,j,h=>by
  obtain rfl:j=rs.length:=by omega
  rw [xS];simp only;omega
 |d+1,j,h=>by
  have ih:=Ji hr hl hrs d (j+1) I;have hx:rs[j+1-1]? =some (rs[j]'I):=by rw [AA_];exact fh _
  have e:=rQ (l:=l) (r:=r) (j:=j+1) I hx;rw [AA_] at e;rw [e];simp only;have A:=hl j I;unfold wG;split
  ·rename_i q;have B:=hrs _ (u4 (by omega:j<rs.length)) q;obtain ⟨s,hs⟩: ∃ s,r.ab[(rs[j]'I).toNat]? =some s:=⟨r.ab[(rs[j]'I).toNat]'I,fh _⟩;rw [G0 hs];have C:=zC l s;omega
  ·omega
theorem Qi {i:Int} (hi:i<0):(t≤r.hU→rf l r n t i=some t)∧(¬ t≤r.hU→rf l r n t i=none):=by
 unfold rf;rw [c0 hi];exact ⟨fun h=>c0 h,fun h=>c1 h⟩
theorem Nk {i:Int} (hi:¬ i<0) (hs:r.ab[i.toNat]? =some s) (hb:s.fR=(n:Int)) (hw:(du l s).Lo≤(du l s).Hi):(max t (du l s).Lo≤min r.hU (du l s).Hi→rf l r n t i=some (max t (du l s).Lo))∧(¬ max t (du l s).Lo≤min r.hU (du l s).Hi→rf l r n t i=none):=by
 unfold rf;rw [c1 hi,hs];exact ⟨fun h=>c0 ⟨⟨hb,hw⟩,h⟩,fun h=>c1 fun q=>h q.2⟩
theorem Bb {i:Int} (hi:¬ i<0) (hs:r.ab[i.toNat]? =some s) (hb:¬ (s.fR=(n:Int)∧(du l s).Lo≤(du l s).Hi)):rf l r n t i=none:=by
 unfold rf;rw [c1 hi,hs];exact c1 fun q=>hb q.1
theorem w9 (hx:rs[i]? =some x):(dR (rs.take (i+1))).right=(dR (rs.take i)).right+(if 0≤x then 1 else 0):=by
 rw [uc hx,qd];unfold gT;simp only [dZ];by_cases h:x<0
 ·rw [c0 h,c1 I]
 ·rw [c1 h,c0 I]
end
theorem Af:(iL l r rs fs).length≤1:=by unfold iL;split<;>simp
theorem z4 {l:a_} {r:cW} (hr:r.ab.length≤10): ∀ (k:Nat) (rs fs:List Int),(jl l r k rs fs).length≤12^(k+1)
 |0,rs,fs=>by
  unfold jl;split
  ·simp
  ·have:=Af (l:=l) (r:=r) (rs:=rs) (fs:=fs);omega
 |k+1,rs,fs=>by
  unfold jl;split
  ·simp
  ·rw [e4];have B:=Af (l:=l) (r:=r) (rs:=rs) (fs:=fs);have A: ∀ j,(jr l r k rs fs j).length≤j*12^(k+1):=by
    intro j
    induction j with
    |zero=>simp [jr]
    |succ j ih=>
     cases e:rf l r rs.length (g6 r.Start fs+ew l rs.length) ((j:Int)-1) with
     |none=>rw [tG e,AAZ];exact c6 ih (Nat.le_add_right _ _)
     |some t=>rw [oV e,e4,AAZ];exact Nat.add_le_add ih (z4 hr k (rs++[(j:Int)-1]) (fs++[t]))
   have C:=A (r.ab.length+1);have D:(r.ab.length+1)*12^(k+1)≤11*12^(k+1):=ABv _ I;have E:0<12^(k+1):=Nat.pow_pos dc;have F:12^(k+1+1)=12*12^(k+1):=by rw [Nat.pow_succ,Nat.mul_comm]
   show (iL l r rs fs).length+(jr l r k rs fs (r.ab.length+1)).length≤_
   omega
theorem QJ (hr:r.ab.length≤10) (hk:k≤5) (hj:j≤11):(jr l r k rs fs j).length≤40000000:=by
 have A: ∀ j,(jr l r k rs fs j).length≤j*12^(k+1):=by
  intro j
  induction j with
  |zero=>simp [jr]
  |succ j ih=>
   cases e:rf l r rs.length (g6 r.Start fs+ew l rs.length) ((j:Int)-1) with
   |none=>rw [tG e,AAZ];exact c6 ih (Nat.le_add_right _ _)
   |some t=>rw [oV e,e4,AAZ];exact Nat.add_le_add ih (z4 hr k (rs++[(j:Int)-1]) (fs++[t]))
 have C:=A j;have B:12^(k+1)≤12^6:=Nat.pow_le_pow_right dc I;have D:j*12^(k+1)≤11*12^6:=Nat.mul_le_mul hj B;omega
theorem x8 (hr:r.ab.length≤10) (hk:k≤6):(jl l r k rs fs).length≤40000000:=by
 have A:=z4 hr k rs fs (l:=l);have B:12^(k+1)≤12^7:=Nat.pow_le_pow_right dc I;omega
noncomputable def sO (l:a_) (r:cW):List dN:=jl l r l.ag.length [] []
section
variable {l:a_} {r:cW}
theorem nT:(dX l r).n=l.ag.length:=dE
theorem Uh (hle:dU l=0) (hr:gl l r):PI (dX l r) (Q9 l r) (ew l) r.hU:=by
 obtain ⟨ht,B⟩:=ep hle;refine ⟨fun b=>((ow ht B hr).cU b).1,fun b hb=>(se (by rw [nT] at hb;exact hb)).symm,U,fun b o hb ho A=>?_,fun b o hb ho A=>?_⟩
 ·rw [nT] at hb;rcases (xN hb).1 ho with rfl|⟨k,hk,s,hs,q,rfl⟩
  ·simp only at A;omega
  ·exact (G0 (by simpa using hs)).symm
 ·rw [nT] at hb;rcases (xN hb).1 ho with rfl|⟨k,hk,s,hs,q,rfl⟩
  ·rfl
  ·simp only at A;omega
theorem sh (hle:dU l=0) (hr:gl l r):y∈sO l r↔Ut (dX l r) (Q9 l r) (ew l) r.hU y:=by
 obtain ⟨ht,D⟩:=ep hle;have hl: ∀ n,n<l.ag.length→0≤ew l n:=fun n hn=>by have:=o0 ht D (i:=n) hn;omega
 unfold sO;rw [QC hl _ _ _ _ sm rfl (wt _)];constructor
 ·rintro ⟨ss,gs,B,A,rfl,C⟩;exact ⟨B,by rw [nT];exact A,U,C⟩
 ·rintro ⟨B,A,E,C⟩;rw [nT] at A;exact ⟨y.ia,y.j8,B,A,by rw [AAp,AAp];unfold ku;rw [← E],C⟩
theorem QF (hle:dU l=0) (hr:gl l r) (hk:k≤l.ag.length):((sO l r).any fun y=>decide (y.ia.length=k))=mO (dX l r) (sE (dX l r) k):=by
 rw [AAB,F3,AAm];constructor
 ·rintro ⟨y,hy,e⟩;have h:=(sh hle hr).1 hy;exact ⟨y.ia,y.j8,s6 e,h.chain,h.may⟩
 ·rintro ⟨rs,fs,e,A,B⟩;exact ⟨⟨rs,fs,(il (Q9 l r) (ew l) r.hU 0 rs).1⟩,(sh hle hr).2 ⟨A,by rw [nT];simp only;omega,U,B⟩,cT e⟩
theorem eZ (hle:dU l=0) (hr:gl l r):sO l r=[]↔ou (dX l r)=[]:=by
 constructor
 ·intro h;apply AAW.2;intro x hx;obtain ⟨k,rfl,hk,hm⟩:=EK.1 hx;rw [nT] at hk;rw [← QF hle hr hk,h] at hm;cases hm
 ·intro h;apply AAW.2;intro y hy;have hw:=(sh hle hr).1 hy;have:(y.ia.length:Int)∈ou (dX l r):=EK.2 ⟨y.ia.length,rfl,hw.len,F3.2 ⟨_,_,rfl,hw.chain,hw.may⟩⟩;rw [h] at this;cases this
/-- the times at a beam, by all ways -/
def jV (b:Nat) (ws:List dN):List (Int×aa):=ws.filterMap fun y=>match y.ia[b]?,y.j8[b]?,y.oD[b]? with
 |some s,some f,some e=>some (s,⟨f,e⟩)
 |_,_,_=>none
theorem pA:q∈jV b ws↔ ∃ y∈ws,y.ia[b]? =some q.1∧y.j8[b]? =some q.2.Lo∧y.oD[b]? =some q.2.Hi:=by
 unfold jV;rw [AAD];constructor
 ·rintro ⟨y,hy,h⟩;cases e1:y.ia[b]? with
  |none=>rw [e1] at h;cases h
  |some s=>
   cases e2:y.j8[b]? with
   |none=>rw [e1,e2] at h;cases h
   |some f=>
    cases e3:y.oD[b]? with
    |none=>rw [e1,e2,e3] at h;cases h
    |some e=>
     rw [e1,e2,e3] at h;cases h;exact ⟨y,hy,e1,e2,e3⟩
 ·rintro ⟨y,hy,A,B,C⟩;exact ⟨y,hy,by rw [A,B,C]⟩
theorem z6 (h:y.ia.length≤b):jV b (ws++[y])=jV b ws:=by
 unfold jV;rw [AAh];simp [AAo h]
theorem sK (h1:y.ia[b]? =some s) (h2:y.j8[b]? =some f) (h3:y.oD[b]? =some e):jV b (ws++[y])=jV b ws++[(s,⟨f,e⟩)]:=by
 unfold jV;rw [AAh];simp [h1,h2,h3]
theorem Nt (hle:dU l=0) (hr:gl l r) (hy:y∈sO l r):y.j8.length=y.ia.length∧y.oD.length=y.ia.length∧y.ia.length≤l.ag.length:=by
 have h:=(sh hle hr).1 hy;exact ⟨lK _ _ _ _ h.chain,by rw [h.last,ub],by have:=h.len;rwa [nT] at this⟩
theorem wP (hle:dU l=0) (hr:gl l r) (hb:b<l.ag.length):(∃ q∈u3 (dX l r) b,q.1=s∧q.2.Lo≤t∧t≤q.2.Hi)↔ ∃ q∈jV b (sO l r),q.1=s∧q.2.Lo≤t∧t≤q.2.Hi:=by
 have hh:=Uh hle hr;rw [Rx hh.low (by rw [nT];exact hb),OW hh hr.time.2.1 (by rw [nT];exact hb)];constructor
 ·rintro ⟨y,hy,f,e,A,B,C,D,E⟩;exact ⟨(s,⟨f,e⟩),pA.2 ⟨y,(sh hle hr).2 hy,A,B,C⟩,U,D,E⟩
 ·rintro ⟨q,hq,rfl,D,E⟩;obtain ⟨y,hy,A,B,C⟩:=pA.1 hq;exact ⟨y,(sh hle hr).1 hy,_,_,A,B,C,D,E⟩
/-- a way's span is none that is empty -/
theorem AH (hle:dU l=0) (hr:gl l r) (hq:q∈jV b (sO l r)):q.2.Lo≤q.2.Hi:=by
 have hh:=Uh hle hr;obtain ⟨y,hy,C,D,H⟩:=pA.1 hq;obtain ⟨hc,hn,B,hm⟩:=(sh hle hr).1 hy;obtain ⟨R,F,La⟩:=y;simp only at C D H hc hn B;have G:=(aR.1 C).1;have E:=(aR.1 D).1;have L:=lK _ _ _ _ hc;have eR:R=R.take b++q.1::R.drop (b+1):=by rw [← (aR.1 C).2];exact (ABA b R).symm.trans (by rw [u1 G])
 have eF:F=F.take b++q.2.Lo::F.drop (b+1):=by rw [← (aR.1 D).2];exact (ABA b F).symm.trans (by rw [u1 E])
 rw [eR,eF,uk _ _ _ _ _ _ (by simp only [k5];omega)] at hc;have AA:(R.take b).length=b:=by rw [k5];omega
 rw [AA,AAk] at hc;obtain ⟨M,⟨o,ho,K,N,O⟩,J⟩:=hc;have A:=wO (hi:=Q9 l r) (least:=ew l) (now:=r.hU) 0 (R.take b) q.1 (R.drop (b+1));rw [← eR,AA,AAk,← B,H] at A;have A:=m3 A;have he:=uw hh (b+1) q.2.Lo (R.drop (b+1)) (F.drop (b+1)) (by rw [AA9];omega) I J;rw [← K] at A;split at A
 ·rename_i z;have:=hh.hi b o I ho z;omega
 ·omega
theorem Ez {a b:List (Int×aa)} {k:aa} (ha:l0 a h) (hb:l0 b k) (hab:∀ x∈b,(∃ y∈a,y.2.Lo≤x.2.Lo)∧ ∃ y∈a,x.2.Hi≤y.2.Hi) (hba:∀ x∈a,(∃ y∈b,y.2.Lo≤x.2.Lo)∧ ∃ y∈b,x.2.Hi≤y.2.Hi):h=k:=by
 rcases ha with ⟨rfl,rfl⟩|ha
 ·rcases hb with ⟨rfl,rfl⟩|hb
  ·rfl
  ·obtain ⟨x,hx,_⟩:=hb.lo;obtain ⟨⟨y,hy,_⟩,_⟩:=hab x hx;cases hy
 ·rcases hb with ⟨rfl,rfl⟩|hb
  ·obtain ⟨x,hx,_⟩:=ha.lo;obtain ⟨⟨y,hy,_⟩,_⟩:=hba x hx;cases hy
  ·obtain ⟨M,E,AA⟩:=ha.lo;obtain ⟨N,F,V⟩:=ha.hi;obtain ⟨O,G,W⟩:=hb.lo;obtain ⟨P,H,X⟩:=hb.hi;obtain ⟨⟨AB,A,Y⟩,_⟩:=hba M E;obtain ⟨_,J,B,Z⟩:=hba N F;obtain ⟨⟨K,C,c⟩,_⟩:=hab O G;obtain ⟨_,L,D,d⟩:=hab P H;have Q:=hb.all AB A;have R:=hb.all J B;have S:=ha.all K C;have T:=ha.all L D;apply aa.ext
   ·omega
   ·omega
theorem Pg (hle:dU l=0) (hr:gl l r) (hb:b<l.ag.length) (hh:l0 (jV b (sO l r)) h):h=o5 l r b:=by
 have hk:=xA (l:=u3 (dX l r) b) (fun q hq=>p8 hq);refine Ez hh hk (fun x hx=>?_) (fun x hx=>?_)
 ·have hle':=p8 hx;obtain ⟨y,hy,_,A,C⟩:=(wP hle hr hb (s:=x.1) (t:=x.2.Lo)).1 ⟨x,hx,rfl,wt _,hle'⟩;obtain ⟨z,hz,_,D,B⟩:=(wP hle hr hb (s:=x.1) (t:=x.2.Hi)).1 ⟨x,hx,rfl,hle',wt _⟩;exact ⟨⟨y,hy,A⟩,z,hz,B⟩
 ·have hle':=AH hle hr hx;obtain ⟨y,hy,_,A,C⟩:=(wP hle hr hb (s:=x.1) (t:=x.2.Lo)).2 ⟨x,hx,rfl,wt _,hle'⟩;obtain ⟨z,hz,_,D,B⟩:=(wP hle hr hb (s:=x.1) (t:=x.2.Hi)).2 ⟨x,hx,rfl,hle',wt _⟩;exact ⟨⟨y,hy,A⟩,z,hz,B⟩
end
def rO (ws:List dN) (b:Nat):Int:=if Ax (jV b ws)=oN then 6 else 0
def rT (ws:List dN) (b:Nat):aa:=if Ax (jV b ws)=oN then ⟨0,0⟩ else Ax (jV b ws)
theorem SP {l:List (Int×aa)} (hh:l0 l h) (hl:∀ q∈l,q.2.Lo≤q.2.Hi):Ax l=h:=
 Ez (xA hl) hh (fun x hx=>⟨⟨x,hx,wt _⟩,x,hx,wt _⟩) (fun x hx=>⟨⟨x,hx,wt _⟩,x,hx,wt _⟩)
theorem HM (h:jV b ws=[]):rO ws b=6∧rT ws b=⟨0,0⟩:=by
 unfold rO rT;rw [h];exact ⟨c0 rfl,c0 rfl⟩
theorem GP {o:aa} (hl:∀ q∈jV b ws,q.2.Lo≤q.2.Hi) (h:qo (jV b ws) o):rO ws b=0∧rT ws b=o:=by
 have e:=SP (.inr h) hl;unfold rO rT;rw [e];exact ⟨c1 h.ne,c1 h.ne⟩
/-- what was found until now -/
def pL (b:Nat) (ws:List dN) (fd:Bool) (o:aa):Prop:=(fd=false∧jV b ws=[])∨(fd=true∧qo (jV b ws) o)
theorem LD {o:aa}:pL b [] false o:= .inl ⟨rfl,rfl⟩
theorem EW (hq:q.2.Lo≤q.2.Hi):qo [q] q.2:=⟨hq,⟨q,sm,rfl⟩,⟨q,sm,rfl⟩,fun x hx=>by simp at hx;subst hx;exact ⟨wt _,wt _⟩⟩
theorem DG {l:List (Int×aa)} (hh:qo l h) (hq:q.2.Lo≤q.2.Hi):qo (l++[q]) ⟨min q.2.Lo h.Lo,max q.2.Hi h.Hi⟩:=by
 have:=xH (.inr hh) hq;unfold oo at this;rw [c1 hh.ne] at this;rcases this with ⟨e,_⟩|this
 ·simp at e
 ·exact this
theorem HK {o:aa} (h:pL b ws fd o) (hy:y.ia.length≤b):pL b (ws++[y]) fd o:=by
 unfold pL;rw [z6 hy];exact h
theorem Gc {o:aa} (h:pL b ws fd o) (hf:fd=false) (h1:y.ia[b]? =some s) (h2:y.j8[b]? =some f) (h3:y.oD[b]? =some e) (hle:f≤e):pL b (ws++[y]) true ⟨f,e⟩:=by
 rcases h with ⟨_,q⟩|⟨q,_⟩
 ·right;rw [sK h1 h2 h3,q];exact ⟨U,EW hle⟩
 ·rw [q] at hf;cases hf
theorem G8 {o:aa} (h:pL b ws fd o) (hf:fd=true) (h1:y.ia[b]? =some s) (h2:y.j8[b]? =some f) (h3:y.oD[b]? =some e) (hle:f≤e):pL b (ws++[y]) true ⟨min f o.Lo,max e o.Hi⟩:=by
 rcases h with ⟨q,_⟩|⟨_,q⟩
 ·rw [q] at hf;cases hf
 ·right;rw [sK h1 h2 h3];exact ⟨U,DG q hle⟩
theorem CJ {o:aa} (h:pL b ws fd o) (hl:∀ q∈jV b ws,q.2.Lo≤q.2.Hi):(fd=false→rO ws b=6∧rT ws b=⟨0,0⟩)∧(fd=true→rO ws b=0∧rT ws b=o):=by
 rcases h with ⟨q,h⟩|⟨q,h⟩
 ·exact ⟨fun _=>HM h,fun e=>(by rw [q] at e;cases e)⟩
 ·exact ⟨fun e=>(by rw [q] at e;cases e),fun _=>GP hl h⟩
section
variable {l:a_} {r:cW}
theorem M1 (he:fO l r 0=0) (hb:b<l.ag.length):rO (sO l r) b=eT l r b∧rT (sO l r) b=eL l r b:=by
 obtain ⟨A,hr,_,_⟩:=jT he;have h:=Pg A hr hb (xA fun q hq=>AH A hr hq);have ho:fO l r (lT l b)=0:=by rw [KZ hb];exact he
 unfold rO rT;rw [h];by_cases e:o5 l r b=oN
 ·rw [c0 e,c0 e,(tw ho e).1,(tw ho e).2];exact ⟨rfl,rfl⟩
 ·rw [c1 e,c1 e,(tQ ho e).1,(tQ ho e).2];exact ⟨rfl,rfl⟩
theorem V0 (hle:dU l=0) (hr:gl l r) (hy:y∈sO l r) (hb:b<y.ia.length) (h2:y.j8[b]? =some f) (h3:y.oD[b]? =some e):f≤e:=
 AH hle hr (q:=(y.ia[b],⟨f,e⟩)) (pA.2 ⟨y,hy,fh _,h2,h3⟩)
theorem Gr:fO l r (lT l l.b_)=fO l r 0:=by
 by_cases h:dU l=0
 ·obtain ⟨_,A⟩:=ep h;have hh:=A.head;unfold fj at hh;rw [zL I]
 ·rw [n_ h,n_ h]
theorem yJ (h: ¬ fO l r 0=0):eT l r l.b_=fO l r 0:=by
 have:=(nB (b:=l.b_) (by rw [Gr];exact h)).1;rw [this,Gr]
/-- rows of times that are those of ways -/
structure RK (ws:List dN):Prop where
 lens: ∀ y∈ws,y.j8.length=y.ia.length∧y.oD.length=y.ia.length∧y.ia.length≤6
 le: ∀ y∈ws,∀ (b:Nat) f e,b<y.ia.length→y.j8[b]? =some f→y.oD[b]? =some e→f≤e
 num:ws.length≤40000000
theorem RK.JZ (h:RK ws): ∀ q∈jV b ws,q.2.Lo≤q.2.Hi:=fun q hq=>by
 obtain ⟨y,hy,A,B,C⟩:=pA.1 hq;exact h.le y hy b _ _ (aR.1 A).1 B C
theorem Wu (hle:dU l=0) (hr:gl l r):RK (sO l r):=by
 obtain ⟨ht,B⟩:=ep hle;have hh:=B.head;unfold fj at hh;refine ⟨fun y hy=>?_,fun y hy b f e hb A C=>V0 hle hr hy hb A C,x8 hr.len I⟩;obtain ⟨D,A,C⟩:=Nt hle hr hy;exact ⟨D,A,I⟩
end
end
section
open Go.RowKit
variable (l:List dN) (az:List l9)
theorem Fj: ∀ v∈(zipWith dN.cells l az).flatten,v.oneCell'=true:=by
 induction l generalizing az with
 |nil=>intro v hv;simp at hv
 |cons x l ih=>
  cases az with
  |nil=>intro v hv;simp at hv
  |cons a az=>
   intro v hv;simp only [u5,m9,dY] at hv;rcases hv with hv|hv
   ·simp only [dN.cells,Bt.cells,bH,h_,AAr] at hv;rcases hv with rfl|rfl|rfl<;>rfl
   ·exact ih az v hv
theorem Rv: ∀ (m:dN) (a:l9) (w:World),(∀ X∈dN.owns m a,X.holds w)→ ∀ X∈dN.lG m a,X.holds w:=fun m a w h X hX=>by
 simp only [dN.lG,bH,h_,AAr] at hX;have A:=ph (h (own a.1.1 a.1.2 nE 1 (m.ia.map iC)) (by simp [dN.owns]));have B:=ph (h (own a.2.1.1 a.2.1.2 nE 1 (m.j8.map iC)) (by simp [dN.owns]));have C:=ph (h (own a.2.2.1 a.2.2.2 nE 1 (m.oD.map iC)) (by simp [dN.owns]));rcases hX with rfl|rfl|rfl
 ·simpa using A
 ·simpa using B
 ·simpa using C
theorem si: ∀ (l:List dN) (az:List l9),(bx dN.owns l az).all (·.wr)=true
 |[],_=>rfl
 |_::_,[]=>rfl
 |x::l,a::az=>by
  simp only [bx,ACN,dh];exact ⟨U,si l az⟩
theorem ND:(bD (bx dN.owns l az)).wr=true:=si l az
theorem Qn {l m:List dN} {az:List l9} (h:az.length=l.length):zipWith dN.cells (l++m) (az++bz)=zipWith dN.cells l az++zipWith dN.cells m bz:=ACR h.symm
theorem v9 {l:List dN} {az:List l9} (h:az.length=l.length):(zipWith dN.cells l az).length=l.length:=by rw [m4];omega
/-- what is read of a thing that is tied, and frozen -/
theorem rM {L:List ar} {a:OA} {c e sz n:Nat} {es:List (List Value)} (i:Nat) (hC:C[i]? =some (bD L).ro) (hm:own a c e sz es∈L) (hn:es.length=n):ij C (rd a n sz es).holds:=fun w hw=>by
 subst hn;exact ph ((show (bD L).holds w from (hw _ (aF hC):(bD L).ro.holds w)).1 _ hm)
section
variable {E:fM} {ops:Array Oper} {Q:dk} {rest:List Oper} {D:List Deferred} {L:List (Nat×Value)} {C C1:List ar}
theorem St.U6 {C:List ar} (h:St S w0 (bD (X++[A])::C) w):St S w0 (A::bD X::C) w:=by
 have B:=h.iI;have D:St S w0 (X++(A::C)) w:=by simpa using B
 exact D.tied.perm (List.Perm.swap _ _ _)
theorem St.merge {Y C:List ar} (h:St S w0 (bD X::bD Y::C) w):St S w0 (bD (X++Y)::C) w:=by
 have A:St S w0 (bD Y::(X++C)) w:=(h.iI).perm (v5 (a:=bD Y) (l₁:=X) (l₂:=C));have B:St S w0 (Y++(X++C)) w:=A.iI;have D:St S w0 ((X++Y)++C) w:=B.perm (by rw [← append_assoc];exact AAC.append_right _);exact D.tied
end
section
variable {E:fM} {ops:Array Oper} {Q:dk} {rest:List Oper} {D:List Deferred} {L:List (Nat×Value)} {C:List ar}
theorem D1 {X':List ar} (e:X++[A]=X') (h:RJ E ops Q rest D L (bD X'::C)):RJ E ops Q rest D L (A::bD X::C):=fun a w hf hs=>h a w hf (hs.tie e)
theorem C5 (h:RJ E ops Q rest D L (A::bD X::C)):RJ E ops Q rest D L (bD (X++[A])::C):=fun a w hf hs=>h a w hf hs.U6
theorem Nm {ms ns:List dN} {az:List l9} (hl:az.length=ms.length) (h:KJ E K D L (bD (bx dN.owns (ms++ns) (az++bz))::C)):KJ E K D L (bD (bx dN.owns ms az)::bD (bx dN.owns ns bz)::C):=fun a w hf hs=>h a w hf (by rw [lp hl.symm];exact hs.merge)
end
/-- the head of the ways: the way that ends here, if it may -/
def Bm (l:a_) (r:cW) (rs fs:List Int) (ra fa:RA) (hz:List l9) (LA:List ar):Prop:=
 ((r.ab.length:Int)-(dR rs).right≤l.e_∧ ∃ la:RA,hz=[(ra,fa,la)]∧LA=[own la.1 la.2 nE 1 ((ku l r rs).map iC)])∨(¬ (r.ab.length:Int)-(dR rs).right≤l.e_∧hz=[]∧LA=[])
theorem Bm.len {l:a_} (h:Bm l r rs fs ra fa hz LA):hz.length=(iL l r rs fs).length:=by
 unfold iL;rcases h with ⟨q,la,rfl,rfl⟩|⟨q,rfl,rfl⟩
 ·rw [c0 q];rfl
 ·rw [c1 q];rfl
theorem Bm.wr {l:a_} (h:Bm l r rs fs ra fa hz LA):LA.all (·.wr)=true:=by
 rcases h with ⟨q,la,rfl,rfl⟩|⟨q,rfl,rfl⟩<;>rfl
theorem OZ {l:a_} {az:List l9} (hh:Bm l r rs fs ra fa hz LA) (h:St S w0 [bD [own ra.1 ra.2 nE 1 (rs.map iC),own fa.1 fa.2 nE 1 (fs.map iC)],A,bD LA,bD (bx dN.owns R az)] w):St S w0 [bD (bx dN.owns (iL l r rs fs++R) (hz++az)++[A])] w:=by
 rw [lp hh.len.symm];have D:St S w0 [own ra.1 ra.2 nE 1 (rs.map iC),own fa.1 fa.2 nE 1 (fs.map iC),A,bD LA,bD (bx dN.owns R az)] w:=h.iI;rcases hh with ⟨q,la,rfl,rfl⟩|⟨q,rfl,rfl⟩
 ·unfold iL;rw [c0 q];have B:=(St.kT [3,0,1,2,4] rfl rfl D).iI;have E:=(St.kT [4,1,2,0,3] rfl rfl B).iI;have C:St S w0 (((bx dN.owns [(⟨rs,fs,ku l r rs⟩:dN)] [(ra,fa,la)]++bx dN.owns R az)++[A])++[]) w:=by
   rw [AAJ];refine E.perm ?_;show (bx dN.owns R az++(bx dN.owns [(⟨rs,fs,ku l r rs⟩:dN)] [(ra,fa,la)]++[A])).Perm _
   rw [← append_assoc];exact AAC.append_right _
  exact C.tied
 ·unfold iL;rw [c1 q];have B:=(St.kT [4,2] rfl rfl D).iI;have C:St S w0 (((bx dN.owns [] []++bx dN.owns R az)++[A])++[]) w:=by
   rw [AAJ];exact B
  exact C.tied
theorem On {l:a_} {az z:List l9} {A':ar} (hh:Bm l r rs fs ra fa hz LA) (hW:iL l r rs fs++R=W) (hz':hz++az=z) (hA:A=A') (h:KJ E K D L [bD (bx dN.owns W z++[A'])]):KJ E K D L [bD [own ra.1 ra.2 nE 1 (rs.map iC),own fa.1 fa.2 nE 1 (fs.map iC)],A,bD LA,bD (bx dN.owns R az)]:=fun a w hf hs=>h a w hf (by subst hW hz' hA;exact OZ hh hs)
theorem Vq {X:ar} (h:KJ E K D L [bD (bx dN.owns W []++[A])]):KJ E K D L [X,A]:=fun a w hf hs=>h a w hf (by
 have B:St E.S E.w0 [A] w:=St.kT [1] rfl rfl hs;have C:St E.S E.w0 (([]++[A])++[]) w:=B;have e:bx dN.owns W []=[]:=by cases W<;>rfl
 rw [e];exact C.tied)
theorem Ls (e sz:Nat) (k:KJ E K D L (own none 0 e sz []::C)):KJ E K D L C:=fun a w hf hs=>k a w hf (hs.r9 e sz)
end
section
open Go.RowKit
theorem jM (n lo hi:Int):
 de Tryz.prog 124 [(vI n),(vI lo),(vI hi)] [] (vB (decide (lo≤n∧n≤hi))):=by
 refine bg kr Tryz.func124 U U fun B Q hQ hN=>?_
 try dsimp only
 refine aq bS 11 ?_;refine bJ (t:=10) U (aH fun A=>?_) (aG fun A=>?_)
 ·exact cr aj 8 hQ U U<|cB (iw.2 I)
 exact cr aj 8 hQ U U<|cB (bj I).symm
variable (ts:List ai) (tsA:OA) (tsC:Nat) (p q:cY)
theorem EP (hst:∀ x∈ts,bV x) (hlen:ts.length≤12):
 lf Tryz.prog 207 [(vA (aY.cells (aY.mk (aV.mk tsA ts.length tsC))))] [(gQ tsA ts)] (fun (x:(OA)×Nat)=>(vS x.1 ((jf ts (ts.length+1)).length) x.2)) (fun (x:(OA)×Nat)=>True) (fun (x:(OA)×Nat)=>[(wh x.1 x.2 (jf ts (ts.length+1)))]):=by
 refine cR kr Tryz.func207 U U fun L Q hQ hN=>?_
 try dsimp only
 refine aS bS 2 U<|dV U fun K=>aq aj 15 ?_;refine eC 38 2 ?_;have A:(0≤ts.length+1):=by exact c4 _
 refine bu (ι:={z:Nat×(OA)×Nat // (z.1≤ts.length+1)}) [1] [1,2] U U (fun z=>[(3,(vS z.1.2.1 ((jf ts z.1.1).length) z.1.2.2)),(4,(vI (z.1.1:Int)))]) (fun z=>[(wh z.1.2.1 z.1.2.2 (jf ts z.1.1))]) (fun _=>rfl) (fun _=>rfl) (fun z=>ts.length+1-z.1.1) ⟨(0,none,0),A⟩ (aN U) (aB [1,2,0]) ?_;clear A;rintro ⟨⟨i,a,c⟩,B⟩ J6 F
 try dsimp only at B
 try dsimp only
 refine cm bS 10 [] (mc 0 U mn) ?_;refine bE U (aG fun J=>?_) (aH fun J=>?_)
 ·refine aS aW 1 U<|aq fD 4 ?_;obtain rfl:i=ts.length+1:=by omega
  refine aq aj 5 ?_;refine LX hQ (a,c) [2] [] mn U U U U ?_;trivial
 refine dD aW 8 [] (mc 0 U mn) U<|rS (CL (DS ts tsA tsC 0 (i:Int) hst hlen I) (aP [1]) U)<|aS aj 3 U<|AL U dA fun G=>AL U dA fun H=>o8 U cJ U<|eN U cJ U<|cm aj 5 [] (mc 1 U mn) ?_;refine dC (xs:=[.tmp 21]) (cs:=(aa.cells (eW ts (0:Int).toNat ((i:Int)-0).toNat))) U iA dA U U U U (by simp [Value.cells,aa.aC]) U U fun AA=>?_;refine cZ (es2:=(map aa.cells (jf ts (i+1)))) (m':=(jf ts (i+1)).length) 5 U U U Cr U U sm (aM (es:=map aa.cells [(eW ts (0:Int).toNat ((i:Int)-0).toNat)]) 0 U U (by simp [aa.aC]) U) (jF _) (by simp only [qA];omega) (by simp only [maxLen,qA];omega) (by rw [Fp];simp) sm U fun D E=>?_
 try dsimp only
 refine aq aj 9 ?_;have C:(vI (((i+1):Nat):Int))=(vI ((i:Int)+1)):=by exact cI I
 refine aL (F ⟨((i+1),D,E),(by first|omega|(simp only [];omega))⟩ _ _ _ U os (cS.cons U<|cS.cons U<|aQ U C<|cS.nil _) (aB [3,4,5]))
theorem YL (s:cY) (hlen:ts.length≤1000000) (hside:∀ x∈ts,0≤x.gp∧x.gp≤255):
 de Tryz.prog 168 [(vA (aY.cells (aY.mk (aV.mk tsA ts.length tsC)))),(vA (cY.cells s))] [(gQ tsA ts)] (vT [(vA (aa.cells (U4 ts s))),(vI (Jv ts s))]):=by
 refine bg kr Tryz.func168 U U fun h Q hQ hN=>?_
 try dsimp only
 refine aS bS 2 U<|dV U fun Y=>dV U fun a=>AL U dA fun b=>dD aj 7 [] (mc 2 U mn) U<|rS (CL (zg ts tsA tsC hlen) (aP [3]) U)<|aq aj 3 ?_;refine bY U (fun G=>?_) (fun G=>?_)
 ·rw [e0] at G;refine aS aW 2 U<|rS (SX (aU (xs:=[]) (cs:=(aa.cells (aa.mk 0 0))) U U (aT gP U)) U U)<|eN U cJ U<|aq aj 4 ?_;refine mU hQ [0] (mc 0 U mn) U ?_
  (have e:=Ny (s:=s) (by simpa using G);rw [e.1,e.2]<;>rfl)
 rw [m5] at G;refine aq aW 5 ?_;have K:=jK G;have P:=kv G;refine dD aj 2 [0,1] (mc 2 U (mc 1 U mn)) U<|rS (CL (uz ts tsA tsC s asm asm) (aP [3]) U)<|aq aj 3 ?_;refine bY U (aJ fun C=>?_) (aK fun C=>?_)
 ·refine aS aW 2 U<|rS (SX (aU (xs:=[]) (cs:=(aa.cells (aa.mk 0 0))) U U (aT gP U)) U U)<|eN U cJ U<|aq aj 4 ?_;refine mU hQ [0] (mc 0 U mn) U ?_
  (have e:=OC G C;rw [e.1,e.2]<;>rfl)
 refine aq aW 3 ?_;refine mh bX [0,2,3] [1,4,5,6,7] [false,false,false] [] [(cb b 38 (aa.cells (aa.mk 0 0))),(cb a 111 (cY.cells s)),(cb Y 24 (aY.cells (aY.mk (aV.mk tsA ts.length tsC)))),(gQ tsA ts).ro] [] kr (aB [0,1,2,3]) (aB []) ?_;have g:=C.1;have L:=tS K C;have f:(jf ts (ts.length+1)).length=ts.length+1:=qA;refine eS U (LW 2 U bP U U)<|eS U (FA 0 U eB U)<|eS U (L1 (vI s.bk) 1 U bP U U)<|dI U<|nF [1,6] kr (iT ?_<|iT ?_<|re);rotate_left 1
 ·refine NO U U [1,4,5,7] fun T12 H=>AL U dA fun V=>RD H 1 U<|N1 1<|NO U U [4,5,7] fun T14 M=>cX (EP ts tsA tsC asm asm) (aP [4]) U fun O S=>?_;obtain ⟨AA,d⟩:=O
  try dsimp only
  refine RD M 2 U<|N1 4<|NO U U [5,7] fun T19 D=>?_;obtain ⟨z,hz⟩:=ax (jf ts (ts.length+1)) ((s.bk).toNat) I;have A:=bw aa.cells hz;refine rS (IA ((s.bk).toNat) U (ak (n:=(jf ts (ts.length+1)).length) 0 U sm) iA dc I I)<|RD D 2 U<|N1 5<|NO U U [7] fun T20 E=>rS (ld ((s.bk).toNat) 0 (aa.cells z) U bP (ak (n:=(jf ts (ts.length+1)).length) 0 U sm) A U dc U U)<|RD E 2 U<|N1 7<|NO U U [] fun T21 B=>o8 U cJ U<|RD B 2 U<|mC<|aq jE 4 ?_;have A:=sv hz;have F:=nY K 0 s.bk.toNat;unfold ni at L;rw [← A] at F;refine dD aj 11 [0,1,0,1] (mc 1 U (mc 3 U mn)) U<|rS (SX (aU (xs:=[(0,.tmp 27),(1,.tmp 33)]) (cs:=(aa.cells (aa.mk (z.Lo+s.mM.Lo) (z.Hi+s.mM.Hi)))) U U (aT gP U)) U U)<|Ec U cJ U<|aq aj 4 ?_;refine mU hQ [0] (mc 2 U mn) U ?_
  (have e:=zV G C;subst A;rw [e.1,e.2]<;>rfl)
 refine NO U U [4,5,6,7] fun T12 H=>cX (EP ts tsA tsC asm asm) (aP [3]) U fun N R=>?_;obtain ⟨T,c⟩:=N
 try dsimp only
 refine RD H 1 U<|nF [4,6] kr (iT ?_<|iT ?_<|re);rotate_left 1
 ·refine NO U U [4,5,7] fun T17 AB=>AL U dA fun W=>RD AB 2 U<|N1 4<|NO U U [5,7] fun T19 D=>?_;obtain ⟨z,hz⟩:=ax (jf ts (ts.length+1)) ((s.bk).toNat) I;have A:=bw aa.cells hz;refine rS (IA ((s.bk).toNat) U (ak (n:=(jf ts (ts.length+1)).length) 1 U sm) iA dc I I)<|RD D 2 U<|N1 5<|NO U U [7] fun T20 E=>rS (ld ((s.bk).toNat) 0 (aa.cells z) U bP (ak (n:=(jf ts (ts.length+1)).length) 1 U sm) A U dc U U)<|RD E 2 U<|N1 7<|NO U U [] fun T21 B=>eN U cJ U<|RD B 2 U<|mC<|aq jE 4 ?_;have A:=sv hz;have F:=nY K 0 s.bk.toNat;unfold ni at L;rw [← A] at F;refine dD aj 11 [0,1,0,1] (mc 0 U (mc 3 U mn)) U<|rS (SX (aU (xs:=[(0,.tmp 27),(1,.tmp 33)]) (cs:=(aa.cells (aa.mk (z.Lo+s.mM.Lo) (z.Hi+s.mM.Hi)))) U U (aT gP U)) U U)<|Ec U cJ U<|aq aj 4 ?_;refine mU hQ [0] (mc 2 U mn) U ?_
  (have e:=zV G C;subst A;rw [e.1,e.2]<;>rfl)
 refine NO U U [5,6,7] fun T17 AB=>?_;obtain ⟨z,hz⟩:=ax (jf ts (ts.length+1)) ((s.bk).toNat) I;have A:=bw aa.cells hz;refine rS (IA ((s.bk).toNat) U (ak (n:=(jf ts (ts.length+1)).length) 0 U sm) iA dc I I)<|RD AB 1 U<|nF [5,6] kr (iT ?_<|iT ?_<|re);rotate_left 1
 ·refine NO U U [5,7] fun T18 J=>AL U dA fun X=>RD J 2 U<|N1 5<|NO U U [7] fun T20 E=>rS (ld ((s.bk).toNat) 0 (aa.cells z) U bP (ak (n:=(jf ts (ts.length+1)).length) 1 U sm) A U dc U U)<|RD E 2 U<|N1 7<|NO U U [] fun T21 B=>eN U cJ U<|RD B 2 U<|mC<|aq jE 4 ?_;have A:=sv hz;have F:=nY K 0 s.bk.toNat;unfold ni at L;rw [← A] at F;refine dD aj 11 [0,1,0,1] (mc 0 U (mc 3 U mn)) U<|rS (SX (aU (xs:=[(0,.tmp 27),(1,.tmp 33)]) (cs:=(aa.cells (aa.mk (z.Lo+s.mM.Lo) (z.Hi+s.mM.Hi)))) U U (aT gP U)) U U)<|Ec U cJ U<|aq aj 4 ?_;refine mU hQ [0] (mc 2 U mn) U ?_
  (have e:=zV G C;subst A;rw [e.1,e.2]<;>rfl)
 refine NO U U [6,7] fun T18 J=>rS (ld ((s.bk).toNat) 0 (aa.cells z) U bP (ak (n:=(jf ts (ts.length+1)).length) 0 U sm) A U dc U U)<|RD J 1 U<|N1 6<|NO U U [7] fun T19 D=>AL U dA fun Z=>RD D 2 U<|N1 7<|NO U U [] fun T21 B=>eN U cJ U<|RD B 2 U<|mC<|aq jE 4 ?_;have A:=sv hz;have F:=nY K 0 s.bk.toNat;unfold ni at L;rw [← A] at F;refine dD aj 11 [0,1,0,1] (mc 0 U (mc 3 U mn)) U<|rS (SX (aU (xs:=[(0,.tmp 27),(1,.tmp 33)]) (cs:=(aa.cells (aa.mk (z.Lo+s.mM.Lo) (z.Hi+s.mM.Hi)))) U U (aT gP U)) U U)<|Ec U cJ U<|aq aj 4 ?_;refine mU hQ [0] (mc 2 U mn) U ?_
 (have e:=zV G C;subst A;rw [e.1,e.2]<;>rfl)
theorem Lf (hlen:ts.length≤1000000) (hside:∀ x∈ts,0≤x.gp∧x.gp≤255) (hord:¬ q.bk<p.bk):
 de Tryz.prog 169 [(vA (aY.cells (aY.mk (aV.mk tsA ts.length tsC)))),(vA (cY.cells p)),(vA (cY.cells q))] [(gQ tsA ts)] (vT [(vA (aa.cells (mq ts p q))),(vI (nA ts p q))]):=by
 refine bg kr Tryz.func169 U U fun AA Q hQ hN=>?_
 try dsimp only
 refine aS bS 2 U<|dV U fun P=>dV U fun R=>dV U fun S=>AL U dA fun T=>dD aj 7 [] (mc 3 U mn) U<|rS (CL (zg ts tsA tsC hlen) (aP [4]) U)<|aq aj 3 ?_;refine bY U (fun A=>?_) (fun A=>?_)
 ·rw [e0] at A;refine aS aW 2 U<|rS (SX (aU (xs:=[]) (cs:=(aa.cells (aa.mk 0 0))) U U (aT gP U)) U U)<|eN U cJ U<|aq aj 4 ?_;refine mU hQ [0] (mc 0 U mn) U ?_
  (have e:=xQ (a:=p) (b:=q) (by simpa using A);rw [e.1,e.2]<;>rfl)
 rw [m5] at A;refine aq aW 5 ?_;have D:=jK A;have F:=kv A;refine dD aj 2 [0,1] (mc 3 U (mc 2 U mn)) U<|rS (CL (uz ts tsA tsC p asm asm) (aP [4]) U)<|aq aj 2 ?_;refine bJ (t:=20) U (aJ fun B=>?_) (aK fun B=>?_)
 ·refine aS aj 10 U<|rS (SX (aU (xs:=[]) (cs:=(aa.cells (aa.mk 0 0))) U U (aT gP U)) U U)<|eN U cJ U<|aq aj 4 ?_;refine mU hQ [0] (mc 0 U mn) U ?_
  (have e:=qP (a:=p) (b:=q) A (fun h=>by first|exact B h.1|exact C h.2);rw [e.1,e.2]<;>rfl)
 refine dD aj 2 [0,1] (mc 3 U (mc 1 U mn)) U<|rS (CL (uz ts tsA tsC q asm asm) (aP [4]) U)<|aq aj 4 ?_;refine bY U (aJ fun C=>?_) (aK fun C=>?_)
 ·refine aS aW 2 U<|rS (SX (aU (xs:=[]) (cs:=(aa.cells (aa.mk 0 0))) U U (aT gP U)) U U)<|eN U cJ U<|aq aj 4 ?_;refine mU hQ [0] (mc 0 U mn) U ?_
  (have e:=qP (a:=p) (b:=q) A (fun h=>by first|exact B h.1|exact C h.2);rw [e.1,e.2]<;>rfl)
 refine aq aW 5 ?_;have H:gr ts p∧gr ts q:=⟨B,C⟩;have G:=tS D B;have AB:=tS D C;have N:=B.1;have O:=C.1;have L:=Bc D F C B;unfold ni at G AB;refine cm aj 7 [0,1] (mc 1 U (mc 2 U mn)) ?_;refine bY U (aH fun E=>?_) (aG fun E=>?_)
 ·exfalso;omega
 refine cm aW 6 [] (mc 3 U mn) ?_;have M:=nY D p.bk.toNat (q.bk-p.bk).toNat;refine dD aj 3 [0,1] (mc 2 U (mc 1 U mn)) U<|rS (CL (DS ts tsA tsC p.bk q.bk asm asm I) (aP [4]) U)<|aS aj 3 U<|AL U dA fun J=>AL U dA fun K=>o8 U cJ U<|eN U cJ U<|dD aj 24 [0,1,2,0,1,2] (mc 1 U (mc 3 U (mc 4 U mn))) U<|rS (SX (aU (xs:=[(0,.tmp 64),(1,.tmp 74)]) (cs:=(aa.cells (aa.mk ((((eW ts p.bk.toNat (q.bk-p.bk).toNat).Lo)+q.mM.Lo)-p.mM.Hi) ((((eW ts p.bk.toNat (q.bk-p.bk).toNat).Hi)+q.mM.Hi)-p.mM.Lo)))) U U (aT gP U)) U U)<|Ec U cJ U<|aq aj 4 ?_;refine mU hQ [0] (mc 2 U mn) U ?_
 (have e:=mW A H;rw [e.1,e.2,tO E]<;>rfl)
theorem Qq (hlen:ts.length≤1000000) (hside:∀ x∈ts,0≤x.gp∧x.gp≤255):
 de Tryz.prog 169 [(vA (aY.cells (aY.mk (aV.mk tsA ts.length tsC)))),(vA (cY.cells p)),(vA (cY.cells q))] [(gQ tsA ts)] (vT [(vA (aa.cells (mq ts p q))),(vI (nA ts p q))]):=by
 refine bg kr Tryz.func169 U U fun Z Q hQ hN=>?_
 try dsimp only
 refine aS bS 2 U<|dV U fun V=>dV U fun W=>dV U fun X=>AL U dA fun Y=>dD aj 7 [] (mc 3 U mn) U<|rS (CL (zg ts tsA tsC hlen) (aP [4]) U)<|aq aj 3 ?_;refine bY U (fun A=>?_) (fun A=>?_)
 ·rw [e0] at A;refine aS aW 2 U<|rS (SX (aU (xs:=[]) (cs:=(aa.cells (aa.mk 0 0))) U U (aT gP U)) U U)<|eN U cJ U<|aq aj 4 ?_;refine mU hQ [0] (mc 0 U mn) U ?_
  (have e:=xQ (a:=p) (b:=q) (by simpa using A);rw [e.1,e.2]<;>rfl)
 rw [m5] at A;refine aq aW 5 ?_;have D:=jK A;have G:=kv A;refine dD aj 2 [0,1] (mc 3 U (mc 2 U mn)) U<|rS (CL (uz ts tsA tsC p asm asm) (aP [4]) U)<|aq aj 2 ?_;refine bJ (t:=20) U (aJ fun B=>?_) (aK fun B=>?_)
 ·refine aS aj 10 U<|rS (SX (aU (xs:=[]) (cs:=(aa.cells (aa.mk 0 0))) U U (aT gP U)) U U)<|eN U cJ U<|aq aj 4 ?_;refine mU hQ [0] (mc 0 U mn) U ?_
  (have e:=qP (a:=p) (b:=q) A (fun h=>by first|exact B h.1|exact C h.2);rw [e.1,e.2]<;>rfl)
 refine dD aj 2 [0,1] (mc 3 U (mc 1 U mn)) U<|rS (CL (uz ts tsA tsC q asm asm) (aP [4]) U)<|aq aj 4 ?_;refine bY U (aJ fun C=>?_) (aK fun C=>?_)
 ·refine aS aW 2 U<|rS (SX (aU (xs:=[]) (cs:=(aa.cells (aa.mk 0 0))) U U (aT gP U)) U U)<|eN U cJ U<|aq aj 4 ?_;refine mU hQ [0] (mc 0 U mn) U ?_
  (have e:=qP (a:=p) (b:=q) A (fun h=>by first|exact B h.1|exact C h.2);rw [e.1,e.2]<;>rfl)
 refine aq aW 5 ?_;have H:gr ts p∧gr ts q:=⟨B,C⟩;have AB:=tS D B;have J:=tS D C;have T:=B.1;have AA:=C.1;have R:=Bc D G C B;unfold ni at AB J;refine cm aj 7 [0,1] (mc 1 U (mc 2 U mn)) ?_;refine bY U (aH fun E=>?_) (aG fun E=>?_)
 ·refine dD aW 5 [0,1,2] (mc 3 U (mc 1 U (mc 2 U mn))) U<|rS (CL (Lf ts tsA tsC q p hlen hside I) (aP [4]) U)<|aS aj 3 U<|AL U dA fun M=>eN U cJ U<|cm aj 7 [] (mc 0 U mn) ?_;have F:mq ts q p=lu ts q p:=(mW A ⟨C,B⟩).2;have K: -400000≤(mq ts q p).Lo∧(mq ts q p).Hi≤400000:=by rw [F];omega
  have L:(mq ts q p).Lo≤(mq ts q p).Hi:=by rw [F];omega
  refine rS (NG U ⟨I,I⟩)<|dD aj 2 [] (mc 0 U mn) U<|rS (NG U ⟨I,I⟩)<|rS (SX (aU (xs:=[(0,.tmp 41),(1,.tmp 44)]) (cs:=(aa.cells (aa.mk (-((mq ts q p).Hi)) (-((mq ts q p).Lo))))) U U (aT gP U)) U U)<|o8 U cJ U<|aq aj 4 ?_;refine mU hQ [0] (mc 1 U mn) U ?_
  (have e:=mW A H;have P:=mW A ⟨C,B⟩;rw [e.1,e.2,P.2,GL E]<;>rfl)
 refine cm aW 6 [] (mc 3 U mn) ?_;have S:=nY D p.bk.toNat (q.bk-p.bk).toNat;refine dD aj 3 [0,1] (mc 2 U (mc 1 U mn)) U<|rS (CL (DS ts tsA tsC p.bk q.bk asm asm I) (aP [4]) U)<|aS aj 3 U<|AL U dA fun N=>AL U dA fun O=>o8 U cJ U<|eN U cJ U<|dD aj 24 [0,1,2,0,1,2] (mc 1 U (mc 3 U (mc 4 U mn))) U<|rS (SX (aU (xs:=[(0,.tmp 64),(1,.tmp 74)]) (cs:=(aa.cells (aa.mk ((((eW ts p.bk.toNat (q.bk-p.bk).toNat).Lo)+q.mM.Lo)-p.mM.Hi) ((((eW ts p.bk.toNat (q.bk-p.bk).toNat).Hi)+q.mM.Hi)-p.mM.Lo)))) U U (aT gP U)) U U)<|Ec U cJ U<|aq aj 4 ?_;refine mU hQ [0] (mc 2 U mn) U ?_
 (have e:=mW A H;rw [e.1,e.2,tO E]<;>rfl)
end
section
open Go.RowKit
variable (l:a_) (kA:OA) (kC:Nat) (az:List RA) (cA:OA) (cC:Nat) (bA:OA) (bC:Nat)
theorem PW (hraw:wa l az):
 de Tryz.prog 52 [(vA (bU.cells (kN l kA kC cA cC bA bC)))] (rE l kA az cA bA) (vB (decide (nH l))):=by
 have O:=hraw.sS;have N:=hraw.sT;have L:=hraw.mD;have M:=hraw.sU;refine bg kr Tryz.func52 U U fun R Q hQ hN=>?_
 try dsimp only
 refine aS bS 2 U<|dV U fun P=>aS aj 7 U<|rS (LP (aY.cells (aY.mk (aV.mk kA l.bW.length kC))) 0 U bP U U U)<|rS (CL (Tl l.bW kA kC) (aP [1]) U)<|aq aj 1 ?_;refine bJ (t:=7) U (aH fun K=>?_) (aG fun K=>?_)
 ·exact cr aj 20 hQ U U<|cB (cT (.inl I)).symm
 refine cm aj 6 [] (mc 0 U mn) ?_;refine bJ (t:=13) U (aH fun C=>?_) (aG fun C=>?_)
 ·exact cr aj 14 hQ U U<|cB (cT (.inl I)).symm
 refine cm aj 7 [] (mc 0 U mn) ?_;refine bY U (aH fun G=>?_) (aG fun G=>?_)
 ·exact cr aW 6 hQ U U<|cB (cT (.inl I)).symm
 refine aq aW 9 ?_;have A:(0≤l.aD.length)∧(DV l 0):=by exact ⟨c4 _,fun j c hj=>absurd hj (s4 _)⟩
 refine bu (ι:={z:Nat // (z≤l.aD.length)∧(DV l z)}) [1] [0,1,2,3,4] U U (fun z=>[(3,(vI (z.1:Int)))]) (fun z=>[]) (fun _=>rfl) (fun _=>rfl) (fun z=>l.aD.length-z.1) ⟨0,A⟩ (aN U) (aB [0,1,2,3,4]) ?_;clear A;rintro ⟨i,⟨H,B⟩⟩ J10 E
 try dsimp only
 refine cm bS 10 [] (mc 0 U mn) ?_;refine bE U (aG fun C=>?_) (aH fun C=>?_)
 ·exact aS aW 1 U<|cr fD 8 hQ U U<|cB (bj (O7 I I B)).symm
 refine cm aW 9 [] (mc 0 U mn) ?_;obtain ⟨x,hx⟩:=ax l.aD i I;obtain ⟨xa,AA⟩:=ax az i I;have J:(zipWith aX.cells l.aD az)[i]? =some (aX.cells x xa):=cD hx AA;refine rS (IA i U (au 2 U) xK dc I I)<|rS (pV ((i*2)+1) U (au 2 U) (e6 I dc) eB U)<|rS (gG i 1 (vS xa.1 x.bo.length xa.2) U bP (au 2 U) J U dc U)<|aq aj 4 ?_;refine bY U (aH fun D=>?_) (aG fun D=>?_)
 ·exact cr aW 6 hQ U U<|cB (cT (Ns hx D)).symm
 refine aq aW 8 ?_;have F:(vI (((i+1):Nat):Int))=(vI ((i:Int)+1)):=by exact cI I
 refine aL (E ⟨(i+1),⟨I,nM B hx I⟩⟩ _ _ _ U os (cS.cons U<|aQ U F<|cS.nil _) (aB [0,1,2,3,4]))
theorem zO (d m:Int) (hd:0≤d∧d≤1000) (hm:0≤m∧m≤90000000):
 de Tryz.prog 167 [(vI d),(vI m)] [] (vI (qB (d*m) 1000000)):=by
 have D:=As (a:=d) (b:=m) (A:=1000) (B:=90000000) hd.1 hd.2 hm.1 hm.2;refine bg kr Tryz.func167 U U fun E Q hQ hN=>?_
 try dsimp only
 refine aS bS 9 U<|rS (BI U (nq ⟨I,I⟩))<|aS aj 7 U<|rS (BI U (P_ I I))<|aq aj 3 ?_;refine bY U (aH fun C=>?_) (aG fun C=>?_)
 ·exact aS aW 3 U<|rS (BI U (sM I I I))<|cr aj 5 hQ U U<|cI (by unfold qB;omega)
 exact aS aW 5 U<|rS (BI U (sM I I I))<|cr aj 4 hQ U U<|cI (by unfold qB;omega)
theorem N4 (c:aX) (sA:OA) (sC:Nat) (hlen:c.bo.length≤1000000):
 de Tryz.prog 125 [(vA (dB.cells (dB.mk c.dG (aV.mk sA c.bo.length sC))))] [(nG sA c.bo)] (vB (decide (fF c))):=by
 refine bg kr Tryz.func125 U U fun w0 Q hQ hN=>?_
 try dsimp only
 refine aS bS 2 U<|dV U fun b2=>dD aj 8 [] (mc 0 U mn) U<|rS (CL (jM c.dG 0 1000) (aA) U)<|aq aj 2 ?_;refine bJ (t:=14) U (aJ fun f=>?_) (aK fun f=>?_)
 ·exact cr aj 15 hQ U U<|cB (bj fun h=>by have q1:=h.uV;have q2:=h.len;omega).symm
 refine dD aj 3 [] (mc 0 U mn) U<|rS (CL (jM (c.bo.length:Int) 1 5) (aA) U)<|aq aj 4 ?_;refine bY U (aJ fun g=>?_) (aK fun g=>?_)
 ·exact cr aW 6 hQ U U<|cB (bj fun h=>by have q1:=h.uV;have q2:=h.len;omega).symm
 refine aq aW 9 ?_;have A:(0≤c.bo.length)∧(∀ (j:Nat) y,j<0→c.bo[j]? =some y→gn c j y):=by exact ⟨c4 _,fun j y hj=>absurd hj (s4 _)⟩
 refine bu (ι:={z:Nat // (z≤c.bo.length)∧(∀ (j:Nat) y,j<z→c.bo[j]? =some y→gn c j y)}) [1] [0,1] U U (fun z=>[(3,(vI (z.1:Int)))]) (fun z=>[]) (fun _=>rfl) (fun _=>rfl) (fun z=>c.bo.length-z.1) ⟨0,A⟩ (aN U) (aB [0,1]) ?_;clear A;rintro ⟨i,⟨S,B⟩⟩ J9 W
 try dsimp only
 have An:=QI S B;refine cm bS 10 [] (mc 0 U mn) ?_;refine bY U (aH fun l=>?_) (aG fun l=>?_)
 ·refine cm aW 9 [] (mc 0 U mn) ?_;obtain ⟨x,hx⟩:=ax c.bo i I;have T:=bw dj.cells hx;refine rS (IA i U (au 1 U) po dc I I)<|rS (ld i 0 (dj.cells x) U bP (au 1 U) T U dc U U)<|AL U vd fun AO=>eN U wv U<|aS aj 3 U<|cK bX 41 kr<|jZ 2 [] (mc 0 U mn) U<|dS (CL (jM x.At 0 86400000) (aA) U)<|dP 2 [] mn ?_;refine iJ (t:=37) U (aJ fun n=>?_) (aK fun n=>?_)
  ·exact iR 36 U<|cy<|cr aj 9 hQ U U<|cB (bj fun h=>by have q:=h.sync i x hx;unfold gn at q;(rw [gY I] at q;omega)).symm
  refine dP 3 [] mn ?_;refine iQ (t:=40) U (aG fun p=>?_) (aH fun p=>?_)
  ·refine dP 19 [] (mc 0 U mn) ?_;refine iJ (t:=59) U (aH fun N=>?_) (aG fun N=>?_)
   ·exact iR 14 U<|cy<|cr aj 9 hQ U U<|cB (bj fun h=>by have q:=h.sync i x hx;unfold gn at q;(rw [gY I] at q;omega)).symm
   refine dP 9 [] (mc 0 U mn) ?_;refine iJ (t:=68) U (aH fun O=>?_) (aG fun O=>?_)
   ·exact iR 5 U<|cy<|cr aj 9 hQ U U<|cB (bj fun h=>by have q:=h.sync i x hx;unfold gn at q;(rw [gY I] at q;omega)).symm
   refine jZ 5 [] (mc 0 U mn) U<|cy<|aq aj 2 ?_;refine bE U (aG fun R=>?_) (aH fun R=>?_)
   ·refine aq aW 8 ?_;have Y:(vI (((i+1):Nat):Int))=(vI ((i:Int)+1)):=by exact cI I
    refine aL (W ⟨(i+1),⟨I,nM B hx (by unfold gn;(rw [gY I];omega))⟩⟩ _ _ _ U os (cS.cons U<|aQ U Y<|cS.nil _) (aB [1,2]))
   exact cr aW 6 hQ U U<|cB (bj fun h=>by have q:=h.sync i x hx;unfold gn at q;(rw [gY I] at q;omega)).symm
  refine dP 6 [0,1] (mc 0 U (mc 1 U mn)) ?_;obtain ⟨y,hy⟩:=ax c.bo (i-1) I;have AA:=bw dj.cells hy;refine dS (IA (i-1) U (au 2 U) po dc I I)<|dS (pV ((i-1)*3) U (au 2 U) (e6 I dc) eB U)<|dS (gG (i-1) 0 (vI y.At) U bP (au 2 U) AA U dc U)<|dP 4 [] mn ?_;refine iJ (t:=53) U (aH fun r=>?_) (aG fun r=>?_)
  ·exact iR 20 U<|cy<|cr aj 9 hQ U U<|cB (bj fun h=>by have q:=h.sync i x hx;unfold gn at q;(rw [Be I hy] at q;omega)).symm
  refine dP 6 [] (mc 0 U mn) ?_;refine iJ (t:=59) U (aH fun N=>?_) (aG fun N=>?_)
  ·exact iR 14 U<|cy<|cr aj 9 hQ U U<|cB (bj fun h=>by have q:=h.sync i x hx;unfold gn at q;(rw [gY I] at q;omega)).symm
  refine dP 9 [] (mc 0 U mn) ?_;refine iJ (t:=68) U (aH fun O=>?_) (aG fun O=>?_)
  ·exact iR 5 U<|cy<|cr aj 9 hQ U U<|cB (bj fun h=>by have q:=h.sync i x hx;unfold gn at q;(rw [gY I] at q;omega)).symm
  refine jZ 5 [] (mc 0 U mn) U<|cy<|aq aj 2 ?_;refine bE U (aG fun R=>?_) (aH fun R=>?_)
  ·refine aq aW 8 ?_;have X:(vI (((i+1):Nat):Int))=(vI ((i:Int)+1)):=by exact cI I
   refine aL (W ⟨(i+1),⟨I,nM B hx (by unfold gn;(rw [Be I hy];omega))⟩⟩ _ _ _ U os (cS.cons U<|aQ U X<|cS.nil _) (aB [1,2]))
  exact cr aW 6 hQ U U<|cB (bj fun h=>by have q:=h.sync i x hx;unfold gn at q;(rw [gY I] at q;omega)).symm
 refine aS aW 1 U<|aq fD 9 ?_;have A:(0≤c.bo.length)∧(wy c 0):=by exact ⟨c4 _,fun j y hj=>absurd hj (s4 _)⟩
 refine bu (ι:={z:Nat // (z≤c.bo.length)∧(wy c z)}) [1] [0,1] U U (fun z=>[(5,(vI (z.1:Int)))]) (fun z=>[]) (fun _=>rfl) (fun _=>rfl) (fun z=>c.bo.length-z.1) ⟨0,A⟩ (aN U) (aB [0,1]) ?_;clear A;rintro ⟨m,⟨a,E⟩⟩ J28 V
 try dsimp only
 have D:=AV (P:=gn c) I B;refine cm bS 10 [] (mc 0 U mn) ?_;refine bE U (aG fun s=>?_) (aH fun s=>?_)
 ·exact aS aW 1 U<|cr fD 8 hQ U U<|cB (cT (MS I I (AV I B) I E)).symm
 refine aq aW 10 ?_;have A:(0≤m)∧(∀ y,c.bo[m]? =some y→IF c y 0):=by exact ⟨c4 _,fun y _ j o hj=>absurd hj (s4 _)⟩
 refine bu (ι:={z:Nat // (z≤m)∧(∀ y,c.bo[m]? =some y→IF c y z)}) [1,5] [0,1] U U (fun z=>[(6,(vI (z.1:Int)))]) (fun z=>[]) (fun _=>rfl) (fun _=>rfl) (fun z=>m-z.1) ⟨0,A⟩ (aN U) (aB [0,1]) ?_;clear A;rintro ⟨k,⟨b,C⟩⟩ J33 M
 try dsimp only
 refine aq bS 8 ?_;refine bE U (aG fun u=>?_) (aH fun u=>?_)
 ·refine aS aW 1 U<|aq fD 8 ?_;have Z:(vI (((m+1):Nat):Int))=(vI ((m:Int)+1)):=by exact cI I
  refine aL (V ⟨(m+1),⟨I,Ia E C I⟩⟩ _ _ _ U os (cS.cons U<|aQ U Z<|cS.nil _) (aB [0,1]))
 refine aq aW 5 ?_;refine mh bX [0,1,2,3,4,5,6,7,8,9] [10,11,12,13] [false,false,false,false,false,false,false,false,false,false] [] [(cb b2 109 (dB.cells (dB.mk c.dG (aV.mk sA c.bo.length sC)))),(nG sA c.bo).ro] [] kr (aB [0,1]) (aB [])<|eS U (FA 1 U eB U)<|eS U (L1 (vS sA c.bo.length sC) 0 U bP U U)<|eS U (MV U) ?_;obtain ⟨x,hx⟩:=ax c.bo k I;have T:=bw dj.cells hx;refine eS U (IA k U (au 1 U) po dc I I)<|eS U (ld k 0 (dj.cells x) U bP (au 1 U) T U dc U U)<|eS U (FA 1 U eB U)<|eS U (L1 (vS sA c.bo.length sC) 0 U bP U U)<|eS U (MV U) ?_;obtain ⟨y,hy⟩:=ax c.bo m I;have AA:=bw dj.cells hy;refine eS U (IA m U (au 1 U) po dc I I)<|eS U (ld m 0 (dj.cells y) U bP (au 1 U) AA U dc U U)<|dI U<|nF [10,11] kr (iT ?_<|iT ?_<|re);rotate_left 1
 ·refine NO U U [10,12,13] fun T38 H=>AL U vd fun d=>RD H 1 U<|N1 10<|NO U U [12,13] fun T40 AB=>AL U vd fun e=>RD AB 2 U<|N1 12<|NO U U [13] fun T42 J=>eN U wv U<|RD J 2 U<|N1 13<|NO U U [] fun T43 K=>o8 U wv U<|RD K 2 U<|mC<|cm jE 9 [0,1,2] (mc 2 U (mc 1 U (mc 0 U mn))) ?_;obtain ⟨v,w,AC⟩:=x_ (fun j z _ hz=>D j z hz) hy (D _ _ hy) (show k<m by omega) hx;refine aS aj 1 U<|rS (CL (zO c.dG (y.At-x.At) I I) (aA) U)<|cm aj 15 [0,1] (mc 0 U (mc 1 U mn)) ?_;refine bJ (t:=113) U (aH fun F=>?_) (aG fun F=>?_)
  ·exact cr aj 19 hQ U U<|cB (bj fun h=>by have q:=h.pair m k y x hy I hx;unfold qs at q;omega).symm
  refine cm aj 12 [0,1] (mc 1 U (mc 0 U mn)) ?_;refine bE U (aG fun G=>?_) (aH fun G=>?_)
  ·refine aq aW 8 ?_;have L:(vI (((k+1):Nat):Int))=(vI ((k:Int)+1)):=by exact cI I
   refine aL (M ⟨(k+1),⟨I,fun z hz=>by rw [hy] at hz;cases hz;exact nM (C _ hy) hx (by unfold qs;omega)⟩⟩ _ _ _ rfl os (cS.cons rfl<|cS.cons rfl<|aQ rfl L<|cS.nil _) (aB [2,3]))
  exact cr aW 6 hQ U U<|cB (bj fun h=>by have q:=h.pair m k y x hy I hx;unfold qs at q;omega).symm
 refine NO U U [11,12,13] fun T38 H=>AL U vd fun d=>RD H 1 U<|N1 11<|NO U U [12,13] fun T40 AB=>AL U vd fun e=>RD AB 2 U<|N1 12<|NO U U [13] fun T42 J=>o8 U wv U<|RD J 2 U<|N1 13<|NO U U [] fun T43 K=>eN U wv U<|RD K 2 U<|mC<|cm jE 9 [0,1,2] (mc 2 U (mc 0 U (mc 1 U mn))) ?_;obtain ⟨v,w,AC⟩:=x_ (fun j z _ hz=>D j z hz) hy (D _ _ hy) (show k<m by omega) hx;refine aS aj 1 U<|rS (CL (zO c.dG (y.At-x.At) I I) (aA) U)<|cm aj 15 [0,1] (mc 1 U (mc 0 U mn)) ?_;refine bJ (t:=113) U (aH fun F=>?_) (aG fun F=>?_)
 ·exact cr aj 19 hQ U U<|cB (bj fun h=>by have q:=h.pair m k y x hy I hx;unfold qs at q;omega).symm
 refine cm aj 12 [0,1] (mc 0 U (mc 1 U mn)) ?_;refine bE U (aG fun G=>?_) (aH fun G=>?_)
 ·refine aq aW 8 ?_;have L:(vI (((k+1):Nat):Int))=(vI ((k:Int)+1)):=by exact cI I
  refine aL (M ⟨(k+1),⟨I,fun z hz=>by rw [hy] at hz;cases hz;exact nM (C _ hy) hx (by unfold qs;omega)⟩⟩ _ _ _ rfl os (cS.cons rfl<|cS.cons rfl<|aQ rfl L<|cS.nil _) (aB [2,3]))
 exact cr aW 6 hQ U U<|cB (bj fun h=>by have q:=h.pair m k y x hy I hx;unfold qs at q;omega).symm
theorem Ek (c:aX) (sA:OA) (sC:Nat) (at_:Int) (hc:fF c) (ha:0≤at_∧at_≤90000000):
 de Tryz.prog 275 [(vA (dB.cells (dB.mk c.dG (aV.mk sA c.bo.length sC)))),(vI at_)] [(nG sA c.bo)] (vA (aa.cells (jo c at_))):=by
 have P:=hc.len;have AB:=hc.uV;refine bg kr Tryz.func275 U U fun AA Q hQ hN=>?_
 try dsimp only
 refine aS bS 2 U<|dV U fun S=>AL U dA fun T=>aS aj 4 U<|AL U dA fun O=>aq aj 9 ?_;have A:(0≤c.bo.length):=by exact c4 _
 refine bu (ι:={z:Nat // (z≤c.bo.length)}) [1,2,4,5] [1,2,3] U U (fun z=>[(6,(vI (z.1:Int)))]) (fun z=>[(cb O 38 (aa.cells (my c at_ z.1)))]) (fun _=>rfl) (fun _=>rfl) (fun z=>c.bo.length-z.1) ⟨0,A⟩ (aN U) (aB [1,2,3,0]) ?_;clear A;rintro ⟨i,J⟩ J8 B
 try dsimp only
 refine cm bS 10 [] (mc 1 U mn) ?_;refine bE U (aG fun G=>?_) (aH fun G=>?_)
 ·refine aS aW 1 U<|dD fD 5 [] (mc 3 U mn) U<|eN U cJ U<|aq aj 3 ?_;refine GG hQ [0] (mc 0 U mn) U ?_;rw [H0 hc (show c.bo.length≤i by omega)]
 refine cm aW 9 [] (mc 1 U mn) ?_;obtain ⟨x,hx⟩:=ax c.bo i I;have L:=bw dj.cells hx;refine rS (IA i U (au 2 U) po dc I I)<|rS (ld i 0 (dj.cells x) U bP (au 2 U) L U dc U U)<|AL U vd fun M=>eN U wv U<|cm aj 6 [] (mc 2 U mn) ?_;have K:=hc.xZ hx;have R:0≤qB (c.dG*max (at_-x.At) (x.At-at_)) 1000000∧qB (c.dG*max (at_-x.At) (x.At-at_)) 1000000≤90001:=xU AB ha K.1;refine dD aj 8 [] (mc 0 U mn) U<|rS (MX U)<|rS (CL (zO c.dG (max (at_-x.At) (x.At-at_)) I I) (aA) U)<|dD aj 15 [] (mc 0 U mn) U<|rS (SX (aU (xs:=[(0,.tmp 38),(1,.tmp 43)]) (cs:=(aa.cells (aa.mk (x.er.Lo-(qB (c.dG*(max (at_-x.At) (x.At-at_))) 1000000)) (x.er.Hi+(qB (c.dG*(max (at_-x.At) (x.At-at_))) 1000000))))) U U (aT gP U)) U U)<|AL U dA fun N=>eN U cJ U<|aq aj 9 ?_;refine bE U (aG fun H=>?_) (aH fun H=>?_)
 ·refine dD aW 7 [0,1] (mc 5 U (mc 0 U mn)) U<|rS (MX U)<|dD aj 4 [0,1] (mc 5 U (mc 0 U mn)) U<|rS (MN U)<|rS (SX (aU (xs:=[(0,.tmp 52),(1,.tmp 57)]) (cs:=(aa.cells (aa.mk (max ((my c at_ i).Lo) (x.er.Lo-(qB (c.dG*(max (at_-x.At) (x.At-at_))) 1000000))) (min ((my c at_ i).Hi) (x.er.Hi+(qB (c.dG*(max (at_-x.At) (x.At-at_))) 1000000)))))) U U (aT gP U)) U U)<|MK U cJ U<|aq aj 3 ?_;have E:(aa.cells (aa.mk (max ((my c at_ i).Lo) (x.er.Lo-(qB (c.dG*(max (at_-x.At) (x.At-at_))) 1000000))) (min ((my c at_ i).Hi) (x.er.Hi+(qB (c.dG*(max (at_-x.At) (x.At-at_))) 1000000)))))=(aa.cells (my c at_ (i+1))):=by exact c7 aa.cells (FC hx I).symm
  rw [E];refine aq aW 5 ?_;have F:(vI (((i+1):Nat):Int))=(vI ((i:Int)+1)):=by exact cI I
  refine aL (B ⟨(i+1),(by first|omega|(simp only [];omega))⟩ _ _ _ U os (cx 4<|aQ U F<|cS.nil _) (aB [2,3,4,5]))
 refine dD aW 2 [] (mc 0 U mn) U<|MK U cJ U<|dD aj 7 [0,1] (mc 5 U (mc 0 U mn)) U<|rS (MX U)<|dD aj 4 [0,1] (mc 5 U (mc 0 U mn)) U<|rS (MN U)<|rS (SX (aU (xs:=[(0,.tmp 52),(1,.tmp 57)]) (cs:=(aa.cells (aa.mk (max (x.er.Lo-(qB (c.dG*(max (at_-x.At) (x.At-at_))) 1000000)) (x.er.Lo-(qB (c.dG*(max (at_-x.At) (x.At-at_))) 1000000))) (min (x.er.Hi+(qB (c.dG*(max (at_-x.At) (x.At-at_))) 1000000)) (x.er.Hi+(qB (c.dG*(max (at_-x.At) (x.At-at_))) 1000000)))))) U U (aT gP U)) U U)<|MK U cJ U<|aq aj 3 ?_;have C:(aa.cells (aa.mk (max (x.er.Lo-(qB (c.dG*(max (at_-x.At) (x.At-at_))) 1000000)) (x.er.Lo-(qB (c.dG*(max (at_-x.At) (x.At-at_))) 1000000))) (min (x.er.Hi+(qB (c.dG*(max (at_-x.At) (x.At-at_))) 1000000)) (x.er.Hi+(qB (c.dG*(max (at_-x.At) (x.At-at_))) 1000000)))))=(aa.cells (my c at_ (i+1))):=by exact c7 aa.cells (DR hc ha hx I).symm
 rw [C];refine aq aW 5 ?_;have D:(vI (((i+1):Nat):Int))=(vI ((i:Int)+1)):=by exact cI I
 refine aL (B ⟨(i+1),(by first|omega|(simp only [];omega))⟩ _ _ _ U os (cx 4<|aQ U D<|cS.nil _) (aB [2,3,4,5]))
theorem Px (n:Int) (hin:dW l az) (htr:cE l.bW=true) (hbk:∀ b∈l.ag,lB l b) (hn:0≤n∧n<(l.ag.length:Int)):
 de Tryz.prog 127 [(vA (bU.cells (kN l kA kC cA cC bA bC))),(vI n)] (rE l kA az cA bA) (vI (mL l n.toNat)):=by
 have M:=hin.sS;have K:=hin.sT;have AA:=hin.mD;have J:=hin.sU;have L:=hin.side;refine bg kr Tryz.func127 U U fun P Q hQ hN=>?_
 try dsimp only
 refine aS bS 2 U<|dV U fun N=>aq aj 10 ?_;refine bY U (aH fun D=>?_) (aG fun D=>?_)
 ·refine aq aW 1 ?_;refine cP bX [11,12] [] [] [0,1,2,3,4] [] U U U U U<|eS U (FA 0 U eB U)<|eS U (LP (aY.cells (aY.mk (aV.mk kA l.bW.length kC))) 0 U bP U U U)<|eS U (FA 3 U eB U)<|eS U (L1 (vS bA l.ag.length bC) 0 U bP U U) ?_;obtain ⟨y,hy⟩:=ax l.ag 0 I;have A:=bw dT.cells hy;refine eS U (IA 0 U (au 4 U) wN dc U I)<|eS U (pV (0*4) U (au 4 U) (e6 I dc) eB U)<|eS U (ld 0 0 (cY.cells y.mx) U bP (au 4 U) A U dc U U)<|eS U (CL (YL l.bW kA kC y.mx asm asm) (aP [1]) U)<|eS U (MV U)<|eS U (EX U)<|eS U (EX U)<|eS U (AG U)<|dI U<|bQ U fun T6 E=>AL U dA fun O=>bG (E _ _ (aB [1,2,3,4,5]) ?_);refine bQ U fun T8 F=>eN U cJ U<|bG (F _ _ (aB [1,2,3,4,5]) ?_);refine eJ U<|yY jE 9 hQ [] (mc 0 U mn) U U ?_
  (refine c7 (Value.int .i64) ?_;rw [show n.toNat=0 by omega];rw [xX hy,(zV htr (hbk _ (List.mem_of_getElem? hy)).1).2])
 refine aq aW 3 ?_;refine cP bX [19,20] [] [] [0,1,2,3,4] [] U U U U U<|eS U (FA 0 U eB U)<|eS U (LP (aY.cells (aY.mk (aV.mk kA l.bW.length kC))) 0 U bP U U U)<|eS U (FA 3 U eB U)<|eS U (L1 (vS bA l.ag.length bC) 0 U bP U U)<|eS U (MV U)<|eS U (BI U (wK ⟨I,I⟩)) ?_;obtain ⟨y,hy⟩:=ax l.ag (((n-1)).toNat) I;have A:=bw dT.cells hy;refine eS U (IA (((n-1)).toNat) U (au 4 U) wN dc I I)<|eS U (pV ((((n-1)).toNat)*4) U (au 4 U) (e6 I dc) eB U)<|eS U (ld (((n-1)).toNat) 0 (cY.cells y.mx) U bP (au 4 U) A U dc U U)<|eS U (FA 3 U eB U)<|eS U (L1 (vS bA l.ag.length bC) 0 U bP U U)<|eS U (MV U) ?_;obtain ⟨x,hx⟩:=ax l.ag ((n).toNat) I;have G:=bw dT.cells hx;refine eS U (IA ((n).toNat) U (au 4 U) wN dc I I)<|eS U (pV (((n).toNat)*4) U (au 4 U) (e6 I dc) eB U)<|eS U (ld ((n).toNat) 0 (cY.cells x.mx) U bP (au 4 U) G U dc U U)<|eS U (CL (Qq l.bW kA kC y.mx x.mx asm asm) (aP [1]) U)<|eS U (MV U)<|eS U (EX U)<|eS U (EX U)<|eS U (AG U)<|dI U<|bQ U fun T11 B=>AL U dA fun H=>bG (B _ _ (aB [1,2,3,4,5]) ?_);refine bQ U fun T13 C=>eN U cJ U<|bG (C _ _ (aB [1,2,3,4,5]) ?_);refine eJ U<|yY jE 9 hQ [] (mc 0 U mn) U U ?_
 (refine c7 (Value.int .i64) ?_;rw [Ey I hx (by rw [show n.toNat-1=(n-1).toNat by omega];exact hy),(mW htr ⟨(hbk _ (List.mem_of_getElem? hy)).1,(hbk _ (List.mem_of_getElem? hx)).1⟩).2])
theorem Qc (n:Int) (hin:dW l az) (htr:cE l.bW=true) (hok:nP l) (hn:0≤n∧n<(l.ag.length:Int)):
 de Tryz.prog 265 [(vA (bU.cells (kN l kA kC cA cC bA bC))),(vI n)] (rE l kA az cA bA) (vI (ew l n.toNat)):=by
 have E:=hin.sS;have D:=hin.sT;have B:=hin.mD;have C:=hin.sU;have A:=hok.head;unfold fj at A;have F:=CZ htr hok.vt n.toNat;have G:=hok.TZ n.toNat I;refine bg kr Tryz.func265 U U fun AA Q hQ hN=>?_
 try dsimp only
 exact aS bS 2 U<|dV U fun H=>aS aj 4 U<|cK bX 12 kr<|jZ 2 [] (mc 0 U mn) U<|dS (CL (Px l kA kC az cA cC bA bC n hin htr (by exact hok.vt) hn) (aP [1,2,3,4]) U)<|dS (BI U (nq ⟨I,I⟩))<|jZ 6 [] (mc 0 U mn) U<|dS (BI U (sM I I I))<|iR 1 U<|cy<|cr aj 3 hQ U U<|cI (by unfold ew qB;rw [Int.mul_comm])
theorem RW (hin:dW l az) (htr:cE l.bW=true):
 de Tryz.prog 87 [(vA (bU.cells (kN l kA kC cA cC bA bC)))] (rE l kA az cA bA) (vB (decide (nP l))):=by
 have v:=hin.sS;have p:=hin.sT;have g:=hin.mD;have o:=hin.sU;have r:=hin.side;have s:=jK htr;have f:=kv htr;refine bg kr Tryz.func87 U U fun w0 Q hQ hN=>?_
 try dsimp only
 refine aS bS 2 U<|dV U fun b2=>dD aj 8 [] (mc 0 U mn) U<|rS (CL (jM l.g7 1 5000) (aA) U)<|aq aj 2 ?_;refine bJ (t:=10) U (aJ fun S=>?_) (aK fun S=>?_)
 ·exact cr aj 44 hQ U U<|cB (bj fun h=>by have q:=h.head;unfold fj at q;omega).symm
 refine dD aj 3 [] (mc 0 U mn) U<|rS (CL (jM (l.aD.length:Int) 1 4) (aA) U)<|aq aj 3 ?_;refine bJ (t:=17) U (aJ fun T=>?_) (aK fun T=>?_)
 ·exact cr aj 37 hQ U U<|cB (bj fun h=>by have q:=h.head;unfold fj at q;omega).symm
 refine dD aj 3 [] (mc 0 U mn) U<|rS (CL (jM (l.ag.length:Int) 1 6) (aA) U)<|aq aj 3 ?_;refine bJ (t:=24) U (aJ fun AA=>?_) (aK fun AA=>?_)
 ·exact cr aj 30 hQ U U<|cB (bj fun h=>by have q:=h.head;unfold fj at q;omega).symm
 refine dD aj 6 [] (mc 0 U mn) U<|rS (CL (jM l.b_ 0 ((l.ag.length:Int)-1)) (aA) U)<|aq aj 3 ?_;refine bJ (t:=34) U (aJ fun V=>?_) (aK fun V=>?_)
 ·exact cr aj 20 hQ U U<|cB (bj fun h=>by have q:=h.head;unfold fj at q;omega).symm
 refine dD aj 2 [] (mc 0 U mn) U<|rS (CL (jM l.e_ 0 3) (aA) U)<|aq aj 3 ?_;refine bJ (t:=40) U (aJ fun W=>?_) (aK fun W=>?_)
 ·exact cr aj 14 hQ U U<|cB (bj fun h=>by have q:=h.head;unfold fj at q;omega).symm
 refine dD aj 2 [] (mc 0 U mn) U<|rS (CL (jM l.di 0 3) (aA) U)<|aq aj 4 ?_;refine bY U (aJ fun X=>?_) (aK fun X=>?_)
 ·exact cr aW 6 hQ U U<|cB (bj fun h=>by have q:=h.head;unfold fj at q;omega).symm
 refine aq aW 9 ?_;have A:(0≤l.aD.length)∧(∀ (j:Nat) y,j<0→l.aD[j]? =some y→fF y):=by exact ⟨c4 _,fun j y hj=>absurd hj (s4 _)⟩
 refine bu (ι:={z:Nat // (z≤l.aD.length)∧(∀ (j:Nat) y,j<z→l.aD[j]? =some y→fF y)}) [1] [0,1,2,3,4] U U (fun z=>[(3,(vI (z.1:Int)))]) (fun z=>[]) (fun _=>rfl) (fun _=>rfl) (fun z=>l.aD.length-z.1) ⟨0,A⟩ (aN U) (aB [0,1,2,3,4]) ?_;clear A;rintro ⟨i,⟨c,E⟩⟩ J13 AB
 try dsimp only
 refine cm bS 10 [] (mc 0 U mn) ?_;refine bY U (aH fun Y=>?_) (aG fun Y=>?_)
 ·refine cm aW 9 [] (mc 0 U mn) ?_;obtain ⟨x,hx⟩:=ax l.aD i I;obtain ⟨xa,H⟩:=ax az i I;have e:(zipWith aX.cells l.aD az)[i]? =some (aX.cells x xa):=cD hx H;refine rS (IA i U (au 2 U) xK dc I I)<|rS (ld i 0 (dB.cells (dB.mk x.dG (aV.mk xa.1 x.bo.length xa.2))) U bP (au 2 U) e U dc U U) ?_;have u:=(hin.U8 _ _ _ hx H).2;refine rS (CL (N4 x xa.1 xa.2 asm) (aw (show ij _ (nG xa.1 x.bo).holds from (ct 3 U (bq hx H (by simp [aX.lG]))))<|aA) U)<|aq aj 3 ?_;refine bE U (aK fun G=>?_) (aJ fun G=>?_)
  ·refine aq aW 8 ?_;have L:(vI (((i+1):Nat):Int))=(vI ((i:Int)+1)):=by exact cI I
   refine aL (AB ⟨(i+1),⟨I,nM (P:=fun _ y=>fF y) E hx G⟩⟩ _ _ _ U os (cS.cons U<|aQ U L<|cS.nil _) (aB [0,1,2,3,4]))
  exact cr aW 6 hQ U U<|cB (bj fun h=>G (h.clock _ (aF hx))).symm
 refine aS aW 1 U<|aq fD 9 ?_;have A:(0≤l.ag.length)∧(∀ (j:Nat) y,j<0→l.ag[j]? =some y→lB l y):=by exact ⟨c4 _,fun j y hj=>absurd hj (s4 _)⟩
 refine bu (ι:={z:Nat // (z≤l.ag.length)∧(∀ (j:Nat) y,j<z→l.ag[j]? =some y→lB l y)}) [1] [0,1,2,3,4] U U (fun z=>[(4,(vI (z.1:Int)))]) (fun z=>[]) (fun _=>rfl) (fun _=>rfl) (fun z=>l.ag.length-z.1) ⟨0,A⟩ (aN U) (aB [0,1,2,3,4]) ?_;clear A;rintro ⟨m,⟨d,B⟩⟩ J22 J
 try dsimp only
 refine cm bS 10 [] (mc 0 U mn) ?_;refine bE U (aG fun Z=>?_) (aH fun Z=>?_)
 ·refine aS aW 1 U<|aq fD 9 ?_;have A:(0≤l.ag.length)∧(∀ j,j<0→1≤mL l j):=by exact ⟨c4 _,fun j hj=>absurd hj (s4 _)⟩
  refine bu (ι:={z:Nat // (z≤l.ag.length)∧(∀ j,j<z→1≤mL l j)}) [1] [0,1,2,3,4] U U (fun z=>[(5,(vI (z.1:Int)))]) (fun z=>[]) (fun _=>rfl) (fun _=>rfl) (fun z=>l.ag.length-z.1) ⟨0,A⟩ (aN U) (aB [0,1,2,3,4]) ?_;clear A;rintro ⟨n,⟨R,C⟩⟩ J32 K
  try dsimp only
  have k:=Aw (P:=lB l) I B;refine cm bS 10 [] (mc 0 U mn) ?_;refine bE U (aG fun b=>?_) (aH fun b=>?_)
  ·exact aS aW 1 U<|cr fD 8 hQ U U<|cB (cT (C8 (by unfold fj;omega) (Aw I E) (Aw I B) (fun j hj=>C j I))).symm
  refine dD aW 8 [] (mc 0 U mn) U<|rS (CL (Px l kA kC az cA cC bA bC (n:Int) hin htr asm I) (aP [1,2,3,4]) U)<|aq aj 3 ?_;refine bE U (aG fun D=>?_) (aH fun D=>?_)
  ·refine aq aW 8 ?_;have N:(vI (((n+1):Nat):Int))=(vI ((n:Int)+1)):=by exact cI I
   refine aL (K ⟨(n+1),⟨I,fun j hj=>by rcases r4 j n with q|q;exact C j q;(obtain rfl:j=n:=by omega);simp only [AAP] at D;omega⟩⟩ _ _ _ rfl os (cS.cons rfl<|aQ rfl N<|cS.nil _) (aB [0,1,2,3,4]))
  exact cr aW 6 hQ U U<|cB (bj fun h=>by have q:=h.TZ n I;simp only [AAP] at D;omega).symm
 refine aS aW 5 U<|cK bX 24 kr<|iR 1 U<|dS (LP (aY.cells (aY.mk (aV.mk kA l.bW.length kC))) 0 U bP U U U)<|dP 3 [] (mc 0 U mn) ?_;obtain ⟨y,hy⟩:=ax l.ag m I;have O:=bw dT.cells hy;refine dS (IA m U (au 4 U) wN dc I I)<|dS (pV (m*4) U (au 4 U) (e6 I dc) eB U)<|dS (ld m 0 (cY.cells y.mx) U bP (au 4 U) O U dc U U)<|dS (CL (uz l.bW kA kC y.mx asm asm) (aP [1]) U)<|dP 2 [] mn ?_;refine iJ (t:=77) U (aJ fun F=>?_) (aK fun F=>?_)
 ·exact iR 13 U<|cy<|cr aj 9 hQ U U<|cB (bj fun h=>by have q:=h.vt _ (aF hy);have w:=q.2;first|exact F q.1|omega).symm
 refine jZ 3 [] (mc 0 U mn) U<|dS (IA m U (au 4 U) wN dc I I)<|dS (pV ((m*4)+3) U (au 4 U) (e6 I dc) eB U)<|dS (gG m 3 (vI y.kE) U bP (au 4 U) O U dc U)<|jZ 4 [] (mc 0 U mn) U<|dS (CL (jM y.kE 0 ((l.aD.length:Int)-1)) (aA) U)<|iR 2 U<|cy<|aq aj 2 ?_;refine bE U (aK fun a=>?_) (aJ fun a=>?_)
 ·refine aq aW 8 ?_;have M:(vI (((m+1):Nat):Int))=(vI ((m:Int)+1)):=by exact cI I
  refine aL (J ⟨(m+1),⟨I,nM (P:=fun _ y=>lB l y) B hy ⟨F,I,I⟩⟩⟩ _ _ _ U os (cS.cons U<|aQ U M<|cS.nil _) (aB [0,1,2,3,4]))
 exact cr aW 6 hQ U U<|cB (bj fun h=>by have q:=h.vt _ (aF hy);have w:=q.2;first|exact F q.1|omega).symm
end
section
open Go.RowKit
variable (l:a_) (kA:OA) (kC:Nat) (az:List RA) (cA:OA) (cC:Nat) (bA:OA) (bC:Nat) (s:aZ)
theorem wo (hin:dW l az):
 de Tryz.prog 42 [(vA (bU.cells (kN l kA kC cA cC bA bC)))] (rE l kA az cA bA) (vI (dU l)):=by
 have F:=hin.sS;have E:=hin.sT;have C:=hin.mD;have D:=hin.sU;refine bg kr Tryz.func42 U U fun H Q hQ hN=>?_
 try dsimp only
 refine aS bS 2 U<|dV U fun G=>aS aj 7 U<|rS (LP (aY.cells (aY.mk (aV.mk kA l.bW.length kC))) 0 U bP U U U)<|rS (CL (zg l.bW kA kC asm) (aP [1]) U)<|aq aj 3 ?_;refine bY U (fun A=>?_) (fun A=>?_)
 ·rw [e0] at A;exact cr aW 6 hQ U U<|cI (CD (by simpa using A)).symm
 rw [m5] at A;refine dD aW 6 [] (mc 0 U mn) U<|rS (CL (RW l kA kC az cA cC bA bC hin asm) (aP [1,2,3,4]) U)<|aq aj 3 ?_;refine bY U (aJ fun B=>?_) (aK fun B=>?_)
 ·exact cr aW 6 hQ U U<|cI (tH A B).symm
 exact cr aW 8 hQ U U<|cI (Bl A B).symm
theorem Tr (hin:dW l az) (hok:nP l) (hs:(0≤s.fR∧s.fR≤(l.ag.length:Int)-1)∧0≤s.Read∧s.Read≤86400000):
 de Tryz.prog 266 [(vA (bU.cells (kN l kA kC cA cC bA bC))),(vA (aZ.cells s))] (rE l kA az cA bA) (vT [(vA (aa.cells (du l s))),(vB (decide ((du l s).Lo≤(du l s).Hi)))]):=by
 have c:=hin.sS;have Z:=hin.sT;have X:=hin.mD;have Y:=hin.sU;refine bg kr Tryz.func266 U U fun k Q hQ hN=>?_
 try dsimp only
 refine aS bS 2 U<|dV U fun g=>dV U fun h=>AL U dA fun i=>aq aj 4 ?_;refine cP bX [11,12] [] [] [0,1,2,3,4,5,6] [] U U U U U<|eS U (FA 2 U eB U)<|eS U (L1 (vS cA l.aD.length cC) 2 U bP U U)<|eS U (FA 3 U eB U)<|eS U (L1 (vS bA l.ag.length bC) 2 U bP U U)<|eS U (FA 0 U eB U)<|eS U (L1 (vI s.fR) 1 U bP U U) ?_;obtain ⟨y,hy⟩:=ax l.ag ((s.fR).toNat) I;have V:=bw dT.cells hy;refine eS U (IA ((s.fR).toNat) U (au 6 U) wN dc I I)<|eS U (pV ((((s.fR).toNat)*4)+3) U (au 6 U) (e6 I dc) eB U)<|eS U (gG ((s.fR).toNat) 3 (vI y.kE) U bP (au 6 U) V U dc U) ?_;have f:=(hok.vt _ (aF hy)).2;obtain ⟨x,hx⟩:=ax l.aD ((y.kE).toNat) I;obtain ⟨xa,J⟩:=ax az ((y.kE).toNat) I;have AA:(zipWith aX.cells l.aD az)[(y.kE).toNat]? =some (aX.cells x xa):=cD hx J;refine eS U (IA ((y.kE).toNat) U (au 4 U) xK dc I I)<|eS U (ld ((y.kE).toNat) 0 (dB.cells (dB.mk x.dG (aV.mk xa.1 x.bo.length xa.2))) U bP (au 4 U) AA U dc U U)<|dI U<|bQ U fun T6 R=>AL U zK fun j=>bG (R _ _ (aB [1,2,3,4,5,6,7]) ?_);refine bQ U fun T8 S=>eN U B4 U<|bG (S _ _ (aB [1,2,3,4,5,6,7]) ?_);refine eJ U<|aq jE 9 ?_;have A:(0≤(0:Int)∧(0:Int)≤(gS (iW x s.Read) 86400001))∧((gS (iW x s.Read) 86400001)≤(86400001:Int)∧(86400001:Int)≤86400001):=by (have L:=jL (p:=iW x s.Read) (n:=86400001);omega)
 refine bu (ι:={z:Int×Int // (0≤z.1∧z.1≤(gS (iW x s.Read) 86400001))∧((gS (iW x s.Read) 86400001)≤z.2∧z.2≤86400001)}) [2,3,4,6] [0,1,2,3,4,5,6,7] U U (fun z=>[(7,(vI z.1.1)),(8,(vI z.1.2))]) (fun z=>[]) (fun _=>rfl) (fun _=>rfl) (fun z=>(z.1.2-z.1.1).toNat) ⟨((0:Int),(86400001:Int)),A⟩ (aN U) (aB [0,1,2,3,4,5,6,7]) ?_;clear A;rintro ⟨⟨a,b⟩,⟨H,AB⟩⟩ J11 F
 try dsimp only at H AB
 try dsimp only
 have B:=hok.clock _ (aF hx);have L:=jL (p:=iW x s.Read) (n:=86400001);have K:=jL (p:=iU x s.Read) (n:=86400001);refine aq bS 8 ?_;refine bY U (aH fun M=>?_) (aG fun M=>?_)
 ·refine aS aW 8 U<|rS (BI U (sM I I I))<|aS aj 4 U<|cK bX 9 kr<|dP 3 [] (mc 0 U mn) ?_;refine dS (CL (Ek x xa.1 xa.2 ((a+b)/2) asm I) (aw (show ij _ (nG xa.1 x.bo).holds from (ct 6 U (bq hx J (by simp [aX.lG]))))<|aA) U)<|dS (SX (oW (v:=(vI ((jo x ((a+b)/2)).Hi))) U U eB Nf U) U U) ?_;have T:=tY B (show 0≤(a+b)/2∧(a+b)/2≤90000000 by omega);refine jZ 4 [] (mc 2 U mn) U<|cy<|aq aj 2 ?_;refine bY U (aH fun O=>?_) (aG fun O=>?_)
  ·refine aq aW 5 ?_;refine aL (F ⟨(a,((a+b)/2)),(by dsimp only;have hm:=mH (r:=s.Read) B (x:=(a+b)/2) I I;rcases AAe ((a+b)/2) (gS (iW x s.Read) 86400001) with q|q;(have C:=hm.1 q;simp only [iW,AAz] at C;omega);(have C:=hm.2.1 q;simp only [iW,r0] at C;omega))⟩ _ _ _ rfl (by simp only [];omega) (aN rfl) (aB [0,1,2,3,4,5,6,7]))
  refine aq aW 6 ?_;refine aL (F ⟨((((a+b)/2)+1),b),(by dsimp only;have hm:=mH (r:=s.Read) B (x:=(a+b)/2) I I;rcases AAe ((a+b)/2) (gS (iW x s.Read) 86400001) with q|q;(have C:=hm.1 q;simp only [iW,AAz] at C;omega);(have C:=hm.2.1 q;simp only [iW,r0] at C;omega))⟩ _ _ _ rfl (by simp only [];omega) (aN rfl) (aB [0,1,2,3,4,5,6,7]))
 refine aS aW 1 U<|aq fD 16 ?_;have A:(-1≤((-1):Int)∧((-1):Int)≤(gS (iU x s.Read) 86400001)-1)∧((gS (iU x s.Read) 86400001)-1≤(86400000:Int)∧(86400000:Int)≤86400000):=by (have K:=jL (p:=iU x s.Read) (n:=86400001);omega)
 refine bu (ι:={z:Int×Int // (-1≤z.1∧z.1≤(gS (iU x s.Read) 86400001)-1)∧((gS (iU x s.Read) 86400001)-1≤z.2∧z.2≤86400000)}) [2,3,4,6,10] [0,1,2,3,4,5,6,7] U U (fun z=>[(7,(vI z.1.1)),(8,(vI z.1.2))]) (fun z=>[]) (fun _=>rfl) (fun _=>rfl) (fun z=>(z.1.2-z.1.1).toNat) ⟨(((-1):Int),(86400000:Int)),A⟩ (aN U) (aB [0,1,2,3,4,5,6,7]) ?_;clear A;rintro ⟨⟨d,e⟩,⟨D,E⟩⟩ J20 G
 try dsimp only at D E
 try dsimp only
 have B:=hok.clock _ (aF hx);have L:=jL (p:=iW x s.Read) (n:=86400001);have K:=jL (p:=iU x s.Read) (n:=86400001);refine aq bS 8 ?_;refine bE U (aG fun N=>?_) (aH fun N=>?_)
 ·refine aS aW 1 U<|aS fD 6 U<|rS (SX (aU (xs:=[(0,.tmp 63),(1,.tmp 64)]) (cs:=(aa.cells (aa.mk a d))) U U (aT gP U)) U U)<|aS aj 3 U<|o8 U cJ U<|aq aj 4 ?_;refine mU hQ [0] (mc 1 U mn) U ?_;have W:du l s=⟨a,d⟩:=by (unfold du EB;rw [zQ hy hx,show a=(gS (iW x s.Read) 86400001) by omega,show d=(gS (iU x s.Read) 86400001)-1 by omega])
  rw [W]
 refine aS aW 9 U<|rS (BI U (sM I I I))<|aS aj 4 U<|cK bX 9 kr<|dP 3 [] (mc 0 U mn) ?_;refine dS (CL (Ek x xa.1 xa.2 (((d+e)+1)/2) asm I) (aw (show ij _ (nG xa.1 x.bo).holds from (ct 6 U (bq hx J (by simp [aX.lG]))))<|aA) U)<|dS (SX (oW (v:=(vI ((jo x (((d+e)+1)/2)).Lo))) U U eB Du U) U U) ?_;have T:=tY B (show 0≤(d+e+1)/2∧(d+e+1)/2≤90000000 by omega);refine jZ 4 [] (mc 2 U mn) U<|cy<|aq aj 2 ?_;refine bY U (aH fun P=>?_) (aG fun P=>?_)
 ·refine aq aW 5 ?_;refine aL (G ⟨((((d+e)+1)/2),e),(by dsimp only;have hm:=mH (r:=s.Read) B (x:=(d+e+1)/2) I I;rcases AAe ((d+e+1)/2) (gS (iU x s.Read) 86400001) with q|q;(have C:=hm.2.2.1 q;simp only [iU,AAz] at C;omega);(have C:=hm.2.2.2 q;simp only [iU,r0] at C;omega))⟩ _ _ _ rfl (by simp only [];omega) (aN rfl) (aB [0,1,2,3,4,5,6,7]))
 refine aq aW 6 ?_;refine aL (G ⟨(d,((((d+e)+1)/2)-1)),(by dsimp only;have hm:=mH (r:=s.Read) B (x:=(d+e+1)/2) I I;rcases AAe ((d+e+1)/2) (gS (iU x s.Read) 86400001) with q|q;(have C:=hm.2.2.1 q;simp only [iU,AAz] at C;omega);(have C:=hm.2.2.2 q;simp only [iU,r0] at C;omega))⟩ _ _ _ rfl (by simp only [];omega) (aN rfl) (aB [0,1,2,3,4,5,6,7]))
end
section
open Go.RowKit
theorem Ta (l:a_) (kA:OA) (kC:Nat) (az:List RA) (cA:OA) (cC:Nat) (bA:OA) (bC:Nat) (r:cW) (sgA:OA) (sgC:Nat) (hin:dW l az) (hsl:r.ab.length≤1000000):
 de Tryz.prog 253 [(vA (bU.cells (kN l kA kC cA cC bA bC))),(vA (dx.cells (jR r sgA sgC)))] ((rE l kA az cA bA)++[(gR sgA r.ab)]) (vB (decide (gl l r))):=by
 have a:=hin.sS;have Z:=hin.sT;have X:=hin.mD;have Y:=hin.sU;refine bg kr Tryz.func253 U U fun d Q hQ hN=>?_
 try dsimp only
 refine aS bS 2 U<|dV U fun b=>dV U fun c=>dD aj 8 [] (mc 0 U mn) U<|rS (CL (jM r.Start 0 86400000) (aA) U)<|aq aj 2 ?_;refine bJ (t:=11) U (aJ fun AB=>?_) (aK fun AB=>?_)
 ·exact cr aj 22 hQ U U<|cB (bj fun q=>by have B:=q.time;have V:=q.len;omega).symm
 refine dD aj 4 [] (mc 0 U mn) U<|rS (CL (jM r.hU r.Start 86400000) (aA) U)<|aq aj 3 ?_;refine bJ (t:=19) U (aJ fun K=>?_) (aK fun K=>?_)
 ·exact cr aj 14 hQ U U<|cB (bj fun q=>by have B:=q.time;have V:=q.len;omega).symm
 refine cm aj 7 [] (mc 0 U mn) ?_;refine bY U (aH fun L=>?_) (aG fun L=>?_)
 ·exact cr aW 6 hQ U U<|cB (bj fun q=>by have B:=q.time;have V:=q.len;omega).symm
 refine aq aW 9 ?_;have D:(0≤r.ab.length)∧(qq l r.ab 0):=by exact ⟨c4 _,xC⟩
 refine bu (ι:={z:Nat // (z≤r.ab.length)∧(qq l r.ab z)}) [2,3] [0,1,2,3,4,5,6] U U (fun z=>[(5,(vI (z.1:Int)))]) (fun z=>[]) (fun _=>rfl) (fun _=>rfl) (fun z=>r.ab.length-z.1) ⟨0,D⟩ (aN U) (aB [0,1,2,3,4,5,6]) ?_;clear D;rintro ⟨i,⟨T,A⟩⟩ J11 C
 try dsimp only
 refine cm bS 10 [] (mc 0 U mn) ?_;refine bE U (aG fun J=>?_) (aH fun J=>?_)
 ·exact aS aW 1 U<|cr fD 8 hQ U U<|cB (cT (Ba I I A I)).symm
 refine cm aW 9 [] (mc 0 U mn) ?_;obtain ⟨x,hx⟩:=ax r.ab i I;have AA:=bw aZ.cells hx;refine rS (IA i U (au 6 U) zH dc I I)<|rS (ld i 0 (aZ.cells x) U bP (au 6 U) AA U dc U U)<|AL U OG fun W=>eN U xD U<|dD aj 11 [0,1] (mc 0 U (mc 2 U mn)) U<|rS (CL (jM x.fR 0 ((l.ag.length:Int)-1)) (aA) U)<|aq aj 2 ?_;refine bJ (t:=45) U (aJ fun M=>?_) (aK fun M=>?_)
 ·exact cr aj 14 hQ U U<|cB (bj fun q=>by have B:=q.sig i x hx;unfold j9 k8 at B;omega).symm
 refine dD aj 2 [] (mc 0 U mn) U<|rS (CL (jM x.Read 0 86400000) (aA) U)<|aq aj 4 ?_;refine bY U (aJ fun N=>?_) (aK fun N=>?_)
 ·exact cr aW 6 hQ U U<|cB (bj fun q=>by have B:=q.sig i x hx;unfold j9 k8 at B;omega).symm
 refine aS aW 3 U<|cK bX 38 kr<|dP 3 [] mn ?_;refine iQ (t:=53) U (aG fun O=>?_) (aH fun O=>?_)
 ·refine iR 35 U<|cy<|aq aj 11 ?_;have H:(vI (((i+1):Nat):Int))=(vI ((i:Int)+1)):=by exact cI I
  refine aL (C ⟨(i+1),⟨I,j5 A hx (by unfold j9 k8;(rw [Kl I];simp only;omega))⟩⟩ _ _ _ U os (cS.cons U<|cS.cons U<|aQ U H<|cS.nil _) (aB [1,2,3,4,5,6,7]))
 refine dP 6 [0,1] (mc 0 U (mc 1 U mn)) ?_;obtain ⟨y,hy⟩:=ax r.ab (i-1) I;have E:=bw aZ.cells hy;refine dS (IA (i-1) U (au 7 U) zH dc I I)<|dS (pV ((i-1)*2) U (au 7 U) (e6 I dc) eB U)<|dS (gG (i-1) 0 (vI y.fR) U bP (au 7 U) E U dc U)<|dP 2 [] mn ?_;refine iJ (t:=64) U (aH fun P=>?_) (aG fun P=>?_)
 ·exact iR 24 U<|cy<|cr aj 9 hQ U U<|cB (bj fun q=>by have B:=q.sig i x hx;unfold j9 k8 at B;(rw [uu I hy] at B;omega)).symm
 refine jZ 6 [0,1] (mc 0 U (mc 1 U mn)) U<|dS (IA (i-1) U (au 7 U) zH dc I I)<|dS (pV ((i-1)*2) U (au 7 U) (e6 I dc) eB U)<|dS (gG (i-1) 0 (vI y.fR) U bP (au 7 U) E U dc U)<|dP 2 [] mn ?_;refine iQ (t:=75) U (aG fun R=>?_) (aH fun R=>?_)
 ·refine iR 13 U<|cy<|aq aj 11 ?_;have G:(vI (((i+1):Nat):Int))=(vI ((i:Int)+1)):=by exact cI I
  refine aL (C ⟨(i+1),⟨I,j5 A hx (by unfold j9 k8;(rw [uu I hy];omega))⟩⟩ _ _ _ U os (cS.cons U<|cS.cons U<|aQ U G<|cS.nil _) (aB [1,2,3,4,5,6,7]))
 refine jZ 6 [0,1] (mc 0 U (mc 1 U mn)) U<|dS (IA (i-1) U (au 7 U) zH dc I I)<|dS (pV (((i-1)*2)+1) U (au 7 U) (e6 I dc) eB U)<|dS (gG (i-1) 1 (vI y.Read) U bP (au 7 U) E U dc U)<|iR 4 U<|cy<|aq aj 2 ?_;refine bY U (aH fun S=>?_) (aG fun S=>?_)
 ·exact cr aW 6 hQ U U<|cB (bj fun q=>by have B:=q.sig i x hx;unfold j9 k8 at B;(rw [uu I hy] at B;omega)).symm
 refine aq aW 8 ?_;have F:(vI (((i+1):Nat):Int))=(vI ((i:Int)+1)):=by exact cI I
 refine aL (C ⟨(i+1),⟨I,j5 A hx (by unfold j9 k8;(rw [uu I hy];omega))⟩⟩ _ _ _ U os (cS.cons U<|cS.cons U<|aQ U F<|cS.nil _) (aB [1,2,3,4,5,6,7]))
end
section
open Go.RowKit
variable (l:a_) (kA:OA) (kC:Nat) (az:List RA) (cA:OA) (cC:Nat) (bA:OA) (bC:Nat) (r:cW) (sgA:OA) (sgC:Nat)
theorem Rc (hin:dW l az) (hle:dU l=0) (hr:gl l r):
 lf Tryz.prog 255 [(vA (bU.cells (kN l kA kC cA cC bA bC))),(vA (dx.cells (jR r sgA sgC)))] ((rE l kA az cA bA)++[(gR sgA r.ab)]) (fun (x:(OA)×Nat×(OA)×Nat×(OA)×Nat)=>(vA (jy.cells (jy.mk (aV.mk x.1 ((cv l l.ag.length).length) x.2.1) (aV.mk x.2.2.1 ((fu l r r.ab.length).length) x.2.2.2.1) (aV.mk x.2.2.2.2.1 ((fQ l r r.ab.length).length) x.2.2.2.2.2))))) (fun (x:(OA)×Nat×(OA)×Nat×(OA)×Nat)=>True) (fun (x:(OA)×Nat×(OA)×Nat×(OA)×Nat)=>[(fB x.1 x.2.1 (cv l l.ag.length)),(wh x.2.2.1 x.2.2.2.1 (fu l r r.ab.length)),(Uw x.2.2.2.2.1 x.2.2.2.2.2 (fQ l r r.ab.length))]):=by
 have q:=hin.sS;have m:=hin.sT;have j:=hin.mD;have k:=hin.sU;obtain ⟨d,S⟩:=ep hle;have X:=S.head;unfold fj at X;have o:=hr.len;have p:=hr.time;refine cR kr Tryz.func255 U U fun w Q hQ hN=>?_
 try dsimp only
 refine aS bS 2 U<|dV U fun t=>dV U fun u=>AL U TV fun v=>aS aj 4 U<|AL U TV fun T=>aq aj 9 ?_;refine eC 3 1 ?_;have A:(0≤l.ag.length):=by exact c4 _
 refine bu (ι:={z:Nat×(OA)×Nat // (z.1≤l.ag.length)}) [2,3,4,5] [2,3,4,5,6,7,8,9] U U (fun z=>[(6,(vI (z.1.1:Int)))]) (fun z=>[(fB z.1.2.1 z.1.2.2 (cv l z.1.1)),(cb T 365 (jy.cells (jy.mk (aV.mk z.1.2.1 ((cv l z.1.1).length) z.1.2.2) (aV.mk none 0 0) (aV.mk none 0 0))))]) (fun _=>rfl) (fun _=>rfl) (fun z=>l.ag.length-z.1.1) ⟨(0,none,0),A⟩ (aN U) (aB [2,3,4,5,6,7,8,9,0,1]) ?_;clear A;rintro ⟨⟨b,a,c⟩,F⟩ J9 W
 try dsimp only at F
 try dsimp only
 refine cm bS 10 [] (mc 2 U mn) ?_;refine bY U (aH fun AA=>?_) (aG fun AA=>?_)
 ·refine aq aW 4 ?_;refine cP bX [5,6,8] [1] [0] [0,1,2,3,4,5,6,7] [0,1,2,3,4,5,6,7,8,9] U U U U U<|eS U (FA 0 U eB U)<|fS U (L1 (vS a ((cv l b).length) c) 9 U bP U U)<|eS U (LW 2 U bP U U)<|eS U (MV U) ?_;have n:=o0 d S (i:=b) I;refine eS U (CL (Qc l kA kC az cA cC bA bC (b:Int) hin asm asm I) (aP [3,4,5,6]) U)<|eS U (FA 0 U eB U)<|dI U<|gu U fun T14 K=>dC (xs:=[.tmp 21]) (cs:=[(vI (ew l (b:Int).toNat))]) U cM jW U U U U (by simp [Value.cells]) U U fun e=>bG (K _ _ (aB [1,2,3,4,5,6,7,8]) (aB [1,2,3,4,5,6,7,8,9,10]) ?_);refine bQ U fun T16 L=>?_;refine cZ (es2:=(map iC (cv l (b+1)))) (m':=(cv l (b+1)).length) 9 U U U pI U U sm (aM (es:=map iC [(ew l (b:Int).toNat)]) 0 U U (by simp [br]) U) (j4 _) (by simp only [dE];omega) (by simp only [maxLen,dE];omega) (by rw [th];simp) sm U fun H AB=>?_
  try dsimp only
  refine bG (L _ _ (aB [1,2,3,4,5,6,7,8]) ?_);refine bQ U fun T19 M=>aaU (jy.cells (jy.mk (aV.mk H ((cv l (b+1)).length) AB) (aV.mk none 0 0) (aV.mk none 0 0))) U wM U U<|bG (M _ _ (aB [1,2,3,4,5,6,7,8]) ?_);refine eJ U<|aq jE 7 ?_;have P:(vI (((b+1):Nat):Int))=(vI ((b:Int)+1)):=by exact cI I
  refine aL (W ⟨((b+1),H,AB),(by first|omega|(simp only [];omega))⟩ _ _ _ U os (cx 4<|aQ U P<|cS.nil _) (aB [1,2,3,4,5,6,7,8,9,10]))
 refine aS aW 1 U<|aq fD 5 ?_;rw [show cv l b=(cv l l.ag.length) from by rw [show b=l.ag.length by omega]];refine aq aj 4 ?_;refine eC 38 2<|eC 4 1 ?_;have A:(0≤r.ab.length):=by exact c4 _
 refine bu (ι:={z:Nat×(OA)×Nat×(OA)×Nat // (z.1≤r.ab.length)}) [2,3,4,5] [2,3,4,5,6,7,8,9,10] U U (fun z=>[(7,(vI (z.1.1:Int)))]) (fun z=>[(Uw z.1.2.2.2.1 z.1.2.2.2.2 (fQ l r z.1.1)),(wh z.1.2.1 z.1.2.2.1 (fu l r z.1.1)),(cb T 365 (jy.cells (jy.mk (aV.mk a ((cv l l.ag.length).length) c) (aV.mk z.1.2.1 ((fu l r z.1.1).length) z.1.2.2.1) (aV.mk z.1.2.2.2.1 ((fQ l r z.1.1).length) z.1.2.2.2.2))))]) (fun _=>rfl) (fun _=>rfl) (fun z=>r.ab.length-z.1.1) ⟨(0,none,0,none,0),A⟩ (aN U) (aB [2,3,4,5,6,7,8,9,10,0,1,11]) ?_;clear A;rintro ⟨⟨i,ta,tc,sa,sc⟩,G⟩ J23 J
 try dsimp only at G
 try dsimp only
 refine cm bS 10 [] (mc 1 U mn) ?_;refine bE U (aG fun V=>?_) (aH fun V=>?_)
 ·refine aS aW 1 U<|aq fD 4 ?_;rw [show fu l r i=(fu l r r.ab.length) from by rw [show i=r.ab.length by omega]];rw [show fQ l r i=(fQ l r r.ab.length) from by rw [show i=r.ab.length by omega]];refine dD aj 1 [] (mc 11 U mn) U<|eN U XI U<|aq aj 3 ?_;refine LX hQ (a,c,ta,tc,sa,sc) [8,10,9] [0] (mc 0 U mn) U U U U ?_;trivial
 refine aq aW 5 ?_;refine cP bX [10,11] [] [] [0,1,2,3,4,5,6,7,8,9,10,11] [] U U U U U<|eS U (LW 2 U bP U U)<|eS U (FA 2 U eB U)<|eS U (L1 (vS sgA r.ab.length sgC) 1 U bP U U)<|eS U (MV U) ?_;obtain ⟨s,hs⟩:=ax r.ab i I;have Z:=bw aZ.cells hs;refine eS U (IA i U (au 7 U) zH dc I I)<|eS U (ld i 0 (aZ.cells s) U bP (au 7 U) Z U dc U U) ?_;have Y:=(hr.sig i s hs).1;refine eS U (CL (Tr l kA kC az cA cC bA bC s hin asm (by exact Y)) (aP [3,4,5,6]) U)<|eS U (MV U)<|eS U (EX U)<|eS U (EX U)<|eS U (AG U)<|dI U<|bQ U fun T29 N=>AL U dA fun f=>bG (N _ _ (aB [1,2,3,4,5,6,7,8,9,10,11,12]) ?_);refine bQ U fun T31 O=>eN U cJ U<|bG (O _ _ (aB [1,2,3,4,5,6,7,8,9,10,11,12]) ?_);refine eJ U<|cm jE 6 [0,1] (mc 12 U (mc 0 U mn)) ?_;refine dC (xs:=[.tmp 44]) (cs:=(aa.cells (du l s))) U iA dA U U U U (by simp [Value.cells,aa.aC]) U U fun g=>?_;refine cZ (es2:=(map aa.cells (fu l r (i+1)))) (m':=(fu l r (i+1)).length) 12 U U U Cr U U sm (aM (es:=map aa.cells [(du l s)]) 0 U U (by simp [aa.aC]) U) (jF _) (by rw [uJ I];omega) (by rw [uJ I];simp only [maxLen];omega) (by rw [Ig hs];simp) sm U fun B C=>?_
 try dsimp only
 refine aS aj 1 U<|iq (vs:=[(vS B ((fu l r (i+1)).length) C)]) (cs':=(jy.cells (jy.mk (aV.mk a ((cv l l.ag.length).length) c) (aV.mk B ((fu l r (i+1)).length) C) (aV.mk sa ((fQ l r i).length) sc)))) (C':=[_,_,_,_,_,_,_,_,_,_,_,_,_,(cb T 365 (jy.cells (jy.mk (aV.mk a ((cv l l.ag.length).length) c) (aV.mk B ((fu l r (i+1)).length) C) (aV.mk sa ((fQ l r i).length) sc))))]) 13 U U U Qu U U U U U U U<|cm aj 6 [] (mc 13 U mn) ?_;refine dC (xs:=[.tmp 50]) (cs:=[(vB (decide ((du l s).Lo≤(du l s).Hi)))]) U UI tz4 U U U U (by simp [Value.cells]) U U fun h=>?_;refine cZ (es2:=(map tM (fQ l r (i+1)))) (m':=(fQ l r (i+1)).length) 12 U U U Xp U U sm (aM (es:=map tM [(decide ((du l s).Lo≤(du l s).Hi))]) 0 U U (by simp [DH]) U) (Mx _) (by rw [xJ I];omega) (by rw [xJ I];simp only [maxLen];omega) (by rw [Ht hs];simp) sm U fun D E=>?_
 try dsimp only
 refine aS aj 1 U<|iq (vs:=[(vS D ((fQ l r (i+1)).length) E)]) (cs':=(jy.cells (jy.mk (aV.mk a ((cv l l.ag.length).length) c) (aV.mk B ((fu l r (i+1)).length) C) (aV.mk D ((fQ l r (i+1)).length) E)))) (C':=[_,_,_,_,_,_,_,_,_,_,_,_,_,_,(cb T 365 (jy.cells (jy.mk (aV.mk a ((cv l l.ag.length).length) c) (aV.mk B ((fu l r (i+1)).length) C) (aV.mk D ((fQ l r (i+1)).length) E))))]) 14 U U U Xg U U U U U U U<|aq aj 8 ?_;have R:(vI (((i+1):Nat):Int))=(vI ((i:Int)+1)):=by exact cI I
 refine aL (J ⟨((i+1),B,C,D,E),(by first|omega|(simp only [];omega))⟩ _ _ _ U os (cx 4<|aQ U R<|cS.nil _) (aB [3,4,5,6,7,8,9,10,11,12,13,14]))
theorem Nz (l:a_) (wA:OA) (wC:Nat) (tA:OA) (tC:Nat) (bA:OA) (bC:Nat) (rs:List Int) (rsA:OA) (rsC:Nat) (hle:dU l=0) (hr:gl l r) (hn:rs.length≤l.ag.length) (hrs:∀ x∈rs,0≤x→x<(r.ab.length:Int)):
 lf Tryz.prog 264 [(vA (dx.cells (jR r sgA sgC))),(vA (jy.cells (jy.mk (aV.mk wA ((cv l l.ag.length).length) wC) (aV.mk tA ((fu l r r.ab.length).length) tC) (aV.mk bA ((fQ l r r.ab.length).length) bC)))),(vS rsA rs.length rsC)] [(gR sgA r.ab),(rd wA ((cv l l.ag.length).length) 1 ((cv l l.ag.length).map iC)),(rd tA ((fu l r r.ab.length).length) 2 ((fu l r r.ab.length).map aa.cells)),(rd bA ((fQ l r r.ab.length).length) 1 ((fQ l r r.ab.length).map tM)),(eE rsA rs)] (fun (x:(OA)×Nat)=>(vS x.1 ((ku l r rs).length) x.2)) (fun (x:(OA)×Nat)=>True) (fun (x:(OA)×Nat)=>[(fB x.1 x.2 (ku l r rs))]):=by
 obtain ⟨H,D⟩:=ep hle;have X:=D.head;unfold fj at X;have m:=hr.len;have p:=hr.time;have Y:=Ji (l:=l) (rs:=rs) ⟨I,I⟩ (fun b hb=>by have:=o0 H D (i:=b) I;omega) hrs;have g:=dE (l:=l) (n:=l.ag.length);have q:=uJ (l:=l) (c9 r.ab.length);refine cR kr Tryz.func264 U U fun w0 Q hQ hN=>?_
 try dsimp only
 refine aS bS 2 U<|dV U fun w=>dV U fun b3=>aq aj 7 ?_;refine yO (n:=rs.length) (es:=(map iC (replicate rs.length 0))) U U U pI I I (by simp only [maxLen];omega) (by rw [AAy];rfl) U fun E=>?_
 try dsimp only
 refine cm aj 20 [] (mc 2 U mn) ?_;rw [show (own (some ⟨E,0,none⟩) rs.length 3 1 (map iC (replicate rs.length 0)))=(own (some ⟨E,0,none⟩) rs.length 3 1 ((kZ l r rs rs.length).map iC)) from by rw [LI]];have B:(rs.length≤rs.length):=by exact c9 _
 have W:(vI ((kY l r rs rs.length).2))=(vI r.hU):=by rw [xS]
 refine bu (ι:={z:Nat // (z≤rs.length)}) [2,3,4,7] [1,2,3,4,5,6,7] U U (fun z=>[(8,(vI ((kY l r rs z.1).2))),(9,(vI ((z.1:Int)-1)))]) (fun z=>[(fB (some ⟨E,0,none⟩) rs.length (kZ l r rs z.1))]) (fun _=>rfl) (fun _=>rfl) (fun z=>z.1) ⟨rs.length,B⟩ (aQ U W<|aN U) (aB [1,2,3,4,5,6,7,0]) ?_;clear B;rintro ⟨j,Z⟩ J10 F
 try dsimp only
 have h:=Me (l:=l) (r:=r) (rs:=rs) (j:=j) I;refine aq bS 7 ?_;refine bE U (aG fun V=>?_) (aH fun V=>?_)
 ·refine aS aW 1 U<|aq fD 5 ?_;rw [show (Value.slice (some ⟨E,0,none⟩) rs.length rs.length)=(Value.slice (some ⟨E,0,none⟩) ((ku l r rs).length) rs.length) from by rw [show (ku l r rs).length=rs.length from ub _ _]];rw [show kZ l r rs j=ku l r rs from by rw [show j=0 by omega];exact HA];refine aq aj 4 ?_;refine LX hQ ((some ⟨E,0,none⟩),rs.length) [7] [] mn U U U U ?_;trivial
 refine aq aW 9 ?_;have e:=Y (rs.length-j) j I;obtain ⟨x,hx⟩:=ax rs (j-1) I;have T:=bw iC hx;refine rS (IA (j-1) U (au 6 U) cM dc I I)<|rS (gG (j-1) 0 (vI x) U bP (au 6 U) T U dc U)<|aq aj 3 ?_;refine bE U (aG fun A=>?_) (aH fun A=>?_)
 ·refine aq aW 7 ?_;obtain ⟨v,S⟩:=ax (kZ l r rs j) (j-1) I;have hx25m:=bw iC S;refine rS (IA (j-1) U (ak (n:=rs.length) 7 U sq) cM dc I I) ?_;have M:((kZ l r rs j).set (j-1) ((kY l r rs j).2))=(kZ l r rs (j-1)):=by (rw [← CB I hx];congr 1;unfold wG;(rw [c1 A];done))
  refine ej (k:=(j-1)) (o:=0) (vs:=[(vI ((kY l r rs j).2))]) (es':=(map iC (kZ l r rs (j-1)))) (C':=[_,_,_,_,_,_,_,(fB (some ⟨E,0,none⟩) rs.length (kZ l r rs (j-1)))]) 7 U U U GI U U U U hx25m U dc (by exact (AAl (f:=iC) (l:=(kZ l r rs j)) (i:=(j-1)) (a:=(kY l r rs j).2)).symm.trans (c7 _ M)) U<|cm aj 7 [] (mc 0 U mn) ?_;obtain ⟨y,hy⟩:=ax (cv l l.ag.length) (j-1) I;have AB:=bw iC hy;refine rS (IA (j-1) U (au 3 U) cM dc I I)<|rS (gG (j-1) 0 (vI y) U bP (au 3 U) AB U dc U) ?_;have C:=yu hy;have G:=o0 H D (i:=j-1) I;rw [← C] at G;refine aq aj 10 ?_;have N:(vI ((kY l r rs (j-1)).2))=(vI (((kY l r rs j).2)-y)):=by exact cI (by rw [rQ I hx];simp only;unfold wG;rw [C];(rw [c1 A];done))
  have O:(vI ((((j-1):Nat):Int)-1))=(vI (((j:Int)-1)-1)):=by exact cI I
  refine aL (F ⟨(j-1),(by first|omega|(simp only [];omega))⟩ _ _ _ U os (cx 4<|aQ U N<|aQ U O<|cS.nil _) (aB [0,1,2,3,4,5,6,7]))
 refine cK bX 12 kr<|dP 5 [] (mc 0 U mn) ?_;refine dS (IA (j-1) U (au 6 U) cM dc I I)<|dS (gG (j-1) 0 (vI x) U bP (au 6 U) T U dc U) ?_;have t:=hrs x (aF hx) A;obtain ⟨z,hz⟩:=ax (fu l r r.ab.length) ((x).toNat) I;have d:=bw aa.cells hz;refine dS (IA ((x).toNat) U (au 4 U) iA dc I I)<|dS (pV ((((x).toNat)*2)+1) U (au 4 U) (e6 I dc) eB U) ?_;obtain ⟨s,hs,AA⟩:=Ps hz;have c:=zC l s;rw [← AA] at c;have P:Q9 l r x=z.Hi:=by rw [G0 hs,AA]
 refine dS (gG ((x).toNat) 1 (vI z.Hi) U bP (au 4 U) d U dc U)<|dS (MN U)<|iR 1 U<|cy<|aq aj 7 ?_;obtain ⟨u,R⟩:=ax (kZ l r rs j) (j-1) I;have hx19m:=bw iC R;refine rS (IA (j-1) U (ak (n:=rs.length) 7 U sq) cM dc I I) ?_;have J:((kZ l r rs j).set (j-1) (min ((kY l r rs j).2) z.Hi))=(kZ l r rs (j-1)):=by (rw [← CB I hx];congr 1;unfold wG;(rw [c0 A,P];done))
 refine ej (k:=(j-1)) (o:=0) (vs:=[(vI (min ((kY l r rs j).2) z.Hi))]) (es':=(map iC (kZ l r rs (j-1)))) (C':=[_,_,_,_,_,_,_,(fB (some ⟨E,0,none⟩) rs.length (kZ l r rs (j-1)))]) 7 U U U GI U U U U hx19m U dc (by exact (AAl (f:=iC) (l:=(kZ l r rs j)) (i:=(j-1)) (a:=(min ((kY l r rs j).2) z.Hi))).symm.trans (c7 _ J)) U<|cm aj 7 [] (mc 0 U mn) ?_;obtain ⟨y,hy⟩:=ax (cv l l.ag.length) (j-1) I;have AB:=bw iC hy;refine rS (IA (j-1) U (au 3 U) cM dc I I)<|rS (gG (j-1) 0 (vI y) U bP (au 3 U) AB U dc U) ?_;have C:=yu hy;have G:=o0 H D (i:=j-1) I;rw [← C] at G;refine aq aj 10 ?_;have K:(vI ((kY l r rs (j-1)).2))=(vI ((min ((kY l r rs j).2) z.Hi)-y)):=by exact cI (by rw [rQ I hx];simp only;unfold wG;rw [C];(rw [c0 A,P];done))
 have L:(vI ((((j-1):Nat):Int)-1))=(vI (((j:Int)-1)-1)):=by exact cI I
 refine aL (F ⟨(j-1),(by first|omega|(simp only [];omega))⟩ _ _ _ U os (cx 4<|aQ U K<|aQ U L<|cS.nil _) (aB [0,1,2,3,4,5,6,7]))
end
section
open Go.RowKit
variable (l:a_) (kA:OA) (kC:Nat) (az:List RA) (cA:OA) (cC:Nat) (bA:OA) (bC:Nat) (r:cW) (sgA:OA) (sgC:Nat) (vwA:OA) (vwC:Nat) (vtA:OA) (vtC:Nat) (vbA:OA) (vbC k:Nat) (rs:List Int) (rA:OA) (rC:Nat) (fs:List Int) (fA:OA) (fC:Nat)
theorem Ll (hin:dW l az) (hle:dU l=0) (hr:gl l r) (hk:rs.length+k=l.ag.length) (hfl:fs.length=rs.length) (hst:r.Start≤g6 r.Start fs∧g6 r.Start fs≤r.hU) (hrs:∀ x∈rs,-1≤x∧x<(r.ab.length:Int)) (hrec:∀ (k2:Nat) (rs2:List Int) (rA2:OA) (rC2:Nat) (fs2:List Int) (fA2:OA) (fC2:Nat),(k2<k)→(rs2.length+k2=l.ag.length)→(fs2.length=rs2.length)→(r.Start≤g6 r.Start fs2∧g6 r.Start fs2≤r.hU)→(∀ x∈rs2,-1≤x∧x<(r.ab.length:Int))→JN Tryz.prog 254 [(vA (bU.cells (kN l kA kC cA cC bA bC))),(vA (dx.cells (jR r sgA sgC))),(vA (jy.cells (jy.mk (aV.mk vwA ((cv l l.ag.length).length) vwC) (aV.mk vtA ((fu l r r.ab.length).length) vtC) (aV.mk vbA ((fQ l r r.ab.length).length) vbC)))),(vS rA2 rs2.length rC2),(vS fA2 fs2.length fC2)] ((rE l kA az cA bA)++[(gR sgA r.ab),(rd vwA ((cv l l.ag.length).length) 1 ((cv l l.ag.length).map iC)),(rd vtA ((fu l r r.ab.length).length) 2 ((fu l r r.ab.length).map aa.cells)),(rd vbA ((fQ l r r.ab.length).length) 1 ((fQ l r r.ab.length).map tM))]) (bD [own rA2 rC2 3 1 (rs2.map iC),own fA2 fC2 3 1 (fs2.map iC)]) (fun (x:(OA)×Nat×(List l9))=>(vS x.1 ((jl l r k2 rs2 fs2).length) x.2.1)) (fun (x:(OA)×Nat×(List l9))=>x.2.2.length=(jl l r k2 rs2 fs2).length) (fun (x:(OA)×Nat×(List l9))=>(bD (bx dN.owns (jl l r k2 rs2 fs2) x.2.2++[own x.1 x.2.1 368 3 (zipWith dN.cells (jl l r k2 rs2 fs2) x.2.2)])))):
 JN Tryz.prog 254 [(vA (bU.cells (kN l kA kC cA cC bA bC))),(vA (dx.cells (jR r sgA sgC))),(vA (jy.cells (jy.mk (aV.mk vwA ((cv l l.ag.length).length) vwC) (aV.mk vtA ((fu l r r.ab.length).length) vtC) (aV.mk vbA ((fQ l r r.ab.length).length) vbC)))),(vS rA rs.length rC),(vS fA fs.length fC)] ((rE l kA az cA bA)++[(gR sgA r.ab),(rd vwA ((cv l l.ag.length).length) 1 ((cv l l.ag.length).map iC)),(rd vtA ((fu l r r.ab.length).length) 2 ((fu l r r.ab.length).map aa.cells)),(rd vbA ((fQ l r r.ab.length).length) 1 ((fQ l r r.ab.length).map tM))]) (bD [own rA rC 3 1 (rs.map iC),own fA fC 3 1 (fs.map iC)]) (fun (x:(OA)×Nat×(List l9))=>(vS x.1 ((jl l r k rs fs).length) x.2.1)) (fun (x:(OA)×Nat×(List l9))=>x.2.2.length=(jl l r k rs fs).length) (fun (x:(OA)×Nat×(List l9))=>(bD (bx dN.owns (jl l r k rs fs) x.2.2++[own x.1 x.2.1 368 3 (zipWith dN.cells (jl l r k rs fs) x.2.2)]))):=by
 have Li:=hin.sS;have Ke:=hin.sT;have J8:=hin.mD;have J9:=hin.sU;obtain ⟨GT,A9⟩:=ep hle;have Eq:=A9.head;unfold fj at Eq;have u:=hr.len;have LE:=hr.time;have K8:=dE (l:=l) (n:=l.ag.length);have Lk:=uJ (l:=l) (c9 r.ab.length);have La:=xJ (l:=l) (c9 r.ab.length);have L0:=wQ rs;refine qp kr Tryz.func254 U U fun w0 Q hQ hN=>?_
 try dsimp only
 refine Fl 0 U U fun wz Sz hz=>?_
 try dsimp only
 refine aS bS 2 U<|dV U fun b2=>dV U fun b3=>dV U fun b4=>aq aj 23 ?_;have C:(0≤rs.length):=by exact c4 _
 have EQ:(vI ((dR (rs.take 0)).right))=(vI 0):=by rfl
 refine bu (ι:={z:Nat // (z≤rs.length)}) [3,4,5,6,7,11,12] [0,1,2,3,4,5,6,7,8,9,10,11] U U (fun z=>[(13,(vI ((dR (rs.take z.1)).right))),(14,(vI (z.1:Int)))]) (fun z=>[]) (fun _=>rfl) (fun _=>rfl) (fun z=>rs.length-z.1) ⟨0,C⟩ (aQ U EQ<|aN U) (aB [0,1,2,3,4,5,6,7,8,9,10,11]) ?_;clear C;rintro ⟨i,Fd⟩ J10 Z
 try dsimp only
 have Fn:=wQ (rs.take i);rw [k5] at Fn;refine aq bS 8 ?_;refine bY U (aH fun DA=>?_) (aG fun DA=>?_)
 ·refine aq aW 8 ?_;obtain ⟨x,hx⟩:=ax rs i I;have GV:=bw iC hx;refine rS (IA i U (show ij _ (eE rA rs).holds from (rM (c:=rC) (e:=3) 3 U sm sm)) cM dc I I)<|rS (gG i 0 (vI x) U bP (show ij _ (eE rA rs).holds from (rM (c:=rC) (e:=3) 3 U sm sm)) GV U dc U)<|aq aj 3 ?_;refine bE U (aG fun o=>?_) (aH fun o=>?_)
  ·refine aq aW 8 ?_;have AP:(vI ((dR (rs.take (i+1))).right))=(vI ((dR (rs.take i)).right)):=by exact cI (by rw [w9 hx];(rw [c1 o];exact Int.add_zero _))
   have An:(vI (((i+1):Nat):Int))=(vI ((i:Int)+1)):=by exact cI I
   refine aL (Z ⟨(i+1),(by first|omega|(simp only [];omega))⟩ _ _ _ U os (cx 7<|aQ U AP<|aQ U An<|cS.nil _) (aB [0,1,2,3,4,5,6,7,8,9,10,11]))
  refine aq aW 12 ?_;have AC:(vI ((dR (rs.take (i+1))).right))=(vI (((dR (rs.take i)).right)+1)):=by exact cI (by rw [w9 hx];(rw [c0 o];done))
  have AO:(vI (((i+1):Nat):Int))=(vI ((i:Int)+1)):=by exact cI I
  refine aL (Z ⟨(i+1),(by first|omega|(simp only [];omega))⟩ _ _ _ U os (cx 7<|aQ U AC<|aQ U AO<|cS.nil _) (aB [0,1,2,3,4,5,6,7,8,9,10,11]))
 refine aS aW 1 U<|aq fD 4 ?_;rw [show rs.take i=rs from c5 I];refine cm aW 9 [] (mc 2 U mn) ?_;refine bY U (aH fun DL=>?_) (aG fun DL=>?_)
 ·refine aS aW 2 U<|fT 368 3<|aq aj 4 ?_;refine Dy (C1:=[(own none 0 368 3 [])]) hz [0] U U U<|Vq (W:=jl l r k rs fs) ?_;rw [show (own none 0 368 3 [])=(own none 0 368 3 (zipWith dN.cells (jl l r k rs fs) [])) from by rw [pf I];rfl];refine LM hQ (none,0,[]) 0 [] mn U (by show List.all _ _=true;rw [ACN,si];rfl) U ?_ ?_
  ·exact (by rw [pf I];rfl)
  ·rw [pf I];rfl
 refine aq aW 2 ?_;refine nV (ι:={z:(OA)×Nat×(List l9)×(List ar) // (Bm l r rs fs (rA,rC) (fA,fC) z.2.2.1 z.2.2.2)}) [3,4,5,6,7,12] [0,1,2,3,4,5,6,7,8,9,10,11] U U (fun z=>[(11,(vS z.1.1 ((iL l r rs fs).length) z.1.2.1))]) (fun z=>[(Aq z.1.1 z.1.2.1 (iL l r rs fs) z.1.2.2.1),(bD z.1.2.2.2)]) (fun _=>rfl) (fun _=>rfl) ?_ fun K23 a=>?_
 ·rintro ⟨⟨oA,oC,E,LA⟩,H⟩
  try dsimp only at H
  try dsimp only
  have D:=H;have FS:=D.len;have K0:=Af (l:=l) (r:=r) (rs:=rs) (fs:=fs);refine cm aW 7 [] (mc 2 U mn) ?_;have L2:=x8 (l:=l) (r:=r) (rs:=rs) (fs:=fs) u (k:=k) I;refine aq aj 3 ?_;refine bY U (aH fun Di=>?_) (aG fun Di=>?_)
  ·refine aq aW 7 ?_;obtain rfl:k=0:=by omega
   refine Hp ?_
   try dsimp only
   refine Dy (C1:=[(Aq oA oC (iL l r rs fs) E),(bD LA),(bD (bx dN.owns [] []))]) hz [13,14,0] U U (by simp only [eX,om,n4,dh];exact ⟨U,D.wr,si _ _⟩) ?_;refine On (ra:=(rA,rC)) (fa:=(fA,fC)) (A':=(Aq oA oC (jl l r 0 rs fs) E)) D ((AAJ _).trans (o6 I).symm) (AAJ _) (by rw [o6 I]) ?_;refine LM hQ (oA,oC,E) 0 [] mn U (by show List.all _ _=true;rw [ACN,si];rfl) U ?_ ?_
   ·exact (by (rw [o6 I];rfl))
   ·rw [o6 I];exact FS
  refine aq aW 4 ?_;obtain ⟨B,rfl⟩: ∃ B,k=B+1:=⟨k-1,I⟩;refine cm aj 5 [] (mc 1 U mn) ?_;refine nV (ι:=Unit) [3,4,5,6,7,11,12] [0,1,2,3,4,5,6,7,8,9,10,11,12,13] U U (fun z=>[(15,(vI (g6 r.Start fs)))]) (fun z=>[]) (fun _=>rfl) (fun _=>rfl) ?_ fun K28 d=>?_
  ·intro _
   try dsimp only
   refine cm aW 6 [] (mc 0 U mn) ?_;obtain ⟨yls,B3⟩:=ax (cv l l.ag.length) (rs.length) I;have B7:=bw iC B3;refine rS (IA rs.length U (au 9 U) cM dc I I)<|rS (gG rs.length 0 (vI yls) U bP (au 9 U) B7 U dc U) ?_;have K5:=o0 GT A9 (i:=rs.length) I;rw [yu B3];refine aq aj 11 ?_;rw [show (iL l r rs fs)=((iL l r rs fs)++(jr l r B rs fs 0)) from (AAJ _).symm];rw [show E=E++[] from (AAJ _).symm];refine mj ?_
   try dsimp only
   have C:(0≤r.ab.length+1)∧(([]:List l9).length=(jr l r B rs fs 0).length):=by exact ⟨c4 _,rfl⟩
   have AA:(vI ((0:Int)-1))=(vI (-1)):=by exact cI I
   refine bu (ι:={z:Nat×(OA)×Nat×(List l9) // (z.1≤r.ab.length+1)∧(z.2.2.2.length=(jr l r B rs fs z.1).length)}) [3,4,5,6,7,12,15] [1,2,3,4,5,6,7,8,9,10,11,12,14] U U (fun z=>[(11,(vS z.1.2.1 (((iL l r rs fs)++(jr l r B rs fs z.1.1)).length) z.1.2.2.1)),(16,(vI ((z.1.1:Int)-1)))]) (fun z=>[(bD (bx dN.owns (jr l r B rs fs z.1.1) z.1.2.2.2)),(Aq z.1.2.1 z.1.2.2.1 ((iL l r rs fs)++(jr l r B rs fs z.1.1)) (E++z.1.2.2.2))]) (fun _=>rfl) (fun _=>rfl) (fun z=>r.ab.length+1-z.1.1) ⟨(0,oA,oC,([]:List l9)),C⟩ (cS.cons U<|aQ U AA<|cS.nil _) (aB [1,2,3,4,5,6,7,8,9,10,11,12,14,0,13]) ?_;clear C;rintro ⟨⟨j,M,N,azW⟩,⟨V,A⟩⟩ J33 O
   try dsimp only at V A
   try dsimp only
   have GE:=QJ (l:=l) (r:=r) (k:=B) (j:=j) (rs:=rs) (fs:=fs) u I I;refine cm bS 10 [] (mc 1 U mn) ?_;refine bE U (aG fun DC=>?_) (aH fun DC=>?_)
   ·refine aS aW 1 U<|aq fD 9 ?_;refine Dy (C1:=[(Aq M N ((iL l r rs fs)++(jr l r B rs fs j)) (E++azW)),(bD LA),(bD (bx dN.owns (jr l r B rs fs j) azW))]) hz [14,12,13] U U (by simp only [eX,om,n4,dh];exact ⟨U,D.wr,si _ _⟩) ?_;refine On (ra:=(rA,rC)) (fa:=(fA,fC)) (W:=jl l r (B+1) rs fs) (A':=(Aq M N (jl l r (B+1) rs fs) (E++azW))) D (by rw [pG I,uq,show r.ab.length+1=j by omega]) U (by rw [pG I,uq,show r.ab.length+1=j by omega]) ?_;refine LM hQ (M,N,(E++azW)) 0 [] mn U (by show List.all _ _=true;rw [ACN,si];rfl) U ?_ ?_
    ·exact (by (rw [pG I,uq,show r.ab.length+1=j by omega];rfl))
    ·rw [pG I,uq,show r.ab.length+1=j by omega];simp only [e4];omega
   refine aS aW 5 U<|cK bX 5 kr<|jZ 5 [] (mc 1 U mn) U<|cy<|aq aj 2 ?_;refine nV (ι:={z:Int×Int // ((z.1≤z.2→rf l r rs.length (g6 r.Start fs+ew l rs.length) ((j:Int)-1)=some z.1)∧(¬ z.1≤z.2→rf l r rs.length (g6 r.Start fs+ew l rs.length) ((j:Int)-1)=none))∧(r.Start≤z.1∧z.2≤r.hU)}) [3,4,5,6,7,11,12,15,16] [0,1,2,3,4,5,6,7,8,9,10,11,12,13,14] U U (fun z=>[(17,(vI z.1.1)),(18,(vI z.1.2))]) (fun z=>[]) (fun _=>rfl) (fun _=>rfl) ?_ fun K39 f=>?_
   ·rintro ⟨⟨tt,ee⟩,⟨AB,J⟩⟩
    try dsimp only at AB J
    try dsimp only
    have A8:=AB;have K4:=J;refine aq aW 7 ?_;refine bE U (aG fun T=>?_) (aH fun T=>?_)
    ·refine aq aW 8 ?_;have L:(jr l r B rs fs (j+1))=(jr l r B rs fs j):=by exact tG (A8.2 T)
     rw [← L];have A6:(vI ((((j+1):Nat):Int)-1))=(vI (((j:Int)-1)+1)):=by exact cI I
     refine aL (O ⟨((j+1),M,N,azW),⟨I,by dsimp only;(rw [L];exact A)⟩⟩ _ _ _ U os (cx 8<|aQ U A6<|cS.nil _) (aB [0,1,2,3,4,5,6,7,8,9,10,11,12,13,14]))
    refine US (L':=[(3,(vS rA rs.length rC)),(4,(vS fA fs.length fC)),(5,(vP b2)),(6,(vP b3)),(7,(vP b4)),(11,(vS M (((iL l r rs fs)++(jr l r B rs fs j)).length) N)),(12,(vI (rs.length:Int))),(15,(vI ((g6 r.Start fs)+(ew l rs.length)))),(16,(vI ((j:Int)-1))),(17,(vI tt)),(18,(vI ee)),(123,(vI tt)),(124,(vI ee)),(125,(vB (decide (tt≤ee))))]) rfl<|mh bX [0,1,2,3,5,7,11,13] [4,6,8,9,10,12,14,15,16,17,18] [false,false,false,false,false,false,false,false] [] [(cb b4 365 (jy.cells (jy.mk (aV.mk vwA ((cv l l.ag.length).length) vwC) (aV.mk vtA ((fu l r r.ab.length).length) vtC) (aV.mk vbA ((fQ l r r.ab.length).length) vbC)))),(cb b3 50 (dx.cells (jR r sgA sgC))),(cb b2 28 (bU.cells (kN l kA kC cA cC bA bC))),(bD [own rA rC 3 1 (rs.map iC),own fA fC 3 1 (fs.map iC)]).ro,(gQ kA l.bW).ro,(pb cA l.aD az).ro,(iX (bx aX.lG l.aD az)).ro,(oG bA l.ag).ro,(gR sgA r.ab).ro,(rd vwA ((cv l l.ag.length).length) 1 ((cv l l.ag.length).map iC)).ro,(rd vtA ((fu l r r.ab.length).length) 2 ((fu l r r.ab.length).map aa.cells)).ro,(rd vbA ((fQ l r r.ab.length).length) 1 ((fQ l r r.ab.length).map tM)).ro,(bD LA),(bD (bx dN.owns (jr l r B rs fs j) azW))] [] kr (aB [0,1,2,3,4,5,6,7,8,9,10,11,12,13]) (aB [])<|eS rfl (MV rfl)<|eS rfl (LW 2 rfl bP rfl rfl)<|eS rfl (LW 1 rfl bP rfl rfl)<|eS rfl (LW 0 rfl bP rfl rfl)<|eS rfl (MV rfl)<|eS rfl (MV rfl)<|eS rfl (MV rfl)<|eS rfl (MV rfl)<|dI rfl<|IU [.take 4,.op 6,.take 8,.op 9,.take 10,.op 12,.take 14,.op 15,.op 16,.op 17,.op 18] [(133,(vI ((j:Int)-1))),(139,(vI tt))] (fun i=>match i with |4=>130|8=>134|10=>136|14=>140|_=>0) (fun i b=>match i with |4=> .slice (some ⟨b,0,none⟩) 0 0|8=> .slice (some ⟨b,0,none⟩) 1 1|10=> .slice (some ⟨b,0,none⟩) 0 0|14=> .slice (some ⟨b,0,none⟩) 1 1|_=>undef) (fun i b=>match i with |4=>cb b 3 []|8=>cb b 3 [(vI ((j:Int)-1))]|10=>cb b 3 []|14=>cb b 3 [(vI tt)]|_=>cb b 0 []) rfl rfl rfl kr rfl rfl (aB [0,1,2,3,4,5,6,7,8,9,10,11,12,13]) (pS (Qx rfl cM rfl rfl (fun _=>rfl) fun _=>rfl)<|ve<|pS (Gl (xs:=[.tmp 133]) (cs:=[(vI ((j:Int)-1))]) rfl cM jW rfl rfl rfl rfl (by simp [Value.cells]) rfl rfl rfl (fun _=>rfl) fun _=>rfl)<|ve<|pS (Qx rfl cM rfl rfl (fun _=>rfl) fun _=>rfl)<|ve<|pS (Gl (xs:=[.tmp 139]) (cs:=[(vI tt)]) rfl cM jW rfl rfl rfl rfl (by simp [Value.cells]) rfl rfl rfl (fun _=>rfl) fun _=>rfl)<|ve<|ve<|ve<|ve<|Oi) ?_;intro Ct
    try dsimp only
    refine uW U fun Y X K hT=>g0 (es:=(map iC [])) (C':=[own (some ⟨Ct,0,none⟩) 0 3 1 (map iC []),_,_,_,_,_,_,_,_,_,_,_,_,_,_,_]++X) 0 U sm U (by simp [maxLen]) U ?_;refine cZ (es2:=(map iC rs)) (m':=rs.length) 0 U U U pI U U sm (show ij _ (eE rA rs).holds from (rM (c:=rC) (e:=3) 4 U sm sm)) (j4 _) (by first|omega|(simp;done)|(simp;omega)) (by (simp only [maxLen];omega)) sm sm U fun JZ J6=>?_
    try dsimp only
    refine qz hT 24 16 U U (fun w hs=>St.kT [1,2,3,4,5,6,7,8,9,10,11,12,13,14] U U hs) U U ?_
    try dsimp only [List.take]
    intro J4
    try dsimp only
    refine uW U fun Y X K hT=>?_;refine cZ (es2:=(map iC (rs++[(j:Int)-1]))) (m':=(rs++[(j:Int)-1]).length) 1 U U U pI U U sm (aM (es:=map iC [((j:Int)-1)]) 0 U U (by simp [br]) U) (j4 _) (by first|omega|(simp;done)|(simp;omega)) (by (simp only [maxLen];omega)) sm sm U fun Ci C0=>?_
    try dsimp only
    refine qz hT 26 17 U U (fun w hs=>St.kT [2,3,4,5,6,7,8,9,10,11,12,13,14,15] U U hs) U U ?_
    try dsimp only [List.take]
    intro Cx
    try dsimp only
    refine uW U fun Y X K hT=>g0 (es:=(map iC [])) (C':=[own (some ⟨Cx,0,none⟩) 0 3 1 (map iC []),_,_,_,_,_,_,_,_,_,_,_,_,_,_,_,_,_]++X) 0 U sm U (by simp [maxLen]) U ?_;refine cZ (es2:=(map iC fs)) (m':=fs.length) 0 U U U pI U U sm (show ij _ (eE fA fs).holds from (rM (c:=fC) (e:=3) 6 U sm sm)) (j4 _) (by first|omega|(simp;done)|(simp;omega)) (by (simp only [maxLen];omega)) sm sm U fun J2 J7=>?_
    try dsimp only
    refine qz hT 28 18 U U (fun w hs=>St.kT [3,4,5,6,7,8,9,10,11,12,13,14,15,16] U U hs) U U ?_
    try dsimp only [List.take]
    intro J5
    try dsimp only
    refine uW U fun Y X K hT=>?_;refine cZ (es2:=(map iC (fs++[tt]))) (m':=(fs++[tt]).length) 1 U U U pI U U sm (aM (es:=map iC [tt]) 0 U U (by simp [br]) U) (j4 _) (by first|omega|(simp;done)|(simp;omega)) (by (simp only [maxLen];omega)) sm sm U fun Ck C2=>?_
    try dsimp only
    refine qz hT 30 19 U U (fun w hs=>St.kT [4,5,6,7,8,9,10,11,12,13,14,15,16,17] U U hs) U U ?_
    try dsimp only [List.take]
    refine uW U fun Y X K hT=>?_;have P:=A8.1 T;refine xz<|uf 4 U ?_
    try dsimp only [List.eraseIdx]
    refine D1 U<|uf 2 U ?_
    try dsimp only [List.eraseIdx]
    refine D1 U ?_
    try dsimp only
    refine kx 0 rfl rfl rfl rfl (hrec B (rs++[(j:Int)-1]) Ci C0 (fs++[tt]) Ck C2 I (by simp only [e4,ABQ];omega) (by simp only [e4,ABQ];omega) (by rw [o2];omega) (by intro x hx;rcases dY.1 hx with hx|hx;exact hrs x hx;rw [bT.1 hx];omega)) rfl (ek 7 rfl rfl (df (bL _)) (ek 8 rfl rfl (df (bL _)) (ek 9 rfl rfl (df (bL _)) (ek 10 rfl rfl (df (bL _)) (ek 11 rfl rfl (df (bL _)) (ek 12 rfl rfl (df (bL _)) (ek 13 rfl rfl (df (bL _)) (ek 14 rfl rfl (df (bL _)) mu)))))))) rfl (fun H1 v=>?_);obtain ⟨In,JR,g⟩:=H1
    try dsimp only
    dsimp only at v;refine qz hT 31 18 U U (fun w hs=>St.kT [3,4,5,6,7,8,9,10,11,12,13,14,15,16] U U hs) U U ?_
    try dsimp only [List.take]
    refine uW U fun Y X K hT=>uf 0 U ?_
    try dsimp only [List.eraseIdx]
    refine C5 ?_;have L3:=x8 (l:=l) (r:=r) (k:=B) (rs:=(rs++[(j:Int)-1])) (fs:=(fs++[tt])) u I;refine cZ (es2:=(zipWith dN.cells ((iL l r rs fs)++(jr l r B rs fs (j+1))) (E++(azW++g)))) (m':=((iL l r rs fs)++(jr l r B rs fs (j+1))).length) 18 U U U Ux U U (v9 (by simp only [e4];omega)).symm (ak (n:=(jl l r B (rs++[(j:Int)-1]) (fs++[tt])).length) 0 U (v9 v)) (Fj _ _) (by simp only [e4];omega) (by simp only [e4,maxLen];omega) (by rw [oV P,← append_assoc,← append_assoc];exact (Qn (by simp only [e4];omega)).symm) (v9 (by rw [oV P];simp only [e4];omega)) U fun Cp C3=>?_
    try dsimp only
    refine qz hT 32 19 U U (fun w hs=>St.kT [4,5,6,7,8,9,10,11,12,13,14,15,16,17] U U hs) U U ?_
    try dsimp only [List.take]
    refine uW U fun Y X K hT=>rS (AG U)<|qz hT 33 19 U U (fun w hs=>St.kT [4,5,6,7,8,9,10,11,12,13,14,15,16,17] U U hs) U U ?_
    try dsimp only [List.take]
    refine aq jE 7 ?_;refine JJ 1 U ?_
    try dsimp only [List.eraseIdx]
    refine JJ 17 U ?_
    try dsimp only [List.eraseIdx]
    refine Nm A ?_;rw [← oV P]
    try dsimp only
    have A5:(vI ((((j+1):Nat):Int)-1))=(vI (((j:Int)-1)+1)):=by exact cI I
    refine aL (O ⟨((j+1),Cp,C3,(azW++g)),⟨I,by dsimp only;(rw [oV P,e4,e4,A,v])⟩⟩ _ _ _ U os (cx 8<|aQ U A5<|cS.nil _) (aB [4,5,6,7,8,9,10,11,12,13,14,15,16,0,17]))
   refine aq bS 6 ?_;refine bE U (aG fun Dw=>?_) (aH fun Dw=>?_)
   ·refine aq aW 1 ?_;refine aL (ke (aN U) (aB [0,1,2,3,4,5,6,7,8,9,10,11,12,13,14]) (f ⟨(((g6 r.Start fs)+(ew l rs.length)),r.hU),⟨by exact Qi I,I⟩⟩))
   refine cm aW 6 [] (mc 1 U mn) ?_;obtain ⟨s,hs⟩:=ax r.ab ((((j:Int)-1)).toNat) I;have Fi:=bw aZ.cells hs;refine rS (IA ((((j:Int)-1)).toNat) U (au 8 U) zH dc I I)<|rS (pV (((((j:Int)-1)).toNat)*2) U (au 8 U) (e6 I dc) eB U)<|rS (gG ((((j:Int)-1)).toNat) 0 (vI s.fR) U bP (au 8 U) Fi U dc U) ?_;have LT:=(hr.sig _ s hs).1;refine aq aj 3 ?_;refine bJ (t:=99) U (aJ fun y=>?_) (aK fun y=>?_)
   ·refine aS aj 11 U<|aq fD 7 ?_;have L:(jr l r B rs fs (j+1))=(jr l r B rs fs j):=by exact tG (Bb I hs (fun q=>y I))
    rw [← L];have A3:(vI ((((j+1):Nat):Int)-1))=(vI (((j:Int)-1)+1)):=by exact cI I
    refine aL (O ⟨((j+1),M,N,azW),⟨I,by dsimp only;(rw [L];exact A)⟩⟩ _ _ _ U os (cx 8<|aQ U A3<|cS.nil _) (aB [0,1,2,3,4,5,6,7,8,9,10,11,12,13,14]))
   refine cm aj 3 [] (mc 0 U mn) ?_;obtain ⟨bs,p⟩:=ax (fQ l r r.ab.length) ((((j:Int)-1)).toNat) I;have A7:=bw tM p;refine rS (IA ((((j:Int)-1)).toNat) U (au 11 U) UI dc I I)<|rS (gG ((((j:Int)-1)).toNat) 0 (vB bs) U bP (au 11 U) A7 U dc U)<|aq aj 4 ?_;refine bY U (fun F=>?_) (fun F=>?_)
   ·rw [e0] at F;refine aS aW 1 U<|aq fD 7 ?_;have L:(jr l r B rs fs (j+1))=(jr l r B rs fs j):=by exact tG (Bb I hs (fun q=>by rw [(FN hs p).2 q.2] at F;cases F))
    rw [← L];have A4:(vI ((((j+1):Nat):Int)-1))=(vI (((j:Int)-1)+1)):=by exact cI I
    refine aL (O ⟨((j+1),M,N,azW),⟨I,by dsimp only;(rw [L];exact A)⟩⟩ _ _ _ U os (cx 8<|aQ U A4<|cS.nil _) (aB [0,1,2,3,4,5,6,7,8,9,10,11,12,13,14]))
   rw [m5] at F;refine aS aW 2 U<|cK bX 18 kr<|dP 4 [] (mc 0 U mn) ?_;obtain ⟨z,hz⟩:=ax (fu l r r.ab.length) ((((j:Int)-1)).toNat) I;have B9:=bw aa.cells hz;refine dS (IA ((((j:Int)-1)).toNat) U (au 10 U) iA dc I I)<|dS (pV (((((j:Int)-1)).toNat)*2) U (au 10 U) (e6 I dc) eB U) ?_;have CI:=QU hs hz;have Go:=zC l s;rw [← CI] at Go;have EY:(du l s).Lo≤(du l s).Hi:=(FN hs p).1 F;refine dS (gG ((((j:Int)-1)).toNat) 0 (vI z.Lo) U bP (au 10 U) B9 U dc U)<|dS (MX U)<|jZ 4 [] (mc 0 U mn) U<|dS (IA ((((j:Int)-1)).toNat) U (au 10 U) iA dc I I)<|dS (pV ((((((j:Int)-1)).toNat)*2)+1) U (au 10 U) (e6 I dc) eB U)<|dS (gG ((((j:Int)-1)).toNat) 1 (vI z.Hi) U bP (au 10 U) B9 U dc U)<|dS (MN U)<|iR 2 U<|cy<|aq aj 1 ?_;refine aL (ke (aN U) (aB [0,1,2,3,4,5,6,7,8,9,10,11,12,13,14]) (f ⟨((max ((g6 r.Start fs)+(ew l rs.length)) z.Lo),(min r.hU z.Hi)),⟨by (rw [CI];exact Nk I hs I EY),I⟩⟩))
  refine aq bS 6 ?_;refine bE U (aG fun Do=>?_) (aH fun Do=>?_)
  ·refine aq aW 1 ?_;have A1:(vI (g6 r.Start fs))=(vI r.Start):=by exact cI (by have e:fs=[]:=kq I;rw [e];rfl)
   refine aL (ke (cx 7<|aQ U A1<|cS.nil _) (aB [0,1,2,3,4,5,6,7,8,9,10,11,12,13]) (d ()))
  refine aq aW 4 ?_;obtain ⟨xf,Bx⟩:=ax fs (rs.length-1) I;have By:=bw iC Bx;refine rS (IA (rs.length-1) U (show ij _ (eE fA fs).holds from (rM (c:=fC) (e:=3) 3 U sm sm)) cM dc I I)<|rS (gG (rs.length-1) 0 (vI xf) U bP (show ij _ (eE fA fs).holds from (rM (c:=fC) (e:=3) 3 U sm sm)) By U dc U)<|aq aj 2 ?_;have A0:(vI (g6 r.Start fs))=(vI xf):=by exact cI (Gq _ _ _ (by rw [hfl];exact Bx))
  refine aL (ke (cx 7<|aQ U A0<|cS.nil _) (aB [0,1,2,3,4,5,6,7,8,9,10,11,12,13]) (d ()))
 refine cm bS 12 [0,1] (mc 1 U (mc 2 U mn)) ?_;refine bE U (aG fun G=>?_) (aH fun G=>?_)
 ·refine aq aW 1 ?_;refine Hp<|Ls 368 3 ?_;rw [show (own none 0 368 3 [])=(own none 0 368 3 (zipWith dN.cells (iL l r rs fs) [])) from by rw [AQ G];rfl];have A2:(vS none ((iL l r rs fs).length) 0)=(vS none 0 0):=by first|rfl|(rw [AQ G];rfl)
  refine aL (ke (cx 6<|aQ U A2<|cS.nil _) (aB [2,3,4,5,6,7,8,9,10,11,12,13,0,1]) (a ⟨(none,0,[],[]),(by exact .inr ⟨G,U,U⟩)⟩))
 refine cm aW 7 [0,1] (mc 1 U (mc 0 U mn)) ?_;refine cX (Nz r sgA sgC l vwA vwC vtA vtC vbA vbC rs rA rC hle hr I (by exact fun x hx h0=>(hrs x hx).2)) (lV [8,9,10,11]<|aw (show ij _ (eE rA rs).holds from (rM (c:=rC) (e:=3) 3 U sm sm))<|aA) U fun Ha If=>?_;obtain ⟨R,S⟩:=Ha
 try dsimp only
 refine rS (SX (aU (xs:=[(0,.tmp 48),(1,.tmp 49),(2,.tmp 53)]) (cs:=(Bt.cells (Bt.mk (aV.mk rA rs.length rC) (aV.mk fA fs.length fC) (aV.mk R ((ku l r rs).length) S)))) U U (aT ZG U)) U U)<|dC (xs:=[.tmp 54]) (cs:=(Bt.cells (Bt.mk (aV.mk rA rs.length rC) (aV.mk fA fs.length fC) (aV.mk R ((ku l r rs).length) S)))) U IW YU U U U U (by simp [Value.cells,Bt.aC]) U U fun J3=>fT 368 3 ?_;refine cZ (es2:=(zipWith dN.cells (iL l r rs fs) ([((rA,rC),(fA,fC),(R,S))]))) (m':=(iL l r rs fs).length) 0 rfl rfl rfl Ux rfl rfl rfl (aM (es:=zipWith dN.cells [(dN.mk rs fs (ku l r rs))] [((rA,rC),(fA,fC),(R,S))]) 1 rfl rfl (by intro e he;simp at he;subst he;rfl) rfl) (Fj _ _) dc dc (by rw [BX G];rfl) (by rw [BX G];rfl) rfl fun h m=>?_
 try dsimp only
 refine xz<|Us 0 3 U U U ?_
 try dsimp only
 refine aq aj 2 ?_;have AA:(vS h ((iL l r rs fs).length) m)=(vS h ((iL l r rs fs).length) m):=by first|rfl|(rw [AQ G];rfl)
 refine aL (ke (cx 6<|aQ U AA<|cS.nil _) (aB [3,4,5,6,7,8,9,10,11,12,13,14,1,0]) (a ⟨(h,m,[((rA,rC),(fA,fC),(R,S))],[(fB R S (ku l r rs))]),(by exact .inl ⟨G,_,U,U⟩)⟩))
theorem WL (hin:dW l az) (hle:dU l=0) (hr:gl l r) (hk:rs.length+k=l.ag.length) (hfl:fs.length=rs.length) (hst:r.Start≤g6 r.Start fs∧g6 r.Start fs≤r.hU) (hrs:∀ x∈rs,-1≤x∧x<(r.ab.length:Int)):
 JN Tryz.prog 254 [(vA (bU.cells (kN l kA kC cA cC bA bC))),(vA (dx.cells (jR r sgA sgC))),(vA (jy.cells (jy.mk (aV.mk vwA ((cv l l.ag.length).length) vwC) (aV.mk vtA ((fu l r r.ab.length).length) vtC) (aV.mk vbA ((fQ l r r.ab.length).length) vbC)))),(vS rA rs.length rC),(vS fA fs.length fC)] ((rE l kA az cA bA)++[(gR sgA r.ab),(rd vwA ((cv l l.ag.length).length) 1 ((cv l l.ag.length).map iC)),(rd vtA ((fu l r r.ab.length).length) 2 ((fu l r r.ab.length).map aa.cells)),(rd vbA ((fQ l r r.ab.length).length) 1 ((fQ l r r.ab.length).map tM))]) (bD [own rA rC 3 1 (rs.map iC),own fA fC 3 1 (fs.map iC)]) (fun (x:(OA)×Nat×(List l9))=>(vS x.1 ((jl l r k rs fs).length) x.2.1)) (fun (x:(OA)×Nat×(List l9))=>x.2.2.length=(jl l r k rs fs).length) (fun (x:(OA)×Nat×(List l9))=>(bD (bx dN.owns (jl l r k rs fs) x.2.2++[own x.1 x.2.1 368 3 (zipWith dN.cells (jl l r k rs fs) x.2.2)]))):=by
 induction k using Nat.strongRecOn generalizing rs rA rC fs fA fC with
 |ind k ih=>exact Ll l kA kC az cA cC bA bC r sgA sgC vwA vwC vtA vtC vbA vbC k rs rA rC fs fA fC hin hle hr hk hfl hst hrs (fun L F D E C A B G H AA J K=>ih L G F D E C A B H AA J K)
end
section
open Go.RowKit
theorem Th (l:a_) (kA:OA) (kC:Nat) (az:List RA) (cA:OA) (cC:Nat) (bA:OA) (bC:Nat) (r:cW) (sgA:OA) (sgC:Nat) (hin:dW l az) (hsl:r.ab.length≤1000000):
 lf Tryz.prog 232 [(vA (bU.cells (kN l kA kC cA cC bA bC))),(vA (dx.cells (jR r sgA sgC)))] ((rE l kA az cA bA)++[(gR sgA r.ab)]) (fun (x:Bool×Int×(OA)×Nat×(List l9))=>bif x.1 then (vT [(vS x.2.2.1 ((sO l r).length) x.2.2.2.1),(vI 0)]) else (vT [(vS none 0 0),(vI x.2.1)])) (fun (x:Bool×Int×(OA)×Nat×(List l9))=>(x.1=true→(fO l r 0=0∧x.2.2.2.2.length=(sO l r).length))∧(x.1=false→(x.2.1=fO l r 0∧ ¬ fO l r 0=0))) (fun (x:Bool×Int×(OA)×Nat×(List l9))=>bif x.1 then [(Aq x.2.2.1 x.2.2.2.1 (sO l r) x.2.2.2.2),(bD (bx dN.owns (sO l r) x.2.2.2.2))] else []):=by
 have X:=hin.sS;have W:=hin.sT;have AA:=hin.mD;have V:=hin.sU;refine cR kr Tryz.func232 U U fun a Q hQ hN=>?_
 try dsimp only
 refine aS bS 2 U<|dV U fun Y=>dV U fun Z=>dD aj 8 [] (mc 1 U mn) U<|rS (CL (wo l kA kC az cA cC bA bC hin) (aP [2,3,4,5]) U)<|aq aj 9 ?_;refine bY U (aJ fun A=>?_) (aK fun A=>?_)
 ·refine aq aW 8 ?_;refine LX hQ (false,(dU l),none,0,[]) [] [] mn U (by rfl) U U ?_;exact rq<|O4 (n_ (r:=r) (me:=0) A) A
 refine dD aW 7 [0,1] (mc 1 U (mc 0 U mn)) U<|rS (CL (Ta l kA kC az cA cC bA bC r sgA sgC hin (by exact hsl)) (aP [2,3,4,5,6]) U)<|aq aj 3 ?_;refine bY U (aJ fun B=>?_) (aK fun B=>?_)
 ·refine aq aW 7 ?_;refine LX hQ (false,51,none,0,[]) [] [] mn U (by rfl) U U ?_;exact rq<|pN (gd (me:=0) A B)
 refine aq aW 3 ?_;refine cP bX [4,5,6] [] [] [0,1,2,3,4,5,6] [] U U U U U<|eS U (LW 1 U bP U U)<|eS U (LW 0 U bP U U)<|eS U (LW 1 U bP U U)<|eS U (LW 0 U bP U U)<|dI U<|bQ U fun T12 D=>cX (Rc l kA kC az cA cC bA bC r sgA sgC hin (by exact A) (by exact B)) (aP [2,3,4,5,6]) U fun R T=>?_;obtain ⟨O,P,M,N,K,L⟩:=R
 try dsimp only
 refine bG (D _ _ (aB [3,4,5,6,7,8,9]) ?_);refine bQ U fun T21 E=>fT 3 1<|fT 3 1<|xz<|uf 1 U ?_
 try dsimp only [List.eraseIdx]
 refine D1 U<|uf 1 U ?_
 try dsimp only [List.eraseIdx]
 refine D1 U ?_
 try dsimp only
 refine kx 0 rfl rfl rfl rfl (WL l kA kC az cA cC bA bC r sgA sgC O P M N K L l.ag.length ([]:List Int) none 0 ([]:List Int) none 0 hin (by exact A) (by exact B) sm (by rfl) (by exact ⟨wt _,B.time.2.1⟩) (by intro x hx;cases hx)) rfl (ek 6 rfl rfl (df (bL _)) (ek 7 rfl rfl (df (bL _)) (ek 8 rfl rfl (df (bL _)) (ek 9 rfl rfl (df (bL _)) (ek 10 rfl rfl (df (bL _)) (ek 1 rfl rfl (kb sm) (ek 2 rfl rfl (kb sm) (ek 3 rfl rfl (kb sm) mu)))))))) rfl (fun S G=>?_);obtain ⟨H,AB,J⟩:=S
 try dsimp only
 refine bG (E _ _ (aB [4,5,6,7,8,9,10]) ?_);refine bQ U fun T26 F=>uf 0 U ?_
 try dsimp only [List.eraseIdx]
 refine C5 ?_;dsimp only at G;refine rS (AG U)<|bG (F _ _ (aB [5,6,7,8,9,10,11]) ?_);refine eJ U<|aq jE 9 ?_;refine bE U (aG fun C=>?_) (aH fun C=>?_)
 ·refine aq aW 10 ?_;refine LX hQ (true,0,H,AB,J) [0,1] [] mn U (by (show List.all _ _=true;simp only [AAS,eX,om,ND,n4];rfl)) U U ?_;exact ⟨fun _=>⟨yn A B U fun q=>C (by rw [show jl l r l.ag.length [] []=[] from (eZ A B).2 q];rfl),G⟩,Q7⟩
 refine aq aW 7 ?_;refine LX hQ (false,8,none,0,[]) [] [] mn U (by rfl) U U ?_;exact rq<|pN (vD (me:=0) A B U ((eZ A B).1 (kq (ACT.1 C))))
theorem Lg (ws:List dN) (wz:List l9) (wA:OA) (wC b:Nat) (hws:RK ws) (hwz:wz.length=ws.length) (hb:b≤6):
 de Tryz.prog 233 [(vS wA ws.length wC),(vI (b:Int))] [(Xb wA ws wz),(iX (bx dN.lG ws wz))] (vT [(vA (aa.cells (rT ws b))),(vI (rO ws b))]):=by
 have W:=hws.num;refine bg kr Tryz.func233 U U fun Z Q hQ hN=>?_
 try dsimp only
 refine aS bS 2 U<|AL U dA fun Y=>aS aj 5 U<|AL U dA fun V=>aq aj 14 ?_;have C:(0≤ws.length)∧(pL b (ws.take 0) false (aa.mk 0 0)):=by exact ⟨c4 _,LD⟩
 refine bu (ι:={z:Nat×Bool×aa // (z.1≤ws.length)∧(pL b (ws.take z.1) z.2.1 z.2.2)}) [0,1,4,5,6] [1,2,3] U U (fun z=>[(7,(vB z.1.2.1)),(8,(vI (z.1.1:Int)))]) (fun z=>[(cb V 38 (aa.cells z.1.2.2))]) (fun _=>rfl) (fun _=>rfl) (fun z=>ws.length-z.1.1) ⟨(0,false,(aa.mk 0 0)),C⟩ (aN U) (aB [1,2,3,0]) ?_;clear C;rintro ⟨⟨i,fd,o⟩,⟨H,A⟩⟩ J8 F
 try dsimp only at H A
 try dsimp only
 refine aq bS 9 ?_;refine bE U (aG fun P=>?_) (aH fun P=>?_)
 ·refine aS aW 1 U<|aq fD 9 ?_;refine bE U (fun B=>?_) (fun B=>?_)
  ·rw [m5] at B;refine dD aW 5 [] (mc 3 U mn) U<|eN U cJ U<|aq aj 4 ?_;refine mU hQ [0] (mc 0 U mn) U ?_;have G:=CJ (by have q:=A;rwa [c5 I] at q) hws.JZ
   (have q:=G.2 B;rw [q.1,q.2];done)
  rw [e0] at B;refine aS aW 2 U<|rS (SX (aU (xs:=[]) (cs:=(aa.cells (aa.mk 0 0))) U U (aT gP U)) U U)<|eN U cJ U<|aq aj 4 ?_;refine mU hQ [0] (mc 0 U mn) U ?_;have G:=CJ (by have q:=A;rwa [c5 I] at q) hws.JZ
  (have q:=G.1 B;rw [q.1,q.2];done)
 refine aq aW 9 ?_;obtain ⟨y,hy⟩:=ax ws i I;obtain ⟨ya,D⟩:=ax wz i I;have AB:(zipWith dN.cells ws wz)[i]? =some (dN.cells y ya):=cD hy D;refine rS (IA i U (au 1 U) IW dc I I)<|rS (pV (i*3) U (au 1 U) (e6 I dc) eB U)<|rS (gG i 0 (vS ya.1.1 y.ia.length ya.1.2) U bP (au 1 U) AB U dc U)<|aq aj 5 ?_;refine bY U (aH fun R=>?_) (aG fun R=>?_)
 ·refine aq aW 7 ?_;have L:(vI (((i+1):Nat):Int))=(vI ((i:Int)+1)):=by exact cI I
  refine aL (F ⟨((i+1),fd,o),⟨I,by dsimp only;rw [uc hy];exact HK A I⟩⟩ _ _ _ U os (cx 6<|aQ U L<|cS.nil _) (aB [0,1,2,3]))
 refine aq aW 3 ?_;refine cP bX [17,18] [] [] [0,1,2,3] [] U U U U U ?_;have X:=hws.lens y (aF hy);obtain ⟨s,hs⟩: ∃ s,y.ia[b]? =some s:=⟨y.ia[b]'I,fh _⟩;refine eS U (MV U)<|eS U (MV U)<|eS U (IA i U (au 1 U) IW dc I I)<|eS U (pV ((i*3)+1) U (au 1 U) (e6 I dc) eB U)<|eS U (gG i 1 (vS ya.2.1.1 y.j8.length ya.2.1.2) U bP (au 1 U) AB U dc U)<|eS U (MV U) ?_;obtain ⟨f,hf⟩:=ax y.j8 b I;have T:=bw iC hf;refine eS U (IA b U (show ij _ (eE ya.2.1.1 y.j8).holds from (ct 2 U (bq hy D (by simp [dN.lG])))) cM dc I I)<|eS U (gG b 0 (vI f) U bP (show ij _ (eE ya.2.1.1 y.j8).holds from (ct 2 U (bq hy D (by simp [dN.lG])))) T U dc U)<|eS U (MV U)<|eS U (MV U)<|eS U (IA i U (au 1 U) IW dc I I)<|eS U (pV ((i*3)+2) U (au 1 U) (e6 I dc) eB U)<|eS U (gG i 2 (vS ya.2.2.1 y.oD.length ya.2.2.2) U bP (au 1 U) AB U dc U)<|eS U (MV U) ?_;obtain ⟨e,he⟩:=ax y.oD b I;have S:=bw iC he;refine eS U (IA b U (show ij _ (eE ya.2.2.1 y.oD).holds from (ct 2 U (bq hy D (by simp [dN.lG])))) cM dc I I)<|eS U (gG b 0 (vI e) U bP (show ij _ (eE ya.2.2.1 y.oD).holds from (ct 2 U (bq hy D (by simp [dN.lG])))) S U dc U)<|eS U (SX (aU (xs:=[(0,.tmp 31),(1,.tmp 39)]) (cs:=(aa.cells (aa.mk f e))) U U (aT gP U)) U U)<|dI U<|bQ U fun T17 J=>AL U dA fun AA=>bG (J _ _ (aB [1,2,3,4]) ?_);refine bQ U fun T19 K=>eN U cJ U<|bG (K _ _ (aB [1,2,3,4]) ?_);refine eJ U<|aq jE 4 ?_;have O:=hws.le y (aF hy) b f e I hf he;refine aq aj 3 ?_;refine bE U (fun E=>?_) (fun E=>?_)
 ·refine dD aW 4 [] (mc 0 U mn) U<|Ud U cJ U<|aq aj 9 ?_;have N:(vI (((i+1):Nat):Int))=(vI ((i:Int)+1)):=by exact cI I
  refine aL (F ⟨((i+1),true,(aa.mk f e)),⟨I,by dsimp only;rw [uc hy];exact Gc A E hs hf he O⟩⟩ _ _ _ U os (cx 6<|aQ U N<|cS.nil _) (aB [1,2,3,4]))
 refine dD aW 5 [0,1] (mc 0 U (mc 4 U mn)) U<|rS (MN U)<|dD aj 4 [0,1] (mc 0 U (mc 4 U mn)) U<|rS (MX U)<|rS (SX (aU (xs:=[(0,.tmp 46),(1,.tmp 51)]) (cs:=(aa.cells (aa.mk (min f o.Lo) (max e o.Hi)))) U U (aT gP U)) U U)<|eN U cJ U<|dD aj 4 [] (mc 0 U mn) U<|Ud U cJ U<|aq aj 9 ?_;have M:(vI (((i+1):Nat):Int))=(vI ((i:Int)+1)):=by exact cI I
 refine aL (F ⟨((i+1),true,(aa.mk (min f o.Lo) (max e o.Hi))),⟨I,by dsimp only;rw [uc hy];exact G8 A E hs hf he O⟩⟩ _ _ _ U os (cx 6<|aQ U M<|cS.nil _) (aB [1,2,3,4]))
end
section
open Go.RowKit
theorem Ww (l:a_) (kA:OA) (kC:Nat) (az:List RA) (cA:OA) (cC:Nat) (bA:OA) (bC:Nat) (r:cW) (sgA:OA) (sgC:Nat) (hin:dW l az) (hsl:r.ab.length≤1000000):
 de Tryz.prog 203 [(vA (bU.cells (bU.mk (aY.mk (aV.mk kA l.bW.length kC)) l.g7 (aV.mk cA l.aD.length cC) (aV.mk bA l.ag.length bC) l.b_ l.e_ l.di))),(vA (dx.cells (jR r sgA sgC)))] ((rE l kA az cA bA)++[(gR sgA r.ab)]) (vT [(vA (aa.cells (Gg l r))),(vI (eT l r l.b_))]):=by
 have c:=hin.sS;have W:=hin.sT;have AA:=hin.mD;have V:=hin.sU;refine bg kr Tryz.func203 U U fun j Q hQ hN=>?_
 try dsimp only
 refine aS bS 2 U<|dV U fun g=>dV U fun h=>AL U dA fun i=>cm aj 7 [0,1] (mc 2 U (mc 1 U mn)) ?_;refine cX (Th l kA kC az cA cC bA bC r sgA sgC hin hsl) (aP [3,4,5,6,7]) U fun f K=>?_;obtain ⟨L,T,R,N,M⟩:=f;cases L
 ·obtain ⟨G,he⟩:=K.2 rfl
  try dsimp only at G he
  subst G
  try dsimp only [cond_true,cond_false,List.cons_append,List.nil_append]
  refine aq aj 14 ?_;refine bE U (aK fun F=>?_) (aJ fun F=>?_)
  ·exact absurd F he
  refine aS aW 2 U<|rS (SX (aU (xs:=[]) (cs:=(aa.cells (aa.mk 0 0))) U U (aT gP U)) U U)<|aS aj 1 U<|eN U cJ U<|aq aj 4 ?_;refine mU hQ [0] (mc 0 U mn) U ?_
  (rw [HS (fun z=>he ((yJ he).symm.trans z)),yJ he]<;>rfl)
 obtain ⟨he,C⟩:=K.1 rfl
 try dsimp only [cond_true,cond_false,List.cons_append,List.nil_append]
 try dsimp only at he C
 obtain ⟨AB,E,_,X⟩:=jT he;obtain ⟨d,P⟩:=ep AB;have O:=P.head;unfold fj at O;have J:=Wu AB E;have e:=J.num;have Z:=E.len;have a:=E.time;refine aS aj 11 U<|rS (SX (ck (r:= .bool false) U U U nm) U U)<|aq aj 6 ?_;obtain ⟨b,H⟩: ∃ b:Nat,l.b_=(b:Int):=⟨l.b_.toNat,I⟩;have A:=M1 he (b:=b) I;rw [← H] at A;rw [H];refine dD aW 4 [] (mc 4 U mn) U<|rS (CL (Lg (sO l r) M R N b (by exact J) (by exact C) I) (aw (ak (n:=(sO l r).length) 0 U (v9 C))<|aw (dK 1 U Rv)<|aA) U)<|aS aj 3 U<|AL U dA fun S=>eN U cJ U<|aq aj 10 ?_;refine bY U (aJ fun B=>?_) (aK fun B=>?_)
 ·refine aS aW 2 U<|rS (SX (aU (xs:=[]) (cs:=(aa.cells (aa.mk 0 0))) U U (aT gP U)) U U)<|aS aj 1 U<|Yr U cJ U<|aq aj 4 ?_;refine mU hQ [0] (mc 3 U mn) U ?_
  (rw [HS (fun z=>B (A.1.trans z)),← A.1]<;>rfl)
 refine aq aW 3 ?_;have D:eT l r l.b_=0:=A.1.symm.trans B;have Y:=wi D;rw [A.2];refine dD aW 11 [0,1,0,1] (mc 0 U (mc 4 U mn)) U<|rS (SX (aU (xs:=[(0,.tmp 34),(1,.tmp 39)]) (cs:=(aa.cells (aa.mk (((eL l r l.b_).Lo)-r.Start) (((eL l r l.b_).Hi)-r.Start)))) U U (aT gP U)) U U)<|Yr U cJ U<|aq aj 4 ?_;refine mU hQ [0] (mc 3 U mn) U ?_
 (rw [G2 D,D])
theorem HV (la:List aZ) (laA:OA) (laC:Nat) (lb:List aZ) (lbA:OA) (lbC:Nat) (h1:la.length≤1000000) (h2:lb.length≤1000000):
 de Tryz.prog 84 [(vS laA la.length laC),(vS lbA lb.length lbC)] [(gR laA la),(gR lbA lb)] (vB (decide (la=lb))):=by
 refine bg kr Tryz.func84 U U fun AA Q hQ hN=>?_
 try dsimp only
 refine aq bS 15 ?_;refine bY U (aJ fun hl=>?_) (aK fun hl=>?_)
 ·refine cr aW 6 hQ U U ?_
  first|exact cB (bj (kg hx hy h)).symm|exact cB (cT (iH I A I)).symm|exact cB (bj (fun e=>by subst e;omega)).symm
 refine aq aW 9 ?_;have B:(0≤la.length)∧(la.take 0=lb.take 0):=by simp
 refine bu (ι:={z:Nat // (z≤la.length)∧(la.take z=lb.take z)}) [0,1] [0,1] U U (fun z=>[(5,(vI (z.1:Int)))]) (fun z=>[]) (fun _=>rfl) (fun _=>rfl) (fun z=>la.length-z.1) ⟨0,B⟩ (aN U) (aB [0,1]) ?_;clear B;rintro ⟨i,⟨F,A⟩⟩ J7 E
 try dsimp only
 refine aq bS 9 ?_;refine bE U (aG fun D=>?_) (aH fun D=>?_)
 ·refine aS aW 1 U<|cr fD 8 hQ U U ?_
  first|exact cB (bj (kg hx hy h)).symm|exact cB (cT (iH I A I)).symm|exact cB (bj (fun e=>by subst e;omega)).symm
 refine aS aW 5 U<|cK bX 9 kr<|dP 2 [] mn ?_;obtain ⟨x,hx⟩:=ax la i I;have G:=bw aZ.cells hx;refine dS (IA i U (au 0 U) zH dc I I)<|dS (ld i 0 (aZ.cells x) U bP (au 0 U) G U dc U U)<|dP 2 [] mn ?_;obtain ⟨y,hy⟩:=ax lb i I;have H:=bw aZ.cells hy;refine dS (IA i U (au 1 U) zH dc I I)<|dS (ld i 0 (aZ.cells y) U bP (au 1 U) H U dc U U)<|dS (BI U (X8 _ _ x y))<|cy<|aq aj 2 ?_;refine bY U (aJ fun h=>?_) (aK fun h=>?_)
 ·refine cr aW 6 hQ U U ?_
  first|exact cB (bj (kg hx hy h)).symm|exact cB (cT (iH I A I)).symm|exact cB (bj (fun e=>by subst e;omega)).symm
 refine aq aW 8 ?_;have C:(vI (((i+1):Nat):Int))=(vI ((i:Int)+1)):=by exact cI I
 refine aL (E ⟨(i+1),⟨I,iS A hx hy h⟩⟩ _ _ _ U os (cS.cons U<|cS.cons U<|aQ U C<|cS.nil _) (aB [0,1]))
end
section
open Go.RowKit
theorem H4 (d:ao) (sgA:OA) (sgC:Nat) (e:ao) (shA:OA) (shC:Nat) (h1:d.bp.ab.length≤1000000) (h2:e.bp.ab.length≤1000000):
 de Tryz.prog 40 [(vA (aO.cells (aO.mk d.Out d.cV d.Time (jR d.bp sgA sgC)))),(vA (aO.cells (aO.mk e.Out e.cV e.Time (dx.mk e.bp.Start e.bp.hU (aV.mk shA e.bp.ab.length shC)))))] [(gR sgA d.bp.ab),(gR shA e.bp.ab)] (vB (decide (d=e))):=by
 refine bg kr Tryz.func40 U U fun H Q hQ hN=>?_
 try dsimp only
 refine aS bS 2 U<|dV U fun F=>dV U fun G=>dD aj 9 [0,1] (mc 1 U (mc 0 U mn)) U<|rS (BI U (Hf Wd))<|aq aj 1 ?_;refine cz (t:=10) U (fun A=>?_) (fun A=>?_)
 ·replace A: ¬ d.Out=e.Out:=by simpa using A
  refine cr aj 44 hQ U U ?_;clear hQ hN;refine cB ?_;simp [qM, *]
 replace A:d.Out=e.Out:=by simpa using A
 refine dD aj 4 [0,1] (mc 1 U (mc 0 U mn)) U<|rS (BI U (Hf Wd))<|aq aj 2 ?_;refine cz (t:=17) U (fun B=>?_) (fun B=>?_)
 ·replace B: ¬ d.cV=e.cV:=by simpa using B
  refine cr aj 37 hQ U U ?_;clear hQ hN;refine cB ?_;simp [qM, *]
 replace B:d.cV=e.cV:=by simpa using B
 refine aS aj 1 U<|rS (LP (aa.cells d.Time) 1 U bP U U U)<|aS aj 1 U<|rS (LP (aa.cells e.Time) 0 U bP U U U)<|rS (BI U (wU _ _ d.Time e.Time))<|aq aj 2 ?_;refine cz (t:=24) U (aG fun C=>?_) (aH fun C=>?_)
 ·refine cr aj 30 hQ U U ?_;clear hQ hN;refine cB ?_;simp [qM, *]
 refine cm aj 9 [0,1] (mc 1 U (mc 0 U mn)) ?_;refine cz (t:=33) U (aG fun D=>?_) (aH fun D=>?_)
 ·refine cr aj 21 hQ U U ?_;clear hQ hN;refine cB ?_;simp [qM, *]
 refine cm aj 9 [0,1] (mc 1 U (mc 0 U mn)) ?_;refine cz (t:=42) U (aG fun E=>?_) (aH fun E=>?_)
 ·refine cr aj 12 hQ U U ?_;clear hQ hN;refine cB ?_;simp [qM, *]
 refine dD aj 6 [0,1] (mc 1 U (mc 0 U mn)) U<|rS (CL (HV d.bp.ab sgA sgC e.bp.ab shA shC h1 h2) (aP [2,3]) U)<|cr aj 5 hQ U U ?_;clear hQ hN;refine cB ?_;simp [qM, *]
theorem GM (r:cN) (kA:OA) (kC:Nat) (az:List RA) (cA:OA) (cC:Nat) (bA:OA) (bC:Nat) (slA:OA) (slC:Nat) (drA:OA) (drC:Nat) (ha:List cq) (heA:OA) (heC:Nat) (q:cN) (k2A:OA) (k2C:Nat) (az2:List RA) (c2A:OA) (c2C:Nat) (b2A:OA) (b2C:Nat) (sl2A:OA) (sl2C:Nat) (dr2A:OA) (dr2C:Nat) (ha2:List cq) (he2A:OA) (he2C:Nat) (hin:gI r az ha) (hin2:gI q az2 ha2) (hsm: ¬ lZ r) (hsm2: ¬ lZ q):
 de Tryz.prog 12 [(vA (cf.cells (pP r kA kC cA cC bA bC slA slC drA drC heA heC))),(vA (cf.cells (cf.mk (bU.mk (aY.mk (aV.mk k2A q.av.bW.length k2C)) q.av.g7 (aV.mk c2A q.av.aD.length c2C) (aV.mk b2A q.av.ag.length b2C) q.av.b_ q.av.e_ q.av.di) (aV.mk sl2A q.bf.length sl2C) (aV.mk dr2A q.dp.length dr2C) q.jB (aV.mk he2A q.ay.length he2C))))] ((Dp r kA az cA bA slA drA ha heA)++[(gQ k2A q.av.bW),(pb c2A q.av.aD az2),(iX (bx aX.lG q.av.aD az2)),(oG b2A q.av.ag),(eE sl2A q.bf),(eE dr2A q.dp),(qZ he2A q.ay ha2),(iX (bx nu q.ay ha2))]) (vB (decide (r=q))):=by
 have AA:=hin.line;have An:=hin.hE;have A0:=hin.has;have AO:=hin.hO;have v:=hin.draw;have AP:=fJ (r:=r);have hline2:=hin2.line;have x:=hin2.hE;have AC:=hin2.has;have u:=hin2.hO;have n:=hin2.draw;have c:=zo hsm;have f:=zo hsm2;refine bg kr Tryz.func12 U U fun w0 Q hQ hN=>?_
 try dsimp only
 refine aS bS 2 U<|dV U fun b2=>dV U fun b3=>aS aj 7 U<|rS (LP (bU.cells (kN r.av kA kC cA cC bA bC)) 1 U bP U U U)<|aS aj 1 U<|rS (LP (bU.cells (bU.mk (aY.mk (aV.mk k2A q.av.bW.length k2C)) q.av.g7 (aV.mk c2A q.av.aD.length c2C) (aV.mk b2A q.av.ag.length b2C) q.av.b_ q.av.e_ q.av.di)) 0 U bP U U U)<|rS (CL (Re r.av kA kC az cA cC bA bC q.av k2A k2C az2 c2A c2C b2A b2C (by exact AA) (by exact hline2) (by exact c.1) (by exact f.1)) (aP [2,3,4,5,10,11,12,13]) U)<|aq aj 2 ?_;refine bJ (t:=13) U (aJ fun O=>?_) (aK fun O=>?_)
 ·exact cr aj 40 hQ rfl rfl<|cB (bj (fun e=>by cases e;exact O rfl)).symm
 refine dD aj 4 [0,1] (mc 1 U (mc 0 U mn)) U<|rS (CL (tx r.bf slA slC q.bf sl2A sl2C asm asm) (aP [6,14]) U)<|aq aj 3 ?_;refine bJ (t:=21) U (aJ fun P=>?_) (aK fun P=>?_)
 ·exact cr aj 32 hQ rfl rfl<|cB (bj (fun e=>by cases e;exact P rfl)).symm
 refine dD aj 4 [0,1] (mc 1 U (mc 0 U mn)) U<|rS (CL (tx r.dp drA drC q.dp dr2A dr2C I I) (aP [7,15]) U)<|aq aj 3 ?_;refine bJ (t:=29) U (aJ fun R=>?_) (aK fun R=>?_)
 ·exact cr aj 24 hQ rfl rfl<|cB (bj (fun e=>by cases e;exact R rfl)).symm
 refine cm aj 7 [0,1] (mc 1 U (mc 0 U mn)) ?_;refine bJ (t:=36) U (aJ fun S=>?_) (aK fun S=>?_)
 ·exact cr aj 17 hQ rfl rfl<|cB (bj (fun e=>by cases e;exact S rfl)).symm
 refine cm aj 10 [0,1] (mc 1 U (mc 0 U mn)) ?_;refine bY U (aJ fun V=>?_) (aK fun V=>?_)
 ·exact cr aW 6 hQ rfl rfl<|cB (bj (fun e=>by cases e;exact V rfl)).symm
 refine aq aW 9 ?_;have B:(0≤r.ay.length)∧(r.ay.take 0=q.ay.take 0):=by exact ⟨c4 _,rfl⟩
 refine bu (ι:={z:Nat // (z≤r.ay.length)∧(r.ay.take z=q.ay.take z)}) [2,3] [0,1,2,3,4,5,6,7,8,9,10,11,12,13,14,15,16,17] U U (fun z=>[(5,(vI (z.1:Int)))]) (fun z=>[]) (fun _=>rfl) (fun _=>rfl) (fun z=>r.ay.length-z.1) ⟨0,B⟩ (aN U) (aB [0,1,2,3,4,5,6,7,8,9,10,11,12,13,14,15,16,17]) ?_;clear B;rintro ⟨h,⟨p,J⟩⟩ J13 W
 try dsimp only
 refine cm bS 10 [] (mc 1 U mn) ?_;refine bE U (aG fun j=>?_) (aH fun j=>?_)
 ·exact aS aW 1 U<|cr fD 8 hQ U U<|cB (cT (LO O P R S (iH I J I))).symm
 refine aS aW 6 U<|cK bX 13 kr<|dP 3 [] (mc 1 U mn) ?_;obtain ⟨ht,E⟩:=ax r.ay h I;obtain ⟨A,F⟩:=ax ha h I;have AB:(zipWith dQ r.ay ha)[h]? =some (dQ ht A):=cD E F;refine dS (IA h U (au 8 U) mz dc I I)<|dS (gG h 0 (vS A.1.1 ht.length A.1.2) U bP (au 8 U) AB U dc U)<|dP 4 [] (mc 0 U mn) ?_;obtain ⟨hu,D⟩:=ax q.ay h I;obtain ⟨C,G⟩:=ax ha2 h I;have N:(zipWith dQ q.ay ha2)[h]? =some (dQ hu C):=cD D G;refine dS (IA h U (au 16 U) mz dc I I)<|dS (gG h 0 (vS C.1.1 hu.length C.1.2) U bP (au 16 U) N U dc U)<|dP 1 [] mn ?_;have g:=hin.fG _ _ _ E F;have w:=g.mD;have M:=hin2.fG _ _ _ D G;have o:=M.mD;have y:=c.2.2.2.2 ht (aF E);refine iR 1 U<|cy<|aq aj 2 ?_;refine bY U (aJ fun l=>?_) (aK fun l=>?_)
 ·exact cr aW 6 hQ rfl rfl<|cB (bj (fun z=>by cases z;rw [E] at D;cases D;omega)).symm
 refine aq aW 8 ?_;have B:(0≤ht.length)∧(ht.take 0=hu.take 0):=by exact ⟨c4 _,rfl⟩
 refine bu (ι:={z:Nat // (z≤ht.length)∧(ht.take z=hu.take z)}) [2,3,5] [0,1,2,3,4,5,6,7,8,9,10,11,12,13,14,15,16,17] U U (fun z=>[(6,(vI (z.1:Int)))]) (fun z=>[]) (fun _=>rfl) (fun _=>rfl) (fun z=>ht.length-z.1) ⟨0,B⟩ (aN U) (aB [0,1,2,3,4,5,6,7,8,9,10,11,12,13,14,15,16,17]) ?_;clear B;rintro ⟨i,⟨s,K⟩⟩ J22 X
 try dsimp only
 refine dD bS 7 [] (mc 1 U mn) U<|rS (IA h U (au 8 U) mz dc I I)<|rS (gG h 0 (vS A.1.1 ht.length A.1.2) U bP (au 8 U) AB U dc U)<|aq aj 4 ?_;refine bE U (aG fun k=>?_) (aH fun k=>?_)
 ·refine aS aW 1 U<|aq fD 8 ?_;have Z:(vI (((h+1):Nat):Int))=(vI ((h:Int)+1)):=by exact cI I
  refine aL (W ⟨(h+1),⟨I,iS J E D (iH I K I)⟩⟩ _ _ _ U os (cS.cons U<|cS.cons U<|aQ U Z<|cS.nil _) (aB [0,1,2,3,4,5,6,7,8,9,10,11,12,13,14,15,16,17]))
 refine aS aW 5 U<|cK bX 18 kr<|jZ 3 [] (mc 1 U mn) U<|dS (IA h U (au 8 U) mz dc I I)<|dS (gG h 0 (vS A.1.1 ht.length A.1.2) U bP (au 8 U) AB U dc U)<|dP 1 [] mn ?_;obtain ⟨d,hd⟩:=ax ht i I;obtain ⟨da,a⟩:=ax A.2 i I;have m:(zipWith ao.cells ht A.2)[i]? =some (ao.cells d da):=cD hd a;refine dS (IA i U (show ij _ (jc A.1.1 ht A.2).holds from (ct 9 U (bq E F bZ))) rV dc I I)<|dS (ld i 0 (aO.cells (aO.mk d.Out d.cV d.Time (dx.mk d.bp.Start d.bp.hU (aV.mk da.1 d.bp.ab.length da.2)))) U bP (show ij _ (jc A.1.1 ht A.2).holds from (ct 9 U (bq E F bZ))) m U dc U U)<|jZ 3 [] (mc 0 U mn) U<|dS (IA h U (au 16 U) mz dc I I)<|dS (gG h 0 (vS C.1.1 hu.length C.1.2) U bP (au 16 U) N U dc U)<|dP 1 [] mn ?_;obtain ⟨e,H⟩:=ax hu i I;obtain ⟨ea,L⟩:=ax C.2 i I;have b:(zipWith ao.cells hu C.2)[i]? =some (ao.cells e ea):=cD H L;refine dS (IA i U (show ij _ (jc C.1.1 hu C.2).holds from (ct 17 U (bq D G bZ))) rV dc I I)<|dS (ld i 0 (aO.cells (aO.mk e.Out e.cV e.Time (dx.mk e.bp.Start e.bp.hU (aV.mk ea.1 e.bp.ab.length ea.2)))) U bP (show ij _ (jc C.1.1 hu C.2).holds from (ct 17 U (bq D G bZ))) b U dc U U)<|dS (CL (H4 d da.1 da.2 e ea.1 ea.2 (by exact g.sig d (aF hd)) (by exact M.sig e (aF H))) (aw (show ij _ (gR da.1 d.bp.ab).holds from (ct 9 U (bq E F (dg _ (bq hd a (by simp [ao.lG]))))))<|aw (show ij _ (gR ea.1 e.bp.ab).holds from (ct 17 U (bq D G (dg _ (bq H L (by simp [ao.lG]))))))<|aA) U)<|iR 1 U<|cy<|aq aj 2 ?_;refine bE U (aK fun T=>?_) (aJ fun T=>?_)
 ·refine aq aW 8 ?_;have Y:(vI (((i+1):Nat):Int))=(vI ((i:Int)+1)):=by exact cI I
  refine aL (X ⟨(i+1),⟨I,iS K hd H T⟩⟩ _ _ _ U os (cx 3<|aQ U Y<|cS.nil _) (aB [0,1,2,3,4,5,6,7,8,9,10,11,12,13,14,15,16,17]))
 exact cr aW 6 hQ rfl rfl<|cB (bj (fun z=>by cases z;rw [E] at D;cases D;(rw [hd] at H;cases H;exact T rfl))).symm
end
section
open Go.RowKit
variable (l:List Int) (lA:OA) (lC:Nat) (f:Value) (key:Int→Int) (X:ar)
theorem wH (hlen:l.length≤1000000):
 lf Tryz.prog 67 [(vS lA l.length lC)] [(eE lA l)] (fun (x:(OA)×Nat)=>(vS x.1 l.length x.2)) (fun (x:(OA)×Nat)=>True) (fun (x:(OA)×Nat)=>[(fB x.1 x.2 l)]):=by
 refine cR kr Tryz.func67 U U fun G Q hQ hN=>?_
 try dsimp only
 refine aS bS 9 U<|rS (BI U (tR YX))<|aq aj 2 ?_;refine bY U (aH fun B=>?_) (aG fun B=>?_)
 ·refine aq aW 2 ?_;refine od (au 0 U) B dc fun C=>?_;have A:l=[]:=by simpa using C
  refine fT 3 1 ?_;rw [show (own none 0 3 1 ([]:List (List Value)))=own none 0 3 1 (l.map iC) from by rw [A];rfl];refine aq aj 4 ?_;refine LX hQ (none,0) [0] [] mn U U U ?_ ?_
  ·first|rfl|(rw [A];rfl)
  ·trivial
 refine aS aW 4 U<|xn U cM U fun E=>aq aj 1 ?_;refine g0 (es:=(map iC [])) (C':=[own (some ⟨E,0,none⟩) 0 3 1 (map iC []),_]) 0 U sm U (by simp [maxLen]) U ?_;refine cZ (es2:=(map iC l)) (m':=l.length) 0 U U U pI U U sm (au 1 U) (j4 _) os (by (simp only [maxLen];omega)) sm sm U fun D F=>?_
 try dsimp only
 refine aq aj 4 ?_;refine LX hQ (D,F) [0] [] mn U U U ?_ ?_
 ·first|rfl|(rw [A];rfl)
 ·trivial
theorem FT (hf:∀ x0 x1,x0∈l∧x1∈l→BH Tryz.prog f [.int .i64 x0,.int .i64 x1] [X] (.int .i64 (key x0-key x1))) (hkb:∀ x∈l,0≤key x∧key x≤30000000) (hlen:l.length≤1000000):
 JN Tryz.prog 170 [(vS lA l.length lC),(vI 0),(vI (l.length:Int)),f] [X] (fB lA lC l) (fun (x:Unit)=>(vT [])) (fun (x:Unit)=>True) (fun (x:Unit)=>(fB lA lC (gU key l))):=by
 refine qp kr Tryz.func170 U U fun Y Q hQ hN=>?_
 try dsimp only
 refine aS bS 3 U<|rS (SX (ck (r:= .int .i64 1) U U U (jw ⟨dc,dc⟩)) U U)<|aq aj 4 ?_;have C:(1≤1∧(1≤l.length∨1=1))∧(l.length=l.length)∧(1=1∧l=[]∨xo key l 1 l)∧(∀ x∈l,x∈l):=by exact ⟨I,rfl,Lz,fun x h=>h⟩
 refine bu (ι:={z:Nat×(List Int) // (1≤z.1∧(z.1≤l.length∨z.1=1))∧(z.2.length=l.length)∧(z.1=1∧l=[]∨xo key l z.1 z.2)∧(∀ x∈z.2,x∈l)}) [0,1,2,3] [1] U U (fun z=>[(8,(vI (z.1.1:Int)))]) (fun z=>[(fB lA lC z.1.2)]) (fun _=>rfl) (fun _=>rfl) (fun z=>l.length-z.1.1) ⟨(1,l),C⟩ (aN U) (aB [1,0]) ?_;clear C;rintro ⟨⟨i,m⟩,⟨H,E,F,G⟩⟩ J2 K
 try dsimp only at H E F G
 try dsimp only
 refine aq bS 8 ?_;refine bE U (aG fun W=>?_) (aH fun W=>?_)
 ·refine aS aW 1 U<|aq fD 1 ?_;rw [show m=gU key l from Qg I E F];refine LM hN () 1 [] mn U U U U ?_;trivial
 refine aq aW 11 ?_;have C:(i≤i)∧(m.length=l.length)∧(∀ x∈m,x∈l)∧(FR key l i i m):=by exact ⟨c9 _,E,G,HQ I (Rl I F)⟩
 refine bu (ι:={z:Nat×(List Int) // (z.1≤i)∧(z.2.length=l.length)∧(∀ x∈z.2,x∈l)∧(FR key l i z.1 z.2)}) [0,1,2,3,8] [0] U U (fun z=>[(9,(vI (z.1.1:Int)))]) (fun z=>[(fB lA lC z.1.2)]) (fun _=>rfl) (fun _=>rfl) (fun z=>z.1.1) ⟨(i,m),C⟩ (aN U) (aB [0,1]) ?_;clear C;rintro ⟨⟨j,q⟩,⟨AB,D,A,B⟩⟩ J8 AA
 try dsimp only at AB D A B
 try dsimp only
 refine aS bS 2 U<|cK bX 17 kr<|dP 4 [] mn ?_;refine iQ (t:=21) U (aG fun S=>?_) (aH fun S=>?_)
 ·refine iR 13 U<|cy<|aS aj 4 U<|aq fD 8 ?_;refine aL (K ⟨((i+1),q),⟨I,D,.inr (by first|exact CQ I B|exact CC I B hx hy I),A⟩⟩ _ _ _ U (by simp only [];omega) (aN U) (aB [0,1]))
 refine dP 3 [] mn ?_;obtain ⟨x,hx⟩:=ax q j I;have J:=bw iC hx;refine dS (IA j U (ak (n:=l.length) 1 U sq) cM dc I I) ?_;refine dS (gG j 0 (vI x) U bP (ak (n:=q.length) 1 U sm) J U dc U)<|dP 3 [] mn ?_;obtain ⟨y,hy⟩:=ax q (j-1) I;have R:=bw iC hy;refine dS (IA (j-1) U (ak (n:=l.length) 1 U sq) cM dc I I) ?_;refine dS (gG (j-1) 0 (vI y) U bP (ak (n:=q.length) 1 U sm) R U dc U)<|dS (SX (pE U U U (hf x y ⟨A _ (aF hx),A _ (aF hy)⟩) (aP [0])) U U)<|iR 2 U<|cy<|aq aj 2 ?_;refine bE U (aG fun T=>?_) (aH fun T=>?_)
 ·refine aS aW 1 U<|aq fD 8 ?_;refine aL (K ⟨((i+1),q),⟨I,D,.inr (by first|exact CQ I B|exact CC I B hx hy I),A⟩⟩ _ _ _ U (by simp only [];omega) (aN U) (aB [0,1]))
 refine aq aW 4 ?_;refine cP bX [15,16,17] [8,9,12,13,14] [] [0] [0,1] U U U U U<|eS U (MV U)<|eS U (MV U)<|eS U (MV U)<|eS U (MV U)<|eS U (BI U (wK ⟨I,I⟩))<|eS U (MV U)<|eS U (MV U)<|eS U (BI U (wK ⟨I,I⟩)) ?_;refine fS U (IA (j-1) U (ak (n:=l.length) 1 U sq) cM dc I I) ?_;refine fS U (gG (j-1) 0 (vI y) U bP (ak (n:=q.length) 1 U sm) R U dc U)<|eS U (MV U)<|eS U (MV U) ?_;refine fS U (IA j U (ak (n:=l.length) 1 U sq) cM dc I I) ?_;refine fS U (gG j 0 (vI x) U bP (ak (n:=q.length) 1 U sm) J U dc U) ?_;refine fS U (IA j U (ak (n:=l.length) 1 U sq) cM dc I I) ?_;refine dI U<|bQ U fun T14 L=>ej (k:=j) (o:=0) (vs:=[(vI y)]) (es':=(map iC (q.set j y))) (C':=[_,(fB lA lC (q.set j y))]) 1 U U U GI U U U U J U dc (by exact (AAl (f:=iC) (l:=q) (i:=j) (a:=y)).symm) U<|bG (L _ _ (aB [0]) ?_);refine bQ U fun T15 M=>?_;obtain ⟨V,P⟩:=ax (q.set j y) (j-1) os;have hx17m:(map iC (q.set j y))[(j-1)]? =some (iC V):=by rw [gM,P];rfl
 refine rS (IA (j-1) U (ak (n:=l.length) 1 U sq) cM dc I I) ?_;refine bG (M _ _ (aB [0]) ?_);refine bQ U fun T18 N=>ej (k:=(j-1)) (o:=0) (vs:=[(vI x)]) (es':=(map iC ((q.set j y).set (j-1) x))) (C':=[_,(fB lA lC ((q.set j y).set (j-1) x))]) 1 U U U GI U U U U hx17m U dc (by exact (AAl (f:=iC) (l:=(q.set j y)) (i:=(j-1)) (a:=x)).symm) U<|bG (N _ _ (aB [0]) ?_);refine eJ U<|aq jE 7 ?_;have O:(vI (((j-1):Nat):Int))=(vI ((j:Int)-1)):=by exact cI I
 refine aL (AA ⟨((j-1),((q.set j y).set (j-1) x)),⟨I,by simp;exact D,QA hx hy A,Lc I B hx hy I⟩⟩ _ _ _ U (by simp only [];omega) (cx 5<|aQ U O<|cS.nil _) (aB [0,1]))
theorem Pe (hf:∀ x0 x1,x0∈l∧x1∈l→BH Tryz.prog f [.int .i64 x0,.int .i64 x1] [X] (.int .i64 (key x0-key x1))) (hkb:∀ x∈l,0≤key x∧key x≤30000000) (hlen:l.length≤12):
 JN Tryz.prog 128 [(vS lA l.length lC),(vI (l.length:Int)),f] [X] (fB lA lC l) (fun (x:Unit)=>(vT [])) (fun (x:Unit)=>True) (fun (x:Unit)=>(fB lA lC (gU key l))):=by
 refine qp kr Tryz.func128 U U fun F Q hQ hN=>?_
 try dsimp only
 refine aS bS 14 U<|iY 1<|eh fun R4 E=>aq bS 8 ?_;refine bY U (aH fun D=>?_) (aG fun D=>?_)
 ·exfalso;omega
 refine aS aW 1 U<|aq fD 8 ?_;refine kx 0 U U U U (FT l lA lC f key X (by exact hf) hkb sd) U (ek 1 U U (df (bL _)) mu) U (fun G C=>?_)
 try dsimp only
 refine aS aj 3 U<|iY 1<|eh fun R11 B=>aq bS 8 ?_;refine bY U (aH fun A=>?_) (aG fun A=>?_)
 ·exfalso;omega
 refine aS aW 1 U<|aq fD 1 ?_;refine LM hN () 0 [] mn U U U U ?_;trivial
theorem Dj (hf:∀ x0 x1,x0∈l∧x1∈l→BH Tryz.prog f [.int .i64 x0,.int .i64 x1] [X] (.int .i64 (key x0-key x1))) (hkb:∀ x∈l,0≤key x∧key x≤30000000) (hlen:l.length≤12):
 JN Tryz.prog 88 [(vS lA l.length lC),f] [X] (fB lA lC l) (fun (x:Unit)=>(vT [])) (fun (x:Unit)=>True) (fun (x:Unit)=>(fB lA lC (gU key l))):=by
 refine qp kr Tryz.func88 U U fun B Q hQ hN=>?_
 try dsimp only
 refine aq bS 5 ?_;refine kx 0 U U U U (Pe l lA lC f key X (by exact hf) hkb hlen) U (ek 1 U U (df (bL _)) mu) U (fun C A=>?_)
 try dsimp only
 refine aq aj 1 ?_;refine LM hN () 0 [] mn U U U U ?_;trivial
theorem Mf (hf:∀ x0 x1,x0∈l∧x1∈l→BH Tryz.prog f [.int .i64 x0,.int .i64 x1] [X] (.int .i64 (key x0-key x1))) (hkb:∀ x∈l,0≤key x∧key x≤30000000) (hlen:l.length≤12):
 lf Tryz.prog 43 [(vS lA l.length lC),f] [(eE lA l),X] (fun (x:(OA)×Nat)=>(vS x.1 ((gU key l).length) x.2)) (fun (x:(OA)×Nat)=>True) (fun (x:(OA)×Nat)=>[(fB x.1 x.2 (gU key l))]):=by
 refine cR kr Tryz.func43 U U fun F Q hQ hN=>?_
 try dsimp only
 refine aq bS 8 ?_;refine cX (wH l lA lC sd) (aP [0]) U fun E C=>?_;obtain ⟨A,B⟩:=E
 try dsimp only
 refine aq aj 7 ?_;refine kx 0 U U U U (Dj l A B f key X (by exact hf) hkb hlen) U (ek 2 U U (df (bL _)) mu) U (fun G D=>?_)
 try dsimp only
 refine aq aj 9 ?_;refine LX hQ (A,B) [0] [] mn U U U ?_ ?_
 ·first|rfl|(rw [qm];rfl)
 ·trivial
end
section
open Go.RowKit
theorem EC (l:List ai) (lA:OA) (lC:Nat) (hlen:l.length≤1000000):
 lf Tryz.prog 63 [(vS lA l.length lC)] [(gQ lA l)] (fun (x:(OA)×Nat)=>(vS x.1 l.length x.2)) (fun (x:(OA)×Nat)=>True) (fun (x:(OA)×Nat)=>[(zz x.1 x.2 l)]):=by
 refine cR kr Tryz.func63 U U fun G Q hQ hN=>?_
 try dsimp only
 refine aS bS 9 U<|rS (BI U (tR VN))<|aq aj 2 ?_;refine bY U (aH fun B=>?_) (aG fun B=>?_)
 ·refine aq aW 2 ?_;refine od (au 0 U) B dc fun C=>?_;have A:l=[]:=by simpa using C
  refine fT 65 9 ?_;rw [show (own none 0 65 9 ([]:List (List Value)))=own none 0 65 9 (l.map ai.cells) from by rw [A];rfl];refine aq aj 4 ?_;refine LX hQ (none,0) [0] [] mn U U U ?_ ?_
  ·first|rfl|(rw [A];rfl)
  ·trivial
 refine aS aW 4 U<|xn U vM U fun E=>aq aj 1 ?_;refine g0 (es:=(map ai.cells [])) (C':=[own (some ⟨E,0,none⟩) 0 65 9 (map ai.cells []),_]) 0 U sm U (by simp [maxLen]) U ?_;refine cZ (es2:=(map ai.cells l)) (m':=l.length) 0 U U U aaO U U sm (au 1 U) (vw _) os (by (simp only [maxLen];omega)) sm sm U fun D F=>?_
 try dsimp only
 refine aq aj 4 ?_;refine LX hQ (D,F) [0] [] mn U U U ?_ ?_
 ·first|rfl|(rw [A];rfl)
 ·trivial
theorem Ei (l:List dT) (lA:OA) (lC:Nat) (hlen:l.length≤1000000):
 lf Tryz.prog 64 [(vS lA l.length lC)] [(oG lA l)] (fun (x:(OA)×Nat)=>(vS x.1 l.length x.2)) (fun (x:(OA)×Nat)=>True) (fun (x:(OA)×Nat)=>[(yR x.1 x.2 l)]):=by
 refine cR kr Tryz.func64 U U fun G Q hQ hN=>?_
 try dsimp only
 refine aS bS 9 U<|rS (BI U (tR Tb))<|aq aj 2 ?_;refine bY U (aH fun B=>?_) (aG fun B=>?_)
 ·refine aq aW 2 ?_;refine od (au 0 U) B dc fun C=>?_;have A:l=[]:=by simpa using C
  refine fT 113 4 ?_;rw [show (own none 0 113 4 ([]:List (List Value)))=own none 0 113 4 (l.map dT.cells) from by rw [A];rfl];refine aq aj 4 ?_;refine LX hQ (none,0) [0] [] mn U U U ?_ ?_
  ·first|rfl|(rw [A];rfl)
  ·trivial
 refine aS aW 4 U<|xn U wN U fun E=>aq aj 1 ?_;refine g0 (es:=(map dT.cells [])) (C':=[own (some ⟨E,0,none⟩) 0 113 4 (map dT.cells []),_]) 0 U sm U (by simp [maxLen]) U ?_;refine cZ (es2:=(map dT.cells l)) (m':=l.length) 0 U U U YY U U sm (au 1 U) (sI _) os (by (simp only [maxLen];omega)) sm sm U fun D F=>?_
 try dsimp only
 refine aq aj 4 ?_;refine LX hQ (D,F) [0] [] mn U U U ?_ ?_
 ·first|rfl|(rw [A];rfl)
 ·trivial
theorem FK (l:List dj) (lA:OA) (lC:Nat) (hlen:l.length≤1000000):
 lf Tryz.prog 66 [(vS lA l.length lC)] [(nG lA l)] (fun (x:(OA)×Nat)=>(vS x.1 l.length x.2)) (fun (x:(OA)×Nat)=>True) (fun (x:(OA)×Nat)=>[(Uk x.1 x.2 l)]):=by
 refine cR kr Tryz.func66 U U fun G Q hQ hN=>?_
 try dsimp only
 refine aS bS 9 U<|rS (BI U (tR Uv))<|aq aj 2 ?_;refine bY U (aH fun B=>?_) (aG fun B=>?_)
 ·refine aq aW 2 ?_;refine od (au 0 U) B dc fun C=>?_;have A:l=[]:=by simpa using C
  refine fT 106 3 ?_;rw [show (own none 0 106 3 ([]:List (List Value)))=own none 0 106 3 (l.map dj.cells) from by rw [A];rfl];refine aq aj 4 ?_;refine LX hQ (none,0) [0] [] mn U U U ?_ ?_
  ·first|rfl|(rw [A];rfl)
  ·trivial
 refine aS aW 4 U<|xn U po U fun E=>aq aj 1 ?_;refine g0 (es:=(map dj.cells [])) (C':=[own (some ⟨E,0,none⟩) 0 106 3 (map dj.cells []),_]) 0 U sm U (by simp [maxLen]) U ?_;refine cZ (es2:=(map dj.cells l)) (m':=l.length) 0 U U U X3 U U sm (au 1 U) (yW _) os (by (simp only [maxLen];omega)) sm sm U fun D F=>?_
 try dsimp only
 refine aq aj 4 ?_;refine LX hQ (D,F) [0] [] mn U U U ?_ ?_
 ·first|rfl|(rw [A];rfl)
 ·trivial
theorem zR (l:List aZ) (lA:OA) (lC:Nat) (hlen:l.length≤1000000):
 lf Tryz.prog 30 [(vS lA l.length lC)] [(gR lA l)] (fun (x:(OA)×Nat)=>(vS x.1 l.length x.2)) (fun (x:(OA)×Nat)=>True) (fun (x:(OA)×Nat)=>[(W7 x.1 x.2 l)]):=by
 refine cR kr Tryz.func30 U U fun G Q hQ hN=>?_
 try dsimp only
 refine aS bS 9 U<|rS (BI U (tR Y3))<|aq aj 2 ?_;refine bY U (aH fun B=>?_) (aG fun B=>?_)
 ·refine aq aW 2 ?_;refine od (au 0 U) B dc fun C=>?_;have A:l=[]:=by simpa using C
  refine fT 85 2 ?_;rw [show (own none 0 85 2 ([]:List (List Value)))=own none 0 85 2 (l.map aZ.cells) from by rw [A];rfl];refine aq aj 4 ?_;refine LX hQ (none,0) [0] [] mn U U U ?_ ?_
  ·first|rfl|(rw [A];rfl)
  ·trivial
 refine aS aW 4 U<|xn U zH U fun E=>aq aj 1 ?_;refine g0 (es:=(map aZ.cells [])) (C':=[own (some ⟨E,0,none⟩) 0 85 2 (map aZ.cells []),_]) 0 U sm U (by simp [maxLen]) U ?_;refine cZ (es2:=(map aZ.cells l)) (m':=l.length) 0 U U U aar U U sm (au 1 U) (wF _) os (by (simp only [maxLen];omega)) sm sm U fun D F=>?_
 try dsimp only
 refine aq aj 4 ?_;refine LX hQ (D,F) [0] [] mn U U U ?_ ?_
 ·first|rfl|(rw [A];rfl)
 ·trivial
variable (es:List (List Value)) (lA:OA)
theorem Ff (n lC:Nat) (hlen:n≤1000000) (hes:es.length=n) (hone:∀ v∈es.flatten,v.oneCell'=true):
 lf Tryz.prog 65 [(vS lA n lC)] [(rd lA n 2 es)] (fun (x:(OA)×Nat)=>(vS x.1 n x.2)) (fun (x:(OA)×Nat)=>True) (fun (x:(OA)×Nat)=>[(own x.1 x.2 109 2 es)]):=by
 refine cR kr Tryz.func65 U U fun G Q hQ hN=>?_
 try dsimp only
 refine aS bS 9 U<|rS (BI U (tR YW))<|aq aj 2 ?_;refine bY U (aH fun A=>?_) (aG fun A=>?_)
 ·refine aq aW 2 ?_;refine od (au 0 U) A dc fun C=>?_;have B:es=[]:=C;refine fT 109 2 ?_;rw [show (own none 0 109 2 ([]:List (List Value)))=own none 0 109 2 es from by rw [B]];refine aq aj 4 ?_;refine LX hQ (none,0) [0] [] mn U U U ?_ ?_
  ·(rw [← hes,B];rfl)
  ·trivial
 refine aS aW 4 U<|xn U xK U fun E=>aq aj 1 ?_;refine g0 (es:=(map dB.cells [])) (C':=[own (some ⟨E,0,none⟩) 0 109 2 (map dB.cells []),_]) 0 U sm U (by simp [maxLen]) U ?_;refine cZ (es2:=es) (m':=es.length) 0 U U U aas U U sm (au 1 U) hone (by simp;omega) (by simp [maxLen];omega) sm U U fun D F=>?_
 try dsimp only
 refine aq aj 4 ?_;refine LX hQ (D,F) [0] [] mn U U U ?_ ?_
 ·(rw [hes];rfl)
 ·trivial
theorem F9 (n lC:Nat) (hlen:n≤1000000) (hes:es.length=n) (hone:∀ v∈es.flatten,v.oneCell'=true):
 lf Tryz.prog 69 [(vS lA n lC)] [(rd lA n 7 es)] (fun (x:(OA)×Nat)=>(vS x.1 n x.2)) (fun (x:(OA)×Nat)=>True) (fun (x:(OA)×Nat)=>[(own x.1 x.2 52 7 es)]):=by
 refine cR kr Tryz.func69 U U fun G Q hQ hN=>?_
 try dsimp only
 refine aS bS 9 U<|rS (BI U (tR Zp))<|aq aj 2 ?_;refine bY U (aH fun A=>?_) (aG fun A=>?_)
 ·refine aq aW 2 ?_;refine od (au 0 U) A dc fun C=>?_;have B:es=[]:=C;refine fT 52 7 ?_;rw [show (own none 0 52 7 ([]:List (List Value)))=own none 0 52 7 es from by rw [B]];refine aq aj 4 ?_;refine LX hQ (none,0) [0] [] mn U U U ?_ ?_
  ·(rw [← hes,B];rfl)
  ·trivial
 refine aS aW 4 U<|xn U rV U fun E=>aq aj 1 ?_;refine g0 (es:=(map aO.cells [])) (C':=[own (some ⟨E,0,none⟩) 0 52 7 (map aO.cells []),_]) 0 U sm U (by simp [maxLen]) U ?_;refine cZ (es2:=es) (m':=es.length) 0 U U U ZV U U sm (au 1 U) hone (by simp;omega) (by simp [maxLen];omega) sm U U fun D F=>?_
 try dsimp only
 refine aq aj 4 ?_;refine LX hQ (D,F) [0] [] mn U U U ?_ ?_
 ·(rw [hes];rfl)
 ·trivial
theorem F2 (n lC:Nat) (hlen:n≤1000000) (hes:es.length=n) (hone:∀ v∈es.flatten,v.oneCell'=true):
 lf Tryz.prog 68 [(vS lA n lC)] [(rd lA n 1 es)] (fun (x:(OA)×Nat)=>(vS x.1 n x.2)) (fun (x:(OA)×Nat)=>True) (fun (x:(OA)×Nat)=>[(own x.1 x.2 68 1 es)]):=by
 refine cR kr Tryz.func68 U U fun G Q hQ hN=>?_
 try dsimp only
 refine aS bS 9 U<|rS (BI U (tR YM))<|aq aj 2 ?_;refine bY U (aH fun A=>?_) (aG fun A=>?_)
 ·refine aq aW 2 ?_;refine od (au 0 U) A dc fun C=>?_;have B:es=[]:=C;refine fT 68 1 ?_;rw [show (own none 0 68 1 ([]:List (List Value)))=own none 0 68 1 es from by rw [B]];refine aq aj 4 ?_;refine LX hQ (none,0) [0] [] mn U U U ?_ ?_
  ·(rw [← hes,B];rfl)
  ·trivial
 refine aS aW 4 U<|xn U mz U fun E=>aq aj 1 ?_;refine g0 (es:=(map sC [])) (C':=[own (some ⟨E,0,none⟩) 0 68 1 (map sC []),_]) 0 U sm U (by simp [maxLen]) U ?_;refine cZ (es2:=es) (m':=es.length) 0 U U U Z7 U U sm (au 1 U) hone (by simp;omega) (by simp [maxLen];omega) sm U U fun D F=>?_
 try dsimp only
 refine aq aj 4 ?_;refine LX hQ (D,F) [0] [] mn U U U ?_ ?_
 ·(rw [hes];rfl)
 ·trivial
end
section
open Go.RowKit
theorem Tt (r:cN) (kA:OA) (kC:Nat) (az:List RA) (cA:OA) (cC:Nat) (bA:OA) (bC:Nat) (slA:OA) (slC:Nat) (drA:OA) (drC:Nat) (ha:List cq) (heA:OA) (heC:Nat) (hin:gI r az ha):
 lf Tryz.prog 77 [(vA (cf.cells (pP r kA kC cA cC bA bC slA slC drA drC heA heC)))] (Dp r kA az cA bA slA drA ha heA) (fun (x:(OA)×Nat×(OA)×Nat×(List RA)×(OA)×Nat×(OA)×Nat×(OA)×Nat×(OA)×Nat×(List cq))=>(vA (cf.cells (cf.mk (bU.mk (aY.mk (aV.mk x.1 r.av.bW.length x.2.1)) r.av.g7 (aV.mk x.2.2.1 r.av.aD.length x.2.2.2.1) (aV.mk x.2.2.2.2.2.1 r.av.ag.length x.2.2.2.2.2.2.1) r.av.b_ r.av.e_ r.av.di) (aV.mk x.2.2.2.2.2.2.2.1 r.bf.length x.2.2.2.2.2.2.2.2.1) (aV.mk x.2.2.2.2.2.2.2.2.2.1 r.dp.length x.2.2.2.2.2.2.2.2.2.2.1) r.jB (aV.mk x.2.2.2.2.2.2.2.2.2.2.2.1 r.ay.length x.2.2.2.2.2.2.2.2.2.2.2.2.1))))) (fun (x:(OA)×Nat×(OA)×Nat×(List RA)×(OA)×Nat×(OA)×Nat×(OA)×Nat×(OA)×Nat×(List cq))=>(x.2.2.2.2.1.length=r.av.aD.length∧p7 r.av.aD x.2.2.2.2.1)∧tn r.ay x.2.2.2.2.2.2.2.2.2.2.2.2.2) (fun (x:(OA)×Nat×(OA)×Nat×(List RA)×(OA)×Nat×(OA)×Nat×(OA)×Nat×(OA)×Nat×(List cq))=>[(zz x.1 x.2.1 r.av.bW),(wg x.2.2.1 x.2.2.2.1 r.av.aD x.2.2.2.2.1),(bD (bx aX.owns r.av.aD x.2.2.2.2.1)),(yR x.2.2.2.2.2.1 x.2.2.2.2.2.2.1 r.av.ag),(fB x.2.2.2.2.2.2.2.1 x.2.2.2.2.2.2.2.2.1 r.bf),(fB x.2.2.2.2.2.2.2.2.2.1 x.2.2.2.2.2.2.2.2.2.2.1 r.dp),(uZ x.2.2.2.2.2.2.2.2.2.2.2.1 x.2.2.2.2.2.2.2.2.2.2.2.2.1 r.ay x.2.2.2.2.2.2.2.2.2.2.2.2.2),(bD (bx kM r.ay x.2.2.2.2.2.2.2.2.2.2.2.2.2))]):=by
 have C:=hin.line;have EQ:=hin.hE;have M:=hin.has;have H1:=hin.hO;have Ha:=hin.draw;have IO:=fJ (r:=r);have J8:=C.sS;have J5:=C.sT;have J4:=C.sU;have Di:=C.mD;refine cR kr Tryz.func77 U U fun w0 Q hQ hN=>?_
 try dsimp only
 refine aS bS 2 U<|dV U fun b2=>AL U vC fun b3=>aq aj 9 ?_;refine cP bX [8,13,18,22,25,28] [7,11,15] [0,1,2] [0,2,3,4,5,6,7,8,9] [0,1,2,3,4,5,6,7,8,9] U U U U U<|eS U (MV U)<|eS U (MV U)<|eS U (MV U)<|eS U (MV U)<|eS U (SX (bK U U) U U)<|eS U (FA 0 U eB U)<|eS U (FA 0 U eB U)<|fS U (L1 (vS kA r.av.bW.length kC) 1 U bP U U)<|eS U (MV U)<|eS U (SX (bK U U) U U)<|eS U (FA 2 U eB U)<|fS U (L1 (vS cA r.av.aD.length cC) 1 U bP U U)<|eS U (MV U)<|eS U (SX (bK U U) U U)<|eS U (FA 3 U eB U)<|fS U (L1 (vS bA r.av.ag.length bC) 1 U bP U U)<|eS U (SX (bK U U) U U)<|eS U (FA 0 U eB U)<|eS U (FA 0 U eB U)<|eS U (SX (bK U U) U U)<|eS U (FA 2 U eB U)<|eS U (SX (bK U U) U U)<|eS U (FA 3 U eB U)<|dI U<|gu U fun T6 DL=>?_;refine cX (EC r.av.bW kA kC sd) (aP [2]) U fun y7 J9=>?_;obtain ⟨a9,S⟩:=y7
 try dsimp only
 refine bG (DL _ _ (aB [1,3,4,5,6,7,8,9,10]) (aB [1,2,3,4,5,6,7,8,9,10]) ?_);refine gu U fun T11 A4=>?_;refine cX (Ff (zipWith aX.cells r.av.aD az) cA r.av.aD.length cC sd (by exact im Di) (by exact Ad _ _)) (aP [4]) U fun Eq IR=>?_;obtain ⟨J,K⟩:=Eq
 try dsimp only
 refine bG (A4 _ _ (aB [2,4,5,6,7,8,9,10,11]) (aB [2,3,4,5,6,7,8,9,10,11]) ?_);refine gu U fun T16 A5=>?_;refine cX (Ei r.av.ag bA bC sd) (aP [7]) U fun FS Id=>?_;obtain ⟨Y,Z⟩:=FS
 try dsimp only
 refine bG (A5 _ _ (aB [3,5,6,7,8,9,10,11,12]) (aB [3,4,5,6,7,8,9,10,11,12]) ?_);refine bQ U fun T21 A6=>WR (cf.cells (cf.mk (bU.mk (aY.mk (aV.mk a9 r.av.bW.length S)) r.av.g7 (aV.mk cA r.av.aD.length cC) (aV.mk bA r.av.ag.length bC) r.av.b_ r.av.e_ r.av.di) (aV.mk slA r.bf.length slC) (aV.mk drA r.dp.length drC) r.jB (aV.mk heA r.ay.length heC))) U XO U U<|bG (A6 _ _ (aB [3,5,6,7,8,9,10,11,12]) ?_);refine bQ U fun T22 A7=>WR (cf.cells (cf.mk (bU.mk (aY.mk (aV.mk a9 r.av.bW.length S)) r.av.g7 (aV.mk J r.av.aD.length K) (aV.mk bA r.av.ag.length bC) r.av.b_ r.av.e_ r.av.di) (aV.mk slA r.bf.length slC) (aV.mk drA r.dp.length drC) r.jB (aV.mk heA r.ay.length heC))) U Zl U U<|bG (A7 _ _ (aB [3,5,6,7,8,9,10,11,12]) ?_);refine bQ U fun T23 A8=>WR (cf.cells (cf.mk (bU.mk (aY.mk (aV.mk a9 r.av.bW.length S)) r.av.g7 (aV.mk J r.av.aD.length K) (aV.mk Y r.av.ag.length Z) r.av.b_ r.av.e_ r.av.di) (aV.mk slA r.bf.length slC) (aV.mk drA r.dp.length drC) r.jB (aV.mk heA r.ay.length heC))) U WB U U<|bG (A8 _ _ (aB [3,5,6,7,8,9,10,11,12]) ?_);refine eJ U<|aS jE 5 U<|rS (SX (bK U U) U U)<|cm aj 7 [] (mc 4 U mn) ?_;refine mj ?_;have E:(0≤r.av.aD.length)∧(([]:List RA).length=0)∧(p7 r.av.aD ([]:List RA)):=by exact ⟨c4 _,rfl,fun k m a _ h=>by simp at h⟩
 refine bu (ι:={z:Nat×(List RA) // (z.1≤r.av.aD.length)∧(z.2.length=z.1)∧(p7 r.av.aD z.2)}) [1,2,3,39] [1,3,4,5,6,7,8,9,10,11,12,13] U U (fun z=>[(40,(vI (z.1.1:Int)))]) (fun z=>[(bD (bx aX.owns (r.av.aD.take z.1.1) z.1.2)),(wg J K r.av.aD (jm z.1.2 az z.1.1))]) (fun _=>rfl) (fun _=>rfl) (fun z=>r.av.aD.length-z.1.1) ⟨(0,([]:List RA)),E⟩ (aN U) (aB [1,3,4,5,6,7,8,9,10,11,12,13,0,2]) ?_;clear E;rintro ⟨⟨i,bz⟩,⟨A0,B,V⟩⟩ J26 A1
 try dsimp only at A0 B V
 try dsimp only
 refine aq bS 6 ?_;refine bY U (aH fun C3=>?_) (aG fun C3=>?_)
 ·refine aq aW 10 ?_;refine cP bX [13,16] [10,11,12,13,14] [0] [0,1,2,3,4,5,6,7,8,9,10,11,12] [0,1,2,3,4,5,6,7,8,9,10,11,12,13] U U U U U<|eS U (MV U)<|eS U (SX (bK U U) U U)<|eS U (FA 2 U eB U)<|eS U (L1 (vS J r.av.aD.length K) 3 U bP U U)<|eS U (MV U)<|eS U (MV U)<|eS U (SX (bK U U) U U)<|eS U (FA 2 U eB U)<|eS U (L1 (vS J r.av.aD.length K) 3 U bP U U)<|eS U (MV U) ?_;obtain ⟨x,hx⟩:=ax r.av.aD i I;obtain ⟨xa,s⟩:=ax az i I;have C2:(zipWith aX.cells r.av.aD (jm bz az i))[i]? =some (aX.cells x xa):=cD hx (um B s);have J7:=(C.U8 _ _ _ hx s).2;refine fS U (IA i U (ak (n:=r.av.aD.length) 13 U (im (by rw [eV B I];exact C.mD))) xK dc I I) ?_;refine fS U (pV ((i*2)+1) U (ak (n:=r.av.aD.length) 13 U (im (by rw [eV B I];exact C.mD))) (e6 I dc) eB U) ?_;refine fS U (gG i 1 (vS xa.1 x.bo.length xa.2) U bP (ak (n:=r.av.aD.length) 13 U (im (by rw [eV B I];exact C.mD))) C2 U dc U) ?_;refine fS U (IA i U (ak (n:=r.av.aD.length) 13 U (im (by rw [eV B I];exact C.mD))) xK dc I I) ?_;refine fS U (pV ((i*2)+1) U (ak (n:=r.av.aD.length) 13 U (im (by rw [eV B I];exact C.mD))) (e6 I dc) eB U) ?_;refine dI U<|gu U fun T32 A9=>?_;refine cX (FK x.bo xa.1 xa.2 sd) (aw (show ij _ (nG xa.1 x.bo).holds from (ct 6 U (bq hx s (by simp [aX.lG]))))<|aA) U fun Fd If=>?_;obtain ⟨P,T⟩:=Fd
  try dsimp only
  refine bG (A9 _ _ (aB [1,2,3,4,5,6,7,8,9,10,11,12,13]) (aB [1,2,3,4,5,6,7,8,9,10,11,12,13,14]) ?_);refine bQ U fun T37 Bx=>ej (k:=i) (o:=1) (vs:=[(vS P x.bo.length T)]) (es':=(zipWith aX.cells r.av.aD (jm (bz++[(P,T)]) az (i+1)))) (C':=[_,_,_,_,_,_,_,_,_,_,_,_,_,_,(wg J K r.av.aD (jm (bz++[(P,T)]) az (i+1)))]) 14 U U U Ug U U U U C2 U dc (by exact qH (c:=aX.cells) (b:=(P,T)) hx B s) U<|bG (Bx _ _ (aB [1,2,3,4,5,6,7,8,9,10,11,12,13]) ?_);refine eJ U<|aq jE 6 ?_;refine OH 0 U fun t=>?_;simp only [c3] at t;refine Dz (Y':=bx aX.owns (r.av.aD.take (i+1)) (bz++[(P,T)])) 13 0 U U (nx (f:=aX.owns) (b:=(P,T)) hx B) ?_;have Ct:(vI (((i+1):Nat):Int))=(vI ((i:Int)+1)):=by exact cI I
  refine aL (A1 ⟨((i+1),(bz++[(P,T)])),⟨I,by simp;omega,Gb V B hx t⟩⟩ _ _ _ U os (cx 4<|aQ U Ct<|cS.nil _) (aB [1,2,3,4,5,6,7,8,9,10,11,12,0,13]))
 refine aS aW 1 U<|aq fD 3 ?_;have Do:bz.length=r.av.aD.length:=by omega
 have Dw:=V;rw [show (jm bz az i)=bz from rj I,show r.av.aD.take i=r.av.aD from c5 I];refine cP bX [2,5,8,10,12,14] [1,3,5] [0,1,2] [0,1,2,4,5,6,7,8,9,10,11,12,13] [0,1,2,3,4,5,6,7,8,9,10,11,12,13] U U U U U<|eS U (FA 7 U eB U)<|fS U (L1 (vS slA r.bf.length slC) 3 U bP U U)<|eS U (FA 8 U eB U)<|fS U (L1 (vS drA r.dp.length drC) 3 U bP U U)<|eS U (FA 10 U eB U)<|fS U (L1 (vS heA r.ay.length heC) 3 U bP U U)<|eS U (FA 7 U eB U)<|eS U (FA 8 U eB U)<|eS U (FA 10 U eB U)<|dI U<|gu U fun T40 By=>?_;refine cX (wH r.bf slA slC sd) (aP [8]) U fun Fi In=>?_;obtain ⟨g,j⟩:=Fi
 try dsimp only
 refine bG (By _ _ (aB [1,2,3,5,6,7,8,9,10,11,12,13,14]) (aB [1,2,3,4,5,6,7,8,9,10,11,12,13,14]) ?_);refine gu U fun T45 B3=>?_;refine cX (wH r.dp drA drC sd) (aP [10]) U fun Fn JR=>?_;obtain ⟨w,AO⟩:=Fn
 try dsimp only
 refine bG (B3 _ _ (aB [2,3,4,6,7,8,9,10,11,12,13,14,15]) (aB [2,3,4,5,6,7,8,9,10,11,12,13,14,15]) ?_);refine gu U fun T50 B7=>?_;refine cX (F2 (zipWith dQ r.ay ha) heA r.ay.length heC sd (by exact e8 M) (by exact CG _ _)) (aP [12]) U fun GE JZ=>?_;obtain ⟨W,X⟩:=GE
 try dsimp only
 refine bG (B7 _ _ (aB [3,4,5,7,8,9,10,11,12,13,14,15,16]) (aB [3,4,5,6,7,8,9,10,11,12,13,14,15,16]) ?_);refine bQ U fun T55 B9=>WQ (cf.cells (cf.mk (bU.mk (aY.mk (aV.mk a9 r.av.bW.length S)) r.av.g7 (aV.mk J r.av.aD.length K) (aV.mk Y r.av.ag.length Z) r.av.b_ r.av.e_ r.av.di) (aV.mk g r.bf.length j) (aV.mk drA r.dp.length drC) r.jB (aV.mk heA r.ay.length heC))) U wM U U<|bG (B9 _ _ (aB [3,4,5,7,8,9,10,11,12,13,14,15,16]) ?_);refine bQ U fun T56 CI=>WQ (cf.cells (cf.mk (bU.mk (aY.mk (aV.mk a9 r.av.bW.length S)) r.av.g7 (aV.mk J r.av.aD.length K) (aV.mk Y r.av.ag.length Z) r.av.b_ r.av.e_ r.av.di) (aV.mk g r.bf.length j) (aV.mk w r.dp.length AO) r.jB (aV.mk heA r.ay.length heC))) U wM U U<|bG (CI _ _ (aB [3,4,5,7,8,9,10,11,12,13,14,15,16]) ?_);refine bQ U fun T57 Ci=>WQ (cf.cells (cf.mk (bU.mk (aY.mk (aV.mk a9 r.av.bW.length S)) r.av.g7 (aV.mk J r.av.aD.length K) (aV.mk Y r.av.ag.length Z) r.av.b_ r.av.e_ r.av.di) (aV.mk g r.bf.length j) (aV.mk w r.dp.length AO) r.jB (aV.mk W r.ay.length X))) U Xk U U<|bG (Ci _ _ (aB [3,4,5,7,8,9,10,11,12,13,14,15,16]) ?_);refine eJ U<|cm jE 11 [] (mc 6 U mn) ?_;refine mj ?_;have E:(0≤r.ay.length)∧(([]:List cq).length=0)∧(∀ (k:Nat) y (a:cq),r.ay[k]? =some y→([]:List cq)[k]? =some a→a.2.length=y.length):=by exact ⟨c4 _,rfl,fun k y a _ q=>by simp at q⟩
 refine bu (ι:={z:Nat×(List cq) // (z.1≤r.ay.length)∧(z.2.length=z.1)∧(∀ (k:Nat) y (a:cq),r.ay[k]? =some y→z.2[k]? =some a→a.2.length=y.length)}) [1,2,74] [2,3,4,5,6,7,8,9,10,11,12,13,14,15,16,17] U U (fun z=>[(75,(vI (z.1.1:Int)))]) (fun z=>[(bD (bx kM (r.ay.take z.1.1) z.1.2)),(uZ W X r.ay (jm z.1.2 ha z.1.1))]) (fun _=>rfl) (fun _=>rfl) (fun z=>r.ay.length-z.1.1) ⟨(0,([]:List cq)),E⟩ (aN U) (aB [2,3,4,5,6,7,8,9,10,11,12,13,14,15,16,17,0,1]) ?_;clear E;rintro ⟨⟨h,hz⟩,⟨l,A,L⟩⟩ J60 A2
 try dsimp only at l A L
 try dsimp only
 refine aq bS 6 ?_;refine bE U (aG fun DA=>?_) (aH fun DA=>?_)
 ·refine aS aW 1 U<|aq fD 3 ?_;have EY:tn r.ay hz:=⟨I,L⟩;rw [show (jm hz ha h)=hz from rj I,show r.ay.take h=r.ay from c5 I];refine dD aW 2 [] (mc 5 U mn) U<|Ud U n8 U<|aq aj 3 ?_;refine LX hQ (a9,S,J,K,bz,Y,Z,g,j,w,AO,W,X,hz) [3,15,14,2,1,0,17,16] [0] (mc 4 U mn) U (by show List.all _ _=true;simp only [eX,om,gE,lq,n4];rfl) U U ?_;exact ⟨⟨Do,Dw⟩,EY⟩
 refine aq aW 11 ?_;refine cP bX [8,10] [6,7,8] [0] [0,1,2,3,4,5,6,7,8,9,10,11,12,13,14,15,16] [0,1,2,3,4,5,6,7,8,9,10,11,12,13,14,15,16,17] U U U U U<|eS U (FA 10 U eB U)<|eS U (L1 (vS W r.ay.length X) 5 U bP U U)<|eS U (MV U)<|eS U (FA 10 U eB U)<|eS U (L1 (vS W r.ay.length X) 5 U bP U U)<|eS U (MV U) ?_;obtain ⟨ht,N⟩:=ax r.ay h I;obtain ⟨D,O⟩:=ax ha h I;have u:(zipWith dQ r.ay (jm hz ha h))[h]? =some (dQ ht D):=cD N (um A O);have An:=hin.fG _ _ _ N O;have e:=An.mD;have EQ:=An.len;refine fS U (IA h U (ak (n:=r.ay.length) 17 U (e8 (by rw [eV A I];exact M))) mz dc I I) ?_;refine fS U (gG h 0 (vS D.1.1 ht.length D.1.2) U bP (ak (n:=r.ay.length) 17 U (e8 (by rw [eV A I];exact M))) u U dc U) ?_;refine fS U (IA h U (ak (n:=r.ay.length) 17 U (e8 (by rw [eV A I];exact M))) mz dc I I) ?_;refine dI U<|gu U fun T67 Ck=>?_;refine cX (F9 (zipWith ao.cells ht D.2) D.1.1 ht.length D.1.2 sd (by exact mY e) (by exact IP _ _)) (aw (show ij _ (jc D.1.1 ht D.2).holds from (ct 13 U (bq N O bZ)))<|aA) U fun GT J2=>?_;obtain ⟨G,H⟩:=GT
 try dsimp only
 refine bG (Ck _ _ (aB [1,2,3,4,5,6,7,8,9,10,11,12,13,14,15,16,17]) (aB [1,2,3,4,5,6,7,8,9,10,11,12,13,14,15,16,17,18]) ?_);refine bQ U fun T72 Cp=>ej (k:=h) (o:=0) (vs:=[(vS G ht.length H)]) (es':=(zipWith dQ r.ay (jm (hz++[((G,H),D.2)]) ha (h+1)))) (C':=[_,_,_,_,_,_,_,_,_,_,_,_,_,_,_,_,_,_,(uZ W X r.ay (jm (hz++[((G,H),D.2)]) ha (h+1)))]) 18 U U U XZ U U U U u U dc (by exact qH (b:=((G,H),D.2)) N A O) U<|bG (Cp _ _ (aB [1,2,3,4,5,6,7,8,9,10,11,12,13,14,15,16,17]) ?_);refine eJ U<|cm jE 6 [] (mc 6 U mn) ?_;have v:(zipWith dQ r.ay (jm (hz++[((G,H),D.2)]) ha (h+1)))[h]? =some (dQ ht ((G,H),D.2)):=cD N (EL A);refine rS (IA h U (ak (n:=r.ay.length) 18 U (e8 (by rw [eV (by simp;omega) I];exact M))) mz dc I I) ?_;refine rS (gG h 0 (vS G ht.length H) U bP (ak (n:=r.ay.length) 18 U (e8 (by rw [eV (by simp;omega) I];exact M))) v U dc U) ?_;refine aq aj 5 ?_;refine mj ?_;have E:(0≤ht.length)∧(([]:List RA).length=0):=by exact ⟨c4 _,rfl⟩
 refine bu (ι:={z:Nat×(List RA) // (z.1≤ht.length)∧(z.2.length=z.1)}) [1,2,5,74,75,93] [2,3,4,5,6,7,8,9,10,11,12,13,14,15,16,17,18,19] U U (fun z=>[(94,(vI (z.1.1:Int)))]) (fun z=>[(bD (bx lP (ht.take z.1.1) z.1.2)),(C4 G H ht (jm z.1.2 D.2 z.1.1))]) (fun _=>rfl) (fun _=>rfl) (fun z=>ht.length-z.1.1) ⟨(0,([]:List RA)),E⟩ (aN U) (aB [2,3,4,5,6,7,8,9,10,11,12,13,14,15,16,17,18,19,0,1]) ?_;clear E;rintro ⟨⟨i,dz⟩,⟨p,F⟩⟩ J74 A3
 try dsimp only at p F
 try dsimp only
 refine aq bS 6 ?_;refine bE U (aG fun DC=>?_) (aH fun DC=>?_)
 ·refine aS aW 1 U<|aq fD 7 ?_;have Hi:dz.length=ht.length:=by omega
  rw [show (jm dz D.2 i)=dz from rj I,show ht.take i=ht from c5 I];refine Ql (Z':=bx kM (r.ay.take (h+1)) (hz++[((G,H),dz)])) 16 18 19 U U (nx (f:=kM) (b:=((G,H),dz)) N A) ?_;rw [ES (y:=dz)];have C0:(vI (((h+1):Nat):Int))=(vI ((h:Int)+1)):=by exact cI I
  refine aL (A2 ⟨((h+1),(hz++[((G,H),dz)])),⟨I,by simp;omega,IH N L A dso⟩⟩ _ _ _ U os (cx 3<|aQ U C0<|cS.nil _) (aB [1,2,3,4,5,6,7,8,9,10,11,12,13,14,15,16,0,17]))
 refine aq aW 11 ?_;refine zG 19 U (by rw [mY (by rw [eV F I];exact e)];omega) (fun Go AB=>?_);refine cm aW 4 [] (mc 5 U mn) ?_;refine rS (IA h U (ak (n:=r.ay.length) 17 U (e8 (by rw [eV (by simp;omega) I];exact M))) mz dc I I) ?_;refine rS (gG h 0 (vS G ht.length H) U bP (ak (n:=r.ay.length) 17 U (e8 (by rw [eV (by simp;omega) I];exact M))) v U dc U) ?_;refine aq aj 1 ?_;obtain ⟨d,hd⟩:=ax ht i I;obtain ⟨da,AP⟩:=ax D.2 i I;have C1:(zipWith ao.cells ht (jm dz D.2 i))[i]? =some (ao.cells d da):=cD hd (um F AP);have J6:=An.sig d (aF hd);refine rS (IAP i U AB rV I I)<|rS (YS ((i*7)+4) U AB eB U)<|aq aj 6 ?_;refine rS (SX (uG U U AB) U U)<|rS (YS (((i*7)+4)+2) U AB eB U) ?_;refine rS (gG i 6 (vS da.1 d.bp.ab.length da.2) U bP (ak (n:=ht.length) 19 U (mY (by rw [eV F I];exact e))) C1 U dc U) ?_;refine cX (zR d.bp.ab da.1 da.2 sd) (aw (show ij _ (gR da.1 d.bp.ab).holds from (ct 13 U (bq N O (dg _ (bq hd AP (by simp [ao.lG]))))))<|aA) U fun GV J3=>?_;obtain ⟨R,AA⟩:=GV
 try dsimp only
 refine rS (SX (uG U U AB) U U)<|rS (YS (((i*7)+4)+2) U AB eB U)<|ej (k:=i) (o:=6) (vs:=[(vS R d.bp.ab.length AA)]) (es':=(zipWith ao.cells ht (jm (dz++[(R,AA)]) D.2 (i+1)))) (C':=[_,_,_,_,_,_,_,_,_,_,_,_,_,_,_,_,_,_,_,_,(C4 G H ht (jm (dz++[(R,AA)]) D.2 (i+1)))]) 20 U U U VI U U U U C1 U dc (by exact qH (c:=ao.cells) (b:=(R,AA)) hd F AP) U<|aq aj 7 ?_;refine Dz (Y':=bx lP (ht.take (i+1)) (dz++[(R,AA)])) 19 0 U U (nx (f:=lP) (b:=(R,AA)) hd F) ?_;have Cx:(vI (((i+1):Nat):Int))=(vI ((i:Int)+1)):=by exact cI I
 refine aL (A3 ⟨((i+1),(dz++[(R,AA)])),⟨I,by simp;omega⟩⟩ _ _ _ U os (cx 6<|aQ U Cx<|cS.nil _) (aB [1,2,3,4,5,6,7,8,9,10,11,12,13,14,15,16,17,18,0,19]))
end
section
open Go.RowKit
theorem zT (r:cN) (kA:OA) (kC:Nat) (az:List RA) (cA:OA) (cC:Nat) (bA:OA) (bC:Nat) (slA:OA) (slC:Nat) (drA:OA) (drC:Nat) (ha:List cq) (heA:OA) (heC:Nat) (tz:List RA) (tA:OA) (tC:Nat) (ms:Value) (gw:Nat) (h i:Int) (t:aa) (hin:gI r az ha) (hok:fr r):
 lf Tryz.prog 33 [(vP gw),(vI h),(vI i),(vA (aa.cells t))] ((Dp r kA az cA bA slA drA ha heA)++[(rd tA ((dL r).length) 1 (zipWith Td (dL r) tz)),(iX (bx TL (dL r) tz)),(cb gw 98 (hP.cells (hP.mk (pP r kA kC cA cC bA bC slA slC drA drC heA heC) (aV.mk tA ((dL r).length) tC) ms)))]) (fun (x:Bool×Int×(OA)×Nat×(OA)×Nat×(List RA)×(OA)×Nat×(OA)×Nat×(OA)×Nat×(OA)×Nat×(List cq))=>bif x.1 then (vT [(vA (cf.cells (cf.mk (bU.mk (aY.mk (aV.mk x.2.2.1 r.av.bW.length x.2.2.2.1)) r.av.g7 (aV.mk x.2.2.2.2.1 r.av.aD.length x.2.2.2.2.2.1) (aV.mk x.2.2.2.2.2.2.2.1 r.av.ag.length x.2.2.2.2.2.2.2.2.1) r.av.b_ r.av.e_ r.av.di) (aV.mk x.2.2.2.2.2.2.2.2.2.1 r.bf.length x.2.2.2.2.2.2.2.2.2.2.1) (aV.mk x.2.2.2.2.2.2.2.2.2.2.2.1 r.dp.length x.2.2.2.2.2.2.2.2.2.2.2.2.1) r.jB (aV.mk x.2.2.2.2.2.2.2.2.2.2.2.2.2.1 ((jJ r.ay h i t).length) x.2.2.2.2.2.2.2.2.2.2.2.2.2.2.1)))),(vI 0)]) else (vT [(vA (cf.cells (cf.mk (bU.mk (aY.mk (aV.mk none 0 0)) 0 (aV.mk none 0 0) (aV.mk none 0 0) 0 0 0) (aV.mk none 0 0) (aV.mk none 0 0) 0 (aV.mk none 0 0)))),(vI x.2.1)])) (fun (x:Bool×Int×(OA)×Nat×(OA)×Nat×(List RA)×(OA)×Nat×(OA)×Nat×(OA)×Nat×(OA)×Nat×(List cq))=>(x.1=true→((sP r h i t)=0∧(x.2.2.2.2.2.2.1.length=r.av.aD.length∧p7 r.av.aD x.2.2.2.2.2.2.1)∧tn (jJ r.ay h i t) x.2.2.2.2.2.2.2.2.2.2.2.2.2.2.2))∧(x.1=false→(x.2.1=(sP r h i t)∧ ¬ (sP r h i t)=0))) (fun (x:Bool×Int×(OA)×Nat×(OA)×Nat×(List RA)×(OA)×Nat×(OA)×Nat×(OA)×Nat×(OA)×Nat×(List cq))=>bif x.1 then [(zz x.2.2.1 x.2.2.2.1 r.av.bW),(wg x.2.2.2.2.1 x.2.2.2.2.2.1 r.av.aD x.2.2.2.2.2.2.1),(bD (bx aX.owns r.av.aD x.2.2.2.2.2.2.1)),(yR x.2.2.2.2.2.2.2.1 x.2.2.2.2.2.2.2.2.1 r.av.ag),(fB x.2.2.2.2.2.2.2.2.2.1 x.2.2.2.2.2.2.2.2.2.2.1 r.bf),(fB x.2.2.2.2.2.2.2.2.2.2.2.1 x.2.2.2.2.2.2.2.2.2.2.2.2.1 r.dp),(uZ x.2.2.2.2.2.2.2.2.2.2.2.2.2.1 x.2.2.2.2.2.2.2.2.2.2.2.2.2.2.1 (jJ r.ay h i t) x.2.2.2.2.2.2.2.2.2.2.2.2.2.2.2),(bD (bx kM (jJ r.ay h i t) x.2.2.2.2.2.2.2.2.2.2.2.2.2.2.2))] else []):=by
 have v:=hin.line;have A3:=hin.hE;have A5:=hin.has;have AP:=hin.hO;have z:=hin.draw;have An:=fJ (r:=r);have A7:=hok.num;have A6:=hok.nh;refine cR aai Tryz.func33 U U fun w0 Q hQ hN=>?_
 try dsimp only
 refine aS bS 2 U<|dV U fun b2=>AL U vC fun b3=>aS aj 7 U<|rS (SX (bK U U) U U)<|cm aj 6 [] (mr 12 U mn) ?_;refine dC (xs:=[.tmp 18]) (cs:=[(vI h)]) U cM jW U U U U (by simp [Value.cells]) U U fun b6=>?_;refine rS (CL (de.eq (mR 0 ((r.ay.length:Int)-1) ([h]) (some ⟨b6,0,none⟩) 1 sd) cp) (aw (aM 0 U U (by simp [br]) U)<|aA) U) ?_;refine aq aj 2 ?_;refine bJ (t:=22) U (aJ fun l=>?_) (aK fun l=>?_)
 ·refine aS aj 16 U<|rS (SX (aU (xs:=[]) (cs:=(cf.cells (cf.mk (bU.mk (aY.mk (aV.mk none 0 0)) 0 (aV.mk none 0 0) (aV.mk none 0 0) 0 0 0) (aV.mk none 0 0) (aV.mk none 0 0) 0 (aV.mk none 0 0)))) U U (aT Bo U)) U U)<|o8 U n8 U<|aq aj 4 ?_;refine LX hQ (false,2,none,0,none,0,[],none,0,none,0,none,0,none,0,[]) [] [0] (mc 1 U mn) U (by first|rfl|(show List.all _ _=true;simp only [AAS,eX,om,gE,lq,n4];rfl)) U ?_ ?_
  ·first|rfl|(simp only [AAS,jq];rfl)
  ·refine ⟨D5,fun _=>?_⟩;first|exact pN (mQ (r:=r) (h:=h) (i:=i) (t:=t) I)|exact pN (mQ (r:=r) (h:=h) (i:=i) (t:=t) (fun q=>absurd q.2 asm))|exact pN (wS (r:=r) (t:=t) ⟨I,asm⟩ A hd H)
 refine aq aj 2 ?_;refine dC (xs:=[.tmp 24]) (cs:=[(vI i)]) U cM jW U U U U (by simp [Value.cells]) U U fun b8=>?_;refine rS (CL (de.eq (NM r kA kC az cA cC bA bC slA slC drA drC ha heA heC tz tA tC ms gw ([i]) (some ⟨b8,0,none⟩) 1 hin sd) cp) (lV [4,5,6,7,8,9,10,11,12,13,14]<|aw (aM 0 U U (by simp [br]) U)<|aA) U) ?_;refine aq aj 3 ?_;refine bJ (t:=29) U (aJ fun p=>?_) (aK fun p=>?_)
 ·refine aS aj 9 U<|rS (SX (aU (xs:=[]) (cs:=(cf.cells (cf.mk (bU.mk (aY.mk (aV.mk none 0 0)) 0 (aV.mk none 0 0) (aV.mk none 0 0) 0 0 0) (aV.mk none 0 0) (aV.mk none 0 0) 0 (aV.mk none 0 0)))) U U (aT Bo U)) U U)<|Ec U n8 U<|aq aj 4 ?_;refine LX hQ (false,2,none,0,none,0,[],none,0,none,0,none,0,none,0,[]) [] [0] (mc 2 U mn) U (by first|rfl|(show List.all _ _=true;simp only [AAS,eX,om,gE,lq,n4];rfl)) U ?_ ?_
  ·first|rfl|(simp only [AAS,jq];rfl)
  ·refine ⟨D5,fun _=>?_⟩;first|exact pN (mQ (r:=r) (h:=h) (i:=i) (t:=t) I)|exact pN (mQ (r:=r) (h:=h) (i:=i) (t:=t) (fun q=>absurd q.2 asm))|exact pN (wS (r:=r) (t:=t) ⟨I,asm⟩ A hd H)
 refine dD aj 1 [] (mc 3 U mn) U<|rS (CL (II t) (aA) U)<|aq aj 4 ?_;refine bY U (aJ fun Y=>?_) (aK fun Y=>?_)
 ·refine aS aW 2 U<|rS (SX (aU (xs:=[]) (cs:=(cf.cells (cf.mk (bU.mk (aY.mk (aV.mk none 0 0)) 0 (aV.mk none 0 0) (aV.mk none 0 0) 0 0 0) (aV.mk none 0 0) (aV.mk none 0 0) 0 (aV.mk none 0 0)))) U U (aT Bo U)) U U)<|Ec U n8 U<|aq aj 4 ?_;refine LX hQ (false,2,none,0,none,0,[],none,0,none,0,none,0,none,0,[]) [] [0] (mc 2 U mn) U (by first|rfl|(show List.all _ _=true;simp only [AAS,eX,om,gE,lq,n4];rfl)) U ?_ ?_
  ·first|rfl|(simp only [AAS,jq];rfl)
  ·refine ⟨D5,fun _=>?_⟩;first|exact pN (mQ (r:=r) (h:=h) (i:=i) (t:=t) I)|exact pN (mQ (r:=r) (h:=h) (i:=i) (t:=t) (fun q=>absurd q.2 asm))|exact pN (wS (r:=r) (t:=t) ⟨I,asm⟩ A hd H)
 refine aS aW 6 U<|rS (SX (bK U U) U U)<|cm aj 4 [] (mr 14 U mn) ?_;obtain ⟨ht,A⟩:=ax r.ay ((h).toNat) I;obtain ⟨C,E⟩:=ax ha ((h).toNat) I;have f:(zipWith dQ r.ay ha)[(h).toNat]? =some (dQ ht C):=cD A E;refine rS (IA ((h).toNat) U (au 10 U) mz dc I I) ?_;have u:=hin.fG _ _ _ A E;have AC:=u.mD;have A4:=(hok.fG ht (aF A)).1;refine rS (gG ((h).toNat) 0 (vS C.1.1 ht.length C.1.2) U Wx (au 10 U) f U dc U)<|aq aj 1 ?_;obtain ⟨d,hd⟩:=ax ht ((i).toNat) I;obtain ⟨da,J⟩:=ax C.2 ((i).toNat) I;have s:(zipWith ao.cells ht C.2)[(i).toNat]? =some (ao.cells d da):=cD hd J;refine rS (IA ((i).toNat) U (show ij _ (jc C.1.1 ht C.2).holds from (ct 11 U (bq A E bZ))) rV dc I I)<|rS (pV (((i).toNat)*7) U (show ij _ (jc C.1.1 ht C.2).holds from (ct 11 U (bq A E bZ))) (e6 I dc) Wt U)<|rS (gG ((i).toNat) 0 (vB d.Out) U tk4 (show ij _ (jc C.1.1 ht C.2).holds from (ct 11 U (bq A E bZ))) s U dc U)<|aq aj 2 ?_;refine bY U (fun H=>?_) (fun H=>?_)
 ·refine aS aW 2 U<|rS (SX (aU (xs:=[]) (cs:=(cf.cells (cf.mk (bU.mk (aY.mk (aV.mk none 0 0)) 0 (aV.mk none 0 0) (aV.mk none 0 0) 0 0 0) (aV.mk none 0 0) (aV.mk none 0 0) 0 (aV.mk none 0 0)))) U U (aT Bo U)) U U)<|Ec U n8 U<|aq aj 4 ?_;refine LX hQ (false,8,none,0,none,0,[],none,0,none,0,none,0,none,0,[]) [] [0] (mc 2 U mn) U (by first|rfl|(show List.all _ _=true;simp only [AAS,eX,om,gE,lq,n4];rfl)) U ?_ ?_
  ·first|rfl|(simp only [AAS,jq];rfl)
  ·refine ⟨D5,fun _=>?_⟩;first|exact pN (mQ (r:=r) (h:=h) (i:=i) (t:=t) I)|exact pN (mQ (r:=r) (h:=h) (i:=i) (t:=t) (fun q=>absurd q.2 asm))|exact pN (wS (r:=r) (t:=t) ⟨I,asm⟩ A hd H)
 refine aS aW 5 U<|rS (SX (bK U U) U U)<|aq aj 1 ?_;refine rS (LPR (cf.cells (pP r kA kC cA cC bA bC slA slC drA drC heA heC)) 14 U Xc U U U)<|cX (Tt r kA kC az cA cC bA bC slA slC drA drC ha heA heC hin) (aP [4,5,6,7,8,9,10,11]) U fun y j=>?_;obtain ⟨K,S,L,T,R,M,AA,N,V,O,W,P,X,G⟩:=y
 try dsimp only
 obtain ⟨⟨Z,b⟩,D⟩:=j
 try dsimp only at Z b D
 have AO:=D.1;refine AL U vC fun A0=>eN U n8 U<|aq aj 3 ?_;obtain ⟨B,F⟩:=ax G ((h).toNat) (by have:=D.1;omega);have g:(zipWith dQ r.ay G)[(h).toNat]? =some (dQ ht B):=cD A F;have w:=D.2 _ _ _ A F;refine Po 8 A F U U ?_
 try dsimp only
 refine cK bX 9 kr<|jZ 3 [] (mc 3 U mn) U<|dS (IA ((h).toNat) U (ak (n:=r.ay.length) 10 U (e8 D.1)) mz dc I I)<|dS (gG ((h).toNat) 0 (vS B.1.1 ht.length B.1.2) U Wx (ak (n:=r.ay.length) 10 U (e8 D.1)) g U dc U)<|dP 2 [] (mc 14 U mn) ?_;refine dS (SX (aU (xs:=[(1,.const (vB true)),(2,.tmp 59)]) (cs:=(aO.cells (aO.mk false true t (dx.mk 0 0 (aV.mk none 0 0))))) U U (aT Ku U)) U U) ?_;obtain ⟨J,AB⟩:=ax B.2 ((i).toNat) I;have e:(zipWith ao.cells ht B.2)[(i).toNat]? =some (ao.cells d J):=cD hd AB;refine dS (IA ((i).toNat) U (ak (n:=ht.length) 0 U (mY w)) rV dc I I)<|cy<|ej (k:=(i).toNat) (o:=0) (vs:=(aO.cells (aO.mk false true t (dx.mk 0 0 (aV.mk none 0 0))))) (es':=(zipWith ao.cells (ht.set (i).toNat (ic t)) (B.2.set (i).toNat (none,0)))) (C':=[(C4 B.1.1 B.1.2 (ht.set (i).toNat (ic t)) (B.2.set (i).toNat (none,0))),_,_,_,_,_,_,_,_,_,_,_,_,_,_,_,_,_,_,_,_,_,_,_,_,_]) 0 U U U G4 U U U U e U dc (by exact q9 (c:=ao.cells) (m:=ic t) (a:=(none,0))) U<|aq aj 3 ?_;refine WH (d':=ic t) 1 hd AB U U U ?_;refine RC (h':=(ht.set (i).toNat (ic t))) (a':=(B.1,(B.2.set (i).toNat (none,0)))) 2 0 1 I (by have:=D.1;omega) U U ?_;rw [← xq A,show zipWith dQ r.ay G=zipWith dQ (jJ r.ay h i t) (G.set (h).toNat (B.1,(B.2.set (i).toNat (none,0)))) from by rw [xq A];exact (BQ A F (by rw [AAG])).symm];replace D:=Wn (i:=i) (t:=t) D A F;refine dD aW 2 [] (mc 1 U mn) U<|aa5 U n8 U<|aq aj 4 ?_;refine LX hQ (true,0,K,S,L,T,R,M,AA,N,V,O,W,P,X,(G.set (h).toNat (B.1,(B.2.set (i).toNat (none,0))))) [2,3,4,5,6,7,8,0] [0] (mc 11 U mn) U (by first|rfl|(show List.all _ _=true;simp only [AAS,eX,om,gE,lq,n4];rfl)) U ?_ ?_
 ·first|rfl|(simp only [AAS,jq];rfl)
 ·exact ⟨fun _=>⟨Tg ⟨I,Y⟩ A hd H,⟨Z,b⟩,D⟩,Q7⟩
end
section
open Go.RowKit
theorem Gu (h i:Int) (t:aa) (r:cN) (kA:OA) (kC:Nat) (az:List RA) (cA:OA) (cC:Nat) (bA:OA) (bC:Nat) (slA:OA) (slC:Nat) (drA:OA) (drC:Nat) (ha:List cq) (heA:OA) (heC:Nat) (hin:gI r az ha):
 lf Tryz.prog 9 [(vA (cf.cells (pP r kA kC cA cC bA bC slA slC drA drC heA heC))),(vI h),(vI i),(vA (aa.cells t))] ((rd ig 3 2 fY)::(Dp r kA az cA bA slA drA ha heA)) (fun (x:Bool×Int×(OA)×Nat×(OA)×Nat×(List RA)×(OA)×Nat×(OA)×Nat×(OA)×Nat×(OA)×Nat×(List cq))=>bif x.1 then (vT [(vA (cf.cells (cf.mk (bU.mk (aY.mk (aV.mk x.2.2.1 r.av.bW.length x.2.2.2.1)) r.av.g7 (aV.mk x.2.2.2.2.1 r.av.aD.length x.2.2.2.2.2.1) (aV.mk x.2.2.2.2.2.2.2.1 r.av.ag.length x.2.2.2.2.2.2.2.2.1) r.av.b_ r.av.e_ r.av.di) (aV.mk x.2.2.2.2.2.2.2.2.2.1 r.bf.length x.2.2.2.2.2.2.2.2.2.2.1) (aV.mk x.2.2.2.2.2.2.2.2.2.2.2.1 r.dp.length x.2.2.2.2.2.2.2.2.2.2.2.2.1) r.jB (aV.mk x.2.2.2.2.2.2.2.2.2.2.2.2.2.1 ((jJ r.ay h i t).length) x.2.2.2.2.2.2.2.2.2.2.2.2.2.2.1)))),(vI 0)]) else (vT [(vA (cf.cells (cf.mk (bU.mk (aY.mk (aV.mk none 0 0)) 0 (aV.mk none 0 0) (aV.mk none 0 0) 0 0 0) (aV.mk none 0 0) (aV.mk none 0 0) 0 (aV.mk none 0 0)))),(vI x.2.1)])) (fun (x:Bool×Int×(OA)×Nat×(OA)×Nat×(List RA)×(OA)×Nat×(OA)×Nat×(OA)×Nat×(OA)×Nat×(List cq))=>(x.1=true→((fV r h i t)=0∧(x.2.2.2.2.2.2.1.length=r.av.aD.length∧p7 r.av.aD x.2.2.2.2.2.2.1)∧tn (jJ r.ay h i t) x.2.2.2.2.2.2.2.2.2.2.2.2.2.2.2))∧(x.1=false→(x.2.1=(fV r h i t)∧ ¬ (fV r h i t)=0))) (fun (x:Bool×Int×(OA)×Nat×(OA)×Nat×(List RA)×(OA)×Nat×(OA)×Nat×(OA)×Nat×(OA)×Nat×(List cq))=>bif x.1 then [(zz x.2.2.1 x.2.2.2.1 r.av.bW),(wg x.2.2.2.2.1 x.2.2.2.2.2.1 r.av.aD x.2.2.2.2.2.2.1),(bD (bx aX.owns r.av.aD x.2.2.2.2.2.2.1)),(yR x.2.2.2.2.2.2.2.1 x.2.2.2.2.2.2.2.2.1 r.av.ag),(fB x.2.2.2.2.2.2.2.2.2.1 x.2.2.2.2.2.2.2.2.2.2.1 r.bf),(fB x.2.2.2.2.2.2.2.2.2.2.2.1 x.2.2.2.2.2.2.2.2.2.2.2.2.1 r.dp),(uZ x.2.2.2.2.2.2.2.2.2.2.2.2.2.1 x.2.2.2.2.2.2.2.2.2.2.2.2.2.2.1 (jJ r.ay h i t) x.2.2.2.2.2.2.2.2.2.2.2.2.2.2.2),(bD (bx kM (jJ r.ay h i t) x.2.2.2.2.2.2.2.2.2.2.2.2.2.2.2))] else []):=by
 have k:=hin.line;have u:=hin.hE;have v:=hin.has;have p:=hin.hO;have o:=hin.draw;have Y:=fJ (r:=r);refine cR kr Tryz.func9 U U fun w0 Q hQ hN=>?_
 try dsimp only
 refine aS bS 2 U<|dV U fun y=>dV U fun z=>AL U vC fun q=>cm aj 6 [] (mc 2 U mn) ?_;refine cX (uL r kA kC az cA cC bA bC slA slC drA drC ha heA heC hin) (aP [3,4,5,6,7,8,9,10,11]) U fun w a=>?_;obtain ⟨c,s,j,R,e,f,g⟩:=w;cases c
 ·obtain ⟨M,he⟩:=a.2 rfl
  try dsimp only at M he
  subst M
  try dsimp only [cond_true,cond_false,List.cons_append,List.nil_append]
  refine aq aj 14 ?_;refine bE U (aK fun S=>?_) (aJ fun S=>?_)
  ·exact absurd S he
  refine aS aW 2 U<|rS (SX (aU (xs:=[]) (cs:=(cf.cells (cf.mk (bU.mk (aY.mk (aV.mk none 0 0)) 0 (aV.mk none 0 0) (aV.mk none 0 0) 0 0 0) (aV.mk none 0 0) (aV.mk none 0 0) 0 (aV.mk none 0 0)))) U U (aT Bo U)) U U)<|aS aj 1 U<|eN U n8 U<|aq aj 4 ?_;refine LX hQ (false,(eK r),none,0,none,0,[],none,0,none,0,none,0,none,0,[]) [] [0] (mc 0 U mn) U (by first|rfl|(show List.all _ _=true;simp only [AAS,eX,om,gE,lq,n4];rfl)) U ?_ ?_
  ·first|rfl|(simp only [AAS,jq];rfl)
  ·refine ⟨D5,fun _=>?_⟩;first|exact O4 (vO (h:=h) (i:=i) (t:=t) he) he|exact O4 (qX (h:=h) (i:=i) (t:=t) V) he
 obtain ⟨he,Z⟩:=a.1 rfl
 try dsimp only [cond_true,cond_false,List.cons_append,List.nil_append]
 have V:=he
 try dsimp only at Z
 have X:=(dF he).2;refine aS aj 11 U<|rS (SX (ck (r:= .bool false) U U U nm) U U)<|cm aj 11 [] (mc 5 U mn) ?_;refine cX (zT r kA kC az cA cC bA bC slA slC drA drC ha heA heC g e f (Value.map (some R)) j h i t hin (by exact X)) (lV [8,9,10,11,12,13,14,15]<|aw (ak (n:=(dL r).length) 1 U (zq (by rw [Y];exact Z)))<|aw (dK 2 U Jr)<|gN 0 U U<|aA) U fun l O=>?_;obtain ⟨d,m,A,G,B,H,P,C,AB,D,J,E,K,F,L,b⟩:=l;cases d
 ·obtain ⟨M,he⟩:=O.2 rfl
  try dsimp only at M he
  subst M
  try dsimp only [cond_true,cond_false,List.cons_append,List.nil_append]
  refine aS aj 2 U<|Ud U n8 U<|aq aj 4 ?_;refine LX hQ (false,(sP r h i t),none,0,none,0,[],none,0,none,0,none,0,none,0,[]) [] [0] (mc 4 U mn) U (by first|rfl|(show List.all _ _=true;simp only [AAS,eX,om,gE,lq,n4];rfl)) U ?_ ?_
  ·first|rfl|(simp only [AAS,jq];rfl)
  ·refine ⟨D5,fun _=>?_⟩;first|exact O4 (vO (h:=h) (i:=i) (t:=t) he) he|exact O4 (qX (h:=h) (i:=i) (t:=t) V) he
 obtain ⟨N,⟨T,AA⟩,W⟩:=O.1 rfl
 try dsimp only [cond_true,cond_false,List.cons_append,List.nil_append]
 try dsimp only at N T AA W
 refine aS aj 2 U<|iq (vs:=(cf.cells (cf.mk (bU.mk (aY.mk (aV.mk A r.av.bW.length G)) r.av.g7 (aV.mk B r.av.aD.length H) (aV.mk C r.av.ag.length AB) r.av.b_ r.av.e_ r.av.di) (aV.mk D r.bf.length J) (aV.mk E r.dp.length K) r.jB (aV.mk F ((jJ r.ay h i t).length) L)))) (cs':=(cf.cells (cf.mk (bU.mk (aY.mk (aV.mk A r.av.bW.length G)) r.av.g7 (aV.mk B r.av.aD.length H) (aV.mk C r.av.ag.length AB) r.av.b_ r.av.e_ r.av.di) (aV.mk D r.bf.length J) (aV.mk E r.dp.length K) r.jB (aV.mk F ((jJ r.ay h i t).length) L)))) (C':=[_,_,_,_,_,_,_,_,_,_,_,_,(cb q 32 (cf.cells (cf.mk (bU.mk (aY.mk (aV.mk A r.av.bW.length G)) r.av.g7 (aV.mk B r.av.aD.length H) (aV.mk C r.av.ag.length AB) r.av.b_ r.av.e_ r.av.di) (aV.mk D r.bf.length J) (aV.mk E r.dp.length K) r.jB (aV.mk F ((jJ r.ay h i t).length) L)))),_,_,_,_,_,_,_,_,_,_,_]) 12 U U U n8 U U U U U U U<|aq aj 4 ?_;refine LX hQ (true,0,A,G,B,H,P,C,AB,D,J,E,K,F,L,b) [0,1,2,3,4,5,6,7] [0] (mc 12 U mn) U (by first|rfl|(show List.all _ _=true;simp only [AAS,eX,om,gE,lq,n4];rfl)) U ?_ ?_
 ·first|rfl|(simp only [AAS,jq];rfl)
 ·exact ⟨fun _=>⟨(qX he).trans N,⟨T,AA⟩,W⟩,Q7⟩
end
section
open Go.RowKit
theorem P1 (m:k9) (gm g1:Nat):
 H6 Tryz.prog 79 [] [(vP g1)] [(iu iV gm (bR fg m)),(cb g1 95 [(Value.map (some gm))])] ([]:List Int) (fun ys x ys'=> ∃ n zs,(ys++[n]++zs).Perm (m.map (·.1))∧x=[vI n]∧ys'=ys++[n]) (fun ys=>ys.Perm (m.map (·.1))):=by
 refine xh kr Tryz.func79 U U fun l J Z A0 M Q hY K AA hQ hN=>?_
 try dsimp only
 refine cm bS 3 [] (mr 2 U mn) ?_;refine kz (kV:=iV) (m:=bR fg m) 1 U U rX U ⟨U,fun h=>h⟩ (by exact mP 1 U) U fun O=>?_
 try dsimp only
 refine aq aj 3 ?_;have G:(qv m m ([]:List Int))∧(∀ p∈m,p∈m)∧(J ([]:List Int) A0)∧(Fo A0 M A0):=by exact ⟨yB,fun p hp=>hp,K,AA⟩
 refine bu (ι:={z:k9×(List Int)×ar // (qv m z.1 z.2.1)∧(∀ p∈z.1,p∈m)∧(J z.2.1 z.2.2)∧(Fo A0 M z.2.2)}) [0,1,5] [2,3] U U (fun z=>[]) (fun z=>[(BA iV O gm (bR fg m) (bR fg z.1.1) none),z.1.2.2]) (fun _=>rfl) (fun _=>rfl) (fun z=>z.1.1.length) ⟨(m,([]:List Int),A0),G⟩ (cS.nil _) (aB [2,3,0,1]) ?_;clear G;rintro ⟨⟨left,ys,A⟩,⟨B,H,C,D⟩⟩ J3 L
 try dsimp only at B H C D
 try dsimp only
 refine aq bS 2 ?_;refine jQ (eD nZ).inj (f:=fg) 2 U U U U (fun N=>?_) (fun x y hm hn=>?_)
 ·refine aS aj 6 U<|aq fD 1 ?_;refine hN _ _ _ (g4 (vs:=[]) trivial fun w hs=>LF 3 U (by rw [N] at B;exact AR B) C D hs)
 try dsimp only
 refine aS aj 10 U<|rS (SX (jI 2 U U U) U U)<|aq aj 8 ?_;refine mg (k:=ys) (k':=(ys++[(x)])) 3 (by first|exact hsz|exact c9 _) hY C D U U U (by exact ⟨x,_,qe hn hm B,U,U⟩) U U (fun B9 F E=>?_) (fun B9 F E=>?_);rotate_left 1
 ·refine aq aj 5 ?_;refine hQ _ _ _ (g4 (vs:=[]) trivial fun w hs=>sY 3 U F E hs)
 refine aq aj 6 ?_;refine iM 2 U fX U ?_;refine aL (L ⟨((cH left x),(ys++[(x)]),B9),⟨qe hn hm B,gZ H,F,E⟩⟩ _ _ _ U (e7 hm) (aN U) (aB [0,1,2,3]))
theorem IV (gm:Nat):
 lf Tryz.prog 35 [(Value.map (some gm))] [] (fun (x:Nat)=>(Value.func (.func 79) [].toArray [(vP x)].toArray)) (fun (x:Nat)=>True) (fun (x:Nat)=>[(cb x 95 [(Value.map (some gm))])]):=by
 refine cR kr Tryz.func35 U U fun B Q hQ hN=>?_
 try dsimp only
 refine aS bS 2 U<|sR U U fun A=>aS aj 5 U<|rS (FU U)<|aq aj 4 ?_;refine LX hQ A [0] [] mn U U U U ?_;trivial
end
section
open Go.RowKit
theorem K_ (m:k9) (gm g1:Nat) (hlen:m.length≤12):
 lf Tryz.prog 118 [(vS none 0 0),(Value.func (.func 79) [].toArray [(vP g1)].toArray)] [(iu iV gm (bR fg m)),(cb g1 95 [(Value.map (some gm))])] (fun (x:(List Int)×(OA)×Nat)=>(vS x.2.1 x.1.length x.2.2)) (fun (x:(List Int)×(OA)×Nat)=>x.1.Perm (m.map (·.1))) (fun (x:(List Int)×(OA)×Nat)=>[(fB x.2.1 x.2.2 x.1)]):=by
 refine cR kr Tryz.func118 U U fun T Q hQ hN=>?_
 try dsimp only
 refine aS bS 2 U<|sR U U fun J=>aq aj 10 ?_;refine iy 1 U (by exact fun _ h=>h)<|iy 3 U (by exact fun _ h=>h)<|eC 3 1 ?_;refine px (L0:=[(2,(vP J))]) (F:=[(iu iV gm (bR fg m)).ro,(cb g1 95 [(Value.map (some gm))]).ro]) (fun k (y:(OA)×Nat)=>(∃ zs,(k++zs).Perm (m.map (·.1)))) (fun k y=>[(fB y.1 y.2 k),(cb J 29 [(vS y.1 k.length y.2)]),(iu iV gm (bR fg m)).ro]) (fun _ (_:Unit)=>False) (fun _ _=>[]) [0,3,4] [2,1] (none,0) rfl rfl (P1 m gm g1) rfl rfl rfl (by exact ⟨_,ABY _⟩) (by simp only [AAI,h_,AAs,AAv,ABC];exact ⟨⟨_,sm,(df (bL _))⟩,⟨_,sm,(df (bL _))⟩⟩) (by rintro k x O ⟨n,zs,_,rfl,_⟩;rfl) rfl (aN rfl) ?_ ?_ (fun _ _ _ h=>h.elim) (fun _ _ h=>h.elim);rotate_left 1
 ·rintro P k ⟨a,c⟩ D A;have B:=A
  try dsimp only at B
  try dsimp only
  refine cm jE 9 [] (mc 4 U mn) ?_;refine hQ _ _ _ (nI 0 U U<|g4 (vs:=[(vS a k.length c)]) ⟨U,trivial⟩ fun w hs=>EO (k,a,c) [3] ?_ ?_ U U U hs)
  ·rfl
  ·first|exact D|exact hys
 rintro k x O ⟨a,c⟩ l ra rb S AA K5 Qr6 N hx E H C K L;obtain ⟨n,zs,hn,rfl,rfl⟩:=hx;have AB:=hn.length_eq;simp only [e4,c3,ABQ] at AB;have B:=E
 try dsimp only at B
 try dsimp only
 refine aq bS 3 ?_;refine aL (H _ _ ?_);refine cm bS 4 [] (mc 2 U mn) ?_;refine dC (xs:=[.tmp 9]) (cs:=[(vI n)]) U cM jW U U U U (by simp [Value.cells]) U U fun R=>?_;refine cZ (es2:=(map iC (k++[n]))) (m':=(k++[n]).length) 2 U U U pI U U sm (aM (es:=map iC [n]) 0 U U (by simp [br]) U) (j4 _) os (by simp only [maxLen];omega) sm sm U fun M G=>?_
 try dsimp only
 refine ZQ U wM U U<|aq aj 2 ?_;exact C (M,G) _ _ (by exact ⟨_,hn⟩) (aB [1,2,3,4])
end
section
open Go.RowKit
theorem HF (m:k9) (gm g1:Nat) (hlen:m.length≤12):
 lf Tryz.prog 78 [(Value.func (.func 79) [].toArray [(vP g1)].toArray)] [(iu iV gm (bR fg m)),(cb g1 95 [(Value.map (some gm))])] (fun (x:(List Int)×(OA)×Nat)=>(vS x.2.1 x.1.length x.2.2)) (fun (x:(List Int)×(OA)×Nat)=>x.1.Perm (m.map (·.1))) (fun (x:(List Int)×(OA)×Nat)=>[(fB x.2.1 x.2.2 x.1)]):=by
 refine cR kr Tryz.func78 U U fun G Q hQ hN=>?_
 try dsimp only
 refine aq bS 8 ?_;refine cX (K_ m gm g1 hlen) (aP [0,1]) U fun F A=>?_;obtain ⟨C,D,E⟩:=F
 try dsimp only
 have B:=A;refine aq aj 4 ?_;refine LX hQ (C,D,E) [0] [] mn U U U U ?_
 first|exact hfin|exact B
theorem Cl (m:k9) (gm g1:Nat) (hlen:m.length≤12):
 lf Tryz.prog 34 [(Value.func (.func 79) [].toArray [(vP g1)].toArray)] [(iu iV gm (bR fg m)),(cb g1 95 [(Value.map (some gm))])] (fun (x:(OA)×Nat)=>(vS x.1 m.length x.2)) (fun (x:(OA)×Nat)=>True) (fun (x:(OA)×Nat)=>[(fB x.1 x.2 (eg (m.map (·.1))))]):=by
 refine cR kr Tryz.func34 U U fun AA Q hQ hN=>?_
 try dsimp only
 refine aq bS 8 ?_;refine cX (HF m gm g1 hlen) (aP [0,1]) U fun H D=>?_;obtain ⟨E,F,G⟩:=H
 try dsimp only
 have C:=D;refine aq aj 6 ?_;have A:=C.length_eq;simp only [c3] at A;refine kx 0 U U U U (Da E F G sd) U mu U (fun ms B=>?_)
 try dsimp only
 refine aq aj 4 ?_;obtain rfl:=tF (B.1.trans C) B.2
 skip
 refine aq aj 5 ?_;refine LX hQ (F,G) [0] [] mn U U U ?_ ?_
 ·first|rfl|(rw [A];rfl)
 ·trivial
end
section
open Go.RowKit
theorem Rt (la:List Int) (laA:OA) (laC:Nat) (lb:List Int) (lbA:OA) (lbC:Nat) (h1:la.length≤1000000) (h2:lb.length≤1000000):
 de Tryz.prog 36 [(vS laA la.length laC),(vS lbA lb.length lbC)] [(eE laA la),(eE lbA lb)] (vB (decide (la=lb))):=by
 refine bg kr Tryz.func36 U U fun AA Q hQ hN=>?_
 try dsimp only
 refine aq bS 15 ?_;refine bY U (aJ fun hl=>?_) (aK fun hl=>?_)
 ·refine cr aW 6 hQ U U ?_
  first|exact cB (bj (kg hx hy h)).symm|exact cB (cT (iH I A I)).symm|exact cB (bj (fun e=>by subst e;omega)).symm
 refine aq aW 11 ?_;have B:(0≤la.length)∧(la.take 0=lb.take 0):=by simp
 refine bu (ι:={z:Nat // (z≤la.length)∧(la.take z=lb.take z)}) [0,1,12] [0,1] U U (fun z=>[(13,(vI (z.1:Int)))]) (fun z=>[]) (fun _=>rfl) (fun _=>rfl) (fun z=>la.length-z.1) ⟨0,B⟩ (aN U) (aB [0,1]) ?_;clear B;rintro ⟨i,⟨F,A⟩⟩ J7 E
 try dsimp only
 refine aq bS 6 ?_;refine bE U (aG fun D=>?_) (aH fun D=>?_)
 ·refine aS aW 1 U<|cr fD 8 hQ U U ?_
  first|exact cB (bj (kg hx hy h)).symm|exact cB (cT (iH I A I)).symm|exact cB (bj (fun e=>by subst e;omega)).symm
 refine aS aW 11 U<|cK bX 9 kr<|dP 2 [] mn ?_;obtain ⟨x,hx⟩:=ax la i I;have G:=bw iC hx;refine dS (IA i U (au 0 U) cM dc I I)<|dS (gG i 0 (vI x) U bP (au 0 U) G U dc U)<|dP 2 [] mn ?_;obtain ⟨y,hy⟩:=ax lb i I;have H:=bw iC hy;refine dS (IA i U (au 1 U) cM dc I I)<|dS (gG i 0 (vI y) U bP (au 1 U) H U dc U)<|iR 1 U<|cy<|aq aj 2 ?_;refine bY U (aJ fun h=>?_) (aK fun h=>?_)
 ·refine cr aW 6 hQ U U ?_
  first|exact cB (bj (kg hx hy h)).symm|exact cB (cT (iH I A I)).symm|exact cB (bj (fun e=>by subst e;omega)).symm
 refine aq aW 7 ?_;have C:(vI (((i+1):Nat):Int))=(vI ((i:Int)+1)):=by exact cI I
 refine aL (E ⟨(i+1),⟨I,iS A hx hy h⟩⟩ _ _ _ U os (cx 3<|aQ U C<|cS.nil _) (aB [0,1]))
theorem Lv (h i:Int) (t:aa) (r:cN) (kA:OA) (kC:Nat) (az:List RA) (cA:OA) (cC:Nat) (bA:OA) (bC:Nat) (slA:OA) (slC:Nat) (drA:OA) (drC:Nat) (ha:List cq) (heA:OA) (heC:Nat) (hin:gI r az ha):
 lf Tryz.prog 11 [(vA (cf.cells (pP r kA kC cA cC bA bC slA slC drA drC heA heC))),(vI h),(vI i),(vA (aa.cells t))] ((rd ig 3 2 fY)::(Dp r kA az cA bA slA drA ha heA)) (fun (x:(OA)×Nat)=>(vT [(vS x.1 ((lE r h i t).length) x.2),(vI (fV r h i t))])) (fun (x:(OA)×Nat)=>True) (fun (x:(OA)×Nat)=>[(fB x.1 x.2 (lE r h i t))]):=by
 have Ct:=hin.line;have Hi:=hin.hE;have H1:=hin.has;have Dw:=hin.hO;have Di:=hin.draw;have A2:=fJ (r:=r);refine cR kr Tryz.func11 U U fun w0 Q hQ hN=>?_
 try dsimp only
 refine aS bS 2 U<|dV U fun b2=>dV U fun b3=>cm aj 7 [] (mc 1 U mn) ?_;refine cX (uL r kA kC az cA cC bA bC slA slC drA drC ha heA heC hin) (aP [2,3,4,5,6,7,8,9,10]) U fun y5 A3=>?_;obtain ⟨A5,Go,p,G,d,e,Bx⟩:=y5;cases A5
 ·obtain ⟨B,he⟩:=A3.2 rfl
  try dsimp only at B he
  subst B
  try dsimp only [cond_true,cond_false,List.cons_append,List.nil_append]
  refine aq aj 14 ?_;refine bE U (aK fun s=>?_) (aJ fun s=>?_)
  ·exact absurd s he
  refine aq aW 3 ?_;have A:fV r h i t=eK r:=vO he;have C:lE r h i t=[]:=zt (by rw [A];exact he);refine fT 3 1 ?_;rw [show (own none 0 3 1 ([]:List (List Value)))=own none 0 3 1 ((lE r h i t).map iC) from by rw [C];rfl];refine aq aj 5 ?_;refine LX hQ (none,0) [0] [] mn U U U ?_ ?_
  ·first|rfl|(rw [A,C];rfl)|(rw [A];rfl)
  ·trivial
 obtain ⟨he,j⟩:=A3.1 rfl
 try dsimp only [cond_true,cond_false,List.cons_append,List.nil_append]
 have AB:=he
 try dsimp only at j
 have An:=(dF he).2;refine aS aj 11 U<|rS (SX (ck (r:= .bool false) U U U nm) U U)<|cm aj 11 [] (mc 4 U mn) ?_;refine cX (zT r kA kC az cA cC bA bC slA slC drA drC ha heA heC Bx d e (Value.map (some G)) p h i t hin (by exact An)) (lV [7,8,9,10,11,12,13,14]<|aw (ak (n:=(dL r).length) 1 U (zq (by rw [A2];exact j)))<|aw (dK 2 U Jr)<|gN 0 U U<|aA) U fun C0 Z=>?_;obtain ⟨A6,DC,L,S,M,T,l,N,AA,O,V,P,W,R,X,A4⟩:=C0;cases A6
 ·obtain ⟨B,he⟩:=Z.2 rfl
  try dsimp only at B he
  subst B
  try dsimp only [cond_true,cond_false,List.cons_append,List.nil_append]
  refine aS aj 3 U<|AL U vC fun Fn=>eN U n8 U<|aq aj 10 ?_;refine bE U (aK fun v=>?_) (aJ fun v=>?_)
  ·exact absurd v he
  refine aq aW 3 ?_;have A:fV r h i t=sP r h i t:=qX AB;have C:lE r h i t=[]:=zt (by rw [A];exact he);refine fT 3 1 ?_;rw [show (own none 0 3 1 ([]:List (List Value)))=own none 0 3 1 ((lE r h i t).map iC) from by rw [C];rfl];refine aq aj 5 ?_;refine LX hQ (none,0) [0] [] mn U U U ?_ ?_
  ·first|rfl|(rw [A,C];rfl)|(rw [A];rfl)
  ·trivial
 obtain ⟨E,⟨f,AC⟩,J⟩:=Z.1 rfl
 try dsimp only [cond_true,cond_false,List.cons_append,List.nil_append]
 try dsimp only at E f AC J
 have g:fV r h i t=0:=(qX AB).trans E;have AO:=hin.rep f AC J;refine aS aj 3 U<|AL U vC fun GE=>eN U n8 U<|aS aj 7 U<|rS (SX (ck (r:= .bool false) U U U nm) U U)<|cm aj 8 [] (mc 0 U mn) ?_;refine cX (uL (gW r h i t) L S l M T N AA O V P W A4 R X (by exact AO)) (gN 15 U U<|aw (ak (n:=r.av.bW.length) 1 U sm)<|aw (ak (n:=r.av.aD.length) 2 U (im f))<|aw (dK 3 U kJ)<|aw (ak (n:=r.av.ag.length) 4 U sm)<|aw (ak (n:=r.bf.length) 5 U sm)<|aw (ak (n:=r.dp.length) 6 U sm)<|aw (ak (n:=(jJ r.ay h i t).length) 7 U (e8 J.1))<|aw (lI 8 U J)<|aA) U fun C1 b=>?_;obtain ⟨A7,DL,o,m,A8,A9,Fd⟩:=C1;cases A7
 ·obtain ⟨B,he⟩:=b.2 rfl
  try dsimp only at B he
  subst B
  try dsimp only [cond_true,cond_false,List.cons_append,List.nil_append]
  exact absurd (xx g) he
 obtain ⟨he,j⟩:=b.1 rfl
 try dsimp only [cond_true,cond_false,List.cons_append,List.nil_append]
 have A0:=yp AB;have F:=tv AB;have A1:=yp he;have Do:=tv he;refine aS aj 16 U<|rS (SX (bK U U) U U)<|cm aj 2 [] (mc 13 U mn) ?_;refine cX (IV G) (aA) U fun B9 EQ=>?_
 try dsimp only
 refine cX (Cl (bI r) G B9 sd) (aP [17,0]) U fun C2 EY=>?_;obtain ⟨Fi,GV⟩:=C2
 try dsimp only
 rw [show (bI r).length=(eg ((bI r).map (·.1))).length from by rw [iD,c3]];refine aq aj 1 ?_;have AP:(eg ((bI r).map (·.1))).length≤5:=by rw [iD,c3];exact F
 refine aq aj 4 ?_;refine eC 3 1 ?_;have D:(0≤(eg ((bI r).map (·.1))).length):=by exact c4 _
 refine bu (ι:={z:Nat×(OA)×Nat // (z.1≤(eg ((bI r).map (·.1))).length)}) [10,13,47,48] [1,3,4,5,6,8,9,10,11,12,13,14,15,16,17,18,19,22,23,24,25,26,27,28,29,30] U U (fun z=>[(15,(vS z.1.2.1 ((((eg ((bI r).map (·.1))).take z.1.1).filter (fun u=> !decide (e9 (bI r) u (cd (bI r) u)=e9 (bI (gW r h i t)) u (cd (bI (gW r h i t)) u)))).length) z.1.2.2)),(49,(vI (z.1.1:Int)))]) (fun z=>[(own z.1.2.1 z.1.2.2 3 1 ((((eg ((bI r).map (·.1))).take z.1.1).filter (fun u=> !decide (e9 (bI r) u (cd (bI r) u)=e9 (bI (gW r h i t)) u (cd (bI (gW r h i t)) u)))).map iC))]) (fun _=>rfl) (fun _=>rfl) (fun z=>(eg ((bI r).map (·.1))).length-z.1.1) ⟨(0,none,0),D⟩ (aN U) (aB [1,3,4,5,6,8,9,10,11,12,13,14,15,16,17,18,19,22,23,24,25,26,27,28,29,30,0]) ?_;clear D;rintro ⟨⟨k,a,c⟩,K⟩ J65 Y
 try dsimp only at K
 try dsimp only
 have Ha:((((eg ((bI r).map (·.1))).take k).filter (fun u=> !decide (e9 (bI r) u (cd (bI r) u)=e9 (bI (gW r h i t)) u (cd (bI (gW r h i t)) u))))).length≤12:=c6 (u2 _ _) (by rw [k5];omega);refine aq bS 6 ?_;refine bE U (aG fun Cp=>?_) (aH fun Cp=>?_)
 ·refine aS aW 1 U<|aq fD 5 ?_;have A:=g;have C:lE r h i t=(((eg ((bI r).map (·.1))).take k).filter (fun u=> !decide (e9 (bI r) u (cd (bI r) u)=e9 (bI (gW r h i t)) u (cd (bI (gW r h i t)) u)))):=by rw [Bj g,c5 I]
  rw [← C];refine aq aj 5 ?_;refine LX hQ (a,c) [26] [] mn U U U ?_ ?_
  ·first|rfl|(rw [A,C];rfl)|(rw [A];rfl)
  ·trivial
 refine aq aW 6 ?_;obtain ⟨x,hx⟩:=ax (eg ((bI r).map (·.1))) k I;have Cx:=bw iC hx;refine rS (IA k U (ak (n:=(eg ((bI r).map (·.1))).length) 0 U sm) cM dc I I)<|rS (gG k 0 (vI x) U bP (ak (n:=(eg ((bI r).map (·.1))).length) 0 U sm) Cx U dc U)<|aq aj 7 ?_;refine cX (DY r kA kC cA cC bA bC slA slC drA drC heA heC d ((dL r).length) e G p (bI r) x (by exact A0) (by exact EJ (aF hx)) I) (aP [13,16]) U fun C3 Eq=>?_;obtain ⟨By,CI⟩:=C3
 try dsimp only
 refine aq aj 2 ?_;refine cX (DY (cN.mk r.av r.bf r.dp r.jB (jJ r.ay h i t)) L S M T N AA O V P W R X A8 ((dL (gW r h i t)).length) A9 m o (bI (gW r h i t)) x (by exact A1) (by exact fun q=>by have:=Gi E x;rw [q] at this;exact EJ (aF hx) (Option.not_isSome_iff_eq_none.1 (by rw [← this];decide))) I) (aP [2,5]) U fun DA FS=>?_;obtain ⟨B3,Ci⟩:=DA
 try dsimp only
 refine rS (CL (Rt (e9 (bI r) x (cd (bI r) x)) By CI (e9 (bI (gW r h i t)) x (cd (bI (gW r h i t)) x)) B3 Ci (by exact c6 Aa I) (by exact c6 Aa I)) (aw (ak (n:=(e9 (bI r) x (cd (bI r) x)).length) 1 U sm)<|aw (ak (n:=(e9 (bI (gW r h i t)) x (cd (bI (gW r h i t)) x)).length) 0 U sm)<|aA) U)<|aq aj 3 ?_;refine bE U (aK fun H=>?_) (aJ fun H=>?_)
 ·refine aq aW 5 ?_;have AP:(eg ((bI r).map (·.1))).length≤5:=by rw [iD,c3];exact F
  refine aq aj 2 ?_;rw [show (((eg ((bI r).map (·.1))).take k).filter (fun u=> !decide (e9 (bI r) u (cd (bI r) u)=e9 (bI (gW r h i t)) u (cd (bI (gW r h i t)) u))))=(((eg ((bI r).map (·.1))).take (k+1)).filter (fun u=> !decide (e9 (bI r) u (cd (bI r) u)=e9 (bI (gW r h i t)) u (cd (bI (gW r h i t)) u)))) from (S_ hx (by simpa using H)).symm];have y:(vI (((k+1):Nat):Int))=(vI ((k:Int)+1)):=by exact cI I
  refine aL (Y ⟨((k+1),a,c),(by first|omega|(simp only [];omega))⟩ _ _ _ U I (cx 5<|aQ U y<|cS.nil _) (aB [2,3,4,5,6,7,8,9,10,11,12,13,14,15,16,17,18,19,20,21,22,23,24,25,26,27,28]))
 refine aq aW 3 ?_;refine dC (xs:=[.tmp 62]) (cs:=[(vI x)]) U cM jW U U U U (by simp [Value.cells]) U U fun GT=>?_;refine cZ (es2:=(map iC (((eg ((bI r).map (·.1))).take (k+1)).filter (fun u=> !decide (e9 (bI r) u (cd (bI r) u)=e9 (bI (gW r h i t)) u (cd (bI (gW r h i t)) u)))))) (m':=(((eg ((bI r).map (·.1))).take (k+1)).filter (fun u=> !decide (e9 (bI r) u (cd (bI r) u)=e9 (bI (gW r h i t)) u (cd (bI (gW r h i t)) u)))).length) 29 U U U pI U U sm (aM (es:=map iC [x]) 0 U U (by simp [br]) U) (j4 _) os (by simp only [maxLen];first|omega|(simp;omega)) (by rw [F8 hx (by simpa using H)];simp) (by rw [F8 hx (by simpa using H)];simp) U fun B7 Ck=>?_
 try dsimp only
 refine aq aj 6 ?_;have AP:(eg ((bI r).map (·.1))).length≤5:=by rw [iD,c3];exact F
 refine aq aj 2 ?_;have w:(vI (((k+1):Nat):Int))=(vI ((k:Int)+1)):=by exact cI I
 refine aL (Y ⟨((k+1),B7,Ck),(by first|omega|(simp only [];omega))⟩ _ _ _ U I (cx 5<|aQ U w<|cS.nil _) (aB [3,4,5,6,7,8,9,10,11,12,13,14,15,16,17,18,19,20,21,22,23,24,25,26,27,28,29]))
end
end Go.Proofs.YtgnlmfdknlbkkaaGreatDoor
