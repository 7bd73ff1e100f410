/-
 The statement topRepaired_said, part 7 of 9: Rt1, Rt2, Rr1, B11, WLe, Ends5, Can, Sim, Told, Clear, Ways, WayM, B7, B8, B9, R1, Y1, Y2, Y3, Y5, Rx5, Rx1, Rx8, Rx9, Rx10, Rx11, RkS, RaS, RtS.
 Conditions: none.
-/
import Derived.Test.YtgnlmfdknlbkkaaGreatDoorTz1
import Derived.Test.YtgnlmfdknlbkkaaGreatDoorTz2
import Derived.Test.YtgnlmfdknlbkkaaGreatDoorTz3
import Derived.Test.YtgnlmfdknlbkkaaGreatDoorTz4
import Derived.Test.YtgnlmfdknlbkkaaGreatDoorTz5
import Derived.Test.YtgnlmfdknlbkkaaGreatDoorTz6
open List (append_assoc map range replicate zipWith)
namespace Go.Proofs.YtgnlmfdknlbkkaaGreatDoor
set_option maxRecDepth 100000
set_option maxHeartbeats 4000000
set_option linter.unusedVariables false
variable {k b d j:Nat} {sg:List aR} {i s t x f e:Int} {y:dK} {p:aI×Int} {q o:Int×aa} {l:bf} {r:c_} {rs fs:List Int} {z h:aa} {ws R W:List dK} {fd:Bool} {bz hz:List mg} {C X LA:List au} {L:dJ} {S:BS} {w0 w:World} {A:au} {K:Act→World→Prop} {ra fa:RA} {E:fJ} {D:iF}
abbrev ACO:= @List.all_append
section
open Go.RowKit
theorem IC (i:Int) (r:cN) (kA:OA) (kC:Nat) (az:List RA) (cA:OA) (cC:Nat) (bA:OA) (bC:Nat) (slA:OA) (slC:Nat) (drA:OA) (drC:Nat) (ha:List cq) (heA:OA) (heC:Nat) (hin:gI r az ha):
 ld Tryz.prog 13 [(vA (cf.cells (pN r kA kC cA cC bA bC slA slC drA drC heA heC))),(vI i)] ((rd hU 3 2 fX)::(DI r kA az cA bA slA drA ha heA)) (fun (x:(OA)×Nat)=>(vT [(vS x.1 ((kx r i).length) x.2),(vI (oE r i))])) (fun (x:(OA)×Nat)=>True) (fun (x:(OA)×Nat)=>[(own x.1 x.2 3 1 ((kx r i).map iC))]):=by
 have N:=hin.line;have c:=hin.g_;have d:=hin.has;have AA:=hin.g9;have R:=hin.draw;have V:=fG (r:=r);refine cU kr Tryz.func13 U U fun g Q hQ hN=>?_
 try dsimp only
 refine aU bT 2 U<|dV U fun f=>ck aj 8 [] (mc 0 U mn) ?_;refine dC (xs:=[.tmp 11]) (cs:=[(vI i)]) U cO jU U U U U (by simp [Value.cells]) U U fun a=>cX (BE r kA kC az cA cC bA bC slA slC drA drC ha heA heC i a hin) (aP [2,3,4,5,6,7,8,9,10,0]) U fun e F=>?_;obtain ⟨G,b,M,L,H,AB,Z,X,Y⟩:=e;cases G
 ·obtain ⟨B,he⟩:=F.2 rfl
  try dsimp only at B he
  subst B
  try dsimp only [cond_true,cond_false,List.cons_append,List.nil_append]
  refine aq aj 16 ?_;refine bE U (aJ fun A=>?_) (aK fun A=>?_)
  ·exact absurd A he
  refine aq aY 2 ?_;refine fT 3 1 ?_;rw [show (own none 0 3 1 ([]:List (List Value)))=own none 0 3 1 ((kx r i).map iC) from by rw [CE he];rfl];refine aq aj 6 ?_;refine LX hQ (none,0) [0] [] mn U U U ?_ ?_
  ·(rw [CE he];rfl)
  ·trivial
 obtain ⟨he,O⟩:=F.1 rfl
 try dsimp only [cond_true,cond_false,List.cons_append,List.nil_append]
 try dsimp only at O
 obtain ⟨D,S,C⟩:=B_ he;have E:=xh D;have T:=tH D;refine aU aj 13 U<|rS (SX (cm (r:= .bool false) U U U nx) U U)<|aq aj 9 ?_;refine cX (Dw r kA kC cA cC bA bC slA slC drA drC heA heC H ((dN r).length) AB L M (bJ r) i (by exact E) (by exact C) I) (aP [0,3]) U fun P W=>?_;obtain ⟨J,K⟩:=P
 try dsimp only
 rw [show (e7 (bJ r) i (cd (bJ r) i))=kx r i from (Mn he).symm];refine aq aj 5 ?_;refine LX hQ (J,K) [0] [] mn U U U ?_ ?_
 ·(rw [he];rfl)
 ·trivial
end
section
open Go.RowKit
variable (i:Int) (r:cN) (kA:OA) (kC:Nat) (az:List RA) (cA:OA) (cC:Nat) (bA:OA) (bC:Nat) (slA:OA) (slC:Nat) (drA:OA) (drC:Nat) (ha:List cq) (heA:OA) (heC:Nat)
theorem Iq (hin:gI r az ha):
 dh Tryz.prog 15 [(vA (cf.cells (pN r kA kC cA cC bA bC slA slC drA drC heA heC))),(vI i)] ((rd hU 3 2 fX)::(DI r kA az cA bA slA drA ha heA)) (vT [(vA (aa.cells (yP r i))),(vI (oE r i))]):=by
 have F:=hin.line;have Y:=hin.g_;have Z:=hin.has;have N:=hin.g9;have AB:=hin.draw;have O:=fG (r:=r);refine bj kr Tryz.func15 U U fun d Q hQ hN=>?_
 try dsimp only
 refine aU bT 2 U<|dV U fun b=>AL U dD fun c=>ck aj 7 [] (mc 1 U mn) ?_;refine dC (xs:=[.tmp 11]) (cs:=[(vI i)]) U cO jU U U U U (by simp [Value.cells]) U U fun V=>cX (BE r kA kC az cA cC bA bC slA slC drA drC ha heA heC i V hin) (aP [3,4,5,6,7,8,9,10,11,0]) U fun a D=>?_;obtain ⟨E,W,X,H,S,T,AA,P,R⟩:=a;cases E
 ·obtain ⟨B,he⟩:=D.2 rfl
  try dsimp only at B he
  subst B
  try dsimp only [cond_true,cond_false,List.cons_append,List.nil_append]
  refine aq aj 16 ?_;refine bE U (aJ fun A=>?_) (aK fun A=>?_)
  ·exact absurd A he
  refine aU aY 2 U<|rS (SX (aW (xs:=[]) (cs:=(aa.cells (aa.mk 0 0))) U U (aV gQ U)) U U)<|aU aj 1 U<|o_ U cK U<|aq aj 4 ?_;refine mP hQ [0] (mc 1 U mn) U ?_
  first|(rw [show yP r i=gP from c1 he];rfl)|(rw [he,show yP r i=cd _ _ from c0 he];done)
 obtain ⟨he,G⟩:=D.1 rfl
 try dsimp only [cond_true,cond_false,List.cons_append,List.nil_append]
 try dsimp only at G
 obtain ⟨C,J,K⟩:=B_ he;have L:=xh C;have M:=tH C;refine aU aj 13 U<|rS (SX (cm (r:= .bool false) U U U nx) U U)<|aq aj 8 ?_;refine rS (IA 0 U (ao (n:=1) 4 U sq) iv dc U I) ?_;refine rS (k8 0 0 (aa.cells (cd (bJ r) i)) U bP (ao (n:=([(cd (bJ r) i)]).length) 4 U sm) (show ([(cd (bJ r) i)].map aa.cells)[0]? =some [(vI ((cd (bJ r) i).Lo)),(vI ((cd (bJ r) i).Hi))] from U) U dc U U)<|XM U cK U<|aq aj 4 ?_;refine mP hQ [0] (mc 6 U mn) U ?_
 first|(rw [show yP r i=gP from c1 he];rfl)|(rw [he,show yP r i=cd _ _ from c0 he];done)
theorem FV (hin:gI r az ha):
 dh Tryz.prog 31 [(vA (cf.cells (pN r kA kC cA cC bA bC slA slC drA drC heA heC)))] ((rd hU 3 2 fX)::(DI r kA az cA bA slA drA ha heA)) (vI (eK r)):=by
 have D:=hin.line;have M:=hin.g_;have N:=hin.has;have F:=hin.g9;have E:=hin.draw;have G:=fG (r:=r);refine bj kr Tryz.func31 U U fun T Q hQ hN=>?_
 try dsimp only
 refine aU bT 2 U<|dV U fun S=>ck aj 6 [] (mc 0 U mn) ?_;refine cX (uA r kA kC az cA cC bA bC slA slC drA drC ha heA heC hin) (aP [1,2,3,4,5,6,7,8,9]) U fun R B=>?_;obtain ⟨C,J,L,K,P,H,AA⟩:=R;cases C;rotate_left 1
 ·obtain ⟨he,O⟩:=B.1 rfl
  try dsimp only [cond_true,cond_false,List.cons_append,List.nil_append]
  refine cr aj 14 hQ U U ?_
  first|rfl|(rw [he])
 obtain ⟨A,he⟩:=B.2 rfl
 try dsimp only at A he
 subst A
 try dsimp only [cond_true,cond_false,List.cons_append,List.nil_append]
 refine cr aj 14 hQ U U ?_
 first|rfl|(rw [he])
end
section
open Go.RowKit
theorem qR (n lo hi:Int):
 dh Tryz.prog 153 [(vI n),(vI lo),(vI hi)] [] (vB (decide (lo≤n∧n≤hi))):=by
 refine bj kr Tryz.func153 U U fun B Q hQ hN=>?_
 try dsimp only
 refine aq bT 11 ?_;refine bK (t:=10) U (aG fun A=>?_) (aH fun A=>?_)
 ·exact cr aj 8 hQ U U<|cB (gR.2 I)
 exact cr aj 8 hQ U U<|cB (bg I).symm
theorem Jk (r:c_) (sgA:OA) (sgC:Nat):
 dh Tryz.prog 202 [(vA (dA.cells (jP r sgA sgC)))] [(ke sgA r.ab)] (vB (decide (oi r))):=by
 refine bj kr Tryz.func202 U U fun D Q hQ hN=>?_
 try dsimp only
 refine aU bT 2 U<|dV U fun C=>ck aj 9 [] (mc 0 U mn) ?_;refine cz (t:=6) U (aH fun A=>?_) (aG fun A=>?_)
 ·refine cr aj 14 hQ U U ?_;simp only [oi];exact cB (bg I).symm
 refine ck aj 5 [] (mc 0 U mn) ?_;refine cz (t:=11) U (aH fun B=>?_) (aG fun B=>?_)
 ·refine cr aj 9 hQ U U ?_;simp only [oi];exact cB (bg I).symm
 refine yR aj 9 hQ [] (mc 0 U mn) U U ?_;simp only [oi];exact cB (gR.2 I)
theorem DV (s:aa):
 dh Tryz.prog 10 [(vA (aa.cells s))] [] (vB (decide (ir s))):=by
 refine bj kr Tryz.func10 U U fun D Q hQ hN=>?_
 try dsimp only
 refine aU bT 2 U<|dV U fun C=>ck aj 9 [] (mc 0 U mn) ?_;refine cz (t:=6) U (aH fun A=>?_) (aG fun A=>?_)
 ·refine cr aj 15 hQ U U ?_;simp only [ir];exact cB (bg I).symm
 refine ck aj 7 [] (mc 0 U mn) ?_;refine cz (t:=13) U (aH fun B=>?_) (aG fun B=>?_)
 ·refine cr aj 8 hQ U U ?_;simp only [ir];exact cB (bg I).symm
 refine yR aj 8 hQ [] (mc 0 U mn) U U ?_;simp only [ir];exact cB (gR.2 I)
theorem tn (la:List Int) (laA:OA) (laC:Nat) (lb:List Int) (lbA:OA) (lbC:Nat) (h1:la.length≤1000000) (h2:lb.length≤1000000):
 dh Tryz.prog 39 [(vS laA la.length laC),(vS lbA lb.length lbC)] [(jx laA la),(jx lbA lb)] (vB (decide (la=lb))):=by
 refine bj kr Tryz.func39 U U fun AA Q hQ hN=>?_
 try dsimp only
 refine aq bT 15 ?_;refine bY U (aK fun hl=>?_) (aJ fun hl=>?_)
 ·exact cr aY 6 hQ rfl rfl<|cB (bg (fun e=>by subst e;omega)).symm
 refine aq aY 9 ?_;have A:(0≤la.length)∧(la.take 0=lb.take 0):=by simp
 refine bw (ι:={z:Nat // (z≤la.length)∧(la.take z=lb.take z)}) [0,1] [0,1] U U (fun z=>[(5,(vI (z.1:Int)))]) (fun z=>[]) (fun _=>rfl) (fun _=>rfl) (fun z=>la.length-z.1) ⟨0,A⟩ (aN U) (aB [0,1]) ?_;clear A;rintro ⟨i,⟨F,B⟩⟩ J7 E
 try dsimp only
 refine aq bT 9 ?_;refine bE U (aH fun D=>?_) (aG fun D=>?_)
 ·exact aU aY 1 U<|cr fz 8 hQ U U<|cB (cR (iE I B I)).symm
 refine aU aY 5 U<|cL bX 9 kr<|dP 2 [] mn ?_;obtain ⟨x,hx⟩:=ay la i I;have G:=bx iC hx;refine dS (IA i U (av 0 U) cO dc I I)<|dS (gF i 0 (vI x) U bP (av 0 U) G U dc U)<|dP 2 [] mn ?_;obtain ⟨y,hy⟩:=ay lb i I;have H:=bx iC hy;refine dS (IA i U (av 1 U) cO dc I I)<|dS (gF i 0 (vI y) U bP (av 1 U) H U dc U)<|iQ 1 U<|cy<|aq aj 2 ?_;refine bY U (aK fun h=>?_) (aJ fun h=>?_)
 ·exact cr aY 6 hQ U U<|cB (bg (kg hx hy h)).symm
 refine aq aY 8 ?_;have C:(vI (((i+1):Nat):Int))=(vI ((i:Int)+1)):=by exact cI I
 refine aL (E ⟨(i+1),⟨I,iP B hx hy h⟩⟩ _ _ _ U os (cV.cons U<|cV.cons U<|aQ U C<|cV.nil _) (aB [0,1]))
end
section
open Go.RowKit
theorem Sq (l:bf) (kA:OA) (kC:Nat) (az:List RA) (cA:OA) (cC:Nat) (bA:OA) (bC:Nat) (m:bf) (k2A:OA) (k2C:Nat) (az2:List RA) (c2A:OA) (c2C:Nat) (b2A:OA) (b2C:Nat) (hin:dX l az) (hin2:dX m az2) (hsm: ¬ nO l) (hsm2: ¬ nO m):
 dh Tryz.prog 38 [(vA (bV.cells (kO l kA kC cA cC bA bC))),(vA (bV.cells (bV.mk (aZ.mk (aX.mk k2A m.bQ.length k2C)) m.g7 (aX.mk c2A m.aC.length c2C) (aX.mk b2A m.ai.length b2C) m.b_ m.eZ m.dp)))] ((rr l kA az cA bA)++[(l0 k2A m.bQ),(yS c2A m.aC az2),(iU (bB aS.lf m.aC az2)),(xP b2A m.ai)]) (vB (decide (l=m))):=by
 have Bv:=hin.sQ;have Bt:=hin.sR;have BD:=hin.mE;have BP:=hin.sP;have A7:=hin2.sQ;have A6:=hin2.sR;have A4:=hin2.mE;have A5:=hin2.sP;have b:=zn hsm;have T:=zn hsm2;refine bj kr Tryz.func38 U U fun w0 Q hQ hN=>?_
 try dsimp only
 refine aU bT 2 U<|dV U fun b2=>dV U fun b3=>aU aj 7 U<|rS (LP (aZ.cells (aZ.mk (aX.mk kA l.bQ.length kC))) 1 U bP U U U)<|aU aj 1 U<|rS (LP (aZ.cells (aZ.mk (aX.mk k2A m.bQ.length k2C))) 0 U bP U U U)<|rS (CL (U0 l.bQ kA kC m.bQ k2A k2C asm asm) (aP [2,6]) U)<|aq aj 2 ?_;refine bK (t:=16) U (aK fun D=>?_) (aJ fun D=>?_)
 ·exact cr aj 54 hQ rfl rfl<|cB (bg (fun e=>by subst e;first|exact D rfl|omega)).symm
 refine ck aj 7 [0,1] (mc 1 U (mc 0 U mn)) ?_;refine bK (t:=23) U (aK fun h=>?_) (aJ fun h=>?_)
 ·exact cr aj 47 hQ rfl rfl<|cB (bg (fun e=>by subst e;first|exact D rfl|omega)).symm
 refine ck aj 7 [0,1] (mc 1 U (mc 0 U mn)) ?_;refine bK (t:=30) U (aK fun j=>?_) (aJ fun j=>?_)
 ·exact cr aj 40 hQ rfl rfl<|cB (bg (fun e=>by subst e;first|exact D rfl|omega)).symm
 refine ck aj 7 [0,1] (mc 1 U (mc 0 U mn)) ?_;refine bK (t:=37) U (aK fun o=>?_) (aJ fun o=>?_)
 ·exact cr aj 33 hQ rfl rfl<|cB (bg (fun e=>by subst e;first|exact D rfl|omega)).symm
 refine ck aj 7 [0,1] (mc 1 U (mc 0 U mn)) ?_;refine bK (t:=44) U (aK fun r=>?_) (aJ fun r=>?_)
 ·exact cr aj 26 hQ rfl rfl<|cB (bg (fun e=>by subst e;first|exact D rfl|omega)).symm
 refine ck aj 9 [0,1] (mc 1 U (mc 0 U mn)) ?_;refine bK (t:=53) U (aK fun v=>?_) (aJ fun v=>?_)
 ·exact cr aj 17 hQ rfl rfl<|cB (bg (fun e=>by subst e;first|exact D rfl|omega)).symm
 refine ck aj 10 [0,1] (mc 1 U (mc 0 U mn)) ?_;refine bY U (aK fun w=>?_) (aJ fun w=>?_)
 ·exact cr aY 6 hQ rfl rfl<|cB (bg (fun e=>by subst e;first|exact D rfl|omega)).symm
 refine aq aY 9 ?_;have A:(0≤l.aC.length)∧(l.aC.take 0=m.aC.take 0):=by simp
 refine bw (ι:={z:Nat // (z≤l.aC.length)∧(l.aC.take z=m.aC.take z)}) [2,3] [0,1,2,3,4,5,6,7,8,9] U U (fun z=>[(5,(vI (z.1:Int)))]) (fun z=>[]) (fun _=>rfl) (fun _=>rfl) (fun z=>l.aC.length-z.1) ⟨0,A⟩ (aN U) (aB [0,1,2,3,4,5,6,7,8,9]) ?_;clear A;rintro ⟨i,⟨AC,E⟩⟩ J15 S
 try dsimp only
 refine ck bT 10 [] (mc 1 U mn) ?_;refine bE U (aH fun g=>?_) (aG fun g=>?_)
 ·refine aU aY 1 U<|aq fz 9 ?_;have A:(0≤l.ai.length)∧(l.ai.take 0=m.ai.take 0):=by simp
  refine bw (ι:={z:Nat // (z≤l.ai.length)∧(l.ai.take z=m.ai.take z)}) [2,3] [0,1,2,3,4,5,6,7,8,9] U U (fun z=>[(9,(vI (z.1:Int)))]) (fun z=>[]) (fun _=>rfl) (fun _=>rfl) (fun z=>l.ai.length-z.1) ⟨0,A⟩ (aN U) (aB [0,1,2,3,4,5,6,7,8,9]) ?_;clear A;rintro ⟨n,⟨c,F⟩⟩ J43 Z
  try dsimp only
  refine ck bT 10 [] (mc 1 U mn) ?_;refine bE U (aH fun s=>?_) (aG fun s=>?_)
  ·exact aU aY 1 U<|cr fz 8 hQ U U<|cB (cR (J1 D I I I I (iE I E I) (iE I F I))).symm
  refine aU aY 5 U<|cL bX 11 kr<|dP 3 [] (mc 1 U mn) ?_;obtain ⟨p,hp⟩:=ay l.ai n I;have AO:=bx df.cells hp;refine dS (IA n U (av 5 U) wx dc I I)<|dS (k8 n 0 (df.cells p) U bP (av 5 U) AO U dc U U)<|dP 3 [] (mc 0 U mn) ?_;obtain ⟨q,hq⟩:=ay m.ai n I;have Ap:=bx df.cells hq;refine dS (IA n U (av 9 U) wx dc I I)<|dS (k8 n 0 (df.cells q) U bP (av 9 U) Ap U dc U U)<|dS (BI U (Wo _ _ p q))<|cy<|aq aj 2 ?_;refine bE U (aJ fun G=>?_) (aK fun G=>?_)
  ·refine aq aY 8 ?_;have a:(vI (((n+1):Nat):Int))=(vI ((n:Int)+1)):=by exact cI I
   refine aL (Z ⟨(n+1),⟨I,iP F hp hq G⟩⟩ _ _ _ U os (cV.cons U<|cV.cons U<|aQ U a<|cV.nil _) (aB [0,1,2,3,4,5,6,7,8,9]))
  exact cr aY 6 hQ rfl rfl<|cB (bg (fun e=>by subst e;rw [hp] at hq;cases hq;exact G rfl)).symm
 refine aq aY 5 ?_;refine mj bX [0,1,2,3,4,5,6,7,8,9] [10,11,12,13] [false,false,false,false,false,false,false,false,false,false] [] [(cb b3 28 (bV.cells (bV.mk (aZ.mk (aX.mk k2A m.bQ.length k2C)) m.g7 (aX.mk c2A m.aC.length c2C) (aX.mk b2A m.ai.length b2C) m.b_ m.eZ m.dp))),(cb b2 28 (bV.cells (kO l kA kC cA cC bA bC))),(l0 kA l.bQ).ro,(yS cA l.aC az).ro,(iU (bB aS.lf l.aC az)).ro,(xP bA l.ai).ro,(l0 k2A m.bQ).ro,(yS c2A m.aC az2).ro,(iU (bB aS.lf m.aC az2)).ro,(xP b2A m.ai).ro] [] kr (aB [0,1,2,3,4,5,6,7,8,9]) (aB [])<|eS U (FA 2 U eB U)<|eS U (L1 (vS cA l.aC.length cC) 1 U bP U U)<|eS U (MV U) ?_;obtain ⟨x,hx⟩:=ay l.aC i I;obtain ⟨xa,O⟩:=ay az i I;have A1:(zipWith aS.cells l.aC az)[i]? =some (aS.cells x xa):=cE hx O;refine eS U (IA i U (av 3 U) xq dc I I)<|eS U (k8 i 0 (dE.cells (dE.mk x.dI (aX.mk xa.1 x.bo.length xa.2))) U bP (av 3 U) A1 U dc U U)<|eS U (FA 2 U eB U)<|eS U (L1 (vS c2A m.aC.length c2C) 0 U bP U U)<|eS U (MV U) ?_;obtain ⟨y,hy⟩:=ay m.aC i I;obtain ⟨ya,P⟩:=ay az2 i I;have A3:(zipWith aS.cells m.aC az2)[i]? =some (aS.cells y ya):=cE hy P;refine eS U (IA i U (av 7 U) xq dc I I)<|eS U (k8 i 0 (dE.cells (dE.mk y.dI (aX.mk ya.1 y.bo.length ya.2))) U bP (av 7 U) A3 U dc U U)<|dL U<|nJ [10,11] kr (iR ?_<|iR ?_<|rf);rotate_left 1
 ·refine NO U U [10,12,13] fun T21 AB=>AL U zJ fun d=>RD AB 1 U<|N1 10<|NO U U [12,13] fun T23 J=>AL U zJ fun f=>RD J 2 U<|N1 12<|NO U U [13] fun T25 K=>eM U CQ U<|RD K 2 U<|N1 13<|NO U U [] fun T26 L=>o_ U CQ U<|RD L 2 U<|mK<|ck jC 10 [0,1] (mc 0 U (mc 1 U mn)) ?_;refine bK (t:=84) U (aK fun V=>?_) (aJ fun V=>?_)
  ·exact cr aj 17 hQ rfl rfl<|cB (bg (fun e=>by subst e;rw [hx] at hy;cases hy;omega)).symm
  refine ck aj 10 [0,1] (mc 0 U (mc 1 U mn)) ?_;refine bY U (aK fun W=>?_) (aJ fun W=>?_)
  ·exact cr aY 6 hQ rfl rfl<|cB (bg (fun e=>by subst e;rw [hx] at hy;cases hy;omega)).symm
  refine aq aY 8 ?_;have A:(0≤x.bo.length)∧(x.bo.take 0=y.bo.take 0):=by simp
  refine bw (ι:={z:Nat // (z≤x.bo.length)∧(x.bo.take z=y.bo.take z)}) [2,3,5,6,7] [0,1,2,3,4,5,6,7,8,9,10,11] U U (fun z=>[(8,(vI (z.1:Int)))]) (fun z=>[]) (fun _=>rfl) (fun _=>rfl) (fun z=>x.bo.length-z.1) ⟨0,A⟩ (aN U) (aB [0,1,2,3,4,5,6,7,8,9,10,11]) ?_;clear A;rintro ⟨k,⟨R,B⟩⟩ J32 H
  try dsimp only
  have A0:=b.2.2.2 x (aF hx);have A2:=T.2.2.2 y (aF hy);refine ck bT 10 [] (mc 0 U mn) ?_;refine bE U (aH fun AA=>?_) (aG fun AA=>?_)
  ·refine aU aY 1 U<|aq fz 8 ?_;have N:(vI (((i+1):Nat):Int))=(vI ((i:Int)+1)):=by exact cI I
   refine aL (S ⟨(i+1),⟨I,iP E hx hy (Bc I I I B)⟩⟩ _ _ _ U os (cV.cons U<|cV.cons U<|aQ U N<|cV.nil _) (aB [2,3,4,5,6,7,8,9,10,11]))
  refine aU aY 5 U<|cL bX 11 kr<|dP 3 [] (mc 0 U mn) ?_;obtain ⟨z,hz⟩:=ay x.bo k I;have Y:=bx cP.cells hz;refine dS (IA k U (show ig _ (qK xa.1 x.bo).holds from (ct 6 U (bq hx O (by simp [aS.lf])))) pK dc I I)<|dS (k8 k 0 (cP.cells z) U bP (show ig _ (qK xa.1 x.bo).holds from (ct 6 U (bq hx O (by simp [aS.lf])))) Y U dc U U)<|dP 3 [] (mc 1 U mn) ?_;obtain ⟨u,hu⟩:=ay y.bo k I;have X:=bx cP.cells hu;refine dS (IA k U (show ig _ (qK ya.1 y.bo).holds from (ct 10 U (bq hy P (by simp [aS.lf])))) pK dc I I)<|dS (k8 k 0 (cP.cells u) U bP (show ig _ (qK ya.1 y.bo).holds from (ct 10 U (bq hy P (by simp [aS.lf])))) X U dc U U)<|dS (BI U (QB _ _ z u))<|cy<|aq aj 2 ?_;refine bE U (aJ fun C=>?_) (aK fun C=>?_)
  ·refine aq aY 8 ?_;have M:(vI (((k+1):Nat):Int))=(vI ((k:Int)+1)):=by exact cI I
   refine aL (H ⟨(k+1),⟨I,iP B hz hu C⟩⟩ _ _ _ U os (cx 5<|aQ U M<|cV.nil _) (aB [0,1,2,3,4,5,6,7,8,9,10,11]))
  exact cr aY 6 hQ rfl rfl<|cB (bg (fun e=>by subst e;rw [hx] at hy;cases hy;(rw [hz] at hu;cases hu;exact C rfl))).symm
 refine NO U U [11,12,13] fun T21 AB=>AL U zJ fun d=>RD AB 1 U<|N1 11<|NO U U [12,13] fun T23 J=>AL U zJ fun f=>RD J 2 U<|N1 12<|NO U U [13] fun T25 K=>o_ U CQ U<|RD K 2 U<|N1 13<|NO U U [] fun T26 L=>eM U CQ U<|RD L 2 U<|mK<|ck jC 10 [0,1] (mc 1 U (mc 0 U mn)) ?_;refine bK (t:=84) U (aK fun V=>?_) (aJ fun V=>?_)
 ·exact cr aj 17 hQ rfl rfl<|cB (bg (fun e=>by subst e;rw [hx] at hy;cases hy;omega)).symm
 refine ck aj 10 [0,1] (mc 1 U (mc 0 U mn)) ?_;refine bY U (aK fun W=>?_) (aJ fun W=>?_)
 ·exact cr aY 6 hQ rfl rfl<|cB (bg (fun e=>by subst e;rw [hx] at hy;cases hy;omega)).symm
 refine aq aY 8 ?_;have A:(0≤x.bo.length)∧(x.bo.take 0=y.bo.take 0):=by simp
 refine bw (ι:={z:Nat // (z≤x.bo.length)∧(x.bo.take z=y.bo.take z)}) [2,3,5,6,7] [0,1,2,3,4,5,6,7,8,9,10,11] U U (fun z=>[(8,(vI (z.1:Int)))]) (fun z=>[]) (fun _=>rfl) (fun _=>rfl) (fun z=>x.bo.length-z.1) ⟨0,A⟩ (aN U) (aB [0,1,2,3,4,5,6,7,8,9,10,11]) ?_;clear A;rintro ⟨k,⟨R,B⟩⟩ J32 H
 try dsimp only
 have A0:=b.2.2.2 x (aF hx);have A2:=T.2.2.2 y (aF hy);refine ck bT 10 [] (mc 1 U mn) ?_;refine bE U (aH fun AA=>?_) (aG fun AA=>?_)
 ·refine aU aY 1 U<|aq fz 8 ?_;have N:(vI (((i+1):Nat):Int))=(vI ((i:Int)+1)):=by exact cI I
  refine aL (S ⟨(i+1),⟨I,iP E hx hy (Bc I I I B)⟩⟩ _ _ _ U os (cV.cons U<|cV.cons U<|aQ U N<|cV.nil _) (aB [2,3,4,5,6,7,8,9,10,11]))
 refine aU aY 5 U<|cL bX 11 kr<|dP 3 [] (mc 1 U mn) ?_;obtain ⟨z,hz⟩:=ay x.bo k I;have Y:=bx cP.cells hz;refine dS (IA k U (show ig _ (qK xa.1 x.bo).holds from (ct 6 U (bq hx O (by simp [aS.lf])))) pK dc I I)<|dS (k8 k 0 (cP.cells z) U bP (show ig _ (qK xa.1 x.bo).holds from (ct 6 U (bq hx O (by simp [aS.lf])))) Y U dc U U)<|dP 3 [] (mc 0 U mn) ?_;obtain ⟨u,hu⟩:=ay y.bo k I;have X:=bx cP.cells hu;refine dS (IA k U (show ig _ (qK ya.1 y.bo).holds from (ct 10 U (bq hy P (by simp [aS.lf])))) pK dc I I)<|dS (k8 k 0 (cP.cells u) U bP (show ig _ (qK ya.1 y.bo).holds from (ct 10 U (bq hy P (by simp [aS.lf])))) X U dc U U)<|dS (BI U (QB _ _ z u))<|cy<|aq aj 2 ?_;refine bE U (aJ fun C=>?_) (aK fun C=>?_)
 ·refine aq aY 8 ?_;have M:(vI (((k+1):Nat):Int))=(vI ((k:Int)+1)):=by exact cI I
  refine aL (H ⟨(k+1),⟨I,iP B hz hu C⟩⟩ _ _ _ U os (cx 5<|aQ U M<|cV.nil _) (aB [0,1,2,3,4,5,6,7,8,9,10,11]))
 exact cr aY 6 hQ rfl rfl<|cB (bg (fun e=>by subst e;rw [hx] at hy;cases hy;(rw [hz] at hu;cases hu;exact C rfl))).symm
end
section
variable {w w':cw}
theorem Fq {k:Int}:k∈n8 w↔ ∃ i:Nat,k=(i:Int)∧i≤w.n∧mR w (sv w i)=true:=by
 unfold n8 mq;simp only [cu,n3,AAd];constructor
 ·rintro ⟨i,⟨B,A⟩,rfl⟩;exact ⟨i,rfl,I,A⟩
 ·rintro ⟨i,rfl,B,A⟩;exact ⟨i,⟨I,A⟩,rfl⟩
variable {l l':bf} {r r':c_}
theorem J_ (hb:b<l.ai.length):fK l r (lR l b)=fK l r 0:=by rw [Ad I]
theorem Kp:cW (dW l r) b=if b<l.ai.length then ew l b else 0:=by
 unfold cW dW cv;split
 ·rename_i h;simp [h]
 ·rename_i h;simp [h]
theorem Ka {i:Nat} (h:i=0):nq sg i=⟨-1,0⟩:=by subst h;rfl
theorem tU {i:Nat} {y:aR} (h:0<i) (hy:sg[i-1]? =some y):nq sg i=y:=by unfold nq;rw [c1 I,hy];rfl
end
section
/-- where a sled may be after k beams more -/
def mB (w:cw):Nat→Nat→aI×Int→List (aI×Int)
 |0,_,p=>[p]
 |k+1,b,p=>(kW w b).flatMap fun o=>match oG w b p o with
  |some q=>mB w k (b+1) q
  |none=>[]
variable {w:cw}
theorem qN {q:aI×Int}:q∈mB w (k+1) b p↔ ∃ o∈kW w b,∃ p',oG w b p o=some p'∧q∈mB w k (b+1) p':=by
 simp only [mB,AAx];constructor
 ·rintro ⟨o,ho,h⟩;cases e:oG w b p o with
  |none=>rw [e] at h;cases h
  |some p'=>rw [e] at h;exact ⟨o,ho,p',e,h⟩
 ·rintro ⟨o,ho,p',e,h⟩;exact ⟨o,ho,by rw [e];exact h⟩
theorem Cw: ∀ (k b:Nat) (q:aI×Int),q∈sv w (b+k)↔ ∃ p∈sv w b,q∈mB w k b p:=by
 intro k
 induction k with
 |zero=>
  intro b q;simp only [AB8,mB,bU];exact ⟨fun h=>⟨q,h,rfl⟩,fun ⟨p,hp,e⟩=>e▸hp⟩
 |succ k ih=>
  intro b q;rw [show b+(k+1)=(b+1)+k by omega,ih];constructor
  ·rintro ⟨p',hp',h⟩;obtain ⟨p,hp,o,ho,e⟩:=lQ.1 hp';exact ⟨p,hp,qN.2 ⟨o,ho,p',e,h⟩⟩
  ·rintro ⟨p,hp,h⟩;obtain ⟨o,ho,p',e,h'⟩:=qN.1 h;exact ⟨p',lQ.2 ⟨p,hp,o,ho,e⟩,h'⟩
theorem uj {q:aI×Int}:oG w b p o=some q↔max (p.2+cW w b) o.2.Lo≤min o.2.Hi w.hP∧q=(dY p.1 (gU o.1),max (p.2+cW w b) o.2.Lo):=by
 unfold oG;split
 ·rename_i h;constructor
  ·intro e;cases e;exact ⟨h,rfl⟩
  ·rintro ⟨_,rfl⟩;rfl
 ·rename_i h;constructor
  ·intro e;cases e
  ·rintro ⟨h',_⟩;exact absurd h' h
theorem xr {q:aI×Int}:rh w b p o=some q↔o.2.Lo≤min p.2 o.2.Hi∧q=(dY p.1 (gU o.1),min p.2 o.2.Hi-cW w b):=by
 unfold rh;split
 ·rename_i h;constructor
  ·intro e;cases e;exact ⟨h,rfl⟩
  ·rintro ⟨_,rfl⟩;rfl
 ·rename_i h;constructor
  ·intro e;cases e
  ·rintro ⟨h',_⟩;exact absurd h' h
theorem KF (hb:b≤w.n):((⟨0,0⟩:aI),w.hP)∈back w b:=by
 rcases r4 b w.n with h|h
 ·exact (qC h).2 (.inl U)
 ·rw [xM h];simp
theorem o3 (t:aI):dY t ⟨0,0⟩=t:=by cases t;simp [dY]
theorem BF (a o u:aI):dY (dY a o) u=dY a (dY u o):=by simp only [dY,aI.mk.injEq];omega
theorem JC (hl: ∀ b,0≤cW w b): ∀ (k:Nat) (u:aI×Int),u∈Ts w k→u.2≤w.hP:=by
 intro k
 induction k with
 |zero=>intro u hu;simp only [Ts,bU] at hu;subst hu;exact wt _
 |succ k ih=>
  intro u hu;simp only [Ts,bI,AAx,AAD] at hu;rcases hu with rfl|⟨p,hp,o,ho,e⟩
  ·exact wt _
  ·obtain ⟨_,rfl⟩:=xr.1 e;have:=ih p hp;have:=hl (w.n-(k+1));simp only;omega
/-- what follows a passing is told by the way back -/
theorem SA: ∀ (k b:Nat) (p q:aI×Int),b+k≤w.n→p.2≤w.hP→q∈mB w k b p→ ∃ u∈back w b,p.2≤u.2∧q.1=dY p.1 u.1:=by
 intro k
 induction k with
 |zero=>
  intro b p q hb hp hq;simp only [mB,bU] at hq;subst hq;exact ⟨_,KF I,hp,(o3 _).symm⟩
 |succ k ih=>
  intro b p q hb hp hq;obtain ⟨o,ho,p',e,h⟩:=qN.1 hq;obtain ⟨C,rfl⟩:=uj.1 e;obtain ⟨u',hu',B,A⟩:=ih (b+1) _ q I (by simp only;omega) h;simp only at B A;refine ⟨(dY u'.1 (gU o.1),min u'.2 o.2.Hi-cW w b),(qC I).2 (.inr ⟨u',hu',o,ho,xr.2 ⟨I,U⟩⟩),by simp only;omega,?_⟩;rw [A,BF]
theorem M5 (hl: ∀ b,0≤cW w b): ∀ (d b:Nat) (p u:aI×Int),w.n=b+d→p.2≤u.2→u∈back w b→ ∃ k,b+k≤w.n∧ ∃ q∈mB w k b p,q.1=dY p.1 u.1:=by
 intro d
 induction d with
 |zero=>
  intro b p u hd hp hu;rw [xM I] at hu;simp only [bU] at hu;subst hu;exact ⟨0,I,p,by simp [mB],(o3 _).symm⟩
 |succ d ih=>
  intro b p u hd hp hu;rcases (qC I).1 hu with rfl|⟨u',hu',o,ho,e⟩
  ·exact ⟨0,I,p,by simp [mB],(o3 _).symm⟩
  ·obtain ⟨B,rfl⟩:=xr.1 e;have hn:u'.2≤w.hP:=JC hl _ _ hu';simp only at hp;obtain ⟨k,hk,q,hq,A⟩:=ih (b+1) (dY p.1 (gU o.1),max (p.2+cW w b) o.2.Lo) u' I (by simp only;omega) hu';refine ⟨k+1,I,q,qN.2 ⟨o,ho,_,uj.2 ⟨I,U⟩,hq⟩,?_⟩;rw [A];simp only;rw [BF]
end
section
section
variable {l:bf} {r:c_} {one at_:Int} {d:Nat} {f g m:Int} {rec:Int→Int→Int→Bool} {i:Int}
end
theorem yf (hd:d<l.ai.length):o∈kW (dW l r) d↔o=(-1,⟨r.Start,r.hP⟩)∨ ∃ k,k<r.ab.length∧ ∃ s,r.ab[k]? =some s∧(s.fR=(d:Int)∧(dw l s).Lo≤(dw l s).Hi)∧o=((k:Int),dw l s):=by
 unfold kW za;show o∈(-1,(⟨r.Start,r.hP⟩:aa))::((cM l r.ab r.ab.length)[d]?).getD []↔_
 rw [rl hd,ABa,bI,vn]
theorem ry (hd:d<l.ai.length):cW (dW l r) d=ew l d:=by rw [Kp,c0 hd]
theorem xQ {n:Nat} {y:Int} (h:(cv l n)[d]? =some y):y=ew l d:=by
 unfold cv at h;rw [gO] at h;have hd:d<n:=by
  rcases r4 d n with q|q
  ·exact q
  ·rw [AAo (by simpa using q)] at h;cases h
 rw [ABG hd] at h;exact (m3 h).symm
end
section
/-- a truth goes on from here -/
def abf (w:cw) (b:Nat) (p:aI×Int):Prop:= ∃ k,b+k≤w.n∧ ∃ q∈mB w k b p,oF w q.1=true
section
variable {w:cw}
/-- a beam is passed at a time, by a signal -/
def Pt (w:cw) (b:Nat) (s t:Int):Prop:= ∃ p∈sv w b,∃ o∈kW w b,o.1=s∧(max (p.2+cW w b) o.2.Lo≤t∧t≤min o.2.Hi w.hP)∧abf w (b+1) (dY p.1 (gU o.1),t)
theorem RB (hl:∀ b,0≤cW w b) (hb:b<w.n):(∃ q∈u_ w b,q.1=s∧q.2.Lo≤t∧t≤q.2.Hi)↔Pt w b s t:=by
 constructor
 ·rintro ⟨q,hq,hs,C,D⟩;obtain ⟨o,ho,p,hp,u,hu,e⟩:=kj.1 hq;obtain ⟨B,A,rfl⟩:=mw.1 e;simp only [mD] at C D B;have hn:u.2≤w.hP:=JC hl _ _ hu;obtain ⟨k,hk,q,hq',E⟩:=M5 hl (w.n-(b+1)) (b+1) (dY p.1 (gU o.1),t) u I (by simp only;omega) hu;refine ⟨p,hp,o,ho,hs,⟨I,I⟩,k,hk,q,hq',?_⟩;rw [E];unfold Cc at A;rw [show dY (dY p.1 (gU o.1)) u.1=dY (dY p.1 u.1) (gU o.1) by simp only [dY,aI.mk.injEq];omega];exact A
 ·rintro ⟨p,hp,o,ho,hs,⟨C,D⟩,k,hk,q,hq,hm⟩;obtain ⟨u,hu,B,A⟩:=SA k (b+1) _ q hk (by simp only;omega) hq;simp only at B A;refine ⟨(o.1,mD w b p u o),kj.2 ⟨o,ho,p,hp,u,hu,mw.2 ⟨by simp only [mD];omega,?_,U⟩⟩,hs,by simp only [mD];omega,by simp only [mD];omega⟩;unfold Cc;rw [A] at hm;rw [show dY (dY p.1 u.1) (gU o.1)=dY (dY p.1 (gU o.1)) u.1 by simp only [dY,aI.mk.injEq];omega];exact hm
end
section
variable {w w':cw} {n:Int} {f g:Int→Int}
end
section
variable {l l':bf} {r r':c_} {n:Int} {f g:Int→Int}
end
end
section
theorem Up (a b:Int) (ha:0≤a) (hb:0<b):0≤a % b∧a % b<b:=⟨Int.emod_nonneg _ (Int.ne_of_gt hb),Int.emod_lt_of_pos _ hb⟩
theorem o1 (ht:cD l.bQ=true) (h:nz l) {i:Nat} (hi:i<l.ai.length):1≤ew l i∧ew l i≤500000000:=by
 have A:=h.Um i hi;have B:=BY ht h.vJ i;have hf:=h.head.1;unfold ew qz;refine ⟨(Int.le_ediv_iff_mul_le I).2 I,?_⟩;have:(1000*mM l i+l.g7-1)/l.g7≤1000*mM l i+l.g7-1:=ACG _ I;omega
end
section
def dT (good:List Int):aI:=good.foldl (fun t g=>dY t (gU g)) ⟨0,0⟩
theorem qb {l:List Int} {g:Int}:dT (l++[g])=dY (dT l) (gU g):=by unfold dT;rw [List.foldl_append];rfl
section
variable {l:bf} {r:c_} {times good:List Int}
theorem t_ {α:Type} {l:List α} {x:α} (h:l[b]? =some x):l.take (b+1)=l.take b++[x]:=by rw [l1,h];rfl
end
end
section
def ik (hi:Int→Int) (least:Nat→Int) (now:Int):Nat→List Int→List Int×Int
 |_,[]=>([],now)
 |b,x::xs=>((if 0≤x then min (ik hi least now (b+1) xs).2 (hi x) else (ik hi least now (b+1) xs).2)::(ik hi least now (b+1) xs).1,(if 0≤x then min (ik hi least now (b+1) xs).2 (hi x) else (ik hi least now (b+1) xs).2)-least b)
def g5 (t:Int):List Int→Int
 |[]=>t
 |x::xs=>g5 x xs
def lG (w:cw):Nat→Int→List Int→List Int→Prop
 |_,_,[],[]=>True
 |b,t,x::rs,y::fs=>(∃ o∈kW w b,o.1=x∧max (t+cW w b) o.2.Lo≤min o.2.Hi w.hP∧y=max (t+cW w b) o.2.Lo)∧lG w (b+1) y rs fs
 |_,_,_,_=>False
section
variable {w:cw} {hi:Int→Int} {least:Nat→Int} {now:Int}
theorem tY: ∀ (b:Nat) (rs:List Int),(ik hi least now b rs).1.length=rs.length
 |_,[]=>rfl
 |b,x::xs=>by simp only [ik,y3];rw [tY]
theorem o2: ∀ (t:Int) (fs:List Int) (y:Int),g5 t (fs++[y])=y
 |_,[],_=>rfl
 |t,x::fs,y=>o2 x fs y
theorem FL: ∀ (t:Int) (fs:List Int) (y:Int),fs[fs.length-1]? =some y→g5 t fs=y
 |t,[],y,h=>by simp at h
 |t,[x],y,h=>by simpa [g5] using h
 |t,x::x2::fs,y,h=>by
  show g5 x (x2::fs)=y
  exact FL x (x2::fs) y (by simpa using h)
theorem wO: ∀ (b:Nat) (rs:List Int) (x:Int) (ss:List Int),(ik hi least now b (rs++x::ss)).1[rs.length]? =some (if 0≤x then min (ik hi least now (b+rs.length+1) ss).2 (hi x) else (ik hi least now (b+rs.length+1) ss).2)
 |b,[],x,ss=>by simp [ik]
 |b,z::rs,x,ss=>by
  have:=wO (b+1) rs x ss;simp only [AAX,ik,y3,List.getElem?_cons_succ];rw [this,show b+1+rs.length+1=b+(rs.length+1)+1 by omega]
theorem lK: ∀ (b:Nat) (t:Int) (rs fs:List Int),lG w b t rs fs→fs.length=rs.length
 |_,_,[],[],_=>rfl
 |b,t,x::rs,y::fs,h=>by simp [lK _ _ rs fs h.2]
 |_,_,[],_::_,h=>h.elim
 |_,_,_::_,[],h=>h.elim
theorem uo: ∀ (b:Nat) (t:Int) (rs fs ss gs:List Int),fs.length=rs.length→(lG w b t (rs++ss) (fs++gs)↔lG w b t rs fs∧lG w (b+rs.length) (g5 t fs) ss gs)
 |b,t,[],[],ss,gs,_=>by simp [lG,g5]
 |b,t,x::rs,y::fs,ss,gs,h=>by
  have ih:=uo (b+1) y rs fs ss gs (by simpa using h);simp only [AAX,lG,y3,g5];rw [ih,show b+1+rs.length=b+(rs.length+1) by omega,and_assoc]
 |_,_,[],_::_,_,_,h=>by simp at h
 |_,_,_::_,[],_,_,h=>by simp at h
theorem G_ (b:List Int): ∀ t:aI,b.foldl (fun t g=>dY t (gU g)) t=dY t (dT b):=by
 induction b with
 |nil=>intro t;exact (o3 t).symm
 |cons x b ih=>
  intro t;show b.foldl (fun t g=>dY t (gU g)) (dY t (gU x))=dY t (b.foldl (fun t g=>dY t (gU g)) (dY ⟨0,0⟩ (gU x)))
  rw [ih,ih];simp only [dY,aI.mk.injEq];omega
theorem uq (a b:List Int):dT (a++b)=dY (dT a) (dT b):=by
 show (a++b).foldl _ _=_
 rw [List.foldl_append,G_];rfl
theorem uf:dT []=(⟨0,0⟩:aI):=rfl
variable (x:Int) (l:List Int)
theorem si:dY (⟨0,0⟩:aI) (dT l)=dT l:=by simp [dY]
theorem vr:dT (x::l)=dY (gU x) (dT l):=by
 rw [show x::l=[x]++l from rfl,uq,show dT [x]=gU x from (qb (l:=[])).trans (by rw [uf];simp [dY])]
theorem wS: ∀ l:List Int,0≤(dT l).right∧0≤(dT l).fH∧(dT l).right+(dT l).fH=(l.length:Int)
 |[]=>by rw [uf];simp
 |x::l=>by
  rw [vr];have:=yj x;have:=wS l;simp only [dY,y3];omega
/-- chains are what the watch goes through -/
theorem lp: ∀ (k b:Nat) (p q:aI×Int),q∈mB w k b p↔ ∃ rs fs,rs.length=k∧lG w b p.2 rs fs∧q=(dY p.1 (dT rs),g5 p.2 fs):=by
 intro k
 induction k with
 |zero=>
  intro b p q;simp only [mB,bU];constructor
  ·rintro rfl;exact ⟨[],[],rfl,trivial,by rw [uf,o3];rfl⟩
  ·rintro ⟨rs,fs,A,B,rfl⟩;have A:=kq A;subst A;have:=kq (lK _ _ _ _ B);subst this;rw [uf,o3];rfl
 |succ k ih=>
  intro b p q;rw [qN];constructor
  ·rintro ⟨o,ho,p',e,h⟩;obtain ⟨A,rfl⟩:=uj.1 e;obtain ⟨rs,fs,B,C,rfl⟩:=(ih _ _ _).1 h;refine ⟨o.1::rs,max (p.2+cW w b) o.2.Lo::fs,by simp [B],⟨⟨o,ho,U,A,U⟩,C⟩,?_⟩;rw [vr];simp only [g5,dY,p4,aI.mk.injEq,ABC];omega
  ·rintro ⟨rs,fs,A,B,rfl⟩;cases rs with
   |nil=>simp at A
   |cons x rs=>
    cases fs with
    |nil=>exact B.elim
    |cons y fs=>
     obtain ⟨⟨o,ho,rfl,C,rfl⟩,D⟩:=B;refine ⟨o,ho,_,uj.2 ⟨C,U⟩,(ih _ _ _).2 ⟨rs,fs,by simpa using A,D,?_⟩⟩;rw [vr];simp only [g5,dY,p4,aI.mk.injEq,ABC];omega
/-- what the reference's rows of last times know -/
structure PJ (w:cw) (hi:Int→Int) (least:Nat→Int) (now:Int):Prop where
 low: ∀ b,0≤cW w b
 least: ∀ b,b<w.n→least b=cW w b
 now:now=w.hP
 hi: ∀ b o,b<w.n→o∈kW w b→0≤o.1→o.2.Hi=hi o.1
 none_: ∀ b o,b<w.n→o∈kW w b→ ¬ 0≤o.1→o.2.Hi=w.hP
theorem zP (h:PJ w hi least now): ∀ (b:Nat) (rs:List Int),b+rs.length≤w.n→(ik hi least now b rs).2≤w.hP
 |_,[],_=>by simp only [ik];exact Int.le_of_eq h.now
 |b,x::xs,hb=>by
  simp only [y3] at hb;have B:=zP h (b+1) xs I;have A:=h.low b;rw [← h.least b I] at A;simp only [ik];split<;>omega
theorem ui (h:PJ w hi least now): ∀ (b:Nat) (t:Int) (rs fs:List Int),b+rs.length≤w.n→t≤w.hP→lG w b t rs fs→t≤(ik hi least now b rs).2
 |_,t,[],[],_,ht,_=>by simp only [ik];rw [h.now];exact ht
 |b,t,x::rs,y::fs,hb,ht,hc=>by
  simp only [y3] at hb;obtain ⟨⟨o,ho,rfl,D,rfl⟩,A⟩:=hc;have B:=ui h (b+1) _ rs fs I I A;have C:=h.least b I;simp only [ik];split
  ·rename_i q;have:=h.hi b o I ho q;omega
  ·omega
 |_,_,[],_::_,_,_,hc=>hc.elim
 |_,_,_::_,[],_,_,hc=>hc.elim
theorem AY (h:PJ w hi least now): ∀ (b:Nat) (t t':Int) (rs fs:List Int),b+rs.length≤w.n→t≤t'→t'≤(ik hi least now b rs).2→lG w b t rs fs→ ∃ gs,lG w b t' rs gs
 |_,t,_,[],[],_,_,_,_=>⟨[],trivial⟩
 |b,t,t',x::rs,y::fs,hb,ht,he,hc=>by
  simp only [y3] at hb;obtain ⟨⟨o,ho,rfl,E,rfl⟩,A⟩:=hc;have C:=ui h (b+1) _ rs fs I I A;have D:=h.least b I;have F:=zP h (b+1) rs I;simp only [ik] at he;have B:max (t'+cW w b) o.2.Lo≤min o.2.Hi w.hP∧max (t'+cW w b) o.2.Lo≤(ik hi least now (b+1) rs).2:=by
   split at he
   ·rename_i q;have:=h.hi b o I ho q;omega
   ·rename_i q;have:=h.none_ b o I ho q;omega
  obtain ⟨gs,hg⟩:=AY h (b+1) _ (max (t'+cW w b) o.2.Lo) rs fs I I B.2 A;exact ⟨_::gs,⟨o,ho,U,B.1,U⟩,hg⟩
 |_,_,_,[],_::_,_,_,_,hc=>hc.elim
 |_,_,_,_::_,[],_,_,_,hc=>hc.elim
theorem Fz (b:Nat) (t t':Int) (rs fs:List Int) (ht:t'≤t) (hc:lG w b t rs fs): ∃ gs,lG w b t' rs gs:=by
 have A:(dY ⟨0,0⟩ (dT rs),g5 t fs)∈mB w rs.length b (⟨0,0⟩,t):=(lp _ _ _ _).2 ⟨rs,fs,rfl,hc,rfl⟩;clear A
 induction rs generalizing b t t' fs with
 |nil=>exact ⟨[],trivial⟩
 |cons x rs ih=>
  cases fs with
  |nil=>exact hc.elim
  |cons y fs=>
   obtain ⟨⟨o,ho,rfl,C,rfl⟩,B⟩:=hc;obtain ⟨gs,hg⟩:=ih (b+1) _ (max (t'+cW w b) o.2.Lo) fs I B;exact ⟨_::gs,⟨o,ho,U,I,U⟩,hg⟩
/-- a way, as it is asked for -/
structure Un (w:cw) (hi:Int→Int) (least:Nat→Int) (now:Int) (y:dK):Prop where
 chain:lG w 0 w.Start y.ic y.j2
 len:y.ic.length≤w.n
 last:y.oH=(ik hi least now 0 y.ic).1
 may:oF w (dT y.ic)=true
theorem EK:mR w (sv w k)=true↔ ∃ rs fs,rs.length=k∧lG w 0 w.Start rs fs∧oF w (dT rs)=true:=by
 unfold mR;rw [AAm];have e:=fun q=>(Cw (w:=w) k 0 q);rw [AAk] at e;constructor
 ·rintro ⟨q,hq,hm⟩;obtain ⟨p,hp,h⟩:=(e q).1 hq;simp only [sv,bU] at hp;subst hp;obtain ⟨rs,fs,A,B,rfl⟩:=(lp _ _ _ _).1 h;refine ⟨rs,fs,A,B,?_⟩
  rwa [si] at hm
 ·rintro ⟨rs,fs,A,B,C⟩;refine ⟨_,(e _).2 ⟨((⟨0,0⟩:aI),w.Start),bU.2 U,(lp _ _ _ _).2 ⟨rs,fs,A,B,U⟩⟩,?_⟩;simp only [si];exact C
theorem Oe (h:PJ w hi least now) (hs:w.Start≤w.hP) (hb:b<w.n):Pt w b s t↔ ∃ y,Un w hi least now y∧ ∃ f e,y.ic[b]? =some s∧y.j2[b]? =some f∧y.oH[b]? =some e∧f≤t∧t≤e:=by
 have ef:=fun q=>(Cw (w:=w) b 0 q);rw [AAk] at ef;constructor
 ·rintro ⟨p,hp,o,ho,rfl,⟨C,L⟩,k,hk,q,hq,hm⟩;obtain ⟨Y,AB,hp⟩:=(ef p).1 hp;simp only [sv,bU] at AB;subst AB;obtain ⟨rs,fs,K,D,rfl⟩:=(lp _ _ _ _).1 hp;obtain ⟨ss,gs,AA,E,rfl⟩:=(lp _ _ _ _).1 hq;simp only at C L D E hm;obtain ⟨gs',J⟩:=Fz (b+1) t (max (g5 w.Start fs+cW w b) o.2.Lo) ss gs C E;have H:=lK _ _ _ _ D;have T:=lK _ _ _ _ J;have hc:lG w 0 w.Start (rs++o.1::ss) (fs++max (g5 w.Start fs+cW w b) o.2.Lo::gs'):=(uo _ _ _ _ _ _ H).2 ⟨D,by rw [AAk,K];exact ⟨⟨o,ho,rfl,I,rfl⟩,J⟩⟩;have he:=ui h (b+1) t ss gs I I E;have A:=wO (hi:=hi) (least:=least) (now:=now) 0 rs o.1 ss;rw [AAk,K] at A;refine ⟨⟨rs++o.1::ss,fs++max (g5 w.Start fs+cW w b) o.2.Lo::gs',(ik hi least now 0 (rs++o.1::ss)).1⟩,⟨hc,by simp;omega,U,?_⟩,max (g5 w.Start fs+cW w b) o.2.Lo,_,?_,?_,A,C,?_⟩
  ·show oF w (dT (rs++o.1::ss))=true
   rw [show rs++o.1::ss=(rs++[o.1])++ss by simp,uq,qb]
   rwa [si] at hm
  ·show (rs++o.1::ss)[b]? =some o.1
   rw [k_ I,K,AAw];rfl
  ·show (fs++_::gs')[b]? =_
   rw [k_ I,H,K,AAw];rfl
  ·split
   ·rename_i q;have:=h.hi b o hb ho q;omega
   ·exact he
 ·rintro ⟨y,hy,f,e,C,L,P,Q,V⟩;obtain ⟨R,F,La⟩:=y;obtain ⟨hc,hn,A,hm⟩:=hy;simp only at C L P hc hn A hm;have N:=(aT.1 C).1;have S:=lK _ _ _ _ hc;have eR:R=R.take b++s::R.drop (b+1):=by rw [← (aT.1 C).2];exact (ABA b R).symm.trans (by rw [u1 N])
  have M:b<F.length:=by omega
  have eF:F=F.take b++f::F.drop (b+1):=by rw [← (aT.1 L).2];exact (ABA b F).symm.trans (by rw [u1 M])
  rw [eR,eF,uo _ _ _ _ _ _ (by simp only [k5];omega)] at hc;have O:(R.take b).length=b:=by rw [k5];omega
  rw [O,AAk] at hc;obtain ⟨D,⟨o,ho,rfl,W,rfl⟩,E⟩:=hc;have B:=wO (hi:=hi) (least:=least) (now:=now) 0 (R.take b) o.1 (R.drop (b+1));rw [← eR,O,AAk,← A,P] at B;have B:=m3 B;have G:t≤(ik hi least now (b+1) (R.drop (b+1))).2∧t≤min o.2.Hi w.hP:=by
   have X:=zP h (b+1) (R.drop (b+1)) (by rw [AA9];omega);split at B
   ·rename_i q;have:=h.hi b o hb ho q;omega
   ·rename_i q;have:=h.none_ b o hb ho q;omega
  obtain ⟨gs,J⟩:=AY h (b+1) _ t (R.drop (b+1)) (F.drop (b+1)) (by rw [AA9];omega) Q G.1 E;refine ⟨(dY ⟨0,0⟩ (dT (R.take b)),g5 w.Start (F.take b)),(ef _).2 ⟨((⟨0,0⟩:aI),w.Start),bU.2 U,(lp _ _ _ _).2 ⟨_,_,O,D,U⟩⟩,o,ho,U,⟨Q,G.2⟩,(R.drop (b+1)).length,by rw [AA9];omega,_,(lp _ _ _ _).2 ⟨_,gs,U,J,U⟩,?_⟩;show oF w (dY (dY (dY ⟨0,0⟩ (dT (R.take b))) (gU o.1)) (dT (R.drop (b+1))))=true
  rw [si,← qb,← uq,show R.take b++[o.1]++R.drop (b+1)=R from by rw [append_assoc];exact eR.symm];exact hm
end
noncomputable def QW (l:bf) (r:c_) (x:Int):Int:=match r.ab[x.toNat]? with
 |some s=>(dw l s).Hi
 |none=>0
theorem GY {s:aR} (h:r.ab[x.toNat]? =some s):QW l r x=(dw l s).Hi:=by unfold QW;rw [h]
noncomputable def kv (l:bf) (r:c_) (rs:List Int):List Int:=(ik (QW l r) (ew l) r.hP 0 rs).1
noncomputable def qI (l:bf) (r:c_) (n:Nat) (t i:Int):Option Int:=
 if i<0 then (if t≤r.hP then some t else none) else match r.ab[i.toNat]? with
  |some s=>if (s.fR=(n:Int)∧(dw l s).Lo≤(dw l s).Hi)∧max t (dw l s).Lo≤min r.hP (dw l s).Hi then some (max t (dw l s).Lo) else none
  |none=>none
noncomputable def iG (l:bf) (r:c_) (rs fs:List Int):List dK:=if (r.ab.length:Int)-(dT rs).right≤l.eZ then [⟨rs,fs,kv l r rs⟩] else []
noncomputable def jh (l:bf) (r:c_):Nat→List Int→List Int→List dK
 |0,rs,fs=>if l.dp<(dT rs).fH then [] else iG l r rs fs
 |k+1,rs,fs=>if l.dp<(dT rs).fH then [] else iG l r rs fs++(range (r.ab.length+1)).flatMap fun (j:Nat)=>match qI l r rs.length (g5 r.Start fs+ew l rs.length) ((j:Int)-1) with
  |some t=>jh l r k (rs++[(j:Int)-1]) (fs++[t])
  |none=>[]
noncomputable def HJ (l:bf) (r:c_) (k:Nat) (rs fs:List Int) (j:Nat):List dK:=iG l r rs fs++(range j).flatMap fun (j:Nat)=>match qI l r rs.length (g5 r.Start fs+ew l rs.length) ((j:Int)-1) with
 |some t=>jh l r k (rs++[(j:Int)-1]) (fs++[t])
 |none=>[]
noncomputable def jn (l:bf) (r:c_) (k:Nat) (rs fs:List Int) (j:Nat):List dK:=(range j).flatMap fun (j:Nat)=>match qI l r rs.length (g5 r.Start fs+ew l rs.length) ((j:Int)-1) with
 |some t=>jh l r k (rs++[(j:Int)-1]) (fs++[t])
 |none=>[]
section
variable {l:bf} {r:c_} {k j:Nat} {rs fs:List Int} {t:Int}
theorem uz:HJ l r k rs fs j=iG l r rs fs++jn l r k rs fs j:=rfl
theorem o0 (h:qI l r rs.length (g5 r.Start fs+ew l rs.length) ((j:Int)-1)=some t):jn l r k rs fs (j+1)=jn l r k rs fs j++jh l r k (rs++[(j:Int)-1]) (fs++[t]):=by
 unfold jn;rw [AAV,List.flatMap_append];simp [h]
theorem tJ (h:qI l r rs.length (g5 r.Start fs+ew l rs.length) ((j:Int)-1)=none):jn l r k rs fs (j+1)=jn l r k rs fs j:=by
 unfold jn;rw [AAV,List.flatMap_append];simp [h]
theorem pH (h:l.dp<(dT rs).fH):jh l r k rs fs=[]:=by cases k<;>exact c0 h
theorem pt (h: ¬ l.dp<(dT rs).fH):jh l r 0 rs fs=iG l r rs fs:=c1 h
theorem pD (h: ¬ l.dp<(dT rs).fH):jh l r (k+1) rs fs=HJ l r k rs fs (r.ab.length+1):=c1 h
theorem Fg {n:Nat} (hn:n<l.ai.length) (hl:0≤ew l n) (ht:r.Start≤t) {y:Int} (hi:-1≤i):qI l r n (t+ew l n) i=some y↔ ∃ o∈kW (dW l r) n,o.1=i∧max (t+cW (dW l r) n) o.2.Lo≤min o.2.Hi (dW l r).hP∧y=max (t+cW (dW l r) n) o.2.Lo:=by
 rw [ry hn];have hw:(dW l r).hP=r.hP:=rfl;unfold qI;constructor
 ·intro h;split at h
  ·rename_i B;split at h
   ·cases h;exact ⟨(-1,⟨r.Start,r.hP⟩),(yf hn).2 (.inl U),by simp only;omega,by simp only;omega,by simp only;omega⟩
   ·cases h
  ·rename_i B;split at h
   ·rename_i s hs;split at h
    ·rename_i q;cases h;exact ⟨((i.toNat:Nat),dw l s),(yf hn).2 (.inr ⟨i.toNat,(aT.1 hs).1,s,hs,q.1,U⟩),by simp only;omega,by simp only;omega,U⟩
    ·cases h
   ·cases h
 ·rintro ⟨o,ho,rfl,A,rfl⟩;rcases (yf hn).1 ho with rfl|⟨k,hk,s,hs,q,rfl⟩
  ·simp only at A ⊢;rw [c0 I,c0 I];congr 1;omega
  ·simp only at A ⊢;rw [c1 I,AAP,hs];simp only;rw [c0 ⟨q,I⟩]
theorem PY (hl: ∀ n,n<l.ai.length→0≤ew l n): ∀ (k:Nat) (rs fs:List Int) (y:dK),rs.length+k=l.ai.length→fs.length=rs.length→r.Start≤g5 r.Start fs→
 (y∈jh l r k rs fs↔ ∃ ss gs,lG (dW l r) rs.length (g5 r.Start fs) ss gs∧ss.length≤k∧y=⟨rs++ss,fs++gs,kv l r (rs++ss)⟩∧oF (dW l r) (dT (rs++ss))=true):=by
 have D: ∀ (rs fs:List Int) (y:dK),¬ l.dp<(dT rs).fH→(y∈iG l r rs fs↔y=⟨rs++[],fs++[],kv l r (rs++[])⟩∧oF (dW l r) (dT (rs++[]))=true):=by
  intro rs fs y hm;unfold iG;rw [AAJ,AAJ];have e:oF (dW l r) (dT rs)=true↔(r.ab.length:Int)-(dT rs).right≤l.eZ:=by
   unfold oF;rw [r0];exact ⟨fun q=>q.2,fun q=>⟨by have:(dW l r).dp=l.dp:=rfl;omega,q⟩⟩
  split
  ·rename_i q;rw [bU];exact ⟨fun h=>⟨h,e.2 q⟩,fun h=>h.1⟩
  ·rename_i q;exact ⟨fun h=>(by cases h),fun h=>absurd (e.1 h.2) q⟩
 have miss: ∀ (rs ss:List Int),l.dp<(dT rs).fH→ ¬ oF (dW l r) (dT (rs++ss))=true:=by
  intro rs ss h q;unfold oF at q;have:=(s6 q).1;rw [uq] at this;have C:=wS ss;simp only [dY] at this;have:(dW l r).dp=l.dp:=rfl;omega
 intro k
 induction k with
 |zero=>
  intro rs fs y hn hf hs;by_cases hm:l.dp<(dT rs).fH
  ·rw [pH hm];exact ⟨fun h=>(by cases h),fun ⟨ss,gs,_,_,_,q⟩=>absurd q (miss rs ss hm)⟩
  ·rw [pt hm,D _ _ _ hm];constructor
   ·rintro ⟨B,C⟩;exact ⟨[],[],trivial,sm,B,C⟩
   ·rintro ⟨ss,gs,B,C,E,F⟩;have e:=kq (Nat.le_zero.1 C);subst e;have e:=kq (lK _ _ _ _ B);subst e;exact ⟨E,F⟩
 |succ k ih=>
  intro rs fs y hn hf hs;by_cases hm:l.dp<(dT rs).fH
  ·rw [pH hm];exact ⟨fun h=>(by cases h),fun ⟨ss,gs,_,_,_,q⟩=>absurd q (miss rs ss hm)⟩
  ·rw [pD hm];unfold HJ;rw [dZ,D _ _ _ hm,AAx];have A: ∀ (x y:Int),(rs++[x]).length+k=l.ai.length∧(fs++[y]).length=(rs++[x]).length:=fun x y=>by simp;omega
   constructor
   ·rintro (⟨B,C⟩|⟨j,hj,h⟩)
    ·exact ⟨[],[],trivial,sm,B,C⟩
    ·cases e:qI l r rs.length (g5 r.Start fs+ew l rs.length) ((j:Int)-1) with
     |none=>rw [e] at h;cases h
     |some t=>
      rw [e] at h;simp only at h;obtain ⟨o,ho,B,C,E⟩:=(Fg I (hl _ I) hs I).1 e;have G:r.Start≤t:=by
       have:=hl rs.length I;rw [ry I] at E;omega
      obtain ⟨ss,gs,F,J,H,AA⟩:=(ih _ _ y (A _ t).1 (A _ t).2 (by rw [o2];exact G)).1 h;rw [o2,e4] at F;refine ⟨((j:Int)-1)::ss,t::gs,⟨⟨o,ho,B,C,E⟩,F⟩,by simp;omega,by simpa using H,by simpa using AA⟩
   ·rintro ⟨ss,gs,B,C,E,F⟩;cases ss with
    |nil=>
     have e:=kq (lK _ _ _ _ B);subst e;exact .inl ⟨E,F⟩
    |cons x ss=>
     cases gs with
     |nil=>exact B.elim
     |cons t gs=>
      obtain ⟨⟨o,ho,rfl,J,H⟩,AA⟩:=B;right;have hx: -1≤o.1∧o.1<(r.ab.length:Int):=by
       rcases (yf I).1 ho with rfl|⟨k,hk,s,hs,q,rfl⟩
       ·simp only;omega
       ·simp only;omega
      have G:r.Start≤t:=by
       have:=hl rs.length I;rw [ry I] at H;omega
      have K:((o.1+1).toNat:Int)-1=o.1:=by omega
      refine ⟨(o.1+1).toNat,AAd.2 I,?_⟩;rw [K,(Fg I (hl _ I) hs I).2 ⟨o,ho,rfl,J,H⟩];simp only;refine (ih _ _ y (A _ t).1 (A _ t).2 (by rw [o2];exact G)).2 ⟨ss,gs,?_,?_,?_,?_⟩
      ·rw [o2,e4];exact AA
      ·simp only [y3] at C;omega
      ·simpa using E
      ·simpa using F
end
theorem CI (h:(r.ab.length:Int)-(dT rs).right≤l.eZ):iG l r rs fs=[⟨rs,fs,kv l r rs⟩]:=c0 h
theorem Bf (h:¬ (r.ab.length:Int)-(dT rs).right≤l.eZ):iG l r rs fs=[]:=c1 h
noncomputable def fp (l:bf) (r:c_) (i:Nat):List aa:=(r.ab.take i).map (dw l)
noncomputable def fQ (l:bf) (r:c_) (i:Nat):List Bool:=(r.ab.take i).map fun s=>decide ((dw l s).Lo≤(dw l s).Hi)
section
variable {l:bf} {r:c_} {i n:Nat} {s:aR} {rs:List Int}
theorem HD (h:r.ab[i]? =some s):fp l r (i+1)=fp l r i++[dw l s]:=by unfold fp;rw [l1,h,AAF];rfl
theorem HM (h:r.ab[i]? =some s):fQ l r (i+1)=fQ l r i++[decide ((dw l s).Lo≤(dw l s).Hi)]:=by unfold fQ;rw [l1,h,AAF];rfl
theorem ua (h:i≤r.ab.length):(fp l r i).length=i:=by unfold fp;rw [c3,k5];omega
theorem xY (h:i≤r.ab.length):(fQ l r i).length=i:=by unfold fQ;rw [c3,k5];omega
theorem PF (hs:r.ab[k]? =some s) (hz:(fp l r r.ab.length)[k]? =some z):z=dw l s:=by
 unfold fp at hz;rw [AA8,gO,hs] at hz;exact (m3 hz).symm
theorem NY (hz:(fp l r r.ab.length)[k]? =some z): ∃ s,r.ab[k]? =some s∧z=dw l s:=by
 unfold fp at hz;rw [AA8,gO] at hz;cases h:r.ab[k]? with
 |none=>rw [h] at hz;cases hz
 |some s=>rw [h] at hz;exact ⟨s,rfl,(m3 hz).symm⟩
theorem FY {z:Bool} (hs:r.ab[k]? =some s) (hz:(fQ l r r.ab.length)[k]? =some z):z=true↔(dw l s).Lo≤(dw l s).Hi:=by
 unfold fQ at hz;rw [AA8,gO,hs] at hz;rw [← m3 hz];exact ACX
theorem zz (l:bf) (s:aR):(0≤(dw l s).Lo∧(dw l s).Lo≤86400001)∧ -1≤(dw l s).Hi∧(dw l s).Hi≤86400000:=by
 have A:=jG (p:=iT (sw l s) s.Read) (n:=86400001);have B:=jG (p:=iS (sw l s) s.Read) (n:=86400001);unfold dw ET;simp only;omega
/-- the last times from a beam on -/
noncomputable def k6 (l:bf) (r:c_) (rs:List Int) (j:Nat):List Int×Int:=ik (QW l r) (ew l) r.hP j (rs.drop j)
noncomputable def kY (l:bf) (r:c_) (rs:List Int) (j:Nat):List Int:=replicate j 0++(k6 l r rs j).1
noncomputable def wq (l:bf) (r:c_) (rs:List Int) (j:Nat) (x:Int):Int:=if 0≤x then min (k6 l r rs j).2 (QW l r x) else (k6 l r rs j).2
theorem yc:k6 l r rs rs.length=([],r.hP):=by unfold k6;rw [List.drop_length];rfl
theorem KC:kY l r rs rs.length=replicate rs.length 0:=by unfold kY;rw [yc];simp
theorem Hx:kY l r rs 0=kv l r rs:=by unfold kY k6 kv;simp
theorem se (hj:0<j) (hx:rs[j-1]? =some x):k6 l r rs (j-1)=(wq l r rs j x::(k6 l r rs j).1,wq l r rs j x-ew l (j-1)):=by
 unfold k6 wq;have hb:=(aT.1 hx).1;rw [u1 hb,(aT.1 hx).2,show j-1+1=j by omega];simp only [ik];rw [show j-1+1=j by omega];rfl
theorem Ks (h:j≤rs.length):(kY l r rs j).length=rs.length:=by unfold kY k6;rw [e4,ABR,tY,AA9];omega
theorem CO (hj:0<j) (hx:rs[j-1]? =some x):(kY l r rs j).set (j-1) (wq l r rs j x)=kY l r rs (j-1):=by
 unfold kY;rw [se hj hx];simp only;obtain ⟨k,rfl⟩: ∃ k,j=k+1:=⟨j-1,I⟩;rw [AA_,ABx,append_assoc,AAu _ _ sm,ABR,AAw];rfl
theorem Ih (hr:0≤r.hP∧r.hP≤86400000) (hl: ∀ b,b<rs.length→0≤ew l b∧ew l b≤500000000) (hrs: ∀ x∈rs,0≤x→x<(r.ab.length:Int)): ∀ (d j:Nat),j+d=rs.length→(-1-500000000*(d:Int))≤(k6 l r rs j).2∧(k6 l r rs j).2≤86400000
 |0,j,h=>by
  obtain rfl:j=rs.length:=by omega
  rw [yc];simp only;omega
 |d+1,j,h=>by
  have ih:=Ih hr hl hrs d (j+1) I;have hx:rs[j+1-1]? =some (rs[j]'I):=by rw [AA_];exact fh _
  have e:=se (l:=l) (r:=r) (j:=j+1) I hx;rw [AA_] at e;rw [e];simp only;have A:=hl j I;unfold wq;split
  ·rename_i q;have B:=hrs _ (u4 (by omega:j<rs.length)) q;obtain ⟨s,hs⟩: ∃ s,r.ab[(rs[j]'I).toNat]? =some s:=⟨r.ab[(rs[j]'I).toNat]'I,fh _⟩;rw [GY hs];have C:=zz l s;omega
  ·omega
theorem Qi {i:Int} (hi:i<0):(t≤r.hP→qI l r n t i=some t)∧(¬ t≤r.hP→qI l r n t i=none):=by
 unfold qI;rw [c0 hi];exact ⟨fun h=>c0 h,fun h=>c1 h⟩
theorem MT {i:Int} (hi:¬ i<0) (hs:r.ab[i.toNat]? =some s) (hb:s.fR=(n:Int)) (hw:(dw l s).Lo≤(dw l s).Hi):(max t (dw l s).Lo≤min r.hP (dw l s).Hi→qI l r n t i=some (max t (dw l s).Lo))∧(¬ max t (dw l s).Lo≤min r.hP (dw l s).Hi→qI l r n t i=none):=by
 unfold qI;rw [c1 hi,hs];exact ⟨fun h=>c0 ⟨⟨hb,hw⟩,h⟩,fun h=>c1 fun q=>h q.2⟩
theorem Aq {i:Int} (hi:¬ i<0) (hs:r.ab[i.toNat]? =some s) (hb:¬ (s.fR=(n:Int)∧(dw l s).Lo≤(dw l s).Hi)):qI l r n t i=none:=by
 unfold qI;rw [c1 hi,hs];exact c1 fun q=>hb q.1
theorem wF (hx:rs[i]? =some x):(dT (rs.take (i+1))).right=(dT (rs.take i)).right+(if 0≤x then 1 else 0):=by
 rw [t_ hx,qb];unfold gU;simp only [dY];by_cases h:x<0
 ·rw [c0 h,c1 I]
 ·rw [c1 h,c0 I]
end
theorem Ai:(iG l r rs fs).length≤1:=by unfold iG;split<;>simp
theorem z_ {l:bf} {r:c_} (hr:r.ab.length≤10): ∀ (k:Nat) (rs fs:List Int),(jh l r k rs fs).length≤12^(k+1)
 |0,rs,fs=>by
  unfold jh;split
  ·simp
  ·have:=Ai (l:=l) (r:=r) (rs:=rs) (fs:=fs);omega
 |k+1,rs,fs=>by
  unfold jh;split
  ·simp
  ·rw [e4];have B:=Ai (l:=l) (r:=r) (rs:=rs) (fs:=fs);have A: ∀ j,(jn l r k rs fs j).length≤j*12^(k+1):=by
    intro j
    induction j with
    |zero=>simp [jn]
    |succ j ih=>
     cases e:qI l r rs.length (g5 r.Start fs+ew l rs.length) ((j:Int)-1) with
     |none=>rw [tJ e,AAZ];exact c6 ih (Nat.le_add_right _ _)
     |some t=>rw [o0 e,e4,AAZ];exact Nat.add_le_add ih (z_ hr k (rs++[(j:Int)-1]) (fs++[t]))
   have C:=A (r.ab.length+1);have D:(r.ab.length+1)*12^(k+1)≤11*12^(k+1):=ABw _ I;have E:0<12^(k+1):=Nat.pow_pos dc;have F:12^(k+1+1)=12*12^(k+1):=by rw [Nat.pow_succ,Nat.mul_comm]
   show (iG l r rs fs).length+(jn l r k rs fs (r.ab.length+1)).length≤_
   omega
theorem Qc (hr:r.ab.length≤10) (hk:k≤5) (hj:j≤11):(jn l r k rs fs j).length≤40000000:=by
 have A: ∀ j,(jn l r k rs fs j).length≤j*12^(k+1):=by
  intro j
  induction j with
  |zero=>simp [jn]
  |succ j ih=>
   cases e:qI l r rs.length (g5 r.Start fs+ew l rs.length) ((j:Int)-1) with
   |none=>rw [tJ e,AAZ];exact c6 ih (Nat.le_add_right _ _)
   |some t=>rw [o0 e,e4,AAZ];exact Nat.add_le_add ih (z_ hr k (rs++[(j:Int)-1]) (fs++[t]))
 have C:=A j;have B:12^(k+1)≤12^6:=Nat.pow_le_pow_right dc I;have D:j*12^(k+1)≤11*12^6:=Nat.mul_le_mul hj B;omega
theorem x9 (hr:r.ab.length≤10) (hk:k≤6):(jh l r k rs fs).length≤40000000:=by
 have A:=z_ hr k rs fs (l:=l);have B:12^(k+1)≤12^7:=Nat.pow_le_pow_right dc I;omega
noncomputable def sL (l:bf) (r:c_):List dK:=jh l r l.ai.length [] []
section
variable {l:bf} {r:c_}
theorem n7:(dW l r).n=l.ai.length:=dH
theorem TG (hle:dU l=0) (hr:gp l r):PJ (dW l r) (QW l r) (ew l) r.hP:=by
 obtain ⟨ht,B⟩:=er hle;refine ⟨fun b=>((n_ ht B hr).cW b).1,fun b hb=>(ry (by rw [n7] at hb;exact hb)).symm,U,fun b o hb ho A=>?_,fun b o hb ho A=>?_⟩
 ·rw [n7] at hb;rcases (yf hb).1 ho with rfl|⟨k,hk,s,hs,q,rfl⟩
  ·simp only at A;omega
  ·exact (GY (by simpa using hs)).symm
 ·rw [n7] at hb;rcases (yf hb).1 ho with rfl|⟨k,hk,s,hs,q,rfl⟩
  ·rfl
  ·simp only at A;omega
theorem sh (hle:dU l=0) (hr:gp l r):y∈sL l r↔Un (dW l r) (QW l r) (ew l) r.hP y:=by
 obtain ⟨ht,D⟩:=er hle;have hl: ∀ n,n<l.ai.length→0≤ew l n:=fun n hn=>by have:=o1 ht D (i:=n) hn;omega
 unfold sL;rw [PY hl _ _ _ _ sm rfl (wt _)];constructor
 ·rintro ⟨ss,gs,B,A,rfl,C⟩;exact ⟨B,by rw [n7];exact A,U,C⟩
 ·rintro ⟨B,A,E,C⟩;rw [n7] at A;exact ⟨y.ic,y.j2,B,A,by rw [AAp,AAp];unfold kv;rw [← E],C⟩
theorem O6 (hle:dU l=0) (hr:gp l r) (hk:k≤l.ai.length):((sL l r).any fun y=>decide (y.ic.length=k))=mR (dW l r) (sv (dW l r) k):=by
 rw [AAB,EK,AAm];constructor
 ·rintro ⟨y,hy,e⟩;have h:=(sh hle hr).1 hy;exact ⟨y.ic,y.j2,s6 e,h.chain,h.may⟩
 ·rintro ⟨rs,fs,e,A,B⟩;exact ⟨⟨rs,fs,(ik (QW l r) (ew l) r.hP 0 rs).1⟩,(sh hle hr).2 ⟨A,by rw [n7];simp only;omega,U,B⟩,cR e⟩
theorem eY (hle:dU l=0) (hr:gp l r):sL l r=[]↔n8 (dW l r)=[]:=by
 constructor
 ·intro h;apply AAW.2;intro x hx;obtain ⟨k,rfl,hk,hm⟩:=Fq.1 hx;rw [n7] at hk;rw [← O6 hle hr hk,h] at hm;cases hm
 ·intro h;apply AAW.2;intro y hy;have hw:=(sh hle hr).1 hy;have:(y.ic.length:Int)∈n8 (dW l r):=Fq.2 ⟨y.ic.length,rfl,hw.len,EK.2 ⟨_,_,rfl,hw.chain,hw.may⟩⟩;rw [h] at this;cases this
/-- the times at a beam, by all ways -/
def jS (b:Nat) (ws:List dK):List (Int×aa):=ws.filterMap fun y=>match y.ic[b]?,y.j2[b]?,y.oH[b]? with
 |some s,some f,some e=>some (s,⟨f,e⟩)
 |_,_,_=>none
theorem pC:q∈jS b ws↔ ∃ y∈ws,y.ic[b]? =some q.1∧y.j2[b]? =some q.2.Lo∧y.oH[b]? =some q.2.Hi:=by
 unfold jS;rw [AAD];constructor
 ·rintro ⟨y,hy,h⟩;cases e1:y.ic[b]? with
  |none=>rw [e1] at h;cases h
  |some s=>
   cases e2:y.j2[b]? with
   |none=>rw [e1,e2] at h;cases h
   |some f=>
    cases e3:y.oH[b]? with
    |none=>rw [e1,e2,e3] at h;cases h
    |some e=>
     rw [e1,e2,e3] at h;cases h;exact ⟨y,hy,e1,e2,e3⟩
 ·rintro ⟨y,hy,A,B,C⟩;exact ⟨y,hy,by rw [A,B,C]⟩
theorem Bk (h:y.ic.length≤b):jS b (ws++[y])=jS b ws:=by
 unfold jS;rw [AAh];simp [AAo h]
theorem sE (h1:y.ic[b]? =some s) (h2:y.j2[b]? =some f) (h3:y.oH[b]? =some e):jS b (ws++[y])=jS b ws++[(s,⟨f,e⟩)]:=by
 unfold jS;rw [AAh];simp [h1,h2,h3]
theorem Qf (hle:dU l=0) (hr:gp l r) (hy:y∈sL l r):y.j2.length=y.ic.length∧y.oH.length=y.ic.length∧y.ic.length≤l.ai.length:=by
 have h:=(sh hle hr).1 hy;exact ⟨lK _ _ _ _ h.chain,by rw [h.last,tY],by have:=h.len;rwa [n7] at this⟩
theorem wD (hle:dU l=0) (hr:gp l r) (hb:b<l.ai.length):(∃ q∈u_ (dW l r) b,q.1=s∧q.2.Lo≤t∧t≤q.2.Hi)↔ ∃ q∈jS b (sL l r),q.1=s∧q.2.Lo≤t∧t≤q.2.Hi:=by
 have hh:=TG hle hr;rw [RB hh.low (by rw [n7];exact hb),Oe hh hr.time.2.1 (by rw [n7];exact hb)];constructor
 ·rintro ⟨y,hy,f,e,A,B,C,D,E⟩;exact ⟨(s,⟨f,e⟩),pC.2 ⟨y,(sh hle hr).2 hy,A,B,C⟩,U,D,E⟩
 ·rintro ⟨q,hq,rfl,D,E⟩;obtain ⟨y,hy,A,B,C⟩:=pC.1 hq;exact ⟨y,(sh hle hr).1 hy,_,_,A,B,C,D,E⟩
/-- a way's span is none that is empty -/
theorem AT (hle:dU l=0) (hr:gp l r) (hq:q∈jS b (sL l r)):q.2.Lo≤q.2.Hi:=by
 have hh:=TG hle hr;obtain ⟨y,hy,C,D,H⟩:=pC.1 hq;obtain ⟨hc,hn,B,hm⟩:=(sh hle hr).1 hy;obtain ⟨R,F,La⟩:=y;simp only at C D H hc hn B;have G:=(aT.1 C).1;have E:=(aT.1 D).1;have L:=lK _ _ _ _ hc;have eR:R=R.take b++q.1::R.drop (b+1):=by rw [← (aT.1 C).2];exact (ABA b R).symm.trans (by rw [u1 G])
 have eF:F=F.take b++q.2.Lo::F.drop (b+1):=by rw [← (aT.1 D).2];exact (ABA b F).symm.trans (by rw [u1 E])
 rw [eR,eF,uo _ _ _ _ _ _ (by simp only [k5];omega)] at hc;have AA:(R.take b).length=b:=by rw [k5];omega
 rw [AA,AAk] at hc;obtain ⟨M,⟨o,ho,K,N,O⟩,J⟩:=hc;have A:=wO (hi:=QW l r) (least:=ew l) (now:=r.hP) 0 (R.take b) q.1 (R.drop (b+1));rw [← eR,AA,AAk,← B,H] at A;have A:=m3 A;have he:=ui hh (b+1) q.2.Lo (R.drop (b+1)) (F.drop (b+1)) (by rw [AA9];omega) I J;rw [← K] at A;split at A
 ·rename_i z;have:=hh.hi b o I ho z;omega
 ·omega
theorem Gc {a b:List (Int×aa)} {k:aa} (ha:lT a h) (hb:lT b k) (hab:∀ x∈b,(∃ y∈a,y.2.Lo≤x.2.Lo)∧ ∃ y∈a,x.2.Hi≤y.2.Hi) (hba:∀ x∈a,(∃ y∈b,y.2.Lo≤x.2.Lo)∧ ∃ y∈b,x.2.Hi≤y.2.Hi):h=k:=by
 rcases ha with ⟨rfl,rfl⟩|ha
 ·rcases hb with ⟨rfl,rfl⟩|hb
  ·rfl
  ·obtain ⟨x,hx,_⟩:=hb.lo;obtain ⟨⟨y,hy,_⟩,_⟩:=hab x hx;cases hy
 ·rcases hb with ⟨rfl,rfl⟩|hb
  ·obtain ⟨x,hx,_⟩:=ha.lo;obtain ⟨⟨y,hy,_⟩,_⟩:=hba x hx;cases hy
  ·obtain ⟨M,E,AA⟩:=ha.lo;obtain ⟨N,F,V⟩:=ha.hi;obtain ⟨O,G,W⟩:=hb.lo;obtain ⟨P,H,X⟩:=hb.hi;obtain ⟨⟨AB,A,Y⟩,_⟩:=hba M E;obtain ⟨_,J,B,Z⟩:=hba N F;obtain ⟨⟨K,C,c⟩,_⟩:=hab O G;obtain ⟨_,L,D,d⟩:=hab P H;have Q:=hb.all AB A;have R:=hb.all J B;have S:=ha.all K C;have T:=ha.all L D;apply aa.ext
   ·omega
   ·omega
theorem Ng (hle:dU l=0) (hr:gp l r) (hb:b<l.ai.length) (hh:lT (jS b (sL l r)) h):h=pb l r b:=by
 have hk:=x8 (l:=u_ (dW l r) b) (fun q hq=>qi hq);refine Gc hh hk (fun x hx=>?_) (fun x hx=>?_)
 ·have hle':=qi hx;obtain ⟨y,hy,_,A,C⟩:=(wD hle hr hb (s:=x.1) (t:=x.2.Lo)).1 ⟨x,hx,rfl,wt _,hle'⟩;obtain ⟨z,hz,_,D,B⟩:=(wD hle hr hb (s:=x.1) (t:=x.2.Hi)).1 ⟨x,hx,rfl,hle',wt _⟩;exact ⟨⟨y,hy,A⟩,z,hz,B⟩
 ·have hle':=AT hle hr hx;obtain ⟨y,hy,_,A,C⟩:=(wD hle hr hb (s:=x.1) (t:=x.2.Lo)).2 ⟨x,hx,rfl,wt _,hle'⟩;obtain ⟨z,hz,_,D,B⟩:=(wD hle hr hb (s:=x.1) (t:=x.2.Hi)).2 ⟨x,hx,rfl,hle',wt _⟩;exact ⟨⟨y,hy,A⟩,z,hz,B⟩
end
def r8 (ws:List dK) (b:Nat):Int:=if As (jS b ws)=oN then 6 else 0
def sj (ws:List dK) (b:Nat):aa:=if As (jS b ws)=oN then ⟨0,0⟩ else As (jS b ws)
theorem RK {l:List (Int×aa)} (hh:lT l h) (hl:∀ q∈l,q.2.Lo≤q.2.Hi):As l=h:=
 Gc (x8 hl) hh (fun x hx=>⟨⟨x,hx,wt _⟩,x,hx,wt _⟩) (fun x hx=>⟨⟨x,hx,wt _⟩,x,hx,wt _⟩)
theorem Hp (h:jS b ws=[]):r8 ws b=6∧sj ws b=⟨0,0⟩:=by
 unfold r8 sj;rw [h];exact ⟨c0 rfl,c0 rfl⟩
theorem GB {o:aa} (hl:∀ q∈jS b ws,q.2.Lo≤q.2.Hi) (h:qw (jS b ws) o):r8 ws b=0∧sj ws b=o:=by
 have e:=RK (.inr h) hl;unfold r8 sj;rw [e];exact ⟨c1 h.ne,c1 h.ne⟩
/-- what was found until now -/
def o8 (b:Nat) (ws:List dK) (fd:Bool) (o:aa):Prop:=(fd=false∧jS b ws=[])∨(fd=true∧qw (jS b ws) o)
theorem JY {o:aa}:o8 b [] false o:= .inl ⟨rfl,rfl⟩
theorem Gb (hq:q.2.Lo≤q.2.Hi):qw [q] q.2:=⟨hq,⟨q,sm,rfl⟩,⟨q,sm,rfl⟩,fun x hx=>by simp at hx;subst hx;exact ⟨wt _,wt _⟩⟩
theorem C6 {l:List (Int×aa)} (hh:qw l h) (hq:q.2.Lo≤q.2.Hi):qw (l++[q]) ⟨min q.2.Lo h.Lo,max q.2.Hi h.Hi⟩:=by
 have:=xu (.inr hh) hq;unfold oy at this;rw [c1 hh.ne] at this;rcases this with ⟨e,_⟩|this
 ·simp at e
 ·exact this
theorem GU {o:aa} (h:o8 b ws fd o) (hy:y.ic.length≤b):o8 b (ws++[y]) fd o:=by
 unfold o8;rw [Bk hy];exact h
theorem Ga {o:aa} (h:o8 b ws fd o) (hf:fd=false) (h1:y.ic[b]? =some s) (h2:y.j2[b]? =some f) (h3:y.oH[b]? =some e) (hle:f≤e):o8 b (ws++[y]) true ⟨f,e⟩:=by
 rcases h with ⟨_,q⟩|⟨q,_⟩
 ·right;rw [sE h1 h2 h3,q];exact ⟨U,Gb hle⟩
 ·rw [q] at hf;cases hf
theorem GO {o:aa} (h:o8 b ws fd o) (hf:fd=true) (h1:y.ic[b]? =some s) (h2:y.j2[b]? =some f) (h3:y.oH[b]? =some e) (hle:f≤e):o8 b (ws++[y]) true ⟨min f o.Lo,max e o.Hi⟩:=by
 rcases h with ⟨q,_⟩|⟨_,q⟩
 ·rw [q] at hf;cases hf
 ·right;rw [sE h1 h2 h3];exact ⟨U,C6 q hle⟩
theorem Ch {o:aa} (h:o8 b ws fd o) (hl:∀ q∈jS b ws,q.2.Lo≤q.2.Hi):(fd=false→r8 ws b=6∧sj ws b=⟨0,0⟩)∧(fd=true→r8 ws b=0∧sj ws b=o):=by
 rcases h with ⟨q,h⟩|⟨q,h⟩
 ·exact ⟨fun _=>Hp h,fun e=>(by rw [q] at e;cases e)⟩
 ·exact ⟨fun e=>(by rw [q] at e;cases e),fun _=>GB hl h⟩
section
variable {l:bf} {r:c_}
theorem Qt (he:fK l r 0=0) (hb:b<l.ai.length):r8 (sL l r) b=eT l r b∧sj (sL l r) b=eL l r b:=by
 obtain ⟨A,hr,_,_⟩:=jQ he;have h:=Ng A hr hb (x8 fun q hq=>AT A hr hq);have ho:fK l r (lR l b)=0:=by rw [J_ hb];exact he
 unfold r8 sj;rw [h];by_cases e:pb l r b=oN
 ·rw [c0 e,c0 e,(th ho e).1,(th ho e).2];exact ⟨rfl,rfl⟩
 ·rw [c1 e,c1 e,(td ho e).1,(td ho e).2];exact ⟨rfl,rfl⟩
theorem UM (hle:dU l=0) (hr:gp l r) (hy:y∈sL l r) (hb:b<y.ic.length) (h2:y.j2[b]? =some f) (h3:y.oH[b]? =some e):f≤e:=
 AT hle hr (q:=(y.ic[b],⟨f,e⟩)) (pC.2 ⟨y,hy,fh _,h2,h3⟩)
theorem Fj:fK l r (lR l l.b_)=fK l r 0:=by
 by_cases h:dU l=0
 ·obtain ⟨_,A⟩:=er h;have hh:=A.head;unfold fg at hh;rw [Ad I]
 ·rw [oo h,oo h]
theorem yI (h: ¬ fK l r 0=0):eT l r l.b_=fK l r 0:=by
 have:=(nH (b:=l.b_) (by rw [Fj];exact h)).1;rw [this,Fj]
/-- rows of times that are those of ways -/
structure Sy (ws:List dK):Prop where
 lens: ∀ y∈ws,y.j2.length=y.ic.length∧y.oH.length=y.ic.length∧y.ic.length≤6
 le: ∀ y∈ws,∀ (b:Nat) f e,b<y.ic.length→y.j2[b]? =some f→y.oH[b]? =some e→f≤e
 num:ws.length≤40000000
theorem Sy.I7 (h:Sy ws): ∀ q∈jS b ws,q.2.Lo≤q.2.Hi:=fun q hq=>by
 obtain ⟨y,hy,A,B,C⟩:=pC.1 hq;exact h.le y hy b _ _ (aT.1 A).1 B C
theorem Vg (hle:dU l=0) (hr:gp l r):Sy (sL l r):=by
 obtain ⟨ht,B⟩:=er hle;have hh:=B.head;unfold fg at hh;refine ⟨fun y hy=>?_,fun y hy b f e hb A C=>UM hle hr hy hb A C,x9 hr.len I⟩;obtain ⟨D,A,C⟩:=Qf hle hr hy;exact ⟨D,A,I⟩
end
end
section
open Go.RowKit
variable (l:List dK) (az:List mg)
theorem Eb: ∀ v∈(zipWith dK.cells l az).flatten,v.oneCell'=true:=by
 induction l generalizing az with
 |nil=>intro v hv;simp at hv
 |cons x l ih=>
  cases az with
  |nil=>intro v hv;simp at hv
  |cons a az=>
   intro v hv;simp only [u5,m9,dZ] at hv;rcases hv with hv|hv
   ·simp only [dK.cells,Am.cells,bI,h_,AAr] at hv;rcases hv with rfl|rfl|rfl<;>rfl
   ·exact ih az v hv
theorem SK: ∀ (m:dK) (a:mg) (w:World),(∀ X∈dK.owns m a,X.holds w)→ ∀ X∈dK.lf m a,X.holds w:=fun m a w h X hX=>by
 simp only [dK.lf,bI,h_,AAr] at hX;have A:=pA (h (own a.1.1 a.1.2 nN 1 (m.ic.map iC)) (by simp [dK.owns]));have B:=pA (h (own a.2.1.1 a.2.1.2 nN 1 (m.j2.map iC)) (by simp [dK.owns]));have C:=pA (h (own a.2.2.1 a.2.2.2 nN 1 (m.oH.map iC)) (by simp [dK.owns]));rcases hX with rfl|rfl|rfl
 ·simpa using A
 ·simpa using B
 ·simpa using C
theorem su: ∀ (l:List dK) (az:List mg),(bB dK.owns l az).all (·.wr)=true
 |[],_=>rfl
 |_::_,[]=>rfl
 |x::l,a::az=>by
  simp only [bB,ACO,dq];exact ⟨U,su l az⟩
theorem Ox:(bD (bB dK.owns l az)).wr=true:=su l az
theorem NH {l m:List dK} {az:List mg} (h:az.length=l.length):zipWith dK.cells (l++m) (az++bz)=zipWith dK.cells l az++zipWith dK.cells m bz:=ACS h.symm
theorem vU {l:List dK} {az:List mg} (h:az.length=l.length):(zipWith dK.cells l az).length=l.length:=by rw [m4];omega
/-- what is read of a thing that is tied, and frozen -/
theorem rE {L:List au} {a:OA} {c e sz n:Nat} {es:List (List Value)} (i:Nat) (hC:C[i]? =some (bD L).ro) (hm:own a c e sz es∈L) (hn:es.length=n):ig C (rd a n sz es).holds:=fun w hw=>by
 subst hn;exact pA ((show (bD L).holds w from (hw _ (aF hC):(bD L).ro.holds w)).1 _ hm)
section
variable {E:fJ} {ops:Array Oper} {Q:du} {rest:List Oper} {D:List Deferred} {L:List (Nat×Value)} {C C1:List au}
theorem St.Wb {C:List au} (h:St S w0 (bD (X++[A])::C) w):St S w0 (A::bD X::C) w:=by
 have B:=h.iJ;have D:St S w0 (X++(A::C)) w:=by simpa using B
 exact D.tied.perm (List.Perm.swap _ _ _)
theorem St.merge {Y C:List au} (h:St S w0 (bD X::bD Y::C) w):St S w0 (bD (X++Y)::C) w:=by
 have A:St S w0 (bD Y::(X++C)) w:=(h.iJ).perm (v5 (a:=bD Y) (l₁:=X) (l₂:=C));have B:St S w0 (Y++(X++C)) w:=A.iJ;have D:St S w0 ((X++Y)++C) w:=B.perm (by rw [← append_assoc];exact AAC.append_right _);exact D.tied
end
section
variable {E:fJ} {ops:Array Oper} {Q:du} {rest:List Oper} {D:List Deferred} {L:List (Nat×Value)} {C:List au}
theorem Dg {X':List au} (e:X++[A]=X') (h:RJ E ops Q rest D L (bD X'::C)):RJ E ops Q rest D L (A::bD X::C):=fun a w hf hs=>h a w hf (hs.tie e)
theorem B1 (h:RJ E ops Q rest D L (A::bD X::C)):RJ E ops Q rest D L (bD (X++[A])::C):=fun a w hf hs=>h a w hf hs.Wb
theorem QL {ms ns:List dK} {az:List mg} (hl:az.length=ms.length) (h:KJ E K D L (bD (bB dK.owns (ms++ns) (az++bz))::C)):KJ E K D L (bD (bB dK.owns ms az)::bD (bB dK.owns ns bz)::C):=fun a w hf hs=>h a w hf (by rw [lF hl.symm];exact hs.merge)
end
/-- the head of the ways: the way that ends here, if it may -/
def Aw (l:bf) (r:c_) (rs fs:List Int) (ra fa:RA) (hz:List mg) (LA:List au):Prop:=
 ((r.ab.length:Int)-(dT rs).right≤l.eZ∧ ∃ la:RA,hz=[(ra,fa,la)]∧LA=[own la.1 la.2 nN 1 ((kv l r rs).map iC)])∨(¬ (r.ab.length:Int)-(dT rs).right≤l.eZ∧hz=[]∧LA=[])
theorem Aw.len {l:bf} (h:Aw l r rs fs ra fa hz LA):hz.length=(iG l r rs fs).length:=by
 unfold iG;rcases h with ⟨q,la,rfl,rfl⟩|⟨q,rfl,rfl⟩
 ·rw [c0 q];rfl
 ·rw [c1 q];rfl
theorem Aw.wr {l:bf} (h:Aw l r rs fs ra fa hz LA):LA.all (·.wr)=true:=by
 rcases h with ⟨q,la,rfl,rfl⟩|⟨q,rfl,rfl⟩<;>rfl
theorem No {l:bf} {az:List mg} (hh:Aw l r rs fs ra fa hz LA) (h:St S w0 [bD [own ra.1 ra.2 nN 1 (rs.map iC),own fa.1 fa.2 nN 1 (fs.map iC)],A,bD LA,bD (bB dK.owns R az)] w):St S w0 [bD (bB dK.owns (iG l r rs fs++R) (hz++az)++[A])] w:=by
 rw [lF hh.len.symm];have D:St S w0 [own ra.1 ra.2 nN 1 (rs.map iC),own fa.1 fa.2 nN 1 (fs.map iC),A,bD LA,bD (bB dK.owns R az)] w:=h.iJ;rcases hh with ⟨q,la,rfl,rfl⟩|⟨q,rfl,rfl⟩
 ·unfold iG;rw [c0 q];have B:=(St.kQ [3,0,1,2,4] rfl rfl D).iJ;have E:=(St.kQ [4,1,2,0,3] rfl rfl B).iJ;have C:St S w0 (((bB dK.owns [(⟨rs,fs,kv l r rs⟩:dK)] [(ra,fa,la)]++bB dK.owns R az)++[A])++[]) w:=by
   rw [AAJ];refine E.perm ?_;show (bB dK.owns R az++(bB dK.owns [(⟨rs,fs,kv l r rs⟩:dK)] [(ra,fa,la)]++[A])).Perm _
   rw [← append_assoc];exact AAC.append_right _
  exact C.tied
 ·unfold iG;rw [c1 q];have B:=(St.kQ [4,2] rfl rfl D).iJ;have C:St S w0 (((bB dK.owns [] []++bB dK.owns R az)++[A])++[]) w:=by
   rw [AAJ];exact B
  exact C.tied
theorem OL {l:bf} {az z:List mg} {A':au} (hh:Aw l r rs fs ra fa hz LA) (hW:iG l r rs fs++R=W) (hz':hz++az=z) (hA:A=A') (h:KJ E K D L [bD (bB dK.owns W z++[A'])]):KJ E K D L [bD [own ra.1 ra.2 nN 1 (rs.map iC),own fa.1 fa.2 nN 1 (fs.map iC)],A,bD LA,bD (bB dK.owns R az)]:=fun a w hf hs=>h a w hf (by subst hW hz' hA;exact No hh hs)
theorem VG {X:au} (h:KJ E K D L [bD (bB dK.owns W []++[A])]):KJ E K D L [X,A]:=fun a w hf hs=>h a w hf (by
 have B:St E.S E.w0 [A] w:=St.kQ [1] rfl rfl hs;have C:St E.S E.w0 (([]++[A])++[]) w:=B;have e:bB dK.owns W []=[]:=by cases W<;>rfl
 rw [e];exact C.tied)
theorem L6 (e sz:Nat) (k:KJ E K D L (own none 0 e sz []::C)):KJ E K D L C:=fun a w hf hs=>k a w hf (hs.rI e sz)
end
section
open Go.RowKit
theorem jM (n lo hi:Int):
 dh Tryz.prog 124 [(vI n),(vI lo),(vI hi)] [] (vB (decide (lo≤n∧n≤hi))):=by
 refine bj kr Tryz.func124 U U fun B Q hQ hN=>?_
 try dsimp only
 refine aq bT 11 ?_;refine bK (t:=10) U (aG fun A=>?_) (aH fun A=>?_)
 ·exact cr aj 8 hQ U U<|cB (gR.2 I)
 exact cr aj 8 hQ U U<|cB (bg I).symm
variable (ts:List ag) (tsA:OA) (tsC:Nat) (p q:cY)
theorem EA (hst:∀ x∈ts,bW x) (hlen:ts.length≤12):
 ld Tryz.prog 207 [(vA (aZ.cells (aZ.mk (aX.mk tsA ts.length tsC))))] [(l0 tsA ts)] (fun (x:(OA)×Nat)=>(vS x.1 ((iZ ts (ts.length+1)).length) x.2)) (fun (x:(OA)×Nat)=>True) (fun (x:(OA)×Nat)=>[(XB x.1 x.2 (iZ ts (ts.length+1)))]):=by
 refine cU kr Tryz.func207 U U fun L Q hQ hN=>?_
 try dsimp only
 refine aU bT 2 U<|dV U fun K=>aq aj 15 ?_;refine eC 38 2 ?_;have A:(0≤ts.length+1):=by exact c4 _
 refine bw (ι:={z:Nat×(OA)×Nat // (z.1≤ts.length+1)}) [1] [1,2] U U (fun z=>[(3,(vS z.1.2.1 ((iZ ts z.1.1).length) z.1.2.2)),(4,(vI (z.1.1:Int)))]) (fun z=>[(XB z.1.2.1 z.1.2.2 (iZ ts z.1.1))]) (fun _=>rfl) (fun _=>rfl) (fun z=>ts.length+1-z.1.1) ⟨(0,none,0),A⟩ (aN U) (aB [1,2,0]) ?_;clear A;rintro ⟨⟨i,a,c⟩,B⟩ J6 F
 try dsimp only at B
 try dsimp only
 refine ck bT 10 [] (mc 0 U mn) ?_;refine bE U (aH fun J=>?_) (aG fun J=>?_)
 ·refine aU aY 1 U<|aq fz 4 ?_;obtain rfl:i=ts.length+1:=by omega
  refine aq aj 5 ?_;refine LX hQ (a,c) [2] [] mn U U U U ?_;trivial
 refine dF aY 8 [] (mc 0 U mn) U<|rS (CL (DC ts tsA tsC 0 (i:Int) hst hlen I) (aP [1]) U)<|aU aj 3 U<|AL U dD fun G=>AL U dD fun H=>o_ U cK U<|eM U cK U<|ck aj 5 [] (mc 1 U mn) ?_;refine dC (xs:=[.tmp 21]) (cs:=(aa.cells (eV ts (0:Int).toNat ((i:Int)-0).toNat))) U iv dD U U U U (by simp [Value.cells,aa.aD]) U U fun AA=>?_;refine de (es2:=(map aa.cells (iZ ts (i+1)))) (m':=(iZ ts (i+1)).length) 5 U U U CB U U sm (aM (es:=map aa.cells [(eV ts (0:Int).toNat ((i:Int)-0).toNat)]) 0 U U (by simp [aa.aD]) U) (jE _) (by simp only [qv];omega) (by simp only [maxLen,qv];omega) (by rw [Ec];simp) sm U fun D E=>?_
 try dsimp only
 refine aq aj 9 ?_;have C:(vI (((i+1):Nat):Int))=(vI ((i:Int)+1)):=by exact cI I
 refine aL (F ⟨((i+1),D,E),(by first|omega|(simp only [];omega))⟩ _ _ _ U os (cV.cons U<|cV.cons U<|aQ U C<|cV.nil _) (aB [3,4,5]))
theorem Yc (s:cY) (hlen:ts.length≤1000000) (hside:∀ x∈ts,0≤x.gu∧x.gu≤255):
 dh Tryz.prog 168 [(vA (aZ.cells (aZ.mk (aX.mk tsA ts.length tsC)))),(vA (cY.cells s))] [(l0 tsA ts)] (vT [(vA (aa.cells (Vk ts s))),(vI (I_ ts s))]):=by
 refine bj kr Tryz.func168 U U fun h Q hQ hN=>?_
 try dsimp only
 refine aU bT 2 U<|dV U fun Y=>dV U fun a=>AL U dD fun b=>dF aj 7 [] (mc 2 U mn) U<|rS (CL (yW ts tsA tsC hlen) (aP [3]) U)<|aq aj 3 ?_;refine bY U (fun G=>?_) (fun G=>?_)
 ·rw [e0] at G;refine aU aY 2 U<|rS (SX (aW (xs:=[]) (cs:=(aa.cells (aa.mk 0 0))) U U (aV gQ U)) U U)<|eM U cK U<|aq aj 4 ?_;refine mP hQ [0] (mc 0 U mn) U ?_
  (have e:=PC (s:=s) (by simpa using G);rw [e.1,e.2]<;>rfl)
 rw [m5] at G;refine aq aY 5 ?_;have K:=jF G;have P:=ky G;refine dF aj 2 [0,1] (mc 2 U (mc 1 U mn)) U<|rS (CL (tT ts tsA tsC s asm asm) (aP [3]) U)<|aq aj 3 ?_;refine bY U (aK fun C=>?_) (aJ fun C=>?_)
 ·refine aU aY 2 U<|rS (SX (aW (xs:=[]) (cs:=(aa.cells (aa.mk 0 0))) U U (aV gQ U)) U U)<|eM U cK U<|aq aj 4 ?_;refine mP hQ [0] (mc 0 U mn) U ?_
  (have e:=P8 G C;rw [e.1,e.2]<;>rfl)
 refine aq aY 3 ?_;refine mj bX [0,2,3] [1,4,5,6,7] [false,false,false] [] [(cb b 38 (aa.cells (aa.mk 0 0))),(cb a 111 (cY.cells s)),(cb Y 24 (aZ.cells (aZ.mk (aX.mk tsA ts.length tsC)))),(l0 tsA ts).ro] [] kr (aB [0,1,2,3]) (aB []) ?_;have g:=C.1;have L:=sT K C;have f:(iZ ts (ts.length+1)).length=ts.length+1:=qv;refine eS U (LW 2 U bP U U)<|eS U (FA 0 U eB U)<|eS U (L1 (vI s.bk) 1 U bP U U)<|dL U<|nJ [1,6] kr (iR ?_<|iR ?_<|rf);rotate_left 1
 ·refine NO U U [1,4,5,7] fun T12 H=>AL U dD fun V=>RD H 1 U<|N1 1<|NO U U [4,5,7] fun T14 M=>cX (EA ts tsA tsC asm asm) (aP [4]) U fun O S=>?_;obtain ⟨AA,d⟩:=O
  try dsimp only
  refine RD M 2 U<|N1 4<|NO U U [5,7] fun T19 D=>?_;obtain ⟨z,hz⟩:=ay (iZ ts (ts.length+1)) ((s.bk).toNat) I;have A:=bx aa.cells hz;refine rS (IA ((s.bk).toNat) U (ao (n:=(iZ ts (ts.length+1)).length) 0 U sm) iv dc I I)<|RD D 2 U<|N1 5<|NO U U [7] fun T20 E=>rS (k8 ((s.bk).toNat) 0 (aa.cells z) U bP (ao (n:=(iZ ts (ts.length+1)).length) 0 U sm) A U dc U U)<|RD E 2 U<|N1 7<|NO U U [] fun T21 B=>o_ U cK U<|RD B 2 U<|mK<|aq jC 4 ?_;have A:=rT hz;have F:=nY K 0 s.bk.toNat;unfold nk at L;rw [← A] at F;refine dF aj 11 [0,1,0,1] (mc 1 U (mc 3 U mn)) U<|rS (SX (aW (xs:=[(0,.tmp 27),(1,.tmp 33)]) (cs:=(aa.cells (aa.mk (z.Lo+s.mO.Lo) (z.Hi+s.mO.Hi)))) U U (aV gQ U)) U U)<|D2 U cK U<|aq aj 4 ?_;refine mP hQ [0] (mc 2 U mn) U ?_
  (have e:=zu G C;subst A;rw [e.1,e.2]<;>rfl)
 refine NO U U [4,5,6,7] fun T12 H=>cX (EA ts tsA tsC asm asm) (aP [3]) U fun N R=>?_;obtain ⟨T,c⟩:=N
 try dsimp only
 refine RD H 1 U<|nJ [4,6] kr (iR ?_<|iR ?_<|rf);rotate_left 1
 ·refine NO U U [4,5,7] fun T17 AB=>AL U dD fun W=>RD AB 2 U<|N1 4<|NO U U [5,7] fun T19 D=>?_;obtain ⟨z,hz⟩:=ay (iZ ts (ts.length+1)) ((s.bk).toNat) I;have A:=bx aa.cells hz;refine rS (IA ((s.bk).toNat) U (ao (n:=(iZ ts (ts.length+1)).length) 1 U sm) iv dc I I)<|RD D 2 U<|N1 5<|NO U U [7] fun T20 E=>rS (k8 ((s.bk).toNat) 0 (aa.cells z) U bP (ao (n:=(iZ ts (ts.length+1)).length) 1 U sm) A U dc U U)<|RD E 2 U<|N1 7<|NO U U [] fun T21 B=>eM U cK U<|RD B 2 U<|mK<|aq jC 4 ?_;have A:=rT hz;have F:=nY K 0 s.bk.toNat;unfold nk at L;rw [← A] at F;refine dF aj 11 [0,1,0,1] (mc 0 U (mc 3 U mn)) U<|rS (SX (aW (xs:=[(0,.tmp 27),(1,.tmp 33)]) (cs:=(aa.cells (aa.mk (z.Lo+s.mO.Lo) (z.Hi+s.mO.Hi)))) U U (aV gQ U)) U U)<|D2 U cK U<|aq aj 4 ?_;refine mP hQ [0] (mc 2 U mn) U ?_
  (have e:=zu G C;subst A;rw [e.1,e.2]<;>rfl)
 refine NO U U [5,6,7] fun T17 AB=>?_;obtain ⟨z,hz⟩:=ay (iZ ts (ts.length+1)) ((s.bk).toNat) I;have A:=bx aa.cells hz;refine rS (IA ((s.bk).toNat) U (ao (n:=(iZ ts (ts.length+1)).length) 0 U sm) iv dc I I)<|RD AB 1 U<|nJ [5,6] kr (iR ?_<|iR ?_<|rf);rotate_left 1
 ·refine NO U U [5,7] fun T18 J=>AL U dD fun X=>RD J 2 U<|N1 5<|NO U U [7] fun T20 E=>rS (k8 ((s.bk).toNat) 0 (aa.cells z) U bP (ao (n:=(iZ ts (ts.length+1)).length) 1 U sm) A U dc U U)<|RD E 2 U<|N1 7<|NO U U [] fun T21 B=>eM U cK U<|RD B 2 U<|mK<|aq jC 4 ?_;have A:=rT hz;have F:=nY K 0 s.bk.toNat;unfold nk at L;rw [← A] at F;refine dF aj 11 [0,1,0,1] (mc 0 U (mc 3 U mn)) U<|rS (SX (aW (xs:=[(0,.tmp 27),(1,.tmp 33)]) (cs:=(aa.cells (aa.mk (z.Lo+s.mO.Lo) (z.Hi+s.mO.Hi)))) U U (aV gQ U)) U U)<|D2 U cK U<|aq aj 4 ?_;refine mP hQ [0] (mc 2 U mn) U ?_
  (have e:=zu G C;subst A;rw [e.1,e.2]<;>rfl)
 refine NO U U [6,7] fun T18 J=>rS (k8 ((s.bk).toNat) 0 (aa.cells z) U bP (ao (n:=(iZ ts (ts.length+1)).length) 0 U sm) A U dc U U)<|RD J 1 U<|N1 6<|NO U U [7] fun T19 D=>AL U dD fun Z=>RD D 2 U<|N1 7<|NO U U [] fun T21 B=>eM U cK U<|RD B 2 U<|mK<|aq jC 4 ?_;have A:=rT hz;have F:=nY K 0 s.bk.toNat;unfold nk at L;rw [← A] at F;refine dF aj 11 [0,1,0,1] (mc 0 U (mc 3 U mn)) U<|rS (SX (aW (xs:=[(0,.tmp 27),(1,.tmp 33)]) (cs:=(aa.cells (aa.mk (z.Lo+s.mO.Lo) (z.Hi+s.mO.Hi)))) U U (aV gQ U)) U U)<|D2 U cK U<|aq aj 4 ?_;refine mP hQ [0] (mc 2 U mn) U ?_
 (have e:=zu G C;subst A;rw [e.1,e.2]<;>rfl)
theorem Ln (hlen:ts.length≤1000000) (hside:∀ x∈ts,0≤x.gu∧x.gu≤255) (hord:¬ q.bk<p.bk):
 dh Tryz.prog 169 [(vA (aZ.cells (aZ.mk (aX.mk tsA ts.length tsC)))),(vA (cY.cells p)),(vA (cY.cells q))] [(l0 tsA ts)] (vT [(vA (aa.cells (mx ts p q))),(vI (nB ts p q))]):=by
 refine bj kr Tryz.func169 U U fun AA Q hQ hN=>?_
 try dsimp only
 refine aU bT 2 U<|dV U fun P=>dV U fun R=>dV U fun S=>AL U dD fun T=>dF aj 7 [] (mc 3 U mn) U<|rS (CL (yW ts tsA tsC hlen) (aP [4]) U)<|aq aj 3 ?_;refine bY U (fun A=>?_) (fun A=>?_)
 ·rw [e0] at A;refine aU aY 2 U<|rS (SX (aW (xs:=[]) (cs:=(aa.cells (aa.mk 0 0))) U U (aV gQ U)) U U)<|eM U cK U<|aq aj 4 ?_;refine mP hQ [0] (mc 0 U mn) U ?_
  (have e:=xS (a:=p) (b:=q) (by simpa using A);rw [e.1,e.2]<;>rfl)
 rw [m5] at A;refine aq aY 5 ?_;have D:=jF A;have F:=ky A;refine dF aj 2 [0,1] (mc 3 U (mc 2 U mn)) U<|rS (CL (tT ts tsA tsC p asm asm) (aP [4]) U)<|aq aj 2 ?_;refine bK (t:=20) U (aK fun B=>?_) (aJ fun B=>?_)
 ·refine aU aj 10 U<|rS (SX (aW (xs:=[]) (cs:=(aa.cells (aa.mk 0 0))) U U (aV gQ U)) U U)<|eM U cK U<|aq aj 4 ?_;refine mP hQ [0] (mc 0 U mn) U ?_
  (have e:=qG (a:=p) (b:=q) A (fun h=>by first|exact B h.1|exact C h.2);rw [e.1,e.2]<;>rfl)
 refine dF aj 2 [0,1] (mc 3 U (mc 1 U mn)) U<|rS (CL (tT ts tsA tsC q asm asm) (aP [4]) U)<|aq aj 4 ?_;refine bY U (aK fun C=>?_) (aJ fun C=>?_)
 ·refine aU aY 2 U<|rS (SX (aW (xs:=[]) (cs:=(aa.cells (aa.mk 0 0))) U U (aV gQ U)) U U)<|eM U cK U<|aq aj 4 ?_;refine mP hQ [0] (mc 0 U mn) U ?_
  (have e:=qG (a:=p) (b:=q) A (fun h=>by first|exact B h.1|exact C h.2);rw [e.1,e.2]<;>rfl)
 refine aq aY 5 ?_;have H:gv ts p∧gv ts q:=⟨B,C⟩;have G:=sT D B;have AB:=sT D C;have N:=B.1;have O:=C.1;have L:=Aj D F C B;unfold nk at G AB;refine ck aj 7 [0,1] (mc 1 U (mc 2 U mn)) ?_;refine bY U (aG fun E=>?_) (aH fun E=>?_)
 ·exfalso;omega
 refine ck aY 6 [] (mc 3 U mn) ?_;have M:=nY D p.bk.toNat (q.bk-p.bk).toNat;refine dF aj 3 [0,1] (mc 2 U (mc 1 U mn)) U<|rS (CL (DC ts tsA tsC p.bk q.bk asm asm I) (aP [4]) U)<|aU aj 3 U<|AL U dD fun J=>AL U dD fun K=>o_ U cK U<|eM U cK U<|dF aj 24 [0,1,2,0,1,2] (mc 1 U (mc 3 U (mc 4 U mn))) U<|rS (SX (aW (xs:=[(0,.tmp 64),(1,.tmp 74)]) (cs:=(aa.cells (aa.mk ((((eV ts p.bk.toNat (q.bk-p.bk).toNat).Lo)+q.mO.Lo)-p.mO.Hi) ((((eV ts p.bk.toNat (q.bk-p.bk).toNat).Hi)+q.mO.Hi)-p.mO.Lo)))) U U (aV gQ U)) U U)<|D2 U cK U<|aq aj 4 ?_;refine mP hQ [0] (mc 2 U mn) U ?_
 (have e:=mQ A H;rw [e.1,e.2,tf E]<;>rfl)
theorem MW (hlen:ts.length≤1000000) (hside:∀ x∈ts,0≤x.gu∧x.gu≤255):
 dh Tryz.prog 169 [(vA (aZ.cells (aZ.mk (aX.mk tsA ts.length tsC)))),(vA (cY.cells p)),(vA (cY.cells q))] [(l0 tsA ts)] (vT [(vA (aa.cells (mx ts p q))),(vI (nB ts p q))]):=by
 refine bj kr Tryz.func169 U U fun Z Q hQ hN=>?_
 try dsimp only
 refine aU bT 2 U<|dV U fun V=>dV U fun W=>dV U fun X=>AL U dD fun Y=>dF aj 7 [] (mc 3 U mn) U<|rS (CL (yW ts tsA tsC hlen) (aP [4]) U)<|aq aj 3 ?_;refine bY U (fun A=>?_) (fun A=>?_)
 ·rw [e0] at A;refine aU aY 2 U<|rS (SX (aW (xs:=[]) (cs:=(aa.cells (aa.mk 0 0))) U U (aV gQ U)) U U)<|eM U cK U<|aq aj 4 ?_;refine mP hQ [0] (mc 0 U mn) U ?_
  (have e:=xS (a:=p) (b:=q) (by simpa using A);rw [e.1,e.2]<;>rfl)
 rw [m5] at A;refine aq aY 5 ?_;have D:=jF A;have G:=ky A;refine dF aj 2 [0,1] (mc 3 U (mc 2 U mn)) U<|rS (CL (tT ts tsA tsC p asm asm) (aP [4]) U)<|aq aj 2 ?_;refine bK (t:=20) U (aK fun B=>?_) (aJ fun B=>?_)
 ·refine aU aj 10 U<|rS (SX (aW (xs:=[]) (cs:=(aa.cells (aa.mk 0 0))) U U (aV gQ U)) U U)<|eM U cK U<|aq aj 4 ?_;refine mP hQ [0] (mc 0 U mn) U ?_
  (have e:=qG (a:=p) (b:=q) A (fun h=>by first|exact B h.1|exact C h.2);rw [e.1,e.2]<;>rfl)
 refine dF aj 2 [0,1] (mc 3 U (mc 1 U mn)) U<|rS (CL (tT ts tsA tsC q asm asm) (aP [4]) U)<|aq aj 4 ?_;refine bY U (aK fun C=>?_) (aJ fun C=>?_)
 ·refine aU aY 2 U<|rS (SX (aW (xs:=[]) (cs:=(aa.cells (aa.mk 0 0))) U U (aV gQ U)) U U)<|eM U cK U<|aq aj 4 ?_;refine mP hQ [0] (mc 0 U mn) U ?_
  (have e:=qG (a:=p) (b:=q) A (fun h=>by first|exact B h.1|exact C h.2);rw [e.1,e.2]<;>rfl)
 refine aq aY 5 ?_;have H:gv ts p∧gv ts q:=⟨B,C⟩;have AB:=sT D B;have J:=sT D C;have T:=B.1;have AA:=C.1;have R:=Aj D G C B;unfold nk at AB J;refine ck aj 7 [0,1] (mc 1 U (mc 2 U mn)) ?_;refine bY U (aG fun E=>?_) (aH fun E=>?_)
 ·refine dF aY 5 [0,1,2] (mc 3 U (mc 1 U (mc 2 U mn))) U<|rS (CL (Ln ts tsA tsC q p hlen hside I) (aP [4]) U)<|aU aj 3 U<|AL U dD fun M=>eM U cK U<|ck aj 7 [] (mc 0 U mn) ?_;have F:mx ts q p=lq ts q p:=(mQ A ⟨C,B⟩).2;have K: -400000≤(mx ts q p).Lo∧(mx ts q p).Hi≤400000:=by rw [F];omega
  have L:(mx ts q p).Lo≤(mx ts q p).Hi:=by rw [F];omega
  refine rS (NG U ⟨I,I⟩)<|dF aj 2 [] (mc 0 U mn) U<|rS (NG U ⟨I,I⟩)<|rS (SX (aW (xs:=[(0,.tmp 41),(1,.tmp 44)]) (cs:=(aa.cells (aa.mk (-((mx ts q p).Hi)) (-((mx ts q p).Lo))))) U U (aV gQ U)) U U)<|o_ U cK U<|aq aj 4 ?_;refine mP hQ [0] (mc 1 U mn) U ?_
  (have e:=mQ A H;have P:=mQ A ⟨C,B⟩;rw [e.1,e.2,P.2,GG E]<;>rfl)
 refine ck aY 6 [] (mc 3 U mn) ?_;have S:=nY D p.bk.toNat (q.bk-p.bk).toNat;refine dF aj 3 [0,1] (mc 2 U (mc 1 U mn)) U<|rS (CL (DC ts tsA tsC p.bk q.bk asm asm I) (aP [4]) U)<|aU aj 3 U<|AL U dD fun N=>AL U dD fun O=>o_ U cK U<|eM U cK U<|dF aj 24 [0,1,2,0,1,2] (mc 1 U (mc 3 U (mc 4 U mn))) U<|rS (SX (aW (xs:=[(0,.tmp 64),(1,.tmp 74)]) (cs:=(aa.cells (aa.mk ((((eV ts p.bk.toNat (q.bk-p.bk).toNat).Lo)+q.mO.Lo)-p.mO.Hi) ((((eV ts p.bk.toNat (q.bk-p.bk).toNat).Hi)+q.mO.Hi)-p.mO.Lo)))) U U (aV gQ U)) U U)<|D2 U cK U<|aq aj 4 ?_;refine mP hQ [0] (mc 2 U mn) U ?_
 (have e:=mQ A H;rw [e.1,e.2,tf E]<;>rfl)
end
section
open Go.RowKit
variable (l:bf) (kA:OA) (kC:Nat) (az:List RA) (cA:OA) (cC:Nat) (bA:OA) (bC:Nat)
theorem QE (hraw:wK l az):
 dh Tryz.prog 52 [(vA (bV.cells (kO l kA kC cA cC bA bC)))] (rr l kA az cA bA) (vB (decide (nO l))):=by
 have O:=hraw.sQ;have N:=hraw.sR;have L:=hraw.mE;have M:=hraw.sP;refine bj kr Tryz.func52 U U fun R Q hQ hN=>?_
 try dsimp only
 refine aU bT 2 U<|dV U fun P=>aU aj 7 U<|rS (LP (aZ.cells (aZ.mk (aX.mk kA l.bQ.length kC))) 0 U bP U U U)<|rS (CL (Tj l.bQ kA kC) (aP [1]) U)<|aq aj 1 ?_;refine bK (t:=7) U (aG fun K=>?_) (aH fun K=>?_)
 ·exact cr aj 20 hQ U U<|cB (cR (.inl I)).symm
 refine ck aj 6 [] (mc 0 U mn) ?_;refine bK (t:=13) U (aG fun C=>?_) (aH fun C=>?_)
 ·exact cr aj 14 hQ U U<|cB (cR (.inl I)).symm
 refine ck aj 7 [] (mc 0 U mn) ?_;refine bY U (aG fun G=>?_) (aH fun G=>?_)
 ·exact cr aY 6 hQ U U<|cB (cR (.inl I)).symm
 refine aq aY 9 ?_;have A:(0≤l.aC.length)∧(C9 l 0):=by exact ⟨c4 _,fun j c hj=>absurd hj (s4 _)⟩
 refine bw (ι:={z:Nat // (z≤l.aC.length)∧(C9 l z)}) [1] [0,1,2,3,4] U U (fun z=>[(3,(vI (z.1:Int)))]) (fun z=>[]) (fun _=>rfl) (fun _=>rfl) (fun z=>l.aC.length-z.1) ⟨0,A⟩ (aN U) (aB [0,1,2,3,4]) ?_;clear A;rintro ⟨i,⟨H,B⟩⟩ J10 E
 try dsimp only
 refine ck bT 10 [] (mc 0 U mn) ?_;refine bE U (aH fun C=>?_) (aG fun C=>?_)
 ·exact aU aY 1 U<|cr fz 8 hQ U U<|cB (bg (Pv I I B)).symm
 refine ck aY 9 [] (mc 0 U mn) ?_;obtain ⟨x,hx⟩:=ay l.aC i I;obtain ⟨xa,AA⟩:=ay az i I;have J:(zipWith aS.cells l.aC az)[i]? =some (aS.cells x xa):=cE hx AA;refine rS (IA i U (av 2 U) xq dc I I)<|rS (p9 ((i*2)+1) U (av 2 U) (e6 I dc) eB U)<|rS (gF i 1 (vS xa.1 x.bo.length xa.2) U bP (av 2 U) J U dc U)<|aq aj 4 ?_;refine bY U (aG fun D=>?_) (aH fun D=>?_)
 ·exact cr aY 6 hQ U U<|cB (cR (PL hx D)).symm
 refine aq aY 8 ?_;have F:(vI (((i+1):Nat):Int))=(vI ((i:Int)+1)):=by exact cI I
 refine aL (E ⟨(i+1),⟨I,nK B hx I⟩⟩ _ _ _ U os (cV.cons U<|aQ U F<|cV.nil _) (aB [0,1,2,3,4]))
theorem AJ (d m:Int) (hd:0≤d∧d≤1000) (hm:0≤m∧m≤90000000):
 dh Tryz.prog 167 [(vI d),(vI m)] [] (vI (qz (d*m) 1000000)):=by
 have D:=AX (a:=d) (b:=m) (A:=1000) (B:=90000000) hd.1 hd.2 hm.1 hm.2;refine bj kr Tryz.func167 U U fun E Q hQ hN=>?_
 try dsimp only
 refine aU bT 9 U<|rS (BI U (nt ⟨I,I⟩))<|aU aj 7 U<|rS (BI U (Pd I I))<|aq aj 3 ?_;refine bY U (aG fun C=>?_) (aH fun C=>?_)
 ·exact aU aY 3 U<|rS (BI U (sx I I I))<|cr aj 5 hQ U U<|cI (by unfold qz;omega)
 exact aU aY 5 U<|rS (BI U (sx I I I))<|cr aj 4 hQ U U<|cI (by unfold qz;omega)
theorem MU (c:aS) (sA:OA) (sC:Nat) (hlen:c.bo.length≤1000000):
 dh Tryz.prog 125 [(vA (dE.cells (dE.mk c.dI (aX.mk sA c.bo.length sC))))] [(qK sA c.bo)] (vB (decide (fD c))):=by
 refine bj kr Tryz.func125 U U fun w0 Q hQ hN=>?_
 try dsimp only
 refine aU bT 2 U<|dV U fun b2=>dF aj 8 [] (mc 0 U mn) U<|rS (CL (jM c.dI 0 1000) (aA) U)<|aq aj 2 ?_;refine bK (t:=14) U (aK fun f=>?_) (aJ fun f=>?_)
 ·exact cr aj 15 hQ U U<|cB (bg fun h=>by have q1:=h.u0;have q2:=h.len;omega).symm
 refine dF aj 3 [] (mc 0 U mn) U<|rS (CL (jM (c.bo.length:Int) 1 5) (aA) U)<|aq aj 4 ?_;refine bY U (aK fun g=>?_) (aJ fun g=>?_)
 ·exact cr aY 6 hQ U U<|cB (bg fun h=>by have q1:=h.u0;have q2:=h.len;omega).symm
 refine aq aY 9 ?_;have A:(0≤c.bo.length)∧(∀ (j:Nat) y,j<0→c.bo[j]? =some y→gD c j y):=by exact ⟨c4 _,fun j y hj=>absurd hj (s4 _)⟩
 refine bw (ι:={z:Nat // (z≤c.bo.length)∧(∀ (j:Nat) y,j<z→c.bo[j]? =some y→gD c j y)}) [1] [0,1] U U (fun z=>[(3,(vI (z.1:Int)))]) (fun z=>[]) (fun _=>rfl) (fun _=>rfl) (fun z=>c.bo.length-z.1) ⟨0,A⟩ (aN U) (aB [0,1]) ?_;clear A;rintro ⟨i,⟨S,B⟩⟩ J9 W
 try dsimp only
 have A0:=MC S B;refine ck bT 10 [] (mc 0 U mn) ?_;refine bY U (aG fun l=>?_) (aH fun l=>?_)
 ·refine ck aY 9 [] (mc 0 U mn) ?_;obtain ⟨x,hx⟩:=ay c.bo i I;have T:=bx cP.cells hx;refine rS (IA i U (av 1 U) pK dc I I)<|rS (k8 i 0 (cP.cells x) U bP (av 1 U) T U dc U U)<|AL U uX fun AO=>eM U wu U<|aU aj 3 U<|cL bX 41 kr<|jY 2 [] (mc 0 U mn) U<|dS (CL (jM x.At 0 86400000) (aA) U)<|dP 2 [] mn ?_;refine iI (t:=37) U (aK fun n=>?_) (aJ fun n=>?_)
  ·exact iQ 36 U<|cy<|cr aj 9 hQ U U<|cB (bg fun h=>by have q:=h.sync i x hx;unfold gD at q;(rw [gZ I] at q;omega)).symm
  refine dP 3 [] mn ?_;refine iM (t:=40) U (aH fun p=>?_) (aG fun p=>?_)
  ·refine dP 19 [] (mc 0 U mn) ?_;refine iI (t:=59) U (aG fun N=>?_) (aH fun N=>?_)
   ·exact iQ 14 U<|cy<|cr aj 9 hQ U U<|cB (bg fun h=>by have q:=h.sync i x hx;unfold gD at q;(rw [gZ I] at q;omega)).symm
   refine dP 9 [] (mc 0 U mn) ?_;refine iI (t:=68) U (aG fun O=>?_) (aH fun O=>?_)
   ·exact iQ 5 U<|cy<|cr aj 9 hQ U U<|cB (bg fun h=>by have q:=h.sync i x hx;unfold gD at q;(rw [gZ I] at q;omega)).symm
   refine jY 5 [] (mc 0 U mn) U<|cy<|aq aj 2 ?_;refine bE U (aH fun R=>?_) (aG fun R=>?_)
   ·refine aq aY 8 ?_;have Y:(vI (((i+1):Nat):Int))=(vI ((i:Int)+1)):=by exact cI I
    refine aL (W ⟨(i+1),⟨I,nK B hx (by unfold gD;(rw [gZ I];omega))⟩⟩ _ _ _ U os (cV.cons U<|aQ U Y<|cV.nil _) (aB [1,2]))
   exact cr aY 6 hQ U U<|cB (bg fun h=>by have q:=h.sync i x hx;unfold gD at q;(rw [gZ I] at q;omega)).symm
  refine dP 6 [0,1] (mc 0 U (mc 1 U mn)) ?_;obtain ⟨y,hy⟩:=ay c.bo (i-1) I;have AA:=bx cP.cells hy;refine dS (IA (i-1) U (av 2 U) pK dc I I)<|dS (p9 ((i-1)*3) U (av 2 U) (e6 I dc) eB U)<|dS (gF (i-1) 0 (vI y.At) U bP (av 2 U) AA U dc U)<|dP 4 [] mn ?_;refine iI (t:=53) U (aG fun r=>?_) (aH fun r=>?_)
  ·exact iQ 20 U<|cy<|cr aj 9 hQ U U<|cB (bg fun h=>by have q:=h.sync i x hx;unfold gD at q;(rw [AF I hy] at q;omega)).symm
  refine dP 6 [] (mc 0 U mn) ?_;refine iI (t:=59) U (aG fun N=>?_) (aH fun N=>?_)
  ·exact iQ 14 U<|cy<|cr aj 9 hQ U U<|cB (bg fun h=>by have q:=h.sync i x hx;unfold gD at q;(rw [gZ I] at q;omega)).symm
  refine dP 9 [] (mc 0 U mn) ?_;refine iI (t:=68) U (aG fun O=>?_) (aH fun O=>?_)
  ·exact iQ 5 U<|cy<|cr aj 9 hQ U U<|cB (bg fun h=>by have q:=h.sync i x hx;unfold gD at q;(rw [gZ I] at q;omega)).symm
  refine jY 5 [] (mc 0 U mn) U<|cy<|aq aj 2 ?_;refine bE U (aH fun R=>?_) (aG fun R=>?_)
  ·refine aq aY 8 ?_;have X:(vI (((i+1):Nat):Int))=(vI ((i:Int)+1)):=by exact cI I
   refine aL (W ⟨(i+1),⟨I,nK B hx (by unfold gD;(rw [AF I hy];omega))⟩⟩ _ _ _ U os (cV.cons U<|aQ U X<|cV.nil _) (aB [1,2]))
  exact cr aY 6 hQ U U<|cB (bg fun h=>by have q:=h.sync i x hx;unfold gD at q;(rw [gZ I] at q;omega)).symm
 refine aU aY 1 U<|aq fz 9 ?_;have A:(0≤c.bo.length)∧(wL c 0):=by exact ⟨c4 _,fun j y hj=>absurd hj (s4 _)⟩
 refine bw (ι:={z:Nat // (z≤c.bo.length)∧(wL c z)}) [1] [0,1] U U (fun z=>[(5,(vI (z.1:Int)))]) (fun z=>[]) (fun _=>rfl) (fun _=>rfl) (fun z=>c.bo.length-z.1) ⟨0,A⟩ (aN U) (aB [0,1]) ?_;clear A;rintro ⟨m,⟨a,E⟩⟩ J28 V
 try dsimp only
 have D:=zl (P:=gD c) I B;refine ck bT 10 [] (mc 0 U mn) ?_;refine bE U (aH fun s=>?_) (aG fun s=>?_)
 ·exact aU aY 1 U<|cr fz 8 hQ U U<|cB (cR (M0 I I (zl I B) I E)).symm
 refine aq aY 10 ?_;have A:(0≤m)∧(∀ y,c.bo[m]? =some y→Ik c y 0):=by exact ⟨c4 _,fun y _ j o hj=>absurd hj (s4 _)⟩
 refine bw (ι:={z:Nat // (z≤m)∧(∀ y,c.bo[m]? =some y→Ik c y z)}) [1,5] [0,1] U U (fun z=>[(6,(vI (z.1:Int)))]) (fun z=>[]) (fun _=>rfl) (fun _=>rfl) (fun z=>m-z.1) ⟨0,A⟩ (aN U) (aB [0,1]) ?_;clear A;rintro ⟨k,⟨b,C⟩⟩ J33 M
 try dsimp only
 refine aq bT 8 ?_;refine bE U (aH fun u=>?_) (aG fun u=>?_)
 ·refine aU aY 1 U<|aq fz 8 ?_;have Z:(vI (((m+1):Nat):Int))=(vI ((m:Int)+1)):=by exact cI I
  refine aL (V ⟨(m+1),⟨I,HO E C I⟩⟩ _ _ _ U os (cV.cons U<|aQ U Z<|cV.nil _) (aB [0,1]))
 refine aq aY 5 ?_;refine mj bX [0,1,2,3,4,5,6,7,8,9] [10,11,12,13] [false,false,false,false,false,false,false,false,false,false] [] [(cb b2 109 (dE.cells (dE.mk c.dI (aX.mk sA c.bo.length sC)))),(qK sA c.bo).ro] [] kr (aB [0,1]) (aB [])<|eS U (FA 1 U eB U)<|eS U (L1 (vS sA c.bo.length sC) 0 U bP U U)<|eS U (MV U) ?_;obtain ⟨x,hx⟩:=ay c.bo k I;have T:=bx cP.cells hx;refine eS U (IA k U (av 1 U) pK dc I I)<|eS U (k8 k 0 (cP.cells x) U bP (av 1 U) T U dc U U)<|eS U (FA 1 U eB U)<|eS U (L1 (vS sA c.bo.length sC) 0 U bP U U)<|eS U (MV U) ?_;obtain ⟨y,hy⟩:=ay c.bo m I;have AA:=bx cP.cells hy;refine eS U (IA m U (av 1 U) pK dc I I)<|eS U (k8 m 0 (cP.cells y) U bP (av 1 U) AA U dc U U)<|dL U<|nJ [10,11] kr (iR ?_<|iR ?_<|rf);rotate_left 1
 ·refine NO U U [10,12,13] fun T38 H=>AL U uX fun d=>RD H 1 U<|N1 10<|NO U U [12,13] fun T40 AB=>AL U uX fun e=>RD AB 2 U<|N1 12<|NO U U [13] fun T42 J=>eM U wu U<|RD J 2 U<|N1 13<|NO U U [] fun T43 K=>o_ U wu U<|RD K 2 U<|mK<|ck jC 9 [0,1,2] (mc 2 U (mc 1 U (mc 0 U mn))) ?_;obtain ⟨v,w,AC⟩:=xI (fun j z _ hz=>D j z hz) hy (D _ _ hy) (show k<m by omega) hx;refine aU aj 1 U<|rS (CL (AJ c.dI (y.At-x.At) I I) (aA) U)<|ck aj 15 [0,1] (mc 0 U (mc 1 U mn)) ?_;refine bK (t:=113) U (aG fun F=>?_) (aH fun F=>?_)
  ·exact cr aj 19 hQ U U<|cB (bg fun h=>by have q:=h.pair m k y x hy I hx;unfold qm at q;omega).symm
  refine ck aj 12 [0,1] (mc 1 U (mc 0 U mn)) ?_;refine bE U (aH fun G=>?_) (aG fun G=>?_)
  ·refine aq aY 8 ?_;have L:(vI (((k+1):Nat):Int))=(vI ((k:Int)+1)):=by exact cI I
   refine aL (M ⟨(k+1),⟨I,fun z hz=>by rw [hy] at hz;cases hz;exact nK (C _ hy) hx (by unfold qm;omega)⟩⟩ _ _ _ rfl os (cV.cons rfl<|cV.cons rfl<|aQ rfl L<|cV.nil _) (aB [2,3]))
  exact cr aY 6 hQ U U<|cB (bg fun h=>by have q:=h.pair m k y x hy I hx;unfold qm at q;omega).symm
 refine NO U U [11,12,13] fun T38 H=>AL U uX fun d=>RD H 1 U<|N1 11<|NO U U [12,13] fun T40 AB=>AL U uX fun e=>RD AB 2 U<|N1 12<|NO U U [13] fun T42 J=>o_ U wu U<|RD J 2 U<|N1 13<|NO U U [] fun T43 K=>eM U wu U<|RD K 2 U<|mK<|ck jC 9 [0,1,2] (mc 2 U (mc 0 U (mc 1 U mn))) ?_;obtain ⟨v,w,AC⟩:=xI (fun j z _ hz=>D j z hz) hy (D _ _ hy) (show k<m by omega) hx;refine aU aj 1 U<|rS (CL (AJ c.dI (y.At-x.At) I I) (aA) U)<|ck aj 15 [0,1] (mc 1 U (mc 0 U mn)) ?_;refine bK (t:=113) U (aG fun F=>?_) (aH fun F=>?_)
 ·exact cr aj 19 hQ U U<|cB (bg fun h=>by have q:=h.pair m k y x hy I hx;unfold qm at q;omega).symm
 refine ck aj 12 [0,1] (mc 0 U (mc 1 U mn)) ?_;refine bE U (aH fun G=>?_) (aG fun G=>?_)
 ·refine aq aY 8 ?_;have L:(vI (((k+1):Nat):Int))=(vI ((k:Int)+1)):=by exact cI I
  refine aL (M ⟨(k+1),⟨I,fun z hz=>by rw [hy] at hz;cases hz;exact nK (C _ hy) hx (by unfold qm;omega)⟩⟩ _ _ _ rfl os (cV.cons rfl<|cV.cons rfl<|aQ rfl L<|cV.nil _) (aB [2,3]))
 exact cr aY 6 hQ U U<|cB (bg fun h=>by have q:=h.pair m k y x hy I hx;unfold qm at q;omega).symm
theorem Ei (c:aS) (sA:OA) (sC:Nat) (at_:Int) (hc:fD c) (ha:0≤at_∧at_≤90000000):
 dh Tryz.prog 275 [(vA (dE.cells (dE.mk c.dI (aX.mk sA c.bo.length sC)))),(vI at_)] [(rd sA c.bo.length 3 (c.bo.map cP.cells))] (vA (aa.cells (jm c at_))):=by
 have P:=hc.len;have AB:=hc.u0;refine bj kr Tryz.func275 U U fun AA Q hQ hN=>?_
 try dsimp only
 refine aU bT 2 U<|dV U fun S=>AL U dD fun T=>aU aj 4 U<|AL U dD fun O=>aq aj 9 ?_;have A:(0≤c.bo.length):=by exact c4 _
 refine bw (ι:={z:Nat // (z≤c.bo.length)}) [1,2,4,5] [1,2,3] U U (fun z=>[(6,(vI (z.1:Int)))]) (fun z=>[(cb O 38 (aa.cells (mm c at_ z.1)))]) (fun _=>rfl) (fun _=>rfl) (fun z=>c.bo.length-z.1) ⟨0,A⟩ (aN U) (aB [1,2,3,0]) ?_;clear A;rintro ⟨i,J⟩ J8 B
 try dsimp only
 refine ck bT 10 [] (mc 1 U mn) ?_;refine bE U (aH fun G=>?_) (aG fun G=>?_)
 ·refine aU aY 1 U<|dF fz 5 [] (mc 3 U mn) U<|eM U cK U<|aq aj 3 ?_;refine Gx hQ [0] (mc 0 U mn) U ?_;rw [HZ hc (show c.bo.length≤i by omega)]
 refine ck aY 9 [] (mc 1 U mn) ?_;obtain ⟨x,hx⟩:=ay c.bo i I;have L:=bx cP.cells hx;refine rS (IA i U (av 2 U) pK dc I I)<|rS (k8 i 0 (cP.cells x) U bP (av 2 U) L U dc U U)<|AL U uX fun M=>eM U wu U<|ck aj 6 [] (mc 2 U mn) ?_;have K:=hc.yk hx;have R:0≤qz (c.dI*max (at_-x.At) (x.At-at_)) 1000000∧qz (c.dI*max (at_-x.At) (x.At-at_)) 1000000≤90001:=x4 AB ha K.1;refine dF aj 8 [] (mc 0 U mn) U<|rS (MX U)<|rS (CL (AJ c.dI (max (at_-x.At) (x.At-at_)) I I) (aA) U)<|dF aj 15 [] (mc 0 U mn) U<|rS (SX (aW (xs:=[(0,.tmp 38),(1,.tmp 43)]) (cs:=(aa.cells (aa.mk (x.eA.Lo-(qz (c.dI*(max (at_-x.At) (x.At-at_))) 1000000)) (x.eA.Hi+(qz (c.dI*(max (at_-x.At) (x.At-at_))) 1000000))))) U U (aV gQ U)) U U)<|AL U dD fun N=>eM U cK U<|aq aj 9 ?_;refine bE U (aH fun H=>?_) (aG fun H=>?_)
 ·refine dF aY 7 [0,1] (mc 5 U (mc 0 U mn)) U<|rS (MX U)<|dF aj 4 [0,1] (mc 5 U (mc 0 U mn)) U<|rS (MN U)<|rS (SX (aW (xs:=[(0,.tmp 52),(1,.tmp 57)]) (cs:=(aa.cells (aa.mk (max ((mm c at_ i).Lo) (x.eA.Lo-(qz (c.dI*(max (at_-x.At) (x.At-at_))) 1000000))) (min ((mm c at_ i).Hi) (x.eA.Hi+(qz (c.dI*(max (at_-x.At) (x.At-at_))) 1000000)))))) U U (aV gQ U)) U U)<|MA U cK U<|aq aj 3 ?_;have E:(aa.cells (aa.mk (max ((mm c at_ i).Lo) (x.eA.Lo-(qz (c.dI*(max (at_-x.At) (x.At-at_))) 1000000))) (min ((mm c at_ i).Hi) (x.eA.Hi+(qz (c.dI*(max (at_-x.At) (x.At-at_))) 1000000)))))=(aa.cells (mm c at_ (i+1))):=by exact c7 aa.cells (Fi hx I).symm
  rw [E];refine aq aY 5 ?_;have F:(vI (((i+1):Nat):Int))=(vI ((i:Int)+1)):=by exact cI I
  refine aL (B ⟨(i+1),(by first|omega|(simp only [];omega))⟩ _ _ _ U os (cx 4<|aQ U F<|cV.nil _) (aB [2,3,4,5]))
 refine dF aY 2 [] (mc 0 U mn) U<|MA U cK U<|dF aj 7 [0,1] (mc 5 U (mc 0 U mn)) U<|rS (MX U)<|dF aj 4 [0,1] (mc 5 U (mc 0 U mn)) U<|rS (MN U)<|rS (SX (aW (xs:=[(0,.tmp 52),(1,.tmp 57)]) (cs:=(aa.cells (aa.mk (max (x.eA.Lo-(qz (c.dI*(max (at_-x.At) (x.At-at_))) 1000000)) (x.eA.Lo-(qz (c.dI*(max (at_-x.At) (x.At-at_))) 1000000))) (min (x.eA.Hi+(qz (c.dI*(max (at_-x.At) (x.At-at_))) 1000000)) (x.eA.Hi+(qz (c.dI*(max (at_-x.At) (x.At-at_))) 1000000)))))) U U (aV gQ U)) U U)<|MA U cK U<|aq aj 3 ?_;have C:(aa.cells (aa.mk (max (x.eA.Lo-(qz (c.dI*(max (at_-x.At) (x.At-at_))) 1000000)) (x.eA.Lo-(qz (c.dI*(max (at_-x.At) (x.At-at_))) 1000000))) (min (x.eA.Hi+(qz (c.dI*(max (at_-x.At) (x.At-at_))) 1000000)) (x.eA.Hi+(qz (c.dI*(max (at_-x.At) (x.At-at_))) 1000000)))))=(aa.cells (mm c at_ (i+1))):=by exact c7 aa.cells (Dl hc ha hx I).symm
 rw [C];refine aq aY 5 ?_;have D:(vI (((i+1):Nat):Int))=(vI ((i:Int)+1)):=by exact cI I
 refine aL (B ⟨(i+1),(by first|omega|(simp only [];omega))⟩ _ _ _ U os (cx 4<|aQ U D<|cV.nil _) (aB [2,3,4,5]))
theorem Nb (n:Int) (hin:dX l az) (htr:cD l.bQ=true) (hbk:∀ b∈l.ai,lj l b) (hn:0≤n∧n<(l.ai.length:Int)):
 dh Tryz.prog 127 [(vA (bV.cells (kO l kA kC cA cC bA bC))),(vI n)] (rr l kA az cA bA) (vI (mM l n.toNat)):=by
 have M:=hin.sQ;have K:=hin.sR;have AA:=hin.mE;have J:=hin.sP;have L:=hin.side;refine bj kr Tryz.func127 U U fun P Q hQ hN=>?_
 try dsimp only
 refine aU bT 2 U<|dV U fun N=>aq aj 10 ?_;refine bY U (aG fun D=>?_) (aH fun D=>?_)
 ·refine aq aY 1 ?_;refine cT bX [11,12] [] [] [0,1,2,3,4] [] U U U U U<|eS U (FA 0 U eB U)<|eS U (LP (aZ.cells (aZ.mk (aX.mk kA l.bQ.length kC))) 0 U bP U U U)<|eS U (FA 3 U eB U)<|eS U (L1 (vS bA l.ai.length bC) 0 U bP U U) ?_;obtain ⟨y,hy⟩:=ay l.ai 0 I;have A:=bx df.cells hy;refine eS U (IA 0 U (av 4 U) wx dc U I)<|eS U (p9 (0*4) U (av 4 U) (e6 I dc) eB U)<|eS U (k8 0 0 (cY.cells y.mz) U bP (av 4 U) A U dc U U)<|eS U (CL (Yc l.bQ kA kC y.mz asm asm) (aP [1]) U)<|eS U (MV U)<|eS U (EX U)<|eS U (EX U)<|eS U (AG U)<|dL U<|bR U fun T6 E=>AL U dD fun O=>bG (E _ _ (aB [1,2,3,4,5]) ?_);refine bR U fun T8 F=>eM U cK U<|bG (F _ _ (aB [1,2,3,4,5]) ?_);refine eI U<|yR jC 9 hQ [] (mc 0 U mn) U U ?_
  (refine c7 (Value.int .i64) ?_;rw [show n.toNat=0 by omega];rw [ye hy,(zu htr (hbk _ (List.mem_of_getElem? hy)).1).2])
 refine aq aY 3 ?_;refine cT bX [19,20] [] [] [0,1,2,3,4] [] U U U U U<|eS U (FA 0 U eB U)<|eS U (LP (aZ.cells (aZ.mk (aX.mk kA l.bQ.length kC))) 0 U bP U U U)<|eS U (FA 3 U eB U)<|eS U (L1 (vS bA l.ai.length bC) 0 U bP U U)<|eS U (MV U)<|eS U (BI U (vZ ⟨I,I⟩)) ?_;obtain ⟨y,hy⟩:=ay l.ai (((n-1)).toNat) I;have A:=bx df.cells hy;refine eS U (IA (((n-1)).toNat) U (av 4 U) wx dc I I)<|eS U (p9 ((((n-1)).toNat)*4) U (av 4 U) (e6 I dc) eB U)<|eS U (k8 (((n-1)).toNat) 0 (cY.cells y.mz) U bP (av 4 U) A U dc U U)<|eS U (FA 3 U eB U)<|eS U (L1 (vS bA l.ai.length bC) 0 U bP U U)<|eS U (MV U) ?_;obtain ⟨x,hx⟩:=ay l.ai ((n).toNat) I;have G:=bx df.cells hx;refine eS U (IA ((n).toNat) U (av 4 U) wx dc I I)<|eS U (p9 (((n).toNat)*4) U (av 4 U) (e6 I dc) eB U)<|eS U (k8 ((n).toNat) 0 (cY.cells x.mz) U bP (av 4 U) G U dc U U)<|eS U (CL (MW l.bQ kA kC y.mz x.mz asm asm) (aP [1]) U)<|eS U (MV U)<|eS U (EX U)<|eS U (EX U)<|eS U (AG U)<|dL U<|bR U fun T11 B=>AL U dD fun H=>bG (B _ _ (aB [1,2,3,4,5]) ?_);refine bR U fun T13 C=>eM U cK U<|bG (C _ _ (aB [1,2,3,4,5]) ?_);refine eI U<|yR jC 9 hQ [] (mc 0 U mn) U U ?_
 (refine c7 (Value.int .i64) ?_;rw [Em I hx (by rw [show n.toNat-1=(n-1).toNat by omega];exact hy),(mQ htr ⟨(hbk _ (List.mem_of_getElem? hy)).1,(hbk _ (List.mem_of_getElem? hx)).1⟩).2])
theorem Nn (n:Int) (hin:dX l az) (htr:cD l.bQ=true) (hok:nz l) (hn:0≤n∧n<(l.ai.length:Int)):
 dh Tryz.prog 265 [(vA (bV.cells (kO l kA kC cA cC bA bC))),(vI n)] (rr l kA az cA bA) (vI (ew l n.toNat)):=by
 have E:=hin.sQ;have D:=hin.sR;have B:=hin.mE;have C:=hin.sP;have A:=hok.head;unfold fg at A;have F:=BY htr hok.vJ n.toNat;have G:=hok.Um n.toNat I;refine bj kr Tryz.func265 U U fun AA Q hQ hN=>?_
 try dsimp only
 exact aU bT 2 U<|dV U fun H=>aU aj 4 U<|cL bX 12 kr<|jY 2 [] (mc 0 U mn) U<|dS (CL (Nb l kA kC az cA cC bA bC n hin htr (by exact hok.vJ) hn) (aP [1,2,3,4]) U)<|dS (BI U (nt ⟨I,I⟩))<|jY 6 [] (mc 0 U mn) U<|dS (BI U (sx I I I))<|iQ 1 U<|cy<|cr aj 3 hQ U U<|cI (by unfold ew qz;rw [Int.mul_comm])
theorem Q8 (hin:dX l az) (htr:cD l.bQ=true):
 dh Tryz.prog 87 [(vA (bV.cells (kO l kA kC cA cC bA bC)))] (rr l kA az cA bA) (vB (decide (nz l))):=by
 have v:=hin.sQ;have p:=hin.sR;have g:=hin.mE;have o:=hin.sP;have r:=hin.side;have s:=jF htr;have f:=ky htr;refine bj kr Tryz.func87 U U fun w0 Q hQ hN=>?_
 try dsimp only
 refine aU bT 2 U<|dV U fun b2=>dF aj 8 [] (mc 0 U mn) U<|rS (CL (jM l.g7 1 5000) (aA) U)<|aq aj 2 ?_;refine bK (t:=10) U (aK fun S=>?_) (aJ fun S=>?_)
 ·exact cr aj 44 hQ U U<|cB (bg fun h=>by have q:=h.head;unfold fg at q;omega).symm
 refine dF aj 3 [] (mc 0 U mn) U<|rS (CL (jM (l.aC.length:Int) 1 4) (aA) U)<|aq aj 3 ?_;refine bK (t:=17) U (aK fun T=>?_) (aJ fun T=>?_)
 ·exact cr aj 37 hQ U U<|cB (bg fun h=>by have q:=h.head;unfold fg at q;omega).symm
 refine dF aj 3 [] (mc 0 U mn) U<|rS (CL (jM (l.ai.length:Int) 1 6) (aA) U)<|aq aj 3 ?_;refine bK (t:=24) U (aK fun AA=>?_) (aJ fun AA=>?_)
 ·exact cr aj 30 hQ U U<|cB (bg fun h=>by have q:=h.head;unfold fg at q;omega).symm
 refine dF aj 6 [] (mc 0 U mn) U<|rS (CL (jM l.b_ 0 ((l.ai.length:Int)-1)) (aA) U)<|aq aj 3 ?_;refine bK (t:=34) U (aK fun V=>?_) (aJ fun V=>?_)
 ·exact cr aj 20 hQ U U<|cB (bg fun h=>by have q:=h.head;unfold fg at q;omega).symm
 refine dF aj 2 [] (mc 0 U mn) U<|rS (CL (jM l.eZ 0 3) (aA) U)<|aq aj 3 ?_;refine bK (t:=40) U (aK fun W=>?_) (aJ fun W=>?_)
 ·exact cr aj 14 hQ U U<|cB (bg fun h=>by have q:=h.head;unfold fg at q;omega).symm
 refine dF aj 2 [] (mc 0 U mn) U<|rS (CL (jM l.dp 0 3) (aA) U)<|aq aj 4 ?_;refine bY U (aK fun X=>?_) (aJ fun X=>?_)
 ·exact cr aY 6 hQ U U<|cB (bg fun h=>by have q:=h.head;unfold fg at q;omega).symm
 refine aq aY 9 ?_;have A:(0≤l.aC.length)∧(∀ (j:Nat) y,j<0→l.aC[j]? =some y→fD y):=by exact ⟨c4 _,fun j y hj=>absurd hj (s4 _)⟩
 refine bw (ι:={z:Nat // (z≤l.aC.length)∧(∀ (j:Nat) y,j<z→l.aC[j]? =some y→fD y)}) [1] [0,1,2,3,4] U U (fun z=>[(3,(vI (z.1:Int)))]) (fun z=>[]) (fun _=>rfl) (fun _=>rfl) (fun z=>l.aC.length-z.1) ⟨0,A⟩ (aN U) (aB [0,1,2,3,4]) ?_;clear A;rintro ⟨i,⟨c,E⟩⟩ J13 AB
 try dsimp only
 refine ck bT 10 [] (mc 0 U mn) ?_;refine bY U (aG fun Y=>?_) (aH fun Y=>?_)
 ·refine ck aY 9 [] (mc 0 U mn) ?_;obtain ⟨x,hx⟩:=ay l.aC i I;obtain ⟨xa,H⟩:=ay az i I;have e:(zipWith aS.cells l.aC az)[i]? =some (aS.cells x xa):=cE hx H;refine rS (IA i U (av 2 U) xq dc I I)<|rS (k8 i 0 (dE.cells (dE.mk x.dI (aX.mk xa.1 x.bo.length xa.2))) U bP (av 2 U) e U dc U U) ?_;have u:=(hin.UP _ _ _ hx H).2;refine rS (CL (MU x xa.1 xa.2 asm) (aw (show ig _ (qK xa.1 x.bo).holds from (ct 3 U (bq hx H (by simp [aS.lf]))))<|aA) U)<|aq aj 3 ?_;refine bE U (aJ fun G=>?_) (aK fun G=>?_)
  ·refine aq aY 8 ?_;have L:(vI (((i+1):Nat):Int))=(vI ((i:Int)+1)):=by exact cI I
   refine aL (AB ⟨(i+1),⟨I,nK (P:=fun _ y=>fD y) E hx G⟩⟩ _ _ _ U os (cV.cons U<|aQ U L<|cV.nil _) (aB [0,1,2,3,4]))
  exact cr aY 6 hQ U U<|cB (bg fun h=>G (h.clock _ (aF hx))).symm
 refine aU aY 1 U<|aq fz 9 ?_;have A:(0≤l.ai.length)∧(∀ (j:Nat) y,j<0→l.ai[j]? =some y→lj l y):=by exact ⟨c4 _,fun j y hj=>absurd hj (s4 _)⟩
 refine bw (ι:={z:Nat // (z≤l.ai.length)∧(∀ (j:Nat) y,j<z→l.ai[j]? =some y→lj l y)}) [1] [0,1,2,3,4] U U (fun z=>[(4,(vI (z.1:Int)))]) (fun z=>[]) (fun _=>rfl) (fun _=>rfl) (fun z=>l.ai.length-z.1) ⟨0,A⟩ (aN U) (aB [0,1,2,3,4]) ?_;clear A;rintro ⟨m,⟨d,B⟩⟩ J22 J
 try dsimp only
 refine ck bT 10 [] (mc 0 U mn) ?_;refine bE U (aH fun Z=>?_) (aG fun Z=>?_)
 ·refine aU aY 1 U<|aq fz 9 ?_;have A:(0≤l.ai.length)∧(∀ j,j<0→1≤mM l j):=by exact ⟨c4 _,fun j hj=>absurd hj (s4 _)⟩
  refine bw (ι:={z:Nat // (z≤l.ai.length)∧(∀ j,j<z→1≤mM l j)}) [1] [0,1,2,3,4] U U (fun z=>[(5,(vI (z.1:Int)))]) (fun z=>[]) (fun _=>rfl) (fun _=>rfl) (fun z=>l.ai.length-z.1) ⟨0,A⟩ (aN U) (aB [0,1,2,3,4]) ?_;clear A;rintro ⟨n,⟨R,C⟩⟩ J32 K
  try dsimp only
  have k:=Au (P:=lj l) I B;refine ck bT 10 [] (mc 0 U mn) ?_;refine bE U (aH fun b=>?_) (aG fun b=>?_)
  ·exact aU aY 1 U<|cr fz 8 hQ U U<|cB (cR (CM (by unfold fg;omega) (Au I E) (Au I B) (fun j hj=>C j I))).symm
  refine dF aY 8 [] (mc 0 U mn) U<|rS (CL (Nb l kA kC az cA cC bA bC (n:Int) hin htr asm I) (aP [1,2,3,4]) U)<|aq aj 3 ?_;refine bE U (aH fun D=>?_) (aG fun D=>?_)
  ·refine aq aY 8 ?_;have N:(vI (((n+1):Nat):Int))=(vI ((n:Int)+1)):=by exact cI I
   refine aL (K ⟨(n+1),⟨I,fun j hj=>by rcases r4 j n with q|q;exact C j q;(obtain rfl:j=n:=by omega);simp only [AAP] at D;omega⟩⟩ _ _ _ rfl os (cV.cons rfl<|aQ rfl N<|cV.nil _) (aB [0,1,2,3,4]))
  exact cr aY 6 hQ U U<|cB (bg fun h=>by have q:=h.Um n I;simp only [AAP] at D;omega).symm
 refine aU aY 5 U<|cL bX 24 kr<|iQ 1 U<|dS (LP (aZ.cells (aZ.mk (aX.mk kA l.bQ.length kC))) 0 U bP U U U)<|dP 3 [] (mc 0 U mn) ?_;obtain ⟨y,hy⟩:=ay l.ai m I;have O:=bx df.cells hy;refine dS (IA m U (av 4 U) wx dc I I)<|dS (p9 (m*4) U (av 4 U) (e6 I dc) eB U)<|dS (k8 m 0 (cY.cells y.mz) U bP (av 4 U) O U dc U U)<|dS (CL (tT l.bQ kA kC y.mz asm asm) (aP [1]) U)<|dP 2 [] mn ?_;refine iI (t:=77) U (aK fun F=>?_) (aJ fun F=>?_)
 ·exact iQ 13 U<|cy<|cr aj 9 hQ U U<|cB (bg fun h=>by have q:=h.vJ _ (aF hy);have w:=q.2;first|exact F q.1|omega).symm
 refine jY 3 [] (mc 0 U mn) U<|dS (IA m U (av 4 U) wx dc I I)<|dS (p9 ((m*4)+3) U (av 4 U) (e6 I dc) eB U)<|dS (gF m 3 (vI y.kD) U bP (av 4 U) O U dc U)<|jY 4 [] (mc 0 U mn) U<|dS (CL (jM y.kD 0 ((l.aC.length:Int)-1)) (aA) U)<|iQ 2 U<|cy<|aq aj 2 ?_;refine bE U (aJ fun a=>?_) (aK fun a=>?_)
 ·refine aq aY 8 ?_;have M:(vI (((m+1):Nat):Int))=(vI ((m:Int)+1)):=by exact cI I
  refine aL (J ⟨(m+1),⟨I,nK (P:=fun _ y=>lj l y) B hy ⟨F,I,I⟩⟩⟩ _ _ _ U os (cV.cons U<|aQ U M<|cV.nil _) (aB [0,1,2,3,4]))
 exact cr aY 6 hQ U U<|cB (bg fun h=>by have q:=h.vJ _ (aF hy);have w:=q.2;first|exact F q.1|omega).symm
end
section
open Go.RowKit
variable (l:bf) (kA:OA) (kC:Nat) (az:List RA) (cA:OA) (cC:Nat) (bA:OA) (bC:Nat) (s:aR)
theorem w5 (hin:dX l az):
 dh Tryz.prog 42 [(vA (bV.cells (kO l kA kC cA cC bA bC)))] (rr l kA az cA bA) (vI (dU l)):=by
 have F:=hin.sQ;have E:=hin.sR;have C:=hin.mE;have D:=hin.sP;refine bj kr Tryz.func42 U U fun H Q hQ hN=>?_
 try dsimp only
 refine aU bT 2 U<|dV U fun G=>aU aj 7 U<|rS (LP (aZ.cells (aZ.mk (aX.mk kA l.bQ.length kC))) 0 U bP U U U)<|rS (CL (yW l.bQ kA kC asm) (aP [1]) U)<|aq aj 3 ?_;refine bY U (fun A=>?_) (fun A=>?_)
 ·rw [e0] at A;exact cr aY 6 hQ U U<|cI (Cv (by simpa using A)).symm
 rw [m5] at A;refine dF aY 6 [] (mc 0 U mn) U<|rS (CL (Q8 l kA kC az cA cC bA bC hin asm) (aP [1,2,3,4]) U)<|aq aj 3 ?_;refine bY U (aK fun B=>?_) (aJ fun B=>?_)
 ·exact cr aY 6 hQ U U<|cI (tL A B).symm
 exact cr aY 8 hQ U U<|cI (z5 A B).symm
theorem Tl (hin:dX l az) (hok:nz l) (hs:(0≤s.fR∧s.fR≤(l.ai.length:Int)-1)∧0≤s.Read∧s.Read≤86400000):
 dh Tryz.prog 266 [(vA (bV.cells (kO l kA kC cA cC bA bC))),(vA (aR.cells s))] (rr l kA az cA bA) (vT [(vA (aa.cells (dw l s))),(vB (decide ((dw l s).Lo≤(dw l s).Hi)))]):=by
 have c:=hin.sQ;have Z:=hin.sR;have X:=hin.mE;have Y:=hin.sP;refine bj kr Tryz.func266 U U fun k Q hQ hN=>?_
 try dsimp only
 refine aU bT 2 U<|dV U fun g=>dV U fun h=>AL U dD fun i=>aq aj 4 ?_;refine cT bX [11,12] [] [] [0,1,2,3,4,5,6] [] U U U U U<|eS U (FA 2 U eB U)<|eS U (L1 (vS cA l.aC.length cC) 2 U bP U U)<|eS U (FA 3 U eB U)<|eS U (L1 (vS bA l.ai.length bC) 2 U bP U U)<|eS U (FA 0 U eB U)<|eS U (L1 (vI s.fR) 1 U bP U U) ?_;obtain ⟨y,hy⟩:=ay l.ai ((s.fR).toNat) I;have V:=bx df.cells hy;refine eS U (IA ((s.fR).toNat) U (av 6 U) wx dc I I)<|eS U (p9 ((((s.fR).toNat)*4)+3) U (av 6 U) (e6 I dc) eB U)<|eS U (gF ((s.fR).toNat) 3 (vI y.kD) U bP (av 6 U) V U dc U) ?_;have f:=(hok.vJ _ (aF hy)).2;obtain ⟨x,hx⟩:=ay l.aC ((y.kD).toNat) I;obtain ⟨xa,J⟩:=ay az ((y.kD).toNat) I;have AA:(zipWith aS.cells l.aC az)[(y.kD).toNat]? =some (aS.cells x xa):=cE hx J;refine eS U (IA ((y.kD).toNat) U (av 4 U) xq dc I I)<|eS U (k8 ((y.kD).toNat) 0 (dE.cells (dE.mk x.dI (aX.mk xa.1 x.bo.length xa.2))) U bP (av 4 U) AA U dc U U)<|dL U<|bR U fun T6 R=>AL U zJ fun j=>bG (R _ _ (aB [1,2,3,4,5,6,7]) ?_);refine bR U fun T8 S=>eM U CQ U<|bG (S _ _ (aB [1,2,3,4,5,6,7]) ?_);refine eI U<|aq jC 9 ?_;have A:(0≤(0:Int)∧(0:Int)≤(gT (iT x s.Read) 86400001))∧((gT (iT x s.Read) 86400001)≤(86400001:Int)∧(86400001:Int)≤86400001):=by (have L:=jG (p:=iT x s.Read) (n:=86400001);omega)
 refine bw (ι:={z:Int×Int // (0≤z.1∧z.1≤(gT (iT x s.Read) 86400001))∧((gT (iT x s.Read) 86400001)≤z.2∧z.2≤86400001)}) [2,3,4,6] [0,1,2,3,4,5,6,7] U U (fun z=>[(7,(vI z.1.1)),(8,(vI z.1.2))]) (fun z=>[]) (fun _=>rfl) (fun _=>rfl) (fun z=>(z.1.2-z.1.1).toNat) ⟨((0:Int),(86400001:Int)),A⟩ (aN U) (aB [0,1,2,3,4,5,6,7]) ?_;clear A;rintro ⟨⟨a,b⟩,⟨H,AB⟩⟩ J11 F
 try dsimp only at H AB
 try dsimp only
 have B:=hok.clock _ (aF hx);have L:=jG (p:=iT x s.Read) (n:=86400001);have K:=jG (p:=iS x s.Read) (n:=86400001);refine aq bT 8 ?_;refine bY U (aG fun M=>?_) (aH fun M=>?_)
 ·refine aU aY 8 U<|rS (BI U (sx I I I))<|aU aj 4 U<|cL bX 9 kr<|dP 3 [] (mc 0 U mn) ?_;refine dS (CL (Ei x xa.1 xa.2 ((a+b)/2) asm I) (aw (show ig _ (rd xa.1 x.bo.length 3 (x.bo.map cP.cells)).holds from (ct 6 U (bq hx J (by simp [aS.lf]))))<|aA) U)<|dS (SX (oY (v:=(vI ((jm x ((a+b)/2)).Hi))) U U eB PS U) U U) ?_;have T:=tv B (show 0≤(a+b)/2∧(a+b)/2≤90000000 by omega);refine jY 4 [] (mc 2 U mn) U<|cy<|aq aj 2 ?_;refine bY U (aG fun O=>?_) (aH fun O=>?_)
  ·refine aq aY 5 ?_;refine aL (F ⟨(a,((a+b)/2)),(by dsimp only;have hm:=mC (r:=s.Read) B (x:=(a+b)/2) I I;rcases AAe ((a+b)/2) (gT (iT x s.Read) 86400001) with q|q;(have C:=hm.1 q;simp only [iT,AAz] at C;omega);(have C:=hm.2.1 q;simp only [iT,r0] at C;omega))⟩ _ _ _ rfl (by simp only [];omega) (aN rfl) (aB [0,1,2,3,4,5,6,7]))
  refine aq aY 6 ?_;refine aL (F ⟨((((a+b)/2)+1),b),(by dsimp only;have hm:=mC (r:=s.Read) B (x:=(a+b)/2) I I;rcases AAe ((a+b)/2) (gT (iT x s.Read) 86400001) with q|q;(have C:=hm.1 q;simp only [iT,AAz] at C;omega);(have C:=hm.2.1 q;simp only [iT,r0] at C;omega))⟩ _ _ _ rfl (by simp only [];omega) (aN rfl) (aB [0,1,2,3,4,5,6,7]))
 refine aU aY 1 U<|aq fz 16 ?_;have A:(-1≤((-1):Int)∧((-1):Int)≤(gT (iS x s.Read) 86400001)-1)∧((gT (iS x s.Read) 86400001)-1≤(86400000:Int)∧(86400000:Int)≤86400000):=by (have K:=jG (p:=iS x s.Read) (n:=86400001);omega)
 refine bw (ι:={z:Int×Int // (-1≤z.1∧z.1≤(gT (iS x s.Read) 86400001)-1)∧((gT (iS x s.Read) 86400001)-1≤z.2∧z.2≤86400000)}) [2,3,4,6,10] [0,1,2,3,4,5,6,7] U U (fun z=>[(7,(vI z.1.1)),(8,(vI z.1.2))]) (fun z=>[]) (fun _=>rfl) (fun _=>rfl) (fun z=>(z.1.2-z.1.1).toNat) ⟨(((-1):Int),(86400000:Int)),A⟩ (aN U) (aB [0,1,2,3,4,5,6,7]) ?_;clear A;rintro ⟨⟨d,e⟩,⟨D,E⟩⟩ J20 G
 try dsimp only at D E
 try dsimp only
 have B:=hok.clock _ (aF hx);have L:=jG (p:=iT x s.Read) (n:=86400001);have K:=jG (p:=iS x s.Read) (n:=86400001);refine aq bT 8 ?_;refine bE U (aH fun N=>?_) (aG fun N=>?_)
 ·refine aU aY 1 U<|aU fz 6 U<|rS (SX (aW (xs:=[(0,.tmp 63),(1,.tmp 64)]) (cs:=(aa.cells (aa.mk a d))) U U (aV gQ U)) U U)<|aU aj 3 U<|o_ U cK U<|aq aj 4 ?_;refine mP hQ [0] (mc 1 U mn) U ?_;have W:dw l s=⟨a,d⟩:=by (unfold dw ET;rw [zk hy hx,show a=(gT (iT x s.Read) 86400001) by omega,show d=(gT (iS x s.Read) 86400001)-1 by omega])
  rw [W]
 refine aU aY 9 U<|rS (BI U (sx I I I))<|aU aj 4 U<|cL bX 9 kr<|dP 3 [] (mc 0 U mn) ?_;refine dS (CL (Ei x xa.1 xa.2 (((d+e)+1)/2) asm I) (aw (show ig _ (rd xa.1 x.bo.length 3 (x.bo.map cP.cells)).holds from (ct 6 U (bq hx J (by simp [aS.lf]))))<|aA) U)<|dS (SX (oY (v:=(vI ((jm x (((d+e)+1)/2)).Lo))) U U eB Dk U) U U) ?_;have T:=tv B (show 0≤(d+e+1)/2∧(d+e+1)/2≤90000000 by omega);refine jY 4 [] (mc 2 U mn) U<|cy<|aq aj 2 ?_;refine bY U (aG fun P=>?_) (aH fun P=>?_)
 ·refine aq aY 5 ?_;refine aL (G ⟨((((d+e)+1)/2),e),(by dsimp only;have hm:=mC (r:=s.Read) B (x:=(d+e+1)/2) I I;rcases AAe ((d+e+1)/2) (gT (iS x s.Read) 86400001) with q|q;(have C:=hm.2.2.1 q;simp only [iS,AAz] at C;omega);(have C:=hm.2.2.2 q;simp only [iS,r0] at C;omega))⟩ _ _ _ rfl (by simp only [];omega) (aN rfl) (aB [0,1,2,3,4,5,6,7]))
 refine aq aY 6 ?_;refine aL (G ⟨(d,((((d+e)+1)/2)-1)),(by dsimp only;have hm:=mC (r:=s.Read) B (x:=(d+e+1)/2) I I;rcases AAe ((d+e+1)/2) (gT (iS x s.Read) 86400001) with q|q;(have C:=hm.2.2.1 q;simp only [iS,AAz] at C;omega);(have C:=hm.2.2.2 q;simp only [iS,r0] at C;omega))⟩ _ _ _ rfl (by simp only [];omega) (aN rfl) (aB [0,1,2,3,4,5,6,7]))
end
section
open Go.RowKit
theorem Rx (l:bf) (kA:OA) (kC:Nat) (az:List RA) (cA:OA) (cC:Nat) (bA:OA) (bC:Nat) (r:c_) (sgA:OA) (sgC:Nat) (hin:dX l az) (hsl:r.ab.length≤1000000):
 dh Tryz.prog 253 [(vA (bV.cells (kO l kA kC cA cC bA bC))),(vA (dA.cells (jP r sgA sgC)))] ((rr l kA az cA bA)++[(ke sgA r.ab)]) (vB (decide (gp l r))):=by
 have a:=hin.sQ;have Z:=hin.sR;have X:=hin.mE;have Y:=hin.sP;refine bj kr Tryz.func253 U U fun d Q hQ hN=>?_
 try dsimp only
 refine aU bT 2 U<|dV U fun b=>dV U fun c=>dF aj 8 [] (mc 0 U mn) U<|rS (CL (jM r.Start 0 86400000) (aA) U)<|aq aj 2 ?_;refine bK (t:=11) U (aK fun AB=>?_) (aJ fun AB=>?_)
 ·exact cr aj 22 hQ U U<|cB (bg fun q=>by have B:=q.time;have V:=q.len;omega).symm
 refine dF aj 4 [] (mc 0 U mn) U<|rS (CL (jM r.hP r.Start 86400000) (aA) U)<|aq aj 3 ?_;refine bK (t:=19) U (aK fun K=>?_) (aJ fun K=>?_)
 ·exact cr aj 14 hQ U U<|cB (bg fun q=>by have B:=q.time;have V:=q.len;omega).symm
 refine ck aj 7 [] (mc 0 U mn) ?_;refine bY U (aG fun L=>?_) (aH fun L=>?_)
 ·exact cr aY 6 hQ U U<|cB (bg fun q=>by have B:=q.time;have V:=q.len;omega).symm
 refine aq aY 9 ?_;have D:(0≤r.ab.length)∧(qt l r.ab 0):=by exact ⟨c4 _,yi⟩
 refine bw (ι:={z:Nat // (z≤r.ab.length)∧(qt l r.ab z)}) [2,3] [0,1,2,3,4,5,6] U U (fun z=>[(5,(vI (z.1:Int)))]) (fun z=>[]) (fun _=>rfl) (fun _=>rfl) (fun z=>r.ab.length-z.1) ⟨0,D⟩ (aN U) (aB [0,1,2,3,4,5,6]) ?_;clear D;rintro ⟨i,⟨T,A⟩⟩ J11 C
 try dsimp only
 refine ck bT 10 [] (mc 0 U mn) ?_;refine bE U (aH fun J=>?_) (aG fun J=>?_)
 ·exact aU aY 1 U<|cr fz 8 hQ U U<|cB (cR (zy I I A I)).symm
 refine ck aY 9 [] (mc 0 U mn) ?_;obtain ⟨x,hx⟩:=ay r.ab i I;have AA:=bx aR.cells hx;refine rS (IA i U (av 6 U) zE dc I I)<|rS (k8 i 0 (aR.cells x) U bP (av 6 U) AA U dc U U)<|AL U Nt fun W=>eM U xG U<|dF aj 11 [0,1] (mc 0 U (mc 2 U mn)) U<|rS (CL (jM x.fR 0 ((l.ai.length:Int)-1)) (aA) U)<|aq aj 2 ?_;refine bK (t:=45) U (aK fun M=>?_) (aJ fun M=>?_)
 ·exact cr aj 14 hQ U U<|cB (bg fun q=>by have B:=q.sig i x hx;unfold j3 k7 at B;omega).symm
 refine dF aj 2 [] (mc 0 U mn) U<|rS (CL (jM x.Read 0 86400000) (aA) U)<|aq aj 4 ?_;refine bY U (aK fun N=>?_) (aJ fun N=>?_)
 ·exact cr aY 6 hQ U U<|cB (bg fun q=>by have B:=q.sig i x hx;unfold j3 k7 at B;omega).symm
 refine aU aY 3 U<|cL bX 38 kr<|dP 3 [] mn ?_;refine iM (t:=53) U (aH fun O=>?_) (aG fun O=>?_)
 ·refine iQ 35 U<|cy<|aq aj 11 ?_;have H:(vI (((i+1):Nat):Int))=(vI ((i:Int)+1)):=by exact cI I
  refine aL (C ⟨(i+1),⟨I,kb A hx (by unfold j3 k7;(rw [Ka I];simp only;omega))⟩⟩ _ _ _ U os (cV.cons U<|cV.cons U<|aQ U H<|cV.nil _) (aB [1,2,3,4,5,6,7]))
 refine dP 6 [0,1] (mc 0 U (mc 1 U mn)) ?_;obtain ⟨y,hy⟩:=ay r.ab (i-1) I;have E:=bx aR.cells hy;refine dS (IA (i-1) U (av 7 U) zE dc I I)<|dS (p9 ((i-1)*2) U (av 7 U) (e6 I dc) eB U)<|dS (gF (i-1) 0 (vI y.fR) U bP (av 7 U) E U dc U)<|dP 2 [] mn ?_;refine iI (t:=64) U (aG fun P=>?_) (aH fun P=>?_)
 ·exact iQ 24 U<|cy<|cr aj 9 hQ U U<|cB (bg fun q=>by have B:=q.sig i x hx;unfold j3 k7 at B;(rw [tU I hy] at B;omega)).symm
 refine jY 6 [0,1] (mc 0 U (mc 1 U mn)) U<|dS (IA (i-1) U (av 7 U) zE dc I I)<|dS (p9 ((i-1)*2) U (av 7 U) (e6 I dc) eB U)<|dS (gF (i-1) 0 (vI y.fR) U bP (av 7 U) E U dc U)<|dP 2 [] mn ?_;refine iM (t:=75) U (aH fun R=>?_) (aG fun R=>?_)
 ·refine iQ 13 U<|cy<|aq aj 11 ?_;have G:(vI (((i+1):Nat):Int))=(vI ((i:Int)+1)):=by exact cI I
  refine aL (C ⟨(i+1),⟨I,kb A hx (by unfold j3 k7;(rw [tU I hy];omega))⟩⟩ _ _ _ U os (cV.cons U<|cV.cons U<|aQ U G<|cV.nil _) (aB [1,2,3,4,5,6,7]))
 refine jY 6 [0,1] (mc 0 U (mc 1 U mn)) U<|dS (IA (i-1) U (av 7 U) zE dc I I)<|dS (p9 (((i-1)*2)+1) U (av 7 U) (e6 I dc) eB U)<|dS (gF (i-1) 1 (vI y.Read) U bP (av 7 U) E U dc U)<|iQ 4 U<|cy<|aq aj 2 ?_;refine bY U (aG fun S=>?_) (aH fun S=>?_)
 ·exact cr aY 6 hQ U U<|cB (bg fun q=>by have B:=q.sig i x hx;unfold j3 k7 at B;(rw [tU I hy] at B;omega)).symm
 refine aq aY 8 ?_;have F:(vI (((i+1):Nat):Int))=(vI ((i:Int)+1)):=by exact cI I
 refine aL (C ⟨(i+1),⟨I,kb A hx (by unfold j3 k7;(rw [tU I hy];omega))⟩⟩ _ _ _ U os (cV.cons U<|cV.cons U<|aQ U F<|cV.nil _) (aB [1,2,3,4,5,6,7]))
end
section
open Go.RowKit
variable (l:bf) (kA:OA) (kC:Nat) (az:List RA) (cA:OA) (cC:Nat) (bA:OA) (bC:Nat) (r:c_) (sgA:OA) (sgC:Nat)
theorem Rd (hin:dX l az) (hle:dU l=0) (hr:gp l r):
 ld Tryz.prog 255 [(vA (bV.cells (kO l kA kC cA cC bA bC))),(vA (dA.cells (jP r sgA sgC)))] ((rr l kA az cA bA)++[(rd sgA r.ab.length 2 (r.ab.map aR.cells))]) (fun (x:(OA)×Nat×(OA)×Nat×(OA)×Nat)=>(vA (jv.cells (jv.mk (aX.mk x.1 ((cv l l.ai.length).length) x.2.1) (aX.mk x.2.2.1 ((fp l r r.ab.length).length) x.2.2.2.1) (aX.mk x.2.2.2.2.1 ((fQ l r r.ab.length).length) x.2.2.2.2.2))))) (fun (x:(OA)×Nat×(OA)×Nat×(OA)×Nat)=>True) (fun (x:(OA)×Nat×(OA)×Nat×(OA)×Nat)=>[(own x.1 x.2.1 3 1 ((cv l l.ai.length).map iC)),(own x.2.2.1 x.2.2.2.1 38 2 ((fp l r r.ab.length).map aa.cells)),(own x.2.2.2.2.1 x.2.2.2.2.2 4 1 ((fQ l r r.ab.length).map sG))]):=by
 have q:=hin.sQ;have m:=hin.sR;have j:=hin.mE;have k:=hin.sP;obtain ⟨d,S⟩:=er hle;have X:=S.head;unfold fg at X;have o:=hr.len;have p:=hr.time;refine cU kr Tryz.func255 U U fun w Q hQ hN=>?_
 try dsimp only
 refine aU bT 2 U<|dV U fun t=>dV U fun u=>AL U Uo fun v=>aU aj 4 U<|AL U Uo fun T=>aq aj 9 ?_;refine eC 3 1 ?_;have A:(0≤l.ai.length):=by exact c4 _
 refine bw (ι:={z:Nat×(OA)×Nat // (z.1≤l.ai.length)}) [2,3,4,5] [2,3,4,5,6,7,8,9] U U (fun z=>[(6,(vI (z.1.1:Int)))]) (fun z=>[(own z.1.2.1 z.1.2.2 3 1 ((cv l z.1.1).map iC)),(cb T 365 (jv.cells (jv.mk (aX.mk z.1.2.1 ((cv l z.1.1).length) z.1.2.2) (aX.mk none 0 0) (aX.mk none 0 0))))]) (fun _=>rfl) (fun _=>rfl) (fun z=>l.ai.length-z.1.1) ⟨(0,none,0),A⟩ (aN U) (aB [2,3,4,5,6,7,8,9,0,1]) ?_;clear A;rintro ⟨⟨b,a,c⟩,F⟩ J9 W
 try dsimp only at F
 try dsimp only
 refine ck bT 10 [] (mc 2 U mn) ?_;refine bY U (aG fun AA=>?_) (aH fun AA=>?_)
 ·refine aq aY 4 ?_;refine cT bX [5,6,8] [1] [0] [0,1,2,3,4,5,6,7] [0,1,2,3,4,5,6,7,8,9] U U U U U<|eS U (FA 0 U eB U)<|fS U (L1 (vS a ((cv l b).length) c) 9 U bP U U)<|eS U (LW 2 U bP U U)<|eS U (MV U) ?_;have n:=o1 d S (i:=b) I;refine eS U (CL (Nn l kA kC az cA cC bA bC (b:Int) hin asm asm I) (aP [3,4,5,6]) U)<|eS U (FA 0 U eB U)<|dL U<|gr U fun T14 K=>dC (xs:=[.tmp 21]) (cs:=[(vI (ew l (b:Int).toNat))]) U cO jU U U U U (by simp [Value.cells]) U U fun e=>bG (K _ _ (aB [1,2,3,4,5,6,7,8]) (aB [1,2,3,4,5,6,7,8,9,10]) ?_);refine bR U fun T16 L=>?_;refine de (es2:=(map iC (cv l (b+1)))) (m':=(cv l (b+1)).length) 9 U U U pG U U sm (aM (es:=map iC [(ew l (b:Int).toNat)]) 0 U U (by simp [br]) U) (j_ _) (by simp only [dH];omega) (by simp only [maxLen,dH];omega) (by rw [tD];simp) sm U fun H AB=>?_
  try dsimp only
  refine bG (L _ _ (aB [1,2,3,4,5,6,7,8]) ?_);refine bR U fun T19 M=>aaf (jv.cells (jv.mk (aX.mk H ((cv l (b+1)).length) AB) (aX.mk none 0 0) (aX.mk none 0 0))) U wk U U<|bG (M _ _ (aB [1,2,3,4,5,6,7,8]) ?_);refine eI U<|aq jC 7 ?_;have P:(vI (((b+1):Nat):Int))=(vI ((b:Int)+1)):=by exact cI I
  refine aL (W ⟨((b+1),H,AB),(by first|omega|(simp only [];omega))⟩ _ _ _ U os (cx 4<|aQ U P<|cV.nil _) (aB [1,2,3,4,5,6,7,8,9,10]))
 refine aU aY 1 U<|aq fz 5 ?_;rw [show cv l b=(cv l l.ai.length) from by rw [show b=l.ai.length by omega]];refine aq aj 4 ?_;refine eC 38 2<|eC 4 1 ?_;have A:(0≤r.ab.length):=by exact c4 _
 refine bw (ι:={z:Nat×(OA)×Nat×(OA)×Nat // (z.1≤r.ab.length)}) [2,3,4,5] [2,3,4,5,6,7,8,9,10] U U (fun z=>[(7,(vI (z.1.1:Int)))]) (fun z=>[(own z.1.2.2.2.1 z.1.2.2.2.2 4 1 ((fQ l r z.1.1).map sG)),(own z.1.2.1 z.1.2.2.1 38 2 ((fp l r z.1.1).map aa.cells)),(cb T 365 (jv.cells (jv.mk (aX.mk a ((cv l l.ai.length).length) c) (aX.mk z.1.2.1 ((fp l r z.1.1).length) z.1.2.2.1) (aX.mk z.1.2.2.2.1 ((fQ l r z.1.1).length) z.1.2.2.2.2))))]) (fun _=>rfl) (fun _=>rfl) (fun z=>r.ab.length-z.1.1) ⟨(0,none,0,none,0),A⟩ (aN U) (aB [2,3,4,5,6,7,8,9,10,0,1,11]) ?_;clear A;rintro ⟨⟨i,ta,tc,sa,sc⟩,G⟩ J23 J
 try dsimp only at G
 try dsimp only
 refine ck bT 10 [] (mc 1 U mn) ?_;refine bE U (aH fun V=>?_) (aG fun V=>?_)
 ·refine aU aY 1 U<|aq fz 4 ?_;rw [show fp l r i=(fp l r r.ab.length) from by rw [show i=r.ab.length by omega]];rw [show fQ l r i=(fQ l r r.ab.length) from by rw [show i=r.ab.length by omega]];refine dF aj 1 [] (mc 11 U mn) U<|eM U Zc U<|aq aj 3 ?_;refine LX hQ (a,c,ta,tc,sa,sc) [8,10,9] [0] (mc 0 U mn) U U U U ?_;trivial
 refine aq aY 5 ?_;refine cT bX [10,11] [] [] [0,1,2,3,4,5,6,7,8,9,10,11] [] U U U U U<|eS U (LW 2 U bP U U)<|eS U (FA 2 U eB U)<|eS U (L1 (vS sgA r.ab.length sgC) 1 U bP U U)<|eS U (MV U) ?_;obtain ⟨s,hs⟩:=ay r.ab i I;have Z:=bx aR.cells hs;refine eS U (IA i U (av 7 U) zE dc I I)<|eS U (k8 i 0 (aR.cells s) U bP (av 7 U) Z U dc U U) ?_;have Y:=(hr.sig i s hs).1;refine eS U (CL (Tl l kA kC az cA cC bA bC s hin asm (by exact Y)) (aP [3,4,5,6]) U)<|eS U (MV U)<|eS U (EX U)<|eS U (EX U)<|eS U (AG U)<|dL U<|bR U fun T29 N=>AL U dD fun f=>bG (N _ _ (aB [1,2,3,4,5,6,7,8,9,10,11,12]) ?_);refine bR U fun T31 O=>eM U cK U<|bG (O _ _ (aB [1,2,3,4,5,6,7,8,9,10,11,12]) ?_);refine eI U<|ck jC 6 [0,1] (mc 12 U (mc 0 U mn)) ?_;refine dC (xs:=[.tmp 44]) (cs:=(aa.cells (dw l s))) U iv dD U U U U (by simp [Value.cells,aa.aD]) U U fun g=>?_;refine de (es2:=(map aa.cells (fp l r (i+1)))) (m':=(fp l r (i+1)).length) 12 U U U CB U U sm (aM (es:=map aa.cells [(dw l s)]) 0 U U (by simp [aa.aD]) U) (jE _) (by rw [ua I];omega) (by rw [ua I];simp only [maxLen];omega) (by rw [HD hs];simp) sm U fun B C=>?_
 try dsimp only
 refine aU aj 1 U<|im (vs:=[(vS B ((fp l r (i+1)).length) C)]) (cs':=(jv.cells (jv.mk (aX.mk a ((cv l l.ai.length).length) c) (aX.mk B ((fp l r (i+1)).length) C) (aX.mk sa ((fQ l r i).length) sc)))) (C':=[_,_,_,_,_,_,_,_,_,_,_,_,_,(cb T 365 (jv.cells (jv.mk (aX.mk a ((cv l l.ai.length).length) c) (aX.mk B ((fp l r (i+1)).length) C) (aX.mk sa ((fQ l r i).length) sc))))]) 13 U U U Pa U U U U U U U<|ck aj 6 [] (mc 13 U mn) ?_;refine dC (xs:=[.tmp 50]) (cs:=[(vB (decide ((dw l s).Lo≤(dw l s).Hi)))]) U Uv tz4 U U U U (by simp [Value.cells]) U U fun h=>?_;refine de (es2:=(map sG (fQ l r (i+1)))) (m':=(fQ l r (i+1)).length) 12 U U U Zm U U sm (aM (es:=map sG [(decide ((dw l s).Lo≤(dw l s).Hi))]) 0 U U (by simp [Dh]) U) (Lh _) (by rw [xY I];omega) (by rw [xY I];simp only [maxLen];omega) (by rw [HM hs];simp) sm U fun D E=>?_
 try dsimp only
 refine aU aj 1 U<|im (vs:=[(vS D ((fQ l r (i+1)).length) E)]) (cs':=(jv.cells (jv.mk (aX.mk a ((cv l l.ai.length).length) c) (aX.mk B ((fp l r (i+1)).length) C) (aX.mk D ((fQ l r (i+1)).length) E)))) (C':=[_,_,_,_,_,_,_,_,_,_,_,_,_,_,(cb T 365 (jv.cells (jv.mk (aX.mk a ((cv l l.ai.length).length) c) (aX.mk B ((fp l r (i+1)).length) C) (aX.mk D ((fQ l r (i+1)).length) E))))]) 14 U U U YA U U U U U U U<|aq aj 8 ?_;have R:(vI (((i+1):Nat):Int))=(vI ((i:Int)+1)):=by exact cI I
 refine aL (J ⟨((i+1),B,C,D,E),(by first|omega|(simp only [];omega))⟩ _ _ _ U os (cx 4<|aQ U R<|cV.nil _) (aB [3,4,5,6,7,8,9,10,11,12,13,14]))
theorem Oh (l:bf) (wA:OA) (wC:Nat) (tA:OA) (tC:Nat) (bA:OA) (bC:Nat) (rs:List Int) (rsA:OA) (rsC:Nat) (hle:dU l=0) (hr:gp l r) (hn:rs.length≤l.ai.length) (hrs:∀ x∈rs,0≤x→x<(r.ab.length:Int)):
 ld Tryz.prog 264 [(vA (dA.cells (jP r sgA sgC))),(vA (jv.cells (jv.mk (aX.mk wA ((cv l l.ai.length).length) wC) (aX.mk tA ((fp l r r.ab.length).length) tC) (aX.mk bA ((fQ l r r.ab.length).length) bC)))),(vS rsA rs.length rsC)] [(rd sgA r.ab.length 2 (r.ab.map aR.cells)),(rd wA ((cv l l.ai.length).length) 1 ((cv l l.ai.length).map iC)),(rd tA ((fp l r r.ab.length).length) 2 ((fp l r r.ab.length).map aa.cells)),(rd bA ((fQ l r r.ab.length).length) 1 ((fQ l r r.ab.length).map sG)),(rd rsA rs.length 1 (rs.map iC))] (fun (x:(OA)×Nat)=>(vS x.1 ((kv l r rs).length) x.2)) (fun (x:(OA)×Nat)=>True) (fun (x:(OA)×Nat)=>[(own x.1 x.2 3 1 ((kv l r rs).map iC))]):=by
 obtain ⟨H,D⟩:=er hle;have X:=D.head;unfold fg at X;have m:=hr.len;have p:=hr.time;have Y:=Ih (l:=l) (rs:=rs) ⟨I,I⟩ (fun b hb=>by have:=o1 H D (i:=b) I;omega) hrs;have g:=dH (l:=l) (n:=l.ai.length);have q:=ua (l:=l) (c9 r.ab.length);refine cU kr Tryz.func264 U U fun w0 Q hQ hN=>?_
 try dsimp only
 refine aU bT 2 U<|dV U fun w=>dV U fun b3=>aq aj 7 ?_;refine yv (n:=rs.length) (es:=(map iC (replicate rs.length 0))) U U U pG I I (by simp only [maxLen];omega) (by rw [AAy];rfl) U fun E=>?_
 try dsimp only
 refine ck aj 20 [] (mc 2 U mn) ?_;rw [show (own (some ⟨E,0,none⟩) rs.length 3 1 (map iC (replicate rs.length 0)))=(own (some ⟨E,0,none⟩) rs.length 3 1 ((kY l r rs rs.length).map iC)) from by rw [KC]];have B:(rs.length≤rs.length):=by exact c9 _
 have W:(vI ((k6 l r rs rs.length).2))=(vI r.hP):=by rw [yc]
 refine bw (ι:={z:Nat // (z≤rs.length)}) [2,3,4,7] [1,2,3,4,5,6,7] U U (fun z=>[(8,(vI ((k6 l r rs z.1).2))),(9,(vI ((z.1:Int)-1)))]) (fun z=>[(own (some ⟨E,0,none⟩) rs.length 3 1 ((kY l r rs z.1).map iC))]) (fun _=>rfl) (fun _=>rfl) (fun z=>z.1) ⟨rs.length,B⟩ (aQ U W<|aN U) (aB [1,2,3,4,5,6,7,0]) ?_;clear B;rintro ⟨j,Z⟩ J10 F
 try dsimp only
 have h:=Ks (l:=l) (r:=r) (rs:=rs) (j:=j) I;refine aq bT 7 ?_;refine bE U (aH fun V=>?_) (aG fun V=>?_)
 ·refine aU aY 1 U<|aq fz 5 ?_;rw [show (Value.slice (some ⟨E,0,none⟩) rs.length rs.length)=(Value.slice (some ⟨E,0,none⟩) ((kv l r rs).length) rs.length) from by rw [show (kv l r rs).length=rs.length from tY _ _]];rw [show kY l r rs j=kv l r rs from by rw [show j=0 by omega];exact Hx];refine aq aj 4 ?_;refine LX hQ ((some ⟨E,0,none⟩),rs.length) [7] [] mn U U U U ?_;trivial
 refine aq aY 9 ?_;have e:=Y (rs.length-j) j I;obtain ⟨x,hx⟩:=ay rs (j-1) I;have T:=bx iC hx;refine rS (IA (j-1) U (av 6 U) cO dc I I)<|rS (gF (j-1) 0 (vI x) U bP (av 6 U) T U dc U)<|aq aj 3 ?_;refine bE U (aH fun A=>?_) (aG fun A=>?_)
 ·refine aq aY 7 ?_;obtain ⟨v,S⟩:=ay (kY l r rs j) (j-1) I;have hx25m:=bx iC S;refine rS (IA (j-1) U (ao (n:=rs.length) 7 U sq) cO dc I I) ?_;have M:((kY l r rs j).set (j-1) ((k6 l r rs j).2))=(kY l r rs (j-1)):=by (rw [← CO I hx];congr 1;unfold wq;(rw [c1 A];done))
  refine ej (k:=(j-1)) (o:=0) (vs:=[(vI ((k6 l r rs j).2))]) (es':=(map iC (kY l r rs (j-1)))) (C':=[_,_,_,_,_,_,_,(own (some ⟨E,0,none⟩) rs.length 3 1 (map iC (kY l r rs (j-1))))]) 7 U U U Gy U U U U hx25m U dc (by exact (AAl (f:=iC) (l:=(kY l r rs j)) (i:=(j-1)) (a:=(k6 l r rs j).2)).symm.trans (c7 _ M)) U<|ck aj 7 [] (mc 0 U mn) ?_;obtain ⟨y,hy⟩:=ay (cv l l.ai.length) (j-1) I;have AB:=bx iC hy;refine rS (IA (j-1) U (av 3 U) cO dc I I)<|rS (gF (j-1) 0 (vI y) U bP (av 3 U) AB U dc U) ?_;have C:=xQ hy;have G:=o1 H D (i:=j-1) I;rw [← C] at G;refine aq aj 10 ?_;have N:(vI ((k6 l r rs (j-1)).2))=(vI (((k6 l r rs j).2)-y)):=by exact cI (by rw [se I hx];simp only;unfold wq;rw [C];(rw [c1 A];done))
  have O:(vI ((((j-1):Nat):Int)-1))=(vI (((j:Int)-1)-1)):=by exact cI I
  refine aL (F ⟨(j-1),(by first|omega|(simp only [];omega))⟩ _ _ _ U os (cx 4<|aQ U N<|aQ U O<|cV.nil _) (aB [0,1,2,3,4,5,6,7]))
 refine cL bX 12 kr<|dP 5 [] (mc 0 U mn) ?_;refine dS (IA (j-1) U (av 6 U) cO dc I I)<|dS (gF (j-1) 0 (vI x) U bP (av 6 U) T U dc U) ?_;have t:=hrs x (aF hx) A;obtain ⟨z,hz⟩:=ay (fp l r r.ab.length) ((x).toNat) I;have d:=bx aa.cells hz;refine dS (IA ((x).toNat) U (av 4 U) iv dc I I)<|dS (p9 ((((x).toNat)*2)+1) U (av 4 U) (e6 I dc) eB U) ?_;obtain ⟨s,hs,AA⟩:=NY hz;have c:=zz l s;rw [← AA] at c;have P:QW l r x=z.Hi:=by rw [GY hs,AA]
 refine dS (gF ((x).toNat) 1 (vI z.Hi) U bP (av 4 U) d U dc U)<|dS (MN U)<|iQ 1 U<|cy<|aq aj 7 ?_;obtain ⟨u,R⟩:=ay (kY l r rs j) (j-1) I;have hx19m:=bx iC R;refine rS (IA (j-1) U (ao (n:=rs.length) 7 U sq) cO dc I I) ?_;have J:((kY l r rs j).set (j-1) (min ((k6 l r rs j).2) z.Hi))=(kY l r rs (j-1)):=by (rw [← CO I hx];congr 1;unfold wq;(rw [c0 A,P];done))
 refine ej (k:=(j-1)) (o:=0) (vs:=[(vI (min ((k6 l r rs j).2) z.Hi))]) (es':=(map iC (kY l r rs (j-1)))) (C':=[_,_,_,_,_,_,_,(own (some ⟨E,0,none⟩) rs.length 3 1 (map iC (kY l r rs (j-1))))]) 7 U U U Gy U U U U hx19m U dc (by exact (AAl (f:=iC) (l:=(kY l r rs j)) (i:=(j-1)) (a:=(min ((k6 l r rs j).2) z.Hi))).symm.trans (c7 _ J)) U<|ck aj 7 [] (mc 0 U mn) ?_;obtain ⟨y,hy⟩:=ay (cv l l.ai.length) (j-1) I;have AB:=bx iC hy;refine rS (IA (j-1) U (av 3 U) cO dc I I)<|rS (gF (j-1) 0 (vI y) U bP (av 3 U) AB U dc U) ?_;have C:=xQ hy;have G:=o1 H D (i:=j-1) I;rw [← C] at G;refine aq aj 10 ?_;have K:(vI ((k6 l r rs (j-1)).2))=(vI ((min ((k6 l r rs j).2) z.Hi)-y)):=by exact cI (by rw [se I hx];simp only;unfold wq;rw [C];(rw [c0 A,P];done))
 have L:(vI ((((j-1):Nat):Int)-1))=(vI (((j:Int)-1)-1)):=by exact cI I
 refine aL (F ⟨(j-1),(by first|omega|(simp only [];omega))⟩ _ _ _ U os (cx 4<|aQ U K<|aQ U L<|cV.nil _) (aB [0,1,2,3,4,5,6,7]))
end
section
open Go.RowKit
variable (l:bf) (kA:OA) (kC:Nat) (az:List RA) (cA:OA) (cC:Nat) (bA:OA) (bC:Nat) (r:c_) (sgA:OA) (sgC:Nat) (vwA:OA) (vwC:Nat) (vtA:OA) (vtC:Nat) (vbA:OA) (vbC k:Nat) (rs:List Int) (rA:OA) (rC:Nat) (fs:List Int) (fA:OA) (fC:Nat)
theorem Mm (hin:dX l az) (hle:dU l=0) (hr:gp l r) (hk:rs.length+k=l.ai.length) (hfl:fs.length=rs.length) (hst:r.Start≤g5 r.Start fs∧g5 r.Start fs≤r.hP) (hrs:∀ x∈rs,-1≤x∧x<(r.ab.length:Int)) (hrec:∀ (k2:Nat) (rs2:List Int) (rA2:OA) (rC2:Nat) (fs2:List Int) (fA2:OA) (fC2:Nat),(k2<k)→(rs2.length+k2=l.ai.length)→(fs2.length=rs2.length)→(r.Start≤g5 r.Start fs2∧g5 r.Start fs2≤r.hP)→(∀ x∈rs2,-1≤x∧x<(r.ab.length:Int))→IE Tryz.prog 254 [(vA (bV.cells (kO l kA kC cA cC bA bC))),(vA (dA.cells (jP r sgA sgC))),(vA (jv.cells (jv.mk (aX.mk vwA ((cv l l.ai.length).length) vwC) (aX.mk vtA ((fp l r r.ab.length).length) vtC) (aX.mk vbA ((fQ l r r.ab.length).length) vbC)))),(vS rA2 rs2.length rC2),(vS fA2 fs2.length fC2)] ((rr l kA az cA bA)++[(rd sgA r.ab.length 2 (r.ab.map aR.cells)),(rd vwA ((cv l l.ai.length).length) 1 ((cv l l.ai.length).map iC)),(rd vtA ((fp l r r.ab.length).length) 2 ((fp l r r.ab.length).map aa.cells)),(rd vbA ((fQ l r r.ab.length).length) 1 ((fQ l r r.ab.length).map sG))]) (bD [own rA2 rC2 3 1 (rs2.map iC),own fA2 fC2 3 1 (fs2.map iC)]) (fun (x:(OA)×Nat×(List mg))=>(vS x.1 ((jh l r k2 rs2 fs2).length) x.2.1)) (fun (x:(OA)×Nat×(List mg))=>x.2.2.length=(jh l r k2 rs2 fs2).length) (fun (x:(OA)×Nat×(List mg))=>(bD (bB dK.owns (jh l r k2 rs2 fs2) x.2.2++[own x.1 x.2.1 368 3 (zipWith dK.cells (jh l r k2 rs2 fs2) x.2.2)])))):
 IE Tryz.prog 254 [(vA (bV.cells (kO l kA kC cA cC bA bC))),(vA (dA.cells (jP r sgA sgC))),(vA (jv.cells (jv.mk (aX.mk vwA ((cv l l.ai.length).length) vwC) (aX.mk vtA ((fp l r r.ab.length).length) vtC) (aX.mk vbA ((fQ l r r.ab.length).length) vbC)))),(vS rA rs.length rC),(vS fA fs.length fC)] ((rr l kA az cA bA)++[(rd sgA r.ab.length 2 (r.ab.map aR.cells)),(rd vwA ((cv l l.ai.length).length) 1 ((cv l l.ai.length).map iC)),(rd vtA ((fp l r r.ab.length).length) 2 ((fp l r r.ab.length).map aa.cells)),(rd vbA ((fQ l r r.ab.length).length) 1 ((fQ l r r.ab.length).map sG))]) (bD [own rA rC 3 1 (rs.map iC),own fA fC 3 1 (fs.map iC)]) (fun (x:(OA)×Nat×(List mg))=>(vS x.1 ((jh l r k rs fs).length) x.2.1)) (fun (x:(OA)×Nat×(List mg))=>x.2.2.length=(jh l r k rs fs).length) (fun (x:(OA)×Nat×(List mg))=>(bD (bB dK.owns (jh l r k rs fs) x.2.2++[own x.1 x.2.1 368 3 (zipWith dK.cells (jh l r k rs fs) x.2.2)]))):=by
 have Lk:=hin.sQ;have K4:=hin.sR;have J9:=hin.mE;have K0:=hin.sP;obtain ⟨Go,BD⟩:=er hle;have Es:=BD.head;unfold fg at Es;have u:=hr.len;have LT:=hr.time;have LS:=dH (l:=l) (n:=l.ai.length);have L0:=ua (l:=l) (c9 r.ab.length);have Li:=xY (l:=l) (c9 r.ab.length);have L2:=wS rs;refine qq kr Tryz.func254 U U fun w0 Q hQ hN=>?_
 try dsimp only
 refine Ee 0 U U fun wz Sz hz=>?_
 try dsimp only
 refine aU bT 2 U<|dV U fun b2=>dV U fun b3=>dV U fun b4=>aq aj 23 ?_;have C:(0≤rs.length):=by exact c4 _
 have EU:(vI ((dT (rs.take 0)).right))=(vI 0):=by rfl
 refine bw (ι:={z:Nat // (z≤rs.length)}) [3,4,5,6,7,11,12] [0,1,2,3,4,5,6,7,8,9,10,11] U U (fun z=>[(13,(vI ((dT (rs.take z.1)).right))),(14,(vI (z.1:Int)))]) (fun z=>[]) (fun _=>rfl) (fun _=>rfl) (fun z=>rs.length-z.1) ⟨0,C⟩ (aQ U EU<|aN U) (aB [0,1,2,3,4,5,6,7,8,9,10,11]) ?_;clear C;rintro ⟨i,Fd⟩ J10 Z
 try dsimp only
 have GE:=wS (rs.take i);rw [k5] at GE;refine aq bT 8 ?_;refine bY U (aG fun DR=>?_) (aH fun DR=>?_)
 ·refine aq aY 8 ?_;obtain ⟨x,hx⟩:=ay rs i I;have G3:=bx iC hx;refine rS (IA i U (show ig _ (rd rA rs.length 1 (rs.map iC)).holds from (rE (c:=rC) (e:=3) 3 U sm sm)) cO dc I I)<|rS (gF i 0 (vI x) U bP (show ig _ (rd rA rs.length 1 (rs.map iC)).holds from (rE (c:=rC) (e:=3) 3 U sm sm)) G3 U dc U)<|aq aj 3 ?_;refine bE U (aH fun o=>?_) (aG fun o=>?_)
  ·refine aq aY 8 ?_;have Ap:(vI ((dT (rs.take (i+1))).right))=(vI ((dT (rs.take i)).right)):=by exact cI (by rw [wF hx];(rw [c1 o];exact Int.add_zero _))
   have A0:(vI (((i+1):Nat):Int))=(vI ((i:Int)+1)):=by exact cI I
   refine aL (Z ⟨(i+1),(by first|omega|(simp only [];omega))⟩ _ _ _ U os (cx 7<|aQ U Ap<|aQ U A0<|cV.nil _) (aB [0,1,2,3,4,5,6,7,8,9,10,11]))
  refine aq aY 12 ?_;have AC:(vI ((dT (rs.take (i+1))).right))=(vI (((dT (rs.take i)).right)+1)):=by exact cI (by rw [wF hx];(rw [c0 o];done))
  have AO:(vI (((i+1):Nat):Int))=(vI ((i:Int)+1)):=by exact cI I
  refine aL (Z ⟨(i+1),(by first|omega|(simp only [];omega))⟩ _ _ _ U os (cx 7<|aQ U AC<|aQ U AO<|cV.nil _) (aB [0,1,2,3,4,5,6,7,8,9,10,11]))
 refine aU aY 1 U<|aq fz 4 ?_;rw [show rs.take i=rs from c5 I];refine ck aY 9 [] (mc 2 U mn) ?_;refine bY U (aG fun Dn=>?_) (aH fun Dn=>?_)
 ·refine aU aY 2 U<|fT 368 3<|aq aj 4 ?_;refine DK (C1:=[(own none 0 368 3 [])]) hz [0] U U U<|VG (W:=jh l r k rs fs) ?_;rw [show (own none 0 368 3 [])=(own none 0 368 3 (zipWith dK.cells (jh l r k rs fs) [])) from by rw [pH I];rfl];refine LM hQ (none,0,[]) 0 [] mn U (by show List.all _ _=true;rw [ACO,su];rfl) U ?_ ?_
  ·exact (by rw [pH I];rfl)
  ·rw [pH I];rfl
 refine aq aY 2 ?_;refine nV (ι:={z:(OA)×Nat×(List mg)×(List au) // (Aw l r rs fs (rA,rC) (fA,fC) z.2.2.1 z.2.2.2)}) [3,4,5,6,7,12] [0,1,2,3,4,5,6,7,8,9,10,11] U U (fun z=>[(11,(vS z.1.1 ((iG l r rs fs).length) z.1.2.1))]) (fun z=>[(own z.1.1 z.1.2.1 368 3 (zipWith dK.cells (iG l r rs fs) z.1.2.2.1)),(bD z.1.2.2.2)]) (fun _=>rfl) (fun _=>rfl) ?_ fun K23 a=>?_
 ·rintro ⟨⟨oA,oC,E,LA⟩,H⟩
  try dsimp only at H
  try dsimp only
  have D:=H;have FS:=D.len;have K5:=Ai (l:=l) (r:=r) (rs:=rs) (fs:=fs);refine ck aY 7 [] (mc 2 U mn) ?_;have L3:=x9 (l:=l) (r:=r) (rs:=rs) (fs:=fs) u (k:=k) I;refine aq aj 3 ?_;refine bY U (aG fun Do=>?_) (aH fun Do=>?_)
  ·refine aq aY 7 ?_;obtain rfl:k=0:=by omega
   refine GI ?_
   try dsimp only
   refine DK (C1:=[(own oA oC 368 3 (zipWith dK.cells (iG l r rs fs) E)),(bD LA),(bD (bB dK.owns [] []))]) hz [13,14,0] U U (by simp only [eX,om,n4,dq];exact ⟨U,D.wr,su _ _⟩) ?_;refine OL (ra:=(rA,rC)) (fa:=(fA,fC)) (A':=(own oA oC 368 3 (zipWith dK.cells (jh l r 0 rs fs) E))) D ((AAJ _).trans (pt I).symm) (AAJ _) (by rw [pt I]) ?_;refine LM hQ (oA,oC,E) 0 [] mn U (by show List.all _ _=true;rw [ACO,su];rfl) U ?_ ?_
   ·exact (by (rw [pt I];rfl))
   ·rw [pt I];exact FS
  refine aq aY 4 ?_;obtain ⟨B,rfl⟩: ∃ B,k=B+1:=⟨k-1,I⟩;refine ck aj 5 [] (mc 1 U mn) ?_;refine nV (ι:=Unit) [3,4,5,6,7,11,12] [0,1,2,3,4,5,6,7,8,9,10,11,12,13] U U (fun z=>[(15,(vI (g5 r.Start fs)))]) (fun z=>[]) (fun _=>rfl) (fun _=>rfl) ?_ fun K28 d=>?_
  ·intro _
   try dsimp only
   refine ck aY 6 [] (mc 0 U mn) ?_;obtain ⟨yls,Bv⟩:=ay (cv l l.ai.length) (rs.length) I;have B3:=bx iC Bv;refine rS (IA rs.length U (av 9 U) cO dc I I)<|rS (gF rs.length 0 (vI yls) U bP (av 9 U) B3 U dc U) ?_;have LE:=o1 Go BD (i:=rs.length) I;rw [xQ Bv];refine aq aj 11 ?_;rw [show (iG l r rs fs)=((iG l r rs fs)++(jn l r B rs fs 0)) from (AAJ _).symm];rw [show E=E++[] from (AAJ _).symm];refine mo ?_
   try dsimp only
   have C:(0≤r.ab.length+1)∧(([]:List mg).length=(jn l r B rs fs 0).length):=by exact ⟨c4 _,rfl⟩
   have AA:(vI ((0:Int)-1))=(vI (-1)):=by exact cI I
   refine bw (ι:={z:Nat×(OA)×Nat×(List mg) // (z.1≤r.ab.length+1)∧(z.2.2.2.length=(jn l r B rs fs z.1).length)}) [3,4,5,6,7,12,15] [1,2,3,4,5,6,7,8,9,10,11,12,14] U U (fun z=>[(11,(vS z.1.2.1 (((iG l r rs fs)++(jn l r B rs fs z.1.1)).length) z.1.2.2.1)),(16,(vI ((z.1.1:Int)-1)))]) (fun z=>[(bD (bB dK.owns (jn l r B rs fs z.1.1) z.1.2.2.2)),(own z.1.2.1 z.1.2.2.1 368 3 (zipWith dK.cells ((iG l r rs fs)++(jn l r B rs fs z.1.1)) (E++z.1.2.2.2)))]) (fun _=>rfl) (fun _=>rfl) (fun z=>r.ab.length+1-z.1.1) ⟨(0,oA,oC,([]:List mg)),C⟩ (cV.cons U<|aQ U AA<|cV.nil _) (aB [1,2,3,4,5,6,7,8,9,10,11,12,14,0,13]) ?_;clear C;rintro ⟨⟨j,M,N,azW⟩,⟨V,A⟩⟩ J33 O
   try dsimp only at V A
   try dsimp only
   have GT:=Qc (l:=l) (r:=r) (k:=B) (j:=j) (rs:=rs) (fs:=fs) u I I;refine ck bT 10 [] (mc 1 U mn) ?_;refine bE U (aH fun Di=>?_) (aG fun Di=>?_)
   ·refine aU aY 1 U<|aq fz 9 ?_;refine DK (C1:=[(own M N 368 3 (zipWith dK.cells ((iG l r rs fs)++(jn l r B rs fs j)) (E++azW))),(bD LA),(bD (bB dK.owns (jn l r B rs fs j) azW))]) hz [14,12,13] U U (by simp only [eX,om,n4,dq];exact ⟨U,D.wr,su _ _⟩) ?_;refine OL (ra:=(rA,rC)) (fa:=(fA,fC)) (W:=jh l r (B+1) rs fs) (A':=(own M N 368 3 (zipWith dK.cells (jh l r (B+1) rs fs) (E++azW)))) D (by rw [pD I,uz,show r.ab.length+1=j by omega]) U (by rw [pD I,uz,show r.ab.length+1=j by omega]) ?_;refine LM hQ (M,N,(E++azW)) 0 [] mn U (by show List.all _ _=true;rw [ACO,su];rfl) U ?_ ?_
    ·exact (by (rw [pD I,uz,show r.ab.length+1=j by omega];rfl))
    ·rw [pD I,uz,show r.ab.length+1=j by omega];simp only [e4];omega
   refine aU aY 5 U<|cL bX 5 kr<|jY 5 [] (mc 1 U mn) U<|cy<|aq aj 2 ?_;refine nV (ι:={z:Int×Int // ((z.1≤z.2→qI l r rs.length (g5 r.Start fs+ew l rs.length) ((j:Int)-1)=some z.1)∧(¬ z.1≤z.2→qI l r rs.length (g5 r.Start fs+ew l rs.length) ((j:Int)-1)=none))∧(r.Start≤z.1∧z.2≤r.hP)}) [3,4,5,6,7,11,12,15,16] [0,1,2,3,4,5,6,7,8,9,10,11,12,13,14] U U (fun z=>[(17,(vI z.1.1)),(18,(vI z.1.2))]) (fun z=>[]) (fun _=>rfl) (fun _=>rfl) ?_ fun K39 f=>?_
   ·rintro ⟨⟨tt,ee⟩,⟨AB,J⟩⟩
    try dsimp only at AB J
    try dsimp only
    have A9:=AB;have K8:=J;refine aq aY 7 ?_;refine bE U (aH fun T=>?_) (aG fun T=>?_)
    ·refine aq aY 8 ?_;have L:(jn l r B rs fs (j+1))=(jn l r B rs fs j):=by exact tJ (A9.2 T)
     rw [← L];have A7:(vI ((((j+1):Nat):Int)-1))=(vI (((j:Int)-1)+1)):=by exact cI I
     refine aL (O ⟨((j+1),M,N,azW),⟨I,by dsimp only;(rw [L];exact A)⟩⟩ _ _ _ U os (cx 8<|aQ U A7<|cV.nil _) (aB [0,1,2,3,4,5,6,7,8,9,10,11,12,13,14]))
    refine TY (L':=[(3,(vS rA rs.length rC)),(4,(vS fA fs.length fC)),(5,(vP b2)),(6,(vP b3)),(7,(vP b4)),(11,(vS M (((iG l r rs fs)++(jn l r B rs fs j)).length) N)),(12,(vI (rs.length:Int))),(15,(vI ((g5 r.Start fs)+(ew l rs.length)))),(16,(vI ((j:Int)-1))),(17,(vI tt)),(18,(vI ee)),(123,(vI tt)),(124,(vI ee)),(125,(vB (decide (tt≤ee))))]) rfl<|mj bX [0,1,2,3,5,7,11,13] [4,6,8,9,10,12,14,15,16,17,18] [false,false,false,false,false,false,false,false] [] [(cb b4 365 (jv.cells (jv.mk (aX.mk vwA ((cv l l.ai.length).length) vwC) (aX.mk vtA ((fp l r r.ab.length).length) vtC) (aX.mk vbA ((fQ l r r.ab.length).length) vbC)))),(cb b3 50 (dA.cells (jP r sgA sgC))),(cb b2 28 (bV.cells (kO l kA kC cA cC bA bC))),(bD [own rA rC 3 1 (rs.map iC),own fA fC 3 1 (fs.map iC)]).ro,(rd kA l.bQ.length 9 (l.bQ.map ag.cells)).ro,(rd cA l.aC.length 2 (zipWith aS.cells l.aC az)).ro,(iU (bB aS.lf l.aC az)).ro,(rd bA l.ai.length 4 (l.ai.map df.cells)).ro,(rd sgA r.ab.length 2 (r.ab.map aR.cells)).ro,(rd vwA ((cv l l.ai.length).length) 1 ((cv l l.ai.length).map iC)).ro,(rd vtA ((fp l r r.ab.length).length) 2 ((fp l r r.ab.length).map aa.cells)).ro,(rd vbA ((fQ l r r.ab.length).length) 1 ((fQ l r r.ab.length).map sG)).ro,(bD LA),(bD (bB dK.owns (jn l r B rs fs j) azW))] [] kr (aB [0,1,2,3,4,5,6,7,8,9,10,11,12,13]) (aB [])<|eS rfl (MV rfl)<|eS rfl (LW 2 rfl bP rfl rfl)<|eS rfl (LW 1 rfl bP rfl rfl)<|eS rfl (LW 0 rfl bP rfl rfl)<|eS rfl (MV rfl)<|eS rfl (MV rfl)<|eS rfl (MV rfl)<|eS rfl (MV rfl)<|dL rfl<|IY [.take 4,.op 6,.take 8,.op 9,.take 10,.op 12,.take 14,.op 15,.op 16,.op 17,.op 18] [(133,(vI ((j:Int)-1))),(139,(vI tt))] (fun i=>match i with |4=>130|8=>134|10=>136|14=>140|_=>0) (fun i b=>match i with |4=> .slice (some ⟨b,0,none⟩) 0 0|8=> .slice (some ⟨b,0,none⟩) 1 1|10=> .slice (some ⟨b,0,none⟩) 0 0|14=> .slice (some ⟨b,0,none⟩) 1 1|_=>undef) (fun i b=>match i with |4=>cb b 3 []|8=>cb b 3 [(vI ((j:Int)-1))]|10=>cb b 3 []|14=>cb b 3 [(vI tt)]|_=>cb b 0 []) rfl rfl rfl kr rfl rfl (aB [0,1,2,3,4,5,6,7,8,9,10,11,12,13]) (qa (Qb rfl cO rfl rfl (fun _=>rfl) fun _=>rfl)<|uP<|qa (EB (xs:=[.tmp 133]) (cs:=[(vI ((j:Int)-1))]) rfl cO jU rfl rfl rfl rfl (by simp [Value.cells]) rfl rfl rfl (fun _=>rfl) fun _=>rfl)<|uP<|qa (Qb rfl cO rfl rfl (fun _=>rfl) fun _=>rfl)<|uP<|qa (EB (xs:=[.tmp 139]) (cs:=[(vI tt)]) rfl cO jU rfl rfl rfl rfl (by simp [Value.cells]) rfl rfl rfl (fun _=>rfl) fun _=>rfl)<|uP<|uP<|uP<|uP<|Nr) ?_;intro Cx
    try dsimp only
    refine u6 U fun Y X K hT=>g0 (es:=(map iC [])) (C':=[own (some ⟨Cx,0,none⟩) 0 3 1 (map iC []),_,_,_,_,_,_,_,_,_,_,_,_,_,_,_]++X) 0 U sm U (by simp [maxLen]) U ?_;refine de (es2:=(map iC rs)) (m':=rs.length) 0 U U U pG U U sm (show ig _ (rd rA rs.length 1 (rs.map iC)).holds from (rE (c:=rC) (e:=3) 4 U sm sm)) (j_ _) (by first|omega|(simp;done)|(simp;omega)) (by (simp only [maxLen];omega)) sm sm U fun J2 J7=>?_
    try dsimp only
    refine qx hT 24 16 U U (fun w hs=>St.kQ [1,2,3,4,5,6,7,8,9,10,11,12,13,14] U U hs) U U ?_
    try dsimp only [List.take]
    intro J5
    try dsimp only
    refine u6 U fun Y X K hT=>?_;refine de (es2:=(map iC (rs++[(j:Int)-1]))) (m':=(rs++[(j:Int)-1]).length) 1 U U U pG U U sm (aM (es:=map iC [((j:Int)-1)]) 0 U U (by simp [br]) U) (j_ _) (by first|omega|(simp;done)|(simp;omega)) (by (simp only [maxLen];omega)) sm sm U fun Ci C2=>?_
    try dsimp only
    refine qx hT 26 17 U U (fun w hs=>St.kQ [2,3,4,5,6,7,8,9,10,11,12,13,14,15] U U hs) U U ?_
    try dsimp only [List.take]
    intro C0
    try dsimp only
    refine u6 U fun Y X K hT=>g0 (es:=(map iC [])) (C':=[own (some ⟨C0,0,none⟩) 0 3 1 (map iC []),_,_,_,_,_,_,_,_,_,_,_,_,_,_,_,_,_]++X) 0 U sm U (by simp [maxLen]) U ?_;refine de (es2:=(map iC fs)) (m':=fs.length) 0 U U U pG U U sm (show ig _ (rd fA fs.length 1 (fs.map iC)).holds from (rE (c:=fC) (e:=3) 6 U sm sm)) (j_ _) (by first|omega|(simp;done)|(simp;omega)) (by (simp only [maxLen];omega)) sm sm U fun J3 J8=>?_
    try dsimp only
    refine qx hT 28 18 U U (fun w hs=>St.kQ [3,4,5,6,7,8,9,10,11,12,13,14,15,16] U U hs) U U ?_
    try dsimp only [List.take]
    intro J6
    try dsimp only
    refine u6 U fun Y X K hT=>?_;refine de (es2:=(map iC (fs++[tt]))) (m':=(fs++[tt]).length) 1 U U U pG U U sm (aM (es:=map iC [tt]) 0 U U (by simp [br]) U) (j_ _) (by first|omega|(simp;done)|(simp;omega)) (by (simp only [maxLen];omega)) sm sm U fun Ck C3=>?_
    try dsimp only
    refine qx hT 30 19 U U (fun w hs=>St.kQ [4,5,6,7,8,9,10,11,12,13,14,15,16,17] U U hs) U U ?_
    try dsimp only [List.take]
    refine u6 U fun Y X K hT=>?_;have P:=A9.1 T;refine xE<|uD 4 U ?_
    try dsimp only [List.eraseIdx]
    refine Dg U<|uD 2 U ?_
    try dsimp only [List.eraseIdx]
    refine Dg U ?_
    try dsimp only
    refine kp 0 rfl rfl rfl rfl (hrec B (rs++[(j:Int)-1]) Ci C2 (fs++[tt]) Ck C3 I (by simp only [e4,ABQ];omega) (by simp only [e4,ABQ];omega) (by rw [o2];omega) (by intro x hx;rcases dZ.1 hx with hx|hx;exact hrs x hx;rw [bU.1 hx];omega)) rfl (ek 7 rfl rfl (dj (bM _)) (ek 8 rfl rfl (dj (bM _)) (ek 9 rfl rfl (dj (bM _)) (ek 10 rfl rfl (dj (bM _)) (ek 11 rfl rfl (dj (bM _)) (ek 12 rfl rfl (dj (bM _)) (ek 13 rfl rfl (dj (bM _)) (ek 14 rfl rfl (dj (bM _)) mu)))))))) rfl (fun IO v=>?_);obtain ⟨Iw,I7,g⟩:=IO
    try dsimp only
    dsimp only at v;refine qx hT 31 18 U U (fun w hs=>St.kQ [3,4,5,6,7,8,9,10,11,12,13,14,15,16] U U hs) U U ?_
    try dsimp only [List.take]
    refine u6 U fun Y X K hT=>uD 0 U ?_
    try dsimp only [List.eraseIdx]
    refine B1 ?_;have MK:=x9 (l:=l) (r:=r) (k:=B) (rs:=(rs++[(j:Int)-1])) (fs:=(fs++[tt])) u I;refine de (es2:=(zipWith dK.cells ((iG l r rs fs)++(jn l r B rs fs (j+1))) (E++(azW++g)))) (m':=((iG l r rs fs)++(jn l r B rs fs (j+1))).length) 18 U U U Ua U U (vU (by simp only [e4];omega)).symm (ao (n:=(jh l r B (rs++[(j:Int)-1]) (fs++[tt])).length) 0 U (vU v)) (Eb _ _) (by simp only [e4];omega) (by simp only [e4,maxLen];omega) (by rw [o0 P,← append_assoc,← append_assoc];exact (NH (by simp only [e4];omega)).symm) (vU (by rw [o0 P];simp only [e4];omega)) U fun Cp DA=>?_
    try dsimp only
    refine qx hT 32 19 U U (fun w hs=>St.kQ [4,5,6,7,8,9,10,11,12,13,14,15,16,17] U U hs) U U ?_
    try dsimp only [List.take]
    refine u6 U fun Y X K hT=>rS (AG U)<|qx hT 33 19 U U (fun w hs=>St.kQ [4,5,6,7,8,9,10,11,12,13,14,15,16,17] U U hs) U U ?_
    try dsimp only [List.take]
    refine aq jC 7 ?_;refine JD 1 U ?_
    try dsimp only [List.eraseIdx]
    refine JD 17 U ?_
    try dsimp only [List.eraseIdx]
    refine QL A ?_;rw [← o0 P]
    try dsimp only
    have A6:(vI ((((j+1):Nat):Int)-1))=(vI (((j:Int)-1)+1)):=by exact cI I
    refine aL (O ⟨((j+1),Cp,DA,(azW++g)),⟨I,by dsimp only;(rw [o0 P,e4,e4,A,v])⟩⟩ _ _ _ U os (cx 8<|aQ U A6<|cV.nil _) (aB [4,5,6,7,8,9,10,11,12,13,14,15,16,0,17]))
   refine aq bT 6 ?_;refine bE U (aH fun EQ=>?_) (aG fun EQ=>?_)
   ·refine aq aY 1 ?_;refine aL (j7 (aN U) (aB [0,1,2,3,4,5,6,7,8,9,10,11,12,13,14]) (f ⟨(((g5 r.Start fs)+(ew l rs.length)),r.hP),⟨by exact Qi I,I⟩⟩))
   refine ck aY 6 [] (mc 1 U mn) ?_;obtain ⟨s,hs⟩:=ay r.ab ((((j:Int)-1)).toNat) I;have Fn:=bx aR.cells hs;refine rS (IA ((((j:Int)-1)).toNat) U (av 8 U) zE dc I I)<|rS (p9 (((((j:Int)-1)).toNat)*2) U (av 8 U) (e6 I dc) eB U)<|rS (gF ((((j:Int)-1)).toNat) 0 (vI s.fR) U bP (av 8 U) Fn U dc U) ?_;have La:=(hr.sig _ s hs).1;refine aq aj 3 ?_;refine bK (t:=99) U (aK fun y=>?_) (aJ fun y=>?_)
   ·refine aU aj 11 U<|aq fz 7 ?_;have L:(jn l r B rs fs (j+1))=(jn l r B rs fs j):=by exact tJ (Aq I hs (fun q=>y I))
    rw [← L];have A4:(vI ((((j+1):Nat):Int)-1))=(vI (((j:Int)-1)+1)):=by exact cI I
    refine aL (O ⟨((j+1),M,N,azW),⟨I,by dsimp only;(rw [L];exact A)⟩⟩ _ _ _ U os (cx 8<|aQ U A4<|cV.nil _) (aB [0,1,2,3,4,5,6,7,8,9,10,11,12,13,14]))
   refine ck aj 3 [] (mc 0 U mn) ?_;obtain ⟨bs,p⟩:=ay (fQ l r r.ab.length) ((((j:Int)-1)).toNat) I;have A8:=bx sG p;refine rS (IA ((((j:Int)-1)).toNat) U (av 11 U) Uv dc I I)<|rS (gF ((((j:Int)-1)).toNat) 0 (vB bs) U bP (av 11 U) A8 U dc U)<|aq aj 4 ?_;refine bY U (fun F=>?_) (fun F=>?_)
   ·rw [e0] at F;refine aU aY 1 U<|aq fz 7 ?_;have L:(jn l r B rs fs (j+1))=(jn l r B rs fs j):=by exact tJ (Aq I hs (fun q=>by rw [(FY hs p).2 q.2] at F;cases F))
    rw [← L];have A5:(vI ((((j+1):Nat):Int)-1))=(vI (((j:Int)-1)+1)):=by exact cI I
    refine aL (O ⟨((j+1),M,N,azW),⟨I,by dsimp only;(rw [L];exact A)⟩⟩ _ _ _ U os (cx 8<|aQ U A5<|cV.nil _) (aB [0,1,2,3,4,5,6,7,8,9,10,11,12,13,14]))
   rw [m5] at F;refine aU aY 2 U<|cL bX 18 kr<|dP 4 [] (mc 0 U mn) ?_;obtain ⟨z,hz⟩:=ay (fp l r r.ab.length) ((((j:Int)-1)).toNat) I;have B7:=bx aa.cells hz;refine dS (IA ((((j:Int)-1)).toNat) U (av 10 U) iv dc I I)<|dS (p9 (((((j:Int)-1)).toNat)*2) U (av 10 U) (e6 I dc) eB U) ?_;have B9:=PF hs hz;have G4:=zz l s;rw [← B9] at G4;have Eq:(dw l s).Lo≤(dw l s).Hi:=(FY hs p).1 F;refine dS (gF ((((j:Int)-1)).toNat) 0 (vI z.Lo) U bP (av 10 U) B7 U dc U)<|dS (MX U)<|jY 4 [] (mc 0 U mn) U<|dS (IA ((((j:Int)-1)).toNat) U (av 10 U) iv dc I I)<|dS (p9 ((((((j:Int)-1)).toNat)*2)+1) U (av 10 U) (e6 I dc) eB U)<|dS (gF ((((j:Int)-1)).toNat) 1 (vI z.Hi) U bP (av 10 U) B7 U dc U)<|dS (MN U)<|iQ 2 U<|cy<|aq aj 1 ?_;refine aL (j7 (aN U) (aB [0,1,2,3,4,5,6,7,8,9,10,11,12,13,14]) (f ⟨((max ((g5 r.Start fs)+(ew l rs.length)) z.Lo),(min r.hP z.Hi)),⟨by (rw [B9];exact MT I hs I Eq),I⟩⟩))
  refine aq bT 6 ?_;refine bE U (aH fun D0=>?_) (aG fun D0=>?_)
  ·refine aq aY 1 ?_;have A2:(vI (g5 r.Start fs))=(vI r.Start):=by exact cI (by have e:fs=[]:=kq I;rw [e];rfl)
   refine aL (j7 (cx 7<|aQ U A2<|cV.nil _) (aB [0,1,2,3,4,5,6,7,8,9,10,11,12,13]) (d ()))
  refine aq aY 4 ?_;obtain ⟨xf,BP⟩:=ay fs (rs.length-1) I;have Bt:=bx iC BP;refine rS (IA (rs.length-1) U (show ig _ (rd fA fs.length 1 (fs.map iC)).holds from (rE (c:=fC) (e:=3) 3 U sm sm)) cO dc I I)<|rS (gF (rs.length-1) 0 (vI xf) U bP (show ig _ (rd fA fs.length 1 (fs.map iC)).holds from (rE (c:=fC) (e:=3) 3 U sm sm)) Bt U dc U)<|aq aj 2 ?_;have A1:(vI (g5 r.Start fs))=(vI xf):=by exact cI (FL _ _ _ (by rw [hfl];exact BP))
  refine aL (j7 (cx 7<|aQ U A1<|cV.nil _) (aB [0,1,2,3,4,5,6,7,8,9,10,11,12,13]) (d ()))
 refine ck bT 12 [0,1] (mc 1 U (mc 2 U mn)) ?_;refine bE U (aH fun G=>?_) (aG fun G=>?_)
 ·refine aq aY 1 ?_;refine GI<|L6 368 3 ?_;rw [show (own none 0 368 3 [])=(own none 0 368 3 (zipWith dK.cells (iG l r rs fs) [])) from by rw [Bf G];rfl];have A3:(vS none ((iG l r rs fs).length) 0)=(vS none 0 0):=by first|rfl|(rw [Bf G];rfl)
  refine aL (j7 (cx 6<|aQ U A3<|cV.nil _) (aB [2,3,4,5,6,7,8,9,10,11,12,13,0,1]) (a ⟨(none,0,[],[]),(by exact .inr ⟨G,U,U⟩)⟩))
 refine ck aY 7 [0,1] (mc 1 U (mc 0 U mn)) ?_;refine cX (Oh r sgA sgC l vwA vwC vtA vtC vbA vbC rs rA rC hle hr I (by exact fun x hx h0=>(hrs x hx).2)) (lZ [8,9,10,11]<|aw (show ig _ (rd rA rs.length 1 (rs.map iC)).holds from (rE (c:=rC) (e:=3) 3 U sm sm))<|aA) U fun H1 In=>?_;obtain ⟨R,S⟩:=H1
 try dsimp only
 refine rS (SX (aW (xs:=[(0,.tmp 48),(1,.tmp 49),(2,.tmp 53)]) (cs:=(Am.cells (Am.mk (aX.mk rA rs.length rC) (aX.mk fA fs.length fC) (aX.mk R ((kv l r rs).length) S)))) U U (aV Zz U)) U U)<|dC (xs:=[.tmp 54]) (cs:=(Am.cells (Am.mk (aX.mk rA rs.length rC) (aX.mk fA fs.length fC) (aX.mk R ((kv l r rs).length) S)))) U IK WR U U U U (by simp [Value.cells,Am.aD]) U U fun J4=>fT 368 3 ?_;refine de (es2:=(zipWith dK.cells (iG l r rs fs) ([((rA,rC),(fA,fC),(R,S))]))) (m':=(iG l r rs fs).length) 0 rfl rfl rfl Ua rfl rfl rfl (aM (es:=zipWith dK.cells [(dK.mk rs fs (kv l r rs))] [((rA,rC),(fA,fC),(R,S))]) 1 rfl rfl (by intro e he;simp at he;subst he;rfl) rfl) (Eb _ _) dc dc (by rw [CI G];rfl) (by rw [CI G];rfl) rfl fun h m=>?_
 try dsimp only
 refine xE<|UA 0 3 U U U ?_
 try dsimp only
 refine aq aj 2 ?_;have AA:(vS h ((iG l r rs fs).length) m)=(vS h ((iG l r rs fs).length) m):=by first|rfl|(rw [Bf G];rfl)
 refine aL (j7 (cx 6<|aQ U AA<|cV.nil _) (aB [3,4,5,6,7,8,9,10,11,12,13,14,1,0]) (a ⟨(h,m,[((rA,rC),(fA,fC),(R,S))],[(own R S 3 1 ((kv l r rs).map iC))]),(by exact .inl ⟨G,_,U,U⟩)⟩))
theorem VR (hin:dX l az) (hle:dU l=0) (hr:gp l r) (hk:rs.length+k=l.ai.length) (hfl:fs.length=rs.length) (hst:r.Start≤g5 r.Start fs∧g5 r.Start fs≤r.hP) (hrs:∀ x∈rs,-1≤x∧x<(r.ab.length:Int)):
 IE Tryz.prog 254 [(vA (bV.cells (kO l kA kC cA cC bA bC))),(vA (dA.cells (jP r sgA sgC))),(vA (jv.cells (jv.mk (aX.mk vwA ((cv l l.ai.length).length) vwC) (aX.mk vtA ((fp l r r.ab.length).length) vtC) (aX.mk vbA ((fQ l r r.ab.length).length) vbC)))),(vS rA rs.length rC),(vS fA fs.length fC)] ((rr l kA az cA bA)++[(ke sgA r.ab),(rd vwA ((cv l l.ai.length).length) 1 ((cv l l.ai.length).map iC)),(rd vtA ((fp l r r.ab.length).length) 2 ((fp l r r.ab.length).map aa.cells)),(rd vbA ((fQ l r r.ab.length).length) 1 ((fQ l r r.ab.length).map sG))]) (bD [own rA rC 3 1 (rs.map iC),own fA fC 3 1 (fs.map iC)]) (fun (x:(OA)×Nat×(List mg))=>(vS x.1 ((jh l r k rs fs).length) x.2.1)) (fun (x:(OA)×Nat×(List mg))=>x.2.2.length=(jh l r k rs fs).length) (fun (x:(OA)×Nat×(List mg))=>(bD (bB dK.owns (jh l r k rs fs) x.2.2++[own x.1 x.2.1 368 3 (zipWith dK.cells (jh l r k rs fs) x.2.2)]))):=by
 induction k using Nat.strongRecOn generalizing rs rA rC fs fA fC with
 |ind k ih=>exact Mm l kA kC az cA cC bA bC r sgA sgC vwA vwC vtA vtC vbA vbC k rs rA rC fs fA fC hin hle hr hk hfl hst hrs (fun L F D E C A B G H AA J K=>ih L G F D E C A B H AA J K)
end
section
open Go.RowKit
theorem RT (l:bf) (kA:OA) (kC:Nat) (az:List RA) (cA:OA) (cC:Nat) (bA:OA) (bC:Nat) (r:c_) (sgA:OA) (sgC:Nat) (hin:dX l az) (hsl:r.ab.length≤1000000):
 ld Tryz.prog 232 [(vA (bV.cells (kO l kA kC cA cC bA bC))),(vA (dA.cells (jP r sgA sgC)))] ((rr l kA az cA bA)++[(rd sgA r.ab.length 2 (r.ab.map aR.cells))]) (fun (x:Bool×Int×(OA)×Nat×(List mg))=>bif x.1 then (vT [(vS x.2.2.1 ((sL l r).length) x.2.2.2.1),(vI 0)]) else (vT [(vS none 0 0),(vI x.2.1)])) (fun (x:Bool×Int×(OA)×Nat×(List mg))=>(x.1=true→(fK l r 0=0∧x.2.2.2.2.length=(sL l r).length))∧(x.1=false→(x.2.1=fK l r 0∧ ¬ fK l r 0=0))) (fun (x:Bool×Int×(OA)×Nat×(List mg))=>bif x.1 then [(own x.2.2.1 x.2.2.2.1 368 3 (zipWith dK.cells (sL l r) x.2.2.2.2)),(bD (bB dK.owns (sL l r) x.2.2.2.2))] else []):=by
 have X:=hin.sQ;have W:=hin.sR;have AA:=hin.mE;have V:=hin.sP;refine cU kr Tryz.func232 U U fun a Q hQ hN=>?_
 try dsimp only
 refine aU bT 2 U<|dV U fun Y=>dV U fun Z=>dF aj 8 [] (mc 1 U mn) U<|rS (CL (w5 l kA kC az cA cC bA bC hin) (aP [2,3,4,5]) U)<|aq aj 9 ?_;refine bY U (aK fun A=>?_) (aJ fun A=>?_)
 ·refine aq aY 8 ?_;refine LX hQ (false,(dU l),none,0,[]) [] [] mn U (by rfl) U U ?_;exact qY<|QG (oo (r:=r) (me:=0) A) A
 refine dF aY 7 [0,1] (mc 1 U (mc 0 U mn)) U<|rS (CL (Rx l kA kC az cA cC bA bC r sgA sgC hin (by exact hsl)) (aP [2,3,4,5,6]) U)<|aq aj 3 ?_;refine bY U (aK fun B=>?_) (aJ fun B=>?_)
 ·refine aq aY 7 ?_;refine LX hQ (false,51,none,0,[]) [] [] mn U (by rfl) U U ?_;exact qY<|pM (fY (me:=0) A B)
 refine aq aY 3 ?_;refine cT bX [4,5,6] [] [] [0,1,2,3,4,5,6] [] U U U U U<|eS U (LW 1 U bP U U)<|eS U (LW 0 U bP U U)<|eS U (LW 1 U bP U U)<|eS U (LW 0 U bP U U)<|dL U<|bR U fun T12 D=>cX (Rd l kA kC az cA cC bA bC r sgA sgC hin (by exact A) (by exact B)) (aP [2,3,4,5,6]) U fun R T=>?_;obtain ⟨O,P,M,N,K,L⟩:=R
 try dsimp only
 refine bG (D _ _ (aB [3,4,5,6,7,8,9]) ?_);refine bR U fun T21 E=>fT 3 1<|fT 3 1<|xE<|uD 1 U ?_
 try dsimp only [List.eraseIdx]
 refine Dg U<|uD 1 U ?_
 try dsimp only [List.eraseIdx]
 refine Dg U ?_
 try dsimp only
 refine kp 0 rfl rfl rfl rfl (VR l kA kC az cA cC bA bC r sgA sgC O P M N K L l.ai.length ([]:List Int) none 0 ([]:List Int) none 0 hin (by exact A) (by exact B) sm (by rfl) (by exact ⟨wt _,B.time.2.1⟩) (by intro x hx;cases hx)) rfl (ek 6 rfl rfl (dj (bM _)) (ek 7 rfl rfl (dj (bM _)) (ek 8 rfl rfl (dj (bM _)) (ek 9 rfl rfl (dj (bM _)) (ek 10 rfl rfl (dj (bM _)) (ek 1 rfl rfl (kf sm) (ek 2 rfl rfl (kf sm) (ek 3 rfl rfl (kf sm) mu)))))))) rfl (fun S G=>?_);obtain ⟨H,AB,J⟩:=S
 try dsimp only
 refine bG (E _ _ (aB [4,5,6,7,8,9,10]) ?_);refine bR U fun T26 F=>uD 0 U ?_
 try dsimp only [List.eraseIdx]
 refine B1 ?_;dsimp only at G;refine rS (AG U)<|bG (F _ _ (aB [5,6,7,8,9,10,11]) ?_);refine eI U<|aq jC 9 ?_;refine bE U (aH fun C=>?_) (aG fun C=>?_)
 ·refine aq aY 10 ?_;refine LX hQ (true,0,H,AB,J) [0,1] [] mn U (by (show List.all _ _=true;simp only [AAS,eX,om,Ox,n4];rfl)) U U ?_;exact ⟨fun _=>⟨xp A B U fun q=>C (by rw [show jh l r l.ai.length [] []=[] from (eY A B).2 q];rfl),G⟩,QS⟩
 refine aq aY 7 ?_;refine LX hQ (false,8,none,0,[]) [] [] mn U (by rfl) U U ?_;exact qY<|pM (vq (me:=0) A B U ((eY A B).1 (kq (ACU.1 C))))
theorem JV (ws:List dK) (wz:List mg) (wA:OA) (wC b:Nat) (hws:Sy ws) (hwz:wz.length=ws.length) (hb:b≤6):
 dh Tryz.prog 233 [(vS wA ws.length wC),(vI (b:Int))] [(ZW wA ws wz),(iU (bB dK.lf ws wz))] (vT [(vA (aa.cells (sj ws b))),(vI (r8 ws b))]):=by
 have W:=hws.num;refine bj kr Tryz.func233 U U fun Z Q hQ hN=>?_
 try dsimp only
 refine aU bT 2 U<|AL U dD fun Y=>aU aj 5 U<|AL U dD fun V=>aq aj 14 ?_;have C:(0≤ws.length)∧(o8 b (ws.take 0) false (aa.mk 0 0)):=by exact ⟨c4 _,JY⟩
 refine bw (ι:={z:Nat×Bool×aa // (z.1≤ws.length)∧(o8 b (ws.take z.1) z.2.1 z.2.2)}) [0,1,4,5,6] [1,2,3] U U (fun z=>[(7,(vB z.1.2.1)),(8,(vI (z.1.1:Int)))]) (fun z=>[(cb V 38 (aa.cells z.1.2.2))]) (fun _=>rfl) (fun _=>rfl) (fun z=>ws.length-z.1.1) ⟨(0,false,(aa.mk 0 0)),C⟩ (aN U) (aB [1,2,3,0]) ?_;clear C;rintro ⟨⟨i,fd,o⟩,⟨H,A⟩⟩ J8 F
 try dsimp only at H A
 try dsimp only
 refine aq bT 9 ?_;refine bE U (aH fun P=>?_) (aG fun P=>?_)
 ·refine aU aY 1 U<|aq fz 9 ?_;refine bE U (fun B=>?_) (fun B=>?_)
  ·rw [m5] at B;refine dF aY 5 [] (mc 3 U mn) U<|eM U cK U<|aq aj 4 ?_;refine mP hQ [0] (mc 0 U mn) U ?_;have G:=Ch (by have q:=A;rwa [c5 I] at q) hws.I7
   (have q:=G.2 B;rw [q.1,q.2];done)
  rw [e0] at B;refine aU aY 2 U<|rS (SX (aW (xs:=[]) (cs:=(aa.cells (aa.mk 0 0))) U U (aV gQ U)) U U)<|eM U cK U<|aq aj 4 ?_;refine mP hQ [0] (mc 0 U mn) U ?_;have G:=Ch (by have q:=A;rwa [c5 I] at q) hws.I7
  (have q:=G.1 B;rw [q.1,q.2];done)
 refine aq aY 9 ?_;obtain ⟨y,hy⟩:=ay ws i I;obtain ⟨ya,D⟩:=ay wz i I;have AB:(zipWith dK.cells ws wz)[i]? =some (dK.cells y ya):=cE hy D;refine rS (IA i U (av 1 U) IK dc I I)<|rS (p9 (i*3) U (av 1 U) (e6 I dc) eB U)<|rS (gF i 0 (vS ya.1.1 y.ic.length ya.1.2) U bP (av 1 U) AB U dc U)<|aq aj 5 ?_;refine bY U (aG fun R=>?_) (aH fun R=>?_)
 ·refine aq aY 7 ?_;have L:(vI (((i+1):Nat):Int))=(vI ((i:Int)+1)):=by exact cI I
  refine aL (F ⟨((i+1),fd,o),⟨I,by dsimp only;rw [t_ hy];exact GU A I⟩⟩ _ _ _ U os (cx 6<|aQ U L<|cV.nil _) (aB [0,1,2,3]))
 refine aq aY 3 ?_;refine cT bX [17,18] [] [] [0,1,2,3] [] U U U U U ?_;have X:=hws.lens y (aF hy);obtain ⟨s,hs⟩: ∃ s,y.ic[b]? =some s:=⟨y.ic[b]'I,fh _⟩;refine eS U (MV U)<|eS U (MV U)<|eS U (IA i U (av 1 U) IK dc I I)<|eS U (p9 ((i*3)+1) U (av 1 U) (e6 I dc) eB U)<|eS U (gF i 1 (vS ya.2.1.1 y.j2.length ya.2.1.2) U bP (av 1 U) AB U dc U)<|eS U (MV U) ?_;obtain ⟨f,hf⟩:=ay y.j2 b I;have T:=bx iC hf;refine eS U (IA b U (show ig _ (jx ya.2.1.1 y.j2).holds from (ct 2 U (bq hy D (by simp [dK.lf])))) cO dc I I)<|eS U (gF b 0 (vI f) U bP (show ig _ (jx ya.2.1.1 y.j2).holds from (ct 2 U (bq hy D (by simp [dK.lf])))) T U dc U)<|eS U (MV U)<|eS U (MV U)<|eS U (IA i U (av 1 U) IK dc I I)<|eS U (p9 ((i*3)+2) U (av 1 U) (e6 I dc) eB U)<|eS U (gF i 2 (vS ya.2.2.1 y.oH.length ya.2.2.2) U bP (av 1 U) AB U dc U)<|eS U (MV U) ?_;obtain ⟨e,he⟩:=ay y.oH b I;have S:=bx iC he;refine eS U (IA b U (show ig _ (jx ya.2.2.1 y.oH).holds from (ct 2 U (bq hy D (by simp [dK.lf])))) cO dc I I)<|eS U (gF b 0 (vI e) U bP (show ig _ (jx ya.2.2.1 y.oH).holds from (ct 2 U (bq hy D (by simp [dK.lf])))) S U dc U)<|eS U (SX (aW (xs:=[(0,.tmp 31),(1,.tmp 39)]) (cs:=(aa.cells (aa.mk f e))) U U (aV gQ U)) U U)<|dL U<|bR U fun T17 J=>AL U dD fun AA=>bG (J _ _ (aB [1,2,3,4]) ?_);refine bR U fun T19 K=>eM U cK U<|bG (K _ _ (aB [1,2,3,4]) ?_);refine eI U<|aq jC 4 ?_;have O:=hws.le y (aF hy) b f e I hf he;refine aq aj 3 ?_;refine bE U (fun E=>?_) (fun E=>?_)
 ·refine dF aY 4 [] (mc 0 U mn) U<|UB U cK U<|aq aj 9 ?_;have N:(vI (((i+1):Nat):Int))=(vI ((i:Int)+1)):=by exact cI I
  refine aL (F ⟨((i+1),true,(aa.mk f e)),⟨I,by dsimp only;rw [t_ hy];exact Ga A E hs hf he O⟩⟩ _ _ _ U os (cx 6<|aQ U N<|cV.nil _) (aB [1,2,3,4]))
 refine dF aY 5 [0,1] (mc 0 U (mc 4 U mn)) U<|rS (MN U)<|dF aj 4 [0,1] (mc 0 U (mc 4 U mn)) U<|rS (MX U)<|rS (SX (aW (xs:=[(0,.tmp 46),(1,.tmp 51)]) (cs:=(aa.cells (aa.mk (min f o.Lo) (max e o.Hi)))) U U (aV gQ U)) U U)<|eM U cK U<|dF aj 4 [] (mc 0 U mn) U<|UB U cK U<|aq aj 9 ?_;have M:(vI (((i+1):Nat):Int))=(vI ((i:Int)+1)):=by exact cI I
 refine aL (F ⟨((i+1),true,(aa.mk (min f o.Lo) (max e o.Hi))),⟨I,by dsimp only;rw [t_ hy];exact GO A E hs hf he O⟩⟩ _ _ _ U os (cx 6<|aQ U M<|cV.nil _) (aB [1,2,3,4]))
end
section
open Go.RowKit
theorem UN (l:bf) (kA:OA) (kC:Nat) (az:List RA) (cA:OA) (cC:Nat) (bA:OA) (bC:Nat) (r:c_) (sgA:OA) (sgC:Nat) (hin:dX l az) (hsl:r.ab.length≤1000000):
 dh Tryz.prog 203 [(vA (bV.cells (bV.mk (aZ.mk (aX.mk kA l.bQ.length kC)) l.g7 (aX.mk cA l.aC.length cC) (aX.mk bA l.ai.length bC) l.b_ l.eZ l.dp))),(vA (dA.cells (jP r sgA sgC)))] ((rr l kA az cA bA)++[(rd sgA r.ab.length 2 (r.ab.map aR.cells))]) (vT [(vA (aa.cells (F0 l r))),(vI (eT l r l.b_))]):=by
 have c:=hin.sQ;have W:=hin.sR;have AA:=hin.mE;have V:=hin.sP;refine bj kr Tryz.func203 U U fun j Q hQ hN=>?_
 try dsimp only
 refine aU bT 2 U<|dV U fun g=>dV U fun h=>AL U dD fun i=>ck aj 7 [0,1] (mc 2 U (mc 1 U mn)) ?_;refine cX (RT l kA kC az cA cC bA bC r sgA sgC hin hsl) (aP [3,4,5,6,7]) U fun f K=>?_;obtain ⟨L,T,R,N,M⟩:=f;cases L
 ·obtain ⟨G,he⟩:=K.2 rfl
  try dsimp only at G he
  subst G
  try dsimp only [cond_true,cond_false,List.cons_append,List.nil_append]
  refine aq aj 14 ?_;refine bE U (aJ fun F=>?_) (aK fun F=>?_)
  ·exact absurd F he
  refine aU aY 2 U<|rS (SX (aW (xs:=[]) (cs:=(aa.cells (aa.mk 0 0))) U U (aV gQ U)) U U)<|aU aj 1 U<|eM U cK U<|aq aj 4 ?_;refine mP hQ [0] (mc 0 U mn) U ?_
  (rw [H7 (fun z=>he ((yI he).symm.trans z)),yI he]<;>rfl)
 obtain ⟨he,C⟩:=K.1 rfl
 try dsimp only [cond_true,cond_false,List.cons_append,List.nil_append]
 try dsimp only at he C
 obtain ⟨AB,E,_,X⟩:=jQ he;obtain ⟨d,P⟩:=er AB;have O:=P.head;unfold fg at O;have J:=Vg AB E;have e:=J.num;have Z:=E.len;have a:=E.time;refine aU aj 11 U<|rS (SX (cm (r:= .bool false) U U U nx) U U)<|aq aj 6 ?_;obtain ⟨b,H⟩: ∃ b:Nat,l.b_=(b:Int):=⟨l.b_.toNat,I⟩;have A:=Qt he (b:=b) I;rw [← H] at A;rw [H];refine dF aY 4 [] (mc 4 U mn) U<|rS (CL (JV (sL l r) M R N b (by exact J) (by exact C) I) (aw (ao (n:=(sL l r).length) 0 U (vU C))<|aw (dQ 1 U SK)<|aA) U)<|aU aj 3 U<|AL U dD fun S=>eM U cK U<|aq aj 10 ?_;refine bY U (aK fun B=>?_) (aJ fun B=>?_)
 ·refine aU aY 2 U<|rS (SX (aW (xs:=[]) (cs:=(aa.cells (aa.mk 0 0))) U U (aV gQ U)) U U)<|aU aj 1 U<|Xo U cK U<|aq aj 4 ?_;refine mP hQ [0] (mc 3 U mn) U ?_
  (rw [H7 (fun z=>B (A.1.trans z)),← A.1]<;>rfl)
 refine aq aY 3 ?_;have D:eT l r l.b_=0:=A.1.symm.trans B;have Y:=wm D;rw [A.2];refine dF aY 11 [0,1,0,1] (mc 0 U (mc 4 U mn)) U<|rS (SX (aW (xs:=[(0,.tmp 34),(1,.tmp 39)]) (cs:=(aa.cells (aa.mk (((eL l r l.b_).Lo)-r.Start) (((eL l r l.b_).Hi)-r.Start)))) U U (aV gQ U)) U U)<|Xo U cK U<|aq aj 4 ?_;refine mP hQ [0] (mc 3 U mn) U ?_
 (rw [Hk D,D])
theorem HW (la:List aR) (laA:OA) (laC:Nat) (lb:List aR) (lbA:OA) (lbC:Nat) (h1:la.length≤1000000) (h2:lb.length≤1000000):
 dh Tryz.prog 84 [(vS laA la.length laC),(vS lbA lb.length lbC)] [(ke laA la),(ke lbA lb)] (vB (decide (la=lb))):=by
 refine bj kr Tryz.func84 U U fun AA Q hQ hN=>?_
 try dsimp only
 refine aq bT 15 ?_;refine bY U (aK fun hl=>?_) (aJ fun hl=>?_)
 ·refine cr aY 6 hQ U U ?_
  first|exact cB (bg (kg hx hy h)).symm|exact cB (cR (iE I A I)).symm|exact cB (bg (fun e=>by subst e;omega)).symm
 refine aq aY 9 ?_;have B:(0≤la.length)∧(la.take 0=lb.take 0):=by simp
 refine bw (ι:={z:Nat // (z≤la.length)∧(la.take z=lb.take z)}) [0,1] [0,1] U U (fun z=>[(5,(vI (z.1:Int)))]) (fun z=>[]) (fun _=>rfl) (fun _=>rfl) (fun z=>la.length-z.1) ⟨0,B⟩ (aN U) (aB [0,1]) ?_;clear B;rintro ⟨i,⟨F,A⟩⟩ J7 E
 try dsimp only
 refine aq bT 9 ?_;refine bE U (aH fun D=>?_) (aG fun D=>?_)
 ·refine aU aY 1 U<|cr fz 8 hQ U U ?_
  first|exact cB (bg (kg hx hy h)).symm|exact cB (cR (iE I A I)).symm|exact cB (bg (fun e=>by subst e;omega)).symm
 refine aU aY 5 U<|cL bX 9 kr<|dP 2 [] mn ?_;obtain ⟨x,hx⟩:=ay la i I;have G:=bx aR.cells hx;refine dS (IA i U (av 0 U) zE dc I I)<|dS (k8 i 0 (aR.cells x) U bP (av 0 U) G U dc U U)<|dP 2 [] mn ?_;obtain ⟨y,hy⟩:=ay lb i I;have H:=bx aR.cells hy;refine dS (IA i U (av 1 U) zE dc I I)<|dS (k8 i 0 (aR.cells y) U bP (av 1 U) H U dc U U)<|dS (BI U (YF _ _ x y))<|cy<|aq aj 2 ?_;refine bY U (aK fun h=>?_) (aJ fun h=>?_)
 ·refine cr aY 6 hQ U U ?_
  first|exact cB (bg (kg hx hy h)).symm|exact cB (cR (iE I A I)).symm|exact cB (bg (fun e=>by subst e;omega)).symm
 refine aq aY 8 ?_;have C:(vI (((i+1):Nat):Int))=(vI ((i:Int)+1)):=by exact cI I
 refine aL (E ⟨(i+1),⟨I,iP A hx hy h⟩⟩ _ _ _ U os (cV.cons U<|cV.cons U<|aQ U C<|cV.nil _) (aB [0,1]))
end
section
open Go.RowKit
theorem Ic (d:ak) (sgA:OA) (sgC:Nat) (e:ak) (shA:OA) (shC:Nat) (h1:d.bp.ab.length≤1000000) (h2:e.bp.ab.length≤1000000):
 dh Tryz.prog 40 [(vA (aO.cells (aO.mk d.Out d.cZ d.Time (jP d.bp sgA sgC)))),(vA (aO.cells (aO.mk e.Out e.cZ e.Time (dA.mk e.bp.Start e.bp.hP (aX.mk shA e.bp.ab.length shC)))))] [(ke sgA d.bp.ab),(ke shA e.bp.ab)] (vB (decide (d=e))):=by
 refine bj kr Tryz.func40 U U fun H Q hQ hN=>?_
 try dsimp only
 refine aU bT 2 U<|dV U fun F=>dV U fun G=>dF aj 9 [0,1] (mc 1 U (mc 0 U mn)) U<|rS (BI U (Hu Wt))<|aq aj 1 ?_;refine cz (t:=10) U (fun A=>?_) (fun A=>?_)
 ·replace A: ¬ d.Out=e.Out:=by simpa using A
  refine cr aj 44 hQ U U ?_;clear hQ hN;refine cB ?_;simp [qX, *]
 replace A:d.Out=e.Out:=by simpa using A
 refine dF aj 4 [0,1] (mc 1 U (mc 0 U mn)) U<|rS (BI U (Hu Wt))<|aq aj 2 ?_;refine cz (t:=17) U (fun B=>?_) (fun B=>?_)
 ·replace B: ¬ d.cZ=e.cZ:=by simpa using B
  refine cr aj 37 hQ U U ?_;clear hQ hN;refine cB ?_;simp [qX, *]
 replace B:d.cZ=e.cZ:=by simpa using B
 refine aU aj 1 U<|rS (LP (aa.cells d.Time) 1 U bP U U U)<|aU aj 1 U<|rS (LP (aa.cells e.Time) 0 U bP U U U)<|rS (BI U (wN _ _ d.Time e.Time))<|aq aj 2 ?_;refine cz (t:=24) U (aH fun C=>?_) (aG fun C=>?_)
 ·refine cr aj 30 hQ U U ?_;clear hQ hN;refine cB ?_;simp [qX, *]
 refine ck aj 9 [0,1] (mc 1 U (mc 0 U mn)) ?_;refine cz (t:=33) U (aH fun D=>?_) (aG fun D=>?_)
 ·refine cr aj 21 hQ U U ?_;clear hQ hN;refine cB ?_;simp [qX, *]
 refine ck aj 9 [0,1] (mc 1 U (mc 0 U mn)) ?_;refine cz (t:=42) U (aH fun E=>?_) (aG fun E=>?_)
 ·refine cr aj 12 hQ U U ?_;clear hQ hN;refine cB ?_;simp [qX, *]
 refine dF aj 6 [0,1] (mc 1 U (mc 0 U mn)) U<|rS (CL (HW d.bp.ab sgA sgC e.bp.ab shA shC h1 h2) (aP [2,3]) U)<|cr aj 5 hQ U U ?_;clear hQ hN;refine cB ?_;simp [qX, *]
theorem G2 (r:cN) (kA:OA) (kC:Nat) (az:List RA) (cA:OA) (cC:Nat) (bA:OA) (bC:Nat) (slA:OA) (slC:Nat) (drA:OA) (drC:Nat) (ha:List cq) (heA:OA) (heC:Nat) (q:cN) (k2A:OA) (k2C:Nat) (az2:List RA) (c2A:OA) (c2C:Nat) (b2A:OA) (b2C:Nat) (sl2A:OA) (sl2C:Nat) (dr2A:OA) (dr2C:Nat) (ha2:List cq) (he2A:OA) (he2C:Nat) (hin:gI r az ha) (hin2:gI q az2 ha2) (hsm: ¬ lY r) (hsm2: ¬ lY q):
 dh Tryz.prog 12 [(vA (cf.cells (pN r kA kC cA cC bA bC slA slC drA drC heA heC))),(vA (cf.cells (cf.mk (bV.mk (aZ.mk (aX.mk k2A q.ar.bQ.length k2C)) q.ar.g7 (aX.mk c2A q.ar.aC.length c2C) (aX.mk b2A q.ar.ai.length b2C) q.ar.b_ q.ar.eZ q.ar.dp) (aX.mk sl2A q.a_.length sl2C) (aX.mk dr2A q.db.length dr2C) q.jz (aX.mk he2A q.ax.length he2C))))] ((DI r kA az cA bA slA drA ha heA)++[(l0 k2A q.ar.bQ),(yS c2A q.ar.aC az2),(iU (bB aS.lf q.ar.aC az2)),(xP b2A q.ar.ai),(jx sl2A q.a_),(jx dr2A q.db),(CV he2A q.ax ha2),(iU (bB nm q.ax ha2))]) (vB (decide (r=q))):=by
 have AA:=hin.line;have A0:=hin.g_;have A1:=hin.has;have AO:=hin.g9;have v:=hin.draw;have Ap:=fG (r:=r);have hline2:=hin2.line;have x:=hin2.g_;have AC:=hin2.has;have u:=hin2.g9;have n:=hin2.draw;have c:=zd hsm;have f:=zd hsm2;refine bj kr Tryz.func12 U U fun w0 Q hQ hN=>?_
 try dsimp only
 refine aU bT 2 U<|dV U fun b2=>dV U fun b3=>aU aj 7 U<|rS (LP (bV.cells (kO r.ar kA kC cA cC bA bC)) 1 U bP U U U)<|aU aj 1 U<|rS (LP (bV.cells (bV.mk (aZ.mk (aX.mk k2A q.ar.bQ.length k2C)) q.ar.g7 (aX.mk c2A q.ar.aC.length c2C) (aX.mk b2A q.ar.ai.length b2C) q.ar.b_ q.ar.eZ q.ar.dp)) 0 U bP U U U)<|rS (CL (Sq r.ar kA kC az cA cC bA bC q.ar k2A k2C az2 c2A c2C b2A b2C (by exact AA) (by exact hline2) (by exact c.1) (by exact f.1)) (aP [2,3,4,5,10,11,12,13]) U)<|aq aj 2 ?_;refine bK (t:=13) U (aK fun O=>?_) (aJ fun O=>?_)
 ·exact cr aj 40 hQ rfl rfl<|cB (bg (fun e=>by cases e;exact O rfl)).symm
 refine dF aj 4 [0,1] (mc 1 U (mc 0 U mn)) U<|rS (CL (tn r.a_ slA slC q.a_ sl2A sl2C asm asm) (aP [6,14]) U)<|aq aj 3 ?_;refine bK (t:=21) U (aK fun P=>?_) (aJ fun P=>?_)
 ·exact cr aj 32 hQ rfl rfl<|cB (bg (fun e=>by cases e;exact P rfl)).symm
 refine dF aj 4 [0,1] (mc 1 U (mc 0 U mn)) U<|rS (CL (tn r.db drA drC q.db dr2A dr2C I I) (aP [7,15]) U)<|aq aj 3 ?_;refine bK (t:=29) U (aK fun R=>?_) (aJ fun R=>?_)
 ·exact cr aj 24 hQ rfl rfl<|cB (bg (fun e=>by cases e;exact R rfl)).symm
 refine ck aj 7 [0,1] (mc 1 U (mc 0 U mn)) ?_;refine bK (t:=36) U (aK fun S=>?_) (aJ fun S=>?_)
 ·exact cr aj 17 hQ rfl rfl<|cB (bg (fun e=>by cases e;exact S rfl)).symm
 refine ck aj 10 [0,1] (mc 1 U (mc 0 U mn)) ?_;refine bY U (aK fun V=>?_) (aJ fun V=>?_)
 ·exact cr aY 6 hQ rfl rfl<|cB (bg (fun e=>by cases e;exact V rfl)).symm
 refine aq aY 9 ?_;have B:(0≤r.ax.length)∧(r.ax.take 0=q.ax.take 0):=by exact ⟨c4 _,rfl⟩
 refine bw (ι:={z:Nat // (z≤r.ax.length)∧(r.ax.take z=q.ax.take z)}) [2,3] [0,1,2,3,4,5,6,7,8,9,10,11,12,13,14,15,16,17] U U (fun z=>[(5,(vI (z.1:Int)))]) (fun z=>[]) (fun _=>rfl) (fun _=>rfl) (fun z=>r.ax.length-z.1) ⟨0,B⟩ (aN U) (aB [0,1,2,3,4,5,6,7,8,9,10,11,12,13,14,15,16,17]) ?_;clear B;rintro ⟨h,⟨p,J⟩⟩ J13 W
 try dsimp only
 refine ck bT 10 [] (mc 1 U mn) ?_;refine bE U (aH fun j=>?_) (aG fun j=>?_)
 ·exact aU aY 1 U<|cr fz 8 hQ U U<|cB (cR (LC O P R S (iE I J I))).symm
 refine aU aY 6 U<|cL bX 13 kr<|dP 3 [] (mc 1 U mn) ?_;obtain ⟨ht,E⟩:=ay r.ax h I;obtain ⟨A,F⟩:=ay ha h I;have AB:(zipWith di r.ax ha)[h]? =some (di ht A):=cE E F;refine dS (IA h U (av 8 U) my dc I I)<|dS (gF h 0 (vS A.1.1 ht.length A.1.2) U bP (av 8 U) AB U dc U)<|dP 4 [] (mc 0 U mn) ?_;obtain ⟨hu,D⟩:=ay q.ax h I;obtain ⟨C,G⟩:=ay ha2 h I;have N:(zipWith di q.ax ha2)[h]? =some (di hu C):=cE D G;refine dS (IA h U (av 16 U) my dc I I)<|dS (gF h 0 (vS C.1.1 hu.length C.1.2) U bP (av 16 U) N U dc U)<|dP 1 [] mn ?_;have g:=hin.fE _ _ _ E F;have w:=g.mE;have M:=hin2.fE _ _ _ D G;have o:=M.mE;have y:=c.2.2.2.2 ht (aF E);refine iQ 1 U<|cy<|aq aj 2 ?_;refine bY U (aK fun l=>?_) (aJ fun l=>?_)
 ·exact cr aY 6 hQ rfl rfl<|cB (bg (fun z=>by cases z;rw [E] at D;cases D;omega)).symm
 refine aq aY 8 ?_;have B:(0≤ht.length)∧(ht.take 0=hu.take 0):=by exact ⟨c4 _,rfl⟩
 refine bw (ι:={z:Nat // (z≤ht.length)∧(ht.take z=hu.take z)}) [2,3,5] [0,1,2,3,4,5,6,7,8,9,10,11,12,13,14,15,16,17] U U (fun z=>[(6,(vI (z.1:Int)))]) (fun z=>[]) (fun _=>rfl) (fun _=>rfl) (fun z=>ht.length-z.1) ⟨0,B⟩ (aN U) (aB [0,1,2,3,4,5,6,7,8,9,10,11,12,13,14,15,16,17]) ?_;clear B;rintro ⟨i,⟨s,K⟩⟩ J22 X
 try dsimp only
 refine dF bT 7 [] (mc 1 U mn) U<|rS (IA h U (av 8 U) my dc I I)<|rS (gF h 0 (vS A.1.1 ht.length A.1.2) U bP (av 8 U) AB U dc U)<|aq aj 4 ?_;refine bE U (aH fun k=>?_) (aG fun k=>?_)
 ·refine aU aY 1 U<|aq fz 8 ?_;have Z:(vI (((h+1):Nat):Int))=(vI ((h:Int)+1)):=by exact cI I
  refine aL (W ⟨(h+1),⟨I,iP J E D (iE I K I)⟩⟩ _ _ _ U os (cV.cons U<|cV.cons U<|aQ U Z<|cV.nil _) (aB [0,1,2,3,4,5,6,7,8,9,10,11,12,13,14,15,16,17]))
 refine aU aY 5 U<|cL bX 18 kr<|jY 3 [] (mc 1 U mn) U<|dS (IA h U (av 8 U) my dc I I)<|dS (gF h 0 (vS A.1.1 ht.length A.1.2) U bP (av 8 U) AB U dc U)<|dP 1 [] mn ?_;obtain ⟨d,hd⟩:=ay ht i I;obtain ⟨da,a⟩:=ay A.2 i I;have m:(zipWith ak.cells ht A.2)[i]? =some (ak.cells d da):=cE hd a;refine dS (IA i U (show ig _ (mT A.1.1 ht A.2).holds from (ct 9 U (bq E F bZ))) rK dc I I)<|dS (k8 i 0 (aO.cells (aO.mk d.Out d.cZ d.Time (dA.mk d.bp.Start d.bp.hP (aX.mk da.1 d.bp.ab.length da.2)))) U bP (show ig _ (mT A.1.1 ht A.2).holds from (ct 9 U (bq E F bZ))) m U dc U U)<|jY 3 [] (mc 0 U mn) U<|dS (IA h U (av 16 U) my dc I I)<|dS (gF h 0 (vS C.1.1 hu.length C.1.2) U bP (av 16 U) N U dc U)<|dP 1 [] mn ?_;obtain ⟨e,H⟩:=ay hu i I;obtain ⟨ea,L⟩:=ay C.2 i I;have b:(zipWith ak.cells hu C.2)[i]? =some (ak.cells e ea):=cE H L;refine dS (IA i U (show ig _ (mT C.1.1 hu C.2).holds from (ct 17 U (bq D G bZ))) rK dc I I)<|dS (k8 i 0 (aO.cells (aO.mk e.Out e.cZ e.Time (dA.mk e.bp.Start e.bp.hP (aX.mk ea.1 e.bp.ab.length ea.2)))) U bP (show ig _ (mT C.1.1 hu C.2).holds from (ct 17 U (bq D G bZ))) b U dc U U)<|dS (CL (Ic d da.1 da.2 e ea.1 ea.2 (by exact g.sig d (aF hd)) (by exact M.sig e (aF H))) (aw (show ig _ (ke da.1 d.bp.ab).holds from (ct 9 U (bq E F (dk _ (bq hd a (by simp [ak.lf]))))))<|aw (show ig _ (ke ea.1 e.bp.ab).holds from (ct 17 U (bq D G (dk _ (bq H L (by simp [ak.lf]))))))<|aA) U)<|iQ 1 U<|cy<|aq aj 2 ?_;refine bE U (aJ fun T=>?_) (aK fun T=>?_)
 ·refine aq aY 8 ?_;have Y:(vI (((i+1):Nat):Int))=(vI ((i:Int)+1)):=by exact cI I
  refine aL (X ⟨(i+1),⟨I,iP K hd H T⟩⟩ _ _ _ U os (cx 3<|aQ U Y<|cV.nil _) (aB [0,1,2,3,4,5,6,7,8,9,10,11,12,13,14,15,16,17]))
 exact cr aY 6 hQ rfl rfl<|cB (bg (fun z=>by cases z;rw [E] at D;cases D;(rw [hd] at H;cases H;exact T rfl))).symm
end
section
open Go.RowKit
variable (l:List Int) (lA:OA) (lC:Nat) (f:Value) (key:Int→Int) (X:au)
theorem v8 (hlen:l.length≤1000000):
 ld Tryz.prog 67 [(vS lA l.length lC)] [(rd lA l.length 1 (l.map iC))] (fun (x:(OA)×Nat)=>(vS x.1 l.length x.2)) (fun (x:(OA)×Nat)=>True) (fun (x:(OA)×Nat)=>[(own x.1 x.2 3 1 (l.map iC))]):=by
 refine cU kr Tryz.func67 U U fun G Q hQ hN=>?_
 try dsimp only
 refine aU bT 9 U<|rS (BI U (s9 Zt))<|aq aj 2 ?_;refine bY U (aG fun B=>?_) (aH fun B=>?_)
 ·refine aq aY 2 ?_;refine oB (av 0 U) B dc fun C=>?_;have A:l=[]:=by simpa using C
  refine fT 3 1 ?_;rw [show (own none 0 3 1 ([]:List (List Value)))=own none 0 3 1 (l.map iC) from by rw [A];rfl];refine aq aj 4 ?_;refine LX hQ (none,0) [0] [] mn U U U ?_ ?_
  ·first|rfl|(rw [A];rfl)
  ·trivial
 refine aU aY 4 U<|xd U cO U fun E=>aq aj 1 ?_;refine g0 (es:=(map iC [])) (C':=[own (some ⟨E,0,none⟩) 0 3 1 (map iC []),_]) 0 U sm U (by simp [maxLen]) U ?_;refine de (es2:=(map iC l)) (m':=l.length) 0 U U U pG U U sm (av 1 U) (j_ _) os (by (simp only [maxLen];omega)) sm sm U fun D F=>?_
 try dsimp only
 refine aq aj 4 ?_;refine LX hQ (D,F) [0] [] mn U U U ?_ ?_
 ·first|rfl|(rw [A];rfl)
 ·trivial
theorem E7 (hf:∀ x0 x1,x0∈l∧x1∈l→BV Tryz.prog f [.int .i64 x0,.int .i64 x1] [X] (.int .i64 (key x0-key x1))) (hkb:∀ x∈l,0≤key x∧key x≤30000000) (hlen:l.length≤1000000):
 IE Tryz.prog 170 [(vS lA l.length lC),(vI 0),(vI (l.length:Int)),f] [X] (own lA lC 3 1 (l.map iC)) (fun (x:Unit)=>(vT [])) (fun (x:Unit)=>True) (fun (x:Unit)=>(own lA lC 3 1 ((gV key l).map iC))):=by
 refine qq kr Tryz.func170 U U fun Y Q hQ hN=>?_
 try dsimp only
 refine aU bT 3 U<|rS (SX (cm (r:= .int .i64 1) U U U (jq ⟨dc,dc⟩)) U U)<|aq aj 4 ?_;have C:(1≤1∧(1≤l.length∨1=1))∧(l.length=l.length)∧(1=1∧l=[]∨wI key l 1 l)∧(∀ x∈l,x∈l):=by exact ⟨I,rfl,KT,fun x h=>h⟩
 refine bw (ι:={z:Nat×(List Int) // (1≤z.1∧(z.1≤l.length∨z.1=1))∧(z.2.length=l.length)∧(z.1=1∧l=[]∨wI key l z.1 z.2)∧(∀ x∈z.2,x∈l)}) [0,1,2,3] [1] U U (fun z=>[(8,(vI (z.1.1:Int)))]) (fun z=>[(own lA lC 3 1 (z.1.2.map iC))]) (fun _=>rfl) (fun _=>rfl) (fun z=>l.length-z.1.1) ⟨(1,l),C⟩ (aN U) (aB [1,0]) ?_;clear C;rintro ⟨⟨i,m⟩,⟨H,E,F,G⟩⟩ J2 K
 try dsimp only at H E F G
 try dsimp only
 refine aq bT 8 ?_;refine bE U (aH fun W=>?_) (aG fun W=>?_)
 ·refine aU aY 1 U<|aq fz 1 ?_;rw [show m=gV key l from Pz I E F];refine LM hN () 1 [] mn U U U U ?_;trivial
 refine aq aY 11 ?_;have C:(i≤i)∧(m.length=l.length)∧(∀ x∈m,x∈l)∧(D8 key l i i m):=by exact ⟨c9 _,E,G,HR I (RS I F)⟩
 refine bw (ι:={z:Nat×(List Int) // (z.1≤i)∧(z.2.length=l.length)∧(∀ x∈z.2,x∈l)∧(D8 key l i z.1 z.2)}) [0,1,2,3,8] [0] U U (fun z=>[(9,(vI (z.1.1:Int)))]) (fun z=>[(own lA lC 3 1 (z.1.2.map iC))]) (fun _=>rfl) (fun _=>rfl) (fun z=>z.1.1) ⟨(i,m),C⟩ (aN U) (aB [0,1]) ?_;clear C;rintro ⟨⟨j,q⟩,⟨AB,D,A,B⟩⟩ J8 AA
 try dsimp only at AB D A B
 try dsimp only
 refine aU bT 2 U<|cL bX 17 kr<|dP 4 [] mn ?_;refine iM (t:=21) U (aH fun S=>?_) (aG fun S=>?_)
 ·refine iQ 13 U<|cy<|aU aj 4 U<|aq fz 8 ?_;refine aL (K ⟨((i+1),q),⟨I,D,.inr (by first|exact BZ I B|exact BQ I B hx hy I),A⟩⟩ _ _ _ U (by simp only [];omega) (aN U) (aB [0,1]))
 refine dP 3 [] mn ?_;obtain ⟨x,hx⟩:=ay q j I;have J:=bx iC hx;refine dS (IA j U (ao (n:=l.length) 1 U sq) cO dc I I) ?_;refine dS (gF j 0 (vI x) U bP (ao (n:=q.length) 1 U sm) J U dc U)<|dP 3 [] mn ?_;obtain ⟨y,hy⟩:=ay q (j-1) I;have R:=bx iC hy;refine dS (IA (j-1) U (ao (n:=l.length) 1 U sq) cO dc I I) ?_;refine dS (gF (j-1) 0 (vI y) U bP (ao (n:=q.length) 1 U sm) R U dc U)<|dS (SX (pq U U U (hf x y ⟨A _ (aF hx),A _ (aF hy)⟩) (aP [0])) U U)<|iQ 2 U<|cy<|aq aj 2 ?_;refine bE U (aH fun T=>?_) (aG fun T=>?_)
 ·refine aU aY 1 U<|aq fz 8 ?_;refine aL (K ⟨((i+1),q),⟨I,D,.inr (by first|exact BZ I B|exact BQ I B hx hy I),A⟩⟩ _ _ _ U (by simp only [];omega) (aN U) (aB [0,1]))
 refine aq aY 4 ?_;refine cT bX [15,16,17] [8,9,12,13,14] [] [0] [0,1] U U U U U<|eS U (MV U)<|eS U (MV U)<|eS U (MV U)<|eS U (MV U)<|eS U (BI U (vZ ⟨I,I⟩))<|eS U (MV U)<|eS U (MV U)<|eS U (BI U (vZ ⟨I,I⟩)) ?_;refine fS U (IA (j-1) U (ao (n:=l.length) 1 U sq) cO dc I I) ?_;refine fS U (gF (j-1) 0 (vI y) U bP (ao (n:=q.length) 1 U sm) R U dc U)<|eS U (MV U)<|eS U (MV U) ?_;refine fS U (IA j U (ao (n:=l.length) 1 U sq) cO dc I I) ?_;refine fS U (gF j 0 (vI x) U bP (ao (n:=q.length) 1 U sm) J U dc U) ?_;refine fS U (IA j U (ao (n:=l.length) 1 U sq) cO dc I I) ?_;refine dL U<|bR U fun T14 L=>ej (k:=j) (o:=0) (vs:=[(vI y)]) (es':=(map iC (q.set j y))) (C':=[_,(own lA lC 3 1 (map iC (q.set j y)))]) 1 U U U Gy U U U U J U dc (by exact (AAl (f:=iC) (l:=q) (i:=j) (a:=y)).symm) U<|bG (L _ _ (aB [0]) ?_);refine bR U fun T15 M=>?_;obtain ⟨V,P⟩:=ay (q.set j y) (j-1) os;have hx17m:(map iC (q.set j y))[(j-1)]? =some (iC V):=by rw [gO,P];rfl
 refine rS (IA (j-1) U (ao (n:=l.length) 1 U sq) cO dc I I) ?_;refine bG (M _ _ (aB [0]) ?_);refine bR U fun T18 N=>ej (k:=(j-1)) (o:=0) (vs:=[(vI x)]) (es':=(map iC ((q.set j y).set (j-1) x))) (C':=[_,(own lA lC 3 1 (map iC ((q.set j y).set (j-1) x)))]) 1 U U U Gy U U U U hx17m U dc (by exact (AAl (f:=iC) (l:=(q.set j y)) (i:=(j-1)) (a:=x)).symm) U<|bG (N _ _ (aB [0]) ?_);refine eI U<|aq jC 7 ?_;have O:(vI (((j-1):Nat):Int))=(vI ((j:Int)-1)):=by exact cI I
 refine aL (AA ⟨((j-1),((q.set j y).set (j-1) x)),⟨I,by simp;exact D,N3 hx hy A,Ko I B hx hy I⟩⟩ _ _ _ U (by simp only [];omega) (cx 5<|aQ U O<|cV.nil _) (aB [0,1]))
theorem PZ (hf:∀ x0 x1,x0∈l∧x1∈l→BV Tryz.prog f [.int .i64 x0,.int .i64 x1] [X] (.int .i64 (key x0-key x1))) (hkb:∀ x∈l,0≤key x∧key x≤30000000) (hlen:l.length≤12):
 IE Tryz.prog 128 [(vS lA l.length lC),(vI (l.length:Int)),f] [X] (lX lA lC l) (fun (x:Unit)=>(vT [])) (fun (x:Unit)=>True) (fun (x:Unit)=>(lX lA lC (gV key l))):=by
 refine qq kr Tryz.func128 U U fun F Q hQ hN=>?_
 try dsimp only
 refine aU bT 14 U<|iX 1<|eh fun R4 E=>aq bT 8 ?_;refine bY U (aG fun D=>?_) (aH fun D=>?_)
 ·exfalso;omega
 refine aU aY 1 U<|aq fz 8 ?_;refine kp 0 U U U U (E7 l lA lC f key X (by exact hf) hkb sd) U (ek 1 U U (dj (bM _)) mu) U (fun G C=>?_)
 try dsimp only
 refine aU aj 3 U<|iX 1<|eh fun R11 B=>aq bT 8 ?_;refine bY U (aG fun A=>?_) (aH fun A=>?_)
 ·exfalso;omega
 refine aU aY 1 U<|aq fz 1 ?_;refine LM hN () 0 [] mn U U U U ?_;trivial
theorem Df (hf:∀ x0 x1,x0∈l∧x1∈l→BV Tryz.prog f [.int .i64 x0,.int .i64 x1] [X] (.int .i64 (key x0-key x1))) (hkb:∀ x∈l,0≤key x∧key x≤30000000) (hlen:l.length≤12):
 IE Tryz.prog 88 [(vS lA l.length lC),f] [X] (lX lA lC l) (fun (x:Unit)=>(vT [])) (fun (x:Unit)=>True) (fun (x:Unit)=>(lX lA lC (gV key l))):=by
 refine qq kr Tryz.func88 U U fun B Q hQ hN=>?_
 try dsimp only
 refine aq bT 5 ?_;refine kp 0 U U U U (PZ l lA lC f key X (by exact hf) hkb hlen) U (ek 1 U U (dj (bM _)) mu) U (fun C A=>?_)
 try dsimp only
 refine aq aj 1 ?_;refine LM hN () 0 [] mn U U U U ?_;trivial
theorem KH (hf:∀ x0 x1,x0∈l∧x1∈l→BV Tryz.prog f [.int .i64 x0,.int .i64 x1] [X] (.int .i64 (key x0-key x1))) (hkb:∀ x∈l,0≤key x∧key x≤30000000) (hlen:l.length≤12):
 ld Tryz.prog 43 [(vS lA l.length lC),f] [(jx lA l),X] (fun (x:(OA)×Nat)=>(vS x.1 ((gV key l).length) x.2)) (fun (x:(OA)×Nat)=>True) (fun (x:(OA)×Nat)=>[(lX x.1 x.2 (gV key l))]):=by
 refine cU kr Tryz.func43 U U fun F Q hQ hN=>?_
 try dsimp only
 refine aq bT 8 ?_;refine cX (v8 l lA lC sd) (aP [0]) U fun E C=>?_;obtain ⟨A,B⟩:=E
 try dsimp only
 refine aq aj 7 ?_;refine kp 0 U U U U (Df l A B f key X (by exact hf) hkb hlen) U (ek 2 U U (dj (bM _)) mu) U (fun G D=>?_)
 try dsimp only
 refine aq aj 9 ?_;refine LX hQ (A,B) [0] [] mn U U U ?_ ?_
 ·first|rfl|(rw [qy];rfl)
 ·trivial
end
section
open Go.RowKit
theorem Gh (l:List ag) (lA:OA) (lC:Nat) (hlen:l.length≤1000000):
 ld Tryz.prog 63 [(vS lA l.length lC)] [(rd lA l.length 9 (l.map ag.cells))] (fun (x:(OA)×Nat)=>(vS x.1 l.length x.2)) (fun (x:(OA)×Nat)=>True) (fun (x:(OA)×Nat)=>[(own x.1 x.2 65 9 (l.map ag.cells))]):=by
 refine cU kr Tryz.func63 U U fun G Q hQ hN=>?_
 try dsimp only
 refine aU bT 9 U<|rS (BI U (s9 UL))<|aq aj 2 ?_;refine bY U (aG fun B=>?_) (aH fun B=>?_)
 ·refine aq aY 2 ?_;refine oB (av 0 U) B dc fun C=>?_;have A:l=[]:=by simpa using C
  refine fT 65 9 ?_;rw [show (own none 0 65 9 ([]:List (List Value)))=own none 0 65 9 (l.map ag.cells) from by rw [A];rfl];refine aq aj 4 ?_;refine LX hQ (none,0) [0] [] mn U U U ?_ ?_
  ·first|rfl|(rw [A];rfl)
  ·trivial
 refine aU aY 4 U<|xd U vD U fun E=>aq aj 1 ?_;refine g0 (es:=(map ag.cells [])) (C':=[own (some ⟨E,0,none⟩) 0 65 9 (map ag.cells []),_]) 0 U sm U (by simp [maxLen]) U ?_;refine de (es2:=(map ag.cells l)) (m':=l.length) 0 U U U aaC U U sm (av 1 U) (vC _) os (by (simp only [maxLen];omega)) sm sm U fun D F=>?_
 try dsimp only
 refine aq aj 4 ?_;refine LX hQ (D,F) [0] [] mn U U U ?_ ?_
 ·first|rfl|(rw [A];rfl)
 ·trivial
theorem ER (l:List df) (lA:OA) (lC:Nat) (hlen:l.length≤1000000):
 ld Tryz.prog 64 [(vS lA l.length lC)] [(rd lA l.length 4 (l.map df.cells))] (fun (x:(OA)×Nat)=>(vS x.1 l.length x.2)) (fun (x:(OA)×Nat)=>True) (fun (x:(OA)×Nat)=>[(own x.1 x.2 113 4 (l.map df.cells))]):=by
 refine cU kr Tryz.func64 U U fun G Q hQ hN=>?_
 try dsimp only
 refine aU bT 9 U<|rS (BI U (s9 RY))<|aq aj 2 ?_;refine bY U (aG fun B=>?_) (aH fun B=>?_)
 ·refine aq aY 2 ?_;refine oB (av 0 U) B dc fun C=>?_;have A:l=[]:=by simpa using C
  refine fT 113 4 ?_;rw [show (own none 0 113 4 ([]:List (List Value)))=own none 0 113 4 (l.map df.cells) from by rw [A];rfl];refine aq aj 4 ?_;refine LX hQ (none,0) [0] [] mn U U U ?_ ?_
  ·first|rfl|(rw [A];rfl)
  ·trivial
 refine aU aY 4 U<|xd U wx U fun E=>aq aj 1 ?_;refine g0 (es:=(map df.cells [])) (C':=[own (some ⟨E,0,none⟩) 0 113 4 (map df.cells []),_]) 0 U sm U (by simp [maxLen]) U ?_;refine de (es2:=(map df.cells l)) (m':=l.length) 0 U U U W2 U U sm (av 1 U) (sD _) os (by (simp only [maxLen];omega)) sm sm U fun D F=>?_
 try dsimp only
 refine aq aj 4 ?_;refine LX hQ (D,F) [0] [] mn U U U ?_ ?_
 ·first|rfl|(rw [A];rfl)
 ·trivial
theorem Fe (l:List cP) (lA:OA) (lC:Nat) (hlen:l.length≤1000000):
 ld Tryz.prog 66 [(vS lA l.length lC)] [(rd lA l.length 3 (l.map cP.cells))] (fun (x:(OA)×Nat)=>(vS x.1 l.length x.2)) (fun (x:(OA)×Nat)=>True) (fun (x:(OA)×Nat)=>[(own x.1 x.2 106 3 (l.map cP.cells))]):=by
 refine cU kr Tryz.func66 U U fun G Q hQ hN=>?_
 try dsimp only
 refine aU bT 9 U<|rS (BI U (s9 UF))<|aq aj 2 ?_;refine bY U (aG fun B=>?_) (aH fun B=>?_)
 ·refine aq aY 2 ?_;refine oB (av 0 U) B dc fun C=>?_;have A:l=[]:=by simpa using C
  refine fT 106 3 ?_;rw [show (own none 0 106 3 ([]:List (List Value)))=own none 0 106 3 (l.map cP.cells) from by rw [A];rfl];refine aq aj 4 ?_;refine LX hQ (none,0) [0] [] mn U U U ?_ ?_
  ·first|rfl|(rw [A];rfl)
  ·trivial
 refine aU aY 4 U<|xd U pK U fun E=>aq aj 1 ?_;refine g0 (es:=(map cP.cells [])) (C':=[own (some ⟨E,0,none⟩) 0 106 3 (map cP.cells []),_]) 0 U sm U (by simp [maxLen]) U ?_;refine de (es2:=(map cP.cells l)) (m':=l.length) 0 U U U XG U U sm (av 1 U) (yU _) os (by (simp only [maxLen];omega)) sm sm U fun D F=>?_
 try dsimp only
 refine aq aj 4 ?_;refine LX hQ (D,F) [0] [] mn U U U ?_ ?_
 ·first|rfl|(rw [A];rfl)
 ·trivial
theorem zw (l:List aR) (lA:OA) (lC:Nat) (hlen:l.length≤1000000):
 ld Tryz.prog 30 [(vS lA l.length lC)] [(rd lA l.length 2 (l.map aR.cells))] (fun (x:(OA)×Nat)=>(vS x.1 l.length x.2)) (fun (x:(OA)×Nat)=>True) (fun (x:(OA)×Nat)=>[(own x.1 x.2 85 2 (l.map aR.cells))]):=by
 refine cU kr Tryz.func30 U U fun G Q hQ hN=>?_
 try dsimp only
 refine aU bT 9 U<|rS (BI U (s9 XN))<|aq aj 2 ?_;refine bY U (aG fun B=>?_) (aH fun B=>?_)
 ·refine aq aY 2 ?_;refine oB (av 0 U) B dc fun C=>?_;have A:l=[]:=by simpa using C
  refine fT 85 2 ?_;rw [show (own none 0 85 2 ([]:List (List Value)))=own none 0 85 2 (l.map aR.cells) from by rw [A];rfl];refine aq aj 4 ?_;refine LX hQ (none,0) [0] [] mn U U U ?_ ?_
  ·first|rfl|(rw [A];rfl)
  ·trivial
 refine aU aY 4 U<|xd U zE U fun E=>aq aj 1 ?_;refine g0 (es:=(map aR.cells [])) (C':=[own (some ⟨E,0,none⟩) 0 85 2 (map aR.cells []),_]) 0 U sm U (by simp [maxLen]) U ?_;refine de (es2:=(map aR.cells l)) (m':=l.length) 0 U U U aa5 U U sm (av 1 U) (wW _) os (by (simp only [maxLen];omega)) sm sm U fun D F=>?_
 try dsimp only
 refine aq aj 4 ?_;refine LX hQ (D,F) [0] [] mn U U U ?_ ?_
 ·first|rfl|(rw [A];rfl)
 ·trivial
variable (es:List (List Value)) (lA:OA)
theorem F9 (n lC:Nat) (hlen:n≤1000000) (hes:es.length=n) (hone:∀ v∈es.flatten,v.oneCell'=true):
 ld Tryz.prog 65 [(vS lA n lC)] [(rd lA n 2 es)] (fun (x:(OA)×Nat)=>(vS x.1 n x.2)) (fun (x:(OA)×Nat)=>True) (fun (x:(OA)×Nat)=>[(own x.1 x.2 109 2 es)]):=by
 refine cU kr Tryz.func65 U U fun G Q hQ hN=>?_
 try dsimp only
 refine aU bT 9 U<|rS (BI U (s9 Ye))<|aq aj 2 ?_;refine bY U (aG fun A=>?_) (aH fun A=>?_)
 ·refine aq aY 2 ?_;refine oB (av 0 U) A dc fun C=>?_;have B:es=[]:=C;refine fT 109 2 ?_;rw [show (own none 0 109 2 ([]:List (List Value)))=own none 0 109 2 es from by rw [B]];refine aq aj 4 ?_;refine LX hQ (none,0) [0] [] mn U U U ?_ ?_
  ·(rw [← hes,B];rfl)
  ·trivial
 refine aU aY 4 U<|xd U xq U fun E=>aq aj 1 ?_;refine g0 (es:=(map dE.cells [])) (C':=[own (some ⟨E,0,none⟩) 0 109 2 (map dE.cells []),_]) 0 U sm U (by simp [maxLen]) U ?_;refine de (es2:=es) (m':=es.length) 0 U U U aao U U sm (av 1 U) hone (by simp;omega) (by simp [maxLen];omega) sm U U fun D F=>?_
 try dsimp only
 refine aq aj 4 ?_;refine LX hQ (D,F) [0] [] mn U U U ?_ ?_
 ·(rw [hes];rfl)
 ·trivial
theorem E5 (n lC:Nat) (hlen:n≤1000000) (hes:es.length=n) (hone:∀ v∈es.flatten,v.oneCell'=true):
 ld Tryz.prog 69 [(vS lA n lC)] [(rd lA n 7 es)] (fun (x:(OA)×Nat)=>(vS x.1 n x.2)) (fun (x:(OA)×Nat)=>True) (fun (x:(OA)×Nat)=>[(own x.1 x.2 52 7 es)]):=by
 refine cU kr Tryz.func69 U U fun G Q hQ hN=>?_
 try dsimp only
 refine aU bT 9 U<|rS (BI U (s9 XU))<|aq aj 2 ?_;refine bY U (aG fun A=>?_) (aH fun A=>?_)
 ·refine aq aY 2 ?_;refine oB (av 0 U) A dc fun C=>?_;have B:es=[]:=C;refine fT 52 7 ?_;rw [show (own none 0 52 7 ([]:List (List Value)))=own none 0 52 7 es from by rw [B]];refine aq aj 4 ?_;refine LX hQ (none,0) [0] [] mn U U U ?_ ?_
  ·(rw [← hes,B];rfl)
  ·trivial
 refine aU aY 4 U<|xd U rK U fun E=>aq aj 1 ?_;refine g0 (es:=(map aO.cells [])) (C':=[own (some ⟨E,0,none⟩) 0 52 7 (map aO.cells []),_]) 0 U sm U (by simp [maxLen]) U ?_;refine de (es2:=es) (m':=es.length) 0 U U U ZP U U sm (av 1 U) hone (by simp;omega) (by simp [maxLen];omega) sm U U fun D F=>?_
 try dsimp only
 refine aq aj 4 ?_;refine LX hQ (D,F) [0] [] mn U U U ?_ ?_
 ·(rw [hes];rfl)
 ·trivial
theorem EH (n lC:Nat) (hlen:n≤1000000) (hes:es.length=n) (hone:∀ v∈es.flatten,v.oneCell'=true):
 ld Tryz.prog 68 [(vS lA n lC)] [(rd lA n 1 es)] (fun (x:(OA)×Nat)=>(vS x.1 n x.2)) (fun (x:(OA)×Nat)=>True) (fun (x:(OA)×Nat)=>[(own x.1 x.2 68 1 es)]):=by
 refine cU kr Tryz.func68 U U fun G Q hQ hN=>?_
 try dsimp only
 refine aU bT 9 U<|rS (BI U (s9 XZ))<|aq aj 2 ?_;refine bY U (aG fun A=>?_) (aH fun A=>?_)
 ·refine aq aY 2 ?_;refine oB (av 0 U) A dc fun C=>?_;have B:es=[]:=C;refine fT 68 1 ?_;rw [show (own none 0 68 1 ([]:List (List Value)))=own none 0 68 1 es from by rw [B]];refine aq aj 4 ?_;refine LX hQ (none,0) [0] [] mn U U U ?_ ?_
  ·(rw [← hes,B];rfl)
  ·trivial
 refine aU aY 4 U<|xd U my U fun E=>aq aj 1 ?_;refine g0 (es:=(map sC [])) (C':=[own (some ⟨E,0,none⟩) 0 68 1 (map sC []),_]) 0 U sm U (by simp [maxLen]) U ?_;refine de (es2:=es) (m':=es.length) 0 U U U aaL U U sm (av 1 U) hone (by simp;omega) (by simp [maxLen];omega) sm U U fun D F=>?_
 try dsimp only
 refine aq aj 4 ?_;refine LX hQ (D,F) [0] [] mn U U U ?_ ?_
 ·(rw [hes];rfl)
 ·trivial
end
section
open Go.RowKit
theorem RL (r:cN) (kA:OA) (kC:Nat) (az:List RA) (cA:OA) (cC:Nat) (bA:OA) (bC:Nat) (slA:OA) (slC:Nat) (drA:OA) (drC:Nat) (ha:List cq) (heA:OA) (heC:Nat) (hin:gI r az ha):
 ld Tryz.prog 77 [(vA (cf.cells (pN r kA kC cA cC bA bC slA slC drA drC heA heC)))] (DI r kA az cA bA slA drA ha heA) (fun (x:(OA)×Nat×(OA)×Nat×(List RA)×(OA)×Nat×(OA)×Nat×(OA)×Nat×(OA)×Nat×(List cq))=>(vA (cf.cells (cf.mk (bV.mk (aZ.mk (aX.mk x.1 r.ar.bQ.length x.2.1)) r.ar.g7 (aX.mk x.2.2.1 r.ar.aC.length x.2.2.2.1) (aX.mk x.2.2.2.2.2.1 r.ar.ai.length x.2.2.2.2.2.2.1) r.ar.b_ r.ar.eZ r.ar.dp) (aX.mk x.2.2.2.2.2.2.2.1 r.a_.length x.2.2.2.2.2.2.2.2.1) (aX.mk x.2.2.2.2.2.2.2.2.2.1 r.db.length x.2.2.2.2.2.2.2.2.2.2.1) r.jz (aX.mk x.2.2.2.2.2.2.2.2.2.2.2.1 r.ax.length x.2.2.2.2.2.2.2.2.2.2.2.2.1))))) (fun (x:(OA)×Nat×(OA)×Nat×(List RA)×(OA)×Nat×(OA)×Nat×(OA)×Nat×(OA)×Nat×(List cq))=>(x.2.2.2.2.1.length=r.ar.aC.length∧pX r.ar.aC x.2.2.2.2.1)∧sU r.ax x.2.2.2.2.2.2.2.2.2.2.2.2.2) (fun (x:(OA)×Nat×(OA)×Nat×(List RA)×(OA)×Nat×(OA)×Nat×(OA)×Nat×(OA)×Nat×(List cq))=>[(own x.1 x.2.1 65 9 (r.ar.bQ.map ag.cells)),(own x.2.2.1 x.2.2.2.1 109 2 (zipWith aS.cells r.ar.aC x.2.2.2.2.1)),(bD (bB aS.owns r.ar.aC x.2.2.2.2.1)),(own x.2.2.2.2.2.1 x.2.2.2.2.2.2.1 113 4 (r.ar.ai.map df.cells)),(own x.2.2.2.2.2.2.2.1 x.2.2.2.2.2.2.2.2.1 3 1 (r.a_.map iC)),(own x.2.2.2.2.2.2.2.2.2.1 x.2.2.2.2.2.2.2.2.2.2.1 3 1 (r.db.map iC)),(own x.2.2.2.2.2.2.2.2.2.2.2.1 x.2.2.2.2.2.2.2.2.2.2.2.2.1 68 1 (zipWith di r.ax x.2.2.2.2.2.2.2.2.2.2.2.2.2)),(bD (bB kB r.ax x.2.2.2.2.2.2.2.2.2.2.2.2.2))]):=by
 have C:=hin.line;have EU:=hin.g_;have M:=hin.has;have IO:=hin.g9;have Hi:=hin.draw;have IR:=fG (r:=r);have J9:=C.sQ;have J6:=C.sR;have J5:=C.sP;have Do:=C.mE;refine cU kr Tryz.func77 U U fun w0 Q hQ hN=>?_
 try dsimp only
 refine aU bT 2 U<|dV U fun b2=>AL U vm fun b3=>aq aj 9 ?_;refine cT bX [8,13,18,22,25,28] [7,11,15] [0,1,2] [0,2,3,4,5,6,7,8,9] [0,1,2,3,4,5,6,7,8,9] U U U U U<|eS U (MV U)<|eS U (MV U)<|eS U (MV U)<|eS U (MV U)<|eS U (SX (bO U U) U U)<|eS U (FA 0 U eB U)<|eS U (FA 0 U eB U)<|fS U (L1 (vS kA r.ar.bQ.length kC) 1 U bP U U)<|eS U (MV U)<|eS U (SX (bO U U) U U)<|eS U (FA 2 U eB U)<|fS U (L1 (vS cA r.ar.aC.length cC) 1 U bP U U)<|eS U (MV U)<|eS U (SX (bO U U) U U)<|eS U (FA 3 U eB U)<|fS U (L1 (vS bA r.ar.ai.length bC) 1 U bP U U)<|eS U (SX (bO U U) U U)<|eS U (FA 0 U eB U)<|eS U (FA 0 U eB U)<|eS U (SX (bO U U) U U)<|eS U (FA 2 U eB U)<|eS U (SX (bO U U) U U)<|eS U (FA 3 U eB U)<|dL U<|gr U fun T6 Dn=>?_;refine cX (Gh r.ar.bQ kA kC sd) (aP [2]) U fun y7 K0=>?_;obtain ⟨a9,S⟩:=y7
 try dsimp only
 refine bG (Dn _ _ (aB [1,3,4,5,6,7,8,9,10]) (aB [1,2,3,4,5,6,7,8,9,10]) ?_);refine gr U fun T11 A5=>?_;refine cX (F9 (zipWith aS.cells r.ar.aC az) cA r.ar.aC.length cC sd (by exact il Do) (by exact zm _ _)) (aP [4]) U fun Es Id=>?_;obtain ⟨J,K⟩:=Es
 try dsimp only
 refine bG (A5 _ _ (aB [2,4,5,6,7,8,9,10,11]) (aB [2,3,4,5,6,7,8,9,10,11]) ?_);refine gr U fun T16 A6=>?_;refine cX (ER r.ar.ai bA bC sd) (aP [7]) U fun FS If=>?_;obtain ⟨Y,Z⟩:=FS
 try dsimp only
 refine bG (A6 _ _ (aB [3,5,6,7,8,9,10,11,12]) (aB [3,4,5,6,7,8,9,10,11,12]) ?_);refine bR U fun T21 A7=>WD (cf.cells (cf.mk (bV.mk (aZ.mk (aX.mk a9 r.ar.bQ.length S)) r.ar.g7 (aX.mk cA r.ar.aC.length cC) (aX.mk bA r.ar.ai.length bC) r.ar.b_ r.ar.eZ r.ar.dp) (aX.mk slA r.a_.length slC) (aX.mk drA r.db.length drC) r.jz (aX.mk heA r.ax.length heC))) U Xw U U<|bG (A7 _ _ (aB [3,5,6,7,8,9,10,11,12]) ?_);refine bR U fun T22 A8=>WD (cf.cells (cf.mk (bV.mk (aZ.mk (aX.mk a9 r.ar.bQ.length S)) r.ar.g7 (aX.mk J r.ar.aC.length K) (aX.mk bA r.ar.ai.length bC) r.ar.b_ r.ar.eZ r.ar.dp) (aX.mk slA r.a_.length slC) (aX.mk drA r.db.length drC) r.jz (aX.mk heA r.ax.length heC))) U Xb U U<|bG (A8 _ _ (aB [3,5,6,7,8,9,10,11,12]) ?_);refine bR U fun T23 A9=>WD (cf.cells (cf.mk (bV.mk (aZ.mk (aX.mk a9 r.ar.bQ.length S)) r.ar.g7 (aX.mk J r.ar.aC.length K) (aX.mk Y r.ar.ai.length Z) r.ar.b_ r.ar.eZ r.ar.dp) (aX.mk slA r.a_.length slC) (aX.mk drA r.db.length drC) r.jz (aX.mk heA r.ax.length heC))) U U5 U U<|bG (A9 _ _ (aB [3,5,6,7,8,9,10,11,12]) ?_);refine eI U<|aU jC 5 U<|rS (SX (bO U U) U U)<|ck aj 7 [] (mc 4 U mn) ?_;refine mo ?_;have E:(0≤r.ar.aC.length)∧(([]:List RA).length=0)∧(pX r.ar.aC ([]:List RA)):=by exact ⟨c4 _,rfl,fun k m a _ h=>by simp at h⟩
 refine bw (ι:={z:Nat×(List RA) // (z.1≤r.ar.aC.length)∧(z.2.length=z.1)∧(pX r.ar.aC z.2)}) [1,2,3,39] [1,3,4,5,6,7,8,9,10,11,12,13] U U (fun z=>[(40,(vI (z.1.1:Int)))]) (fun z=>[(bD (bB aS.owns (r.ar.aC.take z.1.1) z.1.2)),(own J K 109 2 (zipWith aS.cells r.ar.aC (jk z.1.2 az z.1.1)))]) (fun _=>rfl) (fun _=>rfl) (fun z=>r.ar.aC.length-z.1.1) ⟨(0,([]:List RA)),E⟩ (aN U) (aB [1,3,4,5,6,7,8,9,10,11,12,13,0,2]) ?_;clear E;rintro ⟨⟨i,bz⟩,⟨A1,B,V⟩⟩ J26 A2
 try dsimp only at A1 B V
 try dsimp only
 refine aq bT 6 ?_;refine bY U (aG fun DA=>?_) (aH fun DA=>?_)
 ·refine aq aY 10 ?_;refine cT bX [13,16] [10,11,12,13,14] [0] [0,1,2,3,4,5,6,7,8,9,10,11,12] [0,1,2,3,4,5,6,7,8,9,10,11,12,13] U U U U U<|eS U (MV U)<|eS U (SX (bO U U) U U)<|eS U (FA 2 U eB U)<|eS U (L1 (vS J r.ar.aC.length K) 3 U bP U U)<|eS U (MV U)<|eS U (MV U)<|eS U (SX (bO U U) U U)<|eS U (FA 2 U eB U)<|eS U (L1 (vS J r.ar.aC.length K) 3 U bP U U)<|eS U (MV U) ?_;obtain ⟨x,hx⟩:=ay r.ar.aC i I;obtain ⟨xa,s⟩:=ay az i I;have C3:(zipWith aS.cells r.ar.aC (jk bz az i))[i]? =some (aS.cells x xa):=cE hx (ud B s);have J8:=(C.UP _ _ _ hx s).2;refine fS U (IA i U (ao (n:=r.ar.aC.length) 13 U (il (by rw [eU B I];exact C.mE))) xq dc I I) ?_;refine fS U (p9 ((i*2)+1) U (ao (n:=r.ar.aC.length) 13 U (il (by rw [eU B I];exact C.mE))) (e6 I dc) eB U) ?_;refine fS U (gF i 1 (vS xa.1 x.bo.length xa.2) U bP (ao (n:=r.ar.aC.length) 13 U (il (by rw [eU B I];exact C.mE))) C3 U dc U) ?_;refine fS U (IA i U (ao (n:=r.ar.aC.length) 13 U (il (by rw [eU B I];exact C.mE))) xq dc I I) ?_;refine fS U (p9 ((i*2)+1) U (ao (n:=r.ar.aC.length) 13 U (il (by rw [eU B I];exact C.mE))) (e6 I dc) eB U) ?_;refine dL U<|gr U fun T32 BD=>?_;refine cX (Fe x.bo xa.1 xa.2 sd) (aw (show ig _ (rd xa.1 x.bo.length 3 (x.bo.map cP.cells)).holds from (ct 6 U (bq hx s (by simp [aS.lf]))))<|aA) U fun Fd In=>?_;obtain ⟨P,T⟩:=Fd
  try dsimp only
  refine bG (BD _ _ (aB [1,2,3,4,5,6,7,8,9,10,11,12,13]) (aB [1,2,3,4,5,6,7,8,9,10,11,12,13,14]) ?_);refine bR U fun T37 BP=>ej (k:=i) (o:=1) (vs:=[(vS P x.bo.length T)]) (es':=(zipWith aS.cells r.ar.aC (jk (bz++[(P,T)]) az (i+1)))) (C':=[_,_,_,_,_,_,_,_,_,_,_,_,_,_,(own J K 109 2 (zipWith aS.cells r.ar.aC (jk (bz++[(P,T)]) az (i+1))))]) 14 U U U TW U U U U C3 U dc (by exact q8 (c:=aS.cells) (b:=(P,T)) hx B s) U<|bG (BP _ _ (aB [1,2,3,4,5,6,7,8,9,10,11,12,13]) ?_);refine eI U<|aq jC 6 ?_;refine Pj 0 U fun t=>?_;simp only [c3] at t;refine Dc (Y':=bB aS.owns (r.ar.aC.take (i+1)) (bz++[(P,T)])) 13 0 U U (nQ (f:=aS.owns) (b:=(P,T)) hx B) ?_;have Cx:(vI (((i+1):Nat):Int))=(vI ((i:Int)+1)):=by exact cI I
  refine aL (A2 ⟨((i+1),(bz++[(P,T)])),⟨I,by simp;omega,Ey V B hx t⟩⟩ _ _ _ U os (cx 4<|aQ U Cx<|cV.nil _) (aB [1,2,3,4,5,6,7,8,9,10,11,12,0,13]))
 refine aU aY 1 U<|aq fz 3 ?_;have D0:bz.length=r.ar.aC.length:=by omega
 have EQ:=V;rw [show (jk bz az i)=bz from qF I,show r.ar.aC.take i=r.ar.aC from c5 I];refine cT bX [2,5,8,10,12,14] [1,3,5] [0,1,2] [0,1,2,4,5,6,7,8,9,10,11,12,13] [0,1,2,3,4,5,6,7,8,9,10,11,12,13] U U U U U<|eS U (FA 7 U eB U)<|fS U (L1 (vS slA r.a_.length slC) 3 U bP U U)<|eS U (FA 8 U eB U)<|fS U (L1 (vS drA r.db.length drC) 3 U bP U U)<|eS U (FA 10 U eB U)<|fS U (L1 (vS heA r.ax.length heC) 3 U bP U U)<|eS U (FA 7 U eB U)<|eS U (FA 8 U eB U)<|eS U (FA 10 U eB U)<|dL U<|gr U fun T40 Bt=>?_;refine cX (v8 r.a_ slA slC sd) (aP [8]) U fun Fn Iw=>?_;obtain ⟨g,j⟩:=Fn
 try dsimp only
 refine bG (Bt _ _ (aB [1,2,3,5,6,7,8,9,10,11,12,13,14]) (aB [1,2,3,4,5,6,7,8,9,10,11,12,13,14]) ?_);refine gr U fun T45 Bv=>?_;refine cX (v8 r.db drA drC sd) (aP [10]) U fun GE I7=>?_;obtain ⟨w,AO⟩:=GE
 try dsimp only
 refine bG (Bv _ _ (aB [2,3,4,6,7,8,9,10,11,12,13,14,15]) (aB [2,3,4,5,6,7,8,9,10,11,12,13,14,15]) ?_);refine gr U fun T50 B3=>?_;refine cX (EH (zipWith di r.ax ha) heA r.ax.length heC sd (by exact e8 M) (by exact BO _ _)) (aP [12]) U fun GT J2=>?_;obtain ⟨W,X⟩:=GT
 try dsimp only
 refine bG (B3 _ _ (aB [3,4,5,7,8,9,10,11,12,13,14,15,16]) (aB [3,4,5,6,7,8,9,10,11,12,13,14,15,16]) ?_);refine bR U fun T55 B7=>WG (cf.cells (cf.mk (bV.mk (aZ.mk (aX.mk a9 r.ar.bQ.length S)) r.ar.g7 (aX.mk J r.ar.aC.length K) (aX.mk Y r.ar.ai.length Z) r.ar.b_ r.ar.eZ r.ar.dp) (aX.mk g r.a_.length j) (aX.mk drA r.db.length drC) r.jz (aX.mk heA r.ax.length heC))) U wk U U<|bG (B7 _ _ (aB [3,4,5,7,8,9,10,11,12,13,14,15,16]) ?_);refine bR U fun T56 B9=>WG (cf.cells (cf.mk (bV.mk (aZ.mk (aX.mk a9 r.ar.bQ.length S)) r.ar.g7 (aX.mk J r.ar.aC.length K) (aX.mk Y r.ar.ai.length Z) r.ar.b_ r.ar.eZ r.ar.dp) (aX.mk g r.a_.length j) (aX.mk w r.db.length AO) r.jz (aX.mk heA r.ax.length heC))) U wk U U<|bG (B9 _ _ (aB [3,4,5,7,8,9,10,11,12,13,14,15,16]) ?_);refine bR U fun T57 Ci=>WG (cf.cells (cf.mk (bV.mk (aZ.mk (aX.mk a9 r.ar.bQ.length S)) r.ar.g7 (aX.mk J r.ar.aC.length K) (aX.mk Y r.ar.ai.length Z) r.ar.b_ r.ar.eZ r.ar.dp) (aX.mk g r.a_.length j) (aX.mk w r.db.length AO) r.jz (aX.mk W r.ax.length X))) U WZ U U<|bG (Ci _ _ (aB [3,4,5,7,8,9,10,11,12,13,14,15,16]) ?_);refine eI U<|ck jC 11 [] (mc 6 U mn) ?_;refine mo ?_;have E:(0≤r.ax.length)∧(([]:List cq).length=0)∧(∀ (k:Nat) y (a:cq),r.ax[k]? =some y→([]:List cq)[k]? =some a→a.2.length=y.length):=by exact ⟨c4 _,rfl,fun k y a _ q=>by simp at q⟩
 refine bw (ι:={z:Nat×(List cq) // (z.1≤r.ax.length)∧(z.2.length=z.1)∧(∀ (k:Nat) y (a:cq),r.ax[k]? =some y→z.2[k]? =some a→a.2.length=y.length)}) [1,2,74] [2,3,4,5,6,7,8,9,10,11,12,13,14,15,16,17] U U (fun z=>[(75,(vI (z.1.1:Int)))]) (fun z=>[(bD (bB kB (r.ax.take z.1.1) z.1.2)),(own W X 68 1 (zipWith di r.ax (jk z.1.2 ha z.1.1)))]) (fun _=>rfl) (fun _=>rfl) (fun z=>r.ax.length-z.1.1) ⟨(0,([]:List cq)),E⟩ (aN U) (aB [2,3,4,5,6,7,8,9,10,11,12,13,14,15,16,17,0,1]) ?_;clear E;rintro ⟨⟨h,hz⟩,⟨l,A,L⟩⟩ J60 A3
 try dsimp only at l A L
 try dsimp only
 refine aq bT 6 ?_;refine bE U (aH fun DR=>?_) (aG fun DR=>?_)
 ·refine aU aY 1 U<|aq fz 3 ?_;have Eq:sU r.ax hz:=⟨I,L⟩;rw [show (jk hz ha h)=hz from qF I,show r.ax.take h=r.ax from c5 I];refine dF aY 2 [] (mc 5 U mn) U<|UB U oa U<|aq aj 3 ?_;refine LX hQ (a9,S,J,K,bz,Y,Z,g,j,w,AO,W,X,hz) [3,15,14,2,1,0,17,16] [0] (mc 4 U mn) U (by show List.all _ _=true;simp only [eX,om,gl,ly,n4];rfl) U U ?_;exact ⟨⟨D0,EQ⟩,Eq⟩
 refine aq aY 11 ?_;refine cT bX [8,10] [6,7,8] [0] [0,1,2,3,4,5,6,7,8,9,10,11,12,13,14,15,16] [0,1,2,3,4,5,6,7,8,9,10,11,12,13,14,15,16,17] U U U U U<|eS U (FA 10 U eB U)<|eS U (L1 (vS W r.ax.length X) 5 U bP U U)<|eS U (MV U)<|eS U (FA 10 U eB U)<|eS U (L1 (vS W r.ax.length X) 5 U bP U U)<|eS U (MV U) ?_;obtain ⟨ht,N⟩:=ay r.ax h I;obtain ⟨D,O⟩:=ay ha h I;have u:(zipWith di r.ax (jk hz ha h))[h]? =some (di ht D):=cE N (ud A O);have A0:=hin.fE _ _ _ N O;have e:=A0.mE;have EU:=A0.len;refine fS U (IA h U (ao (n:=r.ax.length) 17 U (e8 (by rw [eU A I];exact M))) my dc I I) ?_;refine fS U (gF h 0 (vS D.1.1 ht.length D.1.2) U bP (ao (n:=r.ax.length) 17 U (e8 (by rw [eU A I];exact M))) u U dc U) ?_;refine fS U (IA h U (ao (n:=r.ax.length) 17 U (e8 (by rw [eU A I];exact M))) my dc I I) ?_;refine dL U<|gr U fun T67 Ck=>?_;refine cX (E5 (zipWith ak.cells ht D.2) D.1.1 ht.length D.1.2 sd (by exact m_ e) (by exact JQ _ _)) (aw (show ig _ (rd D.1.1 ht.length 7 (zipWith ak.cells ht D.2)).holds from (ct 13 U (bq N O bZ)))<|aA) U fun Go J3=>?_;obtain ⟨G,H⟩:=Go
 try dsimp only
 refine bG (Ck _ _ (aB [1,2,3,4,5,6,7,8,9,10,11,12,13,14,15,16,17]) (aB [1,2,3,4,5,6,7,8,9,10,11,12,13,14,15,16,17,18]) ?_);refine bR U fun T72 Cp=>ej (k:=h) (o:=0) (vs:=[(vS G ht.length H)]) (es':=(zipWith di r.ax (jk (hz++[((G,H),D.2)]) ha (h+1)))) (C':=[_,_,_,_,_,_,_,_,_,_,_,_,_,_,_,_,_,_,(own W X 68 1 (zipWith di r.ax (jk (hz++[((G,H),D.2)]) ha (h+1))))]) 18 U U U XQ U U U U u U dc (by exact q8 (b:=((G,H),D.2)) N A O) U<|bG (Cp _ _ (aB [1,2,3,4,5,6,7,8,9,10,11,12,13,14,15,16,17]) ?_);refine eI U<|ck jC 6 [] (mc 6 U mn) ?_;have v:(zipWith di r.ax (jk (hz++[((G,H),D.2)]) ha (h+1)))[h]? =some (di ht ((G,H),D.2)):=cE N (EO A);refine rS (IA h U (ao (n:=r.ax.length) 18 U (e8 (by rw [eU (by simp;omega) I];exact M))) my dc I I) ?_;refine rS (gF h 0 (vS G ht.length H) U bP (ao (n:=r.ax.length) 18 U (e8 (by rw [eU (by simp;omega) I];exact M))) v U dc U) ?_;refine aq aj 5 ?_;refine mo ?_;have E:(0≤ht.length)∧(([]:List RA).length=0):=by exact ⟨c4 _,rfl⟩
 refine bw (ι:={z:Nat×(List RA) // (z.1≤ht.length)∧(z.2.length=z.1)}) [1,2,5,74,75,93] [2,3,4,5,6,7,8,9,10,11,12,13,14,15,16,17,18,19] U U (fun z=>[(94,(vI (z.1.1:Int)))]) (fun z=>[(bD (bB lO (ht.take z.1.1) z.1.2)),(own G H 52 7 (zipWith ak.cells ht (jk z.1.2 D.2 z.1.1)))]) (fun _=>rfl) (fun _=>rfl) (fun z=>ht.length-z.1.1) ⟨(0,([]:List RA)),E⟩ (aN U) (aB [2,3,4,5,6,7,8,9,10,11,12,13,14,15,16,17,18,19,0,1]) ?_;clear E;rintro ⟨⟨i,dz⟩,⟨p,F⟩⟩ J74 A4
 try dsimp only at p F
 try dsimp only
 refine aq bT 6 ?_;refine bE U (aH fun Di=>?_) (aG fun Di=>?_)
 ·refine aU aY 1 U<|aq fz 7 ?_;have H1:dz.length=ht.length:=by omega
  rw [show (jk dz D.2 i)=dz from qF I,show ht.take i=ht from c5 I];refine NR (Z':=bB kB (r.ax.take (h+1)) (hz++[((G,H),dz)])) 16 18 19 U U (nQ (f:=kB) (b:=((G,H),dz)) N A) ?_;rw [Fx (y:=dz)];have C1:(vI (((h+1):Nat):Int))=(vI ((h:Int)+1)):=by exact cI I
  refine aL (A3 ⟨((h+1),(hz++[((G,H),dz)])),⟨I,by simp;omega,JH N L A dso⟩⟩ _ _ _ U os (cx 3<|aQ U C1<|cV.nil _) (aB [1,2,3,4,5,6,7,8,9,10,11,12,13,14,15,16,0,17]))
 refine aq aY 11 ?_;refine z7 19 U (by rw [m_ (by rw [eU F I];exact e)];omega) (fun G4 AB=>?_);refine ck aY 4 [] (mc 5 U mn) ?_;refine rS (IA h U (ao (n:=r.ax.length) 17 U (e8 (by rw [eU (by simp;omega) I];exact M))) my dc I I) ?_;refine rS (gF h 0 (vS G ht.length H) U bP (ao (n:=r.ax.length) 17 U (e8 (by rw [eU (by simp;omega) I];exact M))) v U dc U) ?_;refine aq aj 1 ?_;obtain ⟨d,hd⟩:=ay ht i I;obtain ⟨da,Ap⟩:=ay D.2 i I;have C2:(zipWith ak.cells ht (jk dz D.2 i))[i]? =some (ak.cells d da):=cE hd (ud F Ap);have J7:=A0.sig d (aF hd);refine rS (IAP i U AB rK I I)<|rS (W_ ((i*7)+4) U AB eB U)<|aq aj 6 ?_;refine rS (SX (ux U U AB) U U)<|rS (W_ (((i*7)+4)+2) U AB eB U) ?_;refine rS (gF i 6 (vS da.1 d.bp.ab.length da.2) U bP (ao (n:=ht.length) 19 U (m_ (by rw [eU F I];exact e))) C2 U dc U) ?_;refine cX (zw d.bp.ab da.1 da.2 sd) (aw (show ig _ (rd da.1 d.bp.ab.length 2 (d.bp.ab.map aR.cells)).holds from (ct 13 U (bq N O (dk _ (bq hd Ap (by simp [ak.lf]))))))<|aA) U fun G3 J4=>?_;obtain ⟨R,AA⟩:=G3
 try dsimp only
 refine rS (SX (ux U U AB) U U)<|rS (W_ (((i*7)+4)+2) U AB eB U)<|ej (k:=i) (o:=6) (vs:=[(vS R d.bp.ab.length AA)]) (es':=(zipWith ak.cells ht (jk (dz++[(R,AA)]) D.2 (i+1)))) (C':=[_,_,_,_,_,_,_,_,_,_,_,_,_,_,_,_,_,_,_,_,(own G H 52 7 (zipWith ak.cells ht (jk (dz++[(R,AA)]) D.2 (i+1))))]) 20 U U U Vj U U U U C2 U dc (by exact q8 (c:=ak.cells) (b:=(R,AA)) hd F Ap) U<|aq aj 7 ?_;refine Dc (Y':=bB lO (ht.take (i+1)) (dz++[(R,AA)])) 19 0 U U (nQ (f:=lO) (b:=(R,AA)) hd F) ?_;have C0:(vI (((i+1):Nat):Int))=(vI ((i:Int)+1)):=by exact cI I
 refine aL (A4 ⟨((i+1),(dz++[(R,AA)])),⟨I,by simp;omega⟩⟩ _ _ _ U os (cx 6<|aQ U C0<|cV.nil _) (aB [1,2,3,4,5,6,7,8,9,10,11,12,13,14,15,16,17,18,0,19]))
end
section
open Go.RowKit
theorem z3 (r:cN) (kA:OA) (kC:Nat) (az:List RA) (cA:OA) (cC:Nat) (bA:OA) (bC:Nat) (slA:OA) (slC:Nat) (drA:OA) (drC:Nat) (ha:List cq) (heA:OA) (heC:Nat) (tz:List RA) (tA:OA) (tC:Nat) (ms:Value) (gw:Nat) (h i:Int) (t:aa) (hin:gI r az ha) (hok:fq r):
 ld Tryz.prog 33 [(vP gw),(vI h),(vI i),(vA (aa.cells t))] ((DI r kA az cA bA slA drA ha heA)++[(rd tA ((dN r).length) 1 (zipWith MB (dN r) tz)),(iU (bB Ux (dN r) tz)),(cb gw 98 (hO.cells (hO.mk (pN r kA kC cA cC bA bC slA slC drA drC heA heC) (aX.mk tA ((dN r).length) tC) ms)))]) (fun (x:Bool×Int×(OA)×Nat×(OA)×Nat×(List RA)×(OA)×Nat×(OA)×Nat×(OA)×Nat×(OA)×Nat×(List cq))=>bif x.1 then (vT [(vA (cf.cells (cf.mk (bV.mk (aZ.mk (aX.mk x.2.2.1 r.ar.bQ.length x.2.2.2.1)) r.ar.g7 (aX.mk x.2.2.2.2.1 r.ar.aC.length x.2.2.2.2.2.1) (aX.mk x.2.2.2.2.2.2.2.1 r.ar.ai.length x.2.2.2.2.2.2.2.2.1) r.ar.b_ r.ar.eZ r.ar.dp) (aX.mk x.2.2.2.2.2.2.2.2.2.1 r.a_.length x.2.2.2.2.2.2.2.2.2.2.1) (aX.mk x.2.2.2.2.2.2.2.2.2.2.2.1 r.db.length x.2.2.2.2.2.2.2.2.2.2.2.2.1) r.jz (aX.mk x.2.2.2.2.2.2.2.2.2.2.2.2.2.1 ((jL r.ax h i t).length) x.2.2.2.2.2.2.2.2.2.2.2.2.2.2.1)))),(vI 0)]) else (vT [(vA (cf.cells (cf.mk (bV.mk (aZ.mk (aX.mk none 0 0)) 0 (aX.mk none 0 0) (aX.mk none 0 0) 0 0 0) (aX.mk none 0 0) (aX.mk none 0 0) 0 (aX.mk none 0 0)))),(vI x.2.1)])) (fun (x:Bool×Int×(OA)×Nat×(OA)×Nat×(List RA)×(OA)×Nat×(OA)×Nat×(OA)×Nat×(OA)×Nat×(List cq))=>(x.1=true→((sM r h i t)=0∧(x.2.2.2.2.2.2.1.length=r.ar.aC.length∧pX r.ar.aC x.2.2.2.2.2.2.1)∧sU (jL r.ax h i t) x.2.2.2.2.2.2.2.2.2.2.2.2.2.2.2))∧(x.1=false→(x.2.1=(sM r h i t)∧ ¬ (sM r h i t)=0))) (fun (x:Bool×Int×(OA)×Nat×(OA)×Nat×(List RA)×(OA)×Nat×(OA)×Nat×(OA)×Nat×(OA)×Nat×(List cq))=>bif x.1 then [(own x.2.2.1 x.2.2.2.1 65 9 (r.ar.bQ.map ag.cells)),(own x.2.2.2.2.1 x.2.2.2.2.2.1 109 2 (zipWith aS.cells r.ar.aC x.2.2.2.2.2.2.1)),(bD (bB aS.owns r.ar.aC x.2.2.2.2.2.2.1)),(own x.2.2.2.2.2.2.2.1 x.2.2.2.2.2.2.2.2.1 113 4 (r.ar.ai.map df.cells)),(own x.2.2.2.2.2.2.2.2.2.1 x.2.2.2.2.2.2.2.2.2.2.1 3 1 (r.a_.map iC)),(own x.2.2.2.2.2.2.2.2.2.2.2.1 x.2.2.2.2.2.2.2.2.2.2.2.2.1 3 1 (r.db.map iC)),(own x.2.2.2.2.2.2.2.2.2.2.2.2.2.1 x.2.2.2.2.2.2.2.2.2.2.2.2.2.2.1 68 1 (zipWith di (jL r.ax h i t) x.2.2.2.2.2.2.2.2.2.2.2.2.2.2.2)),(bD (bB kB (jL r.ax h i t) x.2.2.2.2.2.2.2.2.2.2.2.2.2.2.2))] else []):=by
 have v:=hin.line;have A4:=hin.g_;have A6:=hin.has;have Ap:=hin.g9;have z:=hin.draw;have A0:=fG (r:=r);have A8:=hok.num;have A7:=hok.nh;refine cU aaR Tryz.func33 U U fun w0 Q hQ hN=>?_
 try dsimp only
 refine aU bT 2 U<|dV U fun b2=>AL U vm fun b3=>aU aj 7 U<|rS (SX (bO U U) U U)<|ck aj 6 [] (mr 12 U mn) ?_;refine dC (xs:=[.tmp 18]) (cs:=[(vI h)]) U cO jU U U U U (by simp [Value.cells]) U U fun b6=>?_;refine rS (CL (dh.eq (mX 0 ((r.ax.length:Int)-1) ([h]) (some ⟨b6,0,none⟩) 1 sd) cp) (aw (aM 0 U U (by simp [br]) U)<|aA) U) ?_;refine aq aj 2 ?_;refine bK (t:=22) U (aK fun l=>?_) (aJ fun l=>?_)
 ·refine aU aj 16 U<|rS (SX (aW (xs:=[]) (cs:=(cf.cells (cf.mk (bV.mk (aZ.mk (aX.mk none 0 0)) 0 (aX.mk none 0 0) (aX.mk none 0 0) 0 0 0) (aX.mk none 0 0) (aX.mk none 0 0) 0 (aX.mk none 0 0)))) U U (aV Ar U)) U U)<|o_ U oa U<|aq aj 4 ?_;refine LX hQ (false,2,none,0,none,0,[],none,0,none,0,none,0,none,0,[]) [] [0] (mc 1 U mn) U (by first|rfl|(show List.all _ _=true;simp only [AAS,eX,om,gl,ly,n4];rfl)) U ?_ ?_
  ·first|rfl|(simp only [AAS,js];rfl)
  ·refine ⟨Dv,fun _=>?_⟩;first|exact pM (mY (r:=r) (h:=h) (i:=i) (t:=t) I)|exact pM (mY (r:=r) (h:=h) (i:=i) (t:=t) (fun q=>absurd q.2 asm))|exact pM (vR (r:=r) (t:=t) ⟨I,asm⟩ A hd H)
 refine aq aj 2 ?_;refine dC (xs:=[.tmp 24]) (cs:=[(vI i)]) U cO jU U U U U (by simp [Value.cells]) U U fun b8=>?_;refine rS (CL (dh.eq (Pm r kA kC az cA cC bA bC slA slC drA drC ha heA heC tz tA tC ms gw ([i]) (some ⟨b8,0,none⟩) 1 hin sd) cp) (lZ [4,5,6,7,8,9,10,11,12,13,14]<|aw (aM 0 U U (by simp [br]) U)<|aA) U) ?_;refine aq aj 3 ?_;refine bK (t:=29) U (aK fun p=>?_) (aJ fun p=>?_)
 ·refine aU aj 9 U<|rS (SX (aW (xs:=[]) (cs:=(cf.cells (cf.mk (bV.mk (aZ.mk (aX.mk none 0 0)) 0 (aX.mk none 0 0) (aX.mk none 0 0) 0 0 0) (aX.mk none 0 0) (aX.mk none 0 0) 0 (aX.mk none 0 0)))) U U (aV Ar U)) U U)<|D2 U oa U<|aq aj 4 ?_;refine LX hQ (false,2,none,0,none,0,[],none,0,none,0,none,0,none,0,[]) [] [0] (mc 2 U mn) U (by first|rfl|(show List.all _ _=true;simp only [AAS,eX,om,gl,ly,n4];rfl)) U ?_ ?_
  ·first|rfl|(simp only [AAS,js];rfl)
  ·refine ⟨Dv,fun _=>?_⟩;first|exact pM (mY (r:=r) (h:=h) (i:=i) (t:=t) I)|exact pM (mY (r:=r) (h:=h) (i:=i) (t:=t) (fun q=>absurd q.2 asm))|exact pM (vR (r:=r) (t:=t) ⟨I,asm⟩ A hd H)
 refine dF aj 1 [] (mc 3 U mn) U<|rS (CL (IS t) (aA) U)<|aq aj 4 ?_;refine bY U (aK fun Y=>?_) (aJ fun Y=>?_)
 ·refine aU aY 2 U<|rS (SX (aW (xs:=[]) (cs:=(cf.cells (cf.mk (bV.mk (aZ.mk (aX.mk none 0 0)) 0 (aX.mk none 0 0) (aX.mk none 0 0) 0 0 0) (aX.mk none 0 0) (aX.mk none 0 0) 0 (aX.mk none 0 0)))) U U (aV Ar U)) U U)<|D2 U oa U<|aq aj 4 ?_;refine LX hQ (false,2,none,0,none,0,[],none,0,none,0,none,0,none,0,[]) [] [0] (mc 2 U mn) U (by first|rfl|(show List.all _ _=true;simp only [AAS,eX,om,gl,ly,n4];rfl)) U ?_ ?_
  ·first|rfl|(simp only [AAS,js];rfl)
  ·refine ⟨Dv,fun _=>?_⟩;first|exact pM (mY (r:=r) (h:=h) (i:=i) (t:=t) I)|exact pM (mY (r:=r) (h:=h) (i:=i) (t:=t) (fun q=>absurd q.2 asm))|exact pM (vR (r:=r) (t:=t) ⟨I,asm⟩ A hd H)
 refine aU aY 6 U<|rS (SX (bO U U) U U)<|ck aj 4 [] (mr 14 U mn) ?_;obtain ⟨ht,A⟩:=ay r.ax ((h).toNat) I;obtain ⟨C,E⟩:=ay ha ((h).toNat) I;have f:(zipWith di r.ax ha)[(h).toNat]? =some (di ht C):=cE A E;refine rS (IA ((h).toNat) U (av 10 U) my dc I I) ?_;have u:=hin.fE _ _ _ A E;have AC:=u.mE;have A5:=(hok.fE ht (aF A)).1;refine rS (gF ((h).toNat) 0 (vS C.1.1 ht.length C.1.2) U Wc (av 10 U) f U dc U)<|aq aj 1 ?_;obtain ⟨d,hd⟩:=ay ht ((i).toNat) I;obtain ⟨da,J⟩:=ay C.2 ((i).toNat) I;have s:(zipWith ak.cells ht C.2)[(i).toNat]? =some (ak.cells d da):=cE hd J;refine rS (IA ((i).toNat) U (show ig _ (rd C.1.1 ht.length 7 (zipWith ak.cells ht C.2)).holds from (ct 11 U (bq A E bZ))) rK dc I I)<|rS (p9 (((i).toNat)*7) U (show ig _ (rd C.1.1 ht.length 7 (zipWith ak.cells ht C.2)).holds from (ct 11 U (bq A E bZ))) (e6 I dc) UW U)<|rS (gF ((i).toNat) 0 (vB d.Out) U tk4 (show ig _ (rd C.1.1 ht.length 7 (zipWith ak.cells ht C.2)).holds from (ct 11 U (bq A E bZ))) s U dc U)<|aq aj 2 ?_;refine bY U (fun H=>?_) (fun H=>?_)
 ·refine aU aY 2 U<|rS (SX (aW (xs:=[]) (cs:=(cf.cells (cf.mk (bV.mk (aZ.mk (aX.mk none 0 0)) 0 (aX.mk none 0 0) (aX.mk none 0 0) 0 0 0) (aX.mk none 0 0) (aX.mk none 0 0) 0 (aX.mk none 0 0)))) U U (aV Ar U)) U U)<|D2 U oa U<|aq aj 4 ?_;refine LX hQ (false,8,none,0,none,0,[],none,0,none,0,none,0,none,0,[]) [] [0] (mc 2 U mn) U (by first|rfl|(show List.all _ _=true;simp only [AAS,eX,om,gl,ly,n4];rfl)) U ?_ ?_
  ·first|rfl|(simp only [AAS,js];rfl)
  ·refine ⟨Dv,fun _=>?_⟩;first|exact pM (mY (r:=r) (h:=h) (i:=i) (t:=t) I)|exact pM (mY (r:=r) (h:=h) (i:=i) (t:=t) (fun q=>absurd q.2 asm))|exact pM (vR (r:=r) (t:=t) ⟨I,asm⟩ A hd H)
 refine aU aY 5 U<|rS (SX (bO U U) U U)<|aq aj 1 ?_;refine rS (LPR (cf.cells (pN r kA kC cA cC bA bC slA slC drA drC heA heC)) 14 U Xn U U U)<|cX (RL r kA kC az cA cC bA bC slA slC drA drC ha heA heC hin) (aP [4,5,6,7,8,9,10,11]) U fun y j=>?_;obtain ⟨K,S,L,T,R,M,AA,N,V,O,W,P,X,G⟩:=y
 try dsimp only
 obtain ⟨⟨Z,b⟩,D⟩:=j
 try dsimp only at Z b D
 have AO:=D.1;refine AL U vm fun A1=>eM U oa U<|aq aj 3 ?_;obtain ⟨B,F⟩:=ay G ((h).toNat) (by have:=D.1;omega);have g:(zipWith di r.ax G)[(h).toNat]? =some (di ht B):=cE A F;have w:=D.2 _ _ _ A F;refine Nx 8 A F U U ?_
 try dsimp only
 refine cL bX 9 kr<|jY 3 [] (mc 3 U mn) U<|dS (IA ((h).toNat) U (ao (n:=r.ax.length) 10 U (e8 D.1)) my dc I I)<|dS (gF ((h).toNat) 0 (vS B.1.1 ht.length B.1.2) U Wc (ao (n:=r.ax.length) 10 U (e8 D.1)) g U dc U)<|dP 2 [] (mc 14 U mn) ?_;refine dS (SX (aW (xs:=[(1,.const (vB true)),(2,.tmp 59)]) (cs:=(aO.cells (aO.mk false true t (dA.mk 0 0 (aX.mk none 0 0))))) U U (aV Kl U)) U U) ?_;obtain ⟨J,AB⟩:=ay B.2 ((i).toNat) I;have e:(zipWith ak.cells ht B.2)[(i).toNat]? =some (ak.cells d J):=cE hd AB;refine dS (IA ((i).toNat) U (ao (n:=ht.length) 0 U (m_ w)) rK dc I I)<|cy<|ej (k:=(i).toNat) (o:=0) (vs:=(aO.cells (aO.mk false true t (dA.mk 0 0 (aX.mk none 0 0))))) (es':=(zipWith ak.cells (ht.set (i).toNat (hZ t)) (B.2.set (i).toNat (none,0)))) (C':=[(own B.1.1 B.1.2 52 7 (zipWith ak.cells (ht.set (i).toNat (hZ t)) (B.2.set (i).toNat (none,0)))),_,_,_,_,_,_,_,_,_,_,_,_,_,_,_,_,_,_,_,_,_,_,_,_,_]) 0 U U U GD U U U U e U dc (by exact qL (c:=ak.cells) (m:=hZ t) (a:=(none,0))) U<|aq aj 3 ?_;refine VA (d':=hZ t) 1 hd AB U U U ?_;refine Sx (h':=(ht.set (i).toNat (hZ t))) (a':=(B.1,(B.2.set (i).toNat (none,0)))) 2 0 1 I (by have:=D.1;omega) U U ?_;rw [← wy A,show zipWith di r.ax G=zipWith di (jL r.ax h i t) (G.set (h).toNat (B.1,(B.2.set (i).toNat (none,0)))) from by rw [wy A];exact (Ca A F (by rw [AAG])).symm];replace D:=Wg (i:=i) (t:=t) D A F;refine dF aY 2 [] (mc 1 U mn) U<|aax U oa U<|aq aj 4 ?_;refine LX hQ (true,0,K,S,L,T,R,M,AA,N,V,O,W,P,X,(G.set (h).toNat (B.1,(B.2.set (i).toNat (none,0))))) [2,3,4,5,6,7,8,0] [0] (mc 11 U mn) U (by first|rfl|(show List.all _ _=true;simp only [AAS,eX,om,gl,ly,n4];rfl)) U ?_ ?_
 ·first|rfl|(simp only [AAS,js];rfl)
 ·exact ⟨fun _=>⟨Sj ⟨I,Y⟩ A hd H,⟨Z,b⟩,D⟩,QS⟩
end
section
open Go.RowKit
theorem Fp (h i:Int) (t:aa) (r:cN) (kA:OA) (kC:Nat) (az:List RA) (cA:OA) (cC:Nat) (bA:OA) (bC:Nat) (slA:OA) (slC:Nat) (drA:OA) (drC:Nat) (ha:List cq) (heA:OA) (heC:Nat) (hin:gI r az ha):
 ld Tryz.prog 9 [(vA (cf.cells (pN r kA kC cA cC bA bC slA slC drA drC heA heC))),(vI h),(vI i),(vA (aa.cells t))] ((rd hU 3 2 fX)::(DI r kA az cA bA slA drA ha heA)) (fun (x:Bool×Int×(OA)×Nat×(OA)×Nat×(List RA)×(OA)×Nat×(OA)×Nat×(OA)×Nat×(OA)×Nat×(List cq))=>bif x.1 then (vT [(vA (cf.cells (cf.mk (bV.mk (aZ.mk (aX.mk x.2.2.1 r.ar.bQ.length x.2.2.2.1)) r.ar.g7 (aX.mk x.2.2.2.2.1 r.ar.aC.length x.2.2.2.2.2.1) (aX.mk x.2.2.2.2.2.2.2.1 r.ar.ai.length x.2.2.2.2.2.2.2.2.1) r.ar.b_ r.ar.eZ r.ar.dp) (aX.mk x.2.2.2.2.2.2.2.2.2.1 r.a_.length x.2.2.2.2.2.2.2.2.2.2.1) (aX.mk x.2.2.2.2.2.2.2.2.2.2.2.1 r.db.length x.2.2.2.2.2.2.2.2.2.2.2.2.1) r.jz (aX.mk x.2.2.2.2.2.2.2.2.2.2.2.2.2.1 ((jL r.ax h i t).length) x.2.2.2.2.2.2.2.2.2.2.2.2.2.2.1)))),(vI 0)]) else (vT [(vA (cf.cells (cf.mk (bV.mk (aZ.mk (aX.mk none 0 0)) 0 (aX.mk none 0 0) (aX.mk none 0 0) 0 0 0) (aX.mk none 0 0) (aX.mk none 0 0) 0 (aX.mk none 0 0)))),(vI x.2.1)])) (fun (x:Bool×Int×(OA)×Nat×(OA)×Nat×(List RA)×(OA)×Nat×(OA)×Nat×(OA)×Nat×(OA)×Nat×(List cq))=>(x.1=true→((fW r h i t)=0∧(x.2.2.2.2.2.2.1.length=r.ar.aC.length∧pX r.ar.aC x.2.2.2.2.2.2.1)∧sU (jL r.ax h i t) x.2.2.2.2.2.2.2.2.2.2.2.2.2.2.2))∧(x.1=false→(x.2.1=(fW r h i t)∧ ¬ (fW r h i t)=0))) (fun (x:Bool×Int×(OA)×Nat×(OA)×Nat×(List RA)×(OA)×Nat×(OA)×Nat×(OA)×Nat×(OA)×Nat×(List cq))=>bif x.1 then [(Tw x.2.2.1 x.2.2.2.1 r.ar.bQ),(XC x.2.2.2.2.1 x.2.2.2.2.2.1 r.ar.aC x.2.2.2.2.2.2.1),(bD (bB aS.owns r.ar.aC x.2.2.2.2.2.2.1)),(Qo x.2.2.2.2.2.2.2.1 x.2.2.2.2.2.2.2.2.1 r.ar.ai),(lX x.2.2.2.2.2.2.2.2.2.1 x.2.2.2.2.2.2.2.2.2.2.1 r.a_),(lX x.2.2.2.2.2.2.2.2.2.2.2.1 x.2.2.2.2.2.2.2.2.2.2.2.2.1 r.db),(TQ x.2.2.2.2.2.2.2.2.2.2.2.2.2.1 x.2.2.2.2.2.2.2.2.2.2.2.2.2.2.1 (jL r.ax h i t) x.2.2.2.2.2.2.2.2.2.2.2.2.2.2.2),(bD (bB kB (jL r.ax h i t) x.2.2.2.2.2.2.2.2.2.2.2.2.2.2.2))] else []):=by
 have k:=hin.line;have u:=hin.g_;have v:=hin.has;have p:=hin.g9;have o:=hin.draw;have Y:=fG (r:=r);refine cU kr Tryz.func9 U U fun w0 Q hQ hN=>?_
 try dsimp only
 refine aU bT 2 U<|dV U fun y=>dV U fun z=>AL U vm fun q=>ck aj 6 [] (mc 2 U mn) ?_;refine cX (uA r kA kC az cA cC bA bC slA slC drA drC ha heA heC hin) (aP [3,4,5,6,7,8,9,10,11]) U fun w a=>?_;obtain ⟨c,s,j,R,e,f,g⟩:=w;cases c
 ·obtain ⟨M,he⟩:=a.2 rfl
  try dsimp only at M he
  subst M
  try dsimp only [cond_true,cond_false,List.cons_append,List.nil_append]
  refine aq aj 14 ?_;refine bE U (aJ fun S=>?_) (aK fun S=>?_)
  ·exact absurd S he
  refine aU aY 2 U<|rS (SX (aW (xs:=[]) (cs:=(cf.cells (cf.mk (bV.mk (aZ.mk (aX.mk none 0 0)) 0 (aX.mk none 0 0) (aX.mk none 0 0) 0 0 0) (aX.mk none 0 0) (aX.mk none 0 0) 0 (aX.mk none 0 0)))) U U (aV Ar U)) U U)<|aU aj 1 U<|eM U oa U<|aq aj 4 ?_;refine LX hQ (false,(eK r),none,0,none,0,[],none,0,none,0,none,0,none,0,[]) [] [0] (mc 0 U mn) U (by first|rfl|(show List.all _ _=true;simp only [AAS,eX,om,gl,ly,n4];rfl)) U ?_ ?_
  ·first|rfl|(simp only [AAS,js];rfl)
  ·refine ⟨Dv,fun _=>?_⟩;first|exact QG (vG (h:=h) (i:=i) (t:=t) he) he|exact QG (qZ (h:=h) (i:=i) (t:=t) V) he
 obtain ⟨he,Z⟩:=a.1 rfl
 try dsimp only [cond_true,cond_false,List.cons_append,List.nil_append]
 have V:=he
 try dsimp only at Z
 have X:=(dG he).2;refine aU aj 11 U<|rS (SX (cm (r:= .bool false) U U U nx) U U)<|ck aj 11 [] (mc 5 U mn) ?_;refine cX (z3 r kA kC az cA cC bA bC slA slC drA drC ha heA heC g e f (Value.map (some R)) j h i t hin (by exact X)) (lZ [8,9,10,11,12,13,14,15]<|aw (ao (n:=(dN r).length) 1 U (zf (by rw [Y];exact Z)))<|aw (dQ 2 U Jz)<|gM 0 U U<|aA) U fun l O=>?_;obtain ⟨d,m,A,G,B,H,P,C,AB,D,J,E,K,F,L,b⟩:=l;cases d
 ·obtain ⟨M,he⟩:=O.2 rfl
  try dsimp only at M he
  subst M
  try dsimp only [cond_true,cond_false,List.cons_append,List.nil_append]
  refine aU aj 2 U<|UB U oa U<|aq aj 4 ?_;refine LX hQ (false,(sM r h i t),none,0,none,0,[],none,0,none,0,none,0,none,0,[]) [] [0] (mc 4 U mn) U (by first|rfl|(show List.all _ _=true;simp only [AAS,eX,om,gl,ly,n4];rfl)) U ?_ ?_
  ·first|rfl|(simp only [AAS,js];rfl)
  ·refine ⟨Dv,fun _=>?_⟩;first|exact QG (vG (h:=h) (i:=i) (t:=t) he) he|exact QG (qZ (h:=h) (i:=i) (t:=t) V) he
 obtain ⟨N,⟨T,AA⟩,W⟩:=O.1 rfl
 try dsimp only [cond_true,cond_false,List.cons_append,List.nil_append]
 try dsimp only at N T AA W
 refine aU aj 2 U<|im (vs:=(cf.cells (cf.mk (bV.mk (aZ.mk (aX.mk A r.ar.bQ.length G)) r.ar.g7 (aX.mk B r.ar.aC.length H) (aX.mk C r.ar.ai.length AB) r.ar.b_ r.ar.eZ r.ar.dp) (aX.mk D r.a_.length J) (aX.mk E r.db.length K) r.jz (aX.mk F ((jL r.ax h i t).length) L)))) (cs':=(cf.cells (cf.mk (bV.mk (aZ.mk (aX.mk A r.ar.bQ.length G)) r.ar.g7 (aX.mk B r.ar.aC.length H) (aX.mk C r.ar.ai.length AB) r.ar.b_ r.ar.eZ r.ar.dp) (aX.mk D r.a_.length J) (aX.mk E r.db.length K) r.jz (aX.mk F ((jL r.ax h i t).length) L)))) (C':=[_,_,_,_,_,_,_,_,_,_,_,_,(cb q 32 (cf.cells (cf.mk (bV.mk (aZ.mk (aX.mk A r.ar.bQ.length G)) r.ar.g7 (aX.mk B r.ar.aC.length H) (aX.mk C r.ar.ai.length AB) r.ar.b_ r.ar.eZ r.ar.dp) (aX.mk D r.a_.length J) (aX.mk E r.db.length K) r.jz (aX.mk F ((jL r.ax h i t).length) L)))),_,_,_,_,_,_,_,_,_,_,_]) 12 U U U oa U U U U U U U<|aq aj 4 ?_;refine LX hQ (true,0,A,G,B,H,P,C,AB,D,J,E,K,F,L,b) [0,1,2,3,4,5,6,7] [0] (mc 12 U mn) U (by first|rfl|(show List.all _ _=true;simp only [AAS,eX,om,gl,ly,n4];rfl)) U ?_ ?_
 ·first|rfl|(simp only [AAS,js];rfl)
 ·exact ⟨fun _=>⟨(qZ he).trans N,⟨T,AA⟩,W⟩,QS⟩
end
section
open Go.RowKit
theorem Pe (m:k9) (gm g1:Nat):
 GM Tryz.prog 79 [] [(vP g1)] [(iu iV gm (bS e_ m)),(cb g1 95 [(Value.map (some gm))])] ([]:List Int) (fun ys x ys'=> ∃ n zs,(ys++[n]++zs).Perm (m.map (·.1))∧x=[vI n]∧ys'=ys++[n]) (fun ys=>ys.Perm (m.map (·.1))):=by
 refine vW kr Tryz.func79 U U fun l J Z A0 M Q hY K AA hQ hN=>?_
 try dsimp only
 refine ck bT 3 [] (mr 2 U mn) ?_;refine ku (kV:=iV) (m:=bS e_ m) 1 U U rY U ⟨U,fun h=>h⟩ (by exact mV 1 U) U fun O=>?_
 try dsimp only
 refine aq aj 3 ?_;have G:(qk m m ([]:List Int))∧(∀ p∈m,p∈m)∧(J ([]:List Int) A0)∧(Fo A0 M A0):=by exact ⟨yH,fun p hp=>hp,K,AA⟩
 refine bw (ι:={z:k9×(List Int)×au // (qk m z.1 z.2.1)∧(∀ p∈z.1,p∈m)∧(J z.2.1 z.2.2)∧(Fo A0 M z.2.2)}) [0,1,5] [2,3] U U (fun z=>[]) (fun z=>[(Bp iV O gm (bS e_ m) (bS e_ z.1.1) none),z.1.2.2]) (fun _=>rfl) (fun _=>rfl) (fun z=>z.1.1.length) ⟨(m,([]:List Int),A0),G⟩ (cV.nil _) (aB [2,3,0,1]) ?_;clear G;rintro ⟨⟨left,ys,A⟩,⟨B,H,C,D⟩⟩ J3 L
 try dsimp only at B H C D
 try dsimp only
 refine aq bT 2 ?_;refine jH (eE nZ).inj (f:=e_) 2 U U U U (fun N=>?_) (fun x y hm hn=>?_)
 ·refine aU aj 6 U<|aq fz 1 ?_;refine hN _ _ _ (g4 (vs:=[]) trivial fun w hs=>KN 3 U (by rw [N] at B;exact AP B) C D hs)
 try dsimp only
 refine aU aj 10 U<|rS (SX (jK 2 U U U) U U)<|aq aj 8 ?_;refine l_ (k:=ys) (k':=(ys++[(x)])) 3 (by first|exact hsz|exact c9 _) hY C D U U U (by exact ⟨x,_,qj hn hm B,U,U⟩) U U (fun B9 F E=>?_) (fun B9 F E=>?_);rotate_left 1
 ·refine aq aj 5 ?_;refine hQ _ _ _ (g4 (vs:=[]) trivial fun w hs=>ti 3 U F E hs)
 refine aq aj 6 ?_;refine iH 2 U fZ U ?_;refine aL (L ⟨((cJ left x),(ys++[(x)]),B9),⟨qj hn hm B,gX H,F,E⟩⟩ _ _ _ U (e9 hm) (aN U) (aB [0,1,2,3]))
theorem Jt (gm:Nat):
 ld Tryz.prog 35 [(Value.map (some gm))] [] (fun (x:Nat)=>(Value.func (.func 79) [].toArray [(vP x)].toArray)) (fun (x:Nat)=>True) (fun (x:Nat)=>[(cb x 95 [(Value.map (some gm))])]):=by
 refine cU kr Tryz.func35 U U fun B Q hQ hN=>?_
 try dsimp only
 refine aU bT 2 U<|sK U U fun A=>aU aj 5 U<|rS (FU U)<|aq aj 4 ?_;refine LX hQ A [0] [] mn U U U U ?_;trivial
end
section
open Go.RowKit
theorem LI (m:k9) (gm g1:Nat) (hlen:m.length≤12):
 ld Tryz.prog 118 [(vS none 0 0),(Value.func (.func 79) [].toArray [(vP g1)].toArray)] [(iu iV gm (bS e_ m)),(cb g1 95 [(Value.map (some gm))])] (fun (x:(List Int)×(OA)×Nat)=>(vS x.2.1 x.1.length x.2.2)) (fun (x:(List Int)×(OA)×Nat)=>x.1.Perm (m.map (·.1))) (fun (x:(List Int)×(OA)×Nat)=>[(lX x.2.1 x.2.2 x.1)]):=by
 refine cU kr Tryz.func118 U U fun T Q hQ hN=>?_
 try dsimp only
 refine aU bT 2 U<|sK U U fun J=>aq aj 10 ?_;refine iw 1 U (by exact fun _ h=>h)<|iw 3 U (by exact fun _ h=>h)<|eC 3 1 ?_;refine o5 (L0:=[(2,(vP J))]) (F:=[(iu iV gm (bS e_ m)).ro,(cb g1 95 [(Value.map (some gm))]).ro]) (fun k (y:(OA)×Nat)=>(∃ zs,(k++zs).Perm (m.map (·.1)))) (fun k y=>[(lX y.1 y.2 k),(cb J 29 [(vS y.1 k.length y.2)]),(iu iV gm (bS e_ m)).ro]) (fun _ (_:Unit)=>False) (fun _ _=>[]) [0,3,4] [2,1] (none,0) rfl rfl (Pe m gm g1) rfl rfl rfl (by exact ⟨_,ABY _⟩) (by simp only [AAI,h_,AAs,AAv,ABC];exact ⟨⟨_,sm,(dj (bM _))⟩,⟨_,sm,(dj (bM _))⟩⟩) (by rintro k x O ⟨n,zs,_,rfl,_⟩;rfl) rfl (aN rfl) ?_ ?_ (fun _ _ _ h=>h.elim) (fun _ _ h=>h.elim);rotate_left 1
 ·rintro P k ⟨a,c⟩ D A;have B:=A
  try dsimp only at B
  try dsimp only
  refine ck jC 9 [] (mc 4 U mn) ?_;refine hQ _ _ _ (nF 0 U U<|g4 (vs:=[(vS a k.length c)]) ⟨U,trivial⟩ fun w hs=>EM (k,a,c) [3] ?_ ?_ U U U hs)
  ·rfl
  ·first|exact D|exact hys
 rintro k x O ⟨a,c⟩ l ra rb S AA K5 Qr6 N hx E H C K L;obtain ⟨n,zs,hn,rfl,rfl⟩:=hx;have AB:=hn.length_eq;simp only [e4,c3,ABQ] at AB;have B:=E
 try dsimp only at B
 try dsimp only
 refine aq bT 3 ?_;refine aL (H _ _ ?_);refine ck bT 4 [] (mc 2 U mn) ?_;refine dC (xs:=[.tmp 9]) (cs:=[(vI n)]) U cO jU U U U U (by simp [Value.cells]) U U fun R=>?_;refine de (es2:=(map iC (k++[n]))) (m':=(k++[n]).length) 2 U U U pG U U sm (aM (es:=map iC [n]) 0 U U (by simp [br]) U) (j_ _) os (by simp only [maxLen];omega) sm sm U fun M G=>?_
 try dsimp only
 refine ZJ U wk U U<|aq aj 2 ?_;exact C (M,G) _ _ (by exact ⟨_,hn⟩) (aB [1,2,3,4])
end
section
open Go.RowKit
theorem HP (m:k9) (gm g1:Nat) (hlen:m.length≤12):
 ld Tryz.prog 78 [(Value.func (.func 79) [].toArray [(vP g1)].toArray)] [(iu iV gm (bS e_ m)),(cb g1 95 [(Value.map (some gm))])] (fun (x:(List Int)×(OA)×Nat)=>(vS x.2.1 x.1.length x.2.2)) (fun (x:(List Int)×(OA)×Nat)=>x.1.Perm (m.map (·.1))) (fun (x:(List Int)×(OA)×Nat)=>[(lX x.2.1 x.2.2 x.1)]):=by
 refine cU kr Tryz.func78 U U fun G Q hQ hN=>?_
 try dsimp only
 refine aq bT 8 ?_;refine cX (LI m gm g1 hlen) (aP [0,1]) U fun F A=>?_;obtain ⟨C,D,E⟩:=F
 try dsimp only
 have B:=A;refine aq aj 4 ?_;refine LX hQ (C,D,E) [0] [] mn U U U U ?_
 first|exact hfin|exact B
theorem B0 (m:k9) (gm g1:Nat) (hlen:m.length≤12):
 ld Tryz.prog 34 [(Value.func (.func 79) [].toArray [(vP g1)].toArray)] [(iu iV gm (bS e_ m)),(cb g1 95 [(Value.map (some gm))])] (fun (x:(OA)×Nat)=>(vS x.1 m.length x.2)) (fun (x:(OA)×Nat)=>True) (fun (x:(OA)×Nat)=>[(lX x.1 x.2 (eg (m.map (·.1))))]):=by
 refine cU kr Tryz.func34 U U fun AA Q hQ hN=>?_
 try dsimp only
 refine aq bT 8 ?_;refine cX (HP m gm g1 hlen) (aP [0,1]) U fun H D=>?_;obtain ⟨E,F,G⟩:=H
 try dsimp only
 have C:=D;refine aq aj 6 ?_;have A:=C.length_eq;simp only [c3] at A;refine kp 0 U U U U (CX E F G sd) U mu U (fun ms B=>?_)
 try dsimp only
 refine aq aj 4 ?_;obtain rfl:=tQ (B.1.trans C) B.2
 skip
 refine aq aj 5 ?_;refine LX hQ (F,G) [0] [] mn U U U ?_ ?_
 ·first|rfl|(rw [A];rfl)
 ·trivial
end
end Go.Proofs.YtgnlmfdknlbkkaaGreatDoor
