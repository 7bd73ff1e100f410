/-
 The statement topRepaired_said, part 8 of 9: Rx12, Jw1, Jw2, S1, Wh1, Jw3, IdxK, Jw4, Jw5, Jw6, Jw8, Jw9, Jwa, Jwb, Rr2, Jr1, Rr3, Rr4, Rr5, Rra, Jr2, Jr3, Jx1, Jx2, Jx3, Win6, JWin, Rx3, Jw7, Jz3, T1, W5, W1, W6, W7, W3, W9.
 Conditions: none.
-/
import Derived.Test.YtgnlmfdknlbkkaaGreatDoorTz1
import Derived.Test.YtgnlmfdknlbkkaaGreatDoorTz2
import Derived.Test.YtgnlmfdknlbkkaaGreatDoorTz3
import Derived.Test.YtgnlmfdknlbkkaaGreatDoorTz4
import Derived.Test.YtgnlmfdknlbkkaaGreatDoorTz5
import Derived.Test.YtgnlmfdknlbkkaaGreatDoorTz6
import Derived.Test.YtgnlmfdknlbkkaaGreatDoorTz7
open List (all lookup map zipWith)
open Bool (noConfusion)
namespace Go.Proofs.YtgnlmfdknlbkkaaGreatDoor
set_option maxRecDepth 100000
set_option maxHeartbeats 4000000
set_option linter.unusedVariables false
variable {E:fJ} {Q:du} {D:iF} {L:dJ} {C C1:List au}
abbrev ABv:= @decide_not
section
open Go.RowKit
theorem Ss (la:List Int) (laA:OA) (laC:Nat) (lb:List Int) (lbA:OA) (lbC:Nat) (h1:la.length≤1000000) (h2:lb.length≤1000000):
 dh Tryz.prog 36 [(vS laA la.length laC),(vS lbA lb.length lbC)] [(jx laA la),(jx lbA lb)] (vB (decide (la=lb))):=by
 refine bj kr Tryz.func36 U U fun AA Q hQ hN=>?_
 try dsimp only
 refine aq bT 15 ?_;refine bY U (aK fun hl=>?_) (aJ fun hl=>?_)
 ·refine cr aY 6 hQ U U ?_
  first|exact cB (bg (kg hx hy h)).symm|exact cB (cR (iE I A I)).symm|exact cB (bg (fun e=>by subst e;omega)).symm
 refine aq aY 11 ?_;have B:(0≤la.length)∧(la.take 0=lb.take 0):=by simp
 refine bw (ι:={z:Nat // (z≤la.length)∧(la.take z=lb.take z)}) [0,1,12] [0,1] U U (fun z=>[(13,(vI (z.1:Int)))]) (fun z=>[]) (fun _=>rfl) (fun _=>rfl) (fun z=>la.length-z.1) ⟨0,B⟩ (aN U) (aB [0,1]) ?_;clear B;rintro ⟨i,⟨F,A⟩⟩ J7 E
 try dsimp only
 refine aq bT 6 ?_;refine bE U (aH fun D=>?_) (aG fun D=>?_)
 ·refine aU aY 1 U<|cr fz 8 hQ U U ?_
  first|exact cB (bg (kg hx hy h)).symm|exact cB (cR (iE I A I)).symm|exact cB (bg (fun e=>by subst e;omega)).symm
 refine aU aY 11 U<|cL bX 9 kr<|dP 2 [] mn ?_;obtain ⟨x,hx⟩:=ay la i I;have G:=bx iC hx;refine dS (IA i U (av 0 U) cO dc I I)<|dS (gF i 0 (vI x) U bP (av 0 U) G U dc U)<|dP 2 [] mn ?_;obtain ⟨y,hy⟩:=ay lb i I;have H:=bx iC hy;refine dS (IA i U (av 1 U) cO dc I I)<|dS (gF i 0 (vI y) U bP (av 1 U) H U dc U)<|iQ 1 U<|cy<|aq aj 2 ?_;refine bY U (aK fun h=>?_) (aJ fun h=>?_)
 ·refine cr aY 6 hQ U U ?_
  first|exact cB (bg (kg hx hy h)).symm|exact cB (cR (iE I A I)).symm|exact cB (bg (fun e=>by subst e;omega)).symm
 refine aq aY 7 ?_;have C:(vI (((i+1):Nat):Int))=(vI ((i:Int)+1)):=by exact cI I
 refine aL (E ⟨(i+1),⟨I,iP A hx hy h⟩⟩ _ _ _ U os (cx 3<|aQ U C<|cV.nil _) (aB [0,1]))
theorem Mp (h i:Int) (t:aa) (r:cN) (kA:OA) (kC:Nat) (az:List RA) (cA:OA) (cC:Nat) (bA:OA) (bC:Nat) (slA:OA) (slC:Nat) (drA:OA) (drC:Nat) (ha:List cq) (heA:OA) (heC:Nat) (hin:gI r az ha):
 ld Tryz.prog 11 [(vA (cf.cells (pN r kA kC cA cC bA bC slA slC drA drC heA heC))),(vI h),(vI i),(vA (aa.cells t))] ((rd hU 3 2 fX)::(DI r kA az cA bA slA drA ha heA)) (fun (x:(OA)×Nat)=>(vT [(vS x.1 ((lD r h i t).length) x.2),(vI (fW r h i t))])) (fun (x:(OA)×Nat)=>True) (fun (x:(OA)×Nat)=>[(own x.1 x.2 3 1 ((lD r h i t).map iC))]):=by
 have Cx:=hin.line;have H1:=hin.g_;have IO:=hin.has;have EQ:=hin.g9;have Do:=hin.draw;have A3:=fG (r:=r);refine cU kr Tryz.func11 U U fun w0 Q hQ hN=>?_
 try dsimp only
 refine aU bT 2 U<|dV U fun b2=>dV U fun b3=>ck aj 7 [] (mc 1 U mn) ?_;refine cX (uA r kA kC az cA cC bA bC slA slC drA drC ha heA heC hin) (aP [2,3,4,5,6,7,8,9,10]) U fun y5 A4=>?_;obtain ⟨A6,G4,p,G,d,e,BP⟩:=y5;cases A6
 ·obtain ⟨B,he⟩:=A4.2 rfl
  try dsimp only at B he
  subst B
  try dsimp only [cond_true,cond_false,List.cons_append,List.nil_append]
  refine aq aj 14 ?_;refine bE U (aJ fun s=>?_) (aK fun s=>?_)
  ·exact absurd s he
  refine aq aY 3 ?_;have A:fW r h i t=eK r:=vG he;have C:lD r h i t=[]:=zQ (by rw [A];exact he);refine fT 3 1 ?_;rw [show (own none 0 3 1 ([]:List (List Value)))=own none 0 3 1 ((lD r h i t).map iC) from by rw [C];rfl];refine aq aj 5 ?_;refine LX hQ (none,0) [0] [] mn U U U ?_ ?_
  ·first|rfl|(rw [A,C];rfl)|(rw [A];rfl)
  ·trivial
 obtain ⟨he,j⟩:=A4.1 rfl
 try dsimp only [cond_true,cond_false,List.cons_append,List.nil_append]
 have AB:=he
 try dsimp only at j
 have A0:=(dG he).2;refine aU aj 11 U<|rS (SX (cm (r:= .bool false) U U U nx) U U)<|ck aj 11 [] (mc 4 U mn) ?_;refine cX (z3 r kA kC az cA cC bA bC slA slC drA drC ha heA heC BP d e (Value.map (some G)) p h i t hin (by exact A0)) (lZ [7,8,9,10,11,12,13,14]<|aw (ao (n:=(dN r).length) 1 U (zf (by rw [A3];exact j)))<|aw (dQ 2 U Jz)<|gM 0 U U<|aA) U fun C1 Z=>?_;obtain ⟨A7,Di,L,S,M,T,l,N,AA,O,V,P,W,R,X,A5⟩:=C1;cases A7
 ·obtain ⟨B,he⟩:=Z.2 rfl
  try dsimp only at B he
  subst B
  try dsimp only [cond_true,cond_false,List.cons_append,List.nil_append]
  refine aU aj 3 U<|AL U vm fun GE=>eM U oa U<|aq aj 10 ?_;refine bE U (aJ fun v=>?_) (aK fun v=>?_)
  ·exact absurd v he
  refine aq aY 3 ?_;have A:fW r h i t=sM r h i t:=qZ AB;have C:lD r h i t=[]:=zQ (by rw [A];exact he);refine fT 3 1 ?_;rw [show (own none 0 3 1 ([]:List (List Value)))=own none 0 3 1 ((lD r h i t).map iC) from by rw [C];rfl];refine aq aj 5 ?_;refine LX hQ (none,0) [0] [] mn U U U ?_ ?_
  ·first|rfl|(rw [A,C];rfl)|(rw [A];rfl)
  ·trivial
 obtain ⟨E,⟨f,AC⟩,J⟩:=Z.1 rfl
 try dsimp only [cond_true,cond_false,List.cons_append,List.nil_append]
 try dsimp only at E f AC J
 have g:fW r h i t=0:=(qZ AB).trans E;have AO:=hin.rep f AC J;refine aU aj 3 U<|AL U vm fun GT=>eM U oa U<|aU aj 7 U<|rS (SX (cm (r:= .bool false) U U U nx) U U)<|ck aj 8 [] (mc 0 U mn) ?_;refine cX (uA (gN r h i t) L S l M T N AA O V P W A5 R X (by exact AO)) (gM 15 U U<|aw (ao (n:=r.ar.bQ.length) 1 U sm)<|aw (ao (n:=r.ar.aC.length) 2 U (il f))<|aw (dQ 3 U kF)<|aw (ao (n:=r.ar.ai.length) 4 U sm)<|aw (ao (n:=r.a_.length) 5 U sm)<|aw (ao (n:=r.db.length) 6 U sm)<|aw (ao (n:=(jL r.ax h i t).length) 7 U (e8 J.1))<|aw (lH 8 U J)<|aA) U fun C2 b=>?_;obtain ⟨A8,Dn,o,m,A9,BD,Fd⟩:=C2;cases A8
 ·obtain ⟨B,he⟩:=b.2 rfl
  try dsimp only at B he
  subst B
  try dsimp only [cond_true,cond_false,List.cons_append,List.nil_append]
  exact absurd (yd g) he
 obtain ⟨he,j⟩:=b.1 rfl
 try dsimp only [cond_true,cond_false,List.cons_append,List.nil_append]
 have A1:=xh AB;have F:=tH AB;have A2:=xh he;have D0:=tH he;refine aU aj 16 U<|rS (SX (bO U U) U U)<|ck aj 2 [] (mc 13 U mn) ?_;refine cX (Jt G) (aA) U fun B7 EU=>?_
 try dsimp only
 refine cX (B0 (bJ r) G B7 sd) (aP [17,0]) U fun C3 Eq=>?_;obtain ⟨Fn,G3⟩:=C3
 try dsimp only
 rw [show (bJ r).length=(eg ((bJ r).map (·.1))).length from by rw [iz,c3]];refine aq aj 1 ?_;have Ap:(eg ((bJ r).map (·.1))).length≤5:=by rw [iz,c3];exact F
 refine aq aj 4 ?_;refine eC 3 1 ?_;have D:(0≤(eg ((bJ r).map (·.1))).length):=by exact c4 _
 refine bw (ι:={z:Nat×(OA)×Nat // (z.1≤(eg ((bJ r).map (·.1))).length)}) [10,13,47,48] [1,3,4,5,6,8,9,10,11,12,13,14,15,16,17,18,19,22,23,24,25,26,27,28,29,30] U U (fun z=>[(15,(vS z.1.2.1 ((((eg ((bJ r).map (·.1))).take z.1.1).filter (fun u=> !decide (e7 (bJ r) u (cd (bJ r) u)=e7 (bJ (gN r h i t)) u (cd (bJ (gN r h i t)) u)))).length) z.1.2.2)),(49,(vI (z.1.1:Int)))]) (fun z=>[(own z.1.2.1 z.1.2.2 3 1 ((((eg ((bJ r).map (·.1))).take z.1.1).filter (fun u=> !decide (e7 (bJ r) u (cd (bJ r) u)=e7 (bJ (gN r h i t)) u (cd (bJ (gN r h i t)) u)))).map iC))]) (fun _=>rfl) (fun _=>rfl) (fun z=>(eg ((bJ r).map (·.1))).length-z.1.1) ⟨(0,none,0),D⟩ (aN U) (aB [1,3,4,5,6,8,9,10,11,12,13,14,15,16,17,18,19,22,23,24,25,26,27,28,29,30,0]) ?_;clear D;rintro ⟨⟨k,a,c⟩,K⟩ J65 Y
 try dsimp only at K
 try dsimp only
 have Hi:((((eg ((bJ r).map (·.1))).take k).filter (fun u=> !decide (e7 (bJ r) u (cd (bJ r) u)=e7 (bJ (gN r h i t)) u (cd (bJ (gN r h i t)) u))))).length≤12:=c6 (u2 _ _) (by rw [k5];omega);refine aq bT 6 ?_;refine bE U (aH fun Cp=>?_) (aG fun Cp=>?_)
 ·refine aU aY 1 U<|aq fz 5 ?_;have A:=g;have C:lD r h i t=(((eg ((bJ r).map (·.1))).take k).filter (fun u=> !decide (e7 (bJ r) u (cd (bJ r) u)=e7 (bJ (gN r h i t)) u (cd (bJ (gN r h i t)) u)))):=by rw [Bb g,c5 I]
  rw [← C];refine aq aj 5 ?_;refine LX hQ (a,c) [26] [] mn U U U ?_ ?_
  ·first|rfl|(rw [A,C];rfl)|(rw [A];rfl)
  ·trivial
 refine aq aY 6 ?_;obtain ⟨x,hx⟩:=ay (eg ((bJ r).map (·.1))) k I;have C0:=bx iC hx;refine rS (IA k U (ao (n:=(eg ((bJ r).map (·.1))).length) 0 U sm) cO dc I I)<|rS (gF k 0 (vI x) U bP (ao (n:=(eg ((bJ r).map (·.1))).length) 0 U sm) C0 U dc U)<|aq aj 7 ?_;refine cX (Dw r kA kC cA cC bA bC slA slC drA drC heA heC d ((dN r).length) e G p (bJ r) x (by exact A1) (by exact FR (aF hx)) I) (aP [13,16]) U fun DA Es=>?_;obtain ⟨Bt,B9⟩:=DA
 try dsimp only
 refine aq aj 2 ?_;refine cX (Dw (cN.mk r.ar r.a_ r.db r.jz (jL r.ax h i t)) L S M T N AA O V P W R X A9 ((dN (gN r h i t)).length) BD m o (bJ (gN r h i t)) x (by exact A2) (by exact fun q=>by have:=D7 E x;rw [q] at this;exact FR (aF hx) (Option.not_isSome_iff_eq_none.1 (by rw [← this];decide))) I) (aP [2,5]) U fun DR FS=>?_;obtain ⟨Bv,Ci⟩:=DR
 try dsimp only
 refine rS (CL (Ss (e7 (bJ r) x (cd (bJ r) x)) Bt B9 (e7 (bJ (gN r h i t)) x (cd (bJ (gN r h i t)) x)) Bv Ci (by exact c6 zH I) (by exact c6 zH I)) (aw (ao (n:=(e7 (bJ r) x (cd (bJ r) x)).length) 1 U sm)<|aw (ao (n:=(e7 (bJ (gN r h i t)) x (cd (bJ (gN r h i t)) x)).length) 0 U sm)<|aA) U)<|aq aj 3 ?_;refine bE U (aJ fun H=>?_) (aK fun H=>?_)
 ·refine aq aY 5 ?_;have Ap:(eg ((bJ r).map (·.1))).length≤5:=by rw [iz,c3];exact F
  refine aq aj 2 ?_;rw [show (((eg ((bJ r).map (·.1))).take k).filter (fun u=> !decide (e7 (bJ r) u (cd (bJ r) u)=e7 (bJ (gN r h i t)) u (cd (bJ (gN r h i t)) u))))=(((eg ((bJ r).map (·.1))).take (k+1)).filter (fun u=> !decide (e7 (bJ r) u (cd (bJ r) u)=e7 (bJ (gN r h i t)) u (cd (bJ (gN r h i t)) u)))) from (Tf hx (by simpa using H)).symm];have y:(vI (((k+1):Nat):Int))=(vI ((k:Int)+1)):=by exact cI I
  refine aL (Y ⟨((k+1),a,c),(by first|omega|(simp only [];omega))⟩ _ _ _ U I (cx 5<|aQ U y<|cV.nil _) (aB [2,3,4,5,6,7,8,9,10,11,12,13,14,15,16,17,18,19,20,21,22,23,24,25,26,27,28]))
 refine aq aY 3 ?_;refine dC (xs:=[.tmp 62]) (cs:=[(vI x)]) U cO jU U U U U (by simp [Value.cells]) U U fun Go=>?_;refine de (es2:=(map iC (((eg ((bJ r).map (·.1))).take (k+1)).filter (fun u=> !decide (e7 (bJ r) u (cd (bJ r) u)=e7 (bJ (gN r h i t)) u (cd (bJ (gN r h i t)) u)))))) (m':=(((eg ((bJ r).map (·.1))).take (k+1)).filter (fun u=> !decide (e7 (bJ r) u (cd (bJ r) u)=e7 (bJ (gN r h i t)) u (cd (bJ (gN r h i t)) u)))).length) 29 U U U pG U U sm (aM (es:=map iC [x]) 0 U U (by simp [br]) U) (j_ _) os (by simp only [maxLen];first|omega|(simp;omega)) (by rw [EC hx (by simpa using H)];simp) (by rw [EC hx (by simpa using H)];simp) U fun B3 Ck=>?_
 try dsimp only
 refine aq aj 6 ?_;have Ap:(eg ((bJ r).map (·.1))).length≤5:=by rw [iz,c3];exact F
 refine aq aj 2 ?_;have w:(vI (((k+1):Nat):Int))=(vI ((k:Int)+1)):=by exact cI I
 refine aL (Y ⟨((k+1),B3,Ck),(by first|omega|(simp only [];omega))⟩ _ _ _ U I (cx 5<|aQ U w<|cV.nil _) (aB [3,4,5,6,7,8,9,10,11,12,13,14,15,16,17,18,19,20,21,22,23,24,25,26,27,28,29]))
end
section
open Go.RowKit
theorem OY (n lo hi:Int) (g1 g2:Nat):
 dh Tryz.prog 61 [(vI n),(vP g1),(vP g2)] [(cb g1 3 [(vI lo)]),(cb g2 3 [(vI hi)])] (vB (decide (n<lo∨hi<n))):=by
 refine bj kr Tryz.func61 U U fun B Q hQ hN=>?_
 try dsimp only
 refine ck bT 11 [] (mr 0 U mn) ?_;refine bK (t:=8) U (aG fun A=>?_) (aH fun A=>?_)
 ·exact cr aj 8 hQ U U<|cB (cR I).symm
 exact yR aj 8 hQ [] (mr 1 U mn) U U<|cB (gR.2 I)
theorem j1 (lo hi:Int) (l:List Int) (lA:OA) (lC:Nat) (hlen:l.length≤1000000):
 dh Tryz.prog 27 [(vI lo),(vI hi),(vS lA l.length lC)] [(jx lA l)] (vB (oJ lo hi l)):=by
 refine bj kr Tryz.func27 U U fun D Q hQ hN=>?_
 try dsimp only
 refine aU bT 2 U<|sK U U fun A=>sK U U fun B=>aq aj 6 ?_;refine rS (FU U) ?_;refine rS (CL (pE l lA lC (Value.func (.func 61) [].toArray [(vP A),(vP B)].toArray) (fun C=>(decide (C<lo∨hi<C))) (iU [(cb A 3 [(vI lo)]),(cb B 3 [(vI hi)])]) (by intro C _;exact kT (fi:=[]) (ca:=[(vP A),(vP B)]) (jJ (OY C lo hi A B) (aP [0,1]))) hlen) (gM 2 U U<|aw (jO (aP [1,0]))<|aA) U) ?_;exact cr aj 5 hQ U U U
theorem wj (o fx:Bool) (tm:aa) (rv:dA):
 dh Tryz.prog 105 [(vA (aO.cells (aO.mk o fx tm rv)))] [] (vB (decide (o=false∧fx=false))):=by
 refine bj kr Tryz.func105 U U fun C Q hQ hN=>?_
 try dsimp only
 refine aU bT 2 U<|dV U fun B=>ck aj 9 [] (mc 0 U mn) ?_;refine cz (t:=6) U (fun A=>?_) (fun A=>?_)
 ·rw [m5] at A;refine cr aj 8 hQ U U ?_;clear hQ hN;refine cB ?_
  (simp_all;done)
 rw [e0] at A;refine yR aj 8 hQ [] (mc 0 U mn) U U ?_;clear hQ hN;refine cB ?_
 (simp_all;done)
theorem Tp (l:List bL) (lA:OA) (lC:Nat) (f:Value) (p:Int→bL→Bool) (X:au) (hf: ∀ x0 x1,(∃ i_:Nat,x0=(i_:Int)∧l[i_]? =some x1)→BV Tryz.prog f [.int .i64 x0,.agg (bL.cells x1).toArray] [X] (.bool (p x0 x1))) (hlen:l.length≤1000000):
 ld Tryz.prog 103 [(vS lA l.length lC),f] [(rd lA l.length 4 (l.map bL.cells)),X] (fun (x:(OA)×Nat)=>(vS x.1 ((jV (jg l p) l.length).length) x.2)) (fun (x:(OA)×Nat)=>True) (fun (x:(OA)×Nat)=>[(own x.1 x.2 3 1 ((jV (jg l p) l.length).map iC))]):=by
 refine cU kr Tryz.func103 U U fun M Q hQ hN=>?_
 try dsimp only
 refine aq bT 19 ?_;refine eC 3 1 ?_;have A:(0≤l.length):=by exact c4 _
 refine bw (ι:={z:Nat×(OA)×Nat // (z.1≤l.length)}) [1,8,9] [1,2] U U (fun z=>[(5,(vS z.1.2.1 ((jV (jg l p) z.1.1).length) z.1.2.2)),(10,(vI (z.1.1:Int)))]) (fun z=>[(own z.1.2.1 z.1.2.2 3 1 ((jV (jg l p) z.1.1).map iC))]) (fun _=>rfl) (fun _=>rfl) (fun z=>l.length-z.1.1) ⟨(0,none,0),A⟩ (aN U) (aB [1,2,0]) ?_;clear A;rintro ⟨⟨i,a,c⟩,C⟩ J5 D
 try dsimp only at C
 try dsimp only
 refine aq bT 6 ?_;refine bE U (aH fun L=>?_) (aG fun L=>?_)
 ·refine aU aY 1 U<|aq fz 4 ?_;rw [show (jV (jg l p) i)=(jV (jg l p) l.length) from by rw [show i=l.length by omega]];refine aq aj 5 ?_;refine LX hQ (a,c) [2] [] mn U U U U ?_;trivial
 refine aq aY 7 ?_;obtain ⟨x,hx⟩:=ay l i I;have AA:=bx bL.cells hx;refine rS (IA i U (av 0 U) Ld dc I I)<|rS (k8 i 0 (bL.cells x) U bP (av 0 U) AA U dc U U)<|AL U TI fun J=>aU aj 1 U<|eM U Tz U<|dF aj 7 [] (mc 0 U mn) U<|rS (SX (pq U U U (hf (i:Int) x ⟨_,U,hx⟩) (aP [2])) U U)<|aq aj 2 ?_;refine bE U (fun B=>?_) (fun B=>?_)
 ·refine aq aY 7 ?_;rw [show jV (jg l p) i=jV (jg l p) (i+1) from (CA (by rw [uG hx];simpa using B)).symm];have F:(vI (((i+1):Nat):Int))=(vI ((i:Int)+1)):=by exact cI I
  refine aL (D ⟨((i+1),a,c),(by first|omega|(simp only [];omega))⟩ _ _ _ U os (cx 4<|aQ U F<|cV.nil _) (aB [1,2,3]))
 refine aq aY 3 ?_;refine dC (xs:=[.tmp 20]) (cs:=[(vI (i:Int))]) U cO jU U U U U (by simp [Value.cells]) U U fun K=>?_;refine de (es2:=(map iC (jV (jg l p) (i+1)))) (m':=(jV (jg l p) (i+1)).length) 4 U U U pG U U sm (aM (es:=map iC [(i:Int)]) 0 U U (by simp [br]) U) (j_ _) (by have:=rO (P:=jg l p) (n:=i);omega) (by have:=rO (P:=jg l p) (n:=i);simp only [maxLen];omega) (by rw [xx (by rw [uG hx];exact B)];simp) sm U fun G H=>?_
 try dsimp only
 refine aq aj 8 ?_;have E:(vI (((i+1):Nat):Int))=(vI ((i:Int)+1)):=by exact cI I
 refine aL (D ⟨((i+1),G,H),(by first|omega|(simp only [];omega))⟩ _ _ _ U os (cx 4<|aQ U E<|cV.nil _) (aB [2,3,4]))
theorem Iz (l:List cG) (lA:OA) (lC:Nat) (f:Value) (p:Int→cG→Bool) (X:au) (hf: ∀ x0 x1,(∃ i_:Nat,x0=(i_:Int)∧l[i_]? =some x1)→BV Tryz.prog f [.int .i64 x0,.agg (cG.cells x1).toArray] [X] (.bool (p x0 x1))) (hlen:l.length≤1000000):
 ld Tryz.prog 46 [(vS lA l.length lC),f] [(rd lA l.length 5 (l.map cG.cells)),X] (fun (x:(OA)×Nat)=>(vS x.1 ((jV (jg l p) l.length).length) x.2)) (fun (x:(OA)×Nat)=>True) (fun (x:(OA)×Nat)=>[(own x.1 x.2 3 1 ((jV (jg l p) l.length).map iC))]):=by
 refine cU kr Tryz.func46 U U fun M Q hQ hN=>?_
 try dsimp only
 refine aq bT 19 ?_;refine eC 3 1 ?_;have A:(0≤l.length):=by exact c4 _
 refine bw (ι:={z:Nat×(OA)×Nat // (z.1≤l.length)}) [1,8,9] [1,2] U U (fun z=>[(5,(vS z.1.2.1 ((jV (jg l p) z.1.1).length) z.1.2.2)),(10,(vI (z.1.1:Int)))]) (fun z=>[(own z.1.2.1 z.1.2.2 3 1 ((jV (jg l p) z.1.1).map iC))]) (fun _=>rfl) (fun _=>rfl) (fun z=>l.length-z.1.1) ⟨(0,none,0),A⟩ (aN U) (aB [1,2,0]) ?_;clear A;rintro ⟨⟨i,a,c⟩,C⟩ J5 D
 try dsimp only at C
 try dsimp only
 refine aq bT 6 ?_;refine bE U (aH fun L=>?_) (aG fun L=>?_)
 ·refine aU aY 1 U<|aq fz 4 ?_;rw [show (jV (jg l p) i)=(jV (jg l p) l.length) from by rw [show i=l.length by omega]];refine aq aj 5 ?_;refine LX hQ (a,c) [2] [] mn U U U U ?_;trivial
 refine aq aY 7 ?_;obtain ⟨x,hx⟩:=ay l i I;have AA:=bx cG.cells hx;refine rS (IA i U (av 0 U) N4 dc I I)<|rS (k8 i 0 (cG.cells x) U bP (av 0 U) AA U dc U U)<|AL U MJ fun J=>aU aj 1 U<|eM U Ok U<|dF aj 7 [] (mc 0 U mn) U<|rS (SX (pq U U U (hf (i:Int) x ⟨_,U,hx⟩) (aP [2])) U U)<|aq aj 2 ?_;refine bE U (fun B=>?_) (fun B=>?_)
 ·refine aq aY 7 ?_;rw [show jV (jg l p) i=jV (jg l p) (i+1) from (CA (by rw [uG hx];simpa using B)).symm];have F:(vI (((i+1):Nat):Int))=(vI ((i:Int)+1)):=by exact cI I
  refine aL (D ⟨((i+1),a,c),(by first|omega|(simp only [];omega))⟩ _ _ _ U os (cx 4<|aQ U F<|cV.nil _) (aB [1,2,3]))
 refine aq aY 3 ?_;refine dC (xs:=[.tmp 20]) (cs:=[(vI (i:Int))]) U cO jU U U U U (by simp [Value.cells]) U U fun K=>?_;refine de (es2:=(map iC (jV (jg l p) (i+1)))) (m':=(jV (jg l p) (i+1)).length) 4 U U U pG U U sm (aM (es:=map iC [(i:Int)]) 0 U U (by simp [br]) U) (j_ _) (by have:=rO (P:=jg l p) (n:=i);omega) (by have:=rO (P:=jg l p) (n:=i);simp only [maxLen];omega) (by rw [xx (by rw [uG hx];exact B)];simp) sm U fun G H=>?_
 try dsimp only
 refine aq aj 8 ?_;have E:(vI (((i+1):Nat):Int))=(vI ((i:Int)+1)):=by exact cI I
 refine aL (D ⟨((i+1),G,H),(by first|omega|(simp only [];omega))⟩ _ _ _ U os (cx 4<|aQ U E<|cV.nil _) (aB [2,3,4]))
end
section
open Go.RowKit
variable (i:Int) (f:bL) (j:dy) (kA:OA) (kC:Nat) (cA:OA) (cC:Nat) (bA:OA) (bC:Nat) (slA:OA) (slC:Nat) (drA:OA) (drC:Nat) (heA:OA) (heC:Nat) (faA:OA) (faC:Nat) (prA:OA) (prC:Nat)
theorem Nk (g1:Nat) (hk:0≤f.Kind∧f.Kind≤255):
 dh Tryz.prog 104 [(vI i),(vA (bL.cells f)),(vP g1)] [(cb g1 36 (km.cells (rL j kA kC cA cC bA bC slA slC drA drC heA heC faA faC prA prC)))] (vB (decide (¬ ql j.Race.ar.b_ f))):=by
 refine bj kr Tryz.func104 U U fun O Q hQ hN=>?_
 try dsimp only
 refine aU bT 2 U<|dV U fun N=>dF aj 17 [0,1] (mr 1 U (mc 0 U mn)) U<|rS (BI U ny)<|aq aj 2 ?_;refine bY U (aG fun A=>?_) (aH fun A=>?_)
 ·refine ck aY 8 [] (mc 0 U mn) ?_;refine rS (SX (qh (m:=f.Kind) U U My nZ (mH (by first|assumption|omega))) U U)<|dC (xs:=[.tmp 16]) (cs:=[(vI f.Kind)]) U cO jU U U U U (by simp [Value.cells]) U U fun K=>?_;refine rS (CL (dh.eq (j1 1 3 ([f.Kind]) (some ⟨K,0,none⟩) 1 sd) cp) (aw (aM 0 U U (by simp [br]) U)<|aA) U) ?_;refine aq aj 2 ?_;refine bK (t:=20) U (aK fun M=>?_) (aJ fun M=>?_)
  ·refine cr aj 27 hQ U U ?_
   first|(refine cB (cR ?_).symm;first|(rw [fO A];omega)|(rw [fM A];omega))|(refine cB (bg ?_).symm;first|(rw [fO A];omega)|(rw [fM A];omega))|(refine cB (ABv.symm.trans (gR.2 ?_));first|(rw [fO A];omega)|(rw [fM A];omega))
  refine ck aj 4 [] (mc 1 U mn) ?_;refine dC (xs:=[.tmp 22,.tmp 24]) (cs:=[(vI f.ou),(vI f.To)]) U cO jU U U U U (by simp [Value.cells]) U U fun L=>?_;refine rS (CL (dh.eq (j1 0 86400000 ([f.ou,f.To]) (some ⟨L,0,none⟩) 2 sd) qT) (aw (aM 0 U U (by simp [br]) U)<|aA) U) ?_;refine aq aj 3 ?_;refine bK (t:=29) U (aK fun F=>?_) (aJ fun F=>?_)
  ·refine cr aj 18 hQ U U ?_
   first|(refine cB (cR ?_).symm;first|(rw [fO A];omega)|(rw [fM A];omega))|(refine cB (bg ?_).symm;first|(rw [fO A];omega)|(rw [fM A];omega))|(refine cB (ABv.symm.trans (gR.2 ?_));first|(rw [fO A];omega)|(rw [fM A];omega))
  refine ck aj 7 [] (mc 2 U mn) ?_;refine bK (t:=36) U (aG fun G=>?_) (aH fun G=>?_)
  ·refine cr aj 11 hQ U U ?_
   first|(refine cB (cR ?_).symm;first|(rw [fO A];omega)|(rw [fM A];omega))|(refine cB (bg ?_).symm;first|(rw [fO A];omega)|(rw [fM A];omega))|(refine cB (ABv.symm.trans (gR.2 ?_));first|(rw [fO A];omega)|(rw [fM A];omega))
  refine ck aj 3 [] (mc 2 U mn) ?_;refine dC (xs:=[.tmp 39]) (cs:=[(vI f.jf)]) U cO jU U U U U (by simp [Value.cells]) U U fun B=>?_;refine rS (CL (dh.eq (j1 0 0 ([f.jf]) (some ⟨B,0,none⟩) 1 sd) cp) (aw (aM 0 U U (by simp [br]) U)<|aA) U) ?_;refine cr aj 6 hQ U U ?_
  first|(refine cB (cR ?_).symm;first|(rw [fO A];omega)|(rw [fM A];omega))|(refine cB (bg ?_).symm;first|(rw [fO A];omega)|(rw [fM A];omega))|(refine cB (ABv.symm.trans (gR.2 ?_));first|(rw [fO A];omega)|(rw [fM A];omega))
 refine ck aY 6 [] (mc 0 U mn) ?_;refine rS (SX (qh (m:=f.Kind) U U My nZ (mH (by first|assumption|omega))) U U)<|dC (xs:=[.tmp 16]) (cs:=[(vI f.Kind)]) U cO jU U U U U (by simp [Value.cells]) U U fun C=>?_;refine rS (CL (dh.eq (j1 1 3 ([f.Kind]) (some ⟨C,0,none⟩) 1 sd) cp) (aw (aM 0 U U (by simp [br]) U)<|aA) U) ?_;refine aq aj 2 ?_;refine bK (t:=20) U (aK fun H=>?_) (aJ fun H=>?_)
 ·refine cr aj 27 hQ U U ?_
  first|(refine cB (cR ?_).symm;first|(rw [fO A];omega)|(rw [fM A];omega))|(refine cB (bg ?_).symm;first|(rw [fO A];omega)|(rw [fM A];omega))|(refine cB (ABv.symm.trans (gR.2 ?_));first|(rw [fO A];omega)|(rw [fM A];omega))
 refine ck aj 4 [] (mc 1 U mn) ?_;refine dC (xs:=[.tmp 22,.tmp 24]) (cs:=[(vI f.ou),(vI f.To)]) U cO jU U U U U (by simp [Value.cells]) U U fun D=>?_;refine rS (CL (dh.eq (j1 0 86400000 ([f.ou,f.To]) (some ⟨D,0,none⟩) 2 sd) qT) (aw (aM 0 U U (by simp [br]) U)<|aA) U) ?_;refine aq aj 3 ?_;refine bK (t:=29) U (aK fun AA=>?_) (aJ fun AA=>?_)
 ·refine cr aj 18 hQ U U ?_
  first|(refine cB (cR ?_).symm;first|(rw [fO A];omega)|(rw [fM A];omega))|(refine cB (bg ?_).symm;first|(rw [fO A];omega)|(rw [fM A];omega))|(refine cB (ABv.symm.trans (gR.2 ?_));first|(rw [fO A];omega)|(rw [fM A];omega))
 refine ck aj 7 [] (mc 2 U mn) ?_;refine bK (t:=36) U (aG fun J=>?_) (aH fun J=>?_)
 ·refine cr aj 11 hQ U U ?_
  first|(refine cB (cR ?_).symm;first|(rw [fO A];omega)|(rw [fM A];omega))|(refine cB (bg ?_).symm;first|(rw [fO A];omega)|(rw [fM A];omega))|(refine cB (ABv.symm.trans (gR.2 ?_));first|(rw [fO A];omega)|(rw [fM A];omega))
 refine ck aj 3 [] (mc 2 U mn) ?_;refine dC (xs:=[.tmp 39]) (cs:=[(vI f.jf)]) U cO jU U U U U (by simp [Value.cells]) U U fun E=>?_;refine rS (CL (dh.eq (j1 0 j.Race.ar.b_ ([f.jf]) (some ⟨E,0,none⟩) 1 sd) cp) (aw (aM 0 U U (by simp [br]) U)<|aA) U) ?_;refine cr aj 6 hQ U U ?_
 first|(refine cB (cR ?_).symm;first|(rw [fO A];omega)|(rw [fM A];omega))|(refine cB (bg ?_).symm;first|(rw [fO A];omega)|(rw [fM A];omega))|(refine cB (ABv.symm.trans (gR.2 ?_));first|(rw [fO A];omega)|(rw [fM A];omega))
theorem wo (fk fw:Int) (ff ft:Int) (al ah:Int) (ae an:Bool) (bl bh:Int) (be bn:Bool):
 dh Tryz.prog 181 [(vA (bL.cells (bL.mk fk fw ff ft))),(vA (lS.cells (lS.mk (aa.mk al ah) ae an))),(vA (lS.cells (lS.mk (aa.mk bl bh) be bn)))] [] (vB (decide (ah≤ft∧ff≤bl))):=by
 refine bj kr Tryz.func181 U U fun E Q hQ hN=>?_
 try dsimp only
 refine aU bT 2 U<|dV U fun B=>dV U fun C=>dV U fun D=>ck aj 12 [0,1] (mc 1 U (mc 2 U mn)) ?_;refine cz (t:=13) U (aH fun A=>?_) (aG fun A=>?_)
 ·exact cr aj 11 hQ U U<|cB (bg I).symm
 exact yR aj 11 hQ [0,1] (mc 0 U (mc 2 U mn)) U U<|cB (gR.2 I)
theorem JL (fk fw:Int) (ff ft:Int) (al ah:Int) (ae an:Bool) (bl bh:Int) (be bn:Bool):
 dh Tryz.prog 185 [(vA (bL.cells (bL.mk fk fw ff ft))),(vA (lS.cells (lS.mk (aa.mk al ah) ae an))),(vA (lS.cells (lS.mk (aa.mk bl bh) be bn)))] [] (vB (decide (aa.mk (max al ff) (min ah ft)=aa.mk al ah))):=by
 refine bj kr Tryz.func185 U U fun D Q hQ hN=>?_
 try dsimp only
 refine aU bT 2 U<|dV U fun A=>dV U fun B=>dV U fun C=>dF aj 10 [0,1] (mc 1 U (mc 2 U mn)) U<|rS (MX U)<|dF aj 5 [0,1] (mc 1 U (mc 2 U mn)) U<|rS (MN U)<|rS (SX (aW (xs:=[(0,.tmp 12),(1,.tmp 18)]) (cs:=(aa.cells (aa.mk (max al ff) (min ah ft)))) U U (aV gQ U)) U U)<|aq aj 1 ?_;refine rS (LP (aa.cells (aa.mk al ah)) 1 U bP U U U)<|rS (BI U (wN _ _ (aa.mk (max al ff) (min ah ft)) (aa.mk al ah))) ?_;exact cr aj 4 hQ U U U
theorem XJ (fk fw:Int) (ff ft:Int):
 dh Tryz.prog 182 [(vA (dv.cells (dv.mk (rL j kA kC cA cC bA bC slA slC drA drC heA heC faA faC prA prC)))),(vA (bL.cells (bL.mk fk fw ff ft)))] [] (vT [(vI (-1)),(vI j.Race.ar.b_)]):=by
 refine bj kr Tryz.func182 U U fun C Q hQ hN=>?_
 try dsimp only
 refine aU bT 2 U<|dV U fun A=>dV U fun B=>aU aj 5 U<|cL bX 7 kr<|jY 7 [] (mc 1 U mn) U<|cy<|aq aj 3 ?_;refine Q2 hQ U U U U ?_;rfl
theorem Xz (fk fw:Int) (ff ft:Int) (hw:0≤fw∧fw≤1000000):
 dh Tryz.prog 183 [(vA (dv.cells (dv.mk (rL j kA kC cA cC bA bC slA slC drA drC heA heC faA faC prA prC)))),(vA (bL.cells (bL.mk fk fw ff ft)))] [] (vT [(vI (fw-1)),(vI fw)]):=by
 refine bj kr Tryz.func183 U U fun C Q hQ hN=>?_
 try dsimp only
 refine aU bT 2 U<|dV U fun A=>dV U fun B=>aq aj 5 ?_;refine cL bX 7 kr ?_
 try dsimp only
 refine jY 7 [] (mc 0 U mn) U<|cy<|aq aj 3 ?_;refine Q2 hQ U U U U ?_;rfl
theorem Y0 (fk fw:Int) (ff ft:Int):
 dh Tryz.prog 184 [(vA (dv.cells (dv.mk (rL j kA kC cA cC bA bC slA slC drA drC heA heC faA faC prA prC)))),(vA (bL.cells (bL.mk fk fw ff ft)))] [] (vT [(vI fw),(vI fw)]):=by
 refine bj kr Tryz.func184 U U fun C Q hQ hN=>?_
 try dsimp only
 refine aU bT 2 U<|dV U fun A=>dV U fun B=>aU aj 5 U<|cL bX 6 kr<|jY 6 [] (mc 0 U mn) U<|cy<|aq aj 3 ?_;refine Q2 hQ U U U U ?_;rfl
theorem AH:
 dh Tryz.prog 141 [] [] (vA ((fB.cells (fB.mk Value.nilFunc Value.nilFunc))++(fB.cells (fB.mk (Value.func (.func 182) [].toArray [].toArray) (Value.func (.func 181) [].toArray [].toArray)))++(fB.cells (fB.mk (Value.func (.func 183) [].toArray [].toArray) (Value.func (.func 181) [].toArray [].toArray)))++(fB.cells (fB.mk (Value.func (.func 184) [].toArray [].toArray) (Value.func (.func 185) [].toArray [].toArray))))):=by
 refine bj kr Tryz.func141 U U fun B Q hQ hN=>?_
 try dsimp only
 refine aU bT 2 U<|AL U YQ fun A=>aU aj 10 U<|rS (SX (aW (xs:=[(0,.func 182),(1,.tmp 2)]) (cs:=(fB.cells (fB.mk (Value.func (.func 182) [].toArray [].toArray) (Value.func (.func 181) [].toArray [].toArray)))) U U (aV MR U)) U U)<|aU aj 1 U<|rS (SX (aW (xs:=[(0,.func 183),(1,.tmp 4)]) (cs:=(fB.cells (fB.mk (Value.func (.func 183) [].toArray [].toArray) (Value.func (.func 181) [].toArray [].toArray)))) U U (aV MR U)) U U)<|rS (SX (aW (xs:=[(0,.func 184),(1,.func 185)]) (cs:=(fB.cells (fB.mk (Value.func (.func 184) [].toArray [].toArray) (Value.func (.func 185) [].toArray [].toArray)))) U U (aV MR U)) U U)<|rS (SX (aW (xs:=[(1,.tmp 3),(2,.tmp 5),(3,.tmp 6)]) (cs:=((fB.cells (fB.mk Value.nilFunc Value.nilFunc))++(fB.cells (fB.mk (Value.func (.func 182) [].toArray [].toArray) (Value.func (.func 181) [].toArray [].toArray)))++(fB.cells (fB.mk (Value.func (.func 183) [].toArray [].toArray) (Value.func (.func 181) [].toArray [].toArray)))++(fB.cells (fB.mk (Value.func (.func 184) [].toArray [].toArray) (Value.func (.func 185) [].toArray [].toArray))))) U U (aV Yb U)) U U)<|eM U X9 U<|aq aj 3 ?_;refine Gx hQ [0] (mc 0 U mn) U ?_;rfl
theorem E6 (l:List bL) (lA:OA) (lC:Nat) (f:bL) (hlen:l.length≤1000000):
 dh Tryz.prog 57 [(vS lA l.length lC),(vA (bL.cells f))] [(vX lA l)] (vI (qs l f)):=by
 refine bj kr Tryz.func57 U U fun J Q hQ hN=>?_
 try dsimp only
 refine aU bT 2 U<|dV U fun AA=>aq aj 12 ?_;have B:(0≤l.length)∧(∀ (q:Nat) y,q<0→l[q]? =some y→y≠f):=by exact ⟨c4 _,fun q y hq=>absurd hq (s4 _)⟩
 refine bw (ι:={z:Nat // (z≤l.length)∧(∀ (q:Nat) y,q<z→l[q]? =some y→y≠f)}) [0,3,7] [0,1] U U (fun z=>[(8,(vI (z.1:Int)))]) (fun z=>[]) (fun _=>rfl) (fun _=>rfl) (fun z=>l.length-z.1) ⟨0,B⟩ (aN U) (aB [0,1]) ?_;clear B;rintro ⟨i,⟨F,A⟩⟩ J5 E
 try dsimp only
 refine aq bT 6 ?_;refine bE U (aH fun H=>?_) (aG fun H=>?_)
 ·exact aU aY 1 U<|cr fz 8 hQ U U<|cI (Rf A I).symm
 refine aU aY 11 U<|cL bX 6 kr<|dP 3 [] (mc 0 U mn) ?_;obtain ⟨x,hx⟩:=ay l i I;have G:=bx bL.cells hx;refine dS (IA i U (av 1 U) Ld dc I I)<|dS (k8 i 0 (bL.cells x) U bP (av 1 U) G U dc U U)<|dS (BI U (Vp _ _ f x))<|cy<|aq aj 2 ?_;refine bY U (aG fun C=>?_) (aH fun C=>?_)
 ·exact cr aY 7 hQ U U<|cI (Sw hx C.symm A).symm
 refine aq aY 7 ?_;have D:(vI (((i+1):Nat):Int))=(vI ((i:Int)+1)):=by exact cI I
 refine aL (E ⟨(i+1),⟨I,fun q y hq hy=>by rcases r4 q i with c|c;exact A q y c hy;(obtain rfl:q=i:=by omega);rw [hx] at hy;cases hy;exact fun e=>C e.symm⟩⟩ _ _ _ rfl os (cx 3<|aQ rfl D<|cV.nil _) (aB [0,1]))
end
section
open Go.RowKit
theorem Zl (l:List Int) (lA:OA) (lC:Nat) (hne:1≤l.length) (hlen:l.length≤1000000):
 dh Tryz.prog 180 [(vS lA l.length lC)] [(rd lA l.length 1 (l.map iC))] (vI (rZ l)):=by
 refine bj kr Tryz.func180 U U fun K Q hQ hN=>?_
 try dsimp only
 refine aq bT 13 ?_;refine bY U (aG fun J=>?_) (aH fun J=>?_)
 ·exfalso;omega
 refine aq aY 5 ?_;obtain ⟨E,B⟩:=ay l 0 I;have hx0m:=bx iC B;refine rS (IA 0 U (av 0 U) cO dc U I)<|rS (gF 0 0 (vI E) U bP (av 0 U) hx0m U dc U)<|aq aj 10 ?_;have A:(1≤1∧1≤l.length):=by omega
 have H:(vI (rZ (l.take 1)))=(vI E):=by rw [K_ B]
 refine bw (ι:={z:Nat // (1≤z∧z≤l.length)}) [0] [0] U U (fun z=>[(3,(vI (rZ (l.take z.1)))),(4,(vI (z.1:Int)))]) (fun z=>[]) (fun _=>rfl) (fun _=>rfl) (fun z=>l.length-z.1) ⟨1,A⟩ (aQ U H<|aN U) (aB [0]) ?_;clear A;rintro ⟨i,AA⟩ J9 G
 try dsimp only
 refine aq bT 9 ?_;refine bE U (aH fun F=>?_) (aG fun F=>?_)
 ·refine aU aY 1 U<|cr fz 9 hQ U U ?_;rw [c5 I]
 refine aq aY 8 ?_;obtain ⟨E,B⟩:=ay l i I;have hx0m:=bx iC B;refine rS (IA i U (av 0 U) cO dc I I)<|rS (gF i 0 (vI E) U bP (av 0 U) hx0m U dc U)<|rS (MN U)<|aq aj 9 ?_;have C:(vI (rZ (l.take (i+1))))=(vI (min (rZ (l.take i)) E)):=by rw [Ou B I]
 have D:(vI (((i+1):Nat):Int))=(vI ((i:Int)+1)):=by exact cI I
 refine aL (G ⟨(i+1),(by first|omega|(simp only [];omega))⟩ _ _ _ U os (cV.cons U<|aQ U C<|aQ U D<|cV.nil _) (aB [0]))
end
section
open Go.RowKit
theorem Rq (l:bf) (kA:OA) (kC:Nat) (az:List RA) (cA:OA) (cC:Nat) (bA:OA) (bC:Nat) (r:c_) (sgA:OA) (sgC:Nat) (hin:dX l az) (hsl:r.ab.length≤1000000):
 ld Tryz.prog 179 [(vA (bV.cells (kO l kA kC cA cC bA bC))),(vA (dA.cells (jP r sgA sgC)))] ((rr l kA az cA bA)++[(rd sgA r.ab.length 2 (r.ab.map aR.cells))]) (fun (x:(OA)×Nat)=>(vT [(vS x.1 ((lU l r).length) x.2),(vI (fK l r 0))])) (fun (x:(OA)×Nat)=>True) (fun (x:(OA)×Nat)=>[(own x.1 x.2 3 1 ((lU l r).map iC))]):=by
 have z:=hin.sQ;have q:=hin.sR;have m:=hin.mE;have o:=hin.sP;have y:=hin.side;refine cU kr Tryz.func179 U U fun w0 Q hQ hN=>?_
 try dsimp only
 refine aU bT 2 U<|dV U fun b2=>dV U fun b3=>ck aj 8 [0,1] (mc 1 U (mc 0 U mn)) ?_;refine cX (Sp l kA kC az cA cC bA bC r sgA sgC hin hsl) (aP [2,3,4,5,6]) U fun y5 N=>?_;obtain ⟨O,k,Y,X,F,S,T,AA,B,AB,G,H,A,E,P,R⟩:=y5;cases O
 ·obtain ⟨L,he⟩:=N.2 rfl
  try dsimp only at L he
  subst L
  try dsimp only [cond_true,cond_false,List.cons_append,List.nil_append]
  refine aq aj 14 ?_;refine bE U (aJ fun J=>?_) (aK fun J=>?_)
  ·exact absurd J he
  refine aq aY 2 ?_;refine fT 3 1 ?_;rw [show (own none 0 3 1 ([]:List (List Value)))=own none 0 3 1 ((lU l r).map iC) from by rw [CK he];rfl];refine aq aj 6 ?_;refine LX hQ (none,0) [0] [] mn U U U ?_ ?_
  ·(rw [CK he];rfl)
  ·trivial
 obtain ⟨he,C,K,b,a,d⟩:=N.1 rfl
 try dsimp only [cond_true,cond_false,List.cons_append,List.nil_append]
 dsimp only at C K b a d;obtain ⟨Z,D,t,u⟩:=jQ he;obtain ⟨e,M⟩:=er Z;have c:=M.head;unfold fg at c;have f:=n_ e M D;have w:=D.time;have v:=D.len;have h:(cv l l.ai.length).length=l.ai.length:=dH;have i:(cM l r.ab r.ab.length).length=l.ai.length:=ib;have s:B.length=l.ai.length+1:=by have:=C.len;rw [show (dW l r).n=l.ai.length from dH] at this;exact this
 have p:A.length=l.ai.length+1:=by have:=K.len;rw [show (dW l r).n=l.ai.length from dH] at this;exact this
 refine aU aj 11 U<|rS (SX (cm (r:= .bool false) U U U nx) U U)<|aq aj 8 ?_;refine cX (xU (kO l kA kC cA cC bA bC) (jP r sgA sgC) (cv l l.ai.length) (cM l r.ab r.ab.length) X F AA S T B A AB G H E P R Y (by exact f) (by (simp;omega)) (by exact dH.symm) (by exact C) asm) (aw (ao (n:=(cv l l.ai.length).length) 1 U sm)<|aw (ao (n:=(cM l r.ab r.ab.length).length) 2 U (by rw [m4];omega))<|aw (dQ 3 U m8)<|aw (ao (n:=B.length) 4 U (by rw [m4];omega))<|aw (dQ 5 U m8)<|aw (ao (n:=A.length) 6 U (by rw [m4];omega))<|aw (dQ 7 U m8)<|gM 0 U U<|aA) U fun g j=>?_;obtain ⟨V,W⟩:=g
 try dsimp only
 rw [show (n8 (cS (kO l kA kC cA cC bA bC) (jP r sgA sgC) (cv l l.ai.length) (cM l r.ab r.ab.length)))=lU l r from (Cz he).symm];refine aq aj 5 ?_;refine LX hQ (V,W) [0] [] mn U U U ?_ ?_
 ·(rw [he];rfl)
 ·trivial
end
section
open Go.RowKit
theorem nE (j:dy) (kA:OA) (kC:Nat) (az:List RA) (cA:OA) (cC:Nat) (bA:OA) (bC:Nat) (slA:OA) (slC:Nat) (drA:OA) (drC:Nat) (ha:List cq) (heA:OA) (heC:Nat) (faA:OA) (faC:Nat) (prA:OA) (prC:Nat) (r:c_) (sgA:OA) (sgC:Nat) (b:Int) (hin:jy j az ha) (hsl:r.ab.length≤1000000):
 dh Tryz.prog 140 [(vA (dv.cells (dv.mk (rL j kA kC cA cC bA bC slA slC drA drC heA heC faA faC prA prC)))),(vA (dA.cells (jP r sgA sgC))),(vI b)] ((Cl j kA az cA bA slA drA ha heA faA prA)++[(ke sgA r.ab)]) (vA (lS.cells (lS.mk (aa.mk ((dB j.Race.ar r b).Lo) ((dB j.Race.ar r b).Hi)) ((dB j.Race.ar r b).each) ((dB j.Race.ar r b).never)))):=by
 have J:=hin.race;have F:=hin.race.line;have M:=hin.race.g_;have N:=hin.race.has;have K:=hin.race.g9;have H:=hin.nf;have AA:=hin.np;refine bj kr Tryz.func140 U U fun T Q hQ hN=>?_
 try dsimp only
 refine aU bT 2 U<|dV U fun O=>dV U fun P=>AL U pS fun R=>aq aj 9 ?_;refine bY U (aG fun B=>?_) (aH fun B=>?_)
 ·refine dF aY 6 [] (mc 1 U mn) U<|rS (SX (aW (xs:=[(0,.tmp 15),(1,.tmp 17)]) (cs:=(aa.cells (aa.mk r.Start r.Start))) U U (aV gQ U)) U U)<|rS (SX (aW (xs:=[(0,.tmp 18),(1,.const (vB true)),(2,.const (vB false))]) (cs:=(lS.cells (lS.mk (aa.mk r.Start r.Start) true false))) U U (aV Iy U)) U U)<|eM U ox U<|aq aj 3 ?_;refine Gx hQ [0] (mc 0 U mn) U ?_
  (rw [Kw B])
 refine aU aY 7 U<|rS (LP (bV.cells (kO j.Race.ar kA kC cA cC bA bC)) 2 U bP U U U)<|dF aj 2 [] (mc 1 U mn) U<|rS (CL (Fs j.Race.ar kA kC az cA cC bA bC r sgA sgC b asm hsl) (aP [3,4,5,6,13]) U)<|aU aj 3 U<|AL U dD fun S=>eM U cK U<|aq aj 10 ?_;refine bY U (aK fun A=>?_) (aJ fun A=>?_)
 ·refine aU aY 2 U<|rS (SX (aW (xs:=[(0,.const (vI 86400000)),(1,.const (vI 86400000))]) (cs:=(aa.cells (aa.mk 86400000 86400000))) U U (aV gQ U)) U U)<|rS (SX (aW (xs:=[(0,.tmp 32),(1,.const (vB false)),(2,.const (vB true))]) (cs:=(lS.cells (lS.mk (aa.mk 86400000 86400000) false true))) U U (aV Iy U)) U U)<|o_ U ox U<|aq aj 3 ?_;refine Gx hQ [0] (mc 1 U mn) U ?_
  (rw [Fv B A])
 refine aU aY 7 U<|rS (LP (bV.cells (kO j.Race.ar kA kC cA cC bA bC)) 3 U bP U U U)<|ck aj 1 [] (mc 2 U mn) ?_;refine cX (Rq j.Race.ar kA kC az cA cC bA bC r sgA sgC asm hsl) (aP [4,5,6,7,14]) U fun G L=>?_;obtain ⟨D,E⟩:=G
 try dsimp only
 refine aq aj 10 ?_;refine rS (CL (Zl (lU j.Race.ar r) D E (by exact GV (xz A I)) (by have:=G0 (l:=j.Race.ar) (r:=r);omega)) (aw (ao (n:=(lU j.Race.ar r).length) 0 U sm)<|aA) U) ?_;refine aq aj 12 ?_;refine bE U (aJ fun C=>?_) (aK fun C=>?_)
 ·refine dF aY 6 [] (mc 1 U mn) U<|rS (SX (aW (xs:=[(0,.tmp 50),(1,.tmp 51),(2,.const (vB false))]) (cs:=(lS.cells (lS.mk (eL j.Race.ar r b) (decide (b<(rZ (lU j.Race.ar r)))) false))) U U (aV Iy U)) U U)<|D2 U ox U<|aq aj 3 ?_;refine Gx hQ [0] (mc 2 U mn) U ?_
  (rw [Cs B A (by rw [FE (xz A I)];exact cR C),cR C])
 refine aU aY 2 U<|ST1 (aa.cells (aa.mk ((eL j.Race.ar r b).Lo) 86400000)) U Gy U U<|dF aj 6 [] (mc 1 U mn) U<|rS (SX (aW (xs:=[(0,.tmp 50),(1,.tmp 51),(2,.const (vB false))]) (cs:=(lS.cells (lS.mk (aa.mk ((eL j.Race.ar r b).Lo) 86400000) (decide (b<(rZ (lU j.Race.ar r)))) false))) U U (aV Iy U)) U U)<|D2 U ox U<|aq aj 3 ?_;refine Gx hQ [0] (mc 2 U mn) U ?_
 (rw [z4 B A (by rw [FE (xz A I)];exact bg C),bg C])
end
section
open Go.RowKit
variable {E:fJ} {ops:Array Oper} {D:List Deferred} {L:List (Nat×Value)} {C:List au}
variable {dst:Option Tmp} {ty:TypeId} {ps:String} {af:Array Edge} {g:Option (Nat×Bool)}
theorem xL {x ix:Operand} {t e len sz:Nat} {cs vs:List Value} {j:Int} {kd:IntKind} (m:Nat) (hg:kz ops L g=true) (hx:ev L x=some (.agg cs.toArray)) (hi:ev L ix=some (.int kd j)) (ht:tX E.P t=some (len,e)) (hk:tK E.P e=some (true,sz)) (hj:j=(m:Int)) (hm:m<len) (hv:(cs.drop (m*sz)).take sz=vs):
 SD E ops ⟨dst,.index t x ix,ty,ps,af,g⟩ D L C (.agg vs.toArray):=
 eo hg sm fun a w A _=>by
  have B:(0:Int)≤(m:Int)∧(m:Int)<(len:Int):=by omega
  subst hj;simp [execOp,A.ev hx,A.ev hi,Instr.index,asIntOf,k3 (GW ht),B,hm,(qn hk w).2,jI hk hv w]
end
section
open Go.RowKit
variable (j:dy) (kA:OA) (kC:Nat) (az:List RA) (cA:OA) (cC:Nat) (bA:OA) (bC:Nat) (slA:OA) (slC:Nat) (drA:OA) (drC:Nat) (ha:List cq) (heA:OA) (heC:Nat) (faA:OA) (faC:Nat) (prA:OA) (prC:Nat) (fw ff ft:Int) (d:ak) (sgA:OA) (sgC:Nat)
theorem M_ (hin:jy j az ha) (hw:0≤fw∧fw≤1000000) (hsl:d.bp.ab.length≤1000000):
 dh Tryz.prog 92 [(vA (dv.cells (dv.mk (rL j kA kC cA cC bA bC slA slC drA drC heA heC faA faC prA prC)))),(vA (bL.cells (bL.mk 1 fw ff ft))),(vA (aO.cells (aO.mk d.Out d.cZ d.Time (jP d.bp sgA sgC))))] ((Cl j kA az cA bA slA drA ha heA faA prA)++[(ke sgA d.bp.ab)]) (Value.int .u8 (ks j.Race.ar (bL.mk 1 fw ff ft) d)):=by
 have T:=hin.race;have P:=hin.race.line;have Y:=hin.race.g_;have Z:=hin.race.has;have AA:=hin.race.g9;have R:=hin.nf;have S:=hin.np;refine bj kr Tryz.func92 U U fun a Q hQ hN=>?_
 try dsimp only
 refine aU bT 2 U<|dV U fun V=>dV U fun W=>dV U fun X=>dF aj 7 [] (mc 0 U mn) U<|rS (CL (wj d.Out d.cZ d.Time (jP d.bp sgA sgC)) (aA) U)<|aq aj 3 ?_;refine bY U (aK fun A=>?_) (aJ fun A=>?_)
 ·refine cr aY 6 hQ U U ?_
  (rw [xR (fun q=>A q)];done)
 refine aq aY 3 ?_;refine cT bX [4,5] [] [] [0,1,2,3,4,5,6,7,8,9,10,11,12,13] [] U U U U U<|eS U (CL AH (aA) U)<|eS U (FA 0 U eB U)<|eS U (L1 (Value.int .u8 1) 1 U bP U U)<|eS U (SX (xL (vs:=(fB.cells (fB.mk (Value.func (.func 182) [].toArray [].toArray) (Value.func (.func 181) [].toArray [].toArray)))) 1 U U U P7 bP U dc U) U U)<|dL U<|bR U fun T9 O=>AL U Nc fun L=>bG (O _ _ (aB [1,2,3,4,5,6,7,8,9,10,11,12,13,14]) ?_);refine bR U fun T11 K=>eM U O7 U<|bG (K _ _ (aB [1,2,3,4,5,6,7,8,9,10,11,12,13,14]) ?_);refine eI U<|dF jC 7 [0,1,2] (mc 0 U (mc 3 U (mc 2 U mn))) U<|rS (CL (XJ j kA kC cA cC bA bC slA slC drA drC heA heC faA faC prA prC 1 fw ff ft) (aA) U)<|aq aj 8 ?_;refine mj bX [0,1,2,3,4,5,6,7,8,9] [10,11,12,13] [false,false,false,false,false,false,false,false,false,false] [] [(cb L 229 (fB.cells (fB.mk (Value.func (.func 182) [].toArray [].toArray) (Value.func (.func 181) [].toArray [].toArray)))),(cb X 52 (aO.cells (aO.mk d.Out d.cZ d.Time (jP d.bp sgA sgC)))),(cb W 131 (bL.cells (bL.mk 1 fw ff ft))),(cb V 76 (dv.cells (dv.mk (rL j kA kC cA cC bA bC slA slC drA drC heA heC faA faC prA prC)))),(l0 kA j.Race.ar.bQ).ro,(yS cA j.Race.ar.aC az).ro,(iU (bB aS.lf j.Race.ar.aC az)).ro,(xP bA j.Race.ar.ai).ro,(jx slA j.Race.a_).ro,(jx drA j.Race.db).ro,(CV heA j.Race.ax ha).ro,(iU (bB nm j.Race.ax ha)).ro,(vX faA j.bu).ro,(Ct prA j.bH).ro,(ke sgA d.bp.ab).ro] [] kr (aB [0,1,2,3,4,5,6,7,8,9,10,11,12,13,14]) (aB [])<|eS U (LW 3 U bP U U)<|eS U (FA 4 U eB U)<|eS U (LP (dA.cells (jP d.bp sgA sgC)) 1 U bP U U U)<|eS U (MV U)<|eS U (CL (nE j kA kC az cA cC bA bC slA slC drA drC ha heA heC faA faC prA prC d.bp sgA sgC (-1) hin hsl) (aP [4,5,6,7,8,9,10,11,12,13,14]) U)<|eS U (LW 3 U bP U U)<|eS U (FA 4 U eB U)<|eS U (LP (dA.cells (jP d.bp sgA sgC)) 1 U bP U U U)<|eS U (MV U)<|eS U (CL (nE j kA kC az cA cC bA bC slA slC drA drC ha heA heC faA faC prA prC d.bp sgA sgC j.Race.ar.b_ hin hsl) (aP [4,5,6,7,8,9,10,11,12,13,14]) U)<|dL U<|nJ [10,11] kr (iR ?_<|iR ?_<|rf);rotate_left 1
 ·refine NO U U [10,12,13] fun T14 G=>AL U pS fun M=>RD G 1 U<|N1 10<|NO U U [12,13] fun T16 H=>AL U pS fun N=>RD H 2 U<|N1 12<|NO U U [13] fun T18 AB=>eM U ox U<|RD AB 2 U<|N1 13<|NO U U [] fun T19 J=>o_ U ox U<|RD J 2 U<|mK<|ck jC 8 [] (mc 0 U mn) ?_;refine bK (t:=40) U (fun C=>?_) (fun C=>?_)
  ·refine cr aj 25 hQ U U ?_
   (rw [kE rfl A];(rw [iq (.inl C)];done))
  refine ck aj 8 [0,1] (mc 0 U (mc 4 U mn)) ?_;refine bK (t:=48) U (aG fun D=>?_) (aH fun D=>?_)
  ·refine cr aj 17 hQ U U ?_
   (rw [kE rfl A];(rw [iq (.inr (.inl D))];done))
  refine ck aj 10 [0,1] (mc 1 U (mc 4 U mn)) ?_;refine bY U (aG fun B=>?_) (aH fun B=>?_)
  ·refine cr aY 6 hQ U U ?_
   (rw [kE rfl A];(rw [iq (.inr (.inr B))];done))
  refine ck aY 5 [] (mc 0 U mn) ?_;refine cz (t:=59) U (fun F=>?_) (fun F=>?_)
  ·refine cr aj 20 hQ U U ?_
   (rw [kE rfl A];(rw [kG (D3 (by simpa using C) (by first|exact D|(simp only [];omega)) (by first|exact B|(simp only [];omega))) (fun q=>by rw [F] at q;exact noConfusion q.1)];done))
  refine dF aj 5 [0,1,2,3] (mc 2 U (mc 4 U (mc 0 U (mc 1 U mn)))) U<|rS (CL (wo 1 fw ff ft ((dB j.Race.ar d.bp (-1)).Lo) ((dB j.Race.ar d.bp (-1)).Hi) ((dB j.Race.ar d.bp (-1)).each) ((dB j.Race.ar d.bp (-1)).never) ((dB j.Race.ar d.bp j.Race.ar.b_).Lo) ((dB j.Race.ar d.bp j.Race.ar.b_).Hi) ((dB j.Race.ar d.bp j.Race.ar.b_).each) ((dB j.Race.ar d.bp j.Race.ar.b_).never)) (aA) U)<|aq aj 4 ?_;refine bY U (aG fun E=>?_) (aH fun E=>?_)
  ·refine cr aY 6 hQ U U ?_
   (rw [kE rfl A];(rw [qD (D3 (by simpa using C) (by first|exact D|(simp only [];omega)) (by first|exact B|(simp only [];omega))) F ((pZ (show ¬ (1:Int)=3 by decide)).2 E)];done))
  refine cr aY 9 hQ U U ?_
  (rw [kE rfl A];(rw [kG (D3 (by simpa using C) (by first|exact D|(simp only [];omega)) (by first|exact B|(simp only [];omega))) (fun q=>E ((pZ (show ¬ (1:Int)=3 by decide)).1 q.2))];done))
 refine NO U U [11,12,13] fun T14 G=>AL U pS fun M=>RD G 1 U<|N1 11<|NO U U [12,13] fun T16 H=>AL U pS fun N=>RD H 2 U<|N1 12<|NO U U [13] fun T18 AB=>o_ U ox U<|RD AB 2 U<|N1 13<|NO U U [] fun T19 J=>eM U ox U<|RD J 2 U<|mK<|ck jC 8 [] (mc 1 U mn) ?_;refine bK (t:=40) U (fun C=>?_) (fun C=>?_)
 ·refine cr aj 25 hQ U U ?_
  (rw [kE rfl A];(rw [iq (.inl C)];done))
 refine ck aj 8 [0,1] (mc 1 U (mc 4 U mn)) ?_;refine bK (t:=48) U (aG fun D=>?_) (aH fun D=>?_)
 ·refine cr aj 17 hQ U U ?_
  (rw [kE rfl A];(rw [iq (.inr (.inl D))];done))
 refine ck aj 10 [0,1] (mc 0 U (mc 4 U mn)) ?_;refine bY U (aG fun B=>?_) (aH fun B=>?_)
 ·refine cr aY 6 hQ U U ?_
  (rw [kE rfl A];(rw [iq (.inr (.inr B))];done))
 refine ck aY 5 [] (mc 1 U mn) ?_;refine cz (t:=59) U (fun F=>?_) (fun F=>?_)
 ·refine cr aj 20 hQ U U ?_
  (rw [kE rfl A];(rw [kG (D3 (by simpa using C) (by first|exact D|(simp only [];omega)) (by first|exact B|(simp only [];omega))) (fun q=>by rw [F] at q;exact noConfusion q.1)];done))
 refine dF aj 5 [0,1,2,3] (mc 2 U (mc 4 U (mc 1 U (mc 0 U mn)))) U<|rS (CL (wo 1 fw ff ft ((dB j.Race.ar d.bp (-1)).Lo) ((dB j.Race.ar d.bp (-1)).Hi) ((dB j.Race.ar d.bp (-1)).each) ((dB j.Race.ar d.bp (-1)).never) ((dB j.Race.ar d.bp j.Race.ar.b_).Lo) ((dB j.Race.ar d.bp j.Race.ar.b_).Hi) ((dB j.Race.ar d.bp j.Race.ar.b_).each) ((dB j.Race.ar d.bp j.Race.ar.b_).never)) (aA) U)<|aq aj 4 ?_;refine bY U (aG fun E=>?_) (aH fun E=>?_)
 ·refine cr aY 6 hQ U U ?_
  (rw [kE rfl A];(rw [qD (D3 (by simpa using C) (by first|exact D|(simp only [];omega)) (by first|exact B|(simp only [];omega))) F ((pZ (show ¬ (1:Int)=3 by decide)).2 E)];done))
 refine cr aY 9 hQ U U ?_
 (rw [kE rfl A];(rw [kG (D3 (by simpa using C) (by first|exact D|(simp only [];omega)) (by first|exact B|(simp only [];omega))) (fun q=>E ((pZ (show ¬ (1:Int)=3 by decide)).1 q.2))];done))
theorem Qe (hin:jy j az ha) (hw:0≤fw∧fw≤1000000) (hsl:d.bp.ab.length≤1000000):
 dh Tryz.prog 92 [(vA (dv.cells (dv.mk (rL j kA kC cA cC bA bC slA slC drA drC heA heC faA faC prA prC)))),(vA (bL.cells (bL.mk 2 fw ff ft))),(vA (aO.cells (aO.mk d.Out d.cZ d.Time (jP d.bp sgA sgC))))] ((Cl j kA az cA bA slA drA ha heA faA prA)++[(ke sgA d.bp.ab)]) (Value.int .u8 (ks j.Race.ar (bL.mk 2 fw ff ft) d)):=by
 have T:=hin.race;have P:=hin.race.line;have Y:=hin.race.g_;have Z:=hin.race.has;have AA:=hin.race.g9;have R:=hin.nf;have S:=hin.np;refine bj kr Tryz.func92 U U fun a Q hQ hN=>?_
 try dsimp only
 refine aU bT 2 U<|dV U fun V=>dV U fun W=>dV U fun X=>dF aj 7 [] (mc 0 U mn) U<|rS (CL (wj d.Out d.cZ d.Time (jP d.bp sgA sgC)) (aA) U)<|aq aj 3 ?_;refine bY U (aK fun A=>?_) (aJ fun A=>?_)
 ·refine cr aY 6 hQ U U ?_
  (rw [xR (fun q=>A q)];done)
 refine aq aY 3 ?_;refine cT bX [4,5] [] [] [0,1,2,3,4,5,6,7,8,9,10,11,12,13] [] U U U U U<|eS U (CL AH (aA) U)<|eS U (FA 0 U eB U)<|eS U (L1 (Value.int .u8 2) 1 U bP U U)<|eS U (SX (xL (vs:=(fB.cells (fB.mk (Value.func (.func 183) [].toArray [].toArray) (Value.func (.func 181) [].toArray [].toArray)))) 2 U U U P7 bP U dc U) U U)<|dL U<|bR U fun T9 O=>AL U Nc fun L=>bG (O _ _ (aB [1,2,3,4,5,6,7,8,9,10,11,12,13,14]) ?_);refine bR U fun T11 K=>eM U O7 U<|bG (K _ _ (aB [1,2,3,4,5,6,7,8,9,10,11,12,13,14]) ?_);refine eI U<|dF jC 7 [0,1,2] (mc 0 U (mc 3 U (mc 2 U mn))) U<|rS (CL (Xz j kA kC cA cC bA bC slA slC drA drC heA heC faA faC prA prC 2 fw ff ft hw) (aA) U)<|aq aj 8 ?_;refine mj bX [0,1,2,3,4,5,6,7,8,9] [10,11,12,13] [false,false,false,false,false,false,false,false,false,false] [] [(cb L 229 (fB.cells (fB.mk (Value.func (.func 183) [].toArray [].toArray) (Value.func (.func 181) [].toArray [].toArray)))),(cb X 52 (aO.cells (aO.mk d.Out d.cZ d.Time (jP d.bp sgA sgC)))),(cb W 131 (bL.cells (bL.mk 2 fw ff ft))),(cb V 76 (dv.cells (dv.mk (rL j kA kC cA cC bA bC slA slC drA drC heA heC faA faC prA prC)))),(l0 kA j.Race.ar.bQ).ro,(yS cA j.Race.ar.aC az).ro,(iU (bB aS.lf j.Race.ar.aC az)).ro,(xP bA j.Race.ar.ai).ro,(jx slA j.Race.a_).ro,(jx drA j.Race.db).ro,(CV heA j.Race.ax ha).ro,(iU (bB nm j.Race.ax ha)).ro,(vX faA j.bu).ro,(Ct prA j.bH).ro,(ke sgA d.bp.ab).ro] [] kr (aB [0,1,2,3,4,5,6,7,8,9,10,11,12,13,14]) (aB [])<|eS U (LW 3 U bP U U)<|eS U (FA 4 U eB U)<|eS U (LP (dA.cells (jP d.bp sgA sgC)) 1 U bP U U U)<|eS U (MV U)<|eS U (CL (nE j kA kC az cA cC bA bC slA slC drA drC ha heA heC faA faC prA prC d.bp sgA sgC (fw-1) hin hsl) (aP [4,5,6,7,8,9,10,11,12,13,14]) U)<|eS U (LW 3 U bP U U)<|eS U (FA 4 U eB U)<|eS U (LP (dA.cells (jP d.bp sgA sgC)) 1 U bP U U U)<|eS U (MV U)<|eS U (CL (nE j kA kC az cA cC bA bC slA slC drA drC ha heA heC faA faC prA prC d.bp sgA sgC fw hin hsl) (aP [4,5,6,7,8,9,10,11,12,13,14]) U)<|dL U<|nJ [10,11] kr (iR ?_<|iR ?_<|rf);rotate_left 1
 ·refine NO U U [10,12,13] fun T14 G=>AL U pS fun M=>RD G 1 U<|N1 10<|NO U U [12,13] fun T16 H=>AL U pS fun N=>RD H 2 U<|N1 12<|NO U U [13] fun T18 AB=>eM U ox U<|RD AB 2 U<|N1 13<|NO U U [] fun T19 J=>o_ U ox U<|RD J 2 U<|mK<|ck jC 8 [] (mc 0 U mn) ?_;refine bK (t:=40) U (fun C=>?_) (fun C=>?_)
  ·refine cr aj 25 hQ U U ?_
   (rw [kI rfl A];(rw [iq (.inl C)];done))
  refine ck aj 8 [0,1] (mc 0 U (mc 4 U mn)) ?_;refine bK (t:=48) U (aG fun D=>?_) (aH fun D=>?_)
  ·refine cr aj 17 hQ U U ?_
   (rw [kI rfl A];(rw [iq (.inr (.inl D))];done))
  refine ck aj 10 [0,1] (mc 1 U (mc 4 U mn)) ?_;refine bY U (aG fun B=>?_) (aH fun B=>?_)
  ·refine cr aY 6 hQ U U ?_
   (rw [kI rfl A];(rw [iq (.inr (.inr B))];done))
  refine ck aY 5 [] (mc 0 U mn) ?_;refine cz (t:=59) U (fun F=>?_) (fun F=>?_)
  ·refine cr aj 20 hQ U U ?_
   (rw [kI rfl A];(rw [kG (D3 (by simpa using C) (by first|exact D|(simp only [];omega)) (by first|exact B|(simp only [];omega))) (fun q=>by rw [F] at q;exact noConfusion q.1)];done))
  refine dF aj 5 [0,1,2,3] (mc 2 U (mc 4 U (mc 0 U (mc 1 U mn)))) U<|rS (CL (wo 2 fw ff ft ((dB j.Race.ar d.bp (fw-1)).Lo) ((dB j.Race.ar d.bp (fw-1)).Hi) ((dB j.Race.ar d.bp (fw-1)).each) ((dB j.Race.ar d.bp (fw-1)).never) ((dB j.Race.ar d.bp fw).Lo) ((dB j.Race.ar d.bp fw).Hi) ((dB j.Race.ar d.bp fw).each) ((dB j.Race.ar d.bp fw).never)) (aA) U)<|aq aj 4 ?_;refine bY U (aG fun E=>?_) (aH fun E=>?_)
  ·refine cr aY 6 hQ U U ?_
   (rw [kI rfl A];(rw [qD (D3 (by simpa using C) (by first|exact D|(simp only [];omega)) (by first|exact B|(simp only [];omega))) F ((pZ (show ¬ (2:Int)=3 by decide)).2 E)];done))
  refine cr aY 9 hQ U U ?_
  (rw [kI rfl A];(rw [kG (D3 (by simpa using C) (by first|exact D|(simp only [];omega)) (by first|exact B|(simp only [];omega))) (fun q=>E ((pZ (show ¬ (2:Int)=3 by decide)).1 q.2))];done))
 refine NO U U [11,12,13] fun T14 G=>AL U pS fun M=>RD G 1 U<|N1 11<|NO U U [12,13] fun T16 H=>AL U pS fun N=>RD H 2 U<|N1 12<|NO U U [13] fun T18 AB=>o_ U ox U<|RD AB 2 U<|N1 13<|NO U U [] fun T19 J=>eM U ox U<|RD J 2 U<|mK<|ck jC 8 [] (mc 1 U mn) ?_;refine bK (t:=40) U (fun C=>?_) (fun C=>?_)
 ·refine cr aj 25 hQ U U ?_
  (rw [kI rfl A];(rw [iq (.inl C)];done))
 refine ck aj 8 [0,1] (mc 1 U (mc 4 U mn)) ?_;refine bK (t:=48) U (aG fun D=>?_) (aH fun D=>?_)
 ·refine cr aj 17 hQ U U ?_
  (rw [kI rfl A];(rw [iq (.inr (.inl D))];done))
 refine ck aj 10 [0,1] (mc 0 U (mc 4 U mn)) ?_;refine bY U (aG fun B=>?_) (aH fun B=>?_)
 ·refine cr aY 6 hQ U U ?_
  (rw [kI rfl A];(rw [iq (.inr (.inr B))];done))
 refine ck aY 5 [] (mc 1 U mn) ?_;refine cz (t:=59) U (fun F=>?_) (fun F=>?_)
 ·refine cr aj 20 hQ U U ?_
  (rw [kI rfl A];(rw [kG (D3 (by simpa using C) (by first|exact D|(simp only [];omega)) (by first|exact B|(simp only [];omega))) (fun q=>by rw [F] at q;exact noConfusion q.1)];done))
 refine dF aj 5 [0,1,2,3] (mc 2 U (mc 4 U (mc 1 U (mc 0 U mn)))) U<|rS (CL (wo 2 fw ff ft ((dB j.Race.ar d.bp (fw-1)).Lo) ((dB j.Race.ar d.bp (fw-1)).Hi) ((dB j.Race.ar d.bp (fw-1)).each) ((dB j.Race.ar d.bp (fw-1)).never) ((dB j.Race.ar d.bp fw).Lo) ((dB j.Race.ar d.bp fw).Hi) ((dB j.Race.ar d.bp fw).each) ((dB j.Race.ar d.bp fw).never)) (aA) U)<|aq aj 4 ?_;refine bY U (aG fun E=>?_) (aH fun E=>?_)
 ·refine cr aY 6 hQ U U ?_
  (rw [kI rfl A];(rw [qD (D3 (by simpa using C) (by first|exact D|(simp only [];omega)) (by first|exact B|(simp only [];omega))) F ((pZ (show ¬ (2:Int)=3 by decide)).2 E)];done))
 refine cr aY 9 hQ U U ?_
 (rw [kI rfl A];(rw [kG (D3 (by simpa using C) (by first|exact D|(simp only [];omega)) (by first|exact B|(simp only [];omega))) (fun q=>E ((pZ (show ¬ (2:Int)=3 by decide)).1 q.2))];done))
theorem P4 (hin:jy j az ha) (hw:0≤fw∧fw≤1000000) (hsl:d.bp.ab.length≤1000000):
 dh Tryz.prog 92 [(vA (dv.cells (dv.mk (rL j kA kC cA cC bA bC slA slC drA drC heA heC faA faC prA prC)))),(vA (bL.cells (bL.mk 3 fw ff ft))),(vA (aO.cells (aO.mk d.Out d.cZ d.Time (jP d.bp sgA sgC))))] ((Cl j kA az cA bA slA drA ha heA faA prA)++[(ke sgA d.bp.ab)]) (Value.int .u8 (ks j.Race.ar (bL.mk 3 fw ff ft) d)):=by
 have T:=hin.race;have P:=hin.race.line;have Y:=hin.race.g_;have Z:=hin.race.has;have AA:=hin.race.g9;have R:=hin.nf;have S:=hin.np;refine bj kr Tryz.func92 U U fun a Q hQ hN=>?_
 try dsimp only
 refine aU bT 2 U<|dV U fun V=>dV U fun W=>dV U fun X=>dF aj 7 [] (mc 0 U mn) U<|rS (CL (wj d.Out d.cZ d.Time (jP d.bp sgA sgC)) (aA) U)<|aq aj 3 ?_;refine bY U (aK fun A=>?_) (aJ fun A=>?_)
 ·refine cr aY 6 hQ U U ?_
  (rw [xR (fun q=>A q)];done)
 refine aq aY 3 ?_;refine cT bX [4,5] [] [] [0,1,2,3,4,5,6,7,8,9,10,11,12,13] [] U U U U U<|eS U (CL AH (aA) U)<|eS U (FA 0 U eB U)<|eS U (L1 (Value.int .u8 3) 1 U bP U U)<|eS U (SX (xL (vs:=(fB.cells (fB.mk (Value.func (.func 184) [].toArray [].toArray) (Value.func (.func 185) [].toArray [].toArray)))) 3 U U U P7 bP U dc U) U U)<|dL U<|bR U fun T9 O=>AL U Nc fun L=>bG (O _ _ (aB [1,2,3,4,5,6,7,8,9,10,11,12,13,14]) ?_);refine bR U fun T11 K=>eM U O7 U<|bG (K _ _ (aB [1,2,3,4,5,6,7,8,9,10,11,12,13,14]) ?_);refine eI U<|dF jC 7 [0,1,2] (mc 0 U (mc 3 U (mc 2 U mn))) U<|rS (CL (Y0 j kA kC cA cC bA bC slA slC drA drC heA heC faA faC prA prC 3 fw ff ft) (aA) U)<|aq aj 8 ?_;refine mj bX [0,1,2,3,4,5,6,7,8,9] [10,11,12,13] [false,false,false,false,false,false,false,false,false,false] [] [(cb L 229 (fB.cells (fB.mk (Value.func (.func 184) [].toArray [].toArray) (Value.func (.func 185) [].toArray [].toArray)))),(cb X 52 (aO.cells (aO.mk d.Out d.cZ d.Time (jP d.bp sgA sgC)))),(cb W 131 (bL.cells (bL.mk 3 fw ff ft))),(cb V 76 (dv.cells (dv.mk (rL j kA kC cA cC bA bC slA slC drA drC heA heC faA faC prA prC)))),(l0 kA j.Race.ar.bQ).ro,(yS cA j.Race.ar.aC az).ro,(iU (bB aS.lf j.Race.ar.aC az)).ro,(xP bA j.Race.ar.ai).ro,(jx slA j.Race.a_).ro,(jx drA j.Race.db).ro,(CV heA j.Race.ax ha).ro,(iU (bB nm j.Race.ax ha)).ro,(vX faA j.bu).ro,(Ct prA j.bH).ro,(ke sgA d.bp.ab).ro] [] kr (aB [0,1,2,3,4,5,6,7,8,9,10,11,12,13,14]) (aB [])<|eS U (LW 3 U bP U U)<|eS U (FA 4 U eB U)<|eS U (LP (dA.cells (jP d.bp sgA sgC)) 1 U bP U U U)<|eS U (MV U)<|eS U (CL (nE j kA kC az cA cC bA bC slA slC drA drC ha heA heC faA faC prA prC d.bp sgA sgC fw hin hsl) (aP [4,5,6,7,8,9,10,11,12,13,14]) U)<|eS U (LW 3 U bP U U)<|eS U (FA 4 U eB U)<|eS U (LP (dA.cells (jP d.bp sgA sgC)) 1 U bP U U U)<|eS U (MV U)<|eS U (CL (nE j kA kC az cA cC bA bC slA slC drA drC ha heA heC faA faC prA prC d.bp sgA sgC fw hin hsl) (aP [4,5,6,7,8,9,10,11,12,13,14]) U)<|dL U<|nJ [10,11] kr (iR ?_<|iR ?_<|rf);rotate_left 1
 ·refine NO U U [10,12,13] fun T14 G=>AL U pS fun M=>RD G 1 U<|N1 10<|NO U U [12,13] fun T16 H=>AL U pS fun N=>RD H 2 U<|N1 12<|NO U U [13] fun T18 AB=>eM U ox U<|RD AB 2 U<|N1 13<|NO U U [] fun T19 J=>o_ U ox U<|RD J 2 U<|mK<|ck jC 8 [] (mc 0 U mn) ?_;refine bK (t:=40) U (fun C=>?_) (fun C=>?_)
  ·refine cr aj 25 hQ U U ?_
   (rw [kJ rfl A];(rw [iq (.inl C)];done))
  refine ck aj 8 [0,1] (mc 0 U (mc 4 U mn)) ?_;refine bK (t:=48) U (aG fun D=>?_) (aH fun D=>?_)
  ·refine cr aj 17 hQ U U ?_
   (rw [kJ rfl A];(rw [iq (.inr (.inl D))];done))
  refine ck aj 10 [0,1] (mc 1 U (mc 4 U mn)) ?_;refine bY U (aG fun B=>?_) (aH fun B=>?_)
  ·refine cr aY 6 hQ U U ?_
   (rw [kJ rfl A];(rw [iq (.inr (.inr B))];done))
  refine ck aY 5 [] (mc 0 U mn) ?_;refine cz (t:=59) U (fun F=>?_) (fun F=>?_)
  ·refine cr aj 20 hQ U U ?_
   (rw [kJ rfl A];(rw [kG (D3 (by simpa using C) (by first|exact D|(simp only [];omega)) (by first|exact B|(simp only [];omega))) (fun q=>by rw [F] at q;exact noConfusion q.1)];done))
  refine dF aj 5 [0,1,2,3] (mc 2 U (mc 4 U (mc 0 U (mc 1 U mn)))) U<|rS (CL (JL 3 fw ff ft ((dB j.Race.ar d.bp fw).Lo) ((dB j.Race.ar d.bp fw).Hi) ((dB j.Race.ar d.bp fw).each) ((dB j.Race.ar d.bp fw).never) ((dB j.Race.ar d.bp fw).Lo) ((dB j.Race.ar d.bp fw).Hi) ((dB j.Race.ar d.bp fw).each) ((dB j.Race.ar d.bp fw).never)) (aA) U)<|aq aj 4 ?_;refine bY U (aG fun E=>?_) (aH fun E=>?_)
  ·refine cr aY 6 hQ U U ?_
   (rw [kJ rfl A];(rw [qD (D3 (by simpa using C) (by first|exact D|(simp only [];omega)) (by first|exact B|(simp only [];omega))) F ((Dd rfl).2 E)];done))
  refine cr aY 9 hQ U U ?_
  (rw [kJ rfl A];(rw [kG (D3 (by simpa using C) (by first|exact D|(simp only [];omega)) (by first|exact B|(simp only [];omega))) (fun q=>E ((Dd rfl).1 q.2))];done))
 refine NO U U [11,12,13] fun T14 G=>AL U pS fun M=>RD G 1 U<|N1 11<|NO U U [12,13] fun T16 H=>AL U pS fun N=>RD H 2 U<|N1 12<|NO U U [13] fun T18 AB=>o_ U ox U<|RD AB 2 U<|N1 13<|NO U U [] fun T19 J=>eM U ox U<|RD J 2 U<|mK<|ck jC 8 [] (mc 1 U mn) ?_;refine bK (t:=40) U (fun C=>?_) (fun C=>?_)
 ·refine cr aj 25 hQ U U ?_
  (rw [kJ rfl A];(rw [iq (.inl C)];done))
 refine ck aj 8 [0,1] (mc 1 U (mc 4 U mn)) ?_;refine bK (t:=48) U (aG fun D=>?_) (aH fun D=>?_)
 ·refine cr aj 17 hQ U U ?_
  (rw [kJ rfl A];(rw [iq (.inr (.inl D))];done))
 refine ck aj 10 [0,1] (mc 0 U (mc 4 U mn)) ?_;refine bY U (aG fun B=>?_) (aH fun B=>?_)
 ·refine cr aY 6 hQ U U ?_
  (rw [kJ rfl A];(rw [iq (.inr (.inr B))];done))
 refine ck aY 5 [] (mc 1 U mn) ?_;refine cz (t:=59) U (fun F=>?_) (fun F=>?_)
 ·refine cr aj 20 hQ U U ?_
  (rw [kJ rfl A];(rw [kG (D3 (by simpa using C) (by first|exact D|(simp only [];omega)) (by first|exact B|(simp only [];omega))) (fun q=>by rw [F] at q;exact noConfusion q.1)];done))
 refine dF aj 5 [0,1,2,3] (mc 2 U (mc 4 U (mc 1 U (mc 0 U mn)))) U<|rS (CL (JL 3 fw ff ft ((dB j.Race.ar d.bp fw).Lo) ((dB j.Race.ar d.bp fw).Hi) ((dB j.Race.ar d.bp fw).each) ((dB j.Race.ar d.bp fw).never) ((dB j.Race.ar d.bp fw).Lo) ((dB j.Race.ar d.bp fw).Hi) ((dB j.Race.ar d.bp fw).each) ((dB j.Race.ar d.bp fw).never)) (aA) U)<|aq aj 4 ?_;refine bY U (aG fun E=>?_) (aH fun E=>?_)
 ·refine cr aY 6 hQ U U ?_
  (rw [kJ rfl A];(rw [qD (D3 (by simpa using C) (by first|exact D|(simp only [];omega)) (by first|exact B|(simp only [];omega))) F ((Dd rfl).2 E)];done))
 refine cr aY 9 hQ U U ?_
 (rw [kJ rfl A];(rw [kG (D3 (by simpa using C) (by first|exact D|(simp only [];omega)) (by first|exact B|(simp only [];omega))) (fun q=>E ((Dd rfl).1 q.2))];done))
theorem Jv (f:bL) (d:ak) (sgA:OA) (sgC:Nat) (hin:jy j az ha) (hk:1≤f.Kind∧f.Kind≤3) (hw:0≤f.jf∧f.jf≤1000000) (hsl:d.bp.ab.length≤1000000):
 dh Tryz.prog 92 [(vA (dv.cells (dv.mk (rL j kA kC cA cC bA bC slA slC drA drC heA heC faA faC prA prC)))),(vA (bL.cells f)),(vA (aO.cells (aO.mk d.Out d.cZ d.Time (jP d.bp sgA sgC))))] ((Cl j kA az cA bA slA drA ha heA faA prA)++[(ke sgA d.bp.ab)]) (Value.int .u8 (ks j.Race.ar f d)):=by
 obtain ⟨fk,fw,ff,ft⟩:=f;have A:fk=1∨fk=2∨fk=3:=by have:=hk;simp only at this;omega
 rcases A with rfl|rfl|rfl
 ·exact M_ j kA kC az cA cC bA bC slA slC drA drC ha heA heC faA faC prA prC fw ff ft d sgA sgC hin hw hsl
 ·exact Qe j kA kC az cA cC bA bC slA slC drA drC ha heA heC faA faC prA prC fw ff ft d sgA sgC hin hw hsl
 ·exact P4 j kA kC az cA cC bA bC slA slC drA drC ha heA heC faA faC prA prC fw ff ft d sgA sgC hin hw hsl
end
section
open Go.RowKit
variable (j:dy) (kA:OA) (kC:Nat) (az:List RA) (cA:OA) (cC:Nat) (bA:OA) (bC:Nat) (slA:OA) (slC:Nat) (drA:OA) (drC:Nat) (ha:List cq) (heA:OA) (heC:Nat) (faA:OA) (faC:Nat) (prA:OA) (prC:Nat) (i:Int) (p:cG)
theorem VV (hin:jy j az ha) (hok:fU j=0) (hp:∃ i:Nat,j.bH[i]? =some p):
 dh Tryz.prog 91 [(vA (dv.cells (dv.mk (rL j kA kC cA cC bA bC slA slC drA drC heA heC faA faC prA prC)))),(vA (cG.cells p))] (Cl j kA az cA bA slA drA ha heA faA prA) (Value.int .u8 (vb j p)):=by
 have M:=hin.race;have T:=hin.race.line;have e:=hin.race.g_;have f:=hin.race.has;have c:=hin.race.g9;have X:=hin.nf;have a:=hin.np;have L:=(fI hok).1;have K:=(fI hok).2;have S:=(dG L).1;have W:=(dG L).2;have R:=(er S).2.head;unfold fg at R;obtain ⟨pi,AA⟩:=hp;have G:=K.iL pi p AA;have m:=G.fE;have V:=G.kS;simp only [mN] at V;have k:=G.fault;have g:=K.min_;refine bj kr Tryz.func91 U U fun t Q hQ hN=>?_
 try dsimp only
 refine aU bT 2 U<|dV U fun o=>dV U fun q=>aq aj 4 ?_;refine cT bX [20,21] [] [] [0,1,2,3,4,5,6,7,8,9,10,11] [] U U U U U<|eS U (LW 1 U bP U U)<|eS U (FA 0 U eB U)<|eS U (FA 0 U eB U)<|eS U (FA 10 U eB U)<|eS U (L1 (vS heA j.Race.ax.length heC) 1 U bP U U)<|eS U (FA 2 U eB U)<|eS U (L1 (vI p.jW) 0 U bP U U) ?_;obtain ⟨ht,C⟩:=ay j.Race.ax ((p.jW).toNat) I;obtain ⟨A,B⟩:=ay ha ((p.jW).toNat) I;have J:(zipWith di j.Race.ax ha)[(p.jW).toNat]? =some (di ht A):=cE C B;refine eS U (IA ((p.jW).toNat) U (av 8 U) my dc I I)<|eS U (gF ((p.jW).toNat) 0 (vS A.1.1 ht.length A.1.2) U bP (av 8 U) J U dc U)<|eS U (FA 1 U eB U)<|eS U (L1 (vI p.ji) 0 U bP U U) ?_;have AB:=M.fE _ _ _ C B;have Y:=AB.mE;have Z:=(W.fE ht (aF C)).1;obtain ⟨d,hd⟩:=ay ht ((p.ji).toNat) I;obtain ⟨da,H⟩:=ay A.2 ((p.ji).toNat) I;have P:(zipWith ak.cells ht A.2)[(p.ji).toNat]? =some (ak.cells d da):=cE hd H;refine eS U (IA ((p.ji).toNat) U (show ig _ (mT A.1.1 ht A.2).holds from (ct 9 U (bq C B bZ))) rK dc I I)<|eS U (p9 ((((p.ji).toNat)*7)+4) U (show ig _ (mT A.1.1 ht A.2).holds from (ct 9 U (bq C B bZ))) (e6 I dc) eB U) ?_;have D:=qW (j:=j) (p:=p) C hd;have n:=AB.sig d (aF hd);have h:=S6 (l:=j.Race.ar) (r:=d.bp) (b:=j.Race.ar.b_) I;refine eS U (k8 ((p.ji).toNat) 4 (dA.cells (dA.mk d.bp.Start d.bp.hP (aX.mk da.1 d.bp.ab.length da.2))) U bP (show ig _ (mT A.1.1 ht A.2).holds from (ct 9 U (bq C B bZ))) P U dc U U)<|eS U (FA 0 U eB U)<|eS U (FA 0 U eB U)<|eS U (FA 0 U eB U)<|eS U (FA 4 U eB U)<|eS U (L1 (vI j.Race.ar.b_) 1 U bP U U)<|eS U (CL (nE j kA kC az cA cC bA bC slA slC drA drC ha heA heC faA faC prA prC d.bp da.1 da.2 j.Race.ar.b_ hin asm) (lZ [2,3,4,5,6,7,8,9,10,11]<|aw (show ig _ (ke da.1 d.bp.ab).holds from (ct 9 U (bq C B (dk _ (bq hd H (by simp [ak.lf]))))))<|aA) U)<|dL U<|bR U fun T5 N=>AL U pS fun s=>bG (N _ _ (aB [1,2,3,4,5,6,7,8,9,10,11,12]) ?_);refine bR U fun T7 O=>eM U ox U<|bG (O _ _ (aB [1,2,3,4,5,6,7,8,9,10,11,12]) ?_);refine eI U<|dF jC 6 [] (mc 2 U mn) U<|rS (BI U (nt ⟨I,I⟩))<|ck aj 18 [0,1] (mc 1 U (mc 0 U mn)) ?_;refine bY U (aG fun E=>?_) (aH fun E=>?_)
 ·refine cr aY 6 hQ U U ?_
  (rw [Vs D E];done)
 refine ck aY 13 [0,1] (mc 1 U (mc 0 U mn)) ?_;refine bY U (aG fun F=>?_) (aH fun F=>?_)
 ·refine cr aY 6 hQ U U ?_
  (rw [VM D E F];done)
 refine cr aY 9 hQ U U ?_
 (rw [Vq D E F];done)
theorem B2 (hin:jy j az ha) (hok:fU j=0) (hp:∃ i:Nat,j.bH[i]? =some p):
 dh Tryz.prog 48 [(vA (dv.cells (dv.mk (rL j kA kC cA cC bA bC slA slC drA drC heA heC faA faC prA prC)))),(vI i),(vA (cG.cells p))] (Cl j kA az cA bA slA drA ha heA faA prA) (vB (nT j p)):=by
 have N:=hin.race;have T:=hin.race.line;have e:=hin.race.g_;have g:=hin.race.has;have a:=hin.race.g9;have W:=hin.nf;have Z:=hin.np;have L:=(fI hok).1;have E:=(fI hok).2;have S:=(dG L).1;have V:=(dG L).2;have R:=(er S).2.head;unfold fg at R;obtain ⟨pi,M⟩:=hp;have F:=E.iL pi p M;have l:=F.fE;have AA:=F.kS;simp only [mN] at AA;have k:=F.fault;have h:=E.min_;refine bj kr Tryz.func48 U U fun r Q hQ hN=>?_
 try dsimp only
 refine aU bT 2 U<|dV U fun n=>dV U fun o=>aU aj 4 U<|cL bX 29 kr<|jY 2 [0,1] (mc 1 U (mc 0 U mn)) U<|dS (CL (VV j kA kC az cA cC bA bC slA slC drA drC ha heA heC faA faC prA prC p hin hok (by exact ⟨pi,M⟩)) (aP [2,3,4,5,6,7,8,9,10,11]) U)<|dS (BI U nx)<|dP 1 [] mn ?_;refine iM (t:=11) U (aJ fun D=>?_) (aK fun D=>?_)
 ·refine iQ 17 U<|iQ 2 U<|iQ 5 U<|cy<|cr aj 3 hQ U U ?_
  (rw [Om D];done)
 refine dP 6 [0,0,1] (mc 1 U (mc 0 U mn)) ?_;obtain ⟨f,hf⟩:=ay j.bu ((p.lk).toNat) I;have P:=bx bL.cells hf;refine dS (IA ((p.lk).toNat) U (av 10 U) Ld dc I I)<|dS (k8 ((p.lk).toNat) 0 (bL.cells f) U bP (av 10 U) P U dc U U)<|dP 6 [0,1] (mc 1 U (mc 0 U mn)) ?_;obtain ⟨ht,C⟩:=ay j.Race.ax ((p.jW).toNat) I;obtain ⟨A,B⟩:=ay ha ((p.jW).toNat) I;have K:(zipWith di j.Race.ax ha)[(p.jW).toNat]? =some (di ht A):=cE C B;refine dS (IA ((p.jW).toNat) U (av 8 U) my dc I I)<|dS (gF ((p.jW).toNat) 0 (vS A.1.1 ht.length A.1.2) U bP (av 8 U) K U dc U)<|dP 1 [] mn ?_;have J:=N.fE _ _ _ C B;have X:=J.mE;have Y:=(V.fE ht (aF C)).1;refine dP 1 [] (mc 0 U mn) ?_;obtain ⟨d,hd⟩:=ay ht ((p.ji).toNat) I;obtain ⟨da,H⟩:=ay A.2 ((p.ji).toNat) I;have O:(zipWith ak.cells ht A.2)[(p.ji).toNat]? =some (ak.cells d da):=cE hd H;refine dS (IA ((p.ji).toNat) U (show ig _ (mT A.1.1 ht A.2).holds from (ct 9 U (bq C B bZ))) rK dc I I) ?_;have G:=qW (j:=j) (p:=p) C hd;have m:=J.sig d (aF hd);have AB:=E.fault f (aF hf);have c:0≤f.jf∧f.jf≤1000000:=by have b:=AB.2.2;split at b<;>omega
 refine dS (k8 ((p.ji).toNat) 0 (aO.cells (aO.mk d.Out d.cZ d.Time (dA.mk d.bp.Start d.bp.hP (aX.mk da.1 d.bp.ab.length da.2)))) U bP (show ig _ (mT A.1.1 ht A.2).holds from (ct 9 U (bq C B bZ))) O U dc U U)<|dS (CL (Jv j kA kC az cA cC bA bC slA slC drA drC ha heA heC faA faC prA prC f d da.1 da.2 hin (by exact AB.1) asm asm) (lZ [2,3,4,5,6,7,8,9,10,11]<|aw (show ig _ (ke da.1 d.bp.ab).holds from (ct 9 U (bq C B (dk _ (bq hd H (by simp [ak.lf]))))))<|aA) U)<|dS (BI U nx)<|iQ 2 U<|cy<|cr aj 3 hQ U U ?_
 (rw [M6 G hf (fun q=>D q)];done)
end
section
open Go.RowKit
variable (j:dy) (kA:OA) (kC:Nat) (az:List RA) (cA:OA) (cC:Nat) (bA:OA) (bC:Nat) (slA:OA) (slC:Nat) (drA:OA) (drC:Nat) (ha:List cq) (heA:OA) (heC:Nat) (faA:OA) (faC:Nat) (prA:OA) (prC:Nat)
theorem PV (hin:jy j az ha):
 dh Tryz.prog 56 [(vA (km.cells (rL j kA kC cA cC bA bC slA slC drA drC heA heC faA faC prA prC)))] ((rd hU 3 2 fX)::(Cl j kA az cA bA slA drA ha heA faA prA)) (vI (fU j)):=by
 have f:=hin.race;have A1:=hin.race.line;have C0:=hin.race.g_;have C1:=hin.race.has;have Bv:=hin.race.g9;have A9:=hin.nf;have Bt:=hin.np;refine bj kr Tryz.func56 U U fun w0 Q hQ hN=>?_
 try dsimp only
 refine aU bT 2 U<|dV U fun g=>aU aj 3 U<|DG U<|aU bT 4 U<|rS (LP (cf.cells (pN j.Race kA kC cA cC bA bC slA slC drA drC heA heC)) 0 U bP U U U)<|rS (CL (FV j.Race kA kC az cA cC bA bC slA slC drA drC ha heA heC asm) (aP [1,2,3,4,5,6,7,8,9]) U)<|aq aj 9 ?_;refine bY U (aK fun A=>?_) (aJ fun A=>?_)
 ·exact cr aY 7 hQ U U<|cI (CR A).symm
 refine ck aY 6 [] (mc 0 U mn) ?_;refine rS (FU U) ?_;refine cX (Tp j.bu faA faC (Value.func (.func 104) [].toArray [(vP g)].toArray) (fun u8 u9=>(decide (¬ ql j.Race.ar.b_ u9))) (iU [(cb g 36 (km.cells (rL j kA kC cA cC bA bC slA slC drA drC heA heC faA faC prA prC)))]) (by intro u8 u9 A2;exact kT (fi:=[]) (ca:=[(vP g)]) (jJ (Nk u8 u9 j kA kC cA cC bA bC slA slC drA drC heA heC faA faC prA prC g (by (obtain ⟨i_,_,Ap⟩:=A2;exact hin.kind _ (aF Ap)))) (aP [0]))) asm) (gM 10 rfl rfl<|aw (jO (aP [0]))<|aA) rfl fun A8 B3=>?_;obtain ⟨B9,Cp⟩:=A8
 try dsimp only
 refine ck aj 11 [] (mc 1 U mn) ?_;refine bK (t:=25) U (aG fun u=>?_) (aH fun u=>?_)
 ·exact cr aj 33 hQ U U<|cI (kK A (fun q=>by have O:=q.nf;have K:=q.min_;have P:=q.vN;have R:=q.np;omega)).symm
 refine aq aj 5 ?_;refine bK (t:=30) U (aG fun M=>?_) (aH fun M=>?_)
 ·exact cr aj 28 hQ U U<|cI (kK A (Hs M)).symm
 refine ck aj 2 [] (mc 1 U mn) ?_;refine dC (xs:=[.tmp 32]) (cs:=[(vI j.ju)]) U cO jU U U U U (by simp [Value.cells]) U U fun h=>?_;refine rS (CL (dh.eq (j1 0 60 ([j.ju]) (some ⟨h,0,none⟩) 1 (by (simp;done))) cp) (aw (aM 0 U U (by simp [br]) U)<|aA) U) ?_;refine aq aj 3 ?_;refine bK (t:=37) U (aK fun w=>?_) (aJ fun w=>?_)
 ·exact cr aj 21 hQ U U<|cI (kK A (fun q=>by have O:=q.nf;have K:=q.min_;have P:=q.vN;have R:=q.np;omega)).symm
 refine ck aj 2 [] (mc 2 U mn) ?_;refine dC (xs:=[.tmp 39]) (cs:=[(vI j.LS)]) U cO jU U U U U (by simp [Value.cells]) U U fun l=>?_;refine rS (CL (dh.eq (j1 0 100000 ([j.LS]) (some ⟨l,0,none⟩) 1 (by (simp;done))) cp) (aw (aM 0 U U (by simp [br]) U)<|aA) U) ?_;refine aq aj 3 ?_;refine bK (t:=44) U (aK fun x=>?_) (aJ fun x=>?_)
 ·exact cr aj 14 hQ U U<|cI (kK A (fun q=>by have O:=q.nf;have K:=q.min_;have P:=q.vN;have R:=q.np;omega)).symm
 refine ck aj 7 [] (mc 3 U mn) ?_;refine bY U (aG fun y=>?_) (aH fun y=>?_)
 ·exact cr aY 6 hQ U U<|cI (kK A (fun q=>by have O:=q.nf;have K:=q.min_;have P:=q.vN;have R:=q.np;omega)).symm
 refine ck aY 25 [] (mc 3 U mn) ?_;have J:(0≤j.bH.length)∧(qg j 0):=by exact ⟨c4 _,Ba⟩
 refine bw (ι:={z:Nat // (z≤j.bH.length)∧(qg j z)}) [1,5,51,52] [2,3,4,5,6,7,8,9,10,11,12,13,14] U U (fun z=>[(6,(vI (rn j z.1))),(53,(vI (z.1:Int)))]) (fun z=>[]) (fun _=>rfl) (fun _=>rfl) (fun z=>j.bH.length-z.1) ⟨0,J⟩ (aN U) (aB [2,3,4,5,6,7,8,9,10,11,12,13,14]) ?_;clear J;rintro ⟨k,⟨B,C⟩⟩ J28 L
 try dsimp only
 refine aq bT 6 ?_;refine bE U (aH fun v=>?_) (aG fun v=>?_)
 ·exact aU aY 1 U<|cr fz 9 hQ U U<|cI (AD A ⟨I,Gn M,I,I,I,fun i p hi=>C i p (by have:=(aT.1 hi).1;omega) hi⟩).symm
 refine aq aY 6 ?_;obtain ⟨p,hp⟩:=ay j.bH k I;have A3:=bx cG.cells hp;refine rS (IA k U (av 12 U) N4 dc I I)<|rS (k8 k 0 (cG.cells p) U bP (av 12 U) A3 U dc U U)<|AL U MJ fun Ci=>eM U Ok U<|aq aj 5 ?_;have A0:=Sd C B;refine ck aj 3 [] (mc 0 U mn) ?_;refine dC (xs:=[.tmp 60]) (cs:=[(vI p.Id)]) U cO jU U U U U (by simp [Value.cells]) U U fun m=>?_;refine rS (CL (dh.eq (j1 ((rn j k)+1) 9999 ([p.Id]) (some ⟨m,0,none⟩) 1 (by (simp;done))) cp) (aw (aM 0 U U (by simp [br]) U)<|aA) U) ?_;refine aq aj 1 ?_;refine cz (t:=63) U (aH fun T=>?_) (aG fun T=>?_)
 ·exact aU aj 57 U<|cr fz 9 hQ U U<|cI (kK A (uu hp (fun q=>by have q0:=ze q B;have O:=q.id;have K:=q.kS;have P:=q.fE;have R:=q.fault;simp only [mN] at K;omega))).symm
 refine ck aj 7 [0,1] (mc 3 U (mc 1 U mn)) ?_;refine dC (xs:=[.tmp 70]) (cs:=[(vI p.ji)]) U cO jU U U U U (by simp [Value.cells]) U U fun n=>?_;refine rS (CL (dh.eq (j1 0 ((j.Race.a_.length:Int)-1) ([p.ji]) (some ⟨n,0,none⟩) 1 (by (simp;done))) cp) (aw (aM 0 U U (by simp [br]) U)<|aA) U) ?_;refine aq aj 2 ?_;refine cz (t:=74) U (aH fun AA=>?_) (aG fun AA=>?_)
 ·exact aU aj 46 U<|cr fz 9 hQ U U<|cI (kK A (uu hp (fun q=>by have q0:=ze q B;have O:=q.id;have K:=q.kS;have P:=q.fE;have R:=q.fault;simp only [mN] at K;omega))).symm
 refine ck aj 7 [0,1] (mc 4 U (mc 2 U mn)) ?_;refine dC (xs:=[.tmp 81]) (cs:=[(vI p.jW)]) U cO jU U U U U (by simp [Value.cells]) U U fun o=>?_;refine rS (CL (dh.eq (j1 0 ((j.Race.ax.length:Int)-1) ([p.jW]) (some ⟨o,0,none⟩) 1 (by (simp;done))) cp) (aw (aM 0 U U (by simp [br]) U)<|aA) U) ?_;refine aq aj 2 ?_;refine cz (t:=85) U (aH fun V=>?_) (aG fun V=>?_)
 ·exact aU aj 35 U<|cr fz 9 hQ U U<|cI (kK A (uu hp (fun q=>by have q0:=ze q B;have O:=q.id;have K:=q.kS;have P:=q.fE;have R:=q.fault;simp only [mN] at K;omega))).symm
 refine ck aj 6 [0,1] (mc 5 U (mc 3 U mn)) ?_;refine dC (xs:=[.tmp 91]) (cs:=[(vI p.lk)]) U cO jU U U U U (by simp [Value.cells]) U U fun r=>?_;refine rS (CL (dh.eq (j1 0 ((j.bu.length:Int)-1) ([p.lk]) (some ⟨r,0,none⟩) 1 (by (simp;done))) cp) (aw (aM 0 U U (by simp [br]) U)<|aA) U) ?_;refine aq aj 10 ?_;refine bE U (aH fun N=>?_) (aG fun N=>?_)
 ·refine aq aY 9 ?_;refine bE U (aJ fun E=>?_) (aK fun E=>?_)
  ·refine ck aY 13 [] (mc 4 U mn) ?_;have a:(vI (rn j (k+1)))=(vI p.Id):=by exact cI (py hp)
   have b:(vI (((k+1):Nat):Int))=(vI ((k:Int)+1)):=by exact cI I
   refine aL (L ⟨(k+1),(by exact absurd E N)⟩ _ _ _ U os (cx 4<|aQ U a<|aQ U b<|cV.nil _) (aB [5,6,7,8,9,10,11,12,13,14,15,16,17]))
  exact aU aY 6 U<|cr fz 9 hQ U U<|cI (kK A (uu hp (fun q=>by have q0:=ze q B;have O:=q.id;have K:=q.kS;have P:=q.fE;have R:=q.fault;simp only [mN] at K;omega))).symm
 refine aq aY 1 ?_;refine cT bX [11,12] [] [] [0,1,2,3,4,5,6,7,8,9,10,11,12,13,14,15,16,17] [] U U U U U<|eS U (FA 0 U eB U)<|eS U (FA 10 U eB U)<|eS U (L1 (vS heA j.Race.ax.length heC) 6 U bP U U)<|eS U (FA 2 U eB U)<|eS U (L1 (vI p.jW) 4 U bP U U) ?_;have A4:=(dG A).2;obtain ⟨ht,H⟩:=ay j.Race.ax ((p.jW).toNat) I;obtain ⟨D,G⟩:=ay ha ((p.jW).toNat) I;have e:(zipWith di j.Race.ax ha)[(p.jW).toNat]? =some (di ht D):=cE H G;refine eS U (IA ((p.jW).toNat) U (av 14 U) my dc I I)<|eS U (gF ((p.jW).toNat) 0 (vS D.1.1 ht.length D.1.2) U bP (av 14 U) e U dc U)<|eS U (FA 1 U eB U) ?_;have c:=f.fE _ _ _ H G;have BD:=c.mE;have BP:=(A4.fE ht (aF H)).1;refine eS U (L1 (vI p.ji) 4 U bP U U) ?_;obtain ⟨d,hd⟩:=ay ht ((p.ji).toNat) I;obtain ⟨da,AC⟩:=ay D.2 ((p.ji).toNat) I;have AO:(zipWith ak.cells ht D.2)[(p.ji).toNat]? =some (ak.cells d da):=cE hd AC;refine eS U (IA ((p.ji).toNat) U (show ig _ (mT D.1.1 ht D.2).holds from (ct 15 U (bq H G bZ))) rK dc I I) ?_;have AB:=qW (j:=j) (p:=p) H hd;have C2:=c.sig d (aF hd);refine eS U (k8 ((p.ji).toNat) 0 (aO.cells (aO.mk d.Out d.cZ d.Time (dA.mk d.bp.Start d.bp.hP (aX.mk da.1 d.bp.ab.length da.2)))) U bP (show ig _ (mT D.1.1 ht D.2).holds from (ct 15 U (bq H G bZ))) AO U dc U U)<|dL U<|bR U fun T43 W=>AL U Mq fun Ck=>bG (W _ _ (aB [1,2,3,4,5,6,7,8,9,10,11,12,13,14,15,16,17,18]) ?_);refine bR U fun T45 X=>eM U GD U<|bG (X _ _ (aB [1,2,3,4,5,6,7,8,9,10,11,12,13,14,15,16,17,18]) ?_);refine eI U<|dF jC 3 [] (mc 0 U mn) U<|rS (CL (wj d.Out d.cZ d.Time (dA.mk d.bp.Start d.bp.hP (aX.mk da.1 d.bp.ab.length da.2))) (aA) U)<|aq aj 1 ?_;refine cz (t:=109) U (aH fun F=>?_) (aG fun F=>?_)
 ·exact aU aj 25 rfl<|cr fz 9 hQ rfl rfl<|cI (kK A (uu hp (fun q=>by obtain ⟨d2,S,r1,r2⟩:=q.nj;rw [AB] at S;cases S;first|exact F r1|omega))).symm
 refine ck aj 5 [0,1] (mc 0 U (mc 5 U mn)) ?_;refine dC (xs:=[.tmp 114]) (cs:=[(vI p.At)]) U cO jU U U U U (by simp [Value.cells]) U U fun s=>?_;refine rS (CL (dh.eq (j1 d.bp.Start 86400000 ([p.At]) (some ⟨s,0,none⟩) 1 (by (simp;done))) cp) (aw (aM 0 U U (by simp [br]) U)<|aA) U) ?_;refine aq aj 11 ?_;refine bE U (aJ fun E=>?_) (aK fun E=>?_)
 ·refine ck aY 13 [] (mc 6 U mn) ?_;have Y:(vI (rn j (k+1)))=(vI p.Id):=by exact cI (py hp)
  have Z:(vI (((k+1):Nat):Int))=(vI ((k:Int)+1)):=by exact cI I
  refine aL (L ⟨(k+1),(by exact ⟨I,vp C hp (RN hp T A0.1 AA V N AB F E)⟩)⟩ _ _ _ U os (cx 4<|aQ U Y<|aQ U Z<|cV.nil _) (aB [7,8,9,10,11,12,13,14,15,16,17,18,19]))
 exact aU aY 6 rfl<|cr fz 9 hQ rfl rfl<|cI (kK A (uu hp (fun q=>by obtain ⟨d2,S,r1,r2⟩:=q.nj;rw [AB] at S;cases S;first|exact F r1|omega))).symm
theorem Dm (hin:jy j az ha):
 dh Tryz.prog 25 [(vA (km.cells (rL j kA kC cA cC bA bC slA slC drA drC heA heC faA faC prA prC)))] ((rd hU 3 2 fX)::(Cl j kA az cA bA slA drA ha heA faA prA)) (vT [(vA (dv.cells (dv.mk (rL j kA kC cA cC bA bC slA slC drA drC heA heC faA faC prA prC)))),(vI (fU j))]):=by
 refine bj kr Tryz.func25 U U fun C Q hQ hN=>?_
 try dsimp only
 refine aU bT 2 U<|dV U fun A=>AL U RQ fun B=>aU aj 4 U<|cL bX 4 kr<|jY 1 [] (mc 1 U mn) U<|dS (SX (aW (xs:=[(0,.tmp 4)]) (cs:=(dv.cells (dv.mk (rL j kA kC cA cC bA bC slA slC drA drC heA heC faA faC prA prC)))) U U (aV Z0 U)) U U)<|jY 1 [] (mc 1 U mn) U<|dS (CL (PV j kA kC az cA cC bA bC slA slC drA drC ha heA heC faA faC prA prC hin) (aP [2,3,4,5,6,7,8,9,10,11,12]) U)<|cy<|eM U SI U<|aq aj 4 ?_;refine mP hQ [0] (mc 0 U mn) U ?_;rfl
end
section
open Go.RowKit
variable (l:List bL) (lA:OA) (lC:Nat) (f:Value) (p:bL→Bool) (X:au)
theorem O8 (hf:∀ x0,x0∈l→BV Tryz.prog f [.agg (bL.cells x0).toArray] [X] (.bool (p x0))) (hlen:l.length≤1000000):
 dh Tryz.prog 155 [(vS lA l.length lC),f] [(vX lA l),X] (vI (uW p l)):=by
 refine bj kr Tryz.func155 U U fun G Q hQ hN=>?_
 try dsimp only
 refine aq bT 14 ?_;have B:(0≤l.length)∧((l.take 0).any p=false):=by simp
 refine bw (ι:={z:Nat // (z≤l.length)∧((l.take z).any p=false)}) [0,1,7] [0,1] U U (fun z=>[(8,(vI (z.1:Int)))]) (fun z=>[]) (fun _=>rfl) (fun _=>rfl) (fun z=>l.length-z.1) ⟨0,B⟩ (aN U) (aB [0,1]) ?_;clear B;rintro ⟨i,⟨D,A⟩⟩ J4 C
 try dsimp only
 refine aq bT 6 ?_;refine bE U (aH fun F=>?_) (aG fun F=>?_)
 ·exact aU aY 1 U<|cr fz 8 hQ U U<|cI (rP I A).symm
 refine aq aY 15 ?_;obtain ⟨x,hx⟩:=ay l i I;have E:=bx bL.cells hx;refine rS (IA i U (av 0 U) Ld dc I I)<|rS (k8 i 0 (bL.cells x) U bP (av 0 U) E U dc U U)<|rS (SX (pq U U U (hf x (aF hx)) (aP [1])) U U)<|aq aj 2 ?_;refine bY U (fun hp=>?_) (fun hp=>?_)
 ·exact cr aY 7 hQ U U<|cI (w8 hx hp A).symm
 refine aq aY 7 ?_;refine aL (C ⟨(i+1),⟨I,vV hx A hp⟩⟩ _ _ _ U os (aN U) (aB [0,1]))
theorem FB (hf:∀ x0,x0∈l→BV Tryz.prog f [.agg (bL.cells x0).toArray] [X] (.bool (p x0))) (hlen:l.length≤1000000):
 dh Tryz.prog 108 [(vS lA l.length lC),f] [(vX lA l),X] (vB (l.any p)):=by
 refine bj kr Tryz.func108 U U fun A Q hQ hN=>?_
 try dsimp only
 exact aU bT 9 U<|rS (CL (O8 l lA lC f p X (by exact hf) hlen) (aP [0,1]) U)<|cr aj 5 hQ U U<|cB ub
theorem Vn (f:bL) (fm:List (Int×Bool)) (gm:Nat) (j:dy) (kA:OA) (kC:Nat) (az:List RA) (cA:OA) (cC:Nat) (bA:OA) (bC:Nat) (slA:OA) (slC:Nat) (drA:OA) (drC:Nat) (ha:List cq) (heA:OA) (heC:Nat) (faA:OA) (faC:Nat) (prA:OA) (prC:Nat) (d:ak) (sgA:OA) (sgC g1:Nat) (g2 g3:Nat) (hin:jy j az ha) (hok:fU j=0) (hfm:f∈j.bu) (hsl:d.bp.ab.length≤1000000):
 dh Tryz.prog 109 [(vA (bL.cells f)),(vP g1),(vP g2),(vP g3)] ((iu iV gm (bS vB fm))::((Cl j kA az cA bA slA drA ha heA faA prA)++[(ke sgA d.bp.ab),(cb g1 134 [(Value.map (some gm))]),(cb g2 76 (dv.cells (dv.mk (rL j kA kC cA cC bA bC slA slC drA drC heA heC faA faC prA prC)))),(cb g3 52 (aO.cells (aO.mk d.Out d.cZ d.Time (jP d.bp sgA sgC))))])) (vB (((lookup (qs j.bu f) fm).getD false)&& !decide (ks j.Race.ar f d=0))):=by
 have J:=hin.race;have G:=hin.race.line;have N:=hin.race.g_;have O:=hin.race.has;have K:=hin.race.g9;have H:=hin.nf;have AA:=hin.np;have C:=(fI hok).1;have E:=(fI hok).2;have F:=(dG C).1;have P:=(dG C).2;have D:=(er F).2.head;unfold fg at D;have B:=E.fault f hfm;have M:0≤f.jf∧f.jf≤1000000:=by have L:=B.2.2;split at L<;>omega
 refine bj kr Tryz.func109 U U fun S Q hQ hN=>?_
 try dsimp only
 refine aU bT 2 U<|dV U fun R=>aU aj 4 U<|cL bX 15 kr<|jY 5 [0,1,2] (mr 13 U (mr 14 U (mc 0 U mn))) U<|dS (CL (E6 j.bu faA faC f asm) (aP [10]) U)<|dS (SX (mF (kV:=iV) (x:=(qs j.bu f)) (l:=fm) (f:=Value.bool) (z:=false) U U U pV (eE nZ) tv4 (by exact mV 1 U)) U U)<|dP 1 [] mn ?_;refine iM (t:=13) U (fun A=>?_) (fun A=>?_)
 ·refine iQ 7 U<|cy<|cr aj 3 hQ U U ?_
  (rw [A,Bool.false_and];done)
 refine jY 3 [0,1,2] (mr 14 U (mc 0 U (mr 15 U mn))) U<|dS (CL (Jv j kA kC az cA cC bA bC slA slC drA drC ha heA heC faA faC prA prC f d sgA sgC hin (by exact B.1) asm hsl) (aP [2,3,4,5,6,7,8,9,10,11,12]) U)<|dS (BI U nx)<|iQ 2 U<|cy<|cr aj 3 hQ U U ?_
 (rw [A,Bool.true_and];done)
end
section
open Go.RowKit
theorem Sb (fm:List (Int×Bool)) (gm:Nat) (j:dy) (kA:OA) (kC:Nat) (az:List RA) (cA:OA) (cC:Nat) (bA:OA) (bC:Nat) (slA:OA) (slC:Nat) (drA:OA) (drC:Nat) (ha:List cq) (heA:OA) (heC:Nat) (faA:OA) (faC:Nat) (prA:OA) (prC g1 g2:Nat) (hin:jy j az ha) (hok:fU j=0):
 UQ Tryz.prog 107 [] [(vP g1),(vP g2)] [(iu iV gm (bS vB fm)),(rd kA j.Race.ar.bQ.length 9 (j.Race.ar.bQ.map ag.cells)),(rd cA j.Race.ar.aC.length 2 (zipWith aS.cells j.Race.ar.aC az)),(iU (bB aS.lf j.Race.ar.aC az)),(rd bA j.Race.ar.ai.length 4 (j.Race.ar.ai.map df.cells)),(rd slA j.Race.a_.length 1 (j.Race.a_.map iC)),(rd drA j.Race.db.length 1 (j.Race.db.map iC)),(rd heA j.Race.ax.length 1 (zipWith di j.Race.ax ha)),(iU (bB nm j.Race.ax ha)),(rd faA j.bu.length 4 (j.bu.map bL.cells)),(rd prA j.bH.length 5 (j.bH.map cG.cells)),(cb g1 76 (dv.cells (dv.mk (rL j kA kC cA cC bA bC slA slC drA drC heA heC faA faC prA prC)))),(cb g2 134 [(Value.map (some gm))])] ((0:Nat)) (QF (iK j (m0 j.bu fm))) (fun k=>k=j.Race.ax.length):=by
 have t:=hin.race;have A9:=hin.race.line;have Cp:=hin.race.g_;have Cx:=hin.race.has;have B7:=hin.race.g9;have BP:=hin.nf;have B3:=hin.np;have s:=(fI hok).1;have C0:=(fI hok).2;have A8:=(dG s).1;have BD:=(dG s).2;have A6:=(er A8).2.head;unfold fg at A6;refine Tn kr Tryz.func107 U U fun l J Z A0 w0 Q hY A3 A2 hQ hN=>?_
 try dsimp only
 refine ck bT 11 [] (mr 12 U mn) ?_;have B:(0≤j.Race.ax.length)∧(J 0 A0)∧(Fo A0 w0 A0):=by exact ⟨c4 _,A3,A2⟩
 refine bw (ι:={z:Nat×au // (z.1≤j.Race.ax.length)∧(J z.1 z.2)∧(Fo A0 w0 z.2)}) [0,1,2,15,16] [1,2,3,4,5,6,7,8,9,10,11,12,13] U U (fun z=>[(17,(vI (z.1.1:Int)))]) (fun z=>[z.1.2]) (fun _=>rfl) (fun _=>rfl) (fun z=>j.Race.ax.length-z.1.1) ⟨(0,A0),B⟩ (aN U) (aB [1,2,3,4,5,6,7,8,9,10,11,12,13,0]) ?_;clear B;rintro ⟨⟨h,A⟩,⟨AA,F,G⟩⟩ J2 A4
 try dsimp only at AA F G
 try dsimp only
 refine aq bT 6 ?_;refine bE U (aH fun h5=>?_) (aG fun h5=>?_)
 ·refine aU aY 1 U<|aq fz 1 ?_;refine hN _ _ _ (g4 (vs:=[]) trivial fun w hs=>KN 13 U (by show h=j.Race.ax.length;omega) F G hs)
 refine aq aY 6 ?_;obtain ⟨ht,E⟩:=ay j.Race.ax h I;obtain ⟨C,D⟩:=ay ha h I;have r:(zipWith di j.Race.ax ha)[h]? =some (di ht C):=cE E D;refine rS (IA h U (av 7 U) my dc I I) ?_;have p:=t.fE _ _ _ E D;have Bt:=p.mE;have Bv:=(BD.fE ht (aF E)).1;refine rS (gF h 0 (vS C.1.1 ht.length C.1.2) U bP (av 7 U) r U dc U)<|aq aj 5 ?_;refine lv (kV:=iV) U U fun u=>?_
 try dsimp only
 refine aq aj 12 ?_
 skip
 have B:(0≤ht.length):=by exact c4 _
 refine bw (ι:={z:Nat // (z≤ht.length)}) [0,1,2,5,6,15,16,17,23] [1,2,3,4,5,6,7,8,9,10,11,12,13,14] U U (fun z=>[(24,(vI (z.1:Int)))]) (fun z=>[(iu iV u (bS vB (iW (mL j.Race.ar j.bu fm ht) z.1 0)))]) (fun _=>rfl) (fun _=>rfl) (fun z=>ht.length-z.1) ⟨0,B⟩ (aN U) (aB [1,2,3,4,5,6,7,8,9,10,11,12,13,14,0]) ?_;clear B;rintro ⟨q,A7⟩ J12 V
 try dsimp only
 refine aq bT 6 ?_;refine bY U (aG fun AO=>?_) (aH fun AO=>?_)
 ·refine aq aY 13 ?_;have W:(d_ (iW (mL j.Race.ar j.bu fm ht) q 0) (q:Int) true)=(iW (mL j.Race.ar j.bu fm ht) (q+1) 0):=by exact MP
  refine iN (kV:=iV) (x:=(q:Int)) (C':=[_,_,_,_,_,_,_,_,_,_,_,_,_,_,(iu iV u (bS vB (iW (mL j.Race.ar j.bu fm ht) (q+1) 0)))]) 14 U U U U pV (eE nZ) U ((gH _ _ _ _).symm.trans (c7 _ W)) U<|aq aj 7 ?_;have X:(vI (((q+1):Nat):Int))=(vI ((q:Int)+1)):=by exact cI I
  refine aL (V ⟨(q+1),(by first|omega|(simp only [];omega))⟩ _ _ _ U os (cx 9<|aQ U X<|cV.nil _) (aB [0,1,2,3,4,5,6,7,8,9,10,11,12,13,14]))
 refine aU aY 1 U<|aq fz 11 ?_;rw [show (iW (mL j.Race.ar j.bu fm ht) q 0)=(iW (mL j.Race.ar j.bu fm ht) ht.length 0) from by rw [show q=ht.length by omega]];have B:(0≤ht.length):=by exact c4 _
 refine bw (ι:={z:Nat // (z≤ht.length)}) [0,1,2,5,6,15,16,17,30,31] [0,1,2,3,4,5,6,7,8,9,10,11,12,13] U U (fun z=>[(32,(vI (z.1:Int)))]) (fun z=>[(iu iV u (bS vB (iW (mL j.Race.ar j.bu fm ht) ht.length z.1)))]) (fun _=>rfl) (fun _=>rfl) (fun z=>ht.length-z.1) ⟨0,B⟩ (aN U) (aB [0,1,2,3,4,5,6,7,8,9,10,11,12,13,14]) ?_;clear B;rintro ⟨q,v⟩ J22 R
 try dsimp only
 refine aq bT 6 ?_;refine bE U (aH fun Ap=>?_) (aG fun Ap=>?_)
 ·refine aU aY 1 U<|aq fz 16 ?_;rw [show (iW (mL j.Race.ar j.bu fm ht) ht.length q)=(iW (mL j.Race.ar j.bu fm ht) ht.length ht.length) from by rw [show q=ht.length by omega]];refine eC 3 1 ?_;have B:(0≤ht.length):=by exact c4 _
  refine bw (ι:={z:Nat×(OA)×Nat // (z.1≤ht.length)}) [0,1,2,5,6,15,16,17,47] [1,2,3,4,5,6,7,8,9,10,11,12,13,14,15] U U (fun z=>[(10,(vS z.1.2.1 ((jV (mL j.Race.ar j.bu fm ht) z.1.1).length) z.1.2.2)),(48,(vI (z.1.1:Int)))]) (fun z=>[(own z.1.2.1 z.1.2.2 3 1 ((jV (mL j.Race.ar j.bu fm ht) z.1.1).map iC))]) (fun _=>rfl) (fun _=>rfl) (fun z=>ht.length-z.1.1) ⟨(0,none,0),B⟩ (aN U) (aB [1,2,3,4,5,6,7,8,9,10,11,12,13,14,15,0]) ?_;clear B;rintro ⟨⟨q,a,c⟩,M⟩ J37 S
  try dsimp only at M
  try dsimp only
  refine aq bT 6 ?_;refine bE U (aH fun A1=>?_) (aG fun A1=>?_)
  ·refine aU aY 1 U<|aq fz 3 ?_;rw [show (jV (mL j.Race.ar j.bu fm ht) q)=(jV (mL j.Race.ar j.bu fm ht) ht.length) from by rw [show q=ht.length by omega]];refine aq aY 3 ?_;refine OK (k:=h) (k':=(h+1)) 13 15 U hY F G U U U ⟨_,_,_,QA E,U,U,U⟩ U U U U (fun B50 K AB=>?_) (fun B50 K AB=>?_);rotate_left 1
   ·refine aq aj 5 ?_;refine hQ _ _ _ (g4 (vs:=[]) trivial fun w hs=>ti 0 U K AB hs)
   refine aq aj 11 ?_;have m:(vI (((h+1):Nat):Int))=(vI ((h:Int)+1)):=by exact cI I
   refine aL (A4 ⟨((h+1),B50),⟨I,K,AB⟩⟩ _ _ _ U os (cx 5<|aQ U m<|cV.nil _) (aB [1,2,3,4,5,6,7,8,9,10,11,12,13,0]))
  refine aU aY 14 U<|rS (SX (mF (kV:=iV) (x:=(q:Int)) (l:=(iW (mL j.Race.ar j.bu fm ht) ht.length ht.length)) (f:=Value.bool) (z:=false) U U U pV (eE nZ) tv4 (by exact av 14 U)) U U)<|aq aj 2 ?_;refine bE U (fun T=>?_) (fun T=>?_)
  ·refine aq aY 7 ?_;rw [show (jV (mL j.Race.ar j.bu fm ht) q)=(jV (mL j.Race.ar j.bu fm ht) (q+1)) from (CA (by rw [← Bx (P:=(mL j.Race.ar j.bu fm ht)) (show q<ht.length by omega)];simpa using T)).symm];have i:(vI (((q+1):Nat):Int))=(vI ((q:Int)+1)):=by exact cI I
   refine aL (S ⟨((q+1),a,c),(by first|omega|(simp only [];omega))⟩ _ _ _ U os (cx 10<|aQ U i<|cV.nil _) (aB [0,1,2,3,4,5,6,7,8,9,10,11,12,13,14,15]))
  refine aq aY 3 ?_;refine dC (xs:=[.tmp 55]) (cs:=[(vI (q:Int))]) U cO jU U U U U (by simp [Value.cells]) U U fun Ci=>?_;refine de (es2:=(map iC (jV (mL j.Race.ar j.bu fm ht) (q+1)))) (m':=(jV (mL j.Race.ar j.bu fm ht) (q+1)).length) 16 U U U pG U U sm (aM (es:=map iC [(q:Int)]) 0 U U (by simp [br]) U) (j_ _) (by have:=rO (P:=(mL j.Race.ar j.bu fm ht)) (n:=q);omega) (by have:=rO (P:=(mL j.Race.ar j.bu fm ht)) (n:=q);simp only [maxLen];omega) (by rw [xx (by rw [← Bx (P:=(mL j.Race.ar j.bu fm ht)) (show q<ht.length by omega)];exact T)];simp) sm U fun y AC=>?_
  try dsimp only
  refine aq aj 8 ?_;have g:(vI (((q+1):Nat):Int))=(vI ((q:Int)+1)):=by exact cI I
  refine aL (S ⟨((q+1),y,AC),(by first|omega|(simp only [];omega))⟩ _ _ _ U os (cx 10<|aQ U g<|cV.nil _) (aB [1,2,3,4,5,6,7,8,9,10,11,12,13,14,15,16]))
 refine aq aY 7 ?_;obtain ⟨d,hd⟩:=ay ht q I;obtain ⟨da,o⟩:=ay C.2 q I;have A5:(zipWith ak.cells ht C.2)[q]? =some (ak.cells d da):=cE hd o;refine rS (IA q U (show ig _ (rd C.1.1 ht.length 7 (zipWith ak.cells ht C.2)).holds from (ct 8 U (bq E D bZ))) rK dc I I) ?_;have C1:=p.sig d (aF hd);refine rS (k8 q 0 (aO.cells (aO.mk d.Out d.cZ d.Time (dA.mk d.bp.Start d.bp.hP (aX.mk da.1 d.bp.ab.length da.2)))) U bP (show ig _ (rd C.1.1 ht.length 7 (zipWith ak.cells ht C.2)).holds from (ct 8 U (bq E D bZ))) A5 U dc U U)<|AL U Mq fun L=>aU aj 1 U<|eM U GD U<|ck aj 7 [] (mr 12 U mn) ?_;refine rS (FU U) ?_;refine rS (CL (FB j.bu faA faC (Value.func (.func 109) [].toArray [(vP g2),(vP g1),(vP L)].toArray) (fun O=>(((lookup (qs j.bu O) fm).getD false)&& !decide (ks j.Race.ar O d=0))) (iU [(iu iV gm (bS vB fm)),(rd kA j.Race.ar.bQ.length 9 (j.Race.ar.bQ.map ag.cells)),(rd cA j.Race.ar.aC.length 2 (zipWith aS.cells j.Race.ar.aC az)),(iU (bB aS.lf j.Race.ar.aC az)),(rd bA j.Race.ar.ai.length 4 (j.Race.ar.ai.map df.cells)),(rd slA j.Race.a_.length 1 (j.Race.a_.map iC)),(rd drA j.Race.db.length 1 (j.Race.db.map iC)),(rd heA j.Race.ax.length 1 (zipWith di j.Race.ax ha)),(iU (bB nm j.Race.ax ha)),(rd faA j.bu.length 4 (j.bu.map bL.cells)),(rd prA j.bH.length 5 (j.bH.map cG.cells)),(rd da.1 d.bp.ab.length 2 (d.bp.ab.map aR.cells)),(cb g2 134 [(Value.map (some gm))]),(cb g1 76 (dv.cells (dv.mk (rL j kA kC cA cC bA bC slA slC drA drC heA heC faA faC prA prC)))),(cb L 52 (aO.cells (aO.mk d.Out d.cZ d.Time (dA.mk d.bp.Start d.bp.hP (aX.mk da.1 d.bp.ab.length da.2)))))]) (by intro O N;exact kT (fi:=[]) (ca:=[(vP g2),(vP g1),(vP L)]) (jJ (Vn O fm gm j kA kC az cA cC bA bC slA slC drA drC ha heA heC faA faC prA prC d da.1 da.2 g2 g1 L (by first|assumption|exact N|omega) (by first|assumption|exact N|omega) (by first|assumption|exact N|omega) (by first|assumption|exact N|omega)) (aP [0,1,2,3,4,5,6,7,8,9,10,11,12,13,14]))) asm) (gM 10 U U<|aw (jO (lZ [1,2,3,4,5,6,7,8,9,10,11]<|aw (show ig _ (rd da.1 d.bp.ab.length 2 (d.bp.ab.map aR.cells)).holds from (ct 9 U (bq E D (dk _ (bq hd o (by simp [ak.lf]))))))<|gM 13 U U<|gM 12 U U<|gM 0 U U<|aA))<|aA) U) ?_;refine aq aj 3 ?_;refine bE U (fun H=>?_) (fun H=>?_)
 ·rw [m5] at H;refine aq aY 7 ?_;rw [show (iW (mL j.Race.ar j.bu fm ht) ht.length q)=(iW (mL j.Race.ar j.bu fm ht) ht.length (q+1)) from JT (by rw [Ja hd];simpa using H)];have e:(vI (((q+1):Nat):Int))=(vI ((q:Int)+1)):=by exact cI I
  refine aL (R ⟨(q+1),(by first|omega|(simp only [];omega))⟩ _ _ _ U os (cx 10<|aQ U e<|cV.nil _) (aB [1,2,3,4,5,6,7,8,9,10,11,12,13,14,15]))
 rw [e0] at H;refine aq aY 3 ?_;have Y:(cJ (iW (mL j.Race.ar j.bu fm ht) ht.length q) (q:Int))=(iW (mL j.Race.ar j.bu fm ht) ht.length (q+1)):=by exact MY (by rw [Ja hd];exact H)
 refine pg (kV:=iV) (x:=(q:Int)) (C':=[_,_,_,_,_,_,_,_,_,_,_,_,_,_,_,(iu iV u (bS vB (iW (mL j.Race.ar j.bu fm ht) ht.length (q+1))))]) 15 U U U U pV (eE nZ) U ((mA _ _ _).symm.trans (c7 _ Y)) U<|aq aj 7 ?_;have b:(vI (((q+1):Nat):Int))=(vI ((q:Int)+1)):=by exact cI I
 refine aL (R ⟨(q+1),(by first|omega|(simp only [];omega))⟩ _ _ _ U os (cx 10<|aQ U b<|cV.nil _) (aB [1,2,3,4,5,6,7,8,9,10,11,12,13,14,15]))
end
section
open Go.RowKit
variable (fm:List (Int×Bool)) (gm:Nat) (j:dy) (kA:OA) (kC:Nat) (az:List RA) (cA:OA) (cC:Nat) (bA:OA) (bC:Nat) (slA:OA) (slC:Nat) (drA:OA) (drC:Nat) (ha:List cq) (heA:OA) (heC:Nat) (faA:OA) (faC:Nat) (prA:OA) (prC:Nat)
theorem Wd:
 ld Tryz.prog 59 [(vA (dv.cells (dv.mk (rL j kA kC cA cC bA bC slA slC drA drC heA heC faA faC prA prC)))),(Value.map (some gm))] [] (fun (x:Nat×Nat)=>(Value.func (.func 107) [].toArray [(Value.pointer (some ⟨x.1,0,none⟩)),(Value.pointer (some ⟨x.2,0,none⟩))].toArray)) (fun (x:Nat×Nat)=>True) (fun (x:Nat×Nat)=>[(cb x.1 76 (dv.cells (dv.mk (rL j kA kC cA cC bA bC slA slC drA drC heA heC faA faC prA prC)))),(cb x.2 134 [(Value.map (some gm))])]):=by
 refine cU kr Tryz.func59 U U fun C Q hQ hN=>?_
 try dsimp only
 refine aU bT 2 U<|dV U fun A=>sK U U fun B=>aU aj 5 U<|rS (FU U)<|aq aj 4 ?_;refine LX hQ (A,B) [1,0] [] mn U U U U ?_;trivial
theorem Rk (g1 g2:Nat) (hin:jy j az ha) (hok:fU j=0):
 ld Tryz.prog 106 [(vS none 0 0),(Value.func (.func 107) [].toArray [(vP g1),(vP g2)].toArray)] ((iu iV gm (bS vB fm))::((Cl j kA az cA bA slA drA ha heA faA prA)++[(cb g1 76 (dv.cells (dv.mk (rL j kA kC cA cC bA bC slA slC drA drC heA heC faA faC prA prC)))),(cb g2 134 [(Value.map (some gm))])])) (fun (x:(List RA)×(OA)×Nat)=>(vS x.2.1 ((iK j (m0 j.bu fm)).length) x.2.2)) (fun (x:(List RA)×(OA)×Nat)=>x.1.length=(iK j (m0 j.bu fm)).length) (fun (x:(List RA)×(OA)×Nat)=>[(own x.2.1 x.2.2 29 1 (zipWith oU (iK j (m0 j.bu fm)) x.1)),(bD (bB Av (iK j (m0 j.bu fm)) x.1))]):=by
 have R:=hin.race;have L:=hin.race.line;have Z:=hin.race.g_;have b:=hin.race.has;have T:=hin.race.g9;have O:=hin.nf;have P:=hin.np;have Y:(iK j (m0 j.bu fm)).length=j.Race.ax.length:=by unfold iK;rw [c3]
 refine cU kr Tryz.func106 U U fun o Q hQ hN=>?_
 try dsimp only
 refine aU bT 2 U<|sK U U fun N=>aq aj 10 ?_;refine iw 1 U (by exact fun _ h=>h)<|iw 3 U (by exact fun _ h=>h)<|iw 5 U (by exact fun _ h=>h)<|iw 7 U (by exact fun _ h=>h)<|iw 9 U (by exact fun _ h=>h)<|iw 11 U (by exact fun _ h=>h)<|iw 13 U (by exact fun _ h=>h)<|iw 15 U (by exact fun _ h=>h)<|iw 17 U (by exact fun _ h=>h)<|iw 19 U (by exact fun _ h=>h)<|iw 21 U (by exact fun _ h=>h)<|iw 23 U (by exact fun _ h=>h)<|iw 25 U (by exact fun _ h=>h)<|eC 29 1<|mo ?_;refine MS (L0:=[(2,(vP N))]) (F:=[(iu iV gm (bS vB fm)).ro,(rd kA j.Race.ar.bQ.length 9 (j.Race.ar.bQ.map ag.cells)).ro,(rd cA j.Race.ar.aC.length 2 (zipWith aS.cells j.Race.ar.aC az)).ro,(iU (bB aS.lf j.Race.ar.aC az)).ro,(rd bA j.Race.ar.ai.length 4 (j.Race.ar.ai.map df.cells)).ro,(rd slA j.Race.a_.length 1 (j.Race.a_.map iC)).ro,(rd drA j.Race.db.length 1 (j.Race.db.map iC)).ro,(rd heA j.Race.ax.length 1 (zipWith di j.Race.ax ha)).ro,(iU (bB nm j.Race.ax ha)).ro,(rd faA j.bu.length 4 (j.bu.map bL.cells)).ro,(rd prA j.bH.length 5 (j.bH.map cG.cells)).ro,(cb g1 76 (dv.cells (dv.mk (rL j kA kC cA cC bA bC slA slC drA drC heA heC faA faC prA prC)))).ro,(cb g2 134 [(Value.map (some gm))]).ro]) (fun k (y:(List RA)×(OA)×Nat)=>(y.1.length=k)) (fun k y=>[(bD (bB Av (List.take k (iK j (m0 j.bu fm))) y.1)),(own y.2.1 y.2.2 29 1 (zipWith oU (List.take k (iK j (m0 j.bu fm))) y.1)),(cb N 42 [(vS y.2.1 ((List.take k (iK j (m0 j.bu fm))).length) y.2.2)]),(iu iV gm (bS vB fm)).ro,(rd kA j.Race.ar.bQ.length 9 (j.Race.ar.bQ.map ag.cells)).ro,(rd cA j.Race.ar.aC.length 2 (zipWith aS.cells j.Race.ar.aC az)).ro,(iU (bB aS.lf j.Race.ar.aC az)).ro,(rd bA j.Race.ar.ai.length 4 (j.Race.ar.ai.map df.cells)).ro,(rd slA j.Race.a_.length 1 (j.Race.a_.map iC)).ro,(rd drA j.Race.db.length 1 (j.Race.db.map iC)).ro,(rd heA j.Race.ax.length 1 (zipWith di j.Race.ax ha)).ro,(iU (bB nm j.Race.ax ha)).ro,(rd faA j.bu.length 4 (j.bu.map bL.cells)).ro,(rd prA j.bH.length 5 (j.bH.map cG.cells)).ro]) (fun _ (_:Unit)=>False) (fun _ _=>[]) [0,1,15,16,17,18,19,20,21,22,23,24,25,26] [14,13,12,11,10,9,8,7,6,5,4,3,2] (([]:List RA),none,0) rfl rfl (Sb fm gm j kA kC az cA cC bA bC slA slC drA drC ha heA heC faA faC prA prC g1 g2 (by first|assumption|omega|(simp;done)) (by first|assumption|omega|(simp;done))) rfl rfl rfl (by exact rfl) (by simp only [AAI,h_,AAs,AAv,ABC];exact ⟨⟨_,aF (i:=0) rfl,(dj (bM _))⟩,⟨_,aF (i:=1) rfl,(dj (bM _))⟩,⟨_,aF (i:=2) rfl,(dj (bM _))⟩,⟨_,aF (i:=3) rfl,(dj (bM _))⟩,⟨_,aF (i:=4) rfl,(dj (bM _))⟩,⟨_,aF (i:=5) rfl,(dj (bM _))⟩,⟨_,aF (i:=6) rfl,(dj (bM _))⟩,⟨_,aF (i:=7) rfl,(dj (bM _))⟩,⟨_,aF (i:=8) rfl,(dj (bM _))⟩,⟨_,aF (i:=9) rfl,(dj (bM _))⟩,⟨_,aF (i:=10) rfl,(dj (bM _))⟩,⟨_,aF (i:=11) rfl,(dj (bM _))⟩,⟨_,aF (i:=12) rfl,(dj (bM _))⟩⟩) (by rintro k x R0 g ⟨_,_,_,_,rfl,_,_⟩;rfl) rfl (aN rfl) ?_ ?_ (fun _ _ _ h=>h.elim) (fun _ _ h=>h.elim);rotate_left 1
 ·rintro m k ⟨gz,a,c⟩ B C;have D:=C
  try dsimp only at D
  try dsimp only
  rw [show (List.take k (iK j (m0 j.bu fm)))=(iK j (m0 j.bu fm)) from c5 (by have X:k=j.Race.ax.length:=B;omega)];have K:gz.length=(iK j (m0 j.bu fm)).length:=by have X:k=j.Race.ax.length:=B;omega
  refine ck jC 9 [] (mc 16 U mn) ?_;refine hQ _ _ _ (nF 0 U U<|g4 (vs:=[(vS a ((iK j (m0 j.bu fm)).length) c)]) ⟨U,trivial⟩ fun w hs=>EM (gz,a,c) [15,14] ?_ ?_ U U (by show all _ _=true;simp only [eX,om,vl,n4];rfl) hs)
  ·rfl
  ·exact K
 rintro k x R0 g ⟨gz,a,c⟩ l ra rb S p K5 Qr6 f hx H J G AA V;obtain ⟨xa,xc,row,A,rfl,rfl,rfl⟩:=hx;have D:=H
 try dsimp only at D
 try dsimp only
 have d:=(aT.1 A).1;have E:gz.length=(List.take k (iK j (m0 j.bu fm))).length:=by rw [k5];omega
 have M:(List.take (k+1) (iK j (m0 j.bu fm))).length=k+1:=by rw [k5];omega
 refine aq bT 3 ?_;refine aL (J _ _ ?_);refine ck bT 4 [] (mc 3 U mn) ?_;refine dC (xs:=[.tmp 9]) (cs:=[(vS xa row.length xc)]) U wv Pw U U U U (by simp [Value.cells]) U U fun n=>?_;refine de (es2:=(zipWith oU (List.take (k+1) (iK j (m0 j.bu fm))) (gz++[(xa,xc)]))) (m':=(List.take (k+1) (iK j (m0 j.bu fm))).length) 3 rfl rfl rfl Zg rfl rfl (iO E).symm (aM (es:=zipWith oU [row] [(xa,xc)]) 0 rfl rfl (by intro e he;simp [oU] at he;subst he;rfl) rfl) (Is _ _) I (by simp only [maxLen];omega) (by rw [AZ A];exact BM E.symm) (by exact iO (by rw [M];simp;omega)) rfl fun W AB=>?_
 try dsimp only
 refine Pg (Y':=bB Av (List.take (k+1) (iK j (m0 j.bu fm))) (gz++[(xa,xc)])) 2 16 U U (by rw [AZ A];exact z8 E.symm U) ?_;refine SO4 U aaK U U<|aq aj 2 ?_;exact G ((gz++[(xa,xc)]),W,AB) _ _ (by (rw [e4];simp;omega)) (aB [2,0,3,4,5,6,7,8,9,10,11,12,13,14,15])
theorem RR (g1 g2:Nat) (hin:jy j az ha) (hok:fU j=0):
 ld Tryz.prog 58 [(Value.func (.func 107) [].toArray [(vP g1),(vP g2)].toArray)] ((iu iV gm (bS vB fm))::((Cl j kA az cA bA slA drA ha heA faA prA)++[(cb g1 76 (dv.cells (dv.mk (rL j kA kC cA cC bA bC slA slC drA drC heA heC faA faC prA prC)))),(cb g2 134 [(Value.map (some gm))])])) (fun (x:(List RA)×(OA)×Nat)=>(vS x.2.1 ((iK j (m0 j.bu fm)).length) x.2.2)) (fun (x:(List RA)×(OA)×Nat)=>x.1.length=(iK j (m0 j.bu fm)).length) (fun (x:(List RA)×(OA)×Nat)=>[(YV x.2.1 x.2.2 (iK j (m0 j.bu fm)) x.1),(bD (bB Av (iK j (m0 j.bu fm)) x.1))]):=by
 refine cU kr Tryz.func58 U U fun G Q hQ hN=>?_
 try dsimp only
 refine aq bT 8 ?_;refine cX (Rk fm gm j kA kC az cA cC bA bC slA slC drA drC ha heA heC faA faC prA prC g1 g2 hin hok) (aP [0,1,2,3,4,5,6,7,8,9,10,11,12]) U fun F C=>?_;obtain ⟨A,D,E⟩:=F
 try dsimp only
 have B:=C;refine aq aj 4 ?_;refine LX hQ (A,D,E) [0,1] [] mn U (by show all _ _=true;simp only [eX,om,vl,n4];rfl) U U ?_;exact B
end
section
open Go.RowKit
variable (j:dy) (kA:OA) (kC:Nat) (az:List RA) (cA:OA) (cC:Nat) (bA:OA) (bC:Nat) (slA:OA) (slC:Nat) (drA:OA) (drC:Nat) (ha:List cq) (heA:OA) (heC:Nat) (faA:OA) (faC:Nat) (prA:OA) (prC:Nat)
theorem CF (hin:jy j az ha) (hok:fU j=0):
 ld Tryz.prog 26 [(vA (dv.cells (dv.mk (rL j kA kC cA cC bA bC slA slC drA drC heA heC faA faC prA prC))))] (Cl j kA az cA bA slA drA ha heA faA prA) (fun (x:(List RA)×(OA)×Nat)=>(vS x.2.1 ((gd j).length) x.2.2)) (fun (x:(List RA)×(OA)×Nat)=>x.1.length=(gd j).length) (fun (x:(List RA)×(OA)×Nat)=>[(own x.2.1 x.2.2 29 1 (zipWith oU (gd j) x.1)),(bD (bB Av (gd j) x.1))]):=by
 have m:=hin.race;have Y:=hin.race.line;have w:=hin.race.g_;have y:=hin.race.has;have o:=hin.race.g9;have h:=hin.nf;have l:=hin.np;have K:=(fI hok).1;have J:=(fI hok).2;have X:=(dG K).1;have Ap:=(dG K).2;have AA:=(er X).2.head;unfold fg at AA;have AC:=J.np;have k:=Ib (j:=j);refine cU kr Tryz.func26 U U fun w0 Q hQ hN=>?_
 try dsimp only
 refine aU bT 2 U<|dV U fun b2=>aq aj 5 ?_;refine lv (kV:=iV) U U fun N=>?_
 try dsimp only
 refine ck aj 10 [] (mc 1 U mn) ?_;refine rS (FU U) ?_;refine cX (Iz j.bH prA prC (Value.func (.func 48) [(vA (dv.cells (dv.mk (rL j kA kC cA cC bA bC slA slC drA drC heA heC faA faC prA prC))))].toArray [].toArray) (fun d M=>(nT j M)) (iU [(rd kA j.Race.ar.bQ.length 9 (j.Race.ar.bQ.map ag.cells)),(rd cA j.Race.ar.aC.length 2 (zipWith aS.cells j.Race.ar.aC az)),(iU (bB aS.lf j.Race.ar.aC az)),(rd bA j.Race.ar.ai.length 4 (j.Race.ar.ai.map df.cells)),(rd slA j.Race.a_.length 1 (j.Race.a_.map iC)),(rd drA j.Race.db.length 1 (j.Race.db.map iC)),(rd heA j.Race.ax.length 1 (zipWith di j.Race.ax ha)),(iU (bB nm j.Race.ax ha)),(rd faA j.bu.length 4 (j.bu.map bL.cells)),(rd prA j.bH.length 5 (j.bH.map cG.cells))]) (by intro d M Z;exact kT (fi:=[(vA (dv.cells (dv.mk (rL j kA kC cA cC bA bC slA slC drA drC heA heC faA faC prA prC))))]) (ca:=[]) (jJ (B2 j kA kC az cA cC bA bC slA slC drA drC ha heA heC faA faC prA prC d M asm asm (by (obtain ⟨i_,_,V⟩:=Z;exact ⟨i_,V⟩))) (aP [0,1,2,3,4,5,6,7,8,9]))) asm) (gM 11 rfl rfl<|aw (jO (aP [2,3,4,5,6,7,8,9,10,11]))<|aA) rfl fun y9 q=>?_;obtain ⟨s,u⟩:=y9
 try dsimp only
 rw [show (jV (jg j.bH (fun d M=>(nT j M))) j.bH.length)=lM j from rfl];refine aq aj 5 ?_
 skip
 have A:(0≤(lM j).length):=by exact c4 _
 refine bw (ι:={z:Nat // (z≤(lM j).length)}) [1,3,12,13] [0,2,3,4,5,6,7,8,9,10,11,12] U U (fun z=>[(14,(vI (z.1:Int)))]) (fun z=>[(iu iV N (bS vB (yT j.bu (L5 j z.1))))]) (fun _=>rfl) (fun _=>rfl) (fun z=>(lM j).length-z.1) ⟨0,A⟩ (aN U) (aB [0,2,3,4,5,6,7,8,9,10,11,12,1]) ?_;clear A;rintro ⟨t,W⟩ J13 E
 try dsimp only
 refine aq bT 6 ?_;refine bE U (aH fun S=>?_) (aG fun S=>?_)
 ·refine aU aY 1 U<|ck fz 6 [] (mc 1 U mn) ?_;refine cX (Wd N j kA kC cA cC bA bC slA slC drA drC heA heC faA faC prA prC) (aA) U fun e r=>?_;obtain ⟨P,C⟩:=e
  try dsimp only
  refine cX (RR (yT j.bu (L5 j t)) N j kA kC az cA cC bA bC slA slC drA drC ha heA heC faA faC prA prC P C hin hok) (aP [14,4,5,6,7,8,9,10,11,12,13,0,1]) U fun g L=>?_;obtain ⟨D,O,R⟩:=g
  try dsimp only
  have AB:=L;have c:(iK j (m0 j.bu (yT j.bu (L5 j t))))=(gd j):=by exact He I
  rw [c] at AB ⊢;refine aq aj 4 ?_;refine LX hQ (D,O,R) [0,1] [] mn U (by show all _ _=true;simp only [eX,om,vl,n4];rfl) U U ?_;exact AB
 refine aq aY 6 ?_;obtain ⟨gi,B⟩:=ay (lM j) t I;have H:=bx iC B;refine rS (IA t U (ao (n:=(lM j).length) 0 U sm) cO dc I I)<|rS (gF t 0 (vI gi) U bP (ao (n:=(lM j).length) 0 U sm) H U dc U)<|aU aj 3 U<|cL bX 17 kr<|dP 10 [] (mc 1 U mn) ?_;obtain ⟨gk,v,i⟩:=JZ B;refine dP 1 [] mn ?_;obtain ⟨p,hp⟩:=ay j.bH ((gi).toNat) I;have a:=bx cG.cells hp;refine dS (IA ((gi).toNat) U (av 11 U) N4 dc I I)<|dS (p9 ((((gi).toNat)*5)+3) U (av 11 U) (e6 I dc) eB U) ?_;have b:=J.iL _ p hp;have AO:=b.fault;refine dS (gF ((gi).toNat) 3 (vI p.lk) U bP (av 11 U) a U dc U) ?_;obtain ⟨f,hf⟩:=ay j.bu ((p.lk).toNat) I;have T:=bx bL.cells hf;refine dS (IA ((p.lk).toNat) U (av 10 U) Ld dc I I)<|dS (k8 ((p.lk).toNat) 0 (bL.cells f) U bP (av 10 U) T U dc U U)<|dS (CL (E6 j.bu faA faC f asm) (aP [10]) U)<|cy ?_;have F:(d_ (yT j.bu (L5 j t)) (qs j.bu f) true)=(yT j.bu (L5 j (t+1))):=by rw [P3 B hp hf,LO]
 refine iN (kV:=iV) (x:=(qs j.bu f)) (C':=[_,_,_,_,_,_,_,_,_,_,_,_,(iu iV N (bS vB (yT j.bu (L5 j (t+1)))))]) 12 U U U U pV (eE nZ) U ((gH _ _ _ _).symm.trans (c7 _ F)) U<|aq aj 7 ?_;have G:(vI (((t+1):Nat):Int))=(vI ((t:Int)+1)):=by exact cI I
 refine aL (E ⟨(t+1),(by first|omega|(simp only [];omega))⟩ _ _ _ U os (cx 4<|aQ U G<|cV.nil _) (aB [0,1,2,3,4,5,6,7,8,9,10,11,12]))
theorem xw (hin:jy j az ha):
 ld Tryz.prog 7 [(vA (km.cells (rL j kA kC cA cC bA bC slA slC drA drC heA heC faA faC prA prC)))] ((rd hU 3 2 fX)::(Cl j kA az cA bA slA drA ha heA faA prA)) (fun (x:(List RA)×(OA)×Nat)=>(vT [(vS x.2.1 ((eD j).length) x.2.2),(vI (fU j))])) (fun (x:(List RA)×(OA)×Nat)=>x.1.length=(eD j).length) (fun (x:(List RA)×(OA)×Nat)=>[(own x.2.1 x.2.2 29 1 (zipWith oU (eD j) x.1)),(bD (bB Av (eD j) x.1))]):=by
 have L:=hin.race;have H:=hin.race.line;have N:=hin.race.g_;have O:=hin.race.has;have M:=hin.race.g9;have J:=hin.nf;have K:=hin.np;refine cU kr Tryz.func7 U U fun T Q hQ hN=>?_
 try dsimp only
 refine aU bT 2 U<|dV U fun R=>dF aj 7 [] (mc 0 U mn) U<|rS (CL (Dm j kA kC az cA cC bA bC slA slC drA drC ha heA heC faA faC prA prC hin) (aP [1,2,3,4,5,6,7,8,9,10,11]) U)<|aU aj 3 U<|AL U RQ fun S=>eM U SI U<|aq aj 10 ?_;refine bY U (aK fun A=>?_) (aJ fun A=>?_)
 ·refine aq aY 2 ?_;have C:(eD j)=[]:=yA A;have B:([]:List RA).length=(eD j).length:=by rw [C];rfl
  refine fT 29 1<|xE ?_;rw [show (own none 0 29 1 ([]:List (List Value)))=own none 0 29 1 (zipWith oU (eD j) []) from by rw [C];rfl,show bD []=bD (bB Av (eD j) []) from by rw [C];rfl];refine aq aj 6 ?_;refine LX hQ ([],none,0) [1,0] [] mn U (by show all _ _=true;simp only [eX,om,vl,n4];rfl) U ?_ ?_
  ·(rw [yA A];rfl)
  ·exact B
 refine ck aY 5 [] (mc 0 U mn) ?_;refine cX (CF j kA kC az cA cC bA bC slA slC drA drC ha heA heC faA faC prA prC hin asm) (aP [3,4,5,6,7,8,9,10,11,12]) U fun P E=>?_;obtain ⟨D,F,G⟩:=P
 try dsimp only
 have B:=E;refine aq aj 1 ?_;have AA:(gd j)=(eD j):=by exact (lE A).symm
 rw [AA] at B ⊢;refine aq aj 4 ?_;refine LX hQ (D,F,G) [0,1] [] mn U (by show all _ _=true;simp only [eX,om,vl,n4];rfl) U ?_ ?_
 ·(rw [A];rfl)
 ·exact B
end
section
open Go.RowKit
theorem Et (r:cN) (kA:OA) (kC:Nat) (az:List RA) (cA:OA) (cC:Nat) (bA:OA) (bC:Nat) (slA:OA) (slC:Nat) (drA:OA) (drC:Nat) (ha:List cq) (heA:OA) (heC:Nat) (hraw:wZ r az ha):
 dh Tryz.prog 22 [(vA (cf.cells (pN r kA kC cA cC bA bC slA slC drA drC heA heC)))] (DI r kA az cA bA slA drA ha heA) (vB (decide (lY r))):=by
 have Y:=hraw.line;have c:=hraw.g_;have f:=hraw.has;have b:=hraw.g9;have Z:=hraw.draw;refine bj kr Tryz.func22 U U fun k Q hQ hN=>?_
 try dsimp only
 refine aU bT 2 U<|dV U fun h=>aU aj 7 U<|rS (LP (bV.cells (kO r.ar kA kC cA cC bA bC)) 0 U bP U U U)<|rS (CL (QE r.ar kA kC az cA cC bA bC asm) (aP [1,2,3,4]) U)<|aq aj 1 ?_;refine bK (t:=8) U (aG fun S=>?_) (aH fun S=>?_)
 ·exact cr aj 26 hQ U U<|cB (cR (sr (.inl S))).symm
 refine ck aj 6 [] (mc 0 U mn) ?_;refine bK (t:=14) U (aG fun H=>?_) (aH fun H=>?_)
 ·exact cr aj 20 hQ U U<|cB (cR (sr (.inr I))).symm
 refine ck aj 6 [] (mc 0 U mn) ?_;refine bK (t:=20) U (aG fun O=>?_) (aH fun O=>?_)
 ·exact cr aj 14 hQ U U<|cB (cR (sr (.inr I))).symm
 refine ck aj 7 [] (mc 0 U mn) ?_;refine bY U (aG fun R=>?_) (aH fun R=>?_)
 ·exact cr aY 6 hQ U U<|cB (cR (sr (.inr I))).symm
 refine aq aY 9 ?_;have B:(0≤r.ax.length)∧(nA r 0):=by exact ⟨c4 _,F7⟩
 refine bw (ι:={z:Nat // (z≤r.ax.length)∧(nA r z)}) [1] [0,1,2,3,4,5,6,7,8] U U (fun z=>[(3,(vI (z.1:Int)))]) (fun z=>[]) (fun _=>rfl) (fun _=>rfl) (fun z=>r.ax.length-z.1) ⟨0,B⟩ (aN U) (aB [0,1,2,3,4,5,6,7,8]) ?_;clear B;rintro ⟨i,⟨W,F⟩⟩ J11 K
 try dsimp only
 refine ck bT 10 [] (mc 0 U mn) ?_;refine bE U (aH fun H=>?_) (aG fun H=>?_)
 ·exact aU aY 1 U<|cr fz 8 hQ U U<|cB (bg (Kq S I F I)).symm
 refine ck aY 10 [] (mc 0 U mn) ?_;obtain ⟨ht,D⟩:=ay r.ax i I;obtain ⟨A,C⟩:=ay ha i I;have E:(zipWith di r.ax ha)[i]? =some (di ht A):=cE D C;refine rS (IA i U (av 7 U) my dc I I)<|rS (gF i 0 (vS A.1.1 ht.length A.1.2) U bP (av 7 U) E U dc U) ?_;obtain ⟨e,a,V⟩:=hraw.fE _ _ _ D C;refine aq aj 4 ?_;refine bY U (aG fun AB=>?_) (aH fun AB=>?_)
 ·exact cr aY 6 hQ U U<|cB (cR (FP D AB)).symm
 refine aq aY 8 ?_;have B:(0≤ht.length)∧(oV ht 0):=by exact ⟨c4 _,FC⟩
 refine bw (ι:={z:Nat // (z≤ht.length)∧(oV ht z)}) [1,3] [0,1,2,3,4,5,6,7,8] U U (fun z=>[(4,(vI (z.1:Int)))]) (fun z=>[]) (fun _=>rfl) (fun _=>rfl) (fun z=>ht.length-z.1) ⟨0,B⟩ (aN U) (aB [0,1,2,3,4,5,6,7,8]) ?_;clear B;rintro ⟨j,⟨X,G⟩⟩ J20 L
 try dsimp only
 refine dF bT 7 [] (mc 0 U mn) U<|rS (IA i U (av 7 U) my dc I I)<|rS (gF i 0 (vS A.1.1 ht.length A.1.2) U bP (av 7 U) E U dc U)<|aq aj 4 ?_;refine bE U (aH fun P=>?_) (aG fun P=>?_)
 ·refine aU aY 1 U<|aq fz 8 ?_;have N:(vI (((i+1):Nat):Int))=(vI ((i:Int)+1)):=by exact cI I
  refine aL (K ⟨(i+1),⟨I,F4 F D (G9 AB G I)⟩⟩ _ _ _ U os (cV.cons U<|aQ U N<|cV.nil _) (aB [0,1,2,3,4,5,6,7,8]))
 refine dF aY 9 [] (mc 0 U mn) U<|rS (IA i U (av 7 U) my dc I I)<|rS (gF i 0 (vS A.1.1 ht.length A.1.2) U bP (av 7 U) E U dc U)<|aq aj 1 ?_;obtain ⟨d,hd⟩:=ay ht j I;obtain ⟨da,T⟩:=ay A.2 j I;have AA:(zipWith ak.cells ht A.2)[j]? =some (ak.cells d da):=cE hd T;refine rS (IA j U (show ig _ (mT A.1.1 ht A.2).holds from (ct 8 U (bq D C bZ))) rK dc I I)<|rS (p9 ((j*7)+4) U (show ig _ (mT A.1.1 ht A.2).holds from (ct 8 U (bq D C bZ))) (e6 I dc) eB U)<|rS (p9 (((j*7)+4)+2) U (show ig _ (mT A.1.1 ht A.2).holds from (ct 8 U (bq D C bZ))) (e6 I dc) eB U)<|rS (gF j 6 (vS da.1 d.bp.ab.length da.2) U bP (show ig _ (mT A.1.1 ht A.2).holds from (ct 8 U (bq D C bZ))) AA U dc U) ?_;have g:=V d (aF hd);refine aq aj 4 ?_;refine bE U (aH fun J=>?_) (aG fun J=>?_)
 ·refine aq aY 8 ?_;have M:(vI (((j+1):Nat):Int))=(vI ((j:Int)+1)):=by exact cI I
  refine aL (L ⟨(j+1),⟨I,FO G hd J⟩⟩ _ _ _ U os (cV.cons U<|cV.cons U<|aQ U M<|cV.nil _) (aB [0,1,2,3,4,5,6,7,8]))
 exact cr aY 6 hQ U U<|cB (cR (Hf D hd J)).symm
end
section
open Go.RowKit
theorem jN (n lo hi:Int):
 dh Tryz.prog 54 [(vI n),(vI lo),(vI hi)] [] (vB (decide (lo≤n∧n≤hi))):=by
 refine bj kr Tryz.func54 U U fun B Q hQ hN=>?_
 try dsimp only
 refine aq bT 11 ?_;refine bK (t:=10) U (aG fun A=>?_) (aH fun A=>?_)
 ·exact cr aj 8 hQ U U<|cB (gR.2 I)
 exact cr aj 8 hQ U U<|cB (bg I).symm
theorem IG (o fx:Bool) (tm:aa) (rv:dA):
 dh Tryz.prog 55 [(vA (aO.cells (aO.mk o fx tm rv)))] [] (vB (decide (o=false∧fx=false))):=by
 refine bj kr Tryz.func55 U U fun C Q hQ hN=>?_
 try dsimp only
 refine aU bT 2 U<|dV U fun B=>ck aj 9 [] (mc 0 U mn) ?_;refine cz (t:=6) U (fun A=>?_) (fun A=>?_)
 ·rw [m5] at A;refine cr aj 8 hQ U U ?_;clear hQ hN;refine cB ?_
  (simp_all;done)
 rw [e0] at A;refine yR aj 8 hQ [] (mc 0 U mn) U U ?_;clear hQ hN;refine cB ?_
 (simp_all;done)
theorem M3 (j:dy) (kA:OA) (kC:Nat) (az:List RA) (cA:OA) (cC:Nat) (bA:OA) (bC:Nat) (slA:OA) (slC:Nat) (drA:OA) (drC:Nat) (ha:List cq) (heA:OA) (heC:Nat) (faA:OA) (faC:Nat) (prA:OA) (prC:Nat) (hraw:v7 j az ha):
 dh Tryz.prog 5 [(vA (km.cells (rL j kA kC cA cC bA bC slA slC drA drC heA heC faA faC prA prC)))] (Cl j kA az cA bA slA drA ha heA faA prA) (vB (decide (tI j))):=by
 have C:=hraw.race;have D:=hraw.nf;have E:=hraw.np;refine bj kr Tryz.func5 U U fun G Q hQ hN=>?_
 try dsimp only
 refine aU bT 2 U<|dV U fun F=>aU aj 6 U<|rS (LP (cf.cells (pN j.Race kA kC cA cC bA bC slA slC drA drC heA heC)) 0 U bP U U U)<|rS (CL (Et j.Race kA kC az cA cC bA bC slA slC drA drC ha heA heC asm) (aP [1,2,3,4,5,6,7,8]) U)<|aq aj 1 ?_;refine bK (t:=6) U (aG fun B=>?_) (aH fun B=>?_)
 ·refine cr aj 15 hQ U U ?_
  (exact cB (cR (show tI j from .inl (.inl B))).symm)
 refine ck aj 6 [] (mc 0 U mn) ?_;refine bK (t:=12) U (aG fun A=>?_) (aH fun A=>?_)
 ·refine cr aj 9 hQ U U ?_
  (exact cB (cR (show tI j from .inl (.inr A))).symm)
 refine yR aj 9 hQ [] (mc 0 U mn) U U ?_
 (exact cB (gR.2 (show _↔tI j from ⟨.inr,fun q=>Or.elim q (fun q=>Or.elim q (fun q=>absurd q B) (fun q=>absurd q A)) id⟩)))
end
section
open Go.RowKit
variable (l:bf) (kA:OA) (kC:Nat) (az:List RA) (cA:OA) (cC:Nat) (bA:OA) (bC:Nat) (d:ak) (sgA:OA) (sgC:Nat)
theorem Hm (hin:dX l az) (hle:dU l=0) (hsl:d.bp.ab.length≤1000000) (hk:d.Out=true):
 dh Tryz.prog 154 [(vA (bV.cells (kO l kA kC cA cC bA bC))),(vA (aO.cells (aO.mk d.Out d.cZ d.Time (jP d.bp sgA sgC))))] ((rr l kA az cA bA)++[(rd sgA d.bp.ab.length 2 (d.bp.ab.map aR.cells))]) (vT [(vA (aa.cells (qM l d))),(vB (decide (jl l d)))]):=by
 have G:=hin.sQ;have F:=hin.sR;have D:=hin.mE;have E:=hin.sP;refine bj kr Tryz.func154 U U fun K Q hQ hN=>?_
 try dsimp only
 refine aU bT 2 U<|dV U fun H=>dV U fun AA=>AL U dD fun J=>ck aj 12 [] (mc 1 U mn) ?_;refine bE U (fun C=>?_) (fun C=>?_)
 ·exact absurd ((hk).symm.trans C) dc
 refine aU aY 2 U<|rS (SX (aW (xs:=[]) (cs:=(aa.cells (aa.mk 0 0))) U U (aV gQ U)) U U)<|ck aj 4 [] (mc 1 U mn) ?_;refine cz (t:=15) U (fun A=>?_) (fun A=>?_)
 ·rw [m5] at A;refine aU aj 10 U<|eM U cK U<|aq aj 4 ?_;refine mP hQ [0] (mc 0 U mn) U ?_;clear hQ hN;rw [CY hk];simp only [s_ hk];refine c7 (fun z=>Value.tuple #[_,vB z]) ?_
  first|rfl|(simp_all [gP];done)
 rw [e0] at A;refine aU aj 1 U<|rS (LP (aa.cells d.Time) 1 U bP U U U)<|rS (SX (aW (xs:=[]) (cs:=(aa.cells (aa.mk 0 0))) U U (aV gQ U)) U U)<|rS (BI U (wN _ _ d.Time (aa.mk 0 0)))<|aq aj 2 ?_;refine cz (t:=21) U (aH fun B=>?_) (aG fun B=>?_)
 ·refine aU aj 4 U<|eM U cK U<|aq aj 4 ?_;refine mP hQ [0] (mc 0 U mn) U ?_;clear hQ hN;rw [CY hk];simp only [s_ hk];refine c7 (fun z=>Value.tuple #[_,vB z]) ?_
  first|rfl|(simp_all [gP];done)
 refine aU aj 1 U<|rS (LP (dA.cells (jP d.bp sgA sgC)) 1 U bP U U U)<|rS (CL (Jk d.bp sgA sgC) (aP [7]) U)<|aU aj 1 U<|eM U cK U<|aq aj 4 ?_;refine mP hQ [0] (mc 0 U mn) U ?_;clear hQ hN;rw [CY hk];simp only [s_ hk];refine c7 (fun z=>Value.tuple #[_,vB z]) ?_
 first|rfl|(simp_all [gP];done)
theorem Hh (hin:dX l az) (hle:dU l=0) (hsl:d.bp.ab.length≤1000000) (hk:d.Out=false∧d.cZ=true):
 dh Tryz.prog 154 [(vA (bV.cells (kO l kA kC cA cC bA bC))),(vA (aO.cells (aO.mk d.Out d.cZ d.Time (jP d.bp sgA sgC))))] ((rr l kA az cA bA)++[(rd sgA d.bp.ab.length 2 (d.bp.ab.map aR.cells))]) (vT [(vA (aa.cells (qM l d))),(vB (decide (jl l d)))]):=by
 have AA:=hin.sQ;have H:=hin.sR;have F:=hin.mE;have G:=hin.sP;refine bj kr Tryz.func154 U U fun M Q hQ hN=>?_
 try dsimp only
 refine aU bT 2 U<|dV U fun J=>dV U fun K=>AL U dD fun L=>ck aj 12 [] (mc 1 U mn) ?_;refine bY U (fun E=>?_) (fun E=>?_)
 ·exact absurd ((hk.1).symm.trans E) dc
 refine ck aY 7 [] (mc 1 U mn) ?_;refine bE U (fun C=>?_) (fun C=>?_)
 ·exact absurd ((hk.2).symm.trans C) dc
 refine aq aY 1 ?_;refine cT bX [10] [] [] [1,2,3,4,5,6,7] [] U U U U U<|eS U (FA 2 U eB U)<|eS U (LP (aa.cells d.Time) 0 U bP U U U)<|eS U (FA 2 U eB U)<|eS U (LP (aa.cells d.Time) 0 U bP U U U)<|eS U (CL (DV d.Time) (aA) U)<|eS U (MV U)<|ur (t:=34) U (fun A=>?_) (fun A=>?_);rotate_left 1
 ·replace A:=DF A;refine eS U (OX U)<|eS U (OX U)<|eS U (OX U)<|eS U (PK U)<|eS U (AG U)<|dL U<|bR U fun T10 B=>eM U cK U<|bG (B _ _ (aB [1,2,3,4,5,6,7]) ?_);refine eI U<|aq jC 2 ?_;refine mP hQ [0] (mc 0 U mn) U ?_;clear hQ hN B T10;rw [Jx hk];simp only [tS hk];refine c7 (fun z=>Value.tuple #[_,vB z]) ?_
  first|rfl|(simp_all;done)
 replace A:=DT A;refine eS U (FA 4 U eB U)<|eS U (LP (dA.cells (jP d.bp sgA sgC)) 0 U bP U U U)<|eS U (CL (Jk d.bp sgA sgC) (aP [6]) U)<|eS U (PK U)<|eS U (AG U)<|dL U<|bR U fun T9 D=>eM U cK U<|bG (D _ _ (aB [1,2,3,4,5,6,7]) ?_);refine eI U<|aq jC 2 ?_;refine mP hQ [0] (mc 0 U mn) U ?_;clear hQ hN D T9;rw [Jx hk];simp only [tS hk];refine c7 (fun z=>Value.tuple #[_,vB z]) ?_
 first|rfl|(simp_all;done)
theorem H5 (hin:dX l az) (hle:dU l=0) (hsl:d.bp.ab.length≤1000000) (hk:d.Out=false∧d.cZ=false):
 dh Tryz.prog 154 [(vA (bV.cells (kO l kA kC cA cC bA bC))),(vA (aO.cells (aO.mk d.Out d.cZ d.Time (jP d.bp sgA sgC))))] ((rr l kA az cA bA)++[(rd sgA d.bp.ab.length 2 (d.bp.ab.map aR.cells))]) (vT [(vA (aa.cells (qM l d))),(vB (decide (jl l d)))]):=by
 have AA:=hin.sQ;have H:=hin.sR;have F:=hin.mE;have G:=hin.sP;refine bj kr Tryz.func154 U U fun N Q hQ hN=>?_
 try dsimp only
 refine aU bT 2 U<|dV U fun J=>dV U fun K=>AL U dD fun L=>ck aj 12 [] (mc 1 U mn) ?_;refine bY U (fun E=>?_) (fun E=>?_)
 ·exact absurd ((hk.1).symm.trans E) dc
 refine ck aY 7 [] (mc 1 U mn) ?_;refine bY U (fun D=>?_) (fun D=>?_)
 ·exact absurd ((hk.2).symm.trans D) dc
 refine dF aY 7 [] (mc 2 U mn) U<|rS (LP (dA.cells (jP d.bp sgA sgC)) 1 U bP U U U)<|rS (CL (UN l kA kC az cA cC bA bC d.bp sgA sgC hin hsl) (aP [3,4,5,6,7]) U)<|aU aj 3 U<|AL U dD fun M=>eM U cK U<|aq aj 4 ?_;refine cT bX [9] [] [] [0,2,3,4,5,6,7,8] [] U U U U U<|eS U (LW 0 U bP U U)<|eS U (MV U)<|eS U (BI U ny)<|eS U (MV U)<|ur (t:=49) U (fun A=>?_) (fun A=>?_);rotate_left 1
 ·replace A:=DF A;refine eS U (OX U)<|eS U (OX U)<|eS U (OX U)<|eS U (OX U)<|eS U (PK U)<|eS U (AG U)<|dL U<|bR U fun T12 C=>o_ U cK U<|bG (C _ _ (aB [0,2,3,4,5,6,7,8]) ?_);refine eI U<|aq jC 2 ?_;refine mP hQ [0] (mc 1 U mn) U ?_;clear hQ hN C T12;rw [I1 hk];simp only [AV hk];refine c7 (fun z=>Value.tuple #[_,vB z]) ?_
  first|rfl|(simp_all [gP];done)
 replace A:=DT A;refine eS U (FA 2 U eB U)<|eS U (LP (aa.cells d.Time) 1 U bP U U U)<|eS U (SX (aW (xs:=[]) (cs:=(aa.cells (aa.mk 0 0))) U U (aV gQ U)) U U)<|eS U (BI U (wN _ _ d.Time (aa.mk 0 0)))<|eS U (PK U)<|eS U (AG U)<|dL U<|bR U fun T11 B=>o_ U cK U<|bG (B _ _ (aB [0,2,3,4,5,6,7,8]) ?_);refine eI U<|aq jC 2 ?_;refine mP hQ [0] (mc 1 U mn) U ?_;clear hQ hN B T11;rw [I1 hk];simp only [AV hk];refine c7 (fun z=>Value.tuple #[_,vB z]) ?_
 first|rfl|(simp_all [gP];done)
theorem KO (hin:dX l az) (hle:dU l=0) (hsl:d.bp.ab.length≤1000000):
 dh Tryz.prog 154 [(vA (bV.cells (kO l kA kC cA cC bA bC))),(vA (aO.cells (aO.mk d.Out d.cZ d.Time (jP d.bp sgA sgC))))] ((rr l kA az cA bA)++[(ke sgA d.bp.ab)]) (vT [(vA (aa.cells (qM l d))),(vB (decide (jl l d)))]):=by
 by_cases ho:d.Out=true
 ·exact Hm l kA kC az cA cC bA bC d sgA sgC hin hle hsl ho
 by_cases hf:d.cZ=true
 ·exact Hh l kA kC az cA cC bA bC d sgA sgC hin hle hsl ⟨by simpa using ho,hf⟩
 ·exact H5 l kA kC az cA cC bA bC d sgA sgC hin hle hsl ⟨by simpa using ho,by simpa using hf⟩
end
section
open Go.RowKit
theorem HT (r:cN) (kA:OA) (kC:Nat) (az:List RA) (cA:OA) (cC:Nat) (bA:OA) (bC:Nat) (slA:OA) (slC:Nat) (drA:OA) (drC:Nat) (ha:List cq) (heA:OA) (heC:Nat) (hin:gI r az ha) (hle:dU r.ar=0):
 ld Tryz.prog 102 [(vA (cf.cells (pN r kA kC cA cC bA bC slA slC drA drC heA heC)))] (DI r kA az cA bA slA drA ha heA) (fun (x:Bool×Int×(OA)×Nat×(List RA))=>bif x.1 then (vT [(vS x.2.2.1 ((dN r).length) x.2.2.2.1),(vB true)]) else (vT [(vS none 0 0),(vB false)])) (fun (x:Bool×Int×(OA)×Nat×(List RA))=>(x.1=true→(fq r∧x.2.2.2.2.length=r.ax.length))∧(x.1=false→(x.2.1=0∧ ¬ fq r))) (fun (x:Bool×Int×(OA)×Nat×(List RA))=>bif x.1 then [(own x.2.2.1 x.2.2.2.1 102 1 (zipWith MB (dN r) x.2.2.2.2)),(bD (bB HN (dN r) x.2.2.2.2))] else []):=by
 have C0:=hin.line;have EU:=hin.g_;have Eq:=hin.has;have DR:=hin.g9;have C3:=hin.draw;have Di:=fG (r:=r);refine cU kr Tryz.func102 U U fun w0 Q hQ hN=>?_
 try dsimp only
 refine aU bT 2 U<|dV U fun b2=>dF aj 16 [] (mc 0 U mn) U<|rS (CL (qR (r.a_.length:Int) 1 5) (aA) U)<|aq aj 2 ?_;refine bK (t:=19) U (aK fun A8=>?_) (aJ fun A8=>?_)
 ·refine aq aj 29 ?_;refine LX hQ (false,0,none,0,[]) [] [] mn U (by rfl) U U ?_
  (exact ⟨Dv,fun _=>⟨rfl,fun q=>by have P:=q.num;have q2:=q.Bt;have q3:=q.nh;have q4:=q.D0;omega⟩⟩)
 refine ck aj 7 [] (mc 0 U mn) ?_;refine bK (t:=26) U (aK fun T=>?_) (aJ fun T=>?_)
 ·refine aq aj 22 ?_;refine LX hQ (false,0,none,0,[]) [] [] mn U (by rfl) U U ?_
  (exact ⟨Dv,fun _=>⟨rfl,fun q=>by have P:=q.num;have q2:=q.Bt;have q3:=q.nh;have q4:=q.D0;omega⟩⟩)
 refine dF aj 2 [] (mc 0 U mn) U<|rS (CL (qR r.jz 0 5) (aA) U)<|aq aj 3 ?_;refine bK (t:=32) U (aK fun A9=>?_) (aJ fun A9=>?_)
 ·refine aq aj 16 ?_;refine LX hQ (false,0,none,0,[]) [] [] mn U (by rfl) U U ?_
  (exact ⟨Dv,fun _=>⟨rfl,fun q=>by have P:=q.num;have q2:=q.Bt;have q3:=q.nh;have q4:=q.D0;omega⟩⟩)
 refine dF aj 3 [] (mc 0 U mn) U<|rS (CL (qR (r.ax.length:Int) 1 3) (aA) U)<|aq aj 4 ?_;refine bY U (aK fun BP=>?_) (aJ fun BP=>?_)
 ·refine aq aY 7 ?_;refine LX hQ (false,0,none,0,[]) [] [] mn U (by rfl) U U ?_
  (exact ⟨Dv,fun _=>⟨rfl,fun q=>by have P:=q.num;have q2:=q.Bt;have q3:=q.nh;have q4:=q.D0;omega⟩⟩)
 refine aq aY 9 ?_;have A:(0≤r.a_.length)∧(zO r 0):=by exact ⟨c4 _,PU⟩
 refine bw (ι:={z:Nat // (z≤r.a_.length)∧(zO r z)}) [1,4] [0,1,2,3,4,5,6,7,8] U U (fun z=>[(5,(vI (z.1:Int)))]) (fun z=>[]) (fun _=>rfl) (fun _=>rfl) (fun z=>r.a_.length-z.1) ⟨0,A⟩ (aN U) (aB [0,1,2,3,4,5,6,7,8]) ?_;clear A;rintro ⟨i,⟨Cx,AB⟩⟩ J12 R
 try dsimp only
 refine aq bT 8 ?_;refine bE U (aH fun A7=>?_) (aG fun A7=>?_)
 ·refine aU aY 1 U<|aq fz 14 ?_;refine eC 102 1<|mo ?_;have A:(0≤r.ax.length)∧(([]:List RA).length=0)∧(lJ r 0):=by exact ⟨c4 _,rfl,AE⟩
  refine bw (ι:={z:Nat×(List RA)×(OA)×Nat // (z.1≤r.ax.length)∧(z.2.1.length=z.1)∧(lJ r z.1)}) [1,4] [2,3,4,5,6,7,8,9,10] U U (fun z=>[(7,(vS z.1.2.2.1 ((zipWith Ek (ij r z.1.1) z.1.2.1).length) z.1.2.2.2)),(8,(vI (z.1.1:Int)))]) (fun z=>[(bD (bB HN (ij r z.1.1) z.1.2.1)),(own z.1.2.2.1 z.1.2.2.2 102 1 (map sC (zipWith Ek (ij r z.1.1) z.1.2.1)))]) (fun _=>rfl) (fun _=>rfl) (fun z=>r.ax.length-z.1.1) ⟨(0,([]:List RA),none,0),A⟩ (aN U) (aB [2,3,4,5,6,7,8,9,10,0,1]) ?_;clear A;rintro ⟨⟨h,tz,a,c⟩,⟨N,C,F⟩⟩ J46 Z
  try dsimp only at N C F
  try dsimp only
  refine ck bT 10 [] (mc 0 U mn) ?_;refine bE U (aH fun Bv=>?_) (aG fun Bv=>?_)
  ·refine aU aY 1 U<|aq fz 3 ?_;have Cp:ij r h=dN r:=by unfold dN;rw [show h=r.ax.length by omega]
   have C1:tz.length=r.ax.length:=by omega
   rw [Cp,BA,show (zipWith Ek (dN r) tz).length=(dN r).length from by rw [m4];omega];have AO:fq r:=Ll (n:=i) I I I I I AB F I;refine aq aY 7 ?_;refine LX hQ (true,0,a,c,tz) [10,9] [] mn U (by (show all _ _=true;simp only [AAS,eX,om,DL,n4];rfl)) U U ?_;exact ⟨fun _=>⟨AO,C1⟩,QS⟩
  refine ck aY 10 [] (mc 0 U mn) ?_;obtain ⟨ht,D⟩:=ay r.ax h I;obtain ⟨E,H⟩:=ay ha h I;have S:(zipWith di r.ax ha)[h]? =some (di ht E):=cE D H;refine rS (IA h U (av 7 U) my dc I I) ?_;have AC:=hin.fE _ _ _ D H;have DA:=AC.mE;refine rS (gF h 0 (vS E.1.1 ht.length E.1.2) U bP (av 7 U) S U dc U)<|aq aj 5 ?_;refine bY U (aK fun W=>?_) (aJ fun W=>?_)
  ·refine aq aY 7 ?_;refine LX hQ (false,0,none,0,[]) [] [] mn U (by rfl) U U ?_
   (exact ⟨Dv,fun _=>⟨rfl,fun q=>by have P:=(q.fE ht (aF D)).1;omega⟩⟩)
  refine aq aY 14 ?_;refine eC 38 2 ?_;have A:(0≤ht.length)∧(p6 r.ar ht 0):=by exact ⟨c4 _,yF⟩
  refine bw (ι:={z:Nat×(OA)×Nat // (z.1≤ht.length)∧(p6 r.ar ht z.1)}) [1,4,7,8] [1,2,3,4,5,6,7,8,9,10,11] U U (fun z=>[(9,(vS z.1.2.1 (((ht.take z.1.1).map (gf r.ar)).length) z.1.2.2)),(10,(vI (z.1.1:Int)))]) (fun z=>[(own z.1.2.1 z.1.2.2 38 2 (((ht.take z.1.1).map (gf r.ar)).map aa.cells))]) (fun _=>rfl) (fun _=>rfl) (fun z=>ht.length-z.1.1) ⟨(0,none,0),A⟩ (aN U) (aB [1,2,3,4,5,6,7,8,9,10,11,0]) ?_;clear A;rintro ⟨⟨j,la,lc⟩,⟨O,G⟩⟩ J57 e
  try dsimp only at O G
  try dsimp only
  refine aq bT 8 ?_;refine bE U (aH fun B9=>?_) (aG fun B9=>?_)
  ·refine aU aY 1 U<|aq fz 3 ?_;rw [show ((ht.take j).map (gf r.ar))=ht.map (gf r.ar) from by rw [c5 I]];refine aq aj 2 ?_;refine dC (xs:=[.tmp 137]) (cs:=[(vS la ((ht.map (gf r.ar)).length) lc)]) U Wl I9 U U U U (by simp [Value.cells]) U U fun EQ=>?_;refine de (es2:=(map sC (zipWith Ek (ij r (h+1)) (tz++[(la,lc)])))) (m':=(zipWith Ek (ij r (h+1)) (tz++[(la,lc)])).length) 11 U U U YZ U U sm (aM (es:=map sC [(aX.mk la ((ht.map (gf r.ar)).length) lc)]) 0 U U (by simp [Cg]) U) (Nj _) (by rw [m4,ml I];omega) (by rw [m4,ml I];simp only [maxLen];omega) (by rw [wE D C,AAF];rfl) (by rw [wE D C];simp) U fun A4 A6=>?_
   try dsimp only
   refine aq aj 9 ?_;refine By (X':=bB HN (ij r (h+1)) (tz++[(la,lc)])) 10 12 U U (FD (a:=(la,lc)) D C) ?_;have v:(vI (((h+1):Nat):Int))=(vI ((h:Int)+1)):=by exact cI I
   refine aL (Z ⟨((h+1),(tz++[(la,lc)]),A4,A6),⟨I,by simp;omega,AU F D (I6 I G I)⟩⟩ _ _ _ U os (cx 3<|aQ U v<|cV.nil _) (aB [2,3,4,5,6,7,8,9,10,0,11]))
  refine aq aY 5 ?_;refine cT bX [14,15] [] [] [0,1,2,3,4,5,6,7,8,9,10,11] [] U U U U U<|eS U (FA 0 U eB U)<|eS U (LP (bV.cells (kO r.ar kA kC cA cC bA bC)) 0 U bP U U U)<|eS U (FA 10 U eB U)<|eS U (L1 (vS heA r.ax.length heC) 0 U bP U U)<|eS U (MV U)<|eS U (IA h U (av 7 U) my dc I I)<|eS U (gF h 0 (vS E.1.1 ht.length E.1.2) U bP (av 7 U) S U dc U)<|eS U (MV U) ?_;obtain ⟨d,hd⟩:=ay ht j I;obtain ⟨da,w⟩:=ay E.2 j I;have Ck:(zipWith ak.cells ht E.2)[j]? =some (ak.cells d da):=cE hd w;refine eS U (IA j U (show ig _ (rd E.1.1 ht.length 7 (zipWith ak.cells ht E.2)).holds from (ct 8 U (bq D H bZ))) rK dc I I)<|eS U (k8 j 0 (aO.cells (aO.mk d.Out d.cZ d.Time (dA.mk d.bp.Start d.bp.hP (aX.mk da.1 d.bp.ab.length da.2)))) U bP (show ig _ (rd E.1.1 ht.length 7 (zipWith ak.cells ht E.2)).holds from (ct 8 U (bq D H bZ))) Ck U dc U U) ?_;have Es:=AC.sig d (aF hd);refine eS U (CL (KO r.ar kA kC az cA cC bA bC d da.1 da.2 asm hle asm) (lZ [1,2,3,4]<|aw (show ig _ (rd da.1 d.bp.ab.length 2 (d.bp.ab.map aR.cells)).holds from (ct 8 U (bq D H (dk _ (bq hd w (by simp [ak.lf]))))))<|aA) U)<|eS U (MV U)<|eS U (EX U)<|eS U (EX U)<|eS U (AG U)<|dL U<|bR U fun T63 f=>AL U dD fun Dn=>bG (f _ _ (aB [1,2,3,4,5,6,7,8,9,10,11,12]) ?_);refine bR U fun T65 g=>eM U cK U<|bG (g _ _ (aB [1,2,3,4,5,6,7,8,9,10,11,12]) ?_);refine eI U<|aq jC 8 ?_;refine bY U (aK fun J=>?_) (aJ fun J=>?_)
  ·refine aq aY 7 ?_;refine LX hQ (false,0,none,0,[]) [] [] mn U (by rfl) U U ?_
   (exact ⟨Dv,fun _=>⟨rfl,fun q=>by exact J ((q.fE ht (aF D)).2 d (aF hd))⟩⟩)
  refine ck aY 5 [] (mc 0 U mn) ?_;refine dC (xs:=[.tmp 133]) (cs:=(aa.cells (qM r.ar d))) U iv dD U U U U (by simp [Value.cells,aa.aD]) U U fun Do=>?_;refine de (es2:=(map aa.cells ((ht.take (j+1)).map (gf r.ar)))) (m':=((ht.take (j+1)).map (gf r.ar)).length) 13 U U U CB U U sm (aM (es:=map aa.cells [(qM r.ar d)]) 0 U U (by simp [aa.aD]) U) (jE _) (by simp only [c3,k5];omega) (by simp only [maxLen,c3,k5];omega) (by rw [l1,hd];simp [N5 J]) sq U fun A3 A5=>?_
  try dsimp only
  refine aq aj 9 ?_;have s:(vI (((j+1):Nat):Int))=(vI ((j:Int)+1)):=by exact cI I
  refine aL (e ⟨((j+1),A3,A5),⟨I,yw G hd J⟩⟩ _ _ _ U os (cx 5<|aQ U s<|cV.nil _) (aB [2,3,4,5,6,7,8,9,10,11,12,13]))
 refine aU aY 6 U<|cL bX 36 kr<|dP 3 [] (mc 0 U mn) ?_;obtain ⟨y,hy⟩:=ay r.a_ i I;have Ap:=bx iC hy;refine dS (IA i U (av 5 U) cO dc I I)<|dS (gF i 0 (vI y) U bP (av 5 U) Ap U dc U)<|dS (CL (qR y 0 9999) (aA) U)<|dP 2 [] mn ?_;refine iI (t:=51) U (aK fun B3=>?_) (aJ fun B3=>?_)
 ·refine iQ 28 U<|cy<|aq aj 10 ?_;refine LX hQ (false,0,none,0,[]) [] [] mn U (by rfl) U U ?_
  (exact ⟨Dv,fun _=>⟨rfl,fun q=>by have P:=(q.ids i y hy).1;omega⟩⟩)
 refine dP 3 [] mn ?_;refine iM (t:=54) U (aH fun B7=>?_) (aG fun B7=>?_)
 ·refine dP 18 [] (mc 0 U mn) ?_;obtain ⟨x,hx⟩:=ay r.db i I;have L:=bx iC hx;refine dS (IA i U (av 6 U) cO dc I I)<|dS (gF i 0 (vI x) U bP (av 6 U) L U dc U)<|iQ 2 U<|dS (CL (qR x 0 ((r.a_.length:Int)-1)) (aA) U)<|iQ 2 U<|cy<|aq aj 2 ?_;refine bY U (aK fun AA=>?_) (aJ fun AA=>?_)
  ·refine aq aY 7 ?_;refine LX hQ (false,0,none,0,[]) [] [] mn U (by rfl) U U ?_
   (exact ⟨Dv,fun _=>⟨rfl,fun q=>by have P:=q.MK hx;omega⟩⟩)
  refine aq aY 8 ?_;have A:(0≤i)∧(∀ (q:Nat) y,q<0→r.db[q]? =some y→y≠x):=by exact ⟨c4 _,fun q y hq=>absurd hq (s4 _)⟩
  refine bw (ι:={z:Nat // (z≤i)∧(∀ (q:Nat) y,q<z→r.db[q]? =some y→y≠x)}) [1,4,5] [0,1,2,3,4,5,6,7,8] U U (fun z=>[(6,(vI (z.1:Int)))]) (fun z=>[]) (fun _=>rfl) (fun _=>rfl) (fun z=>i-z.1) ⟨0,A⟩ (aN U) (aB [0,1,2,3,4,5,6,7,8]) ?_;clear A;rintro ⟨k,⟨M,B⟩⟩ J34 Y
  try dsimp only
  refine aq bT 8 ?_;refine bE U (aH fun BD=>?_) (aG fun BD=>?_)
  ·refine aU aY 1 U<|aq fz 8 ?_;have p:(vI (((i+1):Nat):Int))=(vI ((i:Int)+1)):=by exact cI I
   refine aL (R ⟨(i+1),⟨I,E9 AB (fun a ha=>by rw [hy] at ha;cases ha;exact ⟨I,fun b hb hc=>by omega⟩) (fun a ha=>by rw [hx] at ha;cases ha;exact ⟨I,fun k b hk hb=>B k b I hb⟩)⟩⟩ _ _ _ rfl os (cV.cons rfl<|cV.cons rfl<|aQ rfl p<|cV.nil _) (aB [0,1,2,3,4,5,6,7,8]))
  refine aU aY 5 U<|cL bX 11 kr<|dP 3 [] (mc 0 U mn) ?_;obtain ⟨u,hu⟩:=ay r.db k I;have V:=bx iC hu;refine dS (IA k U (av 6 U) cO dc I I)<|dS (gF k 0 (vI u) U bP (av 6 U) V U dc U)<|jY 3 [] (mc 0 U mn) U<|dS (IA i U (av 6 U) cO dc I I)<|dS (gF i 0 (vI x) U bP (av 6 U) L U dc U)<|iQ 1 U<|cy<|aq aj 2 ?_;refine bE U (aH fun K=>?_) (aG fun K=>?_)
  ·refine aq aY 8 ?_;have o:(vI (((k+1):Nat):Int))=(vI ((k:Int)+1)):=by exact cI I
   refine aL (Y ⟨(k+1),⟨I,zM B hu K⟩⟩ _ _ _ U os (cx 3<|aQ U o<|cV.nil _) (aB [0,1,2,3,4,5,6,7,8]))
  refine aq aY 7 ?_;refine LX hQ (false,0,none,0,[]) [] [] mn U (by rfl) U U ?_
  (exact ⟨Dv,fun _=>⟨rfl,fun q=>by have P:=q.num;have q2:=q.Bt;have q3:=q.nh;have q4:=q.D0;omega⟩⟩)
 refine jY 3 [] (mc 0 U mn) U<|dS (IA i U (av 5 U) cO dc I I)<|dS (gF i 0 (vI y) U bP (av 5 U) Ap U dc U)<|dP 4 [] (mc 0 U mn) ?_;obtain ⟨z,hz⟩:=ay r.a_ (i-1) I;have C2:=bx iC hz;refine dS (IA (i-1) U (av 5 U) cO dc I I)<|dS (gF (i-1) 0 (vI z) U bP (av 5 U) C2 U dc U)<|dP 4 [] mn ?_;refine iI (t:=69) U (aG fun Ci=>?_) (aH fun Ci=>?_)
 ·refine iQ 10 U<|cy<|aq aj 10 ?_;refine LX hQ (false,0,none,0,[]) [] [] mn U (by rfl) U U ?_
  (exact ⟨Dv,fun _=>⟨rfl,fun q=>by have P:=(q.ids i y hy).2 z I hz;omega⟩⟩)
 refine dP 3 [] (mc 0 U mn) ?_;obtain ⟨x,hx⟩:=ay r.db i I;have L:=bx iC hx;refine dS (IA i U (av 6 U) cO dc I I)<|dS (gF i 0 (vI x) U bP (av 6 U) L U dc U)<|iQ 2 U<|dS (CL (qR x 0 ((r.a_.length:Int)-1)) (aA) U)<|iQ 2 U<|cy<|aq aj 2 ?_;refine bY U (aK fun AA=>?_) (aJ fun AA=>?_)
 ·refine aq aY 7 ?_;refine LX hQ (false,0,none,0,[]) [] [] mn U (by rfl) U U ?_
  (exact ⟨Dv,fun _=>⟨rfl,fun q=>by have P:=q.MK hx;omega⟩⟩)
 refine aq aY 8 ?_;have A:(0≤i)∧(∀ (q:Nat) y,q<0→r.db[q]? =some y→y≠x):=by exact ⟨c4 _,fun q y hq=>absurd hq (s4 _)⟩
 refine bw (ι:={z:Nat // (z≤i)∧(∀ (q:Nat) y,q<z→r.db[q]? =some y→y≠x)}) [1,4,5] [0,1,2,3,4,5,6,7,8] U U (fun z=>[(6,(vI (z.1:Int)))]) (fun z=>[]) (fun _=>rfl) (fun _=>rfl) (fun z=>i-z.1) ⟨0,A⟩ (aN U) (aB [0,1,2,3,4,5,6,7,8]) ?_;clear A;rintro ⟨k,⟨M,B⟩⟩ J23 X
 try dsimp only
 refine aq bT 8 ?_;refine bE U (aH fun T=>?_) (aG fun T=>?_)
 ·refine aU aY 1 U<|aq fz 8 ?_;have m:(vI (((i+1):Nat):Int))=(vI ((i:Int)+1)):=by exact cI I
  refine aL (R ⟨(i+1),⟨I,E9 AB (fun a ha=>by rw [hy] at ha;cases ha;exact ⟨I,fun b hb hc=>by (rw [hz] at hc;cases hc;omega)⟩) (fun a ha=>by rw [hx] at ha;cases ha;exact ⟨I,fun k b hk hb=>B k b I hb⟩)⟩⟩ _ _ _ rfl os (cV.cons rfl<|cV.cons rfl<|aQ rfl m<|cV.nil _) (aB [0,1,2,3,4,5,6,7,8]))
 refine aU aY 5 U<|cL bX 11 kr<|dP 3 [] (mc 0 U mn) ?_;obtain ⟨u,hu⟩:=ay r.db k I;have V:=bx iC hu;refine dS (IA k U (av 6 U) cO dc I I)<|dS (gF k 0 (vI u) U bP (av 6 U) V U dc U)<|jY 3 [] (mc 0 U mn) U<|dS (IA i U (av 6 U) cO dc I I)<|dS (gF i 0 (vI x) U bP (av 6 U) L U dc U)<|iQ 1 U<|cy<|aq aj 2 ?_;refine bE U (aH fun K=>?_) (aG fun K=>?_)
 ·refine aq aY 8 ?_;have l:(vI (((k+1):Nat):Int))=(vI ((k:Int)+1)):=by exact cI I
  refine aL (X ⟨(k+1),⟨I,zM B hu K⟩⟩ _ _ _ U os (cx 3<|aQ U l<|cV.nil _) (aB [0,1,2,3,4,5,6,7,8]))
 refine aq aY 7 ?_;refine LX hQ (false,0,none,0,[]) [] [] mn U (by rfl) U U ?_
 (exact ⟨Dv,fun _=>⟨rfl,fun q=>by exact q.VD I hu hx K⟩⟩)
end
section
open Go.RowKit
theorem Kz (r:cN) (kA:OA) (kC:Nat) (az:List RA) (cA:OA) (cC:Nat) (bA:OA) (bC:Nat) (slA:OA) (slC:Nat) (drA:OA) (drC:Nat) (ha:List cq) (heA:OA) (heC:Nat) (hin:gI r az ha):
 ld Tryz.prog 53 [(vA (cf.cells (pN r kA kC cA cC bA bC slA slC drA drC heA heC)))] (DI r kA az cA bA slA drA ha heA) (fun (x:Bool×Int×(OA)×Nat×(List RA))=>bif x.1 then (vT [(vS x.2.2.1 ((dN r).length) x.2.2.2.1),(vI 0)]) else (vT [(vS none 0 0),(vI x.2.1)])) (fun (x:Bool×Int×(OA)×Nat×(List RA))=>(x.1=true→(eK r=0∧x.2.2.2.2.length=r.ax.length))∧(x.1=false→(x.2.1=eK r∧ ¬ eK r=0))) (fun (x:Bool×Int×(OA)×Nat×(List RA))=>bif x.1 then [(Xh x.2.2.1 x.2.2.2.1 (dN r) x.2.2.2.2),(bD (bB HN (dN r) x.2.2.2.2))] else []):=by
 have AA:=hin.line;have O:=hin.g_;have P:=hin.has;have M:=hin.g9;have L:=hin.draw;have N:=fG (r:=r);refine cU kr Tryz.func53 U U fun T Q hQ hN=>?_
 try dsimp only
 refine aU bT 2 U<|dV U fun S=>aU aj 8 U<|rS (LP (bV.cells (kO r.ar kA kC cA cC bA bC)) 0 U bP U U U)<|rS (CL (w5 r.ar kA kC az cA cC bA bC asm) (aP [1,2,3,4]) U)<|aq aj 9 ?_;refine bY U (aK fun A=>?_) (aJ fun A=>?_)
 ·refine aq aY 8 ?_;refine LX hQ (false,(dU r.ar),none,0,[]) [] [] mn U (by rfl) U U ?_;exact qY<|QG (Cq A) A
 refine ck aY 5 [] (mc 0 U mn) ?_;refine cX (HT r kA kC az cA cC bA bC slA slC drA drC ha heA heC hin (by exact A)) (aP [1,2,3,4,5,6,7,8]) U fun R D=>?_;obtain ⟨E,K,F,G,H⟩:=R;cases E;rotate_left 1
 ·obtain ⟨C,J⟩:=D.1 rfl
  try dsimp only [cond_true,cond_false,List.cons_append,List.nil_append]
  refine aq aj 25 ?_;refine LX hQ (true,0,F,G,H) [0,1] [] mn U (by (show all _ _=true;simp only [AAS,eX,om,DL,n4];rfl)) U U ?_;exact ⟨fun _=>⟨zG A C,J⟩,QS⟩
 obtain ⟨B,he⟩:=D.2 rfl
 try dsimp only at B he
 subst B
 try dsimp only [cond_true,cond_false,List.cons_append,List.nil_append]
 refine aq aj 22 ?_;refine LX hQ (false,60,none,0,[]) [] [] mn U (by rfl) U U ?_;exact qY<|pM (l9 A he)
end
section
open Go.RowKit
theorem LG (r:cN) (kA:OA) (kC:Nat) (az:List RA) (cA:OA) (cC:Nat) (bA:OA) (bC:Nat) (slA:OA) (slC:Nat) (drA:OA) (drC:Nat) (ha:List cq) (heA:OA) (heC:Nat) (hin:gI r az ha):
 dh Tryz.prog 23 [(vA (cf.cells (pN r kA kC cA cC bA bC slA slC drA drC heA heC)))] (DI r kA az cA bA slA drA ha heA) (vI (eK r)):=by
 have D:=hin.line;have AA:=hin.g_;have J:=hin.has;have F:=hin.g9;have E:=hin.draw;have G:=fG (r:=r);refine bj kr Tryz.func23 U U fun R Q hQ hN=>?_
 try dsimp only
 refine aU bT 2 U<|dV U fun P=>ck aj 6 [] (mc 0 U mn) ?_;refine cX (Kz r kA kC az cA cC bA bC slA slC drA drC ha heA heC hin) (aP [1,2,3,4,5,6,7,8]) U fun O B=>?_;obtain ⟨C,H,L,M,N⟩:=O;cases C;rotate_left 1
 ·obtain ⟨he,K⟩:=B.1 rfl
  try dsimp only [cond_true,cond_false,List.cons_append,List.nil_append]
  refine cr aj 14 hQ U U ?_
  first|rfl|(rw [he])
 obtain ⟨A,he⟩:=B.2 rfl
 try dsimp only at A he
 subst A
 try dsimp only [cond_true,cond_false,List.cons_append,List.nil_append]
 refine cr aj 14 hQ U U ?_
 first|rfl|(rw [he])
end
section
open Go.RowKit
theorem Lg (j:dy) (kA:OA) (kC:Nat) (az:List RA) (cA:OA) (cC:Nat) (bA:OA) (bC:Nat) (slA:OA) (slC:Nat) (drA:OA) (drC:Nat) (ha:List cq) (heA:OA) (heC:Nat) (faA:OA) (faC:Nat) (prA:OA) (prC:Nat) (hin:jy j az ha) (hjr:eK j.Race=0):
 dh Tryz.prog 24 [(vA (km.cells (rL j kA kC cA cC bA bC slA slC drA drC heA heC faA faC prA prC)))] (Cl j kA az cA bA slA drA ha heA faA prA) (vB (decide (s8 j))):=by
 have Z:=hin.race;have C0:=hin.race.line;have FS:=hin.race.g_;have Fd:=hin.race.has;have DR:=hin.race.g9;have C3:=hin.nf;have DA:=hin.np;have Fn:=(dG hjr).1;have v:=(dG hjr).2;refine bj kr Tryz.func24 U U fun w0 Q hQ hN=>?_
 try dsimp only
 refine aU bT 2 U<|dV U fun b2=>ck aj 11 [] (mc 0 U mn) ?_;refine bK (t:=12) U (aG fun h5=>?_) (aH fun h5=>?_)
 ·refine cr aj 26 hQ U U ?_
  first|exact cB (bg (fun q=>by have C:=q.nf;have H:=q.min_;have J:=q.vN;have K:=q.np;omega)).symm|exact cB (bg (fun q=>by have C:=q.fault f (aF hf);unfold fr at C;split at C<;>omega)).symm|exact cB (bg (fun q=>by have A:=q.iL _ p hp;have C:=A.id;have H:=A.kS;have J:=A.fE;have K:=A.fault;simp only [mN] at H;first|omega|(have AA:=A.up T I L;omega))).symm|exact cB (bg (fun q=>by obtain ⟨P,G,AB,S⟩:=(q.iL _ p hp).nj;rw [F] at G;cases G;first|exact E AB|exact h148 AB|omega)).symm|exact cB (cR ⟨I,ei D I,I,I,I,fun i p hi=>B i p (by have:=(aT.1 hi).1;omega) hi⟩).symm
 refine dF aj 2 [] (mc 0 U mn) U<|rS (CL (jN j.ju 0 60) (aA) U)<|aq aj 3 ?_;refine bK (t:=18) U (aK fun h7=>?_) (aJ fun h7=>?_)
 ·refine cr aj 20 hQ U U ?_
  first|exact cB (bg (fun q=>by have C:=q.nf;have H:=q.min_;have J:=q.vN;have K:=q.np;omega)).symm|exact cB (bg (fun q=>by have C:=q.fault f (aF hf);unfold fr at C;split at C<;>omega)).symm|exact cB (bg (fun q=>by have A:=q.iL _ p hp;have C:=A.id;have H:=A.kS;have J:=A.fE;have K:=A.fault;simp only [mN] at H;first|omega|(have AA:=A.up T I L;omega))).symm|exact cB (bg (fun q=>by obtain ⟨P,G,AB,S⟩:=(q.iL _ p hp).nj;rw [F] at G;cases G;first|exact E AB|exact h148 AB|omega)).symm|exact cB (cR ⟨I,ei D I,I,I,I,fun i p hi=>B i p (by have:=(aT.1 hi).1;omega) hi⟩).symm
 refine dF aj 2 [] (mc 0 U mn) U<|rS (CL (jN j.LS 0 100000) (aA) U)<|aq aj 3 ?_;refine bK (t:=24) U (aK fun h9=>?_) (aJ fun h9=>?_)
 ·refine cr aj 14 hQ U U ?_
  first|exact cB (bg (fun q=>by have C:=q.nf;have H:=q.min_;have J:=q.vN;have K:=q.np;omega)).symm|exact cB (bg (fun q=>by have C:=q.fault f (aF hf);unfold fr at C;split at C<;>omega)).symm|exact cB (bg (fun q=>by have A:=q.iL _ p hp;have C:=A.id;have H:=A.kS;have J:=A.fE;have K:=A.fault;simp only [mN] at H;first|omega|(have AA:=A.up T I L;omega))).symm|exact cB (bg (fun q=>by obtain ⟨P,G,AB,S⟩:=(q.iL _ p hp).nj;rw [F] at G;cases G;first|exact E AB|exact h148 AB|omega)).symm|exact cB (cR ⟨I,ei D I,I,I,I,fun i p hi=>B i p (by have:=(aT.1 hi).1;omega) hi⟩).symm
 refine ck aj 7 [] (mc 0 U mn) ?_;refine bY U (aG fun x=>?_) (aH fun x=>?_)
 ·refine cr aY 6 hQ U U ?_
  first|exact cB (bg (fun q=>by have C:=q.nf;have H:=q.min_;have J:=q.vN;have K:=q.np;omega)).symm|exact cB (bg (fun q=>by have C:=q.fault f (aF hf);unfold fr at C;split at C<;>omega)).symm|exact cB (bg (fun q=>by have A:=q.iL _ p hp;have C:=A.id;have H:=A.kS;have J:=A.fE;have K:=A.fault;simp only [mN] at H;first|omega|(have AA:=A.up T I L;omega))).symm|exact cB (bg (fun q=>by obtain ⟨P,G,AB,S⟩:=(q.iL _ p hp).nj;rw [F] at G;cases G;first|exact E AB|exact h148 AB|omega)).symm|exact cB (cR ⟨I,ei D I,I,I,I,fun i p hi=>B i p (by have:=(aT.1 hi).1;omega) hi⟩).symm
 refine aq aY 9 ?_;have R:(0≤j.bu.length)∧(qE j 0):=by exact ⟨c4 _,Eo⟩
 refine bw (ι:={z:Nat // (z≤j.bu.length)∧(qE j z)}) [1] [0,1,2,3,4,5,6,7,8,9,10] U U (fun z=>[(3,(vI (z.1:Int)))]) (fun z=>[]) (fun _=>rfl) (fun _=>rfl) (fun z=>j.bu.length-z.1) ⟨0,R⟩ (aN U) (aB [0,1,2,3,4,5,6,7,8,9,10]) ?_;clear R;rintro ⟨i,⟨Cx,D⟩⟩ J15 V
 try dsimp only
 refine ck bT 10 [] (mc 0 U mn) ?_;refine bY U (aG fun y=>?_) (aH fun y=>?_)
 ·refine ck aY 9 [] (mc 0 U mn) ?_;obtain ⟨f,hf⟩:=ay j.bu i I;have Cp:=bx bL.cells hf;refine rS (IA i U (av 9 U) Ld dc I I)<|rS (k8 i 0 (bL.cells f) U bP (av 9 U) Cp U dc U U)<|AL U TI fun Di=>eM U Tz U<|dF aj 9 [] (mc 0 U mn) U<|rS (CL (jN f.ou 0 f.To) (aA) U)<|aq aj 2 ?_;refine bK (t:=48) U (aK fun AO=>?_) (aJ fun AO=>?_)
  ·refine cr aj 13 hQ U U ?_
   first|exact cB (bg (fun q=>by have C:=q.nf;have H:=q.min_;have J:=q.vN;have K:=q.np;omega)).symm|exact cB (bg (fun q=>by have C:=q.fault f (aF hf);unfold fr at C;split at C<;>omega)).symm|exact cB (bg (fun q=>by have A:=q.iL _ p hp;have C:=A.id;have H:=A.kS;have J:=A.fE;have K:=A.fault;simp only [mN] at H;first|omega|(have AA:=A.up T I L;omega))).symm|exact cB (bg (fun q=>by obtain ⟨P,G,AB,S⟩:=(q.iL _ p hp).nj;rw [F] at G;cases G;first|exact E AB|exact h148 AB|omega)).symm|exact cB (cR ⟨I,ei D I,I,I,I,fun i p hi=>B i p (by have:=(aT.1 hi).1;omega) hi⟩).symm
  refine ck aj 6 [] (mc 0 U mn) ?_;refine bY U (aG fun Ap=>?_) (aH fun Ap=>?_)
  ·refine cr aY 6 hQ U U ?_
   first|exact cB (bg (fun q=>by have C:=q.nf;have H:=q.min_;have J:=q.vN;have K:=q.np;omega)).symm|exact cB (bg (fun q=>by have C:=q.fault f (aF hf);unfold fr at C;split at C<;>omega)).symm|exact cB (bg (fun q=>by have A:=q.iL _ p hp;have C:=A.id;have H:=A.kS;have J:=A.fE;have K:=A.fault;simp only [mN] at H;first|omega|(have AA:=A.up T I L;omega))).symm|exact cB (bg (fun q=>by obtain ⟨P,G,AB,S⟩:=(q.iL _ p hp).nj;rw [F] at G;cases G;first|exact E AB|exact h148 AB|omega)).symm|exact cB (cR ⟨I,ei D I,I,I,I,fun i p hi=>B i p (by have:=(aT.1 hi).1;omega) hi⟩).symm
  refine dF aY 11 [] (mc 0 U mn) U<|rS (BI U ny)<|aq aj 3 ?_;refine bY U (aG fun A0=>?_) (aH fun A0=>?_)
  ·refine ck aY 7 [] (mc 0 U mn) ?_;refine bE U (aJ fun A1=>?_) (aK fun A1=>?_)
   ·refine aq aY 9 ?_;have l:(vI (((i+1):Nat):Int))=(vI ((i:Int)+1)):=by exact cI I
    refine aL (V ⟨(i+1),⟨I,s7 D hf (by refine ⟨I,I,I,?_⟩;split<;>omega)⟩⟩ _ _ _ U os (cV.cons U<|aQ U l<|cV.nil _) (aB [1,2,3,4,5,6,7,8,9,10,11]))
   refine cr aY 6 hQ U U ?_
   first|exact cB (bg (fun q=>by have C:=q.nf;have H:=q.min_;have J:=q.vN;have K:=q.np;omega)).symm|exact cB (bg (fun q=>by have C:=q.fault f (aF hf);unfold fr at C;split at C<;>omega)).symm|exact cB (bg (fun q=>by have A:=q.iL _ p hp;have C:=A.id;have H:=A.kS;have J:=A.fE;have K:=A.fault;simp only [mN] at H;first|omega|(have AA:=A.up T I L;omega))).symm|exact cB (bg (fun q=>by obtain ⟨P,G,AB,S⟩:=(q.iL _ p hp).nj;rw [F] at G;cases G;first|exact E AB|exact h148 AB|omega)).symm|exact cB (cR ⟨I,ei D I,I,I,I,fun i p hi=>B i p (by have:=(aT.1 hi).1;omega) hi⟩).symm
  refine aU aY 3 U<|rS (BI U ny)<|aq aj 3 ?_;refine bY U (aG fun A2=>?_) (aH fun A2=>?_)
  ·refine aq aY 2 ?_;refine bE U (aH fun A3=>?_) (aG fun A3=>?_)
   ·refine cr aY 6 hQ U U ?_
    first|exact cB (bg (fun q=>by have C:=q.nf;have H:=q.min_;have J:=q.vN;have K:=q.np;omega)).symm|exact cB (bg (fun q=>by have C:=q.fault f (aF hf);unfold fr at C;split at C<;>omega)).symm|exact cB (bg (fun q=>by have A:=q.iL _ p hp;have C:=A.id;have H:=A.kS;have J:=A.fE;have K:=A.fault;simp only [mN] at H;first|omega|(have AA:=A.up T I L;omega))).symm|exact cB (bg (fun q=>by obtain ⟨P,G,AB,S⟩:=(q.iL _ p hp).nj;rw [F] at G;cases G;first|exact E AB|exact h148 AB|omega)).symm|exact cB (cR ⟨I,ei D I,I,I,I,fun i p hi=>B i p (by have:=(aT.1 hi).1;omega) hi⟩).symm
   refine dF aY 8 [0,1] (mc 0 U (mc 1 U mn)) U<|rS (CL (jN f.jf 0 j.Race.ar.b_) (aA) U)<|aq aj 3 ?_;refine bE U (aJ fun A4=>?_) (aK fun A4=>?_)
   ·refine aq aY 9 ?_;have m:(vI (((i+1):Nat):Int))=(vI ((i:Int)+1)):=by exact cI I
    refine aL (V ⟨(i+1),⟨I,s7 D hf (by refine ⟨I,I,I,?_⟩;split<;>omega)⟩⟩ _ _ _ U os (cV.cons U<|aQ U m<|cV.nil _) (aB [1,2,3,4,5,6,7,8,9,10,11]))
   refine cr aY 6 hQ U U ?_
   first|exact cB (bg (fun q=>by have C:=q.nf;have H:=q.min_;have J:=q.vN;have K:=q.np;omega)).symm|exact cB (bg (fun q=>by have C:=q.fault f (aF hf);unfold fr at C;split at C<;>omega)).symm|exact cB (bg (fun q=>by have A:=q.iL _ p hp;have C:=A.id;have H:=A.kS;have J:=A.fE;have K:=A.fault;simp only [mN] at H;first|omega|(have AA:=A.up T I L;omega))).symm|exact cB (bg (fun q=>by obtain ⟨P,G,AB,S⟩:=(q.iL _ p hp).nj;rw [F] at G;cases G;first|exact E AB|exact h148 AB|omega)).symm|exact cB (cR ⟨I,ei D I,I,I,I,fun i p hi=>B i p (by have:=(aT.1 hi).1;omega) hi⟩).symm
  refine aU aY 1 U<|rS (BI U ny)<|aq aj 3 ?_;refine bE U (aH fun A5=>?_) (aG fun A5=>?_)
  ·refine cr aY 6 hQ U U ?_
   first|exact cB (bg (fun q=>by have C:=q.nf;have H:=q.min_;have J:=q.vN;have K:=q.np;omega)).symm|exact cB (bg (fun q=>by have C:=q.fault f (aF hf);unfold fr at C;split at C<;>omega)).symm|exact cB (bg (fun q=>by have A:=q.iL _ p hp;have C:=A.id;have H:=A.kS;have J:=A.fE;have K:=A.fault;simp only [mN] at H;first|omega|(have AA:=A.up T I L;omega))).symm|exact cB (bg (fun q=>by obtain ⟨P,G,AB,S⟩:=(q.iL _ p hp).nj;rw [F] at G;cases G;first|exact E AB|exact h148 AB|omega)).symm|exact cB (cR ⟨I,ei D I,I,I,I,fun i p hi=>B i p (by have:=(aT.1 hi).1;omega) hi⟩).symm
  refine dF aY 8 [0,1] (mc 0 U (mc 1 U mn)) U<|rS (CL (jN f.jf 0 j.Race.ar.b_) (aA) U)<|aq aj 3 ?_;refine bE U (aJ fun A6=>?_) (aK fun A6=>?_)
  ·refine aq aY 9 ?_;have n:(vI (((i+1):Nat):Int))=(vI ((i:Int)+1)):=by exact cI I
   refine aL (V ⟨(i+1),⟨I,s7 D hf (by refine ⟨I,I,I,?_⟩;split<;>omega)⟩⟩ _ _ _ U os (cV.cons U<|aQ U n<|cV.nil _) (aB [1,2,3,4,5,6,7,8,9,10,11]))
  refine cr aY 6 hQ U U ?_
  first|exact cB (bg (fun q=>by have C:=q.nf;have H:=q.min_;have J:=q.vN;have K:=q.np;omega)).symm|exact cB (bg (fun q=>by have C:=q.fault f (aF hf);unfold fr at C;split at C<;>omega)).symm|exact cB (bg (fun q=>by have A:=q.iL _ p hp;have C:=A.id;have H:=A.kS;have J:=A.fE;have K:=A.fault;simp only [mN] at H;first|omega|(have AA:=A.up T I L;omega))).symm|exact cB (bg (fun q=>by obtain ⟨P,G,AB,S⟩:=(q.iL _ p hp).nj;rw [F] at G;cases G;first|exact E AB|exact h148 AB|omega)).symm|exact cB (cR ⟨I,ei D I,I,I,I,fun i p hi=>B i p (by have:=(aT.1 hi).1;omega) hi⟩).symm
 refine aU aY 1 U<|aq fz 9 ?_;have R:(0≤j.bH.length)∧(qg j 0):=by exact ⟨c4 _,Ba⟩
 refine bw (ι:={z:Nat // (z≤j.bH.length)∧(qg j z)}) [1] [0,1,2,3,4,5,6,7,8,9,10] U U (fun z=>[(5,(vI (z.1:Int)))]) (fun z=>[]) (fun _=>rfl) (fun _=>rfl) (fun z=>j.bH.length-z.1) ⟨0,R⟩ (aN U) (aB [0,1,2,3,4,5,6,7,8,9,10]) ?_;clear R;rintro ⟨k,⟨w,B⟩⟩ J52 Y
 try dsimp only
 refine ck bT 10 [] (mc 0 U mn) ?_;refine bE U (aH fun A7=>?_) (aG fun A7=>?_)
 ·refine aU aY 1 U<|cr fz 8 hQ U U ?_
  first|exact cB (bg (fun q=>by have C:=q.nf;have H:=q.min_;have J:=q.vN;have K:=q.np;omega)).symm|exact cB (bg (fun q=>by have C:=q.fault f (aF hf);unfold fr at C;split at C<;>omega)).symm|exact cB (bg (fun q=>by have A:=q.iL _ p hp;have C:=A.id;have H:=A.kS;have J:=A.fE;have K:=A.fault;simp only [mN] at H;first|omega|(have AA:=A.up T I L;omega))).symm|exact cB (bg (fun q=>by obtain ⟨P,G,AB,S⟩:=(q.iL _ p hp).nj;rw [F] at G;cases G;first|exact E AB|exact h148 AB|omega)).symm|exact cB (cR ⟨I,ei D I,I,I,I,fun i p hi=>B i p (by have:=(aT.1 hi).1;omega) hi⟩).symm
 refine ck aY 9 [] (mc 0 U mn) ?_;obtain ⟨p,hp⟩:=ay j.bH k I;have C1:=bx cG.cells hp;refine rS (IA k U (av 10 U) N4 dc I I)<|rS (k8 k 0 (cG.cells p) U bP (av 10 U) C1 U dc U U)<|AL U MJ fun Dn=>eM U Ok U<|aU aj 4 U<|cL bX 52 kr<|jY 2 [] (mc 0 U mn) U<|dS (CL (jN p.Id 0 9999) (aA) U)<|dP 2 [] mn ?_;refine iI (t:=87) U (aK fun A8=>?_) (aJ fun A8=>?_)
 ·refine iQ 47 U<|cy<|cr aj 9 hQ U U ?_
  first|exact cB (bg (fun q=>by have C:=q.nf;have H:=q.min_;have J:=q.vN;have K:=q.np;omega)).symm|exact cB (bg (fun q=>by have C:=q.fault f (aF hf);unfold fr at C;split at C<;>omega)).symm|exact cB (bg (fun q=>by have A:=q.iL _ p hp;have C:=A.id;have H:=A.kS;have J:=A.fE;have K:=A.fault;simp only [mN] at H;omega)).symm|exact cB (bg (fun q=>by obtain ⟨P,G,AB,S⟩:=(q.iL _ p hp).nj;rw [F] at G;cases G;first|exact E AB|exact h148 AB|omega)).symm|exact cB (cR ⟨I,ei D I,I,I,I,fun i p hi=>B i p (by have:=(aT.1 hi).1;omega) hi⟩).symm
 refine dP 3 [] mn ?_;refine iM (t:=90) U (aH fun A9=>?_) (aG fun A9=>?_)
 ·refine jY 20 [0,1] (mc 0 U (mc 1 U mn)) U<|dS (CL (jN p.ji 0 ((j.Race.a_.length:Int)-1)) (aA) U)<|dP 3 [] mn ?_;refine iI (t:=114) U (aK fun B7=>?_) (aJ fun B7=>?_)
  ·refine iQ 20 U<|cy<|cr aj 9 hQ U U ?_
   first|exact cB (bg (fun q=>by have C:=q.nf;have H:=q.min_;have J:=q.vN;have K:=q.np;omega)).symm|exact cB (bg (fun q=>by have C:=q.fault f (aF hf);unfold fr at C;split at C<;>omega)).symm|exact cB (bg (fun q=>by have A:=q.iL _ p hp;have C:=A.id;have H:=A.kS;have J:=A.fE;have K:=A.fault;simp only [mN] at H;omega)).symm|exact cB (bg (fun q=>by obtain ⟨P,G,AB,S⟩:=(q.iL _ p hp).nj;rw [F] at G;cases G;first|exact E AB|exact h148 AB|omega)).symm|exact cB (cR ⟨I,ei D I,I,I,I,fun i p hi=>B i p (by have:=(aT.1 hi).1;omega) hi⟩).symm
  refine jY 7 [0,1] (mc 0 U (mc 1 U mn)) U<|dS (CL (jN p.jW 0 ((j.Race.ax.length:Int)-1)) (aA) U)<|dP 3 [] mn ?_;refine iI (t:=125) U (aK fun B9=>?_) (aJ fun B9=>?_)
  ·refine iQ 9 U<|cy<|cr aj 9 hQ U U ?_
   first|exact cB (bg (fun q=>by have C:=q.nf;have H:=q.min_;have J:=q.vN;have K:=q.np;omega)).symm|exact cB (bg (fun q=>by have C:=q.fault f (aF hf);unfold fr at C;split at C<;>omega)).symm|exact cB (bg (fun q=>by have A:=q.iL _ p hp;have C:=A.id;have H:=A.kS;have J:=A.fE;have K:=A.fault;simp only [mN] at H;omega)).symm|exact cB (bg (fun q=>by obtain ⟨P,G,AB,S⟩:=(q.iL _ p hp).nj;rw [F] at G;cases G;first|exact E AB|exact h148 AB|omega)).symm|exact cB (cR ⟨I,ei D I,I,I,I,fun i p hi=>B i p (by have:=(aT.1 hi).1;omega) hi⟩).symm
  refine jY 6 [0,1] (mc 0 U (mc 1 U mn)) U<|dS (CL (jN p.lk 0 ((j.bu.length:Int)-1)) (aA) U)<|iQ 2 U<|cy<|aq aj 2 ?_;refine bY U (aK fun Ci=>?_) (aJ fun Ci=>?_)
  ·refine cr aY 6 hQ U U ?_
   first|exact cB (bg (fun q=>by have C:=q.nf;have H:=q.min_;have J:=q.vN;have K:=q.np;omega)).symm|exact cB (bg (fun q=>by have C:=q.fault f (aF hf);unfold fr at C;split at C<;>omega)).symm|exact cB (bg (fun q=>by have A:=q.iL _ p hp;have C:=A.id;have H:=A.kS;have J:=A.fE;have K:=A.fault;simp only [mN] at H;omega)).symm|exact cB (bg (fun q=>by obtain ⟨P,G,AB,S⟩:=(q.iL _ p hp).nj;rw [F] at G;cases G;first|exact E AB|exact h148 AB|omega)).symm|exact cB (cR ⟨I,ei D I,I,I,I,fun i p hi=>B i p (by have:=(aT.1 hi).1;omega) hi⟩).symm
  refine aq aY 3 ?_;refine cT bX [11,12] [] [] [0,1,2,3,4,5,6,7,8,9,10,11] [] U U U U U<|eS U (FA 0 U eB U)<|eS U (FA 10 U eB U)<|eS U (L1 (vS heA j.Race.ax.length heC) 1 U bP U U)<|eS U (FA 2 U eB U)<|eS U (L1 (vI p.jW) 0 U bP U U) ?_;obtain ⟨ht,O⟩:=ay j.Race.ax ((p.jW).toNat) I;obtain ⟨M,N⟩:=ay ha ((p.jW).toNat) I;have X:(zipWith di j.Race.ax ha)[(p.jW).toNat]? =some (di ht M):=cE O N;refine eS U (IA ((p.jW).toNat) U (av 8 U) my dc I I) ?_;have W:=Z.fE _ _ _ O N;have s:=W.mE;have u:=(v.fE ht (aF O)).1;refine eS U (gF ((p.jW).toNat) 0 (vS M.1.1 ht.length M.1.2) U bP (av 8 U) X U dc U)<|eS U (FA 1 U eB U)<|eS U (L1 (vI p.ji) 0 U bP U U) ?_;obtain ⟨d,hd⟩:=ay ht ((p.ji).toNat) I;obtain ⟨da,a⟩:=ay M.2 ((p.ji).toNat) I;have b:(zipWith ak.cells ht M.2)[(p.ji).toNat]? =some (ak.cells d da):=cE hd a;refine eS U (IA ((p.ji).toNat) U (show ig _ (mT M.1.1 ht M.2).holds from (ct 9 U (bq O N bZ))) rK dc I I) ?_;have F:=qW (j:=j) (p:=p) O hd;have C2:=W.sig d (aF hd);refine eS U (k8 ((p.ji).toNat) 0 (aO.cells (aO.mk d.Out d.cZ d.Time (dA.mk d.bp.Start d.bp.hP (aX.mk da.1 d.bp.ab.length da.2)))) U bP (show ig _ (mT M.1.1 ht M.2).holds from (ct 9 U (bq O N bZ))) b U dc U U)<|dL U<|bR U fun T88 g=>AL U Mq fun D0=>bG (g _ _ (aB [1,2,3,4,5,6,7,8,9,10,11,12]) ?_);refine bR U fun T90 h=>eM U GD U<|bG (h _ _ (aB [1,2,3,4,5,6,7,8,9,10,11,12]) ?_);refine eI U<|dF jC 4 [] (mc 0 U mn) U<|rS (CL (IG d.Out d.cZ d.Time (dA.mk d.bp.Start d.bp.hP (aX.mk da.1 d.bp.ab.length da.2))) (aA) U)<|aq aj 2 ?_;refine bK (t:=149) U (aK fun E=>?_) (aJ fun E=>?_)
  ·refine cr aj 17 hQ U U ?_
   first|exact cB (bg (fun q=>by have C:=q.nf;have H:=q.min_;have J:=q.vN;have K:=q.np;omega)).symm|exact cB (bg (fun q=>by have C:=q.fault f (aF hf);unfold fr at C;split at C<;>omega)).symm|exact cB (bg (fun q=>by have A:=q.iL _ p hp;have C:=A.id;have H:=A.kS;have J:=A.fE;have K:=A.fault;simp only [mN] at H;first|omega|(have AA:=A.up T I L;omega))).symm|exact cB (bg (fun q=>by obtain ⟨P,G,AB,S⟩:=(q.iL _ p hp).nj;rw [F] at G;cases G;exact E AB)).symm|exact cB (cR ⟨I,ei D I,I,I,I,fun i p hi=>B i p (by have:=(aT.1 hi).1;omega) hi⟩).symm
  refine dF aj 5 [0,1] (mc 1 U (mc 0 U mn)) U<|rS (CL (jN p.At d.bp.Start 86400000) (aA) U)<|aq aj 4 ?_;refine bE U (aJ fun Ck=>?_) (aK fun Ck=>?_)
  ·refine aq aY 8 ?_;have r:(vI (((k+1):Nat):Int))=(vI ((k:Int)+1)):=by exact cI I
   refine aL (Y ⟨(k+1),⟨I,vp B hp ⟨I,fun q h1 h2=>by omega,by simp only [mN];omega,I,I,d,F,by first|exact E|exact h148,I⟩⟩⟩ _ _ _ U os (cV.cons U<|aQ U r<|cV.nil _) (aB [2,3,4,5,6,7,8,9,10,11,12]))
  refine cr aY 6 hQ U U ?_
  first|exact cB (bg (fun q=>by have C:=q.nf;have H:=q.min_;have J:=q.vN;have K:=q.np;omega)).symm|exact cB (bg (fun q=>by have C:=q.fault f (aF hf);unfold fr at C;split at C<;>omega)).symm|exact cB (bg (fun q=>by have A:=q.iL _ p hp;have C:=A.id;have H:=A.kS;have J:=A.fE;have K:=A.fault;simp only [mN] at H;first|omega|(have AA:=A.up T I L;omega))).symm|exact cB (bg (fun q=>by obtain ⟨P,G,AB,S⟩:=(q.iL _ p hp).nj;rw [F] at G;cases G;omega)).symm|exact cB (cR ⟨I,ei D I,I,I,I,fun i p hi=>B i p (by have:=(aT.1 hi).1;omega) hi⟩).symm
 refine dP 6 [0,1] (mc 0 U (mc 1 U mn)) ?_;obtain ⟨T,L⟩:=ay j.bH (k-1) I;have hp0m:=bx cG.cells L;refine dS (IA (k-1) U (av 11 U) N4 dc I I)<|dS (p9 ((k-1)*5) U (av 11 U) (e6 I dc) eB U)<|dS (gF (k-1) 0 (vI T.Id) U bP (av 11 U) hp0m U dc U)<|dP 4 [] mn ?_;refine iI (t:=103) U (aG fun BD=>?_) (aH fun BD=>?_)
 ·refine iQ 31 U<|cy<|cr aj 9 hQ U U ?_
  first|exact cB (bg (fun q=>by have C:=q.nf;have H:=q.min_;have J:=q.vN;have K:=q.np;omega)).symm|exact cB (bg (fun q=>by have C:=q.fault f (aF hf);unfold fr at C;split at C<;>omega)).symm|exact cB (bg (fun q=>by have A:=q.iL _ p hp;have C:=A.id;have H:=A.kS;have J:=A.fE;have K:=A.fault;simp only [mN] at H;(have AA:=A.up T I L;omega))).symm|exact cB (bg (fun q=>by obtain ⟨P,G,AB,S⟩:=(q.iL _ p hp).nj;rw [F] at G;cases G;first|exact E AB|exact h148 AB|omega)).symm|exact cB (cR ⟨I,ei D I,I,I,I,fun i p hi=>B i p (by have:=(aT.1 hi).1;omega) hi⟩).symm
 refine jY 7 [0,1] (mc 0 U (mc 1 U mn)) U<|dS (CL (jN p.ji 0 ((j.Race.a_.length:Int)-1)) (aA) U)<|dP 3 [] mn ?_;refine iI (t:=114) U (aK fun BP=>?_) (aJ fun BP=>?_)
 ·refine iQ 20 U<|cy<|cr aj 9 hQ U U ?_
  first|exact cB (bg (fun q=>by have C:=q.nf;have H:=q.min_;have J:=q.vN;have K:=q.np;omega)).symm|exact cB (bg (fun q=>by have C:=q.fault f (aF hf);unfold fr at C;split at C<;>omega)).symm|exact cB (bg (fun q=>by have A:=q.iL _ p hp;have C:=A.id;have H:=A.kS;have J:=A.fE;have K:=A.fault;simp only [mN] at H;omega)).symm|exact cB (bg (fun q=>by obtain ⟨P,G,AB,S⟩:=(q.iL _ p hp).nj;rw [F] at G;cases G;first|exact E AB|exact h148 AB|omega)).symm|exact cB (cR ⟨I,ei D I,I,I,I,fun i p hi=>B i p (by have:=(aT.1 hi).1;omega) hi⟩).symm
 refine jY 7 [0,1] (mc 0 U (mc 1 U mn)) U<|dS (CL (jN p.jW 0 ((j.Race.ax.length:Int)-1)) (aA) U)<|dP 3 [] mn ?_;refine iI (t:=125) U (aK fun Bt=>?_) (aJ fun Bt=>?_)
 ·refine iQ 9 U<|cy<|cr aj 9 hQ U U ?_
  first|exact cB (bg (fun q=>by have C:=q.nf;have H:=q.min_;have J:=q.vN;have K:=q.np;omega)).symm|exact cB (bg (fun q=>by have C:=q.fault f (aF hf);unfold fr at C;split at C<;>omega)).symm|exact cB (bg (fun q=>by have A:=q.iL _ p hp;have C:=A.id;have H:=A.kS;have J:=A.fE;have K:=A.fault;simp only [mN] at H;omega)).symm|exact cB (bg (fun q=>by obtain ⟨P,G,AB,S⟩:=(q.iL _ p hp).nj;rw [F] at G;cases G;first|exact E AB|exact h148 AB|omega)).symm|exact cB (cR ⟨I,ei D I,I,I,I,fun i p hi=>B i p (by have:=(aT.1 hi).1;omega) hi⟩).symm
 refine jY 6 [0,1] (mc 0 U (mc 1 U mn)) U<|dS (CL (jN p.lk 0 ((j.bu.length:Int)-1)) (aA) U)<|iQ 2 U<|cy<|aq aj 2 ?_;refine bY U (aK fun Bv=>?_) (aJ fun Bv=>?_)
 ·refine cr aY 6 hQ U U ?_
  first|exact cB (bg (fun q=>by have C:=q.nf;have H:=q.min_;have J:=q.vN;have K:=q.np;omega)).symm|exact cB (bg (fun q=>by have C:=q.fault f (aF hf);unfold fr at C;split at C<;>omega)).symm|exact cB (bg (fun q=>by have A:=q.iL _ p hp;have C:=A.id;have H:=A.kS;have J:=A.fE;have K:=A.fault;simp only [mN] at H;omega)).symm|exact cB (bg (fun q=>by obtain ⟨P,G,AB,S⟩:=(q.iL _ p hp).nj;rw [F] at G;cases G;first|exact E AB|exact h148 AB|omega)).symm|exact cB (cR ⟨I,ei D I,I,I,I,fun i p hi=>B i p (by have:=(aT.1 hi).1;omega) hi⟩).symm
 refine aq aY 3 ?_;refine cT bX [11,12] [] [] [0,1,2,3,4,5,6,7,8,9,10,11] [] U U U U U<|eS U (FA 0 U eB U)<|eS U (FA 10 U eB U)<|eS U (L1 (vS heA j.Race.ax.length heC) 1 U bP U U)<|eS U (FA 2 U eB U)<|eS U (L1 (vI p.jW) 0 U bP U U) ?_;obtain ⟨ht,O⟩:=ay j.Race.ax ((p.jW).toNat) I;obtain ⟨M,N⟩:=ay ha ((p.jW).toNat) I;have X:(zipWith di j.Race.ax ha)[(p.jW).toNat]? =some (di ht M):=cE O N;refine eS U (IA ((p.jW).toNat) U (av 8 U) my dc I I) ?_;have W:=Z.fE _ _ _ O N;have s:=W.mE;have u:=(v.fE ht (aF O)).1;refine eS U (gF ((p.jW).toNat) 0 (vS M.1.1 ht.length M.1.2) U bP (av 8 U) X U dc U)<|eS U (FA 1 U eB U)<|eS U (L1 (vI p.ji) 0 U bP U U) ?_;obtain ⟨d,hd⟩:=ay ht ((p.ji).toNat) I;obtain ⟨da,a⟩:=ay M.2 ((p.ji).toNat) I;have b:(zipWith ak.cells ht M.2)[(p.ji).toNat]? =some (ak.cells d da):=cE hd a;refine eS U (IA ((p.ji).toNat) U (show ig _ (mT M.1.1 ht M.2).holds from (ct 9 U (bq O N bZ))) rK dc I I) ?_;have F:=qW (j:=j) (p:=p) O hd;have C2:=W.sig d (aF hd);refine eS U (k8 ((p.ji).toNat) 0 (aO.cells (aO.mk d.Out d.cZ d.Time (dA.mk d.bp.Start d.bp.hP (aX.mk da.1 d.bp.ab.length da.2)))) U bP (show ig _ (mT M.1.1 ht M.2).holds from (ct 9 U (bq O N bZ))) b U dc U U)<|dL U<|bR U fun T73 c=>AL U Mq fun Do=>bG (c _ _ (aB [1,2,3,4,5,6,7,8,9,10,11,12]) ?_);refine bR U fun T75 e=>eM U GD U<|bG (e _ _ (aB [1,2,3,4,5,6,7,8,9,10,11,12]) ?_);refine eI U<|dF jC 4 [] (mc 0 U mn) U<|rS (CL (IG d.Out d.cZ d.Time (dA.mk d.bp.Start d.bp.hP (aX.mk da.1 d.bp.ab.length da.2))) (aA) U)<|aq aj 2 ?_;refine bK (t:=149) U (aK fun E=>?_) (aJ fun E=>?_)
 ·refine cr aj 17 hQ U U ?_
  first|exact cB (bg (fun q=>by have C:=q.nf;have H:=q.min_;have J:=q.vN;have K:=q.np;omega)).symm|exact cB (bg (fun q=>by have C:=q.fault f (aF hf);unfold fr at C;split at C<;>omega)).symm|exact cB (bg (fun q=>by have A:=q.iL _ p hp;have C:=A.id;have H:=A.kS;have J:=A.fE;have K:=A.fault;simp only [mN] at H;first|omega|(have AA:=A.up T I L;omega))).symm|exact cB (bg (fun q=>by obtain ⟨P,G,AB,S⟩:=(q.iL _ p hp).nj;rw [F] at G;cases G;exact E AB)).symm|exact cB (cR ⟨I,ei D I,I,I,I,fun i p hi=>B i p (by have:=(aT.1 hi).1;omega) hi⟩).symm
 refine dF aj 5 [0,1] (mc 1 U (mc 0 U mn)) U<|rS (CL (jN p.At d.bp.Start 86400000) (aA) U)<|aq aj 4 ?_;refine bE U (aJ fun B3=>?_) (aK fun B3=>?_)
 ·refine aq aY 8 ?_;have o:(vI (((k+1):Nat):Int))=(vI ((k:Int)+1)):=by exact cI I
  refine aL (Y ⟨(k+1),⟨I,vp B hp ⟨I,fun q h1 h2=>by (rw [L] at h2;cases h2;omega),by simp only [mN];omega,I,I,d,F,by first|exact E|exact h148,I⟩⟩⟩ _ _ _ rfl os (cV.cons rfl<|aQ rfl o<|cV.nil _) (aB [2,3,4,5,6,7,8,9,10,11,12]))
 refine cr aY 6 hQ U U ?_
 first|exact cB (bg (fun q=>by have C:=q.nf;have H:=q.min_;have J:=q.vN;have K:=q.np;omega)).symm|exact cB (bg (fun q=>by have C:=q.fault f (aF hf);unfold fr at C;split at C<;>omega)).symm|exact cB (bg (fun q=>by have A:=q.iL _ p hp;have C:=A.id;have H:=A.kS;have J:=A.fE;have K:=A.fault;simp only [mN] at H;first|omega|(have AA:=A.up T I L;omega))).symm|exact cB (bg (fun q=>by obtain ⟨P,G,AB,S⟩:=(q.iL _ p hp).nj;rw [F] at G;cases G;omega)).symm|exact cB (cR ⟨I,ei D I,I,I,I,fun i p hi=>B i p (by have:=(aT.1 hi).1;omega) hi⟩).symm
end
section
open Go.RowKit
theorem Gi (j:dy) (kA:OA) (kC:Nat) (az:List RA) (cA:OA) (cC:Nat) (bA:OA) (bC:Nat) (slA:OA) (slC:Nat) (drA:OA) (drC:Nat) (ha:List cq) (heA:OA) (heC:Nat) (faA:OA) (faC:Nat) (prA:OA) (prC:Nat) (hin:jy j az ha):
 dh Tryz.prog 6 [(vA (km.cells (rL j kA kC cA cC bA bC slA slC drA drC heA heC faA faC prA prC)))] (Cl j kA az cA bA slA drA ha heA faA prA) (vI (fU j)):=by
 have F:=hin.race;have C:=hin.race.line;have H:=hin.race.g_;have AA:=hin.race.has;have G:=hin.race.g9;have D:=hin.nf;have E:=hin.np;refine bj kr Tryz.func6 U U fun K Q hQ hN=>?_
 try dsimp only
 refine aU bT 2 U<|dV U fun J=>aU aj 7 U<|rS (LP (cf.cells (pN j.Race kA kC cA cC bA bC slA slC drA drC heA heC)) 0 U bP U U U)<|rS (CL (LG j.Race kA kC az cA cC bA bC slA slC drA drC ha heA heC asm) (aP [1,2,3,4,5,6,7,8]) U)<|aq aj 9 ?_;refine bY U (aK fun B=>?_) (aJ fun B=>?_)
 ·exact cr aY 7 hQ U U<|cI (CR B).symm
 refine dF aY 6 [] (mc 0 U mn) U<|rS (CL (Lg j kA kC az cA cC bA bC slA slC drA drC ha heA heC faA faC prA prC hin asm) (aP [1,2,3,4,5,6,7,8,9,10]) U)<|aq aj 3 ?_;refine bY U (aK fun A=>?_) (aJ fun A=>?_)
 ·exact cr aY 6 hQ U U<|cI (kK B A).symm
 exact cr aY 8 hQ U U<|cI (AD B A).symm
end
section
open Go.RowKit
variable (l:List Int) (lA:OA) (lC:Nat)
theorem NI (n:Int) (hlen:l.length≤1000000):
 ld Tryz.prog 62 [(vS lA l.length lC),(vI n)] [(jx lA l)] (fun (x:Int)=>(vI x)) (fun (x:Int)=>(0≤x↔n∈l)) (fun (x:Int)=>[]):=by
 refine cU kr Tryz.func62 U U fun J Q hQ hN=>?_
 try dsimp only
 refine aq bT 14 ?_;have A:(0≤l.length)∧(∀ y∈l.take 0,y≠n):=by exact ⟨c4 _,fun y hy=>by simp at hy⟩
 refine bw (ι:={z:Nat // (z≤l.length)∧(∀ y∈l.take z,y≠n)}) [0,1,7] [0] U U (fun z=>[(8,(vI (z.1:Int)))]) (fun z=>[]) (fun _=>rfl) (fun _=>rfl) (fun z=>l.length-z.1) ⟨0,A⟩ (aN U) (aB [0]) ?_;clear A;rintro ⟨i,⟨F,B⟩⟩ J4 E
 try dsimp only
 refine aq bT 6 ?_;refine bE U (aH fun H=>?_) (aG fun H=>?_)
 ·refine aU aY 1 U<|aq fz 8 ?_;refine LX hQ (-1) [] [] mn U U U U ?_;exact ⟨fun q=>absurd q dc,fun q=>absurd q (fun AA=>B _ (by rw [c5 I];exact AA) U)⟩
 refine aq aY 15 ?_;obtain ⟨x,hx⟩:=ay l i I;have G:=bx iC hx;refine rS (IA i U (av 0 U) cO dc I I)<|rS (gF i 0 (vI x) U bP (av 0 U) G U dc U)<|aq aj 3 ?_;refine bY U (aG fun C=>?_) (aH fun C=>?_)
 ·refine aq aY 7 ?_;refine LX hQ (i:Int) [] [] mn U U U U ?_;exact ⟨fun _=>by rw [C];exact aF hx,fun _=>by omega⟩
 refine aq aY 7 ?_;have D:(vI (((i+1):Nat):Int))=(vI ((i:Int)+1)):=by exact cI I
 refine aL (E ⟨(i+1),⟨I,fun y hy=>by rw [l1,hx] at hy;rcases dZ.1 hy with q|q;exact B y q;exact (bU.1 q)▸fun e=>C e.symm⟩⟩ _ _ _ rfl os (cx 3<|aQ rfl D<|cV.nil _) (aB [0]))
theorem Ej (n:Int) (hlen:l.length≤1000000):
 dh Tryz.prog 28 [(vS lA l.length lC),(vI n)] [(jx lA l)] (vB (decide (n∈l))):=by
 refine bj kr Tryz.func28 U U fun D Q hQ hN=>?_
 try dsimp only
 refine aq bT 9 ?_;refine cX (NI l lA lC n hlen) (aP [0]) U fun C B=>?_
 try dsimp only
 have A:=B;exact cr aj 5 hQ U U<|cB (gR.2 A)
end
section
open Go.RowKit
theorem O4 (r:cN) (kA:OA) (kC:Nat) (az:List RA) (cA:OA) (cC:Nat) (bA:OA) (bC:Nat) (slA:OA) (slC:Nat) (drA:OA) (drC:Nat) (ha:List cq) (heA:OA) (heC:Nat) (hin:gI r az ha):
 ld Tryz.prog 29 [(vA (cf.cells (pN r kA kC cA cC bA bC slA slC drA drC heA heC)))] (DI r kA az cA bA slA drA ha heA) (fun (x:(OA)×Nat×(OA)×Nat×(List RA)×(OA)×Nat×(OA)×Nat×(OA)×Nat×(OA)×Nat×(List cq))=>(vA (cf.cells (cf.mk (bV.mk (aZ.mk (aX.mk x.1 r.ar.bQ.length x.2.1)) r.ar.g7 (aX.mk x.2.2.1 r.ar.aC.length x.2.2.2.1) (aX.mk x.2.2.2.2.2.1 r.ar.ai.length x.2.2.2.2.2.2.1) r.ar.b_ r.ar.eZ r.ar.dp) (aX.mk x.2.2.2.2.2.2.2.1 r.a_.length x.2.2.2.2.2.2.2.2.1) (aX.mk x.2.2.2.2.2.2.2.2.2.1 r.db.length x.2.2.2.2.2.2.2.2.2.2.1) r.jz (aX.mk x.2.2.2.2.2.2.2.2.2.2.2.1 r.ax.length x.2.2.2.2.2.2.2.2.2.2.2.2.1))))) (fun (x:(OA)×Nat×(OA)×Nat×(List RA)×(OA)×Nat×(OA)×Nat×(OA)×Nat×(OA)×Nat×(List cq))=>(x.2.2.2.2.1.length=r.ar.aC.length∧pX r.ar.aC x.2.2.2.2.1)∧sU r.ax x.2.2.2.2.2.2.2.2.2.2.2.2.2) (fun (x:(OA)×Nat×(OA)×Nat×(List RA)×(OA)×Nat×(OA)×Nat×(OA)×Nat×(OA)×Nat×(List cq))=>[(own x.1 x.2.1 65 9 (r.ar.bQ.map ag.cells)),(own x.2.2.1 x.2.2.2.1 109 2 (zipWith aS.cells r.ar.aC x.2.2.2.2.1)),(bD (bB aS.owns r.ar.aC x.2.2.2.2.1)),(own x.2.2.2.2.2.1 x.2.2.2.2.2.2.1 113 4 (r.ar.ai.map df.cells)),(own x.2.2.2.2.2.2.2.1 x.2.2.2.2.2.2.2.2.1 3 1 (r.a_.map iC)),(own x.2.2.2.2.2.2.2.2.2.1 x.2.2.2.2.2.2.2.2.2.2.1 3 1 (r.db.map iC)),(own x.2.2.2.2.2.2.2.2.2.2.2.1 x.2.2.2.2.2.2.2.2.2.2.2.2.1 68 1 (zipWith di r.ax x.2.2.2.2.2.2.2.2.2.2.2.2.2)),(bD (bB kB r.ax x.2.2.2.2.2.2.2.2.2.2.2.2.2))]):=by
 have C:=hin.line;have EU:=hin.g_;have M:=hin.has;have IO:=hin.g9;have Hi:=hin.draw;have IR:=fG (r:=r);have J9:=C.sQ;have J6:=C.sR;have J5:=C.sP;have Do:=C.mE;refine cU kr Tryz.func29 U U fun w0 Q hQ hN=>?_
 try dsimp only
 refine aU bT 2 U<|dV U fun b2=>AL U vm fun b3=>aq aj 9 ?_;refine cT bX [8,13,18,22,25,28] [7,11,15] [0,1,2] [0,2,3,4,5,6,7,8,9] [0,1,2,3,4,5,6,7,8,9] U U U U U<|eS U (MV U)<|eS U (MV U)<|eS U (MV U)<|eS U (MV U)<|eS U (SX (bO U U) U U)<|eS U (FA 0 U eB U)<|eS U (FA 0 U eB U)<|fS U (L1 (vS kA r.ar.bQ.length kC) 1 U bP U U)<|eS U (MV U)<|eS U (SX (bO U U) U U)<|eS U (FA 3 U eB U)<|fS U (L1 (vS bA r.ar.ai.length bC) 1 U bP U U)<|eS U (MV U)<|eS U (SX (bO U U) U U)<|eS U (FA 2 U eB U)<|fS U (L1 (vS cA r.ar.aC.length cC) 1 U bP U U)<|eS U (SX (bO U U) U U)<|eS U (FA 0 U eB U)<|eS U (FA 0 U eB U)<|eS U (SX (bO U U) U U)<|eS U (FA 3 U eB U)<|eS U (SX (bO U U) U U)<|eS U (FA 2 U eB U)<|dL U<|gr U fun T6 Dn=>cX (Gh r.ar.bQ kA kC asm) (aP [2]) U fun y7 K0=>?_;obtain ⟨a9,S⟩:=y7
 try dsimp only
 refine bG (Dn _ _ (aB [1,3,4,5,6,7,8,9,10]) (aB [1,2,3,4,5,6,7,8,9,10]) ?_);refine gr U fun T11 A5=>cX (ER r.ar.ai bA bC asm) (aP [6]) U fun Es Id=>?_;obtain ⟨W,Y⟩:=Es
 try dsimp only
 refine bG (A5 _ _ (aB [2,4,5,6,7,8,9,10,11]) (aB [2,3,4,5,6,7,8,9,10,11]) ?_);refine gr U fun T16 A6=>cX (F9 (zipWith aS.cells r.ar.aC az) cA r.ar.aC.length cC asm (by exact il Do) (by exact zm _ _)) (aP [5]) U fun FS If=>?_;obtain ⟨J,K⟩:=FS
 try dsimp only
 refine bG (A6 _ _ (aB [3,5,6,7,8,9,10,11,12]) (aB [3,4,5,6,7,8,9,10,11,12]) ?_);refine bR U fun T21 A7=>WD (cf.cells (cf.mk (bV.mk (aZ.mk (aX.mk a9 r.ar.bQ.length S)) r.ar.g7 (aX.mk cA r.ar.aC.length cC) (aX.mk bA r.ar.ai.length bC) r.ar.b_ r.ar.eZ r.ar.dp) (aX.mk slA r.a_.length slC) (aX.mk drA r.db.length drC) r.jz (aX.mk heA r.ax.length heC))) U Xw U U<|bG (A7 _ _ (aB [3,5,6,7,8,9,10,11,12]) ?_);refine bR U fun T22 A8=>WD (cf.cells (cf.mk (bV.mk (aZ.mk (aX.mk a9 r.ar.bQ.length S)) r.ar.g7 (aX.mk cA r.ar.aC.length cC) (aX.mk W r.ar.ai.length Y) r.ar.b_ r.ar.eZ r.ar.dp) (aX.mk slA r.a_.length slC) (aX.mk drA r.db.length drC) r.jz (aX.mk heA r.ax.length heC))) U U5 U U<|bG (A8 _ _ (aB [3,5,6,7,8,9,10,11,12]) ?_);refine bR U fun T23 A9=>WD (cf.cells (cf.mk (bV.mk (aZ.mk (aX.mk a9 r.ar.bQ.length S)) r.ar.g7 (aX.mk J r.ar.aC.length K) (aX.mk W r.ar.ai.length Y) r.ar.b_ r.ar.eZ r.ar.dp) (aX.mk slA r.a_.length slC) (aX.mk drA r.db.length drC) r.jz (aX.mk heA r.ax.length heC))) U Xb U U<|bG (A9 _ _ (aB [3,5,6,7,8,9,10,11,12]) ?_);refine eI U<|aU jC 5 U<|rS (SX (bO U U) U U)<|ck aj 7 [] (mc 4 U mn) ?_;refine mo ?_;have E:(0≤r.ar.aC.length)∧(([]:List RA).length=0)∧(pX r.ar.aC ([]:List RA)):=by exact ⟨c4 _,rfl,fun k m a _ h=>by simp at h⟩
 refine bw (ι:={z:Nat×(List RA) // (z.1≤r.ar.aC.length)∧(z.2.length=z.1)∧(pX r.ar.aC z.2)}) [1,2,3,39] [2,3,4,5,6,7,8,9,10,11,12,13] U U (fun z=>[(40,(vI (z.1.1:Int)))]) (fun z=>[(bD (bB aS.owns (r.ar.aC.take z.1.1) z.1.2)),(own J K 109 2 (zipWith aS.cells r.ar.aC (jk z.1.2 az z.1.1)))]) (fun _=>rfl) (fun _=>rfl) (fun z=>r.ar.aC.length-z.1.1) ⟨(0,([]:List RA)),E⟩ (aN U) (aB [2,3,4,5,6,7,8,9,10,11,12,13,0,1]) ?_;clear E;rintro ⟨⟨i,bz⟩,⟨A1,B,V⟩⟩ J26 A2
 try dsimp only at A1 B V
 try dsimp only
 refine aq bT 6 ?_;refine bY U (aG fun DA=>?_) (aH fun DA=>?_)
 ·refine aq aY 10 ?_;refine cT bX [13,16] [10,11,12,13,14] [0] [0,1,2,3,4,5,6,7,8,9,10,11,12] [0,1,2,3,4,5,6,7,8,9,10,11,12,13] U U U U U<|eS U (MV U)<|eS U (SX (bO U U) U U)<|eS U (FA 2 U eB U)<|eS U (L1 (vS J r.ar.aC.length K) 3 U bP U U)<|eS U (MV U)<|eS U (MV U)<|eS U (SX (bO U U) U U)<|eS U (FA 2 U eB U)<|eS U (L1 (vS J r.ar.aC.length K) 3 U bP U U)<|eS U (MV U) ?_;obtain ⟨x,hx⟩:=ay r.ar.aC i I;obtain ⟨xa,s⟩:=ay az i I;have C3:(zipWith aS.cells r.ar.aC (jk bz az i))[i]? =some (aS.cells x xa):=cE hx (ud B s);have J8:=(C.UP _ _ _ hx s).2;refine fS U (IA i U (ao (n:=r.ar.aC.length) 13 U (il (by rw [eU B I];exact C.mE))) xq dc I I) ?_;refine fS U (p9 ((i*2)+1) U (ao (n:=r.ar.aC.length) 13 U (il (by rw [eU B I];exact C.mE))) (e6 I dc) eB U) ?_;refine fS U (gF i 1 (vS xa.1 x.bo.length xa.2) U bP (ao (n:=r.ar.aC.length) 13 U (il (by rw [eU B I];exact C.mE))) C3 U dc U) ?_;refine fS U (IA i U (ao (n:=r.ar.aC.length) 13 U (il (by rw [eU B I];exact C.mE))) xq dc I I) ?_;refine fS U (p9 ((i*2)+1) U (ao (n:=r.ar.aC.length) 13 U (il (by rw [eU B I];exact C.mE))) (e6 I dc) eB U) ?_;refine dL U<|gr U fun T32 BD=>cX (Fe x.bo xa.1 xa.2 asm) (aw (show ig _ (rd xa.1 x.bo.length 3 (x.bo.map cP.cells)).holds from (ct 6 U (bq hx s (by simp [aS.lf]))))<|aA) U fun Fd In=>?_;obtain ⟨P,T⟩:=Fd
  try dsimp only
  refine bG (BD _ _ (aB [1,2,3,4,5,6,7,8,9,10,11,12,13]) (aB [1,2,3,4,5,6,7,8,9,10,11,12,13,14]) ?_);refine bR U fun T37 BP=>ej (k:=i) (o:=1) (vs:=[(vS P x.bo.length T)]) (es':=(zipWith aS.cells r.ar.aC (jk (bz++[(P,T)]) az (i+1)))) (C':=[_,_,_,_,_,_,_,_,_,_,_,_,_,_,(own J K 109 2 (zipWith aS.cells r.ar.aC (jk (bz++[(P,T)]) az (i+1))))]) 14 U U U TW U U U U C3 U dc (by exact q8 (c:=aS.cells) (b:=(P,T)) hx B s) U<|bG (BP _ _ (aB [1,2,3,4,5,6,7,8,9,10,11,12,13]) ?_);refine eI U<|aq jC 6 ?_;refine Pj 0 U fun t=>?_;simp only [c3] at t;refine Dc (Y':=bB aS.owns (r.ar.aC.take (i+1)) (bz++[(P,T)])) 13 0 U U (nQ (f:=aS.owns) (b:=(P,T)) hx B) ?_;have Cx:(vI (((i+1):Nat):Int))=(vI ((i:Int)+1)):=by exact cI I
  refine aL (A2 ⟨((i+1),(bz++[(P,T)])),⟨I,by simp;omega,Ey V B hx t⟩⟩ _ _ _ U os (cx 4<|aQ U Cx<|cV.nil _) (aB [1,2,3,4,5,6,7,8,9,10,11,12,0,13]))
 refine aU aY 1 U<|aq fz 3 ?_;have D0:bz.length=r.ar.aC.length:=by omega
 have EQ:=V;rw [show (jk bz az i)=bz from qF I,show r.ar.aC.take i=r.ar.aC from c5 I];refine cT bX [2,5,8,10,12,14] [1,3,5] [0,1,2] [0,1,2,4,5,6,7,8,9,10,11,12,13] [0,1,2,3,4,5,6,7,8,9,10,11,12,13] U U U U U<|eS U (FA 7 U eB U)<|fS U (L1 (vS slA r.a_.length slC) 3 U bP U U)<|eS U (FA 8 U eB U)<|fS U (L1 (vS drA r.db.length drC) 3 U bP U U)<|eS U (FA 10 U eB U)<|fS U (L1 (vS heA r.ax.length heC) 3 U bP U U)<|eS U (FA 7 U eB U)<|eS U (FA 8 U eB U)<|eS U (FA 10 U eB U)<|dL U<|gr U fun T40 Bt=>cX (v8 r.a_ slA slC asm) (aP [8]) U fun Fn Iw=>?_;obtain ⟨g,j⟩:=Fn
 try dsimp only
 refine bG (Bt _ _ (aB [1,2,3,5,6,7,8,9,10,11,12,13,14]) (aB [1,2,3,4,5,6,7,8,9,10,11,12,13,14]) ?_);refine gr U fun T45 Bv=>cX (v8 r.db drA drC I) (aP [10]) U fun GE I7=>?_;obtain ⟨w,AO⟩:=GE
 try dsimp only
 refine bG (Bv _ _ (aB [2,3,4,6,7,8,9,10,11,12,13,14,15]) (aB [2,3,4,5,6,7,8,9,10,11,12,13,14,15]) ?_);refine gr U fun T50 B3=>cX (EH (zipWith di r.ax ha) heA r.ax.length heC asm (by exact e8 M) (by exact BO _ _)) (aP [12]) U fun GT J2=>?_;obtain ⟨X,Z⟩:=GT
 try dsimp only
 refine bG (B3 _ _ (aB [3,4,5,7,8,9,10,11,12,13,14,15,16]) (aB [3,4,5,6,7,8,9,10,11,12,13,14,15,16]) ?_);refine bR U fun T55 B7=>WG (cf.cells (cf.mk (bV.mk (aZ.mk (aX.mk a9 r.ar.bQ.length S)) r.ar.g7 (aX.mk J r.ar.aC.length K) (aX.mk W r.ar.ai.length Y) r.ar.b_ r.ar.eZ r.ar.dp) (aX.mk g r.a_.length j) (aX.mk drA r.db.length drC) r.jz (aX.mk heA r.ax.length heC))) U wk U U<|bG (B7 _ _ (aB [3,4,5,7,8,9,10,11,12,13,14,15,16]) ?_);refine bR U fun T56 B9=>WG (cf.cells (cf.mk (bV.mk (aZ.mk (aX.mk a9 r.ar.bQ.length S)) r.ar.g7 (aX.mk J r.ar.aC.length K) (aX.mk W r.ar.ai.length Y) r.ar.b_ r.ar.eZ r.ar.dp) (aX.mk g r.a_.length j) (aX.mk w r.db.length AO) r.jz (aX.mk heA r.ax.length heC))) U wk U U<|bG (B9 _ _ (aB [3,4,5,7,8,9,10,11,12,13,14,15,16]) ?_);refine bR U fun T57 Ci=>WG (cf.cells (cf.mk (bV.mk (aZ.mk (aX.mk a9 r.ar.bQ.length S)) r.ar.g7 (aX.mk J r.ar.aC.length K) (aX.mk W r.ar.ai.length Y) r.ar.b_ r.ar.eZ r.ar.dp) (aX.mk g r.a_.length j) (aX.mk w r.db.length AO) r.jz (aX.mk X r.ax.length Z))) U WZ U U<|bG (Ci _ _ (aB [3,4,5,7,8,9,10,11,12,13,14,15,16]) ?_);refine eI U<|ck jC 11 [] (mc 6 U mn) ?_;refine mo ?_;have E:(0≤r.ax.length)∧(([]:List cq).length=0)∧(∀ (k:Nat) y (a:cq),r.ax[k]? =some y→([]:List cq)[k]? =some a→a.2.length=y.length):=by exact ⟨c4 _,rfl,fun k y a _ q=>by simp at q⟩
 refine bw (ι:={z:Nat×(List cq) // (z.1≤r.ax.length)∧(z.2.length=z.1)∧(∀ (k:Nat) y (a:cq),r.ax[k]? =some y→z.2[k]? =some a→a.2.length=y.length)}) [1,2,74] [2,3,4,5,6,7,8,9,10,11,12,13,14,15,16,17] U U (fun z=>[(75,(vI (z.1.1:Int)))]) (fun z=>[(bD (bB kB (r.ax.take z.1.1) z.1.2)),(own X Z 68 1 (zipWith di r.ax (jk z.1.2 ha z.1.1)))]) (fun _=>rfl) (fun _=>rfl) (fun z=>r.ax.length-z.1.1) ⟨(0,([]:List cq)),E⟩ (aN U) (aB [2,3,4,5,6,7,8,9,10,11,12,13,14,15,16,17,0,1]) ?_;clear E;rintro ⟨⟨h,hz⟩,⟨l,A,L⟩⟩ J60 A3
 try dsimp only at l A L
 try dsimp only
 refine aq bT 6 ?_;refine bE U (aH fun DR=>?_) (aG fun DR=>?_)
 ·refine aU aY 1 U<|aq fz 3 ?_;have Eq:sU r.ax hz:=⟨I,L⟩;rw [show (jk hz ha h)=hz from qF I,show r.ax.take h=r.ax from c5 I];refine dF aY 2 [] (mc 5 U mn) U<|UB U oa U<|aq aj 3 ?_;refine LX hQ (a9,S,J,K,bz,W,Y,g,j,w,AO,X,Z,hz) [3,15,14,2,1,0,17,16] [0] (mc 4 U mn) U (by show all _ _=true;simp only [eX,om,gl,ly,n4];rfl) U U ?_;exact ⟨⟨D0,EQ⟩,Eq⟩
 refine aq aY 11 ?_;refine cT bX [8,10] [6,7,8] [0] [0,1,2,3,4,5,6,7,8,9,10,11,12,13,14,15,16] [0,1,2,3,4,5,6,7,8,9,10,11,12,13,14,15,16,17] U U U U U<|eS U (FA 10 U eB U)<|eS U (L1 (vS X r.ax.length Z) 5 U bP U U)<|eS U (MV U)<|eS U (FA 10 U eB U)<|eS U (L1 (vS X r.ax.length Z) 5 U bP U U)<|eS U (MV U) ?_;obtain ⟨ht,N⟩:=ay r.ax h I;obtain ⟨D,O⟩:=ay ha h I;have u:(zipWith di r.ax (jk hz ha h))[h]? =some (di ht D):=cE N (ud A O);have A0:=hin.fE _ _ _ N O;have e:=A0.mE;have EU:=A0.len;refine fS U (IA h U (ao (n:=r.ax.length) 17 U (e8 (by rw [eU A I];exact M))) my dc I I) ?_;refine fS U (gF h 0 (vS D.1.1 ht.length D.1.2) U bP (ao (n:=r.ax.length) 17 U (e8 (by rw [eU A I];exact M))) u U dc U) ?_;refine fS U (IA h U (ao (n:=r.ax.length) 17 U (e8 (by rw [eU A I];exact M))) my dc I I) ?_;refine dL U<|gr U fun T67 Ck=>cX (E5 (zipWith ak.cells ht D.2) D.1.1 ht.length D.1.2 asm (by exact m_ e) (by exact JQ _ _)) (aw (show ig _ (rd D.1.1 ht.length 7 (zipWith ak.cells ht D.2)).holds from (ct 13 U (bq N O bZ)))<|aA) U fun Go J3=>?_;obtain ⟨G,H⟩:=Go
 try dsimp only
 refine bG (Ck _ _ (aB [1,2,3,4,5,6,7,8,9,10,11,12,13,14,15,16,17]) (aB [1,2,3,4,5,6,7,8,9,10,11,12,13,14,15,16,17,18]) ?_);refine bR U fun T72 Cp=>ej (k:=h) (o:=0) (vs:=[(vS G ht.length H)]) (es':=(zipWith di r.ax (jk (hz++[((G,H),D.2)]) ha (h+1)))) (C':=[_,_,_,_,_,_,_,_,_,_,_,_,_,_,_,_,_,_,(own X Z 68 1 (zipWith di r.ax (jk (hz++[((G,H),D.2)]) ha (h+1))))]) 18 U U U XQ U U U U u U dc (by exact q8 (b:=((G,H),D.2)) N A O) U<|bG (Cp _ _ (aB [1,2,3,4,5,6,7,8,9,10,11,12,13,14,15,16,17]) ?_);refine eI U<|ck jC 6 [] (mc 6 U mn) ?_;have v:(zipWith di r.ax (jk (hz++[((G,H),D.2)]) ha (h+1)))[h]? =some (di ht ((G,H),D.2)):=cE N (EO A);refine rS (IA h U (ao (n:=r.ax.length) 18 U (e8 (by rw [eU (by simp;omega) I];exact M))) my dc I I) ?_;refine rS (gF h 0 (vS G ht.length H) U bP (ao (n:=r.ax.length) 18 U (e8 (by rw [eU (by simp;omega) I];exact M))) v U dc U) ?_;refine aq aj 5 ?_;refine mo ?_;have E:(0≤ht.length)∧(([]:List RA).length=0):=by exact ⟨c4 _,rfl⟩
 refine bw (ι:={z:Nat×(List RA) // (z.1≤ht.length)∧(z.2.length=z.1)}) [1,2,5,74,75,93] [2,3,4,5,6,7,8,9,10,11,12,13,14,15,16,17,18,19] U U (fun z=>[(94,(vI (z.1.1:Int)))]) (fun z=>[(bD (bB lO (ht.take z.1.1) z.1.2)),(own G H 52 7 (zipWith ak.cells ht (jk z.1.2 D.2 z.1.1)))]) (fun _=>rfl) (fun _=>rfl) (fun z=>ht.length-z.1.1) ⟨(0,([]:List RA)),E⟩ (aN U) (aB [2,3,4,5,6,7,8,9,10,11,12,13,14,15,16,17,18,19,0,1]) ?_;clear E;rintro ⟨⟨i,dz⟩,⟨p,F⟩⟩ J74 A4
 try dsimp only at p F
 try dsimp only
 refine aq bT 6 ?_;refine bE U (aH fun Di=>?_) (aG fun Di=>?_)
 ·refine aU aY 1 U<|aq fz 7 ?_;have H1:dz.length=ht.length:=by omega
  rw [show (jk dz D.2 i)=dz from qF I,show ht.take i=ht from c5 I];refine NR (Z':=bB kB (r.ax.take (h+1)) (hz++[((G,H),dz)])) 16 18 19 U U (nQ (f:=kB) (b:=((G,H),dz)) N A) ?_;rw [Fx (y:=dz)];have C1:(vI (((h+1):Nat):Int))=(vI ((h:Int)+1)):=by exact cI I
  refine aL (A3 ⟨((h+1),(hz++[((G,H),dz)])),⟨I,by simp;omega,JH N L A dso⟩⟩ _ _ _ U os (cx 3<|aQ U C1<|cV.nil _) (aB [1,2,3,4,5,6,7,8,9,10,11,12,13,14,15,16,0,17]))
 refine aq aY 11 ?_;refine z7 19 U (by rw [m_ (by rw [eU F I];exact e)];omega) (fun G4 AB=>?_);refine ck aY 4 [] (mc 5 U mn) ?_;refine rS (IA h U (ao (n:=r.ax.length) 17 U (e8 (by rw [eU (by simp;omega) I];exact M))) my dc I I) ?_;refine rS (gF h 0 (vS G ht.length H) U bP (ao (n:=r.ax.length) 17 U (e8 (by rw [eU (by simp;omega) I];exact M))) v U dc U) ?_;refine aq aj 1 ?_;obtain ⟨d,hd⟩:=ay ht i I;obtain ⟨da,Ap⟩:=ay D.2 i I;have C2:(zipWith ak.cells ht (jk dz D.2 i))[i]? =some (ak.cells d da):=cE hd (ud F Ap);have J7:=A0.sig d (aF hd);refine rS (IAP i U AB rK I I)<|rS (W_ ((i*7)+4) U AB eB U)<|rS (W_ (((i*7)+4)+2) U AB eB U)<|aq aj 6 ?_;refine rS (SX (ux U U AB) U U) ?_;refine rS (gF i 6 (vS da.1 d.bp.ab.length da.2) U bP (ao (n:=ht.length) 19 U (m_ (by rw [eU F I];exact e))) C2 U dc U) ?_;refine cX (zw d.bp.ab da.1 da.2 asm) (aw (show ig _ (rd da.1 d.bp.ab.length 2 (d.bp.ab.map aR.cells)).holds from (ct 13 U (bq N O (dk _ (bq hd Ap (by simp [ak.lf]))))))<|aA) U fun G3 J4=>?_;obtain ⟨R,AA⟩:=G3
 try dsimp only
 refine rS (SX (ux U U AB) U U)<|ej (k:=i) (o:=6) (vs:=[(vS R d.bp.ab.length AA)]) (es':=(zipWith ak.cells ht (jk (dz++[(R,AA)]) D.2 (i+1)))) (C':=[_,_,_,_,_,_,_,_,_,_,_,_,_,_,_,_,_,_,_,_,(own G H 52 7 (zipWith ak.cells ht (jk (dz++[(R,AA)]) D.2 (i+1))))]) 20 U U U Vj U U U U C2 U dc (by exact q8 (c:=ak.cells) (b:=(R,AA)) hd F Ap) U<|aq aj 7 ?_;refine Dc (Y':=bB lO (ht.take (i+1)) (dz++[(R,AA)])) 19 0 U U (nQ (f:=lO) (b:=(R,AA)) hd F) ?_;have C0:(vI (((i+1):Nat):Int))=(vI ((i:Int)+1)):=by exact cI I
 refine aL (A4 ⟨((i+1),(dz++[(R,AA)])),⟨I,by simp;omega⟩⟩ _ _ _ U os (cx 6<|aQ U C0<|cV.nil _) (aB [1,2,3,4,5,6,7,8,9,10,11,12,13,14,15,16,17,18,0,19]))
end
section
open Go.RowKit
theorem vh (j:dy) (kA:OA) (kC:Nat) (az:List RA) (cA:OA) (cC:Nat) (bA:OA) (bC:Nat) (slA:OA) (slC:Nat) (drA:OA) (drC:Nat) (ha:List cq) (heA:OA) (heC:Nat) (faA:OA) (faC:Nat) (prA:OA) (prC:Nat) (h i:Int) (d:ak) (sgA:OA) (sgC:Nat) (hin:jy j az ha) (hsl:d.bp.ab.length≤1000000):
 ld Tryz.prog 8 [(vA (km.cells (rL j kA kC cA cC bA bC slA slC drA drC heA heC faA faC prA prC))),(vI h),(vI i),(vA (aO.cells (aO.mk d.Out d.cZ d.Time (jP d.bp sgA sgC))))] ((rd hU 3 2 fX)::((Cl j kA az cA bA slA drA ha heA faA prA)++[(rd sgA d.bp.ab.length 2 (d.bp.ab.map aR.cells))])) (fun (x:Bool×Int×(OA)×Nat×(OA)×Nat×(List RA)×(OA)×Nat×(OA)×Nat×(OA)×Nat×(OA)×Nat×(List cq))=>bif x.1 then (vT [(vA (cf.cells (cf.mk (bV.mk (aZ.mk (aX.mk x.2.2.1 j.Race.ar.bQ.length x.2.2.2.1)) j.Race.ar.g7 (aX.mk x.2.2.2.2.1 j.Race.ar.aC.length x.2.2.2.2.2.1) (aX.mk x.2.2.2.2.2.2.2.1 j.Race.ar.ai.length x.2.2.2.2.2.2.2.2.1) j.Race.ar.b_ j.Race.ar.eZ j.Race.ar.dp) (aX.mk x.2.2.2.2.2.2.2.2.2.1 j.Race.a_.length x.2.2.2.2.2.2.2.2.2.2.1) (aX.mk x.2.2.2.2.2.2.2.2.2.2.2.1 j.Race.db.length x.2.2.2.2.2.2.2.2.2.2.2.2.1) j.Race.jz (aX.mk x.2.2.2.2.2.2.2.2.2.2.2.2.2.1 ((pO j.Race.ax h i d).length) x.2.2.2.2.2.2.2.2.2.2.2.2.2.2.1)))),(vI 0)]) else (vT [(vA (cf.cells (cf.mk (bV.mk (aZ.mk (aX.mk none 0 0)) 0 (aX.mk none 0 0) (aX.mk none 0 0) 0 0 0) (aX.mk none 0 0) (aX.mk none 0 0) 0 (aX.mk none 0 0)))),(vI x.2.1)])) (fun (x:Bool×Int×(OA)×Nat×(OA)×Nat×(List RA)×(OA)×Nat×(OA)×Nat×(OA)×Nat×(OA)×Nat×(List cq))=>(x.1=true→((oz j h i d)=0∧(x.2.2.2.2.2.2.1.length=j.Race.ar.aC.length∧pX j.Race.ar.aC x.2.2.2.2.2.2.1)∧sU (pO j.Race.ax h i d) x.2.2.2.2.2.2.2.2.2.2.2.2.2.2.2))∧(x.1=false→(x.2.1=(oz j h i d)∧ ¬ (oz j h i d)=0))) (fun (x:Bool×Int×(OA)×Nat×(OA)×Nat×(List RA)×(OA)×Nat×(OA)×Nat×(OA)×Nat×(OA)×Nat×(List cq))=>bif x.1 then [(own x.2.2.1 x.2.2.2.1 65 9 (j.Race.ar.bQ.map ag.cells)),(own x.2.2.2.2.1 x.2.2.2.2.2.1 109 2 (zipWith aS.cells j.Race.ar.aC x.2.2.2.2.2.2.1)),(bD (bB aS.owns j.Race.ar.aC x.2.2.2.2.2.2.1)),(own x.2.2.2.2.2.2.2.1 x.2.2.2.2.2.2.2.2.1 113 4 (j.Race.ar.ai.map df.cells)),(own x.2.2.2.2.2.2.2.2.2.1 x.2.2.2.2.2.2.2.2.2.2.1 3 1 (j.Race.a_.map iC)),(own x.2.2.2.2.2.2.2.2.2.2.2.1 x.2.2.2.2.2.2.2.2.2.2.2.2.1 3 1 (j.Race.db.map iC)),(own x.2.2.2.2.2.2.2.2.2.2.2.2.2.1 x.2.2.2.2.2.2.2.2.2.2.2.2.2.2.1 68 1 (zipWith di (pO j.Race.ax h i d) x.2.2.2.2.2.2.2.2.2.2.2.2.2.2.2)),(bD (bB kB (pO j.Race.ax h i d) x.2.2.2.2.2.2.2.2.2.2.2.2.2.2.2))] else []):=by
 have AC:=hin.race;have A7:=hin.race.line;have DA:=hin.race.g_;have Di:=hin.race.has;have Ck:=hin.race.g9;have B3:=hin.nf;have B9:=hin.np;refine cU kr Tryz.func8 U U fun w0 Q hQ hN=>?_
 try dsimp only
 refine aU bT 2 U<|dV U fun b2=>dV U fun b3=>AL U vm fun b4=>dF aj 6 [] (mc 2 U mn) U<|rS (CL (Dm j kA kC az cA cC bA bC slA slC drA drC ha heA heC faA faC prA prC hin) (aP [3,4,5,6,7,8,9,10,11,12,13]) U)<|aU aj 3 U<|AL U RQ fun b6=>eM U SI U<|aq aj 10 ?_;refine bY U (aK fun E=>?_) (aJ fun E=>?_)
 ·refine aU aY 2 U<|rS (SX (aW (xs:=[]) (cs:=(cf.cells (cf.mk (bV.mk (aZ.mk (aX.mk none 0 0)) 0 (aX.mk none 0 0) (aX.mk none 0 0) 0 0 0) (aX.mk none 0 0) (aX.mk none 0 0) 0 (aX.mk none 0 0)))) U U (aV Ar U)) U U)<|aU aj 1 U<|o_ U oa U<|aq aj 4 ?_;refine LX hQ (false,(fU j),none,0,none,0,[],none,0,none,0,none,0,none,0,[]) [] [0] (mc 1 U mn) U (by rfl) U ?_ ?_
  ·rfl
  ·refine ⟨Dv,fun _=>?_⟩;have e:=Py (h:=h) (i:=i) (d:=d) E;exact ⟨e.symm,fun q=>E (e.symm.trans q)⟩
 refine ck aY 11 [] (mc 3 U mn) ?_;refine dC (xs:=[.tmp 27]) (cs:=[(vI h)]) U cO jU U U U U (by simp [Value.cells]) U U fun A0=>?_;refine rS (CL (dh.eq (j1 0 ((j.Race.ax.length:Int)-1) ([h]) (some ⟨A0,0,none⟩) 1 (by (simp;done))) cp) (aw (aM 0 U U (by simp [br]) U)<|aA) U) ?_;refine aq aj 2 ?_;refine bK (t:=31) U (aK fun A2=>?_) (aJ fun A2=>?_)
 ·refine aU aj 15 U<|rS (SX (aW (xs:=[]) (cs:=(cf.cells (cf.mk (bV.mk (aZ.mk (aX.mk none 0 0)) 0 (aX.mk none 0 0) (aX.mk none 0 0) 0 0 0) (aX.mk none 0 0) (aX.mk none 0 0) 0 (aX.mk none 0 0)))) U U (aV Ar U)) U U)<|D2 U oa U<|aq aj 4 ?_;refine LX hQ (false,2,none,0,none,0,[],none,0,none,0,none,0,none,0,[]) [] [0] (mc 2 U mn) U (by rfl) U ?_ ?_
  ·rfl
  ·exact qY<|pM (Gd (h:=h) (i:=i) (d:=d) E I)
 refine ck aj 6 [] (mc 4 U mn) ?_;refine dC (xs:=[.tmp 37]) (cs:=[(vI i)]) U cO jU U U U U (by simp [Value.cells]) U U fun A1=>?_;refine rS (CL (dh.eq (j1 0 ((j.Race.a_.length:Int)-1) ([i]) (some ⟨A1,0,none⟩) 1 (by (simp;done))) cp) (aw (aM 0 U U (by simp [br]) U)<|aA) U) ?_;refine aq aj 4 ?_;refine bY U (aK fun A3=>?_) (aJ fun A3=>?_)
 ·refine aU aY 2 U<|rS (SX (aW (xs:=[]) (cs:=(cf.cells (cf.mk (bV.mk (aZ.mk (aX.mk none 0 0)) 0 (aX.mk none 0 0) (aX.mk none 0 0) 0 0 0) (aX.mk none 0 0) (aX.mk none 0 0) 0 (aX.mk none 0 0)))) U U (aV Ar U)) U U)<|Xo U oa U<|aq aj 4 ?_;refine LX hQ (false,2,none,0,none,0,[],none,0,none,0,none,0,none,0,[]) [] [0] (mc 3 U mn) U (by rfl) U ?_ ?_
  ·rfl
  ·exact qY<|pM (Gd (h:=h) (i:=i) (d:=d) E I)
 refine aq aY 4 ?_;have y:=(fI E).1;have Dn:=(fI E).2;have A6:=(dG y).1;have A8:=(dG y).2;have A5:=(er A6).2.head;unfold fg at A5;refine ck aY 2 [] (mc 2 U mn) ?_;refine cX (CF j kA kC az cA cC bA bC slA slC drA drC ha heA heC faA faC prA prC hin asm) (aP [7,8,9,10,11,12,13,14,15,16]) U fun BD AO=>?_;obtain ⟨b,Cx,C2⟩:=BD
 try dsimp only
 have p:=AO
 try dsimp only at p
 refine aq aj 1 ?_;have Do:(gd j).length=j.Race.ax.length:=Bi;obtain ⟨row,H⟩:=ay (gd j) ((h).toNat) I;obtain ⟨rowa,W⟩:=ay b ((h).toNat) I;have r:(zipWith oU (gd j) b)[(h).toNat]? =some (oU row rowa):=cE H W;refine rS (IA ((h).toNat) U (ao (n:=(gd j).length) 0 U (iO p)) wv dc I I)<|rS (gF ((h).toNat) 0 (vS rowa.1 row.length rowa.2) U bP (ao (n:=(gd j).length) 0 U (iO p)) r U dc U)<|aq aj 1 ?_;have Ci:row.length≤1000000:=wU E _ (by rw [lE E];exact aF H);refine rS (CL (Ej row rowa.1 rowa.2 i asm) (aw (show ig _ (rd rowa.1 row.length 1 (row.map iC)).holds from (fun w hw=>(dQ 1 U xb) w hw _ (bq H W (by simp [Kr]))))<|aA) U)<|aq aj 3 ?_;refine bY U (aK fun X=>?_) (aJ fun X=>?_)
 ·refine aU aY 2 U<|rS (SX (aW (xs:=[]) (cs:=(cf.cells (cf.mk (bV.mk (aZ.mk (aX.mk none 0 0)) 0 (aX.mk none 0 0) (aX.mk none 0 0) 0 0 0) (aX.mk none 0 0) (aX.mk none 0 0) 0 (aX.mk none 0 0)))) U U (aV Ar U)) U U)<|MA U oa U<|aq aj 4 ?_;refine LX hQ (false,8,none,0,none,0,[],none,0,none,0,none,0,none,0,[]) [] [0] (mc 5 U mn) U (by rfl) U ?_ ?_
  ·rfl
  ·exact qY<|pM (Jb (h:=h) (i:=i) (d:=d) E ⟨I,I⟩ H X)
 refine aq aY 5 ?_;refine rS (LP (cf.cells (pN j.Race kA kC cA cC bA bC slA slC drA drC heA heC)) 7 U bP U U U)<|cX (O4 j.Race kA kC az cA cC bA bC slA slC drA drC ha heA heC asm) (aP [9,10,11,12,13,14,15,16]) U fun BP Ap=>?_;obtain ⟨J,O,K,P,Z,L,R,M,S,N,T,F,G,AB⟩:=BP
 try dsimp only
 obtain ⟨⟨Y,l⟩,D⟩:=Ap
 try dsimp only at Y l D
 have B7:=D.1;refine AL U vm fun C1=>eM U oa U<|ck aj 7 [] (mc 15 U mn) ?_;refine cX (zw d.bp.ab sgA sgC hsl) (aP [28]) U fun Bt Cp=>?_;obtain ⟨B,C⟩:=Bt
 try dsimp only
 refine aU aj 2 U<|im (vs:=[(vS B d.bp.ab.length C)]) (cs':=(aO.cells (aO.mk d.Out d.cZ d.Time (jP d.bp B C)))) (C':=[_,_,_,_,_,_,_,_,_,_,_,_,_,_,_,_,(cb b3 52 (aO.cells (aO.mk d.Out d.cZ d.Time (jP d.bp B C)))),_,_,_,_,_,_,_,_,_,_,_,_,_]) 16 U U U Vj U U U U U U U<|aq aj 3 ?_;obtain ⟨ht,AA⟩:=ay j.Race.ax ((h).toNat) I;obtain ⟨A,V⟩:=ay AB ((h).toNat) (by have:=D.1;omega);have v:(zipWith di j.Race.ax AB)[(h).toNat]? =some (di ht A):=cE AA V;have A9:=D.2 _ _ _ AA V;have DR:=(A8.fE ht (aF AA)).1;refine Nx 9 AA V U U ?_
 try dsimp only
 refine cL bX 8 kr<|jY 3 [] (mc 4 U mn) U<|dS (IA ((h).toNat) U (ao (n:=j.Race.ax.length) 11 U (e8 D.1)) my dc I I)<|dS (gF ((h).toNat) 0 (vS A.1.1 ht.length A.1.2) U bP (ao (n:=j.Race.ax.length) 11 U (e8 D.1)) v U dc U)<|dP 2 [] (mc 18 U mn) ?_;obtain ⟨d0,s⟩:=ay ht ((i).toNat) I;obtain ⟨A4,f⟩:=ay A.2 ((i).toNat) I;have u:(zipWith ak.cells ht A.2)[(i).toNat]? =some (ak.cells d0 A4):=cE s f;refine dS (IA ((i).toNat) U (ao (n:=ht.length) 0 U (m_ A9)) rK dc I I)<|cy<|ej (k:=(i).toNat) (o:=0) (vs:=(aO.cells (aO.mk d.Out d.cZ d.Time (jP d.bp B C)))) (es':=(zipWith ak.cells (ht.set (i).toNat d) (A.2.set (i).toNat (B,C)))) (C':=[(own A.1.1 A.1.2 52 7 (zipWith ak.cells (ht.set (i).toNat d) (A.2.set (i).toNat (B,C)))),_,_,_,_,_,_,_,_,_,_,_,_,_,_,_,_,_,_,_,_,_,_,_,_,_,_,_,_,_,_,_]) 0 U U U GD U U U U u U dc (by exact qL (c:=ak.cells) (m:=d) (a:=(B,C))) U<|aq aj 4 ?_;refine Wn (d':=d) (b':=(B,C)) 1 3 s f U U ?_;refine SU (h':=(ht.set (i).toNat d)) (a':=(A.1,(A.2.set (i).toNat (B,C)))) 2 0 1 I (by have:=D.1;omega) U U ?_;rw [← uE AA,show zipWith di j.Race.ax AB=zipWith di (pO j.Race.ax h i d) (AB.set (h).toNat (A.1,(A.2.set (i).toNat (B,C)))) from by rw [uE AA];exact (Ca AA V (by rw [AAG])).symm];replace D:=UU (d:=d) (i:=i) (x:=(B,C)) D AA V;rw [show aX.mk F j.Race.ax.length G=aX.mk F ((pO j.Race.ax h i d).length) G from by rw [z9]];have z:gI (wH j.Race h i d) _ _:=AC.put Y l D hsl;refine ck aY 2 [] (mc 1 U mn) ?_;refine rS (CL (FV (wH j.Race h i d) J O Z K P L R M S N T (AB.set (h).toNat (A.1,(A.2.set (i).toNat (B,C)))) F G (by exact z)) (gM 17 U U<|aw (ao (n:=j.Race.ar.bQ.length) 2 U (by (rw [c3];rfl)))<|aw (ao (n:=j.Race.ar.aC.length) 3 U (il Y))<|aw (dQ 4 U kF)<|aw (ao (n:=j.Race.ar.ai.length) 5 U (by (rw [c3];rfl)))<|aw (ao (n:=j.Race.a_.length) 6 U (by (rw [c3];rfl)))<|aw (ao (n:=j.Race.db.length) 7 U (by (rw [c3];rfl)))<|aw (ao (n:=(pO j.Race.ax h i d).length) 8 U (e8 D.1))<|aw (lH 0 U D)<|aA) U) ?_;refine aq aj 3 ?_;refine bY U (aK fun g=>?_) (aJ fun g=>?_)
 ·refine aU aY 2 U<|rS (SX (aW (xs:=[]) (cs:=(cf.cells (cf.mk (bV.mk (aZ.mk (aX.mk none 0 0)) 0 (aX.mk none 0 0) (aX.mk none 0 0) 0 0 0) (aX.mk none 0 0) (aX.mk none 0 0) 0 (aX.mk none 0 0)))) U U (aV Ar U)) U U)<|im (vs:=(cf.cells (cf.mk (bV.mk (aZ.mk (aX.mk none 0 0)) 0 (aX.mk none 0 0) (aX.mk none 0 0) 0 0 0) (aX.mk none 0 0) (aX.mk none 0 0) 0 (aX.mk none 0 0)))) (cs':=(cf.cells (cf.mk (bV.mk (aZ.mk (aX.mk none 0 0)) 0 (aX.mk none 0 0) (aX.mk none 0 0) 0 0 0) (aX.mk none 0 0) (aX.mk none 0 0) 0 (aX.mk none 0 0)))) (C':=[_,_,_,_,_,_,_,_,_,_,_,_,_,_,(cb b4 32 (cf.cells (cf.mk (bV.mk (aZ.mk (aX.mk none 0 0)) 0 (aX.mk none 0 0) (aX.mk none 0 0) 0 0 0) (aX.mk none 0 0) (aX.mk none 0 0) 0 (aX.mk none 0 0)))),_,_,_,_,_,_,_,_,_,_,_,_,_,_]) 14 U U U oa U U U U U U U<|aq aj 4 ?_;refine LX hQ (false,60,none,0,none,0,[],none,0,none,0,none,0,none,0,[]) [] [0] (mc 14 U mn) U (by rfl) U ?_ ?_
  ·rfl
  ·exact qY<|pM (CP (h:=h) (i:=i) (d:=d) E ⟨I,I⟩ H X g)
 refine dF aY 5 [] (mc 1 U mn) U<|im (vs:=(cf.cells (cf.mk (bV.mk (aZ.mk (aX.mk J j.Race.ar.bQ.length O)) j.Race.ar.g7 (aX.mk K j.Race.ar.aC.length P) (aX.mk L j.Race.ar.ai.length R) j.Race.ar.b_ j.Race.ar.eZ j.Race.ar.dp) (aX.mk M j.Race.a_.length S) (aX.mk N j.Race.db.length T) j.Race.jz (aX.mk F ((pO j.Race.ax h i d).length) G)))) (cs':=(cf.cells (cf.mk (bV.mk (aZ.mk (aX.mk J j.Race.ar.bQ.length O)) j.Race.ar.g7 (aX.mk K j.Race.ar.aC.length P) (aX.mk L j.Race.ar.ai.length R) j.Race.ar.b_ j.Race.ar.eZ j.Race.ar.dp) (aX.mk M j.Race.a_.length S) (aX.mk N j.Race.db.length T) j.Race.jz (aX.mk F ((pO j.Race.ax h i d).length) G)))) (C':=[_,_,_,_,_,_,_,_,_,_,_,_,_,_,(cb b4 32 (cf.cells (cf.mk (bV.mk (aZ.mk (aX.mk J j.Race.ar.bQ.length O)) j.Race.ar.g7 (aX.mk K j.Race.ar.aC.length P) (aX.mk L j.Race.ar.ai.length R) j.Race.ar.b_ j.Race.ar.eZ j.Race.ar.dp) (aX.mk M j.Race.a_.length S) (aX.mk N j.Race.db.length T) j.Race.jz (aX.mk F ((pO j.Race.ax h i d).length) G)))),_,_,_,_,_,_,_,_,_,_,_,_,_,_]) 14 U U U oa U U U U U U U<|aq aj 4 ?_;refine LX hQ (true,0,J,O,K,P,Z,L,R,M,S,N,T,F,G,(AB.set (h).toNat (A.1,(A.2.set (i).toNat (B,C))))) [2,3,4,5,6,7,8,0] [0] (mc 14 U mn) U (by (show all _ _=true;simp only [AAS,eX,om,gl,ly,n4];rfl)) U ?_ ?_
 ·rfl
 ·exact ⟨fun _=>⟨JE E ⟨I,I⟩ H X g,⟨Y,l⟩,D⟩,QS⟩
end
section
open Go.RowKit
section
variable {E:fJ} {ops:Array Oper} {Q:du} {rest:List Oper} {D:List Deferred} {L:List (Nat×Value)} {C C1:List au}
end
theorem zq {C:List au}: ∀ {a b:List Nat} {X Y:List au},ni C a=some X→ni C b=some Y→ni C (a++b)=some (X++Y)
 |[],b,X,Y,h,h2=>by cases h;exact h2
 |i::a,b,X,Y,h,h2=>by
  unfold ni at h;split at h
  ·rename_i A hA;split at h
   ·rename_i l hl;cases h;have ih:=zq hl h2;show (match C[i]? with
     |some A=>match ni C (a++b) with
      |some l=>some (A::l)
      |none=>none
     |none=>none)=_
    rw [hA,ih];rfl
   ·cases h
  ·cases h
theorem Mb {ops:Array Oper} {rest:List Oper} (X:List au) (i1 i2:List Nat) (h1:ni C i1=some X) (h2:ni C i2=some C1) (h:RJ E ops Q rest D L (bD X::C1)) (hn:decide (i1++i2).Nodup=true:=by rfl):RJ E ops Q rest D L C:=fun a w hf hs=>h a w hf (St.tied (St.kQ _ hn (jX (zq h1 h2)) hs))
theorem w7 {M A B:Type} {f:M→A→List B} {n:Nat} (h: ∀ m a,(f m a).length=n): ∀ {ms:List M} {asl:List A},∀ x∈zipWith f ms asl,x.length=n
 |[],asl,x,hx=>by simp at hx
 |m::ms,[],x,hx=>by simp at hx
 |m::ms,a::asl,x,hx=>by
  rw [u5] at hx;rcases bI.1 hx with rfl|hx
  ·exact h m a
  ·exact w7 h x hx
theorem Re (m:ak) (a:RA):(ak.cells m a).length=7:=rfl
theorem Ps (m:List ak) (a:cq):(di m a).length=1:=rfl
theorem VP (m:List Int) (a:RA):(oU m a).length=1:=rfl
end
section
open Go.RowKit
theorem KL {c:Code} (X:List au) (i1 i2:List Nat) (h1:ni C i1=some X) (h2:ni C i2=some C1) (h:WJ E c Q D L (bD X::C1)) (hn:decide (i1++i2).Nodup=true:=by rfl):WJ E c Q D L C:=fun a w hf hs=>h a w hf (St.tied (St.kQ _ hn (jX (zq h1 h2)) hs))
end
section
open Go.RowKit
variable (a b:Int) (r:cN) (kA:OA) (kC:Nat) (cA:OA) (cC:Nat) (bA:OA) (bC:Nat)
theorem PA (slA:OA) (slC:Nat) (drA:OA) (drC:Nat) (heA:OA) (heC:Nat) (tA:OA) (tN tC:Nat) (gs gw:Nat) (m:k9) (g1:Nat) (hb:∀ p∈m,0≤p.2.Lo∧p.2.Lo≤p.2.Hi∧p.2.Hi≤30000000):
 dh Tryz.prog 44 [(vI a),(vI b),(vP g1)] [(cb gw 98 (hO.cells (hO.mk (pN r kA kC cA cC bA bC slA slC drA drC heA heC) (aX.mk tA tN tC) (Value.map (some gs))))),(iu iV gs (bS e_ m)),(cb g1 87 [(vP gw)])] (vI ((cd m a).Lo-(cd m b).Lo)):=by
 have A:=n9 (i:=a) hb;have B:=n9 (i:=b) hb;refine bj kr Tryz.func44 U U fun C Q hQ hN=>?_
 try dsimp only
 refine aU bT 6 U<|cL bX 16 kr<|jY 1 [] (mr 2 U mn) U<|dS (SX (bO U U) U U)<|jY 3 [] (mr 0 U mn) U<|dS (SX (mF (kV:=iV) (x:=a) (l:=m) (f:=e_) (z:=(aa.mk 0 0)) U U U rY (eE nZ) Lw (by exact mV 1 U)) U U)<|dS (SX (oY (v:=(vI (((lookup a m).getD (aa.mk 0 0)).Lo))) U U eB Dk U) U U)<|jY 1 [] (mr 2 U mn) U<|dS (SX (bO U U) U U)<|dP 3 [] (mr 0 U mn) ?_;refine dS (SX (mF (kV:=iV) (x:=b) (l:=m) (f:=e_) (z:=(aa.mk 0 0)) U U U rY (eE nZ) Lw (by exact mV 1 U)) U U)<|dS (SX (oY (v:=(vI (((lookup b m).getD (aa.mk 0 0)).Lo))) U U eB Dk U) U U) ?_;unfold cd at A B;simp only [gP] at A B;refine dP 2 [] mn ?_;refine cy ?_;exact cr aj 3 hQ U U U
theorem Q_ (az:List RA) (cA:OA) (cC:Nat) (bA:OA) (bC:Nat) (slA:OA) (slC:Nat) (drA:OA) (drC:Nat) (ha:List cq) (heA:OA) (heC:Nat) (hin:gI r az ha):
 ld Tryz.prog 18 [(vA (cf.cells (pN r kA kC cA cC bA bC slA slC drA drC heA heC)))] ((rd hU 3 2 fX)::(DI r kA az cA bA slA drA ha heA)) (fun (x:(List RA)×(OA)×Nat)=>(vT [(vS x.2.1 ((lW r).length) x.2.2),(vI (eK r))])) (fun (x:(List RA)×(OA)×Nat)=>x.1.length=(lW r).length) (fun (x:(List RA)×(OA)×Nat)=>[(own x.2.1 x.2.2 29 1 (zipWith oU (lW r) x.1)),(bD (bB Av (lW r) x.1))]):=by
 have BD:=hin.line;have Fd:=hin.g_;have Fn:=hin.has;have Cx:=hin.g9;have Ci:=hin.draw;have C0:=fG (r:=r);refine cU kr Tryz.func18 U U fun w0 Q hQ hN=>?_
 try dsimp only
 refine aU bT 2 U<|dV U fun b2=>ck aj 7 [] (mc 0 U mn) ?_;refine cX (uA r kA kC az cA cC bA bC slA slC drA drC ha heA heC hin) (aP [1,2,3,4,5,6,7,8,9]) U fun y4 AC=>?_;obtain ⟨AO,Eq,V,O,Ap,AA,DA⟩:=y4;cases AO
 ·obtain ⟨v,he⟩:=AC.2 rfl
  try dsimp only at v he
  subst v
  try dsimp only [cond_true,cond_false,List.cons_append,List.nil_append]
  refine aU aj 3 U<|AL U Xj fun Di=>IV U Yf U U<|aq aj 10 ?_;refine bE U (aJ fun b=>?_) (aK fun b=>?_)
  ·exact absurd b he
  refine aq aY 3 ?_;have E:lW r=[]:=PB he;have X:([]:List RA).length=(lW r).length:=by rw [E];rfl
  refine fT 29 1<|xE ?_;rw [show (own none 0 29 1 ([]:List (List Value)))=own none 0 29 1 (zipWith oU (lW r) []) from by rw [E];rfl,show bD []=bD (bB Av (lW r) []) from by rw [E];rfl];refine aq aj 5 ?_;refine LX hQ ([],none,0) [1,0] [] mn U (by show all _ _=true;simp only [eX,om,vl,n4];rfl) U ?_ ?_
  ·first|rfl|(rw [E];rfl)|(rw [he,← E,c3];rfl)|(rw [he,E];rfl)
  ·exact X
 obtain ⟨he,GT⟩:=AC.1 rfl
 try dsimp only [cond_true,cond_false,List.cons_append,List.nil_append]
 have AB:=xh he;have Cp:=tH he;refine aU aj 3 U<|AL U Xj fun R=>IV U Yf U U<|aU aj 7 U<|rS (SX (cm (r:= .bool false) U U U nx) U U)<|dF aj 19 [] (mc 0 U mn) U<|rS (SX (bO U U) U U)<|ck aj 2 [] (mc 1 U mn) ?_;refine cX (Jt O) (aA) U fun A2 C1=>?_
 try dsimp only
 refine cX (B0 (bJ r) O A2 sd) (aP [5,0]) U fun B7 C2=>?_;obtain ⟨A1,A3⟩:=B7
 try dsimp only
 rw [show (bJ r).length=(eg ((bJ r).map (·.1))).length from by rw [iz,c3]];refine rS (FU U) ?_;refine cX (KH (eg ((bJ r).map (·.1))) A1 A3 (Value.func (.func 44) [].toArray [(vP R)].toArray) (fun u=>(cd (bJ r) u).Lo) (iU [(cb V 98 (hO.cells (hO.mk (pN r kA kC cA cC bA bC slA slC drA drC heA heC) (aX.mk Ap ((dN r).length) AA) (Value.map (some O))))),(iu iV O (bS e_ (bJ r))),(cb R 87 [(vP V)])]) (by intro Bv B3 _;exact kT (fi:=[]) (ca:=[(vP R)]) (jJ (PA Bv B3 r kA kC cA cC bA bC slA slC drA drC heA heC Ap ((dN r).length) AA O V (bJ r) R (by first|assumption|omega)) (Sf 0 1 2 U U U U U U))) (by exact WX AB) (by rw [iz,c3];omega)) (aw (ao (n:=(eg ((bJ r).map (·.1))).length) 0 U sm)<|aw (jO (Sf 3 6 2 U U U U U U))<|aA) U fun B9 C3=>?_;obtain ⟨DR,EU⟩:=B9
 try dsimp only
 have GE:(gV (fun u=>(cd (bJ r) u).Lo) (eg ((bJ r).map (·.1)))).length=(bJ r).length:=by rw [qy,iz,c3]
 have y:IZ (fun u=>(cd (bJ r) u).Lo) (gV (fun u=>(cd (bJ r) u).Lo) (eg ((bJ r).map (·.1)))):=Cr;refine aq aj 5 ?_;refine eC 29 1<|mo ?_;have H:(0≤(gV (fun u=>(cd (bJ r) u).Lo) (eg ((bJ r).map (·.1)))).length)∧(([]:List RA).length=([]:List (List Int)).length)∧(oI (cd (bJ r)) ((gV (fun u=>(cd (bJ r) u).Lo) (eg ((bJ r).map (·.1)))).take 0) ([]:List (List Int)) (-1))∧(-1≤(-1)∧(-1)≤30000000):=by exact ⟨c4 _,rfl,Ry,I⟩
 refine bw (ι:={z:Nat×(List (List Int))×(List RA)×(OA)×Nat×Int // (z.1≤(gV (fun u=>(cd (bJ r) u).Lo) (eg ((bJ r).map (·.1)))).length)∧(z.2.2.1.length=z.2.1.length)∧(oI (cd (bJ r)) ((gV (fun u=>(cd (bJ r) u).Lo) (eg ((bJ r).map (·.1)))).take z.1) z.2.1 z.2.2.2.2.2)∧(-1≤z.2.2.2.2.2∧z.2.2.2.2.2≤30000000)}) [1,4,29,30] [2,3,5,6,7,8,9,11,12,13,14,15,16,17,18,19] U U (fun z=>[(6,(vS z.1.2.2.2.1 z.1.2.1.length z.1.2.2.2.2.1)),(7,(vI z.1.2.2.2.2.2)),(31,(vI (z.1.1:Int)))]) (fun z=>[(bD (bB Av z.1.2.1 z.1.2.2.1)),(own z.1.2.2.2.1 z.1.2.2.2.2.1 29 1 (zipWith oU z.1.2.1 z.1.2.2.1))]) (fun _=>rfl) (fun _=>rfl) (fun z=>(gV (fun u=>(cd (bJ r) u).Lo) (eg ((bJ r).map (·.1)))).length-z.1.1) ⟨(0,([]:List (List Int)),([]:List RA),none,0,(-1)),H⟩ (aN U) (aB [2,3,5,6,7,8,9,11,12,13,14,15,16,17,18,19,0,1]) ?_;clear H;rintro ⟨⟨i,G,gz,a,c,last⟩,⟨Y,C,A,Z⟩⟩ J37 T
 try dsimp only at Y C A Z
 try dsimp only
 have A7:G.length≤12:=by have:=JP A;omega
 have Es:(G++[([]:List Int)]).length=G.length+1:=by simp
 have Ck:(gz++[((none,0):RA)]).length=gz.length+1:=by simp
 refine aq bT 6 ?_;refine bE U (aH fun A4=>?_) (aG fun A4=>?_)
 ·refine aU aY 1 U<|aq fz 4 ?_;have A7:G.length≤12:=by have:=JP A;omega
  refine aq aY 7 ?_;have H:(0≤G.length):=by exact c4 _
  refine bw (ι:={z:Nat // (z≤G.length)}) [1,6,66,67] [0,1,3,4,5,6,7,8,9,10,11,12,13,14,15,17] U U (fun z=>[(68,(vI (z.1:Int)))]) (fun z=>[(bD (bB Av (o7 G z.1) gz))]) (fun _=>rfl) (fun _=>rfl) (fun z=>G.length-z.1) ⟨0,H⟩ (aN U) (aB [0,1,3,4,5,6,7,8,9,10,11,12,13,14,15,17,16]) ?_;clear H;rintro ⟨j,A0⟩ J65 d
  try dsimp only
  refine aq bT 6 ?_;refine bE U (aH fun A5=>?_) (aG fun A5=>?_)
  ·refine aU aY 1 U<|aq fz 3 ?_;have A9:G.length≤j:=by omega
   have W:=F1 A.ok;rw [c5 I] at W;have E:G.map eg=lW r:=Ft he (yp W.1 (yD.trans f_)) W.2;have X:gz.length=(lW r).length:=by rw [← E,c3];omega
   rw [Hy A9,E,← NC,E];refine aq aY 7 ?_;refine LX hQ (gz,a,c) [15,16] [] mn U (by show all _ _=true;simp only [eX,om,vl,n4];rfl) U ?_ ?_
   ·first|rfl|(rw [E];rfl)|(rw [he,← E,c3];rfl)|(rw [he,E];rfl)
   ·exact X
  refine aq aY 5 ?_;obtain ⟨cg,B⟩:=ay G j I;obtain ⟨cga,D⟩:=ay gz j I;have F:(zipWith oU G gz)[j]? =some (oU cg cga):=cE B D;refine HV (f:=Av) 16 (Ku B) D U U U ?_
  try dsimp only
  refine aU aY 1 U<|rS (IA j U (ao (n:=G.length) 17 U (iO C)) wv dc I I)<|rS (gF j 0 (vS cga.1 cg.length cga.2) U bP (ao (n:=G.length) 17 U (iO C)) F U dc U)<|aq aj 5 ?_;refine kp 0 U U U U (CX cg cga.1 cga.2 (by have:=DU A (aF B);omega)) U mu U (fun msrt w=>?_)
  try dsimp only
  refine aq aj 7 ?_;obtain rfl:=tQ w.1 w.2;refine Q9 (f:=Av) (ms:=o7 G j) (m:=eg cg) 1 0 (by rw [H0];omega) D U U U ?_;rw [HH B];have t:(vI (((j+1):Nat):Int))=(vI ((j:Int)+1)):=by exact cI I
  refine aL (d ⟨(j+1),(by first|omega|(simp only [];omega))⟩ _ _ _ U os (cx 4<|aQ U t<|cV.nil _) (aB [1,2,3,4,5,6,7,8,9,10,11,12,13,14,15,16,0]))
 refine aq aY 6 ?_;obtain ⟨x,hx⟩:=ay (gV (fun u=>(cd (bJ r) u).Lo) (eg ((bJ r).map (·.1)))) i I;have Bt:=bx iC hx;refine rS (IA i U (ao (n:=(gV (fun u=>(cd (bJ r) u).Lo) (eg ((bJ r).map (·.1)))).length) 0 U sm) cO dc I I)<|rS (gF i 0 (vI x) U bP (ao (n:=(gV (fun u=>(cd (bJ r) u).Lo) (eg ((bJ r).map (·.1)))).length) 0 U sm) Bt U dc U)<|dF aj 6 [] (mc 2 U mn) U<|rS (SX (bO U U) U U)<|ck aj 2 [] (mc 3 U mn) ?_;have BP:=n9 (i:=x) AB;refine aU aj 1 U<|rS (SX (mF (kV:=iV) (x:=x) (l:=(bJ r)) (f:=e_) (z:=(aa.mk 0 0)) U U U rY (eE nZ) Lw (by exact av 6 U)) U U)<|AL U dD fun Dn=>eM U cK U<|aq aj 5 ?_;rw [show ((lookup x (bJ r)).getD (aa.mk 0 0))=(cd (bJ r) x) from rfl];refine ck aj 6 [] (mc 0 U mn) ?_;refine bE U (aH fun N=>?_) (aG fun N=>?_)
 ·refine aq aY 3 ?_;have FS:1≤G.length:=SC BP.1 A N;refine aq aY 8 ?_;have A8:(G.length-1)<G.length:=by first|omega|(simp;done)
  obtain ⟨cg,B⟩:=ay G (G.length-1) I;obtain ⟨cga,D⟩:=ay gz (G.length-1) I;have F:(zipWith oU G gz)[(G.length-1)]? =some (oU cg cga):=cE B D;refine HV (f:=Av) 17 B D U U U ?_
  try dsimp only
  refine aU aY 5 U<|rS (IA (G.length-1) U (ao (n:=G.length) 19 U (iO C)) wv dc I I)<|rS (gF (G.length-1) 0 (vS cga.1 cg.length cga.2) U bP (ao (n:=G.length) 19 U (iO C)) F U dc U)<|aq aj 1 ?_;have A6:cg.length≤12:=(dZ.1 (show cg∈G++[[]] from by first|exact aF B|exact m1 _ (aF B))).elim (fun q=>by have:=DU A q;omega) (fun q=>by simp at q;subst q;simp);refine dC (xs:=[.tmp 57]) (cs:=[(vI x)]) U cO jU U U U U (by simp [Value.cells]) U U fun EQ=>?_;refine de (es2:=(map iC (cg++[x]))) (m':=(cg++[x]).length) 1 U U U pG U U sm (aM (es:=map iC [x]) 0 U U (by simp [br]) U) (j_ _) os (by first|(simp only [maxLen];omega)|(simp [maxLen];omega)) sm sm U fun K M=>?_
  try dsimp only
  refine rS (IA (G.length-1) U (ao (n:=G.length) 20 U (iO C)) wv dc I I)<|ej (k:=(G.length-1)) (o:=0) (vs:=[(vS K ((cg++[x]).length) M)]) (es':=(zipWith oU (G.set (G.length-1) (cg++[x])) (gz.set (G.length-1) (K,M)))) (C':=[_,_,_,_,_,_,_,_,_,_,_,_,_,_,_,_,_,_,_,_,(own a c 29 1 (zipWith oU (G.set (G.length-1) (cg++[x])) (gz.set (G.length-1) (K,M))))]) 20 U U U wk U U U U F U dc (by exact qL (c:=oU) (m:=(cg++[x])) (a:=(K,M))) U<|Jp (f:=Av) (ms:=G) (asl:=gz) (m:=(cg++[x])) (a:=(K,M)) 2 1 I I U U U ?_;refine dF aj 6 [] (mc 2 U mn) U<|rS (MX U)<|aq aj 8 ?_;have p:(vS a ((G.set (G.length-1) (cg++[x])).length) c)=(vS a G.length c):=by rw [AAG]
  have s:(vI (((i+1):Nat):Int))=(vI ((i:Int)+1)):=by exact cI I
  refine aL (T ⟨((i+1),(G.set (G.length-1) (cg++[x])),(gz.set (G.length-1) (K,M)),a,c,(max last ((cd (bJ r) x).Hi))),⟨I,by simp;omega,by first|exact wg I hx B A N|exact uT I (fun u _=>(n9 (i:=u) AB).2.1) y hx B A N,dso⟩⟩ _ _ _ U os (cx 4<|aQ U p<|cV.cons U<|aQ U s<|cV.nil _) (aB [3,4,5,6,7,8,9,10,11,12,13,14,15,16,17,18,0,19]))
 refine aq aY 2 ?_;refine dC (xs:=[.const (vS none 0 0)]) (cs:=[(vS none 0 0)]) U wv Pw U U U U (by simp [Value.cells]) U U fun Do=>?_;refine de (es2:=(zipWith oU (G++[[]]) (gz++[(none,0)]))) (m':=(G++[[]]).length) 19 rfl rfl rfl Zg rfl rfl (iO C).symm (aM (es:=zipWith oU [[]] [(none,0)]) 0 rfl rfl (by intro e he;simp [oU] at he;subst he;rfl) rfl) (Is _ _) I (by simp only [maxLen];omega) (BM I) (by simp;omega) rfl fun P S=>?_
 try dsimp only
 refine fT 3 1<|Pg (Y':=bB Av (G++[[]]) (gz++[(none,0)])) 19 0 U U (z8 I U)<|aq aj 12 ?_;have A8:((G++[[]]).length-1)<(G++[[]]).length:=by first|omega|(simp;done)
 obtain ⟨cg,B⟩: ∃ y_,(G++[[]])[((G++[[]]).length-1)]? =some y_:=⟨(G++[[]])[((G++[[]]).length-1)]'I,fh _⟩;obtain ⟨cga,D⟩: ∃ y_,(gz++[(none,0)])[((G++[[]]).length-1)]? =some y_:=⟨(gz++[(none,0)])[((G++[[]]).length-1)]'I,fh _⟩;have F:(zipWith oU (G++[[]]) (gz++[(none,0)]))[((G++[[]]).length-1)]? =some (oU cg cga):=cE B D;refine HV (f:=Av) 0 B D U U U ?_
 try dsimp only
 refine aq aY 5 ?_;refine rS (IA ((G++[[]]).length-1) U (ao (n:=(G++[[]]).length) 20 U (iO (by simp;omega))) wv dc I I) ?_;refine rS (gF ((G++[[]]).length-1) 0 (vS cga.1 cg.length cga.2) U bP (ao (n:=(G++[[]]).length) 20 U (iO (by simp;omega))) F U dc U) ?_;refine aq aj 1 ?_;have A6:cg.length≤12:=(dZ.1 (show cg∈G++[[]] from by first|exact aF B|exact m1 _ (aF B))).elim (fun q=>by have:=DU A q;omega) (fun q=>by simp at q;subst q;simp);refine dC (xs:=[.tmp 57]) (cs:=[(vI x)]) U cO jU U U U U (by simp [Value.cells]) U U fun D0=>?_;refine de (es2:=(map iC (cg++[x]))) (m':=(cg++[x]).length) 1 U U U pG U U sm (aM (es:=map iC [x]) 0 U U (by simp [br]) U) (j_ _) os (by first|(simp only [maxLen];omega)|(simp [maxLen];omega)) sm sm U fun J L=>?_
 try dsimp only
 refine rS (IA ((G++[[]]).length-1) U (ao (n:=(G++[[]]).length) 21 U (iO (by simp;omega))) wv dc I I) ?_;refine ej (k:=((G++[[]]).length-1)) (o:=0) (vs:=[(vS J ((cg++[x]).length) L)]) (es':=(zipWith oU ((G++[[]]).set ((G++[[]]).length-1) (cg++[x])) ((gz++[(none,0)]).set ((G++[[]]).length-1) (J,L)))) (C':=[_,_,_,_,_,_,_,_,_,_,_,_,_,_,_,_,_,_,_,_,_,(own P S 29 1 (zipWith oU ((G++[[]]).set ((G++[[]]).length-1) (cg++[x])) ((gz++[(none,0)]).set ((G++[[]]).length-1) (J,L))))]) 21 U U U wk U U U U F U dc (by exact qL (c:=oU) (m:=(cg++[x])) (a:=(J,L))) U<|Jp (f:=Av) (ms:=(G++[[]])) (asl:=(gz++[(none,0)])) (m:=(cg++[x])) (a:=(J,L)) 2 1 I I U U U ?_;refine dF aj 6 [] (mc 3 U mn) U<|rS (MX U)<|aq aj 8 ?_;have g:(vS P (((G++[[]]).set ((G++[[]]).length-1) (cg++[x])).length) S)=(vS P ((G++[[]]).length) S):=by rw [AAG]
 have h:(vI (((i+1):Nat):Int))=(vI ((i:Int)+1)):=by exact cI I
 refine aL (T ⟨((i+1),((G++[[]]).set ((G++[[]]).length-1) (cg++[x])),((gz++[(none,0)]).set ((G++[[]]).length-1) (J,L)),P,S,(max last ((cd (bJ r) x).Hi))),⟨I,by simp;omega,by first|exact wg I hx B A N|exact uT I (fun u _=>(n9 (i:=u) AB).2.1) y hx B A N,dso⟩⟩ _ _ _ U os (cx 4<|aQ U g<|cV.cons U<|aQ U h<|cV.nil _) (aB [4,5,6,7,8,9,10,11,12,13,14,15,16,17,18,19,0,20]))
end
section
open Go.RowKit
theorem NN (i:Int) (p:cG) (sq:Int) (g1:Nat) (j:dy) (kA:OA) (kC:Nat) (az:List RA) (cA:OA) (cC:Nat) (bA:OA) (bC:Nat) (slA:OA) (slC:Nat) (drA:OA) (drC:Nat) (ha:List cq) (heA:OA) (heC:Nat) (faA:OA) (faC:Nat) (prA:OA) (prC g2:Nat) (hin:jy j az ha) (hok:fU j=0) (hp: ∃ i:Nat,j.bH[i]? =some p):
 dh Tryz.prog 47 [(vI i),(vA (cG.cells p)),(vP g1),(vP g2)] ((cb g1 3 [(vI sq)])::((Cl j kA az cA bA slA drA ha heA faA prA)++[(cb g2 76 (dv.cells (dv.mk (rL j kA kC cA cC bA bC slA slC drA drC heA heC faA faC prA prC))))])) (vB (Dq j sq p)):=by
 refine bj kr Tryz.func47 U U fun C Q hQ hN=>?_
 try dsimp only
 refine aU bT 2 U<|dV U fun B=>ck aj 10 [0,1] (mc 0 U (mr 1 U mn)) ?_;refine cz (t:=11) U (aH fun A=>?_) (aG fun A=>?_)
 ·refine cr aj 10 hQ U U ?_
  (rw [Q3 A];done)
 refine dF aj 3 [0,1] (mr 12 U (mc 0 U mn)) U<|rS (CL (B2 j kA kC az cA cC bA bC slA slC drA drC ha heA heC faA faC prA prC i p hin hok hp) (aP [2,3,4,5,6,7,8,9,10,11]) U)<|cr aj 6 hQ U U ?_
 (rw [MG A];done)
theorem S5 (j:dy) (kA:OA) (kC:Nat) (az:List RA) (cA:OA) (cC:Nat) (bA:OA) (bC:Nat) (slA:OA) (slC:Nat) (drA:OA) (drC:Nat) (ha:List cq) (heA:OA) (heC:Nat) (faA:OA) (faC:Nat) (prA:OA) (prC:Nat) (sq:Int) (hin:jy j az ha):
 dh Tryz.prog 19 [(vA (km.cells (rL j kA kC cA cC bA bC slA slC drA drC heA heC faA faC prA prC))),(vI sq)] ((rd hU 3 2 fX)::(Cl j kA az cA bA slA drA ha heA faA prA)) (vT [(vI (vx j sq)),(vI (tF j sq))]):=by
 have R:=hin.race;have L:=hin.race.line;have W:=hin.race.g_;have X:=hin.race.has;have S:=hin.race.g9;have O:=hin.nf;have P:=hin.np;refine bj kr Tryz.func19 U U fun d Q hQ hN=>?_
 try dsimp only
 refine aU bT 2 U<|dV U fun c=>sK U U fun E=>dF aj 7 [] (mc 1 U mn) U<|rS (CL (Dm j kA kC az cA cC bA bC slA slC drA drC ha heA heC faA faC prA prC hin) (aP [2,3,4,5,6,7,8,9,10,11,12]) U)<|aU aj 3 U<|AL U RQ fun F=>eM U SI U<|aq aj 10 ?_;refine bY U (aK fun A=>?_) (aJ fun A=>?_)
 ·refine aq aY 8 ?_;refine Q2 hQ U U U U ?_
  (have e:=LK (s:=sq) A;rw [e.1,e.2];done)
 refine ck aY 11 [0,1] (mc 2 U (mc 1 U mn)) ?_;refine dC (xs:=[.tmp 22]) (cs:=[(vI sq)]) U cO jU U U U U (by simp [Value.cells]) U U fun G=>?_;refine rS (CL (dh.eq (j1 0 ((j.Race.a_.length:Int)-1) ([sq]) (some ⟨G,0,none⟩) 1 (by (simp;done))) cp) (aw (aM 0 U U (by simp [br]) U)<|aA) U) ?_;refine aq aj 3 ?_;refine bY U (aK fun H=>?_) (aJ fun H=>?_)
 ·refine aq aY 7 ?_;refine Q2 hQ U U U U ?_
  (have e:=Kh (s:=sq) A I;rw [e.1,e.2];done)
 refine ck aY 6 [] (mc 3 U mn) ?_;refine rS (FU U) ?_;refine cX (Iz j.bH prA prC (Value.func (.func 47) [].toArray [(vP E),(vP F)].toArray) (fun D B=>(Dq j sq B)) (iU [(cb E 3 [(vI sq)]),(l0 kA j.Race.ar.bQ),(yS cA j.Race.ar.aC az),(iU (bB aS.lf j.Race.ar.aC az)),(xP bA j.Race.ar.ai),(jx slA j.Race.a_),(jx drA j.Race.db),(CV heA j.Race.ax ha),(iU (bB nm j.Race.ax ha)),(vX faA j.bu),(Ct prA j.bH),(cb F 76 (dv.cells (dv.mk (rL j kA kC cA cC bA bC slA slC drA drC heA heC faA faC prA prC))))]) (by intro D B M;exact kT (fi:=[]) (ca:=[(vP E),(vP F)]) (jJ (NN D B sq E j kA kC az cA cC bA bC slA slC drA drC ha heA heC faA faC prA prC F asm asm (by (obtain ⟨b,_,K⟩:=M;exact ⟨b,K⟩))) (aP [0,1,2,3,4,5,6,7,8,9,10,11]))) asm) (gM 14 rfl rfl<|aw (jO (aP [2,5,6,7,8,9,10,11,12,13,14,1]))<|aA) rfl fun N T=>?_;obtain ⟨AA,V⟩:=N
 try dsimp only
 refine aq aj 6 ?_;have C:=(fI A).2;have Z:=C.np;have J:=C.vN;have Y:(jV (jg j.bH fun _ p=>Dq j sq p) j.bH.length).length≤8:=c6 rO I;have AB:=V5 (a:= -(((jV (jg j.bH fun _ p=>Dq j sq p) j.bH.length).length:Nat):Int)) ⟨I,I⟩ J;refine aU aj 1 U<|rS (NG U ⟨I,I⟩)<|dF aj 2 [] (mc 4 U mn) U<|rS (BI U (nt AB))<|aq aj 5 ?_;refine Q2 hQ U U U U ?_
 (have e:=Ov (s:=sq) A I;rw [e.1,e.2];done)
end
section
open Go.RowKit
theorem C8 (G:List (List Int)) (H:List (List Int)) (gz:List RA) (gA:OA) (gC:Nat) (hz:List RA) (hA:OA) (hC:Nat) (h1:G.length≤1000000) (h2:H.length≤1000000) (h3: ∀ l∈G,l.length≤1000000) (h4: ∀ l∈H,l.length≤1000000) (hgz:gz.length=G.length) (hhz:hz.length=H.length):
 dh Tryz.prog 21 [(vS gA G.length gC),(vS hA H.length hC)] [(T3 gA G gz),(iU (bB Kr G gz)),(T3 hA H hz),(iU (bB Kr H hz))] (vB (decide (G=H))):=by
 refine bj kr Tryz.func21 U U fun M Q hQ hN=>?_
 try dsimp only
 refine aq bT 15 ?_;refine bY U (aK fun hl=>?_) (aJ fun hl=>?_)
 ·exact cr aY 6 hQ rfl rfl<|cB (bg (fun e=>by subst e;omega)).symm
 refine aq aY 9 ?_;have A:(0≤G.length)∧(G.take 0=H.take 0):=by exact ⟨c4 _,rfl⟩
 refine bw (ι:={z:Nat // (z≤G.length)∧(G.take z=H.take z)}) [0,1] [0,1,2,3] U U (fun z=>[(5,(vI (z.1:Int)))]) (fun z=>[]) (fun _=>rfl) (fun _=>rfl) (fun z=>G.length-z.1) ⟨0,A⟩ (aN U) (aB [0,1,2,3]) ?_;clear A;rintro ⟨i,⟨J,B⟩⟩ J7 AA
 try dsimp only
 refine aq bT 9 ?_;refine bE U (aH fun F=>?_) (aG fun F=>?_)
 ·exact aU aY 1 U<|cr fz 8 hQ U U<|cB (cR (iE I B I)).symm
 refine aU aY 5 U<|cL bX 10 kr<|dP 2 [] mn ?_;obtain ⟨x,hx⟩:=ay G i I;obtain ⟨xa,D⟩:=ay gz i I;have K:(zipWith oU G gz)[i]? =some (oU x xa):=cE hx D;refine dS (IA i U (av 0 U) wv dc I I)<|dS (gF i 0 (vS xa.1 x.length xa.2) U bP (av 0 U) K U dc U)<|dP 2 [] mn ?_;obtain ⟨y,hy⟩:=ay H i I;obtain ⟨ya,E⟩:=ay hz i I;have L:(zipWith oU H hz)[i]? =some (oU y ya):=cE hy E;refine dS (IA i U (av 2 U) wv dc I I)<|dS (gF i 0 (vS ya.1 y.length ya.2) U bP (av 2 U) L U dc U)<|dS (CL (tn x xa.1 xa.2 y ya.1 ya.2 (by exact h3 x (aF hx)) (by exact h4 y (aF hy))) (aw (show ig _ (jx xa.1 x).holds from (ct 1 U (bq hx D (by simp [Kr]))))<|aw (show ig _ (jx ya.1 y).holds from (ct 3 U (bq hy E (by simp [Kr]))))<|aA) U)<|iQ 1 U<|cy<|aq aj 2 ?_;refine bY U (aK fun h=>?_) (aJ fun h=>?_)
 ·exact cr aY 6 hQ U U<|cB (bg (kg hx hy h)).symm
 refine aq aY 8 ?_;have C:(vI (((i+1):Nat):Int))=(vI ((i:Int)+1)):=by exact cI I
 refine aL (AA ⟨(i+1),⟨I,iP B hx hy h⟩⟩ _ _ _ U os (cV.cons U<|cV.cons U<|aQ U C<|cV.nil _) (aB [0,1,2,3]))
end
section
open Go.RowKit
theorem jZ (x y:Int):
 dh Tryz.prog 16 [(vI x),(vI y)] [] (vA (aa.cells (aa.mk x y))):=by
 refine bj kr Tryz.func16 U U fun B Q hQ hN=>?_
 try dsimp only
 refine aU bT 2 U<|AL U dD fun A=>aU aj 6 U<|rS (SX (aW (xs:=[(0,.tmp 5),(1,.tmp 6)]) (cs:=(aa.cells (aa.mk x y))) U U (aV gQ U)) U U)<|eM U cK U<|aq aj 3 ?_;exact Gx hQ [0] (mc 0 U mn) U U
theorem BG (ts:List ag) (tsA:OA) (tsC:Nat) (f:Int) (hlen:ts.length≤1000) (hside: ∀ x∈ts,0≤x.gu∧x.gu≤255) (hl1:1≤ts.length):
 ld Tryz.prog 17 [(vA (aZ.cells (aZ.mk (aX.mk tsA ts.length tsC)))),(vI f)] [(l0 tsA ts)] (fun (x:(OA)×Nat×(List RA)×(OA)×Nat)=>(vT [(vA (bV.cells (bV.mk (aZ.mk (aX.mk tsA ts.length tsC)) f (aX.mk x.1 1 x.2.1) (aX.mk x.2.2.2.1 ((eJ (min (ts.length-1) 6)).length) x.2.2.2.2) 0 0 0))),(vB (decide (dU (bf.mk ts f [eP] (eJ (min (ts.length-1) 6)) 0 0 0)=0)))])) (fun (x:(OA)×Nat×(List RA)×(OA)×Nat)=>x.2.2.1.length=1∧dX (bf.mk ts f [eP] (eJ (min (ts.length-1) 6)) 0 0 0) x.2.2.1) (fun (x:(OA)×Nat×(List RA)×(OA)×Nat)=>[(own x.1 x.2.1 109 2 (zipWith aS.cells [eP] x.2.2.1)),(bD (bB aS.owns [eP] x.2.2.1)),(Qo x.2.2.2.1 x.2.2.2.2 (eJ (min (ts.length-1) 6)))]):=by
 refine cU kr Tryz.func17 U U fun V Q hQ hN=>?_
 try dsimp only
 refine aU bT 2 U<|dV U fun T=>AL U Ri fun AA=>ck aj 7 [] (mc 1 U mn) ?_;refine rS (SX (aW (xs:=[]) (cs:=(cP.cells (cP.mk 0 (aa.mk 0 0)))) U U (aV Yo U)) U U)<|dC (xs:=[.tmp 10]) (cs:=(cP.cells (cP.mk 0 (aa.mk 0 0)))) U pK uX U U U U (by simp [Value.cells,cP.aD]) U U fun B=>rS (SX (aW (xs:=[(1,.tmp 11)]) (cs:=(dE.cells (dE.mk 0 (aX.mk (some ⟨B,0,none⟩) 1 1)))) U U (aV W0 U)) U U)<|dC (xs:=[.tmp 12]) (cs:=(dE.cells (dE.mk 0 (aX.mk (some ⟨B,0,none⟩) 1 1)))) U xq zJ U U U U (by simp [Value.cells,dE.aD]) U U fun E=>rS (SX (aW (xs:=[(0,.tmp 8),(1,.tmp 9),(2,.tmp 13)]) (cs:=(bV.cells (bV.mk (aZ.mk (aX.mk tsA ts.length tsC)) f (aX.mk (some ⟨E,0,none⟩) 1 1) (aX.mk none 0 0) 0 0 0))) U U (aV aaP U)) U U)<|AL U Ri fun S=>?_;refine g0 (es:=(eP.bo.map cP.cells)) (C':=[_,_,(Yz (some ⟨B,0,none⟩) 1 eP.bo),_,_,_]) 2 U (uB cP.aD _) U (by show _≤maxLen;exact c6 (m:=10) (show (1:Nat)≤10 by decide) dc) U ?_;refine g0 (es:=(zipWith aS.cells [eP] [((some ⟨B,0,none⟩),1)])) (C':=[_,(own (some ⟨E,0,none⟩) 1 109 2 (zipWith aS.cells [eP] [((some ⟨B,0,none⟩),1)])),_,_,_,_]) 1 U (by intro x hx;change x∈[aS.cells eP ((some ⟨B,0,none⟩),1)] at hx;rw [bU.1 hx];rfl) U (by show _≤maxLen;exact c6 (m:=10) (show (1:Nat)≤10 by decide) dc) U ?_;refine xE<|UA (X:=[]) (X':=bB aS.owns [eP] [((some ⟨B,0,none⟩),1)]) 0 3 U U U ?_;have D:dX (lu ts f) [((some ⟨B,0,none⟩),1)]:=Mu I hside (c9 _);refine o_ U NF U<|aq aj 9 ?_;refine eC 113 4 ?_;have C:(0≤(min (ts.length-1) 6)):=by exact c4 _
 have L:(vI ((0:Int)+1))=(vI 1):=by exact cI I
 refine bw (ι:={z:Nat×(OA)×Nat // (z.1≤(min (ts.length-1) 6))}) [2,4,6] [1,3,4,5,6] U U (fun z=>[(7,(vI ((z.1.1:Int)+1)))]) (fun z=>[(Qo z.1.2.1 z.1.2.2 (eJ z.1.1)),(cb S 28 (bV.cells (bV.mk (aZ.mk (aX.mk tsA ts.length tsC)) f (aX.mk (some ⟨E,0,none⟩) ([eP].length) 1) (aX.mk z.1.2.1 ((eJ z.1.1).length) z.1.2.2) 0 0 0)))]) (fun _=>rfl) (fun _=>rfl) (fun z=>(min (ts.length-1) 6)-z.1.1) ⟨(0,none,0),C⟩ (aQ U L<|cV.nil _) (aB [1,3,4,5,6,0,2]) ?_;clear C;rintro ⟨⟨k,ba,bc⟩,F⟩ J11 AB
 try dsimp only at F
 try dsimp only
 have P:=mG (n:=k);refine ck bT 9 [] (mc 3 U mn) ?_;refine cz (t:=20) U (aH fun N=>?_) (aG fun N=>?_)
 ·refine aU aj 9 U<|aq fz 3 ?_;obtain rfl:k=(min (ts.length-1) 6):=by omega
  have A:dX (bf.mk ts f [eP] (eJ (min (ts.length-1) 6)) 0 0 0) [((some ⟨B,0,none⟩),1)]:=D;refine cT bX [4] [] [] [0,1,3,4,5,6] [] U U U U U<|eS U (LW 5 U bP U U)<|eS U (LW 5 U bP U U)<|eS U (CL (w5 (bf.mk ts f ([eP]) (eJ (min (ts.length-1) 6)) 0 0 0) tsA tsC ([((some ⟨B,0,none⟩),1)]) (some ⟨E,0,none⟩) 1 ba bc (by exact A)) (gM 3 U U<|aw (ao (n:=([eP]).length) 1 U U)<|aw (dQ 0 U kF)<|aw (ao (n:=(eJ (min (ts.length-1) 6)).length) 4 U sm)<|aA) U)<|eS U (BI U ny)<|eS U (AG U)<|dL U<|bR U fun T24 K=>D2 U NF U<|bG (K _ _ (aB [0,1,3,4,5,6]) ?_);refine eI U<|aq jC 2 ?_;refine LX hQ ((some ⟨E,0,none⟩),1,[((some ⟨B,0,none⟩),1)],ba,bc) [1,0,5] [0] (mc 2 U mn) U (by simp only [eX,om,gl,n4];rfl) U ?_ ?_
  ·first|rfl|(rw [mG];rfl)
  ·exact ⟨U,A⟩
 refine ck aj 7 [] (mc 6 U mn) ?_;refine bE U (aH fun O=>?_) (aG fun O=>?_)
 ·refine aU aY 1 U<|aq fz 3 ?_;obtain rfl:k=(min (ts.length-1) 6):=by omega
  have A:dX (bf.mk ts f [eP] (eJ (min (ts.length-1) 6)) 0 0 0) [((some ⟨B,0,none⟩),1)]:=D;refine cT bX [4] [] [] [0,1,3,4,5,6] [] U U U U U<|eS U (LW 5 U bP U U)<|eS U (LW 5 U bP U U)<|eS U (CL (w5 (bf.mk ts f ([eP]) (eJ (min (ts.length-1) 6)) 0 0 0) tsA tsC ([((some ⟨B,0,none⟩),1)]) (some ⟨E,0,none⟩) 1 ba bc (by exact A)) (gM 3 U U<|aw (ao (n:=([eP]).length) 1 U U)<|aw (dQ 0 U kF)<|aw (ao (n:=(eJ (min (ts.length-1) 6)).length) 4 U sm)<|aA) U)<|eS U (BI U ny)<|eS U (AG U)<|dL U<|bR U fun T22 J=>D2 U NF U<|bG (J _ _ (aB [0,1,3,4,5,6]) ?_);refine eI U<|aq jC 2 ?_;refine LX hQ ((some ⟨E,0,none⟩),1,[((some ⟨B,0,none⟩),1)],ba,bc) [1,0,5] [0] (mc 2 U mn) U (by simp only [eX,om,gl,n4];rfl) U ?_ ?_
  ·first|rfl|(rw [mG];rfl)
  ·exact ⟨U,A⟩
 refine ck aY 8 [] (mc 6 U mn) ?_;refine rS (SX (aW (xs:=[(0,.tmp 30)]) (cs:=(cY.cells (cY.mk ((k:Int)+1) (aa.mk 0 0)))) U U (aV YC U)) U U)<|rS (SX (aW (xs:=[(0,.tmp 31)]) (cs:=(df.cells (df.mk (cY.mk ((k:Int)+1) (aa.mk 0 0)) 0))) U U (aV YY U)) U U)<|dC (xs:=[.tmp 32]) (cs:=(df.cells (df.mk (cY.mk ((k:Int)+1) (aa.mk 0 0)) 0))) U wx Y9 U U U U (by simp [Value.cells,df.aD]) U U fun R=>?_;refine de (es2:=(map df.cells (eJ (k+1)))) (m':=(eJ (k+1)).length) 6 U U U W2 U U sm (aM (es:=map df.cells [(df.mk (cY.mk ((k:Int)+1) (aa.mk 0 0)) 0)]) 0 U U (by simp [df.aD]) U) (sD _) (by rw [mG];omega) (by rw [mG];simp only [maxLen];omega) (by rw [DX];simp) sm U fun G H=>?_
 try dsimp only
 refine aU aj 1 U<|ST7 (bV.cells (bV.mk (aZ.mk (aX.mk tsA ts.length tsC)) f (aX.mk (some ⟨E,0,none⟩) ([eP].length) 1) (aX.mk G ((eJ (k+1)).length) H) 0 0 0)) U U5 U U<|aq aj 8 ?_;have M:(vI ((((k+1):Nat):Int)+1))=(vI (((k:Int)+1)+1)):=by exact cI I
 refine aL (AB ⟨((k+1),G,H),(by first|omega|(simp only [];omega))⟩ _ _ _ U os (cx 3<|aQ U M<|cV.nil _) (aB [1,2,3,4,5,6,7]))
end
section
open Go.RowKit
variable (v h:Int)
theorem R_ (g1:Nat) (hh:0≤h∧h≤400000) (hv:0≤v∧v≤10000):
 dh Tryz.prog 146 [(vI v),(vP g1)] [(cb g1 3 [(vI h)])] (vB (decide (1962*h<10*v*v))):=by
 have C:=AX (a:=10*v) (b:=v) (A:=100000) (B:=10000) I I I I;refine bj kr Tryz.func146 U U fun D Q hQ hN=>?_
 try dsimp only
 refine aU bT 8 U<|rS (BI U (nt ⟨I,I⟩))<|aU aj 1 U<|rS (BI U (nt ⟨I,I⟩))<|ck aj 1 [] (mr 0 U mn) ?_;refine rS (BI U (nt ⟨I,I⟩)) ?_;exact cr aj 5 hQ U U U
theorem SQ (g1:Nat) (hh:0≤h∧h≤400000) (hv:0≤v∧v≤10000):
 dh Tryz.prog 147 [(vI v),(vP g1)] [(cb g1 3 [(vI h)])] (vB (decide (1962*h≤10*v*v))):=by
 have C:=AX (a:=10*v) (b:=v) (A:=100000) (B:=10000) I I I I;refine bj kr Tryz.func147 U U fun D Q hQ hN=>?_
 try dsimp only
 refine aU bT 8 U<|rS (BI U (nt ⟨I,I⟩))<|aU aj 1 U<|rS (BI U (nt ⟨I,I⟩))<|ck aj 1 [] (mr 0 U mn) ?_;refine rS (BI U (nt ⟨I,I⟩)) ?_;exact cr aj 5 hQ U U U
theorem ID (lo hi:Int) (f:Value) (p:Int→Bool) (X:au) (r:Int) (hf: ∀ x0,0≤x0∧x0<hi→BV Tryz.prog f [.int .i64 x0] [X] (.bool (p x0))) (hb:0≤lo∧lo≤r∧r≤hi∧hi≤100000000) (hno: ∀ x,lo≤x→x<r→p x=false) (hyes: ∀ x,r≤x→x<hi→p x=true):
 dh Tryz.prog 145 [(vI lo),(vI hi),f] [X] (vI r):=by
 refine bj kr Tryz.func145 U U fun G Q hQ hN=>?_
 try dsimp only
 refine aq bT 7 ?_;have A:(lo≤lo∧lo≤r)∧(r≤hi∧hi≤hi):=by first|trivial|omega|(refine ⟨?_,?_⟩<;>first|trivial|omega|simp)
 refine bw (ι:={z:Int×Int // (lo≤z.1∧z.1≤r)∧(r≤z.2∧z.2≤hi)}) [2] [0] U U (fun z=>[(0,(vI z.1.1)),(1,(vI z.1.2))]) (fun z=>[]) (fun _=>rfl) (fun _=>rfl) (fun z=>(z.1.2-z.1.1).toNat) ⟨(lo,hi),A⟩ (aN U) (aB [0]) ?_;clear A;rintro ⟨⟨a,b⟩,⟨B,C⟩⟩ J3 E
 try dsimp only at B C
 try dsimp only
 refine aq bT 8 ?_;refine bE U (aH fun F=>?_) (aG fun F=>?_)
 ·exact aU aY 1 U<|cr fz 9 hQ U U<|cI I
 refine aU aY 9 U<|rS (BI U (sx I I I))<|aU aj 8 U<|rS (SX (pq U U U (hf (a+((b-a)/2)) I) (aP [0])) U U)<|aq aj 2 ?_;refine bY U (fun hp=>?_) (fun hp=>?_)
 ·refine aq aY 5 ?_;refine aL (E ⟨(a,(a+((b-a)/2))),(by dsimp only;rcases AAe (a+(b-a)/2) r with q|q;(have D:=hno _ I q;first|(refine ⟨⟨I,I⟩,I,I⟩)|(rw [D] at hp;cases hp));(have D:=hyes _ q I;first|(refine ⟨⟨I,I⟩,I,I⟩)|(rw [D] at hp;cases hp)))⟩ _ _ _ rfl (by simp only [];omega) (aN rfl) (aB [0]))
 refine aq aY 6 ?_;refine aL (E ⟨(((a+((b-a)/2))+1),b),(by dsimp only;rcases AAe (a+(b-a)/2) r with q|q;(have D:=hno _ I q;first|(refine ⟨⟨I,I⟩,I,I⟩)|(rw [D] at hp;cases hp));(have D:=hyes _ q I;first|(refine ⟨⟨I,I⟩,I,I⟩)|(rw [D] at hp;cases hp)))⟩ _ _ _ rfl (by simp only [];omega) (aN rfl) (aB [0]))
theorem Wi (hh:0≤h∧h≤400000):
 dh Tryz.prog 94 [(vI h)] [] (vI (kH h)):=by
 have hs:=Ak hh.1 hh.2;have C:=FK hh.1 hh.2;refine bj kr Tryz.func94 U U fun F Q hQ hN=>?_
 try dsimp only
 refine aU bT 2 U<|sK U U fun A=>aq aj 5 ?_;refine rS (FU U) ?_;refine rS (CL (ID 0 10000 (Value.func (.func 146) [].toArray [(vP A)].toArray) (fun B=>(decide (1962*h<10*B*B))) (iU [(cb A 3 [(vI h)])]) (kH h+1) (by intro B _;exact kT (fi:=[]) (ca:=[(vP A)]) (jJ (R_ B h A (by first|assumption|omega) (by first|assumption|omega)) (aP [0]))) sd (by intro x D hx;exact RE hh.1 I hx) (by intro x hx E;exact QD hh.1 hx)) (aw (jO (aP [0]))<|aA) U) ?_;exact cr aj 5 hQ U U<|cI I
theorem VC (hh:0≤h∧h≤400000):
 dh Tryz.prog 95 [(vI h)] [] (vI (qd h)):=by
 have hs:=Ak hh.1 hh.2;have C:=FK hh.1 hh.2;refine bj kr Tryz.func95 U U fun F Q hQ hN=>?_
 try dsimp only
 refine aU bT 2 U<|sK U U fun A=>aq aj 5 ?_;refine rS (FU U) ?_;refine rS (CL (ID 0 10000 (Value.func (.func 147) [].toArray [(vP A)].toArray) (fun B=>(decide (1962*h≤10*B*B))) (iU [(cb A 3 [(vI h)])]) (qd h) (by intro B _;exact kT (fi:=[]) (ca:=[(vP A)]) (jJ (SQ B h A (by first|assumption|omega) (by first|assumption|omega)) (aP [0]))) sd (by intro x D hx;exact SM hh.1 I hx) (by intro x hx E;exact Px hh.1 hx)) (aw (jO (aP [0]))<|aA) U) ?_;exact cr aj 4 hQ U U<|cI I
end
section
open Go.RowKit
theorem xA (s:dx) (best:Bool) (tsA:OA) (tsN tsC:Nat) (z:aa) (f:Bool):
 dh Tryz.prog 189 [(vA (gE.cells (gE.mk s (aZ.mk (aX.mk tsA tsN tsC)) best))),(vA (aa.cells z)),(vB f)] [] (vI (l8 best f z)):=by
 refine bj kr Tryz.func189 U U fun D Q hQ hN=>?_
 try dsimp only
 refine aU bT 2 U<|dV U fun B=>dV U fun C=>dF aj 9 [] (mc 1 U mn) U<|rS (BI U (Hu Wt))<|aq aj 2 ?_;refine bY U (fun A=>?_) (fun A=>?_)
 ·replace A:best=f:=by simpa using A
  refine yR aY 8 hQ [] (mc 0 U mn) U U ?_;clear hQ hN;exact cI (by unfold l8;cases hb:best<;>cases f<;>simp_all)
 replace A: ¬ best=f:=by simpa using A
 refine yR aY 10 hQ [] (mc 0 U mn) U U ?_;clear hQ hN;exact cI (by unfold l8;cases hb:best<;>cases f<;>simp_all)
end
section
open Go.RowKit
variable (s:dx) (best:Bool) (tsA:OA) (tsN tsC:Nat) (h lo:Int)
theorem WU (hs:gn s) (hh:0≤h∧h≤400000) (hl:0≤lo∧lo≤100000):
 dh Tryz.prog 216 [(vA (gE.cells (gE.mk s (aZ.mk (aX.mk tsA tsN tsC)) best))),(vI h),(vI lo)] [] (vI (min h (h*l8 best false s.Ap*lo/(100*l8 best true s.Weight)))):=by
 have A:=kZ (best:=best) (f:=false) hs.2.2.2.1;have E:=kZ (best:=best) (f:=true) hs.2.2.2.2.1;have B:=AX hh.1 hh.2 A.1 A.2;have C:=AX B.1 B.2 hl.1 hl.2;have F:=Zk (b:=100*l8 best true s.Weight) C.1 C.2 I;refine bj kr Tryz.func216 U U fun G Q hQ hN=>?_
 try dsimp only
 refine aU bT 2 U<|dV U fun D=>aU aj 4 U<|cL bX 19 kr<|jY 5 [] (mc 0 U mn) U<|dS (LP (aa.cells s.Ap) 0 U bP U U U)<|dS (CL (xA s best tsA tsN tsC s.Ap false) (aA) U)<|dS (BI U (nt ⟨I,I⟩))<|iQ 1 U<|dS (BI U (nt ⟨I,I⟩))<|jY 3 [] (mc 0 U mn) U<|dS (LP (aa.cells s.Weight) 0 U bP U U U)<|dS (CL (xA s best tsA tsN tsC s.Weight true) (aA) U)<|dS (BI U (nt ⟨I,I⟩))<|dS (BI U (sx I I I))<|dS (MN U)<|dP 1 [] mn ?_;refine cy ?_;exact cr aj 3 hQ U U U
theorem Xa (hs:gn s) (hl:0≤lo∧lo≤100000):
 dh Tryz.prog 217 [(vA (gE.cells (gE.mk s (aZ.mk (aX.mk tsA tsN tsC)) best))),(vI h),(vI lo)] [] (vI (l8 best false s.NP*lo/100)):=by
 have A:=kZ (best:=best) (f:=false) hs.2.2.1;have C:=AX A.1 A.2 hl.1 hl.2;refine bj kr Tryz.func217 U U fun D Q hQ hN=>?_
 try dsimp only
 refine aU bT 2 U<|dV U fun B=>dF aj 8 [] (mc 0 U mn) U<|rS (LP (aa.cells s.NP) 0 U bP U U U)<|rS (CL (xA s best tsA tsN tsC s.NP false) (aA) U)<|aq aj 1 ?_;refine rS (BI U (nt ⟨I,I⟩))<|rS (BI U (sx I I I)) ?_;exact cr aj 4 hQ U U U
theorem MH:
 dh Tryz.prog 188 [] [] (vA ((mI.cells (mI.mk (Value.func (.func 216) [].toArray [].toArray)))++(mI.cells (mI.mk (Value.func (.func 217) [].toArray [].toArray))))):=by
 refine bj kr Tryz.func188 U U fun B Q hQ hN=>?_
 try dsimp only
 refine aU bT 2 U<|AL U Uw fun A=>aU aj 4 U<|rS (SX (aW (xs:=[(0,.func 216)]) (cs:=(mI.cells (mI.mk (Value.func (.func 216) [].toArray [].toArray)))) U U (aV Uq U)) U U)<|rS (SX (aW (xs:=[(0,.func 217)]) (cs:=(mI.cells (mI.mk (Value.func (.func 217) [].toArray [].toArray)))) U U (aV Uq U)) U U)<|rS (SX (aW (xs:=[(0,.tmp 1),(1,.tmp 2)]) (cs:=((mI.cells (mI.mk (Value.func (.func 216) [].toArray [].toArray)))++(mI.cells (mI.mk (Value.func (.func 217) [].toArray [].toArray))))) U U (aV X6 U)) U U)<|eM U Uy U<|aq aj 3 ?_;exact Gx hQ [0] (mc 0 U mn) U U
end
section
open Go.RowKit
variable (s:dx) (ts:List ag) (tsA:OA) (tsC:Nat) (best:Bool)
theorem BW (tsA:OA) (tsN tsC:Nat):
 ld Tryz.prog 144 [(vA (gE.cells (gE.mk s (aZ.mk (aX.mk tsA tsN tsC)) best)))] [] (fun (x:Nat)=>(Value.func (.func 187) [].toArray [(vP x)].toArray)) (fun (x:Nat)=>True) (fun (x:Nat)=>[(cb x 234 (gE.cells (gE.mk s (aZ.mk (aX.mk tsA tsN tsC)) best)))]):=by
 refine cU kr Tryz.func144 U U fun B Q hQ hN=>?_
 try dsimp only
 refine aU bT 2 U<|dV U fun A=>aU aj 5 U<|rS (FU U)<|aq aj 4 ?_;refine LX hQ A [0] [] mn U U U U ?_;trivial
theorem Nm (g1:Nat) (hs:gn s) (hst:∀ x∈ts,bW x) (hlen:ts.length≤12):
 PD Tryz.prog 187 [] [(vP g1)] [(l0 tsA ts),(cb g1 234 (gE.cells (gE.mk s (aZ.mk (aX.mk tsA ts.length tsC)) best)))] (qc best s ts):=by
 refine C4 kr Tryz.func187 U U fun l J Z A0 c Q hY T S hQ hN=>?_
 try dsimp only
 refine aU bT 2 U<|rS (CL MH (aA) U)<|AL U Uw fun m=>eM U Uy U<|dF aj 7 [] (mr 3 U mn) U<|rS (LPR (aa.cells s.Start) 3 U bP U U U)<|rS (CL (xA s best tsA ts.length tsC s.Start true) (aA) U)<|ck aj 14 [] (mr 3 U mn) ?_;have H:(0≤ts.length)∧(J 0 A0)∧(Fo A0 c A0):=by exact ⟨I,T,S⟩
 refine bw (ι:={z:Nat×au // (z.1≤ts.length)∧(J z.1 z.2)∧(Fo A0 c z.2)}) [0,1,3,19,20] [0,2,3] U U (fun z=>[(4,(vI (fu best s ts z.1.1))),(21,(vI (z.1.1:Int)))]) (fun z=>[z.1.2]) (fun _=>rfl) (fun _=>rfl) (fun z=>ts.length-z.1.1) ⟨(0,A0),H⟩ (aN U) (aB [0,2,3,1]) ?_;clear H;rintro ⟨⟨i,A⟩,⟨AB,B,C⟩⟩ J6 AA
 try dsimp only at AB B C
 try dsimp only
 have hb:=Az (best:=best) hs hst i;refine aq bT 6 ?_;refine bE U (aH fun j=>?_) (aG fun j=>?_)
 ·refine aU aY 1 U<|ck fz 9 [] (mr 2 U mn) ?_;refine zh 3 hY B C U U U (Lf I I) U U (fun B37 G E=>?_) (fun B37 G E=>?_);rotate_left 1
  ·refine aq aj 1 ?_;refine hN _ _ _ (g4 (vs:=[]) trivial fun w hs=>JJ 3 U G E hs)
  refine aq aj 1 ?_;refine hN _ _ _ (g4 (vs:=[]) trivial fun w hs=>Vm 3 U (by rw [rz];have e:ts.length=i:=I;rw [e];exact G) E hs)
 refine aq aY 7 ?_;obtain ⟨x,K⟩:=ay ts i I;have P:=bx ag.cells K;refine rS (IA i U (av 1 U) vD dc I I) ?_;have R:=hst x (aF K);have O:=kZ (best:=best) (f:=false) R.2.1;have k:=kZ (best:=best) (f:=true) R.2.2.1;have V:=kZ (best:=best) (f:=false) hs.2.2.2.1;have n:=kZ (best:=best) (f:=true) hs.2.2.2.2.1;have W:=kZ (best:=best) (f:=false) hs.2.2.1;have Y:=AX hb.1 (show fu best s ts i≤400000 by omega) V.1 V.2;have a:=AX Y.1 Y.2 (show 0≤l8 best false x.jd by omega) O.2;have o:=Zk (b:=100*l8 best true s.Weight) a.1 a.2 I;have p:=AX W.1 W.2 (show 0≤l8 best false x.jd by omega) O.2;refine rS (k8 i 0 (ag.cells x) U bP (av 1 U) P U dc U U)<|AL U HY fun d=>aU aj 1 U<|eM U Tc U<|aq aj 8 ?_;refine zh 4 hY B C U U U (xJ I) U U (fun B15 F D=>?_) (fun B15 F D=>?_);rotate_left 1
 ·refine aq aj 5 ?_;refine hQ _ _ _ (g4 (vs:=[]) trivial fun w hs=>JJ 4 U F D hs)
 refine aU aj 7 U<|cL bX 12 kr<|jY 2 [] (mr 3 U mn) U<|dS (LP (aa.cells x.jd) 0 U bP U U U)<|dS (CL (xA s best tsA ts.length tsC x.jd false) (aA) U)<|jY 3 [] (mr 3 U mn) U<|dS (LP (aa.cells x.kU) 0 U bP U U U)<|dS (CL (xA s best tsA ts.length tsC x.kU true) (aA) U)<|iQ 3 U<|cy<|dF aj 10 [] (mc 1 U mn) U<|iX 3<|eh fun R21 L=>aU bT 2 U<|rS (SX (cm (r:= .bool true) U U U hH) U U)<|aU aj 10 U<|rS (SX (q6 (vs:=(mI.cells (mI.mk (Value.func (.func 216) [].toArray [].toArray)))) 0 U U U UC bP U dc U) U U)<|AL U TB fun g=>eM U Uz U<|ck aj 9 [0,1] (mc 0 U (mr 4 U mn)) ?_;refine rS (CL (WU s best tsA ts.length tsC (fu best s ts i) (l8 best false x.jd) hs sd sd) (aA) U) ?_;refine aU aj 6 U<|rS (SX (cm (r:= .int .i64 1) U U U (jq ⟨dc,dc⟩)) U U)<|aU aj 2 U<|KK L<|eh fun R27 M=>aU bT 2 U<|rS (SX (cm (r:= .bool true) U U U hH) U U)<|aU aj 10 U<|rS (SX (q6 (vs:=(mI.cells (mI.mk (Value.func (.func 217) [].toArray [].toArray)))) 1 U U U UC bP U dc U) U U)<|AL U TB fun h=>eM U Uz U<|ck aj 9 [0,1] (mc 0 U (mr 5 U mn)) ?_;refine rS (CL (Xa s best tsA ts.length tsC (fu best s ts i) (l8 best false x.jd) hs sd) (aA) U) ?_;refine aU aj 6 U<|rS (SX (cm (r:= .int .i64 2) U U U (jq ⟨dc,dc⟩)) U U)<|aU aj 2 U<|KK M<|eh fun R33 X=>aU bT 2 U<|rS (SX (cm (r:= .bool false) U U U hH) U U)<|aU aj 5 U<|aU fz 4 U<|rS (MX U)<|aq aj 8 ?_;have N:(vI (fu best s ts (i+1)))=(vI (max 0 ((((fu best s ts i)+(l8 best true x.kU))-(min (fu best s ts i) ((fu best s ts i)*l8 best false s.Ap*(l8 best false x.jd)/(100*l8 best true s.Weight))))-(l8 best false s.NP*(l8 best false x.jd)/100)))):=by rw [Gj K];refine cI ?_;unfold Jj PQ;omega
 refine aL (AA ⟨((i+1),B15),⟨I,F,D⟩⟩ _ _ _ U os (cx 5<|aQ U N<|aN U) (aB [3,4,5,6]))
theorem VB (hs:gn s) (hst:∀ x∈ts,bW x) (hlen:ts.length≤12):
 ld Tryz.prog 143 [(vA (gE.cells (gE.mk s (aZ.mk (aX.mk tsA ts.length tsC)) best)))] [(rd tsA ts.length 9 (ts.map ag.cells))] (fun (x:(OA)×Nat)=>(vS x.1 ((j6 best s ts).length) x.2)) (fun (x:(OA)×Nat)=>True) (fun (x:(OA)×Nat)=>[(own x.1 x.2 3 1 ((j6 best s ts).map iC))]):=by
 refine cU kr Tryz.func143 U U fun P Q hQ hN=>?_
 try dsimp only
 refine aU bT 2 U<|dV U fun O=>aU aj 5 U<|AL U Pw fun J=>ck aj 6 [] (mc 1 U mn) ?_;refine cX (BW s best tsA ts.length tsC) (aA) U fun K M=>?_
 try dsimp only
 refine aq aj 3 ?_;refine iw 3 U (by exact fun _ h=>h)<|eC 3 1 ?_;refine yZ (L0:=[(3,(vP J))]) (F:=[(rd tsA ts.length 9 (ts.map ag.cells)).ro,(cb K 234 (gE.cells (gE.mk s (aZ.mk (aX.mk tsA ts.length tsC)) best)))]) (xs:=(qc best s ts)) (fun k (y:(OA)×Nat)=>True) (fun k y=>[(own y.1 y.2 3 1 (((j6 best s ts).take k).map iC)),(cb J 29 [(vS y.1 (((j6 best s ts).take k).length) y.2)]),(rd tsA ts.length 9 (ts.map ag.cells)).ro]) (fun _ (_:Unit)=>False) (fun _ _=>[]) [0,3,5] [1,2] (none,0) U U (Nm s ts tsA tsC best K (by first|assumption|omega|(simp;done)) (by first|assumption|omega|(simp;done)) (by first|assumption|omega|(simp;done))) U U U (by trivial) (by simp only [AAI,h_,AAs,AAv,ABC];exact ⟨⟨_,sm,(dj (bM _))⟩,⟨_,sm,(bM _)⟩⟩) (by exact zY) U (aN U) ?_ ?_ (fun _ _ _ h=>h.elim) (fun _ _ h=>h.elim);rotate_left 1
 ·rintro N ⟨a,c⟩ G
  try dsimp only
  rw [zA];refine ck jC 9 [] (mc 4 U mn) ?_;refine hQ _ _ _ (nF 0 U U<|g4 (vs:=[(vS a ((j6 best s ts).length) c)]) ⟨U,trivial⟩ fun w hs=>EM (a,c) [3] ?_ ?_ U U U hs)
  ·rfl
  ·trivial
 rintro k x ⟨a,c⟩ l ra rb S R K10 Qr11 hx E B A H AA;obtain ⟨hk,rfl⟩:=Cj hx
 try dsimp only
 refine aq bT 3 ?_;refine aL (B _ _ ?_);refine ck bT 4 [] (mc 2 U mn) ?_;refine dC (xs:=[.tmp 11]) (cs:=[(vI (fu best s ts k))]) U cO jU U U U U (by simp [Value.cells]) U U fun L=>?_;refine de (es2:=(map iC ((j6 best s ts).take (k+1)))) (m':=((j6 best s ts).take (k+1)).length) 2 U U U pG U U sm (aM (es:=map iC [(fu best s ts k)]) 0 U U (by simp [br]) U) (j_ _) (by simp [nU];omega) (by simp [nU,maxLen];omega) (by rw [Ed hk];simp) sm U fun C D=>?_
 try dsimp only
 refine ZJ U wk U U<|aq aj 2 ?_;exact A (C,D) _ _ (by trivial) (aB [1,2,3,4])
end
section
open Go.RowKit
theorem qH (lo hi:Int) (l:List aa) (lA:OA) (lC:Nat) (hle:lo≤hi) (hlen:l.length≤1000000):
 dh Tryz.prog 215 [(vI lo),(vI hi),(vS lA l.length lC)] [(Vl lA l)] (vB (Dz lo hi l)):=by
 refine bj kr Tryz.func215 U U fun H Q hQ hN=>?_
 try dsimp only
 refine aq bT 14 ?_;have B:(0≤l.length)∧((l.take 0).all (fun s=>decide (s.Lo≤s.Hi∧lo≤s.Lo∧s.Hi≤hi))=true):=by simp
 refine bw (ι:={z:Nat // (z≤l.length)∧((l.take z).all (fun s=>decide (s.Lo≤s.Hi∧lo≤s.Lo∧s.Hi≤hi))=true)}) [0,1,2,9,10] [0] U U (fun z=>[(11,(vI (z.1:Int)))]) (fun z=>[]) (fun _=>rfl) (fun _=>rfl) (fun z=>l.length-z.1) ⟨0,B⟩ (aN U) (aB [0]) ?_;clear B;rintro ⟨i,⟨D,A⟩⟩ J4 C
 try dsimp only
 refine aq bT 6 ?_;refine bE U (aH fun G=>?_) (aG fun G=>?_)
 ·refine aU aY 1 U<|cr fz 8 hQ U U ?_
  first|exact cB (OZ hx (bg (by rw [aa.ext_iff] at h;simp only at h;omega))).symm|exact cB (Ii I A).symm
 refine aq aY 6 ?_;obtain ⟨x,hx⟩:=ay l i I;have E:=bx aa.cells hx;refine rS (IA i U (av 0 U) iv dc I I)<|rS (k8 i 0 (aa.cells x) U bP (av 0 U) E U dc U U)<|AL U dD fun F=>eM U cK U<|dF aj 10 [] (mc 0 U mn) U<|rS (MN U)<|rS (MX U)<|dF aj 5 [] (mc 0 U mn) U<|rS (MX U)<|rS (MN U)<|rS (SX (aW (xs:=[(0,.tmp 22),(1,.tmp 29)]) (cs:=(aa.cells (aa.mk (max lo (min x.Lo x.Hi)) (min hi (max x.Lo x.Hi))))) U U (aV gQ U)) U U)<|rS (BI U (E3 _ _ x (aa.mk (max lo (min x.Lo x.Hi)) (min hi (max x.Lo x.Hi)))))<|aq aj 2 ?_;refine bY U (aK fun h=>?_) (aJ fun h=>?_)
 ·refine cr aY 6 hQ U U ?_
  first|exact cB (OZ hx (bg (by rw [aa.ext_iff] at h;simp only at h;omega))).symm|exact cB (Ii I A).symm
 refine aq aY 7 ?_;refine aL (C ⟨(i+1),⟨I,Pn hx A (cR (by rw [aa.ext_iff] at h;simp only at h;omega))⟩⟩ _ _ _ U os (aN U) (aB [1]))
theorem MI (s:dx):
 dh Tryz.prog 186 [(vA (dx.cells s))] [] (vI (if gn s then 0 else 30)):=by
 refine bj kr Tryz.func186 U U fun N Q hQ hN=>?_
 try dsimp only
 refine aU bT 2 U<|dV U fun M=>dF aj 8 [] (mc 0 U mn) U<|rS (BI U hH)<|aq aj 1 ?_;refine bK (t:=6) U (aG fun K=>?_) (aH fun K=>?_)
 ·refine cr aj 48 hQ U U ?_
  first|exact cI (c1 (by simp only [gn,cQ];omega)).symm|exact cI (c0 (by simp only [gn,cQ];omega)).symm
 refine dF aj 2 [] (mc 0 U mn) U<|rS (BI U OT)<|aq aj 2 ?_;refine bK (t:=11) U (aG fun L=>?_) (aH fun L=>?_)
 ·refine cr aj 43 hQ U U ?_
  first|exact cI (c1 (by simp only [gn,cQ];omega)).symm|exact cI (c0 (by simp only [gn,cQ];omega)).symm
 refine aq aj 1 ?_;refine rS (LP (aa.cells s.Start) 0 U bP U U U)<|dC (xs:=[.tmp 13]) (cs:=(aa.cells s.Start)) U iv dD U U U U (by simp [Value.cells,aa.aD]) U U fun J=>?_;refine rS (CL (dh.eq (qH 0 200000 ([s.Start]) (some ⟨J,0,none⟩) 1 sd sd) oc) (aw (aM 0 U U (by simp [aa.aD]) U)<|aA) U) ?_;refine aq aj 3 ?_;refine bK (t:=18) U (aK fun E=>?_) (aJ fun E=>?_)
 ·refine cr aj 36 hQ U U ?_
  first|exact cI (c1 (by simp only [gn,cQ];omega)).symm|exact cI (c0 (by simp only [gn,cQ];omega)).symm
 refine aq aj 1 ?_;refine rS (LP (aa.cells s.NP) 1 U bP U U U)<|dC (xs:=[.tmp 20]) (cs:=(aa.cells s.NP)) U iv dD U U U U (by simp [Value.cells,aa.aD]) U U fun A=>?_;refine rS (CL (dh.eq (qH 0 100 ([s.NP]) (some ⟨A,0,none⟩) 1 sd sd) oc) (aw (aM 0 U U (by simp [aa.aD]) U)<|aA) U) ?_;refine aq aj 3 ?_;refine bK (t:=25) U (aK fun F=>?_) (aJ fun F=>?_)
 ·refine cr aj 29 hQ U U ?_
  first|exact cI (c1 (by simp only [gn,cQ];omega)).symm|exact cI (c0 (by simp only [gn,cQ];omega)).symm
 refine aq aj 1 ?_;refine rS (LP (aa.cells s.Ap) 2 U bP U U U)<|dC (xs:=[.tmp 27]) (cs:=(aa.cells s.Ap)) U iv dD U U U U (by simp [Value.cells,aa.aD]) U U fun B=>?_;refine rS (CL (dh.eq (qH 0 1000 ([s.Ap]) (some ⟨B,0,none⟩) 1 sd sd) oc) (aw (aM 0 U U (by simp [aa.aD]) U)<|aA) U) ?_;refine aq aj 3 ?_;refine bK (t:=32) U (aK fun G=>?_) (aJ fun G=>?_)
 ·refine cr aj 22 hQ U U ?_
  first|exact cI (c1 (by simp only [gn,cQ];omega)).symm|exact cI (c0 (by simp only [gn,cQ];omega)).symm
 refine aq aj 1 ?_;refine rS (LP (aa.cells s.Weight) 3 U bP U U U)<|dC (xs:=[.tmp 34]) (cs:=(aa.cells s.Weight)) U iv dD U U U U (by simp [Value.cells,aa.aD]) U U fun C=>?_;refine rS (CL (dh.eq (qH 50000 800000 ([s.Weight]) (some ⟨C,0,none⟩) 1 sd sd) oc) (aw (aM 0 U U (by simp [aa.aD]) U)<|aA) U) ?_;refine aq aj 3 ?_;refine bK (t:=39) U (aK fun H=>?_) (aJ fun H=>?_)
 ·refine cr aj 15 hQ U U ?_
  first|exact cI (c1 (by simp only [gn,cQ];omega)).symm|exact cI (c0 (by simp only [gn,cQ];omega)).symm
 refine aq aj 1 ?_;refine rS (LP (aa.cells s.Es) 4 U bP U U U)<|dC (xs:=[.tmp 41]) (cs:=(aa.cells s.Es)) U iv dD U U U U (by simp [Value.cells,aa.aD]) U U fun D=>?_;refine rS (CL (dh.eq (qH (-500) 500 ([s.Es]) (some ⟨D,0,none⟩) 1 sd sd) oc) (aw (aM 0 U U (by simp [aa.aD]) U)<|aA) U) ?_;refine aq aj 4 ?_;refine bY U (aK fun AA=>?_) (aJ fun AA=>?_)
 ·refine cr aY 6 hQ U U ?_
  first|exact cI (c1 (by simp only [gn,cQ];omega)).symm|exact cI (c0 (by simp only [gn,cQ];omega)).symm
 refine cr aY 8 hQ U U ?_
 first|exact cI (c1 (by simp only [gn,cQ];omega)).symm|exact cI (c0 (by simp only [gn,cQ];omega)).symm
end
section
open Go.RowKit
variable (ts:List ag) (tsA:OA) (tsC:Nat) (s:dx)
theorem PW (hlen:ts.length≤1000000) (hside:∀ x∈ts,0≤x.gu∧x.gu≤255) (htr:cD ts=false):
 dh Tryz.prog 142 [(vA (aZ.cells (aZ.mk (aX.mk tsA ts.length tsC)))),(vA (dx.cells s))] [(l0 tsA ts)] (vT [(vA (gE.cells (gE.mk (dx.mk 0 (aa.mk 0 0) (aa.mk 0 0) (aa.mk 0 0) (aa.mk 0 0) (aa.mk 0 0)) (aZ.mk (aX.mk none 0 0)) false))),(vA (gE.cells (gE.mk (dx.mk 0 (aa.mk 0 0) (aa.mk 0 0) (aa.mk 0 0) (aa.mk 0 0) (aa.mk 0 0)) (aZ.mk (aX.mk none 0 0)) false))),(vI (jw s ts))]):=by
 refine bj kr Tryz.func142 U U fun G Q hQ hN=>?_
 try dsimp only
 refine aU bT 2 U<|dV U fun C=>dV U fun D=>AL U uS fun E=>AL U uS fun F=>dF aj 7 [] (mc 3 U mn) U<|rS (CL (w6 ts tsA tsC hlen hside) (aP [4]) U)<|aq aj 9 ?_;refine bE U (aJ fun h=>?_) (aK fun h=>?_)
 ·exfalso;simp [htr] at h
 refine aq aY 1 ?_;refine cT bX [3,4] [] [] [0,1,2,3,4] [] U U U U U<|eS U (LW 1 U bP U U)<|eS U (LW 0 U bP U U)<|eS U (MV U)<|eS U (AG U)<|dL U<|bR U fun T10 A=>o_ U uR U<|bG (A _ _ (aB [0,1,2,3,4]) ?_);refine bR U fun T11 B=>eM U uR U<|bG (B _ _ (aB [0,1,2,3,4]) ?_);refine eI U<|aq jC 2 ?_;refine mP hQ [0,1] (mc 1 U (mc 0 U mn)) U ?_
 (simp only [htr,BJ htr];rfl)
theorem JK (hlen:ts.length≤1000000) (hside:∀ x∈ts,0≤x.gu∧x.gu≤255) (htr:cD ts=true):
 dh Tryz.prog 142 [(vA (aZ.cells (aZ.mk (aX.mk tsA ts.length tsC)))),(vA (dx.cells s))] [(l0 tsA ts)] (vT [(vA (gE.cells (gE.mk s (aZ.mk (aX.mk tsA ts.length tsC)) false))),(vA (gE.cells (gE.mk s (aZ.mk (aX.mk tsA ts.length tsC)) true))),(vI (jw s ts))]):=by
 refine bj kr Tryz.func142 U U fun G Q hQ hN=>?_
 try dsimp only
 refine aU bT 2 U<|dV U fun C=>dV U fun D=>AL U uS fun E=>AL U uS fun F=>dF aj 7 [] (mc 3 U mn) U<|rS (CL (w6 ts tsA tsC hlen hside) (aP [4]) U)<|aq aj 9 ?_;refine bY U (aK fun h=>?_) (aJ fun h=>?_)
 ·exact absurd (by simp [htr]) h
 refine aq aY 3 ?_;refine cT bX [8,9] [] [] [2,3,4] [] U U U U U<|eS U (LW 0 U bP U U)<|eS U (LW 1 U bP U U)<|eS U (SX (aW (xs:=[(0,.tmp 15),(1,.tmp 16),(2,.const (vB false))]) (cs:=(gE.cells (gE.mk s (aZ.mk (aX.mk tsA ts.length tsC)) false))) U U (aV Us U)) U U)<|eS U (LW 0 U bP U U)<|eS U (LW 1 U bP U U)<|eS U (SX (aW (xs:=[(0,.tmp 18),(1,.tmp 19),(2,.const (vB true))]) (cs:=(gE.cells (gE.mk s (aZ.mk (aX.mk tsA ts.length tsC)) true))) U U (aV Us U)) U U)<|eS U (LW 0 U bP U U)<|eS U (CL (MI s) (aA) U)<|eS U (AG U)<|dL U<|bR U fun T10 A=>o_ U uR U<|bG (A _ _ (aB [2,3,4]) ?_);refine bR U fun T11 B=>eM U uR U<|bG (B _ _ (aB [2,3,4]) ?_);refine eI U<|aq jC 2 ?_;refine mP hQ [0,1] (mc 1 U (mc 0 U mn)) U ?_
 (rw [jw,c0 htr]<;>rfl)
end
end Go.Proofs.YtgnlmfdknlbkkaaGreatDoor
