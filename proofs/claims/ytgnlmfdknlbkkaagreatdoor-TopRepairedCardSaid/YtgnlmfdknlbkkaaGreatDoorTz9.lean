/-
 The statement topRepaired_said, part 9 of 9: W10, W11, Q1, Q2, T2, T3, T7a, T7, LineOpen, RaceOpen, JOpen, Top70.
 Conditions: none.
-/
import Derived.Test.YtgnlmfdknlbkkaaGreatDoorTz1
import Derived.Test.YtgnlmfdknlbkkaaGreatDoorTz2
import Derived.Test.YtgnlmfdknlbkkaaGreatDoorTz3
import Derived.Test.YtgnlmfdknlbkkaaGreatDoorTz4
import Derived.Test.YtgnlmfdknlbkkaaGreatDoorTz5
import Derived.Test.YtgnlmfdknlbkkaaGreatDoorTz6
import Derived.Test.YtgnlmfdknlbkkaaGreatDoorTz7
import Derived.Test.YtgnlmfdknlbkkaaGreatDoorTz8
import Derived.Test.YtgnlmfdknlbkkaaGreatDoorCards
import Derived.Test.YtgnlmfdknlbkkaaGreatDoorTie
import Derived.SevenTiedAt
import Derived.LaidMore
import Derived.Stop.Joined
import Derived.Test.YtgnlmfdknlbkkaaGreatDoorRows
import Derived.Test.YtgnlmfdknlbkkaaGreatDoorProg
import Derived.KernelRfl
open List (map zipWith)
open Bool (noConfusion)
namespace Go.Proofs.YtgnlmfdknlbkkaaGreatDoor
set_option maxRecDepth 100000
set_option maxHeartbeats 4000000
set_option linter.unusedVariables false
variable {w:World} {R1:World→ag→Prop} {R2:World→dE→Prop} {R3:World→df→Prop} {R4:World→cP→Prop} {R5:World→Int→Prop} {R6:World→aX→Prop} {R7:World→aO→Prop} {R8:World→aR→Prop}
abbrev ACC:= @List.getElem?_cons_zero
section
open Go.RowKit
variable (ts:List ag) (tsA:OA) (tsC:Nat) (s:dx)
theorem KE (hlen:ts.length≤1000000) (hside:∀ x∈ts,0≤x.gu∧x.gu≤255) (htr:cD ts=false):
 dh Tryz.prog 93 [(vA (aZ.cells (aZ.mk (aX.mk tsA ts.length tsC)))),(vA (dx.cells s))] [(l0 tsA ts)] (vT [(vS none 0 0),(vI (jw s ts))]):=by
 have A: ¬ jw s ts=0:=by rw [BJ htr];decide
 refine bj Vw Tryz.func93 U U fun F Q hQ hN=>?_
 try dsimp only
 refine aU bT 2 U<|dV U fun B=>dV U fun C=>dF aj 8 [0,1] (mc 1 U (mc 0 U mn)) U<|rS (CL (PW ts tsA tsC s hlen hside htr) (aP [2]) U)<|aU aj 4 U<|AL U uS fun D=>AL U uS fun E=>o_ U uR U<|eM U uR U<|aq aj 10 ?_;refine bE U (aJ fun he=>?_) (aK fun he=>?_)
 ·exact absurd he A
 refine aq aY 8 ?_;exact Q2 hQ U U U U U
theorem G5 (hlen:ts.length≤1000000) (hside:∀ x∈ts,0≤x.gu∧x.gu≤255) (htr:cD ts=true) (hns:¬ gn s):
 dh Tryz.prog 93 [(vA (aZ.cells (aZ.mk (aX.mk tsA ts.length tsC)))),(vA (dx.cells s))] [(l0 tsA ts)] (vT [(vS none 0 0),(vI (jw s ts))]):=by
 have A: ¬ jw s ts=0:=by rw [Ia htr hns];decide
 refine bj Vw Tryz.func93 U U fun F Q hQ hN=>?_
 try dsimp only
 refine aU bT 2 U<|dV U fun B=>dV U fun C=>dF aj 8 [0,1] (mc 1 U (mc 0 U mn)) U<|rS (CL (JK ts tsA tsC s hlen hside htr) (aP [2]) U)<|aU aj 4 U<|AL U uS fun D=>AL U uS fun E=>o_ U uR U<|eM U uR U<|aq aj 10 ?_;refine bE U (aJ fun he=>?_) (aK fun he=>?_)
 ·exact absurd he A
 refine aq aY 8 ?_;exact Q2 hQ U U U U U
theorem OJ (hlen:ts.length≤1000000) (hside:∀ x∈ts,0≤x.gu∧x.gu≤255) (htr:cD ts=true) (hs:gn s):
 ld Tryz.prog 93 [(vA (aZ.cells (aZ.mk (aX.mk tsA ts.length tsC)))),(vA (dx.cells s))] [(rd tsA ts.length 9 (ts.map ag.cells))] (fun (x:(OA)×Nat)=>(vT [(vS x.1 ((jc s ts).length) x.2),(vI (jw s ts))])) (fun (x:(OA)×Nat)=>True) (fun (x:(OA)×Nat)=>[(own x.1 x.2 38 2 ((jc s ts).map aa.cells))]):=by
 have L:=tx htr hs;have f:=jF htr;have X:=ky htr;have d:=FZ htr;refine cU Vw Tryz.func93 U U fun q Q hQ hN=>?_
 try dsimp only
 refine aU bT 2 U<|dV U fun i=>dV U fun j=>dF aj 8 [0,1] (mc 1 U (mc 0 U mn)) U<|rS (CL (JK ts tsA tsC s hlen hside htr) (aP [2]) U)<|aU aj 4 U<|AL U uS fun o=>AL U uS fun p=>o_ U uR U<|eM U uR U<|aq aj 10 ?_;refine bY U (aK fun he=>?_) (aJ fun he=>?_)
 ·exact absurd L he
 refine aU aY 4 U<|AL U I9 fun C=>ck aj 5 [] (mc 1 U mn) ?_;refine cX (VB s ts tsA tsC true hs sd sd) (aP [5]) U fun V Y=>?_;obtain ⟨B,G⟩:=V
 try dsimp only
 refine AL U Pw fun D=>IV U wk U U<|ck aj 6 [] (mc 4 U mn) ?_;refine cX (BW s false tsA ts.length tsC) (aA) U fun E Z=>?_
 try dsimp only
 refine aq aj 3 ?_;refine iw 8 U (by exact fun _ h=>h)<|eC 38 2 ?_;refine yZ (L0:=[(9,(vP C)),(10,(vP D))]) (F:=[(rd tsA ts.length 9 (ts.map ag.cells)).ro,(cb E 234 (gE.cells (gE.mk s (aZ.mk (aX.mk tsA ts.length tsC)) false)))]) (xs:=(qc false s ts)) (fun k (y:(OA)×Nat)=>True) (fun k y=>[(own y.1 y.2 38 2 (((jc s ts).take k).map aa.cells)),(cb D 29 [(vS B ((j6 true s ts).length) G)]),(own B G 3 1 ((j6 true s ts).map iC)),(cb C 102 [(vS y.1 (((jc s ts).take k).length) y.2)]),(rd tsA ts.length 9 (ts.map ag.cells)).ro]) (fun _ (_:Unit)=>False) (fun _ _=>[]) [0,3,4,5,10] [1,2] (none,0) U U (Nm s ts tsA tsC false E (by first|assumption|omega|(simp;done)) (by first|assumption|omega|(simp;done)) (by first|assumption|omega|(simp;done))) U U U (by trivial) (by simp only [AAI,h_,AAs,AAv,ABC];exact ⟨⟨_,sm,(dj (bM _))⟩,⟨_,sm,(bM _)⟩⟩) (by exact zY) U (aN U) ?_ ?_ (fun _ _ _ h=>h.elim) (fun _ _ h=>h.elim);rotate_left 1
 ·rintro g ⟨a,c⟩ P
  try dsimp only
  rw [Ag];refine ck jC 10 [] (mc 6 U mn) ?_;refine hQ _ _ _ (nF 0 U U<|g4 (vs:=[(vS a ((jc s ts).length) c),(vI 0)]) ⟨U,U,trivial⟩ fun w hs=>EM (a,c) [3] ?_ ?_ U U U hs)
  ·rw [L];rfl
  ·trivial
 rintro k x ⟨a,c⟩ l ra rb S r K22 Qr23 hx O H A AA W;obtain ⟨hk,rfl⟩:=Cj hx
 try dsimp only
 have e:=nU (best:=true) (s:=s) (ts:=ts);refine aq bT 8 ?_;refine aL (H _ _ ?_);refine aq bT 1 ?_;refine cT bX [7,8,9] [0] [0] [0,2,3,5] [0,1,2,3,4,5] U U U U U<|fS U (Fk 4 U TE U)<|eS U (MV U)<|eS U (Fk 1 U WV U)<|eS U (MV U) ?_;obtain ⟨m,hm⟩:=ay (j6 true s ts) k I;have R:=bx iC hm;refine eS U (IA k U (ao (n:=(j6 true s ts).length) 2 U sm) cO dc I I) ?_;have T:m=fu true s ts k:=by rw [AK hk] at hm;exact (m3 hm).symm
 refine eS U (gF k 0 (vI m) U vM (ao (n:=(j6 true s ts).length) 2 U sm) R U dc U)<|eS U (SX (aW (xs:=[(0,.tmp 30),(1,.tmp 34)]) (cs:=(aa.cells (aa.mk (fu false s ts k) m))) U U (aV gQ U)) U U)<|dL U<|gr U fun T26 AB=>dC (xs:=[.tmp 35]) (cs:=(aa.cells (aa.mk (fu false s ts k) m))) U iv dD U U U U (by simp [Value.cells,aa.aD]) U U fun b=>bG (AB _ _ (aB [1,3,4,6]) (aB [1,2,3,4,5,6]) ?_);refine bR U fun T28 J=>?_;refine de (es2:=(map aa.cells ((jc s ts).take (k+1)))) (m':=((jc s ts).take (k+1)).length) 2 U U U CB U U sm (aM (es:=map aa.cells [(aa.mk (fu false s ts k) m)]) 0 U U (by simp [aa.aD]) U) (jE _) (by simp [nX];omega) (by simp [nX,maxLen];omega) (by rw [Fb hk,T];simp [AS]) sm U fun M N=>?_
 try dsimp only
 refine bG (J _ _ (aB [1,3,4,6]) ?_);refine bR U fun T31 K=>SO5 U Pa U U<|bG (K _ _ (aB [1,3,4,6]) ?_);refine eI U<|aq jC 1 ?_;exact A (M,N) _ _ (by trivial) (aB [1,2,3,4,5,6])
theorem Pq (hlen:ts.length≤1000000) (hside:∀ x∈ts,0≤x.gu∧x.gu≤255) (hb:¬ jw s ts=0):
 dh Tryz.prog 93 [(vA (aZ.cells (aZ.mk (aX.mk tsA ts.length tsC)))),(vA (dx.cells s))] [(l0 tsA ts)] (vT [(vS none 0 0),(vI (jw s ts))]):=by
 by_cases A:cD ts=true
 ·by_cases hs:gn s
  ·exact absurd (tx A hs) hb
  ·exact G5 ts tsA tsC s hlen hside A hs
 ·exact KE ts tsA tsC s hlen hside (by simpa using A)
theorem I2 (hlen:ts.length≤1000000) (hside:∀ x∈ts,0≤x.gu∧x.gu≤255):
 ld Tryz.prog 93 [(vA (aZ.cells (aZ.mk (aX.mk tsA ts.length tsC)))),(vA (dx.cells s))] [(rd tsA ts.length 9 (ts.map ag.cells))] (fun (x:(OA)×Nat)=>(vT [(vS x.1 ((rN s ts).length) x.2),(vI (jw s ts))])) (fun (x:(OA)×Nat)=>True) (fun (x:(OA)×Nat)=>[(own x.1 x.2 38 2 ((rN s ts).map aa.cells))]):=by
 by_cases hb:jw s ts=0
 ·obtain ⟨A,B⟩:=z6 hb;rw [xK A B];exact OJ ts tsA tsC s hlen hside A B
 ·rw [KB hb];exact dh.toX (none,0) (Pq ts tsA tsC s hlen hside hb) trivial PN
end
section
open Go.RowKit
theorem Rw (ts:List ag) (tsA:OA) (tsC:Nat) (s:dx) (i:Int) (hlen:ts.length≤1000000) (hside: ∀ x∈ts,0≤x.gu∧x.gu≤255):
 dh Tryz.prog 49 [(vA (aZ.cells (aZ.mk (aX.mk tsA ts.length tsC)))),(vA (dx.cells s)),(vI i)] [(rd tsA ts.length 9 (ts.map ag.cells))] (vT [(vA (aa.cells (xD s ts i))),(vI (vz s ts i))]):=by
 refine bj kr Tryz.func49 U U fun AA Q hQ hN=>?_
 try dsimp only
 refine aU bT 2 U<|dV U fun P=>dV U fun R=>AL U dD fun S=>ck aj 7 [0,1] (mc 2 U (mc 1 U mn)) ?_;refine cX (I2 ts tsA tsC s hlen hside) (aP [3]) U fun N M=>?_;obtain ⟨O,T⟩:=N
 try dsimp only
 refine aq aj 14 ?_;refine bY U (aK fun he=>?_) (aJ fun he=>?_)
 ·refine aU aY 2 U<|rS (SX (aW (xs:=[]) (cs:=(aa.cells (aa.mk 0 0))) U U (aV gQ U)) U U)<|aU aj 1 U<|o_ U cK U<|aq aj 4 ?_;refine mP hQ [0] (mc 1 U mn) U ?_
  first|(rw [(oq (i:=i) he).1,(oq (i:=i) he).2]<;>rfl)|(rw [(mJ (i:=i) he I).1,(mJ (i:=i) he I).2]<;>rfl)|(rw [(m6 (i:=i) he I).1,(m6 (i:=i) he I).2,A]<;>rfl)
 refine aq aY 5 ?_;obtain ⟨B,hs⟩:=z6 he;have C:=jF B;have G:=ky B;have L:=nX (s:=s) (ts:=ts);rw [xK B hs];refine aq aj 3 ?_;refine bK (t:=22) U (aG fun E=>?_) (aH fun E=>?_)
 ·refine aU aj 10 U<|rS (SX (aW (xs:=[]) (cs:=(aa.cells (aa.mk 0 0))) U U (aV gQ U)) U U)<|o_ U cK U<|aq aj 4 ?_;refine mP hQ [0] (mc 1 U mn) U ?_
  first|(rw [(oq (i:=i) he).1,(oq (i:=i) he).2]<;>rfl)|(rw [(mJ (i:=i) he I).1,(mJ (i:=i) he I).2]<;>rfl)|(rw [(m6 (i:=i) he I).1,(m6 (i:=i) he I).2,A]<;>rfl)
 refine aq aj 7 ?_;refine bY U (aG fun F=>?_) (aH fun F=>?_)
 ·refine aU aY 2 U<|rS (SX (aW (xs:=[]) (cs:=(aa.cells (aa.mk 0 0))) U U (aV gQ U)) U U)<|o_ U cK U<|aq aj 4 ?_;refine mP hQ [0] (mc 1 U mn) U ?_
  first|(rw [(oq (i:=i) he).1,(oq (i:=i) he).2]<;>rfl)|(rw [(mJ (i:=i) he I).1,(mJ (i:=i) he I).2]<;>rfl)|(rw [(m6 (i:=i) he I).1,(m6 (i:=i) he I).2,A]<;>rfl)
 refine aU aY 3 U<|cL bX 13 kr<|dP 2 [] mn ?_;obtain ⟨y,hy⟩:=ay (jc s ts) ((i).toNat) I;have D:=bx aa.cells hy;refine dS (IA ((i).toNat) U (ao (n:=(jc s ts).length) 0 U sm) iv dc I I)<|dS (p9 (((i).toNat)*2) U (ao (n:=(jc s ts).length) 0 U sm) (e6 I dc) eB U) ?_;have J:=Az (best:=false) hs C i.toNat;have K:=Az (best:=true) hs C i.toNat;have A:y=AS s ts i.toNat:=by rw [Ay I] at hy;exact (m3 hy).symm
 have AB:0≤y.Lo∧y.Lo≤400000:=by rw [A];simp only [AS];omega
 have H:0≤y.Hi∧y.Hi≤400000:=by rw [A];simp only [AS];omega
 refine dS (gF ((i).toNat) 0 (vI y.Lo) U bP (ao (n:=(jc s ts).length) 0 U sm) D U dc U) ?_;refine dS (CL (Wi y.Lo sd) (aA) U) ?_;refine dP 2 [] mn ?_;refine dS (IA ((i).toNat) U (ao (n:=(jc s ts).length) 0 U sm) iv dc I I)<|dS (p9 ((((i).toNat)*2)+1) U (ao (n:=(jc s ts).length) 0 U sm) (e6 I dc) eB U)<|dS (gF ((i).toNat) 1 (vI y.Hi) U bP (ao (n:=(jc s ts).length) 0 U sm) D U dc U) ?_;refine dS (CL (VC y.Hi sd) (aA) U) ?_;refine dS (SX (aW (xs:=[(0,.tmp 34),(1,.tmp 40)]) (cs:=(aa.cells (aa.mk (kH y.Lo) (qd y.Hi)))) U U (aV gQ U)) U U)<|cy<|o_ U cK U<|aq aj 4 ?_;refine mP hQ [0] (mc 1 U mn) U ?_
 first|(rw [(oq (i:=i) he).1,(oq (i:=i) he).2]<;>rfl)|(rw [(mJ (i:=i) he I).1,(mJ (i:=i) he I).2]<;>rfl)|(rw [(m6 (i:=i) he I).1,(m6 (i:=i) he I).2,A]<;>rfl)
end
section
open Go.RowKit
theorem LF (n lo hi:Int) (g1 g2:Nat):
 dh Tryz.prog 261 [(vI n),(vP g1),(vP g2)] [(cb g1 3 [(vI lo)]),(cb g2 3 [(vI hi)])] (vB (decide (n<lo∨hi<n))):=by
 refine bj kr Tryz.func261 U U fun B Q hQ hN=>?_
 try dsimp only
 refine ck bT 11 [] (mr 0 U mn) ?_;refine bK (t:=8) U (aG fun A=>?_) (aH fun A=>?_)
 ·exact cr aj 8 hQ U U<|cB (cR I).symm
 exact yR aj 8 hQ [] (mr 1 U mn) U U<|cB (gR.2 I)
theorem w4 (lo hi:Int) (l:List Int) (lA:OA) (lC:Nat) (hlen:l.length≤1000000):
 dh Tryz.prog 243 [(vI lo),(vI hi),(vS lA l.length lC)] [(jx lA l)] (vB (oJ lo hi l)):=by
 refine bj kr Tryz.func243 U U fun D Q hQ hN=>?_
 try dsimp only
 refine aU bT 2 U<|sK U U fun A=>sK U U fun B=>aq aj 6 ?_;refine rS (FU U) ?_;refine rS (CL (pE l lA lC (Value.func (.func 261) [].toArray [(vP A),(vP B)].toArray) (fun C=>(decide (C<lo∨hi<C))) (iU [(cb A 3 [(vI lo)]),(cb B 3 [(vI hi)])]) (by intro C _;exact kT (fi:=[]) (ca:=[(vP A),(vP B)]) (jJ (LF C lo hi A B) (aP [0,1]))) hlen) (gM 2 U U<|aw (jO (aP [1,0]))<|aA) U) ?_;exact cr aj 5 hQ U U U
theorem Nu:
 ld Tryz.prog 195 [(vA (qB.cells (qB.mk (aX.mk none 0 0))))] [] (fun (x:Nat×Nat)=>(vT [(Value.pointer (some ⟨x.1,0,none⟩)),(vI 0)])) (fun (x:Nat×Nat)=>True) (fun (x:Nat×Nat)=>[(cb x.1 317 (oL.cells (oL.mk (qB.mk (aX.mk none 0 0)) (Value.map (some x.2))))),(iu iV x.2 (bS (fun s=>vA (jo.cells s)) ([]:List (Int×jo))))]):=by
 refine cU kr Tryz.func195 U U fun E Q hQ hN=>?_
 try dsimp only
 refine aU bT 2 U<|dV U fun D=>ck aj 7 [] (mc 0 U mn) ?_;refine lv (kV:=iV) U U fun A=>?_
 try dsimp only
 refine rS (SX (aW (xs:=[(0,.tmp 8),(1,.tmp 9)]) (cs:=(oL.cells (oL.mk (qB.mk (aX.mk none 0 0)) (Value.map (some A))))) U U (aV X5 U)) U U)<|dV U fun B=>dF aj 18 [] (mc 2 U mn) U<|iX 1<|eh fun R9 C=>aU bT 2 U<|rS (SX (cm (r:= .bool false) U U U hH) U U)<|aU aj 5 U<|dF fz 8 [] (mc 2 U mn) U<|rS (SX (cm (r:= .bool false) U U U OT) U U)<|aq aj 13 ?_;refine LX hQ (B,A) [0,1] [] mn U U U U ?_;trivial
variable (f:Value)
theorem HS:
 dh Tryz.prog 247 [(vS none 0 0),f] [] (vI (-1)):=by
 refine bj kr Tryz.func247 U U fun B Q hQ hN=>?_
 try dsimp only
 exact aU bT 14 U<|iX 1<|eh fun R4 A=>aU bT 2 U<|rS (SX (cm (r:= .bool false) U U U hH) U U)<|aU aj 5 U<|cr fz 8 hQ U U<|cI I
theorem Hc:
 dh Tryz.prog 224 [(vS none 0 0),f] [] (vB false):=by
 refine bj kr Tryz.func224 U U fun A Q hQ hN=>?_
 try dsimp only
 refine aU bT 9 U<|rS (CL (HS f) (aA) U)<|rS (SX (cm (r:= .bool false) U U U Gq) U U)<|cr aj 4 hQ U U ?_
 first|rfl|(simp;done)
theorem Rn:
 dh Tryz.prog 225 [(vA (l6.cells (l6.mk (aX.mk none 0 0) 500 0 0 (aX.mk none 0 0) (aX.mk none 0 0) 0 false)))] [] (vB true):=by
 refine bj kr Tryz.func225 U U fun N Q hQ hN=>?_
 try dsimp only
 refine aU bT 2 U<|dV U fun M=>ck aj 7 [] (mc 0 U mn) ?_;refine dC (xs:=[.tmp 4]) (cs:=[(vI 500)]) U cO jU U U U U (by simp [Value.cells]) U U fun G=>?_;refine rS (CL (dh.eq (w4 0 1000000 ([500]) (some ⟨G,0,none⟩) 1 sd) cp) (aw (aM 0 U U (by simp [br]) U)<|aA) U) ?_;refine aq aj 1 ?_;refine cz (t:=7) U (aH fun L=>?_) (aG fun L=>?_)
 ·exfalso;omega
 refine ck aj 2 [] (mc 1 U mn) ?_;refine dC (xs:=[.tmp 9]) (cs:=[(vI 0)]) U cO jU U U U U (by simp [Value.cells]) U U fun H=>?_;refine rS (CL (dh.eq (w4 0 1000 ([0]) (some ⟨H,0,none⟩) 1 sd) cp) (aw (aM 0 U U (by simp [br]) U)<|aA) U) ?_;refine aq aj 2 ?_;refine cz (t:=13) U (aH fun E=>?_) (aG fun E=>?_)
 ·exfalso;omega
 refine dF aj 2 [] (mc 2 U mn) U<|dC (xs:=[.tmp 15]) (cs:=[(vI 0)]) U cO jU U U U U (by simp [Value.cells]) U U fun AA=>ck aj 2 [] (mc 3 U mn) ?_;refine g0 (es:=(map iC [0])) (C':=[own (some ⟨AA,0,none⟩) 1 3 1 (map iC [0]),_,_,_]) 0 U (by simp [br]) U (by simp [maxLen]) U ?_;refine de (es2:=(map iC (([0])++([])))) (m':=(([0])++([])).length) 0 U U U pG U U sm (vK _ _) sm os (by first|(simp only [maxLen];omega)|(simp [maxLen];omega)) sm sm U fun F K=>?_
 try dsimp only
 refine rS (CL (w4 (-1000) 1000 (([0])++([])) F K sd) (aw (ao (n:=(([0])++([])).length) 0 U sm)<|aA) U) ?_;refine aq aj 2 ?_;refine cz (t:=22) U (fun A=>?_) (fun A=>?_)
 ·exact noConfusion (A.symm.trans (show oJ (-1000) 1000 ([0]++[])=true by decide))
 refine dF aj 2 [] (mc 3 U mn) U<|dC (xs:=[.tmp 24]) (cs:=[(vI 0)]) U cO jU U U U U (by simp [Value.cells]) U U fun J=>ck aj 2 [] (mc 4 U mn) ?_;refine g0 (es:=(map iC [0])) (C':=[own (some ⟨J,0,none⟩) 1 3 1 (map iC [0]),_,_,_,_]) 0 U (by simp [br]) U (by simp [maxLen]) U ?_;refine de (es2:=(map iC (([0])++([])))) (m':=(([0])++([])).length) 0 U U U pG U U sm (vK _ _) sm os (by first|(simp only [maxLen];omega)|(simp [maxLen];omega)) sm sm U fun C D=>?_
 try dsimp only
 refine rS (CL (w4 0 2000 (([0])++([])) C D sd) (aw (ao (n:=(([0])++([])).length) 0 U sm)<|aA) U) ?_;refine aq aj 2 ?_;refine cz (t:=31) U (fun B=>?_) (fun B=>?_)
 ·exact noConfusion (B.symm.trans (show oJ 0 2000 ([0]++[])=true by decide))
 refine dF aj 3 [] (mc 4 U mn) U<|rS (SX (cm (r:= .bool true) U U U JN) U U)<|dF aj 5 [] (mc 4 U mn) U<|rS (SX (cm (r:= .bool true) U U U JN) U U)<|cr aj 5 hQ U U ?_
 first|rfl|(simp;done)|(exact cB dc)
theorem RW (gh gm:Nat):
 dh Tryz.prog 196 [(vP gh),(vA (l6.cells (l6.mk (aX.mk none 0 0) 500 0 0 (aX.mk none 0 0) (aX.mk none 0 0) 0 false)))] [(cb gh 317 (oL.cells (oL.mk (qB.mk (aX.mk none 0 0)) (Value.map (some gm))))),(iu iV gm (bS (fun s=>vA (jo.cells s)) ([]:List (Int×jo))))] (vB true):=by
 refine bj kr Tryz.func196 U U fun C Q hQ hN=>?_
 try dsimp only
 refine aU bT 2 U<|sK U U fun A=>dV U fun B=>aU aj 5 U<|rS (FU U)<|dF aj 8 [] (mc 0 U mn) U<|rS (SX (cm (r:= .bool true) U U U JN) U U)<|dF aj 4 [] (mc 0 U mn) U<|rS (CL (Hc (Value.func (.func 222) [].toArray [(vP A)].toArray)) (aA) U)<|dF aj 4 [] (mc 0 U mn) U<|rS (CL Rn (aA) U)<|cr aj 5 hQ U U ?_
 first|rfl|(simp;done)
end
section
open Go.RowKit
theorem Ly (gq:Nat):
 ld Tryz.prog 151 [(vA (qB.cells (qB.mk (aX.mk none 0 0)))),(vS (some ⟨gq,0,none⟩) 1 1)] [(cb gq 180 (l6.cells (l6.mk (aX.mk none 0 0) 500 0 0 (aX.mk none 0 0) (aX.mk none 0 0) 0 false)))] (fun (x:Nat×Nat)=>(vT [(Value.pointer (some ⟨x.1,0,none⟩)),(vI 0)])) (fun (x:Nat×Nat)=>True) (fun (x:Nat×Nat)=>[(cb x.1 317 (oL.cells (oL.mk (qB.mk (aX.mk none 0 0)) (Value.map (some x.2))))),(iu iV x.2 (bS (fun s=>vA (jo.cells s)) ([]:List (Int×jo))))]):=by
 refine cU kr Tryz.func151 U U fun AA Q hQ hN=>?_
 try dsimp only
 refine aU bT 2 U<|dV U fun H=>ck aj 7 [] (mc 0 U mn) ?_;refine cX Nu (aA) U fun G F=>?_;obtain ⟨A,B⟩:=G
 try dsimp only
 refine aU aj 11 U<|rS (SX (cm (r:= .bool false) U U U nx) U U)<|aU aj 14 U<|iX 2<|eh fun R12 C=>aU bT 2 U<|rS (SX (cm (r:= .bool true) U U U hH) U U)<|aU aj 10 U<|rS (IAB 0 0 U TR U dc U)<|dF aj 1 [] (mr 3 U mn) U<|AL U Uh fun E=>eM U WQ U<|dF aj 6 [] (mc 0 U mn) U<|rS (CL (RW A B) (aP [1,2]) U)<|aU aj 8 U<|rS (SX (cm (r:= .int .i64 1) U U U (jq ⟨dc,dc⟩)) U U)<|aU aj 2 U<|KK C<|eh fun R19 D=>aU bT 2 U<|rS (SX (cm (r:= .bool false) U U U hH) U U)<|aU aj 5 U<|aq fz 10 ?_;refine LX hQ (A,B) [1,2] [] mn U U U U ?_;trivial
theorem RH (gh gm:Nat):
 dh Tryz.prog 201 [(vP gh),(vA (l6.cells (l6.mk (aX.mk none 0 0) 500 0 0 (aX.mk none 0 0) (aX.mk none 0 0) 0 false)))] [(cb gh 317 (oL.cells (oL.mk (qB.mk (aX.mk none 0 0)) (Value.map (some gm))))),(iu iV gm (bS (fun s=>vA (jo.cells s)) ([]:List (Int×jo))))] (vS none 0 0):=by
 refine bj kr Tryz.func201 U U fun K Q hQ hN=>?_
 try dsimp only
 refine aU bT 2 U<|dV U fun J=>aq aj 5 ?_;refine lv (kV:=iV) U U fun D=>?_
 try dsimp only
 refine aU aj 7 U<|rS (SX (bO U U) U U)<|ck aj 2 [] (mr 2 U mn) ?_;refine ku (kV:=iV) (m:=bS (fun s=>vA (jo.cells s)) ([]:List (Int×jo))) 3 U U YU U ⟨U,fun h=>h⟩ (by exact mV 3 U) U fun AA=>?_
 try dsimp only
 refine aq aj 3 ?_;have A:(([]:List (Int×jo)).length≤1000000):=by decide
 refine bw (ι:={z:(List (Int×jo))×(List (Int×Bool)) // (z.1.length≤1000000)}) [0,3,5,17] [2,3,4] U U (fun z=>[]) (fun z=>[(Bp iV AA gm (bS (fun s=>vA (jo.cells s)) ([]:List (Int×jo))) (bS (fun s=>vA (jo.cells s)) z.1.1) none),(iu iV D (bS vB z.1.2))]) (fun _=>rfl) (fun _=>rfl) (fun z=>z.1.1.length) ⟨(([]:List (Int×jo)),([]:List (Int×Bool))),A⟩ (cV.nil _) (aB [2,3,4,0,1]) ?_;clear A;rintro ⟨⟨left,m⟩,B⟩ J8 C
 try dsimp only at B
 try dsimp only
 refine aq bT 2 ?_;refine jH (eE nZ).inj (f:=(fun s=>vA (jo.cells s))) 3 U U U U (fun G=>?_) (fun q z hm H=>?_);rotate_left 1
 ·try dsimp only
  refine aU aj 10 U<|rS (SX (jK 3 U U U) U U)<|aU aj 7 U<|iN (kV:=iV) (x:=q) (C':=[_,_,_,_,(iu iV D (bS vB (d_ m q true)))]) 4 U U U U pV (eE nZ) U (gH _ _ _ _).symm U<|aq aj 2 ?_;refine iH 3 U fZ U ?_;refine aL (C ⟨((cJ left q),(d_ m q true)),(by have:=e9 hm;simp only [];omega)⟩ _ _ _ U (e9 hm) (aN U) (aB [0,1,2,3,4]))
 refine aU aj 6 U<|dF fz 12 [] (mc 0 U mn) U<|iX 1<|eh fun R13 E=>aU bT 2 U<|rS (SX (cm (r:= .bool false) U U U hH) U U)<|aU aj 5 U<|aU fz 11 U<|rS (SX (bO U U) U U)<|dF aj 8 [] (mr 1 U mn) U<|iX 1<|eh fun R19 F=>aU bT 2 U<|rS (SX (cm (r:= .bool false) U U U hH) U U)<|aU aj 5 U<|cr fz 9 hQ U U ?_;rfl
theorem Kb (gh gm:Nat):
 ld Tryz.prog 152 [(vP gh),(vA (l6.cells (l6.mk (aX.mk none 0 0) 500 0 0 (aX.mk none 0 0) (aX.mk none 0 0) 0 false)))] [(cb gh 317 (oL.cells (oL.mk (qB.mk (aX.mk none 0 0)) (Value.map (some gm))))),(iu iV gm (bS (fun s=>vA (jo.cells s)) ([]:List (Int×jo))))] (fun (x:Nat)=>(vS (some ⟨x,0,none⟩) 1 1)) (fun (x:Nat)=>True) (fun (x:Nat)=>[(cb x 38 (aa.cells (aa.mk 500 500)))]):=by
 refine cU kr Tryz.func152 U U fun E Q hQ hN=>?_
 try dsimp only
 refine aU bT 2 U<|dV U fun C=>dF aj 9 [] (mc 0 U mn) U<|rS (SX (aW (xs:=[(0,.tmp 10),(1,.tmp 12)]) (cs:=(aa.cells (aa.mk 500 500))) U U (aV gQ U)) U U)<|dC (xs:=[.tmp 13]) (cs:=(aa.cells (aa.mk 500 500))) U iv dD U U U U (by simp [Value.cells,aa.aD]) U U fun A=>AL U I9 fun D=>IV U Pa U U<|aU aj 4 U<|rS (FU U)<|dF aj 8 [] (mc 2 U mn) U<|rS (CL (RH gh gm) (aP [3,4]) U)<|aU aj 5 U<|iX 1<|eh fun R9 B=>aU bT 2 U<|rS (SX (cm (r:= .bool false) U U U hH) U U)<|aU aj 5 U<|ck fz 9 [] (mc 0 U mn) ?_;refine LX hQ A [1] [] mn U U U U ?_;trivial
theorem Lq:
 ld Tryz.prog 99 [(vA (qB.cells (qB.mk (aX.mk none 0 0)))),(vA (l6.cells (l6.mk (aX.mk none 0 0) 500 0 0 (aX.mk none 0 0) (aX.mk none 0 0) 0 false)))] [] (fun (x:Nat)=>(vT [(vS (some ⟨x,0,none⟩) 1 1),(vI 0)])) (fun (x:Nat)=>True) (fun (x:Nat)=>[(cb x 38 (aa.cells (aa.mk 500 500)))]):=by
 refine cU kr Tryz.func99 U U fun J Q hQ hN=>?_
 try dsimp only
 refine aU bT 2 U<|dV U fun H=>dV U fun AA=>ck aj 8 [0,1] (mc 1 U (mc 0 U mn)) ?_;refine dC (xs:=[.tmp 11]) (cs:=(l6.cells (l6.mk (aX.mk none 0 0) 500 0 0 (aX.mk none 0 0) (aX.mk none 0 0) 0 false))) U TR Uh U U U U (by simp [Value.cells,l6.aD]) U U fun E=>cX (Ly E) (aP [0]) U fun G F=>?_;obtain ⟨B,C⟩:=G
 try dsimp only
 refine aU aj 11 U<|rS (SX (cm (r:= .bool false) U U U nx) U U)<|ck aj 9 [] (mc 3 U mn) ?_;refine cX (Kb B C) (aP [0,1]) U fun A D=>?_
 try dsimp only
 refine aU aj 8 U<|rS (SX (cm (r:= .bool false) U U U ny) U U)<|aq aj 13 ?_;refine LX hQ A [0] [] mn U U U U ?_;trivial
end
section
open Go.RowKit
theorem J0:
 dh Tryz.prog 51 [] [] (vB true):=by
 refine bj kr Tryz.func51 U U fun N Q hQ hN=>?_
 try dsimp only
 refine aq bT 7 ?_;refine rS (SX (aW (xs:=[]) (cs:=(qB.cells (qB.mk (aX.mk none 0 0)))) U U (aV Ys U)) U U)<|rS (SX (aW (xs:=[(1,.const (vI 500))]) (cs:=(l6.cells (l6.mk (aX.mk none 0 0) 500 0 0 (aX.mk none 0 0) (aX.mk none 0 0) 0 false))) U U (aV YS U)) U U)<|cX Lq (aA) U fun J M=>?_
 try dsimp only
 refine aU aj 9 U<|rS (CL (jZ 1000 1000) (aA) U)<|rS (CL (jZ 100 100) (aA) U)<|rS (SX (aW (xs:=[(0,.const (vI 1)),(1,.tmp 12),(2,.tmp 13)]) (cs:=(ag.cells (ag.mk 1 (aa.mk 1000 1000) (aa.mk 100 100) (aa.mk 0 0) 0 0))) U U (aV MO U)) U U)<|dC (xs:=[.tmp 14]) (cs:=(ag.cells (ag.mk 1 (aa.mk 1000 1000) (aa.mk 100 100) (aa.mk 0 0) 0 0))) U vD HY U U U U (by simp [Value.cells,ag.aD]) U U fun D=>rS (SX (aW (xs:=[(0,.tmp 15)]) (cs:=(aZ.cells (aZ.mk (aX.mk (some ⟨D,0,none⟩) 1 1)))) U U (aV US U)) U U)<|AL U Wj fun L=>eM U V3 U<|aq aj 3 ?_;refine mj bX [0,1,2,3] [4,5,6,7,8,9] [false,false,false,false] [] [(cb L 24 (aZ.cells (aZ.mk (aX.mk (some ⟨D,0,none⟩) 1 1)))),(cb D 65 (ag.cells (ag.mk 1 (aa.mk 1000 1000) (aa.mk 100 100) (aa.mk 0 0) 0 0))),(cb J 38 (aa.cells (aa.mk 500 500)))] [] kr (aB [0,1,2]) (aB [])<|eS U (LW 0 U bP U U)<|eS U (CL (jZ 50 50) (aA) U)<|eS U (CL (jZ 60000 60000) (aA) U)<|eS U (SX (aW (xs:=[(0,.const (Value.int .u8 3)),(1,.tmp 19),(4,.tmp 20)]) (cs:=(dx.cells (dx.mk 3 (aa.mk 50 50) (aa.mk 0 0) (aa.mk 0 0) (aa.mk 60000 60000) (aa.mk 0 0)))) U U (aV TK U)) U U)<|dL U<|N1 4<|NO U U [5,6,7,8,9] fun T10 C=>cX (I2 ([(ag.mk 1 (aa.mk 1000 1000) (aa.mk 100 100) (aa.mk 0 0) 0 0)]) (some ⟨D,0,none⟩) 1 (dx.mk 3 (aa.mk 50 50) (aa.mk 0 0) (aa.mk 0 0) (aa.mk 60000 60000) (aa.mk 0 0)) dc (by exact Qu)) (aw (aM 1 U U (by simp [ag.aD]) U)<|aA) U fun AA K=>?_;obtain ⟨E,H⟩:=AA
 try dsimp only
 refine RD C 1 U<|ML [17,23,24,4,5] kr kr U _ U U (aB [1,2,3])<|iQ 5 U<|cy<|aU aj 5 U<|rS (SX (cm (r:= .bool true) U U U ny) U U)<|aU aj 2 U<|rS (CL (jZ 500 500) (aA) U)<|dC (xs:=[.tmp 29]) (cs:=(aa.cells (aa.mk 500 500))) U iv dD U U U U (by simp [Value.cells,aa.aD]) U U fun F=>rS (CL (yn ([(aa.mk 500 500)]) (some ⟨J,0,none⟩) 1 ([(aa.mk 500 500)]) (some ⟨F,0,none⟩) 1 dc dc) (aw (aM 4 U U (by simp [aa.aD]) U)<|aw (aM 0 U U (by simp [aa.aD]) U)<|aA) U)<|aq aj 2 ?_;refine cz (t:=33) U (aH fun A=>?_) (aG fun A=>?_)
 ·exact absurd U A
 refine aq aj 4 ?_;refine cz (t:=37) U (aH fun B=>?_) (aG fun B=>?_)
 ·exact absurd AR.1 B
 refine aU aj 1 U<|rS (CL (jZ 50 50) (aA) U)<|rS (CL (jZ 150 150) (aA) U)<|dC (xs:=[.tmp 39,.tmp 40]) (cs:=((aa.cells (aa.mk 50 50))++(aa.cells (aa.mk 150 150)))) U iv dD U U U U (by simp [Value.cells,aa.aD]) U U fun G=>rS (CL (yn (rN (dx.mk 3 (aa.mk 50 50) (aa.mk 0 0) (aa.mk 0 0) (aa.mk 60000 60000) (aa.mk 0 0)) ([(ag.mk 1 (aa.mk 1000 1000) (aa.mk 100 100) (aa.mk 0 0) 0 0)])) E H ([(aa.mk 50 50),(aa.mk 150 150)]) (some ⟨G,0,none⟩) 2 (by exact c6 (ACJ (c7 List.length AR.2)) dc) dc) (aw (ao (n:=(rN (dx.mk 3 (aa.mk 50 50) (aa.mk 0 0) (aa.mk 0 0) (aa.mk 60000 60000) (aa.mk 0 0)) ([(ag.mk 1 (aa.mk 1000 1000) (aa.mk 100 100) (aa.mk 0 0) 0 0)])).length) 2 U sm)<|aw (aM 0 U U (by simp [aa.aD]) U)<|aA) U)<|cr aj 5 hQ U U ?_
 first|rfl|exact cB (cR AR.2)
end
section
open Go.RowKit
theorem KS:
 dh Tryz.prog 20 [] [] (vB true):=by
 refine bj kr Tryz.func20 U U fun AA Q hQ hN=>?_
 try dsimp only
 refine aU bT 7 U<|rS (CL (jZ 1000 1000) (aA) U)<|rS (SX (aW (xs:=[(0,.const (vI 1)),(1,.tmp 8)]) (cs:=(ag.cells (ag.mk 1 (aa.mk 1000 1000) (aa.mk 0 0) (aa.mk 0 0) 0 0))) U U (aV MO U)) U U)<|rS (CL (jZ 1000 1000) (aA) U)<|rS (SX (aW (xs:=[(0,.const (vI 2)),(1,.tmp 10)]) (cs:=(ag.cells (ag.mk 2 (aa.mk 1000 1000) (aa.mk 0 0) (aa.mk 0 0) 0 0))) U U (aV MO U)) U U)<|dC (xs:=[.tmp 9,.tmp 11]) (cs:=((ag.cells (ag.mk 1 (aa.mk 1000 1000) (aa.mk 0 0) (aa.mk 0 0) 0 0))++(ag.cells (ag.mk 2 (aa.mk 1000 1000) (aa.mk 0 0) (aa.mk 0 0) 0 0)))) U vD HY U U U U (by simp [Value.cells,ag.aD]) U U fun L=>rS (SX (aW (xs:=[(0,.tmp 12)]) (cs:=(aZ.cells (aZ.mk (aX.mk (some ⟨L,0,none⟩) 2 2)))) U U (aV US U)) U U)<|AL U Wj fun S=>eM U V3 U<|aq aj 3 ?_;refine cT bX [8,9] [] [] [0,1] [] U U U U U<|eS U (LW 0 U bP U U)<|eS U (CL (jZ 200 200) (aA) U)<|eS U (CL (jZ 60000 60000) (aA) U)<|eS U (SX (aW (xs:=[(0,.const (Value.int .u8 1)),(1,.tmp 16),(4,.tmp 17)]) (cs:=(dx.cells (dx.mk 1 (aa.mk 200 200) (aa.mk 0 0) (aa.mk 0 0) (aa.mk 60000 60000) (aa.mk 0 0)))) U U (aV TK U)) U U)<|eS U (CL (Rw ([(ag.mk 1 (aa.mk 1000 1000) (aa.mk 0 0) (aa.mk 0 0) 0 0),(ag.mk 2 (aa.mk 1000 1000) (aa.mk 0 0) (aa.mk 0 0) 0 0)]) (some ⟨L,0,none⟩) 2 (dx.mk 1 (aa.mk 200 200) (aa.mk 0 0) (aa.mk 0 0) (aa.mk 60000 60000) (aa.mk 0 0)) 1 dc (by exact zC)) (aw (aM 1 U U (by simp [ag.aD]) U)<|aA) U)<|eS U (MV U)<|eS U (EX U)<|eS U (EX U)<|eS U (AG U)<|dL U<|bR U fun T6 M=>AL U dD fun T=>bG (M _ _ (aB [1,2]) ?_);refine bR U fun T8 N=>eM U cK U<|bG (N _ _ (aB [1,2]) ?_);refine eI U<|ck jC 4 [] (mc 1 U mn) ?_;refine cX (BG ([(ag.mk 1 (aa.mk 1000 1000) (aa.mk 0 0) (aa.mk 0 0) 0 0),(ag.mk 2 (aa.mk 1000 1000) (aa.mk 0 0) (aa.mk 0 0) 0 0)]) (some ⟨L,0,none⟩) 2 199 dc (by exact zC) dc) (aw (aM 2 U U (by simp [ag.aD]) U)<|aA) U fun P K=>?_;obtain ⟨A,D,C,B,E⟩:=P
 try dsimp only
 obtain ⟨O,J⟩:=K;refine aU aj 3 U<|AL U Ri fun R=>eM U NF U<|dF aj 6 [] (mc 0 U mn) U<|rS (CL (S7 (bf.mk ([(ag.mk 1 (aa.mk 1000 1000) (aa.mk 0 0) (aa.mk 0 0) 0 0),(ag.mk 2 (aa.mk 1000 1000) (aa.mk 0 0) (aa.mk 0 0) 0 0)]) 199 ([eP]) (eJ (min (([(ag.mk 1 (aa.mk 1000 1000) (aa.mk 0 0) (aa.mk 0 0) 0 0),(ag.mk 2 (aa.mk 1000 1000) (aa.mk 0 0) (aa.mk 0 0) 0 0)]).length-1) 6)) 0 0 0) (some ⟨L,0,none⟩) 2 C A D B E 0 (by exact J)) (aw (aM 6 U U (by simp [ag.aD]) U)<|aw (ao (n:=([eP]).length) 1 U (il O))<|aw (dQ 2 U kF)<|aw (ao (n:=(eJ (min (([(ag.mk 1 (aa.mk 1000 1000) (aa.mk 0 0) (aa.mk 0 0) 0 0),(ag.mk 2 (aa.mk 1000 1000) (aa.mk 0 0) (aa.mk 0 0) 0 0)]).length-1) 6)).length) 3 U sm)<|aA) U)<|aU aj 8 U<|cL bX 22 kr<|dS (CL J0 (aA) U)<|dP 4 [] mn ?_;refine iM (t:=36) U (aH fun F=>?_) (aG fun F=>?_)
 ·exact absurd IX F
 refine dP 4 [] mn ?_;refine iM (t:=40) U (aH fun G=>?_) (aG fun G=>?_)
 ·exact absurd Ep.2 G
 refine jY 1 [] (mc 4 U mn) U<|dS (CL (jZ 198 199) (aA) U)<|dS (BI U (wN _ _ (xD (dx.mk 1 (aa.mk 200 200) (aa.mk 0 0) (aa.mk 0 0) (aa.mk 60000 60000) (aa.mk 0 0)) ([(ag.mk 1 (aa.mk 1000 1000) (aa.mk 0 0) (aa.mk 0 0) 0 0),(ag.mk 2 (aa.mk 1000 1000) (aa.mk 0 0) (aa.mk 0 0) 0 0)]) 1) (aa.mk 198 199)))<|dP 2 [] mn ?_;refine iM (t:=45) U (aH fun H=>?_) (aG fun H=>?_)
 ·exact absurd Ep.1 H
 refine dP 4 [] mn ?_;refine iM (t:=49) U (aH fun AB=>?_) (aG fun AB=>?_)
 ·exact absurd Gm.2 AB
 refine iQ 4 U<|cy<|cr aj 3 hQ U U ?_
 first|rfl|exact cB (cR Gm.1)
end
section
open Go.RowKit
theorem Mx:
 dh Tryz.prog 4 [] [(rd hU 3 2 fX)] (vB true):=by
 refine bj kr Tryz.func4 U U fun o Q hQ hN=>?_
 try dsimp only
 refine aU bT 7 U<|rS (CL (jZ 1000 1000) (aA) U)<|rS (SX (aW (xs:=[(0,.const (vI 1)),(1,.tmp 9)]) (cs:=(ag.cells (ag.mk 1 (aa.mk 1000 1000) (aa.mk 0 0) (aa.mk 0 0) 0 0))) U U (aV MO U)) U U)<|rS (CL (jZ 1000 1000) (aA) U)<|rS (SX (aW (xs:=[(0,.const (vI 2)),(1,.tmp 11)]) (cs:=(ag.cells (ag.mk 2 (aa.mk 1000 1000) (aa.mk 0 0) (aa.mk 0 0) 0 0))) U U (aV MO U)) U U)<|dC (xs:=[.tmp 10,.tmp 12]) (cs:=((ag.cells (ag.mk 1 (aa.mk 1000 1000) (aa.mk 0 0) (aa.mk 0 0) 0 0))++(ag.cells (ag.mk 2 (aa.mk 1000 1000) (aa.mk 0 0) (aa.mk 0 0) 0 0)))) U vD HY U U U U (by simp [Value.cells,ag.aD]) U U fun F=>rS (SX (aW (xs:=[(0,.tmp 13)]) (cs:=(aZ.cells (aZ.mk (aX.mk (some ⟨F,0,none⟩) 2 2)))) U U (aV US U)) U U)<|AL U Wj fun j=>eM U V3 U<|ck aj 5 [] (mc 0 U mn) ?_;refine cX (BG ([(ag.mk 1 (aa.mk 1000 1000) (aa.mk 0 0) (aa.mk 0 0) 0 0),(ag.mk 2 (aa.mk 1000 1000) (aa.mk 0 0) (aa.mk 0 0) 0 0)]) (some ⟨F,0,none⟩) 2 1000 dc (by exact zC) dc) (aw (aM 1 U U (by simp [ag.aD]) U)<|aA) U fun l g=>?_;obtain ⟨C,E,G,A,B⟩:=l
 try dsimp only
 obtain ⟨Z,N⟩:=g;refine aU aj 3 U<|AL U Ri fun P=>eM U NF U<|aq aj 4 ?_;refine TY (L':=[(0,(vB false)),(1,(vP j)),(2,(vP P)),(3,(vB (decide (dU (bf.mk ([(ag.mk 1 (aa.mk 1000 1000) (aa.mk 0 0) (aa.mk 0 0) 0 0),(ag.mk 2 (aa.mk 1000 1000) (aa.mk 0 0) (aa.mk 0 0) 0 0)]) 1000 [eP] (eJ (min (([(ag.mk 1 (aa.mk 1000 1000) (aa.mk 0 0) (aa.mk 0 0) 0 0),(ag.mk 2 (aa.mk 1000 1000) (aa.mk 0 0) (aa.mk 0 0) 0 0)]).length-1) 6)) 0 0 0)=0)))),(9,(vA (aa.cells (aa.mk 1000 1000)))),(10,(vA (ag.cells (ag.mk 1 (aa.mk 1000 1000) (aa.mk 0 0) (aa.mk 0 0) 0 0)))),(11,(vA (aa.cells (aa.mk 1000 1000)))),(12,(vA (ag.cells (ag.mk 2 (aa.mk 1000 1000) (aa.mk 0 0) (aa.mk 0 0) 0 0)))),(13,(vS (some ⟨F,0,none⟩) 2 2)),(14,(vA (aZ.cells (aZ.mk (aX.mk (some ⟨F,0,none⟩) 2 2))))),(15,(vT [(vA (bV.cells (bV.mk (aZ.mk (aX.mk (some ⟨F,0,none⟩) (([(ag.mk 1 (aa.mk 1000 1000) (aa.mk 0 0) (aa.mk 0 0) 0 0),(ag.mk 2 (aa.mk 1000 1000) (aa.mk 0 0) (aa.mk 0 0) 0 0)]).length) 2)) 1000 (aX.mk C 1 E) (aX.mk A ((eJ (min (([(ag.mk 1 (aa.mk 1000 1000) (aa.mk 0 0) (aa.mk 0 0) 0 0),(ag.mk 2 (aa.mk 1000 1000) (aa.mk 0 0) (aa.mk 0 0) 0 0)]).length-1) 6)).length) B) 0 0 0))),(vB (decide (dU (bf.mk ([(ag.mk 1 (aa.mk 1000 1000) (aa.mk 0 0) (aa.mk 0 0) 0 0),(ag.mk 2 (aa.mk 1000 1000) (aa.mk 0 0) (aa.mk 0 0) 0 0)]) 1000 [eP] (eJ (min (([(ag.mk 1 (aa.mk 1000 1000) (aa.mk 0 0) (aa.mk 0 0) 0 0),(ag.mk 2 (aa.mk 1000 1000) (aa.mk 0 0) (aa.mk 0 0) 0 0)]).length-1) 6)) 0 0 0)=0)))])),(16,(vA (aZ.cells (aZ.mk (aX.mk (some ⟨F,0,none⟩) 2 2))))),(17,(vT [(vA (bV.cells (bV.mk (aZ.mk (aX.mk (some ⟨F,0,none⟩) (([(ag.mk 1 (aa.mk 1000 1000) (aa.mk 0 0) (aa.mk 0 0) 0 0),(ag.mk 2 (aa.mk 1000 1000) (aa.mk 0 0) (aa.mk 0 0) 0 0)]).length) 2)) 1000 (aX.mk C 1 E) (aX.mk A ((eJ (min (([(ag.mk 1 (aa.mk 1000 1000) (aa.mk 0 0) (aa.mk 0 0) 0 0),(ag.mk 2 (aa.mk 1000 1000) (aa.mk 0 0) (aa.mk 0 0) 0 0)]).length-1) 6)).length) B) 0 0 0))),(vB (decide (dU (bf.mk ([(ag.mk 1 (aa.mk 1000 1000) (aa.mk 0 0) (aa.mk 0 0) 0 0),(ag.mk 2 (aa.mk 1000 1000) (aa.mk 0 0) (aa.mk 0 0) 0 0)]) 1000 [eP] (eJ (min (([(ag.mk 1 (aa.mk 1000 1000) (aa.mk 0 0) (aa.mk 0 0) 0 0),(ag.mk 2 (aa.mk 1000 1000) (aa.mk 0 0) (aa.mk 0 0) 0 0)]).length-1) 6)) 0 0 0)=0)))])),(18,(vA (bV.cells (bV.mk (aZ.mk (aX.mk (some ⟨F,0,none⟩) (([(ag.mk 1 (aa.mk 1000 1000) (aa.mk 0 0) (aa.mk 0 0) 0 0),(ag.mk 2 (aa.mk 1000 1000) (aa.mk 0 0) (aa.mk 0 0) 0 0)]).length) 2)) 1000 (aX.mk C 1 E) (aX.mk A ((eJ (min (([(ag.mk 1 (aa.mk 1000 1000) (aa.mk 0 0) (aa.mk 0 0) 0 0),(ag.mk 2 (aa.mk 1000 1000) (aa.mk 0 0) (aa.mk 0 0) 0 0)]).length-1) 6)).length) B) 0 0 0)))),(19,(vB (decide (dU (bf.mk ([(ag.mk 1 (aa.mk 1000 1000) (aa.mk 0 0) (aa.mk 0 0) 0 0),(ag.mk 2 (aa.mk 1000 1000) (aa.mk 0 0) (aa.mk 0 0) 0 0)]) 1000 [eP] (eJ (min (([(ag.mk 1 (aa.mk 1000 1000) (aa.mk 0 0) (aa.mk 0 0) 0 0),(ag.mk 2 (aa.mk 1000 1000) (aa.mk 0 0) (aa.mk 0 0) 0 0)]).length-1) 6)) 0 0 0)=0))))]) rfl<|mj bX [0,3,4,5,6] [7,8,1,2,9,10,11] [false,false,false,false,false] [] [(cb P 28 (bV.cells (bV.mk (aZ.mk (aX.mk (some ⟨F,0,none⟩) (([(ag.mk 1 (aa.mk 1000 1000) (aa.mk 0 0) (aa.mk 0 0) 0 0),(ag.mk 2 (aa.mk 1000 1000) (aa.mk 0 0) (aa.mk 0 0) 0 0)]).length) 2)) 1000 (aX.mk C 1 E) (aX.mk A ((eJ (min (([(ag.mk 1 (aa.mk 1000 1000) (aa.mk 0 0) (aa.mk 0 0) 0 0),(ag.mk 2 (aa.mk 1000 1000) (aa.mk 0 0) (aa.mk 0 0) 0 0)]).length-1) 6)).length) B) 0 0 0))),(own C E 109 2 (zipWith aS.cells [eP] G)),(bD (bB aS.owns [eP] G)),(own A B 113 4 ((eJ (min (([(ag.mk 1 (aa.mk 1000 1000) (aa.mk 0 0) (aa.mk 0 0) 0 0),(ag.mk 2 (aa.mk 1000 1000) (aa.mk 0 0) (aa.mk 0 0) 0 0)]).length-1) 6)).map df.cells)),(cb j 24 (aZ.cells (aZ.mk (aX.mk (some ⟨F,0,none⟩) 2 2)))),(cb F 65 ((ag.cells (ag.mk 1 (aa.mk 1000 1000) (aa.mk 0 0) (aa.mk 0 0) 0 0))++(ag.cells (ag.mk 2 (aa.mk 1000 1000) (aa.mk 0 0) (aa.mk 0 0) 0 0)))),(rd hU 3 2 fX).ro] [] kr (aB [0,1,2,3,4,5,6]) (aB [])<|eS rfl (LW 0 rfl bP rfl rfl)<|eS rfl (CL (jZ 2600 2600) (aA) rfl)<|eS rfl (SX (aW (xs:=[(1,.const (vB true)),(2,.tmp 23)]) (cs:=(aO.cells (aO.mk false true (aa.mk 2600 2600) (dA.mk 0 0 (aX.mk none 0 0))))) rfl rfl (aV Kl rfl)) rfl rfl)<|eS rfl (CL (jZ 2509 2509) (aA) rfl)<|eS rfl (SX (aW (xs:=[(1,.const (vB true)),(2,.tmp 25)]) (cs:=(aO.cells (aO.mk false true (aa.mk 2509 2509) (dA.mk 0 0 (aX.mk none 0 0))))) rfl rfl (aV Kl rfl)) rfl rfl)<|dL rfl<|IY [.take 7,.op 8,.take 1,.take 2,.op 9,.take 10,.op 11] [(24,(vA (aO.cells (aO.mk false true (aa.mk 2600 2600) (dA.mk 0 0 (aX.mk none 0 0)))))),(26,(vA (aO.cells (aO.mk false true (aa.mk 2509 2509) (dA.mk 0 0 (aX.mk none 0 0))))))] (fun i=>match i with |7=>27|1=>21|2=>22|10=>4|_=>0) (fun i b=>match i with |7=> .slice (some ⟨b,0,none⟩) 2 2|1=> .slice (some ⟨b,0,none⟩) 2 2|2=> .slice (some ⟨b,0,none⟩) 2 2|10=> .pointer (some ⟨b,0,none⟩)|_=>undef) (fun i b=>match i with |7=>cb b 52 ((aO.cells (aO.mk false true (aa.mk 2600 2600) (dA.mk 0 0 (aX.mk none 0 0))))++(aO.cells (aO.mk false true (aa.mk 2509 2509) (dA.mk 0 0 (aX.mk none 0 0)))))|1=>cb b 3 [(vI 3),(vI 4)]|2=>cb b 3 [(vI 0),(vI 1)]|10=>cb b 32 (cf.cells (cf.mk (bV.mk (aZ.mk (aX.mk none 0 0)) 0 (aX.mk none 0 0) (aX.mk none 0 0) 0 0 0) (aX.mk none 0 0) (aX.mk none 0 0) 0 (aX.mk none 0 0)))|_=>cb b 0 []) rfl rfl rfl kr rfl rfl (aB [0,1,2,3,4,5,6]) (qa (EB (xs:=[.tmp 24,.tmp 26]) (cs:=((aO.cells (aO.mk false true (aa.mk 2600 2600) (dA.mk 0 0 (aX.mk none 0 0))))++(aO.cells (aO.mk false true (aa.mk 2509 2509) (dA.mk 0 0 (aX.mk none 0 0)))))) rfl rK Mq rfl rfl rfl rfl (by simp [Value.cells,aO.aD]) rfl rfl rfl (fun _=>rfl) fun _=>rfl)<|uP<|qa (EB (xs:=[.const (vI 3),.const (vI 4)]) (cs:=[(vI 3),(vI 4)]) rfl cO jU rfl rfl rfl rfl (by simp [Value.cells]) rfl rfl rfl (fun _=>rfl) fun _=>rfl)<|qa (EB (xs:=[.const (vI 0),.const (vI 1)]) (cs:=[(vI 0),(vI 1)]) rfl cO jU rfl rfl rfl rfl (by simp [Value.cells]) rfl rfl rfl (fun _=>rfl) fun _=>rfl)<|uP<|qa (Qh rfl vm rfl rfl (fun _=>rfl) fun _=>rfl)<|uP<|Nr) ?_;intro D
 try dsimp only
 refine u6 U fun Y X K hT=>dC (xs:=[.tmp 27]) (cs:=[(vS (some ⟨D,0,none⟩) 2 2)]) U my aar U U U U (by simp [Value.cells]) U U fun J=>qx hT 22 9 U U (fun w hs=>St.kQ [2,3,4,5,6,7,8] U U hs) U U ?_
 try dsimp only [List.take]
 intro L
 try dsimp only
 intro M
 try dsimp only
 refine u6 U fun Y X K hT=>rS (SX (aW (xs:=[(0,.tmp 20),(1,.tmp 21),(2,.tmp 22),(4,.tmp 28)]) (cs:=(cf.cells (cf.mk (bV.mk (aZ.mk (aX.mk (some ⟨F,0,none⟩) (([(ag.mk 1 (aa.mk 1000 1000) (aa.mk 0 0) (aa.mk 0 0) 0 0),(ag.mk 2 (aa.mk 1000 1000) (aa.mk 0 0) (aa.mk 0 0) 0 0)]).length) 2)) 1000 (aX.mk C 1 E) (aX.mk A ((eJ (min (([(ag.mk 1 (aa.mk 1000 1000) (aa.mk 0 0) (aa.mk 0 0) 0 0),(ag.mk 2 (aa.mk 1000 1000) (aa.mk 0 0) (aa.mk 0 0) 0 0)]).length-1) 6)).length) B) 0 0 0) (aX.mk (some ⟨L,0,none⟩) 2 2) (aX.mk (some ⟨M,0,none⟩) 2 2) 0 (aX.mk (some ⟨J,0,none⟩) 1 1)))) U U (aV Ar U)) U U)<|qx hT 25 11 U U (fun w hs=>St.kQ [4,5,6,7,8,9,10] U U hs) U U ?_
 try dsimp only [List.take]
 intro k
 try dsimp only
 refine u6 U fun Y X K hT=>eM U oa U<|qx hT 26 12 U U (fun w hs=>St.kQ [5,6,7,8,9,10,11] U U hs) U U ?_
 try dsimp only [List.take]
 refine aq jC 2 ?_;refine qQ (es:=(oD.ar.bQ.map ag.cells)) (C':=[_,_,_,_,_,_,_,_,_,_,(Tw (some ⟨F,0,none⟩) 2 oD.ar.bQ),_]) 10 U (uB ag.aD _) U (by show _≤maxLen;exact c6 (m:=10) (show (2:Nat)≤10 by decide) dc) U ?_;refine qQ (es:=(oD.a_.map iC)) (C':=[_,_,(lX (some ⟨L,0,none⟩) 2 oD.a_),_,_,_,_,_,_,_,_,_]) 2 U (uB br _) U (by show _≤maxLen;exact c6 (m:=10) (show (2:Nat)≤10 by decide) dc) U ?_;refine qQ (es:=(oD.db.map iC)) (C':=[_,(lX (some ⟨M,0,none⟩) 2 oD.db),_,_,_,_,_,_,_,_,_,_]) 1 U (uB br _) U (by show _≤maxLen;exact c6 (m:=10) (show (2:Nat)≤10 by decide) dc) U ?_;refine qQ (es:=(zipWith ak.cells [Gw 2600,Gw 2509] [(none,0),(none,0)])) (C':=[_,_,_,_,(own (some ⟨D,0,none⟩) 2 52 7 (zipWith ak.cells [Gw 2600,Gw 2509] [(none,0),(none,0)])),_,_,_,_,_,_,_]) 4 U (w7 Re) U (by show _≤maxLen;exact c6 (m:=10) (show (2:Nat)≤10 by decide) dc) U ?_;refine qQ (es:=(zipWith di oD.ax [(((some ⟨D,0,none⟩),2),[(none,0),(none,0)])])) (C':=[_,_,_,(TQ (some ⟨J,0,none⟩) 1 oD.ax [(((some ⟨D,0,none⟩),2),[(none,0),(none,0)])]),_,_,_,_,_,_,_,_]) 3 U (w7 Ps) U (by show _≤maxLen;exact c6 (m:=10) (show (1:Nat)≤10 by decide) dc) U ?_;refine eC 85 2<|eC 85 2<|KL (bB kB oD.ax [(((some ⟨D,0,none⟩),2),[(none,0),(none,0)])]) [6,0,1] [2,3,4,5,7,8,9,10,11,12,13] U U ?_;have c:=OF N (Qg (p:=((some ⟨D,0,none⟩),2)) (s:=(none,0)) (t:=(none,0)));have O:=(Qg (p:=((some ⟨D,0,none⟩),2)) (s:=(none,0)) (t:=(none,0)));refine ck aY 2 [] (mc 1 U mn) ?_;refine cX (Q_ oD (some ⟨F,0,none⟩) 2 G C E A B (some ⟨L,0,none⟩) 2 (some ⟨M,0,none⟩) 2 ([(((some ⟨D,0,none⟩),2),[(none,0),(none,0)])]) (some ⟨J,0,none⟩) 1 (by exact c)) (gM 11 U U<|aw (ao (n:=oD.ar.bQ.length) 10 U U)<|aw (ao (n:=oD.ar.aC.length) 6 U (il Z))<|aw (dQ 7 U kF)<|aw (ao (n:=oD.ar.ai.length) 8 U U)<|aw (ao (n:=oD.a_.length) 3 U U)<|aw (ao (n:=oD.db.length) 2 U U)<|aw (ao (n:=oD.ax.length) 4 U U)<|aw (lH 0 U O)<|aA) U fun h d=>?_;obtain ⟨S,e,f⟩:=h
 try dsimp only
 have a:=d;refine dF aj 10 [] (mc 3 U mn) U<|rS (SX (aW (xs:=[(0,.tmp 36),(4,.const (vI 5))]) (cs:=(km.cells (km.mk (cf.mk (bV.mk (aZ.mk (aX.mk (some ⟨F,0,none⟩) (([(ag.mk 1 (aa.mk 1000 1000) (aa.mk 0 0) (aa.mk 0 0) 0 0),(ag.mk 2 (aa.mk 1000 1000) (aa.mk 0 0) (aa.mk 0 0) 0 0)]).length) 2)) 1000 (aX.mk C 1 E) (aX.mk A ((eJ (min (([(ag.mk 1 (aa.mk 1000 1000) (aa.mk 0 0) (aa.mk 0 0) 0 0),(ag.mk 2 (aa.mk 1000 1000) (aa.mk 0 0) (aa.mk 0 0) 0 0)]).length-1) 6)).length) B) 0 0 0) (aX.mk (some ⟨L,0,none⟩) 2 2) (aX.mk (some ⟨M,0,none⟩) 2 2) 0 (aX.mk (some ⟨J,0,none⟩) 1 1)) (aX.mk none 0 0) (aX.mk none 0 0) 0 5))) U U (aV Z9 U)) U U)<|rS (CL (S5 Hl (some ⟨F,0,none⟩) 2 G C E A B (some ⟨L,0,none⟩) 2 (some ⟨M,0,none⟩) 2 ([(((some ⟨D,0,none⟩),2),[(none,0),(none,0)])]) (some ⟨J,0,none⟩) 1 none 0 none 0 1 (by exact Q0 N O)) (gM 13 U U<|aw (ao (n:=oD.ar.bQ.length) 12 U U)<|aw (ao (n:=oD.ar.aC.length) 8 U (il Z))<|aw (dQ 9 U kF)<|aw (ao (n:=oD.ar.ai.length) 10 U U)<|aw (ao (n:=oD.a_.length) 5 U U)<|aw (ao (n:=oD.db.length) 4 U U)<|aw (ao (n:=oD.ax.length) 6 U U)<|aw (lH 2 U O)<|aw (vK _ _)<|aw (vK _ _)<|aA) U)<|aU aj 9 U<|rS (CL KS (aA) U)<|aq aj 4 ?_;refine cz (t:=45) U (aH fun T=>?_) (aG fun T=>?_)
 ·exact absurd Xr T
 refine aq aj 4 ?_;refine cz (t:=49) U (aH fun AA=>?_) (aG fun AA=>?_)
 ·exact absurd OE AA
 refine aq aj 1 ?_;refine dC (xs:=[.const (vI 1)]) (cs:=[(vI 1)]) U cO jU U U U U (by simp [Value.cells]) U U fun H=>dC (xs:=[.const (vI 0)]) (cs:=[(vI 0)]) U cO jU U U U U (by simp [Value.cells]) U U fun AB=>dC (xs:=[.tmp 51,.tmp 52]) (cs:=[(vS (some ⟨H,0,none⟩) 1 1),(vS (some ⟨AB,0,none⟩) 1 1)]) U wv Pw U U U U (by simp [Value.cells]) U U fun R=>?_;refine g0 (es:=(([1]:List Int).map iC)) (C':=[_,_,(lX (some ⟨H,0,none⟩) 1 ([1]:List Int)),_,_,_,_,_,_,_,_,_,_,_,_,_,_]) 2 U (uB br _) U (by show _≤maxLen;exact c6 (m:=10) (show (1:Nat)≤10 by decide) dc) U ?_;refine g0 (es:=(([0]:List Int).map iC)) (C':=[_,(lX (some ⟨AB,0,none⟩) 1 ([0]:List Int)),_,_,_,_,_,_,_,_,_,_,_,_,_,_,_]) 1 U (uB br _) U (by show _≤maxLen;exact c6 (m:=10) (show (1:Nat)≤10 by decide) dc) U ?_;refine g0 (es:=(zipWith oU [([1]:List Int),([0]:List Int)] [((some ⟨H,0,none⟩),1),((some ⟨AB,0,none⟩),1)])) (C':=[(own (some ⟨R,0,none⟩) 2 29 1 (zipWith oU [([1]:List Int),([0]:List Int)] [((some ⟨H,0,none⟩),1),((some ⟨AB,0,none⟩),1)])),_,_,_,_,_,_,_,_,_,_,_,_,_,_,_,_]) 0 U (w7 VP) U (by show _≤maxLen;exact c6 (m:=10) (show (2:Nat)≤10 by decide) dc) U ?_;refine Mb (bB Av [([1]:List Int),([0]:List Int)] [((some ⟨H,0,none⟩),1),((some ⟨AB,0,none⟩),1)]) [2,1] [0,3,4,5,6,7,8,9,10,11,12,13,14,15,16] U U ?_;refine rS (CL (C8 (lW oD) ([([1]:List Int),([0]:List Int)]) S e f ([((some ⟨H,0,none⟩),1),((some ⟨AB,0,none⟩),1)]) (some ⟨R,0,none⟩) 2 (by rw [DM];decide) dc (by rw [DM];decide) dc (by exact a) (by rfl)) (aw (ao (n:=(lW oD).length) 2 U (iO a))<|aw (dQ 3 U xb)<|aw (ao (n:=([([1]:List Int),([0]:List Int)]).length) 1 U sm)<|aw (dQ 0 U xb)<|aA) U) ?_;refine aq aj 2 ?_;refine cz (t:=56) U (aH fun V=>?_) (aG fun V=>?_)
 ·exact absurd DM V
 refine aq aj 4 ?_;refine cz (t:=60) U (aH fun W=>?_) (aG fun W=>?_)
 ·exact absurd Cb.2 W
 exact cr aj 7 hQ U U<|cB (cR Cb.1)
end
section
open Go.RowKit
theorem Br (j:dy) (kA:OA) (kC:Nat) (az:List RA) (cA:OA) (cC:Nat) (bA:OA) (bC:Nat) (slA:OA) (slC:Nat) (drA:OA) (drC:Nat) (ha:List cq) (heA:OA) (heC:Nat) (faA:OA) (faC:Nat) (prA:OA) (prC:Nat) (fE kS:Int) (t:aa) (hraw:v7 j az ha) (h1b:0≤fE∧fE≤255) (h2b:0≤kS∧kS≤255):
 dh Tryz.prog 3 [(vA (km.cells (rL j kA kC cA cC bA bC slA slC drA drC heA heC faA faC prA prC))),(Value.int .u8 fE),(Value.int .u8 kS),(vA (aa.cells t))] [(rd hU 3 2 fX),(rd kA j.Race.ar.bQ.length 9 (j.Race.ar.bQ.map ag.cells)),(rd cA j.Race.ar.aC.length 2 (zipWith aS.cells j.Race.ar.aC az)),(iU (bB aS.lf j.Race.ar.aC az)),(rd bA j.Race.ar.ai.length 4 (j.Race.ar.ai.map df.cells)),(rd slA j.Race.a_.length 1 (j.Race.a_.map iC)),(rd drA j.Race.db.length 1 (j.Race.db.map iC)),(rd heA j.Race.ax.length 1 (zipWith di j.Race.ax ha)),(iU (bB nm j.Race.ax ha)),(rd faA j.bu.length 4 (j.bu.map bL.cells)),(rd prA j.bH.length 5 (j.bH.map cG.cells))] (vB true):=by
 refine bj kr Tryz.func3 U U fun w0 Q hQ hN=>?_
 try dsimp only
 refine aU bT 2 U<|dV U fun b2=>dV U fun b3=>aU aj 5 U<|rS (CL Mx (aP [2]) U)<|dF aj 7 [] (mc 1 U mn) U<|rS (CL (M3 j kA kC az cA cC bA bC slA slC drA drC ha heA heC faA faC prA prC hraw) (aP [3,4,5,6,7,8,9,10,11,12]) U)<|aq aj 1 ?_;refine bK (t:=37) U (aG fun B9=>?_) (aH fun B9=>?_)
 ·refine cr aj 18 hQ U U ?_
  first|rfl|exact c7 Value.bool (decide_eq_true S)|exact c7 Value.bool (decide_eq_true H)|exact c7 Value.bool (decide_eq_true (by rw [show q=j.Race.a_.length by omega]))
 refine dF aj 1 [] (mc 1 U mn) U<|rS (CL (Gi j kA kC az cA cC bA bC slA slC drA drC ha heA heC faA faC prA prC (by exact hraw.small B9)) (aP [3,4,5,6,7,8,9,10,11,12]) U)<|aq aj 3 ?_;refine bK (t:=42) U (aK fun G=>?_) (aJ fun G=>?_)
 ·refine cr aj 13 hQ U U ?_
  first|rfl|exact c7 Value.bool (decide_eq_true S)|exact c7 Value.bool (decide_eq_true H)|exact c7 Value.bool (decide_eq_true (by rw [show q=j.Race.a_.length by omega]))
 refine aq aj 9 ?_;refine cL bX 16 kr ?_;have e:=hraw.small B9;have C3:=e.race;have Zs:=e.race.line;have b4:=e.race.g_;have b5:=e.race.has;have bh:=e.race.g9;have bd:=e.nf;have be:=e.np;have M9:=(fI G).1;have G4:=(fI G).2;have Zr:=(dG M9).1;have Hi:=(dG M9).2;have ZZ:=(er Zr).2.head;unfold fg at ZZ;have b8:=Hi.num;have b7:=Hi.nh;have b6:=G4.nf;have b9:=G4.np;have b0:=G4.vN;refine iQ 1 U<|dS (SX (qh (m:=fE) U U My nZ (mH (by first|assumption|omega))) U U)<|jY 4 [] (mc 1 U mn) U<|dS (BI U (Pd I I))<|iQ 1 U<|dS (SX (qh (m:=kS) U U My nZ (mH (by first|assumption|omega))) U U)<|jY 4 [] (mc 1 U mn) U<|dS (BI U (Pd I I))<|iQ 2 U<|cy<|aq aj 3 ?_;obtain ⟨h,hq,hb⟩: ∃ q:Int,(fE % (j.Race.ax.length:Int))=q∧0≤q∧q≤(j.Race.ax.length:Int)-1:=⟨_,rfl,by have:=Up fE (j.Race.ax.length:Int) I I;omega⟩;rw [hq];obtain ⟨i,hi,MK⟩: ∃ q:Int,(kS % (j.Race.a_.length:Int))=q∧mN j.Race q:=⟨_,rfl,by unfold mN;have:=Up kS (j.Race.a_.length:Int) I I;omega⟩;rw [hi];have M8:(0≤h∧h≤(j.Race.ax.length:Int)-1)∧mN j.Race i:=⟨hb,MK⟩;have M2:=MK;unfold mN at M2;obtain ⟨row,A4⟩:=P_ G hb;obtain ⟨b_,L3,d0,bz⟩:=Jr Hi M8;rcases G1 (t:=t) G M8 A4 with ⟨hm,H1,S,H⟩|⟨hm,H1,S,H⟩|⟨hm,S⟩
 rotate_left 1
 ·try dsimp only
  refine ck aY 2 [] (mc 1 U mn) ?_;refine cX (xw j kA kC az cA cC bA bC slA slC drA drC ha heA heC faA faC prA prC sd) (aP [2,3,4,5,6,7,8,9,10,11,12]) U fun Op IO=>?_;obtain ⟨A6,ap,a8⟩:=Op
  try dsimp only
  have P:=IO
  try dsimp only at P
  refine ck aj 13 [0,1] (mc 3 U (mc 2 U mn)) ?_;refine rS (SX (aW (xs:=[(1,.const (vB true)),(2,.tmp 70)]) (cs:=(aO.cells (aO.mk false true t (dA.mk 0 0 (aX.mk none 0 0))))) U U (aV Kl U)) U U) ?_;refine cX (vh j kA kC az cA cC bA bC slA slC drA drC ha heA heC faA faC prA prC h i (hZ t) none 0 sd (by exact c4 _)) (lZ [4,5,6,7,8,9,10,11,12,13,14]<|aw (vK _ _)<|aA) U fun Or Bv=>?_;obtain ⟨Id,Wa,Qa,T5,R1,T8,T0,R4,UV,R7,VD,ST,Ve,S1,WF,ab⟩:=Or;cases Id;rotate_left 1
  ·obtain ⟨K,⟨T,AA⟩,R⟩:=Bv.1 rfl
   try dsimp only [cond_true,cond_false,List.cons_append,List.nil_append]
   exact absurd (K.symm.trans S) dc
  obtain ⟨AB,he⟩:=Bv.2 rfl
  try dsimp only at AB he
  subst AB
  try dsimp only [cond_true,cond_false,List.cons_append,List.nil_append]
  refine aU aj 3 U<|AL U vm fun a5=>eM U oa U<|aq aj 9 ?_;refine bK (t:=77) U (aK fun b=>?_) (aJ fun b=>?_)
  ·exact absurd G b
  refine ck aj 10 [] (mc 4 U mn) ?_;refine bY U (aK fun A8=>?_) (aJ fun A8=>?_)
  ·exact absurd (uw G) I
  refine aq aY 12 ?_;have DA:=uw G;obtain ⟨A,C⟩:=ay (eD j) ((h).toNat) I;obtain ⟨row2a,hrow2a⟩:=ay A6 ((h).toNat) I;have hrow2m:(zipWith oU (eD j) A6)[(h).toNat]? =some (oU A row2a):=cE C hrow2a;refine rS (IA ((h).toNat) U (ao (n:=(eD j).length) 1 U (iO P)) wv dc I I)<|rS (gF ((h).toNat) 0 (vS row2a.1 A.length row2a.2) U bP (ao (n:=(eD j).length) 1 U (iO P)) hrow2m U dc U) ?_;have DR:=wU G _ (aF C);obtain rfl:A=row:=m3 (C.symm.trans A4);refine aq aj 5 ?_;have E:(0≤A.length)∧(false=(A.take 0).any (fun w=>decide (w=i))):=by exact ⟨c4 _,sm⟩
  refine bw (ι:={z:Nat×Bool // (z.1≤A.length)∧(z.2=(A.take z.1).any (fun w=>decide (w=i)))}) [4,7,9,10,11,12,14,15,89,90] [0,1,2,3,4,5,6,7,8,9,10,11,12,13,14,15] U U (fun z=>[(16,(vB z.1.2)),(91,(vI (z.1.1:Int)))]) (fun z=>[]) (fun _=>rfl) (fun _=>rfl) (fun z=>A.length-z.1.1) ⟨(0,false),E⟩ (aN U) (aB [0,1,2,3,4,5,6,7,8,9,10,11,12,13,14,15]) ?_;clear E;rintro ⟨⟨v,bv⟩,⟨J,B⟩⟩ J140 A9
  try dsimp only at J B
  try dsimp only
  refine aq bT 6 ?_;refine bY U (aG fun LT=>?_) (aH fun LT=>?_)
  ·refine aq aY 6 ?_;obtain ⟨w,hw⟩:=ay A v I;have Bt:=bx iC hw;refine rS (IA v U (show ig _ (rd row2a.1 A.length 1 (A.map iC)).holds from (fun w hw=>(dQ 2 U xb) w hw _ (bq C hrow2a (by simp [Kr])))) cO dc I I)<|rS (gF v 0 (vI w) U bP (show ig _ (rd row2a.1 A.length 1 (A.map iC)).holds from (fun w hw=>(dQ 2 U xb) w hw _ (bq C hrow2a (by simp [Kr])))) Bt U dc U)<|aq aj 6 ?_;refine bK (t:=96) U (fun O=>?_) (fun O=>?_)
   ·refine aq aj 12 ?_;have Fn:(vI (((v+1):Nat):Int))=(vI ((v:Int)+1)):=by exact cI I
    refine aL (A9 ⟨((v+1),true),⟨I,by rw [nG hw,← B,O];rfl⟩⟩ _ _ _ U os (cx 11<|aQ U Fn<|cV.nil _) (aB [0,1,2,3,4,5,6,7,8,9,10,11,12,13,14,15]))
   refine aq aj 12 ?_;have GE:(vI (((v+1):Nat):Int))=(vI ((v:Int)+1)):=by exact cI I
   refine aL (A9 ⟨((v+1),(decide (w=i))),⟨I,by rw [nG hw,← B,O];rfl⟩⟩ _ _ _ U os (cx 11<|aQ U GE<|cV.nil _) (aB [0,1,2,3,4,5,6,7,8,9,10,11,12,13,14,15]))
  refine aU aY 1 U<|aq fz 9 ?_;refine bY U (fun D=>?_) (fun D=>?_)
  ·rw [e0] at D;have D0:bv=true:=(by rw [B,show v=A.length by omega,AA8,AAm];exact ⟨i,hm,cR rfl⟩);exact noConfusion (D.symm.trans D0)
  rw [m5] at D;refine aU aY 5 U<|rS (LP (cf.cells (pN j.Race kA kC cA cC bA bC slA slC drA drC heA heC)) 4 U bP U U U)<|ck aj 3 [] (mc 3 U mn) ?_;refine cX (Fp h i t j.Race kA kC az cA cC bA bC slA slC drA drC ha heA heC sd) (aP [5,6,7,8,9,10,11,12,13]) U fun Os B3=>?_;obtain ⟨If,Wb,Qr,T6,R2,T9,T2,R5,Um,R8,VO,Sh,Vh,S2,WN,ac⟩:=Os;cases If;rotate_left 1
  ·obtain ⟨K,⟨T,AA⟩,R⟩:=B3.1 rfl
   try dsimp only [cond_true,cond_false,List.cons_append,List.nil_append]
   exact absurd (K.symm.trans H) dc
  obtain ⟨AB,he⟩:=B3.2 rfl
  try dsimp only at AB he
  subst AB
  try dsimp only [cond_true,cond_false,List.cons_append,List.nil_append]
  refine aU aj 3 U<|AL U vm fun a6=>eM U oa U<|dF aj 7 [] (mc 4 U mn) U<|rS (CL (DV t) (aA) U)<|aq aj 3 ?_;refine bE U (aJ fun W=>?_) (aK fun W=>?_)
  ·exact absurd W H1
  refine aq aY 8 ?_;refine cz (t:=126) U (aH fun Ck=>?_) (aG fun Ck=>?_)
  ·exact absurd S Ck
  refine cr aj 7 hQ U U ?_
  first|rfl|exact c7 Value.bool (decide_eq_true S)|exact c7 Value.bool (decide_eq_true H)|exact c7 Value.bool (decide_eq_true (by rw [show q=j.Race.a_.length by omega]))
 ·try dsimp only
  refine ck aY 2 [] (mc 1 U mn) ?_;refine cX (xw j kA kC az cA cC bA bC slA slC drA drC ha heA heC faA faC prA prC sd) (aP [2,3,4,5,6,7,8,9,10,11,12]) U fun PP IR=>?_;obtain ⟨A7,a0,a9⟩:=PP
  try dsimp only
  have P:=IR
  try dsimp only at P
  refine ck aj 13 [0,1] (mc 3 U (mc 2 U mn)) ?_;refine rS (SX (aW (xs:=[(1,.const (vB true)),(2,.tmp 70)]) (cs:=(aO.cells (aO.mk false true t (dA.mk 0 0 (aX.mk none 0 0))))) U U (aV Kl U)) U U) ?_;refine cX (vh j kA kC az cA cC bA bC slA slC drA drC ha heA heC faA faC prA prC h i (hZ t) none 0 sd (by exact c4 _)) (lZ [4,5,6,7,8,9,10,11,12,13,14]<|aw (vK _ _)<|aA) U fun Pi B7=>?_;obtain ⟨In,Wh,R0,T7,R3,UP,T4,R6,U8,R9,VT,Sz,V6,To,WP,ad⟩:=Pi;cases In;rotate_left 1
  ·obtain ⟨K,⟨T,AA⟩,R⟩:=B7.1 rfl
   try dsimp only [cond_true,cond_false,List.cons_append,List.nil_append]
   exact absurd (K.symm.trans S) dc
  obtain ⟨AB,he⟩:=B7.2 rfl
  try dsimp only at AB he
  subst AB
  try dsimp only [cond_true,cond_false,List.cons_append,List.nil_append]
  refine aU aj 3 U<|AL U vm fun a7=>eM U oa U<|aq aj 9 ?_;refine bK (t:=77) U (aK fun b=>?_) (aJ fun b=>?_)
  ·exact absurd G b
  refine ck aj 10 [] (mc 4 U mn) ?_;refine bY U (aK fun A8=>?_) (aJ fun A8=>?_)
  ·exact absurd (uw G) I
  refine aq aY 12 ?_;have DA:=uw G;obtain ⟨A,C⟩:=ay (eD j) ((h).toNat) I;obtain ⟨row2a,hrow2a⟩:=ay A7 ((h).toNat) I;have hrow2m:(zipWith oU (eD j) A7)[(h).toNat]? =some (oU A row2a):=cE C hrow2a;refine rS (IA ((h).toNat) U (ao (n:=(eD j).length) 1 U (iO P)) wv dc I I)<|rS (gF ((h).toNat) 0 (vS row2a.1 A.length row2a.2) U bP (ao (n:=(eD j).length) 1 U (iO P)) hrow2m U dc U) ?_;have DR:=wU G _ (aF C);obtain rfl:A=row:=m3 (C.symm.trans A4);refine aq aj 5 ?_;have E:(0≤A.length)∧(false=(A.take 0).any (fun w=>decide (w=i))):=by exact ⟨c4 _,sm⟩
  refine bw (ι:={z:Nat×Bool // (z.1≤A.length)∧(z.2=(A.take z.1).any (fun w=>decide (w=i)))}) [4,7,9,10,11,12,14,15,89,90] [0,1,2,3,4,5,6,7,8,9,10,11,12,13,14,15] U U (fun z=>[(16,(vB z.1.2)),(91,(vI (z.1.1:Int)))]) (fun z=>[]) (fun _=>rfl) (fun _=>rfl) (fun z=>A.length-z.1.1) ⟨(0,false),E⟩ (aN U) (aB [0,1,2,3,4,5,6,7,8,9,10,11,12,13,14,15]) ?_;clear E;rintro ⟨⟨v,bv⟩,⟨J,B⟩⟩ J203 BD
  try dsimp only at J B
  try dsimp only
  refine aq bT 6 ?_;refine bE U (aH fun Li=>?_) (aG fun Li=>?_)
  ·refine aU aY 1 U<|aq fz 9 ?_;refine bE U (fun D=>?_) (fun D=>?_)
   ·rw [m5] at D;exfalso;rw [B,AAm] at D;obtain ⟨w,hw,Xy⟩:=D;exact hm (s6 Xy▸ACL hw)
   rw [e0] at D;refine cr aY 11 hQ U U ?_
   first|rfl|exact c7 Value.bool (decide_eq_true S)|exact c7 Value.bool (decide_eq_true H)|exact c7 Value.bool (decide_eq_true (by rw [show q=j.Race.a_.length by omega]))
  refine aq aY 6 ?_;obtain ⟨w,hw⟩:=ay A v I;have Bt:=bx iC hw;refine rS (IA v U (show ig _ (rd row2a.1 A.length 1 (A.map iC)).holds from (fun w hw=>(dQ 2 U xb) w hw _ (bq C hrow2a (by simp [Kr])))) cO dc I I)<|rS (gF v 0 (vI w) U bP (show ig _ (rd row2a.1 A.length 1 (A.map iC)).holds from (fun w hw=>(dQ 2 U xb) w hw _ (bq C hrow2a (by simp [Kr])))) Bt U dc U)<|aq aj 6 ?_;refine bK (t:=96) U (fun O=>?_) (fun O=>?_)
  ·refine aq aj 12 ?_;have GT:(vI (((v+1):Nat):Int))=(vI ((v:Int)+1)):=by exact cI I
   refine aL (BD ⟨((v+1),true),⟨I,by rw [nG hw,← B,O];rfl⟩⟩ _ _ _ U os (cx 11<|aQ U GT<|cV.nil _) (aB [0,1,2,3,4,5,6,7,8,9,10,11,12,13,14,15]))
  refine aq aj 12 ?_;have Go:(vI (((v+1):Nat):Int))=(vI ((v:Int)+1)):=by exact cI I
  refine aL (BD ⟨((v+1),(decide (w=i))),⟨I,by rw [nG hw,← B,O];rfl⟩⟩ _ _ _ U os (cx 11<|aQ U Go<|cV.nil _) (aB [0,1,2,3,4,5,6,7,8,9,10,11,12,13,14,15]))
 try dsimp only
 refine ck aY 2 [] (mc 1 U mn) ?_;refine cX (xw j kA kC az cA cC bA bC slA slC drA drC ha heA heC faA faC prA prC sd) (aP [2,3,4,5,6,7,8,9,10,11,12]) U fun ae NE=>?_;obtain ⟨Ci,bm,bs⟩:=ae
 try dsimp only
 have P:=NE
 try dsimp only at P
 refine ck aj 13 [0,1] (mc 3 U (mc 2 U mn)) ?_;refine rS (SX (aW (xs:=[(1,.const (vB true)),(2,.tmp 70)]) (cs:=(aO.cells (aO.mk false true t (dA.mk 0 0 (aX.mk none 0 0))))) U U (aV Kl U)) U U) ?_;refine cX (vh j kA kC az cA cC bA bC slA slC drA drC ha heA heC faA faC prA prC h i (hZ t) none 0 sd (by exact c4 _)) (lZ [4,5,6,7,8,9,10,11,12,13,14]<|aw (vK _ _)<|aA) U fun af Di=>?_;obtain ⟨Ne,bN,f,y,g,AC,x,l,AO,o,Ap,p,A0,s,A1,A5⟩:=af;cases Ne
 ·obtain ⟨AB,he⟩:=Di.2 rfl
  try dsimp only at AB he
  subst AB
  try dsimp only [cond_true,cond_false,List.cons_append,List.nil_append]
  exact absurd S he
 obtain ⟨K,⟨T,AA⟩,R⟩:=Di.1 rfl
 try dsimp only [cond_true,cond_false,List.cons_append,List.nil_append]
 refine aU aj 3 U<|AL U vm fun bo=>eM U oa U<|aq aj 5 ?_
 try dsimp only at K T AA R
 have Zw:(pO j.Race.ax h i (hZ t))=(jL j.Race.ax h i t):=c7 cN.ax (JI L3);rw [Zw] at R ⊢;have A3:=T;have bb:=AA;have L:=R;have V:gI (gN j.Race h i t) _ _:=gI.rep C3 T AA R;have YT:=(It B9).1;have L2:=LR (h:=h) (i:=i) (t:=t) YT;refine aq aY 4 ?_;refine bK (t:=77) U (aK fun b=>?_) (aJ fun b=>?_)
 ·exact absurd G b
 refine ck aj 10 [] (mc 12 U mn) ?_;refine bY U (aK fun A8=>?_) (aJ fun A8=>?_)
 ·exact absurd (uw G) I
 refine aq aY 12 ?_;have DA:=uw G;obtain ⟨A,C⟩:=ay (eD j) ((h).toNat) I;obtain ⟨row2a,hrow2a⟩:=ay Ci ((h).toNat) I;have hrow2m:(zipWith oU (eD j) Ci)[(h).toNat]? =some (oU A row2a):=cE C hrow2a;refine rS (IA ((h).toNat) U (ao (n:=(eD j).length) 9 U (iO P)) wv dc I I)<|rS (gF ((h).toNat) 0 (vS row2a.1 A.length row2a.2) U bP (ao (n:=(eD j).length) 9 U (iO P)) hrow2m U dc U) ?_;have DR:=wU G _ (aF C);obtain rfl:A=row:=m3 (C.symm.trans A4);refine aq aj 5 ?_;have E:(0≤A.length)∧(false=(A.take 0).any (fun w=>decide (w=i))):=by exact ⟨c4 _,sm⟩
 refine bw (ι:={z:Nat×Bool // (z.1≤A.length)∧(z.2=(A.take z.1).any (fun w=>decide (w=i)))}) [4,7,9,10,11,12,14,15,89,90] [0,1,2,3,4,5,6,7,8,9,10,11,12,13,14,15,16,17,18,19,20,21,22,23] U U (fun z=>[(16,(vB z.1.2)),(91,(vI (z.1.1:Int)))]) (fun z=>[]) (fun _=>rfl) (fun _=>rfl) (fun z=>A.length-z.1.1) ⟨(0,false),E⟩ (aN U) (aB [0,1,2,3,4,5,6,7,8,9,10,11,12,13,14,15,16,17,18,19,20,21,22,23]) ?_;clear E;rintro ⟨⟨v,bv⟩,⟨J,B⟩⟩ J41 C0
 try dsimp only at J B
 try dsimp only
 refine aq bT 6 ?_;refine bY U (aG fun W1=>?_) (aH fun W1=>?_)
 ·refine aq aY 6 ?_;obtain ⟨w,hw⟩:=ay A v I;have Bt:=bx iC hw;refine rS (IA v U (show ig _ (rd row2a.1 A.length 1 (A.map iC)).holds from (fun w hw=>(dQ 10 U xb) w hw _ (bq C hrow2a (by simp [Kr])))) cO dc I I)<|rS (gF v 0 (vI w) U bP (show ig _ (rd row2a.1 A.length 1 (A.map iC)).holds from (fun w hw=>(dQ 10 U xb) w hw _ (bq C hrow2a (by simp [Kr])))) Bt U dc U)<|aq aj 6 ?_;refine bK (t:=96) U (fun O=>?_) (fun O=>?_)
  ·refine aq aj 12 ?_;have Lk:(vI (((v+1):Nat):Int))=(vI ((v:Int)+1)):=by exact cI I
   refine aL (C0 ⟨((v+1),true),⟨I,by rw [nG hw,← B,O];rfl⟩⟩ _ _ _ U os (cx 11<|aQ U Lk<|cV.nil _) (aB [0,1,2,3,4,5,6,7,8,9,10,11,12,13,14,15,16,17,18,19,20,21,22,23]))
  refine aq aj 12 ?_;have Lo:(vI (((v+1):Nat):Int))=(vI ((v:Int)+1)):=by exact cI I
  refine aL (C0 ⟨((v+1),(decide (w=i))),⟨I,by rw [nG hw,← B,O];rfl⟩⟩ _ _ _ U os (cx 11<|aQ U Lo<|cV.nil _) (aB [0,1,2,3,4,5,6,7,8,9,10,11,12,13,14,15,16,17,18,19,20,21,22,23]))
 refine aU aY 1 U<|aq fz 9 ?_;refine bY U (fun D=>?_) (fun D=>?_)
 ·rw [e0] at D;have D0:bv=true:=(by rw [B,show v=A.length by omega,AA8,AAm];exact ⟨i,hm,cR rfl⟩);exact noConfusion (D.symm.trans D0)
 rw [m5] at D;refine aU aY 5 U<|rS (LP (cf.cells (pN j.Race kA kC cA cC bA bC slA slC drA drC heA heC)) 12 U bP U U U)<|ck aj 3 [] (mc 11 U mn) ?_;refine cX (Fp h i t j.Race kA kC az cA cC bA bC slA slC drA drC ha heA heC sd) (aP [13,14,15,16,17,18,19,20,21]) U fun ah Dn=>?_;obtain ⟨Ob,ba,Iw,J9,I7,K0,J8,J2,K4,J3,K5,J4,K8,J5,LA,NP⟩:=ah;cases Ob
 ·obtain ⟨AB,he⟩:=Dn.2 rfl
  try dsimp only at AB he
  subst AB
  try dsimp only [cond_true,cond_false,List.cons_append,List.nil_append]
  exact absurd H he
 obtain ⟨K,⟨T,AA⟩,R⟩:=Dn.1 rfl
 try dsimp only [cond_true,cond_false,List.cons_append,List.nil_append]
 refine aU aj 3 U<|AL U vm fun bp=>eM U oa U<|aq aj 5 ?_
 try dsimp only at K T AA R
 have L0:=T;have bc:=AA;have C2:=R;have G3:gI (gN j.Race h i t) _ _:=gI.rep C3 T AA R;refine dF aY 2 [] (mc 20 U mn) U<|rS (CL (DV t) (aA) U)<|aq aj 3 ?_;refine bY U (aK fun W=>?_) (aJ fun W=>?_)
 ·exact absurd H1 W
 refine aU aY 5 U<|rS (LP (cf.cells (pN j.Race kA kC cA cC bA bC slA slC drA drC heA heC)) 21 U bP U U U)<|ck aj 3 [] (mc 20 U mn) ?_;refine cX (Mp h i t j.Race kA kC az cA cC bA bC slA slC drA drC ha heA heC sd) (aP [22,23,24,25,26,27,28,29,30]) U fun al bi=>?_;obtain ⟨bn,bt⟩:=al
 try dsimp only
 refine aq aj 10 ?_;have Z_:=Pk H;rw [Z_];refine aU aj 1 U<|rS (SX (cm (r:= .bool false) U U U nx) U U)<|aU aj 2 U<|rS (SX (cm (r:= .bool false) U U U nx) U U)<|aq aj 6 ?_;refine bK (t:=149) U (aK fun Cp=>?_) (aJ fun Cp=>?_)
 ·exact absurd H Cp
 refine ck aj 2 [0,1] (mc 10 U (mc 1 U mn)) ?_;refine rS (CL (G2 (gN j.Race h i t) f y x g AC l AO o Ap p A0 A5 s A1 (gN j.Race h i t) Iw J9 J8 I7 K0 J2 K4 J3 K5 J4 K8 NP J5 LA (by exact V) (by exact G3) (by exact L2) (by exact L2)) (aw (ao (n:=j.Race.ar.bQ.length) 11 U (by first|(simp;done)|(rw [c3];rfl)))<|aw (ao (n:=j.Race.ar.aC.length) 12 U (il A3))<|aw (dQ 13 U kF)<|aw (ao (n:=j.Race.ar.ai.length) 14 U (by first|(simp;done)|(rw [c3];rfl)))<|aw (ao (n:=j.Race.a_.length) 15 U (by first|(simp;done)|(rw [c3];rfl)))<|aw (ao (n:=j.Race.db.length) 16 U (by first|(simp;done)|(rw [c3];rfl)))<|aw (ao (n:=(jL j.Race.ax h i t).length) 17 U (e8 L.1))<|aw (lH 18 U L)<|aw (ao (n:=j.Race.ar.bQ.length) 2 U (by first|(simp;done)|(rw [c3];rfl)))<|aw (ao (n:=j.Race.ar.aC.length) 3 U (il L0))<|aw (dQ 4 U kF)<|aw (ao (n:=j.Race.ar.ai.length) 5 U (by first|(simp;done)|(rw [c3];rfl)))<|aw (ao (n:=j.Race.a_.length) 6 U (by first|(simp;done)|(rw [c3];rfl)))<|aw (ao (n:=j.Race.db.length) 7 U (by first|(simp;done)|(rw [c3];rfl)))<|aw (ao (n:=(jL j.Race.ax h i t).length) 8 U (e8 C2.1))<|aw (lH 9 U C2)<|aA) U) ?_;refine aq aj 4 ?_;refine bY U (aK fun Cx=>?_) (aJ fun Cx=>?_)
 ·exact absurd U Cx
 refine ck aY 18 [] (mc 22 U mn) ?_;have E:(0≤j.Race.a_.length):=by exact c4 _
 refine bw (ι:={z:Nat // (z≤j.Race.a_.length)}) [4,9,10,11,14,21,157,158] [0,2,3,4,5,6,7,8,9,10,11,12,13,14,15,16,17,18,19,20,22,23,24,25,26,27,28,29,30,31,32,33] U U (fun z=>[(23,(vI (((jV (ov j.Race h i t) z.1).length:Nat):Int))),(159,(vI (z.1:Int)))]) (fun z=>[]) (fun _=>rfl) (fun _=>rfl) (fun z=>j.Race.a_.length-z.1) ⟨0,E⟩ (aN U) (aB [0,2,3,4,5,6,7,8,9,10,11,12,13,14,15,16,17,18,19,20,22,23,24,25,26,27,28,29,30,31,32,33]) ?_;clear E;rintro ⟨q,Pl⟩ J83 A2
 try dsimp only
 have b1:(jV (ov j.Race h i t) q).length≤q:=Nv;refine aq bT 6 ?_;refine bE U (aH fun La=>?_) (aG fun La=>?_)
 ·refine aU aY 1 U<|cr fz 15 hQ U U ?_
  first|rfl|exact c7 Value.bool (decide_eq_true S)|exact c7 Value.bool (decide_eq_true H)|exact c7 Value.bool (decide_eq_true (by rw [show q=j.Race.a_.length by omega]))
 refine aU aY 13 U<|rS (LP (cf.cells (pN j.Race kA kC cA cC bA bC slA slC drA drC heA heC)) 20 U bP U U U)<|aq aj 1 ?_;refine cX (IC (q:Int) j.Race kA kC az cA cC bA bC slA slC drA drC ha heA heC sd) (aP [21,22,23,24,25,26,27,28,29]) U fun am bk=>?_;obtain ⟨J6,LE⟩:=am
 try dsimp only
 refine ck aj 11 [] (mc 10 U mn) ?_;refine cX (IC (q:Int) (gN j.Race h i t) f y x g AC l AO o Ap p A0 A5 s A1 (by exact V)) (gM 22 U U<|aw (ao (n:=j.Race.ar.bQ.length) 11 U (by first|(simp;done)|(rw [c3];rfl)))<|aw (ao (n:=j.Race.ar.aC.length) 12 U (il A3))<|aw (dQ 13 U kF)<|aw (ao (n:=j.Race.ar.ai.length) 14 U (by first|(simp;done)|(rw [c3];rfl)))<|aw (ao (n:=j.Race.a_.length) 15 U (by first|(simp;done)|(rw [c3];rfl)))<|aw (ao (n:=j.Race.db.length) 16 U (by first|(simp;done)|(rw [c3];rfl)))<|aw (ao (n:=(jL j.Race.ax h i t).length) 17 U (e8 L.1))<|aw (lH 18 U L)<|aA) U fun an bl=>?_;obtain ⟨J7,LS⟩:=an
 try dsimp only
 refine aq aj 14 ?_;refine cz (t:=179) U (aH fun M=>?_) (aG fun M=>?_)
 ·refine aq aj 10 ?_;refine nV (ι:=Unit) [4,9,10,11,14,21,24,25,26,27,28,157,158,159] [0,1,2,3,4,5,6,7,8,9,10,11,12,13,14,15,16,17,18,19,20,21,22,23,24,25,26,27,28,29,30,31,32,33] U U (fun z=>[(23,(vI (((jV (ov j.Race h i t) (q+1)).length:Nat):Int))),(29,(vB (ov j.Race h i t q)))]) (fun z=>[]) (fun _=>rfl) (fun _=>rfl) ?_ fun K105 Do=>?_
  ·intro _
   try dsimp only
   refine aq aY 2 ?_;have BP:=wM (k:=(q:Int)) H;rw [BP];refine aq aY 5 ?_;refine bK (t:=193) U (aK fun X=>?_) (aJ fun X=>?_)
   ·exact absurd U X
   refine aq aj 3 ?_;refine rS (CL (Ab (kx j.Race (q:Int)) J6 LE (kx (gN j.Race h i t) (q:Int)) J7 LS (by exact c6 rF I) (by exact c6 rF (by show j.Race.a_.length≤_;omega))) (aw (ao (n:=(kx j.Race (q:Int)).length) 1 U sm)<|aw (ao (n:=(kx (gN j.Race h i t) (q:Int)).length) 0 U sm)<|aA) U) ?_;refine aU aj 1 U<|rS (BI U (Qv Wt))<|aq aj 3 ?_;refine bY U (fun F=>?_) (fun F=>?_)
   ·rw [e0] at F;rw [JF H I] at F;simp at F
   rw [m5] at F;refine aU aY 5 U<|rS (LP (cf.cells (pN j.Race kA kC cA cC bA bC slA slC drA drC heA heC)) 22 U bP U U U)<|aq aj 1 ?_;refine rS (CL (Iq (q:Int) j.Race kA kC az cA cC bA bC slA slC drA drC ha heA heC sd) (aP [23,24,25,26,27,28,29,30,31]) U) ?_;refine aU aj 3 U<|AL U dD fun a3=>eM U cK U<|ck aj 7 [] (mc 12 U mn) ?_;refine rS (CL (Iq (q:Int) (gN j.Race h i t) f y x g AC l AO o Ap p A0 A5 s A1 (by exact V)) (gM 24 U U<|aw (ao (n:=j.Race.ar.bQ.length) 13 U (by first|(simp;done)|(rw [c3];rfl)))<|aw (ao (n:=j.Race.ar.aC.length) 14 U (il A3))<|aw (dQ 15 U kF)<|aw (ao (n:=j.Race.ar.ai.length) 16 U (by first|(simp;done)|(rw [c3];rfl)))<|aw (ao (n:=j.Race.a_.length) 17 U (by first|(simp;done)|(rw [c3];rfl)))<|aw (ao (n:=j.Race.db.length) 18 U (by first|(simp;done)|(rw [c3];rfl)))<|aw (ao (n:=(jL j.Race.ax h i t).length) 19 U (e8 L.1))<|aw (lH 20 U L)<|aA) U) ?_;refine aU aj 3 U<|AL U dD fun a4=>eM U cK U<|aq aj 5 ?_;rw [BP];refine aq aj 4 ?_;refine cz (t:=217) U (aJ fun Y=>?_) (aK fun Y=>?_)
   ·refine aq aj 19 ?_;have Fd:(vI (((q+1):Nat):Int))=(vI ((q:Int)+1)):=by exact cI I
    refine aL (A2 ⟨(q+1),(by first|omega|(simp only [];omega))⟩ _ _ _ U os (cx 9<|aQ U Fd<|cV.nil _) (aB [4,5,6,7,8,9,10,11,12,13,14,15,16,17,18,19,20,21,22,23,24,25,26,27,28,29,30,31,32,33,34,35]))
   refine aq aj 4 ?_;refine bK (t:=221) U (aK fun Z=>?_) (aJ fun Z=>?_)
   ·exact absurd U Z
   refine dF aj 2 [0,1] (mc 1 U (mc 0 U mn)) U<|rS (BI U (E3 _ _ (yP j.Race (q:Int)) (yP (gN j.Race h i t) (q:Int))))<|aq aj 4 ?_;refine bY U (aK fun a=>?_) (aJ fun a=>?_)
   ·exact absurd (Fc H Y).symm a
   refine aq aY 7 ?_;have FS:(vI (((q+1):Nat):Int))=(vI ((q:Int)+1)):=by exact cI I
   refine aL (A2 ⟨(q+1),(by first|omega|(simp only [];omega))⟩ _ _ _ U os (cx 9<|aQ U FS<|cV.nil _) (aB [4,5,6,7,8,9,10,11,12,13,14,15,16,17,18,19,20,21,22,23,24,25,26,27,28,29,30,31,32,33,34,35]))
  refine aq bT 7 ?_;have c:(vI (((jV (ov j.Race h i t) (q+1)).length:Nat):Int))=(vI (((jV (ov j.Race h i t) q).length:Nat):Int)):=by first|exact cI (vc ((wc I hu).symm.trans (cR N)))|exact cI (oW (fun z=>N (s6 ((wc I hu).trans z))))|exact cI (oW (fun z=>noConfusion ((xO I M).trans z)))
  have d:(vB (ov j.Race h i t q))=(vB false):=by first|exact cB (wc I hu).symm|exact cB (xO I M).symm
  refine aL (j7 (cx 14<|aQ U c<|aQ U d<|cV.nil _) (aB [0,1,2,3,4,5,6,7,8,9,10,11,12,13,14,15,16,17,18,19,20,21,22,23,24,25,26,27,28,29,30,31,32,33]) (Do ()))
 refine aq aj 2 ?_;obtain ⟨u,hu⟩:=ay (jV (ov j.Race h i t) j.Race.a_.length) ((jV (ov j.Race h i t) q).length) I;have aD:=bx iC hu;refine rS (IA ((jV (ov j.Race h i t) q).length) U (ao (n:=(jV (ov j.Race h i t) j.Race.a_.length).length) 2 U sm) cO dc I I)<|rS (gF ((jV (ov j.Race h i t) q).length) 0 (vI u) U bP (ao (n:=(jV (ov j.Race h i t) j.Race.a_.length).length) 2 U sm) aD U dc U)<|aq aj 6 ?_;refine nV (ι:=Unit) [4,9,10,11,14,21,24,25,26,27,28,157,158,159] [0,1,2,3,4,5,6,7,8,9,10,11,12,13,14,15,16,17,18,19,20,21,22,23,24,25,26,27,28,29,30,31,32,33] U U (fun z=>[(23,(vI (((jV (ov j.Race h i t) (q+1)).length:Nat):Int))),(29,(vB (ov j.Race h i t q)))]) (fun z=>[]) (fun _=>rfl) (fun _=>rfl) ?_ fun K99 C1=>?_
 ·intro _
  try dsimp only
  refine aq aY 2 ?_;have BP:=wM (k:=(q:Int)) H;rw [BP];refine aq aY 5 ?_;refine bK (t:=193) U (aK fun X=>?_) (aJ fun X=>?_)
  ·exact absurd U X
  refine aq aj 3 ?_;refine rS (CL (Ab (kx j.Race (q:Int)) J6 LE (kx (gN j.Race h i t) (q:Int)) J7 LS (by exact c6 rF I) (by exact c6 rF (by show j.Race.a_.length≤_;omega))) (aw (ao (n:=(kx j.Race (q:Int)).length) 1 U sm)<|aw (ao (n:=(kx (gN j.Race h i t) (q:Int)).length) 0 U sm)<|aA) U) ?_;refine aU aj 1 U<|rS (BI U (Qv Wt))<|aq aj 3 ?_;refine bY U (fun F=>?_) (fun F=>?_)
  ·rw [e0] at F;rw [JF H I] at F;simp at F
  rw [m5] at F;refine aU aY 5 U<|rS (LP (cf.cells (pN j.Race kA kC cA cC bA bC slA slC drA drC heA heC)) 22 U bP U U U)<|aq aj 1 ?_;refine rS (CL (Iq (q:Int) j.Race kA kC az cA cC bA bC slA slC drA drC ha heA heC sd) (aP [23,24,25,26,27,28,29,30,31]) U) ?_;refine aU aj 3 U<|AL U dD fun a1=>eM U cK U<|ck aj 7 [] (mc 12 U mn) ?_;refine rS (CL (Iq (q:Int) (gN j.Race h i t) f y x g AC l AO o Ap p A0 A5 s A1 (by exact V)) (gM 24 U U<|aw (ao (n:=j.Race.ar.bQ.length) 13 U (by first|(simp;done)|(rw [c3];rfl)))<|aw (ao (n:=j.Race.ar.aC.length) 14 U (il A3))<|aw (dQ 15 U kF)<|aw (ao (n:=j.Race.ar.ai.length) 16 U (by first|(simp;done)|(rw [c3];rfl)))<|aw (ao (n:=j.Race.a_.length) 17 U (by first|(simp;done)|(rw [c3];rfl)))<|aw (ao (n:=j.Race.db.length) 18 U (by first|(simp;done)|(rw [c3];rfl)))<|aw (ao (n:=(jL j.Race.ax h i t).length) 19 U (e8 L.1))<|aw (lH 20 U L)<|aA) U) ?_;refine aU aj 3 U<|AL U dD fun a2=>eM U cK U<|aq aj 5 ?_;rw [BP];refine aq aj 4 ?_;refine cz (t:=217) U (aJ fun Y=>?_) (aK fun Y=>?_)
  ·refine aq aj 19 ?_;have d:(vI (((q+1):Nat):Int))=(vI ((q:Int)+1)):=by exact cI I
   refine aL (A2 ⟨(q+1),(by first|omega|(simp only [];omega))⟩ _ _ _ U os (cx 9<|aQ U d<|cV.nil _) (aB [4,5,6,7,8,9,10,11,12,13,14,15,16,17,18,19,20,21,22,23,24,25,26,27,28,29,30,31,32,33,34,35]))
  refine aq aj 4 ?_;refine bK (t:=221) U (aK fun Z=>?_) (aJ fun Z=>?_)
  ·exact absurd U Z
  refine dF aj 2 [0,1] (mc 1 U (mc 0 U mn)) U<|rS (BI U (E3 _ _ (yP j.Race (q:Int)) (yP (gN j.Race h i t) (q:Int))))<|aq aj 4 ?_;refine bY U (aK fun a=>?_) (aJ fun a=>?_)
  ·exact absurd (Fc H Y).symm a
  refine aq aY 7 ?_;have c:(vI (((q+1):Nat):Int))=(vI ((q:Int)+1)):=by exact cI I
  refine aL (A2 ⟨(q+1),(by first|omega|(simp only [];omega))⟩ _ _ _ U os (cx 9<|aQ U c<|cV.nil _) (aB [4,5,6,7,8,9,10,11,12,13,14,15,16,17,18,19,20,21,22,23,24,25,26,27,28,29,30,31,32,33,34,35]))
 refine aq bT 5 ?_;refine bE U (aH fun N=>?_) (aG fun N=>?_)
 ·refine aq aY 1 ?_;have Eq:(vI (((jV (ov j.Race h i t) (q+1)).length:Nat):Int))=(vI (((jV (ov j.Race h i t) q).length:Nat):Int)):=by first|exact cI (vc ((wc I hu).symm.trans (cR N)))|exact cI (oW (fun z=>N (s6 ((wc I hu).trans z))))|exact cI (oW (fun z=>noConfusion ((xO I M).trans z)))
  have Es:(vB (ov j.Race h i t q))=(vB (decide (u=(q:Int)))):=by first|exact cB (wc I hu).symm|exact cB (xO I M).symm
  refine aL (j7 (cx 14<|aQ U Eq<|aQ U Es<|cV.nil _) (aB [0,1,2,3,4,5,6,7,8,9,10,11,12,13,14,15,16,17,18,19,20,21,22,23,24,25,26,27,28,29,30,31,32,33]) (C1 ()))
 refine aq aY 5 ?_;have EQ:(vI (((jV (ov j.Race h i t) (q+1)).length:Nat):Int))=(vI ((((jV (ov j.Race h i t) q).length:Nat):Int)+1)):=by first|exact cI (vc ((wc I hu).symm.trans (cR N)))|exact cI (oW (fun z=>N (s6 ((wc I hu).trans z))))|exact cI (oW (fun z=>noConfusion ((xO I M).trans z)))
 have EU:(vB (ov j.Race h i t q))=(vB (decide (u=(q:Int)))):=by first|exact cB (wc I hu).symm|exact cB (xO I M).symm
 refine aL (j7 (cx 14<|aQ U EQ<|aQ U EU<|cV.nil _) (aB [0,1,2,3,4,5,6,7,8,9,10,11,12,13,14,15,16,17,18,19,20,21,22,23,24,25,26,27,28,29,30,31,32,33]) (C1 ()))
end
section
open Go.RowKit
def fV {α:Type} (cells:α→List Value) (sz:Nat) (R:World→α→Prop) (w:World) (s:aX):Prop:= ∃ l:List α,s.n=l.length∧(rd s.a l.length sz (l.map cells)).holds w∧(∀ x∈l,R w x)∧l.length≤maxLen∧s.n≤s.c
theorem yE {w:World} {R:World→cP→Prop}: ∀ {l:List dE},(∀ x∈l,fV cP.cells 3 R w x.bo)→ ∃ (ms:List aS) (az:List RA),l.map dE.cells=zipWith aS.cells ms az∧ms.length=l.length∧az.length=l.length∧(∀ X∈bB aS.lf ms az,X.holds w)∧
 (∀ (k:Nat) m (a:RA),ms[k]? =some m→az[k]? =some a→m.bo.length≤a.2∧m.bo.length≤9223372036854775807)∧ms.map (fun m=>m.dI)=l.map (fun x=>x.dI)∧ ∀ (k:Nat) m y,ms[k]? =some m→y∈m.bo→R w y
 |[],_=>⟨[],[],rfl,rfl,rfl,(fun X hX=>by cases hX),(fun k m a h=>by simp at h),rfl,(fun k m y h=>by simp at h)⟩
 |x::l,h=>by
  obtain ⟨ms,az,E,F,G,H,AA,J,K⟩:=yE (fun y hy=>h y (dk _ hy));obtain ⟨sy,A,B,C,D,L⟩:=h x sm;have e4':sy.length≤9223372036854775807:=D;refine ⟨⟨x.dI,sy⟩::ms,(x.bo.a,x.bo.c)::az,?_,by simp [F],by simp [G],fun X hX=>?_,fun k m a hm ha=>?_,by simp [J],fun k m y hm hy=>?_⟩
  ·obtain ⟨dr,⟨a,n,c⟩⟩:=x;simp only at A;subst A;simp only [m2,u5,E];rfl
  ·rcases dZ.1 hX with hX|hX
   ·simp only [aS.lf,bU] at hX;subst hX;exact B
   ·exact H X hX
  ·cases k with
   |zero=>
    simp only [ACC,k4] at hm ha;subst hm ha;exact ⟨by simp only;omega,e4'⟩
   |succ k=>exact AA k m a (by simpa using hm) (by simpa using ha)
  ·cases k with
   |zero=>
    simp only [ACC,k4] at hm;subst hm;exact C y hy
   |succ k=>exact K k m y (by simpa using hm) hy
theorem Mg {s:bV} (h1:fV ag.cells 9 R1 w s.bQ.lL) (hs:∀ x,R1 w x→0≤x.gu∧x.gu≤255) (h2:fV dE.cells 2 R2 w s.aC) (hc:∀ x,R2 w x→fV cP.cells 3 R4 w x.bo) (h3:fV df.cells 4 R3 w s.ai):
 ∃ (l:bf) (az:List RA) (kA:OA) (kC:Nat) (cA:OA) (cC:Nat) (bA:OA) (bC:Nat),s=bV.mk (aZ.mk (aX.mk kA l.bQ.length kC)) l.g7 (aX.mk cA l.aC.length cC) (aX.mk bA l.ai.length bC) l.b_ l.eZ l.dp∧wK l az∧
  ((rd kA l.bQ.length 9 (l.bQ.map ag.cells)).holds w∧(rd cA l.aC.length 2 (zipWith aS.cells l.aC az)).holds w∧(iU (bB aS.lf l.aC az)).holds w∧(rd bA l.ai.length 4 (l.ai.map df.cells)).holds w)∧l.g7=s.g7∧l.b_=s.b_∧l.eZ=s.eZ∧l.dp=s.dp:=by
 obtain ⟨⟨⟨ka,kn,kc⟩⟩,fa,⟨ca,cn,cc⟩,⟨ba,bn,bc⟩,fi,fk,mi⟩:=s;obtain ⟨ts,E,M,N,O,T⟩:=h1;obtain ⟨cs,B,C,H,AA,R⟩:=h2;obtain ⟨bs,A,F,P,G,Q⟩:=h3;simp only at E B A;subst E B A;obtain ⟨ms,az,J,D,S,K,L,_⟩:=yE (fun x hx=>hc x (H x hx));have t4':ts.length≤9223372036854775807:=O;have c4':cs.length≤9223372036854775807:=AA;have b4':bs.length≤9223372036854775807:=G;refine ⟨⟨ts,fa,ms,bs,fi,fk,mi⟩,az,ka,kc,ca,cc,ba,bc,by simp only [D],⟨t4',fun x hx=>hs x (N x hx),by simp only;omega,by simp only;omega,b4',L⟩,⟨M,?_,K,F⟩,U,U,U,U⟩;simp only at C ⊢;rw [D,← J];exact C
end
section
open Go.RowKit
theorem Bj {w:World} {R:World→aR→Prop}: ∀ {l:List aO},(∀ x∈l,fV aR.cells 2 R w x.bp.ab)→ ∃ (ms:List ak) (az:List RA),l.map aO.cells=zipWith ak.cells ms az∧ms.length=l.length∧az.length=l.length∧(∀ X∈bB ak.lf ms az,X.holds w)∧
 ∀ d∈ms,d.bp.ab.length≤9223372036854775807
 |[],_=>⟨[],[],rfl,rfl,rfl,(fun X hX=>by cases hX),fun d h=>by cases h⟩
 |x::l,h=>by
  obtain ⟨ms,az,D,E,F,G,H⟩:=Bj (fun y hy=>h y (dk _ hy));obtain ⟨sg,A,B,AA,C,J⟩:=h x sm;have e4':sg.length≤9223372036854775807:=C;refine ⟨⟨x.Out,x.cZ,x.Time,⟨x.bp.Start,x.bp.hP,sg⟩⟩::ms,(x.bp.ab.a,x.bp.ab.c)::az,?_,by simp [E],by simp [F],fun X hX=>?_,fun d hd=>?_⟩
  ·obtain ⟨o,f,t,⟨st,nw,⟨a,n,c⟩⟩⟩:=x;simp only at A;subst A;simp only [m2,u5,D];rfl
  ·rcases dZ.1 hX with hX|hX
   ·simp only [ak.lf,bU] at hX;subst hX;exact B
   ·exact G X hX
  ·rcases bI.1 hd with rfl|hd
   ·exact e4'
   ·exact H d hd
theorem Bd {w:World} {R2:World→aO→Prop} {R:World→aR→Prop} (hc: ∀ x,R2 w x→fV aR.cells 2 R w x.bp.ab): ∀ {l:List aX},(∀ x∈l,fV aO.cells 7 R2 w x)→ ∃ (ms:List (List ak)) (ha:List cq),(l.map fun s=>[vS s.a s.n s.c])=zipWith di ms ha∧ms.length=l.length∧ha.length=l.length∧(∀ X∈bB nm ms ha,X.holds w)∧
 ∀ (k:Nat) h (a:cq),ms[k]? =some h→ha[k]? =some a→h.length≤9223372036854775807∧a.2.length=h.length∧ ∀ d∈h,d.bp.ab.length≤9223372036854775807
 |[],_=>⟨[],[],rfl,rfl,rfl,(fun X hX=>by cases hX),(fun k h a q=>by simp at q)⟩
 |x::l,h=>by
  obtain ⟨ms,ha,J,K,L,M,N⟩:=Bd hc (fun y hy=>h y (dk _ hy));obtain ⟨ds,C,G,H,AA,P⟩:=h x sm;obtain ⟨dm,az,D,B,O,E,F⟩:=Bj fun y hy=>hc y (H y hy);have e4':ds.length≤9223372036854775807:=AA;refine ⟨dm::ms,((x.a,x.c),az)::ha,?_,by simp [K],by simp [L],fun X hX=>?_,fun k m a hm A=>?_⟩
  ·obtain ⟨a,n,c⟩:=x;simp only at C;subst C;simp only [m2,u5,J,di,B]
  ·rcases dZ.1 hX with hX|hX
   ·unfold nm at hX;rcases bI.1 hX with rfl|hX
    ·simp only;rw [B,← D];exact G
    ·exact E X hX
   ·exact M X hX
  ·cases k with
   |zero=>
    simp only [ACC,k4] at hm A;subst hm A;exact ⟨I,by simp only;omega,F⟩
   |succ k=>exact N k m a (by simpa using hm) (by simpa using A)
theorem Lv {s:cf} (h1:fV ag.cells 9 R1 w s.ar.bQ.lL) (hs:∀ x,R1 w x→0≤x.gu∧x.gu≤255) (h2:fV dE.cells 2 R2 w s.ar.aC) (hc:∀ x,R2 w x→fV cP.cells 3 R4 w x.bo) (h3:fV df.cells 4 R3 w s.ar.ai) (h4:fV iC 1 R5 w s.a_) (h5:fV iC 1 R5 w s.db) (h6:fV (fun s=>[vS s.a s.n s.c]) 1 R6 w s.ax) (h7:∀ x,R6 w x→fV aO.cells 7 R7 w x) (h8:∀ x,R7 w x→fV aR.cells 2 R8 w x.bp.ab):
 ∃ (r:cN) (az:List RA) (ha:List cq) (kA:OA) (kC:Nat) (cA:OA) (cC:Nat) (bA:OA) (bC:Nat) (slA:OA) (slC:Nat) (drA:OA) (drC:Nat) (heA:OA) (heC:Nat),
  s=cf.mk (bV.mk (aZ.mk (aX.mk kA r.ar.bQ.length kC)) r.ar.g7 (aX.mk cA r.ar.aC.length cC) (aX.mk bA r.ar.ai.length bC) r.ar.b_ r.ar.eZ r.ar.dp) (aX.mk slA r.a_.length slC) (aX.mk drA r.db.length drC) r.jz (aX.mk heA r.ax.length heC)∧wZ r az ha∧
  ((rd kA r.ar.bQ.length 9 (r.ar.bQ.map ag.cells)).holds w∧(rd cA r.ar.aC.length 2 (zipWith aS.cells r.ar.aC az)).holds w∧(iU (bB aS.lf r.ar.aC az)).holds w∧(rd bA r.ar.ai.length 4 (r.ar.ai.map df.cells)).holds w∧
   (rd slA r.a_.length 1 (r.a_.map iC)).holds w∧(rd drA r.db.length 1 (r.db.map iC)).holds w∧(rd heA r.ax.length 1 (zipWith di r.ax ha)).holds w∧(iU (bB nm r.ax ha)).holds w):=by
 obtain ⟨ln,⟨sa,sn,sc⟩,⟨da,dn,dc⟩,tu,⟨ea,en,ec⟩⟩:=s;obtain ⟨l,az,kA,kC,cA,cC,bA,bC,e,A,hh,_⟩:=Mg (s:=ln) h1 hs h2 hc h3;subst e;obtain ⟨sl,F,N,T,O,AA⟩:=h4;obtain ⟨dr,B,G,P,H,Q⟩:=h5;obtain ⟨he,D,E,L,M,S⟩:=h6;obtain ⟨ms,ha,AB,C,R,J,K⟩:=Bd h8 (fun x hx=>h7 x (L x hx));simp only at F B D;subst F B D;have s4':sl.length≤9223372036854775807:=O;have d4':dr.length≤9223372036854775807:=H;have q4':he.length≤9223372036854775807:=M;refine ⟨⟨l,sl,dr,tu,ms⟩,az,ha,kA,kC,cA,cC,bA,bC,sa,sc,da,dc,ea,ec,by simp only [C],⟨A,s4',d4',by simp only;omega,by simp only;omega,K⟩,hh.1,hh.2.1,hh.2.2.1,hh.2.2.2,N,G,?_,J⟩;simp only at E ⊢;rw [C,← AB];exact E
end
section
open Go.RowKit
theorem JX {s:km} {R9:World→bL→Prop} {R10:World→cG→Prop} (h1:fV ag.cells 9 R1 w s.Race.ar.bQ.lL) (hs:∀ x,R1 w x→0≤x.gu∧x.gu≤255) (h2:fV dE.cells 2 R2 w s.Race.ar.aC) (hc:∀ x,R2 w x→fV cP.cells 3 R4 w x.bo) (h3:fV df.cells 4 R3 w s.Race.ar.ai) (h4:fV iC 1 R5 w s.Race.a_) (h5:fV iC 1 R5 w s.Race.db) (h6:fV (fun s=>[vS s.a s.n s.c]) 1 R6 w s.Race.ax) (h7:∀ x,R6 w x→fV aO.cells 7 R7 w x) (h8:∀ x,R7 w x→fV aR.cells 2 R8 w x.bp.ab) (h9:fV bL.cells 4 R9 w s.bu) (hk:∀ x,R9 w x→0≤x.Kind∧x.Kind≤255) (h10:fV cG.cells 5 R10 w s.bH):
 ∃ (j:dy) (az:List RA) (ha:List cq) (kA:OA) (kC:Nat) (cA:OA) (cC:Nat) (bA:OA) (bC:Nat) (slA:OA) (slC:Nat) (drA:OA) (drC:Nat) (heA:OA) (heC:Nat) (faA:OA) (faC:Nat) (prA:OA) (prC:Nat),
  s=km.mk (cf.mk (bV.mk (aZ.mk (aX.mk kA j.Race.ar.bQ.length kC)) j.Race.ar.g7 (aX.mk cA j.Race.ar.aC.length cC) (aX.mk bA j.Race.ar.ai.length bC) j.Race.ar.b_ j.Race.ar.eZ j.Race.ar.dp) (aX.mk slA j.Race.a_.length slC) (aX.mk drA j.Race.db.length drC) j.Race.jz (aX.mk heA j.Race.ax.length heC)) (aX.mk faA j.bu.length faC) (aX.mk prA j.bH.length prC) j.ju j.LS∧v7 j az ha∧
  ((l0 kA j.Race.ar.bQ).holds w∧(yS cA j.Race.ar.aC az).holds w∧(iU (bB aS.lf j.Race.ar.aC az)).holds w∧(xP bA j.Race.ar.ai).holds w∧
   (jx slA j.Race.a_).holds w∧(jx drA j.Race.db).holds w∧(CV heA j.Race.ax ha).holds w∧(iU (bB nm j.Race.ax ha)).holds w∧
   (vX faA j.bu).holds w∧(Ct prA j.bH).holds w):=by
 obtain ⟨rc,⟨fa,fn,fc⟩,⟨pa,pn,pc⟩,mi,fe⟩:=s;obtain ⟨r,az,ha,kA,kC,cA,cC,bA,bC,slA,slC,drA,drC,heA,heC,e,A,hm⟩:=Lv (s:=rc) h1 hs h2 hc h3 h4 h5 h6 h7 h8;subst e;obtain ⟨fl,B,D,E,F,AA⟩:=h9;obtain ⟨pr,C,G,J,H,K⟩:=h10;simp only at B C;subst B C;have f4':fl.length≤9223372036854775807:=F;have p4':pr.length≤9223372036854775807:=H;exact ⟨⟨r,fl,pr,mi,fe⟩,az,ha,kA,kC,cA,cC,bA,bC,slA,slC,drA,drC,heA,heC,fa,fc,pa,pc,U,⟨A,f4',p4',fun f hf=>hk f (E f hf)⟩,hm.1,hm.2.1,hm.2.2.1,hm.2.2.2.1,hm.2.2.2.2.1,hm.2.2.2.2.2.1,hm.2.2.2.2.2.2.1,hm.2.2.2.2.2.2.2,D,G⟩
end
section
open Go.ChangeShapes Go.WideShapes Go.ChangeAt Go.RowKit
theorem aaI:Tryz.prog.cellsOf 36=15:=by kernel_rfl
theorem Ze:Tryz.prog.cellsOf 32=11:=by kernel_rfl
theorem Xx:Tryz.prog.cellsOf 28=7:=by kernel_rfl
theorem ZC:Tryz.prog.cellsOf 24=1:=by kernel_rfl
theorem abc:Tryz.prog.cellsOf 22=1:=by kernel_rfl
theorem Zh:Tryz.prog.cellsOf 65=9:=by kernel_rfl
theorem xg:Tryz.prog.cellsOf 3=1:=by kernel_rfl
def vO (w:World) (n:Int):Prop:=tP n
theorem xe:sV Tryz.prog 3 Int iC vO:=VI nZ
theorem H9:Tryz.prog.cellsOf 38=2:=by kernel_rfl
structure HB (w:World) (s:aa):Prop where
 Lo:vO w s.Lo
 Hi:vO w s.Hi
theorem W9:fL Tryz.prog 38=some [(3,0),(3,1)]:=by kernel_rfl
theorem GH:sV Tryz.prog 38 aa aa.cells HB:=fun {H} enc w base sp A fuel cs x h=>by
 obtain ⟨hl,hp⟩:=jt W9 h;obtain ⟨M,O,F⟩:=hp 0 3 0 rfl;obtain ⟨K,B,AA⟩:=xe _ _ _ _ _ _ _ _ F;obtain ⟨N,P,G⟩:=hp 1 3 1 rfl;obtain ⟨L,C,J⟩:=xe _ _ _ _ _ _ _ _ G;refine ⟨⟨K,L⟩,?_,⟨AA,J⟩⟩;have E:=gS (hl.trans H9) (by rw [xg]) C;have D:=cH B (m:=1) (by rw [xg]) E;exact D
theorem cz5:Tryz.prog.cellsOf 5=1:=by kernel_rfl
def Is5 (w:World) (n:Int):Prop:=0≤n∧n≤255
theorem op5:sV Tryz.prog 5 Int P2 Is5:=XO My
structure UO (w:World) (s:ag):Prop where
 Id:vO w s.Id
 jd:HB w s.jd
 kU:HB w s.kU
 eu:HB w s.eu
 gu:Is5 w s.gu
 zZ:vO w s.zZ
theorem aaO:fL Tryz.prog 65=some [(3,0),(38,1),(38,3),(38,5),(5,7),(3,8)]:=by kernel_rfl
theorem ZR:sV Tryz.prog 65 ag ag.cells UO:=fun {H} enc w base sp A fuel cs x h=>by
 obtain ⟨hl,hp⟩:=jt aaO h;obtain ⟨g,o,O⟩:=hp 0 3 0 rfl;obtain ⟨a,B,AA⟩:=xe _ _ _ _ _ _ _ _ O;obtain ⟨i,p,P⟩:=hp 1 38 1 rfl;obtain ⟨b,C,V⟩:=GH _ _ _ _ _ _ _ _ P;obtain ⟨j,q,Q⟩:=hp 2 38 3 rfl;obtain ⟨c,D,W⟩:=GH _ _ _ _ _ _ _ _ Q;obtain ⟨k,r,R⟩:=hp 3 38 5 rfl;obtain ⟨d,E,X⟩:=GH _ _ _ _ _ _ _ _ R;obtain ⟨l,s,S⟩:=hp 4 5 7 rfl;obtain ⟨e,F,Y⟩:=op5 _ _ _ _ _ _ _ _ S;obtain ⟨n,t,T⟩:=hp 5 3 8 rfl;obtain ⟨f,G,Z⟩:=xe _ _ _ _ _ _ _ _ T;refine ⟨⟨a,b,c,d,e,f⟩,?_,⟨AA,V,W,X,Y,Z⟩⟩;have N:=gS (hl.trans Zh) (by rw [xg]) G;have M:=cH F (m:=8) (by rw [cz5]) N;have L:=cH E (m:=7) (by rw [H9]) M;have K:=cH D (m:=5) (by rw [H9]) L;have J:=cH C (m:=3) (by rw [H9]) K;have AB:=cH B (m:=1) (by rw [xg]) J;exact AB
def YB (w:World) (s:aX):Prop:= ∃ l:List ag,s.n=l.length∧(l0 s.a l).holds w∧(∀ x∈l,UO w x)∧l.length≤maxLen∧s.n≤s.c
theorem aal:sV Tryz.prog 22 aX (fun s=>[vS s.a s.n s.c]) YB:=mh UL Zh ZR
structure Y5 (w:World) (s:aZ):Prop where
 lL:YB w s.lL
theorem aa_:fL Tryz.prog 24=some [(22,0)]:=by kernel_rfl
theorem Z3:sV Tryz.prog 24 aZ aZ.cells Y5:=fun {H} enc w base sp A fuel cs x h=>by
 obtain ⟨hl,hp⟩:=jt aa_ h;obtain ⟨G,AA,D⟩:=hp 0 22 0 rfl;obtain ⟨F,B,E⟩:=aal _ _ _ _ _ _ _ _ D;refine ⟨⟨F⟩,?_,⟨E⟩⟩;have C:=gS (hl.trans ZC) (by rw [abc]) B;exact C
theorem aam:Tryz.prog.cellsOf 25=1:=by kernel_rfl
theorem Uf:Tryz.prog.cellsOf 109=2:=by kernel_rfl
theorem Y3:Tryz.prog.cellsOf 107=1:=by kernel_rfl
theorem Ub:Tryz.prog.cellsOf 106=3:=by kernel_rfl
structure OV (w:World) (s:cP):Prop where
 At:vO w s.At
 eA:HB w s.eA
theorem Zo:fL Tryz.prog 106=some [(3,0),(38,1)]:=by kernel_rfl
theorem Y4:sV Tryz.prog 106 cP cP.cells OV:=fun {H} enc w base sp A fuel cs x h=>by
 obtain ⟨hl,hp⟩:=jt Zo h;obtain ⟨M,O,F⟩:=hp 0 3 0 rfl;obtain ⟨K,B,AA⟩:=xe _ _ _ _ _ _ _ _ F;obtain ⟨N,P,G⟩:=hp 1 38 1 rfl;obtain ⟨L,C,J⟩:=GH _ _ _ _ _ _ _ _ G;refine ⟨⟨K,L⟩,?_,⟨AA,J⟩⟩;have E:=gS (hl.trans Ub) (by rw [H9]) C;have D:=cH B (m:=1) (by rw [xg]) E;exact D
def Ug (w:World) (s:aX):Prop:= ∃ l:List cP,s.n=l.length∧(qK s.a l).holds w∧(∀ x∈l,OV w x)∧l.length≤maxLen∧s.n≤s.c
theorem WW:sV Tryz.prog 107 aX (fun s=>[vS s.a s.n s.c]) Ug:=mh UF Ub Y4
structure PG (w:World) (s:dE):Prop where
 dI:vO w s.dI
 bo:Ug w s.bo
theorem Y6:fL Tryz.prog 109=some [(3,0),(107,1)]:=by kernel_rfl
theorem Zj:sV Tryz.prog 109 dE dE.cells PG:=fun {H} enc w base sp A fuel cs x h=>by
 obtain ⟨hl,hp⟩:=jt Y6 h;obtain ⟨M,O,F⟩:=hp 0 3 0 rfl;obtain ⟨K,B,AA⟩:=xe _ _ _ _ _ _ _ _ F;obtain ⟨N,P,G⟩:=hp 1 107 1 rfl;obtain ⟨L,C,J⟩:=WW _ _ _ _ _ _ _ _ G;refine ⟨⟨K,L⟩,?_,⟨AA,J⟩⟩;have E:=gS (hl.trans Uf) (by rw [Y3]) C;have D:=cH B (m:=1) (by rw [xg]) E;exact D
def YO (w:World) (s:aX):Prop:= ∃ l:List dE,s.n=l.length∧(Yy s.a l).holds w∧(∀ x∈l,PG w x)∧l.length≤maxLen∧s.n≤s.c
theorem aaQ:sV Tryz.prog 25 aX (fun s=>[vS s.a s.n s.c]) YO:=mh Ye Uf Zj
theorem Z7:Tryz.prog.cellsOf 26=1:=by kernel_rfl
theorem Tx:Tryz.prog.cellsOf 113=4:=by kernel_rfl
theorem TF:Tryz.prog.cellsOf 111=3:=by kernel_rfl
structure Uc (w:World) (s:cY):Prop where
 bk:vO w s.bk
 mO:HB w s.mO
theorem WL:fL Tryz.prog 111=some [(3,0),(38,1)]:=by kernel_rfl
theorem XA:sV Tryz.prog 111 cY cY.cells Uc:=fun {H} enc w base sp A fuel cs x h=>by
 obtain ⟨hl,hp⟩:=jt WL h;obtain ⟨M,O,F⟩:=hp 0 3 0 rfl;obtain ⟨K,B,AA⟩:=xe _ _ _ _ _ _ _ _ F;obtain ⟨N,P,G⟩:=hp 1 38 1 rfl;obtain ⟨L,C,J⟩:=GH _ _ _ _ _ _ _ _ G;refine ⟨⟨K,L⟩,?_,⟨AA,J⟩⟩;have E:=gS (hl.trans TF) (by rw [H9]) C;have D:=cH B (m:=1) (by rw [xg]) E;exact D
structure Oy (w:World) (s:df):Prop where
 mz:Uc w s.mz
 kD:vO w s.kD
theorem YE:fL Tryz.prog 113=some [(111,0),(3,3)]:=by kernel_rfl
theorem XD:sV Tryz.prog 113 df df.cells Oy:=fun {H} enc w base sp A fuel cs x h=>by
 obtain ⟨hl,hp⟩:=jt YE h;obtain ⟨M,O,F⟩:=hp 0 111 0 rfl;obtain ⟨K,B,AA⟩:=XA _ _ _ _ _ _ _ _ F;obtain ⟨N,P,G⟩:=hp 1 3 3 rfl;obtain ⟨L,C,J⟩:=xe _ _ _ _ _ _ _ _ G;refine ⟨⟨K,L⟩,?_,⟨AA,J⟩⟩;have E:=gS (hl.trans Tx) (by rw [xg]) C;have D:=cH B (m:=3) (by rw [TF]) E;exact D
def Y8 (w:World) (s:aX):Prop:= ∃ l:List df,s.n=l.length∧(xP s.a l).holds w∧(∀ x∈l,Oy w x)∧l.length≤maxLen∧s.n≤s.c
theorem abd:sV Tryz.prog 26 aX (fun s=>[vS s.a s.n s.c]) Y8:=mh RY Tx XD
structure Zf (w:World) (s:bV):Prop where
 bQ:Y5 w s.bQ
 g7:vO w s.g7
 aC:YO w s.aC
 ai:Y8 w s.ai
 b_:vO w s.b_
 eZ:vO w s.eZ
 dp:vO w s.dp
theorem ZY:fL Tryz.prog 28=some [(24,0),(3,1),(25,2),(26,3),(3,4),(3,5),(3,6)]:=by kernel_rfl
theorem Z8:sV Tryz.prog 28 bV bV.cells Zf:=fun {H} enc w base sp A fuel cs x h=>by
 obtain ⟨hl,hp⟩:=jt ZY h;obtain ⟨n,u,Q⟩:=hp 0 24 0 rfl;obtain ⟨e,B,X⟩:=Z3 _ _ _ _ _ _ _ _ Q;obtain ⟨o,v,R⟩:=hp 1 3 1 rfl;obtain ⟨f,C,Y⟩:=xe _ _ _ _ _ _ _ _ R;obtain ⟨p,y,S⟩:=hp 2 25 2 rfl;obtain ⟨g,D,Z⟩:=aaQ _ _ _ _ _ _ _ _ S;obtain ⟨q,z,T⟩:=hp 3 26 3 rfl;obtain ⟨i,E,a⟩:=abd _ _ _ _ _ _ _ _ T;obtain ⟨r,y4,AA⟩:=hp 4 3 4 rfl;obtain ⟨j,F,b⟩:=xe _ _ _ _ _ _ _ _ AA;obtain ⟨s,y5,V⟩:=hp 5 3 5 rfl;obtain ⟨k,G,c⟩:=xe _ _ _ _ _ _ _ _ V;obtain ⟨t,y6,W⟩:=hp 6 3 6 rfl;obtain ⟨l,AB,d⟩:=xe _ _ _ _ _ _ _ _ W;refine ⟨⟨e,f,g,i,j,k,l⟩,?_,⟨X,Y,Z,a,b,c,d⟩⟩;have P:=gS (hl.trans Xx) (by rw [xg]) AB;have O:=cH G (m:=6) (by rw [xg]) P;have N:=cH F (m:=5) (by rw [xg]) O;have M:=cH E (m:=4) (by rw [Z7]) N;have L:=cH D (m:=3) (by rw [aam]) M;have K:=cH C (m:=2) (by rw [xg]) L;have J:=cH B (m:=1) (by rw [ZC]) K;exact J
theorem X4:Tryz.prog.cellsOf 29=1:=by kernel_rfl
def Wv (w:World) (s:aX):Prop:= ∃ l:List Int,s.n=l.length∧(jx s.a l).holds w∧(∀ x∈l,vO w x)∧l.length≤maxLen∧s.n≤s.c
theorem XS:sV Tryz.prog 29 aX (fun s=>[vS s.a s.n s.c]) Wv:=mh Zt xg xe
theorem aaA:Tryz.prog.cellsOf 30=1:=by kernel_rfl
theorem aa2:Tryz.prog.cellsOf 68=1:=by kernel_rfl
theorem Yh:Tryz.prog.cellsOf 52=7:=by kernel_rfl
theorem cz4:Tryz.prog.cellsOf 4=1:=by kernel_rfl
def ZT (w:World) (n:Bool):Prop:=True
theorem op4:sV Tryz.prog 4 Bool (fun b=>[vB b]) ZT:=Rs Wt
theorem YX:Tryz.prog.cellsOf 50=3:=by kernel_rfl
theorem aba:Tryz.prog.cellsOf 48=1:=by kernel_rfl
theorem Xm:Tryz.prog.cellsOf 85=2:=by kernel_rfl
structure VN (w:World) (s:aR):Prop where
 fR:vO w s.fR
 Read:vO w s.Read
theorem aa4:fL Tryz.prog 85=some [(3,0),(3,1)]:=by kernel_rfl
theorem aaD:sV Tryz.prog 85 aR aR.cells VN:=fun {H} enc w base sp A fuel cs x h=>by
 obtain ⟨hl,hp⟩:=jt aa4 h;obtain ⟨M,O,F⟩:=hp 0 3 0 rfl;obtain ⟨K,B,AA⟩:=xe _ _ _ _ _ _ _ _ F;obtain ⟨N,P,G⟩:=hp 1 3 1 rfl;obtain ⟨L,C,J⟩:=xe _ _ _ _ _ _ _ _ G;refine ⟨⟨K,L⟩,?_,⟨AA,J⟩⟩;have E:=gS (hl.trans Xm) (by rw [xg]) C;have D:=cH B (m:=1) (by rw [xg]) E;exact D
def X3 (w:World) (s:aX):Prop:= ∃ l:List aR,s.n=l.length∧(ke s.a l).holds w∧(∀ x∈l,VN w x)∧l.length≤maxLen∧s.n≤s.c
theorem aau:sV Tryz.prog 48 aX (fun s=>[vS s.a s.n s.c]) X3:=mh XN Xm aaD
structure Zn (w:World) (s:dA):Prop where
 Start:vO w s.Start
 hP:vO w s.hP
 ab:X3 w s.ab
theorem ZQ:fL Tryz.prog 50=some [(3,0),(3,1),(48,2)]:=by kernel_rfl
theorem Z6:sV Tryz.prog 50 dA dA.cells Zn:=fun {H} enc w base sp A fuel cs x h=>by
 obtain ⟨hl,hp⟩:=jt ZQ h;obtain ⟨R,AA,AB⟩:=hp 0 3 0 rfl;obtain ⟨O,B,L⟩:=xe _ _ _ _ _ _ _ _ AB;obtain ⟨S,V,J⟩:=hp 1 3 1 rfl;obtain ⟨P,C,M⟩:=xe _ _ _ _ _ _ _ _ J;obtain ⟨T,W,K⟩:=hp 2 48 2 rfl;obtain ⟨Q,D,N⟩:=aau _ _ _ _ _ _ _ _ K;refine ⟨⟨O,P,Q⟩,?_,⟨L,M,N⟩⟩;have G:=gS (hl.trans YX) (by rw [aba]) D;have F:=cH C (m:=2) (by rw [xg]) G;have E:=cH B (m:=1) (by rw [xg]) F;exact E
structure Wz (w:World) (s:aO):Prop where
 Out:ZT w s.Out
 cZ:ZT w s.cZ
 Time:HB w s.Time
 bp:Zn w s.bp
theorem aa9:fL Tryz.prog 52=some [(4,0),(4,1),(38,2),(50,4)]:=by kernel_rfl
theorem aa8:sV Tryz.prog 52 aO aO.cells Wz:=fun {H} enc w base sp A fuel cs x h=>by
 obtain ⟨hl,hp⟩:=jt aa9 h;obtain ⟨W,a,K⟩:=hp 0 4 0 rfl;obtain ⟨S,B,O⟩:=op4 _ _ _ _ _ _ _ _ K;obtain ⟨X,b,L⟩:=hp 1 4 1 rfl;obtain ⟨T,C,P⟩:=op4 _ _ _ _ _ _ _ _ L;obtain ⟨Y,c,M⟩:=hp 2 38 2 rfl;obtain ⟨AA,D,Q⟩:=GH _ _ _ _ _ _ _ _ M;obtain ⟨Z,d,N⟩:=hp 3 50 4 rfl;obtain ⟨V,E,R⟩:=Z6 _ _ _ _ _ _ _ _ N;refine ⟨⟨S,T,AA,V⟩,?_,⟨O,P,Q,R⟩⟩;have J:=gS (hl.trans Yh) (by rw [YX]) E;have AB:=cH D (m:=4) (by rw [H9]) J;have G:=cH C (m:=2) (by rw [cz4]) AB;have F:=cH B (m:=1) (by rw [cz4]) G;exact F
def U7 (w:World) (s:aX):Prop:= ∃ l:List aO,s.n=l.length∧(Yu s.a l).holds w∧(∀ x∈l,Wz w x)∧l.length≤maxLen∧s.n≤s.c
theorem aaa:sV Tryz.prog 68 aX (fun s=>[vS s.a s.n s.c]) U7:=mh XU Yh aa8
def W7 (w:World) (s:aX):Prop:= ∃ l:List aX,s.n=l.length∧(rd s.a l.length 1 (l.map (fun s=>[vS s.a s.n s.c]))).holds w∧(∀ x∈l,U7 w x)∧l.length≤maxLen∧s.n≤s.c
theorem aaJ:sV Tryz.prog 30 aX (fun s=>[vS s.a s.n s.c]) W7:=mh XZ aa2 aaa
structure X2 (w:World) (s:cf):Prop where
 ar:Zf w s.ar
 a_:Wv w s.a_
 db:Wv w s.db
 jz:vO w s.jz
 ax:W7 w s.ax
theorem aaH:fL Tryz.prog 32=some [(28,0),(29,7),(29,8),(3,9),(30,10)]:=by kernel_rfl
theorem aaW:sV Tryz.prog 32 cf cf.cells X2:=fun {H} enc w base sp A fuel cs x h=>by
 obtain ⟨hl,hp⟩:=jt aaH h;obtain ⟨b,g,M⟩:=hp 0 28 0 rfl;obtain ⟨W,B,R⟩:=Z8 _ _ _ _ _ _ _ _ M;obtain ⟨c,i,N⟩:=hp 1 29 7 rfl;obtain ⟨X,C,S⟩:=XS _ _ _ _ _ _ _ _ N;obtain ⟨d,j,O⟩:=hp 2 29 8 rfl;obtain ⟨Y,D,T⟩:=XS _ _ _ _ _ _ _ _ O;obtain ⟨e,k,P⟩:=hp 3 3 9 rfl;obtain ⟨Z,E,AA⟩:=xe _ _ _ _ _ _ _ _ P;obtain ⟨f,l,Q⟩:=hp 4 30 10 rfl;obtain ⟨a,F,V⟩:=aaJ _ _ _ _ _ _ _ _ Q;refine ⟨⟨W,X,Y,Z,a⟩,?_,⟨R,S,T,AA,V⟩⟩;have L:=gS (hl.trans Ze) (by rw [aaA]) F;have K:=cH E (m:=10) (by rw [xg]) L;have J:=cH D (m:=9) (by rw [X4]) K;have AB:=cH C (m:=8) (by rw [X4]) J;have G:=cH B (m:=7) (by rw [Xx]) AB;exact G
theorem aai:Tryz.prog.cellsOf 33=1:=by kernel_rfl
theorem UD:Tryz.prog.cellsOf 131=4:=by kernel_rfl
structure O3 (w:World) (s:bL):Prop where
 Kind:Is5 w s.Kind
 jf:vO w s.jf
 ou:vO w s.ou
 To:vO w s.To
theorem XR:fL Tryz.prog 131=some [(5,0),(3,1),(3,2),(3,3)]:=by kernel_rfl
theorem Xt:sV Tryz.prog 131 bL bL.cells O3:=fun {H} enc w base sp A fuel cs x h=>by
 obtain ⟨hl,hp⟩:=jt XR h;obtain ⟨W,a,K⟩:=hp 0 5 0 rfl;obtain ⟨S,B,O⟩:=op5 _ _ _ _ _ _ _ _ K;obtain ⟨X,b,L⟩:=hp 1 3 1 rfl;obtain ⟨T,C,P⟩:=xe _ _ _ _ _ _ _ _ L;obtain ⟨Y,c,M⟩:=hp 2 3 2 rfl;obtain ⟨AA,D,Q⟩:=xe _ _ _ _ _ _ _ _ M;obtain ⟨Z,d,N⟩:=hp 3 3 3 rfl;obtain ⟨V,E,R⟩:=xe _ _ _ _ _ _ _ _ N;refine ⟨⟨S,T,AA,V⟩,?_,⟨O,P,Q,R⟩⟩;have J:=gS (hl.trans UD) (by rw [xg]) E;have AB:=cH D (m:=3) (by rw [xg]) J;have G:=cH C (m:=2) (by rw [xg]) AB;have F:=cH B (m:=1) (by rw [cz5]) G;exact F
def Xg (w:World) (s:aX):Prop:= ∃ l:List bL,s.n=l.length∧(vX s.a l).holds w∧(∀ x∈l,O3 w x)∧l.length≤maxLen∧s.n≤s.c
theorem Z1:sV Tryz.prog 33 aX (fun s=>[vS s.a s.n s.c]) Xg:=mh aaq UD Xt
theorem abe:Tryz.prog.cellsOf 34=1:=by kernel_rfl
theorem TL:Tryz.prog.cellsOf 120=5:=by kernel_rfl
structure N2 (w:World) (s:cG):Prop where
 Id:vO w s.Id
 ji:vO w s.ji
 jW:vO w s.jW
 lk:vO w s.lk
 At:vO w s.At
theorem Xl:fL Tryz.prog 120=some [(3,0),(3,1),(3,2),(3,3),(3,4)]:=by kernel_rfl
theorem WY:sV Tryz.prog 120 cG cG.cells N2:=fun {H} enc w base sp A fuel cs x h=>by
 obtain ⟨hl,hp⟩:=jt Xl h;obtain ⟨b,g,M⟩:=hp 0 3 0 rfl;obtain ⟨W,B,R⟩:=xe _ _ _ _ _ _ _ _ M;obtain ⟨c,i,N⟩:=hp 1 3 1 rfl;obtain ⟨X,C,S⟩:=xe _ _ _ _ _ _ _ _ N;obtain ⟨d,j,O⟩:=hp 2 3 2 rfl;obtain ⟨Y,D,T⟩:=xe _ _ _ _ _ _ _ _ O;obtain ⟨e,k,P⟩:=hp 3 3 3 rfl;obtain ⟨Z,E,AA⟩:=xe _ _ _ _ _ _ _ _ P;obtain ⟨f,l,Q⟩:=hp 4 3 4 rfl;obtain ⟨a,F,V⟩:=xe _ _ _ _ _ _ _ _ Q;refine ⟨⟨W,X,Y,Z,a⟩,?_,⟨R,S,T,AA,V⟩⟩;have L:=gS (hl.trans TL) (by rw [xg]) F;have K:=cH E (m:=4) (by rw [xg]) L;have J:=cH D (m:=3) (by rw [xg]) K;have AB:=cH C (m:=2) (by rw [xg]) J;have G:=cH B (m:=1) (by rw [xg]) AB;exact G
def W8 (w:World) (s:aX):Prop:= ∃ l:List cG,s.n=l.length∧(Ct s.a l).holds w∧(∀ x∈l,N2 w x)∧l.length≤maxLen∧s.n≤s.c
theorem ZS:sV Tryz.prog 34 aX (fun s=>[vS s.a s.n s.c]) W8:=mh Z2 TL WY
structure ZX (w:World) (s:km):Prop where
 Race:X2 w s.Race
 bu:Xg w s.bu
 bH:W8 w s.bH
 ju:vO w s.ju
 LS:vO w s.LS
theorem XW:fL Tryz.prog 36=some [(32,0),(33,11),(34,12),(3,13),(3,14)]:=by kernel_rfl
theorem aae:sV Tryz.prog 36 km km.cells ZX:=fun {H} enc w base sp A fuel cs x h=>by
 obtain ⟨hl,hp⟩:=jt XW h;obtain ⟨b,g,M⟩:=hp 0 32 0 rfl;obtain ⟨W,B,R⟩:=aaW _ _ _ _ _ _ _ _ M;obtain ⟨c,i,N⟩:=hp 1 33 11 rfl;obtain ⟨X,C,S⟩:=Z1 _ _ _ _ _ _ _ _ N;obtain ⟨d,j,O⟩:=hp 2 34 12 rfl;obtain ⟨Y,D,T⟩:=ZS _ _ _ _ _ _ _ _ O;obtain ⟨e,k,P⟩:=hp 3 3 13 rfl;obtain ⟨Z,E,AA⟩:=xe _ _ _ _ _ _ _ _ P;obtain ⟨f,l,Q⟩:=hp 4 3 14 rfl;obtain ⟨a,F,V⟩:=xe _ _ _ _ _ _ _ _ Q;refine ⟨⟨W,X,Y,Z,a⟩,?_,⟨R,S,T,AA,V⟩⟩;have L:=gS (hl.trans aaI) (by rw [xg]) F;have K:=cH E (m:=14) (by rw [xg]) L;have J:=cH D (m:=13) (by rw [abe]) K;have AB:=cH C (m:=12) (by rw [aai]) J;have G:=cH B (m:=11) (by rw [Ze]) AB;exact G
theorem yN:ownKnob Tryz.prog.godebug=none:=by kernel_rfl
theorem xZ:laidOutB Tryz.prog=true:=by kernel_rfl
theorem vk (os:Os) (started:os.Started) (H:Type) (enc:TypeId×Value→H):
 ReturnsInHanded {} Tryz.checked os 3 .any (fun w args=>(Rows.topRepairedSpec.pre enc Tryz.prog Tryz.f3 [] false w args∧laidMetH Tryz.prog [("kreisel/race.table",Rows.laid_kreisel_race_table)] w)∧sizedMet enc Tryz.prog Tryz.f3 (OpenSpec.ofChange Rows.topRepairedSpec) false w args) (Rows.topRepairedSpec.post enc Tryz.prog Tryz.f3 false true false false):=by
 refine returnsInHanded_of_change_and (C:=Tryz.checked) (X:=(fun w _=>laidMetH Tryz.prog [("kreisel/race.table",Rows.laid_kreisel_race_table)] w)) (fun _ _ _ hh h=>h.of_heap hh) yN started kr Tryz.func3
  (ChangeSpec.witness_shaped (enc:=enc) (C:=Tryz.checked) (os:=os) (X:=(fun w _=>laidMetH Tryz.prog [("kreisel/race.table",Rows.laid_kreisel_race_table)] w)) false (World.doorLaid Tryz.prog 400 os) #[.agg #[(vS none 0 0),(vI 0),(vS none 0 0),(vS none 0 0),(vI 0),(vI 0),(vI 0),(vS none 0 0),(vS none 0 0),(vI 0),(vS none 0 0),(vS none 0 0),(vS none 0 0),(vI 0),(vI 0)],Value.int .u8 0,Value.int .u8 0,.agg #[(vI 0),(vI 0)]] 8 rfl (World.shaped_of_RefB kr kr) kr kr kr (Hq os _)) ?_
 intro W base args ds gs before E hW _ _ hL _;have D: ∀ (j:Nat) t v,Tryz.f3.params[j]? =some t→args[j]? =some v→Value.okWide Tryz.prog W .any base t v:=E;have hW':=hW;obtain ⟨p,q,K,hV,rfl,f,g⟩:=hW;have hA:DataW.TrodAll enc Tryz.prog W 0 (fun _=>true) true Tryz.f3.params.toList args.toList ds p:=K;have F:=hA;rw [Tryz.params3] at hA D;obtain ⟨Q,u,d0,AA,p0,q0,L,rfl,rfl,a,i⟩:=trodAll_cons hA;obtain ⟨R,y,d1,V,p1,q1,rfl,rfl,rfl,b,l⟩:=trodAll_cons i;obtain ⟨S,z,d2,Y,p2,q2,rfl,rfl,rfl,c,m⟩:=trodAll_cons l;obtain ⟨T,AC,d3,Z,p3,q3,rfl,rfl,rfl,d,n⟩:=trodAll_cons m;obtain ⟨rfl,rfl,rfl⟩:=trodAll_nil n;obtain rfl:args= #[Q,R,S,T]:=by cases args;simp_all
 obtain ⟨rfl,rfl⟩:=trodVars_none hV;obtain ⟨s0,rfl,R0⟩:=A_ XW aae (D 0 36 Q rfl rfl) a;obtain ⟨o,rfl,R1⟩:=Jd (k:= .u8) My (D 1 5 R rfl rfl) b;obtain ⟨r,rfl,R2⟩:=Jd (k:= .u8) My (D 2 5 S rfl rfl) c;obtain ⟨s,rfl,R3⟩:=A_ W9 GH (D 3 38 T rfl rfl) d;simp only [AAJ] at hW' F;have J:=Bo hL;obtain ⟨j,az,ha,kA,kC,cA,cC,bA,bC,O,P,drA,drC,M,N,faA,faC,prA,prC,rfl,G,B⟩:=JX (R1:=UO) (R2:=PG) (R3:=Oy) (R4:=OV) (R5:=vO) (R6:=U7) (R7:=Wz) (R8:=VN) (R9:=O3) (R10:=N2) R0.Race.ar.bQ.lL (fun x hx=>hx.gu) R0.Race.ar.aC (fun x hx=>hx.bo) R0.Race.ar.ai R0.Race.a_ R0.Race.db R0.Race.ax (fun x hx=>hx) (fun x hx=>hx.bp.ab) R0.bu (fun x hx=>hx.Kind) R0.bH;have AB:=(Br j kA kC az cA cC bA bC O P drA drC ha M N faA faC prA prC o r s G R1 R2).run W (by intro A hA;simp only [bI,h_,AAr] at hA;rcases hA with rfl|rfl|rfl|rfl|rfl|rfl|rfl|rfl|rfl|rfl|rfl;exact J;exact B.1;exact B.2.1;exact B.2.2.1;exact B.2.2.2.1;exact B.2.2.2.2.1;exact B.2.2.2.2.2.1;exact B.2.2.2.2.2.2.1;exact B.2.2.2.2.2.2.2.1;exact B.2.2.2.2.2.2.2.2.1;exact B.2.2.2.2.2.2.2.2.2);refine (AB).mono fun e W' ⟨he,hk⟩=>?_;subst he;exact ⟨_,U,Ny xZ hW' F U U kr hk.below kr Wt⟩
theorem wX:Rows.TopRepairedSaid:=
 OpenClaim.holds_of_wide 3 Tryz.f3 rfl rfl rfl rfl rfl rfl rfl ⟨rfl,rfl,rfl,rfl,rfl⟩ rfl rfl rfl rfl rfl kr Tryz.func3 vu
  (s6 kr) (by unfold Func.isWrapper;first|(rw [c0 (by decide+kernel)];kernel_rfl)|(rw [c1 (by decide+kernel)];exact ⟨rfl,rfl⟩))
  (fun os started H enc _=>vk os started H enc)
/-- the statement -/
theorem topRepaired_said:Rows.TopRepairedCardSaid:=
 Claim7.holds_tied_plain_at .later [] [.funcsDeep] true (true,"5c5e520b210da50315c5f25da45c16a30d3e24048b13612067901be4913a4b3f") true
  wX (fun _ h=>by cases h) kr (fun _ h=>by cases h) topRepaired_row_tie rfl ⟨rfl,rfl⟩ kr rfl
  (fun f fn hf B=>by
   obtain rfl:f=3:=m3 ((show Tryz.prog.funcNamed "kreisel/kreiseltop.TopRepaired"=some 3 by kernel_rfl).symm.trans hf) |>.symm;obtain rfl:fn=Tryz.f3:=(m3 (Tryz.func3.symm.trans B)).symm;exact ⟨kr,fun j t ht=>by
    rw [Tryz.params3] at ht;have hm:t∈([36,5,5,38]:List Nat):=by simpa using Array.mem_of_getElem? ht
    have A:(([36,5,5,38]:List Nat).all fun u=> !Tryz.prog.wantsStandIn u)=true:=by kernel_rfl
    exact (show Tryz.prog.wantsStandIn t=false by simpa using dg.1 A t hm)⟩)
  kr
#print axioms topRepaired_said
end
end Go.Proofs.YtgnlmfdknlbkkaaGreatDoor
