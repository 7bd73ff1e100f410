/-
 The statement juryLater_said, part 6 of 9: B4, B2, B3, B5, B6, V2, V5, V6, Wh1, V4, V8, Wh2, Jw3, Jw4, Jw5, Rc1, Rc2.
 Conditions: none.
-/
import Derived.Test.YtijpnoadncadoaaGreatDoorTw1
import Derived.Test.YtijpnoadncadoaaGreatDoorTw2
import Derived.Test.YtijpnoadncadoaaGreatDoorTw3
import Derived.Test.YtijpnoadncadoaaGreatDoorTw4
import Derived.Test.YtijpnoadncadoaaGreatDoorTw5
namespace Go.Proofs.YtijpnoadncadoaaGreatDoor
set_option maxRecDepth 100000
set_option maxHeartbeats 4000000
set_option linter.unusedVariables false
section
open Go.RowKit
theorem Jj (n lo hi:Int) (g1 g2:Nat):
 dN Tryz.prog 69 [(vI n),(vP g1),(vP g2)] [(cv g1 3 [(vI lo)]),(cv g2 3 [(vI hi)])] (vB (decide (n<lo∨hi<n))):=by
 refine bH kr Tryz.func69 U U fun D Q hQ hN=>?_
 try dsimp only
 refine WS fun _ B=>bG 1 U<|RK B<|WS fun _ A=>rP 4 [] (mr 0 U mn) ?_
 refine cg (t:=8) U (aV fun C=>?_) (aW fun C=>?_)
 ·refine rP 5 [] mn ?_
  refine RK A<|av<|Q1 hQ U U U ?_
  exact cB (dM I).symm
 refine rP 5 [] (mr 1 U mn) ?_
 refine RK A<|av<|Q1 hQ U U U ?_
 exact cB (g5.2 I)
theorem iF (lo hi:Int) (l:List Int) (lA:OA) (lC:Nat) (hlen:l.length≤1000000):
 dN Tryz.prog 44 [(vI lo),(vI hi),(vS lA l.length lC)] [(rd lA l.length 1 (l.map iC))] (vB (qX lo hi l)):=by
 refine bH kr Tryz.func44 U U fun F Q hQ hN=>?_
 try dsimp only
 refine WS fun _ D=>xV U U fun A=>xV U U fun B=>bG 1 U<|RK D<|WS fun _ E=>rP 1 [] mn ?_
 refine rS (FU U) ?_
 refine rS (CL (qs l lA lC (Value.func (.func 69) [].toArray [(vP A),(vP B)].toArray) (fun C=>(decide (C<lo∨hi<C))) (dV [(cv A 3 [(vI lo)]),(cv B 3 [(vI hi)])]) (by intro C _; exact lJ (fi:=[]) (ca:=[(vP A),(vP B)]) (kh (Jj C lo hi A B) (bq [0,1]))) hlen) (gX 2 U U<|aD (kg (bq [1,0]))<|aN) U) ?_
 refine rP 2 [] mn ?_
 refine RK E<|av ?_
 exact Q1 hQ U U U U
theorem V7 (n d:Int) (hd:2≤d):
 dN Tryz.prog 65 [(vI n),(vI d)] [] (vI (Vb n d)):=by
 refine bH kr Tryz.func65 U U fun C Q hQ hN=>?_
 try dsimp only
 refine WS fun _ A=>bG 1 U<|RK A<|WS fun _ B=>bG 2 U<|rS (BI U Ra)<|rS (BI U KU)<|bG 1 U<|rS (BI U (Qx I (Si (Tl _) hd)))<|rP 1 [] mn ?_
 refine RK B<|av ?_
 exact Q1 hQ U U U U
theorem Lu (n d:Int) (hd:1≤d∧d≤1000000) (hn:0≤n∧n≤1000000000000000):
 dN Tryz.prog 65 [(vI n),(vI d)] [] (vI (pJ n d)):=by
 refine bH kr Tryz.func65 U U fun C Q hQ hN=>?_
 try dsimp only
 refine WS fun _ A=>bG 1 U<|RK A<|WS fun _ B=>bG 5 U<|rS (BI U (ur I I I))<|rP 1 [] mn ?_
 refine RK B<|av ?_
 exact Q1 hQ U U U U
theorem GG (c:ax) (sA:OA) (sC:Nat) (at_:Int) (hc:eK c) (ha:0≤at_∧at_≤90000000):
 dN Tryz.prog 97 [(vA (dA.cells (dA.mk c.dD (bE.mk sA c.bu.length sC)))),(vI at_)] [(rd sA c.bu.length 3 (c.bu.map cz.cells))] (vA (ag.cells (hH c at_))):=by
 have X:=hc.len
 have J:=hc.tD
 refine bH kr Tryz.func97 U U fun e Q hQ hN=>?_
 try dsimp only
 refine WS fun _ M=>eT U fun b=>AL U ej fun d=>RK M<|WS fun _ N=>rS (SX (bp (xs:=[(0,.const (vI (-1099511627776))),(1,.const (vI 1099511627776))]) (cs:=(ag.cells (ag.mk (-1099511627776) 1099511627776))) U U (bo hU U)) U U)<|AL U ej fun W=>gl U c_ U<|RK N<|aq fun _ O=>aq fun _ P=>?_
 have R:(ag.cells (ag.mk (-1099511627776) 1099511627776))=(ag.cells (g8 c at_ 0)):=by rfl
 rw [R]
 refine ay<|rP 4 [] (mc 2 U mn) ?_
 refine RK P<|aG ?_
 have A:(0≤c.bu.length):=by exact Nat.zero_le _
 refine bS (ι:={z:Nat // (z≤c.bu.length)}) [1,2,4,5,11,12] [1,2,3] U U (fun z=>[(13,(vI (z.1:Int)))]) (fun z=>[(cv W 53 (ag.cells (g8 c at_ z.1)))]) (fun _=>rfl) (fun _=>rfl) (fun z=>c.bu.length-z.1) ⟨0,A⟩ (bw U) (aS [1,2,3,0]) ?_
 clear A
 rintro ⟨i,S⟩ J9 L
 try dsimp only
 refine WS fun _ B=>rP 1 [] mn ?_
 refine RK B<|aq fun _ C=>bV U (aW fun K=>?_) (aV fun K=>?_)
 ·refine bL<|ai<|ai<|aI<|KK O<|WS fun _ G=>rP 1 [] (mc 3 U mn) ?_
  refine gl U c_ U<|RK G<|av<|D8 hQ [0] (mc 0 U mn) U ?_
  rw [oq (show c.bu.length≤i by omega)]
 refine WK C<|aq fun _ D=>aG<|WS fun _ E=>?_
 obtain ⟨x,hx⟩:=aM c.bu i I
 have AA:=bQ cz.cells hx
 refine rS (IA i U (aF 2 U) vM dc I I)<|rS (mq i 0 (cz.cells x) U cf (aF 2 U) AA U dc U U)<|AL U zF fun V=>gl U BG U<|RK E<|WS fun _ F=>rP 5 [0,1] (mc 2 U (mc 0 U mn)) ?_
 have T:=hc.uc hx
 have Z:=Ct hc ha i
 have Y:=Gv J ha (show 0≤x.At∧x.At≤90000000 by omega)
 refine fD 5 [] (mc 0 U mn) U<|rS (MX U)<|rS (BI U (uT ⟨I,I⟩))<|rS (CL (Lu (c.dD*(max (at_-x.At) (x.At-at_))) 1000000 I I) (aN) U)<|bG 1 U<|RK F<|ay<|rP 6 [0,1] (mc 4 U (mc 0 U mn)) ?_
 have a:0≤pJ (c.dD*max (at_-x.At) (x.At-at_)) 1000000∧pJ (c.dD*max (at_-x.At) (x.At-at_)) 1000000≤90001:=wP J ha T.1
 refine bG 1 U<|rS (MX U)<|rP 7 [0,1] (mc 4 U (mc 0 U mn)) ?_
 refine rS (MN U)<|rS (SX (bp (xs:=[(0,.tmp 37),(1,.tmp 45)]) (cs:=(ag.cells (ag.mk (max ((g8 c at_ i).Lo) (x.eB.Lo-(pJ (c.dD*(max (at_-x.At) (x.At-at_))) 1000000))) (min ((g8 c at_ i).Hi) (x.eB.Hi+(pJ (c.dD*(max (at_-x.At) (x.At-at_))) 1000000)))))) U U (bo hU U)) U U)<|Tf U c_ U<|aJ<|aO<|KK D ?_
 have H:(ag.cells (ag.mk (max ((g8 c at_ i).Lo) (x.eB.Lo-(pJ (c.dD*(max (at_-x.At) (x.At-at_))) 1000000))) (min ((g8 c at_ i).Hi) (x.eB.Hi+(pJ (c.dD*(max (at_-x.At) (x.At-at_))) 1000000)))))=(ag.cells (g8 c at_ (i+1))):=by rw [kE hx]; rfl
 rw [H]
 refine ay<|rP 2 [] mn ?_
 refine aJ ?_
 have AB:(vI (((i+1):Nat):Int))=(vI ((i:Int)+1)):=by exact cI I
 refine bj (L ⟨(i+1),(by first|omega|(simp only []; omega))⟩ _ _ _ U os (cQ 6<|bk U AB<|dx.nil _) (aS [1,2,3,4]))
theorem QC (c:ax) (sA:OA) (sC:Nat) (hlen:c.bu.length≤1000000) (hcap:c.bu.length≤sC):
 dN Tryz.prog 110 [(vA (dA.cells (dA.mk c.dD (bE.mk sA c.bu.length sC))))] [(rd sA c.bu.length 3 (c.bu.map cz.cells))] (vB (decide (eK c))):=by
 refine bH kr Tryz.func110 U U fun w0 Q hQ hN=>?_
 try dsimp only
 refine WS fun _ A7=>eT U fun b2=>bG 1 U<|RK A7<|BB U<|aq fun _ A8=>WS fun _ q=>rP 2 [] (mc 0 U mn) ?_
 refine eJ (xs:=[.tmp 11]) (cs:=[(vI c.dD)]) U dJ kY U U U U (by simp [Value.cells]) U U fun b5=>?_
 refine rS (CL (dN.eq (iF 0 1000 ([c.dD]) (some ⟨b5,0,none⟩) 1 (by (simp; done))) cH) (aD (br 0 U U (by simp [bR]) U)<|aN) U) ?_
 refine rP 2 [] mn ?_
 refine cg (t:=15) U (bB fun AB=>?_) (bx fun AB=>?_)
 ·refine bG 7 U<|RK q<|aU U<|WS fun _ A9=>rP 1 [] mn ?_
  refine RK A9<|av<|Q1 hQ U U U ?_
  exact cB (bI fun h=>AB h.tD).symm
 refine rP 3 [] (mc 1 U mn) ?_
 refine eJ (xs:=[.tmp 18]) (cs:=[(vI (c.bu.length:Int))]) U dJ kY U U U U (by simp [Value.cells]) U U fun b7=>?_
 refine rS (CL (dN.eq (iF 1 5 ([(c.bu.length:Int)]) (some ⟨b7,0,none⟩) 1 (by (simp; done))) cH) (aD (br 0 U U (by simp [bR]) U)<|aN) U) ?_
 refine rP 2 [] mn ?_
 refine RK q<|cG U (bB fun O=>?_) (bx fun O=>?_)
 ·refine WS fun _ BE=>rP 1 [] mn ?_
  refine RK BE<|av<|Q1 hQ U U U ?_
  exact cB (bI fun h=>O (by have:=h.len; omega)).symm
 refine WK A8<|WS fun _ Bc=>bG 1 U<|RK Bc<|WS fun _ R=>bG 1 U<|RK R<|aq fun _ S=>AN<|KK S<|aq fun _ K=>WS fun _ T=>rP 4 [] (mc 2 U mn) ?_
 refine RK T<|aG ?_
 have B:(0≤c.bu.length)∧(tU c 0):=by exact ⟨Nat.zero_le _,H9⟩
 have r:(vI (lk c 0))=(vI (-1)):=by rw [g_ rfl]
 refine bS (ι:={z:Nat // (z≤c.bu.length)∧(tU c z)}) [1,2,4,24,25] [2,3] U U (fun z=>[(3,(vI (lk c z.1))),(26,(vI (z.1:Int)))]) (fun z=>[]) (fun _=>rfl) (fun _=>rfl) (fun z=>c.bu.length-z.1) ⟨0,B⟩ (bk U r<|bw U) (aS [2,3]) ?_
 clear B
 rintro ⟨i,⟨L,C⟩⟩ J15 P
 try dsimp only
 have C0: -1≤lk c i∧lk c i≤86400000:=Rx L C
 refine WS fun _ AA=>rP 1 [] mn ?_
 refine RK AA<|aq fun _ V=>bV U (aW fun A2=>?_) (aV fun A2=>?_)
 ·refine bL<|ai<|ai<|aI<|KK K<|WS fun _ f=>rP 2 [] mn ?_
  refine RK f<|av<|Q1 hQ U U U ?_
  exact cB (dM (HZ AB I (by have e:i=c.bu.length:=I; rw [← e]; exact C))).symm
 refine WK V<|aq fun _ W=>aG<|WS fun _ X=>rP 1 [] mn ?_
 obtain ⟨x,hx⟩:=aM c.bu i I
 have Ci:=bQ cz.cells hx
 refine rS (IA i U (aF 1 U) vM dc I I)<|rS (mq i 0 (cz.cells x) U cf (aF 1 U) Ci U dc U U)<|AL U zF fun Ck=>rP 1 [] mn ?_
 refine gl U BG U<|RK X ?_
 refine oW (ι:=Unit) [1,2,3,5,6,24,25,26] [0,1,2] U U (fun z=>[(4,(vB (decide (fX c i x))))]) (fun z=>[]) (fun _=>rfl) (fun _=>rfl) ?_ fun K22 G=>?_
 ·intro _
  try dsimp only
  refine aq fun _ Y=>WS fun _ Z=>fD 3 [] (mc 1 U mn) U<|rS (XY i U vM I I)<|rP 2 [] mn ?_
  refine RK Z<|aG ?_
  have B:(0≤i)∧((decide (fX c i x))=(decide (mY c i x 0))):=by exact ⟨Nat.zero_le _,g5.2 Ec.symm⟩
  refine bS (ι:={z:Nat×Bool // (z.1≤i)∧(z.2=(decide (mY c i x z.1)))}) [1,2,3,5,6,24,25,26,59,60] [0,1,2] U U (fun z=>[(4,(vB z.1.2)),(61,(vI (z.1.1:Int)))]) (fun z=>[]) (fun _=>rfl) (fun _=>rfl) (fun z=>i-z.1.1) ⟨(0,(decide (fX c i x))),B⟩ (bw U) (aS [0,1,2]) ?_
  clear B
  rintro ⟨⟨k,b⟩,⟨M,A⟩⟩ J25 F
  try dsimp only at M A
  try dsimp only
  refine WS fun _ a=>rP 1 [] mn ?_
  refine RK a<|aq fun _ d=>bV U (aW fun A4=>?_) (aV fun A4=>?_)
  ·refine bL<|ai<|ai<|aI<|KK Y<|aq fun _ m=>WS fun _ n=>rP 2 [] mn ?_
   refine RK n<|cG U (fun D=>?_) (fun D=>?_)
   ·rw [Bool.not_eq_true'] at D
    refine bL<|ai<|fM U<|ai<|ai<|aI<|KK K<|WS fun _ p=>rP 2 [] mn ?_
    refine RK p<|av<|Q1 hQ U U U ?_
    exact cB (by have e:k=i:=I; rw [e] at A; rw [D] at A ⊢; exact (bI (KH hx (of_decide_eq_false A.symm))).symm)
   rw [Bool.not_eq_false'] at D
   refine WK m<|ay<|fD 3 [] (mc 0 U mn) U<|aJ<|aO<|KK W<|ay<|rP 2 [] mn ?_
   refine aJ ?_
   have AO:(vB true)=(vB b):=by exact cB D.symm
   have AR:(vI (lk c (i+1)))=(vI x.At):=by rw [pg hx]
   have AY:(vI (((i+1):Nat):Int))=(vI ((i:Int)+1)):=by exact cI I
   refine bj (P ⟨(i+1),⟨I,HV C hx (by have e:k=i:=I; rw [e] at A; exact of_decide_eq_true (A.symm.trans D))⟩⟩ _ _ _ U os (dx.cons U<|dx.cons U<|bk U AO<|dx.cons U<|dx.cons U<|bk U AR<|bk U AY<|dx.nil _) (aS [1,2]))
  refine WK d<|aq fun _ H=>aG<|WS fun _ g=>?_
  obtain ⟨o,ho⟩:=aM c.bu k I
  have B3:=bQ cz.cells ho
  refine rS (XM k U (aF 2 U) vM dc I I I)<|rS (mq k 0 (cz.cells o) U cf (aF 2 U) B3 U dc U U)<|AL U zF fun Cl=>gl U BG U<|RK g<|WS fun _ l=>fD 6 [0,1,2] (mc 2 U (mc 1 U (mc 0 U mn))) U<|rS (BI U KU)<|rS (BI U Sl)<|rS (CL (V7 (BO (c.dD*(BO (x.At-o.At)))) 1000000 I) (aN) U)<|bG 1 U<|RK l<|ay<|rP 2 [] mn ?_
  refine cu (t:=75) U (fun J=>?_) (fun J=>?_)
  ·refine bG 6 U<|bG 16 U<|aJ<|aO<|KK H<|ay<|rP 2 [] mn ?_
   refine aJ ?_
   have AD:(vI (((k+1):Nat):Int))=(vI ((k:Int)+1)):=by exact cI I
   refine bj (F ⟨((k+1),false),⟨I,by exact (bI fun h=>by have h2:=((uj ho).1 h).1; rw [A] at J; exact absurd (dM h2) (by rw [J]; decide)).symm⟩⟩ _ _ _ U os (cQ 11<|bk U AD<|dx.nil _) (aS [1,2,3]))
  refine rP 6 [0,1] (mc 1 U (mc 0 U mn)) ?_
  have Ae:mY c i x k:=of_decide_eq_true (A.symm.trans J)
  obtain ⟨B9,C1,C2⟩:=wQ (fun j y hj hy=>(C j y hj hy).1) hx Ae.1 I ho
  have N:=N7 AB B9
  refine rP 5 [] mn ?_
  refine cu (t:=86) U (aW fun E=>?_) (aV fun E=>?_)
  ·refine bG 11 U<|aJ<|aO<|KK H<|ay<|rP 2 [] mn ?_
   refine aJ ?_
   have AC:(vI (((k+1):Nat):Int))=(vI ((k:Int)+1)):=by exact cI I
   refine bj (F ⟨((k+1),false),⟨I,by exact (bI fun h=>by have h2:=((uj ho).1 h).2; rw [N] at E; exact E h2.1).symm⟩⟩ _ _ _ U os (cQ 11<|bk U AC<|dx.nil _) (aS [1,2,3]))
  refine fD 11 [0,1] (mc 0 U (mc 1 U mn)) U<|aJ<|aO<|KK H<|ay<|rP 2 [] mn ?_
  refine aJ ?_
  have w:(vI (((k+1):Nat):Int))=(vI ((k:Int)+1)):=by exact cI I
  refine bj (F ⟨((k+1),(decide ((o.eB.Lo-x.eB.Hi)≤(Vb (BO (c.dD*(BO (x.At-o.At)))) 1000000)))),⟨I,by exact g5.2 (by rw [uj ho,N]; rw [N] at E; exact ⟨fun h=>⟨Ae,E,h⟩,fun h=>h.2.2⟩)⟩⟩ _ _ _ U os (cQ 11<|bk U w<|dx.nil _) (aS [1,2,3]))
 refine ay<|rP 4 [] (mc 0 U mn) ?_
 refine eJ (xs:=[.tmp 34]) (cs:=[(vI x.At)]) U dJ kY U U U U (by simp [Value.cells]) U U fun A0=>?_
 refine rS (CL (dN.eq (iF ((lk c i)+1) 86400000 ([x.At]) (some ⟨A0,0,none⟩) 1 (by (simp; done))) cH) (aD (br 0 U U (by simp [bR]) U)<|aN) U) ?_
 refine rP 1 [] mn ?_
 refine cu (t:=37) U (aW fun A5=>?_) (aV fun A5=>?_)
 ·refine rP 19 [] mn ?_
  refine aJ ?_
  have v:(decide (fX c i x))=false:=bI (by unfold fX; omega)
  refine bj (km (cQ 8<|oO U v<|dx.nil _) (aS [1,2,3]) (G ()))
 refine rP 6 [] (mc 1 U mn) ?_
 refine eJ (xs:=[.tmp 40,.tmp 43]) (cs:=[(vI x.eB.Lo),(vI x.eB.Hi)]) U dJ kY U U U U (by simp [Value.cells]) U U fun A1=>?_
 refine rS (CL (dN.eq (iF (-10000) 10000 ([x.eB.Lo,x.eB.Hi]) (some ⟨A1,0,none⟩) 2 (by (simp; done))) qd) (aD (br 0 U U (by simp [bR]) U)<|aN) U) ?_
 refine rP 2 [] mn ?_
 refine cu (t:=47) U (aW fun A6=>?_) (aV fun A6=>?_)
 ·refine rP 9 [] mn ?_
  refine aJ ?_
  have u:(decide (fX c i x))=false:=bI (by unfold fX; omega)
  refine bj (km (cQ 8<|oO U u<|dx.nil _) (aS [2,3,4]) (G ()))
 refine rP 9 [] (mc 2 U mn) ?_
 refine aJ ?_
 have s:(decide (fX c i x))=(decide (x.eB.Lo≤x.eB.Hi)):=g5.2 (by unfold fX; omega)
 refine bj (km (cQ 8<|oO U s<|dx.nil _) (aS [2,3,4]) (G ()))
theorem Uz (ms:List ax) (az:List RA) (k:Nat) (m:ax) (a:RA) (hm:ms[k]? =some m) (ha:az[k]? =some a) (hc:m.bu.length≤a.2∧m.bu.length≤1000000):
 dN Tryz.prog 109 [(vA (dA.cells (dA.mk m.dD (bE.mk a.1 m.bu.length a.2))))] [(dV (a_ ax.gG ms az))] (vB (!(decide (eK m)))):=by
 obtain ⟨C,D⟩:=hc
 refine bH kr Tryz.func109 U U fun F Q hQ hN=>?_
 try dsimp only
 refine WS fun _ A=>eT U fun E=>bG 1 U<|RK A<|WS fun _ B=>fD 1 [] (mc 0 U mn) U<|rS (CL (QC m a.1 a.2 asm asm) (aD (show jC _ (rd a.1 m.bu.length 3 (m.bu.map cz.cells)).holds from (cW 1 U (bT hm ha (by simp [ax.gG]))))<|aN) U)<|rP 2 [] mn ?_
 refine RK B<|av ?_
 exact Q1 hQ U U U U
theorem IK (l:List ax) (az:List RA) (lA:OA) (lC:Nat) (f:Value) (p:ax→Bool) (X:aB) (hf: ∀ (k:Nat) m a,l[k]? =some m→az[k]? =some a→EF Tryz.prog f [.agg (ax.cells m a).toArray] [X] (.bool (p m))) (hlen:l.length≤1000000) (has:az.length=l.length):
 dN Tryz.prog 130 [(vS lA l.length lC),f] [(rd lA l.length 2 (List.zipWith ax.cells l az)),(dV (a_ ax.gG l az)),X] (vI (tF p l)):=by
 refine bH kr Tryz.func130 U U fun T Q hQ hN=>?_
 try dsimp only
 refine WS fun _ AA=>bG 1 U<|RK AA<|aq fun _ J=>WS fun _ K=>rP 3 [] mn ?_
 refine RK K<|aG ?_
 have B:(0≤l.length)∧((l.take 0).any p=false):=by simp
 refine bS (ι:={z:Nat // (z≤l.length)∧((l.take z).any p=false)}) [0,1,7] [0,1,2] U U (fun z=>[(8,(vI (z.1:Int)))]) (fun z=>[]) (fun _=>rfl) (fun _=>rfl) (fun z=>l.length-z.1) ⟨0,B⟩ (bw U) (aS [0,1,2]) ?_
 clear B
 rintro ⟨i,⟨P,A⟩⟩ J4 H
 try dsimp only
 refine WS fun _ L=>rP 1 [] mn ?_
 refine RK L<|aq fun _ M=>bV U (aW fun S=>?_) (aV fun S=>?_)
 ·refine bL<|ai<|ai<|aI<|KK J<|WS fun _ E=>rP 1 [] mn ?_
  refine RK E<|av<|Q1 hQ U U U ?_
  exact cI (qq I A).symm
 refine WK M<|aq fun _ N=>aG<|WS fun _ O=>bG 2 U<|RK O<|WS fun _ C=>rP 3 [] mn ?_
 obtain ⟨x,hx⟩:=aM l i I
 obtain ⟨xa,G⟩:=aM az i I
 have R:(List.zipWith ax.cells l az)[i]? =some (ax.cells x xa):=dH hx G
 refine rS (IA i U (aF 0 U) x9 dc I I)<|rS (mq i 0 (dA.cells (dA.mk x.dD (bE.mk xa.1 x.bu.length xa.2))) U cf (aF 0 U) R U dc U U)<|rS (SX (qL U U U (hf i x xa hx G) (bq [2])) U U)<|RK C<|cG U (fun hp=>?_) (fun hp=>?_)
 ·refine WS fun _ D=>rP 2 [] mn ?_
  refine RK D<|av<|Q1 hQ U U U ?_
  exact cI (uP hx hp A).symm
 refine cx<|aO<|KK N<|ay<|rP 2 [] mn ?_
 refine aJ ?_
 have F:(vI (((i+1):Nat):Int))=(vI ((i:Int)+1)):=by exact cI I
 refine bj (H ⟨(i+1),⟨I,vq hx A hp⟩⟩ _ _ _ U os (cQ 3<|bk U F<|dx.nil _) (aS [0,1,2]))
theorem BL (l:List ax) (az:List RA) (lA:OA) (lC:Nat) (f:Value) (p:ax→Bool) (X:aB) (hf: ∀ (k:Nat) m a,l[k]? =some m→az[k]? =some a→EF Tryz.prog f [.agg (ax.cells m a).toArray] [X] (.bool (p m))) (hlen:l.length≤1000000) (has:az.length=l.length):
 dN Tryz.prog 108 [(vS lA l.length lC),f] [(rd lA l.length 2 (List.zipWith ax.cells l az)),(dV (a_ ax.gG l az)),X] (vB (l.any p)):=by
 refine bH kr Tryz.func108 U U fun C Q hQ hN=>?_
 try dsimp only
 refine WS fun _ A=>bG 1 U<|RK A<|WS fun _ B=>bG 2 U<|rS (CL (IK l az lA lC f p X (by exact hf) hlen has) (Rs 0 1 2 U U U U U U) U)<|rP 2 [] mn ?_
 refine RK B<|av<|Q1 hQ U U U ?_
 exact cB sQ
theorem Hy (l:List bJ) (lA:OA) (lC:Nat) (f:Value) (p:bJ→Bool) (X:aB) (hf: ∀ x0,x0∈l→EF Tryz.prog f [.agg (bJ.cells x0).toArray] [X] (.bool (p x0))) (hlen:l.length≤1000000):
 dN Tryz.prog 131 [(vS lA l.length lC),f] [(rd lA l.length 4 (l.map bJ.cells)),X] (vI (tF p l)):=by
 refine bH kr Tryz.func131 U U fun S Q hQ hN=>?_
 try dsimp only
 refine WS fun _ H=>bG 1 U<|RK H<|aq fun _ AA=>WS fun _ J=>rP 3 [] mn ?_
 refine RK J<|aG ?_
 have B:(0≤l.length)∧((l.take 0).any p=false):=by simp
 refine bS (ι:={z:Nat // (z≤l.length)∧((l.take z).any p=false)}) [0,1,7] [0,1] U U (fun z=>[(8,(vI (z.1:Int)))]) (fun z=>[]) (fun _=>rfl) (fun _=>rfl) (fun z=>l.length-z.1) ⟨0,B⟩ (bw U) (aS [0,1]) ?_
 clear B
 rintro ⟨i,⟨O,A⟩⟩ J4 G
 try dsimp only
 refine WS fun _ K=>rP 1 [] mn ?_
 refine RK K<|aq fun _ L=>bV U (aW fun R=>?_) (aV fun R=>?_)
 ·refine bL<|ai<|ai<|aI<|KK AA<|WS fun _ E=>rP 1 [] mn ?_
  refine RK E<|av<|Q1 hQ U U U ?_
  exact cI (qq I A).symm
 refine WK L<|aq fun _ M=>aG<|WS fun _ N=>bG 2 U<|RK N<|WS fun _ C=>rP 3 [] mn ?_
 obtain ⟨x,hx⟩:=aM l i I
 have P:=bQ bJ.cells hx
 refine rS (IA i U (aF 0 U) xz dc I I)<|rS (mq i 0 (bJ.cells x) U cf (aF 0 U) P U dc U U)<|rS (SX (qL U U U (hf x (aQ hx)) (bq [1])) U U)<|RK C<|cG U (fun hp=>?_) (fun hp=>?_)
 ·refine WS fun _ D=>rP 2 [] mn ?_
  refine RK D<|av<|Q1 hQ U U U ?_
  exact cI (uP hx hp A).symm
 refine cx<|aO<|KK M<|ay<|rP 2 [] mn ?_
 refine aJ ?_
 have F:(vI (((i+1):Nat):Int))=(vI ((i:Int)+1)):=by exact cI I
 refine bj (G ⟨(i+1),⟨I,vq hx A hp⟩⟩ _ _ _ U os (cQ 3<|bk U F<|dx.nil _) (aS [0,1]))
theorem Bw (l:List bJ) (lA:OA) (lC:Nat) (f:Value) (p:bJ→Bool) (X:aB) (hf: ∀ x0,x0∈l→EF Tryz.prog f [.agg (bJ.cells x0).toArray] [X] (.bool (p x0))) (hlen:l.length≤1000000):
 dN Tryz.prog 112 [(vS lA l.length lC),f] [(rd lA l.length 4 (l.map bJ.cells)),X] (vB (l.any p)):=by
 refine bH kr Tryz.func112 U U fun C Q hQ hN=>?_
 try dsimp only
 refine WS fun _ A=>bG 1 U<|RK A<|WS fun _ B=>bG 2 U<|rS (CL (Hy l lA lC f p X (by exact hf) hlen) (bq [0,1]) U)<|rP 2 [] mn ?_
 refine RK B<|av<|Q1 hQ U U U ?_
 exact cB sQ
end
section
open Go.RowKit
theorem qx (a:ag) (l:List ag) (lA:OA) (lC:Nat) (ha:mB a) (hl: ∀ z∈l,mB z) (hlen:l.length≤4):
 dN Tryz.prog 118 [(vA (ag.cells a)),(vS lA l.length lC)] [(rd lA l.length 2 (l.map ag.cells))] (vA (ag.cells (ly a l))):=by
 refine bH kr Tryz.func118 U U fun AA Q hQ hN=>?_
 try dsimp only
 refine WS fun _ AB=>eT U fun R=>AL U ej fun T=>RK AB<|aq fun _ J=>WS fun _ K=>rP 3 [] mn ?_
 refine RK K<|aG ?_
 have A:(0≤l.length):=by exact Nat.zero_le _
 refine bS (ι:={z:Nat // (z≤l.length)}) [2,4,7,8] [0,2] U U (fun z=>[(9,(vI (z.1:Int)))]) (fun z=>[(cv R 53 (ag.cells (ly a (l.take z.1))))]) (fun _=>rfl) (fun _=>rfl) (fun z=>l.length-z.1) ⟨0,A⟩ (bw U) (aS [0,2,1]) ?_
 clear A
 rintro ⟨i,N⟩ J6 H
 try dsimp only
 refine WS fun _ L=>rP 1 [] mn ?_
 refine RK L<|aq fun _ M=>bV U (aW fun S=>?_) (aV fun S=>?_)
 ·refine bL<|ai<|ai<|aI<|KK J<|aq fun _ D=>?_
  have G:(ag.cells (ly a (l.take i)))=(ag.cells (ly a l)):=by rw [Ku I]
  rw [G]
  refine ay<|rP 1 [] (mc 2 U mn) ?_
  refine gl U c_ U<|RK D<|av ?_
  exact D8 hQ [0] (mc 0 U mn) U U
 refine WK M<|aq fun _ B=>aG<|WS fun _ C=>?_
 obtain ⟨x,hx⟩:=aM l i I
 have O:=bQ ag.cells hx
 refine rS (IA i U (aF 1 U) lU dc I I)<|rS (mq i 0 (ag.cells x) U cf (aF 1 U) O U dc U U)<|AL U ej fun P=>gl U c_ U<|RK C<|ay ?_
 have hb:=Rq ha hl i
 have hz:=hl x (aQ hx)
 unfold mB at hz
 refine rP 10 [0,1,0,1] (mc 3 U (mc 0 U mn)) ?_
 refine rS (SX (bp (xs:=[(0,.tmp 17),(1,.tmp 22)]) (cs:=(ag.cells (ag.mk (((ly a (l.take i)).Lo)+x.Lo) (((ly a (l.take i)).Hi)+x.Hi)))) U U (bo hU U)) U U)<|Vo U c_ U<|aJ<|aO<|KK B ?_
 have E:(ag.cells (ag.mk (((ly a (l.take i)).Lo)+x.Lo) (((ly a (l.take i)).Hi)+x.Hi)))=(ag.cells (ly a (l.take (i+1)))):=by rw [Ac hx]; rfl
 rw [E]
 refine ay<|rP 2 [] mn ?_
 refine aJ ?_
 have F:(vI ((i+1):Int))=(vI ((i:Int)+1)):=by exact cI I
 refine bj (H ⟨(i+1),(by first|omega|(simp only []; omega))⟩ _ _ _ U os (cQ 4<|bk U F<|dx.nil _) (aS [1,2,3]))
theorem FN (ts:List ar) (tsA:OA) (tsC:Nat) (hlen:ts.length≤1000000) (hside: ∀ x∈ts,0≤x.jD∧x.jD≤255):
 dN Tryz.prog 115 [(vA (bO.cells (bO.mk (bE.mk tsA ts.length tsC))))] [(rd tsA ts.length 9 (ts.map ar.cells))] (vT [(vA (eM.cells (eM.mk (bO.mk (bE.mk tsA ts.length tsC))))),(vI (if du ts=true then 0 else 10))]):=by
 refine bH kr Tryz.func115 U U fun E Q hQ hN=>?_
 try dsimp only
 refine WS fun _ A=>eT U fun C=>AL U Ko fun D=>bG 1 U<|RK A<|aq fun _ B=>dy cy 4 kr<|mz 1 [] (mc 1 U mn) U<|dS (SX (bp (xs:=[(0,.tmp 4)]) (cs:=(eM.cells (eM.mk (bO.mk (bE.mk tsA ts.length tsC))))) U U (bo UM U)) U U)<|mz 1 [] (mc 1 U mn) U<|dS (CL (Df ts tsA tsC hlen hside) (bq [2]) U)<|cO<|gl U JL U<|rP 1 [] mn ?_
 refine RK B<|av ?_
 exact nE hQ [0] (mc 0 U mn) U U
theorem NV (f:Int) (tsA:OA) (tsN tsC:Nat):
 qB Tryz.prog 134 [(vA (eM.cells (eM.mk (bO.mk (bE.mk tsA tsN tsC))))),(vI f)] [] (fun (x:Nat×Nat)=>(Value.func (.func 151) [].toArray [(Value.pointer (some ⟨x.1,0,none⟩)),(Value.pointer (some ⟨x.2,0,none⟩))].toArray)) (fun (x:Nat×Nat)=>True) (fun (x:Nat×Nat)=>[(cv x.1 3 [(vI f)]),(cv x.2 196 (eM.cells (eM.mk (bO.mk (bE.mk tsA tsN tsC)))))]):=by
 refine fO kr Tryz.func134 U U fun E Q hQ hN=>?_
 try dsimp only
 refine WS fun _ A=>eT U fun C=>xV U U fun D=>bG 1 U<|RK A<|WS fun _ B=>rS (FU U)<|rP 1 [] mn ?_
 refine RK B<|av<|LX hQ (D,C) [0,1] [] mn U U U U ?_
 trivial
theorem G_ (ts:List ar) (tsA:OA) (tsC:Nat) (f:Int) (g1 g2:Nat) (hst: ∀ x∈ts,bX x) (hlen:ts.length≤12) (hf:0≤f∧f≤ts.length):
 Nt Tryz.prog 151 [] [(vP g1),(vP g2)] [(rd tsA ts.length 9 (ts.map ar.cells)),(cv g1 3 [(vI f)]),(cv g2 196 (eM.cells (eM.mk (bO.mk (bE.mk tsA ts.length tsC)))))] (vu ts f.toNat):=by
 refine Gz kr Tryz.func151 U U fun l J Z A0 p Q hY g d hQ hN=>?_
 try dsimp only
 refine WS fun _ h=>AL U ej fun n=>AL U ej fun o=>RK h<|WS fun _ i=>rP 2 [] (mr 4 U mn) ?_
 refine RK i<|aG ?_
 have P:(0≤ts.length-f.toNat)∧(J 0 A0)∧(Fo A0 p A0):=by exact ⟨Nat.zero_le _,g,d⟩
 have m:(vI (f+(0:Int)))=(vI f):=by exact cI I
 refine bS (ι:={z:Nat×aB // (z.1≤ts.length-f.toNat)∧(J z.1 z.2)∧(Fo A0 p z.2)}) [0,1,2,4,5] [3,4,5] U U (fun z=>[(6,(vI (f+(z.1.1:Int))))]) (fun z=>[(cv o 53 (ag.cells (gW ts f.toNat z.1.1))),(cv n 53 (ag.cells (eO ts f.toNat z.1.1))),z.1.2]) (fun _=>rfl) (fun _=>rfl) (fun z=>ts.length-f.toNat-z.1.1) ⟨(0,A0),P⟩ (bk U m<|dx.nil _) (aS [3,4,5,0,1,2]) ?_
 clear P
 rintro ⟨⟨k,A⟩,⟨W,R,S⟩⟩ J6 V
 try dsimp only at W R S
 try dsimp only
 refine aq fun _ j=>WS fun _ X=>rP 3 [0,1] (mc 4 U (mc 3 U mn)) ?_
 refine FQ 5 hY R S U U U (An I) U U (fun B9 C B=>?_) (fun B9 C B=>?_)
 rotate_left 1
 ·refine rP 8 [] mn ?_
  refine RK X<|ct U<|bL<|ai<|ai<|aI ?_
  refine hN _ _ _ (kp (vs:=[]) trivial fun w hs=>Pz 5 U C B hs)
 refine rP 8 [] (mr 2 U mn) ?_
 refine RK X<|bV U (aW fun c=>?_) (aV fun c=>?_)
 ·refine bL<|ai<|ai<|aI ?_
  refine hN _ _ _ (kp (vs:=[]) trivial fun w hs=>TH 5 U (by rw [uJ]; have e:ts.length-f.toNat+1=k+1:=I; rw [e]; exact C) B hs)
 refine WK j<|aq fun _ M=>aG<|m7 cy [0,1,2,3,4,5,6,7,10,11,12,13,14,15,16,17] [8,9,18,19,20,21] [true,false,false,false,false,false,false,false,true,false,false,false,false,false,false,false] [8,9,18] [(rd tsA ts.length 9 (ts.map ar.cells)).ro,(cv g1 3 [(vI f)]).ro,(cv g2 196 (eM.cells (eM.mk (bO.mk (bE.mk tsA ts.length tsC))))).ro,B9] [(rd tsA ts.length 9 (ts.map ar.cells)).ro,(cv g1 3 [(vI f)]).ro,(cv g2 196 (eM.cells (eM.mk (bO.mk (bE.mk tsA ts.length tsC))))).ro,(cv o 53 (ag.cells (gW ts f.toNat k))),(cv n 53 (ag.cells (eO ts f.toNat k))),B9] kr (aS [0,1,2,5]) (aS [0,1,2,3,4,5])<|fS U (LW 4 U cf U U)<|eS U (FA 0 U eP U)<|eS U (FA 0 U eP U)<|eS U (Kd (vS tsA ts.length tsC) 2 U cf U U)<|eS U (MV U) ?_
 obtain ⟨x,hx⟩:=aM ts (f.toNat+k) I
 have a:=bQ ar.cells hx
 refine eS U (IA (f.toNat+k) U (aF 0 U) zJ dc I I) ?_
 have L:=hst x (aQ hx)
 refine eS U (nv (((f.toNat+k)*9)+1) U (aF 0 U) (Nat.mul_pos I dc) eP U)<|eS U (mq (f.toNat+k) 1 (ag.cells x.lD) U cf (aF 0 U) a U dc U U)<|fS U (LW 3 U cf U U)<|eS U (FA 0 U eP U)<|eS U (FA 0 U eP U)<|eS U (Kd (vS tsA ts.length tsC) 2 U cf U U)<|eS U (MV U)<|eS U (IA (f.toNat+k) U (aF 0 U) zJ dc I I)<|eS U (nv (((f.toNat+k)*9)+3) U (aF 0 U) (Nat.mul_pos I dc) eP U)<|eS U (mq (f.toNat+k) 3 (ag.cells x.mR) U cf (aF 0 U) a U dc U U)<|eN U<|nH [8,18] kr (jc ?_<|jc ?_<|qP)
 rotate_left 1
 ·refine xb (rem':=[8,9,19,20,21]) U kr fun T14 N=>eJ (xs:=[.tmp 39]) (cs:=(ag.cells x.mR)) U lU ej U U U U (by simp [Value.cells,ag.bf]) U U fun T=>aJ (N _ _ (aS [1,2,3,6]) (aS [1,2,3,4,5,6]) ?_)
  refine N1 8<|xb (rem':=[9,19,20,21]) U kr fun T16 D=>eJ (xs:=[.tmp 29]) (cs:=(ag.cells x.lD)) U lU ej U U U U (by simp [Value.cells,ag.bf]) U U fun AA=>aJ (D _ _ (aS [2,3,4,7]) (aS [2,3,4,5,6,7]) ?_)
  refine N1 9<|xb (rem':=[19,20,21]) U kr fun T18 O=>?_
  refine rS (CL (dN.eq (qx (eO ts f.toNat k) ([x.lD]) (some ⟨AA,0,none⟩) 1 (by exact rM hst I) (by intro z hz; simp only [ck] at hz; subst hz; exact vU L) sm) oy) (aD (br 0 rfl rfl (by simp [ag.bf]) rfl)<|aN) rfl) ?_
  refine aJ (O _ _ (aS [2,3,4,7]) (aS [2,3,4,5,6,7]) ?_)
  refine N1 19<|NO U U [20,21] fun T19 E=>?_
  refine rS (CL (dN.eq (qx (gW ts f.toNat k) ([x.mR]) (some ⟨T,0,none⟩) 1 (by exact yU hst I) (by intro z hz; simp only [ck] at hz; subst hz; exact vZ L) sm) oy) (aD (br 1 rfl rfl (by simp [ag.bf]) rfl)<|aN) rfl) ?_
  refine aJ (E _ _ (aS [2,3,4,7]) ?_)
  refine N1 20<|NO U U [21] fun T20 F=>UI U c_ U<|aJ (F _ _ (aS [2,3,4,7]) ?_)
  refine N1 21<|NO U U [] fun T21 G=>MA U c_ U<|aJ (G _ _ (aS [2,3,4,7]) ?_)
  refine mE<|aO<|KK M ?_
  have H:(ag.cells (nk (eO ts f.toNat k) x.lD))=(ag.cells (eO ts f.toNat (k+1))):=by rw [qF hx]
  rw [H]
  have AB:(ag.cells (nk (gW ts f.toNat k) x.mR))=(ag.cells (gW ts f.toNat (k+1))):=by rw [qz hx]
  rw [AB]
  refine ay<|rP 3 [] mn ?_
  refine aJ ?_
  have K:(vI (f+(((k+1):Nat):Int)))=(vI ((f+(k:Int))+1)):=by exact cI I
  refine bj (V ⟨((k+1),B9),⟨I,C,B⟩⟩ _ _ _ U os (cQ 5<|bk U K<|dx.nil _) (aS [2,3,4,5,6,7]))
 refine xb (rem':=[9,18,19,20,21]) U kr fun T14 N=>eJ (xs:=[.tmp 29]) (cs:=(ag.cells x.lD)) U lU ej U U U U (by simp [Value.cells,ag.bf]) U U fun T=>aJ (N _ _ (aS [1,2,3,6]) (aS [1,2,3,4,5,6]) ?_)
 refine nH [9,18] kr (jc ?_<|jc ?_<|qP)
 rotate_left 1
 ·refine xb (rem':=[9,19,20,21]) U kr fun T16 D=>eJ (xs:=[.tmp 39]) (cs:=(ag.cells x.mR)) U lU ej U U U U (by simp [Value.cells,ag.bf]) U U fun AA=>aJ (D _ _ (aS [2,3,4,7]) (aS [2,3,4,5,6,7]) ?_)
  refine N1 9<|xb (rem':=[19,20,21]) U kr fun T18 O=>?_
  refine rS (CL (dN.eq (qx (eO ts f.toNat k) ([x.lD]) (some ⟨T,0,none⟩) 1 (by exact rM hst I) (by intro z hz; simp only [ck] at hz; subst hz; exact vU L) sm) oy) (aD (br 1 rfl rfl (by simp [ag.bf]) rfl)<|aN) rfl) ?_
  refine aJ (O _ _ (aS [2,3,4,7]) (aS [2,3,4,5,6,7]) ?_)
  refine N1 19<|NO U U [20,21] fun T19 E=>?_
  refine rS (CL (dN.eq (qx (gW ts f.toNat k) ([x.mR]) (some ⟨AA,0,none⟩) 1 (by exact yU hst I) (by intro z hz; simp only [ck] at hz; subst hz; exact vZ L) sm) oy) (aD (br 0 rfl rfl (by simp [ag.bf]) rfl)<|aN) rfl) ?_
  refine aJ (E _ _ (aS [2,3,4,7]) ?_)
  refine N1 20<|NO U U [21] fun T20 F=>UI U c_ U<|aJ (F _ _ (aS [2,3,4,7]) ?_)
  refine N1 21<|NO U U [] fun T21 G=>MA U c_ U<|aJ (G _ _ (aS [2,3,4,7]) ?_)
  refine mE<|aO<|KK M ?_
  have H:(ag.cells (nk (eO ts f.toNat k) x.lD))=(ag.cells (eO ts f.toNat (k+1))):=by rw [qF hx]
  rw [H]
  have AB:(ag.cells (nk (gW ts f.toNat k) x.mR))=(ag.cells (gW ts f.toNat (k+1))):=by rw [qz hx]
  rw [AB]
  refine ay<|rP 3 [] mn ?_
  refine aJ ?_
  have K:(vI (f+(((k+1):Nat):Int)))=(vI ((f+(k:Int))+1)):=by exact cI I
  refine bj (V ⟨((k+1),B9),⟨I,C,B⟩⟩ _ _ _ U os (cQ 5<|bk U K<|dx.nil _) (aS [2,3,4,5,6,7]))
 refine xb (rem':=[18,19,20,21]) U kr fun T16 D=>?_
 refine rS (CL (dN.eq (qx (eO ts f.toNat k) ([x.lD]) (some ⟨T,0,none⟩) 1 (by exact rM hst I) (by intro z hz; simp only [ck] at hz; subst hz; exact vU L) sm) oy) (aD (br 0 rfl rfl (by simp [ag.bf]) rfl)<|aN) rfl) ?_
 refine aJ (D _ _ (aS [1,2,3,6]) (aS [1,2,3,4,5,6]) ?_)
 refine N1 18<|xb (rem':=[19,20,21]) U kr fun T17 Y=>eJ (xs:=[.tmp 39]) (cs:=(ag.cells x.mR)) U lU ej U U U U (by simp [Value.cells,ag.bf]) U U fun b=>aJ (Y _ _ (aS [2,3,4,7]) (aS [2,3,4,5,6,7]) ?_)
 refine N1 19<|NO U U [20,21] fun T19 E=>?_
 refine rS (CL (dN.eq (qx (gW ts f.toNat k) ([x.mR]) (some ⟨b,0,none⟩) 1 (by exact yU hst I) (by intro z hz; simp only [ck] at hz; subst hz; exact vZ L) sm) oy) (aD (br 0 rfl rfl (by simp [ag.bf]) rfl)<|aN) rfl) ?_
 refine aJ (E _ _ (aS [2,3,4,7]) ?_)
 refine N1 20<|NO U U [21] fun T20 F=>UI U c_ U<|aJ (F _ _ (aS [2,3,4,7]) ?_)
 refine N1 21<|NO U U [] fun T21 G=>MA U c_ U<|aJ (G _ _ (aS [2,3,4,7]) ?_)
 refine mE<|aO<|KK M ?_
 have H:(ag.cells (nk (eO ts f.toNat k) x.lD))=(ag.cells (eO ts f.toNat (k+1))):=by rw [qF hx]
 rw [H]
 have AB:(ag.cells (nk (gW ts f.toNat k) x.mR))=(ag.cells (gW ts f.toNat (k+1))):=by rw [qz hx]
 rw [AB]
 refine ay<|rP 3 [] mn ?_
 refine aJ ?_
 have K:(vI (f+(((k+1):Nat):Int)))=(vI ((f+(k:Int))+1)):=by exact cI I
 refine bj (V ⟨((k+1),B9),⟨I,C,B⟩⟩ _ _ _ U os (cQ 5<|bk U K<|dx.nil _) (aS [2,3,4,5,6,7]))
theorem Ld (ts:List ar) (tsA:OA) (tsC:Nat) (f t:Int) (hst: ∀ x∈ts,bX x) (hlen:ts.length≤12) (hf:0≤f∧f≤t∧t≤ts.length):
 dN Tryz.prog 117 [(vA (eM.cells (eM.mk (bO.mk (bE.mk tsA ts.length tsC))))),(vI f),(vI t)] [(rd tsA ts.length 9 (ts.map ar.cells))] (vT [(vA (ag.cells (eO ts f.toNat (t-f).toNat))),(vA (ag.cells (gW ts f.toNat (t-f).toNat)))]):=by
 refine bH kr Tryz.func117 U U fun w0 Q hQ hN=>?_
 try dsimp only
 refine WS fun _ M=>eT U fun a=>xV U U fun b=>xV U U fun d=>AL U ej fun e=>AL U ej fun g=>RK M<|aq fun _ AA=>WS fun _ V=>rP 2 [0,1] (mc 4 U (mc 3 U mn)) ?_
 refine cX (NV f tsA ts.length tsC) (aN) U fun u n=>?_
 obtain ⟨B,C⟩:=u
 try dsimp only
 refine RK V<|aG<|jK 7 U (by exact fun _ h=>h) ?_
 refine GC (L0:=[(3,(vP a)),(4,(vP b)),(5,(vP d)),(6,(vP e)),(7,(vP g))]) (F:=[(rd tsA ts.length 9 (ts.map ar.cells)).ro,(cv B 3 [(vI f)]),(cv C 196 (eM.cells (eM.mk (bO.mk (bE.mk tsA ts.length tsC)))))]) (xs:=(vu ts f.toNat)) (fun k (y:ag×ag×Int)=>(k≤(t-f).toNat)∧(y.2.2=f+(k:Int))) (fun k y=>[(cv g 53 (ag.cells y.2.1)),(cv e 53 (ag.cells y.1)),(cv d 3 [(vI t)]),(cv b 3 [(vI y.2.2)]),(cv a 196 (eM.cells (eM.mk (bO.mk (bE.mk tsA ts.length tsC))))),(rd tsA ts.length 9 (ts.map ar.cells)).ro]) (fun c (z:Unit)=>(c= .exit 0)) (fun _ z=>[(cv g 53 (ag.cells (gW ts f.toNat (t-f).toNat))),(cv e 53 (ag.cells (eO ts f.toNat (t-f).toNat))),(cv d 3 [(vI t)]),(cv b 3 [(vI t)]),(cv a 196 (eM.cells (eM.mk (bO.mk (bE.mk tsA ts.length tsC))))),(rd tsA ts.length 9 (ts.map ar.cells)).ro]) [3,4,5,6,7,8] [0,1,2] (gV,gV,f) U U (G_ ts tsA tsC f B C (by first|assumption|omega|(simp; done)) (by first|assumption|omega|(simp; done)) I) U U U (by exact ⟨Nat.zero_le _,sm⟩) (by simp only [List.forall_mem_cons,List.not_mem_nil,false_imp_iff,implies_true,and_true]; exact ⟨⟨_,sm,(dQ (bY _))⟩,⟨_,sm,(bY _)⟩,⟨_,sm,(bY _)⟩⟩) (by exact EA) U (bw U) ?_ ?_ ?_ ?_
 rotate_left 1
 ·rintro q ⟨v,z2,m⟩ J
  obtain ⟨A,K⟩:=J
  try dsimp only at A K
  try dsimp only
  exfalso; rw [uJ] at A; omega
 ·rintro r id _ Y
  have hc:=Y
  cases hc
  try dsimp only
  refine aI<|KK AA<|aq fun _ D=>dT cy [2,3] [] [] [0,1,2,3,4,5,6,7,8,9] [] U U U U U<|eS U (LW 5 U cf U U)<|eS U (LW 4 U cf U U)<|eN U<|cm U fun T30 E=>MA U c_ U<|aJ (E _ _ (aS [0,1,2,3,4,5,6,7,8,9]) ?_)
  refine cm U fun T31 G=>Tf U c_ U<|aJ (G _ _ (aS [0,1,2,3,4,5,6,7,8,9]) ?_)
  refine f_ U<|KK D<|av<|hQ _ _ _ (sf 0 U U<|kp (vs:=[(vA (ag.cells (eO ts f.toNat (t-f).toNat))),(vA (ag.cells (gW ts f.toNat (t-f).toNat)))]) ⟨⟨_,U,.inl ⟨_,_,cf,qK (vs:=(ag.cells (eO ts f.toNat (t-f).toNat))) 5 U U,U,U⟩⟩,⟨_,U,.inl ⟨_,_,cf,qK (vs:=(ag.cells (gW ts f.toNat (t-f).toNat))) 4 U U,U,U⟩⟩,trivial⟩ fun w hs=>CR ?_ hs)
  show (vT [(vA (ag.cells (eO ts f.toNat (t-f).toNat))),(vA (ag.cells (gW ts f.toNat (t-f).toNat)))])=(vT [(vA (ag.cells (eO ts f.toNat (t-f).toNat))),(vA (ag.cells (gW ts f.toNat (t-f).toNat)))])
  clear hs w hQ hN G T31 E T30 D V AA M
  rfl
 ·rintro s _ Z
  cases Z
 rintro k x ⟨v,z2,m⟩ l ra rb S w1 K13 Qr14 hx AB N H L j
 obtain ⟨hk,rfl⟩:=HD hx
 obtain ⟨A,K⟩:=AB
 try dsimp only at A K
 try dsimp only
 refine WS fun _ O=>AL U ej fun o=>gl U c_ U<|RK O<|ay<|AL U ej fun p=>gl U c_ U<|aJ<|km (fun _ _ h=>h) (aS [2,0,1,3,4,5,6,7,8])<|bj (N _ _ ?_)
 refine aG<|aq fun _ P=>aq fun _ R=>dT cy [2,3] [] [] [0,1,2,5,6,7,8] [] U U U U U<|eS U (LW 2 U cf U U)<|eS U (LW 1 U cf U U)<|eN U<|cm U fun T21 W=>Tf U c_ U<|aJ (W _ _ (aS [0,1,2,5,6,7,8]) ?_)
 refine cm U fun T22 X=>Vo U c_ U<|aJ (X _ _ (aS [0,1,2,5,6,7,8]) ?_)
 refine f_ U<|KK R<|WS fun _ T=>rP 3 [0,1] (mc 6 U (mc 5 U mn)) ?_
 refine RK T<|cG U (aV fun i=>?_) (aW fun i=>?_)
 ·refine bL<|ai<|fM U ?_
  rw [show m=t from by omega]
  obtain rfl:k=(t-f).toNat:=by omega
  exact L _ () _ _ (by exact U) (aS [0,3,4,5,6,7,8])
 refine WK P<|ay<|rP 2 [] (mc 6 U mn) ?_
 refine XR U zM U U<|aJ<|aO ?_
 exact H ((eO ts f.toNat k),(gW ts f.toNat k),(m+1)) _ _ (by refine ⟨I,?_⟩; dsimp only; omega) (aS [0,3,4,5,6,7,8])
end
section
open Go.RowKit
theorem Hc (i:Int) (s:cK) (ts:List ar) (tsA:OA) (tsC g1:Nat) (hst: ∀ x∈ts,bX x) (hlen:ts.length≤12):
 dN Tryz.prog 133 [(vI i),(vA (cK.cells s)),(vP g1)] [(rd tsA ts.length 9 (ts.map ar.cells)),(cv g1 196 (eM.cells (eM.mk (bO.mk (bE.mk tsA ts.length tsC)))))] (vB (!(decide (gh ts s)))):=by
 refine bH kr Tryz.func133 U U fun AA Q hQ hN=>?_
 try dsimp only
 refine WS fun _ C=>eT U fun G=>rP 1 [] mn ?_
 refine RK C<|aq fun _ A=>m7 cy [0,1,2,3,4,5,6] [7,8,9,10,11,12,13,14,15,16,17,18,19,20,21,22,23,24,25,26] [false,false,false,false,false,false,false] [] [(cv G 120 (cK.cells s)),(rd tsA ts.length 9 (ts.map ar.cells)).ro,(cv g1 196 (eM.cells (eM.mk (bO.mk (bE.mk tsA ts.length tsC))))).ro] [] kr (aS [0,1,2]) (aS [])<|eS U (FA 0 U eP U)<|eS U (FA 0 U eP U)<|eS U (Kd (vS tsA ts.length tsC) 2 U cf U U)<|eS U (LN U Uw)<|eS U (BI U (x_ ⟨I,I⟩))<|eS U (FA 0 U eP U)<|eS U (L1 (vI s.bD) 0 U cf U U)<|eN U<|N1 7<|NO U U [8,9,10,11,12,13,14,15,16,17,18,19,20,21,22,23,24,25,26] fun T4 D=>eJ (xs:=[.tmp 12]) (cs:=[(vI s.bD)]) U dJ kY U U U U (by simp [Value.cells]) U U fun H=>RD D 1 U<|Rp [14,15,16,17,18,19,20,21,22,23,24,25,26,27,28,29,30,31,5] kr kr U _ U U (aS [1,2,3]) ?_
 refine dS (CL (dN.eq (qa 0 ((ts.length:Int)-1) ([s.bD]) (some ⟨H,0,none⟩) 1 (by (simp; done))) cH) (aD (br 0 U U (by simp [bR]) U)<|aN) U) ?_
 refine dP 2 [] mn ?_
 refine iu (t:=16) U (bB fun B=>?_) (bx fun B=>?_)
 ·refine lP 9 U<|dP 7 [] mn ?_
  refine cO<|RK A<|av<|Q1 hQ U U U ?_
  (refine cB ?_; rw [bI (DY I)]; rfl)
 refine lP 1 U<|dS (LP (ag.cells s.nB) 1 U cf U U U)<|dP 5 [0,1] (mr 3 U (mc 1 U mn)) ?_
 obtain ⟨x,hx⟩:=aM ts ((s.bD).toNat) I
 have E:=bQ ar.cells hx
 refine dS (IA ((s.bD).toNat) U (aF 2 U) zJ dc I I)<|dS (nv ((((s.bD).toNat)*9)+1) U (aF 2 U) (Nat.mul_pos I dc) eP U) ?_
 have F:=(hst x (aQ hx)).2.1
 simp only [er] at F
 refine dS (nv ((((s.bD).toNat)*9)+1) U (aF 2 U) (Nat.mul_pos I dc) eP U)<|dS (hP ((s.bD).toNat) 1 (vI x.lD.Lo) U cf (aF 2 U) E U dc U)<|lP 1 U<|dS (CL (xN s.nB 0 (x.lD.Lo-1)) (aN) U)<|dP 3 [] mn ?_
 refine cO<|RK A<|av<|Q1 hQ U U U ?_
 exact congrArg (fun b=>vB (!b)) (g5.2 (Cs I hx).symm)
theorem ET (l:List cK) (lA:OA) (lC:Nat) (f:Value) (p:Int→cK→Bool) (X:aB) (hf: ∀ x0 x1,(∃ k:Nat,x0=(k:Int)∧l[k]? =some x1)→EF Tryz.prog f [.int .i64 x0,.agg (cK.cells x1).toArray] [X] (.bool (p x0 x1))) (hlen:l.length≤1000000):
 qB Tryz.prog 132 [(vS lA l.length lC),f] [(rd lA l.length 3 (l.map cK.cells)),X] (fun (x:(OA)×Nat)=>(vS x.1 ((Jy (fun jj yy=>p (jj:Int) yy) l).length) x.2)) (fun (x:(OA)×Nat)=>True) (fun (x:(OA)×Nat)=>[(own x.1 x.2 3 1 ((Jy (fun jj yy=>p (jj:Int) yy) l).map iC))]):=by
 refine fO kr Tryz.func132 U U fun W Q hQ hN=>?_
 try dsimp only
 refine WS fun _ L=>bG 1 U<|RK L<|WS fun _ M=>bG 1 U<|RK M<|aq fun _ N=>WS fun _ O=>rP 3 [] mn ?_
 refine RK O<|aG<|e9 3 1 ?_
 have A:(0≤l.length):=by exact Nat.zero_le _
 refine bS (ι:={z:Nat×(OA)×Nat // (z.1≤l.length)}) [0,1,8,9] [1,2] U U (fun z=>[(5,(vS z.1.2.1 ((ug (fun jj yy=>p (jj:Int) yy) l z.1.1).length) z.1.2.2)),(10,(vI (z.1.1:Int)))]) (fun z=>[(own z.1.2.1 z.1.2.2 3 1 ((ug (fun jj yy=>p (jj:Int) yy) l z.1.1).map iC))]) (fun _=>rfl) (fun _=>rfl) (fun z=>l.length-z.1.1) ⟨(0,none,0),A⟩ (bw U) (aS [1,2,0]) ?_
 clear A
 rintro ⟨⟨i,a,c⟩,B⟩ J5 C
 try dsimp only at B
 try dsimp only
 refine WS fun _ P=>rP 1 [] mn ?_
 refine RK P<|aq fun _ R=>bV U (aW fun V=>?_) (aV fun V=>?_)
 ·refine bL<|ai<|ai<|aI<|KK N<|WS fun _ F=>?_
  rw [Ok (p:=fun (i:Nat) x=>p (i:Int) x) (show i=l.length by omega)]
  refine rP 2 [] mn ?_
  refine RK F<|av<|LX hQ (a,c) [2] [] mn U U U U ?_
  trivial
 refine WK R<|aq fun _ G=>aG<|WS fun _ D=>rP 1 [] mn ?_
 obtain ⟨x,hx⟩:=aM l i I
 have S:=bQ cK.cells hx
 refine rS (IA i U (aF 0 U) Mz dc I I)<|rS (mq i 0 (cK.cells x) U cf (aF 0 U) S U dc U U)<|AL U F7 fun T=>bG 1 U<|gl U P5 U<|RK D<|WS fun _ E=>rP 3 [] (mc 0 U mn) ?_
 refine rS (SX (qL U U U (hf (i:Int) x ⟨i,U,hx⟩) (bq [2])) U U)<|RK E<|bV U (fun hp=>?_) (fun hp=>?_)
 ·refine cx<|aO<|KK G<|ay ?_
  rw [← Ov (p:=fun (i:Nat) x=>p (i:Int) x) hx hp]
  refine rP 2 [] mn ?_
  refine aJ ?_
  have AB:(vI (((i+1):Nat):Int))=(vI ((i:Int)+1)):=by exact cI I
  refine bj (C ⟨((i+1),a,c),(by first|omega|(simp only []; omega))⟩ _ _ _ U os (cQ 5<|bk U AB<|dx.nil _) (aS [1,2,3]))
 refine ay<|rP 2 [] mn ?_
 refine eJ (xs:=[.tmp 20]) (cs:=[(vI (i:Int))]) U dJ kY U U U U (by simp [Value.cells]) U U fun AA=>?_
 refine dR (es2:=(List.map iC (ug (fun jj yy=>p (jj:Int) yy) l (i+1)))) (m':=(ug (fun jj yy=>p (jj:Int) yy) l (i+1)).length) 4 U U U ti U U sm (br (es:=List.map iC [(i:Int)]) 0 U U (by simp [bR]) U) (lM _) (by have:=Cb (p:=fun (i:Nat) x=>p (i:Int) x) (l:=l) (n:=i); simp; omega) (by have:=Cb (p:=fun (i:Nat) x=>p (i:Int) x) (l:=l) (n:=i); simp only [maxLen]; omega) (by rw [K6 hx hp]; simp) sm U fun J K=>?_
 try dsimp only
 refine bG 1 U<|aJ<|aO<|KK G<|ay<|rP 2 [] mn ?_
 refine aJ ?_
 have H:(vI (((i+1):Nat):Int))=(vI ((i:Int)+1)):=by exact cI I
 refine bj (C ⟨((i+1),J,K),(by first|omega|(simp only []; omega))⟩ _ _ _ U os (cQ 5<|bk U H<|dx.nil _) (aS [2,3,4]))
theorem CI (ts:List ar) (tsA:OA) (tsC:Nat) (l:List cK) (lA:OA) (lC:Nat) (hst: ∀ x∈ts,bX x) (hlen:ts.length≤12) (hl:l.length≤4):
 dN Tryz.prog 116 [(vA (eM.cells (eM.mk (bO.mk (bE.mk tsA ts.length tsC))))),(vS lA l.length lC)] [(rd tsA ts.length 9 (ts.map ar.cells)),(rd lA l.length 3 (l.map cK.cells))] (vB (decide (∀ s∈l,gh ts s))):=by
 refine bH kr Tryz.func116 U U fun J Q hQ hN=>?_
 try dsimp only
 refine WS fun _ B=>eT U fun A=>bG 1 U<|RK B<|WS fun _ C=>rP 1 [] mn ?_
 refine rS (FU U) ?_
 refine cX (ET l lA lC (Value.func (.func 133) [].toArray [(vP A)].toArray) (fun E D=>(!(decide (gh ts D)))) (dV [(rd tsA ts.length 9 (ts.map ar.cells)),(cv A 196 (eM.cells (eM.mk (bO.mk (bE.mk tsA ts.length tsC)))))]) (by intro E D _; exact lJ (fi:=[]) (ca:=[(vP A)]) (kh (Hc E D ts tsA tsC A (by first|assumption|omega) (by first|assumption|omega)) (bq [0,1]))) I) (gX 2 U U<|aD (kg (bq [1,0]))<|aN) U fun G F=>?_
 obtain ⟨H,AA⟩:=G
 try dsimp only
 refine rP 3 [] mn ?_
 refine RK C<|av<|Q1 hQ U U U ?_
 exact congrArg Value.bool (decide_eq_decide.2 (by rw [show ∀ n:Nat,((n:Int)=0)↔n=0 from fun n=>by omega,H0]; simp only [Bool.not_eq_false',decide_eq_true_eq]; exact ⟨fun h s hs=>by obtain ⟨k,hk⟩:=List.getElem?_of_mem hs; exact h k s hk,fun h k s hk=>h s (List.mem_of_getElem? hk)⟩))
theorem ER (z:ag) (hz:mB z):
 dN Tryz.prog 119 [(vA (ag.cells z))] [] (vA (ag.cells (pq z))):=by
 unfold mB at hz
 refine bH kr Tryz.func119 U U fun E Q hQ hN=>?_
 try dsimp only
 refine WS fun _ A=>eT U fun C=>AL U ej fun D=>RK A<|WS fun _ B=>fD 2 [] (mc 1 U mn) U<|rS (NG U ⟨I,I⟩)<|rP 2 [] (mc 1 U mn) ?_
 refine rS (NG U ⟨I,I⟩)<|rS (SX (bp (xs:=[(0,.tmp 5),(1,.tmp 8)]) (cs:=(ag.cells (ag.mk (-z.Hi) (-z.Lo)))) U U (bo hU U)) U U)<|gl U c_ U<|RK B<|av ?_
 exact D8 hQ [0] (mc 0 U mn) U U
theorem SW (ts:List ar) (tsA:OA) (tsC:Nat) (s:cK) (hlen:ts.length≤1000000) (hside: ∀ x∈ts,0≤x.jD∧x.jD≤255):
 dN Tryz.prog 93 [(vA (bO.cells (bO.mk (bE.mk tsA ts.length tsC)))),(vA (cK.cells s))] [(rd tsA ts.length 9 (ts.map ar.cells))] (vT [(vA (ag.cells (Q9 ts s))),(vI (GR ts s))]):=by
 refine bH kr Tryz.func93 U U fun Z Q hQ hN=>?_
 try dsimp only
 refine WS fun _ K=>eT U fun V=>eT U fun W=>AL U ej fun X=>bG 1 U<|RK K<|WS fun _ L=>fD 1 [] (mc 2 U mn) U<|rS (CL (FN ts tsA tsC hlen hside) (bq [3]) U)<|bG 3 U<|AL U Ko fun Y=>gl U JL U<|bG 1 U<|RK L<|aq fun _ M=>WS fun _ N=>rP 2 [] mn ?_
 refine RK N<|cG U (bB fun he=>?_) (bx fun he=>?_)
 ·refine WS fun _ O=>rS (SX (bp (xs:=[]) (cs:=(ag.cells (ag.mk 0 0))) U U (bo hU U)) U U)<|bG 1 U<|rV U c_ U<|rP 1 [] mn ?_
  refine RK O<|av<|nE hQ [0] (mc 1 U mn) U ?_
  (have e:=JF (s:=s) (zZ he).1; rw [e.1,e.2,(zZ he).2]<;>rfl)
 refine WK M<|aq fun _ C=>WS fun _ D=>?_
 have B:=EH he
 have H:=kH B
 have R:=lQ B
 refine rP 2 [0,1] (mc 0 U (mc 2 U mn)) ?_
 refine eJ (xs:=[.tmp 20]) (cs:=(cK.cells s)) U Mz F7 U U U U (by simp [Value.cells,cK.bf]) U U fun AB=>?_
 refine rS (CL (dN.eq (CI ts tsA tsC ([s]) (some ⟨AB,0,none⟩) 1 asm asm (by (simp; done))) Ev) (gX 5 U U<|aD (br 0 U U (by simp [cK.bf]) U)<|aN) U) ?_
 refine rP 1 [] mn ?_
 refine RK D<|cG U (bB fun A=>?_) (bx fun A=>?_)
 ·refine WS fun _ E=>rS (SX (bp (xs:=[]) (cs:=(ag.cells (ag.mk 0 0))) U U (bo hU U)) U U)<|G6 U c_ U<|rP 1 [] mn ?_
  refine RK E<|av<|nE hQ [0] (mc 2 U mn) U ?_
  (have e:=LQ B A; rw [e.1,e.2]<;>rfl)
 refine WK C<|WS fun _ F=>?_
 have AA:=A.1
 have P:=si H A
 refine fD 3 [0,1] (mc 1 U (mc 3 U mn)) U<|rS (CL (Ld ts tsA tsC 0 s.bD asm asm I) (bq [5]) U)<|bG 3 U<|AL U ej fun S=>AL U ej fun T=>rV U c_ U<|gl U c_ U<|RK F<|WS fun _ G=>rP 2 [] (mc 1 U mn) ?_
 refine rS (LP (ag.cells s.nB) 5 U cf U U U)<|eJ (xs:=[.tmp 34]) (cs:=(ag.cells s.nB)) U lU ej U U U U (by simp [Value.cells,ag.bf]) U U fun J=>?_
 refine rS (CL (dN.eq (qx (eO ts (0:Int).toNat (s.bD-0).toNat) ([s.nB]) (some ⟨J,0,none⟩) 1 (by exact rM H I) (by intro z hz; simp only [ck] at hz; subst hz; exact P) sm) oy) (aD (br 0 rfl rfl (by simp [ag.bf]) rfl)<|aN) rfl) ?_
 refine MA U c_ U<|rP 1 [] mn ?_
 refine RK G<|av<|nE hQ [0] (mc 5 U mn) U ?_
 (have e:=yo B A; rw [e.1,e.2]; unfold M_; rw [show (s.bD-0).toNat=s.bD.toNat by rw [Int.sub_zero]]<;>rfl)
theorem Pr (ts:List ar) (tsA:OA) (tsC:Nat) (p:cK) (q:cK) (hlen:ts.length≤1000000) (hside: ∀ x∈ts,0≤x.jD∧x.jD≤255):
 dN Tryz.prog 94 [(vA (bO.cells (bO.mk (bE.mk tsA ts.length tsC)))),(vA (cK.cells p)),(vA (cK.cells q))] [(rd tsA ts.length 9 (ts.map ar.cells))] (vT [(vA (ag.cells (lL ts p q))),(vI (mV ts p q))]):=by
 refine bH kr Tryz.func94 U U fun w Q hQ hN=>?_
 try dsimp only
 refine WS fun _ c=>eT U fun r=>eT U fun s=>eT U fun t=>AL U ej fun u=>bG 1 U<|RK c<|WS fun _ d=>fD 1 [] (mc 3 U mn) U<|rS (CL (FN ts tsA tsC hlen hside) (bq [4]) U)<|bG 3 U<|AL U Ko fun v=>gl U JL U<|bG 1 U<|RK d<|aq fun _ g=>WS fun _ h=>rP 2 [] mn ?_
 refine RK h<|cG U (bB fun he=>?_) (bx fun he=>?_)
 ·refine WS fun _ G=>rS (SX (bp (xs:=[]) (cs:=(ag.cells (ag.mk 0 0))) U U (bo hU U)) U U)<|bG 1 U<|rV U c_ U<|rP 1 [] mn ?_
  refine RK G<|av<|nE hQ [0] (mc 1 U mn) U ?_
  (have e:=wN (a:=p) (b:=q) (zZ he).1; rw [e.1,e.2,(zZ he).2]<;>rfl)
 refine WK g<|aq fun _ H=>WS fun _ AC=>?_
 have A:=EH he
 have F:=kH A
 have j:=lQ A
 refine rP 3 [0,1,2] (mc 0 U (mc 3 U (mc 2 U mn))) ?_
 refine eJ (xs:=[.tmp 22,.tmp 23]) (cs:=((cK.cells p)++(cK.cells q))) U Mz F7 U U U U (by simp [Value.cells,cK.bf]) U U fun X=>?_
 refine rS (CL (dN.eq (CI ts tsA tsC ([p,q]) (some ⟨X,0,none⟩) 2 asm asm (by (simp; done))) FG) (gX 6 U U<|aD (br 0 U U (by simp [cK.bf]) U)<|aN) U) ?_
 refine rP 1 [] mn ?_
 refine RK AC<|cG U (bB fun D=>?_) (bx fun D=>?_)
 ·refine WS fun _ J=>rS (SX (bp (xs:=[]) (cs:=(ag.cells (ag.mk 0 0))) U U (bo hU U)) U U)<|G6 U c_ U<|rP 1 [] mn ?_
  refine RK J<|av<|nE hQ [0] (mc 2 U mn) U ?_
  (have e:=p9 A D; rw [e.1,e.2]<;>rfl)
 refine WK H<|WS fun _ K=>?_
 obtain ⟨hp,hq⟩:=D
 have n:=hp.1
 have o:=hq.1
 have i:=si F hp
 have W:=si F hq
 have V:=AB i
 have B:=rM F (f:=(min p.bD q.bD).toNat) (k:=(max p.bD q.bD-min p.bD q.bD).toNat) I
 refine fD 5 [0,1,2] (mc 1 U (mc 4 U (mc 3 U mn))) U<|rS (MN U)<|fD 4 [0,1] (mc 4 U (mc 3 U mn)) U<|rS (MX U)<|rS (CL (Ld ts tsA tsC (min p.bD q.bD) (max p.bD q.bD) asm asm I) (bq [6]) U)<|bG 3 U<|AL U ej fun l=>AL U ej fun m=>rV U c_ U<|gl U c_ U<|RK K<|aq fun _ C=>WS fun _ L=>rP 5 [0,1] (mc 5 U (mc 6 U mn)) ?_
 refine RK L<|bV U (aW fun E=>?_) (aV fun E=>?_)
 ·refine WK C<|aq fun _ N=>dT cy [6,7,8] [] [] [0,1,2,3,5,6,7,8] [] U U U U U<|eS U (LW 1 U cf U U)<|eS U (FA 1 U eP U)<|eS U (LP (ag.cells q.nB) 4 U cf U U U)<|eS U (FA 1 U eP U)<|eS U (LP (ag.cells p.nB) 5 U cf U U U)<|eS U (CL (ER p.nB asm) (aN) U)<|eS U (AG U)<|eN U<|cm U fun T26 S=>eJ (xs:=[.tmp 52,.tmp 55]) (cs:=((ag.cells q.nB)++(ag.cells (pq p.nB)))) U lU ej U U U U (by simp [Value.cells,ag.bf]) U U fun Z=>aJ (S _ _ (aS [1,2,3,4,6,7,8,9]) ?_)
  refine cm U fun T28 T=>?_
  refine rS (CL (dN.eq (qx (eO ts (min p.bD q.bD).toNat ((max p.bD q.bD)-(min p.bD q.bD)).toNat) ([q.nB,(pq p.nB)]) (some ⟨Z,0,none⟩) 2 (by first|exact B|exact AB B) (by intro z hz; simp only [bU,List.not_mem_nil,or_false] at hz; rcases hz with rfl|rfl; exact W; exact V) sm) Db) (aD (br 0 rfl rfl (by simp [ag.bf]) rfl)<|aN) rfl) ?_
  refine aJ (T _ _ (aS [1,2,3,4,6,7,8,9]) ?_)
  refine cm U fun T29 AA=>MA U c_ U<|aJ (AA _ _ (aS [1,2,3,4,6,7,8,9]) ?_)
  refine f_ U<|KK N<|av<|nE hQ [0] (mc 5 U mn) U ?_
  (have e:=mj A ⟨hp,hq⟩; rw [e.1,e.2]; unfold kK zp; rw [if_neg E]<;>rfl)
 refine ay<|rP 1 [] (mc 1 U mn) ?_
 refine rS (CL (ER (eO ts (min p.bD q.bD).toNat ((max p.bD q.bD)-(min p.bD q.bD)).toNat) asm) (aN) U)<|rV U c_ U<|RK C<|aq fun _ M=>dT cy [6,7,8] [] [] [0,1,2,3,5,6,7,8] [] U U U U U<|eS U (LW 1 U cf U U)<|eS U (FA 1 U eP U)<|eS U (LP (ag.cells q.nB) 4 U cf U U U)<|eS U (FA 1 U eP U)<|eS U (LP (ag.cells p.nB) 5 U cf U U U)<|eS U (CL (ER p.nB asm) (aN) U)<|eS U (AG U)<|eN U<|cm U fun T21 O=>eJ (xs:=[.tmp 52,.tmp 55]) (cs:=((ag.cells q.nB)++(ag.cells (pq p.nB)))) U lU ej U U U U (by simp [Value.cells,ag.bf]) U U fun Y=>aJ (O _ _ (aS [1,2,3,4,6,7,8,9]) ?_)
 refine cm U fun T23 P=>?_
 refine rS (CL (dN.eq (qx (pq (eO ts (min p.bD q.bD).toNat ((max p.bD q.bD)-(min p.bD q.bD)).toNat)) ([q.nB,(pq p.nB)]) (some ⟨Y,0,none⟩) 2 (by first|exact B|exact AB B) (by intro z hz; simp only [bU,List.not_mem_nil,or_false] at hz; rcases hz with rfl|rfl; exact W; exact V) sm) Db) (aD (br 0 rfl rfl (by simp [ag.bf]) rfl)<|aN) rfl) ?_
 refine aJ (P _ _ (aS [1,2,3,4,6,7,8,9]) ?_)
 refine cm U fun T24 R=>MA U c_ U<|aJ (R _ _ (aS [1,2,3,4,6,7,8,9]) ?_)
 refine f_ U<|KK M<|av<|nE hQ [0] (mc 5 U mn) U ?_
 (have e:=mj A ⟨hp,hq⟩; rw [e.1,e.2]; unfold kK zp; rw [if_pos E]<;>rfl)
theorem sR (ts:List ar) (tsA:OA) (tsC:Nat) (s:cK) (hst: ∀ x∈ts,bX x) (hlen:ts.length≤12):
 dN Tryz.prog 139 [(vA (bO.cells (bO.mk (bE.mk tsA ts.length tsC)))),(vA (cK.cells s))] [(rd tsA ts.length 9 (ts.map ar.cells))] (vB (decide (gh ts s))):=by
 refine bH kr Tryz.func139 U U fun H Q hQ hN=>?_
 try dsimp only
 refine WS fun _ C=>eT U fun F=>eT U fun G=>bG 1 U<|RK C<|aq fun _ A=>dy cy 22 kr<|mz 6 [0,1] (mc 0 U (mc 1 U mn)) U<|dS (CL (pT s.bD 0 ((ts.length:Int)-1)) (aN) U)<|dP 1 [] mn ?_
 refine j0 (t:=12) U (aW fun B=>?_) (aV fun B=>?_)
 ·refine lP 8 U<|dP 6 [] mn ?_
  refine cO<|RK A<|av<|Q1 hQ U U U ?_
  (refine cB ?_; rw [bI (DY I)])
 refine lP 1 U<|dS (LP (ag.cells s.nB) 0 U cf U U U)<|dP 4 [0,1] (mc 1 U (mc 0 U mn)) ?_
 obtain ⟨x,hx⟩:=aM ts ((s.bD).toNat) I
 have D:=bQ ar.cells hx
 refine dS (IA ((s.bD).toNat) U (aF 2 U) zJ dc I I)<|dS (nv ((((s.bD).toNat)*9)+1) U (aF 2 U) (Nat.mul_pos I dc) eP U) ?_
 have E:=(hst x (aQ hx)).2.1
 simp only [er] at E
 refine dS (nv ((((s.bD).toNat)*9)+1) U (aF 2 U) (Nat.mul_pos I dc) eP U)<|dS (hP ((s.bD).toNat) 1 (vI x.lD.Lo) U cf (aF 2 U) D U dc U)<|lP 1 U<|dS (CL (qj s.nB 0 (x.lD.Lo-1)) (aN) U)<|dP 2 [] mn ?_
 refine cO<|RK A<|av<|Q1 hQ U U U ?_
 exact cB (g5.2 (Cs I hx).symm)
theorem AA (ts:List ar) (tsA:OA) (tsC:Nat) (f t:Int) (hst: ∀ x∈ts,bX x) (hlen:ts.length≤12) (hf:0≤f∧f≤t∧t≤ts.length):
 dN Tryz.prog 161 [(vA (bO.cells (bO.mk (bE.mk tsA ts.length tsC)))),(vI f),(vI t)] [(rd tsA ts.length 9 (ts.map ar.cells))] (vT [(vA (ag.cells (eO ts f.toNat (t-f).toNat))),(vA (ag.cells (gW ts f.toNat (t-f).toNat)))]):=by
 refine bH kr Tryz.func161 U U fun i Q hQ hN=>?_
 try dsimp only
 refine WS fun _ R=>eT U fun e=>AL U ej fun g=>AL U ej fun h=>RK R<|WS fun _ S=>AL U ej fun a=>AL U ej fun b=>RK S<|aq fun _ T=>WS fun _ AB=>rP 2 [] mn ?_
 refine RK AB<|aG ?_
 have A:(0≤(t-f).toNat):=by exact Nat.zero_le _
 have K:(vI (f+(0:Int)))=(vI f):=by exact cI I
 refine bS (ι:={z:Nat // (z≤(t-f).toNat)}) [1,2,3,6,7,8,9] [2,3,4,5] U U (fun z=>[(10,(vI (f+(z.1:Int))))]) (fun z=>[(cv b 53 (ag.cells (gW ts f.toNat z.1))),(cv a 53 (ag.cells (eO ts f.toNat z.1)))]) (fun _=>rfl) (fun _=>rfl) (fun z=>(t-f).toNat-z.1) ⟨0,A⟩ (bk U K<|dx.nil _) (aS [2,3,4,5,0,1]) ?_
 clear A
 rintro ⟨k,V⟩ J11 B
 try dsimp only
 refine aq fun _ C=>WS fun _ D=>rP 3 [] mn ?_
 refine RK D<|bV U (aW fun P=>?_) (aV fun P=>?_)
 ·refine bL<|ai<|ai<|aI<|KK T<|aq fun _ H=>dT cy [2,3] [] [] [2,3,4,5] [] U U U U U<|eS U (LW 3 U cf U U)<|eS U (LW 2 U cf U U)<|eN U<|cm U fun T23 AC=>rV U c_ U<|aJ (AC _ _ (aS [2,3,4,5]) ?_)
  refine cm U fun T24 J=>gl U c_ U<|aJ (J _ _ (aS [2,3,4,5]) ?_)
  refine f_ U<|KK H<|av<|nE hQ [0,1] (mc 1 U (mc 0 U mn)) U ?_
  obtain rfl:k=(t-f).toNat:=I; rfl
 refine WK C<|aq fun _ E=>aG<|WS fun _ F=>rP 3 [] (mc 2 U mn) ?_
 obtain ⟨x,hx⟩:=aM ts (f.toNat+k) I
 have Y:=bQ ar.cells hx
 refine rS (IA (f.toNat+k) U (aF 3 U) zJ dc I I)<|rS (mq (f.toNat+k) 0 (ar.cells x) U cf (aF 3 U) Y U dc U U)<|AL U G2 fun Z=>gl U L5 U<|RK F<|WS fun _ G=>?_
 have O:=hst x (aQ hx)
 have d:=m6 hst f.toNat k
 have c:=Gm hst f.toNat k
 have W:=O.2.1
 have X:=O.2.2.1
 simp only [er] at W X
 refine fD 12 [0,1,0,1] (mc 6 U (mc 0 U mn)) U<|rS (SX (bp (xs:=[(0,.tmp 28),(1,.tmp 34)]) (cs:=(ag.cells (ag.mk (((eO ts f.toNat k).Lo)+x.lD.Lo) (((eO ts f.toNat k).Hi)+x.lD.Hi)))) U U (bo hU U)) U U)<|UI U c_ U<|RK G<|ay<|rP 12 [0,1,0,1] (mc 5 U (mc 0 U mn)) ?_
 refine rS (SX (bp (xs:=[(0,.tmp 41),(1,.tmp 47)]) (cs:=(ag.cells (ag.mk (((gW ts f.toNat k).Lo)+x.mR.Lo) (((gW ts f.toNat k).Hi)+x.mR.Hi)))) U U (bo hU U)) U U)<|MA U c_ U<|aJ<|aO<|KK E ?_
 have L:(ag.cells (ag.mk (((eO ts f.toNat k).Lo)+x.lD.Lo) (((eO ts f.toNat k).Hi)+x.lD.Hi)))=(ag.cells (eO ts f.toNat (k+1))):=by rw [qF hx]; rfl
 rw [L]
 have M:(ag.cells (ag.mk (((gW ts f.toNat k).Lo)+x.mR.Lo) (((gW ts f.toNat k).Hi)+x.mR.Hi)))=(ag.cells (gW ts f.toNat (k+1))):=by rw [qz hx]; rfl
 rw [M]
 refine ay<|rP 3 [] mn ?_
 refine aJ ?_
 have N:(vI (f+(((k+1):Nat):Int)))=(vI ((f+(k:Int))+1)):=by exact cI I
 refine bj (B ⟨(k+1),(by first|omega|(simp only []; omega))⟩ _ _ _ U os (cQ 7<|bk U N<|dx.nil _) (aS [1,2,3,4,5,6]))
end
section
open Go.RowKit
theorem Qd (l:bg) (kA:OA) (kC:Nat) (az:List RA) (cA:OA) (cC:Nat) (bA:OA) (bC:Nat) (hin:ep l az):
 dN Tryz.prog 106 [(vA (cw.cells (kj l kA kC cA cC bA bC)))] [(rd kA l.aR.length 9 (l.aR.map ar.cells)),(rd cA l.aj.length 2 (List.zipWith ax.cells l.aj az)),(dV (a_ ax.gG l.aj az)),(rd bA l.ab.length 4 (l.ab.map bJ.cells))] (vB (decide (eY l))):=by
 have R:=hin.sZ
 have P:=hin.rn
 have N:=hin.n_
 have O:=hin.sB
 refine bH kr Tryz.func106 U U fun T Q hQ hN=>?_
 try dsimp only
 refine WS fun _ G=>eT U fun S=>bG 1 U<|RK G<|WS fun _ A=>rP 2 [] (mc 0 U mn) ?_
 refine eJ (xs:=[.tmp 4]) (cs:=[(vI l.iN)]) U dJ kY U U U U (by simp [Value.cells]) U U fun H=>?_
 refine rS (CL (dN.eq (iF 1 5000 ([l.iN]) (some ⟨H,0,none⟩) 1 (by (simp; done))) cH) (aD (br 0 U U (by simp [bR]) U)<|aN) U) ?_
 refine rP 1 [] mn ?_
 refine cu (t:=7) U (aW fun K=>?_) (aV fun K=>?_)
 ·refine rP 36 [] mn ?_
  refine RK A<|av<|Q1 hQ U U U ?_
  exact cB (bI (by unfold eY; omega)).symm
 refine rP 3 [] (mc 1 U mn) ?_
 refine eJ (xs:=[.tmp 10]) (cs:=[(vI (l.aj.length:Int))]) U dJ kY U U U U (by simp [Value.cells]) U U fun AA=>?_
 refine rS (CL (dN.eq (iF 1 4 ([(l.aj.length:Int)]) (some ⟨AA,0,none⟩) 1 (by (simp; done))) cH) (aD (br 0 U U (by simp [bR]) U)<|aN) U) ?_
 refine rP 2 [] mn ?_
 refine cu (t:=14) U (aW fun L=>?_) (aV fun L=>?_)
 ·refine rP 29 [] mn ?_
  refine RK A<|av<|Q1 hQ U U U ?_
  exact cB (bI (by unfold eY; omega)).symm
 refine rP 3 [] (mc 2 U mn) ?_
 refine eJ (xs:=[.tmp 17]) (cs:=[(vI (l.ab.length:Int))]) U dJ kY U U U U (by simp [Value.cells]) U U fun J=>?_
 refine rS (CL (dN.eq (iF 1 6 ([(l.ab.length:Int)]) (some ⟨J,0,none⟩) 1 (by (simp; done))) cH) (aD (br 0 U U (by simp [bR]) U)<|aN) U) ?_
 refine rP 2 [] mn ?_
 refine cu (t:=21) U (aW fun M=>?_) (aV fun M=>?_)
 ·refine rP 22 [] mn ?_
  refine RK A<|av<|Q1 hQ U U U ?_
  exact cB (bI (by unfold eY; omega)).symm
 refine rP 6 [] (mc 3 U mn) ?_
 refine eJ (xs:=[.tmp 27]) (cs:=[(vI l.bM)]) U dJ kY U U U U (by simp [Value.cells]) U U fun B=>?_
 refine rS (CL (dN.eq (iF 0 ((l.ab.length:Int)-1) ([l.bM]) (some ⟨B,0,none⟩) 1 (by (simp; done))) cH) (aD (br 0 U U (by simp [bR]) U)<|aN) U) ?_
 refine rP 2 [] mn ?_
 refine cu (t:=31) U (aW fun E=>?_) (aV fun E=>?_)
 ·refine rP 12 [] mn ?_
  refine RK A<|av<|Q1 hQ U U U ?_
  exact cB (bI (by unfold eY; omega)).symm
 refine rP 2 [] (mc 4 U mn) ?_
 refine eJ (xs:=[.tmp 33]) (cs:=[(vI l.fT)]) U dJ kY U U U U (by simp [Value.cells]) U U fun C=>?_
 refine rS (CL (dN.eq (iF 0 3 ([l.fT]) (some ⟨C,0,none⟩) 1 (by (simp; done))) cH) (aD (br 0 U U (by simp [bR]) U)<|aN) U) ?_
 refine rP 2 [] mn ?_
 refine cu (t:=37) U (aW fun F=>?_) (aV fun F=>?_)
 ·refine rP 6 [] mn ?_
  refine RK A<|av<|Q1 hQ U U U ?_
  exact cB (bI (by unfold eY; omega)).symm
 refine rP 2 [] (mc 5 U mn) ?_
 refine eJ (xs:=[.tmp 39]) (cs:=[(vI l.dE)]) U dJ kY U U U U (by simp [Value.cells]) U U fun D=>?_
 refine rS (CL (dN.eq (iF 0 3 ([l.dE]) (some ⟨D,0,none⟩) 1 (by (simp; done))) cH) (aD (br 0 U U (by simp [bR]) U)<|aN) U) ?_
 refine rP 2 [] mn ?_
 refine RK A<|av<|Q1 hQ U U U ?_
 exact cB (g5.2 (by unfold eY; omega))
theorem RY (l:bg) (kA:OA) (kC:Nat) (az:List RA) (cA:OA) (cC:Nat) (bA:OA) (bC:Nat) (hin:ep l az):
 dN Tryz.prog 107 [(vA (cw.cells (kj l kA kC cA cC bA bC)))] [(rd kA l.aR.length 9 (l.aR.map ar.cells)),(rd cA l.aj.length 2 (List.zipWith ax.cells l.aj az)),(dV (a_ ax.gG l.aj az)),(rd bA l.ab.length 4 (l.ab.map bJ.cells))] (vB (decide (∀ c∈l.aj,eK c))):=by
 have H:=hin.sZ
 have G:=hin.rn
 have E:=hin.n_
 have F:=hin.sB
 refine bH kr Tryz.func107 U U fun K Q hQ hN=>?_
 try dsimp only
 refine WS fun _ C=>eT U fun J=>bG 1 U<|RK C<|WS fun _ D=>rP 2 [] (mc 0 U mn) ?_
 refine rS (CL (BL l.aj az cA cC (Value.func (.func 109) [].toArray [].toArray) (fun m=>(!(decide (eK m)))) (dV (a_ ax.gG l.aj az)) (by intro AA m a B A; exact lJ (fi:=[]) (ca:=[]) (Uz l.aj az AA m a (by exact B) (by exact A) (by exact hin.Rr _ _ _ B A))) asm asm) (Rs 2 3 3 U U U U U U) U) ?_
 refine rP 2 [] mn ?_
 refine RK D<|av<|Q1 hQ U U U ?_
 exact cB (by rw [Bool.eq_iff_iff,decide_eq_true_eq]; exact Ft)
theorem QA (b:bJ) (l:bg) (kA:OA) (kC:Nat) (az:List RA) (cA:OA) (cC:Nat) (bA:OA) (bC g1:Nat) (hin:ep l az) (htr:du l.aR=true):
 dN Tryz.prog 113 [(vA (bJ.cells b)),(vP g1)] [(rd kA l.aR.length 9 (l.aR.map ar.cells)),(rd cA l.aj.length 2 (List.zipWith ax.cells l.aj az)),(dV (a_ ax.gG l.aj az)),(rd bA l.ab.length 4 (l.ab.map bJ.cells)),(cv g1 28 (cw.cells (kj l kA kC cA cC bA bC)))] (vB (!(decide (kM l b)))):=by
 have J:=hin.sZ
 have H:=hin.rn
 have F:=hin.n_
 have G:=hin.sB
 have AA:=hin.side
 refine bH kr Tryz.func113 U U fun M Q hQ hN=>?_
 try dsimp only
 refine WS fun _ C=>eT U fun K=>bG 1 U<|RK C<|WS fun _ D=>bG 1 U<|rS (XP (bO.cells (bO.mk (bE.mk kA l.aR.length kC))) 5 U cf U U U)<|bG 1 U<|rS (LP (cK.cells b.nI) 0 U cf U U U)<|rS (CL (SW l.aR kA kC b.nI asm asm) (bq [1]) U)<|bG 3 U<|AL U ej fun L=>gl U c_ U<|bG 1 U<|RK D<|WS fun _ B=>rP 3 [] mn ?_
 refine cg (t:=16) U (bB fun A=>?_) (bx fun A=>?_)
 ·refine rP 11 [] mn ?_
  refine RK B<|av<|Q1 hQ U U U ?_
  (refine cB ?_; rw [bI (fun h:kM l b=>A ((FY htr).2 h.1))]; rfl)
 refine rP 6 [0,1] (mr 6 U (mc 1 U mn)) ?_
 refine eJ (xs:=[.tmp 22]) (cs:=[(vI b.jW)]) U dJ kY U U U U (by simp [Value.cells]) U U fun E=>?_
 refine rS (CL (dN.eq (iF 0 ((l.aj.length:Int)-1) ([b.jW]) (some ⟨E,0,none⟩) 1 (by (simp; done))) cH) (aD (br 0 U U (by simp [bR]) U)<|aN) U) ?_
 refine rP 3 [] mn ?_
 refine RK B<|av<|Q1 hQ U U U ?_
 (refine cB ?_; refine congrArg Bool.not (g5.2 ⟨fun h=>⟨(FY htr).1 A,I,I⟩,fun h=>by have:=h.2; omega⟩))
theorem QI (l:bg) (kA:OA) (kC:Nat) (az:List RA) (cA:OA) (cC:Nat) (bA:OA) (bC:Nat) (hin:ep l az) (htr:du l.aR=true):
 dN Tryz.prog 111 [(vA (cw.cells (kj l kA kC cA cC bA bC)))] [(rd kA l.aR.length 9 (l.aR.map ar.cells)),(rd cA l.aj.length 2 (List.zipWith ax.cells l.aj az)),(dV (a_ ax.gG l.aj az)),(rd bA l.ab.length 4 (l.ab.map bJ.cells))] (vB (decide (∀ b∈l.ab,kM l b))):=by
 have H:=hin.sZ
 have G:=hin.rn
 have E:=hin.n_
 have F:=hin.sB
 refine bH kr Tryz.func111 U U fun AA Q hQ hN=>?_
 try dsimp only
 refine WS fun _ B=>eT U fun A=>bG 1 U<|RK B<|WS fun _ C=>rP 2 [] (mc 0 U mn) ?_
 refine rS (FU U) ?_
 refine rS (CL (Bw l.ab bA bC (Value.func (.func 113) [].toArray [(vP A)].toArray) (fun D=>(!(decide (kM l D)))) (dV [(rd kA l.aR.length 9 (l.aR.map ar.cells)),(rd cA l.aj.length 2 (List.zipWith ax.cells l.aj az)),(dV (a_ ax.gG l.aj az)),(rd bA l.ab.length 4 (l.ab.map bJ.cells)),(cv A 28 (cw.cells (kj l kA kC cA cC bA bC)))]) (by intro D _; exact lJ (fi:=[]) (ca:=[(vP A)]) (kh (QA D l kA kC az cA cC bA bC A (by first|assumption|omega) (by first|assumption|omega)) (bq [0,1,2,3,4]))) asm) (gX 4 U U<|aD (kg (bq [1,2,3,4,0]))<|aN) U) ?_
 refine rP 2 [] mn ?_
 refine RK C<|av<|Q1 hQ U U U ?_
 exact cB (by rw [Bool.eq_iff_iff,decide_eq_true_eq]; exact Ic)
theorem L4 (l:bg) (kA:OA) (kC:Nat) (az:List RA) (cA:OA) (cC:Nat) (bA:OA) (bC:Nat) (n:Int) (hin:ep l az) (htr:du l.aR=true) (hbk: ∀ b∈l.ab,kM l b) (hn:0≤n∧n<(l.ab.length:Int)):
 dN Tryz.prog 66 [(vA (cw.cells (kj l kA kC cA cC bA bC))),(vI n)] [(rd kA l.aR.length 9 (l.aR.map ar.cells)),(rd cA l.aj.length 2 (List.zipWith ax.cells l.aj az)),(dV (a_ ax.gG l.aj az)),(rd bA l.ab.length 4 (l.ab.map bJ.cells))] (vI (l8 l n.toNat)):=by
 have P:=hin.sZ
 have N:=hin.rn
 have L:=hin.n_
 have M:=hin.sB
 have O:=hin.side
 refine bH kr Tryz.func66 U U fun AA Q hQ hN=>?_
 try dsimp only
 refine WS fun _ E=>eT U fun R=>bG 1 U<|RK E<|WS fun _ F=>rP 3 [] (mc 0 U mn) ?_
 obtain ⟨x,hx⟩:=aM l.ab ((n).toNat) I
 have J:=bQ bJ.cells hx
 refine rS (IA ((n).toNat) U (aF 4 U) xz dc I I)<|rS (nv (((n).toNat)*4) U (aF 4 U) (Nat.mul_pos I dc) eP U)<|rS (mq ((n).toNat) 0 (cK.cells x.nI) U cf (aF 4 U) J U dc U U)<|AL U F7 fun S=>gl U P5 U<|RK F<|WS fun _ G=>bG 1 U<|rS (LP (bO.cells (bO.mk (bE.mk kA l.aR.length kC))) 1 U cf U U U)<|fD 1 [] (mc 0 U mn) U<|rS (CL (SW l.aR kA kC x.nI asm asm) (bq [2]) U)<|bG 3 U<|AL U ej fun T=>gl U c_ U<|bG 1 U<|RK G<|aq fun _ C=>WS fun _ H=>rP 2 [] mn ?_
 refine RK H<|bV U (aW fun D=>?_) (aV fun D=>?_)
 ·refine WK C<|WS fun _ B=>rP 3 [] (mc 0 U mn) ?_
  refine RK B<|av<|Q1 hQ U U U ?_
  (refine congrArg (Value.int .i64) ?_; rw [show n.toNat=0 by omega] at hx ⊢; rw [Af hx,(yo htr (hbk _ (List.mem_of_getElem? hx)).1).2])
 refine dT cy [14] [] [] [1,2,3,4,5,6] [] U U U U U<|eS U (FA 0 U eP U)<|eS U (LP (bO.cells (bO.mk (bE.mk kA l.aR.length kC))) 1 U cf U U U)<|eS U (FA 3 U eP U)<|eS U (L1 (vS bA l.ab.length bC) 1 U cf U U)<|eS U (MV U)<|eS U (BI U (x_ ⟨I,I⟩)) ?_
 obtain ⟨y,hy⟩:=aM l.ab (((n-1)).toNat) I
 have K:=bQ bJ.cells hy
 refine eS U (IA (((n-1)).toNat) U (aF 5 U) xz dc I I)<|eS U (nv ((((n-1)).toNat)*4) U (aF 5 U) (Nat.mul_pos I dc) eP U)<|eS U (mq (((n-1)).toNat) 0 (cK.cells y.nI) U cf (aF 5 U) K U dc U U)<|eS U (LW 0 U cf U U)<|eS U (CL (Pr l.aR kA kC y.nI x.nI asm asm) (bq [2]) U)<|eS U (MV U)<|eS U (EX U)<|eS U (EX U)<|eN U<|cm U fun T9 AB=>gl U c_ U<|aJ (AB _ _ (aS [1,2,3,4,5,6]) ?_)
 refine f_ U<|KK C<|WS fun _ A=>rP 3 [] (mc 0 U mn) ?_
 refine RK A<|av<|Q1 hQ U U U ?_
 (refine congrArg (Value.int .i64) ?_; rw [CT I hx (by rw [show n.toNat-1=(n-1).toNat by omega]; exact hy),(mj htr ⟨(hbk _ (List.mem_of_getElem? hy)).1,(hbk _ (List.mem_of_getElem? hx)).1⟩).2])
theorem QY (l:bg) (kA:OA) (kC:Nat) (az:List RA) (cA:OA) (cC:Nat) (bA:OA) (bC:Nat) (hin:ep l az) (htr:du l.aR=true) (hbk: ∀ b∈l.ab,kM l b):
 dN Tryz.prog 114 [(vA (cw.cells (kj l kA kC cA cC bA bC)))] [(rd kA l.aR.length 9 (l.aR.map ar.cells)),(rd cA l.aj.length 2 (List.zipWith ax.cells l.aj az)),(dV (a_ ax.gG l.aj az)),(rd bA l.ab.length 4 (l.ab.map bJ.cells))] (vB (decide (∀ i,i<l.ab.length→1≤l8 l i))):=by
 have V:=hin.sZ
 have AA:=hin.rn
 have S:=hin.n_
 have T:=hin.sB
 refine bH kr Tryz.func114 U U fun X Q hQ hN=>?_
 try dsimp only
 refine WS fun _ J=>eT U fun W=>bG 1 U<|RK J<|aq fun _ K=>WS fun _ L=>rP 4 [] (mc 0 U mn) ?_
 refine RK L<|aG ?_
 have A:(0≤l.ab.length)∧(∀ j,j<0→1≤l8 l j):=by exact ⟨Nat.zero_le _,fun j hj=>absurd hj (Nat.not_lt_zero _)⟩
 refine bS (ι:={z:Nat // (z≤l.ab.length)∧(∀ j,j<z→1≤l8 l j)}) [1,6] [0,1,2,3,4] U U (fun z=>[(7,(vI (z.1:Int)))]) (fun z=>[]) (fun _=>rfl) (fun _=>rfl) (fun z=>l.ab.length-z.1) ⟨0,A⟩ (bw U) (aS [0,1,2,3,4]) ?_
 clear A
 rintro ⟨i,⟨P,B⟩⟩ J5 AB
 try dsimp only
 refine WS fun _ M=>rP 1 [] mn ?_
 refine RK M<|aq fun _ N=>bV U (aW fun R=>?_) (aV fun R=>?_)
 ·refine bL<|ai<|ai<|aI<|KK K<|WS fun _ G=>rP 1 [] mn ?_
  refine RK G<|av<|Q1 hQ U U U ?_
  exact cB (dM (fun j hj=>B j I)).symm
 refine WK N<|aq fun _ O=>aG<|WS fun _ D=>bG 2 U<|RK D<|WS fun _ E=>fD 2 [] (mc 0 U mn) U<|rS (CL (L4 l kA kC az cA cC bA bC (i:Int) hin htr hbk I) (bq [1,2,3,4]) U)<|rP 1 [] mn ?_
 refine RK E<|cG U (aV fun C=>?_) (aW fun C=>?_)
 ·refine WS fun _ F=>rP 1 [] mn ?_
  refine RK F<|av<|Q1 hQ U U U ?_
  exact cB (bI (fun h=>by have:=h i I; simp only [Int.toNat_natCast] at C; omega)).symm
 refine cx<|aO<|KK O<|ay<|rP 2 [] mn ?_
 refine aJ ?_
 have H:(vI (((i+1):Nat):Int))=(vI ((i:Int)+1)):=by exact cI I
 refine bj (AB ⟨(i+1),⟨I,fun j hj=>by rcases Nat.lt_or_ge j i with q|q; exact B j q; (obtain rfl:j=i:=by omega); simp only [Int.toNat_natCast] at C; omega⟩⟩ _ _ _ rfl os (dx.cons rfl<|dx.cons rfl<|bk rfl H<|dx.nil _) (aS [0,1,2,3,4]))
end
section
open Go.RowKit
theorem Sm:
 dN Tryz.prog 92 [] [] (vA ((ic.cells (ic.mk (Value.func (.func 106) [].toArray [].toArray)))++(ic.cells (ic.mk (Value.func (.func 107) [].toArray [].toArray)))++(ic.cells (ic.mk (Value.func (.func 111) [].toArray [].toArray)))++(ic.cells (ic.mk (Value.func (.func 114) [].toArray [].toArray))))):=by
 refine bH kr Tryz.func92 U U fun D Q hQ hN=>?_
 try dsimp only
 refine WS fun _ A=>AL U TG fun C=>RK A<|WS fun _ B=>rS (SX (bp (xs:=[(0,.func 106)]) (cs:=(ic.cells (ic.mk (Value.func (.func 106) [].toArray [].toArray)))) U U (bo Gh U)) U U)<|rS (SX (bp (xs:=[(0,.func 107)]) (cs:=(ic.cells (ic.mk (Value.func (.func 107) [].toArray [].toArray)))) U U (bo Gh U)) U U)<|rS (SX (bp (xs:=[(0,.func 111)]) (cs:=(ic.cells (ic.mk (Value.func (.func 111) [].toArray [].toArray)))) U U (bo Gh U)) U U)<|rS (SX (bp (xs:=[(0,.func 114)]) (cs:=(ic.cells (ic.mk (Value.func (.func 114) [].toArray [].toArray)))) U U (bo Gh U)) U U)<|rS (SX (bp (xs:=[(0,.tmp 1),(1,.tmp 2),(2,.tmp 3),(3,.tmp 4)]) (cs:=((ic.cells (ic.mk (Value.func (.func 106) [].toArray [].toArray)))++(ic.cells (ic.mk (Value.func (.func 107) [].toArray [].toArray)))++(ic.cells (ic.mk (Value.func (.func 111) [].toArray [].toArray)))++(ic.cells (ic.mk (Value.func (.func 114) [].toArray [].toArray))))) U U (bo UW U)) U U)<|gl U Ua U<|RK B<|av ?_
 exact D8 hQ [0] (mc 0 U mn) U U
theorem zt (l:bg) (kA:OA) (kC:Nat) (az:List RA) (cA:OA) (cC:Nat) (bA:OA) (bC:Nat) (hin:ep l az):
 dN Tryz.prog 64 [(vA (cw.cells (kj l kA kC cA cC bA bC)))] [(rd kA l.aR.length 9 (l.aR.map ar.cells)),(rd cA l.aj.length 2 (List.zipWith ax.cells l.aj az)),(dV (a_ ax.gG l.aj az)),(rd bA l.ab.length 4 (l.ab.map bJ.cells))] (vI (dw l)):=by
 have Ae:=hin.sZ
 have AR:=hin.rn
 have AD:=hin.n_
 have AO:=hin.sB
 have AY:=hin.side
 refine bH kr Tryz.func64 U U fun w0 Q hQ hN=>?_
 try dsimp only
 refine WS fun _ m=>eT U fun b2=>bG 1 U<|RK m<|aq fun _ n=>WS fun _ o=>bG 1 U<|rS (LP (bO.cells (bO.mk (bE.mk kA l.aR.length kC))) 0 U cf U U U)<|rS (CL (Df l.aR kA kC asm asm) (bq [1]) U)<|bG 1 U<|RK o<|WS fun _ p=>rP 2 [] mn ?_
 refine RK p<|cG U (bB fun B=>?_) (bx fun B=>?_)
 ·refine WS fun _ q=>rP 2 [] mn ?_
  refine RK q<|av<|Q1 hQ U U U ?_
  (refine cI ?_; rw [(zZ B).2,Ah (zZ B).1])
 refine WK n<|aq fun _ s=>WS fun _ t=>?_
 have A:=EH B
 refine rS (CL Sm (aN) U)<|bG 1 U<|RK t<|aG<|rl 5<|lH fun R9 u=>WS fun _ C=>rS (SX (gL (r:= .bool true) U U U qU) U U)<|RK C<|aq fun _ D=>aU U<|WK D<|aq fun _ E=>aG<|WS fun _ F=>rS (SX (uA (vs:=(ic.cells (ic.mk (Value.func (.func 106) [].toArray [].toArray)))) 0 U U U GA cf U dc U) U U)<|AL U GK fun x=>gl U F_ U<|RK F<|WS fun _ G=>fD 3 [0,1] (mc 0 U (mc 1 U mn)) U<|rS (CL (Qd l kA kC az cA cC bA bC hin) (bq [2,3,4,5]) U)<|rP 1 [] mn ?_
 refine RK G<|cG U (bB fun g=>?_) (bx fun g=>?_)
 ·refine WS fun _ H=>rP 1 [] mn ?_
  refine RK H<|av<|Q1 hQ U U U ?_
  exact cI (su A fun h=>absurd h.head asm).symm
 refine cx<|aO<|KK E<|ay<|rS (SX (gL (r:= .int .i64 1) U U U (oZ ⟨dc,dc⟩)) U U)<|bG 1 U<|RK u<|lH fun R18 d=>WS fun _ AB=>rS (SX (gL (r:= .bool true) U U U qU) U U)<|RK AB<|aq fun _ J=>aU U<|WK J<|aq fun _ K=>aG<|WS fun _ L=>rS (SX (uA (vs:=(ic.cells (ic.mk (Value.func (.func 107) [].toArray [].toArray)))) 1 U U U GA cf U dc U) U U)<|AL U GK fun y=>gl U F_ U<|RK L<|WS fun _ M=>fD 3 [0,1] (mc 0 U (mc 2 U mn)) U<|rS (CL (RY l kA kC az cA cC bA bC hin) (bq [3,4,5,6]) U)<|rP 1 [] mn ?_
 refine RK M<|cG U (bB fun i=>?_) (bx fun i=>?_)
 ·refine WS fun _ N=>rP 1 [] mn ?_
  refine RK N<|av<|Q1 hQ U U U ?_
  exact cI (su A fun h=>absurd h.clock asm).symm
 refine cx<|aO<|KK K<|ay<|rS (SX (gL (r:= .int .i64 2) U U U (oZ ⟨dc,dc⟩)) U U)<|bG 1 U<|RK d<|lH fun R27 e=>WS fun _ O=>rS (SX (gL (r:= .bool true) U U U qU) U U)<|RK O<|aq fun _ P=>aU U<|WK P<|aq fun _ R=>aG<|WS fun _ S=>rS (SX (uA (vs:=(ic.cells (ic.mk (Value.func (.func 111) [].toArray [].toArray)))) 2 U U U GA cf U dc U) U U)<|AL U GK fun z=>gl U F_ U<|RK S<|WS fun _ T=>fD 3 [0,1] (mc 0 U (mc 3 U mn)) U<|rS (CL (QI l kA kC az cA cC bA bC hin asm) (bq [4,5,6,7]) U)<|rP 1 [] mn ?_
 refine RK T<|cG U (bB fun j=>?_) (bx fun j=>?_)
 ·refine WS fun _ AA=>rP 1 [] mn ?_
  refine RK AA<|av<|Q1 hQ U U U ?_
  exact cI (su A fun h=>absurd h.re asm).symm
 refine cx<|aO<|KK R<|ay<|rS (SX (gL (r:= .int .i64 3) U U U (oZ ⟨dc,dc⟩)) U U)<|bG 1 U<|RK e<|lH fun R36 f=>WS fun _ V=>rS (SX (gL (r:= .bool true) U U U qU) U U)<|RK V<|aq fun _ W=>aU U<|WK W<|aq fun _ X=>aG<|WS fun _ Y=>rS (SX (uA (vs:=(ic.cells (ic.mk (Value.func (.func 114) [].toArray [].toArray)))) 3 U U U GA cf U dc U) U U)<|AL U GK fun AC=>gl U F_ U<|RK Y<|WS fun _ Z=>fD 3 [0,1] (mc 0 U (mc 4 U mn)) U<|rS (CL (QY l kA kC az cA cC bA bC hin asm asm) (bq [5,6,7,8]) U)<|rP 1 [] mn ?_
 refine RK Z<|cG U (bB fun k=>?_) (bx fun k=>?_)
 ·refine WS fun _ a=>rP 1 [] mn ?_
  refine RK a<|av<|Q1 hQ U U U ?_
  exact cI (su A fun h=>absurd h.Q5 asm).symm
 refine cx<|aO<|KK X<|ay<|rS (SX (gL (r:= .int .i64 4) U U U (oZ ⟨dc,dc⟩)) U U)<|bG 1 U<|RK f<|lH fun R45 w=>WS fun _ b=>rS (SX (gL (r:= .bool false) U U U qU) U U)<|RK b<|aq fun _ v=>ct U<|bL<|ai<|ai<|aI<|KK s<|WS fun _ c=>rP 1 [] mn ?_
 refine RK c<|av<|Q1 hQ U U U ?_
 exact cI (yR A (Ax asm asm asm asm)).symm
theorem CJ (lo hi:Int) (f:Value) (p:Int→Bool) (X:aB) (r:Int) (hf: ∀ x0,0≤x0∧x0<hi→EF Tryz.prog f [.int .i64 x0] [X] (.bool (p x0))) (hb:0≤lo∧lo≤r∧r≤hi∧hi≤100000000) (hno: ∀ x,lo≤x→x<r→p x=false) (hyes: ∀ x,r≤x→x<hi→p x=true):
 dN Tryz.prog 95 [(vI lo),(vI hi),f] [X] (vI r):=by
 refine bH kr Tryz.func95 U U fun N Q hQ hN=>?_
 try dsimp only
 refine WS fun _ F=>rP 1 [] mn ?_
 refine RK F<|aq fun _ G=>aG ?_
 have A:(lo≤lo∧lo≤r)∧(r≤hi∧hi≤hi):=by omega
 refine bS (ι:={z:Int×Int // (lo≤z.1∧z.1≤r)∧(r≤z.2∧z.2≤hi)}) [2] [0] U U (fun z=>[(0,(vI z.1.1)),(1,(vI z.1.2))]) (fun z=>[]) (fun _=>rfl) (fun _=>rfl) (fun z=>(z.1.2-z.1.1).toNat) ⟨(lo,hi),A⟩ (bw U) (aS [0]) ?_
 clear A
 rintro ⟨⟨a,b⟩,⟨B,C⟩⟩ J3 D
 try dsimp only at B C
 try dsimp only
 refine aq fun _ H=>WS fun _ AA=>rP 3 [] mn ?_
 refine RK AA<|bV U (aW fun M=>?_) (aV fun M=>?_)
 ·refine bL<|ai<|ai<|aI<|KK G<|WS fun _ L=>rP 2 [] mn ?_
  refine RK L<|av<|Q1 hQ U U U ?_
  exact cI I
 refine WK H<|aG<|WS fun _ J=>bG 4 U<|rS (BI U (ur I I I))<|bG 2 U<|RK J<|WS fun _ K=>rP 2 [] mn ?_
 refine rS (SX (qL U U U (hf (a+((b-a)/2)) I) (bq [0])) U U)<|RK K<|cG U (fun hp=>?_) (fun hp=>?_)
 ·refine ay<|rP 2 [] mn ?_
  refine aJ<|aO ?_
  refine bj (D ⟨(a,(a+((b-a)/2))),(by dsimp only; rcases Int.lt_or_le (a+(b-a)/2) r with q|q; (have E:=hno _ I q; (rw [E] at hp; cases hp)); (have E:=hyes _ q I; (refine ⟨⟨I,I⟩,I,I⟩)))⟩ _ _ _ rfl (by simp only []; omega) (bw rfl) (aS [0]))
 refine ay<|rP 3 [] mn ?_
 refine aJ<|aO ?_
 refine bj (D ⟨(((a+((b-a)/2))+1),b),(by dsimp only; rcases Int.lt_or_le (a+(b-a)/2) r with q|q; (have E:=hno _ I q; (refine ⟨⟨I,I⟩,I,I⟩)); (have E:=hyes _ q I; (rw [E] at hp; cases hp)))⟩ _ _ _ rfl (by simp only []; omega) (bw rfl) (aS [0]))
theorem Kf (u:Int) (c:ax) (sA:OA) (sC g1:Nat) (s:aH) (g2:Nat) (hc:eK c) (hu:0≤u∧u≤90000000):
 dN Tryz.prog 96 [(vI u),(vP g1),(vP g2)] [(rd sA c.bu.length 3 (c.bu.map cz.cells)),(cv g1 73 (dA.cells (dA.mk c.dD (bE.mk sA c.bu.length sC)))),(cv g2 78 (aH.cells s))] (vB (decide (s.Read≤u+(hH c u).Hi))):=by
 have C:=rE hc hu
 refine bH kr Tryz.func96 U U fun D Q hQ hN=>?_
 try dsimp only
 refine WS fun _ A=>bG 1 U<|RK A<|aq fun _ B=>dy cy 10 kr<|mz 3 [] (mr 1 U mn) U<|dS (CL (GG c sA sC u hc hu) (bq [0]) U)<|dS (SX (sV (v:=(vI ((hH c u).Hi))) U U eP My U) U U)<|dP 5 [] (mr 2 U mn) ?_
 refine cO<|RK B<|av ?_
 exact Q1 hQ U U U U
theorem KE (u:Int) (c:ax) (sA:OA) (sC g1:Nat) (s:aH) (g2:Nat) (hc:eK c) (hu:0≤u∧u≤90000000):
 dN Tryz.prog 98 [(vI u),(vP g1),(vP g2)] [(rd sA c.bu.length 3 (c.bu.map cz.cells)),(cv g1 73 (dA.cells (dA.mk c.dD (bE.mk sA c.bu.length sC)))),(cv g2 78 (aH.cells s))] (vB (decide (s.Read<u+(hH c u).Lo))):=by
 have C:=rE hc hu
 refine bH kr Tryz.func98 U U fun D Q hQ hN=>?_
 try dsimp only
 refine WS fun _ A=>bG 1 U<|RK A<|aq fun _ B=>dy cy 10 kr<|mz 3 [] (mr 1 U mn) U<|dS (CL (GG c sA sC u hc hu) (bq [0]) U)<|dS (SX (sV (v:=(vI ((hH c u).Lo))) U U eP KM U) U U)<|dP 5 [] (mr 2 U mn) ?_
 refine cO<|RK B<|av ?_
 exact Q1 hQ U U U U
theorem AS (l:bg) (kA:OA) (kC:Nat) (az:List RA) (cA:OA) (cC:Nat) (bA:OA) (bC:Nat) (s:aH) (hin:ep l az) (hok:mh l) (hs:(0≤s.eZ∧s.eZ≤(l.ab.length:Int)-1)∧0≤s.Read∧s.Read≤86400000):
 dN Tryz.prog 67 [(vA (cw.cells (kj l kA kC cA cC bA bC))),(vA (aH.cells s))] [(rd kA l.aR.length 9 (l.aR.map ar.cells)),(rd cA l.aj.length 2 (List.zipWith ax.cells l.aj az)),(dV (a_ ax.gG l.aj az)),(rd bA l.ab.length 4 (l.ab.map bJ.cells))] (vA (ag.cells (cJ l s))):=by
 have V:=hin.sZ
 have S:=hin.rn
 have P:=hin.n_
 have R:=hin.sB
 refine bH kr Tryz.func67 U U fun Z Q hQ hN=>?_
 try dsimp only
 refine WS fun _ AB=>eT U fun X=>eT U fun D=>AL U ej fun Y=>RK AB<|aq fun _ J=>dT cy [11,12] [] [] [0,1,2,3,4,5,6] [] U U U U U<|eS U (FA 2 U eP U)<|eS U (L1 (vS cA l.aj.length cC) 2 U cf U U)<|eS U (FA 3 U eP U)<|eS U (L1 (vS bA l.ab.length bC) 2 U cf U U)<|eS U (FA 0 U eP U)<|eS U (L1 (vI s.eZ) 1 U cf U U) ?_
 obtain ⟨y,hy⟩:=aM l.ab ((s.eZ).toNat) I
 have O:=bQ bJ.cells hy
 refine eS U (IA ((s.eZ).toNat) U (aF 6 U) xz dc I I)<|eS U (nv ((((s.eZ).toNat)*4)+3) U (aF 6 U) (Nat.mul_pos I dc) eP U)<|eS U (hP ((s.eZ).toNat) 3 (vI y.jW) U cf (aF 6 U) O U dc U) ?_
 have W:=(hok.re _ (aQ hy)).2
 obtain ⟨x,hx⟩:=aM l.aj ((y.jW).toNat) I
 obtain ⟨xa,F⟩:=aM az ((y.jW).toNat) I
 have N:(List.zipWith ax.cells l.aj az)[(y.jW).toNat]? =some (ax.cells x xa):=dH hx F
 refine eS U (IA ((y.jW).toNat) U (aF 4 U) x9 dc I I)<|eS U (mq ((y.jW).toNat) 0 (dA.cells (dA.mk x.dD (bE.mk xa.1 x.bu.length xa.2))) U cf (aF 4 U) N U dc U U)<|eN U<|cm U fun T6 L=>AL U RV fun E=>aJ (L _ _ (aS [1,2,3,4,5,6,7]) ?_)
 refine cm U fun T8 M=>gl U TD U<|aJ (M _ _ (aS [1,2,3,4,5,6,7]) ?_)
 refine f_ U<|KK J<|WS fun _ K=>?_
 have A:=hok.clock _ (aQ hx)
 have AA:=jd (p:=gv x s.Read) (n:=86400001)
 have T:=jd (p:=gu x s.Read) (n:=86400001)
 refine rS (FU U) ?_
 refine rS (CL (CJ 0 86400001 (Value.func (.func 96) [].toArray [(vP E),(vP D)].toArray) (fun B=>(decide (s.Read≤B+(hH x B).Hi))) (dV [(rd xa.1 x.bu.length 3 (x.bu.map cz.cells)),(cv E 73 (dA.cells (dA.mk x.dD (bE.mk xa.1 x.bu.length xa.2)))),(cv D 78 (aH.cells s))]) (fJ (gv x s.Read) 86400001) (by intro B _; exact lJ (fi:=[]) (ca:=[(vP E),(vP D)]) (kh (Kf B x xa.1 xa.2 E s D (by first|assumption|omega) (by first|assumption|omega)) (Rs 0 1 2 U U U U U U))) I (by intro z G hz; exact (kU A G I).1 hz) (by intro z hz H; exact (kU A I H).2.1 hz)) (aD (kg (aD (show jC _ (rd xa.1 x.bu.length 3 (x.bu.map cz.cells)).holds from (cW 6 U (bT hx F (by simp [ax.gG]))))<|gX 0 U U<|gX 2 U U<|aN))<|aN) U) ?_
 refine rS (FU U) ?_
 refine rS (CL (CJ 0 86400001 (Value.func (.func 98) [].toArray [(vP E),(vP D)].toArray) (fun C=>(decide (s.Read<C+(hH x C).Lo))) (dV [(rd xa.1 x.bu.length 3 (x.bu.map cz.cells)),(cv E 73 (dA.cells (dA.mk x.dD (bE.mk xa.1 x.bu.length xa.2)))),(cv D 78 (aH.cells s))]) (fJ (gu x s.Read) 86400001) (by intro C _; exact lJ (fi:=[]) (ca:=[(vP E),(vP D)]) (kh (KE C x xa.1 xa.2 E s D (by first|assumption|omega) (by first|assumption|omega)) (Rs 0 1 2 U U U U U U))) I (by intro z G hz; exact (kU A G I).2.2.1 hz) (by intro z hz H; exact (kU A I H).2.2.2 hz)) (aD (kg (aD (show jC _ (rd xa.1 x.bu.length 3 (x.bu.map cz.cells)).holds from (cW 6 U (bT hx F (by simp [ax.gG]))))<|gX 0 U U<|gX 2 U U<|aN))<|aN) U) ?_
 refine rP 1 [] mn ?_
 refine rS (SX (bp (xs:=[(0,.tmp 18),(1,.tmp 21)]) (cs:=(ag.cells (ag.mk (fJ (gv x s.Read) 86400001) ((fJ (gu x s.Read) 86400001)-1)))) U U (bo hU U)) U U)<|rV U c_ U<|RK K<|av<|D8 hQ [0] (mc 1 U mn) U ?_
 unfold cJ mD; rw [tL hy hx]
end
section
open Go.RowKit
theorem tQ (ln:cw) (ri:cM) (e:List Int) (tms:List TM) (e_A:OA) (e_C:Nat) (tb:List Nat) (t_A:OA) (t_C:Nat) (fA:OA) (fN fC:Nat) (bA:OA) (bN bC:Nat) (gw b:Nat) (g1 g2:Nat) (hb:b<tms.length) (htb:tb.length=tms.length):
 Om Tryz.prog 99 [] [(vP g1),(vP g2)] [(rd e_A e.length 1 (e.map iC)),(rd t_A tms.length 1 (List.zipWith gR tms tb)),(dV (a_ qp tms tb)),(cv gw 150 (cb.cells (cb.mk ln ri (bE.mk e_A e.length e_C) (bE.mk t_A tms.length t_C) (bE.mk fA fN fC) (bE.mk bA bN bC)))),(cv g1 108 [(vP gw)]),(cv g2 3 [(vI (b:Int))])] ([]:List (Int×ag)) (fun ys x ys'=> ∃ o,o∈jl (cU ln ri e tms) b∧x=P0 o∧ys'=ys++[o]) (fun ys=> ∀ o∈jl (cU ln ri e tms) b,o∈ys):=by
 refine FZ kr Tryz.func99 U U fun l J Z A0 d Q hY V AA hQ hN=>?_
 try dsimp only
 refine aq fun _ X=>aq fun _ R=>dy cy 12 kr<|mz 2 [] (mr 5 U mn) U<|dS (SX (cS U U) U U)<|mz 4 [0,1] (mr 4 U (mr 5 U mn)) U<|dS (SX (cS U U) U U)<|dP 3 [] (mr 4 U mn) ?_
 refine dS (SX (bp (xs:=[(0,.tmp 11),(1,.tmp 16)]) (cs:=(ag.cells (ag.mk ri.Start ri.fI))) U U (bo hU U)) U U)<|cO<|zr (k:=([]:List (Int×ag))) (k':=(([]:List (Int×ag))++[((-1),(ag.mk ri.Start ri.fI))])) 0 (by first|exact hsz|exact Nat.le_refl _) hY V AA U U U (by exact ⟨(-1,⟨ri.Start,ri.fI⟩),cD ..,U,U⟩) U U (fun B3 N M=>?_) (fun B3 N M=>?_)
 rotate_left 1
 ·refine rP 1 [] mn ?_
  refine RK R<|aU U<|av ?_
  refine hQ _ _ _ (kp (vs:=[]) trivial fun w hs=>Gt 0 U N M hs)
 refine bG 1 U<|RK R<|ct U<|WK X<|aq fun _ Y=>dy cy 7 kr<|mz 1 [] (mr 5 U mn) U<|dS (SX (cS U U) U U)<|dP 3 [0,1] (mr 4 U (mr 6 U mn)) ?_
 obtain ⟨x,hx⟩:=aM tms b I
 obtain ⟨xa,L⟩:=aM tb b I
 have a:(List.zipWith gR tms tb)[b]? =some (gR x xa):=dH hx L
 refine dS (IA b U (aF 2 U) yT dc I I)<|dS (hP b 0 (Value.map (some xa)) U cf (aF 2 U) a U dc U)<|cO<|qD (kV:=iV) (m:=cT kl x) 3 U U tx U ⟨⟨(kQ iV xa (cT kl x)),(bT hx L (by simp [qp])),U⟩,fun h=>h⟩ (show jC _ (kQ iV xa (cT kl x)).holds from cW 3 U (bT hx L (by simp [qp]))) U fun j=>?_
 try dsimp only
 refine RK Y<|aG ?_
 have G:(∀ o∈x,o∈x∨o∈(([]:List (Int×ag))++[((-1),(ag.mk ri.Start ri.fI))]))∧(∀ o∈x,o∈x)∧(J (([]:List (Int×ag))++[((-1),(ag.mk ri.Start ri.fI))]) B3)∧(Fo A0 d B3)∧((-1,(⟨ri.Start,ri.fI⟩:ag))∈(([]:List (Int×ag))++[((-1),(ag.mk ri.Start ri.fI))])):=by exact ⟨fun o ho=> .inl ho,fun o ho=>ho,asm,asm,sm⟩
 refine bS (ι:={z:TM×(List (Int×ag))×aB // (∀ o∈x,o∈z.1∨o∈z.2.1)∧(∀ o∈z.1,o∈x)∧(J z.2.1 z.2.2)∧(Fo A0 d z.2.2)∧((-1,(⟨ri.Start,ri.fI⟩:ag))∈z.2.1)}) [0,1,2,27] [2,3,4,6,7] U U (fun z=>[]) (fun z=>[(D9 iV j xa (cT kl x) (cT kl z.1.1) none),z.1.2.2]) (fun _=>rfl) (fun _=>rfl) (fun z=>z.1.1.length) ⟨(x,(([]:List (Int×ag))++[((-1),(ag.mk ri.Start ri.fI))]),B3),G⟩ (dx.nil _) (aS [2,3,4,6,7,0,1]) ?_
 clear G
 rintro ⟨⟨left,ys,A⟩,⟨B,C,D,E,F⟩⟩ J8 W
 try dsimp only at B C D E F
 try dsimp only
 refine WS fun _ S=>o9 (jg um).inj (f:=kl) 5 U U U U (fun T=>?_) (fun i z hm hn=>?_)
 ·refine rP 1 [] mn ?_
  refine RK S<|aq fun _ c=>ct U<|bL<|ai<|ai<|aI ?_
  refine hN _ _ _ (kp (vs:=[]) trivial fun w hs=>Ry 6 U (by exact IN hx B T F) D E hs)
 try dsimp only
 refine bG 1 U<|RK S<|aq fun _ O=>aU U<|WK O<|aG<|WS fun _ P=>rS (SX (pt 5 U U U) U U)<|bG 2 U<|AL U ej fun g=>bG 1 U<|gl U c_ U<|RK P<|WS fun _ K=>rP 3 [] (mc 0 U mn) ?_
 refine zr (k:=ys) (k':=(ys++[(i,z)])) 7 (by first|exact hsz|exact Nat.le_refl _) hY D E U U U (by exact ⟨(i,z),(zg hx).2 (.inr (C _ hm)),U,U⟩) U U (fun B15 AB H=>?_) (fun B15 AB H=>?_)
 rotate_left 1
 ·refine rP 1 [] mn ?_
  refine RK K<|aU U<|av ?_
  refine hQ _ _ _ (kp (vs:=[]) trivial fun w hs=>Gt 7 U AB H hs)
 refine rP 1 [] mn ?_
 refine RK K<|ct U<|cx<|aO<|rp 6 U pM U ?_
 refine bj (W ⟨((fH left i),(ys++[(i,z)]),B15),⟨H_ hn hm B,nc C,asm,asm,by simp [F]⟩⟩ _ _ _ U (nm hm) (bw U) (aS [1,2,3,4,5,6,7]))
theorem wL (gw b:Nat):
 qB Tryz.prog 71 [(vP gw),(vI (b:Int))] [] (fun (x:Nat×Nat)=>(Value.func (.func 99) [].toArray [(Value.pointer (some ⟨x.1,0,none⟩)),(Value.pointer (some ⟨x.2,0,none⟩))].toArray)) (fun (x:Nat×Nat)=>True) (fun (x:Nat×Nat)=>[(cv x.1 108 [(vP gw)]),(cv x.2 3 [(vI (b:Int))])]):=by
 refine fO kr Tryz.func71 U U fun E Q hQ hN=>?_
 try dsimp only
 refine WS fun _ A=>xV U U fun C=>xV U U fun D=>bG 1 U<|RK A<|WS fun _ B=>rS (FU U)<|rP 1 [] mn ?_
 refine RK B<|av<|LX hQ (C,D) [1,0] [] mn U U U U ?_
 trivial
theorem Lc (gw b:Nat):
 qB Tryz.prog 45 [(vP gw),(vI (b:Int))] [] (fun (x:Nat×Nat)=>(Value.func (.func 70) [].toArray [(Value.pointer (some ⟨x.1,0,none⟩)),(Value.pointer (some ⟨x.2,0,none⟩))].toArray)) (fun (x:Nat×Nat)=>True) (fun (x:Nat×Nat)=>[(cv x.1 108 [(vP gw)]),(cv x.2 3 [(vI (b:Int))])]):=by
 refine fO kr Tryz.func45 U U fun E Q hQ hN=>?_
 try dsimp only
 refine WS fun _ A=>xV U U fun C=>xV U U fun D=>bG 1 U<|RK A<|WS fun _ B=>rS (FU U)<|rP 1 [] mn ?_
 refine RK B<|av<|LX hQ (C,D) [1,0] [] mn U U U U ?_
 trivial
end
section
open Go.RowKit
theorem CE (ln:cw) (ri:cM) (e:List Int) (tms:List TM) (e_A:OA) (e_C:Nat) (tb:List Nat) (t_A:OA) (t_C gw:Nat) (hw:HU (cU ln ri e tms)) (hn:ln.ab.n=e.length) (htb:tb.length=tms.length):
 Nb Tryz.prog 68 [(vP gw)] [(rd e_A e.length 1 (e.map iC)),(rd t_A tms.length 1 (List.zipWith gR tms tb)),(dV (a_ qp tms tb))] (cv gw 150 (cb.cells (cb.mk ln ri (bE.mk e_A e.length e_C) (bE.mk t_A tms.length t_C) (bE.mk none 0 0) (bE.mk none 0 0)))) (fun (x:(List FM)×(List Nat)×(OA)×Nat×(List FM)×(List Nat)×(OA)×Nat)=>(vT [])) (fun (x:(List FM)×(List Nat)×(OA)×Nat×(List FM)×(List Nat)×(OA)×Nat)=>xj (cU ln ri e tms) x.1∧ua (cU ln ri e tms) x.2.2.2.2.1∧x.2.1.length=x.1.length∧x.2.2.2.2.2.1.length=x.2.2.2.2.1.length) (fun (x:(List FM)×(List Nat)×(OA)×Nat×(List FM)×(List Nat)×(OA)×Nat)=>(bK [(cv gw 150 (cb.cells (cb.mk ln ri (bE.mk e_A e.length e_C) (bE.mk t_A tms.length t_C) (bE.mk x.2.2.1 x.1.length x.2.2.2.1) (bE.mk x.2.2.2.2.2.2.1 x.2.2.2.2.1.length x.2.2.2.2.2.2.2)))),(own x.2.2.1 x.2.2.2.1 156 1 (List.zipWith gR x.1 x.2.1)),(bK (a_ nM x.1 x.2.1)),(own x.2.2.2.2.2.2.1 x.2.2.2.2.2.2.2 156 1 (List.zipWith gR x.2.2.2.2.1 x.2.2.2.2.2.1)),(bK (a_ nM x.2.2.2.2.1 x.2.2.2.2.2.1))])):=by
 have YJ:e.length≤6:=hw.n
 have YK:tms.length=e.length:=hw.times
 refine wh kr Tryz.func68 U U fun w0 Q hQ hN=>?_
 try dsimp only
 refine WS fun _ C0=>xV U U fun W=>RK C0<|WS fun _ Di=>fD 1 [] (mc 0 U mn) U<|rS (SX (cS U U) U U)<|rP 5 [] (mc 1 U mn) ?_
 refine RK Di ?_
 refine oW (ι:={z:(OA)×(OA) // True}) [0,1,2] [0,2,3,4] U U (fun z=>[]) (fun z=>[(own z.1.1 (ln.ab.n+1) 156 1 (List.map oC (List.replicate (ln.ab.n+1) (none:Option Nat)))),(own z.1.2 (ln.ab.n+1) 156 1 (List.map oC (List.replicate (ln.ab.n+1) (none:Option Nat)))),(cv gw 150 (cb.cells (cb.mk ln ri (bE.mk e_A e.length e_C) (bE.mk t_A tms.length t_C) (bE.mk z.1.1 (ln.ab.n+1) (ln.ab.n+1)) (bE.mk z.1.2 (ln.ab.n+1) (ln.ab.n+1)))))]) (fun _=>rfl) (fun _=>rfl) ?_ fun K4 Do=>?_
 ·rintro ⟨⟨fA,bA⟩,_⟩
  try dsimp only
  refine Du 6 U U fun wz Sz hz=>?_
  have YG:(List.replicate (ln.ab.n+1) (none:Option Nat)).length=(ln.ab.n+1):=List.length_replicate
  try dsimp only
  refine oW (ι:={z:Nat // True}) [0,1,2] [0,1,2,3,4,6] U U (fun z=>[]) (fun z=>[(bK (a_ nM [[((aK.mk 0 0),ri.Start)]] [z.1])),(own fA (ln.ab.n+1) 156 1 (List.map oC (dI [z.1] (ln.ab.n+1))))]) (fun _=>rfl) (fun _=>rfl) ?_ fun K5 T6=>?_
  ·rintro ⟨ga,_⟩
   try dsimp only
   refine aq fun _ EQ=>WS fun _ Eq=>rP 2 [] mn ?_
   refine RK Eq<|aG<|oM ?_
   have C:(0≤ln.ab.n)∧(([[((aK.mk 0 0),ri.Start)]]).length=0+1)∧(([ga]).length=0+1)∧(qZ (cU ln ri e tms) ([[((aK.mk 0 0),ri.Start)]])):=by exact ⟨Nat.zero_le _,rfl,rfl,qZ.first⟩
   refine xT (ι:={z:Nat×(List FM)×(List Nat)×(List Nat) // (z.1≤ln.ab.n)∧(z.2.1.length=z.1+1)∧(z.2.2.1.length=z.1+1)∧(qZ (cU ln ri e tms) z.2.1)}) (fun z=>z.1.2.2.2.map ke) (fun z=>[(0,(vP gw)),(1,(vP W)),(2,(vI (ln.ab.n:Int))),(52,(vI (ln.ab.n:Int))),(53,(vI (z.1.1:Int)))]) (fun z=>[(bK (z.1.2.2.2.map mO)),(cv gw 150 (cb.cells (cb.mk ln ri (bE.mk e_A e.length e_C) (bE.mk t_A tms.length t_C) (bE.mk fA (ln.ab.n+1) (ln.ab.n+1)) (bE.mk bA (ln.ab.n+1) (ln.ab.n+1))))).ro,(cv W 108 [(vP gw)]),(rd e_A e.length 1 (e.map iC)).ro,(rd t_A tms.length 1 (List.zipWith gR tms tb)).ro,(dV (a_ qp tms tb)).ro,(own bA (ln.ab.n+1) 156 1 (List.map oC (List.replicate (ln.ab.n+1) (none:Option Nat)))),(bK (a_ nM z.1.2.1 z.1.2.2.1)),(own fA (ln.ab.n+1) 156 1 (List.map oC (dI z.1.2.2.1 (ln.ab.n+1))))]) (fun z=>ln.ab.n-z.1.1) ⟨(0,[[((aK.mk 0 0),ri.Start)]],[ga],([]:List Nat)),C⟩ U (bw U) (aS [0,1,2,3,4,5,6,7,8]) ?_
   clear C
   rintro ⟨⟨b,fs,fb,S1⟩,⟨Id,A2,If,M⟩⟩ J8 T4
   try dsimp only at Id A2 If M
   try dsimp only
   have YH:(dI fb (ln.ab.n+1)).length=(ln.ab.n+1):=ob I
   refine WS fun _ E1=>rP 1 [] mn ?_
   refine RK E1<|aq fun _ AD=>cG U (aV fun Tw=>?_) (aW fun Tw=>?_)
   ·refine WK AD<|aq fun _ Ky=>aG<|WS fun _ K0=>rP 1 [] mn ?_
    refine AL U kY fun s=>OR U zM U U<|RK K0<|aq fun _ K8=>dT cy [6,8] [6] [0] [0,1,2,3,4,5,6,7,8] [0,1,2,3,4,5,6,7,8,9] U U U U U<|eS U (Fu 3 U cf U)<|eS U (SX (cS U U) U U)<|eS U (FA 12 U eP U)<|eS U (Kd (vS fA (ln.ab.n+1) (ln.ab.n+1)) 2 U cf U U)<|eS U (Fu 0 U cf U)<|eS U (BI U (oZ ⟨I,I⟩)) ?_
    obtain ⟨XN,ST⟩:=aM (dI fb (ln.ab.n+1)) (b+1) I
    have hx17m:(List.map oC (dI fb (ln.ab.n+1)))[(b+1)]? =some (oC XN):=by rw [dL,ST]; rfl
    refine fS U (IA (b+1) U (au (n:=(ln.ab.n+1)) 9 U sq) o5 dc I I) ?_
    refine eN U<|jZ U fun T18 Qn=>nq (kV:=eI) U U fun B=>?_
    try dsimp only
    refine aJ (Qn _ _ (aS [1,2,3,4,5,6,7,8,9]) (aS [1,2,3,4,5,6,7,8,9,10]) ?_)
    refine cm U fun T20 Qr=>?_
    have R3:((dI fb (ln.ab.n+1)).set (b+1) (some B))=(dI (fb++[B]) (ln.ab.n+1)):=by exact s9 I I
    refine eE (k:=(b+1)) (o:=0) (vs:=[(Value.map (some B))]) (es':=(List.map oC (dI (fb++[B]) (ln.ab.n+1)))) (C':=[_,_,_,_,_,_,_,_,_,_,(own fA (ln.ab.n+1) 156 1 (List.map oC (dI (fb++[B]) (ln.ab.n+1))))]) 10 U U U K7 U U U U hx17m U dc (by exact (List.map_set (f:=oC) (l:=(dI fb (ln.ab.n+1))) (i:=(b+1)) (a:=(some B))).symm.trans (congrArg _ R3)) U<|aJ (Qr _ _ (aS [1,2,3,4,5,6,7,8,9]) ?_)
    refine f_ U<|KK K8<|aq fun _ LA=>?_
    have WE:(dI (fb++[B]) (ln.ab.n+1)).length=(ln.ab.n+1):=ob (by simp; omega)
    obtain ⟨mb,N⟩:=aM fs b I
    obtain ⟨ga,Z⟩:=aM fb b I
    refine Ag 9 N Z U U U ?_
    try dsimp only
    refine dy cy 7 kr<|mz 1 [] (mc 6 U mn) U<|dS (SX (cS U U) U U)<|dP 3 [0,1] (mr 5 U (mc 3 U mn)) ?_
    have R7:(List.map oC (dI (fb++[B]) (ln.ab.n+1)))[b]? =some (oC (some ga)):=qW (ng (Kk Z))
    refine dS (IA b U (au (n:=(ln.ab.n+1)) 11 U sq) o5 dc I I) ?_
    refine dS (hP b 0 (Value.map (some ga)) U cf (au (n:=(dI (fb++[B]) (ln.ab.n+1)).length) 11 U sm) R7 U dc U)<|cO<|Aj 0 U U pZ U U fun A9=>?_
    try dsimp only
    refine RK LA<|aG ?_
    have C:(∀ p∈mb,p∈mb)∧(yp (cU ln ri e tms) b ([]:FM))∧(kD (cU ln ri e tms) b mb ([]:FM) mb):=by exact ⟨fun p hp=>hp,yp.start,kD.start⟩
    refine xT (ι:={z:FM×FM×(List Nat) // (∀ p∈z.1,p∈mb)∧(yp (cU ln ri e tms) b z.2.1)∧(kD (cU ln ri e tms) b mb z.2.1 z.1)}) (fun z=>z.1.2.2.map ke) (fun z=>[(0,(vP gw)),(1,(vP W)),(2,(vI (ln.ab.n:Int))),(3,(vP s)),(52,(vI (ln.ab.n:Int))),(53,(vI (b:Int))),(71,(vP A9))]) (fun z=>[(Bi eI A9 ga (cT iV mb) (cT iV z.1.1) none),(bK (gP nM fs fb b)),(kQ eI B (cT iV z.1.2.1)),(cv s 3 [(vI (b:Int))]),(bK (z.1.2.2.map mO)),(cv gw 150 (cb.cells (cb.mk ln ri (bE.mk e_A e.length e_C) (bE.mk t_A tms.length t_C) (bE.mk fA (ln.ab.n+1) (ln.ab.n+1)) (bE.mk bA (ln.ab.n+1) (ln.ab.n+1))))).ro,(cv W 108 [(vP gw)]),(rd e_A e.length 1 (e.map iC)).ro,(rd t_A tms.length 1 (List.zipWith gR tms tb)).ro,(dV (a_ qp tms tb)).ro,(own bA (ln.ab.n+1) 156 1 (List.map oC (List.replicate (ln.ab.n+1) (none:Option Nat)))),(own fA (ln.ab.n+1) 156 1 (List.map oC (dI (fb++[B]) (ln.ab.n+1))))]) (fun z=>z.1.1.length) ⟨(mb,([]:FM),S1),C⟩ U (bw U) (aS [0,1,2,3,4,5,6,7,8,9,10,11]) ?_
    clear C
    rintro ⟨⟨left,m,A3⟩,⟨c,d,g⟩⟩ J26 J9
    try dsimp only at c d g
    try dsimp only
    refine WS fun _ B3=>yQ pQ.inj (f:=iV) 0 U U U U (fun T0=>?_) (fun t v hm In=>?_)
    ·refine bG 1 U<|RK B3<|aq fun _ X8=>ct U<|bL<|ai<|ai<|aI<|aO<|KK Ky<|ay<|rP 2 [] mn ?_
     refine aJ<|Mt (C':=[(kQ eI ga (cT iV mb)),(bK (gP nM fs fb b)),(kQ eI B (cT iV m)),(cv s 3 [(vI (b:Int))]),(bK (A3.map mO)),(cv gw 150 (cb.cells (cb.mk ln ri (bE.mk e_A e.length e_C) (bE.mk t_A tms.length t_C) (bE.mk fA (ln.ab.n+1) (ln.ab.n+1)) (bE.mk bA (ln.ab.n+1) (ln.ab.n+1))))).ro,(cv W 108 [(vP gw)]),(rd e_A e.length 1 (e.map iC)).ro,(rd t_A tms.length 1 (List.zipWith gR tms tb)).ro,(dV (a_ qp tms tb)).ro,(own bA (ln.ab.n+1) 156 1 (List.map oC (List.replicate (ln.ab.n+1) (none:Option Nat)))),(own fA (ln.ab.n+1) 156 1 (List.map oC (dI (fb++[B]) (ln.ab.n+1))))]) 0 U Kv U<|K9 1 0 N Z U U U ?_
     try dsimp only
     refine y7 (X':=a_ nM (fs++[m]) (fb++[B])) 0 1 U U (z9 I U) ?_
     try dsimp only
     have R4:(vI (((b+1):Nat):Int))=(vI ((b:Int)+1)):=by exact cI I
     refine bj (T4 ⟨((b+1),(fs++[m]),(fb++[B]),A3),⟨I,by simp; omega,by simp; omega,M.add A2 N d g T0⟩⟩ _ _ _ U os (cQ 4<|bk U R4<|dx.nil _) (aS [2,3,4,5,6,7,8,0,9]))
    try dsimp only
    refine bG 1 U<|RK B3<|aq fun _ LB=>aU U<|WK LB<|aG<|WS fun _ LE=>rS (SX (yb 0 U U U) U U)<|bG 2 U<|AL U vv fun Jr=>AL U kY fun J1=>rV U tv U<|OR U zM U U<|RK LE<|WS fun _ LT=>rP 2 [0,1] (mc 8 U (mc 5 U mn)) ?_
    refine cX (wL gw b) (aN) U fun X1 YA=>?_
    obtain ⟨Ck,Cp⟩:=X1
    try dsimp only
    refine RK LT<|aG<|jK 11 U (by exact fun _ h=>h)<|jK 13 U (by exact fun _ h=>h)<|jK 15 U (by exact fun _ h=>h)<|jK 12 U (by exact fun _ h=>h) ?_
    refine uu (L0:=[(0,(vP gw)),(1,(vP W)),(2,(vI (ln.ab.n:Int))),(3,(vP s)),(4,(vP Jr)),(5,(vP J1)),(52,(vI (ln.ab.n:Int))),(53,(vI (b:Int))),(71,(vP A9))]) (F:=[(rd e_A e.length 1 (e.map iC)).ro,(rd t_A tms.length 1 (List.zipWith gR tms tb)).ro,(dV (a_ qp tms tb)).ro,(cv gw 150 (cb.cells (cb.mk ln ri (bE.mk e_A e.length e_C) (bE.mk t_A tms.length t_C) (bE.mk fA (ln.ab.n+1) (ln.ab.n+1)) (bE.mk bA (ln.ab.n+1) (ln.ab.n+1))))).ro,(cv Ck 108 [(vP gw)]),(cv Cp 3 [(vI (b:Int))])]) (fun k (y:FM)=>(ot (cU ln ri e tms) b mb left y (t,v) k)) (fun k y=>[(cv J1 3 [(vI v)]),(cv Jr 158 (aK.cells t)),(Bi eI A9 ga (cT iV mb) (cT iV (fH left t)) (some (t,(vI v)))),(bK (gP nM fs fb b)),(kQ eI B (cT iV y)),(cv s 3 [(vI (b:Int))]),(bK (A3.map mO)),(cv gw 150 (cb.cells (cb.mk ln ri (bE.mk e_A e.length e_C) (bE.mk t_A tms.length t_C) (bE.mk fA (ln.ab.n+1) (ln.ab.n+1)) (bE.mk bA (ln.ab.n+1) (ln.ab.n+1))))).ro,(cv W 108 [(vP gw)]),(rd e_A e.length 1 (e.map iC)).ro,(rd t_A tms.length 1 (List.zipWith gR tms tb)).ro,(dV (a_ qp tms tb)).ro,(own bA (ln.ab.n+1) 156 1 (List.map oC (List.replicate (ln.ab.n+1) (none:Option Nat)))),(own fA (ln.ab.n+1) 156 1 (List.map oC (dI (fb++[B]) (ln.ab.n+1))))]) (fun _ (_:Unit)=>False) (fun _ _=>[]) [6,7,8,9,10,11,12,13,14,15,16,17,18,19] [3,2,1,0,4,5] m rfl rfl (tQ ln ri e tms e_A e_C tb t_A t_C fA (ln.ab.n+1) (ln.ab.n+1) bA (ln.ab.n+1) (ln.ab.n+1) gw b Ck Cp I I) rfl rfl rfl (by exact ot.start d g) (by simp only [List.forall_mem_cons,List.not_mem_nil,false_imp_iff,implies_true,and_true]; exact ⟨⟨_,aQ (i:=0) rfl,(dQ (bY _))⟩,⟨_,aQ (i:=1) rfl,(dQ (bY _))⟩,⟨_,aQ (i:=2) rfl,(dQ (bY _))⟩,⟨_,aQ (i:=3) rfl,(dQ (bY _))⟩,⟨_,aQ (i:=4) rfl,(bY _)⟩,⟨_,aQ (i:=5) rfl,(bY _)⟩⟩) (by rintro k x k2 ⟨o,_,rfl,_⟩; rfl) rfl (bw rfl) ?_ ?_ (fun _ _ _ h=>h.elim) (fun _ _ h=>h.elim)
    rotate_left 1
    ·rintro XE k O A1 Gq
     have D:=Gq
     try dsimp only
     refine aO<|aO<|Lj (X:=A3.map mO) 13 0 U U ?_
     try dsimp only
     refine rp 9 U DU U ?_
     refine bj (J9 ⟨((fH left t),O,(XE::A3)),⟨nc c,D.on,D.next In hm A1⟩⟩ _ _ _ U (nm hm) (bw U) (aS [9,10,11,12,0,4,14,1,2,3,18,19]))
    rintro k x k2 O l ra rb S w1 K39 Qr40 WV hx Go La H Xg X5
    obtain ⟨o,ho,rfl,rfl⟩:=hx
    have D:=Go
    try dsimp only
    refine WS fun _ Li=>rP 1 [] mn ?_
    refine RK Li<|ay<|AL U ej fun YC=>gl U c_ U<|aJ<|km (fun _ _ h=>h) (aS [1,0,2,3,4,5,6,7,8,9,10,11,12,13,14,15])<|bj (La _ _ ?_)
    refine aG<|aq fun _ Lk=>dT cy [16,18] [] [] [0,1,2,3,4,5,6,7,8,9,10,11,12,13,14,15] [] U U U U U<|eS U (Fu 2 U cf U)<|eS U (Fu 10 U cf U)<|eS U (SX (cS U U) U U)<|eS U (FA 10 U eP U)<|eS U (Kd (vS e_A e.length e_C) 9 U cf U U)<|eS U (Fu 7 U cf U) ?_
    obtain ⟨y,hy⟩:=aM e b I
    have JJ:=bQ iC hy
    refine eS U (IA b U (aF 11 U) dJ dc I I)<|eS U (hP b 0 (vI y) U cf (aF 11 U) JJ U dc U) ?_
    have Vs:=hw.least y (aQ hy)
    have hp:=M.mem N (c _ hm)
    have VO:=Kl hw _ _ hp
    have WG:=wk o.1
    have WP:=hw.opt ho
    have YI:=hw.now
    dsimp only at VO
    refine eS U (BI U (oZ ⟨I,I⟩))<|eS U (FA 0 U eP U)<|eS U (L1 (vI o.2.Lo) 1 U cf U U)<|eS U (MX U)<|eS U (LW 3 U cf U U)<|eS U (MV U)<|eS U (CL (Lm o.1) (aN) U)<|eS U (CL (xP t (fV o.1) I I) (aN) U)<|eS U (AG U)<|eN U<|cm U fun T45 Q4=>AL U vv fun YD=>aJ (Q4 _ _ (aS [1,2,3,4,5,6,7,8,9,10,11,12,13,14,15,16]) ?_)
    refine cm U fun T47 Q5=>gl U tv U<|aJ (Q5 _ _ (aS [1,2,3,4,5,6,7,8,9,10,11,12,13,14,15,16]) ?_)
    refine f_ U<|KK Lk<|aq fun _ L2=>dy cy 15 kr<|mz 1 [] (mc 11 U mn) U<|dS (SX (cS U U) U U)<|dP 4 [0,1] (mr 10 U (mc 8 U mn)) ?_
    have R8:(List.map oC (dI (fb++[B]) (ln.ab.n+1)))[(b+1)]? =some (oC (some B)):=qW (ng (BF I))
    refine dS (IA (b+1) U (au (n:=(ln.ab.n+1)) 16 U sq) o5 dc I I) ?_
    refine dS (hP (b+1) 0 (Value.map (some B)) U cf (au (n:=(dI (fb++[B]) (ln.ab.n+1)).length) 16 U sm) R8 U dc U)<|mz 1 [] (mc 0 U mn) U<|dS (SX (tR (kV:=eI) (x:=(dK t (fV o.1))) (l:=O) (f:=iV) (z:=0) U U U pZ pQ XC (by exact aF 7 U)) U U)<|lP 5 U<|cO<|RK L2<|aq fun _ AO=>dy cy 19 kr<|mz 4 [0,1] (mc 2 U (mc 11 U mn)) U<|dS (SX (cS U U) U U)<|mz 3 [] (mr 10 U mn) U<|dS (MN U)<|dP 2 [] mn ?_
    refine j0 (t:=121) U (aW fun P=>?_) (aV fun P=>?_)
    ·refine dP 8 [] mn ?_
     refine cO<|RK AO<|ct U<|cx<|aO ?_
     exact H O _ _ (by exact D.skip (KN hy P)) (aS [1,3,4,5,6,7,8,9,10,11,12,13,14,15,16])
    refine dP 3 [] mn ?_
    refine iu (t:=124) U (fun R=>?_) (fun R=>?_)
    ·rw [Bool.not_eq_true'] at R
     refine lP 5 U<|cO<|RK AO<|aU U<|dy cy 10 kr<|mz 1 [] (mc 11 U mn) U<|dS (SX (cS U U) U U)<|dP 4 [0,1] (mr 10 U (mc 8 U mn)) ?_
     have R9:(List.map oC (dI (fb++[B]) (ln.ab.n+1)))[(b+1)]? =some (oC (some B)):=qW (ng (BF I))
     refine dS (IA (b+1) U (au (n:=(ln.ab.n+1)) 16 U sq) o5 dc I I) ?_
     refine dS (hP (b+1) 0 (Value.map (some B)) U cf (au (n:=(dI (fb++[B]) (ln.ab.n+1)).length) 16 U sm) R9 U dc U)<|dP 2 [] (mc 0 U mn) ?_
     refine cO<|jt (kV:=eI) (x:=(dK t (fV o.1))) (C':=[_,_,_,_,_,_,_,(kQ eI B (cT iV (eA O (dK t (fV o.1)) (max (v+y) o.2.Lo)))),_,_,_,_,_,_,_,_,_]) 7 U U U U pZ pQ U (g6 _ _ _ _).symm U<|aJ<|aO ?_
     exact H (eA O (dK t (fV o.1)) (max (v+y) o.2.Lo)) _ _ (by exact D.set hp ho (BA hy P) (.inl (by simpa using R))) (aS [1,3,4,5,6,7,8,9,10,11,12,13,14,15,16])
    rw [Bool.not_eq_false'] at R
    refine dP 5 [] mn ?_
    refine cO<|RK AO<|bV U (aW fun u=>?_) (aV fun u=>?_)
    ·refine cx<|aO ?_
     exact H O _ _ (by exact D.pD (BA hy P) (by simpa using R) u) (aS [1,3,4,5,6,7,8,9,10,11,12,13,14,15,16])
    refine dy cy 10 kr<|mz 1 [] (mc 11 U mn) U<|dS (SX (cS U U) U U)<|dP 4 [0,1] (mr 10 U (mc 8 U mn)) ?_
    have SA:(List.map oC (dI (fb++[B]) (ln.ab.n+1)))[(b+1)]? =some (oC (some B)):=qW (ng (BF I))
    refine dS (IA (b+1) U (au (n:=(ln.ab.n+1)) 16 U sq) o5 dc I I) ?_
    refine dS (hP (b+1) 0 (Value.map (some B)) U cf (au (n:=(dI (fb++[B]) (ln.ab.n+1)).length) 16 U sm) SA U dc U)<|dP 2 [] (mc 0 U mn) ?_
    refine cO<|jt (kV:=eI) (x:=(dK t (fV o.1))) (C':=[_,_,_,_,_,_,_,(kQ eI B (cT iV (eA O (dK t (fV o.1)) (max (v+y) o.2.Lo)))),_,_,_,_,_,_,_,_,_]) 7 U U U U pZ pQ U (g6 _ _ _ _).symm U<|aJ<|aO ?_
    exact H (eA O (dK t (fV o.1)) (max (v+y) o.2.Lo)) _ _ (by exact D.set hp ho (BA hy P) (.inr u)) (aS [1,3,4,5,6,7,8,9,10,11,12,13,14,15,16])
   refine bL<|ai<|ai<|aI<|KK EQ<|WS fun _ AR=>rP 1 [] mn ?_
   refine AL U kY fun S2=>OR U zM U U<|RK AR<|aG ?_
   rw [Ib]
   refine oM ?_
   have C:(0≤ln.ab.n+1)∧(([]:List FM).length=0)∧(([]:List Nat).length=0)∧(iS (cU ln ri e tms) (ln.ab.n+1-0) ([]:List FM)):=by exact ⟨Nat.zero_le _,rfl,rfl,iS.none_⟩
   refine xT (ι:={z:Nat×(List FM)×(List Nat)×Nat×(List Nat) // (z.1≤ln.ab.n+1)∧(z.2.1.length=z.1)∧(z.2.2.1.length=z.1)∧(iS (cU ln ri e tms) (ln.ab.n+1-z.1) z.2.1)}) (fun z=>z.1.2.2.2.2.map ke) (fun z=>[(0,(vP gw)),(1,(vP W)),(2,(vI (ln.ab.n:Int))),(12,(Value.pointer (some ⟨z.1.2.2.2.1,0,none⟩)))]) (fun z=>[(bK (a_ nM z.1.2.1 z.1.2.2.1)),(cv z.1.2.2.2.1 3 [(vI ((ln.ab.n:Int)-(z.1.1:Int)))]),(bK (z.1.2.2.2.2.map mO)),(cv gw 150 (cb.cells (cb.mk ln ri (bE.mk e_A e.length e_C) (bE.mk t_A tms.length t_C) (bE.mk fA (ln.ab.n+1) (ln.ab.n+1)) (bE.mk bA (ln.ab.n+1) (ln.ab.n+1))))).ro,(cv W 108 [(vP gw)]),(rd e_A e.length 1 (e.map iC)).ro,(rd t_A tms.length 1 (List.zipWith gR tms tb)).ro,(dV (a_ qp tms tb)).ro,(own bA (ln.ab.n+1) 156 1 (List.map oC (iP z.1.2.2.1 (ln.ab.n+1)))),(bK (a_ nM fs fb)),(own fA (ln.ab.n+1) 156 1 (List.map oC (dI fb (ln.ab.n+1))))]) (fun z=>ln.ab.n+1-z.1.1) ⟨(0,([]:List FM),([]:List Nat),S2,S1),C⟩ U (bw U) (aS [0,1,2,3,4,5,6,7,8,9,10]) ?_
   clear C
   rintro ⟨⟨j,bs,bb,gq,q⟩,⟨A6,A7,A8,E⟩⟩ J57 Bc
   try dsimp only at A6 A7 A8 E
   try dsimp only
   refine aq fun _ AY=>WS fun _ Ae=>rP 2 [] (mc 1 U mn) ?_
   refine RK Ae<|bV U (aW fun J5=>?_) (aV fun J5=>?_)
   ·refine bL<|ai<|ai<|aI ?_
    rw [show (List.map oC (dI fb (ln.ab.n+1)))=(List.zipWith gR fs fb) from by rw [Al I]; exact (Bm I).symm]
    rw [show (List.map oC (iP bb (ln.ab.n+1)))=(List.zipWith gR bs bb) from by rw [IZ I]; exact (Bm I).symm]
    refine AX (C1:=[(own fA (ln.ab.n+1) 156 1 (List.zipWith gR fs fb)),(bK (a_ nM fs fb)),(own bA (ln.ab.n+1) 156 1 (List.zipWith gR bs bb)),(bK (a_ nM bs bb)),(bK (q.map mO))]) hz [10,9,8,0,2] U U (by simp only [fE,List.all_nil,pX,O4,Bool.and_true]; rfl) ?_
    rw [show (cv gw 150 (cb.cells (cb.mk ln ri (bE.mk e_A e.length e_C) (bE.mk t_A tms.length t_C) (bE.mk fA (ln.ab.n+1) (ln.ab.n+1)) (bE.mk bA (ln.ab.n+1) (ln.ab.n+1)))))=(cv gw 150 (cb.cells (cb.mk ln ri (bE.mk e_A e.length e_C) (bE.mk t_A tms.length t_C) (bE.mk fA fs.length (ln.ab.n+1)) (bE.mk bA bs.length (ln.ab.n+1))))) from by rw [show fs.length=(ln.ab.n+1) from by omega,show bs.length=(ln.ab.n+1) from by omega]]
    refine RR [(cv gw 150 (cb.cells (cb.mk ln ri (bE.mk e_A e.length e_C) (bE.mk t_A tms.length t_C) (bE.mk fA fs.length (ln.ab.n+1)) (bE.mk bA bs.length (ln.ab.n+1))))),(own fA (ln.ab.n+1) 156 1 (List.zipWith gR fs fb)),(bK (a_ nM fs fb)),(own bA (ln.ab.n+1) 156 1 (List.zipWith gR bs bb)),(bK (a_ nM bs bb))] [(bK (q.map mO))] ?_
    refine hN _ _ _ (Jm 1 U U<|kp (vs:=[]) trivial fun w hs=>U7 (fs,fb,fA,(ln.ab.n+1),bs,bb,bA,(ln.ab.n+1)) 0 ?_ ?_ U (by show List.all _ _=true; simp only [fE,List.all_nil,pX,Bool.and_true]; rfl) hs)
    ·clear hs w hQ hN Ae AY AR AD E1 Eq EQ Di C0; rfl
    ·clear hs w hQ hN Ae AY AR AD E1 Eq EQ Di C0; exact ⟨M.ok (by show fs.length=e.length+1; omega),iS.ok (by have:=E; rwa [show ln.ab.n+1-j=0 by omega] at this) (by show bs.length=e.length+1; omega),dso,dso⟩
   refine WK AY<|aq fun _ B9=>aG<|aq fun _ L3=>?_
   obtain ⟨b,YF⟩: ∃ b:Nat,b+j=ln.ab.n:=⟨ln.ab.n-j,I⟩
   rw [show (ln.ab.n:Int)-(j:Int)=(b:Int) from by omega]
   have X_:(iP bb (ln.ab.n+1)).length=(ln.ab.n+1):=zS I
   refine dT cy [5,12,13,15] [11] [0,1,2] [0,1,2,3,4,5,6,7,9,10] [0,1,2,3,4,5,6,7,8,9,10] U U U U U<|eS U (Fu 4 U cf U)<|eS U (SX (cS U U) U U)<|eS U (FA 13 U eP U)<|eS U (Kd (vS bA (ln.ab.n+1) (ln.ab.n+1)) 3 U cf U U)<|eS U (Fu 1 U cf U)<|eS U (SX (bp (xs:=[]) (cs:=(aK.cells (aK.mk 0 0))) U U (bo Cn U)) U U)<|eS U (Fu 4 U cf U)<|eS U (SX (cS U U) U U)<|eS U (FA 7 U eP U)<|eS U (FA 8 U eP U)<|eS U (Kd (vI ri.fI) 3 U cf U U) ?_
   obtain ⟨XS,Sf⟩:=aM (iP bb (ln.ab.n+1)) b I
   have hx63m:(List.map oC (iP bb (ln.ab.n+1)))[b]? =some (oC XS):=by rw [dL,Sf]; rfl
   refine fS U (IA b U (au (n:=(ln.ab.n+1)) 8 U sq) o5 dc I I) ?_
   refine eN U<|jZ U fun T64 RU=>nq (kV:=eI) U U fun A=>?_
   try dsimp only
   refine aJ (RU _ _ (aS [1,2,3,4,5,6,7,8,10,11]) (aS [1,2,3,4,5,6,7,8,9,10,11]) ?_)
   refine jZ U fun T66 Rc=>?_
   have R5:(eA ([]:List (aK×Int)) (aK.mk 0 0) ri.fI)=[((aK.mk 0 0),ri.fI)]:=by rfl
   refine z7 (kV:=eI) (x:=(aK.mk 0 0)) (C':=[(kQ eI A (cT iV ([((aK.mk 0 0),ri.fI)]))),_,_,_,_,_,_,_,_,_,_,_]) 0 U U U U pZ pQ U ((g6 _ _ _ _).symm.trans (congrArg _ R5)) U<|aJ (Rc _ _ (aS [1,2,3,4,5,6,7,8,10,11]) (aS [1,2,3,4,5,6,7,8,9,10,11]) ?_)
   refine jZ U fun T68 Rr=>rS (MV U)<|aJ (Rr _ _ (aS [1,2,3,4,5,6,7,8,10,11]) (aS [1,2,3,4,5,6,7,8,9,10,11]) ?_)
   refine cm U fun T69 R0=>?_
   have R6:((iP bb (ln.ab.n+1)).set b (some A))=(iP (A::bb) (ln.ab.n+1)):=by exact Hj I
   refine eE (k:=b) (o:=0) (vs:=[(Value.map (some A))]) (es':=(List.map oC (iP (A::bb) (ln.ab.n+1)))) (C':=[_,_,_,_,_,_,_,_,_,(own bA (ln.ab.n+1) 156 1 (List.map oC (iP (A::bb) (ln.ab.n+1)))),_,_]) 9 U U U K7 U U U U hx63m U dc (by exact (List.map_set (f:=oC) (l:=(iP bb (ln.ab.n+1))) (i:=b) (a:=(some A))).symm.trans (congrArg _ R6)) U<|aJ (R0 _ _ (aS [1,2,3,4,5,6,7,8,10,11]) ?_)
   refine f_ U<|KK L3<|aq fun _ Mn=>WS fun _ M2=>rP 3 [] (mc 2 U mn) ?_
   refine RK M2<|cG U (aV fun J6=>?_) (aW fun J6=>?_)
   ·refine bL<|ai<|aI<|KK B9<|aq fun _ NE=>WS fun _ Ne=>fD 1 [] (mc 2 U mn) U<|RK Ne<|ay<|AL U kY fun To=>OR U zM U U<|RK NE<|ay<|rP 2 [] (mc 0 U mn) ?_
    refine OR U zM U U<|aJ ?_
    rw [show (b:Int)-1=(ln.ab.n:Int)-(((j+1):Nat):Int) from by omega]
    refine z3 (ms:=bs) (m:=[((aK.mk 0 0),ri.fI)]) (a:=A) 2 1 U U U ?_
    try dsimp only
    refine bj (Bc ⟨((j+1),([((aK.mk 0 0),ri.fI)]::bs),(A::bb),To,q),⟨I,by simp; omega,by simp; omega,by exact iS.end_ (b:=b) E I I (by show e.length≤b; omega)⟩⟩ _ _ _ U os (bw U) (aS [0,1,3,4,5,6,7,8,9,10,11]))
   refine WK Mn<|aq fun _ OY=>?_
   have WF:(iP (A::bb) (ln.ab.n+1)).length=(ln.ab.n+1):=zS (by simp; omega)
   obtain ⟨mb,N⟩:=aM bs 0 I
   obtain ⟨ga,Z⟩:=aM bb 0 I
   refine Ag 1 N Z U U U ?_
   try dsimp only
   refine dy cy 8 kr<|mz 1 [] (mc 6 U mn) U<|dS (SX (cS U U) U U)<|dP 4 [0,1] (mr 5 U (mc 3 U mn)) ?_
   have SN:(List.map oC (iP (A::bb) (ln.ab.n+1)))[(b+1)]? =some (oC (some ga)):=qW (uE (i:=1) (by simpa using Z) (by simp; omega))
   refine dS (IA (b+1) U (au (n:=(ln.ab.n+1)) 10 U sq) o5 dc I I) ?_
   refine dS (hP (b+1) 0 (Value.map (some ga)) U cf (au (n:=(iP (A::bb) (ln.ab.n+1)).length) 10 U sm) SN U dc U)<|cO<|Aj 0 U U pZ U U fun BE=>?_
   try dsimp only
   refine RK OY<|aG ?_
   have C:(∀ p∈mb,p∈mb)∧(xy (cU ln ri e tms) b ([((aK.mk 0 0),ri.fI)]))∧(kb (cU ln ri e tms) b mb ([((aK.mk 0 0),ri.fI)]) mb):=by exact ⟨fun p hp=>hp,xy.start (by show b<e.length; omega),kb.start⟩
   refine xT (ι:={z:FM×FM×(List Nat) // (∀ p∈z.1,p∈mb)∧(xy (cU ln ri e tms) b z.2.1)∧(kb (cU ln ri e tms) b mb z.2.1 z.1)}) (fun z=>z.1.2.2.map ke) (fun z=>[(0,(vP gw)),(1,(vP W)),(2,(vI (ln.ab.n:Int))),(12,(vP gq)),(171,(vP BE))]) (fun z=>[(Bi eI BE ga (cT iV mb) (cT iV z.1.1) none),(bK (gP nM bs bb 0)),(kQ eI A (cT iV z.1.2.1)),(cv gq 3 [(vI (b:Int))]),(bK (z.1.2.2.map mO)),(cv gw 150 (cb.cells (cb.mk ln ri (bE.mk e_A e.length e_C) (bE.mk t_A tms.length t_C) (bE.mk fA (ln.ab.n+1) (ln.ab.n+1)) (bE.mk bA (ln.ab.n+1) (ln.ab.n+1))))).ro,(cv W 108 [(vP gw)]),(rd e_A e.length 1 (e.map iC)).ro,(rd t_A tms.length 1 (List.zipWith gR tms tb)).ro,(dV (a_ qp tms tb)).ro,(own bA (ln.ab.n+1) 156 1 (List.map oC (iP (A::bb) (ln.ab.n+1)))),(bK (a_ nM fs fb)),(own fA (ln.ab.n+1) 156 1 (List.map oC (dI fb (ln.ab.n+1))))]) (fun z=>z.1.1.length) ⟨(mb,[((aK.mk 0 0),ri.fI)],q),C⟩ U (bw U) (aS [0,1,2,3,4,5,6,7,8,9,10,11,12]) ?_
   clear C
   rintro ⟨⟨left,m,V⟩,⟨J,K,L⟩⟩ J80 Kc
   try dsimp only at J K L
   try dsimp only
   refine WS fun _ Ci=>yQ pQ.inj (f:=iV) 0 U U U U (fun J7=>?_) (fun t v hm In=>?_)
   ·refine bG 1 U<|RK Ci<|aq fun _ X9=>ct U<|bL<|ai<|ai<|aI<|aO<|KK B9<|aq fun _ Op=>WS fun _ Or=>fD 1 [] (mc 3 U mn) U<|RK Or<|ay<|AL U kY fun J2=>OR U zM U U<|RK Op<|ay<|rP 2 [] (mc 0 U mn) ?_
    refine OR U zM U U<|aJ<|Mt (C':=[(cv J2 3 [(vI ((b:Int)-1))]),(kQ eI ga (cT iV mb)),(bK (gP nM bs bb 0)),(kQ eI A (cT iV m)),(cv gq 3 [(vI (b:Int))]),(bK (V.map mO)),(cv gw 150 (cb.cells (cb.mk ln ri (bE.mk e_A e.length e_C) (bE.mk t_A tms.length t_C) (bE.mk fA (ln.ab.n+1) (ln.ab.n+1)) (bE.mk bA (ln.ab.n+1) (ln.ab.n+1))))).ro,(cv W 108 [(vP gw)]),(rd e_A e.length 1 (e.map iC)).ro,(rd t_A tms.length 1 (List.zipWith gR tms tb)).ro,(dV (a_ qp tms tb)).ro,(own bA (ln.ab.n+1) 156 1 (List.map oC (iP (A::bb) (ln.ab.n+1)))),(bK (a_ nM fs fb)),(own fA (ln.ab.n+1) 156 1 (List.map oC (dI fb (ln.ab.n+1))))]) 1 U Kv U<|K9 2 1 N Z U U U ?_
    try dsimp only
    rw [show (b:Int)-1=(ln.ab.n:Int)-(((j+1):Nat):Int) from by omega]
    refine z3 (ms:=bs) (m:=m) (a:=A) 0 2 U U U ?_
    try dsimp only
    refine bj (Bc ⟨((j+1),(m::bs),(A::bb),J2,V),⟨I,by simp; omega,by simp; omega,by exact iS.more (b:=b) E I I (by show b<e.length; omega) N K L J7⟩⟩ _ _ _ U os (bw U) (aS [0,1,3,4,5,6,7,8,9,10,11]))
   try dsimp only
   refine bG 1 U<|RK Ci<|aq fun _ Os=>aU U<|WK Os<|aG<|WS fun _ Ox=>rS (SX (yb 0 U U U) U U)<|bG 2 U<|AL U vv fun J3=>AL U kY fun J4=>rV U tv U<|OR U zM U U<|RK Ox<|WS fun _ PP=>rP 2 [0,1] (mc 8 U (mc 5 U mn)) ?_
   refine cX (wL gw b) (aN) U fun X4 YB=>?_
   obtain ⟨Cl,Cx⟩:=X4
   try dsimp only
   refine RK PP<|aG<|jK 11 U (by exact fun _ h=>h)<|jK 13 U (by exact fun _ h=>h)<|jK 15 U (by exact fun _ h=>h)<|jK 12 U (by exact fun _ h=>h) ?_
   refine uu (L0:=[(0,(vP gw)),(1,(vP W)),(2,(vI (ln.ab.n:Int))),(12,(vP gq)),(13,(vP J3)),(14,(vP J4)),(171,(vP BE))]) (F:=[(rd e_A e.length 1 (e.map iC)).ro,(rd t_A tms.length 1 (List.zipWith gR tms tb)).ro,(dV (a_ qp tms tb)).ro,(cv gw 150 (cb.cells (cb.mk ln ri (bE.mk e_A e.length e_C) (bE.mk t_A tms.length t_C) (bE.mk fA (ln.ab.n+1) (ln.ab.n+1)) (bE.mk bA (ln.ab.n+1) (ln.ab.n+1))))).ro,(cv Cl 108 [(vP gw)]),(cv Cx 3 [(vI (b:Int))])]) (fun k (y:FM)=>(oI (cU ln ri e tms) b mb left y (t,v) k)) (fun k y=>[(cv J4 3 [(vI v)]),(cv J3 158 (aK.cells t)),(Bi eI BE ga (cT iV mb) (cT iV (fH left t)) (some (t,(vI v)))),(bK (gP nM bs bb 0)),(kQ eI A (cT iV y)),(cv gq 3 [(vI (b:Int))]),(bK (V.map mO)),(cv gw 150 (cb.cells (cb.mk ln ri (bE.mk e_A e.length e_C) (bE.mk t_A tms.length t_C) (bE.mk fA (ln.ab.n+1) (ln.ab.n+1)) (bE.mk bA (ln.ab.n+1) (ln.ab.n+1))))).ro,(cv W 108 [(vP gw)]),(rd e_A e.length 1 (e.map iC)).ro,(rd t_A tms.length 1 (List.zipWith gR tms tb)).ro,(dV (a_ qp tms tb)).ro,(own bA (ln.ab.n+1) 156 1 (List.map oC (iP (A::bb) (ln.ab.n+1)))),(bK (a_ nM fs fb)),(own fA (ln.ab.n+1) 156 1 (List.map oC (dI fb (ln.ab.n+1))))]) (fun _ (_:Unit)=>False) (fun _ _=>[]) [6,7,8,9,10,11,12,13,14,15,16,17,18,19,20] [3,2,1,0,4,5] m rfl rfl (tQ ln ri e tms e_A e_C tb t_A t_C fA (ln.ab.n+1) (ln.ab.n+1) bA (ln.ab.n+1) (ln.ab.n+1) gw b Cl Cx I I) rfl rfl rfl (by exact oI.start K L) (by simp only [List.forall_mem_cons,List.not_mem_nil,false_imp_iff,implies_true,and_true]; exact ⟨⟨_,aQ (i:=0) rfl,(dQ (bY _))⟩,⟨_,aQ (i:=1) rfl,(dQ (bY _))⟩,⟨_,aQ (i:=2) rfl,(dQ (bY _))⟩,⟨_,aQ (i:=3) rfl,(dQ (bY _))⟩,⟨_,aQ (i:=4) rfl,(bY _)⟩,⟨_,aQ (i:=5) rfl,(bY _)⟩⟩) (by rintro k x k2 ⟨o,_,rfl,_⟩; rfl) rfl (bw rfl) ?_ ?_ (fun _ _ _ h=>h.elim) (fun _ _ h=>h.elim)
   rotate_left 1
   ·rintro So k O A1 A5
    have D:=A5
    try dsimp only
    refine aO<|aO<|Lj (X:=V.map mO) 13 0 U U ?_
    try dsimp only
    refine rp 9 U DU U ?_
    refine bj (Kc ⟨((fH left t),O,(So::V)),⟨nc J,D.on,D.next In hm A1⟩⟩ _ _ _ U (nm hm) (bw U) (aS [9,10,11,12,0,4,14,1,2,3,18,19,20]))
   rintro k x k2 O l ra rb S w1 K95 Qr96 WV hx H1 Pi AB Xk X6
   obtain ⟨o,ho,rfl,rfl⟩:=hx
   have D:=H1
   try dsimp only
   refine WS fun _ Pl=>rP 1 [] mn ?_
   refine RK Pl<|ay<|AL U ej fun YE=>gl U c_ U<|aJ<|km (fun _ _ h=>h) (aS [1,0,2,3,4,5,6,7,8,9,10,11,12,13,14,15,16])<|bj (Pi _ _ ?_)
   refine aG<|aq fun _ C2=>dT cy [16,18] [] [] [0,1,2,3,4,5,6,7,8,9,10,11,12,13,14,15,16] [] U U U U U<|eS U (Fu 2 U cf U)<|eS U (FA 1 U eP U)<|eS U (L1 (vI o.2.Hi) 1 U cf U U) ?_
   have hp:=E.W7 (b:=b) I N (J _ hm)
   have UV:=Ly hw hp
   have WG:=wk o.1
   have WP:=hw.opt ho
   dsimp only at UV
   refine eS U (MN U)<|eS U (Fu 10 U cf U)<|eS U (SX (cS U U) U U)<|eS U (FA 10 U eP U)<|eS U (Kd (vS e_A e.length e_C) 9 U cf U U)<|eS U (Fu 7 U cf U) ?_
   obtain ⟨y,hy⟩:=aM e b I
   have JJ:=bQ iC hy
   refine eS U (IA b U (aF 11 U) dJ dc I I)<|eS U (hP b 0 (vI y) U cf (aF 11 U) JJ U dc U) ?_
   have Vs:=hw.least y (aQ hy)
   refine eS U (BI U (x_ ⟨I,I⟩))<|eS U (LW 3 U cf U U)<|eS U (MV U)<|eS U (CL (Lm o.1) (aN) U)<|eS U (CL (xP t (fV o.1) I I) (aN) U)<|eS U (AG U)<|eN U<|cm U fun T101 FS=>AL U vv fun X7=>aJ (FS _ _ (aS [1,2,3,4,5,6,7,8,9,10,11,12,13,14,15,16,17]) ?_)
   refine cm U fun T103 Fd=>gl U tv U<|aJ (Fd _ _ (aS [1,2,3,4,5,6,7,8,9,10,11,12,13,14,15,16,17]) ?_)
   refine f_ U<|KK C2<|aq fun _ C3=>dy cy 14 kr<|mz 1 [] (mc 11 U mn) U<|dS (SX (cS U U) U U)<|dP 3 [0,1] (mr 10 U (mc 8 U mn)) ?_
   have ID:(List.map oC (iP (A::bb) (ln.ab.n+1)))[b]? =some (oC (some A)):=qW (uE (i:=0) rfl (by simp; omega))
   refine dS (IA b U (au (n:=(ln.ab.n+1)) 15 U sq) o5 dc I I) ?_
   refine dS (hP b 0 (Value.map (some A)) U cf (au (n:=(iP (A::bb) (ln.ab.n+1)).length) 15 U sm) ID U dc U)<|mz 1 [] (mc 0 U mn) U<|dS (SX (tR (kV:=eI) (x:=(dK t (fV o.1))) (l:=O) (f:=iV) (z:=0) U U U pZ pQ XC (by exact aF 7 U)) U U)<|lP 5 U<|cO<|RK C3<|WS fun _ Y=>fD 3 [0,1] (mc 3 U (mc 2 U mn)) U<|rS (MN U)<|rP 4 [] (mc 2 U mn) ?_
   refine cu (t:=217) U (aW fun T=>?_) (aV fun T=>?_)
   ·refine rP 8 [] mn ?_
    refine RK Y<|ct U<|cx<|aO ?_
    exact AB O _ _ (by exact D.skip (Ni T)) (aS [1,3,4,5,6,7,8,9,10,11,12,13,14,15,16,17])
   refine rP 3 [] mn ?_
   refine cg (t:=220) U (fun AA=>?_) (fun AA=>?_)
   ·rw [Bool.not_eq_true'] at AA
    refine bG 5 U<|RK Y<|aU U<|dy cy 9 kr<|mz 1 [] (mc 11 U mn) U<|dS (SX (cS U U) U U)<|dP 3 [0,1] (mr 10 U (mc 8 U mn)) ?_
    have IO:(List.map oC (iP (A::bb) (ln.ab.n+1)))[b]? =some (oC (some A)):=qW (uE (i:=0) rfl (by simp; omega))
    refine dS (IA b U (au (n:=(ln.ab.n+1)) 15 U sq) o5 dc I I) ?_
    refine dS (hP b 0 (Value.map (some A)) U cf (au (n:=(iP (A::bb) (ln.ab.n+1)).length) 15 U sm) IO U dc U)<|dP 2 [] (mc 0 U mn) ?_
    refine cO<|jt (kV:=eI) (x:=(dK t (fV o.1))) (C':=[_,_,_,_,_,_,_,(kQ eI A (cT iV (eA O (dK t (fV o.1)) ((min v o.2.Hi)-y)))),_,_,_,_,_,_,_,_,_,_]) 7 U U U U pZ pQ U (g6 _ _ _ _).symm U<|aJ<|aO ?_
    exact AB (eA O (dK t (fV o.1)) ((min v o.2.Hi)-y)) _ _ (by exact D.set (by show b<e.length; omega) hp ho (Bs hy T) (.inl (by simpa using AA))) (aS [1,3,4,5,6,7,8,9,10,11,12,13,14,15,16,17])
   rw [Bool.not_eq_false'] at AA
   refine rP 5 [] mn ?_
   refine RK Y<|bV U (aW fun AC=>?_) (aV fun AC=>?_)
   ·refine cx<|aO ?_
    exact AB O _ _ (by exact D.pD (Bs hy T) (by simpa using AA) AC) (aS [1,3,4,5,6,7,8,9,10,11,12,13,14,15,16,17])
   refine dy cy 9 kr<|mz 1 [] (mc 11 U mn) U<|dS (SX (cS U U) U U)<|dP 3 [0,1] (mr 10 U (mc 8 U mn)) ?_
   have IR:(List.map oC (iP (A::bb) (ln.ab.n+1)))[b]? =some (oC (some A)):=qW (uE (i:=0) rfl (by simp; omega))
   refine dS (IA b U (au (n:=(ln.ab.n+1)) 15 U sq) o5 dc I I) ?_
   refine dS (hP b 0 (Value.map (some A)) U cf (au (n:=(iP (A::bb) (ln.ab.n+1)).length) 15 U sm) IR U dc U)<|dP 2 [] (mc 0 U mn) ?_
   refine cO<|jt (kV:=eI) (x:=(dK t (fV o.1))) (C':=[_,_,_,_,_,_,_,(kQ eI A (cT iV (eA O (dK t (fV o.1)) ((min v o.2.Hi)-y)))),_,_,_,_,_,_,_,_,_,_]) 7 U U U U pZ pQ U (g6 _ _ _ _).symm U<|aJ<|aO ?_
   exact AB (eA O (dK t (fV o.1)) ((min v o.2.Hi)-y)) _ _ (by exact D.set (by show b<e.length; omega) hp ho (Bs hy T) (.inr AC)) (aS [1,3,4,5,6,7,8,9,10,11,12,13,14,15,16,17])
  refine dT cy [4,11,12,14] [10] [0,1,2] [0,1,2,3,4,6] [0,1,2,3,4,5,6] U U U U U<|eS U (Fu 1 U cf U)<|eS U (SX (cS U U) U U)<|eS U (FA 12 U eP U)<|eS U (Kd (vS fA (ln.ab.n+1) (ln.ab.n+1)) 0 U cf U U)<|eS U (SX (bp (xs:=[]) (cs:=(aK.cells (aK.mk 0 0))) U U (bo Cn U)) U U)<|eS U (Fu 1 U cf U)<|eS U (SX (cS U U) U U)<|eS U (FA 7 U eP U)<|eS U (FA 7 U eP U)<|eS U (Kd (vI ri.Start) 0 U cf U U) ?_
  obtain ⟨x6,Wy⟩:=aM (List.replicate (ln.ab.n+1) (none:Option Nat)) 0 I
  have hx7m:(List.map oC (List.replicate (ln.ab.n+1) (none:Option Nat)))[0]? =some (oC x6):=by rw [dL,Wy]; rfl
  refine fS U (IA 0 U (au (n:=(ln.ab.n+1)) 5 U sq) o5 dc U I) ?_
  refine eN U<|jZ U fun T8 GE=>nq (kV:=eI) U U fun r=>?_
  try dsimp only
  refine aJ (GE _ _ (aS [1,2,3,4,5,7]) (aS [1,2,3,4,5,6,7]) ?_)
  refine jZ U fun T10 G=>?_
  have R1:(eA ([]:List (aK×Int)) (aK.mk 0 0) ri.Start)=[((aK.mk 0 0),ri.Start)]:=by rfl
  refine z7 (kV:=eI) (x:=(aK.mk 0 0)) (C':=[(kQ eI r (cT iV ([((aK.mk 0 0),ri.Start)]))),_,_,_,_,_,_,_]) 0 U U U U pZ pQ U ((g6 _ _ _ _).symm.trans (congrArg _ R1)) U<|aJ (G _ _ (aS [1,2,3,4,5,7]) (aS [1,2,3,4,5,6,7]) ?_)
  refine jZ U fun T12 QH=>rS (MV U)<|aJ (QH _ _ (aS [1,2,3,4,5,7]) (aS [1,2,3,4,5,6,7]) ?_)
  refine cm U fun T13 Qi=>?_
  have R2:((List.replicate (ln.ab.n+1) (none:Option Nat)).set 0 (some r))=(dI [r] (ln.ab.n+1)):=by rw [wy]; exact s9 rfl sm
  refine eE (k:=0) (o:=0) (vs:=[(Value.map (some r))]) (es':=(List.map oC (dI [r] (ln.ab.n+1)))) (C':=[_,_,_,_,_,_,(own fA (ln.ab.n+1) 156 1 (List.map oC (dI [r] (ln.ab.n+1)))),_]) 6 U U U K7 U U U U hx7m U dc (by exact (List.map_set (f:=oC) (l:=(List.replicate (ln.ab.n+1) (none:Option Nat))) (i:=0) (a:=(some r))).symm.trans (congrArg _ R2)) U<|aJ (Qi _ _ (aS [1,2,3,4,5,7]) ?_)
  refine f_ U<|Ej<|y7 (X:=[]) (X':=a_ nM [[((aK.mk 0 0),ri.Start)]] [r]) 0 1 U U U ?_
  try dsimp only
  refine bj (km (bw U) (aS [1,2,3,4,5,7,0,6]) (T6 ⟨r,trivial⟩))
 refine m7 cy [0,1,2,3,5,6,8,9,11,12] [4,7,10,13] [false,false,false,false,false,false,false,false,false,false] [] [(cv W 108 [(vP gw)]),(rd e_A e.length 1 (e.map iC)).ro,(rd t_A tms.length 1 (List.zipWith gR tms tb)).ro,(dV (a_ qp tms tb)).ro] [] kr (aS [0,2,3,4]) (aS [])<|eS U (Fu 0 U cf U)<|eS U (Fu 0 U cf U)<|eS U (MV U)<|eS U (BI U (oZ ⟨I,I⟩))<|eS U (MV U)<|eS U (BI U (oZ ⟨I,I⟩))<|eS U (SX (cS U U) U U)<|eS U (FA 12 U eP U)<|eS U (SX (cS U U) U U)<|eS U (FA 13 U eP U)<|eN U<|nH [4,7] kr (jc ?_<|jc ?_<|qP)
 rotate_left 1
 ·refine NO U U [4,10,13] fun T5 Fn=>?_
  refine wS (n:=(ln.ab.n+1)) (es:=(List.map oC (List.replicate (ln.ab.n+1) (none:Option Nat)))) U U U BU I I (by simp only [maxLen]; omega) (by rw [List.map_replicate]; rfl) U fun b6=>?_
  try dsimp only
  refine aJ (Fn _ _ (aS [1,3,4,5]) ?_)
  refine N1 4<|NO U U [10,13] fun T7 A0=>?_
  refine wS (n:=(ln.ab.n+1)) (es:=(List.map oC (List.replicate (ln.ab.n+1) (none:Option Nat)))) U U U BU I I (by simp only [maxLen]; omega) (by rw [List.map_replicate]; rfl) U fun b8=>?_
  try dsimp only
  refine aJ (A0 _ _ (aS [2,4,5,6]) ?_)
  refine N1 10<|NO U U [13] fun T9 GT=>Rk (cb.cells (cb.mk ln ri (bE.mk e_A e.length e_C) (bE.mk t_A tms.length t_C) (bE.mk (some ⟨b8,0,none⟩) (ln.ab.n+1) (ln.ab.n+1)) (bE.mk none 0 0))) U zV U U<|aJ (GT _ _ (aS [2,4,5,6]) ?_)
  refine N1 13<|NO U U [] fun T10 G=>Rk (cb.cells (cb.mk ln ri (bE.mk e_A e.length e_C) (bE.mk t_A tms.length t_C) (bE.mk (some ⟨b8,0,none⟩) (ln.ab.n+1) (ln.ab.n+1)) (bE.mk (some ⟨b6,0,none⟩) (ln.ab.n+1) (ln.ab.n+1)))) U zV U U<|aJ (G _ _ (aS [2,4,5,6]) ?_)
  refine mE ?_
  refine bj (km (bw U) (aS [2,4,5,6,0,1,3]) (Do ⟨((some ⟨b8,0,none⟩),(some ⟨b6,0,none⟩)),trivial⟩))
 refine NO U U [7,10,13] fun T5 Fn=>?_
 refine wS (n:=(ln.ab.n+1)) (es:=(List.map oC (List.replicate (ln.ab.n+1) (none:Option Nat)))) U U U BU I I (by simp only [maxLen]; omega) (by rw [List.map_replicate]; rfl) U fun b6=>?_
 try dsimp only
 refine aJ (Fn _ _ (aS [1,3,4,5]) ?_)
 refine nH [7,10] kr (jc ?_<|jc ?_<|qP)
 rotate_left 1
 ·refine NO U U [7,13] fun T7 A0=>W3 (cb.cells (cb.mk ln ri (bE.mk e_A e.length e_C) (bE.mk t_A tms.length t_C) (bE.mk (some ⟨b6,0,none⟩) (ln.ab.n+1) (ln.ab.n+1)) (bE.mk none 0 0))) U zV U U<|aJ (A0 _ _ (aS [1,3,4,5]) ?_)
  refine N1 7<|NO U U [13] fun T8 GE=>?_
  refine wS (n:=(ln.ab.n+1)) (es:=(List.map oC (List.replicate (ln.ab.n+1) (none:Option Nat)))) U U U BU I I (by simp only [maxLen]; omega) (by rw [List.map_replicate]; rfl) U fun r=>?_
  try dsimp only
  refine aJ (GE _ _ (aS [2,4,5,6]) ?_)
  refine N1 13<|NO U U [] fun T10 G=>Rk (cb.cells (cb.mk ln ri (bE.mk e_A e.length e_C) (bE.mk t_A tms.length t_C) (bE.mk (some ⟨b6,0,none⟩) (ln.ab.n+1) (ln.ab.n+1)) (bE.mk (some ⟨r,0,none⟩) (ln.ab.n+1) (ln.ab.n+1)))) U zV U U<|aJ (G _ _ (aS [2,4,5,6]) ?_)
  refine mE ?_
  refine bj (km (bw U) (aS [2,4,5,6,1,0,3]) (Do ⟨((some ⟨b6,0,none⟩),(some ⟨r,0,none⟩)),trivial⟩))
 refine NO U U [10,13] fun T7 A0=>?_
 refine wS (n:=(ln.ab.n+1)) (es:=(List.map oC (List.replicate (ln.ab.n+1) (none:Option Nat)))) U U U BU I I (by simp only [maxLen]; omega) (by rw [List.map_replicate]; rfl) U fun b8=>?_
 try dsimp only
 refine aJ (A0 _ _ (aS [2,4,5,6]) ?_)
 refine N1 10<|NO U U [13] fun T9 GT=>Rk (cb.cells (cb.mk ln ri (bE.mk e_A e.length e_C) (bE.mk t_A tms.length t_C) (bE.mk (some ⟨b6,0,none⟩) (ln.ab.n+1) (ln.ab.n+1)) (bE.mk none 0 0))) U zV U U<|aJ (GT _ _ (aS [2,4,5,6]) ?_)
 refine N1 13<|NO U U [] fun T10 G=>Rk (cb.cells (cb.mk ln ri (bE.mk e_A e.length e_C) (bE.mk t_A tms.length t_C) (bE.mk (some ⟨b6,0,none⟩) (ln.ab.n+1) (ln.ab.n+1)) (bE.mk (some ⟨b8,0,none⟩) (ln.ab.n+1) (ln.ab.n+1)))) U zV U U<|aJ (G _ _ (aS [2,4,5,6]) ?_)
 refine mE ?_
 refine bj (km (bw U) (aS [2,4,5,6,1,0,3]) (Do ⟨((some ⟨b6,0,none⟩),(some ⟨b8,0,none⟩)),trivial⟩))
end
section
open Go.RowKit
theorem Fq (l:bg) (kA:OA) (kC:Nat) (az:List RA) (cA:OA) (cC:Nat) (bA:OA) (bC g1:Nat) (bm:Int) (g2:Nat) (hin:ep l az):
 dN Tryz.prog 43 [(vP g1),(vP g2)] [(rd kA l.aR.length 9 (l.aR.map ar.cells)),(rd cA l.aj.length 2 (List.zipWith ax.cells l.aj az)),(dV (a_ ax.gG l.aj az)),(rd bA l.ab.length 4 (l.ab.map bJ.cells)),(cv g1 28 (cw.cells (kj l kA kC cA cC bA bC))),(cv g2 3 [(vI bm)])] (vI (iA l bm)):=by
 have K:=hin.sZ
 have J:=hin.rn
 have H:=hin.n_
 have AA:=hin.sB
 refine bH kr Tryz.func43 U U fun L Q hQ hN=>?_
 try dsimp only
 refine WS fun _ B=>bG 1 U<|RK B<|aq fun _ C=>WS fun _ D=>rP 5 [0,1] (mr 4 U (mr 5 U mn)) ?_
 refine eJ (xs:=[.tmp 7]) (cs:=[(vI bm)]) U dJ kY U U U U (by simp [Value.cells]) U U fun G=>?_
 refine rS (CL (dN.eq (iF 0 ((l.ab.length:Int)-1) ([bm]) (some ⟨G,0,none⟩) 1 (by (simp; done))) cH) (aD (br 0 U U (by simp [bR]) U)<|aN) U) ?_
 refine rP 1 [] mn ?_
 refine RK D<|cG U (bB fun A=>?_) (bx fun A=>?_)
 ·refine WS fun _ E=>rP 1 [] mn ?_
  refine RK E<|av<|Q1 hQ U U U ?_
  exact cI (if_neg I).symm
 refine WK C<|WS fun _ F=>rP 1 [] mn ?_
 refine RK F<|av<|Q1 hQ U U U ?_
 exact cI (if_pos I).symm
theorem NZ (l:bg) (kA:OA) (kC:Nat) (az:List RA) (cA:OA) (cC:Nat) (bA:OA) (bC:Nat) (r:cr) (sgA:OA) (sgC:Nat) (hin:ep l az) (hsl:r.aa.length≤1000000):
 qB Tryz.prog 42 [(vA (cw.cells (kj l kA kC cA cC bA bC))),(vA (cM.cells (jI r sgA sgC))),(vS none 0 0)] [(rd kA l.aR.length 9 (l.aR.map ar.cells)),(rd cA l.aj.length 2 (List.zipWith ax.cells l.aj az)),(dV (a_ ax.gG l.aj az)),(rd bA l.ab.length 4 (l.ab.map bJ.cells)),(rd sgA r.aa.length 2 (r.aa.map aH.cells))] (fun (x:Bool×Int×Nat×(OA)×Nat×(OA)×Nat×(List Nat)×(List FM)×(List Nat)×(OA)×Nat×(List FM)×(List Nat)×(OA)×Nat)=>bif x.1 then (vT [(Value.pointer (some ⟨x.2.2.1,0,none⟩)),(vI 0)]) else (vT [(Value.pointer none),(vI x.2.1)])) (fun (x:Bool×Int×Nat×(OA)×Nat×(OA)×Nat×(List Nat)×(List FM)×(List Nat)×(OA)×Nat×(List FM)×(List Nat)×(OA)×Nat)=>(x.1=true→(dG l r 0=0∧xj (bP l r) x.2.2.2.2.2.2.2.2.1∧ua (bP l r) x.2.2.2.2.2.2.2.2.2.2.2.2.1∧x.2.2.2.2.2.2.2.2.2.1.length=x.2.2.2.2.2.2.2.2.1.length∧x.2.2.2.2.2.2.2.2.2.2.2.2.2.1.length=x.2.2.2.2.2.2.2.2.2.2.2.2.1.length∧x.2.2.2.2.2.2.2.1.length=(cP l r.aa r.aa.length).length))∧(x.1=false→(x.2.1=dG l r 0∧ ¬ dG l r 0=0))) (fun (x:Bool×Int×Nat×(OA)×Nat×(OA)×Nat×(List Nat)×(List FM)×(List Nat)×(OA)×Nat×(List FM)×(List Nat)×(OA)×Nat)=>bif x.1 then [(cv x.2.2.1 150 (cb.cells (cb.mk (kj l kA kC cA cC bA bC) (jI r sgA sgC) (bE.mk x.2.2.2.1 ((cd l l.ab.length).length) x.2.2.2.2.1) (bE.mk x.2.2.2.2.2.1 ((cP l r.aa r.aa.length).length) x.2.2.2.2.2.2.1) (bE.mk x.2.2.2.2.2.2.2.2.2.2.1 x.2.2.2.2.2.2.2.2.1.length x.2.2.2.2.2.2.2.2.2.2.2.1) (bE.mk x.2.2.2.2.2.2.2.2.2.2.2.2.2.2.1 x.2.2.2.2.2.2.2.2.2.2.2.2.1.length x.2.2.2.2.2.2.2.2.2.2.2.2.2.2.2)))),(own x.2.2.2.1 x.2.2.2.2.1 3 1 ((cd l l.ab.length).map iC)),(own x.2.2.2.2.2.1 x.2.2.2.2.2.2.1 153 1 (List.zipWith gR (cP l r.aa r.aa.length) x.2.2.2.2.2.2.2.1)),(bK (a_ qp (cP l r.aa r.aa.length) x.2.2.2.2.2.2.2.1)),(own x.2.2.2.2.2.2.2.2.2.2.1 x.2.2.2.2.2.2.2.2.2.2.2.1 156 1 (List.zipWith gR x.2.2.2.2.2.2.2.2.1 x.2.2.2.2.2.2.2.2.2.1)),(bK (a_ nM x.2.2.2.2.2.2.2.2.1 x.2.2.2.2.2.2.2.2.2.1)),(own x.2.2.2.2.2.2.2.2.2.2.2.2.2.2.1 x.2.2.2.2.2.2.2.2.2.2.2.2.2.2.2 156 1 (List.zipWith gR x.2.2.2.2.2.2.2.2.2.2.2.2.1 x.2.2.2.2.2.2.2.2.2.2.2.2.2.1)),(bK (a_ nM x.2.2.2.2.2.2.2.2.2.2.2.2.1 x.2.2.2.2.2.2.2.2.2.2.2.2.2.1))] else []):=by
 have R6:=hin.sZ
 have R4:=hin.rn
 have R2:=hin.n_
 have R3:=hin.sB
 have R5:=hin.side
 refine fO kr Tryz.func42 U U fun w0 Q hQ hN=>?_
 try dsimp only
 refine WS fun _ L2=>eT U fun b2=>eT U fun b3=>bG 2 U<|RK L2<|aq fun _ L3=>WS fun _ Mn=>fD 1 [] (mc 1 U mn) U<|rS (CL (zt l kA kC az cA cC bA bC hin) (bq [2,3,4,5]) U)<|bG 1 U<|RK Mn<|WS fun _ M2=>rP 2 [] mn ?_
 refine RK M2<|cG U (bB fun B=>?_) (bx fun B=>?_)
 ·refine WS fun _ NE=>rP 3 [] mn ?_
  refine RK NE<|av ?_
  refine LX hQ (false,(dw l),0,none,0,none,0,[],[],[],none,0,[],[],none,0) [] [] mn U (by first|rfl|(show List.all _ _=true; simp only [cond_true,fE,List.all_nil,pX,rr,Bool.and_true]; rfl)) U U ?_
  refine ⟨zK,fun _=>?_⟩; first|exact FP (gS (r:=r) (me:=0) B) B|exact oP (dp (me:=0) A (fun q:dW l r=>by have p:=q.time; have s:=q.len; omega))|exact oP (dp (me:=0) A (kX hx (by unfold iz iI; omega)))|exact oP (ia (me:=0) A H (by first|rfl|exact h156) (show iy (bP l r)=[] from iD (Int.natCast_eq_zero.1 C)))
 refine WK L3<|aq fun _ Ne=>WS fun _ w=>?_
 have A:dw l=0:=B
 obtain ⟨Ky,e⟩:=dq A
 have Op:=e.head
 unfold eY at Op
 refine rP 2 [] (mc 0 U mn) ?_
 refine eJ (xs:=[.tmp 24]) (cs:=[(vI r.Start)]) U dJ kY U U U U (by simp [Value.cells]) U U fun K8=>?_
 refine rS (CL (dN.eq (iF 0 86400000 ([r.Start]) (some ⟨K8,0,none⟩) 1 sd) cH) (aD (br 0 U U (by simp [bR]) U)<|aN) U) ?_
 refine rP 2 [] mn ?_
 refine cg (t:=28) U (bB fun LT=>?_) (bx fun LT=>?_)
 ·refine bG 14 U<|RK w<|aU U<|WS fun _ A3=>rP 2 [] mn ?_
  refine RK A3<|av ?_
  refine LX hQ (false,51,0,none,0,none,0,[],[],[],none,0,[],[],none,0) [] [] mn U (by first|rfl|(show List.all _ _=true; simp only [cond_true,fE,List.all_nil,pX,rr,Bool.and_true]; rfl)) U U ?_
  refine ⟨zK,fun _=>?_⟩; first|exact FP (gS (r:=r) (me:=0) B) B|exact oP (dp (me:=0) A (fun q:dW l r=>by have p:=q.time; have s:=q.len; omega))|exact oP (dp (me:=0) A (kX hx (by unfold iz iI; omega)))|exact oP (ia (me:=0) A H (by first|rfl|exact h156) (show iy (bP l r)=[] from iD (Int.natCast_eq_zero.1 C)))
 refine rP 4 [] (mc 1 U mn) ?_
 refine eJ (xs:=[.tmp 32]) (cs:=[(vI r.fI)]) U dJ kY U U U U (by simp [Value.cells]) U U fun LA=>?_
 refine rS (CL (dN.eq (iF r.Start 86400000 ([r.fI]) (some ⟨LA,0,none⟩) 1 sd) cH) (aD (br 0 U U (by simp [bR]) U)<|aN) U) ?_
 refine rP 3 [] mn ?_
 refine cg (t:=37) U (bB fun Li=>?_) (bx fun Li=>?_)
 ·refine bG 5 U<|RK w<|aU U<|WS fun _ A4=>rP 2 [] mn ?_
  refine RK A4<|av ?_
  refine LX hQ (false,51,0,none,0,none,0,[],[],[],none,0,[],[],none,0) [] [] mn U (by first|rfl|(show List.all _ _=true; simp only [cond_true,fE,List.all_nil,pX,rr,Bool.and_true]; rfl)) U U ?_
  refine ⟨zK,fun _=>?_⟩; first|exact FP (gS (r:=r) (me:=0) B) B|exact oP (dp (me:=0) A (fun q:dW l r=>by have p:=q.time; have s:=q.len; omega))|exact oP (dp (me:=0) A (kX hx (by unfold iz iI; omega)))|exact oP (ia (me:=0) A H (by first|rfl|exact h156) (show iy (bP l r)=[] from iD (Int.natCast_eq_zero.1 C)))
 refine rP 5 [] (mc 2 U mn) ?_
 refine RK w<|cG U (aV fun Lk=>?_) (aW fun Lk=>?_)
 ·refine WS fun _ A5=>rP 2 [] mn ?_
  refine RK A5<|av ?_
  refine LX hQ (false,51,0,none,0,none,0,[],[],[],none,0,[],[],none,0) [] [] mn U (by first|rfl|(show List.all _ _=true; simp only [cond_true,fE,List.all_nil,pX,rr,Bool.and_true]; rfl)) U U ?_
  refine ⟨zK,fun _=>?_⟩; first|exact FP (gS (r:=r) (me:=0) B) B|exact oP (dp (me:=0) A (fun q:dW l r=>by have p:=q.time; have s:=q.len; omega))|exact oP (dp (me:=0) A (kX hx (by unfold iz iI; omega)))|exact oP (ia (me:=0) A H (by first|rfl|exact h156) (show iy (bP l r)=[] from iD (Int.natCast_eq_zero.1 C)))
 refine WK Ne<|WS fun _ A6=>rS (SX (bp (xs:=[(0,.const (vI (-1)))]) (cs:=(aH.cells (aH.mk (-1) 0))) U U (bo Mu U)) U U)<|AL U IV fun Y=>gl U v9 U<|RK A6<|aq fun _ A7=>dT cy [5,6,7,8] [] [] [0,1,2,3,4,5,6,7,8,9] [] U U U U U<|eS U (LW 4 U cf U U)<|eS U (LW 3 U cf U U)<|eS U (FA 3 U eP U)<|eS U (L1 (vS bA l.ab.length bC) 4 U cf U U)<|eS U (LN U Sc)<|eN U<|cm U fun T18 Gq=>?_
 refine wS (n:=l.ab.length) (es:=(List.map oC (List.replicate l.ab.length (none:Option Nat)))) U U U PW I I (by simp only [maxLen]; omega) (by rw [List.map_replicate]; rfl) U fun E=>?_
 try dsimp only
 refine aJ (Gq _ _ (aS [1,2,3,4,5,6,7,8,9,10]) ?_)
 refine cm U fun T20 Hi=>rS (SX (bp (xs:=[(0,.tmp 44),(1,.tmp 45),(3,.tmp 49)]) (cs:=(cb.cells (cb.mk (kj l kA kC cA cC bA bC) (jI r sgA sgC) (bE.mk none 0 0) (bE.mk (some ⟨E,0,none⟩) l.ab.length l.ab.length) (bE.mk none 0 0) (bE.mk none 0 0)))) U U (bo PO U)) U U)<|aJ (Hi _ _ (aS [1,2,3,4,5,6,7,8,9,10]) ?_)
 refine cm U fun T21 H1=>eT U fun M=>aJ (H1 _ _ (aS [2,3,4,5,6,7,8,9,10,11]) ?_)
 refine cm U fun T23 ID=>rS (AG U)<|aJ (ID _ _ (aS [2,3,4,5,6,7,8,9,10,11]) ?_)
 refine f_ U<|KK A7<|aq fun _ A8=>WS fun _ A9=>rP 4 [] (mc 6 U mn) ?_
 refine RK A9<|aG ?_
 rw [wy]
 refine e9 3 1<|oM ?_
 have G:(0≤l.ab.length)∧(([]:List Nat).length=0):=by exact ⟨Nat.zero_le _,rfl⟩
 refine bS (ι:={z:Nat×(OA)×Nat×(List Nat) // (z.1≤l.ab.length)∧(z.2.2.2.length=z.1)}) [2,3,4,6,7,9,10,54] [4,7,8,9,10,11,12,13] U U (fun z=>[(55,(vI (z.1.1:Int)))]) (fun z=>[(bK (a_ qp (List.replicate z.1.1 ([]:TM)) z.1.2.2.2)),(own z.1.2.1 z.1.2.2.1 3 1 ((cd l z.1.1).map iC)),(cv M 150 (cb.cells (cb.mk (kj l kA kC cA cC bA bC) (jI r sgA sgC) (bE.mk z.1.2.1 ((cd l z.1.1).length) z.1.2.2.1) (bE.mk (some ⟨E,0,none⟩) l.ab.length l.ab.length) (bE.mk none 0 0) (bE.mk none 0 0)))),(own (some ⟨E,0,none⟩) l.ab.length 153 1 (List.map oC (dI z.1.2.2.2 l.ab.length)))]) (fun _=>rfl) (fun _=>rfl) (fun z=>l.ab.length-z.1.1) ⟨(0,none,0,([]:List Nat)),G⟩ (bw U) (aS [4,7,8,9,10,11,12,13,0,1,2,3]) ?_
 clear G
 rintro ⟨⟨b,a,c,fb⟩,⟨y,Z⟩⟩ J26 A2
 try dsimp only at y Z
 try dsimp only
 have Or:(dI fb l.ab.length).length=l.ab.length:=ob I
 refine WS fun _ BE=>rP 1 [] mn ?_
 refine RK BE<|aq fun _ Bc=>cG U (aV fun La=>?_) (aW fun La=>?_)
 ·refine WK Bc<|aq fun _ B3=>aG<|WS fun _ B9=>rP 2 [] mn ?_
  refine RK B9<|aq fun _ Ci=>dT cy [12,13,16] [4] [0] [0,1,2,3,4,5,6,7,8,11] [0,1,2,3,4,5,6,7,8,9,10,11] U U U U U<|eS U (MV U)<|eS U (MV U)<|eS U (SX (cS U U) U U)<|eS U (FA 10 U eP U)<|fS U (L1 (vS a ((cd l b).length) c) 10 U cf U U)<|eS U (LW 2 U cf U U)<|eS U (MV U) ?_
  refine eS U (CL (L4 l kA kC az cA cC bA bC (b:Int) hin sd (by exact e.re) sd) (bq [3,4,5,6]) U) ?_
  have R7:=DK Ky e.re b
  have R8:=e.Q5 b I
  simp only [Int.toNat_natCast]
  refine eS U (BI U (uT ⟨I,I⟩))<|eS U (FA 1 U eP U)<|eS U (L1 (vI l.iN) 2 U cf U U) ?_
  refine eS U (CL (Lu (1000*(l8 l (b:Int).toNat)) l.iN sd sd) (aN) U) ?_
  refine eS U (SX (cS U U) U U)<|eS U (FA 10 U eP U)<|eN U<|jZ U fun T33 IO=>eJ (xs:=[.tmp 69]) (cs:=[(vI (pJ (1000*(l8 l (b:Int).toNat)) l.iN))]) U dJ kY U U U U (by simp [Value.cells]) U U fun RU=>aJ (IO _ _ (aS [1,2,3,4,5,6,7,8,9,12]) (aS [1,2,3,4,5,6,7,8,9,10,11,12]) ?_)
  refine cm U fun T35 IR=>?_
  refine dR (es2:=(List.map iC (cd l (b+1)))) (m':=(cd l (b+1)).length) 10 U U U ti U U (by simp [cE]) (br (es:=List.map iC [(pJ (1000*(l8 l (b:Int).toNat)) l.iN)]) 0 U U (by simp [bR]) U) (lM _) (by have:=cE (l:=l) (n:=b); first|omega|(simp; omega)) (by simp only [maxLen,cE]; omega) (by rw [rI]; simp [eu]) (by simp [cE]) U fun AO AR=>?_
  try dsimp only
  refine aJ (IR _ _ (aS [1,2,3,4,5,6,7,8,9,12]) ?_)
  refine cm U fun T38 Id=>Uo (cb.cells (cb.mk (kj l kA kC cA cC bA bC) (jI r sgA sgC) (bE.mk AO ((cd l (b+1)).length) AR) (bE.mk (some ⟨E,0,none⟩) l.ab.length l.ab.length) (bE.mk none 0 0) (bE.mk none 0 0))) U IF U U<|aJ (Id _ _ (aS [1,2,3,4,5,6,7,8,9,12]) ?_)
  refine f_ U<|KK Ci<|ay<|bG 1 U<|rS (SX (cS U U) U U)<|rP 3 [] (mc 11 U mn) ?_
  refine nq (kV:=iV) U U fun K=>?_
  try dsimp only
  obtain ⟨PP,K4⟩:=aM (dI fb l.ab.length) b I
  have hx41m:(List.map oC (dI fb l.ab.length))[b]? =some (oC PP):=by rw [dL,K4]; rfl
  refine rS (IA b U (au (n:=l.ab.length) 13 U sq) yT dc I I) ?_
  have If:((dI fb l.ab.length).set b (some K))=(dI (fb++[K]) l.ab.length):=by exact s9 I I
  refine eE (k:=b) (o:=0) (vs:=[(Value.map (some K))]) (es':=(List.map oC (dI (fb++[K]) l.ab.length))) (C':=[_,_,_,_,_,_,_,_,_,_,_,_,_,(own (some ⟨E,0,none⟩) l.ab.length 153 1 (List.map oC (dI (fb++[K]) l.ab.length)))]) 13 U U U F4 U U U U hx41m U dc (by exact (List.map_set (f:=oC) (l:=(dI fb l.ab.length)) (i:=b) (a:=(some K))).symm.trans (congrArg _ If)) U<|aJ<|aO<|KK B3<|ay<|rP 2 [] mn ?_
  refine aJ<|y7 (X':=a_ qp (List.replicate (b+1) ([]:TM)) (fb++[K])) 10 0 U U (FX Z) ?_
  try dsimp only
  have In:(vI (((b+1):Nat):Int))=(vI ((b:Int)+1)):=by exact cI I
  refine bj (A2 ⟨((b+1),AO,AR,(fb++[K])),⟨I,by simp; omega⟩⟩ _ _ _ U os (cQ 8<|bk U In<|dx.nil _) (aS [2,3,4,5,6,7,8,9,0,10,11,12]))
 refine bL<|ai<|ai<|aI<|KK A8<|aq fun _ Ck=>WS fun _ Cl=>rP 4 [] (mc 1 U mn) ?_
 refine RK Cl<|aG ?_
 rw [show (List.replicate b ([]:TM))=cP l r.aa 0 from by rw [yC,show b=l.ab.length by omega]]
 rw [show cd l b=cd l l.ab.length from by rw [show b=l.ab.length by omega]]
 have G:(0≤r.aa.length)∧(pB l r.aa 0):=by exact ⟨Nat.zero_le _,wo⟩
 refine bS (ι:={z:Nat // (z≤r.aa.length)∧(pB l r.aa z)}) [2,3,4,6,7,9,10,83,84] [1,2,3,4,5,6,7,9,10,11] U U (fun z=>[(85,(vI (z.1:Int)))]) (fun z=>[(cv Y 78 (aH.cells (lx r.aa z.1))),(bK (a_ qp (cP l r.aa z.1) fb))]) (fun _=>rfl) (fun _=>rfl) (fun z=>r.aa.length-z.1) ⟨0,G⟩ (bw U) (aS [1,2,3,4,5,6,7,9,10,11,0,8]) ?_
 clear G
 rintro ⟨i,⟨K5,D⟩⟩ J46 V
 try dsimp only
 have Os:(cP l r.aa i).length=l.ab.length:=g0
 have Or:(dI fb l.ab.length).length=l.ab.length:=ob I
 refine WS fun _ Cp=>rP 1 [] mn ?_
 refine RK Cp<|aq fun _ Cx=>bV U (aW fun Lo=>?_) (aV fun Lo=>?_)
 ·refine bL<|ai<|ai<|aI<|KK Ck<|aq fun _ FS=>aq fun _ Fd=>?_
  have H:dW l r:=x7 I I D I
  refine ay<|rP 3 [] mn ?_
  refine RK Fd<|aG<|rl 1<|lH fun R81 Qi=>WS fun _ Fn=>rS (SX (gL (r:= .bool false) U U U qU) U U)<|RK Fn<|aq fun _ QH=>ct U<|bL<|ai<|ai<|aI<|KK FS<|aq fun _ GE=>?_
  rw [show cP l r.aa i=cP l r.aa r.aa.length from by rw [show i=r.aa.length by omega]]
  have AD:(cP l r.aa r.aa.length).length=l.ab.length:=g0
  rw [show (List.map oC (dI fb l.ab.length))=(List.zipWith gR (cP l r.aa r.aa.length) fb) from Uq I AD]
  rw [show (cv M 150 (cb.cells (cb.mk (kj l kA kC cA cC bA bC) (jI r sgA sgC) (bE.mk a ((cd l l.ab.length).length) c) (bE.mk (some ⟨E,0,none⟩) l.ab.length l.ab.length) (bE.mk none 0 0) (bE.mk none 0 0))))=(cv M 150 (cb.cells (cb.mk (kj l kA kC cA cC bA bC) (jI r sgA sgC) (bE.mk a ((cd l l.ab.length).length) c) (bE.mk (some ⟨E,0,none⟩) ((cP l r.aa r.aa.length).length) l.ab.length) (bE.mk none 0 0) (bE.mk none 0 0)))) from by rw [AD]]
  have K0:=kO Ky e H
  have Qn:(cd l l.ab.length).length=l.ab.length:=cE
  refine ay<|rP 1 [] mn ?_
  refine ph 8 U U U U (CE (kj l kA kC cA cC bA bC) (jI r sgA sgC) (cd l l.ab.length) (cP l r.aa r.aa.length) a c fb (some ⟨E,0,none⟩) l.ab.length M (by exact K0) (by exact cE.symm) (by rw [AD]; omega)) U (eC 7 U U (jO sm) (eC 9 U U (jO (by rw [List.length_zipWith]; omega)) (eC 11 U U rW rh))) U (fun Pi OY=>?_)
  obtain ⟨J,AA,S,T,AB,R,O,P⟩:=Pi
  refine GM (X:=[(cv M 150 (cb.cells (cb.mk (kj l kA kC cA cC bA bC) (jI r sgA sgC) (bE.mk a ((cd l l.ab.length).length) c) (bE.mk (some ⟨E,0,none⟩) ((cP l r.aa r.aa.length).length) l.ab.length) (bE.mk S J.length T) (bE.mk O AB.length P)))),(own S T 156 1 (List.zipWith gR J AA)),(bK (a_ nM J AA)),(own O P 156 1 (List.zipWith gR AB R)),(bK (a_ nM AB R))]) 8 U U ?_
  try dsimp only
  obtain ⟨AC,J8,J9,Kc⟩:=OY
  dsimp only at AC J8 J9 Kc
  refine RK GE<|aq fun _ GT=>WS fun _ Go=>rP 1 [] mn ?_
  refine cX (wD (kj l kA kC cA cC bA bC) (jI r sgA sgC) (cd l l.ab.length) (cP l r.aa r.aa.length) a c fb (some ⟨E,0,none⟩) l.ab.length J AB AA S T R O P M (by exact K0) sd (by exact cE.symm) (by exact AC) sd) (aD (au (n:=(cd l l.ab.length).length) 12 U sm)<|aD (au (n:=(cP l r.aa r.aa.length).length) 13 U (by rw [List.length_zipWith]; omega))<|aD (e7 15 U mu)<|aD (au (n:=J.length) 1 U (by rw [List.length_zipWith]; omega))<|aD (e7 2 U mu)<|aD (au (n:=AB.length) 3 U (by rw [List.length_zipWith]; omega))<|aD (e7 4 U mu)<|gX 0 U U<|aN) U fun Pl Qr=>?_
  obtain ⟨Q4,R1⟩:=Pl
  try dsimp only
  refine rP 2 [] mn ?_
  refine RK Go<|bV U (aW fun C=>?_) (aV fun C=>?_)
  ·refine WK GT<|WS fun _ v=>rP 3 [] mn ?_
   refine RK v<|av ?_
   refine LX hQ (true,0,M,a,c,(some ⟨E,0,none⟩),l.ab.length,fb,J,AA,S,T,AB,R,O,P) [1,13,14,16,2,3,4,5] [] mn U (by first|rfl|(show List.all _ _=true; simp only [cond_true,fE,List.all_nil,pX,rr,Bool.and_true]; rfl)) U U ?_
   exact ⟨fun _=>⟨l3 A H (by first|rfl|exact h156) (fun q=>C (congrArg (fun z:List Int=>(z.length:Int)) q)),AC,J8,J9,Kc,dso⟩,Su⟩
  refine WS fun _ u=>rP 2 [] mn ?_
  refine RK u<|av ?_
  refine LX hQ (false,8,0,none,0,none,0,[],[],[],none,0,[],[],none,0) [] [] mn U (by first|rfl|(show List.all _ _=true; simp only [cond_true,fE,List.all_nil,pX,rr,Bool.and_true]; rfl)) U U ?_
  refine ⟨zK,fun _=>?_⟩; first|exact FP (gS (r:=r) (me:=0) B) B|exact oP (dp (me:=0) A (fun q:dW l r=>by have p:=q.time; have s:=q.len; omega))|exact oP (dp (me:=0) A (kX hx (by unfold iz iI; omega)))|exact oP (ia (me:=0) A H (by first|rfl|exact h156) (show iy (bP l r)=[] from iD (Int.natCast_eq_zero.1 C)))
 refine WK Cx<|aq fun _ W=>aG<|WS fun _ C0=>rP 1 [] mn ?_
 obtain ⟨x,hx⟩:=aM r.aa i I
 have Ox:=bQ aH.cells hx
 refine rS (IA i U (aF 6 U) xI dc I I)<|rS (mq i 0 (aH.cells x) U cf (aF 6 U) Ox U dc U U)<|AL U IV fun Rc=>bG 1 U<|gl U v9 U<|RK C0<|aq fun _ g=>WS fun _ L=>rP 6 [0,1] (mc 2 U (mc 0 U mn)) ?_
 refine eJ (xs:=[.tmp 95]) (cs:=[(vI x.eZ)]) U dJ kY U U U U (by simp [Value.cells]) U U fun LB=>?_
 refine rS (CL (dN.eq (iF 0 ((l.ab.length:Int)-1) ([x.eZ]) (some ⟨LB,0,none⟩) 1 sd) cH) (aD (br 0 U U (by simp [bR]) U)<|aN) U) ?_
 refine rP 2 [] mn ?_
 refine cg (t:=99) U (bB fun L0=>?_) (bx fun L0=>?_)
 ·refine bG 27 U<|RK L<|aU U<|WS fun _ C1=>rP 2 [] mn ?_
  refine RK C1<|av ?_
  refine LX hQ (false,51,0,none,0,none,0,[],[],[],none,0,[],[],none,0) [] [] mn U (by first|rfl|(show List.all _ _=true; simp only [cond_true,fE,List.all_nil,pX,rr,Bool.and_true]; rfl)) U U ?_
  refine ⟨zK,fun _=>?_⟩; first|exact FP (gS (r:=r) (me:=0) B) B|exact oP (dp (me:=0) A (fun q:dW l r=>by have p:=q.time; have s:=q.len; omega))|exact oP (dp (me:=0) A (kX hx (by unfold iz iI; omega)))|exact oP (ia (me:=0) A H (by first|rfl|exact h156) (show iy (bP l r)=[] from iD (Int.natCast_eq_zero.1 C)))
 refine rP 2 [] (mc 1 U mn) ?_
 refine eJ (xs:=[.tmp 101]) (cs:=[(vI x.Read)]) U dJ kY U U U U (by simp [Value.cells]) U U fun LE=>?_
 refine rS (CL (dN.eq (iF 0 86400000 ([x.Read]) (some ⟨LE,0,none⟩) 1 sd) cH) (aD (br 0 U U (by simp [bR]) U)<|aN) U) ?_
 refine rP 3 [] mn ?_
 refine cg (t:=106) U (bB fun AY=>?_) (bx fun AY=>?_)
 ·refine bG 20 U<|RK L<|aU U<|WS fun _ C2=>rP 2 [] mn ?_
  refine RK C2<|av ?_
  refine LX hQ (false,51,0,none,0,none,0,[],[],[],none,0,[],[],none,0) [] [] mn U (by first|rfl|(show List.all _ _=true; simp only [cond_true,fE,List.all_nil,pX,rr,Bool.and_true]; rfl)) U U ?_
  refine ⟨zK,fun _=>?_⟩; first|exact FP (gS (r:=r) (me:=0) B) B|exact oP (dp (me:=0) A (fun q:dW l r=>by have p:=q.time; have s:=q.len; omega))|exact oP (dp (me:=0) A (kX hx (by unfold iz iI; omega)))|exact oP (ia (me:=0) A H (by first|rfl|exact h156) (show iy (bP l r)=[] from iD (Int.natCast_eq_zero.1 C)))
 refine rP 7 [0,1] (mc 2 U (mc 13 U mn)) ?_
 refine cg (t:=113) U (aV fun Ae=>?_) (aW fun Ae=>?_)
 ·refine bG 13 U<|RK L<|aU U<|WS fun _ C3=>rP 2 [] mn ?_
  refine RK C3<|av ?_
  refine LX hQ (false,51,0,none,0,none,0,[],[],[],none,0,[],[],none,0) [] [] mn U (by first|rfl|(show List.all _ _=true; simp only [cond_true,fE,List.all_nil,pX,rr,Bool.and_true]; rfl)) U U ?_
  refine ⟨zK,fun _=>?_⟩; first|exact FP (gS (r:=r) (me:=0) B) B|exact oP (dp (me:=0) A (fun q:dW l r=>by have p:=q.time; have s:=q.len; omega))|exact oP (dp (me:=0) A (kX hx (by unfold iz iI; omega)))|exact oP (ia (me:=0) A H (by first|rfl|exact h156) (show iy (bP l r)=[] from iD (Int.natCast_eq_zero.1 C)))
 refine rP 6 [0,1] (mc 2 U (mc 13 U mn)) ?_
 refine cu (t:=119) U (aW fun A0=>?_) (aV fun A0=>?_)
 ·refine bG 7 U<|RK L<|ct U<|WK g<|aq fun _ j=>WS fun _ Eq=>rP 2 [0,1] (mc 4 U (mc 2 U mn)) ?_
  refine rS (CL (AS l kA kC az cA cC bA bC x hin sd sd) (bq [5,6,7,8]) U) ?_
  refine AL U ej fun R0=>gl U c_ U<|RK Eq<|WS fun _ E1=>rP 5 [] (mc 0 U mn) ?_
  refine RK E1<|bV U (aW fun F=>?_) (aV fun F=>?_)
  ·refine WK j<|ay<|rP 1 [] (mc 3 U mn) ?_
   refine iT (vs:=(aH.cells x)) (cs':=(aH.cells x)) (C':=[_,_,_,_,_,_,_,_,_,_,_,_,_,_,(cv Y 78 (aH.cells x)),_]) 14 U U U v9 U U U U U U U<|aJ<|aO<|KK W ?_
   have J4:(aH.cells x)=(aH.cells (lx r.aa (i+1))):=by rw [kG hx]
   rw [J4]
   refine ay<|rP 2 [] mn ?_
   refine aJ ?_
   rw [show (cP l r.aa i)=(cP l r.aa (i+1)) from (qy hx F).symm]
   have J5:(vI (((i+1):Nat):Int))=(vI ((i:Int)+1)):=by exact cI I
   refine bj (V ⟨(i+1),⟨I,jR D hx (by unfold iz iI; omega)⟩⟩ _ _ _ U os (cQ 9<|bk U J5<|dx.nil _) (aS [4,5,6,7,8,9,10,11,12,13,14,15]))
  obtain ⟨mb,d⟩:=aM (cP l r.aa i) ((x.eZ).toNat) I
  obtain ⟨ga,N⟩:=aM fb ((x.eZ).toNat) I
  refine Ag 15 d N U U U ?_
  try dsimp only
  refine dy cy 10 kr<|lP 1 U<|dS (SX (cS U U) U U)<|dP 4 [0,1] (mc 14 U (mc 5 U mn)) ?_
  have J7:(List.map oC (dI fb l.ab.length))[(x.eZ).toNat]? =some (oC (some ga)):=qW (ng N)
  refine dS (IA ((x.eZ).toNat) U (au (n:=l.ab.length) 15 U sq) yT dc I I) ?_
  refine dS (hP ((x.eZ).toNat) 0 (Value.map (some ga)) U cf (au (n:=(dI fb l.ab.length).length) 15 U sm) J7 U dc U)<|mz 2 [] (mc 2 U mn) U<|cO<|jt (kV:=iV) (x:=(i:Int)) (C':=[(kQ iV ga (cT kl (eA mb (i:Int) (cJ l x)))),_,_,_,_,_,_,_,_,_,_,_,_,_,_,_,_]) 0 U U U U tx (jg um) U (g6 _ _ _ _).symm U<|RK j<|ay<|rP 1 [] (mc 5 U mn) ?_
  refine iT (vs:=(aH.cells x)) (cs':=(aH.cells x)) (C':=[_,_,_,_,_,_,_,_,_,_,_,_,_,_,_,_,(cv Y 78 (aH.cells x))]) 16 U U U v9 U U U U U U U<|aJ<|aO<|KK W ?_
  have J2:(aH.cells x)=(aH.cells (lx r.aa (i+1))):=by rw [kG hx]
  rw [J2]
  refine ay<|rP 2 [] mn ?_
  refine aJ ?_
  refine BC (f:=qp) (ms:=(cP l r.aa i)) (m:=(eA mb (i:Int) (cJ l x))) 1 0 (by rw [g0]; omega) N U U U ?_
  rw [sL hx I F d]
  have J3:(vI (((i+1):Nat):Int))=(vI ((i:Int)+1)):=by exact cI I
  refine bj (V ⟨(i+1),⟨I,jR D hx (by unfold iz iI; omega)⟩⟩ _ _ _ U os (cQ 9<|bk U J3<|dx.nil _) (aS [5,6,7,8,9,10,11,12,13,14,15,0]))
 refine rP 7 [0,1] (mc 2 U (mc 13 U mn)) ?_
 refine RK L<|cG U (aV fun A1=>?_) (aW fun A1=>?_)
 ·refine WS fun _ Di=>rP 2 [] mn ?_
  refine RK Di<|av ?_
  refine LX hQ (false,51,0,none,0,none,0,[],[],[],none,0,[],[],none,0) [] [] mn U (by first|rfl|(show List.all _ _=true; simp only [cond_true,fE,List.all_nil,pX,rr,Bool.and_true]; rfl)) U U ?_
  refine ⟨zK,fun _=>?_⟩; first|exact FP (gS (r:=r) (me:=0) B) B|exact oP (dp (me:=0) A (fun q:dW l r=>by have p:=q.time; have s:=q.len; omega))|exact oP (dp (me:=0) A (kX hx (by unfold iz iI; omega)))|exact oP (ia (me:=0) A H (by first|rfl|exact h156) (show iy (bP l r)=[] from iD (Int.natCast_eq_zero.1 C)))
 refine WK g<|aq fun _ h=>WS fun _ Do=>rP 2 [0,1] (mc 4 U (mc 2 U mn)) ?_
 refine rS (CL (AS l kA kC az cA cC bA bC x hin sd sd) (bq [5,6,7,8]) U) ?_
 refine AL U ej fun Rr=>gl U c_ U<|RK Do<|WS fun _ EQ=>rP 5 [] (mc 0 U mn) ?_
 refine RK EQ<|bV U (aW fun F=>?_) (aV fun F=>?_)
 ·refine WK h<|ay<|rP 1 [] (mc 3 U mn) ?_
  refine iT (vs:=(aH.cells x)) (cs':=(aH.cells x)) (C':=[_,_,_,_,_,_,_,_,_,_,_,_,_,_,(cv Y 78 (aH.cells x)),_]) 14 U U U v9 U U U U U U U<|aJ<|aO<|KK W ?_
  have Jr:(aH.cells x)=(aH.cells (lx r.aa (i+1))):=by rw [kG hx]
  rw [Jr]
  refine ay<|rP 2 [] mn ?_
  refine aJ ?_
  rw [show (cP l r.aa i)=(cP l r.aa (i+1)) from (qy hx F).symm]
  have J1:(vI (((i+1):Nat):Int))=(vI ((i:Int)+1)):=by exact cI I
  refine bj (V ⟨(i+1),⟨I,jR D hx (by unfold iz iI; omega)⟩⟩ _ _ _ U os (cQ 9<|bk U J1<|dx.nil _) (aS [4,5,6,7,8,9,10,11,12,13,14,15]))
 obtain ⟨mb,d⟩:=aM (cP l r.aa i) ((x.eZ).toNat) I
 obtain ⟨ga,N⟩:=aM fb ((x.eZ).toNat) I
 refine Ag 15 d N U U U ?_
 try dsimp only
 refine dy cy 10 kr<|lP 1 U<|dS (SX (cS U U) U U)<|dP 4 [0,1] (mc 14 U (mc 5 U mn)) ?_
 have J6:(List.map oC (dI fb l.ab.length))[(x.eZ).toNat]? =some (oC (some ga)):=qW (ng N)
 refine dS (IA ((x.eZ).toNat) U (au (n:=l.ab.length) 15 U sq) yT dc I I) ?_
 refine dS (hP ((x.eZ).toNat) 0 (Value.map (some ga)) U cf (au (n:=(dI fb l.ab.length).length) 15 U sm) J6 U dc U)<|mz 2 [] (mc 2 U mn) U<|cO<|jt (kV:=iV) (x:=(i:Int)) (C':=[(kQ iV ga (cT kl (eA mb (i:Int) (cJ l x)))),_,_,_,_,_,_,_,_,_,_,_,_,_,_,_,_]) 0 U U U U tx (jg um) U (g6 _ _ _ _).symm U<|RK h<|ay<|rP 1 [] (mc 5 U mn) ?_
 refine iT (vs:=(aH.cells x)) (cs':=(aH.cells x)) (C':=[_,_,_,_,_,_,_,_,_,_,_,_,_,_,_,_,(cv Y 78 (aH.cells x))]) 16 U U U v9 U U U U U U U<|aJ<|aO<|KK W ?_
 have JJ:(aH.cells x)=(aH.cells (lx r.aa (i+1))):=by rw [kG hx]
 rw [JJ]
 refine ay<|rP 2 [] mn ?_
 refine aJ ?_
 refine BC (f:=qp) (ms:=(cP l r.aa i)) (m:=(eA mb (i:Int) (cJ l x))) 1 0 (by rw [g0]; omega) N U U U ?_
 rw [sL hx I F d]
 have JR:(vI (((i+1):Nat):Int))=(vI ((i:Int)+1)):=by exact cI I
 refine bj (V ⟨(i+1),⟨I,jR D hx (by unfold iz iI; omega)⟩⟩ _ _ _ U os (cQ 9<|bk U JR<|dx.nil _) (aS [5,6,7,8,9,10,11,12,13,14,15,0]))
end
section
open Go.RowKit
theorem OH (l:bg) (kA:OA) (kC:Nat) (az:List RA) (cA:OA) (cC:Nat) (bA:OA) (bC:Nat) (r:cr) (sgA:OA) (sgC:Nat) (hin:ep l az) (hsl:r.aa.length≤1000000):
 qB Tryz.prog 23 [(vA (cw.cells (kj l kA kC cA cC bA bC))),(vA (cM.cells (jI r sgA sgC)))] [(rd kA l.aR.length 9 (l.aR.map ar.cells)),(rd cA l.aj.length 2 (List.zipWith ax.cells l.aj az)),(dV (a_ ax.gG l.aj az)),(rd bA l.ab.length 4 (l.ab.map bJ.cells)),(rd sgA r.aa.length 2 (r.aa.map aH.cells))] (fun (x:(OA)×Nat)=>(vT [(vS x.1 ((ir l r).length) x.2),(vI (dG l r 0))])) (fun (x:(OA)×Nat)=>True) (fun (x:(OA)×Nat)=>[(own x.1 x.2 3 1 ((ir l r).map iC))]):=by
 have A1:=hin.sZ
 have AC:=hin.rn
 have w:=hin.n_
 have y:=hin.sB
 have A0:=hin.side
 refine fO kr Tryz.func23 U U fun w0 Q hQ hN=>?_
 try dsimp only
 refine WS fun _ g=>eT U fun b2=>eT U fun b3=>bG 2 U<|RK g<|WS fun _ P=>rP 2 [0,1] (mc 1 U (mc 0 U mn)) ?_
 refine cX (NZ l kA kC az cA cC bA bC r sgA sgC hin hsl) (bq [2,3,4,5,6]) U fun y5 AA=>?_
 obtain ⟨V,v,e,d,F,Y,Z,a,B,AB,G,H,A,E,W,X⟩:=y5
 cases V
 ·obtain ⟨S,he⟩:=AA.2 rfl
  try dsimp only at S he
  subst S
  try dsimp only [cond_true,cond_false,List.cons_append,List.nil_append]
  refine bG 5 U<|RK P<|aq fun _ q=>WS fun _ K=>rP 2 [] mn ?_
  refine RK K<|bV U (bx fun J=>?_) (bB fun J=>?_)
  ·exact absurd J he
  refine WS fun _ L=>lY 3 1 ?_
  rw [show (own none 0 3 1 ([]:List (List Value)))=own none 0 3 1 ((ir l r).map iC) from by rw [n7 he]; rfl]
  refine bG 1 U<|rP 2 [] mn ?_
  refine RK L<|av ?_
  refine LX hQ (none,0) [0] [] mn U U U ?_ ?_
  ·first|rfl|(rw [he]; rfl)|(rw [n7 he]; rfl)
  ·trivial
 obtain ⟨he,C,R,i,h,k⟩:=AA.1 rfl
 try dsimp only [cond_true,cond_false,List.cons_append,List.nil_append]
 dsimp only at C R i h k
 obtain ⟨f,D,AO,AR⟩:=iG he
 obtain ⟨m,T⟩:=dq f
 have j:=T.head
 unfold eY at j
 have o:=kO m T D
 have Ae:=D.time
 have AY:=D.len
 have s:(cd l l.ab.length).length=l.ab.length:=cE
 have t:(cP l r.aa r.aa.length).length=l.ab.length:=g0
 have AD:B.length=l.ab.length+1:=by have:=C.len; rw [show (bP l r).n=l.ab.length from cE] at this; exact this
 have z:A.length=l.ab.length+1:=by have:=R.len; rw [show (bP l r).n=l.ab.length from cE] at this; exact this
 refine bG 5 U<|RK P<|aq fun _ M=>WS fun _ N=>bG 1 U<|rS (SX (gL (r:= .bool false) U U U xo) U U)<|RK N<|ct U<|WK M<|WS fun _ O=>rP 1 [] mn ?_
 refine cX (wD (kj l kA kC cA cC bA bC) (jI r sgA sgC) (cd l l.ab.length) (cP l r.aa r.aa.length) d F a Y Z B A AB G H E W X e (by exact o) sd (by exact cE.symm) (by exact C) sd) (aD (au (n:=(cd l l.ab.length).length) 1 U sm)<|aD (au (n:=(cP l r.aa r.aa.length).length) 2 U (by rw [List.length_zipWith]; omega))<|aD (e7 3 U mu)<|aD (au (n:=B.length) 4 U (by rw [List.length_zipWith]; omega))<|aD (e7 5 U mu)<|aD (au (n:=A.length) 6 U (by rw [List.length_zipWith]; omega))<|aD (e7 7 U mu)<|gX 0 U U<|aN) U fun p u=>?_
 obtain ⟨b,c⟩:=p
 try dsimp only
 rw [show (iy (cU (kj l kA kC cA cC bA bC) (jI r sgA sgC) (cd l l.ab.length) (cP l r.aa r.aa.length)))=ir l r from (k7 he).symm]
 refine rP 2 [] mn ?_
 refine RK O<|av ?_
 refine LX hQ (b,c) [0] [] mn U U U ?_ ?_
 ·first|rfl|(rw [he]; rfl)|(rw [n7 he]; rfl)
 ·trivial
end
section
open Go.RowKit
theorem H8 (ln:cw) (ri:cM) (e:List Int) (tms:List TM) (e_A:OA) (e_C:Nat) (tb:List Nat) (t_A:OA) (t_C:Nat) (fs:List FM) (bs:List FM) (fb:List Nat) (f_A:OA) (f_C:Nat) (bb:List Nat) (b_A:OA) (b_C gw:Nat) (b g1 g2:Nat) (mf:FM) (mb:FM) (hb:b<e.length) (hw:HU (cU ln ri e tms)) (htb:tb.length=tms.length) (hfw:xj (cU ln ri e tms) fs) (hfb:fb.length=fs.length) (hbw:ua (cU ln ri e tms) bs) (hbb:bb.length=bs.length) (hsg:ri.aa.n≤1000) (hm1:fs[b]? =some mf) (hm2:bs[b+1]? =some mb):
 Om Tryz.prog 70 [] [(vP g1),(vP g2)] [(rd e_A e.length 1 (e.map iC)),(rd t_A tms.length 1 (List.zipWith gR tms tb)),(dV (a_ qp tms tb)),(rd f_A fs.length 1 (List.zipWith gR fs fb)),(dV (a_ nM fs fb)),(rd b_A bs.length 1 (List.zipWith gR bs bb)),(dV (a_ nM bs bb)),(cv gw 150 (cb.cells (cb.mk ln ri (bE.mk e_A e.length e_C) (bE.mk t_A tms.length t_C) (bE.mk f_A fs.length f_C) (bE.mk b_A bs.length b_C)))),(cv g1 108 [(vP gw)]),(cv g2 3 [(vI (b:Int))])] ([]:List (Int×ag)) (fun ys x ys'=> ∃ q,q∈qY (cU ln ri e tms) b mf mb∧x=P0 q∧ys'=ys++[q]) (fun ys=> ∀ q∈qY (cU ln ri e tms) b mf mb,q∈ys):=by
 have J8:e.length≤6:=hw.n
 have J9:tms.length=e.length:=hw.times
 have J2:fs.length=e.length+1:=hfw.len
 have J1:bs.length=e.length+1:=hbw.len
 refine FZ kr Tryz.func70 U U fun l J Z A0 w0 Q hY EQ Do hQ hN=>?_
 try dsimp only
 refine WS fun _ Eq=>xV U U fun b2=>RK Eq<|WS fun _ E1=>rP 2 [0,1] (mr 10 U (mr 11 U mn)) ?_
 refine cX (wL gw b) (aN) U fun y4 Kc=>?_
 obtain ⟨Cx,C0⟩:=y4
 try dsimp only
 refine RK E1<|aG<|jK 4 U (by exact fun _ h=>h)<|jK 6 U (by exact fun _ h=>h)<|jK 8 U (by exact fun _ h=>h)<|jK 14 U (by exact fun _ h=>h) ?_
 refine uu (L0:=[(0,(Value.func (.yield l) #[] #[])),(1,(vP g1)),(2,(vP g2)),(3,(vP b2))]) (F:=[(rd e_A e.length 1 (e.map iC)).ro,(rd t_A tms.length 1 (List.zipWith gR tms tb)).ro,(dV (a_ qp tms tb)).ro,(cv gw 150 (cb.cells (cb.mk ln ri (bE.mk e_A e.length e_C) (bE.mk t_A tms.length t_C) (bE.mk f_A fs.length f_C) (bE.mk b_A bs.length b_C)))).ro,(cv Cx 108 [(vP gw)]),(cv C0 3 [(vI (b:Int))])]) (fun k (y:(List (Int×ag))×aB)=>(mC (cU ln ri e tms) b mf mb k y.1)∧(J y.1 y.2)∧(Fo A0 w0 y.2)) (fun k y=>[(cv b2 155 [(Value.func (.yield l) #[] #[])]),y.2,(rd e_A e.length 1 (e.map iC)).ro,(rd t_A tms.length 1 (List.zipWith gR tms tb)).ro,(dV (a_ qp tms tb)).ro,(rd f_A fs.length 1 (List.zipWith gR fs fb)).ro,(dV (a_ nM fs fb)).ro,(rd b_A bs.length 1 (List.zipWith gR bs bb)).ro,(dV (a_ nM bs bb)).ro,(cv gw 150 (cb.cells (cb.mk ln ri (bE.mk e_A e.length e_C) (bE.mk t_A tms.length t_C) (bE.mk f_A fs.length f_C) (bE.mk b_A bs.length b_C)))).ro,(cv g1 108 [(vP gw)]).ro,(cv g2 3 [(vI (b:Int))]).ro]) (fun c (z:aB)=>(c= .ret∧(Z z)∧(Fo A0 w0 z))) (fun _ z=>[(cv b2 155 [(Value.func (.yield l) #[] #[])]),z,(rd e_A e.length 1 (e.map iC)).ro,(rd t_A tms.length 1 (List.zipWith gR tms tb)).ro,(dV (a_ qp tms tb)).ro,(rd f_A fs.length 1 (List.zipWith gR fs fb)).ro,(dV (a_ nM fs fb)).ro,(rd b_A bs.length 1 (List.zipWith gR bs bb)).ro,(dV (a_ nM bs bb)).ro,(cv gw 150 (cb.cells (cb.mk ln ri (bE.mk e_A e.length e_C) (bE.mk t_A tms.length t_C) (bE.mk f_A fs.length f_C) (bE.mk b_A bs.length b_C)))).ro,(cv g1 108 [(vP gw)]).ro,(cv g2 3 [(vI (b:Int))]).ro]) [6,7,8,9,10,11,12,13,14,15,16,17] [3,2,1,0,4,5] (([]:List (Int×ag)),A0) rfl rfl (tQ ln ri e tms e_A e_C tb t_A t_C f_A fs.length f_C b_A bs.length b_C gw b Cx C0 I I) rfl rfl rfl (by exact ⟨mC.nil,EQ,Do⟩) (by simp only [List.forall_mem_cons,List.not_mem_nil,false_imp_iff,implies_true,and_true]; exact ⟨⟨_,aQ (i:=0) rfl,(dQ (bY _))⟩,⟨_,aQ (i:=1) rfl,(dQ (bY _))⟩,⟨_,aQ (i:=2) rfl,(dQ (bY _))⟩,⟨_,aQ (i:=3) rfl,(dQ (bY _))⟩,⟨_,aQ (i:=4) rfl,(bY _)⟩,⟨_,aQ (i:=5) rfl,(bY _)⟩⟩) (by rintro k x k2 ⟨o,_,rfl,_⟩; rfl) rfl (bw rfl) ?_ ?_ ?_ ?_
 rotate_left 1
 ·rintro K0 k ⟨ys,A⟩ B9 AO
  obtain ⟨X,Y,a⟩:=AO
  try dsimp only at X Y a
  try dsimp only
  refine aO ?_
  refine hN _ _ _ (sf 0 U U<|kp (vs:=[]) trivial fun w hs=>Ry 8 U (by exact mC.fin X B9) Y a hs)
 ·rintro K4 id A Cl
  simp at Cl
 ·rintro K5 A Cp
  obtain ⟨hc,GE,GT⟩:=Cp
  try dsimp only
  refine hQ _ _ _ (sf 0 U U<|kp (vs:=[]) trivial fun w hs=>Gt 8 U GE GT hs)
 rintro k x k2 ⟨ys,A⟩ lr ra rb S w1 K8 Qr9 Go hx AD FS BE If C1
 obtain ⟨o,ho,rfl,rfl⟩:=hx
 obtain ⟨X,Y,a⟩:=AD
 try dsimp only at X Y a
 try dsimp only
 refine WS fun _ A1=>rP 1 [] mn ?_
 refine RK A1<|ay<|AL U ej fun In=>gl U c_ U<|aJ<|km (fun _ _ h=>h) (aS [1,0,2,3,4,5,6,7,8,9,10,11,12,13])<|bj (FS _ _ ?_)
 refine aG<|aq fun _ A3=>dy cy 7 kr<|mz 1 [] (mr 12 U mn) U<|dS (SX (cS U U) U U)<|dP 3 [0,1] (mr 11 U (mr 13 U mn)) ?_
 obtain ⟨ga,s⟩:=aM fb b I
 have Ci:(List.zipWith gR fs fb)[b]? =some (gR mf ga):=dH hm1 s
 refine dS (IA b U (aF 7 U) o5 dc I I)<|dS (hP b 0 (Value.map (some ga)) U cf (aF 7 U) Ci U dc U)<|cO<|qD (kV:=eI) (m:=cT iV mf) 8 U U pZ U ⟨⟨(kQ eI ga (cT iV mf)),(bT hm1 s (by simp [nM])),U⟩,fun h=>h⟩ (show jC _ (kQ eI ga (cT iV mf)).holds from cW 8 U (bT hm1 s (by simp [nM]))) U fun ID=>?_
 try dsimp only
 refine RK A3<|aG ?_
 have C:(∀ p∈mf,p∈mf)∧(ox (cU ln ri e tms) b mf mb o mf ys)∧(mC (cU ln ri e tms) b mf mb k ys)∧(J ys A)∧(Fo A0 w0 A):=by exact ⟨fun p hp=>hp,ox.start,X,Y,a⟩
 refine bS (ι:={z:FM×(List (Int×ag))×aB // (∀ p∈z.1,p∈mf)∧(ox (cU ln ri e tms) b mf mb o z.1 z.2.1)∧(mC (cU ln ri e tms) b mf mb k z.2.1)∧(J z.2.1 z.2.2)∧(Fo A0 w0 z.2.2)}) [0,1,2,3,4,5,23] [1,2,3,5,6,7,8,9,10,11,12,13,14] U U (fun z=>[]) (fun z=>[(D9 eI ID ga (cT iV mf) (cT iV z.1.1) none),z.1.2.2]) (fun _=>rfl) (fun _=>rfl) (fun z=>z.1.1.length) ⟨(mf,ys,A),C⟩ (dx.nil _) (aS [1,2,3,5,6,7,8,9,10,11,12,13,14,0,4]) ?_
 clear C
 rintro ⟨⟨left,ys,A⟩,⟨K,M,N,O,P⟩⟩ J15 Ae
 try dsimp only at K M N O P
 try dsimp only
 refine WS fun _ j=>o9 pQ.inj (f:=iV) 13 U U U U (fun C3=>?_) (fun t v hm hn=>?_)
 ·refine rP 1 [] mn ?_
  refine RK j<|aq fun _ IR=>ct U<|bL<|ai<|ai<|aI<|aO ?_
  exact BE (ys,A) _ _ (by exact ⟨mC.next N M C3,O,P⟩) (aS [0,2,14,3,4,5,6,7,8,9,10,11,12])
 try dsimp only
 refine bG 1 U<|RK j<|aq fun _ A4=>aU U<|WK A4<|aG<|WS fun _ A5=>rS (SX (pt 13 U U U) U U)<|bG 2 U<|AL U vv fun JJ=>gl U tv U<|bG 1 U<|RK A5<|aq fun _ A6=>dy cy 8 kr<|mz 1 [] (mr 12 U mn) U<|dS (SX (cS U U) U U)<|dP 4 [0,1] (mr 11 U (mr 13 U mn)) ?_
 obtain ⟨gb,AC⟩:=aM bb (b+1) I
 have Ck:(List.zipWith gR bs bb)[(b+1)]? =some (gR mb gb):=dH hm2 AC
 refine dS (IA (b+1) U (aF 9 U) o5 dc I I)<|dS (hP (b+1) 0 (Value.map (some gb)) U cf (aF 9 U) Ck U dc U)<|cO<|qD (kV:=eI) (m:=cT iV mb) 10 U U pZ U ⟨⟨(kQ eI gb (cT iV mb)),(bT hm2 AC (by simp [nM])),U⟩,fun h=>h⟩ (show jC _ (kQ eI gb (cT iV mb)).holds from cW 10 U (bT hm2 AC (by simp [nM]))) U fun IO=>?_
 try dsimp only
 refine RK A6<|aG ?_
 have C:(∀ p∈mb,p∈mb)∧(oz (cU ln ri e tms) b mb o (t,v) mb ys)∧(ox (cU ln ri e tms) b mf mb o left ys)∧(mC (cU ln ri e tms) b mf mb k ys)∧(J ys A)∧(Fo A0 w0 A):=by exact ⟨fun p hp=>hp,oz.start,M,N,O,P⟩
 refine bS (ι:={z:FM×(List (Int×ag))×aB // (∀ p∈z.1,p∈mb)∧(oz (cU ln ri e tms) b mb o (t,v) z.1 z.2.1)∧(ox (cU ln ri e tms) b mf mb o left z.2.1)∧(mC (cU ln ri e tms) b mf mb k z.2.1)∧(J z.2.1 z.2.2)∧(Fo A0 w0 z.2.2)}) [0,1,2,3,4,5,6,7,23,37] [1,2,3,4,5,6,7,8,9,10,11,12,13,14,15] U U (fun z=>[]) (fun z=>[(D9 eI IO gb (cT iV mb) (cT iV z.1.1) none),z.1.2.2]) (fun _=>rfl) (fun _=>rfl) (fun z=>z.1.1.length) ⟨(mb,ys,A),C⟩ (dx.nil _) (aS [1,2,3,4,5,6,7,8,9,10,11,12,13,14,15,0,16]) ?_
 clear C
 rintro ⟨⟨l2,T,A2⟩,⟨B,D,E,G,H,AB⟩⟩ J23 V
 try dsimp only at B D E G H AB
 try dsimp only
 refine WS fun _ r=>o9 pQ.inj (f:=iV) 15 U U U U (fun Di=>?_) (fun u z L AR=>?_)
 ·refine rP 1 [] mn ?_
  refine RK r<|aq fun _ Id=>ct U<|bL<|ai<|ai<|aI<|aO<|rp 14 U pM U ?_
  refine bj (Ae ⟨((fH left t),T,A2),⟨nc K,ox.next hn hm E D Di,G,H,AB⟩⟩ _ _ _ U (nm hm) (bw U) (aS [1,2,3,4,5,6,7,8,9,10,11,12,13,14,16]))
 try dsimp only
 refine bG 1 U<|RK r<|aq fun _ A7=>aU U<|WK A7<|aG<|WS fun _ A8=>rS (SX (pt 15 U U U) U U)<|bG 2 U<|AL U vv fun JR=>gl U tv U<|rP 1 [] mn ?_
 refine RK A8<|aq fun _ A9=>dT cy [17,18] [] [] [0,1,2,3,4,5,6,7,8,9,10,11,12,13,14,15,16,17] [] U U U U U<|eS U (MV U)<|eS U (Xx 13 U cf U)<|eS U (SX (cS U U) U U)<|eS U (FA 10 U eP U)<|eS U (Kd (vS e_A e.length e_C) 12 U cf U U)<|eS U (Xx 14 U cf U) ?_
 obtain ⟨y,hy⟩:=aM e b I
 have Gq:=bQ iC hy
 refine eS U (IA b U (aF 5 U) dJ dc I I)<|eS U (hP b 0 (vI y) U cf (aF 5 U) Gq U dc U) ?_
 have J3:=hw.least y (aQ hy)
 have Fn:=Kl hw _ _ (hfw.mem hm1 (K _ hm))
 have Fd:=Ly hw (hbw.mem hm2 (B _ L))
 have J4:=wk o.1
 have J5:=hw.opt ho
 dsimp only at Fn Fd
 refine eS U (BI U (oZ ⟨I,I⟩))<|eS U (FA 0 U eP U)<|eS U (L1 (vI o.2.Lo) 3 U cf U U)<|eS U (MX U)<|eS U (MV U)<|eS U (FA 1 U eP U)<|eS U (L1 (vI o.2.Hi) 3 U cf U U)<|eS U (MN U)<|eS U (SX (bp (xs:=[(0,.tmp 54),(1,.tmp 58)]) (cs:=(ag.cells (ag.mk (max (v+y) o.2.Lo) (min z o.2.Hi)))) U U (bo hU U)) U U)<|eN U<|cm U fun T30 Bc=>AL U ej fun Jr=>aJ (Bc _ _ (aS [1,2,3,4,5,6,7,8,9,10,11,12,13,14,15,16,17,18]) ?_)
 refine cm U fun T32 B3=>gl U c_ U<|aJ (B3 _ _ (aS [1,2,3,4,5,6,7,8,9,10,11,12,13,14,15,16,17,18]) ?_)
 refine f_ U<|KK A9<|aq fun _ R=>dy cy 19 kr<|dP 6 [] (mc 0 U mn) ?_
 refine j0 (t:=65) U (aW fun d=>?_) (aV fun d=>?_)
 ·refine lP 3 U<|lP 10 U<|cO<|rP 3 [] mn ?_
  refine RK R<|ct U<|cx<|aO<|rp 17 U pM U ?_
  refine bj (V ⟨((fH l2 u),T,A2),⟨nc B,oz.skip AR L D (by exact Iy hy d),E,G,H,AB⟩⟩ _ _ _ U (nm L) (bw U) (aS [2,3,4,5,6,7,8,9,10,11,12,13,14,15,16,17,18]))
 refine dP 3 [0,1,2] (mr 14 U (mc 2 U (mc 1 U mn))) ?_
 have J7:(0≤(dK t u).right∧(dK t u).right≤1000)∧0≤(dK t u).fp∧(dK t u).fp≤1000:=by simp only [dK]; omega
 have J6:(0≤(dK (dK t u) (fV o.1)).right∧(dK (dK t u) (fV o.1)).right≤1000)∧0≤(dK (dK t u) (fV o.1)).fp∧(dK (dK t u) (fV o.1)).fp≤1000:=by simp only [dK]; omega
 refine dS (CL (xP t u I I) (aN) U)<|lP 1 U<|dS (CL (Lm o.1) (aN) U)<|dS (CL (xP (dK t u) (fV o.1) asm I) (aN) U)<|dS (CL (P2 ln ri e tms e_A e_C tb t_A t_C fs bs fb f_A f_C bb b_A b_C gw (dK (dK t u) (fV o.1)) asm hsg) (bq [6,7,8,9,10,11,12,13]) U)<|dP 2 [] mn ?_
 refine j0 (t:=75) U (fun g=>?_) (fun g=>?_)
 ·refine lP 3 U<|cO<|rP 3 [] mn ?_
  refine RK R<|ct U<|cx<|aO<|rp 17 U pM U ?_
  refine bj (V ⟨((fH l2 u),T,A2),⟨nc B,oz.skip AR L D (by exact Hw g),E,G,H,AB⟩⟩ _ _ _ U (nm L) (bw U) (aS [2,3,4,5,6,7,8,9,10,11,12,13,14,15,16,17,18]))
 refine dP 3 [0,1] (mc 5 U (mc 0 U mn)) ?_
 refine cO<|zr (k:=T) (k':=(T++[(o.1,(ag.mk (max (v+y) o.2.Lo) (min z o.2.Hi)))])) 18 (by first|exact Go|exact Nat.le_refl _) hY H AB U U U (by exact ⟨(o.1,_),ja.2 ⟨o,ho,(t,v),K _ hm,(u,z),B _ L,(Dp hy d g)⟩,U,U⟩) U U (fun B34 W AA=>?_) (fun B34 W AA=>?_)
 rotate_left 1
 ·refine rP 2 [] mn ?_
  refine RK R<|aU U<|av ?_
  exact C1 B34 _ _ (by exact ⟨U,W,AA⟩) (aS [3,5,18,6,7,8,9,10,11,12,13,14,15])
 refine rP 2 [] mn ?_
 refine RK R<|ct U<|cx<|aO<|rp 17 U pM U ?_
 refine bj (V ⟨((fH l2 u),(T++[(o.1,(ag.mk (max (v+y) o.2.Lo) (min z o.2.Hi)))]),B34),⟨nc B,oz.Vs AR L D (Dp hy d g),E.app,G.app,W,AA⟩⟩ _ _ _ U (nm L) (bw U) (aS [2,3,4,5,6,7,8,9,10,11,12,13,14,15,16,17,18]))
end
section
open Go.RowKit
theorem NI (l:bg) (kA:OA) (kC:Nat) (az:List RA) (cA:OA) (cC:Nat) (bA:OA) (bC:Nat) (r:cr) (sgA:OA) (sgC:Nat) (f:Value) (X:aB) (me:Int) (gm:Nat) (hf:EF Tryz.prog f [] [X] (.int .i64 me)) (hin:ep l az) (hsl:r.aa.length≤1000000):
 qB Tryz.prog 42 [(vA (cw.cells (kj l kA kC cA cC bA bC))),(vA (cM.cells (jI r sgA sgC))),(vS (some ⟨gm,0,none⟩) 1 1)] [(rd kA l.aR.length 9 (l.aR.map ar.cells)),(rd cA l.aj.length 2 (List.zipWith ax.cells l.aj az)),(dV (a_ ax.gG l.aj az)),(rd bA l.ab.length 4 (l.ab.map bJ.cells)),(rd sgA r.aa.length 2 (r.aa.map aH.cells)),X,(cv gm 111 [f])] (fun (x:Bool×Int×Nat×(OA)×Nat×(OA)×Nat×(List Nat)×(List FM)×(List Nat)×(OA)×Nat×(List FM)×(List Nat)×(OA)×Nat)=>bif x.1 then (vT [(Value.pointer (some ⟨x.2.2.1,0,none⟩)),(vI 0)]) else (vT [(Value.pointer none),(vI x.2.1)])) (fun (x:Bool×Int×Nat×(OA)×Nat×(OA)×Nat×(List Nat)×(List FM)×(List Nat)×(OA)×Nat×(List FM)×(List Nat)×(OA)×Nat)=>(x.1=true→(dG l r me=0∧xj (bP l r) x.2.2.2.2.2.2.2.2.1∧ua (bP l r) x.2.2.2.2.2.2.2.2.2.2.2.2.1∧x.2.2.2.2.2.2.2.2.2.1.length=x.2.2.2.2.2.2.2.2.1.length∧x.2.2.2.2.2.2.2.2.2.2.2.2.2.1.length=x.2.2.2.2.2.2.2.2.2.2.2.2.1.length∧x.2.2.2.2.2.2.2.1.length=(cP l r.aa r.aa.length).length))∧(x.1=false→(x.2.1=dG l r me∧ ¬ dG l r me=0))) (fun (x:Bool×Int×Nat×(OA)×Nat×(OA)×Nat×(List Nat)×(List FM)×(List Nat)×(OA)×Nat×(List FM)×(List Nat)×(OA)×Nat)=>bif x.1 then [(cv x.2.2.1 150 (cb.cells (cb.mk (kj l kA kC cA cC bA bC) (jI r sgA sgC) (bE.mk x.2.2.2.1 ((cd l l.ab.length).length) x.2.2.2.2.1) (bE.mk x.2.2.2.2.2.1 ((cP l r.aa r.aa.length).length) x.2.2.2.2.2.2.1) (bE.mk x.2.2.2.2.2.2.2.2.2.2.1 x.2.2.2.2.2.2.2.2.1.length x.2.2.2.2.2.2.2.2.2.2.2.1) (bE.mk x.2.2.2.2.2.2.2.2.2.2.2.2.2.2.1 x.2.2.2.2.2.2.2.2.2.2.2.2.1.length x.2.2.2.2.2.2.2.2.2.2.2.2.2.2.2)))),(own x.2.2.2.1 x.2.2.2.2.1 3 1 ((cd l l.ab.length).map iC)),(own x.2.2.2.2.2.1 x.2.2.2.2.2.2.1 153 1 (List.zipWith gR (cP l r.aa r.aa.length) x.2.2.2.2.2.2.2.1)),(bK (a_ qp (cP l r.aa r.aa.length) x.2.2.2.2.2.2.2.1)),(own x.2.2.2.2.2.2.2.2.2.2.1 x.2.2.2.2.2.2.2.2.2.2.2.1 156 1 (List.zipWith gR x.2.2.2.2.2.2.2.2.1 x.2.2.2.2.2.2.2.2.2.1)),(bK (a_ nM x.2.2.2.2.2.2.2.2.1 x.2.2.2.2.2.2.2.2.2.1)),(own x.2.2.2.2.2.2.2.2.2.2.2.2.2.2.1 x.2.2.2.2.2.2.2.2.2.2.2.2.2.2.2 156 1 (List.zipWith gR x.2.2.2.2.2.2.2.2.2.2.2.2.1 x.2.2.2.2.2.2.2.2.2.2.2.2.2.1)),(bK (a_ nM x.2.2.2.2.2.2.2.2.2.2.2.2.1 x.2.2.2.2.2.2.2.2.2.2.2.2.2.1))] else []):=by
 have Sz:=hin.sZ
 have Sf:=hin.rn
 have SN:=hin.n_
 have ST:=hin.sB
 have So:=hin.side
 refine fO kr Tryz.func42 U U fun w0 Q hQ hN=>?_
 try dsimp only
 refine WS fun _ Os=>eT U fun b2=>eT U fun b3=>bG 2 U<|RK Os<|aq fun _ Ox=>WS fun _ PP=>fD 1 [] (mc 1 U mn) U<|rS (CL (zt l kA kC az cA cC bA bC hin) (bq [2,3,4,5]) U)<|bG 1 U<|RK PP<|WS fun _ Pi=>rP 2 [] mn ?_
 refine RK Pi<|cG U (bB fun h=>?_) (bx fun h=>?_)
 ·refine WS fun _ Pl=>rP 3 [] mn ?_
  refine RK Pl<|av<|LX hQ (false,(dw l),0,none,0,none,0,[],[],[],none,0,[],[],none,0) [] [] mn U (by rfl) U U ?_
  exact xJ<|FP (gS (r:=r) (me:=me) h) h
 refine WK Ox<|aq fun _ QH=>WS fun _ AD=>?_
 have C:dw l=0:=h
 obtain ⟨LE,d⟩:=dq C
 have Qn:=d.head
 unfold eY at Qn
 refine rP 2 [] (mc 0 U mn) ?_
 refine eJ (xs:=[.tmp 24]) (cs:=[(vI r.Start)]) U dJ kY U U U U (by simp [Value.cells]) U U fun L0=>?_
 refine rS (CL (dN.eq (iF 0 86400000 ([r.Start]) (some ⟨L0,0,none⟩) 1 (by (simp; done))) cH) (aD (br 0 U U (by simp [bR]) U)<|aN) U) ?_
 refine rP 2 [] mn ?_
 refine cg (t:=28) U (bB fun M2=>?_) (bx fun M2=>?_)
 ·refine bG 14 U<|RK AD<|aU U<|WS fun _ A4=>rP 2 [] mn ?_
  refine RK A4<|av<|LX hQ (false,51,0,none,0,none,0,[],[],[],none,0,[],[],none,0) [] [] mn U (by rfl) U U ?_
  exact xJ<|oP (dp (me:=me) C (fun q:dW l r=>by have q1:=q.time; have q2:=q.len; omega))
 refine rP 4 [] (mc 1 U mn) ?_
 refine eJ (xs:=[.tmp 32]) (cs:=[(vI r.fI)]) U dJ kY U U U U (by simp [Value.cells]) U U fun L2=>?_
 refine rS (CL (dN.eq (iF r.Start 86400000 ([r.fI]) (some ⟨L2,0,none⟩) 1 (by (simp; done))) cH) (aD (br 0 U U (by simp [bR]) U)<|aN) U) ?_
 refine rP 3 [] mn ?_
 refine cg (t:=37) U (bB fun Ne=>?_) (bx fun Ne=>?_)
 ·refine bG 5 U<|RK AD<|aU U<|WS fun _ A5=>rP 2 [] mn ?_
  refine RK A5<|av<|LX hQ (false,51,0,none,0,none,0,[],[],[],none,0,[],[],none,0) [] [] mn U (by rfl) U U ?_
  exact xJ<|oP (dp (me:=me) C (fun q:dW l r=>by have q1:=q.time; have q2:=q.len; omega))
 refine rP 5 [] (mc 2 U mn) ?_
 refine RK AD<|cG U (aV fun OY=>?_) (aW fun OY=>?_)
 ·refine WS fun _ A6=>rP 2 [] mn ?_
  refine RK A6<|av<|LX hQ (false,51,0,none,0,none,0,[],[],[],none,0,[],[],none,0) [] [] mn U (by rfl) U U ?_
  exact xJ<|oP (dp (me:=me) C (fun q:dW l r=>by have q1:=q.time; have q2:=q.len; omega))
 refine WK QH<|WS fun _ A7=>rS (SX (bp (xs:=[(0,.const (vI (-1)))]) (cs:=(aH.cells (aH.mk (-1) 0))) U U (bo Mu U)) U U)<|AL U IV fun V=>gl U v9 U<|RK A7<|aq fun _ A8=>dT cy [5,6,7,8] [] [] [0,1,2,3,4,5,6,7,8,9,10,11] [] U U U U U<|eS U (LW 4 U cf U U)<|eS U (LW 3 U cf U U)<|eS U (FA 3 U eP U)<|eS U (L1 (vS bA l.ab.length bC) 4 U cf U U)<|eS U (LN U Sc)<|eN U<|cm U fun T18 If=>?_
 refine wS (n:=l.ab.length) (es:=(List.map oC (List.replicate l.ab.length (none:Option Nat)))) U U U PW I I (by simp only [maxLen]; omega) (by rw [List.map_replicate]; rfl) U fun B=>?_
 try dsimp only
 refine aJ (If _ _ (aS [1,2,3,4,5,6,7,8,9,10,11,12]) ?_)
 refine cm U fun T20 In=>rS (SX (bp (xs:=[(0,.tmp 44),(1,.tmp 45),(3,.tmp 49)]) (cs:=(cb.cells (cb.mk (kj l kA kC cA cC bA bC) (jI r sgA sgC) (bE.mk none 0 0) (bE.mk (some ⟨B,0,none⟩) l.ab.length l.ab.length) (bE.mk none 0 0) (bE.mk none 0 0)))) U U (bo PO U)) U U)<|aJ (In _ _ (aS [1,2,3,4,5,6,7,8,9,10,11,12]) ?_)
 refine cm U fun T21 JJ=>eT U fun AB=>aJ (JJ _ _ (aS [2,3,4,5,6,7,8,9,10,11,12,13]) ?_)
 refine cm U fun T23 JR=>rS (AG U)<|aJ (JR _ _ (aS [2,3,4,5,6,7,8,9,10,11,12,13]) ?_)
 refine f_ U<|KK A8<|aq fun _ A9=>WS fun _ BE=>rP 4 [] (mc 6 U mn) ?_
 refine RK BE<|aG ?_
 rw [wy]
 refine e9 3 1<|oM ?_
 have E:(0≤l.ab.length)∧(([]:List Nat).length=0):=by exact ⟨Nat.zero_le _,rfl⟩
 refine bS (ι:={z:Nat×(OA)×Nat×(List Nat) // (z.1≤l.ab.length)∧(z.2.2.2.length=z.1)}) [2,3,4,6,7,9,10,54] [4,7,8,9,10,11,12,13,14,15] U U (fun z=>[(55,(vI (z.1.1:Int)))]) (fun z=>[(bK (a_ qp (List.replicate z.1.1 ([]:TM)) z.1.2.2.2)),(own z.1.2.1 z.1.2.2.1 3 1 ((cd l z.1.1).map iC)),(cv AB 150 (cb.cells (cb.mk (kj l kA kC cA cC bA bC) (jI r sgA sgC) (bE.mk z.1.2.1 ((cd l z.1.1).length) z.1.2.2.1) (bE.mk (some ⟨B,0,none⟩) l.ab.length l.ab.length) (bE.mk none 0 0) (bE.mk none 0 0)))),(own (some ⟨B,0,none⟩) l.ab.length 153 1 (List.map oC (dI z.1.2.2.2 l.ab.length)))]) (fun _=>rfl) (fun _=>rfl) (fun z=>l.ab.length-z.1.1) ⟨(0,none,0,([]:List Nat)),E⟩ (bw U) (aS [4,7,8,9,10,11,12,13,14,15,0,1,2,3]) ?_
 clear E
 rintro ⟨⟨b,a,c,fb⟩,⟨AO,Y⟩⟩ J26 A3
 try dsimp only at AO Y
 try dsimp only
 have Qr:(dI fb l.ab.length).length=l.ab.length:=ob I
 refine WS fun _ Bc=>rP 1 [] mn ?_
 refine RK Bc<|aq fun _ B3=>cG U (aV fun NE=>?_) (aW fun NE=>?_)
 ·refine WK B3<|aq fun _ B9=>aG<|WS fun _ Ci=>rP 2 [] mn ?_
  refine RK Ci<|aq fun _ Ck=>dT cy [12,13,16] [4] [0] [0,1,2,3,4,5,6,7,8,9,10,13] [0,1,2,3,4,5,6,7,8,9,10,11,12,13] U U U U U<|eS U (MV U)<|eS U (MV U)<|eS U (SX (cS U U) U U)<|eS U (FA 10 U eP U)<|fS U (L1 (vS a ((cd l b).length) c) 12 U cf U U)<|eS U (LW 2 U cf U U)<|eS U (MV U)<|eS U (CL (L4 l kA kC az cA cC bA bC (b:Int) hin asm (by exact d.re) I) (bq [3,4,5,6]) U) ?_
  have S1:=DK LE d.re b
  have S2:=d.Q5 b I
  simp only [Int.toNat_natCast]
  refine eS U (BI U (uT ⟨I,I⟩))<|eS U (FA 1 U eP U)<|eS U (L1 (vI l.iN) 2 U cf U U) ?_
  refine eS U (CL (Lu (1000*(l8 l (b:Int).toNat)) l.iN I (by (simp; omega))) (aN) U) ?_
  refine eS U (SX (cS U U) U U)<|eS U (FA 10 U eP U)<|eN U<|jZ U fun T33 Jr=>eJ (xs:=[.tmp 69]) (cs:=[(vI (pJ (1000*(l8 l (b:Int).toNat)) l.iN))]) U dJ kY U U U U (by simp [Value.cells]) U U fun R7=>aJ (Jr _ _ (aS [1,2,3,4,5,6,7,8,9,10,11,14]) (aS [1,2,3,4,5,6,7,8,9,10,11,12,13,14]) ?_)
  refine cm U fun T35 J1=>?_
  refine dR (es2:=(List.map iC (cd l (b+1)))) (m':=(cd l (b+1)).length) 12 U U U ti U U (by simp [cE]) (br (es:=List.map iC [(pJ (1000*(l8 l (b:Int).toNat)) l.iN)]) 0 U U (by simp [bR]) U) (lM _) (by have:=cE (l:=l) (n:=b); first|omega|(simp; omega)) (by simp only [maxLen,cE]; omega) (by rw [rI]; simp [eu]) (by simp [cE]) U fun e g=>?_
  try dsimp only
  refine aJ (J1 _ _ (aS [1,2,3,4,5,6,7,8,9,10,11,14]) ?_)
  refine cm U fun T38 J2=>iT (vs:=[(vS e ((cd l (b+1)).length) g)]) (cs':=(cb.cells (cb.mk (kj l kA kC cA cC bA bC) (jI r sgA sgC) (bE.mk e ((cd l (b+1)).length) g) (bE.mk (some ⟨B,0,none⟩) l.ab.length l.ab.length) (bE.mk none 0 0) (bE.mk none 0 0)))) (C':=[_,_,_,_,_,_,_,_,_,_,_,_,_,(cv AB 150 (cb.cells (cb.mk (kj l kA kC cA cC bA bC) (jI r sgA sgC) (bE.mk e ((cd l (b+1)).length) g) (bE.mk (some ⟨B,0,none⟩) l.ab.length l.ab.length) (bE.mk none 0 0) (bE.mk none 0 0)))),_]) 13 U U U IF U U U U U U U<|aJ (J2 _ _ (aS [1,2,3,4,5,6,7,8,9,10,11,14]) ?_)
  refine f_ U<|KK Ck<|ay<|bG 1 U<|rS (SX (cS U U) U U)<|rP 3 [] (mc 13 U mn) ?_
  refine nq (kV:=iV) U U fun J=>?_
  try dsimp only
  obtain ⟨Rr,La⟩:=aM (dI fb l.ab.length) b I
  have hx41m:(List.map oC (dI fb l.ab.length))[b]? =some (oC Rr):=by rw [dL,La]; rfl
  refine rS (IA b U (au (n:=l.ab.length) 15 U sq) yT dc I I) ?_
  have J3:((dI fb l.ab.length).set b (some J))=(dI (fb++[J]) l.ab.length):=by exact s9 I I
  refine eE (k:=b) (o:=0) (vs:=[(Value.map (some J))]) (es':=(List.map oC (dI (fb++[J]) l.ab.length))) (C':=[_,_,_,_,_,_,_,_,_,_,_,_,_,_,_,(own (some ⟨B,0,none⟩) l.ab.length 153 1 (List.map oC (dI (fb++[J]) l.ab.length)))]) 15 U U U F4 U U U U hx41m U dc (by exact (List.map_set (f:=oC) (l:=(dI fb l.ab.length)) (i:=b) (a:=(some J))).symm.trans (congrArg _ J3)) U<|aJ<|aO<|KK B9<|ay<|rP 2 [] mn ?_
  refine aJ<|y7 (X':=a_ qp (List.replicate (b+1) ([]:TM)) (fb++[J])) 12 0 U U (FX Y) ?_
  try dsimp only
  have J4:(vI (((b+1):Nat):Int))=(vI ((b:Int)+1)):=by exact cI I
  refine bj (A3 ⟨((b+1),e,g,(fb++[J])),⟨I,by simp; omega⟩⟩ _ _ _ U os (cQ 8<|bk U J4<|dx.nil _) (aS [2,3,4,5,6,7,8,9,10,11,0,12,13,14]))
 refine bL<|ai<|ai<|aI<|KK A9<|aq fun _ Cl=>WS fun _ Cp=>rP 4 [] (mc 1 U mn) ?_
 refine RK Cp<|aG ?_
 rw [show (List.replicate b ([]:TM))=cP l r.aa 0 from by rw [yC,show b=l.ab.length by omega]]
 rw [show cd l b=cd l l.ab.length from by rw [show b=l.ab.length by omega]]
 have E:(0≤r.aa.length)∧(pB l r.aa 0):=by exact ⟨Nat.zero_le _,wo⟩
 refine bS (ι:={z:Nat // (z≤r.aa.length)∧(pB l r.aa z)}) [2,3,4,6,7,9,10,83,84] [1,2,3,4,5,6,7,8,9,11,12,13] U U (fun z=>[(85,(vI (z.1:Int)))]) (fun z=>[(cv V 78 (aH.cells (lx r.aa z.1))),(bK (a_ qp (cP l r.aa z.1) fb))]) (fun _=>rfl) (fun _=>rfl) (fun z=>r.aa.length-z.1) ⟨0,E⟩ (bw U) (aS [1,2,3,4,5,6,7,8,9,11,12,13,0,10]) ?_
 clear E
 rintro ⟨i,⟨Lo,A⟩⟩ J46 T
 try dsimp only
 have Q4:(cP l r.aa i).length=l.ab.length:=g0
 have Qr:(dI fb l.ab.length).length=l.ab.length:=ob I
 refine WS fun _ Cx=>rP 1 [] mn ?_
 refine RK Cx<|aq fun _ C0=>bV U (aW fun Op=>?_) (aV fun Op=>?_)
 ·refine bL<|ai<|ai<|aI<|KK Cl<|aq fun _ Fd=>aq fun _ Fn=>?_
  have j:dW l r:=x7 I I A I
  refine ay<|bG 3 U<|RK Fn<|aG<|rl 2<|lH fun R81 Id=>WS fun _ GE=>rS (SX (gL (r:= .bool true) U U U qU) U U)<|RK GE<|aq fun _ GT=>aU U<|WK GT<|aq fun _ Go=>aG<|WS fun _ Gq=>rS (XQ 0 0 U PG U dc U)<|fD 2 [] (mr 8 U mn) U<|RK Gq<|WS fun _ Hi=>bG 1 U<|rS (SX (qL U U U (hf) (bq [7])) U U)<|bG 1 U<|RK Hi<|WS fun _ H1=>rP 2 [] mn ?_
  refine RK H1<|cG U (bB fun K=>?_) (bx fun K=>?_)
  ·refine WS fun _ ID=>rP 3 [] mn ?_
   refine RK ID<|av<|LX hQ (false,me,0,none,0,none,0,[],[],[],none,0,[],[],none,0) [] [] mn U (by rfl) U U ?_
   exact xJ<|FP (rN C j K) K
  refine cx<|aO<|KK Go<|ay<|rS (SX (gL (r:= .int .i64 1) U U U (oZ ⟨dc,dc⟩)) U U)<|rP 1 [] mn ?_
  refine RK Id<|lH fun R89 R3=>WS fun _ IO=>rS (SX (gL (r:= .bool false) U U U qU) U U)<|RK IO<|aq fun _ R2=>ct U<|bL<|ai<|ai<|aI<|KK Fd<|aq fun _ IR=>?_
  rw [show cP l r.aa i=cP l r.aa r.aa.length from by rw [show i=r.aa.length by omega]]
  have AY:(cP l r.aa r.aa.length).length=l.ab.length:=g0
  rw [show (List.map oC (dI fb l.ab.length))=(List.zipWith gR (cP l r.aa r.aa.length) fb) from Uq I AY]
  rw [show (cv AB 150 (cb.cells (cb.mk (kj l kA kC cA cC bA bC) (jI r sgA sgC) (bE.mk a ((cd l l.ab.length).length) c) (bE.mk (some ⟨B,0,none⟩) l.ab.length l.ab.length) (bE.mk none 0 0) (bE.mk none 0 0))))=(cv AB 150 (cb.cells (cb.mk (kj l kA kC cA cC bA bC) (jI r sgA sgC) (bE.mk a ((cd l l.ab.length).length) c) (bE.mk (some ⟨B,0,none⟩) ((cP l r.aa r.aa.length).length) l.ab.length) (bE.mk none 0 0) (bE.mk none 0 0)))) from by rw [AY]]
  have LT:=kO LE d j
  have R4:(cd l l.ab.length).length=l.ab.length:=cE
  refine ay<|rP 1 [] mn ?_
  refine ph 10 U U U U (CE (kj l kA kC cA cC bA bC) (jI r sgA sgC) (cd l l.ab.length) (cP l r.aa r.aa.length) a c fb (some ⟨B,0,none⟩) l.ab.length AB (by exact LT) (by exact cE.symm) (by rw [AY]; omega)) U (eC 9 U U (jO sm) (eC 11 U U (jO (by rw [List.length_zipWith]; omega)) (eC 13 U U rW rh))) U (fun Li Qi=>?_)
  obtain ⟨G,S,P,R,F,O,N,H⟩:=Li
  refine GM (X:=[(cv AB 150 (cb.cells (cb.mk (kj l kA kC cA cC bA bC) (jI r sgA sgC) (bE.mk a ((cd l l.ab.length).length) c) (bE.mk (some ⟨B,0,none⟩) ((cP l r.aa r.aa.length).length) l.ab.length) (bE.mk P G.length R) (bE.mk N F.length H)))),(own P R 156 1 (List.zipWith gR G S)),(bK (a_ nM G S)),(own N H 156 1 (List.zipWith gR F O)),(bK (a_ nM F O))]) 10 U U ?_
  try dsimp only
  obtain ⟨AR,K8,LA,LB⟩:=Qi
  dsimp only at AR K8 LA LB
  refine RK IR<|aq fun _ v=>WS fun _ w=>rP 1 [] mn ?_
  refine cX (wD (kj l kA kC cA cC bA bC) (jI r sgA sgC) (cd l l.ab.length) (cP l r.aa r.aa.length) a c fb (some ⟨B,0,none⟩) l.ab.length G F S P R O N H AB (by exact LT) (by (simp; omega)) (by exact cE.symm) (by exact AR) asm) (aD (au (n:=(cd l l.ab.length).length) 14 U sm)<|aD (au (n:=(cP l r.aa r.aa.length).length) 15 U (by rw [List.length_zipWith]; omega))<|aD (e7 17 U mu)<|aD (au (n:=G.length) 1 U (by rw [List.length_zipWith]; omega))<|aD (e7 2 U mu)<|aD (au (n:=F.length) 3 U (by rw [List.length_zipWith]; omega))<|aD (e7 4 U mu)<|gX 0 U U<|aN) U fun Lk Rc=>?_
  obtain ⟨R0,R1⟩:=Lk
  try dsimp only
  refine rP 2 [] mn ?_
  refine RK w<|bV U (aW fun W=>?_) (aV fun W=>?_)
  ·refine WK v<|WS fun _ AC=>rP 3 [] mn ?_
   refine RK AC<|av ?_
   refine LX hQ (true,0,AB,a,c,(some ⟨B,0,none⟩),l.ab.length,fb,G,S,P,R,F,O,N,H) [1,15,16,18,2,3,4,5] [] mn U (by (show List.all _ _=true; simp only [cond_true,fE,List.all_nil,pX,rr,Bool.and_true]; rfl)) U U ?_
   exact ⟨fun _=>⟨l3 C j (by first|rfl|exact K) (fun q=>W (congrArg (fun z:List Int=>(z.length:Int)) q)),AR,K8,LA,LB,dso⟩,Su⟩
  refine WS fun _ y=>rP 2 [] mn ?_
  refine RK y<|av<|LX hQ (false,8,0,none,0,none,0,[],[],[],none,0,[],[],none,0) [] [] mn U (by rfl) U U ?_
  exact xJ<|oP (ia (me:=me) C j (by first|rfl|exact K) (show iy (bP l r)=[] from iD (Int.natCast_eq_zero.1 W)))
 refine WK C0<|aq fun _ AA=>aG<|WS fun _ C1=>rP 1 [] mn ?_
 obtain ⟨x,hx⟩:=aM r.aa i I
 have RU:=bQ aH.cells hx
 refine rS (IA i U (aF 6 U) xI dc I I)<|rS (mq i 0 (aH.cells x) U cf (aF 6 U) RU U dc U U)<|AL U IV fun R8=>bG 1 U<|gl U v9 U<|RK C1<|aq fun _ p=>WS fun _ L=>rP 6 [0,1] (mc 2 U (mc 0 U mn)) ?_
 refine eJ (xs:=[.tmp 95]) (cs:=[(vI x.eZ)]) U dJ kY U U U U (by simp [Value.cells]) U U fun L3=>?_
 refine rS (CL (dN.eq (iF 0 ((l.ab.length:Int)-1) ([x.eZ]) (some ⟨L3,0,none⟩) 1 (by (simp; done))) cH) (aD (br 0 U U (by simp [bR]) U)<|aN) U) ?_
 refine rP 2 [] mn ?_
 refine cg (t:=99) U (bB fun Or=>?_) (bx fun Or=>?_)
 ·refine bG 27 U<|RK L<|aU U<|WS fun _ C2=>rP 2 [] mn ?_
  refine RK C2<|av<|LX hQ (false,51,0,none,0,none,0,[],[],[],none,0,[],[],none,0) [] [] mn U (by rfl) U U ?_
  exact xJ<|oP (dp (me:=me) C (kX hx (by unfold iz iI; omega)))
 refine rP 2 [] (mc 1 U mn) ?_
 refine eJ (xs:=[.tmp 101]) (cs:=[(vI x.Read)]) U dJ kY U U U U (by simp [Value.cells]) U U fun Mn=>?_
 refine rS (CL (dN.eq (iF 0 86400000 ([x.Read]) (some ⟨Mn,0,none⟩) 1 (by (simp; done))) cH) (aD (br 0 U U (by simp [bR]) U)<|aN) U) ?_
 refine rP 3 [] mn ?_
 refine cg (t:=106) U (bB fun Ae=>?_) (bx fun Ae=>?_)
 ·refine bG 20 U<|RK L<|aU U<|WS fun _ C3=>rP 2 [] mn ?_
  refine RK C3<|av<|LX hQ (false,51,0,none,0,none,0,[],[],[],none,0,[],[],none,0) [] [] mn U (by rfl) U U ?_
  exact xJ<|oP (dp (me:=me) C (kX hx (by unfold iz iI; omega)))
 refine rP 7 [0,1] (mc 2 U (mc 15 U mn)) ?_
 refine cg (t:=113) U (aV fun A0=>?_) (aW fun A0=>?_)
 ·refine bG 13 U<|RK L<|aU U<|WS fun _ Di=>rP 2 [] mn ?_
  refine RK Di<|av<|LX hQ (false,51,0,none,0,none,0,[],[],[],none,0,[],[],none,0) [] [] mn U (by rfl) U U ?_
  exact xJ<|oP (dp (me:=me) C (kX hx (by unfold iz iI; omega)))
 refine rP 6 [0,1] (mc 2 U (mc 15 U mn)) ?_
 refine cu (t:=119) U (aW fun A1=>?_) (aV fun A1=>?_)
 ·refine bG 7 U<|RK L<|ct U<|WK p<|aq fun _ u=>WS fun _ E1=>fD 2 [0,1] (mc 4 U (mc 2 U mn)) U<|rS (CL (AS l kA kC az cA cC bA bC x hin asm I) (bq [5,6,7,8]) U)<|AL U ej fun SA=>gl U c_ U<|RK E1<|WS fun _ FS=>rP 5 [] (mc 0 U mn) ?_
  refine RK FS<|bV U (aW fun D=>?_) (aV fun D=>?_)
  ·refine WK u<|ay<|rP 1 [] (mc 3 U mn) ?_
   refine iT (vs:=(aH.cells x)) (cs':=(aH.cells x)) (C':=[_,_,_,_,_,_,_,_,_,_,_,_,_,_,_,_,(cv V 78 (aH.cells x)),_]) 16 U U U v9 U U U U U U U<|aJ<|aO<|KK AA ?_
   have Ky:(aH.cells x)=(aH.cells (lx r.aa (i+1))):=by rw [kG hx]
   rw [Ky]
   refine ay<|rP 2 [] mn ?_
   refine aJ ?_
   rw [show (cP l r.aa i)=(cP l r.aa (i+1)) from (qy hx D).symm]
   have K0:(vI (((i+1):Nat):Int))=(vI ((i:Int)+1)):=by exact cI I
   refine bj (T ⟨(i+1),⟨I,jR A hx (by unfold iz iI; omega)⟩⟩ _ _ _ U os (cQ 9<|bk U K0<|dx.nil _) (aS [4,5,6,7,8,9,10,11,12,13,14,15,16,17]))
  obtain ⟨mb,Z⟩:=aM (cP l r.aa i) ((x.eZ).toNat) I
  obtain ⟨ga,M⟩:=aM fb ((x.eZ).toNat) I
  refine Ag 17 Z M U U U ?_
  try dsimp only
  refine dy cy 10 kr<|lP 1 U<|dS (SX (cS U U) U U)<|dP 4 [0,1] (mc 16 U (mc 5 U mn)) ?_
  have K5:(List.map oC (dI fb l.ab.length))[(x.eZ).toNat]? =some (oC (some ga)):=qW (ng M)
  refine dS (IA ((x.eZ).toNat) U (au (n:=l.ab.length) 17 U sq) yT dc I I) ?_
  refine dS (hP ((x.eZ).toNat) 0 (Value.map (some ga)) U cf (au (n:=(dI fb l.ab.length).length) 17 U sm) K5 U dc U)<|mz 2 [] (mc 2 U mn) U<|cO<|jt (kV:=iV) (x:=(i:Int)) (C':=[(kQ iV ga (cT kl (eA mb (i:Int) (cJ l x)))),_,_,_,_,_,_,_,_,_,_,_,_,_,_,_,_,_,_]) 0 U U U U tx (jg um) U (g6 _ _ _ _).symm U<|RK u<|ay<|rP 1 [] (mc 5 U mn) ?_
  refine iT (vs:=(aH.cells x)) (cs':=(aH.cells x)) (C':=[_,_,_,_,_,_,_,_,_,_,_,_,_,_,_,_,_,_,(cv V 78 (aH.cells x))]) 18 U U U v9 U U U U U U U<|aJ<|aO<|KK AA ?_
  have J9:(aH.cells x)=(aH.cells (lx r.aa (i+1))):=by rw [kG hx]
  rw [J9]
  refine ay<|rP 2 [] mn ?_
  refine aJ ?_
  refine BC (f:=qp) (ms:=(cP l r.aa i)) (m:=(eA mb (i:Int) (cJ l x))) 1 0 (by rw [g0]; omega) M U U U ?_
  rw [sL hx I D Z]
  have Kc:(vI (((i+1):Nat):Int))=(vI ((i:Int)+1)):=by exact cI I
  refine bj (T ⟨(i+1),⟨I,jR A hx (by unfold iz iI; omega)⟩⟩ _ _ _ U os (cQ 9<|bk U Kc<|dx.nil _) (aS [5,6,7,8,9,10,11,12,13,14,15,16,17,0]))
 refine rP 7 [0,1] (mc 2 U (mc 15 U mn)) ?_
 refine RK L<|cG U (aV fun A2=>?_) (aW fun A2=>?_)
 ·refine WS fun _ Do=>rP 2 [] mn ?_
  refine RK Do<|av<|LX hQ (false,51,0,none,0,none,0,[],[],[],none,0,[],[],none,0) [] [] mn U (by rfl) U U ?_
  exact xJ<|oP (dp (me:=me) C (kX hx (by unfold iz iI; omega)))
 refine WK p<|aq fun _ s=>WS fun _ EQ=>fD 2 [0,1] (mc 4 U (mc 2 U mn)) U<|rS (CL (AS l kA kC az cA cC bA bC x hin asm I) (bq [5,6,7,8]) U)<|AL U ej fun R9=>gl U c_ U<|RK EQ<|WS fun _ Eq=>rP 5 [] (mc 0 U mn) ?_
 refine RK Eq<|bV U (aW fun D=>?_) (aV fun D=>?_)
 ·refine WK s<|ay<|rP 1 [] (mc 3 U mn) ?_
  refine iT (vs:=(aH.cells x)) (cs':=(aH.cells x)) (C':=[_,_,_,_,_,_,_,_,_,_,_,_,_,_,_,_,(cv V 78 (aH.cells x)),_]) 16 U U U v9 U U U U U U U<|aJ<|aO<|KK AA ?_
  have J7:(aH.cells x)=(aH.cells (lx r.aa (i+1))):=by rw [kG hx]
  rw [J7]
  refine ay<|rP 2 [] mn ?_
  refine aJ ?_
  rw [show (cP l r.aa i)=(cP l r.aa (i+1)) from (qy hx D).symm]
  have J8:(vI (((i+1):Nat):Int))=(vI ((i:Int)+1)):=by exact cI I
  refine bj (T ⟨(i+1),⟨I,jR A hx (by unfold iz iI; omega)⟩⟩ _ _ _ U os (cQ 9<|bk U J8<|dx.nil _) (aS [4,5,6,7,8,9,10,11,12,13,14,15,16,17]))
 obtain ⟨mb,Z⟩:=aM (cP l r.aa i) ((x.eZ).toNat) I
 obtain ⟨ga,M⟩:=aM fb ((x.eZ).toNat) I
 refine Ag 17 Z M U U U ?_
 try dsimp only
 refine dy cy 10 kr<|lP 1 U<|dS (SX (cS U U) U U)<|dP 4 [0,1] (mc 16 U (mc 5 U mn)) ?_
 have K4:(List.map oC (dI fb l.ab.length))[(x.eZ).toNat]? =some (oC (some ga)):=qW (ng M)
 refine dS (IA ((x.eZ).toNat) U (au (n:=l.ab.length) 17 U sq) yT dc I I) ?_
 refine dS (hP ((x.eZ).toNat) 0 (Value.map (some ga)) U cf (au (n:=(dI fb l.ab.length).length) 17 U sm) K4 U dc U)<|mz 2 [] (mc 2 U mn) U<|cO<|jt (kV:=iV) (x:=(i:Int)) (C':=[(kQ iV ga (cT kl (eA mb (i:Int) (cJ l x)))),_,_,_,_,_,_,_,_,_,_,_,_,_,_,_,_,_,_]) 0 U U U U tx (jg um) U (g6 _ _ _ _).symm U<|RK s<|ay<|rP 1 [] (mc 5 U mn) ?_
 refine iT (vs:=(aH.cells x)) (cs':=(aH.cells x)) (C':=[_,_,_,_,_,_,_,_,_,_,_,_,_,_,_,_,_,_,(cv V 78 (aH.cells x))]) 18 U U U v9 U U U U U U U<|aJ<|aO<|KK AA ?_
 have J5:(aH.cells x)=(aH.cells (lx r.aa (i+1))):=by rw [kG hx]
 rw [J5]
 refine ay<|rP 2 [] mn ?_
 refine aJ ?_
 refine BC (f:=qp) (ms:=(cP l r.aa i)) (m:=(eA mb (i:Int) (cJ l x))) 1 0 (by rw [g0]; omega) M U U U ?_
 rw [sL hx I D Z]
 have J6:(vI (((i+1):Nat):Int))=(vI ((i:Int)+1)):=by exact cI I
 refine bj (T ⟨(i+1),⟨I,jR A hx (by unfold iz iI; omega)⟩⟩ _ _ _ U os (cQ 9<|bk U J6<|dx.nil _) (aS [5,6,7,8,9,10,11,12,13,14,15,16,17,0]))
end
section
open Go.RowKit
theorem Cw (l:bg) (kA:OA) (kC:Nat) (az:List RA) (cA:OA) (cC:Nat) (bA:OA) (bC:Nat) (r:cr) (sgA:OA) (sgC:Nat) (bq_:Int) (hin:ep l az) (hsl:r.aa.length≤1000000):
 dN Tryz.prog 22 [(vA (cw.cells (kj l kA kC cA cC bA bC))),(vA (cM.cells (jI r sgA sgC))),(vI bq_)] [(rd kA l.aR.length 9 (l.aR.map ar.cells)),(rd cA l.aj.length 2 (List.zipWith ax.cells l.aj az)),(dV (a_ ax.gG l.aj az)),(rd bA l.ab.length 4 (l.ab.map bJ.cells)),(rd sgA r.aa.length 2 (r.aa.map aH.cells))] (vT [(vA (ag.cells (cV l r bq_))),(vI (dj l r bq_))]):=by
 have J3:=hin.sZ
 have If:=hin.rn
 have H1:=hin.n_
 have IR:=hin.sB
 have J1:=hin.side
 refine bH kr Tryz.func22 U U fun w0 Q hQ hN=>?_
 try dsimp only
 refine WS fun _ Ae=>eT U fun b2=>eT U fun b3=>xV U U fun b4=>AL U ej fun b5=>bG 1 U<|RK Ae<|WS fun _ p=>rP 2 [0,1] (mc 3 U (mc 2 U mn)) ?_
 refine rS (FU U)<|eJ (xs:=[.tmp 17]) (cs:=[(Value.func (.func 43) [].toArray [(vP b2),(vP b4)].toArray)]) U PG Us U U U U (by simp [Value.cells]) U U fun b7=>cX (NI l kA kC az cA cC bA bC r sgA sgC (Value.func (.func 43) [].toArray [(vP b2),(vP b4)].toArray) (dV [(rd kA l.aR.length 9 (l.aR.map ar.cells)),(rd cA l.aj.length 2 (List.zipWith ax.cells l.aj az)),(dV (a_ ax.gG l.aj az)),(rd bA l.ab.length 4 (l.ab.map bJ.cells)),(cv b2 28 (cw.cells (kj l kA kC cA cC bA bC))),(cv b4 3 [(vI bq_)])]) (iA l bq_) b7 (by exact lJ (fi:=[]) (ca:=[(vP b2),(vP b4)]) (kh (Fq l kA kC az cA cC bA bC b2 bq_ b4 (by first|assumption|omega)) (bq [0,1,2,3,4,5]))) hin hsl) (pC [5,6,7,8,9]<|aD (kg (bq [5,6,7,8,4,2]))<|gX 0 U U<|aN) U fun y8 Ck=>?_
 obtain ⟨Cl,Fn,E,H,AB,g,j,m,B,L,J,K,A,G,d,f⟩:=y8
 cases Cl
 ·obtain ⟨Bc,he⟩:=Ck.2 rfl
  try dsimp only at Bc he
  subst Bc
  try dsimp only [cond_true,cond_false,List.cons_append,List.nil_append]
  refine bG 5 U<|RK p<|aq fun _ GE=>WS fun _ A7=>rP 2 [] mn ?_
  refine RK A7<|bV U (bx fun A6=>?_) (bB fun A6=>?_)
  ·exact absurd A6 he
  refine WS fun _ A8=>rS (SX (bp (xs:=[]) (cs:=(ag.cells (ag.mk 0 0))) U U (bo hU U)) U U)<|bG 1 U<|rV U c_ U<|rP 1 [] mn ?_
  refine RK A8<|av<|nE hQ [0] (mc 1 U mn) U ?_
  (have e:=jF (b:=bq_) he; rw [e.1,e.2]<;>rfl)
 obtain ⟨he,D,C,C1,C0,Di⟩:=Ck.1 rfl
 try dsimp only [cond_true,cond_false,List.cons_append,List.nil_append]
 dsimp only at D C C1 C0 Di
 obtain ⟨Cx,A3,C3,JJ⟩:=iG he
 obtain ⟨Do,B9⟩:=dq Cx
 have C2:=B9.head
 unfold eY at C2
 have EQ:=kO Do B9 A3
 have Jr:=A3.time
 have JR:=A3.len
 have B3:(cd l l.ab.length).length=l.ab.length:=cE
 have Ci:(cP l r.aa r.aa.length).length=l.ab.length:=g0
 have In:B.length=l.ab.length+1:=by have:=D.len; rw [show (bP l r).n=l.ab.length from cE] at this; exact this
 have Id:A.length=l.ab.length+1:=by have:=C.len; rw [show (bP l r).n=l.ab.length from cE] at this; exact this
 obtain ⟨ID,IO⟩:=Eo C3
 obtain ⟨b,A0⟩: ∃ b:Nat,bq_=(b:Int):=⟨bq_.toNat,I⟩
 rw [A0]
 refine bG 5 U<|RK p<|aq fun _ N=>WS fun _ O=>bG 1 U<|rS (SX (gL (r:= .bool false) U U U xo) U U)<|RK O<|ct U<|WK N<|WS fun _ P=>rS (SX (bp (xs:=[(0,.const (vI 1))]) (cs:=(ag.cells (ag.mk 1 0))) U U (bo hU U)) U U)<|AL U ej fun A4=>gl U c_ U<|RK P<|WS fun _ R=>fD 1 [] (mc 0 U mn) U<|AL U ej fun A5=>gl U c_ U<|RK R<|aq fun _ T=>WS fun _ AA=>rP 2 [] (mc 12 U mn) ?_
 obtain ⟨mf,Y⟩:=aM B b I
 obtain ⟨mb,Z⟩:=aM A (b+1) I
 refine cX (Lc E b) (aN) U fun E1 GT=>?_
 obtain ⟨AC,AD⟩:=E1
 try dsimp only
 refine RK AA<|aG ?_
 refine uu (L0:=[(3,(vP b2)),(4,(vP b3)),(5,(vP b4)),(6,(vP b5)),(7,(vI 0)),(10,(vP A4)),(11,(vP A5))]) (F:=[(own H AB 3 1 ((cd l l.ab.length).map iC)),(own g j 153 1 (List.zipWith gR (cP l r.aa r.aa.length) m)),(bK (a_ qp (cP l r.aa r.aa.length) m)),(own J K 156 1 (List.zipWith gR B L)),(bK (a_ nM B L)),(own d f 156 1 (List.zipWith gR A G)),(bK (a_ nM A G)),(cv E 150 (cb.cells (cb.mk (kj l kA kC cA cC bA bC) (jI r sgA sgC) (bE.mk H ((cd l l.ab.length).length) AB) (bE.mk g ((cP l r.aa r.aa.length).length) j) (bE.mk J B.length K) (bE.mk d A.length f)))),(cv AC 108 [(vP E)]),(cv AD 3 [(vI (b:Int))])]) (fun k (y:ag)=>(lj k y)∧(∀ q∈k,q∈qY (bP l r) b mf mb)) (fun k y=>[(cv A5 53 (ag.cells y)),(cv A4 53 (ag.cells (ag.mk 1 0))),(cv b5 53 (ag.cells (ag.mk 0 0))),(cv b4 3 [(vI (b:Int))]),(cv b3 56 (cM.cells (jI r sgA sgC))),(cv b2 28 (cw.cells (kj l kA kC cA cC bA bC))),(rd kA l.aR.length 9 (l.aR.map ar.cells)).ro,(rd cA l.aj.length 2 (List.zipWith ax.cells l.aj az)).ro,(dV (a_ ax.gG l.aj az)).ro,(rd bA l.ab.length 4 (l.ab.map bJ.cells)).ro,(rd sgA r.aa.length 2 (r.aa.map aH.cells)).ro]) (fun _ (_:Unit)=>False) (fun _ _=>[]) [2,3,13,14,15,16,17,18,19,20,21] [5,6,7,8,9,10,11,4,0,1] jJ rfl rfl (H8 (kj l kA kC cA cC bA bC) (jI r sgA sgC) (cd l l.ab.length) (cP l r.aa r.aa.length) H AB m g j B A L J K G d f E b AC AD mf mb (by rw [B3]; omega) (by exact EQ) (by rw [Ci]; omega) (by exact D) I (by exact C) I (by show r.aa.length≤1000; omega) (by exact Y) (by exact Z)) rfl rfl rfl (by exact ⟨CX,fun q hq=>by cases hq⟩) (by simp only [List.forall_mem_cons,List.not_mem_nil,false_imp_iff,implies_true,and_true]; exact ⟨⟨_,aQ (i:=0) rfl,(jO sm)⟩,⟨_,aQ (i:=1) rfl,(jO (by rw [List.length_zipWith]; omega))⟩,⟨_,aQ (i:=2) rfl,rW⟩,⟨_,aQ (i:=3) rfl,(jO (by rw [List.length_zipWith]; omega))⟩,⟨_,aQ (i:=4) rfl,rW⟩,⟨_,aQ (i:=5) rfl,(jO (by rw [List.length_zipWith]; omega))⟩,⟨_,aQ (i:=6) rfl,rW⟩,⟨_,aQ (i:=7) rfl,(bY _)⟩,⟨_,aQ (i:=8) rfl,(bY _)⟩,⟨_,aQ (i:=9) rfl,(bY _)⟩⟩) (by rintro k x k2 ⟨o,_,rfl,_⟩; rfl) rfl (bw rfl) ?_ ?_ (fun _ _ _ h=>h.elim) (fun _ _ h=>h.elim)
 ·rintro k x k2 h lr ra rb S w1 K41 Qr42 J2 hx A1 A9 X Eq FS
  obtain ⟨q,hq,rfl,rfl⟩:=hx
  obtain ⟨a,c⟩:=A1
  try dsimp only
  refine ay<|AL U ej fun Go=>gl U c_ U<|aJ<|km (fun _ _ h=>h) (aS [1,0,2,3,4,5,6,7,8,9,10,11,12])<|bj (A9 _ _ ?_)
  refine aG<|aq fun _ s=>WS fun _ BE=>rP 2 [0,1] (mc 2 U (mc 3 U mn)) ?_
  refine rS (BI U (Uu _ _ h (ag.mk 1 0)))<|RK BE<|bV U (bx fun M=>?_) (bB fun M=>?_)
  ·refine WK s<|ay<|rP 1 [] (mc 1 U mn) ?_
   refine G6 U c_ U<|aJ<|aO ?_
   exact X q.2 _ _ (by refine ⟨Aw a (jx hq) ?_,fun z hz=>?_⟩; (first|exact if_neg M|exact if_pos M); (rcases g9.1 hz with hz|hz; exact c z hz; (rw [ck.1 hz]; exact hq))) (aS [0,2,3,4,5,6,7,8,9,10,11,12])
  refine ay<|fD 4 [0,1] (mc 1 U (mc 2 U mn)) U<|rS (MN U)<|fD 4 [0,1] (mc 1 U (mc 2 U mn)) U<|rS (MX U)<|rS (SX (bp (xs:=[(0,.tmp 40),(1,.tmp 45)]) (cs:=(ag.cells (ag.mk (min q.2.Lo h.Lo) (max q.2.Hi h.Hi)))) U U (bo hU U)) U U)<|rV U c_ U<|RK s<|ay<|rP 1 [] (mc 1 U mn) ?_
  refine G6 U c_ U<|aJ<|aO ?_
  exact X (ag.mk (min q.2.Lo h.Lo) (max q.2.Hi h.Hi)) _ _ (by refine ⟨Aw a (jx hq) ?_,fun z hz=>?_⟩; (first|exact if_neg M|exact if_pos M); (rcases g9.1 hz with hz|hz; exact c z hz; (rw [ck.1 hz]; exact hq))) (aS [0,2,3,4,5,6,7,8,9,10,11,12])
 rintro J5 k h v A2
 obtain ⟨a,c⟩:=A2
 try dsimp only
 refine aO<|KK T<|aq fun _ V=>WS fun _ W=>rP 2 [0,1] (mc 11 U (mc 12 U mn)) ?_
 refine rS (BI U (x5 _ _ h (ag.mk 1 0)))<|RK W<|bV U (aW fun AY=>?_) (aV fun AY=>?_)
 ·refine WK V<|WS fun _ u=>fD 1 [] (mc 11 U mn) U<|iT (vs:=(ag.cells h)) (cs':=(ag.cells h)) (C':=[_,_,_,_,_,_,_,_,_,_,_,_,_,(cv b5 53 (ag.cells h)),_,_,_,_,_,_,_,_]) 13 U U U c_ U U U U U U U<|rP 1 [] mn ?_
  refine RK u<|av<|hQ _ _ _ (sf 0 U U<|kp (vs:=[(vA (ag.cells h)),(vI 0)]) ⟨⟨_,U,.inl ⟨_,_,cf,qK (vs:=(ag.cells h)) 13 U U,U,U⟩⟩,U,trivial⟩ fun w hs=>CR ?_ hs)
  show (vT [(vA (ag.cells h)),(vI 0)])=(vT [(vA (ag.cells (cV l r bq_))),(vI (dj l r bq_))])
  clear hs w hQ hN u W V AA T R P O N p Ae
  (rw [A0] at he ⊢; have hh:h=lv l r b:=zP (D.min _ _ Y) (C.max _ _ Z) (D.keys _ _ Y) (C.keys _ _ Z) c v a; (have e:=jy he (fun q=>AY (hh.trans q)); rw [e.1,e.2,hh]<;>rfl))
 refine WS fun _ t=>rS (SX (bp (xs:=[]) (cs:=(ag.cells (ag.mk 0 0))) U U (bo hU U)) U U)<|iT (vs:=(ag.cells (ag.mk 0 0))) (cs':=(ag.cells (ag.mk 0 0))) (C':=[_,_,_,_,_,_,_,_,_,_,_,_,_,(cv b5 53 (ag.cells (ag.mk 0 0))),_,_,_,_,_,_,_,_]) 13 U U U c_ U U U U U U U<|rP 1 [] mn ?_
 refine RK t<|av<|hQ _ _ _ (sf 0 U U<|kp (vs:=[(vA (ag.cells (ag.mk 0 0))),(vI 6)]) ⟨⟨_,U,.inl ⟨_,_,cf,qK (vs:=(ag.cells (ag.mk 0 0))) 13 U U,U,U⟩⟩,U,trivial⟩ fun w hs=>CR ?_ hs)
 show (vT [(vA (ag.cells (ag.mk 0 0))),(vI 6)])=(vT [(vA (ag.cells (cV l r bq_))),(vI (dj l r bq_))])
 clear hs w hQ hN t W V AA T R P O N p Ae
 (rw [A0] at he ⊢; have hh:h=lv l r b:=zP (D.min _ _ Y) (C.max _ _ Z) (D.keys _ _ Y) (C.keys _ _ Z) c v a; (have e:=lX he (hh.symm.trans AY); rw [e.1,e.2]<;>rfl))
theorem TA (l:bg) (kA:OA) (kC:Nat) (az:List RA) (cA:OA) (cC:Nat) (bA:OA) (bC:Nat) (r:cr) (sgA:OA) (sgC:Nat) (hin:ep l az) (hsl:r.aa.length≤1000000):
 dN Tryz.prog 213 [(vA (cw.cells (kj l kA kC cA cC bA bC))),(vA (cM.cells (jI r sgA sgC)))] [(rd kA l.aR.length 9 (l.aR.map ar.cells)),(rd cA l.aj.length 2 (List.zipWith ax.cells l.aj az)),(dV (a_ ax.gG l.aj az)),(rd bA l.ab.length 4 (l.ab.map bJ.cells)),(rd sgA r.aa.length 2 (r.aa.map aH.cells))] (vT [(vA (ag.cells (Bv l r))),(vI (dj l r l.bM))]):=by
 have N:=hin.sZ
 have J:=hin.rn
 have H:=hin.n_
 have AA:=hin.sB
 have M:=hin.side
 refine bH kr Tryz.func213 U U fun T Q hQ hN=>?_
 try dsimp only
 refine WS fun _ C=>eT U fun O=>eT U fun P=>AL U ej fun R=>bG 1 U<|RK C<|WS fun _ D=>fD 4 [0,1] (mc 2 U (mc 1 U mn)) U<|rS (CL (Cw l kA kC az cA cC bA bC r sgA sgC l.bM hin hsl) (bq [3,4,5,6,7]) U)<|bG 3 U<|AL U ej fun S=>gl U c_ U<|bG 1 U<|RK D<|aq fun _ E=>WS fun _ F=>rP 2 [] mn ?_
 refine RK F<|cG U (bB fun A=>?_) (bx fun A=>?_)
 ·refine WS fun _ G=>rS (SX (bp (xs:=[]) (cs:=(ag.cells (ag.mk 0 0))) U U (bo hU U)) U U)<|bG 1 U<|rV U c_ U<|rP 1 [] mn ?_
  refine RK G<|av<|nE hQ [0] (mc 1 U mn) U ?_
  (rw [Ez A]<;>rfl)
 refine WK E<|WS fun _ B=>rP 4 [0,1] (mc 0 U (mc 2 U mn)) ?_
 have K:=uM A
 have L:=(lZ A).time
 refine fD 6 [0,1] (mc 0 U (mc 2 U mn)) U<|rS (SX (bp (xs:=[(0,.tmp 24),(1,.tmp 29)]) (cs:=(ag.cells (ag.mk (((cV l r l.bM).Lo)-r.Start) (((cV l r l.bM).Hi)-r.Start)))) U U (bo hU U)) U U)<|rV U c_ U<|rP 1 [] mn ?_
 refine RK B<|av<|nE hQ [0] (mc 1 U mn) U ?_
 (rw [AK A,A]<;>rfl)
end
section
open Go.RowKit
theorem mU (j:cR) (kA:OA) (kC:Nat) (az:List RA) (cA:OA) (cC:Nat) (bA:OA) (bC:Nat) (slA:OA) (slC:Nat) (drA:OA) (drC:Nat) (ha:List cN) (heA:OA) (heC:Nat) (faA:OA) (faC:Nat) (prA:OA) (prC:Nat) (r:cr) (sgA:OA) (sgC:Nat) (b:Int) (hin:gY j az ha) (hsl:r.aa.length≤1000000):
 dN Tryz.prog 57 [(vA (db.cells (db.mk (nN j kA kC cA cC bA bC slA slC drA drC heA heC faA faC prA prC)))),(vA (cM.cells (jI r sgA sgC))),(vI b)] [(rd kA j.Race.ak.aR.length 9 (j.Race.ak.aR.map ar.cells)),(rd cA j.Race.ak.aj.length 2 (List.zipWith ax.cells j.Race.ak.aj az)),(dV (a_ ax.gG j.Race.ak.aj az)),(rd bA j.Race.ak.ab.length 4 (j.Race.ak.ab.map bJ.cells)),(rd slA j.Race.aY.length 1 (j.Race.aY.map iC)),(rd drA j.Race.b_.length 1 (j.Race.b_.map iC)),(rd heA j.Race.aA.length 1 (List.zipWith cq j.Race.aA ha)),(dV (a_ eV j.Race.aA ha)),(rd faA j.aC.length 4 (j.aC.map aL.cells)),(rd prA j.aw.length 5 (j.aw.map aT.cells)),(rd sgA r.aa.length 2 (r.aa.map aH.cells))] (vA (k9.cells (k9.mk (ag.mk ((cj j.Race.ak r b).Lo) ((cj j.Race.ak r b).Hi)) ((cj j.Race.ak r b).each) ((cj j.Race.ak r b).never)))):=by
 have Y:=hin.race
 have AA:=hin.race.line
 have c:=hin.race.iJ
 have d:=hin.race.has
 have Z:=hin.race.iK
 have W:=hin.nf
 have X:=hin.np
 refine bH kr Tryz.func57 U U fun i Q hQ hN=>?_
 try dsimp only
 refine WS fun _ O=>eT U fun e=>eT U fun f=>AL U pj fun g=>RK O<|aq fun _ P=>WS fun _ R=>rP 2 [] mn ?_
 refine RK R<|cG U (aV fun B=>?_) (aW fun B=>?_)
 ·refine WS fun _ S=>rP 4 [] (mc 1 U mn) ?_
  refine rS (SX (bp (xs:=[(0,.tmp 15),(1,.tmp 17)]) (cs:=(ag.cells (ag.mk r.Start r.Start))) U U (bo hU U)) U U)<|rS (SX (bp (xs:=[(0,.tmp 18),(1,.const (vB true)),(2,.const (vB false))]) (cs:=(k9.cells (k9.mk (ag.mk r.Start r.Start) true false))) U U (bo GF U)) U U)<|gl U ny U<|RK S<|av<|D8 hQ [0] (mc 0 U mn) U ?_
  (rw [HF B])
 refine WK P<|WS fun _ T=>bG 3 U<|rS (LP (cw.cells (kj j.Race.ak kA kC cA cC bA bC)) 2 U cf U U U)<|fD 2 [] (mc 1 U mn) U<|rS (CL (Cw j.Race.ak kA kC az cA cC bA bC r sgA sgC b asm hsl) (bq [3,4,5,6,13]) U)<|bG 3 U<|AL U ej fun h=>gl U c_ U<|bG 1 U<|RK T<|aq fun _ E=>WS fun _ F=>rP 2 [] mn ?_
 refine RK F<|cG U (bB fun A=>?_) (bx fun A=>?_)
 ·refine WS fun _ G=>rS (SX (bp (xs:=[(0,.const (vI 86400000)),(1,.const (vI 86400000))]) (cs:=(ag.cells (ag.mk 86400000 86400000))) U U (bo hU U)) U U)<|rS (SX (bp (xs:=[(0,.tmp 32),(1,.const (vB false)),(2,.const (vB true))]) (cs:=(k9.cells (k9.mk (ag.mk 86400000 86400000) false true))) U U (bo GF U)) U U)<|rV U ny U<|RK G<|av<|D8 hQ [0] (mc 1 U mn) U ?_
  (rw [DD B A])
 refine WK E<|WS fun _ H=>bG 3 U<|rS (LP (cw.cells (kj j.Race.ak kA kC cA cC bA bC)) 3 U cf U U U)<|rP 1 [] (mc 2 U mn) ?_
 refine cX (OH j.Race.ak kA kC az cA cC bA bC r sgA sgC asm hsl) (bq [4,5,6,7,14]) U fun V a=>?_
 obtain ⟨M,N⟩:=V
 try dsimp only
 refine bG 5 U<|RK H<|WS fun _ AB=>rP 1 [] mn ?_
 refine rS (CL (U5 (ir j.Race.ak r) M N (by exact EE (vG A I)) (by have:=EW (l:=j.Race.ak) (r:=r); omega)) (aD (au (n:=(ir j.Race.ak r).length) 0 U sm)<|aN) U) ?_
 refine bG 3 U<|RK AB<|aq fun _ D=>WS fun _ J=>rP 2 [] mn ?_
 refine RK J<|bV U (bx fun C=>?_) (bB fun C=>?_)
 ·refine WK D<|WS fun _ L=>rP 2 [] (mc 1 U mn) ?_
  refine rS (SX (bp (xs:=[(0,.tmp 50),(1,.tmp 51),(2,.const (vB false))]) (cs:=(k9.cells (k9.mk (cV j.Race.ak r b) (decide (b<(oE (ir j.Race.ak r)))) false))) U U (bo GF U)) U U)<|G6 U ny U<|RK L<|av<|D8 hQ [0] (mc 2 U mn) U ?_
  (rw [zT B A (by rw [D1 (vG A I)]; exact dM C),dM C])
 refine ay<|bG 1 U<|XI (ag.cells (ag.mk ((cV j.Race.ak r b).Lo) 86400000)) U zM U U<|RK D<|WS fun _ K=>rP 2 [] (mc 1 U mn) ?_
 refine rS (SX (bp (xs:=[(0,.tmp 50),(1,.tmp 51),(2,.const (vB false))]) (cs:=(k9.cells (k9.mk (ag.mk ((cV j.Race.ak r b).Lo) 86400000) (decide (b<(oE (ir j.Race.ak r)))) false))) U U (bo GF U)) U U)<|G6 U ny U<|RK K<|av<|D8 hQ [0] (mc 2 U mn) U ?_
 (rw [zm B A (by rw [D1 (vG A I)]; exact bI C),bI C])
end
section
open Go.RowKit
theorem JI (j:cR) (kA:OA) (kC:Nat) (az:List RA) (cA:OA) (cC:Nat) (bA:OA) (bC:Nat) (slA:OA) (slC:Nat) (drA:OA) (drC:Nat) (ha:List cN) (heA:OA) (heC:Nat) (faA:OA) (faC:Nat) (prA:OA) (prC:Nat) (fw ff ft:Int) (d:ao) (sgA:OA) (sgC:Nat) (hin:gY j az ha) (hw:0≤fw∧fw≤1000000) (hsl:d.aZ.aa.length≤1000000):
 dN Tryz.prog 34 [(vA (db.cells (db.mk (nN j kA kC cA cC bA bC slA slC drA drC heA heC faA faC prA prC)))),(vA (aL.cells (aL.mk 1 fw ff ft))),(vA (aP.cells (aP.mk d.Out d.cY d.Time (jI d.aZ sgA sgC))))] [(rd kA j.Race.ak.aR.length 9 (j.Race.ak.aR.map ar.cells)),(rd cA j.Race.ak.aj.length 2 (List.zipWith ax.cells j.Race.ak.aj az)),(dV (a_ ax.gG j.Race.ak.aj az)),(rd bA j.Race.ak.ab.length 4 (j.Race.ak.ab.map bJ.cells)),(rd slA j.Race.aY.length 1 (j.Race.aY.map iC)),(rd drA j.Race.b_.length 1 (j.Race.b_.map iC)),(rd heA j.Race.aA.length 1 (List.zipWith cq j.Race.aA ha)),(dV (a_ eV j.Race.aA ha)),(rd faA j.aC.length 4 (j.aC.map aL.cells)),(rd prA j.aw.length 5 (j.aw.map aT.cells)),(rd sgA d.aZ.aa.length 2 (d.aZ.aa.map aH.cells))] (Value.int .u8 (gf j.Race.ak (aL.mk 1 fw ff ft) d)):=by
 have l:=hin.race
 have h:=hin.race.line
 have r:=hin.race.iJ
 have s:=hin.race.has
 have m:=hin.race.iK
 have i:=hin.nf
 have k:=hin.np
 refine bH kr Tryz.func34 U U fun u Q hQ hN=>?_
 try dsimp only
 refine WS fun _ a=>eT U fun n=>eT U fun o=>eT U fun p=>bG 1 U<|RK a<|aq fun _ b=>WS fun _ c=>fD 1 [] (mc 0 U mn) U<|rS (CL (vi d.Out d.cY d.Time (jI d.aZ sgA sgC)) (aN) U)<|rP 1 [] mn ?_
 refine RK c<|cG U (bB fun A=>?_) (bx fun A=>?_)
 ·refine WS fun _ e=>rP 1 [] mn ?_
  refine RK e<|av<|Q1 hQ U U U ?_
  (rw [sT (fun q=>A q)]; done)
 refine WK b<|aq fun _ f=>dT cy [4,5] [] [] [0,1,2,3,4,5,6,7,8,9,10,11,12,13] [] U U U U U<|eS U (CL yI (aN) U)<|eS U (FA 0 U eP U)<|eS U (L1 (Value.int .u8 1) 1 U cf U U)<|eS U (SX (wu (vs:=(fz.cells (fz.mk (Value.func (.func 84) [].toArray [].toArray) (Value.func (.func 83) [].toArray [].toArray)))) 1 U U U ML cf U dc U) U U)<|eN U<|cm U fun T9 g=>AL U LL fun X=>aJ (g _ _ (aS [1,2,3,4,5,6,7,8,9,10,11,12,13,14]) ?_)
 refine cm U fun T11 W=>gl U JG U<|aJ (W _ _ (aS [1,2,3,4,5,6,7,8,9,10,11,12,13,14]) ?_)
 refine f_ U<|KK f<|WS fun _ V=>fD 4 [0,1,2] (mc 0 U (mc 3 U (mc 2 U mn))) U<|rS (CL (U9 j kA kC cA cC bA bC slA slC drA drC heA heC faA faC prA prC 1 fw ff ft) (aN) U)<|rP 5 [] mn ?_
 refine RK V<|aq fun _ AA=>m7 cy [0,1,2,3,4,5,6,7,8,9] [10,11,12,13] [false,false,false,false,false,false,false,false,false,false] [] [(cv X 132 (fz.cells (fz.mk (Value.func (.func 84) [].toArray [].toArray) (Value.func (.func 83) [].toArray [].toArray)))),(cv p 58 (aP.cells (aP.mk d.Out d.cY d.Time (jI d.aZ sgA sgC)))),(cv o 80 (aL.cells (aL.mk 1 fw ff ft))),(cv n 93 (db.cells (db.mk (nN j kA kC cA cC bA bC slA slC drA drC heA heC faA faC prA prC)))),(rd kA j.Race.ak.aR.length 9 (j.Race.ak.aR.map ar.cells)).ro,(rd cA j.Race.ak.aj.length 2 (List.zipWith ax.cells j.Race.ak.aj az)).ro,(dV (a_ ax.gG j.Race.ak.aj az)).ro,(rd bA j.Race.ak.ab.length 4 (j.Race.ak.ab.map bJ.cells)).ro,(rd slA j.Race.aY.length 1 (j.Race.aY.map iC)).ro,(rd drA j.Race.b_.length 1 (j.Race.b_.map iC)).ro,(rd heA j.Race.aA.length 1 (List.zipWith cq j.Race.aA ha)).ro,(dV (a_ eV j.Race.aA ha)).ro,(rd faA j.aC.length 4 (j.aC.map aL.cells)).ro,(rd prA j.aw.length 5 (j.aw.map aT.cells)).ro,(rd sgA d.aZ.aa.length 2 (d.aZ.aa.map aH.cells)).ro] [] kr (aS [0,1,2,3,4,5,6,7,8,9,10,11,12,13,14]) (aS [])<|eS U (LW 3 U cf U U)<|eS U (FA 4 U eP U)<|eS U (LP (cM.cells (jI d.aZ sgA sgC)) 1 U cf U U U)<|eS U (MV U)<|eS U (CL (mU j kA kC az cA cC bA bC slA slC drA drC ha heA heC faA faC prA prC d.aZ sgA sgC (-1) hin hsl) (bq [4,5,6,7,8,9,10,11,12,13,14]) U)<|eS U (LW 3 U cf U U)<|eS U (FA 4 U eP U)<|eS U (LP (cM.cells (jI d.aZ sgA sgC)) 1 U cf U U U)<|eS U (MV U)<|eS U (CL (mU j kA kC az cA cC bA bC slA slC drA drC ha heA heC faA faC prA prC d.aZ sgA sgC j.Race.ak.bM hin hsl) (bq [4,5,6,7,8,9,10,11,12,13,14]) U)<|eN U<|nH [10,11] kr (jc ?_<|jc ?_<|qP)
 rotate_left 1
 ·refine NO U U [10,12,13] fun T14 P=>AL U pj fun Y=>RD P 1 U<|N1 10<|NO U U [12,13] fun T16 R=>AL U pj fun Z=>RD R 2 U<|N1 12<|NO U U [13] fun T18 S=>gl U ny U<|RD S 2 U<|N1 13<|NO U U [] fun T19 T=>rV U ny U<|RD T 2 U<|mE<|KK AA<|aq fun _ F=>aG<|WS fun _ E=>rP 3 [] (mc 0 U mn) ?_
  refine cg (t:=40) U (fun C=>?_) (fun C=>?_)
  ·refine bG 16 U<|RK E<|aU U<|WS fun _ J=>rP 1 [] mn ?_
   refine RK J<|av<|Q1 hQ U U U ?_
   (rw [j6 rfl A]; (rw [h_ (.inl C)]; done))
  refine rP 8 [0,1] (mc 0 U (mc 4 U mn)) ?_
  refine cg (t:=48) U (aV fun D=>?_) (aW fun D=>?_)
  ·refine bG 8 U<|RK E<|aU U<|WS fun _ K=>rP 1 [] mn ?_
   refine RK K<|av<|Q1 hQ U U U ?_
   (rw [j6 rfl A]; (rw [h_ (.inr (.inl D))]; done))
  refine rP 8 [0,1] (mc 1 U (mc 4 U mn)) ?_
  refine RK E<|cG U (aV fun B=>?_) (aW fun B=>?_)
  ·refine WS fun _ L=>rP 1 [] mn ?_
   refine RK L<|av<|Q1 hQ U U U ?_
   (rw [j6 rfl A]; (rw [h_ (.inr (.inr B))]; done))
  refine WS fun _ G=>rP 3 [] (mc 0 U mn) ?_
  refine cu (t:=59) U (fun AB=>?_) (fun AB=>?_)
  ·refine bG 8 U<|RK G<|ct U<|cx<|aO<|KK F<|WS fun _ O=>rP 1 [] mn ?_
   refine RK O<|av<|Q1 hQ U U U ?_
   (rw [j6 rfl A]; (rw [j8 (BP (by simpa using C) (by first|exact D|(simp only []; omega)) (by first|exact B|(simp only []; omega))) (fun q=>by rw [AB] at q; exact Bool.noConfusion q.1)]; done))
  refine fD 5 [0,1,2,3] (mc 2 U (mc 4 U (mc 0 U (mc 1 U mn)))) U<|rS (CL (uW 1 fw ff ft ((cj j.Race.ak d.aZ (-1)).Lo) ((cj j.Race.ak d.aZ (-1)).Hi) ((cj j.Race.ak d.aZ (-1)).each) ((cj j.Race.ak d.aZ (-1)).never) ((cj j.Race.ak d.aZ j.Race.ak.bM).Lo) ((cj j.Race.ak d.aZ j.Race.ak.bM).Hi) ((cj j.Race.ak d.aZ j.Race.ak.bM).each) ((cj j.Race.ak d.aZ j.Race.ak.bM).never)) (aN) U)<|rP 2 [] mn ?_
  refine RK G<|cG U (aV fun H=>?_) (aW fun H=>?_)
  ·refine WS fun _ M=>rP 1 [] mn ?_
   refine RK M<|av<|Q1 hQ U U U ?_
   (rw [j6 rfl A]; (rw [pO (BP (by simpa using C) (by first|exact D|(simp only []; omega)) (by first|exact B|(simp only []; omega))) AB ((o1 (show ¬ (1:Int)=3 by decide)).2 H)]; done))
  refine cx<|aO<|KK F<|WS fun _ N=>rP 1 [] mn ?_
  refine RK N<|av<|Q1 hQ U U U ?_
  (rw [j6 rfl A]; (rw [j8 (BP (by simpa using C) (by first|exact D|(simp only []; omega)) (by first|exact B|(simp only []; omega))) (fun q=>H ((o1 (show ¬ (1:Int)=3 by decide)).1 q.2))]; done))
 refine NO U U [11,12,13] fun T14 P=>AL U pj fun Y=>RD P 1 U<|N1 11<|NO U U [12,13] fun T16 R=>AL U pj fun Z=>RD R 2 U<|N1 12<|NO U U [13] fun T18 S=>rV U ny U<|RD S 2 U<|N1 13<|NO U U [] fun T19 T=>gl U ny U<|RD T 2 U<|mE<|KK AA<|aq fun _ F=>aG<|WS fun _ E=>rP 3 [] (mc 1 U mn) ?_
 refine cg (t:=40) U (fun C=>?_) (fun C=>?_)
 ·refine bG 16 U<|RK E<|aU U<|WS fun _ J=>rP 1 [] mn ?_
  refine RK J<|av<|Q1 hQ U U U ?_
  (rw [j6 rfl A]; (rw [h_ (.inl C)]; done))
 refine rP 8 [0,1] (mc 1 U (mc 4 U mn)) ?_
 refine cg (t:=48) U (aV fun D=>?_) (aW fun D=>?_)
 ·refine bG 8 U<|RK E<|aU U<|WS fun _ K=>rP 1 [] mn ?_
  refine RK K<|av<|Q1 hQ U U U ?_
  (rw [j6 rfl A]; (rw [h_ (.inr (.inl D))]; done))
 refine rP 8 [0,1] (mc 0 U (mc 4 U mn)) ?_
 refine RK E<|cG U (aV fun B=>?_) (aW fun B=>?_)
 ·refine WS fun _ L=>rP 1 [] mn ?_
  refine RK L<|av<|Q1 hQ U U U ?_
  (rw [j6 rfl A]; (rw [h_ (.inr (.inr B))]; done))
 refine WS fun _ G=>rP 3 [] (mc 1 U mn) ?_
 refine cu (t:=59) U (fun AB=>?_) (fun AB=>?_)
 ·refine bG 8 U<|RK G<|ct U<|cx<|aO<|KK F<|WS fun _ O=>rP 1 [] mn ?_
  refine RK O<|av<|Q1 hQ U U U ?_
  (rw [j6 rfl A]; (rw [j8 (BP (by simpa using C) (by first|exact D|(simp only []; omega)) (by first|exact B|(simp only []; omega))) (fun q=>by rw [AB] at q; exact Bool.noConfusion q.1)]; done))
 refine fD 5 [0,1,2,3] (mc 2 U (mc 4 U (mc 1 U (mc 0 U mn)))) U<|rS (CL (uW 1 fw ff ft ((cj j.Race.ak d.aZ (-1)).Lo) ((cj j.Race.ak d.aZ (-1)).Hi) ((cj j.Race.ak d.aZ (-1)).each) ((cj j.Race.ak d.aZ (-1)).never) ((cj j.Race.ak d.aZ j.Race.ak.bM).Lo) ((cj j.Race.ak d.aZ j.Race.ak.bM).Hi) ((cj j.Race.ak d.aZ j.Race.ak.bM).each) ((cj j.Race.ak d.aZ j.Race.ak.bM).never)) (aN) U)<|rP 2 [] mn ?_
 refine RK G<|cG U (aV fun H=>?_) (aW fun H=>?_)
 ·refine WS fun _ M=>rP 1 [] mn ?_
  refine RK M<|av<|Q1 hQ U U U ?_
  (rw [j6 rfl A]; (rw [pO (BP (by simpa using C) (by first|exact D|(simp only []; omega)) (by first|exact B|(simp only []; omega))) AB ((o1 (show ¬ (1:Int)=3 by decide)).2 H)]; done))
 refine cx<|aO<|KK F<|WS fun _ N=>rP 1 [] mn ?_
 refine RK N<|av<|Q1 hQ U U U ?_
 (rw [j6 rfl A]; (rw [j8 (BP (by simpa using C) (by first|exact D|(simp only []; omega)) (by first|exact B|(simp only []; omega))) (fun q=>H ((o1 (show ¬ (1:Int)=3 by decide)).1 q.2))]; done))
theorem KD (j:cR) (kA:OA) (kC:Nat) (az:List RA) (cA:OA) (cC:Nat) (bA:OA) (bC:Nat) (slA:OA) (slC:Nat) (drA:OA) (drC:Nat) (ha:List cN) (heA:OA) (heC:Nat) (faA:OA) (faC:Nat) (prA:OA) (prC:Nat) (fw ff ft:Int) (d:ao) (sgA:OA) (sgC:Nat) (hin:gY j az ha) (hw:0≤fw∧fw≤1000000) (hsl:d.aZ.aa.length≤1000000):
 dN Tryz.prog 34 [(vA (db.cells (db.mk (nN j kA kC cA cC bA bC slA slC drA drC heA heC faA faC prA prC)))),(vA (aL.cells (aL.mk 2 fw ff ft))),(vA (aP.cells (aP.mk d.Out d.cY d.Time (jI d.aZ sgA sgC))))] [(rd kA j.Race.ak.aR.length 9 (j.Race.ak.aR.map ar.cells)),(rd cA j.Race.ak.aj.length 2 (List.zipWith ax.cells j.Race.ak.aj az)),(dV (a_ ax.gG j.Race.ak.aj az)),(rd bA j.Race.ak.ab.length 4 (j.Race.ak.ab.map bJ.cells)),(rd slA j.Race.aY.length 1 (j.Race.aY.map iC)),(rd drA j.Race.b_.length 1 (j.Race.b_.map iC)),(rd heA j.Race.aA.length 1 (List.zipWith cq j.Race.aA ha)),(dV (a_ eV j.Race.aA ha)),(rd faA j.aC.length 4 (j.aC.map aL.cells)),(rd prA j.aw.length 5 (j.aw.map aT.cells)),(rd sgA d.aZ.aa.length 2 (d.aZ.aa.map aH.cells))] (Value.int .u8 (gf j.Race.ak (aL.mk 2 fw ff ft) d)):=by
 have l:=hin.race
 have h:=hin.race.line
 have r:=hin.race.iJ
 have s:=hin.race.has
 have m:=hin.race.iK
 have i:=hin.nf
 have k:=hin.np
 refine bH kr Tryz.func34 U U fun u Q hQ hN=>?_
 try dsimp only
 refine WS fun _ a=>eT U fun n=>eT U fun o=>eT U fun p=>bG 1 U<|RK a<|aq fun _ b=>WS fun _ c=>fD 1 [] (mc 0 U mn) U<|rS (CL (vi d.Out d.cY d.Time (jI d.aZ sgA sgC)) (aN) U)<|rP 1 [] mn ?_
 refine RK c<|cG U (bB fun A=>?_) (bx fun A=>?_)
 ·refine WS fun _ e=>rP 1 [] mn ?_
  refine RK e<|av<|Q1 hQ U U U ?_
  (rw [sT (fun q=>A q)]; done)
 refine WK b<|aq fun _ f=>dT cy [4,5] [] [] [0,1,2,3,4,5,6,7,8,9,10,11,12,13] [] U U U U U<|eS U (CL yI (aN) U)<|eS U (FA 0 U eP U)<|eS U (L1 (Value.int .u8 2) 1 U cf U U)<|eS U (SX (wu (vs:=(fz.cells (fz.mk (Value.func (.func 85) [].toArray [].toArray) (Value.func (.func 83) [].toArray [].toArray)))) 2 U U U ML cf U dc U) U U)<|eN U<|cm U fun T9 g=>AL U LL fun X=>aJ (g _ _ (aS [1,2,3,4,5,6,7,8,9,10,11,12,13,14]) ?_)
 refine cm U fun T11 W=>gl U JG U<|aJ (W _ _ (aS [1,2,3,4,5,6,7,8,9,10,11,12,13,14]) ?_)
 refine f_ U<|KK f<|WS fun _ V=>fD 4 [0,1,2] (mc 0 U (mc 3 U (mc 2 U mn))) U<|rS (CL (SH j kA kC cA cC bA bC slA slC drA drC heA heC faA faC prA prC 2 fw ff ft hw) (aN) U)<|rP 5 [] mn ?_
 refine RK V<|aq fun _ AA=>m7 cy [0,1,2,3,4,5,6,7,8,9] [10,11,12,13] [false,false,false,false,false,false,false,false,false,false] [] [(cv X 132 (fz.cells (fz.mk (Value.func (.func 85) [].toArray [].toArray) (Value.func (.func 83) [].toArray [].toArray)))),(cv p 58 (aP.cells (aP.mk d.Out d.cY d.Time (jI d.aZ sgA sgC)))),(cv o 80 (aL.cells (aL.mk 2 fw ff ft))),(cv n 93 (db.cells (db.mk (nN j kA kC cA cC bA bC slA slC drA drC heA heC faA faC prA prC)))),(rd kA j.Race.ak.aR.length 9 (j.Race.ak.aR.map ar.cells)).ro,(rd cA j.Race.ak.aj.length 2 (List.zipWith ax.cells j.Race.ak.aj az)).ro,(dV (a_ ax.gG j.Race.ak.aj az)).ro,(rd bA j.Race.ak.ab.length 4 (j.Race.ak.ab.map bJ.cells)).ro,(rd slA j.Race.aY.length 1 (j.Race.aY.map iC)).ro,(rd drA j.Race.b_.length 1 (j.Race.b_.map iC)).ro,(rd heA j.Race.aA.length 1 (List.zipWith cq j.Race.aA ha)).ro,(dV (a_ eV j.Race.aA ha)).ro,(rd faA j.aC.length 4 (j.aC.map aL.cells)).ro,(rd prA j.aw.length 5 (j.aw.map aT.cells)).ro,(rd sgA d.aZ.aa.length 2 (d.aZ.aa.map aH.cells)).ro] [] kr (aS [0,1,2,3,4,5,6,7,8,9,10,11,12,13,14]) (aS [])<|eS U (LW 3 U cf U U)<|eS U (FA 4 U eP U)<|eS U (LP (cM.cells (jI d.aZ sgA sgC)) 1 U cf U U U)<|eS U (MV U)<|eS U (CL (mU j kA kC az cA cC bA bC slA slC drA drC ha heA heC faA faC prA prC d.aZ sgA sgC (fw-1) hin hsl) (bq [4,5,6,7,8,9,10,11,12,13,14]) U)<|eS U (LW 3 U cf U U)<|eS U (FA 4 U eP U)<|eS U (LP (cM.cells (jI d.aZ sgA sgC)) 1 U cf U U U)<|eS U (MV U)<|eS U (CL (mU j kA kC az cA cC bA bC slA slC drA drC ha heA heC faA faC prA prC d.aZ sgA sgC fw hin hsl) (bq [4,5,6,7,8,9,10,11,12,13,14]) U)<|eN U<|nH [10,11] kr (jc ?_<|jc ?_<|qP)
 rotate_left 1
 ·refine NO U U [10,12,13] fun T14 P=>AL U pj fun Y=>RD P 1 U<|N1 10<|NO U U [12,13] fun T16 R=>AL U pj fun Z=>RD R 2 U<|N1 12<|NO U U [13] fun T18 S=>gl U ny U<|RD S 2 U<|N1 13<|NO U U [] fun T19 T=>rV U ny U<|RD T 2 U<|mE<|KK AA<|aq fun _ F=>aG<|WS fun _ E=>rP 3 [] (mc 0 U mn) ?_
  refine cg (t:=40) U (fun C=>?_) (fun C=>?_)
  ·refine bG 16 U<|RK E<|aU U<|WS fun _ J=>rP 1 [] mn ?_
   refine RK J<|av<|Q1 hQ U U U ?_
   (rw [j5 rfl A]; (rw [h_ (.inl C)]; done))
  refine rP 8 [0,1] (mc 0 U (mc 4 U mn)) ?_
  refine cg (t:=48) U (aV fun D=>?_) (aW fun D=>?_)
  ·refine bG 8 U<|RK E<|aU U<|WS fun _ K=>rP 1 [] mn ?_
   refine RK K<|av<|Q1 hQ U U U ?_
   (rw [j5 rfl A]; (rw [h_ (.inr (.inl D))]; done))
  refine rP 8 [0,1] (mc 1 U (mc 4 U mn)) ?_
  refine RK E<|cG U (aV fun B=>?_) (aW fun B=>?_)
  ·refine WS fun _ L=>rP 1 [] mn ?_
   refine RK L<|av<|Q1 hQ U U U ?_
   (rw [j5 rfl A]; (rw [h_ (.inr (.inr B))]; done))
  refine WS fun _ G=>rP 3 [] (mc 0 U mn) ?_
  refine cu (t:=59) U (fun AB=>?_) (fun AB=>?_)
  ·refine bG 8 U<|RK G<|ct U<|cx<|aO<|KK F<|WS fun _ O=>rP 1 [] mn ?_
   refine RK O<|av<|Q1 hQ U U U ?_
   (rw [j5 rfl A]; (rw [j8 (BP (by simpa using C) (by first|exact D|(simp only []; omega)) (by first|exact B|(simp only []; omega))) (fun q=>by rw [AB] at q; exact Bool.noConfusion q.1)]; done))
  refine fD 5 [0,1,2,3] (mc 2 U (mc 4 U (mc 0 U (mc 1 U mn)))) U<|rS (CL (uW 2 fw ff ft ((cj j.Race.ak d.aZ (fw-1)).Lo) ((cj j.Race.ak d.aZ (fw-1)).Hi) ((cj j.Race.ak d.aZ (fw-1)).each) ((cj j.Race.ak d.aZ (fw-1)).never) ((cj j.Race.ak d.aZ fw).Lo) ((cj j.Race.ak d.aZ fw).Hi) ((cj j.Race.ak d.aZ fw).each) ((cj j.Race.ak d.aZ fw).never)) (aN) U)<|rP 2 [] mn ?_
  refine RK G<|cG U (aV fun H=>?_) (aW fun H=>?_)
  ·refine WS fun _ M=>rP 1 [] mn ?_
   refine RK M<|av<|Q1 hQ U U U ?_
   (rw [j5 rfl A]; (rw [pO (BP (by simpa using C) (by first|exact D|(simp only []; omega)) (by first|exact B|(simp only []; omega))) AB ((o1 (show ¬ (2:Int)=3 by decide)).2 H)]; done))
  refine cx<|aO<|KK F<|WS fun _ N=>rP 1 [] mn ?_
  refine RK N<|av<|Q1 hQ U U U ?_
  (rw [j5 rfl A]; (rw [j8 (BP (by simpa using C) (by first|exact D|(simp only []; omega)) (by first|exact B|(simp only []; omega))) (fun q=>H ((o1 (show ¬ (2:Int)=3 by decide)).1 q.2))]; done))
 refine NO U U [11,12,13] fun T14 P=>AL U pj fun Y=>RD P 1 U<|N1 11<|NO U U [12,13] fun T16 R=>AL U pj fun Z=>RD R 2 U<|N1 12<|NO U U [13] fun T18 S=>rV U ny U<|RD S 2 U<|N1 13<|NO U U [] fun T19 T=>gl U ny U<|RD T 2 U<|mE<|KK AA<|aq fun _ F=>aG<|WS fun _ E=>rP 3 [] (mc 1 U mn) ?_
 refine cg (t:=40) U (fun C=>?_) (fun C=>?_)
 ·refine bG 16 U<|RK E<|aU U<|WS fun _ J=>rP 1 [] mn ?_
  refine RK J<|av<|Q1 hQ U U U ?_
  (rw [j5 rfl A]; (rw [h_ (.inl C)]; done))
 refine rP 8 [0,1] (mc 1 U (mc 4 U mn)) ?_
 refine cg (t:=48) U (aV fun D=>?_) (aW fun D=>?_)
 ·refine bG 8 U<|RK E<|aU U<|WS fun _ K=>rP 1 [] mn ?_
  refine RK K<|av<|Q1 hQ U U U ?_
  (rw [j5 rfl A]; (rw [h_ (.inr (.inl D))]; done))
 refine rP 8 [0,1] (mc 0 U (mc 4 U mn)) ?_
 refine RK E<|cG U (aV fun B=>?_) (aW fun B=>?_)
 ·refine WS fun _ L=>rP 1 [] mn ?_
  refine RK L<|av<|Q1 hQ U U U ?_
  (rw [j5 rfl A]; (rw [h_ (.inr (.inr B))]; done))
 refine WS fun _ G=>rP 3 [] (mc 1 U mn) ?_
 refine cu (t:=59) U (fun AB=>?_) (fun AB=>?_)
 ·refine bG 8 U<|RK G<|ct U<|cx<|aO<|KK F<|WS fun _ O=>rP 1 [] mn ?_
  refine RK O<|av<|Q1 hQ U U U ?_
  (rw [j5 rfl A]; (rw [j8 (BP (by simpa using C) (by first|exact D|(simp only []; omega)) (by first|exact B|(simp only []; omega))) (fun q=>by rw [AB] at q; exact Bool.noConfusion q.1)]; done))
 refine fD 5 [0,1,2,3] (mc 2 U (mc 4 U (mc 1 U (mc 0 U mn)))) U<|rS (CL (uW 2 fw ff ft ((cj j.Race.ak d.aZ (fw-1)).Lo) ((cj j.Race.ak d.aZ (fw-1)).Hi) ((cj j.Race.ak d.aZ (fw-1)).each) ((cj j.Race.ak d.aZ (fw-1)).never) ((cj j.Race.ak d.aZ fw).Lo) ((cj j.Race.ak d.aZ fw).Hi) ((cj j.Race.ak d.aZ fw).each) ((cj j.Race.ak d.aZ fw).never)) (aN) U)<|rP 2 [] mn ?_
 refine RK G<|cG U (aV fun H=>?_) (aW fun H=>?_)
 ·refine WS fun _ M=>rP 1 [] mn ?_
  refine RK M<|av<|Q1 hQ U U U ?_
  (rw [j5 rfl A]; (rw [pO (BP (by simpa using C) (by first|exact D|(simp only []; omega)) (by first|exact B|(simp only []; omega))) AB ((o1 (show ¬ (2:Int)=3 by decide)).2 H)]; done))
 refine cx<|aO<|KK F<|WS fun _ N=>rP 1 [] mn ?_
 refine RK N<|av<|Q1 hQ U U U ?_
 (rw [j5 rfl A]; (rw [j8 (BP (by simpa using C) (by first|exact D|(simp only []; omega)) (by first|exact B|(simp only []; omega))) (fun q=>H ((o1 (show ¬ (2:Int)=3 by decide)).1 q.2))]; done))
theorem Jo (j:cR) (kA:OA) (kC:Nat) (az:List RA) (cA:OA) (cC:Nat) (bA:OA) (bC:Nat) (slA:OA) (slC:Nat) (drA:OA) (drC:Nat) (ha:List cN) (heA:OA) (heC:Nat) (faA:OA) (faC:Nat) (prA:OA) (prC:Nat) (fw ff ft:Int) (d:ao) (sgA:OA) (sgC:Nat) (hin:gY j az ha) (hw:0≤fw∧fw≤1000000) (hsl:d.aZ.aa.length≤1000000):
 dN Tryz.prog 34 [(vA (db.cells (db.mk (nN j kA kC cA cC bA bC slA slC drA drC heA heC faA faC prA prC)))),(vA (aL.cells (aL.mk 3 fw ff ft))),(vA (aP.cells (aP.mk d.Out d.cY d.Time (jI d.aZ sgA sgC))))] [(rd kA j.Race.ak.aR.length 9 (j.Race.ak.aR.map ar.cells)),(rd cA j.Race.ak.aj.length 2 (List.zipWith ax.cells j.Race.ak.aj az)),(dV (a_ ax.gG j.Race.ak.aj az)),(rd bA j.Race.ak.ab.length 4 (j.Race.ak.ab.map bJ.cells)),(rd slA j.Race.aY.length 1 (j.Race.aY.map iC)),(rd drA j.Race.b_.length 1 (j.Race.b_.map iC)),(rd heA j.Race.aA.length 1 (List.zipWith cq j.Race.aA ha)),(dV (a_ eV j.Race.aA ha)),(rd faA j.aC.length 4 (j.aC.map aL.cells)),(rd prA j.aw.length 5 (j.aw.map aT.cells)),(rd sgA d.aZ.aa.length 2 (d.aZ.aa.map aH.cells))] (Value.int .u8 (gf j.Race.ak (aL.mk 3 fw ff ft) d)):=by
 have l:=hin.race
 have h:=hin.race.line
 have r:=hin.race.iJ
 have s:=hin.race.has
 have m:=hin.race.iK
 have i:=hin.nf
 have k:=hin.np
 refine bH kr Tryz.func34 U U fun u Q hQ hN=>?_
 try dsimp only
 refine WS fun _ a=>eT U fun n=>eT U fun o=>eT U fun p=>bG 1 U<|RK a<|aq fun _ b=>WS fun _ c=>fD 1 [] (mc 0 U mn) U<|rS (CL (vi d.Out d.cY d.Time (jI d.aZ sgA sgC)) (aN) U)<|rP 1 [] mn ?_
 refine RK c<|cG U (bB fun A=>?_) (bx fun A=>?_)
 ·refine WS fun _ e=>rP 1 [] mn ?_
  refine RK e<|av<|Q1 hQ U U U ?_
  (rw [sT (fun q=>A q)]; done)
 refine WK b<|aq fun _ f=>dT cy [4,5] [] [] [0,1,2,3,4,5,6,7,8,9,10,11,12,13] [] U U U U U<|eS U (CL yI (aN) U)<|eS U (FA 0 U eP U)<|eS U (L1 (Value.int .u8 3) 1 U cf U U)<|eS U (SX (wu (vs:=(fz.cells (fz.mk (Value.func (.func 86) [].toArray [].toArray) (Value.func (.func 87) [].toArray [].toArray)))) 3 U U U ML cf U dc U) U U)<|eN U<|cm U fun T9 g=>AL U LL fun X=>aJ (g _ _ (aS [1,2,3,4,5,6,7,8,9,10,11,12,13,14]) ?_)
 refine cm U fun T11 W=>gl U JG U<|aJ (W _ _ (aS [1,2,3,4,5,6,7,8,9,10,11,12,13,14]) ?_)
 refine f_ U<|KK f<|WS fun _ V=>fD 4 [0,1,2] (mc 0 U (mc 3 U (mc 2 U mn))) U<|rS (CL (UR j kA kC cA cC bA bC slA slC drA drC heA heC faA faC prA prC 3 fw ff ft) (aN) U)<|rP 5 [] mn ?_
 refine RK V<|aq fun _ AA=>m7 cy [0,1,2,3,4,5,6,7,8,9] [10,11,12,13] [false,false,false,false,false,false,false,false,false,false] [] [(cv X 132 (fz.cells (fz.mk (Value.func (.func 86) [].toArray [].toArray) (Value.func (.func 87) [].toArray [].toArray)))),(cv p 58 (aP.cells (aP.mk d.Out d.cY d.Time (jI d.aZ sgA sgC)))),(cv o 80 (aL.cells (aL.mk 3 fw ff ft))),(cv n 93 (db.cells (db.mk (nN j kA kC cA cC bA bC slA slC drA drC heA heC faA faC prA prC)))),(rd kA j.Race.ak.aR.length 9 (j.Race.ak.aR.map ar.cells)).ro,(rd cA j.Race.ak.aj.length 2 (List.zipWith ax.cells j.Race.ak.aj az)).ro,(dV (a_ ax.gG j.Race.ak.aj az)).ro,(rd bA j.Race.ak.ab.length 4 (j.Race.ak.ab.map bJ.cells)).ro,(rd slA j.Race.aY.length 1 (j.Race.aY.map iC)).ro,(rd drA j.Race.b_.length 1 (j.Race.b_.map iC)).ro,(rd heA j.Race.aA.length 1 (List.zipWith cq j.Race.aA ha)).ro,(dV (a_ eV j.Race.aA ha)).ro,(rd faA j.aC.length 4 (j.aC.map aL.cells)).ro,(rd prA j.aw.length 5 (j.aw.map aT.cells)).ro,(rd sgA d.aZ.aa.length 2 (d.aZ.aa.map aH.cells)).ro] [] kr (aS [0,1,2,3,4,5,6,7,8,9,10,11,12,13,14]) (aS [])<|eS U (LW 3 U cf U U)<|eS U (FA 4 U eP U)<|eS U (LP (cM.cells (jI d.aZ sgA sgC)) 1 U cf U U U)<|eS U (MV U)<|eS U (CL (mU j kA kC az cA cC bA bC slA slC drA drC ha heA heC faA faC prA prC d.aZ sgA sgC fw hin hsl) (bq [4,5,6,7,8,9,10,11,12,13,14]) U)<|eS U (LW 3 U cf U U)<|eS U (FA 4 U eP U)<|eS U (LP (cM.cells (jI d.aZ sgA sgC)) 1 U cf U U U)<|eS U (MV U)<|eS U (CL (mU j kA kC az cA cC bA bC slA slC drA drC ha heA heC faA faC prA prC d.aZ sgA sgC fw hin hsl) (bq [4,5,6,7,8,9,10,11,12,13,14]) U)<|eN U<|nH [10,11] kr (jc ?_<|jc ?_<|qP)
 rotate_left 1
 ·refine NO U U [10,12,13] fun T14 P=>AL U pj fun Y=>RD P 1 U<|N1 10<|NO U U [12,13] fun T16 R=>AL U pj fun Z=>RD R 2 U<|N1 12<|NO U U [13] fun T18 S=>gl U ny U<|RD S 2 U<|N1 13<|NO U U [] fun T19 T=>rV U ny U<|RD T 2 U<|mE<|KK AA<|aq fun _ F=>aG<|WS fun _ E=>rP 3 [] (mc 0 U mn) ?_
  refine cg (t:=40) U (fun C=>?_) (fun C=>?_)
  ·refine bG 16 U<|RK E<|aU U<|WS fun _ J=>rP 1 [] mn ?_
   refine RK J<|av<|Q1 hQ U U U ?_
   (rw [j3 rfl A]; (rw [h_ (.inl C)]; done))
  refine rP 8 [0,1] (mc 0 U (mc 4 U mn)) ?_
  refine cg (t:=48) U (aV fun D=>?_) (aW fun D=>?_)
  ·refine bG 8 U<|RK E<|aU U<|WS fun _ K=>rP 1 [] mn ?_
   refine RK K<|av<|Q1 hQ U U U ?_
   (rw [j3 rfl A]; (rw [h_ (.inr (.inl D))]; done))
  refine rP 8 [0,1] (mc 1 U (mc 4 U mn)) ?_
  refine RK E<|cG U (aV fun B=>?_) (aW fun B=>?_)
  ·refine WS fun _ L=>rP 1 [] mn ?_
   refine RK L<|av<|Q1 hQ U U U ?_
   (rw [j3 rfl A]; (rw [h_ (.inr (.inr B))]; done))
  refine WS fun _ G=>rP 3 [] (mc 0 U mn) ?_
  refine cu (t:=59) U (fun AB=>?_) (fun AB=>?_)
  ·refine bG 8 U<|RK G<|ct U<|cx<|aO<|KK F<|WS fun _ O=>rP 1 [] mn ?_
   refine RK O<|av<|Q1 hQ U U U ?_
   (rw [j3 rfl A]; (rw [j8 (BP (by simpa using C) (by first|exact D|(simp only []; omega)) (by first|exact B|(simp only []; omega))) (fun q=>by rw [AB] at q; exact Bool.noConfusion q.1)]; done))
  refine fD 5 [0,1,2,3] (mc 2 U (mc 4 U (mc 0 U (mc 1 U mn)))) U<|rS (CL (Gd 3 fw ff ft ((cj j.Race.ak d.aZ fw).Lo) ((cj j.Race.ak d.aZ fw).Hi) ((cj j.Race.ak d.aZ fw).each) ((cj j.Race.ak d.aZ fw).never) ((cj j.Race.ak d.aZ fw).Lo) ((cj j.Race.ak d.aZ fw).Hi) ((cj j.Race.ak d.aZ fw).each) ((cj j.Race.ak d.aZ fw).never)) (aN) U)<|rP 2 [] mn ?_
  refine RK G<|cG U (aV fun H=>?_) (aW fun H=>?_)
  ·refine WS fun _ M=>rP 1 [] mn ?_
   refine RK M<|av<|Q1 hQ U U U ?_
   (rw [j3 rfl A]; (rw [pO (BP (by simpa using C) (by first|exact D|(simp only []; omega)) (by first|exact B|(simp only []; omega))) AB ((By rfl).2 H)]; done))
  refine cx<|aO<|KK F<|WS fun _ N=>rP 1 [] mn ?_
  refine RK N<|av<|Q1 hQ U U U ?_
  (rw [j3 rfl A]; (rw [j8 (BP (by simpa using C) (by first|exact D|(simp only []; omega)) (by first|exact B|(simp only []; omega))) (fun q=>H ((By rfl).1 q.2))]; done))
 refine NO U U [11,12,13] fun T14 P=>AL U pj fun Y=>RD P 1 U<|N1 11<|NO U U [12,13] fun T16 R=>AL U pj fun Z=>RD R 2 U<|N1 12<|NO U U [13] fun T18 S=>rV U ny U<|RD S 2 U<|N1 13<|NO U U [] fun T19 T=>gl U ny U<|RD T 2 U<|mE<|KK AA<|aq fun _ F=>aG<|WS fun _ E=>rP 3 [] (mc 1 U mn) ?_
 refine cg (t:=40) U (fun C=>?_) (fun C=>?_)
 ·refine bG 16 U<|RK E<|aU U<|WS fun _ J=>rP 1 [] mn ?_
  refine RK J<|av<|Q1 hQ U U U ?_
  (rw [j3 rfl A]; (rw [h_ (.inl C)]; done))
 refine rP 8 [0,1] (mc 1 U (mc 4 U mn)) ?_
 refine cg (t:=48) U (aV fun D=>?_) (aW fun D=>?_)
 ·refine bG 8 U<|RK E<|aU U<|WS fun _ K=>rP 1 [] mn ?_
  refine RK K<|av<|Q1 hQ U U U ?_
  (rw [j3 rfl A]; (rw [h_ (.inr (.inl D))]; done))
 refine rP 8 [0,1] (mc 0 U (mc 4 U mn)) ?_
 refine RK E<|cG U (aV fun B=>?_) (aW fun B=>?_)
 ·refine WS fun _ L=>rP 1 [] mn ?_
  refine RK L<|av<|Q1 hQ U U U ?_
  (rw [j3 rfl A]; (rw [h_ (.inr (.inr B))]; done))
 refine WS fun _ G=>rP 3 [] (mc 1 U mn) ?_
 refine cu (t:=59) U (fun AB=>?_) (fun AB=>?_)
 ·refine bG 8 U<|RK G<|ct U<|cx<|aO<|KK F<|WS fun _ O=>rP 1 [] mn ?_
  refine RK O<|av<|Q1 hQ U U U ?_
  (rw [j3 rfl A]; (rw [j8 (BP (by simpa using C) (by first|exact D|(simp only []; omega)) (by first|exact B|(simp only []; omega))) (fun q=>by rw [AB] at q; exact Bool.noConfusion q.1)]; done))
 refine fD 5 [0,1,2,3] (mc 2 U (mc 4 U (mc 1 U (mc 0 U mn)))) U<|rS (CL (Gd 3 fw ff ft ((cj j.Race.ak d.aZ fw).Lo) ((cj j.Race.ak d.aZ fw).Hi) ((cj j.Race.ak d.aZ fw).each) ((cj j.Race.ak d.aZ fw).never) ((cj j.Race.ak d.aZ fw).Lo) ((cj j.Race.ak d.aZ fw).Hi) ((cj j.Race.ak d.aZ fw).each) ((cj j.Race.ak d.aZ fw).never)) (aN) U)<|rP 2 [] mn ?_
 refine RK G<|cG U (aV fun H=>?_) (aW fun H=>?_)
 ·refine WS fun _ M=>rP 1 [] mn ?_
  refine RK M<|av<|Q1 hQ U U U ?_
  (rw [j3 rfl A]; (rw [pO (BP (by simpa using C) (by first|exact D|(simp only []; omega)) (by first|exact B|(simp only []; omega))) AB ((By rfl).2 H)]; done))
 refine cx<|aO<|KK F<|WS fun _ N=>rP 1 [] mn ?_
 refine RK N<|av<|Q1 hQ U U U ?_
 (rw [j3 rfl A]; (rw [j8 (BP (by simpa using C) (by first|exact D|(simp only []; omega)) (by first|exact B|(simp only []; omega))) (fun q=>H ((By rfl).1 q.2))]; done))
theorem Bk (j:cR) (kA:OA) (kC:Nat) (az:List RA) (cA:OA) (cC:Nat) (bA:OA) (bC:Nat) (slA:OA) (slC:Nat) (drA:OA) (drC:Nat) (ha:List cN) (heA:OA) (heC:Nat) (faA:OA) (faC:Nat) (prA:OA) (prC:Nat) (f:aL) (d:ao) (sgA:OA) (sgC:Nat) (hin:gY j az ha) (hk:1≤f.Kind∧f.Kind≤3) (hw:0≤f.eW∧f.eW≤1000000) (hsl:d.aZ.aa.length≤1000000):
 dN Tryz.prog 34 [(vA (db.cells (db.mk (nN j kA kC cA cC bA bC slA slC drA drC heA heC faA faC prA prC)))),(vA (aL.cells f)),(vA (aP.cells (aP.mk d.Out d.cY d.Time (jI d.aZ sgA sgC))))] [(rd kA j.Race.ak.aR.length 9 (j.Race.ak.aR.map ar.cells)),(rd cA j.Race.ak.aj.length 2 (List.zipWith ax.cells j.Race.ak.aj az)),(dV (a_ ax.gG j.Race.ak.aj az)),(rd bA j.Race.ak.ab.length 4 (j.Race.ak.ab.map bJ.cells)),(rd slA j.Race.aY.length 1 (j.Race.aY.map iC)),(rd drA j.Race.b_.length 1 (j.Race.b_.map iC)),(rd heA j.Race.aA.length 1 (List.zipWith cq j.Race.aA ha)),(dV (a_ eV j.Race.aA ha)),(rd faA j.aC.length 4 (j.aC.map aL.cells)),(rd prA j.aw.length 5 (j.aw.map aT.cells)),(rd sgA d.aZ.aa.length 2 (d.aZ.aa.map aH.cells))] (Value.int .u8 (gf j.Race.ak f d)):=by
 obtain ⟨fk,fw,ff,ft⟩:=f
 have A:fk=1∨fk=2∨fk=3:=by have:=hk; simp only at this; omega
 rcases A with rfl|rfl|rfl
 ·exact JI j kA kC az cA cC bA bC slA slC drA drC ha heA heC faA faC prA prC fw ff ft d sgA sgC hin hw hsl
 ·exact KD j kA kC az cA cC bA bC slA slC drA drC ha heA heC faA faC prA prC fw ff ft d sgA sgC hin hw hsl
 ·exact Jo j kA kC az cA cC bA bC slA slC drA drC ha heA heC faA faC prA prC fw ff ft d sgA sgC hin hw hsl
end
section
open Go.RowKit
theorem Ks (j:cR) (kA:OA) (kC:Nat) (az:List RA) (cA:OA) (cC:Nat) (bA:OA) (bC:Nat) (slA:OA) (slC:Nat) (drA:OA) (drC:Nat) (ha:List cN) (heA:OA) (heC:Nat) (faA:OA) (faC:Nat) (prA:OA) (prC:Nat) (p:aT) (hin:gY j az ha) (hok:di j=0) (hp: ∃ i:Nat,j.aw[i]? =some p):
 dN Tryz.prog 35 [(vA (db.cells (db.mk (nN j kA kC cA cC bA bC slA slC drA drC heA heC faA faC prA prC)))),(vA (aT.cells p))] [(rd kA j.Race.ak.aR.length 9 (j.Race.ak.aR.map ar.cells)),(rd cA j.Race.ak.aj.length 2 (List.zipWith ax.cells j.Race.ak.aj az)),(dV (a_ ax.gG j.Race.ak.aj az)),(rd bA j.Race.ak.ab.length 4 (j.Race.ak.ab.map bJ.cells)),(rd slA j.Race.aY.length 1 (j.Race.aY.map iC)),(rd drA j.Race.b_.length 1 (j.Race.b_.map iC)),(rd heA j.Race.aA.length 1 (List.zipWith cq j.Race.aA ha)),(dV (a_ eV j.Race.aA ha)),(rd faA j.aC.length 4 (j.aC.map aL.cells)),(rd prA j.aw.length 5 (j.aw.map aT.cells))] (Value.int .u8 (l5 j p)):=by
 have S:=hin.race
 have e:=hin.race.line
 have s:=hin.race.iJ
 have t:=hin.race.has
 have q:=hin.race.iK
 have k:=hin.nf
 have o:=hin.np
 have R:=(dF hok).1
 have P:=(dF hok).2
 have c:=(d_ R).1
 have h:=(d_ R).2
 have a:=(dq c).2.head
 unfold eY at a
 obtain ⟨pi,f⟩:=hp
 have G:=P.hE pi p f
 have x:=G.gM
 have g:=G.l7
 simp only [qS] at g
 have w:=G.fault
 have u:=P.min_
 refine bH kr Tryz.func35 U U fun w0 Q hQ hN=>?_
 try dsimp only
 refine WS fun _ T=>eT U fun z=>eT U fun b3=>rP 1 [] mn ?_
 refine RK T<|aq fun _ AA=>dT cy [20,21] [] [] [0,1,2,3,4,5,6,7,8,9,10,11] [] U U U U U<|eS U (LW 1 U cf U U)<|eS U (FA 0 U eP U)<|eS U (FA 0 U eP U)<|eS U (FA 10 U eP U)<|eS U (L1 (vS heA j.Race.aA.length heC) 1 U cf U U)<|eS U (FA 2 U eP U)<|eS U (L1 (vI p.jo) 0 U cf U U) ?_
 obtain ⟨ht,C⟩:=aM j.Race.aA ((p.jo).toNat) I
 obtain ⟨A,B⟩:=aM ha ((p.jo).toNat) I
 have O:(List.zipWith cq j.Race.aA ha)[(p.jo).toNat]? =some (cq ht A):=dH C B
 refine eS U (IA ((p.jo).toNat) U (aF 8 U) oQ dc I I)<|eS U (hP ((p.jo).toNat) 0 (vS A.1.1 ht.length A.1.2) U cf (aF 8 U) O U dc U)<|eS U (FA 1 U eP U)<|eS U (L1 (vI p.iX) 0 U cf U U) ?_
 have N:=S.gM _ _ _ C B
 have m:=N.n_
 have n:=(h.gM ht (aQ C)).1
 obtain ⟨d,hd⟩:=aM ht ((p.iX).toNat) I
 obtain ⟨da,M⟩:=aM A.2 ((p.iX).toNat) I
 have Z:(List.zipWith ao.cells ht A.2)[(p.iX).toNat]? =some (ao.cells d da):=dH hd M
 refine eS U (IA ((p.iX).toNat) U (show jC _ (rd A.1.1 ht.length 7 (List.zipWith ao.cells ht A.2)).holds from (cW 9 U (bT C B cD))) r8 dc I I)<|eS U (nv ((((p.iX).toNat)*7)+4) U (show jC _ (rd A.1.1 ht.length 7 (List.zipWith ao.cells ht A.2)).holds from (cW 9 U (bT C B cD))) (Nat.mul_pos I dc) eP U) ?_
 have D:=p_ (j:=j) (p:=p) C hd
 have y:=N.sig d (aQ hd)
 have v:=Nk (l:=j.Race.ak) (r:=d.aZ) (b:=j.Race.ak.bM) I
 refine eS U (mq ((p.iX).toNat) 4 (cM.cells (cM.mk d.aZ.Start d.aZ.fI (bE.mk da.1 d.aZ.aa.length da.2))) U cf (show jC _ (rd A.1.1 ht.length 7 (List.zipWith ao.cells ht A.2)).holds from (cW 9 U (bT C B cD))) Z U dc U U)<|eS U (FA 0 U eP U)<|eS U (FA 0 U eP U)<|eS U (FA 0 U eP U)<|eS U (FA 4 U eP U)<|eS U (L1 (vI j.Race.ak.bM) 1 U cf U U)<|eS U (CL (mU j kA kC az cA cC bA bC slA slC drA drC ha heA heC faA faC prA prC d.aZ da.1 da.2 j.Race.ak.bM hin asm) (pC [2,3,4,5,6,7,8,9,10,11]<|aD (show jC _ (rd da.1 d.aZ.aa.length 2 (d.aZ.aa.map aH.cells)).holds from (cW 9 U (bT C B (dU _ (bT hd M (by simp [ao.gG]))))))<|aN) U)<|eN U<|cm U fun T5 X=>AL U pj fun b6=>aJ (X _ _ (aS [1,2,3,4,5,6,7,8,9,10,11,12]) ?_)
 refine cm U fun T7 Y=>gl U ny U<|aJ (Y _ _ (aS [1,2,3,4,5,6,7,8,9,10,11,12]) ?_)
 refine f_ U<|KK AA<|WS fun _ V=>fD 3 [] (mc 2 U mn) U<|rS (BI U (uT ⟨I,I⟩))<|bG 1 U<|RK V<|aq fun _ W=>aG<|WS fun _ H=>rP 9 [0,1] (mc 1 U (mc 0 U mn)) ?_
 refine RK H<|cG U (aV fun E=>?_) (aW fun E=>?_)
 ·refine WS fun _ AB=>rP 1 [] mn ?_
  refine RK AB<|av<|Q1 hQ U U U ?_
  (rw [RL D E]; done)
 refine WS fun _ J=>rP 9 [0,1] (mc 1 U (mc 0 U mn)) ?_
 refine RK J<|cG U (aV fun F=>?_) (aW fun F=>?_)
 ·refine WS fun _ K=>rP 1 [] mn ?_
  refine RK K<|av<|Q1 hQ U U U ?_
  (rw [RO D E F]; done)
 refine cx<|aO<|KK W<|WS fun _ L=>rP 1 [] mn ?_
 refine RK L<|av<|Q1 hQ U U U ?_
 (rw [QQ D E F]; done)
theorem wB (j:cR) (kA:OA) (kC:Nat) (az:List RA) (cA:OA) (cC:Nat) (bA:OA) (bC:Nat) (slA:OA) (slC:Nat) (drA:OA) (drC:Nat) (ha:List cN) (heA:OA) (heC:Nat) (faA:OA) (faC:Nat) (prA:OA) (prC:Nat) (i:Int) (p:aT) (hin:gY j az ha) (hok:di j=0) (hp: ∃ i:Nat,j.aw[i]? =some p):
 dN Tryz.prog 31 [(vA (db.cells (db.mk (nN j kA kC cA cC bA bC slA slC drA drC heA heC faA faC prA prC)))),(vI i),(vA (aT.cells p))] [(rd kA j.Race.ak.aR.length 9 (j.Race.ak.aR.map ar.cells)),(rd cA j.Race.ak.aj.length 2 (List.zipWith ax.cells j.Race.ak.aj az)),(dV (a_ ax.gG j.Race.ak.aj az)),(rd bA j.Race.ak.ab.length 4 (j.Race.ak.ab.map bJ.cells)),(rd slA j.Race.aY.length 1 (j.Race.aY.map iC)),(rd drA j.Race.b_.length 1 (j.Race.b_.map iC)),(rd heA j.Race.aA.length 1 (List.zipWith cq j.Race.aA ha)),(dV (a_ eV j.Race.aA ha)),(rd faA j.aC.length 4 (j.aC.map aL.cells)),(rd prA j.aw.length 5 (j.aw.map aT.cells))] (vB (gO j p)):=by
 have O:=hin.race
 have V:=hin.race.line
 have h:=hin.race.iJ
 have k:=hin.race.has
 have c:=hin.race.iK
 have Y:=hin.nf
 have b:=hin.np
 have M:=(dF hok).1
 have E:=(dF hok).2
 have AA:=(d_ M).1
 have X:=(d_ M).2
 have T:=(dq AA).2.head
 unfold eY at T
 obtain ⟨pi,N⟩:=hp
 have F:=E.hE pi p N
 have n:=F.gM
 have W:=F.l7
 simp only [qS] at W
 have m:=F.fault
 have l:=E.min_
 refine bH kr Tryz.func31 U U fun u Q hQ hN=>?_
 try dsimp only
 refine WS fun _ P=>eT U fun r=>eT U fun s=>bG 1 U<|RK P<|aq fun _ G=>dy cy 29 kr<|mz 2 [0,1] (mc 1 U (mc 0 U mn)) U<|dS (CL (Ks j kA kC az cA cC bA bC slA slC drA drC ha heA heC faA faC prA prC p hin hok (by exact ⟨pi,N⟩)) (bq [2,3,4,5,6,7,8,9,10,11]) U)<|dS (BI U xo)<|dP 1 [] mn ?_
 refine j0 (t:=11) U (bx fun D=>?_) (bB fun D=>?_)
 ·refine lP 17 U<|lP 2 U<|dP 5 [] mn ?_
  refine cO<|RK G<|av<|Q1 hQ U U U ?_
  (rw [Mw D]; done)
 refine dP 6 [0,0,1] (mc 1 U (mc 0 U mn)) ?_
 obtain ⟨f,hf⟩:=aM j.aC ((p.iM).toNat) I
 have S:=bQ aL.cells hf
 refine dS (IA ((p.iM).toNat) U (aF 10 U) vV dc I I)<|dS (mq ((p.iM).toNat) 0 (aL.cells f) U cf (aF 10 U) S U dc U U)<|dP 6 [0,1] (mc 1 U (mc 0 U mn)) ?_
 obtain ⟨ht,C⟩:=aM j.Race.aA ((p.jo).toNat) I
 obtain ⟨A,B⟩:=aM ha ((p.jo).toNat) I
 have L:(List.zipWith cq j.Race.aA ha)[(p.jo).toNat]? =some (cq ht A):=dH C B
 refine dS (IA ((p.jo).toNat) U (aF 8 U) oQ dc I I)<|dS (hP ((p.jo).toNat) 0 (vS A.1.1 ht.length A.1.2) U cf (aF 8 U) L U dc U)<|dP 1 [] mn ?_
 have K:=O.gM _ _ _ C B
 have Z:=K.n_
 have a:=(X.gM ht (aQ C)).1
 refine dP 1 [] (mc 0 U mn) ?_
 obtain ⟨d,hd⟩:=aM ht ((p.iX).toNat) I
 obtain ⟨da,AB⟩:=aM A.2 ((p.iX).toNat) I
 have R:(List.zipWith ao.cells ht A.2)[(p.iX).toNat]? =some (ao.cells d da):=dH hd AB
 refine dS (IA ((p.iX).toNat) U (show jC _ (rd A.1.1 ht.length 7 (List.zipWith ao.cells ht A.2)).holds from (cW 9 U (bT C B cD))) r8 dc I I) ?_
 have H:=p_ (j:=j) (p:=p) C hd
 have o:=K.sig d (aQ hd)
 have J:=E.fault f (aQ hf)
 have g:0≤f.eW∧f.eW≤1000000:=by have e:=J.2.2; split at e<;>omega
 refine dS (mq ((p.iX).toNat) 0 (aP.cells (aP.mk d.Out d.cY d.Time (cM.mk d.aZ.Start d.aZ.fI (bE.mk da.1 d.aZ.aa.length da.2)))) U cf (show jC _ (rd A.1.1 ht.length 7 (List.zipWith ao.cells ht A.2)).holds from (cW 9 U (bT C B cD))) R U dc U U)<|dS (CL (Bk j kA kC az cA cC bA bC slA slC drA drC ha heA heC faA faC prA prC f d da.1 da.2 hin (by exact J.1) asm asm) (pC [2,3,4,5,6,7,8,9,10,11]<|aD (show jC _ (rd da.1 d.aZ.aa.length 2 (d.aZ.aa.map aH.cells)).holds from (cW 9 U (bT C B (dU _ (bT hd AB (by simp [ao.gG]))))))<|aN) U)<|dS (BI U xo)<|dP 2 [] mn ?_
 refine cO<|RK G<|av<|Q1 hQ U U U ?_
 (rw [Kz H hf (fun q=>D q)]; done)
end
section
open Go.RowKit
theorem MQ (n lo hi:Int) (g1 g2:Nat):
 dN Tryz.prog 147 [(vI n),(vP g1),(vP g2)] [(cv g1 3 [(vI lo)]),(cv g2 3 [(vI hi)])] (vB (decide (n<lo∨hi<n))):=by
 refine bH kr Tryz.func147 U U fun D Q hQ hN=>?_
 try dsimp only
 refine WS fun _ B=>bG 1 U<|RK B<|WS fun _ A=>rP 4 [] (mr 0 U mn) ?_
 refine cg (t:=8) U (aV fun C=>?_) (aW fun C=>?_)
 ·refine rP 5 [] mn ?_
  refine RK A<|av<|Q1 hQ U U U ?_
  exact cB (dM I).symm
 refine rP 5 [] (mr 1 U mn) ?_
 refine RK A<|av<|Q1 hQ U U U ?_
 exact cB (g5.2 I)
theorem vn (lo hi:Int) (l:List Int) (lA:OA) (lC:Nat) (hlen:l.length≤1000000):
 dN Tryz.prog 126 [(vI lo),(vI hi),(vS lA l.length lC)] [(rd lA l.length 1 (l.map iC))] (vB (qX lo hi l)):=by
 refine bH kr Tryz.func126 U U fun F Q hQ hN=>?_
 try dsimp only
 refine WS fun _ D=>xV U U fun A=>xV U U fun B=>bG 1 U<|RK D<|WS fun _ E=>rP 1 [] mn ?_
 refine rS (FU U) ?_
 refine rS (CL (qs l lA lC (Value.func (.func 147) [].toArray [(vP A),(vP B)].toArray) (fun C=>(decide (C<lo∨hi<C))) (dV [(cv A 3 [(vI lo)]),(cv B 3 [(vI hi)])]) (by intro C _; exact lJ (fi:=[]) (ca:=[(vP A),(vP B)]) (kh (MQ C lo hi A B) (bq [0,1]))) hlen) (gX 2 U U<|aD (kg (bq [1,0]))<|aN) U) ?_
 refine rP 2 [] mn ?_
 refine RK E<|av ?_
 exact Q1 hQ U U U U
theorem Ot (s:ag):
 dN Tryz.prog 210 [(vA (ag.cells s))] [] (vB (decide (mS s))):=by
 refine bH kr Tryz.func210 U U fun F Q hQ hN=>?_
 try dsimp only
 refine WS fun _ B=>eT U fun E=>bG 1 U<|RK B<|WS fun _ A=>rP 4 [] (mc 0 U mn) ?_
 refine eJ (xs:=[.tmp 4,.tmp 6]) (cs:=[(vI s.Lo),(vI s.Hi)]) U dJ kY U U U U (by simp [Value.cells]) U U fun C=>?_
 refine rS (CL (dN.eq (vn 1 600000 ([s.Lo,s.Hi]) (some ⟨C,0,none⟩) 2 (by (simp; done))) qd) (aD (br 0 U U (by simp [bR]) U)<|aN) U) ?_
 refine rP 1 [] mn ?_
 refine cu (t:=9) U (aW fun D=>?_) (aV fun D=>?_)
 ·refine rP 7 [] mn ?_
  refine RK A<|av<|Q1 hQ U U U ?_
  simp only [mS]
  exact cB (bI I).symm
 refine rP 7 [] (mc 1 U mn) ?_
 refine RK A<|av<|Q1 hQ U U U ?_
 simp only [mS]
 exact cB (g5.2 I)
theorem KS (d:ao) (sgA:OA) (sgC:Nat):
 dN Tryz.prog 207 [(vA (aP.cells (aP.mk d.Out d.cY d.Time (jI d.aZ sgA sgC))))] [(rd sgA d.aZ.aa.length 2 (d.aZ.aa.map aH.cells))] (vB (decide (ji d.aZ))):=by
 refine bH kr Tryz.func207 U U fun F Q hQ hN=>?_
 try dsimp only
 refine WS fun _ B=>eT U fun E=>bG 1 U<|RK B<|WS fun _ A=>rP 5 [] (mc 0 U mn) ?_
 refine cu (t:=7) U (aW fun C=>?_) (aV fun C=>?_)
 ·refine rP 13 [] mn ?_
  refine RK A<|av<|Q1 hQ U U U ?_
  simp only [ji]
  exact cB (bI I).symm
 refine rP 6 [] (mc 0 U mn) ?_
 refine cu (t:=13) U (aW fun D=>?_) (aV fun D=>?_)
 ·refine rP 7 [] mn ?_
  refine RK A<|av<|Q1 hQ U U U ?_
  simp only [ji]
  exact cB (bI I).symm
 refine rP 7 [] (mc 0 U mn) ?_
 refine RK A<|av<|Q1 hQ U U U ?_
 simp only [ji]
 exact cB (g5.2 I)
theorem UA (d:ao) (sgA:OA) (sgC:Nat):
 dN Tryz.prog 205 [(vA (aP.cells (aP.mk d.Out d.cY d.Time (jI d.aZ sgA sgC))))] [(rd sgA d.aZ.aa.length 2 (d.aZ.aa.map aH.cells))] (vB d.Out):=by
 refine bH kr Tryz.func205 U U fun D Q hQ hN=>?_
 try dsimp only
 refine WS fun _ A=>eT U fun C=>bG 1 U<|RK A<|WS fun _ B=>rP 3 [] (mc 0 U mn) ?_
 refine RK B<|av<|Q1 hQ U U U ?_
 rfl
theorem Vi (d:ao) (sgA:OA) (sgC:Nat):
 dN Tryz.prog 208 [(vA (aP.cells (aP.mk d.Out d.cY d.Time (jI d.aZ sgA sgC))))] [(rd sgA d.aZ.aa.length 2 (d.aZ.aa.map aH.cells))] (vB d.cY):=by
 refine bH kr Tryz.func208 U U fun D Q hQ hN=>?_
 try dsimp only
 refine WS fun _ A=>eT U fun C=>bG 1 U<|RK A<|WS fun _ B=>rP 3 [] (mc 0 U mn) ?_
 refine RK B<|av<|Q1 hQ U U U ?_
 rfl
theorem TS (d:ao) (sgA:OA) (sgC:Nat):
 dN Tryz.prog 211 [(vA (aP.cells (aP.mk d.Out d.cY d.Time (jI d.aZ sgA sgC))))] [(rd sgA d.aZ.aa.length 2 (d.aZ.aa.map aH.cells))] (vB true):=by
 refine bH kr Tryz.func211 U U fun D Q hQ hN=>?_
 try dsimp only
 refine WS fun _ A=>eT U fun C=>bG 1 U<|RK A<|WS fun _ B=>rP 1 [] mn ?_
 refine RK B<|av<|Q1 hQ U U U ?_
 rfl
end
section
open Go.RowKit
theorem Pb (l:bg) (kA:OA) (kC:Nat) (az:List RA) (cA:OA) (cC:Nat) (bA:OA) (bC:Nat) (d:ao) (sgA:OA) (sgC:Nat) (hin:ep l az):
 dN Tryz.prog 206 [(vA (cw.cells (kj l kA kC cA cC bA bC))),(vA (aP.cells (aP.mk d.Out d.cY d.Time (jI d.aZ sgA sgC))))] [(rd kA l.aR.length 9 (l.aR.map ar.cells)),(rd cA l.aj.length 2 (List.zipWith ax.cells l.aj az)),(dV (a_ ax.gG l.aj az)),(rd bA l.ab.length 4 (l.ab.map bJ.cells)),(rd sgA d.aZ.aa.length 2 (d.aZ.aa.map aH.cells))] (vT [(vA (ag.cells d.Time)),(vB (decide (d.cY=false∧d.Time=gV∧ji d.aZ)))]):=by
 refine bH kr Tryz.func206 U U fun K Q hQ hN=>?_
 try dsimp only
 refine WS fun _ B=>eT U fun H=>eT U fun AA=>AL U ej fun J=>rP 1 [] mn ?_
 refine RK B<|aq fun _ A=>dT cy [15] [] [] [1,2,3,4,5,6,7] [] U U U U U<|eS U (FA 2 U eP U)<|eS U (LP (ag.cells d.Time) 0 U cf U U U)<|eS U (FA 1 U eP U)<|eS U (L1 (vB d.cY) 0 U cf U U)<|eS U (NT U)<|eS U (MV U)<|sP (t:=11) U (fun G=>?_) (fun G=>?_)
 rotate_left 1
 ·rw [Bool.not_eq_false'] at G
  refine eS U (OX U)<|eS U (OX U)<|eS U (OX U)<|eS U (OX U)<|eS U (PK U)<|eS U (MV U)<|eS U (OX U)<|eS U (OX U)<|eS U (PK U)<|eS U (AG U)<|eN U<|cm U fun T10 C=>gl U c_ U<|aJ (C _ _ (aS [1,2,3,4,5,6,7]) ?_)
  refine f_ U<|KK A<|av<|nE hQ [0] (mc 0 U mn) U ?_
  clear hQ hN C T10 A B
  refine congrArg (fun z=>Value.tuple #[_,vB z]) ?_
  first|rfl|(simp_all [gV]; done)
 rw [Bool.not_eq_true'] at G
 refine eS U (FA 2 U eP U)<|eS U (LP (ag.cells d.Time) 0 U cf U U U)<|eS U (SX (bp (xs:=[]) (cs:=(ag.cells (ag.mk 0 0))) U U (bo hU U)) U U)<|eS U (BI U (x5 _ _ d.Time (ag.mk 0 0)))<|eS U (PK U)<|eS U (MV U)<|sP (t:=17) U (fun D=>?_) (fun D=>?_)
 rotate_left 1
 ·replace D:=DF D
  refine eS U (OX U)<|eS U (OX U)<|eS U (PK U)<|eS U (AG U)<|eN U<|cm U fun T9 F=>gl U c_ U<|aJ (F _ _ (aS [1,2,3,4,5,6,7]) ?_)
  refine f_ U<|KK A<|av<|nE hQ [0] (mc 0 U mn) U ?_
  clear hQ hN F T9 A B
  refine congrArg (fun z=>Value.tuple #[_,vB z]) ?_
  first|rfl|(simp_all [gV]; done)
 replace D:=DT D
 refine eS U (LW 0 U cf U U)<|eS U (CL (KS d sgA sgC) (bq [6]) U)<|eS U (PK U)<|eS U (AG U)<|eN U<|cm U fun T8 E=>gl U c_ U<|aJ (E _ _ (aS [1,2,3,4,5,6,7]) ?_)
 refine f_ U<|KK A<|av<|nE hQ [0] (mc 0 U mn) U ?_
 clear hQ hN E T8 A B
 refine congrArg (fun z=>Value.tuple #[_,vB z]) ?_
 first|rfl|(simp_all [gV]; done)
theorem O5 (l:bg) (kA:OA) (kC:Nat) (az:List RA) (cA:OA) (cC:Nat) (bA:OA) (bC:Nat) (d:ao) (sgA:OA) (sgC:Nat) (hin:ep l az):
 dN Tryz.prog 209 [(vA (cw.cells (kj l kA kC cA cC bA bC))),(vA (aP.cells (aP.mk d.Out d.cY d.Time (jI d.aZ sgA sgC))))] [(rd kA l.aR.length 9 (l.aR.map ar.cells)),(rd cA l.aj.length 2 (List.zipWith ax.cells l.aj az)),(dV (a_ ax.gG l.aj az)),(rd bA l.ab.length 4 (l.ab.map bJ.cells)),(rd sgA d.aZ.aa.length 2 (d.aZ.aa.map aH.cells))] (vT [(vA (ag.cells d.Time)),(vB (decide (mS d.Time∧ji d.aZ)))]):=by
 refine bH kr Tryz.func209 U U fun AA Q hQ hN=>?_
 try dsimp only
 refine WS fun _ B=>eT U fun F=>eT U fun G=>AL U ej fun H=>rP 1 [] mn ?_
 refine RK B<|aq fun _ A=>dT cy [9] [] [] [1,2,3,4,5,6,7] [] U U U U U<|eS U (FA 2 U eP U)<|eS U (LP (ag.cells d.Time) 0 U cf U U U)<|eS U (FA 2 U eP U)<|eS U (LP (ag.cells d.Time) 0 U cf U U U)<|eS U (CL (Ot d.Time) (aN) U)<|eS U (MV U)<|sP (t:=11) U (fun C=>?_) (fun C=>?_)
 rotate_left 1
 ·replace C:=DF C
  refine eS U (OX U)<|eS U (OX U)<|eS U (PK U)<|eS U (AG U)<|eN U<|cm U fun T8 E=>gl U c_ U<|aJ (E _ _ (aS [1,2,3,4,5,6,7]) ?_)
  refine f_ U<|KK A<|av<|nE hQ [0] (mc 0 U mn) U ?_
  clear hQ hN E T8 A B
  refine congrArg (fun z=>Value.tuple #[_,vB z]) ?_
  first|rfl|(simp_all; done)
 replace C:=DT C
 refine eS U (LW 0 U cf U U)<|eS U (CL (KS d sgA sgC) (bq [6]) U)<|eS U (PK U)<|eS U (AG U)<|eN U<|cm U fun T7 D=>gl U c_ U<|aJ (D _ _ (aS [1,2,3,4,5,6,7]) ?_)
 refine f_ U<|KK A<|av<|nE hQ [0] (mc 0 U mn) U ?_
 clear hQ hN D T7 A B
 refine congrArg (fun z=>Value.tuple #[_,vB z]) ?_
 first|rfl|(simp_all; done)
theorem OO (l:bg) (kA:OA) (kC:Nat) (az:List RA) (cA:OA) (cC:Nat) (bA:OA) (bC:Nat) (d:ao) (sgA:OA) (sgC:Nat) (hin:ep l az) (hsl:d.aZ.aa.length≤1000000):
 dN Tryz.prog 212 [(vA (cw.cells (kj l kA kC cA cC bA bC))),(vA (aP.cells (aP.mk d.Out d.cY d.Time (jI d.aZ sgA sgC))))] [(rd kA l.aR.length 9 (l.aR.map ar.cells)),(rd cA l.aj.length 2 (List.zipWith ax.cells l.aj az)),(dV (a_ ax.gG l.aj az)),(rd bA l.ab.length 4 (l.ab.map bJ.cells)),(rd sgA d.aZ.aa.length 2 (d.aZ.aa.map aH.cells))] (vT [(vA (ag.cells (Bv l d.aZ))),(vB (decide (dj l d.aZ l.bM=0∧d.Time=gV)))]):=by
 have K:=hin.sZ
 have AA:=hin.rn
 have G:=hin.n_
 have H:=hin.sB
 have J:=hin.side
 refine bH kr Tryz.func212 U U fun P Q hQ hN=>?_
 try dsimp only
 refine WS fun _ C=>eT U fun L=>eT U fun M=>AL U ej fun N=>bG 1 U<|RK C<|WS fun _ D=>fD 2 [] (mc 2 U mn) U<|rS (LP (cM.cells (jI d.aZ sgA sgC)) 1 U cf U U U)<|rS (CL (TA l kA kC az cA cC bA bC d.aZ sgA sgC hin hsl) (bq [3,4,5,6,7]) U)<|bG 3 U<|AL U ej fun O=>gl U c_ U<|rP 1 [] mn ?_
 refine RK D<|aq fun _ A=>dT cy [9] [] [] [0,2,3,4,5,6,7,8] [] U U U U U<|eS U (LW 0 U cf U U)<|eS U (MV U)<|eS U (BI U nP)<|eS U (MV U)<|sP (t:=18) U (fun E=>?_) (fun E=>?_)
 rotate_left 1
 ·replace E:=DF E
  refine eS U (OX U)<|eS U (OX U)<|eS U (OX U)<|eS U (OX U)<|eS U (PK U)<|eS U (AG U)<|eN U<|cm U fun T10 B=>rV U c_ U<|aJ (B _ _ (aS [0,2,3,4,5,6,7,8]) ?_)
  refine f_ U<|KK A<|av<|nE hQ [0] (mc 1 U mn) U ?_
  clear hQ hN B T10 A D C
  refine congrArg (fun z=>Value.tuple #[_,vB z]) ?_
  first|rfl|(simp_all [gV]; done)
 replace E:=DT E
 refine eS U (FA 2 U eP U)<|eS U (LP (ag.cells d.Time) 1 U cf U U U)<|eS U (SX (bp (xs:=[]) (cs:=(ag.cells (ag.mk 0 0))) U U (bo hU U)) U U)<|eS U (BI U (x5 _ _ d.Time (ag.mk 0 0)))<|eS U (PK U)<|eS U (AG U)<|eN U<|cm U fun T9 F=>rV U c_ U<|aJ (F _ _ (aS [0,2,3,4,5,6,7,8]) ?_)
 refine f_ U<|KK A<|av<|nE hQ [0] (mc 1 U mn) U ?_
 clear hQ hN F T9 A D C
 refine congrArg (fun z=>Value.tuple #[_,vB z]) ?_
 first|rfl|(simp_all [gV]; done)
theorem IY (d:ao) (sgA:OA) (sgC g1:Nat):
 dN Tryz.prog 149 [(vA (nO.cells (nO.mk (Value.func (.func 205) [].toArray [].toArray) (Value.func (.func 206) [].toArray [].toArray)))),(vP g1)] [(rd sgA d.aZ.aa.length 2 (d.aZ.aa.map aH.cells)),(cv g1 58 (aP.cells (aP.mk d.Out d.cY d.Time (jI d.aZ sgA sgC))))] (vB d.Out):=by
 refine bH kr Tryz.func149 U U fun D Q hQ hN=>?_
 try dsimp only
 refine WS fun _ A=>eT U fun C=>bG 1 U<|RK A<|WS fun _ B=>fD 3 [0,1] (mc 0 U (mr 2 U mn)) U<|rS (CL (UA d sgA sgC) (bq [1]) U)<|rP 1 [] mn ?_
 refine RK B<|av<|Q1 hQ U U U ?_
 rfl
theorem HS (d:ao) (sgA:OA) (sgC g1:Nat):
 dN Tryz.prog 149 [(vA (nO.cells (nO.mk (Value.func (.func 208) [].toArray [].toArray) (Value.func (.func 209) [].toArray [].toArray)))),(vP g1)] [(rd sgA d.aZ.aa.length 2 (d.aZ.aa.map aH.cells)),(cv g1 58 (aP.cells (aP.mk d.Out d.cY d.Time (jI d.aZ sgA sgC))))] (vB d.cY):=by
 refine bH kr Tryz.func149 U U fun D Q hQ hN=>?_
 try dsimp only
 refine WS fun _ A=>eT U fun C=>bG 1 U<|RK A<|WS fun _ B=>fD 3 [0,1] (mc 0 U (mr 2 U mn)) U<|rS (CL (Vi d sgA sgC) (bq [1]) U)<|rP 1 [] mn ?_
 refine RK B<|av<|Q1 hQ U U U ?_
 rfl
theorem IE (d:ao) (sgA:OA) (sgC g1:Nat):
 dN Tryz.prog 149 [(vA (nO.cells (nO.mk (Value.func (.func 211) [].toArray [].toArray) (Value.func (.func 212) [].toArray [].toArray)))),(vP g1)] [(rd sgA d.aZ.aa.length 2 (d.aZ.aa.map aH.cells)),(cv g1 58 (aP.cells (aP.mk d.Out d.cY d.Time (jI d.aZ sgA sgC))))] (vB true):=by
 refine bH kr Tryz.func149 U U fun D Q hQ hN=>?_
 try dsimp only
 refine WS fun _ A=>eT U fun C=>bG 1 U<|RK A<|WS fun _ B=>fD 3 [0,1] (mc 0 U (mr 2 U mn)) U<|rS (CL (TS d sgA sgC) (bq [1]) U)<|rP 1 [] mn ?_
 refine RK B<|av<|Q1 hQ U U U ?_
 rfl
end
end Go.Proofs.YtijpnoadncadoaaGreatDoor
