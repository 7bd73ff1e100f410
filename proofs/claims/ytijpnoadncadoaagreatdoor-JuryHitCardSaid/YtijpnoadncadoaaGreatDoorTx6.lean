/-
 The statement juryHit_said, part 6 of 8: B4, B2, B3, B5, B6, V2, V5, V6, Wh1, V4, V8, Wh2, Jw1, IdxK, Jw2, S1, Jw3.
 Conditions: none.
-/
import Derived.Test.YtijpnoadncadoaaGreatDoorTx1
import Derived.Test.YtijpnoadncadoaaGreatDoorTx2
import Derived.Test.YtijpnoadncadoaaGreatDoorTx3
import Derived.Test.YtijpnoadncadoaaGreatDoorTx4
import Derived.Test.YtijpnoadncadoaaGreatDoorTx5
namespace Go.Proofs.YtijpnoadncadoaaGreatDoor
set_option maxRecDepth 100000
set_option maxHeartbeats 4000000
set_option linter.unusedVariables false
section
open Go.RowKit
theorem Lb (n lo hi:Int) (g1 g2:Nat):
 dG Tryz.prog 69 [(vI n),(vP g1),(vP g2)] [(cu g1 3 [(vI lo)]),(cu g2 3 [(vI hi)])] (vB (decide (n<lo∨hi<n))):=by
 refine bG kr Tryz.func69 U U fun D Q hQ hN=>?_
 try dsimp only
 refine WS fun _ B=>bD 1 U<|RK B<|WS fun _ A=>rP 4 [] (mr 0 U mn) ?_
 refine b_ (t:=8) U (aU fun C=>?_) (aT fun C=>?_)
 ·refine rP 5 [] mn ?_
  refine RK A<|aq<|Q1 hQ U U U ?_
  exact cB (dx I).symm
 refine rP 5 [] (mr 1 U mn) ?_
 refine RK A<|aq<|Q1 hQ U U U ?_
 exact cB (gR.2 I)
theorem hU (lo hi:Int) (l:List Int) (lA:OA) (lC:Nat) (hlen:l.length≤1000000):
 dG Tryz.prog 44 [(vI lo),(vI hi),(vS lA l.length lC)] [(rd lA l.length 1 (l.map iC))] (vB (qi lo hi l)):=by
 refine bG kr Tryz.func44 U U fun F Q hQ hN=>?_
 try dsimp only
 refine WS fun _ D=>wJ U U fun A=>wJ U U fun B=>bD 1 U<|RK D<|WS fun _ E=>rP 1 [] mn ?_
 refine rS (FU U) ?_
 refine rS (CL (p_ l lA lC (Value.func (.func 69) [].toArray [(vP A),(vP B)].toArray) (fun C=>(decide (C<lo∨hi<C))) (dR [(cu A 3 [(vI lo)]),(cu B 3 [(vI hi)])]) (by intro C _; exact lh (fi:=[]) (ca:=[(vP A),(vP B)]) (jS (Lb C lo hi A B) (bu [0,1]))) hlen) (gY 2 U U<|aK (jX (bu [1,0]))<|aO) U) ?_
 refine rP 2 [] mn ?_
 refine RK E<|aq ?_
 exact Q1 hQ U U U U
theorem Uk (n d:Int) (hd:2≤d):
 dG Tryz.prog 65 [(vI n),(vI d)] [] (vI (R_ n d)):=by
 refine bG kr Tryz.func65 U U fun C Q hQ hN=>?_
 try dsimp only
 refine WS fun _ A=>bD 1 U<|RK A<|WS fun _ B=>bD 2 U<|rS (BI U Pd)<|rS (BI U Jb)<|bD 1 U<|rS (BI U (Pf I (PZ (SA _) hd)))<|rP 1 [] mn ?_
 refine RK B<|aq ?_
 exact Q1 hQ U U U U
theorem Jd (n d:Int) (hd:1≤d∧d≤1000000) (hn:0≤n∧n≤1000000000000000):
 dG Tryz.prog 65 [(vI n),(vI d)] [] (vI (oZ n d)):=by
 refine bG kr Tryz.func65 U U fun C Q hQ hN=>?_
 try dsimp only
 refine WS fun _ A=>bD 1 U<|RK A<|WS fun _ B=>bD 5 U<|rS (BI U (ue I I I))<|rP 1 [] mn ?_
 refine RK B<|aq ?_
 exact Q1 hQ U U U U
theorem Fs (c:aw) (sA:OA) (sC:Nat) (at_:Int) (hc:e8 c) (ha:0≤at_∧at_≤90000000):
 dG Tryz.prog 97 [(vA (dq.cells (dq.mk c.dC (bH.mk sA c.bI.length sC)))),(vI at_)] [(rd sA c.bI.length 3 (c.bI.map cQ.cells))] (vA (ag.cells (iF c at_))):=by
 have X:=hc.len
 have J:=hc.sN
 refine bG kr Tryz.func97 U U fun e Q hQ hN=>?_
 try dsimp only
 refine WS fun _ M=>eI U fun b=>AL U dV fun d=>RK M<|WS fun _ N=>rS (SX (bp (xs:=[(0,.const (vI (-1099511627776))),(1,.const (vI 1099511627776))]) (cs:=(ag.cells (ag.mk (-1099511627776) 1099511627776))) U U (bo gX U)) U U)<|AL U dV fun W=>fG U cZ U<|RK N<|ak fun _ O=>ak fun _ P=>?_
 have R:(ag.cells (ag.mk (-1099511627776) 1099511627776))=(ag.cells (gO c at_ 0)):=by rfl
 rw [R]
 refine au<|rP 4 [] (mc 2 U mn) ?_
 refine RK P<|aH ?_
 have A:(0≤c.bI.length):=by exact Nat.zero_le _
 refine bY (ι:={z:Nat // (z≤c.bI.length)}) [1,2,4,5,11,12] [1,2,3] U U (fun z=>[(13,(vI (z.1:Int)))]) (fun z=>[(cu W 53 (ag.cells (gO c at_ z.1)))]) (fun _=>rfl) (fun _=>rfl) (fun z=>c.bI.length-z.1) ⟨0,A⟩ (bB U) (aQ [1,2,3,0]) ?_
 clear A
 rintro ⟨i,S⟩ J9 L
 try dsimp only
 refine WS fun _ B=>rP 1 [] mn ?_
 refine RK B<|ak fun _ C=>bW U (aT fun K=>?_) (aU fun K=>?_)
 ·refine bP<|ai<|ai<|aJ<|KK O<|WS fun _ G=>rP 1 [] (mc 3 U mn) ?_
  refine fG U cZ U<|RK G<|aq<|CV hQ [0] (mc 0 U mn) U ?_
  rw [nF (show c.bI.length≤i by omega)]
 refine WK C<|ak fun _ D=>aH<|WS fun _ E=>?_
 obtain ⟨x,hx⟩:=aL c.bI i I
 have AA:=bM cQ.cells hx
 refine rS (IA i U (aA 2 U) wX dc I I)<|rS (lx i 0 (cQ.cells x) U cj (aA 2 U) AA U dc U U)<|AL U yC fun V=>fG U z5 U<|RK E<|WS fun _ F=>rP 5 [0,1] (mc 2 U (mc 0 U mn)) ?_
 have T:=hc.vp hx
 have Z:=Bb hc ha i
 have Y:=Fl J ha (show 0≤x.At∧x.At≤90000000 by omega)
 refine eQ 5 [] (mc 0 U mn) U<|rS (MX U)<|rS (BI U (uB ⟨I,I⟩))<|rS (CL (Jd (c.dC*(max (at_-x.At) (x.At-at_))) 1000000 I I) (aO) U)<|bD 1 U<|RK F<|au<|rP 6 [0,1] (mc 4 U (mc 0 U mn)) ?_
 have a:0≤oZ (c.dC*max (at_-x.At) (x.At-at_)) 1000000∧oZ (c.dC*max (at_-x.At) (x.At-at_)) 1000000≤90001:=uY J ha T.1
 refine bD 1 U<|rS (MX U)<|rP 7 [0,1] (mc 4 U (mc 0 U mn)) ?_
 refine rS (MN U)<|rS (SX (bp (xs:=[(0,.tmp 37),(1,.tmp 45)]) (cs:=(ag.cells (ag.mk (max ((gO c at_ i).Lo) (x.eB.Lo-(oZ (c.dC*(max (at_-x.At) (x.At-at_))) 1000000))) (min ((gO c at_ i).Hi) (x.eB.Hi+(oZ (c.dC*(max (at_-x.At) (x.At-at_))) 1000000)))))) U U (bo gX U)) U U)<|TA U cZ U<|aF<|aN<|KK D ?_
 have H:(ag.cells (ag.mk (max ((gO c at_ i).Lo) (x.eB.Lo-(oZ (c.dC*(max (at_-x.At) (x.At-at_))) 1000000))) (min ((gO c at_ i).Hi) (x.eB.Hi+(oZ (c.dC*(max (at_-x.At) (x.At-at_))) 1000000)))))=(ag.cells (gO c at_ (i+1))):=by rw [kb hx]; rfl
 rw [H]
 refine au<|rP 2 [] mn ?_
 refine aF ?_
 have AB:(vI (((i+1):Nat):Int))=(vI ((i:Int)+1)):=by exact cI I
 refine bg (L ⟨(i+1),(by first|omega|(simp only []; omega))⟩ _ _ _ U os (cG 6<|bf U AB<|dh.nil _) (aQ [1,2,3,4]))
theorem Qj (c:aw) (sA:OA) (sC:Nat) (hlen:c.bI.length≤1000000) (hcap:c.bI.length≤sC):
 dG Tryz.prog 110 [(vA (dq.cells (dq.mk c.dC (bH.mk sA c.bI.length sC))))] [(rd sA c.bI.length 3 (c.bI.map cQ.cells))] (vB (decide (e8 c))):=by
 refine bG kr Tryz.func110 U U fun w0 Q hQ hN=>?_
 try dsimp only
 refine WS fun _ A8=>eI U fun b2=>bD 1 U<|RK A8<|Am U<|ak fun _ A9=>WS fun _ q=>rP 2 [] (mc 0 U mn) ?_
 refine ej (xs:=[.tmp 11]) (cs:=[(vI c.dC)]) U dv kj U U U U (by simp [Value.cells]) U U fun b5=>?_
 refine rS (CL (dG.eq (hU 0 1000 ([c.dC]) (some ⟨b5,0,none⟩) 1 (by (simp; done))) cD) (aK (bw 0 U U (by simp [bL]) U)<|aO) U) ?_
 refine rP 2 [] mn ?_
 refine b_ (t:=15) U (bq fun AB=>?_) (br fun AB=>?_)
 ·refine bD 7 U<|RK q<|aS U<|WS fun _ Bp=>rP 1 [] mn ?_
  refine RK Bp<|aq<|Q1 hQ U U U ?_
  exact cB (bE fun h=>AB h.sN).symm
 refine rP 3 [] (mc 1 U mn) ?_
 refine ej (xs:=[.tmp 18]) (cs:=[(vI (c.bI.length:Int))]) U dv kj U U U U (by simp [Value.cells]) U U fun b7=>?_
 refine rS (CL (dG.eq (hU 1 5 ([(c.bI.length:Int)]) (some ⟨b7,0,none⟩) 1 (by (simp; done))) cD) (aK (bw 0 U U (by simp [bL]) U)<|aO) U) ?_
 refine rP 2 [] mn ?_
 refine RK q<|cx U (bq fun O=>?_) (br fun O=>?_)
 ·refine WS fun _ B3=>rP 1 [] mn ?_
  refine RK B3<|aq<|Q1 hQ U U U ?_
  exact cB (bE fun h=>O (by have:=h.len; omega)).symm
 refine WK A9<|WS fun _ B9=>bD 1 U<|RK B9<|WS fun _ R=>bD 1 U<|RK R<|ak fun _ S=>Ak<|KK S<|ak fun _ K=>WS fun _ T=>rP 4 [] (mc 2 U mn) ?_
 refine RK T<|aH ?_
 have B:(0≤c.bI.length)∧(tj c 0):=by exact ⟨Nat.zero_le _,GN⟩
 have r:(vI (kG c 0))=(vI (-1)):=by rw [gQ rfl]
 refine bY (ι:={z:Nat // (z≤c.bI.length)∧(tj c z)}) [1,2,4,24,25] [2,3] U U (fun z=>[(3,(vI (kG c z.1))),(26,(vI (z.1:Int)))]) (fun z=>[]) (fun _=>rfl) (fun _=>rfl) (fun z=>c.bI.length-z.1) ⟨0,B⟩ (bf U r<|bB U) (aQ [2,3]) ?_
 clear B
 rintro ⟨i,⟨L,C⟩⟩ J15 P
 try dsimp only
 have C3: -1≤kG c i∧kG c i≤86400000:=O9 L C
 refine WS fun _ AA=>rP 1 [] mn ?_
 refine RK AA<|ak fun _ V=>bW U (aT fun A3=>?_) (aU fun A3=>?_)
 ·refine bP<|ai<|ai<|aJ<|KK K<|WS fun _ f=>rP 2 [] mn ?_
  refine RK f<|aq<|Q1 hQ U U U ?_
  exact cB (dx (GQ AB I (by have e:i=c.bI.length:=I; rw [← e]; exact C))).symm
 refine WK V<|ak fun _ W=>aH<|WS fun _ X=>rP 1 [] mn ?_
 obtain ⟨x,hx⟩:=aL c.bI i I
 have Cp:=bM cQ.cells hx
 refine rS (IA i U (aA 1 U) wX dc I I)<|rS (lx i 0 (cQ.cells x) U cj (aA 1 U) Cp U dc U U)<|AL U yC fun Cx=>rP 1 [] mn ?_
 refine fG U z5 U<|RK X ?_
 refine mD (ι:=Unit) [1,2,3,5,6,24,25,26] [0,1,2] U U (fun z=>[(4,(vB (decide (fJ c i x))))]) (fun z=>[]) (fun _=>rfl) (fun _=>rfl) ?_ fun K22 G=>?_
 ·intro _
  try dsimp only
  refine ak fun _ Y=>WS fun _ Z=>eQ 3 [] (mc 1 U mn) U<|rS (Wf i U wX I I)<|rP 2 [] mn ?_
  refine RK Z<|aH ?_
  have B:(0≤i)∧((decide (fJ c i x))=(decide (mE c i x 0))):=by exact ⟨Nat.zero_le _,gR.2 Db.symm⟩
  refine bY (ι:={z:Nat×Bool // (z.1≤i)∧(z.2=(decide (mE c i x z.1)))}) [1,2,3,5,6,24,25,26,59,60] [0,1,2] U U (fun z=>[(4,(vB z.1.2)),(61,(vI (z.1.1:Int)))]) (fun z=>[]) (fun _=>rfl) (fun _=>rfl) (fun z=>i-z.1.1) ⟨(0,(decide (fJ c i x))),B⟩ (bB U) (aQ [0,1,2]) ?_
  clear B
  rintro ⟨⟨k,b⟩,⟨M,A⟩⟩ J25 F
  try dsimp only at M A
  try dsimp only
  refine WS fun _ a=>rP 1 [] mn ?_
  refine RK a<|ak fun _ d=>bW U (aT fun A5=>?_) (aU fun A5=>?_)
  ·refine bP<|ai<|ai<|aJ<|KK Y<|ak fun _ m=>WS fun _ n=>rP 2 [] mn ?_
   refine RK n<|cx U (fun D=>?_) (fun D=>?_)
   ·rw [Bool.not_eq_true'] at D
    refine bP<|ai<|fh U<|ai<|ai<|aJ<|KK K<|WS fun _ p=>rP 2 [] mn ?_
    refine RK p<|aq<|Q1 hQ U U U ?_
    exact cB (by have e:k=i:=I; rw [e] at A; rw [D] at A ⊢; exact (bE (JB hx (of_decide_eq_false A.symm))).symm)
   rw [Bool.not_eq_false'] at D
   refine WK m<|au<|eQ 3 [] (mc 0 U mn) U<|aF<|aN<|KK W<|au<|rP 2 [] mn ?_
   refine aF ?_
   have AF:(vB true)=(vB b):=by exact cB D.symm
   have AO:(vI (kG c (i+1)))=(vI x.At):=by rw [oB hx]
   have Ay:(vI (((i+1):Nat):Int))=(vI ((i:Int)+1)):=by exact cI I
   refine bg (P ⟨(i+1),⟨I,G6 C hx (by have e:k=i:=I; rw [e] at A; exact of_decide_eq_true (A.symm.trans D))⟩⟩ _ _ _ U os (dh.cons U<|dh.cons U<|bf U AF<|dh.cons U<|dh.cons U<|bf U AO<|bf U Ay<|dh.nil _) (aQ [1,2]))
  refine WK d<|ak fun _ H=>aH<|WS fun _ g=>?_
  obtain ⟨o,ho⟩:=aL c.bI k I
  have Ci:=bM cQ.cells ho
  refine rS (Ws k U (aA 2 U) wX dc I I I)<|rS (lx k 0 (cQ.cells o) U cj (aA 2 U) Ci U dc U U)<|AL U yC fun C0=>fG U z5 U<|RK g<|WS fun _ l=>eQ 6 [0,1,2] (mc 2 U (mc 1 U (mc 0 U mn))) U<|rS (BI U Jb)<|rS (BI U Qc)<|rS (CL (Uk (AJ (c.dC*(AJ (x.At-o.At)))) 1000000 I) (aO) U)<|bD 1 U<|RK l<|au<|rP 2 [] mn ?_
  refine cp (t:=75) U (fun J=>?_) (fun J=>?_)
  ·refine bD 6 U<|bD 16 U<|aF<|aN<|KK H<|au<|rP 2 [] mn ?_
   refine aF ?_
   have AD:(vI (((k+1):Nat):Int))=(vI ((k:Int)+1)):=by exact cI I
   refine bg (F ⟨((k+1),false),⟨I,by exact (bE fun h=>by have h2:=((s9 ho).1 h).1; rw [A] at J; exact absurd (dx h2) (by rw [J]; decide)).symm⟩⟩ _ _ _ U os (cG 11<|bf U AD<|dh.nil _) (aQ [1,2,3]))
  refine rP 6 [0,1] (mc 1 U (mc 0 U mn)) ?_
  have A0:mE c i x k:=of_decide_eq_true (A.symm.trans J)
  obtain ⟨Ck,DS,Di⟩:=vb (fun j y hj hy=>(C j y hj hy).1) hx A0.1 I ho
  have N:=LV AB Ck
  refine rP 5 [] mn ?_
  refine cp (t:=86) U (aT fun E=>?_) (aU fun E=>?_)
  ·refine bD 11 U<|aF<|aN<|KK H<|au<|rP 2 [] mn ?_
   refine aF ?_
   have AC:(vI (((k+1):Nat):Int))=(vI ((k:Int)+1)):=by exact cI I
   refine bg (F ⟨((k+1),false),⟨I,by exact (bE fun h=>by have h2:=((s9 ho).1 h).2; rw [N] at E; exact E h2.1).symm⟩⟩ _ _ _ U os (cG 11<|bf U AC<|dh.nil _) (aQ [1,2,3]))
  refine eQ 11 [0,1] (mc 0 U (mc 1 U mn)) U<|aF<|aN<|KK H<|au<|rP 2 [] mn ?_
  refine aF ?_
  have w:(vI (((k+1):Nat):Int))=(vI ((k:Int)+1)):=by exact cI I
  refine bg (F ⟨((k+1),(decide ((o.eB.Lo-x.eB.Hi)≤(R_ (AJ (c.dC*(AJ (x.At-o.At)))) 1000000)))),⟨I,by exact gR.2 (by rw [s9 ho,N]; rw [N] at E; exact ⟨fun h=>⟨A0,E,h⟩,fun h=>h.2.2⟩)⟩⟩ _ _ _ U os (cG 11<|bf U w<|dh.nil _) (aQ [1,2,3]))
 refine au<|rP 4 [] (mc 0 U mn) ?_
 refine ej (xs:=[.tmp 34]) (cs:=[(vI x.At)]) U dv kj U U U U (by simp [Value.cells]) U U fun A1=>?_
 refine rS (CL (dG.eq (hU ((kG c i)+1) 86400000 ([x.At]) (some ⟨A1,0,none⟩) 1 (by (simp; done))) cD) (aK (bw 0 U U (by simp [bL]) U)<|aO) U) ?_
 refine rP 1 [] mn ?_
 refine cp (t:=37) U (aT fun A6=>?_) (aU fun A6=>?_)
 ·refine rP 19 [] mn ?_
  refine aF ?_
  have v:(decide (fJ c i x))=false:=bE (by unfold fJ; omega)
  refine bg (jl (cG 8<|nJ U v<|dh.nil _) (aQ [1,2,3]) (G ()))
 refine rP 6 [] (mc 1 U mn) ?_
 refine ej (xs:=[.tmp 40,.tmp 43]) (cs:=[(vI x.eB.Lo),(vI x.eB.Hi)]) U dv kj U U U U (by simp [Value.cells]) U U fun A2=>?_
 refine rS (CL (dG.eq (hU (-10000) 10000 ([x.eB.Lo,x.eB.Hi]) (some ⟨A2,0,none⟩) 2 (by (simp; done))) o3) (aK (bw 0 U U (by simp [bL]) U)<|aO) U) ?_
 refine rP 2 [] mn ?_
 refine cp (t:=47) U (aT fun A7=>?_) (aU fun A7=>?_)
 ·refine rP 9 [] mn ?_
  refine aF ?_
  have u:(decide (fJ c i x))=false:=bE (by unfold fJ; omega)
  refine bg (jl (cG 8<|nJ U u<|dh.nil _) (aQ [2,3,4]) (G ()))
 refine rP 9 [] (mc 2 U mn) ?_
 refine aF ?_
 have s:(decide (fJ c i x))=(decide (x.eB.Lo≤x.eB.Hi)):=gR.2 (by unfold fJ; omega)
 refine bg (jl (cG 8<|nJ U s<|dh.nil _) (aQ [2,3,4]) (G ()))
theorem Tw (ms:List aw) (az:List RA) (k:Nat) (m:aw) (a:RA) (hm:ms[k]? =some m) (ha:az[k]? =some a) (hc:m.bI.length≤a.2∧m.bI.length≤1000000):
 dG Tryz.prog 109 [(vA (dq.cells (dq.mk m.dC (bH.mk a.1 m.bI.length a.2))))] [(dR (bj aw.f_ ms az))] (vB (!(decide (e8 m)))):=by
 obtain ⟨C,D⟩:=hc
 refine bG kr Tryz.func109 U U fun F Q hQ hN=>?_
 try dsimp only
 refine WS fun _ A=>eI U fun E=>bD 1 U<|RK A<|WS fun _ B=>eQ 1 [] (mc 0 U mn) U<|rS (CL (Qj m a.1 a.2 asm asm) (aK (show iK _ (rd a.1 m.bI.length 3 (m.bI.map cQ.cells)).holds from (cO 1 U (bK hm ha (by simp [aw.f_]))))<|aO) U)<|rP 2 [] mn ?_
 refine RK B<|aq ?_
 exact Q1 hQ U U U U
theorem G2 (l:List aw) (az:List RA) (lA:OA) (lC:Nat) (f:Value) (p:aw→Bool) (X:ax) (hf: ∀ (k:Nat) m a,l[k]? =some m→az[k]? =some a→DY Tryz.prog f [.agg (aw.cells m a).toArray] [X] (.bool (p m))) (hlen:l.length≤1000000) (has:az.length=l.length):
 dG Tryz.prog 130 [(vS lA l.length lC),f] [(rd lA l.length 2 (List.zipWith aw.cells l az)),(dR (bj aw.f_ l az)),X] (vI (sM p l)):=by
 refine bG kr Tryz.func130 U U fun T Q hQ hN=>?_
 try dsimp only
 refine WS fun _ AA=>bD 1 U<|RK AA<|ak fun _ J=>WS fun _ K=>rP 3 [] mn ?_
 refine RK K<|aH ?_
 have B:(0≤l.length)∧((l.take 0).any p=false):=by simp
 refine bY (ι:={z:Nat // (z≤l.length)∧((l.take z).any p=false)}) [0,1,7] [0,1,2] U U (fun z=>[(8,(vI (z.1:Int)))]) (fun z=>[]) (fun _=>rfl) (fun _=>rfl) (fun z=>l.length-z.1) ⟨0,B⟩ (bB U) (aQ [0,1,2]) ?_
 clear B
 rintro ⟨i,⟨P,A⟩⟩ J4 H
 try dsimp only
 refine WS fun _ L=>rP 1 [] mn ?_
 refine RK L<|ak fun _ M=>bW U (aT fun S=>?_) (aU fun S=>?_)
 ·refine bP<|ai<|ai<|aJ<|KK J<|WS fun _ E=>rP 1 [] mn ?_
  refine RK E<|aq<|Q1 hQ U U U ?_
  exact cI (qd I A).symm
 refine WK M<|ak fun _ N=>aH<|WS fun _ O=>bD 2 U<|RK O<|WS fun _ C=>rP 3 [] mn ?_
 obtain ⟨x,hx⟩:=aL l i I
 obtain ⟨xa,G⟩:=aL az i I
 have R:(List.zipWith aw.cells l az)[i]? =some (aw.cells x xa):=dy hx G
 refine rS (IA i U (aA 0 U) Az dc I I)<|rS (lx i 0 (dq.cells (dq.mk x.dC (bH.mk xa.1 x.bI.length xa.2))) U cj (aA 0 U) R U dc U U)<|rS (SX (qa U U U (hf i x xa hx G) (bu [2])) U U)<|RK C<|cx U (fun hp=>?_) (fun hp=>?_)
 ·refine WS fun _ D=>rP 2 [] mn ?_
  refine RK D<|aq<|Q1 hQ U U U ?_
  exact cI (tO hx hp A).symm
 refine cf<|aN<|KK N<|au<|rP 2 [] mn ?_
 refine aF ?_
 have F:(vI (((i+1):Nat):Int))=(vI ((i:Int)+1)):=by exact cI I
 refine bg (H ⟨(i+1),⟨I,uq hx A hp⟩⟩ _ _ _ U os (cG 3<|bf U F<|dh.nil _) (aQ [0,1,2]))
theorem AA (l:List aw) (az:List RA) (lA:OA) (lC:Nat) (f:Value) (p:aw→Bool) (X:ax) (hf: ∀ (k:Nat) m a,l[k]? =some m→az[k]? =some a→DY Tryz.prog f [.agg (aw.cells m a).toArray] [X] (.bool (p m))) (hlen:l.length≤1000000) (has:az.length=l.length):
 dG Tryz.prog 108 [(vS lA l.length lC),f] [(rd lA l.length 2 (List.zipWith aw.cells l az)),(dR (bj aw.f_ l az)),X] (vB (l.any p)):=by
 refine bG kr Tryz.func108 U U fun C Q hQ hN=>?_
 try dsimp only
 refine WS fun _ A=>bD 1 U<|RK A<|WS fun _ B=>bD 2 U<|rS (CL (G2 l az lA lC f p X (by exact hf) hlen has) (QN 0 1 2 U U U U U U) U)<|rP 2 [] mn ?_
 refine RK B<|aq<|Q1 hQ U U U ?_
 exact cB rN
theorem HI (l:List bJ) (lA:OA) (lC:Nat) (f:Value) (p:bJ→Bool) (X:ax) (hf: ∀ x0,x0∈l→DY Tryz.prog f [.agg (bJ.cells x0).toArray] [X] (.bool (p x0))) (hlen:l.length≤1000000):
 dG Tryz.prog 131 [(vS lA l.length lC),f] [(rd lA l.length 4 (l.map bJ.cells)),X] (vI (sM p l)):=by
 refine bG kr Tryz.func131 U U fun S Q hQ hN=>?_
 try dsimp only
 refine WS fun _ H=>bD 1 U<|RK H<|ak fun _ AA=>WS fun _ J=>rP 3 [] mn ?_
 refine RK J<|aH ?_
 have B:(0≤l.length)∧((l.take 0).any p=false):=by simp
 refine bY (ι:={z:Nat // (z≤l.length)∧((l.take z).any p=false)}) [0,1,7] [0,1] U U (fun z=>[(8,(vI (z.1:Int)))]) (fun z=>[]) (fun _=>rfl) (fun _=>rfl) (fun z=>l.length-z.1) ⟨0,B⟩ (bB U) (aQ [0,1]) ?_
 clear B
 rintro ⟨i,⟨O,A⟩⟩ J4 G
 try dsimp only
 refine WS fun _ K=>rP 1 [] mn ?_
 refine RK K<|ak fun _ L=>bW U (aT fun R=>?_) (aU fun R=>?_)
 ·refine bP<|ai<|ai<|aJ<|KK AA<|WS fun _ E=>rP 1 [] mn ?_
  refine RK E<|aq<|Q1 hQ U U U ?_
  exact cI (qd I A).symm
 refine WK L<|ak fun _ M=>aH<|WS fun _ N=>bD 2 U<|RK N<|WS fun _ C=>rP 3 [] mn ?_
 obtain ⟨x,hx⟩:=aL l i I
 have P:=bM bJ.cells hx
 refine rS (IA i U (aA 0 U) wq dc I I)<|rS (lx i 0 (bJ.cells x) U cj (aA 0 U) P U dc U U)<|rS (SX (qa U U U (hf x (aR hx)) (bu [1])) U U)<|RK C<|cx U (fun hp=>?_) (fun hp=>?_)
 ·refine WS fun _ D=>rP 2 [] mn ?_
  refine RK D<|aq<|Q1 hQ U U U ?_
  exact cI (tO hx hp A).symm
 refine cf<|aN<|KK M<|au<|rP 2 [] mn ?_
 refine aF ?_
 have F:(vI (((i+1):Nat):Int))=(vI ((i:Int)+1)):=by exact cI I
 refine bg (G ⟨(i+1),⟨I,uq hx A hp⟩⟩ _ _ _ U os (cG 3<|bf U F<|dh.nil _) (aQ [0,1]))
theorem z_ (l:List bJ) (lA:OA) (lC:Nat) (f:Value) (p:bJ→Bool) (X:ax) (hf: ∀ x0,x0∈l→DY Tryz.prog f [.agg (bJ.cells x0).toArray] [X] (.bool (p x0))) (hlen:l.length≤1000000):
 dG Tryz.prog 112 [(vS lA l.length lC),f] [(rd lA l.length 4 (l.map bJ.cells)),X] (vB (l.any p)):=by
 refine bG kr Tryz.func112 U U fun C Q hQ hN=>?_
 try dsimp only
 refine WS fun _ A=>bD 1 U<|RK A<|WS fun _ B=>bD 2 U<|rS (CL (HI l lA lC f p X (by exact hf) hlen) (bu [0,1]) U)<|rP 2 [] mn ?_
 refine RK B<|aq<|Q1 hQ U U U ?_
 exact cB rN
end
section
open Go.RowKit
theorem pR (a:ag) (l:List ag) (lA:OA) (lC:Nat) (ha:lV a) (hl: ∀ z∈l,lV z) (hlen:l.length≤4):
 dG Tryz.prog 118 [(vA (ag.cells a)),(vS lA l.length lC)] [(rd lA l.length 2 (l.map ag.cells))] (vA (ag.cells (kQ a l))):=by
 refine bG kr Tryz.func118 U U fun AA Q hQ hN=>?_
 try dsimp only
 refine WS fun _ AB=>eI U fun R=>AL U dV fun T=>RK AB<|ak fun _ J=>WS fun _ K=>rP 3 [] mn ?_
 refine RK K<|aH ?_
 have A:(0≤l.length):=by exact Nat.zero_le _
 refine bY (ι:={z:Nat // (z≤l.length)}) [2,4,7,8] [0,2] U U (fun z=>[(9,(vI (z.1:Int)))]) (fun z=>[(cu R 53 (ag.cells (kQ a (l.take z.1))))]) (fun _=>rfl) (fun _=>rfl) (fun z=>l.length-z.1) ⟨0,A⟩ (bB U) (aQ [0,2,1]) ?_
 clear A
 rintro ⟨i,N⟩ J6 H
 try dsimp only
 refine WS fun _ L=>rP 1 [] mn ?_
 refine RK L<|ak fun _ M=>bW U (aT fun S=>?_) (aU fun S=>?_)
 ·refine bP<|ai<|ai<|aJ<|KK J<|ak fun _ D=>?_
  have G:(ag.cells (kQ a (l.take i)))=(ag.cells (kQ a l)):=by rw [Ic I]
  rw [G]
  refine au<|rP 1 [] (mc 2 U mn) ?_
  refine fG U cZ U<|RK D<|aq ?_
  exact CV hQ [0] (mc 0 U mn) U U
 refine WK M<|ak fun _ B=>aH<|WS fun _ C=>?_
 obtain ⟨x,hx⟩:=aL l i I
 have O:=bM ag.cells hx
 refine rS (IA i U (aA 1 U) lq dc I I)<|rS (lx i 0 (ag.cells x) U cj (aA 1 U) O U dc U U)<|AL U dV fun P=>fG U cZ U<|RK C<|au ?_
 have hb:=Qu ha hl i
 have hz:=hl x (aR hx)
 unfold lV at hz
 refine rP 10 [0,1,0,1] (mc 3 U (mc 0 U mn)) ?_
 refine rS (SX (bp (xs:=[(0,.tmp 17),(1,.tmp 22)]) (cs:=(ag.cells (ag.mk (((kQ a (l.take i)).Lo)+x.Lo) (((kQ a (l.take i)).Hi)+x.Hi)))) U U (bo gX U)) U U)<|TW U cZ U<|aF<|aN<|KK B ?_
 have E:(ag.cells (ag.mk (((kQ a (l.take i)).Lo)+x.Lo) (((kQ a (l.take i)).Hi)+x.Hi)))=(ag.cells (kQ a (l.take (i+1)))):=by rw [zA hx]; rfl
 rw [E]
 refine au<|rP 2 [] mn ?_
 refine aF ?_
 have F:(vI ((i+1):Int))=(vI ((i:Int)+1)):=by exact cI I
 refine bg (H ⟨(i+1),(by first|omega|(simp only []; omega))⟩ _ _ _ U os (cG 4<|bf U F<|dh.nil _) (aQ [1,2,3]))
theorem FN (ts:List ao) (tsA:OA) (tsC:Nat) (hlen:ts.length≤1000000) (hside: ∀ x∈ts,0≤x.jg∧x.jg≤255):
 dG Tryz.prog 115 [(vA (bO.cells (bO.mk (bH.mk tsA ts.length tsC))))] [(rd tsA ts.length 9 (ts.map ao.cells))] (vT [(vA (eu.cells (eu.mk (bO.mk (bH.mk tsA ts.length tsC))))),(vI (if di ts=true then 0 else 10))]):=by
 refine bG kr Tryz.func115 U U fun E Q hQ hN=>?_
 try dsimp only
 refine WS fun _ A=>eI U fun C=>AL U IS fun D=>bD 1 U<|RK A<|ak fun _ B=>dp ct 4 kr<|lU 1 [] (mc 1 U mn) U<|dS (SX (bp (xs:=[(0,.tmp 4)]) (cs:=(eu.cells (eu.mk (bO.mk (bH.mk tsA ts.length tsC))))) U U (bo Sm U)) U U)<|lU 1 [] (mc 1 U mn) U<|dS (CL (BF ts tsA tsC hlen hside) (bu [2]) U)<|cK<|fG U Jp U<|rP 1 [] mn ?_
 refine RK B<|aq ?_
 exact mV hQ [0] (mc 0 U mn) U U
theorem LL (f:Int) (tsA:OA) (tsN tsC:Nat):
 pG Tryz.prog 134 [(vA (eu.cells (eu.mk (bO.mk (bH.mk tsA tsN tsC))))),(vI f)] [] (fun (x:Nat×Nat)=>(Value.func (.func 151) [].toArray [(Value.pointer (some ⟨x.1,0,none⟩)),(Value.pointer (some ⟨x.2,0,none⟩))].toArray)) (fun (x:Nat×Nat)=>True) (fun (x:Nat×Nat)=>[(cu x.1 3 [(vI f)]),(cu x.2 196 (eu.cells (eu.mk (bO.mk (bH.mk tsA tsN tsC)))))]):=by
 refine e_ kr Tryz.func134 U U fun E Q hQ hN=>?_
 try dsimp only
 refine WS fun _ A=>eI U fun C=>wJ U U fun D=>bD 1 U<|RK A<|WS fun _ B=>rS (FU U)<|rP 1 [] mn ?_
 refine RK B<|aq<|LX hQ (D,C) [0,1] [] mn U U U U ?_
 trivial
theorem G3 (ts:List ao) (tsA:OA) (tsC:Nat) (f:Int) (g1 g2:Nat) (hst: ∀ x∈ts,bV x) (hlen:ts.length≤12) (hf:0≤f∧f≤ts.length):
 Nw Tryz.prog 151 [] [(vP g1),(vP g2)] [(rd tsA ts.length 9 (ts.map ao.cells)),(cu g1 3 [(vI f)]),(cu g2 196 (eu.cells (eu.mk (bO.mk (bH.mk tsA ts.length tsC)))))] (t_ ts f.toNat):=by
 refine EF kr Tryz.func151 U U fun l J Z A0 p Q hY g d hQ hN=>?_
 try dsimp only
 refine WS fun _ h=>AL U dV fun n=>AL U dV fun o=>RK h<|WS fun _ i=>rP 2 [] (mr 4 U mn) ?_
 refine RK i<|aH ?_
 have P:(0≤ts.length-f.toNat)∧(J 0 A0)∧(Fo A0 p A0):=by exact ⟨Nat.zero_le _,g,d⟩
 have m:(vI (f+(0:Int)))=(vI f):=by exact cI I
 refine bY (ι:={z:Nat×ax // (z.1≤ts.length-f.toNat)∧(J z.1 z.2)∧(Fo A0 p z.2)}) [0,1,2,4,5] [3,4,5] U U (fun z=>[(6,(vI (f+(z.1.1:Int))))]) (fun z=>[(cu o 53 (ag.cells (gL ts f.toNat z.1.1))),(cu n 53 (ag.cells (eE ts f.toNat z.1.1))),z.1.2]) (fun _=>rfl) (fun _=>rfl) (fun z=>ts.length-f.toNat-z.1.1) ⟨(0,A0),P⟩ (bf U m<|dh.nil _) (aQ [3,4,5,0,1,2]) ?_
 clear P
 rintro ⟨⟨k,A⟩,⟨W,R,S⟩⟩ J6 V
 try dsimp only at W R S
 try dsimp only
 refine ak fun _ j=>WS fun _ X=>rP 3 [0,1] (mc 4 U (mc 3 U mn)) ?_
 refine Fg 5 hY R S U U U (yP I) U U (fun B9 C B=>?_) (fun B9 C B=>?_)
 rotate_left 1
 ·refine rP 8 [] mn ?_
  refine RK X<|bR U<|bP<|ai<|ai<|aJ ?_
  refine hN _ _ _ (jV (vs:=[]) trivial fun w hs=>N_ 5 U C B hs)
 refine rP 8 [] (mr 2 U mn) ?_
 refine RK X<|bW U (aT fun c=>?_) (aU fun c=>?_)
 ·refine bP<|ai<|ai<|aJ ?_
  refine hN _ _ _ (jV (vs:=[]) trivial fun w hs=>TE 5 U (by rw [uf]; have e:ts.length-f.toNat+1=k+1:=I; rw [e]; exact C) B hs)
 refine WK j<|ak fun _ M=>aH<|mA ct [0,1,2,3,4,5,6,7,10,11,12,13,14,15,16,17] [8,9,18,19,20,21] [true,false,false,false,false,false,false,false,true,false,false,false,false,false,false,false] [8,9,18] [(rd tsA ts.length 9 (ts.map ao.cells)).ro,(cu g1 3 [(vI f)]).ro,(cu g2 196 (eu.cells (eu.mk (bO.mk (bH.mk tsA ts.length tsC))))).ro,B9] [(rd tsA ts.length 9 (ts.map ao.cells)).ro,(cu g1 3 [(vI f)]).ro,(cu g2 196 (eu.cells (eu.mk (bO.mk (bH.mk tsA ts.length tsC))))).ro,(cu o 53 (ag.cells (gL ts f.toNat k))),(cu n 53 (ag.cells (eE ts f.toNat k))),B9] kr (aQ [0,1,2,5]) (aQ [0,1,2,3,4,5])<|fS U (LW 4 U cj U U)<|eS U (FA 0 U fj U)<|eS U (FA 0 U fj U)<|eS U (Lj (vS tsA ts.length tsC) 2 U cj U U)<|eS U (MV U) ?_
 obtain ⟨x,hx⟩:=aL ts (f.toNat+k) I
 have a:=bM ao.cells hx
 refine eS U (IA (f.toNat+k) U (aA 0 U) yw dc I I) ?_
 have L:=hst x (aR hx)
 refine eS U (o9 (((f.toNat+k)*9)+1) U (aA 0 U) (Nat.mul_pos I dc) fj U)<|eS U (lx (f.toNat+k) 1 (ag.cells x.kP) U cj (aA 0 U) a U dc U U)<|fS U (LW 3 U cj U U)<|eS U (FA 0 U fj U)<|eS U (FA 0 U fj U)<|eS U (Lj (vS tsA ts.length tsC) 2 U cj U U)<|eS U (MV U)<|eS U (IA (f.toNat+k) U (aA 0 U) yw dc I I)<|eS U (o9 (((f.toNat+k)*9)+3) U (aA 0 U) (Nat.mul_pos I dc) fj U)<|eS U (lx (f.toNat+k) 3 (ag.cells x.l6) U cj (aA 0 U) a U dc U U)<|eh U<|mU [8,18] kr (iI ?_<|iI ?_<|qt)
 rotate_left 1
 ·refine vy (rem':=[8,9,19,20,21]) U kr fun T14 N=>ej (xs:=[.tmp 39]) (cs:=(ag.cells x.l6)) U lq dV U U U U (by simp [Value.cells,ag.aZ]) U U fun T=>aF (N _ _ (aQ [1,2,3,6]) (aQ [1,2,3,4,5,6]) ?_)
  refine N1 8<|vy (rem':=[9,19,20,21]) U kr fun T16 D=>ej (xs:=[.tmp 29]) (cs:=(ag.cells x.kP)) U lq dV U U U U (by simp [Value.cells,ag.aZ]) U U fun AA=>aF (D _ _ (aQ [2,3,4,7]) (aQ [2,3,4,5,6,7]) ?_)
  refine N1 9<|vy (rem':=[19,20,21]) U kr fun T18 O=>?_
  refine rS (CL (dG.eq (pR (eE ts f.toNat k) ([x.kP]) (some ⟨AA,0,none⟩) 1 (by exact qR hst I) (by intro z hz; simp only [cq] at hz; subst hz; exact uP L) sm) nP) (aK (bw 0 rfl rfl (by simp [ag.aZ]) rfl)<|aO) rfl) ?_
  refine aF (O _ _ (aQ [2,3,4,7]) (aQ [2,3,4,5,6,7]) ?_)
  refine N1 19<|NO U U [20,21] fun T19 E=>?_
  refine rS (CL (dG.eq (pR (gL ts f.toNat k) ([x.l6]) (some ⟨T,0,none⟩) 1 (by exact xC hst I) (by intro z hz; simp only [cq] at hz; subst hz; exact u0 L) sm) nP) (aK (bw 1 rfl rfl (by simp [ag.aZ]) rfl)<|aO) rfl) ?_
  refine aF (E _ _ (aQ [2,3,4,7]) ?_)
  refine N1 20<|NO U U [21] fun T20 F=>Sb U cZ U<|aF (F _ _ (aQ [2,3,4,7]) ?_)
  refine N1 21<|NO U U [] fun T21 G=>HV U cZ U<|aF (G _ _ (aQ [2,3,4,7]) ?_)
  refine lX<|aN<|KK M ?_
  have H:(ag.cells (mO (eE ts f.toNat k) x.kP))=(ag.cells (eE ts f.toNat (k+1))):=by rw [pI hx]
  rw [H]
  have AB:(ag.cells (mO (gL ts f.toNat k) x.l6))=(ag.cells (gL ts f.toNat (k+1))):=by rw [p9 hx]
  rw [AB]
  refine au<|rP 3 [] mn ?_
  refine aF ?_
  have K:(vI (f+(((k+1):Nat):Int)))=(vI ((f+(k:Int))+1)):=by exact cI I
  refine bg (V ⟨((k+1),B9),⟨I,C,B⟩⟩ _ _ _ U os (cG 5<|bf U K<|dh.nil _) (aQ [2,3,4,5,6,7]))
 refine vy (rem':=[9,18,19,20,21]) U kr fun T14 N=>ej (xs:=[.tmp 29]) (cs:=(ag.cells x.kP)) U lq dV U U U U (by simp [Value.cells,ag.aZ]) U U fun T=>aF (N _ _ (aQ [1,2,3,6]) (aQ [1,2,3,4,5,6]) ?_)
 refine mU [9,18] kr (iI ?_<|iI ?_<|qt)
 rotate_left 1
 ·refine vy (rem':=[9,19,20,21]) U kr fun T16 D=>ej (xs:=[.tmp 39]) (cs:=(ag.cells x.l6)) U lq dV U U U U (by simp [Value.cells,ag.aZ]) U U fun AA=>aF (D _ _ (aQ [2,3,4,7]) (aQ [2,3,4,5,6,7]) ?_)
  refine N1 9<|vy (rem':=[19,20,21]) U kr fun T18 O=>?_
  refine rS (CL (dG.eq (pR (eE ts f.toNat k) ([x.kP]) (some ⟨T,0,none⟩) 1 (by exact qR hst I) (by intro z hz; simp only [cq] at hz; subst hz; exact uP L) sm) nP) (aK (bw 1 rfl rfl (by simp [ag.aZ]) rfl)<|aO) rfl) ?_
  refine aF (O _ _ (aQ [2,3,4,7]) (aQ [2,3,4,5,6,7]) ?_)
  refine N1 19<|NO U U [20,21] fun T19 E=>?_
  refine rS (CL (dG.eq (pR (gL ts f.toNat k) ([x.l6]) (some ⟨AA,0,none⟩) 1 (by exact xC hst I) (by intro z hz; simp only [cq] at hz; subst hz; exact u0 L) sm) nP) (aK (bw 0 rfl rfl (by simp [ag.aZ]) rfl)<|aO) rfl) ?_
  refine aF (E _ _ (aQ [2,3,4,7]) ?_)
  refine N1 20<|NO U U [21] fun T20 F=>Sb U cZ U<|aF (F _ _ (aQ [2,3,4,7]) ?_)
  refine N1 21<|NO U U [] fun T21 G=>HV U cZ U<|aF (G _ _ (aQ [2,3,4,7]) ?_)
  refine lX<|aN<|KK M ?_
  have H:(ag.cells (mO (eE ts f.toNat k) x.kP))=(ag.cells (eE ts f.toNat (k+1))):=by rw [pI hx]
  rw [H]
  have AB:(ag.cells (mO (gL ts f.toNat k) x.l6))=(ag.cells (gL ts f.toNat (k+1))):=by rw [p9 hx]
  rw [AB]
  refine au<|rP 3 [] mn ?_
  refine aF ?_
  have K:(vI (f+(((k+1):Nat):Int)))=(vI ((f+(k:Int))+1)):=by exact cI I
  refine bg (V ⟨((k+1),B9),⟨I,C,B⟩⟩ _ _ _ U os (cG 5<|bf U K<|dh.nil _) (aQ [2,3,4,5,6,7]))
 refine vy (rem':=[18,19,20,21]) U kr fun T16 D=>?_
 refine rS (CL (dG.eq (pR (eE ts f.toNat k) ([x.kP]) (some ⟨T,0,none⟩) 1 (by exact qR hst I) (by intro z hz; simp only [cq] at hz; subst hz; exact uP L) sm) nP) (aK (bw 0 rfl rfl (by simp [ag.aZ]) rfl)<|aO) rfl) ?_
 refine aF (D _ _ (aQ [1,2,3,6]) (aQ [1,2,3,4,5,6]) ?_)
 refine N1 18<|vy (rem':=[19,20,21]) U kr fun T17 Y=>ej (xs:=[.tmp 39]) (cs:=(ag.cells x.l6)) U lq dV U U U U (by simp [Value.cells,ag.aZ]) U U fun b=>aF (Y _ _ (aQ [2,3,4,7]) (aQ [2,3,4,5,6,7]) ?_)
 refine N1 19<|NO U U [20,21] fun T19 E=>?_
 refine rS (CL (dG.eq (pR (gL ts f.toNat k) ([x.l6]) (some ⟨b,0,none⟩) 1 (by exact xC hst I) (by intro z hz; simp only [cq] at hz; subst hz; exact u0 L) sm) nP) (aK (bw 0 rfl rfl (by simp [ag.aZ]) rfl)<|aO) rfl) ?_
 refine aF (E _ _ (aQ [2,3,4,7]) ?_)
 refine N1 20<|NO U U [21] fun T20 F=>Sb U cZ U<|aF (F _ _ (aQ [2,3,4,7]) ?_)
 refine N1 21<|NO U U [] fun T21 G=>HV U cZ U<|aF (G _ _ (aQ [2,3,4,7]) ?_)
 refine lX<|aN<|KK M ?_
 have H:(ag.cells (mO (eE ts f.toNat k) x.kP))=(ag.cells (eE ts f.toNat (k+1))):=by rw [pI hx]
 rw [H]
 have AB:(ag.cells (mO (gL ts f.toNat k) x.l6))=(ag.cells (gL ts f.toNat (k+1))):=by rw [p9 hx]
 rw [AB]
 refine au<|rP 3 [] mn ?_
 refine aF ?_
 have K:(vI (f+(((k+1):Nat):Int)))=(vI ((f+(k:Int))+1)):=by exact cI I
 refine bg (V ⟨((k+1),B9),⟨I,C,B⟩⟩ _ _ _ U os (cG 5<|bf U K<|dh.nil _) (aQ [2,3,4,5,6,7]))
theorem I9 (ts:List ao) (tsA:OA) (tsC:Nat) (f t:Int) (hst: ∀ x∈ts,bV x) (hlen:ts.length≤12) (hf:0≤f∧f≤t∧t≤ts.length):
 dG Tryz.prog 117 [(vA (eu.cells (eu.mk (bO.mk (bH.mk tsA ts.length tsC))))),(vI f),(vI t)] [(rd tsA ts.length 9 (ts.map ao.cells))] (vT [(vA (ag.cells (eE ts f.toNat (t-f).toNat))),(vA (ag.cells (gL ts f.toNat (t-f).toNat)))]):=by
 refine bG kr Tryz.func117 U U fun w0 Q hQ hN=>?_
 try dsimp only
 refine WS fun _ M=>eI U fun a=>wJ U U fun b=>wJ U U fun d=>AL U dV fun e=>AL U dV fun g=>RK M<|ak fun _ AA=>WS fun _ V=>rP 2 [0,1] (mc 4 U (mc 3 U mn)) ?_
 refine cX (LL f tsA ts.length tsC) (aO) U fun u n=>?_
 obtain ⟨B,C⟩:=u
 try dsimp only
 refine RK V<|aH<|ji 7 U (by exact fun _ h=>h) ?_
 refine EM (L0:=[(3,(vP a)),(4,(vP b)),(5,(vP d)),(6,(vP e)),(7,(vP g))]) (F:=[(rd tsA ts.length 9 (ts.map ao.cells)).ro,(cu B 3 [(vI f)]),(cu C 196 (eu.cells (eu.mk (bO.mk (bH.mk tsA ts.length tsC)))))]) (xs:=(t_ ts f.toNat)) (fun k (y:ag×ag×Int)=>(k≤(t-f).toNat)∧(y.2.2=f+(k:Int))) (fun k y=>[(cu g 53 (ag.cells y.2.1)),(cu e 53 (ag.cells y.1)),(cu d 3 [(vI t)]),(cu b 3 [(vI y.2.2)]),(cu a 196 (eu.cells (eu.mk (bO.mk (bH.mk tsA ts.length tsC))))),(rd tsA ts.length 9 (ts.map ao.cells)).ro]) (fun c (z:Unit)=>(c= .exit 0)) (fun _ z=>[(cu g 53 (ag.cells (gL ts f.toNat (t-f).toNat))),(cu e 53 (ag.cells (eE ts f.toNat (t-f).toNat))),(cu d 3 [(vI t)]),(cu b 3 [(vI t)]),(cu a 196 (eu.cells (eu.mk (bO.mk (bH.mk tsA ts.length tsC))))),(rd tsA ts.length 9 (ts.map ao.cells)).ro]) [3,4,5,6,7,8] [0,1,2] (gP,gP,f) U U (G3 ts tsA tsC f B C (by first|assumption|omega|(simp; done)) (by first|assumption|omega|(simp; done)) I) U U U (by exact ⟨Nat.zero_le _,sm⟩) (by simp only [List.forall_mem_cons,List.not_mem_nil,false_imp_iff,implies_true,and_true]; exact ⟨⟨_,sm,(dH (bX _))⟩,⟨_,sm,(bX _)⟩,⟨_,sm,(bX _)⟩⟩) (by exact Dk) U (bB U) ?_ ?_ ?_ ?_
 rotate_left 1
 ·rintro q ⟨v,z2,m⟩ J
  obtain ⟨A,K⟩:=J
  try dsimp only at A K
  try dsimp only
  exfalso; rw [uf] at A; omega
 ·rintro r id _ Y
  have hc:=Y
  cases hc
  try dsimp only
  refine aJ<|KK AA<|ak fun _ D=>dA ct [2,3] [] [] [0,1,2,3,4,5,6,7,8,9] [] U U U U U<|eS U (LW 5 U cj U U)<|eS U (LW 4 U cj U U)<|eh U<|cd U fun T30 E=>HV U cZ U<|aF (E _ _ (aQ [0,1,2,3,4,5,6,7,8,9]) ?_)
  refine cd U fun T31 G=>TA U cZ U<|aF (G _ _ (aQ [0,1,2,3,4,5,6,7,8,9]) ?_)
  refine fp U<|KK D<|aq<|hQ _ _ _ (rn 0 U U<|jV (vs:=[(vA (ag.cells (eE ts f.toNat (t-f).toNat))),(vA (ag.cells (gL ts f.toNat (t-f).toNat)))]) ⟨⟨_,U,.inl ⟨_,_,cj,qc (vs:=(ag.cells (eE ts f.toNat (t-f).toNat))) 5 U U,U,U⟩⟩,⟨_,U,.inl ⟨_,_,cj,qc (vs:=(ag.cells (gL ts f.toNat (t-f).toNat))) 4 U U,U,U⟩⟩,trivial⟩ fun w hs=>By ?_ hs)
  show (vT [(vA (ag.cells (eE ts f.toNat (t-f).toNat))),(vA (ag.cells (gL ts f.toNat (t-f).toNat)))])=(vT [(vA (ag.cells (eE ts f.toNat (t-f).toNat))),(vA (ag.cells (gL ts f.toNat (t-f).toNat)))])
  clear hs w hQ hN G T31 E T30 D V AA M
  rfl
 ·rintro s _ Z
  cases Z
 rintro k x ⟨v,z2,m⟩ l ra rb S w1 K13 Qr14 hx AB N H L j
 obtain ⟨hk,rfl⟩:=Gt hx
 obtain ⟨A,K⟩:=AB
 try dsimp only at A K
 try dsimp only
 refine WS fun _ O=>AL U dV fun o=>fG U cZ U<|RK O<|au<|AL U dV fun p=>fG U cZ U<|aF<|jl (fun _ _ h=>h) (aQ [2,0,1,3,4,5,6,7,8])<|bg (N _ _ ?_)
 refine aH<|ak fun _ P=>ak fun _ R=>dA ct [2,3] [] [] [0,1,2,5,6,7,8] [] U U U U U<|eS U (LW 2 U cj U U)<|eS U (LW 1 U cj U U)<|eh U<|cd U fun T21 W=>TA U cZ U<|aF (W _ _ (aQ [0,1,2,5,6,7,8]) ?_)
 refine cd U fun T22 X=>TW U cZ U<|aF (X _ _ (aQ [0,1,2,5,6,7,8]) ?_)
 refine fp U<|KK R<|WS fun _ T=>rP 3 [0,1] (mc 6 U (mc 5 U mn)) ?_
 refine RK T<|cx U (aU fun i=>?_) (aT fun i=>?_)
 ·refine bP<|ai<|fh U ?_
  rw [show m=t from by omega]
  obtain rfl:k=(t-f).toNat:=by omega
  exact L _ () _ _ (by exact U) (aQ [0,3,4,5,6,7,8])
 refine WK P<|au<|rP 2 [] (mc 6 U mn) ?_
 refine Wo U CU U U<|aF<|aN ?_
 exact H ((eE ts f.toNat k),(gL ts f.toNat k),(m+1)) _ _ (by refine ⟨I,?_⟩; dsimp only; omega) (aQ [0,3,4,5,6,7,8])
end
section
open Go.RowKit
theorem Hv (i:Int) (s:cH) (ts:List ao) (tsA:OA) (tsC g1:Nat) (hst: ∀ x∈ts,bV x) (hlen:ts.length≤12):
 dG Tryz.prog 133 [(vI i),(vA (cH.cells s)),(vP g1)] [(rd tsA ts.length 9 (ts.map ao.cells)),(cu g1 196 (eu.cells (eu.mk (bO.mk (bH.mk tsA ts.length tsC)))))] (vB (!(decide (fH ts s)))):=by
 refine bG kr Tryz.func133 U U fun AA Q hQ hN=>?_
 try dsimp only
 refine WS fun _ C=>eI U fun G=>rP 1 [] mn ?_
 refine RK C<|ak fun _ A=>mA ct [0,1,2,3,4,5,6] [7,8,9,10,11,12,13,14,15,16,17,18,19,20,21,22,23,24,25,26] [false,false,false,false,false,false,false] [] [(cu G 120 (cH.cells s)),(rd tsA ts.length 9 (ts.map ao.cells)).ro,(cu g1 196 (eu.cells (eu.mk (bO.mk (bH.mk tsA ts.length tsC))))).ro] [] kr (aQ [0,1,2]) (aQ [])<|eS U (FA 0 U fj U)<|eS U (FA 0 U fj U)<|eS U (Lj (vS tsA ts.length tsC) 2 U cj U U)<|eS U (LN U Tx)<|eS U (BI U (vK ⟨I,I⟩))<|eS U (FA 0 U fj U)<|eS U (L1 (vI s.bx) 0 U cj U U)<|eh U<|N1 7<|NO U U [8,9,10,11,12,13,14,15,16,17,18,19,20,21,22,23,24,25,26] fun T4 D=>ej (xs:=[.tmp 12]) (cs:=[(vI s.bx)]) U dv kj U U U U (by simp [Value.cells]) U U fun H=>RD D 1 U<|OW [14,15,16,17,18,19,20,21,22,23,24,25,26,27,28,29,30,31,5] kr kr U _ U U (aQ [1,2,3]) ?_
 refine dS (CL (dG.eq (ph 0 ((ts.length:Int)-1) ([s.bx]) (some ⟨H,0,none⟩) 1 (by (simp; done))) cD) (aK (bw 0 U U (by simp [bL]) U)<|aO) U) ?_
 refine dP 2 [] mn ?_
 refine g_ (t:=16) U (bq fun B=>?_) (br fun B=>?_)
 ·refine kX 9 U<|dP 7 [] mn ?_
  refine cK<|RK A<|aq<|Q1 hQ U U U ?_
  (refine cB ?_; rw [bE (BR I)]; rfl)
 refine kX 1 U<|dS (LP (ag.cells s.mS) 1 U cj U U U)<|dP 5 [0,1] (mr 3 U (mc 1 U mn)) ?_
 obtain ⟨x,hx⟩:=aL ts ((s.bx).toNat) I
 have E:=bM ao.cells hx
 refine dS (IA ((s.bx).toNat) U (aA 2 U) yw dc I I)<|dS (o9 ((((s.bx).toNat)*9)+1) U (aA 2 U) (Nat.mul_pos I dc) fj U) ?_
 have F:=(hst x (aR hx)).2.1
 simp only [dZ] at F
 refine dS (o9 ((((s.bx).toNat)*9)+1) U (aA 2 U) (Nat.mul_pos I dc) fj U)<|dS (g6 ((s.bx).toNat) 1 (vI x.kP.Lo) U cj (aA 2 U) E U dc U)<|kX 1 U<|dS (CL (wG s.mS 0 (x.kP.Lo-1)) (aO) U)<|dP 3 [] mn ?_
 refine cK<|RK A<|aq<|Q1 hQ U U U ?_
 exact congrArg (fun b=>vB (!b)) (gR.2 (Cb I hx).symm)
theorem Dt (l:List cH) (lA:OA) (lC:Nat) (f:Value) (p:Int→cH→Bool) (X:ax) (hf: ∀ x0 x1,(∃ k:Nat,x0=(k:Int)∧l[k]? =some x1)→DY Tryz.prog f [.int .i64 x0,.agg (cH.cells x1).toArray] [X] (.bool (p x0 x1))) (hlen:l.length≤1000000):
 pG Tryz.prog 132 [(vS lA l.length lC),f] [(rd lA l.length 3 (l.map cH.cells)),X] (fun (x:(OA)×Nat)=>(vS x.1 ((JI (fun jj yy=>p (jj:Int) yy) l).length) x.2)) (fun (x:(OA)×Nat)=>True) (fun (x:(OA)×Nat)=>[(own x.1 x.2 3 1 ((JI (fun jj yy=>p (jj:Int) yy) l).map iC))]):=by
 refine e_ kr Tryz.func132 U U fun W Q hQ hN=>?_
 try dsimp only
 refine WS fun _ L=>bD 1 U<|RK L<|WS fun _ M=>bD 1 U<|RK M<|ak fun _ N=>WS fun _ O=>rP 3 [] mn ?_
 refine RK O<|aH<|eM 3 1 ?_
 have A:(0≤l.length):=by exact Nat.zero_le _
 refine bY (ι:={z:Nat×(OA)×Nat // (z.1≤l.length)}) [0,1,8,9] [1,2] U U (fun z=>[(5,(vS z.1.2.1 ((sT (fun jj yy=>p (jj:Int) yy) l z.1.1).length) z.1.2.2)),(10,(vI (z.1.1:Int)))]) (fun z=>[(own z.1.2.1 z.1.2.2 3 1 ((sT (fun jj yy=>p (jj:Int) yy) l z.1.1).map iC))]) (fun _=>rfl) (fun _=>rfl) (fun z=>l.length-z.1.1) ⟨(0,none,0),A⟩ (bB U) (aQ [1,2,0]) ?_
 clear A
 rintro ⟨⟨i,a,c⟩,B⟩ J5 C
 try dsimp only at B
 try dsimp only
 refine WS fun _ P=>rP 1 [] mn ?_
 refine RK P<|ak fun _ R=>bW U (aT fun V=>?_) (aU fun V=>?_)
 ·refine bP<|ai<|ai<|aJ<|KK N<|WS fun _ F=>?_
  rw [Mw (p:=fun (i:Nat) x=>p (i:Int) x) (show i=l.length by omega)]
  refine rP 2 [] mn ?_
  refine RK F<|aq<|LX hQ (a,c) [2] [] mn U U U U ?_
  trivial
 refine WK R<|ak fun _ G=>aH<|WS fun _ D=>rP 1 [] mn ?_
 obtain ⟨x,hx⟩:=aL l i I
 have S:=bM cH.cells hx
 refine rS (IA i U (aA 0 U) Kp dc I I)<|rS (lx i 0 (cH.cells x) U cj (aA 0 U) S U dc U U)<|AL U FQ fun T=>bD 1 U<|fG U Oh U<|RK D<|WS fun _ E=>rP 3 [] (mc 0 U mn) ?_
 refine rS (SX (qa U U U (hf (i:Int) x ⟨i,U,hx⟩) (bu [2])) U U)<|RK E<|bW U (fun hp=>?_) (fun hp=>?_)
 ·refine cf<|aN<|KK G<|au ?_
  rw [← Nv (p:=fun (i:Nat) x=>p (i:Int) x) hx hp]
  refine rP 2 [] mn ?_
  refine aF ?_
  have AB:(vI (((i+1):Nat):Int))=(vI ((i:Int)+1)):=by exact cI I
  refine bg (C ⟨((i+1),a,c),(by first|omega|(simp only []; omega))⟩ _ _ _ U os (cG 5<|bf U AB<|dh.nil _) (aQ [1,2,3]))
 refine au<|rP 2 [] mn ?_
 refine ej (xs:=[.tmp 20]) (cs:=[(vI (i:Int))]) U dv kj U U U U (by simp [Value.cells]) U U fun AA=>?_
 refine dJ (es2:=(List.map iC (sT (fun jj yy=>p (jj:Int) yy) l (i+1)))) (m':=(sT (fun jj yy=>p (jj:Int) yy) l (i+1)).length) 4 U U U sx U U sm (bw (es:=List.map iC [(i:Int)]) 0 U U (by simp [bL]) U) (lg _) (by have:=CN (p:=fun (i:Nat) x=>p (i:Int) x) (l:=l) (n:=i); simp; omega) (by have:=CN (p:=fun (i:Nat) x=>p (i:Int) x) (l:=l) (n:=i); simp only [maxLen]; omega) (by rw [Jv hx hp]; simp) sm U fun J K=>?_
 try dsimp only
 refine bD 1 U<|aF<|aN<|KK G<|au<|rP 2 [] mn ?_
 refine aF ?_
 have H:(vI (((i+1):Nat):Int))=(vI ((i:Int)+1)):=by exact cI I
 refine bg (C ⟨((i+1),J,K),(by first|omega|(simp only []; omega))⟩ _ _ _ U os (cG 5<|bf U H<|dh.nil _) (aQ [2,3,4]))
theorem CD (ts:List ao) (tsA:OA) (tsC:Nat) (l:List cH) (lA:OA) (lC:Nat) (hst: ∀ x∈ts,bV x) (hlen:ts.length≤12) (hl:l.length≤4):
 dG Tryz.prog 116 [(vA (eu.cells (eu.mk (bO.mk (bH.mk tsA ts.length tsC))))),(vS lA l.length lC)] [(rd tsA ts.length 9 (ts.map ao.cells)),(rd lA l.length 3 (l.map cH.cells))] (vB (decide (∀ s∈l,fH ts s))):=by
 refine bG kr Tryz.func116 U U fun J Q hQ hN=>?_
 try dsimp only
 refine WS fun _ B=>eI U fun A=>bD 1 U<|RK B<|WS fun _ C=>rP 1 [] mn ?_
 refine rS (FU U) ?_
 refine cX (Dt l lA lC (Value.func (.func 133) [].toArray [(vP A)].toArray) (fun E D=>(!(decide (fH ts D)))) (dR [(rd tsA ts.length 9 (ts.map ao.cells)),(cu A 196 (eu.cells (eu.mk (bO.mk (bH.mk tsA ts.length tsC)))))]) (by intro E D _; exact lh (fi:=[]) (ca:=[(vP A)]) (jS (Hv E D ts tsA tsC A (by first|assumption|omega) (by first|assumption|omega)) (bu [0,1]))) I) (gY 2 U U<|aK (jX (bu [1,0]))<|aO) U fun G F=>?_
 obtain ⟨H,AA⟩:=G
 try dsimp only
 refine rP 3 [] mn ?_
 refine RK C<|aq<|Q1 hQ U U U ?_
 exact congrArg Value.bool (decide_eq_decide.2 (by rw [show ∀ n:Nat,((n:Int)=0)↔n=0 from fun n=>by omega,Hb]; simp only [Bool.not_eq_false',decide_eq_true_eq]; exact ⟨fun h s hs=>by obtain ⟨k,hk⟩:=List.getElem?_of_mem hs; exact h k s hk,fun h k s hk=>h s (List.mem_of_getElem? hk)⟩))
theorem DH (z:ag) (hz:lV z):
 dG Tryz.prog 119 [(vA (ag.cells z))] [] (vA (ag.cells (oJ z))):=by
 unfold lV at hz
 refine bG kr Tryz.func119 U U fun E Q hQ hN=>?_
 try dsimp only
 refine WS fun _ A=>eI U fun C=>AL U dV fun D=>RK A<|WS fun _ B=>eQ 2 [] (mc 1 U mn) U<|rS (NG U ⟨I,I⟩)<|rP 2 [] (mc 1 U mn) ?_
 refine rS (NG U ⟨I,I⟩)<|rS (SX (bp (xs:=[(0,.tmp 5),(1,.tmp 8)]) (cs:=(ag.cells (ag.mk (-z.Hi) (-z.Lo)))) U U (bo gX U)) U U)<|fG U cZ U<|RK B<|aq ?_
 exact CV hQ [0] (mc 0 U mn) U U
theorem TB (ts:List ao) (tsA:OA) (tsC:Nat) (s:cH) (hlen:ts.length≤1000000) (hside: ∀ x∈ts,0≤x.jg∧x.jg≤255):
 dG Tryz.prog 93 [(vA (bO.cells (bO.mk (bH.mk tsA ts.length tsC)))),(vA (cH.cells s))] [(rd tsA ts.length 9 (ts.map ao.cells))] (vT [(vA (ag.cells (Qh ts s))),(vI (Fy ts s))]):=by
 refine bG kr Tryz.func93 U U fun Z Q hQ hN=>?_
 try dsimp only
 refine WS fun _ K=>eI U fun V=>eI U fun W=>AL U dV fun X=>bD 1 U<|RK K<|WS fun _ L=>eQ 1 [] (mc 2 U mn) U<|rS (CL (FN ts tsA tsC hlen hside) (bu [3]) U)<|bD 3 U<|AL U IS fun Y=>fG U Jp U<|bD 1 U<|RK L<|ak fun _ M=>WS fun _ N=>rP 2 [] mn ?_
 refine RK N<|cx U (bq fun he=>?_) (br fun he=>?_)
 ·refine WS fun _ O=>rS (SX (bp (xs:=[]) (cs:=(ag.cells (ag.mk 0 0))) U U (bo gX U)) U U)<|bD 1 U<|qO U cZ U<|rP 1 [] mn ?_
  refine RK O<|aq<|mV hQ [0] (mc 1 U mn) U ?_
  (have e:=I4 (s:=s) (yR he).1; rw [e.1,e.2,(yR he).2]<;>rfl)
 refine WK M<|ak fun _ C=>WS fun _ D=>?_
 have B:=Dj he
 have H:=ke B
 have R:=k7 B
 refine rP 2 [0,1] (mc 0 U (mc 2 U mn)) ?_
 refine ej (xs:=[.tmp 20]) (cs:=(cH.cells s)) U Kp FQ U U U U (by simp [Value.cells,cH.aZ]) U U fun AB=>?_
 refine rS (CL (dG.eq (CD ts tsA tsC ([s]) (some ⟨AB,0,none⟩) 1 asm asm (by (simp; done))) C8) (gY 5 U U<|aK (bw 0 U U (by simp [cH.aZ]) U)<|aO) U) ?_
 refine rP 1 [] mn ?_
 refine RK D<|cx U (bq fun A=>?_) (br fun A=>?_)
 ·refine WS fun _ E=>rS (SX (bp (xs:=[]) (cs:=(ag.cells (ag.mk 0 0))) U U (bo gX U)) U U)<|Ha U cZ U<|rP 1 [] mn ?_
  refine RK E<|aq<|mV hQ [0] (mc 2 U mn) U ?_
  (have e:=Kg B A; rw [e.1,e.2]<;>rfl)
 refine WK C<|WS fun _ F=>?_
 have AA:=A.1
 have P:=qS H A
 refine eQ 3 [0,1] (mc 1 U (mc 3 U mn)) U<|rS (CL (I9 ts tsA tsC 0 s.bx asm asm I) (bu [5]) U)<|bD 3 U<|AL U dV fun S=>AL U dV fun T=>qO U cZ U<|fG U cZ U<|RK F<|WS fun _ G=>rP 2 [] (mc 1 U mn) ?_
 refine rS (LP (ag.cells s.mS) 5 U cj U U U)<|ej (xs:=[.tmp 34]) (cs:=(ag.cells s.mS)) U lq dV U U U U (by simp [Value.cells,ag.aZ]) U U fun J=>?_
 refine rS (CL (dG.eq (pR (eE ts (0:Int).toNat (s.bx-0).toNat) ([s.mS]) (some ⟨J,0,none⟩) 1 (by exact qR H I) (by intro z hz; simp only [cq] at hz; subst hz; exact P) sm) nP) (aK (bw 0 rfl rfl (by simp [ag.aZ]) rfl)<|aO) rfl) ?_
 refine HV U cZ U<|rP 1 [] mn ?_
 refine RK G<|aq<|mV hQ [0] (mc 5 U mn) U ?_
 (have e:=xW B A; rw [e.1,e.2]; unfold Lz; rw [show (s.bx-0).toNat=s.bx.toNat by rw [Int.sub_zero]]<;>rfl)
theorem No (ts:List ao) (tsA:OA) (tsC:Nat) (p:cH) (q:cH) (hlen:ts.length≤1000000) (hside: ∀ x∈ts,0≤x.jg∧x.jg≤255):
 dG Tryz.prog 94 [(vA (bO.cells (bO.mk (bH.mk tsA ts.length tsC)))),(vA (cH.cells p)),(vA (cH.cells q))] [(rd tsA ts.length 9 (ts.map ao.cells))] (vT [(vA (ag.cells (lf ts p q))),(vI (mw ts p q))]):=by
 refine bG kr Tryz.func94 U U fun w Q hQ hN=>?_
 try dsimp only
 refine WS fun _ c=>eI U fun r=>eI U fun s=>eI U fun t=>AL U dV fun u=>bD 1 U<|RK c<|WS fun _ d=>eQ 1 [] (mc 3 U mn) U<|rS (CL (FN ts tsA tsC hlen hside) (bu [4]) U)<|bD 3 U<|AL U IS fun v=>fG U Jp U<|bD 1 U<|RK d<|ak fun _ g=>WS fun _ h=>rP 2 [] mn ?_
 refine RK h<|cx U (bq fun he=>?_) (br fun he=>?_)
 ·refine WS fun _ G=>rS (SX (bp (xs:=[]) (cs:=(ag.cells (ag.mk 0 0))) U U (bo gX U)) U U)<|bD 1 U<|qO U cZ U<|rP 1 [] mn ?_
  refine RK G<|aq<|mV hQ [0] (mc 1 U mn) U ?_
  (have e:=u3 (a:=p) (b:=q) (yR he).1; rw [e.1,e.2,(yR he).2]<;>rfl)
 refine WK g<|ak fun _ H=>WS fun _ AB=>?_
 have A:=Dj he
 have F:=ke A
 have j:=k7 A
 refine rP 3 [0,1,2] (mc 0 U (mc 3 U (mc 2 U mn))) ?_
 refine ej (xs:=[.tmp 22,.tmp 23]) (cs:=((cH.cells p)++(cH.cells q))) U Kp FQ U U U U (by simp [Value.cells,cH.aZ]) U U fun X=>?_
 refine rS (CL (dG.eq (CD ts tsA tsC ([p,q]) (some ⟨X,0,none⟩) 2 asm asm (by (simp; done))) Ej) (gY 6 U U<|aK (bw 0 U U (by simp [cH.aZ]) U)<|aO) U) ?_
 refine rP 1 [] mn ?_
 refine RK AB<|cx U (bq fun D=>?_) (br fun D=>?_)
 ·refine WS fun _ J=>rS (SX (bp (xs:=[]) (cs:=(ag.cells (ag.mk 0 0))) U U (bo gX U)) U U)<|Ha U cZ U<|rP 1 [] mn ?_
  refine RK J<|aq<|mV hQ [0] (mc 2 U mn) U ?_
  (have e:=o8 A D; rw [e.1,e.2]<;>rfl)
 refine WK H<|WS fun _ K=>?_
 obtain ⟨hp,hq⟩:=D
 have n:=hp.1
 have o:=hq.1
 have i:=qS F hp
 have W:=qS F hq
 have V:=Ae i
 have B:=qR F (f:=(min p.bx q.bx).toNat) (k:=(max p.bx q.bx-min p.bx q.bx).toNat) I
 refine eQ 5 [0,1,2] (mc 1 U (mc 4 U (mc 3 U mn))) U<|rS (MN U)<|eQ 4 [0,1] (mc 4 U (mc 3 U mn)) U<|rS (MX U)<|rS (CL (I9 ts tsA tsC (min p.bx q.bx) (max p.bx q.bx) asm asm I) (bu [6]) U)<|bD 3 U<|AL U dV fun l=>AL U dV fun m=>qO U cZ U<|fG U cZ U<|RK K<|ak fun _ C=>WS fun _ L=>rP 5 [0,1] (mc 5 U (mc 6 U mn)) ?_
 refine RK L<|bW U (aT fun E=>?_) (aU fun E=>?_)
 ·refine WK C<|ak fun _ N=>dA ct [6,7,8] [] [] [0,1,2,3,5,6,7,8] [] U U U U U<|eS U (LW 1 U cj U U)<|eS U (FA 1 U fj U)<|eS U (LP (ag.cells q.mS) 4 U cj U U U)<|eS U (FA 1 U fj U)<|eS U (LP (ag.cells p.mS) 5 U cj U U U)<|eS U (CL (DH p.mS asm) (aO) U)<|eS U (AG U)<|eh U<|cd U fun T26 S=>ej (xs:=[.tmp 52,.tmp 55]) (cs:=((ag.cells q.mS)++(ag.cells (oJ p.mS)))) U lq dV U U U U (by simp [Value.cells,ag.aZ]) U U fun Z=>aF (S _ _ (aQ [1,2,3,4,6,7,8,9]) ?_)
  refine cd U fun T28 T=>?_
  refine rS (CL (dG.eq (pR (eE ts (min p.bx q.bx).toNat ((max p.bx q.bx)-(min p.bx q.bx)).toNat) ([q.mS,(oJ p.mS)]) (some ⟨Z,0,none⟩) 2 (by first|exact B|exact Ae B) (by intro z hz; simp only [bT,List.not_mem_nil,or_false] at hz; rcases hz with rfl|rfl; exact W; exact V) sm) CB) (aK (bw 0 rfl rfl (by simp [ag.aZ]) rfl)<|aO) rfl) ?_
  refine aF (T _ _ (aQ [1,2,3,4,6,7,8,9]) ?_)
  refine cd U fun T29 AA=>HV U cZ U<|aF (AA _ _ (aQ [1,2,3,4,6,7,8,9]) ?_)
  refine fp U<|KK N<|aq<|mV hQ [0] (mc 5 U mn) U ?_
  (have e:=lP A ⟨hp,hq⟩; rw [e.1,e.2]; unfold j3 wS; rw [if_neg E]<;>rfl)
 refine au<|rP 1 [] (mc 1 U mn) ?_
 refine rS (CL (DH (eE ts (min p.bx q.bx).toNat ((max p.bx q.bx)-(min p.bx q.bx)).toNat) asm) (aO) U)<|qO U cZ U<|RK C<|ak fun _ M=>dA ct [6,7,8] [] [] [0,1,2,3,5,6,7,8] [] U U U U U<|eS U (LW 1 U cj U U)<|eS U (FA 1 U fj U)<|eS U (LP (ag.cells q.mS) 4 U cj U U U)<|eS U (FA 1 U fj U)<|eS U (LP (ag.cells p.mS) 5 U cj U U U)<|eS U (CL (DH p.mS asm) (aO) U)<|eS U (AG U)<|eh U<|cd U fun T21 O=>ej (xs:=[.tmp 52,.tmp 55]) (cs:=((ag.cells q.mS)++(ag.cells (oJ p.mS)))) U lq dV U U U U (by simp [Value.cells,ag.aZ]) U U fun Y=>aF (O _ _ (aQ [1,2,3,4,6,7,8,9]) ?_)
 refine cd U fun T23 P=>?_
 refine rS (CL (dG.eq (pR (oJ (eE ts (min p.bx q.bx).toNat ((max p.bx q.bx)-(min p.bx q.bx)).toNat)) ([q.mS,(oJ p.mS)]) (some ⟨Y,0,none⟩) 2 (by first|exact B|exact Ae B) (by intro z hz; simp only [bT,List.not_mem_nil,or_false] at hz; rcases hz with rfl|rfl; exact W; exact V) sm) CB) (aK (bw 0 rfl rfl (by simp [ag.aZ]) rfl)<|aO) rfl) ?_
 refine aF (P _ _ (aQ [1,2,3,4,6,7,8,9]) ?_)
 refine cd U fun T24 R=>HV U cZ U<|aF (R _ _ (aQ [1,2,3,4,6,7,8,9]) ?_)
 refine fp U<|KK M<|aq<|mV hQ [0] (mc 5 U mn) U ?_
 (have e:=lP A ⟨hp,hq⟩; rw [e.1,e.2]; unfold j3 wS; rw [if_pos E]<;>rfl)
theorem rR (ts:List ao) (tsA:OA) (tsC:Nat) (s:cH) (hst: ∀ x∈ts,bV x) (hlen:ts.length≤12):
 dG Tryz.prog 139 [(vA (bO.cells (bO.mk (bH.mk tsA ts.length tsC)))),(vA (cH.cells s))] [(rd tsA ts.length 9 (ts.map ao.cells))] (vB (decide (fH ts s))):=by
 refine bG kr Tryz.func139 U U fun H Q hQ hN=>?_
 try dsimp only
 refine WS fun _ C=>eI U fun F=>eI U fun G=>bD 1 U<|RK C<|ak fun _ A=>dp ct 22 kr<|lU 6 [0,1] (mc 0 U (mc 1 U mn)) U<|dS (CL (pj s.bx 0 ((ts.length:Int)-1)) (aO) U)<|dP 1 [] mn ?_
 refine jy (t:=12) U (aT fun B=>?_) (aU fun B=>?_)
 ·refine kX 8 U<|dP 6 [] mn ?_
  refine cK<|RK A<|aq<|Q1 hQ U U U ?_
  (refine cB ?_; rw [bE (BR I)])
 refine kX 1 U<|dS (LP (ag.cells s.mS) 0 U cj U U U)<|dP 4 [0,1] (mc 1 U (mc 0 U mn)) ?_
 obtain ⟨x,hx⟩:=aL ts ((s.bx).toNat) I
 have D:=bM ao.cells hx
 refine dS (IA ((s.bx).toNat) U (aA 2 U) yw dc I I)<|dS (o9 ((((s.bx).toNat)*9)+1) U (aA 2 U) (Nat.mul_pos I dc) fj U) ?_
 have E:=(hst x (aR hx)).2.1
 simp only [dZ] at E
 refine dS (o9 ((((s.bx).toNat)*9)+1) U (aA 2 U) (Nat.mul_pos I dc) fj U)<|dS (g6 ((s.bx).toNat) 1 (vI x.kP.Lo) U cj (aA 2 U) D U dc U)<|kX 1 U<|dS (CL (qe s.mS 0 (x.kP.Lo-1)) (aO) U)<|dP 2 [] mn ?_
 refine cK<|RK A<|aq<|Q1 hQ U U U ?_
 exact cB (gR.2 (Cb I hx).symm)
theorem AB (ts:List ao) (tsA:OA) (tsC:Nat) (f t:Int) (hst: ∀ x∈ts,bV x) (hlen:ts.length≤12) (hf:0≤f∧f≤t∧t≤ts.length):
 dG Tryz.prog 161 [(vA (bO.cells (bO.mk (bH.mk tsA ts.length tsC)))),(vI f),(vI t)] [(rd tsA ts.length 9 (ts.map ao.cells))] (vT [(vA (ag.cells (eE ts f.toNat (t-f).toNat))),(vA (ag.cells (gL ts f.toNat (t-f).toNat)))]):=by
 refine bG kr Tryz.func161 U U fun i Q hQ hN=>?_
 try dsimp only
 refine WS fun _ R=>eI U fun e=>AL U dV fun g=>AL U dV fun h=>RK R<|WS fun _ S=>AL U dV fun a=>AL U dV fun b=>RK S<|ak fun _ T=>WS fun _ AA=>rP 2 [] mn ?_
 refine RK AA<|aH ?_
 have A:(0≤(t-f).toNat):=by exact Nat.zero_le _
 have K:(vI (f+(0:Int)))=(vI f):=by exact cI I
 refine bY (ι:={z:Nat // (z≤(t-f).toNat)}) [1,2,3,6,7,8,9] [2,3,4,5] U U (fun z=>[(10,(vI (f+(z.1:Int))))]) (fun z=>[(cu b 53 (ag.cells (gL ts f.toNat z.1))),(cu a 53 (ag.cells (eE ts f.toNat z.1)))]) (fun _=>rfl) (fun _=>rfl) (fun z=>(t-f).toNat-z.1) ⟨0,A⟩ (bf U K<|dh.nil _) (aQ [2,3,4,5,0,1]) ?_
 clear A
 rintro ⟨k,V⟩ J11 B
 try dsimp only
 refine ak fun _ C=>WS fun _ D=>rP 3 [] mn ?_
 refine RK D<|bW U (aT fun P=>?_) (aU fun P=>?_)
 ·refine bP<|ai<|ai<|aJ<|KK T<|ak fun _ H=>dA ct [2,3] [] [] [2,3,4,5] [] U U U U U<|eS U (LW 3 U cj U U)<|eS U (LW 2 U cj U U)<|eh U<|cd U fun T23 AC=>qO U cZ U<|aF (AC _ _ (aQ [2,3,4,5]) ?_)
  refine cd U fun T24 J=>fG U cZ U<|aF (J _ _ (aQ [2,3,4,5]) ?_)
  refine fp U<|KK H<|aq<|mV hQ [0,1] (mc 1 U (mc 0 U mn)) U ?_
  obtain rfl:k=(t-f).toNat:=I; rfl
 refine WK C<|ak fun _ E=>aH<|WS fun _ F=>rP 3 [] (mc 2 U mn) ?_
 obtain ⟨x,hx⟩:=aL ts (f.toNat+k) I
 have Y:=bM ao.cells hx
 refine rS (IA (f.toNat+k) U (aA 3 U) yw dc I I)<|rS (lx (f.toNat+k) 0 (ao.cells x) U cj (aA 3 U) Y U dc U U)<|AL U FT fun Z=>fG U Jw U<|RK F<|WS fun _ G=>?_
 have O:=hst x (aR hx)
 have d:=mC hst f.toNat k
 have c:=Fk hst f.toNat k
 have W:=O.2.1
 have X:=O.2.2.1
 simp only [dZ] at W X
 refine eQ 12 [0,1,0,1] (mc 6 U (mc 0 U mn)) U<|rS (SX (bp (xs:=[(0,.tmp 28),(1,.tmp 34)]) (cs:=(ag.cells (ag.mk (((eE ts f.toNat k).Lo)+x.kP.Lo) (((eE ts f.toNat k).Hi)+x.kP.Hi)))) U U (bo gX U)) U U)<|Sb U cZ U<|RK G<|au<|rP 12 [0,1,0,1] (mc 5 U (mc 0 U mn)) ?_
 refine rS (SX (bp (xs:=[(0,.tmp 41),(1,.tmp 47)]) (cs:=(ag.cells (ag.mk (((gL ts f.toNat k).Lo)+x.l6.Lo) (((gL ts f.toNat k).Hi)+x.l6.Hi)))) U U (bo gX U)) U U)<|HV U cZ U<|aF<|aN<|KK E ?_
 have L:(ag.cells (ag.mk (((eE ts f.toNat k).Lo)+x.kP.Lo) (((eE ts f.toNat k).Hi)+x.kP.Hi)))=(ag.cells (eE ts f.toNat (k+1))):=by rw [pI hx]; rfl
 rw [L]
 have M:(ag.cells (ag.mk (((gL ts f.toNat k).Lo)+x.l6.Lo) (((gL ts f.toNat k).Hi)+x.l6.Hi)))=(ag.cells (gL ts f.toNat (k+1))):=by rw [p9 hx]; rfl
 rw [M]
 refine au<|rP 3 [] mn ?_
 refine aF ?_
 have N:(vI (f+(((k+1):Nat):Int)))=(vI ((f+(k:Int))+1)):=by exact cI I
 refine bg (B ⟨(k+1),(by first|omega|(simp only []; omega))⟩ _ _ _ U os (cG 7<|bf U N<|dh.nil _) (aQ [1,2,3,4,5,6]))
end
section
open Go.RowKit
theorem Qm (l:bk) (kA:OA) (kC:Nat) (az:List RA) (cA:OA) (cC:Nat) (bA:OA) (bC:Nat) (hin:eg l az):
 dG Tryz.prog 106 [(vA (cv.cells (jN l kA kC cA cC bA bC)))] [(rd kA l.aV.length 9 (l.aV.map ao.cells)),(rd cA l.aj.length 2 (List.zipWith aw.cells l.aj az)),(dR (bj aw.f_ l.aj az)),(rd bA l.ab.length 4 (l.ab.map bJ.cells))] (vB (decide (eW l))):=by
 have R:=hin.sJ
 have P:=hin.sL
 have N:=hin.og
 have O:=hin.sH
 refine bG kr Tryz.func106 U U fun T Q hQ hN=>?_
 try dsimp only
 refine WS fun _ G=>eI U fun S=>bD 1 U<|RK G<|WS fun _ A=>rP 2 [] (mc 0 U mn) ?_
 refine ej (xs:=[.tmp 4]) (cs:=[(vI l.iR)]) U dv kj U U U U (by simp [Value.cells]) U U fun H=>?_
 refine rS (CL (dG.eq (hU 1 5000 ([l.iR]) (some ⟨H,0,none⟩) 1 (by (simp; done))) cD) (aK (bw 0 U U (by simp [bL]) U)<|aO) U) ?_
 refine rP 1 [] mn ?_
 refine cp (t:=7) U (aT fun K=>?_) (aU fun K=>?_)
 ·refine rP 36 [] mn ?_
  refine RK A<|aq<|Q1 hQ U U U ?_
  exact cB (bE (by unfold eW; omega)).symm
 refine rP 3 [] (mc 1 U mn) ?_
 refine ej (xs:=[.tmp 10]) (cs:=[(vI (l.aj.length:Int))]) U dv kj U U U U (by simp [Value.cells]) U U fun AA=>?_
 refine rS (CL (dG.eq (hU 1 4 ([(l.aj.length:Int)]) (some ⟨AA,0,none⟩) 1 (by (simp; done))) cD) (aK (bw 0 U U (by simp [bL]) U)<|aO) U) ?_
 refine rP 2 [] mn ?_
 refine cp (t:=14) U (aT fun L=>?_) (aU fun L=>?_)
 ·refine rP 29 [] mn ?_
  refine RK A<|aq<|Q1 hQ U U U ?_
  exact cB (bE (by unfold eW; omega)).symm
 refine rP 3 [] (mc 2 U mn) ?_
 refine ej (xs:=[.tmp 17]) (cs:=[(vI (l.ab.length:Int))]) U dv kj U U U U (by simp [Value.cells]) U U fun J=>?_
 refine rS (CL (dG.eq (hU 1 6 ([(l.ab.length:Int)]) (some ⟨J,0,none⟩) 1 (by (simp; done))) cD) (aK (bw 0 U U (by simp [bL]) U)<|aO) U) ?_
 refine rP 2 [] mn ?_
 refine cp (t:=21) U (aT fun M=>?_) (aU fun M=>?_)
 ·refine rP 22 [] mn ?_
  refine RK A<|aq<|Q1 hQ U U U ?_
  exact cB (bE (by unfold eW; omega)).symm
 refine rP 6 [] (mc 3 U mn) ?_
 refine ej (xs:=[.tmp 27]) (cs:=[(vI l.bS)]) U dv kj U U U U (by simp [Value.cells]) U U fun B=>?_
 refine rS (CL (dG.eq (hU 0 ((l.ab.length:Int)-1) ([l.bS]) (some ⟨B,0,none⟩) 1 (by (simp; done))) cD) (aK (bw 0 U U (by simp [bL]) U)<|aO) U) ?_
 refine rP 2 [] mn ?_
 refine cp (t:=31) U (aT fun E=>?_) (aU fun E=>?_)
 ·refine rP 12 [] mn ?_
  refine RK A<|aq<|Q1 hQ U U U ?_
  exact cB (bE (by unfold eW; omega)).symm
 refine rP 2 [] (mc 4 U mn) ?_
 refine ej (xs:=[.tmp 33]) (cs:=[(vI l.fZ)]) U dv kj U U U U (by simp [Value.cells]) U U fun C=>?_
 refine rS (CL (dG.eq (hU 0 3 ([l.fZ]) (some ⟨C,0,none⟩) 1 (by (simp; done))) cD) (aK (bw 0 U U (by simp [bL]) U)<|aO) U) ?_
 refine rP 2 [] mn ?_
 refine cp (t:=37) U (aT fun F=>?_) (aU fun F=>?_)
 ·refine rP 6 [] mn ?_
  refine RK A<|aq<|Q1 hQ U U U ?_
  exact cB (bE (by unfold eW; omega)).symm
 refine rP 2 [] (mc 5 U mn) ?_
 refine ej (xs:=[.tmp 39]) (cs:=[(vI l.dL)]) U dv kj U U U U (by simp [Value.cells]) U U fun D=>?_
 refine rS (CL (dG.eq (hU 0 3 ([l.dL]) (some ⟨D,0,none⟩) 1 (by (simp; done))) cD) (aK (bw 0 U U (by simp [bL]) U)<|aO) U) ?_
 refine rP 2 [] mn ?_
 refine RK A<|aq<|Q1 hQ U U U ?_
 exact cB (gR.2 (by unfold eW; omega))
theorem QA (l:bk) (kA:OA) (kC:Nat) (az:List RA) (cA:OA) (cC:Nat) (bA:OA) (bC:Nat) (hin:eg l az):
 dG Tryz.prog 107 [(vA (cv.cells (jN l kA kC cA cC bA bC)))] [(rd kA l.aV.length 9 (l.aV.map ao.cells)),(rd cA l.aj.length 2 (List.zipWith aw.cells l.aj az)),(dR (bj aw.f_ l.aj az)),(rd bA l.ab.length 4 (l.ab.map bJ.cells))] (vB (decide (∀ c∈l.aj,e8 c))):=by
 have H:=hin.sJ
 have G:=hin.sL
 have E:=hin.og
 have F:=hin.sH
 refine bG kr Tryz.func107 U U fun K Q hQ hN=>?_
 try dsimp only
 refine WS fun _ C=>eI U fun J=>bD 1 U<|RK C<|WS fun _ D=>rP 2 [] (mc 0 U mn) ?_
 refine rS (CL (AA l.aj az cA cC (Value.func (.func 109) [].toArray [].toArray) (fun m=>(!(decide (e8 m)))) (dR (bj aw.f_ l.aj az)) (by intro AB m a B A; exact lh (fi:=[]) (ca:=[]) (Tw l.aj az AB m a (by exact B) (by exact A) (by exact hin.TO _ _ _ B A))) asm asm) (QN 2 3 3 U U U U U U) U) ?_
 refine rP 2 [] mn ?_
 refine RK D<|aq<|Q1 hQ U U U ?_
 exact cB (by rw [Bool.eq_iff_iff,decide_eq_true_eq]; exact Ed)
theorem O0 (b:bJ) (l:bk) (kA:OA) (kC:Nat) (az:List RA) (cA:OA) (cC:Nat) (bA:OA) (bC g1:Nat) (hin:eg l az) (htr:di l.aV=true):
 dG Tryz.prog 113 [(vA (bJ.cells b)),(vP g1)] [(rd kA l.aV.length 9 (l.aV.map ao.cells)),(rd cA l.aj.length 2 (List.zipWith aw.cells l.aj az)),(dR (bj aw.f_ l.aj az)),(rd bA l.ab.length 4 (l.ab.map bJ.cells)),(cu g1 28 (cv.cells (jN l kA kC cA cC bA bC)))] (vB (!(decide (j6 l b)))):=by
 have J:=hin.sJ
 have H:=hin.sL
 have F:=hin.og
 have G:=hin.sH
 have AA:=hin.side
 refine bG kr Tryz.func113 U U fun M Q hQ hN=>?_
 try dsimp only
 refine WS fun _ C=>eI U fun K=>bD 1 U<|RK C<|WS fun _ D=>bD 1 U<|rS (Wv (bO.cells (bO.mk (bH.mk kA l.aV.length kC))) 5 U cj U U U)<|bD 1 U<|rS (LP (cH.cells b.mW) 0 U cj U U U)<|rS (CL (TB l.aV kA kC b.mW asm asm) (bu [1]) U)<|bD 3 U<|AL U dV fun L=>fG U cZ U<|bD 1 U<|RK D<|WS fun _ B=>rP 3 [] mn ?_
 refine b_ (t:=16) U (bq fun A=>?_) (br fun A=>?_)
 ·refine rP 11 [] mn ?_
  refine RK B<|aq<|Q1 hQ U U U ?_
  (refine cB ?_; rw [bE (fun h:j6 l b=>A ((FJ htr).2 h.1))]; rfl)
 refine rP 6 [0,1] (mr 6 U (mc 1 U mn)) ?_
 refine ej (xs:=[.tmp 22]) (cs:=[(vI b.kf)]) U dv kj U U U U (by simp [Value.cells]) U U fun E=>?_
 refine rS (CL (dG.eq (hU 0 ((l.aj.length:Int)-1) ([b.kf]) (some ⟨E,0,none⟩) 1 (by (simp; done))) cD) (aK (bw 0 U U (by simp [bL]) U)<|aO) U) ?_
 refine rP 3 [] mn ?_
 refine RK B<|aq<|Q1 hQ U U U ?_
 (refine cB ?_; refine congrArg Bool.not (gR.2 ⟨fun h=>⟨(FJ htr).1 A,I,I⟩,fun h=>by have:=h.2; omega⟩))
theorem Pe (l:bk) (kA:OA) (kC:Nat) (az:List RA) (cA:OA) (cC:Nat) (bA:OA) (bC:Nat) (hin:eg l az) (htr:di l.aV=true):
 dG Tryz.prog 111 [(vA (cv.cells (jN l kA kC cA cC bA bC)))] [(rd kA l.aV.length 9 (l.aV.map ao.cells)),(rd cA l.aj.length 2 (List.zipWith aw.cells l.aj az)),(dR (bj aw.f_ l.aj az)),(rd bA l.ab.length 4 (l.ab.map bJ.cells))] (vB (decide (∀ b∈l.ab,j6 l b))):=by
 have H:=hin.sJ
 have G:=hin.sL
 have E:=hin.og
 have F:=hin.sH
 refine bG kr Tryz.func111 U U fun AA Q hQ hN=>?_
 try dsimp only
 refine WS fun _ B=>eI U fun A=>bD 1 U<|RK B<|WS fun _ C=>rP 2 [] (mc 0 U mn) ?_
 refine rS (FU U) ?_
 refine rS (CL (z_ l.ab bA bC (Value.func (.func 113) [].toArray [(vP A)].toArray) (fun D=>(!(decide (j6 l D)))) (dR [(rd kA l.aV.length 9 (l.aV.map ao.cells)),(rd cA l.aj.length 2 (List.zipWith aw.cells l.aj az)),(dR (bj aw.f_ l.aj az)),(rd bA l.ab.length 4 (l.ab.map bJ.cells)),(cu A 28 (cv.cells (jN l kA kC cA cC bA bC)))]) (by intro D _; exact lh (fi:=[]) (ca:=[(vP A)]) (jS (O0 D l kA kC az cA cC bA bC A (by first|assumption|omega) (by first|assumption|omega)) (bu [0,1,2,3,4]))) asm) (gY 4 U U<|aK (jX (bu [1,2,3,4,0]))<|aO) U) ?_
 refine rP 2 [] mn ?_
 refine RK C<|aq<|Q1 hQ U U U ?_
 exact cB (by rw [Bool.eq_iff_iff,decide_eq_true_eq]; exact G7)
theorem Ld (l:bk) (kA:OA) (kC:Nat) (az:List RA) (cA:OA) (cC:Nat) (bA:OA) (bC:Nat) (n:Int) (hin:eg l az) (htr:di l.aV=true) (hbk: ∀ b∈l.ab,j6 l b) (hn:0≤n∧n<(l.ab.length:Int)):
 dG Tryz.prog 66 [(vA (cv.cells (jN l kA kC cA cC bA bC))),(vI n)] [(rd kA l.aV.length 9 (l.aV.map ao.cells)),(rd cA l.aj.length 2 (List.zipWith aw.cells l.aj az)),(dR (bj aw.f_ l.aj az)),(rd bA l.ab.length 4 (l.ab.map bJ.cells))] (vI (lz l n.toNat)):=by
 have P:=hin.sJ
 have N:=hin.sL
 have L:=hin.og
 have M:=hin.sH
 have O:=hin.side
 refine bG kr Tryz.func66 U U fun AA Q hQ hN=>?_
 try dsimp only
 refine WS fun _ E=>eI U fun R=>bD 1 U<|RK E<|WS fun _ F=>rP 3 [] (mc 0 U mn) ?_
 obtain ⟨x,hx⟩:=aL l.ab ((n).toNat) I
 have J:=bM bJ.cells hx
 refine rS (IA ((n).toNat) U (aA 4 U) wq dc I I)<|rS (o9 (((n).toNat)*4) U (aA 4 U) (Nat.mul_pos I dc) fj U)<|rS (lx ((n).toNat) 0 (cH.cells x.mW) U cj (aA 4 U) J U dc U U)<|AL U FQ fun S=>fG U Oh U<|RK F<|WS fun _ G=>bD 1 U<|rS (LP (bO.cells (bO.mk (bH.mk kA l.aV.length kC))) 1 U cj U U U)<|eQ 1 [] (mc 0 U mn) U<|rS (CL (TB l.aV kA kC x.mW asm asm) (bu [2]) U)<|bD 3 U<|AL U dV fun T=>fG U cZ U<|bD 1 U<|RK G<|ak fun _ C=>WS fun _ H=>rP 2 [] mn ?_
 refine RK H<|bW U (aT fun D=>?_) (aU fun D=>?_)
 ·refine WK C<|WS fun _ B=>rP 3 [] (mc 0 U mn) ?_
  refine RK B<|aq<|Q1 hQ U U U ?_
  (refine congrArg (Value.int .i64) ?_; rw [show n.toNat=0 by omega] at hx ⊢; rw [yO hx,(xW htr (hbk _ (List.mem_of_getElem? hx)).1).2])
 refine dA ct [14] [] [] [1,2,3,4,5,6] [] U U U U U<|eS U (FA 0 U fj U)<|eS U (LP (bO.cells (bO.mk (bH.mk kA l.aV.length kC))) 1 U cj U U U)<|eS U (FA 3 U fj U)<|eS U (L1 (vS bA l.ab.length bC) 1 U cj U U)<|eS U (MV U)<|eS U (BI U (vK ⟨I,I⟩)) ?_
 obtain ⟨y,hy⟩:=aL l.ab (((n-1)).toNat) I
 have K:=bM bJ.cells hy
 refine eS U (IA (((n-1)).toNat) U (aA 5 U) wq dc I I)<|eS U (o9 ((((n-1)).toNat)*4) U (aA 5 U) (Nat.mul_pos I dc) fj U)<|eS U (lx (((n-1)).toNat) 0 (cH.cells y.mW) U cj (aA 5 U) K U dc U U)<|eS U (LW 0 U cj U U)<|eS U (CL (No l.aV kA kC y.mW x.mW asm asm) (bu [2]) U)<|eS U (MV U)<|eS U (EX U)<|eS U (EX U)<|eh U<|cd U fun T9 AB=>fG U cZ U<|aF (AB _ _ (aQ [1,2,3,4,5,6]) ?_)
 refine fp U<|KK C<|WS fun _ A=>rP 3 [] (mc 0 U mn) ?_
 refine RK A<|aq<|Q1 hQ U U U ?_
 (refine congrArg (Value.int .i64) ?_; rw [Ce I hx (by rw [show n.toNat-1=(n-1).toNat by omega]; exact hy),(lP htr ⟨(hbk _ (List.mem_of_getElem? hy)).1,(hbk _ (List.mem_of_getElem? hx)).1⟩).2])
theorem OO (l:bk) (kA:OA) (kC:Nat) (az:List RA) (cA:OA) (cC:Nat) (bA:OA) (bC:Nat) (hin:eg l az) (htr:di l.aV=true) (hbk: ∀ b∈l.ab,j6 l b):
 dG Tryz.prog 114 [(vA (cv.cells (jN l kA kC cA cC bA bC)))] [(rd kA l.aV.length 9 (l.aV.map ao.cells)),(rd cA l.aj.length 2 (List.zipWith aw.cells l.aj az)),(dR (bj aw.f_ l.aj az)),(rd bA l.ab.length 4 (l.ab.map bJ.cells))] (vB (decide (∀ i,i<l.ab.length→1≤lz l i))):=by
 have V:=hin.sJ
 have AA:=hin.sL
 have S:=hin.og
 have T:=hin.sH
 refine bG kr Tryz.func114 U U fun X Q hQ hN=>?_
 try dsimp only
 refine WS fun _ J=>eI U fun W=>bD 1 U<|RK J<|ak fun _ K=>WS fun _ L=>rP 4 [] (mc 0 U mn) ?_
 refine RK L<|aH ?_
 have A:(0≤l.ab.length)∧(∀ j,j<0→1≤lz l j):=by exact ⟨Nat.zero_le _,fun j hj=>absurd hj (Nat.not_lt_zero _)⟩
 refine bY (ι:={z:Nat // (z≤l.ab.length)∧(∀ j,j<z→1≤lz l j)}) [1,6] [0,1,2,3,4] U U (fun z=>[(7,(vI (z.1:Int)))]) (fun z=>[]) (fun _=>rfl) (fun _=>rfl) (fun z=>l.ab.length-z.1) ⟨0,A⟩ (bB U) (aQ [0,1,2,3,4]) ?_
 clear A
 rintro ⟨i,⟨P,B⟩⟩ J5 AB
 try dsimp only
 refine WS fun _ M=>rP 1 [] mn ?_
 refine RK M<|ak fun _ N=>bW U (aT fun R=>?_) (aU fun R=>?_)
 ·refine bP<|ai<|ai<|aJ<|KK K<|WS fun _ G=>rP 1 [] mn ?_
  refine RK G<|aq<|Q1 hQ U U U ?_
  exact cB (dx (fun j hj=>B j I)).symm
 refine WK N<|ak fun _ O=>aH<|WS fun _ D=>bD 2 U<|RK D<|WS fun _ E=>eQ 2 [] (mc 0 U mn) U<|rS (CL (Ld l kA kC az cA cC bA bC (i:Int) hin htr hbk I) (bu [1,2,3,4]) U)<|rP 1 [] mn ?_
 refine RK E<|cx U (aU fun C=>?_) (aT fun C=>?_)
 ·refine WS fun _ F=>rP 1 [] mn ?_
  refine RK F<|aq<|Q1 hQ U U U ?_
  exact cB (bE (fun h=>by have:=h i I; simp only [Int.toNat_natCast] at C; omega)).symm
 refine cf<|aN<|KK O<|au<|rP 2 [] mn ?_
 refine aF ?_
 have H:(vI (((i+1):Nat):Int))=(vI ((i:Int)+1)):=by exact cI I
 refine bg (AB ⟨(i+1),⟨I,fun j hj=>by rcases Nat.lt_or_ge j i with q|q; exact B j q; (obtain rfl:j=i:=by omega); simp only [Int.toNat_natCast] at C; omega⟩⟩ _ _ _ rfl os (dh.cons rfl<|dh.cons rfl<|bf rfl H<|dh.nil _) (aQ [0,1,2,3,4]))
end
section
open Go.RowKit
theorem Qw:
 dG Tryz.prog 92 [] [] (vA ((g5.cells (g5.mk (Value.func (.func 106) [].toArray [].toArray)))++(g5.cells (g5.mk (Value.func (.func 107) [].toArray [].toArray)))++(g5.cells (g5.mk (Value.func (.func 111) [].toArray [].toArray)))++(g5.cells (g5.mk (Value.func (.func 114) [].toArray [].toArray))))):=by
 refine bG kr Tryz.func92 U U fun D Q hQ hN=>?_
 try dsimp only
 refine WS fun _ A=>AL U Tq fun C=>RK A<|WS fun _ B=>rS (SX (bp (xs:=[(0,.func 106)]) (cs:=(g5.cells (g5.mk (Value.func (.func 106) [].toArray [].toArray)))) U U (bo E4 U)) U U)<|rS (SX (bp (xs:=[(0,.func 107)]) (cs:=(g5.cells (g5.mk (Value.func (.func 107) [].toArray [].toArray)))) U U (bo E4 U)) U U)<|rS (SX (bp (xs:=[(0,.func 111)]) (cs:=(g5.cells (g5.mk (Value.func (.func 111) [].toArray [].toArray)))) U U (bo E4 U)) U U)<|rS (SX (bp (xs:=[(0,.func 114)]) (cs:=(g5.cells (g5.mk (Value.func (.func 114) [].toArray [].toArray)))) U U (bo E4 U)) U U)<|rS (SX (bp (xs:=[(0,.tmp 1),(1,.tmp 2),(2,.tmp 3),(3,.tmp 4)]) (cs:=((g5.cells (g5.mk (Value.func (.func 106) [].toArray [].toArray)))++(g5.cells (g5.mk (Value.func (.func 107) [].toArray [].toArray)))++(g5.cells (g5.mk (Value.func (.func 111) [].toArray [].toArray)))++(g5.cells (g5.mk (Value.func (.func 114) [].toArray [].toArray))))) U U (bo RZ U)) U U)<|fG U Q7 U<|RK B<|aq ?_
 exact CV hQ [0] (mc 0 U mn) U U
theorem wT (l:bk) (kA:OA) (kC:Nat) (az:List RA) (cA:OA) (cC:Nat) (bA:OA) (bC:Nat) (hin:eg l az):
 dG Tryz.prog 64 [(vA (cv.cells (jN l kA kC cA cC bA bC)))] [(rd kA l.aV.length 9 (l.aV.map ao.cells)),(rd cA l.aj.length 2 (List.zipWith aw.cells l.aj az)),(dR (bj aw.f_ l.aj az)),(rd bA l.ab.length 4 (l.ab.map bJ.cells))] (vI (dD l)):=by
 have A0:=hin.sJ
 have AO:=hin.sL
 have AD:=hin.og
 have AF:=hin.sH
 have Ay:=hin.side
 refine bG kr Tryz.func64 U U fun w0 Q hQ hN=>?_
 try dsimp only
 refine WS fun _ m=>eI U fun b2=>bD 1 U<|RK m<|ak fun _ n=>WS fun _ o=>bD 1 U<|rS (LP (bO.cells (bO.mk (bH.mk kA l.aV.length kC))) 0 U cj U U U)<|rS (CL (BF l.aV kA kC asm asm) (bu [1]) U)<|bD 1 U<|RK o<|WS fun _ p=>rP 2 [] mn ?_
 refine RK p<|cx U (bq fun B=>?_) (br fun B=>?_)
 ·refine WS fun _ q=>rP 2 [] mn ?_
  refine RK q<|aq<|Q1 hQ U U U ?_
  (refine cI ?_; rw [(yR B).2,zw (yR B).1])
 refine WK n<|ak fun _ s=>WS fun _ t=>?_
 have A:=Dj B
 refine rS (CL Qw (aO) U)<|bD 1 U<|RK t<|aH<|rD 5<|kW fun R9 u=>WS fun _ C=>rS (SX (gl (r:= .bool true) U U U pg) U U)<|RK C<|ak fun _ D=>aS U<|WK D<|ak fun _ E=>aH<|WS fun _ F=>rS (SX (ug (vs:=(g5.cells (g5.mk (Value.func (.func 106) [].toArray [].toArray)))) 0 U U U E8 cj U dc U) U U)<|AL U Fq fun x=>fG U Fu U<|RK F<|WS fun _ G=>eQ 3 [0,1] (mc 0 U (mc 1 U mn)) U<|rS (CL (Qm l kA kC az cA cC bA bC hin) (bu [2,3,4,5]) U)<|rP 1 [] mn ?_
 refine RK G<|cx U (bq fun g=>?_) (br fun g=>?_)
 ·refine WS fun _ H=>rP 1 [] mn ?_
  refine RK H<|aq<|Q1 hQ U U U ?_
  exact cI (qC A fun h=>absurd h.head asm).symm
 refine cf<|aN<|KK E<|au<|rS (SX (gl (r:= .int .i64 1) U U U (nO ⟨dc,dc⟩)) U U)<|bD 1 U<|RK u<|kW fun R18 d=>WS fun _ AB=>rS (SX (gl (r:= .bool true) U U U pg) U U)<|RK AB<|ak fun _ J=>aS U<|WK J<|ak fun _ K=>aH<|WS fun _ L=>rS (SX (ug (vs:=(g5.cells (g5.mk (Value.func (.func 107) [].toArray [].toArray)))) 1 U U U E8 cj U dc U) U U)<|AL U Fq fun y=>fG U Fu U<|RK L<|WS fun _ M=>eQ 3 [0,1] (mc 0 U (mc 2 U mn)) U<|rS (CL (QA l kA kC az cA cC bA bC hin) (bu [3,4,5,6]) U)<|rP 1 [] mn ?_
 refine RK M<|cx U (bq fun i=>?_) (br fun i=>?_)
 ·refine WS fun _ N=>rP 1 [] mn ?_
  refine RK N<|aq<|Q1 hQ U U U ?_
  exact cI (qC A fun h=>absurd h.clock asm).symm
 refine cf<|aN<|KK K<|au<|rS (SX (gl (r:= .int .i64 2) U U U (nO ⟨dc,dc⟩)) U U)<|bD 1 U<|RK d<|kW fun R27 e=>WS fun _ O=>rS (SX (gl (r:= .bool true) U U U pg) U U)<|RK O<|ak fun _ P=>aS U<|WK P<|ak fun _ R=>aH<|WS fun _ S=>rS (SX (ug (vs:=(g5.cells (g5.mk (Value.func (.func 111) [].toArray [].toArray)))) 2 U U U E8 cj U dc U) U U)<|AL U Fq fun z=>fG U Fu U<|RK S<|WS fun _ T=>eQ 3 [0,1] (mc 0 U (mc 3 U mn)) U<|rS (CL (Pe l kA kC az cA cC bA bC hin asm) (bu [4,5,6,7]) U)<|rP 1 [] mn ?_
 refine RK T<|cx U (bq fun j=>?_) (br fun j=>?_)
 ·refine WS fun _ AA=>rP 1 [] mn ?_
  refine RK AA<|aq<|Q1 hQ U U U ?_
  exact cI (qC A fun h=>absurd h.ua asm).symm
 refine cf<|aN<|KK R<|au<|rS (SX (gl (r:= .int .i64 3) U U U (nO ⟨dc,dc⟩)) U U)<|bD 1 U<|RK e<|kW fun R36 f=>WS fun _ V=>rS (SX (gl (r:= .bool true) U U U pg) U U)<|RK V<|ak fun _ W=>aS U<|WK W<|ak fun _ X=>aH<|WS fun _ Y=>rS (SX (ug (vs:=(g5.cells (g5.mk (Value.func (.func 114) [].toArray [].toArray)))) 3 U U U E8 cj U dc U) U U)<|AL U Fq fun AC=>fG U Fu U<|RK Y<|WS fun _ Z=>eQ 3 [0,1] (mc 0 U (mc 4 U mn)) U<|rS (CL (OO l kA kC az cA cC bA bC hin asm asm) (bu [5,6,7,8]) U)<|rP 1 [] mn ?_
 refine RK Z<|cx U (bq fun k=>?_) (br fun k=>?_)
 ·refine WS fun _ a=>rP 1 [] mn ?_
  refine RK a<|aq<|Q1 hQ U U U ?_
  exact cI (qC A fun h=>absurd h.Qe asm).symm
 refine cf<|aN<|KK X<|au<|rS (SX (gl (r:= .int .i64 4) U U U (nO ⟨dc,dc⟩)) U U)<|bD 1 U<|RK f<|kW fun R45 w=>WS fun _ b=>rS (SX (gl (r:= .bool false) U U U pg) U U)<|RK b<|ak fun _ v=>bR U<|bP<|ai<|ai<|aJ<|KK s<|WS fun _ c=>rP 1 [] mn ?_
 refine RK c<|aq<|Q1 hQ U U U ?_
 exact cI (wY A (zh asm asm asm asm)).symm
theorem BH (lo hi:Int) (f:Value) (p:Int→Bool) (X:ax) (r:Int) (hf: ∀ x0,0≤x0∧x0<hi→DY Tryz.prog f [.int .i64 x0] [X] (.bool (p x0))) (hb:0≤lo∧lo≤r∧r≤hi∧hi≤100000000) (hno: ∀ x,lo≤x→x<r→p x=false) (hyes: ∀ x,r≤x→x<hi→p x=true):
 dG Tryz.prog 95 [(vI lo),(vI hi),f] [X] (vI r):=by
 refine bG kr Tryz.func95 U U fun N Q hQ hN=>?_
 try dsimp only
 refine WS fun _ F=>rP 1 [] mn ?_
 refine RK F<|ak fun _ G=>aH ?_
 have A:(lo≤lo∧lo≤r)∧(r≤hi∧hi≤hi):=by omega
 refine bY (ι:={z:Int×Int // (lo≤z.1∧z.1≤r)∧(r≤z.2∧z.2≤hi)}) [2] [0] U U (fun z=>[(0,(vI z.1.1)),(1,(vI z.1.2))]) (fun z=>[]) (fun _=>rfl) (fun _=>rfl) (fun z=>(z.1.2-z.1.1).toNat) ⟨(lo,hi),A⟩ (bB U) (aQ [0]) ?_
 clear A
 rintro ⟨⟨a,b⟩,⟨B,C⟩⟩ J3 D
 try dsimp only at B C
 try dsimp only
 refine ak fun _ H=>WS fun _ AA=>rP 3 [] mn ?_
 refine RK AA<|bW U (aT fun M=>?_) (aU fun M=>?_)
 ·refine bP<|ai<|ai<|aJ<|KK G<|WS fun _ L=>rP 2 [] mn ?_
  refine RK L<|aq<|Q1 hQ U U U ?_
  exact cI I
 refine WK H<|aH<|WS fun _ J=>bD 4 U<|rS (BI U (ue I I I))<|bD 2 U<|RK J<|WS fun _ K=>rP 2 [] mn ?_
 refine rS (SX (qa U U U (hf (a+((b-a)/2)) I) (bu [0])) U U)<|RK K<|cx U (fun hp=>?_) (fun hp=>?_)
 ·refine au<|rP 2 [] mn ?_
  refine aF<|aN ?_
  refine bg (D ⟨(a,(a+((b-a)/2))),(by dsimp only; rcases Int.lt_or_le (a+(b-a)/2) r with q|q; (have E:=hno _ I q; (rw [E] at hp; cases hp)); (have E:=hyes _ q I; (refine ⟨⟨I,I⟩,I,I⟩)))⟩ _ _ _ rfl (by simp only []; omega) (bB rfl) (aQ [0]))
 refine au<|rP 3 [] mn ?_
 refine aF<|aN ?_
 refine bg (D ⟨(((a+((b-a)/2))+1),b),(by dsimp only; rcases Int.lt_or_le (a+(b-a)/2) r with q|q; (have E:=hno _ I q; (refine ⟨⟨I,I⟩,I,I⟩)); (have E:=hyes _ q I; (rw [E] at hp; cases hp)))⟩ _ _ _ rfl (by simp only []; omega) (bB rfl) (aQ [0]))
theorem Ja (u:Int) (c:aw) (sA:OA) (sC g1:Nat) (s:aG) (g2:Nat) (hc:e8 c) (hu:0≤u∧u≤90000000):
 dG Tryz.prog 96 [(vI u),(vP g1),(vP g2)] [(rd sA c.bI.length 3 (c.bI.map cQ.cells)),(cu g1 73 (dq.cells (dq.mk c.dC (bH.mk sA c.bI.length sC)))),(cu g2 78 (aG.cells s))] (vB (decide (s.Read≤u+(iF c u).Hi))):=by
 have C:=qQ hc hu
 refine bG kr Tryz.func96 U U fun D Q hQ hN=>?_
 try dsimp only
 refine WS fun _ A=>bD 1 U<|RK A<|ak fun _ B=>dp ct 10 kr<|lU 3 [] (mr 1 U mn) U<|dS (CL (Fs c sA sC u hc hu) (bu [0]) U)<|dS (SX (rQ (v:=(vI ((iF c u).Hi))) U U fj IW U) U U)<|dP 5 [] (mr 2 U mn) ?_
 refine cK<|RK B<|aq ?_
 exact Q1 hQ U U U U
theorem Lp (u:Int) (c:aw) (sA:OA) (sC g1:Nat) (s:aG) (g2:Nat) (hc:e8 c) (hu:0≤u∧u≤90000000):
 dG Tryz.prog 98 [(vI u),(vP g1),(vP g2)] [(rd sA c.bI.length 3 (c.bI.map cQ.cells)),(cu g1 73 (dq.cells (dq.mk c.dC (bH.mk sA c.bI.length sC)))),(cu g2 78 (aG.cells s))] (vB (decide (s.Read<u+(iF c u).Lo))):=by
 have C:=qQ hc hu
 refine bG kr Tryz.func98 U U fun D Q hQ hN=>?_
 try dsimp only
 refine WS fun _ A=>bD 1 U<|RK A<|ak fun _ B=>dp ct 10 kr<|lU 3 [] (mr 1 U mn) U<|dS (CL (Fs c sA sC u hc hu) (bu [0]) U)<|dS (SX (rQ (v:=(vI ((iF c u).Lo))) U U fj JQ U) U U)<|dP 5 [] (mr 2 U mn) ?_
 refine cK<|RK B<|aq ?_
 exact Q1 hQ U U U U
theorem zW (l:bk) (kA:OA) (kC:Nat) (az:List RA) (cA:OA) (cC:Nat) (bA:OA) (bC:Nat) (s:aG) (hin:eg l az) (hok:lK l) (hs:(0≤s.fE∧s.fE≤(l.ab.length:Int)-1)∧0≤s.Read∧s.Read≤86400000):
 dG Tryz.prog 67 [(vA (cv.cells (jN l kA kC cA cC bA bC))),(vA (aG.cells s))] [(rd kA l.aV.length 9 (l.aV.map ao.cells)),(rd cA l.aj.length 2 (List.zipWith aw.cells l.aj az)),(dR (bj aw.f_ l.aj az)),(rd bA l.ab.length 4 (l.ab.map bJ.cells))] (vA (ag.cells (cP l s))):=by
 have V:=hin.sJ
 have S:=hin.sL
 have P:=hin.og
 have R:=hin.sH
 refine bG kr Tryz.func67 U U fun Z Q hQ hN=>?_
 try dsimp only
 refine WS fun _ AB=>eI U fun X=>eI U fun D=>AL U dV fun Y=>RK AB<|ak fun _ J=>dA ct [11,12] [] [] [0,1,2,3,4,5,6] [] U U U U U<|eS U (FA 2 U fj U)<|eS U (L1 (vS cA l.aj.length cC) 2 U cj U U)<|eS U (FA 3 U fj U)<|eS U (L1 (vS bA l.ab.length bC) 2 U cj U U)<|eS U (FA 0 U fj U)<|eS U (L1 (vI s.fE) 1 U cj U U) ?_
 obtain ⟨y,hy⟩:=aL l.ab ((s.fE).toNat) I
 have O:=bM bJ.cells hy
 refine eS U (IA ((s.fE).toNat) U (aA 6 U) wq dc I I)<|eS U (o9 ((((s.fE).toNat)*4)+3) U (aA 6 U) (Nat.mul_pos I dc) fj U)<|eS U (g6 ((s.fE).toNat) 3 (vI y.kf) U cj (aA 6 U) O U dc U) ?_
 have W:=(hok.ua _ (aR hy)).2
 obtain ⟨x,hx⟩:=aL l.aj ((y.kf).toNat) I
 obtain ⟨xa,F⟩:=aL az ((y.kf).toNat) I
 have N:(List.zipWith aw.cells l.aj az)[(y.kf).toNat]? =some (aw.cells x xa):=dy hx F
 refine eS U (IA ((y.kf).toNat) U (aA 4 U) Az dc I I)<|eS U (lx ((y.kf).toNat) 0 (dq.cells (dq.mk x.dC (bH.mk xa.1 x.bI.length xa.2))) U cj (aA 4 U) N U dc U U)<|eh U<|cd U fun T6 L=>AL U Qq fun E=>aF (L _ _ (aQ [1,2,3,4,5,6,7]) ?_)
 refine cd U fun T8 M=>fG U RO U<|aF (M _ _ (aQ [1,2,3,4,5,6,7]) ?_)
 refine fp U<|KK J<|WS fun _ K=>?_
 have A:=hok.clock _ (aR hx)
 have AA:=iG (p:=gI x s.Read) (n:=86400001)
 have T:=iG (p:=gK x s.Read) (n:=86400001)
 refine rS (FU U) ?_
 refine rS (CL (BH 0 86400001 (Value.func (.func 96) [].toArray [(vP E),(vP D)].toArray) (fun B=>(decide (s.Read≤B+(iF x B).Hi))) (dR [(rd xa.1 x.bI.length 3 (x.bI.map cQ.cells)),(cu E 73 (dq.cells (dq.mk x.dC (bH.mk xa.1 x.bI.length xa.2)))),(cu D 78 (aG.cells s))]) (fI (gI x s.Read) 86400001) (by intro B _; exact lh (fi:=[]) (ca:=[(vP E),(vP D)]) (jS (Ja B x xa.1 xa.2 E s D (by first|assumption|omega) (by first|assumption|omega)) (QN 0 1 2 U U U U U U))) I (by intro z G hz; exact (lp A G I).1 hz) (by intro z hz H; exact (lp A I H).2.1 hz)) (aK (jX (aK (show iK _ (rd xa.1 x.bI.length 3 (x.bI.map cQ.cells)).holds from (cO 6 U (bK hx F (by simp [aw.f_]))))<|gY 0 U U<|gY 2 U U<|aO))<|aO) U) ?_
 refine rS (FU U) ?_
 refine rS (CL (BH 0 86400001 (Value.func (.func 98) [].toArray [(vP E),(vP D)].toArray) (fun C=>(decide (s.Read<C+(iF x C).Lo))) (dR [(rd xa.1 x.bI.length 3 (x.bI.map cQ.cells)),(cu E 73 (dq.cells (dq.mk x.dC (bH.mk xa.1 x.bI.length xa.2)))),(cu D 78 (aG.cells s))]) (fI (gK x s.Read) 86400001) (by intro C _; exact lh (fi:=[]) (ca:=[(vP E),(vP D)]) (jS (Lp C x xa.1 xa.2 E s D (by first|assumption|omega) (by first|assumption|omega)) (QN 0 1 2 U U U U U U))) I (by intro z G hz; exact (lp A G I).2.2.1 hz) (by intro z hz H; exact (lp A I H).2.2.2 hz)) (aK (jX (aK (show iK _ (rd xa.1 x.bI.length 3 (x.bI.map cQ.cells)).holds from (cO 6 U (bK hx F (by simp [aw.f_]))))<|gY 0 U U<|gY 2 U U<|aO))<|aO) U) ?_
 refine rP 1 [] mn ?_
 refine rS (SX (bp (xs:=[(0,.tmp 18),(1,.tmp 21)]) (cs:=(ag.cells (ag.mk (fI (gI x s.Read) 86400001) ((fI (gK x s.Read) 86400001)-1)))) U U (bo gX U)) U U)<|qO U cZ U<|RK K<|aq<|CV hQ [0] (mc 1 U mn) U ?_
 unfold cP rq; rw [ym hy hx]
end
section
open Go.RowKit
theorem td (ln:cv) (ri:cz) (e:List Int) (tms:List TM) (e_A:OA) (e_C:Nat) (tb:List Nat) (t_A:OA) (t_C:Nat) (fA:OA) (fN fC:Nat) (bA:OA) (bN bC:Nat) (gw b:Nat) (g1 g2:Nat) (hb:b<tms.length) (htb:tb.length=tms.length):
 LY Tryz.prog 99 [] [(vP g1),(vP g2)] [(rd e_A e.length 1 (e.map iC)),(rd t_A tms.length 1 (List.zipWith gD tms tb)),(dR (bj qf tms tb)),(cu gw 150 (cb.cells (cb.mk ln ri (bH.mk e_A e.length e_C) (bH.mk t_A tms.length t_C) (bH.mk fA fN fC) (bH.mk bA bN bC)))),(cu g1 108 [(vP gw)]),(cu g2 3 [(vI (b:Int))])] ([]:List (Int×ag)) (fun ys x ys'=> ∃ o,o∈iN (cT ln ri e tms) b∧x=Oi o∧ys'=ys++[o]) (fun ys=> ∀ o∈iN (cT ln ri e tms) b,o∈ys):=by
 refine E9 kr Tryz.func99 U U fun l J Z A0 d Q hY V AA hQ hN=>?_
 try dsimp only
 refine ak fun _ X=>ak fun _ R=>dp ct 12 kr<|lU 2 [] (mr 5 U mn) U<|dS (SX (cR U U) U U)<|lU 4 [0,1] (mr 4 U (mr 5 U mn)) U<|dS (SX (cR U U) U U)<|dP 3 [] (mr 4 U mn) ?_
 refine dS (SX (bp (xs:=[(0,.tmp 11),(1,.tmp 16)]) (cs:=(ag.cells (ag.mk ri.Start ri.fR))) U U (bo gX U)) U U)<|cK<|xb (k:=([]:List (Int×ag))) (k':=(([]:List (Int×ag))++[((-1),(ag.mk ri.Start ri.fR))])) 0 (by first|exact hsz|exact Nat.le_refl _) hY V AA U U U (by exact ⟨(-1,⟨ri.Start,ri.fR⟩),cy ..,U,U⟩) U U (fun B3 N M=>?_) (fun B3 N M=>?_)
 rotate_left 1
 ·refine rP 1 [] mn ?_
  refine RK R<|aS U<|aq ?_
  refine hQ _ _ _ (jV (vs:=[]) trivial fun w hs=>E2 0 U N M hs)
 refine bD 1 U<|RK R<|bR U<|WK X<|ak fun _ Y=>dp ct 7 kr<|lU 1 [] (mr 5 U mn) U<|dS (SX (cR U U) U U)<|dP 3 [0,1] (mr 4 U (mr 6 U mn)) ?_
 obtain ⟨x,hx⟩:=aL tms b I
 obtain ⟨xa,L⟩:=aL tb b I
 have a:(List.zipWith gD tms tb)[b]? =some (gD x xa):=dy hx L
 refine dS (IA b U (aA 2 U) xI dc I I)<|dS (g6 b 0 (Value.map (some xa)) U cj (aA 2 U) a U dc U)<|cK<|pU (kV:=iV) (m:=cS jW x) 3 U U sO U ⟨⟨(j1 iV xa (cS jW x)),(bK hx L (by simp [qf])),U⟩,fun h=>h⟩ (show iK _ (j1 iV xa (cS jW x)).holds from cO 3 U (bK hx L (by simp [qf]))) U fun j=>?_
 try dsimp only
 refine RK Y<|aH ?_
 have G:(∀ o∈x,o∈x∨o∈(([]:List (Int×ag))++[((-1),(ag.mk ri.Start ri.fR))]))∧(∀ o∈x,o∈x)∧(J (([]:List (Int×ag))++[((-1),(ag.mk ri.Start ri.fR))]) B3)∧(Fo A0 d B3)∧((-1,(⟨ri.Start,ri.fR⟩:ag))∈(([]:List (Int×ag))++[((-1),(ag.mk ri.Start ri.fR))])):=by exact ⟨fun o ho=> .inl ho,fun o ho=>ho,asm,asm,sm⟩
 refine bY (ι:={z:TM×(List (Int×ag))×ax // (∀ o∈x,o∈z.1∨o∈z.2.1)∧(∀ o∈z.1,o∈x)∧(J z.2.1 z.2.2)∧(Fo A0 d z.2.2)∧((-1,(⟨ri.Start,ri.fR⟩:ag))∈z.2.1)}) [0,1,2,27] [2,3,4,6,7] U U (fun z=>[]) (fun z=>[(CX iV j xa (cS jW x) (cS jW z.1.1) none),z.1.2.2]) (fun _=>rfl) (fun _=>rfl) (fun z=>z.1.1.length) ⟨(x,(([]:List (Int×ag))++[((-1),(ag.mk ri.Start ri.fR))]),B3),G⟩ (dh.nil _) (aQ [2,3,4,6,7,0,1]) ?_
 clear G
 rintro ⟨⟨left,ys,A⟩,⟨B,C,D,E,F⟩⟩ J8 W
 try dsimp only at B C D E F
 try dsimp only
 refine WS fun _ S=>ox (ig si).inj (f:=jW) 5 U U U U (fun T=>?_) (fun i z hm hn=>?_)
 ·refine rP 1 [] mn ?_
  refine RK S<|ak fun _ c=>bR U<|bP<|ai<|ai<|aJ ?_
  refine hN _ _ _ (jV (vs:=[]) trivial fun w hs=>Qk 6 U (by exact HP hx B T F) D E hs)
 try dsimp only
 refine bD 1 U<|RK S<|ak fun _ O=>aS U<|WK O<|aH<|WS fun _ P=>rS (SX (oz 5 U U U) U U)<|bD 2 U<|AL U dV fun g=>bD 1 U<|fG U cZ U<|RK P<|WS fun _ K=>rP 3 [] (mc 0 U mn) ?_
 refine xb (k:=ys) (k':=(ys++[(i,z)])) 7 (by first|exact hsz|exact Nat.le_refl _) hY D E U U U (by exact ⟨(i,z),(wQ hx).2 (.inr (C _ hm)),U,U⟩) U U (fun B15 AB H=>?_) (fun B15 AB H=>?_)
 rotate_left 1
 ·refine rP 1 [] mn ?_
  refine RK K<|aS U<|aq ?_
  refine hQ _ _ _ (jV (vs:=[]) trivial fun w hs=>E2 7 U AB H hs)
 refine rP 1 [] mn ?_
 refine RK K<|bR U<|cf<|aN<|qX 6 U py U ?_
 refine bg (W ⟨((e9 left i),(ys++[(i,z)]),B15),⟨Hl hn hm B,mI C,asm,asm,by simp [F]⟩⟩ _ _ _ U (mG hm) (bB U) (aQ [1,2,3,4,5,6,7]))
theorem u_ (gw b:Nat):
 pG Tryz.prog 71 [(vP gw),(vI (b:Int))] [] (fun (x:Nat×Nat)=>(Value.func (.func 99) [].toArray [(Value.pointer (some ⟨x.1,0,none⟩)),(Value.pointer (some ⟨x.2,0,none⟩))].toArray)) (fun (x:Nat×Nat)=>True) (fun (x:Nat×Nat)=>[(cu x.1 108 [(vP gw)]),(cu x.2 3 [(vI (b:Int))])]):=by
 refine e_ kr Tryz.func71 U U fun E Q hQ hN=>?_
 try dsimp only
 refine WS fun _ A=>wJ U U fun C=>wJ U U fun D=>bD 1 U<|RK A<|WS fun _ B=>rS (FU U)<|rP 1 [] mn ?_
 refine RK B<|aq<|LX hQ (C,D) [1,0] [] mn U U U U ?_
 trivial
theorem H8 (gw b:Nat):
 pG Tryz.prog 45 [(vP gw),(vI (b:Int))] [] (fun (x:Nat×Nat)=>(Value.func (.func 70) [].toArray [(Value.pointer (some ⟨x.1,0,none⟩)),(Value.pointer (some ⟨x.2,0,none⟩))].toArray)) (fun (x:Nat×Nat)=>True) (fun (x:Nat×Nat)=>[(cu x.1 108 [(vP gw)]),(cu x.2 3 [(vI (b:Int))])]):=by
 refine e_ kr Tryz.func45 U U fun E Q hQ hN=>?_
 try dsimp only
 refine WS fun _ A=>wJ U U fun C=>wJ U U fun D=>bD 1 U<|RK A<|WS fun _ B=>rS (FU U)<|rP 1 [] mn ?_
 refine RK B<|aq<|LX hQ (C,D) [1,0] [] mn U U U U ?_
 trivial
end
section
open Go.RowKit
theorem Bx (ln:cv) (ri:cz) (e:List Int) (tms:List TM) (e_A:OA) (e_C:Nat) (tb:List Nat) (t_A:OA) (t_C gw:Nat) (hw:Hq (cT ln ri e tms)) (hn:ln.ab.n=e.length) (htb:tb.length=tms.length):
 LB Tryz.prog 68 [(vP gw)] [(rd e_A e.length 1 (e.map iC)),(rd t_A tms.length 1 (List.zipWith gD tms tb)),(dR (bj qf tms tb))] (cu gw 150 (cb.cells (cb.mk ln ri (bH.mk e_A e.length e_C) (bH.mk t_A tms.length t_C) (bH.mk none 0 0) (bH.mk none 0 0)))) (fun (x:(List FM)×(List Nat)×(OA)×Nat×(List FM)×(List Nat)×(OA)×Nat)=>(vT [])) (fun (x:(List FM)×(List Nat)×(OA)×Nat×(List FM)×(List Nat)×(OA)×Nat)=>vV (cT ln ri e tms) x.1∧s_ (cT ln ri e tms) x.2.2.2.2.1∧x.2.1.length=x.1.length∧x.2.2.2.2.2.1.length=x.2.2.2.2.1.length) (fun (x:(List FM)×(List Nat)×(OA)×Nat×(List FM)×(List Nat)×(OA)×Nat)=>(bQ [(cu gw 150 (cb.cells (cb.mk ln ri (bH.mk e_A e.length e_C) (bH.mk t_A tms.length t_C) (bH.mk x.2.2.1 x.1.length x.2.2.2.1) (bH.mk x.2.2.2.2.2.2.1 x.2.2.2.2.1.length x.2.2.2.2.2.2.2)))),(own x.2.2.1 x.2.2.2.1 156 1 (List.zipWith gD x.1 x.2.1)),(bQ (bj m6 x.1 x.2.1)),(own x.2.2.2.2.2.2.1 x.2.2.2.2.2.2.2 156 1 (List.zipWith gD x.2.2.2.2.1 x.2.2.2.2.2.1)),(bQ (bj m6 x.2.2.2.2.1 x.2.2.2.2.2.1))])):=by
 have W2:e.length≤6:=hw.n
 have W3:tms.length=e.length:=hw.times
 refine uR kr Tryz.func68 U U fun w0 Q hQ hN=>?_
 try dsimp only
 refine WS fun _ DS=>wJ U U fun W=>RK DS<|WS fun _ EQ=>eQ 1 [] (mc 0 U mn) U<|rS (SX (cR U U) U U)<|rP 5 [] (mc 1 U mn) ?_
 refine RK EQ ?_
 refine mD (ι:={z:(OA)×(OA) // True}) [0,1,2] [0,2,3,4] U U (fun z=>[]) (fun z=>[(own z.1.1 (ln.ab.n+1) 156 1 (List.map oC (List.replicate (ln.ab.n+1) (none:Option Nat)))),(own z.1.2 (ln.ab.n+1) 156 1 (List.map oC (List.replicate (ln.ab.n+1) (none:Option Nat)))),(cu gw 150 (cb.cells (cb.mk ln ri (bH.mk e_A e.length e_C) (bH.mk t_A tms.length t_C) (bH.mk z.1.1 (ln.ab.n+1) (ln.ab.n+1)) (bH.mk z.1.2 (ln.ab.n+1) (ln.ab.n+1)))))]) (fun _=>rfl) (fun _=>rfl) ?_ fun K4 Eq=>?_
 ·rintro ⟨⟨fA,bA⟩,_⟩
  try dsimp only
  refine CF 6 U U fun wz Sz hz=>?_
  have Wz:(List.replicate (ln.ab.n+1) (none:Option Nat)).length=(ln.ab.n+1):=List.length_replicate
  try dsimp only
  refine mD (ι:={z:Nat // True}) [0,1,2] [0,1,2,3,4,6] U U (fun z=>[]) (fun z=>[(bQ (bj m6 [[((aI.mk 0 0),ri.Start)]] [z.1])),(own fA (ln.ab.n+1) 156 1 (List.map oC (dB [z.1] (ln.ab.n+1))))]) (fun _=>rfl) (fun _=>rfl) ?_ fun K5 VR=>?_
  ·rintro ⟨ga,_⟩
   try dsimp only
   refine ak fun _ FS=>WS fun _ FV=>rP 2 [] mn ?_
   refine RK FV<|aH<|oc ?_
   have C:(0≤ln.ab.n)∧(([[((aI.mk 0 0),ri.Start)]]).length=0+1)∧(([ga]).length=0+1)∧(qn (cT ln ri e tms) ([[((aI.mk 0 0),ri.Start)]])):=by exact ⟨Nat.zero_le _,rfl,rfl,qn.first⟩
   refine wK (ι:={z:Nat×(List FM)×(List Nat)×(List Nat) // (z.1≤ln.ab.n)∧(z.2.1.length=z.1+1)∧(z.2.2.1.length=z.1+1)∧(qn (cT ln ri e tms) z.2.1)}) (fun z=>z.1.2.2.2.map jR) (fun z=>[(0,(vP gw)),(1,(vP W)),(2,(vI (ln.ab.n:Int))),(52,(vI (ln.ab.n:Int))),(53,(vI (z.1.1:Int)))]) (fun z=>[(bQ (z.1.2.2.2.map mz)),(cu gw 150 (cb.cells (cb.mk ln ri (bH.mk e_A e.length e_C) (bH.mk t_A tms.length t_C) (bH.mk fA (ln.ab.n+1) (ln.ab.n+1)) (bH.mk bA (ln.ab.n+1) (ln.ab.n+1))))).ro,(cu W 108 [(vP gw)]),(rd e_A e.length 1 (e.map iC)).ro,(rd t_A tms.length 1 (List.zipWith gD tms tb)).ro,(dR (bj qf tms tb)).ro,(own bA (ln.ab.n+1) 156 1 (List.map oC (List.replicate (ln.ab.n+1) (none:Option Nat)))),(bQ (bj m6 z.1.2.1 z.1.2.2.1)),(own fA (ln.ab.n+1) 156 1 (List.map oC (dB z.1.2.2.1 (ln.ab.n+1))))]) (fun z=>ln.ab.n-z.1.1) ⟨(0,[[((aI.mk 0 0),ri.Start)]],[ga],([]:List Nat)),C⟩ U (bB U) (aQ [0,1,2,3,4,5,6,7,8]) ?_
   clear C
   rintro ⟨⟨b,fs,fb,T4⟩,⟨Id,A3,If,M⟩⟩ J8 VO
   try dsimp only at Id A3 If M
   try dsimp only
   have W0:(dB fb (ln.ab.n+1)).length=(ln.ab.n+1):=nE I
   refine WS fun _ Fd=>rP 1 [] mn ?_
   refine RK Fd<|ak fun _ AD=>cx U (aU fun UV=>?_) (aT fun UV=>?_)
   ·refine WK AD<|ak fun _ LA=>aH<|WS fun _ LE=>rP 1 [] mn ?_
    refine AL U kj fun s=>MR U CU U U<|RK LE<|ak fun _ LT=>dA ct [6,8] [6] [0] [0,1,2,3,4,5,6,7,8] [0,1,2,3,4,5,6,7,8,9] U U U U U<|eS U (Es 3 U cj U)<|eS U (SX (cR U U) U U)<|eS U (FA 12 U fj U)<|eS U (Lj (vS fA (ln.ab.n+1) (ln.ab.n+1)) 2 U cj U U)<|eS U (Es 0 U cj U)<|eS U (BI U (nO ⟨I,I⟩)) ?_
    obtain ⟨WI,TO⟩:=aL (dB fb (ln.ab.n+1)) (b+1) I
    have hx17m:(List.map oC (dB fb (ln.ab.n+1)))[(b+1)]? =some (oC WI):=by rw [fM,TO]; rfl
    refine fS U (IA (b+1) U (aC (n:=(ln.ab.n+1)) 9 U sq) ow dc I I) ?_
    refine eh U<|jB U fun T18 P6=>lF (kV:=eo) U U fun B=>?_
    try dsimp only
    refine aF (P6 _ _ (aQ [1,2,3,4,5,6,7,8,9]) (aQ [1,2,3,4,5,6,7,8,9,10]) ?_)
    refine cd U fun T20 P8=>?_
    have R4:((dB fb (ln.ab.n+1)).set (b+1) (some B))=(dB (fb++[B]) (ln.ab.n+1)):=by exact rO I I
    refine fW (k:=(b+1)) (o:=0) (vs:=[(Value.map (some B))]) (es':=(List.map oC (dB (fb++[B]) (ln.ab.n+1)))) (C':=[_,_,_,_,_,_,_,_,_,_,(own fA (ln.ab.n+1) 156 1 (List.map oC (dB (fb++[B]) (ln.ab.n+1))))]) 10 U U U Jk U U U U hx17m U dc (by exact (List.map_set (f:=oC) (l:=(dB fb (ln.ab.n+1))) (i:=(b+1)) (a:=(some B))).symm.trans (congrArg _ R4)) U<|aF (P8 _ _ (aQ [1,2,3,4,5,6,7,8,9]) ?_)
    refine fp U<|KK LT<|ak fun _ La=>?_
    have V7:(dB (fb++[B]) (ln.ab.n+1)).length=(ln.ab.n+1):=nE (by simp; omega)
    obtain ⟨mb,N⟩:=aL fs b I
    obtain ⟨ga,Z⟩:=aL fb b I
    refine zf 9 N Z U U U ?_
    try dsimp only
    refine dp ct 7 kr<|lU 1 [] (mc 6 U mn) U<|dS (SX (cR U U) U U)<|dP 3 [0,1] (mr 5 U (mc 3 U mn)) ?_
    have R8:(List.map oC (dB (fb++[B]) (ln.ab.n+1)))[b]? =some (oC (some ga)):=qk (mP (IZ Z))
    refine dS (IA b U (aC (n:=(ln.ab.n+1)) 11 U sq) ow dc I I) ?_
    refine dS (g6 b 0 (Value.map (some ga)) U cj (aC (n:=(dB (fb++[B]) (ln.ab.n+1)).length) 11 U sm) R8 U dc U)<|cK<|yS 0 U U pw U U fun Bp=>?_
    try dsimp only
    refine RK La<|aH ?_
    have C:(∀ p∈mb,p∈mb)∧(xd (cT ln ri e tms) b ([]:FM))∧(kg (cT ln ri e tms) b mb ([]:FM) mb):=by exact ⟨fun p hp=>hp,xd.start,kg.start⟩
    refine wK (ι:={z:FM×FM×(List Nat) // (∀ p∈z.1,p∈mb)∧(xd (cT ln ri e tms) b z.2.1)∧(kg (cT ln ri e tms) b mb z.2.1 z.1)}) (fun z=>z.1.2.2.map jR) (fun z=>[(0,(vP gw)),(1,(vP W)),(2,(vI (ln.ab.n:Int))),(3,(vP s)),(52,(vI (ln.ab.n:Int))),(53,(vI (b:Int))),(71,(vP Bp))]) (fun z=>[(zD eo Bp ga (cS iV mb) (cS iV z.1.1) none),(bQ (je m6 fs fb b)),(j1 eo B (cS iV z.1.2.1)),(cu s 3 [(vI (b:Int))]),(bQ (z.1.2.2.map mz)),(cu gw 150 (cb.cells (cb.mk ln ri (bH.mk e_A e.length e_C) (bH.mk t_A tms.length t_C) (bH.mk fA (ln.ab.n+1) (ln.ab.n+1)) (bH.mk bA (ln.ab.n+1) (ln.ab.n+1))))).ro,(cu W 108 [(vP gw)]),(rd e_A e.length 1 (e.map iC)).ro,(rd t_A tms.length 1 (List.zipWith gD tms tb)).ro,(dR (bj qf tms tb)).ro,(own bA (ln.ab.n+1) 156 1 (List.map oC (List.replicate (ln.ab.n+1) (none:Option Nat)))),(own fA (ln.ab.n+1) 156 1 (List.map oC (dB (fb++[B]) (ln.ab.n+1))))]) (fun z=>z.1.1.length) ⟨(mb,([]:FM),T4),C⟩ U (bB U) (aQ [0,1,2,3,4,5,6,7,8,9,10,11]) ?_
    clear C
    rintro ⟨⟨left,m,A4⟩,⟨c,d,g⟩⟩ J26 K0
    try dsimp only at c d g
    try dsimp only
    refine WS fun _ Ci=>xM o7.inj (f:=iV) 0 U U U U (fun U5=>?_) (fun t v hm In=>?_)
    ·refine bD 1 U<|RK Ci<|ak fun _ WU=>bR U<|bP<|ai<|ai<|aJ<|aN<|KK LA<|au<|rP 2 [] mn ?_
     refine aF<|IH (C':=[(j1 eo ga (cS iV mb)),(bQ (je m6 fs fb b)),(j1 eo B (cS iV m)),(cu s 3 [(vI (b:Int))]),(bQ (A4.map mz)),(cu gw 150 (cb.cells (cb.mk ln ri (bH.mk e_A e.length e_C) (bH.mk t_A tms.length t_C) (bH.mk fA (ln.ab.n+1) (ln.ab.n+1)) (bH.mk bA (ln.ab.n+1) (ln.ab.n+1))))).ro,(cu W 108 [(vP gw)]),(rd e_A e.length 1 (e.map iC)).ro,(rd t_A tms.length 1 (List.zipWith gD tms tb)).ro,(dR (bj qf tms tb)).ro,(own bA (ln.ab.n+1) 156 1 (List.map oC (List.replicate (ln.ab.n+1) (none:Option Nat)))),(own fA (ln.ab.n+1) 156 1 (List.map oC (dB (fb++[B]) (ln.ab.n+1))))]) 0 U HX U<|Jn 1 0 N Z U U U ?_
     try dsimp only
     refine xN (X':=bj m6 (fs++[m]) (fb++[B])) 0 1 U U (za I U) ?_
     try dsimp only
     have R5:(vI (((b+1):Nat):Int))=(vI ((b:Int)+1)):=by exact cI I
     refine bg (VO ⟨((b+1),(fs++[m]),(fb++[B]),A4),⟨I,by simp; omega,by simp; omega,M.add A3 N d g U5⟩⟩ _ _ _ U os (cG 4<|bf U R5<|dh.nil _) (aQ [2,3,4,5,6,7,8,0,9]))
    try dsimp only
    refine bD 1 U<|RK Ci<|ak fun _ Li=>aS U<|WK Li<|aH<|WS fun _ Lk=>rS (SX (yf 0 U U U) U U)<|bD 2 U<|AL U uG fun J2=>AL U kj fun J3=>qO U sD U<|MR U CU U U<|RK Lk<|WS fun _ L2=>rP 2 [0,1] (mc 8 U (mc 5 U mn)) ?_
    refine cX (u_ gw b) (aO) U fun WO WX=>?_
    obtain ⟨Cx,C2⟩:=WO
    try dsimp only
    refine RK L2<|aH<|ji 11 U (by exact fun _ h=>h)<|ji 13 U (by exact fun _ h=>h)<|ji 15 U (by exact fun _ h=>h)<|ji 12 U (by exact fun _ h=>h) ?_
    refine uH (L0:=[(0,(vP gw)),(1,(vP W)),(2,(vI (ln.ab.n:Int))),(3,(vP s)),(4,(vP J2)),(5,(vP J3)),(52,(vI (ln.ab.n:Int))),(53,(vI (b:Int))),(71,(vP Bp))]) (F:=[(rd e_A e.length 1 (e.map iC)).ro,(rd t_A tms.length 1 (List.zipWith gD tms tb)).ro,(dR (bj qf tms tb)).ro,(cu gw 150 (cb.cells (cb.mk ln ri (bH.mk e_A e.length e_C) (bH.mk t_A tms.length t_C) (bH.mk fA (ln.ab.n+1) (ln.ab.n+1)) (bH.mk bA (ln.ab.n+1) (ln.ab.n+1))))).ro,(cu Cx 108 [(vP gw)]),(cu C2 3 [(vI (b:Int))])]) (fun k (y:FM)=>(nM (cT ln ri e tms) b mb left y (t,v) k)) (fun k y=>[(cu J3 3 [(vI v)]),(cu J2 158 (aI.cells t)),(zD eo Bp ga (cS iV mb) (cS iV (e9 left t)) (some (t,(vI v)))),(bQ (je m6 fs fb b)),(j1 eo B (cS iV y)),(cu s 3 [(vI (b:Int))]),(bQ (A4.map mz)),(cu gw 150 (cb.cells (cb.mk ln ri (bH.mk e_A e.length e_C) (bH.mk t_A tms.length t_C) (bH.mk fA (ln.ab.n+1) (ln.ab.n+1)) (bH.mk bA (ln.ab.n+1) (ln.ab.n+1))))).ro,(cu W 108 [(vP gw)]),(rd e_A e.length 1 (e.map iC)).ro,(rd t_A tms.length 1 (List.zipWith gD tms tb)).ro,(dR (bj qf tms tb)).ro,(own bA (ln.ab.n+1) 156 1 (List.map oC (List.replicate (ln.ab.n+1) (none:Option Nat)))),(own fA (ln.ab.n+1) 156 1 (List.map oC (dB (fb++[B]) (ln.ab.n+1))))]) (fun _ (_:Unit)=>False) (fun _ _=>[]) [6,7,8,9,10,11,12,13,14,15,16,17,18,19] [3,2,1,0,4,5] m rfl rfl (td ln ri e tms e_A e_C tb t_A t_C fA (ln.ab.n+1) (ln.ab.n+1) bA (ln.ab.n+1) (ln.ab.n+1) gw b Cx C2 I I) rfl rfl rfl (by exact nM.start d g) (by simp only [List.forall_mem_cons,List.not_mem_nil,false_imp_iff,implies_true,and_true]; exact ⟨⟨_,aR (i:=0) rfl,(dH (bX _))⟩,⟨_,aR (i:=1) rfl,(dH (bX _))⟩,⟨_,aR (i:=2) rfl,(dH (bX _))⟩,⟨_,aR (i:=3) rfl,(dH (bX _))⟩,⟨_,aR (i:=4) rfl,(bX _)⟩,⟨_,aR (i:=5) rfl,(bX _)⟩⟩) (by rintro k x k2 ⟨o,_,rfl,_⟩; rfl) rfl (bB rfl) ?_ ?_ (fun _ _ _ h=>h.elim) (fun _ _ h=>h.elim)
    rotate_left 1
    ·rintro WH k O A2 IB
     have D:=IB
     try dsimp only
     refine aN<|aN<|Kf (X:=A4.map mz) 13 0 U U ?_
     try dsimp only
     refine qX 9 U Cu U ?_
     refine bg (K0 ⟨((e9 left t),O,(WH::A4)),⟨mI c,D.on,D.next In hm A2⟩⟩ _ _ _ U (mG hm) (bB U) (aQ [9,10,11,12,0,4,14,1,2,3,18,19]))
    rintro k x k2 O l ra rb S w1 K39 Qr40 WE hx H1 L3 H WM WQ
    obtain ⟨o,ho,rfl,rfl⟩:=hx
    have D:=H1
    try dsimp only
    refine WS fun _ Mu=>rP 1 [] mn ?_
    refine RK Mu<|au<|AL U dV fun WZ=>fG U cZ U<|aF<|jl (fun _ _ h=>h) (aQ [1,0,2,3,4,5,6,7,8,9,10,11,12,13,14,15])<|bg (L3 _ _ ?_)
    refine aH<|ak fun _ M2=>dA ct [16,18] [] [] [0,1,2,3,4,5,6,7,8,9,10,11,12,13,14,15] [] U U U U U<|eS U (Es 2 U cj U)<|eS U (Es 10 U cj U)<|eS U (SX (cR U U) U U)<|eS U (FA 10 U fj U)<|eS U (Lj (vS e_A e.length e_C) 9 U cj U U)<|eS U (Es 7 U cj U) ?_
    obtain ⟨y,hy⟩:=aL e b I
    have Jf:=bM iC hy
    refine eS U (IA b U (aA 11 U) dv dc I I)<|eS U (g6 b 0 (vI y) U cj (aA 11 U) Jf U dc U) ?_
    have Vj:=hw.least y (aR hy)
    have hp:=M.mem N (c _ hm)
    have Vd:=JM hw _ _ hp
    have WC:=vw o.1
    have WD:=hw.opt ho
    have W1:=hw.now
    dsimp only at Vd
    refine eS U (BI U (nO ⟨I,I⟩))<|eS U (FA 0 U fj U)<|eS U (L1 (vI o.2.Lo) 1 U cj U U)<|eS U (MX U)<|eS U (LW 3 U cj U U)<|eS U (MV U)<|eS U (CL (I5 o.1) (aO) U)<|eS U (CL (wM t (fD o.1) I I) (aO) U)<|eS U (AG U)<|eh U<|cd U fun T45 Qe=>AL U uG fun Wh=>aF (Qe _ _ (aQ [1,2,3,4,5,6,7,8,9,10,11,12,13,14,15,16]) ?_)
    refine cd U fun T47 Qr=>fG U sD U<|aF (Qr _ _ (aQ [1,2,3,4,5,6,7,8,9,10,11,12,13,14,15,16]) ?_)
    refine fp U<|KK M2<|ak fun _ NE=>dp ct 15 kr<|lU 1 [] (mc 11 U mn) U<|dS (SX (cR U U) U U)<|dP 4 [0,1] (mr 10 U (mc 8 U mn)) ?_
    have R9:(List.map oC (dB (fb++[B]) (ln.ab.n+1)))[(b+1)]? =some (oC (some B)):=qk (mP (Ao I))
    refine dS (IA (b+1) U (aC (n:=(ln.ab.n+1)) 16 U sq) ow dc I I) ?_
    refine dS (g6 (b+1) 0 (Value.map (some B)) U cj (aC (n:=(dB (fb++[B]) (ln.ab.n+1)).length) 16 U sm) R9 U dc U)<|lU 1 [] (mc 0 U mn) U<|dS (SX (sW (kV:=eo) (x:=(dF t (fD o.1))) (l:=O) (f:=iV) (z:=0) U U U pw o7 Wc (by exact aA 7 U)) U U)<|kX 5 U<|cK<|RK NE<|ak fun _ AF=>dp ct 19 kr<|lU 4 [0,1] (mc 2 U (mc 11 U mn)) U<|dS (SX (cR U U) U U)<|lU 3 [] (mr 10 U mn) U<|dS (MN U)<|dP 2 [] mn ?_
    refine jy (t:=121) U (aT fun P=>?_) (aU fun P=>?_)
    ·refine dP 8 [] mn ?_
     refine cK<|RK AF<|bR U<|cf<|aN ?_
     exact H O _ _ (by exact D.skip (KV hy P)) (aQ [1,3,4,5,6,7,8,9,10,11,12,13,14,15,16])
    refine dP 3 [] mn ?_
    refine g_ (t:=124) U (fun R=>?_) (fun R=>?_)
    ·rw [Bool.not_eq_true'] at R
     refine kX 5 U<|cK<|RK AF<|aS U<|dp ct 10 kr<|lU 1 [] (mc 11 U mn) U<|dS (SX (cR U U) U U)<|dP 4 [0,1] (mr 10 U (mc 8 U mn)) ?_
     have ST:(List.map oC (dB (fb++[B]) (ln.ab.n+1)))[(b+1)]? =some (oC (some B)):=qk (mP (Ao I))
     refine dS (IA (b+1) U (aC (n:=(ln.ab.n+1)) 16 U sq) ow dc I I) ?_
     refine dS (g6 (b+1) 0 (Value.map (some B)) U cj (aC (n:=(dB (fb++[B]) (ln.ab.n+1)).length) 16 U sm) ST U dc U)<|dP 2 [] (mc 0 U mn) ?_
     refine cK<|iX (kV:=eo) (x:=(dF t (fD o.1))) (C':=[_,_,_,_,_,_,_,(j1 eo B (cS iV (ed O (dF t (fD o.1)) (max (v+y) o.2.Lo)))),_,_,_,_,_,_,_,_,_]) 7 U U U U pw o7 U (gp _ _ _ _).symm U<|aF<|aN ?_
     exact H (ed O (dF t (fD o.1)) (max (v+y) o.2.Lo)) _ _ (by exact D.set hp ho (zV hy P) (.inl (by simpa using R))) (aQ [1,3,4,5,6,7,8,9,10,11,12,13,14,15,16])
    rw [Bool.not_eq_false'] at R
    refine dP 5 [] mn ?_
    refine cK<|RK AF<|bW U (aT fun u=>?_) (aU fun u=>?_)
    ·refine cf<|aN ?_
     exact H O _ _ (by exact D.oW (zV hy P) (by simpa using R) u) (aQ [1,3,4,5,6,7,8,9,10,11,12,13,14,15,16])
    refine dp ct 10 kr<|lU 1 [] (mc 11 U mn) U<|dS (SX (cR U U) U U)<|dP 4 [0,1] (mr 10 U (mc 8 U mn)) ?_
    have S1:(List.map oC (dB (fb++[B]) (ln.ab.n+1)))[(b+1)]? =some (oC (some B)):=qk (mP (Ao I))
    refine dS (IA (b+1) U (aC (n:=(ln.ab.n+1)) 16 U sq) ow dc I I) ?_
    refine dS (g6 (b+1) 0 (Value.map (some B)) U cj (aC (n:=(dB (fb++[B]) (ln.ab.n+1)).length) 16 U sm) S1 U dc U)<|dP 2 [] (mc 0 U mn) ?_
    refine cK<|iX (kV:=eo) (x:=(dF t (fD o.1))) (C':=[_,_,_,_,_,_,_,(j1 eo B (cS iV (ed O (dF t (fD o.1)) (max (v+y) o.2.Lo)))),_,_,_,_,_,_,_,_,_]) 7 U U U U pw o7 U (gp _ _ _ _).symm U<|aF<|aN ?_
    exact H (ed O (dF t (fD o.1)) (max (v+y) o.2.Lo)) _ _ (by exact D.set hp ho (zV hy P) (.inr u)) (aQ [1,3,4,5,6,7,8,9,10,11,12,13,14,15,16])
   refine bP<|ai<|ai<|aJ<|KK FS<|WS fun _ AO=>rP 1 [] mn ?_
   refine AL U kj fun T6=>MR U CU U U<|RK AO<|aH ?_
   rw [F5]
   refine oc ?_
   have C:(0≤ln.ab.n+1)∧(([]:List FM).length=0)∧(([]:List Nat).length=0)∧(ik (cT ln ri e tms) (ln.ab.n+1-0) ([]:List FM)):=by exact ⟨Nat.zero_le _,rfl,rfl,ik.none_⟩
   refine wK (ι:={z:Nat×(List FM)×(List Nat)×Nat×(List Nat) // (z.1≤ln.ab.n+1)∧(z.2.1.length=z.1)∧(z.2.2.1.length=z.1)∧(ik (cT ln ri e tms) (ln.ab.n+1-z.1) z.2.1)}) (fun z=>z.1.2.2.2.2.map jR) (fun z=>[(0,(vP gw)),(1,(vP W)),(2,(vI (ln.ab.n:Int))),(12,(Value.pointer (some ⟨z.1.2.2.2.1,0,none⟩)))]) (fun z=>[(bQ (bj m6 z.1.2.1 z.1.2.2.1)),(cu z.1.2.2.2.1 3 [(vI ((ln.ab.n:Int)-(z.1.1:Int)))]),(bQ (z.1.2.2.2.2.map mz)),(cu gw 150 (cb.cells (cb.mk ln ri (bH.mk e_A e.length e_C) (bH.mk t_A tms.length t_C) (bH.mk fA (ln.ab.n+1) (ln.ab.n+1)) (bH.mk bA (ln.ab.n+1) (ln.ab.n+1))))).ro,(cu W 108 [(vP gw)]),(rd e_A e.length 1 (e.map iC)).ro,(rd t_A tms.length 1 (List.zipWith gD tms tb)).ro,(dR (bj qf tms tb)).ro,(own bA (ln.ab.n+1) 156 1 (List.map oC (ia z.1.2.2.1 (ln.ab.n+1)))),(bQ (bj m6 fs fb)),(own fA (ln.ab.n+1) 156 1 (List.map oC (dB fb (ln.ab.n+1))))]) (fun z=>ln.ab.n+1-z.1.1) ⟨(0,([]:List FM),([]:List Nat),T6,T4),C⟩ U (bB U) (aQ [0,1,2,3,4,5,6,7,8,9,10]) ?_
   clear C
   rintro ⟨⟨j,bs,bb,gq,q⟩,⟨A7,A8,A9,E⟩⟩ J57 B9
   try dsimp only at A7 A8 A9 E
   try dsimp only
   refine ak fun _ Ay=>WS fun _ A0=>rP 2 [] (mc 1 U mn) ?_
   refine RK A0<|bW U (aT fun J7=>?_) (aU fun J7=>?_)
   ·refine bP<|ai<|ai<|aJ ?_
    rw [show (List.map oC (dB fb (ln.ab.n+1)))=(List.zipWith gD fs fb) from by rw [zk I]; exact (z7 I).symm]
    rw [show (List.map oC (ia bb (ln.ab.n+1)))=(List.zipWith gD bs bb) from by rw [Gr I]; exact (z7 I).symm]
    refine zZ (C1:=[(own fA (ln.ab.n+1) 156 1 (List.zipWith gD fs fb)),(bQ (bj m6 fs fb)),(own bA (ln.ab.n+1) 156 1 (List.zipWith gD bs bb)),(bQ (bj m6 bs bb)),(bQ (q.map mz))]) hz [10,9,8,0,2] U U (by simp only [eG,List.all_nil,pq,MJ,Bool.and_true]; rfl) ?_
    rw [show (cu gw 150 (cb.cells (cb.mk ln ri (bH.mk e_A e.length e_C) (bH.mk t_A tms.length t_C) (bH.mk fA (ln.ab.n+1) (ln.ab.n+1)) (bH.mk bA (ln.ab.n+1) (ln.ab.n+1)))))=(cu gw 150 (cb.cells (cb.mk ln ri (bH.mk e_A e.length e_C) (bH.mk t_A tms.length t_C) (bH.mk fA fs.length (ln.ab.n+1)) (bH.mk bA bs.length (ln.ab.n+1))))) from by rw [show fs.length=(ln.ab.n+1) from by omega,show bs.length=(ln.ab.n+1) from by omega]]
    refine OZ [(cu gw 150 (cb.cells (cb.mk ln ri (bH.mk e_A e.length e_C) (bH.mk t_A tms.length t_C) (bH.mk fA fs.length (ln.ab.n+1)) (bH.mk bA bs.length (ln.ab.n+1))))),(own fA (ln.ab.n+1) 156 1 (List.zipWith gD fs fb)),(bQ (bj m6 fs fb)),(own bA (ln.ab.n+1) 156 1 (List.zipWith gD bs bb)),(bQ (bj m6 bs bb))] [(bQ (q.map mz))] ?_
    refine hN _ _ _ (IQ 1 U U<|jV (vs:=[]) trivial fun w hs=>Q6 (fs,fb,fA,(ln.ab.n+1),bs,bb,bA,(ln.ab.n+1)) 0 ?_ ?_ U (by show List.all _ _=true; simp only [eG,List.all_nil,pq,Bool.and_true]; rfl) hs)
    ·clear hs w hQ hN A0 Ay AO AD Fd FV FS EQ DS; rfl
    ·clear hs w hQ hN A0 Ay AO AD Fd FV FS EQ DS; exact ⟨M.ok (by show fs.length=e.length+1; omega),ik.ok (by have:=E; rwa [show ln.ab.n+1-j=0 by omega] at this) (by show bs.length=e.length+1; omega),dso,dso⟩
   refine WK Ay<|ak fun _ Ck=>aH<|ak fun _ Ne=>?_
   obtain ⟨b,Wy⟩: ∃ b:Nat,b+j=ln.ab.n:=⟨ln.ab.n-j,I⟩
   rw [show (ln.ab.n:Int)-(j:Int)=(b:Int) from by omega]
   have WW:(ia bb (ln.ab.n+1)).length=(ln.ab.n+1):=zg I
   refine dA ct [5,12,13,15] [11] [0,1,2] [0,1,2,3,4,5,6,7,9,10] [0,1,2,3,4,5,6,7,8,9,10] U U U U U<|eS U (Es 4 U cj U)<|eS U (SX (cR U U) U U)<|eS U (FA 13 U fj U)<|eS U (Lj (vS bA (ln.ab.n+1) (ln.ab.n+1)) 3 U cj U U)<|eS U (Es 1 U cj U)<|eS U (SX (bp (xs:=[]) (cs:=(aI.cells (aI.mk 0 0))) U U (bo BN U)) U U)<|eS U (Es 4 U cj U)<|eS U (SX (cR U U) U U)<|eS U (FA 7 U fj U)<|eS U (FA 8 U fj U)<|eS U (Lj (vI ri.fR) 3 U cj U U) ?_
   obtain ⟨WL,To⟩:=aL (ia bb (ln.ab.n+1)) b I
   have hx63m:(List.map oC (ia bb (ln.ab.n+1)))[b]? =some (oC WL):=by rw [fM,To]; rfl
   refine fS U (IA b U (aC (n:=(ln.ab.n+1)) 8 U sq) ow dc I I) ?_
   refine eh U<|jB U fun T64 RP=>lF (kV:=eo) U U fun A=>?_
   try dsimp only
   refine aF (RP _ _ (aQ [1,2,3,4,5,6,7,8,10,11]) (aQ [1,2,3,4,5,6,7,8,9,10,11]) ?_)
   refine jB U fun T66 Ru=>?_
   have R6:(ed ([]:List (aI×Int)) (aI.mk 0 0) ri.fR)=[((aI.mk 0 0),ri.fR)]:=by rfl
   refine vd (kV:=eo) (x:=(aI.mk 0 0)) (C':=[(j1 eo A (cS iV ([((aI.mk 0 0),ri.fR)]))),_,_,_,_,_,_,_,_,_,_,_]) 0 U U U U pw o7 U ((gp _ _ _ _).symm.trans (congrArg _ R6)) U<|aF (Ru _ _ (aQ [1,2,3,4,5,6,7,8,10,11]) (aQ [1,2,3,4,5,6,7,8,9,10,11]) ?_)
   refine jB U fun T68 R0=>rS (MV U)<|aF (R0 _ _ (aQ [1,2,3,4,5,6,7,8,10,11]) (aQ [1,2,3,4,5,6,7,8,9,10,11]) ?_)
   refine cd U fun T69 R1=>?_
   have R7:((ia bb (ln.ab.n+1)).set b (some A))=(ia (A::bb) (ln.ab.n+1)):=by exact He I
   refine fW (k:=b) (o:=0) (vs:=[(Value.map (some A))]) (es':=(List.map oC (ia (A::bb) (ln.ab.n+1)))) (C':=[_,_,_,_,_,_,_,_,_,(own bA (ln.ab.n+1) 156 1 (List.map oC (ia (A::bb) (ln.ab.n+1)))),_,_]) 9 U U U Jk U U U U hx63m U dc (by exact (List.map_set (f:=oC) (l:=(ia bb (ln.ab.n+1))) (i:=b) (a:=(some A))).symm.trans (congrArg _ R7)) U<|aF (R1 _ _ (aQ [1,2,3,4,5,6,7,8,10,11]) ?_)
   refine fp U<|KK Ne<|ak fun _ Np=>WS fun _ OB=>rP 3 [] (mc 2 U mn) ?_
   refine RK OB<|cx U (aU fun J9=>?_) (aT fun J9=>?_)
   ·refine bP<|ai<|aJ<|KK Ck<|ak fun _ Op=>WS fun _ Or=>eQ 1 [] (mc 2 U mn) U<|RK Or<|au<|AL U kj fun UU=>MR U CU U U<|RK Op<|au<|rP 2 [] (mc 0 U mn) ?_
    refine MR U CU U U<|aF ?_
    rw [show (b:Int)-1=(ln.ab.n:Int)-(((j+1):Nat):Int) from by omega]
    refine zy (ms:=bs) (m:=[((aI.mk 0 0),ri.fR)]) (a:=A) 2 1 U U U ?_
    try dsimp only
    refine bg (B9 ⟨((j+1),([((aI.mk 0 0),ri.fR)]::bs),(A::bb),UU,q),⟨I,by simp; omega,by simp; omega,by exact ik.end_ (b:=b) E I I (by show e.length≤b; omega)⟩⟩ _ _ _ U os (bB U) (aQ [0,1,3,4,5,6,7,8,9,10,11]))
   refine WK Np<|ak fun _ Os=>?_
   have WB:(ia (A::bb) (ln.ab.n+1)).length=(ln.ab.n+1):=zg (by simp; omega)
   obtain ⟨mb,N⟩:=aL bs 0 I
   obtain ⟨ga,Z⟩:=aL bb 0 I
   refine zf 1 N Z U U U ?_
   try dsimp only
   refine dp ct 8 kr<|lU 1 [] (mc 6 U mn) U<|dS (SX (cR U U) U U)<|dP 4 [0,1] (mr 5 U (mc 3 U mn)) ?_
   have S2:(List.map oC (ia (A::bb) (ln.ab.n+1)))[(b+1)]? =some (oC (some ga)):=qk (uw (i:=1) (by simpa using Z) (by simp; omega))
   refine dS (IA (b+1) U (aC (n:=(ln.ab.n+1)) 10 U sq) ow dc I I) ?_
   refine dS (g6 (b+1) 0 (Value.map (some ga)) U cj (aC (n:=(ia (A::bb) (ln.ab.n+1)).length) 10 U sm) S2 U dc U)<|cK<|yS 0 U U pw U U fun B3=>?_
   try dsimp only
   refine RK Os<|aH ?_
   have C:(∀ p∈mb,p∈mb)∧(we (cT ln ri e tms) b ([((aI.mk 0 0),ri.fR)]))∧(jQ (cT ln ri e tms) b mb ([((aI.mk 0 0),ri.fR)]) mb):=by exact ⟨fun p hp=>hp,we.start (by show b<e.length; omega),jQ.start⟩
   refine wK (ι:={z:FM×FM×(List Nat) // (∀ p∈z.1,p∈mb)∧(we (cT ln ri e tms) b z.2.1)∧(jQ (cT ln ri e tms) b mb z.2.1 z.1)}) (fun z=>z.1.2.2.map jR) (fun z=>[(0,(vP gw)),(1,(vP W)),(2,(vI (ln.ab.n:Int))),(12,(vP gq)),(171,(vP B3))]) (fun z=>[(zD eo B3 ga (cS iV mb) (cS iV z.1.1) none),(bQ (je m6 bs bb 0)),(j1 eo A (cS iV z.1.2.1)),(cu gq 3 [(vI (b:Int))]),(bQ (z.1.2.2.map mz)),(cu gw 150 (cb.cells (cb.mk ln ri (bH.mk e_A e.length e_C) (bH.mk t_A tms.length t_C) (bH.mk fA (ln.ab.n+1) (ln.ab.n+1)) (bH.mk bA (ln.ab.n+1) (ln.ab.n+1))))).ro,(cu W 108 [(vP gw)]),(rd e_A e.length 1 (e.map iC)).ro,(rd t_A tms.length 1 (List.zipWith gD tms tb)).ro,(dR (bj qf tms tb)).ro,(own bA (ln.ab.n+1) 156 1 (List.map oC (ia (A::bb) (ln.ab.n+1)))),(bQ (bj m6 fs fb)),(own fA (ln.ab.n+1) 156 1 (List.map oC (dB fb (ln.ab.n+1))))]) (fun z=>z.1.1.length) ⟨(mb,[((aI.mk 0 0),ri.fR)],q),C⟩ U (bB U) (aQ [0,1,2,3,4,5,6,7,8,9,10,11,12]) ?_
   clear C
   rintro ⟨⟨left,m,V⟩,⟨J,K,L⟩⟩ J80 K8
   try dsimp only at J K L
   try dsimp only
   refine WS fun _ Cp=>xM o7.inj (f:=iV) 0 U U U U (fun Km=>?_) (fun t v hm In=>?_)
   ·refine bD 1 U<|RK Cp<|ak fun _ WV=>bR U<|bP<|ai<|ai<|aJ<|aN<|KK Ck<|ak fun _ O1=>WS fun _ O6=>eQ 1 [] (mc 3 U mn) U<|RK O6<|au<|AL U kj fun J4=>MR U CU U U<|RK O1<|au<|rP 2 [] (mc 0 U mn) ?_
    refine MR U CU U U<|aF<|IH (C':=[(cu J4 3 [(vI ((b:Int)-1))]),(j1 eo ga (cS iV mb)),(bQ (je m6 bs bb 0)),(j1 eo A (cS iV m)),(cu gq 3 [(vI (b:Int))]),(bQ (V.map mz)),(cu gw 150 (cb.cells (cb.mk ln ri (bH.mk e_A e.length e_C) (bH.mk t_A tms.length t_C) (bH.mk fA (ln.ab.n+1) (ln.ab.n+1)) (bH.mk bA (ln.ab.n+1) (ln.ab.n+1))))).ro,(cu W 108 [(vP gw)]),(rd e_A e.length 1 (e.map iC)).ro,(rd t_A tms.length 1 (List.zipWith gD tms tb)).ro,(dR (bj qf tms tb)).ro,(own bA (ln.ab.n+1) 156 1 (List.map oC (ia (A::bb) (ln.ab.n+1)))),(bQ (bj m6 fs fb)),(own fA (ln.ab.n+1) 156 1 (List.map oC (dB fb (ln.ab.n+1))))]) 1 U HX U<|Jn 2 1 N Z U U U ?_
    try dsimp only
    rw [show (b:Int)-1=(ln.ab.n:Int)-(((j+1):Nat):Int) from by omega]
    refine zy (ms:=bs) (m:=m) (a:=A) 0 2 U U U ?_
    try dsimp only
    refine bg (B9 ⟨((j+1),(m::bs),(A::bb),J4,V),⟨I,by simp; omega,by simp; omega,by exact ik.more (b:=b) E I I (by show b<e.length; omega) N K L Km⟩⟩ _ _ _ U os (bB U) (aQ [0,1,3,4,5,6,7,8,9,10,11]))
   try dsimp only
   refine bD 1 U<|RK Cp<|ak fun _ O8=>aS U<|WK O8<|aH<|WS fun _ PB=>rS (SX (yf 0 U U U) U U)<|bD 2 U<|AL U uG fun J5=>AL U kj fun J6=>qO U sD U<|MR U CU U U<|RK PB<|WS fun _ PP=>rP 2 [0,1] (mc 8 U (mc 5 U mn)) ?_
   refine cX (u_ gw b) (aO) U fun WP WY=>?_
   obtain ⟨C0,C3⟩:=WP
   try dsimp only
   refine RK PP<|aH<|ji 11 U (by exact fun _ h=>h)<|ji 13 U (by exact fun _ h=>h)<|ji 15 U (by exact fun _ h=>h)<|ji 12 U (by exact fun _ h=>h) ?_
   refine uH (L0:=[(0,(vP gw)),(1,(vP W)),(2,(vI (ln.ab.n:Int))),(12,(vP gq)),(13,(vP J5)),(14,(vP J6)),(171,(vP B3))]) (F:=[(rd e_A e.length 1 (e.map iC)).ro,(rd t_A tms.length 1 (List.zipWith gD tms tb)).ro,(dR (bj qf tms tb)).ro,(cu gw 150 (cb.cells (cb.mk ln ri (bH.mk e_A e.length e_C) (bH.mk t_A tms.length t_C) (bH.mk fA (ln.ab.n+1) (ln.ab.n+1)) (bH.mk bA (ln.ab.n+1) (ln.ab.n+1))))).ro,(cu C0 108 [(vP gw)]),(cu C3 3 [(vI (b:Int))])]) (fun k (y:FM)=>(nH (cT ln ri e tms) b mb left y (t,v) k)) (fun k y=>[(cu J6 3 [(vI v)]),(cu J5 158 (aI.cells t)),(zD eo B3 ga (cS iV mb) (cS iV (e9 left t)) (some (t,(vI v)))),(bQ (je m6 bs bb 0)),(j1 eo A (cS iV y)),(cu gq 3 [(vI (b:Int))]),(bQ (V.map mz)),(cu gw 150 (cb.cells (cb.mk ln ri (bH.mk e_A e.length e_C) (bH.mk t_A tms.length t_C) (bH.mk fA (ln.ab.n+1) (ln.ab.n+1)) (bH.mk bA (ln.ab.n+1) (ln.ab.n+1))))).ro,(cu W 108 [(vP gw)]),(rd e_A e.length 1 (e.map iC)).ro,(rd t_A tms.length 1 (List.zipWith gD tms tb)).ro,(dR (bj qf tms tb)).ro,(own bA (ln.ab.n+1) 156 1 (List.map oC (ia (A::bb) (ln.ab.n+1)))),(bQ (bj m6 fs fb)),(own fA (ln.ab.n+1) 156 1 (List.map oC (dB fb (ln.ab.n+1))))]) (fun _ (_:Unit)=>False) (fun _ _=>[]) [6,7,8,9,10,11,12,13,14,15,16,17,18,19,20] [3,2,1,0,4,5] m rfl rfl (td ln ri e tms e_A e_C tb t_A t_C fA (ln.ab.n+1) (ln.ab.n+1) bA (ln.ab.n+1) (ln.ab.n+1) gw b C0 C3 I I) rfl rfl rfl (by exact nH.start K L) (by simp only [List.forall_mem_cons,List.not_mem_nil,false_imp_iff,implies_true,and_true]; exact ⟨⟨_,aR (i:=0) rfl,(dH (bX _))⟩,⟨_,aR (i:=1) rfl,(dH (bX _))⟩,⟨_,aR (i:=2) rfl,(dH (bX _))⟩,⟨_,aR (i:=3) rfl,(dH (bX _))⟩,⟨_,aR (i:=4) rfl,(bX _)⟩,⟨_,aR (i:=5) rfl,(bX _)⟩⟩) (by rintro k x k2 ⟨o,_,rfl,_⟩; rfl) rfl (bB rfl) ?_ ?_ (fun _ _ _ h=>h.elim) (fun _ _ h=>h.elim)
   rotate_left 1
   ·rintro T0 k O A2 A6
    have D:=A6
    try dsimp only
    refine aN<|aN<|Kf (X:=V.map mz) 13 0 U U ?_
    try dsimp only
    refine qX 9 U Cu U ?_
    refine bg (K8 ⟨((e9 left t),O,(T0::V)),⟨mI J,D.on,D.next In hm A2⟩⟩ _ _ _ U (mG hm) (bB U) (aQ [9,10,11,12,0,4,14,1,2,3,18,19,20]))
   rintro k x k2 O l ra rb S w1 K95 Qr96 WE hx IC PT AB WN WR
   obtain ⟨o,ho,rfl,rfl⟩:=hx
   have D:=IC
   try dsimp only
   refine WS fun _ Pi=>rP 1 [] mn ?_
   refine RK Pi<|au<|AL U dV fun Wx=>fG U cZ U<|aF<|jl (fun _ _ h=>h) (aQ [1,0,2,3,4,5,6,7,8,9,10,11,12,13,14,15,16])<|bg (PT _ _ ?_)
   refine aH<|ak fun _ Di=>dA ct [16,18] [] [] [0,1,2,3,4,5,6,7,8,9,10,11,12,13,14,15,16] [] U U U U U<|eS U (Es 2 U cj U)<|eS U (FA 1 U fj U)<|eS U (L1 (vI o.2.Hi) 1 U cj U U) ?_
   have hp:=E.T1 (b:=b) I N (J _ hm)
   have VS:=IK hw hp
   have WC:=vw o.1
   have WD:=hw.opt ho
   dsimp only at VS
   refine eS U (MN U)<|eS U (Es 10 U cj U)<|eS U (SX (cR U U) U U)<|eS U (FA 10 U fj U)<|eS U (Lj (vS e_A e.length e_C) 9 U cj U U)<|eS U (Es 7 U cj U) ?_
   obtain ⟨y,hy⟩:=aL e b I
   have Jf:=bM iC hy
   refine eS U (IA b U (aA 11 U) dv dc I I)<|eS U (g6 b 0 (vI y) U cj (aA 11 U) Jf U dc U) ?_
   have Vj:=hw.least y (aR hy)
   refine eS U (BI U (vK ⟨I,I⟩))<|eS U (LW 3 U cj U U)<|eS U (MV U)<|eS U (CL (I5 o.1) (aO) U)<|eS U (CL (wM t (fD o.1) I I) (aO) U)<|eS U (AG U)<|eh U<|cd U fun T101 Fn=>AL U uG fun WT=>aF (Fn _ _ (aQ [1,2,3,4,5,6,7,8,9,10,11,12,13,14,15,16,17]) ?_)
   refine cd U fun T103 GE=>fG U sD U<|aF (GE _ _ (aQ [1,2,3,4,5,6,7,8,9,10,11,12,13,14,15,16,17]) ?_)
   refine fp U<|KK Di<|ak fun _ Do=>dp ct 14 kr<|lU 1 [] (mc 11 U mn) U<|dS (SX (cR U U) U U)<|dP 3 [0,1] (mr 10 U (mc 8 U mn)) ?_
   have IL:(List.map oC (ia (A::bb) (ln.ab.n+1)))[b]? =some (oC (some A)):=qk (uw (i:=0) rfl (by simp; omega))
   refine dS (IA b U (aC (n:=(ln.ab.n+1)) 15 U sq) ow dc I I) ?_
   refine dS (g6 b 0 (Value.map (some A)) U cj (aC (n:=(ia (A::bb) (ln.ab.n+1)).length) 15 U sm) IL U dc U)<|lU 1 [] (mc 0 U mn) U<|dS (SX (sW (kV:=eo) (x:=(dF t (fD o.1))) (l:=O) (f:=iV) (z:=0) U U U pw o7 Wc (by exact aA 7 U)) U U)<|kX 5 U<|cK<|RK Do<|WS fun _ Y=>eQ 3 [0,1] (mc 3 U (mc 2 U mn)) U<|rS (MN U)<|rP 4 [] (mc 2 U mn) ?_
   refine cp (t:=217) U (aT fun T=>?_) (aU fun T=>?_)
   ·refine rP 8 [] mn ?_
    refine RK Y<|bR U<|cf<|aN ?_
    exact AB O _ _ (by exact D.skip (Me T)) (aQ [1,3,4,5,6,7,8,9,10,11,12,13,14,15,16,17])
   refine rP 3 [] mn ?_
   refine b_ (t:=220) U (fun AA=>?_) (fun AA=>?_)
   ·rw [Bool.not_eq_true'] at AA
    refine bD 5 U<|RK Y<|aS U<|dp ct 9 kr<|lU 1 [] (mc 11 U mn) U<|dS (SX (cR U U) U U)<|dP 3 [0,1] (mr 10 U (mc 8 U mn)) ?_
    have IO:(List.map oC (ia (A::bb) (ln.ab.n+1)))[b]? =some (oC (some A)):=qk (uw (i:=0) rfl (by simp; omega))
    refine dS (IA b U (aC (n:=(ln.ab.n+1)) 15 U sq) ow dc I I) ?_
    refine dS (g6 b 0 (Value.map (some A)) U cj (aC (n:=(ia (A::bb) (ln.ab.n+1)).length) 15 U sm) IO U dc U)<|dP 2 [] (mc 0 U mn) ?_
    refine cK<|iX (kV:=eo) (x:=(dF t (fD o.1))) (C':=[_,_,_,_,_,_,_,(j1 eo A (cS iV (ed O (dF t (fD o.1)) ((min v o.2.Hi)-y)))),_,_,_,_,_,_,_,_,_,_]) 7 U U U U pw o7 U (gp _ _ _ _).symm U<|aF<|aN ?_
    exact AB (ed O (dF t (fD o.1)) ((min v o.2.Hi)-y)) _ _ (by exact D.set (by show b<e.length; omega) hp ho (zR hy T) (.inl (by simpa using AA))) (aQ [1,3,4,5,6,7,8,9,10,11,12,13,14,15,16,17])
   rw [Bool.not_eq_false'] at AA
   refine rP 5 [] mn ?_
   refine RK Y<|bW U (aT fun AC=>?_) (aU fun AC=>?_)
   ·refine cf<|aN ?_
    exact AB O _ _ (by exact D.oW (zR hy T) (by simpa using AA) AC) (aQ [1,3,4,5,6,7,8,9,10,11,12,13,14,15,16,17])
   refine dp ct 9 kr<|lU 1 [] (mc 11 U mn) U<|dS (SX (cR U U) U U)<|dP 3 [0,1] (mr 10 U (mc 8 U mn)) ?_
   have IR:(List.map oC (ia (A::bb) (ln.ab.n+1)))[b]? =some (oC (some A)):=qk (uw (i:=0) rfl (by simp; omega))
   refine dS (IA b U (aC (n:=(ln.ab.n+1)) 15 U sq) ow dc I I) ?_
   refine dS (g6 b 0 (Value.map (some A)) U cj (aC (n:=(ia (A::bb) (ln.ab.n+1)).length) 15 U sm) IR U dc U)<|dP 2 [] (mc 0 U mn) ?_
   refine cK<|iX (kV:=eo) (x:=(dF t (fD o.1))) (C':=[_,_,_,_,_,_,_,(j1 eo A (cS iV (ed O (dF t (fD o.1)) ((min v o.2.Hi)-y)))),_,_,_,_,_,_,_,_,_,_]) 7 U U U U pw o7 U (gp _ _ _ _).symm U<|aF<|aN ?_
   exact AB (ed O (dF t (fD o.1)) ((min v o.2.Hi)-y)) _ _ (by exact D.set (by show b<e.length; omega) hp ho (zR hy T) (.inr AC)) (aQ [1,3,4,5,6,7,8,9,10,11,12,13,14,15,16,17])
  refine dA ct [4,11,12,14] [10] [0,1,2] [0,1,2,3,4,6] [0,1,2,3,4,5,6] U U U U U<|eS U (Es 1 U cj U)<|eS U (SX (cR U U) U U)<|eS U (FA 12 U fj U)<|eS U (Lj (vS fA (ln.ab.n+1) (ln.ab.n+1)) 0 U cj U U)<|eS U (SX (bp (xs:=[]) (cs:=(aI.cells (aI.mk 0 0))) U U (bo BN U)) U U)<|eS U (Es 1 U cj U)<|eS U (SX (cR U U) U U)<|eS U (FA 7 U fj U)<|eS U (FA 7 U fj U)<|eS U (Lj (vI ri.Start) 0 U cj U U) ?_
  obtain ⟨x6,WF⟩:=aL (List.replicate (ln.ab.n+1) (none:Option Nat)) 0 I
  have hx7m:(List.map oC (List.replicate (ln.ab.n+1) (none:Option Nat)))[0]? =some (oC x6):=by rw [fM,WF]; rfl
  refine fS U (IA 0 U (aC (n:=(ln.ab.n+1)) 5 U sq) ow dc U I) ?_
  refine eh U<|jB U fun T8 Go=>lF (kV:=eo) U U fun r=>?_
  try dsimp only
  refine aF (Go _ _ (aQ [1,2,3,4,5,7]) (aQ [1,2,3,4,5,6,7]) ?_)
  refine jB U fun T10 G=>?_
  have R2:(ed ([]:List (aI×Int)) (aI.mk 0 0) ri.Start)=[((aI.mk 0 0),ri.Start)]:=by rfl
  refine vd (kV:=eo) (x:=(aI.mk 0 0)) (C':=[(j1 eo r (cS iV ([((aI.mk 0 0),ri.Start)]))),_,_,_,_,_,_,_]) 0 U U U U pw o7 U ((gp _ _ _ _).symm.trans (congrArg _ R2)) U<|aF (G _ _ (aQ [1,2,3,4,5,7]) (aQ [1,2,3,4,5,6,7]) ?_)
  refine jB U fun T12 Pl=>rS (MV U)<|aF (Pl _ _ (aQ [1,2,3,4,5,7]) (aQ [1,2,3,4,5,6,7]) ?_)
  refine cd U fun T13 Pw=>?_
  have R3:((List.replicate (ln.ab.n+1) (none:Option Nat)).set 0 (some r))=(dB [r] (ln.ab.n+1)):=by rw [uV]; exact rO rfl sm
  refine fW (k:=0) (o:=0) (vs:=[(Value.map (some r))]) (es':=(List.map oC (dB [r] (ln.ab.n+1)))) (C':=[_,_,_,_,_,_,(own fA (ln.ab.n+1) 156 1 (List.map oC (dB [r] (ln.ab.n+1)))),_]) 6 U U U Jk U U U U hx7m U dc (by exact (List.map_set (f:=oC) (l:=(List.replicate (ln.ab.n+1) (none:Option Nat))) (i:=0) (a:=(some r))).symm.trans (congrArg _ R3)) U<|aF (Pw _ _ (aQ [1,2,3,4,5,7]) ?_)
  refine fp U<|Ep<|xN (X:=[]) (X':=bj m6 [[((aI.mk 0 0),ri.Start)]] [r]) 0 1 U U U ?_
  try dsimp only
  refine bg (jl (bB U) (aQ [1,2,3,4,5,7,0,6]) (VR ⟨r,trivial⟩))
 refine mA ct [0,1,2,3,5,6,8,9,11,12] [4,7,10,13] [false,false,false,false,false,false,false,false,false,false] [] [(cu W 108 [(vP gw)]),(rd e_A e.length 1 (e.map iC)).ro,(rd t_A tms.length 1 (List.zipWith gD tms tb)).ro,(dR (bj qf tms tb)).ro] [] kr (aQ [0,2,3,4]) (aQ [])<|eS U (Es 0 U cj U)<|eS U (Es 0 U cj U)<|eS U (MV U)<|eS U (BI U (nO ⟨I,I⟩))<|eS U (MV U)<|eS U (BI U (nO ⟨I,I⟩))<|eS U (SX (cR U U) U U)<|eS U (FA 12 U fj U)<|eS U (SX (cR U U) U U)<|eS U (FA 13 U fj U)<|eh U<|mU [4,7] kr (iI ?_<|iI ?_<|qt)
 rotate_left 1
 ·refine NO U U [4,10,13] fun T5 GT=>?_
  refine vZ (n:=(ln.ab.n+1)) (es:=(List.map oC (List.replicate (ln.ab.n+1) (none:Option Nat)))) U U U Cl I I (by simp only [maxLen]; omega) (by rw [List.map_replicate]; rfl) U fun b6=>?_
  try dsimp only
  refine aF (GT _ _ (aQ [1,3,4,5]) ?_)
  refine N1 4<|NO U U [10,13] fun T7 A1=>?_
  refine vZ (n:=(ln.ab.n+1)) (es:=(List.map oC (List.replicate (ln.ab.n+1) (none:Option Nat)))) U U U Cl I I (by simp only [maxLen]; omega) (by rw [List.map_replicate]; rfl) U fun b8=>?_
  try dsimp only
  refine aF (A1 _ _ (aQ [2,4,5,6]) ?_)
  refine N1 10<|NO U U [13] fun T9 Hh=>PU (cb.cells (cb.mk ln ri (bH.mk e_A e.length e_C) (bH.mk t_A tms.length t_C) (bH.mk (some ⟨b8,0,none⟩) (ln.ab.n+1) (ln.ab.n+1)) (bH.mk none 0 0))) U y7 U U<|aF (Hh _ _ (aQ [2,4,5,6]) ?_)
  refine N1 13<|NO U U [] fun T10 G=>PU (cb.cells (cb.mk ln ri (bH.mk e_A e.length e_C) (bH.mk t_A tms.length t_C) (bH.mk (some ⟨b8,0,none⟩) (ln.ab.n+1) (ln.ab.n+1)) (bH.mk (some ⟨b6,0,none⟩) (ln.ab.n+1) (ln.ab.n+1)))) U y7 U U<|aF (G _ _ (aQ [2,4,5,6]) ?_)
  refine lX ?_
  refine bg (jl (bB U) (aQ [2,4,5,6,0,1,3]) (Eq ⟨((some ⟨b8,0,none⟩),(some ⟨b6,0,none⟩)),trivial⟩))
 refine NO U U [7,10,13] fun T5 GT=>?_
 refine vZ (n:=(ln.ab.n+1)) (es:=(List.map oC (List.replicate (ln.ab.n+1) (none:Option Nat)))) U U U Cl I I (by simp only [maxLen]; omega) (by rw [List.map_replicate]; rfl) U fun b6=>?_
 try dsimp only
 refine aF (GT _ _ (aQ [1,3,4,5]) ?_)
 refine mU [7,10] kr (iI ?_<|iI ?_<|qt)
 rotate_left 1
 ·refine NO U U [7,13] fun T7 A1=>Vo (cb.cells (cb.mk ln ri (bH.mk e_A e.length e_C) (bH.mk t_A tms.length t_C) (bH.mk (some ⟨b6,0,none⟩) (ln.ab.n+1) (ln.ab.n+1)) (bH.mk none 0 0))) U y7 U U<|aF (A1 _ _ (aQ [1,3,4,5]) ?_)
  refine N1 7<|NO U U [13] fun T8 Go=>?_
  refine vZ (n:=(ln.ab.n+1)) (es:=(List.map oC (List.replicate (ln.ab.n+1) (none:Option Nat)))) U U U Cl I I (by simp only [maxLen]; omega) (by rw [List.map_replicate]; rfl) U fun r=>?_
  try dsimp only
  refine aF (Go _ _ (aQ [2,4,5,6]) ?_)
  refine N1 13<|NO U U [] fun T10 G=>PU (cb.cells (cb.mk ln ri (bH.mk e_A e.length e_C) (bH.mk t_A tms.length t_C) (bH.mk (some ⟨b6,0,none⟩) (ln.ab.n+1) (ln.ab.n+1)) (bH.mk (some ⟨r,0,none⟩) (ln.ab.n+1) (ln.ab.n+1)))) U y7 U U<|aF (G _ _ (aQ [2,4,5,6]) ?_)
  refine lX ?_
  refine bg (jl (bB U) (aQ [2,4,5,6,1,0,3]) (Eq ⟨((some ⟨b6,0,none⟩),(some ⟨r,0,none⟩)),trivial⟩))
 refine NO U U [10,13] fun T7 A1=>?_
 refine vZ (n:=(ln.ab.n+1)) (es:=(List.map oC (List.replicate (ln.ab.n+1) (none:Option Nat)))) U U U Cl I I (by simp only [maxLen]; omega) (by rw [List.map_replicate]; rfl) U fun b8=>?_
 try dsimp only
 refine aF (A1 _ _ (aQ [2,4,5,6]) ?_)
 refine N1 10<|NO U U [13] fun T9 Hh=>PU (cb.cells (cb.mk ln ri (bH.mk e_A e.length e_C) (bH.mk t_A tms.length t_C) (bH.mk (some ⟨b6,0,none⟩) (ln.ab.n+1) (ln.ab.n+1)) (bH.mk none 0 0))) U y7 U U<|aF (Hh _ _ (aQ [2,4,5,6]) ?_)
 refine N1 13<|NO U U [] fun T10 G=>PU (cb.cells (cb.mk ln ri (bH.mk e_A e.length e_C) (bH.mk t_A tms.length t_C) (bH.mk (some ⟨b6,0,none⟩) (ln.ab.n+1) (ln.ab.n+1)) (bH.mk (some ⟨b8,0,none⟩) (ln.ab.n+1) (ln.ab.n+1)))) U y7 U U<|aF (G _ _ (aQ [2,4,5,6]) ?_)
 refine lX ?_
 refine bg (jl (bB U) (aQ [2,4,5,6,1,0,3]) (Eq ⟨((some ⟨b6,0,none⟩),(some ⟨b8,0,none⟩)),trivial⟩))
end
section
open Go.RowKit
theorem D7 (l:bk) (kA:OA) (kC:Nat) (az:List RA) (cA:OA) (cC:Nat) (bA:OA) (bC g1:Nat) (bm:Int) (g2:Nat) (hin:eg l az):
 dG Tryz.prog 43 [(vP g1),(vP g2)] [(rd kA l.aV.length 9 (l.aV.map ao.cells)),(rd cA l.aj.length 2 (List.zipWith aw.cells l.aj az)),(dR (bj aw.f_ l.aj az)),(rd bA l.ab.length 4 (l.ab.map bJ.cells)),(cu g1 28 (cv.cells (jN l kA kC cA cC bA bC))),(cu g2 3 [(vI bm)])] (vI (iP l bm)):=by
 have K:=hin.sJ
 have J:=hin.sL
 have H:=hin.og
 have AA:=hin.sH
 refine bG kr Tryz.func43 U U fun L Q hQ hN=>?_
 try dsimp only
 refine WS fun _ B=>bD 1 U<|RK B<|ak fun _ C=>WS fun _ D=>rP 5 [0,1] (mr 4 U (mr 5 U mn)) ?_
 refine ej (xs:=[.tmp 7]) (cs:=[(vI bm)]) U dv kj U U U U (by simp [Value.cells]) U U fun G=>?_
 refine rS (CL (dG.eq (hU 0 ((l.ab.length:Int)-1) ([bm]) (some ⟨G,0,none⟩) 1 (by (simp; done))) cD) (aK (bw 0 U U (by simp [bL]) U)<|aO) U) ?_
 refine rP 1 [] mn ?_
 refine RK D<|cx U (bq fun A=>?_) (br fun A=>?_)
 ·refine WS fun _ E=>rP 1 [] mn ?_
  refine RK E<|aq<|Q1 hQ U U U ?_
  exact cI (if_neg I).symm
 refine WK C<|WS fun _ F=>rP 1 [] mn ?_
 refine RK F<|aq<|Q1 hQ U U U ?_
 exact cI (if_pos I).symm
theorem NR (l:bk) (kA:OA) (kC:Nat) (az:List RA) (cA:OA) (cC:Nat) (bA:OA) (bC:Nat) (r:cw) (sgA:OA) (sgC:Nat) (hin:eg l az) (hsl:r.aa.length≤1000000):
 pG Tryz.prog 42 [(vA (cv.cells (jN l kA kC cA cC bA bC))),(vA (cz.cells (jk r sgA sgC))),(vS none 0 0)] [(rd kA l.aV.length 9 (l.aV.map ao.cells)),(rd cA l.aj.length 2 (List.zipWith aw.cells l.aj az)),(dR (bj aw.f_ l.aj az)),(rd bA l.ab.length 4 (l.ab.map bJ.cells)),(rd sgA r.aa.length 2 (r.aa.map aG.cells))] (fun (x:Bool×Int×Nat×(OA)×Nat×(OA)×Nat×(List Nat)×(List FM)×(List Nat)×(OA)×Nat×(List FM)×(List Nat)×(OA)×Nat)=>bif x.1 then (vT [(Value.pointer (some ⟨x.2.2.1,0,none⟩)),(vI 0)]) else (vT [(Value.pointer none),(vI x.2.1)])) (fun (x:Bool×Int×Nat×(OA)×Nat×(OA)×Nat×(List Nat)×(List FM)×(List Nat)×(OA)×Nat×(List FM)×(List Nat)×(OA)×Nat)=>(x.1=true→(dK l r 0=0∧vV (bU l r) x.2.2.2.2.2.2.2.2.1∧s_ (bU l r) x.2.2.2.2.2.2.2.2.2.2.2.2.1∧x.2.2.2.2.2.2.2.2.2.1.length=x.2.2.2.2.2.2.2.2.1.length∧x.2.2.2.2.2.2.2.2.2.2.2.2.2.1.length=x.2.2.2.2.2.2.2.2.2.2.2.2.1.length∧x.2.2.2.2.2.2.2.1.length=(cM l r.aa r.aa.length).length))∧(x.1=false→(x.2.1=dK l r 0∧ ¬ dK l r 0=0))) (fun (x:Bool×Int×Nat×(OA)×Nat×(OA)×Nat×(List Nat)×(List FM)×(List Nat)×(OA)×Nat×(List FM)×(List Nat)×(OA)×Nat)=>bif x.1 then [(cu x.2.2.1 150 (cb.cells (cb.mk (jN l kA kC cA cC bA bC) (jk r sgA sgC) (bH.mk x.2.2.2.1 ((cm l l.ab.length).length) x.2.2.2.2.1) (bH.mk x.2.2.2.2.2.1 ((cM l r.aa r.aa.length).length) x.2.2.2.2.2.2.1) (bH.mk x.2.2.2.2.2.2.2.2.2.2.1 x.2.2.2.2.2.2.2.2.1.length x.2.2.2.2.2.2.2.2.2.2.2.1) (bH.mk x.2.2.2.2.2.2.2.2.2.2.2.2.2.2.1 x.2.2.2.2.2.2.2.2.2.2.2.2.1.length x.2.2.2.2.2.2.2.2.2.2.2.2.2.2.2)))),(own x.2.2.2.1 x.2.2.2.2.1 3 1 ((cm l l.ab.length).map iC)),(own x.2.2.2.2.2.1 x.2.2.2.2.2.2.1 153 1 (List.zipWith gD (cM l r.aa r.aa.length) x.2.2.2.2.2.2.2.1)),(bQ (bj qf (cM l r.aa r.aa.length) x.2.2.2.2.2.2.2.1)),(own x.2.2.2.2.2.2.2.2.2.2.1 x.2.2.2.2.2.2.2.2.2.2.2.1 156 1 (List.zipWith gD x.2.2.2.2.2.2.2.2.1 x.2.2.2.2.2.2.2.2.2.1)),(bQ (bj m6 x.2.2.2.2.2.2.2.2.1 x.2.2.2.2.2.2.2.2.2.1)),(own x.2.2.2.2.2.2.2.2.2.2.2.2.2.2.1 x.2.2.2.2.2.2.2.2.2.2.2.2.2.2.2 156 1 (List.zipWith gD x.2.2.2.2.2.2.2.2.2.2.2.2.1 x.2.2.2.2.2.2.2.2.2.2.2.2.2.1)),(bQ (bj m6 x.2.2.2.2.2.2.2.2.2.2.2.2.1 x.2.2.2.2.2.2.2.2.2.2.2.2.2.1))] else []):=by
 have R7:=hin.sJ
 have R5:=hin.sL
 have R3:=hin.og
 have R4:=hin.sH
 have R6:=hin.side
 refine e_ kr Tryz.func42 U U fun w0 Q hQ hN=>?_
 try dsimp only
 refine WS fun _ NE=>eI U fun b2=>eI U fun b3=>bD 2 U<|RK NE<|ak fun _ Ne=>WS fun _ Np=>eQ 1 [] (mc 1 U mn) U<|rS (CL (wT l kA kC az cA cC bA bC hin) (bu [2,3,4,5]) U)<|bD 1 U<|RK Np<|WS fun _ OB=>rP 2 [] mn ?_
 refine RK OB<|cx U (bq fun B=>?_) (br fun B=>?_)
 ·refine WS fun _ Op=>rP 3 [] mn ?_
  refine RK Op<|aq ?_
  refine LX hQ (false,(dD l),0,none,0,none,0,[],[],[],none,0,[],[],none,0) [] [] mn U (by first|rfl|(show List.all _ _=true; simp only [cond_true,eG,List.all_nil,pq,qZ,Bool.and_true]; rfl)) U U ?_
  refine ⟨yI,fun _=>?_⟩; first|exact EG (gv (r:=r) (me:=0) B) B|exact nW (df (me:=0) A (fun q:dU l r=>by have p:=q.time; have s:=q.len; omega))|exact nW (df (me:=0) A (kv hx (by unfold hE iw; omega)))|exact nW (g4 (me:=0) A H (by first|rfl|exact h156) (show gW (bU l r)=[] from hZ (Int.natCast_eq_zero.1 C)))
 refine WK Ne<|ak fun _ Or=>WS fun _ w=>?_
 have A:dD l=0:=B
 obtain ⟨K5,e⟩:=dM A
 have O1:=e.head
 unfold eW at O1
 refine rP 2 [] (mc 0 U mn) ?_
 refine ej (xs:=[.tmp 24]) (cs:=[(vI r.Start)]) U dv kj U U U U (by simp [Value.cells]) U U fun LT=>?_
 refine rS (CL (dG.eq (hU 0 86400000 ([r.Start]) (some ⟨LT,0,none⟩) 1 sd) cD) (aK (bw 0 U U (by simp [bL]) U)<|aO) U) ?_
 refine rP 2 [] mn ?_
 refine b_ (t:=28) U (bq fun Lo=>?_) (br fun Lo=>?_)
 ·refine bD 14 U<|RK w<|aS U<|WS fun _ A4=>rP 2 [] mn ?_
  refine RK A4<|aq ?_
  refine LX hQ (false,51,0,none,0,none,0,[],[],[],none,0,[],[],none,0) [] [] mn U (by first|rfl|(show List.all _ _=true; simp only [cond_true,eG,List.all_nil,pq,qZ,Bool.and_true]; rfl)) U U ?_
  refine ⟨yI,fun _=>?_⟩; first|exact EG (gv (r:=r) (me:=0) B) B|exact nW (df (me:=0) A (fun q:dU l r=>by have p:=q.time; have s:=q.len; omega))|exact nW (df (me:=0) A (kv hx (by unfold hE iw; omega)))|exact nW (g4 (me:=0) A H (by first|rfl|exact h156) (show gW (bU l r)=[] from hZ (Int.natCast_eq_zero.1 C)))
 refine rP 4 [] (mc 1 U mn) ?_
 refine ej (xs:=[.tmp 32]) (cs:=[(vI r.fR)]) U dv kj U U U U (by simp [Value.cells]) U U fun La=>?_
 refine rS (CL (dG.eq (hU r.Start 86400000 ([r.fR]) (some ⟨La,0,none⟩) 1 sd) cD) (aK (bw 0 U U (by simp [bL]) U)<|aO) U) ?_
 refine rP 3 [] mn ?_
 refine b_ (t:=37) U (bq fun L2=>?_) (br fun L2=>?_)
 ·refine bD 5 U<|RK w<|aS U<|WS fun _ A5=>rP 2 [] mn ?_
  refine RK A5<|aq ?_
  refine LX hQ (false,51,0,none,0,none,0,[],[],[],none,0,[],[],none,0) [] [] mn U (by first|rfl|(show List.all _ _=true; simp only [cond_true,eG,List.all_nil,pq,qZ,Bool.and_true]; rfl)) U U ?_
  refine ⟨yI,fun _=>?_⟩; first|exact EG (gv (r:=r) (me:=0) B) B|exact nW (df (me:=0) A (fun q:dU l r=>by have p:=q.time; have s:=q.len; omega))|exact nW (df (me:=0) A (kv hx (by unfold hE iw; omega)))|exact nW (g4 (me:=0) A H (by first|rfl|exact h156) (show gW (bU l r)=[] from hZ (Int.natCast_eq_zero.1 C)))
 refine rP 5 [] (mc 2 U mn) ?_
 refine RK w<|cx U (aU fun L3=>?_) (aT fun L3=>?_)
 ·refine WS fun _ A6=>rP 2 [] mn ?_
  refine RK A6<|aq ?_
  refine LX hQ (false,51,0,none,0,none,0,[],[],[],none,0,[],[],none,0) [] [] mn U (by first|rfl|(show List.all _ _=true; simp only [cond_true,eG,List.all_nil,pq,qZ,Bool.and_true]; rfl)) U U ?_
  refine ⟨yI,fun _=>?_⟩; first|exact EG (gv (r:=r) (me:=0) B) B|exact nW (df (me:=0) A (fun q:dU l r=>by have p:=q.time; have s:=q.len; omega))|exact nW (df (me:=0) A (kv hx (by unfold hE iw; omega)))|exact nW (g4 (me:=0) A H (by first|rfl|exact h156) (show gW (bU l r)=[] from hZ (Int.natCast_eq_zero.1 C)))
 refine WK Or<|WS fun _ A7=>rS (SX (bp (xs:=[(0,.const (vI (-1)))]) (cs:=(aG.cells (aG.mk (-1) 0))) U U (bo Ji U)) U U)<|AL U Hw fun Y=>fG U uN U<|RK A7<|ak fun _ A8=>dA ct [5,6,7,8] [] [] [0,1,2,3,4,5,6,7,8,9] [] U U U U U<|eS U (LW 4 U cj U U)<|eS U (LW 3 U cj U U)<|eS U (FA 3 U fj U)<|eS U (L1 (vS bA l.ab.length bC) 4 U cj U U)<|eS U (LN U PJ)<|eh U<|cd U fun T18 H1=>?_
 refine vZ (n:=l.ab.length) (es:=(List.map oC (List.replicate l.ab.length (none:Option Nat)))) U U U N5 I I (by simp only [maxLen]; omega) (by rw [List.map_replicate]; rfl) U fun E=>?_
 try dsimp only
 refine aF (H1 _ _ (aQ [1,2,3,4,5,6,7,8,9,10]) ?_)
 refine cd U fun T20 IB=>rS (SX (bp (xs:=[(0,.tmp 44),(1,.tmp 45),(3,.tmp 49)]) (cs:=(cb.cells (cb.mk (jN l kA kC cA cC bA bC) (jk r sgA sgC) (bH.mk none 0 0) (bH.mk (some ⟨E,0,none⟩) l.ab.length l.ab.length) (bH.mk none 0 0) (bH.mk none 0 0)))) U U (bo Ox U)) U U)<|aF (IB _ _ (aQ [1,2,3,4,5,6,7,8,9,10]) ?_)
 refine cd U fun T21 IC=>eI U fun M=>aF (IC _ _ (aQ [2,3,4,5,6,7,8,9,10,11]) ?_)
 refine cd U fun T23 IL=>rS (AG U)<|aF (IL _ _ (aQ [2,3,4,5,6,7,8,9,10,11]) ?_)
 refine fp U<|KK A8<|ak fun _ A9=>WS fun _ Bp=>rP 4 [] (mc 6 U mn) ?_
 refine RK Bp<|aH ?_
 rw [uV]
 refine eM 3 1<|oc ?_
 have G:(0≤l.ab.length)∧(([]:List Nat).length=0):=by exact ⟨Nat.zero_le _,rfl⟩
 refine bY (ι:={z:Nat×(OA)×Nat×(List Nat) // (z.1≤l.ab.length)∧(z.2.2.2.length=z.1)}) [2,3,4,6,7,9,10,54] [4,7,8,9,10,11,12,13] U U (fun z=>[(55,(vI (z.1.1:Int)))]) (fun z=>[(bQ (bj qf (List.replicate z.1.1 ([]:TM)) z.1.2.2.2)),(own z.1.2.1 z.1.2.2.1 3 1 ((cm l z.1.1).map iC)),(cu M 150 (cb.cells (cb.mk (jN l kA kC cA cC bA bC) (jk r sgA sgC) (bH.mk z.1.2.1 ((cm l z.1.1).length) z.1.2.2.1) (bH.mk (some ⟨E,0,none⟩) l.ab.length l.ab.length) (bH.mk none 0 0) (bH.mk none 0 0)))),(own (some ⟨E,0,none⟩) l.ab.length 153 1 (List.map oC (dB z.1.2.2.2 l.ab.length)))]) (fun _=>rfl) (fun _=>rfl) (fun z=>l.ab.length-z.1.1) ⟨(0,none,0,([]:List Nat)),G⟩ (bB U) (aQ [4,7,8,9,10,11,12,13,0,1,2,3]) ?_
 clear G
 rintro ⟨⟨b,a,c,fb⟩,⟨y,Z⟩⟩ J26 A3
 try dsimp only at y Z
 try dsimp only
 have O6:(dB fb l.ab.length).length=l.ab.length:=nE I
 refine WS fun _ B3=>rP 1 [] mn ?_
 refine RK B3<|ak fun _ B9=>cx U (aU fun L0=>?_) (aT fun L0=>?_)
 ·refine WK B9<|ak fun _ Ci=>aH<|WS fun _ Ck=>rP 2 [] mn ?_
  refine RK Ck<|ak fun _ Cp=>dA ct [12,13,16] [4] [0] [0,1,2,3,4,5,6,7,8,11] [0,1,2,3,4,5,6,7,8,9,10,11] U U U U U<|eS U (MV U)<|eS U (MV U)<|eS U (SX (cR U U) U U)<|eS U (FA 10 U fj U)<|fS U (L1 (vS a ((cm l b).length) c) 10 U cj U U)<|eS U (LW 2 U cj U U)<|eS U (MV U) ?_
  refine eS U (CL (Ld l kA kC az cA cC bA bC (b:Int) hin sd (by exact e.ua) sd) (bu [3,4,5,6]) U) ?_
  have R8:=BD K5 e.ua b
  have R9:=e.Qe b I
  simp only [Int.toNat_natCast]
  refine eS U (BI U (uB ⟨I,I⟩))<|eS U (FA 1 U fj U)<|eS U (L1 (vI l.iR) 2 U cj U U) ?_
  refine eS U (CL (Jd (1000*(lz l (b:Int).toNat)) l.iR sd sd) (aO) U) ?_
  refine eS U (SX (cR U U) U U)<|eS U (FA 10 U fj U)<|eh U<|jB U fun T33 IO=>ej (xs:=[.tmp 69]) (cs:=[(vI (oZ (1000*(lz l (b:Int).toNat)) l.iR))]) U dv kj U U U U (by simp [Value.cells]) U U fun RP=>aF (IO _ _ (aQ [1,2,3,4,5,6,7,8,9,12]) (aQ [1,2,3,4,5,6,7,8,9,10,11,12]) ?_)
  refine cd U fun T35 IR=>?_
  refine dJ (es2:=(List.map iC (cm l (b+1)))) (m':=(cm l (b+1)).length) 10 U U U sx U U (by simp [cU]) (bw (es:=List.map iC [(oZ (1000*(lz l (b:Int).toNat)) l.iR)]) 0 U U (by simp [bL]) U) (lg _) (by have:=cU (l:=l) (n:=b); first|omega|(simp; omega)) (by simp only [maxLen,cU]; omega) (by rw [qH]; simp [dY]) (by simp [cU]) U fun AF AO=>?_
  try dsimp only
  refine aF (IR _ _ (aQ [1,2,3,4,5,6,7,8,9,12]) ?_)
  refine cd U fun T38 Id=>QX (cb.cells (cb.mk (jN l kA kC cA cC bA bC) (jk r sgA sgC) (bH.mk AF ((cm l (b+1)).length) AO) (bH.mk (some ⟨E,0,none⟩) l.ab.length l.ab.length) (bH.mk none 0 0) (bH.mk none 0 0))) U Gi U U<|aF (Id _ _ (aQ [1,2,3,4,5,6,7,8,9,12]) ?_)
  refine fp U<|KK Cp<|au<|bD 1 U<|rS (SX (cR U U) U U)<|rP 3 [] (mc 11 U mn) ?_
  refine lF (kV:=iV) U U fun K=>?_
  try dsimp only
  obtain ⟨PP,LA⟩:=aL (dB fb l.ab.length) b I
  have hx41m:(List.map oC (dB fb l.ab.length))[b]? =some (oC PP):=by rw [fM,LA]; rfl
  refine rS (IA b U (aC (n:=l.ab.length) 13 U sq) xI dc I I) ?_
  have If:((dB fb l.ab.length).set b (some K))=(dB (fb++[K]) l.ab.length):=by exact rO I I
  refine fW (k:=b) (o:=0) (vs:=[(Value.map (some K))]) (es':=(List.map oC (dB (fb++[K]) l.ab.length))) (C':=[_,_,_,_,_,_,_,_,_,_,_,_,_,(own (some ⟨E,0,none⟩) l.ab.length 153 1 (List.map oC (dB (fb++[K]) l.ab.length)))]) 13 U U U E6 U U U U hx41m U dc (by exact (List.map_set (f:=oC) (l:=(dB fb l.ab.length)) (i:=b) (a:=(some K))).symm.trans (congrArg _ If)) U<|aF<|aN<|KK Ci<|au<|rP 2 [] mn ?_
  refine aF<|xN (X':=bj qf (List.replicate (b+1) ([]:TM)) (fb++[K])) 10 0 U U (EW Z) ?_
  try dsimp only
  have In:(vI (((b+1):Nat):Int))=(vI ((b:Int)+1)):=by exact cI I
  refine bg (A3 ⟨((b+1),AF,AO,(fb++[K])),⟨I,by simp; omega⟩⟩ _ _ _ U os (cG 8<|bf U In<|dh.nil _) (aQ [2,3,4,5,6,7,8,9,0,10,11,12]))
 refine bP<|ai<|ai<|aJ<|KK A9<|ak fun _ Cx=>WS fun _ C0=>rP 4 [] (mc 1 U mn) ?_
 refine RK C0<|aH ?_
 rw [show (List.replicate b ([]:TM))=cM l r.aa 0 from by rw [xx,show b=l.ab.length by omega]]
 rw [show cm l b=cm l l.ab.length from by rw [show b=l.ab.length by omega]]
 have G:(0≤r.aa.length)∧(oU l r.aa 0):=by exact ⟨Nat.zero_le _,vi⟩
 refine bY (ι:={z:Nat // (z≤r.aa.length)∧(oU l r.aa z)}) [2,3,4,6,7,9,10,83,84] [1,2,3,4,5,6,7,9,10,11] U U (fun z=>[(85,(vI (z.1:Int)))]) (fun z=>[(cu Y 78 (aG.cells (kJ r.aa z.1))),(bQ (bj qf (cM l r.aa z.1) fb))]) (fun _=>rfl) (fun _=>rfl) (fun z=>r.aa.length-z.1) ⟨0,G⟩ (bB U) (aQ [1,2,3,4,5,6,7,9,10,11,0,8]) ?_
 clear G
 rintro ⟨i,⟨LE,D⟩⟩ J46 V
 try dsimp only
 have O8:(cM l r.aa i).length=l.ab.length:=gN
 have O6:(dB fb l.ab.length).length=l.ab.length:=nE I
 refine WS fun _ C1=>rP 1 [] mn ?_
 refine RK C1<|ak fun _ C2=>bW U (aT fun Mu=>?_) (aU fun Mu=>?_)
 ·refine bP<|ai<|ai<|aJ<|KK Cx<|ak fun _ Fn=>ak fun _ GE=>?_
  have H:dU l r:=x7 I I D I
  refine au<|rP 3 [] mn ?_
  refine RK GE<|aH<|rD 1<|kW fun R81 Pw=>WS fun _ GT=>rS (SX (gl (r:= .bool false) U U U pg) U U)<|RK GT<|ak fun _ Pl=>bR U<|bP<|ai<|ai<|aJ<|KK Fn<|ak fun _ Go=>?_
  rw [show cM l r.aa i=cM l r.aa r.aa.length from by rw [show i=r.aa.length by omega]]
  have AD:(cM l r.aa r.aa.length).length=l.ab.length:=gN
  rw [show (List.map oC (dB fb l.ab.length))=(List.zipWith gD (cM l r.aa r.aa.length) fb) from S0 I AD]
  rw [show (cu M 150 (cb.cells (cb.mk (jN l kA kC cA cC bA bC) (jk r sgA sgC) (bH.mk a ((cm l l.ab.length).length) c) (bH.mk (some ⟨E,0,none⟩) l.ab.length l.ab.length) (bH.mk none 0 0) (bH.mk none 0 0))))=(cu M 150 (cb.cells (cb.mk (jN l kA kC cA cC bA bC) (jk r sgA sgC) (bH.mk a ((cm l l.ab.length).length) c) (bH.mk (some ⟨E,0,none⟩) ((cM l r.aa r.aa.length).length) l.ab.length) (bH.mk none 0 0) (bH.mk none 0 0)))) from by rw [AD]]
  have K8:=lD K5 e H
  have P6:(cm l l.ab.length).length=l.ab.length:=cU
  refine au<|rP 1 [] mn ?_
  refine oK 8 U U U U (Bx (jN l kA kC cA cC bA bC) (jk r sgA sgC) (cm l l.ab.length) (cM l r.aa r.aa.length) a c fb (some ⟨E,0,none⟩) l.ab.length M (by exact K8) (by exact cU.symm) (by rw [AD]; omega)) U (ei 7 U U (jq sm) (ei 9 U U (jq (by rw [List.length_zipWith]; omega)) (ei 11 U U qI qP))) U (fun PT Os=>?_)
  obtain ⟨J,AA,S,T,AB,R,O,P⟩:=PT
  refine EO (X:=[(cu M 150 (cb.cells (cb.mk (jN l kA kC cA cC bA bC) (jk r sgA sgC) (bH.mk a ((cm l l.ab.length).length) c) (bH.mk (some ⟨E,0,none⟩) ((cM l r.aa r.aa.length).length) l.ab.length) (bH.mk S J.length T) (bH.mk O AB.length P)))),(own S T 156 1 (List.zipWith gD J AA)),(bQ (bj m6 J AA)),(own O P 156 1 (List.zipWith gD AB R)),(bQ (bj m6 AB R))]) 8 U U ?_
  try dsimp only
  obtain ⟨AC,Km,K0,K4⟩:=Os
  dsimp only at AC Km K0 K4
  refine RK Go<|ak fun _ Hh=>WS fun _ Hi=>rP 1 [] mn ?_
  refine cX (uZ (jN l kA kC cA cC bA bC) (jk r sgA sgC) (cm l l.ab.length) (cM l r.aa r.aa.length) a c fb (some ⟨E,0,none⟩) l.ab.length J AB AA S T R O P M (by exact K8) sd (by exact cU.symm) (by exact AC) sd) (aK (aC (n:=(cm l l.ab.length).length) 12 U sm)<|aK (aC (n:=(cM l r.aa r.aa.length).length) 13 U (by rw [List.length_zipWith]; omega))<|aK (fT 15 U lB)<|aK (aC (n:=J.length) 1 U (by rw [List.length_zipWith]; omega))<|aK (fT 2 U lB)<|aK (aC (n:=AB.length) 3 U (by rw [List.length_zipWith]; omega))<|aK (fT 4 U lB)<|gY 0 U U<|aO) U fun Pi P8=>?_
  obtain ⟨Qr,R2⟩:=Pi
  try dsimp only
  refine rP 2 [] mn ?_
  refine RK Hi<|bW U (aT fun C=>?_) (aU fun C=>?_)
  ·refine WK Hh<|WS fun _ v=>rP 3 [] mn ?_
   refine RK v<|aq ?_
   refine LX hQ (true,0,M,a,c,(some ⟨E,0,none⟩),l.ab.length,fb,J,AA,S,T,AB,R,O,P) [1,13,14,16,2,3,4,5] [] mn U (by first|rfl|(show List.all _ _=true; simp only [cond_true,eG,List.all_nil,pq,qZ,Bool.and_true]; rfl)) U U ?_
   exact ⟨fun _=>⟨lk A H (by first|rfl|exact h156) (fun q=>C (congrArg (fun z:List Int=>(z.length:Int)) q)),AC,Km,K0,K4,dso⟩,QR⟩
  refine WS fun _ u=>rP 2 [] mn ?_
  refine RK u<|aq ?_
  refine LX hQ (false,8,0,none,0,none,0,[],[],[],none,0,[],[],none,0) [] [] mn U (by first|rfl|(show List.all _ _=true; simp only [cond_true,eG,List.all_nil,pq,qZ,Bool.and_true]; rfl)) U U ?_
  refine ⟨yI,fun _=>?_⟩; first|exact EG (gv (r:=r) (me:=0) B) B|exact nW (df (me:=0) A (fun q:dU l r=>by have p:=q.time; have s:=q.len; omega))|exact nW (df (me:=0) A (kv hx (by unfold hE iw; omega)))|exact nW (g4 (me:=0) A H (by first|rfl|exact h156) (show gW (bU l r)=[] from hZ (Int.natCast_eq_zero.1 C)))
 refine WK C2<|ak fun _ W=>aH<|WS fun _ C3=>rP 1 [] mn ?_
 obtain ⟨x,hx⟩:=aL r.aa i I
 have PB:=bM aG.cells hx
 refine rS (IA i U (aA 6 U) yB dc I I)<|rS (lx i 0 (aG.cells x) U cj (aA 6 U) PB U dc U U)<|AL U Hw fun Ru=>bD 1 U<|fG U uN U<|RK C3<|ak fun _ g=>WS fun _ L=>rP 6 [0,1] (mc 2 U (mc 0 U mn)) ?_
 refine ej (xs:=[.tmp 95]) (cs:=[(vI x.fE)]) U dv kj U U U U (by simp [Value.cells]) U U fun Li=>?_
 refine rS (CL (dG.eq (hU 0 ((l.ab.length:Int)-1) ([x.fE]) (some ⟨Li,0,none⟩) 1 sd) cD) (aK (bw 0 U U (by simp [bL]) U)<|aO) U) ?_
 refine rP 2 [] mn ?_
 refine b_ (t:=99) U (bq fun M2=>?_) (br fun M2=>?_)
 ·refine bD 27 U<|RK L<|aS U<|WS fun _ DS=>rP 2 [] mn ?_
  refine RK DS<|aq ?_
  refine LX hQ (false,51,0,none,0,none,0,[],[],[],none,0,[],[],none,0) [] [] mn U (by first|rfl|(show List.all _ _=true; simp only [cond_true,eG,List.all_nil,pq,qZ,Bool.and_true]; rfl)) U U ?_
  refine ⟨yI,fun _=>?_⟩; first|exact EG (gv (r:=r) (me:=0) B) B|exact nW (df (me:=0) A (fun q:dU l r=>by have p:=q.time; have s:=q.len; omega))|exact nW (df (me:=0) A (kv hx (by unfold hE iw; omega)))|exact nW (g4 (me:=0) A H (by first|rfl|exact h156) (show gW (bU l r)=[] from hZ (Int.natCast_eq_zero.1 C)))
 refine rP 2 [] (mc 1 U mn) ?_
 refine ej (xs:=[.tmp 101]) (cs:=[(vI x.Read)]) U dv kj U U U U (by simp [Value.cells]) U U fun Lk=>?_
 refine rS (CL (dG.eq (hU 0 86400000 ([x.Read]) (some ⟨Lk,0,none⟩) 1 sd) cD) (aK (bw 0 U U (by simp [bL]) U)<|aO) U) ?_
 refine rP 3 [] mn ?_
 refine b_ (t:=106) U (bq fun Ay=>?_) (br fun Ay=>?_)
 ·refine bD 20 U<|RK L<|aS U<|WS fun _ Di=>rP 2 [] mn ?_
  refine RK Di<|aq ?_
  refine LX hQ (false,51,0,none,0,none,0,[],[],[],none,0,[],[],none,0) [] [] mn U (by first|rfl|(show List.all _ _=true; simp only [cond_true,eG,List.all_nil,pq,qZ,Bool.and_true]; rfl)) U U ?_
  refine ⟨yI,fun _=>?_⟩; first|exact EG (gv (r:=r) (me:=0) B) B|exact nW (df (me:=0) A (fun q:dU l r=>by have p:=q.time; have s:=q.len; omega))|exact nW (df (me:=0) A (kv hx (by unfold hE iw; omega)))|exact nW (g4 (me:=0) A H (by first|rfl|exact h156) (show gW (bU l r)=[] from hZ (Int.natCast_eq_zero.1 C)))
 refine rP 7 [0,1] (mc 2 U (mc 13 U mn)) ?_
 refine b_ (t:=113) U (aU fun A0=>?_) (aT fun A0=>?_)
 ·refine bD 13 U<|RK L<|aS U<|WS fun _ Do=>rP 2 [] mn ?_
  refine RK Do<|aq ?_
  refine LX hQ (false,51,0,none,0,none,0,[],[],[],none,0,[],[],none,0) [] [] mn U (by first|rfl|(show List.all _ _=true; simp only [cond_true,eG,List.all_nil,pq,qZ,Bool.and_true]; rfl)) U U ?_
  refine ⟨yI,fun _=>?_⟩; first|exact EG (gv (r:=r) (me:=0) B) B|exact nW (df (me:=0) A (fun q:dU l r=>by have p:=q.time; have s:=q.len; omega))|exact nW (df (me:=0) A (kv hx (by unfold hE iw; omega)))|exact nW (g4 (me:=0) A H (by first|rfl|exact h156) (show gW (bU l r)=[] from hZ (Int.natCast_eq_zero.1 C)))
 refine rP 6 [0,1] (mc 2 U (mc 13 U mn)) ?_
 refine cp (t:=119) U (aT fun A1=>?_) (aU fun A1=>?_)
 ·refine bD 7 U<|RK L<|bR U<|WK g<|ak fun _ j=>WS fun _ FV=>rP 2 [0,1] (mc 4 U (mc 2 U mn)) ?_
  refine rS (CL (zW l kA kC az cA cC bA bC x hin sd sd) (bu [5,6,7,8]) U) ?_
  refine AL U dV fun R1=>fG U cZ U<|RK FV<|WS fun _ Fd=>rP 5 [] (mc 0 U mn) ?_
  refine RK Fd<|bW U (aT fun F=>?_) (aU fun F=>?_)
  ·refine WK j<|au<|rP 1 [] (mc 3 U mn) ?_
   refine ir (vs:=(aG.cells x)) (cs':=(aG.cells x)) (C':=[_,_,_,_,_,_,_,_,_,_,_,_,_,_,(cu Y 78 (aG.cells x)),_]) 14 U U U uN U U U U U U U<|aF<|aN<|KK W ?_
   have J6:(aG.cells x)=(aG.cells (kJ r.aa (i+1))):=by rw [j7 hx]
   rw [J6]
   refine au<|rP 2 [] mn ?_
   refine aF ?_
   rw [show (cM l r.aa i)=(cM l r.aa (i+1)) from (pZ hx F).symm]
   have J7:(vI (((i+1):Nat):Int))=(vI ((i:Int)+1)):=by exact cI I
   refine bg (V ⟨(i+1),⟨I,js D hx (by unfold hE iw; omega)⟩⟩ _ _ _ U os (cG 9<|bf U J7<|dh.nil _) (aQ [4,5,6,7,8,9,10,11,12,13,14,15]))
  obtain ⟨mb,d⟩:=aL (cM l r.aa i) ((x.fE).toNat) I
  obtain ⟨ga,N⟩:=aL fb ((x.fE).toNat) I
  refine zf 15 d N U U U ?_
  try dsimp only
  refine dp ct 10 kr<|kX 1 U<|dS (SX (cR U U) U U)<|dP 4 [0,1] (mc 14 U (mc 5 U mn)) ?_
  have J9:(List.map oC (dB fb l.ab.length))[(x.fE).toNat]? =some (oC (some ga)):=qk (mP N)
  refine dS (IA ((x.fE).toNat) U (aC (n:=l.ab.length) 15 U sq) xI dc I I) ?_
  refine dS (g6 ((x.fE).toNat) 0 (Value.map (some ga)) U cj (aC (n:=(dB fb l.ab.length).length) 15 U sm) J9 U dc U)<|lU 2 [] (mc 2 U mn) U<|cK<|iX (kV:=iV) (x:=(i:Int)) (C':=[(j1 iV ga (cS jW (ed mb (i:Int) (cP l x)))),_,_,_,_,_,_,_,_,_,_,_,_,_,_,_,_]) 0 U U U U sO (ig si) U (gp _ _ _ _).symm U<|RK j<|au<|rP 1 [] (mc 5 U mn) ?_
  refine ir (vs:=(aG.cells x)) (cs':=(aG.cells x)) (C':=[_,_,_,_,_,_,_,_,_,_,_,_,_,_,_,_,(cu Y 78 (aG.cells x))]) 16 U U U uN U U U U U U U<|aF<|aN<|KK W ?_
  have J4:(aG.cells x)=(aG.cells (kJ r.aa (i+1))):=by rw [j7 hx]
  rw [J4]
  refine au<|rP 2 [] mn ?_
  refine aF ?_
  refine zN (f:=qf) (ms:=(cM l r.aa i)) (m:=(ed mb (i:Int) (cP l x))) 1 0 (by rw [gN]; omega) N U U U ?_
  rw [sf hx I F d]
  have J5:(vI (((i+1):Nat):Int))=(vI ((i:Int)+1)):=by exact cI I
  refine bg (V ⟨(i+1),⟨I,js D hx (by unfold hE iw; omega)⟩⟩ _ _ _ U os (cG 9<|bf U J5<|dh.nil _) (aQ [5,6,7,8,9,10,11,12,13,14,15,0]))
 refine rP 7 [0,1] (mc 2 U (mc 13 U mn)) ?_
 refine RK L<|cx U (aU fun A2=>?_) (aT fun A2=>?_)
 ·refine WS fun _ EQ=>rP 2 [] mn ?_
  refine RK EQ<|aq ?_
  refine LX hQ (false,51,0,none,0,none,0,[],[],[],none,0,[],[],none,0) [] [] mn U (by first|rfl|(show List.all _ _=true; simp only [cond_true,eG,List.all_nil,pq,qZ,Bool.and_true]; rfl)) U U ?_
  refine ⟨yI,fun _=>?_⟩; first|exact EG (gv (r:=r) (me:=0) B) B|exact nW (df (me:=0) A (fun q:dU l r=>by have p:=q.time; have s:=q.len; omega))|exact nW (df (me:=0) A (kv hx (by unfold hE iw; omega)))|exact nW (g4 (me:=0) A H (by first|rfl|exact h156) (show gW (bU l r)=[] from hZ (Int.natCast_eq_zero.1 C)))
 refine WK g<|ak fun _ h=>WS fun _ Eq=>rP 2 [0,1] (mc 4 U (mc 2 U mn)) ?_
 refine rS (CL (zW l kA kC az cA cC bA bC x hin sd sd) (bu [5,6,7,8]) U) ?_
 refine AL U dV fun R0=>fG U cZ U<|RK Eq<|WS fun _ FS=>rP 5 [] (mc 0 U mn) ?_
 refine RK FS<|bW U (aT fun F=>?_) (aU fun F=>?_)
 ·refine WK h<|au<|rP 1 [] (mc 3 U mn) ?_
  refine ir (vs:=(aG.cells x)) (cs':=(aG.cells x)) (C':=[_,_,_,_,_,_,_,_,_,_,_,_,_,_,(cu Y 78 (aG.cells x)),_]) 14 U U U uN U U U U U U U<|aF<|aN<|KK W ?_
  have J2:(aG.cells x)=(aG.cells (kJ r.aa (i+1))):=by rw [j7 hx]
  rw [J2]
  refine au<|rP 2 [] mn ?_
  refine aF ?_
  rw [show (cM l r.aa i)=(cM l r.aa (i+1)) from (pZ hx F).symm]
  have J3:(vI (((i+1):Nat):Int))=(vI ((i:Int)+1)):=by exact cI I
  refine bg (V ⟨(i+1),⟨I,js D hx (by unfold hE iw; omega)⟩⟩ _ _ _ U os (cG 9<|bf U J3<|dh.nil _) (aQ [4,5,6,7,8,9,10,11,12,13,14,15]))
 obtain ⟨mb,d⟩:=aL (cM l r.aa i) ((x.fE).toNat) I
 obtain ⟨ga,N⟩:=aL fb ((x.fE).toNat) I
 refine zf 15 d N U U U ?_
 try dsimp only
 refine dp ct 10 kr<|kX 1 U<|dS (SX (cR U U) U U)<|dP 4 [0,1] (mc 14 U (mc 5 U mn)) ?_
 have J8:(List.map oC (dB fb l.ab.length))[(x.fE).toNat]? =some (oC (some ga)):=qk (mP N)
 refine dS (IA ((x.fE).toNat) U (aC (n:=l.ab.length) 15 U sq) xI dc I I) ?_
 refine dS (g6 ((x.fE).toNat) 0 (Value.map (some ga)) U cj (aC (n:=(dB fb l.ab.length).length) 15 U sm) J8 U dc U)<|lU 2 [] (mc 2 U mn) U<|cK<|iX (kV:=iV) (x:=(i:Int)) (C':=[(j1 iV ga (cS jW (ed mb (i:Int) (cP l x)))),_,_,_,_,_,_,_,_,_,_,_,_,_,_,_,_]) 0 U U U U sO (ig si) U (gp _ _ _ _).symm U<|RK h<|au<|rP 1 [] (mc 5 U mn) ?_
 refine ir (vs:=(aG.cells x)) (cs':=(aG.cells x)) (C':=[_,_,_,_,_,_,_,_,_,_,_,_,_,_,_,_,(cu Y 78 (aG.cells x))]) 16 U U U uN U U U U U U U<|aF<|aN<|KK W ?_
 have Jf:(aG.cells x)=(aG.cells (kJ r.aa (i+1))):=by rw [j7 hx]
 rw [Jf]
 refine au<|rP 2 [] mn ?_
 refine aF ?_
 refine zN (f:=qf) (ms:=(cM l r.aa i)) (m:=(ed mb (i:Int) (cP l x))) 1 0 (by rw [gN]; omega) N U U U ?_
 rw [sf hx I F d]
 have Jx:(vI (((i+1):Nat):Int))=(vI ((i:Int)+1)):=by exact cI I
 refine bg (V ⟨(i+1),⟨I,js D hx (by unfold hE iw; omega)⟩⟩ _ _ _ U os (cG 9<|bf U Jx<|dh.nil _) (aQ [5,6,7,8,9,10,11,12,13,14,15,0]))
end
section
open Go.RowKit
theorem F0 (l:bk) (kA:OA) (kC:Nat) (az:List RA) (cA:OA) (cC:Nat) (bA:OA) (bC:Nat) (r:cw) (sgA:OA) (sgC:Nat) (hin:eg l az) (hsl:r.aa.length≤1000000):
 pG Tryz.prog 23 [(vA (cv.cells (jN l kA kC cA cC bA bC))),(vA (cz.cells (jk r sgA sgC)))] [(rd kA l.aV.length 9 (l.aV.map ao.cells)),(rd cA l.aj.length 2 (List.zipWith aw.cells l.aj az)),(dR (bj aw.f_ l.aj az)),(rd bA l.ab.length 4 (l.ab.map bJ.cells)),(rd sgA r.aa.length 2 (r.aa.map aG.cells))] (fun (x:(OA)×Nat)=>(vT [(vS x.1 ((gn l r).length) x.2),(vI (dK l r 0))])) (fun (x:(OA)×Nat)=>True) (fun (x:(OA)×Nat)=>[(own x.1 x.2 3 1 ((gn l r).map iC))]):=by
 have A2:=hin.sJ
 have AC:=hin.sL
 have w:=hin.og
 have y:=hin.sH
 have A1:=hin.side
 refine e_ kr Tryz.func23 U U fun w0 Q hQ hN=>?_
 try dsimp only
 refine WS fun _ g=>eI U fun b2=>eI U fun b3=>bD 2 U<|RK g<|WS fun _ P=>rP 2 [0,1] (mc 1 U (mc 0 U mn)) ?_
 refine cX (NR l kA kC az cA cC bA bC r sgA sgC hin hsl) (bu [2,3,4,5,6]) U fun y5 AA=>?_
 obtain ⟨V,v,e,d,F,Y,Z,a,B,AB,G,H,A,E,W,X⟩:=y5
 cases V
 ·obtain ⟨S,he⟩:=AA.2 rfl
  try dsimp only at S he
  subst S
  try dsimp only [cond_true,cond_false,List.cons_append,List.nil_append]
  refine bD 5 U<|RK P<|ak fun _ q=>WS fun _ K=>rP 2 [] mn ?_
  refine RK K<|bW U (br fun J=>?_) (bq fun J=>?_)
  ·exact absurd J he
  refine WS fun _ L=>jO 3 1 ?_
  rw [show (own none 0 3 1 ([]:List (List Value)))=own none 0 3 1 ((gn l r).map iC) from by rw [nx he]; rfl]
  refine bD 1 U<|rP 2 [] mn ?_
  refine RK L<|aq ?_
  refine LX hQ (none,0) [0] [] mn U U U ?_ ?_
  ·first|rfl|(rw [he]; rfl)|(rw [nx he]; rfl)
  ·trivial
 obtain ⟨he,C,R,i,h,k⟩:=AA.1 rfl
 try dsimp only [cond_true,cond_false,List.cons_append,List.nil_append]
 dsimp only at C R i h k
 obtain ⟨f,D,AF,AO⟩:=gM he
 obtain ⟨m,T⟩:=dM f
 have j:=T.head
 unfold eW at j
 have o:=lD m T D
 have A0:=D.time
 have Ay:=D.len
 have s:(cm l l.ab.length).length=l.ab.length:=cU
 have t:(cM l r.aa r.aa.length).length=l.ab.length:=gN
 have AD:B.length=l.ab.length+1:=by have:=C.len; rw [show (bU l r).n=l.ab.length from cU] at this; exact this
 have z:A.length=l.ab.length+1:=by have:=R.len; rw [show (bU l r).n=l.ab.length from cU] at this; exact this
 refine bD 5 U<|RK P<|ak fun _ M=>WS fun _ N=>bD 1 U<|rS (SX (gl (r:= .bool false) U U U qh) U U)<|RK N<|bR U<|WK M<|WS fun _ O=>rP 1 [] mn ?_
 refine cX (uZ (jN l kA kC cA cC bA bC) (jk r sgA sgC) (cm l l.ab.length) (cM l r.aa r.aa.length) d F a Y Z B A AB G H E W X e (by exact o) sd (by exact cU.symm) (by exact C) sd) (aK (aC (n:=(cm l l.ab.length).length) 1 U sm)<|aK (aC (n:=(cM l r.aa r.aa.length).length) 2 U (by rw [List.length_zipWith]; omega))<|aK (fT 3 U lB)<|aK (aC (n:=B.length) 4 U (by rw [List.length_zipWith]; omega))<|aK (fT 5 U lB)<|aK (aC (n:=A.length) 6 U (by rw [List.length_zipWith]; omega))<|aK (fT 7 U lB)<|gY 0 U U<|aO) U fun p u=>?_
 obtain ⟨b,c⟩:=p
 try dsimp only
 rw [show (gW (cT (jN l kA kC cA cC bA bC) (jk r sgA sgC) (cm l l.ab.length) (cM l r.aa r.aa.length)))=gn l r from (ju he).symm]
 refine rP 2 [] mn ?_
 refine RK O<|aq ?_
 refine LX hQ (b,c) [0] [] mn U U U ?_ ?_
 ·first|rfl|(rw [he]; rfl)|(rw [nx he]; rfl)
 ·trivial
end
section
open Go.RowKit
theorem Gm (ln:cv) (ri:cz) (e:List Int) (tms:List TM) (e_A:OA) (e_C:Nat) (tb:List Nat) (t_A:OA) (t_C:Nat) (fs:List FM) (bs:List FM) (fb:List Nat) (f_A:OA) (f_C:Nat) (bb:List Nat) (b_A:OA) (b_C gw:Nat) (b g1 g2:Nat) (mf:FM) (mb:FM) (hb:b<e.length) (hw:Hq (cT ln ri e tms)) (htb:tb.length=tms.length) (hfw:vV (cT ln ri e tms) fs) (hfb:fb.length=fs.length) (hbw:s_ (cT ln ri e tms) bs) (hbb:bb.length=bs.length) (hsg:ri.aa.n≤1000) (hm1:fs[b]? =some mf) (hm2:bs[b+1]? =some mb):
 LY Tryz.prog 70 [] [(vP g1),(vP g2)] [(rd e_A e.length 1 (e.map iC)),(rd t_A tms.length 1 (List.zipWith gD tms tb)),(dR (bj qf tms tb)),(rd f_A fs.length 1 (List.zipWith gD fs fb)),(dR (bj m6 fs fb)),(rd b_A bs.length 1 (List.zipWith gD bs bb)),(dR (bj m6 bs bb)),(cu gw 150 (cb.cells (cb.mk ln ri (bH.mk e_A e.length e_C) (bH.mk t_A tms.length t_C) (bH.mk f_A fs.length f_C) (bH.mk b_A bs.length b_C)))),(cu g1 108 [(vP gw)]),(cu g2 3 [(vI (b:Int))])] ([]:List (Int×ag)) (fun ys x ys'=> ∃ q,q∈qq (cT ln ri e tms) b mf mb∧x=Oi q∧ys'=ys++[q]) (fun ys=> ∀ q∈qq (cT ln ri e tms) b mf mb,q∈ys):=by
 have Km:e.length≤6:=hw.n
 have K0:tms.length=e.length:=hw.times
 have J4:fs.length=e.length+1:=hfw.len
 have J3:bs.length=e.length+1:=hbw.len
 refine E9 kr Tryz.func70 U U fun l J Z A0 w0 Q hY FS Eq hQ hN=>?_
 try dsimp only
 refine WS fun _ FV=>wJ U U fun b2=>RK FV<|WS fun _ Fd=>rP 2 [0,1] (mr 10 U (mr 11 U mn)) ?_
 refine cX (u_ gw b) (aO) U fun y4 K4=>?_
 obtain ⟨C2,C3⟩:=y4
 try dsimp only
 refine RK Fd<|aH<|ji 4 U (by exact fun _ h=>h)<|ji 6 U (by exact fun _ h=>h)<|ji 8 U (by exact fun _ h=>h)<|ji 14 U (by exact fun _ h=>h) ?_
 refine uH (L0:=[(0,(Value.func (.yield l) #[] #[])),(1,(vP g1)),(2,(vP g2)),(3,(vP b2))]) (F:=[(rd e_A e.length 1 (e.map iC)).ro,(rd t_A tms.length 1 (List.zipWith gD tms tb)).ro,(dR (bj qf tms tb)).ro,(cu gw 150 (cb.cells (cb.mk ln ri (bH.mk e_A e.length e_C) (bH.mk t_A tms.length t_C) (bH.mk f_A fs.length f_C) (bH.mk b_A bs.length b_C)))).ro,(cu C2 108 [(vP gw)]),(cu C3 3 [(vI (b:Int))])]) (fun k (y:(List (Int×ag))×ax)=>(lW (cT ln ri e tms) b mf mb k y.1)∧(J y.1 y.2)∧(Fo A0 w0 y.2)) (fun k y=>[(cu b2 155 [(Value.func (.yield l) #[] #[])]),y.2,(rd e_A e.length 1 (e.map iC)).ro,(rd t_A tms.length 1 (List.zipWith gD tms tb)).ro,(dR (bj qf tms tb)).ro,(rd f_A fs.length 1 (List.zipWith gD fs fb)).ro,(dR (bj m6 fs fb)).ro,(rd b_A bs.length 1 (List.zipWith gD bs bb)).ro,(dR (bj m6 bs bb)).ro,(cu gw 150 (cb.cells (cb.mk ln ri (bH.mk e_A e.length e_C) (bH.mk t_A tms.length t_C) (bH.mk f_A fs.length f_C) (bH.mk b_A bs.length b_C)))).ro,(cu g1 108 [(vP gw)]).ro,(cu g2 3 [(vI (b:Int))]).ro]) (fun c (z:ax)=>(c= .ret∧(Z z)∧(Fo A0 w0 z))) (fun _ z=>[(cu b2 155 [(Value.func (.yield l) #[] #[])]),z,(rd e_A e.length 1 (e.map iC)).ro,(rd t_A tms.length 1 (List.zipWith gD tms tb)).ro,(dR (bj qf tms tb)).ro,(rd f_A fs.length 1 (List.zipWith gD fs fb)).ro,(dR (bj m6 fs fb)).ro,(rd b_A bs.length 1 (List.zipWith gD bs bb)).ro,(dR (bj m6 bs bb)).ro,(cu gw 150 (cb.cells (cb.mk ln ri (bH.mk e_A e.length e_C) (bH.mk t_A tms.length t_C) (bH.mk f_A fs.length f_C) (bH.mk b_A bs.length b_C)))).ro,(cu g1 108 [(vP gw)]).ro,(cu g2 3 [(vI (b:Int))]).ro]) [6,7,8,9,10,11,12,13,14,15,16,17] [3,2,1,0,4,5] (([]:List (Int×ag)),A0) rfl rfl (td ln ri e tms e_A e_C tb t_A t_C f_A fs.length f_C b_A bs.length b_C gw b C2 C3 I I) rfl rfl rfl (by exact ⟨lW.nil,FS,Eq⟩) (by simp only [List.forall_mem_cons,List.not_mem_nil,false_imp_iff,implies_true,and_true]; exact ⟨⟨_,aR (i:=0) rfl,(dH (bX _))⟩,⟨_,aR (i:=1) rfl,(dH (bX _))⟩,⟨_,aR (i:=2) rfl,(dH (bX _))⟩,⟨_,aR (i:=3) rfl,(dH (bX _))⟩,⟨_,aR (i:=4) rfl,(bX _)⟩,⟨_,aR (i:=5) rfl,(bX _)⟩⟩) (by rintro k x k2 ⟨o,_,rfl,_⟩; rfl) rfl (bB rfl) ?_ ?_ ?_ ?_
 rotate_left 1
 ·rintro LA k ⟨ys,A⟩ Ck AF
  obtain ⟨X,Y,a⟩:=AF
  try dsimp only at X Y a
  try dsimp only
  refine aN ?_
  refine hN _ _ _ (rn 0 U U<|jV (vs:=[]) trivial fun w hs=>Qk 8 U (by exact lW.fin X Ck) Y a hs)
 ·rintro LE id A C0
  simp at C0
 ·rintro LT A C1
  obtain ⟨hc,Go,Hh⟩:=C1
  try dsimp only
  refine hQ _ _ _ (rn 0 U U<|jV (vs:=[]) trivial fun w hs=>E2 8 U Go Hh hs)
 rintro k x k2 ⟨ys,A⟩ lr ra rb S w1 K8 Qr9 H1 hx AD Fn B3 If DS
 obtain ⟨o,ho,rfl,rfl⟩:=hx
 obtain ⟨X,Y,a⟩:=AD
 try dsimp only at X Y a
 try dsimp only
 refine WS fun _ A3=>rP 1 [] mn ?_
 refine RK A3<|au<|AL U dV fun In=>fG U cZ U<|aF<|jl (fun _ _ h=>h) (aQ [1,0,2,3,4,5,6,7,8,9,10,11,12,13])<|bg (Fn _ _ ?_)
 refine aH<|ak fun _ A4=>dp ct 7 kr<|lU 1 [] (mr 12 U mn) U<|dS (SX (cR U U) U U)<|dP 3 [0,1] (mr 11 U (mr 13 U mn)) ?_
 obtain ⟨ga,s⟩:=aL fb b I
 have Cp:(List.zipWith gD fs fb)[b]? =some (gD mf ga):=dy hm1 s
 refine dS (IA b U (aA 7 U) ow dc I I)<|dS (g6 b 0 (Value.map (some ga)) U cj (aA 7 U) Cp U dc U)<|cK<|pU (kV:=eo) (m:=cS iV mf) 8 U U pw U ⟨⟨(j1 eo ga (cS iV mf)),(bK hm1 s (by simp [m6])),U⟩,fun h=>h⟩ (show iK _ (j1 eo ga (cS iV mf)).holds from cO 8 U (bK hm1 s (by simp [m6]))) U fun IL=>?_
 try dsimp only
 refine RK A4<|aH ?_
 have C:(∀ p∈mf,p∈mf)∧(nU (cT ln ri e tms) b mf mb o mf ys)∧(lW (cT ln ri e tms) b mf mb k ys)∧(J ys A)∧(Fo A0 w0 A):=by exact ⟨fun p hp=>hp,nU.start,X,Y,a⟩
 refine bY (ι:={z:FM×(List (Int×ag))×ax // (∀ p∈z.1,p∈mf)∧(nU (cT ln ri e tms) b mf mb o z.1 z.2.1)∧(lW (cT ln ri e tms) b mf mb k z.2.1)∧(J z.2.1 z.2.2)∧(Fo A0 w0 z.2.2)}) [0,1,2,3,4,5,23] [1,2,3,5,6,7,8,9,10,11,12,13,14] U U (fun z=>[]) (fun z=>[(CX eo IL ga (cS iV mf) (cS iV z.1.1) none),z.1.2.2]) (fun _=>rfl) (fun _=>rfl) (fun z=>z.1.1.length) ⟨(mf,ys,A),C⟩ (dh.nil _) (aQ [1,2,3,5,6,7,8,9,10,11,12,13,14,0,4]) ?_
 clear C
 rintro ⟨⟨left,ys,A⟩,⟨K,M,N,O,P⟩⟩ J15 A1
 try dsimp only at K M N O P
 try dsimp only
 refine WS fun _ j=>ox o7.inj (f:=iV) 13 U U U U (fun Do=>?_) (fun t v hm hn=>?_)
 ·refine rP 1 [] mn ?_
  refine RK j<|ak fun _ IR=>bR U<|bP<|ai<|ai<|aJ<|aN ?_
  exact B3 (ys,A) _ _ (by exact ⟨lW.next N M Do,O,P⟩) (aQ [0,2,14,3,4,5,6,7,8,9,10,11,12])
 try dsimp only
 refine bD 1 U<|RK j<|ak fun _ A5=>aS U<|WK A5<|aH<|WS fun _ A6=>rS (SX (oz 13 U U U) U U)<|bD 2 U<|AL U uG fun Jf=>fG U sD U<|bD 1 U<|RK A6<|ak fun _ A7=>dp ct 8 kr<|lU 1 [] (mr 12 U mn) U<|dS (SX (cR U U) U U)<|dP 4 [0,1] (mr 11 U (mr 13 U mn)) ?_
 obtain ⟨gb,AC⟩:=aL bb (b+1) I
 have Cx:(List.zipWith gD bs bb)[(b+1)]? =some (gD mb gb):=dy hm2 AC
 refine dS (IA (b+1) U (aA 9 U) ow dc I I)<|dS (g6 (b+1) 0 (Value.map (some gb)) U cj (aA 9 U) Cx U dc U)<|cK<|pU (kV:=eo) (m:=cS iV mb) 10 U U pw U ⟨⟨(j1 eo gb (cS iV mb)),(bK hm2 AC (by simp [m6])),U⟩,fun h=>h⟩ (show iK _ (j1 eo gb (cS iV mb)).holds from cO 10 U (bK hm2 AC (by simp [m6]))) U fun IO=>?_
 try dsimp only
 refine RK A7<|aH ?_
 have C:(∀ p∈mb,p∈mb)∧(n7 (cT ln ri e tms) b mb o (t,v) mb ys)∧(nU (cT ln ri e tms) b mf mb o left ys)∧(lW (cT ln ri e tms) b mf mb k ys)∧(J ys A)∧(Fo A0 w0 A):=by exact ⟨fun p hp=>hp,n7.start,M,N,O,P⟩
 refine bY (ι:={z:FM×(List (Int×ag))×ax // (∀ p∈z.1,p∈mb)∧(n7 (cT ln ri e tms) b mb o (t,v) z.1 z.2.1)∧(nU (cT ln ri e tms) b mf mb o left z.2.1)∧(lW (cT ln ri e tms) b mf mb k z.2.1)∧(J z.2.1 z.2.2)∧(Fo A0 w0 z.2.2)}) [0,1,2,3,4,5,6,7,23,37] [1,2,3,4,5,6,7,8,9,10,11,12,13,14,15] U U (fun z=>[]) (fun z=>[(CX eo IO gb (cS iV mb) (cS iV z.1.1) none),z.1.2.2]) (fun _=>rfl) (fun _=>rfl) (fun z=>z.1.1.length) ⟨(mb,ys,A),C⟩ (dh.nil _) (aQ [1,2,3,4,5,6,7,8,9,10,11,12,13,14,15,0,16]) ?_
 clear C
 rintro ⟨⟨l2,T,A2⟩,⟨B,D,E,G,H,AB⟩⟩ J23 V
 try dsimp only at B D E G H AB
 try dsimp only
 refine WS fun _ r=>ox o7.inj (f:=iV) 15 U U U U (fun EQ=>?_) (fun u z L AO=>?_)
 ·refine rP 1 [] mn ?_
  refine RK r<|ak fun _ Id=>bR U<|bP<|ai<|ai<|aJ<|aN<|qX 14 U py U ?_
  refine bg (A1 ⟨((e9 left t),T,A2),⟨mI K,nU.next hn hm E D EQ,G,H,AB⟩⟩ _ _ _ U (mG hm) (bB U) (aQ [1,2,3,4,5,6,7,8,9,10,11,12,13,14,16]))
 try dsimp only
 refine bD 1 U<|RK r<|ak fun _ A8=>aS U<|WK A8<|aH<|WS fun _ A9=>rS (SX (oz 15 U U U) U U)<|bD 2 U<|AL U uG fun Jx=>fG U sD U<|rP 1 [] mn ?_
 refine RK A9<|ak fun _ Bp=>dA ct [17,18] [] [] [0,1,2,3,4,5,6,7,8,9,10,11,12,13,14,15,16,17] [] U U U U U<|eS U (MV U)<|eS U (V6 13 U cj U)<|eS U (SX (cR U U) U U)<|eS U (FA 10 U fj U)<|eS U (Lj (vS e_A e.length e_C) 12 U cj U U)<|eS U (V6 14 U cj U) ?_
 obtain ⟨y,hy⟩:=aL e b I
 have IB:=bM iC hy
 refine eS U (IA b U (aA 5 U) dv dc I I)<|eS U (g6 b 0 (vI y) U cj (aA 5 U) IB U dc U) ?_
 have J5:=hw.least y (aR hy)
 have GT:=JM hw _ _ (hfw.mem hm1 (K _ hm))
 have GE:=IK hw (hbw.mem hm2 (B _ L))
 have J6:=vw o.1
 have J7:=hw.opt ho
 dsimp only at GT GE
 refine eS U (BI U (nO ⟨I,I⟩))<|eS U (FA 0 U fj U)<|eS U (L1 (vI o.2.Lo) 3 U cj U U)<|eS U (MX U)<|eS U (MV U)<|eS U (FA 1 U fj U)<|eS U (L1 (vI o.2.Hi) 3 U cj U U)<|eS U (MN U)<|eS U (SX (bp (xs:=[(0,.tmp 54),(1,.tmp 58)]) (cs:=(ag.cells (ag.mk (max (v+y) o.2.Lo) (min z o.2.Hi)))) U U (bo gX U)) U U)<|eh U<|cd U fun T30 B9=>AL U dV fun J2=>aF (B9 _ _ (aQ [1,2,3,4,5,6,7,8,9,10,11,12,13,14,15,16,17,18]) ?_)
 refine cd U fun T32 Ci=>fG U cZ U<|aF (Ci _ _ (aQ [1,2,3,4,5,6,7,8,9,10,11,12,13,14,15,16,17,18]) ?_)
 refine fp U<|KK Bp<|ak fun _ R=>dp ct 19 kr<|dP 6 [] (mc 0 U mn) ?_
 refine jy (t:=65) U (aT fun d=>?_) (aU fun d=>?_)
 ·refine kX 3 U<|kX 10 U<|cK<|rP 3 [] mn ?_
  refine RK R<|bR U<|cf<|aN<|qX 17 U py U ?_
  refine bg (V ⟨((e9 l2 u),T,A2),⟨mI B,n7.skip AO L D (by exact G1 hy d),E,G,H,AB⟩⟩ _ _ _ U (mG L) (bB U) (aQ [2,3,4,5,6,7,8,9,10,11,12,13,14,15,16,17,18]))
 refine dP 3 [0,1,2] (mr 14 U (mc 2 U (mc 1 U mn))) ?_
 have J9:(0≤(dF t u).right∧(dF t u).right≤1000)∧0≤(dF t u).eT∧(dF t u).eT≤1000:=by simp only [dF]; omega
 have J8:(0≤(dF (dF t u) (fD o.1)).right∧(dF (dF t u) (fD o.1)).right≤1000)∧0≤(dF (dF t u) (fD o.1)).eT∧(dF (dF t u) (fD o.1)).eT≤1000:=by simp only [dF]; omega
 refine dS (CL (wM t u I I) (aO) U)<|kX 1 U<|dS (CL (I5 o.1) (aO) U)<|dS (CL (wM (dF t u) (fD o.1) asm I) (aO) U)<|dS (CL (Ow ln ri e tms e_A e_C tb t_A t_C fs bs fb f_A f_C bb b_A b_C gw (dF (dF t u) (fD o.1)) asm hsg) (bu [6,7,8,9,10,11,12,13]) U)<|dP 2 [] mn ?_
 refine jy (t:=75) U (fun g=>?_) (fun g=>?_)
 ·refine kX 3 U<|cK<|rP 3 [] mn ?_
  refine RK R<|bR U<|cf<|aN<|qX 17 U py U ?_
  refine bg (V ⟨((e9 l2 u),T,A2),⟨mI B,n7.skip AO L D (by exact Gu g),E,G,H,AB⟩⟩ _ _ _ U (mG L) (bB U) (aQ [2,3,4,5,6,7,8,9,10,11,12,13,14,15,16,17,18]))
 refine dP 3 [0,1] (mc 5 U (mc 0 U mn)) ?_
 refine cK<|xb (k:=T) (k':=(T++[(o.1,(ag.mk (max (v+y) o.2.Lo) (min z o.2.Hi)))])) 18 (by first|exact H1|exact Nat.le_refl _) hY H AB U U U (by exact ⟨(o.1,_),iA.2 ⟨o,ho,(t,v),K _ hm,(u,z),B _ L,(Cf hy d g)⟩,U,U⟩) U U (fun B34 W AA=>?_) (fun B34 W AA=>?_)
 rotate_left 1
 ·refine rP 2 [] mn ?_
  refine RK R<|aS U<|aq ?_
  exact DS B34 _ _ (by exact ⟨U,W,AA⟩) (aQ [3,5,18,6,7,8,9,10,11,12,13,14,15])
 refine rP 2 [] mn ?_
 refine RK R<|bR U<|cf<|aN<|qX 17 U py U ?_
 refine bg (V ⟨((e9 l2 u),(T++[(o.1,(ag.mk (max (v+y) o.2.Lo) (min z o.2.Hi)))]),B34),⟨mI B,n7.VR AO L D (Cf hy d g),E.app,G.app,W,AA⟩⟩ _ _ _ U (mG L) (bB U) (aQ [2,3,4,5,6,7,8,9,10,11,12,13,14,15,16,17,18]))
end
section
open Go.RowKit
theorem MC (l:bk) (kA:OA) (kC:Nat) (az:List RA) (cA:OA) (cC:Nat) (bA:OA) (bC:Nat) (r:cw) (sgA:OA) (sgC:Nat) (f:Value) (X:ax) (me:Int) (gm:Nat) (hf:DY Tryz.prog f [] [X] (.int .i64 me)) (hin:eg l az) (hsl:r.aa.length≤1000000):
 pG Tryz.prog 42 [(vA (cv.cells (jN l kA kC cA cC bA bC))),(vA (cz.cells (jk r sgA sgC))),(vS (some ⟨gm,0,none⟩) 1 1)] [(rd kA l.aV.length 9 (l.aV.map ao.cells)),(rd cA l.aj.length 2 (List.zipWith aw.cells l.aj az)),(dR (bj aw.f_ l.aj az)),(rd bA l.ab.length 4 (l.ab.map bJ.cells)),(rd sgA r.aa.length 2 (r.aa.map aG.cells)),X,(cu gm 111 [f])] (fun (x:Bool×Int×Nat×(OA)×Nat×(OA)×Nat×(List Nat)×(List FM)×(List Nat)×(OA)×Nat×(List FM)×(List Nat)×(OA)×Nat)=>bif x.1 then (vT [(Value.pointer (some ⟨x.2.2.1,0,none⟩)),(vI 0)]) else (vT [(Value.pointer none),(vI x.2.1)])) (fun (x:Bool×Int×Nat×(OA)×Nat×(OA)×Nat×(List Nat)×(List FM)×(List Nat)×(OA)×Nat×(List FM)×(List Nat)×(OA)×Nat)=>(x.1=true→(dK l r me=0∧vV (bU l r) x.2.2.2.2.2.2.2.2.1∧s_ (bU l r) x.2.2.2.2.2.2.2.2.2.2.2.2.1∧x.2.2.2.2.2.2.2.2.2.1.length=x.2.2.2.2.2.2.2.2.1.length∧x.2.2.2.2.2.2.2.2.2.2.2.2.2.1.length=x.2.2.2.2.2.2.2.2.2.2.2.2.1.length∧x.2.2.2.2.2.2.2.1.length=(cM l r.aa r.aa.length).length))∧(x.1=false→(x.2.1=dK l r me∧ ¬ dK l r me=0))) (fun (x:Bool×Int×Nat×(OA)×Nat×(OA)×Nat×(List Nat)×(List FM)×(List Nat)×(OA)×Nat×(List FM)×(List Nat)×(OA)×Nat)=>bif x.1 then [(cu x.2.2.1 150 (cb.cells (cb.mk (jN l kA kC cA cC bA bC) (jk r sgA sgC) (bH.mk x.2.2.2.1 ((cm l l.ab.length).length) x.2.2.2.2.1) (bH.mk x.2.2.2.2.2.1 ((cM l r.aa r.aa.length).length) x.2.2.2.2.2.2.1) (bH.mk x.2.2.2.2.2.2.2.2.2.2.1 x.2.2.2.2.2.2.2.2.1.length x.2.2.2.2.2.2.2.2.2.2.2.1) (bH.mk x.2.2.2.2.2.2.2.2.2.2.2.2.2.2.1 x.2.2.2.2.2.2.2.2.2.2.2.2.1.length x.2.2.2.2.2.2.2.2.2.2.2.2.2.2.2)))),(own x.2.2.2.1 x.2.2.2.2.1 3 1 ((cm l l.ab.length).map iC)),(own x.2.2.2.2.2.1 x.2.2.2.2.2.2.1 153 1 (List.zipWith gD (cM l r.aa r.aa.length) x.2.2.2.2.2.2.2.1)),(bQ (bj qf (cM l r.aa r.aa.length) x.2.2.2.2.2.2.2.1)),(own x.2.2.2.2.2.2.2.2.2.2.1 x.2.2.2.2.2.2.2.2.2.2.2.1 156 1 (List.zipWith gD x.2.2.2.2.2.2.2.2.1 x.2.2.2.2.2.2.2.2.2.1)),(bQ (bj m6 x.2.2.2.2.2.2.2.2.1 x.2.2.2.2.2.2.2.2.2.1)),(own x.2.2.2.2.2.2.2.2.2.2.2.2.2.2.1 x.2.2.2.2.2.2.2.2.2.2.2.2.2.2.2 156 1 (List.zipWith gD x.2.2.2.2.2.2.2.2.2.2.2.2.1 x.2.2.2.2.2.2.2.2.2.2.2.2.2.1)),(bQ (bj m6 x.2.2.2.2.2.2.2.2.2.2.2.2.1 x.2.2.2.2.2.2.2.2.2.2.2.2.2.1))] else []):=by
 have T0:=hin.sJ
 have TO:=hin.sL
 have S1:=hin.og
 have S2:=hin.sH
 have To:=hin.side
 refine e_ kr Tryz.func42 U U fun w0 Q hQ hN=>?_
 try dsimp only
 refine WS fun _ O8=>eI U fun b2=>eI U fun b3=>bD 2 U<|RK O8<|ak fun _ PB=>WS fun _ PP=>eQ 1 [] (mc 1 U mn) U<|rS (CL (wT l kA kC az cA cC bA bC hin) (bu [2,3,4,5]) U)<|bD 1 U<|RK PP<|WS fun _ PT=>rP 2 [] mn ?_
 refine RK PT<|cx U (bq fun h=>?_) (br fun h=>?_)
 ·refine WS fun _ Pi=>rP 3 [] mn ?_
  refine RK Pi<|aq<|LX hQ (false,(dD l),0,none,0,none,0,[],[],[],none,0,[],[],none,0) [] [] mn U (by rfl) U U ?_
  exact wh<|EG (gv (r:=r) (me:=me) h) h
 refine WK PB<|ak fun _ Pl=>WS fun _ AD=>?_
 have C:dD l=0:=h
 obtain ⟨Lk,d⟩:=dM C
 have P6:=d.head
 unfold eW at P6
 refine rP 2 [] (mc 0 U mn) ?_
 refine ej (xs:=[.tmp 24]) (cs:=[(vI r.Start)]) U dv kj U U U U (by simp [Value.cells]) U U fun M2=>?_
 refine rS (CL (dG.eq (hU 0 86400000 ([r.Start]) (some ⟨M2,0,none⟩) 1 (by (simp; done))) cD) (aK (bw 0 U U (by simp [bL]) U)<|aO) U) ?_
 refine rP 2 [] mn ?_
 refine b_ (t:=28) U (bq fun OB=>?_) (br fun OB=>?_)
 ·refine bD 14 U<|RK AD<|aS U<|WS fun _ A5=>rP 2 [] mn ?_
  refine RK A5<|aq<|LX hQ (false,51,0,none,0,none,0,[],[],[],none,0,[],[],none,0) [] [] mn U (by rfl) U U ?_
  exact wh<|nW (df (me:=me) C (fun q:dU l r=>by have q1:=q.time; have q2:=q.len; omega))
 refine rP 4 [] (mc 1 U mn) ?_
 refine ej (xs:=[.tmp 32]) (cs:=[(vI r.fR)]) U dv kj U U U U (by simp [Value.cells]) U U fun NE=>?_
 refine rS (CL (dG.eq (hU r.Start 86400000 ([r.fR]) (some ⟨NE,0,none⟩) 1 (by (simp; done))) cD) (aK (bw 0 U U (by simp [bL]) U)<|aO) U) ?_
 refine rP 3 [] mn ?_
 refine b_ (t:=37) U (bq fun Or=>?_) (br fun Or=>?_)
 ·refine bD 5 U<|RK AD<|aS U<|WS fun _ A6=>rP 2 [] mn ?_
  refine RK A6<|aq<|LX hQ (false,51,0,none,0,none,0,[],[],[],none,0,[],[],none,0) [] [] mn U (by rfl) U U ?_
  exact wh<|nW (df (me:=me) C (fun q:dU l r=>by have q1:=q.time; have q2:=q.len; omega))
 refine rP 5 [] (mc 2 U mn) ?_
 refine RK AD<|cx U (aU fun Os=>?_) (aT fun Os=>?_)
 ·refine WS fun _ A7=>rP 2 [] mn ?_
  refine RK A7<|aq<|LX hQ (false,51,0,none,0,none,0,[],[],[],none,0,[],[],none,0) [] [] mn U (by rfl) U U ?_
  exact wh<|nW (df (me:=me) C (fun q:dU l r=>by have q1:=q.time; have q2:=q.len; omega))
 refine WK Pl<|WS fun _ A8=>rS (SX (bp (xs:=[(0,.const (vI (-1)))]) (cs:=(aG.cells (aG.mk (-1) 0))) U U (bo Ji U)) U U)<|AL U Hw fun V=>fG U uN U<|RK A8<|ak fun _ A9=>dA ct [5,6,7,8] [] [] [0,1,2,3,4,5,6,7,8,9,10,11] [] U U U U U<|eS U (LW 4 U cj U U)<|eS U (LW 3 U cj U U)<|eS U (FA 3 U fj U)<|eS U (L1 (vS bA l.ab.length bC) 4 U cj U U)<|eS U (LN U PJ)<|eh U<|cd U fun T18 If=>?_
 refine vZ (n:=l.ab.length) (es:=(List.map oC (List.replicate l.ab.length (none:Option Nat)))) U U U N5 I I (by simp only [maxLen]; omega) (by rw [List.map_replicate]; rfl) U fun B=>?_
 try dsimp only
 refine aF (If _ _ (aQ [1,2,3,4,5,6,7,8,9,10,11,12]) ?_)
 refine cd U fun T20 In=>rS (SX (bp (xs:=[(0,.tmp 44),(1,.tmp 45),(3,.tmp 49)]) (cs:=(cb.cells (cb.mk (jN l kA kC cA cC bA bC) (jk r sgA sgC) (bH.mk none 0 0) (bH.mk (some ⟨B,0,none⟩) l.ab.length l.ab.length) (bH.mk none 0 0) (bH.mk none 0 0)))) U U (bo Ox U)) U U)<|aF (In _ _ (aQ [1,2,3,4,5,6,7,8,9,10,11,12]) ?_)
 refine cd U fun T21 Jf=>eI U fun AB=>aF (Jf _ _ (aQ [2,3,4,5,6,7,8,9,10,11,12,13]) ?_)
 refine cd U fun T23 Jx=>rS (AG U)<|aF (Jx _ _ (aQ [2,3,4,5,6,7,8,9,10,11,12,13]) ?_)
 refine fp U<|KK A9<|ak fun _ Bp=>WS fun _ B3=>rP 4 [] (mc 6 U mn) ?_
 refine RK B3<|aH ?_
 rw [uV]
 refine eM 3 1<|oc ?_
 have E:(0≤l.ab.length)∧(([]:List Nat).length=0):=by exact ⟨Nat.zero_le _,rfl⟩
 refine bY (ι:={z:Nat×(OA)×Nat×(List Nat) // (z.1≤l.ab.length)∧(z.2.2.2.length=z.1)}) [2,3,4,6,7,9,10,54] [4,7,8,9,10,11,12,13,14,15] U U (fun z=>[(55,(vI (z.1.1:Int)))]) (fun z=>[(bQ (bj qf (List.replicate z.1.1 ([]:TM)) z.1.2.2.2)),(own z.1.2.1 z.1.2.2.1 3 1 ((cm l z.1.1).map iC)),(cu AB 150 (cb.cells (cb.mk (jN l kA kC cA cC bA bC) (jk r sgA sgC) (bH.mk z.1.2.1 ((cm l z.1.1).length) z.1.2.2.1) (bH.mk (some ⟨B,0,none⟩) l.ab.length l.ab.length) (bH.mk none 0 0) (bH.mk none 0 0)))),(own (some ⟨B,0,none⟩) l.ab.length 153 1 (List.map oC (dB z.1.2.2.2 l.ab.length)))]) (fun _=>rfl) (fun _=>rfl) (fun z=>l.ab.length-z.1.1) ⟨(0,none,0,([]:List Nat)),E⟩ (bB U) (aQ [4,7,8,9,10,11,12,13,14,15,0,1,2,3]) ?_
 clear E
 rintro ⟨⟨b,a,c,fb⟩,⟨AF,Y⟩⟩ J26 A4
 try dsimp only at AF Y
 try dsimp only
 have P8:(dB fb l.ab.length).length=l.ab.length:=nE I
 refine WS fun _ B9=>rP 1 [] mn ?_
 refine RK B9<|ak fun _ Ci=>cx U (aU fun Op=>?_) (aT fun Op=>?_)
 ·refine WK Ci<|ak fun _ Ck=>aH<|WS fun _ Cp=>rP 2 [] mn ?_
  refine RK Cp<|ak fun _ Cx=>dA ct [12,13,16] [4] [0] [0,1,2,3,4,5,6,7,8,9,10,13] [0,1,2,3,4,5,6,7,8,9,10,11,12,13] U U U U U<|eS U (MV U)<|eS U (MV U)<|eS U (SX (cR U U) U U)<|eS U (FA 10 U fj U)<|fS U (L1 (vS a ((cm l b).length) c) 12 U cj U U)<|eS U (LW 2 U cj U U)<|eS U (MV U)<|eS U (CL (Ld l kA kC az cA cC bA bC (b:Int) hin asm (by exact d.ua) I) (bu [3,4,5,6]) U) ?_
  have T1:=BD Lk d.ua b
  have T4:=d.Qe b I
  simp only [Int.toNat_natCast]
  refine eS U (BI U (uB ⟨I,I⟩))<|eS U (FA 1 U fj U)<|eS U (L1 (vI l.iR) 2 U cj U U) ?_
  refine eS U (CL (Jd (1000*(lz l (b:Int).toNat)) l.iR I (by (simp; omega))) (aO) U) ?_
  refine eS U (SX (cR U U) U U)<|eS U (FA 10 U fj U)<|eh U<|jB U fun T33 J2=>ej (xs:=[.tmp 69]) (cs:=[(vI (oZ (1000*(lz l (b:Int).toNat)) l.iR))]) U dv kj U U U U (by simp [Value.cells]) U U fun R8=>aF (J2 _ _ (aQ [1,2,3,4,5,6,7,8,9,10,11,14]) (aQ [1,2,3,4,5,6,7,8,9,10,11,12,13,14]) ?_)
  refine cd U fun T35 J3=>?_
  refine dJ (es2:=(List.map iC (cm l (b+1)))) (m':=(cm l (b+1)).length) 12 U U U sx U U (by simp [cU]) (bw (es:=List.map iC [(oZ (1000*(lz l (b:Int).toNat)) l.iR)]) 0 U U (by simp [bL]) U) (lg _) (by have:=cU (l:=l) (n:=b); first|omega|(simp; omega)) (by simp only [maxLen,cU]; omega) (by rw [qH]; simp [dY]) (by simp [cU]) U fun e g=>?_
  try dsimp only
  refine aF (J3 _ _ (aQ [1,2,3,4,5,6,7,8,9,10,11,14]) ?_)
  refine cd U fun T38 J4=>ir (vs:=[(vS e ((cm l (b+1)).length) g)]) (cs':=(cb.cells (cb.mk (jN l kA kC cA cC bA bC) (jk r sgA sgC) (bH.mk e ((cm l (b+1)).length) g) (bH.mk (some ⟨B,0,none⟩) l.ab.length l.ab.length) (bH.mk none 0 0) (bH.mk none 0 0)))) (C':=[_,_,_,_,_,_,_,_,_,_,_,_,_,(cu AB 150 (cb.cells (cb.mk (jN l kA kC cA cC bA bC) (jk r sgA sgC) (bH.mk e ((cm l (b+1)).length) g) (bH.mk (some ⟨B,0,none⟩) l.ab.length l.ab.length) (bH.mk none 0 0) (bH.mk none 0 0)))),_]) 13 U U U Gi U U U U U U U<|aF (J4 _ _ (aQ [1,2,3,4,5,6,7,8,9,10,11,14]) ?_)
  refine fp U<|KK Cx<|au<|bD 1 U<|rS (SX (cR U U) U U)<|rP 3 [] (mc 13 U mn) ?_
  refine lF (kV:=iV) U U fun J=>?_
  try dsimp only
  obtain ⟨R0,L0⟩:=aL (dB fb l.ab.length) b I
  have hx41m:(List.map oC (dB fb l.ab.length))[b]? =some (oC R0):=by rw [fM,L0]; rfl
  refine rS (IA b U (aC (n:=l.ab.length) 15 U sq) xI dc I I) ?_
  have J5:((dB fb l.ab.length).set b (some J))=(dB (fb++[J]) l.ab.length):=by exact rO I I
  refine fW (k:=b) (o:=0) (vs:=[(Value.map (some J))]) (es':=(List.map oC (dB (fb++[J]) l.ab.length))) (C':=[_,_,_,_,_,_,_,_,_,_,_,_,_,_,_,(own (some ⟨B,0,none⟩) l.ab.length 153 1 (List.map oC (dB (fb++[J]) l.ab.length)))]) 15 U U U E6 U U U U hx41m U dc (by exact (List.map_set (f:=oC) (l:=(dB fb l.ab.length)) (i:=b) (a:=(some J))).symm.trans (congrArg _ J5)) U<|aF<|aN<|KK Ck<|au<|rP 2 [] mn ?_
  refine aF<|xN (X':=bj qf (List.replicate (b+1) ([]:TM)) (fb++[J])) 12 0 U U (EW Y) ?_
  try dsimp only
  have J6:(vI (((b+1):Nat):Int))=(vI ((b:Int)+1)):=by exact cI I
  refine bg (A4 ⟨((b+1),e,g,(fb++[J])),⟨I,by simp; omega⟩⟩ _ _ _ U os (cG 8<|bf U J6<|dh.nil _) (aQ [2,3,4,5,6,7,8,9,10,11,0,12,13,14]))
 refine bP<|ai<|ai<|aJ<|KK Bp<|ak fun _ C0=>WS fun _ C1=>rP 4 [] (mc 1 U mn) ?_
 refine RK C1<|aH ?_
 rw [show (List.replicate b ([]:TM))=cM l r.aa 0 from by rw [xx,show b=l.ab.length by omega]]
 rw [show cm l b=cm l l.ab.length from by rw [show b=l.ab.length by omega]]
 have E:(0≤r.aa.length)∧(oU l r.aa 0):=by exact ⟨Nat.zero_le _,vi⟩
 refine bY (ι:={z:Nat // (z≤r.aa.length)∧(oU l r.aa z)}) [2,3,4,6,7,9,10,83,84] [1,2,3,4,5,6,7,8,9,11,12,13] U U (fun z=>[(85,(vI (z.1:Int)))]) (fun z=>[(cu V 78 (aG.cells (kJ r.aa z.1))),(bQ (bj qf (cM l r.aa z.1) fb))]) (fun _=>rfl) (fun _=>rfl) (fun z=>r.aa.length-z.1) ⟨0,E⟩ (bB U) (aQ [1,2,3,4,5,6,7,8,9,11,12,13,0,10]) ?_
 clear E
 rintro ⟨i,⟨Mu,A⟩⟩ J46 T
 try dsimp only
 have Qr:(cM l r.aa i).length=l.ab.length:=gN
 have P8:(dB fb l.ab.length).length=l.ab.length:=nE I
 refine WS fun _ C2=>rP 1 [] mn ?_
 refine RK C2<|ak fun _ C3=>bW U (aT fun O1=>?_) (aU fun O1=>?_)
 ·refine bP<|ai<|ai<|aJ<|KK C0<|ak fun _ GE=>ak fun _ GT=>?_
  have j:dU l r:=x7 I I A I
  refine au<|bD 3 U<|RK GT<|aH<|rD 2<|kW fun R81 Id=>WS fun _ Go=>rS (SX (gl (r:= .bool true) U U U pg) U U)<|RK Go<|ak fun _ Hh=>aS U<|WK Hh<|ak fun _ Hi=>aH<|WS fun _ H1=>rS (Wt 0 0 U OJ U dc U)<|eQ 2 [] (mr 8 U mn) U<|RK H1<|WS fun _ IB=>bD 1 U<|rS (SX (qa U U U (hf) (bu [7])) U U)<|bD 1 U<|RK IB<|WS fun _ IC=>rP 2 [] mn ?_
  refine RK IC<|cx U (bq fun K=>?_) (br fun K=>?_)
  ·refine WS fun _ IL=>rP 3 [] mn ?_
   refine RK IL<|aq<|LX hQ (false,me,0,none,0,none,0,[],[],[],none,0,[],[],none,0) [] [] mn U (by rfl) U U ?_
   exact wh<|EG (qz C j K) K
  refine cf<|aN<|KK Hi<|au<|rS (SX (gl (r:= .int .i64 1) U U U (nO ⟨dc,dc⟩)) U U)<|rP 1 [] mn ?_
  refine RK Id<|kW fun R89 R4=>WS fun _ IO=>rS (SX (gl (r:= .bool false) U U U pg) U U)<|RK IO<|ak fun _ R3=>bR U<|bP<|ai<|ai<|aJ<|KK GE<|ak fun _ IR=>?_
  rw [show cM l r.aa i=cM l r.aa r.aa.length from by rw [show i=r.aa.length by omega]]
  have Ay:(cM l r.aa r.aa.length).length=l.ab.length:=gN
  rw [show (List.map oC (dB fb l.ab.length))=(List.zipWith gD (cM l r.aa r.aa.length) fb) from S0 I Ay]
  rw [show (cu AB 150 (cb.cells (cb.mk (jN l kA kC cA cC bA bC) (jk r sgA sgC) (bH.mk a ((cm l l.ab.length).length) c) (bH.mk (some ⟨B,0,none⟩) l.ab.length l.ab.length) (bH.mk none 0 0) (bH.mk none 0 0))))=(cu AB 150 (cb.cells (cb.mk (jN l kA kC cA cC bA bC) (jk r sgA sgC) (bH.mk a ((cm l l.ab.length).length) c) (bH.mk (some ⟨B,0,none⟩) ((cM l r.aa r.aa.length).length) l.ab.length) (bH.mk none 0 0) (bH.mk none 0 0)))) from by rw [Ay]]
  have Lo:=lD Lk d j
  have R5:(cm l l.ab.length).length=l.ab.length:=cU
  refine au<|rP 1 [] mn ?_
  refine oK 10 U U U U (Bx (jN l kA kC cA cC bA bC) (jk r sgA sgC) (cm l l.ab.length) (cM l r.aa r.aa.length) a c fb (some ⟨B,0,none⟩) l.ab.length AB (by exact Lo) (by exact cU.symm) (by rw [Ay]; omega)) U (ei 9 U U (jq sm) (ei 11 U U (jq (by rw [List.length_zipWith]; omega)) (ei 13 U U qI qP))) U (fun L2 Pw=>?_)
  obtain ⟨G,S,P,R,F,O,N,H⟩:=L2
  refine EO (X:=[(cu AB 150 (cb.cells (cb.mk (jN l kA kC cA cC bA bC) (jk r sgA sgC) (bH.mk a ((cm l l.ab.length).length) c) (bH.mk (some ⟨B,0,none⟩) ((cM l r.aa r.aa.length).length) l.ab.length) (bH.mk P G.length R) (bH.mk N F.length H)))),(own P R 156 1 (List.zipWith gD G S)),(bQ (bj m6 G S)),(own N H 156 1 (List.zipWith gD F O)),(bQ (bj m6 F O))]) 10 U U ?_
  try dsimp only
  obtain ⟨AO,LT,La,Li⟩:=Pw
  dsimp only at AO LT La Li
  refine RK IR<|ak fun _ v=>WS fun _ w=>rP 1 [] mn ?_
  refine cX (uZ (jN l kA kC cA cC bA bC) (jk r sgA sgC) (cm l l.ab.length) (cM l r.aa r.aa.length) a c fb (some ⟨B,0,none⟩) l.ab.length G F S P R O N H AB (by exact Lo) (by (simp; omega)) (by exact cU.symm) (by exact AO) asm) (aK (aC (n:=(cm l l.ab.length).length) 14 U sm)<|aK (aC (n:=(cM l r.aa r.aa.length).length) 15 U (by rw [List.length_zipWith]; omega))<|aK (fT 17 U lB)<|aK (aC (n:=G.length) 1 U (by rw [List.length_zipWith]; omega))<|aK (fT 2 U lB)<|aK (aC (n:=F.length) 3 U (by rw [List.length_zipWith]; omega))<|aK (fT 4 U lB)<|gY 0 U U<|aO) U fun L3 Ru=>?_
  obtain ⟨R1,R2⟩:=L3
  try dsimp only
  refine rP 2 [] mn ?_
  refine RK w<|bW U (aT fun W=>?_) (aU fun W=>?_)
  ·refine WK v<|WS fun _ AC=>rP 3 [] mn ?_
   refine RK AC<|aq ?_
   refine LX hQ (true,0,AB,a,c,(some ⟨B,0,none⟩),l.ab.length,fb,G,S,P,R,F,O,N,H) [1,15,16,18,2,3,4,5] [] mn U (by (show List.all _ _=true; simp only [cond_true,eG,List.all_nil,pq,qZ,Bool.and_true]; rfl)) U U ?_
   exact ⟨fun _=>⟨lk C j (by first|rfl|exact K) (fun q=>W (congrArg (fun z:List Int=>(z.length:Int)) q)),AO,LT,La,Li,dso⟩,QR⟩
  refine WS fun _ y=>rP 2 [] mn ?_
  refine RK y<|aq<|LX hQ (false,8,0,none,0,none,0,[],[],[],none,0,[],[],none,0) [] [] mn U (by rfl) U U ?_
  exact wh<|nW (g4 (me:=me) C j (by first|rfl|exact K) (show gW (bU l r)=[] from hZ (Int.natCast_eq_zero.1 W)))
 refine WK C3<|ak fun _ AA=>aH<|WS fun _ DS=>rP 1 [] mn ?_
 obtain ⟨x,hx⟩:=aL r.aa i I
 have RP:=bM aG.cells hx
 refine rS (IA i U (aA 6 U) yB dc I I)<|rS (lx i 0 (aG.cells x) U cj (aA 6 U) RP U dc U U)<|AL U Hw fun R9=>bD 1 U<|fG U uN U<|RK DS<|ak fun _ p=>WS fun _ L=>rP 6 [0,1] (mc 2 U (mc 0 U mn)) ?_
 refine ej (xs:=[.tmp 95]) (cs:=[(vI x.fE)]) U dv kj U U U U (by simp [Value.cells]) U U fun Ne=>?_
 refine rS (CL (dG.eq (hU 0 ((l.ab.length:Int)-1) ([x.fE]) (some ⟨Ne,0,none⟩) 1 (by (simp; done))) cD) (aK (bw 0 U U (by simp [bL]) U)<|aO) U) ?_
 refine rP 2 [] mn ?_
 refine b_ (t:=99) U (bq fun O6=>?_) (br fun O6=>?_)
 ·refine bD 27 U<|RK L<|aS U<|WS fun _ Di=>rP 2 [] mn ?_
  refine RK Di<|aq<|LX hQ (false,51,0,none,0,none,0,[],[],[],none,0,[],[],none,0) [] [] mn U (by rfl) U U ?_
  exact wh<|nW (df (me:=me) C (kv hx (by unfold hE iw; omega)))
 refine rP 2 [] (mc 1 U mn) ?_
 refine ej (xs:=[.tmp 101]) (cs:=[(vI x.Read)]) U dv kj U U U U (by simp [Value.cells]) U U fun Np=>?_
 refine rS (CL (dG.eq (hU 0 86400000 ([x.Read]) (some ⟨Np,0,none⟩) 1 (by (simp; done))) cD) (aK (bw 0 U U (by simp [bL]) U)<|aO) U) ?_
 refine rP 3 [] mn ?_
 refine b_ (t:=106) U (bq fun A0=>?_) (br fun A0=>?_)
 ·refine bD 20 U<|RK L<|aS U<|WS fun _ Do=>rP 2 [] mn ?_
  refine RK Do<|aq<|LX hQ (false,51,0,none,0,none,0,[],[],[],none,0,[],[],none,0) [] [] mn U (by rfl) U U ?_
  exact wh<|nW (df (me:=me) C (kv hx (by unfold hE iw; omega)))
 refine rP 7 [0,1] (mc 2 U (mc 15 U mn)) ?_
 refine b_ (t:=113) U (aU fun A1=>?_) (aT fun A1=>?_)
 ·refine bD 13 U<|RK L<|aS U<|WS fun _ EQ=>rP 2 [] mn ?_
  refine RK EQ<|aq<|LX hQ (false,51,0,none,0,none,0,[],[],[],none,0,[],[],none,0) [] [] mn U (by rfl) U U ?_
  exact wh<|nW (df (me:=me) C (kv hx (by unfold hE iw; omega)))
 refine rP 6 [0,1] (mc 2 U (mc 15 U mn)) ?_
 refine cp (t:=119) U (aT fun A2=>?_) (aU fun A2=>?_)
 ·refine bD 7 U<|RK L<|bR U<|WK p<|ak fun _ u=>WS fun _ Fd=>eQ 2 [0,1] (mc 4 U (mc 2 U mn)) U<|rS (CL (zW l kA kC az cA cC bA bC x hin asm I) (bu [5,6,7,8]) U)<|AL U dV fun Sz=>fG U cZ U<|RK Fd<|WS fun _ Fn=>rP 5 [] (mc 0 U mn) ?_
  refine RK Fn<|bW U (aT fun D=>?_) (aU fun D=>?_)
  ·refine WK u<|au<|rP 1 [] (mc 3 U mn) ?_
   refine ir (vs:=(aG.cells x)) (cs':=(aG.cells x)) (C':=[_,_,_,_,_,_,_,_,_,_,_,_,_,_,_,_,(cu V 78 (aG.cells x)),_]) 16 U U U uN U U U U U U U<|aF<|aN<|KK AA ?_
   have K5:(aG.cells x)=(aG.cells (kJ r.aa (i+1))):=by rw [j7 hx]
   rw [K5]
   refine au<|rP 2 [] mn ?_
   refine aF ?_
   rw [show (cM l r.aa i)=(cM l r.aa (i+1)) from (pZ hx D).symm]
   have K8:(vI (((i+1):Nat):Int))=(vI ((i:Int)+1)):=by exact cI I
   refine bg (T ⟨(i+1),⟨I,js A hx (by unfold hE iw; omega)⟩⟩ _ _ _ U os (cG 9<|bf U K8<|dh.nil _) (aQ [4,5,6,7,8,9,10,11,12,13,14,15,16,17]))
  obtain ⟨mb,Z⟩:=aL (cM l r.aa i) ((x.fE).toNat) I
  obtain ⟨ga,M⟩:=aL fb ((x.fE).toNat) I
  refine zf 17 Z M U U U ?_
  try dsimp only
  refine dp ct 10 kr<|kX 1 U<|dS (SX (cR U U) U U)<|dP 4 [0,1] (mc 16 U (mc 5 U mn)) ?_
  have LE:(List.map oC (dB fb l.ab.length))[(x.fE).toNat]? =some (oC (some ga)):=qk (mP M)
  refine dS (IA ((x.fE).toNat) U (aC (n:=l.ab.length) 17 U sq) xI dc I I) ?_
  refine dS (g6 ((x.fE).toNat) 0 (Value.map (some ga)) U cj (aC (n:=(dB fb l.ab.length).length) 17 U sm) LE U dc U)<|lU 2 [] (mc 2 U mn) U<|cK<|iX (kV:=iV) (x:=(i:Int)) (C':=[(j1 iV ga (cS jW (ed mb (i:Int) (cP l x)))),_,_,_,_,_,_,_,_,_,_,_,_,_,_,_,_,_,_]) 0 U U U U sO (ig si) U (gp _ _ _ _).symm U<|RK u<|au<|rP 1 [] (mc 5 U mn) ?_
  refine ir (vs:=(aG.cells x)) (cs':=(aG.cells x)) (C':=[_,_,_,_,_,_,_,_,_,_,_,_,_,_,_,_,_,_,(cu V 78 (aG.cells x))]) 18 U U U uN U U U U U U U<|aF<|aN<|KK AA ?_
  have K0:(aG.cells x)=(aG.cells (kJ r.aa (i+1))):=by rw [j7 hx]
  rw [K0]
  refine au<|rP 2 [] mn ?_
  refine aF ?_
  refine zN (f:=qf) (ms:=(cM l r.aa i)) (m:=(ed mb (i:Int) (cP l x))) 1 0 (by rw [gN]; omega) M U U U ?_
  rw [sf hx I D Z]
  have K4:(vI (((i+1):Nat):Int))=(vI ((i:Int)+1)):=by exact cI I
  refine bg (T ⟨(i+1),⟨I,js A hx (by unfold hE iw; omega)⟩⟩ _ _ _ U os (cG 9<|bf U K4<|dh.nil _) (aQ [5,6,7,8,9,10,11,12,13,14,15,16,17,0]))
 refine rP 7 [0,1] (mc 2 U (mc 15 U mn)) ?_
 refine RK L<|cx U (aU fun A3=>?_) (aT fun A3=>?_)
 ·refine WS fun _ Eq=>rP 2 [] mn ?_
  refine RK Eq<|aq<|LX hQ (false,51,0,none,0,none,0,[],[],[],none,0,[],[],none,0) [] [] mn U (by rfl) U U ?_
  exact wh<|nW (df (me:=me) C (kv hx (by unfold hE iw; omega)))
 refine WK p<|ak fun _ s=>WS fun _ FS=>eQ 2 [0,1] (mc 4 U (mc 2 U mn)) U<|rS (CL (zW l kA kC az cA cC bA bC x hin asm I) (bu [5,6,7,8]) U)<|AL U dV fun ST=>fG U cZ U<|RK FS<|WS fun _ FV=>rP 5 [] (mc 0 U mn) ?_
 refine RK FV<|bW U (aT fun D=>?_) (aU fun D=>?_)
 ·refine WK s<|au<|rP 1 [] (mc 3 U mn) ?_
  refine ir (vs:=(aG.cells x)) (cs':=(aG.cells x)) (C':=[_,_,_,_,_,_,_,_,_,_,_,_,_,_,_,_,(cu V 78 (aG.cells x)),_]) 16 U U U uN U U U U U U U<|aF<|aN<|KK AA ?_
  have J9:(aG.cells x)=(aG.cells (kJ r.aa (i+1))):=by rw [j7 hx]
  rw [J9]
  refine au<|rP 2 [] mn ?_
  refine aF ?_
  rw [show (cM l r.aa i)=(cM l r.aa (i+1)) from (pZ hx D).symm]
  have Km:(vI (((i+1):Nat):Int))=(vI ((i:Int)+1)):=by exact cI I
  refine bg (T ⟨(i+1),⟨I,js A hx (by unfold hE iw; omega)⟩⟩ _ _ _ U os (cG 9<|bf U Km<|dh.nil _) (aQ [4,5,6,7,8,9,10,11,12,13,14,15,16,17]))
 obtain ⟨mb,Z⟩:=aL (cM l r.aa i) ((x.fE).toNat) I
 obtain ⟨ga,M⟩:=aL fb ((x.fE).toNat) I
 refine zf 17 Z M U U U ?_
 try dsimp only
 refine dp ct 10 kr<|kX 1 U<|dS (SX (cR U U) U U)<|dP 4 [0,1] (mc 16 U (mc 5 U mn)) ?_
 have LA:(List.map oC (dB fb l.ab.length))[(x.fE).toNat]? =some (oC (some ga)):=qk (mP M)
 refine dS (IA ((x.fE).toNat) U (aC (n:=l.ab.length) 17 U sq) xI dc I I) ?_
 refine dS (g6 ((x.fE).toNat) 0 (Value.map (some ga)) U cj (aC (n:=(dB fb l.ab.length).length) 17 U sm) LA U dc U)<|lU 2 [] (mc 2 U mn) U<|cK<|iX (kV:=iV) (x:=(i:Int)) (C':=[(j1 iV ga (cS jW (ed mb (i:Int) (cP l x)))),_,_,_,_,_,_,_,_,_,_,_,_,_,_,_,_,_,_]) 0 U U U U sO (ig si) U (gp _ _ _ _).symm U<|RK s<|au<|rP 1 [] (mc 5 U mn) ?_
 refine ir (vs:=(aG.cells x)) (cs':=(aG.cells x)) (C':=[_,_,_,_,_,_,_,_,_,_,_,_,_,_,_,_,_,_,(cu V 78 (aG.cells x))]) 18 U U U uN U U U U U U U<|aF<|aN<|KK AA ?_
 have J7:(aG.cells x)=(aG.cells (kJ r.aa (i+1))):=by rw [j7 hx]
 rw [J7]
 refine au<|rP 2 [] mn ?_
 refine aF ?_
 refine zN (f:=qf) (ms:=(cM l r.aa i)) (m:=(ed mb (i:Int) (cP l x))) 1 0 (by rw [gN]; omega) M U U U ?_
 rw [sf hx I D Z]
 have J8:(vI (((i+1):Nat):Int))=(vI ((i:Int)+1)):=by exact cI I
 refine bg (T ⟨(i+1),⟨I,js A hx (by unfold hE iw; omega)⟩⟩ _ _ _ U os (cG 9<|bf U J8<|dh.nil _) (aQ [5,6,7,8,9,10,11,12,13,14,15,16,17,0]))
end
section
open Go.RowKit
theorem wU (l:bk) (kA:OA) (kC:Nat) (az:List RA) (cA:OA) (cC:Nat) (bA:OA) (bC:Nat) (r:cw) (sgA:OA) (sgC:Nat) (bq_:Int) (hin:eg l az) (hsl:r.aa.length≤1000000):
 dG Tryz.prog 22 [(vA (cv.cells (jN l kA kC cA cC bA bC))),(vA (cz.cells (jk r sgA sgC))),(vI bq_)] [(rd kA l.aV.length 9 (l.aV.map ao.cells)),(rd cA l.aj.length 2 (List.zipWith aw.cells l.aj az)),(dR (bj aw.f_ l.aj az)),(rd bA l.ab.length 4 (l.ab.map bJ.cells)),(rd sgA r.aa.length 2 (r.aa.map aG.cells))] (vT [(vA (ag.cells (cY l r bq_))),(vI (de l r bq_))]):=by
 have J5:=hin.sJ
 have If:=hin.sL
 have IC:=hin.og
 have IR:=hin.sH
 have J3:=hin.side
 refine bG kr Tryz.func22 U U fun w0 Q hQ hN=>?_
 try dsimp only
 refine WS fun _ A0=>eI U fun b2=>eI U fun b3=>wJ U U fun b4=>AL U dV fun b5=>bD 1 U<|RK A0<|WS fun _ p=>rP 2 [0,1] (mc 3 U (mc 2 U mn)) ?_
 refine rS (FU U)<|ej (xs:=[.tmp 17]) (cs:=[(Value.func (.func 43) [].toArray [(vP b2),(vP b4)].toArray)]) U OJ So U U U U (by simp [Value.cells]) U U fun b7=>cX (MC l kA kC az cA cC bA bC r sgA sgC (Value.func (.func 43) [].toArray [(vP b2),(vP b4)].toArray) (dR [(rd kA l.aV.length 9 (l.aV.map ao.cells)),(rd cA l.aj.length 2 (List.zipWith aw.cells l.aj az)),(dR (bj aw.f_ l.aj az)),(rd bA l.ab.length 4 (l.ab.map bJ.cells)),(cu b2 28 (cv.cells (jN l kA kC cA cC bA bC))),(cu b4 3 [(vI bq_)])]) (iP l bq_) b7 (by exact lh (fi:=[]) (ca:=[(vP b2),(vP b4)]) (jS (D7 l kA kC az cA cC bA bC b2 bq_ b4 (by first|assumption|omega)) (bu [0,1,2,3,4,5]))) hin hsl) (mT [5,6,7,8,9]<|aK (jX (bu [5,6,7,8,4,2]))<|gY 0 U U<|aO) U fun y8 Cx=>?_
 obtain ⟨C0,GT,E,H,AB,g,j,m,B,L,J,K,A,G,d,f⟩:=y8
 cases C0
 ·obtain ⟨B9,he⟩:=Cx.2 rfl
  try dsimp only at B9 he
  subst B9
  try dsimp only [cond_true,cond_false,List.cons_append,List.nil_append]
  refine bD 5 U<|RK p<|ak fun _ Go=>WS fun _ A8=>rP 2 [] mn ?_
  refine RK A8<|bW U (br fun A7=>?_) (bq fun A7=>?_)
  ·exact absurd A7 he
  refine WS fun _ A9=>rS (SX (bp (xs:=[]) (cs:=(ag.cells (ag.mk 0 0))) U U (bo gX U)) U U)<|bD 1 U<|qO U cZ U<|rP 1 [] mn ?_
  refine RK A9<|aq<|mV hQ [0] (mc 1 U mn) U ?_
  (have e:=l_ (b:=bq_) he; rw [e.1,e.2]<;>rfl)
 obtain ⟨he,D,C,DS,C3,EQ⟩:=Cx.1 rfl
 try dsimp only [cond_true,cond_false,List.cons_append,List.nil_append]
 dsimp only at D C DS C3 EQ
 obtain ⟨C2,A4,Do,Jf⟩:=gM he
 obtain ⟨Eq,Ck⟩:=dM C2
 have Di:=Ck.head
 unfold eW at Di
 have FS:=lD Eq Ck A4
 have J2:=A4.time
 have Jx:=A4.len
 have Ci:(cm l l.ab.length).length=l.ab.length:=cU
 have Cp:(cM l r.aa r.aa.length).length=l.ab.length:=gN
 have In:B.length=l.ab.length+1:=by have:=D.len; rw [show (bU l r).n=l.ab.length from cU] at this; exact this
 have Id:A.length=l.ab.length+1:=by have:=C.len; rw [show (bU l r).n=l.ab.length from cU] at this; exact this
 obtain ⟨IL,IO⟩:=Dg Do
 obtain ⟨b,A1⟩: ∃ b:Nat,bq_=(b:Int):=⟨bq_.toNat,I⟩
 rw [A1]
 refine bD 5 U<|RK p<|ak fun _ N=>WS fun _ O=>bD 1 U<|rS (SX (gl (r:= .bool false) U U U qh) U U)<|RK O<|bR U<|WK N<|WS fun _ P=>rS (SX (bp (xs:=[(0,.const (vI 1))]) (cs:=(ag.cells (ag.mk 1 0))) U U (bo gX U)) U U)<|AL U dV fun A5=>fG U cZ U<|RK P<|WS fun _ R=>eQ 1 [] (mc 0 U mn) U<|AL U dV fun A6=>fG U cZ U<|RK R<|ak fun _ T=>WS fun _ AA=>rP 2 [] (mc 12 U mn) ?_
 obtain ⟨mf,Y⟩:=aL B b I
 obtain ⟨mb,Z⟩:=aL A (b+1) I
 refine cX (H8 E b) (aO) U fun Fd Hh=>?_
 obtain ⟨AC,AD⟩:=Fd
 try dsimp only
 refine RK AA<|aH ?_
 refine uH (L0:=[(3,(vP b2)),(4,(vP b3)),(5,(vP b4)),(6,(vP b5)),(7,(vI 0)),(10,(vP A5)),(11,(vP A6))]) (F:=[(own H AB 3 1 ((cm l l.ab.length).map iC)),(own g j 153 1 (List.zipWith gD (cM l r.aa r.aa.length) m)),(bQ (bj qf (cM l r.aa r.aa.length) m)),(own J K 156 1 (List.zipWith gD B L)),(bQ (bj m6 B L)),(own d f 156 1 (List.zipWith gD A G)),(bQ (bj m6 A G)),(cu E 150 (cb.cells (cb.mk (jN l kA kC cA cC bA bC) (jk r sgA sgC) (bH.mk H ((cm l l.ab.length).length) AB) (bH.mk g ((cM l r.aa r.aa.length).length) j) (bH.mk J B.length K) (bH.mk d A.length f)))),(cu AC 108 [(vP E)]),(cu AD 3 [(vI (b:Int))])]) (fun k (y:ag)=>(kE k y)∧(∀ q∈k,q∈qq (bU l r) b mf mb)) (fun k y=>[(cu A6 53 (ag.cells y)),(cu A5 53 (ag.cells (ag.mk 1 0))),(cu b5 53 (ag.cells (ag.mk 0 0))),(cu b4 3 [(vI (b:Int))]),(cu b3 56 (cz.cells (jk r sgA sgC))),(cu b2 28 (cv.cells (jN l kA kC cA cC bA bC))),(rd kA l.aV.length 9 (l.aV.map ao.cells)).ro,(rd cA l.aj.length 2 (List.zipWith aw.cells l.aj az)).ro,(dR (bj aw.f_ l.aj az)).ro,(rd bA l.ab.length 4 (l.ab.map bJ.cells)).ro,(rd sgA r.aa.length 2 (r.aa.map aG.cells)).ro]) (fun _ (_:Unit)=>False) (fun _ _=>[]) [2,3,13,14,15,16,17,18,19,20,21] [5,6,7,8,9,10,11,4,0,1] lH rfl rfl (Gm (jN l kA kC cA cC bA bC) (jk r sgA sgC) (cm l l.ab.length) (cM l r.aa r.aa.length) H AB m g j B A L J K G d f E b AC AD mf mb (by rw [Ci]; omega) (by exact FS) (by rw [Cp]; omega) (by exact D) I (by exact C) I (by show r.aa.length≤1000; omega) (by exact Y) (by exact Z)) rfl rfl rfl (by exact ⟨Bd,fun q hq=>by cases hq⟩) (by simp only [List.forall_mem_cons,List.not_mem_nil,false_imp_iff,implies_true,and_true]; exact ⟨⟨_,aR (i:=0) rfl,(jq sm)⟩,⟨_,aR (i:=1) rfl,(jq (by rw [List.length_zipWith]; omega))⟩,⟨_,aR (i:=2) rfl,qI⟩,⟨_,aR (i:=3) rfl,(jq (by rw [List.length_zipWith]; omega))⟩,⟨_,aR (i:=4) rfl,qI⟩,⟨_,aR (i:=5) rfl,(jq (by rw [List.length_zipWith]; omega))⟩,⟨_,aR (i:=6) rfl,qI⟩,⟨_,aR (i:=7) rfl,(bX _)⟩,⟨_,aR (i:=8) rfl,(bX _)⟩,⟨_,aR (i:=9) rfl,(bX _)⟩⟩) (by rintro k x k2 ⟨o,_,rfl,_⟩; rfl) rfl (bB rfl) ?_ ?_ (fun _ _ _ h=>h.elim) (fun _ _ h=>h.elim)
 ·rintro k x k2 h lr ra rb S w1 K41 Qr42 J4 hx A2 Bp X FV Fn
  obtain ⟨q,hq,rfl,rfl⟩:=hx
  obtain ⟨a,c⟩:=A2
  try dsimp only
  refine au<|AL U dV fun H1=>fG U cZ U<|aF<|jl (fun _ _ h=>h) (aQ [1,0,2,3,4,5,6,7,8,9,10,11,12])<|bg (Bp _ _ ?_)
  refine aH<|ak fun _ s=>WS fun _ B3=>rP 2 [0,1] (mc 2 U (mc 3 U mn)) ?_
  refine rS (BI U (Tp _ _ h (ag.mk 1 0)))<|RK B3<|bW U (br fun M=>?_) (bq fun M=>?_)
  ·refine WK s<|au<|rP 1 [] (mc 1 U mn) ?_
   refine Ha U cZ U<|aF<|aN ?_
   exact X q.2 _ _ (by refine ⟨yN a (jD hq) ?_,fun z hz=>?_⟩; (first|exact if_neg M|exact if_pos M); (rcases gJ.1 hz with hz|hz; exact c z hz; (rw [cq.1 hz]; exact hq))) (aQ [0,2,3,4,5,6,7,8,9,10,11,12])
  refine au<|eQ 4 [0,1] (mc 1 U (mc 2 U mn)) U<|rS (MN U)<|eQ 4 [0,1] (mc 1 U (mc 2 U mn)) U<|rS (MX U)<|rS (SX (bp (xs:=[(0,.tmp 40),(1,.tmp 45)]) (cs:=(ag.cells (ag.mk (min q.2.Lo h.Lo) (max q.2.Hi h.Hi)))) U U (bo gX U)) U U)<|qO U cZ U<|RK s<|au<|rP 1 [] (mc 1 U mn) ?_
  refine Ha U cZ U<|aF<|aN ?_
  exact X (ag.mk (min q.2.Lo h.Lo) (max q.2.Hi h.Hi)) _ _ (by refine ⟨yN a (jD hq) ?_,fun z hz=>?_⟩; (first|exact if_neg M|exact if_pos M); (rcases gJ.1 hz with hz|hz; exact c z hz; (rw [cq.1 hz]; exact hq))) (aQ [0,2,3,4,5,6,7,8,9,10,11,12])
 rintro J7 k h v A3
 obtain ⟨a,c⟩:=A3
 try dsimp only
 refine aN<|KK T<|ak fun _ V=>WS fun _ W=>rP 2 [0,1] (mc 11 U (mc 12 U mn)) ?_
 refine rS (BI U (x3 _ _ h (ag.mk 1 0)))<|RK W<|bW U (aT fun Ay=>?_) (aU fun Ay=>?_)
 ·refine WK V<|WS fun _ u=>eQ 1 [] (mc 11 U mn) U<|ir (vs:=(ag.cells h)) (cs':=(ag.cells h)) (C':=[_,_,_,_,_,_,_,_,_,_,_,_,_,(cu b5 53 (ag.cells h)),_,_,_,_,_,_,_,_]) 13 U U U cZ U U U U U U U<|rP 1 [] mn ?_
  refine RK u<|aq<|hQ _ _ _ (rn 0 U U<|jV (vs:=[(vA (ag.cells h)),(vI 0)]) ⟨⟨_,U,.inl ⟨_,_,cj,qc (vs:=(ag.cells h)) 13 U U,U,U⟩⟩,U,trivial⟩ fun w hs=>By ?_ hs)
  show (vT [(vA (ag.cells h)),(vI 0)])=(vT [(vA (ag.cells (cY l r bq_))),(vI (de l r bq_))])
  clear hs w hQ hN u W V AA T R P O N p A0
  (rw [A1] at he ⊢; have hh:h=kh l r b:=zq (D.min _ _ Y) (C.max _ _ Z) (D.keys _ _ Y) (C.keys _ _ Z) c v a; (have e:=ou he (fun q=>Ay (hh.trans q)); rw [e.1,e.2,hh]<;>rfl))
 refine WS fun _ t=>rS (SX (bp (xs:=[]) (cs:=(ag.cells (ag.mk 0 0))) U U (bo gX U)) U U)<|ir (vs:=(ag.cells (ag.mk 0 0))) (cs':=(ag.cells (ag.mk 0 0))) (C':=[_,_,_,_,_,_,_,_,_,_,_,_,_,(cu b5 53 (ag.cells (ag.mk 0 0))),_,_,_,_,_,_,_,_]) 13 U U U cZ U U U U U U U<|rP 1 [] mn ?_
 refine RK t<|aq<|hQ _ _ _ (rn 0 U U<|jV (vs:=[(vA (ag.cells (ag.mk 0 0))),(vI 6)]) ⟨⟨_,U,.inl ⟨_,_,cj,qc (vs:=(ag.cells (ag.mk 0 0))) 13 U U,U,U⟩⟩,U,trivial⟩ fun w hs=>By ?_ hs)
 show (vT [(vA (ag.cells (ag.mk 0 0))),(vI 6)])=(vT [(vA (ag.cells (cY l r bq_))),(vI (de l r bq_))])
 clear hs w hQ hN t W V AA T R P O N p A0
 (rw [A1] at he ⊢; have hh:h=kh l r b:=zq (D.min _ _ Y) (C.max _ _ Z) (D.keys _ _ Y) (C.keys _ _ Z) c v a; (have e:=qU he (hh.symm.trans Ay); rw [e.1,e.2]<;>rfl))
theorem S9 (l:bk) (kA:OA) (kC:Nat) (az:List RA) (cA:OA) (cC:Nat) (bA:OA) (bC:Nat) (r:cw) (sgA:OA) (sgC:Nat) (hin:eg l az) (hsl:r.aa.length≤1000000):
 dG Tryz.prog 213 [(vA (cv.cells (jN l kA kC cA cC bA bC))),(vA (cz.cells (jk r sgA sgC)))] [(rd kA l.aV.length 9 (l.aV.map ao.cells)),(rd cA l.aj.length 2 (List.zipWith aw.cells l.aj az)),(dR (bj aw.f_ l.aj az)),(rd bA l.ab.length 4 (l.ab.map bJ.cells)),(rd sgA r.aa.length 2 (r.aa.map aG.cells))] (vT [(vA (ag.cells (Aw l r))),(vI (de l r l.bS))]):=by
 have N:=hin.sJ
 have J:=hin.sL
 have H:=hin.og
 have AA:=hin.sH
 have M:=hin.side
 refine bG kr Tryz.func213 U U fun T Q hQ hN=>?_
 try dsimp only
 refine WS fun _ C=>eI U fun O=>eI U fun P=>AL U dV fun R=>bD 1 U<|RK C<|WS fun _ D=>eQ 4 [0,1] (mc 2 U (mc 1 U mn)) U<|rS (CL (wU l kA kC az cA cC bA bC r sgA sgC l.bS hin hsl) (bu [3,4,5,6,7]) U)<|bD 3 U<|AL U dV fun S=>fG U cZ U<|bD 1 U<|RK D<|ak fun _ E=>WS fun _ F=>rP 2 [] mn ?_
 refine RK F<|cx U (bq fun A=>?_) (br fun A=>?_)
 ·refine WS fun _ G=>rS (SX (bp (xs:=[]) (cs:=(ag.cells (ag.mk 0 0))) U U (bo gX U)) U U)<|bD 1 U<|qO U cZ U<|rP 1 [] mn ?_
  refine RK G<|aq<|mV hQ [0] (mc 1 U mn) U ?_
  (rw [Ds A]<;>rfl)
 refine WK E<|WS fun _ B=>rP 4 [0,1] (mc 0 U (mc 2 U mn)) ?_
 have K:=qL A
 have L:=(vC A).time
 refine eQ 6 [0,1] (mc 0 U (mc 2 U mn)) U<|rS (SX (bp (xs:=[(0,.tmp 24),(1,.tmp 29)]) (cs:=(ag.cells (ag.mk (((cY l r l.bS).Lo)-r.Start) (((cY l r l.bS).Hi)-r.Start)))) U U (bo gX U)) U U)<|qO U cZ U<|rP 1 [] mn ?_
 refine RK B<|aq<|mV hQ [0] (mc 1 U mn) U ?_
 (rw [zI A,A]<;>rfl)
end
section
open Go.RowKit
theorem Ls (n lo hi:Int) (g1 g2:Nat):
 dG Tryz.prog 54 [(vI n),(vP g1),(vP g2)] [(cu g1 3 [(vI lo)]),(cu g2 3 [(vI hi)])] (vB (decide (n<lo∨hi<n))):=by
 refine bG kr Tryz.func54 U U fun D Q hQ hN=>?_
 try dsimp only
 refine WS fun _ B=>bD 1 U<|RK B<|WS fun _ A=>rP 4 [] (mr 0 U mn) ?_
 refine b_ (t:=8) U (aU fun C=>?_) (aT fun C=>?_)
 ·refine rP 5 [] mn ?_
  refine RK A<|aq<|Q1 hQ U U U ?_
  exact cB (dx I).symm
 refine rP 5 [] (mr 1 U mn) ?_
 refine RK A<|aq<|Q1 hQ U U U ?_
 exact cB (gR.2 I)
theorem im (lo hi:Int) (l:List Int) (lA:OA) (lC:Nat) (hlen:l.length≤1000000):
 dG Tryz.prog 33 [(vI lo),(vI hi),(vS lA l.length lC)] [(rd lA l.length 1 (l.map iC))] (vB (qi lo hi l)):=by
 refine bG kr Tryz.func33 U U fun F Q hQ hN=>?_
 try dsimp only
 refine WS fun _ D=>wJ U U fun A=>wJ U U fun B=>bD 1 U<|RK D<|WS fun _ E=>rP 1 [] mn ?_
 refine rS (FU U) ?_
 refine rS (CL (p_ l lA lC (Value.func (.func 54) [].toArray [(vP A),(vP B)].toArray) (fun C=>(decide (C<lo∨hi<C))) (dR [(cu A 3 [(vI lo)]),(cu B 3 [(vI hi)])]) (by intro C _; exact lh (fi:=[]) (ca:=[(vP A),(vP B)]) (jS (Ls C lo hi A B) (bu [0,1]))) hlen) (gY 2 U U<|aK (jX (bu [1,0]))<|aO) U) ?_
 refine rP 2 [] mn ?_
 refine RK E<|aq ?_
 exact Q1 hQ U U U U
theorem uj (o fx:Bool) (tm:ag) (rv:cz):
 dG Tryz.prog 55 [(vA (aP.cells (aP.mk o fx tm rv)))] [] (vB (decide (o=false∧fx=false))):=by
 refine bG kr Tryz.func55 U U fun E Q hQ hN=>?_
 try dsimp only
 refine WS fun _ B=>eI U fun D=>bD 1 U<|RK B<|WS fun _ A=>rP 4 [] (mc 0 U mn) ?_
 refine cp (t:=6) U (fun C=>?_) (fun C=>?_)
 ·rw [Bool.not_eq_false'] at C
  refine rP 5 [] mn ?_
  refine RK A<|aq<|Q1 hQ U U U ?_
  clear hQ hN A B
  refine cB ?_
  (simp_all; done)
 rw [Bool.not_eq_true'] at C
 refine rP 5 [] (mc 0 U mn) ?_
 refine RK A<|aq<|Q1 hQ U U U ?_
 clear hQ hN A B
 refine cB ?_
 (simp_all; done)
theorem LI (l:List aM) (lA:OA) (lC:Nat) (f:Value) (p:Int→aM→Bool) (X:ax) (hf: ∀ x0 x1,(∃ i_:Nat,x0=(i_:Int)∧l[i_]? =some x1)→DY Tryz.prog f [.int .i64 x0,.agg (aM.cells x1).toArray] [X] (.bool (p x0 x1))) (hlen:l.length≤1000000):
 pG Tryz.prog 80 [(vS lA l.length lC),f] [(rd lA l.length 4 (l.map aM.cells)),X] (fun (x:(OA)×Nat)=>(vS x.1 ((jn (h_ l p) l.length).length) x.2)) (fun (x:(OA)×Nat)=>True) (fun (x:(OA)×Nat)=>[(own x.1 x.2 3 1 ((jn (h_ l p) l.length).map iC))]):=by
 refine e_ kr Tryz.func80 U U fun Z Q hQ hN=>?_
 try dsimp only
 refine WS fun _ M=>bD 1 U<|RK M<|WS fun _ N=>bD 1 U<|RK N<|ak fun _ O=>WS fun _ R=>rP 3 [] mn ?_
 refine RK R<|aH<|eM 3 1 ?_
 have A:(0≤l.length):=by exact Nat.zero_le _
 refine bY (ι:={z:Nat×(OA)×Nat // (z.1≤l.length)}) [1,8,9] [1,2] U U (fun z=>[(5,(vS z.1.2.1 ((jn (h_ l p) z.1.1).length) z.1.2.2)),(10,(vI (z.1.1:Int)))]) (fun z=>[(own z.1.2.1 z.1.2.2 3 1 ((jn (h_ l p) z.1.1).map iC))]) (fun _=>rfl) (fun _=>rfl) (fun z=>l.length-z.1.1) ⟨(0,none,0),A⟩ (bB U) (aQ [1,2,0]) ?_
 clear A
 rintro ⟨⟨i,a,c⟩,C⟩ J5 D
 try dsimp only at C
 try dsimp only
 refine WS fun _ S=>rP 1 [] mn ?_
 refine RK S<|ak fun _ T=>bW U (aT fun Y=>?_) (aU fun Y=>?_)
 ·refine bP<|ai<|ai<|aJ<|KK O<|WS fun _ G=>?_
  rw [show (jn (h_ l p) i)=(jn (h_ l p) l.length) from by rw [show i=l.length by omega]]
  refine rP 2 [] mn ?_
  refine RK G<|aq<|LX hQ (a,c) [2] [] mn U U U U ?_
  trivial
 refine WK T<|ak fun _ H=>aH<|WS fun _ E=>rP 1 [] mn ?_
 obtain ⟨x,hx⟩:=aL l i I
 have AA:=bM aM.cells hx
 refine rS (IA i U (aA 0 U) wi dc I I)<|rS (lx i 0 (aM.cells x) U cj (aA 0 U) AA U dc U U)<|AL U NY fun V=>bD 1 U<|fG U Pj U<|RK E<|WS fun _ F=>rP 3 [] (mc 0 U mn) ?_
 refine rS (SX (qa U U U (hf (i:Int) x ⟨_,U,hx⟩) (bu [2])) U U)<|RK F<|bW U (fun B=>?_) (fun B=>?_)
 ·refine cf<|aN<|KK H<|au<|rP 2 [] mn ?_
  refine aF ?_
  rw [show jn (h_ l p) i=jn (h_ l p) (i+1) from (pt (by rw [rU hx]; simpa using B)).symm]
  have J:(vI (((i+1):Nat):Int))=(vI ((i:Int)+1)):=by exact cI I
  refine bg (D ⟨((i+1),a,c),(by first|omega|(simp only []; omega))⟩ _ _ _ U os (cG 4<|bf U J<|dh.nil _) (aQ [1,2,3]))
 refine au<|rP 2 [] mn ?_
 refine ej (xs:=[.tmp 20]) (cs:=[(vI (i:Int))]) U dv kj U U U U (by simp [Value.cells]) U U fun W=>?_
 refine dJ (es2:=(List.map iC (jn (h_ l p) (i+1)))) (m':=(jn (h_ l p) (i+1)).length) 4 U U U sx U U sm (bw (es:=List.map iC [(i:Int)]) 0 U U (by simp [bL]) U) (lg _) (by have:=pX (P:=h_ l p) (n:=i); omega) (by have:=pX (P:=h_ l p) (n:=i); simp only [maxLen]; omega) (by rw [qx (by rw [rU hx]; exact B)]; simp) sm U fun K L=>?_
 try dsimp only
 refine bD 1 U<|aF<|aN<|KK H<|au<|rP 2 [] mn ?_
 refine aF ?_
 have AB:(vI (((i+1):Nat):Int))=(vI ((i:Int)+1)):=by exact cI I
 refine bg (D ⟨((i+1),K,L),(by first|omega|(simp only []; omega))⟩ _ _ _ U os (cG 4<|bf U AB<|dh.nil _) (aQ [2,3,4]))
theorem Au (l:List aX) (lA:OA) (lC:Nat) (f:Value) (p:Int→aX→Bool) (X:ax) (hf: ∀ x0 x1,(∃ i_:Nat,x0=(i_:Int)∧l[i_]? =some x1)→DY Tryz.prog f [.int .i64 x0,.agg (aX.cells x1).toArray] [X] (.bool (p x0 x1))) (hlen:l.length≤1000000):
 pG Tryz.prog 30 [(vS lA l.length lC),f] [(rd lA l.length 5 (l.map aX.cells)),X] (fun (x:(OA)×Nat)=>(vS x.1 ((jn (h_ l p) l.length).length) x.2)) (fun (x:(OA)×Nat)=>True) (fun (x:(OA)×Nat)=>[(own x.1 x.2 3 1 ((jn (h_ l p) l.length).map iC))]):=by
 refine e_ kr Tryz.func30 U U fun Z Q hQ hN=>?_
 try dsimp only
 refine WS fun _ M=>bD 1 U<|RK M<|WS fun _ N=>bD 1 U<|RK N<|ak fun _ O=>WS fun _ R=>rP 3 [] mn ?_
 refine RK R<|aH<|eM 3 1 ?_
 have A:(0≤l.length):=by exact Nat.zero_le _
 refine bY (ι:={z:Nat×(OA)×Nat // (z.1≤l.length)}) [1,8,9] [1,2] U U (fun z=>[(5,(vS z.1.2.1 ((jn (h_ l p) z.1.1).length) z.1.2.2)),(10,(vI (z.1.1:Int)))]) (fun z=>[(own z.1.2.1 z.1.2.2 3 1 ((jn (h_ l p) z.1.1).map iC))]) (fun _=>rfl) (fun _=>rfl) (fun z=>l.length-z.1.1) ⟨(0,none,0),A⟩ (bB U) (aQ [1,2,0]) ?_
 clear A
 rintro ⟨⟨i,a,c⟩,C⟩ J5 D
 try dsimp only at C
 try dsimp only
 refine WS fun _ S=>rP 1 [] mn ?_
 refine RK S<|ak fun _ T=>bW U (aT fun Y=>?_) (aU fun Y=>?_)
 ·refine bP<|ai<|ai<|aJ<|KK O<|WS fun _ G=>?_
  rw [show (jn (h_ l p) i)=(jn (h_ l p) l.length) from by rw [show i=l.length by omega]]
  refine rP 2 [] mn ?_
  refine RK G<|aq<|LX hQ (a,c) [2] [] mn U U U U ?_
  trivial
 refine WK T<|ak fun _ H=>aH<|WS fun _ E=>rP 1 [] mn ?_
 obtain ⟨x,hx⟩:=aL l i I
 have AA:=bM aX.cells hx
 refine rS (IA i U (aA 0 U) Bq dc I I)<|rS (lx i 0 (aX.cells x) U cj (aA 0 U) AA U dc U U)<|AL U Mp fun V=>bD 1 U<|fG U QF U<|RK E<|WS fun _ F=>rP 3 [] (mc 0 U mn) ?_
 refine rS (SX (qa U U U (hf (i:Int) x ⟨_,U,hx⟩) (bu [2])) U U)<|RK F<|bW U (fun B=>?_) (fun B=>?_)
 ·refine cf<|aN<|KK H<|au<|rP 2 [] mn ?_
  refine aF ?_
  rw [show jn (h_ l p) i=jn (h_ l p) (i+1) from (pt (by rw [rU hx]; simpa using B)).symm]
  have J:(vI (((i+1):Nat):Int))=(vI ((i:Int)+1)):=by exact cI I
  refine bg (D ⟨((i+1),a,c),(by first|omega|(simp only []; omega))⟩ _ _ _ U os (cG 4<|bf U J<|dh.nil _) (aQ [1,2,3]))
 refine au<|rP 2 [] mn ?_
 refine ej (xs:=[.tmp 20]) (cs:=[(vI (i:Int))]) U dv kj U U U U (by simp [Value.cells]) U U fun W=>?_
 refine dJ (es2:=(List.map iC (jn (h_ l p) (i+1)))) (m':=(jn (h_ l p) (i+1)).length) 4 U U U sx U U sm (bw (es:=List.map iC [(i:Int)]) 0 U U (by simp [bL]) U) (lg _) (by have:=pX (P:=h_ l p) (n:=i); omega) (by have:=pX (P:=h_ l p) (n:=i); simp only [maxLen]; omega) (by rw [qx (by rw [rU hx]; exact B)]; simp) sm U fun K L=>?_
 try dsimp only
 refine bD 1 U<|aF<|aN<|KK H<|au<|rP 2 [] mn ?_
 refine aF ?_
 have AB:(vI (((i+1):Nat):Int))=(vI ((i:Int)+1)):=by exact cI I
 refine bg (D ⟨((i+1),K,L),(by first|omega|(simp only []; omega))⟩ _ _ _ U os (cG 4<|bf U AB<|dh.nil _) (aQ [2,3,4]))
end
section
open Go.RowKit
variable {E:fg} {ops:Array Oper} {D:List Deferred} {L:List (Nat×Value)} {C:List ax}
variable {dst:Option Tmp} {ty:TypeId} {ps:String} {af:Array Edge} {g:Option (Nat×Bool)}
theorem vu {x ix:Operand} {t e len sz:Nat} {cs vs:List Value} {j:Int} {kd:IntKind} (m:Nat) (hg:j0 ops L g=true) (hx:ev L x=some (.agg cs.toArray)) (hi:ev L ix=some (.int kd j)) (ht:tX E.P t=some (len,e)) (hk:tK E.P e=some (true,sz)) (hj:j=(m:Int)) (hm:m<len) (hv:(cs.drop (m*sz)).take sz=vs):
 SD E ops ⟨dst,.index t x ix,ty,ps,af,g⟩ D L C (.agg vs.toArray):=
 eA hg sm fun a w A _=>by
  have B:(0:Int)≤(m:Int)∧(m:Int)<(len:Int):=by omega
  subst hj
  simp [execOp,A.ev hx,A.ev hi,Instr.index,asIntOf,run_underlying (Is ht),B,hm,(oS hk w).2,Bc hk hv w]
end
section
open Go.RowKit
theorem Iu (i:Int) (f:aM) (j:cN) (kA:OA) (kC:Nat) (cA:OA) (cC:Nat) (bA:OA) (bC:Nat) (slA:OA) (slC:Nat) (drA:OA) (drC:Nat) (heA:OA) (heC:Nat) (faA:OA) (faC:Nat) (prA:OA) (prC g1:Nat) (hk:0≤f.Kind∧f.Kind≤255):
 dG Tryz.prog 81 [(vI i),(vA (aM.cells f)),(vP g1)] [(cu g1 36 (fz.cells (nY j kA kC cA cC bA bC slA slC drA drC heA heC faA faC prA prC)))] (vB (decide (¬ oP j.Race.ar.bS f))):=by
 refine bG kr Tryz.func81 U U fun V Q hQ hN=>?_
 try dsimp only
 refine WS fun _ N=>eI U fun AA=>bD 1 U<|RK N<|WS fun _ O=>eQ 5 [] (mr 1 U mn) U<|RK O<|ak fun _ D=>WS fun _ P=>rP 2 [] (mc 0 U mn) ?_
 refine rS (BI U lE)<|RK P<|bW U (aT fun A=>?_) (aU fun A=>?_)
 ·refine WK D<|WS fun _ B=>rP 2 [] (mc 0 U mn) ?_
  refine rS (SX (nm (m:=f.Kind) U U L_ si (mN (by first|assumption|omega))) U U)<|ej (xs:=[.tmp 16]) (cs:=[(vI f.Kind)]) U dv kj U U U U (by simp [Value.cells]) U U fun F=>?_
  refine rS (CL (dG.eq (im 1 3 ([f.Kind]) (some ⟨F,0,none⟩) 1 (by (simp; done))) cD) (aK (bw 0 U U (by simp [bL]) U)<|aO) U) ?_
  refine rP 2 [] mn ?_
  refine b_ (t:=20) U (bq fun K=>?_) (br fun K=>?_)
  ·refine rP 24 [] mn ?_
   refine RK B<|aq<|Q1 hQ U U U ?_
   (refine cB (dx ?_).symm; (rw [ur A]; omega))
  refine rP 4 [] (mc 1 U mn) ?_
  refine ej (xs:=[.tmp 22,.tmp 24]) (cs:=[(vI f.gu),(vI f.To)]) U dv kj U U U U (by simp [Value.cells]) U U fun G=>?_
  refine rS (CL (dG.eq (im 0 86400000 ([f.gu,f.To]) (some ⟨G,0,none⟩) 2 (by (simp; done))) o3) (aK (bw 0 U U (by simp [bL]) U)<|aO) U) ?_
  refine rP 3 [] mn ?_
  refine b_ (t:=29) U (bq fun L=>?_) (br fun L=>?_)
  ·refine rP 15 [] mn ?_
   refine RK B<|aq<|Q1 hQ U U U ?_
   (refine cB (dx ?_).symm; (rw [ur A]; omega))
  refine rP 7 [] (mc 2 U mn) ?_
  refine b_ (t:=36) U (aU fun M=>?_) (aT fun M=>?_)
  ·refine rP 8 [] mn ?_
   refine RK B<|aq<|Q1 hQ U U U ?_
   (refine cB (dx ?_).symm; (rw [ur A]; omega))
  refine rP 3 [] (mc 2 U mn) ?_
  refine ej (xs:=[.tmp 39]) (cs:=[(vI f.eL)]) U dv kj U U U U (by simp [Value.cells]) U U fun H=>?_
  refine rS (CL (dG.eq (im 0 j.Race.ar.bS ([f.eL]) (some ⟨H,0,none⟩) 1 (by (simp; done))) cD) (aK (bw 0 U U (by simp [bL]) U)<|aO) U) ?_
  refine rP 3 [] mn ?_
  refine RK B<|aq<|Q1 hQ U U U ?_
  (refine cB (decide_not.symm.trans (gR.2 ?_)); (rw [ur A]; omega))
 refine au<|bD 1 U<|RK D<|WS fun _ C=>rP 2 [] (mc 0 U mn) ?_
 refine rS (SX (nm (m:=f.Kind) U U L_ si (mN (by first|assumption|omega))) U U)<|ej (xs:=[.tmp 16]) (cs:=[(vI f.Kind)]) U dv kj U U U U (by simp [Value.cells]) U U fun R=>?_
 refine rS (CL (dG.eq (im 1 3 ([f.Kind]) (some ⟨R,0,none⟩) 1 (by (simp; done))) cD) (aK (bw 0 U U (by simp [bL]) U)<|aO) U) ?_
 refine rP 2 [] mn ?_
 refine b_ (t:=20) U (bq fun T=>?_) (br fun T=>?_)
 ·refine rP 24 [] mn ?_
  refine RK C<|aq<|Q1 hQ U U U ?_
  (refine cB (dx ?_).symm; (rw [uz A]; omega))
 refine rP 4 [] (mc 1 U mn) ?_
 refine ej (xs:=[.tmp 22,.tmp 24]) (cs:=[(vI f.gu),(vI f.To)]) U dv kj U U U U (by simp [Value.cells]) U U fun S=>?_
 refine rS (CL (dG.eq (im 0 86400000 ([f.gu,f.To]) (some ⟨S,0,none⟩) 2 (by (simp; done))) o3) (aK (bw 0 U U (by simp [bL]) U)<|aO) U) ?_
 refine rP 3 [] mn ?_
 refine b_ (t:=29) U (bq fun AB=>?_) (br fun AB=>?_)
 ·refine rP 15 [] mn ?_
  refine RK C<|aq<|Q1 hQ U U U ?_
  (refine cB (dx ?_).symm; (rw [uz A]; omega))
 refine rP 7 [] (mc 2 U mn) ?_
 refine b_ (t:=36) U (aU fun J=>?_) (aT fun J=>?_)
 ·refine rP 8 [] mn ?_
  refine RK C<|aq<|Q1 hQ U U U ?_
  (refine cB (dx ?_).symm; (rw [uz A]; omega))
 refine rP 3 [] (mc 2 U mn) ?_
 refine ej (xs:=[.tmp 39]) (cs:=[(vI f.eL)]) U dv kj U U U U (by simp [Value.cells]) U U fun E=>?_
 refine rS (CL (dG.eq (im 0 0 ([f.eL]) (some ⟨E,0,none⟩) 1 (by (simp; done))) cD) (aK (bw 0 U U (by simp [bL]) U)<|aO) U) ?_
 refine rP 3 [] mn ?_
 refine RK C<|aq<|Q1 hQ U U U ?_
 (refine cB (decide_not.symm.trans (gR.2 ?_)); (rw [uz A]; omega))
theorem tN (fk fw:Int) (ff ft:Int) (al ah:Int) (ae an:Bool) (bl bh:Int) (be bn:Bool):
 dG Tryz.prog 83 [(vA (aM.cells (aM.mk fk fw ff ft))),(vA (kz.cells (kz.mk (ag.mk al ah) ae an))),(vA (kz.cells (kz.mk (ag.mk bl bh) be bn)))] [] (vB (decide (ah≤ft∧ff≤bl))):=by
 refine bG kr Tryz.func83 U U fun G Q hQ hN=>?_
 try dsimp only
 refine WS fun _ B=>eI U fun D=>eI U fun E=>eI U fun F=>bD 1 U<|RK B<|WS fun _ A=>rP 7 [0,1] (mc 1 U (mc 2 U mn)) ?_
 refine cp (t:=13) U (aT fun C=>?_) (aU fun C=>?_)
 ·refine rP 8 [] mn ?_
  refine RK A<|aq<|Q1 hQ U U U ?_
  exact cB (bE I).symm
 refine rP 8 [0,1] (mc 0 U (mc 2 U mn)) ?_
 refine RK A<|aq<|Q1 hQ U U U ?_
 exact cB (gR.2 I)
theorem EJ (fk fw:Int) (ff ft:Int) (al ah:Int) (ae an:Bool) (bl bh:Int) (be bn:Bool):
 dG Tryz.prog 87 [(vA (aM.cells (aM.mk fk fw ff ft))),(vA (kz.cells (kz.mk (ag.mk al ah) ae an))),(vA (kz.cells (kz.mk (ag.mk bl bh) be bn)))] [] (vB (decide (ag.mk (max al ff) (min ah ft)=ag.mk al ah))):=by
 refine bG kr Tryz.func87 U U fun F Q hQ hN=>?_
 try dsimp only
 refine WS fun _ A=>eI U fun C=>eI U fun D=>eI U fun E=>bD 1 U<|RK A<|WS fun _ B=>eQ 5 [0,1] (mc 1 U (mc 2 U mn)) U<|rS (MX U)<|eQ 5 [0,1] (mc 1 U (mc 2 U mn)) U<|rS (MN U)<|rS (SX (bp (xs:=[(0,.tmp 12),(1,.tmp 18)]) (cs:=(ag.cells (ag.mk (max al ff) (min ah ft)))) U U (bo gX U)) U U)<|bD 1 U<|rS (LP (ag.cells (ag.mk al ah)) 1 U cj U U U)<|rS (BI U (x3 _ _ (ag.mk (max al ff) (min ah ft)) (ag.mk al ah)))<|rP 1 [] mn ?_
 refine RK B<|aq ?_
 exact Q1 hQ U U U U
theorem Sl (j:cN) (kA:OA) (kC:Nat) (cA:OA) (cC:Nat) (bA:OA) (bC:Nat) (slA:OA) (slC:Nat) (drA:OA) (drC:Nat) (heA:OA) (heC:Nat) (faA:OA) (faC:Nat) (prA:OA) (prC:Nat) (fk fw:Int) (ff ft:Int):
 dG Tryz.prog 84 [(vA (c_.cells (c_.mk (nY j kA kC cA cC bA bC slA slC drA drC heA heC faA faC prA prC)))),(vA (aM.cells (aM.mk fk fw ff ft)))] [] (vT [(vI (-1)),(vI j.Race.ar.bS)]):=by
 refine bG kr Tryz.func84 U U fun E Q hQ hN=>?_
 try dsimp only
 refine WS fun _ A=>eI U fun C=>eI U fun D=>bD 2 U<|RK A<|ak fun _ B=>dp ct 7 kr<|dP 7 [] (mc 1 U mn) ?_
 refine cK<|RK B<|aq<|Q2 hQ U U U U ?_
 rfl
theorem Rc (j:cN) (kA:OA) (kC:Nat) (cA:OA) (cC:Nat) (bA:OA) (bC:Nat) (slA:OA) (slC:Nat) (drA:OA) (drC:Nat) (heA:OA) (heC:Nat) (faA:OA) (faC:Nat) (prA:OA) (prC:Nat) (fk fw:Int) (ff ft:Int) (hw:0≤fw∧fw≤1000000):
 dG Tryz.prog 85 [(vA (c_.cells (c_.mk (nY j kA kC cA cC bA bC slA slC drA drC heA heC faA faC prA prC)))),(vA (aM.cells (aM.mk fk fw ff ft)))] [] (vT [(vI (fw-1)),(vI fw)]):=by
 refine bG kr Tryz.func85 U U fun E Q hQ hN=>?_
 try dsimp only
 refine WS fun _ A=>eI U fun C=>eI U fun D=>rP 2 [] mn ?_
 refine RK A<|ak fun _ B=>dp ct 7 kr ?_
 try dsimp only
 refine dP 7 [] (mc 0 U mn) ?_
 refine cK<|RK B<|aq<|Q2 hQ U U U U ?_
 rfl
theorem RF (j:cN) (kA:OA) (kC:Nat) (cA:OA) (cC:Nat) (bA:OA) (bC:Nat) (slA:OA) (slC:Nat) (drA:OA) (drC:Nat) (heA:OA) (heC:Nat) (faA:OA) (faC:Nat) (prA:OA) (prC:Nat) (fk fw:Int) (ff ft:Int):
 dG Tryz.prog 86 [(vA (c_.cells (c_.mk (nY j kA kC cA cC bA bC slA slC drA drC heA heC faA faC prA prC)))),(vA (aM.cells (aM.mk fk fw ff ft)))] [] (vT [(vI fw),(vI fw)]):=by
 refine bG kr Tryz.func86 U U fun E Q hQ hN=>?_
 try dsimp only
 refine WS fun _ A=>eI U fun C=>eI U fun D=>bD 2 U<|RK A<|ak fun _ B=>dp ct 6 kr<|dP 6 [] (mc 0 U mn) ?_
 refine cK<|RK B<|aq<|Q2 hQ U U U U ?_
 rfl
theorem xq:
 dG Tryz.prog 56 [] [] (vA ((eX.cells (eX.mk Value.nilFunc Value.nilFunc))++(eX.cells (eX.mk (Value.func (.func 84) [].toArray [].toArray) (Value.func (.func 83) [].toArray [].toArray)))++(eX.cells (eX.mk (Value.func (.func 85) [].toArray [].toArray) (Value.func (.func 83) [].toArray [].toArray)))++(eX.cells (eX.mk (Value.func (.func 86) [].toArray [].toArray) (Value.func (.func 87) [].toArray [].toArray))))):=by
 refine bG kr Tryz.func56 U U fun E Q hQ hN=>?_
 try dsimp only
 refine WS fun _ A=>AL U Tr fun D=>RK A<|WS fun _ B=>bD 1 U<|RK B<|WS fun _ C=>bD 1 U<|rS (SX (bp (xs:=[(0,.func 84),(1,.tmp 2)]) (cs:=(eX.cells (eX.mk (Value.func (.func 84) [].toArray [].toArray) (Value.func (.func 83) [].toArray [].toArray)))) U U (bo KP U)) U U)<|rP 1 [] mn ?_
 refine rS (SX (bp (xs:=[(0,.func 85),(1,.tmp 4)]) (cs:=(eX.cells (eX.mk (Value.func (.func 85) [].toArray [].toArray) (Value.func (.func 83) [].toArray [].toArray)))) U U (bo KP U)) U U)<|rS (SX (bp (xs:=[(0,.func 86),(1,.func 87)]) (cs:=(eX.cells (eX.mk (Value.func (.func 86) [].toArray [].toArray) (Value.func (.func 87) [].toArray [].toArray)))) U U (bo KP U)) U U)<|rS (SX (bp (xs:=[(1,.tmp 3),(2,.tmp 5),(3,.tmp 6)]) (cs:=((eX.cells (eX.mk Value.nilFunc Value.nilFunc))++(eX.cells (eX.mk (Value.func (.func 84) [].toArray [].toArray) (Value.func (.func 83) [].toArray [].toArray)))++(eX.cells (eX.mk (Value.func (.func 85) [].toArray [].toArray) (Value.func (.func 83) [].toArray [].toArray)))++(eX.cells (eX.mk (Value.func (.func 86) [].toArray [].toArray) (Value.func (.func 87) [].toArray [].toArray))))) U U (bo Q_ U)) U U)<|fG U TC U<|RK C<|aq<|CV hQ [0] (mc 0 U mn) U ?_
 rfl
theorem xz (l:List aM) (lA:OA) (lC:Nat) (f:aM) (hlen:l.length≤1000000):
 dG Tryz.prog 41 [(vS lA l.length lC),(vA (aM.cells f))] [(rd lA l.length 4 (l.map aM.cells))] (vI (kH l f)):=by
 refine bG kr Tryz.func41 U U fun AA Q hQ hN=>?_
 try dsimp only
 refine WS fun _ J=>eI U fun T=>bD 1 U<|RK J<|ak fun _ K=>WS fun _ L=>rP 3 [] mn ?_
 refine RK L<|aH ?_
 have B:(0≤l.length)∧(∀ (q:Nat) y,q<0→l[q]? =some y→y≠f):=by exact ⟨Nat.zero_le _,fun q y hq=>absurd hq (Nat.not_lt_zero _)⟩
 refine bY (ι:={z:Nat // (z≤l.length)∧(∀ (q:Nat) y,q<z→l[q]? =some y→y≠f)}) [0,3,7] [0,1] U U (fun z=>[(8,(vI (z.1:Int)))]) (fun z=>[]) (fun _=>rfl) (fun _=>rfl) (fun z=>l.length-z.1) ⟨0,B⟩ (bB U) (aQ [0,1]) ?_
 clear B
 rintro ⟨i,⟨P,A⟩⟩ J5 AB
 try dsimp only
 refine WS fun _ M=>rP 1 [] mn ?_
 refine RK M<|ak fun _ N=>bW U (aT fun S=>?_) (aU fun S=>?_)
 ·refine bP<|ai<|ai<|aJ<|KK K<|WS fun _ G=>rP 1 [] mn ?_
  refine RK G<|aq<|Q1 hQ U U U ?_
  exact cI (NW A I).symm
 refine WK N<|ak fun _ O=>aH<|WS fun _ D=>bD 2 U<|RK D<|ak fun _ E=>dp ct 6 kr<|dP 3 [] (mc 0 U mn) ?_
 obtain ⟨x,hx⟩:=aL l i I
 have R:=bM aM.cells hx
 refine dS (IA i U (aA 1 U) wi dc I I)<|dS (lx i 0 (aM.cells x) U cj (aA 1 U) R U dc U U)<|dS (BI U (SZ _ _ f x))<|cK<|RK E<|cx U (aU fun C=>?_) (aT fun C=>?_)
 ·refine WS fun _ F=>rP 2 [] mn ?_
  refine RK F<|aq<|Q1 hQ U U U ?_
  exact cI (Mh hx C.symm A).symm
 refine cf<|aN<|KK O<|au<|rP 2 [] mn ?_
 refine aF ?_
 have H:(vI (((i+1):Nat):Int))=(vI ((i:Int)+1)):=by exact cI I
 refine bg (AB ⟨(i+1),⟨I,fun q y hq hy=>by rcases Nat.lt_or_ge q i with c|c; exact A q y c hy; (obtain rfl:q=i:=by omega); rw [hx] at hy; cases hy; exact fun e=>C e.symm⟩⟩ _ _ _ rfl os (cG 3<|bf rfl H<|dh.nil _) (aQ [0,1]))
end
section
open Go.RowKit
theorem Rt (l:List Int) (lA:OA) (lC:Nat) (hne:1≤l.length) (hlen:l.length≤1000000):
 dG Tryz.prog 88 [(vS lA l.length lC)] [(rd lA l.length 1 (l.map iC))] (vI (od l)):=by
 refine bG kr Tryz.func88 U U fun V Q hQ hN=>?_
 try dsimp only
 refine WS fun _ L=>bD 1 U<|RK L<|ak fun _ M=>WS fun _ N=>rP 3 [] mn ?_
 refine RK N<|cx U (aU fun AA=>?_) (aT fun AA=>?_)
 ·exfalso; omega
 refine WK M<|WS fun _ O=>rP 1 [] mn ?_
 obtain ⟨AB,B⟩:=aL l 0 I
 have hx0m:=bM iC B
 refine rS (IA 0 U (aA 0 U) dv dc U I)<|rS (g6 0 0 (vI AB) U cj (aA 0 U) hx0m U dc U)<|bD 1 U<|RK O<|ak fun _ P=>WS fun _ R=>rP 1 [] mn ?_
 refine RK R<|aH ?_
 have A:(1≤1∧1≤l.length):=by omega
 have S:(vI (od (l.take 1)))=(vI AB):=by rw [GK B]
 refine bY (ι:={z:Nat // (1≤z∧z≤l.length)}) [0] [0] U U (fun z=>[(3,(vI (od (l.take z.1)))),(4,(vI (z.1:Int)))]) (fun z=>[]) (fun _=>rfl) (fun _=>rfl) (fun z=>l.length-z.1) ⟨1,A⟩ (bf U S<|bB U) (aQ [0]) ?_
 clear A
 rintro ⟨i,T⟩ J9 K
 try dsimp only
 refine ak fun _ C=>WS fun _ D=>rP 4 [] mn ?_
 refine RK D<|bW U (aT fun J=>?_) (aU fun J=>?_)
 ·refine bP<|ai<|ai<|aJ<|KK P<|WS fun _ F=>rP 2 [] mn ?_
  refine RK F<|aq<|Q1 hQ U U U ?_
  rw [List.take_of_length_le I]
 refine WK C<|ak fun _ E=>aH<|au<|rP 3 [] mn ?_
 obtain ⟨AB,B⟩:=aL l i I
 have hx0m:=bM iC B
 refine rS (IA i U (aA 0 U) dv dc I I)<|rS (g6 i 0 (vI AB) U cj (aA 0 U) hx0m U dc U)<|rS (MN U)<|bD 1 U<|aF<|aN<|KK E<|au<|rP 3 [] mn ?_
 refine aF ?_
 have G:(vI (od (l.take (i+1))))=(vI (min (od (l.take i)) AB)):=by rw [Js B I]
 have H:(vI (((i+1):Nat):Int))=(vI ((i:Int)+1)):=by exact cI I
 refine bg (K ⟨(i+1),(by first|omega|(simp only []; omega))⟩ _ _ _ U os (dh.cons U<|bf U G<|bf U H<|dh.nil _) (aQ [0]))
end
section
open Go.RowKit
theorem l4 (j:cN) (kA:OA) (kC:Nat) (az:List RA) (cA:OA) (cC:Nat) (bA:OA) (bC:Nat) (slA:OA) (slC:Nat) (drA:OA) (drC:Nat) (ha:List cW) (heA:OA) (heC:Nat) (faA:OA) (faC:Nat) (prA:OA) (prC:Nat) (r:cw) (sgA:OA) (sgC:Nat) (b:Int) (hin:gG j az ha) (hsl:r.aa.length≤1000000):
 dG Tryz.prog 57 [(vA (c_.cells (c_.mk (nY j kA kC cA cC bA bC slA slC drA drC heA heC faA faC prA prC)))),(vA (cz.cells (jk r sgA sgC))),(vI b)] [(rd kA j.Race.ar.aV.length 9 (j.Race.ar.aV.map ao.cells)),(rd cA j.Race.ar.aj.length 2 (List.zipWith aw.cells j.Race.ar.aj az)),(dR (bj aw.f_ j.Race.ar.aj az)),(rd bA j.Race.ar.ab.length 4 (j.Race.ar.ab.map bJ.cells)),(rd slA j.Race.aY.length 1 (j.Race.aY.map iC)),(rd drA j.Race.ck.length 1 (j.Race.ck.map iC)),(rd heA j.Race.aB.length 1 (List.zipWith cL j.Race.aB ha)),(dR (bj eY j.Race.aB ha)),(rd faA j.ay.length 4 (j.ay.map aM.cells)),(rd prA j.aD.length 5 (j.aD.map aX.cells)),(rd sgA r.aa.length 2 (r.aa.map aG.cells))] (vA (kz.cells (kz.mk (ag.mk ((cr j.Race.ar r b).Lo) ((cr j.Race.ar r b).Hi)) ((cr j.Race.ar r b).each) ((cr j.Race.ar r b).never)))):=by
 have Y:=hin.race
 have AA:=hin.race.line
 have c:=hin.race.ij
 have d:=hin.race.has
 have Z:=hin.race.ic
 have W:=hin.nf
 have X:=hin.np
 refine bG kr Tryz.func57 U U fun i Q hQ hN=>?_
 try dsimp only
 refine WS fun _ O=>eI U fun e=>eI U fun f=>AL U oN fun g=>RK O<|ak fun _ P=>WS fun _ R=>rP 2 [] mn ?_
 refine RK R<|cx U (aU fun B=>?_) (aT fun B=>?_)
 ·refine WS fun _ S=>rP 4 [] (mc 1 U mn) ?_
  refine rS (SX (bp (xs:=[(0,.tmp 15),(1,.tmp 17)]) (cs:=(ag.cells (ag.mk r.Start r.Start))) U U (bo gX U)) U U)<|rS (SX (bp (xs:=[(0,.tmp 18),(1,.const (vB true)),(2,.const (vB false))]) (cs:=(kz.cells (kz.mk (ag.mk r.Start r.Start) true false))) U U (bo FF U)) U U)<|fG U mF U<|RK S<|aq<|CV hQ [0] (mc 0 U mn) U ?_
  (rw [Gf B])
 refine WK P<|WS fun _ T=>bD 3 U<|rS (LP (cv.cells (jN j.Race.ar kA kC cA cC bA bC)) 2 U cj U U U)<|eQ 2 [] (mc 1 U mn) U<|rS (CL (wU j.Race.ar kA kC az cA cC bA bC r sgA sgC b asm hsl) (bu [3,4,5,6,13]) U)<|bD 3 U<|AL U dV fun h=>fG U cZ U<|bD 1 U<|RK T<|ak fun _ E=>WS fun _ F=>rP 2 [] mn ?_
 refine RK F<|cx U (bq fun A=>?_) (br fun A=>?_)
 ·refine WS fun _ G=>rS (SX (bp (xs:=[(0,.const (vI 86400000)),(1,.const (vI 86400000))]) (cs:=(ag.cells (ag.mk 86400000 86400000))) U U (bo gX U)) U U)<|rS (SX (bp (xs:=[(0,.tmp 32),(1,.const (vB false)),(2,.const (vB true))]) (cs:=(kz.cells (kz.mk (ag.mk 86400000 86400000) false true))) U U (bo FF U)) U U)<|qO U mF U<|RK G<|aq<|CV hQ [0] (mc 1 U mn) U ?_
  (rw [B8 B A])
 refine WK E<|WS fun _ H=>bD 3 U<|rS (LP (cv.cells (jN j.Race.ar kA kC cA cC bA bC)) 3 U cj U U U)<|rP 1 [] (mc 2 U mn) ?_
 refine cX (F0 j.Race.ar kA kC az cA cC bA bC r sgA sgC asm hsl) (bu [4,5,6,7,14]) U fun V a=>?_
 obtain ⟨M,N⟩:=V
 try dsimp only
 refine bD 5 U<|RK H<|WS fun _ AB=>rP 1 [] mn ?_
 refine rS (CL (Rt (gn j.Race.ar r) M N (by exact xE (rV A I)) (by have:=C7 (l:=j.Race.ar) (r:=r); omega)) (aK (aC (n:=(gn j.Race.ar r).length) 0 U sm)<|aO) U) ?_
 refine bD 3 U<|RK AB<|ak fun _ D=>WS fun _ J=>rP 2 [] mn ?_
 refine RK J<|bW U (br fun C=>?_) (bq fun C=>?_)
 ·refine WK D<|WS fun _ L=>rP 2 [] (mc 1 U mn) ?_
  refine rS (SX (bp (xs:=[(0,.tmp 50),(1,.tmp 51),(2,.const (vB false))]) (cs:=(kz.cells (kz.mk (cY j.Race.ar r b) (decide (b<(od (gn j.Race.ar r)))) false))) U U (bo FF U)) U U)<|Ha U mF U<|RK L<|aq<|CV hQ [0] (mc 2 U mn) U ?_
  (rw [zx B A (by rw [Cv (rV A I)]; exact dx C),dx C])
 refine au<|bD 1 U<|Wp (ag.cells (ag.mk ((cY j.Race.ar r b).Lo) 86400000)) U CU U U<|RK D<|WS fun _ K=>rP 2 [] (mc 1 U mn) ?_
 refine rS (SX (bp (xs:=[(0,.tmp 50),(1,.tmp 51),(2,.const (vB false))]) (cs:=(kz.cells (kz.mk (ag.mk ((cY j.Race.ar r b).Lo) 86400000) (decide (b<(od (gn j.Race.ar r)))) false))) U U (bo FF U)) U U)<|Ha U mF U<|RK K<|aq<|CV hQ [0] (mc 2 U mn) U ?_
 (rw [xD B A (by rw [Cv (rV A I)]; exact bE C),bE C])
end
end Go.Proofs.YtijpnoadncadoaaGreatDoor
