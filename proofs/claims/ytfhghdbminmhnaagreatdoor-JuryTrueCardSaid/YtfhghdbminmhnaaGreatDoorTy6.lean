/-
 The statement juryTrue_said, part 6 of 8: B4, B2, B3, B5, B6, V2, V5, V6, Wh1, V4, V8, Wh2, Jw3, Jw4, Jw5, Rc1.
 Conditions: none.
-/
import Derived.Test.YtfhghdbminmhnaaGreatDoorTy1
import Derived.Test.YtfhghdbminmhnaaGreatDoorTy2
import Derived.Test.YtfhghdbminmhnaaGreatDoorTy3
import Derived.Test.YtfhghdbminmhnaaGreatDoorTy4
import Derived.Test.YtfhghdbminmhnaaGreatDoorTy5
namespace Go.Proofs.YtfhghdbminmhnaaGreatDoor
set_option maxRecDepth 100000
set_option maxHeartbeats 4000000
set_option linter.unusedVariables false
section
open Go.RowKit
theorem KS (n lo hi:Int) (g1 g2:Nat):
 dL Tryz.prog 64 [(vI n),(vP g1),(vP g2)] [(cp g1 3 [(vI lo)]),(cp g2 3 [(vI hi)])] (vB (decide (n<lo∨hi<n))):=by
 refine bH kr Tryz.func64 U U fun D Q hQ hN=>?_
 try dsimp only
 refine WS fun _ B=>bE 1 U<|RK B<|WS fun _ A=>rP 4 [] (mr 0 U I) ?_
 refine bK (t:=8) U (aU fun C=>?_) (aV fun C=>?_)
 ·refine rP 5 [] I ?_
  refine RK A<|aq<|Q1 hQ U U U ?_
  exact cB (dN om).symm
 refine rP 5 [] (mr 1 U I) ?_
 refine RK A<|aq<|Q1 hQ U U U ?_
 exact cB (gR.2 om)
theorem gM (lo hi:Int) (l:List Int) (lA:OA) (lC:Nat) (hlen:l.length≤1000000):
 dL Tryz.prog 42 [(vI lo),(vI hi),(vS lA l.length lC)] [(rd lA l.length 1 (l.map iC))] (vB (qP lo hi l)):=by
 refine bH kr Tryz.func42 U U fun F Q hQ hN=>?_
 try dsimp only
 refine WS fun _ D=>wR U U fun A=>wR U U fun B=>bE 1 U<|RK D<|WS fun _ E=>rP 1 [] I ?_
 refine rS (FU U) ?_
 refine rS (CL (qt l lA lC (Value.func (.func 64) [].toArray [(vP A),(vP B)].toArray) (fun C=>(decide (C<lo∨hi<C))) (dT [(cp A 3 [(vI lo)]),(cp B 3 [(vI hi)])]) (by intro C _; exact k7 (fi:=[]) (ca:=[(vP A),(vP B)]) (jS (KS C lo hi A B) (bk [0,1]))) hlen) (gJ 2 U U<|aC (jX (bk [1,0]))<|aO) U) ?_
 refine rP 2 [] I ?_
 refine RK E<|aq ?_
 exact Q1 hQ U U U U
theorem Wg (n d:Int) (hd:2≤d):
 dL Tryz.prog 43 [(vI n),(vI d)] [] (vI (Tf n d)):=by
 refine bH kr Tryz.func43 U U fun C Q hQ hN=>?_
 try dsimp only
 refine WS fun _ A=>bE 1 U<|RK A<|WS fun _ B=>bE 2 U<|rS (BI U P5)<|rS (BI U Kj)<|bE 1 U<|rS (BI U (QP om (PV (SU _) hd)))<|rP 1 [] I ?_
 refine RK B<|aq ?_
 exact Q1 hQ U U U U
theorem F_ (n d:Int) (hd:1≤d∧d≤1000000) (hn:0≤n∧n≤1000000000000000):
 dL Tryz.prog 43 [(vI n),(vI d)] [] (vI (mZ n d)):=by
 refine bH kr Tryz.func43 U U fun C Q hQ hN=>?_
 try dsimp only
 refine WS fun _ A=>bE 1 U<|RK A<|WS fun _ B=>bE 5 U<|rS (BI U (uz om om om))<|rP 1 [] I ?_
 refine RK B<|aq ?_
 exact Q1 hQ U U U U
theorem AW (c:au) (sA:OA) (sC:Nat) (at_:Int) (hc:eP c) (ha:0≤at_∧at_≤90000000):
 dL Tryz.prog 45 [(vA (dx.cells (dx.mk c.dw (bD.mk sA c.bG.length sC)))),(vI at_)] [(rd sA c.bG.length 3 (c.bG.map cM.cells))] (vA (ag.cells (gr c at_))):=by
 have X:=hc.len
 have J:=hc.qN
 refine bH kr Tryz.func45 U U fun e Q hQ hN=>?_
 try dsimp only
 refine WS fun _ M=>eO U fun b=>AL U ed fun d=>RK M<|WS fun _ N=>rS (SX (bf (xs:=[(0,.const (vI (-1099511627776))),(1,.const (vI 1099511627776))]) (cs:=(ag.cells (ag.mk (-1099511627776) 1099511627776))) U U (bg gO U)) U U)<|AL U ed fun W=>fJ U cW U<|RK N<|ao fun _ O=>ao fun _ P=>?_
 have R:(ag.cells (ag.mk (-1099511627776) 1099511627776))=(ag.cells (gK c at_ 0)):=by rfl
 rw [R]
 refine aw<|rP 4 [] (mc 2 U I) ?_
 refine RK P<|aI ?_
 have A:(0≤c.bG.length):=by exact Nat.zero_le _
 refine bZ (ι:={z:Nat // (z≤c.bG.length)}) [1,2,4,5,11,12] [1,2,3] U U (fun z=>[(13,(vI (z.1:Int)))]) (fun z=>[(cp W 48 (ag.cells (gK c at_ z.1)))]) (fun _=>rfl) (fun _=>rfl) (fun z=>c.bG.length-z.1) ⟨0,A⟩ (bu U) (aQ [1,2,3,0]) ?_
 clear A
 rintro ⟨i,S⟩ J9 L
 try dsimp only
 refine WS fun _ B=>rP 1 [] I ?_
 refine RK B<|ao fun _ C=>bW U (aV fun K=>?_) (aU fun K=>?_)
 ·refine bS<|ai<|ai<|aL<|KK O<|WS fun _ G=>rP 1 [] (mc 3 U I) ?_
  refine fJ U cW U<|RK G<|aq<|Dn hQ [0] (mc 0 U I) U ?_
  rw [nQ (show c.bG.length≤i by omega)]
 refine WK C<|ao fun _ D=>aI<|WS fun _ E=>?_
 obtain ⟨x,hx⟩:=aJ c.bG i om
 have AA:=bM cM.cells hx
 refine rS (IA i U (aB 2 U) rY dc om om)<|rS (lM i 0 (cM.cells x) U b_ (aB 2 U) AA U dc U U)<|AL U s_ fun V=>fJ U ua U<|RK E<|WS fun _ F=>rP 5 [0,1] (mc 2 U (mc 0 U I)) ?_
 have T:=hc.rT hx
 have Z:=CE hc ha i
 have Y:=F4 J ha (show 0≤x.At∧x.At≤90000000 by omega)
 refine eV 5 [] (mc 0 U I) U<|rS (MX U)<|rS (BI U (nt ⟨om,om⟩))<|rS (CL (F_ (c.dw*(max (at_-x.At) (x.At-at_))) 1000000 om om) (aO) U)<|bE 1 U<|RK F<|aw<|rP 6 [0,1] (mc 4 U (mc 0 U I)) ?_
 have a:0≤mZ (c.dw*max (at_-x.At) (x.At-at_)) 1000000∧mZ (c.dw*max (at_-x.At) (x.At-at_)) 1000000≤90001:=tM J ha T.1
 refine bE 1 U<|rS (MX U)<|rP 7 [0,1] (mc 4 U (mc 0 U I)) ?_
 refine rS (MN U)<|rS (SX (bf (xs:=[(0,.tmp 37),(1,.tmp 45)]) (cs:=(ag.cells (ag.mk (max ((gK c at_ i).Lo) (x.dR.Lo-(mZ (c.dw*(max (at_-x.At) (x.At-at_))) 1000000))) (min ((gK c at_ i).Hi) (x.dR.Hi+(mZ (c.dw*(max (at_-x.At) (x.At-at_))) 1000000)))))) U U (bg gO U)) U U)<|Ug U cW U<|aH<|aR<|KK D ?_
 have H:(ag.cells (ag.mk (max ((gK c at_ i).Lo) (x.dR.Lo-(mZ (c.dw*(max (at_-x.At) (x.At-at_))) 1000000))) (min ((gK c at_ i).Hi) (x.dR.Hi+(mZ (c.dw*(max (at_-x.At) (x.At-at_))) 1000000)))))=(ag.cells (gK c at_ (i+1))):=by rw [kb hx]; rfl
 rw [H]
 refine aw<|rP 2 [] I ?_
 refine aH ?_
 have AB:(vI (((i+1):Nat):Int))=(vI ((i:Int)+1)):=by exact cI om
 refine bq (L ⟨(i+1),(by first|omega|(simp only []; omega))⟩ _ _ _ U os (cY 6<|bw U AB<|dG.nil _) (aQ [1,2,3,4]))
theorem PQ (c:au) (sA:OA) (sC:Nat) (hlen:c.bG.length≤1000000) (hcap:c.bG.length≤sC):
 dL Tryz.prog 93 [(vA (dx.cells (dx.mk c.dw (bD.mk sA c.bG.length sC))))] [(rd sA c.bG.length 3 (c.bG.map cM.cells))] (vB (decide (eP c))):=by
 refine bH kr Tryz.func93 U U fun w0 Q hQ hN=>?_
 try dsimp only
 refine WS fun _ A9=>eO U fun b2=>bE 1 U<|RK A9<|Bh U<|ao fun _ Bd=>WS fun _ q=>rP 2 [] (mc 0 U I) ?_
 refine d_ (xs:=[.tmp 11]) (cs:=[(vI c.dw)]) U dk jO U U U U (by simp [Value.cells]) U U fun b5=>?_
 refine rS (CL (dL.eq (gM 0 1000 ([c.dw]) (some ⟨b5,0,none⟩) 1 (by (simp; done))) cw) (aC (bo 0 U U (by simp [bL]) U)<|aO) U) ?_
 refine rP 2 [] I ?_
 refine bK (t:=15) U (aX fun AB=>?_) (aW fun AB=>?_)
 ·refine bE 7 U<|RK q<|aT U<|WS fun _ Bo=>rP 1 [] I ?_
  refine RK Bo<|aq<|Q1 hQ U U U ?_
  exact cB (bI fun h=>AB h.qN).symm
 refine rP 3 [] (mc 1 U I) ?_
 refine d_ (xs:=[.tmp 18]) (cs:=[(vI (c.bG.length:Int))]) U dk jO U U U U (by simp [Value.cells]) U U fun b7=>?_
 refine rS (CL (dL.eq (gM 1 5 ([(c.bG.length:Int)]) (some ⟨b7,0,none⟩) 1 (by (simp; done))) cw) (aC (bo 0 U U (by simp [bL]) U)<|aO) U) ?_
 refine rP 2 [] I ?_
 refine RK q<|cy U (aX fun O=>?_) (aW fun O=>?_)
 ·refine WS fun _ B3=>rP 1 [] I ?_
  refine RK B3<|aq<|Q1 hQ U U U ?_
  exact cB (bI fun h=>O (by have:=h.len; omega)).symm
 refine WK Bd<|WS fun _ B9=>bE 1 U<|RK B9<|WS fun _ R=>bE 1 U<|RK R<|ao fun _ S=>Bf<|KK S<|ao fun _ K=>WS fun _ T=>rP 4 [] (mc 2 U I) ?_
 refine RK T<|aI ?_
 have B:(0≤c.bG.length)∧(tP c 0):=by exact ⟨Nat.zero_le _,Hd⟩
 have r:(vI (kz c 0))=(vI (-1)):=by rw [gS rfl]
 refine bZ (ι:={z:Nat // (z≤c.bG.length)∧(tP c z)}) [1,2,4,24,25] [2,3] U U (fun z=>[(3,(vI (kz c z.1))),(26,(vI (z.1:Int)))]) (fun z=>[]) (fun _=>rfl) (fun _=>rfl) (fun z=>c.bG.length-z.1) ⟨0,B⟩ (bw U r<|bu U) (aQ [2,3]) ?_
 clear B
 rintro ⟨i,⟨L,C⟩⟩ J15 P
 try dsimp only
 have C3: -1≤kz c i∧kz c i≤86400000:=Qf L C
 refine WS fun _ AA=>rP 1 [] I ?_
 refine RK AA<|ao fun _ V=>bW U (aV fun A4=>?_) (aU fun A4=>?_)
 ·refine bS<|ai<|ai<|aL<|KK K<|WS fun _ f=>rP 2 [] I ?_
  refine RK f<|aq<|Q1 hQ U U U ?_
  exact cB (dN (Hu AB om (by have e:i=c.bG.length:=om; rw [← e]; exact C))).symm
 refine WK V<|ao fun _ W=>aI<|WS fun _ X=>rP 1 [] I ?_
 obtain ⟨x,hx⟩:=aJ c.bG i om
 have Cp:=bM cM.cells hx
 refine rS (IA i U (aB 1 U) rY dc om om)<|rS (lM i 0 (cM.cells x) U b_ (aB 1 U) Cp U dc U U)<|AL U s_ fun Cx=>rP 1 [] I ?_
 refine fJ U ua U<|RK X ?_
 refine kW (ι:=Unit) [1,2,3,5,6,24,25,26] [0,1,2] U U (fun z=>[(4,(vB (decide (fM c i x))))]) (fun z=>[]) (fun _=>rfl) (fun _=>rfl) ?_ fun K22 G=>?_
 ·intro _
  try dsimp only
  refine ao fun _ Y=>WS fun _ Z=>eV 3 [] (mc 1 U I) U<|rS (WR i U rY om om)<|rP 2 [] I ?_
  refine RK Z<|aI ?_
  have B:(0≤i)∧((decide (fM c i x))=(decide (mF c i x 0))):=by exact ⟨Nat.zero_le _,gR.2 Ez.symm⟩
  refine bZ (ι:={z:Nat×Bool // (z.1≤i)∧(z.2=(decide (mF c i x z.1)))}) [1,2,3,5,6,24,25,26,59,60] [0,1,2] U U (fun z=>[(4,(vB z.1.2)),(61,(vI (z.1.1:Int)))]) (fun z=>[]) (fun _=>rfl) (fun _=>rfl) (fun z=>i-z.1.1) ⟨(0,(decide (fM c i x))),B⟩ (bu U) (aQ [0,1,2]) ?_
  clear B
  rintro ⟨⟨k,b⟩,⟨M,A⟩⟩ J25 F
  try dsimp only at M A
  try dsimp only
  refine WS fun _ a=>rP 1 [] I ?_
  refine RK a<|ao fun _ d=>bW U (aV fun A6=>?_) (aU fun A6=>?_)
  ·refine bS<|ai<|ai<|aL<|KK Y<|ao fun _ m=>WS fun _ n=>rP 2 [] I ?_
   refine RK n<|cy U (fun D=>?_) (fun D=>?_)
   ·rw [Bool.not_eq_true'] at D
    refine bS<|ai<|fD U<|ai<|ai<|aL<|KK K<|WS fun _ p=>rP 2 [] I ?_
    refine RK p<|aq<|Q1 hQ U U U ?_
    exact cB (by have e:k=i:=om; rw [e] at A; rw [D] at A ⊢; exact (bI (IM hx (of_decide_eq_false A.symm))).symm)
   rw [Bool.not_eq_false'] at D
   refine WK m<|aw<|eV 3 [] (mc 0 U I) U<|aH<|aR<|KK W<|aw<|rP 2 [] I ?_
   refine aH ?_
   have Ad:(vB true)=(vB b):=by exact cB D.symm
   have An:(vI (kz c (i+1)))=(vI x.At):=by rw [oQ hx]
   have A0:(vI (((i+1):Nat):Int))=(vI ((i:Int)+1)):=by exact cI om
   refine bq (P ⟨(i+1),⟨om,Hg C hx (by have e:k=i:=om; rw [e] at A; exact of_decide_eq_true (A.symm.trans D))⟩⟩ _ _ _ U os (dG.cons U<|dG.cons U<|bw U Ad<|dG.cons U<|dG.cons U<|bw U An<|bw U A0<|dG.nil _) (aQ [1,2]))
  refine WK d<|ao fun _ H=>aI<|WS fun _ g=>?_
  obtain ⟨o,ho⟩:=aJ c.bG k om
  have Ci:=bM cM.cells ho
  refine rS (WC k U (aB 2 U) rY dc om om om)<|rS (lM k 0 (cM.cells o) U b_ (aB 2 U) Ci U dc U U)<|AL U s_ fun C0=>fJ U ua U<|RK g<|WS fun _ l=>eV 6 [0,1,2] (mc 2 U (mc 1 U (mc 0 U I))) U<|rS (BI U Kj)<|rS (BI U Q_)<|rS (CL (Wg (Bj (c.dw*(Bj (x.At-o.At)))) 1000000 om) (aO) U)<|bE 1 U<|RK l<|aw<|rP 2 [] I ?_
  refine bU (t:=75) U (fun J=>?_) (fun J=>?_)
  ·refine bE 6 U<|bE 16 U<|aH<|aR<|KK H<|aw<|rP 2 [] I ?_
   refine aH ?_
   have AO:(vI (((k+1):Nat):Int))=(vI ((k:Int)+1)):=by exact cI om
   refine bq (F ⟨((k+1),false),⟨om,by exact (bI fun h=>by have h2:=((tq ho).1 h).1; rw [A] at J; exact absurd (dN h2) (by rw [J]; decide)).symm⟩⟩ _ _ _ U os (cY 11<|bw U AO<|dG.nil _) (aQ [1,2,3]))
  refine rP 6 [0,1] (mc 1 U (mc 0 U I)) ?_
  have A1:mF c i x k:=of_decide_eq_true (A.symm.trans J)
  obtain ⟨Ck,Di,Do⟩:=vd (fun j y hj hy=>(C j y hj hy).1) hx A1.1 om ho
  have N:=N6 AB Ck
  refine rP 5 [] I ?_
  refine bU (t:=86) U (aV fun E=>?_) (aU fun E=>?_)
  ·refine bE 11 U<|aH<|aR<|KK H<|aw<|rP 2 [] I ?_
   refine aH ?_
   have AC:(vI (((k+1):Nat):Int))=(vI ((k:Int)+1)):=by exact cI om
   refine bq (F ⟨((k+1),false),⟨om,by exact (bI fun h=>by have h2:=((tq ho).1 h).2; rw [N] at E; exact E h2.1).symm⟩⟩ _ _ _ U os (cY 11<|bw U AC<|dG.nil _) (aQ [1,2,3]))
  refine eV 11 [0,1] (mc 0 U (mc 1 U I)) U<|aH<|aR<|KK H<|aw<|rP 2 [] I ?_
  refine aH ?_
  have w:(vI (((k+1):Nat):Int))=(vI ((k:Int)+1)):=by exact cI om
  refine bq (F ⟨((k+1),(decide ((o.dR.Lo-x.dR.Hi)≤(Tf (Bj (c.dw*(Bj (x.At-o.At)))) 1000000)))),⟨om,by exact gR.2 (by rw [tq ho,N]; rw [N] at E; exact ⟨fun h=>⟨A1,E,h⟩,fun h=>h.2.2⟩)⟩⟩ _ _ _ U os (cY 11<|bw U w<|dG.nil _) (aQ [1,2,3]))
 refine aw<|rP 4 [] (mc 0 U I) ?_
 refine d_ (xs:=[.tmp 34]) (cs:=[(vI x.At)]) U dk jO U U U U (by simp [Value.cells]) U U fun A2=>?_
 refine rS (CL (dL.eq (gM ((kz c i)+1) 86400000 ([x.At]) (some ⟨A2,0,none⟩) 1 (by (simp; done))) cw) (aC (bo 0 U U (by simp [bL]) U)<|aO) U) ?_
 refine rP 1 [] I ?_
 refine bU (t:=37) U (aV fun A7=>?_) (aU fun A7=>?_)
 ·refine rP 19 [] I ?_
  refine aH ?_
  have v:(decide (fM c i x))=false:=bI (by unfold fM; omega)
  refine bq (g_ (cY 8<|lE U v<|dG.nil _) (aQ [1,2,3]) (G ()))
 refine rP 6 [] (mc 1 U I) ?_
 refine d_ (xs:=[.tmp 40,.tmp 43]) (cs:=[(vI x.dR.Lo),(vI x.dR.Hi)]) U dk jO U U U U (by simp [Value.cells]) U U fun A3=>?_
 refine rS (CL (dL.eq (gM (-10000) 10000 ([x.dR.Lo,x.dR.Hi]) (some ⟨A3,0,none⟩) 2 (by (simp; done))) pd) (aC (bo 0 U U (by simp [bL]) U)<|aO) U) ?_
 refine rP 2 [] I ?_
 refine bU (t:=47) U (aV fun A8=>?_) (aU fun A8=>?_)
 ·refine rP 9 [] I ?_
  refine aH ?_
  have u:(decide (fM c i x))=false:=bI (by unfold fM; omega)
  refine bq (g_ (cY 8<|lE U u<|dG.nil _) (aQ [2,3,4]) (G ()))
 refine rP 9 [] (mc 2 U I) ?_
 refine aH ?_
 have s:(decide (fM c i x))=(decide (x.dR.Lo≤x.dR.Hi)):=gR.2 (by unfold fM; omega)
 refine bq (g_ (cY 8<|lE U s<|dG.nil _) (aQ [2,3,4]) (G ()))
theorem T1 (ms:List au) (az:List RA) (k:Nat) (m:au) (a:RA) (hm:ms[k]? =some m) (ha:az[k]? =some a) (hc:m.bG.length≤a.2∧m.bG.length≤1000000):
 dL Tryz.prog 92 [(vA (dx.cells (dx.mk m.dw (bD.mk a.1 m.bG.length a.2))))] [(dT (br au.gd ms az))] (vB (!(decide (eP m)))):=by
 obtain ⟨C,D⟩:=hc
 refine bH kr Tryz.func92 U U fun F Q hQ hN=>?_
 try dsimp only
 refine WS fun _ A=>eO U fun E=>bE 1 U<|RK A<|WS fun _ B=>eV 1 [] (mc 0 U I) U<|rS (CL (PQ m a.1 a.2 asm asm) (aC (show iJ _ (rd a.1 m.bG.length 3 (m.bG.map cM.cells)).holds from (cU 1 U (bQ hm ha (by simp [au.gd]))))<|aO) U)<|rP 2 [] I ?_
 refine RK B<|aq ?_
 exact Q1 hQ U U U U
theorem GF (l:List au) (az:List RA) (lA:OA) (lC:Nat) (f:Value) (p:au→Bool) (X:ay) (hf: ∀ (k:Nat) m a,l[k]? =some m→az[k]? =some a→DI Tryz.prog f [.agg (au.cells m a).toArray] [X] (.bool (p m))) (hlen:l.length≤1000000) (has:az.length=l.length):
 dL Tryz.prog 114 [(vS lA l.length lC),f] [(rd lA l.length 2 (List.zipWith au.cells l az)),(dT (br au.gd l az)),X] (vI (sY p l)):=by
 refine bH kr Tryz.func114 U U fun T Q hQ hN=>?_
 try dsimp only
 refine WS fun _ AA=>bE 1 U<|RK AA<|ao fun _ J=>WS fun _ K=>rP 3 [] I ?_
 refine RK K<|aI ?_
 have B:(0≤l.length)∧((l.take 0).any p=false):=by simp
 refine bZ (ι:={z:Nat // (z≤l.length)∧((l.take z).any p=false)}) [0,1,7] [0,1,2] U U (fun z=>[(8,(vI (z.1:Int)))]) (fun z=>[]) (fun _=>rfl) (fun _=>rfl) (fun z=>l.length-z.1) ⟨0,B⟩ (bu U) (aQ [0,1,2]) ?_
 clear B
 rintro ⟨i,⟨P,A⟩⟩ J4 H
 try dsimp only
 refine WS fun _ L=>rP 1 [] I ?_
 refine RK L<|ao fun _ M=>bW U (aV fun S=>?_) (aU fun S=>?_)
 ·refine bS<|ai<|ai<|aL<|KK J<|WS fun _ E=>rP 1 [] I ?_
  refine RK E<|aq<|Q1 hQ U U U ?_
  exact cI (ql om A).symm
 refine WK M<|ao fun _ N=>aI<|WS fun _ O=>bE 2 U<|RK O<|WS fun _ C=>rP 3 [] I ?_
 obtain ⟨x,hx⟩:=aJ l i om
 obtain ⟨xa,G⟩:=aJ az i om
 have R:(List.zipWith au.cells l az)[i]? =some (au.cells x xa):=dF hx G
 refine rS (IA i U (aB 0 U) yV dc om om)<|rS (lM i 0 (dx.cells (dx.mk x.dw (bD.mk xa.1 x.bG.length xa.2))) U b_ (aB 0 U) R U dc U U)<|rS (SX (qk U U U (hf i x xa hx G) (bk [2])) U U)<|RK C<|cy U (fun hp=>?_) (fun hp=>?_)
 ·refine WS fun _ D=>rP 2 [] I ?_
  refine RK D<|aq<|Q1 hQ U U U ?_
  exact cI (uu hx hp A).symm
 refine cu<|aR<|KK N<|aw<|rP 2 [] I ?_
 refine aH ?_
 have F:(vI (((i+1):Nat):Int))=(vI ((i:Int)+1)):=by exact cI om
 refine bq (H ⟨(i+1),⟨om,ur hx A hp⟩⟩ _ _ _ U os (cY 3<|bw U F<|dG.nil _) (aQ [0,1,2]))
theorem Bc (l:List au) (az:List RA) (lA:OA) (lC:Nat) (f:Value) (p:au→Bool) (X:ay) (hf: ∀ (k:Nat) m a,l[k]? =some m→az[k]? =some a→DI Tryz.prog f [.agg (au.cells m a).toArray] [X] (.bool (p m))) (hlen:l.length≤1000000) (has:az.length=l.length):
 dL Tryz.prog 91 [(vS lA l.length lC),f] [(rd lA l.length 2 (List.zipWith au.cells l az)),(dT (br au.gd l az)),X] (vB (l.any p)):=by
 refine bH kr Tryz.func91 U U fun C Q hQ hN=>?_
 try dsimp only
 refine WS fun _ A=>bE 1 U<|RK A<|WS fun _ B=>bE 2 U<|rS (CL (GF l az lA lC f p X (by exact hf) hlen has) (QX 0 1 2 U U U U U U) U)<|rP 2 [] I ?_
 refine RK B<|aq<|Q1 hQ U U U ?_
 exact cB sK
theorem HZ (l:List bJ) (lA:OA) (lC:Nat) (f:Value) (p:bJ→Bool) (X:ay) (hf: ∀ x0,x0∈l→DI Tryz.prog f [.agg (bJ.cells x0).toArray] [X] (.bool (p x0))) (hlen:l.length≤1000000):
 dL Tryz.prog 115 [(vS lA l.length lC),f] [(rd lA l.length 4 (l.map bJ.cells)),X] (vI (sY p l)):=by
 refine bH kr Tryz.func115 U U fun S Q hQ hN=>?_
 try dsimp only
 refine WS fun _ H=>bE 1 U<|RK H<|ao fun _ AA=>WS fun _ J=>rP 3 [] I ?_
 refine RK J<|aI ?_
 have B:(0≤l.length)∧((l.take 0).any p=false):=by simp
 refine bZ (ι:={z:Nat // (z≤l.length)∧((l.take z).any p=false)}) [0,1,7] [0,1] U U (fun z=>[(8,(vI (z.1:Int)))]) (fun z=>[]) (fun _=>rfl) (fun _=>rfl) (fun z=>l.length-z.1) ⟨0,B⟩ (bu U) (aQ [0,1]) ?_
 clear B
 rintro ⟨i,⟨O,A⟩⟩ J4 G
 try dsimp only
 refine WS fun _ K=>rP 1 [] I ?_
 refine RK K<|ao fun _ L=>bW U (aV fun R=>?_) (aU fun R=>?_)
 ·refine bS<|ai<|ai<|aL<|KK AA<|WS fun _ E=>rP 1 [] I ?_
  refine RK E<|aq<|Q1 hQ U U U ?_
  exact cI (ql om A).symm
 refine WK L<|ao fun _ M=>aI<|WS fun _ N=>bE 2 U<|RK N<|WS fun _ C=>rP 3 [] I ?_
 obtain ⟨x,hx⟩:=aJ l i om
 have P:=bM bJ.cells hx
 refine rS (IA i U (aB 0 U) uR dc om om)<|rS (lM i 0 (bJ.cells x) U b_ (aB 0 U) P U dc U U)<|rS (SX (qk U U U (hf x (aP hx)) (bk [1])) U U)<|RK C<|cy U (fun hp=>?_) (fun hp=>?_)
 ·refine WS fun _ D=>rP 2 [] I ?_
  refine RK D<|aq<|Q1 hQ U U U ?_
  exact cI (uu hx hp A).symm
 refine cu<|aR<|KK M<|aw<|rP 2 [] I ?_
 refine aH ?_
 have F:(vI (((i+1):Nat):Int))=(vI ((i:Int)+1)):=by exact cI om
 refine bq (G ⟨(i+1),⟨om,ur hx A hp⟩⟩ _ _ _ U os (cY 3<|bw U F<|dG.nil _) (aQ [0,1]))
theorem z9 (l:List bJ) (lA:OA) (lC:Nat) (f:Value) (p:bJ→Bool) (X:ay) (hf: ∀ x0,x0∈l→DI Tryz.prog f [.agg (bJ.cells x0).toArray] [X] (.bool (p x0))) (hlen:l.length≤1000000):
 dL Tryz.prog 95 [(vS lA l.length lC),f] [(rd lA l.length 4 (l.map bJ.cells)),X] (vB (l.any p)):=by
 refine bH kr Tryz.func95 U U fun C Q hQ hN=>?_
 try dsimp only
 refine WS fun _ A=>bE 1 U<|RK A<|WS fun _ B=>bE 2 U<|rS (CL (HZ l lA lC f p X (by exact hf) hlen) (bk [0,1]) U)<|rP 2 [] I ?_
 refine RK B<|aq<|Q1 hQ U U U ?_
 exact cB sK
end
section
open Go.RowKit
theorem qo (a:ag) (l:List ag) (lA:OA) (lC:Nat) (ha:lX a) (hl: ∀ z∈l,lX z) (hlen:l.length≤4):
 dL Tryz.prog 101 [(vA (ag.cells a)),(vS lA l.length lC)] [(rd lA l.length 2 (l.map ag.cells))] (vA (ag.cells (kQ a l))):=by
 refine bH kr Tryz.func101 U U fun AA Q hQ hN=>?_
 try dsimp only
 refine WS fun _ AB=>eO U fun R=>AL U ed fun T=>RK AB<|ao fun _ J=>WS fun _ K=>rP 3 [] I ?_
 refine RK K<|aI ?_
 have A:(0≤l.length):=by exact Nat.zero_le _
 refine bZ (ι:={z:Nat // (z≤l.length)}) [2,4,7,8] [0,2] U U (fun z=>[(9,(vI (z.1:Int)))]) (fun z=>[(cp R 48 (ag.cells (kQ a (l.take z.1))))]) (fun _=>rfl) (fun _=>rfl) (fun z=>l.length-z.1) ⟨0,A⟩ (bu U) (aQ [0,2,1]) ?_
 clear A
 rintro ⟨i,N⟩ J6 H
 try dsimp only
 refine WS fun _ L=>rP 1 [] I ?_
 refine RK L<|ao fun _ M=>bW U (aV fun S=>?_) (aU fun S=>?_)
 ·refine bS<|ai<|ai<|aL<|KK J<|ao fun _ D=>?_
  have G:(ag.cells (kQ a (l.take i)))=(ag.cells (kQ a l)):=by rw [Kb om]
  rw [G]
  refine aw<|rP 1 [] (mc 2 U I) ?_
  refine fJ U cW U<|RK D<|aq ?_
  exact Dn hQ [0] (mc 0 U I) U U
 refine WK M<|ao fun _ B=>aI<|WS fun _ C=>?_
 obtain ⟨x,hx⟩:=aJ l i om
 have O:=bM ag.cells hx
 refine rS (IA i U (aB 1 U) lu dc om om)<|rS (lM i 0 (ag.cells x) U b_ (aB 1 U) O U dc U U)<|AL U ed fun P=>fJ U cW U<|RK C<|aw ?_
 have hb:=Qv ha hl i
 have hz:=hl x (aP hx)
 unfold lX at hz
 refine rP 10 [0,1,0,1] (mc 3 U (mc 0 U I)) ?_
 refine rS (SX (bf (xs:=[(0,.tmp 17),(1,.tmp 22)]) (cs:=(ag.cells (ag.mk (((kQ a (l.take i)).Lo)+x.Lo) (((kQ a (l.take i)).Hi)+x.Hi)))) U U (bg gO U)) U U)<|Us U cW U<|aH<|aR<|KK B ?_
 have E:(ag.cells (ag.mk (((kQ a (l.take i)).Lo)+x.Lo) (((kQ a (l.take i)).Hi)+x.Hi)))=(ag.cells (kQ a (l.take (i+1)))):=by rw [ze hx]; rfl
 rw [E]
 refine aw<|rP 2 [] I ?_
 refine aH ?_
 have F:(vI ((i+1):Int))=(vI ((i:Int)+1)):=by exact cI om
 refine bq (H ⟨(i+1),(by first|omega|(simp only []; omega))⟩ _ _ _ U os (cY 4<|bw U F<|dG.nil _) (aQ [1,2,3]))
theorem Ge (ts:List ar) (tsA:OA) (tsC:Nat) (hlen:ts.length≤1000000) (hside: ∀ x∈ts,0≤x.je∧x.je≤255):
 dL Tryz.prog 98 [(vA (bP.cells (bP.mk (bD.mk tsA ts.length tsC))))] [(rd tsA ts.length 9 (ts.map ar.cells))] (vT [(vA (eM.cells (eM.mk (bP.mk (bD.mk tsA ts.length tsC))))),(vI (if dB ts=true then 0 else 10))]):=by
 refine bH kr Tryz.func98 U U fun E Q hQ hN=>?_
 try dsimp only
 refine WS fun _ A=>eO U fun C=>AL U KR fun D=>bE 1 U<|RK A<|ao fun _ B=>dj cj 4 kr<|lz 1 [] (mc 1 U I) U<|dS (SX (bf (xs:=[(0,.tmp 4)]) (cs:=(eM.cells (eM.mk (bP.mk (bD.mk tsA ts.length tsC))))) U U (bg TX U)) U U)<|lz 1 [] (mc 1 U I) U<|dS (CL (CK ts tsA tsC hlen hside) (bk [2]) U)<|cD<|fJ U K7 U<|rP 1 [] I ?_
 refine RK B<|aq ?_
 exact mj hQ [0] (mc 0 U I) U U
theorem Oe (f:Int) (tsA:OA) (tsN tsC:Nat):
 pS Tryz.prog 118 [(vA (eM.cells (eM.mk (bP.mk (bD.mk tsA tsN tsC))))),(vI f)] [] (fun (x:Nat×Nat)=>(Value.func (.func 139) [].toArray [(Value.pointer (some ⟨x.1,0,none⟩)),(Value.pointer (some ⟨x.2,0,none⟩))].toArray)) (fun (x:Nat×Nat)=>True) (fun (x:Nat×Nat)=>[(cp x.1 3 [(vI f)]),(cp x.2 170 (eM.cells (eM.mk (bP.mk (bD.mk tsA tsN tsC)))))]):=by
 refine fB kr Tryz.func118 U U fun E Q hQ hN=>?_
 try dsimp only
 refine WS fun _ A=>eO U fun C=>wR U U fun D=>bE 1 U<|RK A<|WS fun _ B=>rS (FU U)<|rP 1 [] I ?_
 refine RK B<|aq<|LX hQ (D,C) [0,1] [] I U U U U ?_
 trivial
theorem Hq (ts:List ar) (tsA:OA) (tsC:Nat) (f:Int) (g1 g2:Nat) (hst: ∀ x∈ts,bX x) (hlen:ts.length≤12) (hf:0≤f∧f≤ts.length):
 Nz Tryz.prog 139 [] [(vP g1),(vP g2)] [(rd tsA ts.length 9 (ts.map ar.cells)),(cp g1 3 [(vI f)]),(cp g2 170 (eM.cells (eM.mk (bP.mk (bD.mk tsA ts.length tsC)))))] (uj ts f.toNat):=by
 refine Gh kr Tryz.func139 U U fun l J Z A0 p Q hY g d hQ hN=>?_
 try dsimp only
 refine WS fun _ h=>AL U ed fun n=>AL U ed fun o=>RK h<|WS fun _ i=>rP 2 [] (mr 4 U I) ?_
 refine RK i<|aI ?_
 have P:(0≤ts.length-f.toNat)∧(J 0 A0)∧(Fo A0 p A0):=by exact ⟨Nat.zero_le _,g,d⟩
 have m:(vI (f+(0:Int)))=(vI f):=by exact cI om
 refine bZ (ι:={z:Nat×ay // (z.1≤ts.length-f.toNat)∧(J z.1 z.2)∧(Fo A0 p z.2)}) [0,1,2,4,5] [3,4,5] U U (fun z=>[(6,(vI (f+(z.1.1:Int))))]) (fun z=>[(cp o 48 (ag.cells (gI ts f.toNat z.1.1))),(cp n 48 (ag.cells (eN ts f.toNat z.1.1))),z.1.2]) (fun _=>rfl) (fun _=>rfl) (fun z=>ts.length-f.toNat-z.1.1) ⟨(0,A0),P⟩ (bw U m<|dG.nil _) (aQ [3,4,5,0,1,2]) ?_
 clear P
 rintro ⟨⟨k,A⟩,⟨W,R,S⟩⟩ J6 V
 try dsimp only at W R S
 try dsimp only
 refine ao fun _ j=>WS fun _ X=>rP 3 [0,1] (mc 4 U (mc 3 U I)) ?_
 refine Fz 5 hY R S U U U (zG om) U U (fun B9 C B=>?_) (fun B9 C B=>?_)
 rotate_left 1
 ·refine rP 8 [] I ?_
  refine RK X<|ct U<|bS<|ai<|ai<|aL ?_
  refine hN _ _ _ (jW (vs:=[]) trivial fun w hs=>OS 5 U C B hs)
 refine rP 8 [] (mr 2 U I) ?_
 refine RK X<|bW U (aV fun c=>?_) (aU fun c=>?_)
 ·refine bS<|ai<|ai<|aL ?_
  refine hN _ _ _ (jW (vs:=[]) trivial fun w hs=>SN 5 U (by rw [u6]; have e:ts.length-f.toNat+1=k+1:=om; rw [e]; exact C) B hs)
 refine WK j<|ao fun _ M=>aI<|lT cj [0,1,2,3,4,5,6,7,10,11,12,13,14,15,16,17] [8,9,18,19,20,21] [true,false,false,false,false,false,false,false,true,false,false,false,false,false,false,false] [8,9,18] [(rd tsA ts.length 9 (ts.map ar.cells)).ro,(cp g1 3 [(vI f)]).ro,(cp g2 170 (eM.cells (eM.mk (bP.mk (bD.mk tsA ts.length tsC))))).ro,B9] [(rd tsA ts.length 9 (ts.map ar.cells)).ro,(cp g1 3 [(vI f)]).ro,(cp g2 170 (eM.cells (eM.mk (bP.mk (bD.mk tsA ts.length tsC))))).ro,(cp o 48 (ag.cells (gI ts f.toNat k))),(cp n 48 (ag.cells (eN ts f.toNat k))),B9] kr (aQ [0,1,2,5]) (aQ [0,1,2,3,4,5])<|fS U (LW 4 U b_ U U)<|eS U (FA 0 U eD U)<|eS U (FA 0 U eD U)<|eS U (JI (vS tsA ts.length tsC) 2 U b_ U U)<|eS U (MV U) ?_
 obtain ⟨x,hx⟩:=aJ ts (f.toNat+k) om
 have a:=bM ar.cells hx
 refine eS U (IA (f.toNat+k) U (aB 0 U) yO dc om om) ?_
 have L:=hst x (aP hx)
 refine eS U (o6 (((f.toNat+k)*9)+1) U (aB 0 U) (Nat.mul_pos om dc) eD U)<|eS U (lM (f.toNat+k) 1 (ag.cells x.kG) U b_ (aB 0 U) a U dc U U)<|fS U (LW 3 U b_ U U)<|eS U (FA 0 U eD U)<|eS U (FA 0 U eD U)<|eS U (JI (vS tsA ts.length tsC) 2 U b_ U U)<|eS U (MV U)<|eS U (IA (f.toNat+k) U (aB 0 U) yO dc om om)<|eS U (o6 (((f.toNat+k)*9)+3) U (aB 0 U) (Nat.mul_pos om dc) eD U)<|eS U (lM (f.toNat+k) 3 (ag.cells x.mm) U b_ (aB 0 U) a U dc U U)<|eh U<|m6 [8,18] kr (iF ?_<|iF ?_<|qC)
 rotate_left 1
 ·refine wy (rem':=[8,9,19,20,21]) U kr fun T14 N=>d_ (xs:=[.tmp 39]) (cs:=(ag.cells x.mm)) U lu ed U U U U (by simp [Value.cells,ag.a_]) U U fun T=>aH (N _ _ (aQ [1,2,3,6]) (aQ [1,2,3,4,5,6]) ?_)
  refine N1 8<|wy (rem':=[9,19,20,21]) U kr fun T16 D=>d_ (xs:=[.tmp 29]) (cs:=(ag.cells x.kG)) U lu ed U U U U (by simp [Value.cells,ag.a_]) U U fun AA=>aH (D _ _ (aQ [2,3,4,7]) (aQ [2,3,4,5,6,7]) ?_)
  refine N1 9<|wy (rem':=[19,20,21]) U kr fun T18 O=>?_
  refine rS (CL (dL.eq (qo (eN ts f.toNat k) ([x.kG]) (some ⟨AA,0,none⟩) 1 (by exact rU hst om) (by intro z hz; simp only [cv] at hz; subst hz; exact vL L) sm) nR) (aC (bo 0 rfl rfl (by simp [ag.a_]) rfl)<|aO) rfl) ?_
  refine aH (O _ _ (aQ [2,3,4,7]) (aQ [2,3,4,5,6,7]) ?_)
  refine N1 19<|NO U U [20,21] fun T19 E=>?_
  refine rS (CL (dL.eq (qo (gI ts f.toNat k) ([x.mm]) (some ⟨T,0,none⟩) 1 (by exact x9 hst om) (by intro z hz; simp only [cv] at hz; subst hz; exact ve L) sm) nR) (aC (bo 1 rfl rfl (by simp [ag.a_]) rfl)<|aO) rfl) ?_
  refine aH (E _ _ (aQ [2,3,4,7]) ?_)
  refine N1 20<|NO U U [21] fun T20 F=>Te U cW U<|aH (F _ _ (aQ [2,3,4,7]) ?_)
  refine N1 21<|NO U U [] fun T21 G=>JC U cW U<|aH (G _ _ (aQ [2,3,4,7]) ?_)
  refine l3<|aR<|KK M ?_
  have H:(ag.cells (mK (eN ts f.toNat k) x.kG))=(ag.cells (eN ts f.toNat (k+1))):=by rw [qy hx]
  rw [H]
  have AB:(ag.cells (mK (gI ts f.toNat k) x.mm))=(ag.cells (gI ts f.toNat (k+1))):=by rw [qi hx]
  rw [AB]
  refine aw<|rP 3 [] I ?_
  refine aH ?_
  have K:(vI (f+(((k+1):Nat):Int)))=(vI ((f+(k:Int))+1)):=by exact cI om
  refine bq (V ⟨((k+1),B9),⟨om,C,B⟩⟩ _ _ _ U os (cY 5<|bw U K<|dG.nil _) (aQ [2,3,4,5,6,7]))
 refine wy (rem':=[9,18,19,20,21]) U kr fun T14 N=>d_ (xs:=[.tmp 29]) (cs:=(ag.cells x.kG)) U lu ed U U U U (by simp [Value.cells,ag.a_]) U U fun T=>aH (N _ _ (aQ [1,2,3,6]) (aQ [1,2,3,4,5,6]) ?_)
 refine m6 [9,18] kr (iF ?_<|iF ?_<|qC)
 rotate_left 1
 ·refine wy (rem':=[9,19,20,21]) U kr fun T16 D=>d_ (xs:=[.tmp 39]) (cs:=(ag.cells x.mm)) U lu ed U U U U (by simp [Value.cells,ag.a_]) U U fun AA=>aH (D _ _ (aQ [2,3,4,7]) (aQ [2,3,4,5,6,7]) ?_)
  refine N1 9<|wy (rem':=[19,20,21]) U kr fun T18 O=>?_
  refine rS (CL (dL.eq (qo (eN ts f.toNat k) ([x.kG]) (some ⟨T,0,none⟩) 1 (by exact rU hst om) (by intro z hz; simp only [cv] at hz; subst hz; exact vL L) sm) nR) (aC (bo 1 rfl rfl (by simp [ag.a_]) rfl)<|aO) rfl) ?_
  refine aH (O _ _ (aQ [2,3,4,7]) (aQ [2,3,4,5,6,7]) ?_)
  refine N1 19<|NO U U [20,21] fun T19 E=>?_
  refine rS (CL (dL.eq (qo (gI ts f.toNat k) ([x.mm]) (some ⟨AA,0,none⟩) 1 (by exact x9 hst om) (by intro z hz; simp only [cv] at hz; subst hz; exact ve L) sm) nR) (aC (bo 0 rfl rfl (by simp [ag.a_]) rfl)<|aO) rfl) ?_
  refine aH (E _ _ (aQ [2,3,4,7]) ?_)
  refine N1 20<|NO U U [21] fun T20 F=>Te U cW U<|aH (F _ _ (aQ [2,3,4,7]) ?_)
  refine N1 21<|NO U U [] fun T21 G=>JC U cW U<|aH (G _ _ (aQ [2,3,4,7]) ?_)
  refine l3<|aR<|KK M ?_
  have H:(ag.cells (mK (eN ts f.toNat k) x.kG))=(ag.cells (eN ts f.toNat (k+1))):=by rw [qy hx]
  rw [H]
  have AB:(ag.cells (mK (gI ts f.toNat k) x.mm))=(ag.cells (gI ts f.toNat (k+1))):=by rw [qi hx]
  rw [AB]
  refine aw<|rP 3 [] I ?_
  refine aH ?_
  have K:(vI (f+(((k+1):Nat):Int)))=(vI ((f+(k:Int))+1)):=by exact cI om
  refine bq (V ⟨((k+1),B9),⟨om,C,B⟩⟩ _ _ _ U os (cY 5<|bw U K<|dG.nil _) (aQ [2,3,4,5,6,7]))
 refine wy (rem':=[18,19,20,21]) U kr fun T16 D=>?_
 refine rS (CL (dL.eq (qo (eN ts f.toNat k) ([x.kG]) (some ⟨T,0,none⟩) 1 (by exact rU hst om) (by intro z hz; simp only [cv] at hz; subst hz; exact vL L) sm) nR) (aC (bo 0 rfl rfl (by simp [ag.a_]) rfl)<|aO) rfl) ?_
 refine aH (D _ _ (aQ [1,2,3,6]) (aQ [1,2,3,4,5,6]) ?_)
 refine N1 18<|wy (rem':=[19,20,21]) U kr fun T17 Y=>d_ (xs:=[.tmp 39]) (cs:=(ag.cells x.mm)) U lu ed U U U U (by simp [Value.cells,ag.a_]) U U fun b=>aH (Y _ _ (aQ [2,3,4,7]) (aQ [2,3,4,5,6,7]) ?_)
 refine N1 19<|NO U U [20,21] fun T19 E=>?_
 refine rS (CL (dL.eq (qo (gI ts f.toNat k) ([x.mm]) (some ⟨b,0,none⟩) 1 (by exact x9 hst om) (by intro z hz; simp only [cv] at hz; subst hz; exact ve L) sm) nR) (aC (bo 0 rfl rfl (by simp [ag.a_]) rfl)<|aO) rfl) ?_
 refine aH (E _ _ (aQ [2,3,4,7]) ?_)
 refine N1 20<|NO U U [21] fun T20 F=>Te U cW U<|aH (F _ _ (aQ [2,3,4,7]) ?_)
 refine N1 21<|NO U U [] fun T21 G=>JC U cW U<|aH (G _ _ (aQ [2,3,4,7]) ?_)
 refine l3<|aR<|KK M ?_
 have H:(ag.cells (mK (eN ts f.toNat k) x.kG))=(ag.cells (eN ts f.toNat (k+1))):=by rw [qy hx]
 rw [H]
 have AB:(ag.cells (mK (gI ts f.toNat k) x.mm))=(ag.cells (gI ts f.toNat (k+1))):=by rw [qi hx]
 rw [AB]
 refine aw<|rP 3 [] I ?_
 refine aH ?_
 have K:(vI (f+(((k+1):Nat):Int)))=(vI ((f+(k:Int))+1)):=by exact cI om
 refine bq (V ⟨((k+1),B9),⟨om,C,B⟩⟩ _ _ _ U os (cY 5<|bw U K<|dG.nil _) (aQ [2,3,4,5,6,7]))
theorem Kl (ts:List ar) (tsA:OA) (tsC:Nat) (f t:Int) (hst: ∀ x∈ts,bX x) (hlen:ts.length≤12) (hf:0≤f∧f≤t∧t≤ts.length):
 dL Tryz.prog 100 [(vA (eM.cells (eM.mk (bP.mk (bD.mk tsA ts.length tsC))))),(vI f),(vI t)] [(rd tsA ts.length 9 (ts.map ar.cells))] (vT [(vA (ag.cells (eN ts f.toNat (t-f).toNat))),(vA (ag.cells (gI ts f.toNat (t-f).toNat)))]):=by
 refine bH kr Tryz.func100 U U fun w0 Q hQ hN=>?_
 try dsimp only
 refine WS fun _ M=>eO U fun a=>wR U U fun b=>wR U U fun d=>AL U ed fun e=>AL U ed fun g=>RK M<|ao fun _ AA=>WS fun _ V=>rP 2 [0,1] (mc 4 U (mc 3 U I)) ?_
 refine cX (Oe f tsA ts.length tsC) (aO) U fun u n=>?_
 obtain ⟨B,C⟩:=u
 try dsimp only
 refine RK V<|aI<|jk 7 U (by exact fun _ h=>h) ?_
 refine Fm (L0:=[(3,(vP a)),(4,(vP b)),(5,(vP d)),(6,(vP e)),(7,(vP g))]) (F:=[(rd tsA ts.length 9 (ts.map ar.cells)).ro,(cp B 3 [(vI f)]),(cp C 170 (eM.cells (eM.mk (bP.mk (bD.mk tsA ts.length tsC)))))]) (xs:=(uj ts f.toNat)) (fun k (y:ag×ag×Int)=>(k≤(t-f).toNat)∧(y.2.2=f+(k:Int))) (fun k y=>[(cp g 48 (ag.cells y.2.1)),(cp e 48 (ag.cells y.1)),(cp d 3 [(vI t)]),(cp b 3 [(vI y.2.2)]),(cp a 170 (eM.cells (eM.mk (bP.mk (bD.mk tsA ts.length tsC))))),(rd tsA ts.length 9 (ts.map ar.cells)).ro]) (fun c (z:Unit)=>(c= .exit 0)) (fun _ z=>[(cp g 48 (ag.cells (gI ts f.toNat (t-f).toNat))),(cp e 48 (ag.cells (eN ts f.toNat (t-f).toNat))),(cp d 3 [(vI t)]),(cp b 3 [(vI t)]),(cp a 170 (eM.cells (eM.mk (bP.mk (bD.mk tsA ts.length tsC))))),(rd tsA ts.length 9 (ts.map ar.cells)).ro]) [3,4,5,6,7,8] [0,1,2] (gj,gj,f) U U (Hq ts tsA tsC f B C (by first|assumption|omega|(simp; done)) (by first|assumption|omega|(simp; done)) om) U U U (by exact ⟨Nat.zero_le _,sm⟩) (by simp only [List.forall_mem_cons,List.not_mem_nil,false_imp_iff,implies_true,and_true]; exact ⟨⟨_,sm,(dQ (bY _))⟩,⟨_,sm,(bY _)⟩,⟨_,sm,(bY _)⟩⟩) (by exact Dy) U (bu U) ?_ ?_ ?_ ?_
 rotate_left 1
 ·rintro q ⟨v,z2,m⟩ J
  obtain ⟨A,K⟩:=J
  try dsimp only at A K
  try dsimp only
  exfalso; rw [u6] at A; omega
 ·rintro r id _ Y
  have hc:=Y
  cases hc
  try dsimp only
  refine aL<|KK AA<|ao fun _ D=>dy cj [2,3] [] [] [0,1,2,3,4,5,6,7,8,9] [] U U U U U<|eS U (LW 5 U b_ U U)<|eS U (LW 4 U b_ U U)<|eh U<|cf U fun T30 E=>JC U cW U<|aH (E _ _ (aQ [0,1,2,3,4,5,6,7,8,9]) ?_)
  refine cf U fun T31 G=>Ug U cW U<|aH (G _ _ (aQ [0,1,2,3,4,5,6,7,8,9]) ?_)
  refine e8 U<|KK D<|aq<|hQ _ _ _ (rn 0 U U<|jW (vs:=[(vA (ag.cells (eN ts f.toNat (t-f).toNat))),(vA (ag.cells (gI ts f.toNat (t-f).toNat)))]) ⟨⟨_,U,.inl ⟨_,_,b_,qm (vs:=(ag.cells (eN ts f.toNat (t-f).toNat))) 5 U U,U,U⟩⟩,⟨_,U,.inl ⟨_,_,b_,qm (vs:=(ag.cells (gI ts f.toNat (t-f).toNat))) 4 U U,U,U⟩⟩,trivial⟩ fun w hs=>BZ ?_ hs)
  show (vT [(vA (ag.cells (eN ts f.toNat (t-f).toNat))),(vA (ag.cells (gI ts f.toNat (t-f).toNat)))])=(vT [(vA (ag.cells (eN ts f.toNat (t-f).toNat))),(vA (ag.cells (gI ts f.toNat (t-f).toNat)))])
  clear hs w hQ hN G T31 E T30 D V AA M
  rfl
 ·rintro s _ Z
  cases Z
 rintro k x ⟨v,z2,m⟩ l ra rb S w1 K13 Qr14 hx AB N H L j
 obtain ⟨hk,rfl⟩:=Gv hx
 obtain ⟨A,K⟩:=AB
 try dsimp only at A K
 try dsimp only
 refine WS fun _ O=>AL U ed fun o=>fJ U cW U<|RK O<|aw<|AL U ed fun p=>fJ U cW U<|aH<|g_ (fun _ _ h=>h) (aQ [2,0,1,3,4,5,6,7,8])<|bq (N _ _ ?_)
 refine aI<|ao fun _ P=>ao fun _ R=>dy cj [2,3] [] [] [0,1,2,5,6,7,8] [] U U U U U<|eS U (LW 2 U b_ U U)<|eS U (LW 1 U b_ U U)<|eh U<|cf U fun T21 W=>Ug U cW U<|aH (W _ _ (aQ [0,1,2,5,6,7,8]) ?_)
 refine cf U fun T22 X=>Us U cW U<|aH (X _ _ (aQ [0,1,2,5,6,7,8]) ?_)
 refine e8 U<|KK R<|WS fun _ T=>rP 3 [0,1] (mc 6 U (mc 5 U I)) ?_
 refine RK T<|cy U (aU fun i=>?_) (aV fun i=>?_)
 ·refine bS<|ai<|fD U ?_
  rw [show m=t from by omega]
  obtain rfl:k=(t-f).toNat:=by omega
  exact L _ () _ _ (by exact U) (aQ [0,3,4,5,6,7,8])
 refine WK P<|aw<|rP 2 [] (mc 6 U I) ?_
 refine WA U Ab U U<|aH<|aR ?_
 exact H ((eN ts f.toNat k),(gI ts f.toNat k),(m+1)) _ _ (by refine ⟨om,?_⟩; dsimp only; omega) (aQ [0,3,4,5,6,7,8])
end
section
open Go.RowKit
theorem GW (i:Int) (s:cH) (ts:List ar) (tsA:OA) (tsC g1:Nat) (hst: ∀ x∈ts,bX x) (hlen:ts.length≤12):
 dL Tryz.prog 117 [(vI i),(vA (cH.cells s)),(vP g1)] [(rd tsA ts.length 9 (ts.map ar.cells)),(cp g1 170 (eM.cells (eM.mk (bP.mk (bD.mk tsA ts.length tsC)))))] (vB (!(decide (fR ts s)))):=by
 refine bH kr Tryz.func117 U U fun AA Q hQ hN=>?_
 try dsimp only
 refine WS fun _ C=>eO U fun G=>rP 1 [] I ?_
 refine RK C<|ao fun _ A=>lT cj [0,1,2,3,4,5,6] [7,8,9,10,11,12,13,14,15,16,17,18,19,20,21,22,23,24,25,26] [false,false,false,false,false,false,false] [] [(cp G 83 (cH.cells s)),(rd tsA ts.length 9 (ts.map ar.cells)).ro,(cp g1 170 (eM.cells (eM.mk (bP.mk (bD.mk tsA ts.length tsC))))).ro] [] kr (aQ [0,1,2]) (aQ [])<|eS U (FA 0 U eD U)<|eS U (FA 0 U eD U)<|eS U (JI (vS tsA ts.length tsC) 2 U b_ U U)<|eS U (LN U Tb)<|eS U (BI U (uA ⟨om,om⟩))<|eS U (FA 0 U eD U)<|eS U (L1 (vI s.bB) 0 U b_ U U)<|eh U<|N1 7<|NO U U [8,9,10,11,12,13,14,15,16,17,18,19,20,21,22,23,24,25,26] fun T4 D=>d_ (xs:=[.tmp 12]) (cs:=[(vI s.bB)]) U dk jO U U U U (by simp [Value.cells]) U U fun H=>RD D 1 U<|Qw [14,15,16,17,18,19,20,21,22,23,24,25,26,27,28,29,30,31,5] kr kr U _ U U (aQ [1,2,3]) ?_
 refine dS (CL (dL.eq (pj 0 ((ts.length:Int)-1) ([s.bB]) (some ⟨H,0,none⟩) 1 (by (simp; done))) cw) (aC (bo 0 U U (by simp [bL]) U)<|aO) U) ?_
 refine dP 2 [] I ?_
 refine g7 (t:=16) U (aX fun B=>?_) (aW fun B=>?_)
 ·refine kE 9 U<|dP 7 [] I ?_
  refine cD<|RK A<|aq<|Q1 hQ U U U ?_
  (refine cB ?_; rw [bI (B5 om)]; rfl)
 refine kE 1 U<|dS (LP (ag.cells s.m0) 1 U b_ U U U)<|dP 5 [0,1] (mr 3 U (mc 1 U I)) ?_
 obtain ⟨x,hx⟩:=aJ ts ((s.bB).toNat) om
 have E:=bM ar.cells hx
 refine dS (IA ((s.bB).toNat) U (aB 2 U) yO dc om om)<|dS (o6 ((((s.bB).toNat)*9)+1) U (aB 2 U) (Nat.mul_pos om dc) eD U) ?_
 have F:=(hst x (aP hx)).2.1
 simp only [ek] at F
 refine dS (o6 ((((s.bB).toNat)*9)+1) U (aB 2 U) (Nat.mul_pos om dc) eD U)<|dS (gE ((s.bB).toNat) 1 (vI x.kG.Lo) U b_ (aB 2 U) E U dc U)<|kE 1 U<|dS (CL (wZ s.m0 0 (x.kG.Lo-1)) (aO) U)<|dP 3 [] I ?_
 refine cD<|RK A<|aq<|Q1 hQ U U U ?_
 exact congrArg (fun b=>vB (!b)) (gR.2 (BE om hx).symm)
theorem DS (l:List cH) (lA:OA) (lC:Nat) (f:Value) (p:Int→cH→Bool) (X:ay) (hf: ∀ x0 x1,(∃ k:Nat,x0=(k:Int)∧l[k]? =some x1)→DI Tryz.prog f [.int .i64 x0,.agg (cH.cells x1).toArray] [X] (.bool (p x0 x1))) (hlen:l.length≤1000000):
 pS Tryz.prog 116 [(vS lA l.length lC),f] [(rd lA l.length 3 (l.map cH.cells)),X] (fun (x:(OA)×Nat)=>(vS x.1 ((Iq (fun jj yy=>p (jj:Int) yy) l).length) x.2)) (fun (x:(OA)×Nat)=>True) (fun (x:(OA)×Nat)=>[(own x.1 x.2 3 1 ((Iq (fun jj yy=>p (jj:Int) yy) l).map iC))]):=by
 refine fB kr Tryz.func116 U U fun W Q hQ hN=>?_
 try dsimp only
 refine WS fun _ L=>bE 1 U<|RK L<|WS fun _ M=>bE 1 U<|RK M<|ao fun _ N=>WS fun _ O=>rP 3 [] I ?_
 refine RK O<|aI<|eK 3 1 ?_
 have A:(0≤l.length):=by exact Nat.zero_le _
 refine bZ (ι:={z:Nat×(OA)×Nat // (z.1≤l.length)}) [0,1,8,9] [1,2] U U (fun z=>[(5,(vS z.1.2.1 ((tQ (fun jj yy=>p (jj:Int) yy) l z.1.1).length) z.1.2.2)),(10,(vI (z.1.1:Int)))]) (fun z=>[(own z.1.2.1 z.1.2.2 3 1 ((tQ (fun jj yy=>p (jj:Int) yy) l z.1.1).map iC))]) (fun _=>rfl) (fun _=>rfl) (fun z=>l.length-z.1.1) ⟨(0,none,0),A⟩ (bu U) (aQ [1,2,0]) ?_
 clear A
 rintro ⟨⟨i,a,c⟩,B⟩ J5 C
 try dsimp only at B
 try dsimp only
 refine WS fun _ P=>rP 1 [] I ?_
 refine RK P<|ao fun _ R=>bW U (aV fun V=>?_) (aU fun V=>?_)
 ·refine bS<|ai<|ai<|aL<|KK N<|WS fun _ F=>?_
  rw [Oq (p:=fun (i:Nat) x=>p (i:Int) x) (show i=l.length by omega)]
  refine rP 2 [] I ?_
  refine RK F<|aq<|LX hQ (a,c) [2] [] I U U U U ?_
  trivial
 refine WK R<|ao fun _ G=>aI<|WS fun _ D=>rP 1 [] I ?_
 obtain ⟨x,hx⟩:=aJ l i om
 have S:=bM cH.cells hx
 refine rS (IA i U (aB 0 U) Kt dc om om)<|rS (lM i 0 (cH.cells x) U b_ (aB 0 U) S U dc U U)<|AL U Nd fun T=>bE 1 U<|fJ U Rp U<|RK D<|WS fun _ E=>rP 3 [] (mc 0 U I) ?_
 refine rS (SX (qk U U U (hf (i:Int) x ⟨i,U,hx⟩) (bk [2])) U U)<|RK E<|bW U (fun hp=>?_) (fun hp=>?_)
 ·refine cu<|aR<|KK G<|aw ?_
  rw [← Mi (p:=fun (i:Nat) x=>p (i:Int) x) hx hp]
  refine rP 2 [] I ?_
  refine aH ?_
  have AB:(vI (((i+1):Nat):Int))=(vI ((i:Int)+1)):=by exact cI om
  refine bq (C ⟨((i+1),a,c),(by first|omega|(simp only []; omega))⟩ _ _ _ U os (cY 5<|bw U AB<|dG.nil _) (aQ [1,2,3]))
 refine aw<|rP 2 [] I ?_
 refine d_ (xs:=[.tmp 20]) (cs:=[(vI (i:Int))]) U dk jO U U U U (by simp [Value.cells]) U U fun AA=>?_
 refine dD (es2:=(List.map iC (tQ (fun jj yy=>p (jj:Int) yy) l (i+1)))) (m':=(tQ (fun jj yy=>p (jj:Int) yy) l (i+1)).length) 4 U U U rL U U sm (bo (es:=List.map iC [(i:Int)]) 0 U U (by simp [bL]) U) (kD _) (by have:=CF (p:=fun (i:Nat) x=>p (i:Int) x) (l:=l) (n:=i); simp; omega) (by have:=CF (p:=fun (i:Nat) x=>p (i:Int) x) (l:=l) (n:=i); simp only [maxLen]; omega) (by rw [J1 hx hp]; simp) sm U fun J K=>?_
 try dsimp only
 refine bE 1 U<|aH<|aR<|KK G<|aw<|rP 2 [] I ?_
 refine aH ?_
 have H:(vI (((i+1):Nat):Int))=(vI ((i:Int)+1)):=by exact cI om
 refine bq (C ⟨((i+1),J,K),(by first|omega|(simp only []; omega))⟩ _ _ _ U os (cY 5<|bw U H<|dG.nil _) (aQ [2,3,4]))
theorem BV (ts:List ar) (tsA:OA) (tsC:Nat) (l:List cH) (lA:OA) (lC:Nat) (hst: ∀ x∈ts,bX x) (hlen:ts.length≤12) (hl:l.length≤4):
 dL Tryz.prog 99 [(vA (eM.cells (eM.mk (bP.mk (bD.mk tsA ts.length tsC))))),(vS lA l.length lC)] [(rd tsA ts.length 9 (ts.map ar.cells)),(rd lA l.length 3 (l.map cH.cells))] (vB (decide (∀ s∈l,fR ts s))):=by
 refine bH kr Tryz.func99 U U fun J Q hQ hN=>?_
 try dsimp only
 refine WS fun _ B=>eO U fun A=>bE 1 U<|RK B<|WS fun _ C=>rP 1 [] I ?_
 refine rS (FU U) ?_
 refine cX (DS l lA lC (Value.func (.func 117) [].toArray [(vP A)].toArray) (fun E D=>(!(decide (fR ts D)))) (dT [(rd tsA ts.length 9 (ts.map ar.cells)),(cp A 170 (eM.cells (eM.mk (bP.mk (bD.mk tsA ts.length tsC)))))]) (by intro E D _; exact k7 (fi:=[]) (ca:=[(vP A)]) (jS (GW E D ts tsA tsC A (by first|assumption|omega) (by first|assumption|omega)) (bk [0,1]))) om) (gJ 2 U U<|aC (jX (bk [1,0]))<|aO) U fun G F=>?_
 obtain ⟨H,AA⟩:=G
 try dsimp only
 refine rP 3 [] I ?_
 refine RK C<|aq<|Q1 hQ U U U ?_
 exact congrArg Value.bool (decide_eq_decide.2 (by rw [show ∀ n:Nat,((n:Int)=0)↔n=0 from fun n=>by omega,Ha]; simp only [Bool.not_eq_false',decide_eq_true_eq]; exact ⟨fun h s hs=>by obtain ⟨k,hk⟩:=List.getElem?_of_mem hs; exact h k s hk,fun h k s hk=>h s (List.mem_of_getElem? hk)⟩))
theorem DK (z:ag) (hz:lX z):
 dL Tryz.prog 102 [(vA (ag.cells z))] [] (vA (ag.cells (oL z))):=by
 unfold lX at hz
 refine bH kr Tryz.func102 U U fun E Q hQ hN=>?_
 try dsimp only
 refine WS fun _ A=>eO U fun C=>AL U ed fun D=>RK A<|WS fun _ B=>eV 2 [] (mc 1 U I) U<|rS (NG U ⟨om,om⟩)<|rP 2 [] (mc 1 U I) ?_
 refine rS (NG U ⟨om,om⟩)<|rS (SX (bf (xs:=[(0,.tmp 5),(1,.tmp 8)]) (cs:=(ag.cells (ag.mk (-z.Hi) (-z.Lo)))) U U (bg gO U)) U U)<|fJ U cW U<|RK B<|aq ?_
 exact Dn hQ [0] (mc 0 U I) U U
theorem SC (ts:List ar) (tsA:OA) (tsC:Nat) (s:cH) (hlen:ts.length≤1000000) (hside: ∀ x∈ts,0≤x.je∧x.je≤255):
 dL Tryz.prog 65 [(vA (bP.cells (bP.mk (bD.mk tsA ts.length tsC)))),(vA (cH.cells s))] [(rd tsA ts.length 9 (ts.map ar.cells))] (vT [(vA (ag.cells (Q5 ts s))),(vI (Fx ts s))]):=by
 refine bH kr Tryz.func65 U U fun Z Q hQ hN=>?_
 try dsimp only
 refine WS fun _ K=>eO U fun V=>eO U fun W=>AL U ed fun X=>bE 1 U<|RK K<|WS fun _ L=>eV 1 [] (mc 2 U I) U<|rS (CL (Ge ts tsA tsC hlen hside) (bk [3]) U)<|bE 3 U<|AL U KR fun Y=>fJ U K7 U<|bE 1 U<|RK L<|ao fun _ M=>WS fun _ N=>rP 2 [] I ?_
 refine RK N<|cy U (aX fun he=>?_) (aW fun he=>?_)
 ·refine WS fun _ O=>rS (SX (bf (xs:=[]) (cs:=(ag.cells (ag.mk 0 0))) U U (bg gO U)) U U)<|bE 1 U<|qT U cW U<|rP 1 [] I ?_
  refine RK O<|aq<|mj hQ [0] (mc 1 U I) U ?_
  (have e:=Jo (s:=s) (zR he).1; rw [e.1,e.2,(zR he).2]<;>rfl)
 refine WK M<|ao fun _ C=>WS fun _ D=>?_
 have B:=Eh he
 have H:=ke B
 have R:=kZ B
 refine rP 2 [0,1] (mc 0 U (mc 2 U I)) ?_
 refine d_ (xs:=[.tmp 20]) (cs:=(cH.cells s)) U Kt Nd U U U U (by simp [Value.cells,cH.a_]) U U fun AB=>?_
 refine rS (CL (dL.eq (BV ts tsA tsC ([s]) (some ⟨AB,0,none⟩) 1 asm asm (by (simp; done))) Ed) (gJ 5 U U<|aC (bo 0 U U (by simp [cH.a_]) U)<|aO) U) ?_
 refine rP 1 [] I ?_
 refine RK D<|cy U (aX fun A=>?_) (aW fun A=>?_)
 ·refine WS fun _ E=>rS (SX (bf (xs:=[]) (cs:=(ag.cells (ag.mk 0 0))) U U (bg gO U)) U U)<|DV U cW U<|rP 1 [] I ?_
  refine RK E<|aq<|mj hQ [0] (mc 2 U I) U ?_
  (have e:=Jy B A; rw [e.1,e.2]<;>rfl)
 refine WK C<|WS fun _ F=>?_
 have AA:=A.1
 have P:=q6 H A
 refine eV 3 [0,1] (mc 1 U (mc 3 U I)) U<|rS (CL (Kl ts tsA tsC 0 s.bB asm asm om) (bk [5]) U)<|bE 3 U<|AL U ed fun S=>AL U ed fun T=>qT U cW U<|fJ U cW U<|RK F<|WS fun _ G=>rP 2 [] (mc 1 U I) ?_
 refine rS (LP (ag.cells s.m0) 5 U b_ U U U)<|d_ (xs:=[.tmp 34]) (cs:=(ag.cells s.m0)) U lu ed U U U U (by simp [Value.cells,ag.a_]) U U fun J=>?_
 refine rS (CL (dL.eq (qo (eN ts (0:Int).toNat (s.bB-0).toNat) ([s.m0]) (some ⟨J,0,none⟩) 1 (by exact rU H om) (by intro z hz; simp only [cv] at hz; subst hz; exact P) sm) nR) (aC (bo 0 rfl rfl (by simp [ag.a_]) rfl)<|aO) rfl) ?_
 refine JC U cW U<|rP 1 [] I ?_
 refine RK G<|aq<|mj hQ [0] (mc 5 U I) U ?_
 (have e:=yi B A; rw [e.1,e.2]; unfold L_; rw [show (s.bB-0).toNat=s.bB.toNat by rw [Int.sub_zero]]<;>rfl)
theorem NR (ts:List ar) (tsA:OA) (tsC:Nat) (p:cH) (q:cH) (hlen:ts.length≤1000000) (hside: ∀ x∈ts,0≤x.je∧x.je≤255):
 dL Tryz.prog 66 [(vA (bP.cells (bP.mk (bD.mk tsA ts.length tsC)))),(vA (cH.cells p)),(vA (cH.cells q))] [(rd tsA ts.length 9 (ts.map ar.cells))] (vT [(vA (ag.cells (k6 ts p q))),(vI (l_ ts p q))]):=by
 refine bH kr Tryz.func66 U U fun w Q hQ hN=>?_
 try dsimp only
 refine WS fun _ c=>eO U fun r=>eO U fun s=>eO U fun t=>AL U ed fun u=>bE 1 U<|RK c<|WS fun _ d=>eV 1 [] (mc 3 U I) U<|rS (CL (Ge ts tsA tsC hlen hside) (bk [4]) U)<|bE 3 U<|AL U KR fun v=>fJ U K7 U<|bE 1 U<|RK d<|ao fun _ g=>WS fun _ h=>rP 2 [] I ?_
 refine RK h<|cy U (aX fun he=>?_) (aW fun he=>?_)
 ·refine WS fun _ G=>rS (SX (bf (xs:=[]) (cs:=(ag.cells (ag.mk 0 0))) U U (bg gO U)) U U)<|bE 1 U<|qT U cW U<|rP 1 [] I ?_
  refine RK G<|aq<|mj hQ [0] (mc 1 U I) U ?_
  (have e:=vE (a:=p) (b:=q) (zR he).1; rw [e.1,e.2,(zR he).2]<;>rfl)
 refine WK g<|ao fun _ H=>WS fun _ AB=>?_
 have A:=Eh he
 have F:=ke A
 have j:=kZ A
 refine rP 3 [0,1,2] (mc 0 U (mc 3 U (mc 2 U I))) ?_
 refine d_ (xs:=[.tmp 22,.tmp 23]) (cs:=((cH.cells p)++(cH.cells q))) U Kt Nd U U U U (by simp [Value.cells,cH.a_]) U U fun X=>?_
 refine rS (CL (dL.eq (BV ts tsA tsC ([p,q]) (some ⟨X,0,none⟩) 2 asm asm (by (simp; done))) EA) (gJ 6 U U<|aC (bo 0 U U (by simp [cH.a_]) U)<|aO) U) ?_
 refine rP 1 [] I ?_
 refine RK AB<|cy U (aX fun D=>?_) (aW fun D=>?_)
 ·refine WS fun _ J=>rS (SX (bf (xs:=[]) (cs:=(ag.cells (ag.mk 0 0))) U U (bg gO U)) U U)<|DV U cW U<|rP 1 [] I ?_
  refine RK J<|aq<|mj hQ [0] (mc 2 U I) U ?_
  (have e:=pE A D; rw [e.1,e.2]<;>rfl)
 refine WK H<|WS fun _ K=>?_
 obtain ⟨hp,hq⟩:=D
 have n:=hp.1
 have o:=hq.1
 have i:=q6 F hp
 have W:=q6 F hq
 have V:=AU i
 have B:=rU F (f:=(min p.bB q.bB).toNat) (k:=(max p.bB q.bB-min p.bB q.bB).toNat) om
 refine eV 5 [0,1,2] (mc 1 U (mc 4 U (mc 3 U I))) U<|rS (MN U)<|eV 4 [0,1] (mc 4 U (mc 3 U I)) U<|rS (MX U)<|rS (CL (Kl ts tsA tsC (min p.bB q.bB) (max p.bB q.bB) asm asm om) (bk [6]) U)<|bE 3 U<|AL U ed fun l=>AL U ed fun m=>qT U cW U<|fJ U cW U<|RK K<|ao fun _ C=>WS fun _ L=>rP 5 [0,1] (mc 5 U (mc 6 U I)) ?_
 refine RK L<|bW U (aV fun E=>?_) (aU fun E=>?_)
 ·refine WK C<|ao fun _ N=>dy cj [6,7,8] [] [] [0,1,2,3,5,6,7,8] [] U U U U U<|eS U (LW 1 U b_ U U)<|eS U (FA 1 U eD U)<|eS U (LP (ag.cells q.m0) 4 U b_ U U U)<|eS U (FA 1 U eD U)<|eS U (LP (ag.cells p.m0) 5 U b_ U U U)<|eS U (CL (DK p.m0 asm) (aO) U)<|eS U (AG U)<|eh U<|cf U fun T26 S=>d_ (xs:=[.tmp 52,.tmp 55]) (cs:=((ag.cells q.m0)++(ag.cells (oL p.m0)))) U lu ed U U U U (by simp [Value.cells,ag.a_]) U U fun Z=>aH (S _ _ (aQ [1,2,3,4,6,7,8,9]) ?_)
  refine cf U fun T28 T=>?_
  refine rS (CL (dL.eq (qo (eN ts (min p.bB q.bB).toNat ((max p.bB q.bB)-(min p.bB q.bB)).toNat) ([q.m0,(oL p.m0)]) (some ⟨Z,0,none⟩) 2 (by first|exact B|exact AU B) (by intro z hz; simp only [bR,List.not_mem_nil,or_false] at hz; rcases hz with rfl|rfl; exact W; exact V) sm) Cq) (aC (bo 0 rfl rfl (by simp [ag.a_]) rfl)<|aO) rfl) ?_
  refine aH (T _ _ (aQ [1,2,3,4,6,7,8,9]) ?_)
  refine cf U fun T29 AA=>JC U cW U<|aH (AA _ _ (aQ [1,2,3,4,6,7,8,9]) ?_)
  refine e8 U<|KK N<|aq<|mj hQ [0] (mc 5 U I) U ?_
  (have e:=lB A ⟨hp,hq⟩; rw [e.1,e.2]; unfold j7 xS; rw [if_neg E]<;>rfl)
 refine aw<|rP 1 [] (mc 1 U I) ?_
 refine rS (CL (DK (eN ts (min p.bB q.bB).toNat ((max p.bB q.bB)-(min p.bB q.bB)).toNat) asm) (aO) U)<|qT U cW U<|RK C<|ao fun _ M=>dy cj [6,7,8] [] [] [0,1,2,3,5,6,7,8] [] U U U U U<|eS U (LW 1 U b_ U U)<|eS U (FA 1 U eD U)<|eS U (LP (ag.cells q.m0) 4 U b_ U U U)<|eS U (FA 1 U eD U)<|eS U (LP (ag.cells p.m0) 5 U b_ U U U)<|eS U (CL (DK p.m0 asm) (aO) U)<|eS U (AG U)<|eh U<|cf U fun T21 O=>d_ (xs:=[.tmp 52,.tmp 55]) (cs:=((ag.cells q.m0)++(ag.cells (oL p.m0)))) U lu ed U U U U (by simp [Value.cells,ag.a_]) U U fun Y=>aH (O _ _ (aQ [1,2,3,4,6,7,8,9]) ?_)
 refine cf U fun T23 P=>?_
 refine rS (CL (dL.eq (qo (oL (eN ts (min p.bB q.bB).toNat ((max p.bB q.bB)-(min p.bB q.bB)).toNat)) ([q.m0,(oL p.m0)]) (some ⟨Y,0,none⟩) 2 (by first|exact B|exact AU B) (by intro z hz; simp only [bR,List.not_mem_nil,or_false] at hz; rcases hz with rfl|rfl; exact W; exact V) sm) Cq) (aC (bo 0 rfl rfl (by simp [ag.a_]) rfl)<|aO) rfl) ?_
 refine aH (P _ _ (aQ [1,2,3,4,6,7,8,9]) ?_)
 refine cf U fun T24 R=>JC U cW U<|aH (R _ _ (aQ [1,2,3,4,6,7,8,9]) ?_)
 refine e8 U<|KK M<|aq<|mj hQ [0] (mc 5 U I) U ?_
 (have e:=lB A ⟨hp,hq⟩; rw [e.1,e.2]; unfold j7 xS; rw [if_pos E]<;>rfl)
theorem si (ts:List ar) (tsA:OA) (tsC:Nat) (s:cH) (hst: ∀ x∈ts,bX x) (hlen:ts.length≤12):
 dL Tryz.prog 134 [(vA (bP.cells (bP.mk (bD.mk tsA ts.length tsC)))),(vA (cH.cells s))] [(rd tsA ts.length 9 (ts.map ar.cells))] (vB (decide (fR ts s))):=by
 refine bH kr Tryz.func134 U U fun H Q hQ hN=>?_
 try dsimp only
 refine WS fun _ C=>eO U fun F=>eO U fun G=>bE 1 U<|RK C<|ao fun _ A=>dj cj 22 kr<|lz 6 [0,1] (mc 0 U (mc 1 U I)) U<|dS (CL (pq s.bB 0 ((ts.length:Int)-1)) (aO) U)<|dP 1 [] I ?_
 refine jB (t:=12) U (aV fun B=>?_) (aU fun B=>?_)
 ·refine kE 8 U<|dP 6 [] I ?_
  refine cD<|RK A<|aq<|Q1 hQ U U U ?_
  (refine cB ?_; rw [bI (B5 om)])
 refine kE 1 U<|dS (LP (ag.cells s.m0) 0 U b_ U U U)<|dP 4 [0,1] (mc 1 U (mc 0 U I)) ?_
 obtain ⟨x,hx⟩:=aJ ts ((s.bB).toNat) om
 have D:=bM ar.cells hx
 refine dS (IA ((s.bB).toNat) U (aB 2 U) yO dc om om)<|dS (o6 ((((s.bB).toNat)*9)+1) U (aB 2 U) (Nat.mul_pos om dc) eD U) ?_
 have E:=(hst x (aP hx)).2.1
 simp only [ek] at E
 refine dS (o6 ((((s.bB).toNat)*9)+1) U (aB 2 U) (Nat.mul_pos om dc) eD U)<|dS (gE ((s.bB).toNat) 1 (vI x.kG.Lo) U b_ (aB 2 U) D U dc U)<|kE 1 U<|dS (CL (qn s.m0 0 (x.kG.Lo-1)) (aO) U)<|dP 2 [] I ?_
 refine cD<|RK A<|aq<|Q1 hQ U U U ?_
 exact cB (gR.2 (BE om hx).symm)
theorem Bg (ts:List ar) (tsA:OA) (tsC:Nat) (f t:Int) (hst: ∀ x∈ts,bX x) (hlen:ts.length≤12) (hf:0≤f∧f≤t∧t≤ts.length):
 dL Tryz.prog 160 [(vA (bP.cells (bP.mk (bD.mk tsA ts.length tsC)))),(vI f),(vI t)] [(rd tsA ts.length 9 (ts.map ar.cells))] (vT [(vA (ag.cells (eN ts f.toNat (t-f).toNat))),(vA (ag.cells (gI ts f.toNat (t-f).toNat)))]):=by
 refine bH kr Tryz.func160 U U fun i Q hQ hN=>?_
 try dsimp only
 refine WS fun _ R=>eO U fun e=>AL U ed fun g=>AL U ed fun h=>RK R<|WS fun _ S=>AL U ed fun a=>AL U ed fun b=>RK S<|ao fun _ T=>WS fun _ AA=>rP 2 [] I ?_
 refine RK AA<|aI ?_
 have A:(0≤(t-f).toNat):=by exact Nat.zero_le _
 have K:(vI (f+(0:Int)))=(vI f):=by exact cI om
 refine bZ (ι:={z:Nat // (z≤(t-f).toNat)}) [1,2,3,6,7,8,9] [2,3,4,5] U U (fun z=>[(10,(vI (f+(z.1:Int))))]) (fun z=>[(cp b 48 (ag.cells (gI ts f.toNat z.1))),(cp a 48 (ag.cells (eN ts f.toNat z.1)))]) (fun _=>rfl) (fun _=>rfl) (fun z=>(t-f).toNat-z.1) ⟨0,A⟩ (bw U K<|dG.nil _) (aQ [2,3,4,5,0,1]) ?_
 clear A
 rintro ⟨k,V⟩ J11 B
 try dsimp only
 refine ao fun _ C=>WS fun _ D=>rP 3 [] I ?_
 refine RK D<|bW U (aV fun P=>?_) (aU fun P=>?_)
 ·refine bS<|ai<|ai<|aL<|KK T<|ao fun _ H=>dy cj [2,3] [] [] [2,3,4,5] [] U U U U U<|eS U (LW 3 U b_ U U)<|eS U (LW 2 U b_ U U)<|eh U<|cf U fun T23 AB=>qT U cW U<|aH (AB _ _ (aQ [2,3,4,5]) ?_)
  refine cf U fun T24 J=>fJ U cW U<|aH (J _ _ (aQ [2,3,4,5]) ?_)
  refine e8 U<|KK H<|aq<|mj hQ [0,1] (mc 1 U (mc 0 U I)) U ?_
  obtain rfl:k=(t-f).toNat:=om; rfl
 refine WK C<|ao fun _ E=>aI<|WS fun _ F=>rP 3 [] (mc 2 U I) ?_
 obtain ⟨x,hx⟩:=aJ ts (f.toNat+k) om
 have Y:=bM ar.cells hx
 refine rS (IA (f.toNat+k) U (aB 3 U) yO dc om om)<|rS (lM (f.toNat+k) 0 (ar.cells x) U b_ (aB 3 U) Y U dc U U)<|AL U E5 fun Z=>fJ U Jx U<|RK F<|WS fun _ G=>?_
 have O:=hst x (aP hx)
 have d:=mD hst f.toNat k
 have c:=Fa hst f.toNat k
 have W:=O.2.1
 have X:=O.2.2.1
 simp only [ek] at W X
 refine eV 12 [0,1,0,1] (mc 6 U (mc 0 U I)) U<|rS (SX (bf (xs:=[(0,.tmp 28),(1,.tmp 34)]) (cs:=(ag.cells (ag.mk (((eN ts f.toNat k).Lo)+x.kG.Lo) (((eN ts f.toNat k).Hi)+x.kG.Hi)))) U U (bg gO U)) U U)<|Te U cW U<|RK G<|aw<|rP 12 [0,1,0,1] (mc 5 U (mc 0 U I)) ?_
 refine rS (SX (bf (xs:=[(0,.tmp 41),(1,.tmp 47)]) (cs:=(ag.cells (ag.mk (((gI ts f.toNat k).Lo)+x.mm.Lo) (((gI ts f.toNat k).Hi)+x.mm.Hi)))) U U (bg gO U)) U U)<|JC U cW U<|aH<|aR<|KK E ?_
 have L:(ag.cells (ag.mk (((eN ts f.toNat k).Lo)+x.kG.Lo) (((eN ts f.toNat k).Hi)+x.kG.Hi)))=(ag.cells (eN ts f.toNat (k+1))):=by rw [qy hx]; rfl
 rw [L]
 have M:(ag.cells (ag.mk (((gI ts f.toNat k).Lo)+x.mm.Lo) (((gI ts f.toNat k).Hi)+x.mm.Hi)))=(ag.cells (gI ts f.toNat (k+1))):=by rw [qi hx]; rfl
 rw [M]
 refine aw<|rP 3 [] I ?_
 refine aH ?_
 have N:(vI (f+(((k+1):Nat):Int)))=(vI ((f+(k:Int))+1)):=by exact cI om
 refine bq (B ⟨(k+1),(by first|omega|(simp only []; omega))⟩ _ _ _ U os (cY 7<|bw U N<|dG.nil _) (aQ [1,2,3,4,5,6]))
end
section
open Go.RowKit
theorem Pp (l:bp) (kA:OA) (kC:Nat) (az:List RA) (cA:OA) (cC:Nat) (bA:OA) (bC:Nat) (hin:dY l az):
 dL Tryz.prog 89 [(vA (cr.cells (jC l kA kC cA cC bA bC)))] [(rd kA l.aS.length 9 (l.aS.map ar.cells)),(rd cA l.aj.length 2 (List.zipWith au.cells l.aj az)),(dT (br au.gd l.aj az)),(rd bA l.aa.length 4 (l.aa.map bJ.cells))] (vB (decide (eU l))):=by
 have R:=hin.qS
 have P:=hin.qW
 have N:=hin.nx
 have O:=hin.qU
 refine bH kr Tryz.func89 U U fun T Q hQ hN=>?_
 try dsimp only
 refine WS fun _ G=>eO U fun S=>bE 1 U<|RK G<|WS fun _ A=>rP 2 [] (mc 0 U I) ?_
 refine d_ (xs:=[.tmp 4]) (cs:=[(vI l.hZ)]) U dk jO U U U U (by simp [Value.cells]) U U fun H=>?_
 refine rS (CL (dL.eq (gM 1 5000 ([l.hZ]) (some ⟨H,0,none⟩) 1 (by (simp; done))) cw) (aC (bo 0 U U (by simp [bL]) U)<|aO) U) ?_
 refine rP 1 [] I ?_
 refine bU (t:=7) U (aV fun K=>?_) (aU fun K=>?_)
 ·refine rP 36 [] I ?_
  refine RK A<|aq<|Q1 hQ U U U ?_
  exact cB (bI (by unfold eU; omega)).symm
 refine rP 3 [] (mc 1 U I) ?_
 refine d_ (xs:=[.tmp 10]) (cs:=[(vI (l.aj.length:Int))]) U dk jO U U U U (by simp [Value.cells]) U U fun AA=>?_
 refine rS (CL (dL.eq (gM 1 4 ([(l.aj.length:Int)]) (some ⟨AA,0,none⟩) 1 (by (simp; done))) cw) (aC (bo 0 U U (by simp [bL]) U)<|aO) U) ?_
 refine rP 2 [] I ?_
 refine bU (t:=14) U (aV fun L=>?_) (aU fun L=>?_)
 ·refine rP 29 [] I ?_
  refine RK A<|aq<|Q1 hQ U U U ?_
  exact cB (bI (by unfold eU; omega)).symm
 refine rP 3 [] (mc 2 U I) ?_
 refine d_ (xs:=[.tmp 17]) (cs:=[(vI (l.aa.length:Int))]) U dk jO U U U U (by simp [Value.cells]) U U fun J=>?_
 refine rS (CL (dL.eq (gM 1 6 ([(l.aa.length:Int)]) (some ⟨J,0,none⟩) 1 (by (simp; done))) cw) (aC (bo 0 U U (by simp [bL]) U)<|aO) U) ?_
 refine rP 2 [] I ?_
 refine bU (t:=21) U (aV fun M=>?_) (aU fun M=>?_)
 ·refine rP 22 [] I ?_
  refine RK A<|aq<|Q1 hQ U U U ?_
  exact cB (bI (by unfold eU; omega)).symm
 refine rP 6 [] (mc 3 U I) ?_
 refine d_ (xs:=[.tmp 27]) (cs:=[(vI l.bO)]) U dk jO U U U U (by simp [Value.cells]) U U fun B=>?_
 refine rS (CL (dL.eq (gM 0 ((l.aa.length:Int)-1) ([l.bO]) (some ⟨B,0,none⟩) 1 (by (simp; done))) cw) (aC (bo 0 U U (by simp [bL]) U)<|aO) U) ?_
 refine rP 2 [] I ?_
 refine bU (t:=31) U (aV fun E=>?_) (aU fun E=>?_)
 ·refine rP 12 [] I ?_
  refine RK A<|aq<|Q1 hQ U U U ?_
  exact cB (bI (by unfold eU; omega)).symm
 refine rP 2 [] (mc 4 U I) ?_
 refine d_ (xs:=[.tmp 33]) (cs:=[(vI l.fO)]) U dk jO U U U U (by simp [Value.cells]) U U fun C=>?_
 refine rS (CL (dL.eq (gM 0 3 ([l.fO]) (some ⟨C,0,none⟩) 1 (by (simp; done))) cw) (aC (bo 0 U U (by simp [bL]) U)<|aO) U) ?_
 refine rP 2 [] I ?_
 refine bU (t:=37) U (aV fun F=>?_) (aU fun F=>?_)
 ·refine rP 6 [] I ?_
  refine RK A<|aq<|Q1 hQ U U U ?_
  exact cB (bI (by unfold eU; omega)).symm
 refine rP 2 [] (mc 5 U I) ?_
 refine d_ (xs:=[.tmp 39]) (cs:=[(vI l.dq)]) U dk jO U U U U (by simp [Value.cells]) U U fun D=>?_
 refine rS (CL (dL.eq (gM 0 3 ([l.dq]) (some ⟨D,0,none⟩) 1 (by (simp; done))) cw) (aC (bo 0 U U (by simp [bL]) U)<|aO) U) ?_
 refine rP 2 [] I ?_
 refine RK A<|aq<|Q1 hQ U U U ?_
 exact cB (gR.2 (by unfold eU; omega))
theorem QG (l:bp) (kA:OA) (kC:Nat) (az:List RA) (cA:OA) (cC:Nat) (bA:OA) (bC:Nat) (hin:dY l az):
 dL Tryz.prog 90 [(vA (cr.cells (jC l kA kC cA cC bA bC)))] [(rd kA l.aS.length 9 (l.aS.map ar.cells)),(rd cA l.aj.length 2 (List.zipWith au.cells l.aj az)),(dT (br au.gd l.aj az)),(rd bA l.aa.length 4 (l.aa.map bJ.cells))] (vB (decide (∀ c∈l.aj,eP c))):=by
 have H:=hin.qS
 have G:=hin.qW
 have E:=hin.nx
 have F:=hin.qU
 refine bH kr Tryz.func90 U U fun K Q hQ hN=>?_
 try dsimp only
 refine WS fun _ C=>eO U fun J=>bE 1 U<|RK C<|WS fun _ D=>rP 2 [] (mc 0 U I) ?_
 refine rS (CL (Bc l.aj az cA cC (Value.func (.func 92) [].toArray [].toArray) (fun m=>(!(decide (eP m)))) (dT (br au.gd l.aj az)) (by intro AA m a B A; exact k7 (fi:=[]) (ca:=[]) (T1 l.aj az AA m a (by exact B) (by exact A) (by exact hin.Re _ _ _ B A))) asm asm) (QX 2 3 3 U U U U U U) U) ?_
 refine rP 2 [] I ?_
 refine RK D<|aq<|Q1 hQ U U U ?_
 exact cB (by rw [Bool.eq_iff_iff,decide_eq_true_eq]; exact EC)
theorem Ps (b:bJ) (l:bp) (kA:OA) (kC:Nat) (az:List RA) (cA:OA) (cC:Nat) (bA:OA) (bC g1:Nat) (hin:dY l az) (htr:dB l.aS=true):
 dL Tryz.prog 96 [(vA (bJ.cells b)),(vP g1)] [(rd kA l.aS.length 9 (l.aS.map ar.cells)),(rd cA l.aj.length 2 (List.zipWith au.cells l.aj az)),(dT (br au.gd l.aj az)),(rd bA l.aa.length 4 (l.aa.map bJ.cells)),(cp g1 28 (cr.cells (jC l kA kC cA cC bA bC)))] (vB (!(decide (j_ l b)))):=by
 have J:=hin.qS
 have H:=hin.qW
 have F:=hin.nx
 have G:=hin.qU
 have AA:=hin.side
 refine bH kr Tryz.func96 U U fun M Q hQ hN=>?_
 try dsimp only
 refine WS fun _ C=>eO U fun K=>bE 1 U<|RK C<|WS fun _ D=>bE 1 U<|rS (WE (bP.cells (bP.mk (bD.mk kA l.aS.length kC))) 5 U b_ U U U)<|bE 1 U<|rS (LP (cH.cells b.ni) 0 U b_ U U U)<|rS (CL (SC l.aS kA kC b.ni asm asm) (bk [1]) U)<|bE 3 U<|AL U ed fun L=>fJ U cW U<|bE 1 U<|RK D<|WS fun _ B=>rP 3 [] I ?_
 refine bK (t:=16) U (aX fun A=>?_) (aW fun A=>?_)
 ·refine rP 11 [] I ?_
  refine RK B<|aq<|Q1 hQ U U U ?_
  (refine cB ?_; rw [bI (fun h:j_ l b=>A ((F3 htr).2 h.1))]; rfl)
 refine rP 6 [0,1] (mr 6 U (mc 1 U I)) ?_
 refine d_ (xs:=[.tmp 22]) (cs:=[(vI b.dU)]) U dk jO U U U U (by simp [Value.cells]) U U fun E=>?_
 refine rS (CL (dL.eq (gM 0 ((l.aj.length:Int)-1) ([b.dU]) (some ⟨E,0,none⟩) 1 (by (simp; done))) cw) (aC (bo 0 U U (by simp [bL]) U)<|aO) U) ?_
 refine rP 3 [] I ?_
 refine RK B<|aq<|Q1 hQ U U U ?_
 (refine cB ?_; refine congrArg Bool.not (gR.2 ⟨fun h=>⟨(F3 htr).1 A,om,om⟩,fun h=>by have:=h.2; omega⟩))
theorem PL (l:bp) (kA:OA) (kC:Nat) (az:List RA) (cA:OA) (cC:Nat) (bA:OA) (bC:Nat) (hin:dY l az) (htr:dB l.aS=true):
 dL Tryz.prog 94 [(vA (cr.cells (jC l kA kC cA cC bA bC)))] [(rd kA l.aS.length 9 (l.aS.map ar.cells)),(rd cA l.aj.length 2 (List.zipWith au.cells l.aj az)),(dT (br au.gd l.aj az)),(rd bA l.aa.length 4 (l.aa.map bJ.cells))] (vB (decide (∀ b∈l.aa,j_ l b))):=by
 have H:=hin.qS
 have G:=hin.qW
 have E:=hin.nx
 have F:=hin.qU
 refine bH kr Tryz.func94 U U fun AA Q hQ hN=>?_
 try dsimp only
 refine WS fun _ B=>eO U fun A=>bE 1 U<|RK B<|WS fun _ C=>rP 2 [] (mc 0 U I) ?_
 refine rS (FU U) ?_
 refine rS (CL (z9 l.aa bA bC (Value.func (.func 96) [].toArray [(vP A)].toArray) (fun D=>(!(decide (j_ l D)))) (dT [(rd kA l.aS.length 9 (l.aS.map ar.cells)),(rd cA l.aj.length 2 (List.zipWith au.cells l.aj az)),(dT (br au.gd l.aj az)),(rd bA l.aa.length 4 (l.aa.map bJ.cells)),(cp A 28 (cr.cells (jC l kA kC cA cC bA bC)))]) (by intro D _; exact k7 (fi:=[]) (ca:=[(vP A)]) (jS (Ps D l kA kC az cA cC bA bC A (by first|assumption|omega) (by first|assumption|omega)) (bk [0,1,2,3,4]))) asm) (gJ 4 U U<|aC (jX (bk [1,2,3,4,0]))<|aO) U) ?_
 refine rP 2 [] I ?_
 refine RK C<|aq<|Q1 hQ U U U ?_
 exact cB (by rw [Bool.eq_iff_iff,decide_eq_true_eq]; exact Hc)
theorem F2 (l:bp) (kA:OA) (kC:Nat) (az:List RA) (cA:OA) (cC:Nat) (bA:OA) (bC:Nat) (n:Int) (hin:dY l az) (htr:dB l.aS=true) (hbk: ∀ b∈l.aa,j_ l b) (hn:0≤n∧n<(l.aa.length:Int)):
 dL Tryz.prog 44 [(vA (cr.cells (jC l kA kC cA cC bA bC))),(vI n)] [(rd kA l.aS.length 9 (l.aS.map ar.cells)),(rd cA l.aj.length 2 (List.zipWith au.cells l.aj az)),(dT (br au.gd l.aj az)),(rd bA l.aa.length 4 (l.aa.map bJ.cells))] (vI (lg l n.toNat)):=by
 have P:=hin.qS
 have N:=hin.qW
 have L:=hin.nx
 have M:=hin.qU
 have O:=hin.side
 refine bH kr Tryz.func44 U U fun AA Q hQ hN=>?_
 try dsimp only
 refine WS fun _ E=>eO U fun R=>bE 1 U<|RK E<|WS fun _ F=>rP 3 [] (mc 0 U I) ?_
 obtain ⟨x,hx⟩:=aJ l.aa ((n).toNat) om
 have J:=bM bJ.cells hx
 refine rS (IA ((n).toNat) U (aB 4 U) uR dc om om)<|rS (o6 (((n).toNat)*4) U (aB 4 U) (Nat.mul_pos om dc) eD U)<|rS (lM ((n).toNat) 0 (cH.cells x.ni) U b_ (aB 4 U) J U dc U U)<|AL U Nd fun S=>fJ U Rp U<|RK F<|WS fun _ G=>bE 1 U<|rS (LP (bP.cells (bP.mk (bD.mk kA l.aS.length kC))) 1 U b_ U U U)<|eV 1 [] (mc 0 U I) U<|rS (CL (SC l.aS kA kC x.ni asm asm) (bk [2]) U)<|bE 3 U<|AL U ed fun T=>fJ U cW U<|bE 1 U<|RK G<|ao fun _ C=>WS fun _ H=>rP 2 [] I ?_
 refine RK H<|bW U (aV fun D=>?_) (aU fun D=>?_)
 ·refine WK C<|WS fun _ B=>rP 3 [] (mc 0 U I) ?_
  refine RK B<|aq<|Q1 hQ U U U ?_
  (refine congrArg (Value.int .i64) ?_; rw [show n.toNat=0 by omega] at hx ⊢; rw [zB hx,(yi htr (hbk _ (List.mem_of_getElem? hx)).1).2])
 refine dy cj [14] [] [] [1,2,3,4,5,6] [] U U U U U<|eS U (FA 0 U eD U)<|eS U (LP (bP.cells (bP.mk (bD.mk kA l.aS.length kC))) 1 U b_ U U U)<|eS U (FA 3 U eD U)<|eS U (L1 (vS bA l.aa.length bC) 1 U b_ U U)<|eS U (MV U)<|eS U (BI U (uA ⟨om,om⟩)) ?_
 obtain ⟨y,hy⟩:=aJ l.aa (((n-1)).toNat) om
 have K:=bM bJ.cells hy
 refine eS U (IA (((n-1)).toNat) U (aB 5 U) uR dc om om)<|eS U (o6 ((((n-1)).toNat)*4) U (aB 5 U) (Nat.mul_pos om dc) eD U)<|eS U (lM (((n-1)).toNat) 0 (cH.cells y.ni) U b_ (aB 5 U) K U dc U U)<|eS U (LW 0 U b_ U U)<|eS U (CL (NR l.aS kA kC y.ni x.ni asm asm) (bk [2]) U)<|eS U (MV U)<|eS U (EX U)<|eS U (EX U)<|eh U<|cf U fun T9 AB=>fJ U cW U<|aH (AB _ _ (aQ [1,2,3,4,5,6]) ?_)
 refine e8 U<|KK C<|WS fun _ A=>rP 3 [] (mc 0 U I) ?_
 refine RK A<|aq<|Q1 hQ U U U ?_
 (refine congrArg (Value.int .i64) ?_; rw [CN om hx (by rw [show n.toNat-1=(n-1).toNat by omega]; exact hy),(lB htr ⟨(hbk _ (List.mem_of_getElem? hy)).1,(hbk _ (List.mem_of_getElem? hx)).1⟩).2])
theorem PS (l:bp) (kA:OA) (kC:Nat) (az:List RA) (cA:OA) (cC:Nat) (bA:OA) (bC:Nat) (hin:dY l az) (htr:dB l.aS=true) (hbk: ∀ b∈l.aa,j_ l b):
 dL Tryz.prog 97 [(vA (cr.cells (jC l kA kC cA cC bA bC)))] [(rd kA l.aS.length 9 (l.aS.map ar.cells)),(rd cA l.aj.length 2 (List.zipWith au.cells l.aj az)),(dT (br au.gd l.aj az)),(rd bA l.aa.length 4 (l.aa.map bJ.cells))] (vB (decide (∀ i,i<l.aa.length→1≤lg l i))):=by
 have V:=hin.qS
 have AA:=hin.qW
 have S:=hin.nx
 have T:=hin.qU
 refine bH kr Tryz.func97 U U fun X Q hQ hN=>?_
 try dsimp only
 refine WS fun _ J=>eO U fun W=>bE 1 U<|RK J<|ao fun _ K=>WS fun _ L=>rP 4 [] (mc 0 U I) ?_
 refine RK L<|aI ?_
 have A:(0≤l.aa.length)∧(∀ j,j<0→1≤lg l j):=by exact ⟨Nat.zero_le _,fun j hj=>absurd hj (Nat.not_lt_zero _)⟩
 refine bZ (ι:={z:Nat // (z≤l.aa.length)∧(∀ j,j<z→1≤lg l j)}) [1,6] [0,1,2,3,4] U U (fun z=>[(7,(vI (z.1:Int)))]) (fun z=>[]) (fun _=>rfl) (fun _=>rfl) (fun z=>l.aa.length-z.1) ⟨0,A⟩ (bu U) (aQ [0,1,2,3,4]) ?_
 clear A
 rintro ⟨i,⟨P,B⟩⟩ J5 AB
 try dsimp only
 refine WS fun _ M=>rP 1 [] I ?_
 refine RK M<|ao fun _ N=>bW U (aV fun R=>?_) (aU fun R=>?_)
 ·refine bS<|ai<|ai<|aL<|KK K<|WS fun _ G=>rP 1 [] I ?_
  refine RK G<|aq<|Q1 hQ U U U ?_
  exact cB (dN (fun j hj=>B j om)).symm
 refine WK N<|ao fun _ O=>aI<|WS fun _ D=>bE 2 U<|RK D<|WS fun _ E=>eV 2 [] (mc 0 U I) U<|rS (CL (F2 l kA kC az cA cC bA bC (i:Int) hin htr hbk om) (bk [1,2,3,4]) U)<|rP 1 [] I ?_
 refine RK E<|cy U (aU fun C=>?_) (aV fun C=>?_)
 ·refine WS fun _ F=>rP 1 [] I ?_
  refine RK F<|aq<|Q1 hQ U U U ?_
  exact cB (bI (fun h=>by have:=h i om; simp only [Int.toNat_natCast] at C; omega)).symm
 refine cu<|aR<|KK O<|aw<|rP 2 [] I ?_
 refine aH ?_
 have H:(vI (((i+1):Nat):Int))=(vI ((i:Int)+1)):=by exact cI om
 refine bq (AB ⟨(i+1),⟨om,fun j hj=>by rcases Nat.lt_or_ge j i with q|q; exact B j q; (obtain rfl:j=i:=by omega); simp only [Int.toNat_natCast] at C; omega⟩⟩ _ _ _ rfl os (dG.cons rfl<|dG.cons rfl<|bw rfl H<|dG.nil _) (aQ [0,1,2,3,4]))
end
section
open Go.RowKit
theorem Ph:
 dL Tryz.prog 63 [] [] (vA ((g0.cells (g0.mk (Value.func (.func 89) [].toArray [].toArray)))++(g0.cells (g0.mk (Value.func (.func 90) [].toArray [].toArray)))++(g0.cells (g0.mk (Value.func (.func 94) [].toArray [].toArray)))++(g0.cells (g0.mk (Value.func (.func 97) [].toArray [].toArray))))):=by
 refine bH kr Tryz.func63 U U fun D Q hQ hN=>?_
 try dsimp only
 refine WS fun _ A=>AL U Tu fun C=>RK A<|WS fun _ B=>rS (SX (bf (xs:=[(0,.func 89)]) (cs:=(g0.cells (g0.mk (Value.func (.func 89) [].toArray [].toArray)))) U U (bg Gd U)) U U)<|rS (SX (bf (xs:=[(0,.func 90)]) (cs:=(g0.cells (g0.mk (Value.func (.func 90) [].toArray [].toArray)))) U U (bg Gd U)) U U)<|rS (SX (bf (xs:=[(0,.func 94)]) (cs:=(g0.cells (g0.mk (Value.func (.func 94) [].toArray [].toArray)))) U U (bg Gd U)) U U)<|rS (SX (bf (xs:=[(0,.func 97)]) (cs:=(g0.cells (g0.mk (Value.func (.func 97) [].toArray [].toArray)))) U U (bg Gd U)) U U)<|rS (SX (bf (xs:=[(0,.tmp 1),(1,.tmp 2),(2,.tmp 3),(3,.tmp 4)]) (cs:=((g0.cells (g0.mk (Value.func (.func 89) [].toArray [].toArray)))++(g0.cells (g0.mk (Value.func (.func 90) [].toArray [].toArray)))++(g0.cells (g0.mk (Value.func (.func 94) [].toArray [].toArray)))++(g0.cells (g0.mk (Value.func (.func 97) [].toArray [].toArray))))) U U (bg Sy U)) U U)<|fJ U Ua U<|RK B<|aq ?_
 exact Dn hQ [0] (mc 0 U I) U U
theorem r8 (l:bp) (kA:OA) (kC:Nat) (az:List RA) (cA:OA) (cC:Nat) (bA:OA) (bC:Nat) (hin:dY l az):
 dL Tryz.prog 41 [(vA (cr.cells (jC l kA kC cA cC bA bC)))] [(rd kA l.aS.length 9 (l.aS.map ar.cells)),(rd cA l.aj.length 2 (List.zipWith au.cells l.aj az)),(dT (br au.gd l.aj az)),(rd bA l.aa.length 4 (l.aa.map bJ.cells))] (vI (dg l)):=by
 have A1:=hin.qS
 have An:=hin.qW
 have AO:=hin.nx
 have Ad:=hin.qU
 have A0:=hin.side
 refine bH kr Tryz.func41 U U fun w0 Q hQ hN=>?_
 try dsimp only
 refine WS fun _ m=>eO U fun b2=>bE 1 U<|RK m<|ao fun _ n=>WS fun _ o=>bE 1 U<|rS (LP (bP.cells (bP.mk (bD.mk kA l.aS.length kC))) 0 U b_ U U U)<|rS (CL (CK l.aS kA kC asm asm) (bk [1]) U)<|bE 1 U<|RK o<|WS fun _ p=>rP 2 [] I ?_
 refine RK p<|cy U (aX fun B=>?_) (aW fun B=>?_)
 ·refine WS fun _ q=>rP 2 [] I ?_
  refine RK q<|aq<|Q1 hQ U U U ?_
  (refine cI ?_; rw [(zR B).2,zM (zR B).1])
 refine WK n<|ao fun _ s=>WS fun _ t=>?_
 have A:=Eh B
 refine rS (CL Ph (aO) U)<|bE 1 U<|RK t<|aI<|rW 5<|kS fun R9 u=>WS fun _ C=>rS (SX (gn (r:= .bool true) U U U qB) U U)<|RK C<|ao fun _ D=>aT U<|WK D<|ao fun _ E=>aI<|WS fun _ F=>rS (SX (u0 (vs:=(g0.cells (g0.mk (Value.func (.func 89) [].toArray [].toArray)))) 0 U U U FB b_ U dc U) U U)<|AL U FH fun x=>fJ U Fi U<|RK F<|WS fun _ G=>eV 3 [0,1] (mc 0 U (mc 1 U I)) U<|rS (CL (Pp l kA kC az cA cC bA bC hin) (bk [2,3,4,5]) U)<|rP 1 [] I ?_
 refine RK G<|cy U (aX fun g=>?_) (aW fun g=>?_)
 ·refine WS fun _ H=>rP 1 [] I ?_
  refine RK H<|aq<|Q1 hQ U U U ?_
  exact cI (rN A fun h=>absurd h.head asm).symm
 refine cu<|aR<|KK E<|aw<|rS (SX (gn (r:= .int .i64 1) U U U (kx ⟨dc,dc⟩)) U U)<|bE 1 U<|RK u<|kS fun R18 d=>WS fun _ AB=>rS (SX (gn (r:= .bool true) U U U qB) U U)<|RK AB<|ao fun _ J=>aT U<|WK J<|ao fun _ K=>aI<|WS fun _ L=>rS (SX (u0 (vs:=(g0.cells (g0.mk (Value.func (.func 90) [].toArray [].toArray)))) 1 U U U FB b_ U dc U) U U)<|AL U FH fun y=>fJ U Fi U<|RK L<|WS fun _ M=>eV 3 [0,1] (mc 0 U (mc 2 U I)) U<|rS (CL (QG l kA kC az cA cC bA bC hin) (bk [3,4,5,6]) U)<|rP 1 [] I ?_
 refine RK M<|cy U (aX fun i=>?_) (aW fun i=>?_)
 ·refine WS fun _ N=>rP 1 [] I ?_
  refine RK N<|aq<|Q1 hQ U U U ?_
  exact cI (rN A fun h=>absurd h.clock asm).symm
 refine cu<|aR<|KK K<|aw<|rS (SX (gn (r:= .int .i64 2) U U U (kx ⟨dc,dc⟩)) U U)<|bE 1 U<|RK d<|kS fun R27 e=>WS fun _ O=>rS (SX (gn (r:= .bool true) U U U qB) U U)<|RK O<|ao fun _ P=>aT U<|WK P<|ao fun _ R=>aI<|WS fun _ S=>rS (SX (u0 (vs:=(g0.cells (g0.mk (Value.func (.func 94) [].toArray [].toArray)))) 2 U U U FB b_ U dc U) U U)<|AL U FH fun z=>fJ U Fi U<|RK S<|WS fun _ T=>eV 3 [0,1] (mc 0 U (mc 3 U I)) U<|rS (CL (PL l kA kC az cA cC bA bC hin asm) (bk [4,5,6,7]) U)<|rP 1 [] I ?_
 refine RK T<|cy U (aX fun j=>?_) (aW fun j=>?_)
 ·refine WS fun _ AA=>rP 1 [] I ?_
  refine RK AA<|aq<|Q1 hQ U U U ?_
  exact cI (rN A fun h=>absurd h.re asm).symm
 refine cu<|aR<|KK R<|aw<|rS (SX (gn (r:= .int .i64 3) U U U (kx ⟨dc,dc⟩)) U U)<|bE 1 U<|RK e<|kS fun R36 f=>WS fun _ V=>rS (SX (gn (r:= .bool true) U U U qB) U U)<|RK V<|ao fun _ W=>aT U<|WK W<|ao fun _ X=>aI<|WS fun _ Y=>rS (SX (u0 (vs:=(g0.cells (g0.mk (Value.func (.func 97) [].toArray [].toArray)))) 3 U U U FB b_ U dc U) U U)<|AL U FH fun AC=>fJ U Fi U<|RK Y<|WS fun _ Z=>eV 3 [0,1] (mc 0 U (mc 4 U I)) U<|rS (CL (PS l kA kC az cA cC bA bC hin asm asm) (bk [5,6,7,8]) U)<|rP 1 [] I ?_
 refine RK Z<|cy U (aX fun k=>?_) (aW fun k=>?_)
 ·refine WS fun _ a=>rP 1 [] I ?_
  refine RK a<|aq<|Q1 hQ U U U ?_
  exact cI (rN A fun h=>absurd h.Oy asm).symm
 refine cu<|aR<|KK X<|aw<|rS (SX (gn (r:= .int .i64 4) U U U (kx ⟨dc,dc⟩)) U U)<|bE 1 U<|RK f<|kS fun R45 w=>WS fun _ b=>rS (SX (gn (r:= .bool false) U U U qB) U U)<|RK b<|ao fun _ v=>ct U<|bS<|ai<|ai<|aL<|KK s<|WS fun _ c=>rP 1 [] I ?_
 refine RK c<|aq<|Q1 hQ U U U ?_
 exact cI (w7 A (y7 asm asm asm asm)).symm
theorem E4 (l:bp) (kA:OA) (kC:Nat) (az:List RA) (cA:OA) (cC:Nat) (bA:OA) (bC:Nat) (ck at_:Int) (hin:dY l az):
 dL Tryz.prog 24 [(vA (cr.cells (jC l kA kC cA cC bA bC))),(vI ck),(vI at_)] [(rd kA l.aS.length 9 (l.aS.map ar.cells)),(rd cA l.aj.length 2 (List.zipWith au.cells l.aj az)),(dT (br au.gd l.aj az)),(rd bA l.aa.length 4 (l.aa.map bJ.cells))] (vT [(vA (ag.cells (fh l ck at_))),(vI (nj l ck at_))]):=by
 have W:=hin.qS
 have V:=hin.qW
 have T:=hin.nx
 have AA:=hin.qU
 refine bH kr Tryz.func24 U U fun a Q hQ hN=>?_
 try dsimp only
 refine WS fun _ K=>eO U fun Y=>AL U ed fun Z=>bE 1 U<|RK K<|ao fun _ L=>WS fun _ M=>eV 1 [] (mc 1 U I) U<|rS (CL (r8 l kA kC az cA cC bA bC hin) (bk [2,3,4,5]) U)<|bE 1 U<|RK M<|WS fun _ N=>rP 2 [] I ?_
 refine RK N<|cy U (aX fun A=>?_) (aW fun A=>?_)
 ·refine WS fun _ O=>rS (SX (bf (xs:=[]) (cs:=(ag.cells (ag.mk 0 0))) U U (bg gO U)) U U)<|bE 1 U<|fJ U cW U<|rP 1 [] I ?_
  refine RK O<|aq<|mj hQ [0] (mc 0 U I) U ?_
  first|(have e:=sj (ck:=ck) (at_:=at_) A; rw [e.1,e.2]<;>rfl)|(have e:=pG (ck:=ck) (at_:=at_) A om hx; rw [e.1,e.2]<;>rfl)|(have e:=nH (ck:=ck) (at_:=at_) A om; rw [e.1,e.2]<;>rfl)
 refine WK L<|ao fun _ P=>WS fun _ E=>?_
 obtain ⟨X,R⟩:=du A
 refine rP 5 [] (mc 1 U I) ?_
 refine d_ (xs:=[.tmp 19]) (cs:=[(vI ck)]) U dk jO U U U U (by simp [Value.cells]) U U fun G=>?_
 refine rS (CL (dL.eq (gM 0 ((l.aj.length:Int)-1) ([ck]) (some ⟨G,0,none⟩) 1 sd) cw) (aC (bo 0 U U (by simp [bL]) U)<|aO) U) ?_
 refine rP 2 [] I ?_
 refine bK (t:=23) U (aX fun AB=>?_) (aW fun AB=>?_)
 ·refine bE 5 U<|RK E<|aT U<|WS fun _ B=>rS (SX (bf (xs:=[]) (cs:=(ag.cells (ag.mk 0 0))) U U (bg gO U)) U U)<|qT U cW U<|rP 1 [] I ?_
  refine RK B<|aq<|mj hQ [0] (mc 1 U I) U ?_
  first|(have e:=sj (ck:=ck) (at_:=at_) A; rw [e.1,e.2]<;>rfl)|(have e:=pG (ck:=ck) (at_:=at_) A om hx; rw [e.1,e.2]<;>rfl)|(have e:=nH (ck:=ck) (at_:=at_) A om; rw [e.1,e.2]<;>rfl)
 refine rP 1 [] I ?_
 refine d_ (xs:=[.tmp 24]) (cs:=[(vI at_)]) U dk jO U U U U (by simp [Value.cells]) U U fun H=>?_
 refine rS (CL (dL.eq (gM 0 86400000 ([at_]) (some ⟨H,0,none⟩) 1 sd) cw) (aC (bo 0 U U (by simp [bL]) U)<|aO) U) ?_
 refine rP 2 [] I ?_
 refine RK E<|cy U (aX fun J=>?_) (aW fun J=>?_)
 ·refine WS fun _ C=>rS (SX (bf (xs:=[]) (cs:=(ag.cells (ag.mk 0 0))) U U (bg gO U)) U U)<|DV U cW U<|rP 1 [] I ?_
  refine RK C<|aq<|mj hQ [0] (mc 2 U I) U ?_
  first|(have e:=sj (ck:=ck) (at_:=at_) A; rw [e.1,e.2]<;>rfl)|(have e:=pG (ck:=ck) (at_:=at_) A om hx; rw [e.1,e.2]<;>rfl)|(have e:=nH (ck:=ck) (at_:=at_) A om; rw [e.1,e.2]<;>rfl)
 refine WK P<|WS fun _ D=>rP 3 [] (mc 3 U I) ?_
 obtain ⟨x,hx⟩:=aJ l.aj ((ck).toNat) om
 obtain ⟨xa,F⟩:=aJ az ((ck).toNat) om
 have S:(List.zipWith au.cells l.aj az)[(ck).toNat]? =some (au.cells x xa):=dF hx F
 refine rS (IA ((ck).toNat) U (aB 5 U) yV dc om om)<|rS (lM ((ck).toNat) 0 (dx.cells (dx.mk x.dw (bD.mk xa.1 x.bG.length xa.2))) U b_ (aB 5 U) S U dc U U)<|rP 1 [] I ?_
 refine rS (CL (AW x xa.1 xa.2 at_ (by exact R.clock _ (aP hx)) sd) (aC (show iJ _ (rd xa.1 x.bG.length 3 (x.bG.map cM.cells)).holds from (cU 6 U (bQ hx F (by simp [au.gd]))))<|aO) U) ?_
 refine DV U cW U<|rP 1 [] I ?_
 refine RK D<|aq<|mj hQ [0] (mc 2 U I) U ?_
 first|(have e:=sj (ck:=ck) (at_:=at_) A; rw [e.1,e.2]<;>rfl)|(have e:=pG (ck:=ck) (at_:=at_) A om hx; rw [e.1,e.2]<;>rfl)|(have e:=nH (ck:=ck) (at_:=at_) A om; rw [e.1,e.2]<;>rfl)
theorem Df (lo hi:Int) (f:Value) (p:Int→Bool) (X:ay) (r:Int) (hf: ∀ x0,0≤x0∧x0<hi→DI Tryz.prog f [.int .i64 x0] [X] (.bool (p x0))) (hb:0≤lo∧lo≤r∧r≤hi∧hi≤100000000) (hno: ∀ x,lo≤x→x<r→p x=false) (hyes: ∀ x,r≤x→x<hi→p x=true):
 dL Tryz.prog 147 [(vI lo),(vI hi),f] [X] (vI r):=by
 refine bH kr Tryz.func147 U U fun N Q hQ hN=>?_
 try dsimp only
 refine WS fun _ F=>rP 1 [] I ?_
 refine RK F<|ao fun _ G=>aI ?_
 have A:(lo≤lo∧lo≤r)∧(r≤hi∧hi≤hi):=by omega
 refine bZ (ι:={z:Int×Int // (lo≤z.1∧z.1≤r)∧(r≤z.2∧z.2≤hi)}) [2] [0] U U (fun z=>[(0,(vI z.1.1)),(1,(vI z.1.2))]) (fun z=>[]) (fun _=>rfl) (fun _=>rfl) (fun z=>(z.1.2-z.1.1).toNat) ⟨(lo,hi),A⟩ (bu U) (aQ [0]) ?_
 clear A
 rintro ⟨⟨a,b⟩,⟨B,C⟩⟩ J3 D
 try dsimp only at B C
 try dsimp only
 refine ao fun _ H=>WS fun _ AA=>rP 3 [] I ?_
 refine RK AA<|bW U (aV fun M=>?_) (aU fun M=>?_)
 ·refine bS<|ai<|ai<|aL<|KK G<|WS fun _ L=>rP 2 [] I ?_
  refine RK L<|aq<|Q1 hQ U U U ?_
  exact cI om
 refine WK H<|aI<|WS fun _ J=>bE 4 U<|rS (BI U (uz om om om))<|bE 2 U<|RK J<|WS fun _ K=>rP 2 [] I ?_
 refine rS (SX (qk U U U (hf (a+((b-a)/2)) om) (bk [0])) U U)<|RK K<|cy U (fun hp=>?_) (fun hp=>?_)
 ·refine aw<|rP 2 [] I ?_
  refine aH<|aR ?_
  refine bq (D ⟨(a,(a+((b-a)/2))),(by dsimp only; rcases Int.lt_or_le (a+(b-a)/2) r with q|q; (have E:=hno _ om q; (rw [E] at hp; cases hp)); (have E:=hyes _ q om; (refine ⟨⟨om,om⟩,om,om⟩)))⟩ _ _ _ rfl (by simp only []; omega) (bu rfl) (aQ [0]))
 refine aw<|rP 3 [] I ?_
 refine aH<|aR ?_
 refine bq (D ⟨(((a+((b-a)/2))+1),b),(by dsimp only; rcases Int.lt_or_le (a+(b-a)/2) r with q|q; (have E:=hno _ om q; (refine ⟨⟨om,om⟩,om,om⟩)); (have E:=hyes _ q om; (rw [E] at hp; cases hp)))⟩ _ _ _ rfl (by simp only []; omega) (bu rfl) (aQ [0]))
theorem Kp (u:Int) (c:au) (sA:OA) (sC g1:Nat) (s:aA) (g2:Nat) (hc:eP c) (hu:0≤u∧u≤90000000):
 dL Tryz.prog 148 [(vI u),(vP g1),(vP g2)] [(rd sA c.bG.length 3 (c.bG.map cM.cells)),(cp g1 107 (dx.cells (dx.mk c.dw (bD.mk sA c.bG.length sC)))),(cp g2 87 (aA.cells s))] (vB (decide (s.Read≤u+(gr c u).Hi))):=by
 have C:=od hc hu
 refine bH kr Tryz.func148 U U fun D Q hQ hN=>?_
 try dsimp only
 refine WS fun _ A=>bE 1 U<|RK A<|ao fun _ B=>dj cj 10 kr<|lz 3 [] (mr 1 U I) U<|dS (CL (AW c sA sC u hc hu) (bk [0]) U)<|dS (SX (sD (v:=(vI ((gr c u).Hi))) U U eD Ke U) U U)<|dP 5 [] (mr 2 U I) ?_
 refine cD<|RK B<|aq ?_
 exact Q1 hQ U U U U
theorem Is (u:Int) (c:au) (sA:OA) (sC g1:Nat) (s:aA) (g2:Nat) (hc:eP c) (hu:0≤u∧u≤90000000):
 dL Tryz.prog 149 [(vI u),(vP g1),(vP g2)] [(rd sA c.bG.length 3 (c.bG.map cM.cells)),(cp g1 107 (dx.cells (dx.mk c.dw (bD.mk sA c.bG.length sC)))),(cp g2 87 (aA.cells s))] (vB (decide (s.Read<u+(gr c u).Lo))):=by
 have C:=od hc hu
 refine bH kr Tryz.func149 U U fun D Q hQ hN=>?_
 try dsimp only
 refine WS fun _ A=>bE 1 U<|RK A<|ao fun _ B=>dj cj 10 kr<|lz 3 [] (mr 1 U I) U<|dS (CL (AW c sA sC u hc hu) (bk [0]) U)<|dS (SX (sD (v:=(vI ((gr c u).Lo))) U U eD IX U) U U)<|dP 5 [] (mr 2 U I) ?_
 refine cD<|RK B<|aq ?_
 exact Q1 hQ U U U U
theorem Av (l:bp) (kA:OA) (kC:Nat) (az:List RA) (cA:OA) (cC:Nat) (bA:OA) (bC:Nat) (s:aA) (hin:dY l az) (hok:lF l) (hs:(0≤s.fE∧s.fE≤(l.aa.length:Int)-1)∧0≤s.Read∧s.Read≤86400000):
 dL Tryz.prog 124 [(vA (cr.cells (jC l kA kC cA cC bA bC))),(vA (aA.cells s))] [(rd kA l.aS.length 9 (l.aS.map ar.cells)),(rd cA l.aj.length 2 (List.zipWith au.cells l.aj az)),(dT (br au.gd l.aj az)),(rd bA l.aa.length 4 (l.aa.map bJ.cells))] (vA (ag.cells (cG l s))):=by
 have V:=hin.qS
 have S:=hin.qW
 have P:=hin.nx
 have R:=hin.qU
 refine bH kr Tryz.func124 U U fun Z Q hQ hN=>?_
 try dsimp only
 refine WS fun _ AB=>eO U fun X=>eO U fun D=>AL U ed fun Y=>RK AB<|ao fun _ J=>dy cj [11,12] [] [] [0,1,2,3,4,5,6] [] U U U U U<|eS U (FA 2 U eD U)<|eS U (L1 (vS cA l.aj.length cC) 2 U b_ U U)<|eS U (FA 3 U eD U)<|eS U (L1 (vS bA l.aa.length bC) 2 U b_ U U)<|eS U (FA 0 U eD U)<|eS U (L1 (vI s.fE) 1 U b_ U U) ?_
 obtain ⟨y,hy⟩:=aJ l.aa ((s.fE).toNat) om
 have O:=bM bJ.cells hy
 refine eS U (IA ((s.fE).toNat) U (aB 6 U) uR dc om om)<|eS U (o6 ((((s.fE).toNat)*4)+3) U (aB 6 U) (Nat.mul_pos om dc) eD U)<|eS U (gE ((s.fE).toNat) 3 (vI y.dU) U b_ (aB 6 U) O U dc U) ?_
 have W:=(hok.re _ (aP hy)).2
 obtain ⟨x,hx⟩:=aJ l.aj ((y.dU).toNat) om
 obtain ⟨xa,F⟩:=aJ az ((y.dU).toNat) om
 have N:(List.zipWith au.cells l.aj az)[(y.dU).toNat]? =some (au.cells x xa):=dF hx F
 refine eS U (IA ((y.dU).toNat) U (aB 4 U) yV dc om om)<|eS U (lM ((y.dU).toNat) 0 (dx.cells (dx.mk x.dw (bD.mk xa.1 x.bG.length xa.2))) U b_ (aB 4 U) N U dc U U)<|eh U<|cf U fun T6 L=>AL U JR fun E=>aH (L _ _ (aQ [1,2,3,4,5,6,7]) ?_)
 refine cf U fun T8 M=>fJ U OV U<|aH (M _ _ (aQ [1,2,3,4,5,6,7]) ?_)
 refine e8 U<|KK J<|WS fun _ K=>?_
 have A:=hok.clock _ (aP hx)
 have AA:=iE (p:=fX x s.Read) (n:=86400001)
 have T:=iE (p:=fY x s.Read) (n:=86400001)
 refine rS (FU U) ?_
 refine rS (CL (Df 0 86400001 (Value.func (.func 148) [].toArray [(vP E),(vP D)].toArray) (fun B=>(decide (s.Read≤B+(gr x B).Hi))) (dT [(rd xa.1 x.bG.length 3 (x.bG.map cM.cells)),(cp E 107 (dx.cells (dx.mk x.dw (bD.mk xa.1 x.bG.length xa.2)))),(cp D 87 (aA.cells s))]) (fz (fX x s.Read) 86400001) (by intro B _; exact k7 (fi:=[]) (ca:=[(vP E),(vP D)]) (jS (Kp B x xa.1 xa.2 E s D (by first|assumption|omega) (by first|assumption|omega)) (QX 0 1 2 U U U U U U))) om (by intro z G hz; exact (km A G om).1 hz) (by intro z hz H; exact (km A om H).2.1 hz)) (aC (jX (aC (show iJ _ (rd xa.1 x.bG.length 3 (x.bG.map cM.cells)).holds from (cU 6 U (bQ hx F (by simp [au.gd]))))<|gJ 0 U U<|gJ 2 U U<|aO))<|aO) U) ?_
 refine rS (FU U) ?_
 refine rS (CL (Df 0 86400001 (Value.func (.func 149) [].toArray [(vP E),(vP D)].toArray) (fun C=>(decide (s.Read<C+(gr x C).Lo))) (dT [(rd xa.1 x.bG.length 3 (x.bG.map cM.cells)),(cp E 107 (dx.cells (dx.mk x.dw (bD.mk xa.1 x.bG.length xa.2)))),(cp D 87 (aA.cells s))]) (fz (fY x s.Read) 86400001) (by intro C _; exact k7 (fi:=[]) (ca:=[(vP E),(vP D)]) (jS (Is C x xa.1 xa.2 E s D (by first|assumption|omega) (by first|assumption|omega)) (QX 0 1 2 U U U U U U))) om (by intro z G hz; exact (km A G om).2.2.1 hz) (by intro z hz H; exact (km A om H).2.2.2 hz)) (aC (jX (aC (show iJ _ (rd xa.1 x.bG.length 3 (x.bG.map cM.cells)).holds from (cU 6 U (bQ hx F (by simp [au.gd]))))<|gJ 0 U U<|gJ 2 U U<|aO))<|aO) U) ?_
 refine rP 1 [] I ?_
 refine rS (SX (bf (xs:=[(0,.tmp 18),(1,.tmp 21)]) (cs:=(ag.cells (ag.mk (fz (fX x s.Read) 86400001) ((fz (fY x s.Read) 86400001)-1)))) U U (bg gO U)) U U)<|qT U cW U<|RK K<|aq<|Dn hQ [0] (mc 1 U I) U ?_
 unfold cG oG; rw [tT hy hx]
theorem NY (l:bp) (kA:OA) (kC:Nat) (az:List RA) (cA:OA) (cC:Nat) (bA:OA) (bC:Nat) (n:Int) (hin:dY l az):
 dL Tryz.prog 23 [(vA (cr.cells (jC l kA kC cA cC bA bC))),(vI n)] [(rd kA l.aS.length 9 (l.aS.map ar.cells)),(rd cA l.aj.length 2 (List.zipWith au.cells l.aj az)),(dT (br au.gd l.aj az)),(rd bA l.aa.length 4 (l.aa.map bJ.cells))] (vT [(vI (o5 l n)),(vI (o4 l n))]):=by
 have T:=hin.qS
 have S:=hin.qW
 have P:=hin.nx
 have R:=hin.qU
 refine bH kr Tryz.func23 U U fun X Q hQ hN=>?_
 try dsimp only
 refine WS fun _ F=>eO U fun W=>bE 2 U<|RK F<|ao fun _ G=>WS fun _ H=>eV 1 [] (mc 0 U I) U<|rS (CL (r8 l kA kC az cA cC bA bC hin) (bk [1,2,3,4]) U)<|bE 1 U<|RK H<|WS fun _ AB=>rP 2 [] I ?_
 refine RK AB<|cy U (aX fun A=>?_) (aW fun A=>?_)
 ·refine WS fun _ J=>rP 3 [] I ?_
  refine RK J<|aq<|Q2 hQ U U U U ?_
  first|(have e:=vf (i:=n) A; rw [e.1,e.2]<;>rfl)|(have e:=uZ (i:=n) A om; rw [e.1,e.2]<;>rfl)|(have e:=vY (i:=n) A om; rw [e.1,e.2]<;>rfl)
 refine WK G<|ao fun _ K=>WS fun _ L=>rP 1 [] I ?_
 obtain ⟨N,B⟩:=du A
 have M:=B.head
 unfold eU at M
 refine rP 4 [] (mc 0 U I) ?_
 refine d_ (xs:=[.tmp 16]) (cs:=[(vI n)]) U dk jO U U U U (by simp [Value.cells]) U U fun O=>?_
 refine rS (CL (dL.eq (gM 0 ((l.aa.length:Int)-1) ([n]) (some ⟨O,0,none⟩) 1 sd) cw) (aC (bo 0 U U (by simp [bL]) U)<|aO) U) ?_
 refine rP 1 [] I ?_
 refine RK L<|cy U (aX fun E=>?_) (aW fun E=>?_)
 ·refine WS fun _ C=>rP 2 [] I ?_
  refine RK C<|aq<|Q2 hQ U U U U ?_
  first|(have e:=vf (i:=n) A; rw [e.1,e.2]<;>rfl)|(have e:=uZ (i:=n) A om; rw [e.1,e.2]<;>rfl)|(have e:=vY (i:=n) A om; rw [e.1,e.2]<;>rfl)
 refine WK K<|ao fun _ D=>dj cj 9 kr<|dP 2 [] (mc 1 U I) ?_
 refine dS (CL (F2 l kA kC az cA cC bA bC n hin sd (by exact B.re) sd) (bk [2,3,4,5]) U) ?_
 have AA:=zq N B.re n.toNat
 have V:=B.Oy n.toNat om
 refine dS (BI U (nt ⟨om,om⟩))<|dP 2 [] (mc 1 U I) ?_
 refine dS (CL (F_ (1000*(lg l n.toNat)) l.hZ sd sd) (aO) U) ?_
 refine dP 2 [] I ?_
 refine cD<|RK D<|aq<|Q2 hQ U U U U ?_
 first|(have e:=vf (i:=n) A; rw [e.1,e.2]<;>rfl)|(have e:=uZ (i:=n) A om; rw [e.1,e.2]<;>rfl)|(have e:=vY (i:=n) A om; rw [e.1,e.2]<;>rfl)
end
section
open Go.RowKit
theorem ti (ln:cr) (ri:cb) (e:List Int) (tms:List TM) (e_A:OA) (e_C:Nat) (tb:List Nat) (t_A:OA) (t_C:Nat) (fA:OA) (fN fC:Nat) (bA:OA) (bN bC:Nat) (gw b:Nat) (g1 g2:Nat) (hb:b<tms.length) (htb:tb.length=tms.length):
 MK Tryz.prog 150 [] [(vP g1),(vP g2)] [(rd e_A e.length 1 (e.map iC)),(rd t_A tms.length 1 (List.zipWith gv tms tb)),(dT (br p7 tms tb)),(cp gw 213 (cd.cells (cd.mk ln ri (bD.mk e_A e.length e_C) (bD.mk t_A tms.length t_C) (bD.mk fA fN fC) (bD.mk bA bN bC)))),(cp g1 181 [(vP gw)]),(cp g2 3 [(vI (b:Int))])] ([]:List (Int×ag)) (fun ys x ys'=> ∃ o,o∈jK (cV ln ri e tms) b∧x=OU o∧ys'=ys++[o]) (fun ys=> ∀ o∈jK (cV ln ri e tms) b,o∈ys):=by
 refine Ff kr Tryz.func150 U U fun l J Z A0 d Q hY V AA hQ hN=>?_
 try dsimp only
 refine ao fun _ X=>ao fun _ R=>dj cj 12 kr<|lz 2 [] (mr 5 U I) U<|dS (SX (cS U U) U U)<|lz 4 [0,1] (mr 4 U (mr 5 U I)) U<|dS (SX (cS U U) U U)<|dP 3 [] (mr 4 U I) ?_
 refine dS (SX (bf (xs:=[(0,.tmp 11),(1,.tmp 16)]) (cs:=(ag.cells (ag.mk ri.Start ri.gh))) U U (bg gO U)) U U)<|cD<|xn (k:=([]:List (Int×ag))) (k':=(([]:List (Int×ag))++[((-1),(ag.mk ri.Start ri.gh))])) 0 (by first|exact hsz|exact Nat.le_refl _) hY V AA U U U (by exact ⟨(-1,⟨ri.Start,ri.gh⟩),cx ..,U,U⟩) U U (fun B3 N M=>?_) (fun B3 N M=>?_)
 rotate_left 1
 ·refine rP 1 [] I ?_
  refine RK R<|aT U<|aq ?_
  refine hQ _ _ _ (jW (vs:=[]) trivial fun w hs=>E1 0 U N M hs)
 refine bE 1 U<|RK R<|ct U<|WK X<|ao fun _ Y=>dj cj 7 kr<|lz 1 [] (mr 5 U I) U<|dS (SX (cS U U) U U)<|dP 3 [0,1] (mr 4 U (mr 6 U I)) ?_
 obtain ⟨x,hx⟩:=aJ tms b om
 obtain ⟨xa,L⟩:=aJ tb b om
 have a:(List.zipWith gv tms tb)[b]? =some (gv x xa):=dF hx L
 refine dS (IA b U (aB 2 U) yB dc om om)<|dS (gE b 0 (Value.map (some xa)) U b_ (aB 2 U) a U dc U)<|cD<|qw (kV:=iV) (m:=cT jY x) 3 U U s9 U ⟨⟨(kh iV xa (cT jY x)),(bQ hx L (by simp [p7])),U⟩,fun h=>h⟩ (show iJ _ (kh iV xa (cT jY x)).holds from cU 3 U (bQ hx L (by simp [p7]))) U fun j=>?_
 try dsimp only
 refine RK Y<|aI ?_
 have G:(∀ o∈x,o∈x∨o∈(([]:List (Int×ag))++[((-1),(ag.mk ri.Start ri.gh))]))∧(∀ o∈x,o∈x)∧(J (([]:List (Int×ag))++[((-1),(ag.mk ri.Start ri.gh))]) B3)∧(Fo A0 d B3)∧((-1,(⟨ri.Start,ri.gh⟩:ag))∈(([]:List (Int×ag))++[((-1),(ag.mk ri.Start ri.gh))])):=by exact ⟨fun o ho=> .inl ho,fun o ho=>ho,asm,asm,sm⟩
 refine bZ (ι:={z:TM×(List (Int×ag))×ay // (∀ o∈x,o∈z.1∨o∈z.2.1)∧(∀ o∈z.1,o∈x)∧(J z.2.1 z.2.2)∧(Fo A0 d z.2.2)∧((-1,(⟨ri.Start,ri.gh⟩:ag))∈z.2.1)}) [0,1,2,27] [2,3,4,6,7] U U (fun z=>[]) (fun z=>[(Dp iV j xa (cT jY x) (cT jY z.1.1) none),z.1.2.2]) (fun _=>rfl) (fun _=>rfl) (fun z=>z.1.1.length) ⟨(x,(([]:List (Int×ag))++[((-1),(ag.mk ri.Start ri.gh))]),B3),G⟩ (dG.nil _) (aQ [2,3,4,6,7,0,1]) ?_
 clear G
 rintro ⟨⟨left,ys,A⟩,⟨B,C,D,E,F⟩⟩ J8 W
 try dsimp only at B C D E F
 try dsimp only
 refine WS fun _ S=>oM (iz sO).inj (f:=jY) 5 U U U U (fun T=>?_) (fun i z hm hn=>?_)
 ·refine rP 1 [] I ?_
  refine RK S<|ao fun _ c=>ct U<|bS<|ai<|ai<|aL ?_
  refine hN _ _ _ (jW (vs:=[]) trivial fun w hs=>QV 6 U (by exact G7 hx B T F) D E hs)
 try dsimp only
 refine bE 1 U<|RK S<|ao fun _ O=>aT U<|WK O<|aI<|WS fun _ P=>rS (SX (oT 5 U U U) U U)<|bE 2 U<|AL U ed fun g=>bE 1 U<|fJ U cW U<|RK P<|WS fun _ K=>rP 3 [] (mc 0 U I) ?_
 refine xn (k:=ys) (k':=(ys++[(i,z)])) 7 (by first|exact hsz|exact Nat.le_refl _) hY D E U U U (by exact ⟨(i,z),(xV hx).2 (.inr (C _ hm)),U,U⟩) U U (fun B15 AB H=>?_) (fun B15 AB H=>?_)
 rotate_left 1
 ·refine rP 1 [] I ?_
  refine RK K<|aT U<|aq ?_
  refine hQ _ _ _ (jW (vs:=[]) trivial fun w hs=>E1 7 U AB H hs)
 refine rP 1 [] I ?_
 refine RK K<|ct U<|cu<|aR<|rD 6 U pL U ?_
 refine bq (W ⟨((fy left i),(ys++[(i,z)]),B15),⟨GK hn hm B,mO C,asm,asm,by simp [F]⟩⟩ _ _ _ U (mR hm) (bu U) (aQ [1,2,3,4,5,6,7]))
theorem vU (gw b:Nat):
 pS Tryz.prog 127 [(vP gw),(vI (b:Int))] [] (fun (x:Nat×Nat)=>(Value.func (.func 150) [].toArray [(Value.pointer (some ⟨x.1,0,none⟩)),(Value.pointer (some ⟨x.2,0,none⟩))].toArray)) (fun (x:Nat×Nat)=>True) (fun (x:Nat×Nat)=>[(cp x.1 181 [(vP gw)]),(cp x.2 3 [(vI (b:Int))])]):=by
 refine fB kr Tryz.func127 U U fun E Q hQ hN=>?_
 try dsimp only
 refine WS fun _ A=>wR U U fun C=>wR U U fun D=>bE 1 U<|RK A<|WS fun _ B=>rS (FU U)<|rP 1 [] I ?_
 refine RK B<|aq<|LX hQ (C,D) [1,0] [] I U U U U ?_
 trivial
theorem KB (gw b:Nat):
 pS Tryz.prog 106 [(vP gw),(vI (b:Int))] [] (fun (x:Nat×Nat)=>(Value.func (.func 126) [].toArray [(Value.pointer (some ⟨x.1,0,none⟩)),(Value.pointer (some ⟨x.2,0,none⟩))].toArray)) (fun (x:Nat×Nat)=>True) (fun (x:Nat×Nat)=>[(cp x.1 181 [(vP gw)]),(cp x.2 3 [(vI (b:Int))])]):=by
 refine fB kr Tryz.func106 U U fun E Q hQ hN=>?_
 try dsimp only
 refine WS fun _ A=>wR U U fun C=>wR U U fun D=>bE 1 U<|RK A<|WS fun _ B=>rS (FU U)<|rP 1 [] I ?_
 refine RK B<|aq<|LX hQ (C,D) [1,0] [] I U U U U ?_
 trivial
end
section
open Go.RowKit
theorem CG (ln:cr) (ri:cb) (e:List Int) (tms:List TM) (e_A:OA) (e_C:Nat) (tb:List Nat) (t_A:OA) (t_C gw:Nat) (hw:GV (cV ln ri e tms)) (hn:ln.aa.n=e.length) (htb:tb.length=tms.length):
 Ma Tryz.prog 125 [(vP gw)] [(rd e_A e.length 1 (e.map iC)),(rd t_A tms.length 1 (List.zipWith gv tms tb)),(dT (br p7 tms tb))] (cp gw 213 (cd.cells (cd.mk ln ri (bD.mk e_A e.length e_C) (bD.mk t_A tms.length t_C) (bD.mk none 0 0) (bD.mk none 0 0)))) (fun (x:(List FM)×(List Nat)×(OA)×Nat×(List FM)×(List Nat)×(OA)×Nat)=>(vT [])) (fun (x:(List FM)×(List Nat)×(OA)×Nat×(List FM)×(List Nat)×(OA)×Nat)=>wg (cV ln ri e tms) x.1∧tH (cV ln ri e tms) x.2.2.2.2.1∧x.2.1.length=x.1.length∧x.2.2.2.2.2.1.length=x.2.2.2.2.1.length) (fun (x:(List FM)×(List Nat)×(OA)×Nat×(List FM)×(List Nat)×(OA)×Nat)=>(bV [(cp gw 213 (cd.cells (cd.mk ln ri (bD.mk e_A e.length e_C) (bD.mk t_A tms.length t_C) (bD.mk x.2.2.1 x.1.length x.2.2.2.1) (bD.mk x.2.2.2.2.2.2.1 x.2.2.2.2.1.length x.2.2.2.2.2.2.2)))),(own x.2.2.1 x.2.2.2.1 216 1 (List.zipWith gv x.1 x.2.1)),(bV (br nk x.1 x.2.1)),(own x.2.2.2.2.2.2.1 x.2.2.2.2.2.2.2 216 1 (List.zipWith gv x.2.2.2.2.1 x.2.2.2.2.2.1)),(bV (br nk x.2.2.2.2.1 x.2.2.2.2.2.1))])):=by
 have XL:e.length≤6:=hw.n
 have XM:tms.length=e.length:=hw.times
 refine vM kr Tryz.func125 U U fun w0 Q hQ hN=>?_
 try dsimp only
 refine WS fun _ Di=>wR U U fun W=>RK Di<|WS fun _ EQ=>eV 1 [] (mc 0 U I) U<|rS (SX (cS U U) U U)<|rP 5 [] (mc 1 U I) ?_
 refine RK EQ ?_
 refine kW (ι:={z:(OA)×(OA) // True}) [0,1,2] [0,2,3,4] U U (fun z=>[]) (fun z=>[(own z.1.1 (ln.aa.n+1) 216 1 (List.map oC (List.replicate (ln.aa.n+1) (none:Option Nat)))),(own z.1.2 (ln.aa.n+1) 216 1 (List.map oC (List.replicate (ln.aa.n+1) (none:Option Nat)))),(cp gw 213 (cd.cells (cd.mk ln ri (bD.mk e_A e.length e_C) (bD.mk t_A tms.length t_C) (bD.mk z.1.1 (ln.aa.n+1) (ln.aa.n+1)) (bD.mk z.1.2 (ln.aa.n+1) (ln.aa.n+1)))))]) (fun _=>rfl) (fun _=>rfl) ?_ fun K4 Eq=>?_
 ·rintro ⟨⟨fA,bA⟩,_⟩
  try dsimp only
  refine BB 6 U U fun wz Sz hz=>?_
  have XI:(List.replicate (ln.aa.n+1) (none:Option Nat)).length=(ln.aa.n+1):=List.length_replicate
  try dsimp only
  refine kW (ι:={z:Nat // True}) [0,1,2] [0,1,2,3,4,6] U U (fun z=>[]) (fun z=>[(bV (br nk [[((aN.mk 0 0),ri.Start)]] [z.1])),(own fA (ln.aa.n+1) 216 1 (List.map oC (dK [z.1] (ln.aa.n+1))))]) (fun _=>rfl) (fun _=>rfl) ?_ fun K5 VO=>?_
  ·rintro ⟨ga,_⟩
   try dsimp only
   refine ao fun _ FC=>WS fun _ FE=>rP 2 [] I ?_
   refine RK FE<|aI<|n9 ?_
   have C:(0≤ln.aa.n)∧(([[((aN.mk 0 0),ri.Start)]]).length=0+1)∧(([ga]).length=0+1)∧(qE (cV ln ri e tms) ([[((aN.mk 0 0),ri.Start)]])):=by exact ⟨Nat.zero_le _,rfl,rfl,qE.first⟩
   refine wS (ι:={z:Nat×(List FM)×(List Nat)×(List Nat) // (z.1≤ln.aa.n)∧(z.2.1.length=z.1+1)∧(z.2.2.1.length=z.1+1)∧(qE (cV ln ri e tms) z.2.1)}) (fun z=>z.1.2.2.2.map jR) (fun z=>[(0,(vP gw)),(1,(vP W)),(2,(vI (ln.aa.n:Int))),(52,(vI (ln.aa.n:Int))),(53,(vI (z.1.1:Int)))]) (fun z=>[(bV (z.1.2.2.2.map ml)),(cp gw 213 (cd.cells (cd.mk ln ri (bD.mk e_A e.length e_C) (bD.mk t_A tms.length t_C) (bD.mk fA (ln.aa.n+1) (ln.aa.n+1)) (bD.mk bA (ln.aa.n+1) (ln.aa.n+1))))).ro,(cp W 181 [(vP gw)]),(rd e_A e.length 1 (e.map iC)).ro,(rd t_A tms.length 1 (List.zipWith gv tms tb)).ro,(dT (br p7 tms tb)).ro,(own bA (ln.aa.n+1) 216 1 (List.map oC (List.replicate (ln.aa.n+1) (none:Option Nat)))),(bV (br nk z.1.2.1 z.1.2.2.1)),(own fA (ln.aa.n+1) 216 1 (List.map oC (dK z.1.2.2.1 (ln.aa.n+1))))]) (fun z=>ln.aa.n-z.1.1) ⟨(0,[[((aN.mk 0 0),ri.Start)]],[ga],([]:List Nat)),C⟩ U (bu U) (aQ [0,1,2,3,4,5,6,7,8]) ?_
   clear C
   rintro ⟨⟨b,fs,fb,UK⟩,⟨If,A4,Ik,M⟩⟩ J8 Uw
   try dsimp only at If A4 Ik M
   try dsimp only
   have XJ:(dK fb (ln.aa.n+1)).length=(ln.aa.n+1):=nK om
   refine WS fun _ FS=>rP 1 [] I ?_
   refine RK FS<|ao fun _ AO=>cy U (aU fun Uh=>?_) (aV fun Uh=>?_)
   ·refine WK AO<|ao fun _ LE=>aI<|WS fun _ LT=>rP 1 [] I ?_
    refine AL U jO fun s=>NI U Ab U U<|RK LT<|ao fun _ La=>dy cj [6,8] [6] [0] [0,1,2,3,4,5,6,7,8] [0,1,2,3,4,5,6,7,8,9] U U U U U<|eS U (EF 3 U b_ U)<|eS U (SX (cS U U) U U)<|eS U (FA 12 U eD U)<|eS U (JI (vS fA (ln.aa.n+1) (ln.aa.n+1)) 2 U b_ U U)<|eS U (EF 0 U b_ U)<|eS U (BI U (kx ⟨om,om⟩)) ?_
    obtain ⟨W0,T4⟩:=aJ (dK fb (ln.aa.n+1)) (b+1) om
    have hx17m:(List.map oC (dK fb (ln.aa.n+1)))[(b+1)]? =some (oC W0):=by rw [gf,T4]; rfl
    refine fS U (IA (b+1) U (av (n:=(ln.aa.n+1)) 9 U sq) oU dc om om) ?_
    refine eh U<|ja U fun T18 Pv=>mT (kV:=eI) U U fun B=>?_
    try dsimp only
    refine aH (Pv _ _ (aQ [1,2,3,4,5,6,7,8,9]) (aQ [1,2,3,4,5,6,7,8,9,10]) ?_)
    refine cf U fun T20 Pw=>?_
    have R6:((dK fb (ln.aa.n+1)).set (b+1) (some B))=(dK (fb++[B]) (ln.aa.n+1)):=by exact sL om om
    refine f_ (k:=(b+1)) (o:=0) (vs:=[(Value.map (some B))]) (es':=(List.map oC (dK (fb++[B]) (ln.aa.n+1)))) (C':=[_,_,_,_,_,_,_,_,_,_,(own fA (ln.aa.n+1) 216 1 (List.map oC (dK (fb++[B]) (ln.aa.n+1))))]) 10 U U U KY U U U U hx17m U dc (by exact (List.map_set (f:=oC) (l:=(dK fb (ln.aa.n+1))) (i:=(b+1)) (a:=(some B))).symm.trans (congrArg _ R6)) U<|aH (Pw _ _ (aQ [1,2,3,4,5,6,7,8,9]) ?_)
    refine e8 U<|KK La<|ao fun _ Lh=>?_
    have WF:(dK (fb++[B]) (ln.aa.n+1)).length=(ln.aa.n+1):=nK (by simp; omega)
    obtain ⟨mb,N⟩:=aJ fs b om
    obtain ⟨ga,Z⟩:=aJ fb b om
    refine zd 9 N Z U U U ?_
    try dsimp only
    refine dj cj 7 kr<|lz 1 [] (mc 6 U I) U<|dS (SX (cS U U) U U)<|dP 3 [0,1] (mr 5 U (mc 3 U I)) ?_
    have ST:(List.map oC (dK (fb++[B]) (ln.aa.n+1)))[b]? =some (oC (some ga)):=qH (mJ (Iz Z))
    refine dS (IA b U (av (n:=(ln.aa.n+1)) 11 U sq) oU dc om om) ?_
    refine dS (gE b 0 (Value.map (some ga)) U b_ (av (n:=(dK (fb++[B]) (ln.aa.n+1)).length) 11 U sm) ST U dc U)<|cD<|zE 0 U U pt U U fun Bo=>?_
    try dsimp only
    refine RK Lh<|aI ?_
    have C:(∀ p∈mb,p∈mb)∧(yF (cV ln ri e tms) b ([]:FM))∧(j8 (cV ln ri e tms) b mb ([]:FM) mb):=by exact ⟨fun p hp=>hp,yF.start,j8.start⟩
    refine wS (ι:={z:FM×FM×(List Nat) // (∀ p∈z.1,p∈mb)∧(yF (cV ln ri e tms) b z.2.1)∧(j8 (cV ln ri e tms) b mb z.2.1 z.1)}) (fun z=>z.1.2.2.map jR) (fun z=>[(0,(vP gw)),(1,(vP W)),(2,(vI (ln.aa.n:Int))),(3,(vP s)),(52,(vI (ln.aa.n:Int))),(53,(vI (b:Int))),(71,(vP Bo))]) (fun z=>[(Af eI Bo ga (cT iV mb) (cT iV z.1.1) none),(bV (iS nk fs fb b)),(kh eI B (cT iV z.1.2.1)),(cp s 3 [(vI (b:Int))]),(bV (z.1.2.2.map ml)),(cp gw 213 (cd.cells (cd.mk ln ri (bD.mk e_A e.length e_C) (bD.mk t_A tms.length t_C) (bD.mk fA (ln.aa.n+1) (ln.aa.n+1)) (bD.mk bA (ln.aa.n+1) (ln.aa.n+1))))).ro,(cp W 181 [(vP gw)]),(rd e_A e.length 1 (e.map iC)).ro,(rd t_A tms.length 1 (List.zipWith gv tms tb)).ro,(dT (br p7 tms tb)).ro,(own bA (ln.aa.n+1) 216 1 (List.map oC (List.replicate (ln.aa.n+1) (none:Option Nat)))),(own fA (ln.aa.n+1) 216 1 (List.map oC (dK (fb++[B]) (ln.aa.n+1))))]) (fun z=>z.1.1.length) ⟨(mb,([]:FM),UK),C⟩ U (bu U) (aQ [0,1,2,3,4,5,6,7,8,9,10,11]) ?_
    clear C
    rintro ⟨⟨left,m,A5⟩,⟨c,d,g⟩⟩ J26 K8
    try dsimp only at c d g
    try dsimp only
    refine WS fun _ Ci=>xW pk.inj (f:=iV) 0 U U U U (fun Uu=>?_) (fun t v hm In=>?_)
    ·refine bE 1 U<|RK Ci<|ao fun _ W9=>ct U<|bS<|ai<|ai<|aL<|aR<|KK LE<|aw<|rP 2 [] I ?_
     refine aH<|LC (C':=[(kh eI ga (cT iV mb)),(bV (iS nk fs fb b)),(kh eI B (cT iV m)),(cp s 3 [(vI (b:Int))]),(bV (A5.map ml)),(cp gw 213 (cd.cells (cd.mk ln ri (bD.mk e_A e.length e_C) (bD.mk t_A tms.length t_C) (bD.mk fA (ln.aa.n+1) (ln.aa.n+1)) (bD.mk bA (ln.aa.n+1) (ln.aa.n+1))))).ro,(cp W 181 [(vP gw)]),(rd e_A e.length 1 (e.map iC)).ro,(rd t_A tms.length 1 (List.zipWith gv tms tb)).ro,(dT (br p7 tms tb)).ro,(own bA (ln.aa.n+1) 216 1 (List.map oC (List.replicate (ln.aa.n+1) (none:Option Nat)))),(own fA (ln.aa.n+1) 216 1 (List.map oC (dK (fb++[B]) (ln.aa.n+1))))]) 0 U Ib U<|JN 1 0 N Z U U U ?_
     try dsimp only
     refine xM (X':=br nk (fs++[m]) (fb++[B])) 0 1 U U (zK om U) ?_
     try dsimp only
     have R7:(vI (((b+1):Nat):Int))=(vI ((b:Int)+1)):=by exact cI om
     refine bq (Uw ⟨((b+1),(fs++[m]),(fb++[B]),A5),⟨om,by simp; omega,by simp; omega,M.add A4 N d g Uu⟩⟩ _ _ _ U os (cY 4<|bw U R7<|dG.nil _) (aQ [2,3,4,5,6,7,8,0,9]))
    try dsimp only
    refine bE 1 U<|RK Ci<|ao fun _ Li=>aT U<|WK Li<|aI<|WS fun _ Lk=>rS (SX (xb 0 U U U) U U)<|bE 2 U<|AL U ux fun J3=>AL U jO fun J4=>qT U sZ U<|NI U Ab U U<|RK Lk<|WS fun _ L2=>rP 2 [0,1] (mc 8 U (mc 5 U I)) ?_
    refine cX (vU gw b) (aO) U fun W4 XB=>?_
    obtain ⟨Cx,C2⟩:=W4
    try dsimp only
    refine RK L2<|aI<|jk 11 U (by exact fun _ h=>h)<|jk 13 U (by exact fun _ h=>h)<|jk 15 U (by exact fun _ h=>h)<|jk 12 U (by exact fun _ h=>h) ?_
    refine t_ (L0:=[(0,(vP gw)),(1,(vP W)),(2,(vI (ln.aa.n:Int))),(3,(vP s)),(4,(vP J3)),(5,(vP J4)),(52,(vI (ln.aa.n:Int))),(53,(vI (b:Int))),(71,(vP Bo))]) (F:=[(rd e_A e.length 1 (e.map iC)).ro,(rd t_A tms.length 1 (List.zipWith gv tms tb)).ro,(dT (br p7 tms tb)).ro,(cp gw 213 (cd.cells (cd.mk ln ri (bD.mk e_A e.length e_C) (bD.mk t_A tms.length t_C) (bD.mk fA (ln.aa.n+1) (ln.aa.n+1)) (bD.mk bA (ln.aa.n+1) (ln.aa.n+1))))).ro,(cp Cx 181 [(vP gw)]),(cp C2 3 [(vI (b:Int))])]) (fun k (y:FM)=>(nS (cV ln ri e tms) b mb left y (t,v) k)) (fun k y=>[(cp J4 3 [(vI v)]),(cp J3 218 (aN.cells t)),(Af eI Bo ga (cT iV mb) (cT iV (fy left t)) (some (t,(vI v)))),(bV (iS nk fs fb b)),(kh eI B (cT iV y)),(cp s 3 [(vI (b:Int))]),(bV (A5.map ml)),(cp gw 213 (cd.cells (cd.mk ln ri (bD.mk e_A e.length e_C) (bD.mk t_A tms.length t_C) (bD.mk fA (ln.aa.n+1) (ln.aa.n+1)) (bD.mk bA (ln.aa.n+1) (ln.aa.n+1))))).ro,(cp W 181 [(vP gw)]),(rd e_A e.length 1 (e.map iC)).ro,(rd t_A tms.length 1 (List.zipWith gv tms tb)).ro,(dT (br p7 tms tb)).ro,(own bA (ln.aa.n+1) 216 1 (List.map oC (List.replicate (ln.aa.n+1) (none:Option Nat)))),(own fA (ln.aa.n+1) 216 1 (List.map oC (dK (fb++[B]) (ln.aa.n+1))))]) (fun _ (_:Unit)=>False) (fun _ _=>[]) [6,7,8,9,10,11,12,13,14,15,16,17,18,19] [3,2,1,0,4,5] m rfl rfl (ti ln ri e tms e_A e_C tb t_A t_C fA (ln.aa.n+1) (ln.aa.n+1) bA (ln.aa.n+1) (ln.aa.n+1) gw b Cx C2 om om) rfl rfl rfl (by exact nS.start d g) (by simp only [List.forall_mem_cons,List.not_mem_nil,false_imp_iff,implies_true,and_true]; exact ⟨⟨_,aP (i:=0) rfl,(dQ (bY _))⟩,⟨_,aP (i:=1) rfl,(dQ (bY _))⟩,⟨_,aP (i:=2) rfl,(dQ (bY _))⟩,⟨_,aP (i:=3) rfl,(dQ (bY _))⟩,⟨_,aP (i:=4) rfl,(bY _)⟩,⟨_,aP (i:=5) rfl,(bY _)⟩⟩) (by rintro k x k2 ⟨o,_,rfl,_⟩; rfl) rfl (bu rfl) ?_ ?_ (fun _ _ _ h=>h.elim) (fun _ _ h=>h.elim)
    rotate_left 1
    ·rintro WZ k O A3 Hm
     have D:=Hm
     try dsimp only
     refine aR<|aR<|Lu (X:=A5.map ml) 13 0 U U ?_
     try dsimp only
     refine rD 9 U Cl U ?_
     refine bq (K8 ⟨((fy left t),O,(WZ::A5)),⟨mO c,D.on,D.next In hm A3⟩⟩ _ _ _ U (mR hm) (bu U) (aQ [9,10,11,12,0,4,14,1,2,3,18,19]))
    rintro k x k2 O l ra rb S w1 K39 Qr40 WW hx Go L3 H W2 W6
    obtain ⟨o,ho,rfl,rfl⟩:=hx
    have D:=Go
    try dsimp only
    refine WS fun _ M2=>rP 1 [] I ?_
    refine RK M2<|aw<|AL U ed fun XD=>fJ U cW U<|aH<|g_ (fun _ _ h=>h) (aQ [1,0,2,3,4,5,6,7,8,9,10,11,12,13,14,15])<|bq (L3 _ _ ?_)
    refine aI<|ao fun _ M_=>dy cj [16,18] [] [] [0,1,2,3,4,5,6,7,8,9,10,11,12,13,14,15] [] U U U U U<|eS U (EF 2 U b_ U)<|eS U (EF 10 U b_ U)<|eS U (SX (cS U U) U U)<|eS U (FA 10 U eD U)<|eS U (JI (vS e_A e.length e_C) 9 U b_ U U)<|eS U (EF 7 U b_ U) ?_
    obtain ⟨y,hy⟩:=aJ e b om
    have Jh:=bM iC hy
    refine eS U (IA b U (aB 11 U) dk dc om om)<|eS U (gE b 0 (vI y) U b_ (aB 11 U) Jh U dc U) ?_
    have V9:=hw.least y (aP hy)
    have hp:=M.mem N (c _ hm)
    have VW:=JY hw _ _ hp
    have WM:=vw o.1
    have WP:=hw.opt ho
    have XK:=hw.now
    dsimp only at VW
    refine eS U (BI U (kx ⟨om,om⟩))<|eS U (FA 0 U eD U)<|eS U (L1 (vI o.2.Lo) 1 U b_ U U)<|eS U (MX U)<|eS U (LW 3 U b_ U U)<|eS U (MV U)<|eS U (CL (Ja o.1) (aO) U)<|eS U (CL (wV t (fV o.1) om om) (aO) U)<|eS U (AG U)<|eh U<|cf U fun T45 Qr=>AL U ux fun XE=>aH (Qr _ _ (aQ [1,2,3,4,5,6,7,8,9,10,11,12,13,14,15,16]) ?_)
    refine cf U fun T47 Re=>fJ U sZ U<|aH (Re _ _ (aQ [1,2,3,4,5,6,7,8,9,10,11,12,13,14,15,16]) ?_)
    refine e8 U<|KK M_<|ao fun _ NE=>dj cj 15 kr<|lz 1 [] (mc 11 U I) U<|dS (SX (cS U U) U U)<|dP 4 [0,1] (mr 10 U (mc 8 U I)) ?_
    have S1:(List.map oC (dK (fb++[B]) (ln.aa.n+1)))[(b+1)]? =some (oC (some B)):=qH (mJ (z8 om))
    refine dS (IA (b+1) U (av (n:=(ln.aa.n+1)) 16 U sq) oU dc om om) ?_
    refine dS (gE (b+1) 0 (Value.map (some B)) U b_ (av (n:=(dK (fb++[B]) (ln.aa.n+1)).length) 16 U sm) S1 U dc U)<|lz 1 [] (mc 0 U I) U<|dS (SX (tD (kV:=eI) (x:=(dM t (fV o.1))) (l:=O) (f:=iV) (z:=0) U U U pt pk Ws (by exact aB 7 U)) U U)<|kE 5 U<|cD<|RK NE<|ao fun _ Ad=>dj cj 19 kr<|lz 4 [0,1] (mc 2 U (mc 11 U I)) U<|dS (SX (cS U U) U U)<|lz 3 [] (mr 10 U I) U<|dS (MN U)<|dP 2 [] I ?_
    refine jB (t:=121) U (aV fun P=>?_) (aU fun P=>?_)
    ·refine dP 8 [] I ?_
     refine cD<|RK Ad<|ct U<|cu<|aR ?_
     exact H O _ _ (by exact D.skip (LR hy P)) (aQ [1,3,4,5,6,7,8,9,10,11,12,13,14,15,16])
    refine dP 3 [] I ?_
    refine g7 (t:=124) U (fun R=>?_) (fun R=>?_)
    ·rw [Bool.not_eq_true'] at R
     refine kE 5 U<|cD<|RK Ad<|aT U<|dj cj 10 kr<|lz 1 [] (mc 11 U I) U<|dS (SX (cS U U) U U)<|dP 4 [0,1] (mr 10 U (mc 8 U I)) ?_
     have S2:(List.map oC (dK (fb++[B]) (ln.aa.n+1)))[(b+1)]? =some (oC (some B)):=qH (mJ (z8 om))
     refine dS (IA (b+1) U (av (n:=(ln.aa.n+1)) 16 U sq) oU dc om om) ?_
     refine dS (gE (b+1) 0 (Value.map (some B)) U b_ (av (n:=(dK (fb++[B]) (ln.aa.n+1)).length) 16 U sm) S2 U dc U)<|dP 2 [] (mc 0 U I) ?_
     refine cD<|iR (kV:=eI) (x:=(dM t (fV o.1))) (C':=[_,_,_,_,_,_,_,(kh eI B (cT iV (ew O (dM t (fV o.1)) (max (v+y) o.2.Lo)))),_,_,_,_,_,_,_,_,_]) 7 U U U U pt pk U (gN _ _ _ _).symm U<|aH<|aR ?_
     exact H (ew O (dM t (fV o.1)) (max (v+y) o.2.Lo)) _ _ (by exact D.set hp ho (As hy P) (.inl (by simpa using R))) (aQ [1,3,4,5,6,7,8,9,10,11,12,13,14,15,16])
    rw [Bool.not_eq_false'] at R
    refine dP 5 [] I ?_
    refine cD<|RK Ad<|bW U (aV fun u=>?_) (aU fun u=>?_)
    ·refine cu<|aR ?_
     exact H O _ _ (by exact D.pw (As hy P) (by simpa using R) u) (aQ [1,3,4,5,6,7,8,9,10,11,12,13,14,15,16])
    refine dj cj 10 kr<|lz 1 [] (mc 11 U I) U<|dS (SX (cS U U) U U)<|dP 4 [0,1] (mr 10 U (mc 8 U I)) ?_
    have To:(List.map oC (dK (fb++[B]) (ln.aa.n+1)))[(b+1)]? =some (oC (some B)):=qH (mJ (z8 om))
    refine dS (IA (b+1) U (av (n:=(ln.aa.n+1)) 16 U sq) oU dc om om) ?_
    refine dS (gE (b+1) 0 (Value.map (some B)) U b_ (av (n:=(dK (fb++[B]) (ln.aa.n+1)).length) 16 U sm) To U dc U)<|dP 2 [] (mc 0 U I) ?_
    refine cD<|iR (kV:=eI) (x:=(dM t (fV o.1))) (C':=[_,_,_,_,_,_,_,(kh eI B (cT iV (ew O (dM t (fV o.1)) (max (v+y) o.2.Lo)))),_,_,_,_,_,_,_,_,_]) 7 U U U U pt pk U (gN _ _ _ _).symm U<|aH<|aR ?_
    exact H (ew O (dM t (fV o.1)) (max (v+y) o.2.Lo)) _ _ (by exact D.set hp ho (As hy P) (.inr u)) (aQ [1,3,4,5,6,7,8,9,10,11,12,13,14,15,16])
   refine bS<|ai<|ai<|aL<|KK FC<|WS fun _ An=>rP 1 [] I ?_
   refine AL U jO fun UU=>NI U Ab U U<|RK An<|aI ?_
   rw [GY]
   refine n9 ?_
   have C:(0≤ln.aa.n+1)∧(([]:List FM).length=0)∧(([]:List Nat).length=0)∧(ij (cV ln ri e tms) (ln.aa.n+1-0) ([]:List FM)):=by exact ⟨Nat.zero_le _,rfl,rfl,ij.none_⟩
   refine wS (ι:={z:Nat×(List FM)×(List Nat)×Nat×(List Nat) // (z.1≤ln.aa.n+1)∧(z.2.1.length=z.1)∧(z.2.2.1.length=z.1)∧(ij (cV ln ri e tms) (ln.aa.n+1-z.1) z.2.1)}) (fun z=>z.1.2.2.2.2.map jR) (fun z=>[(0,(vP gw)),(1,(vP W)),(2,(vI (ln.aa.n:Int))),(12,(Value.pointer (some ⟨z.1.2.2.2.1,0,none⟩)))]) (fun z=>[(bV (br nk z.1.2.1 z.1.2.2.1)),(cp z.1.2.2.2.1 3 [(vI ((ln.aa.n:Int)-(z.1.1:Int)))]),(bV (z.1.2.2.2.2.map ml)),(cp gw 213 (cd.cells (cd.mk ln ri (bD.mk e_A e.length e_C) (bD.mk t_A tms.length t_C) (bD.mk fA (ln.aa.n+1) (ln.aa.n+1)) (bD.mk bA (ln.aa.n+1) (ln.aa.n+1))))).ro,(cp W 181 [(vP gw)]),(rd e_A e.length 1 (e.map iC)).ro,(rd t_A tms.length 1 (List.zipWith gv tms tb)).ro,(dT (br p7 tms tb)).ro,(own bA (ln.aa.n+1) 216 1 (List.map oC (ia z.1.2.2.1 (ln.aa.n+1)))),(bV (br nk fs fb)),(own fA (ln.aa.n+1) 216 1 (List.map oC (dK fb (ln.aa.n+1))))]) (fun z=>ln.aa.n+1-z.1.1) ⟨(0,([]:List FM),([]:List Nat),UU,UK),C⟩ U (bu U) (aQ [0,1,2,3,4,5,6,7,8,9,10]) ?_
   clear C
   rintro ⟨⟨j,bs,bb,gq,q⟩,⟨A8,A9,Bd,E⟩⟩ J57 B9
   try dsimp only at A8 A9 Bd E
   try dsimp only
   refine ao fun _ A0=>WS fun _ A1=>rP 2 [] (mc 1 U I) ?_
   refine RK A1<|bW U (aV fun J9=>?_) (aU fun J9=>?_)
   ·refine bS<|ai<|ai<|aL ?_
    rw [show (List.map oC (dK fb (ln.aa.n+1)))=(List.zipWith gv fs fb) from by rw [zF om]; exact (z3 om).symm]
    rw [show (List.map oC (ia bb (ln.aa.n+1)))=(List.zipWith gv bs bb) from by rw [H0 om]; exact (z3 om).symm]
    refine Ag (C1:=[(own fA (ln.aa.n+1) 216 1 (List.zipWith gv fs fb)),(bV (br nk fs fb)),(own bA (ln.aa.n+1) 216 1 (List.zipWith gv bs bb)),(bV (br nk bs bb)),(bV (q.map ml))]) hz [10,9,8,0,2] U U (by simp only [g5,List.all_nil,E7,N9,Bool.and_true]; rfl) ?_
    rw [show (cp gw 213 (cd.cells (cd.mk ln ri (bD.mk e_A e.length e_C) (bD.mk t_A tms.length t_C) (bD.mk fA (ln.aa.n+1) (ln.aa.n+1)) (bD.mk bA (ln.aa.n+1) (ln.aa.n+1)))))=(cp gw 213 (cd.cells (cd.mk ln ri (bD.mk e_A e.length e_C) (bD.mk t_A tms.length t_C) (bD.mk fA fs.length (ln.aa.n+1)) (bD.mk bA bs.length (ln.aa.n+1))))) from by rw [show fs.length=(ln.aa.n+1) from by omega,show bs.length=(ln.aa.n+1) from by omega]]
    refine Q4 [(cp gw 213 (cd.cells (cd.mk ln ri (bD.mk e_A e.length e_C) (bD.mk t_A tms.length t_C) (bD.mk fA fs.length (ln.aa.n+1)) (bD.mk bA bs.length (ln.aa.n+1))))),(own fA (ln.aa.n+1) 216 1 (List.zipWith gv fs fb)),(bV (br nk fs fb)),(own bA (ln.aa.n+1) 216 1 (List.zipWith gv bs bb)),(bV (br nk bs bb))] [(bV (q.map ml))] ?_
    refine hN _ _ _ (I4 1 U U<|jW (vs:=[]) trivial fun w hs=>S5 (fs,fb,fA,(ln.aa.n+1),bs,bb,bA,(ln.aa.n+1)) 0 ?_ ?_ U (by show List.all _ _=true; simp only [g5,List.all_nil,E7,Bool.and_true]; rfl) hs)
    ·clear hs w hQ hN A1 A0 An AO FS FE FC EQ Di; rfl
    ·clear hs w hQ hN A1 A0 An AO FS FE FC EQ Di; exact ⟨M.ok (by show fs.length=e.length+1; omega),ij.ok (by have:=E; rwa [show ln.aa.n+1-j=0 by omega] at this) (by show bs.length=e.length+1; omega),dso,dso⟩
   refine WK A0<|ao fun _ Ck=>aI<|ao fun _ NP=>?_
   obtain ⟨b,XH⟩: ∃ b:Nat,b+j=ln.aa.n:=⟨ln.aa.n-j,om⟩
   rw [show (ln.aa.n:Int)-(j:Int)=(b:Int) from by omega]
   have XA:(ia bb (ln.aa.n+1)).length=(ln.aa.n+1):=zb om
   refine dy cj [5,12,13,15] [11] [0,1,2] [0,1,2,3,4,5,6,7,9,10] [0,1,2,3,4,5,6,7,8,9,10] U U U U U<|eS U (EF 4 U b_ U)<|eS U (SX (cS U U) U U)<|eS U (FA 13 U eD U)<|eS U (JI (vS bA (ln.aa.n+1) (ln.aa.n+1)) 3 U b_ U U)<|eS U (EF 1 U b_ U)<|eS U (SX (bf (xs:=[]) (cs:=(aN.cells (aN.mk 0 0))) U U (bg BH U)) U U)<|eS U (EF 4 U b_ U)<|eS U (SX (cS U U) U U)<|eS U (FA 7 U eD U)<|eS U (FA 8 U eD U)<|eS U (JI (vI ri.gh) 3 U b_ U U) ?_
   obtain ⟨W1,T6⟩:=aJ (ia bb (ln.aa.n+1)) b om
   have hx63m:(List.map oC (ia bb (ln.aa.n+1)))[b]? =some (oC W1):=by rw [gf,T6]; rfl
   refine fS U (IA b U (av (n:=(ln.aa.n+1)) 8 U sq) oU dc om om) ?_
   refine eh U<|ja U fun T64 R0=>mT (kV:=eI) U U fun A=>?_
   try dsimp only
   refine aH (R0 _ _ (aQ [1,2,3,4,5,6,7,8,10,11]) (aQ [1,2,3,4,5,6,7,8,9,10,11]) ?_)
   refine ja U fun T66 R1=>?_
   have R8:(ew ([]:List (aN×Int)) (aN.mk 0 0) ri.gh)=[((aN.mk 0 0),ri.gh)]:=by rfl
   refine zO (kV:=eI) (x:=(aN.mk 0 0)) (C':=[(kh eI A (cT iV ([((aN.mk 0 0),ri.gh)]))),_,_,_,_,_,_,_,_,_,_,_]) 0 U U U U pt pk U ((gN _ _ _ _).symm.trans (congrArg _ R8)) U<|aH (R1 _ _ (aQ [1,2,3,4,5,6,7,8,10,11]) (aQ [1,2,3,4,5,6,7,8,9,10,11]) ?_)
   refine ja U fun T68 R2=>rS (MV U)<|aH (R2 _ _ (aQ [1,2,3,4,5,6,7,8,10,11]) (aQ [1,2,3,4,5,6,7,8,9,10,11]) ?_)
   refine cf U fun T69 R3=>?_
   have R9:((ia bb (ln.aa.n+1)).set b (some A))=(ia (A::bb) (ln.aa.n+1)):=by exact Gx om
   refine f_ (k:=b) (o:=0) (vs:=[(Value.map (some A))]) (es':=(List.map oC (ia (A::bb) (ln.aa.n+1)))) (C':=[_,_,_,_,_,_,_,_,_,(own bA (ln.aa.n+1) 216 1 (List.map oC (ia (A::bb) (ln.aa.n+1)))),_,_]) 9 U U U KY U U U U hx63m U dc (by exact (List.map_set (f:=oC) (l:=(ia bb (ln.aa.n+1))) (i:=b) (a:=(some A))).symm.trans (congrArg _ R9)) U<|aH (R3 _ _ (aQ [1,2,3,4,5,6,7,8,10,11]) ?_)
   refine e8 U<|KK NP<|ao fun _ Ne=>WS fun _ Nr=>rP 3 [] (mc 2 U I) ?_
   refine RK Nr<|cy U (aU fun KP=>?_) (aV fun KP=>?_)
   ·refine bS<|ai<|aL<|KK Ck<|ao fun _ Op=>WS fun _ Or=>eV 1 [] (mc 2 U I) U<|RK Or<|aw<|AL U jO fun UV=>NI U Ab U U<|RK Op<|aw<|rP 2 [] (mc 0 U I) ?_
    refine NI U Ab U U<|aH ?_
    rw [show (b:Int)-1=(ln.aa.n:Int)-(((j+1):Nat):Int) from by omega]
    refine zz (ms:=bs) (m:=[((aN.mk 0 0),ri.gh)]) (a:=A) 2 1 U U U ?_
    try dsimp only
    refine bq (B9 ⟨((j+1),([((aN.mk 0 0),ri.gh)]::bs),(A::bb),UV,q),⟨om,by simp; omega,by simp; omega,by exact ij.end_ (b:=b) E om om (by show e.length≤b; omega)⟩⟩ _ _ _ U os (bu U) (aQ [0,1,3,4,5,6,7,8,9,10,11]))
   refine WK Ne<|ao fun _ Os=>?_
   have WI:(ia (A::bb) (ln.aa.n+1)).length=(ln.aa.n+1):=zb (by simp; omega)
   obtain ⟨mb,N⟩:=aJ bs 0 om
   obtain ⟨ga,Z⟩:=aJ bb 0 om
   refine zd 1 N Z U U U ?_
   try dsimp only
   refine dj cj 8 kr<|lz 1 [] (mc 6 U I) U<|dS (SX (cS U U) U U)<|dP 4 [0,1] (mr 5 U (mc 3 U I)) ?_
   have T0:(List.map oC (ia (A::bb) (ln.aa.n+1)))[(b+1)]? =some (oC (some ga)):=qH (uM (i:=1) (by simpa using Z) (by simp; omega))
   refine dS (IA (b+1) U (av (n:=(ln.aa.n+1)) 10 U sq) oU dc om om) ?_
   refine dS (gE (b+1) 0 (Value.map (some ga)) U b_ (av (n:=(ia (A::bb) (ln.aa.n+1)).length) 10 U sm) T0 U dc U)<|cD<|zE 0 U U pt U U fun B3=>?_
   try dsimp only
   refine RK Os<|aI ?_
   have C:(∀ p∈mb,p∈mb)∧(wN (cV ln ri e tms) b ([((aN.mk 0 0),ri.gh)]))∧(jQ (cV ln ri e tms) b mb ([((aN.mk 0 0),ri.gh)]) mb):=by exact ⟨fun p hp=>hp,wN.start (by show b<e.length; omega),jQ.start⟩
   refine wS (ι:={z:FM×FM×(List Nat) // (∀ p∈z.1,p∈mb)∧(wN (cV ln ri e tms) b z.2.1)∧(jQ (cV ln ri e tms) b mb z.2.1 z.1)}) (fun z=>z.1.2.2.map jR) (fun z=>[(0,(vP gw)),(1,(vP W)),(2,(vI (ln.aa.n:Int))),(12,(vP gq)),(171,(vP B3))]) (fun z=>[(Af eI B3 ga (cT iV mb) (cT iV z.1.1) none),(bV (iS nk bs bb 0)),(kh eI A (cT iV z.1.2.1)),(cp gq 3 [(vI (b:Int))]),(bV (z.1.2.2.map ml)),(cp gw 213 (cd.cells (cd.mk ln ri (bD.mk e_A e.length e_C) (bD.mk t_A tms.length t_C) (bD.mk fA (ln.aa.n+1) (ln.aa.n+1)) (bD.mk bA (ln.aa.n+1) (ln.aa.n+1))))).ro,(cp W 181 [(vP gw)]),(rd e_A e.length 1 (e.map iC)).ro,(rd t_A tms.length 1 (List.zipWith gv tms tb)).ro,(dT (br p7 tms tb)).ro,(own bA (ln.aa.n+1) 216 1 (List.map oC (ia (A::bb) (ln.aa.n+1)))),(bV (br nk fs fb)),(own fA (ln.aa.n+1) 216 1 (List.map oC (dK fb (ln.aa.n+1))))]) (fun z=>z.1.1.length) ⟨(mb,[((aN.mk 0 0),ri.gh)],q),C⟩ U (bu U) (aQ [0,1,2,3,4,5,6,7,8,9,10,11,12]) ?_
   clear C
   rintro ⟨⟨left,m,V⟩,⟨J,K,L⟩⟩ J80 LA
   try dsimp only at J K L
   try dsimp only
   refine WS fun _ Cp=>xW pk.inj (f:=iV) 0 U U U U (fun K0=>?_) (fun t v hm In=>?_)
   ·refine bE 1 U<|RK Cp<|ao fun _ W_=>ct U<|bS<|ai<|ai<|aL<|aR<|KK Ck<|ao fun _ Oy=>WS fun _ PN=>eV 1 [] (mc 3 U I) U<|RK PN<|aw<|AL U jO fun J5=>NI U Ab U U<|RK Oy<|aw<|rP 2 [] (mc 0 U I) ?_
    refine NI U Ab U U<|aH<|LC (C':=[(cp J5 3 [(vI ((b:Int)-1))]),(kh eI ga (cT iV mb)),(bV (iS nk bs bb 0)),(kh eI A (cT iV m)),(cp gq 3 [(vI (b:Int))]),(bV (V.map ml)),(cp gw 213 (cd.cells (cd.mk ln ri (bD.mk e_A e.length e_C) (bD.mk t_A tms.length t_C) (bD.mk fA (ln.aa.n+1) (ln.aa.n+1)) (bD.mk bA (ln.aa.n+1) (ln.aa.n+1))))).ro,(cp W 181 [(vP gw)]),(rd e_A e.length 1 (e.map iC)).ro,(rd t_A tms.length 1 (List.zipWith gv tms tb)).ro,(dT (br p7 tms tb)).ro,(own bA (ln.aa.n+1) 216 1 (List.map oC (ia (A::bb) (ln.aa.n+1)))),(bV (br nk fs fb)),(own fA (ln.aa.n+1) 216 1 (List.map oC (dK fb (ln.aa.n+1))))]) 1 U Ib U<|JN 2 1 N Z U U U ?_
    try dsimp only
    rw [show (b:Int)-1=(ln.aa.n:Int)-(((j+1):Nat):Int) from by omega]
    refine zz (ms:=bs) (m:=m) (a:=A) 0 2 U U U ?_
    try dsimp only
    refine bq (B9 ⟨((j+1),(m::bs),(A::bb),J5,V),⟨om,by simp; omega,by simp; omega,by exact ij.more (b:=b) E om om (by show b<e.length; omega) N K L K0⟩⟩ _ _ _ U os (bu U) (aQ [0,1,3,4,5,6,7,8,9,10,11]))
   try dsimp only
   refine bE 1 U<|RK Cp<|ao fun _ PP=>aT U<|WK PP<|aI<|WS fun _ Pi=>rS (SX (xb 0 U U U) U U)<|bE 2 U<|AL U ux fun J6=>AL U jO fun J7=>qT U sZ U<|NI U Ab U U<|RK Pi<|WS fun _ Pj=>rP 2 [0,1] (mc 8 U (mc 5 U I)) ?_
   refine cX (vU gw b) (aO) U fun W5 XC=>?_
   obtain ⟨C0,C3⟩:=W5
   try dsimp only
   refine RK Pj<|aI<|jk 11 U (by exact fun _ h=>h)<|jk 13 U (by exact fun _ h=>h)<|jk 15 U (by exact fun _ h=>h)<|jk 12 U (by exact fun _ h=>h) ?_
   refine t_ (L0:=[(0,(vP gw)),(1,(vP W)),(2,(vI (ln.aa.n:Int))),(12,(vP gq)),(13,(vP J6)),(14,(vP J7)),(171,(vP B3))]) (F:=[(rd e_A e.length 1 (e.map iC)).ro,(rd t_A tms.length 1 (List.zipWith gv tms tb)).ro,(dT (br p7 tms tb)).ro,(cp gw 213 (cd.cells (cd.mk ln ri (bD.mk e_A e.length e_C) (bD.mk t_A tms.length t_C) (bD.mk fA (ln.aa.n+1) (ln.aa.n+1)) (bD.mk bA (ln.aa.n+1) (ln.aa.n+1))))).ro,(cp C0 181 [(vP gw)]),(cp C3 3 [(vI (b:Int))])]) (fun k (y:FM)=>(n8 (cV ln ri e tms) b mb left y (t,v) k)) (fun k y=>[(cp J7 3 [(vI v)]),(cp J6 218 (aN.cells t)),(Af eI B3 ga (cT iV mb) (cT iV (fy left t)) (some (t,(vI v)))),(bV (iS nk bs bb 0)),(kh eI A (cT iV y)),(cp gq 3 [(vI (b:Int))]),(bV (V.map ml)),(cp gw 213 (cd.cells (cd.mk ln ri (bD.mk e_A e.length e_C) (bD.mk t_A tms.length t_C) (bD.mk fA (ln.aa.n+1) (ln.aa.n+1)) (bD.mk bA (ln.aa.n+1) (ln.aa.n+1))))).ro,(cp W 181 [(vP gw)]),(rd e_A e.length 1 (e.map iC)).ro,(rd t_A tms.length 1 (List.zipWith gv tms tb)).ro,(dT (br p7 tms tb)).ro,(own bA (ln.aa.n+1) 216 1 (List.map oC (ia (A::bb) (ln.aa.n+1)))),(bV (br nk fs fb)),(own fA (ln.aa.n+1) 216 1 (List.map oC (dK fb (ln.aa.n+1))))]) (fun _ (_:Unit)=>False) (fun _ _=>[]) [6,7,8,9,10,11,12,13,14,15,16,17,18,19,20] [3,2,1,0,4,5] m rfl rfl (ti ln ri e tms e_A e_C tb t_A t_C fA (ln.aa.n+1) (ln.aa.n+1) bA (ln.aa.n+1) (ln.aa.n+1) gw b C0 C3 om om) rfl rfl rfl (by exact n8.start K L) (by simp only [List.forall_mem_cons,List.not_mem_nil,false_imp_iff,implies_true,and_true]; exact ⟨⟨_,aP (i:=0) rfl,(dQ (bY _))⟩,⟨_,aP (i:=1) rfl,(dQ (bY _))⟩,⟨_,aP (i:=2) rfl,(dQ (bY _))⟩,⟨_,aP (i:=3) rfl,(dQ (bY _))⟩,⟨_,aP (i:=4) rfl,(bY _)⟩,⟨_,aP (i:=5) rfl,(bY _)⟩⟩) (by rintro k x k2 ⟨o,_,rfl,_⟩; rfl) rfl (bu rfl) ?_ ?_ (fun _ _ _ h=>h.elim) (fun _ _ h=>h.elim)
   rotate_left 1
   ·rintro UG k O A3 A7
    have D:=A7
    try dsimp only
    refine aR<|aR<|Lu (X:=V.map ml) 13 0 U U ?_
    try dsimp only
    refine rD 9 U Cl U ?_
    refine bq (LA ⟨((fy left t),O,(UG::V)),⟨mO J,D.on,D.next In hm A3⟩⟩ _ _ _ U (mR hm) (bu U) (aQ [9,10,11,12,0,4,14,1,2,3,18,19,20]))
   rintro k x k2 O l ra rb S w1 K95 Qr96 WW hx H1 Pl AB W3 W7
   obtain ⟨o,ho,rfl,rfl⟩:=hx
   have D:=H1
   try dsimp only
   refine WS fun _ Pm=>rP 1 [] I ?_
   refine RK Pm<|aw<|AL U ed fun XG=>fJ U cW U<|aH<|g_ (fun _ _ h=>h) (aQ [1,0,2,3,4,5,6,7,8,9,10,11,12,13,14,15,16])<|bq (Pl _ _ ?_)
   refine aI<|ao fun _ Do=>dy cj [16,18] [] [] [0,1,2,3,4,5,6,7,8,9,10,11,12,13,14,15,16] [] U U U U U<|eS U (EF 2 U b_ U)<|eS U (FA 1 U eD U)<|eS U (L1 (vI o.2.Hi) 1 U b_ U U) ?_
   have hp:=E.Vb (b:=b) om N (J _ hm)
   have VT:=Iv hw hp
   have WM:=vw o.1
   have WP:=hw.opt ho
   dsimp only at VT
   refine eS U (MN U)<|eS U (EF 10 U b_ U)<|eS U (SX (cS U U) U U)<|eS U (FA 10 U eD U)<|eS U (JI (vS e_A e.length e_C) 9 U b_ U U)<|eS U (EF 7 U b_ U) ?_
   obtain ⟨y,hy⟩:=aJ e b om
   have Jh:=bM iC hy
   refine eS U (IA b U (aB 11 U) dk dc om om)<|eS U (gE b 0 (vI y) U b_ (aB 11 U) Jh U dc U) ?_
   have V9:=hw.least y (aP hy)
   refine eS U (BI U (uA ⟨om,om⟩))<|eS U (LW 3 U b_ U U)<|eS U (MV U)<|eS U (CL (Ja o.1) (aO) U)<|eS U (CL (wV t (fV o.1) om om) (aO) U)<|eS U (AG U)<|eh U<|cf U fun T101 Fd=>AL U ux fun W8=>aH (Fd _ _ (aQ [1,2,3,4,5,6,7,8,9,10,11,12,13,14,15,16,17]) ?_)
   refine cf U fun T103 Fn=>fJ U sZ U<|aH (Fn _ _ (aQ [1,2,3,4,5,6,7,8,9,10,11,12,13,14,15,16,17]) ?_)
   refine e8 U<|KK Do<|ao fun _ Du=>dj cj 14 kr<|lz 1 [] (mc 11 U I) U<|dS (SX (cS U U) U U)<|dP 3 [0,1] (mr 10 U (mc 8 U I)) ?_
   have IO:(List.map oC (ia (A::bb) (ln.aa.n+1)))[b]? =some (oC (some A)):=qH (uM (i:=0) rfl (by simp; omega))
   refine dS (IA b U (av (n:=(ln.aa.n+1)) 15 U sq) oU dc om om) ?_
   refine dS (gE b 0 (Value.map (some A)) U b_ (av (n:=(ia (A::bb) (ln.aa.n+1)).length) 15 U sm) IO U dc U)<|lz 1 [] (mc 0 U I) U<|dS (SX (tD (kV:=eI) (x:=(dM t (fV o.1))) (l:=O) (f:=iV) (z:=0) U U U pt pk Ws (by exact aB 7 U)) U U)<|kE 5 U<|cD<|RK Du<|WS fun _ Y=>eV 3 [0,1] (mc 3 U (mc 2 U I)) U<|rS (MN U)<|rP 4 [] (mc 2 U I) ?_
   refine bU (t:=217) U (aV fun T=>?_) (aU fun T=>?_)
   ·refine rP 8 [] I ?_
    refine RK Y<|ct U<|cu<|aR ?_
    exact AB O _ _ (by exact D.skip (NX T)) (aQ [1,3,4,5,6,7,8,9,10,11,12,13,14,15,16,17])
   refine rP 3 [] I ?_
   refine bK (t:=220) U (fun AA=>?_) (fun AA=>?_)
   ·rw [Bool.not_eq_true'] at AA
    refine bE 5 U<|RK Y<|aT U<|dj cj 9 kr<|lz 1 [] (mc 11 U I) U<|dS (SX (cS U U) U U)<|dP 3 [0,1] (mr 10 U (mc 8 U I)) ?_
    have IR:(List.map oC (ia (A::bb) (ln.aa.n+1)))[b]? =some (oC (some A)):=qH (uM (i:=0) rfl (by simp; omega))
    refine dS (IA b U (av (n:=(ln.aa.n+1)) 15 U sq) oU dc om om) ?_
    refine dS (gE b 0 (Value.map (some A)) U b_ (av (n:=(ia (A::bb) (ln.aa.n+1)).length) 15 U sm) IR U dc U)<|dP 2 [] (mc 0 U I) ?_
    refine cD<|iR (kV:=eI) (x:=(dM t (fV o.1))) (C':=[_,_,_,_,_,_,_,(kh eI A (cT iV (ew O (dM t (fV o.1)) ((min v o.2.Hi)-y)))),_,_,_,_,_,_,_,_,_,_]) 7 U U U U pt pk U (gN _ _ _ _).symm U<|aH<|aR ?_
    exact AB (ew O (dM t (fV o.1)) ((min v o.2.Hi)-y)) _ _ (by exact D.set (by show b<e.length; omega) hp ho (Ar hy T) (.inl (by simpa using AA))) (aQ [1,3,4,5,6,7,8,9,10,11,12,13,14,15,16,17])
   rw [Bool.not_eq_false'] at AA
   refine rP 5 [] I ?_
   refine RK Y<|bW U (aV fun AC=>?_) (aU fun AC=>?_)
   ·refine cu<|aR ?_
    exact AB O _ _ (by exact D.pw (Ar hy T) (by simpa using AA) AC) (aQ [1,3,4,5,6,7,8,9,10,11,12,13,14,15,16,17])
   refine dj cj 9 kr<|lz 1 [] (mc 11 U I) U<|dS (SX (cS U U) U U)<|dP 3 [0,1] (mr 10 U (mc 8 U I)) ?_
   have Id:(List.map oC (ia (A::bb) (ln.aa.n+1)))[b]? =some (oC (some A)):=qH (uM (i:=0) rfl (by simp; omega))
   refine dS (IA b U (av (n:=(ln.aa.n+1)) 15 U sq) oU dc om om) ?_
   refine dS (gE b 0 (Value.map (some A)) U b_ (av (n:=(ia (A::bb) (ln.aa.n+1)).length) 15 U sm) Id U dc U)<|dP 2 [] (mc 0 U I) ?_
   refine cD<|iR (kV:=eI) (x:=(dM t (fV o.1))) (C':=[_,_,_,_,_,_,_,(kh eI A (cT iV (ew O (dM t (fV o.1)) ((min v o.2.Hi)-y)))),_,_,_,_,_,_,_,_,_,_]) 7 U U U U pt pk U (gN _ _ _ _).symm U<|aH<|aR ?_
   exact AB (ew O (dM t (fV o.1)) ((min v o.2.Hi)-y)) _ _ (by exact D.set (by show b<e.length; omega) hp ho (Ar hy T) (.inr AC)) (aQ [1,3,4,5,6,7,8,9,10,11,12,13,14,15,16,17])
  refine dy cj [4,11,12,14] [10] [0,1,2] [0,1,2,3,4,6] [0,1,2,3,4,5,6] U U U U U<|eS U (EF 1 U b_ U)<|eS U (SX (cS U U) U U)<|eS U (FA 12 U eD U)<|eS U (JI (vS fA (ln.aa.n+1) (ln.aa.n+1)) 0 U b_ U U)<|eS U (SX (bf (xs:=[]) (cs:=(aN.cells (aN.mk 0 0))) U U (bg BH U)) U U)<|eS U (EF 1 U b_ U)<|eS U (SX (cS U U) U U)<|eS U (FA 7 U eD U)<|eS U (FA 7 U eD U)<|eS U (JI (vI ri.Start) 0 U b_ U U) ?_
  obtain ⟨x6,WX⟩:=aJ (List.replicate (ln.aa.n+1) (none:Option Nat)) 0 om
  have hx7m:(List.map oC (List.replicate (ln.aa.n+1) (none:Option Nat)))[0]? =some (oC x6):=by rw [gf,WX]; rfl
  refine fS U (IA 0 U (av (n:=(ln.aa.n+1)) 5 U sq) oU dc U om) ?_
  refine eh U<|ja U fun T8 GR=>mT (kV:=eI) U U fun r=>?_
  try dsimp only
  refine aH (GR _ _ (aQ [1,2,3,4,5,7]) (aQ [1,2,3,4,5,6,7]) ?_)
  refine ja U fun T10 G=>?_
  have R4:(ew ([]:List (aN×Int)) (aN.mk 0 0) ri.Start)=[((aN.mk 0 0),ri.Start)]:=by rfl
  refine zO (kV:=eI) (x:=(aN.mk 0 0)) (C':=[(kh eI r (cT iV ([((aN.mk 0 0),ri.Start)]))),_,_,_,_,_,_,_]) 0 U U U U pt pk U ((gN _ _ _ _).symm.trans (congrArg _ R4)) U<|aH (G _ _ (aQ [1,2,3,4,5,7]) (aQ [1,2,3,4,5,6,7]) ?_)
  refine ja U fun T12 Pq=>rS (MV U)<|aH (Pq _ _ (aQ [1,2,3,4,5,7]) (aQ [1,2,3,4,5,6,7]) ?_)
  refine cf U fun T13 Pr=>?_
  have R5:((List.replicate (ln.aa.n+1) (none:Option Nat)).set 0 (some r))=(dK [r] (ln.aa.n+1)):=by rw [vH]; exact sL rfl sm
  refine f_ (k:=0) (o:=0) (vs:=[(Value.map (some r))]) (es':=(List.map oC (dK [r] (ln.aa.n+1)))) (C':=[_,_,_,_,_,_,(own fA (ln.aa.n+1) 216 1 (List.map oC (dK [r] (ln.aa.n+1)))),_]) 6 U U U KY U U U U hx7m U dc (by exact (List.map_set (f:=oC) (l:=(List.replicate (ln.aa.n+1) (none:Option Nat))) (i:=0) (a:=(some r))).symm.trans (congrArg _ R5)) U<|aH (Pr _ _ (aQ [1,2,3,4,5,7]) ?_)
  refine e8 U<|ES<|xM (X:=[]) (X':=br nk [[((aN.mk 0 0),ri.Start)]] [r]) 0 1 U U U ?_
  try dsimp only
  refine bq (g_ (bu U) (aQ [1,2,3,4,5,7,0,6]) (VO ⟨r,trivial⟩))
 refine lT cj [0,1,2,3,5,6,8,9,11,12] [4,7,10,13] [false,false,false,false,false,false,false,false,false,false] [] [(cp W 181 [(vP gw)]),(rd e_A e.length 1 (e.map iC)).ro,(rd t_A tms.length 1 (List.zipWith gv tms tb)).ro,(dT (br p7 tms tb)).ro] [] kr (aQ [0,2,3,4]) (aQ [])<|eS U (EF 0 U b_ U)<|eS U (EF 0 U b_ U)<|eS U (MV U)<|eS U (BI U (kx ⟨om,om⟩))<|eS U (MV U)<|eS U (BI U (kx ⟨om,om⟩))<|eS U (SX (cS U U) U U)<|eS U (FA 12 U eD U)<|eS U (SX (cS U U) U U)<|eS U (FA 13 U eD U)<|eh U<|m6 [4,7] kr (iF ?_<|iF ?_<|qC)
 rotate_left 1
 ·refine NO U U [4,10,13] fun T5 GE=>?_
  refine wD (n:=(ln.aa.n+1)) (es:=(List.map oC (List.replicate (ln.aa.n+1) (none:Option Nat)))) U U U C8 om om (by simp only [maxLen]; omega) (by rw [List.map_replicate]; rfl) U fun b6=>?_
  try dsimp only
  refine aH (GE _ _ (aQ [1,3,4,5]) ?_)
  refine N1 4<|NO U U [10,13] fun T7 A2=>?_
  refine wD (n:=(ln.aa.n+1)) (es:=(List.map oC (List.replicate (ln.aa.n+1) (none:Option Nat)))) U U U C8 om om (by simp only [maxLen]; omega) (by rw [List.map_replicate]; rfl) U fun b8=>?_
  try dsimp only
  refine aH (A2 _ _ (aQ [2,4,5,6]) ?_)
  refine N1 10<|NO U U [13] fun T9 GT=>Qz (cd.cells (cd.mk ln ri (bD.mk e_A e.length e_C) (bD.mk t_A tms.length t_C) (bD.mk (some ⟨b8,0,none⟩) (ln.aa.n+1) (ln.aa.n+1)) (bD.mk none 0 0))) U zD U U<|aH (GT _ _ (aQ [2,4,5,6]) ?_)
  refine N1 13<|NO U U [] fun T10 G=>Qz (cd.cells (cd.mk ln ri (bD.mk e_A e.length e_C) (bD.mk t_A tms.length t_C) (bD.mk (some ⟨b8,0,none⟩) (ln.aa.n+1) (ln.aa.n+1)) (bD.mk (some ⟨b6,0,none⟩) (ln.aa.n+1) (ln.aa.n+1)))) U zD U U<|aH (G _ _ (aQ [2,4,5,6]) ?_)
  refine l3 ?_
  refine bq (g_ (bu U) (aQ [2,4,5,6,0,1,3]) (Eq ⟨((some ⟨b8,0,none⟩),(some ⟨b6,0,none⟩)),trivial⟩))
 refine NO U U [7,10,13] fun T5 GE=>?_
 refine wD (n:=(ln.aa.n+1)) (es:=(List.map oC (List.replicate (ln.aa.n+1) (none:Option Nat)))) U U U C8 om om (by simp only [maxLen]; omega) (by rw [List.map_replicate]; rfl) U fun b6=>?_
 try dsimp only
 refine aH (GE _ _ (aQ [1,3,4,5]) ?_)
 refine m6 [7,10] kr (iF ?_<|iF ?_<|qC)
 rotate_left 1
 ·refine NO U U [7,13] fun T7 A2=>Uo (cd.cells (cd.mk ln ri (bD.mk e_A e.length e_C) (bD.mk t_A tms.length t_C) (bD.mk (some ⟨b6,0,none⟩) (ln.aa.n+1) (ln.aa.n+1)) (bD.mk none 0 0))) U zD U U<|aH (A2 _ _ (aQ [1,3,4,5]) ?_)
  refine N1 7<|NO U U [13] fun T8 GR=>?_
  refine wD (n:=(ln.aa.n+1)) (es:=(List.map oC (List.replicate (ln.aa.n+1) (none:Option Nat)))) U U U C8 om om (by simp only [maxLen]; omega) (by rw [List.map_replicate]; rfl) U fun r=>?_
  try dsimp only
  refine aH (GR _ _ (aQ [2,4,5,6]) ?_)
  refine N1 13<|NO U U [] fun T10 G=>Qz (cd.cells (cd.mk ln ri (bD.mk e_A e.length e_C) (bD.mk t_A tms.length t_C) (bD.mk (some ⟨b6,0,none⟩) (ln.aa.n+1) (ln.aa.n+1)) (bD.mk (some ⟨r,0,none⟩) (ln.aa.n+1) (ln.aa.n+1)))) U zD U U<|aH (G _ _ (aQ [2,4,5,6]) ?_)
  refine l3 ?_
  refine bq (g_ (bu U) (aQ [2,4,5,6,1,0,3]) (Eq ⟨((some ⟨b6,0,none⟩),(some ⟨r,0,none⟩)),trivial⟩))
 refine NO U U [10,13] fun T7 A2=>?_
 refine wD (n:=(ln.aa.n+1)) (es:=(List.map oC (List.replicate (ln.aa.n+1) (none:Option Nat)))) U U U C8 om om (by simp only [maxLen]; omega) (by rw [List.map_replicate]; rfl) U fun b8=>?_
 try dsimp only
 refine aH (A2 _ _ (aQ [2,4,5,6]) ?_)
 refine N1 10<|NO U U [13] fun T9 GT=>Qz (cd.cells (cd.mk ln ri (bD.mk e_A e.length e_C) (bD.mk t_A tms.length t_C) (bD.mk (some ⟨b6,0,none⟩) (ln.aa.n+1) (ln.aa.n+1)) (bD.mk none 0 0))) U zD U U<|aH (GT _ _ (aQ [2,4,5,6]) ?_)
 refine N1 13<|NO U U [] fun T10 G=>Qz (cd.cells (cd.mk ln ri (bD.mk e_A e.length e_C) (bD.mk t_A tms.length t_C) (bD.mk (some ⟨b6,0,none⟩) (ln.aa.n+1) (ln.aa.n+1)) (bD.mk (some ⟨b8,0,none⟩) (ln.aa.n+1) (ln.aa.n+1)))) U zD U U<|aH (G _ _ (aQ [2,4,5,6]) ?_)
 refine l3 ?_
 refine bq (g_ (bu U) (aQ [2,4,5,6,1,0,3]) (Eq ⟨((some ⟨b6,0,none⟩),(some ⟨b8,0,none⟩)),trivial⟩))
end
section
open Go.RowKit
theorem EN (l:bp) (kA:OA) (kC:Nat) (az:List RA) (cA:OA) (cC:Nat) (bA:OA) (bC g1:Nat) (bm:Int) (g2:Nat) (hin:dY l az):
 dL Tryz.prog 105 [(vP g1),(vP g2)] [(rd kA l.aS.length 9 (l.aS.map ar.cells)),(rd cA l.aj.length 2 (List.zipWith au.cells l.aj az)),(dT (br au.gd l.aj az)),(rd bA l.aa.length 4 (l.aa.map bJ.cells)),(cp g1 28 (cr.cells (jC l kA kC cA cC bA bC))),(cp g2 3 [(vI bm)])] (vI (jT l bm)):=by
 have K:=hin.qS
 have J:=hin.qW
 have H:=hin.nx
 have AA:=hin.qU
 refine bH kr Tryz.func105 U U fun L Q hQ hN=>?_
 try dsimp only
 refine WS fun _ B=>bE 1 U<|RK B<|ao fun _ C=>WS fun _ D=>rP 5 [0,1] (mr 4 U (mr 5 U I)) ?_
 refine d_ (xs:=[.tmp 7]) (cs:=[(vI bm)]) U dk jO U U U U (by simp [Value.cells]) U U fun G=>?_
 refine rS (CL (dL.eq (gM 0 ((l.aa.length:Int)-1) ([bm]) (some ⟨G,0,none⟩) 1 (by (simp; done))) cw) (aC (bo 0 U U (by simp [bL]) U)<|aO) U) ?_
 refine rP 1 [] I ?_
 refine RK D<|cy U (aX fun A=>?_) (aW fun A=>?_)
 ·refine WS fun _ E=>rP 1 [] I ?_
  refine RK E<|aq<|Q1 hQ U U U ?_
  exact cI (if_neg om).symm
 refine WK C<|WS fun _ F=>rP 1 [] I ?_
 refine RK F<|aq<|Q1 hQ U U U ?_
 exact cI (if_pos om).symm
theorem N0 (l:bp) (kA:OA) (kC:Nat) (az:List RA) (cA:OA) (cC:Nat) (bA:OA) (bC:Nat) (r:bT) (sgA:OA) (sgC:Nat) (hin:dY l az) (hsl:r.ab.length≤1000000):
 pS Tryz.prog 104 [(vA (cr.cells (jC l kA kC cA cC bA bC))),(vA (cb.cells (ji r sgA sgC))),(vS none 0 0)] [(rd kA l.aS.length 9 (l.aS.map ar.cells)),(rd cA l.aj.length 2 (List.zipWith au.cells l.aj az)),(dT (br au.gd l.aj az)),(rd bA l.aa.length 4 (l.aa.map bJ.cells)),(rd sgA r.ab.length 2 (r.ab.map aA.cells))] (fun (x:Bool×Int×Nat×(OA)×Nat×(OA)×Nat×(List Nat)×(List FM)×(List Nat)×(OA)×Nat×(List FM)×(List Nat)×(OA)×Nat)=>bif x.1 then (vT [(Value.pointer (some ⟨x.2.2.1,0,none⟩)),(vI 0)]) else (vT [(Value.pointer none),(vI x.2.1)])) (fun (x:Bool×Int×Nat×(OA)×Nat×(OA)×Nat×(List Nat)×(List FM)×(List Nat)×(OA)×Nat×(List FM)×(List Nat)×(OA)×Nat)=>(x.1=true→(eW l r 0=0∧wg (cQ l r) x.2.2.2.2.2.2.2.2.1∧tH (cQ l r) x.2.2.2.2.2.2.2.2.2.2.2.2.1∧x.2.2.2.2.2.2.2.2.2.1.length=x.2.2.2.2.2.2.2.2.1.length∧x.2.2.2.2.2.2.2.2.2.2.2.2.2.1.length=x.2.2.2.2.2.2.2.2.2.2.2.2.1.length∧x.2.2.2.2.2.2.2.1.length=(cP l r.ab r.ab.length).length))∧(x.1=false→(x.2.1=eW l r 0∧ ¬ eW l r 0=0))) (fun (x:Bool×Int×Nat×(OA)×Nat×(OA)×Nat×(List Nat)×(List FM)×(List Nat)×(OA)×Nat×(List FM)×(List Nat)×(OA)×Nat)=>bif x.1 then [(cp x.2.2.1 213 (cd.cells (cd.mk (jC l kA kC cA cC bA bC) (ji r sgA sgC) (bD.mk x.2.2.2.1 ((cm l l.aa.length).length) x.2.2.2.2.1) (bD.mk x.2.2.2.2.2.1 ((cP l r.ab r.ab.length).length) x.2.2.2.2.2.2.1) (bD.mk x.2.2.2.2.2.2.2.2.2.2.1 x.2.2.2.2.2.2.2.2.1.length x.2.2.2.2.2.2.2.2.2.2.2.1) (bD.mk x.2.2.2.2.2.2.2.2.2.2.2.2.2.2.1 x.2.2.2.2.2.2.2.2.2.2.2.2.1.length x.2.2.2.2.2.2.2.2.2.2.2.2.2.2.2)))),(own x.2.2.2.1 x.2.2.2.2.1 3 1 ((cm l l.aa.length).map iC)),(own x.2.2.2.2.2.1 x.2.2.2.2.2.2.1 205 1 (List.zipWith gv (cP l r.ab r.ab.length) x.2.2.2.2.2.2.2.1)),(bV (br p7 (cP l r.ab r.ab.length) x.2.2.2.2.2.2.2.1)),(own x.2.2.2.2.2.2.2.2.2.2.1 x.2.2.2.2.2.2.2.2.2.2.2.1 216 1 (List.zipWith gv x.2.2.2.2.2.2.2.2.1 x.2.2.2.2.2.2.2.2.2.1)),(bV (br nk x.2.2.2.2.2.2.2.2.1 x.2.2.2.2.2.2.2.2.2.1)),(own x.2.2.2.2.2.2.2.2.2.2.2.2.2.2.1 x.2.2.2.2.2.2.2.2.2.2.2.2.2.2.2 216 1 (List.zipWith gv x.2.2.2.2.2.2.2.2.2.2.2.2.1 x.2.2.2.2.2.2.2.2.2.2.2.2.2.1)),(bV (br nk x.2.2.2.2.2.2.2.2.2.2.2.2.1 x.2.2.2.2.2.2.2.2.2.2.2.2.2.1))] else []):=by
 have R9:=hin.qS
 have R7:=hin.qW
 have R5:=hin.nx
 have R6:=hin.qU
 have R8:=hin.side
 refine fB kr Tryz.func104 U U fun w0 Q hQ hN=>?_
 try dsimp only
 refine WS fun _ M2=>eO U fun b2=>eO U fun b3=>bE 2 U<|RK M2<|ao fun _ M_=>WS fun _ NE=>eV 1 [] (mc 1 U I) U<|rS (CL (r8 l kA kC az cA cC bA bC hin) (bk [2,3,4,5]) U)<|bE 1 U<|RK NE<|WS fun _ NP=>rP 2 [] I ?_
 refine RK NP<|cy U (aX fun d=>?_) (aW fun d=>?_)
 ·refine WS fun _ Ne=>rP 3 [] I ?_
  refine RK Ne<|aq<|LX hQ (false,(dg l),0,none,0,none,0,[],[],[],none,0,[],[],none,0) [] [] I U (by rfl) U U ?_
  exact sJ<|Rg (mY (r:=r) (me:=0) d) d
 refine WK M_<|ao fun _ Nr=>WS fun _ s=>?_
 have E:dg l=0:=d
 obtain ⟨K4,Z⟩:=du E
 have Or:=Z.head
 unfold eU at Or
 refine rP 2 [] (mc 0 U I) ?_
 refine d_ (xs:=[.tmp 24]) (cs:=[(vI r.Start)]) U dk jO U U U U (by simp [Value.cells]) U U fun LE=>?_
 refine rS (CL (dL.eq (gM 0 86400000 ([r.Start]) (some ⟨LE,0,none⟩) 1 (by (simp; done))) cw) (aC (bo 0 U U (by simp [bL]) U)<|aO) U) ?_
 refine rP 2 [] I ?_
 refine bK (t:=28) U (aX fun Li=>?_) (aW fun Li=>?_)
 ·refine bE 14 U<|RK s<|aT U<|WS fun _ A3=>rP 2 [] I ?_
  refine RK A3<|aq<|LX hQ (false,51,0,none,0,none,0,[],[],[],none,0,[],[],none,0) [] [] I U (by rfl) U U ?_
  exact sJ<|u_ (fP (me:=0) E (fun q:er l r=>by have q1:=q.time; have q2:=q.len; omega))
 refine rP 4 [] (mc 1 U I) ?_
 refine d_ (xs:=[.tmp 32]) (cs:=[(vI r.gh)]) U dk jO U U U U (by simp [Value.cells]) U U fun LT=>?_
 refine rS (CL (dL.eq (gM r.Start 86400000 ([r.gh]) (some ⟨LT,0,none⟩) 1 (by (simp; done))) cw) (aC (bo 0 U U (by simp [bL]) U)<|aO) U) ?_
 refine rP 3 [] I ?_
 refine bK (t:=37) U (aX fun Lo=>?_) (aW fun Lo=>?_)
 ·refine bE 5 U<|RK s<|aT U<|WS fun _ A4=>rP 2 [] I ?_
  refine RK A4<|aq<|LX hQ (false,51,0,none,0,none,0,[],[],[],none,0,[],[],none,0) [] [] I U (by rfl) U U ?_
  exact sJ<|u_ (fP (me:=0) E (fun q:er l r=>by have q1:=q.time; have q2:=q.len; omega))
 refine rP 5 [] (mc 2 U I) ?_
 refine RK s<|cy U (aU fun L0=>?_) (aV fun L0=>?_)
 ·refine WS fun _ A5=>rP 2 [] I ?_
  refine RK A5<|aq<|LX hQ (false,51,0,none,0,none,0,[],[],[],none,0,[],[],none,0) [] [] I U (by rfl) U U ?_
  exact sJ<|u_ (fP (me:=0) E (fun q:er l r=>by have q1:=q.time; have q2:=q.len; omega))
 refine WK Nr<|WS fun _ A6=>rS (SX (bf (xs:=[(0,.const (vI (-1)))]) (cs:=(aA.cells (aA.mk (-1) 0))) U U (bg Et U)) U U)<|AL U Cf fun AA=>fJ U vN U<|RK A6<|ao fun _ A7=>dy cj [5,6,7,8] [] [] [0,1,2,3,4,5,6,7,8,9] [] U U U U U<|eS U (LW 4 U b_ U U)<|eS U (LW 3 U b_ U U)<|eS U (FA 3 U eD U)<|eS U (L1 (vS bA l.aa.length bC) 4 U b_ U U)<|eS U (LN U Po)<|eh U<|cf U fun T18 GT=>?_
 refine wD (n:=l.aa.length) (es:=(List.map oC (List.replicate l.aa.length (none:Option Nat)))) U U U OP om om (by simp only [maxLen]; omega) (by rw [List.map_replicate]; rfl) U fun B=>?_
 try dsimp only
 refine aH (GT _ _ (aQ [1,2,3,4,5,6,7,8,9,10]) ?_)
 refine cf U fun T20 Go=>rS (SX (bf (xs:=[(0,.tmp 44),(1,.tmp 45),(3,.tmp 49)]) (cs:=(cd.cells (cd.mk (jC l kA kC cA cC bA bC) (ji r sgA sgC) (bD.mk none 0 0) (bD.mk (some ⟨B,0,none⟩) l.aa.length l.aa.length) (bD.mk none 0 0) (bD.mk none 0 0)))) U U (bg OO U)) U U)<|aH (Go _ _ (aQ [1,2,3,4,5,6,7,8,9,10]) ?_)
 refine cf U fun T21 Hi=>eO U fun J=>aH (Hi _ _ (aQ [2,3,4,5,6,7,8,9,10,11]) ?_)
 refine cf U fun T23 Hm=>rS (AG U)<|aH (Hm _ _ (aQ [2,3,4,5,6,7,8,9,10,11]) ?_)
 refine e8 U<|KK A7<|ao fun _ A8=>WS fun _ A9=>rP 4 [] (mc 6 U I) ?_
 refine RK A9<|aI ?_
 rw [vH]
 refine eK 3 1<|n9 ?_
 have D:(0≤l.aa.length)∧(([]:List Nat).length=0):=by exact ⟨Nat.zero_le _,rfl⟩
 refine bZ (ι:={z:Nat×(OA)×Nat×(List Nat) // (z.1≤l.aa.length)∧(z.2.2.2.length=z.1)}) [2,3,4,6,7,9,10,54] [4,7,8,9,10,11,12,13] U U (fun z=>[(55,(vI (z.1.1:Int)))]) (fun z=>[(bV (br p7 (List.replicate z.1.1 ([]:TM)) z.1.2.2.2)),(own z.1.2.1 z.1.2.2.1 3 1 ((cm l z.1.1).map iC)),(cp J 213 (cd.cells (cd.mk (jC l kA kC cA cC bA bC) (ji r sgA sgC) (bD.mk z.1.2.1 ((cm l z.1.1).length) z.1.2.2.1) (bD.mk (some ⟨B,0,none⟩) l.aa.length l.aa.length) (bD.mk none 0 0) (bD.mk none 0 0)))),(own (some ⟨B,0,none⟩) l.aa.length 205 1 (List.map oC (dK z.1.2.2.2 l.aa.length)))]) (fun _=>rfl) (fun _=>rfl) (fun z=>l.aa.length-z.1.1) ⟨(0,none,0,([]:List Nat)),D⟩ (bu U) (aQ [4,7,8,9,10,11,12,13,0,1,2,3]) ?_
 clear D
 rintro ⟨⟨b,a,c,fb⟩,⟨u,W⟩⟩ J26 A2
 try dsimp only at u W
 try dsimp only
 have Os:(dK fb l.aa.length).length=l.aa.length:=nK om
 refine WS fun _ Bd=>rP 1 [] I ?_
 refine RK Bd<|ao fun _ Bo=>cy U (aU fun Lk=>?_) (aV fun Lk=>?_)
 ·refine WK Bo<|ao fun _ B3=>aI<|WS fun _ B9=>rP 2 [] I ?_
  refine RK B9<|ao fun _ Ci=>dy cj [12,13,16] [4] [0] [0,1,2,3,4,5,6,7,8,11] [0,1,2,3,4,5,6,7,8,9,10,11] U U U U U<|eS U (MV U)<|eS U (MV U)<|eS U (SX (cS U U) U U)<|eS U (FA 10 U eD U)<|fS U (L1 (vS a ((cm l b).length) c) 10 U b_ U U)<|eS U (LW 2 U b_ U U)<|eS U (MV U)<|eS U (CL (F2 l kA kC az cA cC bA bC (b:Int) hin asm (by exact Z.re) om) (bk [3,4,5,6]) U) ?_
  have ST:=zq K4 Z.re b
  have Sz:=Z.Oy b om
  simp only [Int.toNat_natCast]
  refine eS U (BI U (nt ⟨om,om⟩))<|eS U (FA 1 U eD U)<|eS U (L1 (vI l.hZ) 2 U b_ U U) ?_
  refine eS U (CL (F_ (1000*(lg l (b:Int).toNat)) l.hZ om (by (simp; omega))) (aO) U) ?_
  refine eS U (SX (cS U U) U U)<|eS U (FA 10 U eD U)<|eh U<|ja U fun T33 H1=>d_ (xs:=[.tmp 69]) (cs:=[(vI (mZ (1000*(lg l (b:Int).toNat)) l.hZ))]) U dk jO U U U U (by simp [Value.cells]) U U fun R0=>aH (H1 _ _ (aQ [1,2,3,4,5,6,7,8,9,12]) (aQ [1,2,3,4,5,6,7,8,9,10,11,12]) ?_)
  refine cf U fun T35 IO=>?_
  refine dD (es2:=(List.map iC (cm l (b+1)))) (m':=(cm l (b+1)).length) 10 U U U rL U U (by simp [dh]) (bo (es:=List.map iC [(mZ (1000*(lg l (b:Int).toNat)) l.hZ)]) 0 U U (by simp [bL]) U) (kD _) (by have:=dh (l:=l) (n:=b); first|omega|(simp; omega)) (by simp only [maxLen,dh]; omega) (by rw [rV]; simp [cZ]) (by simp [dh]) U fun AC AO=>?_
  try dsimp only
  refine aH (IO _ _ (aQ [1,2,3,4,5,6,7,8,9,12]) ?_)
  refine cf U fun T38 IR=>Mo (cd.cells (cd.mk (jC l kA kC cA cC bA bC) (ji r sgA sgC) (bD.mk AC ((cm l (b+1)).length) AO) (bD.mk (some ⟨B,0,none⟩) l.aa.length l.aa.length) (bD.mk none 0 0) (bD.mk none 0 0))) U Db U U<|aH (IR _ _ (aQ [1,2,3,4,5,6,7,8,9,12]) ?_)
  refine e8 U<|KK Ci<|aw<|bE 1 U<|rS (SX (cS U U) U U)<|rP 3 [] (mc 11 U I) ?_
  refine mT (kV:=iV) U U fun H=>?_
  try dsimp only
  obtain ⟨Pi,K8⟩:=aJ (dK fb l.aa.length) b om
  have hx41m:(List.map oC (dK fb l.aa.length))[b]? =some (oC Pi):=by rw [gf,K8]; rfl
  refine rS (IA b U (av (n:=l.aa.length) 13 U sq) yB dc om om) ?_
  have Id:((dK fb l.aa.length).set b (some H))=(dK (fb++[H]) l.aa.length):=by exact sL om om
  refine f_ (k:=b) (o:=0) (vs:=[(Value.map (some H))]) (es':=(List.map oC (dK (fb++[H]) l.aa.length))) (C':=[_,_,_,_,_,_,_,_,_,_,_,_,_,(own (some ⟨B,0,none⟩) l.aa.length 205 1 (List.map oC (dK (fb++[H]) l.aa.length)))]) 13 U U U FN U U U U hx41m U dc (by exact (List.map_set (f:=oC) (l:=(dK fb l.aa.length)) (i:=b) (a:=(some H))).symm.trans (congrArg _ Id)) U<|aH<|aR<|KK B3<|aw<|rP 2 [] I ?_
  refine aH<|xM (X':=br p7 (List.replicate (b+1) ([]:TM)) (fb++[H])) 10 0 U U (FG W) ?_
  try dsimp only
  have If:(vI (((b+1):Nat):Int))=(vI ((b:Int)+1)):=by exact cI om
  refine bq (A2 ⟨((b+1),AC,AO,(fb++[H])),⟨om,by simp; omega⟩⟩ _ _ _ U os (cY 8<|bw U If<|dG.nil _) (aQ [2,3,4,5,6,7,8,9,0,10,11,12]))
 refine bS<|ai<|ai<|aL<|KK A8<|ao fun _ Ck=>WS fun _ Cp=>rP 4 [] (mc 1 U I) ?_
 refine RK Cp<|aI ?_
 rw [show (List.replicate b ([]:TM))=cP l r.ab 0 from by rw [w9,show b=l.aa.length by omega]]
 rw [show cm l b=cm l l.aa.length from by rw [show b=l.aa.length by omega]]
 have D:(0≤r.ab.length)∧(o1 l r.ab 0):=by exact ⟨Nat.zero_le _,vZ⟩
 refine bZ (ι:={z:Nat // (z≤r.ab.length)∧(o1 l r.ab z)}) [2,3,4,6,7,9,10,83,84] [1,2,3,4,5,6,7,9,10,11] U U (fun z=>[(85,(vI (z.1:Int)))]) (fun z=>[(cp AA 87 (aA.cells (kO r.ab z.1))),(bV (br p7 (cP l r.ab z.1) fb))]) (fun _=>rfl) (fun _=>rfl) (fun z=>r.ab.length-z.1) ⟨0,D⟩ (bu U) (aQ [1,2,3,4,5,6,7,9,10,11,0,8]) ?_
 clear D
 rintro ⟨i,⟨LA,A⟩⟩ J46 S
 try dsimp only
 have PN:(cP l r.ab i).length=l.aa.length:=gL
 have Os:(dK fb l.aa.length).length=l.aa.length:=nK om
 refine WS fun _ Cx=>rP 1 [] I ?_
 refine RK Cx<|ao fun _ C0=>bW U (aV fun L2=>?_) (aU fun L2=>?_)
 ·refine bS<|ai<|ai<|aL<|KK Ck<|ao fun _ FE=>ao fun _ FS=>?_
  have w:er l r:=xJ om om A om
  refine aw<|rP 3 [] I ?_
  refine RK FS<|aI<|rW 1<|kS fun R81 Pq=>WS fun _ Fd=>rS (SX (gn (r:= .bool false) U U U qB) U U)<|RK Fd<|ao fun _ Pm=>ct U<|bS<|ai<|ai<|aL<|KK FE<|ao fun _ Fn=>?_
  rw [show cP l r.ab i=cP l r.ab r.ab.length from by rw [show i=r.ab.length by omega]]
  have y:(cP l r.ab r.ab.length).length=l.aa.length:=gL
  rw [show (List.map oC (dK fb l.aa.length))=(List.zipWith gv (cP l r.ab r.ab.length) fb) from Ry om y]
  rw [show (cp J 213 (cd.cells (cd.mk (jC l kA kC cA cC bA bC) (ji r sgA sgC) (bD.mk a ((cm l l.aa.length).length) c) (bD.mk (some ⟨B,0,none⟩) l.aa.length l.aa.length) (bD.mk none 0 0) (bD.mk none 0 0))))=(cp J 213 (cd.cells (cd.mk (jC l kA kC cA cC bA bC) (ji r sgA sgC) (bD.mk a ((cm l l.aa.length).length) c) (bD.mk (some ⟨B,0,none⟩) ((cP l r.ab r.ab.length).length) l.aa.length) (bD.mk none 0 0) (bD.mk none 0 0)))) from by rw [y]]
  have K5:=lL K4 Z w
  have Pr:(cm l l.aa.length).length=l.aa.length:=dh
  refine aw<|rP 1 [] I ?_
  refine oO 8 U U U U (CG (jC l kA kC cA cC bA bC) (ji r sgA sgC) (cm l l.aa.length) (cP l r.ab r.ab.length) a c fb (some ⟨B,0,none⟩) l.aa.length J (by exact K5) (by exact dh.symm) (by rw [y]; omega)) U (eB 7 U U (jv sm) (eB 9 U U (jv (by rw [List.length_zipWith]; omega)) (eB 11 U U rM rK))) U (fun Pj Op=>?_)
  obtain ⟨G,R,O,P,F,N,L,M⟩:=Pj
  refine Fe (X:=[(cp J 213 (cd.cells (cd.mk (jC l kA kC cA cC bA bC) (ji r sgA sgC) (bD.mk a ((cm l l.aa.length).length) c) (bD.mk (some ⟨B,0,none⟩) ((cP l r.ab r.ab.length).length) l.aa.length) (bD.mk O G.length P) (bD.mk L F.length M)))),(own O P 216 1 (List.zipWith gv G R)),(bV (br nk G R)),(own L M 216 1 (List.zipWith gv F N)),(bV (br nk F N))]) 8 U U ?_
  try dsimp only
  obtain ⟨v,J9,KP,K0⟩:=Op
  dsimp only at v J9 KP K0
  refine RK Fn<|ao fun _ GE=>WS fun _ GR=>rP 1 [] I ?_
  refine cX (vp (jC l kA kC cA cC bA bC) (ji r sgA sgC) (cm l l.aa.length) (cP l r.ab r.ab.length) a c fb (some ⟨B,0,none⟩) l.aa.length G F R O P N L M J (by exact K5) (by (simp; omega)) (by exact dh.symm) (by exact v) asm) (aC (av (n:=(cm l l.aa.length).length) 12 U sm)<|aC (av (n:=(cP l r.ab r.ab.length).length) 13 U (by rw [List.length_zipWith]; omega))<|aC (eT 15 U lU)<|aC (av (n:=G.length) 1 U (by rw [List.length_zipWith]; omega))<|aC (eT 2 U lU)<|aC (av (n:=F.length) 3 U (by rw [List.length_zipWith]; omega))<|aC (eT 4 U lU)<|gJ 0 U U<|aO) U fun Pl Pv=>?_
  obtain ⟨Re,R4⟩:=Pl
  try dsimp only
  refine rP 2 [] I ?_
  refine RK GR<|bW U (aV fun V=>?_) (aU fun V=>?_)
  ·refine WK GE<|WS fun _ p=>rP 3 [] I ?_
   refine RK p<|aq ?_
   refine LX hQ (true,0,J,a,c,(some ⟨B,0,none⟩),l.aa.length,fb,G,R,O,P,F,N,L,M) [1,13,14,16,2,3,4,5] [] I U (by (show List.all _ _=true; simp only [cond_true,g5,List.all_nil,E7,O_,Bool.and_true]; rfl)) U U ?_
   exact ⟨fun _=>⟨pM E w (by first|rfl|exact h156) (fun q=>V (congrArg (fun z:List Int=>(z.length:Int)) q)),v,J9,KP,K0,dso⟩,QA⟩
  refine WS fun _ j=>rP 2 [] I ?_
  refine RK j<|aq<|LX hQ (false,8,0,none,0,none,0,[],[],[],none,0,[],[],none,0) [] [] I U (by rfl) U U ?_
  exact sJ<|u_ (tL (me:=0) E w (by first|rfl|exact h156) (show lQ (cQ l r)=[] from ko (Int.natCast_eq_zero.1 V)))
 refine WK C0<|ao fun _ T=>aI<|WS fun _ C1=>rP 1 [] I ?_
 obtain ⟨x,hx⟩:=aJ r.ab i om
 have PP:=bM aA.cells hx
 refine rS (IA i U (aB 6 U) wL dc om om)<|rS (lM i 0 (aA.cells x) U b_ (aB 6 U) PP U dc U U)<|AL U Cf fun R1=>bE 1 U<|fJ U vN U<|RK C1<|ao fun _ e=>WS fun _ AB=>rP 6 [0,1] (mc 2 U (mc 0 U I)) ?_
 refine d_ (xs:=[.tmp 95]) (cs:=[(vI x.fE)]) U dk jO U U U U (by simp [Value.cells]) U U fun La=>?_
 refine rS (CL (dL.eq (gM 0 ((l.aa.length:Int)-1) ([x.fE]) (some ⟨La,0,none⟩) 1 (by (simp; done))) cw) (aC (bo 0 U U (by simp [bL]) U)<|aO) U) ?_
 refine rP 2 [] I ?_
 refine bK (t:=99) U (aX fun L3=>?_) (aW fun L3=>?_)
 ·refine bE 27 U<|RK AB<|aT U<|WS fun _ C2=>rP 2 [] I ?_
  refine RK C2<|aq<|LX hQ (false,51,0,none,0,none,0,[],[],[],none,0,[],[],none,0) [] [] I U (by rfl) U U ?_
  exact sJ<|u_ (fP (me:=0) E (oK hx (by unfold iM js; omega)))
 refine rP 2 [] (mc 1 U I) ?_
 refine d_ (xs:=[.tmp 101]) (cs:=[(vI x.Read)]) U dk jO U U U U (by simp [Value.cells]) U U fun Lh=>?_
 refine rS (CL (dL.eq (gM 0 86400000 ([x.Read]) (some ⟨Lh,0,none⟩) 1 (by (simp; done))) cw) (aC (bo 0 U U (by simp [bL]) U)<|aO) U) ?_
 refine rP 3 [] I ?_
 refine bK (t:=106) U (aX fun Ad=>?_) (aW fun Ad=>?_)
 ·refine bE 20 U<|RK AB<|aT U<|WS fun _ C3=>rP 2 [] I ?_
  refine RK C3<|aq<|LX hQ (false,51,0,none,0,none,0,[],[],[],none,0,[],[],none,0) [] [] I U (by rfl) U U ?_
  exact sJ<|u_ (fP (me:=0) E (oK hx (by unfold iM js; omega)))
 refine rP 7 [0,1] (mc 2 U (mc 13 U I)) ?_
 refine bK (t:=113) U (aU fun An=>?_) (aV fun An=>?_)
 ·refine bE 13 U<|RK AB<|aT U<|WS fun _ Di=>rP 2 [] I ?_
  refine RK Di<|aq<|LX hQ (false,51,0,none,0,none,0,[],[],[],none,0,[],[],none,0) [] [] I U (by rfl) U U ?_
  exact sJ<|u_ (fP (me:=0) E (oK hx (by unfold iM js; omega)))
 refine rP 6 [0,1] (mc 2 U (mc 13 U I)) ?_
 refine bU (t:=119) U (aV fun A0=>?_) (aU fun A0=>?_)
 ·refine bE 7 U<|RK AB<|ct U<|WK e<|ao fun _ h=>WS fun _ Eq=>eV 2 [0,1] (mc 4 U (mc 2 U I)) U<|rS (CL (Av l kA kC az cA cC bA bC x hin asm om) (bk [5,6,7,8]) U)<|AL U ed fun R3=>fJ U cW U<|RK Eq<|WS fun _ FC=>rP 5 [] (mc 0 U I) ?_
  refine RK FC<|bW U (aV fun C=>?_) (aU fun C=>?_)
  ·refine WK h<|aw<|rP 1 [] (mc 3 U I) ?_
   refine il (vs:=(aA.cells x)) (cs':=(aA.cells x)) (C':=[_,_,_,_,_,_,_,_,_,_,_,_,_,_,(cp AA 87 (aA.cells x)),_]) 14 U U U vN U U U U U U U<|aH<|aR<|KK T ?_
   have J5:(aA.cells x)=(aA.cells (kO r.ab (i+1))):=by rw [j6 hx]
   rw [J5]
   refine aw<|rP 2 [] I ?_
   refine aH ?_
   rw [show (cP l r.ab i)=(cP l r.ab (i+1)) from (qp hx C).symm]
   have J6:(vI (((i+1):Nat):Int))=(vI ((i:Int)+1)):=by exact cI om
   refine bq (S ⟨(i+1),⟨om,jn A hx (by unfold iM js; omega)⟩⟩ _ _ _ U os (cY 9<|bw U J6<|dG.nil _) (aQ [4,5,6,7,8,9,10,11,12,13,14,15]))
  obtain ⟨mb,Y⟩:=aJ (cP l r.ab i) ((x.fE).toNat) om
  obtain ⟨ga,K⟩:=aJ fb ((x.fE).toNat) om
  refine zd 15 Y K U U U ?_
  try dsimp only
  refine dj cj 10 kr<|kE 1 U<|dS (SX (cS U U) U U)<|dP 4 [0,1] (mc 14 U (mc 5 U I)) ?_
  have J8:(List.map oC (dK fb l.aa.length))[(x.fE).toNat]? =some (oC (some ga)):=qH (mJ K)
  refine dS (IA ((x.fE).toNat) U (av (n:=l.aa.length) 15 U sq) yB dc om om) ?_
  refine dS (gE ((x.fE).toNat) 0 (Value.map (some ga)) U b_ (av (n:=(dK fb l.aa.length).length) 15 U sm) J8 U dc U)<|lz 2 [] (mc 2 U I) U<|cD<|iR (kV:=iV) (x:=(i:Int)) (C':=[(kh iV ga (cT jY (ew mb (i:Int) (cG l x)))),_,_,_,_,_,_,_,_,_,_,_,_,_,_,_,_]) 0 U U U U s9 (iz sO) U (gN _ _ _ _).symm U<|RK h<|aw<|rP 1 [] (mc 5 U I) ?_
  refine il (vs:=(aA.cells x)) (cs':=(aA.cells x)) (C':=[_,_,_,_,_,_,_,_,_,_,_,_,_,_,_,_,(cp AA 87 (aA.cells x))]) 16 U U U vN U U U U U U U<|aH<|aR<|KK T ?_
  have J3:(aA.cells x)=(aA.cells (kO r.ab (i+1))):=by rw [j6 hx]
  rw [J3]
  refine aw<|rP 2 [] I ?_
  refine aH ?_
  refine Ah (f:=p7) (ms:=(cP l r.ab i)) (m:=(ew mb (i:Int) (cG l x))) 1 0 (by rw [gL]; omega) K U U U ?_
  rw [sk hx om C Y]
  have J4:(vI (((i+1):Nat):Int))=(vI ((i:Int)+1)):=by exact cI om
  refine bq (S ⟨(i+1),⟨om,jn A hx (by unfold iM js; omega)⟩⟩ _ _ _ U os (cY 9<|bw U J4<|dG.nil _) (aQ [5,6,7,8,9,10,11,12,13,14,15,0]))
 refine rP 7 [0,1] (mc 2 U (mc 13 U I)) ?_
 refine RK AB<|cy U (aU fun A1=>?_) (aV fun A1=>?_)
 ·refine WS fun _ Do=>rP 2 [] I ?_
  refine RK Do<|aq<|LX hQ (false,51,0,none,0,none,0,[],[],[],none,0,[],[],none,0) [] [] I U (by rfl) U U ?_
  exact sJ<|u_ (fP (me:=0) E (oK hx (by unfold iM js; omega)))
 refine WK e<|ao fun _ g=>WS fun _ Du=>eV 2 [0,1] (mc 4 U (mc 2 U I)) U<|rS (CL (Av l kA kC az cA cC bA bC x hin asm om) (bk [5,6,7,8]) U)<|AL U ed fun R2=>fJ U cW U<|RK Du<|WS fun _ EQ=>rP 5 [] (mc 0 U I) ?_
 refine RK EQ<|bW U (aV fun C=>?_) (aU fun C=>?_)
 ·refine WK g<|aw<|rP 1 [] (mc 3 U I) ?_
  refine il (vs:=(aA.cells x)) (cs':=(aA.cells x)) (C':=[_,_,_,_,_,_,_,_,_,_,_,_,_,_,(cp AA 87 (aA.cells x)),_]) 14 U U U vN U U U U U U U<|aH<|aR<|KK T ?_
  have Jh:(aA.cells x)=(aA.cells (kO r.ab (i+1))):=by rw [j6 hx]
  rw [Jh]
  refine aw<|rP 2 [] I ?_
  refine aH ?_
  rw [show (cP l r.ab i)=(cP l r.ab (i+1)) from (qp hx C).symm]
  have J2:(vI (((i+1):Nat):Int))=(vI ((i:Int)+1)):=by exact cI om
  refine bq (S ⟨(i+1),⟨om,jn A hx (by unfold iM js; omega)⟩⟩ _ _ _ U os (cY 9<|bw U J2<|dG.nil _) (aQ [4,5,6,7,8,9,10,11,12,13,14,15]))
 obtain ⟨mb,Y⟩:=aJ (cP l r.ab i) ((x.fE).toNat) om
 obtain ⟨ga,K⟩:=aJ fb ((x.fE).toNat) om
 refine zd 15 Y K U U U ?_
 try dsimp only
 refine dj cj 10 kr<|kE 1 U<|dS (SX (cS U U) U U)<|dP 4 [0,1] (mc 14 U (mc 5 U I)) ?_
 have J7:(List.map oC (dK fb l.aa.length))[(x.fE).toNat]? =some (oC (some ga)):=qH (mJ K)
 refine dS (IA ((x.fE).toNat) U (av (n:=l.aa.length) 15 U sq) yB dc om om) ?_
 refine dS (gE ((x.fE).toNat) 0 (Value.map (some ga)) U b_ (av (n:=(dK fb l.aa.length).length) 15 U sm) J7 U dc U)<|lz 2 [] (mc 2 U I) U<|cD<|iR (kV:=iV) (x:=(i:Int)) (C':=[(kh iV ga (cT jY (ew mb (i:Int) (cG l x)))),_,_,_,_,_,_,_,_,_,_,_,_,_,_,_,_]) 0 U U U U s9 (iz sO) U (gN _ _ _ _).symm U<|RK g<|aw<|rP 1 [] (mc 5 U I) ?_
 refine il (vs:=(aA.cells x)) (cs':=(aA.cells x)) (C':=[_,_,_,_,_,_,_,_,_,_,_,_,_,_,_,_,(cp AA 87 (aA.cells x))]) 16 U U U vN U U U U U U U<|aH<|aR<|KK T ?_
 have Ik:(aA.cells x)=(aA.cells (kO r.ab (i+1))):=by rw [j6 hx]
 rw [Ik]
 refine aw<|rP 2 [] I ?_
 refine aH ?_
 refine Ah (f:=p7) (ms:=(cP l r.ab i)) (m:=(ew mb (i:Int) (cG l x))) 1 0 (by rw [gL]; omega) K U U U ?_
 rw [sk hx om C Y]
 have In:(vI (((i+1):Nat):Int))=(vI ((i:Int)+1)):=by exact cI om
 refine bq (S ⟨(i+1),⟨om,jn A hx (by unfold iM js; omega)⟩⟩ _ _ _ U os (cY 9<|bw U In<|dG.nil _) (aQ [5,6,7,8,9,10,11,12,13,14,15,0]))
end
section
open Go.RowKit
theorem Md (l:bp) (kA:OA) (kC:Nat) (az:List RA) (cA:OA) (cC:Nat) (bA:OA) (bC:Nat) (r:bT) (sgA:OA) (sgC:Nat) (hin:dY l az) (hsl:r.ab.length≤1000000):
 pS Tryz.prog 78 [(vA (cr.cells (jC l kA kC cA cC bA bC))),(vA (cb.cells (ji r sgA sgC)))] [(rd kA l.aS.length 9 (l.aS.map ar.cells)),(rd cA l.aj.length 2 (List.zipWith au.cells l.aj az)),(dT (br au.gd l.aj az)),(rd bA l.aa.length 4 (l.aa.map bJ.cells)),(rd sgA r.ab.length 2 (r.ab.map aA.cells))] (fun (x:(OA)×Nat)=>(vT [(vS x.1 ((j2 l r).length) x.2),(vI (eW l r 0))])) (fun (x:(OA)×Nat)=>True) (fun (x:(OA)×Nat)=>[(own x.1 x.2 3 1 ((j2 l r).map iC))]):=by
 have A3:=hin.qS
 have AC:=hin.qW
 have w:=hin.nx
 have y:=hin.qU
 have A2:=hin.side
 refine fB kr Tryz.func78 U U fun w0 Q hQ hN=>?_
 try dsimp only
 refine WS fun _ g=>eO U fun b2=>eO U fun b3=>bE 2 U<|RK g<|WS fun _ P=>rP 2 [0,1] (mc 1 U (mc 0 U I)) ?_
 refine cX (N0 l kA kC az cA cC bA bC r sgA sgC hin hsl) (bk [2,3,4,5,6]) U fun y5 AA=>?_
 obtain ⟨V,v,e,d,F,Y,Z,a,B,AB,G,H,A,E,W,X⟩:=y5
 cases V
 ·obtain ⟨S,he⟩:=AA.2 rfl
  try dsimp only at S he
  subst S
  try dsimp only [cond_true,cond_false,List.cons_append,List.nil_append]
  refine bE 5 U<|RK P<|ao fun _ q=>WS fun _ K=>rP 2 [] I ?_
  refine RK K<|bW U (aW fun J=>?_) (aX fun J=>?_)
  ·exact absurd J he
  refine WS fun _ L=>lh 3 1 ?_
  rw [show (own none 0 3 1 ([]:List (List Value)))=own none 0 3 1 ((j2 l r).map iC) from by rw [vn he]; rfl]
  refine bE 1 U<|rP 2 [] I ?_
  refine RK L<|aq ?_
  refine LX hQ (none,0) [0] [] I U U U ?_ ?_
  ·first|rfl|(rw [he]; rfl)|(rw [vn he]; rfl)
  ·trivial
 obtain ⟨he,C,R,i,h,k⟩:=AA.1 rfl
 try dsimp only [cond_true,cond_false,List.cons_append,List.nil_append]
 dsimp only at C R i h k
 obtain ⟨f,D,Ad,An⟩:=jc he
 obtain ⟨m,T⟩:=du f
 have j:=T.head
 unfold eU at j
 have o:=lL m T D
 have A1:=D.time
 have A0:=D.len
 have s:(cm l l.aa.length).length=l.aa.length:=dh
 have t:(cP l r.ab r.ab.length).length=l.aa.length:=gL
 have AO:B.length=l.aa.length+1:=by have:=C.len; rw [show (cQ l r).n=l.aa.length from dh] at this; exact this
 have z:A.length=l.aa.length+1:=by have:=R.len; rw [show (cQ l r).n=l.aa.length from dh] at this; exact this
 refine bE 5 U<|RK P<|ao fun _ M=>WS fun _ N=>bE 1 U<|rS (SX (gn (r:= .bool false) U U U ky) U U)<|RK N<|ct U<|WK M<|WS fun _ O=>rP 1 [] I ?_
 refine cX (vp (jC l kA kC cA cC bA bC) (ji r sgA sgC) (cm l l.aa.length) (cP l r.ab r.ab.length) d F a Y Z B A AB G H E W X e (by exact o) sd (by exact dh.symm) (by exact C) sd) (aC (av (n:=(cm l l.aa.length).length) 1 U sm)<|aC (av (n:=(cP l r.ab r.ab.length).length) 2 U (by rw [List.length_zipWith]; omega))<|aC (eT 3 U lU)<|aC (av (n:=B.length) 4 U (by rw [List.length_zipWith]; omega))<|aC (eT 5 U lU)<|aC (av (n:=A.length) 6 U (by rw [List.length_zipWith]; omega))<|aC (eT 7 U lU)<|gJ 0 U U<|aO) U fun p u=>?_
 obtain ⟨b,c⟩:=p
 try dsimp only
 rw [show (lQ (cV (jC l kA kC cA cC bA bC) (ji r sgA sgC) (cm l l.aa.length) (cP l r.ab r.ab.length)))=j2 l r from (vq he).symm]
 refine rP 2 [] I ?_
 refine RK O<|aq ?_
 refine LX hQ (b,c) [0] [] I U U U ?_ ?_
 ·first|rfl|(rw [he]; rfl)|(rw [vn he]; rfl)
 ·trivial
end
section
open Go.RowKit
theorem HV (ln:cr) (ri:cb) (e:List Int) (tms:List TM) (e_A:OA) (e_C:Nat) (tb:List Nat) (t_A:OA) (t_C:Nat) (fs:List FM) (bs:List FM) (fb:List Nat) (f_A:OA) (f_C:Nat) (bb:List Nat) (b_A:OA) (b_C gw:Nat) (b g1 g2:Nat) (mf:FM) (mb:FM) (hb:b<e.length) (hw:GV (cV ln ri e tms)) (htb:tb.length=tms.length) (hfw:wg (cV ln ri e tms) fs) (hfb:fb.length=fs.length) (hbw:tH (cV ln ri e tms) bs) (hbb:bb.length=bs.length) (hsg:ri.ab.n≤1000) (hm1:fs[b]? =some mf) (hm2:bs[b+1]? =some mb):
 MK Tryz.prog 126 [] [(vP g1),(vP g2)] [(rd e_A e.length 1 (e.map iC)),(rd t_A tms.length 1 (List.zipWith gv tms tb)),(dT (br p7 tms tb)),(rd f_A fs.length 1 (List.zipWith gv fs fb)),(dT (br nk fs fb)),(rd b_A bs.length 1 (List.zipWith gv bs bb)),(dT (br nk bs bb)),(cp gw 213 (cd.cells (cd.mk ln ri (bD.mk e_A e.length e_C) (bD.mk t_A tms.length t_C) (bD.mk f_A fs.length f_C) (bD.mk b_A bs.length b_C)))),(cp g1 181 [(vP gw)]),(cp g2 3 [(vI (b:Int))])] ([]:List (Int×ag)) (fun ys x ys'=> ∃ q,q∈qA (cV ln ri e tms) b mf mb∧x=OU q∧ys'=ys++[q]) (fun ys=> ∀ q∈qA (cV ln ri e tms) b mf mb,q∈ys):=by
 have K0:e.length≤6:=hw.n
 have K4:tms.length=e.length:=hw.times
 have J5:fs.length=e.length+1:=hfw.len
 have J4:bs.length=e.length+1:=hbw.len
 refine Ff kr Tryz.func126 U U fun l J Z A0 w0 Q hY FC Eq hQ hN=>?_
 try dsimp only
 refine WS fun _ FE=>wR U U fun b2=>RK FE<|WS fun _ FS=>rP 2 [0,1] (mr 10 U (mr 11 U I)) ?_
 refine cX (vU gw b) (aO) U fun y4 K5=>?_
 obtain ⟨C2,C3⟩:=y4
 try dsimp only
 refine RK FS<|aI<|jk 4 U (by exact fun _ h=>h)<|jk 6 U (by exact fun _ h=>h)<|jk 8 U (by exact fun _ h=>h)<|jk 14 U (by exact fun _ h=>h) ?_
 refine t_ (L0:=[(0,(Value.func (.yield l) #[] #[])),(1,(vP g1)),(2,(vP g2)),(3,(vP b2))]) (F:=[(rd e_A e.length 1 (e.map iC)).ro,(rd t_A tms.length 1 (List.zipWith gv tms tb)).ro,(dT (br p7 tms tb)).ro,(cp gw 213 (cd.cells (cd.mk ln ri (bD.mk e_A e.length e_C) (bD.mk t_A tms.length t_C) (bD.mk f_A fs.length f_C) (bD.mk b_A bs.length b_C)))).ro,(cp C2 181 [(vP gw)]),(cp C3 3 [(vI (b:Int))])]) (fun k (y:(List (Int×ag))×ay)=>(lY (cV ln ri e tms) b mf mb k y.1)∧(J y.1 y.2)∧(Fo A0 w0 y.2)) (fun k y=>[(cp b2 215 [(Value.func (.yield l) #[] #[])]),y.2,(rd e_A e.length 1 (e.map iC)).ro,(rd t_A tms.length 1 (List.zipWith gv tms tb)).ro,(dT (br p7 tms tb)).ro,(rd f_A fs.length 1 (List.zipWith gv fs fb)).ro,(dT (br nk fs fb)).ro,(rd b_A bs.length 1 (List.zipWith gv bs bb)).ro,(dT (br nk bs bb)).ro,(cp gw 213 (cd.cells (cd.mk ln ri (bD.mk e_A e.length e_C) (bD.mk t_A tms.length t_C) (bD.mk f_A fs.length f_C) (bD.mk b_A bs.length b_C)))).ro,(cp g1 181 [(vP gw)]).ro,(cp g2 3 [(vI (b:Int))]).ro]) (fun c (z:ay)=>(c= .ret∧(Z z)∧(Fo A0 w0 z))) (fun _ z=>[(cp b2 215 [(Value.func (.yield l) #[] #[])]),z,(rd e_A e.length 1 (e.map iC)).ro,(rd t_A tms.length 1 (List.zipWith gv tms tb)).ro,(dT (br p7 tms tb)).ro,(rd f_A fs.length 1 (List.zipWith gv fs fb)).ro,(dT (br nk fs fb)).ro,(rd b_A bs.length 1 (List.zipWith gv bs bb)).ro,(dT (br nk bs bb)).ro,(cp gw 213 (cd.cells (cd.mk ln ri (bD.mk e_A e.length e_C) (bD.mk t_A tms.length t_C) (bD.mk f_A fs.length f_C) (bD.mk b_A bs.length b_C)))).ro,(cp g1 181 [(vP gw)]).ro,(cp g2 3 [(vI (b:Int))]).ro]) [6,7,8,9,10,11,12,13,14,15,16,17] [3,2,1,0,4,5] (([]:List (Int×ag)),A0) rfl rfl (ti ln ri e tms e_A e_C tb t_A t_C f_A fs.length f_C b_A bs.length b_C gw b C2 C3 om om) rfl rfl rfl (by exact ⟨lY.nil,FC,Eq⟩) (by simp only [List.forall_mem_cons,List.not_mem_nil,false_imp_iff,implies_true,and_true]; exact ⟨⟨_,aP (i:=0) rfl,(dQ (bY _))⟩,⟨_,aP (i:=1) rfl,(dQ (bY _))⟩,⟨_,aP (i:=2) rfl,(dQ (bY _))⟩,⟨_,aP (i:=3) rfl,(dQ (bY _))⟩,⟨_,aP (i:=4) rfl,(bY _)⟩,⟨_,aP (i:=5) rfl,(bY _)⟩⟩) (by rintro k x k2 ⟨o,_,rfl,_⟩; rfl) rfl (bu rfl) ?_ ?_ ?_ ?_
 rotate_left 1
 ·rintro LE k ⟨ys,A⟩ Ck Ad
  obtain ⟨X,Y,a⟩:=Ad
  try dsimp only at X Y a
  try dsimp only
  refine aR ?_
  refine hN _ _ _ (rn 0 U U<|jW (vs:=[]) trivial fun w hs=>QV 8 U (by exact lY.fin X Ck) Y a hs)
 ·rintro LT id A C0
  simp at C0
 ·rintro La A C1
  obtain ⟨hc,GR,GT⟩:=C1
  try dsimp only
  refine hQ _ _ _ (rn 0 U U<|jW (vs:=[]) trivial fun w hs=>E1 8 U GR GT hs)
 rintro k x k2 ⟨ys,A⟩ lr ra rb S w1 K8 Qr9 Go hx AO Fd B3 Ik Di
 obtain ⟨o,ho,rfl,rfl⟩:=hx
 obtain ⟨X,Y,a⟩:=AO
 try dsimp only at X Y a
 try dsimp only
 refine WS fun _ A4=>rP 1 [] I ?_
 refine RK A4<|aw<|AL U ed fun In=>fJ U cW U<|aH<|g_ (fun _ _ h=>h) (aQ [1,0,2,3,4,5,6,7,8,9,10,11,12,13])<|bq (Fd _ _ ?_)
 refine aI<|ao fun _ A5=>dj cj 7 kr<|lz 1 [] (mr 12 U I) U<|dS (SX (cS U U) U U)<|dP 3 [0,1] (mr 11 U (mr 13 U I)) ?_
 obtain ⟨ga,s⟩:=aJ fb b om
 have Cp:(List.zipWith gv fs fb)[b]? =some (gv mf ga):=dF hm1 s
 refine dS (IA b U (aB 7 U) oU dc om om)<|dS (gE b 0 (Value.map (some ga)) U b_ (aB 7 U) Cp U dc U)<|cD<|qw (kV:=eI) (m:=cT iV mf) 8 U U pt U ⟨⟨(kh eI ga (cT iV mf)),(bQ hm1 s (by simp [nk])),U⟩,fun h=>h⟩ (show iJ _ (kh eI ga (cT iV mf)).holds from cU 8 U (bQ hm1 s (by simp [nk]))) U fun IO=>?_
 try dsimp only
 refine RK A5<|aI ?_
 have C:(∀ p∈mf,p∈mf)∧(oj (cV ln ri e tms) b mf mb o mf ys)∧(lY (cV ln ri e tms) b mf mb k ys)∧(J ys A)∧(Fo A0 w0 A):=by exact ⟨fun p hp=>hp,oj.start,X,Y,a⟩
 refine bZ (ι:={z:FM×(List (Int×ag))×ay // (∀ p∈z.1,p∈mf)∧(oj (cV ln ri e tms) b mf mb o z.1 z.2.1)∧(lY (cV ln ri e tms) b mf mb k z.2.1)∧(J z.2.1 z.2.2)∧(Fo A0 w0 z.2.2)}) [0,1,2,3,4,5,23] [1,2,3,5,6,7,8,9,10,11,12,13,14] U U (fun z=>[]) (fun z=>[(Dp eI IO ga (cT iV mf) (cT iV z.1.1) none),z.1.2.2]) (fun _=>rfl) (fun _=>rfl) (fun z=>z.1.1.length) ⟨(mf,ys,A),C⟩ (dG.nil _) (aQ [1,2,3,5,6,7,8,9,10,11,12,13,14,0,4]) ?_
 clear C
 rintro ⟨⟨left,ys,A⟩,⟨K,M,N,O,P⟩⟩ J15 A3
 try dsimp only at K M N O P
 try dsimp only
 refine WS fun _ j=>oM pk.inj (f:=iV) 13 U U U U (fun Du=>?_) (fun t v hm hn=>?_)
 ·refine rP 1 [] I ?_
  refine RK j<|ao fun _ Id=>ct U<|bS<|ai<|ai<|aL<|aR ?_
  exact B3 (ys,A) _ _ (by exact ⟨lY.next N M Du,O,P⟩) (aQ [0,2,14,3,4,5,6,7,8,9,10,11,12])
 try dsimp only
 refine bE 1 U<|RK j<|ao fun _ A6=>aT U<|WK A6<|aI<|WS fun _ A7=>rS (SX (oT 13 U U U) U U)<|bE 2 U<|AL U ux fun Jh=>fJ U sZ U<|bE 1 U<|RK A7<|ao fun _ A8=>dj cj 8 kr<|lz 1 [] (mr 12 U I) U<|dS (SX (cS U U) U U)<|dP 4 [0,1] (mr 11 U (mr 13 U I)) ?_
 obtain ⟨gb,AC⟩:=aJ bb (b+1) om
 have Cx:(List.zipWith gv bs bb)[(b+1)]? =some (gv mb gb):=dF hm2 AC
 refine dS (IA (b+1) U (aB 9 U) oU dc om om)<|dS (gE (b+1) 0 (Value.map (some gb)) U b_ (aB 9 U) Cx U dc U)<|cD<|qw (kV:=eI) (m:=cT iV mb) 10 U U pt U ⟨⟨(kh eI gb (cT iV mb)),(bQ hm2 AC (by simp [nk])),U⟩,fun h=>h⟩ (show iJ _ (kh eI gb (cT iV mb)).holds from cU 10 U (bQ hm2 AC (by simp [nk]))) U fun IR=>?_
 try dsimp only
 refine RK A8<|aI ?_
 have C:(∀ p∈mb,p∈mb)∧(nU (cV ln ri e tms) b mb o (t,v) mb ys)∧(oj (cV ln ri e tms) b mf mb o left ys)∧(lY (cV ln ri e tms) b mf mb k ys)∧(J ys A)∧(Fo A0 w0 A):=by exact ⟨fun p hp=>hp,nU.start,M,N,O,P⟩
 refine bZ (ι:={z:FM×(List (Int×ag))×ay // (∀ p∈z.1,p∈mb)∧(nU (cV ln ri e tms) b mb o (t,v) z.1 z.2.1)∧(oj (cV ln ri e tms) b mf mb o left z.2.1)∧(lY (cV ln ri e tms) b mf mb k z.2.1)∧(J z.2.1 z.2.2)∧(Fo A0 w0 z.2.2)}) [0,1,2,3,4,5,6,7,23,37] [1,2,3,4,5,6,7,8,9,10,11,12,13,14,15] U U (fun z=>[]) (fun z=>[(Dp eI IR gb (cT iV mb) (cT iV z.1.1) none),z.1.2.2]) (fun _=>rfl) (fun _=>rfl) (fun z=>z.1.1.length) ⟨(mb,ys,A),C⟩ (dG.nil _) (aQ [1,2,3,4,5,6,7,8,9,10,11,12,13,14,15,0,16]) ?_
 clear C
 rintro ⟨⟨l2,T,A2⟩,⟨B,D,E,G,H,AB⟩⟩ J23 V
 try dsimp only at B D E G H AB
 try dsimp only
 refine WS fun _ r=>oM pk.inj (f:=iV) 15 U U U U (fun EQ=>?_) (fun u z L An=>?_)
 ·refine rP 1 [] I ?_
  refine RK r<|ao fun _ If=>ct U<|bS<|ai<|ai<|aL<|aR<|rD 14 U pL U ?_
  refine bq (A3 ⟨((fy left t),T,A2),⟨mO K,oj.next hn hm E D EQ,G,H,AB⟩⟩ _ _ _ U (mR hm) (bu U) (aQ [1,2,3,4,5,6,7,8,9,10,11,12,13,14,16]))
 try dsimp only
 refine bE 1 U<|RK r<|ao fun _ A9=>aT U<|WK A9<|aI<|WS fun _ Bd=>rS (SX (oT 15 U U U) U U)<|bE 2 U<|AL U ux fun J2=>fJ U sZ U<|rP 1 [] I ?_
 refine RK Bd<|ao fun _ Bo=>dy cj [17,18] [] [] [0,1,2,3,4,5,6,7,8,9,10,11,12,13,14,15,16,17] [] U U U U U<|eS U (MV U)<|eS U (Wr 13 U b_ U)<|eS U (SX (cS U U) U U)<|eS U (FA 10 U eD U)<|eS U (JI (vS e_A e.length e_C) 12 U b_ U U)<|eS U (Wr 14 U b_ U) ?_
 obtain ⟨y,hy⟩:=aJ e b om
 have Hm:=bM iC hy
 refine eS U (IA b U (aB 5 U) dk dc om om)<|eS U (gE b 0 (vI y) U b_ (aB 5 U) Hm U dc U) ?_
 have J6:=hw.least y (aP hy)
 have GE:=JY hw _ _ (hfw.mem hm1 (K _ hm))
 have Fn:=Iv hw (hbw.mem hm2 (B _ L))
 have J7:=vw o.1
 have J8:=hw.opt ho
 dsimp only at GE Fn
 refine eS U (BI U (kx ⟨om,om⟩))<|eS U (FA 0 U eD U)<|eS U (L1 (vI o.2.Lo) 3 U b_ U U)<|eS U (MX U)<|eS U (MV U)<|eS U (FA 1 U eD U)<|eS U (L1 (vI o.2.Hi) 3 U b_ U U)<|eS U (MN U)<|eS U (SX (bf (xs:=[(0,.tmp 54),(1,.tmp 58)]) (cs:=(ag.cells (ag.mk (max (v+y) o.2.Lo) (min z o.2.Hi)))) U U (bg gO U)) U U)<|eh U<|cf U fun T30 B9=>AL U ed fun J3=>aH (B9 _ _ (aQ [1,2,3,4,5,6,7,8,9,10,11,12,13,14,15,16,17,18]) ?_)
 refine cf U fun T32 Ci=>fJ U cW U<|aH (Ci _ _ (aQ [1,2,3,4,5,6,7,8,9,10,11,12,13,14,15,16,17,18]) ?_)
 refine e8 U<|KK Bo<|ao fun _ R=>dj cj 19 kr<|dP 6 [] (mc 0 U I) ?_
 refine jB (t:=65) U (aV fun d=>?_) (aU fun d=>?_)
 ·refine kE 3 U<|kE 10 U<|cD<|rP 3 [] I ?_
  refine RK R<|ct U<|cu<|aR<|rD 17 U pL U ?_
  refine bq (V ⟨((fy l2 u),T,A2),⟨mO B,nU.skip An L D (by exact GX hy d),E,G,H,AB⟩⟩ _ _ _ U (mR L) (bu U) (aQ [2,3,4,5,6,7,8,9,10,11,12,13,14,15,16,17,18]))
 refine dP 3 [0,1,2] (mr 14 U (mc 2 U (mc 1 U I))) ?_
 have KP:(0≤(dM t u).right∧(dM t u).right≤1000)∧0≤(dM t u).e7∧(dM t u).e7≤1000:=by simp only [dM]; omega
 have J9:(0≤(dM (dM t u) (fV o.1)).right∧(dM (dM t u) (fV o.1)).right≤1000)∧0≤(dM (dM t u) (fV o.1)).e7∧(dM (dM t u) (fV o.1)).e7≤1000:=by simp only [dM]; omega
 refine dS (CL (wV t u om om) (aO) U)<|kE 1 U<|dS (CL (Ja o.1) (aO) U)<|dS (CL (wV (dM t u) (fV o.1) asm om) (aO) U)<|dS (CL (OG ln ri e tms e_A e_C tb t_A t_C fs bs fb f_A f_C bb b_A b_C gw (dM (dM t u) (fV o.1)) asm hsg) (bk [6,7,8,9,10,11,12,13]) U)<|dP 2 [] I ?_
 refine jB (t:=75) U (fun g=>?_) (fun g=>?_)
 ·refine kE 3 U<|cD<|rP 3 [] I ?_
  refine RK R<|ct U<|cu<|aR<|rD 17 U pL U ?_
  refine bq (V ⟨((fy l2 u),T,A2),⟨mO B,nU.skip An L D (by exact Gw g),E,G,H,AB⟩⟩ _ _ _ U (mR L) (bu U) (aQ [2,3,4,5,6,7,8,9,10,11,12,13,14,15,16,17,18]))
 refine dP 3 [0,1] (mc 5 U (mc 0 U I)) ?_
 refine cD<|xn (k:=T) (k':=(T++[(o.1,(ag.mk (max (v+y) o.2.Lo) (min z o.2.Hi)))])) 18 (by first|exact Go|exact Nat.le_refl _) hY H AB U U U (by exact ⟨(o.1,_),jq.2 ⟨o,ho,(t,v),K _ hm,(u,z),B _ L,(Cz hy d g)⟩,U,U⟩) U U (fun B34 W AA=>?_) (fun B34 W AA=>?_)
 rotate_left 1
 ·refine rP 2 [] I ?_
  refine RK R<|aT U<|aq ?_
  exact Di B34 _ _ (by exact ⟨U,W,AA⟩) (aQ [3,5,18,6,7,8,9,10,11,12,13,14,15])
 refine rP 2 [] I ?_
 refine RK R<|ct U<|cu<|aR<|rD 17 U pL U ?_
 refine bq (V ⟨((fy l2 u),(T++[(o.1,(ag.mk (max (v+y) o.2.Lo) (min z o.2.Hi)))]),B34),⟨mO B,nU.UG An L D (Cz hy d g),E.app,G.app,W,AA⟩⟩ _ _ _ U (mR L) (bu U) (aQ [2,3,4,5,6,7,8,9,10,11,12,13,14,15,16,17,18]))
end
section
open Go.RowKit
theorem N_ (l:bp) (kA:OA) (kC:Nat) (az:List RA) (cA:OA) (cC:Nat) (bA:OA) (bC:Nat) (r:bT) (sgA:OA) (sgC:Nat) (f:Value) (X:ay) (me:Int) (gm:Nat) (hf:DI Tryz.prog f [] [X] (.int .i64 me)) (hin:dY l az) (hsl:r.ab.length≤1000000):
 pS Tryz.prog 104 [(vA (cr.cells (jC l kA kC cA cC bA bC))),(vA (cb.cells (ji r sgA sgC))),(vS (some ⟨gm,0,none⟩) 1 1)] [(rd kA l.aS.length 9 (l.aS.map ar.cells)),(rd cA l.aj.length 2 (List.zipWith au.cells l.aj az)),(dT (br au.gd l.aj az)),(rd bA l.aa.length 4 (l.aa.map bJ.cells)),(rd sgA r.ab.length 2 (r.ab.map aA.cells)),X,(cp gm 184 [f])] (fun (x:Bool×Int×Nat×(OA)×Nat×(OA)×Nat×(List Nat)×(List FM)×(List Nat)×(OA)×Nat×(List FM)×(List Nat)×(OA)×Nat)=>bif x.1 then (vT [(Value.pointer (some ⟨x.2.2.1,0,none⟩)),(vI 0)]) else (vT [(Value.pointer none),(vI x.2.1)])) (fun (x:Bool×Int×Nat×(OA)×Nat×(OA)×Nat×(List Nat)×(List FM)×(List Nat)×(OA)×Nat×(List FM)×(List Nat)×(OA)×Nat)=>(x.1=true→(eW l r me=0∧wg (cQ l r) x.2.2.2.2.2.2.2.2.1∧tH (cQ l r) x.2.2.2.2.2.2.2.2.2.2.2.2.1∧x.2.2.2.2.2.2.2.2.2.1.length=x.2.2.2.2.2.2.2.2.1.length∧x.2.2.2.2.2.2.2.2.2.2.2.2.2.1.length=x.2.2.2.2.2.2.2.2.2.2.2.2.1.length∧x.2.2.2.2.2.2.2.1.length=(cP l r.ab r.ab.length).length))∧(x.1=false→(x.2.1=eW l r me∧ ¬ eW l r me=0))) (fun (x:Bool×Int×Nat×(OA)×Nat×(OA)×Nat×(List Nat)×(List FM)×(List Nat)×(OA)×Nat×(List FM)×(List Nat)×(OA)×Nat)=>bif x.1 then [(cp x.2.2.1 213 (cd.cells (cd.mk (jC l kA kC cA cC bA bC) (ji r sgA sgC) (bD.mk x.2.2.2.1 ((cm l l.aa.length).length) x.2.2.2.2.1) (bD.mk x.2.2.2.2.2.1 ((cP l r.ab r.ab.length).length) x.2.2.2.2.2.2.1) (bD.mk x.2.2.2.2.2.2.2.2.2.2.1 x.2.2.2.2.2.2.2.2.1.length x.2.2.2.2.2.2.2.2.2.2.2.1) (bD.mk x.2.2.2.2.2.2.2.2.2.2.2.2.2.2.1 x.2.2.2.2.2.2.2.2.2.2.2.2.1.length x.2.2.2.2.2.2.2.2.2.2.2.2.2.2.2)))),(own x.2.2.2.1 x.2.2.2.2.1 3 1 ((cm l l.aa.length).map iC)),(own x.2.2.2.2.2.1 x.2.2.2.2.2.2.1 205 1 (List.zipWith gv (cP l r.ab r.ab.length) x.2.2.2.2.2.2.2.1)),(bV (br p7 (cP l r.ab r.ab.length) x.2.2.2.2.2.2.2.1)),(own x.2.2.2.2.2.2.2.2.2.2.1 x.2.2.2.2.2.2.2.2.2.2.2.1 216 1 (List.zipWith gv x.2.2.2.2.2.2.2.2.1 x.2.2.2.2.2.2.2.2.2.1)),(bV (br nk x.2.2.2.2.2.2.2.2.1 x.2.2.2.2.2.2.2.2.2.1)),(own x.2.2.2.2.2.2.2.2.2.2.2.2.2.2.1 x.2.2.2.2.2.2.2.2.2.2.2.2.2.2.2 216 1 (List.zipWith gv x.2.2.2.2.2.2.2.2.2.2.2.2.1 x.2.2.2.2.2.2.2.2.2.2.2.2.2.1)),(bV (br nk x.2.2.2.2.2.2.2.2.2.2.2.2.1 x.2.2.2.2.2.2.2.2.2.2.2.2.2.1))] else []):=by
 have T6:=hin.qS
 have T4:=hin.qW
 have To:=hin.nx
 have T0:=hin.qU
 have T5:=hin.side
 refine fB kr Tryz.func104 U U fun w0 Q hQ hN=>?_
 try dsimp only
 refine WS fun _ Pi=>eO U fun b2=>eO U fun b3=>bE 2 U<|RK Pi<|ao fun _ Pj=>WS fun _ Pl=>eV 1 [] (mc 1 U I) U<|rS (CL (r8 l kA kC az cA cC bA bC hin) (bk [2,3,4,5]) U)<|bE 1 U<|RK Pl<|WS fun _ Pm=>rP 2 [] I ?_
 refine RK Pm<|cy U (aX fun h=>?_) (aW fun h=>?_)
 ·refine WS fun _ Pq=>rP 3 [] I ?_
  refine RK Pq<|aq<|LX hQ (false,(dg l),0,none,0,none,0,[],[],[],none,0,[],[],none,0) [] [] I U (by rfl) U U ?_
  exact sJ<|Rg (mY (r:=r) (me:=me) h) h
 refine WK Pj<|ao fun _ Pr=>WS fun _ AO=>?_
 have C:dg l=0:=h
 obtain ⟨Lk,d⟩:=du C
 have Pw:=d.head
 unfold eU at Pw
 refine rP 2 [] (mc 0 U I) ?_
 refine d_ (xs:=[.tmp 24]) (cs:=[(vI r.Start)]) U dk jO U U U U (by simp [Value.cells]) U U fun M_=>?_
 refine rS (CL (dL.eq (gM 0 86400000 ([r.Start]) (some ⟨M_,0,none⟩) 1 (by (simp; done))) cw) (aC (bo 0 U U (by simp [bL]) U)<|aO) U) ?_
 refine rP 2 [] I ?_
 refine bK (t:=28) U (aX fun Nr=>?_) (aW fun Nr=>?_)
 ·refine bE 14 U<|RK AO<|aT U<|WS fun _ A6=>rP 2 [] I ?_
  refine RK A6<|aq<|LX hQ (false,51,0,none,0,none,0,[],[],[],none,0,[],[],none,0) [] [] I U (by rfl) U U ?_
  exact sJ<|u_ (fP (me:=me) C (fun q:er l r=>by have q1:=q.time; have q2:=q.len; omega))
 refine rP 4 [] (mc 1 U I) ?_
 refine d_ (xs:=[.tmp 32]) (cs:=[(vI r.gh)]) U dk jO U U U U (by simp [Value.cells]) U U fun NE=>?_
 refine rS (CL (dL.eq (gM r.Start 86400000 ([r.gh]) (some ⟨NE,0,none⟩) 1 (by (simp; done))) cw) (aC (bo 0 U U (by simp [bL]) U)<|aO) U) ?_
 refine rP 3 [] I ?_
 refine bK (t:=37) U (aX fun Or=>?_) (aW fun Or=>?_)
 ·refine bE 5 U<|RK AO<|aT U<|WS fun _ A7=>rP 2 [] I ?_
  refine RK A7<|aq<|LX hQ (false,51,0,none,0,none,0,[],[],[],none,0,[],[],none,0) [] [] I U (by rfl) U U ?_
  exact sJ<|u_ (fP (me:=me) C (fun q:er l r=>by have q1:=q.time; have q2:=q.len; omega))
 refine rP 5 [] (mc 2 U I) ?_
 refine RK AO<|cy U (aU fun Os=>?_) (aV fun Os=>?_)
 ·refine WS fun _ A8=>rP 2 [] I ?_
  refine RK A8<|aq<|LX hQ (false,51,0,none,0,none,0,[],[],[],none,0,[],[],none,0) [] [] I U (by rfl) U U ?_
  exact sJ<|u_ (fP (me:=me) C (fun q:er l r=>by have q1:=q.time; have q2:=q.len; omega))
 refine WK Pr<|WS fun _ A9=>rS (SX (bf (xs:=[(0,.const (vI (-1)))]) (cs:=(aA.cells (aA.mk (-1) 0))) U U (bg Et U)) U U)<|AL U Cf fun V=>fJ U vN U<|RK A9<|ao fun _ Bd=>dy cj [5,6,7,8] [] [] [0,1,2,3,4,5,6,7,8,9,10,11] [] U U U U U<|eS U (LW 4 U b_ U U)<|eS U (LW 3 U b_ U U)<|eS U (FA 3 U eD U)<|eS U (L1 (vS bA l.aa.length bC) 4 U b_ U U)<|eS U (LN U Po)<|eh U<|cf U fun T18 Ik=>?_
 refine wD (n:=l.aa.length) (es:=(List.map oC (List.replicate l.aa.length (none:Option Nat)))) U U U OP om om (by simp only [maxLen]; omega) (by rw [List.map_replicate]; rfl) U fun B=>?_
 try dsimp only
 refine aH (Ik _ _ (aQ [1,2,3,4,5,6,7,8,9,10,11,12]) ?_)
 refine cf U fun T20 In=>rS (SX (bf (xs:=[(0,.tmp 44),(1,.tmp 45),(3,.tmp 49)]) (cs:=(cd.cells (cd.mk (jC l kA kC cA cC bA bC) (ji r sgA sgC) (bD.mk none 0 0) (bD.mk (some ⟨B,0,none⟩) l.aa.length l.aa.length) (bD.mk none 0 0) (bD.mk none 0 0)))) U U (bg OO U)) U U)<|aH (In _ _ (aQ [1,2,3,4,5,6,7,8,9,10,11,12]) ?_)
 refine cf U fun T21 Jh=>eO U fun AB=>aH (Jh _ _ (aQ [2,3,4,5,6,7,8,9,10,11,12,13]) ?_)
 refine cf U fun T23 J2=>rS (AG U)<|aH (J2 _ _ (aQ [2,3,4,5,6,7,8,9,10,11,12,13]) ?_)
 refine e8 U<|KK Bd<|ao fun _ Bo=>WS fun _ B3=>rP 4 [] (mc 6 U I) ?_
 refine RK B3<|aI ?_
 rw [vH]
 refine eK 3 1<|n9 ?_
 have E:(0≤l.aa.length)∧(([]:List Nat).length=0):=by exact ⟨Nat.zero_le _,rfl⟩
 refine bZ (ι:={z:Nat×(OA)×Nat×(List Nat) // (z.1≤l.aa.length)∧(z.2.2.2.length=z.1)}) [2,3,4,6,7,9,10,54] [4,7,8,9,10,11,12,13,14,15] U U (fun z=>[(55,(vI (z.1.1:Int)))]) (fun z=>[(bV (br p7 (List.replicate z.1.1 ([]:TM)) z.1.2.2.2)),(own z.1.2.1 z.1.2.2.1 3 1 ((cm l z.1.1).map iC)),(cp AB 213 (cd.cells (cd.mk (jC l kA kC cA cC bA bC) (ji r sgA sgC) (bD.mk z.1.2.1 ((cm l z.1.1).length) z.1.2.2.1) (bD.mk (some ⟨B,0,none⟩) l.aa.length l.aa.length) (bD.mk none 0 0) (bD.mk none 0 0)))),(own (some ⟨B,0,none⟩) l.aa.length 205 1 (List.map oC (dK z.1.2.2.2 l.aa.length)))]) (fun _=>rfl) (fun _=>rfl) (fun z=>l.aa.length-z.1.1) ⟨(0,none,0,([]:List Nat)),E⟩ (bu U) (aQ [4,7,8,9,10,11,12,13,14,15,0,1,2,3]) ?_
 clear E
 rintro ⟨⟨b,a,c,fb⟩,⟨Ad,Y⟩⟩ J26 A5
 try dsimp only at Ad Y
 try dsimp only
 have Qr:(dK fb l.aa.length).length=l.aa.length:=nK om
 refine WS fun _ B9=>rP 1 [] I ?_
 refine RK B9<|ao fun _ Ci=>cy U (aU fun Op=>?_) (aV fun Op=>?_)
 ·refine WK Ci<|ao fun _ Ck=>aI<|WS fun _ Cp=>rP 2 [] I ?_
  refine RK Cp<|ao fun _ Cx=>dy cj [12,13,16] [4] [0] [0,1,2,3,4,5,6,7,8,9,10,13] [0,1,2,3,4,5,6,7,8,9,10,11,12,13] U U U U U<|eS U (MV U)<|eS U (MV U)<|eS U (SX (cS U U) U U)<|eS U (FA 10 U eD U)<|fS U (L1 (vS a ((cm l b).length) c) 12 U b_ U U)<|eS U (LW 2 U b_ U U)<|eS U (MV U)<|eS U (CL (F2 l kA kC az cA cC bA bC (b:Int) hin asm (by exact d.re) om) (bk [3,4,5,6]) U) ?_
  have T7:=zq Lk d.re b
  have T8:=d.Oy b om
  simp only [Int.toNat_natCast]
  refine eS U (BI U (nt ⟨om,om⟩))<|eS U (FA 1 U eD U)<|eS U (L1 (vI l.hZ) 2 U b_ U U) ?_
  refine eS U (CL (F_ (1000*(lg l (b:Int).toNat)) l.hZ om (by (simp; omega))) (aO) U) ?_
  refine eS U (SX (cS U U) U U)<|eS U (FA 10 U eD U)<|eh U<|ja U fun T33 J3=>d_ (xs:=[.tmp 69]) (cs:=[(vI (mZ (1000*(lg l (b:Int).toNat)) l.hZ))]) U dk jO U U U U (by simp [Value.cells]) U U fun ST=>aH (J3 _ _ (aQ [1,2,3,4,5,6,7,8,9,10,11,14]) (aQ [1,2,3,4,5,6,7,8,9,10,11,12,13,14]) ?_)
  refine cf U fun T35 J4=>?_
  refine dD (es2:=(List.map iC (cm l (b+1)))) (m':=(cm l (b+1)).length) 12 U U U rL U U (by simp [dh]) (bo (es:=List.map iC [(mZ (1000*(lg l (b:Int).toNat)) l.hZ)]) 0 U U (by simp [bL]) U) (kD _) (by have:=dh (l:=l) (n:=b); first|omega|(simp; omega)) (by simp only [maxLen,dh]; omega) (by rw [rV]; simp [cZ]) (by simp [dh]) U fun e g=>?_
  try dsimp only
  refine aH (J4 _ _ (aQ [1,2,3,4,5,6,7,8,9,10,11,14]) ?_)
  refine cf U fun T38 J5=>il (vs:=[(vS e ((cm l (b+1)).length) g)]) (cs':=(cd.cells (cd.mk (jC l kA kC cA cC bA bC) (ji r sgA sgC) (bD.mk e ((cm l (b+1)).length) g) (bD.mk (some ⟨B,0,none⟩) l.aa.length l.aa.length) (bD.mk none 0 0) (bD.mk none 0 0)))) (C':=[_,_,_,_,_,_,_,_,_,_,_,_,_,(cp AB 213 (cd.cells (cd.mk (jC l kA kC cA cC bA bC) (ji r sgA sgC) (bD.mk e ((cm l (b+1)).length) g) (bD.mk (some ⟨B,0,none⟩) l.aa.length l.aa.length) (bD.mk none 0 0) (bD.mk none 0 0)))),_]) 13 U U U Db U U U U U U U<|aH (J5 _ _ (aQ [1,2,3,4,5,6,7,8,9,10,11,14]) ?_)
  refine e8 U<|KK Cx<|aw<|bE 1 U<|rS (SX (cS U U) U U)<|rP 3 [] (mc 13 U I) ?_
  refine mT (kV:=iV) U U fun J=>?_
  try dsimp only
  obtain ⟨R2,L0⟩:=aJ (dK fb l.aa.length) b om
  have hx41m:(List.map oC (dK fb l.aa.length))[b]? =some (oC R2):=by rw [gf,L0]; rfl
  refine rS (IA b U (av (n:=l.aa.length) 15 U sq) yB dc om om) ?_
  have J6:((dK fb l.aa.length).set b (some J))=(dK (fb++[J]) l.aa.length):=by exact sL om om
  refine f_ (k:=b) (o:=0) (vs:=[(Value.map (some J))]) (es':=(List.map oC (dK (fb++[J]) l.aa.length))) (C':=[_,_,_,_,_,_,_,_,_,_,_,_,_,_,_,(own (some ⟨B,0,none⟩) l.aa.length 205 1 (List.map oC (dK (fb++[J]) l.aa.length)))]) 15 U U U FN U U U U hx41m U dc (by exact (List.map_set (f:=oC) (l:=(dK fb l.aa.length)) (i:=b) (a:=(some J))).symm.trans (congrArg _ J6)) U<|aH<|aR<|KK Ck<|aw<|rP 2 [] I ?_
  refine aH<|xM (X':=br p7 (List.replicate (b+1) ([]:TM)) (fb++[J])) 12 0 U U (FG Y) ?_
  try dsimp only
  have J7:(vI (((b+1):Nat):Int))=(vI ((b:Int)+1)):=by exact cI om
  refine bq (A5 ⟨((b+1),e,g,(fb++[J])),⟨om,by simp; omega⟩⟩ _ _ _ U os (cY 8<|bw U J7<|dG.nil _) (aQ [2,3,4,5,6,7,8,9,10,11,0,12,13,14]))
 refine bS<|ai<|ai<|aL<|KK Bo<|ao fun _ C0=>WS fun _ C1=>rP 4 [] (mc 1 U I) ?_
 refine RK C1<|aI ?_
 rw [show (List.replicate b ([]:TM))=cP l r.ab 0 from by rw [w9,show b=l.aa.length by omega]]
 rw [show cm l b=cm l l.aa.length from by rw [show b=l.aa.length by omega]]
 have E:(0≤r.ab.length)∧(o1 l r.ab 0):=by exact ⟨Nat.zero_le _,vZ⟩
 refine bZ (ι:={z:Nat // (z≤r.ab.length)∧(o1 l r.ab z)}) [2,3,4,6,7,9,10,83,84] [1,2,3,4,5,6,7,8,9,11,12,13] U U (fun z=>[(85,(vI (z.1:Int)))]) (fun z=>[(cp V 87 (aA.cells (kO r.ab z.1))),(bV (br p7 (cP l r.ab z.1) fb))]) (fun _=>rfl) (fun _=>rfl) (fun z=>r.ab.length-z.1) ⟨0,E⟩ (bu U) (aQ [1,2,3,4,5,6,7,8,9,11,12,13,0,10]) ?_
 clear E
 rintro ⟨i,⟨M2,A⟩⟩ J46 T
 try dsimp only
 have Re:(cP l r.ab i).length=l.aa.length:=gL
 have Qr:(dK fb l.aa.length).length=l.aa.length:=nK om
 refine WS fun _ C2=>rP 1 [] I ?_
 refine RK C2<|ao fun _ C3=>bW U (aV fun PN=>?_) (aU fun PN=>?_)
 ·refine bS<|ai<|ai<|aL<|KK C0<|ao fun _ Fn=>ao fun _ GE=>?_
  have j:er l r:=xJ om om A om
  refine aw<|bE 3 U<|RK GE<|aI<|rW 2<|kS fun R81 If=>WS fun _ GR=>rS (SX (gn (r:= .bool true) U U U qB) U U)<|RK GR<|ao fun _ GT=>aT U<|WK GT<|ao fun _ Go=>aI<|WS fun _ Hi=>rS (Ur 0 0 U Oz U dc U)<|eV 2 [] (mr 8 U I) U<|RK Hi<|WS fun _ Hm=>bE 1 U<|rS (SX (qk U U U (hf) (bk [7])) U U)<|bE 1 U<|RK Hm<|WS fun _ H1=>rP 2 [] I ?_
  refine RK H1<|cy U (aX fun K=>?_) (aW fun K=>?_)
  ·refine WS fun _ IO=>rP 3 [] I ?_
   refine RK IO<|aq<|LX hQ (false,me,0,none,0,none,0,[],[],[],none,0,[],[],none,0) [] [] I U (by rfl) U U ?_
   exact sJ<|Rg (CI C j K) K
  refine cu<|aR<|KK Go<|aw<|rS (SX (gn (r:= .int .i64 1) U U U (kx ⟨dc,dc⟩)) U U)<|rP 1 [] I ?_
  refine RK If<|kS fun R89 R6=>WS fun _ IR=>rS (SX (gn (r:= .bool false) U U U qB) U U)<|RK IR<|ao fun _ R5=>ct U<|bS<|ai<|ai<|aL<|KK Fn<|ao fun _ Id=>?_
  rw [show cP l r.ab i=cP l r.ab r.ab.length from by rw [show i=r.ab.length by omega]]
  have A0:(cP l r.ab r.ab.length).length=l.aa.length:=gL
  rw [show (List.map oC (dK fb l.aa.length))=(List.zipWith gv (cP l r.ab r.ab.length) fb) from Ry om A0]
  rw [show (cp AB 213 (cd.cells (cd.mk (jC l kA kC cA cC bA bC) (ji r sgA sgC) (bD.mk a ((cm l l.aa.length).length) c) (bD.mk (some ⟨B,0,none⟩) l.aa.length l.aa.length) (bD.mk none 0 0) (bD.mk none 0 0))))=(cp AB 213 (cd.cells (cd.mk (jC l kA kC cA cC bA bC) (ji r sgA sgC) (bD.mk a ((cm l l.aa.length).length) c) (bD.mk (some ⟨B,0,none⟩) ((cP l r.ab r.ab.length).length) l.aa.length) (bD.mk none 0 0) (bD.mk none 0 0)))) from by rw [A0]]
  have Lo:=lL Lk d j
  have R7:(cm l l.aa.length).length=l.aa.length:=dh
  refine aw<|rP 1 [] I ?_
  refine oO 10 U U U U (CG (jC l kA kC cA cC bA bC) (ji r sgA sgC) (cm l l.aa.length) (cP l r.ab r.ab.length) a c fb (some ⟨B,0,none⟩) l.aa.length AB (by exact Lo) (by exact dh.symm) (by rw [A0]; omega)) U (eB 9 U U (jv sm) (eB 11 U U (jv (by rw [List.length_zipWith]; omega)) (eB 13 U U rM rK))) U (fun L2 Pv=>?_)
  obtain ⟨G,S,P,R,F,O,N,H⟩:=L2
  refine Fe (X:=[(cp AB 213 (cd.cells (cd.mk (jC l kA kC cA cC bA bC) (ji r sgA sgC) (bD.mk a ((cm l l.aa.length).length) c) (bD.mk (some ⟨B,0,none⟩) ((cP l r.ab r.ab.length).length) l.aa.length) (bD.mk P G.length R) (bD.mk N F.length H)))),(own P R 216 1 (List.zipWith gv G S)),(bV (br nk G S)),(own N H 216 1 (List.zipWith gv F O)),(bV (br nk F O))]) 10 U U ?_
  try dsimp only
  obtain ⟨An,La,Lh,Li⟩:=Pv
  dsimp only at An La Lh Li
  refine RK Id<|ao fun _ v=>WS fun _ w=>rP 1 [] I ?_
  refine cX (vp (jC l kA kC cA cC bA bC) (ji r sgA sgC) (cm l l.aa.length) (cP l r.ab r.ab.length) a c fb (some ⟨B,0,none⟩) l.aa.length G F S P R O N H AB (by exact Lo) (by (simp; omega)) (by exact dh.symm) (by exact An) asm) (aC (av (n:=(cm l l.aa.length).length) 14 U sm)<|aC (av (n:=(cP l r.ab r.ab.length).length) 15 U (by rw [List.length_zipWith]; omega))<|aC (eT 17 U lU)<|aC (av (n:=G.length) 1 U (by rw [List.length_zipWith]; omega))<|aC (eT 2 U lU)<|aC (av (n:=F.length) 3 U (by rw [List.length_zipWith]; omega))<|aC (eT 4 U lU)<|gJ 0 U U<|aO) U fun L3 R1=>?_
  obtain ⟨R3,R4⟩:=L3
  try dsimp only
  refine rP 2 [] I ?_
  refine RK w<|bW U (aV fun W=>?_) (aU fun W=>?_)
  ·refine WK v<|WS fun _ AC=>rP 3 [] I ?_
   refine RK AC<|aq ?_
   refine LX hQ (true,0,AB,a,c,(some ⟨B,0,none⟩),l.aa.length,fb,G,S,P,R,F,O,N,H) [1,15,16,18,2,3,4,5] [] I U (by (show List.all _ _=true; simp only [cond_true,g5,List.all_nil,E7,O_,Bool.and_true]; rfl)) U U ?_
   exact ⟨fun _=>⟨pM C j (by first|rfl|exact K) (fun q=>W (congrArg (fun z:List Int=>(z.length:Int)) q)),An,La,Lh,Li,dso⟩,QA⟩
  refine WS fun _ y=>rP 2 [] I ?_
  refine RK y<|aq<|LX hQ (false,8,0,none,0,none,0,[],[],[],none,0,[],[],none,0) [] [] I U (by rfl) U U ?_
  exact sJ<|u_ (tL (me:=me) C j (by first|rfl|exact K) (show lQ (cQ l r)=[] from ko (Int.natCast_eq_zero.1 W)))
 refine WK C3<|ao fun _ AA=>aI<|WS fun _ Di=>rP 1 [] I ?_
 obtain ⟨x,hx⟩:=aJ r.ab i om
 have R0:=bM aA.cells hx
 refine rS (IA i U (aB 6 U) wL dc om om)<|rS (lM i 0 (aA.cells x) U b_ (aB 6 U) R0 U dc U U)<|AL U Cf fun Sz=>bE 1 U<|fJ U vN U<|RK Di<|ao fun _ p=>WS fun _ L=>rP 6 [0,1] (mc 2 U (mc 0 U I)) ?_
 refine d_ (xs:=[.tmp 95]) (cs:=[(vI x.fE)]) U dk jO U U U U (by simp [Value.cells]) U U fun NP=>?_
 refine rS (CL (dL.eq (gM 0 ((l.aa.length:Int)-1) ([x.fE]) (some ⟨NP,0,none⟩) 1 (by (simp; done))) cw) (aC (bo 0 U U (by simp [bL]) U)<|aO) U) ?_
 refine rP 2 [] I ?_
 refine bK (t:=99) U (aX fun PP=>?_) (aW fun PP=>?_)
 ·refine bE 27 U<|RK L<|aT U<|WS fun _ Do=>rP 2 [] I ?_
  refine RK Do<|aq<|LX hQ (false,51,0,none,0,none,0,[],[],[],none,0,[],[],none,0) [] [] I U (by rfl) U U ?_
  exact sJ<|u_ (fP (me:=me) C (oK hx (by unfold iM js; omega)))
 refine rP 2 [] (mc 1 U I) ?_
 refine d_ (xs:=[.tmp 101]) (cs:=[(vI x.Read)]) U dk jO U U U U (by simp [Value.cells]) U U fun Ne=>?_
 refine rS (CL (dL.eq (gM 0 86400000 ([x.Read]) (some ⟨Ne,0,none⟩) 1 (by (simp; done))) cw) (aC (bo 0 U U (by simp [bL]) U)<|aO) U) ?_
 refine rP 3 [] I ?_
 refine bK (t:=106) U (aX fun A1=>?_) (aW fun A1=>?_)
 ·refine bE 20 U<|RK L<|aT U<|WS fun _ Du=>rP 2 [] I ?_
  refine RK Du<|aq<|LX hQ (false,51,0,none,0,none,0,[],[],[],none,0,[],[],none,0) [] [] I U (by rfl) U U ?_
  exact sJ<|u_ (fP (me:=me) C (oK hx (by unfold iM js; omega)))
 refine rP 7 [0,1] (mc 2 U (mc 15 U I)) ?_
 refine bK (t:=113) U (aU fun A2=>?_) (aV fun A2=>?_)
 ·refine bE 13 U<|RK L<|aT U<|WS fun _ EQ=>rP 2 [] I ?_
  refine RK EQ<|aq<|LX hQ (false,51,0,none,0,none,0,[],[],[],none,0,[],[],none,0) [] [] I U (by rfl) U U ?_
  exact sJ<|u_ (fP (me:=me) C (oK hx (by unfold iM js; omega)))
 refine rP 6 [0,1] (mc 2 U (mc 15 U I)) ?_
 refine bU (t:=119) U (aV fun A3=>?_) (aU fun A3=>?_)
 ·refine bE 7 U<|RK L<|ct U<|WK p<|ao fun _ u=>WS fun _ FS=>eV 2 [0,1] (mc 4 U (mc 2 U I)) U<|rS (CL (Av l kA kC az cA cC bA bC x hin asm om) (bk [5,6,7,8]) U)<|AL U ed fun S2=>fJ U cW U<|RK FS<|WS fun _ Fd=>rP 5 [] (mc 0 U I) ?_
  refine RK Fd<|bW U (aV fun D=>?_) (aU fun D=>?_)
  ·refine WK u<|aw<|rP 1 [] (mc 3 U I) ?_
   refine il (vs:=(aA.cells x)) (cs':=(aA.cells x)) (C':=[_,_,_,_,_,_,_,_,_,_,_,_,_,_,_,_,(cp V 87 (aA.cells x)),_]) 16 U U U vN U U U U U U U<|aH<|aR<|KK AA ?_
   have K8:(aA.cells x)=(aA.cells (kO r.ab (i+1))):=by rw [j6 hx]
   rw [K8]
   refine aw<|rP 2 [] I ?_
   refine aH ?_
   rw [show (cP l r.ab i)=(cP l r.ab (i+1)) from (qp hx D).symm]
   have LA:(vI (((i+1):Nat):Int))=(vI ((i:Int)+1)):=by exact cI om
   refine bq (T ⟨(i+1),⟨om,jn A hx (by unfold iM js; omega)⟩⟩ _ _ _ U os (cY 9<|bw U LA<|dG.nil _) (aQ [4,5,6,7,8,9,10,11,12,13,14,15,16,17]))
  obtain ⟨mb,Z⟩:=aJ (cP l r.ab i) ((x.fE).toNat) om
  obtain ⟨ga,M⟩:=aJ fb ((x.fE).toNat) om
  refine zd 17 Z M U U U ?_
  try dsimp only
  refine dj cj 10 kr<|kE 1 U<|dS (SX (cS U U) U U)<|dP 4 [0,1] (mc 16 U (mc 5 U I)) ?_
  have LT:(List.map oC (dK fb l.aa.length))[(x.fE).toNat]? =some (oC (some ga)):=qH (mJ M)
  refine dS (IA ((x.fE).toNat) U (av (n:=l.aa.length) 17 U sq) yB dc om om) ?_
  refine dS (gE ((x.fE).toNat) 0 (Value.map (some ga)) U b_ (av (n:=(dK fb l.aa.length).length) 17 U sm) LT U dc U)<|lz 2 [] (mc 2 U I) U<|cD<|iR (kV:=iV) (x:=(i:Int)) (C':=[(kh iV ga (cT jY (ew mb (i:Int) (cG l x)))),_,_,_,_,_,_,_,_,_,_,_,_,_,_,_,_,_,_]) 0 U U U U s9 (iz sO) U (gN _ _ _ _).symm U<|RK u<|aw<|rP 1 [] (mc 5 U I) ?_
  refine il (vs:=(aA.cells x)) (cs':=(aA.cells x)) (C':=[_,_,_,_,_,_,_,_,_,_,_,_,_,_,_,_,_,_,(cp V 87 (aA.cells x))]) 18 U U U vN U U U U U U U<|aH<|aR<|KK AA ?_
  have K4:(aA.cells x)=(aA.cells (kO r.ab (i+1))):=by rw [j6 hx]
  rw [K4]
  refine aw<|rP 2 [] I ?_
  refine aH ?_
  refine Ah (f:=p7) (ms:=(cP l r.ab i)) (m:=(ew mb (i:Int) (cG l x))) 1 0 (by rw [gL]; omega) M U U U ?_
  rw [sk hx om D Z]
  have K5:(vI (((i+1):Nat):Int))=(vI ((i:Int)+1)):=by exact cI om
  refine bq (T ⟨(i+1),⟨om,jn A hx (by unfold iM js; omega)⟩⟩ _ _ _ U os (cY 9<|bw U K5<|dG.nil _) (aQ [5,6,7,8,9,10,11,12,13,14,15,16,17,0]))
 refine rP 7 [0,1] (mc 2 U (mc 15 U I)) ?_
 refine RK L<|cy U (aU fun A4=>?_) (aV fun A4=>?_)
 ·refine WS fun _ Eq=>rP 2 [] I ?_
  refine RK Eq<|aq<|LX hQ (false,51,0,none,0,none,0,[],[],[],none,0,[],[],none,0) [] [] I U (by rfl) U U ?_
  exact sJ<|u_ (fP (me:=me) C (oK hx (by unfold iM js; omega)))
 refine WK p<|ao fun _ s=>WS fun _ FC=>eV 2 [0,1] (mc 4 U (mc 2 U I)) U<|rS (CL (Av l kA kC az cA cC bA bC x hin asm om) (bk [5,6,7,8]) U)<|AL U ed fun S1=>fJ U cW U<|RK FC<|WS fun _ FE=>rP 5 [] (mc 0 U I) ?_
 refine RK FE<|bW U (aV fun D=>?_) (aU fun D=>?_)
 ·refine WK s<|aw<|rP 1 [] (mc 3 U I) ?_
  refine il (vs:=(aA.cells x)) (cs':=(aA.cells x)) (C':=[_,_,_,_,_,_,_,_,_,_,_,_,_,_,_,_,(cp V 87 (aA.cells x)),_]) 16 U U U vN U U U U U U U<|aH<|aR<|KK AA ?_
  have KP:(aA.cells x)=(aA.cells (kO r.ab (i+1))):=by rw [j6 hx]
  rw [KP]
  refine aw<|rP 2 [] I ?_
  refine aH ?_
  rw [show (cP l r.ab i)=(cP l r.ab (i+1)) from (qp hx D).symm]
  have K0:(vI (((i+1):Nat):Int))=(vI ((i:Int)+1)):=by exact cI om
  refine bq (T ⟨(i+1),⟨om,jn A hx (by unfold iM js; omega)⟩⟩ _ _ _ U os (cY 9<|bw U K0<|dG.nil _) (aQ [4,5,6,7,8,9,10,11,12,13,14,15,16,17]))
 obtain ⟨mb,Z⟩:=aJ (cP l r.ab i) ((x.fE).toNat) om
 obtain ⟨ga,M⟩:=aJ fb ((x.fE).toNat) om
 refine zd 17 Z M U U U ?_
 try dsimp only
 refine dj cj 10 kr<|kE 1 U<|dS (SX (cS U U) U U)<|dP 4 [0,1] (mc 16 U (mc 5 U I)) ?_
 have LE:(List.map oC (dK fb l.aa.length))[(x.fE).toNat]? =some (oC (some ga)):=qH (mJ M)
 refine dS (IA ((x.fE).toNat) U (av (n:=l.aa.length) 17 U sq) yB dc om om) ?_
 refine dS (gE ((x.fE).toNat) 0 (Value.map (some ga)) U b_ (av (n:=(dK fb l.aa.length).length) 17 U sm) LE U dc U)<|lz 2 [] (mc 2 U I) U<|cD<|iR (kV:=iV) (x:=(i:Int)) (C':=[(kh iV ga (cT jY (ew mb (i:Int) (cG l x)))),_,_,_,_,_,_,_,_,_,_,_,_,_,_,_,_,_,_]) 0 U U U U s9 (iz sO) U (gN _ _ _ _).symm U<|RK s<|aw<|rP 1 [] (mc 5 U I) ?_
 refine il (vs:=(aA.cells x)) (cs':=(aA.cells x)) (C':=[_,_,_,_,_,_,_,_,_,_,_,_,_,_,_,_,_,_,(cp V 87 (aA.cells x))]) 18 U U U vN U U U U U U U<|aH<|aR<|KK AA ?_
 have J8:(aA.cells x)=(aA.cells (kO r.ab (i+1))):=by rw [j6 hx]
 rw [J8]
 refine aw<|rP 2 [] I ?_
 refine aH ?_
 refine Ah (f:=p7) (ms:=(cP l r.ab i)) (m:=(ew mb (i:Int) (cG l x))) 1 0 (by rw [gL]; omega) M U U U ?_
 rw [sk hx om D Z]
 have J9:(vI (((i+1):Nat):Int))=(vI ((i:Int)+1)):=by exact cI om
 refine bq (T ⟨(i+1),⟨om,jn A hx (by unfold iM js; omega)⟩⟩ _ _ _ U os (cY 9<|bw U J9<|dG.nil _) (aQ [5,6,7,8,9,10,11,12,13,14,15,16,17,0]))
end
section
open Go.RowKit
theorem Bt (l:bp) (kA:OA) (kC:Nat) (az:List RA) (cA:OA) (cC:Nat) (bA:OA) (bC:Nat) (r:bT) (sgA:OA) (sgC:Nat) (bq_:Int) (hin:dY l az) (hsl:r.ab.length≤1000000):
 dL Tryz.prog 77 [(vA (cr.cells (jC l kA kC cA cC bA bC))),(vA (cb.cells (ji r sgA sgC))),(vI bq_)] [(rd kA l.aS.length 9 (l.aS.map ar.cells)),(rd cA l.aj.length 2 (List.zipWith au.cells l.aj az)),(dT (br au.gd l.aj az)),(rd bA l.aa.length 4 (l.aa.map bJ.cells)),(rd sgA r.ab.length 2 (r.ab.map aA.cells))] (vT [(vA (ag.cells (dI l r bq_))),(vI (dV l r bq_))]):=by
 have J6:=hin.qS
 have Ik:=hin.qW
 have H1:=hin.nx
 have Id:=hin.qU
 have J4:=hin.side
 refine bH kr Tryz.func77 U U fun w0 Q hQ hN=>?_
 try dsimp only
 refine WS fun _ A1=>eO U fun b2=>eO U fun b3=>wR U U fun b4=>AL U ed fun b5=>bE 1 U<|RK A1<|WS fun _ p=>rP 2 [0,1] (mc 3 U (mc 2 U I)) ?_
 refine rS (FU U)<|d_ (xs:=[.tmp 17]) (cs:=[(Value.func (.func 105) [].toArray [(vP b2),(vP b4)].toArray)]) U Oz Rx U U U U (by simp [Value.cells]) U U fun b7=>cX (N_ l kA kC az cA cC bA bC r sgA sgC (Value.func (.func 105) [].toArray [(vP b2),(vP b4)].toArray) (dT [(rd kA l.aS.length 9 (l.aS.map ar.cells)),(rd cA l.aj.length 2 (List.zipWith au.cells l.aj az)),(dT (br au.gd l.aj az)),(rd bA l.aa.length 4 (l.aa.map bJ.cells)),(cp b2 28 (cr.cells (jC l kA kC cA cC bA bC))),(cp b4 3 [(vI bq_)])]) (jT l bq_) b7 (by exact k7 (fi:=[]) (ca:=[(vP b2),(vP b4)]) (jS (EN l kA kC az cA cC bA bC b2 bq_ b4 (by first|assumption|omega)) (bk [0,1,2,3,4,5]))) hin hsl) (nV [5,6,7,8,9]<|aC (jX (bk [5,6,7,8,4,2]))<|gJ 0 U U<|aO) U fun y8 Cx=>?_
 obtain ⟨C0,GE,E,H,AB,g,j,m,B,L,J,K,A,G,d,f⟩:=y8
 cases C0
 ·obtain ⟨B9,he⟩:=Cx.2 rfl
  try dsimp only at B9 he
  subst B9
  try dsimp only [cond_true,cond_false,List.cons_append,List.nil_append]
  refine bE 5 U<|RK p<|ao fun _ GR=>WS fun _ A9=>rP 2 [] I ?_
  refine RK A9<|bW U (aW fun A8=>?_) (aX fun A8=>?_)
  ·exact absurd A8 he
  refine WS fun _ Bd=>rS (SX (bf (xs:=[]) (cs:=(ag.cells (ag.mk 0 0))) U U (bg gO U)) U U)<|bE 1 U<|qT U cW U<|rP 1 [] I ?_
  refine RK Bd<|aq<|mj hQ [0] (mc 1 U I) U ?_
  (have e:=mx (b:=bq_) he; rw [e.1,e.2]<;>rfl)
 obtain ⟨he,D,C,Di,C3,EQ⟩:=Cx.1 rfl
 try dsimp only [cond_true,cond_false,List.cons_append,List.nil_append]
 dsimp only at D C Di C3 EQ
 obtain ⟨C2,A5,Du,Jh⟩:=jc he
 obtain ⟨Eq,Ck⟩:=du C2
 have Do:=Ck.head
 unfold eU at Do
 have FC:=lL Eq Ck A5
 have J3:=A5.time
 have J2:=A5.len
 have Ci:(cm l l.aa.length).length=l.aa.length:=dh
 have Cp:(cP l r.ab r.ab.length).length=l.aa.length:=gL
 have In:B.length=l.aa.length+1:=by have:=D.len; rw [show (cQ l r).n=l.aa.length from dh] at this; exact this
 have If:A.length=l.aa.length+1:=by have:=C.len; rw [show (cQ l r).n=l.aa.length from dh] at this; exact this
 obtain ⟨IO,IR⟩:=Ew Du
 obtain ⟨b,A2⟩: ∃ b:Nat,bq_=(b:Int):=⟨bq_.toNat,om⟩
 rw [A2]
 refine bE 5 U<|RK p<|ao fun _ N=>WS fun _ O=>bE 1 U<|rS (SX (gn (r:= .bool false) U U U ky) U U)<|RK O<|ct U<|WK N<|WS fun _ P=>rS (SX (bf (xs:=[(0,.const (vI 1))]) (cs:=(ag.cells (ag.mk 1 0))) U U (bg gO U)) U U)<|AL U ed fun A6=>fJ U cW U<|RK P<|WS fun _ R=>eV 1 [] (mc 0 U I) U<|AL U ed fun A7=>fJ U cW U<|RK R<|ao fun _ T=>WS fun _ AA=>rP 2 [] (mc 12 U I) ?_
 obtain ⟨mf,Y⟩:=aJ B b om
 obtain ⟨mb,Z⟩:=aJ A (b+1) om
 refine cX (KB E b) (aO) U fun FS GT=>?_
 obtain ⟨AC,AO⟩:=FS
 try dsimp only
 refine RK AA<|aI ?_
 refine t_ (L0:=[(3,(vP b2)),(4,(vP b3)),(5,(vP b4)),(6,(vP b5)),(7,(vI 0)),(10,(vP A6)),(11,(vP A7))]) (F:=[(own H AB 3 1 ((cm l l.aa.length).map iC)),(own g j 205 1 (List.zipWith gv (cP l r.ab r.ab.length) m)),(bV (br p7 (cP l r.ab r.ab.length) m)),(own J K 216 1 (List.zipWith gv B L)),(bV (br nk B L)),(own d f 216 1 (List.zipWith gv A G)),(bV (br nk A G)),(cp E 213 (cd.cells (cd.mk (jC l kA kC cA cC bA bC) (ji r sgA sgC) (bD.mk H ((cm l l.aa.length).length) AB) (bD.mk g ((cP l r.ab r.ab.length).length) j) (bD.mk J B.length K) (bD.mk d A.length f)))),(cp AC 181 [(vP E)]),(cp AO 3 [(vI (b:Int))])]) (fun k (y:ag)=>(kF k y)∧(∀ q∈k,q∈qA (cQ l r) b mf mb)) (fun k y=>[(cp A7 48 (ag.cells y)),(cp A6 48 (ag.cells (ag.mk 1 0))),(cp b5 48 (ag.cells (ag.mk 0 0))),(cp b4 3 [(vI (b:Int))]),(cp b3 43 (cb.cells (ji r sgA sgC))),(cp b2 28 (cr.cells (jC l kA kC cA cC bA bC))),(rd kA l.aS.length 9 (l.aS.map ar.cells)).ro,(rd cA l.aj.length 2 (List.zipWith au.cells l.aj az)).ro,(dT (br au.gd l.aj az)).ro,(rd bA l.aa.length 4 (l.aa.map bJ.cells)).ro,(rd sgA r.ab.length 2 (r.ab.map aA.cells)).ro]) (fun _ (_:Unit)=>False) (fun _ _=>[]) [2,3,13,14,15,16,17,18,19,20,21] [5,6,7,8,9,10,11,4,0,1] mS rfl rfl (HV (jC l kA kC cA cC bA bC) (ji r sgA sgC) (cm l l.aa.length) (cP l r.ab r.ab.length) H AB m g j B A L J K G d f E b AC AO mf mb (by rw [Ci]; omega) (by exact FC) (by rw [Cp]; omega) (by exact D) om (by exact C) om (by show r.ab.length≤1000; omega) (by exact Y) (by exact Z)) rfl rfl rfl (by exact ⟨BO,fun q hq=>by cases hq⟩) (by simp only [List.forall_mem_cons,List.not_mem_nil,false_imp_iff,implies_true,and_true]; exact ⟨⟨_,aP (i:=0) rfl,(jv sm)⟩,⟨_,aP (i:=1) rfl,(jv (by rw [List.length_zipWith]; omega))⟩,⟨_,aP (i:=2) rfl,rM⟩,⟨_,aP (i:=3) rfl,(jv (by rw [List.length_zipWith]; omega))⟩,⟨_,aP (i:=4) rfl,rM⟩,⟨_,aP (i:=5) rfl,(jv (by rw [List.length_zipWith]; omega))⟩,⟨_,aP (i:=6) rfl,rM⟩,⟨_,aP (i:=7) rfl,(bY _)⟩,⟨_,aP (i:=8) rfl,(bY _)⟩,⟨_,aP (i:=9) rfl,(bY _)⟩⟩) (by rintro k x k2 ⟨o,_,rfl,_⟩; rfl) rfl (bu rfl) ?_ ?_ (fun _ _ _ h=>h.elim) (fun _ _ h=>h.elim)
 ·rintro k x k2 h lr ra rb S w1 K41 Qr42 J5 hx A3 Bo X FE Fd
  obtain ⟨q,hq,rfl,rfl⟩:=hx
  obtain ⟨a,c⟩:=A3
  try dsimp only
  refine aw<|AL U ed fun Go=>fJ U cW U<|aH<|g_ (fun _ _ h=>h) (aQ [1,0,2,3,4,5,6,7,8,9,10,11,12])<|bq (Bo _ _ ?_)
  refine aI<|ao fun _ s=>WS fun _ B3=>rP 2 [0,1] (mc 2 U (mc 3 U I)) ?_
  refine rS (BI U (S_ _ _ h (ag.mk 1 0)))<|RK B3<|bW U (aW fun M=>?_) (aX fun M=>?_)
  ·refine WK s<|aw<|rP 1 [] (mc 1 U I) ?_
   refine DV U cW U<|aH<|aR ?_
   exact X q.2 _ _ (by refine ⟨zj a (ny hq) ?_,fun z hz=>?_⟩; (first|exact if_neg M|exact if_pos M); (rcases gu.1 hz with hz|hz; exact c z hz; (rw [cv.1 hz]; exact hq))) (aQ [0,2,3,4,5,6,7,8,9,10,11,12])
  refine aw<|eV 4 [0,1] (mc 1 U (mc 2 U I)) U<|rS (MN U)<|eV 4 [0,1] (mc 1 U (mc 2 U I)) U<|rS (MX U)<|rS (SX (bf (xs:=[(0,.tmp 40),(1,.tmp 45)]) (cs:=(ag.cells (ag.mk (min q.2.Lo h.Lo) (max q.2.Hi h.Hi)))) U U (bg gO U)) U U)<|qT U cW U<|RK s<|aw<|rP 1 [] (mc 1 U I) ?_
  refine DV U cW U<|aH<|aR ?_
  exact X (ag.mk (min q.2.Lo h.Lo) (max q.2.Hi h.Hi)) _ _ (by refine ⟨zj a (ny hq) ?_,fun z hz=>?_⟩; (first|exact if_neg M|exact if_pos M); (rcases gu.1 hz with hz|hz; exact c z hz; (rw [cv.1 hz]; exact hq))) (aQ [0,2,3,4,5,6,7,8,9,10,11,12])
 rintro J8 k h v A4
 obtain ⟨a,c⟩:=A4
 try dsimp only
 refine aR<|KK T<|ao fun _ V=>WS fun _ W=>rP 2 [0,1] (mc 11 U (mc 12 U I)) ?_
 refine rS (BI U (xC _ _ h (ag.mk 1 0)))<|RK W<|bW U (aV fun A0=>?_) (aU fun A0=>?_)
 ·refine WK V<|WS fun _ u=>eV 1 [] (mc 11 U I) U<|il (vs:=(ag.cells h)) (cs':=(ag.cells h)) (C':=[_,_,_,_,_,_,_,_,_,_,_,_,_,(cp b5 48 (ag.cells h)),_,_,_,_,_,_,_,_]) 13 U U U cW U U U U U U U<|rP 1 [] I ?_
  refine RK u<|aq<|hQ _ _ _ (rn 0 U U<|jW (vs:=[(vA (ag.cells h)),(vI 0)]) ⟨⟨_,U,.inl ⟨_,_,b_,qm (vs:=(ag.cells h)) 13 U U,U,U⟩⟩,U,trivial⟩ fun w hs=>BZ ?_ hs)
  show (vT [(vA (ag.cells h)),(vI 0)])=(vT [(vA (ag.cells (dI l r bq_))),(vI (dV l r bq_))])
  clear hs w hQ hN u W V AA T R P O N p A1
  (rw [A2] at he ⊢; have hh:h=mU l r b:=zm (D.min _ _ Y) (C.max _ _ Z) (D.keys _ _ Y) (C.keys _ _ Z) c v a; (have e:=mX he (fun q=>A0 (hh.trans q)); rw [e.1,e.2,hh]<;>rfl))
 refine WS fun _ t=>rS (SX (bf (xs:=[]) (cs:=(ag.cells (ag.mk 0 0))) U U (bg gO U)) U U)<|il (vs:=(ag.cells (ag.mk 0 0))) (cs':=(ag.cells (ag.mk 0 0))) (C':=[_,_,_,_,_,_,_,_,_,_,_,_,_,(cp b5 48 (ag.cells (ag.mk 0 0))),_,_,_,_,_,_,_,_]) 13 U U U cW U U U U U U U<|rP 1 [] I ?_
 refine RK t<|aq<|hQ _ _ _ (rn 0 U U<|jW (vs:=[(vA (ag.cells (ag.mk 0 0))),(vI 6)]) ⟨⟨_,U,.inl ⟨_,_,b_,qm (vs:=(ag.cells (ag.mk 0 0))) 13 U U,U,U⟩⟩,U,trivial⟩ fun w hs=>BZ ?_ hs)
 show (vT [(vA (ag.cells (ag.mk 0 0))),(vI 6)])=(vT [(vA (ag.cells (dI l r bq_))),(vI (dV l r bq_))])
 clear hs w hQ hN t W V AA T R P O N p A1
 (rw [A2] at he ⊢; have hh:h=mU l r b:=zm (D.min _ _ Y) (C.max _ _ Z) (D.keys _ _ Y) (C.keys _ _ Z) c v a; (have e:=rz he (hh.symm.trans A0); rw [e.1,e.2]<;>rfl))
theorem SM (l:bp) (kA:OA) (kC:Nat) (az:List RA) (cA:OA) (cC:Nat) (bA:OA) (bC:Nat) (r:bT) (sgA:OA) (sgC:Nat) (hin:dY l az) (hsl:r.ab.length≤1000000):
 dL Tryz.prog 211 [(vA (cr.cells (jC l kA kC cA cC bA bC))),(vA (cb.cells (ji r sgA sgC)))] [(rd kA l.aS.length 9 (l.aS.map ar.cells)),(rd cA l.aj.length 2 (List.zipWith au.cells l.aj az)),(dT (br au.gd l.aj az)),(rd bA l.aa.length 4 (l.aa.map bJ.cells)),(rd sgA r.ab.length 2 (r.ab.map aA.cells))] (vT [(vA (ag.cells (zX l r))),(vI (dV l r l.bO))]):=by
 have N:=hin.qS
 have J:=hin.qW
 have H:=hin.nx
 have AA:=hin.qU
 have M:=hin.side
 refine bH kr Tryz.func211 U U fun T Q hQ hN=>?_
 try dsimp only
 refine WS fun _ C=>eO U fun O=>eO U fun P=>AL U ed fun R=>bE 1 U<|RK C<|WS fun _ D=>eV 4 [0,1] (mc 2 U (mc 1 U I)) U<|rS (CL (Bt l kA kC az cA cC bA bC r sgA sgC l.bO hin hsl) (bk [3,4,5,6,7]) U)<|bE 3 U<|AL U ed fun S=>fJ U cW U<|bE 1 U<|RK D<|ao fun _ E=>WS fun _ F=>rP 2 [] I ?_
 refine RK F<|cy U (aX fun A=>?_) (aW fun A=>?_)
 ·refine WS fun _ G=>rS (SX (bf (xs:=[]) (cs:=(ag.cells (ag.mk 0 0))) U U (bg gO U)) U U)<|bE 1 U<|qT U cW U<|rP 1 [] I ?_
  refine RK G<|aq<|mj hQ [0] (mc 1 U I) U ?_
  (rw [Dx A]<;>rfl)
 refine WK E<|WS fun _ B=>rP 4 [0,1] (mc 0 U (mc 2 U I)) ?_
 have K:=rG A
 have L:=(wb A).time
 refine eV 6 [0,1] (mc 0 U (mc 2 U I)) U<|rS (SX (bf (xs:=[(0,.tmp 24),(1,.tmp 29)]) (cs:=(ag.cells (ag.mk (((dI l r l.bO).Lo)-r.Start) (((dI l r l.bO).Hi)-r.Start)))) U U (bg gO U)) U U)<|qT U cW U<|rP 1 [] I ?_
 refine RK B<|aq<|mj hQ [0] (mc 1 U I) U ?_
 (rw [zW A,A]<;>rfl)
end
section
open Go.RowKit
theorem l9 (j:cK) (kA:OA) (kC:Nat) (az:List RA) (cA:OA) (cC:Nat) (bA:OA) (bC:Nat) (slA:OA) (slC:Nat) (drA:OA) (drC:Nat) (ha:List c_) (heA:OA) (heC:Nat) (faA:OA) (faC:Nat) (prA:OA) (prC:Nat) (r:bT) (sgA:OA) (sgC:Nat) (b:Int) (hin:gT j az ha) (hsl:r.ab.length≤1000000):
 dL Tryz.prog 54 [(vA (df.cells (df.mk (nu j kA kC cA cC bA bC slA slC drA drC heA heC faA faC prA prC)))),(vA (cb.cells (ji r sgA sgC))),(vI b)] [(rd kA j.Race.ak.aS.length 9 (j.Race.ak.aS.map ar.cells)),(rd cA j.Race.ak.aj.length 2 (List.zipWith au.cells j.Race.ak.aj az)),(dT (br au.gd j.Race.ak.aj az)),(rd bA j.Race.ak.aa.length 4 (j.Race.ak.aa.map bJ.cells)),(rd slA j.Race.bj.length 1 (j.Race.bj.map iC)),(rd drA j.Race.cq.length 1 (j.Race.cq.map iC)),(rd heA j.Race.aD.length 1 (List.zipWith cL j.Race.aD ha)),(dT (br fj j.Race.aD ha)),(rd faA j.aG.length 4 (j.aG.map aK.cells)),(rd prA j.aF.length 5 (j.aF.map aY.cells)),(rd sgA r.ab.length 2 (r.ab.map aA.cells))] (vA (ku.cells (ku.mk (ag.mk ((cz j.Race.ak r b).Lo) ((cz j.Race.ak r b).Hi)) ((cz j.Race.ak r b).each) ((cz j.Race.ak r b).never)))):=by
 have Y:=hin.race
 have AA:=hin.race.line
 have c:=hin.race.iu
 have d:=hin.race.has
 have Z:=hin.race.ir
 have W:=hin.nf
 have X:=hin.np
 refine bH kr Tryz.func54 U U fun i Q hQ hN=>?_
 try dsimp only
 refine WS fun _ O=>eO U fun e=>eO U fun f=>AL U oV fun g=>RK O<|ao fun _ P=>WS fun _ R=>rP 2 [] I ?_
 refine RK R<|cy U (aU fun B=>?_) (aV fun B=>?_)
 ·refine WS fun _ S=>rP 4 [] (mc 1 U I) ?_
  refine rS (SX (bf (xs:=[(0,.tmp 15),(1,.tmp 17)]) (cs:=(ag.cells (ag.mk r.Start r.Start))) U U (bg gO U)) U U)<|rS (SX (bf (xs:=[(0,.tmp 18),(1,.const (vB true)),(2,.const (vB false))]) (cs:=(ku.cells (ku.mk (ag.mk r.Start r.Start) true false))) U U (bg FQ U)) U U)<|fJ U mQ U<|RK S<|aq<|Dn hQ [0] (mc 0 U I) U ?_
  (rw [Gl B])
 refine WK P<|WS fun _ T=>bE 3 U<|rS (LP (cr.cells (jC j.Race.ak kA kC cA cC bA bC)) 2 U b_ U U U)<|eV 2 [] (mc 1 U I) U<|rS (CL (Bt j.Race.ak kA kC az cA cC bA bC r sgA sgC b asm hsl) (bk [3,4,5,6,13]) U)<|bE 3 U<|AL U ed fun h=>fJ U cW U<|bE 1 U<|RK T<|ao fun _ E=>WS fun _ F=>rP 2 [] I ?_
 refine RK F<|cy U (aX fun A=>?_) (aW fun A=>?_)
 ·refine WS fun _ G=>rS (SX (bf (xs:=[(0,.const (vI 86400000)),(1,.const (vI 86400000))]) (cs:=(ag.cells (ag.mk 86400000 86400000))) U U (bg gO U)) U U)<|rS (SX (bf (xs:=[(0,.tmp 32),(1,.const (vB false)),(2,.const (vB true))]) (cs:=(ku.cells (ku.mk (ag.mk 86400000 86400000) false true))) U U (bg FQ U)) U U)<|qT U mQ U<|RK G<|aq<|Dn hQ [0] (mc 1 U I) U ?_
  (rw [Cn B A])
 refine WK E<|WS fun _ H=>bE 3 U<|rS (LP (cr.cells (jC j.Race.ak kA kC cA cC bA bC)) 3 U b_ U U U)<|rP 1 [] (mc 2 U I) ?_
 refine cX (Md j.Race.ak kA kC az cA cC bA bC r sgA sgC asm hsl) (bk [4,5,6,7,14]) U fun V a=>?_
 obtain ⟨M,N⟩:=V
 try dsimp only
 refine bE 5 U<|RK H<|WS fun _ AB=>rP 1 [] I ?_
 refine rS (CL (TD (j2 j.Race.ak r) M N (by exact DC (vm A om)) (by have:=DP (l:=j.Race.ak) (r:=r); omega)) (aC (av (n:=(j2 j.Race.ak r).length) 0 U sm)<|aO) U) ?_
 refine bE 3 U<|RK AB<|ao fun _ D=>WS fun _ J=>rP 2 [] I ?_
 refine RK J<|bW U (aW fun C=>?_) (aX fun C=>?_)
 ·refine WK D<|WS fun _ L=>rP 2 [] (mc 1 U I) ?_
  refine rS (SX (bf (xs:=[(0,.tmp 50),(1,.tmp 51),(2,.const (vB false))]) (cs:=(ku.cells (ku.mk (dI j.Race.ak r b) (decide (b<(pT (j2 j.Race.ak r)))) false))) U U (bg FQ U)) U U)<|DV U mQ U<|RK L<|aq<|Dn hQ [0] (mc 2 U I) U ?_
  (rw [zn B A (by rw [Bx (vm A om)]; exact dN C),dN C])
 refine aw<|bE 1 U<|Wn (ag.cells (ag.mk ((dI j.Race.ak r b).Lo) 86400000)) U Ab U U<|RK D<|WS fun _ K=>rP 2 [] (mc 1 U I) ?_
 refine rS (SX (bf (xs:=[(0,.tmp 50),(1,.tmp 51),(2,.const (vB false))]) (cs:=(ku.cells (ku.mk (ag.mk ((dI j.Race.ak r b).Lo) 86400000) (decide (b<(pT (j2 j.Race.ak r)))) false))) U U (bg FQ U)) U U)<|DV U mQ U<|RK K<|aq<|Dn hQ [0] (mc 2 U I) U ?_
 (rw [yv B A (by rw [Bx (vm A om)]; exact bI C),bI C])
end
section
open Go.RowKit
theorem JV (j:cK) (kA:OA) (kC:Nat) (az:List RA) (cA:OA) (cC:Nat) (bA:OA) (bC:Nat) (slA:OA) (slC:Nat) (drA:OA) (drC:Nat) (ha:List c_) (heA:OA) (heC:Nat) (faA:OA) (faC:Nat) (prA:OA) (prC:Nat) (fw ff ft:Int) (d:ax) (sgA:OA) (sgC:Nat) (hin:gT j az ha) (hw:0≤fw∧fw≤1000000) (hsl:d.bx.ab.length≤1000000):
 dL Tryz.prog 29 [(vA (df.cells (df.mk (nu j kA kC cA cC bA bC slA slC drA drC heA heC faA faC prA prC)))),(vA (aK.cells (aK.mk 1 fw ff ft))),(vA (aM.cells (aM.mk d.Out d.dC d.Time (ji d.bx sgA sgC))))] [(rd kA j.Race.ak.aS.length 9 (j.Race.ak.aS.map ar.cells)),(rd cA j.Race.ak.aj.length 2 (List.zipWith au.cells j.Race.ak.aj az)),(dT (br au.gd j.Race.ak.aj az)),(rd bA j.Race.ak.aa.length 4 (j.Race.ak.aa.map bJ.cells)),(rd slA j.Race.bj.length 1 (j.Race.bj.map iC)),(rd drA j.Race.cq.length 1 (j.Race.cq.map iC)),(rd heA j.Race.aD.length 1 (List.zipWith cL j.Race.aD ha)),(dT (br fj j.Race.aD ha)),(rd faA j.aG.length 4 (j.aG.map aK.cells)),(rd prA j.aF.length 5 (j.aF.map aY.cells)),(rd sgA d.bx.ab.length 2 (d.bx.ab.map aA.cells))] (Value.int .u8 (fF j.Race.ak (aK.mk 1 fw ff ft) d)):=by
 have l:=hin.race
 have h:=hin.race.line
 have r:=hin.race.iu
 have s:=hin.race.has
 have m:=hin.race.ir
 have i:=hin.nf
 have k:=hin.np
 refine bH kr Tryz.func29 U U fun u Q hQ hN=>?_
 try dsimp only
 refine WS fun _ a=>eO U fun n=>eO U fun o=>eO U fun p=>bE 1 U<|RK a<|ao fun _ b=>WS fun _ c=>eV 1 [] (mc 0 U I) U<|rS (CL (uO d.Out d.dC d.Time (ji d.bx sgA sgC)) (aO) U)<|rP 1 [] I ?_
 refine RK c<|cy U (aX fun A=>?_) (aW fun A=>?_)
 ·refine WS fun _ e=>rP 1 [] I ?_
  refine RK e<|aq<|Q1 hQ U U U ?_
  (rw [sv (fun q=>A q)]; done)
 refine WK b<|ao fun _ f=>dy cj [4,5] [] [] [0,1,2,3,4,5,6,7,8,9,10,11,12,13] [] U U U U U<|eS U (CL xY (aO) U)<|eS U (FA 0 U eD U)<|eS U (L1 (Value.int .u8 1) 1 U b_ U U)<|eS U (SX (vG (vs:=(e_.cells (e_.mk (Value.func (.func 73) [].toArray [].toArray) (Value.func (.func 72) [].toArray [].toArray)))) 1 U U U K3 b_ U dc U) U U)<|eh U<|cf U fun T9 g=>AL U H_ fun X=>aH (g _ _ (aQ [1,2,3,4,5,6,7,8,9,10,11,12,13,14]) ?_)
 refine cf U fun T11 W=>fJ U I0 U<|aH (W _ _ (aQ [1,2,3,4,5,6,7,8,9,10,11,12,13,14]) ?_)
 refine e8 U<|KK f<|WS fun _ V=>eV 4 [0,1,2] (mc 0 U (mc 3 U (mc 2 U I))) U<|rS (CL (SH j kA kC cA cC bA bC slA slC drA drC heA heC faA faC prA prC 1 fw ff ft) (aO) U)<|rP 5 [] I ?_
 refine RK V<|ao fun _ AA=>lT cj [0,1,2,3,4,5,6,7,8,9] [10,11,12,13] [false,false,false,false,false,false,false,false,false,false] [] [(cp X 125 (e_.cells (e_.mk (Value.func (.func 73) [].toArray [].toArray) (Value.func (.func 72) [].toArray [].toArray)))),(cp p 50 (aM.cells (aM.mk d.Out d.dC d.Time (ji d.bx sgA sgC)))),(cp o 54 (aK.cells (aK.mk 1 fw ff ft))),(cp n 91 (df.cells (df.mk (nu j kA kC cA cC bA bC slA slC drA drC heA heC faA faC prA prC)))),(rd kA j.Race.ak.aS.length 9 (j.Race.ak.aS.map ar.cells)).ro,(rd cA j.Race.ak.aj.length 2 (List.zipWith au.cells j.Race.ak.aj az)).ro,(dT (br au.gd j.Race.ak.aj az)).ro,(rd bA j.Race.ak.aa.length 4 (j.Race.ak.aa.map bJ.cells)).ro,(rd slA j.Race.bj.length 1 (j.Race.bj.map iC)).ro,(rd drA j.Race.cq.length 1 (j.Race.cq.map iC)).ro,(rd heA j.Race.aD.length 1 (List.zipWith cL j.Race.aD ha)).ro,(dT (br fj j.Race.aD ha)).ro,(rd faA j.aG.length 4 (j.aG.map aK.cells)).ro,(rd prA j.aF.length 5 (j.aF.map aY.cells)).ro,(rd sgA d.bx.ab.length 2 (d.bx.ab.map aA.cells)).ro] [] kr (aQ [0,1,2,3,4,5,6,7,8,9,10,11,12,13,14]) (aQ [])<|eS U (LW 3 U b_ U U)<|eS U (FA 4 U eD U)<|eS U (LP (cb.cells (ji d.bx sgA sgC)) 1 U b_ U U U)<|eS U (MV U)<|eS U (CL (l9 j kA kC az cA cC bA bC slA slC drA drC ha heA heC faA faC prA prC d.bx sgA sgC (-1) hin hsl) (bk [4,5,6,7,8,9,10,11,12,13,14]) U)<|eS U (LW 3 U b_ U U)<|eS U (FA 4 U eD U)<|eS U (LP (cb.cells (ji d.bx sgA sgC)) 1 U b_ U U U)<|eS U (MV U)<|eS U (CL (l9 j kA kC az cA cC bA bC slA slC drA drC ha heA heC faA faC prA prC d.bx sgA sgC j.Race.ak.bO hin hsl) (bk [4,5,6,7,8,9,10,11,12,13,14]) U)<|eh U<|m6 [10,11] kr (iF ?_<|iF ?_<|qC)
 rotate_left 1
 ·refine NO U U [10,12,13] fun T14 P=>AL U oV fun Y=>RD P 1 U<|N1 10<|NO U U [12,13] fun T16 R=>AL U oV fun Z=>RD R 2 U<|N1 12<|NO U U [13] fun T18 S=>fJ U mQ U<|RD S 2 U<|N1 13<|NO U U [] fun T19 T=>qT U mQ U<|RD T 2 U<|l3<|KK AA<|ao fun _ F=>aI<|WS fun _ E=>rP 3 [] (mc 0 U I) ?_
  refine bK (t:=40) U (fun C=>?_) (fun C=>?_)
  ·refine bE 16 U<|RK E<|aT U<|WS fun _ J=>rP 1 [] I ?_
   refine RK J<|aq<|Q1 hQ U U U ?_
   (rw [jH rfl A]; (rw [gX (.inl C)]; done))
  refine rP 8 [0,1] (mc 0 U (mc 4 U I)) ?_
  refine bK (t:=48) U (aU fun D=>?_) (aV fun D=>?_)
  ·refine bE 8 U<|RK E<|aT U<|WS fun _ K=>rP 1 [] I ?_
   refine RK K<|aq<|Q1 hQ U U U ?_
   (rw [jH rfl A]; (rw [gX (.inr (.inl D))]; done))
  refine rP 8 [0,1] (mc 1 U (mc 4 U I)) ?_
  refine RK E<|cy U (aU fun B=>?_) (aV fun B=>?_)
  ·refine WS fun _ L=>rP 1 [] I ?_
   refine RK L<|aq<|Q1 hQ U U U ?_
   (rw [jH rfl A]; (rw [gX (.inr (.inr B))]; done))
  refine WS fun _ G=>rP 3 [] (mc 0 U I) ?_
  refine bU (t:=59) U (fun AB=>?_) (fun AB=>?_)
  ·refine bE 8 U<|RK G<|ct U<|cu<|aR<|KK F<|WS fun _ O=>rP 1 [] I ?_
   refine RK O<|aq<|Q1 hQ U U U ?_
   (rw [jH rfl A]; (rw [jD (Bi (by simpa using C) (by first|exact D|(simp only []; omega)) (by first|exact B|(simp only []; omega))) (fun q=>by rw [AB] at q; exact Bool.noConfusion q.1)]; done))
  refine eV 5 [0,1,2,3] (mc 2 U (mc 4 U (mc 0 U (mc 1 U I)))) U<|rS (CL (uN 1 fw ff ft ((cz j.Race.ak d.bx (-1)).Lo) ((cz j.Race.ak d.bx (-1)).Hi) ((cz j.Race.ak d.bx (-1)).each) ((cz j.Race.ak d.bx (-1)).never) ((cz j.Race.ak d.bx j.Race.ak.bO).Lo) ((cz j.Race.ak d.bx j.Race.ak.bO).Hi) ((cz j.Race.ak d.bx j.Race.ak.bO).each) ((cz j.Race.ak d.bx j.Race.ak.bO).never)) (aO) U)<|rP 2 [] I ?_
  refine RK G<|cy U (aU fun H=>?_) (aV fun H=>?_)
  ·refine WS fun _ M=>rP 1 [] I ?_
   refine RK M<|aq<|Q1 hQ U U U ?_
   (rw [jH rfl A]; (rw [pJ (Bi (by simpa using C) (by first|exact D|(simp only []; omega)) (by first|exact B|(simp only []; omega))) AB ((oE (show ¬ (1:Int)=3 by decide)).2 H)]; done))
  refine cu<|aR<|KK F<|WS fun _ N=>rP 1 [] I ?_
  refine RK N<|aq<|Q1 hQ U U U ?_
  (rw [jH rfl A]; (rw [jD (Bi (by simpa using C) (by first|exact D|(simp only []; omega)) (by first|exact B|(simp only []; omega))) (fun q=>H ((oE (show ¬ (1:Int)=3 by decide)).1 q.2))]; done))
 refine NO U U [11,12,13] fun T14 P=>AL U oV fun Y=>RD P 1 U<|N1 11<|NO U U [12,13] fun T16 R=>AL U oV fun Z=>RD R 2 U<|N1 12<|NO U U [13] fun T18 S=>qT U mQ U<|RD S 2 U<|N1 13<|NO U U [] fun T19 T=>fJ U mQ U<|RD T 2 U<|l3<|KK AA<|ao fun _ F=>aI<|WS fun _ E=>rP 3 [] (mc 1 U I) ?_
 refine bK (t:=40) U (fun C=>?_) (fun C=>?_)
 ·refine bE 16 U<|RK E<|aT U<|WS fun _ J=>rP 1 [] I ?_
  refine RK J<|aq<|Q1 hQ U U U ?_
  (rw [jH rfl A]; (rw [gX (.inl C)]; done))
 refine rP 8 [0,1] (mc 1 U (mc 4 U I)) ?_
 refine bK (t:=48) U (aU fun D=>?_) (aV fun D=>?_)
 ·refine bE 8 U<|RK E<|aT U<|WS fun _ K=>rP 1 [] I ?_
  refine RK K<|aq<|Q1 hQ U U U ?_
  (rw [jH rfl A]; (rw [gX (.inr (.inl D))]; done))
 refine rP 8 [0,1] (mc 0 U (mc 4 U I)) ?_
 refine RK E<|cy U (aU fun B=>?_) (aV fun B=>?_)
 ·refine WS fun _ L=>rP 1 [] I ?_
  refine RK L<|aq<|Q1 hQ U U U ?_
  (rw [jH rfl A]; (rw [gX (.inr (.inr B))]; done))
 refine WS fun _ G=>rP 3 [] (mc 1 U I) ?_
 refine bU (t:=59) U (fun AB=>?_) (fun AB=>?_)
 ·refine bE 8 U<|RK G<|ct U<|cu<|aR<|KK F<|WS fun _ O=>rP 1 [] I ?_
  refine RK O<|aq<|Q1 hQ U U U ?_
  (rw [jH rfl A]; (rw [jD (Bi (by simpa using C) (by first|exact D|(simp only []; omega)) (by first|exact B|(simp only []; omega))) (fun q=>by rw [AB] at q; exact Bool.noConfusion q.1)]; done))
 refine eV 5 [0,1,2,3] (mc 2 U (mc 4 U (mc 1 U (mc 0 U I)))) U<|rS (CL (uN 1 fw ff ft ((cz j.Race.ak d.bx (-1)).Lo) ((cz j.Race.ak d.bx (-1)).Hi) ((cz j.Race.ak d.bx (-1)).each) ((cz j.Race.ak d.bx (-1)).never) ((cz j.Race.ak d.bx j.Race.ak.bO).Lo) ((cz j.Race.ak d.bx j.Race.ak.bO).Hi) ((cz j.Race.ak d.bx j.Race.ak.bO).each) ((cz j.Race.ak d.bx j.Race.ak.bO).never)) (aO) U)<|rP 2 [] I ?_
 refine RK G<|cy U (aU fun H=>?_) (aV fun H=>?_)
 ·refine WS fun _ M=>rP 1 [] I ?_
  refine RK M<|aq<|Q1 hQ U U U ?_
  (rw [jH rfl A]; (rw [pJ (Bi (by simpa using C) (by first|exact D|(simp only []; omega)) (by first|exact B|(simp only []; omega))) AB ((oE (show ¬ (1:Int)=3 by decide)).2 H)]; done))
 refine cu<|aR<|KK F<|WS fun _ N=>rP 1 [] I ?_
 refine RK N<|aq<|Q1 hQ U U U ?_
 (rw [jH rfl A]; (rw [jD (Bi (by simpa using C) (by first|exact D|(simp only []; omega)) (by first|exact B|(simp only []; omega))) (fun q=>H ((oE (show ¬ (1:Int)=3 by decide)).1 q.2))]; done))
theorem IN (j:cK) (kA:OA) (kC:Nat) (az:List RA) (cA:OA) (cC:Nat) (bA:OA) (bC:Nat) (slA:OA) (slC:Nat) (drA:OA) (drC:Nat) (ha:List c_) (heA:OA) (heC:Nat) (faA:OA) (faC:Nat) (prA:OA) (prC:Nat) (fw ff ft:Int) (d:ax) (sgA:OA) (sgC:Nat) (hin:gT j az ha) (hw:0≤fw∧fw≤1000000) (hsl:d.bx.ab.length≤1000000):
 dL Tryz.prog 29 [(vA (df.cells (df.mk (nu j kA kC cA cC bA bC slA slC drA drC heA heC faA faC prA prC)))),(vA (aK.cells (aK.mk 2 fw ff ft))),(vA (aM.cells (aM.mk d.Out d.dC d.Time (ji d.bx sgA sgC))))] [(rd kA j.Race.ak.aS.length 9 (j.Race.ak.aS.map ar.cells)),(rd cA j.Race.ak.aj.length 2 (List.zipWith au.cells j.Race.ak.aj az)),(dT (br au.gd j.Race.ak.aj az)),(rd bA j.Race.ak.aa.length 4 (j.Race.ak.aa.map bJ.cells)),(rd slA j.Race.bj.length 1 (j.Race.bj.map iC)),(rd drA j.Race.cq.length 1 (j.Race.cq.map iC)),(rd heA j.Race.aD.length 1 (List.zipWith cL j.Race.aD ha)),(dT (br fj j.Race.aD ha)),(rd faA j.aG.length 4 (j.aG.map aK.cells)),(rd prA j.aF.length 5 (j.aF.map aY.cells)),(rd sgA d.bx.ab.length 2 (d.bx.ab.map aA.cells))] (Value.int .u8 (fF j.Race.ak (aK.mk 2 fw ff ft) d)):=by
 have l:=hin.race
 have h:=hin.race.line
 have r:=hin.race.iu
 have s:=hin.race.has
 have m:=hin.race.ir
 have i:=hin.nf
 have k:=hin.np
 refine bH kr Tryz.func29 U U fun u Q hQ hN=>?_
 try dsimp only
 refine WS fun _ a=>eO U fun n=>eO U fun o=>eO U fun p=>bE 1 U<|RK a<|ao fun _ b=>WS fun _ c=>eV 1 [] (mc 0 U I) U<|rS (CL (uO d.Out d.dC d.Time (ji d.bx sgA sgC)) (aO) U)<|rP 1 [] I ?_
 refine RK c<|cy U (aX fun A=>?_) (aW fun A=>?_)
 ·refine WS fun _ e=>rP 1 [] I ?_
  refine RK e<|aq<|Q1 hQ U U U ?_
  (rw [sv (fun q=>A q)]; done)
 refine WK b<|ao fun _ f=>dy cj [4,5] [] [] [0,1,2,3,4,5,6,7,8,9,10,11,12,13] [] U U U U U<|eS U (CL xY (aO) U)<|eS U (FA 0 U eD U)<|eS U (L1 (Value.int .u8 2) 1 U b_ U U)<|eS U (SX (vG (vs:=(e_.cells (e_.mk (Value.func (.func 74) [].toArray [].toArray) (Value.func (.func 72) [].toArray [].toArray)))) 2 U U U K3 b_ U dc U) U U)<|eh U<|cf U fun T9 g=>AL U H_ fun X=>aH (g _ _ (aQ [1,2,3,4,5,6,7,8,9,10,11,12,13,14]) ?_)
 refine cf U fun T11 W=>fJ U I0 U<|aH (W _ _ (aQ [1,2,3,4,5,6,7,8,9,10,11,12,13,14]) ?_)
 refine e8 U<|KK f<|WS fun _ V=>eV 4 [0,1,2] (mc 0 U (mc 3 U (mc 2 U I))) U<|rS (CL (Sf j kA kC cA cC bA bC slA slC drA drC heA heC faA faC prA prC 2 fw ff ft hw) (aO) U)<|rP 5 [] I ?_
 refine RK V<|ao fun _ AA=>lT cj [0,1,2,3,4,5,6,7,8,9] [10,11,12,13] [false,false,false,false,false,false,false,false,false,false] [] [(cp X 125 (e_.cells (e_.mk (Value.func (.func 74) [].toArray [].toArray) (Value.func (.func 72) [].toArray [].toArray)))),(cp p 50 (aM.cells (aM.mk d.Out d.dC d.Time (ji d.bx sgA sgC)))),(cp o 54 (aK.cells (aK.mk 2 fw ff ft))),(cp n 91 (df.cells (df.mk (nu j kA kC cA cC bA bC slA slC drA drC heA heC faA faC prA prC)))),(rd kA j.Race.ak.aS.length 9 (j.Race.ak.aS.map ar.cells)).ro,(rd cA j.Race.ak.aj.length 2 (List.zipWith au.cells j.Race.ak.aj az)).ro,(dT (br au.gd j.Race.ak.aj az)).ro,(rd bA j.Race.ak.aa.length 4 (j.Race.ak.aa.map bJ.cells)).ro,(rd slA j.Race.bj.length 1 (j.Race.bj.map iC)).ro,(rd drA j.Race.cq.length 1 (j.Race.cq.map iC)).ro,(rd heA j.Race.aD.length 1 (List.zipWith cL j.Race.aD ha)).ro,(dT (br fj j.Race.aD ha)).ro,(rd faA j.aG.length 4 (j.aG.map aK.cells)).ro,(rd prA j.aF.length 5 (j.aF.map aY.cells)).ro,(rd sgA d.bx.ab.length 2 (d.bx.ab.map aA.cells)).ro] [] kr (aQ [0,1,2,3,4,5,6,7,8,9,10,11,12,13,14]) (aQ [])<|eS U (LW 3 U b_ U U)<|eS U (FA 4 U eD U)<|eS U (LP (cb.cells (ji d.bx sgA sgC)) 1 U b_ U U U)<|eS U (MV U)<|eS U (CL (l9 j kA kC az cA cC bA bC slA slC drA drC ha heA heC faA faC prA prC d.bx sgA sgC (fw-1) hin hsl) (bk [4,5,6,7,8,9,10,11,12,13,14]) U)<|eS U (LW 3 U b_ U U)<|eS U (FA 4 U eD U)<|eS U (LP (cb.cells (ji d.bx sgA sgC)) 1 U b_ U U U)<|eS U (MV U)<|eS U (CL (l9 j kA kC az cA cC bA bC slA slC drA drC ha heA heC faA faC prA prC d.bx sgA sgC fw hin hsl) (bk [4,5,6,7,8,9,10,11,12,13,14]) U)<|eh U<|m6 [10,11] kr (iF ?_<|iF ?_<|qC)
 rotate_left 1
 ·refine NO U U [10,12,13] fun T14 P=>AL U oV fun Y=>RD P 1 U<|N1 10<|NO U U [12,13] fun T16 R=>AL U oV fun Z=>RD R 2 U<|N1 12<|NO U U [13] fun T18 S=>fJ U mQ U<|RD S 2 U<|N1 13<|NO U U [] fun T19 T=>qT U mQ U<|RD T 2 U<|l3<|KK AA<|ao fun _ F=>aI<|WS fun _ E=>rP 3 [] (mc 0 U I) ?_
  refine bK (t:=40) U (fun C=>?_) (fun C=>?_)
  ·refine bE 16 U<|RK E<|aT U<|WS fun _ J=>rP 1 [] I ?_
   refine RK J<|aq<|Q1 hQ U U U ?_
   (rw [jI rfl A]; (rw [gX (.inl C)]; done))
  refine rP 8 [0,1] (mc 0 U (mc 4 U I)) ?_
  refine bK (t:=48) U (aU fun D=>?_) (aV fun D=>?_)
  ·refine bE 8 U<|RK E<|aT U<|WS fun _ K=>rP 1 [] I ?_
   refine RK K<|aq<|Q1 hQ U U U ?_
   (rw [jI rfl A]; (rw [gX (.inr (.inl D))]; done))
  refine rP 8 [0,1] (mc 1 U (mc 4 U I)) ?_
  refine RK E<|cy U (aU fun B=>?_) (aV fun B=>?_)
  ·refine WS fun _ L=>rP 1 [] I ?_
   refine RK L<|aq<|Q1 hQ U U U ?_
   (rw [jI rfl A]; (rw [gX (.inr (.inr B))]; done))
  refine WS fun _ G=>rP 3 [] (mc 0 U I) ?_
  refine bU (t:=59) U (fun AB=>?_) (fun AB=>?_)
  ·refine bE 8 U<|RK G<|ct U<|cu<|aR<|KK F<|WS fun _ O=>rP 1 [] I ?_
   refine RK O<|aq<|Q1 hQ U U U ?_
   (rw [jI rfl A]; (rw [jD (Bi (by simpa using C) (by first|exact D|(simp only []; omega)) (by first|exact B|(simp only []; omega))) (fun q=>by rw [AB] at q; exact Bool.noConfusion q.1)]; done))
  refine eV 5 [0,1,2,3] (mc 2 U (mc 4 U (mc 0 U (mc 1 U I)))) U<|rS (CL (uN 2 fw ff ft ((cz j.Race.ak d.bx (fw-1)).Lo) ((cz j.Race.ak d.bx (fw-1)).Hi) ((cz j.Race.ak d.bx (fw-1)).each) ((cz j.Race.ak d.bx (fw-1)).never) ((cz j.Race.ak d.bx fw).Lo) ((cz j.Race.ak d.bx fw).Hi) ((cz j.Race.ak d.bx fw).each) ((cz j.Race.ak d.bx fw).never)) (aO) U)<|rP 2 [] I ?_
  refine RK G<|cy U (aU fun H=>?_) (aV fun H=>?_)
  ·refine WS fun _ M=>rP 1 [] I ?_
   refine RK M<|aq<|Q1 hQ U U U ?_
   (rw [jI rfl A]; (rw [pJ (Bi (by simpa using C) (by first|exact D|(simp only []; omega)) (by first|exact B|(simp only []; omega))) AB ((oE (show ¬ (2:Int)=3 by decide)).2 H)]; done))
  refine cu<|aR<|KK F<|WS fun _ N=>rP 1 [] I ?_
  refine RK N<|aq<|Q1 hQ U U U ?_
  (rw [jI rfl A]; (rw [jD (Bi (by simpa using C) (by first|exact D|(simp only []; omega)) (by first|exact B|(simp only []; omega))) (fun q=>H ((oE (show ¬ (2:Int)=3 by decide)).1 q.2))]; done))
 refine NO U U [11,12,13] fun T14 P=>AL U oV fun Y=>RD P 1 U<|N1 11<|NO U U [12,13] fun T16 R=>AL U oV fun Z=>RD R 2 U<|N1 12<|NO U U [13] fun T18 S=>qT U mQ U<|RD S 2 U<|N1 13<|NO U U [] fun T19 T=>fJ U mQ U<|RD T 2 U<|l3<|KK AA<|ao fun _ F=>aI<|WS fun _ E=>rP 3 [] (mc 1 U I) ?_
 refine bK (t:=40) U (fun C=>?_) (fun C=>?_)
 ·refine bE 16 U<|RK E<|aT U<|WS fun _ J=>rP 1 [] I ?_
  refine RK J<|aq<|Q1 hQ U U U ?_
  (rw [jI rfl A]; (rw [gX (.inl C)]; done))
 refine rP 8 [0,1] (mc 1 U (mc 4 U I)) ?_
 refine bK (t:=48) U (aU fun D=>?_) (aV fun D=>?_)
 ·refine bE 8 U<|RK E<|aT U<|WS fun _ K=>rP 1 [] I ?_
  refine RK K<|aq<|Q1 hQ U U U ?_
  (rw [jI rfl A]; (rw [gX (.inr (.inl D))]; done))
 refine rP 8 [0,1] (mc 0 U (mc 4 U I)) ?_
 refine RK E<|cy U (aU fun B=>?_) (aV fun B=>?_)
 ·refine WS fun _ L=>rP 1 [] I ?_
  refine RK L<|aq<|Q1 hQ U U U ?_
  (rw [jI rfl A]; (rw [gX (.inr (.inr B))]; done))
 refine WS fun _ G=>rP 3 [] (mc 1 U I) ?_
 refine bU (t:=59) U (fun AB=>?_) (fun AB=>?_)
 ·refine bE 8 U<|RK G<|ct U<|cu<|aR<|KK F<|WS fun _ O=>rP 1 [] I ?_
  refine RK O<|aq<|Q1 hQ U U U ?_
  (rw [jI rfl A]; (rw [jD (Bi (by simpa using C) (by first|exact D|(simp only []; omega)) (by first|exact B|(simp only []; omega))) (fun q=>by rw [AB] at q; exact Bool.noConfusion q.1)]; done))
 refine eV 5 [0,1,2,3] (mc 2 U (mc 4 U (mc 1 U (mc 0 U I)))) U<|rS (CL (uN 2 fw ff ft ((cz j.Race.ak d.bx (fw-1)).Lo) ((cz j.Race.ak d.bx (fw-1)).Hi) ((cz j.Race.ak d.bx (fw-1)).each) ((cz j.Race.ak d.bx (fw-1)).never) ((cz j.Race.ak d.bx fw).Lo) ((cz j.Race.ak d.bx fw).Hi) ((cz j.Race.ak d.bx fw).each) ((cz j.Race.ak d.bx fw).never)) (aO) U)<|rP 2 [] I ?_
 refine RK G<|cy U (aU fun H=>?_) (aV fun H=>?_)
 ·refine WS fun _ M=>rP 1 [] I ?_
  refine RK M<|aq<|Q1 hQ U U U ?_
  (rw [jI rfl A]; (rw [pJ (Bi (by simpa using C) (by first|exact D|(simp only []; omega)) (by first|exact B|(simp only []; omega))) AB ((oE (show ¬ (2:Int)=3 by decide)).2 H)]; done))
 refine cu<|aR<|KK F<|WS fun _ N=>rP 1 [] I ?_
 refine RK N<|aq<|Q1 hQ U U U ?_
 (rw [jI rfl A]; (rw [jD (Bi (by simpa using C) (by first|exact D|(simp only []; omega)) (by first|exact B|(simp only []; omega))) (fun q=>H ((oE (show ¬ (2:Int)=3 by decide)).1 q.2))]; done))
theorem JB (j:cK) (kA:OA) (kC:Nat) (az:List RA) (cA:OA) (cC:Nat) (bA:OA) (bC:Nat) (slA:OA) (slC:Nat) (drA:OA) (drC:Nat) (ha:List c_) (heA:OA) (heC:Nat) (faA:OA) (faC:Nat) (prA:OA) (prC:Nat) (fw ff ft:Int) (d:ax) (sgA:OA) (sgC:Nat) (hin:gT j az ha) (hw:0≤fw∧fw≤1000000) (hsl:d.bx.ab.length≤1000000):
 dL Tryz.prog 29 [(vA (df.cells (df.mk (nu j kA kC cA cC bA bC slA slC drA drC heA heC faA faC prA prC)))),(vA (aK.cells (aK.mk 3 fw ff ft))),(vA (aM.cells (aM.mk d.Out d.dC d.Time (ji d.bx sgA sgC))))] [(rd kA j.Race.ak.aS.length 9 (j.Race.ak.aS.map ar.cells)),(rd cA j.Race.ak.aj.length 2 (List.zipWith au.cells j.Race.ak.aj az)),(dT (br au.gd j.Race.ak.aj az)),(rd bA j.Race.ak.aa.length 4 (j.Race.ak.aa.map bJ.cells)),(rd slA j.Race.bj.length 1 (j.Race.bj.map iC)),(rd drA j.Race.cq.length 1 (j.Race.cq.map iC)),(rd heA j.Race.aD.length 1 (List.zipWith cL j.Race.aD ha)),(dT (br fj j.Race.aD ha)),(rd faA j.aG.length 4 (j.aG.map aK.cells)),(rd prA j.aF.length 5 (j.aF.map aY.cells)),(rd sgA d.bx.ab.length 2 (d.bx.ab.map aA.cells))] (Value.int .u8 (fF j.Race.ak (aK.mk 3 fw ff ft) d)):=by
 have l:=hin.race
 have h:=hin.race.line
 have r:=hin.race.iu
 have s:=hin.race.has
 have m:=hin.race.ir
 have i:=hin.nf
 have k:=hin.np
 refine bH kr Tryz.func29 U U fun u Q hQ hN=>?_
 try dsimp only
 refine WS fun _ a=>eO U fun n=>eO U fun o=>eO U fun p=>bE 1 U<|RK a<|ao fun _ b=>WS fun _ c=>eV 1 [] (mc 0 U I) U<|rS (CL (uO d.Out d.dC d.Time (ji d.bx sgA sgC)) (aO) U)<|rP 1 [] I ?_
 refine RK c<|cy U (aX fun A=>?_) (aW fun A=>?_)
 ·refine WS fun _ e=>rP 1 [] I ?_
  refine RK e<|aq<|Q1 hQ U U U ?_
  (rw [sv (fun q=>A q)]; done)
 refine WK b<|ao fun _ f=>dy cj [4,5] [] [] [0,1,2,3,4,5,6,7,8,9,10,11,12,13] [] U U U U U<|eS U (CL xY (aO) U)<|eS U (FA 0 U eD U)<|eS U (L1 (Value.int .u8 3) 1 U b_ U U)<|eS U (SX (vG (vs:=(e_.cells (e_.mk (Value.func (.func 75) [].toArray [].toArray) (Value.func (.func 76) [].toArray [].toArray)))) 3 U U U K3 b_ U dc U) U U)<|eh U<|cf U fun T9 g=>AL U H_ fun X=>aH (g _ _ (aQ [1,2,3,4,5,6,7,8,9,10,11,12,13,14]) ?_)
 refine cf U fun T11 W=>fJ U I0 U<|aH (W _ _ (aQ [1,2,3,4,5,6,7,8,9,10,11,12,13,14]) ?_)
 refine e8 U<|KK f<|WS fun _ V=>eV 4 [0,1,2] (mc 0 U (mc 3 U (mc 2 U I))) U<|rS (CL (Tl j kA kC cA cC bA bC slA slC drA drC heA heC faA faC prA prC 3 fw ff ft) (aO) U)<|rP 5 [] I ?_
 refine RK V<|ao fun _ AA=>lT cj [0,1,2,3,4,5,6,7,8,9] [10,11,12,13] [false,false,false,false,false,false,false,false,false,false] [] [(cp X 125 (e_.cells (e_.mk (Value.func (.func 75) [].toArray [].toArray) (Value.func (.func 76) [].toArray [].toArray)))),(cp p 50 (aM.cells (aM.mk d.Out d.dC d.Time (ji d.bx sgA sgC)))),(cp o 54 (aK.cells (aK.mk 3 fw ff ft))),(cp n 91 (df.cells (df.mk (nu j kA kC cA cC bA bC slA slC drA drC heA heC faA faC prA prC)))),(rd kA j.Race.ak.aS.length 9 (j.Race.ak.aS.map ar.cells)).ro,(rd cA j.Race.ak.aj.length 2 (List.zipWith au.cells j.Race.ak.aj az)).ro,(dT (br au.gd j.Race.ak.aj az)).ro,(rd bA j.Race.ak.aa.length 4 (j.Race.ak.aa.map bJ.cells)).ro,(rd slA j.Race.bj.length 1 (j.Race.bj.map iC)).ro,(rd drA j.Race.cq.length 1 (j.Race.cq.map iC)).ro,(rd heA j.Race.aD.length 1 (List.zipWith cL j.Race.aD ha)).ro,(dT (br fj j.Race.aD ha)).ro,(rd faA j.aG.length 4 (j.aG.map aK.cells)).ro,(rd prA j.aF.length 5 (j.aF.map aY.cells)).ro,(rd sgA d.bx.ab.length 2 (d.bx.ab.map aA.cells)).ro] [] kr (aQ [0,1,2,3,4,5,6,7,8,9,10,11,12,13,14]) (aQ [])<|eS U (LW 3 U b_ U U)<|eS U (FA 4 U eD U)<|eS U (LP (cb.cells (ji d.bx sgA sgC)) 1 U b_ U U U)<|eS U (MV U)<|eS U (CL (l9 j kA kC az cA cC bA bC slA slC drA drC ha heA heC faA faC prA prC d.bx sgA sgC fw hin hsl) (bk [4,5,6,7,8,9,10,11,12,13,14]) U)<|eS U (LW 3 U b_ U U)<|eS U (FA 4 U eD U)<|eS U (LP (cb.cells (ji d.bx sgA sgC)) 1 U b_ U U U)<|eS U (MV U)<|eS U (CL (l9 j kA kC az cA cC bA bC slA slC drA drC ha heA heC faA faC prA prC d.bx sgA sgC fw hin hsl) (bk [4,5,6,7,8,9,10,11,12,13,14]) U)<|eh U<|m6 [10,11] kr (iF ?_<|iF ?_<|qC)
 rotate_left 1
 ·refine NO U U [10,12,13] fun T14 P=>AL U oV fun Y=>RD P 1 U<|N1 10<|NO U U [12,13] fun T16 R=>AL U oV fun Z=>RD R 2 U<|N1 12<|NO U U [13] fun T18 S=>fJ U mQ U<|RD S 2 U<|N1 13<|NO U U [] fun T19 T=>qT U mQ U<|RD T 2 U<|l3<|KK AA<|ao fun _ F=>aI<|WS fun _ E=>rP 3 [] (mc 0 U I) ?_
  refine bK (t:=40) U (fun C=>?_) (fun C=>?_)
  ·refine bE 16 U<|RK E<|aT U<|WS fun _ J=>rP 1 [] I ?_
   refine RK J<|aq<|Q1 hQ U U U ?_
   (rw [jJ rfl A]; (rw [gX (.inl C)]; done))
  refine rP 8 [0,1] (mc 0 U (mc 4 U I)) ?_
  refine bK (t:=48) U (aU fun D=>?_) (aV fun D=>?_)
  ·refine bE 8 U<|RK E<|aT U<|WS fun _ K=>rP 1 [] I ?_
   refine RK K<|aq<|Q1 hQ U U U ?_
   (rw [jJ rfl A]; (rw [gX (.inr (.inl D))]; done))
  refine rP 8 [0,1] (mc 1 U (mc 4 U I)) ?_
  refine RK E<|cy U (aU fun B=>?_) (aV fun B=>?_)
  ·refine WS fun _ L=>rP 1 [] I ?_
   refine RK L<|aq<|Q1 hQ U U U ?_
   (rw [jJ rfl A]; (rw [gX (.inr (.inr B))]; done))
  refine WS fun _ G=>rP 3 [] (mc 0 U I) ?_
  refine bU (t:=59) U (fun AB=>?_) (fun AB=>?_)
  ·refine bE 8 U<|RK G<|ct U<|cu<|aR<|KK F<|WS fun _ O=>rP 1 [] I ?_
   refine RK O<|aq<|Q1 hQ U U U ?_
   (rw [jJ rfl A]; (rw [jD (Bi (by simpa using C) (by first|exact D|(simp only []; omega)) (by first|exact B|(simp only []; omega))) (fun q=>by rw [AB] at q; exact Bool.noConfusion q.1)]; done))
  refine eV 5 [0,1,2,3] (mc 2 U (mc 4 U (mc 0 U (mc 1 U I)))) U<|rS (CL (FF 3 fw ff ft ((cz j.Race.ak d.bx fw).Lo) ((cz j.Race.ak d.bx fw).Hi) ((cz j.Race.ak d.bx fw).each) ((cz j.Race.ak d.bx fw).never) ((cz j.Race.ak d.bx fw).Lo) ((cz j.Race.ak d.bx fw).Hi) ((cz j.Race.ak d.bx fw).each) ((cz j.Race.ak d.bx fw).never)) (aO) U)<|rP 2 [] I ?_
  refine RK G<|cy U (aU fun H=>?_) (aV fun H=>?_)
  ·refine WS fun _ M=>rP 1 [] I ?_
   refine RK M<|aq<|Q1 hQ U U U ?_
   (rw [jJ rfl A]; (rw [pJ (Bi (by simpa using C) (by first|exact D|(simp only []; omega)) (by first|exact B|(simp only []; omega))) AB ((AQ rfl).2 H)]; done))
  refine cu<|aR<|KK F<|WS fun _ N=>rP 1 [] I ?_
  refine RK N<|aq<|Q1 hQ U U U ?_
  (rw [jJ rfl A]; (rw [jD (Bi (by simpa using C) (by first|exact D|(simp only []; omega)) (by first|exact B|(simp only []; omega))) (fun q=>H ((AQ rfl).1 q.2))]; done))
 refine NO U U [11,12,13] fun T14 P=>AL U oV fun Y=>RD P 1 U<|N1 11<|NO U U [12,13] fun T16 R=>AL U oV fun Z=>RD R 2 U<|N1 12<|NO U U [13] fun T18 S=>qT U mQ U<|RD S 2 U<|N1 13<|NO U U [] fun T19 T=>fJ U mQ U<|RD T 2 U<|l3<|KK AA<|ao fun _ F=>aI<|WS fun _ E=>rP 3 [] (mc 1 U I) ?_
 refine bK (t:=40) U (fun C=>?_) (fun C=>?_)
 ·refine bE 16 U<|RK E<|aT U<|WS fun _ J=>rP 1 [] I ?_
  refine RK J<|aq<|Q1 hQ U U U ?_
  (rw [jJ rfl A]; (rw [gX (.inl C)]; done))
 refine rP 8 [0,1] (mc 1 U (mc 4 U I)) ?_
 refine bK (t:=48) U (aU fun D=>?_) (aV fun D=>?_)
 ·refine bE 8 U<|RK E<|aT U<|WS fun _ K=>rP 1 [] I ?_
  refine RK K<|aq<|Q1 hQ U U U ?_
  (rw [jJ rfl A]; (rw [gX (.inr (.inl D))]; done))
 refine rP 8 [0,1] (mc 0 U (mc 4 U I)) ?_
 refine RK E<|cy U (aU fun B=>?_) (aV fun B=>?_)
 ·refine WS fun _ L=>rP 1 [] I ?_
  refine RK L<|aq<|Q1 hQ U U U ?_
  (rw [jJ rfl A]; (rw [gX (.inr (.inr B))]; done))
 refine WS fun _ G=>rP 3 [] (mc 1 U I) ?_
 refine bU (t:=59) U (fun AB=>?_) (fun AB=>?_)
 ·refine bE 8 U<|RK G<|ct U<|cu<|aR<|KK F<|WS fun _ O=>rP 1 [] I ?_
  refine RK O<|aq<|Q1 hQ U U U ?_
  (rw [jJ rfl A]; (rw [jD (Bi (by simpa using C) (by first|exact D|(simp only []; omega)) (by first|exact B|(simp only []; omega))) (fun q=>by rw [AB] at q; exact Bool.noConfusion q.1)]; done))
 refine eV 5 [0,1,2,3] (mc 2 U (mc 4 U (mc 1 U (mc 0 U I)))) U<|rS (CL (FF 3 fw ff ft ((cz j.Race.ak d.bx fw).Lo) ((cz j.Race.ak d.bx fw).Hi) ((cz j.Race.ak d.bx fw).each) ((cz j.Race.ak d.bx fw).never) ((cz j.Race.ak d.bx fw).Lo) ((cz j.Race.ak d.bx fw).Hi) ((cz j.Race.ak d.bx fw).each) ((cz j.Race.ak d.bx fw).never)) (aO) U)<|rP 2 [] I ?_
 refine RK G<|cy U (aU fun H=>?_) (aV fun H=>?_)
 ·refine WS fun _ M=>rP 1 [] I ?_
  refine RK M<|aq<|Q1 hQ U U U ?_
  (rw [jJ rfl A]; (rw [pJ (Bi (by simpa using C) (by first|exact D|(simp only []; omega)) (by first|exact B|(simp only []; omega))) AB ((AQ rfl).2 H)]; done))
 refine cu<|aR<|KK F<|WS fun _ N=>rP 1 [] I ?_
 refine RK N<|aq<|Q1 hQ U U U ?_
 (rw [jJ rfl A]; (rw [jD (Bi (by simpa using C) (by first|exact D|(simp only []; omega)) (by first|exact B|(simp only []; omega))) (fun q=>H ((AQ rfl).1 q.2))]; done))
theorem Aw (j:cK) (kA:OA) (kC:Nat) (az:List RA) (cA:OA) (cC:Nat) (bA:OA) (bC:Nat) (slA:OA) (slC:Nat) (drA:OA) (drC:Nat) (ha:List c_) (heA:OA) (heC:Nat) (faA:OA) (faC:Nat) (prA:OA) (prC:Nat) (f:aK) (d:ax) (sgA:OA) (sgC:Nat) (hin:gT j az ha) (hk:1≤f.Kind∧f.Kind≤3) (hw:0≤f.de∧f.de≤1000000) (hsl:d.bx.ab.length≤1000000):
 dL Tryz.prog 29 [(vA (df.cells (df.mk (nu j kA kC cA cC bA bC slA slC drA drC heA heC faA faC prA prC)))),(vA (aK.cells f)),(vA (aM.cells (aM.mk d.Out d.dC d.Time (ji d.bx sgA sgC))))] [(rd kA j.Race.ak.aS.length 9 (j.Race.ak.aS.map ar.cells)),(rd cA j.Race.ak.aj.length 2 (List.zipWith au.cells j.Race.ak.aj az)),(dT (br au.gd j.Race.ak.aj az)),(rd bA j.Race.ak.aa.length 4 (j.Race.ak.aa.map bJ.cells)),(rd slA j.Race.bj.length 1 (j.Race.bj.map iC)),(rd drA j.Race.cq.length 1 (j.Race.cq.map iC)),(rd heA j.Race.aD.length 1 (List.zipWith cL j.Race.aD ha)),(dT (br fj j.Race.aD ha)),(rd faA j.aG.length 4 (j.aG.map aK.cells)),(rd prA j.aF.length 5 (j.aF.map aY.cells)),(rd sgA d.bx.ab.length 2 (d.bx.ab.map aA.cells))] (Value.int .u8 (fF j.Race.ak f d)):=by
 obtain ⟨fk,fw,ff,ft⟩:=f
 have A:fk=1∨fk=2∨fk=3:=by have:=hk; simp only at this; omega
 rcases A with rfl|rfl|rfl
 ·exact JV j kA kC az cA cC bA bC slA slC drA drC ha heA heC faA faC prA prC fw ff ft d sgA sgC hin hw hsl
 ·exact IN j kA kC az cA cC bA bC slA slC drA drC ha heA heC faA faC prA prC fw ff ft d sgA sgC hin hw hsl
 ·exact JB j kA kC az cA cC bA bC slA slC drA drC ha heA heC faA faC prA prC fw ff ft d sgA sgC hin hw hsl
end
section
open Go.RowKit
theorem JG (j:cK) (kA:OA) (kC:Nat) (az:List RA) (cA:OA) (cC:Nat) (bA:OA) (bC:Nat) (slA:OA) (slC:Nat) (drA:OA) (drC:Nat) (ha:List c_) (heA:OA) (heC:Nat) (faA:OA) (faC:Nat) (prA:OA) (prC:Nat) (p:aY) (hin:gT j az ha) (hok:ej j=0) (hp: ∃ i:Nat,j.aF[i]? =some p):
 dL Tryz.prog 30 [(vA (df.cells (df.mk (nu j kA kC cA cC bA bC slA slC drA drC heA heC faA faC prA prC)))),(vA (aY.cells p))] [(rd kA j.Race.ak.aS.length 9 (j.Race.ak.aS.map ar.cells)),(rd cA j.Race.ak.aj.length 2 (List.zipWith au.cells j.Race.ak.aj az)),(dT (br au.gd j.Race.ak.aj az)),(rd bA j.Race.ak.aa.length 4 (j.Race.ak.aa.map bJ.cells)),(rd slA j.Race.bj.length 1 (j.Race.bj.map iC)),(rd drA j.Race.cq.length 1 (j.Race.cq.map iC)),(rd heA j.Race.aD.length 1 (List.zipWith cL j.Race.aD ha)),(dT (br fj j.Race.aD ha)),(rd faA j.aG.length 4 (j.aG.map aK.cells)),(rd prA j.aF.length 5 (j.aF.map aY.cells))] (Value.int .u8 (jL j p)):=by
 have S:=hin.race
 have e:=hin.race.line
 have s:=hin.race.iu
 have t:=hin.race.has
 have q:=hin.race.ir
 have k:=hin.nf
 have o:=hin.np
 have R:=(eE hok).1
 have P:=(eE hok).2
 have c:=(eH R).1
 have h:=(eH R).2
 have a:=(du c).2.head
 unfold eU at a
 obtain ⟨pi,f⟩:=hp
 have G:=P.hO pi p f
 have x:=G.gH
 have g:=G.lx
 simp only [ry] at g
 have w:=G.fault
 have u:=P.min_
 refine bH kr Tryz.func30 U U fun w0 Q hQ hN=>?_
 try dsimp only
 refine WS fun _ T=>eO U fun z=>eO U fun b3=>rP 1 [] I ?_
 refine RK T<|ao fun _ AA=>dy cj [20,21] [] [] [0,1,2,3,4,5,6,7,8,9,10,11] [] U U U U U<|eS U (LW 1 U b_ U U)<|eS U (FA 0 U eD U)<|eS U (FA 0 U eD U)<|eS U (FA 10 U eD U)<|eS U (L1 (vS heA j.Race.aD.length heC) 1 U b_ U U)<|eS U (FA 2 U eD U)<|eS U (L1 (vI p.jl) 0 U b_ U U) ?_
 obtain ⟨ht,C⟩:=aJ j.Race.aD ((p.jl).toNat) om
 obtain ⟨A,B⟩:=aJ ha ((p.jl).toNat) om
 have O:(List.zipWith cL j.Race.aD ha)[(p.jl).toNat]? =some (cL ht A):=dF C B
 refine eS U (IA ((p.jl).toNat) U (aB 8 U) oz dc om om)<|eS U (gE ((p.jl).toNat) 0 (vS A.1.1 ht.length A.1.2) U b_ (aB 8 U) O U dc U)<|eS U (FA 1 U eD U)<|eS U (L1 (vI p.iK) 0 U b_ U U) ?_
 have N:=S.gH _ _ _ C B
 have m:=N.nx
 have n:=(h.gH ht (aP C)).1
 obtain ⟨d,hd⟩:=aJ ht ((p.iK).toNat) om
 obtain ⟨da,M⟩:=aJ A.2 ((p.iK).toNat) om
 have Z:(List.zipWith ax.cells ht A.2)[(p.iK).toNat]? =some (ax.cells d da):=dF hd M
 refine eS U (IA ((p.iK).toNat) U (show iJ _ (rd A.1.1 ht.length 7 (List.zipWith ax.cells ht A.2)).holds from (cU 9 U (bQ C B cx))) rr dc om om)<|eS U (o6 ((((p.iK).toNat)*7)+4) U (show iJ _ (rd A.1.1 ht.length 7 (List.zipWith ax.cells ht A.2)).holds from (cU 9 U (bQ C B cx))) (Nat.mul_pos om dc) eD U) ?_
 have D:=pK (j:=j) (p:=p) C hd
 have y:=N.sig d (aP hd)
 have v:=Oo (l:=j.Race.ak) (r:=d.bx) (b:=j.Race.ak.bO) om
 refine eS U (lM ((p.iK).toNat) 4 (cb.cells (cb.mk d.bx.Start d.bx.gh (bD.mk da.1 d.bx.ab.length da.2))) U b_ (show iJ _ (rd A.1.1 ht.length 7 (List.zipWith ax.cells ht A.2)).holds from (cU 9 U (bQ C B cx))) Z U dc U U)<|eS U (FA 0 U eD U)<|eS U (FA 0 U eD U)<|eS U (FA 0 U eD U)<|eS U (FA 4 U eD U)<|eS U (L1 (vI j.Race.ak.bO) 1 U b_ U U)<|eS U (CL (l9 j kA kC az cA cC bA bC slA slC drA drC ha heA heC faA faC prA prC d.bx da.1 da.2 j.Race.ak.bO hin asm) (nV [2,3,4,5,6,7,8,9,10,11]<|aC (show iJ _ (rd da.1 d.bx.ab.length 2 (d.bx.ab.map aA.cells)).holds from (cU 9 U (bQ C B (di _ (bQ hd M (by simp [ax.gd]))))))<|aO) U)<|eh U<|cf U fun T5 X=>AL U oV fun b6=>aH (X _ _ (aQ [1,2,3,4,5,6,7,8,9,10,11,12]) ?_)
 refine cf U fun T7 Y=>fJ U mQ U<|aH (Y _ _ (aQ [1,2,3,4,5,6,7,8,9,10,11,12]) ?_)
 refine e8 U<|KK AA<|WS fun _ V=>eV 3 [] (mc 2 U I) U<|rS (BI U (nt ⟨om,om⟩))<|bE 1 U<|RK V<|ao fun _ W=>aI<|WS fun _ H=>rP 9 [0,1] (mc 1 U (mc 0 U I)) ?_
 refine RK H<|cy U (aU fun E=>?_) (aV fun E=>?_)
 ·refine WS fun _ AB=>rP 1 [] I ?_
  refine RK AB<|aq<|Q1 hQ U U U ?_
  (rw [PH D E]; done)
 refine WS fun _ J=>rP 9 [0,1] (mc 1 U (mc 0 U I)) ?_
 refine RK J<|cy U (aU fun F=>?_) (aV fun F=>?_)
 ·refine WS fun _ K=>rP 1 [] I ?_
  refine RK K<|aq<|Q1 hQ U U U ?_
  (rw [PT D E F]; done)
 refine cu<|aR<|KK W<|WS fun _ L=>rP 1 [] I ?_
 refine RK L<|aq<|Q1 hQ U U U ?_
 (rw [Qs D E F]; done)
theorem vt (j:cK) (kA:OA) (kC:Nat) (az:List RA) (cA:OA) (cC:Nat) (bA:OA) (bC:Nat) (slA:OA) (slC:Nat) (drA:OA) (drC:Nat) (ha:List c_) (heA:OA) (heC:Nat) (faA:OA) (faC:Nat) (prA:OA) (prC:Nat) (i:Int) (p:aY) (hin:gT j az ha) (hok:ej j=0) (hp: ∃ i:Nat,j.aF[i]? =some p):
 dL Tryz.prog 33 [(vA (df.cells (df.mk (nu j kA kC cA cC bA bC slA slC drA drC heA heC faA faC prA prC)))),(vI i),(vA (aY.cells p))] [(rd kA j.Race.ak.aS.length 9 (j.Race.ak.aS.map ar.cells)),(rd cA j.Race.ak.aj.length 2 (List.zipWith au.cells j.Race.ak.aj az)),(dT (br au.gd j.Race.ak.aj az)),(rd bA j.Race.ak.aa.length 4 (j.Race.ak.aa.map bJ.cells)),(rd slA j.Race.bj.length 1 (j.Race.bj.map iC)),(rd drA j.Race.cq.length 1 (j.Race.cq.map iC)),(rd heA j.Race.aD.length 1 (List.zipWith cL j.Race.aD ha)),(dT (br fj j.Race.aD ha)),(rd faA j.aG.length 4 (j.aG.map aK.cells)),(rd prA j.aF.length 5 (j.aF.map aY.cells))] (vB (hG j p)):=by
 have O:=hin.race
 have V:=hin.race.line
 have h:=hin.race.iu
 have k:=hin.race.has
 have c:=hin.race.ir
 have Y:=hin.nf
 have b:=hin.np
 have M:=(eE hok).1
 have E:=(eE hok).2
 have AA:=(eH M).1
 have X:=(eH M).2
 have T:=(du AA).2.head
 unfold eU at T
 obtain ⟨pi,N⟩:=hp
 have F:=E.hO pi p N
 have n:=F.gH
 have W:=F.lx
 simp only [ry] at W
 have m:=F.fault
 have l:=E.min_
 refine bH kr Tryz.func33 U U fun u Q hQ hN=>?_
 try dsimp only
 refine WS fun _ P=>eO U fun r=>eO U fun s=>bE 1 U<|RK P<|ao fun _ G=>dj cj 29 kr<|lz 2 [0,1] (mc 1 U (mc 0 U I)) U<|dS (CL (JG j kA kC az cA cC bA bC slA slC drA drC ha heA heC faA faC prA prC p hin hok (by exact ⟨pi,N⟩)) (bk [2,3,4,5,6,7,8,9,10,11]) U)<|dS (BI U ky)<|dP 1 [] I ?_
 refine jB (t:=11) U (aW fun D=>?_) (aX fun D=>?_)
 ·refine kE 17 U<|kE 2 U<|dP 5 [] I ?_
  refine cD<|RK G<|aq<|Q1 hQ U U U ?_
  (rw [Il D]; done)
 refine dP 6 [0,0,1] (mc 1 U (mc 0 U I)) ?_
 obtain ⟨f,hf⟩:=aJ j.aG ((p.jy).toNat) om
 have S:=bM aK.cells hf
 refine dS (IA ((p.jy).toNat) U (aB 10 U) yQ dc om om)<|dS (lM ((p.jy).toNat) 0 (aK.cells f) U b_ (aB 10 U) S U dc U U)<|dP 6 [0,1] (mc 1 U (mc 0 U I)) ?_
 obtain ⟨ht,C⟩:=aJ j.Race.aD ((p.jl).toNat) om
 obtain ⟨A,B⟩:=aJ ha ((p.jl).toNat) om
 have L:(List.zipWith cL j.Race.aD ha)[(p.jl).toNat]? =some (cL ht A):=dF C B
 refine dS (IA ((p.jl).toNat) U (aB 8 U) oz dc om om)<|dS (gE ((p.jl).toNat) 0 (vS A.1.1 ht.length A.1.2) U b_ (aB 8 U) L U dc U)<|dP 1 [] I ?_
 have K:=O.gH _ _ _ C B
 have Z:=K.nx
 have a:=(X.gH ht (aP C)).1
 refine dP 1 [] (mc 0 U I) ?_
 obtain ⟨d,hd⟩:=aJ ht ((p.iK).toNat) om
 obtain ⟨da,AB⟩:=aJ A.2 ((p.iK).toNat) om
 have R:(List.zipWith ax.cells ht A.2)[(p.iK).toNat]? =some (ax.cells d da):=dF hd AB
 refine dS (IA ((p.iK).toNat) U (show iJ _ (rd A.1.1 ht.length 7 (List.zipWith ax.cells ht A.2)).holds from (cU 9 U (bQ C B cx))) rr dc om om) ?_
 have H:=pK (j:=j) (p:=p) C hd
 have o:=K.sig d (aP hd)
 have J:=E.fault f (aP hf)
 have g:0≤f.de∧f.de≤1000000:=by have e:=J.2.2; split at e<;>omega
 refine dS (lM ((p.iK).toNat) 0 (aM.cells (aM.mk d.Out d.dC d.Time (cb.mk d.bx.Start d.bx.gh (bD.mk da.1 d.bx.ab.length da.2)))) U b_ (show iJ _ (rd A.1.1 ht.length 7 (List.zipWith ax.cells ht A.2)).holds from (cU 9 U (bQ C B cx))) R U dc U U)<|dS (CL (Aw j kA kC az cA cC bA bC slA slC drA drC ha heA heC faA faC prA prC f d da.1 da.2 hin (by exact J.1) asm asm) (nV [2,3,4,5,6,7,8,9,10,11]<|aC (show iJ _ (rd da.1 d.bx.ab.length 2 (d.bx.ab.map aA.cells)).holds from (cU 9 U (bQ C B (di _ (bQ hd AB (by simp [ax.gd]))))))<|aO) U)<|dS (BI U ky)<|dP 2 [] I ?_
 refine cD<|RK G<|aq<|Q1 hQ U U U ?_
 (rw [Jd H hf (fun q=>D q)]; done)
end
section
open Go.RowKit
theorem Ky (n lo hi:Int) (g1 g2:Nat):
 dL Tryz.prog 143 [(vI n),(vP g1),(vP g2)] [(cp g1 3 [(vI lo)]),(cp g2 3 [(vI hi)])] (vB (decide (n<lo∨hi<n))):=by
 refine bH kr Tryz.func143 U U fun D Q hQ hN=>?_
 try dsimp only
 refine WS fun _ B=>bE 1 U<|RK B<|WS fun _ A=>rP 4 [] (mr 0 U I) ?_
 refine bK (t:=8) U (aU fun C=>?_) (aV fun C=>?_)
 ·refine rP 5 [] I ?_
  refine RK A<|aq<|Q1 hQ U U U ?_
  exact cB (dN om).symm
 refine rP 5 [] (mr 1 U I) ?_
 refine RK A<|aq<|Q1 hQ U U U ?_
 exact cB (gR.2 om)
theorem tY (lo hi:Int) (l:List Int) (lA:OA) (lC:Nat) (hlen:l.length≤1000000):
 dL Tryz.prog 121 [(vI lo),(vI hi),(vS lA l.length lC)] [(rd lA l.length 1 (l.map iC))] (vB (qP lo hi l)):=by
 refine bH kr Tryz.func121 U U fun F Q hQ hN=>?_
 try dsimp only
 refine WS fun _ D=>wR U U fun A=>wR U U fun B=>bE 1 U<|RK D<|WS fun _ E=>rP 1 [] I ?_
 refine rS (FU U) ?_
 refine rS (CL (qt l lA lC (Value.func (.func 143) [].toArray [(vP A),(vP B)].toArray) (fun C=>(decide (C<lo∨hi<C))) (dT [(cp A 3 [(vI lo)]),(cp B 3 [(vI hi)])]) (by intro C _; exact k7 (fi:=[]) (ca:=[(vP A),(vP B)]) (jS (Ky C lo hi A B) (bk [0,1]))) hlen) (gJ 2 U U<|aC (jX (bk [1,0]))<|aO) U) ?_
 refine rP 2 [] I ?_
 refine RK E<|aq ?_
 exact Q1 hQ U U U U
theorem Ms (s:ag):
 dL Tryz.prog 208 [(vA (ag.cells s))] [] (vB (decide (mu s))):=by
 refine bH kr Tryz.func208 U U fun F Q hQ hN=>?_
 try dsimp only
 refine WS fun _ B=>eO U fun E=>bE 1 U<|RK B<|WS fun _ A=>rP 4 [] (mc 0 U I) ?_
 refine d_ (xs:=[.tmp 4,.tmp 6]) (cs:=[(vI s.Lo),(vI s.Hi)]) U dk jO U U U U (by simp [Value.cells]) U U fun C=>?_
 refine rS (CL (dL.eq (tY 1 600000 ([s.Lo,s.Hi]) (some ⟨C,0,none⟩) 2 (by (simp; done))) pd) (aC (bo 0 U U (by simp [bL]) U)<|aO) U) ?_
 refine rP 1 [] I ?_
 refine bU (t:=9) U (aV fun D=>?_) (aU fun D=>?_)
 ·refine rP 7 [] I ?_
  refine RK A<|aq<|Q1 hQ U U U ?_
  simp only [mu]
  exact cB (bI om).symm
 refine rP 7 [] (mc 1 U I) ?_
 refine RK A<|aq<|Q1 hQ U U U ?_
 simp only [mu]
 exact cB (gR.2 om)
theorem Ip (d:ax) (sgA:OA) (sgC:Nat):
 dL Tryz.prog 205 [(vA (aM.cells (aM.mk d.Out d.dC d.Time (ji d.bx sgA sgC))))] [(rd sgA d.bx.ab.length 2 (d.bx.ab.map aA.cells))] (vB (decide (nq d.bx))):=by
 refine bH kr Tryz.func205 U U fun F Q hQ hN=>?_
 try dsimp only
 refine WS fun _ B=>eO U fun E=>bE 1 U<|RK B<|WS fun _ A=>rP 5 [] (mc 0 U I) ?_
 refine bU (t:=7) U (aV fun C=>?_) (aU fun C=>?_)
 ·refine rP 13 [] I ?_
  refine RK A<|aq<|Q1 hQ U U U ?_
  simp only [nq]
  exact cB (bI om).symm
 refine rP 6 [] (mc 0 U I) ?_
 refine bU (t:=13) U (aV fun D=>?_) (aU fun D=>?_)
 ·refine rP 7 [] I ?_
  refine RK A<|aq<|Q1 hQ U U U ?_
  simp only [nq]
  exact cB (bI om).symm
 refine rP 7 [] (mc 0 U I) ?_
 refine RK A<|aq<|Q1 hQ U U U ?_
 simp only [nq]
 exact cB (gR.2 om)
theorem TC (d:ax) (sgA:OA) (sgC:Nat):
 dL Tryz.prog 203 [(vA (aM.cells (aM.mk d.Out d.dC d.Time (ji d.bx sgA sgC))))] [(rd sgA d.bx.ab.length 2 (d.bx.ab.map aA.cells))] (vB d.Out):=by
 refine bH kr Tryz.func203 U U fun D Q hQ hN=>?_
 try dsimp only
 refine WS fun _ A=>eO U fun C=>bE 1 U<|RK A<|WS fun _ B=>rP 3 [] (mc 0 U I) ?_
 refine RK B<|aq<|Q1 hQ U U U ?_
 rfl
theorem TP (d:ax) (sgA:OA) (sgC:Nat):
 dL Tryz.prog 206 [(vA (aM.cells (aM.mk d.Out d.dC d.Time (ji d.bx sgA sgC))))] [(rd sgA d.bx.ab.length 2 (d.bx.ab.map aA.cells))] (vB d.dC):=by
 refine bH kr Tryz.func206 U U fun D Q hQ hN=>?_
 try dsimp only
 refine WS fun _ A=>eO U fun C=>bE 1 U<|RK A<|WS fun _ B=>rP 3 [] (mc 0 U I) ?_
 refine RK B<|aq<|Q1 hQ U U U ?_
 rfl
theorem Sx (d:ax) (sgA:OA) (sgC:Nat):
 dL Tryz.prog 209 [(vA (aM.cells (aM.mk d.Out d.dC d.Time (ji d.bx sgA sgC))))] [(rd sgA d.bx.ab.length 2 (d.bx.ab.map aA.cells))] (vB true):=by
 refine bH kr Tryz.func209 U U fun D Q hQ hN=>?_
 try dsimp only
 refine WS fun _ A=>eO U fun C=>bE 1 U<|RK A<|WS fun _ B=>rP 1 [] I ?_
 refine RK B<|aq<|Q1 hQ U U U ?_
 rfl
end
end Go.Proofs.YtfhghdbminmhnaaGreatDoor
