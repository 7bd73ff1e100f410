/-
 The statement slideNarrow_said, part 3 of 3: W22, N1, DrawB, N2, N3, N4, N5, Narrow00.
 Conditions: none.
-/
import Derived.Test.YtpfjokbjambohaaTz1
import Derived.Test.YtpfjokbjambohaaTz2
import Derived.Test.YtpfjokbjambohaaRows
import Derived.Test.YtpfjokbjambohaaProg
import Derived.KernelRfl
namespace Go.Proofs.Ytpfjokbjambohaa
set_option maxRecDepth 100000
set_option maxHeartbeats 4000000
set_option linter.unusedVariables false
section
open Go.RowKit
theorem cm (lo hi:Int):
 cn Try.prog 17 [(vI lo),(vI hi)] [] (vA (ab.cells (ab.mk lo hi))):=by
 refine aS kr Try.func17 U U fun D Q hQ hN=>?_
 try dsimp only
 refine WS fun _ A=>AL U fD fun C=>RK A<|WS fun _ B=>rP 2 [] mn ?_
 refine rS (SX (aY (xs:=[(0,.tmp 5),(1,.tmp 6)]) (cs:=(ab.cells (ab.mk lo hi))) U U (aX gV U)) U U)<|eg U fO U<|RK B<|an ?_
 exact u_ hQ [0] (mc 0 U mn) U U
theorem kE (wall:Int):
 kI Try.prog 11 [(vI wall)] [] (fun (x:(OA)×Nat)=>(vA (ai.cells (ai.mk (cp.mk x.1 ((bZ wall).length) x.2))))) (fun (x:(OA)×Nat)=>True) (fun (x:(OA)×Nat)=>[(own x.1 x.2 42 9 ((bZ wall).map aa.cells))]):=by
 refine dM kr Try.func11 U U fun E Q hQ hN=>?_
 try dsimp only
 refine WS fun _ B=>AL U lU fun D=>RK B<|WS fun _ C=>rS (CL (cm 4000 4100) (ao) U)<|rS (CL (cm 400 420) (ao) U)<|rS (SX (aY (xs:=[(0,.const (vI 3)),(1,.tmp 3),(2,.tmp 4)]) (cs:=(aa.cells (aa.mk 3 (ab.mk 4000 4100) (ab.mk 400 420) (ab.mk 0 0) 0 0))) U U (aX sH U)) U U)<|rS (CL (cm 2000 2200) (ao) U)<|rS (CL (cm 150 160) (ao) U)<|rS (CL (cm 1500 1600) (ao) U)<|rP 1 [] mn ?_
 refine rS (SX (aY (xs:=[(0,.const (vI 5)),(1,.tmp 6),(2,.tmp 7),(3,.tmp 8),(4,.const (Value.int .u8 1)),(5,.tmp 9)]) (cs:=(aa.cells (aa.mk 5 (ab.mk 2000 2200) (ab.mk 150 160) (ab.mk 1500 1600) 1 wall))) U U (aX sH U)) U U)<|rS (CL (cm 3000 3000) (ao) U)<|rS (CL (cm 300 330) (ao) U)<|rS (SX (aY (xs:=[(0,.const (vI 8)),(1,.tmp 11),(2,.tmp 12)]) (cs:=(aa.cells (aa.mk 8 (ab.mk 3000 3000) (ab.mk 300 330) (ab.mk 0 0) 0 0))) U U (aX sH U)) U U)<|gp (xs:=[.tmp 5,.tmp 10,.tmp 13]) (cs:=((aa.cells (aa.mk 3 (ab.mk 4000 4100) (ab.mk 400 420) (ab.mk 0 0) 0 0))++(aa.cells (aa.mk 5 (ab.mk 2000 2200) (ab.mk 150 160) (ab.mk 1500 1600) 1 wall))++(aa.cells (aa.mk 8 (ab.mk 3000 3000) (ab.mk 300 330) (ab.mk 0 0) 0 0)))) U gU oh U U U U (by simp [Value.cells,aa.aO]) U U fun A=>iJ (es:=((bZ wall).map aa.cells)) (C':=[(own (some ⟨A,0,none⟩) 3 42 9 ((bZ wall).map aa.cells)),_]) 0 U (rJ aa.aO _) U (by simp [maxLen,bZ]) U ?_
 skip
 refine rS (SX (aY (xs:=[(0,.tmp 14)]) (cs:=(ai.cells (ai.mk (cp.mk (some ⟨A,0,none⟩) ((bZ wall).length) 3)))) U U (aX qq U)) U U)<|kb U jH U<|RK C<|an<|LX hQ ((some ⟨A,0,none⟩),3) [0] [0] (mc 1 U mn) U U U U ?_
 trivial
theorem kp:
 cn Try.prog 12 [] [] (vA (ah.cells db)):=by
 refine aS kr Try.func12 U U fun D Q hQ hN=>?_
 try dsimp only
 refine WS fun _ A=>AL U vr fun C=>RK A<|WS fun _ B=>rS (CL (cm 200 300) (ao) U)<|rS (CL (cm 1 4) (ao) U)<|rS (CL (cm 100 200) (ao) U)<|rS (CL (cm 300000 400000) (ao) U)<|rS (CL (cm (-20) 30) (ao) U)<|rS (SX (aY (xs:=[(0,.const (Value.int .u8 1)),(1,.tmp 1),(2,.tmp 2),(3,.tmp 3),(4,.tmp 4),(5,.tmp 5)]) (cs:=(ah.cells (ah.mk 1 (ab.mk 200 300) (ab.mk 1 4) (ab.mk 100 200) (ab.mk 300000 400000) (ab.mk (-20) 30)))) U U (aX vH U)) U U)<|eg U v3 U<|RK B<|an ?_
 exact u_ hQ [0] (mc 0 U mn) U U
theorem lQ (wall want:Int) (hE:aT db (bZ wall)=0) (hv:gN db (bZ wall)=want):
 cn Try.prog 18 [(vI wall),(Value.int .u8 want)] [] (vB true):=by
 have hl:=gh wall
 have G:=fh wall
 refine aS kr Try.func18 U U fun J Q hQ hN=>?_
 try dsimp only
 refine WS fun _ A=>aP 1 U<|RK A<|WS fun _ B=>rP 1 [] mn ?_
 refine cX (kE wall) (ao) U fun AB H=>?_
 obtain ⟨E,F⟩:=AB
 try dsimp only
 refine rS (CL kp (ao) U) ?_
 refine rS (CL (mF (bZ wall) E F db sd sd) (bB (ar (n:=(bZ wall).length) 0 U sm)<|ao) U) ?_
 refine aP 5 U<|RK B<|WS fun _ C=>rP 3 [] mn ?_
 refine cM (t:=16) U (aM fun D=>?_) (aL fun D=>?_)
 ·exact absurd hE D
 refine aP 2 U<|rS (BI U dB)<|rP 2 [] mn ?_
 refine RK C<|an<|Q1 hQ U U U ?_
 simp [hv]
theorem qW:
 cn Try.prog 4 [] [] (vB true):=by
 have Y:=gh 100
 have Z:=fh 100
 have i:=gh 90
 have k:=fh 90
 have h:=gh 10
 have j:=fh 10
 have q:=gh 0
 have s:=fh 0
 refine aS kr Try.func4 U U fun y Q hQ hN=>?_
 try dsimp only
 refine WS fun _ W=>rP 1 [] mn ?_
 refine RK W<|WS fun _ X=>cX (kE 100) (ao) U fun w u=>?_
 obtain ⟨e,g⟩:=w
 try dsimp only
 refine rS (CL kp (ao) U) ?_
 refine cX (jo (bZ 100) e g db sd sd) (bB (ar (n:=(bZ 100).length) 0 U sm)<|ao) U fun x v=>?_
 obtain ⟨f,E⟩:=x
 try dsimp only
 refine rP 5 [] mn ?_
 refine RK X<|WS fun _ M=>cX (kE 100) (ao) U fun a l=>?_
 obtain ⟨A,F⟩:=a
 try dsimp only
 refine rS (CL kp (ao) U) ?_
 refine rS (CL (q7 (bZ 100) A F db 3 sd sd) (bB (ar (n:=(bZ 100).length) 0 U sm)<|ao) U) ?_
 refine aP 3 U<|AL U fD fun T=>eg U fO U<|rP 1 [] mn ?_
 refine RK M<|WS fun _ N=>cX (kE 100) (ao) U fun b m=>?_
 obtain ⟨B,G⟩:=b
 try dsimp only
 refine rS (CL kp (ao) U) ?_
 refine rS (CL (jI (bZ 100) B G db 1 sd sd) (bB (ar (n:=(bZ 100).length) 0 U sm)<|ao) U) ?_
 refine aP 3 U<|AL U fD fun AB=>eg U fO U<|rP 1 [] mn ?_
 refine RK N<|WS fun _ O=>cX (kE 90) (ao) U fun c o=>?_
 obtain ⟨C,H⟩:=c
 try dsimp only
 refine rS (CL kp (ao) U) ?_
 refine rS (CL (ri (bZ 90) C H db sd sd) (bB (ar (n:=(bZ 90).length) 0 U sm)<|ao) U) ?_
 refine rP 7 [] mn ?_
 refine RK O<|WS fun _ P=>cX (kE 100) (ao) U fun d p=>?_
 obtain ⟨D,AC⟩:=d
 try dsimp only
 refine rS (CL kp (ao) U) ?_
 refine rS (CL (qK (bZ 100) D AC db sd sd) (bB (ar (n:=(bZ 100).length) 0 U sm)<|ao) U) ?_
 refine rP 4 [] mn ?_
 rw [pJ]
 rw [gq]
 rw [l2.1]
 rw [l2.2]
 rw [km.1]
 rw [km.2]
 rw [jP.1]
 rw [jP.2.1]
 rw [jP.2.2]
 rw [lx.1]
 rw [lx.2]
 refine rP 1 [] mn ?_
 refine RK P<|aj fun _ R=>q9 ck [0,1,2,3,4,5,6,7] [8,9,10,11,12,13,14,15,16,17,18,19,20,21,22,23,24,25,26,27,28,29,30,31,32,33,34,35,36,37,38,39,40,41,42,43,44,45,46,47,48,49,50,51,52,53,54,55] [false,false,false,false,false,false,false,false] [] [(own D AC 42 9 ((bZ 100).map aa.cells)),(own C H 42 9 ((bZ 90).map aa.cells)),(ct AB 27 (ab.cells (ab.mk 16 95))),(own B G 42 9 ((bZ 100).map aa.cells)),(ct T 27 (ab.cells (ab.mk 359 467))),(own A F 42 9 ((bZ 100).map aa.cells)),(own f E 27 2 ([(ab.mk 200 300),(ab.mk 431 677),(ab.mk 487 814),(ab.mk 658 1108)].map ab.cells)),(own e g 42 9 ((bZ 100).map aa.cells))] [] kr (aV [0,1,2,3,4,5,6,7]) (aV [])<|eS U (MV U)<|eS U (SX (bu (r:= .bool true) U U U dB) U U)<|eS U (MV U)<|eS U (MV U)<|eS U (CL (cm 200 300) (ao) U)<|eS U (CL (cm 431 677) (ao) U)<|eS U (CL (cm 487 814) (ao) U)<|eS U (CL (cm 658 1108) (ao) U)<|gK U<|N1 8<|NO U U [9,10,11,12,13,14,15,16,17,18,19,20,21,22,23,24,25,26,27,28,29,30,31,32,33,34,35,36,37,38,39,40,41,42,43,44,45,46,47,48,49,50,51,52,53,54,55] fun T34 S=>gp (xs:=[.tmp 47,.tmp 48,.tmp 49,.tmp 50]) (cs:=((ab.cells (ab.mk 200 300))++(ab.cells (ab.mk 431 677))++(ab.cells (ab.mk 487 814))++(ab.cells (ab.mk 658 1108)))) U gG fD U U U U (by simp [Value.cells,ab.aO]) U U fun V=>RD S 1 U<|tD [52,53,54,55,56,57,58,59,60,61,62,63,64,65,66,67,68,69,70,71,72,73,74,75,76,77,78,79,80,81,82,83,84,85,86,87,88,89,90,91,92,93,94,95,96,97,0] kr kr U _ U U (aV [1,2,3,4,5,6,7,8]) ?_
 refine dS (CL (lT ([(ab.mk 200 300),(ab.mk 431 677),(ab.mk 487 814),(ab.mk 658 1108)]) f E ([(ab.mk 200 300),(ab.mk 431 677),(ab.mk 487 814),(ab.mk 658 1108)]) (some ⟨V,0,none⟩) 4 sd sd) (bB (ar (n:=([(ab.mk 200 300),(ab.mk 431 677),(ab.mk 487 814),(ab.mk 658 1108)]).length) 7 U sm)<|bB (bI 0 U U (by simp [ab.aO]) U)<|ao) U) ?_
 refine dP 2 [] mn ?_
 refine im (t:=54) U (aM fun J=>?_) (aL fun J=>?_)
 ·exact absurd U J
 refine eR 1 U<|dS (SX (bu (r:= .bool true) U U U dB) U U)<|kc 3 [] (mc 5 U mn) U<|dS (CL (cm 359 467) (ao) U)<|dS (BI U (pb _ _ (ab.mk 359 467) (ab.mk 359 467)))<|dP 2 [] mn ?_
 refine im (t:=63) U (aM fun K=>?_) (aL fun K=>?_)
 ·exact absurd U K
 refine eR 1 U<|dS (SX (bu (r:= .bool true) U U U dB) U U)<|kc 3 [] (mc 3 U mn) U<|dS (CL (cm 16 95) (ao) U)<|dS (BI U (pb _ _ (ab.mk 16 95) (ab.mk 16 95)))<|dP 2 [] mn ?_
 refine im (t:=72) U (aM fun L=>?_) (aL fun L=>?_)
 ·exact absurd U L
 refine dS (CL (lQ 100 2 (by exact gq) (by exact mT)) (ao) U)<|eR 2 U<|dS (CL (lQ 90 1 (by exact mP) (by exact oB)) (ao) U)<|eR 3 U<|dS (SX (bu (r:= .bool true) U U U dB) U U)<|eR 3 U<|dS (SX (bu (r:= .bool true) U U U dB) U U)<|eR 3 U<|dS (SX (bu (r:= .bool true) U U U dB) U U)<|eR 3 U<|dS (SX (bu (r:= .bool true) U U U dB) U U)<|eR 3 U<|dS (SX (bu (r:= .bool true) U U U dB) U U)<|dP 2 [] mn ?_
 refine b_<|RK R<|an<|Q1 hQ U U U ?_
 first|rfl|simp
theorem rl (ts:List aa) (tsA:OA) (tsC:Nat) (s:ah) (hc:0≤s.Class∧s.Class≤255):
 cn Try.prog 5 [(vA (ai.cells (ai.mk (cp.mk tsA ts.length tsC)))),(vA (ah.cells s))] [(rd tsA ts.length 9 (ts.map aa.cells))] (vB (decide (¬ 20<(ts.length:Int)∧aG ts=true∧aC s))):=by
 refine aS kr Try.func5 U U fun G Q hQ hN=>?_
 try dsimp only
 refine WS fun _ D=>dp U fun E=>dp U fun F=>aP 1 U<|RK D<|WS fun _ C=>e7 1 [] (mc 1 U mn) U<|rS (CL (qP ts tsA tsC) (aU [2]) U)<|rP 2 [] mn ?_
 refine cM (t:=8) U (aI fun A=>?_) (aJ fun A=>?_)
 ·refine rP 8 [] mn ?_
  refine RK C<|an<|Q1 hQ U U U ?_
  first|exact cB (fj.2 ⟨fun h=>⟨A,B,h⟩,fun h=>h.2.2⟩)|(rw [bD]; intro h; simp [B] at h)|(rw [bD]; intro h; exact h.1 A)
 refine rP 1 [] (mc 1 U mn) ?_
 refine rS (CL (qL ts tsA tsC sd) (aU [2]) U) ?_
 refine rP 2 [] mn ?_
 refine cM (t:=12) U (fun B=>?_) (fun B=>?_)
 ·refine rP 4 [] mn ?_
  refine RK C<|an<|Q1 hQ U U U ?_
  first|exact cB (fj.2 ⟨fun h=>⟨A,B,h⟩,fun h=>h.2.2⟩)|(rw [bD]; intro h; simp [B] at h)|(rw [bD]; intro h; exact h.1 A)
 refine e7 1 [] (mc 0 U mn) U<|rS (CL (sY s hc) (ao) U)<|rP 2 [] mn ?_
 refine RK C<|an<|Q1 hQ U U U ?_
 first|exact cB (fj.2 ⟨fun h=>⟨A,B,h⟩,fun h=>h.2.2⟩)|(rw [bD]; intro h; simp [B] at h)|(rw [bD]; intro h; exact h.1 A)
end
section
open Go.RowKit
theorem mC (ts:List aa) (tsA:OA) (tsC:Nat) (l:List al) (lA:OA) (lC:Nat) (hlen:ts.length≤1000000) (hk: ∀ m∈l,0≤m.Kind∧m.Kind≤255):
 cn Try.prog 6 [(vA (ai.cells (ai.mk (cp.mk tsA ts.length tsC)))),(vS lA l.length lC)] [(rd tsA ts.length 9 (ts.map aa.cells)),(rd lA l.length 5 (l.map al.cells))] (vB (decide (dq l ts.length))):=by
 refine aS kr Try.func6 U U fun g Q hQ hN=>?_
 try dsimp only
 refine WS fun _ W=>dp U fun f=>aP 1 U<|RK W<|aj fun _ X=>WS fun _ Y=>rP 3 [] mn ?_
 refine RK Y<|bY U (aL fun d=>?_) (aM fun d=>?_)
 ·refine WS fun _ Z=>rP 1 [] mn ?_
  refine RK Z<|an<|Q1 hQ U U U ?_
  first|exact cB (bD (fun q=>by have:=q.1; omega)).symm|exact cB (bD (fz hx (by simp only [cj,ay]; omega))).symm|exact cB (dH (eH I A I)).symm
 refine WK X<|aj fun _ a=>WS fun _ b=>rP 1 [] mn ?_
 refine RK b<|au ?_
 have D:(0≤l.length)∧(∀ m∈l.take 0,cj m ts.length):=by exact ⟨Nat.zero_le _,sm⟩
 refine bx (ι:={z:Nat // (z≤l.length)∧(∀ m∈l.take z,cj m ts.length)}) [1,2] [0,1,2] U U (fun z=>[(5,(vI (z.1:Int)))]) (fun z=>[]) (fun _=>rfl) (fun _=>rfl) (fun z=>l.length-z.1) ⟨0,D⟩ (aB U) (aV [0,1,2]) ?_
 clear D
 rintro ⟨i,⟨c,A⟩⟩ J9 V
 try dsimp only
 refine aj fun _ E=>WS fun _ F=>rP 4 [] mn ?_
 refine RK F<|bp U (aM fun O=>?_) (aL fun O=>?_)
 ·refine bo<|ae<|ae<|aw<|KK a<|WS fun _ M=>rP 1 [] mn ?_
  refine RK M<|an<|Q1 hQ U U U ?_
  first|exact cB (bD (fun q=>by have:=q.1; omega)).symm|exact cB (bD (fz hx (by simp only [cj,ay]; omega))).symm|exact cB (dH (eH I A I)).symm
 refine WK E<|aj fun _ G=>au<|aj fun _ B=>cy ck 54 kr<|dP 2 [] mn ?_
 obtain ⟨x,hx⟩:=bh l i I
 have C:=bC al.cells hx
 refine dS (IA i U (aH 2 U) lK dc I I)<|dS (mm (i*5) U (aH 2 U) (Nat.mul_pos I dc) iY U)<|dS (fX i 0 (Value.int .u8 x.Kind) U cd (aH 2 U) C U dc U) ?_
 have e:=hk x (aA hx)
 refine dS (SX (ek (m:=x.Kind) U U rA k_ (cR (by first|assumption|omega))) U U)<|dS (CL (dx x.Kind 1 2) (ao) U)<|dP 2 [] mn ?_
 refine ed (t:=23) U (aJ fun P=>?_) (aI fun P=>?_)
 ·refine eR 45 U<|b_<|RK B<|aK U<|WS fun _ H=>rP 1 [] mn ?_
  refine RK H<|an<|Q1 hQ U U U ?_
  first|exact cB (bD (fun q=>by have:=q.1; omega)).symm|exact cB (bD (fz hx (by simp only [cj,ay]; omega))).symm|exact cB (dH (eH I A I)).symm
 refine eR 2 U<|dS (IA i U (aH 2 U) lK dc I I)<|dS (mm ((i*5)+1) U (aH 2 U) (Nat.mul_pos I dc) iY U)<|dS (fX i 1 (vI x.aQ) U cd (aH 2 U) C U dc U)<|kc 3 [] (mc 0 U mn) U<|dS (CL (dx x.aQ 0 (ts.length:Int)) (ao) U)<|dP 3 [] mn ?_
 refine ed (t:=35) U (aJ fun R=>?_) (aI fun R=>?_)
 ·refine eR 33 U<|b_<|RK B<|aK U<|WS fun _ AC=>rP 1 [] mn ?_
  refine RK AC<|an<|Q1 hQ U U U ?_
  first|exact cB (bD (fun q=>by have:=q.1; omega)).symm|exact cB (bD (fz hx (by simp only [cj,ay]; omega))).symm|exact cB (dH (eH I A I)).symm
 refine eR 2 U<|dS (IA i U (aH 2 U) lK dc I I)<|dS (mm ((i*5)+2) U (aH 2 U) (Nat.mul_pos I dc) iY U)<|dS (fX i 2 (vI x.To) U cd (aH 2 U) C U dc U)<|kc 3 [] (mc 0 U mn) U<|dS (CL (dx x.To 0 (ts.length:Int)) (ao) U)<|dP 3 [] mn ?_
 refine ed (t:=47) U (aJ fun S=>?_) (aI fun S=>?_)
 ·refine eR 21 U<|b_<|RK B<|aK U<|WS fun _ J=>rP 1 [] mn ?_
  refine RK J<|an<|Q1 hQ U U U ?_
  first|exact cB (bD (fun q=>by have:=q.1; omega)).symm|exact cB (bD (fz hx (by simp only [cj,ay]; omega))).symm|exact cB (dH (eH I A I)).symm
 refine eR 2 U<|dS (IA i U (aH 2 U) lK dc I I)<|dS (mm ((i*5)+1) U (aH 2 U) (Nat.mul_pos I dc) iY U)<|dS (fX i 1 (vI x.aQ) U cd (aH 2 U) C U dc U)<|eR 2 U<|dS (IA i U (aH 2 U) lK dc I I)<|dS (mm ((i*5)+2) U (aH 2 U) (Nat.mul_pos I dc) iY U)<|dS (fX i 2 (vI x.To) U cd (aH 2 U) C U dc U)<|dP 3 [] mn ?_
 refine ed (t:=60) U (aL fun T=>?_) (aM fun T=>?_)
 ·refine eR 8 U<|b_<|RK B<|aK U<|WS fun _ K=>rP 1 [] mn ?_
  refine RK K<|an<|Q1 hQ U U U ?_
  first|exact cB (bD (fun q=>by have:=q.1; omega)).symm|exact cB (bD (fz hx (by simp only [cj,ay]; omega))).symm|exact cB (dH (eH I A I)).symm
 refine eR 2 U<|dS (IA i U (aH 2 U) lK dc I I)<|dS (mm ((i*5)+3) U (aH 2 U) (Nat.mul_pos I dc) iY U)<|dS (nw i 3 (ab.cells x.a_) U cd (aH 2 U) C U dc U U)<|dS (CL (ei x.a_ 0 360000) (ao) U)<|dP 2 [] mn ?_
 refine b_<|RK B<|bY U (aJ fun AB=>?_) (aI fun AB=>?_)
 ·refine WS fun _ L=>rP 1 [] mn ?_
  refine RK L<|an<|Q1 hQ U U U ?_
  first|exact cB (bD (fun q=>by have:=q.1; omega)).symm|exact cB (bD (fz hx (by simp only [cj,ay]; omega))).symm|exact cB (dH (eH I A I)).symm
 refine bW<|az<|KK G<|aq<|rP 3 [] mn ?_
 refine aD ?_
 have N:(vI (((i+1):Nat):Int))=(vI ((i:Int)+1)):=by exact cI I
 refine aR (V ⟨(i+1),⟨I,ov A hx (by simp only [cj,ay]; omega)⟩⟩ _ _ _ U os (cQ.cons U<|cQ.cons U<|bO U N<|cQ.nil _) (aV [0,1,2]))
theorem rz (m:al) (k:Int) (tA:OA) (tN tC g1:Nat) (hm:cj m tN) (hn:tN≤12):
 cn Try.prog 40 [(vI k),(vA (al.cells m)),(vP g1)] [(ct g1 24 (ai.cells (ai.mk (cp.mk tA tN tC))))] (vB false):=by
 have C:=hm
 simp only [cj,ay] at C
 refine aS kr Try.func40 U U fun J Q hQ hN=>?_
 try dsimp only
 refine WS fun _ B=>dp U fun AB=>aP 1 U<|RK B<|WS fun _ A=>rP 2 [] (mc 0 U mn) ?_
 refine rS (SX (ek (m:=m.Kind) U U rA k_ (cR (by first|assumption|omega))) U U)<|gp (xs:=[.tmp 8]) (cs:=[(vI m.Kind)]) U eP rf U U U U (by simp [Value.cells]) U U fun D=>?_
 refine rS (CL (cn.eq (mD 1 2 ([m.Kind]) (some ⟨D,0,none⟩) 1 sd) fk) (bB (bI 0 U U (by simp [cY]) U)<|ao) U) ?_
 refine rP 2 [] mn ?_
 refine cb (t:=12) U (aJ fun F=>?_) (aI fun F=>?_)
 ·refine rP 25 [] mn ?_
  refine RK A<|an<|Q1 hQ U U U ?_
  first|rfl|(simp; omega)|(exfalso; omega)
 refine rP 7 [0,1,1] (mr 2 U (mc 1 U mn)) ?_
 refine gp (xs:=[.tmp 17,.tmp 19]) (cs:=[(vI m.aQ),(vI m.To)]) U eP rf U U U U (by simp [Value.cells]) U U fun E=>?_
 refine rS (CL (cn.eq (mD 0 (tN:Int) ([m.aQ,m.To]) (some ⟨E,0,none⟩) 2 sd) kz) (bB (bI 0 U U (by simp [cY]) U)<|ao) U) ?_
 refine rP 3 [] mn ?_
 refine cb (t:=24) U (aJ fun G=>?_) (aI fun G=>?_)
 ·refine rP 13 [] mn ?_
  refine RK A<|an<|Q1 hQ U U U ?_
  first|rfl|(simp; omega)|(exfalso; omega)
 refine rP 7 [] (mc 2 U mn) ?_
 refine cb (t:=31) U (aL fun H=>?_) (aM fun H=>?_)
 ·refine rP 6 [] mn ?_
  refine RK A<|an<|Q1 hQ U U U ?_
  first|rfl|(simp; omega)|(exfalso; omega)
 refine aP 1 U<|rS (LP (ab.cells m.a_) 2 U cd U U U)<|rS (CL (jq m.a_ 0 360000) (ao) U)<|rP 3 [] mn ?_
 refine RK A<|an<|Q1 hQ U U U ?_
 first|rfl|(simp; omega)|(exfalso; omega)
theorem rE (l:List al) (lA:OA) (lC:Nat) (f:Value) (p:Int→al→Bool) (X:ag) (hf: ∀ x0 x1,(∃ i_:Nat,x0=(i_:Int)∧l[i_]? =some x1)→tT Try.prog f [.int .i64 x0,.agg (al.cells x1).toArray] [X] (.bool (p x0 x1))) (hlen:l.length≤1000000) (hno: ∀ (i_:Nat) x,l[i_]? =some x→p (i_:Int) x=false):
 cn Try.prog 43 [(vS lA l.length lC),f] [(rd lA l.length 5 (l.map al.cells)),X] (vS none 0 0):=by
 refine aS kr Try.func43 U U fun T Q hQ hN=>?_
 try dsimp only
 refine WS fun _ H=>aP 1 U<|RK H<|WS fun _ AB=>aP 1 U<|RK AB<|aj fun _ J=>WS fun _ K=>rP 3 [] mn ?_
 refine RK K<|au ?_
 have A:(0≤l.length):=by exact Nat.zero_le _
 refine bx (ι:={z:Nat // (z≤l.length)}) [1,5,8,9] [0,1] U U (fun z=>[(10,(vI (z.1:Int)))]) (fun z=>[]) (fun _=>rfl) (fun _=>rfl) (fun z=>l.length-z.1) ⟨0,A⟩ (aB U) (aV [0,1]) ?_
 clear A
 rintro ⟨i,O⟩ J5 G
 try dsimp only
 refine WS fun _ L=>rP 1 [] mn ?_
 refine RK L<|aj fun _ M=>bp U (aM fun S=>?_) (aL fun S=>?_)
 ·refine bo<|ae<|ae<|aw<|KK J<|WS fun _ E=>rP 2 [] mn ?_
  refine RK E<|an<|Q1 hQ U U U ?_
  rfl
 refine WK M<|aj fun _ N=>au<|WS fun _ C=>rP 1 [] mn ?_
 obtain ⟨x,hx⟩:=bh l i I
 have P:=bC al.cells hx
 refine rS (IA i U (aH 0 U) lK dc I I)<|rS (nw i 0 (al.cells x) U cd (aH 0 U) P U dc U U)<|AL U qj fun R=>aP 1 U<|eg U qa U<|RK C<|WS fun _ D=>rP 3 [] (mc 0 U mn) ?_
 refine rS (SX (mO U U U (hf (i:Int) x ⟨_,U,hx⟩) (aU [2])) U U)<|RK D<|bY U (fun B=>?_) (fun B=>?_)
 ·rw [hno _ _ hx] at B; exact Bool.noConfusion B
 refine bW<|az<|KK N<|aq<|rP 2 [] mn ?_
 refine aD ?_
 have F:(vI (((i+1):Nat):Int))=(vI ((i:Int)+1)):=by exact cI I
 refine aR (G ⟨(i+1),(by first|omega|(simp only []; omega))⟩ _ _ _ U os (cz 4<|bO U F<|cQ.nil _) (aV [1,2]))
theorem sP (l:List al) (lA:OA) (lC:Nat):
 kI Try.prog 45 [(vS lA l.length lC)] [(rd lA l.length 5 (l.map al.cells))] (fun (x:Nat)=>(Value.func (.func 60) [].toArray [(vP x)].toArray)) (fun (x:Nat)=>True) (fun (x:Nat)=>[(ct x 25 [(vS lA l.length lC)])]):=by
 refine dM kr Try.func45 U U fun D Q hQ hN=>?_
 try dsimp only
 refine WS fun _ A=>tM U U fun C=>aP 1 U<|RK A<|WS fun _ B=>rS (FU U)<|rP 1 [] mn ?_
 refine RK B<|an<|LX hQ C [0] [] mn U U U U ?_
 trivial
theorem rF (ms:List al) (msA:OA) (msC g1:Nat) (hlen:ms.length≤1000000):
 rO Try.prog 60 [] [(vP g1)] [(rd msA ms.length 5 (ms.map al.cells)),(ct g1 25 [(vS msA ms.length msC)])] (lu ms):=by
 refine nD kr Try.func60 U U fun l J Z A0 AB Q hY L K hQ hN=>?_
 try dsimp only
 refine WS fun _ N=>rP 3 [] (mr 2 U mn) ?_
 refine RK N<|au ?_
 have F:(0≤ms.length)∧(J 0 A0)∧(Fo A0 AB A0):=by exact ⟨I,L,K⟩
 refine bx (ι:={z:Nat×ag // (z.1≤ms.length)∧(J z.1 z.2)∧(Fo A0 AB z.2)}) [0,1,5,6] [1,2] U U (fun z=>[(7,(vI (z.1.1:Int)))]) (fun z=>[z.1.2]) (fun _=>rfl) (fun _=>rfl) (fun z=>ms.length-z.1.1) ⟨(0,A0),F⟩ (aB U) (aV [1,2,0]) ?_
 clear F
 rintro ⟨⟨i,A⟩,⟨G,B,C⟩⟩ J2 M
 try dsimp only at G B C
 try dsimp only
 refine WS fun _ O=>rP 1 [] mn ?_
 refine RK O<|aj fun _ P=>bp U (aM fun V=>?_) (aL fun V=>?_)
 ·refine bo<|ae<|ae<|aw ?_
  refine hN _ _ _ (eC (vs:=[]) trivial fun w hs=>uD 2 U (by rw [lE]; have e:ms.length=i:=I; rw [e]; exact B) C hs)
 refine WK P<|aj fun _ R=>au<|WS fun _ S=>rP 1 [] mn ?_
 obtain ⟨x,hx⟩:=bh ms i I
 have T:=bC al.cells hx
 refine rS (IA i U (aH 0 U) lK dc I I)<|rS (nw i 0 (al.cells x) U cd (aH 0 U) T U dc U U)<|AL U qj fun W=>aP 1 U<|eg U qa U<|RK S<|WS fun _ H=>rP 3 [] (mc 0 U mn) ?_
 refine kT 3 hY B C U U U (pz hx) U U (fun B10 E D=>?_) (fun B10 E D=>?_)
 rotate_left 1
 ·refine rP 1 [] mn ?_
  refine RK H<|aK U<|an ?_
  refine hQ _ _ _ (eC (vs:=[]) trivial fun w hs=>oS 3 U E D hs)
 refine aP 1 U<|RK H<|bH U<|bW<|az<|KK R<|aq<|rP 2 [] mn ?_
 refine aD ?_
 have AC:(vI (((i+1):Nat):Int))=(vI ((i:Int)+1)):=by exact cI I
 refine aR (M ⟨((i+1),B10),⟨I,E,D⟩⟩ _ _ _ U os (cz 4<|bO U AC<|cQ.nil _) (aV [1,2,3]))
theorem sB (gm:Nat) (l:List al) (lA:OA) (lC b:Nat) (hlen:l.length≤1000000):
 q6 Try.prog 59 [(Value.map (some gm)),(Value.func (.func 60) [].toArray [(vP b)].toArray)] [(rd lA l.length 5 (l.map al.cells)),(ct b 25 [(vS lA l.length lC)])] (nZ iV gm (cG (fun s=>vA (al.cells s)) ([]:List (Int×al)))) (fun (x:(List (Int×al)))=>(vT [])) (fun (x:(List (Int×al)))=>(∀ e∈x,e.2∈l)) (fun (x:(List (Int×al)))=>(nZ iV gm (cG (fun s=>vA (al.cells s)) x))):=by
 refine gQ kr Try.func59 U U fun P Q hQ hN=>?_
 try dsimp only
 refine WS fun _ A=>tM U U fun K=>RK A<|WS fun _ B=>rP 1 [] mn ?_
 refine RK B<|au<|m0 2 U (by exact fun _ h=>h)<|m0 4 U (by exact fun _ h=>h) ?_
 refine kN (L0:=[(2,(vP K))]) (F:=[(rd lA l.length 5 (l.map al.cells)).ro,(ct b 25 [(vS lA l.length lC)]).ro]) (xs:=(lu l)) (fun k (y:(List (Int×al)))=>((∀ e∈y,e.2∈l))) (fun k y=>[(ct K 63 [(Value.map (some gm))]),(nZ iV gm (cG (fun s=>vA (al.cells s)) y)),(rd lA l.length 5 (l.map al.cells)).ro]) (fun _ (_:Unit)=>False) (fun _ _=>[]) [2,3,4] [1,0] ([]:List (Int×al)) rfl rfl (rF l lA lC b (by first|assumption|omega|(simp; done))) rfl rfl rfl (by intro e he; cases he) (by simp only [List.forall_mem_cons,List.not_mem_nil,false_imp_iff,implies_true,and_true]; exact ⟨⟨_,sm,(fY (dh _))⟩,⟨_,sm,(fY (dh _))⟩⟩) (by exact oi) rfl (aB rfl) ?_ ?_ (fun _ _ _ h=>h.elim) (fun _ _ h=>h.elim)
 rotate_left 1
 ·rintro O ml C
  have D:=C
  try dsimp only
  refine az<|hN _ _ _ (mI 0 U U<|eC (vs:=[]) trivial fun w hs=>uJ ml 4 ?_ ?_ U U hs)
  ·clear hs w hQ hN B A; rfl
  ·clear hs w hQ hN B A; exact D
 rintro k x ml lr ra rb S R K4 Qr5 hx G H E L M
 obtain ⟨x,J,rfl⟩:=l8 hx
 have D:=G
 try dsimp only
 refine WS fun _ AB=>rP 1 [] mn ?_
 refine RK AB<|aq<|AL U qj fun N=>eg U qa U<|aD<|iA (fun _ _ h=>h) (aV [1,0,2,3,4])<|aR (H _ _ ?_)
 refine au<|aq<|rP 3 [0,1] (mc 2 U (mc 1 U mn)) ?_
 refine n_ (kV:=iV) (x:=(k:Int)) (C':=[_,_,_,(nZ iV gm (cG (fun s=>vA (al.cells s)) (fq ml (k:Int) x))),_]) 3 U U U U tz (jM k_) U (mz _ _ _ _).symm U<|aD<|az ?_
 exact E (fq ml (k:Int) x) _ _ (by exact pX D (aA J)) (aV [0,2,3,4])
theorem qC (l:List al) (lA:OA) (lC b:Nat) (hlen:l.length≤1000000):
 kI Try.prog 44 [(Value.func (.func 60) [].toArray [(vP b)].toArray)] [(rd lA l.length 5 (l.map al.cells)),(ct b 25 [(vS lA l.length lC)])] (fun (x:Nat×(List (Int×al)))=>(Value.map (some x.1))) (fun (x:Nat×(List (Int×al)))=>(∀ e∈x.2,e.2∈l)) (fun (x:Nat×(List (Int×al)))=>[(nZ iV x.1 (cG (fun s=>vA (al.cells s)) x.2))]):=by
 refine dM kr Try.func44 U U fun H Q hQ hN=>?_
 try dsimp only
 refine WS fun _ A=>rP 1 [] mn ?_
 refine RK A<|WS fun _ B=>py (kV:=iV) U U fun F=>?_
 try dsimp only
 refine aP 1 U<|RK B<|WS fun _ C=>rP 2 [] mn ?_
 refine eX 0 U U U U (sB F l lA lC b hlen) U (jr 1 U U (fY (dh _)) (jr 2 U U (fY (dh _)) gn)) U (fun E G=>?_)
 try dsimp only
 refine RK C<|WS fun _ D=>rP 2 [] mn ?_
 refine RK D<|an<|LX hQ (F,E) [0] [] mn U U U U ?_
 assumption
theorem qN (ts:List aa) (tsA:OA) (tsC:Nat) (hlen:ts.length≤1000000) (hside: ∀ x∈ts,0≤x.aN∧x.aN≤255):
 cn Try.prog 39 [(vA (ai.cells (ai.mk (cp.mk tsA ts.length tsC))))] [(rd tsA ts.length 9 (ts.map aa.cells))] (vT [(vA (dk.cells (dk.mk (ai.mk (cp.mk tsA ts.length tsC))))),(vI (if aG ts=true then 0 else 10))]):=by
 refine aS kr Try.func39 U U fun E Q hQ hN=>?_
 try dsimp only
 refine WS fun _ A=>dp U fun C=>AL U qD fun D=>aP 1 U<|RK A<|aj fun _ B=>cy ck 4 kr<|kc 1 [] (mc 1 U mn) U<|dS (SX (aY (xs:=[(0,.tmp 4)]) (cs:=(dk.cells (dk.mk (ai.mk (cp.mk tsA ts.length tsC))))) U U (aX vJ U)) U U)<|kc 1 [] (mc 1 U mn) U<|dS (CL (j7 ts tsA tsC hlen hside) (aU [2]) U)<|b_<|eg U rq U<|rP 1 [] mn ?_
 refine RK B<|an ?_
 exact qc hQ [0] (mc 0 U mn) U U
theorem mB (ts:List aa) (tsA:OA) (tsC:Nat) (l:List al) (lA:OA) (lC:Nat) (htr:aG ts=true) (hside: ∀ x∈ts,0≤x.aN∧x.aN≤255) (hmo:dq l ts.length):
 kI Try.prog 24 [(vA (ai.cells (ai.mk (cp.mk tsA ts.length tsC)))),(vS lA l.length lC)] [(rd tsA ts.length 9 (ts.map aa.cells)),(rd lA l.length 5 (l.map al.cells))] (fun (x:Nat×(List (Int×al)))=>(vT [(vA (dk.cells (dk.mk (ai.mk (cp.mk tsA ts.length tsC))))),(Value.map (some x.1)),(vI 0)])) (fun (x:Nat×(List (Int×al)))=>(∀ e∈x.2,e.2∈l)) (fun (x:Nat×(List (Int×al)))=>[(nZ iV x.1 (cG (fun s=>vA (al.cells s)) x.2))]):=by
 have Z:=cK htr
 have c:=hmo.1
 have V:(if aG ts=true then (0:Int) else 10)=0:=if_pos htr
 refine dM kr Try.func24 U U fun h Q hQ hN=>?_
 try dsimp only
 refine WS fun _ O=>dp U fun L=>AL U qD fun f=>aP 2 U<|RK O<|WS fun _ P=>rP 1 [] (mc 1 U mn) ?_
 refine rS (CL (qN ts tsA tsC sd hside) (aU [2]) U) ?_
 refine aP 3 U<|AL U qD fun g=>eg U rq U<|aP 1 U<|RK P<|aj fun _ R=>WS fun _ S=>rP 2 [] mn ?_
 refine RK S<|bY U (aJ fun C=>?_) (aI fun C=>?_)
 ·exact absurd V C
 refine WK R<|WS fun _ T=>rS (FU U)<|aP 1 U<|RK T<|aj fun _ AB=>WS fun _ D=>rP 4 [] mn ?_
 refine cb (t:=23) U (aL fun N=>?_) (aM fun N=>?_)
 ·exfalso; omega
 refine rP 2 [] mn ?_
 refine rS (CL (rE l lA lC (Value.func (.func 40) [].toArray [(vP L)].toArray) (fun _ _=>false) (so [(ct L 24 (ai.cells (ai.mk (cp.mk tsA ts.length tsC))))]) (by intro W X J; exact j6 (fi:=[]) (ca:=[(vP L)]) (ik (rz X W tsA ts.length tsC L (by first|assumption|(obtain ⟨d,_,A⟩:=J; exact hmo.2 _ (aA A))|omega) (by first|assumption|(obtain ⟨d,_,A⟩:=J; exact hmo.2 _ (aA A))|omega)) (aU [0]))) sd (by intro _ _ _; rfl)) (kv 4 rfl rfl<|bB (ia (aU [2]))<|ao) rfl) ?_
 refine aP 1 U<|rS (SX (bu (r:= .bool false) U U U pd) U U)<|rP 1 [] mn ?_
 refine RK D<|bH U<|WK AB<|aj fun _ E=>ep ck [2,3,4,5] [] [] [0,2,3,4] [] U U U U U<|eS U (LW 0 U cd U U)<|eS U (MV U)<|eS U (AG U)<|gK U<|cg U fun T15 F=>cX (sP l lA lC) (aU [4]) U fun M a=>?_
 try dsimp only
 refine aD (F _ _ (aV [1,3,4,5]) ?_)
 refine cg U fun T19 G=>?_
 refine cX (qC l lA lC M sd) (aU [5,0]) U fun Y b=>?_
 obtain ⟨B,K⟩:=Y
 try dsimp only
 refine aD (G _ _ (aV [2,4,5,6]) ?_)
 refine cg U fun T24 H=>vb U rq U<|aD (H _ _ (aV [2,4,5,6]) ?_)
 refine cg U fun T25 AC=>rS (AG U)<|aD (AC _ _ (aV [2,4,5,6]) ?_)
 refine hG U<|KK E<|an<|LX hQ (B,K) [0] [0] (mc 3 U mn) U U U U ?_
 assumption
end
section
theorem TN.sub {E:bV} {ops:Array Oper} {Q:bc} {D:cA} {C' C1 C:List ag} {tb rem:List Nat}: ∀ {n:Nat} {L L':bj},cQ L L'→TN E ops D C' C1 (fun L C=>KJ E (Q .normal) D L C) tb n rem L' C→TN E ops D C' C1 (fun L C=>KJ E (Q .normal) D L C) tb n rem L C:=by
 intro n
 cases n with
 |zero=>intro L L' hs h; exact iA hs (fun _ h=>h) h
 |succ n=>intro L L' hs h i hi o ho K hK; exact rZ hs (fun _ h=>h) (h i hi o ho K hK)
theorem rv {E:bV} {ops:Array Oper} {Q:bc} {D:cA} {C' C1 C:List ag} {bs:List Bool} {os:List Oper} {L:bj} {tb rem:List Nat} {n:Nat} {t:Nat} {b:Bool} (h:L.lookup t=some (.bool b))
 (h1:b=true→gY E ops D C' C1 (fun L'=>TN E ops D C' C1 (fun L C=>KJ E (Q .normal) D L C) tb n rem L' C) bs os ((t,.bool true)::L)) (h2:b=false→gY E ops D C' C1 (fun L'=>TN E ops D C' C1 (fun L C=>KJ E (Q .normal) D L C) tb n rem L' C) bs os ((t,.bool false)::L)):
 gY E ops D C' C1 (fun L'=>TN E ops D C' C1 (fun L C=>KJ E (Q .normal) D L C) tb n rem L' C) bs os L:=by
 have A: ∀ v:Bool,b=v→cQ L ((t,.bool v)::L):=fun v hv=>cQ.cons (hv▸h) (fun _ _ h=>h)
 cases b
 ·exact gY.mono (fun _ _=>TN.sub) (A _ U) (h2 U)
 ·exact gY.mono (fun _ _=>TN.sub) (A _ U) (h1 U)
/-- what is not asked for any more goes -/
theorem uj {E:bV} {c:Code} {Q:bc} {D:cA} {L:bj} {C C':List ag} (is:List Nat) (hn:decide is.Nodup=true) (hC:ld C is=C') (h:WJ E c Q D L C'):WJ E c Q D L C:=fun a w hf hs=>h a w hf (St.ld is hn hC hs)
theorem uU {E:bV} {ops:Array Oper} {Q:bc} {D:List Deferred} {L:List (Nat×Value)} {C1 C2 C:List ag} {t n:Nat} {b:Bool} {bs:List Bool} {os:List Oper} {tb rem:List Nat} (h:L.lookup t=some (.bool b)) (h2:b=false→gY E ops D C2 C1 (fun L2=>TN E ops D C2 C1 (fun L C=>KJ E (Q .normal) D L C) tb n rem L2 C) bs os ((t,.bool false)::L)) (h1:b=true→gY E ops D C2 C1 (fun L2=>TN E ops D C2 C1 (fun L C=>KJ E (Q .normal) D L C) tb n rem L2 C) bs os ((t,.bool true)::L)):gY E ops D C2 C1 (fun L2=>TN E ops D C2 C1 (fun L C=>KJ E (Q .normal) D L C) tb n rem L2 C) bs os L:=rv h h1 h2
end
section
open Go.RowKit
theorem nA (A:OA) (ad:Addr) (m:Nat) (hA:A=some ad):
 cn Try.prog 61 [(Value.pointer (de A m))] [] (Value.pointer (de A (m+1))):=by
 refine aS kr Try.func61 U U fun D Q hQ hN=>?_
 try dsimp only
 refine WS fun _ B=>aP 1 U<|RK B<|WS fun _ C=>aP 1 U<|rS (SX (eu U U hA) U U)<|rS (wg (m+1) U hA iY U)<|rP 1 [] mn ?_
 refine RK C<|an<|Q1 hQ U U U ?_
 rfl
theorem nq (A:OA) (ad:Addr) (m:Nat) (hA:A=some ad):
 cn Try.prog 62 [(Value.pointer (de A m))] [] (Value.pointer (de A (m+3))):=by
 refine aS kr Try.func62 U U fun D Q hQ hN=>?_
 try dsimp only
 refine WS fun _ B=>aP 1 U<|RK B<|WS fun _ C=>aP 1 U<|rS (SX (eu U U hA) U U)<|rS (wg (m+3) U hA iY U)<|rP 1 [] mn ?_
 refine RK C<|an<|Q1 hQ U U U ?_
 rfl
theorem pH:
 cn Try.prog 47 [] [] (vA ((cJ.cells (cJ.mk Value.nilFunc))++(cJ.cells (cJ.mk (Value.func (.func 61) [].toArray [].toArray)))++(cJ.cells (cJ.mk (Value.func (.func 62) [].toArray [].toArray))))):=by
 refine aS kr Try.func47 U U fun D Q hQ hN=>?_
 try dsimp only
 refine WS fun _ A=>AL U u1 fun C=>RK A<|WS fun _ B=>rS (SX (aY (xs:=[(0,.func 61)]) (cs:=(cJ.cells (cJ.mk (Value.func (.func 61) [].toArray [].toArray)))) U U (aX uw U)) U U)<|rS (SX (aY (xs:=[(0,.func 62)]) (cs:=(cJ.cells (cJ.mk (Value.func (.func 62) [].toArray [].toArray)))) U U (aX uw U)) U U)<|rS (SX (aY (xs:=[(1,.tmp 1),(2,.tmp 2)]) (cs:=((cJ.cells (cJ.mk Value.nilFunc))++(cJ.cells (cJ.mk (Value.func (.func 61) [].toArray [].toArray)))++(cJ.cells (cJ.mk (Value.func (.func 62) [].toArray [].toArray))))) U U (aX vq U)) U U)<|eg U uX U<|RK B<|an<|u_ hQ [0] (mc 0 U mn) U ?_
 rfl
theorem pG (l:List aa) (lA:OA) (lC:Nat) (hlen:l.length≤1000000):
 kI Try.prog 46 [(vS lA l.length lC)] [(rd lA l.length 9 (l.map aa.cells))] (fun (x:(OA)×Nat)=>(vS x.1 l.length x.2)) (fun (x:(OA)×Nat)=>True) (fun (x:(OA)×Nat)=>[(own x.1 x.2 42 9 (l.map aa.cells))]):=by
 refine dM kr Try.func46 U U fun L Q hQ hN=>?_
 try dsimp only
 refine WS fun _ D=>aP 1 U<|RK D<|aj fun _ E=>WS fun _ F=>rP 1 [] mn ?_
 refine rS (BI U (s8 uE))<|RK F<|bY U (aL fun B=>?_) (aM fun B=>?_)
 ·refine WS fun _ G=>qe (aH 0 U) B dc fun C=>?_
  have A:l=[]:=by simpa using C
  refine nU 42 9 ?_
  rw [show (own none 0 42 9 ([]:List (List Value)))=own none 0 42 9 (l.map aa.cells) from by rw [A]; rfl]
  refine rP 1 [] mn ?_
  refine RK G<|an ?_
  refine LX hQ (none,0) [0] [] mn U U U ?_ ?_
  ·first|rfl|(rw [A]; rfl)
  ·trivial
 refine WK E<|WS fun _ H=>tY U gU U fun J=>rP 1 [] mn ?_
 refine iJ (es:=(List.map aa.cells [])) (C':=[own (some ⟨J,0,none⟩) 0 42 9 (List.map aa.cells []),_]) 0 U sm U (by simp [maxLen]) U ?_
 refine ig (es2:=(List.map aa.cells l)) (m':=l.length) 0 U U U vv U U sm (aH 1 U) (gS _) os (by (simp only [maxLen]; omega)) sm sm U fun AB K=>?_
 try dsimp only
 refine rP 1 [] mn ?_
 refine RK H<|an ?_
 refine LX hQ (AB,K) [0] [] mn U U U ?_ ?_
 ·first|rfl|(rw [A]; rfl)
 ·trivial
theorem lz (mb mc:Nat) (M:List Int) (n:Nat) (hn:n≤13) (hM:Cl n 0 M):
 q6 Try.prog 48 [(vP mb),(vI (n:Int))] [] (own (some ⟨mb,0,none⟩) mc 101 1 (M.map iC)) (fun (x:(List Int)×Bool)=>(vB x.2)) (fun (x:(List Int)×Bool)=>x.2=true→Cl n n x.1∧ ∀ a b,a<n→b<n→mt x.1 a b≤mt M a b) (fun (x:(List Int)×Bool)=>(own (some ⟨mb,0,none⟩) mc 101 1 (x.1.map iC))):=by
 refine gQ kr Try.func48 U U fun w0 Q hQ hN=>?_
 try dsimp only
 refine WS fun _ w=>aP 1 U<|RK w<|aj fun _ y=>WS fun _ AB=>rP 2 [] mn ?_
 refine RK AB<|au ?_
 have C:(0≤n)∧(Cl n 0 M)∧(∀ a b,a<n→b<n→mt M a b≤mt M a b):=by exact ⟨Nat.zero_le _,hM,fun _ _ _ _=>Int.le_refl _⟩
 refine bx (ι:={z:Nat×(List Int) // (z.1≤n)∧(Cl n z.1 z.2)∧(∀ a b,a<n→b<n→mt z.2 a b≤mt M a b)}) [0,1,9] [] U U (fun z=>[(10,(vI (z.1.1:Int)))]) (fun z=>[(own (some ⟨mb,0,none⟩) mc 101 1 (z.1.2.map iC))]) (fun _=>rfl) (fun _=>rfl) (fun z=>n-z.1.1) ⟨(0,M),C⟩ (aB U) (aV [0]) ?_
 clear C
 rintro ⟨⟨x,M1⟩,⟨AI,B,D⟩⟩ J4 v
 try dsimp only at AI B D
 try dsimp only
 refine WS fun _ AC=>rP 1 [] mn ?_
 refine RK AC<|aj fun _ AD=>bp U (aM fun h7=>?_) (aL fun h7=>?_)
 ·refine bo<|ae<|ae<|aw<|KK y<|WS fun _ g=>rP 1 [] mn ?_
  refine RK g<|an<|LM hQ (M1,true) 0 [] mn U U U U ?_
  first|exact fun q=>Bool.noConfusion q|(obtain rfl:x=n:=I; exact fun _=>⟨B,D⟩)
 refine WK AD<|aj fun _ AE=>au<|WS fun _ AF=>aP 2 U<|RK AF<|WS fun _ N=>rP 2 [] mn ?_
 refine RK N<|au ?_
 have C:(0≤n)∧(Rd n x M1 M1 0 0):=by exact ⟨Nat.zero_le _,.zero B.len⟩
 refine bx (ι:={z:Nat×(List Int) // (z.1≤n)∧(Rd n x M1 z.2 z.1 0)}) [0,1,5,9,10,13] [] U U (fun z=>[(14,(vI (z.1.1:Int)))]) (fun z=>[(own (some ⟨mb,0,none⟩) mc 101 1 (z.1.2.map iC))]) (fun _=>rfl) (fun _=>rfl) (fun z=>n-z.1.1) ⟨(0,M1),C⟩ (aB U) (aV [0]) ?_
 clear C
 rintro ⟨⟨i,M2⟩,⟨J,E⟩⟩ J11 L
 try dsimp only at J E
 try dsimp only
 refine WS fun _ O=>rP 1 [] mn ?_
 refine RK O<|aj fun _ P=>bp U (aM fun s=>?_) (aL fun s=>?_)
 ·refine bo<|ae<|ae<|aw<|az<|KK AE ?_
  have r:=Rd.done B (show x<n by omega) (show Rd n x M1 M2 n 0 from by have e:i=n:=I; rw [e] at E; exact E)
  refine aq<|rP 2 [] mn ?_
  refine aD ?_
  have p:(vI (((x+1):Nat):Int))=(vI ((x:Int)+1)):=by exact cI I
  refine aR (v ⟨((x+1),M2),⟨I,r.1,fun a b ha hb=>Int.le_trans (r.2 a b ha hb) (D a b ha hb)⟩⟩ _ _ _ U os (cz 3<|bO U p<|cQ.nil _) (aV [0]))
 refine WK P<|aj fun _ R=>au<|WS fun _ S=>aP 2 U<|RK S<|WS fun _ T=>rP 2 [] mn ?_
 refine RK T<|au ?_
 have C:(0≤n)∧(Rd n x M1 M2 i 0):=by exact ⟨Nat.zero_le _,E⟩
 refine bx (ι:={z:Nat×(List Int) // (z.1≤n)∧(Rd n x M1 z.2 i z.1)}) [0,1,5,6,9,10,13,14,17] [] U U (fun z=>[(18,(vI (z.1.1:Int)))]) (fun z=>[(own (some ⟨mb,0,none⟩) mc 101 1 (z.1.2.map iC))]) (fun _=>rfl) (fun _=>rfl) (fun z=>n-z.1.1) ⟨(0,M2),C⟩ (aB U) (aV [0]) ?_
 clear C
 rintro ⟨⟨k,M3⟩,⟨K,A⟩⟩ J18 G
 try dsimp only at K A
 try dsimp only
 refine WS fun _ AG=>rP 1 [] mn ?_
 refine RK AG<|aj fun _ V=>bp U (aM fun t=>?_) (aL fun t=>?_)
 ·refine bo<|ae<|ae<|aw<|az<|KK R ?_
  have AH:Rd n x M1 M3 i n:=by have e:k=n:=I; rw [e] at A; exact A
  refine aq<|rP 2 [] mn ?_
  refine aD ?_
  have m:(vI (((i+1):Nat):Int))=(vI ((i:Int)+1)):=by exact cI I
  refine aR (L ⟨((i+1),M3),⟨I,AH.row⟩⟩ _ _ _ U os (cz 6<|bO U m<|cQ.nil _) (aV [0]))
 refine WK V<|aj fun _ H=>au<|WS fun _ W=>aP 2 U<|RK W<|aj fun _ X=>cy ck 16 kr<|eR 3 U<|dS (SX (ib U U) U U)<|dS (SX (cr (k:=i) U U U da I I) U U)<|dS (SX (cq (k:=x) (m':=((i*13+x)*1)) U U U eQ I I I) U U)<|dS (fX (i*13+x) 0 (vI (mt M3 i x)) U cd (ar (n:=M3.length) 0 U sm) (bU (i:=i) (k:=x) A.len I I) U dc U)<|dP 3 [] mn ?_
 refine dS (SX (ib U U) U U)<|dS (SX (cr (k:=x) U U U da I I) U U)<|dS (SX (cq (k:=k) (m':=((x*13+k)*1)) U U U eQ I I I) U U)<|dS (fX (x*13+k) 0 (vI (mt M3 x k)) U cd (ar (n:=M3.length) 0 U sm) (bU (i:=x) (k:=k) A.len I I) U dc U) ?_
 have AJ:=A.s6 hn B (show x<n by omega) (show i<n by omega) (show x<n by omega)
 have AK:=A.s6 hn B (show x<n by omega) (show x<n by omega) (show k<n by omega)
 refine eR 2 U<|b_<|RK X<|WS fun _ Y=>aP 4 U<|rS (SX (ib U U) U U)<|rS (SX (cr (k:=i) U U U da I I) U U)<|rS (SX (cq (k:=k) (m':=((i*13+k)*1)) U U U eQ I I I) U U)<|rS (fX (i*13+k) 0 (vI (mt M3 i k)) U cd (ar (n:=M3.length) 0 U sm) (bU (i:=i) (k:=k) A.len I I) U dc U)<|rP 1 [] mn ?_
 refine RK Y<|bp U (aM fun F=>?_) (aL fun F=>?_)
 ·refine bW<|az<|KK H<|aq<|rP 2 [] mn ?_
  refine aD ?_
  have j:(vI (((k+1):Nat):Int))=(vI ((k:Int)+1)):=by exact cI I
  refine aR (G ⟨((k+1),M3),⟨I,by first|exact A.put hn B I I I F I rfl|exact A.skip B I I I F⟩⟩ _ _ _ U os (cz 9<|bO U j<|cQ.nil _) (aV [0]))
 refine WS fun _ Z=>aP 4 U<|rS (SX (ib U U) U U)<|rS (SX (cr (k:=i) U U U da I I) U U)<|rS (SX (cq (k:=k) (m':=((i*13+k)*1)) U U U eQ I I I) U U)<|bE (k:=(i*13+k)) (o:=0) (vs:=[(vI ((mt M3 i x)+(mt M3 x k)))]) (es':=(List.map iC (M3.set (i*13+k) ((mt M3 i x)+(mt M3 x k))))) (C':=[(own (some ⟨mb,0,none⟩) mc 101 1 (List.map iC (M3.set (i*13+k) ((mt M3 i x)+(mt M3 x k)))))]) 0 U U U nQ U U U U (bU (i:=i) (k:=k) A.len I I) U dc (by exact (List.map_set (f:=iC) (l:=M3) (i:=(i*13+k)) (a:=((mt M3 i x)+(mt M3 x k)))).symm) U<|RK Z<|WS fun _ c=>rP 3 [] mn ?_
 refine RK c<|bY U (aL fun u=>?_) (aM fun u=>?_)
 ·refine WS fun _ d=>rP 1 [] mn ?_
  refine RK d<|an<|LM hQ ((M3.set (i*13+k) ((mt M3 i x)+(mt M3 x k))),false) 0 [] mn U U U U ?_
  first|exact fun q=>Bool.noConfusion q|(obtain rfl:x=n:=I; exact fun _=>⟨B,D⟩)
 refine bW<|az<|KK H<|aq<|rP 2 [] mn ?_
 refine aD ?_
 have h:(vI (((k+1):Nat):Int))=(vI ((k:Int)+1)):=by exact cI I
 refine aR (G ⟨((k+1),(M3.set (i*13+k) ((mt M3 i x)+(mt M3 x k)))),⟨I,by first|exact A.put hn B I I I F I rfl|exact A.skip B I I I F⟩⟩ _ _ _ U os (cz 9<|bO U h<|cQ.nil _) (aV [0]))
end
section
open Go.RowKit
theorem sS (ts:List aa) (tsA:OA) (tsC gm:Nat) (ml:List (Int×al)) (hst: ∀ x∈ts,ak x) (hl12:ts.length≤12) (hl1:1≤ts.length) (hmm: ∀ e∈ml,cj e.2 ts.length):
 kI Try.prog 25 [(vA (dk.cells (dk.mk (ai.mk (cp.mk tsA ts.length tsC))))),(Value.map (some gm))] [(rd tsA ts.length 9 (ts.map aa.cells)),(nZ iV gm (cG (fun s=>vA (al.cells s)) ml))] (fun (x:Bool×Int×(List aa)×(OA)×Nat)=>bif x.1 then (vT [(vA (ai.cells (ai.mk (cp.mk x.2.2.2.1 x.2.2.1.length x.2.2.2.2)))),(vB true)]) else (vT [(vA (ai.cells (ai.mk (cp.mk none 0 0)))),(vB false)])) (fun (x:Bool×Int×(List aa)×(OA)×Nat)=>(x.1=true→dR ts.length ts.length ts x.2.2.1)∧(x.1=false→(x.2.1=0∧True))) (fun (x:Bool×Int×(List aa)×(OA)×Nat)=>bif x.1 then [(own x.2.2.2.1 x.2.2.2.2 42 9 (x.2.2.1.map aa.cells))] else []):=by
 refine dM kr Try.func25 U U fun w0 Q hQ hN=>?_
 try dsimp only
 refine WS fun _ CF=>dp U fun b2=>AL U lU fun b3=>aP 1 U<|RK CF<|WS fun _ CI=>rP 3 [] (mc 1 U mn) ?_
 refine cX (pG ts tsA tsC sd) (aU [2]) U fun y5 Cb=>?_
 obtain ⟨AG,Z⟩:=y5
 try dsimp only
 refine rS (SX (aY (xs:=[(0,.tmp 21)]) (cs:=(ai.cells (ai.mk (cp.mk AG ts.length Z)))) U U (aX qq U)) U U)<|AL U lU fun b9=>eg U jH U<|RK CI<|WS fun _ Az=>e7 5 [] (mc 0 U mn) U<|RK Az<|WS fun _ A0=>rS (CL pH (ao) U)<|AL U u1 fun B_=>eg U uX U<|RK A0<|aj fun _ A1=>WS fun _ A2=>aP 1 U<|RK A2<|au<|jQ 3<|fx fun R15 Br=>aj fun _ A3=>WS fun _ A4=>rP 1 [] mn ?_
 refine rS (SX (bu (r:= .bool true) U U U nz) U U)<|RK A4<|aK U<|WK A3<|aj fun _ A5=>au<|aj fun _ A6=>?_
 have Bq:dR 0 0 ts ts:= .zero
 have CW:ts.length=ts.length:=Bq.len
 refine aq ?_
 refine lO U pN U (by rw [List.length_replicate]; decide) fun K=>?_
 refine RK A6<|aj fun _ A7=>WS fun _ A8=>rP 2 [] mn ?_
 refine RK A8<|au ?_
 have A:(0≤(ts.length+1))∧(Wd (ts.length+1) 0 false ts (List.replicate 169 (0:Int))):=by exact ⟨Nat.zero_le _,.zero⟩
 refine bx (ι:={z:Nat×(List Int) // (z.1≤(ts.length+1))∧(Wd (ts.length+1) 0 false ts z.2)}) [1,4,6,7,8,9,10,32] [1,2,3,4,6,7] U U (fun z=>[(33,(vI (z.1.1:Int)))]) (fun z=>[(own (some ⟨K,0,none⟩) ((List.replicate 169 (0:Int)).length) 101 1 (z.1.2.map iC))]) (fun _=>rfl) (fun _=>rfl) (fun z=>(ts.length+1)-z.1.1) ⟨(0,(List.replicate 169 (0:Int))),A⟩ (aB U) (aV [1,2,3,4,6,7,0]) ?_
 clear A
 rintro ⟨⟨i,M⟩,⟨T,H⟩⟩ J23 Av
 try dsimp only at T H
 try dsimp only
 refine WS fun _ A9=>rP 1 [] mn ?_
 refine RK A9<|aj fun _ A_=>bY U (aL fun CA=>?_) (aM fun CA=>?_)
 ·refine WK A_<|aj fun _ BA=>au<|WS fun _ BB=>aP 2 U<|RK BB<|WS fun _ BC=>rP 2 [] mn ?_
  refine RK BC<|au ?_
  have A:(0≤(ts.length+1))∧(Wd (ts.length+1) 0 false ts M):=by exact ⟨Nat.zero_le _,H⟩
  refine bx (ι:={z:Nat×(List Int) // (z.1≤(ts.length+1))∧(Wd (ts.length+1) 0 false ts z.2)}) [1,4,6,7,8,9,10,11,32,33,36] [0,1,2,3,4,5] U U (fun z=>[(37,(vI (z.1.1:Int)))]) (fun z=>[(own (some ⟨K,0,none⟩) ((List.replicate 169 (0:Int)).length) 101 1 (z.1.2.map iC))]) (fun _=>rfl) (fun _=>rfl) (fun z=>(ts.length+1)-z.1.1) ⟨(0,M),A⟩ (aB U) (aV [0,1,2,3,4,5,6]) ?_
  clear A
  rintro ⟨⟨j,M2⟩,⟨O,C⟩⟩ J30 c
  try dsimp only at O C
  try dsimp only
  refine WS fun _ BD=>rP 1 [] mn ?_
  refine RK BD<|aj fun _ BE=>bp U (aM fun CB=>?_) (aL fun CB=>?_)
  ·refine bo<|ae<|ae<|aw<|az<|KK BA<|aq<|rP 2 [] mn ?_
   refine aD ?_
   have B0:(vI (((i+1):Nat):Int))=(vI ((i:Int)+1)):=by exact cI I
   refine aR (Av ⟨((i+1),M2),⟨I,C⟩⟩ _ _ _ U os (cz 8<|bO U B0<|cQ.nil _) (aV [0,1,2,3,4,5,6]))
  refine WK BE<|aj fun _ p=>au<|WS fun _ BF=>aP 2 U<|RK BF<|WS fun _ BG=>rP 3 [] mn ?_
  refine RK BG<|bp U (aI fun AB=>?_) (aJ fun AB=>?_)
  ·refine bW<|az<|KK p<|aq<|rP 2 [] mn ?_
   refine aD ?_
   have Bz:(vI (((j+1):Nat):Int))=(vI ((j:Int)+1)):=by exact cI I
   refine aR (c ⟨((j+1),M2),⟨I,by first|exact C.fill I I I I dc|exact C⟩⟩ _ _ _ U os (cz 11<|bO U Bz<|cQ.nil _) (aV [0,1,2,3,4,5,6]))
  refine aq<|aP 2 U<|rS (SX (cr (k:=i) U U U da I I) U U)<|rS (SX (cq (k:=j) (m':=((i*13+j)*1)) U U U eQ I I I) U U)<|bE (k:=(i*13+j)) (o:=0) (vs:=[(vI 1073741824)]) (es':=(List.map iC (M2.set (i*13+j) 1073741824))) (C':=[_,_,_,_,_,_,(own (some ⟨K,0,none⟩) ((List.replicate 169 (0:Int)).length) 101 1 (List.map iC (M2.set (i*13+j) 1073741824)))]) 6 U U U nQ U U U U (bU (i:=i) (k:=j) C.len I I) U dc (by exact (List.map_set (f:=iC) (l:=M2) (i:=(i*13+j)) (a:=1073741824)).symm) U<|aD<|az<|KK p<|aq<|rP 2 [] mn ?_
  refine aD ?_
  have By:(vI (((j+1):Nat):Int))=(vI ((j:Int)+1)):=by exact cI I
  refine aR (c ⟨((j+1),(M2.set (i*13+j) 1073741824)),⟨I,by first|exact C.fill I I I I dc|exact C⟩⟩ _ _ _ U os (cz 11<|bO U By<|cQ.nil _) (aV [0,1,2,3,4,5,6]))
 refine bo<|ae<|ae<|aw<|KK A7<|aj fun _ BH=>WS fun _ BJ=>rP 4 [] (mc 1 U mn) ?_
 refine RK BJ<|au ?_
 have A:(0≤ts.length)∧(Wd (ts.length+1) 0 false ts M):=by exact ⟨Nat.zero_le _,H⟩
 refine bx (ι:={z:Nat×(List Int) // (z.1≤ts.length)∧(Wd (ts.length+1) z.1 false ts z.2)}) [1,4,6,7,8,9,10,51] [0,1,2,3,4,5] U U (fun z=>[(52,(vI (z.1.1:Int)))]) (fun z=>[(own (some ⟨K,0,none⟩) ((List.replicate 169 (0:Int)).length) 101 1 (z.1.2.map iC))]) (fun _=>rfl) (fun _=>rfl) (fun z=>ts.length-z.1.1) ⟨(0,M),A⟩ (aB U) (aV [0,1,2,3,4,5,6]) ?_
 clear A
 rintro ⟨⟨t,M3⟩,⟨P,D⟩⟩ J42 Aw
 try dsimp only at P D
 try dsimp only
 refine WS fun _ BK=>rP 1 [] mn ?_
 refine RK BK<|aj fun _ BL=>bY U (aL fun CC=>?_) (aM fun CC=>?_)
 ·refine WK BL<|aj fun _ BM=>au<|WS fun _ BN=>rP 2 [] mn ?_
  refine RK BN<|aj fun _ BO=>?_
  refine fH 2 U (by simp; omega) (fun S G=>?_)
  obtain ⟨x,hx⟩:=bh ts t I
  have Aq:=hst x (aA hx)
  simp only [ak,ay] at Aq
  have CO:=bC aa.cells hx
  refine ep ck [11,12] [] [] [0,1,2,3,4,5,6] [] U U U U U<|eS U (MV U)<|eS U (SX (kS (k:=1) (o':=1) U U U qX U dc U) U U)<|eS U (FA 1 U iY U)<|eS U (L1 (Value.func (.func 61) [].toArray [].toArray) 0 U cd U U)<|eS U (FA 0 U iY U)<|eS U (L1 (vS AG ts.length Z) 1 U cd U U)<|eS U (MV U)<|eS U (va t U G gU I I)<|eS U (CL (nA AG S (t*9) (by exact G)) (ao) U)<|eS U (SX (eu U U G) U U)<|eS U (nw t 1 (ab.cells x.bR) U cd (ar (n:=ts.length) 2 U sm) CO U dc U U)<|gK U<|cg U fun T49 Bt=>AL U fD fun CZ=>aD (Bt _ _ (aV [1,2,3,4,5,6,7]) ?_)
  refine cg U fun T51 Bu=>eg U fO U<|aD (Bu _ _ (aV [1,2,3,4,5,6,7]) ?_)
  refine hG U<|KK BO<|ep ck [13,15,16] [12] [] [0,1,2,3,4,5,6] [0,1,2,3,4,5,6,7] U U U U U<|eS U (MV U)<|eS U (MV U)<|eS U (BI U (gP ⟨I,I⟩))<|eS U (MV U)<|eS U (BI U (gP ⟨I,I⟩))<|eS U (MV U)<|eS U (FA 1 U iY U)<|eS U (L1 (vI x.bR.Hi) 0 U cd U U)<|eS U (FA 0 U iY U)<|eS U (L1 (vI x.bR.Lo) 0 U cd U U)<|eS U (NG U ⟨I,I⟩)<|eS U (SX (cr (k:=t) U U U da I I) U U)<|fS U (SX (cq (k:=(t+1)) (m':=((t*13+(t+1))*1)) U U U eQ I I I) U U)<|eS U (SX (cr (k:=(t+1)) U U U da I I) U U)<|gK U<|cg U fun T52 Bv=>bE (k:=(t*13+(t+1))) (o:=0) (vs:=[(vI x.bR.Hi)]) (es':=(List.map iC (M3.set (t*13+(t+1)) x.bR.Hi))) (C':=[_,_,_,_,_,_,_,(own (some ⟨K,0,none⟩) ((List.replicate 169 (0:Int)).length) 101 1 (List.map iC (M3.set (t*13+(t+1)) x.bR.Hi)))]) 7 U U U nQ U U U U (bU (i:=t) (k:=(t+1)) D.len I I) U dc (by exact (List.map_set (f:=iC) (l:=M3) (i:=(t*13+(t+1))) (a:=x.bR.Hi)).symm) U<|aD (Bv _ _ (aV [0,1,2,3,4,5,6]) ?_)
  refine cg U fun T53 Bw=>rS (SX (cq (k:=t) (m':=(((t+1)*13+t)*1)) U U U eQ I I I) U U)<|aD (Bw _ _ (aV [0,1,2,3,4,5,6]) ?_)
  refine cg U fun T54 Bx=>bE (k:=((t+1)*13+t)) (o:=0) (vs:=[(vI (-x.bR.Lo))]) (es':=(List.map iC ((M3.set (t*13+(t+1)) x.bR.Hi).set ((t+1)*13+t) (-x.bR.Lo)))) (C':=[_,_,_,_,_,_,_,(own (some ⟨K,0,none⟩) ((List.replicate 169 (0:Int)).length) 101 1 (List.map iC ((M3.set (t*13+(t+1)) x.bR.Hi).set ((t+1)*13+t) (-x.bR.Lo))))]) 7 U U U nQ U U U U (bU (i:=(t+1)) (k:=t) (gE D.len) I I) U dc (by exact (List.map_set (f:=iC) (l:=(M3.set (t*13+(t+1)) x.bR.Hi)) (i:=((t+1)*13+t)) (a:=(-x.bR.Lo))).symm) U<|aD (Bx _ _ (aV [0,1,2,3,4,5,6]) ?_)
  refine hG U<|az<|KK BM<|aq<|rP 2 [] mn ?_
  refine aD ?_
  have B1:(vI (((t+1):Nat):Int))=(vI ((t:Int)+1)):=by exact cI I
  refine aR (Aw ⟨((t+1),((M3.set (t*13+(t+1)) x.bR.Hi).set ((t+1)*13+t) (-x.bR.Lo))),⟨I,D.np I I hx U U ⟨⟨I,I⟩,I,I⟩⟩⟩ _ _ _ U os (cz 8<|bO U B1<|cQ.nil _) (aV [1,2,3,4,5,6,7]))
 refine bo<|ae<|ae<|aw<|KK BH<|aj fun _ BP=>WS fun _ BQ=>rP 1 [] mn ?_
 refine jV (kV:=iV) (m:=cG (fun s=>vA (al.cells s)) ml) 5 U U tz U ⟨U,fun h=>h⟩ (by exact nm 5 U) U fun CQ=>?_
 try dsimp only
 refine RK BQ<|au ?_
 have A:(∀ e∈ml,e∈ml)∧(Wd (ts.length+1) ts.length false ts M3):=by exact ⟨fun _ h=>h,by have e:t=ts.length:=I; subst e; exact D⟩
 refine bx (ι:={z:(List (Int×al))×(List Int) // (∀ e∈z.1,e∈ml)∧(Wd (ts.length+1) ts.length false ts z.2)}) [1,4,6,7,8,9,10,83] [1,2,3,4,5,6] U U (fun z=>[]) (fun z=>[(nC iV CQ gm (cG (fun s=>vA (al.cells s)) ml) (cG (fun s=>vA (al.cells s)) z.1.1) none),(own (some ⟨K,0,none⟩) ((List.replicate 169 (0:Int)).length) 101 1 (z.1.2.map iC))]) (fun _=>rfl) (fun _=>rfl) (fun z=>z.1.1.length) ⟨(ml,M3),A⟩ (cQ.nil _) (aV [1,2,3,4,5,6,0,7]) ?_
 clear A
 rintro ⟨⟨left,M4⟩,⟨F,B⟩⟩ J59 d
 try dsimp only at F B
 try dsimp only
 refine WS fun _ v=>iW (jM k_).inj (f:=(fun s=>vA (al.cells s))) 6 U U U U (fun B6=>?_) (fun q z hm CN=>?_)
 rotate_left 1
 ·try dsimp only
  refine rP 1 [] mn ?_
  refine RK v<|aj fun _ Ac=>aK U<|WK Ac<|au<|WS fun _ Ad=>rS (SX (jh 6 U U U) U U) ?_
  have Ao:=hmm _ (F _ hm)
  simp only [cj,ay] at Ao
  refine aP 1 U<|AL U qj fun CU=>eg U qa U<|RK Ad<|WS fun _ Ae=>e7 2 [] (mc 0 U mn) U<|rS (SX (ek (m:=z.Kind) U U rA k_ (cR (by first|assumption|omega))) U U)<|rP 2 [] mn ?_
  refine RK Ae<|bp U (aM fun V=>?_) (aL fun V=>?_)
  ·refine bW<|az<|iS 7 U ij U ?_
   refine aR (d ⟨((e6 left q),M4),⟨il F,by first|exact B|exact (B.less I I I I I I U).less I I I I I I U⟩⟩ _ _ _ U (iD hm) (aB U) (aV [1,2,3,4,5,6,7,8]))
  refine aj fun _ Af=>cy ck 17 kr<|kc 8 [] (mc 0 U mn) U<|dS (SX (cr (k:=(z.aQ).toNat) U U U da I I) U U)<|dS (SX (cq (k:=(z.To).toNat) (m':=((((z.aQ).toNat)*13+((z.To).toNat))*1)) U U U eQ I I I) U U)<|dS (fX (((z.aQ).toNat)*13+((z.To).toNat)) 0 (vI (mt M4 ((z.aQ).toNat) ((z.To).toNat))) U cd (ar (n:=M4.length) 8 U sm) (bU (i:=(z.aQ).toNat) (k:=(z.To).toNat) B.len I I) U dc U)<|kc 3 [] (mc 0 U mn) U<|dS (MN U)<|dS (SX (cr (k:=(z.aQ).toNat) U U U da I I) U U)<|dS (SX (cq (k:=(z.To).toNat) (m':=((((z.aQ).toNat)*13+((z.To).toNat))*1)) U U U eQ I I I) U U)<|b_<|bE (k:=(((z.aQ).toNat)*13+((z.To).toNat))) (o:=0) (vs:=[(vI (min (mt M4 ((z.aQ).toNat) ((z.To).toNat)) z.a_.Hi))]) (es':=(List.map iC (M4.set (((z.aQ).toNat)*13+((z.To).toNat)) (min (mt M4 ((z.aQ).toNat) ((z.To).toNat)) z.a_.Hi)))) (C':=[_,_,_,_,_,_,_,_,(own (some ⟨K,0,none⟩) ((List.replicate 169 (0:Int)).length) 101 1 (List.map iC (M4.set (((z.aQ).toNat)*13+((z.To).toNat)) (min (mt M4 ((z.aQ).toNat) ((z.To).toNat)) z.a_.Hi))))]) 8 U U U nQ U U U U (bU (i:=(z.aQ).toNat) (k:=(z.To).toNat) B.len I I) U dc (by exact (List.map_set (f:=iC) (l:=M4) (i:=(((z.aQ).toNat)*13+((z.To).toNat))) (a:=(min (mt M4 ((z.aQ).toNat) ((z.To).toNat)) z.a_.Hi))).symm) U<|RK Af<|cy ck 18 kr<|kc 8 [] (mc 0 U mn) U<|dS (SX (cr (k:=(z.To).toNat) U U U da I I) U U)<|dS (SX (cq (k:=(z.aQ).toNat) (m':=((((z.To).toNat)*13+((z.aQ).toNat))*1)) U U U eQ I I I) U U)<|dS (fX (((z.To).toNat)*13+((z.aQ).toNat)) 0 (vI (mt (M4.set (((z.aQ).toNat)*13+((z.To).toNat)) (min (mt M4 ((z.aQ).toNat) ((z.To).toNat)) z.a_.Hi)) ((z.To).toNat) ((z.aQ).toNat))) U cd (ar (n:=(M4.set (((z.aQ).toNat)*13+((z.To).toNat)) (min (mt M4 ((z.aQ).toNat) ((z.To).toNat)) z.a_.Hi)).length) 8 U sm) (bU (i:=(z.To).toNat) (k:=(z.aQ).toNat) (gE B.len) I I) U dc U)<|dP 3 [] (mc 0 U mn) ?_
  refine dS (NG U ⟨I,I⟩)<|dS (MN U)<|dS (SX (cr (k:=(z.To).toNat) U U U da I I) U U)<|dS (SX (cq (k:=(z.aQ).toNat) (m':=((((z.To).toNat)*13+((z.aQ).toNat))*1)) U U U eQ I I I) U U)<|b_<|bE (k:=(((z.To).toNat)*13+((z.aQ).toNat))) (o:=0) (vs:=[(vI (min (mt (M4.set (((z.aQ).toNat)*13+((z.To).toNat)) (min (mt M4 ((z.aQ).toNat) ((z.To).toNat)) z.a_.Hi)) ((z.To).toNat) ((z.aQ).toNat)) (-z.a_.Lo)))]) (es':=(List.map iC ((M4.set (((z.aQ).toNat)*13+((z.To).toNat)) (min (mt M4 ((z.aQ).toNat) ((z.To).toNat)) z.a_.Hi)).set (((z.To).toNat)*13+((z.aQ).toNat)) (min (mt (M4.set (((z.aQ).toNat)*13+((z.To).toNat)) (min (mt M4 ((z.aQ).toNat) ((z.To).toNat)) z.a_.Hi)) ((z.To).toNat) ((z.aQ).toNat)) (-z.a_.Lo))))) (C':=[_,_,_,_,_,_,_,_,(own (some ⟨K,0,none⟩) ((List.replicate 169 (0:Int)).length) 101 1 (List.map iC ((M4.set (((z.aQ).toNat)*13+((z.To).toNat)) (min (mt M4 ((z.aQ).toNat) ((z.To).toNat)) z.a_.Hi)).set (((z.To).toNat)*13+((z.aQ).toNat)) (min (mt (M4.set (((z.aQ).toNat)*13+((z.To).toNat)) (min (mt M4 ((z.aQ).toNat) ((z.To).toNat)) z.a_.Hi)) ((z.To).toNat) ((z.aQ).toNat)) (-z.a_.Lo)))))]) 8 U U U nQ U U U U (bU (i:=(z.To).toNat) (k:=(z.aQ).toNat) (gE B.len) I I) U dc (by exact (List.map_set (f:=iC) (l:=(M4.set (((z.aQ).toNat)*13+((z.To).toNat)) (min (mt M4 ((z.aQ).toNat) ((z.To).toNat)) z.a_.Hi))) (i:=(((z.To).toNat)*13+((z.aQ).toNat))) (a:=(min (mt (M4.set (((z.aQ).toNat)*13+((z.To).toNat)) (min (mt M4 ((z.aQ).toNat) ((z.To).toNat)) z.a_.Hi)) ((z.To).toNat) ((z.aQ).toNat)) (-z.a_.Lo)))).symm) U<|aD<|az<|iS 7 U ij U ?_
  refine aR (d ⟨((e6 left q),((M4.set (((z.aQ).toNat)*13+((z.To).toNat)) (min (mt M4 ((z.aQ).toNat) ((z.To).toNat)) z.a_.Hi)).set (((z.To).toNat)*13+((z.aQ).toNat)) (min (mt (M4.set (((z.aQ).toNat)*13+((z.To).toNat)) (min (mt M4 ((z.aQ).toNat) ((z.To).toNat)) z.a_.Hi)) ((z.To).toNat) ((z.aQ).toNat)) (-z.a_.Lo)))),⟨il F,by first|exact B|exact (B.less I I I I I I U).less I I I I I I U⟩⟩ _ _ _ U (iD hm) (aB U) (aV [1,2,3,4,5,6,7,8]))
 refine aP 1 U<|RK v<|aj fun _ CV=>bH U<|bo<|ae<|ae<|aw<|KK BP<|aj fun _ BR=>WS fun _ BT=>rP 1 [] mn ?_
 refine eX 7 U U U U (lz K ((List.replicate 169 (0:Int)).length) M4 (ts.length+1) I (by exact B.cl)) U gn U (fun CR Ap=>?_)
 obtain ⟨M9,CP⟩:=CR
 try dsimp only
 refine rP 1 [] mn ?_
 refine RK BT<|bY U (fun At=>?_) (fun At=>?_)
 ·rw [Bool.not_eq_true'] at At
  refine WS fun _ BU=>rS (SX (aY (xs:=[]) (cs:=(ai.cells (ai.mk (cp.mk none 0 0)))) U U (aX qq U)) U U)<|vb U jH U<|rP 1 [] mn ?_
  refine RK BU<|an ?_
  refine LX hQ (false,0,[],none,0) [] [0] (mc 3 U mn) U U U ?_ ?_
  ·first|rfl|(simp only [cond_true]; rw [b.len]; rfl)
  ·exact ⟨fun q=>Bool.noConfusion q,fun _=>⟨U,trivial⟩⟩
 rw [Bool.not_eq_false'] at At
 refine WK BR<|aj fun _ BV=>?_
 have N:=Ap At
 have J:ky (ts.length+1) false ts M9:=ky.of B N.1 N.2
 refine aq<|rP 4 [] (mc 1 U mn) ?_
 refine RK BV<|au ?_
 have A:(0≤ts.length)∧(dR 0 0 ts ts):=by exact ⟨Nat.zero_le _,Bq⟩
 refine bx (ι:={z:Nat×(List aa) // (z.1≤ts.length)∧(dR z.1 0 ts z.2)}) [1,4,6,7,8,9,10,134] [0,1,3,4,5,6,7] U U (fun z=>[(135,(vI (z.1.1:Int)))]) (fun z=>[(own AG Z 42 9 (z.1.2.map aa.cells))]) (fun _=>rfl) (fun _=>rfl) (fun z=>ts.length-z.1.1) ⟨(0,ts),A⟩ (aB U) (aV [0,1,3,4,5,6,7,2]) ?_
 clear A
 rintro ⟨⟨u,U1⟩,⟨R,E⟩⟩ J67 Ax
 try dsimp only at R E
 try dsimp only
 refine WS fun _ BW=>rP 1 [] mn ?_
 refine RK BW<|aj fun _ BX=>bY U (aL fun CD=>?_) (aM fun CD=>?_)
 ·refine WK BX<|aj fun _ BY=>au<|WS fun _ BZ=>rP 2 [] mn ?_
  refine RK BZ ?_
  have B7:U1.length=ts.length:=E.len
  refine fH 7 U (by simp; omega) (fun S G=>?_)
  obtain ⟨x,hx⟩:=bh ts u I
  obtain ⟨y,hy⟩:=bh U1 u I
  have Y:=bC aa.cells hy
  have CM:=(show Cl (ts.length+1) (ts.length+1) M9 from N.1).s6 I (show u<(ts.length+1) by omega) (show u+1<(ts.length+1) by omega)
  have CK:=(show Cl (ts.length+1) (ts.length+1) M9 from N.1).s6 I (show u+1<(ts.length+1) by omega) (show u<(ts.length+1) by omega)
  refine cy ck 24 kr<|eR 1 U<|dS (SX (kS (k:=1) (o':=1) U U U qX U dc U) U U)<|kc 5 [0,1] (mc 0 U (mc 1 U mn)) U<|dS (va u U G gU I I)<|dS (CL (nA AG S (u*9) (by exact G)) (ao) U)<|eR 3 U<|dS (SX (cr (k:=(u+1)) U U U da I I) U U)<|dS (SX (cq (k:=u) (m':=(((u+1)*13+u)*1)) U U U eQ I I I) U U)<|dS (fX ((u+1)*13+u) 0 (vI (mt M9 (u+1) u)) U cd (ar (n:=M9.length) 6 U sm) (bU (i:=(u+1)) (k:=u) J.len I I) U dc U)<|dS (NG U ⟨I,I⟩)<|eR 3 U<|dS (SX (cr (k:=u) U U U da I I) U U)<|dS (SX (cq (k:=(u+1)) (m':=((u*13+(u+1))*1)) U U U eQ I I I) U U)<|dS (fX (u*13+(u+1)) 0 (vI (mt M9 u (u+1))) U cd (ar (n:=M9.length) 6 U sm) (bU (i:=u) (k:=(u+1)) J.len I I) U dc U)<|dS (SX (aY (xs:=[(0,.tmp 153),(1,.tmp 159)]) (cs:=(ab.cells (ab.mk (-(mt M9 (u+1) u)) (mt M9 u (u+1))))) U U (aX gV U)) U U)<|dS (SX (eu U U G) U U)<|b_<|bE (k:=u) (o:=1) (vs:=(ab.cells (ab.mk (-(mt M9 (u+1) u)) (mt M9 u (u+1))))) (es':=(List.map aa.cells (U1.set u (aa.mk y.Id (ab.mk (-(mt M9 (u+1) u)) (mt M9 u (u+1))) y.bT y.ax y.aN y.dD)))) (C':=[_,_,_,_,_,_,_,(own AG Z 42 9 (List.map aa.cells (U1.set u (aa.mk y.Id (ab.mk (-(mt M9 (u+1) u)) (mt M9 u (u+1))) y.bT y.ax y.aN y.dD))))]) 7 U U U fO U U U U Y U dc (by exact (List.map_set (f:=aa.cells) (l:=U1) (i:=u) (a:=(aa.mk y.Id (ab.mk (-(mt M9 (u+1) u)) (mt M9 u (u+1))) y.bT y.ax y.aN y.dD))).symm) U<|aD<|az<|KK BY<|aq<|rP 2 [] mn ?_
  refine aD ?_
  have B2:(vI (((u+1):Nat):Int))=(vI ((u:Int)+1)):=by exact cI I
  refine aR (Ax ⟨((u+1),(U1.set u (aa.mk y.Id (ab.mk (-(mt M9 (u+1) u)) (mt M9 u (u+1))) y.bT y.ax y.aN y.dD))),⟨I,E.sG hx hy ⟨by have:=J.at_ u x hx I; simp only [gL,cond_false] at this; simp only; omega,by have:=J.at_ u x hx I; simp only; omega,by have:=J.at_ u x hx I; simp only [gL,cond_false] at this; simp only; omega⟩⟩⟩ _ _ _ U os (cz 8<|bO U B2<|cQ.nil _) (aV [0,1,2,3,4,5,6,7]))
 refine bo<|ae<|ae<|aw<|az<|KK A5 ?_
 have Ag:dR ts.length 0 ts U1:=by have e:u=ts.length:=I; rw [e] at E; exact E
 refine aq<|aP 1 U<|rS (SX (bu (r:= .int .i64 2) U U U (gP ⟨dc,dc⟩)) U U)<|aP 1 U<|RK Br<|fx fun R74 Bs=>aj fun _ Ba=>WS fun _ Bb=>rP 1 [] mn ?_
 refine rS (SX (bu (r:= .bool true) U U U nz) U U)<|RK Bb<|aK U<|WK Ba<|aj fun _ Bc=>au<|aj fun _ Bd=>uj (C':=[(ct B_ 97 ((cJ.cells (cJ.mk Value.nilFunc))++(cJ.cells (cJ.mk (Value.func (.func 61) [].toArray [].toArray)))++(cJ.cells (cJ.mk (Value.func (.func 62) [].toArray [].toArray))))),(ct b9 24 (ai.cells (ai.mk (cp.mk AG ts.length Z)))),(ct b3 24 (ai.cells (ai.mk (cp.mk none 0 0)))),(rd tsA ts.length 9 (ts.map aa.cells)).ro,(nZ iV gm (cG (fun s=>vA (al.cells s)) ml)).ro,(own AG Z 42 9 (U1.map aa.cells))]) [0,1,2,3,4,7] U U ?_
 have CX:U1.length=ts.length:=Ag.len
 refine aq ?_
 refine lO U pN U (by rw [List.length_replicate]; decide) fun L=>?_
 refine RK Bd<|aj fun _ Be=>WS fun _ Bf=>rP 2 [] mn ?_
 refine RK Bf<|au ?_
 have A:(0≤(ts.length+1))∧(Wd (ts.length+1) 0 true ts (List.replicate 169 (0:Int))):=by exact ⟨Nat.zero_le _,.zero⟩
 refine bx (ι:={z:Nat×(List Int) // (z.1≤(ts.length+1))∧(Wd (ts.length+1) 0 true ts z.2)}) [1,4,6,7,8,9,10,32] [1,2,3,4,5,6] U U (fun z=>[(33,(vI (z.1.1:Int)))]) (fun z=>[(own (some ⟨L,0,none⟩) ((List.replicate 169 (0:Int)).length) 101 1 (z.1.2.map iC))]) (fun _=>rfl) (fun _=>rfl) (fun z=>(ts.length+1)-z.1.1) ⟨(0,(List.replicate 169 (0:Int))),A⟩ (aB U) (aV [1,2,3,4,5,6,0]) ?_
 clear A
 rintro ⟨⟨i,M⟩,⟨T,H⟩⟩ J82 Ay
 try dsimp only at T H
 try dsimp only
 refine WS fun _ Bg=>rP 1 [] mn ?_
 refine RK Bg<|aj fun _ Bh=>bY U (aL fun CE=>?_) (aM fun CE=>?_)
 ·refine WK Bh<|aj fun _ Bi=>au<|WS fun _ Bj=>aP 2 U<|RK Bj<|WS fun _ Bk=>rP 2 [] mn ?_
  refine RK Bk<|au ?_
  have A:(0≤(ts.length+1))∧(Wd (ts.length+1) 0 true ts M):=by exact ⟨Nat.zero_le _,H⟩
  refine bx (ι:={z:Nat×(List Int) // (z.1≤(ts.length+1))∧(Wd (ts.length+1) 0 true ts z.2)}) [1,4,6,7,8,9,10,11,32,33,36] [0,1,2,3,4,5] U U (fun z=>[(37,(vI (z.1.1:Int)))]) (fun z=>[(own (some ⟨L,0,none⟩) ((List.replicate 169 (0:Int)).length) 101 1 (z.1.2.map iC))]) (fun _=>rfl) (fun _=>rfl) (fun z=>(ts.length+1)-z.1.1) ⟨(0,M),A⟩ (aB U) (aV [0,1,2,3,4,5,6]) ?_
  clear A
  rintro ⟨⟨j,M2⟩,⟨O,C⟩⟩ J89 g
  try dsimp only at O C
  try dsimp only
  refine WS fun _ Bl=>rP 1 [] mn ?_
  refine RK Bl<|aj fun _ Bm=>bp U (aM fun V=>?_) (aL fun V=>?_)
  ·refine bo<|ae<|ae<|aw<|az<|KK Bi<|aq<|rP 2 [] mn ?_
   refine aD ?_
   have B5:(vI (((i+1):Nat):Int))=(vI ((i:Int)+1)):=by exact cI I
   refine aR (Ay ⟨((i+1),M2),⟨I,C⟩⟩ _ _ _ U os (cz 8<|bO U B5<|cQ.nil _) (aV [0,1,2,3,4,5,6]))
  refine WK Bm<|aj fun _ w=>au<|WS fun _ Bn=>aP 2 U<|RK Bn<|WS fun _ Bo=>rP 3 [] mn ?_
  refine RK Bo<|bp U (aI fun AB=>?_) (aJ fun AB=>?_)
  ·refine bW<|az<|KK w<|aq<|rP 2 [] mn ?_
   refine aD ?_
   have B4:(vI (((j+1):Nat):Int))=(vI ((j:Int)+1)):=by exact cI I
   refine aR (g ⟨((j+1),M2),⟨I,by first|exact C.fill I I I I dc|exact C⟩⟩ _ _ _ U os (cz 11<|bO U B4<|cQ.nil _) (aV [0,1,2,3,4,5,6]))
  refine aq<|aP 2 U<|rS (SX (cr (k:=i) U U U da I I) U U)<|rS (SX (cq (k:=j) (m':=((i*13+j)*1)) U U U eQ I I I) U U)<|bE (k:=(i*13+j)) (o:=0) (vs:=[(vI 1073741824)]) (es':=(List.map iC (M2.set (i*13+j) 1073741824))) (C':=[_,_,_,_,_,_,(own (some ⟨L,0,none⟩) ((List.replicate 169 (0:Int)).length) 101 1 (List.map iC (M2.set (i*13+j) 1073741824)))]) 6 U U U nQ U U U U (bU (i:=i) (k:=j) C.len I I) U dc (by exact (List.map_set (f:=iC) (l:=M2) (i:=(i*13+j)) (a:=1073741824)).symm) U<|aD<|az<|KK w<|aq<|rP 2 [] mn ?_
  refine aD ?_
  have B3:(vI (((j+1):Nat):Int))=(vI ((j:Int)+1)):=by exact cI I
  refine aR (g ⟨((j+1),(M2.set (i*13+j) 1073741824)),⟨I,by first|exact C.fill I I I I dc|exact C⟩⟩ _ _ _ U os (cz 11<|bO U B3<|cQ.nil _) (aV [0,1,2,3,4,5,6]))
 refine bo<|ae<|ae<|aw<|KK Be<|aj fun _ Bp=>WS fun _ AE=>rP 4 [] (mc 1 U mn) ?_
 refine RK AE<|au ?_
 have A:(0≤U1.length)∧(Wd (ts.length+1) 0 true ts M):=by exact ⟨Nat.zero_le _,H⟩
 refine bx (ι:={z:Nat×(List Int) // (z.1≤U1.length)∧(Wd (ts.length+1) z.1 true ts z.2)}) [1,4,6,7,8,9,10,51] [0,1,2,3,4,5] U U (fun z=>[(52,(vI (z.1.1:Int)))]) (fun z=>[(own (some ⟨L,0,none⟩) ((List.replicate 169 (0:Int)).length) 101 1 (z.1.2.map iC))]) (fun _=>rfl) (fun _=>rfl) (fun z=>U1.length-z.1.1) ⟨(0,M),A⟩ (aB U) (aV [0,1,2,3,4,5,6]) ?_
 clear A
 rintro ⟨⟨t,M3⟩,⟨P,D⟩⟩ J101 AC
 try dsimp only at P D
 try dsimp only
 refine WS fun _ AF=>rP 1 [] mn ?_
 refine RK AF<|aj fun _ AH=>bY U (aL fun As=>?_) (aM fun As=>?_)
 ·refine WK AH<|aj fun _ AI=>au<|WS fun _ AJ=>rP 2 [] mn ?_
  refine RK AJ<|aj fun _ AK=>?_
  refine fH 5 U (by simp; omega) (fun S G=>?_)
  obtain ⟨x,hx⟩:=bh ts t I
  have Aq:=hst x (aA hx)
  simp only [ak,ay] at Aq
  obtain ⟨y,hy⟩:=bh U1 t I
  have Y:=bC aa.cells hy
  have Ar:y.bT=x.bT:=by have:=(Ag.at_ t x y hx hy).2.2; rw [if_neg (Nat.not_lt_zero _)] at this; exact this
  have Cc:(0≤y.bT.Lo∧y.bT.Lo≤5000)∧0≤y.bT.Hi∧y.bT.Hi≤5000:=by rw [Ar]; omega
  refine ep ck [11,12] [] [] [0,1,2,3,4,5,6] [] U U U U U<|eS U (MV U)<|eS U (SX (kS (k:=2) (o':=2) U U U qX U dc U) U U)<|eS U (FA 2 U iY U)<|eS U (L1 (Value.func (.func 62) [].toArray [].toArray) 0 U cd U U)<|eS U (FA 0 U iY U)<|eS U (L1 (vS AG ts.length Z) 1 U cd U U)<|eS U (MV U)<|eS U (va t U G gU I I)<|eS U (CL (nq AG S (t*9) (by exact G)) (ao) U)<|eS U (SX (eu U U G) U U)<|eS U (nw t 3 (ab.cells y.bT) U cd (ar (n:=U1.length) 5 U sm) Y U dc U U)<|gK U<|cg U fun T108 Ah=>AL U fD fun CS=>aD (Ah _ _ (aV [1,2,3,4,5,6,7]) ?_)
  refine cg U fun T110 Ai=>eg U fO U<|aD (Ai _ _ (aV [1,2,3,4,5,6,7]) ?_)
  refine hG U<|KK AK<|ep ck [13,15,16] [12] [] [0,1,2,3,4,5,6] [0,1,2,3,4,5,6,7] U U U U U<|eS U (MV U)<|eS U (MV U)<|eS U (BI U (gP ⟨I,I⟩))<|eS U (MV U)<|eS U (BI U (gP ⟨I,I⟩))<|eS U (MV U)<|eS U (FA 1 U iY U)<|eS U (L1 (vI y.bT.Hi) 0 U cd U U)<|eS U (FA 0 U iY U)<|eS U (L1 (vI y.bT.Lo) 0 U cd U U)<|eS U (NG U ⟨I,I⟩)<|eS U (SX (cr (k:=t) U U U da I I) U U)<|fS U (SX (cq (k:=(t+1)) (m':=((t*13+(t+1))*1)) U U U eQ I I I) U U)<|eS U (SX (cr (k:=(t+1)) U U U da I I) U U)<|gK U<|cg U fun T111 Aj=>bE (k:=(t*13+(t+1))) (o:=0) (vs:=[(vI y.bT.Hi)]) (es':=(List.map iC (M3.set (t*13+(t+1)) y.bT.Hi))) (C':=[_,_,_,_,_,_,_,(own (some ⟨L,0,none⟩) ((List.replicate 169 (0:Int)).length) 101 1 (List.map iC (M3.set (t*13+(t+1)) y.bT.Hi)))]) 7 U U U nQ U U U U (bU (i:=t) (k:=(t+1)) D.len I I) U dc (by exact (List.map_set (f:=iC) (l:=M3) (i:=(t*13+(t+1))) (a:=y.bT.Hi)).symm) U<|aD (Aj _ _ (aV [0,1,2,3,4,5,6]) ?_)
  refine cg U fun T112 Ak=>rS (SX (cq (k:=t) (m':=(((t+1)*13+t)*1)) U U U eQ I I I) U U)<|aD (Ak _ _ (aV [0,1,2,3,4,5,6]) ?_)
  refine cg U fun T113 Al=>bE (k:=((t+1)*13+t)) (o:=0) (vs:=[(vI (-y.bT.Lo))]) (es':=(List.map iC ((M3.set (t*13+(t+1)) y.bT.Hi).set ((t+1)*13+t) (-y.bT.Lo)))) (C':=[_,_,_,_,_,_,_,(own (some ⟨L,0,none⟩) ((List.replicate 169 (0:Int)).length) 101 1 (List.map iC ((M3.set (t*13+(t+1)) y.bT.Hi).set ((t+1)*13+t) (-y.bT.Lo))))]) 7 U U U nQ U U U U (bU (i:=(t+1)) (k:=t) (gE D.len) I I) U dc (by exact (List.map_set (f:=iC) (l:=(M3.set (t*13+(t+1)) y.bT.Hi)) (i:=((t+1)*13+t)) (a:=(-y.bT.Lo))).symm) U<|aD (Al _ _ (aV [0,1,2,3,4,5,6]) ?_)
  refine hG U<|az<|KK AI<|aq<|rP 2 [] mn ?_
  refine aD ?_
  have Am:(vI (((t+1):Nat):Int))=(vI ((t:Int)+1)):=by exact cI I
  refine aR (AC ⟨((t+1),((M3.set (t*13+(t+1)) y.bT.Hi).set ((t+1)*13+t) (-y.bT.Lo))),⟨I,D.np I I hx (by show _=x.bT.Hi; rw [Ar]) (by show _= -x.bT.Lo; rw [Ar]) ⟨⟨I,I⟩,I,I⟩⟩⟩ _ _ _ U os (cz 8<|bO U Am<|cQ.nil _) (aV [1,2,3,4,5,6,7]))
 refine bo<|ae<|ae<|aw<|KK Bp<|aj fun _ AM=>WS fun _ AN=>rP 1 [] mn ?_
 refine jV (kV:=iV) (m:=cG (fun s=>vA (al.cells s)) ml) 4 U U tz U ⟨U,fun h=>h⟩ (by exact nm 4 U) U fun B8=>?_
 try dsimp only
 refine RK AN<|au ?_
 have A:(∀ e∈ml,e∈ml)∧(Wd (ts.length+1) ts.length true ts M3):=by exact ⟨fun _ h=>h,by have e:t=ts.length:=I; subst e; exact D⟩
 refine bx (ι:={z:(List (Int×al))×(List Int) // (∀ e∈z.1,e∈ml)∧(Wd (ts.length+1) ts.length true ts z.2)}) [1,4,6,7,8,9,10,83] [1,2,3,4,5,6] U U (fun z=>[]) (fun z=>[(nC iV B8 gm (cG (fun s=>vA (al.cells s)) ml) (cG (fun s=>vA (al.cells s)) z.1.1) none),(own (some ⟨L,0,none⟩) ((List.replicate 169 (0:Int)).length) 101 1 (z.1.2.map iC))]) (fun _=>rfl) (fun _=>rfl) (fun z=>z.1.1.length) ⟨(ml,M3),A⟩ (cQ.nil _) (aV [1,2,3,4,5,6,0,7]) ?_
 clear A
 rintro ⟨⟨left,M4⟩,⟨F,B⟩⟩ J118 W
 try dsimp only at F B
 try dsimp only
 refine WS fun _ X=>iW (jM k_).inj (f:=(fun s=>vA (al.cells s))) 6 U U U U (fun B6=>?_) (fun q z hm CN=>?_)
 rotate_left 1
 ·try dsimp only
  refine rP 1 [] mn ?_
  refine RK X<|aj fun _ AY=>aK U<|WK AY<|au<|WS fun _ AZ=>rS (SX (jh 6 U U U) U U) ?_
  have Ao:=hmm _ (F _ hm)
  simp only [cj,ay] at Ao
  refine aP 1 U<|AL U qj fun CT=>eg U qa U<|RK AZ<|WS fun _ Aa=>e7 2 [] (mc 0 U mn) U<|rS (SX (ek (m:=z.Kind) U U rA k_ (cR (by first|assumption|omega))) U U)<|rP 2 [] mn ?_
  refine RK Aa<|bp U (aM fun V=>?_) (aL fun V=>?_)
  ·refine bW<|az<|iS 7 U ij U ?_
   refine aR (W ⟨((e6 left q),M4),⟨il F,by first|exact B|exact (B.less I I I I I I U).less I I I I I I U⟩⟩ _ _ _ U (iD hm) (aB U) (aV [1,2,3,4,5,6,7,8]))
  refine aj fun _ Ab=>cy ck 17 kr<|kc 8 [] (mc 0 U mn) U<|dS (SX (cr (k:=(z.aQ).toNat) U U U da I I) U U)<|dS (SX (cq (k:=(z.To).toNat) (m':=((((z.aQ).toNat)*13+((z.To).toNat))*1)) U U U eQ I I I) U U)<|dS (fX (((z.aQ).toNat)*13+((z.To).toNat)) 0 (vI (mt M4 ((z.aQ).toNat) ((z.To).toNat))) U cd (ar (n:=M4.length) 8 U sm) (bU (i:=(z.aQ).toNat) (k:=(z.To).toNat) B.len I I) U dc U)<|kc 3 [] (mc 0 U mn) U<|dS (MN U)<|dS (SX (cr (k:=(z.aQ).toNat) U U U da I I) U U)<|dS (SX (cq (k:=(z.To).toNat) (m':=((((z.aQ).toNat)*13+((z.To).toNat))*1)) U U U eQ I I I) U U)<|b_<|bE (k:=(((z.aQ).toNat)*13+((z.To).toNat))) (o:=0) (vs:=[(vI (min (mt M4 ((z.aQ).toNat) ((z.To).toNat)) z.a_.Hi))]) (es':=(List.map iC (M4.set (((z.aQ).toNat)*13+((z.To).toNat)) (min (mt M4 ((z.aQ).toNat) ((z.To).toNat)) z.a_.Hi)))) (C':=[_,_,_,_,_,_,_,_,(own (some ⟨L,0,none⟩) ((List.replicate 169 (0:Int)).length) 101 1 (List.map iC (M4.set (((z.aQ).toNat)*13+((z.To).toNat)) (min (mt M4 ((z.aQ).toNat) ((z.To).toNat)) z.a_.Hi))))]) 8 U U U nQ U U U U (bU (i:=(z.aQ).toNat) (k:=(z.To).toNat) B.len I I) U dc (by exact (List.map_set (f:=iC) (l:=M4) (i:=(((z.aQ).toNat)*13+((z.To).toNat))) (a:=(min (mt M4 ((z.aQ).toNat) ((z.To).toNat)) z.a_.Hi))).symm) U<|RK Ab<|cy ck 18 kr<|kc 8 [] (mc 0 U mn) U<|dS (SX (cr (k:=(z.To).toNat) U U U da I I) U U)<|dS (SX (cq (k:=(z.aQ).toNat) (m':=((((z.To).toNat)*13+((z.aQ).toNat))*1)) U U U eQ I I I) U U)<|dS (fX (((z.To).toNat)*13+((z.aQ).toNat)) 0 (vI (mt (M4.set (((z.aQ).toNat)*13+((z.To).toNat)) (min (mt M4 ((z.aQ).toNat) ((z.To).toNat)) z.a_.Hi)) ((z.To).toNat) ((z.aQ).toNat))) U cd (ar (n:=(M4.set (((z.aQ).toNat)*13+((z.To).toNat)) (min (mt M4 ((z.aQ).toNat) ((z.To).toNat)) z.a_.Hi)).length) 8 U sm) (bU (i:=(z.To).toNat) (k:=(z.aQ).toNat) (gE B.len) I I) U dc U)<|dP 3 [] (mc 0 U mn) ?_
  refine dS (NG U ⟨I,I⟩)<|dS (MN U)<|dS (SX (cr (k:=(z.To).toNat) U U U da I I) U U)<|dS (SX (cq (k:=(z.aQ).toNat) (m':=((((z.To).toNat)*13+((z.aQ).toNat))*1)) U U U eQ I I I) U U)<|b_<|bE (k:=(((z.To).toNat)*13+((z.aQ).toNat))) (o:=0) (vs:=[(vI (min (mt (M4.set (((z.aQ).toNat)*13+((z.To).toNat)) (min (mt M4 ((z.aQ).toNat) ((z.To).toNat)) z.a_.Hi)) ((z.To).toNat) ((z.aQ).toNat)) (-z.a_.Lo)))]) (es':=(List.map iC ((M4.set (((z.aQ).toNat)*13+((z.To).toNat)) (min (mt M4 ((z.aQ).toNat) ((z.To).toNat)) z.a_.Hi)).set (((z.To).toNat)*13+((z.aQ).toNat)) (min (mt (M4.set (((z.aQ).toNat)*13+((z.To).toNat)) (min (mt M4 ((z.aQ).toNat) ((z.To).toNat)) z.a_.Hi)) ((z.To).toNat) ((z.aQ).toNat)) (-z.a_.Lo))))) (C':=[_,_,_,_,_,_,_,_,(own (some ⟨L,0,none⟩) ((List.replicate 169 (0:Int)).length) 101 1 (List.map iC ((M4.set (((z.aQ).toNat)*13+((z.To).toNat)) (min (mt M4 ((z.aQ).toNat) ((z.To).toNat)) z.a_.Hi)).set (((z.To).toNat)*13+((z.aQ).toNat)) (min (mt (M4.set (((z.aQ).toNat)*13+((z.To).toNat)) (min (mt M4 ((z.aQ).toNat) ((z.To).toNat)) z.a_.Hi)) ((z.To).toNat) ((z.aQ).toNat)) (-z.a_.Lo)))))]) 8 U U U nQ U U U U (bU (i:=(z.To).toNat) (k:=(z.aQ).toNat) (gE B.len) I I) U dc (by exact (List.map_set (f:=iC) (l:=(M4.set (((z.aQ).toNat)*13+((z.To).toNat)) (min (mt M4 ((z.aQ).toNat) ((z.To).toNat)) z.a_.Hi))) (i:=(((z.To).toNat)*13+((z.aQ).toNat))) (a:=(min (mt (M4.set (((z.aQ).toNat)*13+((z.To).toNat)) (min (mt M4 ((z.aQ).toNat) ((z.To).toNat)) z.a_.Hi)) ((z.To).toNat) ((z.aQ).toNat)) (-z.a_.Lo)))).symm) U<|aD<|az<|iS 7 U ij U ?_
  refine aR (W ⟨((e6 left q),((M4.set (((z.aQ).toNat)*13+((z.To).toNat)) (min (mt M4 ((z.aQ).toNat) ((z.To).toNat)) z.a_.Hi)).set (((z.To).toNat)*13+((z.aQ).toNat)) (min (mt (M4.set (((z.aQ).toNat)*13+((z.To).toNat)) (min (mt M4 ((z.aQ).toNat) ((z.To).toNat)) z.a_.Hi)) ((z.To).toNat) ((z.aQ).toNat)) (-z.a_.Lo)))),⟨il F,by first|exact B|exact (B.less I I I I I I U).less I I I I I I U⟩⟩ _ _ _ U (iD hm) (aB U) (aV [1,2,3,4,5,6,7,8]))
 refine aP 1 U<|RK X<|aj fun _ CG=>bH U<|bo<|ae<|ae<|aw<|KK AM<|aj fun _ AO=>WS fun _ AP=>rP 1 [] mn ?_
 refine eX 7 U U U U (lz L ((List.replicate 169 (0:Int)).length) M4 (ts.length+1) I (by exact B.cl)) U gn U (fun B9 Ap=>?_)
 obtain ⟨M9,CP⟩:=B9
 try dsimp only
 refine rP 1 [] mn ?_
 refine RK AP<|bY U (fun At=>?_) (fun At=>?_)
 ·rw [Bool.not_eq_true'] at At
  refine WS fun _ AQ=>rS (SX (aY (xs:=[]) (cs:=(ai.cells (ai.mk (cp.mk none 0 0)))) U U (aX qq U)) U U)<|vc U jH U<|rP 1 [] mn ?_
  refine RK AQ<|an ?_
  refine LX hQ (false,0,[],none,0) [] [0] (mc 2 U mn) U U U ?_ ?_
  ·first|rfl|(simp only [cond_true]; rw [b.len]; rfl)
  ·exact ⟨fun q=>Bool.noConfusion q,fun _=>⟨U,trivial⟩⟩
 rw [Bool.not_eq_false'] at At
 refine WK AO<|aj fun _ AR=>?_
 have N:=Ap At
 have J:ky (ts.length+1) true ts M9:=ky.of B N.1 N.2
 refine aq<|rP 4 [] (mc 1 U mn) ?_
 refine RK AR<|au ?_
 have A:(0≤ts.length)∧(dR ts.length 0 ts U1):=by exact ⟨Nat.zero_le _,Ag⟩
 refine bx (ι:={z:Nat×(List aa) // (z.1≤ts.length)∧(dR ts.length z.1 ts z.2)}) [1,4,6,7,8,9,10,134] [0,1,2,3,4,6,7] U U (fun z=>[(135,(vI (z.1.1:Int)))]) (fun z=>[(own AG Z 42 9 (z.1.2.map aa.cells))]) (fun _=>rfl) (fun _=>rfl) (fun z=>ts.length-z.1.1) ⟨(0,U1),A⟩ (aB U) (aV [0,1,2,3,4,6,7,5]) ?_
 clear A
 rintro ⟨⟨u,U2⟩,⟨R,E⟩⟩ J126 AD
 try dsimp only at R E
 try dsimp only
 refine WS fun _ AS=>rP 1 [] mn ?_
 refine RK AS<|aj fun _ AT=>bp U (aM fun Au=>?_) (aL fun Au=>?_)
 ·refine bo<|ae<|ae<|aw<|az<|KK Bc ?_
  have b:dR ts.length ts.length ts U2:=by have e:u=ts.length:=I; rw [e] at E; exact E
  refine aq<|aP 1 U<|rS (SX (bu (r:= .int .i64 3) U U U (gP ⟨dc,dc⟩)) U U)<|aP 1 U<|RK Bs<|fx fun R133 CJ=>aj fun _ CH=>WS fun _ AW=>aP 1 U<|rS (SX (bu (r:= .bool false) U U U nz) U U)<|RK AW<|bH U<|bo<|ae<|ae<|aw<|KK A1<|WS fun _ AX=>e7 1 [] (mc 1 U mn) U<|vc U jH U<|rP 1 [] mn ?_
  refine RK AX<|an ?_
  refine LX hQ (true,0,U2,AG,Z) [7] [0] (mc 2 U mn) U U U ?_ ?_
  ·first|rfl|(simp only [cond_true]; rw [b.len]; rfl)
  ·exact ⟨fun _=>b,fun q=>Bool.noConfusion q⟩
 refine WK AT<|aj fun _ AU=>au<|WS fun _ AV=>rP 2 [] mn ?_
 refine RK AV ?_
 have B7:U2.length=ts.length:=E.len
 refine fH 7 U (by simp; omega) (fun S G=>?_)
 obtain ⟨x,hx⟩:=bh ts u I
 obtain ⟨y,hy⟩:=bh U2 u I
 have Y:=bC aa.cells hy
 have CM:=(show Cl (ts.length+1) (ts.length+1) M9 from N.1).s6 I (show u<(ts.length+1) by omega) (show u+1<(ts.length+1) by omega)
 have CK:=(show Cl (ts.length+1) (ts.length+1) M9 from N.1).s6 I (show u+1<(ts.length+1) by omega) (show u<(ts.length+1) by omega)
 refine cy ck 24 kr<|eR 1 U<|dS (SX (kS (k:=2) (o':=2) U U U qX U dc U) U U)<|kc 5 [0,1] (mc 0 U (mc 1 U mn)) U<|dS (va u U G gU I I)<|dS (CL (nq AG S (u*9) (by exact G)) (ao) U)<|eR 3 U<|dS (SX (cr (k:=(u+1)) U U U da I I) U U)<|dS (SX (cq (k:=u) (m':=(((u+1)*13+u)*1)) U U U eQ I I I) U U)<|dS (fX ((u+1)*13+u) 0 (vI (mt M9 (u+1) u)) U cd (ar (n:=M9.length) 6 U sm) (bU (i:=(u+1)) (k:=u) J.len I I) U dc U)<|dS (NG U ⟨I,I⟩)<|eR 3 U<|dS (SX (cr (k:=u) U U U da I I) U U)<|dS (SX (cq (k:=(u+1)) (m':=((u*13+(u+1))*1)) U U U eQ I I I) U U)<|dS (fX (u*13+(u+1)) 0 (vI (mt M9 u (u+1))) U cd (ar (n:=M9.length) 6 U sm) (bU (i:=u) (k:=(u+1)) J.len I I) U dc U)<|dS (SX (aY (xs:=[(0,.tmp 153),(1,.tmp 159)]) (cs:=(ab.cells (ab.mk (-(mt M9 (u+1) u)) (mt M9 u (u+1))))) U U (aX gV U)) U U)<|dS (SX (eu U U G) U U)<|b_<|bE (k:=u) (o:=3) (vs:=(ab.cells (ab.mk (-(mt M9 (u+1) u)) (mt M9 u (u+1))))) (es':=(List.map aa.cells (U2.set u (aa.mk y.Id y.bR (ab.mk (-(mt M9 (u+1) u)) (mt M9 u (u+1))) y.ax y.aN y.dD)))) (C':=[_,_,_,_,_,_,_,(own AG Z 42 9 (List.map aa.cells (U2.set u (aa.mk y.Id y.bR (ab.mk (-(mt M9 (u+1) u)) (mt M9 u (u+1))) y.ax y.aN y.dD))))]) 7 U U U fO U U U U Y U dc (by exact (List.map_set (f:=aa.cells) (l:=U2) (i:=u) (a:=(aa.mk y.Id y.bR (ab.mk (-(mt M9 (u+1) u)) (mt M9 u (u+1))) y.ax y.aN y.dD))).symm) U<|aD<|az<|KK AU<|aq<|rP 2 [] mn ?_
 refine aD ?_
 have An:(vI (((u+1):Nat):Int))=(vI ((u:Int)+1)):=by exact cI I
 refine aR (AD ⟨((u+1),(U2.set u (aa.mk y.Id y.bR (ab.mk (-(mt M9 (u+1) u)) (mt M9 u (u+1))) y.ax y.aN y.dD))),⟨I,E.tm hx hy ⟨by have:=J.at_ u x hx I; simp only [gL,cond_true] at this; simp only; omega,by have:=J.at_ u x hx I; simp only; omega,by have:=J.at_ u x hx I; simp only [gL,cond_true] at this; simp only; omega⟩⟩⟩ _ _ _ U os (cz 8<|bO U An<|cQ.nil _) (aV [0,1,2,3,4,5,6,7]))
end
section
open Go.RowKit
theorem p_ (ts:List aa) (tsA:OA) (tsC:Nat) (l:List al) (lA:OA) (lC:Nat) (htr:aG ts=true) (hside: ∀ x∈ts,0≤x.aN∧x.aN≤255) (hmo:dq l ts.length):
 kI Try.prog 7 [(vA (ai.cells (ai.mk (cp.mk tsA ts.length tsC)))),(vS lA l.length lC)] [(rd tsA ts.length 9 (ts.map aa.cells)),(rd lA l.length 5 (l.map al.cells))] (fun (x:Bool×Int×(List aa)×(OA)×Nat)=>bif x.1 then (vT [(vA (ai.cells (ai.mk (cp.mk x.2.2.2.1 x.2.2.1.length x.2.2.2.2)))),(vI 0)]) else (vT [(vA (ai.cells (ai.mk (cp.mk none 0 0)))),(vI x.2.1)])) (fun (x:Bool×Int×(List aa)×(OA)×Nat)=>(x.1=true→dR ts.length ts.length ts x.2.2.1)∧(x.1=false→(x.2.1=8∧True))) (fun (x:Bool×Int×(List aa)×(OA)×Nat)=>bif x.1 then [(own x.2.2.2.1 x.2.2.2.2 42 9 (x.2.2.1.map aa.cells))] else []):=by
 have K:=cK htr
 have V:=dy htr
 have W:=cv htr
 have f:=hmo.1
 refine dM kr Try.func7 U U fun k Q hQ hN=>?_
 try dsimp only
 refine WS fun _ T=>dp U fun h=>AL U lU fun i=>aP 1 U<|RK T<|WS fun _ AB=>rP 2 [] (mc 1 U mn) ?_
 refine cX (mB ts tsA tsC l lA lC htr hside (by exact hmo)) (aU [2,3]) U fun g X=>?_
 obtain ⟨S,Y⟩:=g
 try dsimp only
 have L:=X
 refine aP 4 U<|AL U qD fun j=>eg U rq U<|aP 2 U<|RK AB<|aj fun _ C=>WS fun _ D=>aP 1 U<|rS (SX (bu (r:= .bool false) U U U fT) U U)<|RK D<|bH U<|WK C<|WS fun _ A=>rP 2 [] (mc 0 U mn) ?_
 refine cX (sS ts tsA tsC S Y (by exact W) (by exact K) (by exact V) (by exact fun e he=>hmo.2 _ (L e he))) (aU [4,1]) U fun Z B=>?_
 obtain ⟨N,a,O,P,R⟩:=Z
 cases N
 rotate_left 1
 ·obtain M:=B.1 rfl
  try dsimp only [cond_true,cond_false,List.cons_append,List.nil_append]
  refine aP 3 U<|AL U lU fun d=>eg U jH U<|aP 1 U<|RK A<|aj fun _ G=>WS fun _ H=>aP 2 U<|RK H<|bH U<|WK G<|WS fun _ AC=>e7 1 [] (mc 0 U mn) U<|wc U jH U<|rP 1 [] mn ?_
  refine RK AC<|an<|LX hQ (true,0,O,P,R) [1] [0] (mc 4 U mn) U U U U ?_
  exact ⟨fun _=>M,fun q=>Bool.noConfusion q⟩
 obtain ⟨J,he⟩:=B.2 rfl
 try dsimp only at J he
 subst J
 try dsimp only [cond_true,cond_false,List.cons_append,List.nil_append]
 refine aP 3 U<|AL U lU fun c=>eg U jH U<|aP 1 U<|RK A<|aj fun _ b=>WS fun _ E=>aP 2 U<|RK E<|aK U<|WS fun _ F=>rS (SX (aY (xs:=[]) (cs:=(ai.cells (ai.mk (cp.mk none 0 0)))) U U (aX qq U)) U U)<|vb U jH U<|rP 1 [] mn ?_
 refine RK F<|an<|LX hQ (false,8,[],none,0) [] [0] (mc 3 U mn) U U U U ?_
 exact ⟨fun q=>Bool.noConfusion q,fun _=>⟨U,trivial⟩⟩
end
section
open Go.RowKit
theorem ke (ts:List aa) (tsA:OA) (tsC:Nat) (l:List al) (lA:OA) (lC:Nat) (s:ah) (hside: ∀ x∈ts,0≤x.aN∧x.aN≤255) (hc:0≤s.Class∧s.Class≤255) (hk: ∀ m∈l,0≤m.Kind∧m.Kind≤255):
 cn Try.prog 3 [(vA (ai.cells (ai.mk (cp.mk tsA ts.length tsC)))),(vS lA l.length lC),(vA (ah.cells s))] [(rd tsA ts.length 9 (ts.map aa.cells)),(rd lA l.length 5 (l.map al.cells))] (vB true):=by
 refine aS kr Try.func3 U U fun w0 Q hQ hN=>?_
 try dsimp only
 refine WS fun _ Ae=>dp U fun b2=>dp U fun b3=>aP 1 U<|RK Ae<|WS fun _ Af=>rS (CL qW (ao) U)<|aP 1 U<|RK Af<|aj fun _ Ag=>WS fun _ P=>e7 2 [0,1] (mc 1 U (mc 0 U mn)) U<|rS (CL (rl ts tsA tsC s hc) (aU [2]) U)<|rP 2 [] mn ?_
 refine cb (t:=30) U (aJ fun AP=>?_) (aI fun AP=>?_)
 ·refine aP 2 U<|aP 7 U<|RK P<|aK U<|WS fun _ Ah=>rP 2 [] mn ?_
  refine RK Ah<|an<|Q1 hQ U U U ?_
  first|rfl|(simp; done)
 refine rP 2 [] (mc 1 U mn) ?_
 obtain ⟨BB,D,hs⟩:=AP
 have F:=cf D hs
 have E:=cv D
 have As:=cK D
 refine rS (CL (mC ts tsA tsC l lA lC sd (by exact hk)) (aU [2,3]) U) ?_
 refine rP 3 [] mn ?_
 refine cb (t:=36) U (aJ fun AM=>?_) (aI fun AM=>?_)
 ·refine aP 3 U<|RK P<|aK U<|WS fun _ Ai=>rP 2 [] mn ?_
  refine RK Ai<|an<|Q1 hQ U U U ?_
  first|rfl|(simp; done)
 refine aP 3 U<|RK P<|bH U<|WK Ag<|WS fun _ AD=>rP 2 [] (mc 1 U mn) ?_
 refine cX (p_ ts tsA tsC l lA lC (by exact D) hside (by exact AM)) (aU [2,3]) U fun An M=>?_
 obtain ⟨AT,Aq,AU,N,O⟩:=An
 cases AT
 ·obtain ⟨AK,he⟩:=M.2 rfl
  try dsimp only at AK he
  subst AK
  try dsimp only [cond_true,cond_false,List.cons_append,List.nil_append]
  refine aP 3 U<|AL U lU fun Az=>eg U jH U<|aP 1 U<|RK AD<|aj fun _ Ar=>WS fun _ S=>aP 1 U<|rS (SX (bu (r:= .bool true) U U U fT) U U)<|RK S<|aK U<|WS fun _ T=>aP 3 U<|rS (SX (bu (r:= .bool true) U U U dB) U U)<|rP 2 [] mn ?_
  refine RK T<|an<|Q1 hQ U U U ?_
  first|rfl|(simp; done)
 obtain A:=M.1 rfl
 try dsimp only [cond_true,cond_false,List.cons_append,List.nil_append]
 try dsimp only at A
 obtain ⟨us,Al⟩: ∃ us,us=AU:=⟨_,rfl⟩
 subst Al
 refine aP 3 U<|AL U lU fun A0=>eg U jH U<|aP 1 U<|RK AD<|aj fun _ AG=>WS fun _ V=>rP 1 [] mn ?_
 refine rS (SX (bu (r:= .bool false) U U U fT) U U)<|RK V<|bH U<|WK AG<|WS fun _ W=>?_
 have AQ:=A.qk E D
 have G:=cf AQ hs
 have Au:=A.ok E
 have Ak:=A.len
 have BE:=A.side hside
 refine rP 2 [0,1] (mc 3 U (mc 2 U mn)) ?_
 refine cX (jo ts tsA tsC s sd hside) (aU [4]) U fun Ao Av=>?_
 obtain ⟨Ax,A4⟩:=Ao
 try dsimp only
 refine rP 1 [] mn ?_
 rw [fm D hs]
 rw [F]
 refine aP 4 U<|RK W<|WS fun _ X=>rP 2 [0,1] (mc 1 U (mc 3 U mn)) ?_
 refine cX (jo us N O s I (by first|assumption)) (bB (ar (n:=us.length) 2 U sm)<|ao) U fun Ap Aw=>?_
 obtain ⟨Ay,A5⟩:=Ap
 try dsimp only
 refine rP 1 [] mn ?_
 rw [fm AQ hs]
 rw [G]
 refine aP 4 U<|RK X<|WS fun _ Y=>rP 2 [0,1] (mc 5 U (mc 4 U mn)) ?_
 refine rS (CL (mF ts tsA tsC s sd hside) (aU [6]) U) ?_
 refine rP 1 [] mn ?_
 rw [cD F]
 try rw [F]
 refine rP 4 [] mn ?_
 refine RK Y<|aj fun _ Z=>?_
 have e0:=cO (s:=s) (ts:=ts)
 have e1:=cO (s:=s) (ts:=us)
 rw [Ak] at e1
 refine aq<|e7 2 [0,1] (mc 2 U (mc 4 U mn)) U<|rS (CL (mF us N O s I (by first|assumption)) (bB (ar (n:=us.length) 3 U sm)<|ao) U)<|rP 1 [] mn ?_
 rw [cD G]
 try rw [G]
 refine rP 4 [] mn ?_
 refine RK Z ?_
 refine k8 (ι:=Unit) [3,5,7,8,10,12] [0,1,2,3,4,5,6,7] U U (fun z=>[]) (fun z=>[]) (fun _=>rfl) (fun _=>rfl) ?_ fun K36 K=>?_
 ·intro _
  try dsimp only
  refine aj fun _ C=>WS fun _ a=>rP 3 [] mn ?_
  refine RK a<|au ?_
  have B:(0≤ts.length+1):=by exact Nat.zero_le _
  refine bx (ι:={z:Nat // (z≤ts.length+1)}) [3,5,7,8,10,12,109] [0,1,2,3,4,5,6,7] U U (fun z=>[(110,(vI (z.1:Int)))]) (fun z=>[]) (fun _=>rfl) (fun _=>rfl) (fun z=>ts.length+1-z.1) ⟨0,B⟩ (aB U) (aV [0,1,2,3,4,5,6,7]) ?_
  clear B
  rintro ⟨i,AV⟩ J39 R
  try dsimp only
  refine WS fun _ b=>rP 1 [] mn ?_
  refine RK b<|aj fun _ c=>bY U (aL fun AY=>?_) (aM fun AY=>?_)
  ·refine WK c<|aj fun _ d=>au<|WS fun _ e=>aP 2 U<|RK e<|aj fun _ f=>cy ck 24 kr<|dP 2 [] mn ?_
   obtain ⟨y,hy⟩:=bh (bA s us) i I
   have AR:=bC ab.cells hy
   refine dS (IA i U (ar (n:=(bA s us).length) 0 U sm) gG dc I I)<|dS (mm (i*2) U (ar (n:=(bA s us).length) 0 U sm) (Nat.mul_pos I dc) iY U)<|dS (fX i 0 (vI y.Lo) U cd (ar (n:=(bA s us).length) 0 U sm) AR U dc U)<|dP 2 [] mn ?_
   obtain ⟨z,hz⟩:=bh (bA s ts) i I
   have AS:=bC ab.cells hz
   refine dS (IA i U (ar (n:=(bA s ts).length) 1 U sm) gG dc I I)<|dS (mm (i*2) U (ar (n:=(bA s ts).length) 1 U sm) (Nat.mul_pos I dc) iY U)<|dS (fX i 0 (vI z.Lo) U cd (ar (n:=(bA s ts).length) 1 U sm) AS U dc U) ?_
   have yv:y=fB s us i:=by rw [fP I] at hy; exact (Option.some.inj hy).symm
   have zv:z=fB s ts i:=by rw [fP I] at hz; exact (Option.some.inj hz).symm
   have BC:=pB hs E A i
   have A7:y.Lo=aF false s us i:=by rw [yv]; rfl
   have A8:y.Hi=aF true s us i:=by rw [yv]; rfl
   have A9:z.Lo=aF false s ts i:=by rw [zv]; rfl
   have A_:z.Hi=aF true s ts i:=by rw [zv]; rfl
   refine dP 2 [] mn ?_
   refine ed (t:=124) U (aL fun AZ=>?_) (aM fun AZ=>?_)
   ·exfalso; omega
   refine eR 2 U<|dS (IA i U (ar (n:=(bA s us).length) 0 U sm) gG dc I I)<|dS (mm ((i*2)+1) U (ar (n:=(bA s us).length) 0 U sm) (Nat.mul_pos I dc) iY U)<|dS (fX i 1 (vI y.Hi) U cd (ar (n:=(bA s us).length) 0 U sm) AR U dc U)<|eR 2 U<|dS (IA i U (ar (n:=(bA s ts).length) 1 U sm) gG dc I I)<|dS (mm ((i*2)+1) U (ar (n:=(bA s ts).length) 1 U sm) (Nat.mul_pos I dc) iY U)<|dS (fX i 1 (vI z.Hi) U cd (ar (n:=(bA s ts).length) 1 U sm) AS U dc U)<|dP 2 [] mn ?_
   refine b_<|RK f<|bY U (aL fun Aa=>?_) (aM fun Aa=>?_)
   ·exfalso; omega
   refine bW<|az<|KK d<|aq<|rP 2 [] mn ?_
   refine aD ?_
   have AE:(vI (((i+1):Nat):Int))=(vI ((i:Int)+1)):=by exact cI I
   refine aR (R ⟨(i+1),(by first|omega|(simp only []; omega))⟩ _ _ _ U os (cz 7<|bO U AE<|cQ.nil _) (aV [0,1,2,3,4,5,6,7]))
  refine bo<|ae<|ae<|aw<|KK C<|aj fun _ g=>WS fun _ h=>rP 4 [] (mc 5 U mn) ?_
  refine RK h<|au ?_
  have B:(0≤ts.length):=by exact Nat.zero_le _
  refine bx (ι:={z:Nat // (z≤ts.length)}) [3,5,7,8,139,140] [0,1,2,3,4,5,6,7] U U (fun z=>[(141,(vI (z.1:Int)))]) (fun z=>[]) (fun _=>rfl) (fun _=>rfl) (fun z=>ts.length-z.1) ⟨0,B⟩ (aB U) (aV [0,1,2,3,4,5,6,7]) ?_
  clear B
  rintro ⟨i,AW⟩ J51 J
  try dsimp only
  refine WS fun _ j=>rP 1 [] mn ?_
  refine RK j<|aj fun _ k=>bp U (aM fun Ab=>?_) (aL fun Ab=>?_)
  ·refine bo<|ae<|ae<|aw<|KK g<|WS fun _ AC=>rP 2 [] mn ?_
   refine RK AC<|an<|Q1 hQ U U U ?_
   first|rfl|(simp; done)
  refine WK k<|aj fun _ L=>au<|WS fun _ o=>rP 1 [] mn ?_
  obtain ⟨x,hx⟩:=bh ts i I
  have Am:=bC aa.cells hx
  refine rS (IA i U (aH 6 U) gU dc I I)<|rS (nw i 0 (aa.cells x) U cd (aH 6 U) Am U dc U U)<|AL U oh fun A1=>aP 1 U<|eg U pg U<|RK o<|aj fun _ p=>WS fun _ q=>rP 1 [] mn ?_
  have BD:=hside x (aA hx)
  refine rP 1 [] (mc 0 U mn) ?_
  refine rS (BI U dB)<|RK q<|bY U (aL fun hd=>?_) (aM fun hd=>?_)
  ·refine bo<|ae<|aw<|KK L<|aq<|rP 2 [] mn ?_
   refine aD ?_
   have AF:(vI (((i+1):Nat):Int))=(vI ((i:Int)+1)):=by exact cI I
   refine aR (J ⟨(i+1),(by first|omega|(simp only []; omega))⟩ _ _ _ U os (cz 6<|bO U AF<|cQ.nil _) (aV [1,2,3,4,5,6,7,8]))
  refine WK p<|WS fun _ v=>?_
  obtain ⟨u,hu,Aj,BF⟩:=A.get hx
  have BA:=ng hs E A hx hd
  have AN:=jX F hx hd
  have AO:=jX G hu (by rw [Aj]; exact hd)
  refine rP 3 [0,1] (mc 6 U (mc 5 U mn)) ?_
  refine rS (CL (jI ts tsA tsC s (i:Int) sd hside) (aU [7]) U) ?_
  refine rP 2 [] mn ?_
  rw [AN.2]
  refine aP 1 U<|AL U fD fun A2=>eg U fO U<|aP 1 U<|RK v<|WS fun _ w=>e7 3 [0,1] (mc 4 U (mc 6 U mn)) U<|rS (CL (jI us N O s (i:Int) I (by first|assumption)) (bB (ar (n:=us.length) 5 U sm)<|ao) U)<|rP 2 [] mn ?_
  rw [AO.2]
  refine aP 1 U<|AL U fD fun A3=>eg U fO U<|rP 1 [] mn ?_
  refine RK w<|aj fun _ AB=>?_
  have AH:(ab.cells (dn s ts (i:Int)))=(ab.cells (ab.mk (gd false s ts i) (gd true s ts i))):=by rw [AN.1]
  rw [AH]
  have AI:(ab.cells (dn s us (i:Int)))=(ab.cells (ab.mk (gd false s us i) (gd true s us i))):=by rw [AO.1]
  rw [AI]
  refine aq<|aP 1 U<|rS (SX (bu (r:= .bool false) U U U fT) U U)<|aP 2 U<|rS (SX (bu (r:= .bool false) U U U fT) U U)<|rP 9 [0,1] (mc 0 U (mc 1 U mn)) ?_
  refine cb (t:=176) U (aL fun Ac=>?_) (aM fun Ac=>?_)
  ·exfalso; omega
  refine rP 6 [0,1] (mc 0 U (mc 1 U mn)) ?_
  refine RK AB<|bY U (aL fun Ad=>?_) (aM fun Ad=>?_)
  ·exfalso; omega
  refine bW<|az<|KK L<|aq<|rP 2 [] mn ?_
  refine aD ?_
  have AJ:(vI (((i+1):Nat):Int))=(vI ((i:Int)+1)):=by exact cI I
  refine aR (J ⟨(i+1),(by first|omega|(simp only []; omega))⟩ _ _ _ U os (cz 6<|bO U AJ<|cQ.nil _) (aV [3,4,5,6,7,8,9,10]))
 refine WS fun _ C=>aP 1 U<|rS (SX (bu (r:= .bool false) U U U fT) U U)<|aP 2 U<|rS (SX (bu (r:= .bool false) U U U fT) U U)<|aP 3 U<|rS (SX (bu (r:= .bool false) U U U fT) U U)<|aP 3 U<|rS (SX (bu (r:= .bool false) U U U fT) U U)<|rP 9 [] mn ?_
 refine cb (t:=99) U (aJ fun AX=>?_) (aI fun AX=>?_)
 ·exfalso; omega
 refine aP 1 U<|rS (BI U fT)<|rP 1 [] mn ?_
 refine cM (t:=102) U (aI fun H=>?_) (aJ fun H=>?_)
 ·refine rP 5 [] mn ?_
  refine RK C<|bH U<|bW ?_
  refine aR (iA (aB U) (aV [0,1,2,3,4,5,6,7]) (K ()))
 refine aP 2 U<|rS (BI U fT)<|rP 2 [] mn ?_
 refine RK C<|bY U (aJ fun At=>?_) (aI fun At=>?_)
 ·exact absurd (o4 hs E A H) At
 refine bW ?_
 refine aR (iA (aB U) (aV [0,1,2,3,4,5,6,7]) (K ()))
end
section
open Go.ChangeShapes Go.WideShapes Go.ChangeAt Go.RowKit
theorem vx:Try.prog.cellsOf 24=1:=by kernel_rfl
theorem vj:Try.prog.cellsOf 22=1:=by kernel_rfl
theorem uM:Try.prog.cellsOf 42=9:=by kernel_rfl
theorem tL:Try.prog.cellsOf 3=1:=by kernel_rfl
def sT (w:World) (n:Int):Prop:=kJ n
theorem tR:mj Try.prog 3 Int iC sT:=tu k_
theorem kd:Try.prog.cellsOf 27=2:=by kernel_rfl
structure kg (w:World) (s:ab):Prop where
 Lo:sT w s.Lo
 Hi:sT w s.Hi
theorem vm:fL Try.prog 27=some [(3,0),(3,1)]:=by kernel_rfl
theorem kZ:mj Try.prog 27 ab ab.cells kg:=fun {H} enc w base sp A fuel cs x h=>by
 obtain ⟨hl,hp⟩:=gj vm h
 obtain ⟨M,O,F⟩:=hp 0 3 0 rfl
 obtain ⟨K,B,AA⟩:=tR _ _ _ _ _ _ _ _ F
 obtain ⟨N,P,G⟩:=hp 1 3 1 rfl
 obtain ⟨L,C,J⟩:=tR _ _ _ _ _ _ _ _ G
 refine ⟨⟨K,L⟩,?_,⟨AA,J⟩⟩
 have E:=eI (hl.trans kd) (by rw [tL]) C
 have D:=bS B (m:=1) (by rw [tL]) E
 exact D
theorem vf:Try.prog.cellsOf 5=1:=by kernel_rfl
def vd (w:World) (n:Int):Prop:=0≤n∧n≤255
theorem vW:mj Try.prog 5 Int qb vd:=uA rA
structure uP (w:World) (s:aa):Prop where
 Id:sT w s.Id
 bR:kg w s.bR
 bT:kg w s.bT
 ax:kg w s.ax
 aN:vd w s.aN
 dD:sT w s.dD
theorem vG:fL Try.prog 42=some [(3,0),(27,1),(27,3),(27,5),(5,7),(3,8)]:=by kernel_rfl
theorem vi:mj Try.prog 42 aa aa.cells uP:=fun {H} enc w base sp A fuel cs x h=>by
 obtain ⟨hl,hp⟩:=gj vG h
 obtain ⟨g,o,O⟩:=hp 0 3 0 rfl
 obtain ⟨a,B,AA⟩:=tR _ _ _ _ _ _ _ _ O
 obtain ⟨i,p,P⟩:=hp 1 27 1 rfl
 obtain ⟨b,C,V⟩:=kZ _ _ _ _ _ _ _ _ P
 obtain ⟨j,q,Q⟩:=hp 2 27 3 rfl
 obtain ⟨c,D,W⟩:=kZ _ _ _ _ _ _ _ _ Q
 obtain ⟨k,r,R⟩:=hp 3 27 5 rfl
 obtain ⟨d,E,X⟩:=kZ _ _ _ _ _ _ _ _ R
 obtain ⟨l,s,S⟩:=hp 4 5 7 rfl
 obtain ⟨e,F,Y⟩:=vW _ _ _ _ _ _ _ _ S
 obtain ⟨n,t,T⟩:=hp 5 3 8 rfl
 obtain ⟨f,G,Z⟩:=tR _ _ _ _ _ _ _ _ T
 refine ⟨⟨a,b,c,d,e,f⟩,?_,⟨AA,V,W,X,Y,Z⟩⟩
 have N:=eI (hl.trans uM) (by rw [tL]) G
 have M:=bS F (m:=8) (by rw [vf]) N
 have L:=bS E (m:=7) (by rw [kd]) M
 have K:=bS D (m:=5) (by rw [kd]) L
 have J:=bS C (m:=3) (by rw [kd]) K
 have AB:=bS B (m:=1) (by rw [tL]) J
 exact AB
def uR (w:World) (s:cp):Prop:= ∃ l:List aa,s.n=l.length∧(rd s.a l.length 9 (l.map aa.cells)).holds w∧(∀ x∈l,uP w x)∧l.length≤maxLen∧s.n≤s.c
theorem vM:mj Try.prog 22 cp (fun s=>[vS s.a s.n s.c]) uR:=lP uE uM vi
structure v_ (w:World) (s:ai):Prop where
 eA:uR w s.eA
theorem ua:fL Try.prog 24=some [(22,0)]:=by kernel_rfl
theorem vy:mj Try.prog 24 ai ai.cells v_:=fun {H} enc w base sp A fuel cs x h=>by
 obtain ⟨hl,hp⟩:=gj ua h
 obtain ⟨G,AA,D⟩:=hp 0 22 0 rfl
 obtain ⟨F,B,E⟩:=vM _ _ _ _ _ _ _ _ D
 refine ⟨⟨F⟩,?_,⟨E⟩⟩
 have C:=eI (hl.trans vx) (by rw [vj]) B
 exact C
theorem uO:Try.prog.cellsOf 59=5:=by kernel_rfl
structure ub (w:World) (s:al):Prop where
 Kind:vd w s.Kind
 aQ:sT w s.aQ
 To:sT w s.To
 a_:kg w s.a_
theorem v8:fL Try.prog 59=some [(5,0),(3,1),(3,2),(27,3)]:=by kernel_rfl
theorem vo:mj Try.prog 59 al al.cells ub:=fun {H} enc w base sp A fuel cs x h=>by
 obtain ⟨hl,hp⟩:=gj v8 h
 obtain ⟨W,a,K⟩:=hp 0 5 0 rfl
 obtain ⟨S,B,O⟩:=vW _ _ _ _ _ _ _ _ K
 obtain ⟨X,b,L⟩:=hp 1 3 1 rfl
 obtain ⟨T,C,P⟩:=tR _ _ _ _ _ _ _ _ L
 obtain ⟨Y,c,M⟩:=hp 2 3 2 rfl
 obtain ⟨AA,D,Q⟩:=tR _ _ _ _ _ _ _ _ M
 obtain ⟨Z,d,N⟩:=hp 3 27 3 rfl
 obtain ⟨V,E,R⟩:=kZ _ _ _ _ _ _ _ _ N
 refine ⟨⟨S,T,AA,V⟩,?_,⟨O,P,Q,R⟩⟩
 have J:=eI (hl.trans uO) (by rw [kd]) E
 have AB:=bS D (m:=3) (by rw [tL]) J
 have G:=bS C (m:=2) (by rw [tL]) AB
 have F:=bS B (m:=1) (by rw [vf]) G
 exact F
def vp (w:World) (s:cp):Prop:= ∃ l:List al,s.n=l.length∧(rd s.a l.length 5 (l.map al.cells)).holds w∧(∀ x∈l,ub w x)∧l.length≤maxLen∧s.n≤s.c
theorem vK:mj Try.prog 25 cp (fun s=>[vS s.a s.n s.c]) vp:=lP ui uO vo
theorem wa:Try.prog.cellsOf 29=11:=by kernel_rfl
structure vD (w:World) (s:ah):Prop where
 Class:vd w s.Class
 Start:kg w s.Start
 kO:kg w s.kO
 fw:kg w s.fw
 Weight:kg w s.Weight
 dT:kg w s.dT
theorem uh:fL Try.prog 29=some [(5,0),(27,1),(27,3),(27,5),(27,7),(27,9)]:=by kernel_rfl
theorem vl:mj Try.prog 29 ah ah.cells vD:=fun {H} enc w base sp A fuel cs x h=>by
 obtain ⟨hl,hp⟩:=gj uh h
 obtain ⟨g,o,O⟩:=hp 0 5 0 rfl
 obtain ⟨a,B,AA⟩:=vW _ _ _ _ _ _ _ _ O
 obtain ⟨i,p,P⟩:=hp 1 27 1 rfl
 obtain ⟨b,C,V⟩:=kZ _ _ _ _ _ _ _ _ P
 obtain ⟨j,q,Q⟩:=hp 2 27 3 rfl
 obtain ⟨c,D,W⟩:=kZ _ _ _ _ _ _ _ _ Q
 obtain ⟨k,r,R⟩:=hp 3 27 5 rfl
 obtain ⟨d,E,X⟩:=kZ _ _ _ _ _ _ _ _ R
 obtain ⟨l,s,S⟩:=hp 4 27 7 rfl
 obtain ⟨e,F,Y⟩:=kZ _ _ _ _ _ _ _ _ S
 obtain ⟨n,t,T⟩:=hp 5 27 9 rfl
 obtain ⟨f,G,Z⟩:=kZ _ _ _ _ _ _ _ _ T
 refine ⟨⟨a,b,c,d,e,f⟩,?_,⟨AA,V,W,X,Y,Z⟩⟩
 have N:=eI (hl.trans wa) (by rw [kd]) G
 have M:=bS F (m:=9) (by rw [kd]) N
 have L:=bS E (m:=7) (by rw [kd]) M
 have K:=bS D (m:=5) (by rw [kd]) L
 have J:=bS C (m:=3) (by rw [kd]) K
 have AB:=bS B (m:=1) (by rw [vf]) J
 exact AB
theorem ji:ownKnob Try.prog.godebug=none:=by kernel_rfl
theorem iN:laidOutB Try.prog=true:=by kernel_rfl
theorem g0 (os:Os) (started:os.Started) (H:Type) (enc:TypeId×Value→H):
 ReturnsInHanded {} Try.checked os 3 .any (Rows.slideNarrowSpec.pre6 enc Try.prog Try.f3 Rows.slideNarrowRow.domain false) (Rows.slideNarrowSpec.post enc Try.prog Try.f3 false true false false):=by
 refine returnsInHanded_of_change (C:=Try.checked) ji started kr Try.func3
  (ChangeSpec.witness6 (enc:=enc) (C:=Try.checked) false ⟨#[],#[.agg #[(vS none 0 0)],vS none 0 0,.agg #[(Value.int .u8 0),(vI 0),(vI 0),(vI 0),(vI 0),(vI 0),(vI 0),(vI 0),(vI 0),(vI 0),(vI 0)]],[]⟩ 8 kr kr kr kr) ?_
 intro W base args ds gs before F hW O _
 have B: ∀ (j:Nat) t v,Try.f3.params[j]? =some t→args[j]? =some v→Value.okWide Try.prog W .any base t v:=F
 have hW':=hW
 obtain ⟨p,q,L,hV,rfl,a,b⟩:=hW
 have hA:DataW.TrodAll enc Try.prog W 0 (fun _=>true) true Try.f3.params.toList args.toList ds p:=L
 have G:=hA
 rw [Try.params3] at hA B
 obtain ⟨Q,k,o,T,u,z,M,rfl,rfl,X,c⟩:=trodAll_cons hA
 obtain ⟨R,m,r,AB,w,q1,rfl,rfl,rfl,Y,d⟩:=trodAll_cons c
 obtain ⟨S,n,s,V,y,q2,rfl,rfl,rfl,Z,f⟩:=trodAll_cons d
 obtain ⟨rfl,rfl,rfl⟩:=trodAll_nil f
 obtain rfl:args= #[Q,R,S]:=by cases args; simp_all
 obtain ⟨rfl,rfl⟩:=trodVars_none hV
 obtain ⟨g,rfl,R0⟩:=j2 ua vy (B 0 24 Q rfl rfl) X
 obtain ⟨h,rfl,R1⟩:=nR vK ui (B 1 25 R rfl rfl) Y
 obtain ⟨i,rfl,R2⟩:=j2 uh vl (B 2 29 S rfl rfl) Z
 simp only [List.append_nil] at hW' G
 obtain ⟨⟨tA,tn,tC⟩⟩:=g
 obtain ⟨l,hn,J,cc,P⟩:=R0.eA
 simp only at hn J
 subst hn
 obtain ⟨lA,ln,lC⟩:=h
 obtain ⟨ls,AC,D,E,N⟩:=R1
 simp only at AC D
 subst AC
 have K:=(ke l tA tC ls lA lC i (fun x hx=>(cc x hx).aN) R2.Class (fun x hx=>(E x hx).Kind)).run W (by intro A hA; simp only [bm,List.not_mem_nil,or_false] at hA; rcases hA with rfl|rfl; exact J; exact D)
 refine (K).mono fun e W' ⟨he,hk⟩=>?_
 subst he
 exact ⟨_,U,oR iN hW' G U U kr hk.below kr wi⟩
/-- the statement -/
theorem slideNarrow_said:Rows.SlideNarrowSaid:=
 OpenClaim.holds_of_wide 3 Try.f3 rfl rfl rfl rfl rfl rfl rfl ⟨rfl,rfl,rfl,rfl,rfl⟩ rfl rfl rfl rfl rfl kr Try.func3 kr
  (of_decide_eq_true kr) (by unfold Func.isWrapper; first|(rw [if_pos (by decide+kernel)]; kernel_rfl)|(rw [if_neg (by decide+kernel)]; exact ⟨rfl,rfl⟩))
  (fun os started H enc _=>g0 os started H enc)
#print axioms slideNarrow_said
end
end Go.Proofs.Ytpfjokbjambohaa
