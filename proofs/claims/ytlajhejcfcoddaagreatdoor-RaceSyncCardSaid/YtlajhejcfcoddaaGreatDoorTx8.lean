/-
 The statement raceSync_said, part 8 of 8: B8, Rr2, B9, Clear, Ways, WayM, R1, Y1, Y2, Y3, Y5, Rr3, Rr4, Rr5, Rra, Ry1, Ry3, Rw4, LineOpen, RaceOpen, Sync0.
 Conditions: none.
-/
import Derived.Test.YtlajhejcfcoddaaGreatDoorTx1
import Derived.Test.YtlajhejcfcoddaaGreatDoorTx2
import Derived.Test.YtlajhejcfcoddaaGreatDoorTx3
import Derived.Test.YtlajhejcfcoddaaGreatDoorTx4
import Derived.Test.YtlajhejcfcoddaaGreatDoorTx5
import Derived.Test.YtlajhejcfcoddaaGreatDoorTx6
import Derived.Test.YtlajhejcfcoddaaGreatDoorTx7
import Derived.Test.YtlajhejcfcoddaaGreatDoorCards
import Derived.Test.YtlajhejcfcoddaaGreatDoorTie
import Derived.SevenTiedAt
import Derived.LaidMore
import Derived.Stop.Joined
import Derived.Test.YtlajhejcfcoddaaGreatDoorRows
import Derived.Test.YtlajhejcfcoddaaGreatDoorProg
import Derived.KernelRfl
namespace Go.Proofs.YtlajhejcfcoddaaGreatDoor
set_option maxRecDepth 100000
set_option maxHeartbeats 4000000
set_option linter.unusedVariables false
section
open Go.RowKit
theorem L8 (l:aX) (kA:OA) (kC:Nat) (az:List RA) (cA:OA) (cC:Nat) (bA:OA) (bC:Nat) (hraw:pZ l az):
 eB Tryz.prog 20 [(vA (bZ.cells (lJ l kA kC cA cC bA bC)))] [(rd kA l.aL.length 9 (l.aL.map ak.cells)),(rd cA l.ah.length 2 (List.zipWith ao.cells l.ah az)),(e9 (aW ao.gP l.ah az)),(rd bA l.ae.length 4 (l.ae.map bE.cells))] (vB (decide (lX l))):=by
 have e:=hraw.sw
 have d:=hraw.sr
 have a:=hraw.oo
 have b:=hraw.sH
 refine bG kr Tryz.func20 U U fun g Q hQ hN=>?_
 try dsimp only
 refine WS fun _ O=>gd U fun f=>bo 1 U<|RK O<|aj fun _ P=>WS fun _ D=>bo 1 U<|rS (LP (bB.cells (bB.mk (bj.mk kA l.aL.length kC))) 0 U cj U U U)<|rS (CL (OJ l.aL kA kC) (bp [1]) U)<|rP 1 [] mn ?_
 refine dp (t:=7) U (aQ fun Z=>?_) (aP fun Z=>?_)
 ·refine bo 11 U<|RK D<|aR U<|WS fun _ R=>rP 1 [] mn ?_
  refine RK R<|ar<|Q1 hQ U U U ?_
  exact cB (gf (.inl I)).symm
 refine rP 6 [] (mc 0 U mn) ?_
 refine dp (t:=13) U (aQ fun C=>?_) (aP fun C=>?_)
 ·refine bo 5 U<|RK D<|aR U<|WS fun _ S=>rP 1 [] mn ?_
  refine RK S<|ar<|Q1 hQ U U U ?_
  exact cB (gf (.inl I)).symm
 refine rP 5 [] (mc 0 U mn) ?_
 refine RK D<|cP U (aQ fun N=>?_) (aP fun N=>?_)
 ·refine WS fun _ T=>rP 1 [] mn ?_
  refine RK T<|ar<|Q1 hQ U U U ?_
  exact cB (gf (.inl I)).symm
 refine WK P<|aj fun _ AA=>WS fun _ V=>rP 1 [] mn ?_
 refine RK V<|ax ?_
 have A:(0≤l.ah.length)∧(Ax l 0):=by exact ⟨Nat.zero_le _,fun j c hj=>absurd hj (Nat.not_lt_zero _)⟩
 refine bL (ι:={z:Nat // (z≤l.ah.length)∧(Ax l z)}) [1] [0,1,2,3,4] U U (fun z=>[(3,(vI (z.1:Int)))]) (fun z=>[]) (fun _=>rfl) (fun _=>rfl) (fun z=>l.ah.length-z.1) ⟨0,A⟩ (aU U) (aG [0,1,2,3,4]) ?_
 clear A
 rintro ⟨i,⟨W,B⟩⟩ J10 F
 try dsimp only
 refine aj fun _ G=>WS fun _ H=>rP 5 [] (mc 0 U mn) ?_
 refine RK H<|bS U (aP fun C=>?_) (aQ fun C=>?_)
 ·refine bD<|ab<|ab<|ay<|KK AA<|WS fun _ L=>rP 1 [] mn ?_
  refine RK L<|ar<|Q1 hQ U U U ?_
  exact cB (ct (Mp I I B)).symm
 refine WK G<|aj fun _ AB=>ax<|WS fun _ J=>rP 3 [] (mc 0 U mn) ?_
 obtain ⟨x,hx⟩:=aJ l.ah i I
 obtain ⟨xa,X⟩:=aJ az i I
 have Y:(List.zipWith ao.cells l.ah az)[i]? =some (ao.cells x xa):=dG hx X
 refine rS (IA i U (aC 2 U) uQ dc I I)<|rS (mW ((i*2)+1) U (aC 2 U) (Nat.mul_pos I dc) fw U)<|rS (gi i 1 (vS xa.1 x.aN.length xa.2) U cj (aC 2 U) Y U dc U)<|rP 2 [] mn ?_
 refine RK J<|cP U (aQ fun E=>?_) (aP fun E=>?_)
 ·refine WS fun _ K=>rP 1 [] mn ?_
  refine RK K<|ar<|Q1 hQ U U U ?_
  exact cB (gf (IK hx E)).symm
 refine cr<|aH<|KK AB<|al<|rP 3 [] mn ?_
 refine aA ?_
 have M:(vI (((i+1):Nat):Int))=(vI ((i:Int)+1)):=by exact cI I
 refine aV (F ⟨(i+1),⟨I,k8 B hx I⟩⟩ _ _ _ U os (dF.cons U<|bk U M<|dF.nil _) (aG [0,1,2,3,4]))
theorem yj (d m:Int) (hd:0≤d∧d≤1000) (hm:0≤m∧m≤90000000):
 eB Tryz.prog 132 [(vI d),(vI m)] [] (vI (pC (d*m) 1000000)):=by
 have J:=Qx (a:=d) (b:=m) (A:=1000) (B:=90000000) hd.1 hd.2 hm.1 hm.2
 refine bG kr Tryz.func132 U U fun K Q hQ hN=>?_
 try dsimp only
 refine WS fun _ C=>bo 1 U<|RK C<|WS fun _ D=>bo 2 U<|rS (BI U (Gt ⟨I,I⟩))<|bo 1 U<|RK D<|aj fun _ E=>WS fun _ F=>bo 1 U<|rS (BI U (PH I I))<|rP 1 [] mn ?_
 refine RK F<|cP U (aQ fun AA=>?_) (aP fun AA=>?_)
 ·refine WS fun _ G=>bo 1 U<|rS (BI U (t_ I I I))<|rP 2 [] mn ?_
  refine RK G<|ar<|Q1 hQ U U U ?_
  exact cI (by unfold pC; omega)
 refine WK E<|WS fun _ H=>bo 1 U<|rS (BI U (t_ I I I))<|rP 1 [] mn ?_
 refine RK H<|ar<|Q1 hQ U U U ?_
 exact cI (by unfold pC; omega)
theorem Mq (c:ao) (sA:OA) (sC:Nat) (hlen:c.aN.length≤1000000):
 eB Tryz.prog 92 [(vA (dx.cells (dx.mk c.dq (bj.mk sA c.aN.length sC))))] [(rd sA c.aN.length 3 (c.aN.map bJ.cells))] (vB (decide (fm c))):=by
 refine bG kr Tryz.func92 U U fun w0 Q hQ hN=>?_
 try dsimp only
 refine WS fun _ C3=>gd U fun b2=>bo 1 U<|RK C3<|aj fun _ DL=>WS fun _ A5=>fY 2 [] (mc 0 U mn) U<|rS (CL (jc c.dq 0 1000) (aI) U)<|rP 2 [] mn ?_
 refine dp (t:=14) U (bx fun Ca=>?_) (bw fun Ca=>?_)
 ·refine bo 6 U<|RK A5<|aR U<|WS fun _ Di=>rP 1 [] mn ?_
  refine RK Di<|ar<|Q1 hQ U U U ?_
  exact cB (ct fun h=>by have q1:=h.sB; have q2:=h.len; omega).symm
 refine fY 3 [] (mc 0 U mn) U<|rS (CL (jc (c.aN.length:Int) 1 5) (aI) U)<|rP 2 [] mn ?_
 refine RK A5<|cP U (bx fun Ci=>?_) (bw fun Ci=>?_)
 ·refine WS fun _ Do=>rP 1 [] mn ?_
  refine RK Do<|ar<|Q1 hQ U U U ?_
  exact cB (ct fun h=>by have q1:=h.sB; have q2:=h.len; omega).symm
 refine WK DL<|aj fun _ EQ=>WS fun _ Eq=>rP 1 [] mn ?_
 refine RK Eq<|ax ?_
 have A:(0≤c.aN.length)∧(∀ (j:Nat) y,j<0→c.aN[j]? =some y→fH c j y):=by exact ⟨Nat.zero_le _,fun j y hj=>absurd hj (Nat.not_lt_zero _)⟩
 refine bL (ι:={z:Nat // (z≤c.aN.length)∧(∀ (j:Nat) y,j<z→c.aN[j]? =some y→fH c j y)}) [1] [0,1] U U (fun z=>[(3,(vI (z.1:Int)))]) (fun z=>[]) (fun _=>rfl) (fun _=>rfl) (fun z=>c.aN.length-z.1) ⟨0,A⟩ (aU U) (aG [0,1]) ?_
 clear A
 rintro ⟨i,⟨a,C⟩⟩ J9 f
 try dsimp only
 have GE:=L7 a C
 refine aj fun _ g=>WS fun _ l=>rP 5 [] (mc 0 U mn) ?_
 refine RK l<|cP U (aQ fun Ck=>?_) (aP fun Ck=>?_)
 ·refine WK g<|aj fun _ AA=>ax<|WS fun _ n=>rP 3 [] (mc 0 U mn) ?_
  obtain ⟨x,hx⟩:=aJ c.aN i I
  have b:=bO bJ.cells hx
  refine rS (IA i U (aC 1 U) pz dc I I)<|rS (oY i 0 (bJ.cells x) U cj (aC 1 U) b U dc U U)<|AL U vr fun Fd=>gl U AT U<|RK n<|aj fun _ B=>dH cx 41 kr<|mV 2 [] (mc 0 U mn) U<|dS (CL (jc x.At 0 86400000) (aI) U)<|dP 2 [] mn ?_
  refine js (t:=37) U (bx fun Cp=>?_) (bw fun Cp=>?_)
  ·refine lQ 36 U<|cQ<|RK B<|aR U<|WS fun _ p=>rP 1 [] mn ?_
   refine RK p<|ar<|Q1 hQ U U U ?_
   exact cB (ct fun h=>by have q:=h.sync i x hx; unfold fH at q; (rw [gN I] at q; omega)).symm
  refine dP 3 [] mn ?_
  refine jl (t:=40) U (aP fun Cx=>?_) (aQ fun Cx=>?_)
  ·refine dP 19 [] (mc 0 U mn) ?_
   refine js (t:=59) U (aQ fun X=>?_) (aP fun X=>?_)
   ·refine lQ 14 U<|cQ<|RK B<|aR U<|WS fun _ w=>rP 1 [] mn ?_
    refine RK w<|ar<|Q1 hQ U U U ?_
    exact cB (ct fun h=>by have q:=h.sync i x hx; unfold fH at q; (rw [gN I] at q; omega)).symm
   refine dP 9 [] (mc 0 U mn) ?_
   refine js (t:=68) U (aQ fun Y=>?_) (aP fun Y=>?_)
   ·refine lQ 5 U<|cQ<|RK B<|aR U<|WS fun _ AC=>rP 1 [] mn ?_
    refine RK AC<|ar<|Q1 hQ U U U ?_
    exact cB (ct fun h=>by have q:=h.sync i x hx; unfold fH at q; (rw [gN I] at q; omega)).symm
   refine dP 5 [] (mc 0 U mn) ?_
   refine cQ<|RK B<|bS U (aP fun Z=>?_) (aQ fun Z=>?_)
   ·refine cr<|aH<|KK AA<|al<|rP 3 [] mn ?_
    refine aA ?_
    have A8:(vI (((i+1):Nat):Int))=(vI ((i:Int)+1)):=by exact cI I
    refine aV (f ⟨(i+1),⟨I,k8 C hx (by unfold fH; (rw [gN I]; omega))⟩⟩ _ _ _ U os (dF.cons U<|bk U A8<|dF.nil _) (aG [1,2]))
   refine WS fun _ AO=>rP 1 [] mn ?_
   refine RK AO<|ar<|Q1 hQ U U U ?_
   exact cB (ct fun h=>by have q:=h.sync i x hx; unfold fH at q; (rw [gN I] at q; omega)).symm
  refine dP 6 [0,1] (mc 0 U (mc 1 U mn)) ?_
  obtain ⟨y,hy⟩:=aJ c.aN (i-1) I
  have d:=bO bJ.cells hy
  refine dS (IA (i-1) U (aC 2 U) pz dc I I)<|dS (mW ((i-1)*3) U (aC 2 U) (Nat.mul_pos I dc) fw U)<|dS (gi (i-1) 0 (vI y.At) U cj (aC 2 U) d U dc U)<|dP 4 [] mn ?_
  refine js (t:=53) U (aQ fun C0=>?_) (aP fun C0=>?_)
  ·refine lQ 20 U<|cQ<|RK B<|aR U<|WS fun _ r=>rP 1 [] mn ?_
   refine RK r<|ar<|Q1 hQ U U U ?_
   exact cB (ct fun h=>by have q:=h.sync i x hx; unfold fH at q; (rw [xj I hy] at q; omega)).symm
  refine dP 6 [] (mc 0 U mn) ?_
  refine js (t:=59) U (aQ fun X=>?_) (aP fun X=>?_)
  ·refine lQ 14 U<|cQ<|RK B<|aR U<|WS fun _ s=>rP 1 [] mn ?_
   refine RK s<|ar<|Q1 hQ U U U ?_
   exact cB (ct fun h=>by have q:=h.sync i x hx; unfold fH at q; (rw [gN I] at q; omega)).symm
  refine dP 9 [] (mc 0 U mn) ?_
  refine js (t:=68) U (aQ fun Y=>?_) (aP fun Y=>?_)
  ·refine lQ 5 U<|cQ<|RK B<|aR U<|WS fun _ u=>rP 1 [] mn ?_
   refine RK u<|ar<|Q1 hQ U U U ?_
   exact cB (ct fun h=>by have q:=h.sync i x hx; unfold fH at q; (rw [gN I] at q; omega)).symm
  refine dP 5 [] (mc 0 U mn) ?_
  refine cQ<|RK B<|bS U (aP fun Z=>?_) (aQ fun Z=>?_)
  ·refine cr<|aH<|KK AA<|al<|rP 3 [] mn ?_
   refine aA ?_
   have A7:(vI (((i+1):Nat):Int))=(vI ((i:Int)+1)):=by exact cI I
   refine aV (f ⟨(i+1),⟨I,k8 C hx (by unfold fH; (rw [xj I hy]; omega))⟩⟩ _ _ _ U os (dF.cons U<|bk U A7<|dF.nil _) (aG [1,2]))
  refine WS fun _ v=>rP 1 [] mn ?_
  refine RK v<|ar<|Q1 hQ U U U ?_
  exact cB (ct fun h=>by have q:=h.sync i x hx; unfold fH at q; (rw [gN I] at q; omega)).symm
 refine bD<|ab<|ab<|ay<|KK EQ<|aj fun _ AS=>WS fun _ Ao=>rP 1 [] mn ?_
 refine RK Ao<|ax ?_
 have A:(0≤c.aN.length)∧(um c 0):=by exact ⟨Nat.zero_le _,fun j y hj=>absurd hj (Nat.not_lt_zero _)⟩
 refine bL (ι:={z:Nat // (z≤c.aN.length)∧(um c z)}) [1] [0,1] U U (fun z=>[(5,(vI (z.1:Int)))]) (fun z=>[]) (fun _=>rfl) (fun _=>rfl) (fun z=>c.aN.length-z.1) ⟨0,A⟩ (aU U) (aG [0,1]) ?_
 clear A
 rintro ⟨m,⟨Bm,G⟩⟩ J28 e
 try dsimp only
 have F:=xu (P:=fH c) I C
 refine aj fun _ Ap=>WS fun _ A0=>rP 5 [] (mc 0 U mn) ?_
 refine RK A0<|bS U (aP fun C1=>?_) (aQ fun C1=>?_)
 ·refine bD<|ab<|ab<|ay<|KK AS<|WS fun _ A6=>rP 1 [] mn ?_
  refine RK A6<|ar<|Q1 hQ U U U ?_
  exact cB (gf (Mi I I (xu I C) I G)).symm
 refine WK Ap<|aj fun _ A1=>ax<|WS fun _ A2=>rP 1 [] mn ?_
 refine RK A2<|ax ?_
 have A:(0≤m)∧(∀ y,c.aN[m]? =some y→F6 c y 0):=by exact ⟨Nat.zero_le _,fun y _ j o hj=>absurd hj (Nat.not_lt_zero _)⟩
 refine bL (ι:={z:Nat // (z≤m)∧(∀ y,c.aN[m]? =some y→F6 c y z)}) [1,5] [0,1] U U (fun z=>[(6,(vI (z.1:Int)))]) (fun z=>[]) (fun _=>rfl) (fun _=>rfl) (fun z=>m-z.1) ⟨0,A⟩ (aU U) (aG [0,1]) ?_
 clear A
 rintro ⟨k,⟨B3,D⟩⟩ J33 T
 try dsimp only
 refine aj fun _ A3=>WS fun _ A4=>rP 3 [] mn ?_
 refine RK A4<|bS U (aP fun C2=>?_) (aQ fun C2=>?_)
 ·refine bD<|ab<|ab<|ay<|aH<|KK A1<|al<|rP 3 [] mn ?_
  refine aA ?_
  have A9:(vI (((m+1):Nat):Int))=(vI ((m:Int)+1)):=by exact cI I
  refine aV (e ⟨(m+1),⟨I,DS G D I⟩⟩ _ _ _ U os (dF.cons U<|bk U A9<|dF.nil _) (aG [0,1]))
 refine WK A3<|aj fun _ V=>ax<|aj fun _ W=>oJ cx [0,1,2,3,4,5,6,7,8,9] [10,11,12,13] [false,false,false,false,false,false,false,false,false,false] [] [(cd b2 53 (dx.cells (dx.mk c.dq (bj.mk sA c.aN.length sC)))),(rd sA c.aN.length 3 (c.aN.map bJ.cells)).ro] [] kr (aG [0,1]) (aG [])<|eS U (FA 1 U fw U)<|eS U (L1 (vS sA c.aN.length sC) 0 U cj U U)<|eS U (MV U) ?_
 obtain ⟨x,hx⟩:=aJ c.aN k I
 have b:=bO bJ.cells hx
 refine eS U (IA k U (aC 1 U) pz dc I I)<|eS U (oY k 0 (bJ.cells x) U cj (aC 1 U) b U dc U U)<|eS U (FA 1 U fw U)<|eS U (L1 (vS sA c.aN.length sC) 0 U cj U U)<|eS U (MV U) ?_
 obtain ⟨y,hy⟩:=aJ c.aN m I
 have d:=bO bJ.cells hy
 refine eS U (IA m U (aC 1 U) pz dc I I)<|eS U (oY m 0 (bJ.cells y) U cj (aC 1 U) d U dc U U)<|eT U<|iE [10,11] kr (ej ?_<|ej ?_<|j5)
 rotate_left 1
 ·refine NO U U [10,12,13] fun T38 M=>AL U vr fun B7=>RD M 1 U<|N1 10<|NO U U [12,13] fun T40 N=>AL U vr fun B9=>RD N 2 U<|N1 12<|NO U U [13] fun T42 O=>gl U AT U<|RD O 2 U<|N1 13<|NO U U [] fun T43 R=>ti U AT U<|RD R 2 U<|nW<|KK W<|WS fun _ J=>rP 6 [0,1,2] (mc 2 U (mc 1 U (mc 0 U mn))) ?_
  obtain ⟨FR,FS,FT⟩:=uC (fun j z _ hz=>F j z hz) hy (F _ _ hy) (show k<m by omega) hx
  refine bo 1 U<|rS (CL (yj c.dq (y.At-x.At) I I) (aI) U)<|bo 1 U<|RK J<|WS fun _ E=>rP 10 [0,1] (mc 0 U (mc 1 U mn)) ?_
  refine dp (t:=113) U (aQ fun H=>?_) (aP fun H=>?_)
  ·refine bo 10 U<|RK E<|aR U<|WS fun _ K=>rP 1 [] mn ?_
   refine RK K<|ar<|Q1 hQ U U U ?_
   exact cB (ct fun h=>by have q:=h.pair m k y x hy I hx; unfold nO at q; omega).symm
  refine rP 10 [0,1] (mc 1 U (mc 0 U mn)) ?_
  refine RK E<|bS U (aP fun AB=>?_) (aQ fun AB=>?_)
  ·refine cr<|aH<|KK V<|al<|rP 3 [] mn ?_
   refine aA ?_
   have S:(vI (((k+1):Nat):Int))=(vI ((k:Int)+1)):=by exact cI I
   refine aV (T ⟨(k+1),⟨I,fun z hz=>by rw [hy] at hz; cases hz; exact k8 (D _ hy) hx (by unfold nO; omega)⟩⟩ _ _ _ rfl os (dF.cons rfl<|dF.cons rfl<|bk rfl S<|dF.nil _) (aG [2,3]))
  refine WS fun _ L=>rP 1 [] mn ?_
  refine RK L<|ar<|Q1 hQ U U U ?_
  exact cB (ct fun h=>by have q:=h.pair m k y x hy I hx; unfold nO at q; omega).symm
 refine NO U U [11,12,13] fun T38 M=>AL U vr fun B7=>RD M 1 U<|N1 11<|NO U U [12,13] fun T40 N=>AL U vr fun B9=>RD N 2 U<|N1 12<|NO U U [13] fun T42 O=>ti U AT U<|RD O 2 U<|N1 13<|NO U U [] fun T43 R=>gl U AT U<|RD R 2 U<|nW<|KK W<|WS fun _ J=>rP 6 [0,1,2] (mc 2 U (mc 0 U (mc 1 U mn))) ?_
 obtain ⟨FR,FS,FT⟩:=uC (fun j z _ hz=>F j z hz) hy (F _ _ hy) (show k<m by omega) hx
 refine bo 1 U<|rS (CL (yj c.dq (y.At-x.At) I I) (aI) U)<|bo 1 U<|RK J<|WS fun _ E=>rP 10 [0,1] (mc 1 U (mc 0 U mn)) ?_
 refine dp (t:=113) U (aQ fun H=>?_) (aP fun H=>?_)
 ·refine bo 10 U<|RK E<|aR U<|WS fun _ K=>rP 1 [] mn ?_
  refine RK K<|ar<|Q1 hQ U U U ?_
  exact cB (ct fun h=>by have q:=h.pair m k y x hy I hx; unfold nO at q; omega).symm
 refine rP 10 [0,1] (mc 0 U (mc 1 U mn)) ?_
 refine RK E<|bS U (aP fun AB=>?_) (aQ fun AB=>?_)
 ·refine cr<|aH<|KK V<|al<|rP 3 [] mn ?_
  refine aA ?_
  have S:(vI (((k+1):Nat):Int))=(vI ((k:Int)+1)):=by exact cI I
  refine aV (T ⟨(k+1),⟨I,fun z hz=>by rw [hy] at hz; cases hz; exact k8 (D _ hy) hx (by unfold nO; omega)⟩⟩ _ _ _ rfl os (dF.cons rfl<|dF.cons rfl<|bk rfl S<|dF.nil _) (aG [2,3]))
 refine WS fun _ L=>rP 1 [] mn ?_
 refine RK L<|ar<|Q1 hQ U U U ?_
 exact cB (ct fun h=>by have q:=h.pair m k y x hy I hx; unfold nO at q; omega).symm
theorem CA (c:ao) (sA:OA) (sC:Nat) (at_:Int) (hc:fm c) (ha:0≤at_∧at_≤90000000):
 eB Tryz.prog 197 [(vA (dx.cells (dx.mk c.dq (bj.mk sA c.aN.length sC)))),(vI at_)] [(rd sA c.aN.length 3 (c.aN.map bJ.cells))] (vA (aa.cells (eO c at_))):=by
 have e:=hc.len
 have W:=hc.sB
 refine bG kr Tryz.func197 U U fun j Q hQ hN=>?_
 try dsimp only
 refine WS fun _ R=>gd U fun g=>AL U dv fun h=>RK R<|WS fun _ S=>AL U dv fun d=>RK S<|aj fun _ T=>WS fun _ AA=>rP 1 [] mn ?_
 refine RK AA<|ax ?_
 have A:(0≤c.aN.length):=by exact Nat.zero_le _
 refine bL (ι:={z:Nat // (z≤c.aN.length)}) [1,2,4,5] [1,2,3] U U (fun z=>[(6,(vI (z.1:Int)))]) (fun z=>[(cd d 45 (aa.cells (kW c at_ z.1)))]) (fun _=>rfl) (fun _=>rfl) (fun z=>c.aN.length-z.1) ⟨0,A⟩ (aU U) (aG [1,2,3,0]) ?_
 clear A
 rintro ⟨i,X⟩ J8 D
 try dsimp only
 refine aj fun _ V=>WS fun _ E=>rP 5 [] (mc 1 U mn) ?_
 refine RK E<|bS U (aP fun O=>?_) (aQ fun O=>?_)
 ·refine bD<|ab<|ab<|ay<|KK T<|WS fun _ J=>rP 1 [] (mc 3 U mn) ?_
  refine gl U cy U<|RK J<|ar<|IC hQ [0] (mc 0 U mn) U ?_
  rw [Fb hc (show c.aN.length≤i by omega)]
 refine WK V<|aj fun _ B=>ax<|WS fun _ F=>rP 3 [] (mc 1 U mn) ?_
 obtain ⟨x,hx⟩:=aJ c.aN i I
 have Z:=bO bJ.cells hx
 refine rS (IA i U (aC 2 U) pz dc I I)<|rS (oY i 0 (bJ.cells x) U cj (aC 2 U) Z U dc U U)<|AL U vr fun a=>gl U AT U<|RK F<|WS fun _ G=>rP 2 [] (mc 2 U mn) ?_
 have Y:=hc.uR hx
 have f:0≤pC (c.dq*max (at_-x.At) (x.At-at_)) 1000000∧pC (c.dq*max (at_-x.At) (x.At-at_)) 1000000≤90001:=uH W ha Y.1
 refine fY 8 [] (mc 0 U mn) U<|rS (MX U)<|rS (CL (yj c.dq (max (at_-x.At) (x.At-at_)) I I) (aI) U)<|bo 1 U<|RK G<|WS fun _ H=>fY 10 [] (mc 0 U mn) U<|rS (SX (bh (xs:=[(0,.tmp 38),(1,.tmp 43)]) (cs:=(aa.cells (aa.mk (x.dL.Lo-(pC (c.dq*(max (at_-x.At) (x.At-at_))) 1000000)) (x.dL.Hi+(pC (c.dq*(max (at_-x.At) (x.At-at_))) 1000000))))) U U (bg gH U)) U U)<|AL U dv fun b=>gl U cy U<|RK H<|aj fun _ C=>WS fun _ AB=>rP 2 [] mn ?_
 refine RK AB<|bS U (aP fun P=>?_) (aQ fun P=>?_)
 ·refine WK C<|al<|fY 4 [0,1] (mc 5 U (mc 0 U mn)) U<|rS (MX U)<|rP 4 [0,1] (mc 5 U (mc 0 U mn)) ?_
  refine rS (MN U)<|rS (SX (bh (xs:=[(0,.tmp 52),(1,.tmp 57)]) (cs:=(aa.cells (aa.mk (max ((kW c at_ i).Lo) (x.dL.Lo-(pC (c.dq*(max (at_-x.At) (x.At-at_))) 1000000))) (min ((kW c at_ i).Hi) (x.dL.Hi+(pC (c.dq*(max (at_-x.At) (x.At-at_))) 1000000)))))) U U (bg gH U)) U U)<|IE U cy U<|aA<|aH<|KK B ?_
  have M:(aa.cells (aa.mk (max ((kW c at_ i).Lo) (x.dL.Lo-(pC (c.dq*(max (at_-x.At) (x.At-at_))) 1000000))) (min ((kW c at_ i).Hi) (x.dL.Hi+(pC (c.dq*(max (at_-x.At) (x.At-at_))) 1000000)))))=(aa.cells (kW c at_ (i+1))):=by exact congrArg aa.cells (CV hx I).symm
  rw [M]
  refine al<|rP 3 [] mn ?_
  refine aA ?_
  have N:(vI (((i+1):Nat):Int))=(vI ((i:Int)+1)):=by exact cI I
  refine aV (D ⟨(i+1),(by first|omega|(simp only []; omega))⟩ _ _ _ U os (cU 4<|bk U N<|dF.nil _) (aG [2,3,4,5]))
 refine al<|fY 1 [] (mc 0 U mn) U<|IE U cy U<|RK C<|al<|fY 4 [0,1] (mc 5 U (mc 0 U mn)) U<|rS (MX U)<|rP 4 [0,1] (mc 5 U (mc 0 U mn)) ?_
 refine rS (MN U)<|rS (SX (bh (xs:=[(0,.tmp 52),(1,.tmp 57)]) (cs:=(aa.cells (aa.mk (max (x.dL.Lo-(pC (c.dq*(max (at_-x.At) (x.At-at_))) 1000000)) (x.dL.Lo-(pC (c.dq*(max (at_-x.At) (x.At-at_))) 1000000))) (min (x.dL.Hi+(pC (c.dq*(max (at_-x.At) (x.At-at_))) 1000000)) (x.dL.Hi+(pC (c.dq*(max (at_-x.At) (x.At-at_))) 1000000)))))) U U (bg gH U)) U U)<|IE U cy U<|aA<|aH<|KK B ?_
 have K:(aa.cells (aa.mk (max (x.dL.Lo-(pC (c.dq*(max (at_-x.At) (x.At-at_))) 1000000)) (x.dL.Lo-(pC (c.dq*(max (at_-x.At) (x.At-at_))) 1000000))) (min (x.dL.Hi+(pC (c.dq*(max (at_-x.At) (x.At-at_))) 1000000)) (x.dL.Hi+(pC (c.dq*(max (at_-x.At) (x.At-at_))) 1000000)))))=(aa.cells (kW c at_ (i+1))):=by exact congrArg aa.cells (Bh hc ha hx I).symm
 rw [K]
 refine al<|rP 3 [] mn ?_
 refine aA ?_
 have L:(vI (((i+1):Nat):Int))=(vI ((i:Int)+1)):=by exact cI I
 refine aV (D ⟨(i+1),(by first|omega|(simp only []; omega))⟩ _ _ _ U os (cU 4<|bk U L<|dF.nil _) (aG [2,3,4,5]))
theorem Ml (l:aX) (kA:OA) (kC:Nat) (az:List RA) (cA:OA) (cC:Nat) (bA:OA) (bC:Nat) (n:Int) (hin:ew l az) (htr:db l.aL=true) (hbk: ∀ b∈l.ae,j0 l b) (hn:0≤n∧n<(l.ae.length:Int)):
 eB Tryz.prog 94 [(vA (bZ.cells (lJ l kA kC cA cC bA bC))),(vI n)] [(rd kA l.aL.length 9 (l.aL.map ak.cells)),(rd cA l.ah.length 2 (List.zipWith ao.cells l.ah az)),(e9 (aW ao.gP l.ah az)),(rd bA l.ae.length 4 (l.ae.map bE.cells))] (vI (lS l n.toNat)):=by
 have AA:=hin.sw
 have S:=hin.sr
 have P:=hin.oo
 have R:=hin.sH
 have T:=hin.side
 refine bG kr Tryz.func94 U U fun X Q hQ hN=>?_
 try dsimp only
 refine WS fun _ G=>gd U fun V=>bo 1 U<|RK G<|aj fun _ H=>WS fun _ AB=>rP 2 [] mn ?_
 refine RK AB<|cP U (aQ fun F=>?_) (aP fun F=>?_)
 ·refine aj fun _ J=>dK cx [11,12] [] [] [0,1,2,3,4] [] U U U U U<|eS U (FA 0 U fw U)<|eS U (LP (bB.cells (bB.mk (bj.mk kA l.aL.length kC))) 0 U cj U U U)<|eS U (FA 3 U fw U)<|eS U (L1 (vS bA l.ae.length bC) 0 U cj U U) ?_
  obtain ⟨y,hy⟩:=aJ l.ae 0 I
  have A:=bO bE.cells hy
  refine eS U (IA 0 U (aC 4 U) vo dc U I)<|eS U (mW (0*4) U (aC 4 U) (Nat.mul_pos I dc) fw U)<|eS U (oY 0 0 (cN.cells y.mY) U cj (aC 4 U) A U dc U U)<|eS U (CL (Su l.aL kA kC y.mY asm asm) (bp [1]) U)<|eS U (MV U)<|eS U (EX U)<|eS U (EX U)<|eS U (AG U)<|eT U<|cf U fun T6 L=>AL U dv fun W=>aA (L _ _ (aG [1,2,3,4,5]) ?_)
  refine cf U fun T8 M=>gl U cy U<|aA (M _ _ (aG [1,2,3,4,5]) ?_)
  refine fO U<|KK J<|WS fun _ K=>rP 3 [] (mc 0 U mn) ?_
  refine RK K<|ar<|Q1 hQ U U U ?_
  (refine congrArg (Value.int .i64) ?_; rw [show n.toNat=0 by omega]; rw [zn hy,(yh htr (hbk _ (List.mem_of_getElem? hy)).1).2])
 refine WK H<|aj fun _ B=>dK cx [19,20] [] [] [0,1,2,3,4] [] U U U U U<|eS U (FA 0 U fw U)<|eS U (LP (bB.cells (bB.mk (bj.mk kA l.aL.length kC))) 0 U cj U U U)<|eS U (FA 3 U fw U)<|eS U (L1 (vS bA l.ae.length bC) 0 U cj U U)<|eS U (MV U)<|eS U (BI U (su ⟨I,I⟩)) ?_
 obtain ⟨y,hy⟩:=aJ l.ae (((n-1)).toNat) I
 have A:=bO bE.cells hy
 refine eS U (IA (((n-1)).toNat) U (aC 4 U) vo dc I I)<|eS U (mW ((((n-1)).toNat)*4) U (aC 4 U) (Nat.mul_pos I dc) fw U)<|eS U (oY (((n-1)).toNat) 0 (cN.cells y.mY) U cj (aC 4 U) A U dc U U)<|eS U (FA 3 U fw U)<|eS U (L1 (vS bA l.ae.length bC) 0 U cj U U)<|eS U (MV U) ?_
 obtain ⟨x,hx⟩:=aJ l.ae ((n).toNat) I
 have N:=bO bE.cells hx
 refine eS U (IA ((n).toNat) U (aC 4 U) vo dc I I)<|eS U (mW (((n).toNat)*4) U (aC 4 U) (Nat.mul_pos I dc) fw U)<|eS U (oY ((n).toNat) 0 (cN.cells x.mY) U cj (aC 4 U) N U dc U U)<|eS U (CL (Jo l.aL kA kC y.mY x.mY asm asm) (bp [1]) U)<|eS U (MV U)<|eS U (EX U)<|eS U (EX U)<|eS U (AG U)<|eT U<|cf U fun T11 D=>AL U dv fun O=>aA (D _ _ (aG [1,2,3,4,5]) ?_)
 refine cf U fun T13 E=>gl U cy U<|aA (E _ _ (aG [1,2,3,4,5]) ?_)
 refine fO U<|KK B<|WS fun _ C=>rP 3 [] (mc 0 U mn) ?_
 refine RK C<|ar<|Q1 hQ U U U ?_
 (refine congrArg (Value.int .i64) ?_; rw [DB I hx (by rw [show n.toNat-1=(n-1).toNat by omega]; exact hy),(lG htr ⟨(hbk _ (List.mem_of_getElem? hy)).1,(hbk _ (List.mem_of_getElem? hx)).1⟩).2])
theorem KL (l:aX) (kA:OA) (kC:Nat) (az:List RA) (cA:OA) (cC:Nat) (bA:OA) (bC:Nat) (n:Int) (hin:ew l az) (htr:db l.aL=true) (hok:lK l) (hn:0≤n∧n<(l.ae.length:Int)):
 eB Tryz.prog 195 [(vA (bZ.cells (lJ l kA kC cA cC bA bC))),(vI n)] [(rd kA l.aL.length 9 (l.aL.map ak.cells)),(rd cA l.ah.length 2 (List.zipWith ao.cells l.ah az)),(e9 (aW ao.gP l.ah az)),(rd bA l.ae.length 4 (l.ae.map bE.cells))] (vI (dT l n.toNat)):=by
 have G:=hin.sw
 have F:=hin.sr
 have D:=hin.oo
 have E:=hin.sH
 have C:=hok.head
 unfold gE at C
 have H:=GM htr hok.td n.toNat
 have AA:=hok.Rw n.toNat I
 refine bG kr Tryz.func195 U U fun K Q hQ hN=>?_
 try dsimp only
 refine WS fun _ A=>gd U fun J=>bo 1 U<|RK A<|aj fun _ B=>dH cx 12 kr<|mV 2 [] (mc 0 U mn) U<|dS (CL (Ml l kA kC az cA cC bA bC n hin htr (by exact hok.td) hn) (bp [1,2,3,4]) U)<|dS (BI U (Gt ⟨I,I⟩))<|mV 6 [] (mc 0 U mn) U<|dS (BI U (t_ I I I))<|dP 1 [] mn ?_
 refine cQ<|RK B<|ar<|Q1 hQ U U U ?_
 exact cI (by unfold dT pC; rw [Int.mul_comm])
theorem Ow (l:aX) (kA:OA) (kC:Nat) (az:List RA) (cA:OA) (cC:Nat) (bA:OA) (bC:Nat) (hin:ew l az) (htr:db l.aL=true):
 eB Tryz.prog 57 [(vA (bZ.cells (lJ l kA kC cA cC bA bC)))] [(rd kA l.aL.length 9 (l.aL.map ak.cells)),(rd cA l.ah.length 2 (List.zipWith ao.cells l.ah az)),(e9 (aW ao.gP l.ah az)),(rd bA l.ae.length 4 (l.ae.map bE.cells))] (vB (decide (lK l))):=by
 have Do:=hin.sw
 have C2:=hin.sr
 have Cx:=hin.oo
 have C1:=hin.sH
 have C3:=hin.side
 have DL:=ki htr
 have Cp:=k6 htr
 refine bG kr Tryz.func57 U U fun w0 Q hQ hN=>?_
 try dsimp only
 refine WS fun _ A7=>gd U fun b2=>bo 1 U<|RK A7<|aj fun _ A8=>WS fun _ D=>fY 2 [] (mc 0 U mn) U<|rS (CL (jc l.gk 1 5000) (aI) U)<|rP 2 [] mn ?_
 refine dp (t:=10) U (bx fun AS=>?_) (bw fun AS=>?_)
 ·refine bo 35 U<|RK D<|aR U<|WS fun _ A9=>rP 1 [] mn ?_
  refine RK A9<|ar<|Q1 hQ U U U ?_
  exact cB (ct fun h=>by have q:=h.head; unfold gE at q; omega).symm
 refine fY 3 [] (mc 0 U mn) U<|rS (CL (jc (l.ah.length:Int) 1 4) (aI) U)<|rP 3 [] mn ?_
 refine dp (t:=17) U (bx fun Ao=>?_) (bw fun Ao=>?_)
 ·refine bo 28 U<|RK D<|aR U<|WS fun _ Bm=>rP 1 [] mn ?_
  refine RK Bm<|ar<|Q1 hQ U U U ?_
  exact cB (ct fun h=>by have q:=h.head; unfold gE at q; omega).symm
 refine fY 3 [] (mc 0 U mn) U<|rS (CL (jc (l.ae.length:Int) 1 6) (aI) U)<|rP 3 [] mn ?_
 refine dp (t:=24) U (bx fun Ap=>?_) (bw fun Ap=>?_)
 ·refine bo 21 U<|RK D<|aR U<|WS fun _ B3=>rP 1 [] mn ?_
  refine RK B3<|ar<|Q1 hQ U U U ?_
  exact cB (ct fun h=>by have q:=h.head; unfold gE at q; omega).symm
 refine fY 6 [] (mc 0 U mn) U<|rS (CL (jc l.bU 0 ((l.ae.length:Int)-1)) (aI) U)<|rP 3 [] mn ?_
 refine dp (t:=34) U (bx fun A0=>?_) (bw fun A0=>?_)
 ·refine bo 11 U<|RK D<|aR U<|WS fun _ B7=>rP 1 [] mn ?_
  refine RK B7<|ar<|Q1 hQ U U U ?_
  exact cB (ct fun h=>by have q:=h.head; unfold gE at q; omega).symm
 refine fY 2 [] (mc 0 U mn) U<|rS (CL (jc l.dN 0 3) (aI) U)<|rP 3 [] mn ?_
 refine dp (t:=40) U (bx fun A1=>?_) (bw fun A1=>?_)
 ·refine bo 5 U<|RK D<|aR U<|WS fun _ B9=>rP 1 [] mn ?_
  refine RK B9<|ar<|Q1 hQ U U U ?_
  exact cB (ct fun h=>by have q:=h.head; unfold gE at q; omega).symm
 refine fY 2 [] (mc 0 U mn) U<|rS (CL (jc l.cw 0 3) (aI) U)<|rP 2 [] mn ?_
 refine RK D<|cP U (bx fun A2=>?_) (bw fun A2=>?_)
 ·refine WS fun _ N=>rP 1 [] mn ?_
  refine RK N<|ar<|Q1 hQ U U U ?_
  exact cB (ct fun h=>by have q:=h.head; unfold gE at q; omega).symm
 refine WK A8<|aj fun _ O=>WS fun _ R=>rP 1 [] mn ?_
 refine RK R<|ax ?_
 have A:(0≤l.ah.length)∧(∀ (j:Nat) y,j<0→l.ah[j]? =some y→fm y):=by exact ⟨Nat.zero_le _,fun j y hj=>absurd hj (Nat.not_lt_zero _)⟩
 refine bL (ι:={z:Nat // (z≤l.ah.length)∧(∀ (j:Nat) y,j<z→l.ah[j]? =some y→fm y)}) [1] [0,1,2,3,4] U U (fun z=>[(3,(vI (z.1:Int)))]) (fun z=>[]) (fun _=>rfl) (fun _=>rfl) (fun z=>l.ah.length-z.1) ⟨0,A⟩ (aU U) (aG [0,1,2,3,4]) ?_
 clear A
 rintro ⟨i,⟨Ca,F⟩⟩ J13 K
 try dsimp only
 refine aj fun _ S=>WS fun _ T=>rP 5 [] (mc 0 U mn) ?_
 refine RK T<|cP U (aQ fun A3=>?_) (aP fun A3=>?_)
 ·refine WK S<|aj fun _ AA=>ax<|WS fun _ V=>rP 3 [] (mc 0 U mn) ?_
  obtain ⟨x,hx⟩:=aJ l.ah i I
  obtain ⟨xa,J⟩:=aJ az i I
  have Ck:(List.zipWith ao.cells l.ah az)[i]? =some (ao.cells x xa):=dG hx J
  refine rS (IA i U (aC 2 U) uQ dc I I)<|rS (oY i 0 (dx.cells (dx.mk x.dq (bj.mk xa.1 x.aN.length xa.2))) U cj (aC 2 U) Ck U dc U U) ?_
  have Di:=(hin.LL _ _ _ hx J).2
  refine rS (CL (Mq x xa.1 xa.2 asm) (au (show iA _ (rd xa.1 x.aN.length 3 (x.aN.map bJ.cells)).holds from (dA 3 U (bM hx J (by simp [ao.gP]))))<|aI) U)<|rP 1 [] mn ?_
  refine RK V<|bS U (bw fun AB=>?_) (bx fun AB=>?_)
  ·refine cr<|aH<|KK AA<|al<|rP 3 [] mn ?_
   refine aA ?_
   have u:(vI (((i+1):Nat):Int))=(vI ((i:Int)+1)):=by exact cI I
   refine aV (K ⟨(i+1),⟨I,k8 (P:=fun _ y=>fm y) F hx AB⟩⟩ _ _ _ U os (dF.cons U<|bk U u<|dF.nil _) (aG [0,1,2,3,4]))
  refine WS fun _ W=>rP 1 [] mn ?_
  refine RK W<|ar<|Q1 hQ U U U ?_
  exact cB (ct fun h=>AB (h.clock _ (aT hx))).symm
 refine bD<|ab<|ab<|ay<|KK O<|aj fun _ X=>WS fun _ Y=>rP 1 [] mn ?_
 refine RK Y<|ax ?_
 have A:(0≤l.ae.length)∧(∀ (j:Nat) y,j<0→l.ae[j]? =some y→j0 l y):=by exact ⟨Nat.zero_le _,fun j y hj=>absurd hj (Nat.not_lt_zero _)⟩
 refine bL (ι:={z:Nat // (z≤l.ae.length)∧(∀ (j:Nat) y,j<z→l.ae[j]? =some y→j0 l y)}) [1] [0,1,2,3,4] U U (fun z=>[(4,(vI (z.1:Int)))]) (fun z=>[]) (fun _=>rfl) (fun _=>rfl) (fun z=>l.ae.length-z.1) ⟨0,A⟩ (aU U) (aG [0,1,2,3,4]) ?_
 clear A
 rintro ⟨m,⟨Ci,B⟩⟩ J22 L
 try dsimp only
 refine aj fun _ Z=>WS fun _ a=>rP 5 [] (mc 0 U mn) ?_
 refine RK a<|bS U (aP fun A4=>?_) (aQ fun A4=>?_)
 ·refine bD<|ab<|ab<|ay<|KK X<|aj fun _ e=>WS fun _ f=>rP 1 [] mn ?_
  refine RK f<|ax ?_
  have A:(0≤l.ae.length)∧(∀ j,j<0→1≤lS l j):=by exact ⟨Nat.zero_le _,fun j hj=>absurd hj (Nat.not_lt_zero _)⟩
  refine bL (ι:={z:Nat // (z≤l.ae.length)∧(∀ j,j<z→1≤lS l j)}) [1] [0,1,2,3,4] U U (fun z=>[(5,(vI (z.1:Int)))]) (fun z=>[]) (fun _=>rfl) (fun _=>rfl) (fun z=>l.ae.length-z.1) ⟨0,A⟩ (aU U) (aG [0,1,2,3,4]) ?_
  clear A
  rintro ⟨n,⟨AO,C⟩⟩ J32 M
  try dsimp only
  have C0:=qZ (P:=j0 l) I B
  refine aj fun _ g=>WS fun _ k=>rP 5 [] (mc 0 U mn) ?_
  refine RK k<|bS U (aP fun A6=>?_) (aQ fun A6=>?_)
  ·refine bD<|ab<|ab<|ay<|KK e<|WS fun _ s=>rP 1 [] mn ?_
   refine RK s<|ar<|Q1 hQ U U U ?_
   exact cB (gf (yO (by unfold gE; omega) (qZ I F) (qZ I B) (fun j hj=>C j I))).symm
  refine WK g<|aj fun _ o=>ax<|WS fun _ p=>fY 2 [] (mc 0 U mn) U<|rS (CL (Ml l kA kC az cA cC bA bC (n:Int) hin htr asm I) (bp [1,2,3,4]) U)<|rP 1 [] mn ?_
  refine RK p<|bS U (aP fun E=>?_) (aQ fun E=>?_)
  ·refine cr<|aH<|KK o<|al<|rP 3 [] mn ?_
   refine aA ?_
   have w:(vI (((n+1):Nat):Int))=(vI ((n:Int)+1)):=by exact cI I
   refine aV (M ⟨(n+1),⟨I,fun j hj=>by rcases Nat.lt_or_ge j n with q|q; exact C j q; (obtain rfl:j=n:=by omega); simp only [Int.toNat_natCast] at E; omega⟩⟩ _ _ _ rfl os (dF.cons rfl<|bk rfl w<|dF.nil _) (aG [0,1,2,3,4]))
  refine WS fun _ r=>rP 1 [] mn ?_
  refine RK r<|ar<|Q1 hQ U U U ?_
  exact cB (ct fun h=>by have q:=h.Rw n I; simp only [Int.toNat_natCast] at E; omega).symm
 refine WK Z<|aj fun _ b=>ax<|aj fun _ H=>dH cx 24 kr<|lQ 1 U<|dS (LP (bB.cells (bB.mk (bj.mk kA l.aL.length kC))) 0 U cj U U U)<|dP 3 [] (mc 0 U mn) ?_
 obtain ⟨y,hy⟩:=aJ l.ae m I
 have AC:=bO bE.cells hy
 refine dS (IA m U (aC 4 U) vo dc I I)<|dS (mW (m*4) U (aC 4 U) (Nat.mul_pos I dc) fw U)<|dS (oY m 0 (cN.cells y.mY) U cj (aC 4 U) AC U dc U U)<|dS (CL (rr l.aL kA kC y.mY asm asm) (bp [1]) U)<|dP 2 [] mn ?_
 refine js (t:=77) U (bx fun G=>?_) (bw fun G=>?_)
 ·refine lQ 13 U<|cQ<|RK H<|aR U<|WS fun _ c=>rP 1 [] mn ?_
  refine RK c<|ar<|Q1 hQ U U U ?_
  exact cB (ct fun h=>by have q:=h.td _ (aT hy); have q2:=q.2; first|exact G q.1|omega).symm
 refine mV 3 [] (mc 0 U mn) U<|dS (IA m U (aC 4 U) vo dc I I)<|dS (mW ((m*4)+3) U (aC 4 U) (Nat.mul_pos I dc) fw U)<|dS (gi m 3 (vI y.jk) U cj (aC 4 U) AC U dc U)<|mV 4 [] (mc 0 U mn) U<|dS (CL (jc y.jk 0 ((l.ah.length:Int)-1)) (aI) U)<|dP 2 [] mn ?_
 refine cQ<|RK H<|bS U (bw fun A5=>?_) (bx fun A5=>?_)
 ·refine cr<|aH<|KK b<|al<|rP 3 [] mn ?_
  refine aA ?_
  have v:(vI (((m+1):Nat):Int))=(vI ((m:Int)+1)):=by exact cI I
  refine aV (L ⟨(m+1),⟨I,k8 (P:=fun _ y=>j0 l y) B hy ⟨G,I,I⟩⟩⟩ _ _ _ U os (dF.cons U<|bk U v<|dF.nil _) (aG [0,1,2,3,4]))
 refine WS fun _ d=>rP 1 [] mn ?_
 refine RK d<|ar<|Q1 hQ U U U ?_
 exact cB (ct fun h=>by have q:=h.td _ (aT hy); have q2:=q.2; first|exact G q.1|omega).symm
end
section
open Go.RowKit
theorem DC (r:bY) (kA:OA) (kC:Nat) (az:List RA) (cA:OA) (cC:Nat) (bA:OA) (bC:Nat) (slA:OA) (slC:Nat) (drA:OA) (drC:Nat) (ha:List cK) (heA:OA) (heC:Nat) (hraw:oF r az ha):
 eB Tryz.prog 36 [(vA (cm.cells (oz r kA kC cA cC bA bC slA slC drA drC heA heC)))] [(rd kA r.an.aL.length 9 (r.an.aL.map ak.cells)),(rd cA r.an.ah.length 2 (List.zipWith ao.cells r.an.ah az)),(e9 (aW ao.gP r.an.ah az)),(rd bA r.an.ae.length 4 (r.an.ae.map bE.cells)),(rd slA r.aM.length 1 (r.aM.map iC)),(rd drA r.bK.length 1 (r.bK.map iC)),(rd heA r.aq.length 1 (List.zipWith cD r.aq ha)),(e9 (aW iy r.aq ha))] (vB (decide (nR r))):=by
 have AC:=hraw.line
 have Ap:=hraw.iW
 have A1:=hraw.has
 have Ao:=hraw.jd
 have AO:=hraw.draw
 refine bG kr Tryz.func36 U U fun w0 Q hQ hN=>?_
 try dsimp only
 refine WS fun _ l=>gd U fun b2=>bo 1 U<|RK l<|aj fun _ m=>WS fun _ H=>bo 1 U<|rS (LP (bZ.cells (lJ r.an kA kC cA cC bA bC)) 0 U cj U U U)<|rS (CL (L8 r.an kA kC az cA cC bA bC asm) (bp [1,2,3,4]) U)<|rP 1 [] mn ?_
 refine dp (t:=8) U (aQ fun k=>?_) (aP fun k=>?_)
 ·refine bo 17 U<|RK H<|aR U<|WS fun _ n=>rP 1 [] mn ?_
  refine RK n<|ar<|Q1 hQ U U U ?_
  exact cB (gf (pW (.inl k))).symm
 refine rP 6 [] (mc 0 U mn) ?_
 refine dp (t:=14) U (aQ fun AB=>?_) (aP fun AB=>?_)
 ·refine bo 11 U<|RK H<|aR U<|WS fun _ o=>rP 1 [] mn ?_
  refine RK o<|ar<|Q1 hQ U U U ?_
  exact cB (gf (pW (.inr I))).symm
 refine rP 6 [] (mc 0 U mn) ?_
 refine dp (t:=20) U (aQ fun f=>?_) (aP fun f=>?_)
 ·refine bo 5 U<|RK H<|aR U<|WS fun _ p=>rP 1 [] mn ?_
  refine RK p<|ar<|Q1 hQ U U U ?_
  exact cB (gf (pW (.inr I))).symm
 refine rP 5 [] (mc 0 U mn) ?_
 refine RK H<|cP U (aQ fun h=>?_) (aP fun h=>?_)
 ·refine WS fun _ q=>rP 1 [] mn ?_
  refine RK q<|ar<|Q1 hQ U U U ?_
  exact cB (gf (pW (.inr I))).symm
 refine WK m<|aj fun _ s=>WS fun _ N=>rP 1 [] mn ?_
 refine RK N<|ax ?_
 have B:(0≤r.aq.length)∧(mg r 0):=by exact ⟨Nat.zero_le _,CX⟩
 refine bL (ι:={z:Nat // (z≤r.aq.length)∧(mg r z)}) [1] [0,1,2,3,4,5,6,7,8] U U (fun z=>[(3,(vI (z.1:Int)))]) (fun z=>[]) (fun _=>rfl) (fun _=>rfl) (fun z=>r.aq.length-z.1) ⟨0,B⟩ (aU U) (aG [0,1,2,3,4,5,6,7,8]) ?_
 clear B
 rintro ⟨i,⟨x,F⟩⟩ J11 L
 try dsimp only
 refine aj fun _ O=>WS fun _ P=>rP 5 [] (mc 0 U mn) ?_
 refine RK P<|bS U (aP fun AB=>?_) (aQ fun AB=>?_)
 ·refine bD<|ab<|ab<|ay<|KK s<|WS fun _ b=>rP 1 [] mn ?_
  refine RK b<|ar<|Q1 hQ U U U ?_
  exact cB (ct (G_ k I F I)).symm
 refine WK O<|aj fun _ R=>ax<|aj fun _ S=>WS fun _ T=>rP 3 [] (mc 0 U mn) ?_
 obtain ⟨ht,D⟩:=aJ r.aq i I
 obtain ⟨A,C⟩:=aJ ha i I
 have E:(List.zipWith cD r.aq ha)[i]? =some (cD ht A):=dG D C
 refine rS (IA i U (aC 7 U) ou dc I I)<|rS (gi i 0 (vS A.1.1 ht.length A.1.2) U cj (aC 7 U) E U dc U) ?_
 obtain ⟨A0,AS,w⟩:=hraw.m8 _ _ _ D C
 refine rP 2 [] mn ?_
 refine RK T<|cP U (aQ fun J=>?_) (aP fun J=>?_)
 ·refine WS fun _ AA=>rP 1 [] mn ?_
  refine RK AA<|ar<|Q1 hQ U U U ?_
  exact cB (gf (Cf D J)).symm
 refine WK S<|WS fun _ V=>rP 1 [] mn ?_
 refine RK V<|ax ?_
 have B:(0≤ht.length)∧(ny ht 0):=by exact ⟨Nat.zero_le _,CK⟩
 refine bL (ι:={z:Nat // (z≤ht.length)∧(ny ht z)}) [1,3] [0,1,2,3,4,5,6,7,8] U U (fun z=>[(4,(vI (z.1:Int)))]) (fun z=>[]) (fun _=>rfl) (fun _=>rfl) (fun z=>ht.length-z.1) ⟨0,B⟩ (aU U) (aG [0,1,2,3,4,5,6,7,8]) ?_
 clear B
 rintro ⟨j,⟨y,G⟩⟩ J20 M
 try dsimp only
 refine aj fun _ W=>WS fun _ X=>fY 4 [] (mc 0 U mn) U<|rS (IA i U (aC 7 U) ou dc I I)<|rS (gi i 0 (vS A.1.1 ht.length A.1.2) U cj (aC 7 U) E U dc U)<|rP 2 [] mn ?_
 refine RK X<|bS U (aP fun g=>?_) (aQ fun g=>?_)
 ·refine bD<|ab<|ab<|ay<|aH<|KK R<|al<|rP 3 [] mn ?_
  refine aA ?_
  have e:(vI (((i+1):Nat):Int))=(vI ((i:Int)+1)):=by exact cI I
  refine aV (L ⟨(i+1),⟨I,Ce F D (DU J G I)⟩⟩ _ _ _ U os (dF.cons U<|bk U e<|dF.nil _) (aG [0,1,2,3,4,5,6,7,8]))
 refine WK W<|aj fun _ Y=>ax<|WS fun _ Z=>fY 3 [] (mc 0 U mn) U<|rS (IA i U (aC 7 U) ou dc I I)<|rS (gi i 0 (vS A.1.1 ht.length A.1.2) U cj (aC 7 U) E U dc U)<|rP 1 [] mn ?_
 obtain ⟨d,hd⟩:=aJ ht j I
 obtain ⟨da,u⟩:=aJ A.2 j I
 have v:(List.zipWith aw.cells ht A.2)[j]? =some (aw.cells d da):=dG hd u
 refine rS (IA j U (show iA _ (rd A.1.1 ht.length 7 (List.zipWith aw.cells ht A.2)).holds from (dA 8 U (bM D C cq))) ug dc I I)<|rS (mW ((j*7)+4) U (show iA _ (rd A.1.1 ht.length 7 (List.zipWith aw.cells ht A.2)).holds from (dA 8 U (bM D C cq))) (Nat.mul_pos I dc) fw U)<|rS (mW (((j*7)+4)+2) U (show iA _ (rd A.1.1 ht.length 7 (List.zipWith aw.cells ht A.2)).holds from (dA 8 U (bM D C cq))) (Nat.mul_pos I dc) fw U)<|rS (gi j 6 (vS da.1 d.cv.ai.length da.2) U cj (show iA _ (rd A.1.1 ht.length 7 (List.zipWith aw.cells ht A.2)).holds from (dA 8 U (bM D C cq))) v U dc U) ?_
 have A2:=w d (aT hd)
 refine rP 2 [] mn ?_
 refine RK Z<|bS U (aP fun K=>?_) (aQ fun K=>?_)
 ·refine cr<|aH<|KK Y<|al<|rP 3 [] mn ?_
  refine aA ?_
  have c:(vI (((j+1):Nat):Int))=(vI ((j:Int)+1)):=by exact cI I
  refine aV (M ⟨(j+1),⟨I,Cu G hd K⟩⟩ _ _ _ U os (dF.cons U<|dF.cons U<|bk U c<|dF.nil _) (aG [0,1,2,3,4,5,6,7,8]))
 refine WS fun _ a=>rP 1 [] mn ?_
 refine RK a<|ar<|Q1 hQ U U U ?_
 exact cB (gf (Er D hd K)).symm
end
section
open Go.RowKit
theorem CE (l:aX) (kA:OA) (kC:Nat) (az:List RA) (cA:OA) (cC:Nat) (bA:OA) (bC:Nat) (hin:ew l az):
 eB Tryz.prog 21 [(vA (bZ.cells (lJ l kA kC cA cC bA bC)))] [(rd kA l.aL.length 9 (l.aL.map ak.cells)),(rd cA l.ah.length 2 (List.zipWith ao.cells l.ah az)),(e9 (aW ao.gP l.ah az)),(rd bA l.ae.length 4 (l.ae.map bE.cells))] (vI (dD l)):=by
 have N:=hin.sw
 have M:=hin.sr
 have K:=hin.oo
 have L:=hin.sH
 refine bG kr Tryz.func21 U U fun P Q hQ hN=>?_
 try dsimp only
 refine WS fun _ C=>gd U fun O=>bo 1 U<|RK C<|aj fun _ D=>WS fun _ E=>bo 1 U<|rS (LP (bB.cells (bB.mk (bj.mk kA l.aL.length kC))) 0 U cj U U U)<|rS (CL (wy l.aL kA kC asm) (bp [1]) U)<|rP 1 [] mn ?_
 refine RK E<|cP U (fun A=>?_) (fun A=>?_)
 ·rw [Bool.not_eq_true'] at A
  refine WS fun _ F=>rP 1 [] mn ?_
  refine RK F<|ar<|Q1 hQ U U U ?_
  exact cI (zc (by simpa using A)).symm
 rw [Bool.not_eq_false'] at A
 refine WK D<|aj fun _ G=>WS fun _ H=>fY 1 [] (mc 0 U mn) U<|rS (CL (Ow l kA kC az cA cC bA bC hin asm) (bp [1,2,3,4]) U)<|rP 1 [] mn ?_
 refine RK H<|cP U (bx fun B=>?_) (bw fun B=>?_)
 ·refine WS fun _ AA=>rP 1 [] mn ?_
  refine RK AA<|ar<|Q1 hQ U U U ?_
  exact cI (qF A B).symm
 refine WK G<|WS fun _ J=>rP 1 [] mn ?_
 refine RK J<|ar<|Q1 hQ U U U ?_
 exact cI (xG A B).symm
theorem Nt (l:aX) (kA:OA) (kC:Nat) (az:List RA) (cA:OA) (cC:Nat) (bA:OA) (bC:Nat) (s:aK) (hin:ew l az) (hok:lK l) (hs:(0≤s.f_∧s.f_≤(l.ae.length:Int)-1)∧0≤s.Read∧s.Read≤86400000):
 eB Tryz.prog 196 [(vA (bZ.cells (lJ l kA kC cA cC bA bC))),(vA (aK.cells s))] [(rd kA l.aL.length 9 (l.aL.map ak.cells)),(rd cA l.ah.length 2 (List.zipWith ao.cells l.ah az)),(e9 (aW ao.gP l.ah az)),(rd bA l.ae.length 4 (l.ae.map bE.cells))] (vT [(vA (aa.cells (cJ l s))),(vB (decide ((cJ l s).Lo≤(cJ l s).Hi)))]):=by
 have Ap:=hin.sw
 have Ao:=hin.sr
 have AO:=hin.oo
 have AS:=hin.sH
 refine bG kr Tryz.func196 U U fun w0 Q hQ hN=>?_
 try dsimp only
 refine WS fun _ i=>gd U fun b2=>gd U fun b3=>AL U dv fun b4=>rP 1 [] mn ?_
 refine RK i<|aj fun _ j=>dK cx [11,12] [] [] [0,1,2,3,4,5,6] [] U U U U U<|eS U (FA 2 U fw U)<|eS U (L1 (vS cA l.ah.length cC) 2 U cj U U)<|eS U (FA 3 U fw U)<|eS U (L1 (vS bA l.ae.length bC) 2 U cj U U)<|eS U (FA 0 U fw U)<|eS U (L1 (vI s.f_) 1 U cj U U) ?_
 obtain ⟨y,hy⟩:=aJ l.ae ((s.f_).toNat) I
 have w:=bO bE.cells hy
 refine eS U (IA ((s.f_).toNat) U (aC 6 U) vo dc I I)<|eS U (mW ((((s.f_).toNat)*4)+3) U (aC 6 U) (Nat.mul_pos I dc) fw U)<|eS U (gi ((s.f_).toNat) 3 (vI y.jk) U cj (aC 6 U) w U dc U) ?_
 have A0:=(hok.td _ (aT hy)).2
 obtain ⟨x,hx⟩:=aJ l.ah ((y.jk).toNat) I
 obtain ⟨xa,J⟩:=aJ az ((y.jk).toNat) I
 have u:(List.zipWith ao.cells l.ah az)[(y.jk).toNat]? =some (ao.cells x xa):=dG hx J
 refine eS U (IA ((y.jk).toNat) U (aC 4 U) uQ dc I I)<|eS U (oY ((y.jk).toNat) 0 (dx.cells (dx.mk x.dq (bj.mk xa.1 x.aN.length xa.2))) U cj (aC 4 U) u U dc U U)<|eT U<|cf U fun T6 m=>AL U Ov fun b7=>aA (m _ _ (aG [1,2,3,4,5,6,7]) ?_)
 refine cf U fun T8 o=>gl U TZ U<|aA (o _ _ (aG [1,2,3,4,5,6,7]) ?_)
 refine fO U<|KK j<|WS fun _ k=>rP 2 [] mn ?_
 refine RK k<|aj fun _ K=>ax ?_
 have A:(0≤(0:Int)∧(0:Int)≤(ek (fW x s.Read) 86400001))∧((ek (fW x s.Read) 86400001)≤(86400001:Int)∧(86400001:Int)≤86400001):=by (have Z:=hE (p:=fW x s.Read) (n:=86400001); omega)
 refine bL (ι:={z:Int×Int // (0≤z.1∧z.1≤(ek (fW x s.Read) 86400001))∧((ek (fW x s.Read) 86400001)≤z.2∧z.2≤86400001)}) [2,3,4,6] [0,1,2,3,4,5,6,7] U U (fun z=>[(7,(vI z.1.1)),(8,(vI z.1.2))]) (fun z=>[]) (fun _=>rfl) (fun _=>rfl) (fun z=>(z.1.2-z.1.1).toNat) ⟨((0:Int),(86400001:Int)),A⟩ (aU U) (aG [0,1,2,3,4,5,6,7]) ?_
 clear A
 rintro ⟨⟨a,b⟩,⟨H,AB⟩⟩ J11 F
 try dsimp only at H AB
 try dsimp only
 have B:=hok.clock _ (aT hx)
 have Z:=hE (p:=fW x s.Read) (n:=86400001)
 have Y:=hE (p:=fU x s.Read) (n:=86400001)
 refine aj fun _ L=>WS fun _ M=>rP 3 [] mn ?_
 refine RK M<|cP U (aQ fun c=>?_) (aP fun c=>?_)
 ·refine WK L<|ax<|WS fun _ N=>bo 3 U<|rS (BI U (t_ I I I))<|bo 1 U<|RK N<|aj fun _ O=>dH cx 9 kr<|dP 3 [] (mc 0 U mn) ?_
  refine dS (CL (CA x xa.1 xa.2 ((a+b)/2) asm I) (au (show iA _ (rd xa.1 x.aN.length 3 (x.aN.map bJ.cells)).holds from (dA 6 U (bM hx J (by simp [ao.gP]))))<|aI) U)<|dS (SX (lk (v:=(vI ((eO x ((a+b)/2)).Hi))) U U fw AU U) U U) ?_
  have t:=qX B (show 0≤(a+b)/2∧(a+b)/2≤90000000 by omega)
  refine dP 4 [] (mc 2 U mn) ?_
  refine cQ<|RK O<|cP U (aQ fun g=>?_) (aP fun g=>?_)
  ·refine al<|rP 2 [] mn ?_
   refine aA<|aH ?_
   refine aV (F ⟨(a,((a+b)/2)),(by dsimp only; have hm:=k9 (r:=s.Read) B (x:=(a+b)/2) I I; rcases Int.lt_or_le ((a+b)/2) (ek (fW x s.Read) 86400001) with q|q; (have C:=hm.1 q; simp only [fW,decide_eq_false_iff_not] at C; omega); (have C:=hm.2.1 q; simp only [fW,decide_eq_true_eq] at C; omega))⟩ _ _ _ rfl (by simp only []; omega) (aU rfl) (aG [0,1,2,3,4,5,6,7]))
  refine al<|rP 3 [] mn ?_
  refine aA<|aH ?_
  refine aV (F ⟨((((a+b)/2)+1),b),(by dsimp only; have hm:=k9 (r:=s.Read) B (x:=(a+b)/2) I I; rcases Int.lt_or_le ((a+b)/2) (ek (fW x s.Read) 86400001) with q|q; (have C:=hm.1 q; simp only [fW,decide_eq_false_iff_not] at C; omega); (have C:=hm.2.1 q; simp only [fW,decide_eq_true_eq] at C; omega))⟩ _ _ _ rfl (by simp only []; omega) (aU rfl) (aG [0,1,2,3,4,5,6,7]))
 refine bD<|ab<|ab<|ay<|KK K<|WS fun _ P=>bo 2 U<|RK P<|WS fun _ R=>rP 2 [] mn ?_
 refine RK R<|aj fun _ S=>ax ?_
 have A:(-1≤((-1):Int)∧((-1):Int)≤(ek (fU x s.Read) 86400001)-1)∧((ek (fU x s.Read) 86400001)-1≤(86400000:Int)∧(86400000:Int)≤86400000):=by (have Y:=hE (p:=fU x s.Read) (n:=86400001); omega)
 refine bL (ι:={z:Int×Int // (-1≤z.1∧z.1≤(ek (fU x s.Read) 86400001)-1)∧((ek (fU x s.Read) 86400001)-1≤z.2∧z.2≤86400000)}) [2,3,4,6,10] [0,1,2,3,4,5,6,7] U U (fun z=>[(7,(vI z.1.1)),(8,(vI z.1.2))]) (fun z=>[]) (fun _=>rfl) (fun _=>rfl) (fun z=>(z.1.2-z.1.1).toNat) ⟨(((-1):Int),(86400000:Int)),A⟩ (aU U) (aG [0,1,2,3,4,5,6,7]) ?_
 clear A
 rintro ⟨⟨d,e⟩,⟨D,E⟩⟩ J20 G
 try dsimp only at D E
 try dsimp only
 have B:=hok.clock _ (aT hx)
 have Z:=hE (p:=fW x s.Read) (n:=86400001)
 have Y:=hE (p:=fU x s.Read) (n:=86400001)
 refine aj fun _ T=>WS fun _ AA=>rP 3 [] mn ?_
 refine RK AA<|bS U (aP fun f=>?_) (aQ fun f=>?_)
 ·refine bD<|ab<|ab<|ay<|KK S<|WS fun _ X=>bo 2 U<|rS (SX (bh (xs:=[(0,.tmp 63),(1,.tmp 64)]) (cs:=(aa.cells (aa.mk a d))) U U (bg gH U)) U U)<|bo 3 U<|ti U cy U<|rP 1 [] mn ?_
  refine RK X<|ar<|lP hQ [0] (mc 1 U mn) U ?_
  have e0:cJ l s=⟨a,d⟩:=by (unfold cJ m7; rw [wT hy hx,show a=(ek (fW x s.Read) 86400001) by omega,show d=(ek (fU x s.Read) 86400001)-1 by omega])
  rw [e0]
 refine WK T<|ax<|WS fun _ V=>bo 4 U<|rS (BI U (t_ I I I))<|bo 1 U<|RK V<|aj fun _ W=>dH cx 9 kr<|dP 3 [] (mc 0 U mn) ?_
 refine dS (CL (CA x xa.1 xa.2 (((d+e)+1)/2) asm I) (au (show iA _ (rd xa.1 x.aN.length 3 (x.aN.map bJ.cells)).holds from (dA 6 U (bM hx J (by simp [ao.gP]))))<|aI) U)<|dS (SX (lk (v:=(vI ((eO x (((d+e)+1)/2)).Lo))) U U fw Af U) U U) ?_
 have t:=qX B (show 0≤(d+e+1)/2∧(d+e+1)/2≤90000000 by omega)
 refine dP 4 [] (mc 2 U mn) ?_
 refine cQ<|RK W<|cP U (aQ fun h=>?_) (aP fun h=>?_)
 ·refine al<|rP 2 [] mn ?_
  refine aA<|aH ?_
  refine aV (G ⟨((((d+e)+1)/2),e),(by dsimp only; have hm:=k9 (r:=s.Read) B (x:=(d+e+1)/2) I I; rcases Int.lt_or_le ((d+e+1)/2) (ek (fU x s.Read) 86400001) with q|q; (have C:=hm.2.2.1 q; simp only [fU,decide_eq_false_iff_not] at C; omega); (have C:=hm.2.2.2 q; simp only [fU,decide_eq_true_eq] at C; omega))⟩ _ _ _ rfl (by simp only []; omega) (aU rfl) (aG [0,1,2,3,4,5,6,7]))
 refine al<|rP 3 [] mn ?_
 refine aA<|aH ?_
 refine aV (G ⟨(d,((((d+e)+1)/2)-1)),(by dsimp only; have hm:=k9 (r:=s.Read) B (x:=(d+e+1)/2) I I; rcases Int.lt_or_le ((d+e+1)/2) (ek (fU x s.Read) 86400001) with q|q; (have C:=hm.2.2.1 q; simp only [fU,decide_eq_false_iff_not] at C; omega); (have C:=hm.2.2.2 q; simp only [fU,decide_eq_true_eq] at C; omega))⟩ _ _ _ rfl (by simp only []; omega) (aU rfl) (aG [0,1,2,3,4,5,6,7]))
end
section
def dg (good:List Int):aB:=good.foldl (fun t g=>dw t (fx g)) ⟨0,0⟩
theorem j7 {l:List Int} {g:Int}:dg (l++[g])=dw (dg l) (fx g):=by unfold dg; rw [List.foldl_append]; rfl
def uf (r:cE) (times:List Int) (b:Nat):Int:=if b=0 then r.Start else (times[b-1]?).getD 0
theorem pU {r:cE} {times:List Int} {b:Nat} {t:Int} (h:times[b]? =some t):uf r times (b+1)=t:=by unfold uf; rw [if_neg I,Nat.add_sub_cancel,h]; rfl
structure g7 (l:aX) (r:cE) (times good:List Int):Prop where
 yL:fD l r
 len:good.length=times.length
 le:times.length≤l.ae.length
 step: ∀ (b:Nat) t,times[b]? =some t→uf r times b+dT l b≤t∧t≤r.gp
 sig: ∀ (b:Nat) t g,times[b]? =some t→good[b]? =some g→g= -1∨ ∃ (k:Nat) (s:aK),g=(k:Int)∧r.ai[k]? =some s∧s.f_=(b:Int)∧(cJ l s).Lo≤t∧t≤(cJ l s).Hi
 KT:(dg good).e7≤l.cw
 Ta:(r.ai.length:Int)-(dg good).right≤l.dN
section
variable {l:aX} {r:cE} {times good:List Int}
theorem g7.low (h:g7 l r times good) (hl:dD l=0): ∀ b,0≤bR (b_ l r) b:=fun b=>by
 obtain ⟨ht,A⟩:=gj hl
 exact ((pt ht A h.yL).bR b).1
theorem g7.least (h:g7 l r times good) {b:Nat} (hb:b<times.length):bR (b_ l r) b=dT l b:=by
 have:=h.le
 rw [zQ,if_pos I]
theorem g7.from_ (h:g7 l r times good) (hl:dD l=0): ∀ b:Nat,b≤times.length→r.Start≤uf r times b∧uf r times b≤r.gp:=by
 intro b
 induction b with
 |zero=>intro _; have:=h.yL.time; unfold uf; rw [if_pos rfl]; omega
 |succ b ih=>
  intro hb
  have ht:times[b]? =some (times[b]'I):=fc _
  have B:=ih I
  have C:=h.step b _ ht
  have A:=h.low hl b
  rw [h.least I] at A
  rw [pU ht]
  omega
/-- what comes next, in the truth -/
theorem g7.opt (h:g7 l r times good) (hl:dD l=0) {b:Nat} {t g:Int} (ht:times[b]? =some t) (hg:good[b]? =some g): ∃ o∈iv (b_ l r) b,o.1=g∧o.2.Lo≤t∧t≤o.2.Hi:=by
 have hb:=(aY.1 ht).1
 have E:=h.le
 have F:=h.step b t ht
 have G:=h.from_ hl b I
 have B:=h.low hl b
 rw [h.least hb] at B
 rcases h.sig b t g ht hg with rfl|⟨k,s,rfl,hs,A,C,D⟩
 ·exact ⟨(-1,⟨r.Start,r.gp⟩),(q_ I).2 (.inl U),U,by simp only; omega,by simp only; omega⟩
 ·exact ⟨((k:Int),cJ l s),(q_ I).2 (.inr ⟨k,(aY.1 hs).1,s,hs,⟨A,I⟩,U⟩),U,C,D⟩
theorem mm {α:Type} {l:List α} {b:Nat} {x:α} (h:l[b]? =some x):l.take (b+1)=l.take b++[x]:=by rw [List.take_add_one,h]; rfl
theorem g7.live (h:g7 l r times good) (hl:dD l=0): ∀ b:Nat,b≤times.length→DI (b_ l r) b (dg (good.take b),uf r times b):=by
 intro b
 induction b with
 |zero=>intro _; exact ⟨r.Start,by simp [fwd,dg]; rfl,by unfold uf; rw [if_pos rfl]; exact Int.le_refl _⟩
 |succ b ih=>
  intro hb
  have B:=h.len
  have ht:times[b]? =some (times[b]'I):=fc _
  have hg:good[b]? =some (good[b]'I):=fc _
  obtain ⟨v,hv,A⟩:=ih I
  obtain ⟨o,ho,e,C,D⟩:=h.opt hl ht hg
  have E:=h.step b _ ht
  have F:=h.least (b:=b) I
  simp only at A hv
  rw [pU ht,mm hg,j7,← e]
  refine ⟨max (v+bR (b_ l r) b) o.2.Lo,fu.2 ⟨_,hv,o,ho,gW.2 ⟨?_,U⟩⟩,?_⟩
  ·have G:(b_ l r).gp=r.gp:=rfl
   simp only; omega
  ·simp only; omega
theorem g7.PX (h:g7 l r times good) (hl:dD l=0): ∀ (d b:Nat),b+d=times.length→s8 (b_ l r) b (dg (good.take b),uf r times b):=by
 intro d
 induction d with
 |zero=>
  intro b hb
  have hn:(b_ l r).n=l.ae.length:=dR
  have C:=h.len
  have D:=h.le
  refine ⟨0,I,_,by simp [gn]; rfl,?_⟩
  rw [List.take_of_length_le I]
  unfold j_
  have A:=h.KT
  have B:=h.Ta
  exact gf ⟨A,B⟩
 |succ d ih=>
  intro b hb
  have C:=h.len
  have ht:times[b]? =some (times[b]'I):=fc _
  have hg:good[b]? =some (good[b]'I):=fc _
  obtain ⟨o,ho,e,D,A⟩:=h.opt hl ht hg
  have B:=h.step b _ ht
  have E:=h.least (b:=b) I
  have F:(b_ l r).gp=r.gp:=rfl
  have hv:=ih (b+1) I
  rw [pU ht,mm hg,j7,← e] at hv
  exact uP (k:=1) (iB.2 ⟨o,ho,_,gW.2 ⟨by first|omega|(simp only; omega),U⟩,by simp [gn]; rfl⟩) (xx hv (by first|omega|(simp only; omega)))
theorem g7.pass (h:g7 l r times good) (hl:dD l=0) {b:Nat} {t g:Int} (ht:times[b]? =some t) (hg:good[b]? =some g):wR (b_ l r) b g t:=by
 have hb:=(aY.1 ht).1
 obtain ⟨v,hv,A⟩:=h.live hl b I
 obtain ⟨o,ho,e,B,C⟩:=h.opt hl ht hg
 have D:=h.step b _ ht
 have E:=h.least (b:=b) hb
 have F:(b_ l r).gp=r.gp:=rfl
 have hw:=h.PX hl (times.length-(b+1)) (b+1) I
 rw [pU ht,mm hg,j7,← e] at hw
 simp only at A
 exact ⟨_,hv,o,ho,e,⟨by simp only; omega,I⟩,hw⟩
theorem g7.num (h:g7 l r times good) (hl:dD l=0):(times.length:Int)∈jW (b_ l r):=by
 obtain ⟨v,hv,_⟩:=h.live hl times.length (Nat.le_refl _)
 have hn:(b_ l r).n=l.ae.length:=dR
 have B:=h.le
 refine o4.2 ⟨times.length,U,I,?_⟩
 unfold jF
 refine List.any_eq_true.2 ⟨_,hv,?_⟩
 have A:=h.len
 rw [List.take_of_length_le I]
 unfold j_
 exact gf ⟨h.KT,h.Ta⟩
theorem g7.e (h:g7 l r times good) (hl:dD l=0):eg l r 0=0:=lW hl h.yL rfl fun e=>by have:=h.num hl; rw [e] at this; cases this
theorem g7.Bm (h:g7 l r times good) (hl:dD l=0):(times.length:Int)∈lu l r:=by rw [l9 (h.e hl)]; exact h.num hl
theorem g7.clear (h:g7 l r times good) (hl:dD l=0):(ER l r=2→l.bU<(times.length:Int))∧(ER l r=0→(times.length:Int)≤l.bU):=by
 have hm:=h.Bm hl
 have A:=(GU (uM (h.e hl))).2 _ hm
 have B:=(O9 (uM (h.e hl))).2 _ hm
 unfold ER
 rw [if_pos (h.e hl)]
 constructor
 ·intro q
  split at q
  ·omega
  ·split at q<;>omega
 ·intro q
  split at q
  ·omega
  ·split at q<;>omega
theorem g7.z_ (h:g7 l r times good) (hl:dD l=0) {b:Nat} {t:Int} (ht:times[b]? =some t):de l r b=0∧(dy l r b).Lo≤t∧t≤(dy l r b).Hi:=by
 have hb:=(aY.1 ht).1
 have C:=h.len
 have D:=h.le
 have hg:good[b]? =some (good[b]'I):=fc _
 have hn:(b_ l r).n=l.ae.length:=dR
 obtain ⟨q,hq,_,A,B⟩:=(ow (h.low hl) I).2 (h.pass hl ht hg)
 have hh:=wF (l:=eU (b_ l r) b) (fun q hq=>iN hq) hq
 have ho:eg l r (iP l b)=0:=by rw [rR I]; exact h.e hl
 have e:=iY ho hh.ne
 refine ⟨e.1,?_⟩
 rw [e.2]
 have:=hh.all q hq
 exact ⟨Int.le_trans this.1 A,Int.le_trans B this.2⟩
theorem g7.Vb (h:g7 l r times good) (hl:dD l=0) {b:Nat} {t:Int} (ht:times[b]? =some t) (hf:l.bU=(b:Int)):de l r l.bU=0∧(se l r).Lo≤t-r.Start∧t-r.Start≤(se l r).Hi:=by
 have A:=h.z_ hl ht
 rw [← hf] at A
 refine ⟨A.1,?_⟩
 rw [s_ A.1]
 simp only
 omega
end
end
section
def gR (hi:Int→Int) (least:Nat→Int) (now:Int):Nat→List Int→List Int×Int
 |_,[]=>([],now)
 |b,x::xs=>((if 0≤x then min (gR hi least now (b+1) xs).2 (hi x) else (gR hi least now (b+1) xs).2)::(gR hi least now (b+1) xs).1,(if 0≤x then min (gR hi least now (b+1) xs).2 (hi x) else (gR hi least now (b+1) xs).2)-least b)
def gD (t:Int):List Int→Int
 |[]=>t
 |x::xs=>gD x xs
def j2 (w:bT):Nat→Int→List Int→List Int→Prop
 |_,_,[],[]=>True
 |b,t,x::rs,y::fs=>(∃ o∈iv w b,o.1=x∧max (t+bR w b) o.2.Lo≤min o.2.Hi w.gp∧y=max (t+bR w b) o.2.Lo)∧j2 w (b+1) y rs fs
 |_,_,_,_=>False
section
variable {w:bT} {hi:Int→Int} {least:Nat→Int} {now:Int}
theorem rF: ∀ (b:Nat) (rs:List Int),(gR hi least now b rs).1.length=rs.length
 |_,[]=>rfl
 |b,x::xs=>by simp only [gR,List.length_cons]; rw [rF]
theorem nE: ∀ (t:Int) (fs:List Int) (y:Int),gD t (fs++[y])=y
 |_,[],_=>rfl
 |t,x::fs,y=>nE x fs y
theorem BJ: ∀ (t:Int) (fs:List Int) (y:Int),fs[fs.length-1]? =some y→gD t fs=y
 |t,[],y,h=>by simp at h
 |t,[x],y,h=>by simpa [gD] using h
 |t,x::x2::fs,y,h=>by
  show gD x (x2::fs)=y
  exact BJ x (x2::fs) y (by simpa using h)
theorem ue: ∀ (b:Nat) (rs:List Int) (x:Int) (ss:List Int),(gR hi least now b (rs++x::ss)).1[rs.length]? =some (if 0≤x then min (gR hi least now (b+rs.length+1) ss).2 (hi x) else (gR hi least now (b+rs.length+1) ss).2)
 |b,[],x,ss=>by simp [gR]
 |b,z::rs,x,ss=>by
  have:=ue (b+1) rs x ss
  simp only [List.cons_append,gR,List.length_cons,List.getElem?_cons_succ]
  rw [this,show b+1+rs.length+1=b+(rs.length+1)+1 by omega]
theorem ku: ∀ (b:Nat) (t:Int) (rs fs:List Int),j2 w b t rs fs→fs.length=rs.length
 |_,_,[],[],_=>rfl
 |b,t,x::rs,y::fs,h=>by simp [ku _ _ rs fs h.2]
 |_,_,[],_::_,h=>h.elim
 |_,_,_::_,[],h=>h.elim
theorem rD: ∀ (b:Nat) (t:Int) (rs fs ss gs:List Int),fs.length=rs.length→(j2 w b t (rs++ss) (fs++gs)↔j2 w b t rs fs∧j2 w (b+rs.length) (gD t fs) ss gs)
 |b,t,[],[],ss,gs,_=>by simp [j2,gD]
 |b,t,x::rs,y::fs,ss,gs,h=>by
  have ih:=rD (b+1) y rs fs ss gs (by simpa using h)
  simp only [List.cons_append,j2,List.length_cons,gD]
  rw [ih,show b+1+rs.length=b+(rs.length+1) by omega,and_assoc]
 |_,_,[],_::_,_,_,h=>by simp at h
 |_,_,_::_,[],_,_,h=>by simp at h
theorem E6 (b:List Int): ∀ t:aB,b.foldl (fun t g=>dw t (fx g)) t=dw t (dg b):=by
 induction b with
 |nil=>intro t; exact (nG t).symm
 |cons x b ih=>
  intro t
  show b.foldl (fun t g=>dw t (fx g)) (dw t (fx x))=dw t (b.foldl (fun t g=>dw t (fx g)) (dw ⟨0,0⟩ (fx x)))
  rw [ih,ih]; simp only [dw,aB.mk.injEq]; omega
theorem rl (a b:List Int):dg (a++b)=dw (dg a) (dg b):=by
 show (a++b).foldl _ _=_
 rw [List.foldl_append,E6]; rfl
theorem rE:dg []=(⟨0,0⟩:aB):=rfl
theorem pQ (l:List Int):dw (⟨0,0⟩:aB) (dg l)=dg l:=by simp [dw]
theorem sP (x:Int) (l:List Int):dg (x::l)=dw (fx x) (dg l):=by
 rw [show x::l=[x]++l from rfl,rl,show dg [x]=fx x from (j7 (l:=[])).trans (by rw [rE]; simp [dw])]
theorem tT: ∀ l:List Int,0≤(dg l).right∧0≤(dg l).e7∧(dg l).right+(dg l).e7=(l.length:Int)
 |[]=>by rw [rE]; simp
 |x::l=>by
  rw [sP]
  have:=ve x
  have:=tT l
  simp only [dw,List.length_cons]
  omega
/-- chains are what the watch goes through -/
theorem kf: ∀ (k b:Nat) (p q:aB×Int),q∈gn w k b p↔ ∃ rs fs,rs.length=k∧j2 w b p.2 rs fs∧q=(dw p.1 (dg rs),gD p.2 fs):=by
 intro k
 induction k with
 |zero=>
  intro b p q
  simp only [gn,bH]
  constructor
  ·rintro rfl; exact ⟨[],[],rfl,trivial,by rw [rE,nG]; rfl⟩
  ·rintro ⟨rs,fs,A,B,rfl⟩
   have A:=jX A
   subst A
   have:=jX (ku _ _ _ _ B)
   subst this
   rw [rE,nG]; rfl
 |succ k ih=>
  intro b p q
  rw [iB]
  constructor
  ·rintro ⟨o,ho,p',e,h⟩
   obtain ⟨A,rfl⟩:=gW.1 e
   obtain ⟨rs,fs,B,C,rfl⟩:=(ih _ _ _).1 h
   refine ⟨o.1::rs,max (p.2+bR w b) o.2.Lo::fs,by simp [B],⟨⟨o,ho,U,A,U⟩,C⟩,?_⟩
   rw [sP]
   simp only [gD,dw,Prod.mk.injEq,aB.mk.injEq,and_true]; omega
  ·rintro ⟨rs,fs,A,B,rfl⟩
   cases rs with
   |nil=>simp at A
   |cons x rs=>
    cases fs with
    |nil=>exact B.elim
    |cons y fs=>
     obtain ⟨⟨o,ho,rfl,C,rfl⟩,D⟩:=B
     refine ⟨o,ho,_,gW.2 ⟨C,U⟩,(ih _ _ _).2 ⟨rs,fs,by simpa using A,D,?_⟩⟩
     rw [sP]
     simp only [gD,dw,Prod.mk.injEq,aB.mk.injEq,and_true]; omega
/-- what the reference's rows of last times know -/
structure Mh (w:bT) (hi:Int→Int) (least:Nat→Int) (now:Int):Prop where
 low: ∀ b,0≤bR w b
 least: ∀ b,b<w.n→least b=bR w b
 now:now=w.gp
 hi: ∀ b o,b<w.n→o∈iv w b→0≤o.1→o.2.Hi=hi o.1
 none_: ∀ b o,b<w.n→o∈iv w b→ ¬ 0≤o.1→o.2.Hi=w.gp
theorem xT (h:Mh w hi least now): ∀ (b:Nat) (rs:List Int),b+rs.length≤w.n→(gR hi least now b rs).2≤w.gp
 |_,[],_=>by simp only [gR]; exact Int.le_of_eq h.now
 |b,x::xs,hb=>by
  simp only [List.length_cons] at hb
  have B:=xT h (b+1) xs I
  have A:=h.low b
  rw [← h.least b I] at A
  simp only [gR]
  split<;>omega
theorem rz (h:Mh w hi least now): ∀ (b:Nat) (t:Int) (rs fs:List Int),b+rs.length≤w.n→t≤w.gp→j2 w b t rs fs→t≤(gR hi least now b rs).2
 |_,t,[],[],_,ht,_=>by simp only [gR]; rw [h.now]; exact ht
 |b,t,x::rs,y::fs,hb,ht,hc=>by
  simp only [List.length_cons] at hb
  obtain ⟨⟨o,ho,rfl,D,rfl⟩,A⟩:=hc
  have B:=rz h (b+1) _ rs fs I I A
  have C:=h.least b I
  simp only [gR]
  split
  ·rename_i q
   have:=h.hi b o I ho q
   omega
  ·omega
 |_,_,[],_::_,_,_,hc=>hc.elim
 |_,_,_::_,[],_,_,hc=>hc.elim
theorem xM (h:Mh w hi least now): ∀ (b:Nat) (t t':Int) (rs fs:List Int),b+rs.length≤w.n→t≤t'→t'≤(gR hi least now b rs).2→j2 w b t rs fs→ ∃ gs,j2 w b t' rs gs
 |_,t,_,[],[],_,_,_,_=>⟨[],trivial⟩
 |b,t,t',x::rs,y::fs,hb,ht,he,hc=>by
  simp only [List.length_cons] at hb
  obtain ⟨⟨o,ho,rfl,E,rfl⟩,A⟩:=hc
  have C:=rz h (b+1) _ rs fs I I A
  have D:=h.least b I
  have F:=xT h (b+1) rs I
  simp only [gR] at he
  have B:max (t'+bR w b) o.2.Lo≤min o.2.Hi w.gp∧max (t'+bR w b) o.2.Lo≤(gR hi least now (b+1) rs).2:=by
   split at he
   ·rename_i q
    have:=h.hi b o I ho q
    omega
   ·rename_i q
    have:=h.none_ b o I ho q
    omega
  obtain ⟨gs,hg⟩:=xM h (b+1) _ (max (t'+bR w b) o.2.Lo) rs fs I I B.2 A
  exact ⟨_::gs,⟨o,ho,U,B.1,U⟩,hg⟩
 |_,_,_,[],_::_,_,_,_,hc=>hc.elim
 |_,_,_,_::_,[],_,_,_,hc=>hc.elim
theorem Dq (b:Nat) (t t':Int) (rs fs:List Int) (ht:t'≤t) (hc:j2 w b t rs fs): ∃ gs,j2 w b t' rs gs:=by
 have A:(dw ⟨0,0⟩ (dg rs),gD t fs)∈gn w rs.length b (⟨0,0⟩,t):=(kf _ _ _ _).2 ⟨rs,fs,rfl,hc,rfl⟩
 clear A
 induction rs generalizing b t t' fs with
 |nil=>exact ⟨[],trivial⟩
 |cons x rs ih=>
  cases fs with
  |nil=>exact hc.elim
  |cons y fs=>
   obtain ⟨⟨o,ho,rfl,C,rfl⟩,B⟩:=hc
   obtain ⟨gs,hg⟩:=ih (b+1) _ (max (t'+bR w b) o.2.Lo) fs I B
   exact ⟨_::gs,⟨o,ho,U,I,U⟩,hg⟩
/-- a way, as it is asked for -/
structure Pb (w:bT) (hi:Int→Int) (least:Nat→Int) (now:Int) (y:dj):Prop where
 chain:j2 w 0 w.Start y.gJ y.i_
 len:y.gJ.length≤w.n
 last:y.l0=(gR hi least now 0 y.gJ).1
 may:j_ w (dg y.gJ)=true
theorem BE {k:Nat}:jF w (fwd w k)=true↔ ∃ rs fs,rs.length=k∧j2 w 0 w.Start rs fs∧j_ w (dg rs)=true:=by
 unfold jF
 rw [List.any_eq_true]
 have e:=fun q=>(rU (w:=w) k 0 q)
 rw [Nat.zero_add] at e
 constructor
 ·rintro ⟨q,hq,hm⟩
  obtain ⟨p,hp,h⟩:=(e q).1 hq
  simp only [fwd,bH] at hp
  subst hp
  obtain ⟨rs,fs,A,B,rfl⟩:=(kf _ _ _ _).1 h
  refine ⟨rs,fs,A,B,?_⟩
  rwa [pQ] at hm
 ·rintro ⟨rs,fs,A,B,C⟩
  refine ⟨_,(e _).2 ⟨((⟨0,0⟩:aB),w.Start),bH.2 U,(kf _ _ _ _).2 ⟨rs,fs,A,B,U⟩⟩,?_⟩
  simp only [pQ]; exact C
theorem Ku (h:Mh w hi least now) (hs:w.Start≤w.gp) {b:Nat} (hb:b<w.n) {s t:Int}:wR w b s t↔ ∃ y,Pb w hi least now y∧ ∃ f e,y.gJ[b]? =some s∧y.i_[b]? =some f∧y.l0[b]? =some e∧f≤t∧t≤e:=by
 have ef:=fun q=>(rU (w:=w) b 0 q)
 rw [Nat.zero_add] at ef
 constructor
 ·rintro ⟨p,hp,o,ho,rfl,⟨C,L⟩,k,hk,q,hq,hm⟩
  obtain ⟨Y,AB,hp⟩:=(ef p).1 hp
  simp only [fwd,bH] at AB
  subst AB
  obtain ⟨rs,fs,K,D,rfl⟩:=(kf _ _ _ _).1 hp
  obtain ⟨ss,gs,AA,E,rfl⟩:=(kf _ _ _ _).1 hq
  simp only at C L D E hm
  obtain ⟨gs',J⟩:=Dq (b+1) t (max (gD w.Start fs+bR w b) o.2.Lo) ss gs C E
  have H:=ku _ _ _ _ D
  have T:=ku _ _ _ _ J
  have hc:j2 w 0 w.Start (rs++o.1::ss) (fs++max (gD w.Start fs+bR w b) o.2.Lo::gs'):=(rD _ _ _ _ _ _ H).2 ⟨D,by rw [Nat.zero_add,K]; exact ⟨⟨o,ho,rfl,I,rfl⟩,J⟩⟩
  have he:=rz h (b+1) t ss gs I I E
  have A:=ue (hi:=hi) (least:=least) (now:=now) 0 rs o.1 ss
  rw [Nat.zero_add,K] at A
  refine ⟨⟨rs++o.1::ss,fs++max (gD w.Start fs+bR w b) o.2.Lo::gs',(gR hi least now 0 (rs++o.1::ss)).1⟩,⟨hc,by simp; omega,U,?_⟩,max (gD w.Start fs+bR w b) o.2.Lo,_,?_,?_,A,C,?_⟩
  ·show j_ w (dg (rs++o.1::ss))=true
   rw [show rs++o.1::ss=(rs++[o.1])++ss by simp,rl,j7]
   rwa [pQ] at hm
  ·show (rs++o.1::ss)[b]? =some o.1
   rw [List.getElem?_append_right I,K,Nat.sub_self]; rfl
  ·show (fs++_::gs')[b]? =_
   rw [List.getElem?_append_right I,H,K,Nat.sub_self]; rfl
  ·split
   ·rename_i q
    have:=h.hi b o hb ho q
    omega
   ·exact he
 ·rintro ⟨y,hy,f,e,C,L,P,Q,V⟩
  obtain ⟨R,F,La⟩:=y
  obtain ⟨hc,hn,A,hm⟩:=hy
  simp only at C L P hc hn A hm
  have N:=(aY.1 C).1
  have S:=ku _ _ _ _ hc
  have eR:R=R.take b++s::R.drop (b+1):=by rw [← (aY.1 C).2]; exact (List.take_append_drop b R).symm.trans (by rw [List.drop_eq_getElem_cons N])
  have M:b<F.length:=by omega
  have eF:F=F.take b++f::F.drop (b+1):=by rw [← (aY.1 L).2]; exact (List.take_append_drop b F).symm.trans (by rw [List.drop_eq_getElem_cons M])
  rw [eR,eF,rD _ _ _ _ _ _ (by simp only [List.length_take]; omega)] at hc
  have O:(R.take b).length=b:=by rw [List.length_take]; omega
  rw [O,Nat.zero_add] at hc
  obtain ⟨D,⟨o,ho,rfl,W,rfl⟩,E⟩:=hc
  have B:=ue (hi:=hi) (least:=least) (now:=now) 0 (R.take b) o.1 (R.drop (b+1))
  rw [← eR,O,Nat.zero_add,← A,P] at B
  have B:=Option.some.inj B
  have G:t≤(gR hi least now (b+1) (R.drop (b+1))).2∧t≤min o.2.Hi w.gp:=by
   have X:=xT h (b+1) (R.drop (b+1)) (by rw [List.length_drop]; omega)
   split at B
   ·rename_i q
    have:=h.hi b o hb ho q
    omega
   ·rename_i q
    have:=h.none_ b o hb ho q
    omega
  obtain ⟨gs,J⟩:=xM h (b+1) _ t (R.drop (b+1)) (F.drop (b+1)) (by rw [List.length_drop]; omega) Q G.1 E
  refine ⟨(dw ⟨0,0⟩ (dg (R.take b)),gD w.Start (F.take b)),(ef _).2 ⟨((⟨0,0⟩:aB),w.Start),bH.2 U,(kf _ _ _ _).2 ⟨_,_,O,D,U⟩⟩,o,ho,U,⟨Q,G.2⟩,(R.drop (b+1)).length,by rw [List.length_drop]; omega,_,(kf _ _ _ _).2 ⟨_,gs,U,J,U⟩,?_⟩
  show j_ w (dw (dw (dw ⟨0,0⟩ (dg (R.take b))) (fx o.1)) (dg (R.drop (b+1))))=true
  rw [pQ,← j7,← rl,show R.take b++[o.1]++R.drop (b+1)=R from by rw [List.append_assoc]; exact eR.symm]
  exact hm
end
noncomputable def MW (l:aX) (r:cE) (x:Int):Int:=match r.ai[x.toNat]? with
 |some s=>(cJ l s).Hi
 |none=>0
theorem Fm {l:aX} {r:cE} {x:Int} {s:aK} (h:r.ai[x.toNat]? =some s):MW l r x=(cJ l s).Hi:=by unfold MW; rw [h]
noncomputable def jH (l:aX) (r:cE) (rs:List Int):List Int:=(gR (MW l r) (dT l) r.gp 0 rs).1
noncomputable def pn (l:aX) (r:cE) (n:Nat) (t i:Int):Option Int:=
 if i<0 then (if t≤r.gp then some t else none) else match r.ai[i.toNat]? with
  |some s=>if (s.f_=(n:Int)∧(cJ l s).Lo≤(cJ l s).Hi)∧max t (cJ l s).Lo≤min r.gp (cJ l s).Hi then some (max t (cJ l s).Lo) else none
  |none=>none
noncomputable def hO (l:aX) (r:cE) (rs fs:List Int):List dj:=if (r.ai.length:Int)-(dg rs).right≤l.dN then [⟨rs,fs,jH l r rs⟩] else []
noncomputable def iw (l:aX) (r:cE):Nat→List Int→List Int→List dj
 |0,rs,fs=>if l.cw<(dg rs).e7 then [] else hO l r rs fs
 |k+1,rs,fs=>if l.cw<(dg rs).e7 then [] else hO l r rs fs++(List.range (r.ai.length+1)).flatMap fun (j:Nat)=>match pn l r rs.length (gD r.Start fs+dT l rs.length) ((j:Int)-1) with
  |some t=>iw l r k (rs++[(j:Int)-1]) (fs++[t])
  |none=>[]
noncomputable def Ea (l:aX) (r:cE) (k:Nat) (rs fs:List Int) (j:Nat):List dj:=hO l r rs fs++(List.range j).flatMap fun (j:Nat)=>match pn l r rs.length (gD r.Start fs+dT l rs.length) ((j:Int)-1) with
 |some t=>iw l r k (rs++[(j:Int)-1]) (fs++[t])
 |none=>[]
noncomputable def iF (l:aX) (r:cE) (k:Nat) (rs fs:List Int) (j:Nat):List dj:=(List.range j).flatMap fun (j:Nat)=>match pn l r rs.length (gD r.Start fs+dT l rs.length) ((j:Int)-1) with
 |some t=>iw l r k (rs++[(j:Int)-1]) (fs++[t])
 |none=>[]
section
variable {l:aX} {r:cE} {k j:Nat} {rs fs:List Int} {t:Int}
theorem rv:Ea l r k rs fs j=hO l r rs fs++iF l r k rs fs j:=rfl
theorem nF (h:pn l r rs.length (gD r.Start fs+dT l rs.length) ((j:Int)-1)=some t):iF l r k rs fs (j+1)=iF l r k rs fs j++iw l r k (rs++[(j:Int)-1]) (fs++[t]):=by
 unfold iF; rw [List.range_succ,List.flatMap_append]; simp [h]
theorem qR (h:pn l r rs.length (gD r.Start fs+dT l rs.length) ((j:Int)-1)=none):iF l r k rs fs (j+1)=iF l r k rs fs j:=by
 unfold iF; rw [List.range_succ,List.flatMap_append]; simp [h]
theorem oe (h:l.cw<(dg rs).e7):iw l r k rs fs=[]:=by cases k<;>exact if_pos h
theorem og (h: ¬ l.cw<(dg rs).e7):iw l r 0 rs fs=hO l r rs fs:=if_neg h
theorem nU (h: ¬ l.cw<(dg rs).e7):iw l r (k+1) rs fs=Ea l r k rs fs (r.ai.length+1):=if_neg h
theorem BM {n:Nat} (hn:n<l.ae.length) (hl:0≤dT l n) (ht:r.Start≤t) {i y:Int} (hi: -1≤i):pn l r n (t+dT l n) i=some y↔ ∃ o∈iv (b_ l r) n,o.1=i∧max (t+bR (b_ l r) n) o.2.Lo≤min o.2.Hi (b_ l r).gp∧y=max (t+bR (b_ l r) n) o.2.Lo:=by
 rw [p9 hn]
 have hw:(b_ l r).gp=r.gp:=rfl
 unfold pn
 constructor
 ·intro h
  split at h
  ·rename_i B
   split at h
   ·cases h
    exact ⟨(-1,⟨r.Start,r.gp⟩),(q_ hn).2 (.inl U),by simp only; omega,by simp only; omega,by simp only; omega⟩
   ·cases h
  ·rename_i B
   split at h
   ·rename_i s hs
    split at h
    ·rename_i q
     cases h
     exact ⟨((i.toNat:Nat),cJ l s),(q_ hn).2 (.inr ⟨i.toNat,(aY.1 hs).1,s,hs,q.1,U⟩),by simp only; omega,by simp only; omega,U⟩
    ·cases h
   ·cases h
 ·rintro ⟨o,ho,rfl,A,rfl⟩
  rcases (q_ hn).1 ho with rfl|⟨k,hk,s,hs,q,rfl⟩
  ·simp only at A ⊢
   rw [if_pos I,if_pos I]
   congr 1; omega
  ·simp only at A ⊢
   rw [if_neg I,Int.toNat_natCast,hs]
   simp only
   rw [if_pos ⟨q,I⟩]
theorem Lp (hl: ∀ n,n<l.ae.length→0≤dT l n): ∀ (k:Nat) (rs fs:List Int) (y:dj),rs.length+k=l.ae.length→fs.length=rs.length→r.Start≤gD r.Start fs→
 (y∈iw l r k rs fs↔ ∃ ss gs,j2 (b_ l r) rs.length (gD r.Start fs) ss gs∧ss.length≤k∧y=⟨rs++ss,fs++gs,jH l r (rs++ss)⟩∧j_ (b_ l r) (dg (rs++ss))=true):=by
 have D: ∀ (rs fs:List Int) (y:dj),¬ l.cw<(dg rs).e7→(y∈hO l r rs fs↔y=⟨rs++[],fs++[],jH l r (rs++[])⟩∧j_ (b_ l r) (dg (rs++[]))=true):=by
  intro rs fs y hm
  unfold hO
  rw [List.append_nil,List.append_nil]
  have e:j_ (b_ l r) (dg rs)=true↔(r.ai.length:Int)-(dg rs).right≤l.dN:=by
   unfold j_
   rw [decide_eq_true_eq]
   exact ⟨fun q=>q.2,fun q=>⟨by have:(b_ l r).cw=l.cw:=rfl; omega,q⟩⟩
  split
  ·rename_i q
   rw [bH]
   exact ⟨fun h=>⟨h,e.2 q⟩,fun h=>h.1⟩
  ·rename_i q
   exact ⟨fun h=>(by cases h),fun h=>absurd (e.1 h.2) q⟩
 have KT: ∀ (rs ss:List Int),l.cw<(dg rs).e7→ ¬ j_ (b_ l r) (dg (rs++ss))=true:=by
  intro rs ss h q
  unfold j_ at q
  have:=(of_decide_eq_true q).1
  rw [rl] at this
  have C:=tT ss
  simp only [dw] at this
  have:(b_ l r).cw=l.cw:=rfl
  omega
 intro k
 induction k with
 |zero=>
  intro rs fs y hn hf hs
  by_cases hm:l.cw<(dg rs).e7
  ·rw [oe hm]
   exact ⟨fun h=>(by cases h),fun ⟨ss,gs,_,_,_,q⟩=>absurd q (KT rs ss hm)⟩
  ·rw [og hm,D _ _ _ hm]
   constructor
   ·rintro ⟨B,C⟩; exact ⟨[],[],trivial,sm,B,C⟩
   ·rintro ⟨ss,gs,B,C,E,F⟩
    have e:=jX (Nat.le_zero.1 C)
    subst e
    have e:=jX (ku _ _ _ _ B)
    subst e
    exact ⟨E,F⟩
 |succ k ih=>
  intro rs fs y hn hf hs
  by_cases hm:l.cw<(dg rs).e7
  ·rw [oe hm]
   exact ⟨fun h=>(by cases h),fun ⟨ss,gs,_,_,_,q⟩=>absurd q (KT rs ss hm)⟩
  ·rw [nU hm]
   unfold Ea
   rw [dM,D _ _ _ hm,List.mem_flatMap]
   have A: ∀ (x y:Int),(rs++[x]).length+k=l.ae.length∧(fs++[y]).length=(rs++[x]).length:=fun x y=>by simp; omega
   constructor
   ·rintro (⟨B,C⟩|⟨j,hj,h⟩)
    ·exact ⟨[],[],trivial,sm,B,C⟩
    ·cases e:pn l r rs.length (gD r.Start fs+dT l rs.length) ((j:Int)-1) with
     |none=>rw [e] at h; cases h
     |some t=>
      rw [e] at h
      simp only at h
      obtain ⟨o,ho,B,C,E⟩:=(BM I (hl _ I) hs I).1 e
      have G:r.Start≤t:=by
       have:=hl rs.length I
       rw [p9 I] at E
       omega
      obtain ⟨ss,gs,F,J,H,AA⟩:=(ih _ _ y (A _ t).1 (A _ t).2 (by rw [nE]; exact G)).1 h
      rw [nE,List.length_append] at F
      refine ⟨((j:Int)-1)::ss,t::gs,⟨⟨o,ho,B,C,E⟩,F⟩,by simp; omega,by simpa using H,by simpa using AA⟩
   ·rintro ⟨ss,gs,B,C,E,F⟩
    cases ss with
    |nil=>
     have e:=jX (ku _ _ _ _ B)
     subst e
     exact .inl ⟨E,F⟩
    |cons x ss=>
     cases gs with
     |nil=>exact B.elim
     |cons t gs=>
      obtain ⟨⟨o,ho,rfl,J,H⟩,AA⟩:=B
      right
      have hx: -1≤o.1∧o.1<(r.ai.length:Int):=by
       rcases (q_ I).1 ho with rfl|⟨k,hk,s,hs,q,rfl⟩
       ·simp only; omega
       ·simp only; omega
      have G:r.Start≤t:=by
       have:=hl rs.length I
       rw [p9 I] at H
       omega
      have K:((o.1+1).toNat:Int)-1=o.1:=by omega
      refine ⟨(o.1+1).toNat,List.mem_range.2 I,?_⟩
      rw [K,(BM I (hl _ I) hs I).2 ⟨o,ho,rfl,J,H⟩]
      simp only
      refine (ih _ _ y (A _ t).1 (A _ t).2 (by rw [nE]; exact G)).2 ⟨ss,gs,?_,?_,?_,?_⟩
      ·rw [nE,List.length_append]; exact AA
      ·simp only [List.length_cons] at C; omega
      ·simpa using E
      ·simpa using F
end
theorem yZ {l:aX} {r:cE} {rs fs:List Int} (h:(r.ai.length:Int)-(dg rs).right≤l.dN):hO l r rs fs=[⟨rs,fs,jH l r rs⟩]:=if_pos h
theorem xR {l:aX} {r:cE} {rs fs:List Int} (h: ¬ (r.ai.length:Int)-(dg rs).right≤l.dN):hO l r rs fs=[]:=if_neg h
noncomputable def eZ (l:aX) (r:cE) (i:Nat):List aa:=(r.ai.take i).map (cJ l)
noncomputable def fz (l:aX) (r:cE) (i:Nat):List Bool:=(r.ai.take i).map fun s=>decide ((cJ l s).Lo≤(cJ l s).Hi)
section
variable {l:aX} {r:cE} {i n:Nat} {s:aK} {rs:List Int}
theorem Ed (h:r.ai[i]? =some s):eZ l r (i+1)=eZ l r i++[cJ l s]:=by unfold eZ; rw [List.take_add_one,h,List.map_append]; rfl
theorem EM (h:r.ai[i]? =some s):fz l r (i+1)=fz l r i++[decide ((cJ l s).Lo≤(cJ l s).Hi)]:=by unfold fz; rw [List.take_add_one,h,List.map_append]; rfl
theorem rM (h:i≤r.ai.length):(eZ l r i).length=i:=by unfold eZ; rw [List.length_map,List.length_take]; omega
theorem uD (h:i≤r.ai.length):(fz l r i).length=i:=by unfold fz; rw [List.length_map,List.length_take]; omega
theorem JY {k:Nat} {z:aa} (hs:r.ai[k]? =some s) (hz:(eZ l r r.ai.length)[k]? =some z):z=cJ l s:=by
 unfold eZ at hz
 rw [List.take_length,fB,hs] at hz
 exact (Option.some.inj hz).symm
theorem Ky {k:Nat} {z:aa} (hz:(eZ l r r.ai.length)[k]? =some z): ∃ s,r.ai[k]? =some s∧z=cJ l s:=by
 unfold eZ at hz
 rw [List.take_length,fB] at hz
 cases h:r.ai[k]? with
 |none=>rw [h] at hz; cases hz
 |some s=>rw [h] at hz; exact ⟨s,rfl,(Option.some.inj hz).symm⟩
theorem BD {k:Nat} {z:Bool} (hs:r.ai[k]? =some s) (hz:(fz l r r.ai.length)[k]? =some z):z=true↔(cJ l s).Lo≤(cJ l s).Hi:=by
 unfold fz at hz
 rw [List.take_length,fB,hs] at hz
 rw [← Option.some.inj hz]
 exact decide_eq_true_iff
theorem xU (l:aX) (s:aK):(0≤(cJ l s).Lo∧(cJ l s).Lo≤86400001)∧ -1≤(cJ l s).Hi∧(cJ l s).Hi≤86400000:=by
 have A:=hE (p:=fW (mC l s) s.Read) (n:=86400001)
 have B:=hE (p:=fU (mC l s) s.Read) (n:=86400001)
 unfold cJ m7
 simp only
 omega
/-- the last times from a beam on -/
noncomputable def jT (l:aX) (r:cE) (rs:List Int) (j:Nat):List Int×Int:=gR (MW l r) (dT l) r.gp j (rs.drop j)
noncomputable def jV (l:aX) (r:cE) (rs:List Int) (j:Nat):List Int:=List.replicate j 0++(jT l r rs j).1
noncomputable def tY (l:aX) (r:cE) (rs:List Int) (j:Nat) (x:Int):Int:=if 0≤x then min (jT l r rs j).2 (MW l r x) else (jT l r rs j).2
theorem uJ:jT l r rs rs.length=([],r.gp):=by unfold jT; rw [List.drop_length]; rfl
theorem GX:jV l r rs rs.length=List.replicate rs.length 0:=by unfold jV; rw [uJ]; simp
theorem Eh:jV l r rs 0=jH l r rs:=by unfold jV jT jH; simp
theorem pD {j:Nat} {x:Int} (hj:0<j) (hx:rs[j-1]? =some x):jT l r rs (j-1)=(tY l r rs j x::(jT l r rs j).1,tY l r rs j x-dT l (j-1)):=by
 unfold jT tY
 have hb:=(aY.1 hx).1
 rw [List.drop_eq_getElem_cons hb,(aY.1 hx).2,show j-1+1=j by omega]
 simp only [gR]
 rw [show j-1+1=j by omega]
 rfl
theorem G6 {j:Nat} (h:j≤rs.length):(jV l r rs j).length=rs.length:=by unfold jV jT; rw [List.length_append,List.length_replicate,rF,List.length_drop]; omega
theorem zk {j:Nat} {x:Int} (hj:0<j) (hx:rs[j-1]? =some x):(jV l r rs j).set (j-1) (tY l r rs j x)=jV l r rs (j-1):=by
 unfold jV
 rw [pD hj hx]
 simp only
 obtain ⟨k,rfl⟩: ∃ k,j=k+1:=⟨j-1,I⟩
 rw [Nat.add_sub_cancel,List.replicate_succ',List.append_assoc,List.set_append_right _ _ sm,List.length_replicate,Nat.sub_self]
 rfl
theorem GP (hr:0≤r.gp∧r.gp≤86400000) (hl: ∀ b,b<rs.length→0≤dT l b∧dT l b≤500000000) (hrs: ∀ x∈rs,0≤x→x<(r.ai.length:Int)): ∀ (d j:Nat),j+d=rs.length→(-1-500000000*(d:Int))≤(jT l r rs j).2∧(jT l r rs j).2≤86400000
 |0,j,h=>by
  obtain rfl:j=rs.length:=by omega
  rw [uJ]; simp only; omega
 |d+1,j,h=>by
  have ih:=GP hr hl hrs d (j+1) I
  have hx:rs[j+1-1]? =some (rs[j]'I):=by rw [Nat.add_sub_cancel]; exact fc _
  have e:=pD (l:=l) (r:=r) (j:=j+1) I hx
  rw [Nat.add_sub_cancel] at e
  rw [e]
  simp only
  have A:=hl j I
  unfold tY
  split
  ·rename_i q
   have B:=hrs _ (List.getElem_mem (by omega:j<rs.length)) q
   obtain ⟨s,hs⟩: ∃ s,r.ai[(rs[j]'I).toNat]? =some s:=⟨r.ai[(rs[j]'I).toNat]'I,fc _⟩
   rw [Fm hs]
   have C:=xU l s
   omega
  ·omega
theorem Lv {t i:Int} (hi:i<0):(t≤r.gp→pn l r n t i=some t)∧(¬ t≤r.gp→pn l r n t i=none):=by
 unfold pn; rw [if_pos hi]; exact ⟨fun h=>if_pos h,fun h=>if_neg h⟩
theorem Jp {t i:Int} (hi: ¬ i<0) (hs:r.ai[i.toNat]? =some s) (hb:s.f_=(n:Int)) (hw:(cJ l s).Lo≤(cJ l s).Hi):(max t (cJ l s).Lo≤min r.gp (cJ l s).Hi→pn l r n t i=some (max t (cJ l s).Lo))∧(¬ max t (cJ l s).Lo≤min r.gp (cJ l s).Hi→pn l r n t i=none):=by
 unfold pn; rw [if_neg hi,hs]
 exact ⟨fun h=>if_pos ⟨⟨hb,hw⟩,h⟩,fun h=>if_neg fun q=>h q.2⟩
theorem wW {t i:Int} (hi: ¬ i<0) (hs:r.ai[i.toNat]? =some s) (hb: ¬ (s.f_=(n:Int)∧(cJ l s).Lo≤(cJ l s).Hi)):pn l r n t i=none:=by
 unfold pn; rw [if_neg hi,hs]
 exact if_neg fun q=>hb q.1
theorem uh {x:Int} (hx:rs[i]? =some x):(dg (rs.take (i+1))).right=(dg (rs.take i)).right+(if 0≤x then 1 else 0):=by
 rw [mm hx,j7]
 unfold fx
 simp only [dw]
 by_cases h:x<0
 ·rw [if_pos h,if_neg I]
 ·rw [if_neg h,if_pos I]
end
theorem w9 {l:aX} {r:cE} {rs fs:List Int}:(hO l r rs fs).length≤1:=by unfold hO; split<;>simp
theorem xg {l:aX} {r:cE} (hr:r.ai.length≤10): ∀ (k:Nat) (rs fs:List Int),(iw l r k rs fs).length≤12^(k+1)
 |0,rs,fs=>by
  unfold iw
  split
  ·simp
  ·have:=w9 (l:=l) (r:=r) (rs:=rs) (fs:=fs); omega
 |k+1,rs,fs=>by
  unfold iw
  split
  ·simp
  ·rw [List.length_append]
   have B:=w9 (l:=l) (r:=r) (rs:=rs) (fs:=fs)
   have A: ∀ j,(iF l r k rs fs j).length≤j*12^(k+1):=by
    intro j
    induction j with
    |zero=>simp [iF]
    |succ j ih=>
     cases e:pn l r rs.length (gD r.Start fs+dT l rs.length) ((j:Int)-1) with
     |none=>rw [qR e,Nat.succ_mul]; exact Nat.le_trans ih (Nat.le_add_right _ _)
     |some t=>rw [nF e,List.length_append,Nat.succ_mul]; exact Nat.add_le_add ih (xg hr k (rs++[(j:Int)-1]) (fs++[t]))
   have C:=A (r.ai.length+1)
   have D:(r.ai.length+1)*12^(k+1)≤11*12^(k+1):=Nat.mul_le_mul_right _ I
   have E:0<12^(k+1):=Nat.pow_pos dc
   have F:12^(k+1+1)=12*12^(k+1):=by rw [Nat.pow_succ,Nat.mul_comm]
   show (hO l r rs fs).length+(iF l r k rs fs (r.ai.length+1)).length≤_
   omega
theorem Ja {l:aX} {r:cE} (hr:r.ai.length≤10) {k j:Nat} {rs fs:List Int} (hk:k≤5) (hj:j≤11):(iF l r k rs fs j).length≤40000000:=by
 have A: ∀ j,(iF l r k rs fs j).length≤j*12^(k+1):=by
  intro j
  induction j with
  |zero=>simp [iF]
  |succ j ih=>
   cases e:pn l r rs.length (gD r.Start fs+dT l rs.length) ((j:Int)-1) with
   |none=>rw [qR e,Nat.succ_mul]; exact Nat.le_trans ih (Nat.le_add_right _ _)
   |some t=>rw [nF e,List.length_append,Nat.succ_mul]; exact Nat.add_le_add ih (xg hr k (rs++[(j:Int)-1]) (fs++[t]))
 have C:=A j
 have B:12^(k+1)≤12^6:=Nat.pow_le_pow_right dc I
 have D:j*12^(k+1)≤11*12^6:=Nat.mul_le_mul hj B
 omega
theorem uK {l:aX} {r:cE} (hr:r.ai.length≤10) {k:Nat} {rs fs:List Int} (hk:k≤6):(iw l r k rs fs).length≤40000000:=by
 have A:=xg hr k rs fs (l:=l)
 have B:12^(k+1)≤12^7:=Nat.pow_le_pow_right dc I
 omega
noncomputable def qn (l:aX) (r:cE):List dj:=iw l r l.ae.length [] []
section
variable {l:aX} {r:cE}
theorem mu:(b_ l r).n=l.ae.length:=dR
theorem Pc (hle:dD l=0) (hr:fD l r):Mh (b_ l r) (MW l r) (dT l) r.gp:=by
 obtain ⟨ht,B⟩:=gj hle
 refine ⟨fun b=>((pt ht B hr).bR b).1,fun b hb=>(p9 (by rw [mu] at hb; exact hb)).symm,U,fun b o hb ho A=>?_,fun b o hb ho A=>?_⟩
 ·rw [mu] at hb
  rcases (q_ hb).1 ho with rfl|⟨k,hk,s,hs,q,rfl⟩
  ·simp only at A; omega
  ·exact (Fm (by simpa using hs)).symm
 ·rw [mu] at hb
  rcases (q_ hb).1 ho with rfl|⟨k,hk,s,hs,q,rfl⟩
  ·rfl
  ·simp only at A; omega
theorem pV (hle:dD l=0) (hr:fD l r) {y:dj}:y∈qn l r↔Pb (b_ l r) (MW l r) (dT l) r.gp y:=by
 obtain ⟨ht,D⟩:=gj hle
 have hl: ∀ n,n<l.ae.length→0≤dT l n:=fun n hn=>by have:=nD ht D (i:=n) hn; omega
 unfold qn
 rw [Lp hl _ _ _ _ sm rfl (Int.le_refl _)]
 constructor
 ·rintro ⟨ss,gs,B,A,rfl,C⟩
  exact ⟨B,by rw [mu]; exact A,U,C⟩
 ·rintro ⟨B,A,E,C⟩
  rw [mu] at A
  exact ⟨y.gJ,y.i_,B,A,by rw [List.nil_append,List.nil_append]; unfold jH; rw [← E],C⟩
theorem J0 (hle:dD l=0) (hr:fD l r) {k:Nat} (hk:k≤l.ae.length):((qn l r).any fun y=>decide (y.gJ.length=k))=jF (b_ l r) (fwd (b_ l r) k):=by
 rw [Bool.eq_iff_iff,BE,List.any_eq_true]
 constructor
 ·rintro ⟨y,hy,e⟩
  have h:=(pV hle hr).1 hy
  exact ⟨y.gJ,y.i_,of_decide_eq_true e,h.chain,h.may⟩
 ·rintro ⟨rs,fs,e,A,B⟩
  exact ⟨⟨rs,fs,(gR (MW l r) (dT l) r.gp 0 rs).1⟩,(pV hle hr).2 ⟨A,by rw [mu]; simp only; omega,U,B⟩,gf e⟩
theorem fF (hle:dD l=0) (hr:fD l r):qn l r=[]↔jW (b_ l r)=[]:=by
 constructor
 ·intro h
  apply List.eq_nil_iff_forall_not_mem.2
  intro x hx
  obtain ⟨k,rfl,hk,hm⟩:=o4.1 hx
  rw [mu] at hk
  rw [← J0 hle hr hk,h] at hm
  cases hm
 ·intro h
  apply List.eq_nil_iff_forall_not_mem.2
  intro y hy
  have hw:=(pV hle hr).1 hy
  have:(y.gJ.length:Int)∈jW (b_ l r):=o4.2 ⟨y.gJ.length,rfl,hw.len,BE.2 ⟨_,_,rfl,hw.chain,hw.may⟩⟩
  rw [h] at this; cases this
/-- the times at a beam, by all ways -/
def jf (b:Nat) (ws:List dj):List (Int×aa):=ws.filterMap fun y=>match y.gJ[b]?,y.i_[b]?,y.l0[b]? with
 |some s,some f,some e=>some (s,⟨f,e⟩)
 |_,_,_=>none
theorem nX {b:Nat} {ws:List dj} {q:Int×aa}:q∈jf b ws↔ ∃ y∈ws,y.gJ[b]? =some q.1∧y.i_[b]? =some q.2.Lo∧y.l0[b]? =some q.2.Hi:=by
 unfold jf
 rw [List.mem_filterMap]
 constructor
 ·rintro ⟨y,hy,h⟩
  cases e1:y.gJ[b]? with
  |none=>rw [e1] at h; cases h
  |some s=>
   cases e2:y.i_[b]? with
   |none=>rw [e1,e2] at h; cases h
   |some f=>
    cases e3:y.l0[b]? with
    |none=>rw [e1,e2,e3] at h; cases h
    |some e=>
     rw [e1,e2,e3] at h; cases h
     exact ⟨y,hy,e1,e2,e3⟩
 ·rintro ⟨y,hy,A,B,C⟩
  exact ⟨y,hy,by rw [A,B,C]⟩
theorem xB {b:Nat} {ws:List dj} {y:dj} (h:y.gJ.length≤b):jf b (ws++[y])=jf b ws:=by
 unfold jf; rw [List.filterMap_append]; simp [List.getElem?_eq_none h]
theorem qc {b:Nat} {ws:List dj} {y:dj} {s f e:Int} (h1:y.gJ[b]? =some s) (h2:y.i_[b]? =some f) (h3:y.l0[b]? =some e):jf b (ws++[y])=jf b ws++[(s,⟨f,e⟩)]:=by
 unfold jf; rw [List.filterMap_append]; simp [h1,h2,h3]
theorem K3 (hle:dD l=0) (hr:fD l r) {y:dj} (hy:y∈qn l r):y.i_.length=y.gJ.length∧y.l0.length=y.gJ.length∧y.gJ.length≤l.ae.length:=by
 have h:=(pV hle hr).1 hy
 exact ⟨ku _ _ _ _ h.chain,by rw [h.last,rF],by have:=h.len; rwa [mu] at this⟩
theorem tU (hle:dD l=0) (hr:fD l r) {b:Nat} (hb:b<l.ae.length) {s t:Int}:(∃ q∈eU (b_ l r) b,q.1=s∧q.2.Lo≤t∧t≤q.2.Hi)↔ ∃ q∈jf b (qn l r),q.1=s∧q.2.Lo≤t∧t≤q.2.Hi:=by
 have hh:=Pc hle hr
 rw [ow hh.low (by rw [mu]; exact hb),Ku hh hr.time.2.1 (by rw [mu]; exact hb)]
 constructor
 ·rintro ⟨y,hy,f,e,A,B,C,D,E⟩
  exact ⟨(s,⟨f,e⟩),nX.2 ⟨y,(pV hle hr).2 hy,A,B,C⟩,U,D,E⟩
 ·rintro ⟨q,hq,rfl,D,E⟩
  obtain ⟨y,hy,A,B,C⟩:=nX.1 hq
  exact ⟨y,(pV hle hr).1 hy,_,_,A,B,C,D,E⟩
/-- a way's span is none that is empty -/
theorem x7 (hle:dD l=0) (hr:fD l r) {b:Nat} {q:Int×aa} (hq:q∈jf b (qn l r)):q.2.Lo≤q.2.Hi:=by
 have hh:=Pc hle hr
 obtain ⟨y,hy,C,D,H⟩:=nX.1 hq
 obtain ⟨hc,hn,B,hm⟩:=(pV hle hr).1 hy
 obtain ⟨R,F,La⟩:=y
 simp only at C D H hc hn B
 have G:=(aY.1 C).1
 have E:=(aY.1 D).1
 have L:=ku _ _ _ _ hc
 have eR:R=R.take b++q.1::R.drop (b+1):=by rw [← (aY.1 C).2]; exact (List.take_append_drop b R).symm.trans (by rw [List.drop_eq_getElem_cons G])
 have eF:F=F.take b++q.2.Lo::F.drop (b+1):=by rw [← (aY.1 D).2]; exact (List.take_append_drop b F).symm.trans (by rw [List.drop_eq_getElem_cons E])
 rw [eR,eF,rD _ _ _ _ _ _ (by simp only [List.length_take]; omega)] at hc
 have AA:(R.take b).length=b:=by rw [List.length_take]; omega
 rw [AA,Nat.zero_add] at hc
 obtain ⟨M,⟨o,ho,K,N,O⟩,J⟩:=hc
 have A:=ue (hi:=MW l r) (least:=dT l) (now:=r.gp) 0 (R.take b) q.1 (R.drop (b+1))
 rw [← eR,AA,Nat.zero_add,← B,H] at A
 have A:=Option.some.inj A
 have he:=rz hh (b+1) q.2.Lo (R.drop (b+1)) (F.drop (b+1)) (by rw [List.length_drop]; omega) I J
 rw [← K] at A
 split at A
 ·rename_i z
  have:=hh.hi b o I ho z
  omega
 ·omega
theorem Cn {a b:List (Int×aa)} {h k:aa} (ha:kI a h) (hb:kI b k) (hab: ∀ x∈b,(∃ y∈a,y.2.Lo≤x.2.Lo)∧ ∃ y∈a,x.2.Hi≤y.2.Hi) (hba: ∀ x∈a,(∃ y∈b,y.2.Lo≤x.2.Lo)∧ ∃ y∈b,x.2.Hi≤y.2.Hi):h=k:=by
 rcases ha with ⟨rfl,rfl⟩|ha
 ·rcases hb with ⟨rfl,rfl⟩|hb
  ·rfl
  ·obtain ⟨x,hx,_⟩:=hb.lo
   obtain ⟨⟨y,hy,_⟩,_⟩:=hab x hx
   cases hy
 ·rcases hb with ⟨rfl,rfl⟩|hb
  ·obtain ⟨x,hx,_⟩:=ha.lo
   obtain ⟨⟨y,hy,_⟩,_⟩:=hba x hx
   cases hy
  ·obtain ⟨M,E,AA⟩:=ha.lo
   obtain ⟨N,F,V⟩:=ha.hi
   obtain ⟨O,G,W⟩:=hb.lo
   obtain ⟨P,H,X⟩:=hb.hi
   obtain ⟨⟨AB,A,Y⟩,_⟩:=hba M E
   obtain ⟨_,J,B,Z⟩:=hba N F
   obtain ⟨⟨K,C,c⟩,_⟩:=hab O G
   obtain ⟨_,L,D,d⟩:=hab P H
   have Q:=hb.all AB A
   have R:=hb.all J B
   have S:=ha.all K C
   have T:=ha.all L D
   apply aa.ext
   ·omega
   ·omega
theorem Lj (hle:dD l=0) (hr:fD l r) {b:Nat} (hb:b<l.ae.length) {h:aa} (hh:kI (jf b (qn l r)) h):h=ky l r b:=by
 have hk:=qQ (l:=eU (b_ l r) b) (fun q hq=>iN hq)
 refine Cn hh hk (fun x hx=>?_) (fun x hx=>?_)
 ·have hle':=iN hx
  obtain ⟨y,hy,_,A,C⟩:=(tU hle hr hb (s:=x.1) (t:=x.2.Lo)).1 ⟨x,hx,rfl,Int.le_refl _,hle'⟩
  obtain ⟨z,hz,_,D,B⟩:=(tU hle hr hb (s:=x.1) (t:=x.2.Hi)).1 ⟨x,hx,rfl,hle',Int.le_refl _⟩
  exact ⟨⟨y,hy,A⟩,z,hz,B⟩
 ·have hle':=x7 hle hr hx
  obtain ⟨y,hy,_,A,C⟩:=(tU hle hr hb (s:=x.1) (t:=x.2.Lo)).2 ⟨x,hx,rfl,Int.le_refl _,hle'⟩
  obtain ⟨z,hz,_,D,B⟩:=(tU hle hr hb (s:=x.1) (t:=x.2.Hi)).2 ⟨x,hx,rfl,hle',Int.le_refl _⟩
  exact ⟨⟨y,hy,A⟩,z,hz,B⟩
end
def pO (ws:List dj) (b:Nat):Int:=if g6 (jf b ws)=iT then 6 else 0
def pS (ws:List dj) (b:Nat):aa:=if g6 (jf b ws)=iT then ⟨0,0⟩ else g6 (jf b ws)
theorem NV {l:List (Int×aa)} {h:aa} (hh:kI l h) (hl: ∀ q∈l,q.2.Lo≤q.2.Hi):g6 l=h:=
 Cn (qQ hl) hh (fun x hx=>⟨⟨x,hx,Int.le_refl _⟩,x,hx,Int.le_refl _⟩) (fun x hx=>⟨⟨x,hx,Int.le_refl _⟩,x,hx,Int.le_refl _⟩)
theorem E5 {ws:List dj} {b:Nat} (h:jf b ws=[]):pO ws b=6∧pS ws b=⟨0,0⟩:=by
 unfold pO pS; rw [h]; exact ⟨if_pos rfl,if_pos rfl⟩
theorem EB {ws:List dj} {b:Nat} {o:aa} (hl: ∀ q∈jf b ws,q.2.Lo≤q.2.Hi) (h:mU (jf b ws) o):pO ws b=0∧pS ws b=o:=by
 have e:=NV (.inr h) hl
 unfold pO pS; rw [e]; exact ⟨if_neg h.ne,if_neg h.ne⟩
/-- what was found until now -/
def nV (b:Nat) (ws:List dj) (fd:Bool) (o:aa):Prop:=(fd=false∧jf b ws=[])∨(fd=true∧mU (jf b ws) o)
theorem Hz {b:Nat} {o:aa}:nV b [] false o:= .inl ⟨rfl,rfl⟩
theorem B2 {q:Int×aa} (hq:q.2.Lo≤q.2.Hi):mU [q] q.2:=⟨hq,⟨q,sm,rfl⟩,⟨q,sm,rfl⟩,fun x hx=>by simp at hx; subst hx; exact ⟨Int.le_refl _,Int.le_refl _⟩⟩
theorem AP {l:List (Int×aa)} {h:aa} {q:Int×aa} (hh:mU l h) (hq:q.2.Lo≤q.2.Hi):mU (l++[q]) ⟨min q.2.Lo h.Lo,max q.2.Hi h.Hi⟩:=by
 have:=u_ (.inr hh) hq
 unfold mR at this
 rw [if_neg hh.ne] at this
 rcases this with ⟨e,_⟩|this
 ·simp at e
 ·exact this
theorem Fc {b:Nat} {ws:List dj} {fd:Bool} {o:aa} {y:dj} (h:nV b ws fd o) (hy:y.gJ.length≤b):nV b (ws++[y]) fd o:=by
 unfold nV; rw [xB hy]; exact h
theorem CB {b:Nat} {ws:List dj} {fd:Bool} {o:aa} {y:dj} {s f e:Int} (h:nV b ws fd o) (hf:fd=false) (h1:y.gJ[b]? =some s) (h2:y.i_[b]? =some f) (h3:y.l0[b]? =some e) (hle:f≤e):nV b (ws++[y]) true ⟨f,e⟩:=by
 rcases h with ⟨_,q⟩|⟨q,_⟩
 ·right
  rw [qc h1 h2 h3,q]
  exact ⟨U,B2 hle⟩
 ·rw [q] at hf; cases hf
theorem EE {b:Nat} {ws:List dj} {fd:Bool} {o:aa} {y:dj} {s f e:Int} (h:nV b ws fd o) (hf:fd=true) (h1:y.gJ[b]? =some s) (h2:y.i_[b]? =some f) (h3:y.l0[b]? =some e) (hle:f≤e):nV b (ws++[y]) true ⟨min f o.Lo,max e o.Hi⟩:=by
 rcases h with ⟨q,_⟩|⟨_,q⟩
 ·rw [q] at hf; cases hf
 ·right
  rw [qc h1 h2 h3]
  exact ⟨U,AP q hle⟩
theorem yV {b:Nat} {ws:List dj} {fd:Bool} {o:aa} (h:nV b ws fd o) (hl: ∀ q∈jf b ws,q.2.Lo≤q.2.Hi):(fd=false→pO ws b=6∧pS ws b=⟨0,0⟩)∧(fd=true→pO ws b=0∧pS ws b=o):=by
 rcases h with ⟨q,h⟩|⟨q,h⟩
 ·exact ⟨fun _=>E5 h,fun e=>(by rw [q] at e; cases e)⟩
 ·exact ⟨fun e=>(by rw [q] at e; cases e),fun _=>EB hl h⟩
section
variable {l:aX} {r:cE}
theorem IF (he:eg l r 0=0) {b:Nat} (hb:b<l.ae.length):pO (qn l r) b=de l r b∧pS (qn l r) b=dy l r b:=by
 obtain ⟨A,hr,_,_⟩:=j8 he
 have h:=Lj A hr hb (qQ fun q hq=>x7 A hr hq)
 have ho:eg l r (iP l b)=0:=by rw [rR hb]; exact he
 unfold pO pS
 rw [h]
 by_cases e:ky l r b=iT
 ·rw [if_pos e,if_pos e,(lf ho e).1,(lf ho e).2]; exact ⟨rfl,rfl⟩
 ·rw [if_neg e,if_neg e,(iY ho e).1,(iY ho e).2]; exact ⟨rfl,rfl⟩
theorem QT (hle:dD l=0) (hr:fD l r) {y:dj} (hy:y∈qn l r) {b:Nat} {f e:Int} (hb:b<y.gJ.length) (h2:y.i_[b]? =some f) (h3:y.l0[b]? =some e):f≤e:=
 x7 hle hr (q:=(y.gJ[b],⟨f,e⟩)) (nX.2 ⟨y,hy,fc _,h2,h3⟩)
theorem DE:eg l r (iP l l.bU)=eg l r 0:=by
 by_cases h:dD l=0
 ·obtain ⟨_,A⟩:=gj h
  have hh:=A.head
  unfold gE at hh
  rw [ye I]
 ·rw [oO h,oO h]
theorem vM (h: ¬ eg l r 0=0):de l r l.bU=eg l r 0:=by
 have:=(kb (b:=l.bU) (by rw [DE]; exact h)).1
 rw [this,DE]
/-- rows of times that are those of ways -/
structure Of (ws:List dj):Prop where
 lens: ∀ y∈ws,y.i_.length=y.gJ.length∧y.l0.length=y.gJ.length∧y.gJ.length≤6
 le: ∀ y∈ws,∀ (b:Nat) f e,b<y.gJ.length→y.i_[b]? =some f→y.l0[b]? =some e→f≤e
 num:ws.length≤40000000
theorem Of.FT {ws:List dj} (h:Of ws) {b:Nat}: ∀ q∈jf b ws,q.2.Lo≤q.2.Hi:=fun q hq=>by
 obtain ⟨y,hy,A,B,C⟩:=nX.1 hq
 exact h.le y hy b _ _ (aY.1 A).1 B C
theorem Qk (hle:dD l=0) (hr:fD l r):Of (qn l r):=by
 obtain ⟨ht,B⟩:=gj hle
 have hh:=B.head
 unfold gE at hh
 refine ⟨fun y hy=>?_,fun y hy b f e hb A C=>QT hle hr hy hb A C,uK hr.len I⟩
 obtain ⟨D,A,C⟩:=K3 hle hr hy
 exact ⟨D,A,I⟩
end
end
section
open Go.RowKit
theorem Dz (l:List dj) (az:List kT): ∀ v∈(List.zipWith dj.cells l az).flatten,v.oneCell'=true:=by
 induction l generalizing az with
 |nil=>intro v hv; simp at hv
 |cons x l ih=>
  cases az with
  |nil=>intro v hv; simp at hv
  |cons a az=>
   intro v hv
   simp only [List.zipWith_cons_cons,List.flatten_cons,dM] at hv
   rcases hv with hv|hv
   ·simp only [dj.cells,xP.cells,bu,List.not_mem_nil,or_false] at hv
    rcases hv with rfl|rfl|rfl<;>rfl
   ·exact ih az v hv
theorem OE: ∀ (m:dj) (a:kT) (w:World),(∀ X∈dj.owns m a,X.holds w)→ ∀ X∈dj.gP m a,X.holds w:=fun m a w h X hX=>by
 simp only [dj.gP,bu,List.not_mem_nil,or_false] at hX
 have A:=nZ (h (own a.1.1 a.1.2 ml 1 (m.gJ.map iC)) (by simp [dj.owns]))
 have B:=nZ (h (own a.2.1.1 a.2.1.2 ml 1 (m.i_.map iC)) (by simp [dj.owns]))
 have C:=nZ (h (own a.2.2.1 a.2.2.2 ml 1 (m.l0.map iC)) (by simp [dj.owns]))
 rcases hX with rfl|rfl|rfl
 ·simpa using A
 ·simpa using B
 ·simpa using C
theorem pP: ∀ (l:List dj) (az:List kT),(aW dj.owns l az).all (·.wr)=true
 |[],_=>rfl
 |_::_,[]=>rfl
 |x::l,a::az=>by
  simp only [aW,List.all_append,cS]
  exact ⟨U,pP l az⟩
theorem JL (l:List dj) (az:List kT):(br (aW dj.owns l az)).wr=true:=pP l az
theorem Kt {l m:List dj} {az bz:List kT} (h:az.length=l.length):List.zipWith dj.cells (l++m) (az++bz)=List.zipWith dj.cells l az++List.zipWith dj.cells m bz:=List.zipWith_append h.symm
theorem tw {l:List dj} {az:List kT} (h:az.length=l.length):(List.zipWith dj.cells l az).length=l.length:=by rw [List.length_zipWith]; omega
/-- what is read of a thing that is tied, and frozen -/
theorem pY {C L:List av} {a:OA} {c e sz n:Nat} {es:List (List Value)} (i:Nat) (hC:C[i]? =some (br L).ro) (hm:own a c e sz es∈L) (hn:es.length=n):iA C (rd a n sz es).holds:=fun w hw=>by
 subst hn
 exact nZ ((show (br L).holds w from (hw _ (aT hC):(br L).ro.holds w)).1 _ hm)
section
variable {E:fq} {ops:Array Oper} {Q:df} {rest:List Oper} {D:List Deferred} {L:List (Nat×Value)} {C C1:List av}
theorem St.QL {S:BS} {w0 w:World} {X C:List av} {A:av} (h:St S w0 (br (X++[A])::C) w):St S w0 (A::br X::C) w:=by
 have B:=h.iK
 have D:St S w0 (X++(A::C)) w:=by simpa using B
 exact D.tied.perm (List.Perm.swap _ _ _)
theorem St.merge {S:BS} {w0 w:World} {X Y C:List av} (h:St S w0 (br X::br Y::C) w):St S w0 (br (X++Y)::C) w:=by
 have A:St S w0 (br Y::(X++C)) w:=(h.iK).perm (List.perm_middle (a:=br Y) (l₁:=X) (l₂:=C))
 have B:St S w0 (Y++(X++C)) w:=A.iK
 have D:St S w0 ((X++Y)++C) w:=B.perm (by rw [← List.append_assoc]; exact List.perm_append_comm.append_right _)
 exact D.tied
end
section
variable {E:fq} {ops:Array Oper} {Q:df} {rest:List Oper} {D:List Deferred} {L:List (Nat×Value)} {C:List av}
theorem Bk {A:av} {X X':List av} (e:X++[A]=X') (h:RJ E ops Q rest D L (br X'::C)):RJ E ops Q rest D L (A::br X::C):=fun a w hf hs=>h a w hf (hs.tie e)
theorem zd {X:List av} {A:av} (h:RJ E ops Q rest D L (A::br X::C)):RJ E ops Q rest D L (br (X++[A])::C):=fun a w hf hs=>h a w hf hs.QL
theorem Ma {K:Act→World→Prop} {ms ns:List dj} {az bz:List kT} (hl:az.length=ms.length) (h:KJ E K D L (br (aW dj.owns (ms++ns) (az++bz))::C)):KJ E K D L (br (aW dj.owns ms az)::br (aW dj.owns ns bz)::C):=fun a w hf hs=>h a w hf (by rw [jB hl.symm]; exact hs.merge)
end
/-- the head of the ways: the way that ends here, if it may -/
def xV (l:aX) (r:cE) (rs fs:List Int) (ra fa:RA) (hz:List kT) (LA:List av):Prop:=
 ((r.ai.length:Int)-(dg rs).right≤l.dN∧ ∃ la:RA,hz=[(ra,fa,la)]∧LA=[own la.1 la.2 ml 1 ((jH l r rs).map iC)])∨(¬ (r.ai.length:Int)-(dg rs).right≤l.dN∧hz=[]∧LA=[])
theorem xV.len {l:aX} {r:cE} {rs fs:List Int} {ra fa:RA} {hz:List kT} {LA:List av} (h:xV l r rs fs ra fa hz LA):hz.length=(hO l r rs fs).length:=by
 unfold hO
 rcases h with ⟨q,la,rfl,rfl⟩|⟨q,rfl,rfl⟩
 ·rw [if_pos q]; rfl
 ·rw [if_neg q]; rfl
theorem xV.wr {l:aX} {r:cE} {rs fs:List Int} {ra fa:RA} {hz:List kT} {LA:List av} (h:xV l r rs fs ra fa hz LA):LA.all (·.wr)=true:=by
 rcases h with ⟨q,la,rfl,rfl⟩|⟨q,rfl,rfl⟩<;>rfl
theorem Lr {S:BS} {w0 w:World} {l:aX} {r:cE} {rs fs:List Int} {ra fa:RA} {hz az:List kT} {LA:List av} {R:List dj} {A:av} (hh:xV l r rs fs ra fa hz LA)
 (h:St S w0 [br [own ra.1 ra.2 ml 1 (rs.map iC),own fa.1 fa.2 ml 1 (fs.map iC)],A,br LA,br (aW dj.owns R az)] w):St S w0 [br (aW dj.owns (hO l r rs fs++R) (hz++az)++[A])] w:=by
 rw [jB hh.len.symm]
 have D:St S w0 [own ra.1 ra.2 ml 1 (rs.map iC),own fa.1 fa.2 ml 1 (fs.map iC),A,br LA,br (aW dj.owns R az)] w:=h.iK
 rcases hh with ⟨q,la,rfl,rfl⟩|⟨q,rfl,rfl⟩
 ·unfold hO
  rw [if_pos q]
  have B:=(St.kJ [3,0,1,2,4] rfl rfl D).iK
  have E:=(St.kJ [4,1,2,0,3] rfl rfl B).iK
  have C:St S w0 (((aW dj.owns [(⟨rs,fs,jH l r rs⟩:dj)] [(ra,fa,la)]++aW dj.owns R az)++[A])++[]) w:=by
   rw [List.append_nil]
   refine E.perm ?_
   show (aW dj.owns R az++(aW dj.owns [(⟨rs,fs,jH l r rs⟩:dj)] [(ra,fa,la)]++[A])).Perm _
   rw [← List.append_assoc]
   exact List.perm_append_comm.append_right _
  exact C.tied
 ·unfold hO
  rw [if_neg q]
  have B:=(St.kJ [4,2] rfl rfl D).iK
  have C:St S w0 (((aW dj.owns [] []++aW dj.owns R az)++[A])++[]) w:=by
   rw [List.append_nil]; exact B
  exact C.tied
theorem JW {E:fq} {K:Act→World→Prop} {D:hP} {L:dh} {l:aX} {r:cE} {rs fs:List Int} {ra fa:RA} {hz az z:List kT} {LA:List av} {R W:List dj} {A A':av} (hh:xV l r rs fs ra fa hz LA) (hW:hO l r rs fs++R=W) (hz':hz++az=z) (hA:A=A')
 (h:KJ E K D L [br (aW dj.owns W z++[A'])]):KJ E K D L [br [own ra.1 ra.2 ml 1 (rs.map iC),own fa.1 fa.2 ml 1 (fs.map iC)],A,br LA,br (aW dj.owns R az)]:=fun a w hf hs=>h a w hf (by subst hW hz' hA; exact Lr hh hs)
theorem Qu {E:fq} {K:Act→World→Prop} {D:hP} {L:dh} {X A:av} {W:List dj} (h:KJ E K D L [br (aW dj.owns W []++[A])]):KJ E K D L [X,A]:=fun a w hf hs=>h a w hf (by
 have B:St E.S E.w0 [A] w:=St.kJ [1] rfl rfl hs
 have C:St E.S E.w0 (([]++[A])++[]) w:=B
 have e:aW dj.owns W []=[]:=by cases W<;>rfl
 rw [e]
 exact C.tied)
theorem HS {E:fq} {K:Act→World→Prop} {D:hP} {L:dh} {C:List av} (e sz:Nat) (k:KJ E K D L (own none 0 e sz []::C)):KJ E K D L C:=fun a w hf hs=>k a w hf (hs.rJ e sz)
end
section
open Go.RowKit
theorem M5 (l:aX) (kA:OA) (kC:Nat) (az:List RA) (cA:OA) (cC:Nat) (bA:OA) (bC:Nat) (r:cE) (sgA:OA) (sgC:Nat) (hin:ew l az) (hsl:r.ai.length≤1000000):
 eB Tryz.prog 191 [(vA (bZ.cells (lJ l kA kC cA cC bA bC))),(vA (d_.cells (mh r sgA sgC)))] [(rd kA l.aL.length 9 (l.aL.map ak.cells)),(rd cA l.ah.length 2 (List.zipWith ao.cells l.ah az)),(e9 (aW ao.gP l.ah az)),(rd bA l.ae.length 4 (l.ae.map bE.cells)),(rd sgA r.ai.length 2 (r.ai.map aK.cells))] (vB (decide (fD l r))):=by
 have AS:=hin.sw
 have AO:=hin.sr
 have w:=hin.oo
 have AC:=hin.sH
 refine bG kr Tryz.func191 U U fun w0 Q hQ hN=>?_
 try dsimp only
 refine WS fun _ h=>gd U fun b2=>gd U fun b3=>bo 1 U<|RK h<|aj fun _ j=>WS fun _ H=>fY 2 [] (mc 0 U mn) U<|rS (CL (jc r.Start 0 86400000) (aI) U)<|rP 2 [] mn ?_
 refine dp (t:=11) U (bx fun X=>?_) (bw fun X=>?_)
 ·refine bo 13 U<|RK H<|aR U<|WS fun _ k=>rP 1 [] mn ?_
  refine RK k<|ar<|Q1 hQ U U U ?_
  exact cB (ct fun q=>by have C:=q.time; have u:=q.len; omega).symm
 refine fY 4 [] (mc 0 U mn) U<|rS (CL (jc r.gp r.Start 86400000) (aI) U)<|rP 3 [] mn ?_
 refine dp (t:=19) U (bx fun Z=>?_) (bw fun Z=>?_)
 ·refine bo 5 U<|RK H<|aR U<|WS fun _ m=>rP 1 [] mn ?_
  refine RK m<|ar<|Q1 hQ U U U ?_
  exact cB (ct fun q=>by have C:=q.time; have u:=q.len; omega).symm
 refine rP 5 [] (mc 0 U mn) ?_
 refine RK H<|cP U (aQ fun a=>?_) (aP fun a=>?_)
 ·refine WS fun _ n=>rP 1 [] mn ?_
  refine RK n<|ar<|Q1 hQ U U U ?_
  exact cB (ct fun q=>by have C:=q.time; have u:=q.len; omega).symm
 refine WK j<|aj fun _ o=>WS fun _ J=>rP 1 [] mn ?_
 refine RK J<|ax ?_
 have F:(0≤r.ai.length)∧(qP l r.ai 0):=by exact ⟨Nat.zero_le _,z7⟩
 refine bL (ι:={z:Nat // (z≤r.ai.length)∧(qP l r.ai z)}) [2,3] [0,1,2,3,4,5,6] U U (fun z=>[(5,(vI (z.1:Int)))]) (fun z=>[]) (fun _=>rfl) (fun _=>rfl) (fun z=>r.ai.length-z.1) ⟨0,F⟩ (aU U) (aG [0,1,2,3,4,5,6]) ?_
 clear F
 rintro ⟨i,⟨p,A⟩⟩ J11 D
 try dsimp only
 refine aj fun _ K=>WS fun _ L=>rP 5 [] (mc 0 U mn) ?_
 refine RK L<|bS U (aP fun Y=>?_) (aQ fun Y=>?_)
 ·refine bD<|ab<|ab<|ay<|KK o<|WS fun _ T=>rP 1 [] mn ?_
  refine RK T<|ar<|Q1 hQ U U U ?_
  exact cB (gf (CZ I I A I)).symm
 refine WK K<|aj fun _ E=>ax<|WS fun _ M=>rP 3 [] (mc 0 U mn) ?_
 obtain ⟨x,hx⟩:=aJ r.ai i I
 have s:=bO aK.cells hx
 refine rS (IA i U (aC 6 U) yK dc I I)<|rS (oY i 0 (aK.cells x) U cj (aC 6 U) s U dc U U)<|AL U FP fun v=>gl U yz U<|RK M<|aj fun _ N=>WS fun _ G=>fY 6 [0,1] (mc 0 U (mc 2 U mn)) U<|rS (CL (jc x.f_ 0 ((l.ae.length:Int)-1)) (aI) U)<|rP 2 [] mn ?_
 refine dp (t:=45) U (bx fun b=>?_) (bw fun b=>?_)
 ·refine bo 5 U<|RK G<|aR U<|WS fun _ O=>rP 1 [] mn ?_
  refine RK O<|ar<|Q1 hQ U U U ?_
  exact cB (ct fun q=>by have C:=q.sig i x hx; unfold kz lE at C; omega).symm
 refine fY 2 [] (mc 0 U mn) U<|rS (CL (jc x.Read 0 86400000) (aI) U)<|rP 2 [] mn ?_
 refine RK G<|cP U (bx fun c=>?_) (bw fun c=>?_)
 ·refine WS fun _ P=>rP 1 [] mn ?_
  refine RK P<|ar<|Q1 hQ U U U ?_
  exact cB (ct fun q=>by have C:=q.sig i x hx; unfold kz lE at C; omega).symm
 refine WK N<|aj fun _ B=>dH cx 38 kr<|dP 3 [] mn ?_
 refine jl (t:=53) U (aP fun d=>?_) (aQ fun d=>?_)
 ·refine lQ 35 U<|cQ<|RK B<|a_ U<|cr<|aH<|KK E<|al<|rP 3 [] mn ?_
  refine aA ?_
  have W:(vI (((i+1):Nat):Int))=(vI ((i:Int)+1)):=by exact cI I
  refine aV (D ⟨(i+1),⟨I,l3 A hx (by unfold kz lE; (rw [Iy I]; simp only; omega))⟩⟩ _ _ _ U os (dF.cons U<|dF.cons U<|bk U W<|dF.nil _) (aG [1,2,3,4,5,6,7]))
 refine dP 6 [0,1] (mc 0 U (mc 1 U mn)) ?_
 obtain ⟨y,hy⟩:=aJ r.ai (i-1) I
 have AB:=bO aK.cells hy
 refine dS (IA (i-1) U (aC 7 U) yK dc I I)<|dS (mW ((i-1)*2) U (aC 7 U) (Nat.mul_pos I dc) fw U)<|dS (gi (i-1) 0 (vI y.f_) U cj (aC 7 U) AB U dc U)<|dP 2 [] mn ?_
 refine js (t:=64) U (aQ fun e=>?_) (aP fun e=>?_)
 ·refine lQ 24 U<|cQ<|RK B<|aR U<|WS fun _ R=>rP 1 [] mn ?_
  refine RK R<|ar<|Q1 hQ U U U ?_
  exact cB (ct fun q=>by have C:=q.sig i x hx; unfold kz lE at C; (rw [rn I hy] at C; omega)).symm
 refine mV 6 [0,1] (mc 0 U (mc 1 U mn)) U<|dS (IA (i-1) U (aC 7 U) yK dc I I)<|dS (mW ((i-1)*2) U (aC 7 U) (Nat.mul_pos I dc) fw U)<|dS (gi (i-1) 0 (vI y.f_) U cj (aC 7 U) AB U dc U)<|dP 2 [] mn ?_
 refine jl (t:=75) U (aP fun f=>?_) (aQ fun f=>?_)
 ·refine lQ 13 U<|cQ<|RK B<|a_ U<|cr<|aH<|KK E<|al<|rP 3 [] mn ?_
  refine aA ?_
  have V:(vI (((i+1):Nat):Int))=(vI ((i:Int)+1)):=by exact cI I
  refine aV (D ⟨(i+1),⟨I,l3 A hx (by unfold kz lE; (rw [rn I hy]; omega))⟩⟩ _ _ _ U os (dF.cons U<|dF.cons U<|bk U V<|dF.nil _) (aG [1,2,3,4,5,6,7]))
 refine mV 6 [0,1] (mc 0 U (mc 1 U mn)) U<|dS (IA (i-1) U (aC 7 U) yK dc I I)<|dS (mW (((i-1)*2)+1) U (aC 7 U) (Nat.mul_pos I dc) fw U)<|dS (gi (i-1) 1 (vI y.Read) U cj (aC 7 U) AB U dc U)<|dP 4 [] mn ?_
 refine cQ<|RK B<|cP U (aQ fun g=>?_) (aP fun g=>?_)
 ·refine WS fun _ S=>rP 1 [] mn ?_
  refine RK S<|ar<|Q1 hQ U U U ?_
  exact cB (ct fun q=>by have C:=q.sig i x hx; unfold kz lE at C; (rw [rn I hy] at C; omega)).symm
 refine cr<|aH<|KK E<|al<|rP 3 [] mn ?_
 refine aA ?_
 have AA:(vI (((i+1):Nat):Int))=(vI ((i:Int)+1)):=by exact cI I
 refine aV (D ⟨(i+1),⟨I,l3 A hx (by unfold kz lE; (rw [rn I hy]; omega))⟩⟩ _ _ _ U os (dF.cons U<|dF.cons U<|bk U AA<|dF.nil _) (aG [1,2,3,4,5,6,7]))
end
section
open Go.RowKit
theorem NZ (l:aX) (kA:OA) (kC:Nat) (az:List RA) (cA:OA) (cC:Nat) (bA:OA) (bC:Nat) (r:cE) (sgA:OA) (sgC:Nat) (hin:ew l az) (hle:dD l=0) (hr:fD l r):
 lB Tryz.prog 193 [(vA (bZ.cells (lJ l kA kC cA cC bA bC))),(vA (d_.cells (mh r sgA sgC)))] [(rd kA l.aL.length 9 (l.aL.map ak.cells)),(rd cA l.ah.length 2 (List.zipWith ao.cells l.ah az)),(e9 (aW ao.gP l.ah az)),(rd bA l.ae.length 4 (l.ae.map bE.cells)),(rd sgA r.ai.length 2 (r.ai.map aK.cells))] (fun (x:(OA)×Nat×(OA)×Nat×(OA)×Nat)=>(vA (iR.cells (iR.mk (bj.mk x.1 ((cG l l.ae.length).length) x.2.1) (bj.mk x.2.2.1 ((eZ l r r.ai.length).length) x.2.2.2.1) (bj.mk x.2.2.2.2.1 ((fz l r r.ai.length).length) x.2.2.2.2.2))))) (fun (x:(OA)×Nat×(OA)×Nat×(OA)×Nat)=>True) (fun (x:(OA)×Nat×(OA)×Nat×(OA)×Nat)=>[(own x.1 x.2.1 3 1 ((cG l l.ae.length).map iC)),(own x.2.2.1 x.2.2.2.1 45 2 ((eZ l r r.ai.length).map aa.cells)),(own x.2.2.2.2.1 x.2.2.2.2.2 4 1 ((fz l r r.ai.length).map ql))]):=by
 have A4:=hin.sw
 have A0:=hin.sr
 have Ao:=hin.oo
 have Ap:=hin.sH
 obtain ⟨w,g⟩:=gj hle
 have t:=g.head
 unfold gE at t
 have A2:=hr.len
 have A3:=hr.time
 refine di kr Tryz.func193 U U fun w0 Q hQ hN=>?_
 try dsimp only
 refine WS fun _ n=>gd U fun b2=>gd U fun b3=>AL U Pm fun b4=>RK n<|WS fun _ o=>AL U Pm fun h=>RK o<|aj fun _ p=>WS fun _ q=>rP 1 [] mn ?_
 refine RK q<|ax<|gr 3 1 ?_
 have A:(0≤l.ae.length):=by exact Nat.zero_le _
 refine bL (ι:={z:Nat×(OA)×Nat // (z.1≤l.ae.length)}) [2,3,4,5] [2,3,4,5,6,7,8,9] U U (fun z=>[(6,(vI (z.1.1:Int)))]) (fun z=>[(own z.1.2.1 z.1.2.2 3 1 ((cG l z.1.1).map iC)),(cd h 266 (iR.cells (iR.mk (bj.mk z.1.2.1 ((cG l z.1.1).length) z.1.2.2) (bj.mk none 0 0) (bj.mk none 0 0))))]) (fun _=>rfl) (fun _=>rfl) (fun z=>l.ae.length-z.1.1) ⟨(0,none,0),A⟩ (aU U) (aG [2,3,4,5,6,7,8,9,0,1]) ?_
 clear A
 rintro ⟨⟨b,a,c⟩,F⟩ J9 m
 try dsimp only at F
 try dsimp only
 refine aj fun _ K=>WS fun _ L=>rP 5 [] (mc 2 U mn) ?_
 refine RK L<|cP U (aQ fun j=>?_) (aP fun j=>?_)
 ·refine WK K<|aj fun _ M=>ax<|dK cx [5,6,8] [1] [0] [0,1,2,3,4,5,6,7] [0,1,2,3,4,5,6,7,8,9] U U U U U<|eS U (FA 0 U fw U)<|fS U (L1 (vS a ((cG l b).length) c) 9 U cj U U)<|eS U (LW 2 U cj U U)<|eS U (MV U) ?_
  have A1:=nD w g (i:=b) I
  refine eS U (CL (KL l kA kC az cA cC bA bC (b:Int) hin asm asm I) (bp [3,4,5,6]) U)<|eS U (FA 0 U fw U)<|eT U<|gS U fun T14 W=>c_ (xs:=[.tmp 21]) (cs:=[(vI (dT l (b:Int).toNat))]) U cL jA U U U U (by simp [Value.cells]) U U fun y=>aA (W _ _ (aG [1,2,3,4,5,6,7,8]) (aG [1,2,3,4,5,6,7,8,9,10]) ?_)
  refine cf U fun T16 X=>?_
  refine ck (es2:=(List.map iC (cG l (b+1)))) (m':=(cG l (b+1)).length) 9 U U U pw U U sm (aZ (es:=List.map iC [(dT l (b:Int).toNat)]) 0 U U (by simp [bI]) U) (jP _) (by simp only [dR]; omega) (by simp only [maxLen,dR]; omega) (by rw [vH]; simp) sm U fun H AB=>?_
  try dsimp only
  refine aA (X _ _ (aG [1,2,3,4,5,6,7,8]) ?_)
  refine cf U fun T19 Y=>U7 (iR.cells (iR.mk (bj.mk H ((cG l (b+1)).length) AB) (bj.mk none 0 0) (bj.mk none 0 0))) U xN U U<|aA (Y _ _ (aG [1,2,3,4,5,6,7,8]) ?_)
  refine fO U<|aH<|KK M<|al<|rP 3 [] mn ?_
  refine aA ?_
  have e:(vI (((b+1):Nat):Int))=(vI ((b:Int)+1)):=by exact cI I
  refine aV (m ⟨((b+1),H,AB),(by first|omega|(simp only []; omega))⟩ _ _ _ U os (cU 4<|bk U e<|dF.nil _) (aG [1,2,3,4,5,6,7,8,9,10]))
 refine bD<|ab<|ab<|ay<|KK p<|aj fun _ N=>WS fun _ O=>?_
 rw [show cG l b=(cG l l.ae.length) from by rw [show b=l.ae.length by omega]]
 refine rP 1 [] mn ?_
 refine RK O<|ax<|gr 45 2<|gr 4 1 ?_
 have A:(0≤r.ai.length):=by exact Nat.zero_le _
 refine bL (ι:={z:Nat×(OA)×Nat×(OA)×Nat // (z.1≤r.ai.length)}) [2,3,4,5] [2,3,4,5,6,7,8,9,10] U U (fun z=>[(7,(vI (z.1.1:Int)))]) (fun z=>[(own z.1.2.2.2.1 z.1.2.2.2.2 4 1 ((fz l r z.1.1).map ql)),(own z.1.2.1 z.1.2.2.1 45 2 ((eZ l r z.1.1).map aa.cells)),(cd h 266 (iR.cells (iR.mk (bj.mk a ((cG l l.ae.length).length) c) (bj.mk z.1.2.1 ((eZ l r z.1.1).length) z.1.2.2.1) (bj.mk z.1.2.2.2.1 ((fz l r z.1.1).length) z.1.2.2.2.2))))]) (fun _=>rfl) (fun _=>rfl) (fun z=>r.ai.length-z.1.1) ⟨(0,none,0,none,0),A⟩ (aU U) (aG [2,3,4,5,6,7,8,9,10,0,1,11]) ?_
 clear A
 rintro ⟨⟨i,ta,tc,sa,sc⟩,G⟩ J23 J
 try dsimp only at G
 try dsimp only
 refine aj fun _ P=>WS fun _ R=>rP 5 [] (mc 1 U mn) ?_
 refine RK R<|bS U (aP fun k=>?_) (aQ fun k=>?_)
 ·refine bD<|ab<|ab<|ay<|KK N<|WS fun _ V=>?_
  rw [show eZ l r i=(eZ l r r.ai.length) from by rw [show i=r.ai.length by omega]]
  rw [show fz l r i=(fz l r r.ai.length) from by rw [show i=r.ai.length by omega]]
  refine rP 1 [] (mc 11 U mn) ?_
  refine gl U SL U<|RK V<|ar<|LX hQ (a,c,ta,tc,sa,sc) [8,10,9] [0] (mc 0 U mn) U U U U ?_
  trivial
 refine WK P<|aj fun _ S=>ax<|aj fun _ T=>dK cx [10,11] [] [] [0,1,2,3,4,5,6,7,8,9,10,11] [] U U U U U<|eS U (LW 2 U cj U U)<|eS U (FA 2 U fw U)<|eS U (L1 (vS sgA r.ai.length sgC) 1 U cj U U)<|eS U (MV U) ?_
 obtain ⟨s,hs⟩:=aJ r.ai i I
 have v:=bO aK.cells hs
 refine eS U (IA i U (aC 7 U) yK dc I I)<|eS U (oY i 0 (aK.cells s) U cj (aC 7 U) v U dc U U) ?_
 have u:=(hr.sig i s hs).1
 refine eS U (CL (Nt l kA kC az cA cC bA bC s hin asm (by exact u)) (bp [3,4,5,6]) U)<|eS U (MV U)<|eS U (EX U)<|eS U (EX U)<|eS U (AG U)<|eT U<|cf U fun T29 Z=>AL U dv fun AC=>aA (Z _ _ (aG [1,2,3,4,5,6,7,8,9,10,11,12]) ?_)
 refine cf U fun T31 d=>gl U cy U<|aA (d _ _ (aG [1,2,3,4,5,6,7,8,9,10,11,12]) ?_)
 refine fO U<|KK T<|WS fun _ AA=>rP 3 [0,1] (mc 12 U (mc 0 U mn)) ?_
 refine c_ (xs:=[.tmp 44]) (cs:=(aa.cells (cJ l s))) U g4 dv U U U U (by simp [Value.cells,aa.aS]) U U fun AO=>?_
 refine ck (es2:=(List.map aa.cells (eZ l r (i+1)))) (m':=(eZ l r (i+1)).length) 12 U U U w4 U U sm (aZ (es:=List.map aa.cells [(cJ l s)]) 0 U U (by simp [aa.aS]) U) (ia _) (by rw [rM I]; omega) (by rw [rM I]; simp only [maxLen]; omega) (by rw [Ed hs]; simp) sm U fun B C=>?_
 try dsimp only
 refine bo 1 U<|jG (vs:=[(vS B ((eZ l r (i+1)).length) C)]) (cs':=(iR.cells (iR.mk (bj.mk a ((cG l l.ae.length).length) c) (bj.mk B ((eZ l r (i+1)).length) C) (bj.mk sa ((fz l r i).length) sc)))) (C':=[_,_,_,_,_,_,_,_,_,_,_,_,_,(cd h 266 (iR.cells (iR.mk (bj.mk a ((cG l l.ae.length).length) c) (bj.mk B ((eZ l r (i+1)).length) C) (bj.mk sa ((fz l r i).length) sc))))]) 13 U U U Uv U U U U U U U<|RK AA<|al<|rP 3 [] (mc 13 U mn) ?_
 refine c_ (xs:=[.tmp 50]) (cs:=[(vB (decide ((cJ l s).Lo≤(cJ l s).Hi)))]) U Pj Wc U U U U (by simp [Value.cells]) U U fun AS=>?_
 refine ck (es2:=(List.map ql (fz l r (i+1)))) (m':=(fz l r (i+1)).length) 12 U U U RR U U sm (aZ (es:=List.map ql [(decide ((cJ l s).Lo≤(cJ l s).Hi))]) 0 U U (by simp [Be]) U) (HG _) (by rw [uD I]; omega) (by rw [uD I]; simp only [maxLen]; omega) (by rw [EM hs]; simp) sm U fun D E=>?_
 try dsimp only
 refine bo 1 U<|jG (vs:=[(vS D ((fz l r (i+1)).length) E)]) (cs':=(iR.cells (iR.mk (bj.mk a ((cG l l.ae.length).length) c) (bj.mk B ((eZ l r (i+1)).length) C) (bj.mk D ((fz l r (i+1)).length) E)))) (C':=[_,_,_,_,_,_,_,_,_,_,_,_,_,_,(cd h 266 (iR.cells (iR.mk (bj.mk a ((cG l l.ae.length).length) c) (bj.mk B ((eZ l r (i+1)).length) C) (bj.mk D ((fz l r (i+1)).length) E))))]) 14 U U U SR U U U U U U U<|aA<|aH<|KK S<|al<|bo 2 U<|rP 1 [] mn ?_
 refine aA ?_
 have f:(vI (((i+1):Nat):Int))=(vI ((i:Int)+1)):=by exact cI I
 refine aV (J ⟨((i+1),B,C,D,E),(by first|omega|(simp only []; omega))⟩ _ _ _ U os (cU 4<|bk U f<|dF.nil _) (aG [3,4,5,6,7,8,9,10,11,12,13,14]))
theorem IX (r:cE) (sgA:OA) (sgC:Nat) (l:aX) (wA:OA) (wC:Nat) (tA:OA) (tC:Nat) (bA:OA) (bC:Nat) (rs:List Int) (rsA:OA) (rsC:Nat) (hle:dD l=0) (hr:fD l r) (hn:rs.length≤l.ae.length) (hrs: ∀ x∈rs,0≤x→x<(r.ai.length:Int)):
 lB Tryz.prog 194 [(vA (d_.cells (mh r sgA sgC))),(vA (iR.cells (iR.mk (bj.mk wA ((cG l l.ae.length).length) wC) (bj.mk tA ((eZ l r r.ai.length).length) tC) (bj.mk bA ((fz l r r.ai.length).length) bC)))),(vS rsA rs.length rsC)] [(rd sgA r.ai.length 2 (r.ai.map aK.cells)),(rd wA ((cG l l.ae.length).length) 1 ((cG l l.ae.length).map iC)),(rd tA ((eZ l r r.ai.length).length) 2 ((eZ l r r.ai.length).map aa.cells)),(rd bA ((fz l r r.ai.length).length) 1 ((fz l r r.ai.length).map ql)),(rd rsA rs.length 1 (rs.map iC))] (fun (x:(OA)×Nat)=>(vS x.1 ((jH l r rs).length) x.2)) (fun (x:(OA)×Nat)=>True) (fun (x:(OA)×Nat)=>[(own x.1 x.2 3 1 ((jH l r rs).map iC))]):=by
 obtain ⟨J,D⟩:=gj hle
 have v:=D.head
 unfold gE at v
 have A1:=hr.len
 have A2:=hr.time
 have w:=GP (l:=l) (rs:=rs) ⟨I,I⟩ (fun b hb=>by have:=nD J D (i:=b) I; omega) hrs
 have Ap:=dR (l:=l) (n:=l.ae.length)
 have A3:=rM (l:=l) (Nat.le_refl r.ai.length)
 refine di kr Tryz.func194 U U fun w0 Q hQ hN=>?_
 try dsimp only
 refine WS fun _ h=>gd U fun b2=>gd U fun b3=>bo 1 U<|RK h<|WS fun _ m=>rP 2 [] mn ?_
 refine w6 (n:=rs.length) (es:=(List.map iC (List.replicate rs.length 0))) U U U pw I I (by simp only [maxLen]; omega) (by rw [List.map_replicate]; rfl) U fun E=>?_
 try dsimp only
 refine bo 1 U<|RK m<|WS fun _ p=>fY 3 [] (mc 2 U mn) U<|RK p<|aj fun _ q=>WS fun _ t=>rP 4 [] mn ?_
 refine RK t<|ax ?_
 rw [show (own (some ⟨E,0,none⟩) rs.length 3 1 (List.map iC (List.replicate rs.length 0)))=(own (some ⟨E,0,none⟩) rs.length 3 1 ((jV l r rs rs.length).map iC)) from by rw [GX]]
 have B:(rs.length≤rs.length):=by exact Nat.le_refl _
 have u:(vI ((jT l r rs rs.length).2))=(vI r.gp):=by rw [uJ]
 refine bL (ι:={z:Nat // (z≤rs.length)}) [2,3,4,7] [1,2,3,4,5,6,7] U U (fun z=>[(8,(vI ((jT l r rs z.1).2))),(9,(vI ((z.1:Int)-1)))]) (fun z=>[(own (some ⟨E,0,none⟩) rs.length 3 1 ((jV l r rs z.1).map iC))]) (fun _=>rfl) (fun _=>rfl) (fun z=>z.1) ⟨rs.length,B⟩ (bk U u<|aU U) (aG [1,2,3,4,5,6,7,0]) ?_
 clear B
 rintro ⟨j,AC⟩ J10 F
 try dsimp only
 have A0:=G6 (l:=l) (r:=r) (rs:=rs) (j:=j) I
 refine aj fun _ L=>WS fun _ M=>rP 2 [] mn ?_
 refine RK M<|bS U (aP fun g=>?_) (aQ fun g=>?_)
 ·refine bD<|ab<|ab<|ay<|KK q<|WS fun _ R=>rP 1 [] mn ?_
  rw [show (Value.slice (some ⟨E,0,none⟩) rs.length rs.length)=(Value.slice (some ⟨E,0,none⟩) ((jH l r rs).length) rs.length) from by rw [show (jH l r rs).length=rs.length from rF _ _]]
  rw [show jV l r rs j=jH l r rs from by rw [show j=0 by omega]; exact Eh]
  refine rP 1 [] mn ?_
  refine RK R<|ar<|LX hQ ((some ⟨E,0,none⟩),rs.length) [7] [] mn U U U U ?_
  trivial
 refine WK L<|aj fun _ G=>ax<|aj fun _ H=>WS fun _ N=>rP 2 [] mn ?_
 have Ao:=w (rs.length-j) j I
 obtain ⟨x,hx⟩:=aJ rs (j-1) I
 have d:=bO iC hx
 refine rS (IA (j-1) U (aC 6 U) cL dc I I)<|rS (gi (j-1) 0 (vI x) U cj (aC 6 U) d U dc U)<|rP 1 [] mn ?_
 refine RK N<|bS U (aP fun A=>?_) (aQ fun A=>?_)
 ·refine WK H<|WS fun _ P=>rP 3 [] mn ?_
  obtain ⟨A6,c⟩:=aJ (jV l r rs j) (j-1) I
  have hx25m:=bO iC c
  refine rS (IA (j-1) U (ag (n:=rs.length) 7 U sq) cL dc I I) ?_
  have V:((jV l r rs j).set (j-1) ((jT l r rs j).2))=(jV l r rs (j-1)):=by (rw [← zk I hx]; congr 1; unfold tY; (rw [if_neg A]; done))
  refine dk (k:=(j-1)) (o:=0) (vs:=[(vI ((jT l r rs j).2))]) (es':=(List.map iC (jV l r rs (j-1)))) (C':=[_,_,_,_,_,_,_,(own (some ⟨E,0,none⟩) rs.length 3 1 (List.map iC (jV l r rs (j-1))))]) 7 U U U Cs U U U U hx25m U dc (by exact (List.map_set (f:=iC) (l:=(jV l r rs j)) (i:=(j-1)) (a:=(jT l r rs j).2)).symm.trans (congrArg _ V)) U<|RK P<|al<|rP 4 [] (mc 0 U mn) ?_
  obtain ⟨y,hy⟩:=aJ (cG l l.ae.length) (j-1) I
  have K:=bO iC hy
  refine rS (IA (j-1) U (aC 3 U) cL dc I I)<|rS (gi (j-1) 0 (vI y) U cj (aC 3 U) K U dc U) ?_
  have C:=vi hy
  have AB:=nD J D (i:=j-1) I
  rw [← C] at AB
  refine bo 2 U<|aA<|aH<|KK G<|al<|rP 3 [] mn ?_
  refine aA ?_
  have W:(vI ((jT l r rs (j-1)).2))=(vI (((jT l r rs j).2)-y)):=by exact cI (by rw [pD I hx]; simp only; unfold tY; rw [C]; (rw [if_neg A]; done))
  have X:(vI ((((j-1):Nat):Int)-1))=(vI (((j:Int)-1)-1)):=by exact cI I
  refine aV (F ⟨(j-1),(by first|omega|(simp only []; omega))⟩ _ _ _ U os (cU 4<|bk U W<|bk U X<|dF.nil _) (aG [0,1,2,3,4,5,6,7]))
 refine dH cx 12 kr<|dP 5 [] (mc 0 U mn) ?_
 refine dS (IA (j-1) U (aC 6 U) cL dc I I)<|dS (gi (j-1) 0 (vI x) U cj (aC 6 U) d U dc U) ?_
 have A4:=hrs x (aT hx) A
 obtain ⟨z,hz⟩:=aJ (eZ l r r.ai.length) ((x).toNat) I
 have AS:=bO aa.cells hz
 refine dS (IA ((x).toNat) U (aC 4 U) g4 dc I I)<|dS (mW ((((x).toNat)*2)+1) U (aC 4 U) (Nat.mul_pos I dc) fw U) ?_
 obtain ⟨s,hs,e⟩:=Ky hz
 have AO:=xU l s
 rw [← e] at AO
 have Y:MW l r x=z.Hi:=by rw [Fm hs,e]
 refine dS (gi ((x).toNat) 1 (vI z.Hi) U cj (aC 4 U) AS U dc U)<|dS (MN U)<|lQ 1 U<|cQ<|RK H<|WS fun _ O=>rP 3 [] mn ?_
 obtain ⟨A5,Z⟩:=aJ (jV l r rs j) (j-1) I
 have hx19m:=bO iC Z
 refine rS (IA (j-1) U (ag (n:=rs.length) 7 U sq) cL dc I I) ?_
 have S:((jV l r rs j).set (j-1) (min ((jT l r rs j).2) z.Hi))=(jV l r rs (j-1)):=by (rw [← zk I hx]; congr 1; unfold tY; (rw [if_pos A,Y]; done))
 refine dk (k:=(j-1)) (o:=0) (vs:=[(vI (min ((jT l r rs j).2) z.Hi))]) (es':=(List.map iC (jV l r rs (j-1)))) (C':=[_,_,_,_,_,_,_,(own (some ⟨E,0,none⟩) rs.length 3 1 (List.map iC (jV l r rs (j-1))))]) 7 U U U Cs U U U U hx19m U dc (by exact (List.map_set (f:=iC) (l:=(jV l r rs j)) (i:=(j-1)) (a:=(min ((jT l r rs j).2) z.Hi))).symm.trans (congrArg _ S)) U<|RK O<|al<|rP 4 [] (mc 0 U mn) ?_
 obtain ⟨y,hy⟩:=aJ (cG l l.ae.length) (j-1) I
 have K:=bO iC hy
 refine rS (IA (j-1) U (aC 3 U) cL dc I I)<|rS (gi (j-1) 0 (vI y) U cj (aC 3 U) K U dc U) ?_
 have C:=vi hy
 have AB:=nD J D (i:=j-1) I
 rw [← C] at AB
 refine bo 2 U<|aA<|aH<|KK G<|al<|rP 3 [] mn ?_
 refine aA ?_
 have T:(vI ((jT l r rs (j-1)).2))=(vI ((min ((jT l r rs j).2) z.Hi)-y)):=by exact cI (by rw [pD I hx]; simp only; unfold tY; rw [C]; (rw [if_pos A,Y]; done))
 have AA:(vI ((((j-1):Nat):Int)-1))=(vI (((j:Int)-1)-1)):=by exact cI I
 refine aV (F ⟨(j-1),(by first|omega|(simp only []; omega))⟩ _ _ _ U os (cU 4<|bk U T<|bk U AA<|dF.nil _) (aG [0,1,2,3,4,5,6,7]))
end
section
open Go.RowKit
theorem Ir (l:aX) (kA:OA) (kC:Nat) (az:List RA) (cA:OA) (cC:Nat) (bA:OA) (bC:Nat) (r:cE) (sgA:OA) (sgC:Nat) (vwA:OA) (vwC:Nat) (vtA:OA) (vtC:Nat) (vbA:OA) (vbC k:Nat) (rs:List Int) (rA:OA) (rC:Nat) (fs:List Int) (fA:OA) (fC:Nat) (hin:ew l az) (hle:dD l=0) (hr:fD l r) (hk:rs.length+k=l.ae.length) (hfl:fs.length=rs.length) (hst:r.Start≤gD r.Start fs∧gD r.Start fs≤r.gp) (hrs: ∀ x∈rs,-1≤x∧x<(r.ai.length:Int)) (hrec: ∀ (k2:Nat) (rs2:List Int) (rA2:OA) (rC2:Nat) (fs2:List Int) (fA2:OA) (fC2:Nat),(k2<k)→(rs2.length+k2=l.ae.length)→(fs2.length=rs2.length)→(r.Start≤gD r.Start fs2∧gD r.Start fs2≤r.gp)→(∀ x∈rs2,-1≤x∧x<(r.ai.length:Int))→DO Tryz.prog 192 [(vA (bZ.cells (lJ l kA kC cA cC bA bC))),(vA (d_.cells (mh r sgA sgC))),(vA (iR.cells (iR.mk (bj.mk vwA ((cG l l.ae.length).length) vwC) (bj.mk vtA ((eZ l r r.ai.length).length) vtC) (bj.mk vbA ((fz l r r.ai.length).length) vbC)))),(vS rA2 rs2.length rC2),(vS fA2 fs2.length fC2)] [(rd kA l.aL.length 9 (l.aL.map ak.cells)),(rd cA l.ah.length 2 (List.zipWith ao.cells l.ah az)),(e9 (aW ao.gP l.ah az)),(rd bA l.ae.length 4 (l.ae.map bE.cells)),(rd sgA r.ai.length 2 (r.ai.map aK.cells)),(rd vwA ((cG l l.ae.length).length) 1 ((cG l l.ae.length).map iC)),(rd vtA ((eZ l r r.ai.length).length) 2 ((eZ l r r.ai.length).map aa.cells)),(rd vbA ((fz l r r.ai.length).length) 1 ((fz l r r.ai.length).map ql))] (br [own rA2 rC2 3 1 (rs2.map iC),own fA2 fC2 3 1 (fs2.map iC)]) (fun (x:(OA)×Nat×(List kT))=>(vS x.1 ((iw l r k2 rs2 fs2).length) x.2.1)) (fun (x:(OA)×Nat×(List kT))=>x.2.2.length=(iw l r k2 rs2 fs2).length) (fun (x:(OA)×Nat×(List kT))=>(br (aW dj.owns (iw l r k2 rs2 fs2) x.2.2++[own x.1 x.2.1 269 3 (List.zipWith dj.cells (iw l r k2 rs2 fs2) x.2.2)])))):
 DO Tryz.prog 192 [(vA (bZ.cells (lJ l kA kC cA cC bA bC))),(vA (d_.cells (mh r sgA sgC))),(vA (iR.cells (iR.mk (bj.mk vwA ((cG l l.ae.length).length) vwC) (bj.mk vtA ((eZ l r r.ai.length).length) vtC) (bj.mk vbA ((fz l r r.ai.length).length) vbC)))),(vS rA rs.length rC),(vS fA fs.length fC)] [(rd kA l.aL.length 9 (l.aL.map ak.cells)),(rd cA l.ah.length 2 (List.zipWith ao.cells l.ah az)),(e9 (aW ao.gP l.ah az)),(rd bA l.ae.length 4 (l.ae.map bE.cells)),(rd sgA r.ai.length 2 (r.ai.map aK.cells)),(rd vwA ((cG l l.ae.length).length) 1 ((cG l l.ae.length).map iC)),(rd vtA ((eZ l r r.ai.length).length) 2 ((eZ l r r.ai.length).map aa.cells)),(rd vbA ((fz l r r.ai.length).length) 1 ((fz l r r.ai.length).map ql))] (br [own rA rC 3 1 (rs.map iC),own fA fC 3 1 (fs.map iC)]) (fun (x:(OA)×Nat×(List kT))=>(vS x.1 ((iw l r k rs fs).length) x.2.1)) (fun (x:(OA)×Nat×(List kT))=>x.2.2.length=(iw l r k rs fs).length) (fun (x:(OA)×Nat×(List kT))=>(br (aW dj.owns (iw l r k rs fs) x.2.2++[own x.1 x.2.1 269 3 (List.zipWith dj.cells (iw l r k rs fs) x.2.2)]))):=by
 have Rk:=hin.sw
 have Pl:=hin.sr
 have Pi:=hin.oo
 have Pk:=hin.sH
 obtain ⟨LL,Fd⟩:=gj hle
 have Kc:=Fd.head
 unfold gE at Kc
 have Ao:=hr.len
 have Qr:=hr.time
 have Qq:=dR (l:=l) (n:=l.ae.length)
 have Rw:=rM (l:=l) (Nat.le_refl r.ai.length)
 have Re:=uD (l:=l) (Nat.le_refl r.ai.length)
 have R0:=tT rs
 refine mX kr Tryz.func192 U U fun w0 Q hQ hN=>?_
 try dsimp only
 refine Bu 0 U U fun wz Sz hz=>?_
 try dsimp only
 refine WS fun _ J8=>gd U fun b2=>gd U fun b3=>gd U fun b4=>bo 1 U<|RK J8<|WS fun _ J9=>bo 1 U<|RK J9<|WS fun _ KR=>bo 4 U<|RK KR<|aj fun _ KT=>WS fun _ KU=>rP 1 [] mn ?_
 refine RK KU<|ax ?_
 have C:(0≤rs.length):=by exact Nat.zero_le _
 have KX:(vI ((dg (rs.take 0)).right))=(vI 0):=by rfl
 refine bL (ι:={z:Nat // (z≤rs.length)}) [3,4,5,6,7,11,12] [0,1,2,3,4,5,6,7,8,9,10,11] U U (fun z=>[(13,(vI ((dg (rs.take z.1)).right))),(14,(vI (z.1:Int)))]) (fun z=>[]) (fun _=>rfl) (fun _=>rfl) (fun z=>rs.length-z.1) ⟨0,C⟩ (bk U KX<|aU U) (aG [0,1,2,3,4,5,6,7,8,9,10,11]) ?_
 clear C
 rintro ⟨i,K4⟩ J10 g
 try dsimp only
 have K8:=tT (rs.take i)
 rw [List.length_take] at K8
 refine aj fun _ A1=>WS fun _ A2=>rP 3 [] mn ?_
 refine RK A2<|cP U (aQ fun J2=>?_) (aP fun J2=>?_)
 ·refine WK A1<|aj fun _ h=>ax<|WS fun _ A3=>rP 2 [] mn ?_
  obtain ⟨x,hx⟩:=aJ rs i I
  have LT:=bO iC hx
  refine rS (IA i U (show iA _ (rd rA rs.length 1 (rs.map iC)).holds from (pY (c:=rC) (e:=3) 3 U sm sm)) cL dc I I)<|rS (gi i 0 (vI x) U cj (show iA _ (rd rA rs.length 1 (rs.map iC)).holds from (pY (c:=rC) (e:=3) 3 U sm sm)) LT U dc U)<|rP 1 [] mn ?_
  refine RK A3<|bS U (aP fun AO=>?_) (aQ fun AO=>?_)
  ·refine cr<|aH<|KK h<|al<|rP 3 [] mn ?_
   refine aA ?_
   have C0:(vI ((dg (rs.take (i+1))).right))=(vI ((dg (rs.take i)).right)):=by exact cI (by rw [uh hx]; (rw [if_neg AO]; exact Int.add_zero _))
   have C2:(vI (((i+1):Nat):Int))=(vI ((i:Int)+1)):=by exact cI I
   refine aV (g ⟨(i+1),(by first|omega|(simp only []; omega))⟩ _ _ _ U os (cU 7<|bk U C0<|bk U C2<|dF.nil _) (aG [0,1,2,3,4,5,6,7,8,9,10,11]))
  refine al<|bo 3 U<|aA<|aH<|KK h<|al<|rP 3 [] mn ?_
  refine aA ?_
  have Cp:(vI ((dg (rs.take (i+1))).right))=(vI (((dg (rs.take i)).right)+1)):=by exact cI (by rw [uh hx]; (rw [if_pos AO]; done))
  have Cx:(vI (((i+1):Nat):Int))=(vI ((i:Int)+1)):=by exact cI I
  refine aV (g ⟨(i+1),(by first|omega|(simp only []; omega))⟩ _ _ _ U os (cU 7<|bk U Cp<|bk U Cx<|dF.nil _) (aG [0,1,2,3,4,5,6,7,8,9,10,11]))
 refine bD<|ab<|ab<|ay<|KK KT<|aj fun _ A4=>aj fun _ A5=>?_
 rw [show rs.take i=rs from List.take_of_length_le I]
 refine al<|rP 6 [] (mc 2 U mn) ?_
 refine RK A5<|cP U (aQ fun J4=>?_) (aP fun J4=>?_)
 ·refine WS fun _ A6=>ed 269 3<|rP 1 [] mn ?_
  refine RK A6<|ar<|Bl (C1:=[(own none 0 269 3 [])]) hz [0] U U U<|Qu (W:=iw l r k rs fs) ?_
  rw [show (own none 0 269 3 [])=(own none 0 269 3 (List.zipWith dj.cells (iw l r k rs fs) [])) from by rw [oe I]; rfl]
  refine LM hQ (none,0,[]) 0 [] mn U (by show List.all _ _=true; rw [List.all_append,pP]; rfl) U ?_ ?_
  ·exact (by rw [oe I]; rfl)
  ·rw [oe I]; rfl
 refine WK A4 ?_
 refine mw (ι:={z:(OA)×Nat×(List kT)×(List av) // (xV l r rs fs (rA,rC) (fA,fC) z.2.2.1 z.2.2.2)}) [3,4,5,6,7,12] [0,1,2,3,4,5,6,7,8,9,10,11] U U (fun z=>[(11,(vS z.1.1 ((hO l r rs fs).length) z.1.2.1))]) (fun z=>[(own z.1.1 z.1.2.1 269 3 (List.zipWith dj.cells (hO l r rs fs) z.1.2.2.1)),(br z.1.2.2.2)]) (fun _=>rfl) (fun _=>rfl) ?_ fun K23 m=>?_
 ·rintro ⟨⟨oA,oC,E,LA⟩,H⟩
  try dsimp only at H
  try dsimp only
  have D:=H
  have K0:=D.len
  have P8:=w9 (l:=l) (r:=r) (rs:=rs) (fs:=fs)
  refine aj fun _ V=>WS fun _ A7=>rP 4 [] (mc 2 U mn) ?_
  have R1:=uK (l:=l) (r:=r) (rs:=rs) (fs:=fs) Ao (k:=k) I
  refine rP 1 [] mn ?_
  refine RK A7<|cP U (aQ fun J5=>?_) (aP fun J5=>?_)
  ·refine WS fun _ A8=>bo 1 U<|rP 1 [] mn ?_
   refine RK A8<|ar ?_
   obtain rfl:k=0:=by omega
   refine EY ?_
   try dsimp only
   refine Bl (C1:=[(own oA oC 269 3 (List.zipWith dj.cells (hO l r rs fs) E)),(br LA),(br (aW dj.owns [] []))]) hz [13,14,0] U U (by simp only [fE,List.all_nil,Bool.and_true,cS]; exact ⟨U,D.wr,pP _ _⟩) ?_
   refine JW (ra:=(rA,rC)) (fa:=(fA,fC)) (A':=(own oA oC 269 3 (List.zipWith dj.cells (iw l r 0 rs fs) E))) D ((List.append_nil _).trans (og I).symm) (List.append_nil _) (by rw [og I]) ?_
   refine LM hQ (oA,oC,E) 0 [] mn U (by show List.all _ _=true; rw [List.all_append,pP]; rfl) U ?_ ?_
   ·exact (by (rw [og I]; rfl))
   ·rw [og I]; exact K0
  refine WK V<|WS fun _ A9=>?_
  obtain ⟨B,rfl⟩: ∃ B,k=B+1:=⟨k-1,I⟩
  refine rP 3 [] (mc 1 U mn) ?_
  refine RK A9 ?_
  refine mw (ι:=Unit) [3,4,5,6,7,11,12] [0,1,2,3,4,5,6,7,8,9,10,11,12,13] U U (fun z=>[(15,(vI (gD r.Start fs)))]) (fun z=>[]) (fun _=>rfl) (fun _=>rfl) ?_ fun K28 o=>?_
  ·intro _
   try dsimp only
   refine WS fun _ Z=>rP 4 [] (mc 0 U mn) ?_
   obtain ⟨yls,GT⟩:=aJ (cG l l.ae.length) (rs.length) I
   have Gm:=bO iC GT
   refine rS (IA rs.length U (aC 9 U) cL dc I I)<|rS (gi rs.length 0 (vI yls) U cj (aC 9 U) Gm U dc U) ?_
   have QL:=nD LL Fd (i:=rs.length) I
   rw [vi GT]
   refine bo 2 U<|RK Z<|aj fun _ Bm=>WS fun _ B3=>rP 1 [] mn ?_
   refine RK B3<|ax ?_
   rw [show (hO l r rs fs)=((hO l r rs fs)++(iF l r B rs fs 0)) from (List.append_nil _).symm]
   rw [show E=E++[] from (List.append_nil _).symm]
   refine lV ?_
   try dsimp only
   have C:(0≤r.ai.length+1)∧(([]:List kT).length=(iF l r B rs fs 0).length):=by exact ⟨Nat.zero_le _,rfl⟩
   have d:(vI ((0:Int)-1))=(vI (-1)):=by exact cI I
   refine bL (ι:={z:Nat×(OA)×Nat×(List kT) // (z.1≤r.ai.length+1)∧(z.2.2.2.length=(iF l r B rs fs z.1).length)}) [3,4,5,6,7,12,15] [1,2,3,4,5,6,7,8,9,10,11,12,14] U U (fun z=>[(11,(vS z.1.2.1 (((hO l r rs fs)++(iF l r B rs fs z.1.1)).length) z.1.2.2.1)),(16,(vI ((z.1.1:Int)-1)))]) (fun z=>[(br (aW dj.owns (iF l r B rs fs z.1.1) z.1.2.2.2)),(own z.1.2.1 z.1.2.2.1 269 3 (List.zipWith dj.cells ((hO l r rs fs)++(iF l r B rs fs z.1.1)) (E++z.1.2.2.2)))]) (fun _=>rfl) (fun _=>rfl) (fun z=>r.ai.length+1-z.1.1) ⟨(0,oA,oC,([]:List kT)),C⟩ (dF.cons U<|bk U d<|dF.nil _) (aG [1,2,3,4,5,6,7,8,9,10,11,12,14,0,13]) ?_
   clear C
   rintro ⟨⟨j,M,N,azW⟩,⟨f,A⟩⟩ J33 O
   try dsimp only at f A
   try dsimp only
   have LE:=Ja (l:=l) (r:=r) (k:=B) (j:=j) (rs:=rs) (fs:=fs) Ao I I
   refine aj fun _ B7=>WS fun _ B9=>rP 5 [] (mc 1 U mn) ?_
   refine RK B9<|bS U (aP fun J3=>?_) (aQ fun J3=>?_)
   ·refine bD<|ab<|ab<|ay<|KK Bm<|WS fun _ Ck=>bo 1 U<|rP 1 [] mn ?_
    refine RK Ck<|ar ?_
    refine Bl (C1:=[(own M N 269 3 (List.zipWith dj.cells ((hO l r rs fs)++(iF l r B rs fs j)) (E++azW))),(br LA),(br (aW dj.owns (iF l r B rs fs j) azW))]) hz [14,12,13] U U (by simp only [fE,List.all_nil,Bool.and_true,cS]; exact ⟨U,D.wr,pP _ _⟩) ?_
    refine JW (ra:=(rA,rC)) (fa:=(fA,fC)) (W:=iw l r (B+1) rs fs) (A':=(own M N 269 3 (List.zipWith dj.cells (iw l r (B+1) rs fs) (E++azW)))) D (by rw [nU I,rv,show r.ai.length+1=j by omega]) U (by rw [nU I,rv,show r.ai.length+1=j by omega]) ?_
    refine LM hQ (M,N,(E++azW)) 0 [] mn U (by show List.all _ _=true; rw [List.all_append,pP]; rfl) U ?_ ?_
    ·exact (by (rw [nU I,rv,show r.ai.length+1=j by omega]; rfl))
    ·rw [nU I,rv,show r.ai.length+1=j by omega]; simp only [List.length_append]; omega
   refine WK B7<|aj fun _ P=>ax<|aj fun _ Ca=>dH cx 5 kr<|dP 5 [] (mc 1 U mn) ?_
   refine cQ<|RK Ca ?_
   refine mw (ι:={z:Int×Int // ((z.1≤z.2→pn l r rs.length (gD r.Start fs+dT l rs.length) ((j:Int)-1)=some z.1)∧(¬ z.1≤z.2→pn l r rs.length (gD r.Start fs+dT l rs.length) ((j:Int)-1)=none))∧(r.Start≤z.1∧z.2≤r.gp)}) [3,4,5,6,7,11,12,15,16] [0,1,2,3,4,5,6,7,8,9,10,11,12,13,14] U U (fun z=>[(17,(vI z.1.1)),(18,(vI z.1.2))]) (fun z=>[]) (fun _=>rfl) (fun _=>rfl) ?_ fun K39 p=>?_
   ·rintro ⟨⟨tt,ee⟩,⟨AB,J⟩⟩
    try dsimp only at AB J
    try dsimp only
    have FT:=AB
    have QG:=J
    refine WS fun _ a=>rP 3 [] mn ?_
    refine RK a<|bS U (aP fun AA=>?_) (aQ fun AA=>?_)
    ·refine cr<|aH<|KK P<|al<|rP 3 [] mn ?_
     refine aA ?_
     have L:(iF l r B rs fs (j+1))=(iF l r B rs fs j):=by exact qR (FT.2 AA)
     rw [← L]
     have FR:(vI ((((j+1):Nat):Int)-1))=(vI (((j:Int)-1)+1)):=by exact cI I
     refine aV (O ⟨((j+1),M,N,azW),⟨I,by dsimp only; (rw [L]; exact A)⟩⟩ _ _ _ U os (cU 8<|bk U FR<|dF.nil _) (aG [0,1,2,3,4,5,6,7,8,9,10,11,12,13,14]))
    refine Ub (L':=[(3,(vS rA rs.length rC)),(4,(vS fA fs.length fC)),(5,(vP b2)),(6,(vP b3)),(7,(vP b4)),(11,(vS M (((hO l r rs fs)++(iF l r B rs fs j)).length) N)),(12,(vI (rs.length:Int))),(15,(vI ((gD r.Start fs)+(dT l rs.length)))),(16,(vI ((j:Int)-1))),(17,(vI tt)),(18,(vI ee)),(123,(vI tt)),(124,(vI ee)),(125,(vB (decide (tt≤ee))))]) rfl<|oJ cx [0,1,2,3,5,7,11,13] [4,6,8,9,10,12,14,15,16,17,18] [false,false,false,false,false,false,false,false] [] [(cd b4 266 (iR.cells (iR.mk (bj.mk vwA ((cG l l.ae.length).length) vwC) (bj.mk vtA ((eZ l r r.ai.length).length) vtC) (bj.mk vbA ((fz l r r.ai.length).length) vbC)))),(cd b3 60 (d_.cells (mh r sgA sgC))),(cd b2 28 (bZ.cells (lJ l kA kC cA cC bA bC))),(br [own rA rC 3 1 (rs.map iC),own fA fC 3 1 (fs.map iC)]).ro,(rd kA l.aL.length 9 (l.aL.map ak.cells)).ro,(rd cA l.ah.length 2 (List.zipWith ao.cells l.ah az)).ro,(e9 (aW ao.gP l.ah az)).ro,(rd bA l.ae.length 4 (l.ae.map bE.cells)).ro,(rd sgA r.ai.length 2 (r.ai.map aK.cells)).ro,(rd vwA ((cG l l.ae.length).length) 1 ((cG l l.ae.length).map iC)).ro,(rd vtA ((eZ l r r.ai.length).length) 2 ((eZ l r r.ai.length).map aa.cells)).ro,(rd vbA ((fz l r r.ai.length).length) 1 ((fz l r r.ai.length).map ql)).ro,(br LA),(br (aW dj.owns (iF l r B rs fs j) azW))] [] kr (aG [0,1,2,3,4,5,6,7,8,9,10,11,12,13]) (aG [])<|eS rfl (MV rfl)<|eS rfl (LW 2 rfl cj rfl rfl)<|eS rfl (LW 1 rfl cj rfl rfl)<|eS rfl (LW 0 rfl cj rfl rfl)<|eS rfl (MV rfl)<|eS rfl (MV rfl)<|eS rfl (MV rfl)<|eS rfl (MV rfl)<|eT rfl<|Nf [.take 4,.op 6,.take 8,.op 9,.take 10,.op 12,.take 14,.op 15,.op 16,.op 17,.op 18] [(133,(vI ((j:Int)-1))),(139,(vI tt))] (fun i=>match i with |4=>130|8=>134|10=>136|14=>140|_=>0) (fun i b=>match i with |4=> .slice (some ⟨b,0,none⟩) 0 0|8=> .slice (some ⟨b,0,none⟩) 1 1|10=> .slice (some ⟨b,0,none⟩) 0 0|14=> .slice (some ⟨b,0,none⟩) 1 1|_=>undef) (fun i b=>match i with |4=>cd b 3 []|8=>cd b 3 [(vI ((j:Int)-1))]|10=>cd b 3 []|14=>cd b 3 [(vI tt)]|_=>cd b 0 []) rfl rfl rfl kr rfl rfl (aG [0,1,2,3,4,5,6,7,8,9,10,11,12,13]) (wj (Ji rfl cL rfl rfl (fun _=>rfl) fun _=>rfl)<|yc<|wj (PM (xs:=[.tmp 133]) (cs:=[(vI ((j:Int)-1))]) rfl cL jA rfl rfl rfl rfl (by simp [Value.cells]) rfl rfl rfl (fun _=>rfl) fun _=>rfl)<|yc<|wj (Ji rfl cL rfl rfl (fun _=>rfl) fun _=>rfl)<|yc<|wj (PM (xs:=[.tmp 139]) (cs:=[(vI tt)]) rfl cL jA rfl rfl rfl rfl (by simp [Value.cells]) rfl rfl rfl (fun _=>rfl) fun _=>rfl)<|yc<|yc<|yc<|yc<|QP) ?_
    intro Id
    try dsimp only
    refine xY U fun Y X K hT=>cR (es:=(List.map iC [])) (C':=[own (some ⟨Id,0,none⟩) 0 3 1 (List.map iC []),_,_,_,_,_,_,_,_,_,_,_,_,_,_,_]++X) 0 U sm U (by simp [maxLen]) U ?_
    refine ck (es2:=(List.map iC rs)) (m':=rs.length) 0 U U U pw U U sm (show iA _ (rd rA rs.length 1 (rs.map iC)).holds from (pY (c:=rC) (e:=3) 4 U sm sm)) (jP _) (by first|omega|(simp; done)|(simp; omega)) (by (simp only [maxLen]; omega)) sm sm U fun Ne PP=>?_
    try dsimp only
    refine sN hT 24 16 U U (fun w hs=>St.kJ [1,2,3,4,5,6,7,8,9,10,11,12,13,14] U U hs) U U ?_
    try dsimp only [List.take]
    intro Or
    try dsimp only
    refine xY U fun Y X K hT=>?_
    refine ck (es2:=(List.map iC (rs++[(j:Int)-1]))) (m':=(rs++[(j:Int)-1]).length) 1 U U U pw U U sm (aZ (es:=List.map iC [((j:Int)-1)]) 0 U U (by simp [bI]) U) (jP _) (by first|omega|(simp; done)|(simp; omega)) (by (simp only [maxLen]; omega)) sm sm U fun H1 In=>?_
    try dsimp only
    refine sN hT 26 17 U U (fun w hs=>St.kJ [2,3,4,5,6,7,8,9,10,11,12,13,14,15] U U hs) U U ?_
    try dsimp only [List.take]
    intro If
    try dsimp only
    refine xY U fun Y X K hT=>cR (es:=(List.map iC [])) (C':=[own (some ⟨If,0,none⟩) 0 3 1 (List.map iC []),_,_,_,_,_,_,_,_,_,_,_,_,_,_,_,_,_]++X) 0 U sm U (by simp [maxLen]) U ?_
    refine ck (es2:=(List.map iC fs)) (m':=fs.length) 0 U U U pw U U sm (show iA _ (rd fA fs.length 1 (fs.map iC)).holds from (pY (c:=fC) (e:=3) 6 U sm sm)) (jP _) (by first|omega|(simp; done)|(simp; omega)) (by (simp only [maxLen]; omega)) sm sm U fun Nx PX=>?_
    try dsimp only
    refine sN hT 28 18 U U (fun w hs=>St.kJ [3,4,5,6,7,8,9,10,11,12,13,14,15,16] U U hs) U U ?_
    try dsimp only [List.take]
    intro Os
    try dsimp only
    refine xY U fun Y X K hT=>?_
    refine ck (es2:=(List.map iC (fs++[tt]))) (m':=(fs++[tt]).length) 1 U U U pw U U sm (aZ (es:=List.map iC [tt]) 0 U U (by simp [bI]) U) (jP _) (by first|omega|(simp; done)|(simp; omega)) (by (simp only [maxLen]; omega)) sm sm U fun IO I0=>?_
    try dsimp only
    refine sN hT 30 19 U U (fun w hs=>St.kJ [4,5,6,7,8,9,10,11,12,13,14,15,16,17] U U hs) U U ?_
    try dsimp only [List.take]
    refine xY U fun Y X K hT=>?_
    have R:=FT.1 AA
    refine xb<|rL 4 U ?_
    try dsimp only [List.eraseIdx]
    refine Bk U<|rL 2 U ?_
    try dsimp only [List.eraseIdx]
    refine Bk U ?_
    try dsimp only
    refine jm 0 rfl rfl rfl rfl (hrec B (rs++[(j:Int)-1]) H1 In (fs++[tt]) IO I0 I (by simp only [List.length_append,List.length_singleton]; omega) (by simp only [List.length_append,List.length_singleton]; omega) (by rw [nE]; omega) (by intro x hx; rcases dM.1 hx with hx|hx; exact hrs x hx; rw [bH.1 hx]; omega)) rfl (eA 7 rfl rfl (dV (bV _)) (eA 8 rfl rfl (dV (bV _)) (eA 9 rfl rfl (dV (bV _)) (eA 10 rfl rfl (dV (bV _)) (eA 11 rfl rfl (dV (bV _)) (eA 12 rfl rfl (dV (bV _)) (eA 13 rfl rfl (dV (bV _)) (eA 14 rfl rfl (dV (bV _)) kG)))))))) rfl (fun Lk Ap=>?_)
    obtain ⟨M4,NE,v⟩:=Lk
    try dsimp only
    dsimp only at Ap
    refine sN hT 31 18 U U (fun w hs=>St.kJ [3,4,5,6,7,8,9,10,11,12,13,14,15,16] U U hs) U U ?_
    try dsimp only [List.take]
    refine xY U fun Y X K hT=>rL 0 U ?_
    try dsimp only [List.eraseIdx]
    refine zd ?_
    have R2:=uK (l:=l) (r:=r) (k:=B) (rs:=(rs++[(j:Int)-1])) (fs:=(fs++[tt])) Ao I
    refine ck (es2:=(List.zipWith dj.cells ((hO l r rs fs)++(iF l r B rs fs (j+1))) (E++(azW++v)))) (m':=((hO l r rs fs)++(iF l r B rs fs (j+1))).length) 18 U U U Pf U U (tw (by simp only [List.length_append]; omega)).symm (ag (n:=(iw l r B (rs++[(j:Int)-1]) (fs++[tt])).length) 0 U (tw Ap)) (Dz _ _) (by simp only [List.length_append]; omega) (by simp only [List.length_append,maxLen]; omega) (by rw [nF R,← List.append_assoc,← List.append_assoc]; exact (Kt (by simp only [List.length_append]; omega)).symm) (tw (by rw [nF R]; simp only [List.length_append]; omega)) U fun IR I4=>?_
    try dsimp only
    refine sN hT 32 19 U U (fun w hs=>St.kJ [4,5,6,7,8,9,10,11,12,13,14,15,16,17] U U hs) U U ?_
    try dsimp only [List.take]
    refine xY U fun Y X K hT=>rS (AG U)<|sN hT 33 19 U U (fun w hs=>St.kJ [4,5,6,7,8,9,10,11,12,13,14,15,16,17] U U hs) U U ?_
    try dsimp only [List.take]
    refine aH<|KK P<|al<|rP 3 [] mn ?_
    refine aA<|Gd 1 U ?_
    try dsimp only [List.eraseIdx]
    refine Gd 17 U ?_
    try dsimp only [List.eraseIdx]
    refine Ma A ?_
    rw [← nF R]
    try dsimp only
    have Eq:(vI ((((j+1):Nat):Int)-1))=(vI (((j:Int)-1)+1)):=by exact cI I
    refine aV (O ⟨((j+1),IR,I4,(azW++v)),⟨I,by dsimp only; (rw [nF R,List.length_append,List.length_append,A,Ap])⟩⟩ _ _ _ U os (cU 8<|bk U Eq<|dF.nil _) (aG [4,5,6,7,8,9,10,11,12,13,14,15,16,0,17]))
   refine WS fun _ a=>rP 2 [] mn ?_
   refine RK a<|bS U (aP fun J7=>?_) (aQ fun J7=>?_)
   ·refine cr ?_
    refine aV (ja (aU U) (aG [0,1,2,3,4,5,6,7,8,9,10,11,12,13,14]) (p ⟨(((gD r.Start fs)+(dT l rs.length)),r.gp),⟨by exact Lv I,I⟩⟩))
   refine aj fun _ Ci=>WS fun _ u=>rP 3 [] (mc 1 U mn) ?_
   obtain ⟨s,hs⟩:=aJ r.ai ((((j:Int)-1)).toNat) I
   have K5:=bO aK.cells hs
   refine rS (IA ((((j:Int)-1)).toNat) U (aC 8 U) yK dc I I)<|rS (mW (((((j:Int)-1)).toNat)*2) U (aC 8 U) (Nat.mul_pos I dc) fw U)<|rS (gi ((((j:Int)-1)).toNat) 0 (vI s.f_) U cj (aC 8 U) K5 U dc U) ?_
   have Ra:=(hr.sig _ s hs).1
   refine rP 3 [] mn ?_
   refine dp (t:=99) U (bx fun A0=>?_) (bw fun A0=>?_)
   ·refine bo 7 U<|RK u<|aR U<|bD<|ab<|ab<|ay<|KK P<|al<|rP 3 [] mn ?_
    refine aA ?_
    have L:(iF l r B rs fs (j+1))=(iF l r B rs fs j):=by exact qR (wW I hs (fun q=>A0 I))
    rw [← L]
    have Do:(vI ((((j+1):Nat):Int)-1))=(vI (((j:Int)-1)+1)):=by exact cI I
    refine aV (O ⟨((j+1),M,N,azW),⟨I,by dsimp only; (rw [L]; exact A)⟩⟩ _ _ _ U os (cU 8<|bk U Do<|dF.nil _) (aG [0,1,2,3,4,5,6,7,8,9,10,11,12,13,14]))
   refine rP 3 [] (mc 0 U mn) ?_
   obtain ⟨bs,AS⟩:=aJ (fz l r r.ai.length) ((((j:Int)-1)).toNat) I
   have FS:=bO ql AS
   refine rS (IA ((((j:Int)-1)).toNat) U (aC 11 U) Pj dc I I)<|rS (gi ((((j:Int)-1)).toNat) 0 (vB bs) U cj (aC 11 U) FS U dc U)<|rP 2 [] mn ?_
   refine RK u<|cP U (fun F=>?_) (fun F=>?_)
   ·rw [Bool.not_eq_true'] at F
    refine bD<|ab<|ab<|ay<|KK P<|al<|rP 3 [] mn ?_
    refine aA ?_
    have L:(iF l r B rs fs (j+1))=(iF l r B rs fs j):=by exact qR (wW I hs (fun q=>by rw [(BD hs AS).2 q.2] at F; cases F))
    rw [← L]
    have EQ:(vI ((((j+1):Nat):Int)-1))=(vI (((j:Int)-1)+1)):=by exact cI I
    refine aV (O ⟨((j+1),M,N,azW),⟨I,by dsimp only; (rw [L]; exact A)⟩⟩ _ _ _ U os (cU 8<|bk U EQ<|dF.nil _) (aG [0,1,2,3,4,5,6,7,8,9,10,11,12,13,14]))
   rw [Bool.not_eq_false'] at F
   refine WK Ci<|dH cx 18 kr<|dP 4 [] (mc 0 U mn) ?_
   obtain ⟨z,hz⟩:=aJ (eZ l r r.ai.length) ((((j:Int)-1)).toNat) I
   have Go:=bO aa.cells hz
   refine dS (IA ((((j:Int)-1)).toNat) U (aC 10 U) g4 dc I I)<|dS (mW (((((j:Int)-1)).toNat)*2) U (aC 10 U) (Nat.mul_pos I dc) fw U) ?_
   have Hc:=JY hs hz
   have La:=xU l s
   rw [← Hc] at La
   have KY:(cJ l s).Lo≤(cJ l s).Hi:=(BD hs AS).1 F
   refine dS (gi ((((j:Int)-1)).toNat) 0 (vI z.Lo) U cj (aC 10 U) Go U dc U)<|dS (MX U)<|mV 4 [] (mc 0 U mn) U<|dS (IA ((((j:Int)-1)).toNat) U (aC 10 U) g4 dc I I)<|dS (mW ((((((j:Int)-1)).toNat)*2)+1) U (aC 10 U) (Nat.mul_pos I dc) fw U)<|dS (gi ((((j:Int)-1)).toNat) 1 (vI z.Hi) U cj (aC 10 U) Go U dc U)<|dS (MN U)<|dP 2 [] mn ?_
   refine cQ<|aA ?_
   refine aV (ja (aU U) (aG [0,1,2,3,4,5,6,7,8,9,10,11,12,13,14]) (p ⟨((max ((gD r.Start fs)+(dT l rs.length)) z.Lo),(min r.gp z.Hi)),⟨by (rw [Hc]; exact Jp I hs I KY),I⟩⟩))
  refine WS fun _ Z=>rP 2 [] mn ?_
  refine RK Z<|bS U (aP fun J6=>?_) (aQ fun J6=>?_)
  ·refine cr ?_
   have DL:(vI (gD r.Start fs))=(vI r.Start):=by exact cI (by have e:fs=[]:=jX I; rw [e]; rfl)
   refine aV (ja (cU 7<|bk U DL<|dF.nil _) (aG [0,1,2,3,4,5,6,7,8,9,10,11,12,13]) (o ()))
  refine al<|rP 3 [] mn ?_
  obtain ⟨xf,Fn⟩:=aJ fs (rs.length-1) I
  have GE:=bO iC Fn
  refine rS (IA (rs.length-1) U (show iA _ (rd fA fs.length 1 (fs.map iC)).holds from (pY (c:=fC) (e:=3) 3 U sm sm)) cL dc I I)<|rS (gi (rs.length-1) 0 (vI xf) U cj (show iA _ (rd fA fs.length 1 (fs.map iC)).holds from (pY (c:=fC) (e:=3) 3 U sm sm)) GE U dc U)<|rP 1 [] mn ?_
  refine aA ?_
  have C3:(vI (gD r.Start fs))=(vI xf):=by exact cI (BJ _ _ _ (by rw [hfl]; exact Fn))
  refine aV (ja (cU 7<|bk U C3<|dF.nil _) (aG [0,1,2,3,4,5,6,7,8,9,10,11,12,13]) (o ()))
 refine WS fun _ V=>rP 8 [0,1] (mc 1 U (mc 2 U mn)) ?_
 refine RK V<|bS U (aP fun G=>?_) (aQ fun G=>?_)
 ·refine cr<|EY<|HS 269 3 ?_
  rw [show (own none 0 269 3 [])=(own none 0 269 3 (List.zipWith dj.cells (hO l r rs fs) [])) from by rw [xR G]; rfl]
  have Di:(vS none ((hO l r rs fs).length) 0)=(vS none 0 0):=by first|rfl|(rw [xR G]; rfl)
  refine aV (ja (cU 6<|bk U Di<|dF.nil _) (aG [2,3,4,5,6,7,8,9,10,11,12,13,0,1]) (m ⟨(none,0,[],[]),(by exact .inr ⟨G,U,U⟩)⟩))
 refine al<|rP 6 [0,1] (mc 1 U (mc 0 U mn)) ?_
 refine cX (IX r sgA sgC l vwA vwC vtA vtC vbA vbC rs rA rC hle hr I (by exact fun x hx h0=>(hrs x hx).2)) (l5 [8,9,10,11]<|au (show iA _ (rd rA rs.length 1 (rs.map iC)).holds from (pY (c:=rC) (e:=3) 3 U sm sm))<|aI) U fun Li M2=>?_
 obtain ⟨S,T⟩:=Li
 try dsimp only
 refine rS (SX (bh (xs:=[(0,.tmp 48),(1,.tmp 49),(2,.tmp 53)]) (cs:=(xP.cells (xP.mk (bj.mk rA rs.length rC) (bj.mk fA fs.length fC) (bj.mk S ((jH l r rs).length) T)))) U U (bg RB U)) U U)<|c_ (xs:=[.tmp 54]) (cs:=(xP.cells (xP.mk (bj.mk rA rs.length rC) (bj.mk fA fs.length fC) (bj.mk S ((jH l r rs).length) T)))) U F4 SO U U U U (by simp [Value.cells,xP.aS]) U U fun Op=>ed 269 3 ?_
 refine ck (es2:=(List.zipWith dj.cells (hO l r rs fs) ([((rA,rC),(fA,fC),(S,T))]))) (m':=(hO l r rs fs).length) 0 rfl rfl rfl Pf rfl rfl rfl (aZ (es:=List.zipWith dj.cells [(dj.mk rs fs (jH l r rs))] [((rA,rC),(fA,fC),(S,T))]) 1 rfl rfl (by intro e he; simp at he; subst he; rfl) rfl) (Dz _ _) dc dc (by rw [yZ G]; rfl) (by rw [yZ G]; rfl) rfl fun y AC=>?_
 try dsimp only
 refine xb<|Pd 0 3 U U U ?_
 try dsimp only
 refine rP 1 [] mn ?_
 refine aA ?_
 have d:(vS y ((hO l r rs fs).length) AC)=(vS y ((hO l r rs fs).length) AC):=by first|rfl|(rw [xR G]; rfl)
 refine aV (ja (cU 6<|bk U d<|dF.nil _) (aG [3,4,5,6,7,8,9,10,11,12,13,14,1,0]) (m ⟨(y,AC,[((rA,rC),(fA,fC),(S,T))],[(own S T 3 1 ((jH l r rs).map iC))]),(by exact .inl ⟨G,_,U,U⟩)⟩))
theorem QY (l:aX) (kA:OA) (kC:Nat) (az:List RA) (cA:OA) (cC:Nat) (bA:OA) (bC:Nat) (r:cE) (sgA:OA) (sgC:Nat) (vwA:OA) (vwC:Nat) (vtA:OA) (vtC:Nat) (vbA:OA) (vbC k:Nat) (rs:List Int) (rA:OA) (rC:Nat) (fs:List Int) (fA:OA) (fC:Nat) (hin:ew l az) (hle:dD l=0) (hr:fD l r) (hk:rs.length+k=l.ae.length) (hfl:fs.length=rs.length) (hst:r.Start≤gD r.Start fs∧gD r.Start fs≤r.gp) (hrs: ∀ x∈rs,-1≤x∧x<(r.ai.length:Int)):
 DO Tryz.prog 192 [(vA (bZ.cells (lJ l kA kC cA cC bA bC))),(vA (d_.cells (mh r sgA sgC))),(vA (iR.cells (iR.mk (bj.mk vwA ((cG l l.ae.length).length) vwC) (bj.mk vtA ((eZ l r r.ai.length).length) vtC) (bj.mk vbA ((fz l r r.ai.length).length) vbC)))),(vS rA rs.length rC),(vS fA fs.length fC)] [(rd kA l.aL.length 9 (l.aL.map ak.cells)),(rd cA l.ah.length 2 (List.zipWith ao.cells l.ah az)),(e9 (aW ao.gP l.ah az)),(rd bA l.ae.length 4 (l.ae.map bE.cells)),(rd sgA r.ai.length 2 (r.ai.map aK.cells)),(rd vwA ((cG l l.ae.length).length) 1 ((cG l l.ae.length).map iC)),(rd vtA ((eZ l r r.ai.length).length) 2 ((eZ l r r.ai.length).map aa.cells)),(rd vbA ((fz l r r.ai.length).length) 1 ((fz l r r.ai.length).map ql))] (br [own rA rC 3 1 (rs.map iC),own fA fC 3 1 (fs.map iC)]) (fun (x:(OA)×Nat×(List kT))=>(vS x.1 ((iw l r k rs fs).length) x.2.1)) (fun (x:(OA)×Nat×(List kT))=>x.2.2.length=(iw l r k rs fs).length) (fun (x:(OA)×Nat×(List kT))=>(br (aW dj.owns (iw l r k rs fs) x.2.2++[own x.1 x.2.1 269 3 (List.zipWith dj.cells (iw l r k rs fs) x.2.2)]))):=by
 induction k using Nat.strongRecOn generalizing rs rA rC fs fA fC with
 |ind k ih=>exact Ir l kA kC az cA cC bA bC r sgA sgC vwA vwC vtA vtC vbA vbC k rs rA rC fs fA fC hin hle hr hk hfl hst hrs (fun L F D E C A B G H AA J K=>ih L G F D E C A B H AA J K)
end
section
open Go.RowKit
theorem OH (l:aX) (kA:OA) (kC:Nat) (az:List RA) (cA:OA) (cC:Nat) (bA:OA) (bC:Nat) (r:cE) (sgA:OA) (sgC:Nat) (hin:ew l az) (hsl:r.ai.length≤1000000):
 lB Tryz.prog 187 [(vA (bZ.cells (lJ l kA kC cA cC bA bC))),(vA (d_.cells (mh r sgA sgC)))] [(rd kA l.aL.length 9 (l.aL.map ak.cells)),(rd cA l.ah.length 2 (List.zipWith ao.cells l.ah az)),(e9 (aW ao.gP l.ah az)),(rd bA l.ae.length 4 (l.ae.map bE.cells)),(rd sgA r.ai.length 2 (r.ai.map aK.cells))] (fun (x:Bool×Int×(OA)×Nat×(List kT))=>bif x.1 then (vT [(vS x.2.2.1 ((qn l r).length) x.2.2.2.1),(vI 0)]) else (vT [(vS none 0 0),(vI x.2.1)])) (fun (x:Bool×Int×(OA)×Nat×(List kT))=>(x.1=true→(eg l r 0=0∧x.2.2.2.2.length=(qn l r).length))∧(x.1=false→(x.2.1=eg l r 0∧ ¬ eg l r 0=0))) (fun (x:Bool×Int×(OA)×Nat×(List kT))=>bif x.1 then [(own x.2.2.1 x.2.2.2.1 269 3 (List.zipWith dj.cells (qn l r) x.2.2.2.2)),(br (aW dj.owns (qn l r) x.2.2.2.2))] else []):=by
 have k:=hin.sw
 have j:=hin.sr
 have h:=hin.oo
 have i:=hin.sH
 refine di kr Tryz.func187 U U fun o Q hQ hN=>?_
 try dsimp only
 refine WS fun _ X=>gd U fun m=>gd U fun n=>bo 2 U<|RK X<|aj fun _ Y=>WS fun _ Z=>fY 1 [] (mc 1 U mn) U<|rS (CL (CE l kA kC az cA cC bA bC hin) (bp [2,3,4,5]) U)<|bo 1 U<|RK Z<|WS fun _ a=>rP 2 [] mn ?_
 refine RK a<|cP U (bx fun A=>?_) (bw fun A=>?_)
 ·refine WS fun _ b=>rP 3 [] mn ?_
  refine RK b<|ar<|LX hQ (false,(dD l),none,0,[]) [] [] mn U (by rfl) U U ?_
  exact sf<|IJ (oO (r:=r) (me:=0) A) A
 refine WK Y<|aj fun _ c=>WS fun _ d=>fY 2 [0,1] (mc 1 U (mc 0 U mn)) U<|rS (CL (M5 l kA kC az cA cC bA bC r sgA sgC hin (by exact hsl)) (bp [2,3,4,5,6]) U)<|rP 1 [] mn ?_
 refine RK d<|cP U (bx fun B=>?_) (bw fun B=>?_)
 ·refine WS fun _ D=>rP 2 [] mn ?_
  refine RK D<|ar<|LX hQ (false,51,none,0,[]) [] [] mn U (by rfl) U U ?_
  exact sf<|qb (jy (me:=0) A B)
 refine WK c<|aj fun _ E=>dK cx [4,5,6] [] [] [0,1,2,3,4,5,6] [] U U U U U<|eS U (LW 1 U cj U U)<|eS U (LW 0 U cj U U)<|eS U (LW 1 U cj U U)<|eS U (LW 0 U cj U U)<|eT U<|cf U fun T12 J=>cX (NZ l kA kC az cA cC bA bC r sgA sgC hin (by exact A) (by exact B)) (bp [2,3,4,5,6]) U fun e g=>?_
 obtain ⟨V,W,T,AA,R,S⟩:=e
 try dsimp only
 refine aA (J _ _ (aG [3,4,5,6,7,8,9]) ?_)
 refine cf U fun T21 K=>ed 3 1<|ed 3 1<|xb<|rL 1 U ?_
 try dsimp only [List.eraseIdx]
 refine Bk U<|rL 1 U ?_
 try dsimp only [List.eraseIdx]
 refine Bk U ?_
 try dsimp only
 refine jm 0 rfl rfl rfl rfl (QY l kA kC az cA cC bA bC r sgA sgC V W T AA R S l.ae.length ([]:List Int) none 0 ([]:List Int) none 0 hin (by exact A) (by exact B) sm (by rfl) (by exact ⟨Int.le_refl _,B.time.2.1⟩) (by intro x hx; cases hx)) rfl (eA 6 rfl rfl (dV (bV _)) (eA 7 rfl rfl (dV (bV _)) (eA 8 rfl rfl (dV (bV _)) (eA 9 rfl rfl (dV (bV _)) (eA 10 rfl rfl (dV (bV _)) (eA 1 rfl rfl (km sm) (eA 2 rfl rfl (km sm) (eA 3 rfl rfl (km sm) kG)))))))) rfl (fun f M=>?_)
 obtain ⟨N,O,P⟩:=f
 try dsimp only
 refine aA (K _ _ (aG [4,5,6,7,8,9,10]) ?_)
 refine cf U fun T26 L=>rL 0 U ?_
 try dsimp only [List.eraseIdx]
 refine zd ?_
 dsimp only at M
 refine rS (AG U)<|aA (L _ _ (aG [5,6,7,8,9,10,11]) ?_)
 refine fO U<|KK E<|aj fun _ F=>WS fun _ G=>rP 3 [] mn ?_
 refine RK G<|bS U (aP fun C=>?_) (aQ fun C=>?_)
 ·refine WK F<|WS fun _ AB=>rP 3 [] mn ?_
  refine RK AB<|ar ?_
  refine LX hQ (true,0,N,O,P) [0,1] [] mn U (by (show List.all _ _=true; simp only [cond_true,fE,List.all_nil,JL,Bool.and_true]; rfl)) U U ?_
  exact ⟨fun _=>⟨lW A B U fun q=>C (by rw [show iw l r l.ae.length [] []=[] from (fF A B).2 q]; rfl),M⟩,OD⟩
 refine WS fun _ H=>rP 2 [] mn ?_
 refine RK H<|ar<|LX hQ (false,8,none,0,[]) [] [] mn U (by rfl) U U ?_
 exact sf<|qb (p6 (me:=0) A B U ((fF A B).1 (jX (Int.natCast_eq_zero.1 C))))
theorem HA (ws:List dj) (wz:List kT) (wA:OA) (wC b:Nat) (hws:Of ws) (hwz:wz.length=ws.length) (hb:b≤6):
 eB Tryz.prog 188 [(vS wA ws.length wC),(vI (b:Int))] [(rd wA ws.length 3 (List.zipWith dj.cells ws wz)),(e9 (aW dj.gP ws wz))] (vT [(vA (aa.cells (pS ws b))),(vI (pO ws b))]):=by
 have u:=hws.num
 refine bG kr Tryz.func188 U U fun x Q hQ hN=>?_
 try dsimp only
 refine WS fun _ g=>AL U dv fun w=>bo 1 U<|RK g<|WS fun _ h=>AL U dv fun t=>RK h<|WS fun _ j=>bo 1 U<|RK j<|aj fun _ k=>WS fun _ l=>rP 1 [] mn ?_
 refine RK l<|ax ?_
 have D:(0≤ws.length)∧(nV b (ws.take 0) false (aa.mk 0 0)):=by exact ⟨Nat.zero_le _,Hz⟩
 refine bL (ι:={z:Nat×Bool×aa // (z.1≤ws.length)∧(nV b (ws.take z.1) z.2.1 z.2.2)}) [0,1,4,5,6] [1,2,3] U U (fun z=>[(7,(vB z.1.2.1)),(8,(vI (z.1.1:Int)))]) (fun z=>[(cd t 45 (aa.cells z.1.2.2))]) (fun _=>rfl) (fun _=>rfl) (fun z=>ws.length-z.1.1) ⟨(0,false,(aa.mk 0 0)),D⟩ (aU U) (aG [1,2,3,0]) ?_
 clear D
 rintro ⟨⟨i,fd,o⟩,⟨J,A⟩⟩ J8 H
 try dsimp only at J A
 try dsimp only
 refine aj fun _ m=>WS fun _ L=>rP 4 [] mn ?_
 refine RK L<|bS U (aP fun c=>?_) (aQ fun c=>?_)
 ·refine bD<|ab<|ab<|ay<|KK k<|aj fun _ R=>WS fun _ S=>rP 2 [] mn ?_
  refine RK S<|bS U (fun B=>?_) (fun B=>?_)
  ·rw [Bool.not_eq_false'] at B
   refine WK R<|WS fun _ AA=>fY 1 [] (mc 3 U mn) U<|gl U cy U<|rP 1 [] mn ?_
   refine RK AA<|ar<|lP hQ [0] (mc 0 U mn) U ?_
   have AB:=yV (by have q:=A; rwa [List.take_of_length_le I] at q) hws.FT
   (have q:=AB.2 B; rw [q.1,q.2]; done)
  rw [Bool.not_eq_true'] at B
  refine WS fun _ T=>rS (SX (bh (xs:=[]) (cs:=(aa.cells (aa.mk 0 0))) U U (bg gH U)) U U)<|gl U cy U<|rP 1 [] mn ?_
  refine RK T<|ar<|lP hQ [0] (mc 0 U mn) U ?_
  have AB:=yV (by have q:=A; rwa [List.take_of_length_le I] at q) hws.FT
  (have q:=AB.1 B; rw [q.1,q.2]; done)
 refine WK m<|aj fun _ C=>ax<|aj fun _ M=>WS fun _ N=>rP 2 [] mn ?_
 obtain ⟨y,hy⟩:=aJ ws i I
 obtain ⟨ya,E⟩:=aJ wz i I
 have K:(List.zipWith dj.cells ws wz)[i]? =some (dj.cells y ya):=dG hy E
 refine rS (IA i U (aC 1 U) F4 dc I I)<|rS (mW (i*3) U (aC 1 U) (Nat.mul_pos I dc) fw U)<|rS (gi i 0 (vS ya.1.1 y.gJ.length ya.1.2) U cj (aC 1 U) K U dc U)<|rP 3 [] mn ?_
 refine RK N<|cP U (aQ fun d=>?_) (aP fun d=>?_)
 ·refine bD<|ab<|ay<|KK C<|al<|rP 3 [] mn ?_
  refine aA ?_
  have X:(vI (((i+1):Nat):Int))=(vI ((i:Int)+1)):=by exact cI I
  refine aV (H ⟨((i+1),fd,o),⟨I,by dsimp only; rw [mm hy]; exact Fc A I⟩⟩ _ _ _ U os (cU 6<|bk U X<|dF.nil _) (aG [0,1,2,3]))
 refine WK M<|aj fun _ O=>dK cx [17,18] [] [] [0,1,2,3] [] U U U U U ?_
 have v:=hws.lens y (aT hy)
 obtain ⟨s,hs⟩: ∃ s,y.gJ[b]? =some s:=⟨y.gJ[b]'I,fc _⟩
 refine eS U (MV U)<|eS U (MV U)<|eS U (IA i U (aC 1 U) F4 dc I I)<|eS U (mW ((i*3)+1) U (aC 1 U) (Nat.mul_pos I dc) fw U)<|eS U (gi i 1 (vS ya.2.1.1 y.i_.length ya.2.1.2) U cj (aC 1 U) K U dc U)<|eS U (MV U) ?_
 obtain ⟨f,hf⟩:=aJ y.i_ b I
 have p:=bO iC hf
 refine eS U (IA b U (show iA _ (rd ya.2.1.1 y.i_.length 1 (y.i_.map iC)).holds from (dA 2 U (bM hy E (by simp [dj.gP])))) cL dc I I)<|eS U (gi b 0 (vI f) U cj (show iA _ (rd ya.2.1.1 y.i_.length 1 (y.i_.map iC)).holds from (dA 2 U (bM hy E (by simp [dj.gP])))) p U dc U)<|eS U (MV U)<|eS U (MV U)<|eS U (IA i U (aC 1 U) F4 dc I I)<|eS U (mW ((i*3)+2) U (aC 1 U) (Nat.mul_pos I dc) fw U)<|eS U (gi i 2 (vS ya.2.2.1 y.l0.length ya.2.2.2) U cj (aC 1 U) K U dc U)<|eS U (MV U) ?_
 obtain ⟨e,he⟩:=aJ y.l0 b I
 have n:=bO iC he
 refine eS U (IA b U (show iA _ (rd ya.2.2.1 y.l0.length 1 (y.l0.map iC)).holds from (dA 2 U (bM hy E (by simp [dj.gP])))) cL dc I I)<|eS U (gi b 0 (vI e) U cj (show iA _ (rd ya.2.2.1 y.l0.length 1 (y.l0.map iC)).holds from (dA 2 U (bM hy E (by simp [dj.gP])))) n U dc U)<|eS U (SX (bh (xs:=[(0,.tmp 31),(1,.tmp 39)]) (cs:=(aa.cells (aa.mk f e))) U U (bg gH U)) U U)<|eT U<|cf U fun T17 V=>AL U dv fun r=>aA (V _ _ (aG [1,2,3,4]) ?_)
 refine cf U fun T19 W=>gl U cy U<|aA (W _ _ (aG [1,2,3,4]) ?_)
 refine fO U<|KK O<|aj fun _ F=>WS fun _ P=>?_
 have a:=hws.le y (aT hy) b f e I hf he
 refine rP 1 [] mn ?_
 refine RK P<|bS U (fun G=>?_) (fun G=>?_)
 ·refine WK F<|al<|fY 1 [] (mc 0 U mn) U<|Pg U cy U<|bo 1 U<|aA<|aH<|KK C<|al<|rP 3 [] mn ?_
  refine aA ?_
  have Z:(vI (((i+1):Nat):Int))=(vI ((i:Int)+1)):=by exact cI I
  refine aV (H ⟨((i+1),true,(aa.mk f e)),⟨I,by dsimp only; rw [mm hy]; exact CB A G hs hf he a⟩⟩ _ _ _ U os (cU 6<|bk U Z<|dF.nil _) (aG [1,2,3,4]))
 refine al<|fY 4 [0,1] (mc 0 U (mc 4 U mn)) U<|rS (MN U)<|fY 4 [0,1] (mc 0 U (mc 4 U mn)) U<|rS (MX U)<|rS (SX (bh (xs:=[(0,.tmp 46),(1,.tmp 51)]) (cs:=(aa.cells (aa.mk (min f o.Lo) (max e o.Hi)))) U U (bg gH U)) U U)<|gl U cy U<|RK F<|al<|fY 1 [] (mc 0 U mn) U<|Pg U cy U<|bo 1 U<|aA<|aH<|KK C<|al<|rP 3 [] mn ?_
 refine aA ?_
 have Y:(vI (((i+1):Nat):Int))=(vI ((i:Int)+1)):=by exact cI I
 refine aV (H ⟨((i+1),true,(aa.mk (min f o.Lo) (max e o.Hi))),⟨I,by dsimp only; rw [mm hy]; exact EE A G hs hf he a⟩⟩ _ _ _ U os (cU 6<|bk U Y<|dF.nil _) (aG [1,2,3,4]))
end
section
open Go.RowKit
theorem Q8 (l:aX) (kA:OA) (kC:Nat) (az:List RA) (cA:OA) (cC:Nat) (bA:OA) (bC:Nat) (r:cE) (sgA:OA) (sgC:Nat) (hin:ew l az) (hsl:r.ai.length≤1000000):
 eB Tryz.prog 178 [(vA (bZ.cells (bZ.mk (bB.mk (bj.mk kA l.aL.length kC)) l.gk (bj.mk cA l.ah.length cC) (bj.mk bA l.ae.length bC) l.bU l.dN l.cw))),(vA (d_.cells (mh r sgA sgC)))] [(rd kA l.aL.length 9 (l.aL.map ak.cells)),(rd cA l.ah.length 2 (List.zipWith ao.cells l.ah az)),(e9 (aW ao.gP l.ah az)),(rd bA l.ae.length 4 (l.ae.map bE.cells)),(rd sgA r.ai.length 2 (r.ai.map aK.cells))] (vT [(vA (aa.cells (se l r))),(vI (de l r l.bU))]):=by
 have q:=hin.sw
 have j:=hin.sr
 have h:=hin.oo
 have i:=hin.sH
 refine bG kr Tryz.func178 U U fun y Q hQ hN=>?_
 try dsimp only
 refine WS fun _ Z=>gd U fun v=>gd U fun w=>AL U dv fun x=>bo 1 U<|RK Z<|WS fun _ P=>rP 2 [0,1] (mc 2 U (mc 1 U mn)) ?_
 refine cX (OH l kA kC az cA cC bA bC r sgA sgC hin hsl) (bp [3,4,5,6,7]) U fun u V=>?_
 obtain ⟨W,g,e,Y,X⟩:=u
 cases W
 ·obtain ⟨R,he⟩:=V.2 rfl
  try dsimp only at R he
  subst R
  try dsimp only [cond_true,cond_false,List.cons_append,List.nil_append]
  refine bo 5 U<|RK P<|aj fun _ d=>WS fun _ G=>rP 2 [] mn ?_
  refine RK G<|bS U (bw fun F=>?_) (bx fun F=>?_)
  ·exact absurd F he
  refine WS fun _ H=>rS (SX (bh (xs:=[]) (cs:=(aa.cells (aa.mk 0 0))) U U (bg gH U)) U U)<|bo 1 U<|gl U cy U<|rP 1 [] mn ?_
  refine RK H<|ar<|lP hQ [0] (mc 0 U mn) U ?_
  (rw [Ft (fun z=>he ((vM he).symm.trans z)),vM he]<;>rfl)
 obtain ⟨he,C⟩:=V.1 rfl
 try dsimp only [cond_true,cond_false,List.cons_append,List.nil_append]
 try dsimp only at he C
 obtain ⟨T,E,_,k⟩:=j8 he
 obtain ⟨s,c⟩:=gj T
 have a:=c.head
 unfold gE at a
 have AA:=Qk T E
 have t:=AA.num
 have o:=E.len
 have p:=E.time
 refine bo 5 U<|RK P<|aj fun _ AB=>WS fun _ J=>rP 1 [] mn ?_
 refine rS (SX (cb (r:= .bool false) U U U nK) U U)<|RK J<|a_ U<|WK AB<|aj fun _ K=>?_
 obtain ⟨b,S⟩: ∃ b:Nat,l.bU=(b:Int):=⟨l.bU.toNat,I⟩
 have A:=IF he (b:=b) I
 rw [← S] at A
 rw [S]
 refine al<|fY 3 [] (mc 4 U mn) U<|rS (CL (HA (qn l r) X e Y b (by exact AA) (by exact C) I) (au (ag (n:=(qn l r).length) 0 U (tw C))<|au (cY 1 U OE)<|aI) U)<|bo 3 U<|AL U dv fun f=>gl U cy U<|bo 1 U<|RK K<|aj fun _ L=>WS fun _ M=>rP 2 [] mn ?_
 refine RK M<|cP U (bx fun B=>?_) (bw fun B=>?_)
 ·refine WS fun _ N=>rS (SX (bh (xs:=[]) (cs:=(aa.cells (aa.mk 0 0))) U U (bg gH U)) U U)<|bo 1 U<|UH U cy U<|rP 1 [] mn ?_
  refine RK N<|ar<|lP hQ [0] (mc 3 U mn) U ?_
  (rw [Ft (fun z=>B (A.1.trans z)),← A.1]<;>rfl)
 refine WK L<|aj fun _ O=>?_
 have D:de l r l.bU=0:=A.1.symm.trans B
 have m:=tW D
 rw [A.2]
 refine al<|fY 10 [0,1,0,1] (mc 0 U (mc 4 U mn)) U<|rS (SX (bh (xs:=[(0,.tmp 34),(1,.tmp 39)]) (cs:=(aa.cells (aa.mk (((dy l r l.bU).Lo)-r.Start) (((dy l r l.bU).Hi)-r.Start)))) U U (bg gH U)) U U)<|UH U cy U<|rP 1 [] mn ?_
 refine RK O<|ar<|lP hQ [0] (mc 3 U mn) U ?_
 (rw [s_ D,D])
end
section
open Go.RowKit
theorem ET (l:aX) (kA:OA) (kC:Nat) (az:List RA) (cA:OA) (cC:Nat) (bA:OA) (bC:Nat) (d:aw) (sgA:OA) (sgC:Nat) (hin:ew l az) (hle:dD l=0) (hsl:d.cv.ai.length≤1000000) (hk:d.Out=true):
 eB Tryz.prog 150 [(vA (bZ.cells (lJ l kA kC cA cC bA bC))),(vA (bq.cells (bq.mk d.Out d.eV d.Time (mh d.cv sgA sgC))))] [(rd kA l.aL.length 9 (l.aL.map ak.cells)),(rd cA l.ah.length 2 (List.zipWith ao.cells l.ah az)),(e9 (aW ao.gP l.ah az)),(rd bA l.ae.length 4 (l.ae.map bE.cells)),(rd sgA d.cv.ai.length 2 (d.cv.ai.map aK.cells))] (vT [(vA (aa.cells (ph l d))),(vB (decide (gV l d)))]):=by
 have K:=hin.sw
 have J:=hin.sr
 have H:=hin.oo
 have AA:=hin.sH
 refine bG kr Tryz.func150 U U fun O Q hQ hN=>?_
 try dsimp only
 refine WS fun _ B=>gd U fun L=>gd U fun M=>AL U dv fun N=>bo 1 U<|RK B<|aj fun _ E=>ax<|WS fun _ C=>rP 3 [] (mc 1 U mn) ?_
 refine RK C<|bS U (fun G=>?_) (fun G=>?_)
 ·exact absurd ((hk).symm.trans G) dc
 refine WS fun _ A=>rS (SX (bh (xs:=[]) (cs:=(aa.cells (aa.mk 0 0))) U U (bg gH U)) U U)<|rP 4 [] (mc 1 U mn) ?_
 refine cu (t:=15) U (fun D=>?_) (fun D=>?_)
 ·rw [Bool.not_eq_false'] at D
  refine bo 10 U<|gl U cy U<|rP 1 [] mn ?_
  refine RK A<|ar<|lP hQ [0] (mc 0 U mn) U ?_
  clear hQ hN A C E B
  rw [Bb hk]
  simp only [q8 hk]
  refine congrArg (fun z=>Value.tuple #[_,vB z]) ?_
  first|rfl|(simp_all [dJ]; done)
 rw [Bool.not_eq_true'] at D
 refine bo 1 U<|rS (LP (aa.cells d.Time) 1 U cj U U U)<|rS (SX (bh (xs:=[]) (cs:=(aa.cells (aa.mk 0 0))) U U (bg gH U)) U U)<|rS (BI U (tH _ _ d.Time (aa.mk 0 0)))<|rP 2 [] mn ?_
 refine cu (t:=21) U (aP fun F=>?_) (aQ fun F=>?_)
 ·refine bo 4 U<|gl U cy U<|rP 1 [] mn ?_
  refine RK A<|ar<|lP hQ [0] (mc 0 U mn) U ?_
  clear hQ hN A C E B
  rw [Bb hk]
  simp only [q8 hk]
  refine congrArg (fun z=>Value.tuple #[_,vB z]) ?_
  first|rfl|(simp_all [dJ]; done)
 refine bo 1 U<|rS (LP (d_.cells (mh d.cv sgA sgC)) 1 U cj U U U)<|rS (CL (Gy d.cv sgA sgC) (bp [7]) U)<|bo 1 U<|gl U cy U<|rP 1 [] mn ?_
 refine RK A<|ar<|lP hQ [0] (mc 0 U mn) U ?_
 clear hQ hN A C E B
 rw [Bb hk]
 simp only [q8 hk]
 refine congrArg (fun z=>Value.tuple #[_,vB z]) ?_
 first|rfl|(simp_all [dJ]; done)
theorem E1 (l:aX) (kA:OA) (kC:Nat) (az:List RA) (cA:OA) (cC:Nat) (bA:OA) (bC:Nat) (d:aw) (sgA:OA) (sgC:Nat) (hin:ew l az) (hle:dD l=0) (hsl:d.cv.ai.length≤1000000) (hk:d.Out=false∧d.eV=true):
 eB Tryz.prog 150 [(vA (bZ.cells (lJ l kA kC cA cC bA bC))),(vA (bq.cells (bq.mk d.Out d.eV d.Time (mh d.cv sgA sgC))))] [(rd kA l.aL.length 9 (l.aL.map ak.cells)),(rd cA l.ah.length 2 (List.zipWith ao.cells l.ah az)),(e9 (aW ao.gP l.ah az)),(rd bA l.ae.length 4 (l.ae.map bE.cells)),(rd sgA d.cv.ai.length 2 (d.cv.ai.map aK.cells))] (vT [(vA (aa.cells (ph l d))),(vB (decide (gV l d)))]):=by
 have N:=hin.sw
 have M:=hin.sr
 have K:=hin.oo
 have L:=hin.sH
 refine bG kr Tryz.func150 U U fun S Q hQ hN=>?_
 try dsimp only
 refine WS fun _ D=>gd U fun O=>gd U fun P=>AL U dv fun R=>bo 1 U<|RK D<|aj fun _ H=>ax<|WS fun _ E=>rP 3 [] (mc 1 U mn) ?_
 refine RK E<|cP U (fun J=>?_) (fun J=>?_)
 ·exact absurd ((hk.1).symm.trans J) dc
 refine WS fun _ F=>rP 3 [] (mc 1 U mn) ?_
 refine RK F<|bS U (fun G=>?_) (fun G=>?_)
 ·exact absurd ((hk.2).symm.trans G) dc
 refine aj fun _ B=>dK cx [10] [] [] [1,2,3,4,5,6,7] [] U U U U U<|eS U (FA 2 U fw U)<|eS U (LP (aa.cells d.Time) 0 U cj U U U)<|eS U (FA 2 U fw U)<|eS U (LP (aa.cells d.Time) 0 U cj U U U)<|eS U (CL (NU d.Time) (aI) U)<|eS U (MV U)<|rH (t:=34) U (fun A=>?_) (fun A=>?_)
 rotate_left 1
 ·replace A:=DF A
  refine eS U (OX U)<|eS U (OX U)<|eS U (OX U)<|eS U (PK U)<|eS U (AG U)<|eT U<|cf U fun T10 C=>gl U cy U<|aA (C _ _ (aG [1,2,3,4,5,6,7]) ?_)
  refine fO U<|KK B<|ar<|lP hQ [0] (mc 0 U mn) U ?_
  clear hQ hN C T10 B F E H D
  rw [GB hk]
  simp only [qv hk]
  refine congrArg (fun z=>Value.tuple #[_,vB z]) ?_
  first|rfl|(simp_all; done)
 replace A:=DT A
 refine eS U (FA 4 U fw U)<|eS U (LP (d_.cells (mh d.cv sgA sgC)) 0 U cj U U U)<|eS U (CL (Gy d.cv sgA sgC) (bp [6]) U)<|eS U (PK U)<|eS U (AG U)<|eT U<|cf U fun T9 AA=>gl U cy U<|aA (AA _ _ (aG [1,2,3,4,5,6,7]) ?_)
 refine fO U<|KK B<|ar<|lP hQ [0] (mc 0 U mn) U ?_
 clear hQ hN AA T9 B F E H D
 rw [GB hk]
 simp only [qv hk]
 refine congrArg (fun z=>Value.tuple #[_,vB z]) ?_
 first|rfl|(simp_all; done)
theorem D0 (l:aX) (kA:OA) (kC:Nat) (az:List RA) (cA:OA) (cC:Nat) (bA:OA) (bC:Nat) (d:aw) (sgA:OA) (sgC:Nat) (hin:ew l az) (hle:dD l=0) (hsl:d.cv.ai.length≤1000000) (hk:d.Out=false∧d.eV=false):
 eB Tryz.prog 150 [(vA (bZ.cells (lJ l kA kC cA cC bA bC))),(vA (bq.cells (bq.mk d.Out d.eV d.Time (mh d.cv sgA sgC))))] [(rd kA l.aL.length 9 (l.aL.map ak.cells)),(rd cA l.ah.length 2 (List.zipWith ao.cells l.ah az)),(e9 (aW ao.gP l.ah az)),(rd bA l.ae.length 4 (l.ae.map bE.cells)),(rd sgA d.cv.ai.length 2 (d.cv.ai.map aK.cells))] (vT [(vA (aa.cells (ph l d))),(vB (decide (gV l d)))]):=by
 have O:=hin.sw
 have N:=hin.sr
 have L:=hin.oo
 have M:=hin.sH
 refine bG kr Tryz.func150 U U fun AA Q hQ hN=>?_
 try dsimp only
 refine WS fun _ E=>gd U fun P=>gd U fun R=>AL U dv fun S=>bo 1 U<|RK E<|aj fun _ F=>ax<|WS fun _ G=>rP 3 [] (mc 1 U mn) ?_
 refine RK G<|cP U (fun K=>?_) (fun K=>?_)
 ·exact absurd ((hk.1).symm.trans K) dc
 refine WS fun _ H=>rP 3 [] (mc 1 U mn) ?_
 refine RK H<|cP U (fun J=>?_) (fun J=>?_)
 ·exact absurd ((hk.2).symm.trans J) dc
 refine cr<|aH<|KK F<|WS fun _ AB=>fY 2 [] (mc 2 U mn) U<|rS (LP (d_.cells (mh d.cv sgA sgC)) 1 U cj U U U)<|rS (CL (Q8 l kA kC az cA cC bA bC d.cv sgA sgC hin hsl) (bp [3,4,5,6,7]) U)<|bo 3 U<|AL U dv fun T=>gl U cy U<|rP 1 [] mn ?_
 refine RK AB<|aj fun _ A=>dK cx [9] [] [] [0,2,3,4,5,6,7,8] [] U U U U U<|eS U (LW 0 U cj U U)<|eS U (MV U)<|eS U (BI U mJ)<|eS U (MV U)<|rH (t:=49) U (fun B=>?_) (fun B=>?_)
 rotate_left 1
 ·replace B:=DF B
  refine eS U (OX U)<|eS U (OX U)<|eS U (OX U)<|eS U (OX U)<|eS U (PK U)<|eS U (AG U)<|eT U<|cf U fun T12 D=>ti U cy U<|aA (D _ _ (aG [0,2,3,4,5,6,7,8]) ?_)
  refine fO U<|KK A<|ar<|lP hQ [0] (mc 1 U mn) U ?_
  clear hQ hN D T12 A AB H G F E
  rw [GO hk]
  simp only [qD hk]
  refine congrArg (fun z=>Value.tuple #[_,vB z]) ?_
  first|rfl|(simp_all [dJ]; done)
 replace B:=DT B
 refine eS U (FA 2 U fw U)<|eS U (LP (aa.cells d.Time) 1 U cj U U U)<|eS U (SX (bh (xs:=[]) (cs:=(aa.cells (aa.mk 0 0))) U U (bg gH U)) U U)<|eS U (BI U (tH _ _ d.Time (aa.mk 0 0)))<|eS U (PK U)<|eS U (AG U)<|eT U<|cf U fun T11 C=>ti U cy U<|aA (C _ _ (aG [0,2,3,4,5,6,7,8]) ?_)
 refine fO U<|KK A<|ar<|lP hQ [0] (mc 1 U mn) U ?_
 clear hQ hN C T11 A AB H G F E
 rw [GO hk]
 simp only [qD hk]
 refine congrArg (fun z=>Value.tuple #[_,vB z]) ?_
 first|rfl|(simp_all [dJ]; done)
theorem Ig (l:aX) (kA:OA) (kC:Nat) (az:List RA) (cA:OA) (cC:Nat) (bA:OA) (bC:Nat) (d:aw) (sgA:OA) (sgC:Nat) (hin:ew l az) (hle:dD l=0) (hsl:d.cv.ai.length≤1000000):
 eB Tryz.prog 150 [(vA (bZ.cells (lJ l kA kC cA cC bA bC))),(vA (bq.cells (bq.mk d.Out d.eV d.Time (mh d.cv sgA sgC))))] [(rd kA l.aL.length 9 (l.aL.map ak.cells)),(rd cA l.ah.length 2 (List.zipWith ao.cells l.ah az)),(e9 (aW ao.gP l.ah az)),(rd bA l.ae.length 4 (l.ae.map bE.cells)),(rd sgA d.cv.ai.length 2 (d.cv.ai.map aK.cells))] (vT [(vA (aa.cells (ph l d))),(vB (decide (gV l d)))]):=by
 by_cases ho:d.Out=true
 ·exact ET l kA kC az cA cC bA bC d sgA sgC hin hle hsl ho
 by_cases hf:d.eV=true
 ·exact E1 l kA kC az cA cC bA bC d sgA sgC hin hle hsl ⟨by simpa using ho,hf⟩
 ·exact D0 l kA kC az cA cC bA bC d sgA sgC hin hle hsl ⟨by simpa using ho,by simpa using hf⟩
end
section
open Go.RowKit
theorem EZ (r:bY) (kA:OA) (kC:Nat) (az:List RA) (cA:OA) (cC:Nat) (bA:OA) (bC:Nat) (slA:OA) (slC:Nat) (drA:OA) (drC:Nat) (ha:List cK) (heA:OA) (heC:Nat) (hin:fp r az ha) (hle:dD r.an=0):
 lB Tryz.prog 109 [(vA (cm.cells (oz r kA kC cA cC bA bC slA slC drA drC heA heC)))] [(rd kA r.an.aL.length 9 (r.an.aL.map ak.cells)),(rd cA r.an.ah.length 2 (List.zipWith ao.cells r.an.ah az)),(e9 (aW ao.gP r.an.ah az)),(rd bA r.an.ae.length 4 (r.an.ae.map bE.cells)),(rd slA r.aM.length 1 (r.aM.map iC)),(rd drA r.bK.length 1 (r.bK.map iC)),(rd heA r.aq.length 1 (List.zipWith cD r.aq ha)),(e9 (aW iy r.aq ha))] (fun (x:Bool×Int×(OA)×Nat×(List RA))=>bif x.1 then (vT [(vS x.2.2.1 ((cT r).length) x.2.2.2.1),(vB true)]) else (vT [(vS none 0 0),(vB false)])) (fun (x:Bool×Int×(OA)×Nat×(List RA))=>(x.1=true→(fj r∧x.2.2.2.2.length=r.aq.length))∧(x.1=false→(x.2.1=0∧ ¬ fj r))) (fun (x:Bool×Int×(OA)×Nat×(List RA))=>bif x.1 then [(own x.2.2.1 x.2.2.2.1 109 1 (List.zipWith E4 (cT r) x.2.2.2.2)),(br (aW DM (cT r) x.2.2.2.2))] else []):=by
 have Li:=hin.line
 have Nx:=hin.iW
 have Op:=hin.has
 have L3:=hin.jd
 have L0:=hin.draw
 have M2:=dQ (r:=r)
 refine di kr Tryz.func109 U U fun w0 Q hQ hN=>?_
 try dsimp only
 refine WS fun _ Kc=>gd U fun b2=>bo 2 U<|RK Kc<|WS fun _ K0=>fY 4 [] (mc 0 U mn) U<|RK K0<|aj fun _ K4=>WS fun _ N=>bo 1 U<|rS (CL (pb (r.aM.length:Int) 1 5) (aI) U)<|rP 2 [] mn ?_
 refine dp (t:=19) U (bx fun J5=>?_) (bw fun J5=>?_)
 ·refine bo 19 U<|RK N<|aR U<|WS fun _ K5=>rP 2 [] mn ?_
  refine RK K5<|ar<|LX hQ (false,0,none,0,[]) [] [] mn U (by rfl) U U ?_
  (exact ⟨Bo,fun _=>⟨rfl,fun q=>by have S:=q.num; have q2:=q.xL; have q3:=q.nh; have q4:=q.yI; omega⟩⟩)
 refine rP 7 [] (mc 0 U mn) ?_
 refine dp (t:=26) U (bx fun X=>?_) (bw fun X=>?_)
 ·refine bo 12 U<|RK N<|aR U<|WS fun _ K8=>rP 2 [] mn ?_
  refine RK K8<|ar<|LX hQ (false,0,none,0,[]) [] [] mn U (by rfl) U U ?_
  (exact ⟨Bo,fun _=>⟨rfl,fun q=>by have S:=q.num; have q2:=q.xL; have q3:=q.nh; have q4:=q.yI; omega⟩⟩)
 refine fY 2 [] (mc 0 U mn) U<|rS (CL (pb r.gX 0 5) (aI) U)<|rP 3 [] mn ?_
 refine dp (t:=32) U (bx fun J6=>?_) (bw fun J6=>?_)
 ·refine bo 6 U<|RK N<|aR U<|WS fun _ LA=>rP 2 [] mn ?_
  refine RK LA<|ar<|LX hQ (false,0,none,0,[]) [] [] mn U (by rfl) U U ?_
  (exact ⟨Bo,fun _=>⟨rfl,fun q=>by have S:=q.num; have q2:=q.xL; have q3:=q.nh; have q4:=q.yI; omega⟩⟩)
 refine fY 3 [] (mc 0 U mn) U<|rS (CL (pb (r.aq.length:Int) 1 3) (aI) U)<|rP 2 [] mn ?_
 refine RK N<|cP U (bx fun J8=>?_) (bw fun J8=>?_)
 ·refine WS fun _ LE=>rP 2 [] mn ?_
  refine RK LE<|ar<|LX hQ (false,0,none,0,[]) [] [] mn U (by rfl) U U ?_
  (exact ⟨Bo,fun _=>⟨rfl,fun q=>by have S:=q.num; have q2:=q.xL; have q3:=q.nh; have q4:=q.yI; omega⟩⟩)
 refine WK K4<|aj fun _ o=>WS fun _ p=>rP 1 [] mn ?_
 refine RK p<|ax ?_
 have A:(0≤r.aM.length)∧(xq r 0):=by exact ⟨Nat.zero_le _,KP⟩
 refine bL (ι:={z:Nat // (z≤r.aM.length)∧(xq r z)}) [1,4] [0,1,2,3,4,5,6,7,8] U U (fun z=>[(5,(vI (z.1:Int)))]) (fun z=>[]) (fun _=>rfl) (fun _=>rfl) (fun z=>r.aM.length-z.1) ⟨0,A⟩ (aU U) (aG [0,1,2,3,4,5,6,7,8]) ?_
 clear A
 rintro ⟨i,⟨La,AB⟩⟩ J12 T
 try dsimp only
 refine aj fun _ s=>WS fun _ v=>rP 3 [] mn ?_
 refine RK v<|bS U (aP fun J4=>?_) (aQ fun J4=>?_)
 ·refine bD<|ab<|ab<|ay<|KK o<|WS fun _ Bm=>bo 1 U<|RK Bm<|aj fun _ B3=>WS fun _ B7=>rP 1 [] mn ?_
  refine RK B7<|ax<|gr 109 1<|lV ?_
  have A:(0≤r.aq.length)∧(([]:List RA).length=0)∧(ks r 0):=by exact ⟨Nat.zero_le _,rfl,yv⟩
  refine bL (ι:={z:Nat×(List RA)×(OA)×Nat // (z.1≤r.aq.length)∧(z.2.1.length=z.1)∧(ks r z.1)}) [1,4] [2,3,4,5,6,7,8,9,10] U U (fun z=>[(7,(vS z.1.2.2.1 ((List.zipWith Dj (gQ r z.1.1) z.1.2.1).length) z.1.2.2.2)),(8,(vI (z.1.1:Int)))]) (fun z=>[(br (aW DM (gQ r z.1.1) z.1.2.1)),(own z.1.2.2.1 z.1.2.2.2 109 1 (List.map sC (List.zipWith Dj (gQ r z.1.1) z.1.2.1)))]) (fun _=>rfl) (fun _=>rfl) (fun z=>r.aq.length-z.1.1) ⟨(0,([]:List RA),none,0),A⟩ (aU U) (aG [2,3,4,5,6,7,8,9,10,0,1]) ?_
  clear A
  rintro ⟨⟨h,tz,a,c⟩,⟨P,C,F⟩⟩ J46 l
  try dsimp only at P C F
  try dsimp only
  refine aj fun _ B9=>WS fun _ Ca=>rP 5 [] (mc 0 U mn) ?_
  refine RK Ca<|bS U (aP fun J9=>?_) (aQ fun J9=>?_)
  ·refine bD<|ab<|ab<|ay<|KK B3<|aj fun _ FS=>?_
   have LT:gQ r h=cT r:=by unfold cT; rw [show h=r.aq.length by omega]
   have Lk:tz.length=r.aq.length:=by omega
   rw [LT,yQ,show (List.zipWith Dj (cT r) tz).length=(cT r).length from by rw [List.length_zipWith]; omega]
   have IO:fj r:=G3 (n:=i) I I I I I AB F I
   refine al<|rP 3 [] mn ?_
   refine RK FS<|ar ?_
   refine LX hQ (true,0,a,c,tz) [10,9] [] mn U (by (show List.all _ _=true; simp only [cond_true,fE,List.all_nil,w5,Bool.and_true]; rfl)) U U ?_
   exact ⟨fun _=>⟨IO,Lk⟩,OD⟩
  refine WK B9<|aj fun _ Ci=>ax<|aj fun _ Ck=>WS fun _ Cp=>rP 3 [] (mc 0 U mn) ?_
  obtain ⟨ht,D⟩:=aJ r.aq h I
  obtain ⟨E,H⟩:=aJ ha h I
  have W:(List.zipWith cD r.aq ha)[h]? =some (cD ht E):=dG D H
  refine rS (IA h U (aC 7 U) ou dc I I) ?_
  have H1:=hin.m8 _ _ _ D H
  have L2:=H1.oo
  refine rS (gi h 0 (vS E.1.1 ht.length E.1.2) U cj (aC 7 U) W U dc U)<|rP 3 [] mn ?_
  refine RK Cp<|cP U (bx fun e=>?_) (bw fun e=>?_)
  ·refine WS fun _ Cx=>rP 2 [] mn ?_
   refine RK Cx<|ar<|LX hQ (false,0,none,0,[]) [] [] mn U (by rfl) U U ?_
   (exact ⟨Bo,fun _=>⟨rfl,fun q=>by have S:=(q.m8 ht (aT D)).1; omega⟩⟩)
  refine WK Ck<|WS fun _ C0=>bo 1 U<|RK C0<|aj fun _ C1=>WS fun _ C2=>rP 1 [] mn ?_
  refine RK C2<|ax<|gr 45 2 ?_
  have A:(0≤ht.length)∧(oy r.an ht 0):=by exact ⟨Nat.zero_le _,vY⟩
  refine bL (ι:={z:Nat×(OA)×Nat // (z.1≤ht.length)∧(oy r.an ht z.1)}) [1,4,7,8] [1,2,3,4,5,6,7,8,9,10,11] U U (fun z=>[(9,(vS z.1.2.1 (((ht.take z.1.1).map (dE r.an)).length) z.1.2.2)),(10,(vI (z.1.1:Int)))]) (fun z=>[(own z.1.2.1 z.1.2.2 45 2 (((ht.take z.1.1).map (dE r.an)).map aa.cells))]) (fun _=>rfl) (fun _=>rfl) (fun z=>ht.length-z.1.1) ⟨(0,none,0),A⟩ (aU U) (aG [1,2,3,4,5,6,7,8,9,10,11,0]) ?_
  clear A
  rintro ⟨⟨j,la,lc⟩,⟨R,G⟩⟩ J57 m
  try dsimp only at R G
  try dsimp only
  refine aj fun _ C3=>WS fun _ DL=>rP 3 [] mn ?_
  refine RK DL<|bS U (aP fun KU=>?_) (aQ fun KU=>?_)
  ·refine bD<|ab<|ab<|ay<|KK C1<|al ?_
   rw [show ((ht.take j).map (dE r.an))=ht.map (dE r.an) from by rw [List.take_of_length_le I]]
   refine rP 2 [] mn ?_
   refine c_ (xs:=[.tmp 137]) (cs:=[(vS la ((ht.map (dE r.an)).length) lc)]) U FG Pq U U U U (by simp [Value.cells]) U U fun Ne=>?_
   refine ck (es2:=(List.map sC (List.zipWith Dj (gQ r (h+1)) (tz++[(la,lc)])))) (m':=(List.zipWith Dj (gQ r (h+1)) (tz++[(la,lc)])).length) 11 U U U PE U U sm (aZ (es:=List.map sC [(bj.mk la ((ht.map (dE r.an)).length) lc)]) 0 U U (by simp [zB]) U) (Ke _) (by rw [List.length_zipWith,kU I]; omega) (by rw [List.length_zipWith,kU I]; simp only [maxLen]; omega) (by rw [tD D C,List.map_append]; rfl) (by rw [tD D C]; simp) U fun I4 J3=>?_
   try dsimp only
   refine bo 1 U<|aA<|aH<|KK Ci<|al<|rP 3 [] mn ?_
   refine aA<|zA (X':=aW DM (gQ r (h+1)) (tz++[(la,lc)])) 10 12 U U (Co (a:=(la,lc)) D C) ?_
   have Hc:(vI (((h+1):Nat):Int))=(vI ((h:Int)+1)):=by exact cI I
   refine aV (l ⟨((h+1),(tz++[(la,lc)]),I4,J3),⟨I,by simp; omega,yr F D (GL I G I)⟩⟩ _ _ _ U os (cU 3<|bk U Hc<|dF.nil _) (aG [2,3,4,5,6,7,8,9,10,0,11]))
  refine WK C3<|aj fun _ Di=>ax<|aj fun _ Do=>dK cx [14,15] [] [] [0,1,2,3,4,5,6,7,8,9,10,11] [] U U U U U<|eS U (FA 0 U fw U)<|eS U (LP (bZ.cells (lJ r.an kA kC cA cC bA bC)) 0 U cj U U U)<|eS U (FA 10 U fw U)<|eS U (L1 (vS heA r.aq.length heC) 0 U cj U U)<|eS U (MV U)<|eS U (IA h U (aC 7 U) ou dc I I)<|eS U (gi h 0 (vS E.1.1 ht.length E.1.2) U cj (aC 7 U) W U dc U)<|eS U (MV U) ?_
  obtain ⟨d,hd⟩:=aJ ht j I
  obtain ⟨da,Hi⟩:=aJ E.2 j I
  have LL:(List.zipWith aw.cells ht E.2)[j]? =some (aw.cells d da):=dG hd Hi
  refine eS U (IA j U (show iA _ (rd E.1.1 ht.length 7 (List.zipWith aw.cells ht E.2)).holds from (dA 8 U (bM D H cq))) ug dc I I)<|eS U (oY j 0 (bq.cells (bq.mk d.Out d.eV d.Time (d_.mk d.cv.Start d.cv.gp (bj.mk da.1 d.cv.ai.length da.2)))) U cj (show iA _ (rd E.1.1 ht.length 7 (List.zipWith aw.cells ht E.2)).holds from (dA 8 U (bM D H cq))) LL U dc U U) ?_
  have Or:=H1.sig d (aT hd)
  refine eS U (CL (Ig r.an kA kC az cA cC bA bC d da.1 da.2 asm hle asm) (l5 [1,2,3,4]<|au (show iA _ (rd da.1 d.cv.ai.length 2 (d.cv.ai.map aK.cells)).holds from (dA 8 U (bM D H (cV _ (bM hd Hi (by simp [aw.gP]))))))<|aI) U)<|eS U (MV U)<|eS U (EX U)<|eS U (EX U)<|eS U (AG U)<|eT U<|cf U fun T63 FT=>AL U dv fun M4=>aA (FT _ _ (aG [1,2,3,4,5,6,7,8,9,10,11,12]) ?_)
  refine cf U fun T65 Fd=>gl U cy U<|aA (Fd _ _ (aG [1,2,3,4,5,6,7,8,9,10,11,12]) ?_)
  refine fO U<|KK Do<|aj fun _ EQ=>WS fun _ Eq=>rP 2 [] mn ?_
  refine RK Eq<|cP U (bx fun J=>?_) (bw fun J=>?_)
  ·refine WS fun _ FR=>rP 2 [] mn ?_
   refine RK FR<|ar<|LX hQ (false,0,none,0,[]) [] [] mn U (by rfl) U U ?_
   (exact ⟨Bo,fun _=>⟨rfl,fun q=>by exact J ((q.m8 ht (aT D)).2 d (aT hd))⟩⟩)
  refine WK EQ<|al<|rP 2 [] (mc 0 U mn) ?_
  refine c_ (xs:=[.tmp 133]) (cs:=(aa.cells (ph r.an d))) U g4 dv U U U U (by simp [Value.cells,aa.aS]) U U fun NE=>?_
  refine ck (es2:=(List.map aa.cells ((ht.take (j+1)).map (dE r.an)))) (m':=((ht.take (j+1)).map (dE r.an)).length) 13 U U U w4 U U sm (aZ (es:=List.map aa.cells [(ph r.an d)]) 0 U U (by simp [aa.aS]) U) (ia _) (by simp only [List.length_map,List.length_take]; omega) (by simp only [maxLen,List.length_map,List.length_take]; omega) (by rw [List.take_add_one,hd]; simp [LO J]) sq U fun I0 J2=>?_
  try dsimp only
  refine bo 1 U<|aA<|aH<|KK Di<|al<|rP 3 [] mn ?_
  refine aA ?_
  have Go:(vI (((j+1):Nat):Int))=(vI ((j:Int)+1)):=by exact cI I
  refine aV (m ⟨((j+1),I0,J2),⟨I,vy G hd J⟩⟩ _ _ _ U os (cU 5<|bk U Go<|dF.nil _) (aG [2,3,4,5,6,7,8,9,10,11,12,13]))
 refine WK s<|aj fun _ AA=>ax<|aj fun _ V=>aj fun _ K=>dH cx 36 kr<|dP 3 [] (mc 0 U mn) ?_
 obtain ⟨y,hy⟩:=aJ r.aM i I
 have IR:=bO iC hy
 refine dS (IA i U (aC 5 U) cL dc I I)<|dS (gi i 0 (vI y) U cj (aC 5 U) IR U dc U)<|dS (CL (pb y 0 9999) (aI) U)<|dP 2 [] mn ?_
 refine js (t:=51) U (bx fun KR=>?_) (bw fun KR=>?_)
 ·refine lQ 28 U<|cQ<|RK K<|aR U<|WS fun _ w=>rP 2 [] mn ?_
  refine RK w<|ar<|LX hQ (false,0,none,0,[]) [] [] mn U (by rfl) U U ?_
  (exact ⟨Bo,fun _=>⟨rfl,fun q=>by have S:=(q.ids i y hy).1; omega⟩⟩)
 refine dP 3 [] mn ?_
 refine jl (t:=54) U (aP fun KT=>?_) (aQ fun KT=>?_)
 ·refine dP 18 [] (mc 0 U mn) ?_
  obtain ⟨x,hx⟩:=aJ r.bK i I
  have M:=bO iC hx
  refine dS (IA i U (aC 6 U) cL dc I I)<|dS (gi i 0 (vI x) U cj (aC 6 U) M U dc U)<|lQ 2 U<|dS (CL (pb x 0 ((r.aM.length:Int)-1)) (aI) U)<|dP 2 [] mn ?_
  refine cQ<|RK K<|cP U (bx fun Y=>?_) (bw fun Y=>?_)
  ·refine WS fun _ A3=>rP 2 [] mn ?_
   refine RK A3<|ar<|LX hQ (false,0,none,0,[]) [] [] mn U (by rfl) U U ?_
   (exact ⟨Bo,fun _=>⟨rfl,fun q=>by have S:=q.KY hx; omega⟩⟩)
  refine WK V<|WS fun _ A4=>rP 1 [] mn ?_
  refine RK A4<|ax ?_
  have A:(0≤i)∧(∀ (q:Nat) y,q<0→r.bK[q]? =some y→y≠x):=by exact ⟨Nat.zero_le _,fun q y hq=>absurd hq (Nat.not_lt_zero _)⟩
  refine bL (ι:={z:Nat // (z≤i)∧(∀ (q:Nat) y,q<z→r.bK[q]? =some y→y≠x)}) [1,4,5] [0,1,2,3,4,5,6,7,8] U U (fun z=>[(6,(vI (z.1:Int)))]) (fun z=>[]) (fun _=>rfl) (fun _=>rfl) (fun z=>i-z.1) ⟨0,A⟩ (aU U) (aG [0,1,2,3,4,5,6,7,8]) ?_
  clear A
  rintro ⟨k,⟨O,B⟩⟩ J34 g
  try dsimp only
  refine aj fun _ A5=>WS fun _ A6=>rP 3 [] mn ?_
  refine RK A6<|bS U (aP fun J7=>?_) (aQ fun J7=>?_)
  ·refine bD<|ab<|ab<|ay<|aH<|KK AA<|al<|rP 3 [] mn ?_
   refine aA ?_
   have Gm:(vI (((i+1):Nat):Int))=(vI ((i:Int)+1)):=by exact cI I
   refine aV (T ⟨(i+1),⟨I,De AB (fun a ha=>by rw [hy] at ha; cases ha; exact ⟨I,fun b hb hc=>by omega⟩) (fun a ha=>by rw [hx] at ha; cases ha; exact ⟨I,fun k b hk hb=>B k b I hb⟩)⟩⟩ _ _ _ rfl os (dF.cons rfl<|dF.cons rfl<|bk rfl Gm<|dF.nil _) (aG [0,1,2,3,4,5,6,7,8]))
  refine WK A5<|aj fun _ A7=>ax<|aj fun _ A8=>dH cx 11 kr<|dP 3 [] (mc 0 U mn) ?_
  obtain ⟨u,hu⟩:=aJ r.bK k I
  have Z:=bO iC hu
  refine dS (IA k U (aC 6 U) cL dc I I)<|dS (gi k 0 (vI u) U cj (aC 6 U) Z U dc U)<|mV 3 [] (mc 0 U mn) U<|dS (IA i U (aC 6 U) cL dc I I)<|dS (gi i 0 (vI x) U cj (aC 6 U) M U dc U)<|dP 1 [] mn ?_
  refine cQ<|RK A8<|bS U (aP fun L=>?_) (aQ fun L=>?_)
  ·refine cr<|aH<|KK A7<|al<|rP 3 [] mn ?_
   refine aA ?_
   have GT:(vI (((k+1):Nat):Int))=(vI ((k:Int)+1)):=by exact cI I
   refine aV (g ⟨(k+1),⟨I,xX B hu L⟩⟩ _ _ _ U os (cU 3<|bk U GT<|dF.nil _) (aG [0,1,2,3,4,5,6,7,8]))
  refine WS fun _ A9=>rP 2 [] mn ?_
  refine RK A9<|ar<|LX hQ (false,0,none,0,[]) [] [] mn U (by rfl) U U ?_
  (exact ⟨Bo,fun _=>⟨rfl,fun q=>by have S:=q.num; have q2:=q.xL; have q3:=q.nh; have q4:=q.yI; omega⟩⟩)
 refine mV 3 [] (mc 0 U mn) U<|dS (IA i U (aC 5 U) cL dc I I)<|dS (gi i 0 (vI y) U cj (aC 5 U) IR U dc U)<|dP 4 [] (mc 0 U mn) ?_
 obtain ⟨z,hz⟩:=aJ r.aM (i-1) I
 have Lo:=bO iC hz
 refine dS (IA (i-1) U (aC 5 U) cL dc I I)<|dS (gi (i-1) 0 (vI z) U cj (aC 5 U) Lo U dc U)<|dP 4 [] mn ?_
 refine js (t:=69) U (aQ fun KX=>?_) (aP fun KX=>?_)
 ·refine lQ 10 U<|cQ<|RK K<|aR U<|WS fun _ AC=>rP 2 [] mn ?_
  refine RK AC<|ar<|LX hQ (false,0,none,0,[]) [] [] mn U (by rfl) U U ?_
  (exact ⟨Bo,fun _=>⟨rfl,fun q=>by have S:=(q.ids i y hy).2 z I hz; omega⟩⟩)
 refine dP 3 [] (mc 0 U mn) ?_
 obtain ⟨x,hx⟩:=aJ r.bK i I
 have M:=bO iC hx
 refine dS (IA i U (aC 6 U) cL dc I I)<|dS (gi i 0 (vI x) U cj (aC 6 U) M U dc U)<|lQ 2 U<|dS (CL (pb x 0 ((r.aM.length:Int)-1)) (aI) U)<|dP 2 [] mn ?_
 refine cQ<|RK K<|cP U (bx fun Y=>?_) (bw fun Y=>?_)
 ·refine WS fun _ AO=>rP 2 [] mn ?_
  refine RK AO<|ar<|LX hQ (false,0,none,0,[]) [] [] mn U (by rfl) U U ?_
  (exact ⟨Bo,fun _=>⟨rfl,fun q=>by have S:=q.KY hx; omega⟩⟩)
 refine WK V<|WS fun _ AS=>rP 1 [] mn ?_
 refine RK AS<|ax ?_
 have A:(0≤i)∧(∀ (q:Nat) y,q<0→r.bK[q]? =some y→y≠x):=by exact ⟨Nat.zero_le _,fun q y hq=>absurd hq (Nat.not_lt_zero _)⟩
 refine bL (ι:={z:Nat // (z≤i)∧(∀ (q:Nat) y,q<z→r.bK[q]? =some y→y≠x)}) [1,4,5] [0,1,2,3,4,5,6,7,8] U U (fun z=>[(6,(vI (z.1:Int)))]) (fun z=>[]) (fun _=>rfl) (fun _=>rfl) (fun z=>i-z.1) ⟨0,A⟩ (aU U) (aG [0,1,2,3,4,5,6,7,8]) ?_
 clear A
 rintro ⟨k,⟨O,B⟩⟩ J23 f
 try dsimp only
 refine aj fun _ Ao=>WS fun _ Ap=>rP 3 [] mn ?_
 refine RK Ap<|bS U (aP fun X=>?_) (aQ fun X=>?_)
 ·refine bD<|ab<|ab<|ay<|aH<|KK AA<|al<|rP 3 [] mn ?_
  refine aA ?_
  have GE:(vI (((i+1):Nat):Int))=(vI ((i:Int)+1)):=by exact cI I
  refine aV (T ⟨(i+1),⟨I,De AB (fun a ha=>by rw [hy] at ha; cases ha; exact ⟨I,fun b hb hc=>by (rw [hz] at hc; cases hc; omega)⟩) (fun a ha=>by rw [hx] at ha; cases ha; exact ⟨I,fun k b hk hb=>B k b I hb⟩)⟩⟩ _ _ _ rfl os (dF.cons rfl<|dF.cons rfl<|bk rfl GE<|dF.nil _) (aG [0,1,2,3,4,5,6,7,8]))
 refine WK Ao<|aj fun _ A0=>ax<|aj fun _ A1=>dH cx 11 kr<|dP 3 [] (mc 0 U mn) ?_
 obtain ⟨u,hu⟩:=aJ r.bK k I
 have Z:=bO iC hu
 refine dS (IA k U (aC 6 U) cL dc I I)<|dS (gi k 0 (vI u) U cj (aC 6 U) Z U dc U)<|mV 3 [] (mc 0 U mn) U<|dS (IA i U (aC 6 U) cL dc I I)<|dS (gi i 0 (vI x) U cj (aC 6 U) M U dc U)<|dP 1 [] mn ?_
 refine cQ<|RK A1<|bS U (aP fun L=>?_) (aQ fun L=>?_)
 ·refine cr<|aH<|KK A0<|al<|rP 3 [] mn ?_
  refine aA ?_
  have Fn:(vI (((k+1):Nat):Int))=(vI ((k:Int)+1)):=by exact cI I
  refine aV (f ⟨(k+1),⟨I,xX B hu L⟩⟩ _ _ _ U os (cU 3<|bk U Fn<|dF.nil _) (aG [0,1,2,3,4,5,6,7,8]))
 refine WS fun _ A2=>rP 2 [] mn ?_
 refine RK A2<|ar<|LX hQ (false,0,none,0,[]) [] [] mn U (by rfl) U U ?_
 (exact ⟨Bo,fun _=>⟨rfl,fun q=>by exact q.Re I hu hx L⟩⟩)
end
section
open Go.RowKit
theorem Im (r:bY) (kA:OA) (kC:Nat) (az:List RA) (cA:OA) (cC:Nat) (bA:OA) (bC:Nat) (slA:OA) (slC:Nat) (drA:OA) (drC:Nat) (ha:List cK) (heA:OA) (heC:Nat) (hin:fp r az ha):
 lB Tryz.prog 72 [(vA (cm.cells (oz r kA kC cA cC bA bC slA slC drA drC heA heC)))] [(rd kA r.an.aL.length 9 (r.an.aL.map ak.cells)),(rd cA r.an.ah.length 2 (List.zipWith ao.cells r.an.ah az)),(e9 (aW ao.gP r.an.ah az)),(rd bA r.an.ae.length 4 (r.an.ae.map bE.cells)),(rd slA r.aM.length 1 (r.aM.map iC)),(rd drA r.bK.length 1 (r.bK.map iC)),(rd heA r.aq.length 1 (List.zipWith cD r.aq ha)),(e9 (aW iy r.aq ha))] (fun (x:Bool×Int×(OA)×Nat×(List RA))=>bif x.1 then (vT [(vS x.2.2.1 ((cT r).length) x.2.2.2.1),(vI 0)]) else (vT [(vS none 0 0),(vI x.2.1)])) (fun (x:Bool×Int×(OA)×Nat×(List RA))=>(x.1=true→(cM r=0∧x.2.2.2.2.length=r.aq.length))∧(x.1=false→(x.2.1=cM r∧ ¬ cM r=0))) (fun (x:Bool×Int×(OA)×Nat×(List RA))=>bif x.1 then [(own x.2.2.1 x.2.2.2.1 109 1 (List.zipWith E4 (cT r) x.2.2.2.2)),(br (aW DM (cT r) x.2.2.2.2))] else []):=by
 have AA:=hin.line
 have b:=hin.iW
 have c:=hin.has
 have Z:=hin.jd
 have Y:=hin.draw
 have a:=dQ (r:=r)
 refine di kr Tryz.func72 U U fun f Q hQ hN=>?_
 try dsimp only
 refine WS fun _ O=>gd U fun e=>bo 2 U<|RK O<|aj fun _ P=>WS fun _ R=>bo 1 U<|rS (LP (bZ.cells (lJ r.an kA kC cA cC bA bC)) 0 U cj U U U)<|rS (CL (CE r.an kA kC az cA cC bA bC asm) (bp [1,2,3,4]) U)<|bo 1 U<|RK R<|WS fun _ S=>rP 2 [] mn ?_
 refine RK S<|cP U (bx fun A=>?_) (bw fun A=>?_)
 ·refine WS fun _ T=>rP 3 [] mn ?_
  refine RK T<|ar<|LX hQ (false,(dD r.an),none,0,[]) [] [] mn U (by rfl) U U ?_
  exact sf<|IJ (zM A) A
 refine WK P<|WS fun _ G=>rP 1 [] (mc 0 U mn) ?_
 refine cX (EZ r kA kC az cA cC bA bC slA slC drA drC ha heA heC hin (by exact A)) (bp [1,2,3,4,5,6,7,8]) U fun d J=>?_
 obtain ⟨K,W,L,M,N⟩:=d
 cases K
 rotate_left 1
 ·obtain ⟨AB,V⟩:=J.1 rfl
  try dsimp only [cond_true,cond_false,List.cons_append,List.nil_append]
  refine bo 5 U<|RK G<|aj fun _ D=>WS fun _ E=>bo 2 U<|RK E<|a_ U<|WK D<|WS fun _ F=>rP 3 [] mn ?_
  refine RK F<|ar ?_
  refine LX hQ (true,0,L,M,N) [0,1] [] mn U (by (show List.all _ _=true; simp only [cond_true,fE,List.all_nil,w5,Bool.and_true]; rfl)) U U ?_
  exact ⟨fun _=>⟨Cz A AB,V⟩,OD⟩
 obtain ⟨H,he⟩:=J.2 rfl
 try dsimp only at H he
 subst H
 try dsimp only [cond_true,cond_false,List.cons_append,List.nil_append]
 refine bo 5 U<|RK G<|aj fun _ X=>WS fun _ B=>bo 2 U<|RK B<|aR U<|WS fun _ C=>rP 2 [] mn ?_
 refine RK C<|ar<|LX hQ (false,60,none,0,[]) [] [] mn U (by rfl) U U ?_
 exact sf<|qb (kN A he)
end
section
open Go.RowKit
theorem H2 (r:bY) (kA:OA) (kC:Nat) (az:List RA) (cA:OA) (cC:Nat) (bA:OA) (bC:Nat) (slA:OA) (slC:Nat) (drA:OA) (drC:Nat) (ha:List cK) (heA:OA) (heC:Nat) (hin:fp r az ha):
 eB Tryz.prog 37 [(vA (cm.cells (oz r kA kC cA cC bA bC slA slC drA drC heA heC)))] [(rd kA r.an.aL.length 9 (r.an.aL.map ak.cells)),(rd cA r.an.ah.length 2 (List.zipWith ao.cells r.an.ah az)),(e9 (aW ao.gP r.an.ah az)),(rd bA r.an.ae.length 4 (r.an.ae.map bE.cells)),(rd slA r.aM.length 1 (r.aM.map iC)),(rd drA r.bK.length 1 (r.bK.map iC)),(rd heA r.aq.length 1 (List.zipWith cD r.aq ha)),(e9 (aW iy r.aq ha))] (vI (cM r)):=by
 have H:=hin.line
 have M:=hin.iW
 have N:=hin.has
 have J:=hin.jd
 have AB:=hin.draw
 have K:=dQ (r:=r)
 refine bG kr Tryz.func37 U U fun V Q hQ hN=>?_
 try dsimp only
 refine WS fun _ G=>gd U fun AA=>bo 1 U<|RK G<|WS fun _ C=>rP 1 [] (mc 0 U mn) ?_
 refine cX (Im r kA kC az cA cC bA bC slA slC drA drC ha heA heC hin) (bp [1,2,3,4,5,6,7,8]) U fun T E=>?_
 obtain ⟨F,L,P,R,S⟩:=T
 cases F
 rotate_left 1
 ·obtain ⟨he,O⟩:=E.1 rfl
  try dsimp only [cond_true,cond_false,List.cons_append,List.nil_append]
  refine bo 5 U<|RK C<|WS fun _ B=>rP 2 [] mn ?_
  refine RK B<|ar<|Q1 hQ U U U ?_
  first|rfl|(rw [he])
 obtain ⟨D,he⟩:=E.2 rfl
 try dsimp only at D he
 subst D
 try dsimp only [cond_true,cond_false,List.cons_append,List.nil_append]
 refine bo 5 U<|RK C<|WS fun _ A=>rP 2 [] mn ?_
 refine RK A<|ar<|Q1 hQ U U U ?_
 first|rfl|(rw [he])
end
section
open Go.RowKit
theorem Dm (r:bY) (kA:OA) (kC:Nat) (az:List RA) (cA:OA) (cC:Nat) (bA:OA) (bC:Nat) (slA:OA) (slC:Nat) (drA:OA) (drC:Nat) (ha:List cK) (heA:OA) (heC:Nat) (hraw:oF r az ha):
 eB Tryz.prog 8 [(vA (cm.cells (oz r kA kC cA cC bA bC slA slC drA drC heA heC)))] [(rd kA r.an.aL.length 9 (r.an.aL.map ak.cells)),(rd cA r.an.ah.length 2 (List.zipWith ao.cells r.an.ah az)),(e9 (aW ao.gP r.an.ah az)),(rd bA r.an.ae.length 4 (r.an.ae.map bE.cells)),(rd slA r.aM.length 1 (r.aM.map iC)),(rd drA r.bK.length 1 (r.bK.map iC)),(rd heA r.aq.length 1 (List.zipWith cD r.aq ha)),(e9 (aW iy r.aq ha))] (vB (decide (¬ nR r∧cM r=0))):=by
 refine bG kr Tryz.func8 U U fun F Q hQ hN=>?_
 try dsimp only
 refine WS fun _ C=>gd U fun E=>bo 1 U<|RK C<|WS fun _ B=>fY 1 [] (mc 0 U mn) U<|rS (CL (DC r kA kC az cA cC bA bC slA slC drA drC ha heA heC hraw) (bp [1,2,3,4,5,6,7,8]) U)<|rP 2 [] mn ?_
 refine cu (t:=6) U (bw fun A=>?_) (bx fun A=>?_)
 ·refine bo 1 U<|rP 4 [] mn ?_
  refine RK B<|ar<|Q1 hQ U U U ?_
  first|exact cB (ct fun q=>q.1 A).symm|exact cB (gO.2 ⟨fun q=>⟨A,q⟩,fun q=>q.2⟩)
 refine rP 1 [] (mc 0 U mn) ?_
 have D:=hraw.small A
 refine rS (CL (H2 r kA kC az cA cC bA bC slA slC drA drC ha heA heC sd) (bp [1,2,3,4,5,6,7,8]) U) ?_
 refine rP 3 [] mn ?_
 refine RK B<|ar<|Q1 hQ U U U ?_
 first|exact cB (ct fun q=>q.1 A).symm|exact cB (gO.2 ⟨fun q=>⟨A,q⟩,fun q=>q.2⟩)
end
section
open Go.RowKit
theorem Qv (la:List Int) (laA:OA) (laC:Nat) (n:Int) (hlen:la.length≤1000000):
 eB Tryz.prog 19 [(vS laA la.length laC),(vI n)] [(rd laA la.length 1 (la.map iC))] (vB (decide (n∈la))):=by
 refine bG kr Tryz.func19 U U fun AA Q hQ hN=>?_
 try dsimp only
 refine WS fun _ AB=>bo 1 U<|RK AB<|aj fun _ J=>WS fun _ K=>rP 3 [] mn ?_
 refine RK K<|ax ?_
 have B:(0≤la.length)∧(∀ (j:Nat) y,j<0→la[j]? =some y→y≠n):=by exact ⟨Nat.zero_le _,fun j y hj=>absurd hj (Nat.not_lt_zero _)⟩
 refine bL (ι:={z:Nat // (z≤la.length)∧(∀ (j:Nat) y,j<z→la[j]? =some y→y≠n)}) [1,7,8] [0] U U (fun z=>[(9,(vI (z.1:Int)))]) (fun z=>[]) (fun _=>rfl) (fun _=>rfl) (fun z=>la.length-z.1) ⟨0,B⟩ (aU U) (aG [0]) ?_
 clear B
 rintro ⟨i,⟨R,A⟩⟩ J4 H
 try dsimp only
 refine WS fun _ L=>rP 1 [] mn ?_
 refine RK L<|aj fun _ M=>bS U (aP fun T=>?_) (aQ fun T=>?_)
 ·refine bD<|ab<|ab<|ay<|KK J<|WS fun _ F=>rP 1 [] mn ?_
  refine RK F<|ar<|Q1 hQ U U U ?_
  first|exact cB (gf (by rw [← C]; exact aT hx)).symm|exact cB (ct fun q=>qZ (P:=fun y=>y≠n) I A n q rfl).symm
 refine WK M<|aj fun _ N=>ax<|WS fun _ O=>?_
 obtain ⟨x,hx⟩:=aJ la i I
 have S:=bO iC hx
 refine rS (IA i U (aC 0 U) cL dc I I)<|rS (gi i 0 (vI x) U cj (aC 0 U) S U dc U)<|bo 1 U<|RK O<|WS fun _ D=>rP 3 [] mn ?_
 refine RK D<|cP U (aQ fun C=>?_) (aP fun C=>?_)
 ·refine WS fun _ E=>rP 1 [] mn ?_
  refine RK E<|ar<|Q1 hQ U U U ?_
  first|exact cB (gf (by rw [← C]; exact aT hx)).symm|exact cB (ct fun q=>qZ (P:=fun y=>y≠n) I A n q rfl).symm
 refine cr<|aH<|KK N<|al<|rP 2 [] mn ?_
 refine aA ?_
 have G:(vI (((i+1):Nat):Int))=(vI ((i:Int)+1)):=by exact cI I
 refine aV (H ⟨(i+1),⟨I,k8 A hx C⟩⟩ _ _ _ U os (cU 3<|bk U G<|dF.nil _) (aG [0]))
end
section
open Go.RowKit
theorem D8 (r:bY) (kA:OA) (kC:Nat) (az:List RA) (cA:OA) (cC:Nat) (bA:OA) (bC:Nat) (slA:OA) (slC:Nat) (drA:OA) (drC:Nat) (ha:List cK) (heA:OA) (heC:Nat) (clock:Int) (sv0:bJ) (hraw:oF r az ha) (hcb:0≤clock∧clock≤255):
 eB Tryz.prog 5 [(vA (cm.cells (oz r kA kC cA cC bA bC slA slC drA drC heA heC))),(Value.int .u8 clock),(vA (bJ.cells sv0))] [(rd fg 3 2 eu),(rd kA r.an.aL.length 9 (r.an.aL.map ak.cells)),(rd cA r.an.ah.length 2 (List.zipWith ao.cells r.an.ah az)),(e9 (aW ao.gP r.an.ah az)),(rd bA r.an.ae.length 4 (r.an.ae.map bE.cells)),(rd slA r.aM.length 1 (r.aM.map iC)),(rd drA r.bK.length 1 (r.bK.map iC)),(rd heA r.aq.length 1 (List.zipWith cD r.aq ha)),(e9 (aW iy r.aq ha))] (vB true):=by
 refine bG kr Tryz.func5 U U fun w0 Q hQ hN=>?_
 try dsimp only
 refine WS fun _ Lk=>gd U fun b2=>gd U fun b3=>bo 1 U<|RK Lk<|WS fun _ Lo=>rS (CL LF (bp [2]) U)<|bo 1 U<|RK Lo<|aj fun _ L0=>WS fun _ L2=>bo 2 U<|RK L2<|a_ U<|WK L0<|aj fun _ L3=>WS fun _ M2=>fY 1 [] (mc 1 U mn) U<|rS (CL (Dm r kA kC az cA cC bA bC slA slC drA drC ha heA heC hraw) (bp [3,4,5,6,7,8,9,10]) U)<|rP 1 [] mn ?_
 refine RK M2<|cP U (bx fun W=>?_) (bw fun W=>?_)
 ·refine WS fun _ M4=>rP 2 [] mn ?_
  refine RK M4<|ar ?_
  exact Q1 hQ U U U U
 refine WK L3<|WS fun _ C0=>?_
 have g:=hraw.small W.1
 have PP:=g.line
 have S1:=g.iW
 have S2:=g.has
 have R1:=g.jd
 have Re:=g.draw
 have R2:=dQ (r:=r)
 have A5:=(ig W.2).2
 have Os:=(ig W.2).1
 have TQ:=A5.num
 have TC:=A5.nh
 refine rP 1 [] (mc 1 U mn) ?_
 refine cX (EK r kA kC az cA cC bA bC slA slC drA drC ha heA heC (by exact g) (by exact W.1)) (bp [3,4,5,6,7,8,9,10]) U fun Pl KY=>?_
 obtain ⟨AB,N,C,D,A,J,O,K,P,L,R,M,S,AA⟩:=Pl
 try dsimp only
 obtain ⟨⟨T,J8⟩,e⟩:=KY
 try dsimp only at T J8 e
 have V:=g.Nx T J8 e
 obtain ⟨T0,KT⟩:=gj Os
 have Ne:=KT.head
 unfold gE at Ne
 have Ta:=SM clock (r.an.ah.length:Int) hcb.1 I
 refine AL U yF fun B3=>gl U rZ U<|RK C0<|aj fun _ C1=>?_
 refine wZ 2 U (by rw [eM T]; omega) (fun QL G=>?_)
 refine dH cx 12 kr<|mV 4 [] (mc 0 U mn) U<|dS (SX (tO (m:=clock) U U Ru qp (qB (by first|assumption|omega))) U U)<|dP 4 [] (mc 0 U mn) ?_
 refine dS (BI U (PH I I)) ?_
 obtain ⟨ci,NE⟩: ∃ ci:Nat,(clock % (r.an.ah.length:Int))=(ci:Int):=⟨((clock % (r.an.ah.length:Int))).toNat,I⟩
 have Ra:ci<r.an.ah.length:=by omega
 rw [NE]
 obtain ⟨x,hx⟩:=aJ r.an.ah ci I
 obtain ⟨xa,H⟩:=aJ A ci I
 have j:(List.zipWith ao.cells r.an.ah A)[ci]? =some (ao.cells x xa):=dG hx H
 refine dS (V0 ci U G uQ U I)<|dP 1 [] mn ?_
 refine cQ<|RK C1<|aj fun _ C2=>?_
 have T4:=(KT.clock _ (aT hx)).len
 refine al<|rP 1 [] mn ?_
 refine RK C2 ?_
 refine mw (ι:={z:Nat // (z≤x.aN.length)}) [3,5,7,8,9] [0,1,2,3,4,5,6,7,8,9,10,11,12,13,14,15,16,17,18,19] U U (fun z=>[(10,(vI (z.1:Int)))]) (fun z=>[]) (fun _=>rfl) (fun _=>rfl) ?_ fun K32 A2=>?_
 ·rintro ⟨m,J9⟩
  try dsimp only
  refine mw (ι:={z:(OA)×Nat // ((fy x m sv0).aN.length≤z.2)}) [3,5,7,8] [0,1,3,4,5,6,7,8,9,10,11,12,13,14,15,16,17,18,19] U U (fun z=>[]) (fun z=>[(own z.1.1 z.1.2 55 3 ((fy x m sv0).aN.map bJ.cells)),(own C D 53 2 (List.zipWith ao.cells (r.an.ah.set ci (fy x m sv0)) (A.set ci (z.1.1,z.1.2))))]) (fun _=>rfl) (fun _=>rfl) ?_ fun K33 v=>?_
  ·rintro ⟨⟨nA,nC⟩,f⟩
   try dsimp only at f
   try dsimp only
   have Op:=f
   have KX:oF (mK r (iM r.an ci (fy x m sv0))) ((A.set ci (nA,nC))) _:=MF V (JS (i:=ci) (c:=(fy x m sv0)) (a:=(nA,nC)) V.line T ⟨Op,by show ((fy x m sv0)).aN.length≤9223372036854775807; simp [fy]; omega⟩)
   refine aj fun _ AC=>aj fun _ l=>?_
   rw [show bj.mk C r.an.ah.length D=bj.mk C ((r.an.ah.set ci (fy x m sv0)).length) D from by rw [List.length_set]]
   refine al<|rP 1 [] (mc 0 U mn) ?_
   refine rS (CL (Dm (mK r (iM r.an ci (fy x m sv0))) AB N (A.set ci (nA,nC)) C D J O K P L R AA M S (by exact KX)) (au (ag (n:=r.an.aL.length) 1 U (by first|(simp; done)|(rw [List.length_map]; rfl)))<|au (ag (n:=(r.an.ah.set ci (fy x m sv0)).length) 20 U (eM (by rw [List.length_set]; exact T.trans (List.length_set).symm)))<|au (x9 2 19 U U U)<|au (ag (n:=r.an.ae.length) 3 U (by first|(simp; done)|(rw [List.length_map]; rfl)))<|au (ag (n:=r.aM.length) 4 U (by first|(simp; done)|(rw [List.length_map]; rfl)))<|au (ag (n:=r.bK.length) 5 U (by first|(simp; done)|(rw [List.length_map]; rfl)))<|au (ag (n:=r.aq.length) 6 U (du e.1))<|au (gM 7 U e)<|aI) U) ?_
   refine rP 1 [] mn ?_
   refine RK l<|cP U (bx fun u=>?_) (bw fun u=>?_)
   ·refine WS fun _ C3=>rP 2 [] mn ?_
    refine RK C3<|ar ?_
    exact Q1 hQ U U U U
   refine WK AC<|aj fun _ DL=>aj fun _ Di=>?_
   have A6:=KX.small u.1
   have KR:qm r.an (iM r.an ci (fy x m sv0)):=D6 hx
   have Pi:=K2 KR W.2 u.2
   refine al<|rP 4 [] (mc 9 U mn) ?_
   refine RK Di<|ax ?_
   have B:(0≤r.aM.length):=by exact Nat.zero_le _
   refine bL (ι:={z:Nat // (z≤r.aM.length)}) [3,7,8,91,92] [0,1,2,3,4,5,6,7,9,10,11,12,13,14,15,16,17,18,19,20] U U (fun z=>[(93,(vI (z.1:Int)))]) (fun z=>[]) (fun _=>rfl) (fun _=>rfl) (fun z=>r.aM.length-z.1) ⟨0,B⟩ (aU U) (aG [0,1,2,3,4,5,6,7,9,10,11,12,13,14,15,16,17,18,19,20]) ?_
   clear B
   rintro ⟨i,Kc⟩ J39 Cp
   try dsimp only
   refine WS fun _ Do=>rP 1 [] mn ?_
   refine RK Do<|aj fun _ EQ=>bS U (aP fun LT=>?_) (aQ fun LT=>?_)
   ·refine bD<|ab<|ab<|ay<|KK DL<|WS fun _ I4=>rP 2 [] mn ?_
    refine RK I4<|ar ?_
    exact Q1 hQ U U U U
   refine WK EQ<|aj fun _ Eq=>ax<|WS fun _ FR=>bo 2 U<|RK FR<|aj fun _ FS=>WS fun _ FT=>rP 4 [] (mc 8 U mn) ?_
   refine RK FT<|ax ?_
   have B:(0≤r.aq.length):=by exact Nat.zero_le _
   refine bL (ι:={z:Nat // (z≤r.aq.length)}) [3,7,8,11,91,92,93,97,98] [0,1,2,3,4,5,6,7,8,9,10,11,12,13,14,15,16,17,18,19] U U (fun z=>[(99,(vI (z.1:Int)))]) (fun z=>[]) (fun _=>rfl) (fun _=>rfl) (fun z=>r.aq.length-z.1) ⟨0,B⟩ (aU U) (aG [0,1,2,3,4,5,6,7,8,9,10,11,12,13,14,15,16,17,18,19]) ?_
   clear B
   rintro ⟨h,K0⟩ J47 A1
   try dsimp only
   refine WS fun _ Fd=>rP 1 [] mn ?_
   refine RK Fd<|aj fun _ Fn=>cP U (aQ fun A8=>?_) (aP fun A8=>?_)
   ·refine WK Fn<|aj fun _ A3=>ax<|WS fun _ GE=>bo 2 U<|RK GE<|WS fun _ GT=>rP 3 [] (mc 8 U mn) ?_
    refine rS (CL (Eg (h:Int) (i:Int) r kA kC az cA cC bA bC slA slC drA drC ha heA heC sd) (bp [9,10,11,12,13,14,15,16,17]) U) ?_
    refine bo 3 U<|AL U dv fun R8=>gl U cy U<|bo 1 U<|RK GT<|WS fun _ Gm=>rP 3 [] (mc 1 U mn) ?_
    refine rS (CL (Eg (h:Int) (i:Int) (mK r (iM r.an ci (fy x m sv0))) AB N (A.set ci (nA,nC)) C D J O K P L R AA M S (by exact A6)) (fP 10 U U<|au (ag (n:=r.an.aL.length) 2 U (by first|(simp; done)|(rw [List.length_map]; rfl)))<|au (ag (n:=(r.an.ah.set ci (fy x m sv0)).length) 20 U (eM (by rw [List.length_set]; exact T.trans (List.length_set).symm)))<|au (x9 3 19 U U U)<|au (ag (n:=r.an.ae.length) 4 U (by first|(simp; done)|(rw [List.length_map]; rfl)))<|au (ag (n:=r.aM.length) 5 U (by first|(simp; done)|(rw [List.length_map]; rfl)))<|au (ag (n:=r.bK.length) 6 U (by first|(simp; done)|(rw [List.length_map]; rfl)))<|au (ag (n:=r.aq.length) 7 U (du e.1))<|au (gM 8 U e)<|aI) U) ?_
    refine bo 3 U<|AL U dv fun R9=>gl U cy U<|rP 1 [] mn ?_
    refine RK Gm<|aj fun _ A4=>?_
    have A9:=HY (h:=(h:Int)) (i:=(i:Int)) KR W.2 u.2
    refine al<|rP 4 [] mn ?_
    refine dp (t:=119) U (bx fun Ao=>?_) (bw fun Ao=>?_)
    ·exact absurd A9.1.symm Ao
    refine rP 3 [] mn ?_
    refine cu (t:=122) U (aP fun p=>?_) (aQ fun p=>?_)
    ·refine bo 14 U<|RK A4<|a_ U<|cr<|aH<|KK A3<|al<|rP 2 [] mn ?_
     refine aA ?_
     have J5:(vI (((h+1):Nat):Int))=(vI ((h:Int)+1)):=by exact cI I
     refine aV (A1 ⟨(h+1),(by first|omega|(simp only []; omega))⟩ _ _ _ U os (cU 9<|bk U J5<|dF.nil _) (aG [2,3,4,5,6,7,8,9,10,11,12,13,14,15,16,17,18,19,20,21]))
    refine rP 6 [0,1] (mc 0 U (mc 1 U mn)) ?_
    refine dp (t:=128) U (aQ fun Ca=>?_) (aP fun Ca=>?_)
    ·exfalso; have q:=A9.2 p; unfold jQ at q; omega
    refine rP 8 [0,1] (mc 0 U (mc 1 U mn)) ?_
    refine RK A4<|cP U (aQ fun Ci=>?_) (aP fun Ci=>?_)
    ·exfalso; have q:=A9.2 p; unfold jQ at q; omega
    refine cr<|aH<|KK A3<|al<|rP 2 [] mn ?_
    refine aA ?_
    have J4:(vI (((h+1):Nat):Int))=(vI ((h:Int)+1)):=by exact cI I
    refine aV (A1 ⟨(h+1),(by first|omega|(simp only []; omega))⟩ _ _ _ U os (cU 9<|bk U J4<|dF.nil _) (aG [2,3,4,5,6,7,8,9,10,11,12,13,14,15,16,17,18,19,20,21]))
   refine bD<|ab<|ab<|ay<|KK FS<|WS fun _ Go=>rP 2 [] (mc 8 U mn) ?_
   refine cX (An (i:Int) r kA kC az cA cC bA bC slA slC drA drC ha heA heC sd) (bp [9,10,11,12,13,14,15,16,17]) U fun P8 R3=>?_
   obtain ⟨K8,LE⟩:=P8
   try dsimp only
   refine bo 5 U<|RK Go<|WS fun _ Hc=>rP 2 [] (mc 1 U mn) ?_
   refine cX (An (i:Int) (mK r (iM r.an ci (fy x m sv0))) AB N (A.set ci (nA,nC)) C D J O K P L R AA M S (by exact A6)) (fP 10 U U<|au (ag (n:=r.an.aL.length) 2 U (by first|(simp; done)|(rw [List.length_map]; rfl)))<|au (ag (n:=(r.an.ah.set ci (fy x m sv0)).length) 20 U (eM (by rw [List.length_set]; exact T.trans (List.length_set).symm)))<|au (x9 3 19 U U U)<|au (ag (n:=r.an.ae.length) 4 U (by first|(simp; done)|(rw [List.length_map]; rfl)))<|au (ag (n:=r.aM.length) 5 U (by first|(simp; done)|(rw [List.length_map]; rfl)))<|au (ag (n:=r.bK.length) 6 U (by first|(simp; done)|(rw [List.length_map]; rfl)))<|au (ag (n:=r.aq.length) 7 U (du e.1))<|au (gM 8 U e)<|aI) U fun QG R4=>?_
   obtain ⟨R6,Sz⟩:=QG
   try dsimp only
   refine rP 5 [] mn ?_
   refine RK Hc<|aj fun _ Hi=>aj fun _ H1=>?_
   have KU:=D5 (i:=(i:Int)) W.2 u.2 rfl Pi (by unfold q9; omega)
   have Rk:=tf (r:=r) (i:=(i:Int))
   have Rw:=tf (r:=(mK r (iM r.an ci (fy x m sv0)))) (i:=(i:Int))
   have R0:(mK r (iM r.an ci (fy x m sv0))).aM.length=r.aM.length:=rfl
   refine al<|rP 3 [] mn ?_
   refine RK H1<|cP U (bx fun Ap=>?_) (bw fun Ap=>?_)
   ·exact absurd KU.1.symm Ap
   refine WK Hi<|WS fun _ IO=>rP 3 [] mn ?_
   refine RK IO<|ax ?_
   have B:(0≤(fV (mK r (iM r.an ci (fy x m sv0))) (i:Int)).length):=by exact Nat.zero_le _
   refine bL (ι:={z:Nat // (z≤(fV (mK r (iM r.an ci (fy x m sv0))) (i:Int)).length)}) [3,7,8,11,17,91,92,93,153,154] [0,1,2,3,4,5,6,7,8,9,10,11,12,13,14,15,16,17,18,19,20,21] U U (fun z=>[(155,(vI (z.1:Int)))]) (fun z=>[]) (fun _=>rfl) (fun _=>rfl) (fun z=>(fV (mK r (iM r.an ci (fy x m sv0))) (i:Int)).length-z.1) ⟨0,B⟩ (aU U) (aG [0,1,2,3,4,5,6,7,8,9,10,11,12,13,14,15,16,17,18,19,20,21]) ?_
   clear B
   rintro ⟨q,K4⟩ J73 Cx
   try dsimp only
   refine WS fun _ IR=>rP 1 [] mn ?_
   refine RK IR<|aj fun _ Id=>bS U (aP fun Li=>?_) (aQ fun Li=>?_)
   ·refine bD<|ab<|ab<|ay<|aH<|KK Eq<|al<|rP 2 [] mn ?_
    refine aA ?_
    have J7:(vI (((i+1):Nat):Int))=(vI ((i:Int)+1)):=by exact cI I
    refine aV (Cp ⟨(i+1),(by first|omega|(simp only []; omega))⟩ _ _ _ U os (cU 5<|bk U J7<|dF.nil _) (aG [2,3,4,5,6,7,8,9,10,11,12,13,14,15,16,17,18,19,20,21]))
   refine WK Id<|aj fun _ If=>ax<|WS fun _ In=>?_
   obtain ⟨y,hy⟩:=aJ (fV (mK r (iM r.an ci (fy x m sv0))) (i:Int)) q I
   have Pk:=bO iC hy
   refine rS (IA q U (ag (n:=(fV (mK r (iM r.an ci (fy x m sv0))) (i:Int)).length) 0 U sm) cL dc I I)<|rS (gi q 0 (vI y) U cj (ag (n:=(fV (mK r (iM r.an ci (fy x m sv0))) (i:Int)).length) 0 U sm) Pk U dc U)<|bo 1 U<|RK In<|WS fun _ I0=>rP 2 [] mn ?_
   refine rS (CL (Qv (fV r (i:Int)) K8 LE y sd) (au (ag (n:=(fV r (i:Int)).length) 1 U sm)<|aI) U) ?_
   refine rP 1 [] mn ?_
   refine RK I0<|cP U (bx fun A0=>?_) (bw fun A0=>?_)
   ·exact absurd (KU.2 y (aT hy)) A0
   refine cr<|aH<|KK If<|al<|rP 2 [] mn ?_
   refine aA ?_
   have J6:(vI (((q+1):Nat):Int))=(vI ((q:Int)+1)):=by exact cI I
   refine aV (Cx ⟨(q+1),(by first|omega|(simp only []; omega))⟩ _ _ _ U os (cU 10<|bk U J6<|dF.nil _) (aG [0,1,2,3,4,5,6,7,8,9,10,11,12,13,14,15,16,17,18,19,20,21]))
  refine oJ cx [0,2,3,4,5,6,7,9,12,13,14,15,16,17,19,20] [1,8,10,11,18,21] [false,false,false,true,true,false,false,false,false,false,true,true,false,false,false,true] [1,8,10,11,18] [(cd B3 32 (cm.cells (cm.mk (bZ.mk (bB.mk (bj.mk AB r.an.aL.length N)) r.an.gk (bj.mk C r.an.ah.length D) (bj.mk J r.an.ae.length O) r.an.bU r.an.dN r.an.cw) (bj.mk K r.aM.length P) (bj.mk L r.bK.length R) r.gX (bj.mk M r.aq.length S)))),(own AB N 153 9 (r.an.aL.map ak.cells)),(br (aW ao.owns r.an.ah A)),(own J O 160 4 (r.an.ae.map bE.cells)),(own K P 3 1 (r.aM.map iC)),(own L R 3 1 (r.bK.map iC)),(own M S 56 1 (List.zipWith cD r.aq AA)),(br (aW iz r.aq AA)),(cd b3 55 (bJ.cells sv0)),(cd b2 32 (cm.cells (oz r kA kC cA cC bA bC slA slC drA drC heA heC))),(rd fg 3 2 eu).ro,(rd kA r.an.aL.length 9 (r.an.aL.map ak.cells)).ro,(rd cA r.an.ah.length 2 (List.zipWith ao.cells r.an.ah az)).ro,(e9 (aW ao.gP r.an.ah az)).ro,(rd bA r.an.ae.length 4 (r.an.ae.map bE.cells)).ro,(rd slA r.aM.length 1 (r.aM.map iC)).ro,(rd drA r.bK.length 1 (r.bK.map iC)).ro,(rd heA r.aq.length 1 (List.zipWith cD r.aq ha)).ro,(e9 (aW iy r.aq ha)).ro] [(cd B3 32 (cm.cells (cm.mk (bZ.mk (bB.mk (bj.mk AB r.an.aL.length N)) r.an.gk (bj.mk C r.an.ah.length D) (bj.mk J r.an.ae.length O) r.an.bU r.an.dN r.an.cw) (bj.mk K r.aM.length P) (bj.mk L r.bK.length R) r.gX (bj.mk M r.aq.length S)))),(own AB N 153 9 (r.an.aL.map ak.cells)),(own C D 53 2 (List.zipWith ao.cells r.an.ah A)),(br (aW ao.owns r.an.ah A)),(own J O 160 4 (r.an.ae.map bE.cells)),(own K P 3 1 (r.aM.map iC)),(own L R 3 1 (r.bK.map iC)),(own M S 56 1 (List.zipWith cD r.aq AA)),(br (aW iz r.aq AA)),(cd b3 55 (bJ.cells sv0)),(cd b2 32 (cm.cells (oz r kA kC cA cC bA bC slA slC drA drC heA heC))),(rd fg 3 2 eu).ro,(rd kA r.an.aL.length 9 (r.an.aL.map ak.cells)).ro,(rd cA r.an.ah.length 2 (List.zipWith ao.cells r.an.ah az)).ro,(e9 (aW ao.gP r.an.ah az)).ro,(rd bA r.an.ae.length 4 (r.an.ae.map bE.cells)).ro,(rd slA r.aM.length 1 (r.aM.map iC)).ro,(rd drA r.bK.length 1 (r.bK.map iC)).ro,(rd heA r.aq.length 1 (List.zipWith cD r.aq ha)).ro,(e9 (aW iy r.aq ha)).ro] kr (aG [0,1,3,4,5,6,7,8,9,10,11,12,13,14,15,16,17,18,19]) (aG [0,1,2,3,4,5,6,7,8,9,10,11,12,13,14,15,16,17,18,19])<|eS U (MV U)<|eS U (MV U)<|eS U (SX (mj U U G) U U)<|fS U (Pu ((ci*2)+1) U G fw U)<|fS U (gi ci 1 (vS xa.1 x.aN.length xa.2) U cj (ag (n:=r.an.ah.length) 2 U (eM T)) j U dc U)<|eS U (MV U) ?_
  have T2:=(V.line.LL _ _ _ hx H).1
  refine eS U (UB m U pz I (by first|omega|exact Nat.zero_le _|(simp; omega))) ?_
  refine eS U (LW 8 U cj U U)<|eS U (MV U)<|eS U (SX (mj U U G) U U)<|fS U (Pu ((ci*2)+1) U G fw U)<|fS U (gi ci 1 (vS xa.1 x.aN.length xa.2) U cj (ag (n:=r.an.ah.length) 2 U (eM T)) j U dc U)<|eS U (MV U) ?_
  refine eS U (UU m U pz I os) ?_
  refine eS U (SX (mj U U G) U U)<|fS U (Pu ((ci*2)+1) U G fw U)<|eT U<|iE [1,10] kr (ej ?_<|ej ?_<|j5)
  rotate_left 1
  ·refine kB (rem':=[1,8,11,18,21]) U kr fun T34 AO=>c_ (xs:=[.tmp 74]) (cs:=(bJ.cells sv0)) U pz vr U U U U (by simp [Value.cells,bJ.aS]) U U fun A7=>aA (AO _ _ (aG [1,2,4,5,6,7,8,9,10,11,12,13,14,15,16,17,18,19,20]) (aG [1,2,3,4,5,6,7,8,9,10,11,12,13,14,15,16,17,18,19,20]) ?_)
   refine N1 1<|kB (rem':=[8,11,18,21]) U kr fun T36 X=>ld U pz U fun B7=>aA (X _ _ (aG [2,3,5,6,7,8,9,10,11,12,13,14,15,16,17,18,19,20,21]) (aG [2,3,4,5,6,7,8,9,10,11,12,13,14,15,16,17,18,19,20,21]) ?_)
   refine N1 8<|kB (rem':=[11,18,21]) U kr fun T38 AS=>cR (es:=(List.map bJ.cells [])) (C':=[own (some ⟨B7,0,none⟩) 0 55 3 (List.map bJ.cells []),_,_,_,_,_,_,_,_,_,_,_,_,_,_,_,_,_,_,_,_,_]) 0 U sm U (by simp [maxLen]) U ?_
   refine ck (es2:=(List.map bJ.cells (x.aN.take m))) (m':=(x.aN.take m).length) 0 U U U yA U U sm (by rw [List.map_take]; exact wx (show iA _ (rd xa.1 x.aN.length 3 (x.aN.map bJ.cells)).holds from (fun w hw=>(cY 5 U fr) w hw _ (bM hx H (by simp [ao.gP])))) I) (e_ _) os (by first|(simp only [maxLen]; omega)|(simp [maxLen]; omega)) sm sm U fun K5 LA=>?_
   try dsimp only
   refine aA (AS _ _ (aG [2,3,5,6,7,8,9,10,11,12,13,14,15,16,17,18,19,20,21]) (aG [2,3,4,5,6,7,8,9,10,11,12,13,14,15,16,17,18,19,20,21]) ?_)
   refine N1 11<|kB (rem':=[18,21]) U kr fun T41 Y=>?_
   refine ck (es2:=(List.map bJ.cells (x.aN.take m++[sv0]))) (m':=(x.aN.take m++[sv0]).length) 0 U U U yA U U sm (aZ (es:=List.map bJ.cells [sv0]) 1 U U (by simp [bJ.aS]) U) (e_ _) (by simp only [List.length_take]; omega) (by simp only [maxLen,List.length_take]; omega) (by rw [List.map_append]) sm U fun Bm B9=>?_
   try dsimp only
   refine aA (Y _ _ (aG [2,3,5,6,7,8,9,10,11,12,13,14,15,16,17,18,19,20,21]) (aG [2,3,4,5,6,7,8,9,10,11,12,13,14,15,16,17,18,19,20,21]) ?_)
   refine N1 18<|kB (rem':=[21]) U kr fun T44 Z=>?_
   refine ck (es2:=(List.map bJ.cells ((fy x m sv0).aN))) (m':=((fy x m sv0).aN).length) 0 U U U yA U U sm (by rw [List.map_drop]; exact ES (show iA _ (rd xa.1 x.aN.length 3 (x.aN.map bJ.cells)).holds from (fun w hw=>(cY 5 U fr) w hw _ (bM hx H (by simp [ao.gP])))) I (by have:=(V.line.LL _ _ _ hx H).1; omega)) (e_ _) (by simp; omega) (by simp [maxLen]; omega) (by rw [← List.map_append]; rfl) sm U fun E F=>?_
   try dsimp only
   refine Ge 0 U fun d=>aA (Z _ _ (aG [2,3,5,6,7,8,9,10,11,12,13,14,15,16,17,18,19,20,21]) (aG [2,3,4,5,6,7,8,9,10,11,12,13,14,15,16,17,18,19,20,21]) ?_)
   refine N1 21<|NO U U [] fun T47 b=>dk (k:=ci) (o:=1) (vs:=[(vS E (((fy x m sv0).aN).length) F)]) (es':=(List.zipWith ao.cells (r.an.ah.set ci (fy x m sv0)) (A.set ci (E,F)))) (C':=[_,_,_,_,(own C D 53 2 (List.zipWith ao.cells (r.an.ah.set ci (fy x m sv0)) (A.set ci (E,F)))),_,_,_,_,_,_,_,_,_,_,_,_,_,_,_,_,_]) 4 U U U Kp U U U U j U dc (by exact AN (c:=(fy x m sv0)) (a:=(E,F))) U<|aA (b _ _ (aG [2,3,5,6,7,8,9,10,11,12,13,14,15,16,17,18,19,20,21]) ?_)
   refine nW ?_
   refine aV (ja (aU U) (aG [2,3,5,6,7,8,9,10,11,12,13,14,15,16,17,18,19,20,21,0,4]) (v ⟨(E,F),(by simpa using d)⟩))
  refine kB (rem':=[8,10,11,18,21]) U kr fun T34 AO=>ld U pz U fun A7=>aA (AO _ _ (aG [1,2,4,5,6,7,8,9,10,11,12,13,14,15,16,17,18,19,20]) (aG [1,2,3,4,5,6,7,8,9,10,11,12,13,14,15,16,17,18,19,20]) ?_)
  refine iE [8,10] kr (ej ?_<|ej ?_<|j5)
  ·refine kB (rem':=[10,11,18,21]) U kr fun T36 X=>cR (es:=(List.map bJ.cells [])) (C':=[own (some ⟨A7,0,none⟩) 0 55 3 (List.map bJ.cells []),_,_,_,_,_,_,_,_,_,_,_,_,_,_,_,_,_,_,_,_]) 0 U sm U (by simp [maxLen]) U ?_
   refine ck (es2:=(List.map bJ.cells (x.aN.take m))) (m':=(x.aN.take m).length) 0 U U U yA U U sm (by rw [List.map_take]; exact wx (show iA _ (rd xa.1 x.aN.length 3 (x.aN.map bJ.cells)).holds from (fun w hw=>(cY 4 U fr) w hw _ (bM hx H (by simp [ao.gP])))) I) (e_ _) os (by first|(simp only [maxLen]; omega)|(simp [maxLen]; omega)) sm sm U fun R5 ST=>?_
   try dsimp only
   refine aA (X _ _ (aG [1,2,4,5,6,7,8,9,10,11,12,13,14,15,16,17,18,19,20]) (aG [1,2,3,4,5,6,7,8,9,10,11,12,13,14,15,16,17,18,19,20]) ?_)
   refine N1 10<|kB (rem':=[11,18,21]) U kr fun T39 J2=>c_ (xs:=[.tmp 74]) (cs:=(bJ.cells sv0)) U pz vr U U U U (by simp [Value.cells,bJ.aS]) U U fun R7=>aA (J2 _ _ (aG [2,3,5,6,7,8,9,10,11,12,13,14,15,16,17,18,19,20,21]) (aG [2,3,4,5,6,7,8,9,10,11,12,13,14,15,16,17,18,19,20,21]) ?_)
   refine N1 11<|kB (rem':=[18,21]) U kr fun T41 Y=>?_
   refine ck (es2:=(List.map bJ.cells (x.aN.take m++[sv0]))) (m':=(x.aN.take m++[sv0]).length) 1 U U U yA U U sm (aZ (es:=List.map bJ.cells [sv0]) 0 U U (by simp [bJ.aS]) U) (e_ _) (by simp only [List.length_take]; omega) (by simp only [maxLen,List.length_take]; omega) (by rw [List.map_append]) sm U fun Bm B9=>?_
   try dsimp only
   refine aA (Y _ _ (aG [2,3,5,6,7,8,9,10,11,12,13,14,15,16,17,18,19,20,21]) (aG [2,3,4,5,6,7,8,9,10,11,12,13,14,15,16,17,18,19,20,21]) ?_)
   refine N1 18<|kB (rem':=[21]) U kr fun T44 Z=>?_
   refine ck (es2:=(List.map bJ.cells ((fy x m sv0).aN))) (m':=((fy x m sv0).aN).length) 1 U U U yA U U sm (by rw [List.map_drop]; exact ES (show iA _ (rd xa.1 x.aN.length 3 (x.aN.map bJ.cells)).holds from (fun w hw=>(cY 5 U fr) w hw _ (bM hx H (by simp [ao.gP])))) I (by have:=(V.line.LL _ _ _ hx H).1; omega)) (e_ _) (by simp; omega) (by simp [maxLen]; omega) (by rw [← List.map_append]; rfl) sm U fun E F=>?_
   try dsimp only
   refine Ge 1 U fun d=>aA (Z _ _ (aG [2,3,5,6,7,8,9,10,11,12,13,14,15,16,17,18,19,20,21]) (aG [2,3,4,5,6,7,8,9,10,11,12,13,14,15,16,17,18,19,20,21]) ?_)
   refine N1 21<|NO U U [] fun T47 b=>dk (k:=ci) (o:=1) (vs:=[(vS E (((fy x m sv0).aN).length) F)]) (es':=(List.zipWith ao.cells (r.an.ah.set ci (fy x m sv0)) (A.set ci (E,F)))) (C':=[_,_,_,_,(own C D 53 2 (List.zipWith ao.cells (r.an.ah.set ci (fy x m sv0)) (A.set ci (E,F)))),_,_,_,_,_,_,_,_,_,_,_,_,_,_,_,_,_]) 4 U U U Kp U U U U j U dc (by exact AN (c:=(fy x m sv0)) (a:=(E,F))) U<|aA (b _ _ (aG [2,3,5,6,7,8,9,10,11,12,13,14,15,16,17,18,19,20,21]) ?_)
   refine nW ?_
   refine aV (ja (aU U) (aG [2,3,5,6,7,8,9,10,11,12,13,14,15,16,17,18,19,20,21,1,4]) (v ⟨(E,F),(by simpa using d)⟩))
  refine kB (rem':=[8,11,18,21]) U kr fun T36 X=>c_ (xs:=[.tmp 74]) (cs:=(bJ.cells sv0)) U pz vr U U U U (by simp [Value.cells,bJ.aS]) U U fun B7=>aA (X _ _ (aG [2,3,5,6,7,8,9,10,11,12,13,14,15,16,17,18,19,20,21]) (aG [2,3,4,5,6,7,8,9,10,11,12,13,14,15,16,17,18,19,20,21]) ?_)
  refine N1 8<|kB (rem':=[11,18,21]) U kr fun T38 AS=>cR (es:=(List.map bJ.cells [])) (C':=[_,own (some ⟨A7,0,none⟩) 0 55 3 (List.map bJ.cells []),_,_,_,_,_,_,_,_,_,_,_,_,_,_,_,_,_,_,_,_]) 1 U sm U (by simp [maxLen]) U ?_
  refine ck (es2:=(List.map bJ.cells (x.aN.take m))) (m':=(x.aN.take m).length) 1 U U U yA U U sm (by rw [List.map_take]; exact wx (show iA _ (rd xa.1 x.aN.length 3 (x.aN.map bJ.cells)).holds from (fun w hw=>(cY 5 U fr) w hw _ (bM hx H (by simp [ao.gP])))) I) (e_ _) os (by first|(simp only [maxLen]; omega)|(simp [maxLen]; omega)) sm sm U fun K5 LA=>?_
  try dsimp only
  refine aA (AS _ _ (aG [2,3,5,6,7,8,9,10,11,12,13,14,15,16,17,18,19,20,21]) (aG [2,3,4,5,6,7,8,9,10,11,12,13,14,15,16,17,18,19,20,21]) ?_)
  refine N1 11<|kB (rem':=[18,21]) U kr fun T41 Y=>?_
  refine ck (es2:=(List.map bJ.cells (x.aN.take m++[sv0]))) (m':=(x.aN.take m++[sv0]).length) 1 U U U yA U U sm (aZ (es:=List.map bJ.cells [sv0]) 0 U U (by simp [bJ.aS]) U) (e_ _) (by simp only [List.length_take]; omega) (by simp only [maxLen,List.length_take]; omega) (by rw [List.map_append]) sm U fun Bm B9=>?_
  try dsimp only
  refine aA (Y _ _ (aG [2,3,5,6,7,8,9,10,11,12,13,14,15,16,17,18,19,20,21]) (aG [2,3,4,5,6,7,8,9,10,11,12,13,14,15,16,17,18,19,20,21]) ?_)
  refine N1 18<|kB (rem':=[21]) U kr fun T44 Z=>?_
  refine ck (es2:=(List.map bJ.cells ((fy x m sv0).aN))) (m':=((fy x m sv0).aN).length) 1 U U U yA U U sm (by rw [List.map_drop]; exact ES (show iA _ (rd xa.1 x.aN.length 3 (x.aN.map bJ.cells)).holds from (fun w hw=>(cY 5 U fr) w hw _ (bM hx H (by simp [ao.gP])))) I (by have:=(V.line.LL _ _ _ hx H).1; omega)) (e_ _) (by simp; omega) (by simp [maxLen]; omega) (by rw [← List.map_append]; rfl) sm U fun E F=>?_
  try dsimp only
  refine Ge 1 U fun d=>aA (Z _ _ (aG [2,3,5,6,7,8,9,10,11,12,13,14,15,16,17,18,19,20,21]) (aG [2,3,4,5,6,7,8,9,10,11,12,13,14,15,16,17,18,19,20,21]) ?_)
  refine N1 21<|NO U U [] fun T47 b=>dk (k:=ci) (o:=1) (vs:=[(vS E (((fy x m sv0).aN).length) F)]) (es':=(List.zipWith ao.cells (r.an.ah.set ci (fy x m sv0)) (A.set ci (E,F)))) (C':=[_,_,_,_,(own C D 53 2 (List.zipWith ao.cells (r.an.ah.set ci (fy x m sv0)) (A.set ci (E,F)))),_,_,_,_,_,_,_,_,_,_,_,_,_,_,_,_,_]) 4 U U U Kp U U U U j U dc (by exact AN (c:=(fy x m sv0)) (a:=(E,F))) U<|aA (b _ _ (aG [2,3,5,6,7,8,9,10,11,12,13,14,15,16,17,18,19,20,21]) ?_)
  refine nW ?_
  refine aV (ja (aU U) (aG [2,3,5,6,7,8,9,10,11,12,13,14,15,16,17,18,19,20,21,1,4]) (v ⟨(E,F),(by simpa using d)⟩))
 refine ax ?_
 have B:(0≤x.aN.length):=by exact Nat.zero_le _
 refine bL (ι:={z:Nat // (z≤x.aN.length)}) [3,5,7,8,9] [0,1,2,3,4,5,6,7,8,9,10,11,12,13,14,15,16,17,18,19] U U (fun z=>[(10,(vI (z.1:Int)))]) (fun z=>[]) (fun _=>rfl) (fun _=>rfl) (fun z=>x.aN.length-z.1) ⟨0,B⟩ (aU U) (aG [0,1,2,3,4,5,6,7,8,9,10,11,12,13,14,15,16,17,18,19]) ?_
 clear B
 rintro ⟨m,Or⟩ J33 Ck
 try dsimp only
 refine aj fun _ AC=>aj fun _ l=>dH cx 20 kr<|lQ 2 U<|dS (SX (mj U U G) U U)<|dS (Pu ((ci*2)+1) U G fw U)<|dS (gi ci 1 (vS xa.1 x.aN.length xa.2) U cj (ag (n:=r.an.ah.length) 2 U (eM T)) j U dc U)<|dP 3 [] mn ?_
 refine jl (t:=50) U (aP fun A8=>?_) (aQ fun A8=>?_)
 ·refine dP 12 [] mn ?_
  refine cQ<|RK l<|a_ U<|bD<|ab<|ab<|ay ?_
  refine aV (ja (aU U) (aG [0,1,2,3,4,5,6,7,8,9,10,11,12,13,14,15,16,17,18,19]) (A2 ⟨m,(by first|assumption|omega)⟩))
 refine lQ 1 U<|dS (SX (mj U U G) U U)<|dS (Pu ((ci*2)+1) U G fw U)<|dS (gi ci 1 (vS xa.1 x.aN.length xa.2) U cj (ag (n:=r.an.ah.length) 2 U (eM T)) j U dc U)<|dP 1 [] mn ?_
 obtain ⟨s,hs⟩:=aJ x.aN m I
 have PX:=bO bJ.cells hs
 refine dS (IA m U (show iA _ (rd xa.1 x.aN.length 3 (x.aN.map bJ.cells)).holds from (fun w hw=>(cY 3 U fr) w hw _ (bM hx H (by simp [ao.gP])))) pz dc I I)<|dS (mW (m*3) U (show iA _ (rd xa.1 x.aN.length 3 (x.aN.map bJ.cells)).holds from (fun w hw=>(cY 3 U fr) w hw _ (bM hx H (by simp [ao.gP])))) (Nat.mul_pos I dc) fw U)<|dS (gi m 0 (vI s.At) U cj (show iA _ (rd xa.1 x.aN.length 3 (x.aN.map bJ.cells)).holds from (fun w hw=>(cY 3 U fr) w hw _ (bM hx H (by simp [ao.gP])))) PX U dc U)<|dP 4 [] (mc 9 U mn) ?_
 refine cQ<|RK l<|bS U (aP fun La=>?_) (aQ fun La=>?_)
 ·refine bD<|ab<|ab<|ay ?_
  refine aV (ja (aU U) (aG [0,1,2,3,4,5,6,7,8,9,10,11,12,13,14,15,16,17,18,19]) (A2 ⟨m,(by first|assumption|omega)⟩))
 refine WK AC<|ax<|al<|rP 3 [] mn ?_
 refine aA<|aH ?_
 have J3:(vI (((m+1):Nat):Int))=(vI ((m:Int)+1)):=by exact cI I
 refine aV (Ck ⟨(m+1),(by first|omega|(simp only []; omega))⟩ _ _ _ U os (cU 5<|bk U J3<|dF.nil _) (aG [0,1,2,3,4,5,6,7,8,9,10,11,12,13,14,15,16,17,18,19]))
end
section
open Go.RowKit
def iZ {α:Type} (cells:α→List Value) (sz:Nat) (R:World→α→Prop) (w:World) (s:bj):Prop:= ∃ l:List α,s.n=l.length∧(rd s.a l.length sz (l.map cells)).holds w∧(∀ x∈l,R w x)∧l.length≤maxLen∧s.n≤s.c
theorem vt {w:World} {R:World→bJ→Prop}: ∀ {l:List dx},(∀ x∈l,iZ bJ.cells 3 R w x.aN)→ ∃ (ms:List ao) (az:List RA),l.map dx.cells=List.zipWith ao.cells ms az∧ms.length=l.length∧az.length=l.length∧(∀ X∈aW ao.gP ms az,X.holds w)∧
 (∀ (k:Nat) m (a:RA),ms[k]? =some m→az[k]? =some a→m.aN.length≤a.2∧m.aN.length≤9223372036854775807)∧ms.map (fun m=>m.dq)=l.map (fun x=>x.dq)∧ ∀ (k:Nat) m y,ms[k]? =some m→y∈m.aN→R w y
 |[],_=>⟨[],[],rfl,rfl,rfl,(fun X hX=>by cases hX),(fun k m a h=>by simp at h),rfl,(fun k m y h=>by simp at h)⟩
 |x::l,h=>by
  obtain ⟨ms,az,E,F,G,H,AA,J,K⟩:=vt (fun y hy=>h y (cV _ hy))
  obtain ⟨sy,A,B,C,D,L⟩:=h x sm
  have e4':sy.length≤9223372036854775807:=D
  refine ⟨⟨x.dq,sy⟩::ms,(x.aN.a,x.aN.c)::az,?_,by simp [F],by simp [G],fun X hX=>?_,fun k m a hm ha=>?_,by simp [J],fun k m y hm hy=>?_⟩
  ·obtain ⟨dr,⟨a,n,c⟩⟩:=x
   simp only at A
   subst A
   simp only [List.map_cons,List.zipWith_cons_cons,E]
   rfl
  ·rcases dM.1 hX with hX|hX
   ·simp only [ao.gP,bH] at hX
    subst hX; exact B
   ·exact H X hX
  ·cases k with
   |zero=>
    simp only [List.getElem?_cons_zero,Option.some.injEq] at hm ha
    subst hm ha
    exact ⟨by simp only; omega,e4'⟩
   |succ k=>exact AA k m a (by simpa using hm) (by simpa using ha)
  ·cases k with
   |zero=>
    simp only [List.getElem?_cons_zero,Option.some.injEq] at hm
    subst hm
    exact C y hy
   |succ k=>exact K k m y (by simpa using hm) hy
theorem Ib {w:World} {s:bZ} {R1:World→ak→Prop} {R2:World→dx→Prop} {R3:World→bE→Prop} {R4:World→bJ→Prop} (h1:iZ ak.cells 9 R1 w s.aL.lh) (hs: ∀ x,R1 w x→0≤x.jq∧x.jq≤255) (h2:iZ dx.cells 2 R2 w s.ah) (hc: ∀ x,R2 w x→iZ bJ.cells 3 R4 w x.aN) (h3:iZ bE.cells 4 R3 w s.ae):
 ∃ (l:aX) (az:List RA) (kA:OA) (kC:Nat) (cA:OA) (cC:Nat) (bA:OA) (bC:Nat),s=bZ.mk (bB.mk (bj.mk kA l.aL.length kC)) l.gk (bj.mk cA l.ah.length cC) (bj.mk bA l.ae.length bC) l.bU l.dN l.cw∧pZ l az∧
  ((rd kA l.aL.length 9 (l.aL.map ak.cells)).holds w∧(rd cA l.ah.length 2 (List.zipWith ao.cells l.ah az)).holds w∧(e9 (aW ao.gP l.ah az)).holds w∧(rd bA l.ae.length 4 (l.ae.map bE.cells)).holds w)∧l.gk=s.gk∧l.bU=s.bU∧l.dN=s.dN∧l.cw=s.cw:=by
 obtain ⟨⟨⟨ka,kn,kc⟩⟩,fa,⟨ca,cn,cc⟩,⟨ba,bn,bc⟩,fi,fk,mi⟩:=s
 obtain ⟨ts,E,M,N,O,T⟩:=h1
 obtain ⟨cs,B,C,H,AA,R⟩:=h2
 obtain ⟨bs,A,F,P,G,Q⟩:=h3
 simp only at E B A
 subst E B A
 obtain ⟨ms,az,J,D,S,K,L,_⟩:=vt (fun x hx=>hc x (H x hx))
 have t4':ts.length≤9223372036854775807:=O
 have c4':cs.length≤9223372036854775807:=AA
 have b4':bs.length≤9223372036854775807:=G
 refine ⟨⟨ts,fa,ms,bs,fi,fk,mi⟩,az,ka,kc,ca,cc,ba,bc,by simp only [D],⟨t4',fun x hx=>hs x (N x hx),by simp only; omega,by simp only; omega,b4',L⟩,⟨M,?_,K,F⟩,U,U,U,U⟩
 simp only at C ⊢
 rw [D,← J]; exact C
end
section
open Go.RowKit
theorem yk {w:World} {R:World→aK→Prop}: ∀ {l:List bq},(∀ x∈l,iZ aK.cells 2 R w x.cv.ai)→ ∃ (ms:List aw) (az:List RA),l.map bq.cells=List.zipWith aw.cells ms az∧ms.length=l.length∧az.length=l.length∧(∀ X∈aW aw.gP ms az,X.holds w)∧
 ∀ d∈ms,d.cv.ai.length≤9223372036854775807
 |[],_=>⟨[],[],rfl,rfl,rfl,(fun X hX=>by cases hX),fun d h=>by cases h⟩
 |x::l,h=>by
  obtain ⟨ms,az,D,E,F,G,H⟩:=yk (fun y hy=>h y (cV _ hy))
  obtain ⟨sg,A,B,AA,C,J⟩:=h x sm
  have e4':sg.length≤9223372036854775807:=C
  refine ⟨⟨x.Out,x.eV,x.Time,⟨x.cv.Start,x.cv.gp,sg⟩⟩::ms,(x.cv.ai.a,x.cv.ai.c)::az,?_,by simp [E],by simp [F],fun X hX=>?_,fun d hd=>?_⟩
  ·obtain ⟨o,f,t,⟨st,nw,⟨a,n,c⟩⟩⟩:=x
   simp only at A
   subst A
   simp only [List.map_cons,List.zipWith_cons_cons,D]
   rfl
  ·rcases dM.1 hX with hX|hX
   ·simp only [aw.gP,bH] at hX
    subst hX; exact B
   ·exact G X hX
  ·rcases bu.1 hd with rfl|hd
   ·exact e4'
   ·exact H d hd
theorem xJ {w:World} {R2:World→bq→Prop} {R:World→aK→Prop} (hc: ∀ x,R2 w x→iZ aK.cells 2 R w x.cv.ai): ∀ {l:List bj},(∀ x∈l,iZ bq.cells 7 R2 w x)→ ∃ (ms:List (List aw)) (ha:List cK),(l.map fun s=>[vS s.a s.n s.c])=List.zipWith cD ms ha∧ms.length=l.length∧ha.length=l.length∧(∀ X∈aW iy ms ha,X.holds w)∧
 ∀ (k:Nat) h (a:cK),ms[k]? =some h→ha[k]? =some a→h.length≤9223372036854775807∧a.2.length=h.length∧ ∀ d∈h,d.cv.ai.length≤9223372036854775807
 |[],_=>⟨[],[],rfl,rfl,rfl,(fun X hX=>by cases hX),(fun k h a q=>by simp at q)⟩
 |x::l,h=>by
  obtain ⟨ms,ha,J,K,L,M,N⟩:=xJ hc (fun y hy=>h y (cV _ hy))
  obtain ⟨ds,C,G,H,AA,P⟩:=h x sm
  obtain ⟨dm,az,D,B,O,E,F⟩:=yk fun y hy=>hc y (H y hy)
  have e4':ds.length≤9223372036854775807:=AA
  refine ⟨dm::ms,((x.a,x.c),az)::ha,?_,by simp [K],by simp [L],fun X hX=>?_,fun k m a hm A=>?_⟩
  ·obtain ⟨a,n,c⟩:=x
   simp only at C
   subst C
   simp only [List.map_cons,List.zipWith_cons_cons,J,cD,B]
  ·rcases dM.1 hX with hX|hX
   ·unfold iy at hX
    rcases bu.1 hX with rfl|hX
    ·simp only
     rw [B,← D]; exact G
    ·exact E X hX
   ·exact M X hX
  ·cases k with
   |zero=>
    simp only [List.getElem?_cons_zero,Option.some.injEq] at hm A
    subst hm A
    exact ⟨I,by simp only; omega,F⟩
   |succ k=>exact N k m a (by simpa using hm) (by simpa using A)
theorem Hk {w:World} {s:cm} {R1:World→ak→Prop} {R2:World→dx→Prop} {R3:World→bE→Prop} {R4:World→bJ→Prop} {R5:World→Int→Prop} {R6:World→bj→Prop} {R7:World→bq→Prop} {R8:World→aK→Prop}
 (h1:iZ ak.cells 9 R1 w s.an.aL.lh) (hs: ∀ x,R1 w x→0≤x.jq∧x.jq≤255) (h2:iZ dx.cells 2 R2 w s.an.ah) (hc: ∀ x,R2 w x→iZ bJ.cells 3 R4 w x.aN) (h3:iZ bE.cells 4 R3 w s.an.ae)
 (h4:iZ iC 1 R5 w s.aM) (h5:iZ iC 1 R5 w s.bK) (h6:iZ (fun s=>[vS s.a s.n s.c]) 1 R6 w s.aq) (h7: ∀ x,R6 w x→iZ bq.cells 7 R7 w x) (h8: ∀ x,R7 w x→iZ aK.cells 2 R8 w x.cv.ai):
 ∃ (r:bY) (az:List RA) (ha:List cK) (kA:OA) (kC:Nat) (cA:OA) (cC:Nat) (bA:OA) (bC:Nat) (slA:OA) (slC:Nat) (drA:OA) (drC:Nat) (heA:OA) (heC:Nat),
  s=cm.mk (bZ.mk (bB.mk (bj.mk kA r.an.aL.length kC)) r.an.gk (bj.mk cA r.an.ah.length cC) (bj.mk bA r.an.ae.length bC) r.an.bU r.an.dN r.an.cw) (bj.mk slA r.aM.length slC) (bj.mk drA r.bK.length drC) r.gX (bj.mk heA r.aq.length heC)∧oF r az ha∧
  ((rd kA r.an.aL.length 9 (r.an.aL.map ak.cells)).holds w∧(rd cA r.an.ah.length 2 (List.zipWith ao.cells r.an.ah az)).holds w∧(e9 (aW ao.gP r.an.ah az)).holds w∧(rd bA r.an.ae.length 4 (r.an.ae.map bE.cells)).holds w∧
   (rd slA r.aM.length 1 (r.aM.map iC)).holds w∧(rd drA r.bK.length 1 (r.bK.map iC)).holds w∧(rd heA r.aq.length 1 (List.zipWith cD r.aq ha)).holds w∧(e9 (aW iy r.aq ha)).holds w):=by
 obtain ⟨ln,⟨sa,sn,sc⟩,⟨da,dn,dc⟩,tu,⟨ea,en,ec⟩⟩:=s
 obtain ⟨l,az,kA,kC,cA,cC,bA,bC,e,A,hh,_⟩:=Ib (s:=ln) h1 hs h2 hc h3
 subst e
 obtain ⟨sl,F,N,T,O,AA⟩:=h4
 obtain ⟨dr,B,G,P,H,Q⟩:=h5
 obtain ⟨he,D,E,L,M,S⟩:=h6
 obtain ⟨ms,ha,AB,C,R,J,K⟩:=xJ h8 (fun x hx=>h7 x (L x hx))
 simp only at F B D
 subst F B D
 have s4':sl.length≤9223372036854775807:=O
 have d4':dr.length≤9223372036854775807:=H
 have q4':he.length≤9223372036854775807:=M
 refine ⟨⟨l,sl,dr,tu,ms⟩,az,ha,kA,kC,cA,cC,bA,bC,sa,sc,da,dc,ea,ec,by simp only [C],⟨A,s4',d4',by simp only; omega,by simp only; omega,K⟩,hh.1,hh.2.1,hh.2.2.1,hh.2.2.2,N,G,?_,J⟩
 simp only at E ⊢
 rw [C,← AB]; exact E
end
section
open Go.ChangeShapes Go.WideShapes Go.ChangeAt Go.RowKit
theorem VT:Tryz.prog.cellsOf 32=11:=by kernel_rfl
theorem Tr:Tryz.prog.cellsOf 28=7:=by kernel_rfl
theorem SJ:Tryz.prog.cellsOf 24=1:=by kernel_rfl
theorem UO:Tryz.prog.cellsOf 22=1:=by kernel_rfl
theorem PB:Tryz.prog.cellsOf 153=9:=by kernel_rfl
theorem Bn:Tryz.prog.cellsOf 3=1:=by kernel_rfl
def zo (w:World) (n:Int):Prop:=rh n
theorem Bq:tg Tryz.prog 3 Int iC zo:=QN qp
theorem E3:Tryz.prog.cellsOf 45=2:=by kernel_rfl
structure Ev (w:World) (s:aa):Prop where
 Lo:zo w s.Lo
 Hi:zo w s.Hi
theorem VL:fL Tryz.prog 45=some [(3,0),(3,1)]:=by kernel_rfl
theorem Hy:tg Tryz.prog 45 aa aa.cells Ev:=fun {H} enc w base sp A fuel cs x h=>by
 obtain ⟨hl,hp⟩:=jI VL h
 obtain ⟨M,O,F⟩:=hp 0 3 0 rfl
 obtain ⟨K,B,AA⟩:=Bq _ _ _ _ _ _ _ _ F
 obtain ⟨N,P,G⟩:=hp 1 3 1 rfl
 obtain ⟨L,C,J⟩:=Bq _ _ _ _ _ _ _ _ G
 refine ⟨⟨K,L⟩,?_,⟨AA,J⟩⟩
 have E:=ic (hl.trans E3) (by rw [Bn]) C
 have D:=dC B (m:=1) (by rw [Bn]) E
 exact D
theorem V9:Tryz.prog.cellsOf 5=1:=by kernel_rfl
def V2 (w:World) (n:Int):Prop:=0≤n∧n≤255
theorem V_:tg Tryz.prog 5 Int JE V2:=TR Ru
structure KV (w:World) (s:ak):Prop where
 Id:zo w s.Id
 kO:Ev w s.kO
 l7:Ev w s.l7
 eN:Ev w s.eN
 jq:V2 w s.jq
 Ao:zo w s.Ao
theorem Sp:fL Tryz.prog 153=some [(3,0),(45,1),(45,3),(45,5),(5,7),(3,8)]:=by kernel_rfl
theorem TE:tg Tryz.prog 153 ak ak.cells KV:=fun {H} enc w base sp A fuel cs x h=>by
 obtain ⟨hl,hp⟩:=jI Sp h
 obtain ⟨g,o,O⟩:=hp 0 3 0 rfl
 obtain ⟨a,B,AA⟩:=Bq _ _ _ _ _ _ _ _ O
 obtain ⟨i,p,P⟩:=hp 1 45 1 rfl
 obtain ⟨b,C,V⟩:=Hy _ _ _ _ _ _ _ _ P
 obtain ⟨j,q,Q⟩:=hp 2 45 3 rfl
 obtain ⟨c,D,W⟩:=Hy _ _ _ _ _ _ _ _ Q
 obtain ⟨k,r,R⟩:=hp 3 45 5 rfl
 obtain ⟨d,E,X⟩:=Hy _ _ _ _ _ _ _ _ R
 obtain ⟨l,s,S⟩:=hp 4 5 7 rfl
 obtain ⟨e,F,Y⟩:=V_ _ _ _ _ _ _ _ _ S
 obtain ⟨n,t,T⟩:=hp 5 3 8 rfl
 obtain ⟨f,G,Z⟩:=Bq _ _ _ _ _ _ _ _ T
 refine ⟨⟨a,b,c,d,e,f⟩,?_,⟨AA,V,W,X,Y,Z⟩⟩
 have N:=ic (hl.trans PB) (by rw [Bn]) G
 have M:=dC F (m:=8) (by rw [V9]) N
 have L:=dC E (m:=7) (by rw [E3]) M
 have K:=dC D (m:=5) (by rw [E3]) L
 have J:=dC C (m:=3) (by rw [E3]) K
 have AB:=dC B (m:=1) (by rw [Bn]) J
 exact AB
def S6 (w:World) (s:bj):Prop:= ∃ l:List ak,s.n=l.length∧(rd s.a l.length 9 (l.map ak.cells)).holds w∧(∀ x∈l,KV w x)∧l.length≤maxLen∧s.n≤s.c
theorem VV:tg Tryz.prog 22 bj (fun s=>[vS s.a s.n s.c]) S6:=mO QM PB TE
structure RS (w:World) (s:bB):Prop where
 lh:S6 w s.lh
theorem Vz:fL Tryz.prog 24=some [(22,0)]:=by kernel_rfl
theorem U_:tg Tryz.prog 24 bB bB.cells RS:=fun {H} enc w base sp A fuel cs x h=>by
 obtain ⟨hl,hp⟩:=jI Vz h
 obtain ⟨G,AA,D⟩:=hp 0 22 0 rfl
 obtain ⟨F,B,E⟩:=VV _ _ _ _ _ _ _ _ D
 refine ⟨⟨F⟩,?_,⟨E⟩⟩
 have C:=ic (hl.trans SJ) (by rw [UO]) B
 exact C
theorem UZ:Tryz.prog.cellsOf 25=1:=by kernel_rfl
theorem Uu:Tryz.prog.cellsOf 53=2:=by kernel_rfl
theorem VU:Tryz.prog.cellsOf 51=1:=by kernel_rfl
theorem Sk:Tryz.prog.cellsOf 55=3:=by kernel_rfl
structure Qb (w:World) (s:bJ):Prop where
 At:zo w s.At
 dL:Ev w s.dL
theorem RQ:fL Tryz.prog 55=some [(3,0),(45,1)]:=by kernel_rfl
theorem RZ:tg Tryz.prog 55 bJ bJ.cells Qb:=fun {H} enc w base sp A fuel cs x h=>by
 obtain ⟨hl,hp⟩:=jI RQ h
 obtain ⟨M,O,F⟩:=hp 0 3 0 rfl
 obtain ⟨K,B,AA⟩:=Bq _ _ _ _ _ _ _ _ F
 obtain ⟨N,P,G⟩:=hp 1 45 1 rfl
 obtain ⟨L,C,J⟩:=Hy _ _ _ _ _ _ _ _ G
 refine ⟨⟨K,L⟩,?_,⟨AA,J⟩⟩
 have E:=ic (hl.trans Sk) (by rw [E3]) C
 have D:=dC B (m:=1) (by rw [Bn]) E
 exact D
def Ud (w:World) (s:bj):Prop:= ∃ l:List bJ,s.n=l.length∧(rd s.a l.length 3 (l.map bJ.cells)).holds w∧(∀ x∈l,Qb w x)∧l.length≤maxLen∧s.n≤s.c
theorem VH:tg Tryz.prog 51 bj (fun s=>[vS s.a s.n s.c]) Ud:=mO Ut Sk RZ
structure QR (w:World) (s:dx):Prop where
 dq:zo w s.dq
 aN:Ud w s.aN
theorem Va:fL Tryz.prog 53=some [(3,0),(51,1)]:=by kernel_rfl
theorem VC:tg Tryz.prog 53 dx dx.cells QR:=fun {H} enc w base sp A fuel cs x h=>by
 obtain ⟨hl,hp⟩:=jI Va h
 obtain ⟨M,O,F⟩:=hp 0 3 0 rfl
 obtain ⟨K,B,AA⟩:=Bq _ _ _ _ _ _ _ _ F
 obtain ⟨N,P,G⟩:=hp 1 51 1 rfl
 obtain ⟨L,C,J⟩:=VH _ _ _ _ _ _ _ _ G
 refine ⟨⟨K,L⟩,?_,⟨AA,J⟩⟩
 have E:=ic (hl.trans Uu) (by rw [VU]) C
 have D:=dC B (m:=1) (by rw [Bn]) E
 exact D
def Uj (w:World) (s:bj):Prop:= ∃ l:List dx,s.n=l.length∧(rd s.a l.length 2 (l.map dx.cells)).holds w∧(∀ x∈l,QR w x)∧l.length≤maxLen∧s.n≤s.c
theorem Vi:tg Tryz.prog 25 bj (fun s=>[vS s.a s.n s.c]) Uj:=mO Tp Uu VC
theorem UY:Tryz.prog.cellsOf 26=1:=by kernel_rfl
theorem Pr:Tryz.prog.cellsOf 160=4:=by kernel_rfl
theorem PA:Tryz.prog.cellsOf 158=3:=by kernel_rfl
structure PQ (w:World) (s:cN):Prop where
 bf:zo w s.bf
 mS:Ev w s.mS
theorem TH:fL Tryz.prog 158=some [(3,0),(45,1)]:=by kernel_rfl
theorem Ty:tg Tryz.prog 158 cN cN.cells PQ:=fun {H} enc w base sp A fuel cs x h=>by
 obtain ⟨hl,hp⟩:=jI TH h
 obtain ⟨M,O,F⟩:=hp 0 3 0 rfl
 obtain ⟨K,B,AA⟩:=Bq _ _ _ _ _ _ _ _ F
 obtain ⟨N,P,G⟩:=hp 1 45 1 rfl
 obtain ⟨L,C,J⟩:=Hy _ _ _ _ _ _ _ _ G
 refine ⟨⟨K,L⟩,?_,⟨AA,J⟩⟩
 have E:=ic (hl.trans PA) (by rw [E3]) C
 have D:=dC B (m:=1) (by rw [Bn]) E
 exact D
structure Kj (w:World) (s:bE):Prop where
 mY:PQ w s.mY
 jk:zo w s.jk
theorem RC:fL Tryz.prog 160=some [(158,0),(3,3)]:=by kernel_rfl
theorem SY:tg Tryz.prog 160 bE bE.cells Kj:=fun {H} enc w base sp A fuel cs x h=>by
 obtain ⟨hl,hp⟩:=jI RC h
 obtain ⟨M,O,F⟩:=hp 0 158 0 rfl
 obtain ⟨K,B,AA⟩:=Ty _ _ _ _ _ _ _ _ F
 obtain ⟨N,P,G⟩:=hp 1 3 3 rfl
 obtain ⟨L,C,J⟩:=Bq _ _ _ _ _ _ _ _ G
 refine ⟨⟨K,L⟩,?_,⟨AA,J⟩⟩
 have E:=ic (hl.trans Pr) (by rw [Bn]) C
 have D:=dC B (m:=3) (by rw [PA]) E
 exact D
def Sf (w:World) (s:bj):Prop:= ∃ l:List bE,s.n=l.length∧(rd s.a l.length 4 (l.map bE.cells)).holds w∧(∀ x∈l,Kj w x)∧l.length≤maxLen∧s.n≤s.c
theorem Vj:tg Tryz.prog 26 bj (fun s=>[vS s.a s.n s.c]) Sf:=mO QU Pr SY
structure RP (w:World) (s:bZ):Prop where
 aL:RS w s.aL
 gk:zo w s.gk
 ah:Uj w s.ah
 ae:Sf w s.ae
 bU:zo w s.bU
 dN:zo w s.dN
 cw:zo w s.cw
theorem Vk:fL Tryz.prog 28=some [(24,0),(3,1),(25,2),(26,3),(3,4),(3,5),(3,6)]:=by kernel_rfl
theorem VM:tg Tryz.prog 28 bZ bZ.cells RP:=fun {H} enc w base sp A fuel cs x h=>by
 obtain ⟨hl,hp⟩:=jI Vk h
 obtain ⟨n,u,Q⟩:=hp 0 24 0 rfl
 obtain ⟨e,B,X⟩:=U_ _ _ _ _ _ _ _ _ Q
 obtain ⟨o,v,R⟩:=hp 1 3 1 rfl
 obtain ⟨f,C,Y⟩:=Bq _ _ _ _ _ _ _ _ R
 obtain ⟨p,y,S⟩:=hp 2 25 2 rfl
 obtain ⟨g,D,Z⟩:=Vi _ _ _ _ _ _ _ _ S
 obtain ⟨q,z,T⟩:=hp 3 26 3 rfl
 obtain ⟨i,E,a⟩:=Vj _ _ _ _ _ _ _ _ T
 obtain ⟨r,y4,AA⟩:=hp 4 3 4 rfl
 obtain ⟨j,F,b⟩:=Bq _ _ _ _ _ _ _ _ AA
 obtain ⟨s,y5,V⟩:=hp 5 3 5 rfl
 obtain ⟨k,G,c⟩:=Bq _ _ _ _ _ _ _ _ V
 obtain ⟨t,y6,W⟩:=hp 6 3 6 rfl
 obtain ⟨l,AB,d⟩:=Bq _ _ _ _ _ _ _ _ W
 refine ⟨⟨e,f,g,i,j,k,l⟩,?_,⟨X,Y,Z,a,b,c,d⟩⟩
 have P:=ic (hl.trans Tr) (by rw [Bn]) AB
 have O:=dC G (m:=6) (by rw [Bn]) P
 have N:=dC F (m:=5) (by rw [Bn]) O
 have M:=dC E (m:=4) (by rw [UY]) N
 have L:=dC D (m:=3) (by rw [UZ]) M
 have K:=dC C (m:=2) (by rw [Bn]) L
 have J:=dC B (m:=1) (by rw [SJ]) K
 exact J
theorem RY:Tryz.prog.cellsOf 29=1:=by kernel_rfl
def Q5 (w:World) (s:bj):Prop:= ∃ l:List Int,s.n=l.length∧(rd s.a l.length 1 (l.map iC)).holds w∧(∀ x∈l,zo w x)∧l.length≤maxLen∧s.n≤s.c
theorem Si:tg Tryz.prog 29 bj (fun s=>[vS s.a s.n s.c]) Q5:=mO TL Bn Bq
theorem U2:Tryz.prog.cellsOf 30=1:=by kernel_rfl
theorem UW:Tryz.prog.cellsOf 56=1:=by kernel_rfl
theorem R_:Tryz.prog.cellsOf 62=7:=by kernel_rfl
theorem VZ:Tryz.prog.cellsOf 4=1:=by kernel_rfl
def U1 (w:World) (n:Bool):Prop:=True
theorem V3:tg Tryz.prog 4 Bool (fun b=>[vB b]) U1:=Ok V1
theorem Uf:Tryz.prog.cellsOf 60=3:=by kernel_rfl
theorem Vw:Tryz.prog.cellsOf 58=1:=by kernel_rfl
theorem PO:Tryz.prog.cellsOf 107=2:=by kernel_rfl
structure Kx (w:World) (s:aK):Prop where
 f_:zo w s.f_
 Read:zo w s.Read
theorem RT:fL Tryz.prog 107=some [(3,0),(3,1)]:=by kernel_rfl
theorem SS:tg Tryz.prog 107 aK aK.cells Kx:=fun {H} enc w base sp A fuel cs x h=>by
 obtain ⟨hl,hp⟩:=jI RT h
 obtain ⟨M,O,F⟩:=hp 0 3 0 rfl
 obtain ⟨K,B,AA⟩:=Bq _ _ _ _ _ _ _ _ F
 obtain ⟨N,P,G⟩:=hp 1 3 1 rfl
 obtain ⟨L,C,J⟩:=Bq _ _ _ _ _ _ _ _ G
 refine ⟨⟨K,L⟩,?_,⟨AA,J⟩⟩
 have E:=ic (hl.trans PO) (by rw [Bn]) C
 have D:=dC B (m:=1) (by rw [Bn]) E
 exact D
def S_ (w:World) (s:bj):Prop:= ∃ l:List aK,s.n=l.length∧(rd s.a l.length 2 (l.map aK.cells)).holds w∧(∀ x∈l,Kx w x)∧l.length≤maxLen∧s.n≤s.c
theorem U5:tg Tryz.prog 58 bj (fun s=>[vS s.a s.n s.c]) S_:=mO Tk PO SS
structure Th (w:World) (s:d_):Prop where
 Start:zo w s.Start
 gp:zo w s.gp
 ai:S_ w s.ai
theorem VK:fL Tryz.prog 60=some [(3,0),(3,1),(58,2)]:=by kernel_rfl
theorem VP:tg Tryz.prog 60 d_ d_.cells Th:=fun {H} enc w base sp A fuel cs x h=>by
 obtain ⟨hl,hp⟩:=jI VK h
 obtain ⟨R,AA,AB⟩:=hp 0 3 0 rfl
 obtain ⟨O,B,L⟩:=Bq _ _ _ _ _ _ _ _ AB
 obtain ⟨S,V,J⟩:=hp 1 3 1 rfl
 obtain ⟨P,C,M⟩:=Bq _ _ _ _ _ _ _ _ J
 obtain ⟨T,W,K⟩:=hp 2 58 2 rfl
 obtain ⟨Q,D,N⟩:=U5 _ _ _ _ _ _ _ _ K
 refine ⟨⟨O,P,Q⟩,?_,⟨L,M,N⟩⟩
 have G:=ic (hl.trans Uf) (by rw [Vw]) D
 have F:=dC C (m:=2) (by rw [Bn]) G
 have E:=dC B (m:=1) (by rw [Bn]) F
 exact E
structure QS (w:World) (s:bq):Prop where
 Out:U1 w s.Out
 eV:U1 w s.eV
 Time:Ev w s.Time
 cv:Th w s.cv
theorem U3:fL Tryz.prog 62=some [(4,0),(4,1),(45,2),(60,4)]:=by kernel_rfl
theorem U8:tg Tryz.prog 62 bq bq.cells QS:=fun {H} enc w base sp A fuel cs x h=>by
 obtain ⟨hl,hp⟩:=jI U3 h
 obtain ⟨W,a,K⟩:=hp 0 4 0 rfl
 obtain ⟨S,B,O⟩:=V3 _ _ _ _ _ _ _ _ K
 obtain ⟨X,b,L⟩:=hp 1 4 1 rfl
 obtain ⟨T,C,P⟩:=V3 _ _ _ _ _ _ _ _ L
 obtain ⟨Y,c,M⟩:=hp 2 45 2 rfl
 obtain ⟨AA,D,Q⟩:=Hy _ _ _ _ _ _ _ _ M
 obtain ⟨Z,d,N⟩:=hp 3 60 4 rfl
 obtain ⟨V,E,R⟩:=VP _ _ _ _ _ _ _ _ N
 refine ⟨⟨S,T,AA,V⟩,?_,⟨O,P,Q,R⟩⟩
 have J:=ic (hl.trans R_) (by rw [Uf]) E
 have AB:=dC D (m:=4) (by rw [E3]) J
 have G:=dC C (m:=2) (by rw [VZ]) AB
 have F:=dC B (m:=1) (by rw [VZ]) G
 exact F
def QE (w:World) (s:bj):Prop:= ∃ l:List bq,s.n=l.length∧(rd s.a l.length 7 (l.map bq.cells)).holds w∧(∀ x∈l,QS w x)∧l.length≤maxLen∧s.n≤s.c
theorem VA:tg Tryz.prog 56 bj (fun s=>[vS s.a s.n s.c]) QE:=mO RH R_ U8
def RE (w:World) (s:bj):Prop:= ∃ l:List bj,s.n=l.length∧(rd s.a l.length 1 (l.map (fun s=>[vS s.a s.n s.c]))).holds w∧(∀ x∈l,QE w x)∧l.length≤maxLen∧s.n≤s.c
theorem Ve:tg Tryz.prog 30 bj (fun s=>[vS s.a s.n s.c]) RE:=mO So UW VA
structure VJ (w:World) (s:cm):Prop where
 an:RP w s.an
 aM:Q5 w s.aM
 bK:Q5 w s.bK
 gX:zo w s.gX
 aq:RE w s.aq
theorem Tf:fL Tryz.prog 32=some [(28,0),(29,7),(29,8),(3,9),(30,10)]:=by kernel_rfl
theorem VD:tg Tryz.prog 32 cm cm.cells VJ:=fun {H} enc w base sp A fuel cs x h=>by
 obtain ⟨hl,hp⟩:=jI Tf h
 obtain ⟨b,g,M⟩:=hp 0 28 0 rfl
 obtain ⟨W,B,R⟩:=VM _ _ _ _ _ _ _ _ M
 obtain ⟨c,i,N⟩:=hp 1 29 7 rfl
 obtain ⟨X,C,S⟩:=Si _ _ _ _ _ _ _ _ N
 obtain ⟨d,j,O⟩:=hp 2 29 8 rfl
 obtain ⟨Y,D,T⟩:=Si _ _ _ _ _ _ _ _ O
 obtain ⟨e,k,P⟩:=hp 3 3 9 rfl
 obtain ⟨Z,E,AA⟩:=Bq _ _ _ _ _ _ _ _ P
 obtain ⟨f,l,Q⟩:=hp 4 30 10 rfl
 obtain ⟨a,F,V⟩:=Ve _ _ _ _ _ _ _ _ Q
 refine ⟨⟨W,X,Y,Z,a⟩,?_,⟨R,S,T,AA,V⟩⟩
 have L:=ic (hl.trans VT) (by rw [U2]) F
 have K:=dC E (m:=10) (by rw [Bn]) L
 have J:=dC D (m:=9) (by rw [RY]) K
 have AB:=dC C (m:=8) (by rw [RY]) J
 have G:=dC B (m:=7) (by rw [Tr]) AB
 exact G
theorem Au:ownKnob Tryz.prog.godebug=none:=by kernel_rfl
theorem yM:laidOutB Tryz.prog=true:=by kernel_rfl
theorem v9 (os:Os) (started:os.Started) (H:Type) (enc:TypeId×Value→H):
 ReturnsInHanded {} Tryz.checked os 5 .any (fun w args=>(Rows.raceSyncSpec.pre enc Tryz.prog Tryz.f5 [] false w args∧laidMetH Tryz.prog [("kreisel/race.table",Rows.laid_kreisel_race_table)] w)∧sizedMet enc Tryz.prog Tryz.f5 (OpenSpec.ofChange Rows.raceSyncSpec) false w args) (Rows.raceSyncSpec.post enc Tryz.prog Tryz.f5 false true false false):=by
 refine returnsInHanded_of_change_and (C:=Tryz.checked) (X:=(fun w _=>laidMetH Tryz.prog [("kreisel/race.table",Rows.laid_kreisel_race_table)] w)) (fun _ _ _ hh h=>h.of_heap hh) Au started kr Tryz.func5
  (ChangeSpec.witness_shaped (enc:=enc) (C:=Tryz.checked) (os:=os) (X:=(fun w _=>laidMetH Tryz.prog [("kreisel/race.table",Rows.laid_kreisel_race_table)] w)) false (World.doorLaid Tryz.prog 400 os) #[.agg #[(vS none 0 0),(vI 0),(vS none 0 0),(vS none 0 0),(vI 0),(vI 0),(vI 0),(vS none 0 0),(vS none 0 0),(vI 0),(vS none 0 0)],Value.int .u8 0,.agg #[(vI 0),(vI 0),(vI 0)]] 8 rfl (World.shaped_of_RefB kr kr) kr kr kr (Ex os _)) ?_
 intro W base args ds gs before E hW _ _ hL _
 have D: ∀ (j:Nat) t v,Tryz.f5.params[j]? =some t→args[j]? =some v→Value.okWide Tryz.prog W .any base t v:=E
 have hW':=hW
 obtain ⟨p,q,K,hV,rfl,b,c⟩:=hW
 have hA:DataW.TrodAll enc Tryz.prog W 0 (fun _=>true) true Tryz.f5.params.toList args.toList ds p:=K
 have F:=hA
 rw [Tryz.params5] at hA D
 obtain ⟨Q,m,s,T,z,q0,L,rfl,rfl,Y,d⟩:=trodAll_cons hA
 obtain ⟨R,n,u,AA,p1,q1,rfl,rfl,rfl,Z,f⟩:=trodAll_cons d
 obtain ⟨S,o,y,V,p2,q2,rfl,rfl,rfl,a,g⟩:=trodAll_cons f
 obtain ⟨rfl,rfl,rfl⟩:=trodAll_nil g
 obtain rfl:args= #[Q,R,S]:=by cases args; simp_all
 obtain ⟨rfl,rfl⟩:=trodVars_none hV
 obtain ⟨s0,rfl,R0⟩:=xK Tf VD (D 0 32 Q rfl rfl) Y
 obtain ⟨i,rfl,R1⟩:=O7 (k:= .u8) Ru (D 1 5 R rfl rfl) Z
 obtain ⟨l,rfl,R2⟩:=xK RQ RZ (D 2 55 S rfl rfl) a
 simp only [List.append_nil] at hW' F
 have J:=yE hL
 obtain ⟨r,az,ha,kA,kC,cA,cC,bA,bC,O,P,drA,drC,M,N,rfl,G,B⟩:=Hk (R1:=KV) (R2:=QR) (R3:=Kj) (R4:=Qb) (R5:=zo) (R6:=QE) (R7:=QS) (R8:=Kx) R0.an.aL.lh (fun x hx=>hx.jq) R0.an.ah (fun x hx=>hx.aN) R0.an.ae R0.aM R0.bK R0.aq (fun x hx=>hx) (fun x hx=>hx.cv.ai)
 have AB:=(D8 r kA kC az cA cC bA bC O P drA drC ha M N i l G R1).run W (by intro A hA; simp only [bu,List.not_mem_nil,or_false] at hA; rcases hA with rfl|rfl|rfl|rfl|rfl|rfl|rfl|rfl|rfl; exact J; exact B.1; exact B.2.1; exact B.2.2.1; exact B.2.2.2.1; exact B.2.2.2.2.1; exact B.2.2.2.2.2.1; exact B.2.2.2.2.2.2.1; exact B.2.2.2.2.2.2.2)
 refine (AB).mono fun e W' ⟨he,hk⟩=>?_
 subst he
 exact ⟨_,U,LR yM hW' F U U kr hk.below kr V1⟩
theorem x5:Rows.RaceSyncSaid:=
 OpenClaim.holds_of_wide 5 Tryz.f5 rfl rfl rfl rfl rfl rfl rfl ⟨rfl,rfl,rfl,rfl,rfl⟩ rfl rfl rfl rfl rfl kr Tryz.func5 v_
  (of_decide_eq_true kr) (by unfold Func.isWrapper; first|(rw [if_pos (by decide+kernel)]; kernel_rfl)|(rw [if_neg (by decide+kernel)]; exact ⟨rfl,rfl⟩))
  (fun os started H enc _=>v9 os started H enc)
/-- the statement -/
theorem raceSync_said:Rows.RaceSyncCardSaid:=
 Claim7.holds_tied_plain_at .later [] [.funcsDeep] true (true,"128c7b92841058bed12da8afed87bbc4b0aaabe1f53fa26f3375c79494883c5c") true
  x5 (fun _ h=>by cases h) kr (fun _ h=>by cases h) raceSync_row_tie rfl ⟨rfl,rfl⟩ kr rfl
  (fun f fn hf B=>by
   obtain rfl:f=5:=Option.some.inj ((show Tryz.prog.funcNamed "kreisel/kreisellaw06.RaceSync"=some 5 by kernel_rfl).symm.trans hf) |>.symm
   obtain rfl:fn=Tryz.f5:=(Option.some.inj (Tryz.func5.symm.trans B)).symm
   exact ⟨kr,fun j t ht=>by
    rw [Tryz.params5] at ht
    have hm:t∈([32,5,55]:List Nat):=by simpa using Array.mem_of_getElem? ht
    have A:(([32,5,55]:List Nat).all fun u=> !Tryz.prog.wantsStandIn u)=true:=by kernel_rfl
    exact (show Tryz.prog.wantsStandIn t=false by simpa using cW.1 A t hm)⟩)
  kr
#print axioms raceSync_said
end
end Go.Proofs.YtlajhejcfcoddaaGreatDoor
