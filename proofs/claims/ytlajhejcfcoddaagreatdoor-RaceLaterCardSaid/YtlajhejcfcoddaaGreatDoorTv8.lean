/-
 The statement raceLater_said, part 8 of 8: B8, Rr2, B9, Clear, Ways, WayM, R1, Y1, Y2, Y3, Y5, Rr3, Rr4, Rr5, Rra, Ry1, Rw5, Rw6, LineOpen, RaceOpen, Later60.
 Conditions: none.
-/
import Derived.Test.YtlajhejcfcoddaaGreatDoorTv1
import Derived.Test.YtlajhejcfcoddaaGreatDoorTv2
import Derived.Test.YtlajhejcfcoddaaGreatDoorTv3
import Derived.Test.YtlajhejcfcoddaaGreatDoorTv4
import Derived.Test.YtlajhejcfcoddaaGreatDoorTv5
import Derived.Test.YtlajhejcfcoddaaGreatDoorTv6
import Derived.Test.YtlajhejcfcoddaaGreatDoorTv7
import Derived.Test.YtlajhejcfcoddaaGreatDoorCards
import Derived.Test.YtlajhejcfcoddaaGreatDoorTie
import Derived.SevenTiedAt
import Derived.LaidMore
import Derived.Stop.Joined
import Derived.Test.YtlajhejcfcoddaaGreatDoorRows
import Derived.Test.YtlajhejcfcoddaaGreatDoorProg
import Derived.KernelRfl
namespace Go.Proofs.YtlajhejcfcoddaaGreatDoor
set_option maxRecDepth 100000
set_option maxHeartbeats 4000000
set_option linter.unusedVariables false
section
open Go.RowKit
theorem MS (l:aY) (kA:OA) (kC:Nat) (az:List RA) (cA:OA) (cC:Nat) (bA:OA) (bC:Nat) (hraw:qj l az):
 eB Tryz.prog 20 [(vA (b_.cells (lO l kA kC cA cC bA bC)))] [(rd kA l.aL.length 9 (l.aL.map al.cells)),(rd cA l.ai.length 2 (List.zipWith ar.cells l.ai az)),(fp (aR ar.ia l.ai az)),(rd bA l.ag.length 4 (l.ag.map bE.cells))] (vB (decide (l8 l))):=by
 have e:=hraw.si
 have d:=hraw.rr
 have a:=hraw.nD
 have b:=hraw.su
 refine bG kr Tryz.func20 U U fun g Q hQ hN=>?_
 try dsimp only
 refine WS fun _ O=>fZ U fun f=>bk 1 U<|RK O<|aj fun _ P=>WS fun _ D=>bk 1 U<|rS (LP (bD.cells (bD.mk (bp.mk kA l.aL.length kC))) 0 U cp U U U)<|rS (CL (Ol l.aL kA kC) (bo [1]) U)<|rP 1 [] mn ?_
 refine dx (t:=7) U (aO fun Z=>?_) (aN fun Z=>?_)
 ·refine bk 11 U<|RK D<|aQ U<|WS fun _ R=>rP 1 [] mn ?_
  refine RK R<|av<|Q1 hQ U U U ?_
  exact cB (gF (.inl I)).symm
 refine rP 6 [] (mc 0 U mn) ?_
 refine dx (t:=13) U (aO fun C=>?_) (aN fun C=>?_)
 ·refine bk 5 U<|RK D<|aQ U<|WS fun _ S=>rP 1 [] mn ?_
  refine RK S<|av<|Q1 hQ U U U ?_
  exact cB (gF (.inl I)).symm
 refine rP 5 [] (mc 0 U mn) ?_
 refine RK D<|cP U (aO fun N=>?_) (aN fun N=>?_)
 ·refine WS fun _ T=>rP 1 [] mn ?_
  refine RK T<|av<|Q1 hQ U U U ?_
  exact cB (gF (.inl I)).symm
 refine WK P<|aj fun _ AA=>WS fun _ V=>rP 1 [] mn ?_
 refine RK V<|ax ?_
 have A:(0≤l.ai.length)∧(AS l 0):=by exact ⟨Nat.zero_le _,fun j c hj=>absurd hj (Nat.not_lt_zero _)⟩
 refine bJ (ι:={z:Nat // (z≤l.ai.length)∧(AS l z)}) [1] [0,1,2,3,4] U U (fun z=>[(3,(vI (z.1:Int)))]) (fun z=>[]) (fun _=>rfl) (fun _=>rfl) (fun z=>l.ai.length-z.1) ⟨0,A⟩ (aT U) (aI [0,1,2,3,4]) ?_
 clear A
 rintro ⟨i,⟨W,B⟩⟩ J10 F
 try dsimp only
 refine aj fun _ G=>WS fun _ H=>rP 5 [] (mc 0 U mn) ?_
 refine RK H<|bR U (aN fun C=>?_) (aO fun C=>?_)
 ·refine bB<|ab<|ab<|ay<|KK AA<|WS fun _ L=>rP 1 [] mn ?_
  refine RK L<|av<|Q1 hQ U U U ?_
  exact cB (cy (Jg I I B)).symm
 refine WK G<|aj fun _ AB=>ax<|WS fun _ J=>rP 3 [] (mc 0 U mn) ?_
 obtain ⟨x,hx⟩:=aK l.ai i I
 obtain ⟨xa,X⟩:=aK az i I
 have Y:(List.zipWith ar.cells l.ai az)[i]? =some (ar.cells x xa):=dB hx X
 refine rS (IA i U (aA 2 U) uC dc I I)<|rS (lZ ((i*2)+1) U (aA 2 U) (Nat.mul_pos I dc) fc U)<|rS (gl i 1 (vS xa.1 x.aX.length xa.2) U cp (aA 2 U) Y U dc U)<|rP 2 [] mn ?_
 refine RK J<|cP U (aO fun E=>?_) (aN fun E=>?_)
 ·refine WS fun _ K=>rP 1 [] mn ?_
  refine RK K<|av<|Q1 hQ U U U ?_
  exact cB (gF (Mo hx E)).symm
 refine ct<|aF<|KK AB<|ak<|rP 3 [] mn ?_
 refine aB ?_
 have M:(vI (((i+1):Nat):Int))=(vI ((i:Int)+1)):=by exact cI I
 refine aU (F ⟨(i+1),⟨I,mg B hx I⟩⟩ _ _ _ U os (dI.cons U<|bj U M<|dI.nil _) (aI [0,1,2,3,4]))
theorem yf (d m:Int) (hd:0≤d∧d≤1000) (hm:0≤m∧m≤90000000):
 eB Tryz.prog 132 [(vI d),(vI m)] [] (vI (pI (d*m) 1000000)):=by
 have J:=QO (a:=d) (b:=m) (A:=1000) (B:=90000000) hd.1 hd.2 hm.1 hm.2
 refine bG kr Tryz.func132 U U fun K Q hQ hN=>?_
 try dsimp only
 refine WS fun _ C=>bk 1 U<|RK C<|WS fun _ D=>bk 2 U<|rS (BI U (Gj ⟨I,I⟩))<|bk 1 U<|RK D<|aj fun _ E=>WS fun _ F=>bk 1 U<|rS (BI U (PB I I))<|rP 1 [] mn ?_
 refine RK F<|cP U (aO fun AA=>?_) (aN fun AA=>?_)
 ·refine WS fun _ G=>bk 1 U<|rS (BI U (uk I I I))<|rP 2 [] mn ?_
  refine RK G<|av<|Q1 hQ U U U ?_
  exact cI (by unfold pI; omega)
 refine WK E<|WS fun _ H=>bk 1 U<|rS (BI U (uk I I I))<|rP 1 [] mn ?_
 refine RK H<|av<|Q1 hQ U U U ?_
 exact cI (by unfold pI; omega)
theorem Mt (c:ar) (sA:OA) (sC:Nat) (hlen:c.aX.length≤1000000):
 eB Tryz.prog 92 [(vA (dD.cells (dD.mk c.dv (bp.mk sA c.aX.length sC))))] [(rd sA c.aX.length 3 (c.aX.map cr.cells))] (vB (decide (eJ c))):=by
 refine bG kr Tryz.func92 U U fun w0 Q hQ hN=>?_
 try dsimp only
 refine WS fun _ Di=>fZ U fun b2=>bk 1 U<|RK Di<|aj fun _ Do=>WS fun _ A8=>fP 2 [] (mc 0 U mn) U<|rS (CL (jc c.dv 0 1000) (aJ) U)<|rP 2 [] mn ?_
 refine dx (t:=14) U (bw fun Ci=>?_) (bu fun Ci=>?_)
 ·refine bk 6 U<|RK A8<|aQ U<|WS fun _ D2=>rP 1 [] mn ?_
  refine RK D2<|av<|Q1 hQ U U U ?_
  exact cB (cy fun h=>by have q1:=h.sM; have q2:=h.len; omega).symm
 refine fP 3 [] (mc 0 U mn) U<|rS (CL (jc (c.aX.length:Int) 1 5) (aJ) U)<|rP 2 [] mn ?_
 refine RK A8<|cP U (bw fun Ck=>?_) (bu fun Ck=>?_)
 ·refine WS fun _ D9=>rP 1 [] mn ?_
  refine RK D9<|av<|Q1 hQ U U U ?_
  exact cB (cy fun h=>by have q1:=h.sM; have q2:=h.len; omega).symm
 refine WK Do<|aj fun _ EQ=>WS fun _ Eq=>rP 1 [] mn ?_
 refine RK Eq<|ax ?_
 have A:(0≤c.aX.length)∧(∀ (j:Nat) y,j<0→c.aX[j]? =some y→fG c j y):=by exact ⟨Nat.zero_le _,fun j y hj=>absurd hj (Nat.not_lt_zero _)⟩
 refine bJ (ι:={z:Nat // (z≤c.aX.length)∧(∀ (j:Nat) y,j<z→c.aX[j]? =some y→fG c j y)}) [1] [0,1] U U (fun z=>[(3,(vI (z.1:Int)))]) (fun z=>[]) (fun _=>rfl) (fun _=>rfl) (fun z=>c.aX.length-z.1) ⟨0,A⟩ (aT U) (aI [0,1]) ?_
 clear A
 rintro ⟨i,⟨a,C⟩⟩ J9 f
 try dsimp only
 have GT:=KU a C
 refine aj fun _ g=>WS fun _ l=>rP 5 [] (mc 0 U mn) ?_
 refine RK l<|cP U (aO fun Cp=>?_) (aN fun Cp=>?_)
 ·refine WK g<|aj fun _ AA=>ax<|WS fun _ n=>rP 3 [] (mc 0 U mn) ?_
  obtain ⟨x,hx⟩:=aK c.aX i I
  have b:=bQ cr.cells hx
  refine rS (IA i U (aA 1 U) tW dc I I)<|rS (oE i 0 (cr.cells x) U cp (aA 1 U) b U dc U U)<|AL U yS fun GE=>gd U BE U<|RK n<|aj fun _ B=>dM cE 41 kr<|m_ 2 [] (mc 0 U mn) U<|dS (CL (jc x.At 0 86400000) (aJ) U)<|dP 2 [] mn ?_
  refine jq (t:=37) U (bw fun Cx=>?_) (bu fun Cx=>?_)
  ·refine mq 36 U<|cR<|RK B<|aQ U<|WS fun _ p=>rP 1 [] mn ?_
   refine RK p<|av<|Q1 hQ U U U ?_
   exact cB (cy fun h=>by have q:=h.sync i x hx; unfold fG at q; (rw [gO I] at q; omega)).symm
  refine dP 3 [] mn ?_
  refine jN (t:=40) U (aN fun C0=>?_) (aO fun C0=>?_)
  ·refine dP 19 [] (mc 0 U mn) ?_
   refine jq (t:=59) U (aO fun X=>?_) (aN fun X=>?_)
   ·refine mq 14 U<|cR<|RK B<|aQ U<|WS fun _ w=>rP 1 [] mn ?_
    refine RK w<|av<|Q1 hQ U U U ?_
    exact cB (cy fun h=>by have q:=h.sync i x hx; unfold fG at q; (rw [gO I] at q; omega)).symm
   refine dP 9 [] (mc 0 U mn) ?_
   refine jq (t:=68) U (aO fun Y=>?_) (aN fun Y=>?_)
   ·refine mq 5 U<|cR<|RK B<|aQ U<|WS fun _ AC=>rP 1 [] mn ?_
    refine RK AC<|av<|Q1 hQ U U U ?_
    exact cB (cy fun h=>by have q:=h.sync i x hx; unfold fG at q; (rw [gO I] at q; omega)).symm
   refine dP 5 [] (mc 0 U mn) ?_
   refine cR<|RK B<|bR U (aN fun Z=>?_) (aO fun Z=>?_)
   ·refine ct<|aF<|KK AA<|ak<|rP 3 [] mn ?_
    refine aB ?_
    have Bb:(vI (((i+1):Nat):Int))=(vI ((i:Int)+1)):=by exact cI I
    refine aU (f ⟨(i+1),⟨I,mg C hx (by unfold fG; (rw [gO I]; omega))⟩⟩ _ _ _ U os (dI.cons U<|bj U Bb<|dI.nil _) (aI [1,2]))
   refine WS fun _ AO=>rP 1 [] mn ?_
   refine RK AO<|av<|Q1 hQ U U U ?_
   exact cB (cy fun h=>by have q:=h.sync i x hx; unfold fG at q; (rw [gO I] at q; omega)).symm
  refine dP 6 [0,1] (mc 0 U (mc 1 U mn)) ?_
  obtain ⟨y,hy⟩:=aK c.aX (i-1) I
  have d:=bQ cr.cells hy
  refine dS (IA (i-1) U (aA 2 U) tW dc I I)<|dS (lZ ((i-1)*3) U (aA 2 U) (Nat.mul_pos I dc) fc U)<|dS (gl (i-1) 0 (vI y.At) U cp (aA 2 U) d U dc U)<|dP 4 [] mn ?_
  refine jq (t:=53) U (aO fun C1=>?_) (aN fun C1=>?_)
  ·refine mq 20 U<|cR<|RK B<|aQ U<|WS fun _ r=>rP 1 [] mn ?_
   refine RK r<|av<|Q1 hQ U U U ?_
   exact cB (cy fun h=>by have q:=h.sync i x hx; unfold fG at q; (rw [xn I hy] at q; omega)).symm
  refine dP 6 [] (mc 0 U mn) ?_
  refine jq (t:=59) U (aO fun X=>?_) (aN fun X=>?_)
  ·refine mq 14 U<|cR<|RK B<|aQ U<|WS fun _ s=>rP 1 [] mn ?_
   refine RK s<|av<|Q1 hQ U U U ?_
   exact cB (cy fun h=>by have q:=h.sync i x hx; unfold fG at q; (rw [gO I] at q; omega)).symm
  refine dP 9 [] (mc 0 U mn) ?_
  refine jq (t:=68) U (aO fun Y=>?_) (aN fun Y=>?_)
  ·refine mq 5 U<|cR<|RK B<|aQ U<|WS fun _ u=>rP 1 [] mn ?_
   refine RK u<|av<|Q1 hQ U U U ?_
   exact cB (cy fun h=>by have q:=h.sync i x hx; unfold fG at q; (rw [gO I] at q; omega)).symm
  refine dP 5 [] (mc 0 U mn) ?_
  refine cR<|RK B<|bR U (aN fun Z=>?_) (aO fun Z=>?_)
  ·refine ct<|aF<|KK AA<|ak<|rP 3 [] mn ?_
   refine aB ?_
   have BF:(vI (((i+1):Nat):Int))=(vI ((i:Int)+1)):=by exact cI I
   refine aU (f ⟨(i+1),⟨I,mg C hx (by unfold fG; (rw [xn I hy]; omega))⟩⟩ _ _ _ U os (dI.cons U<|bj U BF<|dI.nil _) (aI [1,2]))
  refine WS fun _ v=>rP 1 [] mn ?_
  refine RK v<|av<|Q1 hQ U U U ?_
  exact cB (cy fun h=>by have q:=h.sync i x hx; unfold fG at q; (rw [gO I] at q; omega)).symm
 refine bB<|ab<|ab<|ay<|KK EQ<|aj fun _ A0=>WS fun _ A1=>rP 1 [] mn ?_
 refine RK A1<|ax ?_
 have A:(0≤c.aX.length)∧(uq c 0):=by exact ⟨Nat.zero_le _,fun j y hj=>absurd hj (Nat.not_lt_zero _)⟩
 refine bJ (ι:={z:Nat // (z≤c.aX.length)∧(uq c z)}) [1] [0,1] U U (fun z=>[(5,(vI (z.1:Int)))]) (fun z=>[]) (fun _=>rfl) (fun _=>rfl) (fun z=>c.aX.length-z.1) ⟨0,A⟩ (aT U) (aI [0,1]) ?_
 clear A
 rintro ⟨m,⟨Bs,G⟩⟩ J28 e
 try dsimp only
 have F:=xA (P:=fG c) I C
 refine aj fun _ A2=>WS fun _ A3=>rP 5 [] (mc 0 U mn) ?_
 refine RK A3<|bR U (aN fun C2=>?_) (aO fun C2=>?_)
 ·refine bB<|ab<|ab<|ay<|KK A0<|WS fun _ A9=>rP 1 [] mn ?_
  refine RK A9<|av<|Q1 hQ U U U ?_
  exact cB (gF (Ml I I (xA I C) I G)).symm
 refine WK A2<|aj fun _ A4=>ax<|WS fun _ A5=>rP 1 [] mn ?_
 refine RK A5<|ax ?_
 have A:(0≤m)∧(∀ y,c.aX[m]? =some y→Gs c y 0):=by exact ⟨Nat.zero_le _,fun y _ j o hj=>absurd hj (Nat.not_lt_zero _)⟩
 refine bJ (ι:={z:Nat // (z≤m)∧(∀ y,c.aX[m]? =some y→Gs c y z)}) [1,5] [0,1] U U (fun z=>[(6,(vI (z.1:Int)))]) (fun z=>[]) (fun _=>rfl) (fun _=>rfl) (fun z=>m-z.1) ⟨0,A⟩ (aT U) (aI [0,1]) ?_
 clear A
 rintro ⟨k,⟨B3,D⟩⟩ J33 T
 try dsimp only
 refine aj fun _ A6=>WS fun _ A7=>rP 3 [] mn ?_
 refine RK A7<|bR U (aN fun C3=>?_) (aO fun C3=>?_)
 ·refine bB<|ab<|ab<|ay<|aF<|KK A4<|ak<|rP 3 [] mn ?_
  refine aB ?_
  have Bg:(vI (((m+1):Nat):Int))=(vI ((m:Int)+1)):=by exact cI I
  refine aU (e ⟨(m+1),⟨I,Ei G D I⟩⟩ _ _ _ U os (dI.cons U<|bj U Bg<|dI.nil _) (aI [0,1]))
 refine WK A6<|aj fun _ V=>ax<|aj fun _ W=>p9 cE [0,1,2,3,4,5,6,7,8,9] [10,11,12,13] [false,false,false,false,false,false,false,false,false,false] [] [(cm b2 53 (dD.cells (dD.mk c.dv (bp.mk sA c.aX.length sC)))),(rd sA c.aX.length 3 (c.aX.map cr.cells)).ro] [] kr (aI [0,1]) (aI [])<|eS U (FA 1 U fc U)<|eS U (L1 (vS sA c.aX.length sC) 0 U cp U U)<|eS U (MV U) ?_
 obtain ⟨x,hx⟩:=aK c.aX k I
 have b:=bQ cr.cells hx
 refine eS U (IA k U (aA 1 U) tW dc I I)<|eS U (oE k 0 (cr.cells x) U cp (aA 1 U) b U dc U U)<|eS U (FA 1 U fc U)<|eS U (L1 (vS sA c.aX.length sC) 0 U cp U U)<|eS U (MV U) ?_
 obtain ⟨y,hy⟩:=aK c.aX m I
 have d:=bQ cr.cells hy
 refine eS U (IA m U (aA 1 U) tW dc I I)<|eS U (oE m 0 (cr.cells y) U cp (aA 1 U) d U dc U U)<|eU U<|je [10,11] kr (eQ ?_<|eQ ?_<|kX)
 rotate_left 1
 ·refine NO U U [10,12,13] fun T38 M=>AL U yS fun B7=>RD M 1 U<|N1 10<|NO U U [12,13] fun T40 N=>AL U yS fun B9=>RD N 2 U<|N1 12<|NO U U [13] fun T42 O=>gd U BE U<|RD O 2 U<|N1 13<|NO U U [] fun T43 R=>te U BE U<|RD R 2 U<|qv<|KK W<|WS fun _ J=>rP 6 [0,1,2] (mc 2 U (mc 1 U (mc 0 U mn))) ?_
  obtain ⟨FS,Fd,Fn⟩:=uK (fun j z _ hz=>F j z hz) hy (F _ _ hy) (show k<m by omega) hx
  refine bk 1 U<|rS (CL (yf c.dv (y.At-x.At) I I) (aJ) U)<|bk 1 U<|RK J<|WS fun _ E=>rP 10 [0,1] (mc 0 U (mc 1 U mn)) ?_
  refine dx (t:=113) U (aO fun H=>?_) (aN fun H=>?_)
  ·refine bk 10 U<|RK E<|aQ U<|WS fun _ K=>rP 1 [] mn ?_
   refine RK K<|av<|Q1 hQ U U U ?_
   exact cB (cy fun h=>by have q:=h.pair m k y x hy I hx; unfold n_ at q; omega).symm
  refine rP 10 [0,1] (mc 1 U (mc 0 U mn)) ?_
  refine RK E<|bR U (aN fun AB=>?_) (aO fun AB=>?_)
  ·refine ct<|aF<|KK V<|ak<|rP 3 [] mn ?_
   refine aB ?_
   have S:(vI (((k+1):Nat):Int))=(vI ((k:Int)+1)):=by exact cI I
   refine aU (T ⟨(k+1),⟨I,fun z hz=>by rw [hy] at hz; cases hz; exact mg (D _ hy) hx (by unfold n_; omega)⟩⟩ _ _ _ rfl os (dI.cons rfl<|dI.cons rfl<|bj rfl S<|dI.nil _) (aI [2,3]))
  refine WS fun _ L=>rP 1 [] mn ?_
  refine RK L<|av<|Q1 hQ U U U ?_
  exact cB (cy fun h=>by have q:=h.pair m k y x hy I hx; unfold n_ at q; omega).symm
 refine NO U U [11,12,13] fun T38 M=>AL U yS fun B7=>RD M 1 U<|N1 11<|NO U U [12,13] fun T40 N=>AL U yS fun B9=>RD N 2 U<|N1 12<|NO U U [13] fun T42 O=>te U BE U<|RD O 2 U<|N1 13<|NO U U [] fun T43 R=>gd U BE U<|RD R 2 U<|qv<|KK W<|WS fun _ J=>rP 6 [0,1,2] (mc 2 U (mc 0 U (mc 1 U mn))) ?_
 obtain ⟨FS,Fd,Fn⟩:=uK (fun j z _ hz=>F j z hz) hy (F _ _ hy) (show k<m by omega) hx
 refine bk 1 U<|rS (CL (yf c.dv (y.At-x.At) I I) (aJ) U)<|bk 1 U<|RK J<|WS fun _ E=>rP 10 [0,1] (mc 1 U (mc 0 U mn)) ?_
 refine dx (t:=113) U (aO fun H=>?_) (aN fun H=>?_)
 ·refine bk 10 U<|RK E<|aQ U<|WS fun _ K=>rP 1 [] mn ?_
  refine RK K<|av<|Q1 hQ U U U ?_
  exact cB (cy fun h=>by have q:=h.pair m k y x hy I hx; unfold n_ at q; omega).symm
 refine rP 10 [0,1] (mc 0 U (mc 1 U mn)) ?_
 refine RK E<|bR U (aN fun AB=>?_) (aO fun AB=>?_)
 ·refine ct<|aF<|KK V<|ak<|rP 3 [] mn ?_
  refine aB ?_
  have S:(vI (((k+1):Nat):Int))=(vI ((k:Int)+1)):=by exact cI I
  refine aU (T ⟨(k+1),⟨I,fun z hz=>by rw [hy] at hz; cases hz; exact mg (D _ hy) hx (by unfold n_; omega)⟩⟩ _ _ _ rfl os (dI.cons rfl<|dI.cons rfl<|bj rfl S<|dI.nil _) (aI [2,3]))
 refine WS fun _ L=>rP 1 [] mn ?_
 refine RK L<|av<|Q1 hQ U U U ?_
 exact cB (cy fun h=>by have q:=h.pair m k y x hy I hx; unfold n_ at q; omega).symm
theorem Dj (c:ar) (sA:OA) (sC:Nat) (at_:Int) (hc:eJ c) (ha:0≤at_∧at_≤90000000):
 eB Tryz.prog 197 [(vA (dD.cells (dD.mk c.dv (bp.mk sA c.aX.length sC)))),(vI at_)] [(rd sA c.aX.length 3 (c.aX.map cr.cells))] (vA (aa.cells (gQ c at_))):=by
 have e:=hc.len
 have W:=hc.sM
 refine bG kr Tryz.func197 U U fun j Q hQ hN=>?_
 try dsimp only
 refine WS fun _ R=>fZ U fun g=>AL U dA fun h=>RK R<|WS fun _ S=>AL U dA fun d=>RK S<|aj fun _ T=>WS fun _ AA=>rP 1 [] mn ?_
 refine RK AA<|ax ?_
 have A:(0≤c.aX.length):=by exact Nat.zero_le _
 refine bJ (ι:={z:Nat // (z≤c.aX.length)}) [1,2,4,5] [1,2,3] U U (fun z=>[(6,(vI (z.1:Int)))]) (fun z=>[(cm d 45 (aa.cells (k7 c at_ z.1)))]) (fun _=>rfl) (fun _=>rfl) (fun z=>c.aX.length-z.1) ⟨0,A⟩ (aT U) (aI [1,2,3,0]) ?_
 clear A
 rintro ⟨i,X⟩ J8 D
 try dsimp only
 refine aj fun _ V=>WS fun _ E=>rP 5 [] (mc 1 U mn) ?_
 refine RK E<|bR U (aN fun O=>?_) (aO fun O=>?_)
 ·refine bB<|ab<|ab<|ay<|KK T<|WS fun _ J=>rP 1 [] (mc 3 U mn) ?_
  refine gd U cz U<|RK J<|av<|I3 hQ [0] (mc 0 U mn) U ?_
  rw [ED hc (show c.aX.length≤i by omega)]
 refine WK V<|aj fun _ B=>ax<|WS fun _ F=>rP 3 [] (mc 1 U mn) ?_
 obtain ⟨x,hx⟩:=aK c.aX i I
 have Z:=bQ cr.cells hx
 refine rS (IA i U (aA 2 U) tW dc I I)<|rS (oE i 0 (cr.cells x) U cp (aA 2 U) Z U dc U U)<|AL U yS fun a=>gd U BE U<|RK F<|WS fun _ G=>rP 2 [] (mc 2 U mn) ?_
 have Y:=hc.sV hx
 have f:0≤pI (c.dv*max (at_-x.At) (x.At-at_)) 1000000∧pI (c.dv*max (at_-x.At) (x.At-at_)) 1000000≤90001:=vl W ha Y.1
 refine fP 8 [] (mc 0 U mn) U<|rS (MX U)<|rS (CL (yf c.dv (max (at_-x.At) (x.At-at_)) I I) (aJ) U)<|bk 1 U<|RK G<|WS fun _ H=>fP 10 [] (mc 0 U mn) U<|rS (SX (bg (xs:=[(0,.tmp 38),(1,.tmp 43)]) (cs:=(aa.cells (aa.mk (x.er.Lo-(pI (c.dv*(max (at_-x.At) (x.At-at_))) 1000000)) (x.er.Hi+(pI (c.dv*(max (at_-x.At) (x.At-at_))) 1000000))))) U U (bh gJ U)) U U)<|AL U dA fun b=>gd U cz U<|RK H<|aj fun _ C=>WS fun _ AB=>rP 2 [] mn ?_
 refine RK AB<|bR U (aN fun P=>?_) (aO fun P=>?_)
 ·refine WK C<|ak<|fP 4 [0,1] (mc 5 U (mc 0 U mn)) U<|rS (MX U)<|rP 4 [0,1] (mc 5 U (mc 0 U mn)) ?_
  refine rS (MN U)<|rS (SX (bg (xs:=[(0,.tmp 52),(1,.tmp 57)]) (cs:=(aa.cells (aa.mk (max ((k7 c at_ i).Lo) (x.er.Lo-(pI (c.dv*(max (at_-x.At) (x.At-at_))) 1000000))) (min ((k7 c at_ i).Hi) (x.er.Hi+(pI (c.dv*(max (at_-x.At) (x.At-at_))) 1000000)))))) U U (bh gJ U)) U U)<|I4 U cz U<|aB<|aF<|KK B ?_
  have M:(aa.cells (aa.mk (max ((k7 c at_ i).Lo) (x.er.Lo-(pI (c.dv*(max (at_-x.At) (x.At-at_))) 1000000))) (min ((k7 c at_ i).Hi) (x.er.Hi+(pI (c.dv*(max (at_-x.At) (x.At-at_))) 1000000)))))=(aa.cells (k7 c at_ (i+1))):=by exact congrArg aa.cells (Cn hx I).symm
  rw [M]
  refine ak<|rP 3 [] mn ?_
  refine aB ?_
  have N:(vI (((i+1):Nat):Int))=(vI ((i:Int)+1)):=by exact cI I
  refine aU (D ⟨(i+1),(by first|omega|(simp only []; omega))⟩ _ _ _ U os (cQ 4<|bj U N<|dI.nil _) (aI [2,3,4,5]))
 refine ak<|fP 1 [] (mc 0 U mn) U<|I4 U cz U<|RK C<|ak<|fP 4 [0,1] (mc 5 U (mc 0 U mn)) U<|rS (MX U)<|rP 4 [0,1] (mc 5 U (mc 0 U mn)) ?_
 refine rS (MN U)<|rS (SX (bg (xs:=[(0,.tmp 52),(1,.tmp 57)]) (cs:=(aa.cells (aa.mk (max (x.er.Lo-(pI (c.dv*(max (at_-x.At) (x.At-at_))) 1000000)) (x.er.Lo-(pI (c.dv*(max (at_-x.At) (x.At-at_))) 1000000))) (min (x.er.Hi+(pI (c.dv*(max (at_-x.At) (x.At-at_))) 1000000)) (x.er.Hi+(pI (c.dv*(max (at_-x.At) (x.At-at_))) 1000000)))))) U U (bh gJ U)) U U)<|I4 U cz U<|aB<|aF<|KK B ?_
 have K:(aa.cells (aa.mk (max (x.er.Lo-(pI (c.dv*(max (at_-x.At) (x.At-at_))) 1000000)) (x.er.Lo-(pI (c.dv*(max (at_-x.At) (x.At-at_))) 1000000))) (min (x.er.Hi+(pI (c.dv*(max (at_-x.At) (x.At-at_))) 1000000)) (x.er.Hi+(pI (c.dv*(max (at_-x.At) (x.At-at_))) 1000000)))))=(aa.cells (k7 c at_ (i+1))):=by exact congrArg aa.cells (AU hc ha hx I).symm
 rw [K]
 refine ak<|rP 3 [] mn ?_
 refine aB ?_
 have L:(vI (((i+1):Nat):Int))=(vI ((i:Int)+1)):=by exact cI I
 refine aU (D ⟨(i+1),(by first|omega|(simp only []; omega))⟩ _ _ _ U os (cQ 4<|bj U L<|dI.nil _) (aI [2,3,4,5]))
theorem Mq (l:aY) (kA:OA) (kC:Nat) (az:List RA) (cA:OA) (cC:Nat) (bA:OA) (bC:Nat) (n:Int) (hin:eA l az) (htr:de l.aL=true) (hbk: ∀ b∈l.ag,kl l b) (hn:0≤n∧n<(l.ag.length:Int)):
 eB Tryz.prog 94 [(vA (b_.cells (lO l kA kC cA cC bA bC))),(vI n)] [(rd kA l.aL.length 9 (l.aL.map al.cells)),(rd cA l.ai.length 2 (List.zipWith ar.cells l.ai az)),(fp (aR ar.ia l.ai az)),(rd bA l.ag.length 4 (l.ag.map bE.cells))] (vI (mB l n.toNat)):=by
 have AA:=hin.si
 have S:=hin.rr
 have P:=hin.nD
 have R:=hin.su
 have T:=hin.side
 refine bG kr Tryz.func94 U U fun X Q hQ hN=>?_
 try dsimp only
 refine WS fun _ G=>fZ U fun V=>bk 1 U<|RK G<|aj fun _ H=>WS fun _ AB=>rP 2 [] mn ?_
 refine RK AB<|cP U (aO fun F=>?_) (aN fun F=>?_)
 ·refine aj fun _ J=>dK cE [11,12] [] [] [0,1,2,3,4] [] U U U U U<|eS U (FA 0 U fc U)<|eS U (LP (bD.cells (bD.mk (bp.mk kA l.aL.length kC))) 0 U cp U U U)<|eS U (FA 3 U fc U)<|eS U (L1 (vS bA l.ag.length bC) 0 U cp U U) ?_
  obtain ⟨y,hy⟩:=aK l.ag 0 I
  have A:=bQ bE.cells hy
  refine eS U (IA 0 U (aA 4 U) vx dc U I)<|eS U (lZ (0*4) U (aA 4 U) (Nat.mul_pos I dc) fc U)<|eS U (oE 0 0 (cN.cells y.m0) U cp (aA 4 U) A U dc U U)<|eS U (CL (Sf l.aL kA kC y.m0 asm asm) (bo [1]) U)<|eS U (MV U)<|eS U (EX U)<|eS U (EX U)<|eS U (AG U)<|eU U<|cf U fun T6 L=>AL U dA fun W=>aB (L _ _ (aI [1,2,3,4,5]) ?_)
  refine cf U fun T8 M=>gd U cz U<|aB (M _ _ (aI [1,2,3,4,5]) ?_)
  refine fF U<|KK J<|WS fun _ K=>rP 3 [] (mc 0 U mn) ?_
  refine RK K<|av<|Q1 hQ U U U ?_
  (refine congrArg (Value.int .i64) ?_; rw [show n.toNat=0 by omega]; rw [z7 hy,(xB htr (hbk _ (List.mem_of_getElem? hy)).1).2])
 refine WK H<|aj fun _ B=>dK cE [19,20] [] [] [0,1,2,3,4] [] U U U U U<|eS U (FA 0 U fc U)<|eS U (LP (bD.cells (bD.mk (bp.mk kA l.aL.length kC))) 0 U cp U U U)<|eS U (FA 3 U fc U)<|eS U (L1 (vS bA l.ag.length bC) 0 U cp U U)<|eS U (MV U)<|eS U (BI U (sN ⟨I,I⟩)) ?_
 obtain ⟨y,hy⟩:=aK l.ag (((n-1)).toNat) I
 have A:=bQ bE.cells hy
 refine eS U (IA (((n-1)).toNat) U (aA 4 U) vx dc I I)<|eS U (lZ ((((n-1)).toNat)*4) U (aA 4 U) (Nat.mul_pos I dc) fc U)<|eS U (oE (((n-1)).toNat) 0 (cN.cells y.m0) U cp (aA 4 U) A U dc U U)<|eS U (FA 3 U fc U)<|eS U (L1 (vS bA l.ag.length bC) 0 U cp U U)<|eS U (MV U) ?_
 obtain ⟨x,hx⟩:=aK l.ag ((n).toNat) I
 have N:=bQ bE.cells hx
 refine eS U (IA ((n).toNat) U (aA 4 U) vx dc I I)<|eS U (lZ (((n).toNat)*4) U (aA 4 U) (Nat.mul_pos I dc) fc U)<|eS U (oE ((n).toNat) 0 (cN.cells x.m0) U cp (aA 4 U) N U dc U U)<|eS U (CL (Ld l.aL kA kC y.m0 x.m0 asm asm) (bo [1]) U)<|eS U (MV U)<|eS U (EX U)<|eS U (EX U)<|eS U (AG U)<|eU U<|cf U fun T11 D=>AL U dA fun O=>aB (D _ _ (aI [1,2,3,4,5]) ?_)
 refine cf U fun T13 E=>gd U cz U<|aB (E _ _ (aI [1,2,3,4,5]) ?_)
 refine fF U<|KK B<|WS fun _ C=>rP 3 [] (mc 0 U mn) ?_
 refine RK C<|av<|Q1 hQ U U U ?_
 (refine congrArg (Value.int .i64) ?_; rw [Dx I hx (by rw [show n.toNat-1=(n-1).toNat by omega]; exact hy),(lI htr ⟨(hbk _ (List.mem_of_getElem? hy)).1,(hbk _ (List.mem_of_getElem? hx)).1⟩).2])
theorem JH (l:aY) (kA:OA) (kC:Nat) (az:List RA) (cA:OA) (cC:Nat) (bA:OA) (bC:Nat) (n:Int) (hin:eA l az) (htr:de l.aL=true) (hok:lJ l) (hn:0≤n∧n<(l.ag.length:Int)):
 eB Tryz.prog 195 [(vA (b_.cells (lO l kA kC cA cC bA bC))),(vI n)] [(rd kA l.aL.length 9 (l.aL.map al.cells)),(rd cA l.ai.length 2 (List.zipWith ar.cells l.ai az)),(fp (aR ar.ia l.ai az)),(rd bA l.ag.length 4 (l.ag.map bE.cells))] (vI (ej l n.toNat)):=by
 have G:=hin.si
 have F:=hin.rr
 have D:=hin.nD
 have E:=hin.su
 have C:=hok.head
 unfold gH at C
 have H:=GB htr hok.sk n.toNat
 have AA:=hok.RM n.toNat I
 refine bG kr Tryz.func195 U U fun K Q hQ hN=>?_
 try dsimp only
 refine WS fun _ A=>fZ U fun J=>bk 1 U<|RK A<|aj fun _ B=>dM cE 12 kr<|m_ 2 [] (mc 0 U mn) U<|dS (CL (Mq l kA kC az cA cC bA bC n hin htr (by exact hok.sk) hn) (bo [1,2,3,4]) U)<|dS (BI U (Gj ⟨I,I⟩))<|m_ 6 [] (mc 0 U mn) U<|dS (BI U (uk I I I))<|dP 1 [] mn ?_
 refine cR<|RK B<|av<|Q1 hQ U U U ?_
 exact cI (by unfold ej pI; rw [Int.mul_comm])
theorem OD (l:aY) (kA:OA) (kC:Nat) (az:List RA) (cA:OA) (cC:Nat) (bA:OA) (bC:Nat) (hin:eA l az) (htr:de l.aL=true):
 eB Tryz.prog 57 [(vA (b_.cells (lO l kA kC cA cC bA bC)))] [(rd kA l.aL.length 9 (l.aL.map al.cells)),(rd cA l.ai.length 2 (List.zipWith ar.cells l.ai az)),(fp (aR ar.ia l.ai az)),(rd bA l.ag.length 4 (l.ag.map bE.cells))] (vB (decide (lJ l))):=by
 have D9:=hin.si
 have C3:=hin.rr
 have C0:=hin.nD
 have C2:=hin.su
 have Di:=hin.side
 have Do:=kg htr
 have Cx:=lh htr
 refine bG kr Tryz.func57 U U fun w0 Q hQ hN=>?_
 try dsimp only
 refine WS fun _ BF=>fZ U fun b2=>bk 1 U<|RK BF<|aj fun _ Bb=>WS fun _ D=>fP 2 [] (mc 0 U mn) U<|rS (CL (jc l.gK 1 5000) (aJ) U)<|rP 2 [] mn ?_
 refine dx (t:=10) U (bw fun A0=>?_) (bu fun A0=>?_)
 ·refine bk 35 U<|RK D<|aQ U<|WS fun _ Bg=>rP 1 [] mn ?_
  refine RK Bg<|av<|Q1 hQ U U U ?_
  exact cB (cy fun h=>by have q:=h.head; unfold gH at q; omega).symm
 refine fP 3 [] (mc 0 U mn) U<|rS (CL (jc (l.ai.length:Int) 1 4) (aJ) U)<|rP 3 [] mn ?_
 refine dx (t:=17) U (bw fun A1=>?_) (bu fun A1=>?_)
 ·refine bk 28 U<|RK D<|aQ U<|WS fun _ Bs=>rP 1 [] mn ?_
  refine RK Bs<|av<|Q1 hQ U U U ?_
  exact cB (cy fun h=>by have q:=h.head; unfold gH at q; omega).symm
 refine fP 3 [] (mc 0 U mn) U<|rS (CL (jc (l.ag.length:Int) 1 6) (aJ) U)<|rP 3 [] mn ?_
 refine dx (t:=24) U (bw fun A2=>?_) (bu fun A2=>?_)
 ·refine bk 21 U<|RK D<|aQ U<|WS fun _ B3=>rP 1 [] mn ?_
  refine RK B3<|av<|Q1 hQ U U U ?_
  exact cB (cy fun h=>by have q:=h.head; unfold gH at q; omega).symm
 refine fP 6 [] (mc 0 U mn) U<|rS (CL (jc l.bS 0 ((l.ag.length:Int)-1)) (aJ) U)<|rP 3 [] mn ?_
 refine dx (t:=34) U (bw fun A3=>?_) (bu fun A3=>?_)
 ·refine bk 11 U<|RK D<|aQ U<|WS fun _ B7=>rP 1 [] mn ?_
  refine RK B7<|av<|Q1 hQ U U U ?_
  exact cB (cy fun h=>by have q:=h.head; unfold gH at q; omega).symm
 refine fP 2 [] (mc 0 U mn) U<|rS (CL (jc l.eg 0 3) (aJ) U)<|rP 3 [] mn ?_
 refine dx (t:=40) U (bw fun A4=>?_) (bu fun A4=>?_)
 ·refine bk 5 U<|RK D<|aQ U<|WS fun _ B9=>rP 1 [] mn ?_
  refine RK B9<|av<|Q1 hQ U U U ?_
  exact cB (cy fun h=>by have q:=h.head; unfold gH at q; omega).symm
 refine fP 2 [] (mc 0 U mn) U<|rS (CL (jc l.cM 0 3) (aJ) U)<|rP 2 [] mn ?_
 refine RK D<|cP U (bw fun A5=>?_) (bu fun A5=>?_)
 ·refine WS fun _ N=>rP 1 [] mn ?_
  refine RK N<|av<|Q1 hQ U U U ?_
  exact cB (cy fun h=>by have q:=h.head; unfold gH at q; omega).symm
 refine WK Bb<|aj fun _ O=>WS fun _ R=>rP 1 [] mn ?_
 refine RK R<|ax ?_
 have A:(0≤l.ai.length)∧(∀ (j:Nat) y,j<0→l.ai[j]? =some y→eJ y):=by exact ⟨Nat.zero_le _,fun j y hj=>absurd hj (Nat.not_lt_zero _)⟩
 refine bJ (ι:={z:Nat // (z≤l.ai.length)∧(∀ (j:Nat) y,j<z→l.ai[j]? =some y→eJ y)}) [1] [0,1,2,3,4] U U (fun z=>[(3,(vI (z.1:Int)))]) (fun z=>[]) (fun _=>rfl) (fun _=>rfl) (fun z=>l.ai.length-z.1) ⟨0,A⟩ (aT U) (aI [0,1,2,3,4]) ?_
 clear A
 rintro ⟨i,⟨Ci,F⟩⟩ J13 K
 try dsimp only
 refine aj fun _ S=>WS fun _ T=>rP 5 [] (mc 0 U mn) ?_
 refine RK T<|cP U (aO fun A6=>?_) (aN fun A6=>?_)
 ·refine WK S<|aj fun _ AA=>ax<|WS fun _ V=>rP 3 [] (mc 0 U mn) ?_
  obtain ⟨x,hx⟩:=aK l.ai i I
  obtain ⟨xa,J⟩:=aK az i I
  have Cp:(List.zipWith ar.cells l.ai az)[i]? =some (ar.cells x xa):=dB hx J
  refine rS (IA i U (aA 2 U) uC dc I I)<|rS (oE i 0 (dD.cells (dD.mk x.dv (bp.mk xa.1 x.aX.length xa.2))) U cp (aA 2 U) Cp U dc U U) ?_
  have D2:=(hin.Px _ _ _ hx J).2
  refine rS (CL (Mt x xa.1 xa.2 asm) (aq (show jh _ (rd xa.1 x.aX.length 3 (x.aX.map cr.cells)).holds from (dC 3 U (bY hx J (by simp [ar.ia]))))<|aJ) U)<|rP 1 [] mn ?_
  refine RK V<|bR U (bu fun AB=>?_) (bw fun AB=>?_)
  ·refine ct<|aF<|KK AA<|ak<|rP 3 [] mn ?_
   refine aB ?_
   have u:(vI (((i+1):Nat):Int))=(vI ((i:Int)+1)):=by exact cI I
   refine aU (K ⟨(i+1),⟨I,mg (P:=fun _ y=>eJ y) F hx AB⟩⟩ _ _ _ U os (dI.cons U<|bj U u<|dI.nil _) (aI [0,1,2,3,4]))
  refine WS fun _ W=>rP 1 [] mn ?_
  refine RK W<|av<|Q1 hQ U U U ?_
  exact cB (cy fun h=>AB (h.clock _ (aS hx))).symm
 refine bB<|ab<|ab<|ay<|KK O<|aj fun _ X=>WS fun _ Y=>rP 1 [] mn ?_
 refine RK Y<|ax ?_
 have A:(0≤l.ag.length)∧(∀ (j:Nat) y,j<0→l.ag[j]? =some y→kl l y):=by exact ⟨Nat.zero_le _,fun j y hj=>absurd hj (Nat.not_lt_zero _)⟩
 refine bJ (ι:={z:Nat // (z≤l.ag.length)∧(∀ (j:Nat) y,j<z→l.ag[j]? =some y→kl l y)}) [1] [0,1,2,3,4] U U (fun z=>[(4,(vI (z.1:Int)))]) (fun z=>[]) (fun _=>rfl) (fun _=>rfl) (fun z=>l.ag.length-z.1) ⟨0,A⟩ (aT U) (aI [0,1,2,3,4]) ?_
 clear A
 rintro ⟨m,⟨Ck,B⟩⟩ J22 L
 try dsimp only
 refine aj fun _ Z=>WS fun _ a=>rP 5 [] (mc 0 U mn) ?_
 refine RK a<|bR U (aN fun A7=>?_) (aO fun A7=>?_)
 ·refine bB<|ab<|ab<|ay<|KK X<|aj fun _ e=>WS fun _ f=>rP 1 [] mn ?_
  refine RK f<|ax ?_
  have A:(0≤l.ag.length)∧(∀ j,j<0→1≤mB l j):=by exact ⟨Nat.zero_le _,fun j hj=>absurd hj (Nat.not_lt_zero _)⟩
  refine bJ (ι:={z:Nat // (z≤l.ag.length)∧(∀ j,j<z→1≤mB l j)}) [1] [0,1,2,3,4] U U (fun z=>[(5,(vI (z.1:Int)))]) (fun z=>[]) (fun _=>rfl) (fun _=>rfl) (fun z=>l.ag.length-z.1) ⟨0,A⟩ (aT U) (aI [0,1,2,3,4]) ?_
  clear A
  rintro ⟨n,⟨AO,C⟩⟩ J32 M
  try dsimp only
  have C1:=xp (P:=kl l) I B
  refine aj fun _ g=>WS fun _ k=>rP 5 [] (mc 0 U mn) ?_
  refine RK k<|bR U (aN fun A9=>?_) (aO fun A9=>?_)
  ·refine bB<|ab<|ab<|ay<|KK e<|WS fun _ s=>rP 1 [] mn ?_
   refine RK s<|av<|Q1 hQ U U U ?_
   exact cB (gF (Al (by unfold gH; omega) (xp I F) (xp I B) (fun j hj=>C j I))).symm
  refine WK g<|aj fun _ o=>ax<|WS fun _ p=>fP 2 [] (mc 0 U mn) U<|rS (CL (Mq l kA kC az cA cC bA bC (n:Int) hin htr asm I) (bo [1,2,3,4]) U)<|rP 1 [] mn ?_
  refine RK p<|bR U (aN fun E=>?_) (aO fun E=>?_)
  ·refine ct<|aF<|KK o<|ak<|rP 3 [] mn ?_
   refine aB ?_
   have w:(vI (((n+1):Nat):Int))=(vI ((n:Int)+1)):=by exact cI I
   refine aU (M ⟨(n+1),⟨I,fun j hj=>by rcases Nat.lt_or_ge j n with q|q; exact C j q; (obtain rfl:j=n:=by omega); simp only [Int.toNat_natCast] at E; omega⟩⟩ _ _ _ rfl os (dI.cons rfl<|bj rfl w<|dI.nil _) (aI [0,1,2,3,4]))
  refine WS fun _ r=>rP 1 [] mn ?_
  refine RK r<|av<|Q1 hQ U U U ?_
  exact cB (cy fun h=>by have q:=h.RM n I; simp only [Int.toNat_natCast] at E; omega).symm
 refine WK Z<|aj fun _ b=>ax<|aj fun _ H=>dM cE 24 kr<|mq 1 U<|dS (LP (bD.cells (bD.mk (bp.mk kA l.aL.length kC))) 0 U cp U U U)<|dP 3 [] (mc 0 U mn) ?_
 obtain ⟨y,hy⟩:=aK l.ag m I
 have AC:=bQ bE.cells hy
 refine dS (IA m U (aA 4 U) vx dc I I)<|dS (lZ (m*4) U (aA 4 U) (Nat.mul_pos I dc) fc U)<|dS (oE m 0 (cN.cells y.m0) U cp (aA 4 U) AC U dc U U)<|dS (CL (rG l.aL kA kC y.m0 asm asm) (bo [1]) U)<|dP 2 [] mn ?_
 refine jq (t:=77) U (bw fun G=>?_) (bu fun G=>?_)
 ·refine mq 13 U<|cR<|RK H<|aQ U<|WS fun _ c=>rP 1 [] mn ?_
  refine RK c<|av<|Q1 hQ U U U ?_
  exact cB (cy fun h=>by have q:=h.sk _ (aS hy); have q2:=q.2; first|exact G q.1|omega).symm
 refine m_ 3 [] (mc 0 U mn) U<|dS (IA m U (aA 4 U) vx dc I I)<|dS (lZ ((m*4)+3) U (aA 4 U) (Nat.mul_pos I dc) fc U)<|dS (gl m 3 (vI y.jC) U cp (aA 4 U) AC U dc U)<|m_ 4 [] (mc 0 U mn) U<|dS (CL (jc y.jC 0 ((l.ai.length:Int)-1)) (aJ) U)<|dP 2 [] mn ?_
 refine cR<|RK H<|bR U (bu fun A8=>?_) (bw fun A8=>?_)
 ·refine ct<|aF<|KK b<|ak<|rP 3 [] mn ?_
  refine aB ?_
  have v:(vI (((m+1):Nat):Int))=(vI ((m:Int)+1)):=by exact cI I
  refine aU (L ⟨(m+1),⟨I,mg (P:=fun _ y=>kl l y) B hy ⟨G,I,I⟩⟩⟩ _ _ _ U os (dI.cons U<|bj U v<|dI.nil _) (aI [0,1,2,3,4]))
 refine WS fun _ d=>rP 1 [] mn ?_
 refine RK d<|av<|Q1 hQ U U U ?_
 exact cB (cy fun h=>by have q:=h.sk _ (aS hy); have q2:=q.2; first|exact G q.1|omega).symm
end
section
open Go.RowKit
theorem Dp (r:cj) (kA:OA) (kC:Nat) (az:List RA) (cA:OA) (cC:Nat) (bA:OA) (bC:Nat) (slA:OA) (slC:Nat) (drA:OA) (drC:Nat) (ha:List cb) (heA:OA) (heC:Nat) (hraw:oJ r az ha):
 eB Tryz.prog 36 [(vA (cu.cells (oY r kA kC cA cC bA bC slA slC drA drC heA heC)))] [(rd kA r.an.aL.length 9 (r.an.aL.map al.cells)),(rd cA r.an.ai.length 2 (List.zipWith ar.cells r.an.ai az)),(fp (aR ar.ia r.an.ai az)),(rd bA r.an.ag.length 4 (r.an.ag.map bE.cells)),(rd slA r.aM.length 1 (r.aM.map iC)),(rd drA r.bL.length 1 (r.bL.map iC)),(rd heA r.ao.length 1 (List.zipWith cw r.ao ha)),(fp (aR iI r.ao ha))] (vB (decide (ou r))):=by
 have AC:=hraw.line
 have A2:=hraw.iU
 have A4:=hraw.has
 have A1:=hraw.iY
 have AO:=hraw.draw
 refine bG kr Tryz.func36 U U fun w0 Q hQ hN=>?_
 try dsimp only
 refine WS fun _ l=>fZ U fun b2=>bk 1 U<|RK l<|aj fun _ m=>WS fun _ H=>bk 1 U<|rS (LP (b_.cells (lO r.an kA kC cA cC bA bC)) 0 U cp U U U)<|rS (CL (MS r.an kA kC az cA cC bA bC asm) (bo [1,2,3,4]) U)<|rP 1 [] mn ?_
 refine dx (t:=8) U (aO fun k=>?_) (aN fun k=>?_)
 ·refine bk 17 U<|RK H<|aQ U<|WS fun _ n=>rP 1 [] mn ?_
  refine RK n<|av<|Q1 hQ U U U ?_
  exact cB (gF (pQ (.inl k))).symm
 refine rP 6 [] (mc 0 U mn) ?_
 refine dx (t:=14) U (aO fun AB=>?_) (aN fun AB=>?_)
 ·refine bk 11 U<|RK H<|aQ U<|WS fun _ o=>rP 1 [] mn ?_
  refine RK o<|av<|Q1 hQ U U U ?_
  exact cB (gF (pQ (.inr I))).symm
 refine rP 6 [] (mc 0 U mn) ?_
 refine dx (t:=20) U (aO fun f=>?_) (aN fun f=>?_)
 ·refine bk 5 U<|RK H<|aQ U<|WS fun _ p=>rP 1 [] mn ?_
  refine RK p<|av<|Q1 hQ U U U ?_
  exact cB (gF (pQ (.inr I))).symm
 refine rP 5 [] (mc 0 U mn) ?_
 refine RK H<|cP U (aO fun h=>?_) (aN fun h=>?_)
 ·refine WS fun _ q=>rP 1 [] mn ?_
  refine RK q<|av<|Q1 hQ U U U ?_
  exact cB (gF (pQ (.inr I))).symm
 refine WK m<|aj fun _ s=>WS fun _ N=>rP 1 [] mn ?_
 refine RK N<|ax ?_
 have B:(0≤r.ao.length)∧(mz r 0):=by exact ⟨Nat.zero_le _,BW⟩
 refine bJ (ι:={z:Nat // (z≤r.ao.length)∧(mz r z)}) [1] [0,1,2,3,4,5,6,7,8] U U (fun z=>[(3,(vI (z.1:Int)))]) (fun z=>[]) (fun _=>rfl) (fun _=>rfl) (fun z=>r.ao.length-z.1) ⟨0,B⟩ (aT U) (aI [0,1,2,3,4,5,6,7,8]) ?_
 clear B
 rintro ⟨i,⟨x,F⟩⟩ J11 L
 try dsimp only
 refine aj fun _ O=>WS fun _ P=>rP 5 [] (mc 0 U mn) ?_
 refine RK P<|bR U (aN fun AB=>?_) (aO fun AB=>?_)
 ·refine bB<|ab<|ab<|ay<|KK s<|WS fun _ b=>rP 1 [] mn ?_
  refine RK b<|av<|Q1 hQ U U U ?_
  exact cB (cy (Hz k I F I)).symm
 refine WK O<|aj fun _ R=>ax<|aj fun _ S=>WS fun _ T=>rP 3 [] (mc 0 U mn) ?_
 obtain ⟨ht,D⟩:=aK r.ao i I
 obtain ⟨A,C⟩:=aK ha i I
 have E:(List.zipWith cw r.ao ha)[i]? =some (cw ht A):=dB D C
 refine rS (IA i U (aA 7 U) nj dc I I)<|rS (gl i 0 (vS A.1.1 ht.length A.1.2) U cp (aA 7 U) E U dc U) ?_
 obtain ⟨A3,A0,w⟩:=hraw.nu _ _ _ D C
 refine rP 2 [] mn ?_
 refine RK T<|cP U (aO fun J=>?_) (aN fun J=>?_)
 ·refine WS fun _ AA=>rP 1 [] mn ?_
  refine RK AA<|av<|Q1 hQ U U U ?_
  exact cB (gF (Dm D J)).symm
 refine WK S<|WS fun _ V=>rP 1 [] mn ?_
 refine RK V<|ax ?_
 have B:(0≤ht.length)∧(nB ht 0):=by exact ⟨Nat.zero_le _,B1⟩
 refine bJ (ι:={z:Nat // (z≤ht.length)∧(nB ht z)}) [1,3] [0,1,2,3,4,5,6,7,8] U U (fun z=>[(4,(vI (z.1:Int)))]) (fun z=>[]) (fun _=>rfl) (fun _=>rfl) (fun z=>ht.length-z.1) ⟨0,B⟩ (aT U) (aI [0,1,2,3,4,5,6,7,8]) ?_
 clear B
 rintro ⟨j,⟨y,G⟩⟩ J20 M
 try dsimp only
 refine aj fun _ W=>WS fun _ X=>fP 4 [] (mc 0 U mn) U<|rS (IA i U (aA 7 U) nj dc I I)<|rS (gl i 0 (vS A.1.1 ht.length A.1.2) U cp (aA 7 U) E U dc U)<|rP 2 [] mn ?_
 refine RK X<|bR U (aN fun g=>?_) (aO fun g=>?_)
 ·refine bB<|ab<|ab<|ay<|aF<|KK R<|ak<|rP 3 [] mn ?_
  refine aB ?_
  have e:(vI (((i+1):Nat):Int))=(vI ((i:Int)+1)):=by exact cI I
  refine aU (L ⟨(i+1),⟨I,Dg F D (Er J G I)⟩⟩ _ _ _ U os (dI.cons U<|bj U e<|dI.nil _) (aI [0,1,2,3,4,5,6,7,8]))
 refine WK W<|aj fun _ Y=>ax<|WS fun _ Z=>fP 3 [] (mc 0 U mn) U<|rS (IA i U (aA 7 U) nj dc I I)<|rS (gl i 0 (vS A.1.1 ht.length A.1.2) U cp (aA 7 U) E U dc U)<|rP 1 [] mn ?_
 obtain ⟨d,hd⟩:=aK ht j I
 obtain ⟨da,u⟩:=aK A.2 j I
 have v:(List.zipWith au.cells ht A.2)[j]? =some (au.cells d da):=dB hd u
 refine rS (IA j U (show jh _ (rd A.1.1 ht.length 7 (List.zipWith au.cells ht A.2)).holds from (dC 8 U (bY D C cv))) tm dc I I)<|rS (lZ ((j*7)+4) U (show jh _ (rd A.1.1 ht.length 7 (List.zipWith au.cells ht A.2)).holds from (dC 8 U (bY D C cv))) (Nat.mul_pos I dc) fc U)<|rS (lZ (((j*7)+4)+2) U (show jh _ (rd A.1.1 ht.length 7 (List.zipWith au.cells ht A.2)).holds from (dC 8 U (bY D C cv))) (Nat.mul_pos I dc) fc U)<|rS (gl j 6 (vS da.1 d.bX.ah.length da.2) U cp (show jh _ (rd A.1.1 ht.length 7 (List.zipWith au.cells ht A.2)).holds from (dC 8 U (bY D C cv))) v U dc U) ?_
 have A5:=w d (aS hd)
 refine rP 2 [] mn ?_
 refine RK Z<|bR U (aN fun K=>?_) (aO fun K=>?_)
 ·refine ct<|aF<|KK Y<|ak<|rP 3 [] mn ?_
  refine aB ?_
  have c:(vI (((j+1):Nat):Int))=(vI ((j:Int)+1)):=by exact cI I
  refine aU (M ⟨(j+1),⟨I,Cg G hd K⟩⟩ _ _ _ U os (dI.cons U<|dI.cons U<|bj U c<|dI.nil _) (aI [0,1,2,3,4,5,6,7,8]))
 refine WS fun _ a=>rP 1 [] mn ?_
 refine RK a<|av<|Q1 hQ U U U ?_
 exact cB (gF (Ee D hd K)).symm
end
section
open Go.RowKit
theorem CA (l:aY) (kA:OA) (kC:Nat) (az:List RA) (cA:OA) (cC:Nat) (bA:OA) (bC:Nat) (hin:eA l az):
 eB Tryz.prog 21 [(vA (b_.cells (lO l kA kC cA cC bA bC)))] [(rd kA l.aL.length 9 (l.aL.map al.cells)),(rd cA l.ai.length 2 (List.zipWith ar.cells l.ai az)),(fp (aR ar.ia l.ai az)),(rd bA l.ag.length 4 (l.ag.map bE.cells))] (vI (c_ l)):=by
 have N:=hin.si
 have M:=hin.rr
 have K:=hin.nD
 have L:=hin.su
 refine bG kr Tryz.func21 U U fun P Q hQ hN=>?_
 try dsimp only
 refine WS fun _ C=>fZ U fun O=>bk 1 U<|RK C<|aj fun _ D=>WS fun _ E=>bk 1 U<|rS (LP (bD.cells (bD.mk (bp.mk kA l.aL.length kC))) 0 U cp U U U)<|rS (CL (wB l.aL kA kC asm) (bo [1]) U)<|rP 1 [] mn ?_
 refine RK E<|cP U (fun A=>?_) (fun A=>?_)
 ·rw [Bool.not_eq_true'] at A
  refine WS fun _ F=>rP 1 [] mn ?_
  refine RK F<|av<|Q1 hQ U U U ?_
  exact cI (zR (by simpa using A)).symm
 rw [Bool.not_eq_false'] at A
 refine WK D<|aj fun _ G=>WS fun _ H=>fP 1 [] (mc 0 U mn) U<|rS (CL (OD l kA kC az cA cC bA bC hin asm) (bo [1,2,3,4]) U)<|rP 1 [] mn ?_
 refine RK H<|cP U (bw fun B=>?_) (bu fun B=>?_)
 ·refine WS fun _ AA=>rP 1 [] mn ?_
  refine RK AA<|av<|Q1 hQ U U U ?_
  exact cI (rl A B).symm
 refine WK G<|WS fun _ J=>rP 1 [] mn ?_
 refine RK J<|av<|Q1 hQ U U U ?_
 exact cI (yk A B).symm
theorem NI (l:aY) (kA:OA) (kC:Nat) (az:List RA) (cA:OA) (cC:Nat) (bA:OA) (bC:Nat) (s:aH) (hin:eA l az) (hok:lJ l) (hs:(0≤s.fR∧s.fR≤(l.ag.length:Int)-1)∧0≤s.Read∧s.Read≤86400000):
 eB Tryz.prog 196 [(vA (b_.cells (lO l kA kC cA cC bA bC))),(vA (aH.cells s))] [(rd kA l.aL.length 9 (l.aL.map al.cells)),(rd cA l.ai.length 2 (List.zipWith ar.cells l.ai az)),(fp (aR ar.ia l.ai az)),(rd bA l.ag.length 4 (l.ag.map bE.cells))] (vT [(vA (aa.cells (cD l s))),(vB (decide ((cD l s).Lo≤(cD l s).Hi)))]):=by
 have A2:=hin.si
 have A1:=hin.rr
 have AO:=hin.nD
 have A0:=hin.su
 refine bG kr Tryz.func196 U U fun w0 Q hQ hN=>?_
 try dsimp only
 refine WS fun _ i=>fZ U fun b2=>fZ U fun b3=>AL U dA fun b4=>rP 1 [] mn ?_
 refine RK i<|aj fun _ j=>dK cE [11,12] [] [] [0,1,2,3,4,5,6] [] U U U U U<|eS U (FA 2 U fc U)<|eS U (L1 (vS cA l.ai.length cC) 2 U cp U U)<|eS U (FA 3 U fc U)<|eS U (L1 (vS bA l.ag.length bC) 2 U cp U U)<|eS U (FA 0 U fc U)<|eS U (L1 (vI s.fR) 1 U cp U U) ?_
 obtain ⟨y,hy⟩:=aK l.ag ((s.fR).toNat) I
 have w:=bQ bE.cells hy
 refine eS U (IA ((s.fR).toNat) U (aA 6 U) vx dc I I)<|eS U (lZ ((((s.fR).toNat)*4)+3) U (aA 6 U) (Nat.mul_pos I dc) fc U)<|eS U (gl ((s.fR).toNat) 3 (vI y.jC) U cp (aA 6 U) w U dc U) ?_
 have A3:=(hok.sk _ (aS hy)).2
 obtain ⟨x,hx⟩:=aK l.ai ((y.jC).toNat) I
 obtain ⟨xa,J⟩:=aK az ((y.jC).toNat) I
 have u:(List.zipWith ar.cells l.ai az)[(y.jC).toNat]? =some (ar.cells x xa):=dB hx J
 refine eS U (IA ((y.jC).toNat) U (aA 4 U) uC dc I I)<|eS U (oE ((y.jC).toNat) 0 (dD.cells (dD.mk x.dv (bp.mk xa.1 x.aX.length xa.2))) U cp (aA 4 U) u U dc U U)<|eU U<|cf U fun T6 m=>AL U OY fun b7=>aB (m _ _ (aI [1,2,3,4,5,6,7]) ?_)
 refine cf U fun T8 o=>gd U Tj U<|aB (o _ _ (aI [1,2,3,4,5,6,7]) ?_)
 refine fF U<|KK j<|WS fun _ k=>rP 2 [] mn ?_
 refine RK k<|aj fun _ K=>ax ?_
 have A:(0≤(0:Int)∧(0:Int)≤(fu (fU x s.Read) 86400001))∧((fu (fU x s.Read) 86400001)≤(86400001:Int)∧(86400001:Int)≤86400001):=by (have Z:=iE (p:=fU x s.Read) (n:=86400001); omega)
 refine bJ (ι:={z:Int×Int // (0≤z.1∧z.1≤(fu (fU x s.Read) 86400001))∧((fu (fU x s.Read) 86400001)≤z.2∧z.2≤86400001)}) [2,3,4,6] [0,1,2,3,4,5,6,7] U U (fun z=>[(7,(vI z.1.1)),(8,(vI z.1.2))]) (fun z=>[]) (fun _=>rfl) (fun _=>rfl) (fun z=>(z.1.2-z.1.1).toNat) ⟨((0:Int),(86400001:Int)),A⟩ (aT U) (aI [0,1,2,3,4,5,6,7]) ?_
 clear A
 rintro ⟨⟨a,b⟩,⟨H,AB⟩⟩ J11 F
 try dsimp only at H AB
 try dsimp only
 have B:=hok.clock _ (aS hx)
 have Z:=iE (p:=fU x s.Read) (n:=86400001)
 have Y:=iE (p:=fV x s.Read) (n:=86400001)
 refine aj fun _ L=>WS fun _ M=>rP 3 [] mn ?_
 refine RK M<|cP U (aO fun c=>?_) (aN fun c=>?_)
 ·refine WK L<|ax<|WS fun _ N=>bk 3 U<|rS (BI U (uk I I I))<|bk 1 U<|RK N<|aj fun _ O=>dM cE 9 kr<|dP 3 [] (mc 0 U mn) ?_
  refine dS (CL (Dj x xa.1 xa.2 ((a+b)/2) asm I) (aq (show jh _ (rd xa.1 x.aX.length 3 (x.aX.map cr.cells)).holds from (dC 6 U (bY hx J (by simp [ar.ia]))))<|aJ) U)<|dS (SX (lk (v:=(vI ((gQ x ((a+b)/2)).Hi))) U U fc By U) U U) ?_
  have t:=q8 B (show 0≤(a+b)/2∧(a+b)/2≤90000000 by omega)
  refine dP 4 [] (mc 2 U mn) ?_
  refine cR<|RK O<|cP U (aO fun g=>?_) (aN fun g=>?_)
  ·refine ak<|rP 2 [] mn ?_
   refine aB<|aF ?_
   refine aU (F ⟨(a,((a+b)/2)),(by dsimp only; have hm:=km (r:=s.Read) B (x:=(a+b)/2) I I; rcases Int.lt_or_le ((a+b)/2) (fu (fU x s.Read) 86400001) with q|q; (have C:=hm.1 q; simp only [fU,decide_eq_false_iff_not] at C; omega); (have C:=hm.2.1 q; simp only [fU,decide_eq_true_eq] at C; omega))⟩ _ _ _ rfl (by simp only []; omega) (aT rfl) (aI [0,1,2,3,4,5,6,7]))
  refine ak<|rP 3 [] mn ?_
  refine aB<|aF ?_
  refine aU (F ⟨((((a+b)/2)+1),b),(by dsimp only; have hm:=km (r:=s.Read) B (x:=(a+b)/2) I I; rcases Int.lt_or_le ((a+b)/2) (fu (fU x s.Read) 86400001) with q|q; (have C:=hm.1 q; simp only [fU,decide_eq_false_iff_not] at C; omega); (have C:=hm.2.1 q; simp only [fU,decide_eq_true_eq] at C; omega))⟩ _ _ _ rfl (by simp only []; omega) (aT rfl) (aI [0,1,2,3,4,5,6,7]))
 refine bB<|ab<|ab<|ay<|KK K<|WS fun _ P=>bk 2 U<|RK P<|WS fun _ R=>rP 2 [] mn ?_
 refine RK R<|aj fun _ S=>ax ?_
 have A:(-1≤((-1):Int)∧((-1):Int)≤(fu (fV x s.Read) 86400001)-1)∧((fu (fV x s.Read) 86400001)-1≤(86400000:Int)∧(86400000:Int)≤86400000):=by (have Y:=iE (p:=fV x s.Read) (n:=86400001); omega)
 refine bJ (ι:={z:Int×Int // (-1≤z.1∧z.1≤(fu (fV x s.Read) 86400001)-1)∧((fu (fV x s.Read) 86400001)-1≤z.2∧z.2≤86400000)}) [2,3,4,6,10] [0,1,2,3,4,5,6,7] U U (fun z=>[(7,(vI z.1.1)),(8,(vI z.1.2))]) (fun z=>[]) (fun _=>rfl) (fun _=>rfl) (fun z=>(z.1.2-z.1.1).toNat) ⟨(((-1):Int),(86400000:Int)),A⟩ (aT U) (aI [0,1,2,3,4,5,6,7]) ?_
 clear A
 rintro ⟨⟨d,e⟩,⟨D,E⟩⟩ J20 G
 try dsimp only at D E
 try dsimp only
 have B:=hok.clock _ (aS hx)
 have Z:=iE (p:=fU x s.Read) (n:=86400001)
 have Y:=iE (p:=fV x s.Read) (n:=86400001)
 refine aj fun _ T=>WS fun _ AA=>rP 3 [] mn ?_
 refine RK AA<|bR U (aN fun f=>?_) (aO fun f=>?_)
 ·refine bB<|ab<|ab<|ay<|KK S<|WS fun _ X=>bk 2 U<|rS (SX (bg (xs:=[(0,.tmp 63),(1,.tmp 64)]) (cs:=(aa.cells (aa.mk a d))) U U (bh gJ U)) U U)<|bk 3 U<|te U cz U<|rP 1 [] mn ?_
  refine RK X<|av<|lU hQ [0] (mc 1 U mn) U ?_
  have e0:cD l s=⟨a,d⟩:=by (unfold cD lX; rw [sQ hy hx,show a=(fu (fU x s.Read) 86400001) by omega,show d=(fu (fV x s.Read) 86400001)-1 by omega])
  rw [e0]
 refine WK T<|ax<|WS fun _ V=>bk 4 U<|rS (BI U (uk I I I))<|bk 1 U<|RK V<|aj fun _ W=>dM cE 9 kr<|dP 3 [] (mc 0 U mn) ?_
 refine dS (CL (Dj x xa.1 xa.2 (((d+e)+1)/2) asm I) (aq (show jh _ (rd xa.1 x.aX.length 3 (x.aX.map cr.cells)).holds from (dC 6 U (bY hx J (by simp [ar.ia]))))<|aJ) U)<|dS (SX (lk (v:=(vI ((gQ x (((d+e)+1)/2)).Lo))) U U fc AZ U) U U) ?_
 have t:=q8 B (show 0≤(d+e+1)/2∧(d+e+1)/2≤90000000 by omega)
 refine dP 4 [] (mc 2 U mn) ?_
 refine cR<|RK W<|cP U (aO fun h=>?_) (aN fun h=>?_)
 ·refine ak<|rP 2 [] mn ?_
  refine aB<|aF ?_
  refine aU (G ⟨((((d+e)+1)/2),e),(by dsimp only; have hm:=km (r:=s.Read) B (x:=(d+e+1)/2) I I; rcases Int.lt_or_le ((d+e+1)/2) (fu (fV x s.Read) 86400001) with q|q; (have C:=hm.2.2.1 q; simp only [fV,decide_eq_false_iff_not] at C; omega); (have C:=hm.2.2.2 q; simp only [fV,decide_eq_true_eq] at C; omega))⟩ _ _ _ rfl (by simp only []; omega) (aT rfl) (aI [0,1,2,3,4,5,6,7]))
 refine ak<|rP 3 [] mn ?_
 refine aB<|aF ?_
 refine aU (G ⟨(d,((((d+e)+1)/2)-1)),(by dsimp only; have hm:=km (r:=s.Read) B (x:=(d+e+1)/2) I I; rcases Int.lt_or_le ((d+e+1)/2) (fu (fV x s.Read) 86400001) with q|q; (have C:=hm.2.2.1 q; simp only [fV,decide_eq_false_iff_not] at C; omega); (have C:=hm.2.2.2 q; simp only [fV,decide_eq_true_eq] at C; omega))⟩ _ _ _ rfl (by simp only []; omega) (aT rfl) (aI [0,1,2,3,4,5,6,7]))
end
section
def di (good:List Int):aC:=good.foldl (fun t g=>dF t (fD g)) ⟨0,0⟩
theorem j5 {l:List Int} {g:Int}:di (l++[g])=dF (di l) (fD g):=by unfold di; rw [List.foldl_append]; rfl
def uz (r:cx) (times:List Int) (b:Nat):Int:=if b=0 then r.Start else (times[b-1]?).getD 0
theorem qb {r:cx} {times:List Int} {b:Nat} {t:Int} (h:times[b]? =some t):uz r times (b+1)=t:=by unfold uz; rw [if_neg I,Nat.add_sub_cancel,h]; rfl
structure hZ (l:aY) (r:cx) (times good:List Int):Prop where
 yV:eX l r
 len:good.length=times.length
 le:times.length≤l.ag.length
 step: ∀ (b:Nat) t,times[b]? =some t→uz r times b+ej l b≤t∧t≤r.fE
 sig: ∀ (b:Nat) t g,times[b]? =some t→good[b]? =some g→g= -1∨ ∃ (k:Nat) (s:aH),g=(k:Int)∧r.ah[k]? =some s∧s.fR=(b:Int)∧(cD l s).Lo≤t∧t≤(cD l s).Hi
 KC:(di good).e9≤l.cM
 TX:(r.ah.length:Int)-(di good).right≤l.eg
section
variable {l:aY} {r:cx} {times good:List Int}
theorem hZ.low (h:hZ l r times good) (hl:c_ l=0): ∀ b,0≤bM (bV l r) b:=fun b=>by
 obtain ⟨ht,A⟩:=fy hl
 exact ((mT ht A h.yV).bM b).1
theorem hZ.least (h:hZ l r times good) {b:Nat} (hb:b<times.length):bM (bV l r) b=ej l b:=by
 have:=h.le
 rw [rJ,if_pos I]
theorem hZ.from_ (h:hZ l r times good) (hl:c_ l=0): ∀ b:Nat,b≤times.length→r.Start≤uz r times b∧uz r times b≤r.fE:=by
 intro b
 induction b with
 |zero=>intro _; have:=h.yV.time; unfold uz; rw [if_pos rfl]; omega
 |succ b ih=>
  intro hb
  have ht:times[b]? =some (times[b]'I):=eN _
  have B:=ih I
  have C:=h.step b _ ht
  have A:=h.low hl b
  rw [h.least I] at A
  rw [qb ht]
  omega
/-- what comes next, in the truth -/
theorem hZ.opt (h:hZ l r times good) (hl:c_ l=0) {b:Nat} {t g:Int} (ht:times[b]? =some t) (hg:good[b]? =some g): ∃ o∈iN (bV l r) b,o.1=g∧o.2.Lo≤t∧t≤o.2.Hi:=by
 have hb:=(aV.1 ht).1
 have E:=h.le
 have F:=h.step b t ht
 have G:=h.from_ hl b I
 have B:=h.low hl b
 rw [h.least hb] at B
 rcases h.sig b t g ht hg with rfl|⟨k,s,rfl,hs,A,C,D⟩
 ·exact ⟨(-1,⟨r.Start,r.fE⟩),(nZ I).2 (.inl U),U,by simp only; omega,by simp only; omega⟩
 ·exact ⟨((k:Int),cD l s),(nZ I).2 (.inr ⟨k,(aV.1 hs).1,s,hs,⟨A,I⟩,U⟩),U,C,D⟩
theorem mh {α:Type} {l:List α} {b:Nat} {x:α} (h:l[b]? =some x):l.take (b+1)=l.take b++[x]:=by rw [List.take_add_one,h]; rfl
theorem hZ.live (h:hZ l r times good) (hl:c_ l=0): ∀ b:Nat,b≤times.length→D3 (bV l r) b (di (good.take b),uz r times b):=by
 intro b
 induction b with
 |zero=>intro _; exact ⟨r.Start,by simp [fwd,di]; rfl,by unfold uz; rw [if_pos rfl]; exact Int.le_refl _⟩
 |succ b ih=>
  intro hb
  have B:=h.len
  have ht:times[b]? =some (times[b]'I):=eN _
  have hg:good[b]? =some (good[b]'I):=eN _
  obtain ⟨v,hv,A⟩:=ih I
  obtain ⟨o,ho,e,C,D⟩:=h.opt hl ht hg
  have E:=h.step b _ ht
  have F:=h.least (b:=b) I
  simp only at A hv
  rw [qb ht,mh hg,j5,← e]
  refine ⟨max (v+bM (bV l r) b) o.2.Lo,gf.2 ⟨_,hv,o,ho,gW.2 ⟨?_,U⟩⟩,?_⟩
  ·have G:(bV l r).fE=r.fE:=rfl
   simp only; omega
  ·simp only; omega
theorem hZ.RG (h:hZ l r times good) (hl:c_ l=0): ∀ (d b:Nat),b+d=times.length→sU (bV l r) b (di (good.take b),uz r times b):=by
 intro d
 induction d with
 |zero=>
  intro b hb
  have hn:(bV l r).n=l.ag.length:=dH
  have C:=h.len
  have D:=h.le
  refine ⟨0,I,_,by simp [gk]; rfl,?_⟩
  rw [List.take_of_length_le I]
  unfold kI
  have A:=h.KC
  have B:=h.TX
  exact gF ⟨A,B⟩
 |succ d ih=>
  intro b hb
  have C:=h.len
  have ht:times[b]? =some (times[b]'I):=eN _
  have hg:good[b]? =some (good[b]'I):=eN _
  obtain ⟨o,ho,e,D,A⟩:=h.opt hl ht hg
  have B:=h.step b _ ht
  have E:=h.least (b:=b) I
  have F:(bV l r).fE=r.fE:=rfl
  have hv:=ih (b+1) I
  rw [qb ht,mh hg,j5,← e] at hv
  exact vo (k:=1) (iD.2 ⟨o,ho,_,gW.2 ⟨by first|omega|(simp only; omega),U⟩,by simp [gk]; rfl⟩) (xD hv (by first|omega|(simp only; omega)))
theorem hZ.pass (h:hZ l r times good) (hl:c_ l=0) {b:Nat} {t g:Int} (ht:times[b]? =some t) (hg:good[b]? =some g):yg (bV l r) b g t:=by
 have hb:=(aV.1 ht).1
 obtain ⟨v,hv,A⟩:=h.live hl b I
 obtain ⟨o,ho,e,B,C⟩:=h.opt hl ht hg
 have D:=h.step b _ ht
 have E:=h.least (b:=b) hb
 have F:(bV l r).fE=r.fE:=rfl
 have hw:=h.RG hl (times.length-(b+1)) (b+1) I
 rw [qb ht,mh hg,j5,← e] at hw
 simp only at A
 exact ⟨_,hv,o,ho,e,⟨by simp only; omega,I⟩,hw⟩
theorem hZ.num (h:hZ l r times good) (hl:c_ l=0):(times.length:Int)∈jZ (bV l r):=by
 obtain ⟨v,hv,_⟩:=h.live hl times.length (Nat.le_refl _)
 have hn:(bV l r).n=l.ag.length:=dH
 have B:=h.le
 refine py.2 ⟨times.length,U,I,?_⟩
 unfold jH
 refine List.any_eq_true.2 ⟨_,hv,?_⟩
 have A:=h.len
 rw [List.take_of_length_le I]
 unfold kI
 exact gF ⟨h.KC,h.TX⟩
theorem hZ.e (h:hZ l r times good) (hl:c_ l=0):dU l r 0=0:=l6 hl h.yV rfl fun e=>by have:=h.num hl; rw [e] at this; cases this
theorem hZ.Bb (h:hZ l r times good) (hl:c_ l=0):(times.length:Int)∈lK l r:=by rw [l_ (h.e hl)]; exact h.num hl
theorem hZ.clear (h:hZ l r times good) (hl:c_ l=0):(Fp l r=2→l.bS<(times.length:Int))∧(Fp l r=0→(times.length:Int)≤l.bS):=by
 have hm:=h.Bb hl
 have A:=(G9 (uV (h.e hl))).2 _ hm
 have B:=(Ps (uV (h.e hl))).2 _ hm
 unfold Fp
 rw [if_pos (h.e hl)]
 constructor
 ·intro q
  split at q
  ·omega
  ·split at q<;>omega
 ·intro q
  split at q
  ·omega
  ·split at q<;>omega
theorem hZ.BF (h:hZ l r times good) (hl:c_ l=0) {b:Nat} {t:Int} (ht:times[b]? =some t):dw l r b=0∧(dJ l r b).Lo≤t∧t≤(dJ l r b).Hi:=by
 have hb:=(aV.1 ht).1
 have C:=h.len
 have D:=h.le
 have hg:good[b]? =some (good[b]'I):=eN _
 have hn:(bV l r).n=l.ag.length:=dH
 obtain ⟨q,hq,_,A,B⟩:=(nq (h.low hl) I).2 (h.pass hl ht hg)
 have hh:=Bj (l:=fM (bV l r) b) (fun q hq=>iR hq) hq
 have ho:dU l r (ik l b)=0:=by rw [rz I]; exact h.e hl
 have e:=iW ho hh.ne
 refine ⟨e.1,?_⟩
 rw [e.2]
 have:=hh.all q hq
 exact ⟨Int.le_trans this.1 A,Int.le_trans B this.2⟩
theorem hZ.Wf (h:hZ l r times good) (hl:c_ l=0) {b:Nat} {t:Int} (ht:times[b]? =some t) (hf:l.bS=(b:Int)):dw l r l.bS=0∧(t_ l r).Lo≤t-r.Start∧t-r.Start≤(t_ l r).Hi:=by
 have A:=h.BF hl ht
 rw [← hf] at A
 refine ⟨A.1,?_⟩
 rw [ye A.1]
 simp only
 omega
end
end
section
def gP (hi:Int→Int) (least:Nat→Int) (now:Int):Nat→List Int→List Int×Int
 |_,[]=>([],now)
 |b,x::xs=>((if 0≤x then min (gP hi least now (b+1) xs).2 (hi x) else (gP hi least now (b+1) xs).2)::(gP hi least now (b+1) xs).1,(if 0≤x then min (gP hi least now (b+1) xs).2 (hi x) else (gP hi least now (b+1) xs).2)-least b)
def gr (t:Int):List Int→Int
 |[]=>t
 |x::xs=>gr x xs
def ke (w:bT):Nat→Int→List Int→List Int→Prop
 |_,_,[],[]=>True
 |b,t,x::rs,y::fs=>(∃ o∈iN w b,o.1=x∧max (t+bM w b) o.2.Lo≤min o.2.Hi w.fE∧y=max (t+bM w b) o.2.Lo)∧ke w (b+1) y rs fs
 |_,_,_,_=>False
section
variable {w:bT} {hi:Int→Int} {least:Nat→Int} {now:Int}
theorem rR: ∀ (b:Nat) (rs:List Int),(gP hi least now b rs).1.length=rs.length
 |_,[]=>rfl
 |b,x::xs=>by simp only [gP,List.length_cons]; rw [rR]
theorem nG: ∀ (t:Int) (fs:List Int) (y:Int),gr t (fs++[y])=y
 |_,[],_=>rfl
 |t,x::fs,y=>nG x fs y
theorem DQ: ∀ (t:Int) (fs:List Int) (y:Int),fs[fs.length-1]? =some y→gr t fs=y
 |t,[],y,h=>by simp at h
 |t,[x],y,h=>by simpa [gr] using h
 |t,x::x2::fs,y,h=>by
  show gr x (x2::fs)=y
  exact DQ x (x2::fs) y (by simpa using h)
theorem tH: ∀ (b:Nat) (rs:List Int) (x:Int) (ss:List Int),(gP hi least now b (rs++x::ss)).1[rs.length]? =some (if 0≤x then min (gP hi least now (b+rs.length+1) ss).2 (hi x) else (gP hi least now (b+rs.length+1) ss).2)
 |b,[],x,ss=>by simp [gP]
 |b,z::rs,x,ss=>by
  have:=tH (b+1) rs x ss
  simp only [List.cons_append,gP,List.length_cons,List.getElem?_cons_succ]
  rw [this,show b+1+rs.length+1=b+(rs.length+1)+1 by omega]
theorem kp: ∀ (b:Nat) (t:Int) (rs fs:List Int),ke w b t rs fs→fs.length=rs.length
 |_,_,[],[],_=>rfl
 |b,t,x::rs,y::fs,h=>by simp [kp _ _ rs fs h.2]
 |_,_,[],_::_,h=>h.elim
 |_,_,_::_,[],h=>h.elim
theorem rU: ∀ (b:Nat) (t:Int) (rs fs ss gs:List Int),fs.length=rs.length→(ke w b t (rs++ss) (fs++gs)↔ke w b t rs fs∧ke w (b+rs.length) (gr t fs) ss gs)
 |b,t,[],[],ss,gs,_=>by simp [ke,gr]
 |b,t,x::rs,y::fs,ss,gs,h=>by
  have ih:=rU (b+1) y rs fs ss gs (by simpa using h)
  simp only [List.cons_append,ke,List.length_cons,gr]
  rw [ih,show b+1+rs.length=b+(rs.length+1) by omega,and_assoc]
 |_,_,[],_::_,_,_,h=>by simp at h
 |_,_,_::_,[],_,_,h=>by simp at h
theorem Eu (b:List Int): ∀ t:aC,b.foldl (fun t g=>dF t (fD g)) t=dF t (di b):=by
 induction b with
 |nil=>intro t; exact (nE t).symm
 |cons x b ih=>
  intro t
  show b.foldl (fun t g=>dF t (fD g)) (dF t (fD x))=dF t (b.foldl (fun t g=>dF t (fD g)) (dF ⟨0,0⟩ (fD x)))
  rw [ih,ih]; simp only [dF,aC.mk.injEq]; omega
theorem rK (a b:List Int):di (a++b)=dF (di a) (di b):=by
 show (a++b).foldl _ _=_
 rw [List.foldl_append,Eu]; rfl
theorem ru:di []=(⟨0,0⟩:aC):=rfl
theorem pP (l:List Int):dF (⟨0,0⟩:aC) (di l)=di l:=by simp [dF]
theorem tv (x:Int) (l:List Int):di (x::l)=dF (fD x) (di l):=by
 rw [show x::l=[x]++l from rfl,rK,show di [x]=fD x from (j5 (l:=[])).trans (by rw [ru]; simp [dF])]
theorem tG: ∀ l:List Int,0≤(di l).right∧0≤(di l).e9∧(di l).right+(di l).e9=(l.length:Int)
 |[]=>by rw [ru]; simp
 |x::l=>by
  rw [tv]
  have:=u0 x
  have:=tG l
  simp only [dF,List.length_cons]
  omega
/-- chains are what the watch goes through -/
theorem kb: ∀ (k b:Nat) (p q:aC×Int),q∈gk w k b p↔ ∃ rs fs,rs.length=k∧ke w b p.2 rs fs∧q=(dF p.1 (di rs),gr p.2 fs):=by
 intro k
 induction k with
 |zero=>
  intro b p q
  simp only [gk,bI]
  constructor
  ·rintro rfl; exact ⟨[],[],rfl,trivial,by rw [ru,nE]; rfl⟩
  ·rintro ⟨rs,fs,A,B,rfl⟩
   have A:=j1 A
   subst A
   have:=j1 (kp _ _ _ _ B)
   subst this
   rw [ru,nE]; rfl
 |succ k ih=>
  intro b p q
  rw [iD]
  constructor
  ·rintro ⟨o,ho,p',e,h⟩
   obtain ⟨A,rfl⟩:=gW.1 e
   obtain ⟨rs,fs,B,C,rfl⟩:=(ih _ _ _).1 h
   refine ⟨o.1::rs,max (p.2+bM w b) o.2.Lo::fs,by simp [B],⟨⟨o,ho,U,A,U⟩,C⟩,?_⟩
   rw [tv]
   simp only [gr,dF,Prod.mk.injEq,aC.mk.injEq,and_true]; omega
  ·rintro ⟨rs,fs,A,B,rfl⟩
   cases rs with
   |nil=>simp at A
   |cons x rs=>
    cases fs with
    |nil=>exact B.elim
    |cons y fs=>
     obtain ⟨⟨o,ho,rfl,C,rfl⟩,D⟩:=B
     refine ⟨o,ho,_,gW.2 ⟨C,U⟩,(ih _ _ _).2 ⟨rs,fs,by simpa using A,D,?_⟩⟩
     rw [tv]
     simp only [gr,dF,Prod.mk.injEq,aC.mk.injEq,and_true]; omega
/-- what the reference's rows of last times know -/
structure Mg (w:bT) (hi:Int→Int) (least:Nat→Int) (now:Int):Prop where
 low: ∀ b,0≤bM w b
 least: ∀ b,b<w.n→least b=bM w b
 now:now=w.fE
 hi: ∀ b o,b<w.n→o∈iN w b→0≤o.1→o.2.Hi=hi o.1
 none_: ∀ b o,b<w.n→o∈iN w b→ ¬ 0≤o.1→o.2.Hi=w.fE
theorem yA (h:Mg w hi least now): ∀ (b:Nat) (rs:List Int),b+rs.length≤w.n→(gP hi least now b rs).2≤w.fE
 |_,[],_=>by simp only [gP]; exact Int.le_of_eq h.now
 |b,x::xs,hb=>by
  simp only [List.length_cons] at hb
  have B:=yA h (b+1) xs I
  have A:=h.low b
  rw [← h.least b I] at A
  simp only [gP]
  split<;>omega
theorem rV (h:Mg w hi least now): ∀ (b:Nat) (t:Int) (rs fs:List Int),b+rs.length≤w.n→t≤w.fE→ke w b t rs fs→t≤(gP hi least now b rs).2
 |_,t,[],[],_,ht,_=>by simp only [gP]; rw [h.now]; exact ht
 |b,t,x::rs,y::fs,hb,ht,hc=>by
  simp only [List.length_cons] at hb
  obtain ⟨⟨o,ho,rfl,D,rfl⟩,A⟩:=hc
  have B:=rV h (b+1) _ rs fs I I A
  have C:=h.least b I
  simp only [gP]
  split
  ·rename_i q
   have:=h.hi b o I ho q
   omega
  ·omega
 |_,_,[],_::_,_,_,hc=>hc.elim
 |_,_,_::_,[],_,_,hc=>hc.elim
theorem w5 (h:Mg w hi least now): ∀ (b:Nat) (t t':Int) (rs fs:List Int),b+rs.length≤w.n→t≤t'→t'≤(gP hi least now b rs).2→ke w b t rs fs→ ∃ gs,ke w b t' rs gs
 |_,t,_,[],[],_,_,_,_=>⟨[],trivial⟩
 |b,t,t',x::rs,y::fs,hb,ht,he,hc=>by
  simp only [List.length_cons] at hb
  obtain ⟨⟨o,ho,rfl,E,rfl⟩,A⟩:=hc
  have C:=rV h (b+1) _ rs fs I I A
  have D:=h.least b I
  have F:=yA h (b+1) rs I
  simp only [gP] at he
  have B:max (t'+bM w b) o.2.Lo≤min o.2.Hi w.fE∧max (t'+bM w b) o.2.Lo≤(gP hi least now (b+1) rs).2:=by
   split at he
   ·rename_i q
    have:=h.hi b o I ho q
    omega
   ·rename_i q
    have:=h.none_ b o I ho q
    omega
  obtain ⟨gs,hg⟩:=w5 h (b+1) _ (max (t'+bM w b) o.2.Lo) rs fs I I B.2 A
  exact ⟨_::gs,⟨o,ho,U,B.1,U⟩,hg⟩
 |_,_,_,[],_::_,_,_,_,hc=>hc.elim
 |_,_,_,_::_,[],_,_,_,hc=>hc.elim
theorem DH (b:Nat) (t t':Int) (rs fs:List Int) (ht:t'≤t) (hc:ke w b t rs fs): ∃ gs,ke w b t' rs gs:=by
 have A:(dF ⟨0,0⟩ (di rs),gr t fs)∈gk w rs.length b (⟨0,0⟩,t):=(kb _ _ _ _).2 ⟨rs,fs,rfl,hc,rfl⟩
 clear A
 induction rs generalizing b t t' fs with
 |nil=>exact ⟨[],trivial⟩
 |cons x rs ih=>
  cases fs with
  |nil=>exact hc.elim
  |cons y fs=>
   obtain ⟨⟨o,ho,rfl,C,rfl⟩,B⟩:=hc
   obtain ⟨gs,hg⟩:=ih (b+1) _ (max (t'+bM w b) o.2.Lo) fs I B
   exact ⟨_::gs,⟨o,ho,U,I,U⟩,hg⟩
/-- a way, as it is asked for -/
structure P2 (w:bT) (hi:Int→Int) (least:Nat→Int) (now:Int) (y:du):Prop where
 chain:ke w 0 w.Start y.gM y.ja
 len:y.gM.length≤w.n
 last:y.l4=(gP hi least now 0 y.gM).1
 may:kI w (di y.gM)=true
theorem Cl {k:Nat}:jH w (fwd w k)=true↔ ∃ rs fs,rs.length=k∧ke w 0 w.Start rs fs∧kI w (di rs)=true:=by
 unfold jH
 rw [List.any_eq_true]
 have e:=fun q=>(rW (w:=w) k 0 q)
 rw [Nat.zero_add] at e
 constructor
 ·rintro ⟨q,hq,hm⟩
  obtain ⟨p,hp,h⟩:=(e q).1 hq
  simp only [fwd,bI] at hp
  subst hp
  obtain ⟨rs,fs,A,B,rfl⟩:=(kb _ _ _ _).1 h
  refine ⟨rs,fs,A,B,?_⟩
  rwa [pP] at hm
 ·rintro ⟨rs,fs,A,B,C⟩
  refine ⟨_,(e _).2 ⟨((⟨0,0⟩:aC),w.Start),bI.2 U,(kb _ _ _ _).2 ⟨rs,fs,A,B,U⟩⟩,?_⟩
  simp only [pP]; exact C
theorem KD (h:Mg w hi least now) (hs:w.Start≤w.fE) {b:Nat} (hb:b<w.n) {s t:Int}:yg w b s t↔ ∃ y,P2 w hi least now y∧ ∃ f e,y.gM[b]? =some s∧y.ja[b]? =some f∧y.l4[b]? =some e∧f≤t∧t≤e:=by
 have ef:=fun q=>(rW (w:=w) b 0 q)
 rw [Nat.zero_add] at ef
 constructor
 ·rintro ⟨p,hp,o,ho,rfl,⟨C,L⟩,k,hk,q,hq,hm⟩
  obtain ⟨Y,AB,hp⟩:=(ef p).1 hp
  simp only [fwd,bI] at AB
  subst AB
  obtain ⟨rs,fs,K,D,rfl⟩:=(kb _ _ _ _).1 hp
  obtain ⟨ss,gs,AA,E,rfl⟩:=(kb _ _ _ _).1 hq
  simp only at C L D E hm
  obtain ⟨gs',J⟩:=DH (b+1) t (max (gr w.Start fs+bM w b) o.2.Lo) ss gs C E
  have H:=kp _ _ _ _ D
  have T:=kp _ _ _ _ J
  have hc:ke w 0 w.Start (rs++o.1::ss) (fs++max (gr w.Start fs+bM w b) o.2.Lo::gs'):=(rU _ _ _ _ _ _ H).2 ⟨D,by rw [Nat.zero_add,K]; exact ⟨⟨o,ho,rfl,I,rfl⟩,J⟩⟩
  have he:=rV h (b+1) t ss gs I I E
  have A:=tH (hi:=hi) (least:=least) (now:=now) 0 rs o.1 ss
  rw [Nat.zero_add,K] at A
  refine ⟨⟨rs++o.1::ss,fs++max (gr w.Start fs+bM w b) o.2.Lo::gs',(gP hi least now 0 (rs++o.1::ss)).1⟩,⟨hc,by simp; omega,U,?_⟩,max (gr w.Start fs+bM w b) o.2.Lo,_,?_,?_,A,C,?_⟩
  ·show kI w (di (rs++o.1::ss))=true
   rw [show rs++o.1::ss=(rs++[o.1])++ss by simp,rK,j5]
   rwa [pP] at hm
  ·show (rs++o.1::ss)[b]? =some o.1
   rw [List.getElem?_append_right I,K,Nat.sub_self]; rfl
  ·show (fs++_::gs')[b]? =_
   rw [List.getElem?_append_right I,H,K,Nat.sub_self]; rfl
  ·split
   ·rename_i q
    have:=h.hi b o hb ho q
    omega
   ·exact he
 ·rintro ⟨y,hy,f,e,C,L,P,Q,V⟩
  obtain ⟨R,F,La⟩:=y
  obtain ⟨hc,hn,A,hm⟩:=hy
  simp only at C L P hc hn A hm
  have N:=(aV.1 C).1
  have S:=kp _ _ _ _ hc
  have eR:R=R.take b++s::R.drop (b+1):=by rw [← (aV.1 C).2]; exact (List.take_append_drop b R).symm.trans (by rw [List.drop_eq_getElem_cons N])
  have M:b<F.length:=by omega
  have eF:F=F.take b++f::F.drop (b+1):=by rw [← (aV.1 L).2]; exact (List.take_append_drop b F).symm.trans (by rw [List.drop_eq_getElem_cons M])
  rw [eR,eF,rU _ _ _ _ _ _ (by simp only [List.length_take]; omega)] at hc
  have O:(R.take b).length=b:=by rw [List.length_take]; omega
  rw [O,Nat.zero_add] at hc
  obtain ⟨D,⟨o,ho,rfl,W,rfl⟩,E⟩:=hc
  have B:=tH (hi:=hi) (least:=least) (now:=now) 0 (R.take b) o.1 (R.drop (b+1))
  rw [← eR,O,Nat.zero_add,← A,P] at B
  have B:=Option.some.inj B
  have G:t≤(gP hi least now (b+1) (R.drop (b+1))).2∧t≤min o.2.Hi w.fE:=by
   have X:=yA h (b+1) (R.drop (b+1)) (by rw [List.length_drop]; omega)
   split at B
   ·rename_i q
    have:=h.hi b o hb ho q
    omega
   ·rename_i q
    have:=h.none_ b o hb ho q
    omega
  obtain ⟨gs,J⟩:=w5 h (b+1) _ t (R.drop (b+1)) (F.drop (b+1)) (by rw [List.length_drop]; omega) Q G.1 E
  refine ⟨(dF ⟨0,0⟩ (di (R.take b)),gr w.Start (F.take b)),(ef _).2 ⟨((⟨0,0⟩:aC),w.Start),bI.2 U,(kb _ _ _ _).2 ⟨_,_,O,D,U⟩⟩,o,ho,U,⟨Q,G.2⟩,(R.drop (b+1)).length,by rw [List.length_drop]; omega,_,(kb _ _ _ _).2 ⟨_,gs,U,J,U⟩,?_⟩
  show kI w (dF (dF (dF ⟨0,0⟩ (di (R.take b))) (fD o.1)) (di (R.drop (b+1))))=true
  rw [pP,← j5,← rK,show R.take b++[o.1]++R.drop (b+1)=R from by rw [List.append_assoc]; exact eR.symm]
  exact hm
end
noncomputable def Ng (l:aY) (r:cx) (x:Int):Int:=match r.ah[x.toNat]? with
 |some s=>(cD l s).Hi
 |none=>0
theorem FJ {l:aY} {r:cx} {x:Int} {s:aH} (h:r.ah[x.toNat]? =some s):Ng l r x=(cD l s).Hi:=by unfold Ng; rw [h]
noncomputable def jK (l:aY) (r:cx) (rs:List Int):List Int:=(gP (Ng l r) (ej l) r.fE 0 rs).1
noncomputable def o7 (l:aY) (r:cx) (n:Nat) (t i:Int):Option Int:=
 if i<0 then (if t≤r.fE then some t else none) else match r.ah[i.toNat]? with
  |some s=>if (s.fR=(n:Int)∧(cD l s).Lo≤(cD l s).Hi)∧max t (cD l s).Lo≤min r.fE (cD l s).Hi then some (max t (cD l s).Lo) else none
  |none=>none
noncomputable def g6 (l:aY) (r:cx) (rs fs:List Int):List du:=if (r.ah.length:Int)-(di rs).right≤l.eg then [⟨rs,fs,jK l r rs⟩] else []
noncomputable def iA (l:aY) (r:cx):Nat→List Int→List Int→List du
 |0,rs,fs=>if l.cM<(di rs).e9 then [] else g6 l r rs fs
 |k+1,rs,fs=>if l.cM<(di rs).e9 then [] else g6 l r rs fs++(List.range (r.ah.length+1)).flatMap fun (j:Nat)=>match o7 l r rs.length (gr r.Start fs+ej l rs.length) ((j:Int)-1) with
  |some t=>iA l r k (rs++[(j:Int)-1]) (fs++[t])
  |none=>[]
noncomputable def EA (l:aY) (r:cx) (k:Nat) (rs fs:List Int) (j:Nat):List du:=g6 l r rs fs++(List.range j).flatMap fun (j:Nat)=>match o7 l r rs.length (gr r.Start fs+ej l rs.length) ((j:Int)-1) with
 |some t=>iA l r k (rs++[(j:Int)-1]) (fs++[t])
 |none=>[]
noncomputable def iH (l:aY) (r:cx) (k:Nat) (rs fs:List Int) (j:Nat):List du:=(List.range j).flatMap fun (j:Nat)=>match o7 l r rs.length (gr r.Start fs+ej l rs.length) ((j:Int)-1) with
 |some t=>iA l r k (rs++[(j:Int)-1]) (fs++[t])
 |none=>[]
section
variable {l:aY} {r:cx} {k j:Nat} {rs fs:List Int} {t:Int}
theorem r_:EA l r k rs fs j=g6 l r rs fs++iH l r k rs fs j:=rfl
theorem nJ (h:o7 l r rs.length (gr r.Start fs+ej l rs.length) ((j:Int)-1)=some t):iH l r k rs fs (j+1)=iH l r k rs fs j++iA l r k (rs++[(j:Int)-1]) (fs++[t]):=by
 unfold iH; rw [List.range_succ,List.flatMap_append]; simp [h]
theorem qV (h:o7 l r rs.length (gr r.Start fs+ej l rs.length) ((j:Int)-1)=none):iH l r k rs fs (j+1)=iH l r k rs fs j:=by
 unfold iH; rw [List.range_succ,List.flatMap_append]; simp [h]
theorem nX (h:l.cM<(di rs).e9):iA l r k rs fs=[]:=by cases k<;>exact if_pos h
theorem ob (h: ¬ l.cM<(di rs).e9):iA l r 0 rs fs=g6 l r rs fs:=if_neg h
theorem nN (h: ¬ l.cM<(di rs).e9):iA l r (k+1) rs fs=EA l r k rs fs (r.ah.length+1):=if_neg h
theorem Dn {n:Nat} (hn:n<l.ag.length) (hl:0≤ej l n) (ht:r.Start≤t) {i y:Int} (hi: -1≤i):o7 l r n (t+ej l n) i=some y↔ ∃ o∈iN (bV l r) n,o.1=i∧max (t+bM (bV l r) n) o.2.Lo≤min o.2.Hi (bV l r).fE∧y=max (t+bM (bV l r) n) o.2.Lo:=by
 rw [p_ hn]
 have hw:(bV l r).fE=r.fE:=rfl
 unfold o7
 constructor
 ·intro h
  split at h
  ·rename_i B
   split at h
   ·cases h
    exact ⟨(-1,⟨r.Start,r.fE⟩),(nZ hn).2 (.inl U),by simp only; omega,by simp only; omega,by simp only; omega⟩
   ·cases h
  ·rename_i B
   split at h
   ·rename_i s hs
    split at h
    ·rename_i q
     cases h
     exact ⟨((i.toNat:Nat),cD l s),(nZ hn).2 (.inr ⟨i.toNat,(aV.1 hs).1,s,hs,q.1,U⟩),by simp only; omega,by simp only; omega,U⟩
    ·cases h
   ·cases h
 ·rintro ⟨o,ho,rfl,A,rfl⟩
  rcases (nZ hn).1 ho with rfl|⟨k,hk,s,hs,q,rfl⟩
  ·simp only at A ⊢
   rw [if_pos I,if_pos I]
   congr 1; omega
  ·simp only at A ⊢
   rw [if_neg I,Int.toNat_natCast,hs]
   simp only
   rw [if_pos ⟨q,I⟩]
theorem Mw (hl: ∀ n,n<l.ag.length→0≤ej l n): ∀ (k:Nat) (rs fs:List Int) (y:du),rs.length+k=l.ag.length→fs.length=rs.length→r.Start≤gr r.Start fs→
 (y∈iA l r k rs fs↔ ∃ ss gs,ke (bV l r) rs.length (gr r.Start fs) ss gs∧ss.length≤k∧y=⟨rs++ss,fs++gs,jK l r (rs++ss)⟩∧kI (bV l r) (di (rs++ss))=true):=by
 have D: ∀ (rs fs:List Int) (y:du),¬ l.cM<(di rs).e9→(y∈g6 l r rs fs↔y=⟨rs++[],fs++[],jK l r (rs++[])⟩∧kI (bV l r) (di (rs++[]))=true):=by
  intro rs fs y hm
  unfold g6
  rw [List.append_nil,List.append_nil]
  have e:kI (bV l r) (di rs)=true↔(r.ah.length:Int)-(di rs).right≤l.eg:=by
   unfold kI
   rw [decide_eq_true_eq]
   exact ⟨fun q=>q.2,fun q=>⟨by have:(bV l r).cM=l.cM:=rfl; omega,q⟩⟩
  split
  ·rename_i q
   rw [bI]
   exact ⟨fun h=>⟨h,e.2 q⟩,fun h=>h.1⟩
  ·rename_i q
   exact ⟨fun h=>(by cases h),fun h=>absurd (e.1 h.2) q⟩
 have KC: ∀ (rs ss:List Int),l.cM<(di rs).e9→ ¬ kI (bV l r) (di (rs++ss))=true:=by
  intro rs ss h q
  unfold kI at q
  have:=(of_decide_eq_true q).1
  rw [rK] at this
  have C:=tG ss
  simp only [dF] at this
  have:(bV l r).cM=l.cM:=rfl
  omega
 intro k
 induction k with
 |zero=>
  intro rs fs y hn hf hs
  by_cases hm:l.cM<(di rs).e9
  ·rw [nX hm]
   exact ⟨fun h=>(by cases h),fun ⟨ss,gs,_,_,_,q⟩=>absurd q (KC rs ss hm)⟩
  ·rw [ob hm,D _ _ _ hm]
   constructor
   ·rintro ⟨B,C⟩; exact ⟨[],[],trivial,sm,B,C⟩
   ·rintro ⟨ss,gs,B,C,E,F⟩
    have e:=j1 (Nat.le_zero.1 C)
    subst e
    have e:=j1 (kp _ _ _ _ B)
    subst e
    exact ⟨E,F⟩
 |succ k ih=>
  intro rs fs y hn hf hs
  by_cases hm:l.cM<(di rs).e9
  ·rw [nX hm]
   exact ⟨fun h=>(by cases h),fun ⟨ss,gs,_,_,_,q⟩=>absurd q (KC rs ss hm)⟩
  ·rw [nN hm]
   unfold EA
   rw [dN,D _ _ _ hm,List.mem_flatMap]
   have A: ∀ (x y:Int),(rs++[x]).length+k=l.ag.length∧(fs++[y]).length=(rs++[x]).length:=fun x y=>by simp; omega
   constructor
   ·rintro (⟨B,C⟩|⟨j,hj,h⟩)
    ·exact ⟨[],[],trivial,sm,B,C⟩
    ·cases e:o7 l r rs.length (gr r.Start fs+ej l rs.length) ((j:Int)-1) with
     |none=>rw [e] at h; cases h
     |some t=>
      rw [e] at h
      simp only at h
      obtain ⟨o,ho,B,C,E⟩:=(Dn I (hl _ I) hs I).1 e
      have G:r.Start≤t:=by
       have:=hl rs.length I
       rw [p_ I] at E
       omega
      obtain ⟨ss,gs,F,J,H,AA⟩:=(ih _ _ y (A _ t).1 (A _ t).2 (by rw [nG]; exact G)).1 h
      rw [nG,List.length_append] at F
      refine ⟨((j:Int)-1)::ss,t::gs,⟨⟨o,ho,B,C,E⟩,F⟩,by simp; omega,by simpa using H,by simpa using AA⟩
   ·rintro ⟨ss,gs,B,C,E,F⟩
    cases ss with
    |nil=>
     have e:=j1 (kp _ _ _ _ B)
     subst e
     exact .inl ⟨E,F⟩
    |cons x ss=>
     cases gs with
     |nil=>exact B.elim
     |cons t gs=>
      obtain ⟨⟨o,ho,rfl,J,H⟩,AA⟩:=B
      right
      have hx: -1≤o.1∧o.1<(r.ah.length:Int):=by
       rcases (nZ I).1 ho with rfl|⟨k,hk,s,hs,q,rfl⟩
       ·simp only; omega
       ·simp only; omega
      have G:r.Start≤t:=by
       have:=hl rs.length I
       rw [p_ I] at H
       omega
      have K:((o.1+1).toNat:Int)-1=o.1:=by omega
      refine ⟨(o.1+1).toNat,List.mem_range.2 I,?_⟩
      rw [K,(Dn I (hl _ I) hs I).2 ⟨o,ho,rfl,J,H⟩]
      simp only
      refine (ih _ _ y (A _ t).1 (A _ t).2 (by rw [nG]; exact G)).2 ⟨ss,gs,?_,?_,?_,?_⟩
      ·rw [nG,List.length_append]; exact AA
      ·simp only [List.length_cons] at C; omega
      ·simpa using E
      ·simpa using F
end
theorem zy {l:aY} {r:cx} {rs fs:List Int} (h:(r.ah.length:Int)-(di rs).right≤l.eg):g6 l r rs fs=[⟨rs,fs,jK l r rs⟩]:=if_pos h
theorem xN {l:aY} {r:cx} {rs fs:List Int} (h: ¬ (r.ah.length:Int)-(di rs).right≤l.eg):g6 l r rs fs=[]:=if_neg h
noncomputable def e8 (l:aY) (r:cx) (i:Nat):List aa:=(r.ah.take i).map (cD l)
noncomputable def fz (l:aY) (r:cx) (i:Nat):List Bool:=(r.ah.take i).map fun s=>decide ((cD l s).Lo≤(cD l s).Hi)
section
variable {l:aY} {r:cx} {i n:Nat} {s:aH} {rs:List Int}
theorem EP (h:r.ah[i]? =some s):e8 l r (i+1)=e8 l r i++[cD l s]:=by unfold e8; rw [List.take_add_one,h,List.map_append]; rfl
theorem EB (h:r.ah[i]? =some s):fz l r (i+1)=fz l r i++[decide ((cD l s).Lo≤(cD l s).Hi)]:=by unfold fz; rw [List.take_add_one,h,List.map_append]; rfl
theorem rF (h:i≤r.ah.length):(e8 l r i).length=i:=by unfold e8; rw [List.length_map,List.length_take]; omega
theorem uO (h:i≤r.ah.length):(fz l r i).length=i:=by unfold fz; rw [List.length_map,List.length_take]; omega
theorem Kn {k:Nat} {z:aa} (hs:r.ah[k]? =some s) (hz:(e8 l r r.ah.length)[k]? =some z):z=cD l s:=by
 unfold e8 at hz
 rw [List.take_length,eT,hs] at hz
 exact (Option.some.inj hz).symm
theorem L_ {k:Nat} {z:aa} (hz:(e8 l r r.ah.length)[k]? =some z): ∃ s,r.ah[k]? =some s∧z=cD l s:=by
 unfold e8 at hz
 rw [List.take_length,eT] at hz
 cases h:r.ah[k]? with
 |none=>rw [h] at hz; cases hz
 |some s=>rw [h] at hz; exact ⟨s,rfl,(Option.some.inj hz).symm⟩
theorem CC {k:Nat} {z:Bool} (hs:r.ah[k]? =some s) (hz:(fz l r r.ah.length)[k]? =some z):z=true↔(cD l s).Lo≤(cD l s).Hi:=by
 unfold fz at hz
 rw [List.take_length,eT,hs] at hz
 rw [← Option.some.inj hz]
 exact decide_eq_true_iff
theorem wS (l:aY) (s:aH):(0≤(cD l s).Lo∧(cD l s).Lo≤86400001)∧ -1≤(cD l s).Hi∧(cD l s).Hi≤86400000:=by
 have A:=iE (p:=fU (lQ l s) s.Read) (n:=86400001)
 have B:=iE (p:=fV (lQ l s) s.Read) (n:=86400001)
 unfold cD lX
 simp only
 omega
/-- the last times from a beam on -/
noncomputable def j3 (l:aY) (r:cx) (rs:List Int) (j:Nat):List Int×Int:=gP (Ng l r) (ej l) r.fE j (rs.drop j)
noncomputable def j2 (l:aY) (r:cx) (rs:List Int) (j:Nat):List Int:=List.replicate j 0++(j3 l r rs j).1
noncomputable def tP (l:aY) (r:cx) (rs:List Int) (j:Nat) (x:Int):Int:=if 0≤x then min (j3 l r rs j).2 (Ng l r x) else (j3 l r rs j).2
theorem vf:j3 l r rs rs.length=([],r.fE):=by unfold j3; rw [List.drop_length]; rfl
theorem HY:j2 l r rs rs.length=List.replicate rs.length 0:=by unfold j2; rw [vf]; simp
theorem Fc:j2 l r rs 0=jK l r rs:=by unfold j2 j3 jK; simp
theorem qg {j:Nat} {x:Int} (hj:0<j) (hx:rs[j-1]? =some x):j3 l r rs (j-1)=(tP l r rs j x::(j3 l r rs j).1,tP l r rs j x-ej l (j-1)):=by
 unfold j3 tP
 have hb:=(aV.1 hx).1
 rw [List.drop_eq_getElem_cons hb,(aV.1 hx).2,show j-1+1=j by omega]
 simp only [gP]
 rw [show j-1+1=j by omega]
 rfl
theorem IX {j:Nat} (h:j≤rs.length):(j2 l r rs j).length=rs.length:=by unfold j2 j3; rw [List.length_append,List.length_replicate,rR,List.length_drop]; omega
theorem zW {j:Nat} {x:Int} (hj:0<j) (hx:rs[j-1]? =some x):(j2 l r rs j).set (j-1) (tP l r rs j x)=j2 l r rs (j-1):=by
 unfold j2
 rw [qg hj hx]
 simp only
 obtain ⟨k,rfl⟩: ∃ k,j=k+1:=⟨j-1,I⟩
 rw [Nat.add_sub_cancel,List.replicate_succ',List.append_assoc,List.set_append_right _ _ sm,List.length_replicate,Nat.sub_self]
 rfl
theorem FY (hr:0≤r.fE∧r.fE≤86400000) (hl: ∀ b,b<rs.length→0≤ej l b∧ej l b≤500000000) (hrs: ∀ x∈rs,0≤x→x<(r.ah.length:Int)): ∀ (d j:Nat),j+d=rs.length→(-1-500000000*(d:Int))≤(j3 l r rs j).2∧(j3 l r rs j).2≤86400000
 |0,j,h=>by
  obtain rfl:j=rs.length:=by omega
  rw [vf]; simp only; omega
 |d+1,j,h=>by
  have ih:=FY hr hl hrs d (j+1) I
  have hx:rs[j+1-1]? =some (rs[j]'I):=by rw [Nat.add_sub_cancel]; exact eN _
  have e:=qg (l:=l) (r:=r) (j:=j+1) I hx
  rw [Nat.add_sub_cancel] at e
  rw [e]
  simp only
  have A:=hl j I
  unfold tP
  split
  ·rename_i q
   have B:=hrs _ (List.getElem_mem (by omega:j<rs.length)) q
   obtain ⟨s,hs⟩: ∃ s,r.ah[(rs[j]'I).toNat]? =some s:=⟨r.ah[(rs[j]'I).toNat]'I,eN _⟩
   rw [FJ hs]
   have C:=wS l s
   omega
  ·omega
theorem K3 {t i:Int} (hi:i<0):(t≤r.fE→o7 l r n t i=some t)∧(¬ t≤r.fE→o7 l r n t i=none):=by
 unfold o7; rw [if_pos hi]; exact ⟨fun h=>if_pos h,fun h=>if_neg h⟩
theorem Kc {t i:Int} (hi: ¬ i<0) (hs:r.ah[i.toNat]? =some s) (hb:s.fR=(n:Int)) (hw:(cD l s).Lo≤(cD l s).Hi):(max t (cD l s).Lo≤min r.fE (cD l s).Hi→o7 l r n t i=some (max t (cD l s).Lo))∧(¬ max t (cD l s).Lo≤min r.fE (cD l s).Hi→o7 l r n t i=none):=by
 unfold o7; rw [if_neg hi,hs]
 exact ⟨fun h=>if_pos ⟨⟨hb,hw⟩,h⟩,fun h=>if_neg fun q=>h q.2⟩
theorem xP {t i:Int} (hi: ¬ i<0) (hs:r.ah[i.toNat]? =some s) (hb: ¬ (s.fR=(n:Int)∧(cD l s).Lo≤(cD l s).Hi)):o7 l r n t i=none:=by
 unfold o7; rw [if_neg hi,hs]
 exact if_neg fun q=>hb q.1
theorem tQ {x:Int} (hx:rs[i]? =some x):(di (rs.take (i+1))).right=(di (rs.take i)).right+(if 0≤x then 1 else 0):=by
 rw [mh hx,j5]
 unfold fD
 simp only [dF]
 by_cases h:x<0
 ·rw [if_pos h,if_neg I]
 ·rw [if_neg h,if_pos I]
end
theorem xE {l:aY} {r:cx} {rs fs:List Int}:(g6 l r rs fs).length≤1:=by unfold g6; split<;>simp
theorem wU {l:aY} {r:cx} (hr:r.ah.length≤10): ∀ (k:Nat) (rs fs:List Int),(iA l r k rs fs).length≤12^(k+1)
 |0,rs,fs=>by
  unfold iA
  split
  ·simp
  ·have:=xE (l:=l) (r:=r) (rs:=rs) (fs:=fs); omega
 |k+1,rs,fs=>by
  unfold iA
  split
  ·simp
  ·rw [List.length_append]
   have B:=xE (l:=l) (r:=r) (rs:=rs) (fs:=fs)
   have A: ∀ j,(iH l r k rs fs j).length≤j*12^(k+1):=by
    intro j
    induction j with
    |zero=>simp [iH]
    |succ j ih=>
     cases e:o7 l r rs.length (gr r.Start fs+ej l rs.length) ((j:Int)-1) with
     |none=>rw [qV e,Nat.succ_mul]; exact Nat.le_trans ih (Nat.le_add_right _ _)
     |some t=>rw [nJ e,List.length_append,Nat.succ_mul]; exact Nat.add_le_add ih (wU hr k (rs++[(j:Int)-1]) (fs++[t]))
   have C:=A (r.ah.length+1)
   have D:(r.ah.length+1)*12^(k+1)≤11*12^(k+1):=Nat.mul_le_mul_right _ I
   have E:0<12^(k+1):=Nat.pow_pos dc
   have F:12^(k+1+1)=12*12^(k+1):=by rw [Nat.pow_succ,Nat.mul_comm]
   show (g6 l r rs fs).length+(iH l r k rs fs (r.ah.length+1)).length≤_
   omega
theorem I_ {l:aY} {r:cx} (hr:r.ah.length≤10) {k j:Nat} {rs fs:List Int} (hk:k≤5) (hj:j≤11):(iH l r k rs fs j).length≤40000000:=by
 have A: ∀ j,(iH l r k rs fs j).length≤j*12^(k+1):=by
  intro j
  induction j with
  |zero=>simp [iH]
  |succ j ih=>
   cases e:o7 l r rs.length (gr r.Start fs+ej l rs.length) ((j:Int)-1) with
   |none=>rw [qV e,Nat.succ_mul]; exact Nat.le_trans ih (Nat.le_add_right _ _)
   |some t=>rw [nJ e,List.length_append,Nat.succ_mul]; exact Nat.add_le_add ih (wU hr k (rs++[(j:Int)-1]) (fs++[t]))
 have C:=A j
 have B:12^(k+1)≤12^6:=Nat.pow_le_pow_right dc I
 have D:j*12^(k+1)≤11*12^6:=Nat.mul_le_mul hj B
 omega
theorem u3 {l:aY} {r:cx} (hr:r.ah.length≤10) {k:Nat} {rs fs:List Int} (hk:k≤6):(iA l r k rs fs).length≤40000000:=by
 have A:=wU hr k rs fs (l:=l)
 have B:12^(k+1)≤12^7:=Nat.pow_le_pow_right dc I
 omega
noncomputable def qA (l:aY) (r:cx):List du:=iA l r l.ag.length [] []
section
variable {l:aY} {r:cx}
theorem mC:(bV l r).n=l.ag.length:=dH
theorem PZ (hle:c_ l=0) (hr:eX l r):Mg (bV l r) (Ng l r) (ej l) r.fE:=by
 obtain ⟨ht,B⟩:=fy hle
 refine ⟨fun b=>((mT ht B hr).bM b).1,fun b hb=>(p_ (by rw [mC] at hb; exact hb)).symm,U,fun b o hb ho A=>?_,fun b o hb ho A=>?_⟩
 ·rw [mC] at hb
  rcases (nZ hb).1 ho with rfl|⟨k,hk,s,hs,q,rfl⟩
  ·simp only at A; omega
  ·exact (FJ (by simpa using hs)).symm
 ·rw [mC] at hb
  rcases (nZ hb).1 ho with rfl|⟨k,hk,s,hs,q,rfl⟩
  ·rfl
  ·simp only at A; omega
theorem pR (hle:c_ l=0) (hr:eX l r) {y:du}:y∈qA l r↔P2 (bV l r) (Ng l r) (ej l) r.fE y:=by
 obtain ⟨ht,D⟩:=fy hle
 have hl: ∀ n,n<l.ag.length→0≤ej l n:=fun n hn=>by have:=nK ht D (i:=n) hn; omega
 unfold qA
 rw [Mw hl _ _ _ _ sm rfl (Int.le_refl _)]
 constructor
 ·rintro ⟨ss,gs,B,A,rfl,C⟩
  exact ⟨B,by rw [mC]; exact A,U,C⟩
 ·rintro ⟨B,A,E,C⟩
  rw [mC] at A
  exact ⟨y.gM,y.ja,B,A,by rw [List.nil_append,List.nil_append]; unfold jK; rw [← E],C⟩
theorem Kq (hle:c_ l=0) (hr:eX l r) {k:Nat} (hk:k≤l.ag.length):((qA l r).any fun y=>decide (y.gM.length=k))=jH (bV l r) (fwd (bV l r) k):=by
 rw [Bool.eq_iff_iff,Cl,List.any_eq_true]
 constructor
 ·rintro ⟨y,hy,e⟩
  have h:=(pR hle hr).1 hy
  exact ⟨y.gM,y.ja,of_decide_eq_true e,h.chain,h.may⟩
 ·rintro ⟨rs,fs,e,A,B⟩
  exact ⟨⟨rs,fs,(gP (Ng l r) (ej l) r.fE 0 rs).1⟩,(pR hle hr).2 ⟨A,by rw [mC]; simp only; omega,U,B⟩,gF e⟩
theorem fq (hle:c_ l=0) (hr:eX l r):qA l r=[]↔jZ (bV l r)=[]:=by
 constructor
 ·intro h
  apply List.eq_nil_iff_forall_not_mem.2
  intro x hx
  obtain ⟨k,rfl,hk,hm⟩:=py.1 hx
  rw [mC] at hk
  rw [← Kq hle hr hk,h] at hm
  cases hm
 ·intro h
  apply List.eq_nil_iff_forall_not_mem.2
  intro y hy
  have hw:=(pR hle hr).1 hy
  have:(y.gM.length:Int)∈jZ (bV l r):=py.2 ⟨y.gM.length,rfl,hw.len,Cl.2 ⟨_,_,rfl,hw.chain,hw.may⟩⟩
  rw [h] at this; cases this
/-- the times at a beam, by all ways -/
def jd (b:Nat) (ws:List du):List (Int×aa):=ws.filterMap fun y=>match y.gM[b]?,y.ja[b]?,y.l4[b]? with
 |some s,some f,some e=>some (s,⟨f,e⟩)
 |_,_,_=>none
theorem nT {b:Nat} {ws:List du} {q:Int×aa}:q∈jd b ws↔ ∃ y∈ws,y.gM[b]? =some q.1∧y.ja[b]? =some q.2.Lo∧y.l4[b]? =some q.2.Hi:=by
 unfold jd
 rw [List.mem_filterMap]
 constructor
 ·rintro ⟨y,hy,h⟩
  cases e1:y.gM[b]? with
  |none=>rw [e1] at h; cases h
  |some s=>
   cases e2:y.ja[b]? with
   |none=>rw [e1,e2] at h; cases h
   |some f=>
    cases e3:y.l4[b]? with
    |none=>rw [e1,e2,e3] at h; cases h
    |some e=>
     rw [e1,e2,e3] at h; cases h
     exact ⟨y,hy,e1,e2,e3⟩
 ·rintro ⟨y,hy,A,B,C⟩
  exact ⟨y,hy,by rw [A,B,C]⟩
theorem yK {b:Nat} {ws:List du} {y:du} (h:y.gM.length≤b):jd b (ws++[y])=jd b ws:=by
 unfold jd; rw [List.filterMap_append]; simp [List.getElem?_eq_none h]
theorem qm {b:Nat} {ws:List du} {y:du} {s f e:Int} (h1:y.gM[b]? =some s) (h2:y.ja[b]? =some f) (h3:y.l4[b]? =some e):jd b (ws++[y])=jd b ws++[(s,⟨f,e⟩)]:=by
 unfold jd; rw [List.filterMap_append]; simp [h1,h2,h3]
theorem Kt (hle:c_ l=0) (hr:eX l r) {y:du} (hy:y∈qA l r):y.ja.length=y.gM.length∧y.l4.length=y.gM.length∧y.gM.length≤l.ag.length:=by
 have h:=(pR hle hr).1 hy
 exact ⟨kp _ _ _ _ h.chain,by rw [h.last,rR],by have:=h.len; rwa [mC] at this⟩
theorem ue (hle:c_ l=0) (hr:eX l r) {b:Nat} (hb:b<l.ag.length) {s t:Int}:(∃ q∈fM (bV l r) b,q.1=s∧q.2.Lo≤t∧t≤q.2.Hi)↔ ∃ q∈jd b (qA l r),q.1=s∧q.2.Lo≤t∧t≤q.2.Hi:=by
 have hh:=PZ hle hr
 rw [nq hh.low (by rw [mC]; exact hb),KD hh hr.time.2.1 (by rw [mC]; exact hb)]
 constructor
 ·rintro ⟨y,hy,f,e,A,B,C,D,E⟩
  exact ⟨(s,⟨f,e⟩),nT.2 ⟨y,(pR hle hr).2 hy,A,B,C⟩,U,D,E⟩
 ·rintro ⟨q,hq,rfl,D,E⟩
  obtain ⟨y,hy,A,B,C⟩:=nT.1 hq
  exact ⟨y,(pR hle hr).1 hy,_,_,A,B,C,D,E⟩
/-- a way's span is none that is empty -/
theorem yx (hle:c_ l=0) (hr:eX l r) {b:Nat} {q:Int×aa} (hq:q∈jd b (qA l r)):q.2.Lo≤q.2.Hi:=by
 have hh:=PZ hle hr
 obtain ⟨y,hy,C,D,H⟩:=nT.1 hq
 obtain ⟨hc,hn,B,hm⟩:=(pR hle hr).1 hy
 obtain ⟨R,F,La⟩:=y
 simp only at C D H hc hn B
 have G:=(aV.1 C).1
 have E:=(aV.1 D).1
 have L:=kp _ _ _ _ hc
 have eR:R=R.take b++q.1::R.drop (b+1):=by rw [← (aV.1 C).2]; exact (List.take_append_drop b R).symm.trans (by rw [List.drop_eq_getElem_cons G])
 have eF:F=F.take b++q.2.Lo::F.drop (b+1):=by rw [← (aV.1 D).2]; exact (List.take_append_drop b F).symm.trans (by rw [List.drop_eq_getElem_cons E])
 rw [eR,eF,rU _ _ _ _ _ _ (by simp only [List.length_take]; omega)] at hc
 have AA:(R.take b).length=b:=by rw [List.length_take]; omega
 rw [AA,Nat.zero_add] at hc
 obtain ⟨M,⟨o,ho,K,N,O⟩,J⟩:=hc
 have A:=tH (hi:=Ng l r) (least:=ej l) (now:=r.fE) 0 (R.take b) q.1 (R.drop (b+1))
 rw [← eR,AA,Nat.zero_add,← B,H] at A
 have A:=Option.some.inj A
 have he:=rV hh (b+1) q.2.Lo (R.drop (b+1)) (F.drop (b+1)) (by rw [List.length_drop]; omega) I J
 rw [← K] at A
 split at A
 ·rename_i z
  have:=hh.hi b o I ho z
  omega
 ·omega
theorem CJ {a b:List (Int×aa)} {h k:aa} (ha:kO a h) (hb:kO b k) (hab: ∀ x∈b,(∃ y∈a,y.2.Lo≤x.2.Lo)∧ ∃ y∈a,x.2.Hi≤y.2.Hi) (hba: ∀ x∈a,(∃ y∈b,y.2.Lo≤x.2.Lo)∧ ∃ y∈b,x.2.Hi≤y.2.Hi):h=k:=by
 rcases ha with ⟨rfl,rfl⟩|ha
 ·rcases hb with ⟨rfl,rfl⟩|hb
  ·rfl
  ·obtain ⟨x,hx,_⟩:=hb.lo
   obtain ⟨⟨y,hy,_⟩,_⟩:=hab x hx
   cases hy
 ·rcases hb with ⟨rfl,rfl⟩|hb
  ·obtain ⟨x,hx,_⟩:=ha.lo
   obtain ⟨⟨y,hy,_⟩,_⟩:=hba x hx
   cases hy
  ·obtain ⟨M,E,AA⟩:=ha.lo
   obtain ⟨N,F,V⟩:=ha.hi
   obtain ⟨O,G,W⟩:=hb.lo
   obtain ⟨P,H,X⟩:=hb.hi
   obtain ⟨⟨AB,A,Y⟩,_⟩:=hba M E
   obtain ⟨_,J,B,Z⟩:=hba N F
   obtain ⟨⟨K,C,c⟩,_⟩:=hab O G
   obtain ⟨_,L,D,d⟩:=hab P H
   have Q:=hb.all AB A
   have R:=hb.all J B
   have S:=ha.all K C
   have T:=ha.all L D
   apply aa.ext
   ·omega
   ·omega
theorem M1 (hle:c_ l=0) (hr:eX l r) {b:Nat} (hb:b<l.ag.length) {h:aa} (hh:kO (jd b (qA l r)) h):h=kP l r b:=by
 have hk:=qC (l:=fM (bV l r) b) (fun q hq=>iR hq)
 refine CJ hh hk (fun x hx=>?_) (fun x hx=>?_)
 ·have hle':=iR hx
  obtain ⟨y,hy,_,A,C⟩:=(ue hle hr hb (s:=x.1) (t:=x.2.Lo)).1 ⟨x,hx,rfl,Int.le_refl _,hle'⟩
  obtain ⟨z,hz,_,D,B⟩:=(ue hle hr hb (s:=x.1) (t:=x.2.Hi)).1 ⟨x,hx,rfl,hle',Int.le_refl _⟩
  exact ⟨⟨y,hy,A⟩,z,hz,B⟩
 ·have hle':=yx hle hr hx
  obtain ⟨y,hy,_,A,C⟩:=(ue hle hr hb (s:=x.1) (t:=x.2.Lo)).2 ⟨x,hx,rfl,Int.le_refl _,hle'⟩
  obtain ⟨z,hz,_,D,B⟩:=(ue hle hr hb (s:=x.1) (t:=x.2.Hi)).2 ⟨x,hx,rfl,hle',Int.le_refl _⟩
  exact ⟨⟨y,hy,A⟩,z,hz,B⟩
end
def pW (ws:List du) (b:Nat):Int:=if iS (jd b ws)=jk then 6 else 0
def pX (ws:List du) (b:Nat):aa:=if iS (jd b ws)=jk then ⟨0,0⟩ else iS (jd b ws)
theorem Pr {l:List (Int×aa)} {h:aa} (hh:kO l h) (hl: ∀ q∈l,q.2.Lo≤q.2.Hi):iS l=h:=
 CJ (qC hl) hh (fun x hx=>⟨⟨x,hx,Int.le_refl _⟩,x,hx,Int.le_refl _⟩) (fun x hx=>⟨⟨x,hx,Int.le_refl _⟩,x,hx,Int.le_refl _⟩)
theorem EJ {ws:List du} {b:Nat} (h:jd b ws=[]):pW ws b=6∧pX ws b=⟨0,0⟩:=by
 unfold pW pX; rw [h]; exact ⟨if_pos rfl,if_pos rfl⟩
theorem EG {ws:List du} {b:Nat} {o:aa} (hl: ∀ q∈jd b ws,q.2.Lo≤q.2.Hi) (h:mZ (jd b ws) o):pW ws b=0∧pX ws b=o:=by
 have e:=Pr (.inr h) hl
 unfold pW pX; rw [e]; exact ⟨if_neg h.ne,if_neg h.ne⟩
/-- what was found until now -/
def oj (b:Nat) (ws:List du) (fd:Bool) (o:aa):Prop:=(fd=false∧jd b ws=[])∨(fd=true∧mZ (jd b ws) o)
theorem HP {b:Nat} {o:aa}:oj b [] false o:= .inl ⟨rfl,rfl⟩
theorem Dh {q:Int×aa} (hq:q.2.Lo≤q.2.Hi):mZ [q] q.2:=⟨hq,⟨q,sm,rfl⟩,⟨q,sm,rfl⟩,fun x hx=>by simp at hx; subst hx; exact ⟨Int.le_refl _,Int.le_refl _⟩⟩
theorem Bx {l:List (Int×aa)} {h:aa} {q:Int×aa} (hh:mZ l h) (hq:q.2.Lo≤q.2.Hi):mZ (l++[q]) ⟨min q.2.Lo h.Lo,max q.2.Hi h.Hi⟩:=by
 have:=u7 (.inr hh) hq
 unfold mV at this
 rw [if_neg hh.ne] at this
 rcases this with ⟨e,_⟩|this
 ·simp at e
 ·exact this
theorem ER {b:Nat} {ws:List du} {fd:Bool} {o:aa} {y:du} (h:oj b ws fd o) (hy:y.gM.length≤b):oj b (ws++[y]) fd o:=by
 unfold oj; rw [yK hy]; exact h
theorem CG {b:Nat} {ws:List du} {fd:Bool} {o:aa} {y:du} {s f e:Int} (h:oj b ws fd o) (hf:fd=false) (h1:y.gM[b]? =some s) (h2:y.ja[b]? =some f) (h3:y.l4[b]? =some e) (hle:f≤e):oj b (ws++[y]) true ⟨f,e⟩:=by
 rcases h with ⟨_,q⟩|⟨q,_⟩
 ·right
  rw [qm h1 h2 h3,q]
  exact ⟨U,Dh hle⟩
 ·rw [q] at hf; cases hf
theorem Ff {b:Nat} {ws:List du} {fd:Bool} {o:aa} {y:du} {s f e:Int} (h:oj b ws fd o) (hf:fd=true) (h1:y.gM[b]? =some s) (h2:y.ja[b]? =some f) (h3:y.l4[b]? =some e) (hle:f≤e):oj b (ws++[y]) true ⟨min f o.Lo,max e o.Hi⟩:=by
 rcases h with ⟨q,_⟩|⟨_,q⟩
 ·rw [q] at hf; cases hf
 ·right
  rw [qm h1 h2 h3]
  exact ⟨U,Bx q hle⟩
theorem Aa {b:Nat} {ws:List du} {fd:Bool} {o:aa} (h:oj b ws fd o) (hl: ∀ q∈jd b ws,q.2.Lo≤q.2.Hi):(fd=false→pW ws b=6∧pX ws b=⟨0,0⟩)∧(fd=true→pW ws b=0∧pX ws b=o):=by
 rcases h with ⟨q,h⟩|⟨q,h⟩
 ·exact ⟨fun _=>EJ h,fun e=>(by rw [q] at e; cases e)⟩
 ·exact ⟨fun e=>(by rw [q] at e; cases e),fun _=>EG hl h⟩
section
variable {l:aY} {r:cx}
theorem Lj (he:dU l r 0=0) {b:Nat} (hb:b<l.ag.length):pW (qA l r) b=dw l r b∧pX (qA l r) b=dJ l r b:=by
 obtain ⟨A,hr,_,_⟩:=jM he
 have h:=M1 A hr hb (qC fun q hq=>yx A hr hq)
 have ho:dU l r (ik l b)=0:=by rw [rz hb]; exact he
 unfold pW pX
 rw [h]
 by_cases e:kP l r b=jk
 ·rw [if_pos e,if_pos e,(lp ho e).1,(lp ho e).2]; exact ⟨rfl,rfl⟩
 ·rw [if_neg e,if_neg e,(iW ho e).1,(iW ho e).2]; exact ⟨rfl,rfl⟩
theorem QR (hle:c_ l=0) (hr:eX l r) {y:du} (hy:y∈qA l r) {b:Nat} {f e:Int} (hb:b<y.gM.length) (h2:y.ja[b]? =some f) (h3:y.l4[b]? =some e):f≤e:=
 yx hle hr (q:=(y.gM[b],⟨f,e⟩)) (nT.2 ⟨y,hy,eN _,h2,h3⟩)
theorem DE:dU l r (ik l l.bS)=dU l r 0:=by
 by_cases h:c_ l=0
 ·obtain ⟨_,A⟩:=fy h
  have hh:=A.head
  unfold gH at hh
  rw [xx I]
 ·rw [oW h,oW h]
theorem vE (h: ¬ dU l r 0=0):dw l r l.bS=dU l r 0:=by
 have:=(jJ (b:=l.bS) (by rw [DE]; exact h)).1
 rw [this,DE]
/-- rows of times that are those of ways -/
structure NU (ws:List du):Prop where
 lens: ∀ y∈ws,y.ja.length=y.gM.length∧y.l4.length=y.gM.length∧y.gM.length≤6
 le: ∀ y∈ws,∀ (b:Nat) f e,b<y.gM.length→y.ja[b]? =some f→y.l4[b]? =some e→f≤e
 num:ws.length≤40000000
theorem NU.GZ {ws:List du} (h:NU ws) {b:Nat}: ∀ q∈jd b ws,q.2.Lo≤q.2.Hi:=fun q hq=>by
 obtain ⟨y,hy,A,B,C⟩:=nT.1 hq
 exact h.le y hy b _ _ (aV.1 A).1 B C
theorem Qx (hle:c_ l=0) (hr:eX l r):NU (qA l r):=by
 obtain ⟨ht,B⟩:=fy hle
 have hh:=B.head
 unfold gH at hh
 refine ⟨fun y hy=>?_,fun y hy b f e hb A C=>QR hle hr hy hb A C,u3 hr.len I⟩
 obtain ⟨D,A,C⟩:=Kt hle hr hy
 exact ⟨D,A,I⟩
end
end
section
open Go.RowKit
theorem DD (l:List du) (az:List kU): ∀ v∈(List.zipWith du.cells l az).flatten,v.oneCell'=true:=by
 induction l generalizing az with
 |nil=>intro v hv; simp at hv
 |cons x l ih=>
  cases az with
  |nil=>intro v hv; simp at hv
  |cons a az=>
   intro v hv
   simp only [List.zipWith_cons_cons,List.flatten_cons,dN] at hv
   rcases hv with hv|hv
   ·simp only [du.cells,yH.cells,bx,List.not_mem_nil,or_false] at hv
    rcases hv with rfl|rfl|rfl<;>rfl
   ·exact ih az v hv
theorem N_: ∀ (m:du) (a:kU) (w:World),(∀ X∈du.owns m a,X.holds w)→ ∀ X∈du.ia m a,X.holds w:=fun m a w h X hX=>by
 simp only [du.ia,bx,List.not_mem_nil,or_false] at hX
 have A:=oe (h (own a.1.1 a.1.2 mx 1 (m.gM.map iC)) (by simp [du.owns]))
 have B:=oe (h (own a.2.1.1 a.2.1.2 mx 1 (m.ja.map iC)) (by simp [du.owns]))
 have C:=oe (h (own a.2.2.1 a.2.2.2 mx 1 (m.l4.map iC)) (by simp [du.owns]))
 rcases hX with rfl|rfl|rfl
 ·simpa using A
 ·simpa using B
 ·simpa using C
theorem pN: ∀ (l:List du) (az:List kU),(aR du.owns l az).all (·.wr)=true
 |[],_=>rfl
 |_::_,[]=>rfl
 |x::l,a::az=>by
  simp only [aR,List.all_append,cU]
  exact ⟨U,pN l az⟩
theorem KI (l:List du) (az:List kU):(br (aR du.owns l az)).wr=true:=pN l az
theorem Jj {l m:List du} {az bz:List kU} (h:az.length=l.length):List.zipWith du.cells (l++m) (az++bz)=List.zipWith du.cells l az++List.zipWith du.cells m bz:=List.zipWith_append h.symm
theorem tF {l:List du} {az:List kU} (h:az.length=l.length):(List.zipWith du.cells l az).length=l.length:=by rw [List.length_zipWith]; omega
/-- what is read of a thing that is tied, and frozen -/
theorem p6 {C L:List aw} {a:OA} {c e sz n:Nat} {es:List (List Value)} (i:Nat) (hC:C[i]? =some (br L).ro) (hm:own a c e sz es∈L) (hn:es.length=n):jh C (rd a n sz es).holds:=fun w hw=>by
 subst hn
 exact oe ((show (br L).holds w from (hw _ (aS hC):(br L).ro.holds w)).1 _ hm)
section
variable {E:fr} {ops:Array Oper} {Q:db} {rest:List Oper} {D:List Deferred} {L:List (Nat×Value)} {C C1:List aw}
theorem St.QD {S:BS} {w0 w:World} {X C:List aw} {A:aw} (h:St S w0 (br (X++[A])::C) w):St S w0 (A::br X::C) w:=by
 have B:=h.iw
 have D:St S w0 (X++(A::C)) w:=by simpa using B
 exact D.tied.perm (List.Perm.swap _ _ _)
theorem St.merge {S:BS} {w0 w:World} {X Y C:List aw} (h:St S w0 (br X::br Y::C) w):St S w0 (br (X++Y)::C) w:=by
 have A:St S w0 (br Y::(X++C)) w:=(h.iw).perm (List.perm_middle (a:=br Y) (l₁:=X) (l₂:=C))
 have B:St S w0 (Y++(X++C)) w:=A.iw
 have D:St S w0 ((X++Y)++C) w:=B.perm (by rw [← List.append_assoc]; exact List.perm_append_comm.append_right _)
 exact D.tied
end
section
variable {E:fr} {ops:Array Oper} {Q:db} {rest:List Oper} {D:List Deferred} {L:List (Nat×Value)} {C:List aw}
theorem Aw {A:aw} {X X':List aw} (e:X++[A]=X') (h:RJ E ops Q rest D L (br X'::C)):RJ E ops Q rest D L (A::br X::C):=fun a w hf hs=>h a w hf (hs.tie e)
theorem Ap {X:List aw} {A:aw} (h:RJ E ops Q rest D L (A::br X::C)):RJ E ops Q rest D L (br (X++[A])::C):=fun a w hf hs=>h a w hf hs.QD
theorem KY {K:Act→World→Prop} {ms ns:List du} {az bz:List kU} (hl:az.length=ms.length) (h:KJ E K D L (br (aR du.owns (ms++ns) (az++bz))::C)):KJ E K D L (br (aR du.owns ms az)::br (aR du.owns ns bz)::C):=fun a w hf hs=>h a w hf (by rw [jy hl.symm]; exact hs.merge)
end
/-- the head of the ways: the way that ends here, if it may -/
def w4 (l:aY) (r:cx) (rs fs:List Int) (ra fa:RA) (hz:List kU) (LA:List aw):Prop:=
 ((r.ah.length:Int)-(di rs).right≤l.eg∧ ∃ la:RA,hz=[(ra,fa,la)]∧LA=[own la.1 la.2 mx 1 ((jK l r rs).map iC)])∨(¬ (r.ah.length:Int)-(di rs).right≤l.eg∧hz=[]∧LA=[])
theorem w4.len {l:aY} {r:cx} {rs fs:List Int} {ra fa:RA} {hz:List kU} {LA:List aw} (h:w4 l r rs fs ra fa hz LA):hz.length=(g6 l r rs fs).length:=by
 unfold g6
 rcases h with ⟨q,la,rfl,rfl⟩|⟨q,rfl,rfl⟩
 ·rw [if_pos q]; rfl
 ·rw [if_neg q]; rfl
theorem w4.wr {l:aY} {r:cx} {rs fs:List Int} {ra fa:RA} {hz:List kU} {LA:List aw} (h:w4 l r rs fs ra fa hz LA):LA.all (·.wr)=true:=by
 rcases h with ⟨q,la,rfl,rfl⟩|⟨q,rfl,rfl⟩<;>rfl
theorem Jw {S:BS} {w0 w:World} {l:aY} {r:cx} {rs fs:List Int} {ra fa:RA} {hz az:List kU} {LA:List aw} {R:List du} {A:aw} (hh:w4 l r rs fs ra fa hz LA)
 (h:St S w0 [br [own ra.1 ra.2 mx 1 (rs.map iC),own fa.1 fa.2 mx 1 (fs.map iC)],A,br LA,br (aR du.owns R az)] w):St S w0 [br (aR du.owns (g6 l r rs fs++R) (hz++az)++[A])] w:=by
 rw [jy hh.len.symm]
 have D:St S w0 [own ra.1 ra.2 mx 1 (rs.map iC),own fa.1 fa.2 mx 1 (fs.map iC),A,br LA,br (aR du.owns R az)] w:=h.iw
 rcases hh with ⟨q,la,rfl,rfl⟩|⟨q,rfl,rfl⟩
 ·unfold g6
  rw [if_pos q]
  have B:=(St.kD [3,0,1,2,4] rfl rfl D).iw
  have E:=(St.kD [4,1,2,0,3] rfl rfl B).iw
  have C:St S w0 (((aR du.owns [(⟨rs,fs,jK l r rs⟩:du)] [(ra,fa,la)]++aR du.owns R az)++[A])++[]) w:=by
   rw [List.append_nil]
   refine E.perm ?_
   show (aR du.owns R az++(aR du.owns [(⟨rs,fs,jK l r rs⟩:du)] [(ra,fa,la)]++[A])).Perm _
   rw [← List.append_assoc]
   exact List.perm_append_comm.append_right _
  exact C.tied
 ·unfold g6
  rw [if_neg q]
  have B:=(St.kD [4,2] rfl rfl D).iw
  have C:St S w0 (((aR du.owns [] []++aR du.owns R az)++[A])++[]) w:=by
   rw [List.append_nil]; exact B
  exact C.tied
theorem I8 {E:fr} {K:Act→World→Prop} {D:g5} {L:dk} {l:aY} {r:cx} {rs fs:List Int} {ra fa:RA} {hz az z:List kU} {LA:List aw} {R W:List du} {A A':aw} (hh:w4 l r rs fs ra fa hz LA) (hW:g6 l r rs fs++R=W) (hz':hz++az=z) (hA:A=A')
 (h:KJ E K D L [br (aR du.owns W z++[A'])]):KJ E K D L [br [own ra.1 ra.2 mx 1 (rs.map iC),own fa.1 fa.2 mx 1 (fs.map iC)],A,br LA,br (aR du.owns R az)]:=fun a w hf hs=>h a w hf (by subst hW hz' hA; exact Jw hh hs)
theorem QB {E:fr} {K:Act→World→Prop} {D:g5} {L:dk} {X A:aw} {W:List du} (h:KJ E K D L [br (aR du.owns W []++[A])]):KJ E K D L [X,A]:=fun a w hf hs=>h a w hf (by
 have B:St E.S E.w0 [A] w:=St.kD [1] rfl rfl hs
 have C:St E.S E.w0 (([]++[A])++[]) w:=B
 have e:aR du.owns W []=[]:=by cases W<;>rfl
 rw [e]
 exact C.tied)
theorem Iu {E:fr} {K:Act→World→Prop} {D:g5} {L:dk} {C:List aw} (e sz:Nat) (k:KJ E K D L (own none 0 e sz []::C)):KJ E K D L C:=fun a w hf hs=>k a w hf (hs.rv e sz)
end
section
open Go.RowKit
theorem Pb (l:aY) (kA:OA) (kC:Nat) (az:List RA) (cA:OA) (cC:Nat) (bA:OA) (bC:Nat) (r:cx) (sgA:OA) (sgC:Nat) (hin:eA l az) (hsl:r.ah.length≤1000000):
 eB Tryz.prog 191 [(vA (b_.cells (lO l kA kC cA cC bA bC))),(vA (dp.cells (lT r sgA sgC)))] [(rd kA l.aL.length 9 (l.aL.map al.cells)),(rd cA l.ai.length 2 (List.zipWith ar.cells l.ai az)),(fp (aR ar.ia l.ai az)),(rd bA l.ag.length 4 (l.ag.map bE.cells)),(rd sgA r.ah.length 2 (r.ah.map aH.cells))] (vB (decide (eX l r))):=by
 have A0:=hin.si
 have AO:=hin.rr
 have w:=hin.nD
 have AC:=hin.su
 refine bG kr Tryz.func191 U U fun w0 Q hQ hN=>?_
 try dsimp only
 refine WS fun _ h=>fZ U fun b2=>fZ U fun b3=>bk 1 U<|RK h<|aj fun _ j=>WS fun _ H=>fP 2 [] (mc 0 U mn) U<|rS (CL (jc r.Start 0 86400000) (aJ) U)<|rP 2 [] mn ?_
 refine dx (t:=11) U (bw fun X=>?_) (bu fun X=>?_)
 ·refine bk 13 U<|RK H<|aQ U<|WS fun _ k=>rP 1 [] mn ?_
  refine RK k<|av<|Q1 hQ U U U ?_
  exact cB (cy fun q=>by have C:=q.time; have u:=q.len; omega).symm
 refine fP 4 [] (mc 0 U mn) U<|rS (CL (jc r.fE r.Start 86400000) (aJ) U)<|rP 3 [] mn ?_
 refine dx (t:=19) U (bw fun Z=>?_) (bu fun Z=>?_)
 ·refine bk 5 U<|RK H<|aQ U<|WS fun _ m=>rP 1 [] mn ?_
  refine RK m<|av<|Q1 hQ U U U ?_
  exact cB (cy fun q=>by have C:=q.time; have u:=q.len; omega).symm
 refine rP 5 [] (mc 0 U mn) ?_
 refine RK H<|cP U (aO fun a=>?_) (aN fun a=>?_)
 ·refine WS fun _ n=>rP 1 [] mn ?_
  refine RK n<|av<|Q1 hQ U U U ?_
  exact cB (cy fun q=>by have C:=q.time; have u:=q.len; omega).symm
 refine WK j<|aj fun _ o=>WS fun _ J=>rP 1 [] mn ?_
 refine RK J<|ax ?_
 have F:(0≤r.ah.length)∧(q_ l r.ah 0):=by exact ⟨Nat.zero_le _,zD⟩
 refine bJ (ι:={z:Nat // (z≤r.ah.length)∧(q_ l r.ah z)}) [2,3] [0,1,2,3,4,5,6] U U (fun z=>[(5,(vI (z.1:Int)))]) (fun z=>[]) (fun _=>rfl) (fun _=>rfl) (fun z=>r.ah.length-z.1) ⟨0,F⟩ (aT U) (aI [0,1,2,3,4,5,6]) ?_
 clear F
 rintro ⟨i,⟨p,A⟩⟩ J11 D
 try dsimp only
 refine aj fun _ K=>WS fun _ L=>rP 5 [] (mc 0 U mn) ?_
 refine RK L<|bR U (aN fun Y=>?_) (aO fun Y=>?_)
 ·refine bB<|ab<|ab<|ay<|KK o<|WS fun _ T=>rP 1 [] mn ?_
  refine RK T<|av<|Q1 hQ U U U ?_
  exact cB (gF (Ch I I A I)).symm
 refine WK K<|aj fun _ E=>ax<|WS fun _ M=>rP 3 [] (mc 0 U mn) ?_
 obtain ⟨x,hx⟩:=aK r.ah i I
 have s:=bQ aH.cells hx
 refine rS (IA i U (aA 6 U) wh dc I I)<|rS (oE i 0 (aH.cells x) U cp (aA 6 U) s U dc U U)<|AL U GI fun v=>gd U xr U<|RK M<|aj fun _ N=>WS fun _ G=>fP 6 [0,1] (mc 0 U (mc 2 U mn)) U<|rS (CL (jc x.fR 0 ((l.ag.length:Int)-1)) (aJ) U)<|rP 2 [] mn ?_
 refine dx (t:=45) U (bw fun b=>?_) (bu fun b=>?_)
 ·refine bk 5 U<|RK G<|aQ U<|WS fun _ O=>rP 1 [] mn ?_
  refine RK O<|av<|Q1 hQ U U U ?_
  exact cB (cy fun q=>by have C:=q.sig i x hx; unfold kF lz at C; omega).symm
 refine fP 2 [] (mc 0 U mn) U<|rS (CL (jc x.Read 0 86400000) (aJ) U)<|rP 2 [] mn ?_
 refine RK G<|cP U (bw fun c=>?_) (bu fun c=>?_)
 ·refine WS fun _ P=>rP 1 [] mn ?_
  refine RK P<|av<|Q1 hQ U U U ?_
  exact cB (cy fun q=>by have C:=q.sig i x hx; unfold kF lz at C; omega).symm
 refine WK N<|aj fun _ B=>dM cE 38 kr<|dP 3 [] mn ?_
 refine jN (t:=53) U (aN fun d=>?_) (aO fun d=>?_)
 ·refine mq 35 U<|cR<|RK B<|aZ U<|ct<|aF<|KK E<|ak<|rP 3 [] mn ?_
  refine aB ?_
  have W:(vI (((i+1):Nat):Int))=(vI ((i:Int)+1)):=by exact cI I
  refine aU (D ⟨(i+1),⟨I,mo A hx (by unfold kF lz; (rw [I1 I]; simp only; omega))⟩⟩ _ _ _ U os (dI.cons U<|dI.cons U<|bj U W<|dI.nil _) (aI [1,2,3,4,5,6,7]))
 refine dP 6 [0,1] (mc 0 U (mc 1 U mn)) ?_
 obtain ⟨y,hy⟩:=aK r.ah (i-1) I
 have AB:=bQ aH.cells hy
 refine dS (IA (i-1) U (aA 7 U) wh dc I I)<|dS (lZ ((i-1)*2) U (aA 7 U) (Nat.mul_pos I dc) fc U)<|dS (gl (i-1) 0 (vI y.fR) U cp (aA 7 U) AB U dc U)<|dP 2 [] mn ?_
 refine jq (t:=64) U (aO fun e=>?_) (aN fun e=>?_)
 ·refine mq 24 U<|cR<|RK B<|aQ U<|WS fun _ R=>rP 1 [] mn ?_
  refine RK R<|av<|Q1 hQ U U U ?_
  exact cB (cy fun q=>by have C:=q.sig i x hx; unfold kF lz at C; (rw [rQ I hy] at C; omega)).symm
 refine m_ 6 [0,1] (mc 0 U (mc 1 U mn)) U<|dS (IA (i-1) U (aA 7 U) wh dc I I)<|dS (lZ ((i-1)*2) U (aA 7 U) (Nat.mul_pos I dc) fc U)<|dS (gl (i-1) 0 (vI y.fR) U cp (aA 7 U) AB U dc U)<|dP 2 [] mn ?_
 refine jN (t:=75) U (aN fun f=>?_) (aO fun f=>?_)
 ·refine mq 13 U<|cR<|RK B<|aZ U<|ct<|aF<|KK E<|ak<|rP 3 [] mn ?_
  refine aB ?_
  have V:(vI (((i+1):Nat):Int))=(vI ((i:Int)+1)):=by exact cI I
  refine aU (D ⟨(i+1),⟨I,mo A hx (by unfold kF lz; (rw [rQ I hy]; omega))⟩⟩ _ _ _ U os (dI.cons U<|dI.cons U<|bj U V<|dI.nil _) (aI [1,2,3,4,5,6,7]))
 refine m_ 6 [0,1] (mc 0 U (mc 1 U mn)) U<|dS (IA (i-1) U (aA 7 U) wh dc I I)<|dS (lZ (((i-1)*2)+1) U (aA 7 U) (Nat.mul_pos I dc) fc U)<|dS (gl (i-1) 1 (vI y.Read) U cp (aA 7 U) AB U dc U)<|dP 4 [] mn ?_
 refine cR<|RK B<|cP U (aO fun g=>?_) (aN fun g=>?_)
 ·refine WS fun _ S=>rP 1 [] mn ?_
  refine RK S<|av<|Q1 hQ U U U ?_
  exact cB (cy fun q=>by have C:=q.sig i x hx; unfold kF lz at C; (rw [rQ I hy] at C; omega)).symm
 refine ct<|aF<|KK E<|ak<|rP 3 [] mn ?_
 refine aB ?_
 have AA:(vI (((i+1):Nat):Int))=(vI ((i:Int)+1)):=by exact cI I
 refine aU (D ⟨(i+1),⟨I,mo A hx (by unfold kF lz; (rw [rQ I hy]; omega))⟩⟩ _ _ _ U os (dI.cons U<|dI.cons U<|bj U AA<|dI.nil _) (aI [1,2,3,4,5,6,7]))
end
section
open Go.RowKit
theorem Om (l:aY) (kA:OA) (kC:Nat) (az:List RA) (cA:OA) (cC:Nat) (bA:OA) (bC:Nat) (r:cx) (sgA:OA) (sgC:Nat) (hin:eA l az) (hle:c_ l=0) (hr:eX l r):
 lB Tryz.prog 193 [(vA (b_.cells (lO l kA kC cA cC bA bC))),(vA (dp.cells (lT r sgA sgC)))] [(rd kA l.aL.length 9 (l.aL.map al.cells)),(rd cA l.ai.length 2 (List.zipWith ar.cells l.ai az)),(fp (aR ar.ia l.ai az)),(rd bA l.ag.length 4 (l.ag.map bE.cells)),(rd sgA r.ah.length 2 (r.ah.map aH.cells))] (fun (x:(OA)×Nat×(OA)×Nat×(OA)×Nat)=>(vA (iO.cells (iO.mk (bp.mk x.1 ((cJ l l.ag.length).length) x.2.1) (bp.mk x.2.2.1 ((e8 l r r.ah.length).length) x.2.2.2.1) (bp.mk x.2.2.2.2.1 ((fz l r r.ah.length).length) x.2.2.2.2.2))))) (fun (x:(OA)×Nat×(OA)×Nat×(OA)×Nat)=>True) (fun (x:(OA)×Nat×(OA)×Nat×(OA)×Nat)=>[(own x.1 x.2.1 3 1 ((cJ l l.ag.length).map iC)),(own x.2.2.1 x.2.2.2.1 45 2 ((e8 l r r.ah.length).map aa.cells)),(own x.2.2.2.2.1 x.2.2.2.2.2 4 1 ((fz l r r.ah.length).map qw))]):=by
 have A7:=hin.si
 have A3:=hin.rr
 have A1:=hin.nD
 have A2:=hin.su
 obtain ⟨w,g⟩:=fy hle
 have t:=g.head
 unfold gH at t
 have A5:=hr.len
 have A6:=hr.time
 refine dh kr Tryz.func193 U U fun w0 Q hQ hN=>?_
 try dsimp only
 refine WS fun _ n=>fZ U fun b2=>fZ U fun b3=>AL U PJ fun b4=>RK n<|WS fun _ o=>AL U PJ fun h=>RK o<|aj fun _ p=>WS fun _ q=>rP 1 [] mn ?_
 refine RK q<|ax<|gu 3 1 ?_
 have A:(0≤l.ag.length):=by exact Nat.zero_le _
 refine bJ (ι:={z:Nat×(OA)×Nat // (z.1≤l.ag.length)}) [2,3,4,5] [2,3,4,5,6,7,8,9] U U (fun z=>[(6,(vI (z.1.1:Int)))]) (fun z=>[(own z.1.2.1 z.1.2.2 3 1 ((cJ l z.1.1).map iC)),(cm h 266 (iO.cells (iO.mk (bp.mk z.1.2.1 ((cJ l z.1.1).length) z.1.2.2) (bp.mk none 0 0) (bp.mk none 0 0))))]) (fun _=>rfl) (fun _=>rfl) (fun z=>l.ag.length-z.1.1) ⟨(0,none,0),A⟩ (aT U) (aI [2,3,4,5,6,7,8,9,0,1]) ?_
 clear A
 rintro ⟨⟨b,a,c⟩,F⟩ J9 m
 try dsimp only at F
 try dsimp only
 refine aj fun _ K=>WS fun _ L=>rP 5 [] (mc 2 U mn) ?_
 refine RK L<|cP U (aO fun j=>?_) (aN fun j=>?_)
 ·refine WK K<|aj fun _ M=>ax<|dK cE [5,6,8] [1] [0] [0,1,2,3,4,5,6,7] [0,1,2,3,4,5,6,7,8,9] U U U U U<|eS U (FA 0 U fc U)<|fS U (L1 (vS a ((cJ l b).length) c) 9 U cp U U)<|eS U (LW 2 U cp U U)<|eS U (MV U) ?_
  have A4:=nK w g (i:=b) I
  refine eS U (CL (JH l kA kC az cA cC bA bC (b:Int) hin asm asm I) (bo [3,4,5,6]) U)<|eS U (FA 0 U fc U)<|eU U<|gT U fun T14 W=>dj (xs:=[.tmp 21]) (cs:=[(vI (ej l (b:Int).toNat))]) U cK jA U U U U (by simp [Value.cells]) U U fun y=>aB (W _ _ (aI [1,2,3,4,5,6,7,8]) (aI [1,2,3,4,5,6,7,8,9,10]) ?_)
  refine cf U fun T16 X=>?_
  refine cL (es2:=(List.map iC (cJ l (b+1)))) (m':=(cJ l (b+1)).length) 9 U U U o9 U U sm (bf (es:=List.map iC [(ej l (b:Int).toNat)]) 0 U U (by simp [bH]) U) (jX _) (by simp only [dH]; omega) (by simp only [maxLen,dH]; omega) (by rw [wc]; simp) sm U fun H AB=>?_
  try dsimp only
  refine aB (X _ _ (aI [1,2,3,4,5,6,7,8]) ?_)
  refine cf U fun T19 Y=>Vx (iO.cells (iO.mk (bp.mk H ((cJ l (b+1)).length) AB) (bp.mk none 0 0) (bp.mk none 0 0))) U xy U U<|aB (Y _ _ (aI [1,2,3,4,5,6,7,8]) ?_)
  refine fF U<|aF<|KK M<|ak<|rP 3 [] mn ?_
  refine aB ?_
  have e:(vI (((b+1):Nat):Int))=(vI ((b:Int)+1)):=by exact cI I
  refine aU (m ⟨((b+1),H,AB),(by first|omega|(simp only []; omega))⟩ _ _ _ U os (cQ 4<|bj U e<|dI.nil _) (aI [1,2,3,4,5,6,7,8,9,10]))
 refine bB<|ab<|ab<|ay<|KK p<|aj fun _ N=>WS fun _ O=>?_
 rw [show cJ l b=(cJ l l.ag.length) from by rw [show b=l.ag.length by omega]]
 refine rP 1 [] mn ?_
 refine RK O<|ax<|gu 45 2<|gu 4 1 ?_
 have A:(0≤r.ah.length):=by exact Nat.zero_le _
 refine bJ (ι:={z:Nat×(OA)×Nat×(OA)×Nat // (z.1≤r.ah.length)}) [2,3,4,5] [2,3,4,5,6,7,8,9,10] U U (fun z=>[(7,(vI (z.1.1:Int)))]) (fun z=>[(own z.1.2.2.2.1 z.1.2.2.2.2 4 1 ((fz l r z.1.1).map qw)),(own z.1.2.1 z.1.2.2.1 45 2 ((e8 l r z.1.1).map aa.cells)),(cm h 266 (iO.cells (iO.mk (bp.mk a ((cJ l l.ag.length).length) c) (bp.mk z.1.2.1 ((e8 l r z.1.1).length) z.1.2.2.1) (bp.mk z.1.2.2.2.1 ((fz l r z.1.1).length) z.1.2.2.2.2))))]) (fun _=>rfl) (fun _=>rfl) (fun z=>r.ah.length-z.1.1) ⟨(0,none,0,none,0),A⟩ (aT U) (aI [2,3,4,5,6,7,8,9,10,0,1,11]) ?_
 clear A
 rintro ⟨⟨i,ta,tc,sa,sc⟩,G⟩ J23 J
 try dsimp only at G
 try dsimp only
 refine aj fun _ P=>WS fun _ R=>rP 5 [] (mc 1 U mn) ?_
 refine RK R<|bR U (aN fun k=>?_) (aO fun k=>?_)
 ·refine bB<|ab<|ab<|ay<|KK N<|WS fun _ V=>?_
  rw [show e8 l r i=(e8 l r r.ah.length) from by rw [show i=r.ah.length by omega]]
  rw [show fz l r i=(fz l r r.ah.length) from by rw [show i=r.ah.length by omega]]
  refine rP 1 [] (mc 11 U mn) ?_
  refine gd U TL U<|RK V<|av<|LX hQ (a,c,ta,tc,sa,sc) [8,10,9] [0] (mc 0 U mn) U U U U ?_
  trivial
 refine WK P<|aj fun _ S=>ax<|aj fun _ T=>dK cE [10,11] [] [] [0,1,2,3,4,5,6,7,8,9,10,11] [] U U U U U<|eS U (LW 2 U cp U U)<|eS U (FA 2 U fc U)<|eS U (L1 (vS sgA r.ah.length sgC) 1 U cp U U)<|eS U (MV U) ?_
 obtain ⟨s,hs⟩:=aK r.ah i I
 have v:=bQ aH.cells hs
 refine eS U (IA i U (aA 7 U) wh dc I I)<|eS U (oE i 0 (aH.cells s) U cp (aA 7 U) v U dc U U) ?_
 have u:=(hr.sig i s hs).1
 refine eS U (CL (NI l kA kC az cA cC bA bC s hin asm (by exact u)) (bo [3,4,5,6]) U)<|eS U (MV U)<|eS U (EX U)<|eS U (EX U)<|eS U (AG U)<|eU U<|cf U fun T29 Z=>AL U dA fun AC=>aB (Z _ _ (aI [1,2,3,4,5,6,7,8,9,10,11,12]) ?_)
 refine cf U fun T31 d=>gd U cz U<|aB (d _ _ (aI [1,2,3,4,5,6,7,8,9,10,11,12]) ?_)
 refine fF U<|KK T<|WS fun _ AA=>rP 3 [0,1] (mc 12 U (mc 0 U mn)) ?_
 refine dj (xs:=[.tmp 44]) (cs:=(aa.cells (cD l s))) U hU dA U U U U (by simp [Value.cells,aa.aW]) U U fun AO=>?_
 refine cL (es2:=(List.map aa.cells (e8 l r (i+1)))) (m':=(e8 l r (i+1)).length) 12 U U U xo U U sm (bf (es:=List.map aa.cells [(cD l s)]) 0 U U (by simp [aa.aW]) U) (ic _) (by rw [rF I]; omega) (by rw [rF I]; simp only [maxLen]; omega) (by rw [EP hs]; simp) sm U fun B C=>?_
 try dsimp only
 refine bk 1 U<|jI (vs:=[(vS B ((e8 l r (i+1)).length) C)]) (cs':=(iO.cells (iO.mk (bp.mk a ((cJ l l.ag.length).length) c) (bp.mk B ((e8 l r (i+1)).length) C) (bp.mk sa ((fz l r i).length) sc)))) (C':=[_,_,_,_,_,_,_,_,_,_,_,_,_,(cm h 266 (iO.cells (iO.mk (bp.mk a ((cJ l l.ag.length).length) c) (bp.mk B ((e8 l r (i+1)).length) C) (bp.mk sa ((fz l r i).length) sc))))]) 13 U U U Ud U U U U U U U<|RK AA<|ak<|rP 3 [] (mc 13 U mn) ?_
 refine dj (xs:=[.tmp 50]) (cs:=[(vB (decide ((cD l s).Lo≤(cD l s).Hi)))]) U PL Wn U U U U (by simp [Value.cells]) U U fun A0=>?_
 refine cL (es2:=(List.map qw (fz l r (i+1)))) (m':=(fz l r (i+1)).length) 12 U U U Uf U U sm (bf (es:=List.map qw [(decide ((cD l s).Lo≤(cD l s).Hi))]) 0 U U (by simp [Az]) U) (HX _) (by rw [uO I]; omega) (by rw [uO I]; simp only [maxLen]; omega) (by rw [EB hs]; simp) sm U fun D E=>?_
 try dsimp only
 refine bk 1 U<|jI (vs:=[(vS D ((fz l r (i+1)).length) E)]) (cs':=(iO.cells (iO.mk (bp.mk a ((cJ l l.ag.length).length) c) (bp.mk B ((e8 l r (i+1)).length) C) (bp.mk D ((fz l r (i+1)).length) E)))) (C':=[_,_,_,_,_,_,_,_,_,_,_,_,_,_,(cm h 266 (iO.cells (iO.mk (bp.mk a ((cJ l l.ag.length).length) c) (bp.mk B ((e8 l r (i+1)).length) C) (bp.mk D ((fz l r (i+1)).length) E))))]) 14 U U U Uo U U U U U U U<|aB<|aF<|KK S<|ak<|bk 2 U<|rP 1 [] mn ?_
 refine aB ?_
 have f:(vI (((i+1):Nat):Int))=(vI ((i:Int)+1)):=by exact cI I
 refine aU (J ⟨((i+1),B,C,D,E),(by first|omega|(simp only []; omega))⟩ _ _ _ U os (cQ 4<|bj U f<|dI.nil _) (aI [3,4,5,6,7,8,9,10,11,12,13,14]))
theorem Mu (r:cx) (sgA:OA) (sgC:Nat) (l:aY) (wA:OA) (wC:Nat) (tA:OA) (tC:Nat) (bA:OA) (bC:Nat) (rs:List Int) (rsA:OA) (rsC:Nat) (hle:c_ l=0) (hr:eX l r) (hn:rs.length≤l.ag.length) (hrs: ∀ x∈rs,0≤x→x<(r.ah.length:Int)):
 lB Tryz.prog 194 [(vA (dp.cells (lT r sgA sgC))),(vA (iO.cells (iO.mk (bp.mk wA ((cJ l l.ag.length).length) wC) (bp.mk tA ((e8 l r r.ah.length).length) tC) (bp.mk bA ((fz l r r.ah.length).length) bC)))),(vS rsA rs.length rsC)] [(rd sgA r.ah.length 2 (r.ah.map aH.cells)),(rd wA ((cJ l l.ag.length).length) 1 ((cJ l l.ag.length).map iC)),(rd tA ((e8 l r r.ah.length).length) 2 ((e8 l r r.ah.length).map aa.cells)),(rd bA ((fz l r r.ah.length).length) 1 ((fz l r r.ah.length).map qw)),(rd rsA rs.length 1 (rs.map iC))] (fun (x:(OA)×Nat)=>(vS x.1 ((jK l r rs).length) x.2)) (fun (x:(OA)×Nat)=>True) (fun (x:(OA)×Nat)=>[(own x.1 x.2 3 1 ((jK l r rs).map iC))]):=by
 obtain ⟨J,D⟩:=fy hle
 have v:=D.head
 unfold gH at v
 have A4:=hr.len
 have A5:=hr.time
 have w:=FY (l:=l) (rs:=rs) ⟨I,I⟩ (fun b hb=>by have:=nK J D (i:=b) I; omega) hrs
 have A2:=dH (l:=l) (n:=l.ag.length)
 have A6:=rF (l:=l) (Nat.le_refl r.ah.length)
 refine dh kr Tryz.func194 U U fun w0 Q hQ hN=>?_
 try dsimp only
 refine WS fun _ h=>fZ U fun b2=>fZ U fun b3=>bk 1 U<|RK h<|WS fun _ m=>rP 2 [] mn ?_
 refine xW (n:=rs.length) (es:=(List.map iC (List.replicate rs.length 0))) U U U o9 I I (by simp only [maxLen]; omega) (by rw [List.map_replicate]; rfl) U fun E=>?_
 try dsimp only
 refine bk 1 U<|RK m<|WS fun _ p=>fP 3 [] (mc 2 U mn) U<|RK p<|aj fun _ q=>WS fun _ t=>rP 4 [] mn ?_
 refine RK t<|ax ?_
 rw [show (own (some ⟨E,0,none⟩) rs.length 3 1 (List.map iC (List.replicate rs.length 0)))=(own (some ⟨E,0,none⟩) rs.length 3 1 ((j2 l r rs rs.length).map iC)) from by rw [HY]]
 have B:(rs.length≤rs.length):=by exact Nat.le_refl _
 have u:(vI ((j3 l r rs rs.length).2))=(vI r.fE):=by rw [vf]
 refine bJ (ι:={z:Nat // (z≤rs.length)}) [2,3,4,7] [1,2,3,4,5,6,7] U U (fun z=>[(8,(vI ((j3 l r rs z.1).2))),(9,(vI ((z.1:Int)-1)))]) (fun z=>[(own (some ⟨E,0,none⟩) rs.length 3 1 ((j2 l r rs z.1).map iC))]) (fun _=>rfl) (fun _=>rfl) (fun z=>z.1) ⟨rs.length,B⟩ (bj U u<|aT U) (aI [1,2,3,4,5,6,7,0]) ?_
 clear B
 rintro ⟨j,AC⟩ J10 F
 try dsimp only
 have A3:=IX (l:=l) (r:=r) (rs:=rs) (j:=j) I
 refine aj fun _ L=>WS fun _ M=>rP 2 [] mn ?_
 refine RK M<|bR U (aN fun g=>?_) (aO fun g=>?_)
 ·refine bB<|ab<|ab<|ay<|KK q<|WS fun _ R=>rP 1 [] mn ?_
  rw [show (Value.slice (some ⟨E,0,none⟩) rs.length rs.length)=(Value.slice (some ⟨E,0,none⟩) ((jK l r rs).length) rs.length) from by rw [show (jK l r rs).length=rs.length from rR _ _]]
  rw [show j2 l r rs j=jK l r rs from by rw [show j=0 by omega]; exact Fc]
  refine rP 1 [] mn ?_
  refine RK R<|av<|LX hQ ((some ⟨E,0,none⟩),rs.length) [7] [] mn U U U U ?_
  trivial
 refine WK L<|aj fun _ G=>ax<|aj fun _ H=>WS fun _ N=>rP 2 [] mn ?_
 have A1:=w (rs.length-j) j I
 obtain ⟨x,hx⟩:=aK rs (j-1) I
 have d:=bQ iC hx
 refine rS (IA (j-1) U (aA 6 U) cK dc I I)<|rS (gl (j-1) 0 (vI x) U cp (aA 6 U) d U dc U)<|rP 1 [] mn ?_
 refine RK N<|bR U (aN fun A=>?_) (aO fun A=>?_)
 ·refine WK H<|WS fun _ P=>rP 3 [] mn ?_
  obtain ⟨A9,c⟩:=aK (j2 l r rs j) (j-1) I
  have hx25m:=bQ iC c
  refine rS (IA (j-1) U (ae (n:=rs.length) 7 U sq) cK dc I I) ?_
  have V:((j2 l r rs j).set (j-1) ((j3 l r rs j).2))=(j2 l r rs (j-1)):=by (rw [← zW I hx]; congr 1; unfold tP; (rw [if_neg A]; done))
  refine df (k:=(j-1)) (o:=0) (vs:=[(vI ((j3 l r rs j).2))]) (es':=(List.map iC (j2 l r rs (j-1)))) (C':=[_,_,_,_,_,_,_,(own (some ⟨E,0,none⟩) rs.length 3 1 (List.map iC (j2 l r rs (j-1))))]) 7 U U U zb U U U U hx25m U dc (by exact (List.map_set (f:=iC) (l:=(j2 l r rs j)) (i:=(j-1)) (a:=(j3 l r rs j).2)).symm.trans (congrArg _ V)) U<|RK P<|ak<|rP 4 [] (mc 0 U mn) ?_
  obtain ⟨y,hy⟩:=aK (cJ l l.ag.length) (j-1) I
  have K:=bQ iC hy
  refine rS (IA (j-1) U (aA 3 U) cK dc I I)<|rS (gl (j-1) 0 (vI y) U cp (aA 3 U) K U dc U) ?_
  have C:=vj hy
  have AB:=nK J D (i:=j-1) I
  rw [← C] at AB
  refine bk 2 U<|aB<|aF<|KK G<|ak<|rP 3 [] mn ?_
  refine aB ?_
  have W:(vI ((j3 l r rs (j-1)).2))=(vI (((j3 l r rs j).2)-y)):=by exact cI (by rw [qg I hx]; simp only; unfold tP; rw [C]; (rw [if_neg A]; done))
  have X:(vI ((((j-1):Nat):Int)-1))=(vI (((j:Int)-1)-1)):=by exact cI I
  refine aU (F ⟨(j-1),(by first|omega|(simp only []; omega))⟩ _ _ _ U os (cQ 4<|bj U W<|bj U X<|dI.nil _) (aI [0,1,2,3,4,5,6,7]))
 refine dM cE 12 kr<|dP 5 [] (mc 0 U mn) ?_
 refine dS (IA (j-1) U (aA 6 U) cK dc I I)<|dS (gl (j-1) 0 (vI x) U cp (aA 6 U) d U dc U) ?_
 have A7:=hrs x (aS hx) A
 obtain ⟨z,hz⟩:=aK (e8 l r r.ah.length) ((x).toNat) I
 have A0:=bQ aa.cells hz
 refine dS (IA ((x).toNat) U (aA 4 U) hU dc I I)<|dS (lZ ((((x).toNat)*2)+1) U (aA 4 U) (Nat.mul_pos I dc) fc U) ?_
 obtain ⟨s,hs,e⟩:=L_ hz
 have AO:=wS l s
 rw [← e] at AO
 have Y:Ng l r x=z.Hi:=by rw [FJ hs,e]
 refine dS (gl ((x).toNat) 1 (vI z.Hi) U cp (aA 4 U) A0 U dc U)<|dS (MN U)<|mq 1 U<|cR<|RK H<|WS fun _ O=>rP 3 [] mn ?_
 obtain ⟨A8,Z⟩:=aK (j2 l r rs j) (j-1) I
 have hx19m:=bQ iC Z
 refine rS (IA (j-1) U (ae (n:=rs.length) 7 U sq) cK dc I I) ?_
 have S:((j2 l r rs j).set (j-1) (min ((j3 l r rs j).2) z.Hi))=(j2 l r rs (j-1)):=by (rw [← zW I hx]; congr 1; unfold tP; (rw [if_pos A,Y]; done))
 refine df (k:=(j-1)) (o:=0) (vs:=[(vI (min ((j3 l r rs j).2) z.Hi))]) (es':=(List.map iC (j2 l r rs (j-1)))) (C':=[_,_,_,_,_,_,_,(own (some ⟨E,0,none⟩) rs.length 3 1 (List.map iC (j2 l r rs (j-1))))]) 7 U U U zb U U U U hx19m U dc (by exact (List.map_set (f:=iC) (l:=(j2 l r rs j)) (i:=(j-1)) (a:=(min ((j3 l r rs j).2) z.Hi))).symm.trans (congrArg _ S)) U<|RK O<|ak<|rP 4 [] (mc 0 U mn) ?_
 obtain ⟨y,hy⟩:=aK (cJ l l.ag.length) (j-1) I
 have K:=bQ iC hy
 refine rS (IA (j-1) U (aA 3 U) cK dc I I)<|rS (gl (j-1) 0 (vI y) U cp (aA 3 U) K U dc U) ?_
 have C:=vj hy
 have AB:=nK J D (i:=j-1) I
 rw [← C] at AB
 refine bk 2 U<|aB<|aF<|KK G<|ak<|rP 3 [] mn ?_
 refine aB ?_
 have T:(vI ((j3 l r rs (j-1)).2))=(vI ((min ((j3 l r rs j).2) z.Hi)-y)):=by exact cI (by rw [qg I hx]; simp only; unfold tP; rw [C]; (rw [if_pos A,Y]; done))
 have AA:(vI ((((j-1):Nat):Int)-1))=(vI (((j:Int)-1)-1)):=by exact cI I
 refine aU (F ⟨(j-1),(by first|omega|(simp only []; omega))⟩ _ _ _ U os (cQ 4<|bj U T<|bj U AA<|dI.nil _) (aI [0,1,2,3,4,5,6,7]))
end
section
open Go.RowKit
theorem Ia (l:aY) (kA:OA) (kC:Nat) (az:List RA) (cA:OA) (cC:Nat) (bA:OA) (bC:Nat) (r:cx) (sgA:OA) (sgC:Nat) (vwA:OA) (vwC:Nat) (vtA:OA) (vtC:Nat) (vbA:OA) (vbC k:Nat) (rs:List Int) (rA:OA) (rC:Nat) (fs:List Int) (fA:OA) (fC:Nat) (hin:eA l az) (hle:c_ l=0) (hr:eX l r) (hk:rs.length+k=l.ag.length) (hfl:fs.length=rs.length) (hst:r.Start≤gr r.Start fs∧gr r.Start fs≤r.fE) (hrs: ∀ x∈rs,-1≤x∧x<(r.ah.length:Int)) (hrec: ∀ (k2:Nat) (rs2:List Int) (rA2:OA) (rC2:Nat) (fs2:List Int) (fA2:OA) (fC2:Nat),(k2<k)→(rs2.length+k2=l.ag.length)→(fs2.length=rs2.length)→(r.Start≤gr r.Start fs2∧gr r.Start fs2≤r.fE)→(∀ x∈rs2,-1≤x∧x<(r.ah.length:Int))→D_ Tryz.prog 192 [(vA (b_.cells (lO l kA kC cA cC bA bC))),(vA (dp.cells (lT r sgA sgC))),(vA (iO.cells (iO.mk (bp.mk vwA ((cJ l l.ag.length).length) vwC) (bp.mk vtA ((e8 l r r.ah.length).length) vtC) (bp.mk vbA ((fz l r r.ah.length).length) vbC)))),(vS rA2 rs2.length rC2),(vS fA2 fs2.length fC2)] [(rd kA l.aL.length 9 (l.aL.map al.cells)),(rd cA l.ai.length 2 (List.zipWith ar.cells l.ai az)),(fp (aR ar.ia l.ai az)),(rd bA l.ag.length 4 (l.ag.map bE.cells)),(rd sgA r.ah.length 2 (r.ah.map aH.cells)),(rd vwA ((cJ l l.ag.length).length) 1 ((cJ l l.ag.length).map iC)),(rd vtA ((e8 l r r.ah.length).length) 2 ((e8 l r r.ah.length).map aa.cells)),(rd vbA ((fz l r r.ah.length).length) 1 ((fz l r r.ah.length).map qw))] (br [own rA2 rC2 3 1 (rs2.map iC),own fA2 fC2 3 1 (fs2.map iC)]) (fun (x:(OA)×Nat×(List kU))=>(vS x.1 ((iA l r k2 rs2 fs2).length) x.2.1)) (fun (x:(OA)×Nat×(List kU))=>x.2.2.length=(iA l r k2 rs2 fs2).length) (fun (x:(OA)×Nat×(List kU))=>(br (aR du.owns (iA l r k2 rs2 fs2) x.2.2++[own x.1 x.2.1 269 3 (List.zipWith du.cells (iA l r k2 rs2 fs2) x.2.2)])))):
 D_ Tryz.prog 192 [(vA (b_.cells (lO l kA kC cA cC bA bC))),(vA (dp.cells (lT r sgA sgC))),(vA (iO.cells (iO.mk (bp.mk vwA ((cJ l l.ag.length).length) vwC) (bp.mk vtA ((e8 l r r.ah.length).length) vtC) (bp.mk vbA ((fz l r r.ah.length).length) vbC)))),(vS rA rs.length rC),(vS fA fs.length fC)] [(rd kA l.aL.length 9 (l.aL.map al.cells)),(rd cA l.ai.length 2 (List.zipWith ar.cells l.ai az)),(fp (aR ar.ia l.ai az)),(rd bA l.ag.length 4 (l.ag.map bE.cells)),(rd sgA r.ah.length 2 (r.ah.map aH.cells)),(rd vwA ((cJ l l.ag.length).length) 1 ((cJ l l.ag.length).map iC)),(rd vtA ((e8 l r r.ah.length).length) 2 ((e8 l r r.ah.length).map aa.cells)),(rd vbA ((fz l r r.ah.length).length) 1 ((fz l r r.ah.length).map qw))] (br [own rA rC 3 1 (rs.map iC),own fA fC 3 1 (fs.map iC)]) (fun (x:(OA)×Nat×(List kU))=>(vS x.1 ((iA l r k rs fs).length) x.2.1)) (fun (x:(OA)×Nat×(List kU))=>x.2.2.length=(iA l r k rs fs).length) (fun (x:(OA)×Nat×(List kU))=>(br (aR du.owns (iA l r k rs fs) x.2.2++[own x.1 x.2.1 269 3 (List.zipWith du.cells (iA l r k rs fs) x.2.2)]))):=by
 have Rc:=hin.si
 have QH:=hin.rr
 have Px:=hin.nD
 have QD:=hin.su
 obtain ⟨Lk,GE⟩:=fy hle
 have K5:=GE.head
 unfold gH at K5
 have A1:=hr.len
 have RG:=hr.time
 have Qu:=dH (l:=l) (n:=l.ag.length)
 have R0:=rF (l:=l) (Nat.le_refl r.ah.length)
 have Rb:=uO (l:=l) (Nat.le_refl r.ah.length)
 have R1:=tG rs
 refine mY kr Tryz.func192 U U fun w0 Q hQ hN=>?_
 try dsimp only
 refine CX 0 U U fun wz Sz hz=>?_
 try dsimp only
 refine WS fun _ J8=>fZ U fun b2=>fZ U fun b3=>fZ U fun b4=>bk 1 U<|RK J8<|WS fun _ J9=>bk 1 U<|RK J9<|WS fun _ KC=>bk 4 U<|RK KC<|aj fun _ KR=>WS fun _ KS=>rP 1 [] mn ?_
 refine RK KS<|ax ?_
 have C:(0≤rs.length):=by exact Nat.zero_le _
 have K0:(vI ((di (rs.take 0)).right))=(vI 0):=by rfl
 refine bJ (ι:={z:Nat // (z≤rs.length)}) [3,4,5,6,7,11,12] [0,1,2,3,4,5,6,7,8,9,10,11] U U (fun z=>[(13,(vI ((di (rs.take z.1)).right))),(14,(vI (z.1:Int)))]) (fun z=>[]) (fun _=>rfl) (fun _=>rfl) (fun z=>rs.length-z.1) ⟨0,C⟩ (bj U K0<|aT U) (aI [0,1,2,3,4,5,6,7,8,9,10,11]) ?_
 clear C
 rintro ⟨i,LE⟩ J10 g
 try dsimp only
 have La:=tG (rs.take i)
 rw [List.length_take] at La
 refine aj fun _ A4=>WS fun _ A5=>rP 3 [] mn ?_
 refine RK A5<|cP U (aO fun J2=>?_) (aN fun J2=>?_)
 ·refine WK A4<|aj fun _ h=>ax<|WS fun _ A6=>rP 2 [] mn ?_
  obtain ⟨x,hx⟩:=aK rs i I
  have Ll:=bQ iC hx
  refine rS (IA i U (show jh _ (rd rA rs.length 1 (rs.map iC)).holds from (p6 (c:=rC) (e:=3) 3 U sm sm)) cK dc I I)<|rS (gl i 0 (vI x) U cp (show jh _ (rd rA rs.length 1 (rs.map iC)).holds from (p6 (c:=rC) (e:=3) 3 U sm sm)) Ll U dc U)<|rP 1 [] mn ?_
  refine RK A6<|bR U (aN fun AO=>?_) (aO fun AO=>?_)
  ·refine ct<|aF<|KK h<|ak<|rP 3 [] mn ?_
   refine aB ?_
   have C2:(vI ((di (rs.take (i+1))).right))=(vI ((di (rs.take i)).right)):=by exact cI (by rw [tQ hx]; (rw [if_neg AO]; exact Int.add_zero _))
   have C3:(vI (((i+1):Nat):Int))=(vI ((i:Int)+1)):=by exact cI I
   refine aU (g ⟨(i+1),(by first|omega|(simp only []; omega))⟩ _ _ _ U os (cQ 7<|bj U C2<|bj U C3<|dI.nil _) (aI [0,1,2,3,4,5,6,7,8,9,10,11]))
  refine ak<|bk 3 U<|aB<|aF<|KK h<|ak<|rP 3 [] mn ?_
  refine aB ?_
  have Cx:(vI ((di (rs.take (i+1))).right))=(vI (((di (rs.take i)).right)+1)):=by exact cI (by rw [tQ hx]; (rw [if_pos AO]; done))
  have C0:(vI (((i+1):Nat):Int))=(vI ((i:Int)+1)):=by exact cI I
  refine aU (g ⟨(i+1),(by first|omega|(simp only []; omega))⟩ _ _ _ U os (cQ 7<|bj U Cx<|bj U C0<|dI.nil _) (aI [0,1,2,3,4,5,6,7,8,9,10,11]))
 refine bB<|ab<|ab<|ay<|KK KR<|aj fun _ A7=>aj fun _ A8=>?_
 rw [show rs.take i=rs from List.take_of_length_le I]
 refine ak<|rP 6 [] (mc 2 U mn) ?_
 refine RK A8<|cP U (aO fun J4=>?_) (aN fun J4=>?_)
 ·refine WS fun _ A9=>dY 269 3<|rP 1 [] mn ?_
  refine RK A9<|av<|AV (C1:=[(own none 0 269 3 [])]) hz [0] U U U<|QB (W:=iA l r k rs fs) ?_
  rw [show (own none 0 269 3 [])=(own none 0 269 3 (List.zipWith du.cells (iA l r k rs fs) [])) from by rw [nX I]; rfl]
  refine LM hQ (none,0,[]) 0 [] mn U (by show List.all _ _=true; rw [List.all_append,pN]; rfl) U ?_ ?_
  ·exact (by rw [nX I]; rfl)
  ·rw [nX I]; rfl
 refine WK A7 ?_
 refine np (ι:={z:(OA)×Nat×(List kU)×(List aw) // (w4 l r rs fs (rA,rC) (fA,fC) z.2.2.1 z.2.2.2)}) [3,4,5,6,7,12] [0,1,2,3,4,5,6,7,8,9,10,11] U U (fun z=>[(11,(vS z.1.1 ((g6 l r rs fs).length) z.1.2.1))]) (fun z=>[(own z.1.1 z.1.2.1 269 3 (List.zipWith du.cells (g6 l r rs fs) z.1.2.2.1)),(br z.1.2.2.2)]) (fun _=>rfl) (fun _=>rfl) ?_ fun K23 m=>?_
 ·rintro ⟨⟨oA,oC,E,LA⟩,H⟩
  try dsimp only at H
  try dsimp only
  have D:=H
  have K8:=D.len
  have QU:=xE (l:=l) (r:=r) (rs:=rs) (fs:=fs)
  refine aj fun _ V=>WS fun _ BF=>rP 4 [] (mc 2 U mn) ?_
  have R2:=u3 (l:=l) (r:=r) (rs:=rs) (fs:=fs) A1 (k:=k) I
  refine rP 1 [] mn ?_
  refine RK BF<|cP U (aO fun J5=>?_) (aN fun J5=>?_)
  ·refine WS fun _ Bb=>bk 1 U<|rP 1 [] mn ?_
   refine RK Bb<|av ?_
   obtain rfl:k=0:=by omega
   refine FL ?_
   try dsimp only
   refine AV (C1:=[(own oA oC 269 3 (List.zipWith du.cells (g6 l r rs fs) E)),(br LA),(br (aR du.owns [] []))]) hz [13,14,0] U U (by simp only [fm,List.all_nil,Bool.and_true,cU]; exact ⟨U,D.wr,pN _ _⟩) ?_
   refine I8 (ra:=(rA,rC)) (fa:=(fA,fC)) (A':=(own oA oC 269 3 (List.zipWith du.cells (iA l r 0 rs fs) E))) D ((List.append_nil _).trans (ob I).symm) (List.append_nil _) (by rw [ob I]) ?_
   refine LM hQ (oA,oC,E) 0 [] mn U (by show List.all _ _=true; rw [List.all_append,pN]; rfl) U ?_ ?_
   ·exact (by (rw [ob I]; rfl))
   ·rw [ob I]; exact K8
  refine WK V<|WS fun _ Bg=>?_
  obtain ⟨B,rfl⟩: ∃ B,k=B+1:=⟨k-1,I⟩
  refine rP 3 [] (mc 1 U mn) ?_
  refine RK Bg ?_
  refine np (ι:=Unit) [3,4,5,6,7,11,12] [0,1,2,3,4,5,6,7,8,9,10,11,12,13] U U (fun z=>[(15,(vI (gr r.Start fs)))]) (fun z=>[]) (fun _=>rfl) (fun _=>rfl) ?_ fun K28 o=>?_
  ·intro _
   try dsimp only
   refine WS fun _ Z=>rP 4 [] (mc 0 U mn) ?_
   obtain ⟨yls,GZ⟩:=aK (cJ l l.ag.length) (rs.length) I
   have Go:=bQ iC GZ
   refine rS (IA rs.length U (aA 9 U) cK dc I I)<|rS (gl rs.length 0 (vI yls) U cp (aA 9 U) Go U dc U) ?_
   have Qr:=nK Lk GE (i:=rs.length) I
   rw [vj GZ]
   refine bk 2 U<|RK Z<|aj fun _ Bs=>WS fun _ B3=>rP 1 [] mn ?_
   refine RK B3<|ax ?_
   rw [show (g6 l r rs fs)=((g6 l r rs fs)++(iH l r B rs fs 0)) from (List.append_nil _).symm]
   rw [show E=E++[] from (List.append_nil _).symm]
   refine l9 ?_
   try dsimp only
   have C:(0≤r.ah.length+1)∧(([]:List kU).length=(iH l r B rs fs 0).length):=by exact ⟨Nat.zero_le _,rfl⟩
   have d:(vI ((0:Int)-1))=(vI (-1)):=by exact cI I
   refine bJ (ι:={z:Nat×(OA)×Nat×(List kU) // (z.1≤r.ah.length+1)∧(z.2.2.2.length=(iH l r B rs fs z.1).length)}) [3,4,5,6,7,12,15] [1,2,3,4,5,6,7,8,9,10,11,12,14] U U (fun z=>[(11,(vS z.1.2.1 (((g6 l r rs fs)++(iH l r B rs fs z.1.1)).length) z.1.2.2.1)),(16,(vI ((z.1.1:Int)-1)))]) (fun z=>[(br (aR du.owns (iH l r B rs fs z.1.1) z.1.2.2.2)),(own z.1.2.1 z.1.2.2.1 269 3 (List.zipWith du.cells ((g6 l r rs fs)++(iH l r B rs fs z.1.1)) (E++z.1.2.2.2)))]) (fun _=>rfl) (fun _=>rfl) (fun z=>r.ah.length+1-z.1.1) ⟨(0,oA,oC,([]:List kU)),C⟩ (dI.cons U<|bj U d<|dI.nil _) (aI [1,2,3,4,5,6,7,8,9,10,11,12,14,0,13]) ?_
   clear C
   rintro ⟨⟨j,M,N,azW⟩,⟨f,A⟩⟩ J33 O
   try dsimp only at f A
   try dsimp only
   have Li:=I_ (l:=l) (r:=r) (k:=B) (j:=j) (rs:=rs) (fs:=fs) A1 I I
   refine aj fun _ B7=>WS fun _ B9=>rP 5 [] (mc 1 U mn) ?_
   refine RK B9<|bR U (aN fun J3=>?_) (aO fun J3=>?_)
   ·refine bB<|ab<|ab<|ay<|KK Bs<|WS fun _ Cp=>bk 1 U<|rP 1 [] mn ?_
    refine RK Cp<|av ?_
    refine AV (C1:=[(own M N 269 3 (List.zipWith du.cells ((g6 l r rs fs)++(iH l r B rs fs j)) (E++azW))),(br LA),(br (aR du.owns (iH l r B rs fs j) azW))]) hz [14,12,13] U U (by simp only [fm,List.all_nil,Bool.and_true,cU]; exact ⟨U,D.wr,pN _ _⟩) ?_
    refine I8 (ra:=(rA,rC)) (fa:=(fA,fC)) (W:=iA l r (B+1) rs fs) (A':=(own M N 269 3 (List.zipWith du.cells (iA l r (B+1) rs fs) (E++azW)))) D (by rw [nN I,r_,show r.ah.length+1=j by omega]) U (by rw [nN I,r_,show r.ah.length+1=j by omega]) ?_
    refine LM hQ (M,N,(E++azW)) 0 [] mn U (by show List.all _ _=true; rw [List.all_append,pN]; rfl) U ?_ ?_
    ·exact (by (rw [nN I,r_,show r.ah.length+1=j by omega]; rfl))
    ·rw [nN I,r_,show r.ah.length+1=j by omega]; simp only [List.length_append]; omega
   refine WK B7<|aj fun _ P=>ax<|aj fun _ Ci=>dM cE 5 kr<|dP 5 [] (mc 1 U mn) ?_
   refine cR<|RK Ci ?_
   refine np (ι:={z:Int×Int // ((z.1≤z.2→o7 l r rs.length (gr r.Start fs+ej l rs.length) ((j:Int)-1)=some z.1)∧(¬ z.1≤z.2→o7 l r rs.length (gr r.Start fs+ej l rs.length) ((j:Int)-1)=none))∧(r.Start≤z.1∧z.2≤r.fE)}) [3,4,5,6,7,11,12,15,16] [0,1,2,3,4,5,6,7,8,9,10,11,12,13,14] U U (fun z=>[(17,(vI z.1.1)),(18,(vI z.1.2))]) (fun z=>[]) (fun _=>rfl) (fun _=>rfl) ?_ fun K39 p=>?_
   ·rintro ⟨⟨tt,ee⟩,⟨AB,J⟩⟩
    try dsimp only at AB J
    try dsimp only
    have Fn:=AB
    have Qb:=J
    refine WS fun _ a=>rP 3 [] mn ?_
    refine RK a<|bR U (aN fun AA=>?_) (aO fun AA=>?_)
    ·refine ct<|aF<|KK P<|ak<|rP 3 [] mn ?_
     refine aB ?_
     have L:(iH l r B rs fs (j+1))=(iH l r B rs fs j):=by exact qV (Fn.2 AA)
     rw [← L]
     have FS:(vI ((((j+1):Nat):Int)-1))=(vI (((j:Int)-1)+1)):=by exact cI I
     refine aU (O ⟨((j+1),M,N,azW),⟨I,by dsimp only; (rw [L]; exact A)⟩⟩ _ _ _ U os (cQ 8<|bj U FS<|dI.nil _) (aI [0,1,2,3,4,5,6,7,8,9,10,11,12,13,14]))
    refine UA (L':=[(3,(vS rA rs.length rC)),(4,(vS fA fs.length fC)),(5,(vP b2)),(6,(vP b3)),(7,(vP b4)),(11,(vS M (((g6 l r rs fs)++(iH l r B rs fs j)).length) N)),(12,(vI (rs.length:Int))),(15,(vI ((gr r.Start fs)+(ej l rs.length)))),(16,(vI ((j:Int)-1))),(17,(vI tt)),(18,(vI ee)),(123,(vI tt)),(124,(vI ee)),(125,(vB (decide (tt≤ee))))]) rfl<|p9 cE [0,1,2,3,5,7,11,13] [4,6,8,9,10,12,14,15,16,17,18] [false,false,false,false,false,false,false,false] [] [(cm b4 266 (iO.cells (iO.mk (bp.mk vwA ((cJ l l.ag.length).length) vwC) (bp.mk vtA ((e8 l r r.ah.length).length) vtC) (bp.mk vbA ((fz l r r.ah.length).length) vbC)))),(cm b3 60 (dp.cells (lT r sgA sgC))),(cm b2 28 (b_.cells (lO l kA kC cA cC bA bC))),(br [own rA rC 3 1 (rs.map iC),own fA fC 3 1 (fs.map iC)]).ro,(rd kA l.aL.length 9 (l.aL.map al.cells)).ro,(rd cA l.ai.length 2 (List.zipWith ar.cells l.ai az)).ro,(fp (aR ar.ia l.ai az)).ro,(rd bA l.ag.length 4 (l.ag.map bE.cells)).ro,(rd sgA r.ah.length 2 (r.ah.map aH.cells)).ro,(rd vwA ((cJ l l.ag.length).length) 1 ((cJ l l.ag.length).map iC)).ro,(rd vtA ((e8 l r r.ah.length).length) 2 ((e8 l r r.ah.length).map aa.cells)).ro,(rd vbA ((fz l r r.ah.length).length) 1 ((fz l r r.ah.length).map qw)).ro,(br LA),(br (aR du.owns (iH l r B rs fs j) azW))] [] kr (aI [0,1,2,3,4,5,6,7,8,9,10,11,12,13]) (aI [])<|eS rfl (MV rfl)<|eS rfl (LW 2 rfl cp rfl rfl)<|eS rfl (LW 1 rfl cp rfl rfl)<|eS rfl (LW 0 rfl cp rfl rfl)<|eS rfl (MV rfl)<|eS rfl (MV rfl)<|eS rfl (MV rfl)<|eS rfl (MV rfl)<|eU rfl<|N0 [.take 4,.op 6,.take 8,.op 9,.take 10,.op 12,.take 14,.op 15,.op 16,.op 17,.op 18] [(133,(vI ((j:Int)-1))),(139,(vI tt))] (fun i=>match i with |4=>130|8=>134|10=>136|14=>140|_=>0) (fun i b=>match i with |4=> .slice (some ⟨b,0,none⟩) 0 0|8=> .slice (some ⟨b,0,none⟩) 1 1|10=> .slice (some ⟨b,0,none⟩) 0 0|14=> .slice (some ⟨b,0,none⟩) 1 1|_=>undef) (fun i b=>match i with |4=>cm b 3 []|8=>cm b 3 [(vI ((j:Int)-1))]|10=>cm b 3 []|14=>cm b 3 [(vI tt)]|_=>cm b 0 []) rfl rfl rfl kr rfl rfl (aI [0,1,2,3,4,5,6,7,8,9,10,11,12,13]) (wL (M0 rfl cK rfl rfl (fun _=>rfl) fun _=>rfl)<|yP<|wL (P6 (xs:=[.tmp 133]) (cs:=[(vI ((j:Int)-1))]) rfl cK jA rfl rfl rfl rfl (by simp [Value.cells]) rfl rfl rfl (fun _=>rfl) fun _=>rfl)<|yP<|wL (M0 rfl cK rfl rfl (fun _=>rfl) fun _=>rfl)<|yP<|wL (P6 (xs:=[.tmp 139]) (cs:=[(vI tt)]) rfl cK jA rfl rfl rfl rfl (by simp [Value.cells]) rfl rfl rfl (fun _=>rfl) fun _=>rfl)<|yP<|yP<|yP<|yP<|Qf) ?_
    intro If
    try dsimp only
    refine xq U fun Y X K hT=>cW (es:=(List.map iC [])) (C':=[own (some ⟨If,0,none⟩) 0 3 1 (List.map iC []),_,_,_,_,_,_,_,_,_,_,_,_,_,_,_]++X) 0 U sm U (by simp [maxLen]) U ?_
    refine cL (es2:=(List.map iC rs)) (m':=rs.length) 0 U U U o9 U U sm (show jh _ (rd rA rs.length 1 (rs.map iC)).holds from (p6 (c:=rC) (e:=3) 4 U sm sm)) (jX _) (by first|omega|(simp; done)|(simp; omega)) (by (simp only [maxLen]; omega)) sm sm U fun OK Pi=>?_
    try dsimp only
    refine tg hT 24 16 U U (fun w hs=>St.kD [1,2,3,4,5,6,7,8,9,10,11,12,13,14] U U hs) U U ?_
    try dsimp only [List.take]
    intro Os
    try dsimp only
    refine xq U fun Y X K hT=>?_
    refine cL (es2:=(List.map iC (rs++[(j:Int)-1]))) (m':=(rs++[(j:Int)-1]).length) 1 U U U o9 U U sm (bf (es:=List.map iC [((j:Int)-1)]) 0 U U (by simp [bH]) U) (jX _) (by first|omega|(simp; done)|(simp; omega)) (by (simp only [maxLen]; omega)) sm sm U fun IO JN=>?_
    try dsimp only
    refine tg hT 26 17 U U (fun w hs=>St.kD [2,3,4,5,6,7,8,9,10,11,12,13,14,15] U U hs) U U ?_
    try dsimp only [List.take]
    intro In
    try dsimp only
    refine xq U fun Y X K hT=>cW (es:=(List.map iC [])) (C':=[own (some ⟨In,0,none⟩) 0 3 1 (List.map iC []),_,_,_,_,_,_,_,_,_,_,_,_,_,_,_,_,_]++X) 0 U sm U (by simp [maxLen]) U ?_
    refine cL (es2:=(List.map iC fs)) (m':=fs.length) 0 U U U o9 U U sm (show jh _ (rd fA fs.length 1 (fs.map iC)).holds from (p6 (c:=fC) (e:=3) 6 U sm sm)) (jX _) (by first|omega|(simp; done)|(simp; omega)) (by (simp only [maxLen]; omega)) sm sm U fun Op Pl=>?_
    try dsimp only
    refine tg hT 28 18 U U (fun w hs=>St.kD [3,4,5,6,7,8,9,10,11,12,13,14,15,16] U U hs) U U ?_
    try dsimp only [List.take]
    intro PP
    try dsimp only
    refine xq U fun Y X K hT=>?_
    refine cL (es2:=(List.map iC (fs++[tt]))) (m':=(fs++[tt]).length) 1 U U U o9 U U sm (bf (es:=List.map iC [tt]) 0 U U (by simp [bH]) U) (jX _) (by first|omega|(simp; done)|(simp; omega)) (by (simp only [maxLen]; omega)) sm sm U fun IR JO=>?_
    try dsimp only
    refine tg hT 30 19 U U (fun w hs=>St.kD [4,5,6,7,8,9,10,11,12,13,14,15,16,17] U U hs) U U ?_
    try dsimp only [List.take]
    refine xq U fun Y X K hT=>?_
    have R:=Fn.1 AA
    refine xG<|rZ 4 U ?_
    try dsimp only [List.eraseIdx]
    refine Aw U<|rZ 2 U ?_
    try dsimp only [List.eraseIdx]
    refine Aw U ?_
    try dsimp only
    refine jm 0 rfl rfl rfl rfl (hrec B (rs++[(j:Int)-1]) IO JN (fs++[tt]) IR JO I (by simp only [List.length_append,List.length_singleton]; omega) (by simp only [List.length_append,List.length_singleton]; omega) (by rw [nG]; omega) (by intro x hx; rcases dN.1 hx with hx|hx; exact hrs x hx; rw [bI.1 hx]; omega)) rfl (eu 7 rfl rfl (dT (bU _)) (eu 8 rfl rfl (dT (bU _)) (eu 9 rfl rfl (dT (bU _)) (eu 10 rfl rfl (dT (bU _)) (eu 11 rfl rfl (dT (bU _)) (eu 12 rfl rfl (dT (bU _)) (eu 13 rfl rfl (dT (bU _)) (eu 14 rfl rfl (dT (bU _)) kJ)))))))) rfl (fun L2 A2=>?_)
    obtain ⟨NN,Ne,v⟩:=L2
    try dsimp only
    dsimp only at A2
    refine tg hT 31 18 U U (fun w hs=>St.kD [3,4,5,6,7,8,9,10,11,12,13,14,15,16] U U hs) U U ?_
    try dsimp only [List.take]
    refine xq U fun Y X K hT=>rZ 0 U ?_
    try dsimp only [List.eraseIdx]
    refine Ap ?_
    have R3:=u3 (l:=l) (r:=r) (k:=B) (rs:=(rs++[(j:Int)-1])) (fs:=(fs++[tt])) A1 I
    refine cL (es2:=(List.zipWith du.cells ((g6 l r rs fs)++(iH l r B rs fs (j+1))) (E++(azW++v)))) (m':=((g6 l r rs fs)++(iH l r B rs fs (j+1))).length) 18 U U U PI U U (tF (by simp only [List.length_append]; omega)).symm (ae (n:=(iA l r B (rs++[(j:Int)-1]) (fs++[tt])).length) 0 U (tF A2)) (DD _ _) (by simp only [List.length_append]; omega) (by simp only [List.length_append,maxLen]; omega) (by rw [nJ R,← List.append_assoc,← List.append_assoc]; exact (Jj (by simp only [List.length_append]; omega)).symm) (tF (by rw [nJ R]; simp only [List.length_append]; omega)) U fun Id Jc=>?_
    try dsimp only
    refine tg hT 32 19 U U (fun w hs=>St.kD [4,5,6,7,8,9,10,11,12,13,14,15,16,17] U U hs) U U ?_
    try dsimp only [List.take]
    refine xq U fun Y X K hT=>rS (AG U)<|tg hT 33 19 U U (fun w hs=>St.kD [4,5,6,7,8,9,10,11,12,13,14,15,16,17] U U hs) U U ?_
    try dsimp only [List.take]
    refine aF<|KK P<|ak<|rP 3 [] mn ?_
    refine aB<|F2 1 U ?_
    try dsimp only [List.eraseIdx]
    refine F2 17 U ?_
    try dsimp only [List.eraseIdx]
    refine KY A ?_
    rw [← nJ R]
    try dsimp only
    have Eq:(vI ((((j+1):Nat):Int)-1))=(vI (((j:Int)-1)+1)):=by exact cI I
    refine aU (O ⟨((j+1),Id,Jc,(azW++v)),⟨I,by dsimp only; (rw [nJ R,List.length_append,List.length_append,A,A2])⟩⟩ _ _ _ U os (cQ 8<|bj U Eq<|dI.nil _) (aI [4,5,6,7,8,9,10,11,12,13,14,15,16,0,17]))
   refine WS fun _ a=>rP 2 [] mn ?_
   refine RK a<|bR U (aN fun J7=>?_) (aO fun J7=>?_)
   ·refine ct ?_
    refine aU (jr (aT U) (aI [0,1,2,3,4,5,6,7,8,9,10,11,12,13,14]) (p ⟨(((gr r.Start fs)+(ej l rs.length)),r.fE),⟨by exact K3 I,I⟩⟩))
   refine aj fun _ Ck=>WS fun _ u=>rP 3 [] (mc 1 U mn) ?_
   obtain ⟨s,hs⟩:=aK r.ah ((((j:Int)-1)).toNat) I
   have LT:=bQ aH.cells hs
   refine rS (IA ((((j:Int)-1)).toNat) U (aA 8 U) wh dc I I)<|rS (lZ (((((j:Int)-1)).toNat)*2) U (aA 8 U) (Nat.mul_pos I dc) fc U)<|rS (gl ((((j:Int)-1)).toNat) 0 (vI s.fR) U cp (aA 8 U) LT U dc U) ?_
   have RM:=(hr.sig _ s hs).1
   refine rP 3 [] mn ?_
   refine dx (t:=99) U (bw fun A3=>?_) (bu fun A3=>?_)
   ·refine bk 7 U<|RK u<|aQ U<|bB<|ab<|ab<|ay<|KK P<|ak<|rP 3 [] mn ?_
    refine aB ?_
    have L:(iH l r B rs fs (j+1))=(iH l r B rs fs j):=by exact qV (xP I hs (fun q=>A3 I))
    rw [← L]
    have D9:(vI ((((j+1):Nat):Int)-1))=(vI (((j:Int)-1)+1)):=by exact cI I
    refine aU (O ⟨((j+1),M,N,azW),⟨I,by dsimp only; (rw [L]; exact A)⟩⟩ _ _ _ U os (cQ 8<|bj U D9<|dI.nil _) (aI [0,1,2,3,4,5,6,7,8,9,10,11,12,13,14]))
   refine rP 3 [] (mc 0 U mn) ?_
   obtain ⟨bs,A0⟩:=aK (fz l r r.ah.length) ((((j:Int)-1)).toNat) I
   have Fd:=bQ qw A0
   refine rS (IA ((((j:Int)-1)).toNat) U (aA 11 U) PL dc I I)<|rS (gl ((((j:Int)-1)).toNat) 0 (vB bs) U cp (aA 11 U) Fd U dc U)<|rP 2 [] mn ?_
   refine RK u<|cP U (fun F=>?_) (fun F=>?_)
   ·rw [Bool.not_eq_true'] at F
    refine bB<|ab<|ab<|ay<|KK P<|ak<|rP 3 [] mn ?_
    refine aB ?_
    have L:(iH l r B rs fs (j+1))=(iH l r B rs fs j):=by exact qV (xP I hs (fun q=>by rw [(CC hs A0).2 q.2] at F; cases F))
    rw [← L]
    have EQ:(vI ((((j+1):Nat):Int)-1))=(vI (((j:Int)-1)+1)):=by exact cI I
    refine aU (O ⟨((j+1),M,N,azW),⟨I,by dsimp only; (rw [L]; exact A)⟩⟩ _ _ _ U os (cQ 8<|bj U EQ<|dI.nil _) (aI [0,1,2,3,4,5,6,7,8,9,10,11,12,13,14]))
   rw [Bool.not_eq_false'] at F
   refine WK Ck<|dM cE 18 kr<|dP 4 [] (mc 0 U mn) ?_
   obtain ⟨z,hz⟩:=aK (e8 l r r.ah.length) ((((j:Int)-1)).toNat) I
   have Hy:=bQ aa.cells hz
   refine dS (IA ((((j:Int)-1)).toNat) U (aA 10 U) hU dc I I)<|dS (lZ (((((j:Int)-1)).toNat)*2) U (aA 10 U) (Nat.mul_pos I dc) fc U) ?_
   have H1:=Kn hs hz
   have Ls:=wS l s
   rw [← H1] at Ls
   have K4:(cD l s).Lo≤(cD l s).Hi:=(CC hs A0).1 F
   refine dS (gl ((((j:Int)-1)).toNat) 0 (vI z.Lo) U cp (aA 10 U) Hy U dc U)<|dS (MX U)<|m_ 4 [] (mc 0 U mn) U<|dS (IA ((((j:Int)-1)).toNat) U (aA 10 U) hU dc I I)<|dS (lZ ((((((j:Int)-1)).toNat)*2)+1) U (aA 10 U) (Nat.mul_pos I dc) fc U)<|dS (gl ((((j:Int)-1)).toNat) 1 (vI z.Hi) U cp (aA 10 U) Hy U dc U)<|dS (MN U)<|dP 2 [] mn ?_
   refine cR<|aB ?_
   refine aU (jr (aT U) (aI [0,1,2,3,4,5,6,7,8,9,10,11,12,13,14]) (p ⟨((max ((gr r.Start fs)+(ej l rs.length)) z.Lo),(min r.fE z.Hi)),⟨by (rw [H1]; exact Kc I hs I K4),I⟩⟩))
  refine WS fun _ Z=>rP 2 [] mn ?_
  refine RK Z<|bR U (aN fun J6=>?_) (aO fun J6=>?_)
  ·refine ct ?_
   have Do:(vI (gr r.Start fs))=(vI r.Start):=by exact cI (by have e:fs=[]:=j1 I; rw [e]; rfl)
   refine aU (jr (cQ 7<|bj U Do<|dI.nil _) (aI [0,1,2,3,4,5,6,7,8,9,10,11,12,13]) (o ()))
  refine ak<|rP 3 [] mn ?_
  obtain ⟨xf,GF⟩:=aK fs (rs.length-1) I
  have GT:=bQ iC GF
  refine rS (IA (rs.length-1) U (show jh _ (rd fA fs.length 1 (fs.map iC)).holds from (p6 (c:=fC) (e:=3) 3 U sm sm)) cK dc I I)<|rS (gl (rs.length-1) 0 (vI xf) U cp (show jh _ (rd fA fs.length 1 (fs.map iC)).holds from (p6 (c:=fC) (e:=3) 3 U sm sm)) GT U dc U)<|rP 1 [] mn ?_
  refine aB ?_
  have Di:(vI (gr r.Start fs))=(vI xf):=by exact cI (DQ _ _ _ (by rw [hfl]; exact GF))
  refine aU (jr (cQ 7<|bj U Di<|dI.nil _) (aI [0,1,2,3,4,5,6,7,8,9,10,11,12,13]) (o ()))
 refine WS fun _ V=>rP 8 [0,1] (mc 1 U (mc 2 U mn)) ?_
 refine RK V<|bR U (aN fun G=>?_) (aO fun G=>?_)
 ·refine ct<|FL<|Iu 269 3 ?_
  rw [show (own none 0 269 3 [])=(own none 0 269 3 (List.zipWith du.cells (g6 l r rs fs) [])) from by rw [xN G]; rfl]
  have D2:(vS none ((g6 l r rs fs).length) 0)=(vS none 0 0):=by first|rfl|(rw [xN G]; rfl)
  refine aU (jr (cQ 6<|bj U D2<|dI.nil _) (aI [2,3,4,5,6,7,8,9,10,11,12,13,0,1]) (m ⟨(none,0,[],[]),(by exact .inr ⟨G,U,U⟩)⟩))
 refine ak<|rP 6 [0,1] (mc 1 U (mc 0 U mn)) ?_
 refine cX (Mu r sgA sgC l vwA vwC vtA vtC vbA vbC rs rA rC hle hr I (by exact fun x hx h0=>(hrs x hx).2)) (mu [8,9,10,11]<|aq (show jh _ (rd rA rs.length 1 (rs.map iC)).holds from (p6 (c:=rC) (e:=3) 3 U sm sm))<|aJ) U fun L0 NE=>?_
 obtain ⟨S,T⟩:=L0
 try dsimp only
 refine rS (SX (bg (xs:=[(0,.tmp 48),(1,.tmp 49),(2,.tmp 53)]) (cs:=(yH.cells (yH.mk (bp.mk rA rs.length rC) (bp.mk fA fs.length fC) (bp.mk S ((jK l r rs).length) T)))) U U (bh SR U)) U U)<|dj (xs:=[.tmp 54]) (cs:=(yH.cells (yH.mk (bp.mk rA rs.length rC) (bp.mk fA fs.length fC) (bp.mk S ((jK l r rs).length) T)))) U G7 Ti U U U U (by simp [Value.cells,yH.aW]) U U fun Or=>dY 269 3 ?_
 refine cL (es2:=(List.zipWith du.cells (g6 l r rs fs) ([((rA,rC),(fA,fC),(S,T))]))) (m':=(g6 l r rs fs).length) 0 rfl rfl rfl PI rfl rfl rfl (bf (es:=List.zipWith du.cells [(du.mk rs fs (jK l r rs))] [((rA,rC),(fA,fC),(S,T))]) 1 rfl rfl (by intro e he; simp at he; subst he; rfl) rfl) (DD _ _) dc dc (by rw [zy G]; rfl) (by rw [zy G]; rfl) rfl fun y AC=>?_
 try dsimp only
 refine xG<|PE 0 3 U U U ?_
 try dsimp only
 refine rP 1 [] mn ?_
 refine aB ?_
 have d:(vS y ((g6 l r rs fs).length) AC)=(vS y ((g6 l r rs fs).length) AC):=by first|rfl|(rw [xN G]; rfl)
 refine aU (jr (cQ 6<|bj U d<|dI.nil _) (aI [3,4,5,6,7,8,9,10,11,12,13,14,1,0]) (m ⟨(y,AC,[((rA,rC),(fA,fC),(S,T))],[(own S T 3 1 ((jK l r rs).map iC))]),(by exact .inl ⟨G,_,U,U⟩)⟩))
theorem Q4 (l:aY) (kA:OA) (kC:Nat) (az:List RA) (cA:OA) (cC:Nat) (bA:OA) (bC:Nat) (r:cx) (sgA:OA) (sgC:Nat) (vwA:OA) (vwC:Nat) (vtA:OA) (vtC:Nat) (vbA:OA) (vbC k:Nat) (rs:List Int) (rA:OA) (rC:Nat) (fs:List Int) (fA:OA) (fC:Nat) (hin:eA l az) (hle:c_ l=0) (hr:eX l r) (hk:rs.length+k=l.ag.length) (hfl:fs.length=rs.length) (hst:r.Start≤gr r.Start fs∧gr r.Start fs≤r.fE) (hrs: ∀ x∈rs,-1≤x∧x<(r.ah.length:Int)):
 D_ Tryz.prog 192 [(vA (b_.cells (lO l kA kC cA cC bA bC))),(vA (dp.cells (lT r sgA sgC))),(vA (iO.cells (iO.mk (bp.mk vwA ((cJ l l.ag.length).length) vwC) (bp.mk vtA ((e8 l r r.ah.length).length) vtC) (bp.mk vbA ((fz l r r.ah.length).length) vbC)))),(vS rA rs.length rC),(vS fA fs.length fC)] [(rd kA l.aL.length 9 (l.aL.map al.cells)),(rd cA l.ai.length 2 (List.zipWith ar.cells l.ai az)),(fp (aR ar.ia l.ai az)),(rd bA l.ag.length 4 (l.ag.map bE.cells)),(rd sgA r.ah.length 2 (r.ah.map aH.cells)),(rd vwA ((cJ l l.ag.length).length) 1 ((cJ l l.ag.length).map iC)),(rd vtA ((e8 l r r.ah.length).length) 2 ((e8 l r r.ah.length).map aa.cells)),(rd vbA ((fz l r r.ah.length).length) 1 ((fz l r r.ah.length).map qw))] (br [own rA rC 3 1 (rs.map iC),own fA fC 3 1 (fs.map iC)]) (fun (x:(OA)×Nat×(List kU))=>(vS x.1 ((iA l r k rs fs).length) x.2.1)) (fun (x:(OA)×Nat×(List kU))=>x.2.2.length=(iA l r k rs fs).length) (fun (x:(OA)×Nat×(List kU))=>(br (aR du.owns (iA l r k rs fs) x.2.2++[own x.1 x.2.1 269 3 (List.zipWith du.cells (iA l r k rs fs) x.2.2)]))):=by
 induction k using Nat.strongRecOn generalizing rs rA rC fs fA fC with
 |ind k ih=>exact Ia l kA kC az cA cC bA bC r sgA sgC vwA vwC vtA vtC vbA vbC k rs rA rC fs fA fC hin hle hr hk hfl hst hrs (fun L F D E C A B G H AA J K=>ih L G F D E C A B H AA J K)
end
section
open Go.RowKit
theorem ON (l:aY) (kA:OA) (kC:Nat) (az:List RA) (cA:OA) (cC:Nat) (bA:OA) (bC:Nat) (r:cx) (sgA:OA) (sgC:Nat) (hin:eA l az) (hsl:r.ah.length≤1000000):
 lB Tryz.prog 187 [(vA (b_.cells (lO l kA kC cA cC bA bC))),(vA (dp.cells (lT r sgA sgC)))] [(rd kA l.aL.length 9 (l.aL.map al.cells)),(rd cA l.ai.length 2 (List.zipWith ar.cells l.ai az)),(fp (aR ar.ia l.ai az)),(rd bA l.ag.length 4 (l.ag.map bE.cells)),(rd sgA r.ah.length 2 (r.ah.map aH.cells))] (fun (x:Bool×Int×(OA)×Nat×(List kU))=>bif x.1 then (vT [(vS x.2.2.1 ((qA l r).length) x.2.2.2.1),(vI 0)]) else (vT [(vS none 0 0),(vI x.2.1)])) (fun (x:Bool×Int×(OA)×Nat×(List kU))=>(x.1=true→(dU l r 0=0∧x.2.2.2.2.length=(qA l r).length))∧(x.1=false→(x.2.1=dU l r 0∧ ¬ dU l r 0=0))) (fun (x:Bool×Int×(OA)×Nat×(List kU))=>bif x.1 then [(own x.2.2.1 x.2.2.2.1 269 3 (List.zipWith du.cells (qA l r) x.2.2.2.2)),(br (aR du.owns (qA l r) x.2.2.2.2))] else []):=by
 have k:=hin.si
 have j:=hin.rr
 have h:=hin.nD
 have i:=hin.su
 refine dh kr Tryz.func187 U U fun o Q hQ hN=>?_
 try dsimp only
 refine WS fun _ X=>fZ U fun m=>fZ U fun n=>bk 2 U<|RK X<|aj fun _ Y=>WS fun _ Z=>fP 1 [] (mc 1 U mn) U<|rS (CL (CA l kA kC az cA cC bA bC hin) (bo [2,3,4,5]) U)<|bk 1 U<|RK Z<|WS fun _ a=>rP 2 [] mn ?_
 refine RK a<|cP U (bw fun A=>?_) (bu fun A=>?_)
 ·refine WS fun _ b=>rP 3 [] mn ?_
  refine RK b<|av<|LX hQ (false,(c_ l),none,0,[]) [] [] mn U (by rfl) U U ?_
  exact sw<|MW (oW (r:=r) (me:=0) A) A
 refine WK Y<|aj fun _ c=>WS fun _ d=>fP 2 [0,1] (mc 1 U (mc 0 U mn)) U<|rS (CL (Pb l kA kC az cA cC bA bC r sgA sgC hin (by exact hsl)) (bo [2,3,4,5,6]) U)<|rP 1 [] mn ?_
 refine RK d<|cP U (bw fun B=>?_) (bu fun B=>?_)
 ·refine WS fun _ D=>rP 2 [] mn ?_
  refine RK D<|av<|LX hQ (false,51,none,0,[]) [] [] mn U (by rfl) U U ?_
  exact sw<|qp (jE (me:=0) A B)
 refine WK c<|aj fun _ E=>dK cE [4,5,6] [] [] [0,1,2,3,4,5,6] [] U U U U U<|eS U (LW 1 U cp U U)<|eS U (LW 0 U cp U U)<|eS U (LW 1 U cp U U)<|eS U (LW 0 U cp U U)<|eU U<|cf U fun T12 J=>cX (Om l kA kC az cA cC bA bC r sgA sgC hin (by exact A) (by exact B)) (bo [2,3,4,5,6]) U fun e g=>?_
 obtain ⟨V,W,T,AA,R,S⟩:=e
 try dsimp only
 refine aB (J _ _ (aI [3,4,5,6,7,8,9]) ?_)
 refine cf U fun T21 K=>dY 3 1<|dY 3 1<|xG<|rZ 1 U ?_
 try dsimp only [List.eraseIdx]
 refine Aw U<|rZ 1 U ?_
 try dsimp only [List.eraseIdx]
 refine Aw U ?_
 try dsimp only
 refine jm 0 rfl rfl rfl rfl (Q4 l kA kC az cA cC bA bC r sgA sgC V W T AA R S l.ag.length ([]:List Int) none 0 ([]:List Int) none 0 hin (by exact A) (by exact B) sm (by rfl) (by exact ⟨Int.le_refl _,B.time.2.1⟩) (by intro x hx; cases hx)) rfl (eu 6 rfl rfl (dT (bU _)) (eu 7 rfl rfl (dT (bU _)) (eu 8 rfl rfl (dT (bU _)) (eu 9 rfl rfl (dT (bU _)) (eu 10 rfl rfl (dT (bU _)) (eu 1 rfl rfl (ky sm) (eu 2 rfl rfl (ky sm) (eu 3 rfl rfl (ky sm) kJ)))))))) rfl (fun f M=>?_)
 obtain ⟨N,O,P⟩:=f
 try dsimp only
 refine aB (K _ _ (aI [4,5,6,7,8,9,10]) ?_)
 refine cf U fun T26 L=>rZ 0 U ?_
 try dsimp only [List.eraseIdx]
 refine Ap ?_
 dsimp only at M
 refine rS (AG U)<|aB (L _ _ (aI [5,6,7,8,9,10,11]) ?_)
 refine fF U<|KK E<|aj fun _ F=>WS fun _ G=>rP 3 [] mn ?_
 refine RK G<|bR U (aN fun C=>?_) (aO fun C=>?_)
 ·refine WK F<|WS fun _ AB=>rP 3 [] mn ?_
  refine RK AB<|av ?_
  refine LX hQ (true,0,N,O,P) [0,1] [] mn U (by (show List.all _ _=true; simp only [cond_true,fm,List.all_nil,KI,Bool.and_true]; rfl)) U U ?_
  exact ⟨fun _=>⟨l6 A B U fun q=>C (by rw [show iA l r l.ag.length [] []=[] from (fq A B).2 q]; rfl),M⟩,Nl⟩
 refine WS fun _ H=>rP 2 [] mn ?_
 refine RK H<|av<|LX hQ (false,8,none,0,[]) [] [] mn U (by rfl) U U ?_
 exact sw<|qp (p7 (me:=0) A B U ((fq A B).1 (j1 (Int.natCast_eq_zero.1 C))))
theorem HJ (ws:List du) (wz:List kU) (wA:OA) (wC b:Nat) (hws:NU ws) (hwz:wz.length=ws.length) (hb:b≤6):
 eB Tryz.prog 188 [(vS wA ws.length wC),(vI (b:Int))] [(rd wA ws.length 3 (List.zipWith du.cells ws wz)),(fp (aR du.ia ws wz))] (vT [(vA (aa.cells (pX ws b))),(vI (pW ws b))]):=by
 have u:=hws.num
 refine bG kr Tryz.func188 U U fun x Q hQ hN=>?_
 try dsimp only
 refine WS fun _ g=>AL U dA fun w=>bk 1 U<|RK g<|WS fun _ h=>AL U dA fun t=>RK h<|WS fun _ j=>bk 1 U<|RK j<|aj fun _ k=>WS fun _ l=>rP 1 [] mn ?_
 refine RK l<|ax ?_
 have D:(0≤ws.length)∧(oj b (ws.take 0) false (aa.mk 0 0)):=by exact ⟨Nat.zero_le _,HP⟩
 refine bJ (ι:={z:Nat×Bool×aa // (z.1≤ws.length)∧(oj b (ws.take z.1) z.2.1 z.2.2)}) [0,1,4,5,6] [1,2,3] U U (fun z=>[(7,(vB z.1.2.1)),(8,(vI (z.1.1:Int)))]) (fun z=>[(cm t 45 (aa.cells z.1.2.2))]) (fun _=>rfl) (fun _=>rfl) (fun z=>ws.length-z.1.1) ⟨(0,false,(aa.mk 0 0)),D⟩ (aT U) (aI [1,2,3,0]) ?_
 clear D
 rintro ⟨⟨i,fd,o⟩,⟨J,A⟩⟩ J8 H
 try dsimp only at J A
 try dsimp only
 refine aj fun _ m=>WS fun _ L=>rP 4 [] mn ?_
 refine RK L<|bR U (aN fun c=>?_) (aO fun c=>?_)
 ·refine bB<|ab<|ab<|ay<|KK k<|aj fun _ R=>WS fun _ S=>rP 2 [] mn ?_
  refine RK S<|bR U (fun B=>?_) (fun B=>?_)
  ·rw [Bool.not_eq_false'] at B
   refine WK R<|WS fun _ AA=>fP 1 [] (mc 3 U mn) U<|gd U cz U<|rP 1 [] mn ?_
   refine RK AA<|av<|lU hQ [0] (mc 0 U mn) U ?_
   have AB:=Aa (by have q:=A; rwa [List.take_of_length_le I] at q) hws.GZ
   (have q:=AB.2 B; rw [q.1,q.2]; done)
  rw [Bool.not_eq_true'] at B
  refine WS fun _ T=>rS (SX (bg (xs:=[]) (cs:=(aa.cells (aa.mk 0 0))) U U (bh gJ U)) U U)<|gd U cz U<|rP 1 [] mn ?_
  refine RK T<|av<|lU hQ [0] (mc 0 U mn) U ?_
  have AB:=Aa (by have q:=A; rwa [List.take_of_length_le I] at q) hws.GZ
  (have q:=AB.1 B; rw [q.1,q.2]; done)
 refine WK m<|aj fun _ C=>ax<|aj fun _ M=>WS fun _ N=>rP 2 [] mn ?_
 obtain ⟨y,hy⟩:=aK ws i I
 obtain ⟨ya,E⟩:=aK wz i I
 have K:(List.zipWith du.cells ws wz)[i]? =some (du.cells y ya):=dB hy E
 refine rS (IA i U (aA 1 U) G7 dc I I)<|rS (lZ (i*3) U (aA 1 U) (Nat.mul_pos I dc) fc U)<|rS (gl i 0 (vS ya.1.1 y.gM.length ya.1.2) U cp (aA 1 U) K U dc U)<|rP 3 [] mn ?_
 refine RK N<|cP U (aO fun d=>?_) (aN fun d=>?_)
 ·refine bB<|ab<|ay<|KK C<|ak<|rP 3 [] mn ?_
  refine aB ?_
  have X:(vI (((i+1):Nat):Int))=(vI ((i:Int)+1)):=by exact cI I
  refine aU (H ⟨((i+1),fd,o),⟨I,by dsimp only; rw [mh hy]; exact ER A I⟩⟩ _ _ _ U os (cQ 6<|bj U X<|dI.nil _) (aI [0,1,2,3]))
 refine WK M<|aj fun _ O=>dK cE [17,18] [] [] [0,1,2,3] [] U U U U U ?_
 have v:=hws.lens y (aS hy)
 obtain ⟨s,hs⟩: ∃ s,y.gM[b]? =some s:=⟨y.gM[b]'I,eN _⟩
 refine eS U (MV U)<|eS U (MV U)<|eS U (IA i U (aA 1 U) G7 dc I I)<|eS U (lZ ((i*3)+1) U (aA 1 U) (Nat.mul_pos I dc) fc U)<|eS U (gl i 1 (vS ya.2.1.1 y.ja.length ya.2.1.2) U cp (aA 1 U) K U dc U)<|eS U (MV U) ?_
 obtain ⟨f,hf⟩:=aK y.ja b I
 have p:=bQ iC hf
 refine eS U (IA b U (show jh _ (rd ya.2.1.1 y.ja.length 1 (y.ja.map iC)).holds from (dC 2 U (bY hy E (by simp [du.ia])))) cK dc I I)<|eS U (gl b 0 (vI f) U cp (show jh _ (rd ya.2.1.1 y.ja.length 1 (y.ja.map iC)).holds from (dC 2 U (bY hy E (by simp [du.ia])))) p U dc U)<|eS U (MV U)<|eS U (MV U)<|eS U (IA i U (aA 1 U) G7 dc I I)<|eS U (lZ ((i*3)+2) U (aA 1 U) (Nat.mul_pos I dc) fc U)<|eS U (gl i 2 (vS ya.2.2.1 y.l4.length ya.2.2.2) U cp (aA 1 U) K U dc U)<|eS U (MV U) ?_
 obtain ⟨e,he⟩:=aK y.l4 b I
 have n:=bQ iC he
 refine eS U (IA b U (show jh _ (rd ya.2.2.1 y.l4.length 1 (y.l4.map iC)).holds from (dC 2 U (bY hy E (by simp [du.ia])))) cK dc I I)<|eS U (gl b 0 (vI e) U cp (show jh _ (rd ya.2.2.1 y.l4.length 1 (y.l4.map iC)).holds from (dC 2 U (bY hy E (by simp [du.ia])))) n U dc U)<|eS U (SX (bg (xs:=[(0,.tmp 31),(1,.tmp 39)]) (cs:=(aa.cells (aa.mk f e))) U U (bh gJ U)) U U)<|eU U<|cf U fun T17 V=>AL U dA fun r=>aB (V _ _ (aI [1,2,3,4]) ?_)
 refine cf U fun T19 W=>gd U cz U<|aB (W _ _ (aI [1,2,3,4]) ?_)
 refine fF U<|KK O<|aj fun _ F=>WS fun _ P=>?_
 have a:=hws.le y (aS hy) b f e I hf he
 refine rP 1 [] mn ?_
 refine RK P<|bR U (fun G=>?_) (fun G=>?_)
 ·refine WK F<|ak<|fP 1 [] (mc 0 U mn) U<|PU U cz U<|bk 1 U<|aB<|aF<|KK C<|ak<|rP 3 [] mn ?_
  refine aB ?_
  have Z:(vI (((i+1):Nat):Int))=(vI ((i:Int)+1)):=by exact cI I
  refine aU (H ⟨((i+1),true,(aa.mk f e)),⟨I,by dsimp only; rw [mh hy]; exact CG A G hs hf he a⟩⟩ _ _ _ U os (cQ 6<|bj U Z<|dI.nil _) (aI [1,2,3,4]))
 refine ak<|fP 4 [0,1] (mc 0 U (mc 4 U mn)) U<|rS (MN U)<|fP 4 [0,1] (mc 0 U (mc 4 U mn)) U<|rS (MX U)<|rS (SX (bg (xs:=[(0,.tmp 46),(1,.tmp 51)]) (cs:=(aa.cells (aa.mk (min f o.Lo) (max e o.Hi)))) U U (bh gJ U)) U U)<|gd U cz U<|RK F<|ak<|fP 1 [] (mc 0 U mn) U<|PU U cz U<|bk 1 U<|aB<|aF<|KK C<|ak<|rP 3 [] mn ?_
 refine aB ?_
 have Y:(vI (((i+1):Nat):Int))=(vI ((i:Int)+1)):=by exact cI I
 refine aU (H ⟨((i+1),true,(aa.mk (min f o.Lo) (max e o.Hi))),⟨I,by dsimp only; rw [mh hy]; exact Ff A G hs hf he a⟩⟩ _ _ _ U os (cQ 6<|bj U Y<|dI.nil _) (aI [1,2,3,4]))
end
section
open Go.RowKit
theorem Rx (l:aY) (kA:OA) (kC:Nat) (az:List RA) (cA:OA) (cC:Nat) (bA:OA) (bC:Nat) (r:cx) (sgA:OA) (sgC:Nat) (hin:eA l az) (hsl:r.ah.length≤1000000):
 eB Tryz.prog 178 [(vA (b_.cells (b_.mk (bD.mk (bp.mk kA l.aL.length kC)) l.gK (bp.mk cA l.ai.length cC) (bp.mk bA l.ag.length bC) l.bS l.eg l.cM))),(vA (dp.cells (lT r sgA sgC)))] [(rd kA l.aL.length 9 (l.aL.map al.cells)),(rd cA l.ai.length 2 (List.zipWith ar.cells l.ai az)),(fp (aR ar.ia l.ai az)),(rd bA l.ag.length 4 (l.ag.map bE.cells)),(rd sgA r.ah.length 2 (r.ah.map aH.cells))] (vT [(vA (aa.cells (t_ l r))),(vI (dw l r l.bS))]):=by
 have q:=hin.si
 have j:=hin.rr
 have h:=hin.nD
 have i:=hin.su
 refine bG kr Tryz.func178 U U fun y Q hQ hN=>?_
 try dsimp only
 refine WS fun _ Z=>fZ U fun v=>fZ U fun w=>AL U dA fun x=>bk 1 U<|RK Z<|WS fun _ P=>rP 2 [0,1] (mc 2 U (mc 1 U mn)) ?_
 refine cX (ON l kA kC az cA cC bA bC r sgA sgC hin hsl) (bo [3,4,5,6,7]) U fun u V=>?_
 obtain ⟨W,g,e,Y,X⟩:=u
 cases W
 ·obtain ⟨R,he⟩:=V.2 rfl
  try dsimp only at R he
  subst R
  try dsimp only [cond_true,cond_false,List.cons_append,List.nil_append]
  refine bk 5 U<|RK P<|aj fun _ d=>WS fun _ G=>rP 2 [] mn ?_
  refine RK G<|bR U (bu fun F=>?_) (bw fun F=>?_)
  ·exact absurd F he
  refine WS fun _ H=>rS (SX (bg (xs:=[]) (cs:=(aa.cells (aa.mk 0 0))) U U (bh gJ U)) U U)<|bk 1 U<|gd U cz U<|rP 1 [] mn ?_
  refine RK H<|av<|lU hQ [0] (mc 0 U mn) U ?_
  (rw [Fq (fun z=>he ((vE he).symm.trans z)),vE he]<;>rfl)
 obtain ⟨he,C⟩:=V.1 rfl
 try dsimp only [cond_true,cond_false,List.cons_append,List.nil_append]
 try dsimp only at he C
 obtain ⟨T,E,_,k⟩:=jM he
 obtain ⟨s,c⟩:=fy T
 have a:=c.head
 unfold gH at a
 have AA:=Qx T E
 have t:=AA.num
 have o:=E.len
 have p:=E.time
 refine bk 5 U<|RK P<|aj fun _ AB=>WS fun _ J=>rP 1 [] mn ?_
 refine rS (SX (cd (r:= .bool false) U U U og) U U)<|RK J<|aZ U<|WK AB<|aj fun _ K=>?_
 obtain ⟨b,S⟩: ∃ b:Nat,l.bS=(b:Int):=⟨l.bS.toNat,I⟩
 have A:=Lj he (b:=b) I
 rw [← S] at A
 rw [S]
 refine ak<|fP 3 [] (mc 4 U mn) U<|rS (CL (HJ (qA l r) X e Y b (by exact AA) (by exact C) I) (aq (ae (n:=(qA l r).length) 0 U (tF C))<|aq (dg 1 U N_)<|aJ) U)<|bk 3 U<|AL U dA fun f=>gd U cz U<|bk 1 U<|RK K<|aj fun _ L=>WS fun _ M=>rP 2 [] mn ?_
 refine RK M<|cP U (bw fun B=>?_) (bu fun B=>?_)
 ·refine WS fun _ N=>rS (SX (bg (xs:=[]) (cs:=(aa.cells (aa.mk 0 0))) U U (bh gJ U)) U U)<|bk 1 U<|UQ U cz U<|rP 1 [] mn ?_
  refine RK N<|av<|lU hQ [0] (mc 3 U mn) U ?_
  (rw [Fq (fun z=>B (A.1.trans z)),← A.1]<;>rfl)
 refine WK L<|aj fun _ O=>?_
 have D:dw l r l.bS=0:=A.1.symm.trans B
 have m:=yu D
 rw [A.2]
 refine ak<|fP 10 [0,1,0,1] (mc 0 U (mc 4 U mn)) U<|rS (SX (bg (xs:=[(0,.tmp 34),(1,.tmp 39)]) (cs:=(aa.cells (aa.mk (((dJ l r l.bS).Lo)-r.Start) (((dJ l r l.bS).Hi)-r.Start)))) U U (bh gJ U)) U U)<|UQ U cz U<|rP 1 [] mn ?_
 refine RK O<|av<|lU hQ [0] (mc 3 U mn) U ?_
 (rw [ye D,D])
end
section
open Go.RowKit
theorem Eo (l:aY) (kA:OA) (kC:Nat) (az:List RA) (cA:OA) (cC:Nat) (bA:OA) (bC:Nat) (d:au) (sgA:OA) (sgC:Nat) (hin:eA l az) (hle:c_ l=0) (hsl:d.bX.ah.length≤1000000) (hk:d.Out=true):
 eB Tryz.prog 150 [(vA (b_.cells (lO l kA kC cA cC bA bC))),(vA (bq.cells (bq.mk d.Out d.ed d.Time (lT d.bX sgA sgC))))] [(rd kA l.aL.length 9 (l.aL.map al.cells)),(rd cA l.ai.length 2 (List.zipWith ar.cells l.ai az)),(fp (aR ar.ia l.ai az)),(rd bA l.ag.length 4 (l.ag.map bE.cells)),(rd sgA d.bX.ah.length 2 (d.bX.ah.map aH.cells))] (vT [(vA (aa.cells (pd l d))),(vB (decide (hE l d)))]):=by
 have K:=hin.si
 have J:=hin.rr
 have H:=hin.nD
 have AA:=hin.su
 refine bG kr Tryz.func150 U U fun O Q hQ hN=>?_
 try dsimp only
 refine WS fun _ B=>fZ U fun L=>fZ U fun M=>AL U dA fun N=>bk 1 U<|RK B<|aj fun _ E=>ax<|WS fun _ C=>rP 3 [] (mc 1 U mn) ?_
 refine RK C<|bR U (fun G=>?_) (fun G=>?_)
 ·exact absurd ((hk).symm.trans G) dc
 refine WS fun _ A=>rS (SX (bg (xs:=[]) (cs:=(aa.cells (aa.mk 0 0))) U U (bh gJ U)) U U)<|rP 4 [] (mc 1 U mn) ?_
 refine ck (t:=15) U (fun D=>?_) (fun D=>?_)
 ·rw [Bool.not_eq_false'] at D
  refine bk 10 U<|gd U cz U<|rP 1 [] mn ?_
  refine RK A<|av<|lU hQ [0] (mc 0 U mn) U ?_
  clear hQ hN A C E B
  rw [AN hk]
  simp only [px hk]
  refine congrArg (fun z=>Value.tuple #[_,vB z]) ?_
  first|rfl|(simp_all [dL]; done)
 rw [Bool.not_eq_true'] at D
 refine bk 1 U<|rS (LP (aa.cells d.Time) 1 U cp U U U)<|rS (SX (bg (xs:=[]) (cs:=(aa.cells (aa.mk 0 0))) U U (bh gJ U)) U U)<|rS (BI U (uD _ _ d.Time (aa.mk 0 0)))<|rP 2 [] mn ?_
 refine ck (t:=21) U (aN fun F=>?_) (aO fun F=>?_)
 ·refine bk 4 U<|gd U cz U<|rP 1 [] mn ?_
  refine RK A<|av<|lU hQ [0] (mc 0 U mn) U ?_
  clear hQ hN A C E B
  rw [AN hk]
  simp only [px hk]
  refine congrArg (fun z=>Value.tuple #[_,vB z]) ?_
  first|rfl|(simp_all [dL]; done)
 refine bk 1 U<|rS (LP (dp.cells (lT d.bX sgA sgC)) 1 U cp U U U)<|rS (CL (GR d.bX sgA sgC) (bo [7]) U)<|bk 1 U<|gd U cz U<|rP 1 [] mn ?_
 refine RK A<|av<|lU hQ [0] (mc 0 U mn) U ?_
 clear hQ hN A C E B
 rw [AN hk]
 simp only [px hk]
 refine congrArg (fun z=>Value.tuple #[_,vB z]) ?_
 first|rfl|(simp_all [dL]; done)
theorem FQ (l:aY) (kA:OA) (kC:Nat) (az:List RA) (cA:OA) (cC:Nat) (bA:OA) (bC:Nat) (d:au) (sgA:OA) (sgC:Nat) (hin:eA l az) (hle:c_ l=0) (hsl:d.bX.ah.length≤1000000) (hk:d.Out=false∧d.ed=true):
 eB Tryz.prog 150 [(vA (b_.cells (lO l kA kC cA cC bA bC))),(vA (bq.cells (bq.mk d.Out d.ed d.Time (lT d.bX sgA sgC))))] [(rd kA l.aL.length 9 (l.aL.map al.cells)),(rd cA l.ai.length 2 (List.zipWith ar.cells l.ai az)),(fp (aR ar.ia l.ai az)),(rd bA l.ag.length 4 (l.ag.map bE.cells)),(rd sgA d.bX.ah.length 2 (d.bX.ah.map aH.cells))] (vT [(vA (aa.cells (pd l d))),(vB (decide (hE l d)))]):=by
 have N:=hin.si
 have M:=hin.rr
 have K:=hin.nD
 have L:=hin.su
 refine bG kr Tryz.func150 U U fun S Q hQ hN=>?_
 try dsimp only
 refine WS fun _ D=>fZ U fun O=>fZ U fun P=>AL U dA fun R=>bk 1 U<|RK D<|aj fun _ H=>ax<|WS fun _ E=>rP 3 [] (mc 1 U mn) ?_
 refine RK E<|cP U (fun J=>?_) (fun J=>?_)
 ·exact absurd ((hk.1).symm.trans J) dc
 refine WS fun _ F=>rP 3 [] (mc 1 U mn) ?_
 refine RK F<|bR U (fun G=>?_) (fun G=>?_)
 ·exact absurd ((hk.2).symm.trans G) dc
 refine aj fun _ B=>dK cE [10] [] [] [1,2,3,4,5,6,7] [] U U U U U<|eS U (FA 2 U fc U)<|eS U (LP (aa.cells d.Time) 0 U cp U U U)<|eS U (FA 2 U fc U)<|eS U (LP (aa.cells d.Time) 0 U cp U U U)<|eS U (CL (Ny d.Time) (aJ) U)<|eS U (MV U)<|rY (t:=34) U (fun A=>?_) (fun A=>?_)
 rotate_left 1
 ·replace A:=DF A
  refine eS U (OX U)<|eS U (OX U)<|eS U (OX U)<|eS U (PK U)<|eS U (AG U)<|eU U<|cf U fun T10 C=>gd U cz U<|aB (C _ _ (aI [1,2,3,4,5,6,7]) ?_)
  refine fF U<|KK B<|av<|lU hQ [0] (mc 0 U mn) U ?_
  clear hQ hN C T10 B F E H D
  rw [Gc hk]
  simp only [qO hk]
  refine congrArg (fun z=>Value.tuple #[_,vB z]) ?_
  first|rfl|(simp_all; done)
 replace A:=DT A
 refine eS U (FA 4 U fc U)<|eS U (LP (dp.cells (lT d.bX sgA sgC)) 0 U cp U U U)<|eS U (CL (GR d.bX sgA sgC) (bo [6]) U)<|eS U (PK U)<|eS U (AG U)<|eU U<|cf U fun T9 AA=>gd U cz U<|aB (AA _ _ (aI [1,2,3,4,5,6,7]) ?_)
 refine fF U<|KK B<|av<|lU hQ [0] (mc 0 U mn) U ?_
 clear hQ hN AA T9 B F E H D
 rw [Gc hk]
 simp only [qO hk]
 refine congrArg (fun z=>Value.tuple #[_,vB z]) ?_
 first|rfl|(simp_all; done)
theorem FC (l:aY) (kA:OA) (kC:Nat) (az:List RA) (cA:OA) (cC:Nat) (bA:OA) (bC:Nat) (d:au) (sgA:OA) (sgC:Nat) (hin:eA l az) (hle:c_ l=0) (hsl:d.bX.ah.length≤1000000) (hk:d.Out=false∧d.ed=false):
 eB Tryz.prog 150 [(vA (b_.cells (lO l kA kC cA cC bA bC))),(vA (bq.cells (bq.mk d.Out d.ed d.Time (lT d.bX sgA sgC))))] [(rd kA l.aL.length 9 (l.aL.map al.cells)),(rd cA l.ai.length 2 (List.zipWith ar.cells l.ai az)),(fp (aR ar.ia l.ai az)),(rd bA l.ag.length 4 (l.ag.map bE.cells)),(rd sgA d.bX.ah.length 2 (d.bX.ah.map aH.cells))] (vT [(vA (aa.cells (pd l d))),(vB (decide (hE l d)))]):=by
 have O:=hin.si
 have N:=hin.rr
 have L:=hin.nD
 have M:=hin.su
 refine bG kr Tryz.func150 U U fun AA Q hQ hN=>?_
 try dsimp only
 refine WS fun _ E=>fZ U fun P=>fZ U fun R=>AL U dA fun S=>bk 1 U<|RK E<|aj fun _ F=>ax<|WS fun _ G=>rP 3 [] (mc 1 U mn) ?_
 refine RK G<|cP U (fun K=>?_) (fun K=>?_)
 ·exact absurd ((hk.1).symm.trans K) dc
 refine WS fun _ H=>rP 3 [] (mc 1 U mn) ?_
 refine RK H<|cP U (fun J=>?_) (fun J=>?_)
 ·exact absurd ((hk.2).symm.trans J) dc
 refine ct<|aF<|KK F<|WS fun _ AB=>fP 2 [] (mc 2 U mn) U<|rS (LP (dp.cells (lT d.bX sgA sgC)) 1 U cp U U U)<|rS (CL (Rx l kA kC az cA cC bA bC d.bX sgA sgC hin hsl) (bo [3,4,5,6,7]) U)<|bk 3 U<|AL U dA fun T=>gd U cz U<|rP 1 [] mn ?_
 refine RK AB<|aj fun _ A=>dK cE [9] [] [] [0,2,3,4,5,6,7,8] [] U U U U U<|eS U (LW 0 U cp U U)<|eS U (MV U)<|eS U (BI U mW)<|eS U (MV U)<|rY (t:=49) U (fun B=>?_) (fun B=>?_)
 rotate_left 1
 ·replace B:=DF B
  refine eS U (OX U)<|eS U (OX U)<|eS U (OX U)<|eS U (OX U)<|eS U (PK U)<|eS U (AG U)<|eU U<|cf U fun T12 D=>te U cz U<|aB (D _ _ (aI [0,2,3,4,5,6,7,8]) ?_)
  refine fF U<|KK A<|av<|lU hQ [0] (mc 1 U mn) U ?_
  clear hQ hN D T12 A AB H G F E
  rw [GV hk]
  simp only [oq hk]
  refine congrArg (fun z=>Value.tuple #[_,vB z]) ?_
  first|rfl|(simp_all [dL]; done)
 replace B:=DT B
 refine eS U (FA 2 U fc U)<|eS U (LP (aa.cells d.Time) 1 U cp U U U)<|eS U (SX (bg (xs:=[]) (cs:=(aa.cells (aa.mk 0 0))) U U (bh gJ U)) U U)<|eS U (BI U (uD _ _ d.Time (aa.mk 0 0)))<|eS U (PK U)<|eS U (AG U)<|eU U<|cf U fun T11 C=>te U cz U<|aB (C _ _ (aI [0,2,3,4,5,6,7,8]) ?_)
 refine fF U<|KK A<|av<|lU hQ [0] (mc 1 U mn) U ?_
 clear hQ hN C T11 A AB H G F E
 rw [GV hk]
 simp only [oq hk]
 refine congrArg (fun z=>Value.tuple #[_,vB z]) ?_
 first|rfl|(simp_all [dL]; done)
theorem Hw (l:aY) (kA:OA) (kC:Nat) (az:List RA) (cA:OA) (cC:Nat) (bA:OA) (bC:Nat) (d:au) (sgA:OA) (sgC:Nat) (hin:eA l az) (hle:c_ l=0) (hsl:d.bX.ah.length≤1000000):
 eB Tryz.prog 150 [(vA (b_.cells (lO l kA kC cA cC bA bC))),(vA (bq.cells (bq.mk d.Out d.ed d.Time (lT d.bX sgA sgC))))] [(rd kA l.aL.length 9 (l.aL.map al.cells)),(rd cA l.ai.length 2 (List.zipWith ar.cells l.ai az)),(fp (aR ar.ia l.ai az)),(rd bA l.ag.length 4 (l.ag.map bE.cells)),(rd sgA d.bX.ah.length 2 (d.bX.ah.map aH.cells))] (vT [(vA (aa.cells (pd l d))),(vB (decide (hE l d)))]):=by
 by_cases ho:d.Out=true
 ·exact Eo l kA kC az cA cC bA bC d sgA sgC hin hle hsl ho
 by_cases hf:d.ed=true
 ·exact FQ l kA kC az cA cC bA bC d sgA sgC hin hle hsl ⟨by simpa using ho,hf⟩
 ·exact FC l kA kC az cA cC bA bC d sgA sgC hin hle hsl ⟨by simpa using ho,by simpa using hf⟩
end
section
open Go.RowKit
theorem FG (r:cj) (kA:OA) (kC:Nat) (az:List RA) (cA:OA) (cC:Nat) (bA:OA) (bC:Nat) (slA:OA) (slC:Nat) (drA:OA) (drC:Nat) (ha:List cb) (heA:OA) (heC:Nat) (hin:fw r az ha) (hle:c_ r.an=0):
 lB Tryz.prog 109 [(vA (cu.cells (oY r kA kC cA cC bA bC slA slC drA drC heA heC)))] [(rd kA r.an.aL.length 9 (r.an.aL.map al.cells)),(rd cA r.an.ai.length 2 (List.zipWith ar.cells r.an.ai az)),(fp (aR ar.ia r.an.ai az)),(rd bA r.an.ag.length 4 (r.an.ag.map bE.cells)),(rd slA r.aM.length 1 (r.aM.map iC)),(rd drA r.bL.length 1 (r.bL.map iC)),(rd heA r.ao.length 1 (List.zipWith cw r.ao ha)),(fp (aR iI r.ao ha))] (fun (x:Bool×Int×(OA)×Nat×(List RA))=>bif x.1 then (vT [(vS x.2.2.1 ((cT r).length) x.2.2.2.1),(vB true)]) else (vT [(vS none 0 0),(vB false)])) (fun (x:Bool×Int×(OA)×Nat×(List RA))=>(x.1=true→(fj r∧x.2.2.2.2.length=r.ao.length))∧(x.1=false→(x.2.1=0∧ ¬ fj r))) (fun (x:Bool×Int×(OA)×Nat×(List RA))=>bif x.1 then [(own x.2.2.1 x.2.2.2.1 109 1 (List.zipWith EM (cT r) x.2.2.2.2)),(br (aR D8 (cT r) x.2.2.2.2))] else []):=by
 have Ls:=hin.line
 have Op:=hin.iU
 have Or:=hin.has
 have M7:=hin.iY
 have L3:=hin.draw
 have NE:=dQ (r:=r)
 refine dh kr Tryz.func109 U U fun w0 Q hQ hN=>?_
 try dsimp only
 refine WS fun _ K5=>fZ U fun b2=>bk 2 U<|RK K5<|WS fun _ K8=>fP 4 [] (mc 0 U mn) U<|RK K8<|aj fun _ LA=>WS fun _ N=>bk 1 U<|rS (CL (po (r.aM.length:Int) 1 5) (aJ) U)<|rP 2 [] mn ?_
 refine dx (t:=19) U (bw fun J5=>?_) (bu fun J5=>?_)
 ·refine bk 19 U<|RK N<|aQ U<|WS fun _ LE=>rP 2 [] mn ?_
  refine RK LE<|av<|LX hQ (false,0,none,0,[]) [] [] mn U (by rfl) U U ?_
  (exact ⟨Bl,fun _=>⟨rfl,fun q=>by have S:=q.num; have q2:=q.x7; have q3:=q.nh; have q4:=q.yY; omega⟩⟩)
 refine rP 7 [] (mc 0 U mn) ?_
 refine dx (t:=26) U (bw fun X=>?_) (bu fun X=>?_)
 ·refine bk 12 U<|RK N<|aQ U<|WS fun _ LT=>rP 2 [] mn ?_
  refine RK LT<|av<|LX hQ (false,0,none,0,[]) [] [] mn U (by rfl) U U ?_
  (exact ⟨Bl,fun _=>⟨rfl,fun q=>by have S:=q.num; have q2:=q.x7; have q3:=q.nh; have q4:=q.yY; omega⟩⟩)
 refine fP 2 [] (mc 0 U mn) U<|rS (CL (po r.im 0 5) (aJ) U)<|rP 3 [] mn ?_
 refine dx (t:=32) U (bw fun J6=>?_) (bu fun J6=>?_)
 ·refine bk 6 U<|RK N<|aQ U<|WS fun _ La=>rP 2 [] mn ?_
  refine RK La<|av<|LX hQ (false,0,none,0,[]) [] [] mn U (by rfl) U U ?_
  (exact ⟨Bl,fun _=>⟨rfl,fun q=>by have S:=q.num; have q2:=q.x7; have q3:=q.nh; have q4:=q.yY; omega⟩⟩)
 refine fP 3 [] (mc 0 U mn) U<|rS (CL (po (r.ao.length:Int) 1 3) (aJ) U)<|rP 2 [] mn ?_
 refine RK N<|cP U (bw fun J8=>?_) (bu fun J8=>?_)
 ·refine WS fun _ Li=>rP 2 [] mn ?_
  refine RK Li<|av<|LX hQ (false,0,none,0,[]) [] [] mn U (by rfl) U U ?_
  (exact ⟨Bl,fun _=>⟨rfl,fun q=>by have S:=q.num; have q2:=q.x7; have q3:=q.nh; have q4:=q.yY; omega⟩⟩)
 refine WK LA<|aj fun _ o=>WS fun _ p=>rP 1 [] mn ?_
 refine RK p<|ax ?_
 have A:(0≤r.aM.length)∧(xe r 0):=by exact ⟨Nat.zero_le _,KM⟩
 refine bJ (ι:={z:Nat // (z≤r.aM.length)∧(xe r z)}) [1,4] [0,1,2,3,4,5,6,7,8] U U (fun z=>[(5,(vI (z.1:Int)))]) (fun z=>[]) (fun _=>rfl) (fun _=>rfl) (fun z=>r.aM.length-z.1) ⟨0,A⟩ (aT U) (aI [0,1,2,3,4,5,6,7,8]) ?_
 clear A
 rintro ⟨i,⟨Lo,AB⟩⟩ J12 T
 try dsimp only
 refine aj fun _ s=>WS fun _ v=>rP 3 [] mn ?_
 refine RK v<|bR U (aN fun J4=>?_) (aO fun J4=>?_)
 ·refine bB<|ab<|ab<|ay<|KK o<|WS fun _ Bs=>bk 1 U<|RK Bs<|aj fun _ B3=>WS fun _ B7=>rP 1 [] mn ?_
  refine RK B7<|ax<|gu 109 1<|l9 ?_
  have A:(0≤r.ao.length)∧(([]:List RA).length=0)∧(kq r 0):=by exact ⟨Nat.zero_le _,rfl,xO⟩
  refine bJ (ι:={z:Nat×(List RA)×(OA)×Nat // (z.1≤r.ao.length)∧(z.2.1.length=z.1)∧(kq r z.1)}) [1,4] [2,3,4,5,6,7,8,9,10] U U (fun z=>[(7,(vS z.1.2.2.1 ((List.zipWith CQ (gR r z.1.1) z.1.2.1).length) z.1.2.2.2)),(8,(vI (z.1.1:Int)))]) (fun z=>[(br (aR D8 (gR r z.1.1) z.1.2.1)),(own z.1.2.2.1 z.1.2.2.2 109 1 (List.map sC (List.zipWith CQ (gR r z.1.1) z.1.2.1)))]) (fun _=>rfl) (fun _=>rfl) (fun z=>r.ao.length-z.1.1) ⟨(0,([]:List RA),none,0),A⟩ (aT U) (aI [2,3,4,5,6,7,8,9,10,0,1]) ?_
  clear A
  rintro ⟨⟨h,tz,a,c⟩,⟨P,C,F⟩⟩ J46 l
  try dsimp only at P C F
  try dsimp only
  refine aj fun _ B9=>WS fun _ Ci=>rP 5 [] (mc 0 U mn) ?_
  refine RK Ci<|bR U (aN fun J9=>?_) (aO fun J9=>?_)
  ·refine bB<|ab<|ab<|ay<|KK B3<|aj fun _ Fd=>?_
   have Ll:gR r h=cT r:=by unfold cT; rw [show h=r.ao.length by omega]
   have L0:tz.length=r.ao.length:=by omega
   rw [Ll,z6,show (List.zipWith CQ (cT r) tz).length=(cT r).length from by rw [List.length_zipWith]; omega]
   have IR:fj r:=HB (n:=i) I I I I I AB F I
   refine ak<|rP 3 [] mn ?_
   refine RK Fd<|av ?_
   refine LX hQ (true,0,a,c,tz) [10,9] [] mn U (by (show List.all _ _=true; simp only [cond_true,fm,List.all_nil,s_,Bool.and_true]; rfl)) U U ?_
   exact ⟨fun _=>⟨IR,L0⟩,Nl⟩
  refine WK B9<|aj fun _ Ck=>ax<|aj fun _ Cp=>WS fun _ Cx=>rP 3 [] (mc 0 U mn) ?_
  obtain ⟨ht,D⟩:=aK r.ao h I
  obtain ⟨E,H⟩:=aK ha h I
  have W:(List.zipWith cw r.ao ha)[h]? =some (cw ht E):=dB D H
  refine rS (IA h U (aA 7 U) nj dc I I) ?_
  have IO:=hin.nu _ _ _ D H
  have M2:=IO.nD
  refine rS (gl h 0 (vS E.1.1 ht.length E.1.2) U cp (aA 7 U) W U dc U)<|rP 3 [] mn ?_
  refine RK Cx<|cP U (bw fun e=>?_) (bu fun e=>?_)
  ·refine WS fun _ C0=>rP 2 [] mn ?_
   refine RK C0<|av<|LX hQ (false,0,none,0,[]) [] [] mn U (by rfl) U U ?_
   (exact ⟨Bl,fun _=>⟨rfl,fun q=>by have S:=(q.nu ht (aS D)).1; omega⟩⟩)
  refine WK Cp<|WS fun _ C1=>bk 1 U<|RK C1<|aj fun _ C2=>WS fun _ C3=>rP 1 [] mn ?_
  refine RK C3<|ax<|gu 45 2 ?_
  have A:(0≤ht.length)∧(oP r.an ht 0):=by exact ⟨Nat.zero_le _,vZ⟩
  refine bJ (ι:={z:Nat×(OA)×Nat // (z.1≤ht.length)∧(oP r.an ht z.1)}) [1,4,7,8] [1,2,3,4,5,6,7,8,9,10,11] U U (fun z=>[(9,(vS z.1.2.1 (((ht.take z.1.1).map (dq r.an)).length) z.1.2.2)),(10,(vI (z.1.1:Int)))]) (fun z=>[(own z.1.2.1 z.1.2.2 45 2 (((ht.take z.1.1).map (dq r.an)).map aa.cells))]) (fun _=>rfl) (fun _=>rfl) (fun z=>ht.length-z.1.1) ⟨(0,none,0),A⟩ (aT U) (aI [1,2,3,4,5,6,7,8,9,10,11,0]) ?_
  clear A
  rintro ⟨⟨j,la,lc⟩,⟨R,G⟩⟩ J57 m
  try dsimp only at R G
  try dsimp only
  refine aj fun _ Di=>WS fun _ Do=>rP 3 [] mn ?_
  refine RK Do<|bR U (aN fun K0=>?_) (aO fun K0=>?_)
  ·refine bB<|ab<|ab<|ay<|KK C2<|ak ?_
   rw [show ((ht.take j).map (dq r.an))=ht.map (dq r.an) from by rw [List.take_of_length_le I]]
   refine rP 2 [] mn ?_
   refine dj (xs:=[.tmp 137]) (cs:=[(vS la ((ht.map (dq r.an)).length) lc)]) U GG P0 U U U U (by simp [Value.cells]) U U fun OK=>?_
   refine cL (es2:=(List.map sC (List.zipWith CQ (gR r (h+1)) (tz++[(la,lc)])))) (m':=(List.zipWith CQ (gR r (h+1)) (tz++[(la,lc)])).length) 11 U U U Pw U U sm (bf (es:=List.map sC [(bp.mk la ((ht.map (dq r.an)).length) lc)]) 0 U U (by simp [Ai]) U) (Jr _) (by rw [List.length_zipWith,lg I]; omega) (by rw [List.length_zipWith,lg I]; simp only [maxLen]; omega) (by rw [uA D C,List.map_append]; rfl) (by rw [uA D C]; simp) U fun Jc J3=>?_
   try dsimp only
   refine bk 1 U<|aB<|aF<|KK Ck<|ak<|rP 3 [] mn ?_
   refine aB<|Aj (X':=aR D8 (gR r (h+1)) (tz++[(la,lc)])) 10 12 U U (Ca (a:=(la,lc)) D C) ?_
   have Hy:(vI (((h+1):Nat):Int))=(vI ((h:Int)+1)):=by exact cI I
   refine aU (l ⟨((h+1),(tz++[(la,lc)]),Jc,J3),⟨I,by simp; omega,w8 F D (Gp I G I)⟩⟩ _ _ _ U os (cQ 3<|bj U Hy<|dI.nil _) (aI [2,3,4,5,6,7,8,9,10,0,11]))
  refine WK Di<|aj fun _ D2=>ax<|aj fun _ D9=>dK cE [14,15] [] [] [0,1,2,3,4,5,6,7,8,9,10,11] [] U U U U U<|eS U (FA 0 U fc U)<|eS U (LP (b_.cells (lO r.an kA kC cA cC bA bC)) 0 U cp U U U)<|eS U (FA 10 U fc U)<|eS U (L1 (vS heA r.ao.length heC) 0 U cp U U)<|eS U (MV U)<|eS U (IA h U (aA 7 U) nj dc I I)<|eS U (gl h 0 (vS E.1.1 ht.length E.1.2) U cp (aA 7 U) W U dc U)<|eS U (MV U) ?_
  obtain ⟨d,hd⟩:=aK ht j I
  obtain ⟨da,H1⟩:=aK E.2 j I
  have Lk:(List.zipWith au.cells ht E.2)[j]? =some (au.cells d da):=dB hd H1
  refine eS U (IA j U (show jh _ (rd E.1.1 ht.length 7 (List.zipWith au.cells ht E.2)).holds from (dC 8 U (bY D H cv))) tm dc I I)<|eS U (oE j 0 (bq.cells (bq.mk d.Out d.ed d.Time (dp.mk d.bX.Start d.bX.fE (bp.mk da.1 d.bX.ah.length da.2)))) U cp (show jh _ (rd E.1.1 ht.length 7 (List.zipWith au.cells ht E.2)).holds from (dC 8 U (bY D H cv))) Lk U dc U U) ?_
  have Os:=IO.sig d (aS hd)
  refine eS U (CL (Hw r.an kA kC az cA cC bA bC d da.1 da.2 asm hle asm) (mu [1,2,3,4]<|aq (show jh _ (rd da.1 d.bX.ah.length 2 (d.bX.ah.map aH.cells)).holds from (dC 8 U (bY D H (cY _ (bY hd H1 (by simp [au.ia]))))))<|aJ) U)<|eS U (MV U)<|eS U (EX U)<|eS U (EX U)<|eS U (AG U)<|eU U<|cf U fun T63 Fn=>AL U dA fun NN=>aB (Fn _ _ (aI [1,2,3,4,5,6,7,8,9,10,11,12]) ?_)
  refine cf U fun T65 GE=>gd U cz U<|aB (GE _ _ (aI [1,2,3,4,5,6,7,8,9,10,11,12]) ?_)
  refine fF U<|KK D9<|aj fun _ EQ=>WS fun _ Eq=>rP 2 [] mn ?_
  refine RK Eq<|cP U (bw fun J=>?_) (bu fun J=>?_)
  ·refine WS fun _ FS=>rP 2 [] mn ?_
   refine RK FS<|av<|LX hQ (false,0,none,0,[]) [] [] mn U (by rfl) U U ?_
   (exact ⟨Bl,fun _=>⟨rfl,fun q=>by exact J ((q.nu ht (aS D)).2 d (aS hd))⟩⟩)
  refine WK EQ<|ak<|rP 2 [] (mc 0 U mn) ?_
  refine dj (xs:=[.tmp 133]) (cs:=(aa.cells (pd r.an d))) U hU dA U U U U (by simp [Value.cells,aa.aW]) U U fun Ne=>?_
  refine cL (es2:=(List.map aa.cells ((ht.take (j+1)).map (dq r.an)))) (m':=((ht.take (j+1)).map (dq r.an)).length) 13 U U U xo U U sm (bf (es:=List.map aa.cells [(pd r.an d)]) 0 U U (by simp [aa.aW]) U) (ic _) (by simp only [List.length_map,List.length_take]; omega) (by simp only [maxLen,List.length_map,List.length_take]; omega) (by rw [List.take_add_one,hd]; simp [LO J]) sq U fun JO J2=>?_
  try dsimp only
  refine bk 1 U<|aB<|aF<|KK D2<|ak<|rP 3 [] mn ?_
  refine aB ?_
  have Hi:(vI (((j+1):Nat):Int))=(vI ((j:Int)+1)):=by exact cI I
  refine aU (m ⟨((j+1),JO,J2),⟨I,vW G hd J⟩⟩ _ _ _ U os (cQ 5<|bj U Hi<|dI.nil _) (aI [2,3,4,5,6,7,8,9,10,11,12,13]))
 refine WK s<|aj fun _ AA=>ax<|aj fun _ V=>aj fun _ K=>dM cE 36 kr<|dP 3 [] (mc 0 U mn) ?_
 obtain ⟨y,hy⟩:=aK r.aM i I
 have Id:=bQ iC hy
 refine dS (IA i U (aA 5 U) cK dc I I)<|dS (gl i 0 (vI y) U cp (aA 5 U) Id U dc U)<|dS (CL (po y 0 9999) (aJ) U)<|dP 2 [] mn ?_
 refine jq (t:=51) U (bw fun KC=>?_) (bu fun KC=>?_)
 ·refine mq 28 U<|cR<|RK K<|aQ U<|WS fun _ w=>rP 2 [] mn ?_
  refine RK w<|av<|LX hQ (false,0,none,0,[]) [] [] mn U (by rfl) U U ?_
  (exact ⟨Bl,fun _=>⟨rfl,fun q=>by have S:=(q.ids i y hy).1; omega⟩⟩)
 refine dP 3 [] mn ?_
 refine jN (t:=54) U (aN fun KR=>?_) (aO fun KR=>?_)
 ·refine dP 18 [] (mc 0 U mn) ?_
  obtain ⟨x,hx⟩:=aK r.bL i I
  have M:=bQ iC hx
  refine dS (IA i U (aA 6 U) cK dc I I)<|dS (gl i 0 (vI x) U cp (aA 6 U) M U dc U)<|mq 2 U<|dS (CL (po x 0 ((r.aM.length:Int)-1)) (aJ) U)<|dP 2 [] mn ?_
  refine cR<|RK K<|cP U (bw fun Y=>?_) (bu fun Y=>?_)
  ·refine WS fun _ A6=>rP 2 [] mn ?_
   refine RK A6<|av<|LX hQ (false,0,none,0,[]) [] [] mn U (by rfl) U U ?_
   (exact ⟨Bl,fun _=>⟨rfl,fun q=>by have S:=q.KS hx; omega⟩⟩)
  refine WK V<|WS fun _ A7=>rP 1 [] mn ?_
  refine RK A7<|ax ?_
  have A:(0≤i)∧(∀ (q:Nat) y,q<0→r.bL[q]? =some y→y≠x):=by exact ⟨Nat.zero_le _,fun q y hq=>absurd hq (Nat.not_lt_zero _)⟩
  refine bJ (ι:={z:Nat // (z≤i)∧(∀ (q:Nat) y,q<z→r.bL[q]? =some y→y≠x)}) [1,4,5] [0,1,2,3,4,5,6,7,8] U U (fun z=>[(6,(vI (z.1:Int)))]) (fun z=>[]) (fun _=>rfl) (fun _=>rfl) (fun z=>i-z.1) ⟨0,A⟩ (aT U) (aI [0,1,2,3,4,5,6,7,8]) ?_
  clear A
  rintro ⟨k,⟨O,B⟩⟩ J34 g
  try dsimp only
  refine aj fun _ A8=>WS fun _ A9=>rP 3 [] mn ?_
  refine RK A9<|bR U (aN fun J7=>?_) (aO fun J7=>?_)
  ·refine bB<|ab<|ab<|ay<|aF<|KK AA<|ak<|rP 3 [] mn ?_
   refine aB ?_
   have Go:(vI (((i+1):Nat):Int))=(vI ((i:Int)+1)):=by exact cI I
   refine aU (T ⟨(i+1),⟨I,Dz AB (fun a ha=>by rw [hy] at ha; cases ha; exact ⟨I,fun b hb hc=>by omega⟩) (fun a ha=>by rw [hx] at ha; cases ha; exact ⟨I,fun k b hk hb=>B k b I hb⟩)⟩⟩ _ _ _ rfl os (dI.cons rfl<|dI.cons rfl<|bj rfl Go<|dI.nil _) (aI [0,1,2,3,4,5,6,7,8]))
  refine WK A8<|aj fun _ BF=>ax<|aj fun _ Bb=>dM cE 11 kr<|dP 3 [] (mc 0 U mn) ?_
  obtain ⟨u,hu⟩:=aK r.bL k I
  have Z:=bQ iC hu
  refine dS (IA k U (aA 6 U) cK dc I I)<|dS (gl k 0 (vI u) U cp (aA 6 U) Z U dc U)<|m_ 3 [] (mc 0 U mn) U<|dS (IA i U (aA 6 U) cK dc I I)<|dS (gl i 0 (vI x) U cp (aA 6 U) M U dc U)<|dP 1 [] mn ?_
  refine cR<|RK Bb<|bR U (aN fun L=>?_) (aO fun L=>?_)
  ·refine ct<|aF<|KK BF<|ak<|rP 3 [] mn ?_
   refine aB ?_
   have GZ:(vI (((k+1):Nat):Int))=(vI ((k:Int)+1)):=by exact cI I
   refine aU (g ⟨(k+1),⟨I,yr B hu L⟩⟩ _ _ _ U os (cQ 3<|bj U GZ<|dI.nil _) (aI [0,1,2,3,4,5,6,7,8]))
  refine WS fun _ Bg=>rP 2 [] mn ?_
  refine RK Bg<|av<|LX hQ (false,0,none,0,[]) [] [] mn U (by rfl) U U ?_
  (exact ⟨Bl,fun _=>⟨rfl,fun q=>by have S:=q.num; have q2:=q.x7; have q3:=q.nh; have q4:=q.yY; omega⟩⟩)
 refine m_ 3 [] (mc 0 U mn) U<|dS (IA i U (aA 5 U) cK dc I I)<|dS (gl i 0 (vI y) U cp (aA 5 U) Id U dc U)<|dP 4 [] (mc 0 U mn) ?_
 obtain ⟨z,hz⟩:=aK r.aM (i-1) I
 have L2:=bQ iC hz
 refine dS (IA (i-1) U (aA 5 U) cK dc I I)<|dS (gl (i-1) 0 (vI z) U cp (aA 5 U) L2 U dc U)<|dP 4 [] mn ?_
 refine jq (t:=69) U (aO fun K4=>?_) (aN fun K4=>?_)
 ·refine mq 10 U<|cR<|RK K<|aQ U<|WS fun _ AC=>rP 2 [] mn ?_
  refine RK AC<|av<|LX hQ (false,0,none,0,[]) [] [] mn U (by rfl) U U ?_
  (exact ⟨Bl,fun _=>⟨rfl,fun q=>by have S:=(q.ids i y hy).2 z I hz; omega⟩⟩)
 refine dP 3 [] (mc 0 U mn) ?_
 obtain ⟨x,hx⟩:=aK r.bL i I
 have M:=bQ iC hx
 refine dS (IA i U (aA 6 U) cK dc I I)<|dS (gl i 0 (vI x) U cp (aA 6 U) M U dc U)<|mq 2 U<|dS (CL (po x 0 ((r.aM.length:Int)-1)) (aJ) U)<|dP 2 [] mn ?_
 refine cR<|RK K<|cP U (bw fun Y=>?_) (bu fun Y=>?_)
 ·refine WS fun _ AO=>rP 2 [] mn ?_
  refine RK AO<|av<|LX hQ (false,0,none,0,[]) [] [] mn U (by rfl) U U ?_
  (exact ⟨Bl,fun _=>⟨rfl,fun q=>by have S:=q.KS hx; omega⟩⟩)
 refine WK V<|WS fun _ A0=>rP 1 [] mn ?_
 refine RK A0<|ax ?_
 have A:(0≤i)∧(∀ (q:Nat) y,q<0→r.bL[q]? =some y→y≠x):=by exact ⟨Nat.zero_le _,fun q y hq=>absurd hq (Nat.not_lt_zero _)⟩
 refine bJ (ι:={z:Nat // (z≤i)∧(∀ (q:Nat) y,q<z→r.bL[q]? =some y→y≠x)}) [1,4,5] [0,1,2,3,4,5,6,7,8] U U (fun z=>[(6,(vI (z.1:Int)))]) (fun z=>[]) (fun _=>rfl) (fun _=>rfl) (fun z=>i-z.1) ⟨0,A⟩ (aT U) (aI [0,1,2,3,4,5,6,7,8]) ?_
 clear A
 rintro ⟨k,⟨O,B⟩⟩ J23 f
 try dsimp only
 refine aj fun _ A1=>WS fun _ A2=>rP 3 [] mn ?_
 refine RK A2<|bR U (aN fun X=>?_) (aO fun X=>?_)
 ·refine bB<|ab<|ab<|ay<|aF<|KK AA<|ak<|rP 3 [] mn ?_
  refine aB ?_
  have GT:(vI (((i+1):Nat):Int))=(vI ((i:Int)+1)):=by exact cI I
  refine aU (T ⟨(i+1),⟨I,Dz AB (fun a ha=>by rw [hy] at ha; cases ha; exact ⟨I,fun b hb hc=>by (rw [hz] at hc; cases hc; omega)⟩) (fun a ha=>by rw [hx] at ha; cases ha; exact ⟨I,fun k b hk hb=>B k b I hb⟩)⟩⟩ _ _ _ rfl os (dI.cons rfl<|dI.cons rfl<|bj rfl GT<|dI.nil _) (aI [0,1,2,3,4,5,6,7,8]))
 refine WK A1<|aj fun _ A3=>ax<|aj fun _ A4=>dM cE 11 kr<|dP 3 [] (mc 0 U mn) ?_
 obtain ⟨u,hu⟩:=aK r.bL k I
 have Z:=bQ iC hu
 refine dS (IA k U (aA 6 U) cK dc I I)<|dS (gl k 0 (vI u) U cp (aA 6 U) Z U dc U)<|m_ 3 [] (mc 0 U mn) U<|dS (IA i U (aA 6 U) cK dc I I)<|dS (gl i 0 (vI x) U cp (aA 6 U) M U dc U)<|dP 1 [] mn ?_
 refine cR<|RK A4<|bR U (aN fun L=>?_) (aO fun L=>?_)
 ·refine ct<|aF<|KK A3<|ak<|rP 3 [] mn ?_
  refine aB ?_
  have GF:(vI (((k+1):Nat):Int))=(vI ((k:Int)+1)):=by exact cI I
  refine aU (f ⟨(k+1),⟨I,yr B hu L⟩⟩ _ _ _ U os (cQ 3<|bj U GF<|dI.nil _) (aI [0,1,2,3,4,5,6,7,8]))
 refine WS fun _ A5=>rP 2 [] mn ?_
 refine RK A5<|av<|LX hQ (false,0,none,0,[]) [] [] mn U (by rfl) U U ?_
 (exact ⟨Bl,fun _=>⟨rfl,fun q=>by exact q.QU I hu hx L⟩⟩)
end
section
open Go.RowKit
theorem IH (r:cj) (kA:OA) (kC:Nat) (az:List RA) (cA:OA) (cC:Nat) (bA:OA) (bC:Nat) (slA:OA) (slC:Nat) (drA:OA) (drC:Nat) (ha:List cb) (heA:OA) (heC:Nat) (hin:fw r az ha):
 lB Tryz.prog 72 [(vA (cu.cells (oY r kA kC cA cC bA bC slA slC drA drC heA heC)))] [(rd kA r.an.aL.length 9 (r.an.aL.map al.cells)),(rd cA r.an.ai.length 2 (List.zipWith ar.cells r.an.ai az)),(fp (aR ar.ia r.an.ai az)),(rd bA r.an.ag.length 4 (r.an.ag.map bE.cells)),(rd slA r.aM.length 1 (r.aM.map iC)),(rd drA r.bL.length 1 (r.bL.map iC)),(rd heA r.ao.length 1 (List.zipWith cw r.ao ha)),(fp (aR iI r.ao ha))] (fun (x:Bool×Int×(OA)×Nat×(List RA))=>bif x.1 then (vT [(vS x.2.2.1 ((cT r).length) x.2.2.2.1),(vI 0)]) else (vT [(vS none 0 0),(vI x.2.1)])) (fun (x:Bool×Int×(OA)×Nat×(List RA))=>(x.1=true→(cG r=0∧x.2.2.2.2.length=r.ao.length))∧(x.1=false→(x.2.1=cG r∧ ¬ cG r=0))) (fun (x:Bool×Int×(OA)×Nat×(List RA))=>bif x.1 then [(own x.2.2.1 x.2.2.2.1 109 1 (List.zipWith EM (cT r) x.2.2.2.2)),(br (aR D8 (cT r) x.2.2.2.2))] else []):=by
 have AA:=hin.line
 have b:=hin.iU
 have c:=hin.has
 have Z:=hin.iY
 have Y:=hin.draw
 have a:=dQ (r:=r)
 refine dh kr Tryz.func72 U U fun f Q hQ hN=>?_
 try dsimp only
 refine WS fun _ O=>fZ U fun e=>bk 2 U<|RK O<|aj fun _ P=>WS fun _ R=>bk 1 U<|rS (LP (b_.cells (lO r.an kA kC cA cC bA bC)) 0 U cp U U U)<|rS (CL (CA r.an kA kC az cA cC bA bC asm) (bo [1,2,3,4]) U)<|bk 1 U<|RK R<|WS fun _ S=>rP 2 [] mn ?_
 refine RK S<|cP U (bw fun A=>?_) (bu fun A=>?_)
 ·refine WS fun _ T=>rP 3 [] mn ?_
  refine RK T<|av<|LX hQ (false,(c_ r.an),none,0,[]) [] [] mn U (by rfl) U U ?_
  exact sw<|MW (zY A) A
 refine WK P<|WS fun _ G=>rP 1 [] (mc 0 U mn) ?_
 refine cX (FG r kA kC az cA cC bA bC slA slC drA drC ha heA heC hin (by exact A)) (bo [1,2,3,4,5,6,7,8]) U fun d J=>?_
 obtain ⟨K,W,L,M,N⟩:=d
 cases K
 rotate_left 1
 ·obtain ⟨AB,V⟩:=J.1 rfl
  try dsimp only [cond_true,cond_false,List.cons_append,List.nil_append]
  refine bk 5 U<|RK G<|aj fun _ D=>WS fun _ E=>bk 2 U<|RK E<|aZ U<|WK D<|WS fun _ F=>rP 3 [] mn ?_
  refine RK F<|av ?_
  refine LX hQ (true,0,L,M,N) [0,1] [] mn U (by (show List.all _ _=true; simp only [cond_true,fm,List.all_nil,s_,Bool.and_true]; rfl)) U U ?_
  exact ⟨fun _=>⟨Cm A AB,V⟩,Nl⟩
 obtain ⟨H,he⟩:=J.2 rfl
 try dsimp only at H he
 subst H
 try dsimp only [cond_true,cond_false,List.cons_append,List.nil_append]
 refine bk 5 U<|RK G<|aj fun _ X=>WS fun _ B=>bk 2 U<|RK B<|aQ U<|WS fun _ C=>rP 2 [] mn ?_
 refine RK C<|av<|LX hQ (false,60,none,0,[]) [] [] mn U (by rfl) U U ?_
 exact sw<|qp (kQ A he)
end
section
open Go.RowKit
theorem H9 (r:cj) (kA:OA) (kC:Nat) (az:List RA) (cA:OA) (cC:Nat) (bA:OA) (bC:Nat) (slA:OA) (slC:Nat) (drA:OA) (drC:Nat) (ha:List cb) (heA:OA) (heC:Nat) (hin:fw r az ha):
 eB Tryz.prog 37 [(vA (cu.cells (oY r kA kC cA cC bA bC slA slC drA drC heA heC)))] [(rd kA r.an.aL.length 9 (r.an.aL.map al.cells)),(rd cA r.an.ai.length 2 (List.zipWith ar.cells r.an.ai az)),(fp (aR ar.ia r.an.ai az)),(rd bA r.an.ag.length 4 (r.an.ag.map bE.cells)),(rd slA r.aM.length 1 (r.aM.map iC)),(rd drA r.bL.length 1 (r.bL.map iC)),(rd heA r.ao.length 1 (List.zipWith cw r.ao ha)),(fp (aR iI r.ao ha))] (vI (cG r)):=by
 have H:=hin.line
 have M:=hin.iU
 have N:=hin.has
 have J:=hin.iY
 have AB:=hin.draw
 have K:=dQ (r:=r)
 refine bG kr Tryz.func37 U U fun V Q hQ hN=>?_
 try dsimp only
 refine WS fun _ G=>fZ U fun AA=>bk 1 U<|RK G<|WS fun _ C=>rP 1 [] (mc 0 U mn) ?_
 refine cX (IH r kA kC az cA cC bA bC slA slC drA drC ha heA heC hin) (bo [1,2,3,4,5,6,7,8]) U fun T E=>?_
 obtain ⟨F,L,P,R,S⟩:=T
 cases F
 rotate_left 1
 ·obtain ⟨he,O⟩:=E.1 rfl
  try dsimp only [cond_true,cond_false,List.cons_append,List.nil_append]
  refine bk 5 U<|RK C<|WS fun _ B=>rP 2 [] mn ?_
  refine RK B<|av<|Q1 hQ U U U ?_
  first|rfl|(rw [he])
 obtain ⟨D,he⟩:=E.2 rfl
 try dsimp only at D he
 subst D
 try dsimp only [cond_true,cond_false,List.cons_append,List.nil_append]
 refine bk 5 U<|RK C<|WS fun _ A=>rP 2 [] mn ?_
 refine RK A<|av<|Q1 hQ U U U ?_
 first|rfl|(rw [he])
end
section
open Go.RowKit
theorem DW (r:cj) (kA:OA) (kC:Nat) (az:List RA) (cA:OA) (cC:Nat) (bA:OA) (bC:Nat) (slA:OA) (slC:Nat) (drA:OA) (drC:Nat) (ha:List cb) (heA:OA) (heC:Nat) (hraw:oJ r az ha):
 eB Tryz.prog 8 [(vA (cu.cells (oY r kA kC cA cC bA bC slA slC drA drC heA heC)))] [(rd kA r.an.aL.length 9 (r.an.aL.map al.cells)),(rd cA r.an.ai.length 2 (List.zipWith ar.cells r.an.ai az)),(fp (aR ar.ia r.an.ai az)),(rd bA r.an.ag.length 4 (r.an.ag.map bE.cells)),(rd slA r.aM.length 1 (r.aM.map iC)),(rd drA r.bL.length 1 (r.bL.map iC)),(rd heA r.ao.length 1 (List.zipWith cw r.ao ha)),(fp (aR iI r.ao ha))] (vB (decide (¬ ou r∧cG r=0))):=by
 refine bG kr Tryz.func8 U U fun F Q hQ hN=>?_
 try dsimp only
 refine WS fun _ C=>fZ U fun E=>bk 1 U<|RK C<|WS fun _ B=>fP 1 [] (mc 0 U mn) U<|rS (CL (Dp r kA kC az cA cC bA bC slA slC drA drC ha heA heC hraw) (bo [1,2,3,4,5,6,7,8]) U)<|rP 2 [] mn ?_
 refine ck (t:=6) U (bu fun A=>?_) (bw fun A=>?_)
 ·refine bk 1 U<|rP 4 [] mn ?_
  refine RK B<|av<|Q1 hQ U U U ?_
  first|exact cB (cy fun q=>q.1 A).symm|exact cB (gN.2 ⟨fun q=>⟨A,q⟩,fun q=>q.2⟩)
 refine rP 1 [] (mc 0 U mn) ?_
 have D:=hraw.small A
 refine rS (CL (H9 r kA kC az cA cC bA bC slA slC drA drC ha heA heC sd) (bo [1,2,3,4,5,6,7,8]) U) ?_
 refine rP 3 [] mn ?_
 refine RK B<|av<|Q1 hQ U U U ?_
 first|exact cB (cy fun q=>q.1 A).symm|exact cB (gN.2 ⟨fun q=>⟨A,q⟩,fun q=>q.2⟩)
end
section
open Go.RowKit
theorem LS (r:cx) (sgA:OA) (sgC:Nat) (n:Int) (hsl:r.ah.length≤1000000) (hnb:0≤n∧n≤1000000) (hbd: ¬ iF r→(0≤r.Start∧r.Start≤86400000)∧(0≤r.fE∧r.fE≤86400000)∧ ∀ z∈r.ah,0≤z.Read∧z.Read≤86400000):
 lB Tryz.prog 14 [(vA (dp.cells (lT r sgA sgC))),(vI n)] [(rd sgA r.ah.length 2 (r.ah.map aH.cells))] (fun (x:Bool×Int×(OA)×Nat)=>bif x.1 then (vA (dp.cells (dp.mk ((g9 n r).Start) ((g9 n r).fE) (bp.mk x.2.2.1 ((g9 n r).ah.length) x.2.2.2)))) else (vA (dp.cells (lT r sgA sgC)))) (fun (x:Bool×Int×(OA)×Nat)=>(x.1=true→ ¬ iF r)∧(x.1=false→(x.2.1=0∧iF r))) (fun (x:Bool×Int×(OA)×Nat)=>bif x.1 then [(own x.2.2.1 x.2.2.2 107 2 ((g9 n r).ah.map aH.cells))] else []):=by
 refine dh kr Tryz.func14 U U fun y Q hQ hN=>?_
 try dsimp only
 refine WS fun _ c=>fZ U fun u=>AL U N7 fun v=>RK c ?_
 refine np (ι:={z:Nat // (¬ iF r)}) [1,2,4] [0,1,2] U U (fun z=>[]) (fun z=>[]) (fun _=>rfl) (fun _=>rfl) ?_ fun K4 F=>?_
 ·rintro ⟨w,E⟩
  try dsimp only
  have AA:=E
  have e:=hbd AA
  refine WS fun _ A=>rP 1 [] (mc 1 U mn) ?_
  refine cX (GJ r sgA sgC hsl) (bo [2]) U fun s p=>?_
  obtain ⟨C,D⟩:=s
  try dsimp only
  refine AL U N7 fun h=>gd U B8 U<|RK A<|aj fun _ H=>dK cE [9,11] [] [] [1,2,3,4] [] U U U U U<|eS U (FA 0 U fc U)<|eS U (L1 (vI r.Start) 2 U cp U U)<|eS U (MV U)<|eS U (BI U (iq ⟨I,I⟩))<|eS U (FA 1 U fc U)<|eS U (L1 (vI r.fE) 2 U cp U U)<|eS U (MV U)<|eS U (BI U (iq ⟨I,I⟩))<|eS U (FA 0 U fc U)<|eS U (FA 1 U fc U)<|eU U<|cf U fun T12 P=>Wk (dp.cells (dp.mk (r.Start+n) r.fE (bp.mk C r.ah.length D))) U zb U U<|aB (P _ _ (aI [1,2,3,4]) ?_)
  refine cf U fun T13 R=>Wk (dp.cells (dp.mk (r.Start+n) (r.fE+n) (bp.mk C r.ah.length D))) U zb U U<|aB (R _ _ (aI [1,2,3,4]) ?_)
  refine fF U<|KK H<|aj fun _ AB=>aj fun _ J=>?_
  rw [show (own C D 107 2 (r.ah.map aH.cells))=(own C D 107 2 ((fO (gD n) 0 r.ah).map aH.cells)) from by rw [nH]]
  refine ak<|rP 4 [] (mc 0 U mn) ?_
  refine RK J<|ax ?_
  have B:(0≤r.ah.length):=by exact Nat.zero_le _
  refine bJ (ι:={z:Nat // (z≤r.ah.length)}) [1,2,4,5,36] [0,2,3,4] U U (fun z=>[(37,(vI (z.1:Int)))]) (fun z=>[(own C D 107 2 ((fO (gD n) z.1 r.ah).map aH.cells))]) (fun _=>rfl) (fun _=>rfl) (fun z=>r.ah.length-z.1) ⟨0,B⟩ (aT U) (aI [0,2,3,4,1]) ?_
  clear B
  rintro ⟨j,g⟩ J16 G
  try dsimp only
  have m:(fO (gD n) j r.ah).length=r.ah.length:=nQ
  refine WS fun _ K=>rP 1 [] mn ?_
  refine RK K<|aj fun _ L=>bR U (aN fun Z=>?_) (aO fun Z=>?_)
  ·refine bB<|ab<|ab<|ay<|KK AB<|aj fun _ O=>?_
   rw [show (fO (gD n) j r.ah)=r.ah.map (gD n) from qZ I]
   rw [show bp.mk C r.ah.length D=bp.mk C ((r.ah.map (gD n)).length) D from by rw [List.length_map]]
   refine ak<|rP 1 [] (mc 0 U mn) ?_
   refine te U B8 U<|RK O<|av ?_
   refine LX hQ (true,0,C,D) [4] [0] (mc 1 U mn) U (by first|rfl|(show List.all _ _=true; simp only [cond_true,fm,List.all_nil,s_,Bool.and_true]; rfl)) U U ?_
   exact ⟨fun _=>AA,Nl⟩
  refine WK L<|aj fun _ M=>ax<|WS fun _ N=>bk 2 U<|RK N<|ak<|rP 3 [] (mc 0 U mn) ?_
  obtain ⟨z,hz⟩:=aK (fO (gD n) j r.ah) j I
  have V:=bQ aH.cells hz
  refine rS (IA j U (ae (n:=r.ah.length) 4 U sq) wh dc I I) ?_
  refine rS (lZ ((j*2)+1) U (ae (n:=(fO (gD n) j r.ah).length) 4 U sm) (Nat.mul_pos I dc) fc U)<|rS (gl j 1 (vI z.Read) U cp (ae (n:=(fO (gD n) j r.ah).length) 4 U sm) V U dc U)<|rP 1 [] mn ?_
  have W:=oL.symm.trans hz
  have q:=e.2.2 z (aS W)
  refine rP 1 [] mn ?_
  refine rS (IA j U (ae (n:=r.ah.length) 4 U sq) wh dc I I) ?_
  refine rS (lZ ((j*2)+1) U (ae (n:=(fO (gD n) j r.ah).length) 4 U sm) (Nat.mul_pos I dc) fc U) ?_
  have S:((fO (gD n) j r.ah).set j (aH.mk z.fR (z.Read+n)))=(fO (gD n) (j+1) r.ah):=by exact q6 (f:=gD n) W
  refine df (k:=j) (o:=1) (vs:=[(vI (z.Read+n))]) (es':=(List.map aH.cells (fO (gD n) (j+1) r.ah))) (C':=[_,_,_,_,(own C D 107 2 (List.map aH.cells (fO (gD n) (j+1) r.ah)))]) 4 U U U zb U U U U V U dc (by exact (List.map_set (f:=aH.cells) (l:=(fO (gD n) j r.ah)) (i:=j) (a:=(aH.mk z.fR (z.Read+n)))).symm.trans (congrArg _ S)) U<|aB<|aF<|KK M<|ak<|rP 2 [] mn ?_
  refine aB ?_
  have T:(vI (((j+1):Nat):Int))=(vI ((j:Int)+1)):=by exact cI I
  refine aU (G ⟨(j+1),(by first|omega|(simp only []; omega))⟩ _ _ _ U os (cQ 5<|bj U T<|dI.nil _) (aI [0,1,2,3,4]))
 refine WS fun _ A=>rP 4 [] (mc 1 U mn) ?_
 refine ck (t:=10) U (aN fun X=>?_) (aO fun X=>?_)
 ·refine rP 10 [] mn ?_
  refine RK A<|aZ U<|ct ?_
  refine aU (jr (aT U) (aI [0,1,2]) (F ⟨0,(by unfold iF; omega)⟩))
 refine rP 5 [] (mc 1 U mn) ?_
 refine ck (t:=15) U (aN fun Y=>?_) (aO fun Y=>?_)
 ·refine rP 5 [] mn ?_
  refine RK A<|aZ U<|ct ?_
  refine aU (jr (aT U) (aI [0,1,2]) (F ⟨0,(by unfold iF; omega)⟩))
 refine rP 5 [] (mc 1 U mn) ?_
 refine RK A<|bR U (aN fun b=>?_) (aO fun b=>?_)
 ·refine ct ?_
  refine aU (jr (aT U) (aI [0,1,2]) (F ⟨0,(by unfold iF; omega)⟩))
 refine WS fun _ d=>rP 1 [] (mc 1 U mn) ?_
 refine gd U B8 U<|RK d<|av ?_
 refine LX hQ (false,0,none,0) [] [0] (mc 0 U mn) U (by first|rfl|(show List.all _ _=true; simp only [cond_true,fm,List.all_nil,s_,Bool.and_true]; rfl)) U U ?_
 exact ⟨Bl,fun _=>⟨U,by unfold iF; omega⟩⟩
end
section
open Go.RowKit
theorem BZ (r:cj) (kA:OA) (kC:Nat) (az:List RA) (cA:OA) (cC:Nat) (bA:OA) (bC:Nat) (slA:OA) (slC:Nat) (drA:OA) (drC:Nat) (ha:List cb) (heA:OA) (heC:Nat) (much:Int) (hraw:oJ r az ha) (hmb:0≤much∧much≤4294967295):
 eB Tryz.prog 4 [(vA (cu.cells (oY r kA kC cA cC bA bC slA slC drA drC heA heC))),(Value.int .u32 much)] [(rd fx 3 2 eC),(rd kA r.an.aL.length 9 (r.an.aL.map al.cells)),(rd cA r.an.ai.length 2 (List.zipWith ar.cells r.an.ai az)),(fp (aR ar.ia r.an.ai az)),(rd bA r.an.ag.length 4 (r.an.ag.map bE.cells)),(rd slA r.aM.length 1 (r.aM.map iC)),(rd drA r.bL.length 1 (r.bL.map iC)),(rd heA r.ao.length 1 (List.zipWith cw r.ao ha)),(fp (aR iI r.ao ha))] (vB true):=by
 refine bG kr Tryz.func4 U U fun w0 Q hQ hN=>?_
 try dsimp only
 refine WS fun _ WD=>fZ U fun b2=>bk 1 U<|RK WD<|WS fun _ WE=>rS (CL K2 (bo [1]) U)<|bk 1 U<|RK WE<|aj fun _ WF=>WS fun _ WG=>bk 2 U<|RK WG<|aZ U<|WK WF<|aj fun _ WH=>WS fun _ WI=>fP 1 [] (mc 0 U mn) U<|rS (CL (DW r kA kC az cA cC bA bC slA slC drA drC ha heA heC hraw) (bo [2,3,4,5,6,7,8,9]) U)<|rP 1 [] mn ?_
 refine RK WI<|cP U (bw fun G=>?_) (bu fun G=>?_)
 ·refine WS fun _ WL=>rP 2 [] mn ?_
  refine RK WL<|av<|Q1 hQ U U U ?_
  first|rfl|exact cB (gF (qh G.2 E.2).2.symm)
 refine WK WH<|WS fun _ WM=>?_
 have Y:=hraw.small G.1
 have W5:=Y.line.rr
 have WR:=Y.line
 have WN:=Y.iU
 have W6:=Y.has
 have W0:=Y.iY
 have Ww:=Y.draw
 have W1:=dQ (r:=r)
 have Cp:=(gX G.2).2
 have WQ:=(gX G.2).1
 have W9:=Cp.num
 have W8:=Cp.nh
 refine bk 1 U<|rS (BI U (PB I I))<|rS (SX (uB (m:=(much % 1000000)) U U UF qy (AI (by first|assumption|omega))) U U)<|rP 1 [] mn ?_
 refine RK WM<|aj fun _ J7=>?_
 have WT:=UD much 1000000 hmb.1 I
 obtain ⟨nn,R8⟩: ∃ z:Int,(much % 1000000)=z:=⟨_,rfl⟩
 rw [R8]
 rw [R8] at WT
 refine ak<|rP 1 [] (mc 0 U mn) ?_
 refine cX (Fi r kA kC az cA cC bA bC slA slC drA drC ha heA heC (by exact Y) (by exact G.1)) (bo [2,3,4,5,6,7,8,9]) U fun WY TX=>?_
 obtain ⟨N,S,H,J,D,O,T,P,AA,R,V,AD,K,F⟩:=WY
 try dsimp only
 obtain ⟨⟨M,R6⟩,v⟩:=TX
 try dsimp only at M R6 v
 have Ck:=Y.OK M R6 v
 have Wy:=v.1
 obtain ⟨XA,R9⟩:=fy WQ
 refine AL U yT fun VO=>gd U sv U<|RK J7<|aj fun _ J8=>aj fun _ J9=>?_
 rw [show (br (aR ar.owns r.an.ai D))=(br (aR ar.owns (fO (gi nn) 0 r.an.ai) D)) from by rw [nH]]
 refine ak<|rP 5 [] (mc 0 U mn) ?_
 refine RK J9<|ax ?_
 have A:(0≤r.an.ai.length):=by exact Nat.zero_le _
 refine bJ (ι:={z:Nat // (z≤r.an.ai.length)}) [2,5,6,7,46] [0,1,2,4,5,6,7,8,9,10,11,12,13,14,15,16,17,18] U U (fun z=>[(47,(vI (z.1:Int)))]) (fun z=>[(br (aR ar.owns (fO (gi nn) z.1 r.an.ai) D))]) (fun _=>rfl) (fun _=>rfl) (fun z=>r.an.ai.length-z.1) ⟨0,A⟩ (aT U) (aI [0,1,2,4,5,6,7,8,9,10,11,12,13,14,15,16,17,18,3]) ?_
 clear A
 rintro ⟨i,WP⟩ J30 J2
 try dsimp only
 refine WS fun _ KC=>rP 1 [] mn ?_
 refine RK KC<|aj fun _ KR=>cP U (aO fun Vc=>?_) (aN fun Vc=>?_)
 ·refine WK KR<|aj fun _ KS=>ax<|WS fun _ K0=>bk 2 U<|RK K0<|WS fun _ K4=>rP 4 [] (mc 0 U mn) ?_
  obtain ⟨x,hx⟩:=aK r.an.ai i I
  obtain ⟨xa,GF⟩:=aK D i I
  have S2:(List.zipWith ar.cells r.an.ai D)[i]? =some (ar.cells x xa):=dB hx GF
  refine rS (IA i U (ae (n:=r.an.ai.length) 2 U (ei M)) uC dc I I)<|rS (lZ ((i*2)+1) U (ae (n:=r.an.ai.length) 2 U (ei M)) (Nat.mul_pos I dc) fc U)<|rS (gl i 1 (vS xa.1 x.aX.length xa.2) U cp (ae (n:=r.an.ai.length) 2 U (ei M)) S2 U dc U)<|rP 2 [] mn ?_
  refine RK K4<|ax ?_
  have XB:=(R9.clock _ (aS hx)).len
  refine DU (f:=ar.owns) 18 ((oL (f:=gi nn)).trans hx) GF U U U ?_
  have TV:(fO (iQ nn) 0 x.aX)=x.aX:=nH
  refine Qo (C':=[(own xa.1 xa.2 55 3 ((fO (iQ nn) 0 x.aX).map cr.cells)),(br (ff ar.owns (fO (gi nn) i r.an.ai) D i)),(cm VO 32 (cu.cells (cu.mk (b_.mk (bD.mk (bp.mk N r.an.aL.length S)) r.an.gK (bp.mk H r.an.ai.length J) (bp.mk O r.an.ag.length T) r.an.bS r.an.eg r.an.cM) (bp.mk P r.aM.length AA) (bp.mk R r.bL.length V) r.im (bp.mk AD r.ao.length K)))),(own N S 153 9 (r.an.aL.map al.cells)),(own H J 53 2 (List.zipWith ar.cells r.an.ai D)),(own O T 160 4 (r.an.ag.map bE.cells)),(own P AA 3 1 (r.aM.map iC)),(own R V 3 1 (r.bL.map iC)),(own AD K 56 1 (List.zipWith cw r.ao F)),(br (aR gZ r.ao F)),(cm b2 32 (cu.cells (oY r kA kC cA cC bA bC slA slC drA drC heA heC))),(rd fx 3 2 eC).ro,(rd kA r.an.aL.length 9 (r.an.aL.map al.cells)).ro,(rd cA r.an.ai.length 2 (List.zipWith ar.cells r.an.ai az)).ro,(fp (aR ar.ia r.an.ai az)).ro,(rd bA r.an.ag.length 4 (r.an.ag.map bE.cells)).ro,(rd slA r.aM.length 1 (r.aM.map iC)).ro,(rd drA r.bL.length 1 (r.bL.map iC)).ro,(rd heA r.ao.length 1 (List.zipWith cw r.ao ha)).ro,(fp (aR iI r.ao ha)).ro]) (by rw [TV]; rfl) ?_
  have A:(0≤x.aX.length):=by exact Nat.zero_le _
  refine bJ (ι:={z:Nat // (z≤x.aX.length)}) [2,5,6,7,8,46,47,57] [1,2,3,4,5,6,7,8,9,10,11,12,13,14,15,16,17,18,19] U U (fun z=>[(58,(vI (z.1:Int)))]) (fun z=>[(own xa.1 xa.2 55 3 ((fO (iQ nn) z.1 x.aX).map cr.cells))]) (fun _=>rfl) (fun _=>rfl) (fun z=>x.aX.length-z.1) ⟨0,A⟩ (aT U) (aI [1,2,3,4,5,6,7,8,9,10,11,12,13,14,15,16,17,18,19,0]) ?_
  clear A
  rintro ⟨k,T9⟩ J37 J3
  try dsimp only
  have W7:(fO (iQ nn) k x.aX).length=x.aX.length:=nQ
  refine WS fun _ K5=>rP 1 [] mn ?_
  refine RK K5<|aj fun _ K8=>bR U (aN fun Vk=>?_) (aO fun Vk=>?_)
  ·refine bB<|ab<|ab<|ay<|aF<|KK KS<|ak<|rP 2 [] mn ?_
   refine aB ?_
   rw [show fO (iQ nn) k x.aX=(gi nn x).aX from qZ I]
   refine E_ (f:=ar.owns) (ms:=fO (gi nn) i r.an.ai) (m:=gi nn x) 0 19 (by rw [nQ]; omega) GF U U U ?_
   rw [q6 hx]
   have R0:(vI (((i+1):Nat):Int))=(vI ((i:Int)+1)):=by exact cI I
   refine aU (J2 ⟨(i+1),(by first|omega|(simp only []; omega))⟩ _ _ _ U os (cQ 5<|bj U R0<|dI.nil _) (aI [1,2,3,4,5,6,7,8,9,10,11,12,13,14,15,16,17,18,0]))
  refine WK K8<|aj fun _ LA=>ax<|WS fun _ LE=>bk 2 U<|RK LE<|ak<|fP 4 [] (mc 1 U mn) U<|rS (IA i U (ae (n:=r.an.ai.length) 3 U (ei M)) uC dc I I)<|rS (lZ ((i*2)+1) U (ae (n:=r.an.ai.length) 3 U (ei M)) (Nat.mul_pos I dc) fc U)<|rS (gl i 1 (vS xa.1 x.aX.length xa.2) U cp (ae (n:=r.an.ai.length) 3 U (ei M)) S2 U dc U)<|rP 1 [] mn ?_
  obtain ⟨y,hy⟩:=aK (fO (iQ nn) k x.aX) k I
  have Tp:=bQ cr.cells hy
  refine rS (IA k U (ae (n:=x.aX.length) 19 U sq) tW dc I I) ?_
  refine rS (lZ (k*3) U (ae (n:=(fO (iQ nn) k x.aX).length) 19 U sm) (Nat.mul_pos I dc) fc U)<|rS (gl k 0 (vI y.At) U cp (ae (n:=(fO (iQ nn) k x.aX).length) 19 U sm) Tp U dc U)<|rP 1 [] mn ?_
  have T0:=oL.symm.trans hy
  have XC:=(R9.clock _ (aS hx)).sV T0
  refine rP 1 [] mn ?_
  refine rS (IA k U (ae (n:=x.aX.length) 19 U sq) tW dc I I) ?_
  refine rS (lZ (k*3) U (ae (n:=(fO (iQ nn) k x.aX).length) 19 U sm) (Nat.mul_pos I dc) fc U) ?_
  have Rb:((fO (iQ nn) k x.aX).set k (cr.mk (y.At+nn) y.er))=(fO (iQ nn) (k+1) x.aX):=by exact q6 (f:=iQ nn) T0
  refine df (k:=k) (o:=0) (vs:=[(vI (y.At+nn))]) (es':=(List.map cr.cells (fO (iQ nn) (k+1) x.aX))) (C':=[_,_,_,_,_,_,_,_,_,_,_,_,_,_,_,_,_,_,_,(own xa.1 xa.2 55 3 (List.map cr.cells (fO (iQ nn) (k+1) x.aX)))]) 19 U U U zb U U U U Tp U dc (by exact (List.map_set (f:=cr.cells) (l:=(fO (iQ nn) k x.aX)) (i:=k) (a:=(cr.mk (y.At+nn) y.er))).symm.trans (congrArg _ Rb)) U<|aB<|aF<|KK LA<|ak<|rP 2 [] mn ?_
  refine aB ?_
  have Rc:(vI (((k+1):Nat):Int))=(vI ((k:Int)+1)):=by exact cI I
  refine aU (J3 ⟨(k+1),(by first|omega|(simp only []; omega))⟩ _ _ _ U os (cQ 8<|bj U Rc<|dI.nil _) (aI [0,1,2,3,4,5,6,7,8,9,10,11,12,13,14,15,16,17,18,19]))
 refine bB<|ab<|ab<|ay<|KK J8<|aj fun _ LT=>aj fun _ La=>?_
 rw [show fO (gi nn) i r.an.ai=r.an.ai.map (gi nn) from qZ I]
 rw [show (List.zipWith ar.cells r.an.ai D)=(List.zipWith ar.cells (r.an.ai.map (gi nn)) D) from Iv.symm]
 rw [show bp.mk H r.an.ai.length J=bp.mk H ((r.an.ai.map (gi nn)).length) J from by rw [List.length_map]]
 rw [show (br (aR gZ r.ao F))=(br (aR gZ (fO (fun x=>x.map (eW nn)) 0 r.ao) (f_ [] F 0))) from by rw [nH,uJ]]
 refine ak<|rP 4 [] (mc 0 U mn) ?_
 refine RK La<|ax ?_
 have A:(0≤r.ao.length)∧(([]:List cb).length=0)∧(([]:List cb).map (fun (p:cb)=>p.1)=(F.take 0).map (fun (p:cb)=>p.1))∧(∀ (k:Nat) y (a:cb),r.ao[k]? =some y→([]:List cb)[k]? =some a→a.2.length=y.length):=by exact ⟨Nat.zero_le _,rfl,rfl,fun k y a _ q=>by simp at q⟩
 refine bJ (ι:={z:Nat×(List cb) // (z.1≤r.ao.length)∧(z.2.length=z.1)∧(z.2.map (fun (p:cb)=>p.1)=(F.take z.1).map (fun (p:cb)=>p.1))∧(∀ (k:Nat) y (a:cb),r.ao[k]? =some y→z.2[k]? =some a→a.2.length=y.length)}) [2,5,6,7,80] [0,1,2,3,4,5,6,8,9,10,11,12,13,14,15,16,17,18] U U (fun z=>[(81,(vI (z.1.1:Int)))]) (fun z=>[(br (aR gZ (fO (fun x=>x.map (eW nn)) z.1.1 r.ao) (f_ z.1.2 F z.1.1)))]) (fun _=>rfl) (fun _=>rfl) (fun z=>r.ao.length-z.1.1) ⟨(0,([]:List cb)),A⟩ (aT U) (aI [0,1,2,3,4,5,6,8,9,10,11,12,13,14,15,16,17,18,7]) ?_
 clear A
 rintro ⟨⟨h,kz⟩,⟨A2,L,Z,e⟩⟩ J48 J4
 try dsimp only at A2 L Z e
 try dsimp only
 refine WS fun _ Li=>rP 1 [] mn ?_
 refine RK Li<|aj fun _ Lk=>cP U (aO fun Vq=>?_) (aN fun Vq=>?_)
 ·refine WK Lk<|aj fun _ Ll=>ax<|WS fun _ Lo=>bk 2 U<|RK Lo<|WS fun _ Ls=>rP 3 [] (mc 0 U mn) ?_
  obtain ⟨ht,A0⟩:=aK r.ao h I
  obtain ⟨C,j⟩:=aK F h I
  have Ci:(List.zipWith cw r.ao F)[h]? =some (cw ht C):=dB A0 j
  have GE:=Ck.nu _ _ _ A0 j
  have XD:=GE.nD
  have WN:=GE.len
  refine rS (IA h U (ae (n:=r.ao.length) 6 U (cS v.1)) nj dc I I)<|rS (gl h 0 (vS C.1.1 ht.length C.1.2) U cp (ae (n:=r.ao.length) 6 U (cS v.1)) Ci U dc U)<|rP 2 [] mn ?_
  refine RK Ls<|ax<|Mx (k:=h) 18 (oL.trans A0) (mF L j) U U ?_
  rw [show (List.zipWith au.cells ht C.2)=(List.zipWith au.cells (fO (eW nn) 0 ht) (f_ [] C.2 0)) from by rw [nH,uJ],show (br (aR jO ht C.2))=(br (aR jO (fO (eW nn) 0 ht) (f_ [] C.2 0))) from by rw [nH,uJ]]
  have A:(0≤ht.length)∧(([]:List RA).length=0):=by exact ⟨Nat.zero_le _,rfl⟩
  refine bJ (ι:={z:Nat×(List RA) // (z.1≤ht.length)∧(z.2.length=z.1)}) [2,5,6,7,10,80,81,89] [2,3,4,5,6,7,8,9,10,11,12,13,14,15,16,17,18,19,20] U U (fun z=>[(90,(vI (z.1.1:Int)))]) (fun z=>[(own C.1.1 C.1.2 62 7 (List.zipWith au.cells (fO (eW nn) z.1.1 ht) (f_ z.1.2 C.2 z.1.1))),(br (aR jO (fO (eW nn) z.1.1 ht) (f_ z.1.2 C.2 z.1.1)))]) (fun _=>rfl) (fun _=>rfl) (fun z=>ht.length-z.1.1) ⟨(0,([]:List RA)),A⟩ (aT U) (aI [2,3,4,5,6,7,8,9,10,11,12,13,14,15,16,17,18,19,20,0,1]) ?_
  clear A
  rintro ⟨⟨i,dz⟩,⟨A3,B⟩⟩ J55 Bs
  try dsimp only at A3 B
  try dsimp only
  refine WS fun _ L0=>rP 1 [] mn ?_
  refine RK L0<|aj fun _ L2=>bR U (aN fun V3=>?_) (aO fun V3=>?_)
  ·refine bB<|ab<|ab<|ay<|aF<|KK Ll<|ak<|rP 2 [] mn ?_
   refine aB ?_
   rw [show (fO (eW nn) i ht)=ht.map (eW nn) from qZ I,show (f_ dz C.2 i)=dz from nR I]
   refine OJ (h':=ht.map (eW nn)) (a':=(C.1,dz)) 0 20 19 (by rw [nQ]; omega) (by rw [dR L I]; omega) U U (yL A0 U L j) ?_
   have R3:(vI (((h+1):Nat):Int))=(vI ((h:Int)+1)):=by exact cI I
   refine aU (J4 ⟨((h+1),(kz++[(C.1,dz)])),⟨I,by simp; omega,MY Z j U,BH A0 e L (show dz.length=ht.length by omega)⟩⟩ _ _ _ U os (cQ 5<|bj U R3<|dI.nil _) (aI [1,2,3,4,5,6,7,8,9,10,11,12,13,14,15,16,17,18,0]))
  refine WK L2<|aj fun _ B3=>ax<|WS fun _ L3=>bk 2 U<|RK L3<|WS fun _ M2=>fP 3 [] (mc 1 U mn) U<|rS (IA h U (ae (n:=r.ao.length) 7 U (cS v.1)) nj dc I I)<|rS (gl h 0 (vS C.1.1 ht.length C.1.2) U cp (ae (n:=r.ao.length) 7 U (cS v.1)) Ci U dc U)<|rP 1 [] mn ?_
  obtain ⟨d,hd⟩:=aK ht i I
  obtain ⟨da,u⟩:=aK C.2 i I
  have Fd:(List.zipWith au.cells (fO (eW nn) i ht) (f_ dz C.2 i))[i]? =some (au.cells d da):=dB (oL.trans hd) (mF B u)
  have W_:=GE.sig d (aS hd)
  refine rS (IA i U (ae (n:=ht.length) 19 U (by rw [List.length_zipWith,nQ,dR B I]; omega)) tm dc I I) ?_
  refine rP 1 [] mn ?_
  refine RK M2 ?_
  refine wV 19 U (by rw [List.length_zipWith,nQ,dR B I]; omega) (fun Wf X=>?_)
  refine ak<|rP 2 [] mn ?_
  refine rS (SX (pA U U X) U U)<|rS (RO ((i*7)+4) U X fc U) ?_
  refine rS (oE i 4 (dp.cells (dp.mk d.bX.Start d.bX.fE (bp.mk da.1 d.bX.ah.length da.2))) U cp (ae (n:=(fO (eW nn) i ht).length) 19 U (by rw [List.length_zipWith,nQ,dR B I]; omega)) Fd U dc U U) ?_
  refine rP 1 [] mn ?_
  refine cX (LS d.bX da.1 da.2 nn I I (by exact fun q=>ES G.2 A0 hd q)) (aq (show jh _ (rd da.1 d.bX.ah.length 2 (d.bX.ah.map aH.cells)).holds from (fun w hw=>(dg 20 U K_) w hw _ (bY (oL.trans hd) (mF B u) (by simp [au.ia]))))<|aJ) U fun WZ C0=>?_
  obtain ⟨T2,Wl,AC,AO⟩:=WZ
  cases T2
  ·obtain ⟨R7,he⟩:=C0.2 rfl
   try dsimp only at R7 he
   subst R7
   try dsimp only [cond_true,cond_false,List.cons_append,List.nil_append]
   refine rS (SX (pA U U X) U U)<|rS (RO ((i*7)+4) U X fc U)<|df (k:=i) (o:=4) (vs:=(dp.cells (dp.mk d.bX.Start d.bX.fE (bp.mk da.1 d.bX.ah.length da.2)))) (es':=(List.zipWith au.cells (fO (eW nn) (i+1) ht) (f_ (dz++[da]) C.2 (i+1)))) (C':=[_,_,_,_,_,_,_,_,_,_,_,_,_,_,_,_,_,_,_,(own C.1.1 C.1.2 62 7 (List.zipWith au.cells (fO (eW nn) (i+1) ht) (f_ (dz++[da]) C.2 (i+1)))),_]) 19 U U U B8 U U U U Fd U dc (by exact zV (c:=au.cells) (b:=da) hd (vG he) B u) U<|aB<|aF<|KK B3<|ak<|rP 2 [] mn ?_
   refine aB ?_
   rw [← Df (g:=jO) hd (vG he) B u]
   have R1:(vI (((i+1):Nat):Int))=(vI ((i:Int)+1)):=by exact cI I
   refine aU (Bs ⟨((i+1),(dz++[da])),⟨I,by simp; omega⟩⟩ _ _ _ U os (cQ 8<|bj U R1<|dI.nil _) (aI [0,1,2,3,4,5,6,7,8,9,10,11,12,13,14,15,16,17,18,19,20]))
  obtain R5:=C0.1 rfl
  try dsimp only [cond_true,cond_false,List.cons_append,List.nil_append]
  refine rS (SX (pA U U X) U U)<|rS (RO ((i*7)+4) U X fc U)<|df (k:=i) (o:=4) (vs:=(dp.cells (dp.mk ((g9 nn d.bX).Start) ((g9 nn d.bX).fE) (bp.mk AC ((g9 nn d.bX).ah.length) AO)))) (es':=(List.zipWith au.cells (fO (eW nn) (i+1) ht) (f_ (dz++[(AC,AO)]) C.2 (i+1)))) (C':=[_,_,_,_,_,_,_,_,_,_,_,_,_,_,_,_,_,_,_,_,(own C.1.1 C.1.2 62 7 (List.zipWith au.cells (fO (eW nn) (i+1) ht) (f_ (dz++[(AC,AO)]) C.2 (i+1)))),_]) 20 U U U B8 U U U U Fd U dc (by exact zV (c:=au.cells) (b:=(AC,AO)) hd (vy R5) B u) U<|aB<|aF<|KK B3<|ak<|rP 2 [] mn ?_
  refine aB<|Ra (b':=(AC,AO)) (d':=⟨d.Out,d.ed,d.Time,g9 nn d.bX⟩) 21 0 (oL.trans hd) (mF B u) U U (yL hd (vy R5) B u) ?_
  have R2:(vI (((i+1):Nat):Int))=(vI ((i:Int)+1)):=by exact cI I
  refine aU (Bs ⟨((i+1),(dz++[(AC,AO)])),⟨I,by simp; omega⟩⟩ _ _ _ U os (cQ 8<|bj U R2<|dI.nil _) (aI [1,2,3,4,5,6,7,8,9,10,11,12,13,14,15,16,17,18,19,20,0]))
 refine bB<|ab<|ab<|ay<|KK LT<|aj fun _ M7=>aj fun _ NE=>?_
 rw [show fO (fun x=>x.map (eW nn)) h r.ao=(bK nn r).ao from qZ I,show f_ kz F h=kz from nR I]
 have WO:kz.map (fun (p:cb)=>p.1)=F.map (fun (p:cb)=>p.1):=by rw [Z,List.take_of_length_le I]
 have W:pJ (bK nn r).ao kz:=Jd I e
 rw [show (List.zipWith cw r.ao F)=(List.zipWith cw (bK nn r).ao kz) from HC WO]
 rw [show bp.mk AD r.ao.length K=bp.mk AD ((bK nn r).ao.length) K from by rw [show (bK nn r).ao.length=r.ao.length from List.length_map _]]
 have A1:oJ (bK nn r) _ _:=M8 Ck W
 refine ak<|rP 1 [] (mc 0 U mn) ?_
 refine rS (CL (DW (bK nn r) N S D H J O T P AA R V kz AD K (by exact A1)) (aq (ae (n:=r.an.aL.length) 1 U (by first|(simp; done)|(rw [List.length_map]; rfl)))<|aq (ae (n:=(r.an.ai.map (gi nn)).length) 2 U (ei (M.trans (List.length_map _).symm)))<|aq (dg 17 U gU)<|aq (ae (n:=r.an.ag.length) 3 U (by first|(simp; done)|(rw [List.length_map]; rfl)))<|aq (ae (n:=r.aM.length) 4 U (by first|(simp; done)|(rw [List.length_map]; rfl)))<|aq (ae (n:=r.bL.length) 5 U (by first|(simp; done)|(rw [List.length_map]; rfl)))<|aq (ae (n:=((bK nn r).ao).length) 6 U (cS W.1))<|aq (fY 18 U W)<|aJ) U) ?_
 refine rP 1 [] mn ?_
 refine RK NE<|cP U (bw fun E=>?_) (bu fun E=>?_)
 ·refine WS fun _ NN=>rP 2 [] mn ?_
  refine RK NN<|av<|Q1 hQ U U U ?_
  first|rfl|exact cB (gF (qh G.2 E.2).2.symm)
 refine WK M7<|aj fun _ Ne=>aj fun _ Op=>?_
 have s:=A1.small E.1
 have ST: ∀ i,(gS r i).length≤r.aM.length:=fun i=>sW
 have Sz: ∀ i,(gS (bK nn r) i).length≤(bK nn r).aM.length:=fun i=>sW
 have Wz:(bK nn r).aM.length=r.aM.length:=rfl
 have S1:=oO (r:=r)
 have Cx:=oO (r:=(bK nn r))
 refine ak<|rP 4 [] (mc 7 U mn) ?_
 refine RK Op<|ax ?_
 have A:(0≤r.aM.length):=by exact Nat.zero_le _
 refine bJ (ι:={z:Nat // (z≤r.aM.length)}) [2,5,7,116,117] [0,1,2,3,4,5,6,7,8,9,10,11,12,13,14,15,16,17,18] U U (fun z=>[(118,(vI (z.1:Int)))]) (fun z=>[]) (fun _=>rfl) (fun _=>rfl) (fun z=>r.aM.length-z.1) ⟨0,A⟩ (aT U) (aI [0,1,2,3,4,5,6,7,8,9,10,11,12,13,14,15,16,17,18]) ?_
 clear A
 rintro ⟨i,UV⟩ J78 J5
 try dsimp only
 refine WS fun _ Or=>rP 1 [] mn ?_
 refine RK Or<|aj fun _ Os=>bR U (aN fun WB=>?_) (aO fun WB=>?_)
 ·refine bB<|ab<|ab<|ay<|KK Ne<|WS fun _ Do=>rP 1 [] (mc 7 U mn) ?_
  refine cX (wy r kA kC az cA cC bA bC slA slC drA drC ha heA heC sd) (bo [8,9,10,11,12,13,14,15,16]) U fun T5 GT=>?_
  obtain ⟨C1,Hy,In⟩:=T5
  try dsimp only
  have Fn:=GT
  have B7:=Fn
  refine bk 5 U<|RK Do<|WS fun _ D2=>rP 1 [] (mc 2 U mn) ?_
  refine cX (wy (bK nn r) N S D H J O T P AA R V kz AD K (by exact s)) (fB 10 U U<|aq (ae (n:=r.an.aL.length) 3 U (by first|(simp; done)|(rw [List.length_map]; rfl)))<|aq (ae (n:=(r.an.ai.map (gi nn)).length) 4 U (ei (M.trans (List.length_map _).symm)))<|aq (dg 19 U gU)<|aq (ae (n:=r.an.ag.length) 5 U (by first|(simp; done)|(rw [List.length_map]; rfl)))<|aq (ae (n:=r.aM.length) 6 U (by first|(simp; done)|(rw [List.length_map]; rfl)))<|aq (ae (n:=r.bL.length) 7 U (by first|(simp; done)|(rw [List.length_map]; rfl)))<|aq (ae (n:=((bK nn r).ao).length) 8 U (cS W.1))<|aq (fY 20 U W)<|aJ) U fun T6 GZ=>?_
  obtain ⟨C2,H1,JN⟩:=T6
  try dsimp only
  have Fn:=GZ
  have B9:=Fn
  refine bk 5 U<|RK D2<|WS fun _ D9=>rP 4 [] (mc 11 U mn) ?_
  refine cX (AB (r.ao.length:Int) r kA kC az cA cC bA bC slA slC drA drC ha heA heC sd) (bo [12,13,14,15,16,17,18,19,20]) U fun T7 WW=>?_
  obtain ⟨IO,JO⟩:=T7
  try dsimp only
  refine bk 5 U<|RK D9<|WS fun _ EQ=>rP 4 [0,1] (mc 5 U (mc 12 U mn)) ?_
  refine cX (AB (r.ao.length:Int) (bK nn r) N S D H J O T P AA R V kz AD K (by exact s)) (fB 13 U U<|aq (ae (n:=r.an.aL.length) 6 U (by first|(simp; done)|(rw [List.length_map]; rfl)))<|aq (ae (n:=(r.an.ai.map (gi nn)).length) 7 U (ei (M.trans (List.length_map _).symm)))<|aq (dg 22 U gU)<|aq (ae (n:=r.an.ag.length) 8 U (by first|(simp; done)|(rw [List.length_map]; rfl)))<|aq (ae (n:=r.aM.length) 9 U (by first|(simp; done)|(rw [List.length_map]; rfl)))<|aq (ae (n:=r.bL.length) 10 U (by first|(simp; done)|(rw [List.length_map]; rfl)))<|aq (ae (n:=((bK nn r).ao).length) 11 U (cS W.1))<|aq (fY 23 U W)<|aJ) U fun T8 WX=>?_
  obtain ⟨IR,Jc⟩:=T8
  try dsimp only
  refine bk 5 U<|RK EQ<|WS fun _ Eq=>rP 6 [] mn ?_
  refine ck (t:=203) U (aN fun A8=>?_) (aO fun A8=>?_)
  ·exact absurd (G.2) A8
  refine rP 4 [] mn ?_
  refine ck (t:=207) U (aN fun A9=>?_) (aO fun A9=>?_)
  ·exact absurd (E.2) A9
  refine bk 2 U<|rS (CL (qY (dy r) (dy (bK nn r)) C1 Hy In C2 H1 JN (by exact S1.1) (by exact Cx.1) (by exact S1.2) (by exact Cx.2) (by exact B7) (by exact B9)) (aq (ae (n:=(dy r).length) 4 U (kv B7))<|aq (dg 5 U zP)<|aq (ae (n:=(dy (bK nn r)).length) 2 U (kv B9))<|aq (dg 3 U zP)<|aJ) U)<|rP 2 [] mn ?_
  refine ck (t:=212) U (aN fun BF=>?_) (aO fun BF=>?_)
  ·exact absurd ((EW G.2 E.2).symm) BF
  refine rP 4 [] mn ?_
  refine ck (t:=216) U (aN fun Bb=>?_) (aO fun Bb=>?_)
  ·exact absurd (rD G.2 I) Bb
  refine rP 4 [] mn ?_
  refine ck (t:=220) U (aN fun Bg=>?_) (aO fun Bg=>?_)
  ·exact absurd ((qh G.2 E.2).1.trans (rD G.2 I)) Bg
  refine bk 2 U<|rS (CL (lv (gj r (r.ao.length:Int)) IO JO (gj (bK nn r) (r.ao.length:Int)) IR Jc (by exact Nat.le_trans (sP Y.draw) dc) (by exact Nat.le_trans (sP s.draw) dc)) (aq (ae (n:=(gj r (r.ao.length:Int)).length) 1 U sm)<|aq (ae (n:=(gj (bK nn r) (r.ao.length:Int)).length) 0 U sm)<|aJ) U)<|rP 2 [] mn ?_
  refine RK Eq<|av<|Q1 hQ U U U ?_
  first|rfl|exact cB (gF (qh G.2 E.2).2.symm)
 refine WK Os<|aj fun _ PP=>ax<|WS fun _ Pi=>bk 2 U<|RK Pi<|aj fun _ Pl=>WS fun _ Px=>rP 4 [] (mc 7 U mn) ?_
 refine RK Px<|ax ?_
 have A:(0≤r.ao.length):=by exact Nat.zero_le _
 refine bJ (ι:={z:Nat // (z≤r.ao.length)}) [2,5,7,13,116,117,118,122,123] [0,1,2,3,4,5,6,7,8,9,10,11,12,13,14,15,16,17,18] U U (fun z=>[(124,(vI (z.1:Int)))]) (fun z=>[]) (fun _=>rfl) (fun _=>rfl) (fun z=>r.ao.length-z.1) ⟨0,A⟩ (aT U) (aI [0,1,2,3,4,5,6,7,8,9,10,11,12,13,14,15,16,17,18]) ?_
 clear A
 rintro ⟨h,VN⟩ J86 J6
 try dsimp only
 refine WS fun _ QD=>rP 1 [] mn ?_
 refine RK QD<|aj fun _ QH=>bR U (aN fun WC=>?_) (aO fun WC=>?_)
 ·refine bB<|ab<|ab<|ay<|KK Pl<|WS fun _ RM=>rP 2 [] (mc 7 U mn) ?_
  refine cX (Ar (i:Int) r kA kC az cA cC bA bC slA slC drA drC ha heA heC sd) (bo [8,9,10,11,12,13,14,15,16]) U fun Wa WU=>?_
  obtain ⟨Go,Id⟩:=Wa
  try dsimp only
  refine bk 5 U<|RK RM<|WS fun _ C3=>rP 2 [] (mc 1 U mn) ?_
  refine cX (Ar (i:Int) (bK nn r) N S D H J O T P AA R V kz AD K (by exact s)) (fB 9 U U<|aq (ae (n:=r.an.aL.length) 2 U (by first|(simp; done)|(rw [List.length_map]; rfl)))<|aq (ae (n:=(r.an.ai.map (gi nn)).length) 3 U (ei (M.trans (List.length_map _).symm)))<|aq (dg 18 U gU)<|aq (ae (n:=r.an.ag.length) 4 U (by first|(simp; done)|(rw [List.length_map]; rfl)))<|aq (ae (n:=r.aM.length) 5 U (by first|(simp; done)|(rw [List.length_map]; rfl)))<|aq (ae (n:=r.bL.length) 6 U (by first|(simp; done)|(rw [List.length_map]; rfl)))<|aq (ae (n:=((bK nn r).ao).length) 7 U (cS W.1))<|aq (fY 19 U W)<|aJ) U fun T4 WV=>?_
  obtain ⟨Hi,If⟩:=T4
  try dsimp only
  refine bk 5 U<|RK C3<|WS fun _ Di=>rP 4 [] mn ?_
  refine dx (t:=165) U (bw fun A6=>?_) (bu fun A6=>?_)
  ·exact absurd (yo G.2 E.2).1.symm A6
  refine rP 2 [] mn ?_
  refine rS (CL (lv (gS r (i:Int)) Go Id (gS (bK nn r) (i:Int)) Hi If (by have:=ST (i:Int); omega) (by have:=Sz (i:Int); omega)) (aq (ae (n:=(gS r (i:Int)).length) 1 U sm)<|aq (ae (n:=(gS (bK nn r) (i:Int)).length) 0 U sm)<|aJ) U) ?_
  refine rP 2 [] mn ?_
  refine RK Di<|cP U (bw fun A7=>?_) (bu fun A7=>?_)
  ·exact absurd (yo G.2 E.2).2.symm A7
  refine ct<|aF<|KK PP<|ak<|rP 2 [] mn ?_
  refine aB ?_
  have FS:(vI (((i+1):Nat):Int))=(vI ((i:Int)+1)):=by exact cI I
  refine aU (J5 ⟨(i+1),(by first|omega|(simp only []; omega))⟩ _ _ _ U os (cQ 5<|bj U FS<|dI.nil _) (aI [2,3,4,5,6,7,8,9,10,11,12,13,14,15,16,17,18,19,20]))
 refine WK QH<|aj fun _ QU=>ax<|WS fun _ Qb=>bk 2 U<|RK Qb<|WS fun _ Qr=>rP 3 [] (mc 7 U mn) ?_
 refine rS (CL (Ez (h:Int) (i:Int) r kA kC az cA cC bA bC slA slC drA drC ha heA heC sd) (bo [8,9,10,11,12,13,14,15,16]) U) ?_
 refine bk 3 U<|AL U dA fun W3=>gd U cz U<|bk 1 U<|RK Qr<|WS fun _ Qu=>rP 3 [] (mc 1 U mn) ?_
 refine rS (CL (Ez (h:Int) (i:Int) (bK nn r) N S D H J O T P AA R V kz AD K (by exact s)) (fB 9 U U<|aq (ae (n:=r.an.aL.length) 2 U (by first|(simp; done)|(rw [List.length_map]; rfl)))<|aq (ae (n:=(r.an.ai.map (gi nn)).length) 3 U (ei (M.trans (List.length_map _).symm)))<|aq (dg 18 U gU)<|aq (ae (n:=r.an.ag.length) 4 U (by first|(simp; done)|(rw [List.length_map]; rfl)))<|aq (ae (n:=r.aM.length) 5 U (by first|(simp; done)|(rw [List.length_map]; rfl)))<|aq (ae (n:=r.bL.length) 6 U (by first|(simp; done)|(rw [List.length_map]; rfl)))<|aq (ae (n:=((bK nn r).ao).length) 7 U (cS W.1))<|aq (fY 19 U W)<|aJ) U) ?_
 refine bk 3 U<|AL U dA fun W4=>gd U cz U<|bk 1 U<|RK Qu<|WS fun _ RG=>rP 4 [] mn ?_
 refine dx (t:=144) U (bw fun A4=>?_) (bu fun A4=>?_)
 ·exact absurd (Ae G.2 E.2).1.symm A4
 refine fP 2 [0,1] (mc 1 U (mc 0 U mn)) U<|rS (BI U (PO _ _ (gY r (h:Int) (i:Int)) (gY (bK nn r) (h:Int) (i:Int))))<|rP 1 [] mn ?_
 refine RK RG<|cP U (bw fun A5=>?_) (bu fun A5=>?_)
 ·exact absurd (Ae G.2 E.2).2.symm A5
 refine ct<|aF<|KK QU<|ak<|rP 2 [] mn ?_
 refine aB ?_
 have R4:(vI (((h+1):Nat):Int))=(vI ((h:Int)+1)):=by exact cI I
 refine aU (J6 ⟨(h+1),(by first|omega|(simp only []; omega))⟩ _ _ _ U os (cQ 9<|bj U R4<|dI.nil _) (aI [2,3,4,5,6,7,8,9,10,11,12,13,14,15,16,17,18,19,20]))
end
section
open Go.RowKit
def iT {α:Type} (cells:α→List Value) (sz:Nat) (R:World→α→Prop) (w:World) (s:bp):Prop:= ∃ l:List α,s.n=l.length∧(rd s.a l.length sz (l.map cells)).holds w∧(∀ x∈l,R w x)∧l.length≤maxLen∧s.n≤s.c
theorem vM {w:World} {R:World→cr→Prop}: ∀ {l:List dD},(∀ x∈l,iT cr.cells 3 R w x.aX)→ ∃ (ms:List ar) (az:List RA),l.map dD.cells=List.zipWith ar.cells ms az∧ms.length=l.length∧az.length=l.length∧(∀ X∈aR ar.ia ms az,X.holds w)∧
 (∀ (k:Nat) m (a:RA),ms[k]? =some m→az[k]? =some a→m.aX.length≤a.2∧m.aX.length≤9223372036854775807)∧ms.map (fun m=>m.dv)=l.map (fun x=>x.dv)∧ ∀ (k:Nat) m y,ms[k]? =some m→y∈m.aX→R w y
 |[],_=>⟨[],[],rfl,rfl,rfl,(fun X hX=>by cases hX),(fun k m a h=>by simp at h),rfl,(fun k m y h=>by simp at h)⟩
 |x::l,h=>by
  obtain ⟨ms,az,E,F,G,H,AA,J,K⟩:=vM (fun y hy=>h y (cY _ hy))
  obtain ⟨sy,A,B,C,D,L⟩:=h x sm
  have e4':sy.length≤9223372036854775807:=D
  refine ⟨⟨x.dv,sy⟩::ms,(x.aX.a,x.aX.c)::az,?_,by simp [F],by simp [G],fun X hX=>?_,fun k m a hm ha=>?_,by simp [J],fun k m y hm hy=>?_⟩
  ·obtain ⟨dr,⟨a,n,c⟩⟩:=x
   simp only at A
   subst A
   simp only [List.map_cons,List.zipWith_cons_cons,E]
   rfl
  ·rcases dN.1 hX with hX|hX
   ·simp only [ar.ia,bI] at hX
    subst hX; exact B
   ·exact H X hX
  ·cases k with
   |zero=>
    simp only [List.getElem?_cons_zero,Option.some.injEq] at hm ha
    subst hm ha
    exact ⟨by simp only; omega,e4'⟩
   |succ k=>exact AA k m a (by simpa using hm) (by simpa using ha)
  ·cases k with
   |zero=>
    simp only [List.getElem?_cons_zero,Option.some.injEq] at hm
    subst hm
    exact C y hy
   |succ k=>exact K k m y (by simpa using hm) hy
theorem IS {w:World} {s:b_} {R1:World→al→Prop} {R2:World→dD→Prop} {R3:World→bE→Prop} {R4:World→cr→Prop} (h1:iT al.cells 9 R1 w s.aL.lu) (hs: ∀ x,R1 w x→0≤x.js∧x.js≤255) (h2:iT dD.cells 2 R2 w s.ai) (hc: ∀ x,R2 w x→iT cr.cells 3 R4 w x.aX) (h3:iT bE.cells 4 R3 w s.ag):
 ∃ (l:aY) (az:List RA) (kA:OA) (kC:Nat) (cA:OA) (cC:Nat) (bA:OA) (bC:Nat),s=b_.mk (bD.mk (bp.mk kA l.aL.length kC)) l.gK (bp.mk cA l.ai.length cC) (bp.mk bA l.ag.length bC) l.bS l.eg l.cM∧qj l az∧
  ((rd kA l.aL.length 9 (l.aL.map al.cells)).holds w∧(rd cA l.ai.length 2 (List.zipWith ar.cells l.ai az)).holds w∧(fp (aR ar.ia l.ai az)).holds w∧(rd bA l.ag.length 4 (l.ag.map bE.cells)).holds w)∧l.gK=s.gK∧l.bS=s.bS∧l.eg=s.eg∧l.cM=s.cM:=by
 obtain ⟨⟨⟨ka,kn,kc⟩⟩,fa,⟨ca,cn,cc⟩,⟨ba,bn,bc⟩,fi,fk,mi⟩:=s
 obtain ⟨ts,E,M,N,O,T⟩:=h1
 obtain ⟨cs,B,C,H,AA,R⟩:=h2
 obtain ⟨bs,A,F,P,G,Q⟩:=h3
 simp only at E B A
 subst E B A
 obtain ⟨ms,az,J,D,S,K,L,_⟩:=vM (fun x hx=>hc x (H x hx))
 have t4':ts.length≤9223372036854775807:=O
 have c4':cs.length≤9223372036854775807:=AA
 have b4':bs.length≤9223372036854775807:=G
 refine ⟨⟨ts,fa,ms,bs,fi,fk,mi⟩,az,ka,kc,ca,cc,ba,bc,by simp only [D],⟨t4',fun x hx=>hs x (N x hx),by simp only; omega,by simp only; omega,b4',L⟩,⟨M,?_,K,F⟩,U,U,U,U⟩
 simp only at C ⊢
 rw [D,← J]; exact C
end
section
open Go.RowKit
theorem yI {w:World} {R:World→aH→Prop}: ∀ {l:List bq},(∀ x∈l,iT aH.cells 2 R w x.bX.ah)→ ∃ (ms:List au) (az:List RA),l.map bq.cells=List.zipWith au.cells ms az∧ms.length=l.length∧az.length=l.length∧(∀ X∈aR au.ia ms az,X.holds w)∧
 ∀ d∈ms,d.bX.ah.length≤9223372036854775807
 |[],_=>⟨[],[],rfl,rfl,rfl,(fun X hX=>by cases hX),fun d h=>by cases h⟩
 |x::l,h=>by
  obtain ⟨ms,az,D,E,F,G,H⟩:=yI (fun y hy=>h y (cY _ hy))
  obtain ⟨sg,A,B,AA,C,J⟩:=h x sm
  have e4':sg.length≤9223372036854775807:=C
  refine ⟨⟨x.Out,x.ed,x.Time,⟨x.bX.Start,x.bX.fE,sg⟩⟩::ms,(x.bX.ah.a,x.bX.ah.c)::az,?_,by simp [E],by simp [F],fun X hX=>?_,fun d hd=>?_⟩
  ·obtain ⟨o,f,t,⟨st,nw,⟨a,n,c⟩⟩⟩:=x
   simp only at A
   subst A
   simp only [List.map_cons,List.zipWith_cons_cons,D]
   rfl
  ·rcases dN.1 hX with hX|hX
   ·simp only [au.ia,bI] at hX
    subst hX; exact B
   ·exact G X hX
  ·rcases bx.1 hd with rfl|hd
   ·exact e4'
   ·exact H d hd
theorem xT {w:World} {R2:World→bq→Prop} {R:World→aH→Prop} (hc: ∀ x,R2 w x→iT aH.cells 2 R w x.bX.ah): ∀ {l:List bp},(∀ x∈l,iT bq.cells 7 R2 w x)→ ∃ (ms:List (List au)) (ha:List cb),(l.map fun s=>[vS s.a s.n s.c])=List.zipWith cw ms ha∧ms.length=l.length∧ha.length=l.length∧(∀ X∈aR iI ms ha,X.holds w)∧
 ∀ (k:Nat) h (a:cb),ms[k]? =some h→ha[k]? =some a→h.length≤9223372036854775807∧a.2.length=h.length∧ ∀ d∈h,d.bX.ah.length≤9223372036854775807
 |[],_=>⟨[],[],rfl,rfl,rfl,(fun X hX=>by cases hX),(fun k h a q=>by simp at q)⟩
 |x::l,h=>by
  obtain ⟨ms,ha,J,K,L,M,N⟩:=xT hc (fun y hy=>h y (cY _ hy))
  obtain ⟨ds,C,G,H,AA,P⟩:=h x sm
  obtain ⟨dm,az,D,B,O,E,F⟩:=yI fun y hy=>hc y (H y hy)
  have e4':ds.length≤9223372036854775807:=AA
  refine ⟨dm::ms,((x.a,x.c),az)::ha,?_,by simp [K],by simp [L],fun X hX=>?_,fun k m a hm A=>?_⟩
  ·obtain ⟨a,n,c⟩:=x
   simp only at C
   subst C
   simp only [List.map_cons,List.zipWith_cons_cons,J,cw,B]
  ·rcases dN.1 hX with hX|hX
   ·unfold iI at hX
    rcases bx.1 hX with rfl|hX
    ·simp only
     rw [B,← D]; exact G
    ·exact E X hX
   ·exact M X hX
  ·cases k with
   |zero=>
    simp only [List.getElem?_cons_zero,Option.some.injEq] at hm A
    subst hm A
    exact ⟨I,by simp only; omega,F⟩
   |succ k=>exact N k m a (by simpa using hm) (by simpa using A)
theorem Hj {w:World} {s:cu} {R1:World→al→Prop} {R2:World→dD→Prop} {R3:World→bE→Prop} {R4:World→cr→Prop} {R5:World→Int→Prop} {R6:World→bp→Prop} {R7:World→bq→Prop} {R8:World→aH→Prop}
 (h1:iT al.cells 9 R1 w s.an.aL.lu) (hs: ∀ x,R1 w x→0≤x.js∧x.js≤255) (h2:iT dD.cells 2 R2 w s.an.ai) (hc: ∀ x,R2 w x→iT cr.cells 3 R4 w x.aX) (h3:iT bE.cells 4 R3 w s.an.ag)
 (h4:iT iC 1 R5 w s.aM) (h5:iT iC 1 R5 w s.bL) (h6:iT (fun s=>[vS s.a s.n s.c]) 1 R6 w s.ao) (h7: ∀ x,R6 w x→iT bq.cells 7 R7 w x) (h8: ∀ x,R7 w x→iT aH.cells 2 R8 w x.bX.ah):
 ∃ (r:cj) (az:List RA) (ha:List cb) (kA:OA) (kC:Nat) (cA:OA) (cC:Nat) (bA:OA) (bC:Nat) (slA:OA) (slC:Nat) (drA:OA) (drC:Nat) (heA:OA) (heC:Nat),
  s=cu.mk (b_.mk (bD.mk (bp.mk kA r.an.aL.length kC)) r.an.gK (bp.mk cA r.an.ai.length cC) (bp.mk bA r.an.ag.length bC) r.an.bS r.an.eg r.an.cM) (bp.mk slA r.aM.length slC) (bp.mk drA r.bL.length drC) r.im (bp.mk heA r.ao.length heC)∧oJ r az ha∧
  ((rd kA r.an.aL.length 9 (r.an.aL.map al.cells)).holds w∧(rd cA r.an.ai.length 2 (List.zipWith ar.cells r.an.ai az)).holds w∧(fp (aR ar.ia r.an.ai az)).holds w∧(rd bA r.an.ag.length 4 (r.an.ag.map bE.cells)).holds w∧
   (rd slA r.aM.length 1 (r.aM.map iC)).holds w∧(rd drA r.bL.length 1 (r.bL.map iC)).holds w∧(rd heA r.ao.length 1 (List.zipWith cw r.ao ha)).holds w∧(fp (aR iI r.ao ha)).holds w):=by
 obtain ⟨ln,⟨sa,sn,sc⟩,⟨da,dn,dc⟩,tu,⟨ea,en,ec⟩⟩:=s
 obtain ⟨l,az,kA,kC,cA,cC,bA,bC,e,A,hh,_⟩:=IS (s:=ln) h1 hs h2 hc h3
 subst e
 obtain ⟨sl,F,N,T,O,AA⟩:=h4
 obtain ⟨dr,B,G,P,H,Q⟩:=h5
 obtain ⟨he,D,E,L,M,S⟩:=h6
 obtain ⟨ms,ha,AB,C,R,J,K⟩:=xT h8 (fun x hx=>h7 x (L x hx))
 simp only at F B D
 subst F B D
 have s4':sl.length≤9223372036854775807:=O
 have d4':dr.length≤9223372036854775807:=H
 have q4':he.length≤9223372036854775807:=M
 refine ⟨⟨l,sl,dr,tu,ms⟩,az,ha,kA,kC,cA,cC,bA,bC,sa,sc,da,dc,ea,ec,by simp only [C],⟨A,s4',d4',by simp only; omega,by simp only; omega,K⟩,hh.1,hh.2.1,hh.2.2.1,hh.2.2.2,N,G,?_,J⟩
 simp only at E ⊢
 rw [C,← AB]; exact E
end
section
open Go.ChangeShapes Go.WideShapes Go.ChangeAt Go.RowKit
theorem VR:Tryz.prog.cellsOf 32=11:=by kernel_rfl
theorem Tw:Tryz.prog.cellsOf 28=7:=by kernel_rfl
theorem Sc:Tryz.prog.cellsOf 24=1:=by kernel_rfl
theorem VM:Tryz.prog.cellsOf 22=1:=by kernel_rfl
theorem PR:Tryz.prog.cellsOf 153=9:=by kernel_rfl
theorem BJ:Tryz.prog.cellsOf 3=1:=by kernel_rfl
def zZ (w:World) (n:Int):Prop:=qH n
theorem BL:tw Tryz.prog 3 Int iC zZ:=QM qy
theorem Es:Tryz.prog.cellsOf 45=2:=by kernel_rfl
structure Ep (w:World) (s:aa):Prop where
 Lo:zZ w s.Lo
 Hi:zZ w s.Hi
theorem VY:fL Tryz.prog 45=some [(3,0),(3,1)]:=by kernel_rfl
theorem Il:tw Tryz.prog 45 aa aa.cells Ep:=fun {H} enc w base sp A fuel cs x h=>by
 obtain ⟨hl,hp⟩:=jR VY h
 obtain ⟨M,O,F⟩:=hp 0 3 0 rfl
 obtain ⟨K,B,AA⟩:=BL _ _ _ _ _ _ _ _ F
 obtain ⟨N,P,G⟩:=hp 1 3 1 rfl
 obtain ⟨L,C,J⟩:=BL _ _ _ _ _ _ _ _ G
 refine ⟨⟨K,L⟩,?_,⟨AA,J⟩⟩
 have E:=ig (hl.trans Es) (by rw [BJ]) C
 have D:=dG B (m:=1) (by rw [BJ]) E
 exact D
theorem Wt:Tryz.prog.cellsOf 5=1:=by kernel_rfl
def Wh (w:World) (n:Int):Prop:=0≤n∧n≤255
theorem Wm:tw Tryz.prog 5 Int Jz Wh:=Uq UR
structure Jv (w:World) (s:al):Prop where
 Id:zZ w s.Id
 kS:Ep w s.kS
 l3:Ep w s.l3
 eP:Ep w s.eP
 js:Wh w s.js
 Bs:zZ w s.Bs
theorem Uh:fL Tryz.prog 153=some [(3,0),(45,1),(45,3),(45,5),(5,7),(3,8)]:=by kernel_rfl
theorem TS:tw Tryz.prog 153 al al.cells Jv:=fun {H} enc w base sp A fuel cs x h=>by
 obtain ⟨hl,hp⟩:=jR Uh h
 obtain ⟨g,o,O⟩:=hp 0 3 0 rfl
 obtain ⟨a,B,AA⟩:=BL _ _ _ _ _ _ _ _ O
 obtain ⟨i,p,P⟩:=hp 1 45 1 rfl
 obtain ⟨b,C,V⟩:=Il _ _ _ _ _ _ _ _ P
 obtain ⟨j,q,Q⟩:=hp 2 45 3 rfl
 obtain ⟨c,D,W⟩:=Il _ _ _ _ _ _ _ _ Q
 obtain ⟨k,r,R⟩:=hp 3 45 5 rfl
 obtain ⟨d,E,X⟩:=Il _ _ _ _ _ _ _ _ R
 obtain ⟨l,s,S⟩:=hp 4 5 7 rfl
 obtain ⟨e,F,Y⟩:=Wm _ _ _ _ _ _ _ _ S
 obtain ⟨n,t,T⟩:=hp 5 3 8 rfl
 obtain ⟨f,G,Z⟩:=BL _ _ _ _ _ _ _ _ T
 refine ⟨⟨a,b,c,d,e,f⟩,?_,⟨AA,V,W,X,Y,Z⟩⟩
 have N:=ig (hl.trans PR) (by rw [BJ]) G
 have M:=dG F (m:=8) (by rw [Wt]) N
 have L:=dG E (m:=7) (by rw [Es]) M
 have K:=dG D (m:=5) (by rw [Es]) L
 have J:=dG C (m:=3) (by rw [Es]) K
 have AB:=dG B (m:=1) (by rw [BJ]) J
 exact AB
def Ug (w:World) (s:bp):Prop:= ∃ l:List al,s.n=l.length∧(rd s.a l.length 9 (l.map al.cells)).holds w∧(∀ x∈l,Jv w x)∧l.length≤maxLen∧s.n≤s.c
theorem U4:tw Tryz.prog 22 bp (fun s=>[vS s.a s.n s.c]) Ug:=mL QX PR TS
structure Th (w:World) (s:bD):Prop where
 lu:Ug w s.lu
theorem V1:fL Tryz.prog 24=some [(22,0)]:=by kernel_rfl
theorem U1:tw Tryz.prog 24 bD bD.cells Th:=fun {H} enc w base sp A fuel cs x h=>by
 obtain ⟨hl,hp⟩:=jR V1 h
 obtain ⟨G,AA,D⟩:=hp 0 22 0 rfl
 obtain ⟨F,B,E⟩:=U4 _ _ _ _ _ _ _ _ D
 refine ⟨⟨F⟩,?_,⟨E⟩⟩
 have C:=ig (hl.trans Sc) (by rw [VM]) B
 exact C
theorem VQ:Tryz.prog.cellsOf 25=1:=by kernel_rfl
theorem S3:Tryz.prog.cellsOf 53=2:=by kernel_rfl
theorem Vt:Tryz.prog.cellsOf 51=1:=by kernel_rfl
theorem Tv:Tryz.prog.cellsOf 55=3:=by kernel_rfl
structure Qm (w:World) (s:cr):Prop where
 At:zZ w s.At
 er:Ep w s.er
theorem Vo:fL Tryz.prog 55=some [(3,0),(45,1)]:=by kernel_rfl
theorem Va:tw Tryz.prog 55 cr cr.cells Qm:=fun {H} enc w base sp A fuel cs x h=>by
 obtain ⟨hl,hp⟩:=jR Vo h
 obtain ⟨M,O,F⟩:=hp 0 3 0 rfl
 obtain ⟨K,B,AA⟩:=BL _ _ _ _ _ _ _ _ F
 obtain ⟨N,P,G⟩:=hp 1 45 1 rfl
 obtain ⟨L,C,J⟩:=Il _ _ _ _ _ _ _ _ G
 refine ⟨⟨K,L⟩,?_,⟨AA,J⟩⟩
 have E:=ig (hl.trans Tv) (by rw [Es]) C
 have D:=dG B (m:=1) (by rw [BJ]) E
 exact D
def TP (w:World) (s:bp):Prop:= ∃ l:List cr,s.n=l.length∧(rd s.a l.length 3 (l.map cr.cells)).holds w∧(∀ x∈l,Qm w x)∧l.length≤maxLen∧s.n≤s.c
theorem U8:tw Tryz.prog 51 bp (fun s=>[vS s.a s.n s.c]) TP:=mL R_ Tv Va
structure QI (w:World) (s:dD):Prop where
 dv:zZ w s.dv
 aX:TP w s.aX
theorem VV:fL Tryz.prog 53=some [(3,0),(51,1)]:=by kernel_rfl
theorem Vd:tw Tryz.prog 53 dD dD.cells QI:=fun {H} enc w base sp A fuel cs x h=>by
 obtain ⟨hl,hp⟩:=jR VV h
 obtain ⟨M,O,F⟩:=hp 0 3 0 rfl
 obtain ⟨K,B,AA⟩:=BL _ _ _ _ _ _ _ _ F
 obtain ⟨N,P,G⟩:=hp 1 51 1 rfl
 obtain ⟨L,C,J⟩:=U8 _ _ _ _ _ _ _ _ G
 refine ⟨⟨K,L⟩,?_,⟨AA,J⟩⟩
 have E:=ig (hl.trans S3) (by rw [Vt]) C
 have D:=dG B (m:=1) (by rw [BJ]) E
 exact D
def RX (w:World) (s:bp):Prop:= ∃ l:List dD,s.n=l.length∧(rd s.a l.length 2 (l.map dD.cells)).holds w∧(∀ x∈l,QI w x)∧l.length≤maxLen∧s.n≤s.c
theorem Vh:tw Tryz.prog 25 bp (fun s=>[vS s.a s.n s.c]) RX:=mL Td S3 Vd
theorem VZ:Tryz.prog.cellsOf 26=1:=by kernel_rfl
theorem PM:Tryz.prog.cellsOf 160=4:=by kernel_rfl
theorem Pu:Tryz.prog.cellsOf 158=3:=by kernel_rfl
structure PF (w:World) (s:cN):Prop where
 a_:zZ w s.a_
 mX:Ep w s.mX
theorem S4:fL Tryz.prog 158=some [(3,0),(45,1)]:=by kernel_rfl
theorem SY:tw Tryz.prog 158 cN cN.cells PF:=fun {H} enc w base sp A fuel cs x h=>by
 obtain ⟨hl,hp⟩:=jR S4 h
 obtain ⟨M,O,F⟩:=hp 0 3 0 rfl
 obtain ⟨K,B,AA⟩:=BL _ _ _ _ _ _ _ _ F
 obtain ⟨N,P,G⟩:=hp 1 45 1 rfl
 obtain ⟨L,C,J⟩:=Il _ _ _ _ _ _ _ _ G
 refine ⟨⟨K,L⟩,?_,⟨AA,J⟩⟩
 have E:=ig (hl.trans Pu) (by rw [Es]) C
 have D:=dG B (m:=1) (by rw [BJ]) E
 exact D
structure MO (w:World) (s:bE):Prop where
 m0:PF w s.m0
 jC:zZ w s.jC
theorem TB:fL Tryz.prog 160=some [(158,0),(3,3)]:=by kernel_rfl
theorem Tu:tw Tryz.prog 160 bE bE.cells MO:=fun {H} enc w base sp A fuel cs x h=>by
 obtain ⟨hl,hp⟩:=jR TB h
 obtain ⟨M,O,F⟩:=hp 0 158 0 rfl
 obtain ⟨K,B,AA⟩:=SY _ _ _ _ _ _ _ _ F
 obtain ⟨N,P,G⟩:=hp 1 3 3 rfl
 obtain ⟨L,C,J⟩:=BL _ _ _ _ _ _ _ _ G
 refine ⟨⟨K,L⟩,?_,⟨AA,J⟩⟩
 have E:=ig (hl.trans PM) (by rw [BJ]) C
 have D:=dG B (m:=3) (by rw [Pu]) E
 exact D
def Tk (w:World) (s:bp):Prop:= ∃ l:List bE,s.n=l.length∧(rd s.a l.length 4 (l.map bE.cells)).holds w∧(∀ x∈l,MO w x)∧l.length≤maxLen∧s.n≤s.c
theorem VW:tw Tryz.prog 26 bp (fun s=>[vS s.a s.n s.c]) Tk:=mL Q0 PM Tu
structure TE (w:World) (s:b_):Prop where
 aL:Th w s.aL
 gK:zZ w s.gK
 ai:RX w s.ai
 ag:Tk w s.ag
 bS:zZ w s.bS
 eg:zZ w s.eg
 cM:zZ w s.cM
theorem VS:fL Tryz.prog 28=some [(24,0),(3,1),(25,2),(26,3),(3,4),(3,5),(3,6)]:=by kernel_rfl
theorem Vs:tw Tryz.prog 28 b_ b_.cells TE:=fun {H} enc w base sp A fuel cs x h=>by
 obtain ⟨hl,hp⟩:=jR VS h
 obtain ⟨n,u,Q⟩:=hp 0 24 0 rfl
 obtain ⟨e,B,X⟩:=U1 _ _ _ _ _ _ _ _ Q
 obtain ⟨o,v,R⟩:=hp 1 3 1 rfl
 obtain ⟨f,C,Y⟩:=BL _ _ _ _ _ _ _ _ R
 obtain ⟨p,y,S⟩:=hp 2 25 2 rfl
 obtain ⟨g,D,Z⟩:=Vh _ _ _ _ _ _ _ _ S
 obtain ⟨q,z,T⟩:=hp 3 26 3 rfl
 obtain ⟨i,E,a⟩:=VW _ _ _ _ _ _ _ _ T
 obtain ⟨r,y4,AA⟩:=hp 4 3 4 rfl
 obtain ⟨j,F,b⟩:=BL _ _ _ _ _ _ _ _ AA
 obtain ⟨s,y5,V⟩:=hp 5 3 5 rfl
 obtain ⟨k,G,c⟩:=BL _ _ _ _ _ _ _ _ V
 obtain ⟨t,y6,W⟩:=hp 6 3 6 rfl
 obtain ⟨l,AB,d⟩:=BL _ _ _ _ _ _ _ _ W
 refine ⟨⟨e,f,g,i,j,k,l⟩,?_,⟨X,Y,Z,a,b,c,d⟩⟩
 have P:=ig (hl.trans Tw) (by rw [BJ]) AB
 have O:=dG G (m:=6) (by rw [BJ]) P
 have N:=dG F (m:=5) (by rw [BJ]) O
 have M:=dG E (m:=4) (by rw [VZ]) N
 have L:=dG D (m:=3) (by rw [VQ]) M
 have K:=dG C (m:=2) (by rw [BJ]) L
 have J:=dG B (m:=1) (by rw [Sc]) K
 exact J
theorem Tx:Tryz.prog.cellsOf 29=1:=by kernel_rfl
def Qe (w:World) (s:bp):Prop:= ∃ l:List Int,s.n=l.length∧(rd s.a l.length 1 (l.map iC)).holds w∧(∀ x∈l,zZ w x)∧l.length≤maxLen∧s.n≤s.c
theorem SV:tw Tryz.prog 29 bp (fun s=>[vS s.a s.n s.c]) Qe:=mL Si BJ BL
theorem U7:Tryz.prog.cellsOf 30=1:=by kernel_rfl
theorem VA:Tryz.prog.cellsOf 56=1:=by kernel_rfl
theorem TR:Tryz.prog.cellsOf 62=7:=by kernel_rfl
theorem Wg:Tryz.prog.cellsOf 4=1:=by kernel_rfl
def VF (w:World) (n:Bool):Prop:=True
theorem Wi:tw Tryz.prog 4 Bool (fun b=>[vB b]) VF:=O7 Wc
theorem Sh:Tryz.prog.cellsOf 60=3:=by kernel_rfl
theorem Vb:Tryz.prog.cellsOf 58=1:=by kernel_rfl
theorem PS:Tryz.prog.cellsOf 107=2:=by kernel_rfl
structure LR (w:World) (s:aH):Prop where
 fR:zZ w s.fR
 Read:zZ w s.Read
theorem Sb:fL Tryz.prog 107=some [(3,0),(3,1)]:=by kernel_rfl
theorem UC:tw Tryz.prog 107 aH aH.cells LR:=fun {H} enc w base sp A fuel cs x h=>by
 obtain ⟨hl,hp⟩:=jR Sb h
 obtain ⟨M,O,F⟩:=hp 0 3 0 rfl
 obtain ⟨K,B,AA⟩:=BL _ _ _ _ _ _ _ _ F
 obtain ⟨N,P,G⟩:=hp 1 3 1 rfl
 obtain ⟨L,C,J⟩:=BL _ _ _ _ _ _ _ _ G
 refine ⟨⟨K,L⟩,?_,⟨AA,J⟩⟩
 have E:=ig (hl.trans PS) (by rw [BJ]) C
 have D:=dG B (m:=1) (by rw [BJ]) E
 exact D
def TF (w:World) (s:bp):Prop:= ∃ l:List aH,s.n=l.length∧(rd s.a l.length 2 (l.map aH.cells)).holds w∧(∀ x∈l,LR w x)∧l.length≤maxLen∧s.n≤s.c
theorem VK:tw Tryz.prog 58 bp (fun s=>[vS s.a s.n s.c]) TF:=mL S6 PS UC
structure UJ (w:World) (s:dp):Prop where
 Start:zZ w s.Start
 fE:zZ w s.fE
 ah:TF w s.ah
theorem U0:fL Tryz.prog 60=some [(3,0),(3,1),(58,2)]:=by kernel_rfl
theorem Vi:tw Tryz.prog 60 dp dp.cells UJ:=fun {H} enc w base sp A fuel cs x h=>by
 obtain ⟨hl,hp⟩:=jR U0 h
 obtain ⟨R,AA,AB⟩:=hp 0 3 0 rfl
 obtain ⟨O,B,L⟩:=BL _ _ _ _ _ _ _ _ AB
 obtain ⟨S,V,J⟩:=hp 1 3 1 rfl
 obtain ⟨P,C,M⟩:=BL _ _ _ _ _ _ _ _ J
 obtain ⟨T,W,K⟩:=hp 2 58 2 rfl
 obtain ⟨Q,D,N⟩:=VK _ _ _ _ _ _ _ _ K
 refine ⟨⟨O,P,Q⟩,?_,⟨L,M,N⟩⟩
 have G:=ig (hl.trans Sh) (by rw [Vb]) D
 have F:=dG C (m:=2) (by rw [BJ]) G
 have E:=dG B (m:=1) (by rw [BJ]) F
 exact E
structure Rh (w:World) (s:bq):Prop where
 Out:VF w s.Out
 ed:VF w s.ed
 Time:Ep w s.Time
 bX:UJ w s.bX
theorem VB:fL Tryz.prog 62=some [(4,0),(4,1),(45,2),(60,4)]:=by kernel_rfl
theorem VX:tw Tryz.prog 62 bq bq.cells Rh:=fun {H} enc w base sp A fuel cs x h=>by
 obtain ⟨hl,hp⟩:=jR VB h
 obtain ⟨W,a,K⟩:=hp 0 4 0 rfl
 obtain ⟨S,B,O⟩:=Wi _ _ _ _ _ _ _ _ K
 obtain ⟨X,b,L⟩:=hp 1 4 1 rfl
 obtain ⟨T,C,P⟩:=Wi _ _ _ _ _ _ _ _ L
 obtain ⟨Y,c,M⟩:=hp 2 45 2 rfl
 obtain ⟨AA,D,Q⟩:=Il _ _ _ _ _ _ _ _ M
 obtain ⟨Z,d,N⟩:=hp 3 60 4 rfl
 obtain ⟨V,E,R⟩:=Vi _ _ _ _ _ _ _ _ N
 refine ⟨⟨S,T,AA,V⟩,?_,⟨O,P,Q,R⟩⟩
 have J:=ig (hl.trans TR) (by rw [Sh]) E
 have AB:=dG D (m:=4) (by rw [Es]) J
 have G:=dG C (m:=2) (by rw [Wg]) AB
 have F:=dG B (m:=1) (by rw [Wg]) G
 exact F
def QW (w:World) (s:bp):Prop:= ∃ l:List bq,s.n=l.length∧(rd s.a l.length 7 (l.map bq.cells)).holds w∧(∀ x∈l,Rh w x)∧l.length≤maxLen∧s.n≤s.c
theorem UW:tw Tryz.prog 56 bp (fun s=>[vS s.a s.n s.c]) QW:=mL Ua TR VX
def SB (w:World) (s:bp):Prop:= ∃ l:List bp,s.n=l.length∧(rd s.a l.length 1 (l.map (fun s=>[vS s.a s.n s.c]))).holds w∧(∀ x∈l,QW w x)∧l.length≤maxLen∧s.n≤s.c
theorem UY:tw Tryz.prog 30 bp (fun s=>[vS s.a s.n s.c]) SB:=mL Uy VA UW
structure Vv (w:World) (s:cu):Prop where
 an:TE w s.an
 aM:Qe w s.aM
 bL:Qe w s.bL
 im:zZ w s.im
 ao:SB w s.ao
theorem SU:fL Tryz.prog 32=some [(28,0),(29,7),(29,8),(3,9),(30,10)]:=by kernel_rfl
theorem VE:tw Tryz.prog 32 cu cu.cells Vv:=fun {H} enc w base sp A fuel cs x h=>by
 obtain ⟨hl,hp⟩:=jR SU h
 obtain ⟨b,g,M⟩:=hp 0 28 0 rfl
 obtain ⟨W,B,R⟩:=Vs _ _ _ _ _ _ _ _ M
 obtain ⟨c,i,N⟩:=hp 1 29 7 rfl
 obtain ⟨X,C,S⟩:=SV _ _ _ _ _ _ _ _ N
 obtain ⟨d,j,O⟩:=hp 2 29 8 rfl
 obtain ⟨Y,D,T⟩:=SV _ _ _ _ _ _ _ _ O
 obtain ⟨e,k,P⟩:=hp 3 3 9 rfl
 obtain ⟨Z,E,AA⟩:=BL _ _ _ _ _ _ _ _ P
 obtain ⟨f,l,Q⟩:=hp 4 30 10 rfl
 obtain ⟨a,F,V⟩:=UY _ _ _ _ _ _ _ _ Q
 refine ⟨⟨W,X,Y,Z,a⟩,?_,⟨R,S,T,AA,V⟩⟩
 have L:=ig (hl.trans VR) (by rw [U7]) F
 have K:=dG E (m:=10) (by rw [BJ]) L
 have J:=dG D (m:=9) (by rw [Tx]) K
 have AB:=dG C (m:=8) (by rw [Tx]) J
 have G:=dG B (m:=7) (by rw [Tw]) AB
 exact G
theorem yW:ownKnob Tryz.prog.godebug=none:=by kernel_rfl
theorem yd:laidOutB Tryz.prog=true:=by kernel_rfl
theorem uR (os:Os) (started:os.Started) (H:Type) (enc:TypeId×Value→H):
 ReturnsInHanded {} Tryz.checked os 4 .any (fun w args=>(Rows.raceLaterSpec.pre enc Tryz.prog Tryz.f4 [] false w args∧laidMetH Tryz.prog [("kreisel/race.table",Rows.laid_kreisel_race_table)] w)∧sizedMet enc Tryz.prog Tryz.f4 (OpenSpec.ofChange Rows.raceLaterSpec) false w args) (Rows.raceLaterSpec.post enc Tryz.prog Tryz.f4 false true false false):=by
 refine returnsInHanded_of_change_and (C:=Tryz.checked) (X:=(fun w _=>laidMetH Tryz.prog [("kreisel/race.table",Rows.laid_kreisel_race_table)] w)) (fun _ _ _ hh h=>h.of_heap hh) yW started kr Tryz.func4
  (ChangeSpec.witness_shaped (enc:=enc) (C:=Tryz.checked) (os:=os) (X:=(fun w _=>laidMetH Tryz.prog [("kreisel/race.table",Rows.laid_kreisel_race_table)] w)) false (World.doorLaid Tryz.prog 400 os) #[.agg #[(vS none 0 0),(vI 0),(vS none 0 0),(vS none 0 0),(vI 0),(vI 0),(vI 0),(vS none 0 0),(vS none 0 0),(vI 0),(vS none 0 0)],Value.int .u32 0] 8 rfl (World.shaped_of_RefB kr kr) kr kr kr (Ft os _)) ?_
 intro W base args ds gs before E hW _ _ hL _
 have D: ∀ (j:Nat) t v,Tryz.f4.params[j]? =some t→args[j]? =some v→Value.okWide Tryz.prog W .any base t v:=E
 have hW':=hW
 obtain ⟨p,q,K,hV,rfl,Y,Z⟩:=hW
 have hA:DataW.TrodAll enc Tryz.prog W 0 (fun _=>true) true Tryz.f4.params.toList args.toList ds p:=K
 have F:=hA
 rw [Tryz.params4] at hA D
 obtain ⟨Q,d,g,S,l,n,L,rfl,rfl,AA,a⟩:=trodAll_cons hA
 obtain ⟨R,f,i,T,m,o,rfl,rfl,rfl,V,b⟩:=trodAll_cons a
 obtain ⟨rfl,rfl,rfl⟩:=trodAll_nil b
 obtain rfl:args= #[Q,R]:=by cases args; simp_all
 obtain ⟨rfl,rfl⟩:=trodVars_none hV
 obtain ⟨s,rfl,R0⟩:=EZ SU VE (D 0 32 Q rfl rfl) AA
 obtain ⟨c,rfl,R1⟩:=Ov (k:= .u32) UF (D 1 50 R rfl rfl) V
 simp only [List.append_nil] at hW' F
 have J:=za hL
 obtain ⟨r,az,ha,kA,kC,cA,cC,bA,bC,O,P,drA,drC,M,N,rfl,G,B⟩:=Hj (R1:=Jv) (R2:=QI) (R3:=MO) (R4:=Qm) (R5:=zZ) (R6:=QW) (R7:=Rh) (R8:=LR) R0.an.aL.lu (fun x hx=>hx.js) R0.an.ai (fun x hx=>hx.aX) R0.an.ag R0.aM R0.bL R0.ao (fun x hx=>hx) (fun x hx=>hx.bX.ah)
 have AB:=(BZ r kA kC az cA cC bA bC O P drA drC ha M N c G R1).run W (by intro A hA; simp only [bx,List.not_mem_nil,or_false] at hA; rcases hA with rfl|rfl|rfl|rfl|rfl|rfl|rfl|rfl|rfl; exact J; exact B.1; exact B.2.1; exact B.2.2.1; exact B.2.2.2.1; exact B.2.2.2.2.1; exact B.2.2.2.2.2.1; exact B.2.2.2.2.2.2.1; exact B.2.2.2.2.2.2.2)
 refine (AB).mono fun e W' ⟨he,hk⟩=>?_
 subst he
 exact ⟨_,U,LH yd hW' F U U kr hk.below kr Wc⟩
theorem wi:Rows.RaceLaterSaid:=
 OpenClaim.holds_of_wide 4 Tryz.f4 rfl rfl rfl rfl rfl rfl rfl ⟨rfl,rfl,rfl,rfl,rfl⟩ rfl rfl rfl rfl rfl kr Tryz.func4 vq
  (of_decide_eq_true kr) (by unfold Func.isWrapper; first|(rw [if_pos (by decide+kernel)]; kernel_rfl)|(rw [if_neg (by decide+kernel)]; exact ⟨rfl,rfl⟩))
  (fun os started H enc _=>uR os started H enc)
/-- the statement -/
theorem raceLater_said:Rows.RaceLaterCardSaid:=
 Claim7.holds_tied_plain_at .later [] [.funcsDeep] true (true,"128c7b92841058bed12da8afed87bbc4b0aaabe1f53fa26f3375c79494883c5c") true
  wi (fun _ h=>by cases h) kr (fun _ h=>by cases h) raceLater_row_tie rfl ⟨rfl,rfl⟩ kr rfl
  (fun f fn hf B=>by
   obtain rfl:f=4:=Option.some.inj ((show Tryz.prog.funcNamed "kreisel/kreisellaw06.RaceLater"=some 4 by kernel_rfl).symm.trans hf) |>.symm
   obtain rfl:fn=Tryz.f4:=(Option.some.inj (Tryz.func4.symm.trans B)).symm
   exact ⟨kr,fun j t ht=>by
    rw [Tryz.params4] at ht
    have hm:t∈([32,50]:List Nat):=by simpa using Array.mem_of_getElem? ht
    have A:(([32,50]:List Nat).all fun u=> !Tryz.prog.wantsStandIn u)=true:=by kernel_rfl
    exact (show Tryz.prog.wantsStandIn t=false by simpa using cV.1 A t hm)⟩)
  kr
#print axioms raceLater_said
end
end Go.Proofs.YtlajhejcfcoddaaGreatDoor
