/-
 The statement postNarrow_said, part 4 of 4: N3, N4, N6, GuardOpen, Narrow09.
 Conditions: none.
-/
import Derived.Test.YtpfjokbjambohaaGreatTz1
import Derived.Test.YtpfjokbjambohaaGreatTz2
import Derived.Test.YtpfjokbjambohaaGreatTz3
import Derived.Test.YtpfjokbjambohaaGreatRows
import Derived.Test.YtpfjokbjambohaaGreatProg
import Derived.KernelRfl
namespace Go.Proofs.YtpfjokbjambohaaGreat
set_option maxRecDepth 100000
set_option maxHeartbeats 4000000
set_option linter.unusedVariables false
section
open Go.RowKit
theorem xK (ts:List aa) (tsA:OA) (tsC gm:Nat) (ml:List (Int×aH)) (hst: ∀ x∈ts,aM x) (hl12:ts.length≤12) (hl1:1≤ts.length) (hmm: ∀ e∈ml,dE e.2 ts.length):
 jK Tryz.prog 27 [(vA (bQ.cells (bQ.mk (ar.mk (bB.mk tsA ts.length tsC))))),(Value.map (some gm))] [(rd tsA ts.length 9 (ts.map aa.cells)),(lW iV gm (dq (fun s=>vA (aH.cells s)) ml))] (fun (x:Bool×Int×(List aa)×(OA)×Nat)=>bif x.1 then (vT [(vA (ar.cells (ar.mk (bB.mk x.2.2.2.1 x.2.2.1.length x.2.2.2.2)))),(vB true)]) else (vT [(vA (ar.cells (ar.mk (bB.mk none 0 0)))),(vB false)])) (fun (x:Bool×Int×(List aa)×(OA)×Nat)=>(x.1=true→dR ts.length ts.length ts x.2.2.1)∧(x.1=false→(x.2.1=0∧True))) (fun (x:Bool×Int×(List aa)×(OA)×Nat)=>bif x.1 then [(own x.2.2.2.1 x.2.2.2.2 85 9 (x.2.2.1.map aa.cells))] else []):=by
 refine dh kr Tryz.func27 U U fun w0 Q hQ hN=>?_
 try dsimp only
 refine WS fun _ DO=>fN U fun b2=>AL U oH fun b3=>aY 1 U<|RK DO<|WS fun _ DR=>rP 3 [] (mc 1 U mn) ?_
 refine cX (uj ts tsA tsC sd) (bg [2]) U fun y5 Dk=>?_
 obtain ⟨AA,Z⟩:=y5
 try dsimp only
 refine rS (SX (bm (xs:=[(0,.tmp 21)]) (cs:=(ar.cells (ar.mk (bB.mk AA ts.length Z)))) U U (bl sy U)) U U)<|AL U oH fun b9=>gH U kQ U<|RK DR<|WS fun _ B6=>gJ 5 [] (mc 0 U mn) U<|RK B6<|WS fun _ B7=>rS (CL uD (aw) U)<|AL U wB fun DH=>gH U wj U<|RK B7<|aj fun _ B8=>WS fun _ B9=>aY 1 U<|RK B9<|ax<|mR 3<|ib fun R15 Cy=>aj fun _ B_=>WS fun _ CA=>rP 1 [] mn ?_
 refine rS (SX (ck (r:= .bool true) U U U ny) U U)<|RK CA<|aT U<|WK B_<|aj fun _ CB=>ax<|aj fun _ CC=>?_
 have Cx:dR 0 0 ts ts:= .zero
 have Df:ts.length=ts.length:=Cx.len
 refine ai ?_
 refine oF U ub U (by rw [List.length_replicate]; decide) fun K=>?_
 refine RK CC<|aj fun _ CD=>WS fun _ CE=>rP 2 [] mn ?_
 refine RK CE<|ax ?_
 have A:(0≤(ts.length+1))∧(Wd (ts.length+1) 0 false ts (List.replicate 169 (0:Int))):=by exact ⟨Nat.zero_le _,.zero⟩
 refine bu (ι:={z:Nat×(List Int) // (z.1≤(ts.length+1))∧(Wd (ts.length+1) 0 false ts z.2)}) [1,4,6,7,8,9,10,32] [1,2,3,4,6,7] U U (fun z=>[(33,(vI (z.1.1:Int)))]) (fun z=>[(own (some ⟨K,0,none⟩) ((List.replicate 169 (0:Int)).length) 107 1 (z.1.2.map iC))]) (fun _=>rfl) (fun _=>rfl) (fun z=>(ts.length+1)-z.1.1) ⟨(0,(List.replicate 169 (0:Int))),A⟩ (a3 U) (aL [1,2,3,4,6,7,0]) ?_
 clear A
 rintro ⟨⟨i,M⟩,⟨T,H⟩⟩ J23 B2
 try dsimp only at T H
 try dsimp only
 refine WS fun _ CF=>rP 1 [] mn ?_
 refine RK CF<|aj fun _ CG=>cG U (aR fun DI=>?_) (aS fun DI=>?_)
 ·refine WK CG<|aj fun _ CH=>ax<|WS fun _ CI=>aY 2 U<|RK CI<|WS fun _ CJ=>rP 2 [] mn ?_
  refine RK CJ<|ax ?_
  have A:(0≤(ts.length+1))∧(Wd (ts.length+1) 0 false ts M):=by exact ⟨Nat.zero_le _,H⟩
  refine bu (ι:={z:Nat×(List Int) // (z.1≤(ts.length+1))∧(Wd (ts.length+1) 0 false ts z.2)}) [1,4,6,7,8,9,10,11,32,33,36] [0,1,2,3,4,5] U U (fun z=>[(37,(vI (z.1.1:Int)))]) (fun z=>[(own (some ⟨K,0,none⟩) ((List.replicate 169 (0:Int)).length) 107 1 (z.1.2.map iC))]) (fun _=>rfl) (fun _=>rfl) (fun z=>(ts.length+1)-z.1.1) ⟨(0,M),A⟩ (a3 U) (aL [0,1,2,3,4,5,6]) ?_
  clear A
  rintro ⟨⟨j,M2⟩,⟨O,C⟩⟩ J30 c
  try dsimp only at O C
  try dsimp only
  refine WS fun _ CK=>rP 1 [] mn ?_
  refine RK CK<|aj fun _ CM=>bq U (aS fun DK=>?_) (aR fun DK=>?_)
  ·refine bj<|ab<|ab<|ay<|aF<|KK CH<|ai<|rP 2 [] mn ?_
   refine aB ?_
   have C7:(vI (((i+1):Nat):Int))=(vI ((i:Int)+1)):=by exact cI I
   refine aU (B2 ⟨((i+1),M2),⟨I,C⟩⟩ _ _ _ U os (bL 8<|aN U C7<|cE.nil _) (aL [0,1,2,3,4,5,6]))
  refine WK CM<|aj fun _ p=>ax<|WS fun _ CN=>aY 2 U<|RK CN<|WS fun _ CO=>rP 3 [] mn ?_
  refine RK CO<|bq U (aW fun AC=>?_) (aX fun AC=>?_)
  ·refine cf<|aF<|KK p<|ai<|rP 2 [] mn ?_
   refine aB ?_
   have C6:(vI (((j+1):Nat):Int))=(vI ((j:Int)+1)):=by exact cI I
   refine aU (c ⟨((j+1),M2),⟨I,by first|exact C.fill I I I I dc|exact C⟩⟩ _ _ _ U os (bL 11<|aN U C6<|cE.nil _) (aL [0,1,2,3,4,5,6]))
  refine ai<|aY 2 U<|rS (SX (dM (k:=i) U U U eO I I) U U)<|rS (SX (dN (k:=j) (m':=((i*13+j)*1)) U U U eN I I I) U U)<|cw (k:=(i*13+j)) (o:=0) (vs:=[(vI 1073741824)]) (es':=(List.map iC (M2.set (i*13+j) 1073741824))) (C':=[_,_,_,_,_,_,(own (some ⟨K,0,none⟩) ((List.replicate 169 (0:Int)).length) 107 1 (List.map iC (M2.set (i*13+j) 1073741824)))]) 6 U U U qk U U U U (dk (i:=i) (k:=j) C.len I I) U dc (by exact (List.map_set (f:=iC) (l:=M2) (i:=(i*13+j)) (a:=1073741824)).symm) U<|aB<|aF<|KK p<|ai<|rP 2 [] mn ?_
  refine aB ?_
  have C5:(vI (((j+1):Nat):Int))=(vI ((j:Int)+1)):=by exact cI I
  refine aU (c ⟨((j+1),(M2.set (i*13+j) 1073741824)),⟨I,by first|exact C.fill I I I I dc|exact C⟩⟩ _ _ _ U os (bL 11<|aN U C5<|cE.nil _) (aL [0,1,2,3,4,5,6]))
 refine bj<|ab<|ab<|ay<|KK CD<|aj fun _ CP=>WS fun _ CQ=>rP 4 [] (mc 1 U mn) ?_
 refine RK CQ<|ax ?_
 have A:(0≤ts.length)∧(Wd (ts.length+1) 0 false ts M):=by exact ⟨Nat.zero_le _,H⟩
 refine bu (ι:={z:Nat×(List Int) // (z.1≤ts.length)∧(Wd (ts.length+1) z.1 false ts z.2)}) [1,4,6,7,8,9,10,51] [0,1,2,3,4,5] U U (fun z=>[(52,(vI (z.1.1:Int)))]) (fun z=>[(own (some ⟨K,0,none⟩) ((List.replicate 169 (0:Int)).length) 107 1 (z.1.2.map iC))]) (fun _=>rfl) (fun _=>rfl) (fun z=>ts.length-z.1.1) ⟨(0,M),A⟩ (a3 U) (aL [0,1,2,3,4,5,6]) ?_
 clear A
 rintro ⟨⟨t,M3⟩,⟨P,D⟩⟩ J42 B3
 try dsimp only at P D
 try dsimp only
 refine WS fun _ CR=>rP 1 [] mn ?_
 refine RK CR<|aj fun _ CS=>cG U (aR fun DL=>?_) (aS fun DL=>?_)
 ·refine WK CS<|aj fun _ CT=>ax<|WS fun _ CU=>rP 2 [] mn ?_
  refine RK CU<|aj fun _ CV=>?_
  refine iv 2 U (by simp; omega) (fun S G=>?_)
  obtain ⟨x,hx⟩:=bk ts t I
  have By:=hst x (aI hx)
  simp only [aM,bf] at By
  have DX:=bG aa.cells hx
  refine dY dw [11,12] [] [] [0,1,2,3,4,5,6] [] U U U U U<|eS U (MV U)<|eS U (SX (nQ (k:=1) (o':=1) U U U rr U dc U) U U)<|eS U (FA 1 U fY U)<|eS U (L1 (Value.func (.func 75) [].toArray [].toArray) 0 U cA U U)<|eS U (FA 0 U fY U)<|eS U (L1 (vS AA ts.length Z) 1 U cA U U)<|eS U (MV U)<|eS U (zC t U G kd I I)<|eS U (CL (rF AA S (t*9) (by exact G)) (aw) U)<|eS U (SX (gp U U G) U U)<|eS U (mZ t 1 (al.cells x.dj) U cA (au (n:=ts.length) 2 U sm) DX U dc U U)<|fx U<|bN U fun T49 C0=>AL U eH fun Di=>aB (C0 _ _ (aL [1,2,3,4,5,6,7]) ?_)
  refine bN U fun T51 C1=>gH U dA U<|aB (C1 _ _ (aL [1,2,3,4,5,6,7]) ?_)
  refine f_ U<|KK CV<|dY dw [13,15,16] [12] [] [0,1,2,3,4,5,6] [0,1,2,3,4,5,6,7] U U U U U<|eS U (MV U)<|eS U (MV U)<|eS U (BI U (jJ ⟨I,I⟩))<|eS U (MV U)<|eS U (BI U (jJ ⟨I,I⟩))<|eS U (MV U)<|eS U (FA 1 U fY U)<|eS U (L1 (vI x.dj.Hi) 0 U cA U U)<|eS U (FA 0 U fY U)<|eS U (L1 (vI x.dj.Lo) 0 U cA U U)<|eS U (NG U ⟨I,I⟩)<|eS U (SX (dM (k:=t) U U U eO I I) U U)<|fS U (SX (dN (k:=(t+1)) (m':=((t*13+(t+1))*1)) U U U eN I I I) U U)<|eS U (SX (dM (k:=(t+1)) U U U eO I I) U U)<|fx U<|bN U fun T52 C2=>cw (k:=(t*13+(t+1))) (o:=0) (vs:=[(vI x.dj.Hi)]) (es':=(List.map iC (M3.set (t*13+(t+1)) x.dj.Hi))) (C':=[_,_,_,_,_,_,_,(own (some ⟨K,0,none⟩) ((List.replicate 169 (0:Int)).length) 107 1 (List.map iC (M3.set (t*13+(t+1)) x.dj.Hi)))]) 7 U U U qk U U U U (dk (i:=t) (k:=(t+1)) D.len I I) U dc (by exact (List.map_set (f:=iC) (l:=M3) (i:=(t*13+(t+1))) (a:=x.dj.Hi)).symm) U<|aB (C2 _ _ (aL [0,1,2,3,4,5,6]) ?_)
  refine bN U fun T53 C3=>rS (SX (dN (k:=t) (m':=(((t+1)*13+t)*1)) U U U eN I I I) U U)<|aB (C3 _ _ (aL [0,1,2,3,4,5,6]) ?_)
  refine bN U fun T54 C4=>cw (k:=((t+1)*13+t)) (o:=0) (vs:=[(vI (-x.dj.Lo))]) (es':=(List.map iC ((M3.set (t*13+(t+1)) x.dj.Hi).set ((t+1)*13+t) (-x.dj.Lo)))) (C':=[_,_,_,_,_,_,_,(own (some ⟨K,0,none⟩) ((List.replicate 169 (0:Int)).length) 107 1 (List.map iC ((M3.set (t*13+(t+1)) x.dj.Hi).set ((t+1)*13+t) (-x.dj.Lo))))]) 7 U U U qk U U U U (dk (i:=(t+1)) (k:=t) (ju D.len) I I) U dc (by exact (List.map_set (f:=iC) (l:=(M3.set (t*13+(t+1)) x.dj.Hi)) (i:=((t+1)*13+t)) (a:=(-x.dj.Lo))).symm) U<|aB (C4 _ _ (aL [0,1,2,3,4,5,6]) ?_)
  refine f_ U<|aF<|KK CT<|ai<|rP 2 [] mn ?_
  refine aB ?_
  have C8:(vI (((t+1):Nat):Int))=(vI ((t:Int)+1)):=by exact cI I
  refine aU (B3 ⟨((t+1),((M3.set (t*13+(t+1)) x.dj.Hi).set ((t+1)*13+t) (-x.dj.Lo))),⟨I,D.rJ I I hx U U ⟨⟨I,I⟩,I,I⟩⟩⟩ _ _ _ U os (bL 8<|aN U C8<|cE.nil _) (aL [1,2,3,4,5,6,7]))
 refine bj<|ab<|ab<|ay<|KK CP<|aj fun _ CW=>WS fun _ CX=>rP 1 [] mn ?_
 refine mu (kV:=iV) (m:=dq (fun s=>vA (aH.cells s)) ml) 5 U U w7 U ⟨U,fun h=>h⟩ (by exact nS 5 U) U fun DZ=>?_
 try dsimp only
 refine RK CX<|ax ?_
 have A:(∀ e∈ml,e∈ml)∧(Wd (ts.length+1) ts.length false ts M3):=by exact ⟨fun _ h=>h,by have e:t=ts.length:=I; subst e; exact D⟩
 refine bu (ι:={z:(List (Int×aH))×(List Int) // (∀ e∈z.1,e∈ml)∧(Wd (ts.length+1) ts.length false ts z.2)}) [1,4,6,7,8,9,10,83] [1,2,3,4,5,6] U U (fun z=>[]) (fun z=>[(rh iV DZ gm (dq (fun s=>vA (aH.cells s)) ml) (dq (fun s=>vA (aH.cells s)) z.1.1) none),(own (some ⟨K,0,none⟩) ((List.replicate 169 (0:Int)).length) 107 1 (z.1.2.map iC))]) (fun _=>rfl) (fun _=>rfl) (fun z=>z.1.1.length) ⟨(ml,M3),A⟩ (cE.nil _) (aL [1,2,3,4,5,6,0,7]) ?_
 clear A
 rintro ⟨⟨left,M4⟩,⟨F,B⟩⟩ J59 d
 try dsimp only at F B
 try dsimp only
 refine WS fun _ v=>lI (g8 mY).inj (f:=(fun s=>vA (aH.cells s))) 6 U U U U (fun DC=>?_) (fun q z hm DW=>?_)
 rotate_left 1
 ·try dsimp only
  refine rP 1 [] mn ?_
  refine RK v<|aj fun _ BQ=>aT U<|WK BQ<|ax<|WS fun _ BR=>rS (SX (lu 6 U U U) U U) ?_
  have Bw:=hmm _ (F _ hm)
  simp only [dE,bf] at Bw
  refine aY 1 U<|AL U tR fun Dd=>gH U tT U<|RK BR<|WS fun _ BT=>gJ 2 [] (mc 0 U mn) U<|rS (SX (eJ (m:=z.Kind) U U sK mY (dr (by first|assumption|omega))) U U)<|rP 2 [] mn ?_
  refine RK BT<|bq U (aS fun V=>?_) (aR fun V=>?_)
  ·refine cf<|aF<|nT 7 U kG U ?_
   refine aU (d ⟨((dJ left q),M4),⟨ks F,by first|exact B|exact (B.less I I I I I I U).less I I I I I I U⟩⟩ _ _ _ U (km hm) (a3 U) (aL [1,2,3,4,5,6,7,8]))
  refine aj fun _ BU=>eD dw 17 kr<|kU 8 [] (mc 0 U mn) U<|dS (SX (dM (k:=(z.bx).toNat) U U U eO I I) U U)<|dS (SX (dN (k:=(z.To).toNat) (m':=((((z.bx).toNat)*13+((z.To).toNat))*1)) U U U eN I I I) U U)<|dS (g5 (((z.bx).toNat)*13+((z.To).toNat)) 0 (vI (mt M4 ((z.bx).toNat) ((z.To).toNat))) U cA (au (n:=M4.length) 8 U sm) (dk (i:=(z.bx).toNat) (k:=(z.To).toNat) B.len I I) U dc U)<|kU 3 [] (mc 0 U mn) U<|dS (MN U)<|dS (SX (dM (k:=(z.bx).toNat) U U U eO I I) U U)<|dS (SX (dN (k:=(z.To).toNat) (m':=((((z.bx).toNat)*13+((z.To).toNat))*1)) U U U eN I I I) U U)<|cR<|cw (k:=(((z.bx).toNat)*13+((z.To).toNat))) (o:=0) (vs:=[(vI (min (mt M4 ((z.bx).toNat) ((z.To).toNat)) z.bO.Hi))]) (es':=(List.map iC (M4.set (((z.bx).toNat)*13+((z.To).toNat)) (min (mt M4 ((z.bx).toNat) ((z.To).toNat)) z.bO.Hi)))) (C':=[_,_,_,_,_,_,_,_,(own (some ⟨K,0,none⟩) ((List.replicate 169 (0:Int)).length) 107 1 (List.map iC (M4.set (((z.bx).toNat)*13+((z.To).toNat)) (min (mt M4 ((z.bx).toNat) ((z.To).toNat)) z.bO.Hi))))]) 8 U U U qk U U U U (dk (i:=(z.bx).toNat) (k:=(z.To).toNat) B.len I I) U dc (by exact (List.map_set (f:=iC) (l:=M4) (i:=(((z.bx).toNat)*13+((z.To).toNat))) (a:=(min (mt M4 ((z.bx).toNat) ((z.To).toNat)) z.bO.Hi))).symm) U<|RK BU<|eD dw 18 kr<|kU 8 [] (mc 0 U mn) U<|dS (SX (dM (k:=(z.To).toNat) U U U eO I I) U U)<|dS (SX (dN (k:=(z.bx).toNat) (m':=((((z.To).toNat)*13+((z.bx).toNat))*1)) U U U eN I I I) U U)<|dS (g5 (((z.To).toNat)*13+((z.bx).toNat)) 0 (vI (mt (M4.set (((z.bx).toNat)*13+((z.To).toNat)) (min (mt M4 ((z.bx).toNat) ((z.To).toNat)) z.bO.Hi)) ((z.To).toNat) ((z.bx).toNat))) U cA (au (n:=(M4.set (((z.bx).toNat)*13+((z.To).toNat)) (min (mt M4 ((z.bx).toNat) ((z.To).toNat)) z.bO.Hi)).length) 8 U sm) (dk (i:=(z.To).toNat) (k:=(z.bx).toNat) (ju B.len) I I) U dc U)<|dP 3 [] (mc 0 U mn) ?_
  refine dS (NG U ⟨I,I⟩)<|dS (MN U)<|dS (SX (dM (k:=(z.To).toNat) U U U eO I I) U U)<|dS (SX (dN (k:=(z.bx).toNat) (m':=((((z.To).toNat)*13+((z.bx).toNat))*1)) U U U eN I I I) U U)<|cR<|cw (k:=(((z.To).toNat)*13+((z.bx).toNat))) (o:=0) (vs:=[(vI (min (mt (M4.set (((z.bx).toNat)*13+((z.To).toNat)) (min (mt M4 ((z.bx).toNat) ((z.To).toNat)) z.bO.Hi)) ((z.To).toNat) ((z.bx).toNat)) (-z.bO.Lo)))]) (es':=(List.map iC ((M4.set (((z.bx).toNat)*13+((z.To).toNat)) (min (mt M4 ((z.bx).toNat) ((z.To).toNat)) z.bO.Hi)).set (((z.To).toNat)*13+((z.bx).toNat)) (min (mt (M4.set (((z.bx).toNat)*13+((z.To).toNat)) (min (mt M4 ((z.bx).toNat) ((z.To).toNat)) z.bO.Hi)) ((z.To).toNat) ((z.bx).toNat)) (-z.bO.Lo))))) (C':=[_,_,_,_,_,_,_,_,(own (some ⟨K,0,none⟩) ((List.replicate 169 (0:Int)).length) 107 1 (List.map iC ((M4.set (((z.bx).toNat)*13+((z.To).toNat)) (min (mt M4 ((z.bx).toNat) ((z.To).toNat)) z.bO.Hi)).set (((z.To).toNat)*13+((z.bx).toNat)) (min (mt (M4.set (((z.bx).toNat)*13+((z.To).toNat)) (min (mt M4 ((z.bx).toNat) ((z.To).toNat)) z.bO.Hi)) ((z.To).toNat) ((z.bx).toNat)) (-z.bO.Lo)))))]) 8 U U U qk U U U U (dk (i:=(z.To).toNat) (k:=(z.bx).toNat) (ju B.len) I I) U dc (by exact (List.map_set (f:=iC) (l:=(M4.set (((z.bx).toNat)*13+((z.To).toNat)) (min (mt M4 ((z.bx).toNat) ((z.To).toNat)) z.bO.Hi))) (i:=(((z.To).toNat)*13+((z.bx).toNat))) (a:=(min (mt (M4.set (((z.bx).toNat)*13+((z.To).toNat)) (min (mt M4 ((z.bx).toNat) ((z.To).toNat)) z.bO.Hi)) ((z.To).toNat) ((z.bx).toNat)) (-z.bO.Lo)))).symm) U<|aB<|aF<|nT 7 U kG U ?_
  refine aU (d ⟨((dJ left q),((M4.set (((z.bx).toNat)*13+((z.To).toNat)) (min (mt M4 ((z.bx).toNat) ((z.To).toNat)) z.bO.Hi)).set (((z.To).toNat)*13+((z.bx).toNat)) (min (mt (M4.set (((z.bx).toNat)*13+((z.To).toNat)) (min (mt M4 ((z.bx).toNat) ((z.To).toNat)) z.bO.Hi)) ((z.To).toNat) ((z.bx).toNat)) (-z.bO.Lo)))),⟨ks F,by first|exact B|exact (B.less I I I I I I U).less I I I I I I U⟩⟩ _ _ _ U (km hm) (a3 U) (aL [1,2,3,4,5,6,7,8]))
 refine aY 1 U<|RK v<|aj fun _ De=>bp U<|bj<|ab<|ab<|ay<|KK CW<|aj fun _ CY=>WS fun _ CZ=>rP 1 [] mn ?_
 refine ia 7 U U U U (oK K ((List.replicate 169 (0:Int)).length) M4 (ts.length+1) I (by exact B.cl)) U jS U (fun Da Bx=>?_)
 obtain ⟨M9,DY⟩:=Da
 try dsimp only
 refine rP 1 [] mn ?_
 refine RK CZ<|cG U (fun AB=>?_) (fun AB=>?_)
 ·rw [Bool.not_eq_true'] at AB
  refine WS fun _ Ca=>rS (SX (bm (xs:=[]) (cs:=(ar.cells (ar.mk (bB.mk none 0 0)))) U U (bl sy U)) U U)<|tP U kQ U<|rP 1 [] mn ?_
  refine RK Ca<|an ?_
  refine LX hQ (false,0,[],none,0) [] [0] (mc 3 U mn) U U U ?_ ?_
  ·first|rfl|(simp only [cond_true]; rw [b.len]; rfl)
  ·exact ⟨fun q=>Bool.noConfusion q,fun _=>⟨U,trivial⟩⟩
 rw [Bool.not_eq_false'] at AB
 refine WK CY<|aj fun _ Cb=>?_
 have N:=Bx AB
 have J:nF (ts.length+1) false ts M9:=nF.of B N.1 N.2
 refine ai<|rP 4 [] (mc 1 U mn) ?_
 refine RK Cb<|ax ?_
 have A:(0≤ts.length)∧(dR 0 0 ts ts):=by exact ⟨Nat.zero_le _,Cx⟩
 refine bu (ι:={z:Nat×(List aa) // (z.1≤ts.length)∧(dR z.1 0 ts z.2)}) [1,4,6,7,8,9,10,134] [0,1,3,4,5,6,7] U U (fun z=>[(135,(vI (z.1.1:Int)))]) (fun z=>[(own AA Z 85 9 (z.1.2.map aa.cells))]) (fun _=>rfl) (fun _=>rfl) (fun z=>ts.length-z.1.1) ⟨(0,ts),A⟩ (a3 U) (aL [0,1,3,4,5,6,7,2]) ?_
 clear A
 rintro ⟨⟨u,U1⟩,⟨R,E⟩⟩ J67 B4
 try dsimp only at R E
 try dsimp only
 refine WS fun _ Cc=>rP 1 [] mn ?_
 refine RK Cc<|aj fun _ Cd=>cG U (aR fun DM=>?_) (aS fun DM=>?_)
 ·refine WK Cd<|aj fun _ Ce=>ax<|WS fun _ Cf=>rP 2 [] mn ?_
  refine RK Cf ?_
  have DD:U1.length=ts.length:=E.len
  refine iv 7 U (by simp; omega) (fun S G=>?_)
  obtain ⟨x,hx⟩:=bk ts u I
  obtain ⟨y,hy⟩:=bk U1 u I
  have Y:=bG aa.cells hy
  have DV:=(show Cl (ts.length+1) (ts.length+1) M9 from N.1).x2 I (show u<(ts.length+1) by omega) (show u+1<(ts.length+1) by omega)
  have DU:=(show Cl (ts.length+1) (ts.length+1) M9 from N.1).x2 I (show u+1<(ts.length+1) by omega) (show u<(ts.length+1) by omega)
  refine eD dw 24 kr<|gf 1 U<|dS (SX (nQ (k:=1) (o':=1) U U U rr U dc U) U U)<|kU 5 [0,1] (mc 0 U (mc 1 U mn)) U<|dS (zC u U G kd I I)<|dS (CL (rF AA S (u*9) (by exact G)) (aw) U)<|gf 3 U<|dS (SX (dM (k:=(u+1)) U U U eO I I) U U)<|dS (SX (dN (k:=u) (m':=(((u+1)*13+u)*1)) U U U eN I I I) U U)<|dS (g5 ((u+1)*13+u) 0 (vI (mt M9 (u+1) u)) U cA (au (n:=M9.length) 6 U sm) (dk (i:=(u+1)) (k:=u) J.len I I) U dc U)<|dS (NG U ⟨I,I⟩)<|gf 3 U<|dS (SX (dM (k:=u) U U U eO I I) U U)<|dS (SX (dN (k:=(u+1)) (m':=((u*13+(u+1))*1)) U U U eN I I I) U U)<|dS (g5 (u*13+(u+1)) 0 (vI (mt M9 u (u+1))) U cA (au (n:=M9.length) 6 U sm) (dk (i:=u) (k:=(u+1)) J.len I I) U dc U)<|dS (SX (bm (xs:=[(0,.tmp 153),(1,.tmp 159)]) (cs:=(al.cells (al.mk (-(mt M9 (u+1) u)) (mt M9 u (u+1))))) U U (bl jF U)) U U)<|dS (SX (gp U U G) U U)<|cR<|cw (k:=u) (o:=1) (vs:=(al.cells (al.mk (-(mt M9 (u+1) u)) (mt M9 u (u+1))))) (es':=(List.map aa.cells (U1.set u (aa.mk y.Id (al.mk (-(mt M9 (u+1) u)) (mt M9 u (u+1))) y.di y.bJ y.cT y.iF)))) (C':=[_,_,_,_,_,_,_,(own AA Z 85 9 (List.map aa.cells (U1.set u (aa.mk y.Id (al.mk (-(mt M9 (u+1) u)) (mt M9 u (u+1))) y.di y.bJ y.cT y.iF))))]) 7 U U U dA U U U U Y U dc (by exact (List.map_set (f:=aa.cells) (l:=U1) (i:=u) (a:=(aa.mk y.Id (al.mk (-(mt M9 (u+1) u)) (mt M9 u (u+1))) y.di y.bJ y.cT y.iF))).symm) U<|aB<|aF<|KK Ce<|ai<|rP 2 [] mn ?_
  refine aB ?_
  have C9:(vI (((u+1):Nat):Int))=(vI ((u:Int)+1)):=by exact cI I
  refine aU (B4 ⟨((u+1),(U1.set u (aa.mk y.Id (al.mk (-(mt M9 (u+1) u)) (mt M9 u (u+1))) y.di y.bJ y.cT y.iF))),⟨I,E.zU hx hy ⟨by have:=J.at_ u x hx I; simp only [jI,cond_false] at this; simp only; omega,by have:=J.at_ u x hx I; simp only; omega,by have:=J.at_ u x hx I; simp only [jI,cond_false] at this; simp only; omega⟩⟩⟩ _ _ _ U os (bL 8<|aN U C9<|cE.nil _) (aL [0,1,2,3,4,5,6,7]))
 refine bj<|ab<|ab<|ay<|aF<|KK CB ?_
 have BV:dR ts.length 0 ts U1:=by have e:u=ts.length:=I; rw [e] at E; exact E
 refine ai<|aY 1 U<|rS (SX (ck (r:= .int .i64 2) U U U (jJ ⟨dc,dc⟩)) U U)<|aY 1 U<|RK Cy<|ib fun R74 Cz=>aj fun _ Cg=>WS fun _ Ch=>rP 1 [] mn ?_
 refine rS (SX (ck (r:= .bool true) U U U ny) U U)<|RK Ch<|aT U<|WK Cg<|aj fun _ Ci=>ax<|aj fun _ Cj=>zb (C':=[(cv DH 103 ((ee.cells (ee.mk Value.nilFunc))++(ee.cells (ee.mk (Value.func (.func 75) [].toArray [].toArray)))++(ee.cells (ee.mk (Value.func (.func 76) [].toArray [].toArray))))),(cv b9 24 (ar.cells (ar.mk (bB.mk AA ts.length Z)))),(cv b3 24 (ar.cells (ar.mk (bB.mk none 0 0)))),(rd tsA ts.length 9 (ts.map aa.cells)).ro,(lW iV gm (dq (fun s=>vA (aH.cells s)) ml)).ro,(own AA Z 85 9 (U1.map aa.cells))]) [0,1,2,3,4,7] U U ?_
 have Dg:U1.length=ts.length:=BV.len
 refine ai ?_
 refine oF U ub U (by rw [List.length_replicate]; decide) fun L=>?_
 refine RK Cj<|aj fun _ Ck=>WS fun _ Cm=>rP 2 [] mn ?_
 refine RK Cm<|ax ?_
 have A:(0≤(ts.length+1))∧(Wd (ts.length+1) 0 true ts (List.replicate 169 (0:Int))):=by exact ⟨Nat.zero_le _,.zero⟩
 refine bu (ι:={z:Nat×(List Int) // (z.1≤(ts.length+1))∧(Wd (ts.length+1) 0 true ts z.2)}) [1,4,6,7,8,9,10,32] [1,2,3,4,5,6] U U (fun z=>[(33,(vI (z.1.1:Int)))]) (fun z=>[(own (some ⟨L,0,none⟩) ((List.replicate 169 (0:Int)).length) 107 1 (z.1.2.map iC))]) (fun _=>rfl) (fun _=>rfl) (fun z=>(ts.length+1)-z.1.1) ⟨(0,(List.replicate 169 (0:Int))),A⟩ (a3 U) (aL [1,2,3,4,5,6,0]) ?_
 clear A
 rintro ⟨⟨i,M⟩,⟨T,H⟩⟩ J82 B5
 try dsimp only at T H
 try dsimp only
 refine WS fun _ Cn=>rP 1 [] mn ?_
 refine RK Cn<|aj fun _ Co=>cG U (aR fun DN=>?_) (aS fun DN=>?_)
 ·refine WK Co<|aj fun _ Cp=>ax<|WS fun _ Cq=>aY 2 U<|RK Cq<|WS fun _ Cr=>rP 2 [] mn ?_
  refine RK Cr<|ax ?_
  have A:(0≤(ts.length+1))∧(Wd (ts.length+1) 0 true ts M):=by exact ⟨Nat.zero_le _,H⟩
  refine bu (ι:={z:Nat×(List Int) // (z.1≤(ts.length+1))∧(Wd (ts.length+1) 0 true ts z.2)}) [1,4,6,7,8,9,10,11,32,33,36] [0,1,2,3,4,5] U U (fun z=>[(37,(vI (z.1.1:Int)))]) (fun z=>[(own (some ⟨L,0,none⟩) ((List.replicate 169 (0:Int)).length) 107 1 (z.1.2.map iC))]) (fun _=>rfl) (fun _=>rfl) (fun z=>(ts.length+1)-z.1.1) ⟨(0,M),A⟩ (a3 U) (aL [0,1,2,3,4,5,6]) ?_
  clear A
  rintro ⟨⟨j,M2⟩,⟨O,C⟩⟩ J89 g
  try dsimp only at O C
  try dsimp only
  refine WS fun _ Cs=>rP 1 [] mn ?_
  refine RK Cs<|aj fun _ Ct=>bq U (aS fun V=>?_) (aR fun V=>?_)
  ·refine bj<|ab<|ab<|ay<|aF<|KK Cp<|ai<|rP 2 [] mn ?_
   refine aB ?_
   have DB:(vI (((i+1):Nat):Int))=(vI ((i:Int)+1)):=by exact cI I
   refine aU (B5 ⟨((i+1),M2),⟨I,C⟩⟩ _ _ _ U os (bL 8<|aN U DB<|cE.nil _) (aL [0,1,2,3,4,5,6]))
  refine WK Ct<|aj fun _ w=>ax<|WS fun _ Cu=>aY 2 U<|RK Cu<|WS fun _ Cv=>rP 3 [] mn ?_
  refine RK Cv<|bq U (aW fun AC=>?_) (aX fun AC=>?_)
  ·refine cf<|aF<|KK w<|ai<|rP 2 [] mn ?_
   refine aB ?_
   have DA:(vI (((j+1):Nat):Int))=(vI ((j:Int)+1)):=by exact cI I
   refine aU (g ⟨((j+1),M2),⟨I,by first|exact C.fill I I I I dc|exact C⟩⟩ _ _ _ U os (bL 11<|aN U DA<|cE.nil _) (aL [0,1,2,3,4,5,6]))
  refine ai<|aY 2 U<|rS (SX (dM (k:=i) U U U eO I I) U U)<|rS (SX (dN (k:=j) (m':=((i*13+j)*1)) U U U eN I I I) U U)<|cw (k:=(i*13+j)) (o:=0) (vs:=[(vI 1073741824)]) (es':=(List.map iC (M2.set (i*13+j) 1073741824))) (C':=[_,_,_,_,_,_,(own (some ⟨L,0,none⟩) ((List.replicate 169 (0:Int)).length) 107 1 (List.map iC (M2.set (i*13+j) 1073741824)))]) 6 U U U qk U U U U (dk (i:=i) (k:=j) C.len I I) U dc (by exact (List.map_set (f:=iC) (l:=M2) (i:=(i*13+j)) (a:=1073741824)).symm) U<|aB<|aF<|KK w<|ai<|rP 2 [] mn ?_
  refine aB ?_
  have C_:(vI (((j+1):Nat):Int))=(vI ((j:Int)+1)):=by exact cI I
  refine aU (g ⟨((j+1),(M2.set (i*13+j) 1073741824)),⟨I,by first|exact C.fill I I I I dc|exact C⟩⟩ _ _ _ U os (bL 11<|aN U C_<|cE.nil _) (aL [0,1,2,3,4,5,6]))
 refine bj<|ab<|ab<|ay<|KK Ck<|aj fun _ Cw=>WS fun _ Al=>rP 4 [] (mc 1 U mn) ?_
 refine RK Al<|ax ?_
 have A:(0≤U1.length)∧(Wd (ts.length+1) 0 true ts M):=by exact ⟨Nat.zero_le _,H⟩
 refine bu (ι:={z:Nat×(List Int) // (z.1≤U1.length)∧(Wd (ts.length+1) z.1 true ts z.2)}) [1,4,6,7,8,9,10,51] [0,1,2,3,4,5] U U (fun z=>[(52,(vI (z.1.1:Int)))]) (fun z=>[(own (some ⟨L,0,none⟩) ((List.replicate 169 (0:Int)).length) 107 1 (z.1.2.map iC))]) (fun _=>rfl) (fun _=>rfl) (fun z=>U1.length-z.1.1) ⟨(0,M),A⟩ (a3 U) (aL [0,1,2,3,4,5,6]) ?_
 clear A
 rintro ⟨⟨t,M3⟩,⟨P,D⟩⟩ J101 AD
 try dsimp only at P D
 try dsimp only
 refine WS fun _ A0=>rP 1 [] mn ?_
 refine RK A0<|aj fun _ A1=>cG U (aR fun B0=>?_) (aS fun B0=>?_)
 ·refine WK A1<|aj fun _ A2=>ax<|WS fun _ A3=>rP 2 [] mn ?_
  refine RK A3<|aj fun _ A4=>?_
  refine iv 5 U (by simp; omega) (fun S G=>?_)
  obtain ⟨x,hx⟩:=bk ts t I
  have By:=hst x (aI hx)
  simp only [aM,bf] at By
  obtain ⟨y,hy⟩:=bk U1 t I
  have Y:=bG aa.cells hy
  have Bz:y.di=x.di:=by have:=(BV.at_ t x y hx hy).2.2; rw [if_neg (Nat.not_lt_zero _)] at this; exact this
  have Dl:(0≤y.di.Lo∧y.di.Lo≤5000)∧0≤y.di.Hi∧y.di.Hi≤5000:=by rw [Bz]; omega
  refine dY dw [11,12] [] [] [0,1,2,3,4,5,6] [] U U U U U<|eS U (MV U)<|eS U (SX (nQ (k:=2) (o':=2) U U U rr U dc U) U U)<|eS U (FA 2 U fY U)<|eS U (L1 (Value.func (.func 76) [].toArray [].toArray) 0 U cA U U)<|eS U (FA 0 U fY U)<|eS U (L1 (vS AA ts.length Z) 1 U cA U U)<|eS U (MV U)<|eS U (zC t U G kd I I)<|eS U (CL (rD AA S (t*9) (by exact G)) (aw) U)<|eS U (SX (gp U U G) U U)<|eS U (mZ t 3 (al.cells y.di) U cA (au (n:=U1.length) 5 U sm) Y U dc U U)<|fx U<|bN U fun T108 BW=>AL U eH fun Db=>aB (BW _ _ (aL [1,2,3,4,5,6,7]) ?_)
  refine bN U fun T110 BX=>gH U dA U<|aB (BX _ _ (aL [1,2,3,4,5,6,7]) ?_)
  refine f_ U<|KK A4<|dY dw [13,15,16] [12] [] [0,1,2,3,4,5,6] [0,1,2,3,4,5,6,7] U U U U U<|eS U (MV U)<|eS U (MV U)<|eS U (BI U (jJ ⟨I,I⟩))<|eS U (MV U)<|eS U (BI U (jJ ⟨I,I⟩))<|eS U (MV U)<|eS U (FA 1 U fY U)<|eS U (L1 (vI y.di.Hi) 0 U cA U U)<|eS U (FA 0 U fY U)<|eS U (L1 (vI y.di.Lo) 0 U cA U U)<|eS U (NG U ⟨I,I⟩)<|eS U (SX (dM (k:=t) U U U eO I I) U U)<|fS U (SX (dN (k:=(t+1)) (m':=((t*13+(t+1))*1)) U U U eN I I I) U U)<|eS U (SX (dM (k:=(t+1)) U U U eO I I) U U)<|fx U<|bN U fun T111 BY=>cw (k:=(t*13+(t+1))) (o:=0) (vs:=[(vI y.di.Hi)]) (es':=(List.map iC (M3.set (t*13+(t+1)) y.di.Hi))) (C':=[_,_,_,_,_,_,_,(own (some ⟨L,0,none⟩) ((List.replicate 169 (0:Int)).length) 107 1 (List.map iC (M3.set (t*13+(t+1)) y.di.Hi)))]) 7 U U U qk U U U U (dk (i:=t) (k:=(t+1)) D.len I I) U dc (by exact (List.map_set (f:=iC) (l:=M3) (i:=(t*13+(t+1))) (a:=y.di.Hi)).symm) U<|aB (BY _ _ (aL [0,1,2,3,4,5,6]) ?_)
  refine bN U fun T112 BZ=>rS (SX (dN (k:=t) (m':=(((t+1)*13+t)*1)) U U U eN I I I) U U)<|aB (BZ _ _ (aL [0,1,2,3,4,5,6]) ?_)
  refine bN U fun T113 Bs=>cw (k:=((t+1)*13+t)) (o:=0) (vs:=[(vI (-y.di.Lo))]) (es':=(List.map iC ((M3.set (t*13+(t+1)) y.di.Hi).set ((t+1)*13+t) (-y.di.Lo)))) (C':=[_,_,_,_,_,_,_,(own (some ⟨L,0,none⟩) ((List.replicate 169 (0:Int)).length) 107 1 (List.map iC ((M3.set (t*13+(t+1)) y.di.Hi).set ((t+1)*13+t) (-y.di.Lo))))]) 7 U U U qk U U U U (dk (i:=(t+1)) (k:=t) (ju D.len) I I) U dc (by exact (List.map_set (f:=iC) (l:=(M3.set (t*13+(t+1)) y.di.Hi)) (i:=((t+1)*13+t)) (a:=(-y.di.Lo))).symm) U<|aB (Bs _ _ (aL [0,1,2,3,4,5,6]) ?_)
  refine f_ U<|aF<|KK A2<|ai<|rP 2 [] mn ?_
  refine aB ?_
  have Bu:(vI (((t+1):Nat):Int))=(vI ((t:Int)+1)):=by exact cI I
  refine aU (AD ⟨((t+1),((M3.set (t*13+(t+1)) y.di.Hi).set ((t+1)*13+t) (-y.di.Lo))),⟨I,D.rJ I I hx (by show _=x.di.Hi; rw [Bz]) (by show _= -x.di.Lo; rw [Bz]) ⟨⟨I,I⟩,I,I⟩⟩⟩ _ _ _ U os (bL 8<|aN U Bu<|cE.nil _) (aL [1,2,3,4,5,6,7]))
 refine bj<|ab<|ab<|ay<|KK Cw<|aj fun _ A5=>WS fun _ A6=>rP 1 [] mn ?_
 refine mu (kV:=iV) (m:=dq (fun s=>vA (aH.cells s)) ml) 4 U U w7 U ⟨U,fun h=>h⟩ (by exact nS 4 U) U fun DE=>?_
 try dsimp only
 refine RK A6<|ax ?_
 have A:(∀ e∈ml,e∈ml)∧(Wd (ts.length+1) ts.length true ts M3):=by exact ⟨fun _ h=>h,by have e:t=ts.length:=I; subst e; exact D⟩
 refine bu (ι:={z:(List (Int×aH))×(List Int) // (∀ e∈z.1,e∈ml)∧(Wd (ts.length+1) ts.length true ts z.2)}) [1,4,6,7,8,9,10,83] [1,2,3,4,5,6] U U (fun z=>[]) (fun z=>[(rh iV DE gm (dq (fun s=>vA (aH.cells s)) ml) (dq (fun s=>vA (aH.cells s)) z.1.1) none),(own (some ⟨L,0,none⟩) ((List.replicate 169 (0:Int)).length) 107 1 (z.1.2.map iC))]) (fun _=>rfl) (fun _=>rfl) (fun z=>z.1.1.length) ⟨(ml,M3),A⟩ (cE.nil _) (aL [1,2,3,4,5,6,0,7]) ?_
 clear A
 rintro ⟨⟨left,M4⟩,⟨F,B⟩⟩ J118 W
 try dsimp only at F B
 try dsimp only
 refine WS fun _ X=>lI (g8 mY).inj (f:=(fun s=>vA (aH.cells s))) 6 U U U U (fun DC=>?_) (fun q z hm DW=>?_)
 rotate_left 1
 ·try dsimp only
  refine rP 1 [] mn ?_
  refine RK X<|aj fun _ BL=>aT U<|WK BL<|ax<|WS fun _ BN=>rS (SX (lu 6 U U U) U U) ?_
  have Bw:=hmm _ (F _ hm)
  simp only [dE,bf] at Bw
  refine aY 1 U<|AL U tR fun Dc=>gH U tT U<|RK BN<|WS fun _ BO=>gJ 2 [] (mc 0 U mn) U<|rS (SX (eJ (m:=z.Kind) U U sK mY (dr (by first|assumption|omega))) U U)<|rP 2 [] mn ?_
  refine RK BO<|bq U (aS fun V=>?_) (aR fun V=>?_)
  ·refine cf<|aF<|nT 7 U kG U ?_
   refine aU (W ⟨((dJ left q),M4),⟨ks F,by first|exact B|exact (B.less I I I I I I U).less I I I I I I U⟩⟩ _ _ _ U (km hm) (a3 U) (aL [1,2,3,4,5,6,7,8]))
  refine aj fun _ BP=>eD dw 17 kr<|kU 8 [] (mc 0 U mn) U<|dS (SX (dM (k:=(z.bx).toNat) U U U eO I I) U U)<|dS (SX (dN (k:=(z.To).toNat) (m':=((((z.bx).toNat)*13+((z.To).toNat))*1)) U U U eN I I I) U U)<|dS (g5 (((z.bx).toNat)*13+((z.To).toNat)) 0 (vI (mt M4 ((z.bx).toNat) ((z.To).toNat))) U cA (au (n:=M4.length) 8 U sm) (dk (i:=(z.bx).toNat) (k:=(z.To).toNat) B.len I I) U dc U)<|kU 3 [] (mc 0 U mn) U<|dS (MN U)<|dS (SX (dM (k:=(z.bx).toNat) U U U eO I I) U U)<|dS (SX (dN (k:=(z.To).toNat) (m':=((((z.bx).toNat)*13+((z.To).toNat))*1)) U U U eN I I I) U U)<|cR<|cw (k:=(((z.bx).toNat)*13+((z.To).toNat))) (o:=0) (vs:=[(vI (min (mt M4 ((z.bx).toNat) ((z.To).toNat)) z.bO.Hi))]) (es':=(List.map iC (M4.set (((z.bx).toNat)*13+((z.To).toNat)) (min (mt M4 ((z.bx).toNat) ((z.To).toNat)) z.bO.Hi)))) (C':=[_,_,_,_,_,_,_,_,(own (some ⟨L,0,none⟩) ((List.replicate 169 (0:Int)).length) 107 1 (List.map iC (M4.set (((z.bx).toNat)*13+((z.To).toNat)) (min (mt M4 ((z.bx).toNat) ((z.To).toNat)) z.bO.Hi))))]) 8 U U U qk U U U U (dk (i:=(z.bx).toNat) (k:=(z.To).toNat) B.len I I) U dc (by exact (List.map_set (f:=iC) (l:=M4) (i:=(((z.bx).toNat)*13+((z.To).toNat))) (a:=(min (mt M4 ((z.bx).toNat) ((z.To).toNat)) z.bO.Hi))).symm) U<|RK BP<|eD dw 18 kr<|kU 8 [] (mc 0 U mn) U<|dS (SX (dM (k:=(z.To).toNat) U U U eO I I) U U)<|dS (SX (dN (k:=(z.bx).toNat) (m':=((((z.To).toNat)*13+((z.bx).toNat))*1)) U U U eN I I I) U U)<|dS (g5 (((z.To).toNat)*13+((z.bx).toNat)) 0 (vI (mt (M4.set (((z.bx).toNat)*13+((z.To).toNat)) (min (mt M4 ((z.bx).toNat) ((z.To).toNat)) z.bO.Hi)) ((z.To).toNat) ((z.bx).toNat))) U cA (au (n:=(M4.set (((z.bx).toNat)*13+((z.To).toNat)) (min (mt M4 ((z.bx).toNat) ((z.To).toNat)) z.bO.Hi)).length) 8 U sm) (dk (i:=(z.To).toNat) (k:=(z.bx).toNat) (ju B.len) I I) U dc U)<|dP 3 [] (mc 0 U mn) ?_
  refine dS (NG U ⟨I,I⟩)<|dS (MN U)<|dS (SX (dM (k:=(z.To).toNat) U U U eO I I) U U)<|dS (SX (dN (k:=(z.bx).toNat) (m':=((((z.To).toNat)*13+((z.bx).toNat))*1)) U U U eN I I I) U U)<|cR<|cw (k:=(((z.To).toNat)*13+((z.bx).toNat))) (o:=0) (vs:=[(vI (min (mt (M4.set (((z.bx).toNat)*13+((z.To).toNat)) (min (mt M4 ((z.bx).toNat) ((z.To).toNat)) z.bO.Hi)) ((z.To).toNat) ((z.bx).toNat)) (-z.bO.Lo)))]) (es':=(List.map iC ((M4.set (((z.bx).toNat)*13+((z.To).toNat)) (min (mt M4 ((z.bx).toNat) ((z.To).toNat)) z.bO.Hi)).set (((z.To).toNat)*13+((z.bx).toNat)) (min (mt (M4.set (((z.bx).toNat)*13+((z.To).toNat)) (min (mt M4 ((z.bx).toNat) ((z.To).toNat)) z.bO.Hi)) ((z.To).toNat) ((z.bx).toNat)) (-z.bO.Lo))))) (C':=[_,_,_,_,_,_,_,_,(own (some ⟨L,0,none⟩) ((List.replicate 169 (0:Int)).length) 107 1 (List.map iC ((M4.set (((z.bx).toNat)*13+((z.To).toNat)) (min (mt M4 ((z.bx).toNat) ((z.To).toNat)) z.bO.Hi)).set (((z.To).toNat)*13+((z.bx).toNat)) (min (mt (M4.set (((z.bx).toNat)*13+((z.To).toNat)) (min (mt M4 ((z.bx).toNat) ((z.To).toNat)) z.bO.Hi)) ((z.To).toNat) ((z.bx).toNat)) (-z.bO.Lo)))))]) 8 U U U qk U U U U (dk (i:=(z.To).toNat) (k:=(z.bx).toNat) (ju B.len) I I) U dc (by exact (List.map_set (f:=iC) (l:=(M4.set (((z.bx).toNat)*13+((z.To).toNat)) (min (mt M4 ((z.bx).toNat) ((z.To).toNat)) z.bO.Hi))) (i:=(((z.To).toNat)*13+((z.bx).toNat))) (a:=(min (mt (M4.set (((z.bx).toNat)*13+((z.To).toNat)) (min (mt M4 ((z.bx).toNat) ((z.To).toNat)) z.bO.Hi)) ((z.To).toNat) ((z.bx).toNat)) (-z.bO.Lo)))).symm) U<|aB<|aF<|nT 7 U kG U ?_
  refine aU (W ⟨((dJ left q),((M4.set (((z.bx).toNat)*13+((z.To).toNat)) (min (mt M4 ((z.bx).toNat) ((z.To).toNat)) z.bO.Hi)).set (((z.To).toNat)*13+((z.bx).toNat)) (min (mt (M4.set (((z.bx).toNat)*13+((z.To).toNat)) (min (mt M4 ((z.bx).toNat) ((z.To).toNat)) z.bO.Hi)) ((z.To).toNat) ((z.bx).toNat)) (-z.bO.Lo)))),⟨ks F,by first|exact B|exact (B.less I I I I I I U).less I I I I I I U⟩⟩ _ _ _ U (km hm) (a3 U) (aL [1,2,3,4,5,6,7,8]))
 refine aY 1 U<|RK X<|aj fun _ DP=>bp U<|bj<|ab<|ab<|ay<|KK A5<|aj fun _ A7=>WS fun _ BB=>rP 1 [] mn ?_
 refine ia 7 U U U U (oK L ((List.replicate 169 (0:Int)).length) M4 (ts.length+1) I (by exact B.cl)) U jS U (fun DG Bx=>?_)
 obtain ⟨M9,DY⟩:=DG
 try dsimp only
 refine rP 1 [] mn ?_
 refine RK BB<|cG U (fun AB=>?_) (fun AB=>?_)
 ·rw [Bool.not_eq_true'] at AB
  refine WS fun _ BC=>rS (SX (bm (xs:=[]) (cs:=(ar.cells (ar.mk (bB.mk none 0 0)))) U U (bl sy U)) U U)<|u2 U kQ U<|rP 1 [] mn ?_
  refine RK BC<|an ?_
  refine LX hQ (false,0,[],none,0) [] [0] (mc 2 U mn) U U U ?_ ?_
  ·first|rfl|(simp only [cond_true]; rw [b.len]; rfl)
  ·exact ⟨fun q=>Bool.noConfusion q,fun _=>⟨U,trivial⟩⟩
 rw [Bool.not_eq_false'] at AB
 refine WK A7<|aj fun _ BD=>?_
 have N:=Bx AB
 have J:nF (ts.length+1) true ts M9:=nF.of B N.1 N.2
 refine ai<|rP 4 [] (mc 1 U mn) ?_
 refine RK BD<|ax ?_
 have A:(0≤ts.length)∧(dR ts.length 0 ts U1):=by exact ⟨Nat.zero_le _,BV⟩
 refine bu (ι:={z:Nat×(List aa) // (z.1≤ts.length)∧(dR ts.length z.1 ts z.2)}) [1,4,6,7,8,9,10,134] [0,1,2,3,4,6,7] U U (fun z=>[(135,(vI (z.1.1:Int)))]) (fun z=>[(own AA Z 85 9 (z.1.2.map aa.cells))]) (fun _=>rfl) (fun _=>rfl) (fun z=>ts.length-z.1.1) ⟨(0,U1),A⟩ (a3 U) (aL [0,1,2,3,4,6,7,5]) ?_
 clear A
 rintro ⟨⟨u,U2⟩,⟨R,E⟩⟩ J126 AY
 try dsimp only at R E
 try dsimp only
 refine WS fun _ BE=>rP 1 [] mn ?_
 refine RK BE<|aj fun _ BF=>bq U (aS fun B1=>?_) (aR fun B1=>?_)
 ·refine bj<|ab<|ab<|ay<|aF<|KK Ci ?_
  have b:dR ts.length ts.length ts U2:=by have e:u=ts.length:=I; rw [e] at E; exact E
  refine ai<|aY 1 U<|rS (SX (ck (r:= .int .i64 3) U U U (jJ ⟨dc,dc⟩)) U U)<|aY 1 U<|RK Cz<|ib fun R133 DS=>aj fun _ DQ=>WS fun _ BJ=>aY 1 U<|rS (SX (ck (r:= .bool false) U U U ny) U U)<|RK BJ<|bp U<|bj<|ab<|ab<|ay<|KK B8<|WS fun _ BK=>gJ 1 [] (mc 1 U mn) U<|u2 U kQ U<|rP 1 [] mn ?_
  refine RK BK<|an ?_
  refine LX hQ (true,0,U2,AA,Z) [7] [0] (mc 2 U mn) U U U ?_ ?_
  ·first|rfl|(simp only [cond_true]; rw [b.len]; rfl)
  ·exact ⟨fun _=>b,fun q=>Bool.noConfusion q⟩
 refine WK BF<|aj fun _ BG=>ax<|WS fun _ BH=>rP 2 [] mn ?_
 refine RK BH ?_
 have DD:U2.length=ts.length:=E.len
 refine iv 7 U (by simp; omega) (fun S G=>?_)
 obtain ⟨x,hx⟩:=bk ts u I
 obtain ⟨y,hy⟩:=bk U2 u I
 have Y:=bG aa.cells hy
 have DV:=(show Cl (ts.length+1) (ts.length+1) M9 from N.1).x2 I (show u<(ts.length+1) by omega) (show u+1<(ts.length+1) by omega)
 have DU:=(show Cl (ts.length+1) (ts.length+1) M9 from N.1).x2 I (show u+1<(ts.length+1) by omega) (show u<(ts.length+1) by omega)
 refine eD dw 24 kr<|gf 1 U<|dS (SX (nQ (k:=2) (o':=2) U U U rr U dc U) U U)<|kU 5 [0,1] (mc 0 U (mc 1 U mn)) U<|dS (zC u U G kd I I)<|dS (CL (rD AA S (u*9) (by exact G)) (aw) U)<|gf 3 U<|dS (SX (dM (k:=(u+1)) U U U eO I I) U U)<|dS (SX (dN (k:=u) (m':=(((u+1)*13+u)*1)) U U U eN I I I) U U)<|dS (g5 ((u+1)*13+u) 0 (vI (mt M9 (u+1) u)) U cA (au (n:=M9.length) 6 U sm) (dk (i:=(u+1)) (k:=u) J.len I I) U dc U)<|dS (NG U ⟨I,I⟩)<|gf 3 U<|dS (SX (dM (k:=u) U U U eO I I) U U)<|dS (SX (dN (k:=(u+1)) (m':=((u*13+(u+1))*1)) U U U eN I I I) U U)<|dS (g5 (u*13+(u+1)) 0 (vI (mt M9 u (u+1))) U cA (au (n:=M9.length) 6 U sm) (dk (i:=u) (k:=(u+1)) J.len I I) U dc U)<|dS (SX (bm (xs:=[(0,.tmp 153),(1,.tmp 159)]) (cs:=(al.cells (al.mk (-(mt M9 (u+1) u)) (mt M9 u (u+1))))) U U (bl jF U)) U U)<|dS (SX (gp U U G) U U)<|cR<|cw (k:=u) (o:=3) (vs:=(al.cells (al.mk (-(mt M9 (u+1) u)) (mt M9 u (u+1))))) (es':=(List.map aa.cells (U2.set u (aa.mk y.Id y.dj (al.mk (-(mt M9 (u+1) u)) (mt M9 u (u+1))) y.bJ y.cT y.iF)))) (C':=[_,_,_,_,_,_,_,(own AA Z 85 9 (List.map aa.cells (U2.set u (aa.mk y.Id y.dj (al.mk (-(mt M9 (u+1) u)) (mt M9 u (u+1))) y.bJ y.cT y.iF))))]) 7 U U U dA U U U U Y U dc (by exact (List.map_set (f:=aa.cells) (l:=U2) (i:=u) (a:=(aa.mk y.Id y.dj (al.mk (-(mt M9 (u+1) u)) (mt M9 u (u+1))) y.bJ y.cT y.iF))).symm) U<|aB<|aF<|KK BG<|ai<|rP 2 [] mn ?_
 refine aB ?_
 have Bv:(vI (((u+1):Nat):Int))=(vI ((u:Int)+1)):=by exact cI I
 refine aU (AY ⟨((u+1),(U2.set u (aa.mk y.Id y.dj (al.mk (-(mt M9 (u+1) u)) (mt M9 u (u+1))) y.bJ y.cT y.iF))),⟨I,E.Aw hx hy ⟨by have:=J.at_ u x hx I; simp only [jI,cond_true] at this; simp only; omega,by have:=J.at_ u x hx I; simp only; omega,by have:=J.at_ u x hx I; simp only [jI,cond_true] at this; simp only; omega⟩⟩⟩ _ _ _ U os (bL 8<|aN U Bv<|cE.nil _) (aL [0,1,2,3,4,5,6,7]))
end
section
open Go.RowKit
theorem uk (ts:List aa) (tsA:OA) (tsC:Nat) (l:List aH) (lA:OA) (lC:Nat) (htr:a_ ts=true) (hside: ∀ x∈ts,0≤x.cT∧x.cT≤255) (hmo:ff l ts.length):
 jK Tryz.prog 7 [(vA (ar.cells (ar.mk (bB.mk tsA ts.length tsC)))),(vS lA l.length lC)] [(rd tsA ts.length 9 (ts.map aa.cells)),(rd lA l.length 5 (l.map aH.cells))] (fun (x:Bool×Int×(List aa)×(OA)×Nat)=>bif x.1 then (vT [(vA (ar.cells (ar.mk (bB.mk x.2.2.2.1 x.2.2.1.length x.2.2.2.2)))),(vI 0)]) else (vT [(vA (ar.cells (ar.mk (bB.mk none 0 0)))),(vI x.2.1)])) (fun (x:Bool×Int×(List aa)×(OA)×Nat)=>(x.1=true→dR ts.length ts.length ts x.2.2.1)∧(x.1=false→(x.2.1=8∧True))) (fun (x:Bool×Int×(List aa)×(OA)×Nat)=>bif x.1 then [(own x.2.2.2.1 x.2.2.2.2 85 9 (x.2.2.1.map aa.cells))] else []):=by
 have K:=dy htr
 have V:=oQ htr
 have W:=cO htr
 have f:=hmo.1
 refine dh kr Tryz.func7 U U fun k Q hQ hN=>?_
 try dsimp only
 refine WS fun _ T=>fN U fun h=>AL U oH fun i=>aY 1 U<|RK T<|WS fun _ AA=>rP 2 [] (mc 1 U mn) ?_
 refine cX (pO ts tsA tsC l lA lC htr hside (by exact hmo)) (bg [2,3]) U fun g X=>?_
 obtain ⟨S,Y⟩:=g
 try dsimp only
 have L:=X
 refine aY 4 U<|AL U qE fun j=>gH U p6 U<|aY 2 U<|RK AA<|aj fun _ C=>WS fun _ D=>aY 1 U<|rS (SX (ck (r:= .bool false) U U U eW) U U)<|RK D<|bp U<|WK C<|WS fun _ A=>rP 2 [] (mc 0 U mn) ?_
 refine cX (xK ts tsA tsC S Y (by exact W) (by exact K) (by exact V) (by exact fun e he=>hmo.2 _ (L e he))) (bg [4,1]) U fun Z B=>?_
 obtain ⟨N,a,O,P,R⟩:=Z
 cases N
 rotate_left 1
 ·obtain M:=B.1 rfl
  try dsimp only [cond_true,cond_false,List.cons_append,List.nil_append]
  refine aY 3 U<|AL U oH fun d=>gH U kQ U<|aY 1 U<|RK A<|aj fun _ G=>WS fun _ H=>aY 2 U<|RK H<|bp U<|WK G<|WS fun _ AB=>gJ 1 [] (mc 0 U mn) U<|z7 U kQ U<|rP 1 [] mn ?_
  refine RK AB<|an<|LX hQ (true,0,O,P,R) [1] [0] (mc 4 U mn) U U U U ?_
  exact ⟨fun _=>M,fun q=>Bool.noConfusion q⟩
 obtain ⟨J,he⟩:=B.2 rfl
 try dsimp only at J he
 subst J
 try dsimp only [cond_true,cond_false,List.cons_append,List.nil_append]
 refine aY 3 U<|AL U oH fun c=>gH U kQ U<|aY 1 U<|RK A<|aj fun _ b=>WS fun _ E=>aY 2 U<|RK E<|aT U<|WS fun _ F=>rS (SX (bm (xs:=[]) (cs:=(ar.cells (ar.mk (bB.mk none 0 0)))) U U (bl sy U)) U U)<|tP U kQ U<|rP 1 [] mn ?_
 refine RK F<|an<|LX hQ (false,8,[],none,0) [] [0] (mc 3 U mn) U U U U ?_
 exact ⟨fun q=>Bool.noConfusion q,fun _=>⟨U,trivial⟩⟩
end
section
open Go.RowKit
theorem oc (d:ak) (kA:OA) (kC:Nat) (pA:OA) (pC:Nat) (nA:OA) (nC:Nat) (l:List aH) (lA:OA) (lC:Nat) (hraw:fQ d) (hk: ∀ m∈l,0≤m.Kind∧m.Kind≤255):
 dx Tryz.prog 3 [(vA (aZ.cells (aZ.mk (ar.mk (bB.mk kA d.ag.length kC)) (bB.mk pA d.ae.length pC) (bB.mk nA d.aq.length nC) d.a2 d.a4))),(vS lA l.length lC)] [(rd kA d.ag.length 9 (d.ag.map aa.cells)),(rd pA d.ae.length 7 (d.ae.map aV.cells)),(rd nA d.aq.length 3 (d.aq.map bc.cells)),(rd lA l.length 5 (l.map aH.cells))] (vB true):=by
 refine bD kr Tryz.func3 U U fun w0 Q hQ hN=>?_
 try dsimp only
 refine WS fun _ CE=>fN U fun b2=>aY 1 U<|RK CE<|WS fun _ CF=>rS (CL vm (aw) U)<|aY 1 U<|RK CF<|aj fun _ CG=>WS fun _ AA=>gJ 1 [] (mc 0 U mn) U<|rS (CL (rC d kA kC pA pC nA nC (by exact hraw)) (qZ 1 2 3 U U U U U U) U)<|rP 2 [] mn ?_
 refine ct (t:=35) U (aX fun M=>?_) (aW fun M=>?_)
 ·refine aY 10 U<|RK AA<|aT U<|WS fun _ CH=>rP 2 [] mn ?_
  refine RK CH<|an ?_
  exact Q1 hQ U U U U
 have H:=hraw.small M.1
 have K:=M.2
 obtain ⟨B0,CJ⟩:=cP K
 have Cn:=CJ.len
 have Co:=dy B0
 refine aY 1 U<|rS (LP (ar.cells (ar.mk (bB.mk kA d.ag.length kC))) 0 U cA U U U)<|aY 1 U<|rS (CL (qe d.ag kA kC l lA lC I (by exact hk)) (bg [1,4]) U)<|rP 3 [] mn ?_
 refine ct (t:=42) U (aX fun By=>?_) (aW fun By=>?_)
 ·refine aY 3 U<|RK AA<|aT U<|WS fun _ CI=>rP 2 [] mn ?_
  refine RK CI<|an ?_
  exact Q1 hQ U U U U
 refine aY 3 U<|RK AA<|bp U<|WK CG<|WS fun _ BJ=>aY 1 U<|rS (LP (ar.cells (ar.mk (bB.mk kA d.ag.length kC))) 0 U cA U U U)<|rP 1 [] mn ?_
 refine cX (uk d.ag kA kC l lA lC (by exact B0) (by exact H.side) (by exact By)) (bg [1,4]) U fun y9 S=>?_
 obtain ⟨B1,CV,B2,AB,J⟩:=y9
 cases B1
 ·obtain ⟨Bx,he⟩:=S.2 rfl
  try dsimp only at Bx he
  subst Bx
  try dsimp only [cond_true,cond_false,List.cons_append,List.nil_append]
  refine aY 3 U<|AL U oH fun Ch=>gH U kQ U<|aY 1 U<|RK BJ<|aj fun _ CW=>WS fun _ e=>aY 1 U<|rS (SX (ck (r:= .bool true) U U U eW) U U)<|RK e<|aT U<|WS fun _ f=>aY 3 U<|rS (SX (ck (r:= .bool true) U U U kq) U U)<|rP 2 [] mn ?_
  refine RK f<|an ?_
  exact Q1 hQ U U U U
 obtain B:=S.1 rfl
 try dsimp only [cond_true,cond_false,List.cons_append,List.nil_append]
 try dsimp only at B
 obtain ⟨us,CK⟩: ∃ us,us=B2:=⟨_,rfl⟩
 subst CK
 refine aY 3 U<|AL U oH fun Ci=>gH U kQ U<|aY 1 U<|RK BJ<|aj fun _ g=>WS fun _ h=>rP 1 [] mn ?_
 refine rS (SX (ck (r:= .bool false) U U U eW) U U)<|RK h<|bp U<|WK g<|aj fun _ j=>?_
 have Cp:=B.len
 have Bz:fQ (ak.mk us d.ae d.aq d.a2 d.a4):=s6 B H
 have CX:br (ak.mk us d.ae d.aq d.a2 d.a4)=0:=jv B K
 have R:k4 (ak.mk us d.ae d.aq d.a2 d.a4):=pT B M
 have G:=Bz.small R.1
 have V:=fR B K
 have P:bM (ak.mk us d.ae d.aq d.a2 d.a4) []=0:=V.2
 have CY:(dL (ak.mk us d.ae d.aq d.a2 d.a4) []).length≤1000000:=Nat.le_trans mD G.j7
 have CZ:(cC d []).length≤1000000:=Nat.le_trans ja H.ku
 refine ai<|rP 1 [] (mc 2 U mn) ?_
 refine cX (vN d kA kC pA pC nA nC (by exact H)) (qZ 3 4 5 U U U U U U) U fun CO Ca=>?_
 obtain ⟨CT,CU,C,E,D,F⟩:=CO
 try dsimp only
 refine AL U xp fun Cj=>gH U xu U<|RK j<|WS fun _ o=>gJ 2 [] (mc 4 U mn) U<|Bo (aZ.cells (aZ.mk (ar.mk (bB.mk AB us.length J)) (bB.mk C d.ae.length E) (bB.mk D d.aq.length F) d.a2 d.a4)) U kQ U U<|RK o<|aj fun _ p=>WS fun _ q=>gJ 1 [] (mc 0 U mn) U<|rS (CL (rC (ak.mk us d.ae d.aq d.a2 d.a4) AB J C E D F (by exact Bz)) (av (au (n:=us.length) 5 U sm)<|av (au (n:=d.ae.length) 2 U sm)<|av (au (n:=d.aq.length) 3 U sm)<|aw) U)<|rP 1 [] mn ?_
 refine RK q<|cG U (aX fun Y=>?_) (aW fun Y=>?_)
 ·exact absurd R Y
 refine WK p<|aj fun _ s=>WS fun _ w=>rP 4 [] (mc 6 U mn) ?_
 refine RK w<|ax ?_
 have A:(0≤d.ae.length):=by exact Nat.zero_le _
 refine bu (ι:={z:Nat // (z≤d.ae.length)}) [2,5,8,70] [0,1,2,3,5,6,7,8,9,10] U U (fun z=>[(71,(vI (z.1:Int)))]) (fun z=>[]) (fun _=>rfl) (fun _=>rfl) (fun z=>d.ae.length-z.1) ⟨0,A⟩ (a3 U) (aL [0,1,2,3,5,6,7,8,9,10]) ?_
 clear A
 rintro ⟨i,B3⟩ J38 Z
 try dsimp only
 refine WS fun _ AC=>rP 1 [] mn ?_
 refine RK AC<|aj fun _ AD=>cG U (aR fun CA=>?_) (aS fun CA=>?_)
 ·refine WK AD<|aj fun _ AY=>ax<|WS fun _ Al=>aY 2 U<|RK Al<|WS fun _ Aw=>rP 5 [] (mc 5 U mn) ?_
  refine RK Aw<|ax ?_
  have A:(0≤d.ag.length):=by exact Nat.zero_le _
  refine bu (ι:={z:Nat // (z≤d.ag.length)}) [2,5,8,9,70,71,77] [0,1,2,3,4,5,6,7,8,9] U U (fun z=>[(78,(vI (z.1:Int)))]) (fun z=>[]) (fun _=>rfl) (fun _=>rfl) (fun z=>d.ag.length-z.1) ⟨0,A⟩ (a3 U) (aL [0,1,2,3,4,5,6,7,8,9]) ?_
  clear A
  rintro ⟨k,B4⟩ J45 a
  try dsimp only
  refine WS fun _ A0=>rP 1 [] mn ?_
  refine RK A0<|aj fun _ A1=>bq U (aS fun CB=>?_) (aR fun CB=>?_)
  ·refine bj<|ab<|ab<|ay<|aF<|KK AY<|ai<|rP 2 [] mn ?_
   refine aB ?_
   have Bu:(vI (((i+1):Nat):Int))=(vI ((i:Int)+1)):=by exact cI I
   refine aU (Z ⟨(i+1),(by first|omega|(simp only []; omega))⟩ _ _ _ U os (bL 4<|aN U Bu<|cE.nil _) (aL [0,1,2,3,4,5,6,7,8,9]))
  refine WK A1<|aj fun _ A2=>ax<|WS fun _ A3=>rP 2 [] mn ?_
  refine RK A3<|WS fun _ A4=>?_
  have L:(iD d (i:Int) (k:Int)=0∧iD (ak.mk us d.ae d.aq d.a2 d.a4) (i:Int) (k:Int)=0)∧kW (ak.mk us d.ae d.aq d.a2 d.a4) (i:Int) (k:Int)≤kW d (i:Int) (k:Int)∧g_ (ak.mk us d.ae d.aq d.a2 d.a4) (i:Int) (k:Int)≤g_ d (i:Int) (k:Int):=uu B K ⟨⟨I,I⟩,I,I⟩
  refine gJ 3 [] (mc 5 U mn) U<|rS (CL (s8 d kA kC pA pC nA nC (i:Int) (k:Int) (by exact H)) (qZ 6 7 8 U U U U U U) U)<|rP 1 [] mn ?_
  rw [L.1.1]
  refine aY 4 U<|RK A4<|WS fun _ A5=>gJ 3 [] (mc 0 U mn) U<|rS (CL (s8 (ak.mk us d.ae d.aq d.a2 d.a4) AB J C E D F (i:Int) (k:Int) (by exact G)) (av (au (n:=us.length) 4 U sm)<|av (au (n:=d.ae.length) 2 U sm)<|av (au (n:=d.aq.length) 3 U sm)<|aw) U)<|rP 1 [] mn ?_
  rw [L.1.2]
  refine aY 4 U<|RK A5<|WS fun _ A6=>gJ 3 [] (mc 5 U mn) U<|rS (CL (qy d kA kC pA pC nA nC (i:Int) (k:Int) (by exact H)) (qZ 6 7 8 U U U U U U) U)<|rP 1 [] mn ?_
  rw [L.1.1]
  refine aY 4 U<|RK A6<|WS fun _ A7=>gJ 3 [] (mc 0 U mn) U<|rS (CL (qy (ak.mk us d.ae d.aq d.a2 d.a4) AB J C E D F (i:Int) (k:Int) (by exact G)) (av (au (n:=us.length) 4 U sm)<|av (au (n:=d.ae.length) 2 U sm)<|av (au (n:=d.aq.length) 3 U sm)<|aw) U)<|rP 1 [] mn ?_
  rw [L.1.2]
  refine aY 4 U<|RK A7<|WS fun _ BB=>aY 1 U<|rS (SX (ck (r:= .bool false) U U U eW) U U)<|aY 2 U<|rS (SX (ck (r:= .bool false) U U U eW) U U)<|aY 3 U<|rS (SX (ck (r:= .bool false) U U U eW) U U)<|aY 3 U<|rS (SX (ck (r:= .bool false) U U U eW) U U)<|rP 7 [] mn ?_
  refine ct (t:=128) U (aR fun W=>?_) (aS fun W=>?_)
  ·exfalso; omega
  refine rP 4 [] mn ?_
  refine RK BB<|cG U (aR fun X=>?_) (aS fun X=>?_)
  ·exfalso; omega
  refine cf<|aF<|KK A2<|ai<|rP 2 [] mn ?_
  refine aB ?_
  have Bs:(vI (((k+1):Nat):Int))=(vI ((k:Int)+1)):=by exact cI I
  refine aU (a ⟨(k+1),(by first|omega|(simp only []; omega))⟩ _ _ _ U os (bL 7<|aN U Bs<|cE.nil _) (aL [0,1,2,3,4,5,6,7,8,9]))
 refine bj<|ab<|ab<|ay<|KK s<|WS fun _ BC=>rP 1 [] (mc 5 U mn) ?_
 refine cX (q9 d kA kC pA pC nA nC ([]) none 0 (by exact H) sm) (fH [6,7,8]<|av (iu _ _)<|aw) U fun CP Cb=>?_
 obtain ⟨B7,B9⟩:=CP
 try dsimp only
 refine rP 1 [] mn ?_
 rw [V.1]
 refine aY 4 U<|RK BC<|WS fun _ BD=>rP 1 [] (mc 1 U mn) ?_
 refine cX (q9 (ak.mk us d.ae d.aq d.a2 d.a4) AB J C E D F ([]) none 0 (by exact G) sm) (av (au (n:=us.length) 5 U sm)<|av (au (n:=d.ae.length) 3 U sm)<|av (au (n:=d.aq.length) 4 U sm)<|av (iu _ _)<|aw) U fun CQ Cc=>?_
 obtain ⟨Cf,Ck⟩:=CQ
 try dsimp only
 refine rP 1 [] mn ?_
 rw [P]
 refine aY 4 U<|RK BD<|WS fun _ BE=>rP 1 [] (mc 7 U mn) ?_
 refine cX (mh d kA kC pA pC nA nC ([]) none 0 (by exact H) sm) (fH [8,9,10]<|av (iu _ _)<|aw) U fun CR Cd=>?_
 obtain ⟨Cg,Cm⟩:=CR
 try dsimp only
 refine rP 1 [] mn ?_
 rw [V.1]
 refine aY 4 U<|RK BE<|WS fun _ BF=>rP 1 [] (mc 3 U mn) ?_
 refine cX (mh (ak.mk us d.ae d.aq d.a2 d.a4) AB J C E D F ([]) none 0 (by exact G) sm) (av (au (n:=us.length) 7 U sm)<|av (au (n:=d.ae.length) 5 U sm)<|av (au (n:=d.aq.length) 6 U sm)<|av (iu _ _)<|aw) U fun CS Ce=>?_
 obtain ⟨B8,B_⟩:=CS
 try dsimp only
 refine rP 1 [] mn ?_
 rw [P]
 refine aY 4 U<|RK BF<|aj fun _ BG=>WS fun _ BH=>aY 1 U<|rS (SX (ck (r:= .bool false) U U U eW) U U)<|aY 2 U<|rS (SX (ck (r:= .bool false) U U U eW) U U)<|aY 3 U<|rS (SX (ck (r:= .bool false) U U U eW) U U)<|aY 3 U<|rS (SX (ck (r:= .bool false) U U U eW) U U)<|aY 1 U<|RK BH<|bp U<|WK BG<|aj fun _ BK=>WS fun _ BL=>rP 3 [] mn ?_
 refine RK BL<|ax ?_
 have A:(0≤(dL (ak.mk us d.ae d.aq d.a2 d.a4) ([])).length):=by exact Nat.zero_le _
 refine bu (ι:={z:Nat // (z≤(dL (ak.mk us d.ae d.aq d.a2 d.a4) ([])).length)}) [5,19,21,23,25,169,170] [0,1,2,3,5,6,7,8,10,11,12,13] U U (fun z=>[(171,(vI (z.1:Int)))]) (fun z=>[]) (fun _=>rfl) (fun _=>rfl) (fun z=>(dL (ak.mk us d.ae d.aq d.a2 d.a4) ([])).length-z.1) ⟨0,A⟩ (a3 U) (aL [0,1,2,3,5,6,7,8,10,11,12,13]) ?_
 clear A
 rintro ⟨u,B5⟩ J82 b
 try dsimp only
 refine WS fun _ BN=>rP 1 [] mn ?_
 refine RK BN<|aj fun _ BO=>cG U (aR fun CC=>?_) (aS fun CC=>?_)
 ·refine WK BO<|aj fun _ BP=>ax<|WS fun _ BQ=>?_
  obtain ⟨x,hx⟩: ∃ y_,(dL (ak.mk us d.ae d.aq d.a2 d.a4) ([]))[u]? =some y_:=⟨(dL (ak.mk us d.ae d.aq d.a2 d.a4) ([]))[u]'I,du _⟩
  have CM:=bG iC hx
  refine rS (IA u U (au (n:=(dL (ak.mk us d.ae d.aq d.a2 d.a4) ([])).length) 2 U sm) cL dc I I)<|rS (g5 u 0 (vI x) U cA (au (n:=(dL (ak.mk us d.ae d.aq d.a2 d.a4) ([])).length) 2 U sm) CM U dc U)<|aY 1 U<|RK BQ<|WS fun _ BR=>aY 2 U<|rS (CL (wi (dL d ([])) B7 B9 x (by exact Nat.le_trans mD H.j7)) (av (au (n:=(dL d ([])).length) 3 U sm)<|aw) U)<|rP 1 [] mn ?_
  refine RK BR<|cG U (aX fun N=>?_) (aW fun N=>?_)
  ·exact absurd (qK B K _ (aI hx)) N
  refine cf<|aF<|KK BP<|ai<|rP 2 [] mn ?_
  refine aB ?_
  have Bv:(vI (((u+1):Nat):Int))=(vI ((u:Int)+1)):=by exact cI I
  refine aU (b ⟨(u+1),(by first|omega|(simp only []; omega))⟩ _ _ _ U os (bL 7<|aN U Bv<|cE.nil _) (aL [0,1,2,3,4,5,6,7,8,9,10,11]))
 refine bj<|ab<|ab<|ay<|KK BK<|aj fun _ BT=>WS fun _ BU=>rP 3 [] mn ?_
 refine RK BU<|ax ?_
 have A:(0≤(cC d ([])).length):=by exact Nat.zero_le _
 refine bu (ι:={z:Nat // (z≤(cC d ([])).length)}) [5,23,25,180,181] [0,1,2,3,4,5,6,7,8,9,10,11] U U (fun z=>[(182,(vI (z.1:Int)))]) (fun z=>[]) (fun _=>rfl) (fun _=>rfl) (fun z=>(cC d ([])).length-z.1) ⟨0,A⟩ (a3 U) (aL [0,1,2,3,4,5,6,7,8,9,10,11]) ?_
 clear A
 rintro ⟨v,B6⟩ J92 c
 try dsimp only
 refine WS fun _ BV=>rP 1 [] mn ?_
 refine RK BV<|aj fun _ BW=>bq U (aS fun CD=>?_) (aR fun CD=>?_)
 ·refine bj<|ab<|ab<|ay<|KK BT<|WS fun _ T=>rP 2 [] mn ?_
  refine RK T<|an ?_
  exact Q1 hQ U U U U
 refine WK BW<|aj fun _ BX=>ax<|WS fun _ BY=>?_
 obtain ⟨y,hy⟩: ∃ y_,(cC d ([]))[v]? =some y_:=⟨(cC d ([]))[v]'I,du _⟩
 have CN:=bG iC hy
 refine rS (IA v U (au (n:=(cC d ([])).length) 1 U sm) cL dc I I)<|rS (g5 v 0 (vI y) U cA (au (n:=(cC d ([])).length) 1 U sm) CN U dc U)<|aY 1 U<|RK BY<|WS fun _ BZ=>aY 2 U<|rS (CL (wi (cC (ak.mk us d.ae d.aq d.a2 d.a4) ([])) B8 B_ y (by exact Nat.le_trans ja G.ku)) (av (au (n:=(cC (ak.mk us d.ae d.aq d.a2 d.a4) ([])).length) 0 U sm)<|aw) U)<|rP 1 [] mn ?_
 refine RK BZ<|cG U (aX fun O=>?_) (aW fun O=>?_)
 ·exact absurd (oI B K _ (aI hy)) O
 refine cf<|aF<|KK BX<|ai<|rP 2 [] mn ?_
 refine aB ?_
 have Bw:(vI (((v+1):Nat):Int))=(vI ((v:Int)+1)):=by exact cI I
 refine aU (c ⟨(v+1),(by first|omega|(simp only []; omega))⟩ _ _ _ U os (bL 5<|aN U Bw<|cE.nil _) (aL [0,1,2,3,4,5,6,7,8,9,10,11]))
end
section
open Go.RowKit
def od {α:Type} (cells:α→List Value) (sz:Nat) (R:World→α→Prop) (w:World) (s:bB):Prop:= ∃ l:List α,s.n=l.length∧(rd s.a l.length sz (l.map cells)).holds w∧(∀ x∈l,R w x)∧l.length≤maxLen∧s.n≤s.c
theorem qv {w:World} {s:aZ} {R1:World→aa→Prop} {R2:World→aV→Prop} {R3:World→bc→Prop} (h1:od aa.cells 9 R1 w s.ag.fK) (hs: ∀ x,R1 w x→0≤x.cT∧x.cT≤255) (h2:od aV.cells 7 R2 w s.ae) (hp: ∀ x,R2 w x→0≤x.Kind∧x.Kind≤255) (h3:od bc.cells 3 R3 w s.aq) (hn: ∀ x,R3 w x→0≤x.Kind∧x.Kind≤255):
 ∃ (d:ak) (kA:OA) (kC:Nat) (pA:OA) (pC:Nat) (nA:OA) (nC:Nat),s=aZ.mk (ar.mk (bB.mk kA d.ag.length kC)) (bB.mk pA d.ae.length pC) (bB.mk nA d.aq.length nC) d.a2 d.a4∧fQ d∧
  ((rd kA d.ag.length 9 (d.ag.map aa.cells)).holds w∧(rd pA d.ae.length 7 (d.ae.map aV.cells)).holds w∧(rd nA d.aq.length 3 (d.aq.map bc.cells)).holds w)∧d.a2=s.a2∧d.a4=s.a4:=by
 obtain ⟨⟨⟨ka,kn,kc⟩⟩,⟨pa,pn,pc⟩,⟨na,nn,nc⟩,tw,ra⟩:=s
 obtain ⟨ts,C,J,K,L,O⟩:=h1
 obtain ⟨ps,B,G,H,AA,N⟩:=h2
 obtain ⟨ns,A,D,E,F,M⟩:=h3
 simp only at C B A
 subst C B A
 exact ⟨⟨ts,ps,ns,tw,ra⟩,ka,kc,pa,pc,na,nc,U,⟨L,fun x hx=>hs x (K x hx),AA,fun x hx=>hp x (H x hx),F,fun x hx=>hn x (E x hx)⟩,⟨J,G,D⟩,U,U⟩
end
section
open Go.ChangeShapes Go.WideShapes Go.ChangeAt Go.RowKit
theorem zI:Tryz.prog.cellsOf 32=7:=by kernel_rfl
theorem yH:Tryz.prog.cellsOf 24=1:=by kernel_rfl
theorem Aq:Tryz.prog.cellsOf 22=1:=by kernel_rfl
theorem za:Tryz.prog.cellsOf 85=9:=by kernel_rfl
theorem sO:Tryz.prog.cellsOf 3=1:=by kernel_rfl
def qQ (w:World) (n:Int):Prop:=oi n
theorem ss:m4 Tryz.prog 3 Int iC qQ:=xI mY
theorem sw:Tryz.prog.cellsOf 28=2:=by kernel_rfl
structure sQ (w:World) (s:al):Prop where
 Lo:qQ w s.Lo
 Hi:qQ w s.Hi
theorem Az:fL Tryz.prog 28=some [(3,0),(3,1)]:=by kernel_rfl
theorem tI:m4 Tryz.prog 28 al al.cells sQ:=fun {H} enc w base sp A fuel cs x h=>by
 obtain ⟨hl,hp⟩:=fW Az h
 obtain ⟨M,O,F⟩:=hp 0 3 0 rfl
 obtain ⟨K,B,AA⟩:=ss _ _ _ _ _ _ _ _ F
 obtain ⟨N,P,G⟩:=hp 1 3 1 rfl
 obtain ⟨L,C,J⟩:=ss _ _ _ _ _ _ _ _ G
 refine ⟨⟨K,L⟩,?_,⟨AA,J⟩⟩
 have E:=eE (hl.trans sw) (by rw [sO]) C
 have D:=cj B (m:=1) (by rw [sO]) E
 exact D
theorem zD:Tryz.prog.cellsOf 5=1:=by kernel_rfl
def yV (w:World) (n:Int):Prop:=0≤n∧n≤255
theorem zE:m4 Tryz.prog 5 Int uL yV:=zt sK
structure xh (w:World) (s:aa):Prop where
 Id:qQ w s.Id
 dj:sQ w s.dj
 di:sQ w s.di
 bJ:sQ w s.bJ
 cT:yV w s.cT
 iF:qQ w s.iF
theorem AO:fL Tryz.prog 85=some [(3,0),(28,1),(28,3),(28,5),(5,7),(3,8)]:=by kernel_rfl
theorem Ag:m4 Tryz.prog 85 aa aa.cells xh:=fun {H} enc w base sp A fuel cs x h=>by
 obtain ⟨hl,hp⟩:=fW AO h
 obtain ⟨g,o,O⟩:=hp 0 3 0 rfl
 obtain ⟨a,B,AA⟩:=ss _ _ _ _ _ _ _ _ O
 obtain ⟨i,p,P⟩:=hp 1 28 1 rfl
 obtain ⟨b,C,V⟩:=tI _ _ _ _ _ _ _ _ P
 obtain ⟨j,q,Q⟩:=hp 2 28 3 rfl
 obtain ⟨c,D,W⟩:=tI _ _ _ _ _ _ _ _ Q
 obtain ⟨k,r,R⟩:=hp 3 28 5 rfl
 obtain ⟨d,E,X⟩:=tI _ _ _ _ _ _ _ _ R
 obtain ⟨l,s,S⟩:=hp 4 5 7 rfl
 obtain ⟨e,F,Y⟩:=zE _ _ _ _ _ _ _ _ S
 obtain ⟨n,t,T⟩:=hp 5 3 8 rfl
 obtain ⟨f,G,Z⟩:=ss _ _ _ _ _ _ _ _ T
 refine ⟨⟨a,b,c,d,e,f⟩,?_,⟨AA,V,W,X,Y,Z⟩⟩
 have N:=eE (hl.trans za) (by rw [sO]) G
 have M:=cj F (m:=8) (by rw [zD]) N
 have L:=cj E (m:=7) (by rw [sw]) M
 have K:=cj D (m:=5) (by rw [sw]) L
 have J:=cj C (m:=3) (by rw [sw]) K
 have AB:=cj B (m:=1) (by rw [sO]) J
 exact AB
def yv (w:World) (s:bB):Prop:= ∃ l:List aa,s.n=l.length∧(rd s.a l.length 9 (l.map aa.cells)).holds w∧(∀ x∈l,xh w x)∧l.length≤maxLen∧s.n≤s.c
theorem AZ:m4 Tryz.prog 22 bB (fun s=>[vS s.a s.n s.c]) yv:=kf xb za Ag
structure zi (w:World) (s:ar):Prop where
 fK:yv w s.fK
theorem Af:fL Tryz.prog 24=some [(22,0)]:=by kernel_rfl
theorem AV:m4 Tryz.prog 24 ar ar.cells zi:=fun {H} enc w base sp A fuel cs x h=>by
 obtain ⟨hl,hp⟩:=fW Af h
 obtain ⟨G,AA,D⟩:=hp 0 22 0 rfl
 obtain ⟨F,B,E⟩:=AZ _ _ _ _ _ _ _ _ D
 refine ⟨⟨F⟩,?_,⟨E⟩⟩
 have C:=eE (hl.trans yH) (by rw [Aq]) B
 exact C
theorem Ah:Tryz.prog.cellsOf 25=1:=by kernel_rfl
theorem zp:Tryz.prog.cellsOf 70=7:=by kernel_rfl
theorem wU:Tryz.prog.cellsOf 30=3:=by kernel_rfl
structure xd (w:World) (s:aG):Prop where
 ao:qQ w s.ao
 gS:sQ w s.gS
theorem zS:fL Tryz.prog 30=some [(3,0),(28,1)]:=by kernel_rfl
theorem zc:m4 Tryz.prog 30 aG aG.cells xd:=fun {H} enc w base sp A fuel cs x h=>by
 obtain ⟨hl,hp⟩:=fW zS h
 obtain ⟨M,O,F⟩:=hp 0 3 0 rfl
 obtain ⟨K,B,AA⟩:=ss _ _ _ _ _ _ _ _ F
 obtain ⟨N,P,G⟩:=hp 1 28 1 rfl
 obtain ⟨L,C,J⟩:=tI _ _ _ _ _ _ _ _ G
 refine ⟨⟨K,L⟩,?_,⟨AA,J⟩⟩
 have E:=eE (hl.trans wU) (by rw [sw]) C
 have D:=cj B (m:=1) (by rw [sO]) E
 exact D
structure wN (w:World) (s:aV):Prop where
 Id:qQ w s.Id
 Kind:yV w s.Kind
 cp:xd w s.cp
 gL:qQ w s.gL
 jM:qQ w s.jM
theorem zK:fL Tryz.prog 70=some [(3,0),(5,1),(30,2),(3,5),(3,6)]:=by kernel_rfl
theorem AJ:m4 Tryz.prog 70 aV aV.cells wN:=fun {H} enc w base sp A fuel cs x h=>by
 obtain ⟨hl,hp⟩:=fW zK h
 obtain ⟨b,g,M⟩:=hp 0 3 0 rfl
 obtain ⟨W,B,R⟩:=ss _ _ _ _ _ _ _ _ M
 obtain ⟨c,i,N⟩:=hp 1 5 1 rfl
 obtain ⟨X,C,S⟩:=zE _ _ _ _ _ _ _ _ N
 obtain ⟨d,j,O⟩:=hp 2 30 2 rfl
 obtain ⟨Y,D,T⟩:=zc _ _ _ _ _ _ _ _ O
 obtain ⟨e,k,P⟩:=hp 3 3 5 rfl
 obtain ⟨Z,E,AA⟩:=ss _ _ _ _ _ _ _ _ P
 obtain ⟨f,l,Q⟩:=hp 4 3 6 rfl
 obtain ⟨a,F,V⟩:=ss _ _ _ _ _ _ _ _ Q
 refine ⟨⟨W,X,Y,Z,a⟩,?_,⟨R,S,T,AA,V⟩⟩
 have L:=eE (hl.trans zp) (by rw [sO]) F
 have K:=cj E (m:=6) (by rw [sO]) L
 have J:=cj D (m:=5) (by rw [wU]) K
 have AB:=cj C (m:=2) (by rw [zD]) J
 have G:=cj B (m:=1) (by rw [sO]) AB
 exact G
def yE (w:World) (s:bB):Prop:= ∃ l:List aV,s.n=l.length∧(rd s.a l.length 7 (l.map aV.cells)).holds w∧(∀ x∈l,wN w x)∧l.length≤maxLen∧s.n≤s.c
theorem z9:m4 Tryz.prog 25 bB (fun s=>[vS s.a s.n s.c]) yE:=kf Ay zp AJ
theorem AF:Tryz.prog.cellsOf 26=1:=by kernel_rfl
theorem yL:Tryz.prog.cellsOf 82=3:=by kernel_rfl
structure xc (w:World) (s:bc):Prop where
 ao:qQ w s.ao
 Kind:yV w s.Kind
 e9:qQ w s.e9
theorem AX:fL Tryz.prog 82=some [(3,0),(5,1),(3,2)]:=by kernel_rfl
theorem Aj:m4 Tryz.prog 82 bc bc.cells xc:=fun {H} enc w base sp A fuel cs x h=>by
 obtain ⟨hl,hp⟩:=fW AX h
 obtain ⟨R,AA,AB⟩:=hp 0 3 0 rfl
 obtain ⟨O,B,L⟩:=ss _ _ _ _ _ _ _ _ AB
 obtain ⟨S,V,J⟩:=hp 1 5 1 rfl
 obtain ⟨P,C,M⟩:=zE _ _ _ _ _ _ _ _ J
 obtain ⟨T,W,K⟩:=hp 2 3 2 rfl
 obtain ⟨Q,D,N⟩:=ss _ _ _ _ _ _ _ _ K
 refine ⟨⟨O,P,Q⟩,?_,⟨L,M,N⟩⟩
 have G:=eE (hl.trans yL) (by rw [sO]) D
 have F:=cj C (m:=2) (by rw [zD]) G
 have E:=cj B (m:=1) (by rw [sO]) F
 exact E
def yU (w:World) (s:bB):Prop:= ∃ l:List bc,s.n=l.length∧(rd s.a l.length 3 (l.map bc.cells)).holds w∧(∀ x∈l,xc w x)∧l.length≤maxLen∧s.n≤s.c
theorem A9:m4 Tryz.prog 26 bB (fun s=>[vS s.a s.n s.c]) yU:=kf zT yL Aj
structure AW (w:World) (s:aZ):Prop where
 ag:zi w s.ag
 ae:yE w s.ae
 aq:yU w s.aq
 a2:xd w s.a2
 a4:qQ w s.a4
theorem zd:fL Tryz.prog 32=some [(24,0),(25,1),(26,2),(30,3),(3,6)]:=by kernel_rfl
theorem AU:m4 Tryz.prog 32 aZ aZ.cells AW:=fun {H} enc w base sp A fuel cs x h=>by
 obtain ⟨hl,hp⟩:=fW zd h
 obtain ⟨b,g,M⟩:=hp 0 24 0 rfl
 obtain ⟨W,B,R⟩:=AV _ _ _ _ _ _ _ _ M
 obtain ⟨c,i,N⟩:=hp 1 25 1 rfl
 obtain ⟨X,C,S⟩:=z9 _ _ _ _ _ _ _ _ N
 obtain ⟨d,j,O⟩:=hp 2 26 2 rfl
 obtain ⟨Y,D,T⟩:=A9 _ _ _ _ _ _ _ _ O
 obtain ⟨e,k,P⟩:=hp 3 30 3 rfl
 obtain ⟨Z,E,AA⟩:=zc _ _ _ _ _ _ _ _ P
 obtain ⟨f,l,Q⟩:=hp 4 3 6 rfl
 obtain ⟨a,F,V⟩:=ss _ _ _ _ _ _ _ _ Q
 refine ⟨⟨W,X,Y,Z,a⟩,?_,⟨R,S,T,AA,V⟩⟩
 have L:=eE (hl.trans zI) (by rw [sO]) F
 have K:=cj E (m:=6) (by rw [wU]) L
 have J:=cj D (m:=3) (by rw [AF]) K
 have AB:=cj C (m:=2) (by rw [Ah]) J
 have G:=cj B (m:=1) (by rw [yH]) AB
 exact G
theorem yw:Tryz.prog.cellsOf 56=5:=by kernel_rfl
structure zf (w:World) (s:aH):Prop where
 Kind:yV w s.Kind
 bx:qQ w s.bx
 To:qQ w s.To
 bO:sQ w s.bO
theorem AK:fL Tryz.prog 56=some [(5,0),(3,1),(3,2),(28,3)]:=by kernel_rfl
theorem AI:m4 Tryz.prog 56 aH aH.cells zf:=fun {H} enc w base sp A fuel cs x h=>by
 obtain ⟨hl,hp⟩:=fW AK h
 obtain ⟨W,a,K⟩:=hp 0 5 0 rfl
 obtain ⟨S,B,O⟩:=zE _ _ _ _ _ _ _ _ K
 obtain ⟨X,b,L⟩:=hp 1 3 1 rfl
 obtain ⟨T,C,P⟩:=ss _ _ _ _ _ _ _ _ L
 obtain ⟨Y,c,M⟩:=hp 2 3 2 rfl
 obtain ⟨AA,D,Q⟩:=ss _ _ _ _ _ _ _ _ M
 obtain ⟨Z,d,N⟩:=hp 3 28 3 rfl
 obtain ⟨V,E,R⟩:=tI _ _ _ _ _ _ _ _ N
 refine ⟨⟨S,T,AA,V⟩,?_,⟨O,P,Q,R⟩⟩
 have J:=eE (hl.trans yw) (by rw [sw]) E
 have AB:=cj D (m:=3) (by rw [sO]) J
 have G:=cj C (m:=2) (by rw [sO]) AB
 have F:=cj B (m:=1) (by rw [zD]) G
 exact F
def zL (w:World) (s:bB):Prop:= ∃ l:List aH,s.n=l.length∧(rd s.a l.length 5 (l.map aH.cells)).holds w∧(∀ x∈l,zf w x)∧l.length≤maxLen∧s.n≤s.c
theorem AS:m4 Tryz.prog 33 bB (fun s=>[vS s.a s.n s.c]) zL:=kf zj yw AI
theorem mW:ownKnob Tryz.prog.godebug=none:=by kernel_rfl
theorem lJ:laidOutB Tryz.prog=true:=by kernel_rfl
theorem j_ (os:Os) (started:os.Started) (H:Type) (enc:TypeId×Value→H):
 ReturnsInHanded {} Tryz.checked os 3 .any (Rows.postNarrowSpec.pre6 enc Tryz.prog Tryz.f3 Rows.postNarrowRow.domain false) (Rows.postNarrowSpec.post enc Tryz.prog Tryz.f3 false true false false):=by
 refine returnsInHanded_of_change (C:=Tryz.checked) mW started kr Tryz.func3
  (ChangeSpec.witness6 (enc:=enc) (C:=Tryz.checked) false ⟨#[],#[.agg #[(vS none 0 0),(vS none 0 0),(vS none 0 0),(vI 0),(vI 0),(vI 0),(vI 0)],vS none 0 0],[]⟩ 8 kr kr kr kr) ?_
 intro W base args ds gs before G hW P _
 have B: ∀ (j:Nat) t v,Tryz.f3.params[j]? =some t→args[j]? =some v→Value.okWide Tryz.prog W .any base t v:=G
 have hW':=hW
 obtain ⟨p,q,M,hV,rfl,X,Y⟩:=hW
 have hA:DataW.TrodAll enc Tryz.prog W 0 (fun _=>true) true Tryz.f3.params.toList args.toList ds p:=M
 have AB:=hA
 rw [Tryz.params3] at hA B
 obtain ⟨Q,c,g,S,i,l,N,rfl,rfl,AA,Z⟩:=trodAll_cons hA
 obtain ⟨R,f,h,T,k,m,rfl,rfl,rfl,V,a⟩:=trodAll_cons Z
 obtain ⟨rfl,rfl,rfl⟩:=trodAll_nil a
 obtain rfl:args= #[Q,R]:=by cases args; simp_all
 obtain ⟨rfl,rfl⟩:=trodVars_none hV
 obtain ⟨n,rfl,R0⟩:=pS zd AU (B 0 32 Q rfl rfl) AA
 obtain ⟨b,rfl,R1⟩:=r6 AS zj (B 1 33 R rfl rfl) V
 simp only [List.append_nil] at hW' AB
 obtain ⟨d,kA,kC,pA,pC,nA,nC,rfl,K,F,_⟩:=qv (R1:=xh) (R2:=wN) (R3:=xc) R0.ag.fK (fun x hx=>hx.cT) R0.ae (fun x hx=>hx.Kind) R0.aq (fun x hx=>hx.Kind)
 obtain ⟨lA,ln,lC⟩:=b
 obtain ⟨ls,J,D,E,O⟩:=R1
 simp only at J D
 subst J
 have L:=(oc d kA kC pA pC nA nC ls lA lC K (fun x hx=>(E x hx).Kind)).run W (by intro A hA; simp only [bE,List.not_mem_nil,or_false] at hA; rcases hA with rfl|rfl|rfl|rfl; exact F.1; exact F.2.1; exact F.2.2; exact D)
 refine (L).mono fun e W' ⟨he,hk⟩=>?_
 subst he
 exact ⟨_,U,tY lJ hW' AB U U kr hk.below kr Bp⟩
/-- the statement -/
theorem postNarrow_said:Rows.PostNarrowSaid:=
 OpenClaim.holds_of_wide 3 Tryz.f3 rfl rfl rfl rfl rfl rfl rfl ⟨rfl,rfl,rfl,rfl,rfl⟩ rfl rfl rfl rfl rfl kr Tryz.func3 kr
  (of_decide_eq_true kr) (by unfold Func.isWrapper; first|(rw [if_pos (by decide+kernel)]; kernel_rfl)|(rw [if_neg (by decide+kernel)]; exact ⟨rfl,rfl⟩))
  (fun os started H enc _=>j_ os started H enc)
#print axioms postNarrow_said
end
end Go.Proofs.YtpfjokbjambohaaGreat
