/-
 The statement postNarrow_said, part 4 of 4: N3, N4, N6, GuardOpen, Narrow09.
 Conditions: none.
-/
import Derived.Test.YtpfjokbjambohaaGreatTz1
import Derived.Test.YtpfjokbjambohaaGreatTz2
import Derived.Test.YtpfjokbjambohaaGreatTz3
import Derived.Test.YtpfjokbjambohaaGreatRows
import Derived.Test.YtpfjokbjambohaaGreatProg
import Derived.KernelRfl
namespace Go.Proofs.YtpfjokbjambohaaGreat
set_option maxRecDepth 100000
set_option maxHeartbeats 4000000
set_option linter.unusedVariables false
section
open Go.RowKit
theorem xD (ts:List aa) (tsA:OA) (tsC gm:Nat) (ml:List (Int×aH)) (hst: ∀ x∈ts,aM x) (hl12:ts.length≤12) (hl1:1≤ts.length) (hmm: ∀ e∈ml,dF e.2 ts.length):
 jH Tryz.prog 27 [(vA (bQ.cells (bQ.mk (ar.mk (bB.mk tsA ts.length tsC))))),(Value.map (some gm))] [(rd tsA ts.length 9 (ts.map aa.cells)),(lY iV gm (dv (fun s=>vA (aH.cells s)) ml))] (fun (x:Bool×Int×(List aa)×(OA)×Nat)=>bif x.1 then (vT [(vA (ar.cells (ar.mk (bB.mk x.2.2.2.1 x.2.2.1.length x.2.2.2.2)))),(vB true)]) else (vT [(vA (ar.cells (ar.mk (bB.mk none 0 0)))),(vB false)])) (fun (x:Bool×Int×(List aa)×(OA)×Nat)=>(x.1=true→dT ts.length ts.length ts x.2.2.1)∧(x.1=false→(x.2.1=0∧True))) (fun (x:Bool×Int×(List aa)×(OA)×Nat)=>bif x.1 then [(own x.2.2.2.1 x.2.2.2.2 85 9 (x.2.2.1.map aa.cells))] else []):=by
 refine dh kr Tryz.func27 U U fun w0 Q hQ hN=>?_
 try dsimp only
 refine WS fun _ DR=>fN U fun b2=>AL U po fun b3=>aY 1 U<|RK DR<|WS fun _ DV=>rP 3 [] (mc 1 U mn) ?_
 refine cX (sW ts tsA tsC sd) (bg [2]) U fun y5 Dn=>?_
 obtain ⟨AA,Z⟩:=y5
 try dsimp only
 refine rS (SX (bl (xs:=[(0,.tmp 21)]) (cs:=(ar.cells (ar.mk (bB.mk AA ts.length Z)))) U U (bm rY U)) U U)<|AL U po fun b9=>gG U k6 U<|RK DV<|WS fun _ B9=>gS 5 [] (mc 0 U mn) U<|RK B9<|WS fun _ B_=>rS (CL uI (aw) U)<|AL U wy fun DL=>gG U wx U<|RK B_<|ai fun _ CA=>WS fun _ CB=>aY 1 U<|RK CB<|ay<|mA 3<|iA fun R15 C1=>ai fun _ CC=>WS fun _ CD=>rP 1 [] mn ?_
 refine rS (SX (cj (r:= .bool true) U U U nj) U U)<|RK CD<|aT U<|WK CC<|ai fun _ CE=>ay<|ai fun _ CF=>?_
 have C0:dT 0 0 ts ts:= .zero
 have Di:ts.length=ts.length:=C0.len
 refine aj ?_
 refine o2 U tR U (by rw [List.length_replicate]; decide) fun K=>?_
 refine RK CF<|ai fun _ CG=>WS fun _ CH=>rP 2 [] mn ?_
 refine RK CH<|ay ?_
 have A:(0≤(ts.length+1))∧(Wd (ts.length+1) 0 false ts (List.replicate 169 (0:Int))):=by exact ⟨Nat.zero_le _,.zero⟩
 refine bu (ι:={z:Nat×(List Int) // (z.1≤(ts.length+1))∧(Wd (ts.length+1) 0 false ts z.2)}) [1,4,6,7,8,9,10,32] [1,2,3,4,6,7] U U (fun z=>[(33,(vI (z.1.1:Int)))]) (fun z=>[(own (some ⟨K,0,none⟩) ((List.replicate 169 (0:Int)).length) 107 1 (z.1.2.map iC))]) (fun _=>rfl) (fun _=>rfl) (fun z=>(ts.length+1)-z.1.1) ⟨(0,(List.replicate 169 (0:Int))),A⟩ (a3 U) (aL [1,2,3,4,6,7,0]) ?_
 clear A
 rintro ⟨⟨i,M⟩,⟨T,H⟩⟩ J23 B5
 try dsimp only at T H
 try dsimp only
 refine WS fun _ CI=>rP 1 [] mn ?_
 refine RK CI<|ai fun _ CJ=>cG U (aS fun DM=>?_) (aR fun DM=>?_)
 ·refine WK CJ<|ai fun _ CK=>ay<|WS fun _ CM=>aY 2 U<|RK CM<|WS fun _ CN=>rP 2 [] mn ?_
  refine RK CN<|ay ?_
  have A:(0≤(ts.length+1))∧(Wd (ts.length+1) 0 false ts M):=by exact ⟨Nat.zero_le _,H⟩
  refine bu (ι:={z:Nat×(List Int) // (z.1≤(ts.length+1))∧(Wd (ts.length+1) 0 false ts z.2)}) [1,4,6,7,8,9,10,11,32,33,36] [0,1,2,3,4,5] U U (fun z=>[(37,(vI (z.1.1:Int)))]) (fun z=>[(own (some ⟨K,0,none⟩) ((List.replicate 169 (0:Int)).length) 107 1 (z.1.2.map iC))]) (fun _=>rfl) (fun _=>rfl) (fun z=>(ts.length+1)-z.1.1) ⟨(0,M),A⟩ (a3 U) (aL [0,1,2,3,4,5,6]) ?_
  clear A
  rintro ⟨⟨j,M2⟩,⟨O,C⟩⟩ J30 c
  try dsimp only at O C
  try dsimp only
  refine WS fun _ CO=>rP 1 [] mn ?_
  refine RK CO<|ai fun _ CP=>bq U (aR fun DN=>?_) (aS fun DN=>?_)
  ·refine bk<|ab<|ab<|ax<|aF<|KK CK<|aj<|rP 2 [] mn ?_
   refine aB ?_
   have C_:(vI (((i+1):Nat):Int))=(vI ((i:Int)+1)):=by exact cI I
   refine aU (B5 ⟨((i+1),M2),⟨I,C⟩⟩ _ _ _ U os (bL 8<|aN U C_<|cE.nil _) (aL [0,1,2,3,4,5,6]))
  refine WK CP<|ai fun _ p=>ay<|WS fun _ CQ=>aY 2 U<|RK CQ<|WS fun _ CR=>rP 3 [] mn ?_
  refine RK CR<|bq U (aW fun AC=>?_) (aX fun AC=>?_)
  ·refine cg<|aF<|KK p<|aj<|rP 2 [] mn ?_
   refine aB ?_
   have C9:(vI (((j+1):Nat):Int))=(vI ((j:Int)+1)):=by exact cI I
   refine aU (c ⟨((j+1),M2),⟨I,by first|exact C.fill I I I I dc|exact C⟩⟩ _ _ _ U os (bL 11<|aN U C9<|cE.nil _) (aL [0,1,2,3,4,5,6]))
  refine aj<|aY 2 U<|rS (SX (dN (k:=i) U U U eN I I) U U)<|rS (SX (dK (k:=j) (m':=((i*13+j)*1)) U U U eO I I I) U U)<|cw (k:=(i*13+j)) (o:=0) (vs:=[(vI 1073741824)]) (es':=(List.map iC (M2.set (i*13+j) 1073741824))) (C':=[_,_,_,_,_,_,(own (some ⟨K,0,none⟩) ((List.replicate 169 (0:Int)).length) 107 1 (List.map iC (M2.set (i*13+j) 1073741824)))]) 6 U U U qh U U U U (dk (i:=i) (k:=j) C.len I I) U dc (by exact (List.map_set (f:=iC) (l:=M2) (i:=(i*13+j)) (a:=1073741824)).symm) U<|aB<|aF<|KK p<|aj<|rP 2 [] mn ?_
  refine aB ?_
  have C8:(vI (((j+1):Nat):Int))=(vI ((j:Int)+1)):=by exact cI I
  refine aU (c ⟨((j+1),(M2.set (i*13+j) 1073741824)),⟨I,by first|exact C.fill I I I I dc|exact C⟩⟩ _ _ _ U os (bL 11<|aN U C8<|cE.nil _) (aL [0,1,2,3,4,5,6]))
 refine bk<|ab<|ab<|ax<|KK CG<|ai fun _ CS=>WS fun _ CT=>rP 4 [] (mc 1 U mn) ?_
 refine RK CT<|ay ?_
 have A:(0≤ts.length)∧(Wd (ts.length+1) 0 false ts M):=by exact ⟨Nat.zero_le _,H⟩
 refine bu (ι:={z:Nat×(List Int) // (z.1≤ts.length)∧(Wd (ts.length+1) z.1 false ts z.2)}) [1,4,6,7,8,9,10,51] [0,1,2,3,4,5] U U (fun z=>[(52,(vI (z.1.1:Int)))]) (fun z=>[(own (some ⟨K,0,none⟩) ((List.replicate 169 (0:Int)).length) 107 1 (z.1.2.map iC))]) (fun _=>rfl) (fun _=>rfl) (fun z=>ts.length-z.1.1) ⟨(0,M),A⟩ (a3 U) (aL [0,1,2,3,4,5,6]) ?_
 clear A
 rintro ⟨⟨t,M3⟩,⟨P,D⟩⟩ J42 B6
 try dsimp only at P D
 try dsimp only
 refine WS fun _ CU=>rP 1 [] mn ?_
 refine RK CU<|ai fun _ CV=>cG U (aS fun DO=>?_) (aR fun DO=>?_)
 ·refine WK CV<|ai fun _ CW=>ay<|WS fun _ CX=>rP 2 [] mn ?_
  refine RK CX<|ai fun _ CY=>?_
  refine ir 2 U (by simp; omega) (fun S G=>?_)
  obtain ⟨x,hx⟩:=bh ts t I
  have B1:=hst x (aI hx)
  simp only [aM,bf] at B1
  have Da:=bG aa.cells hx
  refine dY dw [11,12] [] [] [0,1,2,3,4,5,6] [] U U U U U<|eS U (MV U)<|eS U (SX (oa (k:=1) (o':=1) U U U q4 U dc U) U U)<|eS U (FA 1 U fZ U)<|eS U (L1 (Value.func (.func 75) [].toArray [].toArray) 0 U cz U U)<|eS U (FA 0 U fZ U)<|eS U (L1 (vS AA ts.length Z) 1 U cz U U)<|eS U (MV U)<|eS U (zG t U G kg I I)<|eS U (CL (rH AA S (t*9) (by exact G)) (aw) U)<|eS U (SX (gl U U G) U U)<|eS U (mY t 1 (al.cells x.di) U cz (au (n:=ts.length) 2 U sm) Da U dc U U)<|fx U<|bN U fun T49 C3=>AL U eG fun Dl=>aB (C3 _ _ (aL [1,2,3,4,5,6,7]) ?_)
  refine bN U fun T51 C4=>gG U dB U<|aB (C4 _ _ (aL [1,2,3,4,5,6,7]) ?_)
  refine fR U<|KK CY<|dY dw [13,15,16] [12] [] [0,1,2,3,4,5,6] [0,1,2,3,4,5,6,7] U U U U U<|eS U (MV U)<|eS U (MV U)<|eS U (BI U (jI ⟨I,I⟩))<|eS U (MV U)<|eS U (BI U (jI ⟨I,I⟩))<|eS U (MV U)<|eS U (FA 1 U fZ U)<|eS U (L1 (vI x.di.Hi) 0 U cz U U)<|eS U (FA 0 U fZ U)<|eS U (L1 (vI x.di.Lo) 0 U cz U U)<|eS U (NG U ⟨I,I⟩)<|eS U (SX (dN (k:=t) U U U eN I I) U U)<|fS U (SX (dK (k:=(t+1)) (m':=((t*13+(t+1))*1)) U U U eO I I I) U U)<|eS U (SX (dN (k:=(t+1)) U U U eN I I) U U)<|fx U<|bN U fun T52 C5=>cw (k:=(t*13+(t+1))) (o:=0) (vs:=[(vI x.di.Hi)]) (es':=(List.map iC (M3.set (t*13+(t+1)) x.di.Hi))) (C':=[_,_,_,_,_,_,_,(own (some ⟨K,0,none⟩) ((List.replicate 169 (0:Int)).length) 107 1 (List.map iC (M3.set (t*13+(t+1)) x.di.Hi)))]) 7 U U U qh U U U U (dk (i:=t) (k:=(t+1)) D.len I I) U dc (by exact (List.map_set (f:=iC) (l:=M3) (i:=(t*13+(t+1))) (a:=x.di.Hi)).symm) U<|aB (C5 _ _ (aL [0,1,2,3,4,5,6]) ?_)
  refine bN U fun T53 C6=>rS (SX (dK (k:=t) (m':=(((t+1)*13+t)*1)) U U U eO I I I) U U)<|aB (C6 _ _ (aL [0,1,2,3,4,5,6]) ?_)
  refine bN U fun T54 C7=>cw (k:=((t+1)*13+t)) (o:=0) (vs:=[(vI (-x.di.Lo))]) (es':=(List.map iC ((M3.set (t*13+(t+1)) x.di.Hi).set ((t+1)*13+t) (-x.di.Lo)))) (C':=[_,_,_,_,_,_,_,(own (some ⟨K,0,none⟩) ((List.replicate 169 (0:Int)).length) 107 1 (List.map iC ((M3.set (t*13+(t+1)) x.di.Hi).set ((t+1)*13+t) (-x.di.Lo))))]) 7 U U U qh U U U U (dk (i:=(t+1)) (k:=t) (jx D.len) I I) U dc (by exact (List.map_set (f:=iC) (l:=(M3.set (t*13+(t+1)) x.di.Hi)) (i:=((t+1)*13+t)) (a:=(-x.di.Lo))).symm) U<|aB (C7 _ _ (aL [0,1,2,3,4,5,6]) ?_)
  refine fR U<|aF<|KK CW<|aj<|rP 2 [] mn ?_
  refine aB ?_
  have DA:(vI (((t+1):Nat):Int))=(vI ((t:Int)+1)):=by exact cI I
  refine aU (B6 ⟨((t+1),((M3.set (t*13+(t+1)) x.di.Hi).set ((t+1)*13+t) (-x.di.Lo))),⟨I,D.q9 I I hx U U ⟨⟨I,I⟩,I,I⟩⟩⟩ _ _ _ U os (bL 8<|aN U DA<|cE.nil _) (aL [1,2,3,4,5,6,7]))
 refine bk<|ab<|ab<|ax<|KK CS<|ai fun _ CZ=>WS fun _ Ca=>rP 1 [] mn ?_
 refine my (kV:=iV) (m:=dv (fun s=>vA (aH.cells s)) ml) 5 U U wQ U ⟨U,fun h=>h⟩ (by exact n7 5 U) U fun Dc=>?_
 try dsimp only
 refine RK Ca<|ay ?_
 have A:(∀ e∈ml,e∈ml)∧(Wd (ts.length+1) ts.length false ts M3):=by exact ⟨fun _ h=>h,by have e:t=ts.length:=I; subst e; exact D⟩
 refine bu (ι:={z:(List (Int×aH))×(List Int) // (∀ e∈z.1,e∈ml)∧(Wd (ts.length+1) ts.length false ts z.2)}) [1,4,6,7,8,9,10,83] [1,2,3,4,5,6] U U (fun z=>[]) (fun z=>[(qM iV Dc gm (dv (fun s=>vA (aH.cells s)) ml) (dv (fun s=>vA (aH.cells s)) z.1.1) none),(own (some ⟨K,0,none⟩) ((List.replicate 169 (0:Int)).length) 107 1 (z.1.2.map iC))]) (fun _=>rfl) (fun _=>rfl) (fun z=>z.1.1.length) ⟨(ml,M3),A⟩ (cE.nil _) (aL [1,2,3,4,5,6,0,7]) ?_
 clear A
 rintro ⟨⟨left,M4⟩,⟨F,B⟩⟩ J59 d
 try dsimp only at F B
 try dsimp only
 refine WS fun _ v=>lk (g9 mZ).inj (f:=(fun s=>vA (aH.cells s))) 6 U U U U (fun DG=>?_) (fun q z hm DZ=>?_)
 rotate_left 1
 ·try dsimp only
  refine rP 1 [] mn ?_
  refine RK v<|ai fun _ BU=>aT U<|WK BU<|ay<|WS fun _ BV=>rS (SX (lD 6 U U U) U U) ?_
  have Bz:=hmm _ (F _ hm)
  simp only [dF,bf] at Bz
  refine aY 1 U<|AL U s8 fun Dg=>gG U tq U<|RK BV<|WS fun _ BW=>gS 2 [] (mc 0 U mn) U<|rS (SX (eK (m:=z.Kind) U U rW mZ (dq (by first|assumption|omega))) U U)<|rP 2 [] mn ?_
  refine RK BW<|bq U (aR fun V=>?_) (aS fun V=>?_)
  ·refine cg<|aF<|oh 7 U kJ U ?_
   refine aU (d ⟨((dJ left q),M4),⟨kq F,by first|exact B|exact (B.less I I I I I I U).less I I I I I I U⟩⟩ _ _ _ U (j8 hm) (a3 U) (aL [1,2,3,4,5,6,7,8]))
  refine ai fun _ BX=>eA dw 17 kr<|kX 8 [] (mc 0 U mn) U<|dS (SX (dN (k:=(z.bw).toNat) U U U eN I I) U U)<|dS (SX (dK (k:=(z.To).toNat) (m':=((((z.bw).toNat)*13+((z.To).toNat))*1)) U U U eO I I I) U U)<|dS (g5 (((z.bw).toNat)*13+((z.To).toNat)) 0 (vI (mt M4 ((z.bw).toNat) ((z.To).toNat))) U cz (au (n:=M4.length) 8 U sm) (dk (i:=(z.bw).toNat) (k:=(z.To).toNat) B.len I I) U dc U)<|kX 3 [] (mc 0 U mn) U<|dS (MN U)<|dS (SX (dN (k:=(z.bw).toNat) U U U eN I I) U U)<|dS (SX (dK (k:=(z.To).toNat) (m':=((((z.bw).toNat)*13+((z.To).toNat))*1)) U U U eO I I I) U U)<|cR<|cw (k:=(((z.bw).toNat)*13+((z.To).toNat))) (o:=0) (vs:=[(vI (min (mt M4 ((z.bw).toNat) ((z.To).toNat)) z.bO.Hi))]) (es':=(List.map iC (M4.set (((z.bw).toNat)*13+((z.To).toNat)) (min (mt M4 ((z.bw).toNat) ((z.To).toNat)) z.bO.Hi)))) (C':=[_,_,_,_,_,_,_,_,(own (some ⟨K,0,none⟩) ((List.replicate 169 (0:Int)).length) 107 1 (List.map iC (M4.set (((z.bw).toNat)*13+((z.To).toNat)) (min (mt M4 ((z.bw).toNat) ((z.To).toNat)) z.bO.Hi))))]) 8 U U U qh U U U U (dk (i:=(z.bw).toNat) (k:=(z.To).toNat) B.len I I) U dc (by exact (List.map_set (f:=iC) (l:=M4) (i:=(((z.bw).toNat)*13+((z.To).toNat))) (a:=(min (mt M4 ((z.bw).toNat) ((z.To).toNat)) z.bO.Hi))).symm) U<|RK BX<|eA dw 18 kr<|kX 8 [] (mc 0 U mn) U<|dS (SX (dN (k:=(z.To).toNat) U U U eN I I) U U)<|dS (SX (dK (k:=(z.bw).toNat) (m':=((((z.To).toNat)*13+((z.bw).toNat))*1)) U U U eO I I I) U U)<|dS (g5 (((z.To).toNat)*13+((z.bw).toNat)) 0 (vI (mt (M4.set (((z.bw).toNat)*13+((z.To).toNat)) (min (mt M4 ((z.bw).toNat) ((z.To).toNat)) z.bO.Hi)) ((z.To).toNat) ((z.bw).toNat))) U cz (au (n:=(M4.set (((z.bw).toNat)*13+((z.To).toNat)) (min (mt M4 ((z.bw).toNat) ((z.To).toNat)) z.bO.Hi)).length) 8 U sm) (dk (i:=(z.To).toNat) (k:=(z.bw).toNat) (jx B.len) I I) U dc U)<|dP 3 [] (mc 0 U mn) ?_
  refine dS (NG U ⟨I,I⟩)<|dS (MN U)<|dS (SX (dN (k:=(z.To).toNat) U U U eN I I) U U)<|dS (SX (dK (k:=(z.bw).toNat) (m':=((((z.To).toNat)*13+((z.bw).toNat))*1)) U U U eO I I I) U U)<|cR<|cw (k:=(((z.To).toNat)*13+((z.bw).toNat))) (o:=0) (vs:=[(vI (min (mt (M4.set (((z.bw).toNat)*13+((z.To).toNat)) (min (mt M4 ((z.bw).toNat) ((z.To).toNat)) z.bO.Hi)) ((z.To).toNat) ((z.bw).toNat)) (-z.bO.Lo)))]) (es':=(List.map iC ((M4.set (((z.bw).toNat)*13+((z.To).toNat)) (min (mt M4 ((z.bw).toNat) ((z.To).toNat)) z.bO.Hi)).set (((z.To).toNat)*13+((z.bw).toNat)) (min (mt (M4.set (((z.bw).toNat)*13+((z.To).toNat)) (min (mt M4 ((z.bw).toNat) ((z.To).toNat)) z.bO.Hi)) ((z.To).toNat) ((z.bw).toNat)) (-z.bO.Lo))))) (C':=[_,_,_,_,_,_,_,_,(own (some ⟨K,0,none⟩) ((List.replicate 169 (0:Int)).length) 107 1 (List.map iC ((M4.set (((z.bw).toNat)*13+((z.To).toNat)) (min (mt M4 ((z.bw).toNat) ((z.To).toNat)) z.bO.Hi)).set (((z.To).toNat)*13+((z.bw).toNat)) (min (mt (M4.set (((z.bw).toNat)*13+((z.To).toNat)) (min (mt M4 ((z.bw).toNat) ((z.To).toNat)) z.bO.Hi)) ((z.To).toNat) ((z.bw).toNat)) (-z.bO.Lo)))))]) 8 U U U qh U U U U (dk (i:=(z.To).toNat) (k:=(z.bw).toNat) (jx B.len) I I) U dc (by exact (List.map_set (f:=iC) (l:=(M4.set (((z.bw).toNat)*13+((z.To).toNat)) (min (mt M4 ((z.bw).toNat) ((z.To).toNat)) z.bO.Hi))) (i:=(((z.To).toNat)*13+((z.bw).toNat))) (a:=(min (mt (M4.set (((z.bw).toNat)*13+((z.To).toNat)) (min (mt M4 ((z.bw).toNat) ((z.To).toNat)) z.bO.Hi)) ((z.To).toNat) ((z.bw).toNat)) (-z.bO.Lo)))).symm) U<|aB<|aF<|oh 7 U kJ U ?_
  refine aU (d ⟨((dJ left q),((M4.set (((z.bw).toNat)*13+((z.To).toNat)) (min (mt M4 ((z.bw).toNat) ((z.To).toNat)) z.bO.Hi)).set (((z.To).toNat)*13+((z.bw).toNat)) (min (mt (M4.set (((z.bw).toNat)*13+((z.To).toNat)) (min (mt M4 ((z.bw).toNat) ((z.To).toNat)) z.bO.Hi)) ((z.To).toNat) ((z.bw).toNat)) (-z.bO.Lo)))),⟨kq F,by first|exact B|exact (B.less I I I I I I U).less I I I I I I U⟩⟩ _ _ _ U (j8 hm) (a3 U) (aL [1,2,3,4,5,6,7,8]))
 refine aY 1 U<|RK v<|ai fun _ Dh=>bp U<|bk<|ab<|ab<|ax<|KK CZ<|ai fun _ Cb=>WS fun _ Cc=>rP 1 [] mn ?_
 refine iB 7 U U U U (oy K ((List.replicate 169 (0:Int)).length) M4 (ts.length+1) I (by exact B.cl)) U jS U (fun Dd B0=>?_)
 obtain ⟨M9,Db⟩:=Dd
 try dsimp only
 refine rP 1 [] mn ?_
 refine RK Cc<|cG U (fun AB=>?_) (fun AB=>?_)
 ·rw [Bool.not_eq_true'] at AB
  refine WS fun _ Cd=>rS (SX (bl (xs:=[]) (cs:=(ar.cells (ar.mk (bB.mk none 0 0)))) U U (bm rY U)) U U)<|tL U k6 U<|rP 1 [] mn ?_
  refine RK Cd<|an ?_
  refine LX hQ (false,0,[],none,0) [] [0] (mc 3 U mn) U U U ?_ ?_
  ·first|rfl|(simp only [cond_true]; rw [b.len]; rfl)
  ·exact ⟨fun q=>Bool.noConfusion q,fun _=>⟨U,trivial⟩⟩
 rw [Bool.not_eq_false'] at AB
 refine WK Cb<|ai fun _ Ce=>?_
 have N:=B0 AB
 have J:nx (ts.length+1) false ts M9:=nx.of B N.1 N.2
 refine aj<|rP 4 [] (mc 1 U mn) ?_
 refine RK Ce<|ay ?_
 have A:(0≤ts.length)∧(dT 0 0 ts ts):=by exact ⟨Nat.zero_le _,C0⟩
 refine bu (ι:={z:Nat×(List aa) // (z.1≤ts.length)∧(dT z.1 0 ts z.2)}) [1,4,6,7,8,9,10,134] [0,1,3,4,5,6,7] U U (fun z=>[(135,(vI (z.1.1:Int)))]) (fun z=>[(own AA Z 85 9 (z.1.2.map aa.cells))]) (fun _=>rfl) (fun _=>rfl) (fun z=>ts.length-z.1.1) ⟨(0,ts),A⟩ (a3 U) (aL [0,1,3,4,5,6,7,2]) ?_
 clear A
 rintro ⟨⟨u,U1⟩,⟨R,E⟩⟩ J67 B7
 try dsimp only at R E
 try dsimp only
 refine WS fun _ Cf=>rP 1 [] mn ?_
 refine RK Cf<|ai fun _ Cg=>cG U (aS fun DP=>?_) (aR fun DP=>?_)
 ·refine WK Cg<|ai fun _ Ch=>ay<|WS fun _ Ci=>rP 2 [] mn ?_
  refine RK Ci ?_
  have DH:U1.length=ts.length:=E.len
  refine ir 7 U (by simp; omega) (fun S G=>?_)
  obtain ⟨x,hx⟩:=bh ts u I
  obtain ⟨y,hy⟩:=bh U1 u I
  have Y:=bG aa.cells hy
  have DY:=(show Cl (ts.length+1) (ts.length+1) M9 from N.1).wX I (show u<(ts.length+1) by omega) (show u+1<(ts.length+1) by omega)
  have DX:=(show Cl (ts.length+1) (ts.length+1) M9 from N.1).wX I (show u+1<(ts.length+1) by omega) (show u<(ts.length+1) by omega)
  refine eA dw 24 kr<|gf 1 U<|dS (SX (oa (k:=1) (o':=1) U U U q4 U dc U) U U)<|kX 5 [0,1] (mc 0 U (mc 1 U mn)) U<|dS (zG u U G kg I I)<|dS (CL (rH AA S (u*9) (by exact G)) (aw) U)<|gf 3 U<|dS (SX (dN (k:=(u+1)) U U U eN I I) U U)<|dS (SX (dK (k:=u) (m':=(((u+1)*13+u)*1)) U U U eO I I I) U U)<|dS (g5 ((u+1)*13+u) 0 (vI (mt M9 (u+1) u)) U cz (au (n:=M9.length) 6 U sm) (dk (i:=(u+1)) (k:=u) J.len I I) U dc U)<|dS (NG U ⟨I,I⟩)<|gf 3 U<|dS (SX (dN (k:=u) U U U eN I I) U U)<|dS (SX (dK (k:=(u+1)) (m':=((u*13+(u+1))*1)) U U U eO I I I) U U)<|dS (g5 (u*13+(u+1)) 0 (vI (mt M9 u (u+1))) U cz (au (n:=M9.length) 6 U sm) (dk (i:=u) (k:=(u+1)) J.len I I) U dc U)<|dS (SX (bl (xs:=[(0,.tmp 153),(1,.tmp 159)]) (cs:=(al.cells (al.mk (-(mt M9 (u+1) u)) (mt M9 u (u+1))))) U U (bm jD U)) U U)<|dS (SX (gl U U G) U U)<|cR<|cw (k:=u) (o:=1) (vs:=(al.cells (al.mk (-(mt M9 (u+1) u)) (mt M9 u (u+1))))) (es':=(List.map aa.cells (U1.set u (aa.mk y.Id (al.mk (-(mt M9 (u+1) u)) (mt M9 u (u+1))) y.dj y.bK y.cT y.ia)))) (C':=[_,_,_,_,_,_,_,(own AA Z 85 9 (List.map aa.cells (U1.set u (aa.mk y.Id (al.mk (-(mt M9 (u+1) u)) (mt M9 u (u+1))) y.dj y.bK y.cT y.ia))))]) 7 U U U dB U U U U Y U dc (by exact (List.map_set (f:=aa.cells) (l:=U1) (i:=u) (a:=(aa.mk y.Id (al.mk (-(mt M9 (u+1) u)) (mt M9 u (u+1))) y.dj y.bK y.cT y.ia))).symm) U<|aB<|aF<|KK Ch<|aj<|rP 2 [] mn ?_
  refine aB ?_
  have DB:(vI (((u+1):Nat):Int))=(vI ((u:Int)+1)):=by exact cI I
  refine aU (B7 ⟨((u+1),(U1.set u (aa.mk y.Id (al.mk (-(mt M9 (u+1) u)) (mt M9 u (u+1))) y.dj y.bK y.cT y.ia))),⟨I,E.A8 hx hy ⟨by have:=J.at_ u x hx I; simp only [jG,cond_false] at this; simp only; omega,by have:=J.at_ u x hx I; simp only; omega,by have:=J.at_ u x hx I; simp only [jG,cond_false] at this; simp only; omega⟩⟩⟩ _ _ _ U os (bL 8<|aN U DB<|cE.nil _) (aL [0,1,2,3,4,5,6,7]))
 refine bk<|ab<|ab<|ax<|aF<|KK CE ?_
 have BY:dT ts.length 0 ts U1:=by have e:u=ts.length:=I; rw [e] at E; exact E
 refine aj<|aY 1 U<|rS (SX (cj (r:= .int .i64 2) U U U (jI ⟨dc,dc⟩)) U U)<|aY 1 U<|RK C1<|iA fun R74 C2=>ai fun _ Cj=>WS fun _ Ck=>rP 1 [] mn ?_
 refine rS (SX (cj (r:= .bool true) U U U nj) U U)<|RK Ck<|aT U<|WK Cj<|ai fun _ Cm=>ay<|ai fun _ Cn=>yN (C':=[(cv DL 103 ((ed.cells (ed.mk Value.nilFunc))++(ed.cells (ed.mk (Value.func (.func 75) [].toArray [].toArray)))++(ed.cells (ed.mk (Value.func (.func 76) [].toArray [].toArray))))),(cv b9 24 (ar.cells (ar.mk (bB.mk AA ts.length Z)))),(cv b3 24 (ar.cells (ar.mk (bB.mk none 0 0)))),(rd tsA ts.length 9 (ts.map aa.cells)).ro,(lY iV gm (dv (fun s=>vA (aH.cells s)) ml)).ro,(own AA Z 85 9 (U1.map aa.cells))]) [0,1,2,3,4,7] U U ?_
 have Dj:U1.length=ts.length:=BY.len
 refine aj ?_
 refine o2 U tR U (by rw [List.length_replicate]; decide) fun L=>?_
 refine RK Cn<|ai fun _ Co=>WS fun _ Cp=>rP 2 [] mn ?_
 refine RK Cp<|ay ?_
 have A:(0≤(ts.length+1))∧(Wd (ts.length+1) 0 true ts (List.replicate 169 (0:Int))):=by exact ⟨Nat.zero_le _,.zero⟩
 refine bu (ι:={z:Nat×(List Int) // (z.1≤(ts.length+1))∧(Wd (ts.length+1) 0 true ts z.2)}) [1,4,6,7,8,9,10,32] [1,2,3,4,5,6] U U (fun z=>[(33,(vI (z.1.1:Int)))]) (fun z=>[(own (some ⟨L,0,none⟩) ((List.replicate 169 (0:Int)).length) 107 1 (z.1.2.map iC))]) (fun _=>rfl) (fun _=>rfl) (fun z=>(ts.length+1)-z.1.1) ⟨(0,(List.replicate 169 (0:Int))),A⟩ (a3 U) (aL [1,2,3,4,5,6,0]) ?_
 clear A
 rintro ⟨⟨i,M⟩,⟨T,H⟩⟩ J82 B8
 try dsimp only at T H
 try dsimp only
 refine WS fun _ Cq=>rP 1 [] mn ?_
 refine RK Cq<|ai fun _ Cr=>cG U (aS fun DQ=>?_) (aR fun DQ=>?_)
 ·refine WK Cr<|ai fun _ Cs=>ay<|WS fun _ Ct=>aY 2 U<|RK Ct<|WS fun _ Cu=>rP 2 [] mn ?_
  refine RK Cu<|ay ?_
  have A:(0≤(ts.length+1))∧(Wd (ts.length+1) 0 true ts M):=by exact ⟨Nat.zero_le _,H⟩
  refine bu (ι:={z:Nat×(List Int) // (z.1≤(ts.length+1))∧(Wd (ts.length+1) 0 true ts z.2)}) [1,4,6,7,8,9,10,11,32,33,36] [0,1,2,3,4,5] U U (fun z=>[(37,(vI (z.1.1:Int)))]) (fun z=>[(own (some ⟨L,0,none⟩) ((List.replicate 169 (0:Int)).length) 107 1 (z.1.2.map iC))]) (fun _=>rfl) (fun _=>rfl) (fun z=>(ts.length+1)-z.1.1) ⟨(0,M),A⟩ (a3 U) (aL [0,1,2,3,4,5,6]) ?_
  clear A
  rintro ⟨⟨j,M2⟩,⟨O,C⟩⟩ J89 g
  try dsimp only at O C
  try dsimp only
  refine WS fun _ Cv=>rP 1 [] mn ?_
  refine RK Cv<|ai fun _ Cw=>bq U (aR fun V=>?_) (aS fun V=>?_)
  ·refine bk<|ab<|ab<|ax<|aF<|KK Cs<|aj<|rP 2 [] mn ?_
   refine aB ?_
   have DE:(vI (((i+1):Nat):Int))=(vI ((i:Int)+1)):=by exact cI I
   refine aU (B8 ⟨((i+1),M2),⟨I,C⟩⟩ _ _ _ U os (bL 8<|aN U DE<|cE.nil _) (aL [0,1,2,3,4,5,6]))
  refine WK Cw<|ai fun _ w=>ay<|WS fun _ Cx=>aY 2 U<|RK Cx<|WS fun _ Cy=>rP 3 [] mn ?_
  refine RK Cy<|bq U (aW fun AC=>?_) (aX fun AC=>?_)
  ·refine cg<|aF<|KK w<|aj<|rP 2 [] mn ?_
   refine aB ?_
   have DD:(vI (((j+1):Nat):Int))=(vI ((j:Int)+1)):=by exact cI I
   refine aU (g ⟨((j+1),M2),⟨I,by first|exact C.fill I I I I dc|exact C⟩⟩ _ _ _ U os (bL 11<|aN U DD<|cE.nil _) (aL [0,1,2,3,4,5,6]))
  refine aj<|aY 2 U<|rS (SX (dN (k:=i) U U U eN I I) U U)<|rS (SX (dK (k:=j) (m':=((i*13+j)*1)) U U U eO I I I) U U)<|cw (k:=(i*13+j)) (o:=0) (vs:=[(vI 1073741824)]) (es':=(List.map iC (M2.set (i*13+j) 1073741824))) (C':=[_,_,_,_,_,_,(own (some ⟨L,0,none⟩) ((List.replicate 169 (0:Int)).length) 107 1 (List.map iC (M2.set (i*13+j) 1073741824)))]) 6 U U U qh U U U U (dk (i:=i) (k:=j) C.len I I) U dc (by exact (List.map_set (f:=iC) (l:=M2) (i:=(i*13+j)) (a:=1073741824)).symm) U<|aB<|aF<|KK w<|aj<|rP 2 [] mn ?_
  refine aB ?_
  have DC:(vI (((j+1):Nat):Int))=(vI ((j:Int)+1)):=by exact cI I
  refine aU (g ⟨((j+1),(M2.set (i*13+j) 1073741824)),⟨I,by first|exact C.fill I I I I dc|exact C⟩⟩ _ _ _ U os (bL 11<|aN U DC<|cE.nil _) (aL [0,1,2,3,4,5,6]))
 refine bk<|ab<|ab<|ax<|KK Co<|ai fun _ Cz=>WS fun _ A2=>rP 4 [] (mc 1 U mn) ?_
 refine RK A2<|ay ?_
 have A:(0≤U1.length)∧(Wd (ts.length+1) 0 true ts M):=by exact ⟨Nat.zero_le _,H⟩
 refine bu (ι:={z:Nat×(List Int) // (z.1≤U1.length)∧(Wd (ts.length+1) z.1 true ts z.2)}) [1,4,6,7,8,9,10,51] [0,1,2,3,4,5] U U (fun z=>[(52,(vI (z.1.1:Int)))]) (fun z=>[(own (some ⟨L,0,none⟩) ((List.replicate 169 (0:Int)).length) 107 1 (z.1.2.map iC))]) (fun _=>rfl) (fun _=>rfl) (fun z=>U1.length-z.1.1) ⟨(0,M),A⟩ (a3 U) (aL [0,1,2,3,4,5,6]) ?_
 clear A
 rintro ⟨⟨t,M3⟩,⟨P,D⟩⟩ J101 A0
 try dsimp only at P D
 try dsimp only
 refine WS fun _ A3=>rP 1 [] mn ?_
 refine RK A3<|ai fun _ A4=>cG U (aS fun B3=>?_) (aR fun B3=>?_)
 ·refine WK A4<|ai fun _ A5=>ay<|WS fun _ A6=>rP 2 [] mn ?_
  refine RK A6<|ai fun _ A7=>?_
  refine ir 5 U (by simp; omega) (fun S G=>?_)
  obtain ⟨x,hx⟩:=bh ts t I
  have B1:=hst x (aI hx)
  simp only [aM,bf] at B1
  obtain ⟨y,hy⟩:=bh U1 t I
  have Y:=bG aa.cells hy
  have B2:y.dj=x.dj:=by have:=(BY.at_ t x y hx hy).2.2; rw [if_neg (Nat.not_lt_zero _)] at this; exact this
  have Do:(0≤y.dj.Lo∧y.dj.Lo≤5000)∧0≤y.dj.Hi∧y.dj.Hi≤5000:=by rw [B2]; omega
  refine dY dw [11,12] [] [] [0,1,2,3,4,5,6] [] U U U U U<|eS U (MV U)<|eS U (SX (oa (k:=2) (o':=2) U U U q4 U dc U) U U)<|eS U (FA 2 U fZ U)<|eS U (L1 (Value.func (.func 76) [].toArray [].toArray) 0 U cz U U)<|eS U (FA 0 U fZ U)<|eS U (L1 (vS AA ts.length Z) 1 U cz U U)<|eS U (MV U)<|eS U (zG t U G kg I I)<|eS U (CL (rq AA S (t*9) (by exact G)) (aw) U)<|eS U (SX (gl U U G) U U)<|eS U (mY t 3 (al.cells y.dj) U cz (au (n:=U1.length) 5 U sm) Y U dc U U)<|fx U<|bN U fun T108 BZ=>AL U eG fun De=>aB (BZ _ _ (aL [1,2,3,4,5,6,7]) ?_)
  refine bN U fun T110 Bs=>gG U dB U<|aB (Bs _ _ (aL [1,2,3,4,5,6,7]) ?_)
  refine fR U<|KK A7<|dY dw [13,15,16] [12] [] [0,1,2,3,4,5,6] [0,1,2,3,4,5,6,7] U U U U U<|eS U (MV U)<|eS U (MV U)<|eS U (BI U (jI ⟨I,I⟩))<|eS U (MV U)<|eS U (BI U (jI ⟨I,I⟩))<|eS U (MV U)<|eS U (FA 1 U fZ U)<|eS U (L1 (vI y.dj.Hi) 0 U cz U U)<|eS U (FA 0 U fZ U)<|eS U (L1 (vI y.dj.Lo) 0 U cz U U)<|eS U (NG U ⟨I,I⟩)<|eS U (SX (dN (k:=t) U U U eN I I) U U)<|fS U (SX (dK (k:=(t+1)) (m':=((t*13+(t+1))*1)) U U U eO I I I) U U)<|eS U (SX (dN (k:=(t+1)) U U U eN I I) U U)<|fx U<|bN U fun T111 Bu=>cw (k:=(t*13+(t+1))) (o:=0) (vs:=[(vI y.dj.Hi)]) (es':=(List.map iC (M3.set (t*13+(t+1)) y.dj.Hi))) (C':=[_,_,_,_,_,_,_,(own (some ⟨L,0,none⟩) ((List.replicate 169 (0:Int)).length) 107 1 (List.map iC (M3.set (t*13+(t+1)) y.dj.Hi)))]) 7 U U U qh U U U U (dk (i:=t) (k:=(t+1)) D.len I I) U dc (by exact (List.map_set (f:=iC) (l:=M3) (i:=(t*13+(t+1))) (a:=y.dj.Hi)).symm) U<|aB (Bu _ _ (aL [0,1,2,3,4,5,6]) ?_)
  refine bN U fun T112 Bv=>rS (SX (dK (k:=t) (m':=(((t+1)*13+t)*1)) U U U eO I I I) U U)<|aB (Bv _ _ (aL [0,1,2,3,4,5,6]) ?_)
  refine bN U fun T113 Bw=>cw (k:=((t+1)*13+t)) (o:=0) (vs:=[(vI (-y.dj.Lo))]) (es':=(List.map iC ((M3.set (t*13+(t+1)) y.dj.Hi).set ((t+1)*13+t) (-y.dj.Lo)))) (C':=[_,_,_,_,_,_,_,(own (some ⟨L,0,none⟩) ((List.replicate 169 (0:Int)).length) 107 1 (List.map iC ((M3.set (t*13+(t+1)) y.dj.Hi).set ((t+1)*13+t) (-y.dj.Lo))))]) 7 U U U qh U U U U (dk (i:=(t+1)) (k:=t) (jx D.len) I I) U dc (by exact (List.map_set (f:=iC) (l:=(M3.set (t*13+(t+1)) y.dj.Hi)) (i:=((t+1)*13+t)) (a:=(-y.dj.Lo))).symm) U<|aB (Bw _ _ (aL [0,1,2,3,4,5,6]) ?_)
  refine fR U<|aF<|KK A5<|aj<|rP 2 [] mn ?_
  refine aB ?_
  have Bx:(vI (((t+1):Nat):Int))=(vI ((t:Int)+1)):=by exact cI I
  refine aU (A0 ⟨((t+1),((M3.set (t*13+(t+1)) y.dj.Hi).set ((t+1)*13+t) (-y.dj.Lo))),⟨I,D.q9 I I hx (by show _=x.dj.Hi; rw [B2]) (by show _= -x.dj.Lo; rw [B2]) ⟨⟨I,I⟩,I,I⟩⟩⟩ _ _ _ U os (bL 8<|aN U Bx<|cE.nil _) (aL [1,2,3,4,5,6,7]))
 refine bk<|ab<|ab<|ax<|KK Cz<|ai fun _ BB=>WS fun _ BC=>rP 1 [] mn ?_
 refine my (kV:=iV) (m:=dv (fun s=>vA (aH.cells s)) ml) 4 U U wQ U ⟨U,fun h=>h⟩ (by exact n7 4 U) U fun DI=>?_
 try dsimp only
 refine RK BC<|ay ?_
 have A:(∀ e∈ml,e∈ml)∧(Wd (ts.length+1) ts.length true ts M3):=by exact ⟨fun _ h=>h,by have e:t=ts.length:=I; subst e; exact D⟩
 refine bu (ι:={z:(List (Int×aH))×(List Int) // (∀ e∈z.1,e∈ml)∧(Wd (ts.length+1) ts.length true ts z.2)}) [1,4,6,7,8,9,10,83] [1,2,3,4,5,6] U U (fun z=>[]) (fun z=>[(qM iV DI gm (dv (fun s=>vA (aH.cells s)) ml) (dv (fun s=>vA (aH.cells s)) z.1.1) none),(own (some ⟨L,0,none⟩) ((List.replicate 169 (0:Int)).length) 107 1 (z.1.2.map iC))]) (fun _=>rfl) (fun _=>rfl) (fun z=>z.1.1.length) ⟨(ml,M3),A⟩ (cE.nil _) (aL [1,2,3,4,5,6,0,7]) ?_
 clear A
 rintro ⟨⟨left,M4⟩,⟨F,B⟩⟩ J118 W
 try dsimp only at F B
 try dsimp only
 refine WS fun _ X=>lk (g9 mZ).inj (f:=(fun s=>vA (aH.cells s))) 6 U U U U (fun DG=>?_) (fun q z hm DZ=>?_)
 rotate_left 1
 ·try dsimp only
  refine rP 1 [] mn ?_
  refine RK X<|ai fun _ BP=>aT U<|WK BP<|ay<|WS fun _ BQ=>rS (SX (lD 6 U U U) U U) ?_
  have Bz:=hmm _ (F _ hm)
  simp only [dF,bf] at Bz
  refine aY 1 U<|AL U s8 fun Df=>gG U tq U<|RK BQ<|WS fun _ BR=>gS 2 [] (mc 0 U mn) U<|rS (SX (eK (m:=z.Kind) U U rW mZ (dq (by first|assumption|omega))) U U)<|rP 2 [] mn ?_
  refine RK BR<|bq U (aR fun V=>?_) (aS fun V=>?_)
  ·refine cg<|aF<|oh 7 U kJ U ?_
   refine aU (W ⟨((dJ left q),M4),⟨kq F,by first|exact B|exact (B.less I I I I I I U).less I I I I I I U⟩⟩ _ _ _ U (j8 hm) (a3 U) (aL [1,2,3,4,5,6,7,8]))
  refine ai fun _ BT=>eA dw 17 kr<|kX 8 [] (mc 0 U mn) U<|dS (SX (dN (k:=(z.bw).toNat) U U U eN I I) U U)<|dS (SX (dK (k:=(z.To).toNat) (m':=((((z.bw).toNat)*13+((z.To).toNat))*1)) U U U eO I I I) U U)<|dS (g5 (((z.bw).toNat)*13+((z.To).toNat)) 0 (vI (mt M4 ((z.bw).toNat) ((z.To).toNat))) U cz (au (n:=M4.length) 8 U sm) (dk (i:=(z.bw).toNat) (k:=(z.To).toNat) B.len I I) U dc U)<|kX 3 [] (mc 0 U mn) U<|dS (MN U)<|dS (SX (dN (k:=(z.bw).toNat) U U U eN I I) U U)<|dS (SX (dK (k:=(z.To).toNat) (m':=((((z.bw).toNat)*13+((z.To).toNat))*1)) U U U eO I I I) U U)<|cR<|cw (k:=(((z.bw).toNat)*13+((z.To).toNat))) (o:=0) (vs:=[(vI (min (mt M4 ((z.bw).toNat) ((z.To).toNat)) z.bO.Hi))]) (es':=(List.map iC (M4.set (((z.bw).toNat)*13+((z.To).toNat)) (min (mt M4 ((z.bw).toNat) ((z.To).toNat)) z.bO.Hi)))) (C':=[_,_,_,_,_,_,_,_,(own (some ⟨L,0,none⟩) ((List.replicate 169 (0:Int)).length) 107 1 (List.map iC (M4.set (((z.bw).toNat)*13+((z.To).toNat)) (min (mt M4 ((z.bw).toNat) ((z.To).toNat)) z.bO.Hi))))]) 8 U U U qh U U U U (dk (i:=(z.bw).toNat) (k:=(z.To).toNat) B.len I I) U dc (by exact (List.map_set (f:=iC) (l:=M4) (i:=(((z.bw).toNat)*13+((z.To).toNat))) (a:=(min (mt M4 ((z.bw).toNat) ((z.To).toNat)) z.bO.Hi))).symm) U<|RK BT<|eA dw 18 kr<|kX 8 [] (mc 0 U mn) U<|dS (SX (dN (k:=(z.To).toNat) U U U eN I I) U U)<|dS (SX (dK (k:=(z.bw).toNat) (m':=((((z.To).toNat)*13+((z.bw).toNat))*1)) U U U eO I I I) U U)<|dS (g5 (((z.To).toNat)*13+((z.bw).toNat)) 0 (vI (mt (M4.set (((z.bw).toNat)*13+((z.To).toNat)) (min (mt M4 ((z.bw).toNat) ((z.To).toNat)) z.bO.Hi)) ((z.To).toNat) ((z.bw).toNat))) U cz (au (n:=(M4.set (((z.bw).toNat)*13+((z.To).toNat)) (min (mt M4 ((z.bw).toNat) ((z.To).toNat)) z.bO.Hi)).length) 8 U sm) (dk (i:=(z.To).toNat) (k:=(z.bw).toNat) (jx B.len) I I) U dc U)<|dP 3 [] (mc 0 U mn) ?_
  refine dS (NG U ⟨I,I⟩)<|dS (MN U)<|dS (SX (dN (k:=(z.To).toNat) U U U eN I I) U U)<|dS (SX (dK (k:=(z.bw).toNat) (m':=((((z.To).toNat)*13+((z.bw).toNat))*1)) U U U eO I I I) U U)<|cR<|cw (k:=(((z.To).toNat)*13+((z.bw).toNat))) (o:=0) (vs:=[(vI (min (mt (M4.set (((z.bw).toNat)*13+((z.To).toNat)) (min (mt M4 ((z.bw).toNat) ((z.To).toNat)) z.bO.Hi)) ((z.To).toNat) ((z.bw).toNat)) (-z.bO.Lo)))]) (es':=(List.map iC ((M4.set (((z.bw).toNat)*13+((z.To).toNat)) (min (mt M4 ((z.bw).toNat) ((z.To).toNat)) z.bO.Hi)).set (((z.To).toNat)*13+((z.bw).toNat)) (min (mt (M4.set (((z.bw).toNat)*13+((z.To).toNat)) (min (mt M4 ((z.bw).toNat) ((z.To).toNat)) z.bO.Hi)) ((z.To).toNat) ((z.bw).toNat)) (-z.bO.Lo))))) (C':=[_,_,_,_,_,_,_,_,(own (some ⟨L,0,none⟩) ((List.replicate 169 (0:Int)).length) 107 1 (List.map iC ((M4.set (((z.bw).toNat)*13+((z.To).toNat)) (min (mt M4 ((z.bw).toNat) ((z.To).toNat)) z.bO.Hi)).set (((z.To).toNat)*13+((z.bw).toNat)) (min (mt (M4.set (((z.bw).toNat)*13+((z.To).toNat)) (min (mt M4 ((z.bw).toNat) ((z.To).toNat)) z.bO.Hi)) ((z.To).toNat) ((z.bw).toNat)) (-z.bO.Lo)))))]) 8 U U U qh U U U U (dk (i:=(z.To).toNat) (k:=(z.bw).toNat) (jx B.len) I I) U dc (by exact (List.map_set (f:=iC) (l:=(M4.set (((z.bw).toNat)*13+((z.To).toNat)) (min (mt M4 ((z.bw).toNat) ((z.To).toNat)) z.bO.Hi))) (i:=(((z.To).toNat)*13+((z.bw).toNat))) (a:=(min (mt (M4.set (((z.bw).toNat)*13+((z.To).toNat)) (min (mt M4 ((z.bw).toNat) ((z.To).toNat)) z.bO.Hi)) ((z.To).toNat) ((z.bw).toNat)) (-z.bO.Lo)))).symm) U<|aB<|aF<|oh 7 U kJ U ?_
  refine aU (W ⟨((dJ left q),((M4.set (((z.bw).toNat)*13+((z.To).toNat)) (min (mt M4 ((z.bw).toNat) ((z.To).toNat)) z.bO.Hi)).set (((z.To).toNat)*13+((z.bw).toNat)) (min (mt (M4.set (((z.bw).toNat)*13+((z.To).toNat)) (min (mt M4 ((z.bw).toNat) ((z.To).toNat)) z.bO.Hi)) ((z.To).toNat) ((z.bw).toNat)) (-z.bO.Lo)))),⟨kq F,by first|exact B|exact (B.less I I I I I I U).less I I I I I I U⟩⟩ _ _ _ U (j8 hm) (a3 U) (aL [1,2,3,4,5,6,7,8]))
 refine aY 1 U<|RK X<|ai fun _ DS=>bp U<|bk<|ab<|ab<|ax<|KK BB<|ai fun _ BD=>WS fun _ BE=>rP 1 [] mn ?_
 refine iB 7 U U U U (oy L ((List.replicate 169 (0:Int)).length) M4 (ts.length+1) I (by exact B.cl)) U jS U (fun DK B0=>?_)
 obtain ⟨M9,Db⟩:=DK
 try dsimp only
 refine rP 1 [] mn ?_
 refine RK BE<|cG U (fun AB=>?_) (fun AB=>?_)
 ·rw [Bool.not_eq_true'] at AB
  refine WS fun _ BF=>rS (SX (bl (xs:=[]) (cs:=(ar.cells (ar.mk (bB.mk none 0 0)))) U U (bm rY U)) U U)<|u1 U k6 U<|rP 1 [] mn ?_
  refine RK BF<|an ?_
  refine LX hQ (false,0,[],none,0) [] [0] (mc 2 U mn) U U U ?_ ?_
  ·first|rfl|(simp only [cond_true]; rw [b.len]; rfl)
  ·exact ⟨fun q=>Bool.noConfusion q,fun _=>⟨U,trivial⟩⟩
 rw [Bool.not_eq_false'] at AB
 refine WK BD<|ai fun _ BG=>?_
 have N:=B0 AB
 have J:nx (ts.length+1) true ts M9:=nx.of B N.1 N.2
 refine aj<|rP 4 [] (mc 1 U mn) ?_
 refine RK BG<|ay ?_
 have A:(0≤ts.length)∧(dT ts.length 0 ts U1):=by exact ⟨Nat.zero_le _,BY⟩
 refine bu (ι:={z:Nat×(List aa) // (z.1≤ts.length)∧(dT ts.length z.1 ts z.2)}) [1,4,6,7,8,9,10,134] [0,1,2,3,4,6,7] U U (fun z=>[(135,(vI (z.1.1:Int)))]) (fun z=>[(own AA Z 85 9 (z.1.2.map aa.cells))]) (fun _=>rfl) (fun _=>rfl) (fun z=>ts.length-z.1.1) ⟨(0,U1),A⟩ (a3 U) (aL [0,1,2,3,4,6,7,5]) ?_
 clear A
 rintro ⟨⟨u,U2⟩,⟨R,E⟩⟩ J126 A1
 try dsimp only at R E
 try dsimp only
 refine WS fun _ BH=>rP 1 [] mn ?_
 refine RK BH<|ai fun _ BJ=>bq U (aR fun B4=>?_) (aS fun B4=>?_)
 ·refine bk<|ab<|ab<|ax<|aF<|KK Cm ?_
  have b:dT ts.length ts.length ts U2:=by have e:u=ts.length:=I; rw [e] at E; exact E
  refine aj<|aY 1 U<|rS (SX (cj (r:= .int .i64 3) U U U (jI ⟨dc,dc⟩)) U U)<|aY 1 U<|RK C2<|iA fun R133 DW=>ai fun _ DU=>WS fun _ BN=>aY 1 U<|rS (SX (cj (r:= .bool false) U U U nj) U U)<|RK BN<|bp U<|bk<|ab<|ab<|ax<|KK CA<|WS fun _ BO=>gS 1 [] (mc 1 U mn) U<|u1 U k6 U<|rP 1 [] mn ?_
  refine RK BO<|an ?_
  refine LX hQ (true,0,U2,AA,Z) [7] [0] (mc 2 U mn) U U U ?_ ?_
  ·first|rfl|(simp only [cond_true]; rw [b.len]; rfl)
  ·exact ⟨fun _=>b,fun q=>Bool.noConfusion q⟩
 refine WK BJ<|ai fun _ BK=>ay<|WS fun _ BL=>rP 2 [] mn ?_
 refine RK BL ?_
 have DH:U2.length=ts.length:=E.len
 refine ir 7 U (by simp; omega) (fun S G=>?_)
 obtain ⟨x,hx⟩:=bh ts u I
 obtain ⟨y,hy⟩:=bh U2 u I
 have Y:=bG aa.cells hy
 have DY:=(show Cl (ts.length+1) (ts.length+1) M9 from N.1).wX I (show u<(ts.length+1) by omega) (show u+1<(ts.length+1) by omega)
 have DX:=(show Cl (ts.length+1) (ts.length+1) M9 from N.1).wX I (show u+1<(ts.length+1) by omega) (show u<(ts.length+1) by omega)
 refine eA dw 24 kr<|gf 1 U<|dS (SX (oa (k:=2) (o':=2) U U U q4 U dc U) U U)<|kX 5 [0,1] (mc 0 U (mc 1 U mn)) U<|dS (zG u U G kg I I)<|dS (CL (rq AA S (u*9) (by exact G)) (aw) U)<|gf 3 U<|dS (SX (dN (k:=(u+1)) U U U eN I I) U U)<|dS (SX (dK (k:=u) (m':=(((u+1)*13+u)*1)) U U U eO I I I) U U)<|dS (g5 ((u+1)*13+u) 0 (vI (mt M9 (u+1) u)) U cz (au (n:=M9.length) 6 U sm) (dk (i:=(u+1)) (k:=u) J.len I I) U dc U)<|dS (NG U ⟨I,I⟩)<|gf 3 U<|dS (SX (dN (k:=u) U U U eN I I) U U)<|dS (SX (dK (k:=(u+1)) (m':=((u*13+(u+1))*1)) U U U eO I I I) U U)<|dS (g5 (u*13+(u+1)) 0 (vI (mt M9 u (u+1))) U cz (au (n:=M9.length) 6 U sm) (dk (i:=u) (k:=(u+1)) J.len I I) U dc U)<|dS (SX (bl (xs:=[(0,.tmp 153),(1,.tmp 159)]) (cs:=(al.cells (al.mk (-(mt M9 (u+1) u)) (mt M9 u (u+1))))) U U (bm jD U)) U U)<|dS (SX (gl U U G) U U)<|cR<|cw (k:=u) (o:=3) (vs:=(al.cells (al.mk (-(mt M9 (u+1) u)) (mt M9 u (u+1))))) (es':=(List.map aa.cells (U2.set u (aa.mk y.Id y.di (al.mk (-(mt M9 (u+1) u)) (mt M9 u (u+1))) y.bK y.cT y.ia)))) (C':=[_,_,_,_,_,_,_,(own AA Z 85 9 (List.map aa.cells (U2.set u (aa.mk y.Id y.di (al.mk (-(mt M9 (u+1) u)) (mt M9 u (u+1))) y.bK y.cT y.ia))))]) 7 U U U dB U U U U Y U dc (by exact (List.map_set (f:=aa.cells) (l:=U2) (i:=u) (a:=(aa.mk y.Id y.di (al.mk (-(mt M9 (u+1) u)) (mt M9 u (u+1))) y.bK y.cT y.ia))).symm) U<|aB<|aF<|KK BK<|aj<|rP 2 [] mn ?_
 refine aB ?_
 have By:(vI (((u+1):Nat):Int))=(vI ((u:Int)+1)):=by exact cI I
 refine aU (A1 ⟨((u+1),(U2.set u (aa.mk y.Id y.di (al.mk (-(mt M9 (u+1) u)) (mt M9 u (u+1))) y.bK y.cT y.ia))),⟨I,E.AQ hx hy ⟨by have:=J.at_ u x hx I; simp only [jG,cond_true] at this; simp only; omega,by have:=J.at_ u x hx I; simp only; omega,by have:=J.at_ u x hx I; simp only [jG,cond_true] at this; simp only; omega⟩⟩⟩ _ _ _ U os (bL 8<|aN U By<|cE.nil _) (aL [0,1,2,3,4,5,6,7]))
end
section
open Go.RowKit
theorem uf (ts:List aa) (tsA:OA) (tsC:Nat) (l:List aH) (lA:OA) (lC:Nat) (htr:a_ ts=true) (hside: ∀ x∈ts,0≤x.cT∧x.cT≤255) (hmo:e_ l ts.length):
 jH Tryz.prog 7 [(vA (ar.cells (ar.mk (bB.mk tsA ts.length tsC)))),(vS lA l.length lC)] [(rd tsA ts.length 9 (ts.map aa.cells)),(rd lA l.length 5 (l.map aH.cells))] (fun (x:Bool×Int×(List aa)×(OA)×Nat)=>bif x.1 then (vT [(vA (ar.cells (ar.mk (bB.mk x.2.2.2.1 x.2.2.1.length x.2.2.2.2)))),(vI 0)]) else (vT [(vA (ar.cells (ar.mk (bB.mk none 0 0)))),(vI x.2.1)])) (fun (x:Bool×Int×(List aa)×(OA)×Nat)=>(x.1=true→dT ts.length ts.length ts x.2.2.1)∧(x.1=false→(x.2.1=8∧True))) (fun (x:Bool×Int×(List aa)×(OA)×Nat)=>bif x.1 then [(own x.2.2.2.1 x.2.2.2.2 85 9 (x.2.2.1.map aa.cells))] else []):=by
 have K:=dy htr
 have V:=oW htr
 have W:=cP htr
 have f:=hmo.1
 refine dh kr Tryz.func7 U U fun k Q hQ hN=>?_
 try dsimp only
 refine WS fun _ T=>fN U fun h=>AL U po fun i=>aY 1 U<|RK T<|WS fun _ AA=>rP 2 [] (mc 1 U mn) ?_
 refine cX (pW ts tsA tsC l lA lC htr hside (by exact hmo)) (bg [2,3]) U fun g X=>?_
 obtain ⟨S,Y⟩:=g
 try dsimp only
 have L:=X
 refine aY 4 U<|AL U pX fun j=>gG U qH U<|aY 2 U<|RK AA<|ai fun _ C=>WS fun _ D=>aY 1 U<|rS (SX (cj (r:= .bool false) U U U eY) U U)<|RK D<|bp U<|WK C<|WS fun _ A=>rP 2 [] (mc 0 U mn) ?_
 refine cX (xD ts tsA tsC S Y (by exact W) (by exact K) (by exact V) (by exact fun e he=>hmo.2 _ (L e he))) (bg [4,1]) U fun Z B=>?_
 obtain ⟨N,a,O,P,R⟩:=Z
 cases N
 rotate_left 1
 ·obtain M:=B.1 rfl
  try dsimp only [cond_true,cond_false,List.cons_append,List.nil_append]
  refine aY 3 U<|AL U po fun d=>gG U k6 U<|aY 1 U<|RK A<|ai fun _ G=>WS fun _ H=>aY 2 U<|RK H<|bp U<|WK G<|WS fun _ AB=>gS 1 [] (mc 0 U mn) U<|AF U k6 U<|rP 1 [] mn ?_
  refine RK AB<|an<|LX hQ (true,0,O,P,R) [1] [0] (mc 4 U mn) U U U U ?_
  exact ⟨fun _=>M,fun q=>Bool.noConfusion q⟩
 obtain ⟨J,he⟩:=B.2 rfl
 try dsimp only at J he
 subst J
 try dsimp only [cond_true,cond_false,List.cons_append,List.nil_append]
 refine aY 3 U<|AL U po fun c=>gG U k6 U<|aY 1 U<|RK A<|ai fun _ b=>WS fun _ E=>aY 2 U<|RK E<|aT U<|WS fun _ F=>rS (SX (bl (xs:=[]) (cs:=(ar.cells (ar.mk (bB.mk none 0 0)))) U U (bm rY U)) U U)<|tL U k6 U<|rP 1 [] mn ?_
 refine RK F<|an<|LX hQ (false,8,[],none,0) [] [0] (mc 3 U mn) U U U U ?_
 exact ⟨fun q=>Bool.noConfusion q,fun _=>⟨U,trivial⟩⟩
end
section
open Go.RowKit
theorem nZ (d:ak) (kA:OA) (kC:Nat) (pA:OA) (pC:Nat) (nA:OA) (nC:Nat) (l:List aH) (lA:OA) (lC:Nat) (hraw:fV d) (hk: ∀ m∈l,0≤m.Kind∧m.Kind≤255):
 dx Tryz.prog 3 [(vA (aZ.cells (aZ.mk (ar.mk (bB.mk kA d.ag.length kC)) (bB.mk pA d.ae.length pC) (bB.mk nA d.aq.length nC) d.a2 d.a4))),(vS lA l.length lC)] [(rd kA d.ag.length 9 (d.ag.map aa.cells)),(rd pA d.ae.length 7 (d.ae.map aV.cells)),(rd nA d.aq.length 3 (d.aq.map bc.cells)),(rd lA l.length 5 (l.map aH.cells))] (vB true):=by
 refine bD kr Tryz.func3 U U fun w0 Q hQ hN=>?_
 try dsimp only
 refine WS fun _ CG=>fN U fun b2=>aY 1 U<|RK CG<|WS fun _ CH=>rS (CL vk (aw) U)<|aY 1 U<|RK CH<|ai fun _ CI=>WS fun _ AA=>gS 1 [] (mc 0 U mn) U<|rS (CL (rm d kA kC pA pC nA nC (by exact hraw)) (rF 1 2 3 U U U U U U) U)<|rP 2 [] mn ?_
 refine ct (t:=35) U (aX fun M=>?_) (aW fun M=>?_)
 ·refine aY 10 U<|RK AA<|aT U<|WS fun _ CJ=>rP 2 [] mn ?_
  refine RK CJ<|an ?_
  exact Q1 hQ U U U U
 have H:=hraw.small M.1
 have K:=M.2
 obtain ⟨B2,CM⟩:=cO K
 have Cp:=CM.len
 have Cq:=dy B2
 refine aY 1 U<|rS (LP (ar.cells (ar.mk (bB.mk kA d.ag.length kC))) 0 U cz U U U)<|aY 1 U<|rS (CL (qG d.ag kA kC l lA lC I (by exact hk)) (bg [1,4]) U)<|rP 3 [] mn ?_
 refine ct (t:=42) U (aX fun B0=>?_) (aW fun B0=>?_)
 ·refine aY 3 U<|RK AA<|aT U<|WS fun _ CK=>rP 2 [] mn ?_
  refine RK CK<|an ?_
  exact Q1 hQ U U U U
 refine aY 3 U<|RK AA<|bp U<|WK CI<|WS fun _ BL=>aY 1 U<|rS (LP (ar.cells (ar.mk (bB.mk kA d.ag.length kC))) 0 U cz U U U)<|rP 1 [] mn ?_
 refine cX (uf d.ag kA kC l lA lC (by exact B2) (by exact H.side) (by exact B0)) (bg [1,4]) U fun y9 S=>?_
 obtain ⟨B3,CX,B4,AB,J⟩:=y9
 cases B3
 ·obtain ⟨Bz,he⟩:=S.2 rfl
  try dsimp only at Bz he
  subst Bz
  try dsimp only [cond_true,cond_false,List.cons_append,List.nil_append]
  refine aY 3 U<|AL U po fun Cj=>gG U k6 U<|aY 1 U<|RK BL<|ai fun _ CY=>WS fun _ e=>aY 1 U<|rS (SX (cj (r:= .bool true) U U U eY) U U)<|RK e<|aT U<|WS fun _ f=>aY 3 U<|rS (SX (cj (r:= .bool true) U U U kf) U U)<|rP 2 [] mn ?_
  refine RK f<|an ?_
  exact Q1 hQ U U U U
 obtain B:=S.1 rfl
 try dsimp only [cond_true,cond_false,List.cons_append,List.nil_append]
 try dsimp only at B
 obtain ⟨us,CN⟩: ∃ us,us=B4:=⟨_,rfl⟩
 subst CN
 refine aY 3 U<|AL U po fun Ck=>gG U k6 U<|aY 1 U<|RK BL<|ai fun _ g=>WS fun _ h=>rP 1 [] mn ?_
 refine rS (SX (cj (r:= .bool false) U U U eY) U U)<|RK h<|bp U<|WK g<|ai fun _ j=>?_
 have Cr:=B.len
 have B1:fV (ak.mk us d.ae d.aq d.a2 d.a4):=ta B H
 have CZ:br (ak.mk us d.ae d.aq d.a2 d.a4)=0:=ju B K
 have R:kP (ak.mk us d.ae d.aq d.a2 d.a4):=qz B M
 have G:=B1.small R.1
 have V:=fX B K
 have P:bM (ak.mk us d.ae d.aq d.a2 d.a4) []=0:=V.2
 have Ca:(dM (ak.mk us d.ae d.aq d.a2 d.a4) []).length≤1000000:=Nat.le_trans l7 G.kG
 have Cb:(cC d []).length≤1000000:=Nat.le_trans iW H.kb
 refine aj<|rP 1 [] (mc 2 U mn) ?_
 refine cX (vi d kA kC pA pC nA nC (by exact H)) (rF 3 4 5 U U U U U U) U fun CQ Cc=>?_
 obtain ⟨CV,CW,C,E,D,F⟩:=CQ
 try dsimp only
 refine AL U wT fun Cm=>gG U w8 U<|RK j<|WS fun _ o=>gS 2 [] (mc 4 U mn) U<|Bh (aZ.cells (aZ.mk (ar.mk (bB.mk AB us.length J)) (bB.mk C d.ae.length E) (bB.mk D d.aq.length F) d.a2 d.a4)) U k6 U U<|RK o<|ai fun _ p=>WS fun _ q=>gS 1 [] (mc 0 U mn) U<|rS (CL (rm (ak.mk us d.ae d.aq d.a2 d.a4) AB J C E D F (by exact B1)) (av (au (n:=us.length) 5 U sm)<|av (au (n:=d.ae.length) 2 U sm)<|av (au (n:=d.aq.length) 3 U sm)<|aw) U)<|rP 1 [] mn ?_
 refine RK q<|cG U (aX fun Y=>?_) (aW fun Y=>?_)
 ·exact absurd R Y
 refine WK p<|ai fun _ s=>WS fun _ w=>rP 4 [] (mc 6 U mn) ?_
 refine RK w<|ay ?_
 have A:(0≤d.ae.length):=by exact Nat.zero_le _
 refine bu (ι:={z:Nat // (z≤d.ae.length)}) [2,5,8,70] [0,1,2,3,5,6,7,8,9,10] U U (fun z=>[(71,(vI (z.1:Int)))]) (fun z=>[]) (fun _=>rfl) (fun _=>rfl) (fun z=>d.ae.length-z.1) ⟨0,A⟩ (a3 U) (aL [0,1,2,3,5,6,7,8,9,10]) ?_
 clear A
 rintro ⟨i,B5⟩ J38 Z
 try dsimp only
 refine WS fun _ AC=>rP 1 [] mn ?_
 refine RK AC<|ai fun _ AQ=>cG U (aS fun CC=>?_) (aR fun CC=>?_)
 ·refine WK AQ<|ai fun _ A0=>ay<|WS fun _ A1=>aY 2 U<|RK A1<|WS fun _ A2=>rP 5 [] (mc 5 U mn) ?_
  refine RK A2<|ay ?_
  have A:(0≤d.ag.length):=by exact Nat.zero_le _
  refine bu (ι:={z:Nat // (z≤d.ag.length)}) [2,5,8,9,70,71,77] [0,1,2,3,4,5,6,7,8,9] U U (fun z=>[(78,(vI (z.1:Int)))]) (fun z=>[]) (fun _=>rfl) (fun _=>rfl) (fun z=>d.ag.length-z.1) ⟨0,A⟩ (a3 U) (aL [0,1,2,3,4,5,6,7,8,9]) ?_
  clear A
  rintro ⟨k,B6⟩ J45 a
  try dsimp only
  refine WS fun _ A3=>rP 1 [] mn ?_
  refine RK A3<|ai fun _ A4=>bq U (aR fun CD=>?_) (aS fun CD=>?_)
  ·refine bk<|ab<|ab<|ax<|aF<|KK A0<|aj<|rP 2 [] mn ?_
   refine aB ?_
   have Bw:(vI (((i+1):Nat):Int))=(vI ((i:Int)+1)):=by exact cI I
   refine aU (Z ⟨(i+1),(by first|omega|(simp only []; omega))⟩ _ _ _ U os (bL 4<|aN U Bw<|cE.nil _) (aL [0,1,2,3,4,5,6,7,8,9]))
  refine WK A4<|ai fun _ A5=>ay<|WS fun _ A6=>rP 2 [] mn ?_
  refine RK A6<|WS fun _ A7=>?_
  have L:(ik d (i:Int) (k:Int)=0∧ik (ak.mk us d.ae d.aq d.a2 d.a4) (i:Int) (k:Int)=0)∧k7 (ak.mk us d.ae d.aq d.a2 d.a4) (i:Int) (k:Int)≤k7 d (i:Int) (k:Int)∧hP (ak.mk us d.ae d.aq d.a2 d.a4) (i:Int) (k:Int)≤hP d (i:Int) (k:Int):=tr B K ⟨⟨I,I⟩,I,I⟩
  refine gS 3 [] (mc 5 U mn) U<|rS (CL (uJ d kA kC pA pC nA nC (i:Int) (k:Int) (by exact H)) (rF 6 7 8 U U U U U U) U)<|rP 1 [] mn ?_
  rw [L.1.1]
  refine aY 4 U<|RK A7<|WS fun _ A8=>gS 3 [] (mc 0 U mn) U<|rS (CL (uJ (ak.mk us d.ae d.aq d.a2 d.a4) AB J C E D F (i:Int) (k:Int) (by exact G)) (av (au (n:=us.length) 4 U sm)<|av (au (n:=d.ae.length) 2 U sm)<|av (au (n:=d.aq.length) 3 U sm)<|aw) U)<|rP 1 [] mn ?_
  rw [L.1.2]
  refine aY 4 U<|RK A8<|WS fun _ BB=>gS 3 [] (mc 5 U mn) U<|rS (CL (qe d kA kC pA pC nA nC (i:Int) (k:Int) (by exact H)) (rF 6 7 8 U U U U U U) U)<|rP 1 [] mn ?_
  rw [L.1.1]
  refine aY 4 U<|RK BB<|WS fun _ BC=>gS 3 [] (mc 0 U mn) U<|rS (CL (qe (ak.mk us d.ae d.aq d.a2 d.a4) AB J C E D F (i:Int) (k:Int) (by exact G)) (av (au (n:=us.length) 4 U sm)<|av (au (n:=d.ae.length) 2 U sm)<|av (au (n:=d.aq.length) 3 U sm)<|aw) U)<|rP 1 [] mn ?_
  rw [L.1.2]
  refine aY 4 U<|RK BC<|WS fun _ BD=>aY 1 U<|rS (SX (cj (r:= .bool false) U U U eY) U U)<|aY 2 U<|rS (SX (cj (r:= .bool false) U U U eY) U U)<|aY 3 U<|rS (SX (cj (r:= .bool false) U U U eY) U U)<|aY 3 U<|rS (SX (cj (r:= .bool false) U U U eY) U U)<|rP 7 [] mn ?_
  refine ct (t:=128) U (aS fun W=>?_) (aR fun W=>?_)
  ·exfalso; omega
  refine rP 4 [] mn ?_
  refine RK BD<|cG U (aS fun X=>?_) (aR fun X=>?_)
  ·exfalso; omega
  refine cg<|aF<|KK A5<|aj<|rP 2 [] mn ?_
  refine aB ?_
  have Bv:(vI (((k+1):Nat):Int))=(vI ((k:Int)+1)):=by exact cI I
  refine aU (a ⟨(k+1),(by first|omega|(simp only []; omega))⟩ _ _ _ U os (bL 7<|aN U Bv<|cE.nil _) (aL [0,1,2,3,4,5,6,7,8,9]))
 refine bk<|ab<|ab<|ax<|KK s<|WS fun _ BE=>rP 1 [] (mc 5 U mn) ?_
 refine cX (q8 d kA kC pA pC nA nC ([]) none 0 (by exact H) sm) (fG [6,7,8]<|av (iI _ _)<|aw) U fun CR Cd=>?_
 obtain ⟨B9,CA⟩:=CR
 try dsimp only
 refine rP 1 [] mn ?_
 rw [V.1]
 refine aY 4 U<|RK BE<|WS fun _ BF=>rP 1 [] (mc 1 U mn) ?_
 refine cX (q8 (ak.mk us d.ae d.aq d.a2 d.a4) AB J C E D F ([]) none 0 (by exact G) sm) (av (au (n:=us.length) 5 U sm)<|av (au (n:=d.ae.length) 3 U sm)<|av (au (n:=d.aq.length) 4 U sm)<|av (iI _ _)<|aw) U fun CS Ce=>?_
 obtain ⟨Ch,Cn⟩:=CS
 try dsimp only
 refine rP 1 [] mn ?_
 rw [P]
 refine aY 4 U<|RK BF<|WS fun _ BG=>rP 1 [] (mc 7 U mn) ?_
 refine cX (l6 d kA kC pA pC nA nC ([]) none 0 (by exact H) sm) (fG [8,9,10]<|av (iI _ _)<|aw) U fun CT Cf=>?_
 obtain ⟨Ci,Co⟩:=CT
 try dsimp only
 refine rP 1 [] mn ?_
 rw [V.1]
 refine aY 4 U<|RK BG<|WS fun _ BH=>rP 1 [] (mc 3 U mn) ?_
 refine cX (l6 (ak.mk us d.ae d.aq d.a2 d.a4) AB J C E D F ([]) none 0 (by exact G) sm) (av (au (n:=us.length) 7 U sm)<|av (au (n:=d.ae.length) 5 U sm)<|av (au (n:=d.aq.length) 6 U sm)<|av (iI _ _)<|aw) U fun CU Cg=>?_
 obtain ⟨B_,CB⟩:=CU
 try dsimp only
 refine rP 1 [] mn ?_
 rw [P]
 refine aY 4 U<|RK BH<|ai fun _ BJ=>WS fun _ BK=>aY 1 U<|rS (SX (cj (r:= .bool false) U U U eY) U U)<|aY 2 U<|rS (SX (cj (r:= .bool false) U U U eY) U U)<|aY 3 U<|rS (SX (cj (r:= .bool false) U U U eY) U U)<|aY 3 U<|rS (SX (cj (r:= .bool false) U U U eY) U U)<|aY 1 U<|RK BK<|bp U<|WK BJ<|ai fun _ BN=>WS fun _ BO=>rP 3 [] mn ?_
 refine RK BO<|ay ?_
 have A:(0≤(dM (ak.mk us d.ae d.aq d.a2 d.a4) ([])).length):=by exact Nat.zero_le _
 refine bu (ι:={z:Nat // (z≤(dM (ak.mk us d.ae d.aq d.a2 d.a4) ([])).length)}) [5,19,21,23,25,169,170] [0,1,2,3,5,6,7,8,10,11,12,13] U U (fun z=>[(171,(vI (z.1:Int)))]) (fun z=>[]) (fun _=>rfl) (fun _=>rfl) (fun z=>(dM (ak.mk us d.ae d.aq d.a2 d.a4) ([])).length-z.1) ⟨0,A⟩ (a3 U) (aL [0,1,2,3,5,6,7,8,10,11,12,13]) ?_
 clear A
 rintro ⟨u,B7⟩ J82 b
 try dsimp only
 refine WS fun _ BP=>rP 1 [] mn ?_
 refine RK BP<|ai fun _ BQ=>cG U (aS fun CE=>?_) (aR fun CE=>?_)
 ·refine WK BQ<|ai fun _ BR=>ay<|WS fun _ BT=>?_
  obtain ⟨x,hx⟩: ∃ y_,(dM (ak.mk us d.ae d.aq d.a2 d.a4) ([]))[u]? =some y_:=⟨(dM (ak.mk us d.ae d.aq d.a2 d.a4) ([]))[u]'I,dr _⟩
  have CO:=bG iC hx
  refine rS (IA u U (au (n:=(dM (ak.mk us d.ae d.aq d.a2 d.a4) ([])).length) 2 U sm) cL dc I I)<|rS (g5 u 0 (vI x) U cz (au (n:=(dM (ak.mk us d.ae d.aq d.a2 d.a4) ([])).length) 2 U sm) CO U dc U)<|aY 1 U<|RK BT<|WS fun _ BU=>aY 2 U<|rS (CL (wh (dM d ([])) B9 CA x (by exact Nat.le_trans l7 H.kG)) (av (au (n:=(dM d ([])).length) 3 U sm)<|aw) U)<|rP 1 [] mn ?_
  refine RK BU<|cG U (aX fun N=>?_) (aW fun N=>?_)
  ·exact absurd (qq B K _ (aI hx)) N
  refine cg<|aF<|KK BR<|aj<|rP 2 [] mn ?_
  refine aB ?_
  have Bx:(vI (((u+1):Nat):Int))=(vI ((u:Int)+1)):=by exact cI I
  refine aU (b ⟨(u+1),(by first|omega|(simp only []; omega))⟩ _ _ _ U os (bL 7<|aN U Bx<|cE.nil _) (aL [0,1,2,3,4,5,6,7,8,9,10,11]))
 refine bk<|ab<|ab<|ax<|KK BN<|ai fun _ BV=>WS fun _ BW=>rP 3 [] mn ?_
 refine RK BW<|ay ?_
 have A:(0≤(cC d ([])).length):=by exact Nat.zero_le _
 refine bu (ι:={z:Nat // (z≤(cC d ([])).length)}) [5,23,25,180,181] [0,1,2,3,4,5,6,7,8,9,10,11] U U (fun z=>[(182,(vI (z.1:Int)))]) (fun z=>[]) (fun _=>rfl) (fun _=>rfl) (fun z=>(cC d ([])).length-z.1) ⟨0,A⟩ (a3 U) (aL [0,1,2,3,4,5,6,7,8,9,10,11]) ?_
 clear A
 rintro ⟨v,B8⟩ J92 c
 try dsimp only
 refine WS fun _ BX=>rP 1 [] mn ?_
 refine RK BX<|ai fun _ BY=>bq U (aR fun CF=>?_) (aS fun CF=>?_)
 ·refine bk<|ab<|ab<|ax<|KK BV<|WS fun _ T=>rP 2 [] mn ?_
  refine RK T<|an ?_
  exact Q1 hQ U U U U
 refine WK BY<|ai fun _ BZ=>ay<|WS fun _ Bs=>?_
 obtain ⟨y,hy⟩: ∃ y_,(cC d ([]))[v]? =some y_:=⟨(cC d ([]))[v]'I,dr _⟩
 have CP:=bG iC hy
 refine rS (IA v U (au (n:=(cC d ([])).length) 1 U sm) cL dc I I)<|rS (g5 v 0 (vI y) U cz (au (n:=(cC d ([])).length) 1 U sm) CP U dc U)<|aY 1 U<|RK Bs<|WS fun _ Bu=>aY 2 U<|rS (CL (wh (cC (ak.mk us d.ae d.aq d.a2 d.a4) ([])) B_ CB y (by exact Nat.le_trans iW G.kb)) (av (au (n:=(cC (ak.mk us d.ae d.aq d.a2 d.a4) ([])).length) 0 U sm)<|aw) U)<|rP 1 [] mn ?_
 refine RK Bu<|cG U (aX fun O=>?_) (aW fun O=>?_)
 ·exact absurd (pz B K _ (aI hy)) O
 refine cg<|aF<|KK BZ<|aj<|rP 2 [] mn ?_
 refine aB ?_
 have By:(vI (((v+1):Nat):Int))=(vI ((v:Int)+1)):=by exact cI I
 refine aU (c ⟨(v+1),(by first|omega|(simp only []; omega))⟩ _ _ _ U os (bL 5<|aN U By<|cE.nil _) (aL [0,1,2,3,4,5,6,7,8,9,10,11]))
end
section
open Go.RowKit
def nS {α:Type} (cells:α→List Value) (sz:Nat) (R:World→α→Prop) (w:World) (s:bB):Prop:= ∃ l:List α,s.n=l.length∧(rd s.a l.length sz (l.map cells)).holds w∧(∀ x∈l,R w x)∧l.length≤maxLen∧s.n≤s.c
theorem pM {w:World} {s:aZ} {R1:World→aa→Prop} {R2:World→aV→Prop} {R3:World→bc→Prop} (h1:nS aa.cells 9 R1 w s.ag.fM) (hs: ∀ x,R1 w x→0≤x.cT∧x.cT≤255) (h2:nS aV.cells 7 R2 w s.ae) (hp: ∀ x,R2 w x→0≤x.Kind∧x.Kind≤255) (h3:nS bc.cells 3 R3 w s.aq) (hn: ∀ x,R3 w x→0≤x.Kind∧x.Kind≤255):
 ∃ (d:ak) (kA:OA) (kC:Nat) (pA:OA) (pC:Nat) (nA:OA) (nC:Nat),s=aZ.mk (ar.mk (bB.mk kA d.ag.length kC)) (bB.mk pA d.ae.length pC) (bB.mk nA d.aq.length nC) d.a2 d.a4∧fV d∧
  ((rd kA d.ag.length 9 (d.ag.map aa.cells)).holds w∧(rd pA d.ae.length 7 (d.ae.map aV.cells)).holds w∧(rd nA d.aq.length 3 (d.aq.map bc.cells)).holds w)∧d.a2=s.a2∧d.a4=s.a4:=by
 obtain ⟨⟨⟨ka,kn,kc⟩⟩,⟨pa,pn,pc⟩,⟨na,nn,nc⟩,tw,ra⟩:=s
 obtain ⟨ts,C,J,K,L,O⟩:=h1
 obtain ⟨ps,B,G,H,AA,N⟩:=h2
 obtain ⟨ns,A,D,E,F,M⟩:=h3
 simp only at C B A
 subst C B A
 exact ⟨⟨ts,ps,ns,tw,ra⟩,ka,kc,pa,pc,na,nc,U,⟨L,fun x hx=>hs x (K x hx),AA,fun x hx=>hp x (H x hx),F,fun x hx=>hn x (E x hx)⟩,⟨J,G,D⟩,U,U⟩
end
section
open Go.ChangeShapes Go.WideShapes Go.ChangeAt Go.RowKit
theorem AE:Tryz.prog.cellsOf 32=7:=by kernel_rfl
theorem zj:Tryz.prog.cellsOf 24=1:=by kernel_rfl
theorem z7:Tryz.prog.cellsOf 22=1:=by kernel_rfl
theorem yD:Tryz.prog.cellsOf 85=9:=by kernel_rfl
theorem sM:Tryz.prog.cellsOf 3=1:=by kernel_rfl
def rz (w:World) (n:Int):Prop:=n8 n
theorem rZ:m3 Tryz.prog 3 Int iC rz:=wS mZ
theorem r8:Tryz.prog.cellsOf 28=2:=by kernel_rfl
structure sa (w:World) (s:al):Prop where
 Lo:rz w s.Lo
 Hi:rz w s.Hi
theorem Az:fL Tryz.prog 28=some [(3,0),(3,1)]:=by kernel_rfl
theorem uv:m3 Tryz.prog 28 al al.cells sa:=fun {H} enc w base sp A fuel cs x h=>by
 obtain ⟨hl,hp⟩:=fU Az h
 obtain ⟨M,O,F⟩:=hp 0 3 0 rfl
 obtain ⟨K,B,AA⟩:=rZ _ _ _ _ _ _ _ _ F
 obtain ⟨N,P,G⟩:=hp 1 3 1 rfl
 obtain ⟨L,C,J⟩:=rZ _ _ _ _ _ _ _ _ G
 refine ⟨⟨K,L⟩,?_,⟨AA,J⟩⟩
 have E:=eC (hl.trans r8) (by rw [sM]) C
 have D:=ck B (m:=1) (by rw [sM]) E
 exact D
theorem zH:Tryz.prog.cellsOf 5=1:=by kernel_rfl
def yT (w:World) (n:Int):Prop:=0≤n∧n≤255
theorem zE:m3 Tryz.prog 5 Int tS yT:=yz rW
structure w7 (w:World) (s:aa):Prop where
 Id:rz w s.Id
 di:sa w s.di
 dj:sa w s.dj
 bK:sa w s.bK
 cT:yT w s.cT
 ia:rz w s.ia
theorem zS:fL Tryz.prog 85=some [(3,0),(28,1),(28,3),(28,5),(5,7),(3,8)]:=by kernel_rfl
theorem AN:m3 Tryz.prog 85 aa aa.cells w7:=fun {H} enc w base sp A fuel cs x h=>by
 obtain ⟨hl,hp⟩:=fU zS h
 obtain ⟨g,o,O⟩:=hp 0 3 0 rfl
 obtain ⟨a,B,AA⟩:=rZ _ _ _ _ _ _ _ _ O
 obtain ⟨i,p,P⟩:=hp 1 28 1 rfl
 obtain ⟨b,C,V⟩:=uv _ _ _ _ _ _ _ _ P
 obtain ⟨j,q,Q⟩:=hp 2 28 3 rfl
 obtain ⟨c,D,W⟩:=uv _ _ _ _ _ _ _ _ Q
 obtain ⟨k,r,R⟩:=hp 3 28 5 rfl
 obtain ⟨d,E,X⟩:=uv _ _ _ _ _ _ _ _ R
 obtain ⟨l,s,S⟩:=hp 4 5 7 rfl
 obtain ⟨e,F,Y⟩:=zE _ _ _ _ _ _ _ _ S
 obtain ⟨n,t,T⟩:=hp 5 3 8 rfl
 obtain ⟨f,G,Z⟩:=rZ _ _ _ _ _ _ _ _ T
 refine ⟨⟨a,b,c,d,e,f⟩,?_,⟨AA,V,W,X,Y,Z⟩⟩
 have N:=eC (hl.trans yD) (by rw [sM]) G
 have M:=ck F (m:=8) (by rw [zH]) N
 have L:=ck E (m:=7) (by rw [r8]) M
 have K:=ck D (m:=5) (by rw [r8]) L
 have J:=ck C (m:=3) (by rw [r8]) K
 have AB:=ck B (m:=1) (by rw [sM]) J
 exact AB
def yS (w:World) (s:bB):Prop:= ∃ l:List aa,s.n=l.length∧(rd s.a l.length 9 (l.map aa.cells)).holds w∧(∀ x∈l,w7 w x)∧l.length≤maxLen∧s.n≤s.c
theorem AA:m3 Tryz.prog 22 bB (fun s=>[vS s.a s.n s.c]) yS:=ke xw yD AN
structure zr (w:World) (s:ar):Prop where
 fM:yS w s.fM
theorem Ao:fL Tryz.prog 24=some [(22,0)]:=by kernel_rfl
theorem Aa:m3 Tryz.prog 24 ar ar.cells zr:=fun {H} enc w base sp A fuel cs x h=>by
 obtain ⟨hl,hp⟩:=fU Ao h
 obtain ⟨G,AB,D⟩:=hp 0 22 0 rfl
 obtain ⟨F,B,E⟩:=AA _ _ _ _ _ _ _ _ D
 refine ⟨⟨F⟩,?_,⟨E⟩⟩
 have C:=eC (hl.trans zj) (by rw [z7]) B
 exact C
theorem zM:Tryz.prog.cellsOf 25=1:=by kernel_rfl
theorem yY:Tryz.prog.cellsOf 70=7:=by kernel_rfl
theorem xV:Tryz.prog.cellsOf 30=3:=by kernel_rfl
structure x5 (w:World) (s:aG):Prop where
 ao:rz w s.ao
 gO:sa w s.gO
theorem z9:fL Tryz.prog 30=some [(3,0),(28,1)]:=by kernel_rfl
theorem yl:m3 Tryz.prog 30 aG aG.cells x5:=fun {H} enc w base sp A fuel cs x h=>by
 obtain ⟨hl,hp⟩:=fU z9 h
 obtain ⟨M,O,F⟩:=hp 0 3 0 rfl
 obtain ⟨K,B,AA⟩:=rZ _ _ _ _ _ _ _ _ F
 obtain ⟨N,P,G⟩:=hp 1 28 1 rfl
 obtain ⟨L,C,J⟩:=uv _ _ _ _ _ _ _ _ G
 refine ⟨⟨K,L⟩,?_,⟨AA,J⟩⟩
 have E:=eC (hl.trans xV) (by rw [r8]) C
 have D:=ck B (m:=1) (by rw [sM]) E
 exact D
structure xA (w:World) (s:aV):Prop where
 Id:rz w s.Id
 Kind:yT w s.Kind
 cp:x5 w s.cp
 gT:rz w s.gT
 jM:rz w s.jM
theorem AB:fL Tryz.prog 70=some [(3,0),(5,1),(30,2),(3,5),(3,6)]:=by kernel_rfl
theorem Ap:m3 Tryz.prog 70 aV aV.cells xA:=fun {H} enc w base sp A fuel cs x h=>by
 obtain ⟨hl,hp⟩:=fU AB h
 obtain ⟨b,g,M⟩:=hp 0 3 0 rfl
 obtain ⟨W,B,R⟩:=rZ _ _ _ _ _ _ _ _ M
 obtain ⟨c,i,N⟩:=hp 1 5 1 rfl
 obtain ⟨X,C,S⟩:=zE _ _ _ _ _ _ _ _ N
 obtain ⟨d,j,O⟩:=hp 2 30 2 rfl
 obtain ⟨Y,D,T⟩:=yl _ _ _ _ _ _ _ _ O
 obtain ⟨e,k,P⟩:=hp 3 3 5 rfl
 obtain ⟨Z,E,AA⟩:=rZ _ _ _ _ _ _ _ _ P
 obtain ⟨f,l,Q⟩:=hp 4 3 6 rfl
 obtain ⟨a,F,V⟩:=rZ _ _ _ _ _ _ _ _ Q
 refine ⟨⟨W,X,Y,Z,a⟩,?_,⟨R,S,T,AA,V⟩⟩
 have L:=eC (hl.trans yY) (by rw [sM]) F
 have K:=ck E (m:=6) (by rw [sM]) L
 have J:=ck D (m:=5) (by rw [xV]) K
 have AC:=ck C (m:=2) (by rw [zH]) J
 have G:=ck B (m:=1) (by rw [sM]) AC
 exact G
def zk (w:World) (s:bB):Prop:= ∃ l:List aV,s.n=l.length∧(rd s.a l.length 7 (l.map aV.cells)).holds w∧(∀ x∈l,xA w x)∧l.length≤maxLen∧s.n≤s.c
theorem AK:m3 Tryz.prog 25 bB (fun s=>[vS s.a s.n s.c]) zk:=ke Ag yY Ap
theorem zI:Tryz.prog.cellsOf 26=1:=by kernel_rfl
theorem yn:Tryz.prog.cellsOf 82=3:=by kernel_rfl
structure wZ (w:World) (s:bc):Prop where
 ao:rz w s.ao
 Kind:yT w s.Kind
 e8:rz w s.e8
theorem Ay:fL Tryz.prog 82=some [(3,0),(5,1),(3,2)]:=by kernel_rfl
theorem As:m3 Tryz.prog 82 bc bc.cells wZ:=fun {H} enc w base sp A fuel cs x h=>by
 obtain ⟨hl,hp⟩:=fU Ay h
 obtain ⟨R,AA,AB⟩:=hp 0 3 0 rfl
 obtain ⟨O,B,L⟩:=rZ _ _ _ _ _ _ _ _ AB
 obtain ⟨S,V,J⟩:=hp 1 5 1 rfl
 obtain ⟨P,C,M⟩:=zE _ _ _ _ _ _ _ _ J
 obtain ⟨T,W,K⟩:=hp 2 3 2 rfl
 obtain ⟨Q,D,N⟩:=rZ _ _ _ _ _ _ _ _ K
 refine ⟨⟨O,P,Q⟩,?_,⟨L,M,N⟩⟩
 have G:=eC (hl.trans yn) (by rw [sM]) D
 have F:=ck C (m:=2) (by rw [zH]) G
 have E:=ck B (m:=1) (by rw [sM]) F
 exact E
def yv (w:World) (s:bB):Prop:= ∃ l:List bc,s.n=l.length∧(rd s.a l.length 3 (l.map bc.cells)).holds w∧(∀ x∈l,wZ w x)∧l.length≤maxLen∧s.n≤s.c
theorem Ai:m3 Tryz.prog 26 bB (fun s=>[vS s.a s.n s.c]) yv:=ke zN yn As
structure Am (w:World) (s:aZ):Prop where
 ag:zr w s.ag
 ae:zk w s.ae
 aq:yv w s.aq
 a2:x5 w s.a2
 a4:rz w s.a4
theorem zn:fL Tryz.prog 32=some [(24,0),(25,1),(26,2),(30,3),(3,6)]:=by kernel_rfl
theorem A_:m3 Tryz.prog 32 aZ aZ.cells Am:=fun {H} enc w base sp A fuel cs x h=>by
 obtain ⟨hl,hp⟩:=fU zn h
 obtain ⟨b,g,M⟩:=hp 0 24 0 rfl
 obtain ⟨W,B,R⟩:=Aa _ _ _ _ _ _ _ _ M
 obtain ⟨c,i,N⟩:=hp 1 25 1 rfl
 obtain ⟨X,C,S⟩:=AK _ _ _ _ _ _ _ _ N
 obtain ⟨d,j,O⟩:=hp 2 26 2 rfl
 obtain ⟨Y,D,T⟩:=Ai _ _ _ _ _ _ _ _ O
 obtain ⟨e,k,P⟩:=hp 3 30 3 rfl
 obtain ⟨Z,E,AA⟩:=yl _ _ _ _ _ _ _ _ P
 obtain ⟨f,l,Q⟩:=hp 4 3 6 rfl
 obtain ⟨a,F,V⟩:=rZ _ _ _ _ _ _ _ _ Q
 refine ⟨⟨W,X,Y,Z,a⟩,?_,⟨R,S,T,AA,V⟩⟩
 have L:=eC (hl.trans AE) (by rw [sM]) F
 have K:=ck E (m:=6) (by rw [xV]) L
 have J:=ck D (m:=3) (by rw [zI]) K
 have AB:=ck C (m:=2) (by rw [zM]) J
 have G:=ck B (m:=1) (by rw [zj]) AB
 exact G
theorem ze:Tryz.prog.cellsOf 56=5:=by kernel_rfl
structure zp (w:World) (s:aH):Prop where
 Kind:yT w s.Kind
 bw:rz w s.bw
 To:rz w s.To
 bO:sa w s.bO
theorem Ad:fL Tryz.prog 56=some [(5,0),(3,1),(3,2),(28,3)]:=by kernel_rfl
theorem z0:m3 Tryz.prog 56 aH aH.cells zp:=fun {H} enc w base sp A fuel cs x h=>by
 obtain ⟨hl,hp⟩:=fU Ad h
 obtain ⟨W,a,K⟩:=hp 0 5 0 rfl
 obtain ⟨S,B,O⟩:=zE _ _ _ _ _ _ _ _ K
 obtain ⟨X,b,L⟩:=hp 1 3 1 rfl
 obtain ⟨T,C,P⟩:=rZ _ _ _ _ _ _ _ _ L
 obtain ⟨Y,c,M⟩:=hp 2 3 2 rfl
 obtain ⟨AA,D,Q⟩:=rZ _ _ _ _ _ _ _ _ M
 obtain ⟨Z,d,N⟩:=hp 3 28 3 rfl
 obtain ⟨V,E,R⟩:=uv _ _ _ _ _ _ _ _ N
 refine ⟨⟨S,T,AA,V⟩,?_,⟨O,P,Q,R⟩⟩
 have J:=eC (hl.trans ze) (by rw [r8]) E
 have AB:=ck D (m:=3) (by rw [sM]) J
 have G:=ck C (m:=2) (by rw [sM]) AB
 have F:=ck B (m:=1) (by rw [zH]) G
 exact F
def AT (w:World) (s:bB):Prop:= ∃ l:List aH,s.n=l.length∧(rd s.a l.length 5 (l.map aH.cells)).holds w∧(∀ x∈l,zp w x)∧l.length≤maxLen∧s.n≤s.c
theorem zR:m3 Tryz.prog 33 bB (fun s=>[vS s.a s.n s.c]) AT:=ke yV ze z0
theorem mz:ownKnob Tryz.prog.godebug=none:=by kernel_rfl
theorem lN:laidOutB Tryz.prog=true:=by kernel_rfl
theorem kF (os:Os) (started:os.Started) (H:Type) (enc:TypeId×Value→H):
 ReturnsInHanded {} Tryz.checked os 3 .any (Rows.postNarrowSpec.pre6 enc Tryz.prog Tryz.f3 Rows.postNarrowRow.domain false) (Rows.postNarrowSpec.post enc Tryz.prog Tryz.f3 false true false false):=by
 refine returnsInHanded_of_change (C:=Tryz.checked) mz started kr Tryz.func3
  (ChangeSpec.witness6 (enc:=enc) (C:=Tryz.checked) false ⟨#[],#[.agg #[(vS none 0 0),(vS none 0 0),(vS none 0 0),(vI 0),(vI 0),(vI 0),(vI 0)],vS none 0 0],[]⟩ 8 kr kr kr kr) ?_
 intro W base args ds gs before G hW P _
 have B: ∀ (j:Nat) t v,Tryz.f3.params[j]? =some t→args[j]? =some v→Value.okWide Tryz.prog W .any base t v:=G
 have hW':=hW
 obtain ⟨p,q,M,hV,rfl,X,Y⟩:=hW
 have hA:DataW.TrodAll enc Tryz.prog W 0 (fun _=>true) true Tryz.f3.params.toList args.toList ds p:=M
 have AB:=hA
 rw [Tryz.params3] at hA B
 obtain ⟨Q,c,g,S,i,l,N,rfl,rfl,AA,Z⟩:=trodAll_cons hA
 obtain ⟨R,f,h,T,k,m,rfl,rfl,rfl,V,a⟩:=trodAll_cons Z
 obtain ⟨rfl,rfl,rfl⟩:=trodAll_nil a
 obtain rfl:args= #[Q,R]:=by cases args; simp_all
 obtain ⟨rfl,rfl⟩:=trodVars_none hV
 obtain ⟨n,rfl,R0⟩:=qi zn A_ (B 0 32 Q rfl rfl) AA
 obtain ⟨b,rfl,R1⟩:=sv zR yV (B 1 33 R rfl rfl) V
 simp only [List.append_nil] at hW' AB
 obtain ⟨d,kA,kC,pA,pC,nA,nC,rfl,K,F,_⟩:=pM (R1:=w7) (R2:=xA) (R3:=wZ) R0.ag.fM (fun x hx=>hx.cT) R0.ae (fun x hx=>hx.Kind) R0.aq (fun x hx=>hx.Kind)
 obtain ⟨lA,ln,lC⟩:=b
 obtain ⟨ls,J,D,E,O⟩:=R1
 simp only at J D
 subst J
 have L:=(nZ d kA kC pA pC nA nC ls lA lC K (fun x hx=>(E x hx).Kind)).run W (by intro A hA; simp only [bE,List.not_mem_nil,or_false] at hA; rcases hA with rfl|rfl|rfl|rfl; exact F.1; exact F.2.1; exact F.2.2; exact D)
 refine (L).mono fun e W' ⟨he,hk⟩=>?_
 subst he
 exact ⟨_,U,tc lN hW' AB U U kr hk.below kr Bp⟩
/-- the statement -/
theorem postNarrow_said:Rows.PostNarrowSaid:=
 OpenClaim.holds_of_wide 3 Tryz.f3 rfl rfl rfl rfl rfl rfl rfl ⟨rfl,rfl,rfl,rfl,rfl⟩ rfl rfl rfl rfl rfl kr Tryz.func3 kr
  (of_decide_eq_true kr) (by unfold Func.isWrapper; first|(rw [if_pos (by decide+kernel)]; kernel_rfl)|(rw [if_neg (by decide+kernel)]; exact ⟨rfl,rfl⟩))
  (fun os started H enc _=>kF os started H enc)
#print axioms postNarrow_said
end
end Go.Proofs.YtpfjokbjambohaaGreat
