/-
 The statement raceTied_said, part 7 of 8: Rx1, Rx3, Rx5, Rx8, Rx9, Rx10, Rx11, Rx12, Rz1, Rz2, Rx2, Rz3, Rz4, B7, B8, Rr2.
 Conditions: none.
-/
import Derived.Test.YtdllkkdchkhimaaGreatDoorTz1
import Derived.Test.YtdllkkdchkhimaaGreatDoorTz2
import Derived.Test.YtdllkkdchkhimaaGreatDoorTz3
import Derived.Test.YtdllkkdchkhimaaGreatDoorTz4
import Derived.Test.YtdllkkdchkhimaaGreatDoorTz5
import Derived.Test.YtdllkkdchkhimaaGreatDoorTz6
namespace Go.Proofs.YtdllkkdchkhimaaGreatDoor
set_option maxRecDepth 100000
set_option maxHeartbeats 4000000
set_option linter.unusedVariables false
section
open Go.RowKit
theorem vG (l:List Int) (lA:OA) (lC:Nat) (hlen:l.length≤1000000):
 lE Tryz.prog 61 [(vS lA l.length lC)] [(rd lA l.length 1 (l.map iC))] (fun (x:(OA)×Nat)=>(vS x.1 l.length x.2)) (fun (x:(OA)×Nat)=>True) (fun (x:(OA)×Nat)=>[(own x.1 x.2 3 1 (l.map iC))]):=by
 refine dv kr Tryz.func61 U U fun L Q hQ hN=>?_
 try dsimp only
 refine WS fun _ D=>bo 1 U<|RK D<|al fun _ E=>WS fun _ F=>rP 1 [] I ?_
 refine rS (BI U (p5 QS))<|RK F<|cO U (aP fun B=>?_) (aR fun B=>?_)
 ·refine WS fun _ G=>lX (aD 0 U) B dc fun C=>?_
  have A:l=[]:=by simpa using C
  refine dM 3 1 ?_
  rw [show (own none 0 3 1 ([]:List (List Value)))=own none 0 3 1 (l.map iC) from by rw [A]; rfl]
  refine rP 1 [] I ?_
  refine RK G<|aq ?_
  refine LX hQ (none,0) [0] [] I U U U ?_ ?_
  ·first|rfl|(rw [A]; rfl)
  ·trivial
 refine WK E<|WS fun _ H=>sG U cx U fun J=>rP 1 [] I ?_
 refine dY (es:=(List.map iC [])) (C':=[own (some ⟨J,0,none⟩) 0 3 1 (List.map iC []),_]) 0 U sm U (by simp [maxLen]) U ?_
 refine df (es2:=(List.map iC l)) (m':=l.length) 0 U U U pO U U sm (aD 1 U) (j9 _) os (by first|(simp only [maxLen]; omega)|(simp [maxLen]; omega)) sm sm U fun AA K=>?_
 try dsimp only
 refine rP 1 [] I ?_
 refine RK H<|aq ?_
 refine LX hQ (AA,K) [0] [] I U U U ?_ ?_
 ·first|rfl|(rw [A]; rfl)
 ·trivial
theorem BP (l:List Int) (lA:OA) (lC:Nat) (f:Value) (key:Int→Int) (X:av) (hf: ∀ x0 x1,x0∈l∧x1∈l→D9 Tryz.prog f [.int .i64 x0,.int .i64 x1] [X] (.int .i64 (key x0-key x1))) (hkb: ∀ x∈l,0≤key x∧key x≤30000000) (hlen:l.length≤1000000):
 CT Tryz.prog 122 [(vS lA l.length lC),(vI 0),(vI (l.length:Int)),f] [X] (own lA lC 3 1 (l.map iC)) (fun (x:Unit)=>(vT [])) (fun (x:Unit)=>True) (fun (x:Unit)=>(own lA lC 3 1 ((eA key l).map iC))):=by
 refine mx kr Tryz.func122 U U fun s Q hQ hN=>?_
 try dsimp only
 refine WS fun _ Z=>bo 1 U<|rS (SX (bZ (r:= .int .i64 1) U U U (g8 ⟨dc,dc⟩)) U U)<|rP 1 [] I ?_
 refine RK Z<|ay ?_
 have C:(1≤1∧(1≤l.length∨1=1))∧(l.length=l.length)∧(1=1∧l=[]∨s_ key l 1 l)∧(∀ x∈l,x∈l):=by exact ⟨om,rfl,GX,fun x h=>h⟩
 refine bS (ι:={z:Nat×(List Int) // (1≤z.1∧(z.1≤l.length∨z.1=1))∧(z.2.length=l.length)∧(z.1=1∧l=[]∨s_ key l z.1 z.2)∧(∀ x∈z.2,x∈l)}) [0,1,2,3] [1] U U (fun z=>[(8,(vI (z.1.1:Int)))]) (fun z=>[(own lA lC 3 1 (z.1.2.map iC))]) (fun _=>rfl) (fun _=>rfl) (fun z=>l.length-z.1.1) ⟨(1,l),C⟩ (aV U) (aL [1,0]) ?_
 clear C
 rintro ⟨⟨i,m⟩,⟨AB,E,F,G⟩⟩ J2 L
 try dsimp only at AB E F G
 try dsimp only
 refine al fun _ b=>WS fun _ c=>rP 3 [] I ?_
 refine RK c<|bV U (aR fun p=>?_) (aP fun p=>?_)
 ·refine bE<|ag<|ag<|aA ?_
  rw [show m=eA key l from IM om E F]
  refine LM hN () 1 [] I U U U U ?_
  trivial
 refine WK b<|al fun _ N=>ay<|WS fun _ d=>rP 2 [] I ?_
 refine RK d<|ay ?_
 have C:(i≤i)∧(m.length=l.length)∧(∀ x∈m,x∈l)∧(AT key l i i m):=by exact ⟨Nat.le_refl _,E,G,C8 om (MS om F)⟩
 refine bS (ι:={z:Nat×(List Int) // (z.1≤i)∧(z.2.length=l.length)∧(∀ x∈z.2,x∈l)∧(AT key l i z.1 z.2)}) [0,1,2,3,8] [0] U U (fun z=>[(9,(vI (z.1.1:Int)))]) (fun z=>[(own lA lC 3 1 (z.1.2.map iC))]) (fun _=>rfl) (fun _=>rfl) (fun z=>z.1.1) ⟨(i,m),C⟩ (aV U) (aL [0,1]) ?_
 clear C
 rintro ⟨⟨j,q⟩,⟨J,D,A,B⟩⟩ J8 Y
 try dsimp only at J D A B
 try dsimp only
 refine al fun _ e=>al fun _ H=>dq cy 17 kr<|dP 4 [] I ?_
 refine iw (t:=21) U (aR fun V=>?_) (aP fun V=>?_)
 ·refine km 13 U<|cL<|RK H<|aX U<|bE<|ag<|ag<|aA<|aH<|KK N<|ao<|rP 3 [] I ?_
  refine aG ?_
  refine aW (L ⟨((i+1),q),⟨om,D,.inr (by first|exact zd om B|exact yb om B hx hy om),A⟩⟩ _ _ _ U (by simp only []; omega) (aV U) (aL [0,1]))
 refine dP 3 [] I ?_
 obtain ⟨x,hx⟩:=aM q j om
 have K:=bL iC hx
 refine dS (IA j U (aj (n:=l.length) 1 U sq) cx dc om om) ?_
 refine dS (fY j 0 (vI x) U cd (aj (n:=q.length) 1 U sm) K U dc U)<|dP 3 [] I ?_
 obtain ⟨y,hy⟩:=aM q (j-1) om
 have AA:=bL iC hy
 refine dS (IA (j-1) U (aj (n:=l.length) 1 U sq) cx dc om om) ?_
 refine dS (fY (j-1) 0 (vI y) U cd (aj (n:=q.length) 1 U sm) AA U dc U)<|dS (SX (rF U U U (hf x y ⟨A _ (aU hx),A _ (aU hy)⟩) (bp [0])) U U)<|dP 2 [] I ?_
 refine cL<|RK H<|bV U (aR fun W=>?_) (aP fun W=>?_)
 ·refine bE<|ag<|ag<|aA<|aH<|KK N<|ao<|rP 3 [] I ?_
  refine aG ?_
  refine aW (L ⟨((i+1),q),⟨om,D,.inr (by first|exact zd om B|exact yb om B hx hy om),A⟩⟩ _ _ _ U (by simp only []; omega) (aV U) (aL [0,1]))
 refine WK e<|al fun _ M=>ay<|dL cy [15,16,17] [8,9,12,13,14] [] [0] [0,1] U U U U U<|eS U (MV U)<|eS U (MV U)<|eS U (MV U)<|eS U (MV U)<|eS U (BI U (ru ⟨om,om⟩))<|eS U (MV U)<|eS U (MV U)<|eS U (BI U (ru ⟨om,om⟩)) ?_
 refine fS U (IA (j-1) U (aj (n:=l.length) 1 U sq) cx dc om om) ?_
 refine fS U (fY (j-1) 0 (vI y) U cd (aj (n:=q.length) 1 U sm) AA U dc U)<|eS U (MV U)<|eS U (MV U) ?_
 refine fS U (IA j U (aj (n:=l.length) 1 U sq) cx dc om om) ?_
 refine fS U (fY j 0 (vI x) U cd (aj (n:=q.length) 1 U sm) K U dc U) ?_
 refine fS U (IA j U (aj (n:=l.length) 1 U sq) cx dc om om) ?_
 refine e7 U<|cf U fun T14 O=>eD (k:=j) (o:=0) (vs:=[(vI y)]) (es':=(List.map iC (q.set j y))) (C':=[_,(own lA lC 3 1 (List.map iC (q.set j y)))]) 1 U U U AE U U U U K U dc (by exact (List.map_set (f:=iC) (l:=q) (i:=j) (a:=y)).symm) U<|aG (O _ _ (aL [0]) ?_)
 refine cf U fun T15 P=>?_
 obtain ⟨g,T⟩:=aM (q.set j y) (j-1) os
 have hx17m:(List.map iC (q.set j y))[(j-1)]? =some (iC g):=by rw [fy,T]; rfl
 refine rS (IA (j-1) U (aj (n:=l.length) 1 U sq) cx dc om om) ?_
 refine aG (P _ _ (aL [0]) ?_)
 refine cf U fun T18 R=>eD (k:=(j-1)) (o:=0) (vs:=[(vI x)]) (es':=(List.map iC ((q.set j y).set (j-1) x))) (C':=[_,(own lA lC 3 1 (List.map iC ((q.set j y).set (j-1) x)))]) 1 U U U AE U U U U hx17m U dc (by exact (List.map_set (f:=iC) (l:=(q.set j y)) (i:=(j-1)) (a:=x)).symm) U<|aG (R _ _ (aL [0]) ?_)
 refine fK U<|aH<|KK M<|ao<|rP 3 [] I ?_
 refine aG ?_
 have S:(vI (((j-1):Nat):Int))=(vI ((j:Int)-1)):=by exact cI om
 refine aW (Y ⟨((j-1),((q.set j y).set (j-1) x)),⟨om,by simp; exact D,KG hx hy A,GY om B hx hy om⟩⟩ _ _ _ U (by simp only []; omega) (cW 5<|bx U S<|dB.nil _) (aL [0,1]))
theorem Lx (l:List Int) (lA:OA) (lC:Nat) (f:Value) (key:Int→Int) (X:av) (hf: ∀ x0 x1,x0∈l∧x1∈l→D9 Tryz.prog f [.int .i64 x0,.int .i64 x1] [X] (.int .i64 (key x0-key x1))) (hkb: ∀ x∈l,0≤key x∧key x≤30000000) (hlen:l.length≤12):
 CT Tryz.prog 84 [(vS lA l.length lC),(vI (l.length:Int)),f] [X] (own lA lC 3 1 (l.map iC)) (fun (x:Unit)=>(vT [])) (fun (x:Unit)=>True) (fun (x:Unit)=>(own lA lC 3 1 ((eA key l).map iC))):=by
 refine mx kr Tryz.func84 U U fun N Q hQ hN=>?_
 try dsimp only
 refine WS fun _ C=>bo 1 U<|RK C<|WS fun _ D=>bo 3 U<|RK D<|al fun _ E=>ay<|jI 1<|eo fun R4 M=>al fun _ L=>WS fun _ F=>rP 3 [] I ?_
 refine RK F<|cO U (aP fun K=>?_) (aR fun K=>?_)
 ·exfalso; omega
 refine bE<|ag<|ag<|aA<|KK E<|WS fun _ G=>rP 4 [] I ?_
 refine iI 0 U U U U (BP l lA lC f key X (by exact hf) hkb sd) U (d_ 1 U U (dD (bQ _)) kb) U (fun O J=>?_)
 try dsimp only
 refine RK G<|ay<|jI 1<|eo fun R11 AA=>al fun _ H=>WS fun _ A=>rP 3 [] I ?_
 refine RK A<|cO U (aP fun B=>?_) (aR fun B=>?_)
 ·exfalso; omega
 refine bE<|ag<|ag<|aA<|LM hN () 0 [] I U U U U ?_
 trivial
theorem z4 (l:List Int) (lA:OA) (lC:Nat) (f:Value) (key:Int→Int) (X:av) (hf: ∀ x0 x1,x0∈l∧x1∈l→D9 Tryz.prog f [.int .i64 x0,.int .i64 x1] [X] (.int .i64 (key x0-key x1))) (hkb: ∀ x∈l,0≤key x∧key x≤30000000) (hlen:l.length≤12):
 CT Tryz.prog 62 [(vS lA l.length lC),f] [X] (own lA lC 3 1 (l.map iC)) (fun (x:Unit)=>(vT [])) (fun (x:Unit)=>True) (fun (x:Unit)=>(own lA lC 3 1 ((eA key l).map iC))):=by
 refine mx kr Tryz.func62 U U fun B Q hQ hN=>?_
 try dsimp only
 refine ao<|rP 4 [] I ?_
 refine iI 0 U U U U (Lx l lA lC f key X (by exact hf) hkb hlen) U (d_ 1 U U (dD (bQ _)) kb) U (fun C A=>?_)
 try dsimp only
 refine aG<|LM hN () 0 [] I U U U U ?_
 trivial
theorem yN (l:List Int) (lA:OA) (lC:Nat) (f:Value) (key:Int→Int) (X:av) (hf: ∀ x0 x1,x0∈l∧x1∈l→D9 Tryz.prog f [.int .i64 x0,.int .i64 x1] [X] (.int .i64 (key x0-key x1))) (hkb: ∀ x∈l,0≤key x∧key x≤30000000) (hlen:l.length≤12):
 lE Tryz.prog 40 [(vS lA l.length lC),f] [(rd lA l.length 1 (l.map iC)),X] (fun (x:(OA)×Nat)=>(vS x.1 ((eA key l).length) x.2)) (fun (x:(OA)×Nat)=>True) (fun (x:(OA)×Nat)=>[(own x.1 x.2 3 1 ((eA key l).map iC))]):=by
 refine dv kr Tryz.func40 U U fun J Q hQ hN=>?_
 try dsimp only
 refine WS fun _ B=>bo 1 U<|RK B<|WS fun _ C=>rP 1 [] I ?_
 refine cX (vG l lA lC sd) (bp [0]) U fun AA G=>?_
 obtain ⟨E,F⟩:=AA
 try dsimp only
 refine bo 1 U<|RK C<|WS fun _ D=>rP 2 [] I ?_
 refine iI 0 U U U U (z4 l E F f key X (by exact hf) hkb hlen) U (d_ 2 U U (dD (bQ _)) kb) U (fun K H=>?_)
 try dsimp only
 refine RK D<|WS fun _ A=>rP 2 [] I ?_
 refine RK A<|aq ?_
 refine LX hQ (E,F) [0] [] I U U U ?_ ?_
 ·first|rfl|(rw [ke]; rfl)
 ·trivial
theorem Gs (l:List Int) (lA:OA) (lC k:Nat) (hk:k≤l.length) (hlen:l.length≤1000000):
 CT Tryz.prog 70 [(vS lA k lC)] [] (own lA lC 3 1 (l.map iC)) (fun (x:Unit)=>(vT [])) (fun (x:Unit)=>True) (fun (x:Unit)=>(own lA lC 3 1 ((rr k l).map iC))):=by
 refine mx kr Tryz.func70 U U fun V Q hQ hN=>?_
 try dsimp only
 refine WS fun _ J=>rP 5 [] I ?_
 refine RK J<|ay ?_
 have B:(0≤k)∧(Hr l k 0 l):=by exact ⟨Nat.zero_le _,LR⟩
 have P:(vI ((k:Int)-1-(0:Int)))=(vI ((k:Int)-1)):=by exact cI om
 refine bS (ι:={z:Nat×(List Int) // (z.1≤k)∧(Hr l k z.1 z.2)}) [0] [] U U (fun z=>[(2,(vI (z.1.1:Int))),(3,(vI ((k:Int)-1-(z.1.1:Int))))]) (fun z=>[(own lA lC 3 1 (z.1.2.map iC))]) (fun _=>rfl) (fun _=>rfl) (fun z=>k-z.1.1) ⟨(0,l),B⟩ (dB.cons U<|bx U P<|dB.nil _) (aL [0]) ?_
 clear B
 rintro ⟨⟨i,m⟩,⟨C,A⟩⟩ J3 AB
 try dsimp only at C A
 try dsimp only
 have AA:=A.1
 refine al fun _ K=>WS fun _ L=>rP 3 [] I ?_
 refine RK L<|bV U (aR fun T=>?_) (aP fun T=>?_)
 ·refine bE<|ag<|ag<|aA ?_
  rw [show m=rr k l from M8 hk om A]
  refine LM hN () 0 [] I U U U U ?_
  trivial
 refine WK K<|al fun _ M=>ay<|dL cy [13,14,15] [6,7,10,11,12] [] [] [0] U U U U U<|eS U (MV U)<|eS U (MV U)<|eS U (MV U)<|eS U (MV U)<|eS U (MV U)<|eS U (MV U) ?_
 obtain ⟨y,hy⟩:=aM m ((((k:Int)-1-(i:Int))).toNat) om
 have R:=bL iC hy
 refine fS U (QQ ((((k:Int)-1-(i:Int))).toNat) U (aj (n:=m.length) 0 U sm) cx dc om om om)<|fS U (fY ((((k:Int)-1-(i:Int))).toNat) 0 (vI y) U cd (aj (n:=m.length) 0 U sm) R U dc U)<|eS U (MV U)<|eS U (MV U) ?_
 obtain ⟨x,hx⟩:=aM m i om
 have H:=bL iC hx
 refine fS U (QQ i U (aj (n:=m.length) 0 U sm) cx dc om om om)<|fS U (fY i 0 (vI x) U cd (aj (n:=m.length) 0 U sm) H U dc U)<|fS U (QQ i U (aj (n:=m.length) 0 U sm) cx dc om om om)<|e7 U<|cf U fun T8 N=>eD (k:=i) (o:=0) (vs:=[(vI y)]) (es':=(List.map iC (m.set i y))) (C':=[(own lA lC 3 1 (List.map iC (m.set i y)))]) 0 U U U AE U U U U H U dc (by exact (List.map_set (f:=iC) (l:=m) (i:=i) (a:=y)).symm) U<|aG (N _ _ (aL []) ?_)
 refine cf U fun T9 O=>?_
 obtain ⟨S,G⟩:=aM (m.set i y) ((((k:Int)-1-(i:Int))).toNat) os
 have hx11m:(List.map iC (m.set i y))[(((k:Int)-1-(i:Int))).toNat]? =some (iC S):=by rw [fy,G]; rfl
 refine rS (QQ ((((k:Int)-1-(i:Int))).toNat) U (aj (n:=(m.set i y).length) 0 U sm) cx dc om om (by simp; omega)) ?_
 refine aG (O _ _ (aL []) ?_)
 refine cf U fun T12 D=>eD (k:=(((k:Int)-1-(i:Int))).toNat) (o:=0) (vs:=[(vI x)]) (es':=(List.map iC ((m.set i y).set ((((k:Int)-1-(i:Int))).toNat) x))) (C':=[(own lA lC 3 1 (List.map iC ((m.set i y).set ((((k:Int)-1-(i:Int))).toNat) x)))]) 0 U U U AE U U U U hx11m U dc (by exact (List.map_set (f:=iC) (l:=(m.set i y)) (i:=(((k:Int)-1-(i:Int))).toNat) (a:=x)).symm) U<|aG (D _ _ (aL []) ?_)
 refine fK U<|aH<|KK M<|ao<|rP 6 [] I ?_
 refine aG ?_
 have E:(vI (((i+1):Nat):Int))=(vI ((i:Int)+1)):=by exact cI om
 have F:(vI ((k:Int)-1-(((i+1):Nat):Int)))=(vI (((k:Int)-1-(i:Int))-1)):=by exact cI om
 refine aW (AB ⟨((i+1),((m.set i y).set ((((k:Int)-1-(i:Int))).toNat) x)),⟨om,Ky hk om om A hx hy⟩⟩ _ _ _ U os (dB.cons U<|bx U E<|bx U F<|dB.nil _) (aL [0]))
end
section
open Go.RowKit
theorem Jm (a b:Int) (r:cm) (kA:OA) (kC:Nat) (cA:OA) (cC:Nat) (bA:OA) (bC:Nat) (slA:OA) (slC:Nat) (drA:OA) (drC:Nat) (heA:OA) (heC:Nat) (tA:OA) (tN tC:Nat) (gs gw:Nat) (m:g3) (g1:Nat) (hb: ∀ p∈m,0≤p.2.Lo∧p.2.Lo≤p.2.Hi∧p.2.Hi≤30000000):
 eg Tryz.prog 43 [(vI a),(vI b),(vP g1)] [(bY gw 88 (fO.cells (fO.mk (oE r kA kC cA cC bA bC slA slC drA drC heA heC) (aN.mk tA tN tC) (Value.map (some gs))))),(ik iV gs (bT dV m)),(bY g1 80 [(vP gw)])] (vI ((aB m a).Lo-(aB m b).Lo)):=by
 have A:=gL (i:=a) hb
 have B:=gL (i:=b) hb
 refine bI kr Tryz.func43 U U fun E Q hQ hN=>?_
 try dsimp only
 refine WS fun _ C=>bo 1 U<|RK C<|al fun _ D=>dq cy 16 kr<|mu 1 [] (mr 2 U I) U<|dS (SX (bO U U) U U)<|mu 3 [] (mr 0 U I) U<|dS (SX (kM (kV:=iV) (x:=a) (l:=m) (f:=dV) (z:=(aa.mk 0 0)) U U U nK (eL pK) xd (by exact kU 1 U)) U U)<|dS (SX (kK (v:=(vI (((List.lookup a m).getD (aa.mk 0 0)).Lo))) U U fB zE U) U U)<|mu 1 [] (mr 2 U I) U<|dS (SX (bO U U) U U)<|dP 3 [] (mr 0 U I) ?_
 refine dS (SX (kM (kV:=iV) (x:=b) (l:=m) (f:=dV) (z:=(aa.mk 0 0)) U U U nK (eL pK) xd (by exact kU 1 U)) U U)<|dS (SX (kK (v:=(vI (((List.lookup b m).getD (aa.mk 0 0)).Lo))) U U fB zE U) U U) ?_
 unfold aB at A B
 simp only [dA] at A B
 refine dP 2 [] I ?_
 refine cL<|RK D<|aq ?_
 exact Q1 hQ U U U U
theorem EU (r:cm) (kA:OA) (kC:Nat) (az:List RA) (cA:OA) (cC:Nat) (bA:OA) (bC:Nat) (slA:OA) (slC:Nat) (drA:OA) (drC:Nat) (ha:List cS) (heA:OA) (heC:Nat) (hin:fm r az ha):
 lE Tryz.prog 20 [(vA (br.cells (oE r kA kC cA cC bA bC slA slC drA drC heA heC)))] [(rd dH 3 2 dp),(rd kA r.ah.aI.length 9 (r.ah.aI.map an.cells)),(rd cA r.ah.ai.length 2 (List.zipWith au.cells r.ah.ai az)),(e9 (aS au.gW r.ah.ai az)),(rd bA r.ah.ae.length 4 (r.ah.ae.map bG.cells)),(rd slA r.aJ.length 1 (r.aJ.map iC)),(rd drA r.bB.length 1 (r.bB.map iC)),(rd heA r.ar.length 1 (List.zipWith cJ r.ar ha)),(e9 (aS iu r.ar ha))] (fun (x:(List RA)×(OA)×Nat)=>(vT [(vS x.2.1 ((bD r).length) x.2.2),(vI (bX r))])) (fun (x:(List RA)×(OA)×Nat)=>x.1.length=(bD r).length) (fun (x:(List RA)×(OA)×Nat)=>[(own x.2.1 x.2.2 29 1 (List.zipWith j5 (bD r) x.1)),(bq (aS nk (bD r) x.1))]):=by
 have Aq:=hin.line
 have BG:=hin.iQ
 have BH:=hin.has
 have A1:=hin.iP
 have Ay:=hin.draw
 have A2:=dG (r:=r)
 refine dv kr Tryz.func20 U U fun w0 Q hQ hN=>?_
 try dsimp only
 refine WS fun _ Al=>fR U fun b2=>bo 2 U<|RK Al<|WS fun _ AC=>rP 1 [] (mc 0 U I) ?_
 refine cX (nR r kA kC az cA cC bA bC slA slC drA drC ha heA heC hin) (bp [1,2,3,4,5,6,7,8,9]) U fun y4 Ac=>?_
 obtain ⟨Ad,BD,X,O,Ae,W,A6⟩:=y4
 cases Ad
 ·obtain ⟨AZ,he⟩:=Ac.2 rfl
  try dsimp only at AZ he
  subst AZ
  try dsimp only [cond_true,cond_false,List.cons_append,List.nil_append]
  refine bo 3 U<|AL U SA fun A8=>Gq U Sr U U<|bo 1 U<|RK AC<|al fun _ Ax=>WS fun _ p=>rP 2 [] I ?_
  refine RK p<|bV U (bg fun g=>?_) (bh fun g=>?_)
  ·exact absurd g he
  refine WS fun _ s=>rP 1 [] I ?_
  have E:bD r=[]:=Bk he
  have Z:([]:List RA).length=(bD r).length:=by rw [E]; rfl
  refine dM 29 1<|xe ?_
  rw [show (own none 0 29 1 ([]:List (List Value)))=own none 0 29 1 (List.zipWith j5 (bD r) []) from by rw [E]; rfl,show bq []=bq (aS nk (bD r) []) from by rw [E]; rfl]
  refine rP 2 [] I ?_
  refine RK s<|aq ?_
  refine LX hQ ([],none,0) [1,0] [] I U (by show List.all _ _=true; simp only [fH,List.all_nil,IS,Bool.and_true]; rfl) U ?_ ?_
  ·first|rfl|(rw [E]; rfl)|(rw [he,← E,List.length_map]; rfl)|(rw [he,E]; rfl)
  ·exact Z
 obtain ⟨he,BJ⟩:=Ac.1 rfl
 try dsimp only [cond_true,cond_false,List.cons_append,List.nil_append]
 have BL:=m_ he
 have A0:=oM he
 refine bo 3 U<|AL U SA fun R=>Gq U Sr U U<|bo 1 U<|RK AC<|al fun _ t=>WS fun _ v=>bo 1 U<|rS (SX (bZ (r:= .bool false) U U U ig) U U)<|RK v<|aX U<|WK t<|WS fun _ w=>bo 1 U<|RK w<|WS fun _ y=>bo 1 U<|RK y<|al fun _ AA=>WS fun _ AB=>fD 1 [] (mc 0 U I) U<|rS (SX (bO U U) U U)<|rP 2 [] (mc 1 U I) ?_
 refine cX (FK O) (aK) U fun Ah A3=>?_
 try dsimp only
 refine cX (yw (aF r) O Ah sd) (bp [5,0]) U fun Av A4=>?_
 obtain ⟨Ag,Ai⟩:=Av
 try dsimp only
 rw [show (aF r).length=(di ((aF r).map (·.1))).length from by rw [gp,List.length_map]]
 refine rS (FU U) ?_
 refine cX (yN (di ((aF r).map (·.1))) Ag Ai (Value.func (.func 43) [].toArray [(vP R)].toArray) (fun u=>(aB (aF r) u).Lo) (e9 [(bY X 88 (fO.cells (fO.mk (oE r kA kC cA cC bA bC slA slC drA drC heA heC) (aN.mk Ae ((cR r).length) W) (Value.map (some O))))),(ik iV O (bT dV (aF r))),(bY R 80 [(vP X)])]) (by intro At Au _; exact ny (fi:=[]) (ca:=[(vP R)]) (lU (Jm At Au r kA kC cA cC bA bC slA slC drA drC heA heC Ae ((cR r).length) W O X (aF r) R (by first|assumption|omega)) (NZ 0 1 2 U U U U U U))) (by exact S5 BL) (by rw [gp,List.length_map]; omega)) (aw (aj (n:=(di ((aF r).map (·.1))).length) 0 U sm)<|aw (lW (NZ 3 6 2 U U U U U U))<|aK) U fun Aw A5=>?_
 obtain ⟨A7,BC⟩:=Aw
 try dsimp only
 have BI:(eA (fun u=>(aB (aF r) u).Lo) (di ((aF r).map (·.1)))).length=(aF r).length:=by rw [ke,gp,List.length_map]
 have Ab:Dt (fun u=>(aB (aF r) u).Lo) (eA (fun u=>(aB (aF r) u).Lo) (di ((aF r).map (·.1)))):=tR
 refine rP 2 [] I ?_
 refine RK AB<|ay<|fT 29 1<|oa ?_
 have H:(0≤(eA (fun u=>(aB (aF r) u).Lo) (di ((aF r).map (·.1)))).length)∧(([]:List RA).length=([]:List (List Int)).length)∧(l7 (aB (aF r)) ((eA (fun u=>(aB (aF r) u).Lo) (di ((aF r).map (·.1)))).take 0) ([]:List (List Int)) (-1))∧(-1≤(-1)∧(-1)≤30000000):=by exact ⟨Nat.zero_le _,rfl,Ft,om⟩
 refine bS (ι:={z:Nat×(List (List Int))×(List RA)×(OA)×Nat×Int // (z.1≤(eA (fun u=>(aB (aF r) u).Lo) (di ((aF r).map (·.1)))).length)∧(z.2.2.1.length=z.2.1.length)∧(l7 (aB (aF r)) ((eA (fun u=>(aB (aF r) u).Lo) (di ((aF r).map (·.1)))).take z.1) z.2.1 z.2.2.2.2.2)∧(-1≤z.2.2.2.2.2∧z.2.2.2.2.2≤30000000)}) [1,4,29,30] [2,3,5,6,7,8,9,11,12,13,14,15,16,17,18,19] U U (fun z=>[(6,(vS z.1.2.2.2.1 z.1.2.1.length z.1.2.2.2.2.1)),(7,(vI z.1.2.2.2.2.2)),(31,(vI (z.1.1:Int)))]) (fun z=>[(bq (aS nk z.1.2.1 z.1.2.2.1)),(own z.1.2.2.2.1 z.1.2.2.2.2.1 29 1 (List.zipWith j5 z.1.2.1 z.1.2.2.1))]) (fun _=>rfl) (fun _=>rfl) (fun z=>(eA (fun u=>(aB (aF r) u).Lo) (di ((aF r).map (·.1)))).length-z.1.1) ⟨(0,([]:List (List Int)),([]:List RA),none,0,(-1)),H⟩ (aV U) (aL [2,3,5,6,7,8,9,11,12,13,14,15,16,17,18,19,0,1]) ?_
 clear H
 rintro ⟨⟨i,G,gz,a,c,last⟩,⟨b,C,A,d⟩⟩ J37 T
 try dsimp only at b C A d
 try dsimp only
 have An:G.length≤12:=by have:=FE A; omega
 have BE:(G++[([]:List Int)]).length=G.length+1:=by simp
 have Az:(gz++[((none,0):RA)]).length=gz.length+1:=by simp
 refine WS fun _ AD=>rP 1 [] I ?_
 refine RK AD<|al fun _ AE=>bV U (aR fun Aj=>?_) (aP fun Aj=>?_)
 ·refine bE<|ag<|ag<|aA<|KK AA<|al fun _ AN=>al fun _ AO=>?_
  have An:G.length≤12:=by have:=FE A; omega
  refine ao<|rP 3 [] I ?_
  refine RK AO<|ay ?_
  have H:(0≤G.length):=by exact Nat.zero_le _
  refine bS (ι:={z:Nat // (z≤G.length)}) [1,6,66,67] [0,1,3,4,5,6,7,8,9,10,11,12,13,14,15,17] U U (fun z=>[(68,(vI (z.1:Int)))]) (fun z=>[(bq (aS nk (nB G z.1) gz))]) (fun _=>rfl) (fun _=>rfl) (fun z=>G.length-z.1) ⟨0,H⟩ (aV U) (aL [0,1,3,4,5,6,7,8,9,10,11,12,13,14,15,17,16]) ?_
  clear H
  rintro ⟨j,Af⟩ J65 h
  try dsimp only
  refine WS fun _ AP=>rP 1 [] I ?_
  refine RK AP<|al fun _ AQ=>bV U (aR fun Ak=>?_) (aP fun Ak=>?_)
  ·refine bE<|ag<|ag<|aA<|KK AN<|al fun _ AT=>?_
   have Ap:G.length≤j:=by omega
   have Y:=uG A.ok
   rw [List.take_of_length_le om] at Y
   have E:G.map di=bD r:=sU he (p6 Y.1 (qe.trans fE)) Y.2
   have Z:gz.length=(bD r).length:=by rw [← E,List.length_map]; omega
   rw [DZ Ap,E,← Ie,E]
   refine ao<|bo 1 U<|rP 2 [] I ?_
   refine RK AT<|aq ?_
   refine LX hQ (gz,a,c) [15,16] [] I U (by show List.all _ _=true; simp only [fH,List.all_nil,IS,Bool.and_true]; rfl) U ?_ ?_
   ·first|rfl|(rw [E]; rfl)|(rw [he,← E,List.length_map]; rfl)|(rw [he,E]; rfl)
   ·exact Z
  refine WK AQ<|al fun _ AR=>ay<|al fun _ AS=>?_
  obtain ⟨cg,B⟩:=aM G j om
  obtain ⟨cga,D⟩:=aM gz j om
  have F:(List.zipWith j5 G gz)[j]? =some (j5 cg cga):=dT B D
  refine Dd (f:=nk) 16 (Gx B) D U U U ?_
  try dsimp only
  refine ao<|rS (IA j U (aj (n:=G.length) 17 U (k6 C)) o6 dc om om)<|rS (fY j 0 (vS cga.1 cg.length cga.2) U cd (aj (n:=G.length) 17 U (k6 C)) F U dc U)<|bo 1 U<|RK AS<|ao<|rP 1 [] I ?_
  refine iI 0 U U U U (zU cg cga.1 cga.2 (by have:=zN A (aU B); omega)) U kb U (fun msrt Aa=>?_)
  try dsimp only
  refine aG<|aH<|KK AR<|ao<|rP 2 [] I ?_
  refine aG ?_
  obtain rfl:=pV Aa.1 Aa.2
  refine MI (f:=nk) (ms:=nB G j) (m:=di cg) 1 0 (by rw [Ep]; omega) D U U U ?_
  rw [Dy B]
  have AY:(vI (((j+1):Nat):Int))=(vI ((j:Int)+1)):=by exact cI om
  refine aW (h ⟨(j+1),(by first|omega|(simp only []; omega))⟩ _ _ _ U os (cW 4<|bx U AY<|dB.nil _) (aL [1,2,3,4,5,6,7,8,9,10,11,12,13,14,15,16,0]))
 refine WK AE<|al fun _ BK=>ay<|WS fun _ AF=>?_
 obtain ⟨x,hx⟩:=aM (eA (fun u=>(aB (aF r) u).Lo) (di ((aF r).map (·.1)))) i om
 have As:=bL iC hx
 refine rS (IA i U (aj (n:=(eA (fun u=>(aB (aF r) u).Lo) (di ((aF r).map (·.1)))).length) 0 U sm) cx dc om om)<|rS (fY i 0 (vI x) U cd (aj (n:=(eA (fun u=>(aB (aF r) u).Lo) (di ((aF r).map (·.1)))).length) 0 U sm) As U dc U)<|bo 1 U<|RK AF<|WS fun _ AG=>fD 1 [] (mc 2 U I) U<|rS (SX (bO U U) U U)<|rP 2 [] (mc 3 U I) ?_
 have Ar:=gL (i:=x) BL
 refine rP 1 [] I ?_
 refine rS (SX (kM (kV:=iV) (x:=x) (l:=(aF r)) (f:=dV) (z:=(aa.mk 0 0)) U U U nK (eL pK) xd (by exact aD 6 U)) U U)<|AL U dg fun A9=>fQ U cu U<|RK AG<|al fun _ V=>WS fun _ AH=>?_
 rw [show ((List.lookup x (aF r)).getD (aa.mk 0 0))=(aB (aF r) x) from rfl]
 refine rP 4 [] (mc 0 U I) ?_
 refine RK AH<|bV U (aR fun N=>?_) (aP fun N=>?_)
 ·refine WK V<|al fun _ AK=>?_
  have BF:1≤G.length:=Ff Ar.1 A N
  refine ao<|rP 4 [] I ?_
  refine RK AK<|al fun _ AM=>?_
  have Ao:(G.length-1)<G.length:=by first|omega|(simp; done)
  obtain ⟨cg,B⟩:=aM G (G.length-1) om
  obtain ⟨cga,D⟩:=aM gz (G.length-1) om
  have F:(List.zipWith j5 G gz)[(G.length-1)]? =some (j5 cg cga):=dT B D
  refine Dd (f:=nk) 17 B D U U U ?_
  try dsimp only
  refine ao<|bo 4 U<|rS (IA (G.length-1) U (aj (n:=G.length) 19 U (k6 C)) o6 dc om om)<|rS (fY (G.length-1) 0 (vS cga.1 cg.length cga.2) U cd (aj (n:=G.length) 19 U (k6 C)) F U dc U)<|rP 1 [] I ?_
  have Am:cg.length≤12:=(List.mem_append.1 (show cg∈G++[[]] from by first|exact aU B|exact List.mem_append_left _ (aU B))).elim (fun q=>by have:=zN A q; omega) (fun q=>by simp at q; subst q; simp)
  refine cZ (xs:=[.tmp 57]) (cs:=[(vI x)]) U cx i_ U U U U (by simp [Value.cells]) U U fun BB=>?_
  refine df (es2:=(List.map iC (cg++[x]))) (m':=(cg++[x]).length) 1 U U U pO U U sm (a_ (es:=List.map iC [x]) 0 U U (by simp [bK]) U) (j9 _) os (by first|(simp only [maxLen]; omega)|(simp [maxLen]; omega)) sm sm U fun K M=>?_
  try dsimp only
  refine rS (IA (G.length-1) U (aj (n:=G.length) 20 U (k6 C)) o6 dc om om)<|eD (k:=(G.length-1)) (o:=0) (vs:=[(vS K ((cg++[x]).length) M)]) (es':=(List.zipWith j5 (G.set (G.length-1) (cg++[x])) (gz.set (G.length-1) (K,M)))) (C':=[_,_,_,_,_,_,_,_,_,_,_,_,_,_,_,_,_,_,_,_,(own a c 29 1 (List.zipWith j5 (G.set (G.length-1) (cg++[x])) (gz.set (G.length-1) (K,M))))]) 20 U U U zX U U U U F U dc (by exact qt (c:=j5) (m:=(cg++[x])) (a:=(K,M))) U<|Fa (f:=nk) (ms:=G) (asl:=gz) (m:=(cg++[x])) (a:=(K,M)) 2 1 om om U U U<|RK AM<|ao<|fD 3 [] (mc 2 U I) U<|rS (MX U)<|bo 1 U<|aG<|aH<|KK BK<|ao<|rP 2 [] I ?_
  refine aG ?_
  have AW:(vS a ((G.set (G.length-1) (cg++[x])).length) c)=(vS a G.length c):=by rw [List.length_set]
  have AX:(vI (((i+1):Nat):Int))=(vI ((i:Int)+1)):=by exact cI om
  refine aW (T ⟨((i+1),(G.set (G.length-1) (cg++[x])),(gz.set (G.length-1) (K,M)),a,c,(max last ((aB (aF r) x).Hi))),⟨om,by simp; omega,by first|exact o7 om hx B A N|exact oc om (fun u _=>(gL (i:=u) BL).2.1) Ab hx B A N,dso⟩⟩ _ _ _ U os (cW 4<|bx U AW<|dB.cons U<|bx U AX<|dB.nil _) (aL [3,4,5,6,7,8,9,10,11,12,13,14,15,16,17,18,0,19]))
 refine ao<|rP 1 [] I ?_
 refine cZ (xs:=[.const (vS none 0 0)]) (cs:=[(vS none 0 0)]) U o6 vk U U U U (by simp [Value.cells]) U U fun A_=>?_
 refine df (es2:=(List.zipWith j5 (G++[[]]) (gz++[(none,0)]))) (m':=(G++[[]]).length) 19 rfl rfl rfl Tx rfl rfl (k6 C).symm (a_ (es:=List.zipWith j5 [[]] [(none,0)]) 0 rfl rfl (by intro e he; simp [j5] at he; subst he; rfl) rfl) (L6 _ _) om (by simp only [maxLen]; omega) (HC om) (by simp; omega) rfl fun P S=>?_
 try dsimp only
 refine dM 3 1<|P6 (Y':=aS nk (G++[[]]) (gz++[(none,0)])) 19 0 U U (Dl om U)<|bo 1 U<|RK V<|WS fun _ AI=>rP 4 [] I ?_
 refine RK AI<|al fun _ AJ=>?_
 have Ao:((G++[[]]).length-1)<(G++[[]]).length:=by first|omega|(simp; done)
 obtain ⟨cg,B⟩: ∃ y_,(G++[[]])[((G++[[]]).length-1)]? =some y_:=⟨(G++[[]])[((G++[[]]).length-1)]'om,e8 _⟩
 obtain ⟨cga,D⟩: ∃ y_,(gz++[(none,0)])[((G++[[]]).length-1)]? =some y_:=⟨(gz++[(none,0)])[((G++[[]]).length-1)]'om,e8 _⟩
 have F:(List.zipWith j5 (G++[[]]) (gz++[(none,0)]))[((G++[[]]).length-1)]? =some (j5 cg cga):=dT B D
 refine Dd (f:=nk) 0 B D U U U ?_
 try dsimp only
 refine ao<|rP 4 [] I ?_
 refine rS (IA ((G++[[]]).length-1) U (aj (n:=(G++[[]]).length) 20 U (k6 (by simp; omega))) o6 dc om om) ?_
 refine rS (fY ((G++[[]]).length-1) 0 (vS cga.1 cg.length cga.2) U cd (aj (n:=(G++[[]]).length) 20 U (k6 (by simp; omega))) F U dc U) ?_
 refine rP 1 [] I ?_
 have Am:cg.length≤12:=(List.mem_append.1 (show cg∈G++[[]] from by first|exact aU B|exact List.mem_append_left _ (aU B))).elim (fun q=>by have:=zN A q; omega) (fun q=>by simp at q; subst q; simp)
 refine cZ (xs:=[.tmp 57]) (cs:=[(vI x)]) U cx i_ U U U U (by simp [Value.cells]) U U fun BA=>?_
 refine df (es2:=(List.map iC (cg++[x]))) (m':=(cg++[x]).length) 1 U U U pO U U sm (a_ (es:=List.map iC [x]) 0 U U (by simp [bK]) U) (j9 _) os (by first|(simp only [maxLen]; omega)|(simp [maxLen]; omega)) sm sm U fun J L=>?_
 try dsimp only
 refine rS (IA ((G++[[]]).length-1) U (aj (n:=(G++[[]]).length) 21 U (k6 (by simp; omega))) o6 dc om om) ?_
 refine eD (k:=((G++[[]]).length-1)) (o:=0) (vs:=[(vS J ((cg++[x]).length) L)]) (es':=(List.zipWith j5 ((G++[[]]).set ((G++[[]]).length-1) (cg++[x])) ((gz++[(none,0)]).set ((G++[[]]).length-1) (J,L)))) (C':=[_,_,_,_,_,_,_,_,_,_,_,_,_,_,_,_,_,_,_,_,_,(own P S 29 1 (List.zipWith j5 ((G++[[]]).set ((G++[[]]).length-1) (cg++[x])) ((gz++[(none,0)]).set ((G++[[]]).length-1) (J,L))))]) 21 U U U zX U U U U F U dc (by exact qt (c:=j5) (m:=(cg++[x])) (a:=(J,L))) U<|Fa (f:=nk) (ms:=(G++[[]])) (asl:=(gz++[(none,0)])) (m:=(cg++[x])) (a:=(J,L)) 2 1 om om U U U<|RK AJ<|ao<|fD 3 [] (mc 3 U I) U<|rS (MX U)<|bo 1 U<|aG<|aH<|KK BK<|ao<|rP 2 [] I ?_
 refine aG ?_
 have AU:(vS P (((G++[[]]).set ((G++[[]]).length-1) (cg++[x])).length) S)=(vS P ((G++[[]]).length) S):=by rw [List.length_set]
 have AV:(vI (((i+1):Nat):Int))=(vI ((i:Int)+1)):=by exact cI om
 refine aW (T ⟨((i+1),((G++[[]]).set ((G++[[]]).length-1) (cg++[x])),((gz++[(none,0)]).set ((G++[[]]).length-1) (J,L)),P,S,(max last ((aB (aF r) x).Hi))),⟨om,by simp; omega,by first|exact o7 om hx B A N|exact oc om (fun u _=>(gL (i:=u) BL).2.1) Ab hx B A N,dso⟩⟩ _ _ _ U os (cW 4<|bx U AU<|dB.cons U<|bx U AV<|dB.nil _) (aL [4,5,6,7,8,9,10,11,12,13,14,15,16,17,18,19,0,20]))
end
section
open Go.RowKit
theorem uH (G:List (List Int)) (H:List (List Int)) (gz:List RA) (gA:OA) (gC:Nat) (hz:List RA) (hA:OA) (hC:Nat) (h1:G.length≤1000000) (h2:H.length≤1000000) (h3: ∀ l∈G,l.length≤1000000) (h4: ∀ l∈H,l.length≤1000000) (hgz:gz.length=G.length) (hhz:hz.length=H.length):
 eg Tryz.prog 27 [(vS gA G.length gC),(vS hA H.length hC)] [(rd gA G.length 1 (List.zipWith j5 G gz)),(e9 (aS QB G gz)),(rd hA H.length 1 (List.zipWith j5 H hz)),(e9 (aS QB H hz))] (vB (decide (G=H))):=by
 refine bI kr Tryz.func27 U U fun Z Q hQ hN=>?_
 try dsimp only
 refine WS fun _ N=>bo 1 U<|RK N<|al fun _ O=>WS fun _ P=>rP 5 [] I ?_
 refine RK P<|cO U (bh fun hl=>?_) (bg fun hl=>?_)
 ·refine WS fun _ R=>rP 1 [] I ?_
  refine RK R<|aq<|Q1 hQ U U U ?_
  first|exact cB (cq (m0 hx hy h)).symm|exact cB (dw (nz om A om)).symm|exact cB (cq (fun e=>by subst e; omega)).symm
 refine WK O<|al fun _ S=>WS fun _ T=>rP 1 [] I ?_
 refine RK T<|ay ?_
 have B:(0≤G.length)∧(G.take 0=H.take 0):=by exact ⟨Nat.zero_le _,rfl⟩
 refine bS (ι:={z:Nat // (z≤G.length)∧(G.take z=H.take z)}) [0,1] [0,1,2,3] U U (fun z=>[(5,(vI (z.1:Int)))]) (fun z=>[]) (fun _=>rfl) (fun _=>rfl) (fun z=>G.length-z.1) ⟨0,B⟩ (aV U) (aL [0,1,2,3]) ?_
 clear B
 rintro ⟨i,⟨W,A⟩⟩ J7 M
 try dsimp only
 refine al fun _ AA=>WS fun _ V=>rP 4 [] I ?_
 refine RK V<|bV U (aR fun L=>?_) (aP fun L=>?_)
 ·refine bE<|ag<|ag<|aA<|KK S<|WS fun _ F=>rP 1 [] I ?_
  refine RK F<|aq<|Q1 hQ U U U ?_
  first|exact cB (cq (m0 hx hy h)).symm|exact cB (dw (nz om A om)).symm|exact cB (cq (fun e=>by subst e; omega)).symm
 refine WK AA<|al fun _ C=>ay<|al fun _ D=>dq cy 10 kr<|dP 2 [] I ?_
 obtain ⟨x,hx⟩:=aM G i om
 obtain ⟨xa,J⟩:=aM gz i om
 have X:(List.zipWith j5 G gz)[i]? =some (j5 x xa):=dT hx J
 refine dS (IA i U (aD 0 U) o6 dc om om)<|dS (fY i 0 (vS xa.1 x.length xa.2) U cd (aD 0 U) X U dc U)<|dP 2 [] I ?_
 obtain ⟨y,hy⟩:=aM H i om
 obtain ⟨ya,K⟩:=aM hz i om
 have Y:(List.zipWith j5 H hz)[i]? =some (j5 y ya):=dT hy K
 refine dS (IA i U (aD 2 U) o6 dc om om)<|dS (fY i 0 (vS ya.1 y.length ya.2) U cd (aD 2 U) Y U dc U)<|dS (CL (l0 x xa.1 xa.2 y ya.1 ya.2 (by exact h3 x (aU hx)) (by exact h4 y (aU hy))) (aw (show iU _ (rd xa.1 x.length 1 (x.map iC)).holds from (dy 1 U (b_ hx J (by simp [QB]))))<|aw (show iU _ (rd ya.1 y.length 1 (y.map iC)).holds from (dy 3 U (b_ hy K (by simp [QB]))))<|aK) U)<|dP 1 [] I ?_
 refine cL<|RK D<|cO U (bh fun h=>?_) (bg fun h=>?_)
 ·refine WS fun _ E=>rP 1 [] I ?_
  refine RK E<|aq<|Q1 hQ U U U ?_
  first|exact cB (cq (m0 hx hy h)).symm|exact cB (dw (nz om A om)).symm|exact cB (cq (fun e=>by subst e; omega)).symm
 refine cp<|aH<|KK C<|ao<|rP 3 [] I ?_
 refine aG ?_
 have AB:(vI (((i+1):Nat):Int))=(vI ((i:Int)+1)):=by exact cI om
 refine aW (M ⟨(i+1),⟨om,ud A hx hy h⟩⟩ _ _ _ U os (dB.cons U<|dB.cons U<|bx U AB<|dB.nil _) (aL [0,1,2,3]))
end
section
open Go.RowKit
theorem Je (l:List an) (lA:OA) (lC:Nat) (hlen:l.length≤1000000):
 lE Tryz.prog 97 [(vS lA l.length lC)] [(rd lA l.length 9 (l.map an.cells))] (fun (x:(OA)×Nat)=>(vS x.1 l.length x.2)) (fun (x:(OA)×Nat)=>True) (fun (x:(OA)×Nat)=>[(own x.1 x.2 122 9 (l.map an.cells))]):=by
 refine dv kr Tryz.func97 U U fun L Q hQ hN=>?_
 try dsimp only
 refine WS fun _ D=>bo 1 U<|RK D<|al fun _ E=>WS fun _ F=>rP 1 [] I ?_
 refine rS (BI U (p5 P9))<|RK F<|cO U (aP fun B=>?_) (aR fun B=>?_)
 ·refine WS fun _ G=>lX (aD 0 U) B dc fun C=>?_
  have A:l=[]:=by simpa using C
  refine dM 122 9 ?_
  rw [show (own none 0 122 9 ([]:List (List Value)))=own none 0 122 9 (l.map an.cells) from by rw [A]; rfl]
  refine rP 1 [] I ?_
  refine RK G<|aq ?_
  refine LX hQ (none,0) [0] [] I U U U ?_ ?_
  ·first|rfl|(rw [A]; rfl)
  ·trivial
 refine WK E<|WS fun _ H=>sG U xX U fun J=>rP 1 [] I ?_
 refine dY (es:=(List.map an.cells [])) (C':=[own (some ⟨J,0,none⟩) 0 122 9 (List.map an.cells []),_]) 0 U sm U (by simp [maxLen]) U ?_
 refine df (es2:=(List.map an.cells l)) (m':=l.length) 0 U U U TU U U sm (aD 1 U) (r8 _) os (by first|(simp only [maxLen]; omega)|(simp [maxLen]; omega)) sm sm U fun AA K=>?_
 try dsimp only
 refine rP 1 [] I ?_
 refine RK H<|aq ?_
 refine LX hQ (AA,K) [0] [] I U U U ?_ ?_
 ·first|rfl|(rw [A]; rfl)
 ·trivial
theorem Jq (l:List bG) (lA:OA) (lC:Nat) (hlen:l.length≤1000000):
 lE Tryz.prog 99 [(vS lA l.length lC)] [(rd lA l.length 4 (l.map bG.cells))] (fun (x:(OA)×Nat)=>(vS x.1 l.length x.2)) (fun (x:(OA)×Nat)=>True) (fun (x:(OA)×Nat)=>[(own x.1 x.2 129 4 (l.map bG.cells))]):=by
 refine dv kr Tryz.func99 U U fun L Q hQ hN=>?_
 try dsimp only
 refine WS fun _ D=>bo 1 U<|RK D<|al fun _ E=>WS fun _ F=>rP 1 [] I ?_
 refine rS (BI U (p5 PH))<|RK F<|cO U (aP fun B=>?_) (aR fun B=>?_)
 ·refine WS fun _ G=>lX (aD 0 U) B dc fun C=>?_
  have A:l=[]:=by simpa using C
  refine dM 129 4 ?_
  rw [show (own none 0 129 4 ([]:List (List Value)))=own none 0 129 4 (l.map bG.cells) from by rw [A]; rfl]
  refine rP 1 [] I ?_
  refine RK G<|aq ?_
  refine LX hQ (none,0) [0] [] I U U U ?_ ?_
  ·first|rfl|(rw [A]; rfl)
  ·trivial
 refine WK E<|WS fun _ H=>sG U vh U fun J=>rP 1 [] I ?_
 refine dY (es:=(List.map bG.cells [])) (C':=[own (some ⟨J,0,none⟩) 0 129 4 (List.map bG.cells []),_]) 0 U sm U (by simp [maxLen]) U ?_
 refine df (es2:=(List.map bG.cells l)) (m':=l.length) 0 U U U UA U U sm (aD 1 U) (vd _) os (by first|(simp only [maxLen]; omega)|(simp [maxLen]; omega)) sm sm U fun AA K=>?_
 try dsimp only
 refine rP 1 [] I ?_
 refine RK H<|aq ?_
 refine LX hQ (AA,K) [0] [] I U U U ?_ ?_
 ·first|rfl|(rw [A]; rfl)
 ·trivial
theorem K3 (l:List cG) (lA:OA) (lC:Nat) (hlen:l.length≤1000000):
 lE Tryz.prog 100 [(vS lA l.length lC)] [(rd lA l.length 3 (l.map cG.cells))] (fun (x:(OA)×Nat)=>(vS x.1 l.length x.2)) (fun (x:(OA)×Nat)=>True) (fun (x:(OA)×Nat)=>[(own x.1 x.2 124 3 (l.map cG.cells))]):=by
 refine dv kr Tryz.func100 U U fun L Q hQ hN=>?_
 try dsimp only
 refine WS fun _ D=>bo 1 U<|RK D<|al fun _ E=>WS fun _ F=>rP 1 [] I ?_
 refine rS (BI U (p5 Of))<|RK F<|cO U (aP fun B=>?_) (aR fun B=>?_)
 ·refine WS fun _ G=>lX (aD 0 U) B dc fun C=>?_
  have A:l=[]:=by simpa using C
  refine dM 124 3 ?_
  rw [show (own none 0 124 3 ([]:List (List Value)))=own none 0 124 3 (l.map cG.cells) from by rw [A]; rfl]
  refine rP 1 [] I ?_
  refine RK G<|aq ?_
  refine LX hQ (none,0) [0] [] I U U U ?_ ?_
  ·first|rfl|(rw [A]; rfl)
  ·trivial
 refine WK E<|WS fun _ H=>sG U p7 U fun J=>rP 1 [] I ?_
 refine dY (es:=(List.map cG.cells [])) (C':=[own (some ⟨J,0,none⟩) 0 124 3 (List.map cG.cells []),_]) 0 U sm U (by simp [maxLen]) U ?_
 refine df (es2:=(List.map cG.cells l)) (m':=l.length) 0 U U U QW U U sm (aD 1 U) (vg _) os (by first|(simp only [maxLen]; omega)|(simp [maxLen]; omega)) sm sm U fun AA K=>?_
 try dsimp only
 refine rP 1 [] I ?_
 refine RK H<|aq ?_
 refine LX hQ (AA,K) [0] [] I U U U ?_ ?_
 ·first|rfl|(rw [A]; rfl)
 ·trivial
theorem I0 (l:List aO) (lA:OA) (lC:Nat) (hlen:l.length≤1000000):
 lE Tryz.prog 103 [(vS lA l.length lC)] [(rd lA l.length 2 (l.map aO.cells))] (fun (x:(OA)×Nat)=>(vS x.1 l.length x.2)) (fun (x:(OA)×Nat)=>True) (fun (x:(OA)×Nat)=>[(own x.1 x.2 131 2 (l.map aO.cells))]):=by
 refine dv kr Tryz.func103 U U fun L Q hQ hN=>?_
 try dsimp only
 refine WS fun _ D=>bo 1 U<|RK D<|al fun _ E=>WS fun _ F=>rP 1 [] I ?_
 refine rS (BI U (p5 Si))<|RK F<|cO U (aP fun B=>?_) (aR fun B=>?_)
 ·refine WS fun _ G=>lX (aD 0 U) B dc fun C=>?_
  have A:l=[]:=by simpa using C
  refine dM 131 2 ?_
  rw [show (own none 0 131 2 ([]:List (List Value)))=own none 0 131 2 (l.map aO.cells) from by rw [A]; rfl]
  refine rP 1 [] I ?_
  refine RK G<|aq ?_
  refine LX hQ (none,0) [0] [] I U U U ?_ ?_
  ·first|rfl|(rw [A]; rfl)
  ·trivial
 refine WK E<|WS fun _ H=>sG U zO U fun J=>rP 1 [] I ?_
 refine dY (es:=(List.map aO.cells [])) (C':=[own (some ⟨J,0,none⟩) 0 131 2 (List.map aO.cells []),_]) 0 U sm U (by simp [maxLen]) U ?_
 refine df (es2:=(List.map aO.cells l)) (m':=l.length) 0 U U U Un U U sm (aD 1 U) (sx _) os (by first|(simp only [maxLen]; omega)|(simp [maxLen]; omega)) sm sm U fun AA K=>?_
 try dsimp only
 refine rP 1 [] I ?_
 refine RK H<|aq ?_
 refine LX hQ (AA,K) [0] [] I U U U ?_ ?_
 ·first|rfl|(rw [A]; rfl)
 ·trivial
theorem Ll (es:List (List Value)) (lA:OA) (n lC:Nat) (hlen:n≤1000000) (hes:es.length=n) (hone: ∀ v∈es.flatten,v.oneCell'=true):
 lE Tryz.prog 98 [(vS lA n lC)] [(rd lA n 2 es)] (fun (x:(OA)×Nat)=>(vS x.1 n x.2)) (fun (x:(OA)×Nat)=>True) (fun (x:(OA)×Nat)=>[(own x.1 x.2 127 2 es)]):=by
 refine dv kr Tryz.func98 U U fun L Q hQ hN=>?_
 try dsimp only
 refine WS fun _ D=>bo 1 U<|RK D<|al fun _ E=>WS fun _ F=>rP 1 [] I ?_
 refine rS (BI U (p5 RB))<|RK F<|cO U (aP fun B=>?_) (aR fun B=>?_)
 ·refine WS fun _ G=>lX (aD 0 U) B dc fun C=>?_
  have A:es=[]:=C
  refine dM 127 2 ?_
  rw [show (own none 0 127 2 ([]:List (List Value)))=own none 0 127 2 es from by rw [A]]
  refine rP 1 [] I ?_
  refine RK G<|aq ?_
  refine LX hQ (none,0) [0] [] I U U U ?_ ?_
  ·first|rfl|(rw [hes]; rfl)|(rw [← hes,A]; rfl)
  ·trivial
 refine WK E<|WS fun _ H=>sG U Ak U fun J=>rP 1 [] I ?_
 refine dY (es:=(List.map du.cells [])) (C':=[own (some ⟨J,0,none⟩) 0 127 2 (List.map du.cells []),_]) 0 U sm U (by simp [maxLen]) U ?_
 refine df (es2:=es) (m':=es.length) 0 U U U UI U U sm (aD 1 U) hone (by simp; omega) (by simp [maxLen]; omega) sm U U fun AA K=>?_
 try dsimp only
 refine rP 1 [] I ?_
 refine RK H<|aq ?_
 refine LX hQ (AA,K) [0] [] I U U U ?_ ?_
 ·first|rfl|(rw [hes]; rfl)|(rw [← hes,A]; rfl)
 ·trivial
theorem JY (es:List (List Value)) (lA:OA) (n lC:Nat) (hlen:n≤1000000) (hes:es.length=n) (hone: ∀ v∈es.flatten,v.oneCell'=true):
 lE Tryz.prog 102 [(vS lA n lC)] [(rd lA n 7 es)] (fun (x:(OA)×Nat)=>(vS x.1 n x.2)) (fun (x:(OA)×Nat)=>True) (fun (x:(OA)×Nat)=>[(own x.1 x.2 46 7 es)]):=by
 refine dv kr Tryz.func102 U U fun L Q hQ hN=>?_
 try dsimp only
 refine WS fun _ D=>bo 1 U<|RK D<|al fun _ E=>WS fun _ F=>rP 1 [] I ?_
 refine rS (BI U (p5 Q5))<|RK F<|cO U (aP fun B=>?_) (aR fun B=>?_)
 ·refine WS fun _ G=>lX (aD 0 U) B dc fun C=>?_
  have A:es=[]:=C
  refine dM 46 7 ?_
  rw [show (own none 0 46 7 ([]:List (List Value)))=own none 0 46 7 es from by rw [A]]
  refine rP 1 [] I ?_
  refine RK G<|aq ?_
  refine LX hQ (none,0) [0] [] I U U U ?_ ?_
  ·first|rfl|(rw [hes]; rfl)|(rw [← hes,A]; rfl)
  ·trivial
 refine WK E<|WS fun _ H=>sG U xn U fun J=>rP 1 [] I ?_
 refine dY (es:=(List.map bu.cells [])) (C':=[own (some ⟨J,0,none⟩) 0 46 7 (List.map bu.cells []),_]) 0 U sm U (by simp [maxLen]) U ?_
 refine df (es2:=es) (m':=es.length) 0 U U U Tr U U sm (aD 1 U) hone (by simp; omega) (by simp [maxLen]; omega) sm U U fun AA K=>?_
 try dsimp only
 refine rP 1 [] I ?_
 refine RK H<|aq ?_
 refine LX hQ (AA,K) [0] [] I U U U ?_ ?_
 ·first|rfl|(rw [hes]; rfl)|(rw [← hes,A]; rfl)
 ·trivial
theorem HY (es:List (List Value)) (lA:OA) (n lC:Nat) (hlen:n≤1000000) (hes:es.length=n) (hone: ∀ v∈es.flatten,v.oneCell'=true):
 lE Tryz.prog 101 [(vS lA n lC)] [(rd lA n 1 es)] (fun (x:(OA)×Nat)=>(vS x.1 n x.2)) (fun (x:(OA)×Nat)=>True) (fun (x:(OA)×Nat)=>[(own x.1 x.2 47 1 es)]):=by
 refine dv kr Tryz.func101 U U fun L Q hQ hN=>?_
 try dsimp only
 refine WS fun _ D=>bo 1 U<|RK D<|al fun _ E=>WS fun _ F=>rP 1 [] I ?_
 refine rS (BI U (p5 Sp))<|RK F<|cO U (aP fun B=>?_) (aR fun B=>?_)
 ·refine WS fun _ G=>lX (aD 0 U) B dc fun C=>?_
  have A:es=[]:=C
  refine dM 47 1 ?_
  rw [show (own none 0 47 1 ([]:List (List Value)))=own none 0 47 1 es from by rw [A]]
  refine rP 1 [] I ?_
  refine RK G<|aq ?_
  refine LX hQ (none,0) [0] [] I U U U ?_ ?_
  ·first|rfl|(rw [hes]; rfl)|(rw [← hes,A]; rfl)
  ·trivial
 refine WK E<|WS fun _ H=>sG U q9 U fun J=>rP 1 [] I ?_
 refine dY (es:=(List.map sC [])) (C':=[own (some ⟨J,0,none⟩) 0 47 1 (List.map sC []),_]) 0 U sm U (by simp [maxLen]) U ?_
 refine df (es2:=es) (m':=es.length) 0 U U U TC U U sm (aD 1 U) hone (by simp; omega) (by simp [maxLen]; omega) sm U U fun AA K=>?_
 try dsimp only
 refine rP 1 [] I ?_
 refine RK H<|aq ?_
 refine LX hQ (AA,K) [0] [] I U U U ?_ ?_
 ·first|rfl|(rw [hes]; rfl)|(rw [← hes,A]; rfl)
 ·trivial
end
section
open Go.RowKit
theorem MR (r:cm) (kA:OA) (kC:Nat) (az:List RA) (cA:OA) (cC:Nat) (bA:OA) (bC:Nat) (slA:OA) (slC:Nat) (drA:OA) (drC:Nat) (ha:List cS) (heA:OA) (heC:Nat) (hin:fm r az ha):
 lE Tryz.prog 68 [(vA (br.cells (oE r kA kC cA cC bA bC slA slC drA drC heA heC)))] [(rd kA r.ah.aI.length 9 (r.ah.aI.map an.cells)),(rd cA r.ah.ai.length 2 (List.zipWith au.cells r.ah.ai az)),(e9 (aS au.gW r.ah.ai az)),(rd bA r.ah.ae.length 4 (r.ah.ae.map bG.cells)),(rd slA r.aJ.length 1 (r.aJ.map iC)),(rd drA r.bB.length 1 (r.bB.map iC)),(rd heA r.ar.length 1 (List.zipWith cJ r.ar ha)),(e9 (aS iu r.ar ha))] (fun (x:(OA)×Nat×(OA)×Nat×(List RA)×(OA)×Nat×(OA)×Nat×(OA)×Nat×(OA)×Nat×(List cS))=>(vA (br.cells (br.mk (bJ.mk (aZ.mk (aN.mk x.1 r.ah.aI.length x.2.1)) r.ah.dJ (aN.mk x.2.2.1 r.ah.ai.length x.2.2.2.1) (aN.mk x.2.2.2.2.2.1 r.ah.ae.length x.2.2.2.2.2.2.1) r.ah.bH r.ah.cv r.ah.bM) (aN.mk x.2.2.2.2.2.2.2.1 r.aJ.length x.2.2.2.2.2.2.2.2.1) (aN.mk x.2.2.2.2.2.2.2.2.2.1 r.bB.length x.2.2.2.2.2.2.2.2.2.2.1) r.dW (aN.mk x.2.2.2.2.2.2.2.2.2.2.2.1 r.ar.length x.2.2.2.2.2.2.2.2.2.2.2.2.1))))) (fun (x:(OA)×Nat×(OA)×Nat×(List RA)×(OA)×Nat×(OA)×Nat×(OA)×Nat×(OA)×Nat×(List cS))=>(x.2.2.2.2.1.length=r.ah.ai.length∧rv r.ah.ai x.2.2.2.2.1)∧sO r.ar x.2.2.2.2.2.2.2.2.2.2.2.2.2) (fun (x:(OA)×Nat×(OA)×Nat×(List RA)×(OA)×Nat×(OA)×Nat×(OA)×Nat×(OA)×Nat×(List cS))=>[(own x.1 x.2.1 122 9 (r.ah.aI.map an.cells)),(own x.2.2.1 x.2.2.2.1 127 2 (List.zipWith au.cells r.ah.ai x.2.2.2.2.1)),(bq (aS au.owns r.ah.ai x.2.2.2.2.1)),(own x.2.2.2.2.2.1 x.2.2.2.2.2.2.1 129 4 (r.ah.ae.map bG.cells)),(own x.2.2.2.2.2.2.2.1 x.2.2.2.2.2.2.2.2.1 3 1 (r.aJ.map iC)),(own x.2.2.2.2.2.2.2.2.2.1 x.2.2.2.2.2.2.2.2.2.2.1 3 1 (r.bB.map iC)),(own x.2.2.2.2.2.2.2.2.2.2.2.1 x.2.2.2.2.2.2.2.2.2.2.2.2.1 47 1 (List.zipWith cJ r.ar x.2.2.2.2.2.2.2.2.2.2.2.2.2)),(bq (aS gP r.ar x.2.2.2.2.2.2.2.2.2.2.2.2.2))]):=by
 have C:=hin.line
 have A_:=hin.iQ
 have M:=hin.has
 have BM:=hin.iP
 have BK:=hin.draw
 have BN:=dG (r:=r)
 have Ba:=C.sf
 have BX:=C.sh
 have BW:=C.se
 have A7:=C.oq
 refine dv kr Tryz.func68 U U fun w0 Q hQ hN=>?_
 try dsimp only
 refine WS fun _ A3=>fR U fun b2=>AL U Bj fun b3=>RK A3<|WS fun _ A4=>rP 2 [] I ?_
 refine RK A4<|al fun _ A5=>dL cy [8,13,18,22,25,28] [7,11,15] [0,1,2] [0,2,3,4,5,6,7,8,9] [0,1,2,3,4,5,6,7,8,9] U U U U U<|eS U (MV U)<|eS U (MV U)<|eS U (MV U)<|eS U (MV U)<|eS U (SX (bO U U) U U)<|eS U (FA 0 U fB U)<|eS U (FA 0 U fB U)<|fS U (L1 (vS kA r.ah.aI.length kC) 1 U cd U U)<|eS U (MV U)<|eS U (SX (bO U U) U U)<|eS U (FA 2 U fB U)<|fS U (L1 (vS cA r.ah.ai.length cC) 1 U cd U U)<|eS U (MV U)<|eS U (SX (bO U U) U U)<|eS U (FA 3 U fB U)<|fS U (L1 (vS bA r.ah.ae.length bC) 1 U cd U U)<|eS U (SX (bO U U) U U)<|eS U (FA 0 U fB U)<|eS U (FA 0 U fB U)<|eS U (SX (bO U U) U U)<|eS U (FA 2 U fB U)<|eS U (SX (bO U U) U U)<|eS U (FA 3 U fB U)<|e7 U<|iA U fun T6 A6=>?_
 refine cX (Je r.ah.aI kA kC sd) (bp [2]) U fun y7 Bb=>?_
 obtain ⟨a9,S⟩:=y7
 try dsimp only
 refine aG (A6 _ _ (aL [1,3,4,5,6,7,8,9,10]) (aL [1,2,3,4,5,6,7,8,9,10]) ?_)
 refine iA U fun T11 Ae=>?_
 refine cX (Ll (List.zipWith au.cells r.ah.ai az) cA r.ah.ai.length cC sd (by exact gX A7) (by exact EB _ _)) (bp [4]) U fun BB BO=>?_
 obtain ⟨J,K⟩:=BB
 try dsimp only
 refine aG (Ae _ _ (aL [2,4,5,6,7,8,9,10,11]) (aL [2,3,4,5,6,7,8,9,10,11]) ?_)
 refine iA U fun T16 Af=>?_
 refine cX (Jq r.ah.ae bA bC sd) (bp [7]) U fun BC BP=>?_
 obtain ⟨Y,Z⟩:=BC
 try dsimp only
 refine aG (Af _ _ (aL [3,5,6,7,8,9,10,11,12]) (aL [3,4,5,6,7,8,9,10,11,12]) ?_)
 refine cf U fun T21 Ag=>TX (br.cells (br.mk (bJ.mk (aZ.mk (aN.mk a9 r.ah.aI.length S)) r.ah.dJ (aN.mk cA r.ah.ai.length cC) (aN.mk bA r.ah.ae.length bC) r.ah.bH r.ah.cv r.ah.bM) (aN.mk slA r.aJ.length slC) (aN.mk drA r.bB.length drC) r.dW (aN.mk heA r.ar.length heC))) U Ub U U<|aG (Ag _ _ (aL [3,5,6,7,8,9,10,11,12]) ?_)
 refine cf U fun T22 Ah=>TX (br.cells (br.mk (bJ.mk (aZ.mk (aN.mk a9 r.ah.aI.length S)) r.ah.dJ (aN.mk J r.ah.ai.length K) (aN.mk bA r.ah.ae.length bC) r.ah.bH r.ah.cv r.ah.bM) (aN.mk slA r.aJ.length slC) (aN.mk drA r.bB.length drC) r.dW (aN.mk heA r.ar.length heC))) U TG U U<|aG (Ah _ _ (aL [3,5,6,7,8,9,10,11,12]) ?_)
 refine cf U fun T23 Ai=>TX (br.cells (br.mk (bJ.mk (aZ.mk (aN.mk a9 r.ah.aI.length S)) r.ah.dJ (aN.mk J r.ah.ai.length K) (aN.mk Y r.ah.ae.length Z) r.ah.bH r.ah.cv r.ah.bM) (aN.mk slA r.aJ.length slC) (aN.mk drA r.bB.length drC) r.dW (aN.mk heA r.ar.length heC))) U UQ U U<|aG (Ai _ _ (aL [3,5,6,7,8,9,10,11,12]) ?_)
 refine fK U<|KK A5<|al fun _ AI=>WS fun _ AJ=>bo 1 U<|rS (SX (bO U U) U U)<|rP 4 [] (mc 4 U I) ?_
 refine RK AJ<|ay<|oa ?_
 have E:(0≤r.ah.ai.length)∧(([]:List RA).length=0)∧(rv r.ah.ai ([]:List RA)):=by exact ⟨Nat.zero_le _,rfl,fun k m a _ h=>by simp at h⟩
 refine bS (ι:={z:Nat×(List RA) // (z.1≤r.ah.ai.length)∧(z.2.length=z.1)∧(rv r.ah.ai z.2)}) [1,2,3,39] [1,3,4,5,6,7,8,9,10,11,12,13] U U (fun z=>[(40,(vI (z.1.1:Int)))]) (fun z=>[(bq (aS au.owns (r.ah.ai.take z.1.1) z.1.2)),(own J K 127 2 (List.zipWith au.cells r.ah.ai (ks z.1.2 az z.1.1)))]) (fun _=>rfl) (fun _=>rfl) (fun z=>r.ah.ai.length-z.1.1) ⟨(0,([]:List RA)),E⟩ (aV U) (aL [1,3,4,5,6,7,8,9,10,11,12,13,0,2]) ?_
 clear E
 rintro ⟨⟨i,bz⟩,⟨AE,B,V⟩⟩ J26 AF
 try dsimp only at AE B V
 try dsimp only
 refine WS fun _ AK=>rP 1 [] I ?_
 refine RK AK<|al fun _ AM=>cO U (aP fun A0=>?_) (aR fun A0=>?_)
 ·refine WK AM<|al fun _ AN=>ay<|WS fun _ AO=>rP 2 [] I ?_
  refine RK AO<|dL cy [13,16] [10,11,12,13,14] [0] [0,1,2,3,4,5,6,7,8,9,10,11,12] [0,1,2,3,4,5,6,7,8,9,10,11,12,13] U U U U U<|eS U (MV U)<|eS U (SX (bO U U) U U)<|eS U (FA 2 U fB U)<|eS U (L1 (vS J r.ah.ai.length K) 3 U cd U U)<|eS U (MV U)<|eS U (MV U)<|eS U (SX (bO U U) U U)<|eS U (FA 2 U fB U)<|eS U (L1 (vS J r.ah.ai.length K) 3 U cd U U)<|eS U (MV U) ?_
  obtain ⟨x,hx⟩:=aM r.ah.ai i om
  obtain ⟨xa,s⟩:=aM az i om
  have Az:(List.zipWith au.cells r.ah.ai (ks bz az i))[i]? =some (au.cells x xa):=dT hx (Ax B s)
  have BZ:=(C.Qy _ _ _ hx s).2
  refine fS U (IA i U (aj (n:=r.ah.ai.length) 13 U (gX (by rw [iB B om]; exact C.oq))) Ak dc om om) ?_
  refine fS U (nH ((i*2)+1) U (aj (n:=r.ah.ai.length) 13 U (gX (by rw [iB B om]; exact C.oq))) (Nat.mul_pos om dc) fB U) ?_
  refine fS U (fY i 1 (vS xa.1 x.bw.length xa.2) U cd (aj (n:=r.ah.ai.length) 13 U (gX (by rw [iB B om]; exact C.oq))) Az U dc U) ?_
  refine fS U (IA i U (aj (n:=r.ah.ai.length) 13 U (gX (by rw [iB B om]; exact C.oq))) Ak dc om om) ?_
  refine fS U (nH ((i*2)+1) U (aj (n:=r.ah.ai.length) 13 U (gX (by rw [iB B om]; exact C.oq))) (Nat.mul_pos om dc) fB U) ?_
  refine e7 U<|iA U fun T32 Aj=>?_
  refine cX (K3 x.bw xa.1 xa.2 sd) (aw (show iU _ (rd xa.1 x.bw.length 3 (x.bw.map cG.cells)).holds from (dy 6 U (b_ hx s (by simp [au.gW]))))<|aK) U fun BD BQ=>?_
  obtain ⟨P,T⟩:=BD
  try dsimp only
  refine aG (Aj _ _ (aL [1,2,3,4,5,6,7,8,9,10,11,12,13]) (aL [1,2,3,4,5,6,7,8,9,10,11,12,13,14]) ?_)
  refine cf U fun T37 Al=>eD (k:=i) (o:=1) (vs:=[(vS P x.bw.length T)]) (es':=(List.zipWith au.cells r.ah.ai (ks (bz++[(P,T)]) az (i+1)))) (C':=[_,_,_,_,_,_,_,_,_,_,_,_,_,_,(own J K 127 2 (List.zipWith au.cells r.ah.ai (ks (bz++[(P,T)]) az (i+1))))]) 14 U U U SQ U U U U Az U dc (by exact wR (c:=au.cells) (b:=(P,T)) hx B s) U<|aG (Al _ _ (aL [1,2,3,4,5,6,7,8,9,10,11,12,13]) ?_)
  refine fK U<|aH<|KK AN<|ao<|rP 2 [] I ?_
  refine aG<|PM 0 U fun t=>?_
  simp only [List.length_map] at t
  refine Ii (Y':=aS au.owns (r.ah.ai.take (i+1)) (bz++[(P,T)])) 13 0 U U (rz (f:=au.owns) (b:=(P,T)) hx B) ?_
  have Au:(vI (((i+1):Nat):Int))=(vI ((i:Int)+1)):=by exact cI om
  refine aW (AF ⟨((i+1),(bz++[(P,T)])),⟨om,by simp; omega,Kp V B hx t⟩⟩ _ _ _ U os (cW 4<|bx U Au<|dB.nil _) (aL [1,2,3,4,5,6,7,8,9,10,11,12,0,13]))
 refine bE<|ag<|ag<|aA<|KK AI<|al fun _ AP=>?_
 have A8:bz.length=r.ah.ai.length:=by omega
 have A9:=V
 rw [show (ks bz az i)=bz from wg om,show r.ah.ai.take i=r.ah.ai from List.take_of_length_le om]
 refine dL cy [2,5,8,10,12,14] [1,3,5] [0,1,2] [0,1,2,4,5,6,7,8,9,10,11,12,13] [0,1,2,3,4,5,6,7,8,9,10,11,12,13] U U U U U<|eS U (FA 7 U fB U)<|fS U (L1 (vS slA r.aJ.length slC) 3 U cd U U)<|eS U (FA 8 U fB U)<|fS U (L1 (vS drA r.bB.length drC) 3 U cd U U)<|eS U (FA 10 U fB U)<|fS U (L1 (vS heA r.ar.length heC) 3 U cd U U)<|eS U (FA 7 U fB U)<|eS U (FA 8 U fB U)<|eS U (FA 10 U fB U)<|e7 U<|iA U fun T40 Am=>?_
 refine cX (vG r.aJ slA slC sd) (bp [8]) U fun BE BR=>?_
 obtain ⟨g,j⟩:=BE
 try dsimp only
 refine aG (Am _ _ (aL [1,2,3,5,6,7,8,9,10,11,12,13,14]) (aL [1,2,3,4,5,6,7,8,9,10,11,12,13,14]) ?_)
 refine iA U fun T45 An=>?_
 refine cX (vG r.bB drA drC sd) (bp [10]) U fun BF BS=>?_
 obtain ⟨w,AB⟩:=BF
 try dsimp only
 refine aG (An _ _ (aL [2,3,4,6,7,8,9,10,11,12,13,14,15]) (aL [2,3,4,5,6,7,8,9,10,11,12,13,14,15]) ?_)
 refine iA U fun T50 Ao=>?_
 refine cX (HY (List.zipWith cJ r.ar ha) heA r.ar.length heC sd (by exact fr M) (by exact Hk _ _)) (bp [12]) U fun BG BT=>?_
 obtain ⟨W,X⟩:=BG
 try dsimp only
 refine aG (Ao _ _ (aL [3,4,5,7,8,9,10,11,12,13,14,15,16]) (aL [3,4,5,6,7,8,9,10,11,12,13,14,15,16]) ?_)
 refine cf U fun T55 Ap=>Tq (br.cells (br.mk (bJ.mk (aZ.mk (aN.mk a9 r.ah.aI.length S)) r.ah.dJ (aN.mk J r.ah.ai.length K) (aN.mk Y r.ah.ae.length Z) r.ah.bH r.ah.cv r.ah.bM) (aN.mk g r.aJ.length j) (aN.mk drA r.bB.length drC) r.dW (aN.mk heA r.ar.length heC))) U zX U U<|aG (Ap _ _ (aL [3,4,5,7,8,9,10,11,12,13,14,15,16]) ?_)
 refine cf U fun T56 Aq=>Tq (br.cells (br.mk (bJ.mk (aZ.mk (aN.mk a9 r.ah.aI.length S)) r.ah.dJ (aN.mk J r.ah.ai.length K) (aN.mk Y r.ah.ae.length Z) r.ah.bH r.ah.cv r.ah.bM) (aN.mk g r.aJ.length j) (aN.mk w r.bB.length AB) r.dW (aN.mk heA r.ar.length heC))) U zX U U<|aG (Aq _ _ (aL [3,4,5,7,8,9,10,11,12,13,14,15,16]) ?_)
 refine cf U fun T57 Ar=>Tq (br.cells (br.mk (bJ.mk (aZ.mk (aN.mk a9 r.ah.aI.length S)) r.ah.dJ (aN.mk J r.ah.ai.length K) (aN.mk Y r.ah.ae.length Z) r.ah.bH r.ah.cv r.ah.bM) (aN.mk g r.aJ.length j) (aN.mk w r.bB.length AB) r.dW (aN.mk W r.ar.length X))) U Uy U U<|aG (Ar _ _ (aL [3,4,5,7,8,9,10,11,12,13,14,15,16]) ?_)
 refine fK U<|KK AP<|al fun _ AQ=>WS fun _ AR=>rP 4 [] (mc 6 U I) ?_
 refine RK AR<|ay<|oa ?_
 have E:(0≤r.ar.length)∧(([]:List cS).length=0)∧(∀ (k:Nat) y (a:cS),r.ar[k]? =some y→([]:List cS)[k]? =some a→a.2.length=y.length):=by exact ⟨Nat.zero_le _,rfl,fun k y a _ q=>by simp at q⟩
 refine bS (ι:={z:Nat×(List cS) // (z.1≤r.ar.length)∧(z.2.length=z.1)∧(∀ (k:Nat) y (a:cS),r.ar[k]? =some y→z.2[k]? =some a→a.2.length=y.length)}) [1,2,74] [2,3,4,5,6,7,8,9,10,11,12,13,14,15,16,17] U U (fun z=>[(75,(vI (z.1.1:Int)))]) (fun z=>[(bq (aS gP (r.ar.take z.1.1) z.1.2)),(own W X 47 1 (List.zipWith cJ r.ar (ks z.1.2 ha z.1.1)))]) (fun _=>rfl) (fun _=>rfl) (fun z=>r.ar.length-z.1.1) ⟨(0,([]:List cS)),E⟩ (aV U) (aL [2,3,4,5,6,7,8,9,10,11,12,13,14,15,16,17,0,1]) ?_
 clear E
 rintro ⟨⟨h,hz⟩,⟨l,A,L⟩⟩ J60 AG
 try dsimp only at l A L
 try dsimp only
 refine WS fun _ AS=>rP 1 [] I ?_
 refine RK AS<|al fun _ AT=>bV U (aR fun A1=>?_) (aP fun A1=>?_)
 ·refine bE<|ag<|ag<|aA<|KK AQ<|al fun _ Ad=>?_
  have BA:sO r.ar hz:=⟨om,L⟩
  rw [show (ks hz ha h)=hz from wg om,show r.ar.take h=r.ar from List.take_of_length_le om]
  refine ao<|rP 1 [] (mc 5 U I) ?_
  refine Oy U tf U<|RK Ad<|aq ?_
  refine LX hQ (a9,S,J,K,bz,Y,Z,g,j,w,AB,W,X,hz) [3,15,14,2,1,0,17,16] [0] (mc 4 U I) U (by show List.all _ _=true; simp only [fH,List.all_nil,gk,ko,Bool.and_true]; rfl) U U ?_
  exact ⟨⟨A8,A9⟩,BA⟩
 refine WK AT<|al fun _ AU=>ay<|WS fun _ AV=>rP 2 [] I ?_
 refine RK AV<|al fun _ AW=>dL cy [8,10] [6,7,8] [0] [0,1,2,3,4,5,6,7,8,9,10,11,12,13,14,15,16] [0,1,2,3,4,5,6,7,8,9,10,11,12,13,14,15,16,17] U U U U U<|eS U (FA 10 U fB U)<|eS U (L1 (vS W r.ar.length X) 5 U cd U U)<|eS U (MV U)<|eS U (FA 10 U fB U)<|eS U (L1 (vS W r.ar.length X) 5 U cd U U)<|eS U (MV U) ?_
 obtain ⟨ht,N⟩:=aM r.ar h om
 obtain ⟨D,O⟩:=aM ha h om
 have u:(List.zipWith cJ r.ar (ks hz ha h))[h]? =some (cJ ht D):=dT N (Ax A O)
 have AD:=hin.oz _ _ _ N O
 have e:=AD.oq
 have A_:=AD.len
 refine fS U (IA h U (aj (n:=r.ar.length) 17 U (fr (by rw [iB A om]; exact M))) q9 dc om om) ?_
 refine fS U (fY h 0 (vS D.1.1 ht.length D.1.2) U cd (aj (n:=r.ar.length) 17 U (fr (by rw [iB A om]; exact M))) u U dc U) ?_
 refine fS U (IA h U (aj (n:=r.ar.length) 17 U (fr (by rw [iB A om]; exact M))) q9 dc om om) ?_
 refine e7 U<|iA U fun T67 As=>?_
 refine cX (JY (List.zipWith ax.cells ht D.2) D.1.1 ht.length D.1.2 sd (by exact qd e) (by exact Me _ _)) (aw (show iU _ (rd D.1.1 ht.length 7 (List.zipWith ax.cells ht D.2)).holds from (dy 13 U (b_ N O cj)))<|aK) U fun BH BU=>?_
 obtain ⟨G,H⟩:=BH
 try dsimp only
 refine aG (As _ _ (aL [1,2,3,4,5,6,7,8,9,10,11,12,13,14,15,16,17]) (aL [1,2,3,4,5,6,7,8,9,10,11,12,13,14,15,16,17,18]) ?_)
 refine cf U fun T72 At=>eD (k:=h) (o:=0) (vs:=[(vS G ht.length H)]) (es':=(List.zipWith cJ r.ar (ks (hz++[((G,H),D.2)]) ha (h+1)))) (C':=[_,_,_,_,_,_,_,_,_,_,_,_,_,_,_,_,_,_,(own W X 47 1 (List.zipWith cJ r.ar (ks (hz++[((G,H),D.2)]) ha (h+1))))]) 18 U U U TH U U U U u U dc (by exact wR (b:=((G,H),D.2)) N A O) U<|aG (At _ _ (aL [1,2,3,4,5,6,7,8,9,10,11,12,13,14,15,16,17]) ?_)
 refine fK U<|KK AW<|WS fun _ AX=>rP 3 [] (mc 6 U I) ?_
 have v:(List.zipWith cJ r.ar (ks (hz++[((G,H),D.2)]) ha (h+1)))[h]? =some (cJ ht ((G,H),D.2)):=dT N (LB A)
 refine rS (IA h U (aj (n:=r.ar.length) 18 U (fr (by rw [iB (by simp; omega) om]; exact M))) q9 dc om om) ?_
 refine rS (fY h 0 (vS G ht.length H) U cd (aj (n:=r.ar.length) 18 U (fr (by rw [iB (by simp; omega) om]; exact M))) v U dc U) ?_
 refine rP 2 [] I ?_
 refine RK AX<|ay<|oa ?_
 have E:(0≤ht.length)∧(([]:List RA).length=0):=by exact ⟨Nat.zero_le _,rfl⟩
 refine bS (ι:={z:Nat×(List RA) // (z.1≤ht.length)∧(z.2.length=z.1)}) [1,2,5,74,75,93] [2,3,4,5,6,7,8,9,10,11,12,13,14,15,16,17,18,19] U U (fun z=>[(94,(vI (z.1.1:Int)))]) (fun z=>[(bq (aS oe (ht.take z.1.1) z.1.2)),(own G H 46 7 (List.zipWith ax.cells ht (ks z.1.2 D.2 z.1.1)))]) (fun _=>rfl) (fun _=>rfl) (fun z=>ht.length-z.1.1) ⟨(0,([]:List RA)),E⟩ (aV U) (aL [2,3,4,5,6,7,8,9,10,11,12,13,14,15,16,17,18,19,0,1]) ?_
 clear E
 rintro ⟨⟨i,dz⟩,⟨p,F⟩⟩ J74 AH
 try dsimp only at p F
 try dsimp only
 refine WS fun _ AY=>rP 1 [] I ?_
 refine RK AY<|al fun _ AZ=>bV U (aR fun A2=>?_) (aP fun A2=>?_)
 ·refine bE<|ag<|ag<|aA<|aH<|KK AU<|ao<|rP 2 [] I ?_
  refine aG ?_
  have BL:dz.length=ht.length:=by omega
  rw [show (ks dz D.2 i)=dz from wg om,show ht.take i=ht from List.take_of_length_le om]
  refine Py (Z':=aS gP (r.ar.take (h+1)) (hz++[((G,H),dz)])) 16 18 19 U U (rz (f:=gP) (b:=((G,H),dz)) N A) ?_
  rw [KZ (y:=dz)]
  have Aw:(vI (((h+1):Nat):Int))=(vI ((h:Int)+1)):=by exact cI om
  refine aW (AG ⟨((h+1),(hz++[((G,H),dz)])),⟨om,by simp; omega,MZ N L A dso⟩⟩ _ _ _ U os (cW 3<|bx U Aw<|dB.nil _) (aL [1,2,3,4,5,6,7,8,9,10,11,12,13,14,15,16,0,17]))
 refine WK AZ<|al fun _ Aa=>ay<|WS fun _ Ab=>rP 2 [] I ?_
 refine RK Ab<|al fun _ Ac=>?_
 refine DP 19 U (by rw [qd (by rw [iB F om]; exact e)]; omega) (fun BJ Bc=>?_)
 refine ao<|rP 3 [] (mc 5 U I) ?_
 refine rS (IA h U (aj (n:=r.ar.length) 17 U (fr (by rw [iB (by simp; omega) om]; exact M))) q9 dc om om) ?_
 refine rS (fY h 0 (vS G ht.length H) U cd (aj (n:=r.ar.length) 17 U (fr (by rw [iB (by simp; omega) om]; exact M))) v U dc U) ?_
 refine rP 1 [] I ?_
 obtain ⟨d,hd⟩:=aM ht i om
 obtain ⟨da,AC⟩:=aM D.2 i om
 have Ay:(List.zipWith ax.cells ht (ks dz D.2 i))[i]? =some (ax.cells d da):=dT hd (Ax F AC)
 have BY:=AD.sig d (aU hd)
 refine rS (U7 i U Bc xn om om)<|rS (TW ((i*7)+4) U Bc fB U)<|bo 1 U<|RK Ac<|ao<|rP 2 [] I ?_
 refine rS (SX (ze U U Bc) U U)<|rS (TW (((i*7)+4)+2) U Bc fB U) ?_
 refine rS (fY i 6 (vS da.1 d.cz.ak.length da.2) U cd (aj (n:=ht.length) 19 U (qd (by rw [iB F om]; exact e))) Ay U dc U) ?_
 refine cX (I0 d.cz.ak da.1 da.2 sd) (aw (show iU _ (rd da.1 d.cz.ak.length 2 (d.cz.ak.map aO.cells)).holds from (dy 13 U (b_ N O (cT _ (b_ hd AC (by simp [ax.gW]))))))<|aK) U fun BI BV=>?_
 obtain ⟨R,AA⟩:=BI
 try dsimp only
 refine rS (SX (ze U U Bc) U U)<|rS (TW (((i*7)+4)+2) U Bc fB U)<|eD (k:=i) (o:=6) (vs:=[(vS R d.cz.ak.length AA)]) (es':=(List.zipWith ax.cells ht (ks (dz++[(R,AA)]) D.2 (i+1)))) (C':=[_,_,_,_,_,_,_,_,_,_,_,_,_,_,_,_,_,_,_,_,(own G H 46 7 (List.zipWith ax.cells ht (ks (dz++[(R,AA)]) D.2 (i+1))))]) 20 U U U Um U U U U Ay U dc (by exact wR (c:=ax.cells) (b:=(R,AA)) hd F AC) U<|aG<|aH<|KK Aa<|ao<|rP 2 [] I ?_
 refine aG<|Ii (Y':=aS oe (ht.take (i+1)) (dz++[(R,AA)])) 19 0 U U (rz (f:=oe) (b:=(R,AA)) hd F) ?_
 have Av:(vI (((i+1):Nat):Int))=(vI ((i:Int)+1)):=by exact cI om
 refine aW (AH ⟨((i+1),(dz++[(R,AA)])),⟨om,by simp; omega⟩⟩ _ _ _ U os (cW 6<|bx U Av<|dB.nil _) (aL [1,2,3,4,5,6,7,8,9,10,11,12,13,14,15,16,17,18,0,19]))
end
section
open Go.RowKit
theorem wX (r:cm) (kA:OA) (kC:Nat) (az:List RA) (cA:OA) (cC:Nat) (bA:OA) (bC:Nat) (slA:OA) (slC:Nat) (drA:OA) (drC:Nat) (ha:List cS) (heA:OA) (heC:Nat) (tz:List RA) (tA:OA) (tC:Nat) (ms:Value) (gw:Nat) (h i:Int) (t:aa) (hin:fm r az ha) (hok:eV r):
 lE Tryz.prog 45 [(vP gw),(vI h),(vI i),(vA (aa.cells t))] [(rd kA r.ah.aI.length 9 (r.ah.aI.map an.cells)),(rd cA r.ah.ai.length 2 (List.zipWith au.cells r.ah.ai az)),(e9 (aS au.gW r.ah.ai az)),(rd bA r.ah.ae.length 4 (r.ah.ae.map bG.cells)),(rd slA r.aJ.length 1 (r.aJ.map iC)),(rd drA r.bB.length 1 (r.bB.map iC)),(rd heA r.ar.length 1 (List.zipWith cJ r.ar ha)),(e9 (aS iu r.ar ha)),(rd tA ((cR r).length) 1 (List.zipWith DD (cR r) tz)),(e9 (aS LY (cR r) tz)),(bY gw 88 (fO.cells (fO.mk (oE r kA kC cA cC bA bC slA slC drA drC heA heC) (aN.mk tA ((cR r).length) tC) ms)))] (fun (x:Bool×Int×(OA)×Nat×(OA)×Nat×(List RA)×(OA)×Nat×(OA)×Nat×(OA)×Nat×(OA)×Nat×(List cS))=>bif x.1 then (vT [(vA (br.cells (br.mk (bJ.mk (aZ.mk (aN.mk x.2.2.1 r.ah.aI.length x.2.2.2.1)) r.ah.dJ (aN.mk x.2.2.2.2.1 r.ah.ai.length x.2.2.2.2.2.1) (aN.mk x.2.2.2.2.2.2.2.1 r.ah.ae.length x.2.2.2.2.2.2.2.2.1) r.ah.bH r.ah.cv r.ah.bM) (aN.mk x.2.2.2.2.2.2.2.2.2.1 r.aJ.length x.2.2.2.2.2.2.2.2.2.2.1) (aN.mk x.2.2.2.2.2.2.2.2.2.2.2.1 r.bB.length x.2.2.2.2.2.2.2.2.2.2.2.2.1) r.dW (aN.mk x.2.2.2.2.2.2.2.2.2.2.2.2.2.1 ((dF r.ar h i t).length) x.2.2.2.2.2.2.2.2.2.2.2.2.2.2.1)))),(vI 0)]) else (vT [(vA (br.cells (br.mk (bJ.mk (aZ.mk (aN.mk none 0 0)) 0 (aN.mk none 0 0) (aN.mk none 0 0) 0 0 0) (aN.mk none 0 0) (aN.mk none 0 0) 0 (aN.mk none 0 0)))),(vI x.2.1)])) (fun (x:Bool×Int×(OA)×Nat×(OA)×Nat×(List RA)×(OA)×Nat×(OA)×Nat×(OA)×Nat×(OA)×Nat×(List cS))=>(x.1=true→((qb r h i t)=0∧(x.2.2.2.2.2.2.1.length=r.ah.ai.length∧rv r.ah.ai x.2.2.2.2.2.2.1)∧sO (dF r.ar h i t) x.2.2.2.2.2.2.2.2.2.2.2.2.2.2.2))∧(x.1=false→(x.2.1=(qb r h i t)∧ ¬ (qb r h i t)=0))) (fun (x:Bool×Int×(OA)×Nat×(OA)×Nat×(List RA)×(OA)×Nat×(OA)×Nat×(OA)×Nat×(OA)×Nat×(List cS))=>bif x.1 then [(own x.2.2.1 x.2.2.2.1 122 9 (r.ah.aI.map an.cells)),(own x.2.2.2.2.1 x.2.2.2.2.2.1 127 2 (List.zipWith au.cells r.ah.ai x.2.2.2.2.2.2.1)),(bq (aS au.owns r.ah.ai x.2.2.2.2.2.2.1)),(own x.2.2.2.2.2.2.2.1 x.2.2.2.2.2.2.2.2.1 129 4 (r.ah.ae.map bG.cells)),(own x.2.2.2.2.2.2.2.2.2.1 x.2.2.2.2.2.2.2.2.2.2.1 3 1 (r.aJ.map iC)),(own x.2.2.2.2.2.2.2.2.2.2.2.1 x.2.2.2.2.2.2.2.2.2.2.2.2.1 3 1 (r.bB.map iC)),(own x.2.2.2.2.2.2.2.2.2.2.2.2.2.1 x.2.2.2.2.2.2.2.2.2.2.2.2.2.2.1 47 1 (List.zipWith cJ (dF r.ar h i t) x.2.2.2.2.2.2.2.2.2.2.2.2.2.2.2)),(bq (aS gP (dF r.ar h i t) x.2.2.2.2.2.2.2.2.2.2.2.2.2.2.2))] else []):=by
 have AJ:=hin.line
 have AV:=hin.iQ
 have AX:=hin.has
 have AQ:=hin.iP
 have AN:=hin.draw
 have AR:=dG (r:=r)
 have AZ:=hok.num
 have AY:=hok.nh
 refine dv Tj Tryz.func45 U U fun w0 Q hQ hN=>?_
 try dsimp only
 refine WS fun _ AD=>fR U fun b2=>AL U Bj fun b3=>bo 1 U<|RK AD<|al fun _ AE=>WS fun _ J=>bo 1 U<|rS (SX (bO U U) U U)<|rP 6 [] (mr 12 U I) ?_
 refine cZ (xs:=[.tmp 18]) (cs:=[(vI h)]) U cx i_ U U U U (by simp [Value.cells]) U U fun b6=>?_
 refine rS (CL (eg.eq (j0 0 ((r.ar.length:Int)-1) ([h]) (some ⟨b6,0,none⟩) 1 sd) cU) (aw (a_ 0 U U (by simp [bK]) U)<|aK) U) ?_
 refine rP 2 [] I ?_
 refine ct (t:=22) U (bh fun AA=>?_) (bg fun AA=>?_)
 ·refine bo 11 U<|RK J<|aQ U<|WS fun _ AF=>rS (SX (bj (xs:=[]) (cs:=(br.cells (br.mk (bJ.mk (aZ.mk (aN.mk none 0 0)) 0 (aN.mk none 0 0) (aN.mk none 0 0) 0 0 0) (aN.mk none 0 0) (aN.mk none 0 0) 0 (aN.mk none 0 0)))) U U (bk Gg U)) U U)<|tw U tf U<|rP 1 [] I ?_
  refine RK AF<|aq ?_
  refine LX hQ (false,2,none,0,none,0,[],none,0,none,0,none,0,none,0,[]) [] [0] (mc 1 U I) U (by first|rfl|(show List.all _ _=true; simp only [cond_true,fH,List.all_nil,gk,ko,Bool.and_true]; rfl)) U ?_ ?_
  ·first|rfl|(simp only [cond_true,iT]; rfl)
  ·refine ⟨AB,fun _=>?_⟩; first|exact pM (mm (r:=r) (h:=h) (i:=i) (t:=t) om)|exact pM (mm (r:=r) (h:=h) (i:=i) (t:=t) (fun q=>absurd q.2 asm))|exact pM (sj (r:=r) (t:=t) ⟨om,asm⟩ A hd H)
 refine rP 2 [] I ?_
 refine cZ (xs:=[.tmp 24]) (cs:=[(vI i)]) U cx i_ U U U U (by simp [Value.cells]) U U fun b8=>?_
 refine rS (CL (eg.eq (Aw r kA kC az cA cC bA bC slA slC drA drC ha heA heC tz tA tC ms gw ([i]) (some ⟨b8,0,none⟩) 1 hin sd) cU) (lO [4,5,6,7,8,9,10,11,12,13,14]<|aw (a_ 0 U U (by simp [bK]) U)<|aK) U) ?_
 refine rP 3 [] I ?_
 refine ct (t:=29) U (bh fun AC=>?_) (bg fun AC=>?_)
 ·refine bo 4 U<|RK J<|aQ U<|WS fun _ AG=>rS (SX (bj (xs:=[]) (cs:=(br.cells (br.mk (bJ.mk (aZ.mk (aN.mk none 0 0)) 0 (aN.mk none 0 0) (aN.mk none 0 0) 0 0 0) (aN.mk none 0 0) (aN.mk none 0 0) 0 (aN.mk none 0 0)))) U U (bk Gg U)) U U)<|Gl U tf U<|rP 1 [] I ?_
  refine RK AG<|aq ?_
  refine LX hQ (false,2,none,0,none,0,[],none,0,none,0,none,0,none,0,[]) [] [0] (mc 2 U I) U (by first|rfl|(show List.all _ _=true; simp only [cond_true,fH,List.all_nil,gk,ko,Bool.and_true]; rfl)) U ?_ ?_
  ·first|rfl|(simp only [cond_true,iT]; rfl)
  ·refine ⟨AB,fun _=>?_⟩; first|exact pM (mm (r:=r) (h:=h) (i:=i) (t:=t) om)|exact pM (mm (r:=r) (h:=h) (i:=i) (t:=t) (fun q=>absurd q.2 asm))|exact pM (sj (r:=r) (t:=t) ⟨om,asm⟩ A hd H)
 refine fD 1 [] (mc 3 U I) U<|rS (CL (E8 t) (aK) U)<|rP 2 [] I ?_
 refine RK J<|cO U (bh fun Z=>?_) (bg fun Z=>?_)
 ·refine WS fun _ b=>rS (SX (bj (xs:=[]) (cs:=(br.cells (br.mk (bJ.mk (aZ.mk (aN.mk none 0 0)) 0 (aN.mk none 0 0) (aN.mk none 0 0) 0 0 0) (aN.mk none 0 0) (aN.mk none 0 0) 0 (aN.mk none 0 0)))) U U (bk Gg U)) U U)<|Gl U tf U<|rP 1 [] I ?_
  refine RK b<|aq ?_
  refine LX hQ (false,2,none,0,none,0,[],none,0,none,0,none,0,none,0,[]) [] [0] (mc 2 U I) U (by first|rfl|(show List.all _ _=true; simp only [cond_true,fH,List.all_nil,gk,ko,Bool.and_true]; rfl)) U ?_ ?_
  ·first|rfl|(simp only [cond_true,iT]; rfl)
  ·refine ⟨AB,fun _=>?_⟩; first|exact pM (mm (r:=r) (h:=h) (i:=i) (t:=t) om)|exact pM (mm (r:=r) (h:=h) (i:=i) (t:=t) (fun q=>absurd q.2 asm))|exact pM (sj (r:=r) (t:=t) ⟨om,asm⟩ A hd H)
 refine WK AE<|al fun _ e=>WS fun _ f=>bo 1 U<|rS (SX (bO U U) U U)<|rP 4 [] (mr 14 U I) ?_
 obtain ⟨ht,A⟩:=aM r.ar ((h).toNat) om
 obtain ⟨C,E⟩:=aM ha ((h).toNat) om
 have w:(List.zipWith cJ r.ar ha)[(h).toNat]? =some (cJ ht C):=dT A E
 refine rS (IA ((h).toNat) U (aD 10 U) q9 dc om om) ?_
 have AI:=hin.oz _ _ _ A E
 have AO:=AI.oq
 have AW:=(hok.oz ht (aU A)).1
 refine rS (fY ((h).toNat) 0 (vS C.1.1 ht.length C.1.2) U PO (aD 10 U) w U dc U)<|rP 1 [] I ?_
 obtain ⟨d,hd⟩:=aM ht ((i).toNat) om
 obtain ⟨da,K⟩:=aM C.2 ((i).toNat) om
 have AH:(List.zipWith ax.cells ht C.2)[(i).toNat]? =some (ax.cells d da):=dT hd K
 refine rS (IA ((i).toNat) U (show iU _ (rd C.1.1 ht.length 7 (List.zipWith ax.cells ht C.2)).holds from (dy 11 U (b_ A E cj))) xn dc om om)<|rS (nH (((i).toNat)*7) U (show iU _ (rd C.1.1 ht.length 7 (List.zipWith ax.cells ht C.2)).holds from (dy 11 U (b_ A E cj))) (Nat.mul_pos om dc) Qb U)<|rS (fY ((i).toNat) 0 (vB d.Out) U Vb (show iU _ (rd C.1.1 ht.length 7 (List.zipWith ax.cells ht C.2)).holds from (dy 11 U (b_ A E cj))) AH U dc U)<|RK f<|cO U (fun H=>?_) (fun H=>?_)
 ·refine WS fun _ g=>rS (SX (bj (xs:=[]) (cs:=(br.cells (br.mk (bJ.mk (aZ.mk (aN.mk none 0 0)) 0 (aN.mk none 0 0) (aN.mk none 0 0) 0 0 0) (aN.mk none 0 0) (aN.mk none 0 0) 0 (aN.mk none 0 0)))) U U (bk Gg U)) U U)<|Gl U tf U<|rP 1 [] I ?_
  refine RK g<|aq ?_
  refine LX hQ (false,8,none,0,none,0,[],none,0,none,0,none,0,none,0,[]) [] [0] (mc 2 U I) U (by first|rfl|(show List.all _ _=true; simp only [cond_true,fH,List.all_nil,gk,ko,Bool.and_true]; rfl)) U ?_ ?_
  ·first|rfl|(simp only [cond_true,iT]; rfl)
  ·refine ⟨AB,fun _=>?_⟩; first|exact pM (mm (r:=r) (h:=h) (i:=i) (t:=t) om)|exact pM (mm (r:=r) (h:=h) (i:=i) (t:=t) (fun q=>absurd q.2 asm))|exact pM (sj (r:=r) (t:=t) ⟨om,asm⟩ A hd H)
 refine WK e<|WS fun _ j=>bo 1 U<|rS (SX (bO U U) U U)<|rP 1 [] I ?_
 refine rS (U0 (br.cells (oE r kA kC cA cC bA bC slA slC drA drC heA heC)) 14 U RE U U U)<|cX (MR r kA kC az cA cC bA bC slA slC drA drC ha heA heC hin) (bp [4,5,6,7,8,9,10,11]) U fun AM z=>?_
 obtain ⟨L,T,M,AT,S,N,V,O,W,P,X,R,Y,G⟩:=AM
 try dsimp only
 obtain ⟨⟨s,u⟩,D⟩:=z
 try dsimp only at s u D
 have AP:=D.1
 refine AL U Bj fun AS=>fQ U tf U<|RK j<|al fun _ l=>?_
 obtain ⟨B,F⟩:=aM G ((h).toNat) (by have:=D.1; omega)
 have y:(List.zipWith cJ r.ar G)[(h).toNat]? =some (cJ ht B):=dT A F
 have AK:=D.2 _ _ _ A F
 refine PL 8 A F U U ?_
 try dsimp only
 refine dq cy 9 kr<|mu 3 [] (mc 3 U I) U<|dS (IA ((h).toNat) U (aj (n:=r.ar.length) 10 U (fr D.1)) q9 dc om om)<|dS (fY ((h).toNat) 0 (vS B.1.1 ht.length B.1.2) U PO (aj (n:=r.ar.length) 10 U (fr D.1)) y U dc U)<|dP 2 [] (mc 14 U I) ?_
 refine dS (SX (bj (xs:=[(1,.const (vB true)),(2,.tmp 59)]) (cs:=(bu.cells (bu.mk false true t (eG.mk 0 0 (aN.mk none 0 0))))) U U (bk Pz U)) U U) ?_
 obtain ⟨K,AU⟩:=aM B.2 ((i).toNat) om
 have v:(List.zipWith ax.cells ht B.2)[(i).toNat]? =some (ax.cells d K):=dT hd AU
 refine dS (IA ((i).toNat) U (aj (n:=ht.length) 0 U (qd AK)) xn dc om om)<|cL<|eD (k:=(i).toNat) (o:=0) (vs:=(bu.cells (bu.mk false true t (eG.mk 0 0 (aN.mk none 0 0))))) (es':=(List.zipWith ax.cells (ht.set (i).toNat (ky t)) (B.2.set (i).toNat (none,0)))) (C':=[(own B.1.1 B.1.2 46 7 (List.zipWith ax.cells (ht.set (i).toNat (ky t)) (B.2.set (i).toNat (none,0)))),_,_,_,_,_,_,_,_,_,_,_,_,_,_,_,_,_,_,_,_,_,_,_,_,_]) 0 U U U Pr U U U U v U dc (by exact qt (c:=ax.cells) (m:=ky t) (a:=(none,0))) U<|RK l<|al fun _ p=>PF (d':=ky t) 1 hd AU U U U ?_
 refine ND (h':=(ht.set (i).toNat (ky t))) (a':=(B.1,(B.2.set (i).toNat (none,0)))) 2 0 1 om (by have:=D.1; omega) U U ?_
 rw [← vp A,show List.zipWith cJ r.ar G=List.zipWith cJ (dF r.ar h i t) (G.set (h).toNat (B.1,(B.2.set (i).toNat (none,0)))) from by rw [vp A]; exact (Gv A F (by rw [List.length_set])).symm]
 replace D:=Pv (i:=i) (t:=t) D A F
 refine ao<|fD 1 [] (mc 1 U I) U<|UG U tf U<|rP 1 [] I ?_
 refine RK p<|aq ?_
 refine LX hQ (true,0,L,T,M,AT,S,N,V,O,W,P,X,R,Y,(G.set (h).toNat (B.1,(B.2.set (i).toNat (none,0))))) [2,3,4,5,6,7,8,0] [0] (mc 11 U I) U (by first|rfl|(show List.all _ _=true; simp only [cond_true,fH,List.all_nil,gk,ko,Bool.and_true]; rfl)) U ?_ ?_
 ·first|rfl|(simp only [cond_true,iT]; rfl)
 ·exact ⟨fun _=>⟨Nz ⟨om,Z⟩ A hd H,⟨s,u⟩,D⟩,Np⟩
end
section
open Go.RowKit
theorem Kl (h i:Int) (t:aa) (r:cm) (kA:OA) (kC:Nat) (az:List RA) (cA:OA) (cC:Nat) (bA:OA) (bC:Nat) (slA:OA) (slC:Nat) (drA:OA) (drC:Nat) (ha:List cS) (heA:OA) (heC:Nat) (hin:fm r az ha):
 lE Tryz.prog 21 [(vA (br.cells (oE r kA kC cA cC bA bC slA slC drA drC heA heC))),(vI h),(vI i),(vA (aa.cells t))] [(rd dH 3 2 dp),(rd kA r.ah.aI.length 9 (r.ah.aI.map an.cells)),(rd cA r.ah.ai.length 2 (List.zipWith au.cells r.ah.ai az)),(e9 (aS au.gW r.ah.ai az)),(rd bA r.ah.ae.length 4 (r.ah.ae.map bG.cells)),(rd slA r.aJ.length 1 (r.aJ.map iC)),(rd drA r.bB.length 1 (r.bB.map iC)),(rd heA r.ar.length 1 (List.zipWith cJ r.ar ha)),(e9 (aS iu r.ar ha))] (fun (x:Bool×Int×(OA)×Nat×(OA)×Nat×(List RA)×(OA)×Nat×(OA)×Nat×(OA)×Nat×(OA)×Nat×(List cS))=>bif x.1 then (vT [(vA (br.cells (br.mk (bJ.mk (aZ.mk (aN.mk x.2.2.1 r.ah.aI.length x.2.2.2.1)) r.ah.dJ (aN.mk x.2.2.2.2.1 r.ah.ai.length x.2.2.2.2.2.1) (aN.mk x.2.2.2.2.2.2.2.1 r.ah.ae.length x.2.2.2.2.2.2.2.2.1) r.ah.bH r.ah.cv r.ah.bM) (aN.mk x.2.2.2.2.2.2.2.2.2.1 r.aJ.length x.2.2.2.2.2.2.2.2.2.2.1) (aN.mk x.2.2.2.2.2.2.2.2.2.2.2.1 r.bB.length x.2.2.2.2.2.2.2.2.2.2.2.2.1) r.dW (aN.mk x.2.2.2.2.2.2.2.2.2.2.2.2.2.1 ((dF r.ar h i t).length) x.2.2.2.2.2.2.2.2.2.2.2.2.2.2.1)))),(vI 0)]) else (vT [(vA (br.cells (br.mk (bJ.mk (aZ.mk (aN.mk none 0 0)) 0 (aN.mk none 0 0) (aN.mk none 0 0) 0 0 0) (aN.mk none 0 0) (aN.mk none 0 0) 0 (aN.mk none 0 0)))),(vI x.2.1)])) (fun (x:Bool×Int×(OA)×Nat×(OA)×Nat×(List RA)×(OA)×Nat×(OA)×Nat×(OA)×Nat×(OA)×Nat×(List cS))=>(x.1=true→((dK r h i t)=0∧(x.2.2.2.2.2.2.1.length=r.ah.ai.length∧rv r.ah.ai x.2.2.2.2.2.2.1)∧sO (dF r.ar h i t) x.2.2.2.2.2.2.2.2.2.2.2.2.2.2.2))∧(x.1=false→(x.2.1=(dK r h i t)∧ ¬ (dK r h i t)=0))) (fun (x:Bool×Int×(OA)×Nat×(OA)×Nat×(List RA)×(OA)×Nat×(OA)×Nat×(OA)×Nat×(OA)×Nat×(List cS))=>bif x.1 then [(own x.2.2.1 x.2.2.2.1 122 9 (r.ah.aI.map an.cells)),(own x.2.2.2.2.1 x.2.2.2.2.2.1 127 2 (List.zipWith au.cells r.ah.ai x.2.2.2.2.2.2.1)),(bq (aS au.owns r.ah.ai x.2.2.2.2.2.2.1)),(own x.2.2.2.2.2.2.2.1 x.2.2.2.2.2.2.2.2.1 129 4 (r.ah.ae.map bG.cells)),(own x.2.2.2.2.2.2.2.2.2.1 x.2.2.2.2.2.2.2.2.2.2.1 3 1 (r.aJ.map iC)),(own x.2.2.2.2.2.2.2.2.2.2.2.1 x.2.2.2.2.2.2.2.2.2.2.2.2.1 3 1 (r.bB.map iC)),(own x.2.2.2.2.2.2.2.2.2.2.2.2.2.1 x.2.2.2.2.2.2.2.2.2.2.2.2.2.2.1 47 1 (List.zipWith cJ (dF r.ar h i t) x.2.2.2.2.2.2.2.2.2.2.2.2.2.2.2)),(bq (aS gP (dF r.ar h i t) x.2.2.2.2.2.2.2.2.2.2.2.2.2.2.2))] else []):=by
 have u:=hin.line
 have AE:=hin.iQ
 have AF:=hin.has
 have AA:=hin.iP
 have z:=hin.draw
 have e:=dG (r:=r)
 refine dv kr Tryz.func21 U U fun w0 Q hQ hN=>?_
 try dsimp only
 refine WS fun _ s=>fR U fun b2=>fR U fun b3=>AL U Bj fun b4=>bo 1 U<|RK s<|WS fun _ Y=>rP 1 [] (mc 2 U I) ?_
 refine cX (nR r kA kC az cA cC bA bC slA slC drA drC ha heA heC hin) (bp [3,4,5,6,7,8,9,10,11]) U fun y6 g=>?_
 obtain ⟨k,AD,q,S,m,o,p⟩:=y6
 cases k
 ·obtain ⟨M,he⟩:=g.2 rfl
  try dsimp only at M he
  subst M
  try dsimp only [cond_true,cond_false,List.cons_append,List.nil_append]
  refine bo 5 U<|RK Y<|al fun _ y=>WS fun _ AC=>rP 2 [] I ?_
  refine RK AC<|bV U (bg fun T=>?_) (bh fun T=>?_)
  ·exact absurd T he
  refine WS fun _ V=>rS (SX (bj (xs:=[]) (cs:=(br.cells (br.mk (bJ.mk (aZ.mk (aN.mk none 0 0)) 0 (aN.mk none 0 0) (aN.mk none 0 0) 0 0 0) (aN.mk none 0 0) (aN.mk none 0 0) 0 (aN.mk none 0 0)))) U U (bk Gg U)) U U)<|bo 1 U<|fQ U tf U<|rP 1 [] I ?_
  refine RK V<|aq ?_
  refine LX hQ (false,(bX r),none,0,none,0,[],none,0,none,0,none,0,none,0,[]) [] [0] (mc 0 U I) U (by first|rfl|(show List.all _ _=true; simp only [cond_true,fH,List.all_nil,gk,ko,Bool.and_true]; rfl)) U ?_ ?_
  ·first|rfl|(simp only [cond_true,iT]; rfl)
  ·refine ⟨AB,fun _=>?_⟩; first|exact HZ (rT (h:=h) (i:=i) (t:=t) he) he|exact HZ (oP (h:=h) (i:=i) (t:=t) b) he
 obtain ⟨he,f⟩:=g.1 rfl
 try dsimp only [cond_true,cond_false,List.cons_append,List.nil_append]
 have b:=he
 try dsimp only at f
 have d:=(jk he).2
 refine bo 5 U<|RK Y<|al fun _ W=>WS fun _ X=>bo 1 U<|rS (SX (bZ (r:= .bool false) U U U ig) U U)<|RK X<|aX U<|WK W<|WS fun _ N=>rP 4 [] (mc 5 U I) ?_
 refine cX (wX r kA kC az cA cC bA bC slA slC drA drC ha heA heC p m o (Value.map (some S)) q h i t hin (by exact d)) (lO [8,9,10,11,12,13,14,15]<|aw (aj (n:=(cR r).length) 1 U (mF (by rw [e]; exact f)))<|aw (dR 2 U tp)<|fG 0 U U<|aK) U fun v P=>?_
 obtain ⟨l,w,A,G,B,H,R,C,AG,D,J,E,K,F,L,j⟩:=v
 cases l
 ·obtain ⟨M,he⟩:=P.2 rfl
  try dsimp only at M he
  subst M
  try dsimp only [cond_true,cond_false,List.cons_append,List.nil_append]
  refine bo 2 U<|Oy U tf U<|rP 1 [] I ?_
  refine RK N<|aq ?_
  refine LX hQ (false,(qb r h i t),none,0,none,0,[],none,0,none,0,none,0,none,0,[]) [] [0] (mc 4 U I) U (by first|rfl|(show List.all _ _=true; simp only [cond_true,fH,List.all_nil,gk,ko,Bool.and_true]; rfl)) U ?_ ?_
  ·first|rfl|(simp only [cond_true,iT]; rfl)
  ·refine ⟨AB,fun _=>?_⟩; first|exact HZ (rT (h:=h) (i:=i) (t:=t) he) he|exact HZ (oP (h:=h) (i:=i) (t:=t) b) he
 obtain ⟨O,⟨Z,a⟩,c⟩:=P.1 rfl
 try dsimp only [cond_true,cond_false,List.cons_append,List.nil_append]
 try dsimp only at O Z a c
 refine bo 2 U<|jg (vs:=(br.cells (br.mk (bJ.mk (aZ.mk (aN.mk A r.ah.aI.length G)) r.ah.dJ (aN.mk B r.ah.ai.length H) (aN.mk C r.ah.ae.length AG) r.ah.bH r.ah.cv r.ah.bM) (aN.mk D r.aJ.length J) (aN.mk E r.bB.length K) r.dW (aN.mk F ((dF r.ar h i t).length) L)))) (cs':=(br.cells (br.mk (bJ.mk (aZ.mk (aN.mk A r.ah.aI.length G)) r.ah.dJ (aN.mk B r.ah.ai.length H) (aN.mk C r.ah.ae.length AG) r.ah.bH r.ah.cv r.ah.bM) (aN.mk D r.aJ.length J) (aN.mk E r.bB.length K) r.dW (aN.mk F ((dF r.ar h i t).length) L)))) (C':=[_,_,_,_,_,_,_,_,_,_,_,_,(bY b4 32 (br.cells (br.mk (bJ.mk (aZ.mk (aN.mk A r.ah.aI.length G)) r.ah.dJ (aN.mk B r.ah.ai.length H) (aN.mk C r.ah.ae.length AG) r.ah.bH r.ah.cv r.ah.bM) (aN.mk D r.aJ.length J) (aN.mk E r.bB.length K) r.dW (aN.mk F ((dF r.ar h i t).length) L)))),_,_,_,_,_,_,_,_,_,_,_]) 12 U U U tf U U U U U U U<|rP 1 [] I ?_
 refine RK N<|aq ?_
 refine LX hQ (true,0,A,G,B,H,R,C,AG,D,J,E,K,F,L,j) [0,1,2,3,4,5,6,7] [0] (mc 12 U I) U (by first|rfl|(show List.all _ _=true; simp only [cond_true,fH,List.all_nil,gk,ko,Bool.and_true]; rfl)) U ?_ ?_
 ·first|rfl|(simp only [cond_true,iT]; rfl)
 ·exact ⟨fun _=>⟨(oP he).trans O,⟨Z,a⟩,c⟩,Np⟩
end
section
open Go.RowKit
theorem NA (la:List Int) (laA:OA) (laC:Nat) (lb:List Int) (lbA:OA) (lbC:Nat) (h1:la.length≤1000000) (h2:lb.length≤1000000):
 eg Tryz.prog 46 [(vS laA la.length laC),(vS lbA lb.length lbC)] [(rd laA la.length 1 (la.map iC)),(rd lbA lb.length 1 (lb.map iC))] (vB (decide (la=lb))):=by
 refine bI kr Tryz.func46 U U fun W Q hQ hN=>?_
 try dsimp only
 refine WS fun _ K=>bo 1 U<|RK K<|al fun _ L=>WS fun _ M=>rP 5 [] I ?_
 refine RK M<|cO U (bh fun hl=>?_) (bg fun hl=>?_)
 ·refine WS fun _ N=>rP 1 [] I ?_
  refine RK N<|aq<|Q1 hQ U U U ?_
  first|exact cB (cq (m0 hx hy h)).symm|exact cB (dw (nz om A om)).symm|exact cB (cq (fun e=>by subst e; omega)).symm
 refine WK L<|al fun _ O=>WS fun _ P=>rP 3 [] I ?_
 refine RK P<|ay ?_
 have B:(0≤la.length)∧(la.take 0=lb.take 0):=by simp
 refine bS (ι:={z:Nat // (z≤la.length)∧(la.take z=lb.take z)}) [0,1,12] [0,1] U U (fun z=>[(13,(vI (z.1:Int)))]) (fun z=>[]) (fun _=>rfl) (fun _=>rfl) (fun z=>la.length-z.1) ⟨0,B⟩ (aV U) (aL [0,1]) ?_
 clear B
 rintro ⟨i,⟨T,A⟩⟩ J7 J
 try dsimp only
 refine WS fun _ R=>rP 1 [] I ?_
 refine RK R<|al fun _ S=>bV U (aR fun AB=>?_) (aP fun AB=>?_)
 ·refine bE<|ag<|ag<|aA<|KK O<|WS fun _ G=>rP 1 [] I ?_
  refine RK G<|aq<|Q1 hQ U U U ?_
  first|exact cB (cq (m0 hx hy h)).symm|exact cB (dw (nz om A om)).symm|exact cB (cq (fun e=>by subst e; omega)).symm
 refine WK S<|al fun _ C=>ay<|WS fun _ D=>bo 2 U<|RK D<|al fun _ E=>dq cy 9 kr<|dP 2 [] I ?_
 obtain ⟨x,hx⟩:=aM la i om
 have AA:=bL iC hx
 refine dS (IA i U (aD 0 U) cx dc om om)<|dS (fY i 0 (vI x) U cd (aD 0 U) AA U dc U)<|dP 2 [] I ?_
 obtain ⟨y,hy⟩:=aM lb i om
 have V:=bL iC hy
 refine dS (IA i U (aD 1 U) cx dc om om)<|dS (fY i 0 (vI y) U cd (aD 1 U) V U dc U)<|dP 1 [] I ?_
 refine cL<|RK E<|cO U (bh fun h=>?_) (bg fun h=>?_)
 ·refine WS fun _ F=>rP 1 [] I ?_
  refine RK F<|aq<|Q1 hQ U U U ?_
  first|exact cB (cq (m0 hx hy h)).symm|exact cB (dw (nz om A om)).symm|exact cB (cq (fun e=>by subst e; omega)).symm
 refine cp<|aH<|KK C<|ao<|rP 2 [] I ?_
 refine aG ?_
 have H:(vI (((i+1):Nat):Int))=(vI ((i:Int)+1)):=by exact cI om
 refine aW (J ⟨(i+1),⟨om,ud A hx hy h⟩⟩ _ _ _ U os (cW 3<|bx U H<|dB.nil _) (aL [0,1]))
theorem Gh (h i:Int) (t:aa) (r:cm) (kA:OA) (kC:Nat) (az:List RA) (cA:OA) (cC:Nat) (bA:OA) (bC:Nat) (slA:OA) (slC:Nat) (drA:OA) (drC:Nat) (ha:List cS) (heA:OA) (heC:Nat) (hin:fm r az ha):
 lE Tryz.prog 23 [(vA (br.cells (oE r kA kC cA cC bA bC slA slC drA drC heA heC))),(vI h),(vI i),(vA (aa.cells t))] [(rd dH 3 2 dp),(rd kA r.ah.aI.length 9 (r.ah.aI.map an.cells)),(rd cA r.ah.ai.length 2 (List.zipWith au.cells r.ah.ai az)),(e9 (aS au.gW r.ah.ai az)),(rd bA r.ah.ae.length 4 (r.ah.ae.map bG.cells)),(rd slA r.aJ.length 1 (r.aJ.map iC)),(rd drA r.bB.length 1 (r.bB.map iC)),(rd heA r.ar.length 1 (List.zipWith cJ r.ar ha)),(e9 (aS iu r.ar ha))] (fun (x:(OA)×Nat)=>(vT [(vS x.1 ((cw r h i t).length) x.2),(vI (dK r h i t))])) (fun (x:(OA)×Nat)=>True) (fun (x:(OA)×Nat)=>[(own x.1 x.2 3 1 ((cw r h i t).map iC))]):=by
 have As:=hin.line
 have BG:=hin.iQ
 have BH:=hin.has
 have A5:=hin.iP
 have A3:=hin.draw
 have Ab:=dG (r:=r)
 refine dv kr Tryz.func23 U U fun w0 Q hQ hN=>?_
 try dsimp only
 refine WS fun _ Ar=>fR U fun b2=>fR U fun b3=>bo 2 U<|RK Ar<|WS fun _ AE=>rP 1 [] (mc 1 U I) ?_
 refine cX (nR r kA kC az cA cC bA bC slA slC drA drC ha heA heC hin) (bp [2,3,4,5,6,7,8,9,10]) U fun y5 Ac=>?_
 obtain ⟨Ae,BE,v,G,f,g,zW⟩:=y5
 cases Ae
 ·obtain ⟨B,he⟩:=Ac.2 rfl
  try dsimp only at B he
  subst B
  try dsimp only [cond_true,cond_false,List.cons_append,List.nil_append]
  refine bo 5 U<|RK AE<|al fun _ A1=>WS fun _ AA=>rP 2 [] I ?_
  refine RK AA<|bV U (bg fun w=>?_) (bh fun w=>?_)
  ·exact absurd w he
  refine WS fun _ AB=>rP 1 [] I ?_
  have A:dK r h i t=bX r:=rT he
  have C:cw r h i t=[]:=vX (by rw [A]; exact he)
  refine dM 3 1 ?_
  rw [show (own none 0 3 1 ([]:List (List Value)))=own none 0 3 1 ((cw r h i t).map iC) from by rw [C]; rfl]
  refine rP 2 [] I ?_
  refine RK AB<|aq ?_
  refine LX hQ (none,0) [0] [] I U U U ?_ ?_
  ·first|rfl|(rw [A,C]; rfl)|(rw [A]; rfl)
  ·trivial
 obtain ⟨he,m⟩:=Ac.1 rfl
 try dsimp only [cond_true,cond_false,List.cons_append,List.nil_append]
 have BJ:=he
 try dsimp only at m
 have AY:=(jk he).2
 refine bo 5 U<|RK AE<|al fun _ AC=>WS fun _ AD=>bo 1 U<|rS (SX (bZ (r:= .bool false) U U U ig) U U)<|RK AD<|aX U<|WK AC<|WS fun _ Z=>rP 4 [] (mc 4 U I) ?_
 refine cX (wX r kA kC az cA cC bA bC slA slC drA drC ha heA heC zW f g (Value.map (some G)) v h i t hin (by exact AY)) (lO [7,8,9,10,11,12,13,14]<|aw (aj (n:=(cR r).length) 1 U (mF (by rw [Ab]; exact m)))<|aw (dR 2 U tp)<|fG 0 U U<|aK) U fun Au d=>?_
 obtain ⟨Af,Az,L,S,M,T,o,N,BI,O,V,P,W,R,X,Ad⟩:=Au
 cases Af
 ·obtain ⟨B,he⟩:=d.2 rfl
  try dsimp only at B he
  subst B
  try dsimp only [cond_true,cond_false,List.cons_append,List.nil_append]
  refine bo 3 U<|AL U Bj fun BA=>fQ U tf U<|bo 1 U<|RK Z<|al fun _ A2=>WS fun _ AF=>rP 2 [] I ?_
  refine RK AF<|bV U (bg fun y=>?_) (bh fun y=>?_)
  ·exact absurd y he
  refine WS fun _ AG=>rP 1 [] I ?_
  have A:dK r h i t=qb r h i t:=oP BJ
  have C:cw r h i t=[]:=vX (by rw [A]; exact he)
  refine dM 3 1 ?_
  rw [show (own none 0 3 1 ([]:List (List Value)))=own none 0 3 1 ((cw r h i t).map iC) from by rw [C]; rfl]
  refine rP 2 [] I ?_
  refine RK AG<|aq ?_
  refine LX hQ (none,0) [0] [] I U U U ?_ ?_
  ·first|rfl|(rw [A,C]; rfl)|(rw [A]; rfl)
  ·trivial
 obtain ⟨E,⟨j,AV⟩,J⟩:=d.1 rfl
 try dsimp only [cond_true,cond_false,List.cons_append,List.nil_append]
 try dsimp only at E j AV J
 have l:dK r h i t=0:=(oP BJ).trans E
 have AW:=hin.rep j AV J
 refine bo 3 U<|AL U Bj fun BB=>fQ U tf U<|bo 1 U<|RK Z<|al fun _ AH=>WS fun _ AI=>bo 1 U<|rS (SX (bZ (r:= .bool false) U U U ig) U U)<|RK AI<|aX U<|WK AH<|WS fun _ AJ=>rP 1 [] (mc 0 U I) ?_
 refine cX (nR (jt r h i t) L S o M T N BI O V P W Ad R X (by exact AW)) (fG 15 U U<|aw (aj (n:=r.ah.aI.length) 1 U sm)<|aw (aj (n:=r.ah.ai.length) 2 U (gX j))<|aw (dR 3 U iM)<|aw (aj (n:=r.ah.ae.length) 4 U sm)<|aw (aj (n:=r.aJ.length) 5 U sm)<|aw (aj (n:=r.bB.length) 6 U sm)<|aw (aj (n:=(dF r.ar h i t).length) 7 U (fr J.1))<|aw (g7 8 U J)<|aK) U fun Av e=>?_
 obtain ⟨Ag,A0,s,p,Ah,Ai,T1⟩:=Av
 cases Ag
 ·obtain ⟨B,he⟩:=e.2 rfl
  try dsimp only at B he
  subst B
  try dsimp only [cond_true,cond_false,List.cons_append,List.nil_append]
  exact absurd (yJ l) he
 obtain ⟨he,m⟩:=e.1 rfl
 try dsimp only [cond_true,cond_false,List.cons_append,List.nil_append]
 have AZ:=m_ BJ
 have F:=oM BJ
 have Aa:=m_ he
 have A4:=oM he
 refine bo 5 U<|RK AJ<|WS fun _ AK=>bo 1 U<|RK AK<|al fun _ AM=>WS fun _ AN=>bo 1 U<|rS (SX (bO U U) U U)<|rP 2 [] (mc 13 U I) ?_
 refine cX (FK G) (aK) U fun Am A6=>?_
 try dsimp only
 refine cX (yw (aF r) G Am sd) (bp [17,0]) U fun Aw A7=>?_
 obtain ⟨A_,BD⟩:=Aw
 try dsimp only
 rw [show (aF r).length=(di ((aF r).map (·.1))).length from by rw [gp,List.length_map]]
 refine rP 1 [] I ?_
 have AX:(di ((aF r).map (·.1))).length≤5:=by rw [gp,List.length_map]; exact F
 refine rP 1 [] I ?_
 refine RK AN<|ay<|fT 3 1 ?_
 have D:(0≤(di ((aF r).map (·.1))).length):=by exact Nat.zero_le _
 refine bS (ι:={z:Nat×(OA)×Nat // (z.1≤(di ((aF r).map (·.1))).length)}) [10,13,47,48] [1,3,4,5,6,8,9,10,11,12,13,14,15,16,17,18,19,22,23,24,25,26,27,28,29,30] U U (fun z=>[(15,(vS z.1.2.1 ((((di ((aF r).map (·.1))).take z.1.1).filter (fun u=> !decide (db (aF r) u (aB (aF r) u)=db (aF (jt r h i t)) u (aB (aF (jt r h i t)) u)))).length) z.1.2.2)),(49,(vI (z.1.1:Int)))]) (fun z=>[(own z.1.2.1 z.1.2.2 3 1 ((((di ((aF r).map (·.1))).take z.1.1).filter (fun u=> !decide (db (aF r) u (aB (aF r) u)=db (aF (jt r h i t)) u (aB (aF (jt r h i t)) u)))).map iC))]) (fun _=>rfl) (fun _=>rfl) (fun z=>(di ((aF r).map (·.1))).length-z.1.1) ⟨(0,none,0),D⟩ (aV U) (aL [1,3,4,5,6,8,9,10,11,12,13,14,15,16,17,18,19,22,23,24,25,26,27,28,29,30,0]) ?_
 clear D
 rintro ⟨⟨k,a,c⟩,K⟩ J65 Y
 try dsimp only at K
 try dsimp only
 have BF:((((di ((aF r).map (·.1))).take k).filter (fun u=> !decide (db (aF r) u (aB (aF r) u)=db (aF (jt r h i t)) u (aB (aF (jt r h i t)) u))))).length≤12:=Nat.le_trans (List.length_filter_le _ _) (by rw [List.length_take]; omega)
 refine WS fun _ AO=>rP 1 [] I ?_
 refine RK AO<|al fun _ AP=>bV U (aR fun Aq=>?_) (aP fun Aq=>?_)
 ·refine bE<|ag<|ag<|aA<|KK AM<|WS fun _ AS=>rP 1 [] I ?_
  have A:=l
  have C:cw r h i t=(((di ((aF r).map (·.1))).take k).filter (fun u=> !decide (db (aF r) u (aB (aF r) u)=db (aF (jt r h i t)) u (aB (aF (jt r h i t)) u)))):=by rw [Eb l,List.take_of_length_le om]
  rw [← C]
  refine rP 2 [] I ?_
  refine RK AS<|aq ?_
  refine LX hQ (a,c) [26] [] I U U U ?_ ?_
  ·first|rfl|(rw [A,C]; rfl)|(rw [A]; rfl)
  ·trivial
 refine WK AP<|al fun _ b=>ay<|WS fun _ AQ=>?_
 obtain ⟨x,hx⟩:=aM (di ((aF r).map (·.1))) k om
 have At:=bL iC hx
 refine rS (IA k U (aj (n:=(di ((aF r).map (·.1))).length) 0 U sm) cx dc om om)<|rS (fY k 0 (vI x) U cd (aj (n:=(di ((aF r).map (·.1))).length) 0 U sm) At U dc U)<|bo 1 U<|RK AQ<|WS fun _ AR=>rP 2 [] I ?_
 refine cX (zt r kA kC cA cC bA bC slA slC drA drC heA heC f ((cR r).length) g G v (aF r) x (by exact AZ) (by exact By (aU hx)) om) (bp [13,16]) U fun Ax A8=>?_
 obtain ⟨Aj,An⟩:=Ax
 try dsimp only
 refine rP 2 [] I ?_
 refine cX (zt (cm.mk r.ah r.aJ r.bB r.dW (dF r.ar h i t)) L S M T N BI O V P W R X Ah ((cR (jt r h i t)).length) Ai p s (aF (jt r h i t)) x (by exact Aa) (by exact fun q=>by have:=Kf E x; rw [q] at this; exact By (aU hx) (Option.not_isSome_iff_eq_none.1 (by rw [← this]; decide))) om) (bp [2,5]) U fun Ay A9=>?_
 obtain ⟨Ak,Ao⟩:=Ay
 try dsimp only
 refine rS (CL (NA (db (aF r) x (aB (aF r) x)) Aj An (db (aF (jt r h i t)) x (aB (aF (jt r h i t)) x)) Ak Ao (by exact Nat.le_trans we om) (by exact Nat.le_trans we om)) (aw (aj (n:=(db (aF r) x (aB (aF r) x)).length) 1 U sm)<|aw (aj (n:=(db (aF (jt r h i t)) x (aB (aF (jt r h i t)) x)).length) 0 U sm)<|aK) U)<|rP 1 [] I ?_
 refine RK AR<|bV U (bg fun H=>?_) (bh fun H=>?_)
 ·refine cp<|aH<|KK b<|ao<|rP 1 [] I ?_
  have AX:(di ((aF r).map (·.1))).length≤5:=by rw [gp,List.length_map]; exact F
  refine rP 1 [] I ?_
  refine aG ?_
  rw [show (((di ((aF r).map (·.1))).take k).filter (fun u=> !decide (db (aF r) u (aB (aF r) u)=db (aF (jt r h i t)) u (aB (aF (jt r h i t)) u))))=(((di ((aF r).map (·.1))).take (k+1)).filter (fun u=> !decide (db (aF r) u (aB (aF r) u)=db (aF (jt r h i t)) u (aB (aF (jt r h i t)) u)))) from (FD hx (by simpa using H)).symm]
  have AU:(vI (((k+1):Nat):Int))=(vI ((k:Int)+1)):=by exact cI om
  refine aW (Y ⟨((k+1),a,c),(by first|omega|(simp only []; omega))⟩ _ _ _ U (by first|omega|(dsimp only; omega)) (cW 5<|bx U AU<|dB.nil _) (aL [2,3,4,5,6,7,8,9,10,11,12,13,14,15,16,17,18,19,20,21,22,23,24,25,26,27,28]))
 refine ao<|rP 2 [] I ?_
 refine cZ (xs:=[.tmp 62]) (cs:=[(vI x)]) U cx i_ U U U U (by simp [Value.cells]) U U fun BC=>?_
 refine df (es2:=(List.map iC (((di ((aF r).map (·.1))).take (k+1)).filter (fun u=> !decide (db (aF r) u (aB (aF r) u)=db (aF (jt r h i t)) u (aB (aF (jt r h i t)) u)))))) (m':=(((di ((aF r).map (·.1))).take (k+1)).filter (fun u=> !decide (db (aF r) u (aB (aF r) u)=db (aF (jt r h i t)) u (aB (aF (jt r h i t)) u)))).length) 29 U U U pO U U sm (a_ (es:=List.map iC [x]) 0 U U (by simp [bK]) U) (j9 _) os (by simp only [maxLen]; first|omega|(simp; omega)) (by rw [wa hx (by simpa using H)]; simp) (by rw [wa hx (by simpa using H)]; simp) U fun Al Ap=>?_
 try dsimp only
 refine bo 1 U<|aG<|aH<|KK b<|ao<|rP 1 [] I ?_
 have AX:(di ((aF r).map (·.1))).length≤5:=by rw [gp,List.length_map]; exact F
 refine rP 1 [] I ?_
 refine aG ?_
 have AT:(vI (((k+1):Nat):Int))=(vI ((k:Int)+1)):=by exact cI om
 refine aW (Y ⟨((k+1),Al,Ap),(by first|omega|(simp only []; omega))⟩ _ _ _ U (by first|omega|(dsimp only; omega)) (cW 5<|bx U AT<|dB.nil _) (aL [3,4,5,6,7,8,9,10,11,12,13,14,15,16,17,18,19,20,21,22,23,24,25,26,27,28,29]))
end
section
open Go.RowKit
theorem lV (x y:Int):
 eg Tryz.prog 22 [(vI x),(vI y)] [] (vA (aa.cells (aa.mk x y))):=by
 refine bI kr Tryz.func22 U U fun D Q hQ hN=>?_
 try dsimp only
 refine WS fun _ A=>AL U dg fun C=>RK A<|WS fun _ B=>rP 2 [] I ?_
 refine rS (SX (bj (xs:=[(0,.tmp 5),(1,.tmp 6)]) (cs:=(aa.cells (aa.mk x y))) U U (bk gj U)) U U)<|fQ U cu U<|RK B<|aq ?_
 exact HO hQ [0] (mc 0 U I) U U
theorem zS (x:Int):
 eg Tryz.prog 60 [(vI x)] [] (vA (cM.cells (cM.mk 0 (aa.mk x x)))):=by
 refine bI kr Tryz.func60 U U fun D Q hQ hN=>?_
 try dsimp only
 refine WS fun _ A=>AL U CK fun C=>RK A<|WS fun _ B=>rP 2 [] I ?_
 refine rS (CL (lV x x) (aK) U)<|rS (SX (bj (xs:=[(1,.tmp 5)]) (cs:=(cM.cells (cM.mk 0 (aa.mk x x)))) U U (bk Ry U)) U U)<|fQ U Kw U<|RK B<|aq ?_
 exact HO hQ [0] (mc 0 U I) U U
theorem qf (x y:Int):
 eg Tryz.prog 39 [(vI x),(vI y)] [] (vA (bu.cells (bu.mk false true (aa.mk x y) (eG.mk 0 0 (aN.mk none 0 0))))):=by
 refine bI kr Tryz.func39 U U fun D Q hQ hN=>?_
 try dsimp only
 refine WS fun _ A=>AL U M5 fun C=>RK A<|WS fun _ B=>rP 2 [] I ?_
 refine rS (CL (lV x y) (aK) U)<|rS (SX (bj (xs:=[(1,.const (vB true)),(2,.tmp 7)]) (cs:=(bu.cells (bu.mk false true (aa.mk x y) (eG.mk 0 0 (aN.mk none 0 0))))) U U (bk Pz U)) U U)<|fQ U Pr U<|RK B<|aq ?_
 exact HO hQ [0] (mc 0 U I) U U
theorem Mb:
 lE Tryz.prog 37 [] [] (fun (x:(OA)×Nat×(OA)×Nat×(List RA)×(OA)×Nat)=>(vA (bJ.cells (bJ.mk (aZ.mk (aN.mk x.1 ab.ah.aI.length x.2.1)) ab.ah.dJ (aN.mk x.2.2.1 ab.ah.ai.length x.2.2.2.1) (aN.mk x.2.2.2.2.2.1 ab.ah.ae.length x.2.2.2.2.2.2) ab.ah.bH ab.ah.cv ab.ah.bM)))) (fun (x:(OA)×Nat×(OA)×Nat×(List RA)×(OA)×Nat)=>x.2.2.2.2.1.length=ab.ah.ai.length∧eB ab.ah x.2.2.2.2.1) (fun (x:(OA)×Nat×(OA)×Nat×(List RA)×(OA)×Nat)=>[(own x.1 x.2.1 122 9 (ab.ah.aI.map an.cells)),(own x.2.2.1 x.2.2.2.1 127 2 (List.zipWith au.cells ab.ah.ai x.2.2.2.2.1)),(bq (aS au.owns ab.ah.ai x.2.2.2.2.1)),(own x.2.2.2.2.2.1 x.2.2.2.2.2.2 129 4 (ab.ah.ae.map bG.cells))]):=by
 refine dv kr Tryz.func37 U U fun AA Q hQ hN=>?_
 try dsimp only
 refine WS fun _ E=>AL U Uq fun H=>RK E<|WS fun _ F=>bo 1 U<|RK F<|WS fun _ G=>rS (CL (lV 10000 10200) (aK) U)<|rS (CL (lV 0 100) (aK) U)<|rS (SX (bj (xs:=[(0,.const (vI 1)),(1,.tmp 2),(2,.tmp 3)]) (cs:=(an.cells (an.mk 1 (aa.mk 10000 10200) (aa.mk 0 100) (aa.mk 0 0) 0 0))) U U (bk RP U)) U U)<|cZ (xs:=[.tmp 4]) (cs:=(an.cells (an.mk 1 (aa.mk 10000 10200) (aa.mk 0 100) (aa.mk 0 0) 0 0))) U xX Fx U U U U (by simp [Value.cells,an.aT]) U U fun B=>rS (SX (bj (xs:=[(0,.tmp 5)]) (cs:=(aZ.cells (aZ.mk (aN.mk (some ⟨B,0,none⟩) 1 1)))) U U (bk Ux U)) U U)<|rS (CL (lV 0 2) (aK) U)<|rS (SX (bj (xs:=[(0,.const (vI 0)),(1,.tmp 7)]) (cs:=(cG.cells (cG.mk 0 (aa.mk 0 2)))) U U (bk OJ U)) U U)<|rS (CL (lV 5 6) (aK) U)<|rS (SX (bj (xs:=[(0,.const (vI 100000)),(1,.tmp 9)]) (cs:=(cG.cells (cG.mk 100000 (aa.mk 5 6)))) U U (bk OJ U)) U U)<|cZ (xs:=[.tmp 8,.tmp 10]) (cs:=((cG.cells (cG.mk 0 (aa.mk 0 2)))++(cG.cells (cG.mk 100000 (aa.mk 5 6))))) U p7 rh U U U U (by simp [Value.cells,cG.aT]) U U fun A=>rS (SX (bj (xs:=[(0,.const (vI 100)),(1,.tmp 11)]) (cs:=(du.cells (du.mk 100 (aN.mk (some ⟨A,0,none⟩) 2 2)))) U U (bk Ss U)) U U)<|cZ (xs:=[.tmp 12]) (cs:=(du.cells (du.mk 100 (aN.mk (some ⟨A,0,none⟩) 2 2)))) U Ak H_ U U U U (by simp [Value.cells,du.aT]) U U fun C=>bo 1 U<|rS (CL (zS 1000) (aK) U)<|rS (SX (bj (xs:=[(0,.tmp 15)]) (cs:=(bG.cells (bG.mk (cM.mk 0 (aa.mk 1000 1000)) 0))) U U (bk Ku U)) U U)<|bo 1 U<|rS (CL (zS 4000) (aK) U)<|rS (SX (bj (xs:=[(0,.tmp 18)]) (cs:=(bG.cells (bG.mk (cM.mk 0 (aa.mk 4000 4000)) 0))) U U (bk Ku U)) U U)<|rP 1 [] I ?_
 refine rS (CL (zS 9000) (aK) U)<|rS (SX (bj (xs:=[(0,.tmp 21)]) (cs:=(bG.cells (bG.mk (cM.mk 0 (aa.mk 9000 9000)) 0))) U U (bk Ku U)) U U)<|cZ (xs:=[.tmp 16,.tmp 19,.tmp 22]) (cs:=((bG.cells (bG.mk (cM.mk 0 (aa.mk 1000 1000)) 0))++(bG.cells (bG.mk (cM.mk 0 (aa.mk 4000 4000)) 0))++(bG.cells (bG.mk (cM.mk 0 (aa.mk 9000 9000)) 0)))) U vh RF U U U U (by simp [Value.cells,bG.aT]) U U fun D=>rS (SX (bj (xs:=[(0,.tmp 6),(1,.const (vI 2000)),(4,.const (vI 1)),(5,.const (vI 1)),(6,.const (vI 1)),(2,.tmp 13),(3,.tmp 23)]) (cs:=(bJ.cells (bJ.mk (aZ.mk (aN.mk (some ⟨B,0,none⟩) 1 1)) 2000 (aN.mk (some ⟨C,0,none⟩) 1 1) (aN.mk (some ⟨D,0,none⟩) 3 3) 1 1 1))) U U (bk TD U)) U U) ?_
 refine dY (es:=(ab.ah.aI.map an.cells)) (C':=[_,_,_,(own (some ⟨B,0,none⟩) 1 122 9 (ab.ah.aI.map an.cells)),_]) 3 U (mE an.aT _) U (by show _≤maxLen; exact Nat.le_trans (m:=10) (show (1:Nat)≤10 by decide) dc) U ?_
 refine dY (es:=(xZ.bw.map cG.cells)) (C':=[_,_,(own (some ⟨A,0,none⟩) 2 124 3 (xZ.bw.map cG.cells)),_,_]) 2 U (mE cG.aT _) U (by show _≤maxLen; exact Nat.le_trans (m:=10) (show (2:Nat)≤10 by decide) dc) U ?_
 refine dY (es:=(List.zipWith au.cells ab.ah.ai [((some ⟨A,0,none⟩),2)])) (C':=[_,(own (some ⟨C,0,none⟩) 1 127 2 (List.zipWith au.cells ab.ah.ai [((some ⟨A,0,none⟩),2)])),_,_,_]) 1 U (by intro x hx; change x∈[au.cells xZ ((some ⟨A,0,none⟩),2)] at hx; rw [List.mem_singleton.1 hx]; rfl) U (by show _≤maxLen; exact Nat.le_trans (m:=10) (show (1:Nat)≤10 by decide) dc) U ?_
 refine dY (es:=(ab.ah.ae.map bG.cells)) (C':=[(own (some ⟨D,0,none⟩) 3 129 4 (ab.ah.ae.map bG.cells)),_,_,_,_]) 0 U (mE bG.aT _) U (by show _≤maxLen; exact Nat.le_trans (m:=10) (show (3:Nat)≤10 by decide) dc) U ?_
 refine xe<|OD (X:=[]) (X':=aS au.owns ab.ah.ai [((some ⟨A,0,none⟩),2)]) 0 3 U U U<|Oy U Ty U<|RK G<|aq ?_
 refine LX hQ ((some ⟨B,0,none⟩),1,(some ⟨C,0,none⟩),1,[((some ⟨A,0,none⟩),2)],(some ⟨D,0,none⟩),3) [3,2,0,1] [0] (mc 4 U I) U (by simp only [fH,List.all_nil,gk,Bool.and_true]; rfl) U U ?_
 exact ⟨U,SL 1 dc⟩
theorem ML:
 lE Tryz.prog 38 [] [] (fun (x:(OA)×Nat)=>(vA (eG.cells (eG.mk mw.Start mw.gf (aN.mk x.1 mw.ak.length x.2))))) (fun (x:(OA)×Nat)=>True) (fun (x:(OA)×Nat)=>[(own x.1 x.2 131 2 (mw.ak.map aO.cells))]):=by
 refine dv kr Tryz.func38 U U fun E Q hQ hN=>?_
 try dsimp only
 refine WS fun _ B=>AL U UK fun D=>RK B<|WS fun _ C=>rS (SX (bj (xs:=[(0,.const (vI 0)),(1,.const (vI 10600))]) (cs:=(aO.cells (aO.mk 0 10600))) U U (bk F0 U)) U U)<|rS (SX (bj (xs:=[(0,.const (vI 0)),(1,.const (vI 11000))]) (cs:=(aO.cells (aO.mk 0 11000))) U U (bk F0 U)) U U)<|rS (SX (bj (xs:=[(0,.const (vI 1)),(1,.const (vI 12600))]) (cs:=(aO.cells (aO.mk 1 12600))) U U (bk F0 U)) U U)<|cZ (xs:=[.tmp 1,.tmp 2,.tmp 3]) (cs:=((aO.cells (aO.mk 0 10600))++(aO.cells (aO.mk 0 11000))++(aO.cells (aO.mk 1 12600)))) U zO EK U U U U (by simp [Value.cells,aO.aT]) U U fun A=>rS (SX (bj (xs:=[(0,.const (vI 10000)),(1,.const (vI 20000)),(2,.tmp 4)]) (cs:=(eG.cells (eG.mk 10000 20000 (aN.mk (some ⟨A,0,none⟩) 3 3)))) U U (bk Ug U)) U U)<|dY (es:=(mw.ak.map aO.cells)) (C':=[(own (some ⟨A,0,none⟩) 3 131 2 (mw.ak.map aO.cells)),_]) 0 U (mE aO.aT _) U dc U<|tw U UD U<|RK C<|aq<|LX hQ ((some ⟨A,0,none⟩),3) [0] [0] (mc 1 U I) U U U U ?_
 trivial
end
section
open Go.RowKit
theorem jn:
 lE Tryz.prog 19 [] [] (fun (x:(OA)×Nat×(OA)×Nat×(List RA)×(OA)×Nat×(OA)×Nat×(OA)×Nat×(OA)×Nat×(List cS))=>(vA (br.cells (br.mk (bJ.mk (aZ.mk (aN.mk x.1 ab.ah.aI.length x.2.1)) ab.ah.dJ (aN.mk x.2.2.1 ab.ah.ai.length x.2.2.2.1) (aN.mk x.2.2.2.2.2.1 ab.ah.ae.length x.2.2.2.2.2.2.1) ab.ah.bH ab.ah.cv ab.ah.bM) (aN.mk x.2.2.2.2.2.2.2.1 ab.aJ.length x.2.2.2.2.2.2.2.2.1) (aN.mk x.2.2.2.2.2.2.2.2.2.1 ab.bB.length x.2.2.2.2.2.2.2.2.2.2.1) ab.dW (aN.mk x.2.2.2.2.2.2.2.2.2.2.2.1 ab.ar.length x.2.2.2.2.2.2.2.2.2.2.2.2.1))))) (fun (x:(OA)×Nat×(OA)×Nat×(List RA)×(OA)×Nat×(OA)×Nat×(OA)×Nat×(OA)×Nat×(List cS))=>fm ab x.2.2.2.2.1 x.2.2.2.2.2.2.2.2.2.2.2.2.2∧x.2.2.2.2.1.length=ab.ah.ai.length∧sO ab.ar x.2.2.2.2.2.2.2.2.2.2.2.2.2) (fun (x:(OA)×Nat×(OA)×Nat×(List RA)×(OA)×Nat×(OA)×Nat×(OA)×Nat×(OA)×Nat×(List cS))=>[(own x.1 x.2.1 122 9 (ab.ah.aI.map an.cells)),(own x.2.2.1 x.2.2.2.1 127 2 (List.zipWith au.cells ab.ah.ai x.2.2.2.2.1)),(bq (aS au.owns ab.ah.ai x.2.2.2.2.1)),(own x.2.2.2.2.2.1 x.2.2.2.2.2.2.1 129 4 (ab.ah.ae.map bG.cells)),(own x.2.2.2.2.2.2.2.1 x.2.2.2.2.2.2.2.2.1 3 1 (ab.aJ.map iC)),(own x.2.2.2.2.2.2.2.2.2.1 x.2.2.2.2.2.2.2.2.2.2.1 3 1 (ab.bB.map iC)),(own x.2.2.2.2.2.2.2.2.2.2.2.1 x.2.2.2.2.2.2.2.2.2.2.2.2.1 47 1 (List.zipWith cJ ab.ar x.2.2.2.2.2.2.2.2.2.2.2.2.2)),(bq (aS gP ab.ar x.2.2.2.2.2.2.2.2.2.2.2.2.2))]):=by
 refine dv kr Tryz.func19 U U fun Y Q hQ hN=>?_
 try dsimp only
 refine WS fun _ P=>AL U Bj fun W=>RK P<|WS fun _ R=>cX Mb (aK) U fun X T=>?_
 obtain ⟨K,M,L,N,F,E,G⟩:=X
 try dsimp only
 obtain ⟨S,O⟩:=T
 refine cZ (xs:=[.const (vI 4),.const (vI 7),.const (vI 9)]) (cs:=[(vI 4),(vI 7),(vI 9)]) U cx i_ U U U U (by simp [Value.cells]) U U fun H=>cZ (xs:=[.const (vI 2),.const (vI 0),.const (vI 1)]) (cs:=[(vI 2),(vI 0),(vI 1)]) U cx i_ U U U U (by simp [Value.cells]) U U fun AB=>cX ML (aK) U fun AA V=>?_
 obtain ⟨A,B⟩:=AA
 try dsimp only
 refine rS (SX (bj (xs:=[(3,.tmp 4)]) (cs:=(bu.cells (bu.mk false false (aa.mk 0 0) (eG.mk mw.Start mw.gf (aN.mk A mw.ak.length B))))) U U (bk Pz U)) U U)<|rS (CL (qf 2600 2600) (aK) U)<|rS (CL (qf 2580 2609) (aK) U)<|cZ (xs:=[.tmp 5,.tmp 6,.tmp 7]) (cs:=((bu.cells (bu.mk false false (aa.mk 0 0) (eG.mk mw.Start mw.gf (aN.mk A mw.ak.length B))))++(bu.cells (bu.mk false true (aa.mk 2600 2600) (eG.mk 0 0 (aN.mk none 0 0))))++(bu.cells (bu.mk false true (aa.mk 2580 2609) (eG.mk 0 0 (aN.mk none 0 0)))))) U xn M5 U U U U (by simp [Value.cells,bu.aT]) U U fun C=>rS (CL (qf 2555 2559) (aK) U)<|rS (CL (qf 2540 2549) (aK) U)<|rS (CL (qf 2570 2575) (aK) U)<|cZ (xs:=[.tmp 9,.tmp 10,.tmp 11]) (cs:=((bu.cells (bu.mk false true (aa.mk 2555 2559) (eG.mk 0 0 (aN.mk none 0 0))))++(bu.cells (bu.mk false true (aa.mk 2540 2549) (eG.mk 0 0 (aN.mk none 0 0))))++(bu.cells (bu.mk false true (aa.mk 2570 2575) (eG.mk 0 0 (aN.mk none 0 0)))))) U xn M5 U U U U (by simp [Value.cells,bu.aT]) U U fun D=>cZ (xs:=[.tmp 8,.tmp 12]) (cs:=[(vS (some ⟨C,0,none⟩) 3 3),(vS (some ⟨D,0,none⟩) 3 3)]) U q9 Tn U U U U (by simp [Value.cells]) U U fun J=>rS (SX (bj (xs:=[(0,.tmp 1),(1,.tmp 2),(2,.tmp 3),(3,.const (vI 2)),(4,.tmp 13)]) (cs:=(br.cells (br.mk (bJ.mk (aZ.mk (aN.mk K ab.ah.aI.length M)) ab.ah.dJ (aN.mk L ab.ah.ai.length N) (aN.mk E ab.ah.ae.length G) ab.ah.bH ab.ah.cv ab.ah.bM) (aN.mk (some ⟨H,0,none⟩) 3 3) (aN.mk (some ⟨AB,0,none⟩) 3 3) 2 (aN.mk (some ⟨J,0,none⟩) 2 2)))) U U (bk Gg U)) U U) ?_
 refine dY (es:=(ab.aJ.map iC)) (C':=[_,_,_,_,_,(own (some ⟨H,0,none⟩) 3 3 1 (ab.aJ.map iC)),_,_,_,_,_]) 5 U (mE bK _) U (by show _≤maxLen; exact Nat.le_trans (m:=10) (show (3:Nat)≤10 by decide) dc) U ?_
 refine dY (es:=(ab.bB.map iC)) (C':=[_,_,_,_,(own (some ⟨AB,0,none⟩) 3 3 1 (ab.bB.map iC)),_,_,_,_,_,_]) 4 U (mE bK _) U (by show _≤maxLen; exact Nat.le_trans (m:=10) (show (3:Nat)≤10 by decide) dc) U ?_
 refine dY (es:=(List.zipWith ax.cells SM [(A,B),(none,0),(none,0)])) (C':=[_,_,(own (some ⟨C,0,none⟩) 3 46 7 (List.zipWith ax.cells SM [(A,B),(none,0),(none,0)])),_,_,_,_,_,_,_,_]) 2 U (oT FV) U (by show _≤maxLen; exact Nat.le_trans (m:=10) (show (3:Nat)≤10 by decide) dc) U ?_
 refine dY (es:=(List.zipWith ax.cells Sm [(none,0),(none,0),(none,0)])) (C':=[_,(own (some ⟨D,0,none⟩) 3 46 7 (List.zipWith ax.cells Sm [(none,0),(none,0),(none,0)])),_,_,_,_,_,_,_,_,_]) 1 U (oT FV) U (by show _≤maxLen; exact Nat.le_trans (m:=10) (show (3:Nat)≤10 by decide) dc) U ?_
 refine dY (es:=(List.zipWith cJ ab.ar [(((some ⟨C,0,none⟩),3),[(A,B),(none,0),(none,0)]),(((some ⟨D,0,none⟩),3),[(none,0),(none,0),(none,0)])])) (C':=[(own (some ⟨J,0,none⟩) 2 47 1 (List.zipWith cJ ab.ar [(((some ⟨C,0,none⟩),3),[(A,B),(none,0),(none,0)]),(((some ⟨D,0,none⟩),3),[(none,0),(none,0),(none,0)])])),_,_,_,_,_,_,_,_,_,_]) 0 U (oT Lh) U (by show _≤maxLen; exact Nat.le_trans (m:=10) (show (2:Nat)≤10 by decide) dc) U ?_
 refine dM 131 2<|dM 131 2<|dM 131 2<|dM 131 2<|dM 131 2<|wq (C1:=[(own (some ⟨J,0,none⟩) 2 47 1 (List.zipWith cJ ab.ar [(((some ⟨C,0,none⟩),3),[(A,B),(none,0),(none,0)]),(((some ⟨D,0,none⟩),3),[(none,0),(none,0),(none,0)])])),(own (some ⟨AB,0,none⟩) 3 3 1 (ab.bB.map iC)),(own (some ⟨H,0,none⟩) 3 3 1 (ab.aJ.map iC)),(own K M 122 9 (ab.ah.aI.map an.cells)),(own L N 127 2 (List.zipWith au.cells ab.ah.ai F)),(bq (aS au.owns ab.ah.ai F)),(own E G 129 4 (ab.ah.ae.map bG.cells)),(bY W 32 (br.cells (br.mk (bJ.mk (aZ.mk (aN.mk none 0 0)) 0 (aN.mk none 0 0) (aN.mk none 0 0) 0 0 0) (aN.mk none 0 0) (aN.mk none 0 0) 0 (aN.mk none 0 0))))]) (aS gP ab.ar [(((some ⟨C,0,none⟩),3),[(A,B),(none,0),(none,0)]),(((some ⟨D,0,none⟩),3),[(none,0),(none,0),(none,0)])]) [7,8,0,1,6,2,3,4,5,9,10,11,12,13,14,15] U U<|Vd U tf U<|RK R<|aq ?_
 refine LX hQ (K,M,L,N,F,E,G,(some ⟨H,0,none⟩),3,(some ⟨AB,0,none⟩),3,(some ⟨J,0,none⟩),2,[(((some ⟨C,0,none⟩),3),[(A,B),(none,0),(none,0)]),(((some ⟨D,0,none⟩),3),[(none,0),(none,0),(none,0)])]) [4,5,6,7,3,2,1,0] [0] (mc 8 U I) U (by show List.all _ _=true; simp only [fH,List.all_nil,gk,ko,Bool.and_true]; rfl) U U ?_
 exact ⟨Pb O H8,S,H8⟩
end
section
open Go.RowKit
theorem Jw (a b:Int) (m:g3) (gm g1:Nat) (hb: ∀ p∈m,0≤p.2.Lo∧p.2.Lo≤p.2.Hi∧p.2.Hi≤30000000):
 eg Tryz.prog 69 [(vI a),(vI b),(vP g1)] [(ik iV gm (bT dV m)),(bY g1 58 [(Value.map (some gm))])] (vI ((aB m a).Hi-(aB m b).Hi)):=by
 have A:=gL (i:=a) hb
 have B:=gL (i:=b) hb
 refine bI kr Tryz.func69 U U fun E Q hQ hN=>?_
 try dsimp only
 refine WS fun _ C=>bo 1 U<|RK C<|WS fun _ D=>fD 2 [] (mr 1 U I) U<|rS (SX (kM (kV:=iV) (x:=a) (l:=m) (f:=dV) (z:=(aa.mk 0 0)) U U U nK (eL pK) xd (by exact kU 0 U)) U U)<|rS (SX (kK (v:=(vI (((List.lookup a m).getD (aa.mk 0 0)).Hi))) U U fB zQ U) U U)<|rP 2 [] (mr 1 U I) ?_
 refine rS (SX (kM (kV:=iV) (x:=b) (l:=m) (f:=dV) (z:=(aa.mk 0 0)) U U U nK (eL pK) xd (by exact kU 0 U)) U U)<|rS (SX (kK (v:=(vI (((List.lookup b m).getD (aa.mk 0 0)).Hi))) U U fB zQ U) U U) ?_
 unfold aB at A B
 simp only [dA] at A B
 refine rP 2 [] I ?_
 refine RK D<|aq ?_
 exact Q1 hQ U U U U
theorem Mq (heatX:Int) (r:cm) (kA:OA) (kC:Nat) (az:List RA) (cA:OA) (cC:Nat) (bA:OA) (bC:Nat) (slA:OA) (slC:Nat) (drA:OA) (drC:Nat) (ha:List cS) (heA:OA) (heC:Nat) (hin:fm r az ha):
 lE Tryz.prog 47 [(vA (br.cells (oE r kA kC cA cC bA bC slA slC drA drC heA heC))),(vI heatX)] [(rd dH 3 2 dp),(rd kA r.ah.aI.length 9 (r.ah.aI.map an.cells)),(rd cA r.ah.ai.length 2 (List.zipWith au.cells r.ah.ai az)),(e9 (aS au.gW r.ah.ai az)),(rd bA r.ah.ae.length 4 (r.ah.ae.map bG.cells)),(rd slA r.aJ.length 1 (r.aJ.map iC)),(rd drA r.bB.length 1 (r.bB.map iC)),(rd heA r.ar.length 1 (List.zipWith cJ r.ar ha)),(e9 (aS iu r.ar ha))] (fun (x:(OA)×Nat)=>(vT [(vS x.1 ((gY r heatX).length) x.2),(vI (iF r heatX))])) (fun (x:(OA)×Nat)=>True) (fun (x:(OA)×Nat)=>[(own x.1 x.2 3 1 ((gY r heatX).map iC))]):=by
 have AU:=hin.line
 have Aq:=hin.iQ
 have Ar:=hin.has
 have Ae:=hin.iP
 have AD:=hin.draw
 have AG:=dG (r:=r)
 refine dv kr Tryz.func47 U U fun w0 Q hQ hN=>?_
 try dsimp only
 refine WS fun _ AT=>fR U fun b2=>bo 2 U<|RK AT<|zB U<|WS fun _ e=>rP 1 [] (mc 0 U I) ?_
 refine cX (nR r kA kC az cA cC bA bC slA slC drA drC ha heA heC hin) (bp [1,2,3,4,5,6,7,8,9]) U fun y4 AH=>?_
 obtain ⟨AI,An,AQ,AP,AY,AJ,AK⟩:=y4
 cases AI
 ·obtain ⟨AE,he⟩:=AH.2 rfl
  try dsimp only at AE he
  subst AE
  try dsimp only [cond_true,cond_false,List.cons_append,List.nil_append]
  refine bo 5 U<|RK e<|al fun _ Ad=>WS fun _ R=>rP 2 [] I ?_
  refine RK R<|bV U (bg fun P=>?_) (bh fun P=>?_)
  ·exact absurd P he
  refine WS fun _ S=>rP 1 [] I ?_
  have A:iF r heatX=bX r:=D7 he
  have B:gY r heatX=[]:=zn (by rw [A]; exact he)
  refine dM 3 1 ?_
  rw [show (own none 0 3 1 ([]:List (List Value)))=own none 0 3 1 ((gY r heatX).map iC) from by rw [B]; rfl]
  refine rP 2 [] I ?_
  refine RK S<|aq ?_
  refine LX hQ (none,0) [0] [] I U U U ?_ ?_
  ·first|rfl|(rw [A,B]; rfl)|(rw [A]; rfl)|(rw [A,B,jU]; rfl)
  ·trivial
 obtain ⟨he,AW⟩:=AH.1 rfl
 try dsimp only [cond_true,cond_false,List.cons_append,List.nil_append]
 have G:=(jk he).2
 have As:=G.wm
 have Ap:=G.x5
 refine bo 5 U<|RK e<|al fun _ T=>WS fun _ At=>bo 1 U<|rS (SX (bZ (r:= .bool false) U U U ig) U U)<|RK At<|aX U<|WK T<|al fun _ V=>WS fun _ W=>rP 4 [] (mc 4 U I) ?_
 refine cZ (xs:=[.tmp 25]) (cs:=[(vI heatX)]) U cx i_ U U U U (by simp [Value.cells]) U U fun AN=>?_
 refine rS (CL (eg.eq (j0 0 (r.ar.length:Int) ([heatX]) (some ⟨AN,0,none⟩) 1 sd) cU) (aw (a_ 0 U U (by simp [bK]) U)<|aK) U) ?_
 refine rP 1 [] I ?_
 refine RK W<|cO U (bh fun AR=>?_) (bg fun AR=>?_)
 ·refine WS fun _ X=>?_
  have A:iF r heatX=2:=Dg he om
  have B:gY r heatX=[]:=zn (by rw [A]; decide)
  refine dM 3 1 ?_
  rw [show (own none 0 3 1 ([]:List (List Value)))=own none 0 3 1 ((gY r heatX).map iC) from by rw [B]; rfl]
  refine rP 2 [] I ?_
  refine RK X<|aq ?_
  refine LX hQ (none,0) [0] [] I U U U ?_ ?_
  ·first|rfl|(rw [A,B]; rfl)|(rw [A]; rfl)|(rw [A,B,jU]; rfl)
  ·trivial
 refine WK V<|al fun _ Y=>WS fun _ Z=>rP 2 [] I ?_
 refine RK Z<|cO U (aP fun D=>?_) (aR fun D=>?_)
 ·refine WS fun _ b=>rP 2 [] (mc 5 U I) ?_
  refine cX (vG r.bB drA drC sd) (bp [12]) U fun Ab Ah=>?_
  obtain ⟨N,O⟩:=Ab
  try dsimp only
  have A:iF r heatX=0:=yD he om
  have B:gY r heatX=r.bB:=uI A D
  rw [show (own N O 3 1 (r.bB.map iC))=(own N O 3 1 ((gY r heatX).map iC)) from by rw [uI A D]]
  refine rP 2 [] I ?_
  refine RK b<|aq ?_
  refine LX hQ (N,O) [0] [] I U U U ?_ ?_
  ·first|rfl|(rw [A,B]; rfl)|(rw [A]; rfl)|(rw [A,B,jU]; rfl)
  ·trivial
 refine WK Y<|WS fun _ d=>?_
 obtain ⟨n,rfl⟩: ∃ n:Nat,heatX=(n:Int):=⟨heatX.toNat,om⟩
 refine rP 2 [] I ?_
 refine cX (OP r kA kC az cA cC bA bC slA slC drA drC ha heA heC AK AY AJ (Value.map (some AP)) AQ n hin om sd (by exact G.Ag)) (lO [7,8,9,10,11,12,13,14]<|aw (aj (n:=(cR r).length) 2 U (mF (by rw [AG]; exact AW)))<|aw (dR 3 U tp)<|fG 1 U U<|aK) U fun C Ai=>?_
 try dsimp only
 refine AL U Q8 fun Av=>Gq U NH U U<|RK d<|WS fun _ g=>bo 1 U<|RK g<|al fun _ h=>Af<|KK h<|al fun _ j=>WS fun _ k=>rP 4 [] (mc 7 U I) ?_
 refine RK k<|ay<|fT 3 1 ?_
 have F:(0≤r.bB.length):=by exact Nat.zero_le _
 refine bS (ι:={z:Nat×(OA)×Nat // (z.1≤r.bB.length)}) [1,2,6,8,38,39] [1,2,5,6,7,8,9,10,11,12,13,14,15,16,17] U U (fun z=>[(9,(vS z.1.2.1 (((r.bB.take z.1.1).filter fun u=>(List.lookup u (eI r n)).isSome).length) z.1.2.2)),(40,(vI (z.1.1:Int)))]) (fun z=>[(own z.1.2.1 z.1.2.2 3 1 (((r.bB.take z.1.1).filter fun u=>(List.lookup u (eI r n)).isSome).map iC))]) (fun _=>rfl) (fun _=>rfl) (fun z=>r.bB.length-z.1.1) ⟨(0,none,0),F⟩ (aV U) (aL [1,2,5,6,7,8,9,10,11,12,13,14,15,16,17,0]) ?_
 clear F
 rintro ⟨⟨i,a,c⟩,K⟩ J38 L
 try dsimp only at K
 try dsimp only
 refine WS fun _ m=>rP 1 [] I ?_
 refine RK m<|al fun _ o=>bV U (aR fun AS=>?_) (aP fun AS=>?_)
 ·refine bE<|ag<|ag<|aA<|KK j<|al fun _ v=>?_
  rw [show r.bB.take i=r.bB from List.take_of_length_le om]
  refine ao<|rP 1 [] I ?_
  have AV:=ES he (show n≤r.ar.length by omega)
  have AF:=Nat.le_trans (List.length_filter_le (fun u=>(List.lookup u (eI r n)).isSome) r.bB) AD
  have Ao:(eA (fun u=>(aB (eI r n) u).Hi) (r.bB.filter fun u=>(List.lookup u (eI r n)).isSome)).length≤12:=by rw [ke]; exact AF
  refine rS (FU U) ?_
  refine cX (yN (r.bB.filter fun u=>(List.lookup u (eI r n)).isSome) a c (Value.func (.func 69) [].toArray [(vP Av)].toArray) (fun u=>(aB (eI r n) u).Hi) (e9 [(ik iV C (bT dV (eI r n))),(bY Av 58 [(Value.map (some C))])]) (by intro AZ Aa _; exact ny (fi:=[]) (ca:=[(vP Av)]) (lU (Jw AZ Aa (eI r n) C Av (by first|assumption|omega)) (bp [0,1]))) (by exact QT AV) (by exact AF)) (aw (aj (n:=(r.bB.filter fun u=>(List.lookup u (eI r n)).isSome).length) 15 U sm)<|aw (lW (bp [1,0]))<|aK) U fun Ac Aj=>?_
  obtain ⟨H,J⟩:=Ac
  try dsimp only
  refine bo 1 U<|RK v<|WS fun _ w=>rP 5 [] (mc 6 U I) ?_
  refine rS (MN U)<|Ig 0 U fun AC=>?_
  simp only [List.length_map] at AC
  refine rS (UN (((min r.dW (((eA (fun u=>(aB (eI r n) u).Hi) (r.bB.filter fun u=>(List.lookup u (eI r n)).isSome)).length:Nat):Int))).toNat) U cx om (by first|omega|exact Nat.zero_le _|(simp; omega))) ?_
  refine iI 0 U U U U (Gs (eA (fun u=>(aB (eI r n) u).Hi) (r.bB.filter fun u=>(List.lookup u (eI r n)).isSome)) H J (((min r.dW (((eA (fun u=>(aB (eI r n) u).Hi) (r.bB.filter fun u=>(List.lookup u (eI r n)).isSome)).length:Nat):Int))).toNat) om om) U kb U (fun Au Ak=>?_)
  try dsimp only
  refine RK w<|WS fun _ y=>rP 1 [] I ?_
  have A:iF r (n:Int)=0:=yD he om
  have B:gY r (n:Int)=(rr (((min r.dW (((eA (fun u=>(aB (eI r n) u).Hi) (r.bB.filter fun u=>(List.lookup u (eI r n)).isSome)).length:Nat):Int))).toNat) (eA (fun u=>(aB (eI r n) u).Hi) (r.bB.filter fun u=>(List.lookup u (eI r n)).isSome))):=by rw [uN A D]; exact (yF rfl om).symm
  rw [show (own H J 3 1 ((rr (((min r.dW (((eA (fun u=>(aB (eI r n) u).Hi) (r.bB.filter fun u=>(List.lookup u (eI r n)).isSome)).length:Nat):Int))).toNat) (eA (fun u=>(aB (eI r n) u).Hi) (r.bB.filter fun u=>(List.lookup u (eI r n)).isSome))).map iC))=(own H J 3 1 ((gY r (n:Int)).map iC)) from by rw [uN A D]; exact congrArg (fun z=>own _ _ _ _ (List.map iC z)) (yF rfl om)]
  refine rP 2 [] I ?_
  refine RK y<|aq ?_
  refine LX hQ (H,J) [0] [] I U U U ?_ ?_
  ·first|rfl|(rw [A,B]; rfl)|(rw [A]; rfl)|(rw [A,B,jU]; rfl)
  ·trivial
 refine WK o<|al fun _ M=>ay<|WS fun _ p=>?_
 obtain ⟨x,hx⟩:=aM r.bB i om
 have AX:=bL iC hx
 refine rS (IA i U (aD 12 U) cx dc om om)<|rS (fY i 0 (vI x) U cd (aD 12 U) AX U dc U)<|bo 1 U<|RK p<|al fun _ q=>WS fun _ s=>fD 2 [] (mc 0 U I) U<|rS (SX (kv (kV:=iV) (x:=x) (l:=(eI r n)) (f:=dV) (z:=(aa.mk 0 0)) U U U nK (eL pK) xd (by exact aD 1 U)) U U)<|bo 3 U<|AL U dg fun Al=>fQ U cu U<|bo 1 U<|RK s<|WS fun _ t=>rP 2 [] I ?_
 refine RK t<|cO U (fun E=>?_) (fun E=>?_)
 ·rw [Bool.not_eq_true'] at E
  refine bE<|ag<|aA<|KK M<|ao<|rP 2 [] I ?_
  refine aG ?_
  rw [show ((r.bB.take i).filter fun u=>(List.lookup u (eI r n)).isSome)=((r.bB.take (i+1)).filter fun u=>(List.lookup u (eI r n)).isSome) from (FD hx E).symm]
  have AA:(vI (((i+1):Nat):Int))=(vI ((i:Int)+1)):=by exact cI om
  refine aW (L ⟨((i+1),a,c),(by first|omega|(simp only []; omega))⟩ _ _ _ U os (cW 7<|bx U AA<|dB.nil _) (aL [1,2,3,4,5,6,7,8,9,10,11,12,13,14,15,16]))
 rw [Bool.not_eq_false'] at E
 refine WK q<|ao<|rP 2 [] I ?_
 refine cZ (xs:=[.tmp 53]) (cs:=[(vI x)]) U cx i_ U U U U (by simp [Value.cells]) U U fun Am=>?_
 refine df (es2:=(List.map iC ((r.bB.take (i+1)).filter fun u=>(List.lookup u (eI r n)).isSome))) (m':=((r.bB.take (i+1)).filter fun u=>(List.lookup u (eI r n)).isSome).length) 17 U U U pO U U sm (a_ (es:=List.map iC [x]) 0 U U (by simp [bK]) U) (j9 _) (by have:=List.length_filter_le (fun u=>(List.lookup u (eI r n)).isSome) (r.bB.take i); rw [List.length_take] at this; first|omega|(simp; omega)) (by have:=List.length_filter_le (fun u=>(List.lookup u (eI r n)).isSome) (r.bB.take i); rw [List.length_take] at this; simp only [maxLen]; first|omega|(simp; omega)) (by rw [wa hx E]; simp) sm U fun AM AO=>?_
 try dsimp only
 refine bo 1 U<|aG<|aH<|KK M<|ao<|rP 2 [] I ?_
 refine aG ?_
 have AB:(vI (((i+1):Nat):Int))=(vI ((i:Int)+1)):=by exact cI om
 refine aW (L ⟨((i+1),AM,AO),(by first|omega|(simp only []; omega))⟩ _ _ _ U os (cW 7<|bx U AB<|dB.nil _) (aL [2,3,4,5,6,7,8,9,10,11,12,13,14,15,16,17]))
end
section
open Go.RowKit
theorem yO (i lo hi:Int) (r:cm) (kA:OA) (kC:Nat) (az:List RA) (cA:OA) (cC:Nat) (bA:OA) (bC:Nat) (slA:OA) (slC:Nat) (drA:OA) (drC:Nat) (ha:List cS) (heA:OA) (heC:Nat) (hin:fm r az ha):
 eg Tryz.prog 24 [(vA (br.cells (oE r kA kC cA cC bA bC slA slC drA drC heA heC))),(vI i),(vI lo),(vI hi)] [(rd dH 3 2 dp),(rd kA r.ah.aI.length 9 (r.ah.aI.map an.cells)),(rd cA r.ah.ai.length 2 (List.zipWith au.cells r.ah.ai az)),(e9 (aS au.gW r.ah.ai az)),(rd bA r.ah.ae.length 4 (r.ah.ae.map bG.cells)),(rd slA r.aJ.length 1 (r.aJ.map iC)),(rd drA r.bB.length 1 (r.bB.map iC)),(rd heA r.ar.length 1 (List.zipWith cJ r.ar ha)),(e9 (aS iu r.ar ha))] (vB (decide (kG r i=0∧pP r i=aa.mk lo hi))):=by
 have E:=hin.line
 have AA:=hin.iQ
 have J:=hin.has
 have G:=hin.iP
 have F:=hin.draw
 have H:=dG (r:=r)
 refine bI kr Tryz.func24 U U fun M Q hQ hN=>?_
 try dsimp only
 refine WS fun _ C=>fR U fun K=>bo 1 U<|RK C<|WS fun _ D=>fD 2 [] (mc 0 U I) U<|rS (CL (Ix i r kA kC az cA cC bA bC slA slC drA drC ha heA heC hin) (bp [1,2,3,4,5,6,7,8,9]) U)<|bo 3 U<|AL U dg fun L=>fQ U cu U<|bo 1 U<|RK D<|al fun _ B=>dq cy 10 kr<|dP 3 [] I ?_
 refine iw (t:=19) U (aR fun A=>?_) (aP fun A=>?_)
 ·refine dP 7 [] I ?_
  refine cL<|RK B<|aq<|Q1 hQ U U U ?_
  first|exact cB (cq fun q=>A q.1).symm|exact cB (decide_eq_decide.2 ⟨fun q=>⟨A,q⟩,fun q=>q.2⟩)
 refine mu 3 [] (mc 0 U I) U<|dS (CL (lV lo hi) (aK) U)<|dS (BI U (sv _ _ (pP r i) (aa.mk lo hi)))<|dP 2 [] I ?_
 refine cL<|RK B<|aq<|Q1 hQ U U U ?_
 first|exact cB (cq fun q=>A q.1).symm|exact cB (decide_eq_decide.2 ⟨fun q=>⟨A,q⟩,fun q=>q.2⟩)
theorem yW (i:Int) (want:List Int) (wantA:OA) (wantC:Nat) (r:cm) (kA:OA) (kC:Nat) (az:List RA) (cA:OA) (cC:Nat) (bA:OA) (bC:Nat) (slA:OA) (slC:Nat) (drA:OA) (drC:Nat) (ha:List cS) (heA:OA) (heC:Nat) (hin:fm r az ha) (hwl:want.length≤12):
 eg Tryz.prog 25 [(vA (br.cells (oE r kA kC cA cC bA bC slA slC drA drC heA heC))),(vI i),(vS wantA want.length wantC)] [(rd wantA want.length 1 (want.map iC)),(rd dH 3 2 dp),(rd kA r.ah.aI.length 9 (r.ah.aI.map an.cells)),(rd cA r.ah.ai.length 2 (List.zipWith au.cells r.ah.ai az)),(e9 (aS au.gW r.ah.ai az)),(rd bA r.ah.ae.length 4 (r.ah.ae.map bG.cells)),(rd slA r.aJ.length 1 (r.aJ.map iC)),(rd drA r.bB.length 1 (r.bB.map iC)),(rd heA r.ar.length 1 (List.zipWith cJ r.ar ha)),(e9 (aS iu r.ar ha))] (vB (decide (kG r i=0∧cH r i=want))):=by
 have E:=hin.line
 have K:=hin.iQ
 have L:=hin.has
 have G:=hin.iP
 have F:=hin.draw
 have H:=dG (r:=r)
 have M:=mU (r:=r) (i:=i)
 refine bI kr Tryz.func25 U U fun R Q hQ hN=>?_
 try dsimp only
 refine WS fun _ C=>fR U fun P=>bo 1 U<|RK C<|WS fun _ D=>rP 2 [] (mc 0 U I) ?_
 refine cX (Ap i r kA kC az cA cC bA bC slA slC drA drC ha heA heC hin) (bp [2,3,4,5,6,7,8,9,10]) U fun O N=>?_
 obtain ⟨AA,J⟩:=O
 try dsimp only
 refine bo 5 U<|RK D<|WS fun _ B=>rP 3 [] I ?_
 refine ck (t:=17) U (aR fun A=>?_) (aP fun A=>?_)
 ·refine rP 5 [] I ?_
  refine RK B<|aq<|Q1 hQ U U U ?_
  first|exact cB (cq fun q=>A q.1).symm|exact cB (decide_eq_decide.2 ⟨fun q=>⟨A,q⟩,fun q=>q.2⟩)
 refine bo 2 U<|rS (CL (l0 (cH r i) AA J want wantA wantC om om) (aw (aj (n:=(cH r i).length) 0 U sm)<|fG 2 U U<|aK) U)<|rP 2 [] I ?_
 refine RK B<|aq<|Q1 hQ U U U ?_
 first|exact cB (cq fun q=>A q.1).symm|exact cB (decide_eq_decide.2 ⟨fun q=>⟨A,q⟩,fun q=>q.2⟩)
theorem yU (heatX:Int) (want:List Int) (wantA:OA) (wantC:Nat) (hwl:want.length≤12):
 eg Tryz.prog 28 [(vI heatX),(vS wantA want.length wantC)] [(rd dH 3 2 dp),(rd wantA want.length 1 (want.map iC))] (vB (decide (iF ab heatX=0∧gY ab heatX=want))):=by
 have b:=EC (r:=ab) (h:=heatX) dc
 refine bI kr Tryz.func28 U U fun d Q hQ hN=>?_
 try dsimp only
 refine WS fun _ V=>rP 1 [] I ?_
 refine RK V<|WS fun _ W=>cX jn (aK) U fun c Y=>?_
 obtain ⟨N,S,P,AA,R,C,G,D,H,E,AB,F,J,M⟩:=c
 try dsimp only
 obtain ⟨L,X,K⟩:=Y
 refine rP 1 [] I ?_
 refine cX (Mq heatX ab N S R P AA C G D H E AB M F J (by exact L)) (fG 8 U U<|aw (aj (n:=ab.ah.aI.length) 0 U sm)<|aw (aj (n:=ab.ah.ai.length) 1 U (gX X))<|aw (dR 2 U iM)<|aw (aj (n:=ab.ah.ae.length) 3 U sm)<|aw (aj (n:=ab.aJ.length) 4 U sm)<|aw (aj (n:=ab.bB.length) 5 U sm)<|aw (aj (n:=ab.ar.length) 6 U (fr K.1))<|aw (g7 7 U K)<|aK) U fun Z a=>?_
 obtain ⟨O,T⟩:=Z
 try dsimp only
 refine bo 5 U<|RK W<|WS fun _ B=>rP 3 [] I ?_
 refine ck (t:=15) U (aR fun A=>?_) (aP fun A=>?_)
 ·refine rP 5 [] I ?_
  refine RK B<|aq<|Q1 hQ U U U ?_
  first|exact cB (cq fun q=>A q.1).symm|exact cB (decide_eq_decide.2 ⟨fun q=>⟨A,q⟩,fun q=>q.2⟩)
 refine bo 2 U<|rS (CL (l0 (gY ab heatX) O T want wantA wantC om om) (aw (aj (n:=(gY ab heatX).length) 0 U sm)<|fG 10 U U<|aK) U)<|rP 2 [] I ?_
 refine RK B<|aq<|Q1 hQ U U U ?_
 first|exact cB (cq fun q=>A q.1).symm|exact cB (decide_eq_decide.2 ⟨fun q=>⟨A,q⟩,fun q=>q.2⟩)
theorem BD (a b:Int) (x y:Int):
 eg Tryz.prog 26 [(vI a),(vI b),(Value.int .u8 x),(Value.int .u8 y)] [(rd dH 3 2 dp)] (vB (decide (((j_ ab a b=0∧pS ab a b=x)∧j_ ab a b=0)∧l6 ab a b=y))):=by
 refine bI kr Tryz.func26 U U fun w Q hQ hN=>?_
 try dsimp only
 refine WS fun _ p=>rP 1 [] I ?_
 refine RK p<|WS fun _ r=>cX jn (aK) U fun v s=>?_
 obtain ⟨j,m,k,o,l,J,V,L,X,N,Z,P,d,h⟩:=v
 try dsimp only
 obtain ⟨F,G,E⟩:=s
 refine bo 2 U<|rS (CL (wV a b ab j m l k o J V L X N Z h P d (by exact F)) (fG 8 U U<|aw (aj (n:=ab.ah.aI.length) 0 U sm)<|aw (aj (n:=ab.ah.ai.length) 1 U (gX G))<|aw (dR 2 U iM)<|aw (aj (n:=ab.ah.ae.length) 3 U sm)<|aw (aj (n:=ab.aJ.length) 4 U sm)<|aw (aj (n:=ab.bB.length) 5 U sm)<|aw (aj (n:=ab.ar.length) 6 U (fr E.1))<|aw (g7 7 U E)<|aK) U)<|pW (C1:=[(rd dH 3 2 dp)]) [8] U U<|rP 5 [] I ?_
 refine RK r<|WS fun _ f=>cX jn (aK) U fun u g=>?_
 obtain ⟨H,T,AB,AA,S,K,W,M,Y,O,c,R,e,i⟩:=u
 try dsimp only
 obtain ⟨F,G,E⟩:=g
 refine bo 2 U<|rS (CL (C4 a b ab H T S AB AA K W M Y O c i R e (by exact F)) (fG 8 U U<|aw (aj (n:=ab.ah.aI.length) 0 U sm)<|aw (aj (n:=ab.ah.ai.length) 1 U (gX G))<|aw (dR 2 U iM)<|aw (aj (n:=ab.ah.ae.length) 3 U sm)<|aw (aj (n:=ab.aJ.length) 4 U sm)<|aw (aj (n:=ab.bB.length) 5 U sm)<|aw (aj (n:=ab.ar.length) 6 U (fr E.1))<|aw (g7 7 U E)<|aK) U)<|bo 5 U<|RK f<|WS fun _ D=>rP 3 [] I ?_
 refine ck (t:=29) U (aR fun A=>?_) (aP fun A=>?_)
 ·refine rP 14 [] I ?_
  refine RK D<|aq<|Q1 hQ U U U ?_
  first|exact cB (cq fun q=>A q.1.1.1).symm|exact cB (cq fun q=>B q.1.1.2).symm|exact cB (cq fun q=>C q.1.2).symm|exact cB (decide_eq_decide.2 ⟨fun q=>⟨⟨⟨A,B⟩,C⟩,q⟩,fun q=>q.2⟩)
 refine bo 2 U<|rS (BI U jA)<|rP 2 [] I ?_
 refine ck (t:=34) U (aR fun B=>?_) (aP fun B=>?_)
 ·refine rP 9 [] I ?_
  refine RK D<|aq<|Q1 hQ U U U ?_
  first|exact cB (cq fun q=>A q.1.1.1).symm|exact cB (cq fun q=>B q.1.1.2).symm|exact cB (cq fun q=>C q.1.2).symm|exact cB (decide_eq_decide.2 ⟨fun q=>⟨⟨⟨A,B⟩,C⟩,q⟩,fun q=>q.2⟩)
 refine rP 4 [] I ?_
 refine ck (t:=38) U (aR fun C=>?_) (aP fun C=>?_)
 ·refine rP 5 [] I ?_
  refine RK D<|aq<|Q1 hQ U U U ?_
  first|exact cB (cq fun q=>A q.1.1.1).symm|exact cB (cq fun q=>B q.1.1.2).symm|exact cB (cq fun q=>C q.1.2).symm|exact cB (decide_eq_decide.2 ⟨fun q=>⟨⟨⟨A,B⟩,C⟩,q⟩,fun q=>q.2⟩)
 refine bo 2 U<|rS (BI U jA)<|rP 2 [] I ?_
 refine RK D<|aq<|Q1 hQ U U U ?_
 first|exact cB (cq fun q=>A q.1.1.1).symm|exact cB (cq fun q=>B q.1.1.2).symm|exact cB (cq fun q=>C q.1.2).symm|exact cB (decide_eq_decide.2 ⟨fun q=>⟨⟨⟨A,B⟩,C⟩,q⟩,fun q=>q.2⟩)
end
section
open Go.RowKit
theorem I4:
 eg Tryz.prog 6 [] [(rd dH 3 2 dp)] (vB true):=by
 have BV:=uW (r:=ab)
 have BK:=uW (r:=eU)
 have Fd:=Cl (r:=ab) (h:=0) (i:=2) (t:=aa.mk 2590 2599)
 have Fc:ab.aJ.length=3:=rfl
 refine bI kr Tryz.func6 U U fun w0 Q hQ hN=>?_
 try dsimp only
 refine WS fun _ FR=>rP 1 [] I ?_
 refine RK FR<|WS fun _ FS=>cX jn (aK) U fun y3 FU=>?_
 obtain ⟨BL,BN,BM,BO,FQ,AZ,Az,Ae,A3,Ai,A7,Am,BA,FG⟩:=y3
 try dsimp only
 obtain ⟨Y,e,a⟩:=FU
 refine rS (CL (Qg 0 0 ab BL BN FQ BM BO AZ Az Ae A3 Ai A7 FG Am BA (by exact Y)) (fG 8 U U<|aw (aj (n:=ab.ah.aI.length) 0 U sm)<|aw (aj (n:=ab.ah.ai.length) 1 U (gX e))<|aw (dR 2 U iM)<|aw (aj (n:=ab.ah.ae.length) 3 U sm)<|aw (aj (n:=ab.aJ.length) 4 U sm)<|aw (aj (n:=ab.bB.length) 5 U sm)<|aw (aj (n:=ab.ar.length) 6 U (fr a.1))<|aw (g7 7 U a)<|aK) U)<|bo 1 U<|pW (C1:=[(rd dH 3 2 dp)]) [8] U U<|bo 2 U<|AL U dg fun f=>fQ U cu U<|rP 1 [] I ?_
 refine RK FS<|WS fun _ E5=>cX jn (aK) U fun FV FB=>?_
 obtain ⟨AT,At,AW,Aw,Et,Aa,A0,Af,A4,Aj,A8,An,BB,FH⟩:=FV
 try dsimp only
 obtain ⟨Y,e,a⟩:=FB
 refine cX (EU ab AT At Et AW Aw Aa A0 Af A4 Aj A8 FH An BB (by exact Y)) (fG 9 U U<|aw (aj (n:=ab.ah.aI.length) 0 U sm)<|aw (aj (n:=ab.ah.ai.length) 1 U (gX e))<|aw (dR 2 U iM)<|aw (aj (n:=ab.ah.ae.length) 3 U sm)<|aw (aj (n:=ab.aJ.length) 4 U sm)<|aw (aj (n:=ab.bB.length) 5 U sm)<|aw (aj (n:=ab.ar.length) 6 U (fr a.1))<|aw (g7 7 U a)<|aK) U fun FW FC=>?_
 obtain ⟨O,T,Fe⟩:=FW
 try dsimp only
 have EN:=FC
 have Bf:=EN
 refine bo 1 U<|pW (C1:=[(own T Fe 29 1 (List.zipWith j5 (bD ab) O)),(bq (aS nk (bD ab) O)),(bY f 38 (aa.cells (eZ ab 0 0))),(rd dH 3 2 dp)]) [0,1,10,11] U U<|rP 4 [] I ?_
 refine RK E5<|WS fun _ E6=>cX jn (aK) U fun FX FD=>?_
 obtain ⟨AU,Au,AX,Ax,Eu,Ab,A1,Ag,A5,Ak,A9,Ao,BC,FI⟩:=FX
 try dsimp only
 obtain ⟨Y,e,a⟩:=FD
 refine rS (CL (lV 2590 2599) (aK) U)<|cX (Kl 0 2 (aa.mk 2590 2599) ab AU Au Eu AX Ax Ab A1 Ag A5 Ak A9 FI Ao BC (by exact Y)) (fG 11 U U<|aw (aj (n:=ab.ah.aI.length) 0 U sm)<|aw (aj (n:=ab.ah.ai.length) 1 U (gX e))<|aw (dR 2 U iM)<|aw (aj (n:=ab.ah.ae.length) 3 U sm)<|aw (aj (n:=ab.aJ.length) 4 U sm)<|aw (aj (n:=ab.bB.length) 5 U sm)<|aw (aj (n:=ab.ar.length) 6 U (fr a.1))<|aw (g7 7 U a)<|aK) U fun FY Bi=>?_
 obtain ⟨FJ,Fb,A,G,B,H,P,C,Ff,D,J,E,K,F,L,R⟩:=FY
 cases FJ
 ·obtain ⟨E_,he⟩:=Bi.2 rfl
  try dsimp only at E_ he
  subst E_
  try dsimp only [cond_true,cond_false,List.cons_append,List.nil_append]
  exact absurd CF he
 obtain ⟨FA,⟨BU,E9⟩,BP⟩:=Bi.1 rfl
 try dsimp only [cond_true,cond_false,List.cons_append,List.nil_append]
 try dsimp only at FA BU E9 BP
 have Bh:fm eU _ _:=fm.rep Y BU E9 BP
 refine bo 1 U<|pW (C1:=[(own A G 122 9 (ab.ah.aI.map an.cells)),(own B H 127 2 (List.zipWith au.cells ab.ah.ai P)),(bq (aS au.owns ab.ah.ai P)),(own C Ff 129 4 (ab.ah.ae.map bG.cells)),(own D J 3 1 (ab.aJ.map iC)),(own E K 3 1 (ab.bB.map iC)),(own F L 47 1 (List.zipWith cJ (dF ab.ar 0 2 (aa.mk 2590 2599)) R)),(bq (aS gP (dF ab.ar 0 2 (aa.mk 2590 2599)) R)),(own T Fe 29 1 (List.zipWith j5 (bD ab) O)),(bq (aS nk (bD ab) O)),(bY f 38 (aa.cells (eZ ab 0 0))),(rd dH 3 2 dp)]) [0,1,2,3,4,5,6,7,16,17,18,19] U U<|bo 2 U<|AL U Bj fun k=>fQ U tf U<|bo 1 U<|RK E6<|WS fun _ E7=>rP 1 [] (mc 0 U I) ?_
 refine cX (EU eU A G P B H C Ff D J E K R F L (by exact Bh)) (fG 12 U U<|aw (aj (n:=ab.ah.aI.length) 1 U (by rw [List.length_map]; rfl))<|aw (aj (n:=ab.ah.ai.length) 2 U (gX BU))<|aw (dR 3 U iM)<|aw (aj (n:=ab.ah.ae.length) 4 U (by rw [List.length_map]; rfl))<|aw (aj (n:=ab.aJ.length) 5 U (by rw [List.length_map]; rfl))<|aw (aj (n:=ab.bB.length) 6 U (by rw [List.length_map]; rfl))<|aw (aj (n:=(dF ab.ar 0 2 (aa.mk 2590 2599)).length) 7 U (fr BP.1))<|aw (g7 8 U BP)<|aK) U fun FZ FE=>?_
 obtain ⟨S,W,X⟩:=FZ
 try dsimp only
 have EN:=FE
 have Bg:=EN
 refine rP 5 [] I ?_
 refine RK E7<|WS fun _ E8=>cX jn (aK) U fun Fa FF=>?_
 obtain ⟨AV,Av,AY,Ay,Ev,Ac,A2,Ah,A6,Al,A_,Ap,BE,ET⟩:=Fa
 try dsimp only
 obtain ⟨Y,e,a⟩:=FF
 refine rS (CL (lV 2590 2599) (aK) U)<|cX (Gh 0 2 (aa.mk 2590 2599) ab AV Av Ev AY Ay Ac A2 Ah A6 Al A_ ET Ap BE (by exact Y)) (fG 22 U U<|aw (aj (n:=ab.ah.aI.length) 0 U sm)<|aw (aj (n:=ab.ah.ai.length) 1 U (gX e))<|aw (dR 2 U iM)<|aw (aj (n:=ab.ah.ae.length) 3 U sm)<|aw (aj (n:=ab.aJ.length) 4 U sm)<|aw (aj (n:=ab.bB.length) 5 U sm)<|aw (aj (n:=ab.ar.length) 6 U (fr a.1))<|aw (g7 7 U a)<|aK) U fun FK FT=>?_
 obtain ⟨M,N⟩:=FK
 try dsimp only
 refine bo 1 U<|pW (C1:=[(own M N 3 1 ((cw ab 0 2 (aa.mk 2590 2599)).map iC)),(own W X 29 1 (List.zipWith j5 (bD eU) S)),(bq (aS nk (bD eU) S)),(bY k 32 (br.cells (br.mk (bJ.mk (aZ.mk (aN.mk A ab.ah.aI.length G)) ab.ah.dJ (aN.mk B ab.ah.ai.length H) (aN.mk C ab.ah.ae.length Ff) ab.ah.bH ab.ah.cv ab.ah.bM) (aN.mk D ab.aJ.length J) (aN.mk E ab.bB.length K) ab.dW (aN.mk F ((dF ab.ar 0 2 (aa.mk 2590 2599)).length) L)))),(own A G 122 9 (ab.ah.aI.map an.cells)),(own B H 127 2 (List.zipWith au.cells ab.ah.ai P)),(bq (aS au.owns ab.ah.ai P)),(own C Ff 129 4 (ab.ah.ae.map bG.cells)),(own D J 3 1 (ab.aJ.map iC)),(own E K 3 1 (ab.bB.map iC)),(own F L 47 1 (List.zipWith cJ (dF ab.ar 0 2 (aa.mk 2590 2599)) R)),(bq (aS gP (dF ab.ar 0 2 (aa.mk 2590 2599)) R)),(own T Fe 29 1 (List.zipWith j5 (bD ab) O)),(bq (aS nk (bD ab) O)),(bY f 38 (aa.cells (eZ ab 0 0))),(rd dH 3 2 dp)]) [0,9,10,11,12,13,14,15,16,17,18,19,20,21,22,23] U U<|rP 4 [] I ?_
 refine RK E8<|al fun _ Cq=>pw cy [0,1,2,3,4,5,6,7] [8,9,10,11,12,13,14,15,16,17,18,19,20,21,22,23,24,25,26,27,28,29,30,31,32,33,34,35,36,37,38,39,40,41,42,43,44,45,46,47,48,49,50,51,52,53,54,55,56,57,58,59,60,61,62,63,64,65,66,67,68,69,70,71,72,73] [false,false,false,false,false,false,false,false] [] [(own M N 3 1 ((cw ab 0 2 (aa.mk 2590 2599)).map iC)),(own W X 29 1 (List.zipWith j5 (bD eU) S)),(bq (aS nk (bD eU) S)),(bY k 32 (br.cells (br.mk (bJ.mk (aZ.mk (aN.mk A ab.ah.aI.length G)) ab.ah.dJ (aN.mk B ab.ah.ai.length H) (aN.mk C ab.ah.ae.length Ff) ab.ah.bH ab.ah.cv ab.ah.bM) (aN.mk D ab.aJ.length J) (aN.mk E ab.bB.length K) ab.dW (aN.mk F ((dF ab.ar 0 2 (aa.mk 2590 2599)).length) L)))),(own A G 122 9 (ab.ah.aI.map an.cells)),(own B H 127 2 (List.zipWith au.cells ab.ah.ai P)),(bq (aS au.owns ab.ah.ai P)),(own C Ff 129 4 (ab.ah.ae.map bG.cells)),(own D J 3 1 (ab.aJ.map iC)),(own E K 3 1 (ab.bB.map iC)),(own F L 47 1 (List.zipWith cJ (dF ab.ar 0 2 (aa.mk 2590 2599)) R)),(bq (aS gP (dF ab.ar 0 2 (aa.mk 2590 2599)) R)),(own T Fe 29 1 (List.zipWith j5 (bD ab) O)),(bq (aS nk (bD ab) O)),(bY f 38 (aa.cells (eZ ab 0 0))),(rd dH 3 2 dp).ro] [] kr (aL [0,1,2,3,4,5,6,7,8,9,10,11,12,13,14,15]) (aL [])<|eS U (MV U)<|eS U (BI U jA)<|eS U (MV U)<|Iy (t:=40) U (aR fun Ew=>?_) (aP fun Ew=>?_)
 ·exact absurd (Ob.1) Ew
 refine eS U (LW 14 U cd U U)<|eS U (CL (lV 2596 2602) (aK) U)<|eS U (BI U (sv _ _ (eZ ab 0 0) (aa.mk 2596 2602)))<|eS U (PK U)<|eS U (MV U)<|e7 U<|N1 8<|NO U U [9,10,11,12,13,14,15,16,17,18,19,20,21,22,23,24,25,26,27,28,29,30,31,32,33,34,35,36,37,38,39,40,41,42,43,44,45,46,47,48,49,50,51,52,53,54,55,56,57,58,59,60,61,62,63,64,65,66,67,68,69,70,71,72,73] fun T106 Cr=>ck (t:=45) U (aR fun Ex=>?_) (aP fun Ex=>?_)
 ·exact absurd (Ob.2) Ex
 refine cX jn (aK) U fun FL EO=>?_
 obtain ⟨Bk,CK,Bp,CQ,CE,Bv,CV,B0,Ca,B5,Cf,B_,Ck,EV⟩:=FL
 try dsimp only
 obtain ⟨Y,e,a⟩:=EO
 refine RD Cr 8 U<|N1 9<|NO U U [10,11,12,13,14,15,16,17,18,19,20,21,22,23,24,25,26,27,28,29,30,31,32,33,34,35,36,37,38,39,40,41,42,43,44,45,46,47,48,49,50,51,52,53,54,55,56,57,58,59,60,61,62,63,64,65,66,67,68,69,70,71,72,73] fun T123 Cs=>rS (CL (yO 0 514 515 ab Bk CK CE Bp CQ Bv CV B0 Ca B5 Cf EV B_ Ck (by exact Y)) (fG 23 U U<|aw (aj (n:=ab.ah.aI.length) 0 U sm)<|aw (aj (n:=ab.ah.ai.length) 1 U (gX e))<|aw (dR 2 U iM)<|aw (aj (n:=ab.ah.ae.length) 3 U sm)<|aw (aj (n:=ab.aJ.length) 4 U sm)<|aw (aj (n:=ab.bB.length) 5 U sm)<|aw (aj (n:=ab.ar.length) 6 U (fr a.1))<|aw (g7 7 U a)<|aK) U)<|RD Cs 8 U<|N1 10<|NO U U [11,12,13,14,15,16,17,18,19,20,21,22,23,24,25,26,27,28,29,30,31,32,33,34,35,36,37,38,39,40,41,42,43,44,45,46,47,48,49,50,51,52,53,54,55,56,57,58,59,60,61,62,63,64,65,66,67,68,69,70,71,72,73] fun T124 Ct=>pW (C1:=[(own M N 3 1 ((cw ab 0 2 (aa.mk 2590 2599)).map iC)),(own W X 29 1 (List.zipWith j5 (bD eU) S)),(bq (aS nk (bD eU) S)),(bY k 32 (br.cells (br.mk (bJ.mk (aZ.mk (aN.mk A ab.ah.aI.length G)) ab.ah.dJ (aN.mk B ab.ah.ai.length H) (aN.mk C ab.ah.ae.length Ff) ab.ah.bH ab.ah.cv ab.ah.bM) (aN.mk D ab.aJ.length J) (aN.mk E ab.bB.length K) ab.dW (aN.mk F ((dF ab.ar 0 2 (aa.mk 2590 2599)).length) L)))),(own A G 122 9 (ab.ah.aI.map an.cells)),(own B H 127 2 (List.zipWith au.cells ab.ah.ai P)),(bq (aS au.owns ab.ah.ai P)),(own C Ff 129 4 (ab.ah.ae.map bG.cells)),(own D J 3 1 (ab.aJ.map iC)),(own E K 3 1 (ab.bB.map iC)),(own F L 47 1 (List.zipWith cJ (dF ab.ar 0 2 (aa.mk 2590 2599)) R)),(bq (aS gP (dF ab.ar 0 2 (aa.mk 2590 2599)) R)),(own T Fe 29 1 (List.zipWith j5 (bD ab) O)),(bq (aS nk (bD ab) O)),(bY f 38 (aa.cells (eZ ab 0 0))),(rd dH 3 2 dp)]) [8,9,10,11,12,13,14,15,16,17,18,19,20,21,22,23] U U<|rS (PK U)<|RD Ct 0 U<|N1 11<|NO U U [12,13,14,15,16,17,18,19,20,21,22,23,24,25,26,27,28,29,30,31,32,33,34,35,36,37,38,39,40,41,42,43,44,45,46,47,48,49,50,51,52,53,54,55,56,57,58,59,60,61,62,63,64,65,66,67,68,69,70,71,72,73] fun T125 Cu=>rS (MV U)<|RD Cu 0 U ?_
 refine wy (V:=OA×Nat×OA×Nat×List RA×OA×Nat×OA×Nat×OA×Nat×OA×Nat×List cS×Nat) (fun (u,AG,w,AI,l,y,AK,AA,AN,AC,AP,AE,AR,p,d)=>fm ab l p∧l.length=ab.ah.ai.length∧sO ab.ar p) (fun (u,AG,w,AI,l,y,AK,AA,AN,AC,AP,AE,AR,p,d)=>[(1,(vP f)),(2,(vI (gT ab 0 0))),(3,(vS T ((bD ab).length) Fe)),(4,(vI (bX ab))),(5,(vP k)),(6,(vI 0)),(7,(vS W ((bD eU).length) X)),(8,(vI (bX eU))),(9,(vS M ((cw ab 0 2 (aa.mk 2590 2599)).length) N)),(10,(vI (dK ab 0 2 (aa.mk 2590 2599)))),(11,(vT [(vA (aa.cells (eZ ab 0 0))),(vI (gT ab 0 0))])),(12,(vA (br.cells (br.mk (bJ.mk (aZ.mk (aN.mk BL ab.ah.aI.length BN)) ab.ah.dJ (aN.mk BM ab.ah.ai.length BO) (aN.mk AZ ab.ah.ae.length Az) ab.ah.bH ab.ah.cv ab.ah.bM) (aN.mk Ae ab.aJ.length A3) (aN.mk Ai ab.bB.length A7) ab.dW (aN.mk Am ab.ar.length BA))))),(13,(vT [(vA (aa.cells (eZ ab 0 0))),(vI (gT ab 0 0))])),(14,(vA (aa.cells (eZ ab 0 0)))),(15,(vI (gT ab 0 0))),(16,(vT [(vS T ((bD ab).length) Fe),(vI (bX ab))])),(17,(vA (br.cells (br.mk (bJ.mk (aZ.mk (aN.mk AT ab.ah.aI.length At)) ab.ah.dJ (aN.mk AW ab.ah.ai.length Aw) (aN.mk Aa ab.ah.ae.length A0) ab.ah.bH ab.ah.cv ab.ah.bM) (aN.mk Af ab.aJ.length A4) (aN.mk Aj ab.bB.length A8) ab.dW (aN.mk An ab.ar.length BB))))),(18,(vT [(vS T ((bD ab).length) Fe),(vI (bX ab))])),(19,(vS T ((bD ab).length) Fe)),(20,(vI (bX ab))),(21,(vT [(vA (br.cells (br.mk (bJ.mk (aZ.mk (aN.mk A ab.ah.aI.length G)) ab.ah.dJ (aN.mk B ab.ah.ai.length H) (aN.mk C ab.ah.ae.length Ff) ab.ah.bH ab.ah.cv ab.ah.bM) (aN.mk D ab.aJ.length J) (aN.mk E ab.bB.length K) ab.dW (aN.mk F ((dF ab.ar 0 2 (aa.mk 2590 2599)).length) L)))),(vI 0)])),(22,(vA (br.cells (br.mk (bJ.mk (aZ.mk (aN.mk AU ab.ah.aI.length Au)) ab.ah.dJ (aN.mk AX ab.ah.ai.length Ax) (aN.mk Ab ab.ah.ae.length A1) ab.ah.bH ab.ah.cv ab.ah.bM) (aN.mk Ag ab.aJ.length A5) (aN.mk Ak ab.bB.length A9) ab.dW (aN.mk Ao ab.ar.length BC))))),(23,(vA (aa.cells (aa.mk 2590 2599)))),(24,(vT [(vA (br.cells (br.mk (bJ.mk (aZ.mk (aN.mk A ab.ah.aI.length G)) ab.ah.dJ (aN.mk B ab.ah.ai.length H) (aN.mk C ab.ah.ae.length Ff) ab.ah.bH ab.ah.cv ab.ah.bM) (aN.mk D ab.aJ.length J) (aN.mk E ab.bB.length K) ab.dW (aN.mk F ((dF ab.ar 0 2 (aa.mk 2590 2599)).length) L)))),(vI 0)])),(25,(vA (br.cells (br.mk (bJ.mk (aZ.mk (aN.mk A ab.ah.aI.length G)) ab.ah.dJ (aN.mk B ab.ah.ai.length H) (aN.mk C ab.ah.ae.length Ff) ab.ah.bH ab.ah.cv ab.ah.bM) (aN.mk D ab.aJ.length J) (aN.mk E ab.bB.length K) ab.dW (aN.mk F ((dF ab.ar 0 2 (aa.mk 2590 2599)).length) L))))),(26,(vI 0)),(27,(vT [(vS W ((bD eU).length) X),(vI (bX eU))])),(28,(vA (br.cells (br.mk (bJ.mk (aZ.mk (aN.mk A ab.ah.aI.length G)) ab.ah.dJ (aN.mk B ab.ah.ai.length H) (aN.mk C ab.ah.ae.length Ff) ab.ah.bH ab.ah.cv ab.ah.bM) (aN.mk D ab.aJ.length J) (aN.mk E ab.bB.length K) ab.dW (aN.mk F ((dF ab.ar 0 2 (aa.mk 2590 2599)).length) L))))),(29,(vT [(vS W ((bD eU).length) X),(vI (bX eU))])),(30,(vS W ((bD eU).length) X)),(31,(vI (bX eU))),(32,(vT [(vS M ((cw ab 0 2 (aa.mk 2590 2599)).length) N),(vI (dK ab 0 2 (aa.mk 2590 2599)))])),(33,(vA (br.cells (br.mk (bJ.mk (aZ.mk (aN.mk AV ab.ah.aI.length Av)) ab.ah.dJ (aN.mk AY ab.ah.ai.length Ay) (aN.mk Ac ab.ah.ae.length A2) ab.ah.bH ab.ah.cv ab.ah.bM) (aN.mk Ah ab.aJ.length A6) (aN.mk Al ab.bB.length A_) ab.dW (aN.mk Ap ab.ar.length BE))))),(34,(vA (aa.cells (aa.mk 2590 2599)))),(35,(vT [(vS M ((cw ab 0 2 (aa.mk 2590 2599)).length) N),(vI (dK ab 0 2 (aa.mk 2590 2599)))])),(36,(vS M ((cw ab 0 2 (aa.mk 2590 2599)).length) N)),(37,(vI (dK ab 0 2 (aa.mk 2590 2599)))),(49,(vB true)),(50,(vA (br.cells (br.mk (bJ.mk (aZ.mk (aN.mk u ab.ah.aI.length AG)) ab.ah.dJ (aN.mk w ab.ah.ai.length AI) (aN.mk y ab.ah.ae.length AK) ab.ah.bH ab.ah.cv ab.ah.bM) (aN.mk AA ab.aJ.length AN) (aN.mk AC ab.bB.length AP) ab.dW (aN.mk AE ab.ar.length AR))))),(51,(vS (some ⟨d,0,none⟩) 2 2))]) (fun (u,AG,w,AI,l,y,AK,AA,AN,AC,AP,AE,AR,p,d)=>[(bY d 3 [(vI 1),(vI 2)]),(own u AG 122 9 (ab.ah.aI.map an.cells)),(own w AI 127 2 (List.zipWith au.cells ab.ah.ai l)),(bq (aS au.owns ab.ah.ai l)),(own y AK 129 4 (ab.ah.ae.map bG.cells)),(own AA AN 3 1 (ab.aJ.map iC)),(own AC AP 3 1 (ab.bB.map iC)),(own AE AR 47 1 (List.zipWith cJ ab.ar p)),(bq (aS gP ab.ar p)),(own M N 3 1 ((cw ab 0 2 (aa.mk 2590 2599)).map iC)),(own W X 29 1 (List.zipWith j5 (bD eU) S)),(bq (aS nk (bD eU) S)),(bY k 32 (br.cells (br.mk (bJ.mk (aZ.mk (aN.mk A ab.ah.aI.length G)) ab.ah.dJ (aN.mk B ab.ah.ai.length H) (aN.mk C ab.ah.ae.length Ff) ab.ah.bH ab.ah.cv ab.ah.bM) (aN.mk D ab.aJ.length J) (aN.mk E ab.bB.length K) ab.dW (aN.mk F ((dF ab.ar 0 2 (aa.mk 2590 2599)).length) L)))),(own A G 122 9 (ab.ah.aI.map an.cells)),(own B H 127 2 (List.zipWith au.cells ab.ah.ai P)),(bq (aS au.owns ab.ah.ai P)),(own C Ff 129 4 (ab.ah.ae.map bG.cells)),(own D J 3 1 (ab.aJ.map iC)),(own E K 3 1 (ab.bB.map iC)),(own F L 47 1 (List.zipWith cJ (dF ab.ar 0 2 (aa.mk 2590 2599)) R)),(bq (aS gP (dF ab.ar 0 2 (aa.mk 2590 2599)) R)),(own T Fe 29 1 (List.zipWith j5 (bD ab) O)),(bq (aS nk (bD ab) O)),(bY f 38 (aa.cells (eZ ab 0 0))),(rd dH 3 2 dp).ro]) 60 [14,15,16,17,18,19,20,21,22,23,24,25,26,27,28,29,30,31,32,33,34,35,36,37,38,39,40,41,42,43,44,45,46,47,48,49,50,51,52,53,54,55,56,57,58,59,60,61,62,63,64,65,66,67,68,69,70,71,72,73] (fun hJ=>?_) ?_
 ·refine iR [12,13] kr (eJ ?_<|eJ ?_<|kI)
  rotate_left 1
  ·refine NO U U [12,14,15,16,17,18,19,20,21,22,23,24,25,26,27,28,29,30,31,32,33,34,35,36,37,38,39,40,41,42,43,44,45,46,47,48,49,50,51,52,53,54,55,56,57,58,59,60,61,62,63,64,65,66,67,68,69,70,71,72,73] fun T162 Cx=>ck (t:=49) U (aR fun BQ=>?_) (aP fun BQ=>?_)
   ·exact absurd (⟨l4.1,l4.2.1⟩) BQ
   refine cZ (xs:=[.const (vI 1),.const (vI 2)]) (cs:=[(vI 1),(vI 2)]) U cx i_ U U U U (by simp [Value.cells]) U U fun Eb=>RD Cx 1 U<|N1 12<|NO U U [14,15,16,17,18,19,20,21,22,23,24,25,26,27,28,29,30,31,32,33,34,35,36,37,38,39,40,41,42,43,44,45,46,47,48,49,50,51,52,53,54,55,56,57,58,59,60,61,62,63,64,65,66,67,68,69,70,71,72,73] fun T164 Cy=>cX jn (aK) U fun FN EQ=>?_
   obtain ⟨Bm,CN,Br,CS,CH,Bx,CX,B2,Cc,B7,Ch,CB,Cn,EX⟩:=FN
   try dsimp only
   obtain ⟨Y,e,a⟩:=EQ
   refine RD Cy 9 U ?_
   exact jP hJ (Bm,CN,Br,CS,CH,Bx,CX,B2,Cc,B7,Ch,CB,Cn,EX,Eb) ⟨Y,e,a⟩ [8,0,1,2,3,4,5,6,7,9,10,11,12,13,14,15,16,17,18,19,20,21,22,23,24] U U U
  refine NO U U [13,14,15,16,17,18,19,20,21,22,23,24,25,26,27,28,29,30,31,32,33,34,35,36,37,38,39,40,41,42,43,44,45,46,47,48,49,50,51,52,53,54,55,56,57,58,59,60,61,62,63,64,65,66,67,68,69,70,71,72,73] fun T143 Cv=>ck (t:=49) U (aR fun BQ=>?_) (aP fun BQ=>?_)
  ·exact absurd (⟨l4.1,l4.2.1⟩) BQ
  refine cX jn (aK) U fun FM EP=>?_
  obtain ⟨Bl,CM,Bq,CR,CG,Bw,CW,B1,Cb,B6,Cg,CA,Cm,EW⟩:=FM
  try dsimp only
  obtain ⟨Y,e,a⟩:=EP
  refine RD Cv 8 U<|N1 13<|NO U U [14,15,16,17,18,19,20,21,22,23,24,25,26,27,28,29,30,31,32,33,34,35,36,37,38,39,40,41,42,43,44,45,46,47,48,49,50,51,52,53,54,55,56,57,58,59,60,61,62,63,64,65,66,67,68,69,70,71,72,73] fun T160 Cw=>cZ (xs:=[.const (vI 1),.const (vI 2)]) (cs:=[(vI 1),(vI 2)]) U cx i_ U U U U (by simp [Value.cells]) U U fun Ea=>RD Cw 9 U ?_
  exact jP hJ (Bl,CM,Bq,CR,CG,Bw,CW,B1,Cb,B6,Cg,CA,Cm,EW,Ea) ⟨Y,e,a⟩ [0,1,2,3,4,5,6,7,8,9,10,11,12,13,14,15,16,17,18,19,20,21,22,23,24] U U U
 rintro ⟨u,AG,w,AI,l,y,AK,AA,AN,AC,AP,AE,AR,p,d⟩ ⟨Y,e,a⟩
 try dsimp only
 refine N1 14<|NO U U [15,16,17,18,19,20,21,22,23,24,25,26,27,28,29,30,31,32,33,34,35,36,37,38,39,40,41,42,43,44,45,46,47,48,49,50,51,52,53,54,55,56,57,58,59,60,61,62,63,64,65,66,67,68,69,70,71,72,73] fun T181 Cz=>rS (CL (yW 0 ([1,2]) (some ⟨d,0,none⟩) 2 ab u AG l w AI y AK AA AN AC AP p AE AR (by exact Y) dc) (aw (a_ 0 U U (by simp [bK]) U)<|fG 24 U U<|aw (aj (n:=ab.ah.aI.length) 1 U sm)<|aw (aj (n:=ab.ah.ai.length) 2 U (gX e))<|aw (dR 3 U iM)<|aw (aj (n:=ab.ah.ae.length) 4 U sm)<|aw (aj (n:=ab.aJ.length) 5 U sm)<|aw (aj (n:=ab.bB.length) 6 U sm)<|aw (aj (n:=ab.ar.length) 7 U (fr a.1))<|aw (g7 8 U a)<|aK) U)<|RD Cz 9 U<|N1 15<|NO U U [16,17,18,19,20,21,22,23,24,25,26,27,28,29,30,31,32,33,34,35,36,37,38,39,40,41,42,43,44,45,46,47,48,49,50,51,52,53,54,55,56,57,58,59,60,61,62,63,64,65,66,67,68,69,70,71,72,73] fun T182 C0=>pW (C1:=[(bY d 3 [(vI 1),(vI 2)]),(own M N 3 1 ((cw ab 0 2 (aa.mk 2590 2599)).map iC)),(own W X 29 1 (List.zipWith j5 (bD eU) S)),(bq (aS nk (bD eU) S)),(bY k 32 (br.cells (br.mk (bJ.mk (aZ.mk (aN.mk A ab.ah.aI.length G)) ab.ah.dJ (aN.mk B ab.ah.ai.length H) (aN.mk C ab.ah.ae.length Ff) ab.ah.bH ab.ah.cv ab.ah.bM) (aN.mk D ab.aJ.length J) (aN.mk E ab.bB.length K) ab.dW (aN.mk F ((dF ab.ar 0 2 (aa.mk 2590 2599)).length) L)))),(own A G 122 9 (ab.ah.aI.map an.cells)),(own B H 127 2 (List.zipWith au.cells ab.ah.ai P)),(bq (aS au.owns ab.ah.ai P)),(own C Ff 129 4 (ab.ah.ae.map bG.cells)),(own D J 3 1 (ab.aJ.map iC)),(own E K 3 1 (ab.bB.map iC)),(own F L 47 1 (List.zipWith cJ (dF ab.ar 0 2 (aa.mk 2590 2599)) R)),(bq (aS gP (dF ab.ar 0 2 (aa.mk 2590 2599)) R)),(own T Fe 29 1 (List.zipWith j5 (bD ab) O)),(bq (aS nk (bD ab) O)),(bY f 38 (aa.cells (eZ ab 0 0))),(rd dH 3 2 dp)]) [0,9,10,11,12,13,14,15,16,17,18,19,20,21,22,23,24] U U<|rS (PK U)<|RD C0 1 U<|N1 16<|NO U U [17,18,19,20,21,22,23,24,25,26,27,28,29,30,31,32,33,34,35,36,37,38,39,40,41,42,43,44,45,46,47,48,49,50,51,52,53,54,55,56,57,58,59,60,61,62,63,64,65,66,67,68,69,70,71,72,73] fun T183 C2=>rS (MV U)<|RD C2 1 U ?_
 refine wy (V:=OA×Nat×OA×Nat×List RA×OA×Nat×OA×Nat×OA×Nat×OA×Nat×List cS×Nat) (fun (v,AH,x,AJ,o,z,AM,AB,AO,AD,AQ,AF,AS,q,g)=>fm ab o q∧o.length=ab.ah.ai.length∧sO ab.ar q) (fun (v,AH,x,AJ,o,z,AM,AB,AO,AD,AQ,AF,AS,q,g)=>[(1,(vP f)),(2,(vI (gT ab 0 0))),(3,(vS T ((bD ab).length) Fe)),(4,(vI (bX ab))),(5,(vP k)),(6,(vI 0)),(7,(vS W ((bD eU).length) X)),(8,(vI (bX eU))),(9,(vS M ((cw ab 0 2 (aa.mk 2590 2599)).length) N)),(10,(vI (dK ab 0 2 (aa.mk 2590 2599)))),(11,(vT [(vA (aa.cells (eZ ab 0 0))),(vI (gT ab 0 0))])),(12,(vA (br.cells (br.mk (bJ.mk (aZ.mk (aN.mk BL ab.ah.aI.length BN)) ab.ah.dJ (aN.mk BM ab.ah.ai.length BO) (aN.mk AZ ab.ah.ae.length Az) ab.ah.bH ab.ah.cv ab.ah.bM) (aN.mk Ae ab.aJ.length A3) (aN.mk Ai ab.bB.length A7) ab.dW (aN.mk Am ab.ar.length BA))))),(13,(vT [(vA (aa.cells (eZ ab 0 0))),(vI (gT ab 0 0))])),(14,(vA (aa.cells (eZ ab 0 0)))),(15,(vI (gT ab 0 0))),(16,(vT [(vS T ((bD ab).length) Fe),(vI (bX ab))])),(17,(vA (br.cells (br.mk (bJ.mk (aZ.mk (aN.mk AT ab.ah.aI.length At)) ab.ah.dJ (aN.mk AW ab.ah.ai.length Aw) (aN.mk Aa ab.ah.ae.length A0) ab.ah.bH ab.ah.cv ab.ah.bM) (aN.mk Af ab.aJ.length A4) (aN.mk Aj ab.bB.length A8) ab.dW (aN.mk An ab.ar.length BB))))),(18,(vT [(vS T ((bD ab).length) Fe),(vI (bX ab))])),(19,(vS T ((bD ab).length) Fe)),(20,(vI (bX ab))),(21,(vT [(vA (br.cells (br.mk (bJ.mk (aZ.mk (aN.mk A ab.ah.aI.length G)) ab.ah.dJ (aN.mk B ab.ah.ai.length H) (aN.mk C ab.ah.ae.length Ff) ab.ah.bH ab.ah.cv ab.ah.bM) (aN.mk D ab.aJ.length J) (aN.mk E ab.bB.length K) ab.dW (aN.mk F ((dF ab.ar 0 2 (aa.mk 2590 2599)).length) L)))),(vI 0)])),(22,(vA (br.cells (br.mk (bJ.mk (aZ.mk (aN.mk AU ab.ah.aI.length Au)) ab.ah.dJ (aN.mk AX ab.ah.ai.length Ax) (aN.mk Ab ab.ah.ae.length A1) ab.ah.bH ab.ah.cv ab.ah.bM) (aN.mk Ag ab.aJ.length A5) (aN.mk Ak ab.bB.length A9) ab.dW (aN.mk Ao ab.ar.length BC))))),(23,(vA (aa.cells (aa.mk 2590 2599)))),(24,(vT [(vA (br.cells (br.mk (bJ.mk (aZ.mk (aN.mk A ab.ah.aI.length G)) ab.ah.dJ (aN.mk B ab.ah.ai.length H) (aN.mk C ab.ah.ae.length Ff) ab.ah.bH ab.ah.cv ab.ah.bM) (aN.mk D ab.aJ.length J) (aN.mk E ab.bB.length K) ab.dW (aN.mk F ((dF ab.ar 0 2 (aa.mk 2590 2599)).length) L)))),(vI 0)])),(25,(vA (br.cells (br.mk (bJ.mk (aZ.mk (aN.mk A ab.ah.aI.length G)) ab.ah.dJ (aN.mk B ab.ah.ai.length H) (aN.mk C ab.ah.ae.length Ff) ab.ah.bH ab.ah.cv ab.ah.bM) (aN.mk D ab.aJ.length J) (aN.mk E ab.bB.length K) ab.dW (aN.mk F ((dF ab.ar 0 2 (aa.mk 2590 2599)).length) L))))),(26,(vI 0)),(27,(vT [(vS W ((bD eU).length) X),(vI (bX eU))])),(28,(vA (br.cells (br.mk (bJ.mk (aZ.mk (aN.mk A ab.ah.aI.length G)) ab.ah.dJ (aN.mk B ab.ah.ai.length H) (aN.mk C ab.ah.ae.length Ff) ab.ah.bH ab.ah.cv ab.ah.bM) (aN.mk D ab.aJ.length J) (aN.mk E ab.bB.length K) ab.dW (aN.mk F ((dF ab.ar 0 2 (aa.mk 2590 2599)).length) L))))),(29,(vT [(vS W ((bD eU).length) X),(vI (bX eU))])),(30,(vS W ((bD eU).length) X)),(31,(vI (bX eU))),(32,(vT [(vS M ((cw ab 0 2 (aa.mk 2590 2599)).length) N),(vI (dK ab 0 2 (aa.mk 2590 2599)))])),(33,(vA (br.cells (br.mk (bJ.mk (aZ.mk (aN.mk AV ab.ah.aI.length Av)) ab.ah.dJ (aN.mk AY ab.ah.ai.length Ay) (aN.mk Ac ab.ah.ae.length A2) ab.ah.bH ab.ah.cv ab.ah.bM) (aN.mk Ah ab.aJ.length A6) (aN.mk Al ab.bB.length A_) ab.dW (aN.mk Ap ab.ar.length BE))))),(34,(vA (aa.cells (aa.mk 2590 2599)))),(35,(vT [(vS M ((cw ab 0 2 (aa.mk 2590 2599)).length) N),(vI (dK ab 0 2 (aa.mk 2590 2599)))])),(36,(vS M ((cw ab 0 2 (aa.mk 2590 2599)).length) N)),(37,(vI (dK ab 0 2 (aa.mk 2590 2599)))),(54,(vB true)),(55,(vA (br.cells (br.mk (bJ.mk (aZ.mk (aN.mk v ab.ah.aI.length AH)) ab.ah.dJ (aN.mk x ab.ah.ai.length AJ) (aN.mk z ab.ah.ae.length AM) ab.ah.bH ab.ah.cv ab.ah.bM) (aN.mk AB ab.aJ.length AO) (aN.mk AD ab.bB.length AQ) ab.dW (aN.mk AF ab.ar.length AS))))),(56,(vS (some ⟨g,0,none⟩) 2 2))]) (fun (v,AH,x,AJ,o,z,AM,AB,AO,AD,AQ,AF,AS,q,g)=>[(bY g 3 [(vI 2),(vI 3)]),(own v AH 122 9 (ab.ah.aI.map an.cells)),(own x AJ 127 2 (List.zipWith au.cells ab.ah.ai o)),(bq (aS au.owns ab.ah.ai o)),(own z AM 129 4 (ab.ah.ae.map bG.cells)),(own AB AO 3 1 (ab.aJ.map iC)),(own AD AQ 3 1 (ab.bB.map iC)),(own AF AS 47 1 (List.zipWith cJ ab.ar q)),(bq (aS gP ab.ar q)),(bY d 3 [(vI 1),(vI 2)]),(own M N 3 1 ((cw ab 0 2 (aa.mk 2590 2599)).map iC)),(own W X 29 1 (List.zipWith j5 (bD eU) S)),(bq (aS nk (bD eU) S)),(bY k 32 (br.cells (br.mk (bJ.mk (aZ.mk (aN.mk A ab.ah.aI.length G)) ab.ah.dJ (aN.mk B ab.ah.ai.length H) (aN.mk C ab.ah.ae.length Ff) ab.ah.bH ab.ah.cv ab.ah.bM) (aN.mk D ab.aJ.length J) (aN.mk E ab.bB.length K) ab.dW (aN.mk F ((dF ab.ar 0 2 (aa.mk 2590 2599)).length) L)))),(own A G 122 9 (ab.ah.aI.map an.cells)),(own B H 127 2 (List.zipWith au.cells ab.ah.ai P)),(bq (aS au.owns ab.ah.ai P)),(own C Ff 129 4 (ab.ah.ae.map bG.cells)),(own D J 3 1 (ab.aJ.map iC)),(own E K 3 1 (ab.bB.map iC)),(own F L 47 1 (List.zipWith cJ (dF ab.ar 0 2 (aa.mk 2590 2599)) R)),(bq (aS gP (dF ab.ar 0 2 (aa.mk 2590 2599)) R)),(own T Fe 29 1 (List.zipWith j5 (bD ab) O)),(bq (aS nk (bD ab) O)),(bY f 38 (aa.cells (eZ ab 0 0))),(rd dH 3 2 dp).ro]) 55 [19,20,21,22,23,24,25,26,27,28,29,30,31,32,33,34,35,36,37,38,39,40,41,42,43,44,45,46,47,48,49,50,51,52,53,54,55,56,57,58,59,60,61,62,63,64,65,66,67,68,69,70,71,72,73] (fun hJ=>?_) ?_
 ·refine iR [17,18] kr (eJ ?_<|eJ ?_<|kI)
  rotate_left 1
  ·refine NO U U [17,19,20,21,22,23,24,25,26,27,28,29,30,31,32,33,34,35,36,37,38,39,40,41,42,43,44,45,46,47,48,49,50,51,52,53,54,55,56,57,58,59,60,61,62,63,64,65,66,67,68,69,70,71,72,73] fun T220 C5=>ck (t:=54) U (aR fun BR=>?_) (aP fun BR=>?_)
   ·exact absurd (⟨l4.1,l4.2.2⟩) BR
   refine cZ (xs:=[.const (vI 2),.const (vI 3)]) (cs:=[(vI 2),(vI 3)]) U cx i_ U U U U (by simp [Value.cells]) U U fun Ed=>RD C5 2 U<|N1 17<|NO U U [19,20,21,22,23,24,25,26,27,28,29,30,31,32,33,34,35,36,37,38,39,40,41,42,43,44,45,46,47,48,49,50,51,52,53,54,55,56,57,58,59,60,61,62,63,64,65,66,67,68,69,70,71,72,73] fun T222 C6=>cX jn (aK) U fun FP ES=>?_
   obtain ⟨Bo,CP,Bt,CU,CJ,Bz,CZ,B4,Ce,B9,Cj,CD,Cp,EZ⟩:=FP
   try dsimp only
   obtain ⟨Y,e,a⟩:=ES
   refine RD C6 10 U ?_
   exact jP hJ (Bo,CP,Bt,CU,CJ,Bz,CZ,B4,Ce,B9,Cj,CD,Cp,EZ,Ed) ⟨Y,e,a⟩ [8,0,1,2,3,4,5,6,7,9,10,11,12,13,14,15,16,17,18,19,20,21,22,23,24,25] U U U
  refine NO U U [18,19,20,21,22,23,24,25,26,27,28,29,30,31,32,33,34,35,36,37,38,39,40,41,42,43,44,45,46,47,48,49,50,51,52,53,54,55,56,57,58,59,60,61,62,63,64,65,66,67,68,69,70,71,72,73] fun T201 C3=>ck (t:=54) U (aR fun BR=>?_) (aP fun BR=>?_)
  ·exact absurd (⟨l4.1,l4.2.2⟩) BR
  refine cX jn (aK) U fun FO ER=>?_
  obtain ⟨Bn,CO,Bs,CT,CI,By,CY,B3,Cd,B8,Ci,CC,Co,EY⟩:=FO
  try dsimp only
  obtain ⟨Y,e,a⟩:=ER
  refine RD C3 9 U<|N1 18<|NO U U [19,20,21,22,23,24,25,26,27,28,29,30,31,32,33,34,35,36,37,38,39,40,41,42,43,44,45,46,47,48,49,50,51,52,53,54,55,56,57,58,59,60,61,62,63,64,65,66,67,68,69,70,71,72,73] fun T218 C4=>cZ (xs:=[.const (vI 2),.const (vI 3)]) (cs:=[(vI 2),(vI 3)]) U cx i_ U U U U (by simp [Value.cells]) U U fun Ec=>RD C4 10 U ?_
  exact jP hJ (Bn,CO,Bs,CT,CI,By,CY,B3,Cd,B8,Ci,CC,Co,EY,Ec) ⟨Y,e,a⟩ [0,1,2,3,4,5,6,7,8,9,10,11,12,13,14,15,16,17,18,19,20,21,22,23,24,25] U U U
 rintro ⟨v,AH,x,AJ,o,z,AM,AB,AO,AD,AQ,AF,AS,q,g⟩ ⟨Y,e,a⟩
 try dsimp only
 refine N1 19<|NO U U [20,21,22,23,24,25,26,27,28,29,30,31,32,33,34,35,36,37,38,39,40,41,42,43,44,45,46,47,48,49,50,51,52,53,54,55,56,57,58,59,60,61,62,63,64,65,66,67,68,69,70,71,72,73] fun T239 C7=>rS (CL (yW 2 ([2,3]) (some ⟨g,0,none⟩) 2 ab v AH o x AJ z AM AB AO AD AQ q AF AS (by exact Y) dc) (aw (a_ 0 U U (by simp [bK]) U)<|fG 25 U U<|aw (aj (n:=ab.ah.aI.length) 1 U sm)<|aw (aj (n:=ab.ah.ai.length) 2 U (gX e))<|aw (dR 3 U iM)<|aw (aj (n:=ab.ah.ae.length) 4 U sm)<|aw (aj (n:=ab.aJ.length) 5 U sm)<|aw (aj (n:=ab.bB.length) 6 U sm)<|aw (aj (n:=ab.ar.length) 7 U (fr a.1))<|aw (g7 8 U a)<|aK) U)<|RD C7 10 U<|N1 20<|NO U U [21,22,23,24,25,26,27,28,29,30,31,32,33,34,35,36,37,38,39,40,41,42,43,44,45,46,47,48,49,50,51,52,53,54,55,56,57,58,59,60,61,62,63,64,65,66,67,68,69,70,71,72,73] fun T240 C8=>pW (C1:=[(bY g 3 [(vI 2),(vI 3)]),(bY d 3 [(vI 1),(vI 2)]),(own M N 3 1 ((cw ab 0 2 (aa.mk 2590 2599)).map iC)),(own W X 29 1 (List.zipWith j5 (bD eU) S)),(bq (aS nk (bD eU) S)),(bY k 32 (br.cells (br.mk (bJ.mk (aZ.mk (aN.mk A ab.ah.aI.length G)) ab.ah.dJ (aN.mk B ab.ah.ai.length H) (aN.mk C ab.ah.ae.length Ff) ab.ah.bH ab.ah.cv ab.ah.bM) (aN.mk D ab.aJ.length J) (aN.mk E ab.bB.length K) ab.dW (aN.mk F ((dF ab.ar 0 2 (aa.mk 2590 2599)).length) L)))),(own A G 122 9 (ab.ah.aI.map an.cells)),(own B H 127 2 (List.zipWith au.cells ab.ah.ai P)),(bq (aS au.owns ab.ah.ai P)),(own C Ff 129 4 (ab.ah.ae.map bG.cells)),(own D J 3 1 (ab.aJ.map iC)),(own E K 3 1 (ab.bB.map iC)),(own F L 47 1 (List.zipWith cJ (dF ab.ar 0 2 (aa.mk 2590 2599)) R)),(bq (aS gP (dF ab.ar 0 2 (aa.mk 2590 2599)) R)),(own T Fe 29 1 (List.zipWith j5 (bD ab) O)),(bq (aS nk (bD ab) O)),(bY f 38 (aa.cells (eZ ab 0 0))),(rd dH 3 2 dp)]) [0,9,10,11,12,13,14,15,16,17,18,19,20,21,22,23,24,25] U U<|rS (PK U)<|RD C8 2 U<|N1 21<|NO U U [22,23,24,25,26,27,28,29,30,31,32,33,34,35,36,37,38,39,40,41,42,43,44,45,46,47,48,49,50,51,52,53,54,55,56,57,58,59,60,61,62,63,64,65,66,67,68,69,70,71,72,73] fun T241 C9=>rS (MV U)<|RD C9 2 U<|N1 22<|NO U U [23,24,25,26,27,28,29,30,31,32,33,34,35,36,37,38,39,40,41,42,43,44,45,46,47,48,49,50,51,52,53,54,55,56,57,58,59,60,61,62,63,64,65,66,67,68,69,70,71,72,73] fun T242 C_=>ck (t:=59) U (aR fun Ey=>?_) (aP fun Ey=>?_)
 ·exact absurd (⟨Bu.1,Bu.2.2⟩) Ey
 refine rS (CL (BD 1 2 2 0) (bp [17]) U)<|RD C_ 2 U<|N1 23<|NO U U [24,25,26,27,28,29,30,31,32,33,34,35,36,37,38,39,40,41,42,43,44,45,46,47,48,49,50,51,52,53,54,55,56,57,58,59,60,61,62,63,64,65,66,67,68,69,70,71,72,73] fun T243 DA=>rS (PK U)<|RD DA 2 U<|N1 24<|NO U U [25,26,27,28,29,30,31,32,33,34,35,36,37,38,39,40,41,42,43,44,45,46,47,48,49,50,51,52,53,54,55,56,57,58,59,60,61,62,63,64,65,66,67,68,69,70,71,72,73] fun T244 DB=>rS (MV U)<|RD DB 2 U<|N1 25<|NO U U [26,27,28,29,30,31,32,33,34,35,36,37,38,39,40,41,42,43,44,45,46,47,48,49,50,51,52,53,54,55,56,57,58,59,60,61,62,63,64,65,66,67,68,69,70,71,72,73] fun T245 DC=>ck (t:=62) U (aR fun Ez=>?_) (aP fun Ez=>?_)
 ·exact absurd (⟨⟨⟨Ad.1,Ad.2.1⟩,Ad.1⟩,Ad.2.2⟩) Ez
 refine rS (CL (BD 0 1 0 1) (bp [17]) U)<|RD DC 2 U<|N1 26<|NO U U [27,28,29,30,31,32,33,34,35,36,37,38,39,40,41,42,43,44,45,46,47,48,49,50,51,52,53,54,55,56,57,58,59,60,61,62,63,64,65,66,67,68,69,70,71,72,73] fun T246 DD=>rS (PK U)<|RD DD 2 U<|N1 27<|NO U U [28,29,30,31,32,33,34,35,36,37,38,39,40,41,42,43,44,45,46,47,48,49,50,51,52,53,54,55,56,57,58,59,60,61,62,63,64,65,66,67,68,69,70,71,72,73] fun T247 DE=>rS (MV U)<|RD DE 2 U<|N1 28<|NO U U [29,30,31,32,33,34,35,36,37,38,39,40,41,42,43,44,45,46,47,48,49,50,51,52,53,54,55,56,57,58,59,60,61,62,63,64,65,66,67,68,69,70,71,72,73] fun T248 DF=>ck (t:=65) U (aR fun E0=>?_) (aP fun E0=>?_)
 ·exact absurd (⟨⟨⟨zK.1,zK.2.1⟩,zK.1⟩,zK.2.2⟩) E0
 refine rS (MV U)<|RD DF 2 U<|N1 29<|NO U U [30,31,32,33,34,35,36,37,38,39,40,41,42,43,44,45,46,47,48,49,50,51,52,53,54,55,56,57,58,59,60,61,62,63,64,65,66,67,68,69,70,71,72,73] fun T249 DG=>rS (BI U jA)<|RD DG 2 U<|N1 30<|NO U U [31,32,33,34,35,36,37,38,39,40,41,42,43,44,45,46,47,48,49,50,51,52,53,54,55,56,57,58,59,60,61,62,63,64,65,66,67,68,69,70,71,72,73] fun T250 DH=>rS (PK U)<|RD DH 2 U<|N1 31<|NO U U [32,33,34,35,36,37,38,39,40,41,42,43,44,45,46,47,48,49,50,51,52,53,54,55,56,57,58,59,60,61,62,63,64,65,66,67,68,69,70,71,72,73] fun T251 DI=>rS (MV U)<|RD DI 2 U ?_
 refine wy (V:=Nat×Nat) (fun (Z,j)=>True) (fun (Z,j)=>[(1,(vP f)),(2,(vI (gT ab 0 0))),(3,(vS T ((bD ab).length) Fe)),(4,(vI (bX ab))),(5,(vP k)),(6,(vI 0)),(7,(vS W ((bD eU).length) X)),(8,(vI (bX eU))),(9,(vS M ((cw ab 0 2 (aa.mk 2590 2599)).length) N)),(10,(vI (dK ab 0 2 (aa.mk 2590 2599)))),(11,(vT [(vA (aa.cells (eZ ab 0 0))),(vI (gT ab 0 0))])),(12,(vA (br.cells (br.mk (bJ.mk (aZ.mk (aN.mk BL ab.ah.aI.length BN)) ab.ah.dJ (aN.mk BM ab.ah.ai.length BO) (aN.mk AZ ab.ah.ae.length Az) ab.ah.bH ab.ah.cv ab.ah.bM) (aN.mk Ae ab.aJ.length A3) (aN.mk Ai ab.bB.length A7) ab.dW (aN.mk Am ab.ar.length BA))))),(13,(vT [(vA (aa.cells (eZ ab 0 0))),(vI (gT ab 0 0))])),(14,(vA (aa.cells (eZ ab 0 0)))),(15,(vI (gT ab 0 0))),(16,(vT [(vS T ((bD ab).length) Fe),(vI (bX ab))])),(17,(vA (br.cells (br.mk (bJ.mk (aZ.mk (aN.mk AT ab.ah.aI.length At)) ab.ah.dJ (aN.mk AW ab.ah.ai.length Aw) (aN.mk Aa ab.ah.ae.length A0) ab.ah.bH ab.ah.cv ab.ah.bM) (aN.mk Af ab.aJ.length A4) (aN.mk Aj ab.bB.length A8) ab.dW (aN.mk An ab.ar.length BB))))),(18,(vT [(vS T ((bD ab).length) Fe),(vI (bX ab))])),(19,(vS T ((bD ab).length) Fe)),(20,(vI (bX ab))),(21,(vT [(vA (br.cells (br.mk (bJ.mk (aZ.mk (aN.mk A ab.ah.aI.length G)) ab.ah.dJ (aN.mk B ab.ah.ai.length H) (aN.mk C ab.ah.ae.length Ff) ab.ah.bH ab.ah.cv ab.ah.bM) (aN.mk D ab.aJ.length J) (aN.mk E ab.bB.length K) ab.dW (aN.mk F ((dF ab.ar 0 2 (aa.mk 2590 2599)).length) L)))),(vI 0)])),(22,(vA (br.cells (br.mk (bJ.mk (aZ.mk (aN.mk AU ab.ah.aI.length Au)) ab.ah.dJ (aN.mk AX ab.ah.ai.length Ax) (aN.mk Ab ab.ah.ae.length A1) ab.ah.bH ab.ah.cv ab.ah.bM) (aN.mk Ag ab.aJ.length A5) (aN.mk Ak ab.bB.length A9) ab.dW (aN.mk Ao ab.ar.length BC))))),(23,(vA (aa.cells (aa.mk 2590 2599)))),(24,(vT [(vA (br.cells (br.mk (bJ.mk (aZ.mk (aN.mk A ab.ah.aI.length G)) ab.ah.dJ (aN.mk B ab.ah.ai.length H) (aN.mk C ab.ah.ae.length Ff) ab.ah.bH ab.ah.cv ab.ah.bM) (aN.mk D ab.aJ.length J) (aN.mk E ab.bB.length K) ab.dW (aN.mk F ((dF ab.ar 0 2 (aa.mk 2590 2599)).length) L)))),(vI 0)])),(25,(vA (br.cells (br.mk (bJ.mk (aZ.mk (aN.mk A ab.ah.aI.length G)) ab.ah.dJ (aN.mk B ab.ah.ai.length H) (aN.mk C ab.ah.ae.length Ff) ab.ah.bH ab.ah.cv ab.ah.bM) (aN.mk D ab.aJ.length J) (aN.mk E ab.bB.length K) ab.dW (aN.mk F ((dF ab.ar 0 2 (aa.mk 2590 2599)).length) L))))),(26,(vI 0)),(27,(vT [(vS W ((bD eU).length) X),(vI (bX eU))])),(28,(vA (br.cells (br.mk (bJ.mk (aZ.mk (aN.mk A ab.ah.aI.length G)) ab.ah.dJ (aN.mk B ab.ah.ai.length H) (aN.mk C ab.ah.ae.length Ff) ab.ah.bH ab.ah.cv ab.ah.bM) (aN.mk D ab.aJ.length J) (aN.mk E ab.bB.length K) ab.dW (aN.mk F ((dF ab.ar 0 2 (aa.mk 2590 2599)).length) L))))),(29,(vT [(vS W ((bD eU).length) X),(vI (bX eU))])),(30,(vS W ((bD eU).length) X)),(31,(vI (bX eU))),(32,(vT [(vS M ((cw ab 0 2 (aa.mk 2590 2599)).length) N),(vI (dK ab 0 2 (aa.mk 2590 2599)))])),(33,(vA (br.cells (br.mk (bJ.mk (aZ.mk (aN.mk AV ab.ah.aI.length Av)) ab.ah.dJ (aN.mk AY ab.ah.ai.length Ay) (aN.mk Ac ab.ah.ae.length A2) ab.ah.bH ab.ah.cv ab.ah.bM) (aN.mk Ah ab.aJ.length A6) (aN.mk Al ab.bB.length A_) ab.dW (aN.mk Ap ab.ar.length BE))))),(34,(vA (aa.cells (aa.mk 2590 2599)))),(35,(vT [(vS M ((cw ab 0 2 (aa.mk 2590 2599)).length) N),(vI (dK ab 0 2 (aa.mk 2590 2599)))])),(36,(vS M ((cw ab 0 2 (aa.mk 2590 2599)).length) N)),(37,(vI (dK ab 0 2 (aa.mk 2590 2599)))),(69,(vB true)),(70,(vS T ((bD ab).length) Fe)),(71,(vS (some ⟨Z,0,none⟩) 3 3)),(72,(vS (some ⟨j,0,none⟩) 1 1))]) (fun (Z,j)=>[(bY j 29 [(vS (some ⟨Z,0,none⟩) 3 3)]),(bY Z 3 [(vI 0),(vI 1),(vI 2)]),(bY g 3 [(vI 2),(vI 3)]),(bY d 3 [(vI 1),(vI 2)]),(own M N 3 1 ((cw ab 0 2 (aa.mk 2590 2599)).map iC)),(own W X 29 1 (List.zipWith j5 (bD eU) S)),(bq (aS nk (bD eU) S)),(bY k 32 (br.cells (br.mk (bJ.mk (aZ.mk (aN.mk A ab.ah.aI.length G)) ab.ah.dJ (aN.mk B ab.ah.ai.length H) (aN.mk C ab.ah.ae.length Ff) ab.ah.bH ab.ah.cv ab.ah.bM) (aN.mk D ab.aJ.length J) (aN.mk E ab.bB.length K) ab.dW (aN.mk F ((dF ab.ar 0 2 (aa.mk 2590 2599)).length) L)))),(own A G 122 9 (ab.ah.aI.map an.cells)),(own B H 127 2 (List.zipWith au.cells ab.ah.ai P)),(bq (aS au.owns ab.ah.ai P)),(own C Ff 129 4 (ab.ah.ae.map bG.cells)),(own D J 3 1 (ab.aJ.map iC)),(own E K 3 1 (ab.bB.map iC)),(own F L 47 1 (List.zipWith cJ (dF ab.ar 0 2 (aa.mk 2590 2599)) R)),(bq (aS gP (dF ab.ar 0 2 (aa.mk 2590 2599)) R)),(own T Fe 29 1 (List.zipWith j5 (bD ab) O)),(bq (aS nk (bD ab) O)),(bY f 38 (aa.cells (eZ ab 0 0))),(rd dH 3 2 dp).ro]) 39 [35,36,37,38,39,40,41,42,43,44,45,46,47,48,49,50,51,52,53,54,55,56,57,58,59,60,61,62,63,64,65,66,67,68,69,70,71,72,73] (fun hJ=>?_) ?_
 ·refine iR [32,33] kr (eJ ?_<|eJ ?_<|kI)
  ·refine NO U U [33,34,35,36,37,38,39,40,41,42,43,44,45,46,47,48,49,50,51,52,53,54,55,56,57,58,59,60,61,62,63,64,65,66,67,68,69,70,71,72,73] fun T254 DJ=>ck (t:=69) U (aR fun BS=>?_) (aP fun BS=>?_)
   ·exact absurd (p_) BS
   refine rS (MV U)<|RD DJ 2 U<|N1 33<|NO U U [34,35,36,37,38,39,40,41,42,43,44,45,46,47,48,49,50,51,52,53,54,55,56,57,58,59,60,61,62,63,64,65,66,67,68,69,70,71,72,73] fun T255 DK=>cZ (xs:=[.const (vI 0),.const (vI 1),.const (vI 2)]) (cs:=[(vI 0),(vI 1),(vI 2)]) U cx i_ U U U U (by simp [Value.cells]) U U fun BW=>RD DK 3 U<|N1 34<|NO U U [35,36,37,38,39,40,41,42,43,44,45,46,47,48,49,50,51,52,53,54,55,56,57,58,59,60,61,62,63,64,65,66,67,68,69,70,71,72,73] fun T257 DL=>cZ (xs:=[.tmp 71]) (cs:=[(vS (some ⟨BW,0,none⟩) 3 3)]) U o6 vk U U U U (by simp [Value.cells]) U U fun Ee=>RD DL 4 U ?_
   exact jP hJ (BW,Ee) trivial [0,1,2,3,4,5,6,7,8,9,10,11,12,13,14,15,16,17,18,19] U U U
  refine NO U U [32,34,35,36,37,38,39,40,41,42,43,44,45,46,47,48,49,50,51,52,53,54,55,56,57,58,59,60,61,62,63,64,65,66,67,68,69,70,71,72,73] fun T259 DM=>ck (t:=69) U (aR fun BS=>?_) (aP fun BS=>?_)
  ·exact absurd (p_) BS
  refine cZ (xs:=[.const (vI 0),.const (vI 1),.const (vI 2)]) (cs:=[(vI 0),(vI 1),(vI 2)]) U cx i_ U U U U (by simp [Value.cells]) U U fun BG=>RD DM 3 U<|iR [32,34] kr (eJ ?_<|eJ ?_<|kI)
  rotate_left 1
  ·refine NO U U [32,35,36,37,38,39,40,41,42,43,44,45,46,47,48,49,50,51,52,53,54,55,56,57,58,59,60,61,62,63,64,65,66,67,68,69,70,71,72,73] fun T264 DP=>cZ (xs:=[.tmp 71]) (cs:=[(vS (some ⟨BG,0,none⟩) 3 3)]) U o6 vk U U U U (by simp [Value.cells]) U U fun Eg=>RD DP 4 U<|N1 32<|NO U U [35,36,37,38,39,40,41,42,43,44,45,46,47,48,49,50,51,52,53,54,55,56,57,58,59,60,61,62,63,64,65,66,67,68,69,70,71,72,73] fun T266 DQ=>rS (MV U)<|RD DQ 4 U ?_
   exact jP hJ (BG,Eg) trivial [0,1,2,3,4,5,6,7,8,9,10,11,12,13,14,15,16,17,18,19] U U U
  refine NO U U [34,35,36,37,38,39,40,41,42,43,44,45,46,47,48,49,50,51,52,53,54,55,56,57,58,59,60,61,62,63,64,65,66,67,68,69,70,71,72,73] fun T261 DN=>rS (MV U)<|RD DN 3 U<|N1 34<|NO U U [35,36,37,38,39,40,41,42,43,44,45,46,47,48,49,50,51,52,53,54,55,56,57,58,59,60,61,62,63,64,65,66,67,68,69,70,71,72,73] fun T262 DO=>cZ (xs:=[.tmp 71]) (cs:=[(vS (some ⟨BG,0,none⟩) 3 3)]) U o6 vk U U U U (by simp [Value.cells]) U U fun Ef=>RD DO 4 U ?_
  exact jP hJ (BG,Ef) trivial [0,1,2,3,4,5,6,7,8,9,10,11,12,13,14,15,16,17,18,19] U U U
 rintro ⟨Z,j⟩-
 try dsimp only
 refine N1 35<|NO U U [36,37,38,39,40,41,42,43,44,45,46,47,48,49,50,51,52,53,54,55,56,57,58,59,60,61,62,63,64,65,66,67,68,69,70,71,72,73] fun T267 DR=>?_
 refine dY (es:=(([0,1,2]:List Int).map iC)) (C':=[_,(own (some ⟨Z,0,none⟩) 3 3 1 (([0,1,2]:List Int).map iC)),_,_,_,_,_,_,_,_,_,_,_,_,_,_,_,_,_,_]) 1 U (mE bK _) U (by show _≤maxLen; exact Nat.le_trans (m:=10) (show (3:Nat)≤10 by decide) dc) U ?_
 refine dY (es:=(List.zipWith j5 [([0,1,2]:List Int)] [((some ⟨Z,0,none⟩),3)])) (C':=[(own (some ⟨j,0,none⟩) 1 29 1 (List.zipWith j5 [([0,1,2]:List Int)] [((some ⟨Z,0,none⟩),3)])),_,_,_,_,_,_,_,_,_,_,_,_,_,_,_,_,_,_,_]) 0 U (oT IP) U (by show _≤maxLen; exact Nat.le_trans (m:=10) (show (1:Nat)≤10 by decide) dc) U ?_
 refine wq (C1:=[(own (some ⟨j,0,none⟩) 1 29 1 (List.zipWith j5 [([0,1,2]:List Int)] [((some ⟨Z,0,none⟩),3)])),(bY g 3 [(vI 2),(vI 3)]),(bY d 3 [(vI 1),(vI 2)]),(own M N 3 1 ((cw ab 0 2 (aa.mk 2590 2599)).map iC)),(own W X 29 1 (List.zipWith j5 (bD eU) S)),(bq (aS nk (bD eU) S)),(bY k 32 (br.cells (br.mk (bJ.mk (aZ.mk (aN.mk A ab.ah.aI.length G)) ab.ah.dJ (aN.mk B ab.ah.ai.length H) (aN.mk C ab.ah.ae.length Ff) ab.ah.bH ab.ah.cv ab.ah.bM) (aN.mk D ab.aJ.length J) (aN.mk E ab.bB.length K) ab.dW (aN.mk F ((dF ab.ar 0 2 (aa.mk 2590 2599)).length) L)))),(own A G 122 9 (ab.ah.aI.map an.cells)),(own B H 127 2 (List.zipWith au.cells ab.ah.ai P)),(bq (aS au.owns ab.ah.ai P)),(own C Ff 129 4 (ab.ah.ae.map bG.cells)),(own D J 3 1 (ab.aJ.map iC)),(own E K 3 1 (ab.bB.map iC)),(own F L 47 1 (List.zipWith cJ (dF ab.ar 0 2 (aa.mk 2590 2599)) R)),(bq (aS gP (dF ab.ar 0 2 (aa.mk 2590 2599)) R)),(own T Fe 29 1 (List.zipWith j5 (bD ab) O)),(bq (aS nk (bD ab) O)),(bY f 38 (aa.cells (eZ ab 0 0))),(rd dH 3 2 dp)]) (aS nk [([0,1,2]:List Int)] [((some ⟨Z,0,none⟩),3)]) [1,0,2,3,4,5,6,7,8,9,10,11,12,13,14,15,16,17,18,19] U U<|rS (CL (uH (bD ab) ([([0,1,2]:List Int)]) O T Fe ([((some ⟨Z,0,none⟩),3)]) (some ⟨j,0,none⟩) 1 (by first|exact BV.1|exact BK.1) dc (by first|exact BV.2|exact BK.2) dc (by exact Bf) (by rfl)) (aw (aj (n:=(bD ab).length) 16 U (k6 Bf))<|aw (dR 17 U E3)<|aw (aj (n:=([([0,1,2]:List Int)]).length) 1 U sm)<|aw (dR 0 U E3)<|aK) U)<|RD DR 4 U<|N1 36<|NO U U [37,38,39,40,41,42,43,44,45,46,47,48,49,50,51,52,53,54,55,56,57,58,59,60,61,62,63,64,65,66,67,68,69,70,71,72,73] fun T268 DS=>rS (PK U)<|RD DS 4 U<|N1 37<|NO U U [38,39,40,41,42,43,44,45,46,47,48,49,50,51,52,53,54,55,56,57,58,59,60,61,62,63,64,65,66,67,68,69,70,71,72,73] fun T269 DT=>rS (MV U)<|RD DT 4 U<|N1 38<|NO U U [39,40,41,42,43,44,45,46,47,48,49,50,51,52,53,54,55,56,57,58,59,60,61,62,63,64,65,66,67,68,69,70,71,72,73] fun T270 DU=>ck (t:=75) U (aR fun E1=>?_) (aP fun E1=>?_)
 ·exact absurd (Mx) E1
 refine rS (MV U)<|RD DU 4 U<|N1 39<|NO U U [40,41,42,43,44,45,46,47,48,49,50,51,52,53,54,55,56,57,58,59,60,61,62,63,64,65,66,67,68,69,70,71,72,73] fun T271 DV=>rS (SX (bZ (r:= .bool true) U U U jA) U U)<|RD DV 4 U<|N1 40<|NO U U [41,42,43,44,45,46,47,48,49,50,51,52,53,54,55,56,57,58,59,60,61,62,63,64,65,66,67,68,69,70,71,72,73] fun T272 DW=>rS (PK U)<|RD DW 4 U<|N1 41<|NO U U [42,43,44,45,46,47,48,49,50,51,52,53,54,55,56,57,58,59,60,61,62,63,64,65,66,67,68,69,70,71,72,73] fun T273 DX=>rS (MV U)<|RD DX 4 U<|N1 42<|NO U U [43,44,45,46,47,48,49,50,51,52,53,54,55,56,57,58,59,60,61,62,63,64,65,66,67,68,69,70,71,72,73] fun T274 DY=>rS (LW 7 U cd U U)<|RD DY 4 U<|N1 43<|NO U U [44,45,46,47,48,49,50,51,52,53,54,55,56,57,58,59,60,61,62,63,64,65,66,67,68,69,70,71,72,73] fun T275 DZ=>?_
 refine rS (CL (yO 2 516 516 eU A G P B H C Ff D J E K R F L (by exact Bh)) (fG 19 U U<|aw (aj (n:=ab.ah.aI.length) 8 U (by rw [List.length_map]; rfl))<|aw (aj (n:=ab.ah.ai.length) 9 U (gX BU))<|aw (dR 10 U iM)<|aw (aj (n:=ab.ah.ae.length) 11 U (by rw [List.length_map]; rfl))<|aw (aj (n:=ab.aJ.length) 12 U (by rw [List.length_map]; rfl))<|aw (aj (n:=ab.bB.length) 13 U (by rw [List.length_map]; rfl))<|aw (aj (n:=(dF ab.ar 0 2 (aa.mk 2590 2599)).length) 14 U (fr BP.1))<|aw (g7 15 U BP)<|aK) U) ?_
 refine RD DZ 4 U<|N1 44<|NO U U [45,46,47,48,49,50,51,52,53,54,55,56,57,58,59,60,61,62,63,64,65,66,67,68,69,70,71,72,73] fun T276 Da=>rS (PK U)<|RD Da 4 U<|N1 45<|NO U U [46,47,48,49,50,51,52,53,54,55,56,57,58,59,60,61,62,63,64,65,66,67,68,69,70,71,72,73] fun T277 Db=>rS (MV U)<|RD Db 4 U<|N1 46<|NO U U [47,48,49,50,51,52,53,54,55,56,57,58,59,60,61,62,63,64,65,66,67,68,69,70,71,72,73] fun T278 Dc=>ck (t:=83) U (aR fun E2=>?_) (aP fun E2=>?_)
 ·exact absurd (Kb) E2
 refine rS (MV U)<|RD Dc 4 U<|N1 47<|NO U U [48,49,50,51,52,53,54,55,56,57,58,59,60,61,62,63,64,65,66,67,68,69,70,71,72,73] fun T279 Dd=>rS (BI U jA)<|RD Dd 4 U<|N1 48<|NO U U [49,50,51,52,53,54,55,56,57,58,59,60,61,62,63,64,65,66,67,68,69,70,71,72,73] fun T280 De=>rS (PK U)<|RD De 4 U<|N1 49<|NO U U [50,51,52,53,54,55,56,57,58,59,60,61,62,63,64,65,66,67,68,69,70,71,72,73] fun T281 Df=>rS (MV U)<|RD Df 4 U ?_
 refine wy (V:=Nat×Nat×Nat) (fun (b,c,s)=>True) (fun (b,c,s)=>[(1,(vP f)),(2,(vI (gT ab 0 0))),(3,(vS T ((bD ab).length) Fe)),(4,(vI (bX ab))),(5,(vP k)),(6,(vI 0)),(7,(vS W ((bD eU).length) X)),(8,(vI (bX eU))),(9,(vS M ((cw ab 0 2 (aa.mk 2590 2599)).length) N)),(10,(vI (dK ab 0 2 (aa.mk 2590 2599)))),(11,(vT [(vA (aa.cells (eZ ab 0 0))),(vI (gT ab 0 0))])),(12,(vA (br.cells (br.mk (bJ.mk (aZ.mk (aN.mk BL ab.ah.aI.length BN)) ab.ah.dJ (aN.mk BM ab.ah.ai.length BO) (aN.mk AZ ab.ah.ae.length Az) ab.ah.bH ab.ah.cv ab.ah.bM) (aN.mk Ae ab.aJ.length A3) (aN.mk Ai ab.bB.length A7) ab.dW (aN.mk Am ab.ar.length BA))))),(13,(vT [(vA (aa.cells (eZ ab 0 0))),(vI (gT ab 0 0))])),(14,(vA (aa.cells (eZ ab 0 0)))),(15,(vI (gT ab 0 0))),(16,(vT [(vS T ((bD ab).length) Fe),(vI (bX ab))])),(17,(vA (br.cells (br.mk (bJ.mk (aZ.mk (aN.mk AT ab.ah.aI.length At)) ab.ah.dJ (aN.mk AW ab.ah.ai.length Aw) (aN.mk Aa ab.ah.ae.length A0) ab.ah.bH ab.ah.cv ab.ah.bM) (aN.mk Af ab.aJ.length A4) (aN.mk Aj ab.bB.length A8) ab.dW (aN.mk An ab.ar.length BB))))),(18,(vT [(vS T ((bD ab).length) Fe),(vI (bX ab))])),(19,(vS T ((bD ab).length) Fe)),(20,(vI (bX ab))),(21,(vT [(vA (br.cells (br.mk (bJ.mk (aZ.mk (aN.mk A ab.ah.aI.length G)) ab.ah.dJ (aN.mk B ab.ah.ai.length H) (aN.mk C ab.ah.ae.length Ff) ab.ah.bH ab.ah.cv ab.ah.bM) (aN.mk D ab.aJ.length J) (aN.mk E ab.bB.length K) ab.dW (aN.mk F ((dF ab.ar 0 2 (aa.mk 2590 2599)).length) L)))),(vI 0)])),(22,(vA (br.cells (br.mk (bJ.mk (aZ.mk (aN.mk AU ab.ah.aI.length Au)) ab.ah.dJ (aN.mk AX ab.ah.ai.length Ax) (aN.mk Ab ab.ah.ae.length A1) ab.ah.bH ab.ah.cv ab.ah.bM) (aN.mk Ag ab.aJ.length A5) (aN.mk Ak ab.bB.length A9) ab.dW (aN.mk Ao ab.ar.length BC))))),(23,(vA (aa.cells (aa.mk 2590 2599)))),(24,(vT [(vA (br.cells (br.mk (bJ.mk (aZ.mk (aN.mk A ab.ah.aI.length G)) ab.ah.dJ (aN.mk B ab.ah.ai.length H) (aN.mk C ab.ah.ae.length Ff) ab.ah.bH ab.ah.cv ab.ah.bM) (aN.mk D ab.aJ.length J) (aN.mk E ab.bB.length K) ab.dW (aN.mk F ((dF ab.ar 0 2 (aa.mk 2590 2599)).length) L)))),(vI 0)])),(25,(vA (br.cells (br.mk (bJ.mk (aZ.mk (aN.mk A ab.ah.aI.length G)) ab.ah.dJ (aN.mk B ab.ah.ai.length H) (aN.mk C ab.ah.ae.length Ff) ab.ah.bH ab.ah.cv ab.ah.bM) (aN.mk D ab.aJ.length J) (aN.mk E ab.bB.length K) ab.dW (aN.mk F ((dF ab.ar 0 2 (aa.mk 2590 2599)).length) L))))),(26,(vI 0)),(27,(vT [(vS W ((bD eU).length) X),(vI (bX eU))])),(28,(vA (br.cells (br.mk (bJ.mk (aZ.mk (aN.mk A ab.ah.aI.length G)) ab.ah.dJ (aN.mk B ab.ah.ai.length H) (aN.mk C ab.ah.ae.length Ff) ab.ah.bH ab.ah.cv ab.ah.bM) (aN.mk D ab.aJ.length J) (aN.mk E ab.bB.length K) ab.dW (aN.mk F ((dF ab.ar 0 2 (aa.mk 2590 2599)).length) L))))),(29,(vT [(vS W ((bD eU).length) X),(vI (bX eU))])),(30,(vS W ((bD eU).length) X)),(31,(vI (bX eU))),(32,(vT [(vS M ((cw ab 0 2 (aa.mk 2590 2599)).length) N),(vI (dK ab 0 2 (aa.mk 2590 2599)))])),(33,(vA (br.cells (br.mk (bJ.mk (aZ.mk (aN.mk AV ab.ah.aI.length Av)) ab.ah.dJ (aN.mk AY ab.ah.ai.length Ay) (aN.mk Ac ab.ah.ae.length A2) ab.ah.bH ab.ah.cv ab.ah.bM) (aN.mk Ah ab.aJ.length A6) (aN.mk Al ab.bB.length A_) ab.dW (aN.mk Ap ab.ar.length BE))))),(34,(vA (aa.cells (aa.mk 2590 2599)))),(35,(vT [(vS M ((cw ab 0 2 (aa.mk 2590 2599)).length) N),(vI (dK ab 0 2 (aa.mk 2590 2599)))])),(36,(vS M ((cw ab 0 2 (aa.mk 2590 2599)).length) N)),(37,(vI (dK ab 0 2 (aa.mk 2590 2599)))),(71,(vS (some ⟨Z,0,none⟩) 3 3)),(87,(vB true)),(88,(vS W ((bD eU).length) X)),(89,(vS (some ⟨b,0,none⟩) 2 2)),(90,(vS (some ⟨c,0,none⟩) 1 1)),(91,(vS (some ⟨s,0,none⟩) 2 2))]) (fun (b,c,s)=>[(bY s 29 [(vS (some ⟨b,0,none⟩) 2 2),(vS (some ⟨c,0,none⟩) 1 1)]),(bY c 3 [(vI 2)]),(bY b 3 [(vI 0),(vI 1)]),(bq (aS nk [([0,1,2]:List Int)] [((some ⟨Z,0,none⟩),3)])),(own (some ⟨j,0,none⟩) 1 29 1 (List.zipWith j5 [([0,1,2]:List Int)] [((some ⟨Z,0,none⟩),3)])),(bY g 3 [(vI 2),(vI 3)]),(bY d 3 [(vI 1),(vI 2)]),(own M N 3 1 ((cw ab 0 2 (aa.mk 2590 2599)).map iC)),(own W X 29 1 (List.zipWith j5 (bD eU) S)),(bq (aS nk (bD eU) S)),(bY k 32 (br.cells (br.mk (bJ.mk (aZ.mk (aN.mk A ab.ah.aI.length G)) ab.ah.dJ (aN.mk B ab.ah.ai.length H) (aN.mk C ab.ah.ae.length Ff) ab.ah.bH ab.ah.cv ab.ah.bM) (aN.mk D ab.aJ.length J) (aN.mk E ab.bB.length K) ab.dW (aN.mk F ((dF ab.ar 0 2 (aa.mk 2590 2599)).length) L)))),(own A G 122 9 (ab.ah.aI.map an.cells)),(own B H 127 2 (List.zipWith au.cells ab.ah.ai P)),(bq (aS au.owns ab.ah.ai P)),(own C Ff 129 4 (ab.ah.ae.map bG.cells)),(own D J 3 1 (ab.aJ.map iC)),(own E K 3 1 (ab.bB.map iC)),(own F L 47 1 (List.zipWith cJ (dF ab.ar 0 2 (aa.mk 2590 2599)) R)),(bq (aS gP (dF ab.ar 0 2 (aa.mk 2590 2599)) R)),(own T Fe 29 1 (List.zipWith j5 (bD ab) O)),(bq (aS nk (bD ab) O)),(bY f 38 (aa.cells (eZ ab 0 0))),(rd dH 3 2 dp).ro]) 20 [54,55,56,57,58,59,60,61,62,63,64,65,66,67,68,69,70,71,72,73] (fun hJ=>?_) ?_
 ·refine iR [50,51,52] kr (eJ ?_<|eJ ?_<|eJ ?_<|kI)
  ·refine NO U U [51,52,53,54,55,56,57,58,59,60,61,62,63,64,65,66,67,68,69,70,71,72,73] fun T285 Dg=>ck (t:=87) U (aR fun BF=>?_) (aP fun BF=>?_)
   ·exact absurd (wc) BF
   refine rS (MV U)<|RD Dg 4 U<|iR [51,52] kr (eJ ?_<|eJ ?_<|kI)
   rotate_left 1
   ·refine NO U U [51,53,54,55,56,57,58,59,60,61,62,63,64,65,66,67,68,69,70,71,72,73] fun T292 Dk=>cZ (xs:=[.const (vI 2)]) (cs:=[(vI 2)]) U cx i_ U U U U (by simp [Value.cells]) U U fun BZ=>RD Dk 5 U<|N1 51<|NO U U [53,54,55,56,57,58,59,60,61,62,63,64,65,66,67,68,69,70,71,72,73] fun T294 Dl=>cZ (xs:=[.const (vI 0),.const (vI 1)]) (cs:=[(vI 0),(vI 1)]) U cx i_ U U U U (by simp [Value.cells]) U U fun Ba=>RD Dl 6 U<|N1 53<|NO U U [54,55,56,57,58,59,60,61,62,63,64,65,66,67,68,69,70,71,72,73] fun T296 Dm=>cZ (xs:=[.tmp 89,.tmp 90]) (cs:=[(vS (some ⟨Ba,0,none⟩) 2 2),(vS (some ⟨BZ,0,none⟩) 1 1)]) U o6 vk U U U U (by simp [Value.cells]) U U fun Ei=>RD Dm 7 U ?_
    exact jP hJ (Ba,BZ,Ei) trivial [0,2,1,3,4,5,6,7,8,9,10,11,12,13,14,15,16,17,18,19,20,21,22] U U U
   refine NO U U [52,53,54,55,56,57,58,59,60,61,62,63,64,65,66,67,68,69,70,71,72,73] fun T286 Dh=>cZ (xs:=[.const (vI 0),.const (vI 1)]) (cs:=[(vI 0),(vI 1)]) U cx i_ U U U U (by simp [Value.cells]) U U fun BX=>RD Dh 5 U<|N1 52<|NO U U [53,54,55,56,57,58,59,60,61,62,63,64,65,66,67,68,69,70,71,72,73] fun T288 Di=>cZ (xs:=[.const (vI 2)]) (cs:=[(vI 2)]) U cx i_ U U U U (by simp [Value.cells]) U U fun BY=>RD Di 6 U<|N1 53<|NO U U [54,55,56,57,58,59,60,61,62,63,64,65,66,67,68,69,70,71,72,73] fun T290 Dj=>cZ (xs:=[.tmp 89,.tmp 90]) (cs:=[(vS (some ⟨BX,0,none⟩) 2 2),(vS (some ⟨BY,0,none⟩) 1 1)]) U o6 vk U U U U (by simp [Value.cells]) U U fun Eh=>RD Dj 7 U ?_
   exact jP hJ (BX,BY,Eh) trivial [0,1,2,3,4,5,6,7,8,9,10,11,12,13,14,15,16,17,18,19,20,21,22] U U U
  ·refine NO U U [50,52,53,54,55,56,57,58,59,60,61,62,63,64,65,66,67,68,69,70,71,72,73] fun T298 Dn=>ck (t:=87) U (aR fun BF=>?_) (aP fun BF=>?_)
   ·exact absurd (wc) BF
   refine cZ (xs:=[.const (vI 0),.const (vI 1)]) (cs:=[(vI 0),(vI 1)]) U cx i_ U U U U (by simp [Value.cells]) U U fun Aq=>RD Dn 5 U<|iR [50,52] kr (eJ ?_<|eJ ?_<|kI)
   ·refine NO U U [52,53,54,55,56,57,58,59,60,61,62,63,64,65,66,67,68,69,70,71,72,73] fun T300 Do=>rS (MV U)<|RD Do 5 U<|N1 52<|NO U U [53,54,55,56,57,58,59,60,61,62,63,64,65,66,67,68,69,70,71,72,73] fun T301 Dp=>cZ (xs:=[.const (vI 2)]) (cs:=[(vI 2)]) U cx i_ U U U U (by simp [Value.cells]) U U fun Bb=>RD Dp 6 U<|N1 53<|NO U U [54,55,56,57,58,59,60,61,62,63,64,65,66,67,68,69,70,71,72,73] fun T303 Dq=>cZ (xs:=[.tmp 89,.tmp 90]) (cs:=[(vS (some ⟨Aq,0,none⟩) 2 2),(vS (some ⟨Bb,0,none⟩) 1 1)]) U o6 vk U U U U (by simp [Value.cells]) U U fun Ej=>RD Dq 7 U ?_
    exact jP hJ (Aq,Bb,Ej) trivial [0,1,2,3,4,5,6,7,8,9,10,11,12,13,14,15,16,17,18,19,20,21,22] U U U
   refine NO U U [50,53,54,55,56,57,58,59,60,61,62,63,64,65,66,67,68,69,70,71,72,73] fun T305 Dr=>cZ (xs:=[.const (vI 2)]) (cs:=[(vI 2)]) U cx i_ U U U U (by simp [Value.cells]) U U fun BH=>RD Dr 6 U<|iR [50,53] kr (eJ ?_<|eJ ?_<|kI)
   rotate_left 1
   ·refine NO U U [50,54,55,56,57,58,59,60,61,62,63,64,65,66,67,68,69,70,71,72,73] fun T310 Du=>cZ (xs:=[.tmp 89,.tmp 90]) (cs:=[(vS (some ⟨Aq,0,none⟩) 2 2),(vS (some ⟨BH,0,none⟩) 1 1)]) U o6 vk U U U U (by simp [Value.cells]) U U fun El=>RD Du 7 U<|N1 50<|NO U U [54,55,56,57,58,59,60,61,62,63,64,65,66,67,68,69,70,71,72,73] fun T312 Dv=>rS (MV U)<|RD Dv 7 U ?_
    exact jP hJ (Aq,BH,El) trivial [0,1,2,3,4,5,6,7,8,9,10,11,12,13,14,15,16,17,18,19,20,21,22] U U U
   refine NO U U [53,54,55,56,57,58,59,60,61,62,63,64,65,66,67,68,69,70,71,72,73] fun T307 Ds=>rS (MV U)<|RD Ds 6 U<|N1 53<|NO U U [54,55,56,57,58,59,60,61,62,63,64,65,66,67,68,69,70,71,72,73] fun T308 Dt=>cZ (xs:=[.tmp 89,.tmp 90]) (cs:=[(vS (some ⟨Aq,0,none⟩) 2 2),(vS (some ⟨BH,0,none⟩) 1 1)]) U o6 vk U U U U (by simp [Value.cells]) U U fun Ek=>RD Dt 7 U ?_
   exact jP hJ (Aq,BH,Ek) trivial [0,1,2,3,4,5,6,7,8,9,10,11,12,13,14,15,16,17,18,19,20,21,22] U U U
  refine NO U U [50,51,53,54,55,56,57,58,59,60,61,62,63,64,65,66,67,68,69,70,71,72,73] fun T313 Dw=>ck (t:=87) U (aR fun BF=>?_) (aP fun BF=>?_)
  ·exact absurd (wc) BF
  refine cZ (xs:=[.const (vI 2)]) (cs:=[(vI 2)]) U cx i_ U U U U (by simp [Value.cells]) U U fun Ar=>RD Dw 5 U<|iR [50,51] kr (eJ ?_<|eJ ?_<|kI)
  ·refine NO U U [51,53,54,55,56,57,58,59,60,61,62,63,64,65,66,67,68,69,70,71,72,73] fun T315 Dx=>rS (MV U)<|RD Dx 5 U<|N1 51<|NO U U [53,54,55,56,57,58,59,60,61,62,63,64,65,66,67,68,69,70,71,72,73] fun T316 Dy=>cZ (xs:=[.const (vI 0),.const (vI 1)]) (cs:=[(vI 0),(vI 1)]) U cx i_ U U U U (by simp [Value.cells]) U U fun Bc=>RD Dy 6 U<|N1 53<|NO U U [54,55,56,57,58,59,60,61,62,63,64,65,66,67,68,69,70,71,72,73] fun T318 Dz=>cZ (xs:=[.tmp 89,.tmp 90]) (cs:=[(vS (some ⟨Bc,0,none⟩) 2 2),(vS (some ⟨Ar,0,none⟩) 1 1)]) U o6 vk U U U U (by simp [Value.cells]) U U fun Em=>RD Dz 7 U ?_
   exact jP hJ (Bc,Ar,Em) trivial [0,2,1,3,4,5,6,7,8,9,10,11,12,13,14,15,16,17,18,19,20,21,22] U U U
  refine NO U U [50,53,54,55,56,57,58,59,60,61,62,63,64,65,66,67,68,69,70,71,72,73] fun T320 D0=>cZ (xs:=[.const (vI 0),.const (vI 1)]) (cs:=[(vI 0),(vI 1)]) U cx i_ U U U U (by simp [Value.cells]) U U fun BJ=>RD D0 6 U<|iR [50,53] kr (eJ ?_<|eJ ?_<|kI)
  rotate_left 1
  ·refine NO U U [50,54,55,56,57,58,59,60,61,62,63,64,65,66,67,68,69,70,71,72,73] fun T325 D3=>cZ (xs:=[.tmp 89,.tmp 90]) (cs:=[(vS (some ⟨BJ,0,none⟩) 2 2),(vS (some ⟨Ar,0,none⟩) 1 1)]) U o6 vk U U U U (by simp [Value.cells]) U U fun Eo=>RD D3 7 U<|N1 50<|NO U U [54,55,56,57,58,59,60,61,62,63,64,65,66,67,68,69,70,71,72,73] fun T327 D4=>rS (MV U)<|RD D4 7 U ?_
   exact jP hJ (BJ,Ar,Eo) trivial [0,2,1,3,4,5,6,7,8,9,10,11,12,13,14,15,16,17,18,19,20,21,22] U U U
  refine NO U U [53,54,55,56,57,58,59,60,61,62,63,64,65,66,67,68,69,70,71,72,73] fun T322 D1=>rS (MV U)<|RD D1 6 U<|N1 53<|NO U U [54,55,56,57,58,59,60,61,62,63,64,65,66,67,68,69,70,71,72,73] fun T323 D2=>cZ (xs:=[.tmp 89,.tmp 90]) (cs:=[(vS (some ⟨BJ,0,none⟩) 2 2),(vS (some ⟨Ar,0,none⟩) 1 1)]) U o6 vk U U U U (by simp [Value.cells]) U U fun En=>RD D2 7 U ?_
  exact jP hJ (BJ,Ar,En) trivial [0,2,1,3,4,5,6,7,8,9,10,11,12,13,14,15,16,17,18,19,20,21,22] U U U
 rintro ⟨b,c,s⟩-
 try dsimp only
 refine N1 54<|NO U U [55,56,57,58,59,60,61,62,63,64,65,66,67,68,69,70,71,72,73] fun T328 D5=>?_
 refine dY (es:=(([0,1]:List Int).map iC)) (C':=[_,_,(own (some ⟨b,0,none⟩) 2 3 1 (([0,1]:List Int).map iC)),_,_,_,_,_,_,_,_,_,_,_,_,_,_,_,_,_,_,_,_]) 2 U (mE bK _) U (by show _≤maxLen; exact Nat.le_trans (m:=10) (show (2:Nat)≤10 by decide) dc) U ?_
 refine dY (es:=(([2]:List Int).map iC)) (C':=[_,(own (some ⟨c,0,none⟩) 1 3 1 (([2]:List Int).map iC)),_,_,_,_,_,_,_,_,_,_,_,_,_,_,_,_,_,_,_,_,_]) 1 U (mE bK _) U (by show _≤maxLen; exact Nat.le_trans (m:=10) (show (1:Nat)≤10 by decide) dc) U ?_
 refine dY (es:=(List.zipWith j5 [([0,1]:List Int),([2]:List Int)] [((some ⟨b,0,none⟩),2),((some ⟨c,0,none⟩),1)])) (C':=[(own (some ⟨s,0,none⟩) 2 29 1 (List.zipWith j5 [([0,1]:List Int),([2]:List Int)] [((some ⟨b,0,none⟩),2),((some ⟨c,0,none⟩),1)])),_,_,_,_,_,_,_,_,_,_,_,_,_,_,_,_,_,_,_,_,_,_]) 0 U (oT IP) U (by show _≤maxLen; exact Nat.le_trans (m:=10) (show (2:Nat)≤10 by decide) dc) U ?_
 refine wq (C1:=[(own (some ⟨s,0,none⟩) 2 29 1 (List.zipWith j5 [([0,1]:List Int),([2]:List Int)] [((some ⟨b,0,none⟩),2),((some ⟨c,0,none⟩),1)])),(bq (aS nk [([0,1,2]:List Int)] [((some ⟨Z,0,none⟩),3)])),(own (some ⟨j,0,none⟩) 1 29 1 (List.zipWith j5 [([0,1,2]:List Int)] [((some ⟨Z,0,none⟩),3)])),(bY g 3 [(vI 2),(vI 3)]),(bY d 3 [(vI 1),(vI 2)]),(own M N 3 1 ((cw ab 0 2 (aa.mk 2590 2599)).map iC)),(own W X 29 1 (List.zipWith j5 (bD eU) S)),(bq (aS nk (bD eU) S)),(bY k 32 (br.cells (br.mk (bJ.mk (aZ.mk (aN.mk A ab.ah.aI.length G)) ab.ah.dJ (aN.mk B ab.ah.ai.length H) (aN.mk C ab.ah.ae.length Ff) ab.ah.bH ab.ah.cv ab.ah.bM) (aN.mk D ab.aJ.length J) (aN.mk E ab.bB.length K) ab.dW (aN.mk F ((dF ab.ar 0 2 (aa.mk 2590 2599)).length) L)))),(own A G 122 9 (ab.ah.aI.map an.cells)),(own B H 127 2 (List.zipWith au.cells ab.ah.ai P)),(bq (aS au.owns ab.ah.ai P)),(own C Ff 129 4 (ab.ah.ae.map bG.cells)),(own D J 3 1 (ab.aJ.map iC)),(own E K 3 1 (ab.bB.map iC)),(own F L 47 1 (List.zipWith cJ (dF ab.ar 0 2 (aa.mk 2590 2599)) R)),(bq (aS gP (dF ab.ar 0 2 (aa.mk 2590 2599)) R)),(own T Fe 29 1 (List.zipWith j5 (bD ab) O)),(bq (aS nk (bD ab) O)),(bY f 38 (aa.cells (eZ ab 0 0))),(rd dH 3 2 dp)]) (aS nk [([0,1]:List Int),([2]:List Int)] [((some ⟨b,0,none⟩),2),((some ⟨c,0,none⟩),1)]) [2,1,0,3,4,5,6,7,8,9,10,11,12,13,14,15,16,17,18,19,20,21,22] U U<|rS (CL (uH (bD eU) ([([0,1]:List Int),([2]:List Int)]) S W X ([((some ⟨b,0,none⟩),2),((some ⟨c,0,none⟩),1)]) (some ⟨s,0,none⟩) 2 (by first|exact BV.1|exact BK.1) dc (by first|exact BV.2|exact BK.2) dc (by exact Bg) (by rfl)) (aw (aj (n:=(bD eU).length) 7 U (k6 Bg))<|aw (dR 8 U E3)<|aw (aj (n:=([([0,1]:List Int),([2]:List Int)]).length) 1 U sm)<|aw (dR 0 U E3)<|aK) U)<|RD D5 6 U<|N1 55<|NO U U [56,57,58,59,60,61,62,63,64,65,66,67,68,69,70,71,72,73] fun T329 D6=>rS (PK U)<|RD D6 6 U<|N1 56<|NO U U [57,58,59,60,61,62,63,64,65,66,67,68,69,70,71,72,73] fun T330 D7=>rS (MV U)<|RD D7 6 U<|N1 57<|NO U U [58,59,60,61,62,63,64,65,66,67,68,69,70,71,72,73] fun T331 D8=>ck (t:=94) U (aR fun E4=>?_) (aP fun E4=>?_)
 ·exact absurd (H4) E4
 refine rS (MV U)<|RD D8 6 U<|N1 58<|NO U U [59,60,61,62,63,64,65,66,67,68,69,70,71,72,73] fun T332 D9=>rS (BI U jA)<|RD D9 6 U<|N1 59<|NO U U [60,61,62,63,64,65,66,67,68,69,70,71,72,73] fun T333 D_=>rS (PK U)<|RD D_ 6 U<|N1 60<|NO U U [61,62,63,64,65,66,67,68,69,70,71,72,73] fun T334 EA=>rS (MV U)<|RD EA 6 U ?_
 refine wy (V:=Nat) (fun As=>True) (fun As=>[(1,(vP f)),(2,(vI (gT ab 0 0))),(3,(vS T ((bD ab).length) Fe)),(4,(vI (bX ab))),(5,(vP k)),(6,(vI 0)),(7,(vS W ((bD eU).length) X)),(8,(vI (bX eU))),(9,(vS M ((cw ab 0 2 (aa.mk 2590 2599)).length) N)),(10,(vI (dK ab 0 2 (aa.mk 2590 2599)))),(11,(vT [(vA (aa.cells (eZ ab 0 0))),(vI (gT ab 0 0))])),(12,(vA (br.cells (br.mk (bJ.mk (aZ.mk (aN.mk BL ab.ah.aI.length BN)) ab.ah.dJ (aN.mk BM ab.ah.ai.length BO) (aN.mk AZ ab.ah.ae.length Az) ab.ah.bH ab.ah.cv ab.ah.bM) (aN.mk Ae ab.aJ.length A3) (aN.mk Ai ab.bB.length A7) ab.dW (aN.mk Am ab.ar.length BA))))),(13,(vT [(vA (aa.cells (eZ ab 0 0))),(vI (gT ab 0 0))])),(14,(vA (aa.cells (eZ ab 0 0)))),(15,(vI (gT ab 0 0))),(16,(vT [(vS T ((bD ab).length) Fe),(vI (bX ab))])),(17,(vA (br.cells (br.mk (bJ.mk (aZ.mk (aN.mk AT ab.ah.aI.length At)) ab.ah.dJ (aN.mk AW ab.ah.ai.length Aw) (aN.mk Aa ab.ah.ae.length A0) ab.ah.bH ab.ah.cv ab.ah.bM) (aN.mk Af ab.aJ.length A4) (aN.mk Aj ab.bB.length A8) ab.dW (aN.mk An ab.ar.length BB))))),(18,(vT [(vS T ((bD ab).length) Fe),(vI (bX ab))])),(19,(vS T ((bD ab).length) Fe)),(20,(vI (bX ab))),(21,(vT [(vA (br.cells (br.mk (bJ.mk (aZ.mk (aN.mk A ab.ah.aI.length G)) ab.ah.dJ (aN.mk B ab.ah.ai.length H) (aN.mk C ab.ah.ae.length Ff) ab.ah.bH ab.ah.cv ab.ah.bM) (aN.mk D ab.aJ.length J) (aN.mk E ab.bB.length K) ab.dW (aN.mk F ((dF ab.ar 0 2 (aa.mk 2590 2599)).length) L)))),(vI 0)])),(22,(vA (br.cells (br.mk (bJ.mk (aZ.mk (aN.mk AU ab.ah.aI.length Au)) ab.ah.dJ (aN.mk AX ab.ah.ai.length Ax) (aN.mk Ab ab.ah.ae.length A1) ab.ah.bH ab.ah.cv ab.ah.bM) (aN.mk Ag ab.aJ.length A5) (aN.mk Ak ab.bB.length A9) ab.dW (aN.mk Ao ab.ar.length BC))))),(23,(vA (aa.cells (aa.mk 2590 2599)))),(24,(vT [(vA (br.cells (br.mk (bJ.mk (aZ.mk (aN.mk A ab.ah.aI.length G)) ab.ah.dJ (aN.mk B ab.ah.ai.length H) (aN.mk C ab.ah.ae.length Ff) ab.ah.bH ab.ah.cv ab.ah.bM) (aN.mk D ab.aJ.length J) (aN.mk E ab.bB.length K) ab.dW (aN.mk F ((dF ab.ar 0 2 (aa.mk 2590 2599)).length) L)))),(vI 0)])),(25,(vA (br.cells (br.mk (bJ.mk (aZ.mk (aN.mk A ab.ah.aI.length G)) ab.ah.dJ (aN.mk B ab.ah.ai.length H) (aN.mk C ab.ah.ae.length Ff) ab.ah.bH ab.ah.cv ab.ah.bM) (aN.mk D ab.aJ.length J) (aN.mk E ab.bB.length K) ab.dW (aN.mk F ((dF ab.ar 0 2 (aa.mk 2590 2599)).length) L))))),(26,(vI 0)),(27,(vT [(vS W ((bD eU).length) X),(vI (bX eU))])),(28,(vA (br.cells (br.mk (bJ.mk (aZ.mk (aN.mk A ab.ah.aI.length G)) ab.ah.dJ (aN.mk B ab.ah.ai.length H) (aN.mk C ab.ah.ae.length Ff) ab.ah.bH ab.ah.cv ab.ah.bM) (aN.mk D ab.aJ.length J) (aN.mk E ab.bB.length K) ab.dW (aN.mk F ((dF ab.ar 0 2 (aa.mk 2590 2599)).length) L))))),(29,(vT [(vS W ((bD eU).length) X),(vI (bX eU))])),(30,(vS W ((bD eU).length) X)),(31,(vI (bX eU))),(32,(vT [(vS M ((cw ab 0 2 (aa.mk 2590 2599)).length) N),(vI (dK ab 0 2 (aa.mk 2590 2599)))])),(33,(vA (br.cells (br.mk (bJ.mk (aZ.mk (aN.mk AV ab.ah.aI.length Av)) ab.ah.dJ (aN.mk AY ab.ah.ai.length Ay) (aN.mk Ac ab.ah.ae.length A2) ab.ah.bH ab.ah.cv ab.ah.bM) (aN.mk Ah ab.aJ.length A6) (aN.mk Al ab.bB.length A_) ab.dW (aN.mk Ap ab.ar.length BE))))),(34,(vA (aa.cells (aa.mk 2590 2599)))),(35,(vT [(vS M ((cw ab 0 2 (aa.mk 2590 2599)).length) N),(vI (dK ab 0 2 (aa.mk 2590 2599)))])),(36,(vS M ((cw ab 0 2 (aa.mk 2590 2599)).length) N)),(37,(vI (dK ab 0 2 (aa.mk 2590 2599)))),(71,(vS (some ⟨Z,0,none⟩) 3 3)),(89,(vS (some ⟨b,0,none⟩) 2 2)),(90,(vS (some ⟨c,0,none⟩) 1 1)),(98,(vB true)),(99,(vS M ((cw ab 0 2 (aa.mk 2590 2599)).length) N)),(100,(vS (some ⟨As,0,none⟩) 1 1))]) (fun As=>[(bY As 3 [(vI 2)]),(bq (aS nk [([0,1]:List Int),([2]:List Int)] [((some ⟨b,0,none⟩),2),((some ⟨c,0,none⟩),1)])),(own (some ⟨s,0,none⟩) 2 29 1 (List.zipWith j5 [([0,1]:List Int),([2]:List Int)] [((some ⟨b,0,none⟩),2),((some ⟨c,0,none⟩),1)])),(bq (aS nk [([0,1,2]:List Int)] [((some ⟨Z,0,none⟩),3)])),(own (some ⟨j,0,none⟩) 1 29 1 (List.zipWith j5 [([0,1,2]:List Int)] [((some ⟨Z,0,none⟩),3)])),(bY g 3 [(vI 2),(vI 3)]),(bY d 3 [(vI 1),(vI 2)]),(own M N 3 1 ((cw ab 0 2 (aa.mk 2590 2599)).map iC)),(own W X 29 1 (List.zipWith j5 (bD eU) S)),(bq (aS nk (bD eU) S)),(bY k 32 (br.cells (br.mk (bJ.mk (aZ.mk (aN.mk A ab.ah.aI.length G)) ab.ah.dJ (aN.mk B ab.ah.ai.length H) (aN.mk C ab.ah.ae.length Ff) ab.ah.bH ab.ah.cv ab.ah.bM) (aN.mk D ab.aJ.length J) (aN.mk E ab.bB.length K) ab.dW (aN.mk F ((dF ab.ar 0 2 (aa.mk 2590 2599)).length) L)))),(own A G 122 9 (ab.ah.aI.map an.cells)),(own B H 127 2 (List.zipWith au.cells ab.ah.ai P)),(bq (aS au.owns ab.ah.ai P)),(own C Ff 129 4 (ab.ah.ae.map bG.cells)),(own D J 3 1 (ab.aJ.map iC)),(own E K 3 1 (ab.bB.map iC)),(own F L 47 1 (List.zipWith cJ (dF ab.ar 0 2 (aa.mk 2590 2599)) R)),(bq (aS gP (dF ab.ar 0 2 (aa.mk 2590 2599)) R)),(own T Fe 29 1 (List.zipWith j5 (bD ab) O)),(bq (aS nk (bD ab) O)),(bY f 38 (aa.cells (eZ ab 0 0))),(rd dH 3 2 dp).ro]) 11 [63,64,65,66,67,68,69,70,71,72,73] (fun hJ=>?_) ?_
 ·refine iR [61,62] kr (eJ ?_<|eJ ?_<|kI)
  rotate_left 1
  ·refine NO U U [61,63,64,65,66,67,68,69,70,71,72,73] fun T339 ED=>ck (t:=98) U (aR fun BT=>?_) (aP fun BT=>?_)
   ·exact absurd (CF) BT
   refine cZ (xs:=[.const (vI 2)]) (cs:=[(vI 2)]) U cx i_ U U U U (by simp [Value.cells]) U U fun Eq=>RD ED 7 U<|N1 61<|NO U U [63,64,65,66,67,68,69,70,71,72,73] fun T341 EE=>rS (MV U)<|RD EE 7 U ?_
   exact jP hJ Eq trivial [0,1,2,3,4,5,6,7,8,9,10,11,12,13,14,15,16,17,18,19,20,21,22] U U U
  refine NO U U [62,63,64,65,66,67,68,69,70,71,72,73] fun T336 EB=>ck (t:=98) U (aR fun BT=>?_) (aP fun BT=>?_)
  ·exact absurd (CF) BT
  refine rS (MV U)<|RD EB 6 U<|N1 62<|NO U U [63,64,65,66,67,68,69,70,71,72,73] fun T337 EC=>cZ (xs:=[.const (vI 2)]) (cs:=[(vI 2)]) U cx i_ U U U U (by simp [Value.cells]) U U fun Ep=>RD EC 7 U ?_
  exact jP hJ Ep trivial [0,1,2,3,4,5,6,7,8,9,10,11,12,13,14,15,16,17,18,19,20,21,22] U U U
 rintro As-
 try dsimp only
 refine N1 63<|NO U U [64,65,66,67,68,69,70,71,72,73] fun T342 EF=>rS (CL (l0 (cw ab 0 2 (aa.mk 2590 2599)) M N ([2]) (some ⟨As,0,none⟩) 1 om dc) (aw (aj (n:=(cw ab 0 2 (aa.mk 2590 2599)).length) 7 U sm)<|aw (a_ 0 U U (by simp [bK]) U)<|aK) U)<|RD EF 7 U<|N1 64<|NO U U [65,66,67,68,69,70,71,72,73] fun T343 EG=>rS (PK U)<|RD EG 7 U<|N1 65<|NO U U [66,67,68,69,70,71,72,73] fun T344 EH=>rS (MV U)<|RD EH 7 U<|N1 66<|NO U U [67,68,69,70,71,72,73] fun T345 EI=>ck (t:=103) U (aR fun Bd=>?_) (aP fun Bd=>?_)
 ·exact absurd (MG) Bd
 refine cZ (xs:=[.const (vI 0),.const (vI 2),.const (vI 1)]) (cs:=[(vI 0),(vI 2),(vI 1)]) U cx i_ U U U U (by simp [Value.cells]) U U fun Er=>RD EI 8 U<|N1 67<|NO U U [68,69,70,71,72,73] fun T347 EJ=>rS (CL (yU 1 ([0,2,1]) (some ⟨Er,0,none⟩) 3 dc) (fG 23 U U<|aw (a_ 0 U U (by simp [bK]) U)<|aK) U)<|RD EJ 8 U<|N1 68<|NO U U [69,70,71,72,73] fun T348 EK=>rS (PK U)<|RD EK 8 U<|N1 69<|NO U U [70,71,72,73] fun T349 EL=>rS (MV U)<|RD EL 8 U<|N1 70<|NO U U [71,72,73] fun T350 EM=>ck (t:=107) U (aR fun Be=>?_) (aP fun Be=>?_)
 ·exact absurd (Jp) Be
 refine cZ (xs:=[.const (vI 0),.const (vI 1),.const (vI 2)]) (cs:=[(vI 0),(vI 1),(vI 2)]) U cx i_ U U U U (by simp [Value.cells]) U U fun Es=>RD EM 9 U<|KY [109,110,0] kr kr U _ U U (aL [9,10,11,12,13,14,15,16,17,18,19,20,21,22,23,24])<|dS (CL (yU 2 ([0,1,2]) (some ⟨Es,0,none⟩) 3 dc) (fG 24 U U<|aw (a_ 0 U U (by simp [bK]) U)<|aK) U)<|dP 2 [] I ?_
 refine cL<|RK Cq<|aq<|Q1 hQ U U U ?_
 exact cB (dw Lt)
end
section
open Go.RowKit
theorem ir (n lo hi:Int):
 eg Tryz.prog 132 [(vI n),(vI lo),(vI hi)] [] (vB (decide (lo≤n∧n≤hi))):=by
 refine bI kr Tryz.func132 U U fun D Q hQ hN=>?_
 try dsimp only
 refine WS fun _ B=>bo 1 U<|RK B<|WS fun _ A=>rP 4 [] I ?_
 refine ct (t:=10) U (aP fun C=>?_) (aR fun C=>?_)
 ·refine rP 5 [] I ?_
  refine RK A<|aq<|Q1 hQ U U U ?_
  exact cB (decide_eq_decide.2 om)
 refine rP 5 [] I ?_
 refine RK A<|aq<|Q1 hQ U U U ?_
 exact cB (cq om).symm
theorem Cq (ts:List an) (tsA:OA) (tsC:Nat) (hst: ∀ x∈ts,bP x) (hlen:ts.length≤12):
 lE Tryz.prog 161 [(vA (aZ.cells (aZ.mk (aN.mk tsA ts.length tsC))))] [(rd tsA ts.length 9 (ts.map an.cells))] (fun (x:(OA)×Nat)=>(vS x.1 ((gZ ts (ts.length+1)).length) x.2)) (fun (x:(OA)×Nat)=>True) (fun (x:(OA)×Nat)=>[(own x.1 x.2 38 2 ((gZ ts (ts.length+1)).map aa.cells))]):=by
 refine dv kr Tryz.func161 U U fun V Q hQ hN=>?_
 try dsimp only
 refine WS fun _ J=>fR U fun AA=>bo 1 U<|RK J<|WS fun _ K=>bo 1 U<|RK K<|al fun _ L=>WS fun _ M=>rP 1 [] I ?_
 refine RK M<|ay<|fT 38 2 ?_
 have A:(0≤ts.length+1):=by exact Nat.zero_le _
 refine bS (ι:={z:Nat×(OA)×Nat // (z.1≤ts.length+1)}) [1] [1,2] U U (fun z=>[(3,(vS z.1.2.1 ((gZ ts z.1.1).length) z.1.2.2)),(4,(vI (z.1.1:Int)))]) (fun z=>[(own z.1.2.1 z.1.2.2 38 2 ((gZ ts z.1.1).map aa.cells))]) (fun _=>rfl) (fun _=>rfl) (fun z=>ts.length+1-z.1.1) ⟨(0,none,0),A⟩ (aV U) (aL [1,2,0]) ?_
 clear A
 rintro ⟨⟨i,a,c⟩,B⟩ J6 AB
 try dsimp only at B
 try dsimp only
 refine al fun _ N=>WS fun _ O=>rP 5 [] (mc 0 U I) ?_
 refine RK O<|bV U (aR fun T=>?_) (aP fun T=>?_)
 ·refine bE<|ag<|ag<|aA<|KK L<|WS fun _ E=>?_
  obtain rfl:i=ts.length+1:=by omega
  refine rP 2 [] I ?_
  refine RK E<|aq<|LX hQ (a,c) [2] [] I U U U U ?_
  trivial
 refine WK N<|al fun _ C=>ay<|WS fun _ D=>fD 2 [] (mc 0 U I) U<|rS (CL (zR ts tsA tsC 0 (i:Int) hst hlen om) (bp [1]) U)<|bo 3 U<|AL U dg fun P=>AL U dg fun R=>tw U cu U<|fQ U cu U<|RK D<|ao<|rP 2 [] (mc 1 U I) ?_
 refine cZ (xs:=[.tmp 21]) (cs:=(aa.cells (eE ts (0:Int).toNat ((i:Int)-0).toNat))) U jG dg U U U U (by simp [Value.cells,aa.aT]) U U fun S=>?_
 refine df (es2:=(List.map aa.cells (gZ ts (i+1)))) (m':=(gZ ts (i+1)).length) 5 U U U EE U U sm (a_ (es:=List.map aa.cells [(eE ts (0:Int).toNat ((i:Int)-0).toNat)]) 0 U U (by simp [aa.aT]) U) (gR _) (by simp only [ob]; omega) (by simp only [maxLen,ob]; omega) (by rw [CG]; simp) sm U fun G H=>?_
 try dsimp only
 refine bo 1 U<|aG<|aH<|KK C<|ao<|rP 3 [] I ?_
 refine aG ?_
 have F:(vI (((i+1):Nat):Int))=(vI ((i:Int)+1)):=by exact cI om
 refine aW (AB ⟨((i+1),G,H),(by first|omega|(simp only []; omega))⟩ _ _ _ U os (dB.cons U<|dB.cons U<|bx U F<|dB.nil _) (aL [3,4,5]))
theorem RG (ts:List an) (tsA:OA) (tsC:Nat) (s:cM) (hlen:ts.length≤1000000) (hside: ∀ x∈ts,0≤x.iN∧x.iN≤255):
 eg Tryz.prog 152 [(vA (aZ.cells (aZ.mk (aN.mk tsA ts.length tsC)))),(vA (cM.cells s))] [(rd tsA ts.length 9 (ts.map an.cells))] (vT [(vA (aa.cells (Qf ts s))),(vI (Fq ts s))]):=by
 refine bI kr Tryz.func152 U U fun r Q hQ hN=>?_
 try dsimp only
 refine WS fun _ R=>fR U fun i=>fR U fun k=>AL U dg fun l=>bo 1 U<|RK R<|al fun _ S=>WS fun _ T=>fD 1 [] (mc 2 U I) U<|rS (CL (vD ts tsA tsC hlen) (bp [3]) U)<|rP 1 [] I ?_
 refine RK T<|cO U (fun AB=>?_) (fun AB=>?_)
 ·rw [Bool.not_eq_true'] at AB
  refine WS fun _ AA=>rS (SX (bj (xs:=[]) (cs:=(aa.cells (aa.mk 0 0))) U U (bk gj U)) U U)<|fQ U cu U<|rP 1 [] I ?_
  refine RK AA<|aq<|lg hQ [0] (mc 0 U I) U ?_
  (have e:=KM (s:=s) (by simpa using AB); rw [e.1,e.2]<;>rfl)
 rw [Bool.not_eq_false'] at AB
 refine WK S<|al fun _ V=>WS fun _ W=>?_
 have M:=jJ AB
 have Z:=kx AB
 refine fD 2 [0,1] (mc 2 U (mc 1 U I)) U<|rS (CL (qE ts tsA tsC s asm asm) (bp [3]) U)<|rP 1 [] I ?_
 refine RK W<|cO U (bh fun D=>?_) (bg fun D=>?_)
 ·refine WS fun _ O=>rS (SX (bj (xs:=[]) (cs:=(aa.cells (aa.mk 0 0))) U U (bk gj U)) U U)<|fQ U cu U<|rP 1 [] I ?_
  refine RK O<|aq<|lg hQ [0] (mc 0 U I) U ?_
  (have e:=Js AB D; rw [e.1,e.2]<;>rfl)
 refine WK V<|al fun _ H=>pw cy [0,2,3] [1,4,5,6,7] [false,false,false] [] [(bY l 38 (aa.cells (aa.mk 0 0))),(bY k 119 (cM.cells s)),(bY i 24 (aZ.cells (aZ.mk (aN.mk tsA ts.length tsC)))),(rd tsA ts.length 9 (ts.map an.cells)).ro] [] kr (aL [0,1,2,3]) (aL []) ?_
 have q:=D.1
 have N:=qx M D
 have p:(gZ ts (ts.length+1)).length=ts.length+1:=ob
 refine eS U (LW 2 U cd U U)<|eS U (FA 0 U fB U)<|eS U (L1 (vI s.aY) 1 U cd U U)<|e7 U<|iR [1,6] kr (eJ ?_<|eJ ?_<|kI)
 rotate_left 1
 ·refine NO U U [1,4,5,7] fun T12 J=>AL U dg fun f=>RD J 1 U<|N1 1<|NO U U [4,5,7] fun T14 P=>cX (Cq ts tsA tsC asm asm) (bp [4]) U fun Y b=>?_
  obtain ⟨d,o⟩:=Y
  try dsimp only
  refine RD P 2 U<|N1 4<|NO U U [5,7] fun T19 E=>?_
  obtain ⟨z,hz⟩:=aM (gZ ts (ts.length+1)) ((s.aY).toNat) om
  have A:=bL aa.cells hz
  refine rS (IA ((s.aY).toNat) U (aj (n:=(gZ ts (ts.length+1)).length) 0 U sm) jG dc om om)<|RD E 2 U<|N1 5<|NO U U [7] fun T20 F=>rS (ot ((s.aY).toNat) 0 (aa.cells z) U cd (aj (n:=(gZ ts (ts.length+1)).length) 0 U sm) A U dc U U)<|RD F 2 U<|N1 7<|NO U U [] fun T21 C=>tw U cu U<|RD C 2 U<|pG<|KK H<|WS fun _ B=>rP 1 [] I ?_
  have A:=ph hz
  have G:=lS M 0 s.aY.toNat
  unfold lj at N
  rw [← A] at G
  refine fD 11 [0,1,0,1] (mc 1 U (mc 3 U I)) U<|rS (SX (bj (xs:=[(0,.tmp 27),(1,.tmp 33)]) (cs:=(aa.cells (aa.mk (z.Lo+s.mq.Lo) (z.Hi+s.mq.Hi)))) U U (bk gj U)) U U)<|Gl U cu U<|rP 1 [] I ?_
  refine RK B<|aq<|lg hQ [0] (mc 2 U I) U ?_
  (have e:=vY AB D; subst A; rw [e.1,e.2]<;>rfl)
 refine NO U U [4,5,6,7] fun T12 J=>cX (Cq ts tsA tsC asm asm) (bp [3]) U fun X a=>?_
 obtain ⟨c,m⟩:=X
 try dsimp only
 refine RD J 1 U<|iR [4,6] kr (eJ ?_<|eJ ?_<|kI)
 rotate_left 1
 ·refine NO U U [4,5,7] fun T17 K=>AL U dg fun g=>RD K 2 U<|N1 4<|NO U U [5,7] fun T19 E=>?_
  obtain ⟨z,hz⟩:=aM (gZ ts (ts.length+1)) ((s.aY).toNat) om
  have A:=bL aa.cells hz
  refine rS (IA ((s.aY).toNat) U (aj (n:=(gZ ts (ts.length+1)).length) 1 U sm) jG dc om om)<|RD E 2 U<|N1 5<|NO U U [7] fun T20 F=>rS (ot ((s.aY).toNat) 0 (aa.cells z) U cd (aj (n:=(gZ ts (ts.length+1)).length) 1 U sm) A U dc U U)<|RD F 2 U<|N1 7<|NO U U [] fun T21 C=>fQ U cu U<|RD C 2 U<|pG<|KK H<|WS fun _ B=>rP 1 [] I ?_
  have A:=ph hz
  have G:=lS M 0 s.aY.toNat
  unfold lj at N
  rw [← A] at G
  refine fD 11 [0,1,0,1] (mc 0 U (mc 3 U I)) U<|rS (SX (bj (xs:=[(0,.tmp 27),(1,.tmp 33)]) (cs:=(aa.cells (aa.mk (z.Lo+s.mq.Lo) (z.Hi+s.mq.Hi)))) U U (bk gj U)) U U)<|Gl U cu U<|rP 1 [] I ?_
  refine RK B<|aq<|lg hQ [0] (mc 2 U I) U ?_
  (have e:=vY AB D; subst A; rw [e.1,e.2]<;>rfl)
 refine NO U U [5,6,7] fun T17 K=>?_
 obtain ⟨z,hz⟩:=aM (gZ ts (ts.length+1)) ((s.aY).toNat) om
 have A:=bL aa.cells hz
 refine rS (IA ((s.aY).toNat) U (aj (n:=(gZ ts (ts.length+1)).length) 0 U sm) jG dc om om)<|RD K 1 U<|iR [5,6] kr (eJ ?_<|eJ ?_<|kI)
 rotate_left 1
 ·refine NO U U [5,7] fun T18 L=>AL U dg fun h=>RD L 2 U<|N1 5<|NO U U [7] fun T20 F=>rS (ot ((s.aY).toNat) 0 (aa.cells z) U cd (aj (n:=(gZ ts (ts.length+1)).length) 1 U sm) A U dc U U)<|RD F 2 U<|N1 7<|NO U U [] fun T21 C=>fQ U cu U<|RD C 2 U<|pG<|KK H<|WS fun _ B=>rP 1 [] I ?_
  have A:=ph hz
  have G:=lS M 0 s.aY.toNat
  unfold lj at N
  rw [← A] at G
  refine fD 11 [0,1,0,1] (mc 0 U (mc 3 U I)) U<|rS (SX (bj (xs:=[(0,.tmp 27),(1,.tmp 33)]) (cs:=(aa.cells (aa.mk (z.Lo+s.mq.Lo) (z.Hi+s.mq.Hi)))) U U (bk gj U)) U U)<|Gl U cu U<|rP 1 [] I ?_
  refine RK B<|aq<|lg hQ [0] (mc 2 U I) U ?_
  (have e:=vY AB D; subst A; rw [e.1,e.2]<;>rfl)
 refine NO U U [6,7] fun T18 L=>rS (ot ((s.aY).toNat) 0 (aa.cells z) U cd (aj (n:=(gZ ts (ts.length+1)).length) 0 U sm) A U dc U U)<|RD L 1 U<|N1 6<|NO U U [7] fun T19 E=>AL U dg fun j=>RD E 2 U<|N1 7<|NO U U [] fun T21 C=>fQ U cu U<|RD C 2 U<|pG<|KK H<|WS fun _ B=>rP 1 [] I ?_
 have A:=ph hz
 have G:=lS M 0 s.aY.toNat
 unfold lj at N
 rw [← A] at G
 refine fD 11 [0,1,0,1] (mc 0 U (mc 3 U I)) U<|rS (SX (bj (xs:=[(0,.tmp 27),(1,.tmp 33)]) (cs:=(aa.cells (aa.mk (z.Lo+s.mq.Lo) (z.Hi+s.mq.Hi)))) U U (bk gj U)) U U)<|Gl U cu U<|rP 1 [] I ?_
 refine RK B<|aq<|lg hQ [0] (mc 2 U I) U ?_
 (have e:=vY AB D; subst A; rw [e.1,e.2]<;>rfl)
theorem GR (ts:List an) (tsA:OA) (tsC:Nat) (p:cM) (q:cM) (hlen:ts.length≤1000000) (hside: ∀ x∈ts,0≤x.iN∧x.iN≤255) (hord: ¬ q.aY<p.aY):
 eg Tryz.prog 153 [(vA (aZ.cells (aZ.mk (aN.mk tsA ts.length tsC)))),(vA (cM.cells p)),(vA (cM.cells q))] [(rd tsA ts.length 9 (ts.map an.cells))] (vT [(vA (aa.cells (kE ts p q))),(vI (lI ts p q))]):=by
 refine bI kr Tryz.func153 U U fun k Q hQ hN=>?_
 try dsimp only
 refine WS fun _ N=>fR U fun f=>fR U fun g=>fR U fun i=>AL U dg fun j=>bo 1 U<|RK N<|al fun _ O=>WS fun _ P=>fD 1 [] (mc 3 U I) U<|rS (CL (vD ts tsA tsC hlen) (bp [4]) U)<|rP 1 [] I ?_
 refine RK P<|cO U (fun A=>?_) (fun A=>?_)
 ·rw [Bool.not_eq_true'] at A
  refine WS fun _ R=>rS (SX (bj (xs:=[]) (cs:=(aa.cells (aa.mk 0 0))) U U (bk gj U)) U U)<|fQ U cu U<|rP 1 [] I ?_
  refine RK R<|aq<|lg hQ [0] (mc 0 U I) U ?_
  (have e:=tQ (a:=p) (b:=q) (by simpa using A); rw [e.1,e.2]<;>rfl)
 rw [Bool.not_eq_false'] at A
 refine WK O<|al fun _ S=>WS fun _ E=>?_
 have D:=jJ A
 have M:=kx A
 refine fD 2 [0,1] (mc 3 U (mc 2 U I)) U<|rS (CL (qE ts tsA tsC p asm asm) (bp [4]) U)<|rP 2 [] I ?_
 refine ct (t:=20) U (bh fun B=>?_) (bg fun B=>?_)
 ·refine bo 5 U<|RK E<|aQ U<|WS fun _ G=>rS (SX (bj (xs:=[]) (cs:=(aa.cells (aa.mk 0 0))) U U (bk gj U)) U U)<|fQ U cu U<|rP 1 [] I ?_
  refine RK G<|aq<|lg hQ [0] (mc 0 U I) U ?_
  (have e:=oR (a:=p) (b:=q) A (fun h=>by first|exact B h.1|exact C h.2); rw [e.1,e.2]<;>rfl)
 refine fD 2 [0,1] (mc 3 U (mc 1 U I)) U<|rS (CL (qE ts tsA tsC q asm asm) (bp [4]) U)<|rP 2 [] I ?_
 refine RK E<|cO U (bh fun C=>?_) (bg fun C=>?_)
 ·refine WS fun _ H=>rS (SX (bj (xs:=[]) (cs:=(aa.cells (aa.mk 0 0))) U U (bk gj U)) U U)<|fQ U cu U<|rP 1 [] I ?_
  refine RK H<|aq<|lg hQ [0] (mc 0 U I) U ?_
  (have e:=oR (a:=p) (b:=q) A (fun h=>by first|exact B h.1|exact C h.2); rw [e.1,e.2]<;>rfl)
 refine WK S<|al fun _ AB=>WS fun _ J=>?_
 have AA:fq ts p∧fq ts q:=⟨B,C⟩
 have T:=qx D B
 have V:=qx D C
 have c:=B.1
 have d:=C.1
 have Y:=wL D M C B
 unfold lj at T V
 refine rP 5 [0,1] (mc 1 U (mc 2 U I)) ?_
 refine RK J<|cO U (aP fun F=>?_) (aR fun F=>?_)
 ·exfalso; omega
 refine WK AB<|WS fun _ K=>rP 2 [] (mc 3 U I) ?_
 have Z:=lS D p.aY.toNat (q.aY-p.aY).toNat
 refine fD 3 [0,1] (mc 2 U (mc 1 U I)) U<|rS (CL (zR ts tsA tsC p.aY q.aY asm asm om) (bp [4]) U)<|bo 3 U<|AL U dg fun W=>AL U dg fun X=>tw U cu U<|fQ U cu U<|RK K<|WS fun _ L=>fD 20 [0,1,2,0,1,2] (mc 1 U (mc 3 U (mc 4 U I))) U<|rS (SX (bj (xs:=[(0,.tmp 64),(1,.tmp 74)]) (cs:=(aa.cells (aa.mk ((((eE ts p.aY.toNat (q.aY-p.aY).toNat).Lo)+q.mq.Lo)-p.mq.Hi) ((((eE ts p.aY.toNat (q.aY-p.aY).toNat).Hi)+q.mq.Hi)-p.mq.Lo)))) U U (bk gj U)) U U)<|Gl U cu U<|rP 1 [] I ?_
 refine RK L<|aq<|lg hQ [0] (mc 2 U I) U ?_
 (have e:=kT A AA; rw [e.1,e.2,pX F]<;>rfl)
theorem JM (ts:List an) (tsA:OA) (tsC:Nat) (p:cM) (q:cM) (hlen:ts.length≤1000000) (hside: ∀ x∈ts,0≤x.iN∧x.iN≤255):
 eg Tryz.prog 153 [(vA (aZ.cells (aZ.mk (aN.mk tsA ts.length tsC)))),(vA (cM.cells p)),(vA (cM.cells q))] [(rd tsA ts.length 9 (ts.map an.cells))] (vT [(vA (aa.cells (kE ts p q))),(vI (lI ts p q))]):=by
 refine bI kr Tryz.func153 U U fun u Q hQ hN=>?_
 try dsimp only
 refine WS fun _ S=>fR U fun n=>fR U fun o=>fR U fun r=>AL U dg fun s=>bo 1 U<|RK S<|al fun _ T=>WS fun _ AA=>fD 1 [] (mc 3 U I) U<|rS (CL (vD ts tsA tsC hlen) (bp [4]) U)<|rP 1 [] I ?_
 refine RK AA<|cO U (fun A=>?_) (fun A=>?_)
 ·rw [Bool.not_eq_true'] at A
  refine WS fun _ V=>rS (SX (bj (xs:=[]) (cs:=(aa.cells (aa.mk 0 0))) U U (bk gj U)) U U)<|fQ U cu U<|rP 1 [] I ?_
  refine RK V<|aq<|lg hQ [0] (mc 0 U I) U ?_
  (have e:=tQ (a:=p) (b:=q) (by simpa using A); rw [e.1,e.2]<;>rfl)
 rw [Bool.not_eq_false'] at A
 refine WK T<|al fun _ W=>WS fun _ E=>?_
 have D:=jJ A
 have P:=kx A
 refine fD 2 [0,1] (mc 3 U (mc 2 U I)) U<|rS (CL (qE ts tsA tsC p asm asm) (bp [4]) U)<|rP 2 [] I ?_
 refine ct (t:=20) U (bh fun B=>?_) (bg fun B=>?_)
 ·refine bo 5 U<|RK E<|aQ U<|WS fun _ G=>rS (SX (bj (xs:=[]) (cs:=(aa.cells (aa.mk 0 0))) U U (bk gj U)) U U)<|fQ U cu U<|rP 1 [] I ?_
  refine RK G<|aq<|lg hQ [0] (mc 0 U I) U ?_
  (have e:=oR (a:=p) (b:=q) A (fun h=>by first|exact B h.1|exact C h.2); rw [e.1,e.2]<;>rfl)
 refine fD 2 [0,1] (mc 3 U (mc 1 U I)) U<|rS (CL (qE ts tsA tsC q asm asm) (bp [4]) U)<|rP 2 [] I ?_
 refine RK E<|cO U (bh fun C=>?_) (bg fun C=>?_)
 ·refine WS fun _ H=>rS (SX (bj (xs:=[]) (cs:=(aa.cells (aa.mk 0 0))) U U (bk gj U)) U U)<|fQ U cu U<|rP 1 [] I ?_
  refine RK H<|aq<|lg hQ [0] (mc 0 U I) U ?_
  (have e:=oR (a:=p) (b:=q) A (fun h=>by first|exact B h.1|exact C h.2); rw [e.1,e.2]<;>rfl)
 refine WK W<|al fun _ AB=>WS fun _ J=>?_
 have R:fq ts p∧fq ts q:=⟨B,C⟩
 have X:=qx D B
 have Y:=qx D C
 have l:=B.1
 have m:=C.1
 have j:=wL D P C B
 unfold lj at X Y
 refine rP 5 [0,1] (mc 1 U (mc 2 U I)) ?_
 refine RK J<|cO U (aP fun F=>?_) (aR fun F=>?_)
 ·refine WS fun _ K=>fD 3 [0,1,2] (mc 3 U (mc 1 U (mc 2 U I))) U<|rS (CL (GR ts tsA tsC q p hlen hside om) (bp [4]) U)<|bo 3 U<|AL U dg fun d=>fQ U cu U<|bo 1 U<|RK K<|WS fun _ L=>rP 2 [] (mc 0 U I) ?_
  have O:kE ts q p=jK ts q p:=(kT A ⟨C,B⟩).2
  have Z: -400000≤(kE ts q p).Lo∧(kE ts q p).Hi≤400000:=by rw [O]; omega
  have c:(kE ts q p).Lo≤(kE ts q p).Hi:=by rw [O]; omega
  refine rS (NG U ⟨om,om⟩)<|fD 2 [] (mc 0 U I) U<|rS (NG U ⟨om,om⟩)<|rS (SX (bj (xs:=[(0,.tmp 41),(1,.tmp 44)]) (cs:=(aa.cells (aa.mk (-((kE ts q p).Hi)) (-((kE ts q p).Lo))))) U U (bk gj U)) U U)<|tw U cu U<|rP 1 [] I ?_
  refine RK L<|aq<|lg hQ [0] (mc 1 U I) U ?_
  (have e:=kT A R; have i:=kT A ⟨C,B⟩; rw [e.1,e.2,i.2,Db F]<;>rfl)
 refine WK AB<|WS fun _ M=>rP 2 [] (mc 3 U I) ?_
 have k:=lS D p.aY.toNat (q.aY-p.aY).toNat
 refine fD 3 [0,1] (mc 2 U (mc 1 U I)) U<|rS (CL (zR ts tsA tsC p.aY q.aY asm asm om) (bp [4]) U)<|bo 3 U<|AL U dg fun f=>AL U dg fun g=>tw U cu U<|fQ U cu U<|RK M<|WS fun _ N=>fD 20 [0,1,2,0,1,2] (mc 1 U (mc 3 U (mc 4 U I))) U<|rS (SX (bj (xs:=[(0,.tmp 64),(1,.tmp 74)]) (cs:=(aa.cells (aa.mk ((((eE ts p.aY.toNat (q.aY-p.aY).toNat).Lo)+q.mq.Lo)-p.mq.Hi) ((((eE ts p.aY.toNat (q.aY-p.aY).toNat).Hi)+q.mq.Hi)-p.mq.Lo)))) U U (bk gj U)) U U)<|Gl U cu U<|rP 1 [] I ?_
 refine RK N<|aq<|lg hQ [0] (mc 2 U I) U ?_
 (have e:=kT A R; rw [e.1,e.2,pX F]<;>rfl)
end
section
open Go.RowKit
theorem Jh (l:bf) (kA:OA) (kC:Nat) (az:List RA) (cA:OA) (cC:Nat) (bA:OA) (bC:Nat) (hraw:s9 l az):
 eg Tryz.prog 48 [(vA (bJ.cells (lh l kA kC cA cC bA bC)))] [(rd kA l.aI.length 9 (l.aI.map an.cells)),(rd cA l.ai.length 2 (List.zipWith au.cells l.ai az)),(e9 (aS au.gW l.ai az)),(rd bA l.ae.length 4 (l.ae.map bG.cells))] (vB (decide (my l))):=by
 have e:=hraw.sf
 have d:=hraw.sh
 have a:=hraw.oq
 have b:=hraw.se
 refine bI kr Tryz.func48 U U fun g Q hQ hN=>?_
 try dsimp only
 refine WS fun _ O=>fR U fun f=>bo 1 U<|RK O<|al fun _ P=>WS fun _ D=>bo 1 U<|rS (LP (aZ.cells (aZ.mk (aN.mk kA l.aI.length kC))) 0 U cd U U U)<|rS (CL (Mm l.aI kA kC) (bp [1]) U)<|rP 1 [] I ?_
 refine ct (t:=7) U (aP fun Z=>?_) (aR fun Z=>?_)
 ·refine bo 11 U<|RK D<|aQ U<|WS fun _ R=>rP 1 [] I ?_
  refine RK R<|aq<|Q1 hQ U U U ?_
  exact cB (dw (.inl om)).symm
 refine rP 6 [] (mc 0 U I) ?_
 refine ct (t:=13) U (aP fun C=>?_) (aR fun C=>?_)
 ·refine bo 5 U<|RK D<|aQ U<|WS fun _ S=>rP 1 [] I ?_
  refine RK S<|aq<|Q1 hQ U U U ?_
  exact cB (dw (.inl om)).symm
 refine rP 5 [] (mc 0 U I) ?_
 refine RK D<|cO U (aP fun N=>?_) (aR fun N=>?_)
 ·refine WS fun _ T=>rP 1 [] I ?_
  refine RK T<|aq<|Q1 hQ U U U ?_
  exact cB (dw (.inl om)).symm
 refine WK P<|al fun _ AA=>WS fun _ V=>rP 1 [] I ?_
 refine RK V<|ay ?_
 have A:(0≤l.ai.length)∧(zJ l 0):=by exact ⟨Nat.zero_le _,fun j c hj=>absurd hj (Nat.not_lt_zero _)⟩
 refine bS (ι:={z:Nat // (z≤l.ai.length)∧(zJ l z)}) [1] [0,1,2,3,4] U U (fun z=>[(3,(vI (z.1:Int)))]) (fun z=>[]) (fun _=>rfl) (fun _=>rfl) (fun z=>l.ai.length-z.1) ⟨0,A⟩ (aV U) (aL [0,1,2,3,4]) ?_
 clear A
 rintro ⟨i,⟨W,B⟩⟩ J10 F
 try dsimp only
 refine al fun _ G=>WS fun _ H=>rP 5 [] (mc 0 U I) ?_
 refine RK H<|bV U (aR fun C=>?_) (aP fun C=>?_)
 ·refine bE<|ag<|ag<|aA<|KK AA<|WS fun _ L=>rP 1 [] I ?_
  refine RK L<|aq<|Q1 hQ U U U ?_
  exact cB (cq (II om om B)).symm
 refine WK G<|al fun _ AB=>ay<|WS fun _ J=>rP 3 [] (mc 0 U I) ?_
 obtain ⟨x,hx⟩:=aM l.ai i om
 obtain ⟨xa,X⟩:=aM az i om
 have Y:(List.zipWith au.cells l.ai az)[i]? =some (au.cells x xa):=dT hx X
 refine rS (IA i U (aD 2 U) Ak dc om om)<|rS (nH ((i*2)+1) U (aD 2 U) (Nat.mul_pos om dc) fB U)<|rS (fY i 1 (vS xa.1 x.bw.length xa.2) U cd (aD 2 U) Y U dc U)<|rP 2 [] I ?_
 refine RK J<|cO U (aP fun E=>?_) (aR fun E=>?_)
 ·refine WS fun _ K=>rP 1 [] I ?_
  refine RK K<|aq<|Q1 hQ U U U ?_
  exact cB (dw (IN hx E)).symm
 refine cp<|aH<|KK AB<|ao<|rP 3 [] I ?_
 refine aG ?_
 have M:(vI (((i+1):Nat):Int))=(vI ((i:Int)+1)):=by exact cI om
 refine aW (F ⟨(i+1),⟨om,lL B hx om⟩⟩ _ _ _ U os (dB.cons U<|bx U M<|dB.nil _) (aL [0,1,2,3,4]))
theorem w6 (d m:Int) (hd:0≤d∧d≤1000) (hm:0≤m∧m≤90000000):
 eg Tryz.prog 151 [(vI d),(vI m)] [] (vI (oZ (d*m) 1000000)):=by
 have J:=PA (a:=d) (b:=m) (A:=1000) (B:=90000000) hd.1 hd.2 hm.1 hm.2
 refine bI kr Tryz.func151 U U fun K Q hQ hN=>?_
 try dsimp only
 refine WS fun _ C=>bo 1 U<|RK C<|WS fun _ D=>bo 2 U<|rS (BI U (Fi ⟨om,om⟩))<|bo 1 U<|RK D<|al fun _ E=>WS fun _ F=>bo 1 U<|rS (BI U (LF om om))<|rP 1 [] I ?_
 refine RK F<|cO U (aP fun AA=>?_) (aR fun AA=>?_)
 ·refine WS fun _ G=>bo 1 U<|rS (BI U (si om om om))<|rP 2 [] I ?_
  refine RK G<|aq<|Q1 hQ U U U ?_
  exact cI (by unfold oZ; omega)
 refine WK E<|WS fun _ H=>bo 1 U<|rS (BI U (si om om om))<|rP 1 [] I ?_
 refine RK H<|aq<|Q1 hQ U U U ?_
 exact cI (by unfold oZ; omega)
theorem JD (c:au) (sA:OA) (sC:Nat) (hlen:c.bw.length≤1000000):
 eg Tryz.prog 133 [(vA (du.cells (du.mk c.dh (aN.mk sA c.bw.length sC))))] [(rd sA c.bw.length 3 (c.bw.map cG.cells))] (vB (decide (eX c))):=by
 refine bI kr Tryz.func133 U U fun w0 Q hQ hN=>?_
 try dsimp only
 refine WS fun _ Ac=>fR U fun b2=>bo 1 U<|RK Ac<|al fun _ Ad=>WS fun _ AK=>fD 2 [] (mc 0 U I) U<|rS (CL (ir c.dh 0 1000) (aK) U)<|rP 2 [] I ?_
 refine ct (t:=14) U (bh fun AU=>?_) (bg fun AU=>?_)
 ·refine bo 6 U<|RK AK<|aQ U<|WS fun _ Ae=>rP 1 [] I ?_
  refine RK Ae<|aq<|Q1 hQ U U U ?_
  exact cB (cq fun h=>by have q1:=h.ry; have q2:=h.len; omega).symm
 refine fD 3 [] (mc 0 U I) U<|rS (CL (ir (c.bw.length:Int) 1 5) (aK) U)<|rP 2 [] I ?_
 refine RK AK<|cO U (bh fun AV=>?_) (bg fun AV=>?_)
 ·refine WS fun _ Af=>rP 1 [] I ?_
  refine RK Af<|aq<|Q1 hQ U U U ?_
  exact cB (cq fun h=>by have q1:=h.ry; have q2:=h.len; omega).symm
 refine WK Ad<|al fun _ Ag=>WS fun _ Ah=>rP 1 [] I ?_
 refine RK Ah<|ay ?_
 have A:(0≤c.bw.length)∧(∀ (j:Nat) y,j<0→c.bw[j]? =some y→fp c j y):=by exact ⟨Nat.zero_le _,fun j y hj=>absurd hj (Nat.not_lt_zero _)⟩
 refine bS (ι:={z:Nat // (z≤c.bw.length)∧(∀ (j:Nat) y,j<z→c.bw[j]? =some y→fp c j y)}) [1] [0,1] U U (fun z=>[(3,(vI (z.1:Int)))]) (fun z=>[]) (fun _=>rfl) (fun _=>rfl) (fun z=>c.bw.length-z.1) ⟨0,A⟩ (aV U) (aL [0,1]) ?_
 clear A
 rintro ⟨i,⟨a,C⟩⟩ J9 f
 try dsimp only
 have An:=IL a C
 refine al fun _ g=>WS fun _ l=>rP 5 [] (mc 0 U I) ?_
 refine RK l<|cO U (aP fun AW=>?_) (aR fun AW=>?_)
 ·refine WK g<|al fun _ Am=>ay<|WS fun _ n=>rP 3 [] (mc 0 U I) ?_
  obtain ⟨x,hx⟩:=aM c.bw i om
  have b:=bL cG.cells hx
  refine rS (IA i U (aD 1 U) p7 dc om om)<|rS (ot i 0 (cG.cells x) U cd (aD 1 U) b U dc U U)<|AL U rh fun Al=>fQ U sW U<|RK n<|al fun _ B=>dq cy 41 kr<|mu 2 [] (mc 0 U I) U<|dS (CL (ir x.At 0 86400000) (aK) U)<|dP 2 [] I ?_
  refine gJ (t:=37) U (bh fun AX=>?_) (bg fun AX=>?_)
  ·refine km 36 U<|cL<|RK B<|aQ U<|WS fun _ p=>rP 1 [] I ?_
   refine RK p<|aq<|Q1 hQ U U U ?_
   exact cB (cq fun h=>by have q:=h.sync i x hx; unfold fp at q; (rw [gr om] at q; omega)).symm
  refine dP 3 [] I ?_
  refine iw (t:=40) U (aR fun AY=>?_) (aP fun AY=>?_)
  ·refine dP 19 [] (mc 0 U I) ?_
   refine gJ (t:=59) U (aP fun X=>?_) (aR fun X=>?_)
   ·refine km 14 U<|cL<|RK B<|aQ U<|WS fun _ w=>rP 1 [] I ?_
    refine RK w<|aq<|Q1 hQ U U U ?_
    exact cB (cq fun h=>by have q:=h.sync i x hx; unfold fp at q; (rw [gr om] at q; omega)).symm
   refine dP 9 [] (mc 0 U I) ?_
   refine gJ (t:=68) U (aP fun Y=>?_) (aR fun Y=>?_)
   ·refine km 5 U<|cL<|RK B<|aQ U<|WS fun _ AA=>rP 1 [] I ?_
    refine RK AA<|aq<|Q1 hQ U U U ?_
    exact cB (cq fun h=>by have q:=h.sync i x hx; unfold fp at q; (rw [gr om] at q; omega)).symm
   refine dP 5 [] (mc 0 U I) ?_
   refine cL<|RK B<|bV U (aR fun Z=>?_) (aP fun Z=>?_)
   ·refine cp<|aH<|KK Am<|ao<|rP 3 [] I ?_
    refine aG ?_
    have AO:(vI (((i+1):Nat):Int))=(vI ((i:Int)+1)):=by exact cI om
    refine aW (f ⟨(i+1),⟨om,lL C hx (by unfold fp; (rw [gr om]; omega))⟩⟩ _ _ _ U os (dB.cons U<|bx U AO<|dB.nil _) (aL [1,2]))
   refine WS fun _ AB=>rP 1 [] I ?_
   refine RK AB<|aq<|Q1 hQ U U U ?_
   exact cB (cq fun h=>by have q:=h.sync i x hx; unfold fp at q; (rw [gr om] at q; omega)).symm
  refine dP 6 [0,1] (mc 0 U (mc 1 U I)) ?_
  obtain ⟨y,hy⟩:=aM c.bw (i-1) om
  have d:=bL cG.cells hy
  refine dS (IA (i-1) U (aD 2 U) p7 dc om om)<|dS (nH ((i-1)*3) U (aD 2 U) (Nat.mul_pos om dc) fB U)<|dS (fY (i-1) 0 (vI y.At) U cd (aD 2 U) d U dc U)<|dP 4 [] I ?_
  refine gJ (t:=53) U (aP fun AZ=>?_) (aR fun AZ=>?_)
  ·refine km 20 U<|cL<|RK B<|aQ U<|WS fun _ r=>rP 1 [] I ?_
   refine RK r<|aq<|Q1 hQ U U U ?_
   exact cB (cq fun h=>by have q:=h.sync i x hx; unfold fp at q; (rw [xw om hy] at q; omega)).symm
  refine dP 6 [] (mc 0 U I) ?_
  refine gJ (t:=59) U (aP fun X=>?_) (aR fun X=>?_)
  ·refine km 14 U<|cL<|RK B<|aQ U<|WS fun _ s=>rP 1 [] I ?_
   refine RK s<|aq<|Q1 hQ U U U ?_
   exact cB (cq fun h=>by have q:=h.sync i x hx; unfold fp at q; (rw [gr om] at q; omega)).symm
  refine dP 9 [] (mc 0 U I) ?_
  refine gJ (t:=68) U (aP fun Y=>?_) (aR fun Y=>?_)
  ·refine km 5 U<|cL<|RK B<|aQ U<|WS fun _ u=>rP 1 [] I ?_
   refine RK u<|aq<|Q1 hQ U U U ?_
   exact cB (cq fun h=>by have q:=h.sync i x hx; unfold fp at q; (rw [gr om] at q; omega)).symm
  refine dP 5 [] (mc 0 U I) ?_
  refine cL<|RK B<|bV U (aR fun Z=>?_) (aP fun Z=>?_)
  ·refine cp<|aH<|KK Am<|ao<|rP 3 [] I ?_
   refine aG ?_
   have AN:(vI (((i+1):Nat):Int))=(vI ((i:Int)+1)):=by exact cI om
   refine aW (f ⟨(i+1),⟨om,lL C hx (by unfold fp; (rw [xw om hy]; omega))⟩⟩ _ _ _ U os (dB.cons U<|bx U AN<|dB.nil _) (aL [1,2]))
  refine WS fun _ v=>rP 1 [] I ?_
  refine RK v<|aq<|Q1 hQ U U U ?_
  exact cB (cq fun h=>by have q:=h.sync i x hx; unfold fp at q; (rw [gr om] at q; omega)).symm
 refine bE<|ag<|ag<|aA<|KK Ag<|al fun _ AC=>WS fun _ AD=>rP 1 [] I ?_
 refine RK AD<|ay ?_
 have A:(0≤c.bw.length)∧(th c 0):=by exact ⟨Nat.zero_le _,fun j y hj=>absurd hj (Nat.not_lt_zero _)⟩
 refine bS (ι:={z:Nat // (z≤c.bw.length)∧(th c z)}) [1] [0,1] U U (fun z=>[(5,(vI (z.1:Int)))]) (fun z=>[]) (fun _=>rfl) (fun _=>rfl) (fun z=>c.bw.length-z.1) ⟨0,A⟩ (aV U) (aL [0,1]) ?_
 clear A
 rintro ⟨m,⟨AQ,G⟩⟩ J28 e
 try dsimp only
 have F:=xE (P:=fp c) om C
 refine al fun _ AE=>WS fun _ AF=>rP 5 [] (mc 0 U I) ?_
 refine RK AF<|bV U (aR fun Aa=>?_) (aP fun Aa=>?_)
 ·refine bE<|ag<|ag<|aA<|KK AC<|WS fun _ AM=>rP 1 [] I ?_
  refine RK AM<|aq<|Q1 hQ U U U ?_
  exact cB (dw (IF om om (xE om C) om G)).symm
 refine WK AE<|al fun _ AG=>ay<|WS fun _ AH=>rP 1 [] I ?_
 refine RK AH<|ay ?_
 have A:(0≤m)∧(∀ y,c.bw[m]? =some y→EJ c y 0):=by exact ⟨Nat.zero_le _,fun y _ j o hj=>absurd hj (Nat.not_lt_zero _)⟩
 refine bS (ι:={z:Nat // (z≤m)∧(∀ y,c.bw[m]? =some y→EJ c y z)}) [1,5] [0,1] U U (fun z=>[(6,(vI (z.1:Int)))]) (fun z=>[]) (fun _=>rfl) (fun _=>rfl) (fun z=>m-z.1) ⟨0,A⟩ (aV U) (aL [0,1]) ?_
 clear A
 rintro ⟨k,⟨AR,D⟩⟩ J33 T
 try dsimp only
 refine al fun _ AI=>WS fun _ AJ=>rP 3 [] I ?_
 refine RK AJ<|bV U (aR fun Ab=>?_) (aP fun Ab=>?_)
 ·refine bE<|ag<|ag<|aA<|aH<|KK AG<|ao<|rP 3 [] I ?_
  refine aG ?_
  have AP:(vI (((m+1):Nat):Int))=(vI ((m:Int)+1)):=by exact cI om
  refine aW (e ⟨(m+1),⟨om,ED G D om⟩⟩ _ _ _ U os (dB.cons U<|bx U AP<|dB.nil _) (aL [0,1]))
 refine WK AI<|al fun _ V=>ay<|al fun _ W=>pw cy [0,1,2,3,4,5,6,7,8,9] [10,11,12,13] [false,false,false,false,false,false,false,false,false,false] [] [(bY b2 127 (du.cells (du.mk c.dh (aN.mk sA c.bw.length sC)))),(rd sA c.bw.length 3 (c.bw.map cG.cells)).ro] [] kr (aL [0,1]) (aL [])<|eS U (FA 1 U fB U)<|eS U (L1 (vS sA c.bw.length sC) 0 U cd U U)<|eS U (MV U) ?_
 obtain ⟨x,hx⟩:=aM c.bw k om
 have b:=bL cG.cells hx
 refine eS U (IA k U (aD 1 U) p7 dc om om)<|eS U (ot k 0 (cG.cells x) U cd (aD 1 U) b U dc U U)<|eS U (FA 1 U fB U)<|eS U (L1 (vS sA c.bw.length sC) 0 U cd U U)<|eS U (MV U) ?_
 obtain ⟨y,hy⟩:=aM c.bw m om
 have d:=bL cG.cells hy
 refine eS U (IA m U (aD 1 U) p7 dc om om)<|eS U (ot m 0 (cG.cells y) U cd (aD 1 U) d U dc U U)<|e7 U<|iR [10,11] kr (eJ ?_<|eJ ?_<|kI)
 rotate_left 1
 ·refine NO U U [10,12,13] fun T38 M=>AL U rh fun AS=>RD M 1 U<|N1 10<|NO U U [12,13] fun T40 N=>AL U rh fun AT=>RD N 2 U<|N1 12<|NO U U [13] fun T42 O=>fQ U sW U<|RD O 2 U<|N1 13<|NO U U [] fun T43 R=>tw U sW U<|RD R 2 U<|pG<|KK W<|WS fun _ J=>rP 6 [0,1,2] (mc 2 U (mc 1 U (mc 0 U I))) ?_
  obtain ⟨Ai,Aj,Ak⟩:=tM (fun j z _ hz=>F j z hz) hy (F _ _ hy) (show k<m by omega) hx
  refine bo 1 U<|rS (CL (w6 c.dh (y.At-x.At) om om) (aK) U)<|bo 1 U<|RK J<|WS fun _ E=>rP 10 [0,1] (mc 0 U (mc 1 U I)) ?_
  refine ct (t:=113) U (aP fun H=>?_) (aR fun H=>?_)
  ·refine bo 10 U<|RK E<|aQ U<|WS fun _ K=>rP 1 [] I ?_
   refine RK K<|aq<|Q1 hQ U U U ?_
   exact cB (cq fun h=>by have q:=h.pair m k y x hy om hx; unfold ng at q; omega).symm
  refine rP 10 [0,1] (mc 1 U (mc 0 U I)) ?_
  refine RK E<|bV U (aR fun Ao=>?_) (aP fun Ao=>?_)
  ·refine cp<|aH<|KK V<|ao<|rP 3 [] I ?_
   refine aG ?_
   have S:(vI (((k+1):Nat):Int))=(vI ((k:Int)+1)):=by exact cI om
   refine aW (T ⟨(k+1),⟨om,fun z hz=>by rw [hy] at hz; cases hz; exact lL (D _ hy) hx (by unfold ng; omega)⟩⟩ _ _ _ rfl os (dB.cons rfl<|dB.cons rfl<|bx rfl S<|dB.nil _) (aL [2,3]))
  refine WS fun _ L=>rP 1 [] I ?_
  refine RK L<|aq<|Q1 hQ U U U ?_
  exact cB (cq fun h=>by have q:=h.pair m k y x hy om hx; unfold ng at q; omega).symm
 refine NO U U [11,12,13] fun T38 M=>AL U rh fun AS=>RD M 1 U<|N1 11<|NO U U [12,13] fun T40 N=>AL U rh fun AT=>RD N 2 U<|N1 12<|NO U U [13] fun T42 O=>tw U sW U<|RD O 2 U<|N1 13<|NO U U [] fun T43 R=>fQ U sW U<|RD R 2 U<|pG<|KK W<|WS fun _ J=>rP 6 [0,1,2] (mc 2 U (mc 0 U (mc 1 U I))) ?_
 obtain ⟨Ai,Aj,Ak⟩:=tM (fun j z _ hz=>F j z hz) hy (F _ _ hy) (show k<m by omega) hx
 refine bo 1 U<|rS (CL (w6 c.dh (y.At-x.At) om om) (aK) U)<|bo 1 U<|RK J<|WS fun _ E=>rP 10 [0,1] (mc 1 U (mc 0 U I)) ?_
 refine ct (t:=113) U (aP fun H=>?_) (aR fun H=>?_)
 ·refine bo 10 U<|RK E<|aQ U<|WS fun _ K=>rP 1 [] I ?_
  refine RK K<|aq<|Q1 hQ U U U ?_
  exact cB (cq fun h=>by have q:=h.pair m k y x hy om hx; unfold ng at q; omega).symm
 refine rP 10 [0,1] (mc 0 U (mc 1 U I)) ?_
 refine RK E<|bV U (aR fun Ao=>?_) (aP fun Ao=>?_)
 ·refine cp<|aH<|KK V<|ao<|rP 3 [] I ?_
  refine aG ?_
  have S:(vI (((k+1):Nat):Int))=(vI ((k:Int)+1)):=by exact cI om
  refine aW (T ⟨(k+1),⟨om,fun z hz=>by rw [hy] at hz; cases hz; exact lL (D _ hy) hx (by unfold ng; omega)⟩⟩ _ _ _ rfl os (dB.cons rfl<|dB.cons rfl<|bx rfl S<|dB.nil _) (aL [2,3]))
 refine WS fun _ L=>rP 1 [] I ?_
 refine RK L<|aq<|Q1 hQ U U U ?_
 exact cB (cq fun h=>by have q:=h.pair m k y x hy om hx; unfold ng at q; omega).symm
theorem Bc (c:au) (sA:OA) (sC:Nat) (at_:Int) (hc:eX c) (ha:0≤at_∧at_≤90000000):
 eg Tryz.prog 170 [(vA (du.cells (du.mk c.dh (aN.mk sA c.bw.length sC)))),(vI at_)] [(rd sA c.bw.length 3 (c.bw.map cG.cells))] (vA (aa.cells (hP c at_))):=by
 have e:=hc.len
 have W:=hc.ry
 refine bI kr Tryz.func170 U U fun j Q hQ hN=>?_
 try dsimp only
 refine WS fun _ R=>fR U fun g=>AL U dg fun h=>RK R<|WS fun _ S=>AL U dg fun d=>RK S<|al fun _ T=>WS fun _ AA=>rP 1 [] I ?_
 refine RK AA<|ay ?_
 have A:(0≤c.bw.length):=by exact Nat.zero_le _
 refine bS (ι:={z:Nat // (z≤c.bw.length)}) [1,2,4,5] [1,2,3] U U (fun z=>[(6,(vI (z.1:Int)))]) (fun z=>[(bY d 38 (aa.cells (kz c at_ z.1)))]) (fun _=>rfl) (fun _=>rfl) (fun z=>c.bw.length-z.1) ⟨0,A⟩ (aV U) (aL [1,2,3,0]) ?_
 clear A
 rintro ⟨i,X⟩ J8 D
 try dsimp only
 refine al fun _ V=>WS fun _ E=>rP 5 [] (mc 1 U I) ?_
 refine RK E<|bV U (aR fun O=>?_) (aP fun O=>?_)
 ·refine bE<|ag<|ag<|aA<|KK T<|WS fun _ J=>rP 1 [] (mc 3 U I) ?_
  refine fQ U cu U<|RK J<|aq<|HO hQ [0] (mc 0 U I) U ?_
  rw [DM hc (show c.bw.length≤i by omega)]
 refine WK V<|al fun _ B=>ay<|WS fun _ F=>rP 3 [] (mc 1 U I) ?_
 obtain ⟨x,hx⟩:=aM c.bw i om
 have Z:=bL cG.cells hx
 refine rS (IA i U (aD 2 U) p7 dc om om)<|rS (ot i 0 (cG.cells x) U cd (aD 2 U) Z U dc U U)<|AL U rh fun a=>fQ U sW U<|RK F<|WS fun _ G=>rP 2 [] (mc 2 U I) ?_
 have Y:=hc.tO hx
 have f:0≤oZ (c.dh*max (at_-x.At) (x.At-at_)) 1000000∧oZ (c.dh*max (at_-x.At) (x.At-at_)) 1000000≤90001:=uf W ha Y.1
 refine fD 8 [] (mc 0 U I) U<|rS (MX U)<|rS (CL (w6 c.dh (max (at_-x.At) (x.At-at_)) om om) (aK) U)<|bo 1 U<|RK G<|WS fun _ H=>fD 10 [] (mc 0 U I) U<|rS (SX (bj (xs:=[(0,.tmp 38),(1,.tmp 43)]) (cs:=(aa.cells (aa.mk (x.ew.Lo-(oZ (c.dh*(max (at_-x.At) (x.At-at_))) 1000000)) (x.ew.Hi+(oZ (c.dh*(max (at_-x.At) (x.At-at_))) 1000000))))) U U (bk gj U)) U U)<|AL U dg fun b=>fQ U cu U<|RK H<|al fun _ C=>WS fun _ AB=>rP 2 [] I ?_
 refine RK AB<|bV U (aR fun P=>?_) (aP fun P=>?_)
 ·refine WK C<|ao<|fD 4 [0,1] (mc 5 U (mc 0 U I)) U<|rS (MX U)<|rP 4 [0,1] (mc 5 U (mc 0 U I)) ?_
  refine rS (MN U)<|rS (SX (bj (xs:=[(0,.tmp 52),(1,.tmp 57)]) (cs:=(aa.cells (aa.mk (max ((kz c at_ i).Lo) (x.ew.Lo-(oZ (c.dh*(max (at_-x.At) (x.At-at_))) 1000000))) (min ((kz c at_ i).Hi) (x.ew.Hi+(oZ (c.dh*(max (at_-x.At) (x.At-at_))) 1000000)))))) U U (bk gj U)) U U)<|HP U cu U<|aG<|aH<|KK B ?_
  have M:(aa.cells (aa.mk (max ((kz c at_ i).Lo) (x.ew.Lo-(oZ (c.dh*(max (at_-x.At) (x.At-at_))) 1000000))) (min ((kz c at_ i).Hi) (x.ew.Hi+(oZ (c.dh*(max (at_-x.At) (x.At-at_))) 1000000)))))=(aa.cells (kz c at_ (i+1))):=by exact congrArg aa.cells (Bl hx om).symm
  rw [M]
  refine ao<|rP 3 [] I ?_
  refine aG ?_
  have N:(vI (((i+1):Nat):Int))=(vI ((i:Int)+1)):=by exact cI om
  refine aW (D ⟨(i+1),(by first|omega|(simp only []; omega))⟩ _ _ _ U os (cW 4<|bx U N<|dB.nil _) (aL [2,3,4,5]))
 refine ao<|fD 1 [] (mc 0 U I) U<|HP U cu U<|RK C<|ao<|fD 4 [0,1] (mc 5 U (mc 0 U I)) U<|rS (MX U)<|rP 4 [0,1] (mc 5 U (mc 0 U I)) ?_
 refine rS (MN U)<|rS (SX (bj (xs:=[(0,.tmp 52),(1,.tmp 57)]) (cs:=(aa.cells (aa.mk (max (x.ew.Lo-(oZ (c.dh*(max (at_-x.At) (x.At-at_))) 1000000)) (x.ew.Lo-(oZ (c.dh*(max (at_-x.At) (x.At-at_))) 1000000))) (min (x.ew.Hi+(oZ (c.dh*(max (at_-x.At) (x.At-at_))) 1000000)) (x.ew.Hi+(oZ (c.dh*(max (at_-x.At) (x.At-at_))) 1000000)))))) U U (bk gj U)) U U)<|HP U cu U<|aG<|aH<|KK B ?_
 have K:(aa.cells (aa.mk (max (x.ew.Lo-(oZ (c.dh*(max (at_-x.At) (x.At-at_))) 1000000)) (x.ew.Lo-(oZ (c.dh*(max (at_-x.At) (x.At-at_))) 1000000))) (min (x.ew.Hi+(oZ (c.dh*(max (at_-x.At) (x.At-at_))) 1000000)) (x.ew.Hi+(oZ (c.dh*(max (at_-x.At) (x.At-at_))) 1000000)))))=(aa.cells (kz c at_ (i+1))):=by exact congrArg aa.cells (Ae hc ha hx om).symm
 rw [K]
 refine ao<|rP 3 [] I ?_
 refine aG ?_
 have L:(vI (((i+1):Nat):Int))=(vI ((i:Int)+1)):=by exact cI om
 refine aW (D ⟨(i+1),(by first|omega|(simp only []; omega))⟩ _ _ _ U os (cW 4<|bx U L<|dB.nil _) (aL [2,3,4,5]))
theorem I6 (l:bf) (kA:OA) (kC:Nat) (az:List RA) (cA:OA) (cC:Nat) (bA:OA) (bC:Nat) (n:Int) (hin:eB l az) (htr:cV l.aI=true) (hbk: ∀ b∈l.ae,jE l b) (hn:0≤n∧n<(l.ae.length:Int)):
 eg Tryz.prog 135 [(vA (bJ.cells (lh l kA kC cA cC bA bC))),(vI n)] [(rd kA l.aI.length 9 (l.aI.map an.cells)),(rd cA l.ai.length 2 (List.zipWith au.cells l.ai az)),(e9 (aS au.gW l.ai az)),(rd bA l.ae.length 4 (l.ae.map bG.cells))] (vI (lQ l n.toNat)):=by
 have AA:=hin.sf
 have S:=hin.sh
 have P:=hin.oq
 have R:=hin.se
 have T:=hin.side
 refine bI kr Tryz.func135 U U fun X Q hQ hN=>?_
 try dsimp only
 refine WS fun _ G=>fR U fun V=>bo 1 U<|RK G<|al fun _ H=>WS fun _ AB=>rP 2 [] I ?_
 refine RK AB<|cO U (aP fun F=>?_) (aR fun F=>?_)
 ·refine al fun _ J=>dL cy [11,12] [] [] [0,1,2,3,4] [] U U U U U<|eS U (FA 0 U fB U)<|eS U (LP (aZ.cells (aZ.mk (aN.mk kA l.aI.length kC))) 0 U cd U U U)<|eS U (FA 3 U fB U)<|eS U (L1 (vS bA l.ae.length bC) 0 U cd U U) ?_
  obtain ⟨y,hy⟩:=aM l.ae 0 om
  have A:=bL bG.cells hy
  refine eS U (IA 0 U (aD 4 U) vh dc U om)<|eS U (nH (0*4) U (aD 4 U) (Nat.mul_pos om dc) fB U)<|eS U (ot 0 0 (cM.cells y.mz) U cd (aD 4 U) A U dc U U)<|eS U (CL (RG l.aI kA kC y.mz asm asm) (bp [1]) U)<|eS U (MV U)<|eS U (EX U)<|eS U (EX U)<|eS U (AG U)<|e7 U<|cf U fun T6 L=>AL U dg fun W=>aG (L _ _ (aL [1,2,3,4,5]) ?_)
  refine cf U fun T8 M=>fQ U cu U<|aG (M _ _ (aL [1,2,3,4,5]) ?_)
  refine fK U<|KK J<|WS fun _ K=>rP 3 [] (mc 0 U I) ?_
  refine RK K<|aq<|Q1 hQ U U U ?_
  (refine congrArg (Value.int .i64) ?_; rw [show n.toNat=0 by omega]; rw [zi hy,(vY htr (hbk _ (List.mem_of_getElem? hy)).1).2])
 refine WK H<|al fun _ B=>dL cy [19,20] [] [] [0,1,2,3,4] [] U U U U U<|eS U (FA 0 U fB U)<|eS U (LP (aZ.cells (aZ.mk (aN.mk kA l.aI.length kC))) 0 U cd U U U)<|eS U (FA 3 U fB U)<|eS U (L1 (vS bA l.ae.length bC) 0 U cd U U)<|eS U (MV U)<|eS U (BI U (ru ⟨om,om⟩)) ?_
 obtain ⟨y,hy⟩:=aM l.ae (((n-1)).toNat) om
 have A:=bL bG.cells hy
 refine eS U (IA (((n-1)).toNat) U (aD 4 U) vh dc om om)<|eS U (nH ((((n-1)).toNat)*4) U (aD 4 U) (Nat.mul_pos om dc) fB U)<|eS U (ot (((n-1)).toNat) 0 (cM.cells y.mz) U cd (aD 4 U) A U dc U U)<|eS U (FA 3 U fB U)<|eS U (L1 (vS bA l.ae.length bC) 0 U cd U U)<|eS U (MV U) ?_
 obtain ⟨x,hx⟩:=aM l.ae ((n).toNat) om
 have N:=bL bG.cells hx
 refine eS U (IA ((n).toNat) U (aD 4 U) vh dc om om)<|eS U (nH (((n).toNat)*4) U (aD 4 U) (Nat.mul_pos om dc) fB U)<|eS U (ot ((n).toNat) 0 (cM.cells x.mz) U cd (aD 4 U) N U dc U U)<|eS U (CL (JM l.aI kA kC y.mz x.mz asm asm) (bp [1]) U)<|eS U (MV U)<|eS U (EX U)<|eS U (EX U)<|eS U (AG U)<|e7 U<|cf U fun T11 D=>AL U dg fun O=>aG (D _ _ (aL [1,2,3,4,5]) ?_)
 refine cf U fun T13 E=>fQ U cu U<|aG (E _ _ (aL [1,2,3,4,5]) ?_)
 refine fK U<|KK B<|WS fun _ C=>rP 3 [] (mc 0 U I) ?_
 refine RK C<|aq<|Q1 hQ U U U ?_
 (refine congrArg (Value.int .i64) ?_; rw [Bw om hx (by rw [show n.toNat-1=(n-1).toNat by omega]; exact hy),(kT htr ⟨(hbk _ (List.mem_of_getElem? hy)).1,(hbk _ (List.mem_of_getElem? hx)).1⟩).2])
theorem KH (l:bf) (kA:OA) (kC:Nat) (az:List RA) (cA:OA) (cC:Nat) (bA:OA) (bC:Nat) (n:Int) (hin:eB l az) (htr:cV l.aI=true) (hok:kS l) (hn:0≤n∧n<(l.ae.length:Int)):
 eg Tryz.prog 168 [(vA (bJ.cells (lh l kA kC cA cC bA bC))),(vI n)] [(rd kA l.aI.length 9 (l.aI.map an.cells)),(rd cA l.ai.length 2 (List.zipWith au.cells l.ai az)),(e9 (aS au.gW l.ai az)),(rd bA l.ae.length 4 (l.ae.map bG.cells))] (vI (ed l n.toNat)):=by
 have G:=hin.sf
 have F:=hin.sh
 have D:=hin.oq
 have E:=hin.se
 have C:=hok.head
 unfold gi at C
 have H:=Fs htr hok.vi n.toNat
 have AA:=hok.Qx n.toNat om
 refine bI kr Tryz.func168 U U fun K Q hQ hN=>?_
 try dsimp only
 refine WS fun _ A=>fR U fun J=>bo 1 U<|RK A<|al fun _ B=>dq cy 12 kr<|mu 2 [] (mc 0 U I) U<|dS (CL (I6 l kA kC az cA cC bA bC n hin htr (by exact hok.vi) hn) (bp [1,2,3,4]) U)<|dS (BI U (Fi ⟨om,om⟩))<|mu 6 [] (mc 0 U I) U<|dS (BI U (si om om om))<|dP 1 [] I ?_
 refine cL<|RK B<|aq<|Q1 hQ U U U ?_
 exact cI (by unfold ed oZ; rw [Int.mul_comm])
theorem Mr (l:bf) (kA:OA) (kC:Nat) (az:List RA) (cA:OA) (cC:Nat) (bA:OA) (bC:Nat) (hin:eB l az) (htr:cV l.aI=true):
 eg Tryz.prog 105 [(vA (bJ.cells (lh l kA kC cA cC bA bC)))] [(rd kA l.aI.length 9 (l.aI.map an.cells)),(rd cA l.ai.length 2 (List.zipWith au.cells l.ai az)),(e9 (aS au.gW l.ai az)),(rd bA l.ae.length 4 (l.ae.map bG.cells))] (vB (decide (kS l))):=by
 have Ae:=hin.sf
 have Aa:=hin.sh
 have AX:=hin.oq
 have AZ:=hin.se
 have Ab:=hin.side
 have Ac:=jJ htr
 have AW:=kx htr
 refine bI kr Tryz.func105 U U fun w0 Q hQ hN=>?_
 try dsimp only
 refine WS fun _ AM=>fR U fun b2=>bo 1 U<|RK AM<|al fun _ AN=>WS fun _ D=>fD 2 [] (mc 0 U I) U<|rS (CL (ir l.dJ 1 5000) (aK) U)<|rP 2 [] I ?_
 refine ct (t:=10) U (bh fun AC=>?_) (bg fun AC=>?_)
 ·refine bo 35 U<|RK D<|aQ U<|WS fun _ AO=>rP 1 [] I ?_
  refine RK AO<|aq<|Q1 hQ U U U ?_
  exact cB (cq fun h=>by have q:=h.head; unfold gi at q; omega).symm
 refine fD 3 [] (mc 0 U I) U<|rS (CL (ir (l.ai.length:Int) 1 4) (aK) U)<|rP 3 [] I ?_
 refine ct (t:=17) U (bh fun AD=>?_) (bg fun AD=>?_)
 ·refine bo 28 U<|RK D<|aQ U<|WS fun _ AP=>rP 1 [] I ?_
  refine RK AP<|aq<|Q1 hQ U U U ?_
  exact cB (cq fun h=>by have q:=h.head; unfold gi at q; omega).symm
 refine fD 3 [] (mc 0 U I) U<|rS (CL (ir (l.ae.length:Int) 1 6) (aK) U)<|rP 3 [] I ?_
 refine ct (t:=24) U (bh fun AE=>?_) (bg fun AE=>?_)
 ·refine bo 21 U<|RK D<|aQ U<|WS fun _ AQ=>rP 1 [] I ?_
  refine RK AQ<|aq<|Q1 hQ U U U ?_
  exact cB (cq fun h=>by have q:=h.head; unfold gi at q; omega).symm
 refine fD 6 [] (mc 0 U I) U<|rS (CL (ir l.bH 0 ((l.ae.length:Int)-1)) (aK) U)<|rP 3 [] I ?_
 refine ct (t:=34) U (bh fun AF=>?_) (bg fun AF=>?_)
 ·refine bo 11 U<|RK D<|aQ U<|WS fun _ AR=>rP 1 [] I ?_
  refine RK AR<|aq<|Q1 hQ U U U ?_
  exact cB (cq fun h=>by have q:=h.head; unfold gi at q; omega).symm
 refine fD 2 [] (mc 0 U I) U<|rS (CL (ir l.cv 0 3) (aK) U)<|rP 3 [] I ?_
 refine ct (t:=40) U (bh fun AG=>?_) (bg fun AG=>?_)
 ·refine bo 5 U<|RK D<|aQ U<|WS fun _ AS=>rP 1 [] I ?_
  refine RK AS<|aq<|Q1 hQ U U U ?_
  exact cB (cq fun h=>by have q:=h.head; unfold gi at q; omega).symm
 refine fD 2 [] (mc 0 U I) U<|rS (CL (ir l.bM 0 3) (aK) U)<|rP 2 [] I ?_
 refine RK D<|cO U (bh fun AH=>?_) (bg fun AH=>?_)
 ·refine WS fun _ N=>rP 1 [] I ?_
  refine RK N<|aq<|Q1 hQ U U U ?_
  exact cB (cq fun h=>by have q:=h.head; unfold gi at q; omega).symm
 refine WK AN<|al fun _ O=>WS fun _ R=>rP 1 [] I ?_
 refine RK R<|ay ?_
 have A:(0≤l.ai.length)∧(∀ (j:Nat) y,j<0→l.ai[j]? =some y→eX y):=by exact ⟨Nat.zero_le _,fun j y hj=>absurd hj (Nat.not_lt_zero _)⟩
 refine bS (ι:={z:Nat // (z≤l.ai.length)∧(∀ (j:Nat) y,j<z→l.ai[j]? =some y→eX y)}) [1] [0,1,2,3,4] U U (fun z=>[(3,(vI (z.1:Int)))]) (fun z=>[]) (fun _=>rfl) (fun _=>rfl) (fun z=>l.ai.length-z.1) ⟨0,A⟩ (aV U) (aL [0,1,2,3,4]) ?_
 clear A
 rintro ⟨i,⟨AT,F⟩⟩ J13 K
 try dsimp only
 refine al fun _ S=>WS fun _ T=>rP 5 [] (mc 0 U I) ?_
 refine RK T<|cO U (aP fun AI=>?_) (aR fun AI=>?_)
 ·refine WK S<|al fun _ Af=>ay<|WS fun _ V=>rP 3 [] (mc 0 U I) ?_
  obtain ⟨x,hx⟩:=aM l.ai i om
  obtain ⟨xa,J⟩:=aM az i om
  have AV:(List.zipWith au.cells l.ai az)[i]? =some (au.cells x xa):=dT hx J
  refine rS (IA i U (aD 2 U) Ak dc om om)<|rS (ot i 0 (du.cells (du.mk x.dh (aN.mk xa.1 x.bw.length xa.2))) U cd (aD 2 U) AV U dc U U) ?_
  have Ad:=(hin.Qy _ _ _ hx J).2
  refine rS (CL (JD x xa.1 xa.2 asm) (aw (show iU _ (rd xa.1 x.bw.length 3 (x.bw.map cG.cells)).holds from (dy 3 U (b_ hx J (by simp [au.gW]))))<|aK) U)<|rP 1 [] I ?_
  refine RK V<|bV U (bg fun Ag=>?_) (bh fun Ag=>?_)
  ·refine cp<|aH<|KK Af<|ao<|rP 3 [] I ?_
   refine aG ?_
   have u:(vI (((i+1):Nat):Int))=(vI ((i:Int)+1)):=by exact cI om
   refine aW (K ⟨(i+1),⟨om,lL (P:=fun _ y=>eX y) F hx Ag⟩⟩ _ _ _ U os (dB.cons U<|bx U u<|dB.nil _) (aL [0,1,2,3,4]))
  refine WS fun _ W=>rP 1 [] I ?_
  refine RK W<|aq<|Q1 hQ U U U ?_
  exact cB (cq fun h=>Ag (h.clock _ (aU hx))).symm
 refine bE<|ag<|ag<|aA<|KK O<|al fun _ X=>WS fun _ Y=>rP 1 [] I ?_
 refine RK Y<|ay ?_
 have A:(0≤l.ae.length)∧(∀ (j:Nat) y,j<0→l.ae[j]? =some y→jE l y):=by exact ⟨Nat.zero_le _,fun j y hj=>absurd hj (Nat.not_lt_zero _)⟩
 refine bS (ι:={z:Nat // (z≤l.ae.length)∧(∀ (j:Nat) y,j<z→l.ae[j]? =some y→jE l y)}) [1] [0,1,2,3,4] U U (fun z=>[(4,(vI (z.1:Int)))]) (fun z=>[]) (fun _=>rfl) (fun _=>rfl) (fun z=>l.ae.length-z.1) ⟨0,A⟩ (aV U) (aL [0,1,2,3,4]) ?_
 clear A
 rintro ⟨m,⟨AU,B⟩⟩ J22 L
 try dsimp only
 refine al fun _ Z=>WS fun _ a=>rP 5 [] (mc 0 U I) ?_
 refine RK a<|bV U (aR fun AJ=>?_) (aP fun AJ=>?_)
 ·refine bE<|ag<|ag<|aA<|KK X<|al fun _ e=>WS fun _ f=>rP 1 [] I ?_
  refine RK f<|ay ?_
  have A:(0≤l.ae.length)∧(∀ j,j<0→1≤lQ l j):=by exact ⟨Nat.zero_le _,fun j hj=>absurd hj (Nat.not_lt_zero _)⟩
  refine bS (ι:={z:Nat // (z≤l.ae.length)∧(∀ j,j<z→1≤lQ l j)}) [1] [0,1,2,3,4] U U (fun z=>[(5,(vI (z.1:Int)))]) (fun z=>[]) (fun _=>rfl) (fun _=>rfl) (fun z=>l.ae.length-z.1) ⟨0,A⟩ (aV U) (aL [0,1,2,3,4]) ?_
  clear A
  rintro ⟨n,⟨AB,C⟩⟩ J32 M
  try dsimp only
  have AY:=vW (P:=jE l) om B
  refine al fun _ g=>WS fun _ k=>rP 5 [] (mc 0 U I) ?_
  refine RK k<|bV U (aR fun AL=>?_) (aP fun AL=>?_)
  ·refine bE<|ag<|ag<|aA<|KK e<|WS fun _ s=>rP 1 [] I ?_
   refine RK s<|aq<|Q1 hQ U U U ?_
   exact cB (dw (yH (by unfold gi; omega) (vW om F) (vW om B) (fun j hj=>C j om))).symm
  refine WK g<|al fun _ o=>ay<|WS fun _ p=>fD 2 [] (mc 0 U I) U<|rS (CL (I6 l kA kC az cA cC bA bC (n:Int) hin htr asm om) (bp [1,2,3,4]) U)<|rP 1 [] I ?_
  refine RK p<|bV U (aR fun E=>?_) (aP fun E=>?_)
  ·refine cp<|aH<|KK o<|ao<|rP 3 [] I ?_
   refine aG ?_
   have w:(vI (((n+1):Nat):Int))=(vI ((n:Int)+1)):=by exact cI om
   refine aW (M ⟨(n+1),⟨om,fun j hj=>by rcases Nat.lt_or_ge j n with q|q; exact C j q; (obtain rfl:j=n:=by omega); simp only [Int.toNat_natCast] at E; omega⟩⟩ _ _ _ rfl os (dB.cons rfl<|bx rfl w<|dB.nil _) (aL [0,1,2,3,4]))
  refine WS fun _ r=>rP 1 [] I ?_
  refine RK r<|aq<|Q1 hQ U U U ?_
  exact cB (cq fun h=>by have q:=h.Qx n om; simp only [Int.toNat_natCast] at E; omega).symm
 refine WK Z<|al fun _ b=>ay<|al fun _ H=>dq cy 24 kr<|km 1 U<|dS (LP (aZ.cells (aZ.mk (aN.mk kA l.aI.length kC))) 0 U cd U U U)<|dP 3 [] (mc 0 U I) ?_
 obtain ⟨y,hy⟩:=aM l.ae m om
 have AA:=bL bG.cells hy
 refine dS (IA m U (aD 4 U) vh dc om om)<|dS (nH (m*4) U (aD 4 U) (Nat.mul_pos om dc) fB U)<|dS (ot m 0 (cM.cells y.mz) U cd (aD 4 U) AA U dc U U)<|dS (CL (qE l.aI kA kC y.mz asm asm) (bp [1]) U)<|dP 2 [] I ?_
 refine gJ (t:=77) U (bh fun G=>?_) (bg fun G=>?_)
 ·refine km 13 U<|cL<|RK H<|aQ U<|WS fun _ c=>rP 1 [] I ?_
  refine RK c<|aq<|Q1 hQ U U U ?_
  exact cB (cq fun h=>by have q:=h.vi _ (aU hy); have q2:=q.2; first|exact G q.1|omega).symm
 refine mu 3 [] (mc 0 U I) U<|dS (IA m U (aD 4 U) vh dc om om)<|dS (nH ((m*4)+3) U (aD 4 U) (Nat.mul_pos om dc) fB U)<|dS (fY m 3 (vI y.jF) U cd (aD 4 U) AA U dc U)<|mu 4 [] (mc 0 U I) U<|dS (CL (ir y.jF 0 ((l.ai.length:Int)-1)) (aK) U)<|dP 2 [] I ?_
 refine cL<|RK H<|bV U (bg fun AK=>?_) (bh fun AK=>?_)
 ·refine cp<|aH<|KK b<|ao<|rP 3 [] I ?_
  refine aG ?_
  have v:(vI (((m+1):Nat):Int))=(vI ((m:Int)+1)):=by exact cI om
  refine aW (L ⟨(m+1),⟨om,lL (P:=fun _ y=>jE l y) B hy ⟨G,om,om⟩⟩⟩ _ _ _ U os (dB.cons U<|bx U v<|dB.nil _) (aL [0,1,2,3,4]))
 refine WS fun _ d=>rP 1 [] I ?_
 refine RK d<|aq<|Q1 hQ U U U ?_
 exact cB (cq fun h=>by have q:=h.vi _ (aU hy); have q2:=q.2; first|exact G q.1|omega).symm
end
section
open Go.RowKit
theorem BN (r:cm) (kA:OA) (kC:Nat) (az:List RA) (cA:OA) (cC:Nat) (bA:OA) (bC:Nat) (slA:OA) (slC:Nat) (drA:OA) (drC:Nat) (ha:List cS) (heA:OA) (heC:Nat) (hraw:qW r az ha):
 eg Tryz.prog 29 [(vA (br.cells (oE r kA kC cA cC bA bC slA slC drA drC heA heC)))] [(rd kA r.ah.aI.length 9 (r.ah.aI.map an.cells)),(rd cA r.ah.ai.length 2 (List.zipWith au.cells r.ah.ai az)),(e9 (aS au.gW r.ah.ai az)),(rd bA r.ah.ae.length 4 (r.ah.ae.map bG.cells)),(rd slA r.aJ.length 1 (r.aJ.map iC)),(rd drA r.bB.length 1 (r.bB.map iC)),(rd heA r.ar.length 1 (List.zipWith cJ r.ar ha)),(e9 (aS iu r.ar ha))] (vB (decide (oo r))):=by
 have AA:=hraw.line
 have AE:=hraw.iQ
 have AG:=hraw.has
 have AD:=hraw.iP
 have AB:=hraw.draw
 refine bI kr Tryz.func29 U U fun w0 Q hQ hN=>?_
 try dsimp only
 refine WS fun _ l=>fR U fun b2=>bo 1 U<|RK l<|al fun _ m=>WS fun _ H=>bo 1 U<|rS (LP (bJ.cells (lh r.ah kA kC cA cC bA bC)) 0 U cd U U U)<|rS (CL (Jh r.ah kA kC az cA cC bA bC asm) (bp [1,2,3,4]) U)<|rP 1 [] I ?_
 refine ct (t:=8) U (aP fun k=>?_) (aR fun k=>?_)
 ·refine bo 17 U<|RK H<|aQ U<|WS fun _ n=>rP 1 [] I ?_
  refine RK n<|aq<|Q1 hQ U U U ?_
  exact cB (dw (pd (.inl k))).symm
 refine rP 6 [] (mc 0 U I) ?_
 refine ct (t:=14) U (aP fun AJ=>?_) (aR fun AJ=>?_)
 ·refine bo 11 U<|RK H<|aQ U<|WS fun _ o=>rP 1 [] I ?_
  refine RK o<|aq<|Q1 hQ U U U ?_
  exact cB (dw (pd (.inr om))).symm
 refine rP 6 [] (mc 0 U I) ?_
 refine ct (t:=20) U (aP fun f=>?_) (aR fun f=>?_)
 ·refine bo 5 U<|RK H<|aQ U<|WS fun _ p=>rP 1 [] I ?_
  refine RK p<|aq<|Q1 hQ U U U ?_
  exact cB (dw (pd (.inr om))).symm
 refine rP 5 [] (mc 0 U I) ?_
 refine RK H<|cO U (aP fun h=>?_) (aR fun h=>?_)
 ·refine WS fun _ q=>rP 1 [] I ?_
  refine RK q<|aq<|Q1 hQ U U U ?_
  exact cB (dw (pd (.inr om))).symm
 refine WK m<|al fun _ s=>WS fun _ N=>rP 1 [] I ?_
 refine RK N<|ay ?_
 have B:(0≤r.ar.length)∧(lz r 0):=by exact ⟨Nat.zero_le _,B4⟩
 refine bS (ι:={z:Nat // (z≤r.ar.length)∧(lz r z)}) [1] [0,1,2,3,4,5,6,7,8] U U (fun z=>[(3,(vI (z.1:Int)))]) (fun z=>[]) (fun _=>rfl) (fun _=>rfl) (fun z=>r.ar.length-z.1) ⟨0,B⟩ (aV U) (aL [0,1,2,3,4,5,6,7,8]) ?_
 clear B
 rintro ⟨i,⟨x,F⟩⟩ J11 L
 try dsimp only
 refine al fun _ O=>WS fun _ P=>rP 5 [] (mc 0 U I) ?_
 refine RK P<|bV U (aR fun AJ=>?_) (aP fun AJ=>?_)
 ·refine bE<|ag<|ag<|aA<|KK s<|WS fun _ b=>rP 1 [] I ?_
  refine RK b<|aq<|Q1 hQ U U U ?_
  exact cB (cq (HH k om F om)).symm
 refine WK O<|al fun _ R=>ay<|al fun _ S=>WS fun _ T=>rP 3 [] (mc 0 U I) ?_
 obtain ⟨ht,D⟩:=aM r.ar i om
 obtain ⟨A,C⟩:=aM ha i om
 have E:(List.zipWith cJ r.ar ha)[i]? =some (cJ ht A):=dT D C
 refine rS (IA i U (aD 7 U) q9 dc om om)<|rS (fY i 0 (vS A.1.1 ht.length A.1.2) U cd (aD 7 U) E U dc U) ?_
 obtain ⟨AF,AC,w⟩:=hraw.oz _ _ _ D C
 refine rP 2 [] I ?_
 refine RK T<|cO U (aP fun J=>?_) (aR fun J=>?_)
 ·refine WS fun _ AI=>rP 1 [] I ?_
  refine RK AI<|aq<|Q1 hQ U U U ?_
  exact cB (dw (Bg D J)).symm
 refine WK S<|WS fun _ V=>rP 1 [] I ?_
 refine RK V<|ay ?_
 have B:(0≤ht.length)∧(mN ht 0):=by exact ⟨Nat.zero_le _,B6⟩
 refine bS (ι:={z:Nat // (z≤ht.length)∧(mN ht z)}) [1,3] [0,1,2,3,4,5,6,7,8] U U (fun z=>[(4,(vI (z.1:Int)))]) (fun z=>[]) (fun _=>rfl) (fun _=>rfl) (fun z=>ht.length-z.1) ⟨0,B⟩ (aV U) (aL [0,1,2,3,4,5,6,7,8]) ?_
 clear B
 rintro ⟨j,⟨y,G⟩⟩ J20 M
 try dsimp only
 refine al fun _ W=>WS fun _ X=>fD 4 [] (mc 0 U I) U<|rS (IA i U (aD 7 U) q9 dc om om)<|rS (fY i 0 (vS A.1.1 ht.length A.1.2) U cd (aD 7 U) E U dc U)<|rP 2 [] I ?_
 refine RK X<|bV U (aR fun g=>?_) (aP fun g=>?_)
 ·refine bE<|ag<|ag<|aA<|aH<|KK R<|ao<|rP 3 [] I ?_
  refine aG ?_
  have e:(vI (((i+1):Nat):Int))=(vI ((i:Int)+1)):=by exact cI om
  refine aW (L ⟨(i+1),⟨om,BQ F D (El J G om)⟩⟩ _ _ _ U os (dB.cons U<|bx U e<|dB.nil _) (aL [0,1,2,3,4,5,6,7,8]))
 refine WK W<|al fun _ Y=>ay<|WS fun _ Z=>fD 3 [] (mc 0 U I) U<|rS (IA i U (aD 7 U) q9 dc om om)<|rS (fY i 0 (vS A.1.1 ht.length A.1.2) U cd (aD 7 U) E U dc U)<|rP 1 [] I ?_
 obtain ⟨d,hd⟩:=aM ht j om
 obtain ⟨da,u⟩:=aM A.2 j om
 have v:(List.zipWith ax.cells ht A.2)[j]? =some (ax.cells d da):=dT hd u
 refine rS (IA j U (show iU _ (rd A.1.1 ht.length 7 (List.zipWith ax.cells ht A.2)).holds from (dy 8 U (b_ D C cj))) xn dc om om)<|rS (nH ((j*7)+4) U (show iU _ (rd A.1.1 ht.length 7 (List.zipWith ax.cells ht A.2)).holds from (dy 8 U (b_ D C cj))) (Nat.mul_pos om dc) fB U)<|rS (nH (((j*7)+4)+2) U (show iU _ (rd A.1.1 ht.length 7 (List.zipWith ax.cells ht A.2)).holds from (dy 8 U (b_ D C cj))) (Nat.mul_pos om dc) fB U)<|rS (fY j 6 (vS da.1 d.cz.ak.length da.2) U cd (show iU _ (rd A.1.1 ht.length 7 (List.zipWith ax.cells ht A.2)).holds from (dy 8 U (b_ D C cj))) v U dc U) ?_
 have AH:=w d (aU hd)
 refine rP 2 [] I ?_
 refine RK Z<|bV U (aR fun K=>?_) (aP fun K=>?_)
 ·refine cp<|aH<|KK Y<|ao<|rP 3 [] I ?_
  refine aG ?_
  have c:(vI (((j+1):Nat):Int))=(vI ((j:Int)+1)):=by exact cI om
  refine aW (M ⟨(j+1),⟨om,CJ G hd K⟩⟩ _ _ _ U os (dB.cons U<|dB.cons U<|bx U c<|dB.nil _) (aL [0,1,2,3,4,5,6,7,8]))
 refine WS fun _ a=>rP 1 [] I ?_
 refine RK a<|aq<|Q1 hQ U U U ?_
 exact cB (dw (Ei D hd K)).symm
end
end Go.Proofs.YtdllkkdchkhimaaGreatDoor
