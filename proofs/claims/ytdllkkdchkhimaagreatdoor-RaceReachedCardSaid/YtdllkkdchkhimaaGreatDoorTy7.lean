/-
 The statement raceReached_said, part 7 of 8: Rx1, Rx3, Rx5, Rx8, Rx9, Rx10, Rx11, Rx12, Rz1, Rz2, Rt2, Rx2, Rz3, Rz4, B7, B8, Rr2.
 Conditions: none.
-/
import Derived.Test.YtdllkkdchkhimaaGreatDoorTy1
import Derived.Test.YtdllkkdchkhimaaGreatDoorTy2
import Derived.Test.YtdllkkdchkhimaaGreatDoorTy3
import Derived.Test.YtdllkkdchkhimaaGreatDoorTy4
import Derived.Test.YtdllkkdchkhimaaGreatDoorTy5
import Derived.Test.YtdllkkdchkhimaaGreatDoorTy6
namespace Go.Proofs.YtdllkkdchkhimaaGreatDoor
set_option maxRecDepth 100000
set_option maxHeartbeats 4000000
set_option linter.unusedVariables false
section
open Go.RowKit
theorem vN (l:List Int) (lA:OA) (lC:Nat) (hlen:l.length≤1000000):
 lv Tryz.prog 61 [(vS lA l.length lC)] [(rd lA l.length 1 (l.map iC))] (fun (x:(OA)×Nat)=>(vS x.1 l.length x.2)) (fun (x:(OA)×Nat)=>True) (fun (x:(OA)×Nat)=>[(own x.1 x.2 3 1 (l.map iC))]):=by
 refine dp kr Tryz.func61 U U fun L Q hQ hN=>?_
 try dsimp only
 refine WS fun _ D=>bg 1 U<|RK D<|al fun _ E=>WS fun _ F=>rP 1 [] I ?_
 refine rS (BI U (qE Q7))<|RK F<|cM U (aS fun B=>?_) (aR fun B=>?_)
 ·refine WS fun _ G=>mo (aG 0 U) B dc fun C=>?_
  have A:l=[]:=by simpa using C
  refine dU 3 1 ?_
  rw [show (own none 0 3 1 ([]:List (List Value)))=own none 0 3 1 (l.map iC) from by rw [A]; rfl]
  refine rP 1 [] I ?_
  refine RK G<|ar ?_
  refine LX hQ (none,0) [0] [] I U U U ?_ ?_
  ·first|rfl|(rw [A]; rfl)
  ·trivial
 refine WK E<|WS fun _ H=>s9 U cy U fun J=>rP 1 [] I ?_
 refine dT (es:=(List.map iC [])) (C':=[own (some ⟨J,0,none⟩) 0 3 1 (List.map iC []),_]) 0 U sm U (by simp [maxLen]) U ?_
 refine c_ (es2:=(List.map iC l)) (m':=l.length) 0 U U U pE U U sm (aG 1 U) (jT _) os (by first|(simp only [maxLen]; omega)|(simp [maxLen]; omega)) sm sm U fun AA K=>?_
 try dsimp only
 refine rP 1 [] I ?_
 refine RK H<|ar ?_
 refine LX hQ (AA,K) [0] [] I U U U ?_ ?_
 ·first|rfl|(rw [A]; rfl)
 ·trivial
theorem Bw (l:List Int) (lA:OA) (lC:Nat) (f:Value) (key:Int→Int) (X:av) (hf: ∀ x0 x1,x0∈l∧x1∈l→D_ Tryz.prog f [.int .i64 x0,.int .i64 x1] [X] (.int .i64 (key x0-key x1))) (hkb: ∀ x∈l,0≤key x∧key x≤30000000) (hlen:l.length≤1000000):
 De Tryz.prog 122 [(vS lA l.length lC),(vI 0),(vI (l.length:Int)),f] [X] (own lA lC 3 1 (l.map iC)) (fun (x:Unit)=>(vT [])) (fun (x:Unit)=>True) (fun (x:Unit)=>(own lA lC 3 1 ((eD key l).map iC))):=by
 refine mE kr Tryz.func122 U U fun s Q hQ hN=>?_
 try dsimp only
 refine WS fun _ Z=>bg 1 U<|rS (SX (b_ (r:= .int .i64 1) U U U (ik ⟨dc,dc⟩)) U U)<|rP 1 [] I ?_
 refine RK Z<|aw ?_
 have C:(1≤1∧(1≤l.length∨1=1))∧(l.length=l.length)∧(1=1∧l=[]∨sQ key l 1 l)∧(∀ x∈l,x∈l):=by exact ⟨om,rfl,Hb,fun x h=>h⟩
 refine bO (ι:={z:Nat×(List Int) // (1≤z.1∧(z.1≤l.length∨z.1=1))∧(z.2.length=l.length)∧(z.1=1∧l=[]∨sQ key l z.1 z.2)∧(∀ x∈z.2,x∈l)}) [0,1,2,3] [1] U U (fun z=>[(8,(vI (z.1.1:Int)))]) (fun z=>[(own lA lC 3 1 (z.1.2.map iC))]) (fun _=>rfl) (fun _=>rfl) (fun z=>l.length-z.1.1) ⟨(1,l),C⟩ (aQ U) (aK [1,0]) ?_
 clear C
 rintro ⟨⟨i,m⟩,⟨AB,E,F,G⟩⟩ J2 L
 try dsimp only at AB E F G
 try dsimp only
 refine al fun _ b=>WS fun _ c=>rP 3 [] I ?_
 refine RK c<|bR U (aR fun p=>?_) (aS fun p=>?_)
 ·refine bB<|ae<|ae<|ax ?_
  rw [show m=eD key l from JH om E F]
  refine LM hN () 1 [] I U U U U ?_
  trivial
 refine WK b<|al fun _ N=>aw<|WS fun _ d=>rP 2 [] I ?_
 refine RK d<|aw ?_
 have C:(i≤i)∧(m.length=l.length)∧(∀ x∈m,x∈l)∧(Cu key l i i m):=by exact ⟨Nat.le_refl _,E,G,Dr om (Nc om F)⟩
 refine bO (ι:={z:Nat×(List Int) // (z.1≤i)∧(z.2.length=l.length)∧(∀ x∈z.2,x∈l)∧(Cu key l i z.1 z.2)}) [0,1,2,3,8] [0] U U (fun z=>[(9,(vI (z.1.1:Int)))]) (fun z=>[(own lA lC 3 1 (z.1.2.map iC))]) (fun _=>rfl) (fun _=>rfl) (fun z=>z.1.1) ⟨(i,m),C⟩ (aQ U) (aK [0,1]) ?_
 clear C
 rintro ⟨⟨j,q⟩,⟨J,D,A,B⟩⟩ J8 Y
 try dsimp only at J D A B
 try dsimp only
 refine al fun _ e=>al fun _ H=>dF cD 17 kr<|dP 4 [] I ?_
 refine jk (t:=21) U (aR fun V=>?_) (aS fun V=>?_)
 ·refine lz 13 U<|cO<|RK H<|aV U<|bB<|ae<|ae<|ax<|aD<|KK N<|an<|rP 3 [] I ?_
  refine aH ?_
  refine aT (L ⟨((i+1),q),⟨om,D,.inr (by first|exact yM om B|exact yA om B hx hy om),A⟩⟩ _ _ _ U (by simp only []; omega) (aQ U) (aK [0,1]))
 refine dP 3 [] I ?_
 obtain ⟨x,hx⟩:=aO q j om
 have K:=bP iC hx
 refine dS (IA j U (ak (n:=l.length) 1 U sq) cy dc om om) ?_
 refine dS (gF j 0 (vI x) U cq (ak (n:=q.length) 1 U sm) K U dc U)<|dP 3 [] I ?_
 obtain ⟨y,hy⟩:=aO q (j-1) om
 have AA:=bP iC hy
 refine dS (IA (j-1) U (ak (n:=l.length) 1 U sq) cy dc om om) ?_
 refine dS (gF (j-1) 0 (vI y) U cq (ak (n:=q.length) 1 U sm) AA U dc U)<|dS (SX (sh U U U (hf x y ⟨A _ (aX hx),A _ (aX hy)⟩) (bp [0])) U U)<|dP 2 [] I ?_
 refine cO<|RK H<|bR U (aR fun W=>?_) (aS fun W=>?_)
 ·refine bB<|ae<|ae<|ax<|aD<|KK N<|an<|rP 3 [] I ?_
  refine aH ?_
  refine aT (L ⟨((i+1),q),⟨om,D,.inr (by first|exact yM om B|exact yA om B hx hy om),A⟩⟩ _ _ _ U (by simp only []; omega) (aQ U) (aK [0,1]))
 refine WK e<|al fun _ M=>aw<|dR cD [15,16,17] [8,9,12,13,14] [] [0] [0,1] U U U U U<|eS U (MV U)<|eS U (MV U)<|eS U (MV U)<|eS U (MV U)<|eS U (BI U (rJ ⟨om,om⟩))<|eS U (MV U)<|eS U (MV U)<|eS U (BI U (rJ ⟨om,om⟩)) ?_
 refine fS U (IA (j-1) U (ak (n:=l.length) 1 U sq) cy dc om om) ?_
 refine fS U (gF (j-1) 0 (vI y) U cq (ak (n:=q.length) 1 U sm) AA U dc U)<|eS U (MV U)<|eS U (MV U) ?_
 refine fS U (IA j U (ak (n:=l.length) 1 U sq) cy dc om om) ?_
 refine fS U (gF j 0 (vI x) U cq (ak (n:=q.length) 1 U sm) K U dc U) ?_
 refine fS U (IA j U (ak (n:=l.length) 1 U sq) cy dc om om) ?_
 refine e8 U<|cp U fun T14 O=>eG (k:=j) (o:=0) (vs:=[(vI y)]) (es':=(List.map iC (q.set j y))) (C':=[_,(own lA lC 3 1 (List.map iC (q.set j y)))]) 1 U U U BF U U U U K U dc (by exact (List.map_set (f:=iC) (l:=q) (i:=j) (a:=y)).symm) U<|aH (O _ _ (aK [0]) ?_)
 refine cp U fun T15 P=>?_
 obtain ⟨g,T⟩:=aO (q.set j y) (j-1) os
 have hx17m:(List.map iC (q.set j y))[(j-1)]? =some (iC g):=by rw [fB,T]; rfl
 refine rS (IA (j-1) U (ak (n:=l.length) 1 U sq) cy dc om om) ?_
 refine aH (P _ _ (aK [0]) ?_)
 refine cp U fun T18 R=>eG (k:=(j-1)) (o:=0) (vs:=[(vI x)]) (es':=(List.map iC ((q.set j y).set (j-1) x))) (C':=[_,(own lA lC 3 1 (List.map iC ((q.set j y).set (j-1) x)))]) 1 U U U BF U U U U hx17m U dc (by exact (List.map_set (f:=iC) (l:=(q.set j y)) (i:=(j-1)) (a:=x)).symm) U<|aH (R _ _ (aK [0]) ?_)
 refine fM U<|aD<|KK M<|an<|rP 3 [] I ?_
 refine aH ?_
 have S:(vI (((j-1):Nat):Int))=(vI ((j:Int)-1)):=by exact cI om
 refine aT (Y ⟨((j-1),((q.set j y).set (j-1) x)),⟨om,by simp; exact D,H7 hx hy A,GR om B hx hy om⟩⟩ _ _ _ U (by simp only []; omega) (cN 5<|bk U S<|dx.nil _) (aK [0,1]))
theorem Ic (l:List Int) (lA:OA) (lC:Nat) (f:Value) (key:Int→Int) (X:av) (hf: ∀ x0 x1,x0∈l∧x1∈l→D_ Tryz.prog f [.int .i64 x0,.int .i64 x1] [X] (.int .i64 (key x0-key x1))) (hkb: ∀ x∈l,0≤key x∧key x≤30000000) (hlen:l.length≤12):
 De Tryz.prog 84 [(vS lA l.length lC),(vI (l.length:Int)),f] [X] (own lA lC 3 1 (l.map iC)) (fun (x:Unit)=>(vT [])) (fun (x:Unit)=>True) (fun (x:Unit)=>(own lA lC 3 1 ((eD key l).map iC))):=by
 refine mE kr Tryz.func84 U U fun N Q hQ hN=>?_
 try dsimp only
 refine WS fun _ C=>bg 1 U<|RK C<|WS fun _ D=>bg 3 U<|RK D<|al fun _ E=>aw<|jY 1<|eu fun R4 M=>al fun _ L=>WS fun _ F=>rP 3 [] I ?_
 refine RK F<|cM U (aS fun K=>?_) (aR fun K=>?_)
 ·exfalso; omega
 refine bB<|ae<|ae<|ax<|KK E<|WS fun _ G=>rP 4 [] I ?_
 refine iQ 0 U U U U (Bw l lA lC f key X (by exact hf) hkb sd) U (eg 1 U U (dI (bU _)) ki) U (fun O J=>?_)
 try dsimp only
 refine RK G<|aw<|jY 1<|eu fun R11 AA=>al fun _ H=>WS fun _ A=>rP 3 [] I ?_
 refine RK A<|cM U (aS fun B=>?_) (aR fun B=>?_)
 ·exfalso; omega
 refine bB<|ae<|ae<|ax<|LM hN () 0 [] I U U U U ?_
 trivial
theorem z6 (l:List Int) (lA:OA) (lC:Nat) (f:Value) (key:Int→Int) (X:av) (hf: ∀ x0 x1,x0∈l∧x1∈l→D_ Tryz.prog f [.int .i64 x0,.int .i64 x1] [X] (.int .i64 (key x0-key x1))) (hkb: ∀ x∈l,0≤key x∧key x≤30000000) (hlen:l.length≤12):
 De Tryz.prog 62 [(vS lA l.length lC),f] [X] (own lA lC 3 1 (l.map iC)) (fun (x:Unit)=>(vT [])) (fun (x:Unit)=>True) (fun (x:Unit)=>(own lA lC 3 1 ((eD key l).map iC))):=by
 refine mE kr Tryz.func62 U U fun B Q hQ hN=>?_
 try dsimp only
 refine an<|rP 4 [] I ?_
 refine iQ 0 U U U U (Ic l lA lC f key X (by exact hf) hkb hlen) U (eg 1 U U (dI (bU _)) ki) U (fun C A=>?_)
 try dsimp only
 refine aH<|LM hN () 0 [] I U U U U ?_
 trivial
theorem yI (l:List Int) (lA:OA) (lC:Nat) (f:Value) (key:Int→Int) (X:av) (hf: ∀ x0 x1,x0∈l∧x1∈l→D_ Tryz.prog f [.int .i64 x0,.int .i64 x1] [X] (.int .i64 (key x0-key x1))) (hkb: ∀ x∈l,0≤key x∧key x≤30000000) (hlen:l.length≤12):
 lv Tryz.prog 40 [(vS lA l.length lC),f] [(rd lA l.length 1 (l.map iC)),X] (fun (x:(OA)×Nat)=>(vS x.1 ((eD key l).length) x.2)) (fun (x:(OA)×Nat)=>True) (fun (x:(OA)×Nat)=>[(own x.1 x.2 3 1 ((eD key l).map iC))]):=by
 refine dp kr Tryz.func40 U U fun J Q hQ hN=>?_
 try dsimp only
 refine WS fun _ B=>bg 1 U<|RK B<|WS fun _ C=>rP 1 [] I ?_
 refine cX (vN l lA lC sd) (bp [0]) U fun AA G=>?_
 obtain ⟨E,F⟩:=AA
 try dsimp only
 refine bg 1 U<|RK C<|WS fun _ D=>rP 2 [] I ?_
 refine iQ 0 U U U U (z6 l E F f key X (by exact hf) hkb hlen) U (eg 2 U U (dI (bU _)) ki) U (fun K H=>?_)
 try dsimp only
 refine RK D<|WS fun _ A=>rP 2 [] I ?_
 refine RK A<|ar ?_
 refine LX hQ (E,F) [0] [] I U U U ?_ ?_
 ·first|rfl|(rw [ko]; rfl)
 ·trivial
theorem GQ (l:List Int) (lA:OA) (lC k:Nat) (hk:k≤l.length) (hlen:l.length≤1000000):
 De Tryz.prog 70 [(vS lA k lC)] [] (own lA lC 3 1 (l.map iC)) (fun (x:Unit)=>(vT [])) (fun (x:Unit)=>True) (fun (x:Unit)=>(own lA lC 3 1 ((rF k l).map iC))):=by
 refine mE kr Tryz.func70 U U fun V Q hQ hN=>?_
 try dsimp only
 refine WS fun _ J=>rP 5 [] I ?_
 refine RK J<|aw ?_
 have B:(0≤k)∧(HD l k 0 l):=by exact ⟨Nat.zero_le _,L6⟩
 have P:(vI ((k:Int)-1-(0:Int)))=(vI ((k:Int)-1)):=by exact cI om
 refine bO (ι:={z:Nat×(List Int) // (z.1≤k)∧(HD l k z.1 z.2)}) [0] [] U U (fun z=>[(2,(vI (z.1.1:Int))),(3,(vI ((k:Int)-1-(z.1.1:Int))))]) (fun z=>[(own lA lC 3 1 (z.1.2.map iC))]) (fun _=>rfl) (fun _=>rfl) (fun z=>k-z.1.1) ⟨(0,l),B⟩ (dx.cons U<|bk U P<|dx.nil _) (aK [0]) ?_
 clear B
 rintro ⟨⟨i,m⟩,⟨C,A⟩⟩ J3 AB
 try dsimp only at C A
 try dsimp only
 have AA:=A.1
 refine al fun _ K=>WS fun _ L=>rP 3 [] I ?_
 refine RK L<|bR U (aR fun T=>?_) (aS fun T=>?_)
 ·refine bB<|ae<|ae<|ax ?_
  rw [show m=rF k l from Og hk om A]
  refine LM hN () 0 [] I U U U U ?_
  trivial
 refine WK K<|al fun _ M=>aw<|dR cD [13,14,15] [6,7,10,11,12] [] [] [0] U U U U U<|eS U (MV U)<|eS U (MV U)<|eS U (MV U)<|eS U (MV U)<|eS U (MV U)<|eS U (MV U) ?_
 obtain ⟨y,hy⟩:=aO m ((((k:Int)-1-(i:Int))).toNat) om
 have R:=bP iC hy
 refine fS U (RU ((((k:Int)-1-(i:Int))).toNat) U (ak (n:=m.length) 0 U sm) cy dc om om om)<|fS U (gF ((((k:Int)-1-(i:Int))).toNat) 0 (vI y) U cq (ak (n:=m.length) 0 U sm) R U dc U)<|eS U (MV U)<|eS U (MV U) ?_
 obtain ⟨x,hx⟩:=aO m i om
 have H:=bP iC hx
 refine fS U (RU i U (ak (n:=m.length) 0 U sm) cy dc om om om)<|fS U (gF i 0 (vI x) U cq (ak (n:=m.length) 0 U sm) H U dc U)<|fS U (RU i U (ak (n:=m.length) 0 U sm) cy dc om om om)<|e8 U<|cp U fun T8 N=>eG (k:=i) (o:=0) (vs:=[(vI y)]) (es':=(List.map iC (m.set i y))) (C':=[(own lA lC 3 1 (List.map iC (m.set i y)))]) 0 U U U BF U U U U H U dc (by exact (List.map_set (f:=iC) (l:=m) (i:=i) (a:=y)).symm) U<|aH (N _ _ (aK []) ?_)
 refine cp U fun T9 O=>?_
 obtain ⟨S,G⟩:=aO (m.set i y) ((((k:Int)-1-(i:Int))).toNat) os
 have hx11m:(List.map iC (m.set i y))[(((k:Int)-1-(i:Int))).toNat]? =some (iC S):=by rw [fB,G]; rfl
 refine rS (RU ((((k:Int)-1-(i:Int))).toNat) U (ak (n:=(m.set i y).length) 0 U sm) cy dc om om (by simp; omega)) ?_
 refine aH (O _ _ (aK []) ?_)
 refine cp U fun T12 D=>eG (k:=(((k:Int)-1-(i:Int))).toNat) (o:=0) (vs:=[(vI x)]) (es':=(List.map iC ((m.set i y).set ((((k:Int)-1-(i:Int))).toNat) x))) (C':=[(own lA lC 3 1 (List.map iC ((m.set i y).set ((((k:Int)-1-(i:Int))).toNat) x)))]) 0 U U U BF U U U U hx11m U dc (by exact (List.map_set (f:=iC) (l:=(m.set i y)) (i:=(((k:Int)-1-(i:Int))).toNat) (a:=x)).symm) U<|aH (D _ _ (aK []) ?_)
 refine fM U<|aD<|KK M<|an<|rP 6 [] I ?_
 refine aH ?_
 have E:(vI (((i+1):Nat):Int))=(vI ((i:Int)+1)):=by exact cI om
 have F:(vI ((k:Int)-1-(((i+1):Nat):Int)))=(vI (((k:Int)-1-(i:Int))-1)):=by exact cI om
 refine aT (AB ⟨((i+1),((m.set i y).set ((((k:Int)-1-(i:Int))).toNat) x)),⟨om,KP hk om om A hx hy⟩⟩ _ _ _ U os (dx.cons U<|bk U E<|bk U F<|dx.nil _) (aK [0]))
end
section
open Go.RowKit
theorem I2 (a b:Int) (r:cf) (kA:OA) (kC:Nat) (cA:OA) (cC:Nat) (bA:OA) (bC:Nat) (slA:OA) (slC:Nat) (drA:OA) (drC:Nat) (heA:OA) (heC:Nat) (tA:OA) (tN tC:Nat) (gs gw:Nat) (m:gp) (g1:Nat) (hb: ∀ p∈m,0≤p.2.Lo∧p.2.Lo≤p.2.Hi∧p.2.Hi≤30000000):
 ej Tryz.prog 43 [(vI a),(vI b),(vP g1)] [(bZ gw 88 (fQ.cells (fQ.mk (ot r kA kC cA cC bA bC slA slC drA drC heA heC) (aM.mk tA tN tC) (Value.map (some gs))))),(gZ iV gs (bM df m)),(bZ g1 80 [(vP gw)])] (vI ((aF m a).Lo-(aF m b).Lo)):=by
 have A:=gR (i:=a) hb
 have B:=gR (i:=b) hb
 refine bI kr Tryz.func43 U U fun E Q hQ hN=>?_
 try dsimp only
 refine WS fun _ C=>bg 1 U<|RK C<|al fun _ D=>dF cD 16 kr<|mI 1 [] (mr 2 U I) U<|dS (SX (bQ U U) U U)<|mI 3 [] (mr 0 U I) U<|dS (SX (jR (kV:=iV) (x:=a) (l:=m) (f:=df) (z:=(aa.mk 0 0)) U U U lF (dB od) vD (by exact jG 1 U)) U U)<|dS (SX (kQ (v:=(vI (((List.lookup a m).getD (aa.mk 0 0)).Lo))) U U fD zO U) U U)<|mI 1 [] (mr 2 U I) U<|dS (SX (bQ U U) U U)<|dP 3 [] (mr 0 U I) ?_
 refine dS (SX (jR (kV:=iV) (x:=b) (l:=m) (f:=df) (z:=(aa.mk 0 0)) U U U lF (dB od) vD (by exact jG 1 U)) U U)<|dS (SX (kQ (v:=(vI (((List.lookup b m).getD (aa.mk 0 0)).Lo))) U U fD zO U) U U) ?_
 unfold aF at A B
 simp only [dD] at A B
 refine dP 2 [] I ?_
 refine cO<|RK D<|ar ?_
 exact Q1 hQ U U U U
theorem EW (r:cf) (kA:OA) (kC:Nat) (az:List RA) (cA:OA) (cC:Nat) (bA:OA) (bC:Nat) (slA:OA) (slC:Nat) (drA:OA) (drC:Nat) (ha:List cQ) (heA:OA) (heC:Nat) (hin:fg r az ha):
 lv Tryz.prog 20 [(vA (bq.cells (ot r kA kC cA cC bA bC slA slC drA drC heA heC)))] [(rd dG 3 2 dh),(rd kA r.ah.aJ.length 9 (r.ah.aJ.map ao.cells)),(rd cA r.ah.ai.length 2 (List.zipWith au.cells r.ah.ai az)),(e7 (aU au.gY r.ah.ai az)),(rd bA r.ah.ag.length 4 (r.ah.ag.map bE.cells)),(rd slA r.aI.length 1 (r.aI.map iC)),(rd drA r.bD.length 1 (r.bD.map iC)),(rd heA r.aq.length 1 (List.zipWith cz r.aq ha)),(e7 (aU hU r.aq ha))] (fun (x:(List RA)×(OA)×Nat)=>(vT [(vS x.2.1 ((bG r).length) x.2.2),(vI (bX r))])) (fun (x:(List RA)×(OA)×Nat)=>x.1.length=(bG r).length) (fun (x:(List RA)×(OA)×Nat)=>[(own x.2.1 x.2.2 29 1 (List.zipWith kg (bG r) x.1)),(bo (aU nE (bG r) x.1))]):=by
 have Ar:=hin.line
 have BH:=hin.iM
 have BI:=hin.has
 have A2:=hin.iN
 have Az:=hin.draw
 have A3:=dH (r:=r)
 refine dp kr Tryz.func20 U U fun w0 Q hQ hN=>?_
 try dsimp only
 refine WS fun _ Am=>fV U fun b2=>bg 2 U<|RK Am<|WS fun _ AC=>rP 1 [] (mc 0 U I) ?_
 refine cX (oa r kA kC az cA cC bA bC slA slC drA drC ha heA heC hin) (bp [1,2,3,4,5,6,7,8,9]) U fun y4 Ac=>?_
 obtain ⟨Ad,BE,X,O,Ae,W,A7⟩:=y4
 cases Ad
 ·obtain ⟨AZ,he⟩:=Ac.2 rfl
  try dsimp only at AZ he
  subst AZ
  try dsimp only [cond_true,cond_false,List.cons_append,List.nil_append]
  refine bg 3 U<|AL U Re fun A9=>Hz U RS U U<|bg 1 U<|RK AC<|al fun _ Ay=>WS fun _ p=>rP 2 [] I ?_
  refine RK p<|bR U (bw fun g=>?_) (bx fun g=>?_)
  ·exact absurd g he
  refine WS fun _ s=>rP 1 [] I ?_
  have E:bG r=[]:=Bj he
  have Z:([]:List RA).length=(bG r).length:=by rw [E]; rfl
  refine dU 29 1<|xY ?_
  rw [show (own none 0 29 1 ([]:List (List Value)))=own none 0 29 1 (List.zipWith kg (bG r) []) from by rw [E]; rfl,show bo []=bo (aU nE (bG r) []) from by rw [E]; rfl]
  refine rP 2 [] I ?_
  refine RK s<|ar ?_
  refine LX hQ ([],none,0) [1,0] [] I U (by show List.all _ _=true; simp only [fI,List.all_nil,IU,Bool.and_true]; rfl) U ?_ ?_
  ·first|rfl|(rw [E]; rfl)|(rw [he,← E,List.length_map]; rfl)|(rw [he,E]; rfl)
  ·exact Z
 obtain ⟨he,BK⟩:=Ac.1 rfl
 try dsimp only [cond_true,cond_false,List.cons_append,List.nil_append]
 have BM:=lM he
 have A1:=ni he
 refine bg 3 U<|AL U Re fun R=>Hz U RS U U<|bg 1 U<|RK AC<|al fun _ t=>WS fun _ v=>bg 1 U<|rS (SX (b_ (r:= .bool false) U U U ng) U U)<|RK v<|aV U<|WK t<|WS fun _ w=>bg 1 U<|RK w<|WS fun _ y=>bg 1 U<|RK y<|al fun _ AA=>WS fun _ AB=>fE 1 [] (mc 0 U I) U<|rS (SX (bQ U U) U U)<|rP 2 [] (mc 1 U I) ?_
 refine cX (FZ O) (aL) U fun Ah A4=>?_
 try dsimp only
 refine cX (yQ (aB r) O Ah sd) (bp [5,0]) U fun Aw A5=>?_
 obtain ⟨Ag,Ai⟩:=Aw
 try dsimp only
 rw [show (aB r).length=(dk ((aB r).map (·.1))).length from by rw [gn,List.length_map]]
 refine rS (FU U) ?_
 refine cX (yI (dk ((aB r).map (·.1))) Ag Ai (Value.func (.func 43) [].toArray [(vP R)].toArray) (fun u=>(aF (aB r) u).Lo) (e7 [(bZ X 88 (fQ.cells (fQ.mk (ot r kA kC cA cC bA bC slA slC drA drC heA heC) (aM.mk Ae ((cP r).length) W) (Value.map (some O))))),(gZ iV O (bM df (aB r))),(bZ R 80 [(vP X)])]) (by intro Au Av _; exact nq (fi:=[]) (ca:=[(vP R)]) (lW (I2 Au Av r kA kC cA cC bA bC slA slC drA drC heA heC Ae ((cP r).length) W O X (aB r) R (by first|assumption|omega)) (Nb 0 1 2 U U U U U U))) (by exact RZ BM) (by rw [gn,List.length_map]; omega)) (ay (ak (n:=(dk ((aB r).map (·.1))).length) 0 U sm)<|ay (l3 (Nb 3 6 2 U U U U U U))<|aL) U fun Ax A6=>?_
 obtain ⟨A8,BD⟩:=Ax
 try dsimp only
 have BJ:(eD (fun u=>(aF (aB r) u).Lo) (dk ((aB r).map (·.1)))).length=(aB r).length:=by rw [ko,gn,List.length_map]
 have Ab:Ew (fun u=>(aF (aB r) u).Lo) (eD (fun u=>(aF (aB r) u).Lo) (dk ((aB r).map (·.1)))):=uk
 refine rP 2 [] I ?_
 refine RK AB<|aw<|fX 29 1<|ox ?_
 have H:(0≤(eD (fun u=>(aF (aB r) u).Lo) (dk ((aB r).map (·.1)))).length)∧(([]:List RA).length=([]:List (List Int)).length)∧(l9 (aF (aB r)) ((eD (fun u=>(aF (aB r) u).Lo) (dk ((aB r).map (·.1)))).take 0) ([]:List (List Int)) (-1))∧(-1≤(-1)∧(-1)≤30000000):=by exact ⟨Nat.zero_le _,rfl,Fs,om⟩
 refine bO (ι:={z:Nat×(List (List Int))×(List RA)×(OA)×Nat×Int // (z.1≤(eD (fun u=>(aF (aB r) u).Lo) (dk ((aB r).map (·.1)))).length)∧(z.2.2.1.length=z.2.1.length)∧(l9 (aF (aB r)) ((eD (fun u=>(aF (aB r) u).Lo) (dk ((aB r).map (·.1)))).take z.1) z.2.1 z.2.2.2.2.2)∧(-1≤z.2.2.2.2.2∧z.2.2.2.2.2≤30000000)}) [1,4,29,30] [2,3,5,6,7,8,9,11,12,13,14,15,16,17,18,19] U U (fun z=>[(6,(vS z.1.2.2.2.1 z.1.2.1.length z.1.2.2.2.2.1)),(7,(vI z.1.2.2.2.2.2)),(31,(vI (z.1.1:Int)))]) (fun z=>[(bo (aU nE z.1.2.1 z.1.2.2.1)),(own z.1.2.2.2.1 z.1.2.2.2.2.1 29 1 (List.zipWith kg z.1.2.1 z.1.2.2.1))]) (fun _=>rfl) (fun _=>rfl) (fun z=>(eD (fun u=>(aF (aB r) u).Lo) (dk ((aB r).map (·.1)))).length-z.1.1) ⟨(0,([]:List (List Int)),([]:List RA),none,0,(-1)),H⟩ (aQ U) (aK [2,3,5,6,7,8,9,11,12,13,14,15,16,17,18,19,0,1]) ?_
 clear H
 rintro ⟨⟨i,G,gz,a,c,last⟩,⟨b,C,A,d⟩⟩ J37 T
 try dsimp only at b C A d
 try dsimp only
 have Ao:G.length≤12:=by have:=E2 A; omega
 have BF:(G++[([]:List Int)]).length=G.length+1:=by simp
 have A0:(gz++[((none,0):RA)]).length=gz.length+1:=by simp
 refine WS fun _ AD=>rP 1 [] I ?_
 refine RK AD<|al fun _ AE=>bR U (aR fun Ak=>?_) (aS fun Ak=>?_)
 ·refine bB<|ae<|ae<|ax<|KK AA<|al fun _ AN=>al fun _ AO=>?_
  have Ao:G.length≤12:=by have:=E2 A; omega
  refine an<|rP 3 [] I ?_
  refine RK AO<|aw ?_
  have H:(0≤G.length):=by exact Nat.zero_le _
  refine bO (ι:={z:Nat // (z≤G.length)}) [1,6,66,67] [0,1,3,4,5,6,7,8,9,10,11,12,13,14,15,17] U U (fun z=>[(68,(vI (z.1:Int)))]) (fun z=>[(bo (aU nE (np G z.1) gz))]) (fun _=>rfl) (fun _=>rfl) (fun z=>G.length-z.1) ⟨0,H⟩ (aQ U) (aK [0,1,3,4,5,6,7,8,9,10,11,12,13,14,15,17,16]) ?_
  clear H
  rintro ⟨j,Af⟩ J65 h
  try dsimp only
  refine WS fun _ AP=>rP 1 [] I ?_
  refine RK AP<|al fun _ AQ=>bR U (aR fun Al=>?_) (aS fun Al=>?_)
  ·refine bB<|ae<|ae<|ax<|KK AN<|al fun _ AT=>?_
   have Aq:G.length≤j:=by omega
   have Y:=vj A.ok
   rw [List.take_of_length_le om] at Y
   have E:G.map dk=bG r:=tH he (qn Y.1 (qg.trans fF)) Y.2
   have Z:gz.length=(bG r).length:=by rw [← E,List.length_map]; omega
   rw [DQ Aq,E,← IV,E]
   refine an<|bg 1 U<|rP 2 [] I ?_
   refine RK AT<|ar ?_
   refine LX hQ (gz,a,c) [15,16] [] I U (by show List.all _ _=true; simp only [fI,List.all_nil,IU,Bool.and_true]; rfl) U ?_ ?_
   ·first|rfl|(rw [E]; rfl)|(rw [he,← E,List.length_map]; rfl)|(rw [he,E]; rfl)
   ·exact Z
  refine WK AQ<|al fun _ AR=>aw<|al fun _ AS=>?_
  obtain ⟨cg,B⟩:=aO G j om
  obtain ⟨cga,D⟩:=aO gz j om
  have F:(List.zipWith kg G gz)[j]? =some (kg cg cga):=dZ B D
  refine Dp (f:=nE) 16 (Hq B) D U U U ?_
  try dsimp only
  refine an<|rS (IA j U (ak (n:=G.length) 17 U (kX C)) o9 dc om om)<|rS (gF j 0 (vS cga.1 cg.length cga.2) U cq (ak (n:=G.length) 17 U (kX C)) F U dc U)<|bg 1 U<|RK AS<|an<|rP 1 [] I ?_
  refine iQ 0 U U U U (zX cg cga.1 cga.2 (by have:=Aj A (aX B); omega)) U ki U (fun msrt Aa=>?_)
  try dsimp only
  refine aH<|aD<|KK AR<|an<|rP 2 [] I ?_
  refine aH ?_
  obtain rfl:=qy Aa.1 Aa.2
  refine Nk (f:=nE) (ms:=np G j) (m:=dk cg) 1 0 (by rw [DP]; omega) D U U U ?_
  rw [DX B]
  have AY:(vI (((j+1):Nat):Int))=(vI ((j:Int)+1)):=by exact cI om
  refine aT (h ⟨(j+1),(by first|omega|(simp only []; omega))⟩ _ _ _ U os (cN 4<|bk U AY<|dx.nil _) (aK [1,2,3,4,5,6,7,8,9,10,11,12,13,14,15,16,0]))
 refine WK AE<|al fun _ BL=>aw<|WS fun _ AF=>?_
 obtain ⟨x,hx⟩:=aO (eD (fun u=>(aF (aB r) u).Lo) (dk ((aB r).map (·.1)))) i om
 have At:=bP iC hx
 refine rS (IA i U (ak (n:=(eD (fun u=>(aF (aB r) u).Lo) (dk ((aB r).map (·.1)))).length) 0 U sm) cy dc om om)<|rS (gF i 0 (vI x) U cq (ak (n:=(eD (fun u=>(aF (aB r) u).Lo) (dk ((aB r).map (·.1)))).length) 0 U sm) At U dc U)<|bg 1 U<|RK AF<|WS fun _ AG=>fE 1 [] (mc 2 U I) U<|rS (SX (bQ U U) U U)<|rP 2 [] (mc 3 U I) ?_
 have As:=gR (i:=x) BM
 refine rP 1 [] I ?_
 refine rS (SX (jR (kV:=iV) (x:=x) (l:=(aB r)) (f:=df) (z:=(aa.mk 0 0)) U U U lF (dB od) vD (by exact aG 6 U)) U U)<|AL U dg fun A_=>fR U cu U<|RK AG<|al fun _ V=>WS fun _ AH=>?_
 rw [show ((List.lookup x (aB r)).getD (aa.mk 0 0))=(aF (aB r) x) from rfl]
 refine rP 4 [] (mc 0 U I) ?_
 refine RK AH<|bR U (aR fun N=>?_) (aS fun N=>?_)
 ·refine WK V<|al fun _ AK=>?_
  have BG:1≤G.length:=Gb As.1 A N
  refine an<|rP 4 [] I ?_
  refine RK AK<|al fun _ AM=>?_
  have Ap:(G.length-1)<G.length:=by first|omega|(simp; done)
  obtain ⟨cg,B⟩:=aO G (G.length-1) om
  obtain ⟨cga,D⟩:=aO gz (G.length-1) om
  have F:(List.zipWith kg G gz)[(G.length-1)]? =some (kg cg cga):=dZ B D
  refine Dp (f:=nE) 17 B D U U U ?_
  try dsimp only
  refine an<|bg 4 U<|rS (IA (G.length-1) U (ak (n:=G.length) 19 U (kX C)) o9 dc om om)<|rS (gF (G.length-1) 0 (vS cga.1 cg.length cga.2) U cq (ak (n:=G.length) 19 U (kX C)) F U dc U)<|rP 1 [] I ?_
  have An:cg.length≤12:=(List.mem_append.1 (show cg∈G++[[]] from by first|exact aX B|exact List.mem_append_left _ (aX B))).elim (fun q=>by have:=Aj A q; omega) (fun q=>by simp at q; subst q; simp)
  refine cU (xs:=[.tmp 57]) (cs:=[(vI x)]) U cy jd U U U U (by simp [Value.cells]) U U fun BC=>?_
  refine c_ (es2:=(List.map iC (cg++[x]))) (m':=(cg++[x]).length) 1 U U U pE U U sm (aY (es:=List.map iC [x]) 0 U U (by simp [bJ]) U) (jT _) os (by first|(simp only [maxLen]; omega)|(simp [maxLen]; omega)) sm sm U fun K M=>?_
  try dsimp only
  refine rS (IA (G.length-1) U (ak (n:=G.length) 20 U (kX C)) o9 dc om om)<|eG (k:=(G.length-1)) (o:=0) (vs:=[(vS K ((cg++[x]).length) M)]) (es':=(List.zipWith kg (G.set (G.length-1) (cg++[x])) (gz.set (G.length-1) (K,M)))) (C':=[_,_,_,_,_,_,_,_,_,_,_,_,_,_,_,_,_,_,_,_,(own a c 29 1 (List.zipWith kg (G.set (G.length-1) (cg++[x])) (gz.set (G.length-1) (K,M))))]) 20 U U U z7 U U U U F U dc (by exact qh (c:=kg) (m:=(cg++[x])) (a:=(K,M))) U<|E_ (f:=nE) (ms:=G) (asl:=gz) (m:=(cg++[x])) (a:=(K,M)) 2 1 om om U U U<|RK AM<|an<|fE 3 [] (mc 2 U I) U<|rS (MX U)<|bg 1 U<|aH<|aD<|KK BL<|an<|rP 2 [] I ?_
  refine aH ?_
  have AW:(vS a ((G.set (G.length-1) (cg++[x])).length) c)=(vS a G.length c):=by rw [List.length_set]
  have AX:(vI (((i+1):Nat):Int))=(vI ((i:Int)+1)):=by exact cI om
  refine aT (T ⟨((i+1),(G.set (G.length-1) (cg++[x])),(gz.set (G.length-1) (K,M)),a,c,(max last ((aF (aB r) x).Hi))),⟨om,by simp; omega,by first|exact pz om hx B A N|exact oh om (fun u _=>(gR (i:=u) BM).2.1) Ab hx B A N,dso⟩⟩ _ _ _ U os (cN 4<|bk U AW<|dx.cons U<|bk U AX<|dx.nil _) (aK [3,4,5,6,7,8,9,10,11,12,13,14,15,16,17,18,0,19]))
 refine an<|rP 1 [] I ?_
 refine cU (xs:=[.const (vS none 0 0)]) (cs:=[(vS none 0 0)]) U o9 vr U U U U (by simp [Value.cells]) U U fun BA=>?_
 refine c_ (es2:=(List.zipWith kg (G++[[]]) (gz++[(none,0)]))) (m':=(G++[[]]).length) 19 rfl rfl rfl Ut rfl rfl (kX C).symm (aY (es:=List.zipWith kg [[]] [(none,0)]) 0 rfl rfl (by intro e he; simp [kg] at he; subst he; rfl) rfl) (Mk _ _) om (by simp only [maxLen]; omega) (GO om) (by simp; omega) rfl fun P S=>?_
 try dsimp only
 refine dU 3 1<|PT (Y':=aU nE (G++[[]]) (gz++[(none,0)])) 19 0 U U (Es om U)<|bg 1 U<|RK V<|WS fun _ AI=>rP 4 [] I ?_
 refine RK AI<|al fun _ AJ=>?_
 have Ap:((G++[[]]).length-1)<(G++[[]]).length:=by first|omega|(simp; done)
 obtain ⟨cg,B⟩: ∃ y_,(G++[[]])[((G++[[]]).length-1)]? =some y_:=⟨(G++[[]])[((G++[[]]).length-1)]'om,e9 _⟩
 obtain ⟨cga,D⟩: ∃ y_,(gz++[(none,0)])[((G++[[]]).length-1)]? =some y_:=⟨(gz++[(none,0)])[((G++[[]]).length-1)]'om,e9 _⟩
 have F:(List.zipWith kg (G++[[]]) (gz++[(none,0)]))[((G++[[]]).length-1)]? =some (kg cg cga):=dZ B D
 refine Dp (f:=nE) 0 B D U U U ?_
 try dsimp only
 refine an<|rP 4 [] I ?_
 refine rS (IA ((G++[[]]).length-1) U (ak (n:=(G++[[]]).length) 20 U (kX (by simp; omega))) o9 dc om om) ?_
 refine rS (gF ((G++[[]]).length-1) 0 (vS cga.1 cg.length cga.2) U cq (ak (n:=(G++[[]]).length) 20 U (kX (by simp; omega))) F U dc U) ?_
 refine rP 1 [] I ?_
 have An:cg.length≤12:=(List.mem_append.1 (show cg∈G++[[]] from by first|exact aX B|exact List.mem_append_left _ (aX B))).elim (fun q=>by have:=Aj A q; omega) (fun q=>by simp at q; subst q; simp)
 refine cU (xs:=[.tmp 57]) (cs:=[(vI x)]) U cy jd U U U U (by simp [Value.cells]) U U fun BB=>?_
 refine c_ (es2:=(List.map iC (cg++[x]))) (m':=(cg++[x]).length) 1 U U U pE U U sm (aY (es:=List.map iC [x]) 0 U U (by simp [bJ]) U) (jT _) os (by first|(simp only [maxLen]; omega)|(simp [maxLen]; omega)) sm sm U fun J L=>?_
 try dsimp only
 refine rS (IA ((G++[[]]).length-1) U (ak (n:=(G++[[]]).length) 21 U (kX (by simp; omega))) o9 dc om om) ?_
 refine eG (k:=((G++[[]]).length-1)) (o:=0) (vs:=[(vS J ((cg++[x]).length) L)]) (es':=(List.zipWith kg ((G++[[]]).set ((G++[[]]).length-1) (cg++[x])) ((gz++[(none,0)]).set ((G++[[]]).length-1) (J,L)))) (C':=[_,_,_,_,_,_,_,_,_,_,_,_,_,_,_,_,_,_,_,_,_,(own P S 29 1 (List.zipWith kg ((G++[[]]).set ((G++[[]]).length-1) (cg++[x])) ((gz++[(none,0)]).set ((G++[[]]).length-1) (J,L))))]) 21 U U U z7 U U U U F U dc (by exact qh (c:=kg) (m:=(cg++[x])) (a:=(J,L))) U<|E_ (f:=nE) (ms:=(G++[[]])) (asl:=(gz++[(none,0)])) (m:=(cg++[x])) (a:=(J,L)) 2 1 om om U U U<|RK AJ<|an<|fE 3 [] (mc 3 U I) U<|rS (MX U)<|bg 1 U<|aH<|aD<|KK BL<|an<|rP 2 [] I ?_
 refine aH ?_
 have AU:(vS P (((G++[[]]).set ((G++[[]]).length-1) (cg++[x])).length) S)=(vS P ((G++[[]]).length) S):=by rw [List.length_set]
 have AV:(vI (((i+1):Nat):Int))=(vI ((i:Int)+1)):=by exact cI om
 refine aT (T ⟨((i+1),((G++[[]]).set ((G++[[]]).length-1) (cg++[x])),((gz++[(none,0)]).set ((G++[[]]).length-1) (J,L)),P,S,(max last ((aF (aB r) x).Hi))),⟨om,by simp; omega,by first|exact pz om hx B A N|exact oh om (fun u _=>(gR (i:=u) BM).2.1) Ab hx B A N,dso⟩⟩ _ _ _ U os (cN 4<|bk U AU<|dx.cons U<|bk U AV<|dx.nil _) (aK [4,5,6,7,8,9,10,11,12,13,14,15,16,17,18,19,0,20]))
end
section
open Go.RowKit
theorem uU (G:List (List Int)) (H:List (List Int)) (gz:List RA) (gA:OA) (gC:Nat) (hz:List RA) (hA:OA) (hC:Nat) (h1:G.length≤1000000) (h2:H.length≤1000000) (h3: ∀ l∈G,l.length≤1000000) (h4: ∀ l∈H,l.length≤1000000) (hgz:gz.length=G.length) (hhz:hz.length=H.length):
 ej Tryz.prog 27 [(vS gA G.length gC),(vS hA H.length hC)] [(rd gA G.length 1 (List.zipWith kg G gz)),(e7 (aU QO G gz)),(rd hA H.length 1 (List.zipWith kg H hz)),(e7 (aU QO H hz))] (vB (decide (G=H))):=by
 refine bI kr Tryz.func27 U U fun Z Q hQ hN=>?_
 try dsimp only
 refine WS fun _ N=>bg 1 U<|RK N<|al fun _ O=>WS fun _ P=>rP 5 [] I ?_
 refine RK P<|cM U (bx fun hl=>?_) (bw fun hl=>?_)
 ·refine WS fun _ R=>rP 1 [] I ?_
  refine RK R<|ar<|Q1 hQ U U U ?_
  first|exact cB (cr (nA hx hy h)).symm|exact cB (fO (nG om A om)).symm|exact cB (cr (fun e=>by subst e; omega)).symm
 refine WK O<|al fun _ S=>WS fun _ T=>rP 1 [] I ?_
 refine RK T<|aw ?_
 have B:(0≤G.length)∧(G.take 0=H.take 0):=by exact ⟨Nat.zero_le _,rfl⟩
 refine bO (ι:={z:Nat // (z≤G.length)∧(G.take z=H.take z)}) [0,1] [0,1,2,3] U U (fun z=>[(5,(vI (z.1:Int)))]) (fun z=>[]) (fun _=>rfl) (fun _=>rfl) (fun z=>G.length-z.1) ⟨0,B⟩ (aQ U) (aK [0,1,2,3]) ?_
 clear B
 rintro ⟨i,⟨W,A⟩⟩ J7 M
 try dsimp only
 refine al fun _ AA=>WS fun _ V=>rP 4 [] I ?_
 refine RK V<|bR U (aR fun L=>?_) (aS fun L=>?_)
 ·refine bB<|ae<|ae<|ax<|KK S<|WS fun _ F=>rP 1 [] I ?_
  refine RK F<|ar<|Q1 hQ U U U ?_
  first|exact cB (cr (nA hx hy h)).symm|exact cB (fO (nG om A om)).symm|exact cB (cr (fun e=>by subst e; omega)).symm
 refine WK AA<|al fun _ C=>aw<|al fun _ D=>dF cD 10 kr<|dP 2 [] I ?_
 obtain ⟨x,hx⟩:=aO G i om
 obtain ⟨xa,J⟩:=aO gz i om
 have X:(List.zipWith kg G gz)[i]? =some (kg x xa):=dZ hx J
 refine dS (IA i U (aG 0 U) o9 dc om om)<|dS (gF i 0 (vS xa.1 x.length xa.2) U cq (aG 0 U) X U dc U)<|dP 2 [] I ?_
 obtain ⟨y,hy⟩:=aO H i om
 obtain ⟨ya,K⟩:=aO hz i om
 have Y:(List.zipWith kg H hz)[i]? =some (kg y ya):=dZ hy K
 refine dS (IA i U (aG 2 U) o9 dc om om)<|dS (gF i 0 (vS ya.1 y.length ya.2) U cq (aG 2 U) Y U dc U)<|dS (CL (n8 x xa.1 xa.2 y ya.1 ya.2 (by exact h3 x (aX hx)) (by exact h4 y (aX hy))) (ay (show jc _ (rd xa.1 x.length 1 (x.map iC)).holds from (dy 1 U (cj hx J (by simp [QO]))))<|ay (show jc _ (rd ya.1 y.length 1 (y.map iC)).holds from (dy 3 U (cj hy K (by simp [QO]))))<|aL) U)<|dP 1 [] I ?_
 refine cO<|RK D<|cM U (bx fun h=>?_) (bw fun h=>?_)
 ·refine WS fun _ E=>rP 1 [] I ?_
  refine RK E<|ar<|Q1 hQ U U U ?_
  first|exact cB (cr (nA hx hy h)).symm|exact cB (fO (nG om A om)).symm|exact cB (cr (fun e=>by subst e; omega)).symm
 refine bY<|aD<|KK C<|an<|rP 3 [] I ?_
 refine aH ?_
 have AB:(vI (((i+1):Nat):Int))=(vI ((i:Int)+1)):=by exact cI om
 refine aT (M ⟨(i+1),⟨om,ue A hx hy h⟩⟩ _ _ _ U os (dx.cons U<|dx.cons U<|bk U AB<|dx.nil _) (aK [0,1,2,3]))
end
section
open Go.RowKit
theorem JR (l:List ao) (lA:OA) (lC:Nat) (hlen:l.length≤1000000):
 lv Tryz.prog 97 [(vS lA l.length lC)] [(rd lA l.length 9 (l.map ao.cells))] (fun (x:(OA)×Nat)=>(vS x.1 l.length x.2)) (fun (x:(OA)×Nat)=>True) (fun (x:(OA)×Nat)=>[(own x.1 x.2 122 9 (l.map ao.cells))]):=by
 refine dp kr Tryz.func97 U U fun L Q hQ hN=>?_
 try dsimp only
 refine WS fun _ D=>bg 1 U<|RK D<|al fun _ E=>WS fun _ F=>rP 1 [] I ?_
 refine rS (BI U (qE Qv))<|RK F<|cM U (aS fun B=>?_) (aR fun B=>?_)
 ·refine WS fun _ G=>mo (aG 0 U) B dc fun C=>?_
  have A:l=[]:=by simpa using C
  refine dU 122 9 ?_
  rw [show (own none 0 122 9 ([]:List (List Value)))=own none 0 122 9 (l.map ao.cells) from by rw [A]; rfl]
  refine rP 1 [] I ?_
  refine RK G<|ar ?_
  refine LX hQ (none,0) [0] [] I U U U ?_ ?_
  ·first|rfl|(rw [A]; rfl)
  ·trivial
 refine WK E<|WS fun _ H=>s9 U yi U fun J=>rP 1 [] I ?_
 refine dT (es:=(List.map ao.cells [])) (C':=[own (some ⟨J,0,none⟩) 0 122 9 (List.map ao.cells []),_]) 0 U sm U (by simp [maxLen]) U ?_
 refine c_ (es2:=(List.map ao.cells l)) (m':=l.length) 0 U U U Ug U U sm (aG 1 U) (sf _) os (by first|(simp only [maxLen]; omega)|(simp [maxLen]; omega)) sm sm U fun AA K=>?_
 try dsimp only
 refine rP 1 [] I ?_
 refine RK H<|ar ?_
 refine LX hQ (AA,K) [0] [] I U U U ?_ ?_
 ·first|rfl|(rw [A]; rfl)
 ·trivial
theorem JS (l:List bE) (lA:OA) (lC:Nat) (hlen:l.length≤1000000):
 lv Tryz.prog 99 [(vS lA l.length lC)] [(rd lA l.length 4 (l.map bE.cells))] (fun (x:(OA)×Nat)=>(vS x.1 l.length x.2)) (fun (x:(OA)×Nat)=>True) (fun (x:(OA)×Nat)=>[(own x.1 x.2 129 4 (l.map bE.cells))]):=by
 refine dp kr Tryz.func99 U U fun L Q hQ hN=>?_
 try dsimp only
 refine WS fun _ D=>bg 1 U<|RK D<|al fun _ E=>WS fun _ F=>rP 1 [] I ?_
 refine rS (BI U (qE PJ))<|RK F<|cM U (aS fun B=>?_) (aR fun B=>?_)
 ·refine WS fun _ G=>mo (aG 0 U) B dc fun C=>?_
  have A:l=[]:=by simpa using C
  refine dU 129 4 ?_
  rw [show (own none 0 129 4 ([]:List (List Value)))=own none 0 129 4 (l.map bE.cells) from by rw [A]; rfl]
  refine rP 1 [] I ?_
  refine RK G<|ar ?_
  refine LX hQ (none,0) [0] [] I U U U ?_ ?_
  ·first|rfl|(rw [A]; rfl)
  ·trivial
 refine WK E<|WS fun _ H=>s9 U vt U fun J=>rP 1 [] I ?_
 refine dT (es:=(List.map bE.cells [])) (C':=[own (some ⟨J,0,none⟩) 0 129 4 (List.map bE.cells []),_]) 0 U sm U (by simp [maxLen]) U ?_
 refine c_ (es2:=(List.map bE.cells l)) (m':=l.length) 0 U U U Ua U U sm (aG 1 U) (vo _) os (by first|(simp only [maxLen]; omega)|(simp [maxLen]; omega)) sm sm U fun AA K=>?_
 try dsimp only
 refine rP 1 [] I ?_
 refine RK H<|ar ?_
 refine LX hQ (AA,K) [0] [] I U U U ?_ ?_
 ·first|rfl|(rw [A]; rfl)
 ·trivial
theorem Ly (l:List cG) (lA:OA) (lC:Nat) (hlen:l.length≤1000000):
 lv Tryz.prog 100 [(vS lA l.length lC)] [(rd lA l.length 3 (l.map cG.cells))] (fun (x:(OA)×Nat)=>(vS x.1 l.length x.2)) (fun (x:(OA)×Nat)=>True) (fun (x:(OA)×Nat)=>[(own x.1 x.2 124 3 (l.map cG.cells))]):=by
 refine dp kr Tryz.func100 U U fun L Q hQ hN=>?_
 try dsimp only
 refine WS fun _ D=>bg 1 U<|RK D<|al fun _ E=>WS fun _ F=>rP 1 [] I ?_
 refine rS (BI U (qE OZ))<|RK F<|cM U (aS fun B=>?_) (aR fun B=>?_)
 ·refine WS fun _ G=>mo (aG 0 U) B dc fun C=>?_
  have A:l=[]:=by simpa using C
  refine dU 124 3 ?_
  rw [show (own none 0 124 3 ([]:List (List Value)))=own none 0 124 3 (l.map cG.cells) from by rw [A]; rfl]
  refine rP 1 [] I ?_
  refine RK G<|ar ?_
  refine LX hQ (none,0) [0] [] I U U U ?_ ?_
  ·first|rfl|(rw [A]; rfl)
  ·trivial
 refine WK E<|WS fun _ H=>s9 U qd U fun J=>rP 1 [] I ?_
 refine dT (es:=(List.map cG.cells [])) (C':=[own (some ⟨J,0,none⟩) 0 124 3 (List.map cG.cells []),_]) 0 U sm U (by simp [maxLen]) U ?_
 refine c_ (es2:=(List.map cG.cells l)) (m':=l.length) 0 U U U Rs U U sm (aG 1 U) (vC _) os (by first|(simp only [maxLen]; omega)|(simp [maxLen]; omega)) sm sm U fun AA K=>?_
 try dsimp only
 refine rP 1 [] I ?_
 refine RK H<|ar ?_
 refine LX hQ (AA,K) [0] [] I U U U ?_ ?_
 ·first|rfl|(rw [A]; rfl)
 ·trivial
theorem IY (l:List aN) (lA:OA) (lC:Nat) (hlen:l.length≤1000000):
 lv Tryz.prog 103 [(vS lA l.length lC)] [(rd lA l.length 2 (l.map aN.cells))] (fun (x:(OA)×Nat)=>(vS x.1 l.length x.2)) (fun (x:(OA)×Nat)=>True) (fun (x:(OA)×Nat)=>[(own x.1 x.2 131 2 (l.map aN.cells))]):=by
 refine dp kr Tryz.func103 U U fun L Q hQ hN=>?_
 try dsimp only
 refine WS fun _ D=>bg 1 U<|RK D<|al fun _ E=>WS fun _ F=>rP 1 [] I ?_
 refine rS (BI U (qE R_))<|RK F<|cM U (aS fun B=>?_) (aR fun B=>?_)
 ·refine WS fun _ G=>mo (aG 0 U) B dc fun C=>?_
  have A:l=[]:=by simpa using C
  refine dU 131 2 ?_
  rw [show (own none 0 131 2 ([]:List (List Value)))=own none 0 131 2 (l.map aN.cells) from by rw [A]; rfl]
  refine rP 1 [] I ?_
  refine RK G<|ar ?_
  refine LX hQ (none,0) [0] [] I U U U ?_ ?_
  ·first|rfl|(rw [A]; rfl)
  ·trivial
 refine WK E<|WS fun _ H=>s9 U zQ U fun J=>rP 1 [] I ?_
 refine dT (es:=(List.map aN.cells [])) (C':=[own (some ⟨J,0,none⟩) 0 131 2 (List.map aN.cells []),_]) 0 U sm U (by simp [maxLen]) U ?_
 refine c_ (es2:=(List.map aN.cells l)) (m':=l.length) 0 U U U UT U U sm (aG 1 U) (sZ _) os (by first|(simp only [maxLen]; omega)|(simp [maxLen]; omega)) sm sm U fun AA K=>?_
 try dsimp only
 refine rP 1 [] I ?_
 refine RK H<|ar ?_
 refine LX hQ (AA,K) [0] [] I U U U ?_ ?_
 ·first|rfl|(rw [A]; rfl)
 ·trivial
theorem JA (es:List (List Value)) (lA:OA) (n lC:Nat) (hlen:n≤1000000) (hes:es.length=n) (hone: ∀ v∈es.flatten,v.oneCell'=true):
 lv Tryz.prog 98 [(vS lA n lC)] [(rd lA n 2 es)] (fun (x:(OA)×Nat)=>(vS x.1 n x.2)) (fun (x:(OA)×Nat)=>True) (fun (x:(OA)×Nat)=>[(own x.1 x.2 127 2 es)]):=by
 refine dp kr Tryz.func98 U U fun L Q hQ hN=>?_
 try dsimp only
 refine WS fun _ D=>bg 1 U<|RK D<|al fun _ E=>WS fun _ F=>rP 1 [] I ?_
 refine rS (BI U (qE SM))<|RK F<|cM U (aS fun B=>?_) (aR fun B=>?_)
 ·refine WS fun _ G=>mo (aG 0 U) B dc fun C=>?_
  have A:es=[]:=C
  refine dU 127 2 ?_
  rw [show (own none 0 127 2 ([]:List (List Value)))=own none 0 127 2 es from by rw [A]]
  refine rP 1 [] I ?_
  refine RK G<|ar ?_
  refine LX hQ (none,0) [0] [] I U U U ?_ ?_
  ·first|rfl|(rw [hes]; rfl)|(rw [← hes,A]; rfl)
  ·trivial
 refine WK E<|WS fun _ H=>s9 U zV U fun J=>rP 1 [] I ?_
 refine dT (es:=(List.map dv.cells [])) (C':=[own (some ⟨J,0,none⟩) 0 127 2 (List.map dv.cells []),_]) 0 U sm U (by simp [maxLen]) U ?_
 refine c_ (es2:=es) (m':=es.length) 0 U U U Uv U U sm (aG 1 U) hone (by simp; omega) (by simp [maxLen]; omega) sm U U fun AA K=>?_
 try dsimp only
 refine rP 1 [] I ?_
 refine RK H<|ar ?_
 refine LX hQ (AA,K) [0] [] I U U U ?_ ?_
 ·first|rfl|(rw [hes]; rfl)|(rw [← hes,A]; rfl)
 ·trivial
theorem I4 (es:List (List Value)) (lA:OA) (n lC:Nat) (hlen:n≤1000000) (hes:es.length=n) (hone: ∀ v∈es.flatten,v.oneCell'=true):
 lv Tryz.prog 102 [(vS lA n lC)] [(rd lA n 7 es)] (fun (x:(OA)×Nat)=>(vS x.1 n x.2)) (fun (x:(OA)×Nat)=>True) (fun (x:(OA)×Nat)=>[(own x.1 x.2 46 7 es)]):=by
 refine dp kr Tryz.func102 U U fun L Q hQ hN=>?_
 try dsimp only
 refine WS fun _ D=>bg 1 U<|RK D<|al fun _ E=>WS fun _ F=>rP 1 [] I ?_
 refine rS (BI U (qE Sa))<|RK F<|cM U (aS fun B=>?_) (aR fun B=>?_)
 ·refine WS fun _ G=>mo (aG 0 U) B dc fun C=>?_
  have A:es=[]:=C
  refine dU 46 7 ?_
  rw [show (own none 0 46 7 ([]:List (List Value)))=own none 0 46 7 es from by rw [A]]
  refine rP 1 [] I ?_
  refine RK G<|ar ?_
  refine LX hQ (none,0) [0] [] I U U U ?_ ?_
  ·first|rfl|(rw [hes]; rfl)|(rw [← hes,A]; rfl)
  ·trivial
 refine WK E<|WS fun _ H=>s9 U wT U fun J=>rP 1 [] I ?_
 refine dT (es:=(List.map br.cells [])) (C':=[own (some ⟨J,0,none⟩) 0 46 7 (List.map br.cells []),_]) 0 U sm U (by simp [maxLen]) U ?_
 refine c_ (es2:=es) (m':=es.length) 0 U U U UN U U sm (aG 1 U) hone (by simp; omega) (by simp [maxLen]; omega) sm U U fun AA K=>?_
 try dsimp only
 refine rP 1 [] I ?_
 refine RK H<|ar ?_
 refine LX hQ (AA,K) [0] [] I U U U ?_ ?_
 ·first|rfl|(rw [hes]; rfl)|(rw [← hes,A]; rfl)
 ·trivial
theorem LO (es:List (List Value)) (lA:OA) (n lC:Nat) (hlen:n≤1000000) (hes:es.length=n) (hone: ∀ v∈es.flatten,v.oneCell'=true):
 lv Tryz.prog 101 [(vS lA n lC)] [(rd lA n 1 es)] (fun (x:(OA)×Nat)=>(vS x.1 n x.2)) (fun (x:(OA)×Nat)=>True) (fun (x:(OA)×Nat)=>[(own x.1 x.2 47 1 es)]):=by
 refine dp kr Tryz.func101 U U fun L Q hQ hN=>?_
 try dsimp only
 refine WS fun _ D=>bg 1 U<|RK D<|al fun _ E=>WS fun _ F=>rP 1 [] I ?_
 refine rS (BI U (qE Rh))<|RK F<|cM U (aS fun B=>?_) (aR fun B=>?_)
 ·refine WS fun _ G=>mo (aG 0 U) B dc fun C=>?_
  have A:es=[]:=C
  refine dU 47 1 ?_
  rw [show (own none 0 47 1 ([]:List (List Value)))=own none 0 47 1 es from by rw [A]]
  refine rP 1 [] I ?_
  refine RK G<|ar ?_
  refine LX hQ (none,0) [0] [] I U U U ?_ ?_
  ·first|rfl|(rw [hes]; rfl)|(rw [← hes,A]; rfl)
  ·trivial
 refine WK E<|WS fun _ H=>s9 U rm U fun J=>rP 1 [] I ?_
 refine dT (es:=(List.map sC [])) (C':=[own (some ⟨J,0,none⟩) 0 47 1 (List.map sC []),_]) 0 U sm U (by simp [maxLen]) U ?_
 refine c_ (es2:=es) (m':=es.length) 0 U U U UB U U sm (aG 1 U) hone (by simp; omega) (by simp [maxLen]; omega) sm U U fun AA K=>?_
 try dsimp only
 refine rP 1 [] I ?_
 refine RK H<|ar ?_
 refine LX hQ (AA,K) [0] [] I U U U ?_ ?_
 ·first|rfl|(rw [hes]; rfl)|(rw [← hes,A]; rfl)
 ·trivial
end
section
open Go.RowKit
theorem NH (r:cf) (kA:OA) (kC:Nat) (az:List RA) (cA:OA) (cC:Nat) (bA:OA) (bC:Nat) (slA:OA) (slC:Nat) (drA:OA) (drC:Nat) (ha:List cQ) (heA:OA) (heC:Nat) (hin:fg r az ha):
 lv Tryz.prog 68 [(vA (bq.cells (ot r kA kC cA cC bA bC slA slC drA drC heA heC)))] [(rd kA r.ah.aJ.length 9 (r.ah.aJ.map ao.cells)),(rd cA r.ah.ai.length 2 (List.zipWith au.cells r.ah.ai az)),(e7 (aU au.gY r.ah.ai az)),(rd bA r.ah.ag.length 4 (r.ah.ag.map bE.cells)),(rd slA r.aI.length 1 (r.aI.map iC)),(rd drA r.bD.length 1 (r.bD.map iC)),(rd heA r.aq.length 1 (List.zipWith cz r.aq ha)),(e7 (aU hU r.aq ha))] (fun (x:(OA)×Nat×(OA)×Nat×(List RA)×(OA)×Nat×(OA)×Nat×(OA)×Nat×(OA)×Nat×(List cQ))=>(vA (bq.cells (bq.mk (bK.mk (aZ.mk (aM.mk x.1 r.ah.aJ.length x.2.1)) r.ah.dM (aM.mk x.2.2.1 r.ah.ai.length x.2.2.2.1) (aM.mk x.2.2.2.2.2.1 r.ah.ag.length x.2.2.2.2.2.2.1) r.ah.bH r.ah.cv r.ah.bL) (aM.mk x.2.2.2.2.2.2.2.1 r.aI.length x.2.2.2.2.2.2.2.2.1) (aM.mk x.2.2.2.2.2.2.2.2.2.1 r.bD.length x.2.2.2.2.2.2.2.2.2.2.1) r.ed (aM.mk x.2.2.2.2.2.2.2.2.2.2.2.1 r.aq.length x.2.2.2.2.2.2.2.2.2.2.2.2.1))))) (fun (x:(OA)×Nat×(OA)×Nat×(List RA)×(OA)×Nat×(OA)×Nat×(OA)×Nat×(OA)×Nat×(List cQ))=>(x.2.2.2.2.1.length=r.ah.ai.length∧rH r.ah.ai x.2.2.2.2.1)∧te r.aq x.2.2.2.2.2.2.2.2.2.2.2.2.2) (fun (x:(OA)×Nat×(OA)×Nat×(List RA)×(OA)×Nat×(OA)×Nat×(OA)×Nat×(OA)×Nat×(List cQ))=>[(own x.1 x.2.1 122 9 (r.ah.aJ.map ao.cells)),(own x.2.2.1 x.2.2.2.1 127 2 (List.zipWith au.cells r.ah.ai x.2.2.2.2.1)),(bo (aU au.owns r.ah.ai x.2.2.2.2.1)),(own x.2.2.2.2.2.1 x.2.2.2.2.2.2.1 129 4 (r.ah.ag.map bE.cells)),(own x.2.2.2.2.2.2.2.1 x.2.2.2.2.2.2.2.2.1 3 1 (r.aI.map iC)),(own x.2.2.2.2.2.2.2.2.2.1 x.2.2.2.2.2.2.2.2.2.2.1 3 1 (r.bD.map iC)),(own x.2.2.2.2.2.2.2.2.2.2.2.1 x.2.2.2.2.2.2.2.2.2.2.2.2.1 47 1 (List.zipWith cz r.aq x.2.2.2.2.2.2.2.2.2.2.2.2.2)),(bo (aU gT r.aq x.2.2.2.2.2.2.2.2.2.2.2.2.2))]):=by
 have C:=hin.line
 have A8:=hin.iM
 have M:=hin.has
 have BK:=hin.iN
 have BI:=hin.draw
 have BL:=dH (r:=r)
 have BY:=C.sE
 have BV:=C.sD
 have BU:=C.sB
 have A5:=C.og
 refine dp kr Tryz.func68 U U fun w0 Q hQ hN=>?_
 try dsimp only
 refine WS fun _ A1=>fV U fun b2=>AL U Bk fun b3=>RK A1<|WS fun _ A2=>rP 2 [] I ?_
 refine RK A2<|al fun _ A3=>dR cD [8,13,18,22,25,28] [7,11,15] [0,1,2] [0,2,3,4,5,6,7,8,9] [0,1,2,3,4,5,6,7,8,9] U U U U U<|eS U (MV U)<|eS U (MV U)<|eS U (MV U)<|eS U (MV U)<|eS U (SX (bQ U U) U U)<|eS U (FA 0 U fD U)<|eS U (FA 0 U fD U)<|fS U (L1 (vS kA r.ah.aJ.length kC) 1 U cq U U)<|eS U (MV U)<|eS U (SX (bQ U U) U U)<|eS U (FA 2 U fD U)<|fS U (L1 (vS cA r.ah.ai.length cC) 1 U cq U U)<|eS U (MV U)<|eS U (SX (bQ U U) U U)<|eS U (FA 3 U fD U)<|fS U (L1 (vS bA r.ah.ag.length bC) 1 U cq U U)<|eS U (SX (bQ U U) U U)<|eS U (FA 0 U fD U)<|eS U (FA 0 U fD U)<|eS U (SX (bQ U U) U U)<|eS U (FA 2 U fD U)<|eS U (SX (bQ U U) U U)<|eS U (FA 3 U fD U)<|e8 U<|iz U fun T6 A4=>?_
 refine cX (JR r.ah.aJ kA kC sd) (bp [2]) U fun y7 BZ=>?_
 obtain ⟨a9,S⟩:=y7
 try dsimp only
 refine aH (A4 _ _ (aK [1,3,4,5,6,7,8,9,10]) (aK [1,2,3,4,5,6,7,8,9,10]) ?_)
 refine iz U fun T11 Ae=>?_
 refine cX (JA (List.zipWith au.cells r.ah.ai az) cA r.ah.ai.length cC sd (by exact g3 A5) (by exact Ee _ _)) (bp [4]) U fun A_ BM=>?_
 obtain ⟨J,K⟩:=A_
 try dsimp only
 refine aH (Ae _ _ (aK [2,4,5,6,7,8,9,10,11]) (aK [2,3,4,5,6,7,8,9,10,11]) ?_)
 refine iz U fun T16 Af=>?_
 refine cX (JS r.ah.ag bA bC sd) (bp [7]) U fun BA BN=>?_
 obtain ⟨Y,Z⟩:=BA
 try dsimp only
 refine aH (Af _ _ (aK [3,5,6,7,8,9,10,11,12]) (aK [3,4,5,6,7,8,9,10,11,12]) ?_)
 refine cp U fun T21 Ag=>UF (bq.cells (bq.mk (bK.mk (aZ.mk (aM.mk a9 r.ah.aJ.length S)) r.ah.dM (aM.mk cA r.ah.ai.length cC) (aM.mk bA r.ah.ag.length bC) r.ah.bH r.ah.cv r.ah.bL) (aM.mk slA r.aI.length slC) (aM.mk drA r.bD.length drC) r.ed (aM.mk heA r.aq.length heC))) U UU U U<|aH (Ag _ _ (aK [3,5,6,7,8,9,10,11,12]) ?_)
 refine cp U fun T22 Ah=>UF (bq.cells (bq.mk (bK.mk (aZ.mk (aM.mk a9 r.ah.aJ.length S)) r.ah.dM (aM.mk J r.ah.ai.length K) (aM.mk bA r.ah.ag.length bC) r.ah.bH r.ah.cv r.ah.bL) (aM.mk slA r.aI.length slC) (aM.mk drA r.bD.length drC) r.ed (aM.mk heA r.aq.length heC))) U UK U U<|aH (Ah _ _ (aK [3,5,6,7,8,9,10,11,12]) ?_)
 refine cp U fun T23 Ai=>UF (bq.cells (bq.mk (bK.mk (aZ.mk (aM.mk a9 r.ah.aJ.length S)) r.ah.dM (aM.mk J r.ah.ai.length K) (aM.mk Y r.ah.ag.length Z) r.ah.bH r.ah.cv r.ah.bL) (aM.mk slA r.aI.length slC) (aM.mk drA r.bD.length drC) r.ed (aM.mk heA r.aq.length heC))) U U1 U U<|aH (Ai _ _ (aK [3,5,6,7,8,9,10,11,12]) ?_)
 refine fM U<|KK A3<|al fun _ AI=>WS fun _ AJ=>bg 1 U<|rS (SX (bQ U U) U U)<|rP 4 [] (mc 4 U I) ?_
 refine RK AJ<|aw<|ox ?_
 have E:(0≤r.ah.ai.length)∧(([]:List RA).length=0)∧(rH r.ah.ai ([]:List RA)):=by exact ⟨Nat.zero_le _,rfl,fun k m a _ h=>by simp at h⟩
 refine bO (ι:={z:Nat×(List RA) // (z.1≤r.ah.ai.length)∧(z.2.length=z.1)∧(rH r.ah.ai z.2)}) [1,2,3,39] [1,3,4,5,6,7,8,9,10,11,12,13] U U (fun z=>[(40,(vI (z.1.1:Int)))]) (fun z=>[(bo (aU au.owns (r.ah.ai.take z.1.1) z.1.2)),(own J K 127 2 (List.zipWith au.cells r.ah.ai (ks z.1.2 az z.1.1)))]) (fun _=>rfl) (fun _=>rfl) (fun z=>r.ah.ai.length-z.1.1) ⟨(0,([]:List RA)),E⟩ (aQ U) (aK [1,3,4,5,6,7,8,9,10,11,12,13,0,2]) ?_
 clear E
 rintro ⟨⟨i,bz⟩,⟨AE,B,V⟩⟩ J26 AF
 try dsimp only at AE B V
 try dsimp only
 refine WS fun _ AK=>rP 1 [] I ?_
 refine RK AK<|al fun _ AM=>cM U (aS fun Ay=>?_) (aR fun Ay=>?_)
 ·refine WK AM<|al fun _ AN=>aw<|WS fun _ AO=>rP 2 [] I ?_
  refine RK AO<|dR cD [13,16] [10,11,12,13,14] [0] [0,1,2,3,4,5,6,7,8,9,10,11,12] [0,1,2,3,4,5,6,7,8,9,10,11,12,13] U U U U U<|eS U (MV U)<|eS U (SX (bQ U U) U U)<|eS U (FA 2 U fD U)<|eS U (L1 (vS J r.ah.ai.length K) 3 U cq U U)<|eS U (MV U)<|eS U (MV U)<|eS U (SX (bQ U U) U U)<|eS U (FA 2 U fD U)<|eS U (L1 (vS J r.ah.ai.length K) 3 U cq U U)<|eS U (MV U) ?_
  obtain ⟨x,hx⟩:=aO r.ah.ai i om
  obtain ⟨xa,s⟩:=aO az i om
  have Ax:(List.zipWith au.cells r.ah.ai (ks bz az i))[i]? =some (au.cells x xa):=dZ hx (zP B s)
  have BX:=(C.QL _ _ _ hx s).2
  refine fS U (IA i U (ak (n:=r.ah.ai.length) 13 U (g3 (by rw [iF B om]; exact C.og))) zV dc om om) ?_
  refine fS U (nK ((i*2)+1) U (ak (n:=r.ah.ai.length) 13 U (g3 (by rw [iF B om]; exact C.og))) (Nat.mul_pos om dc) fD U) ?_
  refine fS U (gF i 1 (vS xa.1 x.bu.length xa.2) U cq (ak (n:=r.ah.ai.length) 13 U (g3 (by rw [iF B om]; exact C.og))) Ax U dc U) ?_
  refine fS U (IA i U (ak (n:=r.ah.ai.length) 13 U (g3 (by rw [iF B om]; exact C.og))) zV dc om om) ?_
  refine fS U (nK ((i*2)+1) U (ak (n:=r.ah.ai.length) 13 U (g3 (by rw [iF B om]; exact C.og))) (Nat.mul_pos om dc) fD U) ?_
  refine e8 U<|iz U fun T32 Aj=>?_
  refine cX (Ly x.bu xa.1 xa.2 sd) (ay (show jc _ (rd xa.1 x.bu.length 3 (x.bu.map cG.cells)).holds from (dy 6 U (cj hx s (by simp [au.gY]))))<|aL) U fun BB BO=>?_
  obtain ⟨P,T⟩:=BB
  try dsimp only
  refine aH (Aj _ _ (aK [1,2,3,4,5,6,7,8,9,10,11,12,13]) (aK [1,2,3,4,5,6,7,8,9,10,11,12,13,14]) ?_)
  refine cp U fun T37 Ak=>eG (k:=i) (o:=1) (vs:=[(vS P x.bu.length T)]) (es':=(List.zipWith au.cells r.ah.ai (ks (bz++[(P,T)]) az (i+1)))) (C':=[_,_,_,_,_,_,_,_,_,_,_,_,_,_,(own J K 127 2 (List.zipWith au.cells r.ah.ai (ks (bz++[(P,T)]) az (i+1))))]) 14 U U U Tg U U U U Ax U dc (by exact xC (c:=au.cells) (b:=(P,T)) hx B s) U<|aH (Ak _ _ (aK [1,2,3,4,5,6,7,8,9,10,11,12,13]) ?_)
  refine fM U<|aD<|KK AN<|an<|rP 2 [] I ?_
  refine aH<|Qq 0 U fun t=>?_
  simp only [List.length_map] at t
  refine Iz (Y':=aU au.owns (r.ah.ai.take (i+1)) (bz++[(P,T)])) 13 0 U U (rQ (f:=au.owns) (b:=(P,T)) hx B) ?_
  have At:(vI (((i+1):Nat):Int))=(vI ((i:Int)+1)):=by exact cI om
  refine aT (AF ⟨((i+1),(bz++[(P,T)])),⟨om,by simp; omega,Ky V B hx t⟩⟩ _ _ _ U os (cN 4<|bk U At<|dx.nil _) (aK [1,2,3,4,5,6,7,8,9,10,11,12,0,13]))
 refine bB<|ae<|ae<|ax<|KK AI<|al fun _ AP=>?_
 have A6:bz.length=r.ah.ai.length:=by omega
 have A7:=V
 rw [show (ks bz az i)=bz from wE om,show r.ah.ai.take i=r.ah.ai from List.take_of_length_le om]
 refine dR cD [2,5,8,10,12,14] [1,3,5] [0,1,2] [0,1,2,4,5,6,7,8,9,10,11,12,13] [0,1,2,3,4,5,6,7,8,9,10,11,12,13] U U U U U<|eS U (FA 7 U fD U)<|fS U (L1 (vS slA r.aI.length slC) 3 U cq U U)<|eS U (FA 8 U fD U)<|fS U (L1 (vS drA r.bD.length drC) 3 U cq U U)<|eS U (FA 10 U fD U)<|fS U (L1 (vS heA r.aq.length heC) 3 U cq U U)<|eS U (FA 7 U fD U)<|eS U (FA 8 U fD U)<|eS U (FA 10 U fD U)<|e8 U<|iz U fun T40 Al=>?_
 refine cX (vN r.aI slA slC sd) (bp [8]) U fun BC BP=>?_
 obtain ⟨g,j⟩:=BC
 try dsimp only
 refine aH (Al _ _ (aK [1,2,3,5,6,7,8,9,10,11,12,13,14]) (aK [1,2,3,4,5,6,7,8,9,10,11,12,13,14]) ?_)
 refine iz U fun T45 Am=>?_
 refine cX (vN r.bD drA drC sd) (bp [10]) U fun BD BQ=>?_
 obtain ⟨w,AB⟩:=BD
 try dsimp only
 refine aH (Am _ _ (aK [2,3,4,6,7,8,9,10,11,12,13,14,15]) (aK [2,3,4,5,6,7,8,9,10,11,12,13,14,15]) ?_)
 refine iz U fun T50 An=>?_
 refine cX (LO (List.zipWith cz r.aq ha) heA r.aq.length heC sd (by exact fw M) (by exact Hj _ _)) (bp [12]) U fun BE BR=>?_
 obtain ⟨W,X⟩:=BE
 try dsimp only
 refine aH (An _ _ (aK [3,4,5,7,8,9,10,11,12,13,14,15,16]) (aK [3,4,5,6,7,8,9,10,11,12,13,14,15,16]) ?_)
 refine cp U fun T55 Ao=>Uo (bq.cells (bq.mk (bK.mk (aZ.mk (aM.mk a9 r.ah.aJ.length S)) r.ah.dM (aM.mk J r.ah.ai.length K) (aM.mk Y r.ah.ag.length Z) r.ah.bH r.ah.cv r.ah.bL) (aM.mk g r.aI.length j) (aM.mk drA r.bD.length drC) r.ed (aM.mk heA r.aq.length heC))) U z7 U U<|aH (Ao _ _ (aK [3,4,5,7,8,9,10,11,12,13,14,15,16]) ?_)
 refine cp U fun T56 Ap=>Uo (bq.cells (bq.mk (bK.mk (aZ.mk (aM.mk a9 r.ah.aJ.length S)) r.ah.dM (aM.mk J r.ah.ai.length K) (aM.mk Y r.ah.ag.length Z) r.ah.bH r.ah.cv r.ah.bL) (aM.mk g r.aI.length j) (aM.mk w r.bD.length AB) r.ed (aM.mk heA r.aq.length heC))) U z7 U U<|aH (Ap _ _ (aK [3,4,5,7,8,9,10,11,12,13,14,15,16]) ?_)
 refine cp U fun T57 Aq=>Uo (bq.cells (bq.mk (bK.mk (aZ.mk (aM.mk a9 r.ah.aJ.length S)) r.ah.dM (aM.mk J r.ah.ai.length K) (aM.mk Y r.ah.ag.length Z) r.ah.bH r.ah.cv r.ah.bL) (aM.mk g r.aI.length j) (aM.mk w r.bD.length AB) r.ed (aM.mk W r.aq.length X))) U TP U U<|aH (Aq _ _ (aK [3,4,5,7,8,9,10,11,12,13,14,15,16]) ?_)
 refine fM U<|KK AP<|al fun _ AQ=>WS fun _ AR=>rP 4 [] (mc 6 U I) ?_
 refine RK AR<|aw<|ox ?_
 have E:(0≤r.aq.length)∧(([]:List cQ).length=0)∧(∀ (k:Nat) y (a:cQ),r.aq[k]? =some y→([]:List cQ)[k]? =some a→a.2.length=y.length):=by exact ⟨Nat.zero_le _,rfl,fun k y a _ q=>by simp at q⟩
 refine bO (ι:={z:Nat×(List cQ) // (z.1≤r.aq.length)∧(z.2.length=z.1)∧(∀ (k:Nat) y (a:cQ),r.aq[k]? =some y→z.2[k]? =some a→a.2.length=y.length)}) [1,2,74] [2,3,4,5,6,7,8,9,10,11,12,13,14,15,16,17] U U (fun z=>[(75,(vI (z.1.1:Int)))]) (fun z=>[(bo (aU gT (r.aq.take z.1.1) z.1.2)),(own W X 47 1 (List.zipWith cz r.aq (ks z.1.2 ha z.1.1)))]) (fun _=>rfl) (fun _=>rfl) (fun z=>r.aq.length-z.1.1) ⟨(0,([]:List cQ)),E⟩ (aQ U) (aK [2,3,4,5,6,7,8,9,10,11,12,13,14,15,16,17,0,1]) ?_
 clear E
 rintro ⟨⟨h,hz⟩,⟨l,A,L⟩⟩ J60 AG
 try dsimp only at l A L
 try dsimp only
 refine WS fun _ AS=>rP 1 [] I ?_
 refine RK AS<|al fun _ AT=>bR U (aR fun Az=>?_) (aS fun Az=>?_)
 ·refine bB<|ae<|ae<|ax<|KK AQ<|al fun _ Ad=>?_
  have A9:te r.aq hz:=⟨om,L⟩
  rw [show (ks hz ha h)=hz from wE om,show r.aq.take h=r.aq from List.take_of_length_le om]
  refine an<|rP 1 [] (mc 5 U I) ?_
  refine OW U sY U<|RK Ad<|ar ?_
  refine LX hQ (a9,S,J,K,bz,Y,Z,g,j,w,AB,W,X,hz) [3,15,14,2,1,0,17,16] [0] (mc 4 U I) U (by show List.all _ _=true; simp only [fI,List.all_nil,gv,kp,Bool.and_true]; rfl) U U ?_
  exact ⟨⟨A6,A7⟩,A9⟩
 refine WK AT<|al fun _ AU=>aw<|WS fun _ AV=>rP 2 [] I ?_
 refine RK AV<|al fun _ AW=>dR cD [8,10] [6,7,8] [0] [0,1,2,3,4,5,6,7,8,9,10,11,12,13,14,15,16] [0,1,2,3,4,5,6,7,8,9,10,11,12,13,14,15,16,17] U U U U U<|eS U (FA 10 U fD U)<|eS U (L1 (vS W r.aq.length X) 5 U cq U U)<|eS U (MV U)<|eS U (FA 10 U fD U)<|eS U (L1 (vS W r.aq.length X) 5 U cq U U)<|eS U (MV U) ?_
 obtain ⟨ht,N⟩:=aO r.aq h om
 obtain ⟨D,O⟩:=aO ha h om
 have u:(List.zipWith cz r.aq (ks hz ha h))[h]? =some (cz ht D):=dZ N (zP A O)
 have AD:=hin.oI _ _ _ N O
 have e:=AD.og
 have A8:=AD.len
 refine fS U (IA h U (ak (n:=r.aq.length) 17 U (fw (by rw [iF A om]; exact M))) rm dc om om) ?_
 refine fS U (gF h 0 (vS D.1.1 ht.length D.1.2) U cq (ak (n:=r.aq.length) 17 U (fw (by rw [iF A om]; exact M))) u U dc U) ?_
 refine fS U (IA h U (ak (n:=r.aq.length) 17 U (fw (by rw [iF A om]; exact M))) rm dc om om) ?_
 refine e8 U<|iz U fun T67 Ar=>?_
 refine cX (I4 (List.zipWith aA.cells ht D.2) D.1.1 ht.length D.1.2 sd (by exact qf e) (by exact MZ _ _)) (ay (show jc _ (rd D.1.1 ht.length 7 (List.zipWith aA.cells ht D.2)).holds from (dy 13 U (cj N O cm)))<|aL) U fun BF BS=>?_
 obtain ⟨G,H⟩:=BF
 try dsimp only
 refine aH (Ar _ _ (aK [1,2,3,4,5,6,7,8,9,10,11,12,13,14,15,16,17]) (aK [1,2,3,4,5,6,7,8,9,10,11,12,13,14,15,16,17,18]) ?_)
 refine cp U fun T72 As=>eG (k:=h) (o:=0) (vs:=[(vS G ht.length H)]) (es':=(List.zipWith cz r.aq (ks (hz++[((G,H),D.2)]) ha (h+1)))) (C':=[_,_,_,_,_,_,_,_,_,_,_,_,_,_,_,_,_,_,(own W X 47 1 (List.zipWith cz r.aq (ks (hz++[((G,H),D.2)]) ha (h+1))))]) 18 U U U UL U U U U u U dc (by exact xC (b:=((G,H),D.2)) N A O) U<|aH (As _ _ (aK [1,2,3,4,5,6,7,8,9,10,11,12,13,14,15,16,17]) ?_)
 refine fM U<|KK AW<|WS fun _ AX=>rP 3 [] (mc 6 U I) ?_
 have v:(List.zipWith cz r.aq (ks (hz++[((G,H),D.2)]) ha (h+1)))[h]? =some (cz ht ((G,H),D.2)):=dZ N (LD A)
 refine rS (IA h U (ak (n:=r.aq.length) 18 U (fw (by rw [iF (by simp; omega) om]; exact M))) rm dc om om) ?_
 refine rS (gF h 0 (vS G ht.length H) U cq (ak (n:=r.aq.length) 18 U (fw (by rw [iF (by simp; omega) om]; exact M))) v U dc U) ?_
 refine rP 2 [] I ?_
 refine RK AX<|aw<|ox ?_
 have E:(0≤ht.length)∧(([]:List RA).length=0):=by exact ⟨Nat.zero_le _,rfl⟩
 refine bO (ι:={z:Nat×(List RA) // (z.1≤ht.length)∧(z.2.length=z.1)}) [1,2,5,74,75,93] [2,3,4,5,6,7,8,9,10,11,12,13,14,15,16,17,18,19] U U (fun z=>[(94,(vI (z.1.1:Int)))]) (fun z=>[(bo (aU ov (ht.take z.1.1) z.1.2)),(own G H 46 7 (List.zipWith aA.cells ht (ks z.1.2 D.2 z.1.1)))]) (fun _=>rfl) (fun _=>rfl) (fun z=>ht.length-z.1.1) ⟨(0,([]:List RA)),E⟩ (aQ U) (aK [2,3,4,5,6,7,8,9,10,11,12,13,14,15,16,17,18,19,0,1]) ?_
 clear E
 rintro ⟨⟨i,dz⟩,⟨p,F⟩⟩ J74 AH
 try dsimp only at p F
 try dsimp only
 refine WS fun _ AY=>rP 1 [] I ?_
 refine RK AY<|al fun _ AZ=>bR U (aR fun A0=>?_) (aS fun A0=>?_)
 ·refine bB<|ae<|ae<|ax<|aD<|KK AU<|an<|rP 2 [] I ?_
  refine aH ?_
  have BJ:dz.length=ht.length:=by omega
  rw [show (ks dz D.2 i)=dz from wE om,show ht.take i=ht from List.take_of_length_le om]
  refine Po (Z':=aU gT (r.aq.take (h+1)) (hz++[((G,H),dz)])) 16 18 19 U U (rQ (f:=gT) (b:=((G,H),dz)) N A) ?_
  rw [IH (y:=dz)]
  have Av:(vI (((h+1):Nat):Int))=(vI ((h:Int)+1)):=by exact cI om
  refine aT (AG ⟨((h+1),(hz++[((G,H),dz)])),⟨om,by simp; omega,Mx N L A dso⟩⟩ _ _ _ U os (cN 3<|bk U Av<|dx.nil _) (aK [1,2,3,4,5,6,7,8,9,10,11,12,13,14,15,16,0,17]))
 refine WK AZ<|al fun _ Aa=>aw<|WS fun _ Ab=>rP 2 [] I ?_
 refine RK Ab<|al fun _ Ac=>?_
 refine Ex 19 U (by rw [qf (by rw [iF F om]; exact e)]; omega) (fun BH Ba=>?_)
 refine an<|rP 3 [] (mc 5 U I) ?_
 refine rS (IA h U (ak (n:=r.aq.length) 17 U (fw (by rw [iF (by simp; omega) om]; exact M))) rm dc om om) ?_
 refine rS (gF h 0 (vS G ht.length H) U cq (ak (n:=r.aq.length) 17 U (fw (by rw [iF (by simp; omega) om]; exact M))) v U dc U) ?_
 refine rP 1 [] I ?_
 obtain ⟨d,hd⟩:=aO ht i om
 obtain ⟨da,AC⟩:=aO D.2 i om
 have Aw:(List.zipWith aA.cells ht (ks dz D.2 i))[i]? =some (aA.cells d da):=dZ hd (zP F AC)
 have BW:=AD.sig d (aX hd)
 refine rS (Vm i U Ba wT om om)<|rS (TF ((i*7)+4) U Ba fD U)<|bg 1 U<|RK Ac<|an<|rP 2 [] I ?_
 refine rS (SX (zE U U Ba) U U)<|rS (TF (((i*7)+4)+2) U Ba fD U) ?_
 refine rS (gF i 6 (vS da.1 d.cx.aj.length da.2) U cq (ak (n:=ht.length) 19 U (qf (by rw [iF F om]; exact e))) Aw U dc U) ?_
 refine cX (IY d.cx.aj da.1 da.2 sd) (ay (show jc _ (rd da.1 d.cx.aj.length 2 (d.cx.aj.map aN.cells)).holds from (dy 13 U (cj N O (cS _ (cj hd AC (by simp [aA.gY]))))))<|aL) U fun BG BT=>?_
 obtain ⟨R,AA⟩:=BG
 try dsimp only
 refine rS (SX (zE U U Ba) U U)<|rS (TF (((i*7)+4)+2) U Ba fD U)<|eG (k:=i) (o:=6) (vs:=[(vS R d.cx.aj.length AA)]) (es':=(List.zipWith aA.cells ht (ks (dz++[(R,AA)]) D.2 (i+1)))) (C':=[_,_,_,_,_,_,_,_,_,_,_,_,_,_,_,_,_,_,_,_,(own G H 46 7 (List.zipWith aA.cells ht (ks (dz++[(R,AA)]) D.2 (i+1))))]) 20 U U U Uu U U U U Aw U dc (by exact xC (c:=aA.cells) (b:=(R,AA)) hd F AC) U<|aH<|aD<|KK Aa<|an<|rP 2 [] I ?_
 refine aH<|Iz (Y':=aU ov (ht.take (i+1)) (dz++[(R,AA)])) 19 0 U U (rQ (f:=ov) (b:=(R,AA)) hd F) ?_
 have Au:(vI (((i+1):Nat):Int))=(vI ((i:Int)+1)):=by exact cI om
 refine aT (AH ⟨((i+1),(dz++[(R,AA)])),⟨om,by simp; omega⟩⟩ _ _ _ U os (cN 6<|bk U Au<|dx.nil _) (aK [1,2,3,4,5,6,7,8,9,10,11,12,13,14,15,16,17,18,0,19]))
end
section
open Go.RowKit
theorem wy (r:cf) (kA:OA) (kC:Nat) (az:List RA) (cA:OA) (cC:Nat) (bA:OA) (bC:Nat) (slA:OA) (slC:Nat) (drA:OA) (drC:Nat) (ha:List cQ) (heA:OA) (heC:Nat) (tz:List RA) (tA:OA) (tC:Nat) (ms:Value) (gw:Nat) (h i:Int) (t:aa) (hin:fg r az ha) (hok:eX r):
 lv Tryz.prog 45 [(vP gw),(vI h),(vI i),(vA (aa.cells t))] [(rd kA r.ah.aJ.length 9 (r.ah.aJ.map ao.cells)),(rd cA r.ah.ai.length 2 (List.zipWith au.cells r.ah.ai az)),(e7 (aU au.gY r.ah.ai az)),(rd bA r.ah.ag.length 4 (r.ah.ag.map bE.cells)),(rd slA r.aI.length 1 (r.aI.map iC)),(rd drA r.bD.length 1 (r.bD.map iC)),(rd heA r.aq.length 1 (List.zipWith cz r.aq ha)),(e7 (aU hU r.aq ha)),(rd tA ((cP r).length) 1 (List.zipWith Ei (cP r) tz)),(e7 (aU L9 (cP r) tz)),(bZ gw 88 (fQ.cells (fQ.mk (ot r kA kC cA cC bA bC slA slC drA drC heA heC) (aM.mk tA ((cP r).length) tC) ms)))] (fun (x:Bool×Int×(OA)×Nat×(OA)×Nat×(List RA)×(OA)×Nat×(OA)×Nat×(OA)×Nat×(OA)×Nat×(List cQ))=>bif x.1 then (vT [(vA (bq.cells (bq.mk (bK.mk (aZ.mk (aM.mk x.2.2.1 r.ah.aJ.length x.2.2.2.1)) r.ah.dM (aM.mk x.2.2.2.2.1 r.ah.ai.length x.2.2.2.2.2.1) (aM.mk x.2.2.2.2.2.2.2.1 r.ah.ag.length x.2.2.2.2.2.2.2.2.1) r.ah.bH r.ah.cv r.ah.bL) (aM.mk x.2.2.2.2.2.2.2.2.2.1 r.aI.length x.2.2.2.2.2.2.2.2.2.2.1) (aM.mk x.2.2.2.2.2.2.2.2.2.2.2.1 r.bD.length x.2.2.2.2.2.2.2.2.2.2.2.2.1) r.ed (aM.mk x.2.2.2.2.2.2.2.2.2.2.2.2.2.1 ((dL r.aq h i t).length) x.2.2.2.2.2.2.2.2.2.2.2.2.2.2.1)))),(vI 0)]) else (vT [(vA (bq.cells (bq.mk (bK.mk (aZ.mk (aM.mk none 0 0)) 0 (aM.mk none 0 0) (aM.mk none 0 0) 0 0 0) (aM.mk none 0 0) (aM.mk none 0 0) 0 (aM.mk none 0 0)))),(vI x.2.1)])) (fun (x:Bool×Int×(OA)×Nat×(OA)×Nat×(List RA)×(OA)×Nat×(OA)×Nat×(OA)×Nat×(OA)×Nat×(List cQ))=>(x.1=true→((qu r h i t)=0∧(x.2.2.2.2.2.2.1.length=r.ah.ai.length∧rH r.ah.ai x.2.2.2.2.2.2.1)∧te (dL r.aq h i t) x.2.2.2.2.2.2.2.2.2.2.2.2.2.2.2))∧(x.1=false→(x.2.1=(qu r h i t)∧ ¬ (qu r h i t)=0))) (fun (x:Bool×Int×(OA)×Nat×(OA)×Nat×(List RA)×(OA)×Nat×(OA)×Nat×(OA)×Nat×(OA)×Nat×(List cQ))=>bif x.1 then [(own x.2.2.1 x.2.2.2.1 122 9 (r.ah.aJ.map ao.cells)),(own x.2.2.2.2.1 x.2.2.2.2.2.1 127 2 (List.zipWith au.cells r.ah.ai x.2.2.2.2.2.2.1)),(bo (aU au.owns r.ah.ai x.2.2.2.2.2.2.1)),(own x.2.2.2.2.2.2.2.1 x.2.2.2.2.2.2.2.2.1 129 4 (r.ah.ag.map bE.cells)),(own x.2.2.2.2.2.2.2.2.2.1 x.2.2.2.2.2.2.2.2.2.2.1 3 1 (r.aI.map iC)),(own x.2.2.2.2.2.2.2.2.2.2.2.1 x.2.2.2.2.2.2.2.2.2.2.2.2.1 3 1 (r.bD.map iC)),(own x.2.2.2.2.2.2.2.2.2.2.2.2.2.1 x.2.2.2.2.2.2.2.2.2.2.2.2.2.2.1 47 1 (List.zipWith cz (dL r.aq h i t) x.2.2.2.2.2.2.2.2.2.2.2.2.2.2.2)),(bo (aU gT (dL r.aq h i t) x.2.2.2.2.2.2.2.2.2.2.2.2.2.2.2))] else []):=by
 have AI:=hin.line
 have AV:=hin.iM
 have AX:=hin.has
 have AQ:=hin.iN
 have AM:=hin.draw
 have AR:=dH (r:=r)
 have AZ:=hok.num
 have AY:=hok.nh
 refine dp TL Tryz.func45 U U fun w0 Q hQ hN=>?_
 try dsimp only
 refine WS fun _ AC=>fV U fun b2=>AL U Bk fun b3=>bg 1 U<|RK AC<|al fun _ AD=>WS fun _ J=>bg 1 U<|rS (SX (bQ U U) U U)<|rP 6 [] (mr 12 U I) ?_
 refine cU (xs:=[.tmp 18]) (cs:=[(vI h)]) U cy jd U U U U (by simp [Value.cells]) U U fun b6=>?_
 refine rS (CL (ej.eq (j6 0 ((r.aq.length:Int)-1) ([h]) (some ⟨b6,0,none⟩) 1 sd) cT) (ay (aY 0 U U (by simp [bJ]) U)<|aL) U) ?_
 refine rP 2 [] I ?_
 refine db (t:=22) U (bx fun AA=>?_) (bw fun AA=>?_)
 ·refine bg 11 U<|RK J<|aP U<|WS fun _ AE=>rS (SX (bj (xs:=[]) (cs:=(bq.cells (bq.mk (bK.mk (aZ.mk (aM.mk none 0 0)) 0 (aM.mk none 0 0) (aM.mk none 0 0) 0 0 0) (aM.mk none 0 0) (aM.mk none 0 0) 0 (aM.mk none 0 0)))) U U (bh GP U)) U U)<|tP U sY U<|rP 1 [] I ?_
  refine RK AE<|ar ?_
  refine LX hQ (false,2,none,0,none,0,[],none,0,none,0,none,0,none,0,[]) [] [0] (mc 1 U I) U (by first|rfl|(show List.all _ _=true; simp only [cond_true,fI,List.all_nil,gv,kp,Bool.and_true]; rfl)) U ?_ ?_
  ·first|rfl|(simp only [cond_true,ja]; rfl)
  ·refine ⟨AP,fun _=>?_⟩; first|exact pL (l_ (r:=r) (h:=h) (i:=i) (t:=t) om)|exact pL (l_ (r:=r) (h:=h) (i:=i) (t:=t) (fun q=>absurd q.2 asm))|exact pL (sO (r:=r) (t:=t) ⟨om,asm⟩ A hd H)
 refine rP 2 [] I ?_
 refine cU (xs:=[.tmp 24]) (cs:=[(vI i)]) U cy jd U U U U (by simp [Value.cells]) U U fun b8=>?_
 refine rS (CL (ej.eq (zU r kA kC az cA cC bA bC slA slC drA drC ha heA heC tz tA tC ms gw ([i]) (some ⟨b8,0,none⟩) 1 hin sd) cT) (lR [4,5,6,7,8,9,10,11,12,13,14]<|ay (aY 0 U U (by simp [bJ]) U)<|aL) U) ?_
 refine rP 3 [] I ?_
 refine db (t:=29) U (bx fun AB=>?_) (bw fun AB=>?_)
 ·refine bg 4 U<|RK J<|aP U<|WS fun _ AF=>rS (SX (bj (xs:=[]) (cs:=(bq.cells (bq.mk (bK.mk (aZ.mk (aM.mk none 0 0)) 0 (aM.mk none 0 0) (aM.mk none 0 0) 0 0 0) (aM.mk none 0 0) (aM.mk none 0 0) 0 (aM.mk none 0 0)))) U U (bh GP U)) U U)<|Ht U sY U<|rP 1 [] I ?_
  refine RK AF<|ar ?_
  refine LX hQ (false,2,none,0,none,0,[],none,0,none,0,none,0,none,0,[]) [] [0] (mc 2 U I) U (by first|rfl|(show List.all _ _=true; simp only [cond_true,fI,List.all_nil,gv,kp,Bool.and_true]; rfl)) U ?_ ?_
  ·first|rfl|(simp only [cond_true,ja]; rfl)
  ·refine ⟨AP,fun _=>?_⟩; first|exact pL (l_ (r:=r) (h:=h) (i:=i) (t:=t) om)|exact pL (l_ (r:=r) (h:=h) (i:=i) (t:=t) (fun q=>absurd q.2 asm))|exact pL (sO (r:=r) (t:=t) ⟨om,asm⟩ A hd H)
 refine fE 1 [] (mc 3 U I) U<|rS (CL (Fv t) (aL) U)<|rP 2 [] I ?_
 refine RK J<|cM U (bx fun Z=>?_) (bw fun Z=>?_)
 ·refine WS fun _ b=>rS (SX (bj (xs:=[]) (cs:=(bq.cells (bq.mk (bK.mk (aZ.mk (aM.mk none 0 0)) 0 (aM.mk none 0 0) (aM.mk none 0 0) 0 0 0) (aM.mk none 0 0) (aM.mk none 0 0) 0 (aM.mk none 0 0)))) U U (bh GP U)) U U)<|Ht U sY U<|rP 1 [] I ?_
  refine RK b<|ar ?_
  refine LX hQ (false,2,none,0,none,0,[],none,0,none,0,none,0,none,0,[]) [] [0] (mc 2 U I) U (by first|rfl|(show List.all _ _=true; simp only [cond_true,fI,List.all_nil,gv,kp,Bool.and_true]; rfl)) U ?_ ?_
  ·first|rfl|(simp only [cond_true,ja]; rfl)
  ·refine ⟨AP,fun _=>?_⟩; first|exact pL (l_ (r:=r) (h:=h) (i:=i) (t:=t) om)|exact pL (l_ (r:=r) (h:=h) (i:=i) (t:=t) (fun q=>absurd q.2 asm))|exact pL (sO (r:=r) (t:=t) ⟨om,asm⟩ A hd H)
 refine WK AD<|al fun _ e=>WS fun _ f=>bg 1 U<|rS (SX (bQ U U) U U)<|rP 4 [] (mr 14 U I) ?_
 obtain ⟨ht,A⟩:=aO r.aq ((h).toNat) om
 obtain ⟨C,E⟩:=aO ha ((h).toNat) om
 have w:(List.zipWith cz r.aq ha)[(h).toNat]? =some (cz ht C):=dZ A E
 refine rS (IA ((h).toNat) U (aG 10 U) rm dc om om) ?_
 have AH:=hin.oI _ _ _ A E
 have AN:=AH.og
 have AW:=(hok.oI ht (aX A)).1
 refine rS (gF ((h).toNat) 0 (vS C.1.1 ht.length C.1.2) U Pt (aG 10 U) w U dc U)<|rP 1 [] I ?_
 obtain ⟨d,hd⟩:=aO ht ((i).toNat) om
 obtain ⟨da,K⟩:=aO C.2 ((i).toNat) om
 have AG:(List.zipWith aA.cells ht C.2)[(i).toNat]? =some (aA.cells d da):=dZ hd K
 refine rS (IA ((i).toNat) U (show jc _ (rd C.1.1 ht.length 7 (List.zipWith aA.cells ht C.2)).holds from (dy 11 U (cj A E cm))) wT dc om om)<|rS (nK (((i).toNat)*7) U (show jc _ (rd C.1.1 ht.length 7 (List.zipWith aA.cells ht C.2)).holds from (dy 11 U (cj A E cm))) (Nat.mul_pos om dc) QF U)<|rS (gF ((i).toNat) 0 (vB d.Out) U Vp (show jc _ (rd C.1.1 ht.length 7 (List.zipWith aA.cells ht C.2)).holds from (dy 11 U (cj A E cm))) AG U dc U)<|RK f<|cM U (fun H=>?_) (fun H=>?_)
 ·refine WS fun _ g=>rS (SX (bj (xs:=[]) (cs:=(bq.cells (bq.mk (bK.mk (aZ.mk (aM.mk none 0 0)) 0 (aM.mk none 0 0) (aM.mk none 0 0) 0 0 0) (aM.mk none 0 0) (aM.mk none 0 0) 0 (aM.mk none 0 0)))) U U (bh GP U)) U U)<|Ht U sY U<|rP 1 [] I ?_
  refine RK g<|ar ?_
  refine LX hQ (false,8,none,0,none,0,[],none,0,none,0,none,0,none,0,[]) [] [0] (mc 2 U I) U (by first|rfl|(show List.all _ _=true; simp only [cond_true,fI,List.all_nil,gv,kp,Bool.and_true]; rfl)) U ?_ ?_
  ·first|rfl|(simp only [cond_true,ja]; rfl)
  ·refine ⟨AP,fun _=>?_⟩; first|exact pL (l_ (r:=r) (h:=h) (i:=i) (t:=t) om)|exact pL (l_ (r:=r) (h:=h) (i:=i) (t:=t) (fun q=>absurd q.2 asm))|exact pL (sO (r:=r) (t:=t) ⟨om,asm⟩ A hd H)
 refine WK e<|WS fun _ j=>bg 1 U<|rS (SX (bQ U U) U U)<|rP 1 [] I ?_
 refine rS (Vf (bq.cells (ot r kA kC cA cC bA bC slA slC drA drC heA heC)) 14 U Tc U U U)<|cX (NH r kA kC az cA cC bA bC slA slC drA drC ha heA heC hin) (bp [4,5,6,7,8,9,10,11]) U fun AK z=>?_
 obtain ⟨L,T,M,AT,S,N,V,O,W,P,X,R,Y,G⟩:=AK
 try dsimp only
 obtain ⟨⟨s,u⟩,D⟩:=z
 try dsimp only at s u D
 have AO:=D.1
 refine AL U Bk fun AS=>fR U sY U<|RK j<|al fun _ l=>?_
 obtain ⟨B,F⟩:=aO G ((h).toNat) (by have:=D.1; omega)
 have y:(List.zipWith cz r.aq G)[(h).toNat]? =some (cz ht B):=dZ A F
 have AJ:=D.2 _ _ _ A F
 refine P5 8 A F U U ?_
 try dsimp only
 refine dF cD 9 kr<|mI 3 [] (mc 3 U I) U<|dS (IA ((h).toNat) U (ak (n:=r.aq.length) 10 U (fw D.1)) rm dc om om)<|dS (gF ((h).toNat) 0 (vS B.1.1 ht.length B.1.2) U Pt (ak (n:=r.aq.length) 10 U (fw D.1)) y U dc U)<|dP 2 [] (mc 14 U I) ?_
 refine dS (SX (bj (xs:=[(1,.const (vB true)),(2,.tmp 59)]) (cs:=(br.cells (br.mk false true t (eK.mk 0 0 (aM.mk none 0 0))))) U U (bh Pe U)) U U) ?_
 obtain ⟨K,AU⟩:=aO B.2 ((i).toNat) om
 have v:(List.zipWith aA.cells ht B.2)[(i).toNat]? =some (aA.cells d K):=dZ hd AU
 refine dS (IA ((i).toNat) U (ak (n:=ht.length) 0 U (qf AJ)) wT dc om om)<|cO<|eG (k:=(i).toNat) (o:=0) (vs:=(br.cells (br.mk false true t (eK.mk 0 0 (aM.mk none 0 0))))) (es':=(List.zipWith aA.cells (ht.set (i).toNat (kK t)) (B.2.set (i).toNat (none,0)))) (C':=[(own B.1.1 B.1.2 46 7 (List.zipWith aA.cells (ht.set (i).toNat (kK t)) (B.2.set (i).toNat (none,0)))),_,_,_,_,_,_,_,_,_,_,_,_,_,_,_,_,_,_,_,_,_,_,_,_,_]) 0 U U U QE U U U U v U dc (by exact qh (c:=aA.cells) (m:=kK t) (a:=(none,0))) U<|RK l<|al fun _ p=>Pz (d':=kK t) 1 hd AU U U U ?_
 refine M_ (h':=(ht.set (i).toNat (kK t))) (a':=(B.1,(B.2.set (i).toNat (none,0)))) 2 0 1 om (by have:=D.1; omega) U U ?_
 rw [← vW A,show List.zipWith cz r.aq G=List.zipWith cz (dL r.aq h i t) (G.set (h).toNat (B.1,(B.2.set (i).toNat (none,0)))) from by rw [vW A]; exact (HN A F (by rw [List.length_set])).symm]
 replace D:=Pg (i:=i) (t:=t) D A F
 refine an<|fE 1 [] (mc 1 U I) U<|Uk U sY U<|rP 1 [] I ?_
 refine RK p<|ar ?_
 refine LX hQ (true,0,L,T,M,AT,S,N,V,O,W,P,X,R,Y,(G.set (h).toNat (B.1,(B.2.set (i).toNat (none,0))))) [2,3,4,5,6,7,8,0] [0] (mc 11 U I) U (by first|rfl|(show List.all _ _=true; simp only [cond_true,fI,List.all_nil,gv,kp,Bool.and_true]; rfl)) U ?_ ?_
 ·first|rfl|(simp only [cond_true,ja]; rfl)
 ·exact ⟨fun _=>⟨NB ⟨om,Z⟩ A hd H,⟨s,u⟩,D⟩,N_⟩
end
section
open Go.RowKit
theorem KI (h i:Int) (t:aa) (r:cf) (kA:OA) (kC:Nat) (az:List RA) (cA:OA) (cC:Nat) (bA:OA) (bC:Nat) (slA:OA) (slC:Nat) (drA:OA) (drC:Nat) (ha:List cQ) (heA:OA) (heC:Nat) (hin:fg r az ha):
 lv Tryz.prog 21 [(vA (bq.cells (ot r kA kC cA cC bA bC slA slC drA drC heA heC))),(vI h),(vI i),(vA (aa.cells t))] [(rd dG 3 2 dh),(rd kA r.ah.aJ.length 9 (r.ah.aJ.map ao.cells)),(rd cA r.ah.ai.length 2 (List.zipWith au.cells r.ah.ai az)),(e7 (aU au.gY r.ah.ai az)),(rd bA r.ah.ag.length 4 (r.ah.ag.map bE.cells)),(rd slA r.aI.length 1 (r.aI.map iC)),(rd drA r.bD.length 1 (r.bD.map iC)),(rd heA r.aq.length 1 (List.zipWith cz r.aq ha)),(e7 (aU hU r.aq ha))] (fun (x:Bool×Int×(OA)×Nat×(OA)×Nat×(List RA)×(OA)×Nat×(OA)×Nat×(OA)×Nat×(OA)×Nat×(List cQ))=>bif x.1 then (vT [(vA (bq.cells (bq.mk (bK.mk (aZ.mk (aM.mk x.2.2.1 r.ah.aJ.length x.2.2.2.1)) r.ah.dM (aM.mk x.2.2.2.2.1 r.ah.ai.length x.2.2.2.2.2.1) (aM.mk x.2.2.2.2.2.2.2.1 r.ah.ag.length x.2.2.2.2.2.2.2.2.1) r.ah.bH r.ah.cv r.ah.bL) (aM.mk x.2.2.2.2.2.2.2.2.2.1 r.aI.length x.2.2.2.2.2.2.2.2.2.2.1) (aM.mk x.2.2.2.2.2.2.2.2.2.2.2.1 r.bD.length x.2.2.2.2.2.2.2.2.2.2.2.2.1) r.ed (aM.mk x.2.2.2.2.2.2.2.2.2.2.2.2.2.1 ((dL r.aq h i t).length) x.2.2.2.2.2.2.2.2.2.2.2.2.2.2.1)))),(vI 0)]) else (vT [(vA (bq.cells (bq.mk (bK.mk (aZ.mk (aM.mk none 0 0)) 0 (aM.mk none 0 0) (aM.mk none 0 0) 0 0 0) (aM.mk none 0 0) (aM.mk none 0 0) 0 (aM.mk none 0 0)))),(vI x.2.1)])) (fun (x:Bool×Int×(OA)×Nat×(OA)×Nat×(List RA)×(OA)×Nat×(OA)×Nat×(OA)×Nat×(OA)×Nat×(List cQ))=>(x.1=true→((dQ r h i t)=0∧(x.2.2.2.2.2.2.1.length=r.ah.ai.length∧rH r.ah.ai x.2.2.2.2.2.2.1)∧te (dL r.aq h i t) x.2.2.2.2.2.2.2.2.2.2.2.2.2.2.2))∧(x.1=false→(x.2.1=(dQ r h i t)∧ ¬ (dQ r h i t)=0))) (fun (x:Bool×Int×(OA)×Nat×(OA)×Nat×(List RA)×(OA)×Nat×(OA)×Nat×(OA)×Nat×(OA)×Nat×(List cQ))=>bif x.1 then [(own x.2.2.1 x.2.2.2.1 122 9 (r.ah.aJ.map ao.cells)),(own x.2.2.2.2.1 x.2.2.2.2.2.1 127 2 (List.zipWith au.cells r.ah.ai x.2.2.2.2.2.2.1)),(bo (aU au.owns r.ah.ai x.2.2.2.2.2.2.1)),(own x.2.2.2.2.2.2.2.1 x.2.2.2.2.2.2.2.2.1 129 4 (r.ah.ag.map bE.cells)),(own x.2.2.2.2.2.2.2.2.2.1 x.2.2.2.2.2.2.2.2.2.2.1 3 1 (r.aI.map iC)),(own x.2.2.2.2.2.2.2.2.2.2.2.1 x.2.2.2.2.2.2.2.2.2.2.2.2.1 3 1 (r.bD.map iC)),(own x.2.2.2.2.2.2.2.2.2.2.2.2.2.1 x.2.2.2.2.2.2.2.2.2.2.2.2.2.2.1 47 1 (List.zipWith cz (dL r.aq h i t) x.2.2.2.2.2.2.2.2.2.2.2.2.2.2.2)),(bo (aU gT (dL r.aq h i t) x.2.2.2.2.2.2.2.2.2.2.2.2.2.2.2))] else []):=by
 have u:=hin.line
 have AD:=hin.iM
 have AE:=hin.has
 have AA:=hin.iN
 have z:=hin.draw
 have e:=dH (r:=r)
 refine dp kr Tryz.func21 U U fun w0 Q hQ hN=>?_
 try dsimp only
 refine WS fun _ s=>fV U fun b2=>fV U fun b3=>AL U Bk fun b4=>bg 1 U<|RK s<|WS fun _ Y=>rP 1 [] (mc 2 U I) ?_
 refine cX (oa r kA kC az cA cC bA bC slA slC drA drC ha heA heC hin) (bp [3,4,5,6,7,8,9,10,11]) U fun y6 g=>?_
 obtain ⟨k,AC,q,S,m,o,p⟩:=y6
 cases k
 ·obtain ⟨M,he⟩:=g.2 rfl
  try dsimp only at M he
  subst M
  try dsimp only [cond_true,cond_false,List.cons_append,List.nil_append]
  refine bg 5 U<|RK Y<|al fun _ y=>WS fun _ AB=>rP 2 [] I ?_
  refine RK AB<|bR U (bw fun T=>?_) (bx fun T=>?_)
  ·exact absurd T he
  refine WS fun _ V=>rS (SX (bj (xs:=[]) (cs:=(bq.cells (bq.mk (bK.mk (aZ.mk (aM.mk none 0 0)) 0 (aM.mk none 0 0) (aM.mk none 0 0) 0 0 0) (aM.mk none 0 0) (aM.mk none 0 0) 0 (aM.mk none 0 0)))) U U (bh GP U)) U U)<|bg 1 U<|fR U sY U<|rP 1 [] I ?_
  refine RK V<|ar ?_
  refine LX hQ (false,(bX r),none,0,none,0,[],none,0,none,0,none,0,none,0,[]) [] [0] (mc 0 U I) U (by first|rfl|(show List.all _ _=true; simp only [cond_true,fI,List.all_nil,gv,kp,Bool.and_true]; rfl)) U ?_ ?_
  ·first|rfl|(simp only [cond_true,ja]; rfl)
  ·refine ⟨AP,fun _=>?_⟩; first|exact JV (rN (h:=h) (i:=i) (t:=t) he) he|exact JV (oU (h:=h) (i:=i) (t:=t) b) he
 obtain ⟨he,f⟩:=g.1 rfl
 try dsimp only [cond_true,cond_false,List.cons_append,List.nil_append]
 have b:=he
 try dsimp only at f
 have d:=(iG he).2
 refine bg 5 U<|RK Y<|al fun _ W=>WS fun _ X=>bg 1 U<|rS (SX (b_ (r:= .bool false) U U U ng) U U)<|RK X<|aV U<|WK W<|WS fun _ N=>rP 4 [] (mc 5 U I) ?_
 refine cX (wy r kA kC az cA cC bA bC slA slC drA drC ha heA heC p m o (Value.map (some S)) q h i t hin (by exact d)) (lR [8,9,10,11,12,13,14,15]<|ay (ak (n:=(cP r).length) 1 U (mO (by rw [e]; exact f)))<|ay (dW 2 U sT)<|fH 0 U U<|aL) U fun v P=>?_
 obtain ⟨l,w,A,G,B,H,R,C,AF,D,J,E,K,F,L,j⟩:=v
 cases l
 ·obtain ⟨M,he⟩:=P.2 rfl
  try dsimp only at M he
  subst M
  try dsimp only [cond_true,cond_false,List.cons_append,List.nil_append]
  refine bg 2 U<|OW U sY U<|rP 1 [] I ?_
  refine RK N<|ar ?_
  refine LX hQ (false,(qu r h i t),none,0,none,0,[],none,0,none,0,none,0,none,0,[]) [] [0] (mc 4 U I) U (by first|rfl|(show List.all _ _=true; simp only [cond_true,fI,List.all_nil,gv,kp,Bool.and_true]; rfl)) U ?_ ?_
  ·first|rfl|(simp only [cond_true,ja]; rfl)
  ·refine ⟨AP,fun _=>?_⟩; first|exact JV (rN (h:=h) (i:=i) (t:=t) he) he|exact JV (oU (h:=h) (i:=i) (t:=t) b) he
 obtain ⟨O,⟨Z,a⟩,c⟩:=P.1 rfl
 try dsimp only [cond_true,cond_false,List.cons_append,List.nil_append]
 try dsimp only at O Z a c
 refine bg 2 U<|jh (vs:=(bq.cells (bq.mk (bK.mk (aZ.mk (aM.mk A r.ah.aJ.length G)) r.ah.dM (aM.mk B r.ah.ai.length H) (aM.mk C r.ah.ag.length AF) r.ah.bH r.ah.cv r.ah.bL) (aM.mk D r.aI.length J) (aM.mk E r.bD.length K) r.ed (aM.mk F ((dL r.aq h i t).length) L)))) (cs':=(bq.cells (bq.mk (bK.mk (aZ.mk (aM.mk A r.ah.aJ.length G)) r.ah.dM (aM.mk B r.ah.ai.length H) (aM.mk C r.ah.ag.length AF) r.ah.bH r.ah.cv r.ah.bL) (aM.mk D r.aI.length J) (aM.mk E r.bD.length K) r.ed (aM.mk F ((dL r.aq h i t).length) L)))) (C':=[_,_,_,_,_,_,_,_,_,_,_,_,(bZ b4 32 (bq.cells (bq.mk (bK.mk (aZ.mk (aM.mk A r.ah.aJ.length G)) r.ah.dM (aM.mk B r.ah.ai.length H) (aM.mk C r.ah.ag.length AF) r.ah.bH r.ah.cv r.ah.bL) (aM.mk D r.aI.length J) (aM.mk E r.bD.length K) r.ed (aM.mk F ((dL r.aq h i t).length) L)))),_,_,_,_,_,_,_,_,_,_,_]) 12 U U U sY U U U U U U U<|rP 1 [] I ?_
 refine RK N<|ar ?_
 refine LX hQ (true,0,A,G,B,H,R,C,AF,D,J,E,K,F,L,j) [0,1,2,3,4,5,6,7] [0] (mc 12 U I) U (by first|rfl|(show List.all _ _=true; simp only [cond_true,fI,List.all_nil,gv,kp,Bool.and_true]; rfl)) U ?_ ?_
 ·first|rfl|(simp only [cond_true,ja]; rfl)
 ·exact ⟨fun _=>⟨(oU he).trans O,⟨Z,a⟩,c⟩,N_⟩
end
section
open Go.RowKit
theorem Mj (la:List Int) (laA:OA) (laC:Nat) (lb:List Int) (lbA:OA) (lbC:Nat) (h1:la.length≤1000000) (h2:lb.length≤1000000):
 ej Tryz.prog 46 [(vS laA la.length laC),(vS lbA lb.length lbC)] [(rd laA la.length 1 (la.map iC)),(rd lbA lb.length 1 (lb.map iC))] (vB (decide (la=lb))):=by
 refine bI kr Tryz.func46 U U fun W Q hQ hN=>?_
 try dsimp only
 refine WS fun _ K=>bg 1 U<|RK K<|al fun _ L=>WS fun _ M=>rP 5 [] I ?_
 refine RK M<|cM U (bx fun hl=>?_) (bw fun hl=>?_)
 ·refine WS fun _ N=>rP 1 [] I ?_
  refine RK N<|ar<|Q1 hQ U U U ?_
  first|exact cB (cr (nA hx hy h)).symm|exact cB (fO (nG om A om)).symm|exact cB (cr (fun e=>by subst e; omega)).symm
 refine WK L<|al fun _ O=>WS fun _ P=>rP 3 [] I ?_
 refine RK P<|aw ?_
 have B:(0≤la.length)∧(la.take 0=lb.take 0):=by simp
 refine bO (ι:={z:Nat // (z≤la.length)∧(la.take z=lb.take z)}) [0,1,12] [0,1] U U (fun z=>[(13,(vI (z.1:Int)))]) (fun z=>[]) (fun _=>rfl) (fun _=>rfl) (fun z=>la.length-z.1) ⟨0,B⟩ (aQ U) (aK [0,1]) ?_
 clear B
 rintro ⟨i,⟨T,A⟩⟩ J7 J
 try dsimp only
 refine WS fun _ R=>rP 1 [] I ?_
 refine RK R<|al fun _ S=>bR U (aR fun AB=>?_) (aS fun AB=>?_)
 ·refine bB<|ae<|ae<|ax<|KK O<|WS fun _ G=>rP 1 [] I ?_
  refine RK G<|ar<|Q1 hQ U U U ?_
  first|exact cB (cr (nA hx hy h)).symm|exact cB (fO (nG om A om)).symm|exact cB (cr (fun e=>by subst e; omega)).symm
 refine WK S<|al fun _ C=>aw<|WS fun _ D=>bg 2 U<|RK D<|al fun _ E=>dF cD 9 kr<|dP 2 [] I ?_
 obtain ⟨x,hx⟩:=aO la i om
 have AA:=bP iC hx
 refine dS (IA i U (aG 0 U) cy dc om om)<|dS (gF i 0 (vI x) U cq (aG 0 U) AA U dc U)<|dP 2 [] I ?_
 obtain ⟨y,hy⟩:=aO lb i om
 have V:=bP iC hy
 refine dS (IA i U (aG 1 U) cy dc om om)<|dS (gF i 0 (vI y) U cq (aG 1 U) V U dc U)<|dP 1 [] I ?_
 refine cO<|RK E<|cM U (bx fun h=>?_) (bw fun h=>?_)
 ·refine WS fun _ F=>rP 1 [] I ?_
  refine RK F<|ar<|Q1 hQ U U U ?_
  first|exact cB (cr (nA hx hy h)).symm|exact cB (fO (nG om A om)).symm|exact cB (cr (fun e=>by subst e; omega)).symm
 refine bY<|aD<|KK C<|an<|rP 2 [] I ?_
 refine aH ?_
 have H:(vI (((i+1):Nat):Int))=(vI ((i:Int)+1)):=by exact cI om
 refine aT (J ⟨(i+1),⟨om,ue A hx hy h⟩⟩ _ _ _ U os (cN 3<|bk U H<|dx.nil _) (aK [0,1]))
theorem Gt (h i:Int) (t:aa) (r:cf) (kA:OA) (kC:Nat) (az:List RA) (cA:OA) (cC:Nat) (bA:OA) (bC:Nat) (slA:OA) (slC:Nat) (drA:OA) (drC:Nat) (ha:List cQ) (heA:OA) (heC:Nat) (hin:fg r az ha):
 lv Tryz.prog 23 [(vA (bq.cells (ot r kA kC cA cC bA bC slA slC drA drC heA heC))),(vI h),(vI i),(vA (aa.cells t))] [(rd dG 3 2 dh),(rd kA r.ah.aJ.length 9 (r.ah.aJ.map ao.cells)),(rd cA r.ah.ai.length 2 (List.zipWith au.cells r.ah.ai az)),(e7 (aU au.gY r.ah.ai az)),(rd bA r.ah.ag.length 4 (r.ah.ag.map bE.cells)),(rd slA r.aI.length 1 (r.aI.map iC)),(rd drA r.bD.length 1 (r.bD.map iC)),(rd heA r.aq.length 1 (List.zipWith cz r.aq ha)),(e7 (aU hU r.aq ha))] (fun (x:(OA)×Nat)=>(vT [(vS x.1 ((cw r h i t).length) x.2),(vI (dQ r h i t))])) (fun (x:(OA)×Nat)=>True) (fun (x:(OA)×Nat)=>[(own x.1 x.2 3 1 ((cw r h i t).map iC))]):=by
 have At:=hin.line
 have BH:=hin.iM
 have BI:=hin.has
 have A6:=hin.iN
 have A4:=hin.draw
 have Ac:=dH (r:=r)
 refine dp kr Tryz.func23 U U fun w0 Q hQ hN=>?_
 try dsimp only
 refine WS fun _ As=>fV U fun b2=>fV U fun b3=>bg 2 U<|RK As<|WS fun _ AE=>rP 1 [] (mc 1 U I) ?_
 refine cX (oa r kA kC az cA cC bA bC slA slC drA drC ha heA heC hin) (bp [2,3,4,5,6,7,8,9,10]) U fun y5 Ad=>?_
 obtain ⟨Af,BF,v,G,f,g,z3⟩:=y5
 cases Af
 ·obtain ⟨B,he⟩:=Ad.2 rfl
  try dsimp only at B he
  subst B
  try dsimp only [cond_true,cond_false,List.cons_append,List.nil_append]
  refine bg 5 U<|RK AE<|al fun _ A2=>WS fun _ AA=>rP 2 [] I ?_
  refine RK AA<|bR U (bw fun w=>?_) (bx fun w=>?_)
  ·exact absurd w he
  refine WS fun _ AB=>rP 1 [] I ?_
  have A:dQ r h i t=bX r:=rN he
  have C:cw r h i t=[]:=xO (by rw [A]; exact he)
  refine dU 3 1 ?_
  rw [show (own none 0 3 1 ([]:List (List Value)))=own none 0 3 1 ((cw r h i t).map iC) from by rw [C]; rfl]
  refine rP 2 [] I ?_
  refine RK AB<|ar ?_
  refine LX hQ (none,0) [0] [] I U U U ?_ ?_
  ·first|rfl|(rw [A,C]; rfl)|(rw [A]; rfl)
  ·trivial
 obtain ⟨he,m⟩:=Ad.1 rfl
 try dsimp only [cond_true,cond_false,List.cons_append,List.nil_append]
 have BK:=he
 try dsimp only at m
 have AZ:=(iG he).2
 refine bg 5 U<|RK AE<|al fun _ AC=>WS fun _ AD=>bg 1 U<|rS (SX (b_ (r:= .bool false) U U U ng) U U)<|RK AD<|aV U<|WK AC<|WS fun _ Z=>rP 4 [] (mc 4 U I) ?_
 refine cX (wy r kA kC az cA cC bA bC slA slC drA drC ha heA heC z3 f g (Value.map (some G)) v h i t hin (by exact AZ)) (lR [7,8,9,10,11,12,13,14]<|ay (ak (n:=(cP r).length) 1 U (mO (by rw [Ac]; exact m)))<|ay (dW 2 U sT)<|fH 0 U U<|aL) U fun Av d=>?_
 obtain ⟨Ag,A0,L,S,M,T,o,N,BJ,O,V,P,W,R,X,Ae⟩:=Av
 cases Ag
 ·obtain ⟨B,he⟩:=d.2 rfl
  try dsimp only at B he
  subst B
  try dsimp only [cond_true,cond_false,List.cons_append,List.nil_append]
  refine bg 3 U<|AL U Bk fun BB=>fR U sY U<|bg 1 U<|RK Z<|al fun _ A3=>WS fun _ AF=>rP 2 [] I ?_
  refine RK AF<|bR U (bw fun y=>?_) (bx fun y=>?_)
  ·exact absurd y he
  refine WS fun _ AG=>rP 1 [] I ?_
  have A:dQ r h i t=qu r h i t:=oU BK
  have C:cw r h i t=[]:=xO (by rw [A]; exact he)
  refine dU 3 1 ?_
  rw [show (own none 0 3 1 ([]:List (List Value)))=own none 0 3 1 ((cw r h i t).map iC) from by rw [C]; rfl]
  refine rP 2 [] I ?_
  refine RK AG<|ar ?_
  refine LX hQ (none,0) [0] [] I U U U ?_ ?_
  ·first|rfl|(rw [A,C]; rfl)|(rw [A]; rfl)
  ·trivial
 obtain ⟨E,⟨j,AW⟩,J⟩:=d.1 rfl
 try dsimp only [cond_true,cond_false,List.cons_append,List.nil_append]
 try dsimp only at E j AW J
 have l:dQ r h i t=0:=(oU BK).trans E
 have AX:=hin.rep j AW J
 refine bg 3 U<|AL U Bk fun BC=>fR U sY U<|bg 1 U<|RK Z<|al fun _ AH=>WS fun _ AI=>bg 1 U<|rS (SX (b_ (r:= .bool false) U U U ng) U U)<|RK AI<|aV U<|WK AH<|WS fun _ AJ=>rP 1 [] (mc 0 U I) ?_
 refine cX (oa (jz r h i t) L S o M T N BJ O V P W Ae R X (by exact AX)) (fH 15 U U<|ay (ak (n:=r.ah.aJ.length) 1 U sm)<|ay (ak (n:=r.ah.ai.length) 2 U (g3 j))<|ay (dW 3 U iY)<|ay (ak (n:=r.ah.ag.length) 4 U sm)<|ay (ak (n:=r.aI.length) 5 U sm)<|ay (ak (n:=r.bD.length) 6 U sm)<|ay (ak (n:=(dL r.aq h i t).length) 7 U (fw J.1))<|ay (hO 8 U J)<|aL) U fun Aw e=>?_
 obtain ⟨Ah,A1,s,p,Ai,Aj,Uz⟩:=Aw
 cases Ah
 ·obtain ⟨B,he⟩:=e.2 rfl
  try dsimp only at B he
  subst B
  try dsimp only [cond_true,cond_false,List.cons_append,List.nil_append]
  exact absurd (yq l) he
 obtain ⟨he,m⟩:=e.1 rfl
 try dsimp only [cond_true,cond_false,List.cons_append,List.nil_append]
 have Aa:=lM BK
 have F:=ni BK
 have Ab:=lM he
 have A5:=ni he
 refine bg 5 U<|RK AJ<|WS fun _ AM=>bg 1 U<|RK AM<|al fun _ AN=>WS fun _ AO=>bg 1 U<|rS (SX (bQ U U) U U)<|rP 2 [] (mc 13 U I) ?_
 refine cX (FZ G) (aL) U fun An A7=>?_
 try dsimp only
 refine cX (yQ (aB r) G An sd) (bp [17,0]) U fun Ax A8=>?_
 obtain ⟨BA,BE⟩:=Ax
 try dsimp only
 rw [show (aB r).length=(dk ((aB r).map (·.1))).length from by rw [gn,List.length_map]]
 refine rP 1 [] I ?_
 have AY:(dk ((aB r).map (·.1))).length≤5:=by rw [gn,List.length_map]; exact F
 refine rP 1 [] I ?_
 refine RK AO<|aw<|fX 3 1 ?_
 have D:(0≤(dk ((aB r).map (·.1))).length):=by exact Nat.zero_le _
 refine bO (ι:={z:Nat×(OA)×Nat // (z.1≤(dk ((aB r).map (·.1))).length)}) [10,13,47,48] [1,3,4,5,6,8,9,10,11,12,13,14,15,16,17,18,19,22,23,24,25,26,27,28,29,30] U U (fun z=>[(15,(vS z.1.2.1 ((((dk ((aB r).map (·.1))).take z.1.1).filter (fun u=> !decide (di (aB r) u (aF (aB r) u)=di (aB (jz r h i t)) u (aF (aB (jz r h i t)) u)))).length) z.1.2.2)),(49,(vI (z.1.1:Int)))]) (fun z=>[(own z.1.2.1 z.1.2.2 3 1 ((((dk ((aB r).map (·.1))).take z.1.1).filter (fun u=> !decide (di (aB r) u (aF (aB r) u)=di (aB (jz r h i t)) u (aF (aB (jz r h i t)) u)))).map iC))]) (fun _=>rfl) (fun _=>rfl) (fun z=>(dk ((aB r).map (·.1))).length-z.1.1) ⟨(0,none,0),D⟩ (aQ U) (aK [1,3,4,5,6,8,9,10,11,12,13,14,15,16,17,18,19,22,23,24,25,26,27,28,29,30,0]) ?_
 clear D
 rintro ⟨⟨k,a,c⟩,K⟩ J65 Y
 try dsimp only at K
 try dsimp only
 have BG:((((dk ((aB r).map (·.1))).take k).filter (fun u=> !decide (di (aB r) u (aF (aB r) u)=di (aB (jz r h i t)) u (aF (aB (jz r h i t)) u))))).length≤12:=Nat.le_trans (List.length_filter_le _ _) (by rw [List.length_take]; omega)
 refine WS fun _ AP=>rP 1 [] I ?_
 refine RK AP<|al fun _ AQ=>bR U (aR fun Ar=>?_) (aS fun Ar=>?_)
 ·refine bB<|ae<|ae<|ax<|KK AN<|WS fun _ AT=>rP 1 [] I ?_
  have A:=l
  have C:cw r h i t=(((dk ((aB r).map (·.1))).take k).filter (fun u=> !decide (di (aB r) u (aF (aB r) u)=di (aB (jz r h i t)) u (aF (aB (jz r h i t)) u)))):=by rw [D0 l,List.take_of_length_le om]
  rw [← C]
  refine rP 2 [] I ?_
  refine RK AT<|ar ?_
  refine LX hQ (a,c) [26] [] I U U U ?_ ?_
  ·first|rfl|(rw [A,C]; rfl)|(rw [A]; rfl)
  ·trivial
 refine WK AQ<|al fun _ b=>aw<|WS fun _ AR=>?_
 obtain ⟨x,hx⟩:=aO (dk ((aB r).map (·.1))) k om
 have Au:=bP iC hx
 refine rS (IA k U (ak (n:=(dk ((aB r).map (·.1))).length) 0 U sm) cy dc om om)<|rS (gF k 0 (vI x) U cq (ak (n:=(dk ((aB r).map (·.1))).length) 0 U sm) Au U dc U)<|bg 1 U<|RK AR<|WS fun _ AS=>rP 2 [] I ?_
 refine cX (AK r kA kC cA cC bA bC slA slC drA drC heA heC f ((cP r).length) g G v (aB r) x (by exact Aa) (by exact BO (aX hx)) om) (bp [13,16]) U fun Ay A9=>?_
 obtain ⟨Ak,Ao⟩:=Ay
 try dsimp only
 refine rP 2 [] I ?_
 refine cX (AK (cf.mk r.ah r.aI r.bD r.ed (dL r.aq h i t)) L S M T N BJ O V P W R X Ai ((cP (jz r h i t)).length) Aj p s (aB (jz r h i t)) x (by exact Ab) (by exact fun q=>by have:=Jr E x; rw [q] at this; exact BO (aX hx) (Option.not_isSome_iff_eq_none.1 (by rw [← this]; decide))) om) (bp [2,5]) U fun Az A_=>?_
 obtain ⟨Al,Ap⟩:=Az
 try dsimp only
 refine rS (CL (Mj (di (aB r) x (aF (aB r) x)) Ak Ao (di (aB (jz r h i t)) x (aF (aB (jz r h i t)) x)) Al Ap (by exact Nat.le_trans xK om) (by exact Nat.le_trans xK om)) (ay (ak (n:=(di (aB r) x (aF (aB r) x)).length) 1 U sm)<|ay (ak (n:=(di (aB (jz r h i t)) x (aF (aB (jz r h i t)) x)).length) 0 U sm)<|aL) U)<|rP 1 [] I ?_
 refine RK AS<|bR U (bw fun H=>?_) (bx fun H=>?_)
 ·refine bY<|aD<|KK b<|an<|rP 1 [] I ?_
  have AY:(dk ((aB r).map (·.1))).length≤5:=by rw [gn,List.length_map]; exact F
  refine rP 1 [] I ?_
  refine aH ?_
  rw [show (((dk ((aB r).map (·.1))).take k).filter (fun u=> !decide (di (aB r) u (aF (aB r) u)=di (aB (jz r h i t)) u (aF (aB (jz r h i t)) u))))=(((dk ((aB r).map (·.1))).take (k+1)).filter (fun u=> !decide (di (aB r) u (aF (aB r) u)=di (aB (jz r h i t)) u (aF (aB (jz r h i t)) u)))) from (F_ hx (by simpa using H)).symm]
  have AV:(vI (((k+1):Nat):Int))=(vI ((k:Int)+1)):=by exact cI om
  refine aT (Y ⟨((k+1),a,c),(by first|omega|(simp only []; omega))⟩ _ _ _ U (by first|omega|(dsimp only; omega)) (cN 5<|bk U AV<|dx.nil _) (aK [2,3,4,5,6,7,8,9,10,11,12,13,14,15,16,17,18,19,20,21,22,23,24,25,26,27,28]))
 refine an<|rP 2 [] I ?_
 refine cU (xs:=[.tmp 62]) (cs:=[(vI x)]) U cy jd U U U U (by simp [Value.cells]) U U fun BD=>?_
 refine c_ (es2:=(List.map iC (((dk ((aB r).map (·.1))).take (k+1)).filter (fun u=> !decide (di (aB r) u (aF (aB r) u)=di (aB (jz r h i t)) u (aF (aB (jz r h i t)) u)))))) (m':=(((dk ((aB r).map (·.1))).take (k+1)).filter (fun u=> !decide (di (aB r) u (aF (aB r) u)=di (aB (jz r h i t)) u (aF (aB (jz r h i t)) u)))).length) 29 U U U pE U U sm (aY (es:=List.map iC [x]) 0 U U (by simp [bJ]) U) (jT _) os (by simp only [maxLen]; first|omega|(simp; omega)) (by rw [xN hx (by simpa using H)]; simp) (by rw [xN hx (by simpa using H)]; simp) U fun Am Aq=>?_
 try dsimp only
 refine bg 1 U<|aH<|aD<|KK b<|an<|rP 1 [] I ?_
 have AY:(dk ((aB r).map (·.1))).length≤5:=by rw [gn,List.length_map]; exact F
 refine rP 1 [] I ?_
 refine aH ?_
 have AU:(vI (((k+1):Nat):Int))=(vI ((k:Int)+1)):=by exact cI om
 refine aT (Y ⟨((k+1),Am,Aq),(by first|omega|(simp only []; omega))⟩ _ _ _ U (by first|omega|(dsimp only; omega)) (cN 5<|bk U AU<|dx.nil _) (aK [3,4,5,6,7,8,9,10,11,12,13,14,15,16,17,18,19,20,21,22,23,24,25,26,27,28,29]))
end
section
open Go.RowKit
theorem lX (x y:Int):
 ej Tryz.prog 22 [(vI x),(vI y)] [] (vA (aa.cells (aa.mk x y))):=by
 refine bI kr Tryz.func22 U U fun D Q hQ hN=>?_
 try dsimp only
 refine WS fun _ A=>AL U dg fun C=>RK A<|WS fun _ B=>rP 2 [] I ?_
 refine rS (SX (bj (xs:=[(0,.tmp 5),(1,.tmp 6)]) (cs:=(aa.cells (aa.mk x y))) U U (bh gl U)) U U)<|fR U cu U<|RK B<|ar ?_
 exact H2 hQ [0] (mc 0 U I) U U
theorem Ar (x:Int):
 ej Tryz.prog 60 [(vI x)] [] (vA (cJ.cells (cJ.mk 0 (aa.mk x x)))):=by
 refine bI kr Tryz.func60 U U fun D Q hQ hN=>?_
 try dsimp only
 refine WS fun _ A=>AL U Br fun C=>RK A<|WS fun _ B=>rP 2 [] I ?_
 refine rS (CL (lX x x) (aL) U)<|rS (SX (bj (xs:=[(1,.tmp 5)]) (cs:=(cJ.cells (cJ.mk 0 (aa.mk x x)))) U U (bh S5 U)) U U)<|fR U IT U<|RK B<|ar ?_
 exact H2 hQ [0] (mc 0 U I) U U
theorem qs (x y:Int):
 ej Tryz.prog 39 [(vI x),(vI y)] [] (vA (br.cells (br.mk false true (aa.mk x y) (eK.mk 0 0 (aM.mk none 0 0))))):=by
 refine bI kr Tryz.func39 U U fun D Q hQ hN=>?_
 try dsimp only
 refine WS fun _ A=>AL U Mh fun C=>RK A<|WS fun _ B=>rP 2 [] I ?_
 refine rS (CL (lX x y) (aL) U)<|rS (SX (bj (xs:=[(1,.const (vB true)),(2,.tmp 7)]) (cs:=(br.cells (br.mk false true (aa.mk x y) (eK.mk 0 0 (aM.mk none 0 0))))) U U (bh Pe U)) U U)<|fR U QE U<|RK B<|ar ?_
 exact H2 hQ [0] (mc 0 U I) U U
theorem Nt:
 lv Tryz.prog 37 [] [] (fun (x:(OA)×Nat×(OA)×Nat×(List RA)×(OA)×Nat)=>(vA (bK.cells (bK.mk (aZ.mk (aM.mk x.1 ab.ah.aJ.length x.2.1)) ab.ah.dM (aM.mk x.2.2.1 ab.ah.ai.length x.2.2.2.1) (aM.mk x.2.2.2.2.2.1 ab.ah.ag.length x.2.2.2.2.2.2) ab.ah.bH ab.ah.cv ab.ah.bL)))) (fun (x:(OA)×Nat×(OA)×Nat×(List RA)×(OA)×Nat)=>x.2.2.2.2.1.length=ab.ah.ai.length∧eE ab.ah x.2.2.2.2.1) (fun (x:(OA)×Nat×(OA)×Nat×(List RA)×(OA)×Nat)=>[(own x.1 x.2.1 122 9 (ab.ah.aJ.map ao.cells)),(own x.2.2.1 x.2.2.2.1 127 2 (List.zipWith au.cells ab.ah.ai x.2.2.2.2.1)),(bo (aU au.owns ab.ah.ai x.2.2.2.2.1)),(own x.2.2.2.2.2.1 x.2.2.2.2.2.2 129 4 (ab.ah.ag.map bE.cells))]):=by
 refine dp kr Tryz.func37 U U fun AA Q hQ hN=>?_
 try dsimp only
 refine WS fun _ E=>AL U Tz fun H=>RK E<|WS fun _ F=>bg 1 U<|RK F<|WS fun _ G=>rS (CL (lX 10000 10200) (aL) U)<|rS (CL (lX 0 100) (aL) U)<|rS (SX (bj (xs:=[(0,.const (vI 1)),(1,.tmp 2),(2,.tmp 3)]) (cs:=(ao.cells (ao.mk 1 (aa.mk 10000 10200) (aa.mk 0 100) (aa.mk 0 0) 0 0))) U U (bh SB U)) U U)<|cU (xs:=[.tmp 4]) (cs:=(ao.cells (ao.mk 1 (aa.mk 10000 10200) (aa.mk 0 100) (aa.mk 0 0) 0 0))) U yi E5 U U U U (by simp [Value.cells,ao.aW]) U U fun B=>rS (SX (bj (xs:=[(0,.tmp 5)]) (cs:=(aZ.cells (aZ.mk (aM.mk (some ⟨B,0,none⟩) 1 1)))) U U (bh TZ U)) U U)<|rS (CL (lX 0 2) (aL) U)<|rS (SX (bj (xs:=[(0,.const (vI 0)),(1,.tmp 7)]) (cs:=(cG.cells (cG.mk 0 (aa.mk 0 2)))) U U (bh OQ U)) U U)<|rS (CL (lX 5 6) (aL) U)<|rS (SX (bj (xs:=[(0,.const (vI 100000)),(1,.tmp 9)]) (cs:=(cG.cells (cG.mk 100000 (aa.mk 5 6)))) U U (bh OQ U)) U U)<|cU (xs:=[.tmp 8,.tmp 10]) (cs:=((cG.cells (cG.mk 0 (aa.mk 0 2)))++(cG.cells (cG.mk 100000 (aa.mk 5 6))))) U qd rv U U U U (by simp [Value.cells,cG.aW]) U U fun A=>rS (SX (bj (xs:=[(0,.const (vI 100)),(1,.tmp 11)]) (cs:=(dv.cells (dv.mk 100 (aM.mk (some ⟨A,0,none⟩) 2 2)))) U U (bh RC U)) U U)<|cU (xs:=[.tmp 12]) (cs:=(dv.cells (dv.mk 100 (aM.mk (some ⟨A,0,none⟩) 2 2)))) U zV Jw U U U U (by simp [Value.cells,dv.aW]) U U fun C=>bg 1 U<|rS (CL (Ar 1000) (aL) U)<|rS (SX (bj (xs:=[(0,.tmp 15)]) (cs:=(bE.cells (bE.mk (cJ.mk 0 (aa.mk 1000 1000)) 0))) U U (bh Kr U)) U U)<|bg 1 U<|rS (CL (Ar 4000) (aL) U)<|rS (SX (bj (xs:=[(0,.tmp 18)]) (cs:=(bE.cells (bE.mk (cJ.mk 0 (aa.mk 4000 4000)) 0))) U U (bh Kr U)) U U)<|rP 1 [] I ?_
 refine rS (CL (Ar 9000) (aL) U)<|rS (SX (bj (xs:=[(0,.tmp 21)]) (cs:=(bE.cells (bE.mk (cJ.mk 0 (aa.mk 9000 9000)) 0))) U U (bh Kr U)) U U)<|cU (xs:=[.tmp 16,.tmp 19,.tmp 22]) (cs:=((bE.cells (bE.mk (cJ.mk 0 (aa.mk 1000 1000)) 0))++(bE.cells (bE.mk (cJ.mk 0 (aa.mk 4000 4000)) 0))++(bE.cells (bE.mk (cJ.mk 0 (aa.mk 9000 9000)) 0)))) U vt SW U U U U (by simp [Value.cells,bE.aW]) U U fun D=>rS (SX (bj (xs:=[(0,.tmp 6),(1,.const (vI 2000)),(4,.const (vI 1)),(5,.const (vI 1)),(6,.const (vI 1)),(2,.tmp 13),(3,.tmp 23)]) (cs:=(bK.cells (bK.mk (aZ.mk (aM.mk (some ⟨B,0,none⟩) 1 1)) 2000 (aM.mk (some ⟨C,0,none⟩) 1 1) (aM.mk (some ⟨D,0,none⟩) 3 3) 1 1 1))) U U (bh TD U)) U U) ?_
 refine dT (es:=(ab.ah.aJ.map ao.cells)) (C':=[_,_,_,(own (some ⟨B,0,none⟩) 1 122 9 (ab.ah.aJ.map ao.cells)),_]) 3 U (l4 ao.aW _) U (by show _≤maxLen; exact Nat.le_trans (m:=10) (show (1:Nat)≤10 by decide) dc) U ?_
 refine dT (es:=(yf.bu.map cG.cells)) (C':=[_,_,(own (some ⟨A,0,none⟩) 2 124 3 (yf.bu.map cG.cells)),_,_]) 2 U (l4 cG.aW _) U (by show _≤maxLen; exact Nat.le_trans (m:=10) (show (2:Nat)≤10 by decide) dc) U ?_
 refine dT (es:=(List.zipWith au.cells ab.ah.ai [((some ⟨A,0,none⟩),2)])) (C':=[_,(own (some ⟨C,0,none⟩) 1 127 2 (List.zipWith au.cells ab.ah.ai [((some ⟨A,0,none⟩),2)])),_,_,_]) 1 U (by intro x hx; change x∈[au.cells yf ((some ⟨A,0,none⟩),2)] at hx; rw [List.mem_singleton.1 hx]; rfl) U (by show _≤maxLen; exact Nat.le_trans (m:=10) (show (1:Nat)≤10 by decide) dc) U ?_
 refine dT (es:=(ab.ah.ag.map bE.cells)) (C':=[(own (some ⟨D,0,none⟩) 3 129 4 (ab.ah.ag.map bE.cells)),_,_,_,_]) 0 U (l4 bE.aW _) U (by show _≤maxLen; exact Nat.le_trans (m:=10) (show (3:Nat)≤10 by decide) dc) U ?_
 refine xY<|Ou (X:=[]) (X':=aU au.owns ab.ah.ai [((some ⟨A,0,none⟩),2)]) 0 3 U U U<|OW U Vb U<|RK G<|ar ?_
 refine LX hQ ((some ⟨B,0,none⟩),1,(some ⟨C,0,none⟩),1,[((some ⟨A,0,none⟩),2)],(some ⟨D,0,none⟩),3) [3,2,0,1] [0] (mc 4 U I) U (by simp only [fI,List.all_nil,gv,Bool.and_true]; rfl) U U ?_
 exact ⟨U,Ru 1 dc⟩
theorem Mn:
 lv Tryz.prog 38 [] [] (fun (x:(OA)×Nat)=>(vA (eK.cells (eK.mk mC.Start mC.gh (aM.mk x.1 mC.aj.length x.2))))) (fun (x:(OA)×Nat)=>True) (fun (x:(OA)×Nat)=>[(own x.1 x.2 131 2 (mC.aj.map aN.cells))]):=by
 refine dp kr Tryz.func38 U U fun E Q hQ hN=>?_
 try dsimp only
 refine WS fun _ B=>AL U TG fun D=>RK B<|WS fun _ C=>rS (SX (bj (xs:=[(0,.const (vI 0)),(1,.const (vI 10600))]) (cs:=(aN.cells (aN.mk 0 10600))) U U (bh Ft U)) U U)<|rS (SX (bj (xs:=[(0,.const (vI 0)),(1,.const (vI 11000))]) (cs:=(aN.cells (aN.mk 0 11000))) U U (bh Ft U)) U U)<|rS (SX (bj (xs:=[(0,.const (vI 1)),(1,.const (vI 12600))]) (cs:=(aN.cells (aN.mk 1 12600))) U U (bh Ft U)) U U)<|cU (xs:=[.tmp 1,.tmp 2,.tmp 3]) (cs:=((aN.cells (aN.mk 0 10600))++(aN.cells (aN.mk 0 11000))++(aN.cells (aN.mk 1 12600)))) U zQ Fx U U U U (by simp [Value.cells,aN.aW]) U U fun A=>rS (SX (bj (xs:=[(0,.const (vI 10000)),(1,.const (vI 20000)),(2,.tmp 4)]) (cs:=(eK.cells (eK.mk 10000 20000 (aM.mk (some ⟨A,0,none⟩) 3 3)))) U U (bh UC U)) U U)<|dT (es:=(mC.aj.map aN.cells)) (C':=[(own (some ⟨A,0,none⟩) 3 131 2 (mC.aj.map aN.cells)),_]) 0 U (l4 aN.aW _) U dc U<|tP U UA U<|RK C<|ar<|LX hQ ((some ⟨A,0,none⟩),3) [0] [0] (mc 1 U I) U U U U ?_
 trivial
end
section
open Go.RowKit
theorem jr:
 lv Tryz.prog 19 [] [] (fun (x:(OA)×Nat×(OA)×Nat×(List RA)×(OA)×Nat×(OA)×Nat×(OA)×Nat×(OA)×Nat×(List cQ))=>(vA (bq.cells (bq.mk (bK.mk (aZ.mk (aM.mk x.1 ab.ah.aJ.length x.2.1)) ab.ah.dM (aM.mk x.2.2.1 ab.ah.ai.length x.2.2.2.1) (aM.mk x.2.2.2.2.2.1 ab.ah.ag.length x.2.2.2.2.2.2.1) ab.ah.bH ab.ah.cv ab.ah.bL) (aM.mk x.2.2.2.2.2.2.2.1 ab.aI.length x.2.2.2.2.2.2.2.2.1) (aM.mk x.2.2.2.2.2.2.2.2.2.1 ab.bD.length x.2.2.2.2.2.2.2.2.2.2.1) ab.ed (aM.mk x.2.2.2.2.2.2.2.2.2.2.2.1 ab.aq.length x.2.2.2.2.2.2.2.2.2.2.2.2.1))))) (fun (x:(OA)×Nat×(OA)×Nat×(List RA)×(OA)×Nat×(OA)×Nat×(OA)×Nat×(OA)×Nat×(List cQ))=>fg ab x.2.2.2.2.1 x.2.2.2.2.2.2.2.2.2.2.2.2.2∧x.2.2.2.2.1.length=ab.ah.ai.length∧te ab.aq x.2.2.2.2.2.2.2.2.2.2.2.2.2) (fun (x:(OA)×Nat×(OA)×Nat×(List RA)×(OA)×Nat×(OA)×Nat×(OA)×Nat×(OA)×Nat×(List cQ))=>[(own x.1 x.2.1 122 9 (ab.ah.aJ.map ao.cells)),(own x.2.2.1 x.2.2.2.1 127 2 (List.zipWith au.cells ab.ah.ai x.2.2.2.2.1)),(bo (aU au.owns ab.ah.ai x.2.2.2.2.1)),(own x.2.2.2.2.2.1 x.2.2.2.2.2.2.1 129 4 (ab.ah.ag.map bE.cells)),(own x.2.2.2.2.2.2.2.1 x.2.2.2.2.2.2.2.2.1 3 1 (ab.aI.map iC)),(own x.2.2.2.2.2.2.2.2.2.1 x.2.2.2.2.2.2.2.2.2.2.1 3 1 (ab.bD.map iC)),(own x.2.2.2.2.2.2.2.2.2.2.2.1 x.2.2.2.2.2.2.2.2.2.2.2.2.1 47 1 (List.zipWith cz ab.aq x.2.2.2.2.2.2.2.2.2.2.2.2.2)),(bo (aU gT ab.aq x.2.2.2.2.2.2.2.2.2.2.2.2.2))]):=by
 refine dp kr Tryz.func19 U U fun Y Q hQ hN=>?_
 try dsimp only
 refine WS fun _ P=>AL U Bk fun W=>RK P<|WS fun _ R=>cX Nt (aL) U fun X T=>?_
 obtain ⟨K,M,L,N,F,E,G⟩:=X
 try dsimp only
 obtain ⟨S,O⟩:=T
 refine cU (xs:=[.const (vI 4),.const (vI 7),.const (vI 9)]) (cs:=[(vI 4),(vI 7),(vI 9)]) U cy jd U U U U (by simp [Value.cells]) U U fun H=>cU (xs:=[.const (vI 2),.const (vI 0),.const (vI 1)]) (cs:=[(vI 2),(vI 0),(vI 1)]) U cy jd U U U U (by simp [Value.cells]) U U fun AB=>cX Mn (aL) U fun AA V=>?_
 obtain ⟨A,B⟩:=AA
 try dsimp only
 refine rS (SX (bj (xs:=[(3,.tmp 4)]) (cs:=(br.cells (br.mk false false (aa.mk 0 0) (eK.mk mC.Start mC.gh (aM.mk A mC.aj.length B))))) U U (bh Pe U)) U U)<|rS (CL (qs 2600 2600) (aL) U)<|rS (CL (qs 2580 2609) (aL) U)<|cU (xs:=[.tmp 5,.tmp 6,.tmp 7]) (cs:=((br.cells (br.mk false false (aa.mk 0 0) (eK.mk mC.Start mC.gh (aM.mk A mC.aj.length B))))++(br.cells (br.mk false true (aa.mk 2600 2600) (eK.mk 0 0 (aM.mk none 0 0))))++(br.cells (br.mk false true (aa.mk 2580 2609) (eK.mk 0 0 (aM.mk none 0 0)))))) U wT Mh U U U U (by simp [Value.cells,br.aW]) U U fun C=>rS (CL (qs 2555 2559) (aL) U)<|rS (CL (qs 2540 2549) (aL) U)<|rS (CL (qs 2570 2575) (aL) U)<|cU (xs:=[.tmp 9,.tmp 10,.tmp 11]) (cs:=((br.cells (br.mk false true (aa.mk 2555 2559) (eK.mk 0 0 (aM.mk none 0 0))))++(br.cells (br.mk false true (aa.mk 2540 2549) (eK.mk 0 0 (aM.mk none 0 0))))++(br.cells (br.mk false true (aa.mk 2570 2575) (eK.mk 0 0 (aM.mk none 0 0)))))) U wT Mh U U U U (by simp [Value.cells,br.aW]) U U fun D=>cU (xs:=[.tmp 8,.tmp 12]) (cs:=[(vS (some ⟨C,0,none⟩) 3 3),(vS (some ⟨D,0,none⟩) 3 3)]) U rm Uh U U U U (by simp [Value.cells]) U U fun J=>rS (SX (bj (xs:=[(0,.tmp 1),(1,.tmp 2),(2,.tmp 3),(3,.const (vI 2)),(4,.tmp 13)]) (cs:=(bq.cells (bq.mk (bK.mk (aZ.mk (aM.mk K ab.ah.aJ.length M)) ab.ah.dM (aM.mk L ab.ah.ai.length N) (aM.mk E ab.ah.ag.length G) ab.ah.bH ab.ah.cv ab.ah.bL) (aM.mk (some ⟨H,0,none⟩) 3 3) (aM.mk (some ⟨AB,0,none⟩) 3 3) 2 (aM.mk (some ⟨J,0,none⟩) 2 2)))) U U (bh GP U)) U U) ?_
 refine dT (es:=(ab.aI.map iC)) (C':=[_,_,_,_,_,(own (some ⟨H,0,none⟩) 3 3 1 (ab.aI.map iC)),_,_,_,_,_]) 5 U (l4 bJ _) U (by show _≤maxLen; exact Nat.le_trans (m:=10) (show (3:Nat)≤10 by decide) dc) U ?_
 refine dT (es:=(ab.bD.map iC)) (C':=[_,_,_,_,(own (some ⟨AB,0,none⟩) 3 3 1 (ab.bD.map iC)),_,_,_,_,_,_]) 4 U (l4 bJ _) U (by show _≤maxLen; exact Nat.le_trans (m:=10) (show (3:Nat)≤10 by decide) dc) U ?_
 refine dT (es:=(List.zipWith aA.cells Sg [(A,B),(none,0),(none,0)])) (C':=[_,_,(own (some ⟨C,0,none⟩) 3 46 7 (List.zipWith aA.cells Sg [(A,B),(none,0),(none,0)])),_,_,_,_,_,_,_,_]) 2 U (oY E0) U (by show _≤maxLen; exact Nat.le_trans (m:=10) (show (3:Nat)≤10 by decide) dc) U ?_
 refine dT (es:=(List.zipWith aA.cells SC [(none,0),(none,0),(none,0)])) (C':=[_,(own (some ⟨D,0,none⟩) 3 46 7 (List.zipWith aA.cells SC [(none,0),(none,0),(none,0)])),_,_,_,_,_,_,_,_,_]) 1 U (oY E0) U (by show _≤maxLen; exact Nat.le_trans (m:=10) (show (3:Nat)≤10 by decide) dc) U ?_
 refine dT (es:=(List.zipWith cz ab.aq [(((some ⟨C,0,none⟩),3),[(A,B),(none,0),(none,0)]),(((some ⟨D,0,none⟩),3),[(none,0),(none,0),(none,0)])])) (C':=[(own (some ⟨J,0,none⟩) 2 47 1 (List.zipWith cz ab.aq [(((some ⟨C,0,none⟩),3),[(A,B),(none,0),(none,0)]),(((some ⟨D,0,none⟩),3),[(none,0),(none,0),(none,0)])])),_,_,_,_,_,_,_,_,_,_]) 0 U (oY Jh) U (by show _≤maxLen; exact Nat.le_trans (m:=10) (show (2:Nat)≤10 by decide) dc) U ?_
 refine dU 131 2<|dU 131 2<|dU 131 2<|dU 131 2<|dU 131 2<|wx (C1:=[(own (some ⟨J,0,none⟩) 2 47 1 (List.zipWith cz ab.aq [(((some ⟨C,0,none⟩),3),[(A,B),(none,0),(none,0)]),(((some ⟨D,0,none⟩),3),[(none,0),(none,0),(none,0)])])),(own (some ⟨AB,0,none⟩) 3 3 1 (ab.bD.map iC)),(own (some ⟨H,0,none⟩) 3 3 1 (ab.aI.map iC)),(own K M 122 9 (ab.ah.aJ.map ao.cells)),(own L N 127 2 (List.zipWith au.cells ab.ah.ai F)),(bo (aU au.owns ab.ah.ai F)),(own E G 129 4 (ab.ah.ag.map bE.cells)),(bZ W 32 (bq.cells (bq.mk (bK.mk (aZ.mk (aM.mk none 0 0)) 0 (aM.mk none 0 0) (aM.mk none 0 0) 0 0 0) (aM.mk none 0 0) (aM.mk none 0 0) 0 (aM.mk none 0 0))))]) (aU gT ab.aq [(((some ⟨C,0,none⟩),3),[(A,B),(none,0),(none,0)]),(((some ⟨D,0,none⟩),3),[(none,0),(none,0),(none,0)])]) [7,8,0,1,6,2,3,4,5,9,10,11,12,13,14,15] U U<|Vq U sY U<|RK R<|ar ?_
 refine LX hQ (K,M,L,N,F,E,G,(some ⟨H,0,none⟩),3,(some ⟨AB,0,none⟩),3,(some ⟨J,0,none⟩),2,[(((some ⟨C,0,none⟩),3),[(A,B),(none,0),(none,0)]),(((some ⟨D,0,none⟩),3),[(none,0),(none,0),(none,0)])]) [4,5,6,7,3,2,1,0] [0] (mc 8 U I) U (by show List.all _ _=true; simp only [fI,List.all_nil,gv,kp,Bool.and_true]; rfl) U U ?_
 exact ⟨Pb O Jv,S,Jv⟩
end
section
open Go.RowKit
theorem OG (i:Int) (r:cf) (kA:OA) (kC:Nat) (az:List RA) (cA:OA) (cC:Nat) (bA:OA) (bC:Nat) (slA:OA) (slC:Nat) (drA:OA) (drC:Nat) (ha:List cQ) (heA:OA) (heC:Nat) (hin:fg r az ha):
 ej Tryz.prog 11 [(vA (bq.cells (ot r kA kC cA cC bA bC slA slC drA drC heA heC))),(vI i)] [(rd dG 3 2 dh),(rd kA r.ah.aJ.length 9 (r.ah.aJ.map ao.cells)),(rd cA r.ah.ai.length 2 (List.zipWith au.cells r.ah.ai az)),(e7 (aU au.gY r.ah.ai az)),(rd bA r.ah.ag.length 4 (r.ah.ag.map bE.cells)),(rd slA r.aI.length 1 (r.aI.map iC)),(rd drA r.bD.length 1 (r.bD.map iC)),(rd heA r.aq.length 1 (List.zipWith cz r.aq ha)),(e7 (aU hU r.aq ha))] (vT [(vA (aa.cells (pq r i))),(vI (jy r i))]):=by
 have M:=hin.line
 have g:=hin.iM
 have h:=hin.has
 have W:=hin.iN
 have R:=hin.draw
 have X:=dH (r:=r)
 refine bI kr Tryz.func11 U U fun m Q hQ hN=>?_
 try dsimp only
 refine WS fun _ L=>fV U fun k=>AL U dg fun l=>bg 1 U<|RK L<|WS fun _ G=>rP 2 [] (mc 1 U I) ?_
 refine cU (xs:=[.tmp 11]) (cs:=[(vI i)]) U cy jd U U U U (by simp [Value.cells]) U U fun d=>cX (yR r kA kC az cA cC bA bC slA slC drA drC ha heA heC i d hin) (bp [3,4,5,6,7,8,9,10,11,0]) U fun j J=>?_
 obtain ⟨K,e,f,O,a,b,c,Y,Z⟩:=j
 cases K
 ·obtain ⟨H,he⟩:=J.2 rfl
  try dsimp only at H he
  subst H
  try dsimp only [cond_true,cond_false,List.cons_append,List.nil_append]
  refine bg 7 U<|RK G<|al fun _ P=>WS fun _ B=>rP 2 [] I ?_
  refine RK B<|bR U (bw fun A=>?_) (bx fun A=>?_)
  ·exact absurd A he
  refine WS fun _ C=>rS (SX (bj (xs:=[]) (cs:=(aa.cells (aa.mk 0 0))) U U (bh gl U)) U U)<|bg 1 U<|tP U cu U<|rP 1 [] I ?_
  refine RK C<|ar<|lk hQ [0] (mc 1 U I) U ?_
  first|(rw [show pq r i=dD from if_neg he]; rfl)|(rw [he,show pq r i=aF _ _ from if_pos he]; done)
 obtain ⟨he,N⟩:=J.1 rfl
 try dsimp only [cond_true,cond_false,List.cons_append,List.nil_append]
 try dsimp only at N
 obtain ⟨AB,S,T⟩:=uM he
 have AA:=lM AB
 have V:=ni AB
 refine bg 7 U<|RK G<|al fun _ D=>WS fun _ E=>bg 1 U<|rS (SX (b_ (r:= .bool false) U U U ng) U U)<|RK E<|aV U<|WK D<|WS fun _ F=>rP 1 [] I ?_
 refine rS (IA 0 U (ak (n:=1) 4 U sq) jK dc U om) ?_
 refine rS (oB 0 0 (aa.cells (aF (aB r) i)) U cq (ak (n:=([(aF (aB r) i)]).length) 4 U sm) (show ([(aF (aB r) i)].map aa.cells)[0]? =some [(vI ((aF (aB r) i).Lo)),(vI ((aF (aB r) i).Hi))] from U) U dc U U)<|OM U cu U<|rP 1 [] I ?_
 refine RK F<|ar<|lk hQ [0] (mc 6 U I) U ?_
 first|(rw [show pq r i=dD from if_neg he]; rfl)|(rw [he,show pq r i=aF _ _ from if_pos he]; done)
end
section
open Go.RowKit
theorem J_ (a b:Int) (m:gp) (gm g1:Nat) (hb: ∀ p∈m,0≤p.2.Lo∧p.2.Lo≤p.2.Hi∧p.2.Hi≤30000000):
 ej Tryz.prog 69 [(vI a),(vI b),(vP g1)] [(gZ iV gm (bM df m)),(bZ g1 58 [(Value.map (some gm))])] (vI ((aF m a).Hi-(aF m b).Hi)):=by
 have A:=gR (i:=a) hb
 have B:=gR (i:=b) hb
 refine bI kr Tryz.func69 U U fun E Q hQ hN=>?_
 try dsimp only
 refine WS fun _ C=>bg 1 U<|RK C<|WS fun _ D=>fE 2 [] (mr 1 U I) U<|rS (SX (jR (kV:=iV) (x:=a) (l:=m) (f:=df) (z:=(aa.mk 0 0)) U U U lF (dB od) vD (by exact jG 0 U)) U U)<|rS (SX (kQ (v:=(vI (((List.lookup a m).getD (aa.mk 0 0)).Hi))) U U fD Ad U) U U)<|rP 2 [] (mr 1 U I) ?_
 refine rS (SX (jR (kV:=iV) (x:=b) (l:=m) (f:=df) (z:=(aa.mk 0 0)) U U U lF (dB od) vD (by exact jG 0 U)) U U)<|rS (SX (kQ (v:=(vI (((List.lookup b m).getD (aa.mk 0 0)).Hi))) U U fD Ad U) U U) ?_
 unfold aF at A B
 simp only [dD] at A B
 refine rP 2 [] I ?_
 refine RK D<|ar ?_
 exact Q1 hQ U U U U
theorem NL (heatX:Int) (r:cf) (kA:OA) (kC:Nat) (az:List RA) (cA:OA) (cC:Nat) (bA:OA) (bC:Nat) (slA:OA) (slC:Nat) (drA:OA) (drC:Nat) (ha:List cQ) (heA:OA) (heC:Nat) (hin:fg r az ha):
 lv Tryz.prog 47 [(vA (bq.cells (ot r kA kC cA cC bA bC slA slC drA drC heA heC))),(vI heatX)] [(rd dG 3 2 dh),(rd kA r.ah.aJ.length 9 (r.ah.aJ.map ao.cells)),(rd cA r.ah.ai.length 2 (List.zipWith au.cells r.ah.ai az)),(e7 (aU au.gY r.ah.ai az)),(rd bA r.ah.ag.length 4 (r.ah.ag.map bE.cells)),(rd slA r.aI.length 1 (r.aI.map iC)),(rd drA r.bD.length 1 (r.bD.map iC)),(rd heA r.aq.length 1 (List.zipWith cz r.aq ha)),(e7 (aU hU r.aq ha))] (fun (x:(OA)×Nat)=>(vT [(vS x.1 ((g5 r heatX).length) x.2),(vI (iK r heatX))])) (fun (x:(OA)×Nat)=>True) (fun (x:(OA)×Nat)=>[(own x.1 x.2 3 1 ((g5 r heatX).map iC))]):=by
 have AW:=hin.line
 have Ar:=hin.iM
 have As:=hin.has
 have Ag:=hin.iN
 have AD:=hin.draw
 have AH:=dH (r:=r)
 refine dp kr Tryz.func47 U U fun w0 Q hQ hN=>?_
 try dsimp only
 refine WS fun _ AV=>fV U fun b2=>bg 2 U<|RK AV<|Al U<|WS fun _ e=>rP 1 [] (mc 0 U I) ?_
 refine cX (oa r kA kC az cA cC bA bC slA slC drA drC ha heA heC hin) (bp [1,2,3,4,5,6,7,8,9]) U fun y4 AI=>?_
 obtain ⟨AJ,Ao,AS,AR,Aa,AK,AN⟩:=y4
 cases AJ
 ·obtain ⟨AE,he⟩:=AI.2 rfl
  try dsimp only at AE he
  subst AE
  try dsimp only [cond_true,cond_false,List.cons_append,List.nil_append]
  refine bg 5 U<|RK e<|al fun _ Af=>WS fun _ R=>rP 2 [] I ?_
  refine RK R<|bR U (bw fun P=>?_) (bx fun P=>?_)
  ·exact absurd P he
  refine WS fun _ S=>rP 1 [] I ?_
  have A:iK r heatX=bX r:=Dx he
  have B:g5 r heatX=[]:=zh (by rw [A]; exact he)
  refine dU 3 1 ?_
  rw [show (own none 0 3 1 ([]:List (List Value)))=own none 0 3 1 ((g5 r heatX).map iC) from by rw [B]; rfl]
  refine rP 2 [] I ?_
  refine RK S<|ar ?_
  refine LX hQ (none,0) [0] [] I U U U ?_ ?_
  ·first|rfl|(rw [A,B]; rfl)|(rw [A]; rfl)|(rw [A,B,j9]; rfl)
  ·trivial
 obtain ⟨he,AY⟩:=AI.1 rfl
 try dsimp only [cond_true,cond_false,List.cons_append,List.nil_append]
 have G:=(iG he).2
 have At:=G.xH
 have Aq:=G.yk
 refine bg 5 U<|RK e<|al fun _ T=>WS fun _ Au=>bg 1 U<|rS (SX (b_ (r:= .bool false) U U U ng) U U)<|RK Au<|aV U<|WK T<|al fun _ V=>WS fun _ W=>rP 4 [] (mc 4 U I) ?_
 refine cU (xs:=[.tmp 25]) (cs:=[(vI heatX)]) U cy jd U U U U (by simp [Value.cells]) U U fun AP=>?_
 refine rS (CL (ej.eq (j6 0 (r.aq.length:Int) ([heatX]) (some ⟨AP,0,none⟩) 1 sd) cT) (ay (aY 0 U U (by simp [bJ]) U)<|aL) U) ?_
 refine rP 1 [] I ?_
 refine RK W<|cM U (bx fun AT=>?_) (bw fun AT=>?_)
 ·refine WS fun _ X=>?_
  have A:iK r heatX=2:=Dz he om
  have B:g5 r heatX=[]:=zh (by rw [A]; decide)
  refine dU 3 1 ?_
  rw [show (own none 0 3 1 ([]:List (List Value)))=own none 0 3 1 ((g5 r heatX).map iC) from by rw [B]; rfl]
  refine rP 2 [] I ?_
  refine RK X<|ar ?_
  refine LX hQ (none,0) [0] [] I U U U ?_ ?_
  ·first|rfl|(rw [A,B]; rfl)|(rw [A]; rfl)|(rw [A,B,j9]; rfl)
  ·trivial
 refine WK V<|al fun _ Y=>WS fun _ Z=>rP 2 [] I ?_
 refine RK Z<|cM U (aS fun D=>?_) (aR fun D=>?_)
 ·refine WS fun _ b=>rP 2 [] (mc 5 U I) ?_
  refine cX (vN r.bD drA drC sd) (bp [12]) U fun Ad Ah=>?_
  obtain ⟨N,O⟩:=Ad
  try dsimp only
  have A:iK r heatX=0:=yo he om
  have B:g5 r heatX=r.bD:=uQ A D
  rw [show (own N O 3 1 (r.bD.map iC))=(own N O 3 1 ((g5 r heatX).map iC)) from by rw [uQ A D]]
  refine rP 2 [] I ?_
  refine RK b<|ar ?_
  refine LX hQ (N,O) [0] [] I U U U ?_ ?_
  ·first|rfl|(rw [A,B]; rfl)|(rw [A]; rfl)|(rw [A,B,j9]; rfl)
  ·trivial
 refine WK Y<|WS fun _ d=>?_
 obtain ⟨n,rfl⟩: ∃ n:Nat,heatX=(n:Int):=⟨heatX.toNat,om⟩
 refine rP 2 [] I ?_
 refine cX (O0 r kA kC az cA cC bA bC slA slC drA drC ha heA heC AN Aa AK (Value.map (some AR)) AS n hin om sd (by exact G.AF)) (lR [7,8,9,10,11,12,13,14]<|ay (ak (n:=(cP r).length) 2 U (mO (by rw [AH]; exact AY)))<|ay (dW 3 U sT)<|fH 1 U U<|aL) U fun C Ai=>?_
 try dsimp only
 refine AL U Q9 fun Aw=>Hz U Nm U U<|RK d<|WS fun _ g=>bg 1 U<|RK g<|al fun _ h=>AM<|KK h<|al fun _ j=>WS fun _ k=>rP 4 [] (mc 7 U I) ?_
 refine RK k<|aw<|fX 3 1 ?_
 have F:(0≤r.bD.length):=by exact Nat.zero_le _
 refine bO (ι:={z:Nat×(OA)×Nat // (z.1≤r.bD.length)}) [1,2,6,8,38,39] [1,2,5,6,7,8,9,10,11,12,13,14,15,16,17] U U (fun z=>[(9,(vS z.1.2.1 (((r.bD.take z.1.1).filter fun u=>(List.lookup u (eM r n)).isSome).length) z.1.2.2)),(40,(vI (z.1.1:Int)))]) (fun z=>[(own z.1.2.1 z.1.2.2 3 1 (((r.bD.take z.1.1).filter fun u=>(List.lookup u (eM r n)).isSome).map iC))]) (fun _=>rfl) (fun _=>rfl) (fun z=>r.bD.length-z.1.1) ⟨(0,none,0),F⟩ (aQ U) (aK [1,2,5,6,7,8,9,10,11,12,13,14,15,16,17,0]) ?_
 clear F
 rintro ⟨⟨i,a,c⟩,K⟩ J38 L
 try dsimp only at K
 try dsimp only
 refine WS fun _ m=>rP 1 [] I ?_
 refine RK m<|al fun _ o=>bR U (aR fun AU=>?_) (aS fun AU=>?_)
 ·refine bB<|ae<|ae<|ax<|KK j<|al fun _ v=>?_
  rw [show r.bD.take i=r.bD from List.take_of_length_le om]
  refine an<|rP 1 [] I ?_
  have AX:=Fp he (show n≤r.aq.length by omega)
  have AG:=Nat.le_trans (List.length_filter_le (fun u=>(List.lookup u (eM r n)).isSome) r.bD) AD
  have Ap:(eD (fun u=>(aF (eM r n) u).Hi) (r.bD.filter fun u=>(List.lookup u (eM r n)).isSome)).length≤12:=by rw [ko]; exact AG
  refine rS (FU U) ?_
  refine cX (yI (r.bD.filter fun u=>(List.lookup u (eM r n)).isSome) a c (Value.func (.func 69) [].toArray [(vP Aw)].toArray) (fun u=>(aF (eM r n) u).Hi) (e7 [(gZ iV C (bM df (eM r n))),(bZ Aw 58 [(Value.map (some C))])]) (by intro Ab Ac _; exact nq (fi:=[]) (ca:=[(vP Aw)]) (lW (J_ Ab Ac (eM r n) C Aw (by first|assumption|omega)) (bp [0,1]))) (by exact Tk AX) (by exact AG)) (ay (ak (n:=(r.bD.filter fun u=>(List.lookup u (eM r n)).isSome).length) 15 U sm)<|ay (l3 (bp [1,0]))<|aL) U fun Ae Aj=>?_
  obtain ⟨H,J⟩:=Ae
  try dsimp only
  refine bg 1 U<|RK v<|WS fun _ w=>rP 5 [] (mc 6 U I) ?_
  refine rS (MN U)<|KO 0 U fun AC=>?_
  simp only [List.length_map] at AC
  refine rS (TQ (((min r.ed (((eD (fun u=>(aF (eM r n) u).Hi) (r.bD.filter fun u=>(List.lookup u (eM r n)).isSome)).length:Nat):Int))).toNat) U cy om (by first|omega|exact Nat.zero_le _|(simp; omega))) ?_
  refine iQ 0 U U U U (GQ (eD (fun u=>(aF (eM r n) u).Hi) (r.bD.filter fun u=>(List.lookup u (eM r n)).isSome)) H J (((min r.ed (((eD (fun u=>(aF (eM r n) u).Hi) (r.bD.filter fun u=>(List.lookup u (eM r n)).isSome)).length:Nat):Int))).toNat) om om) U ki U (fun Av Ak=>?_)
  try dsimp only
  refine RK w<|WS fun _ y=>rP 1 [] I ?_
  have A:iK r (n:Int)=0:=yo he om
  have B:g5 r (n:Int)=(rF (((min r.ed (((eD (fun u=>(aF (eM r n) u).Hi) (r.bD.filter fun u=>(List.lookup u (eM r n)).isSome)).length:Nat):Int))).toNat) (eD (fun u=>(aF (eM r n) u).Hi) (r.bD.filter fun u=>(List.lookup u (eM r n)).isSome))):=by rw [vc A D]; exact (zu rfl om).symm
  rw [show (own H J 3 1 ((rF (((min r.ed (((eD (fun u=>(aF (eM r n) u).Hi) (r.bD.filter fun u=>(List.lookup u (eM r n)).isSome)).length:Nat):Int))).toNat) (eD (fun u=>(aF (eM r n) u).Hi) (r.bD.filter fun u=>(List.lookup u (eM r n)).isSome))).map iC))=(own H J 3 1 ((g5 r (n:Int)).map iC)) from by rw [vc A D]; exact congrArg (fun z=>own _ _ _ _ (List.map iC z)) (zu rfl om)]
  refine rP 2 [] I ?_
  refine RK y<|ar ?_
  refine LX hQ (H,J) [0] [] I U U U ?_ ?_
  ·first|rfl|(rw [A,B]; rfl)|(rw [A]; rfl)|(rw [A,B,j9]; rfl)
  ·trivial
 refine WK o<|al fun _ M=>aw<|WS fun _ p=>?_
 obtain ⟨x,hx⟩:=aO r.bD i om
 have AZ:=bP iC hx
 refine rS (IA i U (aG 12 U) cy dc om om)<|rS (gF i 0 (vI x) U cq (aG 12 U) AZ U dc U)<|bg 1 U<|RK p<|al fun _ q=>WS fun _ s=>fE 2 [] (mc 0 U I) U<|rS (SX (jZ (kV:=iV) (x:=x) (l:=(eM r n)) (f:=df) (z:=(aa.mk 0 0)) U U U lF (dB od) vD (by exact aG 1 U)) U U)<|bg 3 U<|AL U dg fun Am=>fR U cu U<|bg 1 U<|RK s<|WS fun _ t=>rP 2 [] I ?_
 refine RK t<|cM U (fun E=>?_) (fun E=>?_)
 ·rw [Bool.not_eq_true'] at E
  refine bB<|ae<|ax<|KK M<|an<|rP 2 [] I ?_
  refine aH ?_
  rw [show ((r.bD.take i).filter fun u=>(List.lookup u (eM r n)).isSome)=((r.bD.take (i+1)).filter fun u=>(List.lookup u (eM r n)).isSome) from (F_ hx E).symm]
  have AA:(vI (((i+1):Nat):Int))=(vI ((i:Int)+1)):=by exact cI om
  refine aT (L ⟨((i+1),a,c),(by first|omega|(simp only []; omega))⟩ _ _ _ U os (cN 7<|bk U AA<|dx.nil _) (aK [1,2,3,4,5,6,7,8,9,10,11,12,13,14,15,16]))
 rw [Bool.not_eq_false'] at E
 refine WK q<|an<|rP 2 [] I ?_
 refine cU (xs:=[.tmp 53]) (cs:=[(vI x)]) U cy jd U U U U (by simp [Value.cells]) U U fun An=>?_
 refine c_ (es2:=(List.map iC ((r.bD.take (i+1)).filter fun u=>(List.lookup u (eM r n)).isSome))) (m':=((r.bD.take (i+1)).filter fun u=>(List.lookup u (eM r n)).isSome).length) 17 U U U pE U U sm (aY (es:=List.map iC [x]) 0 U U (by simp [bJ]) U) (jT _) (by have:=List.length_filter_le (fun u=>(List.lookup u (eM r n)).isSome) (r.bD.take i); rw [List.length_take] at this; first|omega|(simp; omega)) (by have:=List.length_filter_le (fun u=>(List.lookup u (eM r n)).isSome) (r.bD.take i); rw [List.length_take] at this; simp only [maxLen]; first|omega|(simp; omega)) (by rw [xN hx E]; simp) sm U fun AO AQ=>?_
 try dsimp only
 refine bg 1 U<|aH<|aD<|KK M<|an<|rP 2 [] I ?_
 refine aH ?_
 have AB:(vI (((i+1):Nat):Int))=(vI ((i:Int)+1)):=by exact cI om
 refine aT (L ⟨((i+1),AO,AQ),(by first|omega|(simp only []; omega))⟩ _ _ _ U os (cN 7<|bk U AB<|dx.nil _) (aK [2,3,4,5,6,7,8,9,10,11,12,13,14,15,16,17]))
end
section
open Go.RowKit
theorem zm (i lo hi:Int) (r:cf) (kA:OA) (kC:Nat) (az:List RA) (cA:OA) (cC:Nat) (bA:OA) (bC:Nat) (slA:OA) (slC:Nat) (drA:OA) (drC:Nat) (ha:List cQ) (heA:OA) (heC:Nat) (hin:fg r az ha):
 ej Tryz.prog 24 [(vA (bq.cells (ot r kA kC cA cC bA bC slA slC drA drC heA heC))),(vI i),(vI lo),(vI hi)] [(rd dG 3 2 dh),(rd kA r.ah.aJ.length 9 (r.ah.aJ.map ao.cells)),(rd cA r.ah.ai.length 2 (List.zipWith au.cells r.ah.ai az)),(e7 (aU au.gY r.ah.ai az)),(rd bA r.ah.ag.length 4 (r.ah.ag.map bE.cells)),(rd slA r.aI.length 1 (r.aI.map iC)),(rd drA r.bD.length 1 (r.bD.map iC)),(rd heA r.aq.length 1 (List.zipWith cz r.aq ha)),(e7 (aU hU r.aq ha))] (vB (decide (jy r i=0∧pq r i=aa.mk lo hi))):=by
 have E:=hin.line
 have AA:=hin.iM
 have J:=hin.has
 have G:=hin.iN
 have F:=hin.draw
 have H:=dH (r:=r)
 refine bI kr Tryz.func24 U U fun M Q hQ hN=>?_
 try dsimp only
 refine WS fun _ C=>fV U fun K=>bg 1 U<|RK C<|WS fun _ D=>fE 2 [] (mc 0 U I) U<|rS (CL (OG i r kA kC az cA cC bA bC slA slC drA drC ha heA heC hin) (bp [1,2,3,4,5,6,7,8,9]) U)<|bg 3 U<|AL U dg fun L=>fR U cu U<|bg 1 U<|RK D<|al fun _ B=>dF cD 10 kr<|dP 3 [] I ?_
 refine jk (t:=19) U (aR fun A=>?_) (aS fun A=>?_)
 ·refine dP 7 [] I ?_
  refine cO<|RK B<|ar<|Q1 hQ U U U ?_
  first|exact cB (cr fun q=>A q.1).symm|exact cB (decide_eq_decide.2 ⟨fun q=>⟨A,q⟩,fun q=>q.2⟩)
 refine mI 3 [] (mc 0 U I) U<|dS (CL (lX lo hi) (aL) U)<|dS (BI U (tp _ _ (pq r i) (aa.mk lo hi)))<|dP 2 [] I ?_
 refine cO<|RK B<|ar<|Q1 hQ U U U ?_
 first|exact cB (cr fun q=>A q.1).symm|exact cB (decide_eq_decide.2 ⟨fun q=>⟨A,q⟩,fun q=>q.2⟩)
theorem zd (i:Int) (want:List Int) (wantA:OA) (wantC:Nat) (r:cf) (kA:OA) (kC:Nat) (az:List RA) (cA:OA) (cC:Nat) (bA:OA) (bC:Nat) (slA:OA) (slC:Nat) (drA:OA) (drC:Nat) (ha:List cQ) (heA:OA) (heC:Nat) (hin:fg r az ha) (hwl:want.length≤12):
 ej Tryz.prog 25 [(vA (bq.cells (ot r kA kC cA cC bA bC slA slC drA drC heA heC))),(vI i),(vS wantA want.length wantC)] [(rd wantA want.length 1 (want.map iC)),(rd dG 3 2 dh),(rd kA r.ah.aJ.length 9 (r.ah.aJ.map ao.cells)),(rd cA r.ah.ai.length 2 (List.zipWith au.cells r.ah.ai az)),(e7 (aU au.gY r.ah.ai az)),(rd bA r.ah.ag.length 4 (r.ah.ag.map bE.cells)),(rd slA r.aI.length 1 (r.aI.map iC)),(rd drA r.bD.length 1 (r.bD.map iC)),(rd heA r.aq.length 1 (List.zipWith cz r.aq ha)),(e7 (aU hU r.aq ha))] (vB (decide (jy r i=0∧fU r i=want))):=by
 have E:=hin.line
 have K:=hin.iM
 have L:=hin.has
 have G:=hin.iN
 have F:=hin.draw
 have H:=dH (r:=r)
 have M:=v_ (r:=r) (i:=i)
 refine bI kr Tryz.func25 U U fun R Q hQ hN=>?_
 try dsimp only
 refine WS fun _ C=>fV U fun P=>bg 1 U<|RK C<|WS fun _ D=>rP 2 [] (mc 0 U I) ?_
 refine cX (Fi i r kA kC az cA cC bA bC slA slC drA drC ha heA heC hin) (bp [2,3,4,5,6,7,8,9,10]) U fun O N=>?_
 obtain ⟨AA,J⟩:=O
 try dsimp only
 refine bg 5 U<|RK D<|WS fun _ B=>rP 3 [] I ?_
 refine cb (t:=17) U (aR fun A=>?_) (aS fun A=>?_)
 ·refine rP 5 [] I ?_
  refine RK B<|ar<|Q1 hQ U U U ?_
  first|exact cB (cr fun q=>A q.1).symm|exact cB (decide_eq_decide.2 ⟨fun q=>⟨A,q⟩,fun q=>q.2⟩)
 refine bg 2 U<|rS (CL (n8 (fU r i) AA J want wantA wantC om om) (ay (ak (n:=(fU r i).length) 0 U sm)<|fH 2 U U<|aL) U)<|rP 2 [] I ?_
 refine RK B<|ar<|Q1 hQ U U U ?_
 first|exact cB (cr fun q=>A q.1).symm|exact cB (decide_eq_decide.2 ⟨fun q=>⟨A,q⟩,fun q=>q.2⟩)
theorem yY (heatX:Int) (want:List Int) (wantA:OA) (wantC:Nat) (hwl:want.length≤12):
 ej Tryz.prog 28 [(vI heatX),(vS wantA want.length wantC)] [(rd dG 3 2 dh),(rd wantA want.length 1 (want.map iC))] (vB (decide (iK ab heatX=0∧g5 ab heatX=want))):=by
 have b:=DV (r:=ab) (h:=heatX) dc
 refine bI kr Tryz.func28 U U fun d Q hQ hN=>?_
 try dsimp only
 refine WS fun _ V=>rP 1 [] I ?_
 refine RK V<|WS fun _ W=>cX jr (aL) U fun c Y=>?_
 obtain ⟨N,S,P,AA,R,C,G,D,H,E,AB,F,J,M⟩:=c
 try dsimp only
 obtain ⟨L,X,K⟩:=Y
 refine rP 1 [] I ?_
 refine cX (NL heatX ab N S R P AA C G D H E AB M F J (by exact L)) (fH 8 U U<|ay (ak (n:=ab.ah.aJ.length) 0 U sm)<|ay (ak (n:=ab.ah.ai.length) 1 U (g3 X))<|ay (dW 2 U iY)<|ay (ak (n:=ab.ah.ag.length) 3 U sm)<|ay (ak (n:=ab.aI.length) 4 U sm)<|ay (ak (n:=ab.bD.length) 5 U sm)<|ay (ak (n:=ab.aq.length) 6 U (fw K.1))<|ay (hO 7 U K)<|aL) U fun Z a=>?_
 obtain ⟨O,T⟩:=Z
 try dsimp only
 refine bg 5 U<|RK W<|WS fun _ B=>rP 3 [] I ?_
 refine cb (t:=15) U (aR fun A=>?_) (aS fun A=>?_)
 ·refine rP 5 [] I ?_
  refine RK B<|ar<|Q1 hQ U U U ?_
  first|exact cB (cr fun q=>A q.1).symm|exact cB (decide_eq_decide.2 ⟨fun q=>⟨A,q⟩,fun q=>q.2⟩)
 refine bg 2 U<|rS (CL (n8 (g5 ab heatX) O T want wantA wantC om om) (ay (ak (n:=(g5 ab heatX).length) 0 U sm)<|fH 10 U U<|aL) U)<|rP 2 [] I ?_
 refine RK B<|ar<|Q1 hQ U U U ?_
 first|exact cB (cr fun q=>A q.1).symm|exact cB (decide_eq_decide.2 ⟨fun q=>⟨A,q⟩,fun q=>q.2⟩)
theorem CS (a b:Int) (x y:Int):
 ej Tryz.prog 26 [(vI a),(vI b),(Value.int .u8 x),(Value.int .u8 y)] [(rd dG 3 2 dh)] (vB (decide (((m_ ab a b=0∧vq ab a b=x)∧m_ ab a b=0)∧qp ab a b=y))):=by
 refine bI kr Tryz.func26 U U fun w Q hQ hN=>?_
 try dsimp only
 refine WS fun _ p=>rP 1 [] I ?_
 refine RK p<|WS fun _ r=>cX jr (aL) U fun v s=>?_
 obtain ⟨j,m,k,o,l,J,V,L,X,N,Z,P,d,h⟩:=v
 try dsimp only
 obtain ⟨F,G,E⟩:=s
 refine bg 2 U<|rS (CL (LG a b ab j m l k o J V L X N Z h P d (by exact F)) (fH 8 U U<|ay (ak (n:=ab.ah.aJ.length) 0 U sm)<|ay (ak (n:=ab.ah.ai.length) 1 U (g3 G))<|ay (dW 2 U iY)<|ay (ak (n:=ab.ah.ag.length) 3 U sm)<|ay (ak (n:=ab.aI.length) 4 U sm)<|ay (ak (n:=ab.bD.length) 5 U sm)<|ay (ak (n:=ab.aq.length) 6 U (fw E.1))<|ay (hO 7 U E)<|aL) U)<|qb (C1:=[(rd dG 3 2 dh)]) [8] U U<|rP 5 [] I ?_
 refine RK r<|WS fun _ f=>cX jr (aL) U fun u g=>?_
 obtain ⟨H,T,AB,AA,S,K,W,M,Y,O,c,R,e,i⟩:=u
 try dsimp only
 obtain ⟨F,G,E⟩:=g
 refine bg 2 U<|rS (CL (Qh a b ab H T S AB AA K W M Y O c i R e (by exact F)) (fH 8 U U<|ay (ak (n:=ab.ah.aJ.length) 0 U sm)<|ay (ak (n:=ab.ah.ai.length) 1 U (g3 G))<|ay (dW 2 U iY)<|ay (ak (n:=ab.ah.ag.length) 3 U sm)<|ay (ak (n:=ab.aI.length) 4 U sm)<|ay (ak (n:=ab.bD.length) 5 U sm)<|ay (ak (n:=ab.aq.length) 6 U (fw E.1))<|ay (hO 7 U E)<|aL) U)<|bg 5 U<|RK f<|WS fun _ D=>rP 3 [] I ?_
 refine cb (t:=29) U (aR fun A=>?_) (aS fun A=>?_)
 ·refine rP 14 [] I ?_
  refine RK D<|ar<|Q1 hQ U U U ?_
  first|exact cB (cr fun q=>A q.1.1.1).symm|exact cB (cr fun q=>B q.1.1.2).symm|exact cB (cr fun q=>C q.1.2).symm|exact cB (decide_eq_decide.2 ⟨fun q=>⟨⟨⟨A,B⟩,C⟩,q⟩,fun q=>q.2⟩)
 refine bg 2 U<|rS (BI U mq)<|rP 2 [] I ?_
 refine cb (t:=34) U (aR fun B=>?_) (aS fun B=>?_)
 ·refine rP 9 [] I ?_
  refine RK D<|ar<|Q1 hQ U U U ?_
  first|exact cB (cr fun q=>A q.1.1.1).symm|exact cB (cr fun q=>B q.1.1.2).symm|exact cB (cr fun q=>C q.1.2).symm|exact cB (decide_eq_decide.2 ⟨fun q=>⟨⟨⟨A,B⟩,C⟩,q⟩,fun q=>q.2⟩)
 refine rP 4 [] I ?_
 refine cb (t:=38) U (aR fun C=>?_) (aS fun C=>?_)
 ·refine rP 5 [] I ?_
  refine RK D<|ar<|Q1 hQ U U U ?_
  first|exact cB (cr fun q=>A q.1.1.1).symm|exact cB (cr fun q=>B q.1.1.2).symm|exact cB (cr fun q=>C q.1.2).symm|exact cB (decide_eq_decide.2 ⟨fun q=>⟨⟨⟨A,B⟩,C⟩,q⟩,fun q=>q.2⟩)
 refine bg 2 U<|rS (BI U mq)<|rP 2 [] I ?_
 refine RK D<|ar<|Q1 hQ U U U ?_
 first|exact cB (cr fun q=>A q.1.1.1).symm|exact cB (cr fun q=>B q.1.1.2).symm|exact cB (cr fun q=>C q.1.2).symm|exact cB (decide_eq_decide.2 ⟨fun q=>⟨⟨⟨A,B⟩,C⟩,q⟩,fun q=>q.2⟩)
end
section
open Go.RowKit
theorem IX:
 ej Tryz.prog 6 [] [(rd dG 3 2 dh)] (vB true):=by
 have BV:=vm (r:=ab)
 have BK:=vm (r:=eW)
 have Fd:=Cm (r:=ab) (h:=0) (i:=2) (t:=aa.mk 2590 2599)
 have Fc:ab.aI.length=3:=rfl
 refine bI kr Tryz.func6 U U fun w0 Q hQ hN=>?_
 try dsimp only
 refine WS fun _ FR=>rP 1 [] I ?_
 refine RK FR<|WS fun _ FS=>cX jr (aL) U fun y3 FU=>?_
 obtain ⟨BL,BN,BM,BO,FQ,Ab,A0,Af,A4,Aj,A8,An,BB,FF⟩:=y3
 try dsimp only
 obtain ⟨Y,e,a⟩:=FU
 refine rS (CL (Qy 0 0 ab BL BN FQ BM BO Ab A0 Af A4 Aj A8 FF An BB (by exact Y)) (fH 8 U U<|ay (ak (n:=ab.ah.aJ.length) 0 U sm)<|ay (ak (n:=ab.ah.ai.length) 1 U (g3 e))<|ay (dW 2 U iY)<|ay (ak (n:=ab.ah.ag.length) 3 U sm)<|ay (ak (n:=ab.aI.length) 4 U sm)<|ay (ak (n:=ab.bD.length) 5 U sm)<|ay (ak (n:=ab.aq.length) 6 U (fw a.1))<|ay (hO 7 U a)<|aL) U)<|bg 1 U<|qb (C1:=[(rd dG 3 2 dh)]) [8] U U<|bg 2 U<|AL U dg fun f=>fR U cu U<|rP 1 [] I ?_
 refine RK FS<|WS fun _ E4=>cX jr (aL) U fun FV FA=>?_
 obtain ⟨AU,Au,AX,Ax,Et,Ac,A1,Ag,A5,Ak,A9,Ao,BC,FG⟩:=FV
 try dsimp only
 obtain ⟨Y,e,a⟩:=FA
 refine cX (EW ab AU Au Et AX Ax Ac A1 Ag A5 Ak A9 FG Ao BC (by exact Y)) (fH 9 U U<|ay (ak (n:=ab.ah.aJ.length) 0 U sm)<|ay (ak (n:=ab.ah.ai.length) 1 U (g3 e))<|ay (dW 2 U iY)<|ay (ak (n:=ab.ah.ag.length) 3 U sm)<|ay (ak (n:=ab.aI.length) 4 U sm)<|ay (ak (n:=ab.bD.length) 5 U sm)<|ay (ak (n:=ab.aq.length) 6 U (fw a.1))<|ay (hO 7 U a)<|aL) U fun FW FB=>?_
 obtain ⟨O,T,Fe⟩:=FW
 try dsimp only
 have EN:=FB
 have Bf:=EN
 refine bg 1 U<|qb (C1:=[(own T Fe 29 1 (List.zipWith kg (bG ab) O)),(bo (aU nE (bG ab) O)),(bZ f 38 (aa.cells (eJ ab 0 0))),(rd dG 3 2 dh)]) [0,1,10,11] U U<|rP 4 [] I ?_
 refine RK E4<|WS fun _ E5=>cX jr (aL) U fun FX FC=>?_
 obtain ⟨AV,Av,AY,Ay,Eu,Ad,A2,Ah,A6,Al,A_,Ap,BD,FH⟩:=FX
 try dsimp only
 obtain ⟨Y,e,a⟩:=FC
 refine rS (CL (lX 2590 2599) (aL) U)<|cX (KI 0 2 (aa.mk 2590 2599) ab AV Av Eu AY Ay Ad A2 Ah A6 Al A_ FH Ap BD (by exact Y)) (fH 11 U U<|ay (ak (n:=ab.ah.aJ.length) 0 U sm)<|ay (ak (n:=ab.ah.ai.length) 1 U (g3 e))<|ay (dW 2 U iY)<|ay (ak (n:=ab.ah.ag.length) 3 U sm)<|ay (ak (n:=ab.aI.length) 4 U sm)<|ay (ak (n:=ab.bD.length) 5 U sm)<|ay (ak (n:=ab.aq.length) 6 U (fw a.1))<|ay (hO 7 U a)<|aL) U fun FY Bi=>?_
 obtain ⟨FI,Fb,A,G,B,H,P,C,Ff,D,J,E,K,F,L,R⟩:=FY
 cases FI
 ·obtain ⟨E9,he⟩:=Bi.2 rfl
  try dsimp only at E9 he
  subst E9
  try dsimp only [cond_true,cond_false,List.cons_append,List.nil_append]
  exact absurd AZ he
 obtain ⟨E_,⟨BU,E8⟩,BP⟩:=Bi.1 rfl
 try dsimp only [cond_true,cond_false,List.cons_append,List.nil_append]
 try dsimp only at E_ BU E8 BP
 have Bh:fg eW _ _:=fg.rep Y BU E8 BP
 refine bg 1 U<|qb (C1:=[(own A G 122 9 (ab.ah.aJ.map ao.cells)),(own B H 127 2 (List.zipWith au.cells ab.ah.ai P)),(bo (aU au.owns ab.ah.ai P)),(own C Ff 129 4 (ab.ah.ag.map bE.cells)),(own D J 3 1 (ab.aI.map iC)),(own E K 3 1 (ab.bD.map iC)),(own F L 47 1 (List.zipWith cz (dL ab.aq 0 2 (aa.mk 2590 2599)) R)),(bo (aU gT (dL ab.aq 0 2 (aa.mk 2590 2599)) R)),(own T Fe 29 1 (List.zipWith kg (bG ab) O)),(bo (aU nE (bG ab) O)),(bZ f 38 (aa.cells (eJ ab 0 0))),(rd dG 3 2 dh)]) [0,1,2,3,4,5,6,7,16,17,18,19] U U<|bg 2 U<|AL U Bk fun k=>fR U sY U<|bg 1 U<|RK E5<|WS fun _ E6=>rP 1 [] (mc 0 U I) ?_
 refine cX (EW eW A G P B H C Ff D J E K R F L (by exact Bh)) (fH 12 U U<|ay (ak (n:=ab.ah.aJ.length) 1 U (by rw [List.length_map]; rfl))<|ay (ak (n:=ab.ah.ai.length) 2 U (g3 BU))<|ay (dW 3 U iY)<|ay (ak (n:=ab.ah.ag.length) 4 U (by rw [List.length_map]; rfl))<|ay (ak (n:=ab.aI.length) 5 U (by rw [List.length_map]; rfl))<|ay (ak (n:=ab.bD.length) 6 U (by rw [List.length_map]; rfl))<|ay (ak (n:=(dL ab.aq 0 2 (aa.mk 2590 2599)).length) 7 U (fw BP.1))<|ay (hO 8 U BP)<|aL) U fun FZ FD=>?_
 obtain ⟨S,W,X⟩:=FZ
 try dsimp only
 have EN:=FD
 have Bg:=EN
 refine rP 5 [] I ?_
 refine RK E6<|WS fun _ E7=>cX jr (aL) U fun Fa FE=>?_
 obtain ⟨AW,Aw,Aa,Az,Ev,Ae,A3,Ai,A7,Am,BA,Aq,BE,ET⟩:=Fa
 try dsimp only
 obtain ⟨Y,e,a⟩:=FE
 refine rS (CL (lX 2590 2599) (aL) U)<|cX (Gt 0 2 (aa.mk 2590 2599) ab AW Aw Ev Aa Az Ae A3 Ai A7 Am BA ET Aq BE (by exact Y)) (fH 22 U U<|ay (ak (n:=ab.ah.aJ.length) 0 U sm)<|ay (ak (n:=ab.ah.ai.length) 1 U (g3 e))<|ay (dW 2 U iY)<|ay (ak (n:=ab.ah.ag.length) 3 U sm)<|ay (ak (n:=ab.aI.length) 4 U sm)<|ay (ak (n:=ab.bD.length) 5 U sm)<|ay (ak (n:=ab.aq.length) 6 U (fw a.1))<|ay (hO 7 U a)<|aL) U fun FJ FT=>?_
 obtain ⟨M,N⟩:=FJ
 try dsimp only
 refine bg 1 U<|qb (C1:=[(own M N 3 1 ((cw ab 0 2 (aa.mk 2590 2599)).map iC)),(own W X 29 1 (List.zipWith kg (bG eW) S)),(bo (aU nE (bG eW) S)),(bZ k 32 (bq.cells (bq.mk (bK.mk (aZ.mk (aM.mk A ab.ah.aJ.length G)) ab.ah.dM (aM.mk B ab.ah.ai.length H) (aM.mk C ab.ah.ag.length Ff) ab.ah.bH ab.ah.cv ab.ah.bL) (aM.mk D ab.aI.length J) (aM.mk E ab.bD.length K) ab.ed (aM.mk F ((dL ab.aq 0 2 (aa.mk 2590 2599)).length) L)))),(own A G 122 9 (ab.ah.aJ.map ao.cells)),(own B H 127 2 (List.zipWith au.cells ab.ah.ai P)),(bo (aU au.owns ab.ah.ai P)),(own C Ff 129 4 (ab.ah.ag.map bE.cells)),(own D J 3 1 (ab.aI.map iC)),(own E K 3 1 (ab.bD.map iC)),(own F L 47 1 (List.zipWith cz (dL ab.aq 0 2 (aa.mk 2590 2599)) R)),(bo (aU gT (dL ab.aq 0 2 (aa.mk 2590 2599)) R)),(own T Fe 29 1 (List.zipWith kg (bG ab) O)),(bo (aU nE (bG ab) O)),(bZ f 38 (aa.cells (eJ ab 0 0))),(rd dG 3 2 dh)]) [0,9,10,11,12,13,14,15,16,17,18,19,20,21,22,23] U U<|rP 4 [] I ?_
 refine RK E7<|al fun _ Cq=>o8 cD [0,1,2,3,4,5,6,7] [8,9,10,11,12,13,14,15,16,17,18,19,20,21,22,23,24,25,26,27,28,29,30,31,32,33,34,35,36,37,38,39,40,41,42,43,44,45,46,47,48,49,50,51,52,53,54,55,56,57,58,59,60,61,62,63,64,65,66,67,68,69,70,71,72,73] [false,false,false,false,false,false,false,false] [] [(own M N 3 1 ((cw ab 0 2 (aa.mk 2590 2599)).map iC)),(own W X 29 1 (List.zipWith kg (bG eW) S)),(bo (aU nE (bG eW) S)),(bZ k 32 (bq.cells (bq.mk (bK.mk (aZ.mk (aM.mk A ab.ah.aJ.length G)) ab.ah.dM (aM.mk B ab.ah.ai.length H) (aM.mk C ab.ah.ag.length Ff) ab.ah.bH ab.ah.cv ab.ah.bL) (aM.mk D ab.aI.length J) (aM.mk E ab.bD.length K) ab.ed (aM.mk F ((dL ab.aq 0 2 (aa.mk 2590 2599)).length) L)))),(own A G 122 9 (ab.ah.aJ.map ao.cells)),(own B H 127 2 (List.zipWith au.cells ab.ah.ai P)),(bo (aU au.owns ab.ah.ai P)),(own C Ff 129 4 (ab.ah.ag.map bE.cells)),(own D J 3 1 (ab.aI.map iC)),(own E K 3 1 (ab.bD.map iC)),(own F L 47 1 (List.zipWith cz (dL ab.aq 0 2 (aa.mk 2590 2599)) R)),(bo (aU gT (dL ab.aq 0 2 (aa.mk 2590 2599)) R)),(own T Fe 29 1 (List.zipWith kg (bG ab) O)),(bo (aU nE (bG ab) O)),(bZ f 38 (aa.cells (eJ ab 0 0))),(rd dG 3 2 dh).ro] [] kr (aK [0,1,2,3,4,5,6,7,8,9,10,11,12,13,14,15]) (aK [])<|eS U (MV U)<|eS U (BI U mq)<|eS U (MV U)<|Kd (t:=40) U (aR fun Ew=>?_) (aS fun Ew=>?_)
 ·exact absurd (O4.1) Ew
 refine eS U (LW 14 U cq U U)<|eS U (CL (lX 2596 2602) (aL) U)<|eS U (BI U (tp _ _ (eJ ab 0 0) (aa.mk 2596 2602)))<|eS U (PK U)<|eS U (MV U)<|e8 U<|N1 8<|NO U U [9,10,11,12,13,14,15,16,17,18,19,20,21,22,23,24,25,26,27,28,29,30,31,32,33,34,35,36,37,38,39,40,41,42,43,44,45,46,47,48,49,50,51,52,53,54,55,56,57,58,59,60,61,62,63,64,65,66,67,68,69,70,71,72,73] fun T106 Cr=>cb (t:=45) U (aR fun Ex=>?_) (aS fun Ex=>?_)
 ·exact absurd (O4.2) Ex
 refine cX jr (aL) U fun FL EO=>?_
 obtain ⟨Bj,CJ,Bq,CP,CE,Bv,CV,B0,Ca,B5,Cf,B_,Ck,EU⟩:=FL
 try dsimp only
 obtain ⟨Y,e,a⟩:=EO
 refine RD Cr 8 U<|N1 9<|NO U U [10,11,12,13,14,15,16,17,18,19,20,21,22,23,24,25,26,27,28,29,30,31,32,33,34,35,36,37,38,39,40,41,42,43,44,45,46,47,48,49,50,51,52,53,54,55,56,57,58,59,60,61,62,63,64,65,66,67,68,69,70,71,72,73] fun T123 Cs=>rS (CL (zm 0 514 515 ab Bj CJ CE Bq CP Bv CV B0 Ca B5 Cf EU B_ Ck (by exact Y)) (fH 23 U U<|ay (ak (n:=ab.ah.aJ.length) 0 U sm)<|ay (ak (n:=ab.ah.ai.length) 1 U (g3 e))<|ay (dW 2 U iY)<|ay (ak (n:=ab.ah.ag.length) 3 U sm)<|ay (ak (n:=ab.aI.length) 4 U sm)<|ay (ak (n:=ab.bD.length) 5 U sm)<|ay (ak (n:=ab.aq.length) 6 U (fw a.1))<|ay (hO 7 U a)<|aL) U)<|RD Cs 8 U<|N1 10<|NO U U [11,12,13,14,15,16,17,18,19,20,21,22,23,24,25,26,27,28,29,30,31,32,33,34,35,36,37,38,39,40,41,42,43,44,45,46,47,48,49,50,51,52,53,54,55,56,57,58,59,60,61,62,63,64,65,66,67,68,69,70,71,72,73] fun T124 Ct=>qb (C1:=[(own M N 3 1 ((cw ab 0 2 (aa.mk 2590 2599)).map iC)),(own W X 29 1 (List.zipWith kg (bG eW) S)),(bo (aU nE (bG eW) S)),(bZ k 32 (bq.cells (bq.mk (bK.mk (aZ.mk (aM.mk A ab.ah.aJ.length G)) ab.ah.dM (aM.mk B ab.ah.ai.length H) (aM.mk C ab.ah.ag.length Ff) ab.ah.bH ab.ah.cv ab.ah.bL) (aM.mk D ab.aI.length J) (aM.mk E ab.bD.length K) ab.ed (aM.mk F ((dL ab.aq 0 2 (aa.mk 2590 2599)).length) L)))),(own A G 122 9 (ab.ah.aJ.map ao.cells)),(own B H 127 2 (List.zipWith au.cells ab.ah.ai P)),(bo (aU au.owns ab.ah.ai P)),(own C Ff 129 4 (ab.ah.ag.map bE.cells)),(own D J 3 1 (ab.aI.map iC)),(own E K 3 1 (ab.bD.map iC)),(own F L 47 1 (List.zipWith cz (dL ab.aq 0 2 (aa.mk 2590 2599)) R)),(bo (aU gT (dL ab.aq 0 2 (aa.mk 2590 2599)) R)),(own T Fe 29 1 (List.zipWith kg (bG ab) O)),(bo (aU nE (bG ab) O)),(bZ f 38 (aa.cells (eJ ab 0 0))),(rd dG 3 2 dh)]) [8,9,10,11,12,13,14,15,16,17,18,19,20,21,22,23] U U<|rS (PK U)<|RD Ct 0 U<|N1 11<|NO U U [12,13,14,15,16,17,18,19,20,21,22,23,24,25,26,27,28,29,30,31,32,33,34,35,36,37,38,39,40,41,42,43,44,45,46,47,48,49,50,51,52,53,54,55,56,57,58,59,60,61,62,63,64,65,66,67,68,69,70,71,72,73] fun T125 Cu=>rS (MV U)<|RD Cu 0 U ?_
 refine wi (V:=OA×Nat×OA×Nat×List RA×OA×Nat×OA×Nat×OA×Nat×OA×Nat×List cQ×Nat) (fun (u,AG,w,AI,l,y,AM,AA,AO,AC,AQ,AE,AS,p,d)=>fg ab l p∧l.length=ab.ah.ai.length∧te ab.aq p) (fun (u,AG,w,AI,l,y,AM,AA,AO,AC,AQ,AE,AS,p,d)=>[(1,(vP f)),(2,(vI (gM ab 0 0))),(3,(vS T ((bG ab).length) Fe)),(4,(vI (bX ab))),(5,(vP k)),(6,(vI 0)),(7,(vS W ((bG eW).length) X)),(8,(vI (bX eW))),(9,(vS M ((cw ab 0 2 (aa.mk 2590 2599)).length) N)),(10,(vI (dQ ab 0 2 (aa.mk 2590 2599)))),(11,(vT [(vA (aa.cells (eJ ab 0 0))),(vI (gM ab 0 0))])),(12,(vA (bq.cells (bq.mk (bK.mk (aZ.mk (aM.mk BL ab.ah.aJ.length BN)) ab.ah.dM (aM.mk BM ab.ah.ai.length BO) (aM.mk Ab ab.ah.ag.length A0) ab.ah.bH ab.ah.cv ab.ah.bL) (aM.mk Af ab.aI.length A4) (aM.mk Aj ab.bD.length A8) ab.ed (aM.mk An ab.aq.length BB))))),(13,(vT [(vA (aa.cells (eJ ab 0 0))),(vI (gM ab 0 0))])),(14,(vA (aa.cells (eJ ab 0 0)))),(15,(vI (gM ab 0 0))),(16,(vT [(vS T ((bG ab).length) Fe),(vI (bX ab))])),(17,(vA (bq.cells (bq.mk (bK.mk (aZ.mk (aM.mk AU ab.ah.aJ.length Au)) ab.ah.dM (aM.mk AX ab.ah.ai.length Ax) (aM.mk Ac ab.ah.ag.length A1) ab.ah.bH ab.ah.cv ab.ah.bL) (aM.mk Ag ab.aI.length A5) (aM.mk Ak ab.bD.length A9) ab.ed (aM.mk Ao ab.aq.length BC))))),(18,(vT [(vS T ((bG ab).length) Fe),(vI (bX ab))])),(19,(vS T ((bG ab).length) Fe)),(20,(vI (bX ab))),(21,(vT [(vA (bq.cells (bq.mk (bK.mk (aZ.mk (aM.mk A ab.ah.aJ.length G)) ab.ah.dM (aM.mk B ab.ah.ai.length H) (aM.mk C ab.ah.ag.length Ff) ab.ah.bH ab.ah.cv ab.ah.bL) (aM.mk D ab.aI.length J) (aM.mk E ab.bD.length K) ab.ed (aM.mk F ((dL ab.aq 0 2 (aa.mk 2590 2599)).length) L)))),(vI 0)])),(22,(vA (bq.cells (bq.mk (bK.mk (aZ.mk (aM.mk AV ab.ah.aJ.length Av)) ab.ah.dM (aM.mk AY ab.ah.ai.length Ay) (aM.mk Ad ab.ah.ag.length A2) ab.ah.bH ab.ah.cv ab.ah.bL) (aM.mk Ah ab.aI.length A6) (aM.mk Al ab.bD.length A_) ab.ed (aM.mk Ap ab.aq.length BD))))),(23,(vA (aa.cells (aa.mk 2590 2599)))),(24,(vT [(vA (bq.cells (bq.mk (bK.mk (aZ.mk (aM.mk A ab.ah.aJ.length G)) ab.ah.dM (aM.mk B ab.ah.ai.length H) (aM.mk C ab.ah.ag.length Ff) ab.ah.bH ab.ah.cv ab.ah.bL) (aM.mk D ab.aI.length J) (aM.mk E ab.bD.length K) ab.ed (aM.mk F ((dL ab.aq 0 2 (aa.mk 2590 2599)).length) L)))),(vI 0)])),(25,(vA (bq.cells (bq.mk (bK.mk (aZ.mk (aM.mk A ab.ah.aJ.length G)) ab.ah.dM (aM.mk B ab.ah.ai.length H) (aM.mk C ab.ah.ag.length Ff) ab.ah.bH ab.ah.cv ab.ah.bL) (aM.mk D ab.aI.length J) (aM.mk E ab.bD.length K) ab.ed (aM.mk F ((dL ab.aq 0 2 (aa.mk 2590 2599)).length) L))))),(26,(vI 0)),(27,(vT [(vS W ((bG eW).length) X),(vI (bX eW))])),(28,(vA (bq.cells (bq.mk (bK.mk (aZ.mk (aM.mk A ab.ah.aJ.length G)) ab.ah.dM (aM.mk B ab.ah.ai.length H) (aM.mk C ab.ah.ag.length Ff) ab.ah.bH ab.ah.cv ab.ah.bL) (aM.mk D ab.aI.length J) (aM.mk E ab.bD.length K) ab.ed (aM.mk F ((dL ab.aq 0 2 (aa.mk 2590 2599)).length) L))))),(29,(vT [(vS W ((bG eW).length) X),(vI (bX eW))])),(30,(vS W ((bG eW).length) X)),(31,(vI (bX eW))),(32,(vT [(vS M ((cw ab 0 2 (aa.mk 2590 2599)).length) N),(vI (dQ ab 0 2 (aa.mk 2590 2599)))])),(33,(vA (bq.cells (bq.mk (bK.mk (aZ.mk (aM.mk AW ab.ah.aJ.length Aw)) ab.ah.dM (aM.mk Aa ab.ah.ai.length Az) (aM.mk Ae ab.ah.ag.length A3) ab.ah.bH ab.ah.cv ab.ah.bL) (aM.mk Ai ab.aI.length A7) (aM.mk Am ab.bD.length BA) ab.ed (aM.mk Aq ab.aq.length BE))))),(34,(vA (aa.cells (aa.mk 2590 2599)))),(35,(vT [(vS M ((cw ab 0 2 (aa.mk 2590 2599)).length) N),(vI (dQ ab 0 2 (aa.mk 2590 2599)))])),(36,(vS M ((cw ab 0 2 (aa.mk 2590 2599)).length) N)),(37,(vI (dQ ab 0 2 (aa.mk 2590 2599)))),(49,(vB true)),(50,(vA (bq.cells (bq.mk (bK.mk (aZ.mk (aM.mk u ab.ah.aJ.length AG)) ab.ah.dM (aM.mk w ab.ah.ai.length AI) (aM.mk y ab.ah.ag.length AM) ab.ah.bH ab.ah.cv ab.ah.bL) (aM.mk AA ab.aI.length AO) (aM.mk AC ab.bD.length AQ) ab.ed (aM.mk AE ab.aq.length AS))))),(51,(vS (some ⟨d,0,none⟩) 2 2))]) (fun (u,AG,w,AI,l,y,AM,AA,AO,AC,AQ,AE,AS,p,d)=>[(bZ d 3 [(vI 1),(vI 2)]),(own u AG 122 9 (ab.ah.aJ.map ao.cells)),(own w AI 127 2 (List.zipWith au.cells ab.ah.ai l)),(bo (aU au.owns ab.ah.ai l)),(own y AM 129 4 (ab.ah.ag.map bE.cells)),(own AA AO 3 1 (ab.aI.map iC)),(own AC AQ 3 1 (ab.bD.map iC)),(own AE AS 47 1 (List.zipWith cz ab.aq p)),(bo (aU gT ab.aq p)),(own M N 3 1 ((cw ab 0 2 (aa.mk 2590 2599)).map iC)),(own W X 29 1 (List.zipWith kg (bG eW) S)),(bo (aU nE (bG eW) S)),(bZ k 32 (bq.cells (bq.mk (bK.mk (aZ.mk (aM.mk A ab.ah.aJ.length G)) ab.ah.dM (aM.mk B ab.ah.ai.length H) (aM.mk C ab.ah.ag.length Ff) ab.ah.bH ab.ah.cv ab.ah.bL) (aM.mk D ab.aI.length J) (aM.mk E ab.bD.length K) ab.ed (aM.mk F ((dL ab.aq 0 2 (aa.mk 2590 2599)).length) L)))),(own A G 122 9 (ab.ah.aJ.map ao.cells)),(own B H 127 2 (List.zipWith au.cells ab.ah.ai P)),(bo (aU au.owns ab.ah.ai P)),(own C Ff 129 4 (ab.ah.ag.map bE.cells)),(own D J 3 1 (ab.aI.map iC)),(own E K 3 1 (ab.bD.map iC)),(own F L 47 1 (List.zipWith cz (dL ab.aq 0 2 (aa.mk 2590 2599)) R)),(bo (aU gT (dL ab.aq 0 2 (aa.mk 2590 2599)) R)),(own T Fe 29 1 (List.zipWith kg (bG ab) O)),(bo (aU nE (bG ab) O)),(bZ f 38 (aa.cells (eJ ab 0 0))),(rd dG 3 2 dh).ro]) 60 [14,15,16,17,18,19,20,21,22,23,24,25,26,27,28,29,30,31,32,33,34,35,36,37,38,39,40,41,42,43,44,45,46,47,48,49,50,51,52,53,54,55,56,57,58,59,60,61,62,63,64,65,66,67,68,69,70,71,72,73] (fun hJ=>?_) ?_
 ·refine iT [12,13] kr (eN ?_<|eN ?_<|kT)
  rotate_left 1
  ·refine NO U U [12,14,15,16,17,18,19,20,21,22,23,24,25,26,27,28,29,30,31,32,33,34,35,36,37,38,39,40,41,42,43,44,45,46,47,48,49,50,51,52,53,54,55,56,57,58,59,60,61,62,63,64,65,66,67,68,69,70,71,72,73] fun T162 Cx=>cb (t:=49) U (aR fun BQ=>?_) (aS fun BQ=>?_)
   ·exact absurd (⟨mh.1,mh.2.1⟩) BQ
   refine cU (xs:=[.const (vI 1),.const (vI 2)]) (cs:=[(vI 1),(vI 2)]) U cy jd U U U U (by simp [Value.cells]) U U fun Eb=>RD Cx 1 U<|N1 12<|NO U U [14,15,16,17,18,19,20,21,22,23,24,25,26,27,28,29,30,31,32,33,34,35,36,37,38,39,40,41,42,43,44,45,46,47,48,49,50,51,52,53,54,55,56,57,58,59,60,61,62,63,64,65,66,67,68,69,70,71,72,73] fun T164 Cy=>cX jr (aL) U fun FN EQ=>?_
   obtain ⟨Bm,CM,Bs,CR,CG,Bx,CX,B2,Cc,B7,Ch,CB,Cn,EX⟩:=FN
   try dsimp only
   obtain ⟨Y,e,a⟩:=EQ
   refine RD Cy 9 U ?_
   exact j2 hJ (Bm,CM,Bs,CR,CG,Bx,CX,B2,Cc,B7,Ch,CB,Cn,EX,Eb) ⟨Y,e,a⟩ [8,0,1,2,3,4,5,6,7,9,10,11,12,13,14,15,16,17,18,19,20,21,22,23,24] U U U
  refine NO U U [13,14,15,16,17,18,19,20,21,22,23,24,25,26,27,28,29,30,31,32,33,34,35,36,37,38,39,40,41,42,43,44,45,46,47,48,49,50,51,52,53,54,55,56,57,58,59,60,61,62,63,64,65,66,67,68,69,70,71,72,73] fun T143 Cv=>cb (t:=49) U (aR fun BQ=>?_) (aS fun BQ=>?_)
  ·exact absurd (⟨mh.1,mh.2.1⟩) BQ
  refine cX jr (aL) U fun FM EP=>?_
  obtain ⟨Bl,CK,Br,CQ,CF,Bw,CW,B1,Cb,B6,Cg,CA,Cl,EV⟩:=FM
  try dsimp only
  obtain ⟨Y,e,a⟩:=EP
  refine RD Cv 8 U<|N1 13<|NO U U [14,15,16,17,18,19,20,21,22,23,24,25,26,27,28,29,30,31,32,33,34,35,36,37,38,39,40,41,42,43,44,45,46,47,48,49,50,51,52,53,54,55,56,57,58,59,60,61,62,63,64,65,66,67,68,69,70,71,72,73] fun T160 Cw=>cU (xs:=[.const (vI 1),.const (vI 2)]) (cs:=[(vI 1),(vI 2)]) U cy jd U U U U (by simp [Value.cells]) U U fun Ea=>RD Cw 9 U ?_
  exact j2 hJ (Bl,CK,Br,CQ,CF,Bw,CW,B1,Cb,B6,Cg,CA,Cl,EV,Ea) ⟨Y,e,a⟩ [0,1,2,3,4,5,6,7,8,9,10,11,12,13,14,15,16,17,18,19,20,21,22,23,24] U U U
 rintro ⟨u,AG,w,AI,l,y,AM,AA,AO,AC,AQ,AE,AS,p,d⟩ ⟨Y,e,a⟩
 try dsimp only
 refine N1 14<|NO U U [15,16,17,18,19,20,21,22,23,24,25,26,27,28,29,30,31,32,33,34,35,36,37,38,39,40,41,42,43,44,45,46,47,48,49,50,51,52,53,54,55,56,57,58,59,60,61,62,63,64,65,66,67,68,69,70,71,72,73] fun T181 Cz=>rS (CL (zd 0 ([1,2]) (some ⟨d,0,none⟩) 2 ab u AG l w AI y AM AA AO AC AQ p AE AS (by exact Y) dc) (ay (aY 0 U U (by simp [bJ]) U)<|fH 24 U U<|ay (ak (n:=ab.ah.aJ.length) 1 U sm)<|ay (ak (n:=ab.ah.ai.length) 2 U (g3 e))<|ay (dW 3 U iY)<|ay (ak (n:=ab.ah.ag.length) 4 U sm)<|ay (ak (n:=ab.aI.length) 5 U sm)<|ay (ak (n:=ab.bD.length) 6 U sm)<|ay (ak (n:=ab.aq.length) 7 U (fw a.1))<|ay (hO 8 U a)<|aL) U)<|RD Cz 9 U<|N1 15<|NO U U [16,17,18,19,20,21,22,23,24,25,26,27,28,29,30,31,32,33,34,35,36,37,38,39,40,41,42,43,44,45,46,47,48,49,50,51,52,53,54,55,56,57,58,59,60,61,62,63,64,65,66,67,68,69,70,71,72,73] fun T182 C0=>qb (C1:=[(bZ d 3 [(vI 1),(vI 2)]),(own M N 3 1 ((cw ab 0 2 (aa.mk 2590 2599)).map iC)),(own W X 29 1 (List.zipWith kg (bG eW) S)),(bo (aU nE (bG eW) S)),(bZ k 32 (bq.cells (bq.mk (bK.mk (aZ.mk (aM.mk A ab.ah.aJ.length G)) ab.ah.dM (aM.mk B ab.ah.ai.length H) (aM.mk C ab.ah.ag.length Ff) ab.ah.bH ab.ah.cv ab.ah.bL) (aM.mk D ab.aI.length J) (aM.mk E ab.bD.length K) ab.ed (aM.mk F ((dL ab.aq 0 2 (aa.mk 2590 2599)).length) L)))),(own A G 122 9 (ab.ah.aJ.map ao.cells)),(own B H 127 2 (List.zipWith au.cells ab.ah.ai P)),(bo (aU au.owns ab.ah.ai P)),(own C Ff 129 4 (ab.ah.ag.map bE.cells)),(own D J 3 1 (ab.aI.map iC)),(own E K 3 1 (ab.bD.map iC)),(own F L 47 1 (List.zipWith cz (dL ab.aq 0 2 (aa.mk 2590 2599)) R)),(bo (aU gT (dL ab.aq 0 2 (aa.mk 2590 2599)) R)),(own T Fe 29 1 (List.zipWith kg (bG ab) O)),(bo (aU nE (bG ab) O)),(bZ f 38 (aa.cells (eJ ab 0 0))),(rd dG 3 2 dh)]) [0,9,10,11,12,13,14,15,16,17,18,19,20,21,22,23,24] U U<|rS (PK U)<|RD C0 1 U<|N1 16<|NO U U [17,18,19,20,21,22,23,24,25,26,27,28,29,30,31,32,33,34,35,36,37,38,39,40,41,42,43,44,45,46,47,48,49,50,51,52,53,54,55,56,57,58,59,60,61,62,63,64,65,66,67,68,69,70,71,72,73] fun T183 C2=>rS (MV U)<|RD C2 1 U ?_
 refine wi (V:=OA×Nat×OA×Nat×List RA×OA×Nat×OA×Nat×OA×Nat×OA×Nat×List cQ×Nat) (fun (v,AH,x,AK,o,z,AN,AB,AP,AD,AR,AF,AT,q,g)=>fg ab o q∧o.length=ab.ah.ai.length∧te ab.aq q) (fun (v,AH,x,AK,o,z,AN,AB,AP,AD,AR,AF,AT,q,g)=>[(1,(vP f)),(2,(vI (gM ab 0 0))),(3,(vS T ((bG ab).length) Fe)),(4,(vI (bX ab))),(5,(vP k)),(6,(vI 0)),(7,(vS W ((bG eW).length) X)),(8,(vI (bX eW))),(9,(vS M ((cw ab 0 2 (aa.mk 2590 2599)).length) N)),(10,(vI (dQ ab 0 2 (aa.mk 2590 2599)))),(11,(vT [(vA (aa.cells (eJ ab 0 0))),(vI (gM ab 0 0))])),(12,(vA (bq.cells (bq.mk (bK.mk (aZ.mk (aM.mk BL ab.ah.aJ.length BN)) ab.ah.dM (aM.mk BM ab.ah.ai.length BO) (aM.mk Ab ab.ah.ag.length A0) ab.ah.bH ab.ah.cv ab.ah.bL) (aM.mk Af ab.aI.length A4) (aM.mk Aj ab.bD.length A8) ab.ed (aM.mk An ab.aq.length BB))))),(13,(vT [(vA (aa.cells (eJ ab 0 0))),(vI (gM ab 0 0))])),(14,(vA (aa.cells (eJ ab 0 0)))),(15,(vI (gM ab 0 0))),(16,(vT [(vS T ((bG ab).length) Fe),(vI (bX ab))])),(17,(vA (bq.cells (bq.mk (bK.mk (aZ.mk (aM.mk AU ab.ah.aJ.length Au)) ab.ah.dM (aM.mk AX ab.ah.ai.length Ax) (aM.mk Ac ab.ah.ag.length A1) ab.ah.bH ab.ah.cv ab.ah.bL) (aM.mk Ag ab.aI.length A5) (aM.mk Ak ab.bD.length A9) ab.ed (aM.mk Ao ab.aq.length BC))))),(18,(vT [(vS T ((bG ab).length) Fe),(vI (bX ab))])),(19,(vS T ((bG ab).length) Fe)),(20,(vI (bX ab))),(21,(vT [(vA (bq.cells (bq.mk (bK.mk (aZ.mk (aM.mk A ab.ah.aJ.length G)) ab.ah.dM (aM.mk B ab.ah.ai.length H) (aM.mk C ab.ah.ag.length Ff) ab.ah.bH ab.ah.cv ab.ah.bL) (aM.mk D ab.aI.length J) (aM.mk E ab.bD.length K) ab.ed (aM.mk F ((dL ab.aq 0 2 (aa.mk 2590 2599)).length) L)))),(vI 0)])),(22,(vA (bq.cells (bq.mk (bK.mk (aZ.mk (aM.mk AV ab.ah.aJ.length Av)) ab.ah.dM (aM.mk AY ab.ah.ai.length Ay) (aM.mk Ad ab.ah.ag.length A2) ab.ah.bH ab.ah.cv ab.ah.bL) (aM.mk Ah ab.aI.length A6) (aM.mk Al ab.bD.length A_) ab.ed (aM.mk Ap ab.aq.length BD))))),(23,(vA (aa.cells (aa.mk 2590 2599)))),(24,(vT [(vA (bq.cells (bq.mk (bK.mk (aZ.mk (aM.mk A ab.ah.aJ.length G)) ab.ah.dM (aM.mk B ab.ah.ai.length H) (aM.mk C ab.ah.ag.length Ff) ab.ah.bH ab.ah.cv ab.ah.bL) (aM.mk D ab.aI.length J) (aM.mk E ab.bD.length K) ab.ed (aM.mk F ((dL ab.aq 0 2 (aa.mk 2590 2599)).length) L)))),(vI 0)])),(25,(vA (bq.cells (bq.mk (bK.mk (aZ.mk (aM.mk A ab.ah.aJ.length G)) ab.ah.dM (aM.mk B ab.ah.ai.length H) (aM.mk C ab.ah.ag.length Ff) ab.ah.bH ab.ah.cv ab.ah.bL) (aM.mk D ab.aI.length J) (aM.mk E ab.bD.length K) ab.ed (aM.mk F ((dL ab.aq 0 2 (aa.mk 2590 2599)).length) L))))),(26,(vI 0)),(27,(vT [(vS W ((bG eW).length) X),(vI (bX eW))])),(28,(vA (bq.cells (bq.mk (bK.mk (aZ.mk (aM.mk A ab.ah.aJ.length G)) ab.ah.dM (aM.mk B ab.ah.ai.length H) (aM.mk C ab.ah.ag.length Ff) ab.ah.bH ab.ah.cv ab.ah.bL) (aM.mk D ab.aI.length J) (aM.mk E ab.bD.length K) ab.ed (aM.mk F ((dL ab.aq 0 2 (aa.mk 2590 2599)).length) L))))),(29,(vT [(vS W ((bG eW).length) X),(vI (bX eW))])),(30,(vS W ((bG eW).length) X)),(31,(vI (bX eW))),(32,(vT [(vS M ((cw ab 0 2 (aa.mk 2590 2599)).length) N),(vI (dQ ab 0 2 (aa.mk 2590 2599)))])),(33,(vA (bq.cells (bq.mk (bK.mk (aZ.mk (aM.mk AW ab.ah.aJ.length Aw)) ab.ah.dM (aM.mk Aa ab.ah.ai.length Az) (aM.mk Ae ab.ah.ag.length A3) ab.ah.bH ab.ah.cv ab.ah.bL) (aM.mk Ai ab.aI.length A7) (aM.mk Am ab.bD.length BA) ab.ed (aM.mk Aq ab.aq.length BE))))),(34,(vA (aa.cells (aa.mk 2590 2599)))),(35,(vT [(vS M ((cw ab 0 2 (aa.mk 2590 2599)).length) N),(vI (dQ ab 0 2 (aa.mk 2590 2599)))])),(36,(vS M ((cw ab 0 2 (aa.mk 2590 2599)).length) N)),(37,(vI (dQ ab 0 2 (aa.mk 2590 2599)))),(54,(vB true)),(55,(vA (bq.cells (bq.mk (bK.mk (aZ.mk (aM.mk v ab.ah.aJ.length AH)) ab.ah.dM (aM.mk x ab.ah.ai.length AK) (aM.mk z ab.ah.ag.length AN) ab.ah.bH ab.ah.cv ab.ah.bL) (aM.mk AB ab.aI.length AP) (aM.mk AD ab.bD.length AR) ab.ed (aM.mk AF ab.aq.length AT))))),(56,(vS (some ⟨g,0,none⟩) 2 2))]) (fun (v,AH,x,AK,o,z,AN,AB,AP,AD,AR,AF,AT,q,g)=>[(bZ g 3 [(vI 2),(vI 3)]),(own v AH 122 9 (ab.ah.aJ.map ao.cells)),(own x AK 127 2 (List.zipWith au.cells ab.ah.ai o)),(bo (aU au.owns ab.ah.ai o)),(own z AN 129 4 (ab.ah.ag.map bE.cells)),(own AB AP 3 1 (ab.aI.map iC)),(own AD AR 3 1 (ab.bD.map iC)),(own AF AT 47 1 (List.zipWith cz ab.aq q)),(bo (aU gT ab.aq q)),(bZ d 3 [(vI 1),(vI 2)]),(own M N 3 1 ((cw ab 0 2 (aa.mk 2590 2599)).map iC)),(own W X 29 1 (List.zipWith kg (bG eW) S)),(bo (aU nE (bG eW) S)),(bZ k 32 (bq.cells (bq.mk (bK.mk (aZ.mk (aM.mk A ab.ah.aJ.length G)) ab.ah.dM (aM.mk B ab.ah.ai.length H) (aM.mk C ab.ah.ag.length Ff) ab.ah.bH ab.ah.cv ab.ah.bL) (aM.mk D ab.aI.length J) (aM.mk E ab.bD.length K) ab.ed (aM.mk F ((dL ab.aq 0 2 (aa.mk 2590 2599)).length) L)))),(own A G 122 9 (ab.ah.aJ.map ao.cells)),(own B H 127 2 (List.zipWith au.cells ab.ah.ai P)),(bo (aU au.owns ab.ah.ai P)),(own C Ff 129 4 (ab.ah.ag.map bE.cells)),(own D J 3 1 (ab.aI.map iC)),(own E K 3 1 (ab.bD.map iC)),(own F L 47 1 (List.zipWith cz (dL ab.aq 0 2 (aa.mk 2590 2599)) R)),(bo (aU gT (dL ab.aq 0 2 (aa.mk 2590 2599)) R)),(own T Fe 29 1 (List.zipWith kg (bG ab) O)),(bo (aU nE (bG ab) O)),(bZ f 38 (aa.cells (eJ ab 0 0))),(rd dG 3 2 dh).ro]) 55 [19,20,21,22,23,24,25,26,27,28,29,30,31,32,33,34,35,36,37,38,39,40,41,42,43,44,45,46,47,48,49,50,51,52,53,54,55,56,57,58,59,60,61,62,63,64,65,66,67,68,69,70,71,72,73] (fun hJ=>?_) ?_
 ·refine iT [17,18] kr (eN ?_<|eN ?_<|kT)
  rotate_left 1
  ·refine NO U U [17,19,20,21,22,23,24,25,26,27,28,29,30,31,32,33,34,35,36,37,38,39,40,41,42,43,44,45,46,47,48,49,50,51,52,53,54,55,56,57,58,59,60,61,62,63,64,65,66,67,68,69,70,71,72,73] fun T220 C5=>cb (t:=54) U (aR fun BR=>?_) (aS fun BR=>?_)
   ·exact absurd (⟨mh.1,mh.2.2⟩) BR
   refine cU (xs:=[.const (vI 2),.const (vI 3)]) (cs:=[(vI 2),(vI 3)]) U cy jd U U U U (by simp [Value.cells]) U U fun Ed=>RD C5 2 U<|N1 17<|NO U U [19,20,21,22,23,24,25,26,27,28,29,30,31,32,33,34,35,36,37,38,39,40,41,42,43,44,45,46,47,48,49,50,51,52,53,54,55,56,57,58,59,60,61,62,63,64,65,66,67,68,69,70,71,72,73] fun T222 C6=>cX jr (aL) U fun FP ES=>?_
   obtain ⟨Bp,CO,Bu,CU,CI,Bz,CZ,B4,Ce,B9,Cj,CD,Cp,EZ⟩:=FP
   try dsimp only
   obtain ⟨Y,e,a⟩:=ES
   refine RD C6 10 U ?_
   exact j2 hJ (Bp,CO,Bu,CU,CI,Bz,CZ,B4,Ce,B9,Cj,CD,Cp,EZ,Ed) ⟨Y,e,a⟩ [8,0,1,2,3,4,5,6,7,9,10,11,12,13,14,15,16,17,18,19,20,21,22,23,24,25] U U U
  refine NO U U [18,19,20,21,22,23,24,25,26,27,28,29,30,31,32,33,34,35,36,37,38,39,40,41,42,43,44,45,46,47,48,49,50,51,52,53,54,55,56,57,58,59,60,61,62,63,64,65,66,67,68,69,70,71,72,73] fun T201 C3=>cb (t:=54) U (aR fun BR=>?_) (aS fun BR=>?_)
  ·exact absurd (⟨mh.1,mh.2.2⟩) BR
  refine cX jr (aL) U fun FO ER=>?_
  obtain ⟨Bo,CN,Bt,CT,CH,By,CY,B3,Cd,B8,Ci,CC,Co,EY⟩:=FO
  try dsimp only
  obtain ⟨Y,e,a⟩:=ER
  refine RD C3 9 U<|N1 18<|NO U U [19,20,21,22,23,24,25,26,27,28,29,30,31,32,33,34,35,36,37,38,39,40,41,42,43,44,45,46,47,48,49,50,51,52,53,54,55,56,57,58,59,60,61,62,63,64,65,66,67,68,69,70,71,72,73] fun T218 C4=>cU (xs:=[.const (vI 2),.const (vI 3)]) (cs:=[(vI 2),(vI 3)]) U cy jd U U U U (by simp [Value.cells]) U U fun Ec=>RD C4 10 U ?_
  exact j2 hJ (Bo,CN,Bt,CT,CH,By,CY,B3,Cd,B8,Ci,CC,Co,EY,Ec) ⟨Y,e,a⟩ [0,1,2,3,4,5,6,7,8,9,10,11,12,13,14,15,16,17,18,19,20,21,22,23,24,25] U U U
 rintro ⟨v,AH,x,AK,o,z,AN,AB,AP,AD,AR,AF,AT,q,g⟩ ⟨Y,e,a⟩
 try dsimp only
 refine N1 19<|NO U U [20,21,22,23,24,25,26,27,28,29,30,31,32,33,34,35,36,37,38,39,40,41,42,43,44,45,46,47,48,49,50,51,52,53,54,55,56,57,58,59,60,61,62,63,64,65,66,67,68,69,70,71,72,73] fun T239 C7=>rS (CL (zd 2 ([2,3]) (some ⟨g,0,none⟩) 2 ab v AH o x AK z AN AB AP AD AR q AF AT (by exact Y) dc) (ay (aY 0 U U (by simp [bJ]) U)<|fH 25 U U<|ay (ak (n:=ab.ah.aJ.length) 1 U sm)<|ay (ak (n:=ab.ah.ai.length) 2 U (g3 e))<|ay (dW 3 U iY)<|ay (ak (n:=ab.ah.ag.length) 4 U sm)<|ay (ak (n:=ab.aI.length) 5 U sm)<|ay (ak (n:=ab.bD.length) 6 U sm)<|ay (ak (n:=ab.aq.length) 7 U (fw a.1))<|ay (hO 8 U a)<|aL) U)<|RD C7 10 U<|N1 20<|NO U U [21,22,23,24,25,26,27,28,29,30,31,32,33,34,35,36,37,38,39,40,41,42,43,44,45,46,47,48,49,50,51,52,53,54,55,56,57,58,59,60,61,62,63,64,65,66,67,68,69,70,71,72,73] fun T240 C8=>qb (C1:=[(bZ g 3 [(vI 2),(vI 3)]),(bZ d 3 [(vI 1),(vI 2)]),(own M N 3 1 ((cw ab 0 2 (aa.mk 2590 2599)).map iC)),(own W X 29 1 (List.zipWith kg (bG eW) S)),(bo (aU nE (bG eW) S)),(bZ k 32 (bq.cells (bq.mk (bK.mk (aZ.mk (aM.mk A ab.ah.aJ.length G)) ab.ah.dM (aM.mk B ab.ah.ai.length H) (aM.mk C ab.ah.ag.length Ff) ab.ah.bH ab.ah.cv ab.ah.bL) (aM.mk D ab.aI.length J) (aM.mk E ab.bD.length K) ab.ed (aM.mk F ((dL ab.aq 0 2 (aa.mk 2590 2599)).length) L)))),(own A G 122 9 (ab.ah.aJ.map ao.cells)),(own B H 127 2 (List.zipWith au.cells ab.ah.ai P)),(bo (aU au.owns ab.ah.ai P)),(own C Ff 129 4 (ab.ah.ag.map bE.cells)),(own D J 3 1 (ab.aI.map iC)),(own E K 3 1 (ab.bD.map iC)),(own F L 47 1 (List.zipWith cz (dL ab.aq 0 2 (aa.mk 2590 2599)) R)),(bo (aU gT (dL ab.aq 0 2 (aa.mk 2590 2599)) R)),(own T Fe 29 1 (List.zipWith kg (bG ab) O)),(bo (aU nE (bG ab) O)),(bZ f 38 (aa.cells (eJ ab 0 0))),(rd dG 3 2 dh)]) [0,9,10,11,12,13,14,15,16,17,18,19,20,21,22,23,24,25] U U<|rS (PK U)<|RD C8 2 U<|N1 21<|NO U U [22,23,24,25,26,27,28,29,30,31,32,33,34,35,36,37,38,39,40,41,42,43,44,45,46,47,48,49,50,51,52,53,54,55,56,57,58,59,60,61,62,63,64,65,66,67,68,69,70,71,72,73] fun T241 C9=>rS (MV U)<|RD C9 2 U<|N1 22<|NO U U [23,24,25,26,27,28,29,30,31,32,33,34,35,36,37,38,39,40,41,42,43,44,45,46,47,48,49,50,51,52,53,54,55,56,57,58,59,60,61,62,63,64,65,66,67,68,69,70,71,72,73] fun T242 C_=>cb (t:=59) U (aR fun Ey=>?_) (aS fun Ey=>?_)
 ·exact absurd (⟨Bn.1,Bn.2.2⟩) Ey
 refine rS (CL (CS 1 2 2 0) (bp [17]) U)<|RD C_ 2 U<|N1 23<|NO U U [24,25,26,27,28,29,30,31,32,33,34,35,36,37,38,39,40,41,42,43,44,45,46,47,48,49,50,51,52,53,54,55,56,57,58,59,60,61,62,63,64,65,66,67,68,69,70,71,72,73] fun T243 DA=>rS (PK U)<|RD DA 2 U<|N1 24<|NO U U [25,26,27,28,29,30,31,32,33,34,35,36,37,38,39,40,41,42,43,44,45,46,47,48,49,50,51,52,53,54,55,56,57,58,59,60,61,62,63,64,65,66,67,68,69,70,71,72,73] fun T244 DB=>rS (MV U)<|RD DB 2 U<|N1 25<|NO U U [26,27,28,29,30,31,32,33,34,35,36,37,38,39,40,41,42,43,44,45,46,47,48,49,50,51,52,53,54,55,56,57,58,59,60,61,62,63,64,65,66,67,68,69,70,71,72,73] fun T245 DC=>cb (t:=62) U (aR fun Ez=>?_) (aS fun Ez=>?_)
 ·exact absurd (⟨⟨⟨AJ.1,AJ.2.1⟩,AJ.1⟩,AJ.2.2⟩) Ez
 refine rS (CL (CS 0 1 0 1) (bp [17]) U)<|RD DC 2 U<|N1 26<|NO U U [27,28,29,30,31,32,33,34,35,36,37,38,39,40,41,42,43,44,45,46,47,48,49,50,51,52,53,54,55,56,57,58,59,60,61,62,63,64,65,66,67,68,69,70,71,72,73] fun T246 DD=>rS (PK U)<|RD DD 2 U<|N1 27<|NO U U [28,29,30,31,32,33,34,35,36,37,38,39,40,41,42,43,44,45,46,47,48,49,50,51,52,53,54,55,56,57,58,59,60,61,62,63,64,65,66,67,68,69,70,71,72,73] fun T247 DE=>rS (MV U)<|RD DE 2 U<|N1 28<|NO U U [29,30,31,32,33,34,35,36,37,38,39,40,41,42,43,44,45,46,47,48,49,50,51,52,53,54,55,56,57,58,59,60,61,62,63,64,65,66,67,68,69,70,71,72,73] fun T248 DF=>cb (t:=65) U (aR fun E0=>?_) (aS fun E0=>?_)
 ·exact absurd (⟨⟨⟨zK.1,zK.2.1⟩,zK.1⟩,zK.2.2⟩) E0
 refine rS (MV U)<|RD DF 2 U<|N1 29<|NO U U [30,31,32,33,34,35,36,37,38,39,40,41,42,43,44,45,46,47,48,49,50,51,52,53,54,55,56,57,58,59,60,61,62,63,64,65,66,67,68,69,70,71,72,73] fun T249 DG=>rS (BI U mq)<|RD DG 2 U<|N1 30<|NO U U [31,32,33,34,35,36,37,38,39,40,41,42,43,44,45,46,47,48,49,50,51,52,53,54,55,56,57,58,59,60,61,62,63,64,65,66,67,68,69,70,71,72,73] fun T250 DH=>rS (PK U)<|RD DH 2 U<|N1 31<|NO U U [32,33,34,35,36,37,38,39,40,41,42,43,44,45,46,47,48,49,50,51,52,53,54,55,56,57,58,59,60,61,62,63,64,65,66,67,68,69,70,71,72,73] fun T251 DI=>rS (MV U)<|RD DI 2 U ?_
 refine wi (V:=Nat×Nat) (fun (Z,j)=>True) (fun (Z,j)=>[(1,(vP f)),(2,(vI (gM ab 0 0))),(3,(vS T ((bG ab).length) Fe)),(4,(vI (bX ab))),(5,(vP k)),(6,(vI 0)),(7,(vS W ((bG eW).length) X)),(8,(vI (bX eW))),(9,(vS M ((cw ab 0 2 (aa.mk 2590 2599)).length) N)),(10,(vI (dQ ab 0 2 (aa.mk 2590 2599)))),(11,(vT [(vA (aa.cells (eJ ab 0 0))),(vI (gM ab 0 0))])),(12,(vA (bq.cells (bq.mk (bK.mk (aZ.mk (aM.mk BL ab.ah.aJ.length BN)) ab.ah.dM (aM.mk BM ab.ah.ai.length BO) (aM.mk Ab ab.ah.ag.length A0) ab.ah.bH ab.ah.cv ab.ah.bL) (aM.mk Af ab.aI.length A4) (aM.mk Aj ab.bD.length A8) ab.ed (aM.mk An ab.aq.length BB))))),(13,(vT [(vA (aa.cells (eJ ab 0 0))),(vI (gM ab 0 0))])),(14,(vA (aa.cells (eJ ab 0 0)))),(15,(vI (gM ab 0 0))),(16,(vT [(vS T ((bG ab).length) Fe),(vI (bX ab))])),(17,(vA (bq.cells (bq.mk (bK.mk (aZ.mk (aM.mk AU ab.ah.aJ.length Au)) ab.ah.dM (aM.mk AX ab.ah.ai.length Ax) (aM.mk Ac ab.ah.ag.length A1) ab.ah.bH ab.ah.cv ab.ah.bL) (aM.mk Ag ab.aI.length A5) (aM.mk Ak ab.bD.length A9) ab.ed (aM.mk Ao ab.aq.length BC))))),(18,(vT [(vS T ((bG ab).length) Fe),(vI (bX ab))])),(19,(vS T ((bG ab).length) Fe)),(20,(vI (bX ab))),(21,(vT [(vA (bq.cells (bq.mk (bK.mk (aZ.mk (aM.mk A ab.ah.aJ.length G)) ab.ah.dM (aM.mk B ab.ah.ai.length H) (aM.mk C ab.ah.ag.length Ff) ab.ah.bH ab.ah.cv ab.ah.bL) (aM.mk D ab.aI.length J) (aM.mk E ab.bD.length K) ab.ed (aM.mk F ((dL ab.aq 0 2 (aa.mk 2590 2599)).length) L)))),(vI 0)])),(22,(vA (bq.cells (bq.mk (bK.mk (aZ.mk (aM.mk AV ab.ah.aJ.length Av)) ab.ah.dM (aM.mk AY ab.ah.ai.length Ay) (aM.mk Ad ab.ah.ag.length A2) ab.ah.bH ab.ah.cv ab.ah.bL) (aM.mk Ah ab.aI.length A6) (aM.mk Al ab.bD.length A_) ab.ed (aM.mk Ap ab.aq.length BD))))),(23,(vA (aa.cells (aa.mk 2590 2599)))),(24,(vT [(vA (bq.cells (bq.mk (bK.mk (aZ.mk (aM.mk A ab.ah.aJ.length G)) ab.ah.dM (aM.mk B ab.ah.ai.length H) (aM.mk C ab.ah.ag.length Ff) ab.ah.bH ab.ah.cv ab.ah.bL) (aM.mk D ab.aI.length J) (aM.mk E ab.bD.length K) ab.ed (aM.mk F ((dL ab.aq 0 2 (aa.mk 2590 2599)).length) L)))),(vI 0)])),(25,(vA (bq.cells (bq.mk (bK.mk (aZ.mk (aM.mk A ab.ah.aJ.length G)) ab.ah.dM (aM.mk B ab.ah.ai.length H) (aM.mk C ab.ah.ag.length Ff) ab.ah.bH ab.ah.cv ab.ah.bL) (aM.mk D ab.aI.length J) (aM.mk E ab.bD.length K) ab.ed (aM.mk F ((dL ab.aq 0 2 (aa.mk 2590 2599)).length) L))))),(26,(vI 0)),(27,(vT [(vS W ((bG eW).length) X),(vI (bX eW))])),(28,(vA (bq.cells (bq.mk (bK.mk (aZ.mk (aM.mk A ab.ah.aJ.length G)) ab.ah.dM (aM.mk B ab.ah.ai.length H) (aM.mk C ab.ah.ag.length Ff) ab.ah.bH ab.ah.cv ab.ah.bL) (aM.mk D ab.aI.length J) (aM.mk E ab.bD.length K) ab.ed (aM.mk F ((dL ab.aq 0 2 (aa.mk 2590 2599)).length) L))))),(29,(vT [(vS W ((bG eW).length) X),(vI (bX eW))])),(30,(vS W ((bG eW).length) X)),(31,(vI (bX eW))),(32,(vT [(vS M ((cw ab 0 2 (aa.mk 2590 2599)).length) N),(vI (dQ ab 0 2 (aa.mk 2590 2599)))])),(33,(vA (bq.cells (bq.mk (bK.mk (aZ.mk (aM.mk AW ab.ah.aJ.length Aw)) ab.ah.dM (aM.mk Aa ab.ah.ai.length Az) (aM.mk Ae ab.ah.ag.length A3) ab.ah.bH ab.ah.cv ab.ah.bL) (aM.mk Ai ab.aI.length A7) (aM.mk Am ab.bD.length BA) ab.ed (aM.mk Aq ab.aq.length BE))))),(34,(vA (aa.cells (aa.mk 2590 2599)))),(35,(vT [(vS M ((cw ab 0 2 (aa.mk 2590 2599)).length) N),(vI (dQ ab 0 2 (aa.mk 2590 2599)))])),(36,(vS M ((cw ab 0 2 (aa.mk 2590 2599)).length) N)),(37,(vI (dQ ab 0 2 (aa.mk 2590 2599)))),(69,(vB true)),(70,(vS T ((bG ab).length) Fe)),(71,(vS (some ⟨Z,0,none⟩) 3 3)),(72,(vS (some ⟨j,0,none⟩) 1 1))]) (fun (Z,j)=>[(bZ j 29 [(vS (some ⟨Z,0,none⟩) 3 3)]),(bZ Z 3 [(vI 0),(vI 1),(vI 2)]),(bZ g 3 [(vI 2),(vI 3)]),(bZ d 3 [(vI 1),(vI 2)]),(own M N 3 1 ((cw ab 0 2 (aa.mk 2590 2599)).map iC)),(own W X 29 1 (List.zipWith kg (bG eW) S)),(bo (aU nE (bG eW) S)),(bZ k 32 (bq.cells (bq.mk (bK.mk (aZ.mk (aM.mk A ab.ah.aJ.length G)) ab.ah.dM (aM.mk B ab.ah.ai.length H) (aM.mk C ab.ah.ag.length Ff) ab.ah.bH ab.ah.cv ab.ah.bL) (aM.mk D ab.aI.length J) (aM.mk E ab.bD.length K) ab.ed (aM.mk F ((dL ab.aq 0 2 (aa.mk 2590 2599)).length) L)))),(own A G 122 9 (ab.ah.aJ.map ao.cells)),(own B H 127 2 (List.zipWith au.cells ab.ah.ai P)),(bo (aU au.owns ab.ah.ai P)),(own C Ff 129 4 (ab.ah.ag.map bE.cells)),(own D J 3 1 (ab.aI.map iC)),(own E K 3 1 (ab.bD.map iC)),(own F L 47 1 (List.zipWith cz (dL ab.aq 0 2 (aa.mk 2590 2599)) R)),(bo (aU gT (dL ab.aq 0 2 (aa.mk 2590 2599)) R)),(own T Fe 29 1 (List.zipWith kg (bG ab) O)),(bo (aU nE (bG ab) O)),(bZ f 38 (aa.cells (eJ ab 0 0))),(rd dG 3 2 dh).ro]) 39 [35,36,37,38,39,40,41,42,43,44,45,46,47,48,49,50,51,52,53,54,55,56,57,58,59,60,61,62,63,64,65,66,67,68,69,70,71,72,73] (fun hJ=>?_) ?_
 ·refine iT [32,33] kr (eN ?_<|eN ?_<|kT)
  ·refine NO U U [33,34,35,36,37,38,39,40,41,42,43,44,45,46,47,48,49,50,51,52,53,54,55,56,57,58,59,60,61,62,63,64,65,66,67,68,69,70,71,72,73] fun T254 DJ=>cb (t:=69) U (aR fun BS=>?_) (aS fun BS=>?_)
   ·exact absurd (pY) BS
   refine rS (MV U)<|RD DJ 2 U<|N1 33<|NO U U [34,35,36,37,38,39,40,41,42,43,44,45,46,47,48,49,50,51,52,53,54,55,56,57,58,59,60,61,62,63,64,65,66,67,68,69,70,71,72,73] fun T255 DK=>cU (xs:=[.const (vI 0),.const (vI 1),.const (vI 2)]) (cs:=[(vI 0),(vI 1),(vI 2)]) U cy jd U U U U (by simp [Value.cells]) U U fun BW=>RD DK 3 U<|N1 34<|NO U U [35,36,37,38,39,40,41,42,43,44,45,46,47,48,49,50,51,52,53,54,55,56,57,58,59,60,61,62,63,64,65,66,67,68,69,70,71,72,73] fun T257 DL=>cU (xs:=[.tmp 71]) (cs:=[(vS (some ⟨BW,0,none⟩) 3 3)]) U o9 vr U U U U (by simp [Value.cells]) U U fun Ee=>RD DL 4 U ?_
   exact j2 hJ (BW,Ee) trivial [0,1,2,3,4,5,6,7,8,9,10,11,12,13,14,15,16,17,18,19] U U U
  refine NO U U [32,34,35,36,37,38,39,40,41,42,43,44,45,46,47,48,49,50,51,52,53,54,55,56,57,58,59,60,61,62,63,64,65,66,67,68,69,70,71,72,73] fun T259 DM=>cb (t:=69) U (aR fun BS=>?_) (aS fun BS=>?_)
  ·exact absurd (pY) BS
  refine cU (xs:=[.const (vI 0),.const (vI 1),.const (vI 2)]) (cs:=[(vI 0),(vI 1),(vI 2)]) U cy jd U U U U (by simp [Value.cells]) U U fun BG=>RD DM 3 U<|iT [32,34] kr (eN ?_<|eN ?_<|kT)
  rotate_left 1
  ·refine NO U U [32,35,36,37,38,39,40,41,42,43,44,45,46,47,48,49,50,51,52,53,54,55,56,57,58,59,60,61,62,63,64,65,66,67,68,69,70,71,72,73] fun T264 DP=>cU (xs:=[.tmp 71]) (cs:=[(vS (some ⟨BG,0,none⟩) 3 3)]) U o9 vr U U U U (by simp [Value.cells]) U U fun Eg=>RD DP 4 U<|N1 32<|NO U U [35,36,37,38,39,40,41,42,43,44,45,46,47,48,49,50,51,52,53,54,55,56,57,58,59,60,61,62,63,64,65,66,67,68,69,70,71,72,73] fun T266 DQ=>rS (MV U)<|RD DQ 4 U ?_
   exact j2 hJ (BG,Eg) trivial [0,1,2,3,4,5,6,7,8,9,10,11,12,13,14,15,16,17,18,19] U U U
  refine NO U U [34,35,36,37,38,39,40,41,42,43,44,45,46,47,48,49,50,51,52,53,54,55,56,57,58,59,60,61,62,63,64,65,66,67,68,69,70,71,72,73] fun T261 DN=>rS (MV U)<|RD DN 3 U<|N1 34<|NO U U [35,36,37,38,39,40,41,42,43,44,45,46,47,48,49,50,51,52,53,54,55,56,57,58,59,60,61,62,63,64,65,66,67,68,69,70,71,72,73] fun T262 DO=>cU (xs:=[.tmp 71]) (cs:=[(vS (some ⟨BG,0,none⟩) 3 3)]) U o9 vr U U U U (by simp [Value.cells]) U U fun Ef=>RD DO 4 U ?_
  exact j2 hJ (BG,Ef) trivial [0,1,2,3,4,5,6,7,8,9,10,11,12,13,14,15,16,17,18,19] U U U
 rintro ⟨Z,j⟩-
 try dsimp only
 refine N1 35<|NO U U [36,37,38,39,40,41,42,43,44,45,46,47,48,49,50,51,52,53,54,55,56,57,58,59,60,61,62,63,64,65,66,67,68,69,70,71,72,73] fun T267 DR=>?_
 refine dT (es:=(([0,1,2]:List Int).map iC)) (C':=[_,(own (some ⟨Z,0,none⟩) 3 3 1 (([0,1,2]:List Int).map iC)),_,_,_,_,_,_,_,_,_,_,_,_,_,_,_,_,_,_]) 1 U (l4 bJ _) U (by show _≤maxLen; exact Nat.le_trans (m:=10) (show (3:Nat)≤10 by decide) dc) U ?_
 refine dT (es:=(List.zipWith kg [([0,1,2]:List Int)] [((some ⟨Z,0,none⟩),3)])) (C':=[(own (some ⟨j,0,none⟩) 1 29 1 (List.zipWith kg [([0,1,2]:List Int)] [((some ⟨Z,0,none⟩),3)])),_,_,_,_,_,_,_,_,_,_,_,_,_,_,_,_,_,_,_]) 0 U (oY Ku) U (by show _≤maxLen; exact Nat.le_trans (m:=10) (show (1:Nat)≤10 by decide) dc) U ?_
 refine wx (C1:=[(own (some ⟨j,0,none⟩) 1 29 1 (List.zipWith kg [([0,1,2]:List Int)] [((some ⟨Z,0,none⟩),3)])),(bZ g 3 [(vI 2),(vI 3)]),(bZ d 3 [(vI 1),(vI 2)]),(own M N 3 1 ((cw ab 0 2 (aa.mk 2590 2599)).map iC)),(own W X 29 1 (List.zipWith kg (bG eW) S)),(bo (aU nE (bG eW) S)),(bZ k 32 (bq.cells (bq.mk (bK.mk (aZ.mk (aM.mk A ab.ah.aJ.length G)) ab.ah.dM (aM.mk B ab.ah.ai.length H) (aM.mk C ab.ah.ag.length Ff) ab.ah.bH ab.ah.cv ab.ah.bL) (aM.mk D ab.aI.length J) (aM.mk E ab.bD.length K) ab.ed (aM.mk F ((dL ab.aq 0 2 (aa.mk 2590 2599)).length) L)))),(own A G 122 9 (ab.ah.aJ.map ao.cells)),(own B H 127 2 (List.zipWith au.cells ab.ah.ai P)),(bo (aU au.owns ab.ah.ai P)),(own C Ff 129 4 (ab.ah.ag.map bE.cells)),(own D J 3 1 (ab.aI.map iC)),(own E K 3 1 (ab.bD.map iC)),(own F L 47 1 (List.zipWith cz (dL ab.aq 0 2 (aa.mk 2590 2599)) R)),(bo (aU gT (dL ab.aq 0 2 (aa.mk 2590 2599)) R)),(own T Fe 29 1 (List.zipWith kg (bG ab) O)),(bo (aU nE (bG ab) O)),(bZ f 38 (aa.cells (eJ ab 0 0))),(rd dG 3 2 dh)]) (aU nE [([0,1,2]:List Int)] [((some ⟨Z,0,none⟩),3)]) [1,0,2,3,4,5,6,7,8,9,10,11,12,13,14,15,16,17,18,19] U U<|rS (CL (uU (bG ab) ([([0,1,2]:List Int)]) O T Fe ([((some ⟨Z,0,none⟩),3)]) (some ⟨j,0,none⟩) 1 (by first|exact BV.1|exact BK.1) dc (by first|exact BV.2|exact BK.2) dc (by exact Bf) (by rfl)) (ay (ak (n:=(bG ab).length) 16 U (kX Bf))<|ay (dW 17 U FK)<|ay (ak (n:=([([0,1,2]:List Int)]).length) 1 U sm)<|ay (dW 0 U FK)<|aL) U)<|RD DR 4 U<|N1 36<|NO U U [37,38,39,40,41,42,43,44,45,46,47,48,49,50,51,52,53,54,55,56,57,58,59,60,61,62,63,64,65,66,67,68,69,70,71,72,73] fun T268 DS=>rS (PK U)<|RD DS 4 U<|N1 37<|NO U U [38,39,40,41,42,43,44,45,46,47,48,49,50,51,52,53,54,55,56,57,58,59,60,61,62,63,64,65,66,67,68,69,70,71,72,73] fun T269 DT=>rS (MV U)<|RD DT 4 U<|N1 38<|NO U U [39,40,41,42,43,44,45,46,47,48,49,50,51,52,53,54,55,56,57,58,59,60,61,62,63,64,65,66,67,68,69,70,71,72,73] fun T270 DU=>cb (t:=75) U (aR fun E1=>?_) (aS fun E1=>?_)
 ·exact absurd (MD) E1
 refine rS (MV U)<|RD DU 4 U<|N1 39<|NO U U [40,41,42,43,44,45,46,47,48,49,50,51,52,53,54,55,56,57,58,59,60,61,62,63,64,65,66,67,68,69,70,71,72,73] fun T271 DV=>rS (SX (b_ (r:= .bool true) U U U mq) U U)<|RD DV 4 U<|N1 40<|NO U U [41,42,43,44,45,46,47,48,49,50,51,52,53,54,55,56,57,58,59,60,61,62,63,64,65,66,67,68,69,70,71,72,73] fun T272 DW=>rS (PK U)<|RD DW 4 U<|N1 41<|NO U U [42,43,44,45,46,47,48,49,50,51,52,53,54,55,56,57,58,59,60,61,62,63,64,65,66,67,68,69,70,71,72,73] fun T273 DX=>rS (MV U)<|RD DX 4 U<|N1 42<|NO U U [43,44,45,46,47,48,49,50,51,52,53,54,55,56,57,58,59,60,61,62,63,64,65,66,67,68,69,70,71,72,73] fun T274 DY=>rS (LW 7 U cq U U)<|RD DY 4 U<|N1 43<|NO U U [44,45,46,47,48,49,50,51,52,53,54,55,56,57,58,59,60,61,62,63,64,65,66,67,68,69,70,71,72,73] fun T275 DZ=>?_
 refine rS (CL (zm 2 516 516 eW A G P B H C Ff D J E K R F L (by exact Bh)) (fH 19 U U<|ay (ak (n:=ab.ah.aJ.length) 8 U (by rw [List.length_map]; rfl))<|ay (ak (n:=ab.ah.ai.length) 9 U (g3 BU))<|ay (dW 10 U iY)<|ay (ak (n:=ab.ah.ag.length) 11 U (by rw [List.length_map]; rfl))<|ay (ak (n:=ab.aI.length) 12 U (by rw [List.length_map]; rfl))<|ay (ak (n:=ab.bD.length) 13 U (by rw [List.length_map]; rfl))<|ay (ak (n:=(dL ab.aq 0 2 (aa.mk 2590 2599)).length) 14 U (fw BP.1))<|ay (hO 15 U BP)<|aL) U) ?_
 refine RD DZ 4 U<|N1 44<|NO U U [45,46,47,48,49,50,51,52,53,54,55,56,57,58,59,60,61,62,63,64,65,66,67,68,69,70,71,72,73] fun T276 Da=>rS (PK U)<|RD Da 4 U<|N1 45<|NO U U [46,47,48,49,50,51,52,53,54,55,56,57,58,59,60,61,62,63,64,65,66,67,68,69,70,71,72,73] fun T277 Db=>rS (MV U)<|RD Db 4 U<|N1 46<|NO U U [47,48,49,50,51,52,53,54,55,56,57,58,59,60,61,62,63,64,65,66,67,68,69,70,71,72,73] fun T278 Dc=>cb (t:=83) U (aR fun E2=>?_) (aS fun E2=>?_)
 ·exact absurd (KV) E2
 refine rS (MV U)<|RD Dc 4 U<|N1 47<|NO U U [48,49,50,51,52,53,54,55,56,57,58,59,60,61,62,63,64,65,66,67,68,69,70,71,72,73] fun T279 Dd=>rS (BI U mq)<|RD Dd 4 U<|N1 48<|NO U U [49,50,51,52,53,54,55,56,57,58,59,60,61,62,63,64,65,66,67,68,69,70,71,72,73] fun T280 De=>rS (PK U)<|RD De 4 U<|N1 49<|NO U U [50,51,52,53,54,55,56,57,58,59,60,61,62,63,64,65,66,67,68,69,70,71,72,73] fun T281 Df=>rS (MV U)<|RD Df 4 U ?_
 refine wi (V:=Nat×Nat×Nat) (fun (b,c,s)=>True) (fun (b,c,s)=>[(1,(vP f)),(2,(vI (gM ab 0 0))),(3,(vS T ((bG ab).length) Fe)),(4,(vI (bX ab))),(5,(vP k)),(6,(vI 0)),(7,(vS W ((bG eW).length) X)),(8,(vI (bX eW))),(9,(vS M ((cw ab 0 2 (aa.mk 2590 2599)).length) N)),(10,(vI (dQ ab 0 2 (aa.mk 2590 2599)))),(11,(vT [(vA (aa.cells (eJ ab 0 0))),(vI (gM ab 0 0))])),(12,(vA (bq.cells (bq.mk (bK.mk (aZ.mk (aM.mk BL ab.ah.aJ.length BN)) ab.ah.dM (aM.mk BM ab.ah.ai.length BO) (aM.mk Ab ab.ah.ag.length A0) ab.ah.bH ab.ah.cv ab.ah.bL) (aM.mk Af ab.aI.length A4) (aM.mk Aj ab.bD.length A8) ab.ed (aM.mk An ab.aq.length BB))))),(13,(vT [(vA (aa.cells (eJ ab 0 0))),(vI (gM ab 0 0))])),(14,(vA (aa.cells (eJ ab 0 0)))),(15,(vI (gM ab 0 0))),(16,(vT [(vS T ((bG ab).length) Fe),(vI (bX ab))])),(17,(vA (bq.cells (bq.mk (bK.mk (aZ.mk (aM.mk AU ab.ah.aJ.length Au)) ab.ah.dM (aM.mk AX ab.ah.ai.length Ax) (aM.mk Ac ab.ah.ag.length A1) ab.ah.bH ab.ah.cv ab.ah.bL) (aM.mk Ag ab.aI.length A5) (aM.mk Ak ab.bD.length A9) ab.ed (aM.mk Ao ab.aq.length BC))))),(18,(vT [(vS T ((bG ab).length) Fe),(vI (bX ab))])),(19,(vS T ((bG ab).length) Fe)),(20,(vI (bX ab))),(21,(vT [(vA (bq.cells (bq.mk (bK.mk (aZ.mk (aM.mk A ab.ah.aJ.length G)) ab.ah.dM (aM.mk B ab.ah.ai.length H) (aM.mk C ab.ah.ag.length Ff) ab.ah.bH ab.ah.cv ab.ah.bL) (aM.mk D ab.aI.length J) (aM.mk E ab.bD.length K) ab.ed (aM.mk F ((dL ab.aq 0 2 (aa.mk 2590 2599)).length) L)))),(vI 0)])),(22,(vA (bq.cells (bq.mk (bK.mk (aZ.mk (aM.mk AV ab.ah.aJ.length Av)) ab.ah.dM (aM.mk AY ab.ah.ai.length Ay) (aM.mk Ad ab.ah.ag.length A2) ab.ah.bH ab.ah.cv ab.ah.bL) (aM.mk Ah ab.aI.length A6) (aM.mk Al ab.bD.length A_) ab.ed (aM.mk Ap ab.aq.length BD))))),(23,(vA (aa.cells (aa.mk 2590 2599)))),(24,(vT [(vA (bq.cells (bq.mk (bK.mk (aZ.mk (aM.mk A ab.ah.aJ.length G)) ab.ah.dM (aM.mk B ab.ah.ai.length H) (aM.mk C ab.ah.ag.length Ff) ab.ah.bH ab.ah.cv ab.ah.bL) (aM.mk D ab.aI.length J) (aM.mk E ab.bD.length K) ab.ed (aM.mk F ((dL ab.aq 0 2 (aa.mk 2590 2599)).length) L)))),(vI 0)])),(25,(vA (bq.cells (bq.mk (bK.mk (aZ.mk (aM.mk A ab.ah.aJ.length G)) ab.ah.dM (aM.mk B ab.ah.ai.length H) (aM.mk C ab.ah.ag.length Ff) ab.ah.bH ab.ah.cv ab.ah.bL) (aM.mk D ab.aI.length J) (aM.mk E ab.bD.length K) ab.ed (aM.mk F ((dL ab.aq 0 2 (aa.mk 2590 2599)).length) L))))),(26,(vI 0)),(27,(vT [(vS W ((bG eW).length) X),(vI (bX eW))])),(28,(vA (bq.cells (bq.mk (bK.mk (aZ.mk (aM.mk A ab.ah.aJ.length G)) ab.ah.dM (aM.mk B ab.ah.ai.length H) (aM.mk C ab.ah.ag.length Ff) ab.ah.bH ab.ah.cv ab.ah.bL) (aM.mk D ab.aI.length J) (aM.mk E ab.bD.length K) ab.ed (aM.mk F ((dL ab.aq 0 2 (aa.mk 2590 2599)).length) L))))),(29,(vT [(vS W ((bG eW).length) X),(vI (bX eW))])),(30,(vS W ((bG eW).length) X)),(31,(vI (bX eW))),(32,(vT [(vS M ((cw ab 0 2 (aa.mk 2590 2599)).length) N),(vI (dQ ab 0 2 (aa.mk 2590 2599)))])),(33,(vA (bq.cells (bq.mk (bK.mk (aZ.mk (aM.mk AW ab.ah.aJ.length Aw)) ab.ah.dM (aM.mk Aa ab.ah.ai.length Az) (aM.mk Ae ab.ah.ag.length A3) ab.ah.bH ab.ah.cv ab.ah.bL) (aM.mk Ai ab.aI.length A7) (aM.mk Am ab.bD.length BA) ab.ed (aM.mk Aq ab.aq.length BE))))),(34,(vA (aa.cells (aa.mk 2590 2599)))),(35,(vT [(vS M ((cw ab 0 2 (aa.mk 2590 2599)).length) N),(vI (dQ ab 0 2 (aa.mk 2590 2599)))])),(36,(vS M ((cw ab 0 2 (aa.mk 2590 2599)).length) N)),(37,(vI (dQ ab 0 2 (aa.mk 2590 2599)))),(71,(vS (some ⟨Z,0,none⟩) 3 3)),(87,(vB true)),(88,(vS W ((bG eW).length) X)),(89,(vS (some ⟨b,0,none⟩) 2 2)),(90,(vS (some ⟨c,0,none⟩) 1 1)),(91,(vS (some ⟨s,0,none⟩) 2 2))]) (fun (b,c,s)=>[(bZ s 29 [(vS (some ⟨b,0,none⟩) 2 2),(vS (some ⟨c,0,none⟩) 1 1)]),(bZ c 3 [(vI 2)]),(bZ b 3 [(vI 0),(vI 1)]),(bo (aU nE [([0,1,2]:List Int)] [((some ⟨Z,0,none⟩),3)])),(own (some ⟨j,0,none⟩) 1 29 1 (List.zipWith kg [([0,1,2]:List Int)] [((some ⟨Z,0,none⟩),3)])),(bZ g 3 [(vI 2),(vI 3)]),(bZ d 3 [(vI 1),(vI 2)]),(own M N 3 1 ((cw ab 0 2 (aa.mk 2590 2599)).map iC)),(own W X 29 1 (List.zipWith kg (bG eW) S)),(bo (aU nE (bG eW) S)),(bZ k 32 (bq.cells (bq.mk (bK.mk (aZ.mk (aM.mk A ab.ah.aJ.length G)) ab.ah.dM (aM.mk B ab.ah.ai.length H) (aM.mk C ab.ah.ag.length Ff) ab.ah.bH ab.ah.cv ab.ah.bL) (aM.mk D ab.aI.length J) (aM.mk E ab.bD.length K) ab.ed (aM.mk F ((dL ab.aq 0 2 (aa.mk 2590 2599)).length) L)))),(own A G 122 9 (ab.ah.aJ.map ao.cells)),(own B H 127 2 (List.zipWith au.cells ab.ah.ai P)),(bo (aU au.owns ab.ah.ai P)),(own C Ff 129 4 (ab.ah.ag.map bE.cells)),(own D J 3 1 (ab.aI.map iC)),(own E K 3 1 (ab.bD.map iC)),(own F L 47 1 (List.zipWith cz (dL ab.aq 0 2 (aa.mk 2590 2599)) R)),(bo (aU gT (dL ab.aq 0 2 (aa.mk 2590 2599)) R)),(own T Fe 29 1 (List.zipWith kg (bG ab) O)),(bo (aU nE (bG ab) O)),(bZ f 38 (aa.cells (eJ ab 0 0))),(rd dG 3 2 dh).ro]) 20 [54,55,56,57,58,59,60,61,62,63,64,65,66,67,68,69,70,71,72,73] (fun hJ=>?_) ?_
 ·refine iT [50,51,52] kr (eN ?_<|eN ?_<|eN ?_<|kT)
  ·refine NO U U [51,52,53,54,55,56,57,58,59,60,61,62,63,64,65,66,67,68,69,70,71,72,73] fun T285 Dg=>cb (t:=87) U (aR fun BF=>?_) (aS fun BF=>?_)
   ·exact absurd (xz) BF
   refine rS (MV U)<|RD Dg 4 U<|iT [51,52] kr (eN ?_<|eN ?_<|kT)
   rotate_left 1
   ·refine NO U U [51,53,54,55,56,57,58,59,60,61,62,63,64,65,66,67,68,69,70,71,72,73] fun T292 Dk=>cU (xs:=[.const (vI 2)]) (cs:=[(vI 2)]) U cy jd U U U U (by simp [Value.cells]) U U fun BZ=>RD Dk 5 U<|N1 51<|NO U U [53,54,55,56,57,58,59,60,61,62,63,64,65,66,67,68,69,70,71,72,73] fun T294 Dl=>cU (xs:=[.const (vI 0),.const (vI 1)]) (cs:=[(vI 0),(vI 1)]) U cy jd U U U U (by simp [Value.cells]) U U fun Ba=>RD Dl 6 U<|N1 53<|NO U U [54,55,56,57,58,59,60,61,62,63,64,65,66,67,68,69,70,71,72,73] fun T296 Dm=>cU (xs:=[.tmp 89,.tmp 90]) (cs:=[(vS (some ⟨Ba,0,none⟩) 2 2),(vS (some ⟨BZ,0,none⟩) 1 1)]) U o9 vr U U U U (by simp [Value.cells]) U U fun Ei=>RD Dm 7 U ?_
    exact j2 hJ (Ba,BZ,Ei) trivial [0,2,1,3,4,5,6,7,8,9,10,11,12,13,14,15,16,17,18,19,20,21,22] U U U
   refine NO U U [52,53,54,55,56,57,58,59,60,61,62,63,64,65,66,67,68,69,70,71,72,73] fun T286 Dh=>cU (xs:=[.const (vI 0),.const (vI 1)]) (cs:=[(vI 0),(vI 1)]) U cy jd U U U U (by simp [Value.cells]) U U fun BX=>RD Dh 5 U<|N1 52<|NO U U [53,54,55,56,57,58,59,60,61,62,63,64,65,66,67,68,69,70,71,72,73] fun T288 Di=>cU (xs:=[.const (vI 2)]) (cs:=[(vI 2)]) U cy jd U U U U (by simp [Value.cells]) U U fun BY=>RD Di 6 U<|N1 53<|NO U U [54,55,56,57,58,59,60,61,62,63,64,65,66,67,68,69,70,71,72,73] fun T290 Dj=>cU (xs:=[.tmp 89,.tmp 90]) (cs:=[(vS (some ⟨BX,0,none⟩) 2 2),(vS (some ⟨BY,0,none⟩) 1 1)]) U o9 vr U U U U (by simp [Value.cells]) U U fun Eh=>RD Dj 7 U ?_
   exact j2 hJ (BX,BY,Eh) trivial [0,1,2,3,4,5,6,7,8,9,10,11,12,13,14,15,16,17,18,19,20,21,22] U U U
  ·refine NO U U [50,52,53,54,55,56,57,58,59,60,61,62,63,64,65,66,67,68,69,70,71,72,73] fun T298 Dn=>cb (t:=87) U (aR fun BF=>?_) (aS fun BF=>?_)
   ·exact absurd (xz) BF
   refine cU (xs:=[.const (vI 0),.const (vI 1)]) (cs:=[(vI 0),(vI 1)]) U cy jd U U U U (by simp [Value.cells]) U U fun Ar=>RD Dn 5 U<|iT [50,52] kr (eN ?_<|eN ?_<|kT)
   ·refine NO U U [52,53,54,55,56,57,58,59,60,61,62,63,64,65,66,67,68,69,70,71,72,73] fun T300 Do=>rS (MV U)<|RD Do 5 U<|N1 52<|NO U U [53,54,55,56,57,58,59,60,61,62,63,64,65,66,67,68,69,70,71,72,73] fun T301 Dp=>cU (xs:=[.const (vI 2)]) (cs:=[(vI 2)]) U cy jd U U U U (by simp [Value.cells]) U U fun Bb=>RD Dp 6 U<|N1 53<|NO U U [54,55,56,57,58,59,60,61,62,63,64,65,66,67,68,69,70,71,72,73] fun T303 Dq=>cU (xs:=[.tmp 89,.tmp 90]) (cs:=[(vS (some ⟨Ar,0,none⟩) 2 2),(vS (some ⟨Bb,0,none⟩) 1 1)]) U o9 vr U U U U (by simp [Value.cells]) U U fun Ej=>RD Dq 7 U ?_
    exact j2 hJ (Ar,Bb,Ej) trivial [0,1,2,3,4,5,6,7,8,9,10,11,12,13,14,15,16,17,18,19,20,21,22] U U U
   refine NO U U [50,53,54,55,56,57,58,59,60,61,62,63,64,65,66,67,68,69,70,71,72,73] fun T305 Dr=>cU (xs:=[.const (vI 2)]) (cs:=[(vI 2)]) U cy jd U U U U (by simp [Value.cells]) U U fun BH=>RD Dr 6 U<|iT [50,53] kr (eN ?_<|eN ?_<|kT)
   rotate_left 1
   ·refine NO U U [50,54,55,56,57,58,59,60,61,62,63,64,65,66,67,68,69,70,71,72,73] fun T310 Du=>cU (xs:=[.tmp 89,.tmp 90]) (cs:=[(vS (some ⟨Ar,0,none⟩) 2 2),(vS (some ⟨BH,0,none⟩) 1 1)]) U o9 vr U U U U (by simp [Value.cells]) U U fun El=>RD Du 7 U<|N1 50<|NO U U [54,55,56,57,58,59,60,61,62,63,64,65,66,67,68,69,70,71,72,73] fun T312 Dv=>rS (MV U)<|RD Dv 7 U ?_
    exact j2 hJ (Ar,BH,El) trivial [0,1,2,3,4,5,6,7,8,9,10,11,12,13,14,15,16,17,18,19,20,21,22] U U U
   refine NO U U [53,54,55,56,57,58,59,60,61,62,63,64,65,66,67,68,69,70,71,72,73] fun T307 Ds=>rS (MV U)<|RD Ds 6 U<|N1 53<|NO U U [54,55,56,57,58,59,60,61,62,63,64,65,66,67,68,69,70,71,72,73] fun T308 Dt=>cU (xs:=[.tmp 89,.tmp 90]) (cs:=[(vS (some ⟨Ar,0,none⟩) 2 2),(vS (some ⟨BH,0,none⟩) 1 1)]) U o9 vr U U U U (by simp [Value.cells]) U U fun Ek=>RD Dt 7 U ?_
   exact j2 hJ (Ar,BH,Ek) trivial [0,1,2,3,4,5,6,7,8,9,10,11,12,13,14,15,16,17,18,19,20,21,22] U U U
  refine NO U U [50,51,53,54,55,56,57,58,59,60,61,62,63,64,65,66,67,68,69,70,71,72,73] fun T313 Dw=>cb (t:=87) U (aR fun BF=>?_) (aS fun BF=>?_)
  ·exact absurd (xz) BF
  refine cU (xs:=[.const (vI 2)]) (cs:=[(vI 2)]) U cy jd U U U U (by simp [Value.cells]) U U fun As=>RD Dw 5 U<|iT [50,51] kr (eN ?_<|eN ?_<|kT)
  ·refine NO U U [51,53,54,55,56,57,58,59,60,61,62,63,64,65,66,67,68,69,70,71,72,73] fun T315 Dx=>rS (MV U)<|RD Dx 5 U<|N1 51<|NO U U [53,54,55,56,57,58,59,60,61,62,63,64,65,66,67,68,69,70,71,72,73] fun T316 Dy=>cU (xs:=[.const (vI 0),.const (vI 1)]) (cs:=[(vI 0),(vI 1)]) U cy jd U U U U (by simp [Value.cells]) U U fun Bc=>RD Dy 6 U<|N1 53<|NO U U [54,55,56,57,58,59,60,61,62,63,64,65,66,67,68,69,70,71,72,73] fun T318 Dz=>cU (xs:=[.tmp 89,.tmp 90]) (cs:=[(vS (some ⟨Bc,0,none⟩) 2 2),(vS (some ⟨As,0,none⟩) 1 1)]) U o9 vr U U U U (by simp [Value.cells]) U U fun Em=>RD Dz 7 U ?_
   exact j2 hJ (Bc,As,Em) trivial [0,2,1,3,4,5,6,7,8,9,10,11,12,13,14,15,16,17,18,19,20,21,22] U U U
  refine NO U U [50,53,54,55,56,57,58,59,60,61,62,63,64,65,66,67,68,69,70,71,72,73] fun T320 D0=>cU (xs:=[.const (vI 0),.const (vI 1)]) (cs:=[(vI 0),(vI 1)]) U cy jd U U U U (by simp [Value.cells]) U U fun BJ=>RD D0 6 U<|iT [50,53] kr (eN ?_<|eN ?_<|kT)
  rotate_left 1
  ·refine NO U U [50,54,55,56,57,58,59,60,61,62,63,64,65,66,67,68,69,70,71,72,73] fun T325 D3=>cU (xs:=[.tmp 89,.tmp 90]) (cs:=[(vS (some ⟨BJ,0,none⟩) 2 2),(vS (some ⟨As,0,none⟩) 1 1)]) U o9 vr U U U U (by simp [Value.cells]) U U fun Eo=>RD D3 7 U<|N1 50<|NO U U [54,55,56,57,58,59,60,61,62,63,64,65,66,67,68,69,70,71,72,73] fun T327 D4=>rS (MV U)<|RD D4 7 U ?_
   exact j2 hJ (BJ,As,Eo) trivial [0,2,1,3,4,5,6,7,8,9,10,11,12,13,14,15,16,17,18,19,20,21,22] U U U
  refine NO U U [53,54,55,56,57,58,59,60,61,62,63,64,65,66,67,68,69,70,71,72,73] fun T322 D1=>rS (MV U)<|RD D1 6 U<|N1 53<|NO U U [54,55,56,57,58,59,60,61,62,63,64,65,66,67,68,69,70,71,72,73] fun T323 D2=>cU (xs:=[.tmp 89,.tmp 90]) (cs:=[(vS (some ⟨BJ,0,none⟩) 2 2),(vS (some ⟨As,0,none⟩) 1 1)]) U o9 vr U U U U (by simp [Value.cells]) U U fun En=>RD D2 7 U ?_
  exact j2 hJ (BJ,As,En) trivial [0,2,1,3,4,5,6,7,8,9,10,11,12,13,14,15,16,17,18,19,20,21,22] U U U
 rintro ⟨b,c,s⟩-
 try dsimp only
 refine N1 54<|NO U U [55,56,57,58,59,60,61,62,63,64,65,66,67,68,69,70,71,72,73] fun T328 D5=>?_
 refine dT (es:=(([0,1]:List Int).map iC)) (C':=[_,_,(own (some ⟨b,0,none⟩) 2 3 1 (([0,1]:List Int).map iC)),_,_,_,_,_,_,_,_,_,_,_,_,_,_,_,_,_,_,_,_]) 2 U (l4 bJ _) U (by show _≤maxLen; exact Nat.le_trans (m:=10) (show (2:Nat)≤10 by decide) dc) U ?_
 refine dT (es:=(([2]:List Int).map iC)) (C':=[_,(own (some ⟨c,0,none⟩) 1 3 1 (([2]:List Int).map iC)),_,_,_,_,_,_,_,_,_,_,_,_,_,_,_,_,_,_,_,_,_]) 1 U (l4 bJ _) U (by show _≤maxLen; exact Nat.le_trans (m:=10) (show (1:Nat)≤10 by decide) dc) U ?_
 refine dT (es:=(List.zipWith kg [([0,1]:List Int),([2]:List Int)] [((some ⟨b,0,none⟩),2),((some ⟨c,0,none⟩),1)])) (C':=[(own (some ⟨s,0,none⟩) 2 29 1 (List.zipWith kg [([0,1]:List Int),([2]:List Int)] [((some ⟨b,0,none⟩),2),((some ⟨c,0,none⟩),1)])),_,_,_,_,_,_,_,_,_,_,_,_,_,_,_,_,_,_,_,_,_,_]) 0 U (oY Ku) U (by show _≤maxLen; exact Nat.le_trans (m:=10) (show (2:Nat)≤10 by decide) dc) U ?_
 refine wx (C1:=[(own (some ⟨s,0,none⟩) 2 29 1 (List.zipWith kg [([0,1]:List Int),([2]:List Int)] [((some ⟨b,0,none⟩),2),((some ⟨c,0,none⟩),1)])),(bo (aU nE [([0,1,2]:List Int)] [((some ⟨Z,0,none⟩),3)])),(own (some ⟨j,0,none⟩) 1 29 1 (List.zipWith kg [([0,1,2]:List Int)] [((some ⟨Z,0,none⟩),3)])),(bZ g 3 [(vI 2),(vI 3)]),(bZ d 3 [(vI 1),(vI 2)]),(own M N 3 1 ((cw ab 0 2 (aa.mk 2590 2599)).map iC)),(own W X 29 1 (List.zipWith kg (bG eW) S)),(bo (aU nE (bG eW) S)),(bZ k 32 (bq.cells (bq.mk (bK.mk (aZ.mk (aM.mk A ab.ah.aJ.length G)) ab.ah.dM (aM.mk B ab.ah.ai.length H) (aM.mk C ab.ah.ag.length Ff) ab.ah.bH ab.ah.cv ab.ah.bL) (aM.mk D ab.aI.length J) (aM.mk E ab.bD.length K) ab.ed (aM.mk F ((dL ab.aq 0 2 (aa.mk 2590 2599)).length) L)))),(own A G 122 9 (ab.ah.aJ.map ao.cells)),(own B H 127 2 (List.zipWith au.cells ab.ah.ai P)),(bo (aU au.owns ab.ah.ai P)),(own C Ff 129 4 (ab.ah.ag.map bE.cells)),(own D J 3 1 (ab.aI.map iC)),(own E K 3 1 (ab.bD.map iC)),(own F L 47 1 (List.zipWith cz (dL ab.aq 0 2 (aa.mk 2590 2599)) R)),(bo (aU gT (dL ab.aq 0 2 (aa.mk 2590 2599)) R)),(own T Fe 29 1 (List.zipWith kg (bG ab) O)),(bo (aU nE (bG ab) O)),(bZ f 38 (aa.cells (eJ ab 0 0))),(rd dG 3 2 dh)]) (aU nE [([0,1]:List Int),([2]:List Int)] [((some ⟨b,0,none⟩),2),((some ⟨c,0,none⟩),1)]) [2,1,0,3,4,5,6,7,8,9,10,11,12,13,14,15,16,17,18,19,20,21,22] U U<|rS (CL (uU (bG eW) ([([0,1]:List Int),([2]:List Int)]) S W X ([((some ⟨b,0,none⟩),2),((some ⟨c,0,none⟩),1)]) (some ⟨s,0,none⟩) 2 (by first|exact BV.1|exact BK.1) dc (by first|exact BV.2|exact BK.2) dc (by exact Bg) (by rfl)) (ay (ak (n:=(bG eW).length) 7 U (kX Bg))<|ay (dW 8 U FK)<|ay (ak (n:=([([0,1]:List Int),([2]:List Int)]).length) 1 U sm)<|ay (dW 0 U FK)<|aL) U)<|RD D5 6 U<|N1 55<|NO U U [56,57,58,59,60,61,62,63,64,65,66,67,68,69,70,71,72,73] fun T329 D6=>rS (PK U)<|RD D6 6 U<|N1 56<|NO U U [57,58,59,60,61,62,63,64,65,66,67,68,69,70,71,72,73] fun T330 D7=>rS (MV U)<|RD D7 6 U<|N1 57<|NO U U [58,59,60,61,62,63,64,65,66,67,68,69,70,71,72,73] fun T331 D8=>cb (t:=94) U (aR fun E3=>?_) (aS fun E3=>?_)
 ·exact absurd (Ji) E3
 refine rS (MV U)<|RD D8 6 U<|N1 58<|NO U U [59,60,61,62,63,64,65,66,67,68,69,70,71,72,73] fun T332 D9=>rS (BI U mq)<|RD D9 6 U<|N1 59<|NO U U [60,61,62,63,64,65,66,67,68,69,70,71,72,73] fun T333 D_=>rS (PK U)<|RD D_ 6 U<|N1 60<|NO U U [61,62,63,64,65,66,67,68,69,70,71,72,73] fun T334 EA=>rS (MV U)<|RD EA 6 U ?_
 refine wi (V:=Nat) (fun At=>True) (fun At=>[(1,(vP f)),(2,(vI (gM ab 0 0))),(3,(vS T ((bG ab).length) Fe)),(4,(vI (bX ab))),(5,(vP k)),(6,(vI 0)),(7,(vS W ((bG eW).length) X)),(8,(vI (bX eW))),(9,(vS M ((cw ab 0 2 (aa.mk 2590 2599)).length) N)),(10,(vI (dQ ab 0 2 (aa.mk 2590 2599)))),(11,(vT [(vA (aa.cells (eJ ab 0 0))),(vI (gM ab 0 0))])),(12,(vA (bq.cells (bq.mk (bK.mk (aZ.mk (aM.mk BL ab.ah.aJ.length BN)) ab.ah.dM (aM.mk BM ab.ah.ai.length BO) (aM.mk Ab ab.ah.ag.length A0) ab.ah.bH ab.ah.cv ab.ah.bL) (aM.mk Af ab.aI.length A4) (aM.mk Aj ab.bD.length A8) ab.ed (aM.mk An ab.aq.length BB))))),(13,(vT [(vA (aa.cells (eJ ab 0 0))),(vI (gM ab 0 0))])),(14,(vA (aa.cells (eJ ab 0 0)))),(15,(vI (gM ab 0 0))),(16,(vT [(vS T ((bG ab).length) Fe),(vI (bX ab))])),(17,(vA (bq.cells (bq.mk (bK.mk (aZ.mk (aM.mk AU ab.ah.aJ.length Au)) ab.ah.dM (aM.mk AX ab.ah.ai.length Ax) (aM.mk Ac ab.ah.ag.length A1) ab.ah.bH ab.ah.cv ab.ah.bL) (aM.mk Ag ab.aI.length A5) (aM.mk Ak ab.bD.length A9) ab.ed (aM.mk Ao ab.aq.length BC))))),(18,(vT [(vS T ((bG ab).length) Fe),(vI (bX ab))])),(19,(vS T ((bG ab).length) Fe)),(20,(vI (bX ab))),(21,(vT [(vA (bq.cells (bq.mk (bK.mk (aZ.mk (aM.mk A ab.ah.aJ.length G)) ab.ah.dM (aM.mk B ab.ah.ai.length H) (aM.mk C ab.ah.ag.length Ff) ab.ah.bH ab.ah.cv ab.ah.bL) (aM.mk D ab.aI.length J) (aM.mk E ab.bD.length K) ab.ed (aM.mk F ((dL ab.aq 0 2 (aa.mk 2590 2599)).length) L)))),(vI 0)])),(22,(vA (bq.cells (bq.mk (bK.mk (aZ.mk (aM.mk AV ab.ah.aJ.length Av)) ab.ah.dM (aM.mk AY ab.ah.ai.length Ay) (aM.mk Ad ab.ah.ag.length A2) ab.ah.bH ab.ah.cv ab.ah.bL) (aM.mk Ah ab.aI.length A6) (aM.mk Al ab.bD.length A_) ab.ed (aM.mk Ap ab.aq.length BD))))),(23,(vA (aa.cells (aa.mk 2590 2599)))),(24,(vT [(vA (bq.cells (bq.mk (bK.mk (aZ.mk (aM.mk A ab.ah.aJ.length G)) ab.ah.dM (aM.mk B ab.ah.ai.length H) (aM.mk C ab.ah.ag.length Ff) ab.ah.bH ab.ah.cv ab.ah.bL) (aM.mk D ab.aI.length J) (aM.mk E ab.bD.length K) ab.ed (aM.mk F ((dL ab.aq 0 2 (aa.mk 2590 2599)).length) L)))),(vI 0)])),(25,(vA (bq.cells (bq.mk (bK.mk (aZ.mk (aM.mk A ab.ah.aJ.length G)) ab.ah.dM (aM.mk B ab.ah.ai.length H) (aM.mk C ab.ah.ag.length Ff) ab.ah.bH ab.ah.cv ab.ah.bL) (aM.mk D ab.aI.length J) (aM.mk E ab.bD.length K) ab.ed (aM.mk F ((dL ab.aq 0 2 (aa.mk 2590 2599)).length) L))))),(26,(vI 0)),(27,(vT [(vS W ((bG eW).length) X),(vI (bX eW))])),(28,(vA (bq.cells (bq.mk (bK.mk (aZ.mk (aM.mk A ab.ah.aJ.length G)) ab.ah.dM (aM.mk B ab.ah.ai.length H) (aM.mk C ab.ah.ag.length Ff) ab.ah.bH ab.ah.cv ab.ah.bL) (aM.mk D ab.aI.length J) (aM.mk E ab.bD.length K) ab.ed (aM.mk F ((dL ab.aq 0 2 (aa.mk 2590 2599)).length) L))))),(29,(vT [(vS W ((bG eW).length) X),(vI (bX eW))])),(30,(vS W ((bG eW).length) X)),(31,(vI (bX eW))),(32,(vT [(vS M ((cw ab 0 2 (aa.mk 2590 2599)).length) N),(vI (dQ ab 0 2 (aa.mk 2590 2599)))])),(33,(vA (bq.cells (bq.mk (bK.mk (aZ.mk (aM.mk AW ab.ah.aJ.length Aw)) ab.ah.dM (aM.mk Aa ab.ah.ai.length Az) (aM.mk Ae ab.ah.ag.length A3) ab.ah.bH ab.ah.cv ab.ah.bL) (aM.mk Ai ab.aI.length A7) (aM.mk Am ab.bD.length BA) ab.ed (aM.mk Aq ab.aq.length BE))))),(34,(vA (aa.cells (aa.mk 2590 2599)))),(35,(vT [(vS M ((cw ab 0 2 (aa.mk 2590 2599)).length) N),(vI (dQ ab 0 2 (aa.mk 2590 2599)))])),(36,(vS M ((cw ab 0 2 (aa.mk 2590 2599)).length) N)),(37,(vI (dQ ab 0 2 (aa.mk 2590 2599)))),(71,(vS (some ⟨Z,0,none⟩) 3 3)),(89,(vS (some ⟨b,0,none⟩) 2 2)),(90,(vS (some ⟨c,0,none⟩) 1 1)),(98,(vB true)),(99,(vS M ((cw ab 0 2 (aa.mk 2590 2599)).length) N)),(100,(vS (some ⟨At,0,none⟩) 1 1))]) (fun At=>[(bZ At 3 [(vI 2)]),(bo (aU nE [([0,1]:List Int),([2]:List Int)] [((some ⟨b,0,none⟩),2),((some ⟨c,0,none⟩),1)])),(own (some ⟨s,0,none⟩) 2 29 1 (List.zipWith kg [([0,1]:List Int),([2]:List Int)] [((some ⟨b,0,none⟩),2),((some ⟨c,0,none⟩),1)])),(bo (aU nE [([0,1,2]:List Int)] [((some ⟨Z,0,none⟩),3)])),(own (some ⟨j,0,none⟩) 1 29 1 (List.zipWith kg [([0,1,2]:List Int)] [((some ⟨Z,0,none⟩),3)])),(bZ g 3 [(vI 2),(vI 3)]),(bZ d 3 [(vI 1),(vI 2)]),(own M N 3 1 ((cw ab 0 2 (aa.mk 2590 2599)).map iC)),(own W X 29 1 (List.zipWith kg (bG eW) S)),(bo (aU nE (bG eW) S)),(bZ k 32 (bq.cells (bq.mk (bK.mk (aZ.mk (aM.mk A ab.ah.aJ.length G)) ab.ah.dM (aM.mk B ab.ah.ai.length H) (aM.mk C ab.ah.ag.length Ff) ab.ah.bH ab.ah.cv ab.ah.bL) (aM.mk D ab.aI.length J) (aM.mk E ab.bD.length K) ab.ed (aM.mk F ((dL ab.aq 0 2 (aa.mk 2590 2599)).length) L)))),(own A G 122 9 (ab.ah.aJ.map ao.cells)),(own B H 127 2 (List.zipWith au.cells ab.ah.ai P)),(bo (aU au.owns ab.ah.ai P)),(own C Ff 129 4 (ab.ah.ag.map bE.cells)),(own D J 3 1 (ab.aI.map iC)),(own E K 3 1 (ab.bD.map iC)),(own F L 47 1 (List.zipWith cz (dL ab.aq 0 2 (aa.mk 2590 2599)) R)),(bo (aU gT (dL ab.aq 0 2 (aa.mk 2590 2599)) R)),(own T Fe 29 1 (List.zipWith kg (bG ab) O)),(bo (aU nE (bG ab) O)),(bZ f 38 (aa.cells (eJ ab 0 0))),(rd dG 3 2 dh).ro]) 11 [63,64,65,66,67,68,69,70,71,72,73] (fun hJ=>?_) ?_
 ·refine iT [61,62] kr (eN ?_<|eN ?_<|kT)
  rotate_left 1
  ·refine NO U U [61,63,64,65,66,67,68,69,70,71,72,73] fun T339 ED=>cb (t:=98) U (aR fun BT=>?_) (aS fun BT=>?_)
   ·exact absurd (AZ) BT
   refine cU (xs:=[.const (vI 2)]) (cs:=[(vI 2)]) U cy jd U U U U (by simp [Value.cells]) U U fun Eq=>RD ED 7 U<|N1 61<|NO U U [63,64,65,66,67,68,69,70,71,72,73] fun T341 EE=>rS (MV U)<|RD EE 7 U ?_
   exact j2 hJ Eq trivial [0,1,2,3,4,5,6,7,8,9,10,11,12,13,14,15,16,17,18,19,20,21,22] U U U
  refine NO U U [62,63,64,65,66,67,68,69,70,71,72,73] fun T336 EB=>cb (t:=98) U (aR fun BT=>?_) (aS fun BT=>?_)
  ·exact absurd (AZ) BT
  refine rS (MV U)<|RD EB 6 U<|N1 62<|NO U U [63,64,65,66,67,68,69,70,71,72,73] fun T337 EC=>cU (xs:=[.const (vI 2)]) (cs:=[(vI 2)]) U cy jd U U U U (by simp [Value.cells]) U U fun Ep=>RD EC 7 U ?_
  exact j2 hJ Ep trivial [0,1,2,3,4,5,6,7,8,9,10,11,12,13,14,15,16,17,18,19,20,21,22] U U U
 rintro At-
 try dsimp only
 refine N1 63<|NO U U [64,65,66,67,68,69,70,71,72,73] fun T342 EF=>rS (CL (n8 (cw ab 0 2 (aa.mk 2590 2599)) M N ([2]) (some ⟨At,0,none⟩) 1 om dc) (ay (ak (n:=(cw ab 0 2 (aa.mk 2590 2599)).length) 7 U sm)<|ay (aY 0 U U (by simp [bJ]) U)<|aL) U)<|RD EF 7 U<|N1 64<|NO U U [65,66,67,68,69,70,71,72,73] fun T343 EG=>rS (PK U)<|RD EG 7 U<|N1 65<|NO U U [66,67,68,69,70,71,72,73] fun T344 EH=>rS (MV U)<|RD EH 7 U<|N1 66<|NO U U [67,68,69,70,71,72,73] fun T345 EI=>cb (t:=103) U (aR fun Bd=>?_) (aS fun Bd=>?_)
 ·exact absurd (NJ) Bd
 refine cU (xs:=[.const (vI 0),.const (vI 2),.const (vI 1)]) (cs:=[(vI 0),(vI 2),(vI 1)]) U cy jd U U U U (by simp [Value.cells]) U U fun Er=>RD EI 8 U<|N1 67<|NO U U [68,69,70,71,72,73] fun T347 EJ=>rS (CL (yY 1 ([0,2,1]) (some ⟨Er,0,none⟩) 3 dc) (fH 23 U U<|ay (aY 0 U U (by simp [bJ]) U)<|aL) U)<|RD EJ 8 U<|N1 68<|NO U U [69,70,71,72,73] fun T348 EK=>rS (PK U)<|RD EK 8 U<|N1 69<|NO U U [70,71,72,73] fun T349 EL=>rS (MV U)<|RD EL 8 U<|N1 70<|NO U U [71,72,73] fun T350 EM=>cb (t:=107) U (aR fun Be=>?_) (aS fun Be=>?_)
 ·exact absurd (Lx) Be
 refine cU (xs:=[.const (vI 0),.const (vI 1),.const (vI 2)]) (cs:=[(vI 0),(vI 1),(vI 2)]) U cy jd U U U U (by simp [Value.cells]) U U fun Es=>RD EM 9 U<|JX [109,110,0] kr kr U _ U U (aK [9,10,11,12,13,14,15,16,17,18,19,20,21,22,23,24])<|dS (CL (yY 2 ([0,1,2]) (some ⟨Es,0,none⟩) 3 dc) (fH 24 U U<|ay (aY 0 U U (by simp [bJ]) U)<|aL) U)<|dP 2 [] I ?_
 refine cO<|RK Cq<|ar<|Q1 hQ U U U ?_
 exact cB (fO Le)
end
section
open Go.RowKit
theorem iA (n lo hi:Int):
 ej Tryz.prog 132 [(vI n),(vI lo),(vI hi)] [] (vB (decide (lo≤n∧n≤hi))):=by
 refine bI kr Tryz.func132 U U fun D Q hQ hN=>?_
 try dsimp only
 refine WS fun _ B=>bg 1 U<|RK B<|WS fun _ A=>rP 4 [] I ?_
 refine db (t:=10) U (aS fun C=>?_) (aR fun C=>?_)
 ·refine rP 5 [] I ?_
  refine RK A<|ar<|Q1 hQ U U U ?_
  exact cB (decide_eq_decide.2 om)
 refine rP 5 [] I ?_
 refine RK A<|ar<|Q1 hQ U U U ?_
 exact cB (cr om).symm
theorem BA (ts:List ao) (tsA:OA) (tsC:Nat) (hst: ∀ x∈ts,bS x) (hlen:ts.length≤12):
 lv Tryz.prog 161 [(vA (aZ.cells (aZ.mk (aM.mk tsA ts.length tsC))))] [(rd tsA ts.length 9 (ts.map ao.cells))] (fun (x:(OA)×Nat)=>(vS x.1 ((g4 ts (ts.length+1)).length) x.2)) (fun (x:(OA)×Nat)=>True) (fun (x:(OA)×Nat)=>[(own x.1 x.2 38 2 ((g4 ts (ts.length+1)).map aa.cells))]):=by
 refine dp kr Tryz.func161 U U fun V Q hQ hN=>?_
 try dsimp only
 refine WS fun _ J=>fV U fun AA=>bg 1 U<|RK J<|WS fun _ K=>bg 1 U<|RK K<|al fun _ L=>WS fun _ M=>rP 1 [] I ?_
 refine RK M<|aw<|fX 38 2 ?_
 have A:(0≤ts.length+1):=by exact Nat.zero_le _
 refine bO (ι:={z:Nat×(OA)×Nat // (z.1≤ts.length+1)}) [1] [1,2] U U (fun z=>[(3,(vS z.1.2.1 ((g4 ts z.1.1).length) z.1.2.2)),(4,(vI (z.1.1:Int)))]) (fun z=>[(own z.1.2.1 z.1.2.2 38 2 ((g4 ts z.1.1).map aa.cells))]) (fun _=>rfl) (fun _=>rfl) (fun z=>ts.length+1-z.1.1) ⟨(0,none,0),A⟩ (aQ U) (aK [1,2,0]) ?_
 clear A
 rintro ⟨⟨i,a,c⟩,B⟩ J6 AB
 try dsimp only at B
 try dsimp only
 refine al fun _ N=>WS fun _ O=>rP 5 [] (mc 0 U I) ?_
 refine RK O<|bR U (aR fun T=>?_) (aS fun T=>?_)
 ·refine bB<|ae<|ae<|ax<|KK L<|WS fun _ E=>?_
  obtain rfl:i=ts.length+1:=by omega
  refine rP 2 [] I ?_
  refine RK E<|ar<|LX hQ (a,c) [2] [] I U U U U ?_
  trivial
 refine WK N<|al fun _ C=>aw<|WS fun _ D=>fE 2 [] (mc 0 U I) U<|rS (CL (zS ts tsA tsC 0 (i:Int) hst hlen om) (bp [1]) U)<|bg 3 U<|AL U dg fun P=>AL U dg fun R=>tP U cu U<|fR U cu U<|RK D<|an<|rP 2 [] (mc 1 U I) ?_
 refine cU (xs:=[.tmp 21]) (cs:=(aa.cells (eI ts (0:Int).toNat ((i:Int)-0).toNat))) U jK dg U U U U (by simp [Value.cells,aa.aW]) U U fun S=>?_
 refine c_ (es2:=(List.map aa.cells (g4 ts (i+1)))) (m':=(g4 ts (i+1)).length) 5 U U U Ek U U sm (aY (es:=List.map aa.cells [(eI ts (0:Int).toNat ((i:Int)-0).toNat)]) 0 U U (by simp [aa.aW]) U) (gV _) (by simp only [oo]; omega) (by simp only [maxLen,oo]; omega) (by rw [CP]; simp) sm U fun G H=>?_
 try dsimp only
 refine bg 1 U<|aH<|aD<|KK C<|an<|rP 3 [] I ?_
 refine aH ?_
 have F:(vI (((i+1):Nat):Int))=(vI ((i:Int)+1)):=by exact cI om
 refine aT (AB ⟨((i+1),G,H),(by first|omega|(simp only []; omega))⟩ _ _ _ U os (dx.cons U<|dx.cons U<|bk U F<|dx.nil _) (aK [3,4,5]))
theorem QU (ts:List ao) (tsA:OA) (tsC:Nat) (s:cJ) (hlen:ts.length≤1000000) (hside: ∀ x∈ts,0≤x.iZ∧x.iZ≤255):
 ej Tryz.prog 152 [(vA (aZ.cells (aZ.mk (aM.mk tsA ts.length tsC)))),(vA (cJ.cells s))] [(rd tsA ts.length 9 (ts.map ao.cells))] (vT [(vA (aa.cells (Pu ts s))),(vI (F8 ts s))]):=by
 refine bI kr Tryz.func152 U U fun r Q hQ hN=>?_
 try dsimp only
 refine WS fun _ R=>fV U fun i=>fV U fun k=>AL U dg fun l=>bg 1 U<|RK R<|al fun _ S=>WS fun _ T=>fE 1 [] (mc 2 U I) U<|rS (CL (vK ts tsA tsC hlen) (bp [3]) U)<|rP 1 [] I ?_
 refine RK T<|cM U (fun AB=>?_) (fun AB=>?_)
 ·rw [Bool.not_eq_true'] at AB
  refine WS fun _ AA=>rS (SX (bj (xs:=[]) (cs:=(aa.cells (aa.mk 0 0))) U U (bh gl U)) U U)<|fR U cu U<|rP 1 [] I ?_
  refine RK AA<|ar<|lk hQ [0] (mc 0 U I) U ?_
  (have e:=LV (s:=s) (by simpa using AB); rw [e.1,e.2]<;>rfl)
 rw [Bool.not_eq_false'] at AB
 refine WK S<|al fun _ V=>WS fun _ W=>?_
 have M:=jP AB
 have Z:=kJ AB
 refine fE 2 [0,1] (mc 2 U (mc 1 U I)) U<|rS (CL (qL ts tsA tsC s asm asm) (bp [3]) U)<|rP 1 [] I ?_
 refine RK W<|cM U (bx fun D=>?_) (bw fun D=>?_)
 ·refine WS fun _ O=>rS (SX (bj (xs:=[]) (cs:=(aa.cells (aa.mk 0 0))) U U (bh gl U)) U U)<|fR U cu U<|rP 1 [] I ?_
  refine RK O<|ar<|lk hQ [0] (mc 0 U I) U ?_
  (have e:=Jg AB D; rw [e.1,e.2]<;>rfl)
 refine WK V<|al fun _ H=>o8 cD [0,2,3] [1,4,5,6,7] [false,false,false] [] [(bZ l 38 (aa.cells (aa.mk 0 0))),(bZ k 119 (cJ.cells s)),(bZ i 24 (aZ.cells (aZ.mk (aM.mk tsA ts.length tsC)))),(rd tsA ts.length 9 (ts.map ao.cells)).ro] [] kr (aK [0,1,2,3]) (aK []) ?_
 have q:=D.1
 have N:=p8 M D
 have p:(g4 ts (ts.length+1)).length=ts.length+1:=oo
 refine eS U (LW 2 U cq U U)<|eS U (FA 0 U fD U)<|eS U (L1 (vI s.a_) 1 U cq U U)<|e8 U<|iT [1,6] kr (eN ?_<|eN ?_<|kT)
 rotate_left 1
 ·refine NO U U [1,4,5,7] fun T12 J=>AL U dg fun f=>RD J 1 U<|N1 1<|NO U U [4,5,7] fun T14 P=>cX (BA ts tsA tsC asm asm) (bp [4]) U fun Y b=>?_
  obtain ⟨d,o⟩:=Y
  try dsimp only
  refine RD P 2 U<|N1 4<|NO U U [5,7] fun T19 E=>?_
  obtain ⟨z,hz⟩:=aO (g4 ts (ts.length+1)) ((s.a_).toNat) om
  have A:=bP aa.cells hz
  refine rS (IA ((s.a_).toNat) U (ak (n:=(g4 ts (ts.length+1)).length) 0 U sm) jK dc om om)<|RD E 2 U<|N1 5<|NO U U [7] fun T20 F=>rS (oB ((s.a_).toNat) 0 (aa.cells z) U cq (ak (n:=(g4 ts (ts.length+1)).length) 0 U sm) A U dc U U)<|RD F 2 U<|N1 7<|NO U U [] fun T21 C=>tP U cu U<|RD C 2 U<|pM<|KK H<|WS fun _ B=>rP 1 [] I ?_
  have A:=pf hz
  have G:=lY M 0 s.a_.toNat
  unfold lj at N
  rw [← A] at G
  refine fE 11 [0,1,0,1] (mc 1 U (mc 3 U I)) U<|rS (SX (bj (xs:=[(0,.tmp 27),(1,.tmp 33)]) (cs:=(aa.cells (aa.mk (z.Lo+s.mA.Lo) (z.Hi+s.mA.Hi)))) U U (bh gl U)) U U)<|Ht U cu U<|rP 1 [] I ?_
  refine RK B<|ar<|lk hQ [0] (mc 2 U I) U ?_
  (have e:=wU AB D; subst A; rw [e.1,e.2]<;>rfl)
 refine NO U U [4,5,6,7] fun T12 J=>cX (BA ts tsA tsC asm asm) (bp [3]) U fun X a=>?_
 obtain ⟨c,m⟩:=X
 try dsimp only
 refine RD J 1 U<|iT [4,6] kr (eN ?_<|eN ?_<|kT)
 rotate_left 1
 ·refine NO U U [4,5,7] fun T17 K=>AL U dg fun g=>RD K 2 U<|N1 4<|NO U U [5,7] fun T19 E=>?_
  obtain ⟨z,hz⟩:=aO (g4 ts (ts.length+1)) ((s.a_).toNat) om
  have A:=bP aa.cells hz
  refine rS (IA ((s.a_).toNat) U (ak (n:=(g4 ts (ts.length+1)).length) 1 U sm) jK dc om om)<|RD E 2 U<|N1 5<|NO U U [7] fun T20 F=>rS (oB ((s.a_).toNat) 0 (aa.cells z) U cq (ak (n:=(g4 ts (ts.length+1)).length) 1 U sm) A U dc U U)<|RD F 2 U<|N1 7<|NO U U [] fun T21 C=>fR U cu U<|RD C 2 U<|pM<|KK H<|WS fun _ B=>rP 1 [] I ?_
  have A:=pf hz
  have G:=lY M 0 s.a_.toNat
  unfold lj at N
  rw [← A] at G
  refine fE 11 [0,1,0,1] (mc 0 U (mc 3 U I)) U<|rS (SX (bj (xs:=[(0,.tmp 27),(1,.tmp 33)]) (cs:=(aa.cells (aa.mk (z.Lo+s.mA.Lo) (z.Hi+s.mA.Hi)))) U U (bh gl U)) U U)<|Ht U cu U<|rP 1 [] I ?_
  refine RK B<|ar<|lk hQ [0] (mc 2 U I) U ?_
  (have e:=wU AB D; subst A; rw [e.1,e.2]<;>rfl)
 refine NO U U [5,6,7] fun T17 K=>?_
 obtain ⟨z,hz⟩:=aO (g4 ts (ts.length+1)) ((s.a_).toNat) om
 have A:=bP aa.cells hz
 refine rS (IA ((s.a_).toNat) U (ak (n:=(g4 ts (ts.length+1)).length) 0 U sm) jK dc om om)<|RD K 1 U<|iT [5,6] kr (eN ?_<|eN ?_<|kT)
 rotate_left 1
 ·refine NO U U [5,7] fun T18 L=>AL U dg fun h=>RD L 2 U<|N1 5<|NO U U [7] fun T20 F=>rS (oB ((s.a_).toNat) 0 (aa.cells z) U cq (ak (n:=(g4 ts (ts.length+1)).length) 1 U sm) A U dc U U)<|RD F 2 U<|N1 7<|NO U U [] fun T21 C=>fR U cu U<|RD C 2 U<|pM<|KK H<|WS fun _ B=>rP 1 [] I ?_
  have A:=pf hz
  have G:=lY M 0 s.a_.toNat
  unfold lj at N
  rw [← A] at G
  refine fE 11 [0,1,0,1] (mc 0 U (mc 3 U I)) U<|rS (SX (bj (xs:=[(0,.tmp 27),(1,.tmp 33)]) (cs:=(aa.cells (aa.mk (z.Lo+s.mA.Lo) (z.Hi+s.mA.Hi)))) U U (bh gl U)) U U)<|Ht U cu U<|rP 1 [] I ?_
  refine RK B<|ar<|lk hQ [0] (mc 2 U I) U ?_
  (have e:=wU AB D; subst A; rw [e.1,e.2]<;>rfl)
 refine NO U U [6,7] fun T18 L=>rS (oB ((s.a_).toNat) 0 (aa.cells z) U cq (ak (n:=(g4 ts (ts.length+1)).length) 0 U sm) A U dc U U)<|RD L 1 U<|N1 6<|NO U U [7] fun T19 E=>AL U dg fun j=>RD E 2 U<|N1 7<|NO U U [] fun T21 C=>fR U cu U<|RD C 2 U<|pM<|KK H<|WS fun _ B=>rP 1 [] I ?_
 have A:=pf hz
 have G:=lY M 0 s.a_.toNat
 unfold lj at N
 rw [← A] at G
 refine fE 11 [0,1,0,1] (mc 0 U (mc 3 U I)) U<|rS (SX (bj (xs:=[(0,.tmp 27),(1,.tmp 33)]) (cs:=(aa.cells (aa.mk (z.Lo+s.mA.Lo) (z.Hi+s.mA.Hi)))) U U (bh gl U)) U U)<|Ht U cu U<|rP 1 [] I ?_
 refine RK B<|ar<|lk hQ [0] (mc 2 U I) U ?_
 (have e:=wU AB D; subst A; rw [e.1,e.2]<;>rfl)
theorem He (ts:List ao) (tsA:OA) (tsC:Nat) (p:cJ) (q:cJ) (hlen:ts.length≤1000000) (hside: ∀ x∈ts,0≤x.iZ∧x.iZ≤255) (hord: ¬ q.a_<p.a_):
 ej Tryz.prog 153 [(vA (aZ.cells (aZ.mk (aM.mk tsA ts.length tsC)))),(vA (cJ.cells p)),(vA (cJ.cells q))] [(rd tsA ts.length 9 (ts.map ao.cells))] (vT [(vA (aa.cells (kG ts p q))),(vI (lT ts p q))]):=by
 refine bI kr Tryz.func153 U U fun k Q hQ hN=>?_
 try dsimp only
 refine WS fun _ N=>fV U fun f=>fV U fun g=>fV U fun i=>AL U dg fun j=>bg 1 U<|RK N<|al fun _ O=>WS fun _ P=>fE 1 [] (mc 3 U I) U<|rS (CL (vK ts tsA tsC hlen) (bp [4]) U)<|rP 1 [] I ?_
 refine RK P<|cM U (fun A=>?_) (fun A=>?_)
 ·rw [Bool.not_eq_true'] at A
  refine WS fun _ R=>rS (SX (bj (xs:=[]) (cs:=(aa.cells (aa.mk 0 0))) U U (bh gl U)) U U)<|fR U cu U<|rP 1 [] I ?_
  refine RK R<|ar<|lk hQ [0] (mc 0 U I) U ?_
  (have e:=uv (a:=p) (b:=q) (by simpa using A); rw [e.1,e.2]<;>rfl)
 rw [Bool.not_eq_false'] at A
 refine WK O<|al fun _ S=>WS fun _ E=>?_
 have D:=jP A
 have M:=kJ A
 refine fE 2 [0,1] (mc 3 U (mc 2 U I)) U<|rS (CL (qL ts tsA tsC p asm asm) (bp [4]) U)<|rP 2 [] I ?_
 refine db (t:=20) U (bx fun B=>?_) (bw fun B=>?_)
 ·refine bg 5 U<|RK E<|aP U<|WS fun _ G=>rS (SX (bj (xs:=[]) (cs:=(aa.cells (aa.mk 0 0))) U U (bh gl U)) U U)<|fR U cu U<|rP 1 [] I ?_
  refine RK G<|ar<|lk hQ [0] (mc 0 U I) U ?_
  (have e:=oH (a:=p) (b:=q) A (fun h=>by first|exact B h.1|exact C h.2); rw [e.1,e.2]<;>rfl)
 refine fE 2 [0,1] (mc 3 U (mc 1 U I)) U<|rS (CL (qL ts tsA tsC q asm asm) (bp [4]) U)<|rP 2 [] I ?_
 refine RK E<|cM U (bx fun C=>?_) (bw fun C=>?_)
 ·refine WS fun _ H=>rS (SX (bj (xs:=[]) (cs:=(aa.cells (aa.mk 0 0))) U U (bh gl U)) U U)<|fR U cu U<|rP 1 [] I ?_
  refine RK H<|ar<|lk hQ [0] (mc 0 U I) U ?_
  (have e:=oH (a:=p) (b:=q) A (fun h=>by first|exact B h.1|exact C h.2); rw [e.1,e.2]<;>rfl)
 refine WK S<|al fun _ AB=>WS fun _ J=>?_
 have AA:fr ts p∧fr ts q:=⟨B,C⟩
 have T:=p8 D B
 have V:=p8 D C
 have c:=B.1
 have d:=C.1
 have Y:=wM D M C B
 unfold lj at T V
 refine rP 5 [0,1] (mc 1 U (mc 2 U I)) ?_
 refine RK J<|cM U (aS fun F=>?_) (aR fun F=>?_)
 ·exfalso; omega
 refine WK AB<|WS fun _ K=>rP 2 [] (mc 3 U I) ?_
 have Z:=lY D p.a_.toNat (q.a_-p.a_).toNat
 refine fE 3 [0,1] (mc 2 U (mc 1 U I)) U<|rS (CL (zS ts tsA tsC p.a_ q.a_ asm asm om) (bp [4]) U)<|bg 3 U<|AL U dg fun W=>AL U dg fun X=>tP U cu U<|fR U cu U<|RK K<|WS fun _ L=>fE 20 [0,1,2,0,1,2] (mc 1 U (mc 3 U (mc 4 U I))) U<|rS (SX (bj (xs:=[(0,.tmp 64),(1,.tmp 74)]) (cs:=(aa.cells (aa.mk ((((eI ts p.a_.toNat (q.a_-p.a_).toNat).Lo)+q.mA.Lo)-p.mA.Hi) ((((eI ts p.a_.toNat (q.a_-p.a_).toNat).Hi)+q.mA.Hi)-p.mA.Lo)))) U U (bh gl U)) U U)<|Ht U cu U<|rP 1 [] I ?_
 refine RK L<|ar<|lk hQ [0] (mc 2 U I) U ?_
 (have e:=k8 A AA; rw [e.1,e.2,qq F]<;>rfl)
theorem LU (ts:List ao) (tsA:OA) (tsC:Nat) (p:cJ) (q:cJ) (hlen:ts.length≤1000000) (hside: ∀ x∈ts,0≤x.iZ∧x.iZ≤255):
 ej Tryz.prog 153 [(vA (aZ.cells (aZ.mk (aM.mk tsA ts.length tsC)))),(vA (cJ.cells p)),(vA (cJ.cells q))] [(rd tsA ts.length 9 (ts.map ao.cells))] (vT [(vA (aa.cells (kG ts p q))),(vI (lT ts p q))]):=by
 refine bI kr Tryz.func153 U U fun u Q hQ hN=>?_
 try dsimp only
 refine WS fun _ S=>fV U fun n=>fV U fun o=>fV U fun r=>AL U dg fun s=>bg 1 U<|RK S<|al fun _ T=>WS fun _ AA=>fE 1 [] (mc 3 U I) U<|rS (CL (vK ts tsA tsC hlen) (bp [4]) U)<|rP 1 [] I ?_
 refine RK AA<|cM U (fun A=>?_) (fun A=>?_)
 ·rw [Bool.not_eq_true'] at A
  refine WS fun _ V=>rS (SX (bj (xs:=[]) (cs:=(aa.cells (aa.mk 0 0))) U U (bh gl U)) U U)<|fR U cu U<|rP 1 [] I ?_
  refine RK V<|ar<|lk hQ [0] (mc 0 U I) U ?_
  (have e:=uv (a:=p) (b:=q) (by simpa using A); rw [e.1,e.2]<;>rfl)
 rw [Bool.not_eq_false'] at A
 refine WK T<|al fun _ W=>WS fun _ E=>?_
 have D:=jP A
 have P:=kJ A
 refine fE 2 [0,1] (mc 3 U (mc 2 U I)) U<|rS (CL (qL ts tsA tsC p asm asm) (bp [4]) U)<|rP 2 [] I ?_
 refine db (t:=20) U (bx fun B=>?_) (bw fun B=>?_)
 ·refine bg 5 U<|RK E<|aP U<|WS fun _ G=>rS (SX (bj (xs:=[]) (cs:=(aa.cells (aa.mk 0 0))) U U (bh gl U)) U U)<|fR U cu U<|rP 1 [] I ?_
  refine RK G<|ar<|lk hQ [0] (mc 0 U I) U ?_
  (have e:=oH (a:=p) (b:=q) A (fun h=>by first|exact B h.1|exact C h.2); rw [e.1,e.2]<;>rfl)
 refine fE 2 [0,1] (mc 3 U (mc 1 U I)) U<|rS (CL (qL ts tsA tsC q asm asm) (bp [4]) U)<|rP 2 [] I ?_
 refine RK E<|cM U (bx fun C=>?_) (bw fun C=>?_)
 ·refine WS fun _ H=>rS (SX (bj (xs:=[]) (cs:=(aa.cells (aa.mk 0 0))) U U (bh gl U)) U U)<|fR U cu U<|rP 1 [] I ?_
  refine RK H<|ar<|lk hQ [0] (mc 0 U I) U ?_
  (have e:=oH (a:=p) (b:=q) A (fun h=>by first|exact B h.1|exact C h.2); rw [e.1,e.2]<;>rfl)
 refine WK W<|al fun _ AB=>WS fun _ J=>?_
 have R:fr ts p∧fr ts q:=⟨B,C⟩
 have X:=p8 D B
 have Y:=p8 D C
 have l:=B.1
 have m:=C.1
 have j:=wM D P C B
 unfold lj at X Y
 refine rP 5 [0,1] (mc 1 U (mc 2 U I)) ?_
 refine RK J<|cM U (aS fun F=>?_) (aR fun F=>?_)
 ·refine WS fun _ K=>fE 3 [0,1,2] (mc 3 U (mc 1 U (mc 2 U I))) U<|rS (CL (He ts tsA tsC q p hlen hside om) (bp [4]) U)<|bg 3 U<|AL U dg fun d=>fR U cu U<|bg 1 U<|RK K<|WS fun _ L=>rP 2 [] (mc 0 U I) ?_
  have O:kG ts q p=jL ts q p:=(k8 A ⟨C,B⟩).2
  have Z: -400000≤(kG ts q p).Lo∧(kG ts q p).Hi≤400000:=by rw [O]; omega
  have c:(kG ts q p).Lo≤(kG ts q p).Hi:=by rw [O]; omega
  refine rS (NG U ⟨om,om⟩)<|fE 2 [] (mc 0 U I) U<|rS (NG U ⟨om,om⟩)<|rS (SX (bj (xs:=[(0,.tmp 41),(1,.tmp 44)]) (cs:=(aa.cells (aa.mk (-((kG ts q p).Hi)) (-((kG ts q p).Lo))))) U U (bh gl U)) U U)<|tP U cu U<|rP 1 [] I ?_
  refine RK L<|ar<|lk hQ [0] (mc 1 U I) U ?_
  (have e:=k8 A R; have i:=k8 A ⟨C,B⟩; rw [e.1,e.2,i.2,DK F]<;>rfl)
 refine WK AB<|WS fun _ M=>rP 2 [] (mc 3 U I) ?_
 have k:=lY D p.a_.toNat (q.a_-p.a_).toNat
 refine fE 3 [0,1] (mc 2 U (mc 1 U I)) U<|rS (CL (zS ts tsA tsC p.a_ q.a_ asm asm om) (bp [4]) U)<|bg 3 U<|AL U dg fun f=>AL U dg fun g=>tP U cu U<|fR U cu U<|RK M<|WS fun _ N=>fE 20 [0,1,2,0,1,2] (mc 1 U (mc 3 U (mc 4 U I))) U<|rS (SX (bj (xs:=[(0,.tmp 64),(1,.tmp 74)]) (cs:=(aa.cells (aa.mk ((((eI ts p.a_.toNat (q.a_-p.a_).toNat).Lo)+q.mA.Lo)-p.mA.Hi) ((((eI ts p.a_.toNat (q.a_-p.a_).toNat).Hi)+q.mA.Hi)-p.mA.Lo)))) U U (bh gl U)) U U)<|Ht U cu U<|rP 1 [] I ?_
 refine RK N<|ar<|lk hQ [0] (mc 2 U I) U ?_
 (have e:=k8 A R; rw [e.1,e.2,qq F]<;>rfl)
end
section
open Go.RowKit
theorem LL (l:bf) (kA:OA) (kC:Nat) (az:List RA) (cA:OA) (cC:Nat) (bA:OA) (bC:Nat) (hraw:s8 l az):
 ej Tryz.prog 48 [(vA (bK.cells (lp l kA kC cA cC bA bC)))] [(rd kA l.aJ.length 9 (l.aJ.map ao.cells)),(rd cA l.ai.length 2 (List.zipWith au.cells l.ai az)),(e7 (aU au.gY l.ai az)),(rd bA l.ag.length 4 (l.ag.map bE.cells))] (vB (decide (mD l))):=by
 have e:=hraw.sE
 have d:=hraw.sD
 have a:=hraw.og
 have b:=hraw.sB
 refine bI kr Tryz.func48 U U fun g Q hQ hN=>?_
 try dsimp only
 refine WS fun _ O=>fV U fun f=>bg 1 U<|RK O<|al fun _ P=>WS fun _ D=>bg 1 U<|rS (LP (aZ.cells (aZ.mk (aM.mk kA l.aJ.length kC))) 0 U cq U U U)<|rS (CL (Oh l.aJ kA kC) (bp [1]) U)<|rP 1 [] I ?_
 refine db (t:=7) U (aS fun Z=>?_) (aR fun Z=>?_)
 ·refine bg 11 U<|RK D<|aP U<|WS fun _ R=>rP 1 [] I ?_
  refine RK R<|ar<|Q1 hQ U U U ?_
  exact cB (fO (.inl om)).symm
 refine rP 6 [] (mc 0 U I) ?_
 refine db (t:=13) U (aS fun C=>?_) (aR fun C=>?_)
 ·refine bg 5 U<|RK D<|aP U<|WS fun _ S=>rP 1 [] I ?_
  refine RK S<|ar<|Q1 hQ U U U ?_
  exact cB (fO (.inl om)).symm
 refine rP 5 [] (mc 0 U I) ?_
 refine RK D<|cM U (aS fun N=>?_) (aR fun N=>?_)
 ·refine WS fun _ T=>rP 1 [] I ?_
  refine RK T<|ar<|Q1 hQ U U U ?_
  exact cB (fO (.inl om)).symm
 refine WK P<|al fun _ AA=>WS fun _ V=>rP 1 [] I ?_
 refine RK V<|aw ?_
 have A:(0≤l.ai.length)∧(AN l 0):=by exact ⟨Nat.zero_le _,fun j c hj=>absurd hj (Nat.not_lt_zero _)⟩
 refine bO (ι:={z:Nat // (z≤l.ai.length)∧(AN l z)}) [1] [0,1,2,3,4] U U (fun z=>[(3,(vI (z.1:Int)))]) (fun z=>[]) (fun _=>rfl) (fun _=>rfl) (fun z=>l.ai.length-z.1) ⟨0,A⟩ (aQ U) (aK [0,1,2,3,4]) ?_
 clear A
 rintro ⟨i,⟨W,B⟩⟩ J10 F
 try dsimp only
 refine al fun _ G=>WS fun _ H=>rP 5 [] (mc 0 U I) ?_
 refine RK H<|bR U (aR fun C=>?_) (aS fun C=>?_)
 ·refine bB<|ae<|ae<|ax<|KK AA<|WS fun _ L=>rP 1 [] I ?_
  refine RK L<|ar<|Q1 hQ U U U ?_
  exact cB (cr (JD om om B)).symm
 refine WK G<|al fun _ AB=>aw<|WS fun _ J=>rP 3 [] (mc 0 U I) ?_
 obtain ⟨x,hx⟩:=aO l.ai i om
 obtain ⟨xa,X⟩:=aO az i om
 have Y:(List.zipWith au.cells l.ai az)[i]? =some (au.cells x xa):=dZ hx X
 refine rS (IA i U (aG 2 U) zV dc om om)<|rS (nK ((i*2)+1) U (aG 2 U) (Nat.mul_pos om dc) fD U)<|rS (gF i 1 (vS xa.1 x.bu.length xa.2) U cq (aG 2 U) Y U dc U)<|rP 2 [] I ?_
 refine RK J<|cM U (aS fun E=>?_) (aR fun E=>?_)
 ·refine WS fun _ K=>rP 1 [] I ?_
  refine RK K<|ar<|Q1 hQ U U U ?_
  exact cB (fO (Ij hx E)).symm
 refine bY<|aD<|KK AB<|an<|rP 3 [] I ?_
 refine aH ?_
 have M:(vI (((i+1):Nat):Int))=(vI ((i:Int)+1)):=by exact cI om
 refine aT (F ⟨(i+1),⟨om,lE B hx om⟩⟩ _ _ _ U os (dx.cons U<|bk U M<|dx.nil _) (aK [0,1,2,3,4]))
theorem w4 (d m:Int) (hd:0≤d∧d≤1000) (hm:0≤m∧m≤90000000):
 ej Tryz.prog 151 [(vI d),(vI m)] [] (vI (o5 (d*m) 1000000)):=by
 have J:=Pp (a:=d) (b:=m) (A:=1000) (B:=90000000) hd.1 hd.2 hm.1 hm.2
 refine bI kr Tryz.func151 U U fun K Q hQ hN=>?_
 try dsimp only
 refine WS fun _ C=>bg 1 U<|RK C<|WS fun _ D=>bg 2 U<|rS (BI U (F1 ⟨om,om⟩))<|bg 1 U<|RK D<|al fun _ E=>WS fun _ F=>bg 1 U<|rS (BI U (ON om om))<|rP 1 [] I ?_
 refine RK F<|cM U (aS fun AA=>?_) (aR fun AA=>?_)
 ·refine WS fun _ G=>bg 1 U<|rS (BI U (tm om om om))<|rP 2 [] I ?_
  refine RK G<|ar<|Q1 hQ U U U ?_
  exact cI (by unfold o5; omega)
 refine WK E<|WS fun _ H=>bg 1 U<|rS (BI U (tm om om om))<|rP 1 [] I ?_
 refine RK H<|ar<|Q1 hQ U U U ?_
 exact cI (by unfold o5; omega)
theorem IF (c:au) (sA:OA) (sC:Nat) (hlen:c.bu.length≤1000000):
 ej Tryz.prog 133 [(vA (dv.cells (dv.mk c.dj (aM.mk sA c.bu.length sC))))] [(rd sA c.bu.length 3 (c.bu.map cG.cells))] (vB (decide (eY c))):=by
 refine bI kr Tryz.func133 U U fun w0 Q hQ hN=>?_
 try dsimp only
 refine WS fun _ Ac=>fV U fun b2=>bg 1 U<|RK Ac<|al fun _ Ad=>WS fun _ AK=>fE 2 [] (mc 0 U I) U<|rS (CL (iA c.dj 0 1000) (aL) U)<|rP 2 [] I ?_
 refine db (t:=14) U (bx fun AU=>?_) (bw fun AU=>?_)
 ·refine bg 6 U<|RK AK<|aP U<|WS fun _ Ae=>rP 1 [] I ?_
  refine RK Ae<|ar<|Q1 hQ U U U ?_
  exact cB (cr fun h=>by have q1:=h.rD; have q2:=h.len; omega).symm
 refine fE 3 [] (mc 0 U I) U<|rS (CL (iA (c.bu.length:Int) 1 5) (aL) U)<|rP 2 [] I ?_
 refine RK AK<|cM U (bx fun AV=>?_) (bw fun AV=>?_)
 ·refine WS fun _ Af=>rP 1 [] I ?_
  refine RK Af<|ar<|Q1 hQ U U U ?_
  exact cB (cr fun h=>by have q1:=h.rD; have q2:=h.len; omega).symm
 refine WK Ad<|al fun _ Ag=>WS fun _ Ah=>rP 1 [] I ?_
 refine RK Ah<|aw ?_
 have A:(0≤c.bu.length)∧(∀ (j:Nat) y,j<0→c.bu[j]? =some y→fx c j y):=by exact ⟨Nat.zero_le _,fun j y hj=>absurd hj (Nat.not_lt_zero _)⟩
 refine bO (ι:={z:Nat // (z≤c.bu.length)∧(∀ (j:Nat) y,j<z→c.bu[j]? =some y→fx c j y)}) [1] [0,1] U U (fun z=>[(3,(vI (z.1:Int)))]) (fun z=>[]) (fun _=>rfl) (fun _=>rfl) (fun z=>c.bu.length-z.1) ⟨0,A⟩ (aQ U) (aK [0,1]) ?_
 clear A
 rintro ⟨i,⟨a,C⟩⟩ J9 f
 try dsimp only
 have An:=JF a C
 refine al fun _ g=>WS fun _ l=>rP 5 [] (mc 0 U I) ?_
 refine RK l<|cM U (aS fun AW=>?_) (aR fun AW=>?_)
 ·refine WK g<|al fun _ Am=>aw<|WS fun _ n=>rP 3 [] (mc 0 U I) ?_
  obtain ⟨x,hx⟩:=aO c.bu i om
  have b:=bP cG.cells hx
  refine rS (IA i U (aG 1 U) qd dc om om)<|rS (oB i 0 (cG.cells x) U cq (aG 1 U) b U dc U U)<|AL U rv fun Al=>fR U sU U<|RK n<|al fun _ B=>dF cD 41 kr<|mI 2 [] (mc 0 U I) U<|dS (CL (iA x.At 0 86400000) (aL) U)<|dP 2 [] I ?_
  refine iS (t:=37) U (bx fun AX=>?_) (bw fun AX=>?_)
  ·refine lz 36 U<|cO<|RK B<|aP U<|WS fun _ p=>rP 1 [] I ?_
   refine RK p<|ar<|Q1 hQ U U U ?_
   exact cB (cr fun h=>by have q:=h.sync i x hx; unfold fx at q; (rw [gG om] at q; omega)).symm
  refine dP 3 [] I ?_
  refine jk (t:=40) U (aR fun AY=>?_) (aS fun AY=>?_)
  ·refine dP 19 [] (mc 0 U I) ?_
   refine iS (t:=59) U (aS fun X=>?_) (aR fun X=>?_)
   ·refine lz 14 U<|cO<|RK B<|aP U<|WS fun _ w=>rP 1 [] I ?_
    refine RK w<|ar<|Q1 hQ U U U ?_
    exact cB (cr fun h=>by have q:=h.sync i x hx; unfold fx at q; (rw [gG om] at q; omega)).symm
   refine dP 9 [] (mc 0 U I) ?_
   refine iS (t:=68) U (aS fun Y=>?_) (aR fun Y=>?_)
   ·refine lz 5 U<|cO<|RK B<|aP U<|WS fun _ AA=>rP 1 [] I ?_
    refine RK AA<|ar<|Q1 hQ U U U ?_
    exact cB (cr fun h=>by have q:=h.sync i x hx; unfold fx at q; (rw [gG om] at q; omega)).symm
   refine dP 5 [] (mc 0 U I) ?_
   refine cO<|RK B<|bR U (aR fun Z=>?_) (aS fun Z=>?_)
   ·refine bY<|aD<|KK Am<|an<|rP 3 [] I ?_
    refine aH ?_
    have AO:(vI (((i+1):Nat):Int))=(vI ((i:Int)+1)):=by exact cI om
    refine aT (f ⟨(i+1),⟨om,lE C hx (by unfold fx; (rw [gG om]; omega))⟩⟩ _ _ _ U os (dx.cons U<|bk U AO<|dx.nil _) (aK [1,2]))
   refine WS fun _ AB=>rP 1 [] I ?_
   refine RK AB<|ar<|Q1 hQ U U U ?_
   exact cB (cr fun h=>by have q:=h.sync i x hx; unfold fx at q; (rw [gG om] at q; omega)).symm
  refine dP 6 [0,1] (mc 0 U (mc 1 U I)) ?_
  obtain ⟨y,hy⟩:=aO c.bu (i-1) om
  have d:=bP cG.cells hy
  refine dS (IA (i-1) U (aG 2 U) qd dc om om)<|dS (nK ((i-1)*3) U (aG 2 U) (Nat.mul_pos om dc) fD U)<|dS (gF (i-1) 0 (vI y.At) U cq (aG 2 U) d U dc U)<|dP 4 [] I ?_
  refine iS (t:=53) U (aS fun AZ=>?_) (aR fun AZ=>?_)
  ·refine lz 20 U<|cO<|RK B<|aP U<|WS fun _ r=>rP 1 [] I ?_
   refine RK r<|ar<|Q1 hQ U U U ?_
   exact cB (cr fun h=>by have q:=h.sync i x hx; unfold fx at q; (rw [wu om hy] at q; omega)).symm
  refine dP 6 [] (mc 0 U I) ?_
  refine iS (t:=59) U (aS fun X=>?_) (aR fun X=>?_)
  ·refine lz 14 U<|cO<|RK B<|aP U<|WS fun _ s=>rP 1 [] I ?_
   refine RK s<|ar<|Q1 hQ U U U ?_
   exact cB (cr fun h=>by have q:=h.sync i x hx; unfold fx at q; (rw [gG om] at q; omega)).symm
  refine dP 9 [] (mc 0 U I) ?_
  refine iS (t:=68) U (aS fun Y=>?_) (aR fun Y=>?_)
  ·refine lz 5 U<|cO<|RK B<|aP U<|WS fun _ u=>rP 1 [] I ?_
   refine RK u<|ar<|Q1 hQ U U U ?_
   exact cB (cr fun h=>by have q:=h.sync i x hx; unfold fx at q; (rw [gG om] at q; omega)).symm
  refine dP 5 [] (mc 0 U I) ?_
  refine cO<|RK B<|bR U (aR fun Z=>?_) (aS fun Z=>?_)
  ·refine bY<|aD<|KK Am<|an<|rP 3 [] I ?_
   refine aH ?_
   have AN:(vI (((i+1):Nat):Int))=(vI ((i:Int)+1)):=by exact cI om
   refine aT (f ⟨(i+1),⟨om,lE C hx (by unfold fx; (rw [wu om hy]; omega))⟩⟩ _ _ _ U os (dx.cons U<|bk U AN<|dx.nil _) (aK [1,2]))
  refine WS fun _ v=>rP 1 [] I ?_
  refine RK v<|ar<|Q1 hQ U U U ?_
  exact cB (cr fun h=>by have q:=h.sync i x hx; unfold fx at q; (rw [gG om] at q; omega)).symm
 refine bB<|ae<|ae<|ax<|KK Ag<|al fun _ AC=>WS fun _ AD=>rP 1 [] I ?_
 refine RK AD<|aw ?_
 have A:(0≤c.bu.length)∧(ti c 0):=by exact ⟨Nat.zero_le _,fun j y hj=>absurd hj (Nat.not_lt_zero _)⟩
 refine bO (ι:={z:Nat // (z≤c.bu.length)∧(ti c z)}) [1] [0,1] U U (fun z=>[(5,(vI (z.1:Int)))]) (fun z=>[]) (fun _=>rfl) (fun _=>rfl) (fun z=>c.bu.length-z.1) ⟨0,A⟩ (aQ U) (aK [0,1]) ?_
 clear A
 rintro ⟨m,⟨AQ,G⟩⟩ J28 e
 try dsimp only
 have F:=wO (P:=fx c) om C
 refine al fun _ AE=>WS fun _ AF=>rP 5 [] (mc 0 U I) ?_
 refine RK AF<|bR U (aR fun Aa=>?_) (aS fun Aa=>?_)
 ·refine bB<|ae<|ae<|ax<|KK AC<|WS fun _ AM=>rP 1 [] I ?_
  refine RK AM<|ar<|Q1 hQ U U U ?_
  exact cB (fO (JP om om (wO om C) om G)).symm
 refine WK AE<|al fun _ AG=>aw<|WS fun _ AH=>rP 1 [] I ?_
 refine RK AH<|aw ?_
 have A:(0≤m)∧(∀ y,c.bu[m]? =some y→EZ c y 0):=by exact ⟨Nat.zero_le _,fun y _ j o hj=>absurd hj (Nat.not_lt_zero _)⟩
 refine bO (ι:={z:Nat // (z≤m)∧(∀ y,c.bu[m]? =some y→EZ c y z)}) [1,5] [0,1] U U (fun z=>[(6,(vI (z.1:Int)))]) (fun z=>[]) (fun _=>rfl) (fun _=>rfl) (fun z=>m-z.1) ⟨0,A⟩ (aQ U) (aK [0,1]) ?_
 clear A
 rintro ⟨k,⟨AR,D⟩⟩ J33 T
 try dsimp only
 refine al fun _ AI=>WS fun _ AJ=>rP 3 [] I ?_
 refine RK AJ<|bR U (aR fun Ab=>?_) (aS fun Ab=>?_)
 ·refine bB<|ae<|ae<|ax<|aD<|KK AG<|an<|rP 3 [] I ?_
  refine aH ?_
  have AP:(vI (((m+1):Nat):Int))=(vI ((m:Int)+1)):=by exact cI om
  refine aT (e ⟨(m+1),⟨om,DI G D om⟩⟩ _ _ _ U os (dx.cons U<|bk U AP<|dx.nil _) (aK [0,1]))
 refine WK AI<|al fun _ V=>aw<|al fun _ W=>o8 cD [0,1,2,3,4,5,6,7,8,9] [10,11,12,13] [false,false,false,false,false,false,false,false,false,false] [] [(bZ b2 127 (dv.cells (dv.mk c.dj (aM.mk sA c.bu.length sC)))),(rd sA c.bu.length 3 (c.bu.map cG.cells)).ro] [] kr (aK [0,1]) (aK [])<|eS U (FA 1 U fD U)<|eS U (L1 (vS sA c.bu.length sC) 0 U cq U U)<|eS U (MV U) ?_
 obtain ⟨x,hx⟩:=aO c.bu k om
 have b:=bP cG.cells hx
 refine eS U (IA k U (aG 1 U) qd dc om om)<|eS U (oB k 0 (cG.cells x) U cq (aG 1 U) b U dc U U)<|eS U (FA 1 U fD U)<|eS U (L1 (vS sA c.bu.length sC) 0 U cq U U)<|eS U (MV U) ?_
 obtain ⟨y,hy⟩:=aO c.bu m om
 have d:=bP cG.cells hy
 refine eS U (IA m U (aG 1 U) qd dc om om)<|eS U (oB m 0 (cG.cells y) U cq (aG 1 U) d U dc U U)<|e8 U<|iT [10,11] kr (eN ?_<|eN ?_<|kT)
 rotate_left 1
 ·refine NO U U [10,12,13] fun T38 M=>AL U rv fun AS=>RD M 1 U<|N1 10<|NO U U [12,13] fun T40 N=>AL U rv fun AT=>RD N 2 U<|N1 12<|NO U U [13] fun T42 O=>fR U sU U<|RD O 2 U<|N1 13<|NO U U [] fun T43 R=>tP U sU U<|RD R 2 U<|pM<|KK W<|WS fun _ J=>rP 6 [0,1,2] (mc 2 U (mc 1 U (mc 0 U I))) ?_
  obtain ⟨Ai,Aj,Ak⟩:=uO (fun j z _ hz=>F j z hz) hy (F _ _ hy) (show k<m by omega) hx
  refine bg 1 U<|rS (CL (w4 c.dj (y.At-x.At) om om) (aL) U)<|bg 1 U<|RK J<|WS fun _ E=>rP 10 [0,1] (mc 0 U (mc 1 U I)) ?_
  refine db (t:=113) U (aS fun H=>?_) (aR fun H=>?_)
  ·refine bg 10 U<|RK E<|aP U<|WS fun _ K=>rP 1 [] I ?_
   refine RK K<|ar<|Q1 hQ U U U ?_
   exact cB (cr fun h=>by have q:=h.pair m k y x hy om hx; unfold nI at q; omega).symm
  refine rP 10 [0,1] (mc 1 U (mc 0 U I)) ?_
  refine RK E<|bR U (aR fun Ao=>?_) (aS fun Ao=>?_)
  ·refine bY<|aD<|KK V<|an<|rP 3 [] I ?_
   refine aH ?_
   have S:(vI (((k+1):Nat):Int))=(vI ((k:Int)+1)):=by exact cI om
   refine aT (T ⟨(k+1),⟨om,fun z hz=>by rw [hy] at hz; cases hz; exact lE (D _ hy) hx (by unfold nI; omega)⟩⟩ _ _ _ rfl os (dx.cons rfl<|dx.cons rfl<|bk rfl S<|dx.nil _) (aK [2,3]))
  refine WS fun _ L=>rP 1 [] I ?_
  refine RK L<|ar<|Q1 hQ U U U ?_
  exact cB (cr fun h=>by have q:=h.pair m k y x hy om hx; unfold nI at q; omega).symm
 refine NO U U [11,12,13] fun T38 M=>AL U rv fun AS=>RD M 1 U<|N1 11<|NO U U [12,13] fun T40 N=>AL U rv fun AT=>RD N 2 U<|N1 12<|NO U U [13] fun T42 O=>tP U sU U<|RD O 2 U<|N1 13<|NO U U [] fun T43 R=>fR U sU U<|RD R 2 U<|pM<|KK W<|WS fun _ J=>rP 6 [0,1,2] (mc 2 U (mc 0 U (mc 1 U I))) ?_
 obtain ⟨Ai,Aj,Ak⟩:=uO (fun j z _ hz=>F j z hz) hy (F _ _ hy) (show k<m by omega) hx
 refine bg 1 U<|rS (CL (w4 c.dj (y.At-x.At) om om) (aL) U)<|bg 1 U<|RK J<|WS fun _ E=>rP 10 [0,1] (mc 1 U (mc 0 U I)) ?_
 refine db (t:=113) U (aS fun H=>?_) (aR fun H=>?_)
 ·refine bg 10 U<|RK E<|aP U<|WS fun _ K=>rP 1 [] I ?_
  refine RK K<|ar<|Q1 hQ U U U ?_
  exact cB (cr fun h=>by have q:=h.pair m k y x hy om hx; unfold nI at q; omega).symm
 refine rP 10 [0,1] (mc 0 U (mc 1 U I)) ?_
 refine RK E<|bR U (aR fun Ao=>?_) (aS fun Ao=>?_)
 ·refine bY<|aD<|KK V<|an<|rP 3 [] I ?_
  refine aH ?_
  have S:(vI (((k+1):Nat):Int))=(vI ((k:Int)+1)):=by exact cI om
  refine aT (T ⟨(k+1),⟨om,fun z hz=>by rw [hy] at hz; cases hz; exact lE (D _ hy) hx (by unfold nI; omega)⟩⟩ _ _ _ rfl os (dx.cons rfl<|dx.cons rfl<|bk rfl S<|dx.nil _) (aK [2,3]))
 refine WS fun _ L=>rP 1 [] I ?_
 refine RK L<|ar<|Q1 hQ U U U ?_
 exact cB (cr fun h=>by have q:=h.pair m k y x hy om hx; unfold nI at q; omega).symm
theorem B4 (c:au) (sA:OA) (sC:Nat) (at_:Int) (hc:eY c) (ha:0≤at_∧at_≤90000000):
 ej Tryz.prog 170 [(vA (dv.cells (dv.mk c.dj (aM.mk sA c.bu.length sC)))),(vI at_)] [(rd sA c.bu.length 3 (c.bu.map cG.cells))] (vA (aa.cells (hP c at_))):=by
 have e:=hc.len
 have W:=hc.rD
 refine bI kr Tryz.func170 U U fun j Q hQ hN=>?_
 try dsimp only
 refine WS fun _ R=>fV U fun g=>AL U dg fun h=>RK R<|WS fun _ S=>AL U dg fun d=>RK S<|al fun _ T=>WS fun _ AA=>rP 1 [] I ?_
 refine RK AA<|aw ?_
 have A:(0≤c.bu.length):=by exact Nat.zero_le _
 refine bO (ι:={z:Nat // (z≤c.bu.length)}) [1,2,4,5] [1,2,3] U U (fun z=>[(6,(vI (z.1:Int)))]) (fun z=>[(bZ d 38 (aa.cells (kH c at_ z.1)))]) (fun _=>rfl) (fun _=>rfl) (fun z=>c.bu.length-z.1) ⟨0,A⟩ (aQ U) (aK [1,2,3,0]) ?_
 clear A
 rintro ⟨i,X⟩ J8 D
 try dsimp only
 refine al fun _ V=>WS fun _ E=>rP 5 [] (mc 1 U I) ?_
 refine RK E<|bR U (aR fun O=>?_) (aS fun O=>?_)
 ·refine bB<|ae<|ae<|ax<|KK T<|WS fun _ J=>rP 1 [] (mc 3 U I) ?_
  refine fR U cu U<|RK J<|ar<|H2 hQ [0] (mc 0 U I) U ?_
  rw [DG hc (show c.bu.length≤i by omega)]
 refine WK V<|al fun _ B=>aw<|WS fun _ F=>rP 3 [] (mc 1 U I) ?_
 obtain ⟨x,hx⟩:=aO c.bu i om
 have Z:=bP cG.cells hx
 refine rS (IA i U (aG 2 U) qd dc om om)<|rS (oB i 0 (cG.cells x) U cq (aG 2 U) Z U dc U U)<|AL U rv fun a=>fR U sU U<|RK F<|WS fun _ G=>rP 2 [] (mc 2 U I) ?_
 have Y:=hc.tW hx
 have f:0≤o5 (c.dj*max (at_-x.At) (x.At-at_)) 1000000∧o5 (c.dj*max (at_-x.At) (x.At-at_)) 1000000≤90001:=uh W ha Y.1
 refine fE 8 [] (mc 0 U I) U<|rS (MX U)<|rS (CL (w4 c.dj (max (at_-x.At) (x.At-at_)) om om) (aL) U)<|bg 1 U<|RK G<|WS fun _ H=>fE 10 [] (mc 0 U I) U<|rS (SX (bj (xs:=[(0,.tmp 38),(1,.tmp 43)]) (cs:=(aa.cells (aa.mk (x.eC.Lo-(o5 (c.dj*(max (at_-x.At) (x.At-at_))) 1000000)) (x.eC.Hi+(o5 (c.dj*(max (at_-x.At) (x.At-at_))) 1000000))))) U U (bh gl U)) U U)<|AL U dg fun b=>fR U cu U<|RK H<|al fun _ C=>WS fun _ AB=>rP 2 [] I ?_
 refine RK AB<|bR U (aR fun P=>?_) (aS fun P=>?_)
 ·refine WK C<|an<|fE 4 [0,1] (mc 5 U (mc 0 U I)) U<|rS (MX U)<|rP 4 [0,1] (mc 5 U (mc 0 U I)) ?_
  refine rS (MN U)<|rS (SX (bj (xs:=[(0,.tmp 52),(1,.tmp 57)]) (cs:=(aa.cells (aa.mk (max ((kH c at_ i).Lo) (x.eC.Lo-(o5 (c.dj*(max (at_-x.At) (x.At-at_))) 1000000))) (min ((kH c at_ i).Hi) (x.eC.Hi+(o5 (c.dj*(max (at_-x.At) (x.At-at_))) 1000000)))))) U U (bh gl U)) U U)<|HZ U cu U<|aH<|aD<|KK B ?_
  have M:(aa.cells (aa.mk (max ((kH c at_ i).Lo) (x.eC.Lo-(o5 (c.dj*(max (at_-x.At) (x.At-at_))) 1000000))) (min ((kH c at_ i).Hi) (x.eC.Hi+(o5 (c.dj*(max (at_-x.At) (x.At-at_))) 1000000)))))=(aa.cells (kH c at_ (i+1))):=by exact congrArg aa.cells (Be hx om).symm
  rw [M]
  refine an<|rP 3 [] I ?_
  refine aH ?_
  have N:(vI (((i+1):Nat):Int))=(vI ((i:Int)+1)):=by exact cI om
  refine aT (D ⟨(i+1),(by first|omega|(simp only []; omega))⟩ _ _ _ U os (cN 4<|bk U N<|dx.nil _) (aK [2,3,4,5]))
 refine an<|fE 1 [] (mc 0 U I) U<|HZ U cu U<|RK C<|an<|fE 4 [0,1] (mc 5 U (mc 0 U I)) U<|rS (MX U)<|rP 4 [0,1] (mc 5 U (mc 0 U I)) ?_
 refine rS (MN U)<|rS (SX (bj (xs:=[(0,.tmp 52),(1,.tmp 57)]) (cs:=(aa.cells (aa.mk (max (x.eC.Lo-(o5 (c.dj*(max (at_-x.At) (x.At-at_))) 1000000)) (x.eC.Lo-(o5 (c.dj*(max (at_-x.At) (x.At-at_))) 1000000))) (min (x.eC.Hi+(o5 (c.dj*(max (at_-x.At) (x.At-at_))) 1000000)) (x.eC.Hi+(o5 (c.dj*(max (at_-x.At) (x.At-at_))) 1000000)))))) U U (bh gl U)) U U)<|HZ U cu U<|aH<|aD<|KK B ?_
 have K:(aa.cells (aa.mk (max (x.eC.Lo-(o5 (c.dj*(max (at_-x.At) (x.At-at_))) 1000000)) (x.eC.Lo-(o5 (c.dj*(max (at_-x.At) (x.At-at_))) 1000000))) (min (x.eC.Hi+(o5 (c.dj*(max (at_-x.At) (x.At-at_))) 1000000)) (x.eC.Hi+(o5 (c.dj*(max (at_-x.At) (x.At-at_))) 1000000)))))=(aa.cells (kH c at_ (i+1))):=by exact congrArg aa.cells (Ao hc ha hx om).symm
 rw [K]
 refine an<|rP 3 [] I ?_
 refine aH ?_
 have L:(vI (((i+1):Nat):Int))=(vI ((i:Int)+1)):=by exact cI om
 refine aT (D ⟨(i+1),(by first|omega|(simp only []; omega))⟩ _ _ _ U os (cN 4<|bk U L<|dx.nil _) (aK [2,3,4,5]))
theorem KQ (l:bf) (kA:OA) (kC:Nat) (az:List RA) (cA:OA) (cC:Nat) (bA:OA) (bC:Nat) (n:Int) (hin:eE l az) (htr:cV l.aJ=true) (hbk: ∀ b∈l.ag,jV l b) (hn:0≤n∧n<(l.ag.length:Int)):
 ej Tryz.prog 135 [(vA (bK.cells (lp l kA kC cA cC bA bC))),(vI n)] [(rd kA l.aJ.length 9 (l.aJ.map ao.cells)),(rd cA l.ai.length 2 (List.zipWith au.cells l.ai az)),(e7 (aU au.gY l.ai az)),(rd bA l.ag.length 4 (l.ag.map bE.cells))] (vI (lV l n.toNat)):=by
 have AA:=hin.sE
 have S:=hin.sD
 have P:=hin.og
 have R:=hin.sB
 have T:=hin.side
 refine bI kr Tryz.func135 U U fun X Q hQ hN=>?_
 try dsimp only
 refine WS fun _ G=>fV U fun V=>bg 1 U<|RK G<|al fun _ H=>WS fun _ AB=>rP 2 [] I ?_
 refine RK AB<|cM U (aS fun F=>?_) (aR fun F=>?_)
 ·refine al fun _ J=>dR cD [11,12] [] [] [0,1,2,3,4] [] U U U U U<|eS U (FA 0 U fD U)<|eS U (LP (aZ.cells (aZ.mk (aM.mk kA l.aJ.length kC))) 0 U cq U U U)<|eS U (FA 3 U fD U)<|eS U (L1 (vS bA l.ag.length bC) 0 U cq U U) ?_
  obtain ⟨y,hy⟩:=aO l.ag 0 om
  have A:=bP bE.cells hy
  refine eS U (IA 0 U (aG 4 U) vt dc U om)<|eS U (nK (0*4) U (aG 4 U) (Nat.mul_pos om dc) fD U)<|eS U (oB 0 0 (cJ.cells y.mF) U cq (aG 4 U) A U dc U U)<|eS U (CL (QU l.aJ kA kC y.mF asm asm) (bp [1]) U)<|eS U (MV U)<|eS U (EX U)<|eS U (EX U)<|eS U (AG U)<|e8 U<|cp U fun T6 L=>AL U dg fun W=>aH (L _ _ (aK [1,2,3,4,5]) ?_)
  refine cp U fun T8 M=>fR U cu U<|aH (M _ _ (aK [1,2,3,4,5]) ?_)
  refine fM U<|KK J<|WS fun _ K=>rP 3 [] (mc 0 U I) ?_
  refine RK K<|ar<|Q1 hQ U U U ?_
  (refine congrArg (Value.int .i64) ?_; rw [show n.toNat=0 by omega]; rw [zl hy,(wU htr (hbk _ (List.mem_of_getElem? hy)).1).2])
 refine WK H<|al fun _ B=>dR cD [19,20] [] [] [0,1,2,3,4] [] U U U U U<|eS U (FA 0 U fD U)<|eS U (LP (aZ.cells (aZ.mk (aM.mk kA l.aJ.length kC))) 0 U cq U U U)<|eS U (FA 3 U fD U)<|eS U (L1 (vS bA l.ag.length bC) 0 U cq U U)<|eS U (MV U)<|eS U (BI U (rJ ⟨om,om⟩)) ?_
 obtain ⟨y,hy⟩:=aO l.ag (((n-1)).toNat) om
 have A:=bP bE.cells hy
 refine eS U (IA (((n-1)).toNat) U (aG 4 U) vt dc om om)<|eS U (nK ((((n-1)).toNat)*4) U (aG 4 U) (Nat.mul_pos om dc) fD U)<|eS U (oB (((n-1)).toNat) 0 (cJ.cells y.mF) U cq (aG 4 U) A U dc U U)<|eS U (FA 3 U fD U)<|eS U (L1 (vS bA l.ag.length bC) 0 U cq U U)<|eS U (MV U) ?_
 obtain ⟨x,hx⟩:=aO l.ag ((n).toNat) om
 have N:=bP bE.cells hx
 refine eS U (IA ((n).toNat) U (aG 4 U) vt dc om om)<|eS U (nK (((n).toNat)*4) U (aG 4 U) (Nat.mul_pos om dc) fD U)<|eS U (oB ((n).toNat) 0 (cJ.cells x.mF) U cq (aG 4 U) N U dc U U)<|eS U (CL (LU l.aJ kA kC y.mF x.mF asm asm) (bp [1]) U)<|eS U (MV U)<|eS U (EX U)<|eS U (EX U)<|eS U (AG U)<|e8 U<|cp U fun T11 D=>AL U dg fun O=>aH (D _ _ (aK [1,2,3,4,5]) ?_)
 refine cp U fun T13 E=>fR U cu U<|aH (E _ _ (aK [1,2,3,4,5]) ?_)
 refine fM U<|KK B<|WS fun _ C=>rP 3 [] (mc 0 U I) ?_
 refine RK C<|ar<|Q1 hQ U U U ?_
 (refine congrArg (Value.int .i64) ?_; rw [CI om hx (by rw [show n.toNat-1=(n-1).toNat by omega]; exact hy),(k8 htr ⟨(hbk _ (List.mem_of_getElem? hy)).1,(hbk _ (List.mem_of_getElem? hx)).1⟩).2])
theorem I1 (l:bf) (kA:OA) (kC:Nat) (az:List RA) (cA:OA) (cC:Nat) (bA:OA) (bC:Nat) (n:Int) (hin:eE l az) (htr:cV l.aJ=true) (hok:lf l) (hn:0≤n∧n<(l.ag.length:Int)):
 ej Tryz.prog 168 [(vA (bK.cells (lp l kA kC cA cC bA bC))),(vI n)] [(rd kA l.aJ.length 9 (l.aJ.map ao.cells)),(rd cA l.ai.length 2 (List.zipWith au.cells l.ai az)),(e7 (aU au.gY l.ai az)),(rd bA l.ag.length 4 (l.ag.map bE.cells))] (vI (eh l n.toNat)):=by
 have G:=hin.sE
 have F:=hin.sD
 have D:=hin.og
 have E:=hin.sB
 have C:=hok.head
 unfold gk at C
 have H:=F4 htr hok.vw n.toNat
 have AA:=hok.QM n.toNat om
 refine bI kr Tryz.func168 U U fun K Q hQ hN=>?_
 try dsimp only
 refine WS fun _ A=>fV U fun J=>bg 1 U<|RK A<|al fun _ B=>dF cD 12 kr<|mI 2 [] (mc 0 U I) U<|dS (CL (KQ l kA kC az cA cC bA bC n hin htr (by exact hok.vw) hn) (bp [1,2,3,4]) U)<|dS (BI U (F1 ⟨om,om⟩))<|mI 6 [] (mc 0 U I) U<|dS (BI U (tm om om om))<|dP 1 [] I ?_
 refine cO<|RK B<|ar<|Q1 hQ U U U ?_
 exact cI (by unfold eh o5; rw [Int.mul_comm])
theorem Ms (l:bf) (kA:OA) (kC:Nat) (az:List RA) (cA:OA) (cC:Nat) (bA:OA) (bC:Nat) (hin:eE l az) (htr:cV l.aJ=true):
 ej Tryz.prog 105 [(vA (bK.cells (lp l kA kC cA cC bA bC)))] [(rd kA l.aJ.length 9 (l.aJ.map ao.cells)),(rd cA l.ai.length 2 (List.zipWith au.cells l.ai az)),(e7 (aU au.gY l.ai az)),(rd bA l.ag.length 4 (l.ag.map bE.cells))] (vB (decide (lf l))):=by
 have Ae:=hin.sE
 have Aa:=hin.sD
 have AX:=hin.og
 have AZ:=hin.sB
 have Ab:=hin.side
 have Ac:=jP htr
 have AW:=kJ htr
 refine bI kr Tryz.func105 U U fun w0 Q hQ hN=>?_
 try dsimp only
 refine WS fun _ AM=>fV U fun b2=>bg 1 U<|RK AM<|al fun _ AN=>WS fun _ D=>fE 2 [] (mc 0 U I) U<|rS (CL (iA l.dM 1 5000) (aL) U)<|rP 2 [] I ?_
 refine db (t:=10) U (bx fun AC=>?_) (bw fun AC=>?_)
 ·refine bg 35 U<|RK D<|aP U<|WS fun _ AO=>rP 1 [] I ?_
  refine RK AO<|ar<|Q1 hQ U U U ?_
  exact cB (cr fun h=>by have q:=h.head; unfold gk at q; omega).symm
 refine fE 3 [] (mc 0 U I) U<|rS (CL (iA (l.ai.length:Int) 1 4) (aL) U)<|rP 3 [] I ?_
 refine db (t:=17) U (bx fun AD=>?_) (bw fun AD=>?_)
 ·refine bg 28 U<|RK D<|aP U<|WS fun _ AP=>rP 1 [] I ?_
  refine RK AP<|ar<|Q1 hQ U U U ?_
  exact cB (cr fun h=>by have q:=h.head; unfold gk at q; omega).symm
 refine fE 3 [] (mc 0 U I) U<|rS (CL (iA (l.ag.length:Int) 1 6) (aL) U)<|rP 3 [] I ?_
 refine db (t:=24) U (bx fun AE=>?_) (bw fun AE=>?_)
 ·refine bg 21 U<|RK D<|aP U<|WS fun _ AQ=>rP 1 [] I ?_
  refine RK AQ<|ar<|Q1 hQ U U U ?_
  exact cB (cr fun h=>by have q:=h.head; unfold gk at q; omega).symm
 refine fE 6 [] (mc 0 U I) U<|rS (CL (iA l.bH 0 ((l.ag.length:Int)-1)) (aL) U)<|rP 3 [] I ?_
 refine db (t:=34) U (bx fun AF=>?_) (bw fun AF=>?_)
 ·refine bg 11 U<|RK D<|aP U<|WS fun _ AR=>rP 1 [] I ?_
  refine RK AR<|ar<|Q1 hQ U U U ?_
  exact cB (cr fun h=>by have q:=h.head; unfold gk at q; omega).symm
 refine fE 2 [] (mc 0 U I) U<|rS (CL (iA l.cv 0 3) (aL) U)<|rP 3 [] I ?_
 refine db (t:=40) U (bx fun AG=>?_) (bw fun AG=>?_)
 ·refine bg 5 U<|RK D<|aP U<|WS fun _ AS=>rP 1 [] I ?_
  refine RK AS<|ar<|Q1 hQ U U U ?_
  exact cB (cr fun h=>by have q:=h.head; unfold gk at q; omega).symm
 refine fE 2 [] (mc 0 U I) U<|rS (CL (iA l.bL 0 3) (aL) U)<|rP 2 [] I ?_
 refine RK D<|cM U (bx fun AH=>?_) (bw fun AH=>?_)
 ·refine WS fun _ N=>rP 1 [] I ?_
  refine RK N<|ar<|Q1 hQ U U U ?_
  exact cB (cr fun h=>by have q:=h.head; unfold gk at q; omega).symm
 refine WK AN<|al fun _ O=>WS fun _ R=>rP 1 [] I ?_
 refine RK R<|aw ?_
 have A:(0≤l.ai.length)∧(∀ (j:Nat) y,j<0→l.ai[j]? =some y→eY y):=by exact ⟨Nat.zero_le _,fun j y hj=>absurd hj (Nat.not_lt_zero _)⟩
 refine bO (ι:={z:Nat // (z≤l.ai.length)∧(∀ (j:Nat) y,j<z→l.ai[j]? =some y→eY y)}) [1] [0,1,2,3,4] U U (fun z=>[(3,(vI (z.1:Int)))]) (fun z=>[]) (fun _=>rfl) (fun _=>rfl) (fun z=>l.ai.length-z.1) ⟨0,A⟩ (aQ U) (aK [0,1,2,3,4]) ?_
 clear A
 rintro ⟨i,⟨AT,F⟩⟩ J13 K
 try dsimp only
 refine al fun _ S=>WS fun _ T=>rP 5 [] (mc 0 U I) ?_
 refine RK T<|cM U (aS fun AI=>?_) (aR fun AI=>?_)
 ·refine WK S<|al fun _ Af=>aw<|WS fun _ V=>rP 3 [] (mc 0 U I) ?_
  obtain ⟨x,hx⟩:=aO l.ai i om
  obtain ⟨xa,J⟩:=aO az i om
  have AV:(List.zipWith au.cells l.ai az)[i]? =some (au.cells x xa):=dZ hx J
  refine rS (IA i U (aG 2 U) zV dc om om)<|rS (oB i 0 (dv.cells (dv.mk x.dj (aM.mk xa.1 x.bu.length xa.2))) U cq (aG 2 U) AV U dc U U) ?_
  have Ad:=(hin.QL _ _ _ hx J).2
  refine rS (CL (IF x xa.1 xa.2 asm) (ay (show jc _ (rd xa.1 x.bu.length 3 (x.bu.map cG.cells)).holds from (dy 3 U (cj hx J (by simp [au.gY]))))<|aL) U)<|rP 1 [] I ?_
  refine RK V<|bR U (bw fun Ag=>?_) (bx fun Ag=>?_)
  ·refine bY<|aD<|KK Af<|an<|rP 3 [] I ?_
   refine aH ?_
   have u:(vI (((i+1):Nat):Int))=(vI ((i:Int)+1)):=by exact cI om
   refine aT (K ⟨(i+1),⟨om,lE (P:=fun _ y=>eY y) F hx Ag⟩⟩ _ _ _ U os (dx.cons U<|bk U u<|dx.nil _) (aK [0,1,2,3,4]))
  refine WS fun _ W=>rP 1 [] I ?_
  refine RK W<|ar<|Q1 hQ U U U ?_
  exact cB (cr fun h=>Ag (h.clock _ (aX hx))).symm
 refine bB<|ae<|ae<|ax<|KK O<|al fun _ X=>WS fun _ Y=>rP 1 [] I ?_
 refine RK Y<|aw ?_
 have A:(0≤l.ag.length)∧(∀ (j:Nat) y,j<0→l.ag[j]? =some y→jV l y):=by exact ⟨Nat.zero_le _,fun j y hj=>absurd hj (Nat.not_lt_zero _)⟩
 refine bO (ι:={z:Nat // (z≤l.ag.length)∧(∀ (j:Nat) y,j<z→l.ag[j]? =some y→jV l y)}) [1] [0,1,2,3,4] U U (fun z=>[(4,(vI (z.1:Int)))]) (fun z=>[]) (fun _=>rfl) (fun _=>rfl) (fun z=>l.ag.length-z.1) ⟨0,A⟩ (aQ U) (aK [0,1,2,3,4]) ?_
 clear A
 rintro ⟨m,⟨AU,B⟩⟩ J22 L
 try dsimp only
 refine al fun _ Z=>WS fun _ a=>rP 5 [] (mc 0 U I) ?_
 refine RK a<|bR U (aR fun AJ=>?_) (aS fun AJ=>?_)
 ·refine bB<|ae<|ae<|ax<|KK X<|al fun _ e=>WS fun _ f=>rP 1 [] I ?_
  refine RK f<|aw ?_
  have A:(0≤l.ag.length)∧(∀ j,j<0→1≤lV l j):=by exact ⟨Nat.zero_le _,fun j hj=>absurd hj (Nat.not_lt_zero _)⟩
  refine bO (ι:={z:Nat // (z≤l.ag.length)∧(∀ j,j<z→1≤lV l j)}) [1] [0,1,2,3,4] U U (fun z=>[(5,(vI (z.1:Int)))]) (fun z=>[]) (fun _=>rfl) (fun _=>rfl) (fun z=>l.ag.length-z.1) ⟨0,A⟩ (aQ U) (aK [0,1,2,3,4]) ?_
  clear A
  rintro ⟨n,⟨AB,C⟩⟩ J32 M
  try dsimp only
  have AY:=xV (P:=jV l) om B
  refine al fun _ g=>WS fun _ k=>rP 5 [] (mc 0 U I) ?_
  refine RK k<|bR U (aR fun AL=>?_) (aS fun AL=>?_)
  ·refine bB<|ae<|ae<|ax<|KK e<|WS fun _ s=>rP 1 [] I ?_
   refine RK s<|ar<|Q1 hQ U U U ?_
   exact cB (fO (yX (by unfold gk; omega) (xV om F) (xV om B) (fun j hj=>C j om))).symm
  refine WK g<|al fun _ o=>aw<|WS fun _ p=>fE 2 [] (mc 0 U I) U<|rS (CL (KQ l kA kC az cA cC bA bC (n:Int) hin htr asm om) (bp [1,2,3,4]) U)<|rP 1 [] I ?_
  refine RK p<|bR U (aR fun E=>?_) (aS fun E=>?_)
  ·refine bY<|aD<|KK o<|an<|rP 3 [] I ?_
   refine aH ?_
   have w:(vI (((n+1):Nat):Int))=(vI ((n:Int)+1)):=by exact cI om
   refine aT (M ⟨(n+1),⟨om,fun j hj=>by rcases Nat.lt_or_ge j n with q|q; exact C j q; (obtain rfl:j=n:=by omega); simp only [Int.toNat_natCast] at E; omega⟩⟩ _ _ _ rfl os (dx.cons rfl<|bk rfl w<|dx.nil _) (aK [0,1,2,3,4]))
  refine WS fun _ r=>rP 1 [] I ?_
  refine RK r<|ar<|Q1 hQ U U U ?_
  exact cB (cr fun h=>by have q:=h.QM n om; simp only [Int.toNat_natCast] at E; omega).symm
 refine WK Z<|al fun _ b=>aw<|al fun _ H=>dF cD 24 kr<|lz 1 U<|dS (LP (aZ.cells (aZ.mk (aM.mk kA l.aJ.length kC))) 0 U cq U U U)<|dP 3 [] (mc 0 U I) ?_
 obtain ⟨y,hy⟩:=aO l.ag m om
 have AA:=bP bE.cells hy
 refine dS (IA m U (aG 4 U) vt dc om om)<|dS (nK (m*4) U (aG 4 U) (Nat.mul_pos om dc) fD U)<|dS (oB m 0 (cJ.cells y.mF) U cq (aG 4 U) AA U dc U U)<|dS (CL (qL l.aJ kA kC y.mF asm asm) (bp [1]) U)<|dP 2 [] I ?_
 refine iS (t:=77) U (bx fun G=>?_) (bw fun G=>?_)
 ·refine lz 13 U<|cO<|RK H<|aP U<|WS fun _ c=>rP 1 [] I ?_
  refine RK c<|ar<|Q1 hQ U U U ?_
  exact cB (cr fun h=>by have q:=h.vw _ (aX hy); have q2:=q.2; first|exact G q.1|omega).symm
 refine mI 3 [] (mc 0 U I) U<|dS (IA m U (aG 4 U) vt dc om om)<|dS (nK ((m*4)+3) U (aG 4 U) (Nat.mul_pos om dc) fD U)<|dS (gF m 3 (vI y.jM) U cq (aG 4 U) AA U dc U)<|mI 4 [] (mc 0 U I) U<|dS (CL (iA y.jM 0 ((l.ai.length:Int)-1)) (aL) U)<|dP 2 [] I ?_
 refine cO<|RK H<|bR U (bw fun AK=>?_) (bx fun AK=>?_)
 ·refine bY<|aD<|KK b<|an<|rP 3 [] I ?_
  refine aH ?_
  have v:(vI (((m+1):Nat):Int))=(vI ((m:Int)+1)):=by exact cI om
  refine aT (L ⟨(m+1),⟨om,lE (P:=fun _ y=>jV l y) B hy ⟨G,om,om⟩⟩⟩ _ _ _ U os (dx.cons U<|bk U v<|dx.nil _) (aK [0,1,2,3,4]))
 refine WS fun _ d=>rP 1 [] I ?_
 refine RK d<|ar<|Q1 hQ U U U ?_
 exact cB (cr fun h=>by have q:=h.vw _ (aX hy); have q2:=q.2; first|exact G q.1|omega).symm
end
section
open Go.RowKit
theorem Bo (r:cf) (kA:OA) (kC:Nat) (az:List RA) (cA:OA) (cC:Nat) (bA:OA) (bC:Nat) (slA:OA) (slC:Nat) (drA:OA) (drC:Nat) (ha:List cQ) (heA:OA) (heC:Nat) (hraw:qJ r az ha):
 ej Tryz.prog 29 [(vA (bq.cells (ot r kA kC cA cC bA bC slA slC drA drC heA heC)))] [(rd kA r.ah.aJ.length 9 (r.ah.aJ.map ao.cells)),(rd cA r.ah.ai.length 2 (List.zipWith au.cells r.ah.ai az)),(e7 (aU au.gY r.ah.ai az)),(rd bA r.ah.ag.length 4 (r.ah.ag.map bE.cells)),(rd slA r.aI.length 1 (r.aI.map iC)),(rd drA r.bD.length 1 (r.bD.map iC)),(rd heA r.aq.length 1 (List.zipWith cz r.aq ha)),(e7 (aU hU r.aq ha))] (vB (decide (oy r))):=by
 have AA:=hraw.line
 have AE:=hraw.iM
 have AG:=hraw.has
 have AD:=hraw.iN
 have AB:=hraw.draw
 refine bI kr Tryz.func29 U U fun w0 Q hQ hN=>?_
 try dsimp only
 refine WS fun _ l=>fV U fun b2=>bg 1 U<|RK l<|al fun _ m=>WS fun _ H=>bg 1 U<|rS (LP (bK.cells (lp r.ah kA kC cA cC bA bC)) 0 U cq U U U)<|rS (CL (LL r.ah kA kC az cA cC bA bC asm) (bp [1,2,3,4]) U)<|rP 1 [] I ?_
 refine db (t:=8) U (aS fun k=>?_) (aR fun k=>?_)
 ·refine bg 17 U<|RK H<|aP U<|WS fun _ n=>rP 1 [] I ?_
  refine RK n<|ar<|Q1 hQ U U U ?_
  exact cB (fO (pw (.inl k))).symm
 refine rP 6 [] (mc 0 U I) ?_
 refine db (t:=14) U (aS fun AJ=>?_) (aR fun AJ=>?_)
 ·refine bg 11 U<|RK H<|aP U<|WS fun _ o=>rP 1 [] I ?_
  refine RK o<|ar<|Q1 hQ U U U ?_
  exact cB (fO (pw (.inr om))).symm
 refine rP 6 [] (mc 0 U I) ?_
 refine db (t:=20) U (aS fun f=>?_) (aR fun f=>?_)
 ·refine bg 5 U<|RK H<|aP U<|WS fun _ p=>rP 1 [] I ?_
  refine RK p<|ar<|Q1 hQ U U U ?_
  exact cB (fO (pw (.inr om))).symm
 refine rP 5 [] (mc 0 U I) ?_
 refine RK H<|cM U (aS fun h=>?_) (aR fun h=>?_)
 ·refine WS fun _ q=>rP 1 [] I ?_
  refine RK q<|ar<|Q1 hQ U U U ?_
  exact cB (fO (pw (.inr om))).symm
 refine WK m<|al fun _ s=>WS fun _ N=>rP 1 [] I ?_
 refine RK N<|aw ?_
 have B:(0≤r.aq.length)∧(lQ r 0):=by exact ⟨Nat.zero_le _,Bx⟩
 refine bO (ι:={z:Nat // (z≤r.aq.length)∧(lQ r z)}) [1] [0,1,2,3,4,5,6,7,8] U U (fun z=>[(3,(vI (z.1:Int)))]) (fun z=>[]) (fun _=>rfl) (fun _=>rfl) (fun z=>r.aq.length-z.1) ⟨0,B⟩ (aQ U) (aK [0,1,2,3,4,5,6,7,8]) ?_
 clear B
 rintro ⟨i,⟨x,F⟩⟩ J11 L
 try dsimp only
 refine al fun _ O=>WS fun _ P=>rP 5 [] (mc 0 U I) ?_
 refine RK P<|bR U (aR fun AJ=>?_) (aS fun AJ=>?_)
 ·refine bB<|ae<|ae<|ax<|KK s<|WS fun _ b=>rP 1 [] I ?_
  refine RK b<|ar<|Q1 hQ U U U ?_
  exact cB (cr (GB k om F om)).symm
 refine WK O<|al fun _ R=>aw<|al fun _ S=>WS fun _ T=>rP 3 [] (mc 0 U I) ?_
 obtain ⟨ht,D⟩:=aO r.aq i om
 obtain ⟨A,C⟩:=aO ha i om
 have E:(List.zipWith cz r.aq ha)[i]? =some (cz ht A):=dZ D C
 refine rS (IA i U (aG 7 U) rm dc om om)<|rS (gF i 0 (vS A.1.1 ht.length A.1.2) U cq (aG 7 U) E U dc U) ?_
 obtain ⟨AF,AC,w⟩:=hraw.oI _ _ _ D C
 refine rP 2 [] I ?_
 refine RK T<|cM U (aS fun J=>?_) (aR fun J=>?_)
 ·refine WS fun _ AI=>rP 1 [] I ?_
  refine RK AI<|ar<|Q1 hQ U U U ?_
  exact cB (fO (CQ D J)).symm
 refine WK S<|WS fun _ V=>rP 1 [] I ?_
 refine RK V<|aw ?_
 have B:(0≤ht.length)∧(mX ht 0):=by exact ⟨Nat.zero_le _,Cb⟩
 refine bO (ι:={z:Nat // (z≤ht.length)∧(mX ht z)}) [1,3] [0,1,2,3,4,5,6,7,8] U U (fun z=>[(4,(vI (z.1:Int)))]) (fun z=>[]) (fun _=>rfl) (fun _=>rfl) (fun z=>ht.length-z.1) ⟨0,B⟩ (aQ U) (aK [0,1,2,3,4,5,6,7,8]) ?_
 clear B
 rintro ⟨j,⟨y,G⟩⟩ J20 M
 try dsimp only
 refine al fun _ W=>WS fun _ X=>fE 4 [] (mc 0 U I) U<|rS (IA i U (aG 7 U) rm dc om om)<|rS (gF i 0 (vS A.1.1 ht.length A.1.2) U cq (aG 7 U) E U dc U)<|rP 2 [] I ?_
 refine RK X<|bR U (aR fun g=>?_) (aS fun g=>?_)
 ·refine bB<|ae<|ae<|ax<|aD<|KK R<|an<|rP 3 [] I ?_
  refine aH ?_
  have e:(vI (((i+1):Nat):Int))=(vI ((i:Int)+1)):=by exact cI om
  refine aT (L ⟨(i+1),⟨om,BX F D (Dv J G om)⟩⟩ _ _ _ U os (dx.cons U<|bk U e<|dx.nil _) (aK [0,1,2,3,4,5,6,7,8]))
 refine WK W<|al fun _ Y=>aw<|WS fun _ Z=>fE 3 [] (mc 0 U I) U<|rS (IA i U (aG 7 U) rm dc om om)<|rS (gF i 0 (vS A.1.1 ht.length A.1.2) U cq (aG 7 U) E U dc U)<|rP 1 [] I ?_
 obtain ⟨d,hd⟩:=aO ht j om
 obtain ⟨da,u⟩:=aO A.2 j om
 have v:(List.zipWith aA.cells ht A.2)[j]? =some (aA.cells d da):=dZ hd u
 refine rS (IA j U (show jc _ (rd A.1.1 ht.length 7 (List.zipWith aA.cells ht A.2)).holds from (dy 8 U (cj D C cm))) wT dc om om)<|rS (nK ((j*7)+4) U (show jc _ (rd A.1.1 ht.length 7 (List.zipWith aA.cells ht A.2)).holds from (dy 8 U (cj D C cm))) (Nat.mul_pos om dc) fD U)<|rS (nK (((j*7)+4)+2) U (show jc _ (rd A.1.1 ht.length 7 (List.zipWith aA.cells ht A.2)).holds from (dy 8 U (cj D C cm))) (Nat.mul_pos om dc) fD U)<|rS (gF j 6 (vS da.1 d.cx.aj.length da.2) U cq (show jc _ (rd A.1.1 ht.length 7 (List.zipWith aA.cells ht A.2)).holds from (dy 8 U (cj D C cm))) v U dc U) ?_
 have AH:=w d (aX hd)
 refine rP 2 [] I ?_
 refine RK Z<|bR U (aR fun K=>?_) (aS fun K=>?_)
 ·refine bY<|aD<|KK Y<|an<|rP 3 [] I ?_
  refine aH ?_
  have c:(vI (((j+1):Nat):Int))=(vI ((j:Int)+1)):=by exact cI om
  refine aT (M ⟨(j+1),⟨om,B1 G hd K⟩⟩ _ _ _ U os (dx.cons U<|dx.cons U<|bk U c<|dx.nil _) (aK [0,1,2,3,4,5,6,7,8]))
 refine WS fun _ a=>rP 1 [] I ?_
 refine RK a<|ar<|Q1 hQ U U U ?_
 exact cB (fO (ET D hd K)).symm
end
end Go.Proofs.YtdllkkdchkhimaaGreatDoor
