/-
 The statement raceReached_said, part 7 of 8: Rx1, Rx3, Rx5, Rx8, Rx9, Rx10, Rx11, Rx12, Rz1, Rz2, Rt2, Rx2, Rz3, Rz4, B7, B8, Rr2.
 Conditions: none.
-/
import Derived.Test.YtdllkkdchkhimaaGreatDoorTy1
import Derived.Test.YtdllkkdchkhimaaGreatDoorTy2
import Derived.Test.YtdllkkdchkhimaaGreatDoorTy3
import Derived.Test.YtdllkkdchkhimaaGreatDoorTy4
import Derived.Test.YtdllkkdchkhimaaGreatDoorTy5
import Derived.Test.YtdllkkdchkhimaaGreatDoorTy6
namespace Go.Proofs.YtdllkkdchkhimaaGreatDoor
set_option maxRecDepth 100000
set_option maxHeartbeats 4000000
set_option linter.unusedVariables false
section
open Go.RowKit
theorem vW (l:List Int) (lA:OA) (lC:Nat) (hlen:l.length≤1000000):
 lu Tryz.prog 61 [(vS lA l.length lC)] [(rd lA l.length 1 (l.map iC))] (fun (x:(OA)×Nat)=>(vS x.1 l.length x.2)) (fun (x:(OA)×Nat)=>True) (fun (x:(OA)×Nat)=>[(own x.1 x.2 3 1 (l.map iC))]):=by
 refine du kr Tryz.func61 U U fun L Q hQ hN=>?_
 try dsimp only
 refine WS fun _ D=>bg 1 U<|RK D<|al fun _ E=>WS fun _ F=>rP 1 [] I ?_
 refine rS (BI U (qn RE))<|RK F<|cM U (aT fun B=>?_) (aS fun B=>?_)
 ·refine WS fun _ G=>mq (aF 0 U) B dc fun C=>?_
  have A:l=[]:=by simpa using C
  refine dT 3 1 ?_
  rw [show (own none 0 3 1 ([]:List (List Value)))=own none 0 3 1 (l.map iC) from by rw [A]; rfl]
  refine rP 1 [] I ?_
  refine RK G<|ar ?_
  refine LX hQ (none,0) [0] [] I U U U ?_ ?_
  ·first|rfl|(rw [A]; rfl)
  ·trivial
 refine WK E<|WS fun _ H=>sS U cy U fun J=>rP 1 [] I ?_
 refine dU (es:=(List.map iC [])) (C':=[own (some ⟨J,0,none⟩) 0 3 1 (List.map iC []),_]) 0 U sm U (by simp [maxLen]) U ?_
 refine c_ (es2:=(List.map iC l)) (m':=l.length) 0 U U U ph U U sm (aF 1 U) (j2 _) os (by first|(simp only [maxLen]; omega)|(simp [maxLen]; omega)) sm sm U fun AA K=>?_
 try dsimp only
 refine rP 1 [] I ?_
 refine RK H<|ar ?_
 refine LX hQ (AA,K) [0] [] I U U U ?_ ?_
 ·first|rfl|(rw [A]; rfl)
 ·trivial
theorem Cu (l:List Int) (lA:OA) (lC:Nat) (f:Value) (key:Int→Int) (X:av) (hf: ∀ x0 x1,x0∈l∧x1∈l→DW Tryz.prog f [.int .i64 x0,.int .i64 x1] [X] (.int .i64 (key x0-key x1))) (hkb: ∀ x∈l,0≤key x∧key x≤30000000) (hlen:l.length≤1000000):
 Dd Tryz.prog 122 [(vS lA l.length lC),(vI 0),(vI (l.length:Int)),f] [X] (own lA lC 3 1 (l.map iC)) (fun (x:Unit)=>(vT [])) (fun (x:Unit)=>True) (fun (x:Unit)=>(own lA lC 3 1 ((eD key l).map iC))):=by
 refine mF kr Tryz.func122 U U fun s Q hQ hN=>?_
 try dsimp only
 refine WS fun _ Z=>bg 1 U<|rS (SX (b_ (r:= .int .i64 1) U U U (ia ⟨dc,dc⟩)) U U)<|rP 1 [] I ?_
 refine RK Z<|aw ?_
 have C:(1≤1∧(1≤l.length∨1=1))∧(l.length=l.length)∧(1=1∧l=[]∨tJ key l 1 l)∧(∀ x∈l,x∈l):=by exact ⟨om,rfl,Hz,fun x h=>h⟩
 refine bO (ι:={z:Nat×(List Int) // (1≤z.1∧(z.1≤l.length∨z.1=1))∧(z.2.length=l.length)∧(z.1=1∧l=[]∨tJ key l z.1 z.2)∧(∀ x∈z.2,x∈l)}) [0,1,2,3] [1] U U (fun z=>[(8,(vI (z.1.1:Int)))]) (fun z=>[(own lA lC 3 1 (z.1.2.map iC))]) (fun _=>rfl) (fun _=>rfl) (fun z=>l.length-z.1.1) ⟨(1,l),C⟩ (aQ U) (aK [1,0]) ?_
 clear C
 rintro ⟨⟨i,m⟩,⟨AB,E,F,G⟩⟩ J2 L
 try dsimp only at AB E F G
 try dsimp only
 refine al fun _ b=>WS fun _ c=>rP 3 [] I ?_
 refine RK c<|bR U (aS fun p=>?_) (aT fun p=>?_)
 ·refine bB<|ae<|ae<|ax ?_
  rw [show m=eD key l from IT om E F]
  refine LM hN () 1 [] I U U U U ?_
  trivial
 refine WK b<|al fun _ N=>aw<|WS fun _ d=>rP 2 [] I ?_
 refine RK d<|aw ?_
 have C:(i≤i)∧(m.length=l.length)∧(∀ x∈m,x∈l)∧(B4 key l i i m):=by exact ⟨Nat.le_refl _,E,G,EM om (Ng om F)⟩
 refine bO (ι:={z:Nat×(List Int) // (z.1≤i)∧(z.2.length=l.length)∧(∀ x∈z.2,x∈l)∧(B4 key l i z.1 z.2)}) [0,1,2,3,8] [0] U U (fun z=>[(9,(vI (z.1.1:Int)))]) (fun z=>[(own lA lC 3 1 (z.1.2.map iC))]) (fun _=>rfl) (fun _=>rfl) (fun z=>z.1.1) ⟨(i,m),C⟩ (aQ U) (aK [0,1]) ?_
 clear C
 rintro ⟨⟨j,q⟩,⟨J,D,A,B⟩⟩ J8 Y
 try dsimp only at J D A B
 try dsimp only
 refine al fun _ e=>al fun _ H=>dG cD 17 kr<|dP 4 [] I ?_
 refine jo (t:=21) U (aS fun V=>?_) (aT fun V=>?_)
 ·refine lB 13 U<|cO<|RK H<|aV U<|bB<|ae<|ae<|ax<|aD<|KK N<|an<|rP 3 [] I ?_
  refine aH ?_
  refine aR (L ⟨((i+1),q),⟨om,D,.inr (by first|exact zk om B|exact zp om B hx hy om),A⟩⟩ _ _ _ U (by simp only []; omega) (aQ U) (aK [0,1]))
 refine dP 3 [] I ?_
 obtain ⟨x,hx⟩:=aN q j om
 have K:=bP iC hx
 refine dS (IA j U (ak (n:=l.length) 1 U sq) cy dc om om) ?_
 refine dS (gF j 0 (vI x) U cq (ak (n:=q.length) 1 U sm) K U dc U)<|dP 3 [] I ?_
 obtain ⟨y,hy⟩:=aN q (j-1) om
 have AA:=bP iC hy
 refine dS (IA (j-1) U (ak (n:=l.length) 1 U sq) cy dc om om) ?_
 refine dS (gF (j-1) 0 (vI y) U cq (ak (n:=q.length) 1 U sm) AA U dc U)<|dS (SX (sk U U U (hf x y ⟨A _ (aX hx),A _ (aX hy)⟩) (bp [0])) U U)<|dP 2 [] I ?_
 refine cO<|RK H<|bR U (aS fun W=>?_) (aT fun W=>?_)
 ·refine bB<|ae<|ae<|ax<|aD<|KK N<|an<|rP 3 [] I ?_
  refine aH ?_
  refine aR (L ⟨((i+1),q),⟨om,D,.inr (by first|exact zk om B|exact zp om B hx hy om),A⟩⟩ _ _ _ U (by simp only []; omega) (aQ U) (aK [0,1]))
 refine WK e<|al fun _ M=>aw<|dR cD [15,16,17] [8,9,12,13,14] [] [0] [0,1] U U U U U<|eS U (MV U)<|eS U (MV U)<|eS U (MV U)<|eS U (MV U)<|eS U (BI U (rz ⟨om,om⟩))<|eS U (MV U)<|eS U (MV U)<|eS U (BI U (rz ⟨om,om⟩)) ?_
 refine fS U (IA (j-1) U (ak (n:=l.length) 1 U sq) cy dc om om) ?_
 refine fS U (gF (j-1) 0 (vI y) U cq (ak (n:=q.length) 1 U sm) AA U dc U)<|eS U (MV U)<|eS U (MV U) ?_
 refine fS U (IA j U (ak (n:=l.length) 1 U sq) cy dc om om) ?_
 refine fS U (gF j 0 (vI x) U cq (ak (n:=q.length) 1 U sm) K U dc U) ?_
 refine fS U (IA j U (ak (n:=l.length) 1 U sq) cy dc om om) ?_
 refine e8 U<|cp U fun T14 O=>eH (k:=j) (o:=0) (vs:=[(vI y)]) (es':=(List.map iC (q.set j y))) (C':=[_,(own lA lC 3 1 (List.map iC (q.set j y)))]) 1 U U U Be U U U U K U dc (by exact (List.map_set (f:=iC) (l:=q) (i:=j) (a:=y)).symm) U<|aH (O _ _ (aK [0]) ?_)
 refine cp U fun T15 P=>?_
 obtain ⟨g,T⟩:=aN (q.set j y) (j-1) os
 have hx17m:(List.map iC (q.set j y))[(j-1)]? =some (iC g):=by rw [fB,T]; rfl
 refine rS (IA (j-1) U (ak (n:=l.length) 1 U sq) cy dc om om) ?_
 refine aH (P _ _ (aK [0]) ?_)
 refine cp U fun T18 R=>eH (k:=(j-1)) (o:=0) (vs:=[(vI x)]) (es':=(List.map iC ((q.set j y).set (j-1) x))) (C':=[_,(own lA lC 3 1 (List.map iC ((q.set j y).set (j-1) x)))]) 1 U U U Be U U U U hx17m U dc (by exact (List.map_set (f:=iC) (l:=(q.set j y)) (i:=(j-1)) (a:=x)).symm) U<|aH (R _ _ (aK [0]) ?_)
 refine fO U<|aD<|KK M<|an<|rP 3 [] I ?_
 refine aH ?_
 have S:(vI (((j-1):Nat):Int))=(vI ((j:Int)-1)):=by exact cI om
 refine aR (Y ⟨((j-1),((q.set j y).set (j-1) x)),⟨om,by simp; exact D,Ji hx hy A,HO om B hx hy om⟩⟩ _ _ _ U (by simp only []; omega) (cN 5<|bk U S<|dx.nil _) (aK [0,1]))
theorem Le (l:List Int) (lA:OA) (lC:Nat) (f:Value) (key:Int→Int) (X:av) (hf: ∀ x0 x1,x0∈l∧x1∈l→DW Tryz.prog f [.int .i64 x0,.int .i64 x1] [X] (.int .i64 (key x0-key x1))) (hkb: ∀ x∈l,0≤key x∧key x≤30000000) (hlen:l.length≤12):
 Dd Tryz.prog 84 [(vS lA l.length lC),(vI (l.length:Int)),f] [X] (own lA lC 3 1 (l.map iC)) (fun (x:Unit)=>(vT [])) (fun (x:Unit)=>True) (fun (x:Unit)=>(own lA lC 3 1 ((eD key l).map iC))):=by
 refine mF kr Tryz.func84 U U fun N Q hQ hN=>?_
 try dsimp only
 refine WS fun _ C=>bg 1 U<|RK C<|WS fun _ D=>bg 3 U<|RK D<|al fun _ E=>aw<|jR 1<|ew fun R4 M=>al fun _ L=>WS fun _ F=>rP 3 [] I ?_
 refine RK F<|cM U (aT fun K=>?_) (aS fun K=>?_)
 ·exfalso; omega
 refine bB<|ae<|ae<|ax<|KK E<|WS fun _ G=>rP 4 [] I ?_
 refine iQ 0 U U U U (Cu l lA lC f key X (by exact hf) hkb sd) U (eh 1 U U (dI (bT _)) ki) U (fun O J=>?_)
 try dsimp only
 refine RK G<|aw<|jR 1<|ew fun R11 AA=>al fun _ H=>WS fun _ A=>rP 3 [] I ?_
 refine RK A<|cM U (aT fun B=>?_) (aS fun B=>?_)
 ·exfalso; omega
 refine bB<|ae<|ae<|ax<|LM hN () 0 [] I U U U U ?_
 trivial
theorem z_ (l:List Int) (lA:OA) (lC:Nat) (f:Value) (key:Int→Int) (X:av) (hf: ∀ x0 x1,x0∈l∧x1∈l→DW Tryz.prog f [.int .i64 x0,.int .i64 x1] [X] (.int .i64 (key x0-key x1))) (hkb: ∀ x∈l,0≤key x∧key x≤30000000) (hlen:l.length≤12):
 Dd Tryz.prog 62 [(vS lA l.length lC),f] [X] (own lA lC 3 1 (l.map iC)) (fun (x:Unit)=>(vT [])) (fun (x:Unit)=>True) (fun (x:Unit)=>(own lA lC 3 1 ((eD key l).map iC))):=by
 refine mF kr Tryz.func62 U U fun B Q hQ hN=>?_
 try dsimp only
 refine an<|rP 4 [] I ?_
 refine iQ 0 U U U U (Le l lA lC f key X (by exact hf) hkb hlen) U (eh 1 U U (dI (bT _)) ki) U (fun C A=>?_)
 try dsimp only
 refine aH<|LM hN () 0 [] I U U U U ?_
 trivial
theorem yF (l:List Int) (lA:OA) (lC:Nat) (f:Value) (key:Int→Int) (X:av) (hf: ∀ x0 x1,x0∈l∧x1∈l→DW Tryz.prog f [.int .i64 x0,.int .i64 x1] [X] (.int .i64 (key x0-key x1))) (hkb: ∀ x∈l,0≤key x∧key x≤30000000) (hlen:l.length≤12):
 lu Tryz.prog 40 [(vS lA l.length lC),f] [(rd lA l.length 1 (l.map iC)),X] (fun (x:(OA)×Nat)=>(vS x.1 ((eD key l).length) x.2)) (fun (x:(OA)×Nat)=>True) (fun (x:(OA)×Nat)=>[(own x.1 x.2 3 1 ((eD key l).map iC))]):=by
 refine du kr Tryz.func40 U U fun J Q hQ hN=>?_
 try dsimp only
 refine WS fun _ B=>bg 1 U<|RK B<|WS fun _ C=>rP 1 [] I ?_
 refine cX (vW l lA lC sd) (bp [0]) U fun AA G=>?_
 obtain ⟨E,F⟩:=AA
 try dsimp only
 refine bg 1 U<|RK C<|WS fun _ D=>rP 2 [] I ?_
 refine iQ 0 U U U U (z_ l E F f key X (by exact hf) hkb hlen) U (eh 2 U U (dI (bT _)) ki) U (fun K H=>?_)
 try dsimp only
 refine RK D<|WS fun _ A=>rP 2 [] I ?_
 refine RK A<|ar ?_
 refine LX hQ (E,F) [0] [] I U U U ?_ ?_
 ·first|rfl|(rw [kx]; rfl)
 ·trivial
theorem Gn (l:List Int) (lA:OA) (lC k:Nat) (hk:k≤l.length) (hlen:l.length≤1000000):
 Dd Tryz.prog 70 [(vS lA k lC)] [] (own lA lC 3 1 (l.map iC)) (fun (x:Unit)=>(vT [])) (fun (x:Unit)=>True) (fun (x:Unit)=>(own lA lC 3 1 ((rF k l).map iC))):=by
 refine mF kr Tryz.func70 U U fun V Q hQ hN=>?_
 try dsimp only
 refine WS fun _ J=>rP 5 [] I ?_
 refine RK J<|aw ?_
 have B:(0≤k)∧(HS l k 0 l):=by exact ⟨Nat.zero_le _,L7⟩
 have P:(vI ((k:Int)-1-(0:Int)))=(vI ((k:Int)-1)):=by exact cI om
 refine bO (ι:={z:Nat×(List Int) // (z.1≤k)∧(HS l k z.1 z.2)}) [0] [] U U (fun z=>[(2,(vI (z.1.1:Int))),(3,(vI ((k:Int)-1-(z.1.1:Int))))]) (fun z=>[(own lA lC 3 1 (z.1.2.map iC))]) (fun _=>rfl) (fun _=>rfl) (fun z=>k-z.1.1) ⟨(0,l),B⟩ (dx.cons U<|bk U P<|dx.nil _) (aK [0]) ?_
 clear B
 rintro ⟨⟨i,m⟩,⟨C,A⟩⟩ J3 AB
 try dsimp only at C A
 try dsimp only
 have AA:=A.1
 refine al fun _ K=>WS fun _ L=>rP 3 [] I ?_
 refine RK L<|bR U (aS fun T=>?_) (aT fun T=>?_)
 ·refine bB<|ae<|ae<|ax ?_
  rw [show m=rF k l from MS hk om A]
  refine LM hN () 0 [] I U U U U ?_
  trivial
 refine WK K<|al fun _ M=>aw<|dR cD [13,14,15] [6,7,10,11,12] [] [] [0] U U U U U<|eS U (MV U)<|eS U (MV U)<|eS U (MV U)<|eS U (MV U)<|eS U (MV U)<|eS U (MV U) ?_
 obtain ⟨y,hy⟩:=aN m ((((k:Int)-1-(i:Int))).toNat) om
 have R:=bP iC hy
 refine fS U (Sn ((((k:Int)-1-(i:Int))).toNat) U (ak (n:=m.length) 0 U sm) cy dc om om om)<|fS U (gF ((((k:Int)-1-(i:Int))).toNat) 0 (vI y) U cq (ak (n:=m.length) 0 U sm) R U dc U)<|eS U (MV U)<|eS U (MV U) ?_
 obtain ⟨x,hx⟩:=aN m i om
 have H:=bP iC hx
 refine fS U (Sn i U (ak (n:=m.length) 0 U sm) cy dc om om om)<|fS U (gF i 0 (vI x) U cq (ak (n:=m.length) 0 U sm) H U dc U)<|fS U (Sn i U (ak (n:=m.length) 0 U sm) cy dc om om om)<|e8 U<|cp U fun T8 N=>eH (k:=i) (o:=0) (vs:=[(vI y)]) (es':=(List.map iC (m.set i y))) (C':=[(own lA lC 3 1 (List.map iC (m.set i y)))]) 0 U U U Be U U U U H U dc (by exact (List.map_set (f:=iC) (l:=m) (i:=i) (a:=y)).symm) U<|aH (N _ _ (aK []) ?_)
 refine cp U fun T9 O=>?_
 obtain ⟨S,G⟩:=aN (m.set i y) ((((k:Int)-1-(i:Int))).toNat) os
 have hx11m:(List.map iC (m.set i y))[(((k:Int)-1-(i:Int))).toNat]? =some (iC S):=by rw [fB,G]; rfl
 refine rS (Sn ((((k:Int)-1-(i:Int))).toNat) U (ak (n:=(m.set i y).length) 0 U sm) cy dc om om (by simp; omega)) ?_
 refine aH (O _ _ (aK []) ?_)
 refine cp U fun T12 D=>eH (k:=(((k:Int)-1-(i:Int))).toNat) (o:=0) (vs:=[(vI x)]) (es':=(List.map iC ((m.set i y).set ((((k:Int)-1-(i:Int))).toNat) x))) (C':=[(own lA lC 3 1 (List.map iC ((m.set i y).set ((((k:Int)-1-(i:Int))).toNat) x)))]) 0 U U U Be U U U U hx11m U dc (by exact (List.map_set (f:=iC) (l:=(m.set i y)) (i:=(((k:Int)-1-(i:Int))).toNat) (a:=x)).symm) U<|aH (D _ _ (aK []) ?_)
 refine fO U<|aD<|KK M<|an<|rP 6 [] I ?_
 refine aH ?_
 have E:(vI (((i+1):Nat):Int))=(vI ((i:Int)+1)):=by exact cI om
 have F:(vI ((k:Int)-1-(((i+1):Nat):Int)))=(vI (((k:Int)-1-(i:Int))-1)):=by exact cI om
 refine aR (AB ⟨((i+1),((m.set i y).set ((((k:Int)-1-(i:Int))).toNat) x)),⟨om,IH hk om om A hx hy⟩⟩ _ _ _ U os (dx.cons U<|bk U E<|bk U F<|dx.nil _) (aK [0]))
end
section
open Go.RowKit
theorem LG (a b:Int) (r:cd) (kA:OA) (kC:Nat) (cA:OA) (cC:Nat) (bA:OA) (bC:Nat) (slA:OA) (slC:Nat) (drA:OA) (drC:Nat) (heA:OA) (heC:Nat) (tA:OA) (tN tC:Nat) (gs gw:Nat) (m:gk) (g1:Nat) (hb: ∀ p∈m,0≤p.2.Lo∧p.2.Lo≤p.2.Hi∧p.2.Hi≤30000000):
 ej Tryz.prog 43 [(vI a),(vI b),(vP g1)] [(bZ gw 88 (fR.cells (fR.mk (oy r kA kC cA cC bA bC slA slC drA drC heA heC) (aM.mk tA tN tC) (Value.map (some gs))))),(gZ iV gs (bM df m)),(bZ g1 80 [(vP gw)])] (vI ((aG m a).Lo-(aG m b).Lo)):=by
 have A:=gP (i:=a) hb
 have B:=gP (i:=b) hb
 refine bH kr Tryz.func43 U U fun E Q hQ hN=>?_
 try dsimp only
 refine WS fun _ C=>bg 1 U<|RK C<|al fun _ D=>dG cD 16 kr<|mI 1 [] (mr 2 U I) U<|dS (SX (bQ U U) U U)<|mI 3 [] (mr 0 U I) U<|dS (SX (jS (kV:=iV) (x:=a) (l:=m) (f:=df) (z:=(aa.mk 0 0)) U U U lI (dB n9) vo (by exact jF 1 U)) U U)<|dS (SX (kQ (v:=(vI (((List.lookup a m).getD (aa.mk 0 0)).Lo))) U U fD zX U) U U)<|mI 1 [] (mr 2 U I) U<|dS (SX (bQ U U) U U)<|dP 3 [] (mr 0 U I) ?_
 refine dS (SX (jS (kV:=iV) (x:=b) (l:=m) (f:=df) (z:=(aa.mk 0 0)) U U U lI (dB n9) vo (by exact jF 1 U)) U U)<|dS (SX (kQ (v:=(vI (((List.lookup b m).getD (aa.mk 0 0)).Lo))) U U fD zX U) U U) ?_
 unfold aG at A B
 simp only [dE] at A B
 refine dP 2 [] I ?_
 refine cO<|RK D<|ar ?_
 exact Q1 hQ U U U U
theorem F5 (r:cd) (kA:OA) (kC:Nat) (az:List RA) (cA:OA) (cC:Nat) (bA:OA) (bC:Nat) (slA:OA) (slC:Nat) (drA:OA) (drC:Nat) (ha:List cQ) (heA:OA) (heC:Nat) (hin:fg r az ha):
 lu Tryz.prog 20 [(vA (bq.cells (oy r kA kC cA cC bA bC slA slC drA drC heA heC)))] [(rd dF 3 2 dg),(rd kA r.ah.aJ.length 9 (r.ah.aJ.map ao.cells)),(rd cA r.ah.ai.length 2 (List.zipWith au.cells r.ah.ai az)),(e7 (aU au.gX r.ah.ai az)),(rd bA r.ah.ag.length 4 (r.ah.ag.map bE.cells)),(rd slA r.aI.length 1 (r.aI.map iC)),(rd drA r.bD.length 1 (r.bD.map iC)),(rd heA r.aq.length 1 (List.zipWith cz r.aq ha)),(e7 (aU hP r.aq ha))] (fun (x:(List RA)×(OA)×Nat)=>(vT [(vS x.2.1 ((bG r).length) x.2.2),(vI (bX r))])) (fun (x:(List RA)×(OA)×Nat)=>x.1.length=(bG r).length) (fun (x:(List RA)×(OA)×Nat)=>[(own x.2.1 x.2.2 29 1 (List.zipWith kh (bG r) x.1)),(bo (aU nt (bG r) x.1))]):=by
 have As:=hin.line
 have BI:=hin.iN
 have BJ:=hin.has
 have A3:=hin.iM
 have A0:=hin.draw
 have A4:=dH (r:=r)
 refine du kr Tryz.func20 U U fun w0 Q hQ hN=>?_
 try dsimp only
 refine WS fun _ An=>fV U fun b2=>bg 2 U<|RK An<|WS fun _ AC=>rP 1 [] (mc 0 U I) ?_
 refine cX (oe r kA kC az cA cC bA bC slA slC drA drC ha heA heC hin) (bp [1,2,3,4,5,6,7,8,9]) U fun y4 Ac=>?_
 obtain ⟨Ad,BF,X,O,Ae,W,A8⟩:=y4
 cases Ad
 ·obtain ⟨AZ,he⟩:=Ac.2 rfl
  try dsimp only at AZ he
  subst AZ
  try dsimp only [cond_true,cond_false,List.cons_append,List.nil_append]
  refine bg 3 U<|AL U QU fun A_=>Gp U Rb U U<|bg 1 U<|RK AC<|al fun _ Az=>WS fun _ p=>rP 2 [] I ?_
  refine RK p<|bR U (bw fun g=>?_) (bx fun g=>?_)
  ·exact absurd g he
  refine WS fun _ s=>rP 1 [] I ?_
  have E:bG r=[]:=CQ he
  have Z:([]:List RA).length=(bG r).length:=by rw [E]; rfl
  refine dT 29 1<|xS ?_
  rw [show (own none 0 29 1 ([]:List (List Value)))=own none 0 29 1 (List.zipWith kh (bG r) []) from by rw [E]; rfl,show bo []=bo (aU nt (bG r) []) from by rw [E]; rfl]
  refine rP 2 [] I ?_
  refine RK s<|ar ?_
  refine LX hQ ([],none,0) [1,0] [] I U (by show List.all _ _=true; simp only [fJ,List.all_nil,It,Bool.and_true]; rfl) U ?_ ?_
  ·first|rfl|(rw [E]; rfl)|(rw [he,← E,List.length_map]; rfl)|(rw [he,E]; rfl)
  ·exact Z
 obtain ⟨he,BL⟩:=Ac.1 rfl
 try dsimp only [cond_true,cond_false,List.cons_append,List.nil_append]
 have BN:=lP he
 have A2:=nE he
 refine bg 3 U<|AL U QU fun R=>Gp U Rb U U<|bg 1 U<|RK AC<|al fun _ t=>WS fun _ v=>bg 1 U<|rS (SX (b_ (r:= .bool false) U U U nI) U U)<|RK v<|aV U<|WK t<|WS fun _ w=>bg 1 U<|RK w<|WS fun _ y=>bg 1 U<|RK y<|al fun _ AA=>WS fun _ AB=>fE 1 [] (mc 0 U I) U<|rS (SX (bQ U U) U U)<|rP 2 [] (mc 1 U I) ?_
 refine cX (Fe O) (aL) U fun Ai A5=>?_
 try dsimp only
 refine cX (yR (aB r) O Ai sd) (bp [5,0]) U fun Ax A6=>?_
 obtain ⟨Ag,Aj⟩:=Ax
 try dsimp only
 rw [show (aB r).length=(dj ((aB r).map (·.1))).length from by rw [gD,List.length_map]]
 refine rS (FU U) ?_
 refine cX (yF (dj ((aB r).map (·.1))) Ag Aj (Value.func (.func 43) [].toArray [(vP R)].toArray) (fun u=>(aG (aB r) u).Lo) (e7 [(bZ X 88 (fR.cells (fR.mk (oy r kA kC cA cC bA bC slA slC drA drC heA heC) (aM.mk Ae ((cP r).length) W) (Value.map (some O))))),(gZ iV O (bM df (aB r))),(bZ R 80 [(vP X)])]) (by intro Av Aw _; exact nH (fi:=[]) (ca:=[(vP R)]) (l3 (LG Av Aw r kA kC cA cC bA bC slA slC drA drC heA heC Ae ((cP r).length) W O X (aB r) R (by first|assumption|omega)) (Of 0 1 2 U U U U U U))) (by exact Rt BN) (by rw [gD,List.length_map]; omega)) (ay (ak (n:=(dj ((aB r).map (·.1))).length) 0 U sm)<|ay (l5 (Of 3 6 2 U U U U U U))<|aL) U fun Ay A7=>?_
 obtain ⟨A9,BE⟩:=Ay
 try dsimp only
 have BK:(eD (fun u=>(aG (aB r) u).Lo) (dj ((aB r).map (·.1)))).length=(aB r).length:=by rw [kx,gD,List.length_map]
 have Ab:D1 (fun u=>(aG (aB r) u).Lo) (eD (fun u=>(aG (aB r) u).Lo) (dj ((aB r).map (·.1)))):=uo
 refine rP 2 [] I ?_
 refine RK AB<|aw<|fY 29 1<|ov ?_
 have H:(0≤(eD (fun u=>(aG (aB r) u).Lo) (dj ((aB r).map (·.1)))).length)∧(([]:List RA).length=([]:List (List Int)).length)∧(l7 (aG (aB r)) ((eD (fun u=>(aG (aB r) u).Lo) (dj ((aB r).map (·.1)))).take 0) ([]:List (List Int)) (-1))∧(-1≤(-1)∧(-1)≤30000000):=by exact ⟨Nat.zero_le _,rfl,E1,om⟩
 refine bO (ι:={z:Nat×(List (List Int))×(List RA)×(OA)×Nat×Int // (z.1≤(eD (fun u=>(aG (aB r) u).Lo) (dj ((aB r).map (·.1)))).length)∧(z.2.2.1.length=z.2.1.length)∧(l7 (aG (aB r)) ((eD (fun u=>(aG (aB r) u).Lo) (dj ((aB r).map (·.1)))).take z.1) z.2.1 z.2.2.2.2.2)∧(-1≤z.2.2.2.2.2∧z.2.2.2.2.2≤30000000)}) [1,4,29,30] [2,3,5,6,7,8,9,11,12,13,14,15,16,17,18,19] U U (fun z=>[(6,(vS z.1.2.2.2.1 z.1.2.1.length z.1.2.2.2.2.1)),(7,(vI z.1.2.2.2.2.2)),(31,(vI (z.1.1:Int)))]) (fun z=>[(bo (aU nt z.1.2.1 z.1.2.2.1)),(own z.1.2.2.2.1 z.1.2.2.2.2.1 29 1 (List.zipWith kh z.1.2.1 z.1.2.2.1))]) (fun _=>rfl) (fun _=>rfl) (fun z=>(eD (fun u=>(aG (aB r) u).Lo) (dj ((aB r).map (·.1)))).length-z.1.1) ⟨(0,([]:List (List Int)),([]:List RA),none,0,(-1)),H⟩ (aQ U) (aK [2,3,5,6,7,8,9,11,12,13,14,15,16,17,18,19,0,1]) ?_
 clear H
 rintro ⟨⟨i,G,gz,a,c,last⟩,⟨b,C,A,d⟩⟩ J37 T
 try dsimp only at b C A d
 try dsimp only
 have Ap:G.length≤12:=by have:=E2 A; omega
 have BG:(G++[([]:List Int)]).length=G.length+1:=by simp
 have A1:(gz++[((none,0):RA)]).length=gz.length+1:=by simp
 refine WS fun _ AD=>rP 1 [] I ?_
 refine RK AD<|al fun _ AE=>bR U (aS fun Al=>?_) (aT fun Al=>?_)
 ·refine bB<|ae<|ae<|ax<|KK AA<|al fun _ AN=>al fun _ AO=>?_
  have Ap:G.length≤12:=by have:=E2 A; omega
  refine an<|rP 3 [] I ?_
  refine RK AO<|aw ?_
  have H:(0≤G.length):=by exact Nat.zero_le _
  refine bO (ι:={z:Nat // (z≤G.length)}) [1,6,66,67] [0,1,3,4,5,6,7,8,9,10,11,12,13,14,15,17] U U (fun z=>[(68,(vI (z.1:Int)))]) (fun z=>[(bo (aU nt (nD G z.1) gz))]) (fun _=>rfl) (fun _=>rfl) (fun z=>G.length-z.1) ⟨0,H⟩ (aQ U) (aK [0,1,3,4,5,6,7,8,9,10,11,12,13,14,15,17,16]) ?_
  clear H
  rintro ⟨j,Af⟩ J65 h
  try dsimp only
  refine WS fun _ AP=>rP 1 [] I ?_
  refine RK AP<|al fun _ AQ=>bR U (aS fun Am=>?_) (aT fun Am=>?_)
  ·refine bB<|ae<|ae<|ax<|KK AN<|al fun _ AT=>?_
   have Ar:G.length≤j:=by omega
   have Y:=vh A.ok
   rw [List.take_of_length_le om] at Y
   have E:G.map dj=bG r:=sW he (qA Y.1 (qb.trans fF)) Y.2
   have Z:gz.length=(bG r).length:=by rw [← E,List.length_map]; omega
   rw [D8 Ar,E,← JS,E]
   refine an<|bg 1 U<|rP 2 [] I ?_
   refine RK AT<|ar ?_
   refine LX hQ (gz,a,c) [15,16] [] I U (by show List.all _ _=true; simp only [fJ,List.all_nil,It,Bool.and_true]; rfl) U ?_ ?_
   ·first|rfl|(rw [E]; rfl)|(rw [he,← E,List.length_map]; rfl)|(rw [he,E]; rfl)
   ·exact Z
  refine WK AQ<|al fun _ AR=>aw<|al fun _ AS=>?_
  obtain ⟨cg,B⟩:=aN G j om
  obtain ⟨cga,D⟩:=aN gz j om
  have F:(List.zipWith kh G gz)[j]? =some (kh cg cga):=dZ B D
  refine Dx (f:=nt) 16 (G9 B) D U U U ?_
  try dsimp only
  refine an<|rS (IA j U (ak (n:=G.length) 17 U (k6 C)) pH dc om om)<|rS (gF j 0 (vS cga.1 cg.length cga.2) U cq (ak (n:=G.length) 17 U (k6 C)) F U dc U)<|bg 1 U<|RK AS<|an<|rP 1 [] I ?_
  refine iQ 0 U U U U (zY cg cga.1 cga.2 (by have:=Ah A (aX B); omega)) U ki U (fun msrt Aa=>?_)
  try dsimp only
  refine aH<|aD<|KK AR<|an<|rP 2 [] I ?_
  refine aH ?_
  obtain rfl:=qk Aa.1 Aa.2
  refine NF (f:=nt) (ms:=nD G j) (m:=dj cg) 1 0 (by rw [DI]; omega) D U U U ?_
  rw [Ee B]
  have AY:(vI (((j+1):Nat):Int))=(vI ((j:Int)+1)):=by exact cI om
  refine aR (h ⟨(j+1),(by first|omega|(simp only []; omega))⟩ _ _ _ U os (cN 4<|bk U AY<|dx.nil _) (aK [1,2,3,4,5,6,7,8,9,10,11,12,13,14,15,16,0]))
 refine WK AE<|al fun _ BM=>aw<|WS fun _ AF=>?_
 obtain ⟨x,hx⟩:=aN (eD (fun u=>(aG (aB r) u).Lo) (dj ((aB r).map (·.1)))) i om
 have Au:=bP iC hx
 refine rS (IA i U (ak (n:=(eD (fun u=>(aG (aB r) u).Lo) (dj ((aB r).map (·.1)))).length) 0 U sm) cy dc om om)<|rS (gF i 0 (vI x) U cq (ak (n:=(eD (fun u=>(aG (aB r) u).Lo) (dj ((aB r).map (·.1)))).length) 0 U sm) Au U dc U)<|bg 1 U<|RK AF<|WS fun _ AG=>fE 1 [] (mc 2 U I) U<|rS (SX (bQ U U) U U)<|rP 2 [] (mc 3 U I) ?_
 have At:=gP (i:=x) BN
 refine rP 1 [] I ?_
 refine rS (SX (jS (kV:=iV) (x:=x) (l:=(aB r)) (f:=df) (z:=(aa.mk 0 0)) U U U lI (dB n9) vo (by exact aF 6 U)) U U)<|AL U dh fun BA=>fQ U cu U<|RK AG<|al fun _ V=>WS fun _ AH=>?_
 rw [show ((List.lookup x (aB r)).getD (aa.mk 0 0))=(aG (aB r) x) from rfl]
 refine rP 4 [] (mc 0 U I) ?_
 refine RK AH<|bR U (aS fun N=>?_) (aT fun N=>?_)
 ·refine WK V<|al fun _ AK=>?_
  have BH:1≤G.length:=F2 At.1 A N
  refine an<|rP 4 [] I ?_
  refine RK AK<|al fun _ AM=>?_
  have Aq:(G.length-1)<G.length:=by first|omega|(simp; done)
  obtain ⟨cg,B⟩:=aN G (G.length-1) om
  obtain ⟨cga,D⟩:=aN gz (G.length-1) om
  have F:(List.zipWith kh G gz)[(G.length-1)]? =some (kh cg cga):=dZ B D
  refine Dx (f:=nt) 17 B D U U U ?_
  try dsimp only
  refine an<|bg 4 U<|rS (IA (G.length-1) U (ak (n:=G.length) 19 U (k6 C)) pH dc om om)<|rS (gF (G.length-1) 0 (vS cga.1 cg.length cga.2) U cq (ak (n:=G.length) 19 U (k6 C)) F U dc U)<|rP 1 [] I ?_
  have Ao:cg.length≤12:=(List.mem_append.1 (show cg∈G++[[]] from by first|exact aX B|exact List.mem_append_left _ (aX B))).elim (fun q=>by have:=Ah A q; omega) (fun q=>by simp at q; subst q; simp)
  refine cU (xs:=[.tmp 57]) (cs:=[(vI x)]) U cy jd U U U U (by simp [Value.cells]) U U fun BD=>?_
  refine c_ (es2:=(List.map iC (cg++[x]))) (m':=(cg++[x]).length) 1 U U U ph U U sm (aY (es:=List.map iC [x]) 0 U U (by simp [bJ]) U) (j2 _) os (by first|(simp only [maxLen]; omega)|(simp [maxLen]; omega)) sm sm U fun K M=>?_
  try dsimp only
  refine rS (IA (G.length-1) U (ak (n:=G.length) 20 U (k6 C)) pH dc om om)<|eH (k:=(G.length-1)) (o:=0) (vs:=[(vS K ((cg++[x]).length) M)]) (es':=(List.zipWith kh (G.set (G.length-1) (cg++[x])) (gz.set (G.length-1) (K,M)))) (C':=[_,_,_,_,_,_,_,_,_,_,_,_,_,_,_,_,_,_,_,_,(own a c 29 1 (List.zipWith kh (G.set (G.length-1) (cg++[x])) (gz.set (G.length-1) (K,M))))]) 20 U U U Ak U U U U F U dc (by exact p5 (c:=kh) (m:=(cg++[x])) (a:=(K,M))) U<|Fy (f:=nt) (ms:=G) (asl:=gz) (m:=(cg++[x])) (a:=(K,M)) 2 1 om om U U U<|RK AM<|an<|fE 3 [] (mc 2 U I) U<|rS (MX U)<|bg 1 U<|aH<|aD<|KK BM<|an<|rP 2 [] I ?_
  refine aH ?_
  have AW:(vS a ((G.set (G.length-1) (cg++[x])).length) c)=(vS a G.length c):=by rw [List.length_set]
  have AX:(vI (((i+1):Nat):Int))=(vI ((i:Int)+1)):=by exact cI om
  refine aR (T ⟨((i+1),(G.set (G.length-1) (cg++[x])),(gz.set (G.length-1) (K,M)),a,c,(max last ((aG (aB r) x).Hi))),⟨om,by simp; omega,by first|exact pA om hx B A N|exact og om (fun u _=>(gP (i:=u) BN).2.1) Ab hx B A N,dso⟩⟩ _ _ _ U os (cN 4<|bk U AW<|dx.cons U<|bk U AX<|dx.nil _) (aK [3,4,5,6,7,8,9,10,11,12,13,14,15,16,17,18,0,19]))
 refine an<|rP 1 [] I ?_
 refine cU (xs:=[.const (vS none 0 0)]) (cs:=[(vS none 0 0)]) U pH vv U U U U (by simp [Value.cells]) U U fun BB=>?_
 refine c_ (es2:=(List.zipWith kh (G++[[]]) (gz++[(none,0)]))) (m':=(G++[[]]).length) 19 rfl rfl rfl Uj rfl rfl (k6 C).symm (aY (es:=List.zipWith kh [[]] [(none,0)]) 0 rfl rfl (by intro e he; simp [kh] at he; subst he; rfl) rfl) (M8 _ _) om (by simp only [maxLen]; omega) (Gx om) (by simp; omega) rfl fun P S=>?_
 try dsimp only
 refine dT 3 1<|Pe (Y':=aU nt (G++[[]]) (gz++[(none,0)])) 19 0 U U (Dt om U)<|bg 1 U<|RK V<|WS fun _ AI=>rP 4 [] I ?_
 refine RK AI<|al fun _ AJ=>?_
 have Aq:((G++[[]]).length-1)<(G++[[]]).length:=by first|omega|(simp; done)
 obtain ⟨cg,B⟩: ∃ y_,(G++[[]])[((G++[[]]).length-1)]? =some y_:=⟨(G++[[]])[((G++[[]]).length-1)]'om,e9 _⟩
 obtain ⟨cga,D⟩: ∃ y_,(gz++[(none,0)])[((G++[[]]).length-1)]? =some y_:=⟨(gz++[(none,0)])[((G++[[]]).length-1)]'om,e9 _⟩
 have F:(List.zipWith kh (G++[[]]) (gz++[(none,0)]))[((G++[[]]).length-1)]? =some (kh cg cga):=dZ B D
 refine Dx (f:=nt) 0 B D U U U ?_
 try dsimp only
 refine an<|rP 4 [] I ?_
 refine rS (IA ((G++[[]]).length-1) U (ak (n:=(G++[[]]).length) 20 U (k6 (by simp; omega))) pH dc om om) ?_
 refine rS (gF ((G++[[]]).length-1) 0 (vS cga.1 cg.length cga.2) U cq (ak (n:=(G++[[]]).length) 20 U (k6 (by simp; omega))) F U dc U) ?_
 refine rP 1 [] I ?_
 have Ao:cg.length≤12:=(List.mem_append.1 (show cg∈G++[[]] from by first|exact aX B|exact List.mem_append_left _ (aX B))).elim (fun q=>by have:=Ah A q; omega) (fun q=>by simp at q; subst q; simp)
 refine cU (xs:=[.tmp 57]) (cs:=[(vI x)]) U cy jd U U U U (by simp [Value.cells]) U U fun BC=>?_
 refine c_ (es2:=(List.map iC (cg++[x]))) (m':=(cg++[x]).length) 1 U U U ph U U sm (aY (es:=List.map iC [x]) 0 U U (by simp [bJ]) U) (j2 _) os (by first|(simp only [maxLen]; omega)|(simp [maxLen]; omega)) sm sm U fun J L=>?_
 try dsimp only
 refine rS (IA ((G++[[]]).length-1) U (ak (n:=(G++[[]]).length) 21 U (k6 (by simp; omega))) pH dc om om) ?_
 refine eH (k:=((G++[[]]).length-1)) (o:=0) (vs:=[(vS J ((cg++[x]).length) L)]) (es':=(List.zipWith kh ((G++[[]]).set ((G++[[]]).length-1) (cg++[x])) ((gz++[(none,0)]).set ((G++[[]]).length-1) (J,L)))) (C':=[_,_,_,_,_,_,_,_,_,_,_,_,_,_,_,_,_,_,_,_,_,(own P S 29 1 (List.zipWith kh ((G++[[]]).set ((G++[[]]).length-1) (cg++[x])) ((gz++[(none,0)]).set ((G++[[]]).length-1) (J,L))))]) 21 U U U Ak U U U U F U dc (by exact p5 (c:=kh) (m:=(cg++[x])) (a:=(J,L))) U<|Fy (f:=nt) (ms:=(G++[[]])) (asl:=(gz++[(none,0)])) (m:=(cg++[x])) (a:=(J,L)) 2 1 om om U U U<|RK AJ<|an<|fE 3 [] (mc 3 U I) U<|rS (MX U)<|bg 1 U<|aH<|aD<|KK BM<|an<|rP 2 [] I ?_
 refine aH ?_
 have AU:(vS P (((G++[[]]).set ((G++[[]]).length-1) (cg++[x])).length) S)=(vS P ((G++[[]]).length) S):=by rw [List.length_set]
 have AV:(vI (((i+1):Nat):Int))=(vI ((i:Int)+1)):=by exact cI om
 refine aR (T ⟨((i+1),((G++[[]]).set ((G++[[]]).length-1) (cg++[x])),((gz++[(none,0)]).set ((G++[[]]).length-1) (J,L)),P,S,(max last ((aG (aB r) x).Hi))),⟨om,by simp; omega,by first|exact pA om hx B A N|exact og om (fun u _=>(gP (i:=u) BN).2.1) Ab hx B A N,dso⟩⟩ _ _ _ U os (cN 4<|bk U AU<|dx.cons U<|bk U AV<|dx.nil _) (aK [4,5,6,7,8,9,10,11,12,13,14,15,16,17,18,19,0,20]))
end
section
open Go.RowKit
theorem vd (G:List (List Int)) (H:List (List Int)) (gz:List RA) (gA:OA) (gC:Nat) (hz:List RA) (hA:OA) (hC:Nat) (h1:G.length≤1000000) (h2:H.length≤1000000) (h3: ∀ l∈G,l.length≤1000000) (h4: ∀ l∈H,l.length≤1000000) (hgz:gz.length=G.length) (hhz:hz.length=H.length):
 ej Tryz.prog 27 [(vS gA G.length gC),(vS hA H.length hC)] [(rd gA G.length 1 (List.zipWith kh G gz)),(e7 (aU QM G gz)),(rd hA H.length 1 (List.zipWith kh H hz)),(e7 (aU QM H hz))] (vB (decide (G=H))):=by
 refine bH kr Tryz.func27 U U fun Z Q hQ hN=>?_
 try dsimp only
 refine WS fun _ N=>bg 1 U<|RK N<|al fun _ O=>WS fun _ P=>rP 5 [] I ?_
 refine RK P<|cM U (bx fun hl=>?_) (bw fun hl=>?_)
 ·refine WS fun _ R=>rP 1 [] I ?_
  refine RK R<|ar<|Q1 hQ U U U ?_
  first|exact cB (cr (nk hx hy h)).symm|exact cB (fM (np om A om)).symm|exact cB (cr (fun e=>by subst e; omega)).symm
 refine WK O<|al fun _ S=>WS fun _ T=>rP 1 [] I ?_
 refine RK T<|aw ?_
 have B:(0≤G.length)∧(G.take 0=H.take 0):=by exact ⟨Nat.zero_le _,rfl⟩
 refine bO (ι:={z:Nat // (z≤G.length)∧(G.take z=H.take z)}) [0,1] [0,1,2,3] U U (fun z=>[(5,(vI (z.1:Int)))]) (fun z=>[]) (fun _=>rfl) (fun _=>rfl) (fun z=>G.length-z.1) ⟨0,B⟩ (aQ U) (aK [0,1,2,3]) ?_
 clear B
 rintro ⟨i,⟨W,A⟩⟩ J7 M
 try dsimp only
 refine al fun _ AA=>WS fun _ V=>rP 4 [] I ?_
 refine RK V<|bR U (aS fun L=>?_) (aT fun L=>?_)
 ·refine bB<|ae<|ae<|ax<|KK S<|WS fun _ F=>rP 1 [] I ?_
  refine RK F<|ar<|Q1 hQ U U U ?_
  first|exact cB (cr (nk hx hy h)).symm|exact cB (fM (np om A om)).symm|exact cB (cr (fun e=>by subst e; omega)).symm
 refine WK AA<|al fun _ C=>aw<|al fun _ D=>dG cD 10 kr<|dP 2 [] I ?_
 obtain ⟨x,hx⟩:=aN G i om
 obtain ⟨xa,J⟩:=aN gz i om
 have X:(List.zipWith kh G gz)[i]? =some (kh x xa):=dZ hx J
 refine dS (IA i U (aF 0 U) pH dc om om)<|dS (gF i 0 (vS xa.1 x.length xa.2) U cq (aF 0 U) X U dc U)<|dP 2 [] I ?_
 obtain ⟨y,hy⟩:=aN H i om
 obtain ⟨ya,K⟩:=aN hz i om
 have Y:(List.zipWith kh H hz)[i]? =some (kh y ya):=dZ hy K
 refine dS (IA i U (aF 2 U) pH dc om om)<|dS (gF i 0 (vS ya.1 y.length ya.2) U cq (aF 2 U) Y U dc U)<|dS (CL (ob x xa.1 xa.2 y ya.1 ya.2 (by exact h3 x (aX hx)) (by exact h4 y (aX hy))) (ay (show jc _ (rd xa.1 x.length 1 (x.map iC)).holds from (dy 1 U (cj hx J (by simp [QM]))))<|ay (show jc _ (rd ya.1 y.length 1 (y.map iC)).holds from (dy 3 U (cj hy K (by simp [QM]))))<|aL) U)<|dP 1 [] I ?_
 refine cO<|RK D<|cM U (bx fun h=>?_) (bw fun h=>?_)
 ·refine WS fun _ E=>rP 1 [] I ?_
  refine RK E<|ar<|Q1 hQ U U U ?_
  first|exact cB (cr (nk hx hy h)).symm|exact cB (fM (np om A om)).symm|exact cB (cr (fun e=>by subst e; omega)).symm
 refine bY<|aD<|KK C<|an<|rP 3 [] I ?_
 refine aH ?_
 have AB:(vI (((i+1):Nat):Int))=(vI ((i:Int)+1)):=by exact cI om
 refine aR (M ⟨(i+1),⟨om,ui A hx hy h⟩⟩ _ _ _ U os (dx.cons U<|dx.cons U<|bk U AB<|dx.nil _) (aK [0,1,2,3]))
end
section
open Go.RowKit
theorem Lm (l:List ao) (lA:OA) (lC:Nat) (hlen:l.length≤1000000):
 lu Tryz.prog 97 [(vS lA l.length lC)] [(rd lA l.length 9 (l.map ao.cells))] (fun (x:(OA)×Nat)=>(vS x.1 l.length x.2)) (fun (x:(OA)×Nat)=>True) (fun (x:(OA)×Nat)=>[(own x.1 x.2 122 9 (l.map ao.cells))]):=by
 refine du kr Tryz.func97 U U fun L Q hQ hN=>?_
 try dsimp only
 refine WS fun _ D=>bg 1 U<|RK D<|al fun _ E=>WS fun _ F=>rP 1 [] I ?_
 refine rS (BI U (qn P2))<|RK F<|cM U (aT fun B=>?_) (aS fun B=>?_)
 ·refine WS fun _ G=>mq (aF 0 U) B dc fun C=>?_
  have A:l=[]:=by simpa using C
  refine dT 122 9 ?_
  rw [show (own none 0 122 9 ([]:List (List Value)))=own none 0 122 9 (l.map ao.cells) from by rw [A]; rfl]
  refine rP 1 [] I ?_
  refine RK G<|ar ?_
  refine LX hQ (none,0) [0] [] I U U U ?_ ?_
  ·first|rfl|(rw [A]; rfl)
  ·trivial
 refine WK E<|WS fun _ H=>sS U yj U fun J=>rP 1 [] I ?_
 refine dU (es:=(List.map ao.cells [])) (C':=[own (some ⟨J,0,none⟩) 0 122 9 (List.map ao.cells []),_]) 0 U sm U (by simp [maxLen]) U ?_
 refine c_ (es2:=(List.map ao.cells l)) (m':=l.length) 0 U U U Uo U U sm (aF 1 U) (sj _) os (by first|(simp only [maxLen]; omega)|(simp [maxLen]; omega)) sm sm U fun AA K=>?_
 try dsimp only
 refine rP 1 [] I ?_
 refine RK H<|ar ?_
 refine LX hQ (AA,K) [0] [] I U U U ?_ ?_
 ·first|rfl|(rw [A]; rfl)
 ·trivial
theorem Kh (l:List bE) (lA:OA) (lC:Nat) (hlen:l.length≤1000000):
 lu Tryz.prog 99 [(vS lA l.length lC)] [(rd lA l.length 4 (l.map bE.cells))] (fun (x:(OA)×Nat)=>(vS x.1 l.length x.2)) (fun (x:(OA)×Nat)=>True) (fun (x:(OA)×Nat)=>[(own x.1 x.2 129 4 (l.map bE.cells))]):=by
 refine du kr Tryz.func99 U U fun L Q hQ hN=>?_
 try dsimp only
 refine WS fun _ D=>bg 1 U<|RK D<|al fun _ E=>WS fun _ F=>rP 1 [] I ?_
 refine rS (BI U (qn P1))<|RK F<|cM U (aT fun B=>?_) (aS fun B=>?_)
 ·refine WS fun _ G=>mq (aF 0 U) B dc fun C=>?_
  have A:l=[]:=by simpa using C
  refine dT 129 4 ?_
  rw [show (own none 0 129 4 ([]:List (List Value)))=own none 0 129 4 (l.map bE.cells) from by rw [A]; rfl]
  refine rP 1 [] I ?_
  refine RK G<|ar ?_
  refine LX hQ (none,0) [0] [] I U U U ?_ ?_
  ·first|rfl|(rw [A]; rfl)
  ·trivial
 refine WK E<|WS fun _ H=>sS U vx U fun J=>rP 1 [] I ?_
 refine dU (es:=(List.map bE.cells [])) (C':=[own (some ⟨J,0,none⟩) 0 129 4 (List.map bE.cells []),_]) 0 U sm U (by simp [maxLen]) U ?_
 refine c_ (es2:=(List.map bE.cells l)) (m':=l.length) 0 U U U Uz U U sm (aF 1 U) (vr _) os (by first|(simp only [maxLen]; omega)|(simp [maxLen]; omega)) sm sm U fun AA K=>?_
 try dsimp only
 refine rP 1 [] I ?_
 refine RK H<|ar ?_
 refine LX hQ (AA,K) [0] [] I U U U ?_ ?_
 ·first|rfl|(rw [A]; rfl)
 ·trivial
theorem KI (l:List cG) (lA:OA) (lC:Nat) (hlen:l.length≤1000000):
 lu Tryz.prog 100 [(vS lA l.length lC)] [(rd lA l.length 3 (l.map cG.cells))] (fun (x:(OA)×Nat)=>(vS x.1 l.length x.2)) (fun (x:(OA)×Nat)=>True) (fun (x:(OA)×Nat)=>[(own x.1 x.2 124 3 (l.map cG.cells))]):=by
 refine du kr Tryz.func100 U U fun L Q hQ hN=>?_
 try dsimp only
 refine WS fun _ D=>bg 1 U<|RK D<|al fun _ E=>WS fun _ F=>rP 1 [] I ?_
 refine rS (BI U (qn O8))<|RK F<|cM U (aT fun B=>?_) (aS fun B=>?_)
 ·refine WS fun _ G=>mq (aF 0 U) B dc fun C=>?_
  have A:l=[]:=by simpa using C
  refine dT 124 3 ?_
  rw [show (own none 0 124 3 ([]:List (List Value)))=own none 0 124 3 (l.map cG.cells) from by rw [A]; rfl]
  refine rP 1 [] I ?_
  refine RK G<|ar ?_
  refine LX hQ (none,0) [0] [] I U U U ?_ ?_
  ·first|rfl|(rw [A]; rfl)
  ·trivial
 refine WK E<|WS fun _ H=>sS U qg U fun J=>rP 1 [] I ?_
 refine dU (es:=(List.map cG.cells [])) (C':=[own (some ⟨J,0,none⟩) 0 124 3 (List.map cG.cells []),_]) 0 U sm U (by simp [maxLen]) U ?_
 refine c_ (es2:=(List.map cG.cells l)) (m':=l.length) 0 U U U Sw U U sm (aF 1 U) (vp _) os (by first|(simp only [maxLen]; omega)|(simp [maxLen]; omega)) sm sm U fun AA K=>?_
 try dsimp only
 refine rP 1 [] I ?_
 refine RK H<|ar ?_
 refine LX hQ (AA,K) [0] [] I U U U ?_ ?_
 ·first|rfl|(rw [A]; rfl)
 ·trivial
theorem I0 (l:List aO) (lA:OA) (lC:Nat) (hlen:l.length≤1000000):
 lu Tryz.prog 103 [(vS lA l.length lC)] [(rd lA l.length 2 (l.map aO.cells))] (fun (x:(OA)×Nat)=>(vS x.1 l.length x.2)) (fun (x:(OA)×Nat)=>True) (fun (x:(OA)×Nat)=>[(own x.1 x.2 131 2 (l.map aO.cells))]):=by
 refine du kr Tryz.func103 U U fun L Q hQ hN=>?_
 try dsimp only
 refine WS fun _ D=>bg 1 U<|RK D<|al fun _ E=>WS fun _ F=>rP 1 [] I ?_
 refine rS (BI U (qn RG))<|RK F<|cM U (aT fun B=>?_) (aS fun B=>?_)
 ·refine WS fun _ G=>mq (aF 0 U) B dc fun C=>?_
  have A:l=[]:=by simpa using C
  refine dT 131 2 ?_
  rw [show (own none 0 131 2 ([]:List (List Value)))=own none 0 131 2 (l.map aO.cells) from by rw [A]; rfl]
  refine rP 1 [] I ?_
  refine RK G<|ar ?_
  refine LX hQ (none,0) [0] [] I U U U ?_ ?_
  ·first|rfl|(rw [A]; rfl)
  ·trivial
 refine WK E<|WS fun _ H=>sS U zN U fun J=>rP 1 [] I ?_
 refine dU (es:=(List.map aO.cells [])) (C':=[own (some ⟨J,0,none⟩) 0 131 2 (List.map aO.cells []),_]) 0 U sm U (by simp [maxLen]) U ?_
 refine c_ (es2:=(List.map aO.cells l)) (m':=l.length) 0 U U U UH U U sm (aF 1 U) (sY _) os (by first|(simp only [maxLen]; omega)|(simp [maxLen]; omega)) sm sm U fun AA K=>?_
 try dsimp only
 refine rP 1 [] I ?_
 refine RK H<|ar ?_
 refine LX hQ (AA,K) [0] [] I U U U ?_ ?_
 ·first|rfl|(rw [A]; rfl)
 ·trivial
theorem I2 (es:List (List Value)) (lA:OA) (n lC:Nat) (hlen:n≤1000000) (hes:es.length=n) (hone: ∀ v∈es.flatten,v.oneCell'=true):
 lu Tryz.prog 98 [(vS lA n lC)] [(rd lA n 2 es)] (fun (x:(OA)×Nat)=>(vS x.1 n x.2)) (fun (x:(OA)×Nat)=>True) (fun (x:(OA)×Nat)=>[(own x.1 x.2 127 2 es)]):=by
 refine du kr Tryz.func98 U U fun L Q hQ hN=>?_
 try dsimp only
 refine WS fun _ D=>bg 1 U<|RK D<|al fun _ E=>WS fun _ F=>rP 1 [] I ?_
 refine rS (BI U (qn S7))<|RK F<|cM U (aT fun B=>?_) (aS fun B=>?_)
 ·refine WS fun _ G=>mq (aF 0 U) B dc fun C=>?_
  have A:es=[]:=C
  refine dT 127 2 ?_
  rw [show (own none 0 127 2 ([]:List (List Value)))=own none 0 127 2 es from by rw [A]]
  refine rP 1 [] I ?_
  refine RK G<|ar ?_
  refine LX hQ (none,0) [0] [] I U U U ?_ ?_
  ·first|rfl|(rw [hes]; rfl)|(rw [← hes,A]; rfl)
  ·trivial
 refine WK E<|WS fun _ H=>sS U zM U fun J=>rP 1 [] I ?_
 refine dU (es:=(List.map dv.cells [])) (C':=[own (some ⟨J,0,none⟩) 0 127 2 (List.map dv.cells []),_]) 0 U sm U (by simp [maxLen]) U ?_
 refine c_ (es2:=es) (m':=es.length) 0 U U U Ue U U sm (aF 1 U) hone (by simp; omega) (by simp [maxLen]; omega) sm U U fun AA K=>?_
 try dsimp only
 refine rP 1 [] I ?_
 refine RK H<|ar ?_
 refine LX hQ (AA,K) [0] [] I U U U ?_ ?_
 ·first|rfl|(rw [hes]; rfl)|(rw [← hes,A]; rfl)
 ·trivial
theorem IU (es:List (List Value)) (lA:OA) (n lC:Nat) (hlen:n≤1000000) (hes:es.length=n) (hone: ∀ v∈es.flatten,v.oneCell'=true):
 lu Tryz.prog 102 [(vS lA n lC)] [(rd lA n 7 es)] (fun (x:(OA)×Nat)=>(vS x.1 n x.2)) (fun (x:(OA)×Nat)=>True) (fun (x:(OA)×Nat)=>[(own x.1 x.2 46 7 es)]):=by
 refine du kr Tryz.func102 U U fun L Q hQ hN=>?_
 try dsimp only
 refine WS fun _ D=>bg 1 U<|RK D<|al fun _ E=>WS fun _ F=>rP 1 [] I ?_
 refine rS (BI U (qn Ro))<|RK F<|cM U (aT fun B=>?_) (aS fun B=>?_)
 ·refine WS fun _ G=>mq (aF 0 U) B dc fun C=>?_
  have A:es=[]:=C
  refine dT 46 7 ?_
  rw [show (own none 0 46 7 ([]:List (List Value)))=own none 0 46 7 es from by rw [A]]
  refine rP 1 [] I ?_
  refine RK G<|ar ?_
  refine LX hQ (none,0) [0] [] I U U U ?_ ?_
  ·first|rfl|(rw [hes]; rfl)|(rw [← hes,A]; rfl)
  ·trivial
 refine WK E<|WS fun _ H=>sS U x4 U fun J=>rP 1 [] I ?_
 refine dU (es:=(List.map br.cells [])) (C':=[own (some ⟨J,0,none⟩) 0 46 7 (List.map br.cells []),_]) 0 U sm U (by simp [maxLen]) U ?_
 refine c_ (es2:=es) (m':=es.length) 0 U U U TF U U sm (aF 1 U) hone (by simp; omega) (by simp [maxLen]; omega) sm U U fun AA K=>?_
 try dsimp only
 refine rP 1 [] I ?_
 refine RK H<|ar ?_
 refine LX hQ (AA,K) [0] [] I U U U ?_ ?_
 ·first|rfl|(rw [hes]; rfl)|(rw [← hes,A]; rfl)
 ·trivial
theorem JA (es:List (List Value)) (lA:OA) (n lC:Nat) (hlen:n≤1000000) (hes:es.length=n) (hone: ∀ v∈es.flatten,v.oneCell'=true):
 lu Tryz.prog 101 [(vS lA n lC)] [(rd lA n 1 es)] (fun (x:(OA)×Nat)=>(vS x.1 n x.2)) (fun (x:(OA)×Nat)=>True) (fun (x:(OA)×Nat)=>[(own x.1 x.2 47 1 es)]):=by
 refine du kr Tryz.func101 U U fun L Q hQ hN=>?_
 try dsimp only
 refine WS fun _ D=>bg 1 U<|RK D<|al fun _ E=>WS fun _ F=>rP 1 [] I ?_
 refine rS (BI U (qn Rz))<|RK F<|cM U (aT fun B=>?_) (aS fun B=>?_)
 ·refine WS fun _ G=>mq (aF 0 U) B dc fun C=>?_
  have A:es=[]:=C
  refine dT 47 1 ?_
  rw [show (own none 0 47 1 ([]:List (List Value)))=own none 0 47 1 es from by rw [A]]
  refine rP 1 [] I ?_
  refine RK G<|ar ?_
  refine LX hQ (none,0) [0] [] I U U U ?_ ?_
  ·first|rfl|(rw [hes]; rfl)|(rw [← hes,A]; rfl)
  ·trivial
 refine WK E<|WS fun _ H=>sS U rj U fun J=>rP 1 [] I ?_
 refine dU (es:=(List.map sC [])) (C':=[own (some ⟨J,0,none⟩) 0 47 1 (List.map sC []),_]) 0 U sm U (by simp [maxLen]) U ?_
 refine c_ (es2:=es) (m':=es.length) 0 U U U UQ U U sm (aF 1 U) hone (by simp; omega) (by simp [maxLen]; omega) sm U U fun AA K=>?_
 try dsimp only
 refine rP 1 [] I ?_
 refine RK H<|ar ?_
 refine LX hQ (AA,K) [0] [] I U U U ?_ ?_
 ·first|rfl|(rw [hes]; rfl)|(rw [← hes,A]; rfl)
 ·trivial
end
section
open Go.RowKit
theorem N5 (r:cd) (kA:OA) (kC:Nat) (az:List RA) (cA:OA) (cC:Nat) (bA:OA) (bC:Nat) (slA:OA) (slC:Nat) (drA:OA) (drC:Nat) (ha:List cQ) (heA:OA) (heC:Nat) (hin:fg r az ha):
 lu Tryz.prog 68 [(vA (bq.cells (oy r kA kC cA cC bA bC slA slC drA drC heA heC)))] [(rd kA r.ah.aJ.length 9 (r.ah.aJ.map ao.cells)),(rd cA r.ah.ai.length 2 (List.zipWith au.cells r.ah.ai az)),(e7 (aU au.gX r.ah.ai az)),(rd bA r.ah.ag.length 4 (r.ah.ag.map bE.cells)),(rd slA r.aI.length 1 (r.aI.map iC)),(rd drA r.bD.length 1 (r.bD.map iC)),(rd heA r.aq.length 1 (List.zipWith cz r.aq ha)),(e7 (aU hP r.aq ha))] (fun (x:(OA)×Nat×(OA)×Nat×(List RA)×(OA)×Nat×(OA)×Nat×(OA)×Nat×(OA)×Nat×(List cQ))=>(vA (bq.cells (bq.mk (bK.mk (aZ.mk (aM.mk x.1 r.ah.aJ.length x.2.1)) r.ah.dM (aM.mk x.2.2.1 r.ah.ai.length x.2.2.2.1) (aM.mk x.2.2.2.2.2.1 r.ah.ag.length x.2.2.2.2.2.2.1) r.ah.bI r.ah.cv r.ah.bL) (aM.mk x.2.2.2.2.2.2.2.1 r.aI.length x.2.2.2.2.2.2.2.2.1) (aM.mk x.2.2.2.2.2.2.2.2.2.1 r.bD.length x.2.2.2.2.2.2.2.2.2.2.1) r.ed (aM.mk x.2.2.2.2.2.2.2.2.2.2.2.1 r.aq.length x.2.2.2.2.2.2.2.2.2.2.2.2.1))))) (fun (x:(OA)×Nat×(OA)×Nat×(List RA)×(OA)×Nat×(OA)×Nat×(OA)×Nat×(OA)×Nat×(List cQ))=>(x.2.2.2.2.1.length=r.ah.ai.length∧rH r.ah.ai x.2.2.2.2.1)∧sP r.aq x.2.2.2.2.2.2.2.2.2.2.2.2.2) (fun (x:(OA)×Nat×(OA)×Nat×(List RA)×(OA)×Nat×(OA)×Nat×(OA)×Nat×(OA)×Nat×(List cQ))=>[(own x.1 x.2.1 122 9 (r.ah.aJ.map ao.cells)),(own x.2.2.1 x.2.2.2.1 127 2 (List.zipWith au.cells r.ah.ai x.2.2.2.2.1)),(bo (aU au.owns r.ah.ai x.2.2.2.2.1)),(own x.2.2.2.2.2.1 x.2.2.2.2.2.2.1 129 4 (r.ah.ag.map bE.cells)),(own x.2.2.2.2.2.2.2.1 x.2.2.2.2.2.2.2.2.1 3 1 (r.aI.map iC)),(own x.2.2.2.2.2.2.2.2.2.1 x.2.2.2.2.2.2.2.2.2.2.1 3 1 (r.bD.map iC)),(own x.2.2.2.2.2.2.2.2.2.2.2.1 x.2.2.2.2.2.2.2.2.2.2.2.2.1 47 1 (List.zipWith cz r.aq x.2.2.2.2.2.2.2.2.2.2.2.2.2)),(bo (aU gT r.aq x.2.2.2.2.2.2.2.2.2.2.2.2.2))]):=by
 have C:=hin.line
 have A9:=hin.iN
 have M:=hin.has
 have BL:=hin.iM
 have BJ:=hin.draw
 have BM:=dH (r:=r)
 have BZ:=C.sD
 have BW:=C.sG
 have BV:=C.sE
 have A6:=C.oi
 refine du kr Tryz.func68 U U fun w0 Q hQ hN=>?_
 try dsimp only
 refine WS fun _ A2=>fV U fun b2=>AL U Bx fun b3=>RK A2<|WS fun _ A3=>rP 2 [] I ?_
 refine RK A3<|al fun _ A4=>dR cD [8,13,18,22,25,28] [7,11,15] [0,1,2] [0,2,3,4,5,6,7,8,9] [0,1,2,3,4,5,6,7,8,9] U U U U U<|eS U (MV U)<|eS U (MV U)<|eS U (MV U)<|eS U (MV U)<|eS U (SX (bQ U U) U U)<|eS U (FA 0 U fD U)<|eS U (FA 0 U fD U)<|fS U (L1 (vS kA r.ah.aJ.length kC) 1 U cq U U)<|eS U (MV U)<|eS U (SX (bQ U U) U U)<|eS U (FA 2 U fD U)<|fS U (L1 (vS cA r.ah.ai.length cC) 1 U cq U U)<|eS U (MV U)<|eS U (SX (bQ U U) U U)<|eS U (FA 3 U fD U)<|fS U (L1 (vS bA r.ah.ag.length bC) 1 U cq U U)<|eS U (SX (bQ U U) U U)<|eS U (FA 0 U fD U)<|eS U (FA 0 U fD U)<|eS U (SX (bQ U U) U U)<|eS U (FA 2 U fD U)<|eS U (SX (bQ U U) U U)<|eS U (FA 3 U fD U)<|e8 U<|iE U fun T6 A5=>?_
 refine cX (Lm r.ah.aJ kA kC sd) (bp [2]) U fun y7 Ba=>?_
 obtain ⟨a9,S⟩:=y7
 try dsimp only
 refine aH (A5 _ _ (aK [1,3,4,5,6,7,8,9,10]) (aK [1,2,3,4,5,6,7,8,9,10]) ?_)
 refine iE U fun T11 Ae=>?_
 refine cX (I2 (List.zipWith au.cells r.ah.ai az) cA r.ah.ai.length cC sd (by exact g0 A6) (by exact Dz _ _)) (bp [4]) U fun BA BN=>?_
 obtain ⟨J,K⟩:=BA
 try dsimp only
 refine aH (Ae _ _ (aK [2,4,5,6,7,8,9,10,11]) (aK [2,3,4,5,6,7,8,9,10,11]) ?_)
 refine iE U fun T16 Af=>?_
 refine cX (Kh r.ah.ag bA bC sd) (bp [7]) U fun BB BO=>?_
 obtain ⟨Y,Z⟩:=BB
 try dsimp only
 refine aH (Af _ _ (aK [3,5,6,7,8,9,10,11,12]) (aK [3,4,5,6,7,8,9,10,11,12]) ?_)
 refine cp U fun T21 Ag=>TL (bq.cells (bq.mk (bK.mk (aZ.mk (aM.mk a9 r.ah.aJ.length S)) r.ah.dM (aM.mk cA r.ah.ai.length cC) (aM.mk bA r.ah.ag.length bC) r.ah.bI r.ah.cv r.ah.bL) (aM.mk slA r.aI.length slC) (aM.mk drA r.bD.length drC) r.ed (aM.mk heA r.aq.length heC))) U UW U U<|aH (Ag _ _ (aK [3,5,6,7,8,9,10,11,12]) ?_)
 refine cp U fun T22 Ah=>TL (bq.cells (bq.mk (bK.mk (aZ.mk (aM.mk a9 r.ah.aJ.length S)) r.ah.dM (aM.mk J r.ah.ai.length K) (aM.mk bA r.ah.ag.length bC) r.ah.bI r.ah.cv r.ah.bL) (aM.mk slA r.aI.length slC) (aM.mk drA r.bD.length drC) r.ed (aM.mk heA r.aq.length heC))) U Ub U U<|aH (Ah _ _ (aK [3,5,6,7,8,9,10,11,12]) ?_)
 refine cp U fun T23 Ai=>TL (bq.cells (bq.mk (bK.mk (aZ.mk (aM.mk a9 r.ah.aJ.length S)) r.ah.dM (aM.mk J r.ah.ai.length K) (aM.mk Y r.ah.ag.length Z) r.ah.bI r.ah.cv r.ah.bL) (aM.mk slA r.aI.length slC) (aM.mk drA r.bD.length drC) r.ed (aM.mk heA r.aq.length heC))) U UZ U U<|aH (Ai _ _ (aK [3,5,6,7,8,9,10,11,12]) ?_)
 refine fO U<|KK A4<|al fun _ AI=>WS fun _ AJ=>bg 1 U<|rS (SX (bQ U U) U U)<|rP 4 [] (mc 4 U I) ?_
 refine RK AJ<|aw<|ov ?_
 have E:(0≤r.ah.ai.length)∧(([]:List RA).length=0)∧(rH r.ah.ai ([]:List RA)):=by exact ⟨Nat.zero_le _,rfl,fun k m a _ h=>by simp at h⟩
 refine bO (ι:={z:Nat×(List RA) // (z.1≤r.ah.ai.length)∧(z.2.length=z.1)∧(rH r.ah.ai z.2)}) [1,2,3,39] [1,3,4,5,6,7,8,9,10,11,12,13] U U (fun z=>[(40,(vI (z.1.1:Int)))]) (fun z=>[(bo (aU au.owns (r.ah.ai.take z.1.1) z.1.2)),(own J K 127 2 (List.zipWith au.cells r.ah.ai (ky z.1.2 az z.1.1)))]) (fun _=>rfl) (fun _=>rfl) (fun z=>r.ah.ai.length-z.1.1) ⟨(0,([]:List RA)),E⟩ (aQ U) (aK [1,3,4,5,6,7,8,9,10,11,12,13,0,2]) ?_
 clear E
 rintro ⟨⟨i,bz⟩,⟨AE,B,V⟩⟩ J26 AF
 try dsimp only at AE B V
 try dsimp only
 refine WS fun _ AK=>rP 1 [] I ?_
 refine RK AK<|al fun _ AM=>cM U (aT fun Az=>?_) (aS fun Az=>?_)
 ·refine WK AM<|al fun _ AN=>aw<|WS fun _ AO=>rP 2 [] I ?_
  refine RK AO<|dR cD [13,16] [10,11,12,13,14] [0] [0,1,2,3,4,5,6,7,8,9,10,11,12] [0,1,2,3,4,5,6,7,8,9,10,11,12,13] U U U U U<|eS U (MV U)<|eS U (SX (bQ U U) U U)<|eS U (FA 2 U fD U)<|eS U (L1 (vS J r.ah.ai.length K) 3 U cq U U)<|eS U (MV U)<|eS U (MV U)<|eS U (SX (bQ U U) U U)<|eS U (FA 2 U fD U)<|eS U (L1 (vS J r.ah.ai.length K) 3 U cq U U)<|eS U (MV U) ?_
  obtain ⟨x,hx⟩:=aN r.ah.ai i om
  obtain ⟨xa,s⟩:=aN az i om
  have Ay:(List.zipWith au.cells r.ah.ai (ky bz az i))[i]? =some (au.cells x xa):=dZ hx (zF B s)
  have BY:=(C.QN _ _ _ hx s).2
  refine fS U (IA i U (ak (n:=r.ah.ai.length) 13 U (g0 (by rw [iD B om]; exact C.oi))) zM dc om om) ?_
  refine fS U (nM ((i*2)+1) U (ak (n:=r.ah.ai.length) 13 U (g0 (by rw [iD B om]; exact C.oi))) (Nat.mul_pos om dc) fD U) ?_
  refine fS U (gF i 1 (vS xa.1 x.bu.length xa.2) U cq (ak (n:=r.ah.ai.length) 13 U (g0 (by rw [iD B om]; exact C.oi))) Ay U dc U) ?_
  refine fS U (IA i U (ak (n:=r.ah.ai.length) 13 U (g0 (by rw [iD B om]; exact C.oi))) zM dc om om) ?_
  refine fS U (nM ((i*2)+1) U (ak (n:=r.ah.ai.length) 13 U (g0 (by rw [iD B om]; exact C.oi))) (Nat.mul_pos om dc) fD U) ?_
  refine e8 U<|iE U fun T32 Aj=>?_
  refine cX (KI x.bu xa.1 xa.2 sd) (ay (show jc _ (rd xa.1 x.bu.length 3 (x.bu.map cG.cells)).holds from (dy 6 U (cj hx s (by simp [au.gX]))))<|aL) U fun BC BP=>?_
  obtain ⟨P,T⟩:=BC
  try dsimp only
  refine aH (Aj _ _ (aK [1,2,3,4,5,6,7,8,9,10,11,12,13]) (aK [1,2,3,4,5,6,7,8,9,10,11,12,13,14]) ?_)
  refine cp U fun T37 Al=>eH (k:=i) (o:=1) (vs:=[(vS P x.bu.length T)]) (es':=(List.zipWith au.cells r.ah.ai (ky (bz++[(P,T)]) az (i+1)))) (C':=[_,_,_,_,_,_,_,_,_,_,_,_,_,_,(own J K 127 2 (List.zipWith au.cells r.ah.ai (ky (bz++[(P,T)]) az (i+1))))]) 14 U U U SC U U U U Ay U dc (by exact xK (c:=au.cells) (b:=(P,T)) hx B s) U<|aH (Al _ _ (aK [1,2,3,4,5,6,7,8,9,10,11,12,13]) ?_)
  refine fO U<|aD<|KK AN<|an<|rP 2 [] I ?_
  refine aH<|Qy 0 U fun t=>?_
  simp only [List.length_map] at t
  refine JR (Y':=aU au.owns (r.ah.ai.take (i+1)) (bz++[(P,T)])) 13 0 U U (rO (f:=au.owns) (b:=(P,T)) hx B) ?_
  have Au:(vI (((i+1):Nat):Int))=(vI ((i:Int)+1)):=by exact cI om
  refine aR (AF ⟨((i+1),(bz++[(P,T)])),⟨om,by simp; omega,Lj V B hx t⟩⟩ _ _ _ U os (cN 4<|bk U Au<|dx.nil _) (aK [1,2,3,4,5,6,7,8,9,10,11,12,0,13]))
 refine bB<|ae<|ae<|ax<|KK AI<|al fun _ AP=>?_
 have A7:bz.length=r.ah.ai.length:=by omega
 have A8:=V
 rw [show (ky bz az i)=bz from xI om,show r.ah.ai.take i=r.ah.ai from List.take_of_length_le om]
 refine dR cD [2,5,8,10,12,14] [1,3,5] [0,1,2] [0,1,2,4,5,6,7,8,9,10,11,12,13] [0,1,2,3,4,5,6,7,8,9,10,11,12,13] U U U U U<|eS U (FA 7 U fD U)<|fS U (L1 (vS slA r.aI.length slC) 3 U cq U U)<|eS U (FA 8 U fD U)<|fS U (L1 (vS drA r.bD.length drC) 3 U cq U U)<|eS U (FA 10 U fD U)<|fS U (L1 (vS heA r.aq.length heC) 3 U cq U U)<|eS U (FA 7 U fD U)<|eS U (FA 8 U fD U)<|eS U (FA 10 U fD U)<|e8 U<|iE U fun T40 Am=>?_
 refine cX (vW r.aI slA slC sd) (bp [8]) U fun BD BQ=>?_
 obtain ⟨g,j⟩:=BD
 try dsimp only
 refine aH (Am _ _ (aK [1,2,3,5,6,7,8,9,10,11,12,13,14]) (aK [1,2,3,4,5,6,7,8,9,10,11,12,13,14]) ?_)
 refine iE U fun T45 An=>?_
 refine cX (vW r.bD drA drC sd) (bp [10]) U fun BE BR=>?_
 obtain ⟨w,AB⟩:=BE
 try dsimp only
 refine aH (An _ _ (aK [2,3,4,6,7,8,9,10,11,12,13,14,15]) (aK [2,3,4,5,6,7,8,9,10,11,12,13,14,15]) ?_)
 refine iE U fun T50 Ao=>?_
 refine cX (JA (List.zipWith cz r.aq ha) heA r.aq.length heC sd (by exact fw M) (by exact Gy _ _)) (bp [12]) U fun BF BS=>?_
 obtain ⟨W,X⟩:=BF
 try dsimp only
 refine aH (Ao _ _ (aK [3,4,5,7,8,9,10,11,12,13,14,15,16]) (aK [3,4,5,6,7,8,9,10,11,12,13,14,15,16]) ?_)
 refine cp U fun T55 Ap=>UU (bq.cells (bq.mk (bK.mk (aZ.mk (aM.mk a9 r.ah.aJ.length S)) r.ah.dM (aM.mk J r.ah.ai.length K) (aM.mk Y r.ah.ag.length Z) r.ah.bI r.ah.cv r.ah.bL) (aM.mk g r.aI.length j) (aM.mk drA r.bD.length drC) r.ed (aM.mk heA r.aq.length heC))) U Ak U U<|aH (Ap _ _ (aK [3,4,5,7,8,9,10,11,12,13,14,15,16]) ?_)
 refine cp U fun T56 Aq=>UU (bq.cells (bq.mk (bK.mk (aZ.mk (aM.mk a9 r.ah.aJ.length S)) r.ah.dM (aM.mk J r.ah.ai.length K) (aM.mk Y r.ah.ag.length Z) r.ah.bI r.ah.cv r.ah.bL) (aM.mk g r.aI.length j) (aM.mk w r.bD.length AB) r.ed (aM.mk heA r.aq.length heC))) U Ak U U<|aH (Aq _ _ (aK [3,4,5,7,8,9,10,11,12,13,14,15,16]) ?_)
 refine cp U fun T57 Ar=>UU (bq.cells (bq.mk (bK.mk (aZ.mk (aM.mk a9 r.ah.aJ.length S)) r.ah.dM (aM.mk J r.ah.ai.length K) (aM.mk Y r.ah.ag.length Z) r.ah.bI r.ah.cv r.ah.bL) (aM.mk g r.aI.length j) (aM.mk w r.bD.length AB) r.ed (aM.mk W r.aq.length X))) U UA U U<|aH (Ar _ _ (aK [3,4,5,7,8,9,10,11,12,13,14,15,16]) ?_)
 refine fO U<|KK AP<|al fun _ AQ=>WS fun _ AR=>rP 4 [] (mc 6 U I) ?_
 refine RK AR<|aw<|ov ?_
 have E:(0≤r.aq.length)∧(([]:List cQ).length=0)∧(∀ (k:Nat) y (a:cQ),r.aq[k]? =some y→([]:List cQ)[k]? =some a→a.2.length=y.length):=by exact ⟨Nat.zero_le _,rfl,fun k y a _ q=>by simp at q⟩
 refine bO (ι:={z:Nat×(List cQ) // (z.1≤r.aq.length)∧(z.2.length=z.1)∧(∀ (k:Nat) y (a:cQ),r.aq[k]? =some y→z.2[k]? =some a→a.2.length=y.length)}) [1,2,74] [2,3,4,5,6,7,8,9,10,11,12,13,14,15,16,17] U U (fun z=>[(75,(vI (z.1.1:Int)))]) (fun z=>[(bo (aU gT (r.aq.take z.1.1) z.1.2)),(own W X 47 1 (List.zipWith cz r.aq (ky z.1.2 ha z.1.1)))]) (fun _=>rfl) (fun _=>rfl) (fun z=>r.aq.length-z.1.1) ⟨(0,([]:List cQ)),E⟩ (aQ U) (aK [2,3,4,5,6,7,8,9,10,11,12,13,14,15,16,17,0,1]) ?_
 clear E
 rintro ⟨⟨h,hz⟩,⟨l,A,L⟩⟩ J60 AG
 try dsimp only at l A L
 try dsimp only
 refine WS fun _ AS=>rP 1 [] I ?_
 refine RK AS<|al fun _ AT=>bR U (aS fun A0=>?_) (aT fun A0=>?_)
 ·refine bB<|ae<|ae<|ax<|KK AQ<|al fun _ Ad=>?_
  have A_:sP r.aq hz:=⟨om,L⟩
  rw [show (ky hz ha h)=hz from xI om,show r.aq.take h=r.aq from List.take_of_length_le om]
  refine an<|rP 1 [] (mc 5 U I) ?_
  refine OY U tw U<|RK Ad<|ar ?_
  refine LX hQ (a9,S,J,K,bz,Y,Z,g,j,w,AB,W,X,hz) [3,15,14,2,1,0,17,16] [0] (mc 4 U I) U (by show List.all _ _=true; simp only [fJ,List.all_nil,gl,kz,Bool.and_true]; rfl) U U ?_
  exact ⟨⟨A7,A8⟩,A_⟩
 refine WK AT<|al fun _ AU=>aw<|WS fun _ AV=>rP 2 [] I ?_
 refine RK AV<|al fun _ AW=>dR cD [8,10] [6,7,8] [0] [0,1,2,3,4,5,6,7,8,9,10,11,12,13,14,15,16] [0,1,2,3,4,5,6,7,8,9,10,11,12,13,14,15,16,17] U U U U U<|eS U (FA 10 U fD U)<|eS U (L1 (vS W r.aq.length X) 5 U cq U U)<|eS U (MV U)<|eS U (FA 10 U fD U)<|eS U (L1 (vS W r.aq.length X) 5 U cq U U)<|eS U (MV U) ?_
 obtain ⟨ht,N⟩:=aN r.aq h om
 obtain ⟨D,O⟩:=aN ha h om
 have u:(List.zipWith cz r.aq (ky hz ha h))[h]? =some (cz ht D):=dZ N (zF A O)
 have AD:=hin.oF _ _ _ N O
 have e:=AD.oi
 have A9:=AD.len
 refine fS U (IA h U (ak (n:=r.aq.length) 17 U (fw (by rw [iD A om]; exact M))) rj dc om om) ?_
 refine fS U (gF h 0 (vS D.1.1 ht.length D.1.2) U cq (ak (n:=r.aq.length) 17 U (fw (by rw [iD A om]; exact M))) u U dc U) ?_
 refine fS U (IA h U (ak (n:=r.aq.length) 17 U (fw (by rw [iD A om]; exact M))) rj dc om om) ?_
 refine e8 U<|iE U fun T67 As=>?_
 refine cX (IU (List.zipWith aA.cells ht D.2) D.1.1 ht.length D.1.2 sd (by exact p6 e) (by exact MA _ _)) (ay (show jc _ (rd D.1.1 ht.length 7 (List.zipWith aA.cells ht D.2)).holds from (dy 13 U (cj N O cm)))<|aL) U fun BG BT=>?_
 obtain ⟨G,H⟩:=BG
 try dsimp only
 refine aH (As _ _ (aK [1,2,3,4,5,6,7,8,9,10,11,12,13,14,15,16,17]) (aK [1,2,3,4,5,6,7,8,9,10,11,12,13,14,15,16,17,18]) ?_)
 refine cp U fun T72 At=>eH (k:=h) (o:=0) (vs:=[(vS G ht.length H)]) (es':=(List.zipWith cz r.aq (ky (hz++[((G,H),D.2)]) ha (h+1)))) (C':=[_,_,_,_,_,_,_,_,_,_,_,_,_,_,_,_,_,_,(own W X 47 1 (List.zipWith cz r.aq (ky (hz++[((G,H),D.2)]) ha (h+1))))]) 18 U U U UI U U U U u U dc (by exact xK (b:=((G,H),D.2)) N A O) U<|aH (At _ _ (aK [1,2,3,4,5,6,7,8,9,10,11,12,13,14,15,16,17]) ?_)
 refine fO U<|KK AW<|WS fun _ AX=>rP 3 [] (mc 6 U I) ?_
 have v:(List.zipWith cz r.aq (ky (hz++[((G,H),D.2)]) ha (h+1)))[h]? =some (cz ht ((G,H),D.2)):=dZ N (Jx A)
 refine rS (IA h U (ak (n:=r.aq.length) 18 U (fw (by rw [iD (by simp; omega) om]; exact M))) rj dc om om) ?_
 refine rS (gF h 0 (vS G ht.length H) U cq (ak (n:=r.aq.length) 18 U (fw (by rw [iD (by simp; omega) om]; exact M))) v U dc U) ?_
 refine rP 2 [] I ?_
 refine RK AX<|aw<|ov ?_
 have E:(0≤ht.length)∧(([]:List RA).length=0):=by exact ⟨Nat.zero_le _,rfl⟩
 refine bO (ι:={z:Nat×(List RA) // (z.1≤ht.length)∧(z.2.length=z.1)}) [1,2,5,74,75,93] [2,3,4,5,6,7,8,9,10,11,12,13,14,15,16,17,18,19] U U (fun z=>[(94,(vI (z.1.1:Int)))]) (fun z=>[(bo (aU oz (ht.take z.1.1) z.1.2)),(own G H 46 7 (List.zipWith aA.cells ht (ky z.1.2 D.2 z.1.1)))]) (fun _=>rfl) (fun _=>rfl) (fun z=>ht.length-z.1.1) ⟨(0,([]:List RA)),E⟩ (aQ U) (aK [2,3,4,5,6,7,8,9,10,11,12,13,14,15,16,17,18,19,0,1]) ?_
 clear E
 rintro ⟨⟨i,dz⟩,⟨p,F⟩⟩ J74 AH
 try dsimp only at p F
 try dsimp only
 refine WS fun _ AY=>rP 1 [] I ?_
 refine RK AY<|al fun _ AZ=>bR U (aS fun A1=>?_) (aT fun A1=>?_)
 ·refine bB<|ae<|ae<|ax<|aD<|KK AU<|an<|rP 2 [] I ?_
  refine aH ?_
  have BK:dz.length=ht.length:=by omega
  rw [show (ky dz D.2 i)=dz from xI om,show ht.take i=ht from List.take_of_length_le om]
  refine Pm (Z':=aU gT (r.aq.take (h+1)) (hz++[((G,H),dz)])) 16 18 19 U U (rO (f:=gT) (b:=((G,H),dz)) N A) ?_
  rw [Kl (y:=dz)]
  have Aw:(vI (((h+1):Nat):Int))=(vI ((h:Int)+1)):=by exact cI om
  refine aR (AG ⟨((h+1),(hz++[((G,H),dz)])),⟨om,by simp; omega,NV N L A dso⟩⟩ _ _ _ U os (cN 3<|bk U Aw<|dx.nil _) (aK [1,2,3,4,5,6,7,8,9,10,11,12,13,14,15,16,0,17]))
 refine WK AZ<|al fun _ Aa=>aw<|WS fun _ Ab=>rP 2 [] I ?_
 refine RK Ab<|al fun _ Ac=>?_
 refine Dq 19 U (by rw [p6 (by rw [iD F om]; exact e)]; omega) (fun BI Bb=>?_)
 refine an<|rP 3 [] (mc 5 U I) ?_
 refine rS (IA h U (ak (n:=r.aq.length) 17 U (fw (by rw [iD (by simp; omega) om]; exact M))) rj dc om om) ?_
 refine rS (gF h 0 (vS G ht.length H) U cq (ak (n:=r.aq.length) 17 U (fw (by rw [iD (by simp; omega) om]; exact M))) v U dc U) ?_
 refine rP 1 [] I ?_
 obtain ⟨d,hd⟩:=aN ht i om
 obtain ⟨da,AC⟩:=aN D.2 i om
 have Ax:(List.zipWith aA.cells ht (ky dz D.2 i))[i]? =some (aA.cells d da):=dZ hd (zF F AC)
 have BX:=AD.sig d (aX hd)
 refine rS (Vl i U Bb x4 om om)<|rS (U0 ((i*7)+4) U Bb fD U)<|bg 1 U<|RK Ac<|an<|rP 2 [] I ?_
 refine rS (SX (yN U U Bb) U U)<|rS (U0 (((i*7)+4)+2) U Bb fD U) ?_
 refine rS (gF i 6 (vS da.1 d.cx.aj.length da.2) U cq (ak (n:=ht.length) 19 U (p6 (by rw [iD F om]; exact e))) Ax U dc U) ?_
 refine cX (I0 d.cx.aj da.1 da.2 sd) (ay (show jc _ (rd da.1 d.cx.aj.length 2 (d.cx.aj.map aO.cells)).holds from (dy 13 U (cj N O (cS _ (cj hd AC (by simp [aA.gX]))))))<|aL) U fun BH BU=>?_
 obtain ⟨R,AA⟩:=BH
 try dsimp only
 refine rS (SX (yN U U Bb) U U)<|rS (U0 (((i*7)+4)+2) U Bb fD U)<|eH (k:=i) (o:=6) (vs:=[(vS R d.cx.aj.length AA)]) (es':=(List.zipWith aA.cells ht (ky (dz++[(R,AA)]) D.2 (i+1)))) (C':=[_,_,_,_,_,_,_,_,_,_,_,_,_,_,_,_,_,_,_,_,(own G H 46 7 (List.zipWith aA.cells ht (ky (dz++[(R,AA)]) D.2 (i+1))))]) 20 U U U UR U U U U Ax U dc (by exact xK (c:=aA.cells) (b:=(R,AA)) hd F AC) U<|aH<|aD<|KK Aa<|an<|rP 2 [] I ?_
 refine aH<|JR (Y':=aU oz (ht.take (i+1)) (dz++[(R,AA)])) 19 0 U U (rO (f:=oz) (b:=(R,AA)) hd F) ?_
 have Av:(vI (((i+1):Nat):Int))=(vI ((i:Int)+1)):=by exact cI om
 refine aR (AH ⟨((i+1),(dz++[(R,AA)])),⟨om,by simp; omega⟩⟩ _ _ _ U os (cN 6<|bk U Av<|dx.nil _) (aK [1,2,3,4,5,6,7,8,9,10,11,12,13,14,15,16,17,18,0,19]))
end
section
open Go.RowKit
theorem wH (r:cd) (kA:OA) (kC:Nat) (az:List RA) (cA:OA) (cC:Nat) (bA:OA) (bC:Nat) (slA:OA) (slC:Nat) (drA:OA) (drC:Nat) (ha:List cQ) (heA:OA) (heC:Nat) (tz:List RA) (tA:OA) (tC:Nat) (ms:Value) (gw:Nat) (h i:Int) (t:aa) (hin:fg r az ha) (hok:eW r):
 lu Tryz.prog 45 [(vP gw),(vI h),(vI i),(vA (aa.cells t))] [(rd kA r.ah.aJ.length 9 (r.ah.aJ.map ao.cells)),(rd cA r.ah.ai.length 2 (List.zipWith au.cells r.ah.ai az)),(e7 (aU au.gX r.ah.ai az)),(rd bA r.ah.ag.length 4 (r.ah.ag.map bE.cells)),(rd slA r.aI.length 1 (r.aI.map iC)),(rd drA r.bD.length 1 (r.bD.map iC)),(rd heA r.aq.length 1 (List.zipWith cz r.aq ha)),(e7 (aU hP r.aq ha)),(rd tA ((cP r).length) 1 (List.zipWith DD (cP r) tz)),(e7 (aU L9 (cP r) tz)),(bZ gw 88 (fR.cells (fR.mk (oy r kA kC cA cC bA bC slA slC drA drC heA heC) (aM.mk tA ((cP r).length) tC) ms)))] (fun (x:Bool×Int×(OA)×Nat×(OA)×Nat×(List RA)×(OA)×Nat×(OA)×Nat×(OA)×Nat×(OA)×Nat×(List cQ))=>bif x.1 then (vT [(vA (bq.cells (bq.mk (bK.mk (aZ.mk (aM.mk x.2.2.1 r.ah.aJ.length x.2.2.2.1)) r.ah.dM (aM.mk x.2.2.2.2.1 r.ah.ai.length x.2.2.2.2.2.1) (aM.mk x.2.2.2.2.2.2.2.1 r.ah.ag.length x.2.2.2.2.2.2.2.2.1) r.ah.bI r.ah.cv r.ah.bL) (aM.mk x.2.2.2.2.2.2.2.2.2.1 r.aI.length x.2.2.2.2.2.2.2.2.2.2.1) (aM.mk x.2.2.2.2.2.2.2.2.2.2.2.1 r.bD.length x.2.2.2.2.2.2.2.2.2.2.2.2.1) r.ed (aM.mk x.2.2.2.2.2.2.2.2.2.2.2.2.2.1 ((dL r.aq h i t).length) x.2.2.2.2.2.2.2.2.2.2.2.2.2.2.1)))),(vI 0)]) else (vT [(vA (bq.cells (bq.mk (bK.mk (aZ.mk (aM.mk none 0 0)) 0 (aM.mk none 0 0) (aM.mk none 0 0) 0 0 0) (aM.mk none 0 0) (aM.mk none 0 0) 0 (aM.mk none 0 0)))),(vI x.2.1)])) (fun (x:Bool×Int×(OA)×Nat×(OA)×Nat×(List RA)×(OA)×Nat×(OA)×Nat×(OA)×Nat×(OA)×Nat×(List cQ))=>(x.1=true→((pZ r h i t)=0∧(x.2.2.2.2.2.2.1.length=r.ah.ai.length∧rH r.ah.ai x.2.2.2.2.2.2.1)∧sP (dL r.aq h i t) x.2.2.2.2.2.2.2.2.2.2.2.2.2.2.2))∧(x.1=false→(x.2.1=(pZ r h i t)∧ ¬ (pZ r h i t)=0))) (fun (x:Bool×Int×(OA)×Nat×(OA)×Nat×(List RA)×(OA)×Nat×(OA)×Nat×(OA)×Nat×(OA)×Nat×(List cQ))=>bif x.1 then [(own x.2.2.1 x.2.2.2.1 122 9 (r.ah.aJ.map ao.cells)),(own x.2.2.2.2.1 x.2.2.2.2.2.1 127 2 (List.zipWith au.cells r.ah.ai x.2.2.2.2.2.2.1)),(bo (aU au.owns r.ah.ai x.2.2.2.2.2.2.1)),(own x.2.2.2.2.2.2.2.1 x.2.2.2.2.2.2.2.2.1 129 4 (r.ah.ag.map bE.cells)),(own x.2.2.2.2.2.2.2.2.2.1 x.2.2.2.2.2.2.2.2.2.2.1 3 1 (r.aI.map iC)),(own x.2.2.2.2.2.2.2.2.2.2.2.1 x.2.2.2.2.2.2.2.2.2.2.2.2.1 3 1 (r.bD.map iC)),(own x.2.2.2.2.2.2.2.2.2.2.2.2.2.1 x.2.2.2.2.2.2.2.2.2.2.2.2.2.2.1 47 1 (List.zipWith cz (dL r.aq h i t) x.2.2.2.2.2.2.2.2.2.2.2.2.2.2.2)),(bo (aU gT (dL r.aq h i t) x.2.2.2.2.2.2.2.2.2.2.2.2.2.2.2))] else []):=by
 have AI:=hin.line
 have AV:=hin.iN
 have AX:=hin.has
 have AP:=hin.iM
 have AM:=hin.draw
 have AQ:=dH (r:=r)
 have AZ:=hok.num
 have AY:=hok.nh
 refine du U2 Tryz.func45 U U fun w0 Q hQ hN=>?_
 try dsimp only
 refine WS fun _ AC=>fV U fun b2=>AL U Bx fun b3=>bg 1 U<|RK AC<|al fun _ AD=>WS fun _ J=>bg 1 U<|rS (SX (bQ U U) U U)<|rP 6 [] (mr 12 U I) ?_
 refine cU (xs:=[.tmp 18]) (cs:=[(vI h)]) U cy jd U U U U (by simp [Value.cells]) U U fun b6=>?_
 refine rS (CL (ej.eq (j_ 0 ((r.aq.length:Int)-1) ([h]) (some ⟨b6,0,none⟩) 1 sd) cT) (ay (aY 0 U U (by simp [bJ]) U)<|aL) U) ?_
 refine rP 2 [] I ?_
 refine db (t:=22) U (bx fun AA=>?_) (bw fun AA=>?_)
 ·refine bg 11 U<|RK J<|aP U<|WS fun _ AE=>rS (SX (bj (xs:=[]) (cs:=(bq.cells (bq.mk (bK.mk (aZ.mk (aM.mk none 0 0)) 0 (aM.mk none 0 0) (aM.mk none 0 0) 0 0 0) (aM.mk none 0 0) (aM.mk none 0 0) 0 (aM.mk none 0 0)))) U U (bh GW U)) U U)<|tP U tw U<|rP 1 [] I ?_
  refine RK AE<|ar ?_
  refine LX hQ (false,2,none,0,none,0,[],none,0,none,0,none,0,none,0,[]) [] [0] (mc 1 U I) U (by first|rfl|(show List.all _ _=true; simp only [cond_true,fJ,List.all_nil,gl,kz,Bool.and_true]; rfl)) U ?_ ?_
  ·first|rfl|(simp only [cond_true,iU]; rfl)
  ·refine ⟨AR,fun _=>?_⟩; first|exact pM (mg (r:=r) (h:=h) (i:=i) (t:=t) om)|exact pM (mg (r:=r) (h:=h) (i:=i) (t:=t) (fun q=>absurd q.2 asm))|exact pM (s_ (r:=r) (t:=t) ⟨om,asm⟩ A hd H)
 refine rP 2 [] I ?_
 refine cU (xs:=[.tmp 24]) (cs:=[(vI i)]) U cy jd U U U U (by simp [Value.cells]) U U fun b8=>?_
 refine rS (CL (ej.eq (Ao r kA kC az cA cC bA bC slA slC drA drC ha heA heC tz tA tC ms gw ([i]) (some ⟨b8,0,none⟩) 1 hin sd) cT) (lQ [4,5,6,7,8,9,10,11,12,13,14]<|ay (aY 0 U U (by simp [bJ]) U)<|aL) U) ?_
 refine rP 3 [] I ?_
 refine db (t:=29) U (bx fun AB=>?_) (bw fun AB=>?_)
 ·refine bg 4 U<|RK J<|aP U<|WS fun _ AF=>rS (SX (bj (xs:=[]) (cs:=(bq.cells (bq.mk (bK.mk (aZ.mk (aM.mk none 0 0)) 0 (aM.mk none 0 0) (aM.mk none 0 0) 0 0 0) (aM.mk none 0 0) (aM.mk none 0 0) 0 (aM.mk none 0 0)))) U U (bh GW U)) U U)<|GC U tw U<|rP 1 [] I ?_
  refine RK AF<|ar ?_
  refine LX hQ (false,2,none,0,none,0,[],none,0,none,0,none,0,none,0,[]) [] [0] (mc 2 U I) U (by first|rfl|(show List.all _ _=true; simp only [cond_true,fJ,List.all_nil,gl,kz,Bool.and_true]; rfl)) U ?_ ?_
  ·first|rfl|(simp only [cond_true,iU]; rfl)
  ·refine ⟨AR,fun _=>?_⟩; first|exact pM (mg (r:=r) (h:=h) (i:=i) (t:=t) om)|exact pM (mg (r:=r) (h:=h) (i:=i) (t:=t) (fun q=>absurd q.2 asm))|exact pM (s_ (r:=r) (t:=t) ⟨om,asm⟩ A hd H)
 refine fE 1 [] (mc 3 U I) U<|rS (CL (Fc t) (aL) U)<|rP 2 [] I ?_
 refine RK J<|cM U (bx fun Z=>?_) (bw fun Z=>?_)
 ·refine WS fun _ b=>rS (SX (bj (xs:=[]) (cs:=(bq.cells (bq.mk (bK.mk (aZ.mk (aM.mk none 0 0)) 0 (aM.mk none 0 0) (aM.mk none 0 0) 0 0 0) (aM.mk none 0 0) (aM.mk none 0 0) 0 (aM.mk none 0 0)))) U U (bh GW U)) U U)<|GC U tw U<|rP 1 [] I ?_
  refine RK b<|ar ?_
  refine LX hQ (false,2,none,0,none,0,[],none,0,none,0,none,0,none,0,[]) [] [0] (mc 2 U I) U (by first|rfl|(show List.all _ _=true; simp only [cond_true,fJ,List.all_nil,gl,kz,Bool.and_true]; rfl)) U ?_ ?_
  ·first|rfl|(simp only [cond_true,iU]; rfl)
  ·refine ⟨AR,fun _=>?_⟩; first|exact pM (mg (r:=r) (h:=h) (i:=i) (t:=t) om)|exact pM (mg (r:=r) (h:=h) (i:=i) (t:=t) (fun q=>absurd q.2 asm))|exact pM (s_ (r:=r) (t:=t) ⟨om,asm⟩ A hd H)
 refine WK AD<|al fun _ e=>WS fun _ f=>bg 1 U<|rS (SX (bQ U U) U U)<|rP 4 [] (mr 14 U I) ?_
 obtain ⟨ht,A⟩:=aN r.aq ((h).toNat) om
 obtain ⟨C,E⟩:=aN ha ((h).toNat) om
 have w:(List.zipWith cz r.aq ha)[(h).toNat]? =some (cz ht C):=dZ A E
 refine rS (IA ((h).toNat) U (aF 10 U) rj dc om om) ?_
 have AH:=hin.oF _ _ _ A E
 have AN:=AH.oi
 have AW:=(hok.oF ht (aX A)).1
 refine rS (gF ((h).toNat) 0 (vS C.1.1 ht.length C.1.2) U Qc (aF 10 U) w U dc U)<|rP 1 [] I ?_
 obtain ⟨d,hd⟩:=aN ht ((i).toNat) om
 obtain ⟨da,K⟩:=aN C.2 ((i).toNat) om
 have AG:(List.zipWith aA.cells ht C.2)[(i).toNat]? =some (aA.cells d da):=dZ hd K
 refine rS (IA ((i).toNat) U (show jc _ (rd C.1.1 ht.length 7 (List.zipWith aA.cells ht C.2)).holds from (dy 11 U (cj A E cm))) x4 dc om om)<|rS (nM (((i).toNat)*7) U (show jc _ (rd C.1.1 ht.length 7 (List.zipWith aA.cells ht C.2)).holds from (dy 11 U (cj A E cm))) (Nat.mul_pos om dc) Qm U)<|rS (gF ((i).toNat) 0 (vB d.Out) U Vq (show jc _ (rd C.1.1 ht.length 7 (List.zipWith aA.cells ht C.2)).holds from (dy 11 U (cj A E cm))) AG U dc U)<|RK f<|cM U (fun H=>?_) (fun H=>?_)
 ·refine WS fun _ g=>rS (SX (bj (xs:=[]) (cs:=(bq.cells (bq.mk (bK.mk (aZ.mk (aM.mk none 0 0)) 0 (aM.mk none 0 0) (aM.mk none 0 0) 0 0 0) (aM.mk none 0 0) (aM.mk none 0 0) 0 (aM.mk none 0 0)))) U U (bh GW U)) U U)<|GC U tw U<|rP 1 [] I ?_
  refine RK g<|ar ?_
  refine LX hQ (false,8,none,0,none,0,[],none,0,none,0,none,0,none,0,[]) [] [0] (mc 2 U I) U (by first|rfl|(show List.all _ _=true; simp only [cond_true,fJ,List.all_nil,gl,kz,Bool.and_true]; rfl)) U ?_ ?_
  ·first|rfl|(simp only [cond_true,iU]; rfl)
  ·refine ⟨AR,fun _=>?_⟩; first|exact pM (mg (r:=r) (h:=h) (i:=i) (t:=t) om)|exact pM (mg (r:=r) (h:=h) (i:=i) (t:=t) (fun q=>absurd q.2 asm))|exact pM (s_ (r:=r) (t:=t) ⟨om,asm⟩ A hd H)
 refine WK e<|WS fun _ j=>bg 1 U<|rS (SX (bQ U U) U U)<|rP 1 [] I ?_
 refine rS (Vf (bq.cells (oy r kA kC cA cC bA bC slA slC drA drC heA heC)) 14 U RQ U U U)<|cX (N5 r kA kC az cA cC bA bC slA slC drA drC ha heA heC hin) (bp [4,5,6,7,8,9,10,11]) U fun AK z=>?_
 obtain ⟨L,T,M,AT,S,N,V,O,W,P,X,R,Y,G⟩:=AK
 try dsimp only
 obtain ⟨⟨s,u⟩,D⟩:=z
 try dsimp only at s u D
 have AO:=D.1
 refine AL U Bx fun AS=>fQ U tw U<|RK j<|al fun _ l=>?_
 obtain ⟨B,F⟩:=aN G ((h).toNat) (by have:=D.1; omega)
 have y:(List.zipWith cz r.aq G)[(h).toNat]? =some (cz ht B):=dZ A F
 have AJ:=D.2 _ _ _ A F
 refine Pb 8 A F U U ?_
 try dsimp only
 refine dG cD 9 kr<|mI 3 [] (mc 3 U I) U<|dS (IA ((h).toNat) U (ak (n:=r.aq.length) 10 U (fw D.1)) rj dc om om)<|dS (gF ((h).toNat) 0 (vS B.1.1 ht.length B.1.2) U Qc (ak (n:=r.aq.length) 10 U (fw D.1)) y U dc U)<|dP 2 [] (mc 14 U I) ?_
 refine dS (SX (bj (xs:=[(1,.const (vB true)),(2,.tmp 59)]) (cs:=(br.cells (br.mk false true t (eL.mk 0 0 (aM.mk none 0 0))))) U U (bh O_ U)) U U) ?_
 obtain ⟨K,AU⟩:=aN B.2 ((i).toNat) om
 have v:(List.zipWith aA.cells ht B.2)[(i).toNat]? =some (aA.cells d K):=dZ hd AU
 refine dS (IA ((i).toNat) U (ak (n:=ht.length) 0 U (p6 AJ)) x4 dc om om)<|cO<|eH (k:=(i).toNat) (o:=0) (vs:=(br.cells (br.mk false true t (eL.mk 0 0 (aM.mk none 0 0))))) (es':=(List.zipWith aA.cells (ht.set (i).toNat (kE t)) (B.2.set (i).toNat (none,0)))) (C':=[(own B.1.1 B.1.2 46 7 (List.zipWith aA.cells (ht.set (i).toNat (kE t)) (B.2.set (i).toNat (none,0)))),_,_,_,_,_,_,_,_,_,_,_,_,_,_,_,_,_,_,_,_,_,_,_,_,_]) 0 U U U QG U U U U v U dc (by exact p5 (c:=aA.cells) (m:=kE t) (a:=(none,0))) U<|RK l<|al fun _ p=>Qd (d':=kE t) 1 hd AU U U U ?_
 refine Nv (h':=(ht.set (i).toNat (kE t))) (a':=(B.1,(B.2.set (i).toNat (none,0)))) 2 0 1 om (by have:=D.1; omega) U U ?_
 rw [← vM A,show List.zipWith cz r.aq G=List.zipWith cz (dL r.aq h i t) (G.set (h).toNat (B.1,(B.2.set (i).toNat (none,0)))) from by rw [vM A]; exact (He A F (by rw [List.length_set])).symm]
 replace D:=PI (i:=i) (t:=t) D A F
 refine an<|fE 1 [] (mc 1 U I) U<|Uu U tw U<|rP 1 [] I ?_
 refine RK p<|ar ?_
 refine LX hQ (true,0,L,T,M,AT,S,N,V,O,W,P,X,R,Y,(G.set (h).toNat (B.1,(B.2.set (i).toNat (none,0))))) [2,3,4,5,6,7,8,0] [0] (mc 11 U I) U (by first|rfl|(show List.all _ _=true; simp only [cond_true,fJ,List.all_nil,gl,kz,Bool.and_true]; rfl)) U ?_ ?_
 ·first|rfl|(simp only [cond_true,iU]; rfl)
 ·exact ⟨fun _=>⟨Me ⟨om,Z⟩ A hd H,⟨s,u⟩,D⟩,MR⟩
end
section
open Go.RowKit
theorem IW (h i:Int) (t:aa) (r:cd) (kA:OA) (kC:Nat) (az:List RA) (cA:OA) (cC:Nat) (bA:OA) (bC:Nat) (slA:OA) (slC:Nat) (drA:OA) (drC:Nat) (ha:List cQ) (heA:OA) (heC:Nat) (hin:fg r az ha):
 lu Tryz.prog 21 [(vA (bq.cells (oy r kA kC cA cC bA bC slA slC drA drC heA heC))),(vI h),(vI i),(vA (aa.cells t))] [(rd dF 3 2 dg),(rd kA r.ah.aJ.length 9 (r.ah.aJ.map ao.cells)),(rd cA r.ah.ai.length 2 (List.zipWith au.cells r.ah.ai az)),(e7 (aU au.gX r.ah.ai az)),(rd bA r.ah.ag.length 4 (r.ah.ag.map bE.cells)),(rd slA r.aI.length 1 (r.aI.map iC)),(rd drA r.bD.length 1 (r.bD.map iC)),(rd heA r.aq.length 1 (List.zipWith cz r.aq ha)),(e7 (aU hP r.aq ha))] (fun (x:Bool×Int×(OA)×Nat×(OA)×Nat×(List RA)×(OA)×Nat×(OA)×Nat×(OA)×Nat×(OA)×Nat×(List cQ))=>bif x.1 then (vT [(vA (bq.cells (bq.mk (bK.mk (aZ.mk (aM.mk x.2.2.1 r.ah.aJ.length x.2.2.2.1)) r.ah.dM (aM.mk x.2.2.2.2.1 r.ah.ai.length x.2.2.2.2.2.1) (aM.mk x.2.2.2.2.2.2.2.1 r.ah.ag.length x.2.2.2.2.2.2.2.2.1) r.ah.bI r.ah.cv r.ah.bL) (aM.mk x.2.2.2.2.2.2.2.2.2.1 r.aI.length x.2.2.2.2.2.2.2.2.2.2.1) (aM.mk x.2.2.2.2.2.2.2.2.2.2.2.1 r.bD.length x.2.2.2.2.2.2.2.2.2.2.2.2.1) r.ed (aM.mk x.2.2.2.2.2.2.2.2.2.2.2.2.2.1 ((dL r.aq h i t).length) x.2.2.2.2.2.2.2.2.2.2.2.2.2.2.1)))),(vI 0)]) else (vT [(vA (bq.cells (bq.mk (bK.mk (aZ.mk (aM.mk none 0 0)) 0 (aM.mk none 0 0) (aM.mk none 0 0) 0 0 0) (aM.mk none 0 0) (aM.mk none 0 0) 0 (aM.mk none 0 0)))),(vI x.2.1)])) (fun (x:Bool×Int×(OA)×Nat×(OA)×Nat×(List RA)×(OA)×Nat×(OA)×Nat×(OA)×Nat×(OA)×Nat×(List cQ))=>(x.1=true→((dQ r h i t)=0∧(x.2.2.2.2.2.2.1.length=r.ah.ai.length∧rH r.ah.ai x.2.2.2.2.2.2.1)∧sP (dL r.aq h i t) x.2.2.2.2.2.2.2.2.2.2.2.2.2.2.2))∧(x.1=false→(x.2.1=(dQ r h i t)∧ ¬ (dQ r h i t)=0))) (fun (x:Bool×Int×(OA)×Nat×(OA)×Nat×(List RA)×(OA)×Nat×(OA)×Nat×(OA)×Nat×(OA)×Nat×(List cQ))=>bif x.1 then [(own x.2.2.1 x.2.2.2.1 122 9 (r.ah.aJ.map ao.cells)),(own x.2.2.2.2.1 x.2.2.2.2.2.1 127 2 (List.zipWith au.cells r.ah.ai x.2.2.2.2.2.2.1)),(bo (aU au.owns r.ah.ai x.2.2.2.2.2.2.1)),(own x.2.2.2.2.2.2.2.1 x.2.2.2.2.2.2.2.2.1 129 4 (r.ah.ag.map bE.cells)),(own x.2.2.2.2.2.2.2.2.2.1 x.2.2.2.2.2.2.2.2.2.2.1 3 1 (r.aI.map iC)),(own x.2.2.2.2.2.2.2.2.2.2.2.1 x.2.2.2.2.2.2.2.2.2.2.2.2.1 3 1 (r.bD.map iC)),(own x.2.2.2.2.2.2.2.2.2.2.2.2.2.1 x.2.2.2.2.2.2.2.2.2.2.2.2.2.2.1 47 1 (List.zipWith cz (dL r.aq h i t) x.2.2.2.2.2.2.2.2.2.2.2.2.2.2.2)),(bo (aU gT (dL r.aq h i t) x.2.2.2.2.2.2.2.2.2.2.2.2.2.2.2))] else []):=by
 have u:=hin.line
 have AD:=hin.iN
 have AE:=hin.has
 have AA:=hin.iM
 have z:=hin.draw
 have e:=dH (r:=r)
 refine du kr Tryz.func21 U U fun w0 Q hQ hN=>?_
 try dsimp only
 refine WS fun _ s=>fV U fun b2=>fV U fun b3=>AL U Bx fun b4=>bg 1 U<|RK s<|WS fun _ Y=>rP 1 [] (mc 2 U I) ?_
 refine cX (oe r kA kC az cA cC bA bC slA slC drA drC ha heA heC hin) (bp [3,4,5,6,7,8,9,10,11]) U fun y6 g=>?_
 obtain ⟨k,AC,q,S,m,o,p⟩:=y6
 cases k
 ·obtain ⟨M,he⟩:=g.2 rfl
  try dsimp only at M he
  subst M
  try dsimp only [cond_true,cond_false,List.cons_append,List.nil_append]
  refine bg 5 U<|RK Y<|al fun _ y=>WS fun _ AB=>rP 2 [] I ?_
  refine RK AB<|bR U (bw fun T=>?_) (bx fun T=>?_)
  ·exact absurd T he
  refine WS fun _ V=>rS (SX (bj (xs:=[]) (cs:=(bq.cells (bq.mk (bK.mk (aZ.mk (aM.mk none 0 0)) 0 (aM.mk none 0 0) (aM.mk none 0 0) 0 0 0) (aM.mk none 0 0) (aM.mk none 0 0) 0 (aM.mk none 0 0)))) U U (bh GW U)) U U)<|bg 1 U<|fQ U tw U<|rP 1 [] I ?_
  refine RK V<|ar ?_
  refine LX hQ (false,(bX r),none,0,none,0,[],none,0,none,0,none,0,none,0,[]) [] [0] (mc 0 U I) U (by first|rfl|(show List.all _ _=true; simp only [cond_true,fJ,List.all_nil,gl,kz,Bool.and_true]; rfl)) U ?_ ?_
  ·first|rfl|(simp only [cond_true,iU]; rfl)
  ·refine ⟨AR,fun _=>?_⟩; first|exact K3 (r8 (h:=h) (i:=i) (t:=t) he) he|exact K3 (o1 (h:=h) (i:=i) (t:=t) b) he
 obtain ⟨he,f⟩:=g.1 rfl
 try dsimp only [cond_true,cond_false,List.cons_append,List.nil_append]
 have b:=he
 try dsimp only at f
 have d:=(iJ he).2
 refine bg 5 U<|RK Y<|al fun _ W=>WS fun _ X=>bg 1 U<|rS (SX (b_ (r:= .bool false) U U U nI) U U)<|RK X<|aV U<|WK W<|WS fun _ N=>rP 4 [] (mc 5 U I) ?_
 refine cX (wH r kA kC az cA cC bA bC slA slC drA drC ha heA heC p m o (Value.map (some S)) q h i t hin (by exact d)) (lQ [8,9,10,11,12,13,14,15]<|ay (ak (n:=(cP r).length) 1 U (mM (by rw [e]; exact f)))<|ay (dW 2 U td)<|fH 0 U U<|aL) U fun v P=>?_
 obtain ⟨l,w,A,G,B,H,R,C,AF,D,J,E,K,F,L,j⟩:=v
 cases l
 ·obtain ⟨M,he⟩:=P.2 rfl
  try dsimp only at M he
  subst M
  try dsimp only [cond_true,cond_false,List.cons_append,List.nil_append]
  refine bg 2 U<|OY U tw U<|rP 1 [] I ?_
  refine RK N<|ar ?_
  refine LX hQ (false,(pZ r h i t),none,0,none,0,[],none,0,none,0,none,0,none,0,[]) [] [0] (mc 4 U I) U (by first|rfl|(show List.all _ _=true; simp only [cond_true,fJ,List.all_nil,gl,kz,Bool.and_true]; rfl)) U ?_ ?_
  ·first|rfl|(simp only [cond_true,iU]; rfl)
  ·refine ⟨AR,fun _=>?_⟩; first|exact K3 (r8 (h:=h) (i:=i) (t:=t) he) he|exact K3 (o1 (h:=h) (i:=i) (t:=t) b) he
 obtain ⟨O,⟨Z,a⟩,c⟩:=P.1 rfl
 try dsimp only [cond_true,cond_false,List.cons_append,List.nil_append]
 try dsimp only at O Z a c
 refine bg 2 U<|ji (vs:=(bq.cells (bq.mk (bK.mk (aZ.mk (aM.mk A r.ah.aJ.length G)) r.ah.dM (aM.mk B r.ah.ai.length H) (aM.mk C r.ah.ag.length AF) r.ah.bI r.ah.cv r.ah.bL) (aM.mk D r.aI.length J) (aM.mk E r.bD.length K) r.ed (aM.mk F ((dL r.aq h i t).length) L)))) (cs':=(bq.cells (bq.mk (bK.mk (aZ.mk (aM.mk A r.ah.aJ.length G)) r.ah.dM (aM.mk B r.ah.ai.length H) (aM.mk C r.ah.ag.length AF) r.ah.bI r.ah.cv r.ah.bL) (aM.mk D r.aI.length J) (aM.mk E r.bD.length K) r.ed (aM.mk F ((dL r.aq h i t).length) L)))) (C':=[_,_,_,_,_,_,_,_,_,_,_,_,(bZ b4 32 (bq.cells (bq.mk (bK.mk (aZ.mk (aM.mk A r.ah.aJ.length G)) r.ah.dM (aM.mk B r.ah.ai.length H) (aM.mk C r.ah.ag.length AF) r.ah.bI r.ah.cv r.ah.bL) (aM.mk D r.aI.length J) (aM.mk E r.bD.length K) r.ed (aM.mk F ((dL r.aq h i t).length) L)))),_,_,_,_,_,_,_,_,_,_,_]) 12 U U U tw U U U U U U U<|rP 1 [] I ?_
 refine RK N<|ar ?_
 refine LX hQ (true,0,A,G,B,H,R,C,AF,D,J,E,K,F,L,j) [0,1,2,3,4,5,6,7] [0] (mc 12 U I) U (by first|rfl|(show List.all _ _=true; simp only [cond_true,fJ,List.all_nil,gl,kz,Bool.and_true]; rfl)) U ?_ ?_
 ·first|rfl|(simp only [cond_true,iU]; rfl)
 ·exact ⟨fun _=>⟨(o1 he).trans O,⟨Z,a⟩,c⟩,MR⟩
end
section
open Go.RowKit
theorem Nd (la:List Int) (laA:OA) (laC:Nat) (lb:List Int) (lbA:OA) (lbC:Nat) (h1:la.length≤1000000) (h2:lb.length≤1000000):
 ej Tryz.prog 46 [(vS laA la.length laC),(vS lbA lb.length lbC)] [(rd laA la.length 1 (la.map iC)),(rd lbA lb.length 1 (lb.map iC))] (vB (decide (la=lb))):=by
 refine bH kr Tryz.func46 U U fun W Q hQ hN=>?_
 try dsimp only
 refine WS fun _ K=>bg 1 U<|RK K<|al fun _ L=>WS fun _ M=>rP 5 [] I ?_
 refine RK M<|cM U (bx fun hl=>?_) (bw fun hl=>?_)
 ·refine WS fun _ N=>rP 1 [] I ?_
  refine RK N<|ar<|Q1 hQ U U U ?_
  first|exact cB (cr (nk hx hy h)).symm|exact cB (fM (np om A om)).symm|exact cB (cr (fun e=>by subst e; omega)).symm
 refine WK L<|al fun _ O=>WS fun _ P=>rP 3 [] I ?_
 refine RK P<|aw ?_
 have B:(0≤la.length)∧(la.take 0=lb.take 0):=by simp
 refine bO (ι:={z:Nat // (z≤la.length)∧(la.take z=lb.take z)}) [0,1,12] [0,1] U U (fun z=>[(13,(vI (z.1:Int)))]) (fun z=>[]) (fun _=>rfl) (fun _=>rfl) (fun z=>la.length-z.1) ⟨0,B⟩ (aQ U) (aK [0,1]) ?_
 clear B
 rintro ⟨i,⟨T,A⟩⟩ J7 J
 try dsimp only
 refine WS fun _ R=>rP 1 [] I ?_
 refine RK R<|al fun _ S=>bR U (aS fun AB=>?_) (aT fun AB=>?_)
 ·refine bB<|ae<|ae<|ax<|KK O<|WS fun _ G=>rP 1 [] I ?_
  refine RK G<|ar<|Q1 hQ U U U ?_
  first|exact cB (cr (nk hx hy h)).symm|exact cB (fM (np om A om)).symm|exact cB (cr (fun e=>by subst e; omega)).symm
 refine WK S<|al fun _ C=>aw<|WS fun _ D=>bg 2 U<|RK D<|al fun _ E=>dG cD 9 kr<|dP 2 [] I ?_
 obtain ⟨x,hx⟩:=aN la i om
 have AA:=bP iC hx
 refine dS (IA i U (aF 0 U) cy dc om om)<|dS (gF i 0 (vI x) U cq (aF 0 U) AA U dc U)<|dP 2 [] I ?_
 obtain ⟨y,hy⟩:=aN lb i om
 have V:=bP iC hy
 refine dS (IA i U (aF 1 U) cy dc om om)<|dS (gF i 0 (vI y) U cq (aF 1 U) V U dc U)<|dP 1 [] I ?_
 refine cO<|RK E<|cM U (bx fun h=>?_) (bw fun h=>?_)
 ·refine WS fun _ F=>rP 1 [] I ?_
  refine RK F<|ar<|Q1 hQ U U U ?_
  first|exact cB (cr (nk hx hy h)).symm|exact cB (fM (np om A om)).symm|exact cB (cr (fun e=>by subst e; omega)).symm
 refine bY<|aD<|KK C<|an<|rP 2 [] I ?_
 refine aH ?_
 have H:(vI (((i+1):Nat):Int))=(vI ((i:Int)+1)):=by exact cI om
 refine aR (J ⟨(i+1),⟨om,ui A hx hy h⟩⟩ _ _ _ U os (cN 3<|bk U H<|dx.nil _) (aK [0,1]))
theorem HW (h i:Int) (t:aa) (r:cd) (kA:OA) (kC:Nat) (az:List RA) (cA:OA) (cC:Nat) (bA:OA) (bC:Nat) (slA:OA) (slC:Nat) (drA:OA) (drC:Nat) (ha:List cQ) (heA:OA) (heC:Nat) (hin:fg r az ha):
 lu Tryz.prog 23 [(vA (bq.cells (oy r kA kC cA cC bA bC slA slC drA drC heA heC))),(vI h),(vI i),(vA (aa.cells t))] [(rd dF 3 2 dg),(rd kA r.ah.aJ.length 9 (r.ah.aJ.map ao.cells)),(rd cA r.ah.ai.length 2 (List.zipWith au.cells r.ah.ai az)),(e7 (aU au.gX r.ah.ai az)),(rd bA r.ah.ag.length 4 (r.ah.ag.map bE.cells)),(rd slA r.aI.length 1 (r.aI.map iC)),(rd drA r.bD.length 1 (r.bD.map iC)),(rd heA r.aq.length 1 (List.zipWith cz r.aq ha)),(e7 (aU hP r.aq ha))] (fun (x:(OA)×Nat)=>(vT [(vS x.1 ((cw r h i t).length) x.2),(vI (dQ r h i t))])) (fun (x:(OA)×Nat)=>True) (fun (x:(OA)×Nat)=>[(own x.1 x.2 3 1 ((cw r h i t).map iC))]):=by
 have At:=hin.line
 have BI:=hin.iN
 have BJ:=hin.has
 have A6:=hin.iM
 have A4:=hin.draw
 have Ab:=dH (r:=r)
 refine du kr Tryz.func23 U U fun w0 Q hQ hN=>?_
 try dsimp only
 refine WS fun _ As=>fV U fun b2=>fV U fun b3=>bg 2 U<|RK As<|WS fun _ AE=>rP 1 [] (mc 1 U I) ?_
 refine cX (oe r kA kC az cA cC bA bC slA slC drA drC ha heA heC hin) (bp [2,3,4,5,6,7,8,9,10]) U fun y5 Ac=>?_
 obtain ⟨Ae,BG,v,G,f,g,zK⟩:=y5
 cases Ae
 ·obtain ⟨B,he⟩:=Ac.2 rfl
  try dsimp only at B he
  subst B
  try dsimp only [cond_true,cond_false,List.cons_append,List.nil_append]
  refine bg 5 U<|RK AE<|al fun _ A2=>WS fun _ AA=>rP 2 [] I ?_
  refine RK AA<|bR U (bw fun w=>?_) (bx fun w=>?_)
  ·exact absurd w he
  refine WS fun _ AB=>rP 1 [] I ?_
  have A:dQ r h i t=bX r:=r8 he
  have C:cw r h i t=[]:=w8 (by rw [A]; exact he)
  refine dT 3 1 ?_
  rw [show (own none 0 3 1 ([]:List (List Value)))=own none 0 3 1 ((cw r h i t).map iC) from by rw [C]; rfl]
  refine rP 2 [] I ?_
  refine RK AB<|ar ?_
  refine LX hQ (none,0) [0] [] I U U U ?_ ?_
  ·first|rfl|(rw [A,C]; rfl)|(rw [A]; rfl)
  ·trivial
 obtain ⟨he,m⟩:=Ac.1 rfl
 try dsimp only [cond_true,cond_false,List.cons_append,List.nil_append]
 have BL:=he
 try dsimp only at m
 have AY:=(iJ he).2
 refine bg 5 U<|RK AE<|al fun _ AC=>WS fun _ AD=>bg 1 U<|rS (SX (b_ (r:= .bool false) U U U nI) U U)<|RK AD<|aV U<|WK AC<|WS fun _ Z=>rP 4 [] (mc 4 U I) ?_
 refine cX (wH r kA kC az cA cC bA bC slA slC drA drC ha heA heC zK f g (Value.map (some G)) v h i t hin (by exact AY)) (lQ [7,8,9,10,11,12,13,14]<|ay (ak (n:=(cP r).length) 1 U (mM (by rw [Ab]; exact m)))<|ay (dW 2 U td)<|fH 0 U U<|aL) U fun Av d=>?_
 obtain ⟨Af,A0,L,S,M,T,o,N,BK,O,V,P,W,R,X,Ad⟩:=Av
 cases Af
 ·obtain ⟨B,he⟩:=d.2 rfl
  try dsimp only at B he
  subst B
  try dsimp only [cond_true,cond_false,List.cons_append,List.nil_append]
  refine bg 3 U<|AL U Bx fun BB=>fQ U tw U<|bg 1 U<|RK Z<|al fun _ A3=>WS fun _ AF=>rP 2 [] I ?_
  refine RK AF<|bR U (bw fun y=>?_) (bx fun y=>?_)
  ·exact absurd y he
  refine WS fun _ AG=>rP 1 [] I ?_
  have A:dQ r h i t=pZ r h i t:=o1 BL
  have C:cw r h i t=[]:=w8 (by rw [A]; exact he)
  refine dT 3 1 ?_
  rw [show (own none 0 3 1 ([]:List (List Value)))=own none 0 3 1 ((cw r h i t).map iC) from by rw [C]; rfl]
  refine rP 2 [] I ?_
  refine RK AG<|ar ?_
  refine LX hQ (none,0) [0] [] I U U U ?_ ?_
  ·first|rfl|(rw [A,C]; rfl)|(rw [A]; rfl)
  ·trivial
 obtain ⟨E,⟨j,AV⟩,J⟩:=d.1 rfl
 try dsimp only [cond_true,cond_false,List.cons_append,List.nil_append]
 try dsimp only at E j AV J
 have l:dQ r h i t=0:=(o1 BL).trans E
 have AW:=hin.rep j AV J
 refine bg 3 U<|AL U Bx fun BC=>fQ U tw U<|bg 1 U<|RK Z<|al fun _ AH=>WS fun _ AI=>bg 1 U<|rS (SX (b_ (r:= .bool false) U U U nI) U U)<|RK AI<|aV U<|WK AH<|WS fun _ AJ=>rP 1 [] (mc 0 U I) ?_
 refine cX (oe (jz r h i t) L S o M T N BK O V P W Ad R X (by exact AW)) (fH 15 U U<|ay (ak (n:=r.ah.aJ.length) 1 U sm)<|ay (ak (n:=r.ah.ai.length) 2 U (g0 j))<|ay (dW 3 U iS)<|ay (ak (n:=r.ah.ag.length) 4 U sm)<|ay (ak (n:=r.aI.length) 5 U sm)<|ay (ak (n:=r.bD.length) 6 U sm)<|ay (ak (n:=(dL r.aq h i t).length) 7 U (fw J.1))<|ay (hE 8 U J)<|aL) U fun Aw e=>?_
 obtain ⟨Ag,A1,s,p,Ah,Ai,UD⟩:=Aw
 cases Ag
 ·obtain ⟨B,he⟩:=e.2 rfl
  try dsimp only at B he
  subst B
  try dsimp only [cond_true,cond_false,List.cons_append,List.nil_append]
  exact absurd (yV l) he
 obtain ⟨he,m⟩:=e.1 rfl
 try dsimp only [cond_true,cond_false,List.cons_append,List.nil_append]
 have AZ:=lP BL
 have F:=nE BL
 have Aa:=lP he
 have A5:=nE he
 refine bg 5 U<|RK AJ<|WS fun _ AK=>bg 1 U<|RK AK<|al fun _ AM=>WS fun _ AN=>bg 1 U<|rS (SX (bQ U U) U U)<|rP 2 [] (mc 13 U I) ?_
 refine cX (Fe G) (aL) U fun An A7=>?_
 try dsimp only
 refine cX (yR (aB r) G An sd) (bp [17,0]) U fun Ax A8=>?_
 obtain ⟨BA,BE⟩:=Ax
 try dsimp only
 rw [show (aB r).length=(dj ((aB r).map (·.1))).length from by rw [gD,List.length_map]]
 refine rP 1 [] I ?_
 have AX:(dj ((aB r).map (·.1))).length≤5:=by rw [gD,List.length_map]; exact F
 refine rP 1 [] I ?_
 refine RK AN<|aw<|fY 3 1 ?_
 have D:(0≤(dj ((aB r).map (·.1))).length):=by exact Nat.zero_le _
 refine bO (ι:={z:Nat×(OA)×Nat // (z.1≤(dj ((aB r).map (·.1))).length)}) [10,13,47,48] [1,3,4,5,6,8,9,10,11,12,13,14,15,16,17,18,19,22,23,24,25,26,27,28,29,30] U U (fun z=>[(15,(vS z.1.2.1 ((((dj ((aB r).map (·.1))).take z.1.1).filter (fun u=> !decide (di (aB r) u (aG (aB r) u)=di (aB (jz r h i t)) u (aG (aB (jz r h i t)) u)))).length) z.1.2.2)),(49,(vI (z.1.1:Int)))]) (fun z=>[(own z.1.2.1 z.1.2.2 3 1 ((((dj ((aB r).map (·.1))).take z.1.1).filter (fun u=> !decide (di (aB r) u (aG (aB r) u)=di (aB (jz r h i t)) u (aG (aB (jz r h i t)) u)))).map iC))]) (fun _=>rfl) (fun _=>rfl) (fun z=>(dj ((aB r).map (·.1))).length-z.1.1) ⟨(0,none,0),D⟩ (aQ U) (aK [1,3,4,5,6,8,9,10,11,12,13,14,15,16,17,18,19,22,23,24,25,26,27,28,29,30,0]) ?_
 clear D
 rintro ⟨⟨k,a,c⟩,K⟩ J65 Y
 try dsimp only at K
 try dsimp only
 have BH:((((dj ((aB r).map (·.1))).take k).filter (fun u=> !decide (di (aB r) u (aG (aB r) u)=di (aB (jz r h i t)) u (aG (aB (jz r h i t)) u))))).length≤12:=Nat.le_trans (List.length_filter_le _ _) (by rw [List.length_take]; omega)
 refine WS fun _ AO=>rP 1 [] I ?_
 refine RK AO<|al fun _ AP=>bR U (aS fun Ar=>?_) (aT fun Ar=>?_)
 ·refine bB<|ae<|ae<|ax<|KK AM<|WS fun _ AS=>rP 1 [] I ?_
  have A:=l
  have C:cw r h i t=(((dj ((aB r).map (·.1))).take k).filter (fun u=> !decide (di (aB r) u (aG (aB r) u)=di (aB (jz r h i t)) u (aG (aB (jz r h i t)) u)))):=by rw [EG l,List.take_of_length_le om]
  rw [← C]
  refine rP 2 [] I ?_
  refine RK AS<|ar ?_
  refine LX hQ (a,c) [26] [] I U U U ?_ ?_
  ·first|rfl|(rw [A,C]; rfl)|(rw [A]; rfl)
  ·trivial
 refine WK AP<|al fun _ b=>aw<|WS fun _ AQ=>?_
 obtain ⟨x,hx⟩:=aN (dj ((aB r).map (·.1))) k om
 have Au:=bP iC hx
 refine rS (IA k U (ak (n:=(dj ((aB r).map (·.1))).length) 0 U sm) cy dc om om)<|rS (gF k 0 (vI x) U cq (ak (n:=(dj ((aB r).map (·.1))).length) 0 U sm) Au U dc U)<|bg 1 U<|RK AQ<|WS fun _ AR=>rP 2 [] I ?_
 refine cX (Am r kA kC cA cC bA bC slA slC drA drC heA heC f ((cP r).length) g G v (aB r) x (by exact AZ) (by exact BF (aX hx)) om) (bp [13,16]) U fun Ay A9=>?_
 obtain ⟨Aj,Ao⟩:=Ay
 try dsimp only
 refine rP 2 [] I ?_
 refine cX (Am (cd.mk r.ah r.aI r.bD r.ed (dL r.aq h i t)) L S M T N BK O V P W R X Ah ((cP (jz r h i t)).length) Ai p s (aB (jz r h i t)) x (by exact Aa) (by exact fun q=>by have:=KW E x; rw [q] at this; exact BF (aX hx) (Option.not_isSome_iff_eq_none.1 (by rw [← this]; decide))) om) (bp [2,5]) U fun Az A_=>?_
 obtain ⟨Ak,Ap⟩:=Az
 try dsimp only
 refine rS (CL (Nd (di (aB r) x (aG (aB r) x)) Aj Ao (di (aB (jz r h i t)) x (aG (aB (jz r h i t)) x)) Ak Ap (by exact Nat.le_trans wU om) (by exact Nat.le_trans wU om)) (ay (ak (n:=(di (aB r) x (aG (aB r) x)).length) 1 U sm)<|ay (ak (n:=(di (aB (jz r h i t)) x (aG (aB (jz r h i t)) x)).length) 0 U sm)<|aL) U)<|rP 1 [] I ?_
 refine RK AR<|bR U (bw fun H=>?_) (bx fun H=>?_)
 ·refine bY<|aD<|KK b<|an<|rP 1 [] I ?_
  have AX:(dj ((aB r).map (·.1))).length≤5:=by rw [gD,List.length_map]; exact F
  refine rP 1 [] I ?_
  refine aH ?_
  rw [show (((dj ((aB r).map (·.1))).take k).filter (fun u=> !decide (di (aB r) u (aG (aB r) u)=di (aB (jz r h i t)) u (aG (aB (jz r h i t)) u))))=(((dj ((aB r).map (·.1))).take (k+1)).filter (fun u=> !decide (di (aB r) u (aG (aB r) u)=di (aB (jz r h i t)) u (aG (aB (jz r h i t)) u)))) from (E9 hx (by simpa using H)).symm]
  have AU:(vI (((k+1):Nat):Int))=(vI ((k:Int)+1)):=by exact cI om
  refine aR (Y ⟨((k+1),a,c),(by first|omega|(simp only []; omega))⟩ _ _ _ U (by first|omega|(dsimp only; omega)) (cN 5<|bk U AU<|dx.nil _) (aK [2,3,4,5,6,7,8,9,10,11,12,13,14,15,16,17,18,19,20,21,22,23,24,25,26,27,28]))
 refine an<|rP 2 [] I ?_
 refine cU (xs:=[.tmp 62]) (cs:=[(vI x)]) U cy jd U U U U (by simp [Value.cells]) U U fun BD=>?_
 refine c_ (es2:=(List.map iC (((dj ((aB r).map (·.1))).take (k+1)).filter (fun u=> !decide (di (aB r) u (aG (aB r) u)=di (aB (jz r h i t)) u (aG (aB (jz r h i t)) u)))))) (m':=(((dj ((aB r).map (·.1))).take (k+1)).filter (fun u=> !decide (di (aB r) u (aG (aB r) u)=di (aB (jz r h i t)) u (aG (aB (jz r h i t)) u)))).length) 29 U U U ph U U sm (aY (es:=List.map iC [x]) 0 U U (by simp [bJ]) U) (j2 _) os (by simp only [maxLen]; first|omega|(simp; omega)) (by rw [wB hx (by simpa using H)]; simp) (by rw [wB hx (by simpa using H)]; simp) U fun Al Aq=>?_
 try dsimp only
 refine bg 1 U<|aH<|aD<|KK b<|an<|rP 1 [] I ?_
 have AX:(dj ((aB r).map (·.1))).length≤5:=by rw [gD,List.length_map]; exact F
 refine rP 1 [] I ?_
 refine aH ?_
 have AT:(vI (((k+1):Nat):Int))=(vI ((k:Int)+1)):=by exact cI om
 refine aR (Y ⟨((k+1),Al,Aq),(by first|omega|(simp only []; omega))⟩ _ _ _ U (by first|omega|(dsimp only; omega)) (cN 5<|bk U AT<|dx.nil _) (aK [3,4,5,6,7,8,9,10,11,12,13,14,15,16,17,18,19,20,21,22,23,24,25,26,27,28,29]))
end
section
open Go.RowKit
theorem lW (x y:Int):
 ej Tryz.prog 22 [(vI x),(vI y)] [] (vA (aa.cells (aa.mk x y))):=by
 refine bH kr Tryz.func22 U U fun D Q hQ hN=>?_
 try dsimp only
 refine WS fun _ A=>AL U dh fun C=>RK A<|WS fun _ B=>rP 2 [] I ?_
 refine rS (SX (bj (xs:=[(0,.tmp 5),(1,.tmp 6)]) (cs:=(aa.cells (aa.mk x y))) U U (bh gu U)) U U)<|fQ U cu U<|RK B<|ar ?_
 exact H2 hQ [0] (mc 0 U I) U U
theorem Ap (x:Int):
 ej Tryz.prog 60 [(vI x)] [] (vA (cJ.cells (cJ.mk 0 (aa.mk x x)))):=by
 refine bH kr Tryz.func60 U U fun D Q hQ hN=>?_
 try dsimp only
 refine WS fun _ A=>AL U Cw fun C=>RK A<|WS fun _ B=>rP 2 [] I ?_
 refine rS (CL (lW x x) (aL) U)<|rS (SX (bj (xs:=[(1,.tmp 5)]) (cs:=(cJ.cells (cJ.mk 0 (aa.mk x x)))) U U (bh RV U)) U U)<|fQ U Je U<|RK B<|ar ?_
 exact H2 hQ [0] (mc 0 U I) U U
theorem pY (x y:Int):
 ej Tryz.prog 39 [(vI x),(vI y)] [] (vA (br.cells (br.mk false true (aa.mk x y) (eL.mk 0 0 (aM.mk none 0 0))))):=by
 refine bH kr Tryz.func39 U U fun D Q hQ hN=>?_
 try dsimp only
 refine WS fun _ A=>AL U No fun C=>RK A<|WS fun _ B=>rP 2 [] I ?_
 refine rS (CL (lW x y) (aL) U)<|rS (SX (bj (xs:=[(1,.const (vB true)),(2,.tmp 7)]) (cs:=(br.cells (br.mk false true (aa.mk x y) (eL.mk 0 0 (aM.mk none 0 0))))) U U (bh O_ U)) U U)<|fQ U QG U<|RK B<|ar ?_
 exact H2 hQ [0] (mc 0 U I) U U
theorem N2:
 lu Tryz.prog 37 [] [] (fun (x:(OA)×Nat×(OA)×Nat×(List RA)×(OA)×Nat)=>(vA (bK.cells (bK.mk (aZ.mk (aM.mk x.1 ab.ah.aJ.length x.2.1)) ab.ah.dM (aM.mk x.2.2.1 ab.ah.ai.length x.2.2.2.1) (aM.mk x.2.2.2.2.2.1 ab.ah.ag.length x.2.2.2.2.2.2) ab.ah.bI ab.ah.cv ab.ah.bL)))) (fun (x:(OA)×Nat×(OA)×Nat×(List RA)×(OA)×Nat)=>x.2.2.2.2.1.length=ab.ah.ai.length∧eE ab.ah x.2.2.2.2.1) (fun (x:(OA)×Nat×(OA)×Nat×(List RA)×(OA)×Nat)=>[(own x.1 x.2.1 122 9 (ab.ah.aJ.map ao.cells)),(own x.2.2.1 x.2.2.2.1 127 2 (List.zipWith au.cells ab.ah.ai x.2.2.2.2.1)),(bo (aU au.owns ab.ah.ai x.2.2.2.2.1)),(own x.2.2.2.2.2.1 x.2.2.2.2.2.2 129 4 (ab.ah.ag.map bE.cells))]):=by
 refine du kr Tryz.func37 U U fun AA Q hQ hN=>?_
 try dsimp only
 refine WS fun _ E=>AL U T3 fun H=>RK E<|WS fun _ F=>bg 1 U<|RK F<|WS fun _ G=>rS (CL (lW 10000 10200) (aL) U)<|rS (CL (lW 0 100) (aL) U)<|rS (SX (bj (xs:=[(0,.const (vI 1)),(1,.tmp 2),(2,.tmp 3)]) (cs:=(ao.cells (ao.mk 1 (aa.mk 10000 10200) (aa.mk 0 100) (aa.mk 0 0) 0 0))) U U (bh RN U)) U U)<|cU (xs:=[.tmp 4]) (cs:=(ao.cells (ao.mk 1 (aa.mk 10000 10200) (aa.mk 0 100) (aa.mk 0 0) 0 0))) U yj E6 U U U U (by simp [Value.cells,ao.aW]) U U fun B=>rS (SX (bj (xs:=[(0,.tmp 5)]) (cs:=(aZ.cells (aZ.mk (aM.mk (some ⟨B,0,none⟩) 1 1)))) U U (bh TV U)) U U)<|rS (CL (lW 0 2) (aL) U)<|rS (SX (bj (xs:=[(0,.const (vI 0)),(1,.tmp 7)]) (cs:=(cG.cells (cG.mk 0 (aa.mk 0 2)))) U U (bh OW U)) U U)<|rS (CL (lW 5 6) (aL) U)<|rS (SX (bj (xs:=[(0,.const (vI 100000)),(1,.tmp 9)]) (cs:=(cG.cells (cG.mk 100000 (aa.mk 5 6)))) U U (bh OW U)) U U)<|cU (xs:=[.tmp 8,.tmp 10]) (cs:=((cG.cells (cG.mk 0 (aa.mk 0 2)))++(cG.cells (cG.mk 100000 (aa.mk 5 6))))) U qg rr U U U U (by simp [Value.cells,cG.aW]) U U fun A=>rS (SX (bj (xs:=[(0,.const (vI 100)),(1,.tmp 11)]) (cs:=(dv.cells (dv.mk 100 (aM.mk (some ⟨A,0,none⟩) 2 2)))) U U (bh SA U)) U U)<|cU (xs:=[.tmp 12]) (cs:=(dv.cells (dv.mk 100 (aM.mk (some ⟨A,0,none⟩) 2 2)))) U zM I6 U U U U (by simp [Value.cells,dv.aW]) U U fun C=>bg 1 U<|rS (CL (Ap 1000) (aL) U)<|rS (SX (bj (xs:=[(0,.tmp 15)]) (cs:=(bE.cells (bE.mk (cJ.mk 0 (aa.mk 1000 1000)) 0))) U U (bh KV U)) U U)<|bg 1 U<|rS (CL (Ap 4000) (aL) U)<|rS (SX (bj (xs:=[(0,.tmp 18)]) (cs:=(bE.cells (bE.mk (cJ.mk 0 (aa.mk 4000 4000)) 0))) U U (bh KV U)) U U)<|rP 1 [] I ?_
 refine rS (CL (Ap 9000) (aL) U)<|rS (SX (bj (xs:=[(0,.tmp 21)]) (cs:=(bE.cells (bE.mk (cJ.mk 0 (aa.mk 9000 9000)) 0))) U U (bh KV U)) U U)<|cU (xs:=[.tmp 16,.tmp 19,.tmp 22]) (cs:=((bE.cells (bE.mk (cJ.mk 0 (aa.mk 1000 1000)) 0))++(bE.cells (bE.mk (cJ.mk 0 (aa.mk 4000 4000)) 0))++(bE.cells (bE.mk (cJ.mk 0 (aa.mk 9000 9000)) 0)))) U vx Tn U U U U (by simp [Value.cells,bE.aW]) U U fun D=>rS (SX (bj (xs:=[(0,.tmp 6),(1,.const (vI 2000)),(4,.const (vI 1)),(5,.const (vI 1)),(6,.const (vI 1)),(2,.tmp 13),(3,.tmp 23)]) (cs:=(bK.cells (bK.mk (aZ.mk (aM.mk (some ⟨B,0,none⟩) 1 1)) 2000 (aM.mk (some ⟨C,0,none⟩) 1 1) (aM.mk (some ⟨D,0,none⟩) 3 3) 1 1 1))) U U (bh U_ U)) U U) ?_
 refine dU (es:=(ab.ah.aJ.map ao.cells)) (C':=[_,_,_,(own (some ⟨B,0,none⟩) 1 122 9 (ab.ah.aJ.map ao.cells)),_]) 3 U (lX ao.aW _) U (by show _≤maxLen; exact Nat.le_trans (m:=10) (show (1:Nat)≤10 by decide) dc) U ?_
 refine dU (es:=(yk.bu.map cG.cells)) (C':=[_,_,(own (some ⟨A,0,none⟩) 2 124 3 (yk.bu.map cG.cells)),_,_]) 2 U (lX cG.aW _) U (by show _≤maxLen; exact Nat.le_trans (m:=10) (show (2:Nat)≤10 by decide) dc) U ?_
 refine dU (es:=(List.zipWith au.cells ab.ah.ai [((some ⟨A,0,none⟩),2)])) (C':=[_,(own (some ⟨C,0,none⟩) 1 127 2 (List.zipWith au.cells ab.ah.ai [((some ⟨A,0,none⟩),2)])),_,_,_]) 1 U (by intro x hx; change x∈[au.cells yk ((some ⟨A,0,none⟩),2)] at hx; rw [List.mem_singleton.1 hx]; rfl) U (by show _≤maxLen; exact Nat.le_trans (m:=10) (show (1:Nat)≤10 by decide) dc) U ?_
 refine dU (es:=(ab.ah.ag.map bE.cells)) (C':=[(own (some ⟨D,0,none⟩) 3 129 4 (ab.ah.ag.map bE.cells)),_,_,_,_]) 0 U (lX bE.aW _) U (by show _≤maxLen; exact Nat.le_trans (m:=10) (show (3:Nat)≤10 by decide) dc) U ?_
 refine xS<|O5 (X:=[]) (X':=aU au.owns ab.ah.ai [((some ⟨A,0,none⟩),2)]) 0 3 U U U<|OY U U5 U<|RK G<|ar ?_
 refine LX hQ ((some ⟨B,0,none⟩),1,(some ⟨C,0,none⟩),1,[((some ⟨A,0,none⟩),2)],(some ⟨D,0,none⟩),3) [3,2,0,1] [0] (mc 4 U I) U (by simp only [fJ,List.all_nil,gl,Bool.and_true]; rfl) U U ?_
 exact ⟨U,SK 1 dc⟩
theorem MY:
 lu Tryz.prog 38 [] [] (fun (x:(OA)×Nat)=>(vA (eL.cells (eL.mk mD.Start mD.gi (aM.mk x.1 mD.aj.length x.2))))) (fun (x:(OA)×Nat)=>True) (fun (x:(OA)×Nat)=>[(own x.1 x.2 131 2 (mD.aj.map aO.cells))]):=by
 refine du kr Tryz.func38 U U fun E Q hQ hN=>?_
 try dsimp only
 refine WS fun _ B=>AL U Us fun D=>RK B<|WS fun _ C=>rS (SX (bj (xs:=[(0,.const (vI 0)),(1,.const (vI 10600))]) (cs:=(aO.cells (aO.mk 0 10600))) U U (bh EY U)) U U)<|rS (SX (bj (xs:=[(0,.const (vI 0)),(1,.const (vI 11000))]) (cs:=(aO.cells (aO.mk 0 11000))) U U (bh EY U)) U U)<|rS (SX (bj (xs:=[(0,.const (vI 1)),(1,.const (vI 12600))]) (cs:=(aO.cells (aO.mk 1 12600))) U U (bh EY U)) U U)<|cU (xs:=[.tmp 1,.tmp 2,.tmp 3]) (cs:=((aO.cells (aO.mk 0 10600))++(aO.cells (aO.mk 0 11000))++(aO.cells (aO.mk 1 12600)))) U zN FN U U U U (by simp [Value.cells,aO.aW]) U U fun A=>rS (SX (bj (xs:=[(0,.const (vI 10000)),(1,.const (vI 20000)),(2,.tmp 4)]) (cs:=(eL.cells (eL.mk 10000 20000 (aM.mk (some ⟨A,0,none⟩) 3 3)))) U U (bh U7 U)) U U)<|dU (es:=(mD.aj.map aO.cells)) (C':=[(own (some ⟨A,0,none⟩) 3 131 2 (mD.aj.map aO.cells)),_]) 0 U (lX aO.aW _) U dc U<|tP U Ur U<|RK C<|ar<|LX hQ ((some ⟨A,0,none⟩),3) [0] [0] (mc 1 U I) U U U U ?_
 trivial
end
section
open Go.RowKit
theorem js:
 lu Tryz.prog 19 [] [] (fun (x:(OA)×Nat×(OA)×Nat×(List RA)×(OA)×Nat×(OA)×Nat×(OA)×Nat×(OA)×Nat×(List cQ))=>(vA (bq.cells (bq.mk (bK.mk (aZ.mk (aM.mk x.1 ab.ah.aJ.length x.2.1)) ab.ah.dM (aM.mk x.2.2.1 ab.ah.ai.length x.2.2.2.1) (aM.mk x.2.2.2.2.2.1 ab.ah.ag.length x.2.2.2.2.2.2.1) ab.ah.bI ab.ah.cv ab.ah.bL) (aM.mk x.2.2.2.2.2.2.2.1 ab.aI.length x.2.2.2.2.2.2.2.2.1) (aM.mk x.2.2.2.2.2.2.2.2.2.1 ab.bD.length x.2.2.2.2.2.2.2.2.2.2.1) ab.ed (aM.mk x.2.2.2.2.2.2.2.2.2.2.2.1 ab.aq.length x.2.2.2.2.2.2.2.2.2.2.2.2.1))))) (fun (x:(OA)×Nat×(OA)×Nat×(List RA)×(OA)×Nat×(OA)×Nat×(OA)×Nat×(OA)×Nat×(List cQ))=>fg ab x.2.2.2.2.1 x.2.2.2.2.2.2.2.2.2.2.2.2.2∧x.2.2.2.2.1.length=ab.ah.ai.length∧sP ab.aq x.2.2.2.2.2.2.2.2.2.2.2.2.2) (fun (x:(OA)×Nat×(OA)×Nat×(List RA)×(OA)×Nat×(OA)×Nat×(OA)×Nat×(OA)×Nat×(List cQ))=>[(own x.1 x.2.1 122 9 (ab.ah.aJ.map ao.cells)),(own x.2.2.1 x.2.2.2.1 127 2 (List.zipWith au.cells ab.ah.ai x.2.2.2.2.1)),(bo (aU au.owns ab.ah.ai x.2.2.2.2.1)),(own x.2.2.2.2.2.1 x.2.2.2.2.2.2.1 129 4 (ab.ah.ag.map bE.cells)),(own x.2.2.2.2.2.2.2.1 x.2.2.2.2.2.2.2.2.1 3 1 (ab.aI.map iC)),(own x.2.2.2.2.2.2.2.2.2.1 x.2.2.2.2.2.2.2.2.2.2.1 3 1 (ab.bD.map iC)),(own x.2.2.2.2.2.2.2.2.2.2.2.1 x.2.2.2.2.2.2.2.2.2.2.2.2.1 47 1 (List.zipWith cz ab.aq x.2.2.2.2.2.2.2.2.2.2.2.2.2)),(bo (aU gT ab.aq x.2.2.2.2.2.2.2.2.2.2.2.2.2))]):=by
 refine du kr Tryz.func19 U U fun Y Q hQ hN=>?_
 try dsimp only
 refine WS fun _ P=>AL U Bx fun W=>RK P<|WS fun _ R=>cX N2 (aL) U fun X T=>?_
 obtain ⟨K,M,L,N,F,E,G⟩:=X
 try dsimp only
 obtain ⟨S,O⟩:=T
 refine cU (xs:=[.const (vI 4),.const (vI 7),.const (vI 9)]) (cs:=[(vI 4),(vI 7),(vI 9)]) U cy jd U U U U (by simp [Value.cells]) U U fun H=>cU (xs:=[.const (vI 2),.const (vI 0),.const (vI 1)]) (cs:=[(vI 2),(vI 0),(vI 1)]) U cy jd U U U U (by simp [Value.cells]) U U fun AB=>cX MY (aL) U fun AA V=>?_
 obtain ⟨A,B⟩:=AA
 try dsimp only
 refine rS (SX (bj (xs:=[(3,.tmp 4)]) (cs:=(br.cells (br.mk false false (aa.mk 0 0) (eL.mk mD.Start mD.gi (aM.mk A mD.aj.length B))))) U U (bh O_ U)) U U)<|rS (CL (pY 2600 2600) (aL) U)<|rS (CL (pY 2580 2609) (aL) U)<|cU (xs:=[.tmp 5,.tmp 6,.tmp 7]) (cs:=((br.cells (br.mk false false (aa.mk 0 0) (eL.mk mD.Start mD.gi (aM.mk A mD.aj.length B))))++(br.cells (br.mk false true (aa.mk 2600 2600) (eL.mk 0 0 (aM.mk none 0 0))))++(br.cells (br.mk false true (aa.mk 2580 2609) (eL.mk 0 0 (aM.mk none 0 0)))))) U x4 No U U U U (by simp [Value.cells,br.aW]) U U fun C=>rS (CL (pY 2555 2559) (aL) U)<|rS (CL (pY 2540 2549) (aL) U)<|rS (CL (pY 2570 2575) (aL) U)<|cU (xs:=[.tmp 9,.tmp 10,.tmp 11]) (cs:=((br.cells (br.mk false true (aa.mk 2555 2559) (eL.mk 0 0 (aM.mk none 0 0))))++(br.cells (br.mk false true (aa.mk 2540 2549) (eL.mk 0 0 (aM.mk none 0 0))))++(br.cells (br.mk false true (aa.mk 2570 2575) (eL.mk 0 0 (aM.mk none 0 0)))))) U x4 No U U U U (by simp [Value.cells,br.aW]) U U fun D=>cU (xs:=[.tmp 8,.tmp 12]) (cs:=[(vS (some ⟨C,0,none⟩) 3 3),(vS (some ⟨D,0,none⟩) 3 3)]) U rj TX U U U U (by simp [Value.cells]) U U fun J=>rS (SX (bj (xs:=[(0,.tmp 1),(1,.tmp 2),(2,.tmp 3),(3,.const (vI 2)),(4,.tmp 13)]) (cs:=(bq.cells (bq.mk (bK.mk (aZ.mk (aM.mk K ab.ah.aJ.length M)) ab.ah.dM (aM.mk L ab.ah.ai.length N) (aM.mk E ab.ah.ag.length G) ab.ah.bI ab.ah.cv ab.ah.bL) (aM.mk (some ⟨H,0,none⟩) 3 3) (aM.mk (some ⟨AB,0,none⟩) 3 3) 2 (aM.mk (some ⟨J,0,none⟩) 2 2)))) U U (bh GW U)) U U) ?_
 refine dU (es:=(ab.aI.map iC)) (C':=[_,_,_,_,_,(own (some ⟨H,0,none⟩) 3 3 1 (ab.aI.map iC)),_,_,_,_,_]) 5 U (lX bJ _) U (by show _≤maxLen; exact Nat.le_trans (m:=10) (show (3:Nat)≤10 by decide) dc) U ?_
 refine dU (es:=(ab.bD.map iC)) (C':=[_,_,_,_,(own (some ⟨AB,0,none⟩) 3 3 1 (ab.bD.map iC)),_,_,_,_,_,_]) 4 U (lX bJ _) U (by show _≤maxLen; exact Nat.le_trans (m:=10) (show (3:Nat)≤10 by decide) dc) U ?_
 refine dU (es:=(List.zipWith aA.cells RP [(A,B),(none,0),(none,0)])) (C':=[_,_,(own (some ⟨C,0,none⟩) 3 46 7 (List.zipWith aA.cells RP [(A,B),(none,0),(none,0)])),_,_,_,_,_,_,_,_]) 2 U (oG E4) U (by show _≤maxLen; exact Nat.le_trans (m:=10) (show (3:Nat)≤10 by decide) dc) U ?_
 refine dU (es:=(List.zipWith aA.cells Sl [(none,0),(none,0),(none,0)])) (C':=[_,(own (some ⟨D,0,none⟩) 3 46 7 (List.zipWith aA.cells Sl [(none,0),(none,0),(none,0)])),_,_,_,_,_,_,_,_,_]) 1 U (oG E4) U (by show _≤maxLen; exact Nat.le_trans (m:=10) (show (3:Nat)≤10 by decide) dc) U ?_
 refine dU (es:=(List.zipWith cz ab.aq [(((some ⟨C,0,none⟩),3),[(A,B),(none,0),(none,0)]),(((some ⟨D,0,none⟩),3),[(none,0),(none,0),(none,0)])])) (C':=[(own (some ⟨J,0,none⟩) 2 47 1 (List.zipWith cz ab.aq [(((some ⟨C,0,none⟩),3),[(A,B),(none,0),(none,0)]),(((some ⟨D,0,none⟩),3),[(none,0),(none,0),(none,0)])])),_,_,_,_,_,_,_,_,_,_]) 0 U (oG KS) U (by show _≤maxLen; exact Nat.le_trans (m:=10) (show (2:Nat)≤10 by decide) dc) U ?_
 refine dT 131 2<|dT 131 2<|dT 131 2<|dT 131 2<|dT 131 2<|wP (C1:=[(own (some ⟨J,0,none⟩) 2 47 1 (List.zipWith cz ab.aq [(((some ⟨C,0,none⟩),3),[(A,B),(none,0),(none,0)]),(((some ⟨D,0,none⟩),3),[(none,0),(none,0),(none,0)])])),(own (some ⟨AB,0,none⟩) 3 3 1 (ab.bD.map iC)),(own (some ⟨H,0,none⟩) 3 3 1 (ab.aI.map iC)),(own K M 122 9 (ab.ah.aJ.map ao.cells)),(own L N 127 2 (List.zipWith au.cells ab.ah.ai F)),(bo (aU au.owns ab.ah.ai F)),(own E G 129 4 (ab.ah.ag.map bE.cells)),(bZ W 32 (bq.cells (bq.mk (bK.mk (aZ.mk (aM.mk none 0 0)) 0 (aM.mk none 0 0) (aM.mk none 0 0) 0 0 0) (aM.mk none 0 0) (aM.mk none 0 0) 0 (aM.mk none 0 0))))]) (aU gT ab.aq [(((some ⟨C,0,none⟩),3),[(A,B),(none,0),(none,0)]),(((some ⟨D,0,none⟩),3),[(none,0),(none,0),(none,0)])]) [7,8,0,1,6,2,3,4,5,9,10,11,12,13,14,15] U U<|Vs U tw U<|RK R<|ar ?_
 refine LX hQ (K,M,L,N,F,E,G,(some ⟨H,0,none⟩),3,(some ⟨AB,0,none⟩),3,(some ⟨J,0,none⟩),2,[(((some ⟨C,0,none⟩),3),[(A,B),(none,0),(none,0)]),(((some ⟨D,0,none⟩),3),[(none,0),(none,0),(none,0)])]) [4,5,6,7,3,2,1,0] [0] (mc 8 U I) U (by show List.all _ _=true; simp only [fJ,List.all_nil,gl,kz,Bool.and_true]; rfl) U U ?_
 exact ⟨P_ O Jf,S,Jf⟩
end
section
open Go.RowKit
theorem OH (i:Int) (r:cd) (kA:OA) (kC:Nat) (az:List RA) (cA:OA) (cC:Nat) (bA:OA) (bC:Nat) (slA:OA) (slC:Nat) (drA:OA) (drC:Nat) (ha:List cQ) (heA:OA) (heC:Nat) (hin:fg r az ha):
 ej Tryz.prog 11 [(vA (bq.cells (oy r kA kC cA cC bA bC slA slC drA drC heA heC))),(vI i)] [(rd dF 3 2 dg),(rd kA r.ah.aJ.length 9 (r.ah.aJ.map ao.cells)),(rd cA r.ah.ai.length 2 (List.zipWith au.cells r.ah.ai az)),(e7 (aU au.gX r.ah.ai az)),(rd bA r.ah.ag.length 4 (r.ah.ag.map bE.cells)),(rd slA r.aI.length 1 (r.aI.map iC)),(rd drA r.bD.length 1 (r.bD.map iC)),(rd heA r.aq.length 1 (List.zipWith cz r.aq ha)),(e7 (aU hP r.aq ha))] (vT [(vA (aa.cells (pd r i))),(vI (jy r i))]):=by
 have M:=hin.line
 have g:=hin.iN
 have h:=hin.has
 have W:=hin.iM
 have R:=hin.draw
 have X:=dH (r:=r)
 refine bH kr Tryz.func11 U U fun m Q hQ hN=>?_
 try dsimp only
 refine WS fun _ L=>fV U fun k=>AL U dh fun l=>bg 1 U<|RK L<|WS fun _ G=>rP 2 [] (mc 1 U I) ?_
 refine cU (xs:=[.tmp 11]) (cs:=[(vI i)]) U cy jd U U U U (by simp [Value.cells]) U U fun d=>cX (zE r kA kC az cA cC bA bC slA slC drA drC ha heA heC i d hin) (bp [3,4,5,6,7,8,9,10,11,0]) U fun j J=>?_
 obtain ⟨K,e,f,O,a,b,c,Y,Z⟩:=j
 cases K
 ·obtain ⟨H,he⟩:=J.2 rfl
  try dsimp only at H he
  subst H
  try dsimp only [cond_true,cond_false,List.cons_append,List.nil_append]
  refine bg 7 U<|RK G<|al fun _ P=>WS fun _ B=>rP 2 [] I ?_
  refine RK B<|bR U (bw fun A=>?_) (bx fun A=>?_)
  ·exact absurd A he
  refine WS fun _ C=>rS (SX (bj (xs:=[]) (cs:=(aa.cells (aa.mk 0 0))) U U (bh gu U)) U U)<|bg 1 U<|tP U cu U<|rP 1 [] I ?_
  refine RK C<|ar<|lj hQ [0] (mc 1 U I) U ?_
  first|(rw [show pd r i=dE from if_neg he]; rfl)|(rw [he,show pd r i=aG _ _ from if_pos he]; done)
 obtain ⟨he,N⟩:=J.1 rfl
 try dsimp only [cond_true,cond_false,List.cons_append,List.nil_append]
 try dsimp only at N
 obtain ⟨AB,S,T⟩:=ud he
 have AA:=lP AB
 have V:=nE AB
 refine bg 7 U<|RK G<|al fun _ D=>WS fun _ E=>bg 1 U<|rS (SX (b_ (r:= .bool false) U U U nI) U U)<|RK E<|aV U<|WK D<|WS fun _ F=>rP 1 [] I ?_
 refine rS (IA 0 U (ak (n:=1) 4 U sq) jL dc U om) ?_
 refine rS (oB 0 0 (aa.cells (aG (aB r) i)) U cq (ak (n:=([(aG (aB r) i)]).length) 4 U sm) (show ([(aG (aB r) i)].map aa.cells)[0]? =some [(vI ((aG (aB r) i).Lo)),(vI ((aG (aB r) i).Hi))] from U) U dc U U)<|Ot U cu U<|rP 1 [] I ?_
 refine RK F<|ar<|lj hQ [0] (mc 6 U I) U ?_
 first|(rw [show pd r i=dE from if_neg he]; rfl)|(rw [he,show pd r i=aG _ _ from if_pos he]; done)
end
section
open Go.RowKit
theorem KZ (a b:Int) (m:gk) (gm g1:Nat) (hb: ∀ p∈m,0≤p.2.Lo∧p.2.Lo≤p.2.Hi∧p.2.Hi≤30000000):
 ej Tryz.prog 69 [(vI a),(vI b),(vP g1)] [(gZ iV gm (bM df m)),(bZ g1 58 [(Value.map (some gm))])] (vI ((aG m a).Hi-(aG m b).Hi)):=by
 have A:=gP (i:=a) hb
 have B:=gP (i:=b) hb
 refine bH kr Tryz.func69 U U fun E Q hQ hN=>?_
 try dsimp only
 refine WS fun _ C=>bg 1 U<|RK C<|WS fun _ D=>fE 2 [] (mr 1 U I) U<|rS (SX (jS (kV:=iV) (x:=a) (l:=m) (f:=df) (z:=(aa.mk 0 0)) U U U lI (dB n9) vo (by exact jF 0 U)) U U)<|rS (SX (kQ (v:=(vI (((List.lookup a m).getD (aa.mk 0 0)).Hi))) U U fD zT U) U U)<|rP 2 [] (mr 1 U I) ?_
 refine rS (SX (jS (kV:=iV) (x:=b) (l:=m) (f:=df) (z:=(aa.mk 0 0)) U U U lI (dB n9) vo (by exact jF 0 U)) U U)<|rS (SX (kQ (v:=(vI (((List.lookup b m).getD (aa.mk 0 0)).Hi))) U U fD zT U) U U) ?_
 unfold aG at A B
 simp only [dE] at A B
 refine rP 2 [] I ?_
 refine RK D<|ar ?_
 exact Q1 hQ U U U U
theorem MO (heatX:Int) (r:cd) (kA:OA) (kC:Nat) (az:List RA) (cA:OA) (cC:Nat) (bA:OA) (bC:Nat) (slA:OA) (slC:Nat) (drA:OA) (drC:Nat) (ha:List cQ) (heA:OA) (heC:Nat) (hin:fg r az ha):
 lu Tryz.prog 47 [(vA (bq.cells (oy r kA kC cA cC bA bC slA slC drA drC heA heC))),(vI heatX)] [(rd dF 3 2 dg),(rd kA r.ah.aJ.length 9 (r.ah.aJ.map ao.cells)),(rd cA r.ah.ai.length 2 (List.zipWith au.cells r.ah.ai az)),(e7 (aU au.gX r.ah.ai az)),(rd bA r.ah.ag.length 4 (r.ah.ag.map bE.cells)),(rd slA r.aI.length 1 (r.aI.map iC)),(rd drA r.bD.length 1 (r.bD.map iC)),(rd heA r.aq.length 1 (List.zipWith cz r.aq ha)),(e7 (aU hP r.aq ha))] (fun (x:(OA)×Nat)=>(vT [(vS x.1 ((g5 r heatX).length) x.2),(vI (iI r heatX))])) (fun (x:(OA)×Nat)=>True) (fun (x:(OA)×Nat)=>[(own x.1 x.2 3 1 ((g5 r heatX).map iC))]):=by
 have AV:=hin.line
 have Ap:=hin.iN
 have Aq:=hin.has
 have Af:=hin.iM
 have AE:=hin.draw
 have AH:=dH (r:=r)
 refine du kr Tryz.func47 U U fun w0 Q hQ hN=>?_
 try dsimp only
 refine WS fun _ AU=>fV U fun b2=>bg 2 U<|RK AU<|Ax U<|WS fun _ e=>rP 1 [] (mc 0 U I) ?_
 refine cX (oe r kA kC az cA cC bA bC slA slC drA drC ha heA heC hin) (bp [1,2,3,4,5,6,7,8,9]) U fun y4 AI=>?_
 obtain ⟨AJ,Am,AR,AQ,AZ,AK,AM⟩:=y4
 cases AJ
 ·obtain ⟨AF,he⟩:=AI.2 rfl
  try dsimp only at AF he
  subst AF
  try dsimp only [cond_true,cond_false,List.cons_append,List.nil_append]
  refine bg 5 U<|RK e<|al fun _ Ae=>WS fun _ R=>rP 2 [] I ?_
  refine RK R<|bR U (bw fun P=>?_) (bx fun P=>?_)
  ·exact absurd P he
  refine WS fun _ S=>rP 1 [] I ?_
  have A:iI r heatX=bX r:=EH he
  have B:g5 r heatX=[]:=zh (by rw [A]; exact he)
  refine dT 3 1 ?_
  rw [show (own none 0 3 1 ([]:List (List Value)))=own none 0 3 1 ((g5 r heatX).map iC) from by rw [B]; rfl]
  refine rP 2 [] I ?_
  refine RK S<|ar ?_
  refine LX hQ (none,0) [0] [] I U U U ?_ ?_
  ·first|rfl|(rw [A,B]; rfl)|(rw [A]; rfl)|(rw [A,B,j9]; rfl)
  ·trivial
 obtain ⟨he,AX⟩:=AI.1 rfl
 try dsimp only [cond_true,cond_false,List.cons_append,List.nil_append]
 have G:=(iJ he).2
 have Ar:=G.xT
 have Ao:=G.ym
 refine bg 5 U<|RK e<|al fun _ T=>WS fun _ As=>bg 1 U<|rS (SX (b_ (r:= .bool false) U U U nI) U U)<|RK As<|aV U<|WK T<|al fun _ V=>WS fun _ W=>rP 4 [] (mc 4 U I) ?_
 refine cU (xs:=[.tmp 25]) (cs:=[(vI heatX)]) U cy jd U U U U (by simp [Value.cells]) U U fun AO=>?_
 refine rS (CL (ej.eq (j_ 0 (r.aq.length:Int) ([heatX]) (some ⟨AO,0,none⟩) 1 sd) cT) (ay (aY 0 U U (by simp [bJ]) U)<|aL) U) ?_
 refine rP 1 [] I ?_
 refine RK W<|cM U (bx fun AS=>?_) (bw fun AS=>?_)
 ·refine WS fun _ X=>?_
  have A:iI r heatX=2:=D_ he om
  have B:g5 r heatX=[]:=zh (by rw [A]; decide)
  refine dT 3 1 ?_
  rw [show (own none 0 3 1 ([]:List (List Value)))=own none 0 3 1 ((g5 r heatX).map iC) from by rw [B]; rfl]
  refine rP 2 [] I ?_
  refine RK X<|ar ?_
  refine LX hQ (none,0) [0] [] I U U U ?_ ?_
  ·first|rfl|(rw [A,B]; rfl)|(rw [A]; rfl)|(rw [A,B,j9]; rfl)
  ·trivial
 refine WK V<|al fun _ Y=>WS fun _ Z=>rP 2 [] I ?_
 refine RK Z<|cM U (aT fun D=>?_) (aS fun D=>?_)
 ·refine WS fun _ b=>rP 2 [] (mc 5 U I) ?_
  refine cX (vW r.bD drA drC sd) (bp [12]) U fun Ac Ag=>?_
  obtain ⟨N,O⟩:=Ac
  try dsimp only
  have A:iI r heatX=0:=yE he om
  have B:g5 r heatX=r.bD:=u6 A D
  rw [show (own N O 3 1 (r.bD.map iC))=(own N O 3 1 ((g5 r heatX).map iC)) from by rw [u6 A D]]
  refine rP 2 [] I ?_
  refine RK b<|ar ?_
  refine LX hQ (N,O) [0] [] I U U U ?_ ?_
  ·first|rfl|(rw [A,B]; rfl)|(rw [A]; rfl)|(rw [A,B,j9]; rfl)
  ·trivial
 refine WK Y<|WS fun _ d=>?_
 obtain ⟨n,rfl⟩: ∃ n:Nat,heatX=(n:Int):=⟨heatX.toNat,om⟩
 refine rP 2 [] I ?_
 refine cX (OG r kA kC az cA cC bA bC slA slC drA drC ha heA heC AM AZ AK (Value.map (some AQ)) AR n hin om sd (by exact G.AD)) (lQ [7,8,9,10,11,12,13,14]<|ay (ak (n:=(cP r).length) 2 U (mM (by rw [AH]; exact AX)))<|ay (dW 3 U td)<|fH 1 U U<|aL) U fun C Ah=>?_
 try dsimp only
 refine AL U RF fun Au=>Gp U NW U U<|RK d<|WS fun _ g=>bg 1 U<|RK g<|al fun _ h=>z3<|KK h<|al fun _ j=>WS fun _ k=>rP 4 [] (mc 7 U I) ?_
 refine RK k<|aw<|fY 3 1 ?_
 have F:(0≤r.bD.length):=by exact Nat.zero_le _
 refine bO (ι:={z:Nat×(OA)×Nat // (z.1≤r.bD.length)}) [1,2,6,8,38,39] [1,2,5,6,7,8,9,10,11,12,13,14,15,16,17] U U (fun z=>[(9,(vS z.1.2.1 (((r.bD.take z.1.1).filter fun u=>(List.lookup u (eM r n)).isSome).length) z.1.2.2)),(40,(vI (z.1.1:Int)))]) (fun z=>[(own z.1.2.1 z.1.2.2 3 1 (((r.bD.take z.1.1).filter fun u=>(List.lookup u (eM r n)).isSome).map iC))]) (fun _=>rfl) (fun _=>rfl) (fun z=>r.bD.length-z.1.1) ⟨(0,none,0),F⟩ (aQ U) (aK [1,2,5,6,7,8,9,10,11,12,13,14,15,16,17,0]) ?_
 clear F
 rintro ⟨⟨i,a,c⟩,K⟩ J38 L
 try dsimp only at K
 try dsimp only
 refine WS fun _ m=>rP 1 [] I ?_
 refine RK m<|al fun _ o=>bR U (aS fun AT=>?_) (aT fun AT=>?_)
 ·refine bB<|ae<|ae<|ax<|KK j<|al fun _ v=>?_
  rw [show r.bD.take i=r.bD from List.take_of_length_le om]
  refine an<|rP 1 [] I ?_
  have AW:=Gc he (show n≤r.aq.length by omega)
  have AG:=Nat.le_trans (List.length_filter_le (fun u=>(List.lookup u (eM r n)).isSome) r.bD) AE
  have An:(eD (fun u=>(aG (eM r n) u).Hi) (r.bD.filter fun u=>(List.lookup u (eM r n)).isSome)).length≤12:=by rw [kx]; exact AG
  refine rS (FU U) ?_
  refine cX (yF (r.bD.filter fun u=>(List.lookup u (eM r n)).isSome) a c (Value.func (.func 69) [].toArray [(vP Au)].toArray) (fun u=>(aG (eM r n) u).Hi) (e7 [(gZ iV C (bM df (eM r n))),(bZ Au 58 [(Value.map (some C))])]) (by intro Aa Ab _; exact nH (fi:=[]) (ca:=[(vP Au)]) (l3 (KZ Aa Ab (eM r n) C Au (by first|assumption|omega)) (bp [0,1]))) (by exact Sy AW) (by exact AG)) (ay (ak (n:=(r.bD.filter fun u=>(List.lookup u (eM r n)).isSome).length) 15 U sm)<|ay (l5 (bp [1,0]))<|aL) U fun Ad Ai=>?_
  obtain ⟨H,J⟩:=Ad
  try dsimp only
  refine bg 1 U<|RK v<|WS fun _ w=>rP 5 [] (mc 6 U I) ?_
  refine rS (MN U)<|Ln 0 U fun AC=>?_
  simp only [List.length_map] at AC
  refine rS (Un (((min r.ed (((eD (fun u=>(aG (eM r n) u).Hi) (r.bD.filter fun u=>(List.lookup u (eM r n)).isSome)).length:Nat):Int))).toNat) U cy om (by first|omega|exact Nat.zero_le _|(simp; omega))) ?_
  refine iQ 0 U U U U (Gn (eD (fun u=>(aG (eM r n) u).Hi) (r.bD.filter fun u=>(List.lookup u (eM r n)).isSome)) H J (((min r.ed (((eD (fun u=>(aG (eM r n) u).Hi) (r.bD.filter fun u=>(List.lookup u (eM r n)).isSome)).length:Nat):Int))).toNat) om om) U ki U (fun At Aj=>?_)
  try dsimp only
  refine RK w<|WS fun _ y=>rP 1 [] I ?_
  have A:iI r (n:Int)=0:=yE he om
  have B:g5 r (n:Int)=(rF (((min r.ed (((eD (fun u=>(aG (eM r n) u).Hi) (r.bD.filter fun u=>(List.lookup u (eM r n)).isSome)).length:Nat):Int))).toNat) (eD (fun u=>(aG (eM r n) u).Hi) (r.bD.filter fun u=>(List.lookup u (eM r n)).isSome))):=by rw [vf A D]; exact (zb rfl om).symm
  rw [show (own H J 3 1 ((rF (((min r.ed (((eD (fun u=>(aG (eM r n) u).Hi) (r.bD.filter fun u=>(List.lookup u (eM r n)).isSome)).length:Nat):Int))).toNat) (eD (fun u=>(aG (eM r n) u).Hi) (r.bD.filter fun u=>(List.lookup u (eM r n)).isSome))).map iC))=(own H J 3 1 ((g5 r (n:Int)).map iC)) from by rw [vf A D]; exact congrArg (fun z=>own _ _ _ _ (List.map iC z)) (zb rfl om)]
  refine rP 2 [] I ?_
  refine RK y<|ar ?_
  refine LX hQ (H,J) [0] [] I U U U ?_ ?_
  ·first|rfl|(rw [A,B]; rfl)|(rw [A]; rfl)|(rw [A,B,j9]; rfl)
  ·trivial
 refine WK o<|al fun _ M=>aw<|WS fun _ p=>?_
 obtain ⟨x,hx⟩:=aN r.bD i om
 have AY:=bP iC hx
 refine rS (IA i U (aF 12 U) cy dc om om)<|rS (gF i 0 (vI x) U cq (aF 12 U) AY U dc U)<|bg 1 U<|RK p<|al fun _ q=>WS fun _ s=>fE 2 [] (mc 0 U I) U<|rS (SX (jX (kV:=iV) (x:=x) (l:=(eM r n)) (f:=df) (z:=(aa.mk 0 0)) U U U lI (dB n9) vo (by exact aF 1 U)) U U)<|bg 3 U<|AL U dh fun Ak=>fQ U cu U<|bg 1 U<|RK s<|WS fun _ t=>rP 2 [] I ?_
 refine RK t<|cM U (fun E=>?_) (fun E=>?_)
 ·rw [Bool.not_eq_true'] at E
  refine bB<|ae<|ax<|KK M<|an<|rP 2 [] I ?_
  refine aH ?_
  rw [show ((r.bD.take i).filter fun u=>(List.lookup u (eM r n)).isSome)=((r.bD.take (i+1)).filter fun u=>(List.lookup u (eM r n)).isSome) from (E9 hx E).symm]
  have AA:(vI (((i+1):Nat):Int))=(vI ((i:Int)+1)):=by exact cI om
  refine aR (L ⟨((i+1),a,c),(by first|omega|(simp only []; omega))⟩ _ _ _ U os (cN 7<|bk U AA<|dx.nil _) (aK [1,2,3,4,5,6,7,8,9,10,11,12,13,14,15,16]))
 rw [Bool.not_eq_false'] at E
 refine WK q<|an<|rP 2 [] I ?_
 refine cU (xs:=[.tmp 53]) (cs:=[(vI x)]) U cy jd U U U U (by simp [Value.cells]) U U fun Al=>?_
 refine c_ (es2:=(List.map iC ((r.bD.take (i+1)).filter fun u=>(List.lookup u (eM r n)).isSome))) (m':=((r.bD.take (i+1)).filter fun u=>(List.lookup u (eM r n)).isSome).length) 17 U U U ph U U sm (aY (es:=List.map iC [x]) 0 U U (by simp [bJ]) U) (j2 _) (by have:=List.length_filter_le (fun u=>(List.lookup u (eM r n)).isSome) (r.bD.take i); rw [List.length_take] at this; first|omega|(simp; omega)) (by have:=List.length_filter_le (fun u=>(List.lookup u (eM r n)).isSome) (r.bD.take i); rw [List.length_take] at this; simp only [maxLen]; first|omega|(simp; omega)) (by rw [wB hx E]; simp) sm U fun AN AP=>?_
 try dsimp only
 refine bg 1 U<|aH<|aD<|KK M<|an<|rP 2 [] I ?_
 refine aH ?_
 have AB:(vI (((i+1):Nat):Int))=(vI ((i:Int)+1)):=by exact cI om
 refine aR (L ⟨((i+1),AN,AP),(by first|omega|(simp only []; omega))⟩ _ _ _ U os (cN 7<|bk U AB<|dx.nil _) (aK [2,3,4,5,6,7,8,9,10,11,12,13,14,15,16,17]))
end
section
open Go.RowKit
theorem yQ (i lo hi:Int) (r:cd) (kA:OA) (kC:Nat) (az:List RA) (cA:OA) (cC:Nat) (bA:OA) (bC:Nat) (slA:OA) (slC:Nat) (drA:OA) (drC:Nat) (ha:List cQ) (heA:OA) (heC:Nat) (hin:fg r az ha):
 ej Tryz.prog 24 [(vA (bq.cells (oy r kA kC cA cC bA bC slA slC drA drC heA heC))),(vI i),(vI lo),(vI hi)] [(rd dF 3 2 dg),(rd kA r.ah.aJ.length 9 (r.ah.aJ.map ao.cells)),(rd cA r.ah.ai.length 2 (List.zipWith au.cells r.ah.ai az)),(e7 (aU au.gX r.ah.ai az)),(rd bA r.ah.ag.length 4 (r.ah.ag.map bE.cells)),(rd slA r.aI.length 1 (r.aI.map iC)),(rd drA r.bD.length 1 (r.bD.map iC)),(rd heA r.aq.length 1 (List.zipWith cz r.aq ha)),(e7 (aU hP r.aq ha))] (vB (decide (jy r i=0∧pd r i=aa.mk lo hi))):=by
 have E:=hin.line
 have AA:=hin.iN
 have J:=hin.has
 have G:=hin.iM
 have F:=hin.draw
 have H:=dH (r:=r)
 refine bH kr Tryz.func24 U U fun M Q hQ hN=>?_
 try dsimp only
 refine WS fun _ C=>fV U fun K=>bg 1 U<|RK C<|WS fun _ D=>fE 2 [] (mc 0 U I) U<|rS (CL (OH i r kA kC az cA cC bA bC slA slC drA drC ha heA heC hin) (bp [1,2,3,4,5,6,7,8,9]) U)<|bg 3 U<|AL U dh fun L=>fQ U cu U<|bg 1 U<|RK D<|al fun _ B=>dG cD 10 kr<|dP 3 [] I ?_
 refine jo (t:=19) U (aS fun A=>?_) (aT fun A=>?_)
 ·refine dP 7 [] I ?_
  refine cO<|RK B<|ar<|Q1 hQ U U U ?_
  first|exact cB (cr fun q=>A q.1).symm|exact cB (decide_eq_decide.2 ⟨fun q=>⟨A,q⟩,fun q=>q.2⟩)
 refine mI 3 [] (mc 0 U I) U<|dS (CL (lW lo hi) (aL) U)<|dS (BI U (tj _ _ (pd r i) (aa.mk lo hi)))<|dP 2 [] I ?_
 refine cO<|RK B<|ar<|Q1 hQ U U U ?_
 first|exact cB (cr fun q=>A q.1).symm|exact cB (decide_eq_decide.2 ⟨fun q=>⟨A,q⟩,fun q=>q.2⟩)
theorem zy (i:Int) (want:List Int) (wantA:OA) (wantC:Nat) (r:cd) (kA:OA) (kC:Nat) (az:List RA) (cA:OA) (cC:Nat) (bA:OA) (bC:Nat) (slA:OA) (slC:Nat) (drA:OA) (drC:Nat) (ha:List cQ) (heA:OA) (heC:Nat) (hin:fg r az ha) (hwl:want.length≤12):
 ej Tryz.prog 25 [(vA (bq.cells (oy r kA kC cA cC bA bC slA slC drA drC heA heC))),(vI i),(vS wantA want.length wantC)] [(rd wantA want.length 1 (want.map iC)),(rd dF 3 2 dg),(rd kA r.ah.aJ.length 9 (r.ah.aJ.map ao.cells)),(rd cA r.ah.ai.length 2 (List.zipWith au.cells r.ah.ai az)),(e7 (aU au.gX r.ah.ai az)),(rd bA r.ah.ag.length 4 (r.ah.ag.map bE.cells)),(rd slA r.aI.length 1 (r.aI.map iC)),(rd drA r.bD.length 1 (r.bD.map iC)),(rd heA r.aq.length 1 (List.zipWith cz r.aq ha)),(e7 (aU hP r.aq ha))] (vB (decide (jy r i=0∧fU r i=want))):=by
 have E:=hin.line
 have K:=hin.iN
 have L:=hin.has
 have G:=hin.iM
 have F:=hin.draw
 have H:=dH (r:=r)
 have M:=xN (r:=r) (i:=i)
 refine bH kr Tryz.func25 U U fun R Q hQ hN=>?_
 try dsimp only
 refine WS fun _ C=>fV U fun P=>bg 1 U<|RK C<|WS fun _ D=>rP 2 [] (mc 0 U I) ?_
 refine cX (FR i r kA kC az cA cC bA bC slA slC drA drC ha heA heC hin) (bp [2,3,4,5,6,7,8,9,10]) U fun O N=>?_
 obtain ⟨AA,J⟩:=O
 try dsimp only
 refine bg 5 U<|RK D<|WS fun _ B=>rP 3 [] I ?_
 refine cb (t:=17) U (aS fun A=>?_) (aT fun A=>?_)
 ·refine rP 5 [] I ?_
  refine RK B<|ar<|Q1 hQ U U U ?_
  first|exact cB (cr fun q=>A q.1).symm|exact cB (decide_eq_decide.2 ⟨fun q=>⟨A,q⟩,fun q=>q.2⟩)
 refine bg 2 U<|rS (CL (ob (fU r i) AA J want wantA wantC om om) (ay (ak (n:=(fU r i).length) 0 U sm)<|fH 2 U U<|aL) U)<|rP 2 [] I ?_
 refine RK B<|ar<|Q1 hQ U U U ?_
 first|exact cB (cr fun q=>A q.1).symm|exact cB (decide_eq_decide.2 ⟨fun q=>⟨A,q⟩,fun q=>q.2⟩)
theorem yv (heatX:Int) (want:List Int) (wantA:OA) (wantC:Nat) (hwl:want.length≤12):
 ej Tryz.prog 28 [(vI heatX),(vS wantA want.length wantC)] [(rd dF 3 2 dg),(rd wantA want.length 1 (want.map iC))] (vB (decide (iI ab heatX=0∧g5 ab heatX=want))):=by
 have b:=Er (r:=ab) (h:=heatX) dc
 refine bH kr Tryz.func28 U U fun d Q hQ hN=>?_
 try dsimp only
 refine WS fun _ V=>rP 1 [] I ?_
 refine RK V<|WS fun _ W=>cX js (aL) U fun c Y=>?_
 obtain ⟨N,S,P,AA,R,C,G,D,H,E,AB,F,J,M⟩:=c
 try dsimp only
 obtain ⟨L,X,K⟩:=Y
 refine rP 1 [] I ?_
 refine cX (MO heatX ab N S R P AA C G D H E AB M F J (by exact L)) (fH 8 U U<|ay (ak (n:=ab.ah.aJ.length) 0 U sm)<|ay (ak (n:=ab.ah.ai.length) 1 U (g0 X))<|ay (dW 2 U iS)<|ay (ak (n:=ab.ah.ag.length) 3 U sm)<|ay (ak (n:=ab.aI.length) 4 U sm)<|ay (ak (n:=ab.bD.length) 5 U sm)<|ay (ak (n:=ab.aq.length) 6 U (fw K.1))<|ay (hE 7 U K)<|aL) U fun Z a=>?_
 obtain ⟨O,T⟩:=Z
 try dsimp only
 refine bg 5 U<|RK W<|WS fun _ B=>rP 3 [] I ?_
 refine cb (t:=15) U (aS fun A=>?_) (aT fun A=>?_)
 ·refine rP 5 [] I ?_
  refine RK B<|ar<|Q1 hQ U U U ?_
  first|exact cB (cr fun q=>A q.1).symm|exact cB (decide_eq_decide.2 ⟨fun q=>⟨A,q⟩,fun q=>q.2⟩)
 refine bg 2 U<|rS (CL (ob (g5 ab heatX) O T want wantA wantC om om) (ay (ak (n:=(g5 ab heatX).length) 0 U sm)<|fH 10 U U<|aL) U)<|rP 2 [] I ?_
 refine RK B<|ar<|Q1 hQ U U U ?_
 first|exact cB (cr fun q=>A q.1).symm|exact cB (decide_eq_decide.2 ⟨fun q=>⟨A,q⟩,fun q=>q.2⟩)
theorem Cf (a b:Int) (x y:Int):
 ej Tryz.prog 26 [(vI a),(vI b),(Value.int .u8 x),(Value.int .u8 y)] [(rd dF 3 2 dg)] (vB (decide (((nc ab a b=0∧vt ab a b=x)∧nc ab a b=0)∧qs ab a b=y))):=by
 refine bH kr Tryz.func26 U U fun w Q hQ hN=>?_
 try dsimp only
 refine WS fun _ p=>rP 1 [] I ?_
 refine RK p<|WS fun _ r=>cX js (aL) U fun v s=>?_
 obtain ⟨j,m,k,o,l,J,V,L,X,N,Z,P,d,h⟩:=v
 try dsimp only
 obtain ⟨F,G,E⟩:=s
 refine bg 2 U<|rS (CL (KD a b ab j m l k o J V L X N Z h P d (by exact F)) (fH 8 U U<|ay (ak (n:=ab.ah.aJ.length) 0 U sm)<|ay (ak (n:=ab.ah.ai.length) 1 U (g0 G))<|ay (dW 2 U iS)<|ay (ak (n:=ab.ah.ag.length) 3 U sm)<|ay (ak (n:=ab.aI.length) 4 U sm)<|ay (ak (n:=ab.bD.length) 5 U sm)<|ay (ak (n:=ab.aq.length) 6 U (fw E.1))<|ay (hE 7 U E)<|aL) U)<|qj (C1:=[(rd dF 3 2 dg)]) [8] U U<|rP 5 [] I ?_
 refine RK r<|WS fun _ f=>cX js (aL) U fun u g=>?_
 obtain ⟨H,T,AB,AA,S,K,W,M,Y,O,c,R,e,i⟩:=u
 try dsimp only
 obtain ⟨F,G,E⟩:=g
 refine bg 2 U<|rS (CL (Qj a b ab H T S AB AA K W M Y O c i R e (by exact F)) (fH 8 U U<|ay (ak (n:=ab.ah.aJ.length) 0 U sm)<|ay (ak (n:=ab.ah.ai.length) 1 U (g0 G))<|ay (dW 2 U iS)<|ay (ak (n:=ab.ah.ag.length) 3 U sm)<|ay (ak (n:=ab.aI.length) 4 U sm)<|ay (ak (n:=ab.bD.length) 5 U sm)<|ay (ak (n:=ab.aq.length) 6 U (fw E.1))<|ay (hE 7 U E)<|aL) U)<|bg 5 U<|RK f<|WS fun _ D=>rP 3 [] I ?_
 refine cb (t:=29) U (aS fun A=>?_) (aT fun A=>?_)
 ·refine rP 14 [] I ?_
  refine RK D<|ar<|Q1 hQ U U U ?_
  first|exact cB (cr fun q=>A q.1.1.1).symm|exact cB (cr fun q=>B q.1.1.2).symm|exact cB (cr fun q=>C q.1.2).symm|exact cB (decide_eq_decide.2 ⟨fun q=>⟨⟨⟨A,B⟩,C⟩,q⟩,fun q=>q.2⟩)
 refine bg 2 U<|rS (BI U mj)<|rP 2 [] I ?_
 refine cb (t:=34) U (aS fun B=>?_) (aT fun B=>?_)
 ·refine rP 9 [] I ?_
  refine RK D<|ar<|Q1 hQ U U U ?_
  first|exact cB (cr fun q=>A q.1.1.1).symm|exact cB (cr fun q=>B q.1.1.2).symm|exact cB (cr fun q=>C q.1.2).symm|exact cB (decide_eq_decide.2 ⟨fun q=>⟨⟨⟨A,B⟩,C⟩,q⟩,fun q=>q.2⟩)
 refine rP 4 [] I ?_
 refine cb (t:=38) U (aS fun C=>?_) (aT fun C=>?_)
 ·refine rP 5 [] I ?_
  refine RK D<|ar<|Q1 hQ U U U ?_
  first|exact cB (cr fun q=>A q.1.1.1).symm|exact cB (cr fun q=>B q.1.1.2).symm|exact cB (cr fun q=>C q.1.2).symm|exact cB (decide_eq_decide.2 ⟨fun q=>⟨⟨⟨A,B⟩,C⟩,q⟩,fun q=>q.2⟩)
 refine bg 2 U<|rS (BI U mj)<|rP 2 [] I ?_
 refine RK D<|ar<|Q1 hQ U U U ?_
 first|exact cB (cr fun q=>A q.1.1.1).symm|exact cB (cr fun q=>B q.1.1.2).symm|exact cB (cr fun q=>C q.1.2).symm|exact cB (decide_eq_decide.2 ⟨fun q=>⟨⟨⟨A,B⟩,C⟩,q⟩,fun q=>q.2⟩)
end
section
open Go.RowKit
theorem Iv:
 ej Tryz.prog 6 [] [(rd dF 3 2 dg)] (vB true):=by
 have BU:=ve (r:=ab)
 have BJ:=ve (r:=eX)
 have Fb:=C8 (r:=ab) (h:=0) (i:=2) (t:=aa.mk 2590 2599)
 have Fa:ab.aI.length=3:=rfl
 refine bH kr Tryz.func6 U U fun w0 Q hQ hN=>?_
 try dsimp only
 refine WS fun _ FP=>rP 1 [] I ?_
 refine RK FP<|WS fun _ FQ=>cX js (aL) U fun y3 FS=>?_
 obtain ⟨BK,BM,BL,BN,FO,Aa,Az,Ae,A3,Ai,A7,Am,BA,FD⟩:=y3
 try dsimp only
 obtain ⟨Y,e,a⟩:=FS
 refine rS (CL (Qw 0 0 ab BK BM FO BL BN Aa Az Ae A3 Ai A7 FD Am BA (by exact Y)) (fH 8 U U<|ay (ak (n:=ab.ah.aJ.length) 0 U sm)<|ay (ak (n:=ab.ah.ai.length) 1 U (g0 e))<|ay (dW 2 U iS)<|ay (ak (n:=ab.ah.ag.length) 3 U sm)<|ay (ak (n:=ab.aI.length) 4 U sm)<|ay (ak (n:=ab.bD.length) 5 U sm)<|ay (ak (n:=ab.aq.length) 6 U (fw a.1))<|ay (hE 7 U a)<|aL) U)<|bg 1 U<|qj (C1:=[(rd dF 3 2 dg)]) [8] U U<|bg 2 U<|AL U dh fun f=>fQ U cu U<|rP 1 [] I ?_
 refine RK FQ<|WS fun _ E2=>cX js (aL) U fun FT E9=>?_
 obtain ⟨AT,At,AW,Aw,Er,Ab,A0,Af,A4,Aj,A8,An,BB,FE⟩:=FT
 try dsimp only
 obtain ⟨Y,e,a⟩:=E9
 refine cX (F5 ab AT At Er AW Aw Ab A0 Af A4 Aj A8 FE An BB (by exact Y)) (fH 9 U U<|ay (ak (n:=ab.ah.aJ.length) 0 U sm)<|ay (ak (n:=ab.ah.ai.length) 1 U (g0 e))<|ay (dW 2 U iS)<|ay (ak (n:=ab.ah.ag.length) 3 U sm)<|ay (ak (n:=ab.aI.length) 4 U sm)<|ay (ak (n:=ab.bD.length) 5 U sm)<|ay (ak (n:=ab.aq.length) 6 U (fw a.1))<|ay (hE 7 U a)<|aL) U fun FU E_=>?_
 obtain ⟨O,T,Fc⟩:=FU
 try dsimp only
 have EM:=E_
 have Be:=EM
 refine bg 1 U<|qj (C1:=[(own T Fc 29 1 (List.zipWith kh (bG ab) O)),(bo (aU nt (bG ab) O)),(bZ f 38 (aa.cells (eJ ab 0 0))),(rd dF 3 2 dg)]) [0,1,10,11] U U<|rP 4 [] I ?_
 refine RK E2<|WS fun _ E3=>cX js (aL) U fun FV FA=>?_
 obtain ⟨AU,Au,AX,Ax,Es,Ac,A1,Ag,A5,Ak,A9,Ao,BC,FF⟩:=FV
 try dsimp only
 obtain ⟨Y,e,a⟩:=FA
 refine rS (CL (lW 2590 2599) (aL) U)<|cX (IW 0 2 (aa.mk 2590 2599) ab AU Au Es AX Ax Ac A1 Ag A5 Ak A9 FF Ao BC (by exact Y)) (fH 11 U U<|ay (ak (n:=ab.ah.aJ.length) 0 U sm)<|ay (ak (n:=ab.ah.ai.length) 1 U (g0 e))<|ay (dW 2 U iS)<|ay (ak (n:=ab.ah.ag.length) 3 U sm)<|ay (ak (n:=ab.aI.length) 4 U sm)<|ay (ak (n:=ab.bD.length) 5 U sm)<|ay (ak (n:=ab.aq.length) 6 U (fw a.1))<|ay (hE 7 U a)<|aL) U fun FW Bh=>?_
 obtain ⟨FH,FZ,A,G,B,H,P,C,Fd,D,J,E,K,F,L,R⟩:=FW
 cases FH
 ·obtain ⟨E7,he⟩:=Bh.2 rfl
  try dsimp only at E7 he
  subst E7
  try dsimp only [cond_true,cond_false,List.cons_append,List.nil_append]
  exact absurd AY he
 obtain ⟨E8,⟨BT,E6⟩,BO⟩:=Bh.1 rfl
 try dsimp only [cond_true,cond_false,List.cons_append,List.nil_append]
 try dsimp only at E8 BT E6 BO
 have Bg:fg eX _ _:=fg.rep Y BT E6 BO
 refine bg 1 U<|qj (C1:=[(own A G 122 9 (ab.ah.aJ.map ao.cells)),(own B H 127 2 (List.zipWith au.cells ab.ah.ai P)),(bo (aU au.owns ab.ah.ai P)),(own C Fd 129 4 (ab.ah.ag.map bE.cells)),(own D J 3 1 (ab.aI.map iC)),(own E K 3 1 (ab.bD.map iC)),(own F L 47 1 (List.zipWith cz (dL ab.aq 0 2 (aa.mk 2590 2599)) R)),(bo (aU gT (dL ab.aq 0 2 (aa.mk 2590 2599)) R)),(own T Fc 29 1 (List.zipWith kh (bG ab) O)),(bo (aU nt (bG ab) O)),(bZ f 38 (aa.cells (eJ ab 0 0))),(rd dF 3 2 dg)]) [0,1,2,3,4,5,6,7,16,17,18,19] U U<|bg 2 U<|AL U Bx fun k=>fQ U tw U<|bg 1 U<|RK E3<|WS fun _ E4=>rP 1 [] (mc 0 U I) ?_
 refine cX (F5 eX A G P B H C Fd D J E K R F L (by exact Bg)) (fH 12 U U<|ay (ak (n:=ab.ah.aJ.length) 1 U (by rw [List.length_map]; rfl))<|ay (ak (n:=ab.ah.ai.length) 2 U (g0 BT))<|ay (dW 3 U iS)<|ay (ak (n:=ab.ah.ag.length) 4 U (by rw [List.length_map]; rfl))<|ay (ak (n:=ab.aI.length) 5 U (by rw [List.length_map]; rfl))<|ay (ak (n:=ab.bD.length) 6 U (by rw [List.length_map]; rfl))<|ay (ak (n:=(dL ab.aq 0 2 (aa.mk 2590 2599)).length) 7 U (fw BO.1))<|ay (hE 8 U BO)<|aL) U fun FX FB=>?_
 obtain ⟨S,W,X⟩:=FX
 try dsimp only
 have EM:=FB
 have Bf:=EM
 refine rP 5 [] I ?_
 refine RK E4<|WS fun _ E5=>cX js (aL) U fun FY FC=>?_
 obtain ⟨AV,Av,AZ,Ay,Et,Ad,A2,Ah,A6,Al,A_,Ap,BD,ES⟩:=FY
 try dsimp only
 obtain ⟨Y,e,a⟩:=FC
 refine rS (CL (lW 2590 2599) (aL) U)<|cX (HW 0 2 (aa.mk 2590 2599) ab AV Av Et AZ Ay Ad A2 Ah A6 Al A_ ES Ap BD (by exact Y)) (fH 22 U U<|ay (ak (n:=ab.ah.aJ.length) 0 U sm)<|ay (ak (n:=ab.ah.ai.length) 1 U (g0 e))<|ay (dW 2 U iS)<|ay (ak (n:=ab.ah.ag.length) 3 U sm)<|ay (ak (n:=ab.aI.length) 4 U sm)<|ay (ak (n:=ab.bD.length) 5 U sm)<|ay (ak (n:=ab.aq.length) 6 U (fw a.1))<|ay (hE 7 U a)<|aL) U fun FI FR=>?_
 obtain ⟨M,N⟩:=FI
 try dsimp only
 refine bg 1 U<|qj (C1:=[(own M N 3 1 ((cw ab 0 2 (aa.mk 2590 2599)).map iC)),(own W X 29 1 (List.zipWith kh (bG eX) S)),(bo (aU nt (bG eX) S)),(bZ k 32 (bq.cells (bq.mk (bK.mk (aZ.mk (aM.mk A ab.ah.aJ.length G)) ab.ah.dM (aM.mk B ab.ah.ai.length H) (aM.mk C ab.ah.ag.length Fd) ab.ah.bI ab.ah.cv ab.ah.bL) (aM.mk D ab.aI.length J) (aM.mk E ab.bD.length K) ab.ed (aM.mk F ((dL ab.aq 0 2 (aa.mk 2590 2599)).length) L)))),(own A G 122 9 (ab.ah.aJ.map ao.cells)),(own B H 127 2 (List.zipWith au.cells ab.ah.ai P)),(bo (aU au.owns ab.ah.ai P)),(own C Fd 129 4 (ab.ah.ag.map bE.cells)),(own D J 3 1 (ab.aI.map iC)),(own E K 3 1 (ab.bD.map iC)),(own F L 47 1 (List.zipWith cz (dL ab.aq 0 2 (aa.mk 2590 2599)) R)),(bo (aU gT (dL ab.aq 0 2 (aa.mk 2590 2599)) R)),(own T Fc 29 1 (List.zipWith kh (bG ab) O)),(bo (aU nt (bG ab) O)),(bZ f 38 (aa.cells (eJ ab 0 0))),(rd dF 3 2 dg)]) [0,9,10,11,12,13,14,15,16,17,18,19,20,21,22,23] U U<|rP 4 [] I ?_
 refine RK E5<|al fun _ Cn=>py cD [0,1,2,3,4,5,6,7] [8,9,10,11,12,13,14,15,16,17,18,19,20,21,22,23,24,25,26,27,28,29,30,31,32,33,34,35,36,37,38,39,40,41,42,43,44,45,46,47,48,49,50,51,52,53,54,55,56,57,58,59,60,61,62,63,64,65,66,67,68,69,70,71,72,73] [false,false,false,false,false,false,false,false] [] [(own M N 3 1 ((cw ab 0 2 (aa.mk 2590 2599)).map iC)),(own W X 29 1 (List.zipWith kh (bG eX) S)),(bo (aU nt (bG eX) S)),(bZ k 32 (bq.cells (bq.mk (bK.mk (aZ.mk (aM.mk A ab.ah.aJ.length G)) ab.ah.dM (aM.mk B ab.ah.ai.length H) (aM.mk C ab.ah.ag.length Fd) ab.ah.bI ab.ah.cv ab.ah.bL) (aM.mk D ab.aI.length J) (aM.mk E ab.bD.length K) ab.ed (aM.mk F ((dL ab.aq 0 2 (aa.mk 2590 2599)).length) L)))),(own A G 122 9 (ab.ah.aJ.map ao.cells)),(own B H 127 2 (List.zipWith au.cells ab.ah.ai P)),(bo (aU au.owns ab.ah.ai P)),(own C Fd 129 4 (ab.ah.ag.map bE.cells)),(own D J 3 1 (ab.aI.map iC)),(own E K 3 1 (ab.bD.map iC)),(own F L 47 1 (List.zipWith cz (dL ab.aq 0 2 (aa.mk 2590 2599)) R)),(bo (aU gT (dL ab.aq 0 2 (aa.mk 2590 2599)) R)),(own T Fc 29 1 (List.zipWith kh (bG ab) O)),(bo (aU nt (bG ab) O)),(bZ f 38 (aa.cells (eJ ab 0 0))),(rd dF 3 2 dg).ro] [] kr (aK [0,1,2,3,4,5,6,7,8,9,10,11,12,13,14,15]) (aK [])<|eS U (MV U)<|eS U (BI U mj)<|eS U (MV U)<|Jw (t:=40) U (aS fun Eu=>?_) (aT fun Eu=>?_)
 ·exact absurd (OB.1) Eu
 refine eS U (LW 14 U cq U U)<|eS U (CL (lW 2596 2602) (aL) U)<|eS U (BI U (tj _ _ (eJ ab 0 0) (aa.mk 2596 2602)))<|eS U (PK U)<|eS U (MV U)<|e8 U<|N1 8<|NO U U [9,10,11,12,13,14,15,16,17,18,19,20,21,22,23,24,25,26,27,28,29,30,31,32,33,34,35,36,37,38,39,40,41,42,43,44,45,46,47,48,49,50,51,52,53,54,55,56,57,58,59,60,61,62,63,64,65,66,67,68,69,70,71,72,73] fun T106 Co=>cb (t:=45) U (aS fun Ev=>?_) (aT fun Ev=>?_)
 ·exact absurd (OB.2) Ev
 refine cX js (aL) U fun FJ EN=>?_
 obtain ⟨Bi,CH,Bn,CN,CC,Bs,CS,By,CX,B3,Cc,B8,Ci,ET⟩:=FJ
 try dsimp only
 obtain ⟨Y,e,a⟩:=EN
 refine RD Co 8 U<|N1 9<|NO U U [10,11,12,13,14,15,16,17,18,19,20,21,22,23,24,25,26,27,28,29,30,31,32,33,34,35,36,37,38,39,40,41,42,43,44,45,46,47,48,49,50,51,52,53,54,55,56,57,58,59,60,61,62,63,64,65,66,67,68,69,70,71,72,73] fun T123 Cp=>rS (CL (yQ 0 514 515 ab Bi CH CC Bn CN Bs CS By CX B3 Cc ET B8 Ci (by exact Y)) (fH 23 U U<|ay (ak (n:=ab.ah.aJ.length) 0 U sm)<|ay (ak (n:=ab.ah.ai.length) 1 U (g0 e))<|ay (dW 2 U iS)<|ay (ak (n:=ab.ah.ag.length) 3 U sm)<|ay (ak (n:=ab.aI.length) 4 U sm)<|ay (ak (n:=ab.bD.length) 5 U sm)<|ay (ak (n:=ab.aq.length) 6 U (fw a.1))<|ay (hE 7 U a)<|aL) U)<|RD Cp 8 U<|N1 10<|NO U U [11,12,13,14,15,16,17,18,19,20,21,22,23,24,25,26,27,28,29,30,31,32,33,34,35,36,37,38,39,40,41,42,43,44,45,46,47,48,49,50,51,52,53,54,55,56,57,58,59,60,61,62,63,64,65,66,67,68,69,70,71,72,73] fun T124 Cq=>qj (C1:=[(own M N 3 1 ((cw ab 0 2 (aa.mk 2590 2599)).map iC)),(own W X 29 1 (List.zipWith kh (bG eX) S)),(bo (aU nt (bG eX) S)),(bZ k 32 (bq.cells (bq.mk (bK.mk (aZ.mk (aM.mk A ab.ah.aJ.length G)) ab.ah.dM (aM.mk B ab.ah.ai.length H) (aM.mk C ab.ah.ag.length Fd) ab.ah.bI ab.ah.cv ab.ah.bL) (aM.mk D ab.aI.length J) (aM.mk E ab.bD.length K) ab.ed (aM.mk F ((dL ab.aq 0 2 (aa.mk 2590 2599)).length) L)))),(own A G 122 9 (ab.ah.aJ.map ao.cells)),(own B H 127 2 (List.zipWith au.cells ab.ah.ai P)),(bo (aU au.owns ab.ah.ai P)),(own C Fd 129 4 (ab.ah.ag.map bE.cells)),(own D J 3 1 (ab.aI.map iC)),(own E K 3 1 (ab.bD.map iC)),(own F L 47 1 (List.zipWith cz (dL ab.aq 0 2 (aa.mk 2590 2599)) R)),(bo (aU gT (dL ab.aq 0 2 (aa.mk 2590 2599)) R)),(own T Fc 29 1 (List.zipWith kh (bG ab) O)),(bo (aU nt (bG ab) O)),(bZ f 38 (aa.cells (eJ ab 0 0))),(rd dF 3 2 dg)]) [8,9,10,11,12,13,14,15,16,17,18,19,20,21,22,23] U U<|rS (PK U)<|RD Cq 0 U<|N1 11<|NO U U [12,13,14,15,16,17,18,19,20,21,22,23,24,25,26,27,28,29,30,31,32,33,34,35,36,37,38,39,40,41,42,43,44,45,46,47,48,49,50,51,52,53,54,55,56,57,58,59,60,61,62,63,64,65,66,67,68,69,70,71,72,73] fun T125 Cr=>rS (MV U)<|RD Cr 0 U ?_
 refine wI (V:=OA×Nat×OA×Nat×List RA×OA×Nat×OA×Nat×OA×Nat×OA×Nat×List cQ×Nat) (fun (u,AG,w,AI,l,y,AK,AA,AN,AC,AP,AE,AR,p,d)=>fg ab l p∧l.length=ab.ah.ai.length∧sP ab.aq p) (fun (u,AG,w,AI,l,y,AK,AA,AN,AC,AP,AE,AR,p,d)=>[(1,(vP f)),(2,(vI (gN ab 0 0))),(3,(vS T ((bG ab).length) Fc)),(4,(vI (bX ab))),(5,(vP k)),(6,(vI 0)),(7,(vS W ((bG eX).length) X)),(8,(vI (bX eX))),(9,(vS M ((cw ab 0 2 (aa.mk 2590 2599)).length) N)),(10,(vI (dQ ab 0 2 (aa.mk 2590 2599)))),(11,(vT [(vA (aa.cells (eJ ab 0 0))),(vI (gN ab 0 0))])),(12,(vA (bq.cells (bq.mk (bK.mk (aZ.mk (aM.mk BK ab.ah.aJ.length BM)) ab.ah.dM (aM.mk BL ab.ah.ai.length BN) (aM.mk Aa ab.ah.ag.length Az) ab.ah.bI ab.ah.cv ab.ah.bL) (aM.mk Ae ab.aI.length A3) (aM.mk Ai ab.bD.length A7) ab.ed (aM.mk Am ab.aq.length BA))))),(13,(vT [(vA (aa.cells (eJ ab 0 0))),(vI (gN ab 0 0))])),(14,(vA (aa.cells (eJ ab 0 0)))),(15,(vI (gN ab 0 0))),(16,(vT [(vS T ((bG ab).length) Fc),(vI (bX ab))])),(17,(vA (bq.cells (bq.mk (bK.mk (aZ.mk (aM.mk AT ab.ah.aJ.length At)) ab.ah.dM (aM.mk AW ab.ah.ai.length Aw) (aM.mk Ab ab.ah.ag.length A0) ab.ah.bI ab.ah.cv ab.ah.bL) (aM.mk Af ab.aI.length A4) (aM.mk Aj ab.bD.length A8) ab.ed (aM.mk An ab.aq.length BB))))),(18,(vT [(vS T ((bG ab).length) Fc),(vI (bX ab))])),(19,(vS T ((bG ab).length) Fc)),(20,(vI (bX ab))),(21,(vT [(vA (bq.cells (bq.mk (bK.mk (aZ.mk (aM.mk A ab.ah.aJ.length G)) ab.ah.dM (aM.mk B ab.ah.ai.length H) (aM.mk C ab.ah.ag.length Fd) ab.ah.bI ab.ah.cv ab.ah.bL) (aM.mk D ab.aI.length J) (aM.mk E ab.bD.length K) ab.ed (aM.mk F ((dL ab.aq 0 2 (aa.mk 2590 2599)).length) L)))),(vI 0)])),(22,(vA (bq.cells (bq.mk (bK.mk (aZ.mk (aM.mk AU ab.ah.aJ.length Au)) ab.ah.dM (aM.mk AX ab.ah.ai.length Ax) (aM.mk Ac ab.ah.ag.length A1) ab.ah.bI ab.ah.cv ab.ah.bL) (aM.mk Ag ab.aI.length A5) (aM.mk Ak ab.bD.length A9) ab.ed (aM.mk Ao ab.aq.length BC))))),(23,(vA (aa.cells (aa.mk 2590 2599)))),(24,(vT [(vA (bq.cells (bq.mk (bK.mk (aZ.mk (aM.mk A ab.ah.aJ.length G)) ab.ah.dM (aM.mk B ab.ah.ai.length H) (aM.mk C ab.ah.ag.length Fd) ab.ah.bI ab.ah.cv ab.ah.bL) (aM.mk D ab.aI.length J) (aM.mk E ab.bD.length K) ab.ed (aM.mk F ((dL ab.aq 0 2 (aa.mk 2590 2599)).length) L)))),(vI 0)])),(25,(vA (bq.cells (bq.mk (bK.mk (aZ.mk (aM.mk A ab.ah.aJ.length G)) ab.ah.dM (aM.mk B ab.ah.ai.length H) (aM.mk C ab.ah.ag.length Fd) ab.ah.bI ab.ah.cv ab.ah.bL) (aM.mk D ab.aI.length J) (aM.mk E ab.bD.length K) ab.ed (aM.mk F ((dL ab.aq 0 2 (aa.mk 2590 2599)).length) L))))),(26,(vI 0)),(27,(vT [(vS W ((bG eX).length) X),(vI (bX eX))])),(28,(vA (bq.cells (bq.mk (bK.mk (aZ.mk (aM.mk A ab.ah.aJ.length G)) ab.ah.dM (aM.mk B ab.ah.ai.length H) (aM.mk C ab.ah.ag.length Fd) ab.ah.bI ab.ah.cv ab.ah.bL) (aM.mk D ab.aI.length J) (aM.mk E ab.bD.length K) ab.ed (aM.mk F ((dL ab.aq 0 2 (aa.mk 2590 2599)).length) L))))),(29,(vT [(vS W ((bG eX).length) X),(vI (bX eX))])),(30,(vS W ((bG eX).length) X)),(31,(vI (bX eX))),(32,(vT [(vS M ((cw ab 0 2 (aa.mk 2590 2599)).length) N),(vI (dQ ab 0 2 (aa.mk 2590 2599)))])),(33,(vA (bq.cells (bq.mk (bK.mk (aZ.mk (aM.mk AV ab.ah.aJ.length Av)) ab.ah.dM (aM.mk AZ ab.ah.ai.length Ay) (aM.mk Ad ab.ah.ag.length A2) ab.ah.bI ab.ah.cv ab.ah.bL) (aM.mk Ah ab.aI.length A6) (aM.mk Al ab.bD.length A_) ab.ed (aM.mk Ap ab.aq.length BD))))),(34,(vA (aa.cells (aa.mk 2590 2599)))),(35,(vT [(vS M ((cw ab 0 2 (aa.mk 2590 2599)).length) N),(vI (dQ ab 0 2 (aa.mk 2590 2599)))])),(36,(vS M ((cw ab 0 2 (aa.mk 2590 2599)).length) N)),(37,(vI (dQ ab 0 2 (aa.mk 2590 2599)))),(49,(vB true)),(50,(vA (bq.cells (bq.mk (bK.mk (aZ.mk (aM.mk u ab.ah.aJ.length AG)) ab.ah.dM (aM.mk w ab.ah.ai.length AI) (aM.mk y ab.ah.ag.length AK) ab.ah.bI ab.ah.cv ab.ah.bL) (aM.mk AA ab.aI.length AN) (aM.mk AC ab.bD.length AP) ab.ed (aM.mk AE ab.aq.length AR))))),(51,(vS (some ⟨d,0,none⟩) 2 2))]) (fun (u,AG,w,AI,l,y,AK,AA,AN,AC,AP,AE,AR,p,d)=>[(bZ d 3 [(vI 1),(vI 2)]),(own u AG 122 9 (ab.ah.aJ.map ao.cells)),(own w AI 127 2 (List.zipWith au.cells ab.ah.ai l)),(bo (aU au.owns ab.ah.ai l)),(own y AK 129 4 (ab.ah.ag.map bE.cells)),(own AA AN 3 1 (ab.aI.map iC)),(own AC AP 3 1 (ab.bD.map iC)),(own AE AR 47 1 (List.zipWith cz ab.aq p)),(bo (aU gT ab.aq p)),(own M N 3 1 ((cw ab 0 2 (aa.mk 2590 2599)).map iC)),(own W X 29 1 (List.zipWith kh (bG eX) S)),(bo (aU nt (bG eX) S)),(bZ k 32 (bq.cells (bq.mk (bK.mk (aZ.mk (aM.mk A ab.ah.aJ.length G)) ab.ah.dM (aM.mk B ab.ah.ai.length H) (aM.mk C ab.ah.ag.length Fd) ab.ah.bI ab.ah.cv ab.ah.bL) (aM.mk D ab.aI.length J) (aM.mk E ab.bD.length K) ab.ed (aM.mk F ((dL ab.aq 0 2 (aa.mk 2590 2599)).length) L)))),(own A G 122 9 (ab.ah.aJ.map ao.cells)),(own B H 127 2 (List.zipWith au.cells ab.ah.ai P)),(bo (aU au.owns ab.ah.ai P)),(own C Fd 129 4 (ab.ah.ag.map bE.cells)),(own D J 3 1 (ab.aI.map iC)),(own E K 3 1 (ab.bD.map iC)),(own F L 47 1 (List.zipWith cz (dL ab.aq 0 2 (aa.mk 2590 2599)) R)),(bo (aU gT (dL ab.aq 0 2 (aa.mk 2590 2599)) R)),(own T Fc 29 1 (List.zipWith kh (bG ab) O)),(bo (aU nt (bG ab) O)),(bZ f 38 (aa.cells (eJ ab 0 0))),(rd dF 3 2 dg).ro]) 60 [14,15,16,17,18,19,20,21,22,23,24,25,26,27,28,29,30,31,32,33,34,35,36,37,38,39,40,41,42,43,44,45,46,47,48,49,50,51,52,53,54,55,56,57,58,59,60,61,62,63,64,65,66,67,68,69,70,71,72,73] (fun hJ=>?_) ?_
 ·refine iR [12,13] kr (eN ?_<|eN ?_<|kT)
  rotate_left 1
  ·refine NO U U [12,14,15,16,17,18,19,20,21,22,23,24,25,26,27,28,29,30,31,32,33,34,35,36,37,38,39,40,41,42,43,44,45,46,47,48,49,50,51,52,53,54,55,56,57,58,59,60,61,62,63,64,65,66,67,68,69,70,71,72,73] fun T162 Cv=>cb (t:=49) U (aS fun BP=>?_) (aT fun BP=>?_)
   ·exact absurd (⟨mo.1,mo.2.1⟩) BP
   refine cU (xs:=[.const (vI 1),.const (vI 2)]) (cs:=[(vI 1),(vI 2)]) U cy jd U U U U (by simp [Value.cells]) U U fun EZ=>RD Cv 1 U<|N1 12<|NO U U [14,15,16,17,18,19,20,21,22,23,24,25,26,27,28,29,30,31,32,33,34,35,36,37,38,39,40,41,42,43,44,45,46,47,48,49,50,51,52,53,54,55,56,57,58,59,60,61,62,63,64,65,66,67,68,69,70,71,72,73] fun T164 Cw=>cX js (aL) U fun FL EP=>?_
   obtain ⟨Bk,CJ,Bp,CP,CE,Bu,CU,B0,CZ,B5,Ce,B_,Ck,EV⟩:=FL
   try dsimp only
   obtain ⟨Y,e,a⟩:=EP
   refine RD Cw 9 U ?_
   exact jO hJ (Bk,CJ,Bp,CP,CE,Bu,CU,B0,CZ,B5,Ce,B_,Ck,EV,EZ) ⟨Y,e,a⟩ [8,0,1,2,3,4,5,6,7,9,10,11,12,13,14,15,16,17,18,19,20,21,22,23,24] U U U
  refine NO U U [13,14,15,16,17,18,19,20,21,22,23,24,25,26,27,28,29,30,31,32,33,34,35,36,37,38,39,40,41,42,43,44,45,46,47,48,49,50,51,52,53,54,55,56,57,58,59,60,61,62,63,64,65,66,67,68,69,70,71,72,73] fun T143 Cs=>cb (t:=49) U (aS fun BP=>?_) (aT fun BP=>?_)
  ·exact absurd (⟨mo.1,mo.2.1⟩) BP
  refine cX js (aL) U fun FK EO=>?_
  obtain ⟨Bj,CI,Bo,CO,CD,Bt,CT,Bz,CY,B4,Cd,B9,Cj,EU⟩:=FK
  try dsimp only
  obtain ⟨Y,e,a⟩:=EO
  refine RD Cs 8 U<|N1 13<|NO U U [14,15,16,17,18,19,20,21,22,23,24,25,26,27,28,29,30,31,32,33,34,35,36,37,38,39,40,41,42,43,44,45,46,47,48,49,50,51,52,53,54,55,56,57,58,59,60,61,62,63,64,65,66,67,68,69,70,71,72,73] fun T160 Cu=>cU (xs:=[.const (vI 1),.const (vI 2)]) (cs:=[(vI 1),(vI 2)]) U cy jd U U U U (by simp [Value.cells]) U U fun EY=>RD Cu 9 U ?_
  exact jO hJ (Bj,CI,Bo,CO,CD,Bt,CT,Bz,CY,B4,Cd,B9,Cj,EU,EY) ⟨Y,e,a⟩ [0,1,2,3,4,5,6,7,8,9,10,11,12,13,14,15,16,17,18,19,20,21,22,23,24] U U U
 rintro ⟨u,AG,w,AI,l,y,AK,AA,AN,AC,AP,AE,AR,p,d⟩ ⟨Y,e,a⟩
 try dsimp only
 refine N1 14<|NO U U [15,16,17,18,19,20,21,22,23,24,25,26,27,28,29,30,31,32,33,34,35,36,37,38,39,40,41,42,43,44,45,46,47,48,49,50,51,52,53,54,55,56,57,58,59,60,61,62,63,64,65,66,67,68,69,70,71,72,73] fun T181 Cx=>rS (CL (zy 0 ([1,2]) (some ⟨d,0,none⟩) 2 ab u AG l w AI y AK AA AN AC AP p AE AR (by exact Y) dc) (ay (aY 0 U U (by simp [bJ]) U)<|fH 24 U U<|ay (ak (n:=ab.ah.aJ.length) 1 U sm)<|ay (ak (n:=ab.ah.ai.length) 2 U (g0 e))<|ay (dW 3 U iS)<|ay (ak (n:=ab.ah.ag.length) 4 U sm)<|ay (ak (n:=ab.aI.length) 5 U sm)<|ay (ak (n:=ab.bD.length) 6 U sm)<|ay (ak (n:=ab.aq.length) 7 U (fw a.1))<|ay (hE 8 U a)<|aL) U)<|RD Cx 9 U<|N1 15<|NO U U [16,17,18,19,20,21,22,23,24,25,26,27,28,29,30,31,32,33,34,35,36,37,38,39,40,41,42,43,44,45,46,47,48,49,50,51,52,53,54,55,56,57,58,59,60,61,62,63,64,65,66,67,68,69,70,71,72,73] fun T182 Cy=>qj (C1:=[(bZ d 3 [(vI 1),(vI 2)]),(own M N 3 1 ((cw ab 0 2 (aa.mk 2590 2599)).map iC)),(own W X 29 1 (List.zipWith kh (bG eX) S)),(bo (aU nt (bG eX) S)),(bZ k 32 (bq.cells (bq.mk (bK.mk (aZ.mk (aM.mk A ab.ah.aJ.length G)) ab.ah.dM (aM.mk B ab.ah.ai.length H) (aM.mk C ab.ah.ag.length Fd) ab.ah.bI ab.ah.cv ab.ah.bL) (aM.mk D ab.aI.length J) (aM.mk E ab.bD.length K) ab.ed (aM.mk F ((dL ab.aq 0 2 (aa.mk 2590 2599)).length) L)))),(own A G 122 9 (ab.ah.aJ.map ao.cells)),(own B H 127 2 (List.zipWith au.cells ab.ah.ai P)),(bo (aU au.owns ab.ah.ai P)),(own C Fd 129 4 (ab.ah.ag.map bE.cells)),(own D J 3 1 (ab.aI.map iC)),(own E K 3 1 (ab.bD.map iC)),(own F L 47 1 (List.zipWith cz (dL ab.aq 0 2 (aa.mk 2590 2599)) R)),(bo (aU gT (dL ab.aq 0 2 (aa.mk 2590 2599)) R)),(own T Fc 29 1 (List.zipWith kh (bG ab) O)),(bo (aU nt (bG ab) O)),(bZ f 38 (aa.cells (eJ ab 0 0))),(rd dF 3 2 dg)]) [0,9,10,11,12,13,14,15,16,17,18,19,20,21,22,23,24] U U<|rS (PK U)<|RD Cy 1 U<|N1 16<|NO U U [17,18,19,20,21,22,23,24,25,26,27,28,29,30,31,32,33,34,35,36,37,38,39,40,41,42,43,44,45,46,47,48,49,50,51,52,53,54,55,56,57,58,59,60,61,62,63,64,65,66,67,68,69,70,71,72,73] fun T183 Cz=>rS (MV U)<|RD Cz 1 U ?_
 refine wI (V:=OA×Nat×OA×Nat×List RA×OA×Nat×OA×Nat×OA×Nat×OA×Nat×List cQ×Nat) (fun (v,AH,x,AJ,o,z,AM,AB,AO,AD,AQ,AF,AS,q,g)=>fg ab o q∧o.length=ab.ah.ai.length∧sP ab.aq q) (fun (v,AH,x,AJ,o,z,AM,AB,AO,AD,AQ,AF,AS,q,g)=>[(1,(vP f)),(2,(vI (gN ab 0 0))),(3,(vS T ((bG ab).length) Fc)),(4,(vI (bX ab))),(5,(vP k)),(6,(vI 0)),(7,(vS W ((bG eX).length) X)),(8,(vI (bX eX))),(9,(vS M ((cw ab 0 2 (aa.mk 2590 2599)).length) N)),(10,(vI (dQ ab 0 2 (aa.mk 2590 2599)))),(11,(vT [(vA (aa.cells (eJ ab 0 0))),(vI (gN ab 0 0))])),(12,(vA (bq.cells (bq.mk (bK.mk (aZ.mk (aM.mk BK ab.ah.aJ.length BM)) ab.ah.dM (aM.mk BL ab.ah.ai.length BN) (aM.mk Aa ab.ah.ag.length Az) ab.ah.bI ab.ah.cv ab.ah.bL) (aM.mk Ae ab.aI.length A3) (aM.mk Ai ab.bD.length A7) ab.ed (aM.mk Am ab.aq.length BA))))),(13,(vT [(vA (aa.cells (eJ ab 0 0))),(vI (gN ab 0 0))])),(14,(vA (aa.cells (eJ ab 0 0)))),(15,(vI (gN ab 0 0))),(16,(vT [(vS T ((bG ab).length) Fc),(vI (bX ab))])),(17,(vA (bq.cells (bq.mk (bK.mk (aZ.mk (aM.mk AT ab.ah.aJ.length At)) ab.ah.dM (aM.mk AW ab.ah.ai.length Aw) (aM.mk Ab ab.ah.ag.length A0) ab.ah.bI ab.ah.cv ab.ah.bL) (aM.mk Af ab.aI.length A4) (aM.mk Aj ab.bD.length A8) ab.ed (aM.mk An ab.aq.length BB))))),(18,(vT [(vS T ((bG ab).length) Fc),(vI (bX ab))])),(19,(vS T ((bG ab).length) Fc)),(20,(vI (bX ab))),(21,(vT [(vA (bq.cells (bq.mk (bK.mk (aZ.mk (aM.mk A ab.ah.aJ.length G)) ab.ah.dM (aM.mk B ab.ah.ai.length H) (aM.mk C ab.ah.ag.length Fd) ab.ah.bI ab.ah.cv ab.ah.bL) (aM.mk D ab.aI.length J) (aM.mk E ab.bD.length K) ab.ed (aM.mk F ((dL ab.aq 0 2 (aa.mk 2590 2599)).length) L)))),(vI 0)])),(22,(vA (bq.cells (bq.mk (bK.mk (aZ.mk (aM.mk AU ab.ah.aJ.length Au)) ab.ah.dM (aM.mk AX ab.ah.ai.length Ax) (aM.mk Ac ab.ah.ag.length A1) ab.ah.bI ab.ah.cv ab.ah.bL) (aM.mk Ag ab.aI.length A5) (aM.mk Ak ab.bD.length A9) ab.ed (aM.mk Ao ab.aq.length BC))))),(23,(vA (aa.cells (aa.mk 2590 2599)))),(24,(vT [(vA (bq.cells (bq.mk (bK.mk (aZ.mk (aM.mk A ab.ah.aJ.length G)) ab.ah.dM (aM.mk B ab.ah.ai.length H) (aM.mk C ab.ah.ag.length Fd) ab.ah.bI ab.ah.cv ab.ah.bL) (aM.mk D ab.aI.length J) (aM.mk E ab.bD.length K) ab.ed (aM.mk F ((dL ab.aq 0 2 (aa.mk 2590 2599)).length) L)))),(vI 0)])),(25,(vA (bq.cells (bq.mk (bK.mk (aZ.mk (aM.mk A ab.ah.aJ.length G)) ab.ah.dM (aM.mk B ab.ah.ai.length H) (aM.mk C ab.ah.ag.length Fd) ab.ah.bI ab.ah.cv ab.ah.bL) (aM.mk D ab.aI.length J) (aM.mk E ab.bD.length K) ab.ed (aM.mk F ((dL ab.aq 0 2 (aa.mk 2590 2599)).length) L))))),(26,(vI 0)),(27,(vT [(vS W ((bG eX).length) X),(vI (bX eX))])),(28,(vA (bq.cells (bq.mk (bK.mk (aZ.mk (aM.mk A ab.ah.aJ.length G)) ab.ah.dM (aM.mk B ab.ah.ai.length H) (aM.mk C ab.ah.ag.length Fd) ab.ah.bI ab.ah.cv ab.ah.bL) (aM.mk D ab.aI.length J) (aM.mk E ab.bD.length K) ab.ed (aM.mk F ((dL ab.aq 0 2 (aa.mk 2590 2599)).length) L))))),(29,(vT [(vS W ((bG eX).length) X),(vI (bX eX))])),(30,(vS W ((bG eX).length) X)),(31,(vI (bX eX))),(32,(vT [(vS M ((cw ab 0 2 (aa.mk 2590 2599)).length) N),(vI (dQ ab 0 2 (aa.mk 2590 2599)))])),(33,(vA (bq.cells (bq.mk (bK.mk (aZ.mk (aM.mk AV ab.ah.aJ.length Av)) ab.ah.dM (aM.mk AZ ab.ah.ai.length Ay) (aM.mk Ad ab.ah.ag.length A2) ab.ah.bI ab.ah.cv ab.ah.bL) (aM.mk Ah ab.aI.length A6) (aM.mk Al ab.bD.length A_) ab.ed (aM.mk Ap ab.aq.length BD))))),(34,(vA (aa.cells (aa.mk 2590 2599)))),(35,(vT [(vS M ((cw ab 0 2 (aa.mk 2590 2599)).length) N),(vI (dQ ab 0 2 (aa.mk 2590 2599)))])),(36,(vS M ((cw ab 0 2 (aa.mk 2590 2599)).length) N)),(37,(vI (dQ ab 0 2 (aa.mk 2590 2599)))),(54,(vB true)),(55,(vA (bq.cells (bq.mk (bK.mk (aZ.mk (aM.mk v ab.ah.aJ.length AH)) ab.ah.dM (aM.mk x ab.ah.ai.length AJ) (aM.mk z ab.ah.ag.length AM) ab.ah.bI ab.ah.cv ab.ah.bL) (aM.mk AB ab.aI.length AO) (aM.mk AD ab.bD.length AQ) ab.ed (aM.mk AF ab.aq.length AS))))),(56,(vS (some ⟨g,0,none⟩) 2 2))]) (fun (v,AH,x,AJ,o,z,AM,AB,AO,AD,AQ,AF,AS,q,g)=>[(bZ g 3 [(vI 2),(vI 3)]),(own v AH 122 9 (ab.ah.aJ.map ao.cells)),(own x AJ 127 2 (List.zipWith au.cells ab.ah.ai o)),(bo (aU au.owns ab.ah.ai o)),(own z AM 129 4 (ab.ah.ag.map bE.cells)),(own AB AO 3 1 (ab.aI.map iC)),(own AD AQ 3 1 (ab.bD.map iC)),(own AF AS 47 1 (List.zipWith cz ab.aq q)),(bo (aU gT ab.aq q)),(bZ d 3 [(vI 1),(vI 2)]),(own M N 3 1 ((cw ab 0 2 (aa.mk 2590 2599)).map iC)),(own W X 29 1 (List.zipWith kh (bG eX) S)),(bo (aU nt (bG eX) S)),(bZ k 32 (bq.cells (bq.mk (bK.mk (aZ.mk (aM.mk A ab.ah.aJ.length G)) ab.ah.dM (aM.mk B ab.ah.ai.length H) (aM.mk C ab.ah.ag.length Fd) ab.ah.bI ab.ah.cv ab.ah.bL) (aM.mk D ab.aI.length J) (aM.mk E ab.bD.length K) ab.ed (aM.mk F ((dL ab.aq 0 2 (aa.mk 2590 2599)).length) L)))),(own A G 122 9 (ab.ah.aJ.map ao.cells)),(own B H 127 2 (List.zipWith au.cells ab.ah.ai P)),(bo (aU au.owns ab.ah.ai P)),(own C Fd 129 4 (ab.ah.ag.map bE.cells)),(own D J 3 1 (ab.aI.map iC)),(own E K 3 1 (ab.bD.map iC)),(own F L 47 1 (List.zipWith cz (dL ab.aq 0 2 (aa.mk 2590 2599)) R)),(bo (aU gT (dL ab.aq 0 2 (aa.mk 2590 2599)) R)),(own T Fc 29 1 (List.zipWith kh (bG ab) O)),(bo (aU nt (bG ab) O)),(bZ f 38 (aa.cells (eJ ab 0 0))),(rd dF 3 2 dg).ro]) 55 [19,20,21,22,23,24,25,26,27,28,29,30,31,32,33,34,35,36,37,38,39,40,41,42,43,44,45,46,47,48,49,50,51,52,53,54,55,56,57,58,59,60,61,62,63,64,65,66,67,68,69,70,71,72,73] (fun hJ=>?_) ?_
 ·refine iR [17,18] kr (eN ?_<|eN ?_<|kT)
  rotate_left 1
  ·refine NO U U [17,19,20,21,22,23,24,25,26,27,28,29,30,31,32,33,34,35,36,37,38,39,40,41,42,43,44,45,46,47,48,49,50,51,52,53,54,55,56,57,58,59,60,61,62,63,64,65,66,67,68,69,70,71,72,73] fun T220 C3=>cb (t:=54) U (aS fun BQ=>?_) (aT fun BQ=>?_)
   ·exact absurd (⟨mo.1,mo.2.2⟩) BQ
   refine cU (xs:=[.const (vI 2),.const (vI 3)]) (cs:=[(vI 2),(vI 3)]) U cy jd U U U U (by simp [Value.cells]) U U fun Eb=>RD C3 2 U<|N1 17<|NO U U [19,20,21,22,23,24,25,26,27,28,29,30,31,32,33,34,35,36,37,38,39,40,41,42,43,44,45,46,47,48,49,50,51,52,53,54,55,56,57,58,59,60,61,62,63,64,65,66,67,68,69,70,71,72,73] fun T222 C4=>cX js (aL) U fun FN ER=>?_
   obtain ⟨Bm,CM,Br,CR,CG,Bw,CW,B2,Cb,B7,Ch,CB,Cm,EX⟩:=FN
   try dsimp only
   obtain ⟨Y,e,a⟩:=ER
   refine RD C4 10 U ?_
   exact jO hJ (Bm,CM,Br,CR,CG,Bw,CW,B2,Cb,B7,Ch,CB,Cm,EX,Eb) ⟨Y,e,a⟩ [8,0,1,2,3,4,5,6,7,9,10,11,12,13,14,15,16,17,18,19,20,21,22,23,24,25] U U U
  refine NO U U [18,19,20,21,22,23,24,25,26,27,28,29,30,31,32,33,34,35,36,37,38,39,40,41,42,43,44,45,46,47,48,49,50,51,52,53,54,55,56,57,58,59,60,61,62,63,64,65,66,67,68,69,70,71,72,73] fun T201 C0=>cb (t:=54) U (aS fun BQ=>?_) (aT fun BQ=>?_)
  ·exact absurd (⟨mo.1,mo.2.2⟩) BQ
  refine cX js (aL) U fun FM EQ=>?_
  obtain ⟨Bl,CK,Bq,CQ,CF,Bv,CV,B1,Ca,B6,Cg,CA,Cl,EW⟩:=FM
  try dsimp only
  obtain ⟨Y,e,a⟩:=EQ
  refine RD C0 9 U<|N1 18<|NO U U [19,20,21,22,23,24,25,26,27,28,29,30,31,32,33,34,35,36,37,38,39,40,41,42,43,44,45,46,47,48,49,50,51,52,53,54,55,56,57,58,59,60,61,62,63,64,65,66,67,68,69,70,71,72,73] fun T218 C2=>cU (xs:=[.const (vI 2),.const (vI 3)]) (cs:=[(vI 2),(vI 3)]) U cy jd U U U U (by simp [Value.cells]) U U fun Ea=>RD C2 10 U ?_
  exact jO hJ (Bl,CK,Bq,CQ,CF,Bv,CV,B1,Ca,B6,Cg,CA,Cl,EW,Ea) ⟨Y,e,a⟩ [0,1,2,3,4,5,6,7,8,9,10,11,12,13,14,15,16,17,18,19,20,21,22,23,24,25] U U U
 rintro ⟨v,AH,x,AJ,o,z,AM,AB,AO,AD,AQ,AF,AS,q,g⟩ ⟨Y,e,a⟩
 try dsimp only
 refine N1 19<|NO U U [20,21,22,23,24,25,26,27,28,29,30,31,32,33,34,35,36,37,38,39,40,41,42,43,44,45,46,47,48,49,50,51,52,53,54,55,56,57,58,59,60,61,62,63,64,65,66,67,68,69,70,71,72,73] fun T239 C5=>rS (CL (zy 2 ([2,3]) (some ⟨g,0,none⟩) 2 ab v AH o x AJ z AM AB AO AD AQ q AF AS (by exact Y) dc) (ay (aY 0 U U (by simp [bJ]) U)<|fH 25 U U<|ay (ak (n:=ab.ah.aJ.length) 1 U sm)<|ay (ak (n:=ab.ah.ai.length) 2 U (g0 e))<|ay (dW 3 U iS)<|ay (ak (n:=ab.ah.ag.length) 4 U sm)<|ay (ak (n:=ab.aI.length) 5 U sm)<|ay (ak (n:=ab.bD.length) 6 U sm)<|ay (ak (n:=ab.aq.length) 7 U (fw a.1))<|ay (hE 8 U a)<|aL) U)<|RD C5 10 U<|N1 20<|NO U U [21,22,23,24,25,26,27,28,29,30,31,32,33,34,35,36,37,38,39,40,41,42,43,44,45,46,47,48,49,50,51,52,53,54,55,56,57,58,59,60,61,62,63,64,65,66,67,68,69,70,71,72,73] fun T240 C6=>qj (C1:=[(bZ g 3 [(vI 2),(vI 3)]),(bZ d 3 [(vI 1),(vI 2)]),(own M N 3 1 ((cw ab 0 2 (aa.mk 2590 2599)).map iC)),(own W X 29 1 (List.zipWith kh (bG eX) S)),(bo (aU nt (bG eX) S)),(bZ k 32 (bq.cells (bq.mk (bK.mk (aZ.mk (aM.mk A ab.ah.aJ.length G)) ab.ah.dM (aM.mk B ab.ah.ai.length H) (aM.mk C ab.ah.ag.length Fd) ab.ah.bI ab.ah.cv ab.ah.bL) (aM.mk D ab.aI.length J) (aM.mk E ab.bD.length K) ab.ed (aM.mk F ((dL ab.aq 0 2 (aa.mk 2590 2599)).length) L)))),(own A G 122 9 (ab.ah.aJ.map ao.cells)),(own B H 127 2 (List.zipWith au.cells ab.ah.ai P)),(bo (aU au.owns ab.ah.ai P)),(own C Fd 129 4 (ab.ah.ag.map bE.cells)),(own D J 3 1 (ab.aI.map iC)),(own E K 3 1 (ab.bD.map iC)),(own F L 47 1 (List.zipWith cz (dL ab.aq 0 2 (aa.mk 2590 2599)) R)),(bo (aU gT (dL ab.aq 0 2 (aa.mk 2590 2599)) R)),(own T Fc 29 1 (List.zipWith kh (bG ab) O)),(bo (aU nt (bG ab) O)),(bZ f 38 (aa.cells (eJ ab 0 0))),(rd dF 3 2 dg)]) [0,9,10,11,12,13,14,15,16,17,18,19,20,21,22,23,24,25] U U<|rS (PK U)<|RD C6 2 U<|N1 21<|NO U U [22,23,24,25,26,27,28,29,30,31,32,33,34,35,36,37,38,39,40,41,42,43,44,45,46,47,48,49,50,51,52,53,54,55,56,57,58,59,60,61,62,63,64,65,66,67,68,69,70,71,72,73] fun T241 C7=>rS (MV U)<|RD C7 2 U<|N1 22<|NO U U [23,24,25,26,27,28,29,30,31,32,33,34,35,36,37,38,39,40,41,42,43,44,45,46,47,48,49,50,51,52,53,54,55,56,57,58,59,60,61,62,63,64,65,66,67,68,69,70,71,72,73] fun T242 C9=>cb (t:=59) U (aS fun Ew=>?_) (aT fun Ew=>?_)
 ·exact absurd (⟨Ct.1,Ct.2.2⟩) Ew
 refine rS (CL (Cf 1 2 2 0) (bp [17]) U)<|RD C9 2 U<|N1 23<|NO U U [24,25,26,27,28,29,30,31,32,33,34,35,36,37,38,39,40,41,42,43,44,45,46,47,48,49,50,51,52,53,54,55,56,57,58,59,60,61,62,63,64,65,66,67,68,69,70,71,72,73] fun T243 C_=>rS (PK U)<|RD C_ 2 U<|N1 24<|NO U U [25,26,27,28,29,30,31,32,33,34,35,36,37,38,39,40,41,42,43,44,45,46,47,48,49,50,51,52,53,54,55,56,57,58,59,60,61,62,63,64,65,66,67,68,69,70,71,72,73] fun T244 DA=>rS (MV U)<|RD DA 2 U<|N1 25<|NO U U [26,27,28,29,30,31,32,33,34,35,36,37,38,39,40,41,42,43,44,45,46,47,48,49,50,51,52,53,54,55,56,57,58,59,60,61,62,63,64,65,66,67,68,69,70,71,72,73] fun T245 DB=>cb (t:=62) U (aS fun Ex=>?_) (aT fun Ex=>?_)
 ·exact absurd (⟨⟨⟨z4.1,z4.2.1⟩,z4.1⟩,z4.2.2⟩) Ex
 refine rS (CL (Cf 0 1 0 1) (bp [17]) U)<|RD DB 2 U<|N1 26<|NO U U [27,28,29,30,31,32,33,34,35,36,37,38,39,40,41,42,43,44,45,46,47,48,49,50,51,52,53,54,55,56,57,58,59,60,61,62,63,64,65,66,67,68,69,70,71,72,73] fun T246 DC=>rS (PK U)<|RD DC 2 U<|N1 27<|NO U U [28,29,30,31,32,33,34,35,36,37,38,39,40,41,42,43,44,45,46,47,48,49,50,51,52,53,54,55,56,57,58,59,60,61,62,63,64,65,66,67,68,69,70,71,72,73] fun T247 DD=>rS (MV U)<|RD DD 2 U<|N1 28<|NO U U [29,30,31,32,33,34,35,36,37,38,39,40,41,42,43,44,45,46,47,48,49,50,51,52,53,54,55,56,57,58,59,60,61,62,63,64,65,66,67,68,69,70,71,72,73] fun T248 DE=>cb (t:=65) U (aS fun Ey=>?_) (aT fun Ey=>?_)
 ·exact absurd (⟨⟨⟨zS.1,zS.2.1⟩,zS.1⟩,zS.2.2⟩) Ey
 refine rS (MV U)<|RD DE 2 U<|N1 29<|NO U U [30,31,32,33,34,35,36,37,38,39,40,41,42,43,44,45,46,47,48,49,50,51,52,53,54,55,56,57,58,59,60,61,62,63,64,65,66,67,68,69,70,71,72,73] fun T249 DF=>rS (BI U mj)<|RD DF 2 U<|N1 30<|NO U U [31,32,33,34,35,36,37,38,39,40,41,42,43,44,45,46,47,48,49,50,51,52,53,54,55,56,57,58,59,60,61,62,63,64,65,66,67,68,69,70,71,72,73] fun T250 DG=>rS (PK U)<|RD DG 2 U<|N1 31<|NO U U [32,33,34,35,36,37,38,39,40,41,42,43,44,45,46,47,48,49,50,51,52,53,54,55,56,57,58,59,60,61,62,63,64,65,66,67,68,69,70,71,72,73] fun T251 DH=>rS (MV U)<|RD DH 2 U ?_
 refine wI (V:=Nat×Nat) (fun (Z,j)=>True) (fun (Z,j)=>[(1,(vP f)),(2,(vI (gN ab 0 0))),(3,(vS T ((bG ab).length) Fc)),(4,(vI (bX ab))),(5,(vP k)),(6,(vI 0)),(7,(vS W ((bG eX).length) X)),(8,(vI (bX eX))),(9,(vS M ((cw ab 0 2 (aa.mk 2590 2599)).length) N)),(10,(vI (dQ ab 0 2 (aa.mk 2590 2599)))),(11,(vT [(vA (aa.cells (eJ ab 0 0))),(vI (gN ab 0 0))])),(12,(vA (bq.cells (bq.mk (bK.mk (aZ.mk (aM.mk BK ab.ah.aJ.length BM)) ab.ah.dM (aM.mk BL ab.ah.ai.length BN) (aM.mk Aa ab.ah.ag.length Az) ab.ah.bI ab.ah.cv ab.ah.bL) (aM.mk Ae ab.aI.length A3) (aM.mk Ai ab.bD.length A7) ab.ed (aM.mk Am ab.aq.length BA))))),(13,(vT [(vA (aa.cells (eJ ab 0 0))),(vI (gN ab 0 0))])),(14,(vA (aa.cells (eJ ab 0 0)))),(15,(vI (gN ab 0 0))),(16,(vT [(vS T ((bG ab).length) Fc),(vI (bX ab))])),(17,(vA (bq.cells (bq.mk (bK.mk (aZ.mk (aM.mk AT ab.ah.aJ.length At)) ab.ah.dM (aM.mk AW ab.ah.ai.length Aw) (aM.mk Ab ab.ah.ag.length A0) ab.ah.bI ab.ah.cv ab.ah.bL) (aM.mk Af ab.aI.length A4) (aM.mk Aj ab.bD.length A8) ab.ed (aM.mk An ab.aq.length BB))))),(18,(vT [(vS T ((bG ab).length) Fc),(vI (bX ab))])),(19,(vS T ((bG ab).length) Fc)),(20,(vI (bX ab))),(21,(vT [(vA (bq.cells (bq.mk (bK.mk (aZ.mk (aM.mk A ab.ah.aJ.length G)) ab.ah.dM (aM.mk B ab.ah.ai.length H) (aM.mk C ab.ah.ag.length Fd) ab.ah.bI ab.ah.cv ab.ah.bL) (aM.mk D ab.aI.length J) (aM.mk E ab.bD.length K) ab.ed (aM.mk F ((dL ab.aq 0 2 (aa.mk 2590 2599)).length) L)))),(vI 0)])),(22,(vA (bq.cells (bq.mk (bK.mk (aZ.mk (aM.mk AU ab.ah.aJ.length Au)) ab.ah.dM (aM.mk AX ab.ah.ai.length Ax) (aM.mk Ac ab.ah.ag.length A1) ab.ah.bI ab.ah.cv ab.ah.bL) (aM.mk Ag ab.aI.length A5) (aM.mk Ak ab.bD.length A9) ab.ed (aM.mk Ao ab.aq.length BC))))),(23,(vA (aa.cells (aa.mk 2590 2599)))),(24,(vT [(vA (bq.cells (bq.mk (bK.mk (aZ.mk (aM.mk A ab.ah.aJ.length G)) ab.ah.dM (aM.mk B ab.ah.ai.length H) (aM.mk C ab.ah.ag.length Fd) ab.ah.bI ab.ah.cv ab.ah.bL) (aM.mk D ab.aI.length J) (aM.mk E ab.bD.length K) ab.ed (aM.mk F ((dL ab.aq 0 2 (aa.mk 2590 2599)).length) L)))),(vI 0)])),(25,(vA (bq.cells (bq.mk (bK.mk (aZ.mk (aM.mk A ab.ah.aJ.length G)) ab.ah.dM (aM.mk B ab.ah.ai.length H) (aM.mk C ab.ah.ag.length Fd) ab.ah.bI ab.ah.cv ab.ah.bL) (aM.mk D ab.aI.length J) (aM.mk E ab.bD.length K) ab.ed (aM.mk F ((dL ab.aq 0 2 (aa.mk 2590 2599)).length) L))))),(26,(vI 0)),(27,(vT [(vS W ((bG eX).length) X),(vI (bX eX))])),(28,(vA (bq.cells (bq.mk (bK.mk (aZ.mk (aM.mk A ab.ah.aJ.length G)) ab.ah.dM (aM.mk B ab.ah.ai.length H) (aM.mk C ab.ah.ag.length Fd) ab.ah.bI ab.ah.cv ab.ah.bL) (aM.mk D ab.aI.length J) (aM.mk E ab.bD.length K) ab.ed (aM.mk F ((dL ab.aq 0 2 (aa.mk 2590 2599)).length) L))))),(29,(vT [(vS W ((bG eX).length) X),(vI (bX eX))])),(30,(vS W ((bG eX).length) X)),(31,(vI (bX eX))),(32,(vT [(vS M ((cw ab 0 2 (aa.mk 2590 2599)).length) N),(vI (dQ ab 0 2 (aa.mk 2590 2599)))])),(33,(vA (bq.cells (bq.mk (bK.mk (aZ.mk (aM.mk AV ab.ah.aJ.length Av)) ab.ah.dM (aM.mk AZ ab.ah.ai.length Ay) (aM.mk Ad ab.ah.ag.length A2) ab.ah.bI ab.ah.cv ab.ah.bL) (aM.mk Ah ab.aI.length A6) (aM.mk Al ab.bD.length A_) ab.ed (aM.mk Ap ab.aq.length BD))))),(34,(vA (aa.cells (aa.mk 2590 2599)))),(35,(vT [(vS M ((cw ab 0 2 (aa.mk 2590 2599)).length) N),(vI (dQ ab 0 2 (aa.mk 2590 2599)))])),(36,(vS M ((cw ab 0 2 (aa.mk 2590 2599)).length) N)),(37,(vI (dQ ab 0 2 (aa.mk 2590 2599)))),(69,(vB true)),(70,(vS T ((bG ab).length) Fc)),(71,(vS (some ⟨Z,0,none⟩) 3 3)),(72,(vS (some ⟨j,0,none⟩) 1 1))]) (fun (Z,j)=>[(bZ j 29 [(vS (some ⟨Z,0,none⟩) 3 3)]),(bZ Z 3 [(vI 0),(vI 1),(vI 2)]),(bZ g 3 [(vI 2),(vI 3)]),(bZ d 3 [(vI 1),(vI 2)]),(own M N 3 1 ((cw ab 0 2 (aa.mk 2590 2599)).map iC)),(own W X 29 1 (List.zipWith kh (bG eX) S)),(bo (aU nt (bG eX) S)),(bZ k 32 (bq.cells (bq.mk (bK.mk (aZ.mk (aM.mk A ab.ah.aJ.length G)) ab.ah.dM (aM.mk B ab.ah.ai.length H) (aM.mk C ab.ah.ag.length Fd) ab.ah.bI ab.ah.cv ab.ah.bL) (aM.mk D ab.aI.length J) (aM.mk E ab.bD.length K) ab.ed (aM.mk F ((dL ab.aq 0 2 (aa.mk 2590 2599)).length) L)))),(own A G 122 9 (ab.ah.aJ.map ao.cells)),(own B H 127 2 (List.zipWith au.cells ab.ah.ai P)),(bo (aU au.owns ab.ah.ai P)),(own C Fd 129 4 (ab.ah.ag.map bE.cells)),(own D J 3 1 (ab.aI.map iC)),(own E K 3 1 (ab.bD.map iC)),(own F L 47 1 (List.zipWith cz (dL ab.aq 0 2 (aa.mk 2590 2599)) R)),(bo (aU gT (dL ab.aq 0 2 (aa.mk 2590 2599)) R)),(own T Fc 29 1 (List.zipWith kh (bG ab) O)),(bo (aU nt (bG ab) O)),(bZ f 38 (aa.cells (eJ ab 0 0))),(rd dF 3 2 dg).ro]) 39 [35,36,37,38,39,40,41,42,43,44,45,46,47,48,49,50,51,52,53,54,55,56,57,58,59,60,61,62,63,64,65,66,67,68,69,70,71,72,73] (fun hJ=>?_) ?_
 ·refine iR [32,33] kr (eN ?_<|eN ?_<|kT)
  ·refine NO U U [33,34,35,36,37,38,39,40,41,42,43,44,45,46,47,48,49,50,51,52,53,54,55,56,57,58,59,60,61,62,63,64,65,66,67,68,69,70,71,72,73] fun T254 DI=>cb (t:=69) U (aS fun BR=>?_) (aT fun BR=>?_)
   ·exact absurd (qo) BR
   refine rS (MV U)<|RD DI 2 U<|N1 33<|NO U U [34,35,36,37,38,39,40,41,42,43,44,45,46,47,48,49,50,51,52,53,54,55,56,57,58,59,60,61,62,63,64,65,66,67,68,69,70,71,72,73] fun T255 DJ=>cU (xs:=[.const (vI 0),.const (vI 1),.const (vI 2)]) (cs:=[(vI 0),(vI 1),(vI 2)]) U cy jd U U U U (by simp [Value.cells]) U U fun BV=>RD DJ 3 U<|N1 34<|NO U U [35,36,37,38,39,40,41,42,43,44,45,46,47,48,49,50,51,52,53,54,55,56,57,58,59,60,61,62,63,64,65,66,67,68,69,70,71,72,73] fun T257 DK=>cU (xs:=[.tmp 71]) (cs:=[(vS (some ⟨BV,0,none⟩) 3 3)]) U pH vv U U U U (by simp [Value.cells]) U U fun Ec=>RD DK 4 U ?_
   exact jO hJ (BV,Ec) trivial [0,1,2,3,4,5,6,7,8,9,10,11,12,13,14,15,16,17,18,19] U U U
  refine NO U U [32,34,35,36,37,38,39,40,41,42,43,44,45,46,47,48,49,50,51,52,53,54,55,56,57,58,59,60,61,62,63,64,65,66,67,68,69,70,71,72,73] fun T259 DL=>cb (t:=69) U (aS fun BR=>?_) (aT fun BR=>?_)
  ·exact absurd (qo) BR
  refine cU (xs:=[.const (vI 0),.const (vI 1),.const (vI 2)]) (cs:=[(vI 0),(vI 1),(vI 2)]) U cy jd U U U U (by simp [Value.cells]) U U fun BF=>RD DL 3 U<|iR [32,34] kr (eN ?_<|eN ?_<|kT)
  rotate_left 1
  ·refine NO U U [32,35,36,37,38,39,40,41,42,43,44,45,46,47,48,49,50,51,52,53,54,55,56,57,58,59,60,61,62,63,64,65,66,67,68,69,70,71,72,73] fun T264 DO=>cU (xs:=[.tmp 71]) (cs:=[(vS (some ⟨BF,0,none⟩) 3 3)]) U pH vv U U U U (by simp [Value.cells]) U U fun Ee=>RD DO 4 U<|N1 32<|NO U U [35,36,37,38,39,40,41,42,43,44,45,46,47,48,49,50,51,52,53,54,55,56,57,58,59,60,61,62,63,64,65,66,67,68,69,70,71,72,73] fun T266 DP=>rS (MV U)<|RD DP 4 U ?_
   exact jO hJ (BF,Ee) trivial [0,1,2,3,4,5,6,7,8,9,10,11,12,13,14,15,16,17,18,19] U U U
  refine NO U U [34,35,36,37,38,39,40,41,42,43,44,45,46,47,48,49,50,51,52,53,54,55,56,57,58,59,60,61,62,63,64,65,66,67,68,69,70,71,72,73] fun T261 DM=>rS (MV U)<|RD DM 3 U<|N1 34<|NO U U [35,36,37,38,39,40,41,42,43,44,45,46,47,48,49,50,51,52,53,54,55,56,57,58,59,60,61,62,63,64,65,66,67,68,69,70,71,72,73] fun T262 DN=>cU (xs:=[.tmp 71]) (cs:=[(vS (some ⟨BF,0,none⟩) 3 3)]) U pH vv U U U U (by simp [Value.cells]) U U fun Ed=>RD DN 4 U ?_
  exact jO hJ (BF,Ed) trivial [0,1,2,3,4,5,6,7,8,9,10,11,12,13,14,15,16,17,18,19] U U U
 rintro ⟨Z,j⟩-
 try dsimp only
 refine N1 35<|NO U U [36,37,38,39,40,41,42,43,44,45,46,47,48,49,50,51,52,53,54,55,56,57,58,59,60,61,62,63,64,65,66,67,68,69,70,71,72,73] fun T267 DQ=>?_
 refine dU (es:=(([0,1,2]:List Int).map iC)) (C':=[_,(own (some ⟨Z,0,none⟩) 3 3 1 (([0,1,2]:List Int).map iC)),_,_,_,_,_,_,_,_,_,_,_,_,_,_,_,_,_,_]) 1 U (lX bJ _) U (by show _≤maxLen; exact Nat.le_trans (m:=10) (show (3:Nat)≤10 by decide) dc) U ?_
 refine dU (es:=(List.zipWith kh [([0,1,2]:List Int)] [((some ⟨Z,0,none⟩),3)])) (C':=[(own (some ⟨j,0,none⟩) 1 29 1 (List.zipWith kh [([0,1,2]:List Int)] [((some ⟨Z,0,none⟩),3)])),_,_,_,_,_,_,_,_,_,_,_,_,_,_,_,_,_,_,_]) 0 U (oG I4) U (by show _≤maxLen; exact Nat.le_trans (m:=10) (show (1:Nat)≤10 by decide) dc) U ?_
 refine wP (C1:=[(own (some ⟨j,0,none⟩) 1 29 1 (List.zipWith kh [([0,1,2]:List Int)] [((some ⟨Z,0,none⟩),3)])),(bZ g 3 [(vI 2),(vI 3)]),(bZ d 3 [(vI 1),(vI 2)]),(own M N 3 1 ((cw ab 0 2 (aa.mk 2590 2599)).map iC)),(own W X 29 1 (List.zipWith kh (bG eX) S)),(bo (aU nt (bG eX) S)),(bZ k 32 (bq.cells (bq.mk (bK.mk (aZ.mk (aM.mk A ab.ah.aJ.length G)) ab.ah.dM (aM.mk B ab.ah.ai.length H) (aM.mk C ab.ah.ag.length Fd) ab.ah.bI ab.ah.cv ab.ah.bL) (aM.mk D ab.aI.length J) (aM.mk E ab.bD.length K) ab.ed (aM.mk F ((dL ab.aq 0 2 (aa.mk 2590 2599)).length) L)))),(own A G 122 9 (ab.ah.aJ.map ao.cells)),(own B H 127 2 (List.zipWith au.cells ab.ah.ai P)),(bo (aU au.owns ab.ah.ai P)),(own C Fd 129 4 (ab.ah.ag.map bE.cells)),(own D J 3 1 (ab.aI.map iC)),(own E K 3 1 (ab.bD.map iC)),(own F L 47 1 (List.zipWith cz (dL ab.aq 0 2 (aa.mk 2590 2599)) R)),(bo (aU gT (dL ab.aq 0 2 (aa.mk 2590 2599)) R)),(own T Fc 29 1 (List.zipWith kh (bG ab) O)),(bo (aU nt (bG ab) O)),(bZ f 38 (aa.cells (eJ ab 0 0))),(rd dF 3 2 dg)]) (aU nt [([0,1,2]:List Int)] [((some ⟨Z,0,none⟩),3)]) [1,0,2,3,4,5,6,7,8,9,10,11,12,13,14,15,16,17,18,19] U U<|rS (CL (vd (bG ab) ([([0,1,2]:List Int)]) O T Fc ([((some ⟨Z,0,none⟩),3)]) (some ⟨j,0,none⟩) 1 (by first|exact BU.1|exact BJ.1) dc (by first|exact BU.2|exact BJ.2) dc (by exact Be) (by rfl)) (ay (ak (n:=(bG ab).length) 16 U (k6 Be))<|ay (dW 17 U FG)<|ay (ak (n:=([([0,1,2]:List Int)]).length) 1 U sm)<|ay (dW 0 U FG)<|aL) U)<|RD DQ 4 U<|N1 36<|NO U U [37,38,39,40,41,42,43,44,45,46,47,48,49,50,51,52,53,54,55,56,57,58,59,60,61,62,63,64,65,66,67,68,69,70,71,72,73] fun T268 DR=>rS (PK U)<|RD DR 4 U<|N1 37<|NO U U [38,39,40,41,42,43,44,45,46,47,48,49,50,51,52,53,54,55,56,57,58,59,60,61,62,63,64,65,66,67,68,69,70,71,72,73] fun T269 DS=>rS (MV U)<|RD DS 4 U<|N1 38<|NO U U [39,40,41,42,43,44,45,46,47,48,49,50,51,52,53,54,55,56,57,58,59,60,61,62,63,64,65,66,67,68,69,70,71,72,73] fun T270 DT=>cb (t:=75) U (aS fun Ez=>?_) (aT fun Ez=>?_)
 ·exact absurd (MF) Ez
 refine rS (MV U)<|RD DT 4 U<|N1 39<|NO U U [40,41,42,43,44,45,46,47,48,49,50,51,52,53,54,55,56,57,58,59,60,61,62,63,64,65,66,67,68,69,70,71,72,73] fun T271 DU=>rS (SX (b_ (r:= .bool true) U U U mj) U U)<|RD DU 4 U<|N1 40<|NO U U [41,42,43,44,45,46,47,48,49,50,51,52,53,54,55,56,57,58,59,60,61,62,63,64,65,66,67,68,69,70,71,72,73] fun T272 DV=>rS (PK U)<|RD DV 4 U<|N1 41<|NO U U [42,43,44,45,46,47,48,49,50,51,52,53,54,55,56,57,58,59,60,61,62,63,64,65,66,67,68,69,70,71,72,73] fun T273 DW=>rS (MV U)<|RD DW 4 U<|N1 42<|NO U U [43,44,45,46,47,48,49,50,51,52,53,54,55,56,57,58,59,60,61,62,63,64,65,66,67,68,69,70,71,72,73] fun T274 DX=>rS (LW 7 U cq U U)<|RD DX 4 U<|N1 43<|NO U U [44,45,46,47,48,49,50,51,52,53,54,55,56,57,58,59,60,61,62,63,64,65,66,67,68,69,70,71,72,73] fun T275 DY=>?_
 refine rS (CL (yQ 2 516 516 eX A G P B H C Fd D J E K R F L (by exact Bg)) (fH 19 U U<|ay (ak (n:=ab.ah.aJ.length) 8 U (by rw [List.length_map]; rfl))<|ay (ak (n:=ab.ah.ai.length) 9 U (g0 BT))<|ay (dW 10 U iS)<|ay (ak (n:=ab.ah.ag.length) 11 U (by rw [List.length_map]; rfl))<|ay (ak (n:=ab.aI.length) 12 U (by rw [List.length_map]; rfl))<|ay (ak (n:=ab.bD.length) 13 U (by rw [List.length_map]; rfl))<|ay (ak (n:=(dL ab.aq 0 2 (aa.mk 2590 2599)).length) 14 U (fw BO.1))<|ay (hE 15 U BO)<|aL) U) ?_
 refine RD DY 4 U<|N1 44<|NO U U [45,46,47,48,49,50,51,52,53,54,55,56,57,58,59,60,61,62,63,64,65,66,67,68,69,70,71,72,73] fun T276 DZ=>rS (PK U)<|RD DZ 4 U<|N1 45<|NO U U [46,47,48,49,50,51,52,53,54,55,56,57,58,59,60,61,62,63,64,65,66,67,68,69,70,71,72,73] fun T277 Da=>rS (MV U)<|RD Da 4 U<|N1 46<|NO U U [47,48,49,50,51,52,53,54,55,56,57,58,59,60,61,62,63,64,65,66,67,68,69,70,71,72,73] fun T278 Db=>cb (t:=83) U (aS fun E0=>?_) (aT fun E0=>?_)
 ·exact absurd (Kj) E0
 refine rS (MV U)<|RD Db 4 U<|N1 47<|NO U U [48,49,50,51,52,53,54,55,56,57,58,59,60,61,62,63,64,65,66,67,68,69,70,71,72,73] fun T279 Dc=>rS (BI U mj)<|RD Dc 4 U<|N1 48<|NO U U [49,50,51,52,53,54,55,56,57,58,59,60,61,62,63,64,65,66,67,68,69,70,71,72,73] fun T280 Dd=>rS (PK U)<|RD Dd 4 U<|N1 49<|NO U U [50,51,52,53,54,55,56,57,58,59,60,61,62,63,64,65,66,67,68,69,70,71,72,73] fun T281 De=>rS (MV U)<|RD De 4 U ?_
 refine wI (V:=Nat×Nat×Nat) (fun (b,c,s)=>True) (fun (b,c,s)=>[(1,(vP f)),(2,(vI (gN ab 0 0))),(3,(vS T ((bG ab).length) Fc)),(4,(vI (bX ab))),(5,(vP k)),(6,(vI 0)),(7,(vS W ((bG eX).length) X)),(8,(vI (bX eX))),(9,(vS M ((cw ab 0 2 (aa.mk 2590 2599)).length) N)),(10,(vI (dQ ab 0 2 (aa.mk 2590 2599)))),(11,(vT [(vA (aa.cells (eJ ab 0 0))),(vI (gN ab 0 0))])),(12,(vA (bq.cells (bq.mk (bK.mk (aZ.mk (aM.mk BK ab.ah.aJ.length BM)) ab.ah.dM (aM.mk BL ab.ah.ai.length BN) (aM.mk Aa ab.ah.ag.length Az) ab.ah.bI ab.ah.cv ab.ah.bL) (aM.mk Ae ab.aI.length A3) (aM.mk Ai ab.bD.length A7) ab.ed (aM.mk Am ab.aq.length BA))))),(13,(vT [(vA (aa.cells (eJ ab 0 0))),(vI (gN ab 0 0))])),(14,(vA (aa.cells (eJ ab 0 0)))),(15,(vI (gN ab 0 0))),(16,(vT [(vS T ((bG ab).length) Fc),(vI (bX ab))])),(17,(vA (bq.cells (bq.mk (bK.mk (aZ.mk (aM.mk AT ab.ah.aJ.length At)) ab.ah.dM (aM.mk AW ab.ah.ai.length Aw) (aM.mk Ab ab.ah.ag.length A0) ab.ah.bI ab.ah.cv ab.ah.bL) (aM.mk Af ab.aI.length A4) (aM.mk Aj ab.bD.length A8) ab.ed (aM.mk An ab.aq.length BB))))),(18,(vT [(vS T ((bG ab).length) Fc),(vI (bX ab))])),(19,(vS T ((bG ab).length) Fc)),(20,(vI (bX ab))),(21,(vT [(vA (bq.cells (bq.mk (bK.mk (aZ.mk (aM.mk A ab.ah.aJ.length G)) ab.ah.dM (aM.mk B ab.ah.ai.length H) (aM.mk C ab.ah.ag.length Fd) ab.ah.bI ab.ah.cv ab.ah.bL) (aM.mk D ab.aI.length J) (aM.mk E ab.bD.length K) ab.ed (aM.mk F ((dL ab.aq 0 2 (aa.mk 2590 2599)).length) L)))),(vI 0)])),(22,(vA (bq.cells (bq.mk (bK.mk (aZ.mk (aM.mk AU ab.ah.aJ.length Au)) ab.ah.dM (aM.mk AX ab.ah.ai.length Ax) (aM.mk Ac ab.ah.ag.length A1) ab.ah.bI ab.ah.cv ab.ah.bL) (aM.mk Ag ab.aI.length A5) (aM.mk Ak ab.bD.length A9) ab.ed (aM.mk Ao ab.aq.length BC))))),(23,(vA (aa.cells (aa.mk 2590 2599)))),(24,(vT [(vA (bq.cells (bq.mk (bK.mk (aZ.mk (aM.mk A ab.ah.aJ.length G)) ab.ah.dM (aM.mk B ab.ah.ai.length H) (aM.mk C ab.ah.ag.length Fd) ab.ah.bI ab.ah.cv ab.ah.bL) (aM.mk D ab.aI.length J) (aM.mk E ab.bD.length K) ab.ed (aM.mk F ((dL ab.aq 0 2 (aa.mk 2590 2599)).length) L)))),(vI 0)])),(25,(vA (bq.cells (bq.mk (bK.mk (aZ.mk (aM.mk A ab.ah.aJ.length G)) ab.ah.dM (aM.mk B ab.ah.ai.length H) (aM.mk C ab.ah.ag.length Fd) ab.ah.bI ab.ah.cv ab.ah.bL) (aM.mk D ab.aI.length J) (aM.mk E ab.bD.length K) ab.ed (aM.mk F ((dL ab.aq 0 2 (aa.mk 2590 2599)).length) L))))),(26,(vI 0)),(27,(vT [(vS W ((bG eX).length) X),(vI (bX eX))])),(28,(vA (bq.cells (bq.mk (bK.mk (aZ.mk (aM.mk A ab.ah.aJ.length G)) ab.ah.dM (aM.mk B ab.ah.ai.length H) (aM.mk C ab.ah.ag.length Fd) ab.ah.bI ab.ah.cv ab.ah.bL) (aM.mk D ab.aI.length J) (aM.mk E ab.bD.length K) ab.ed (aM.mk F ((dL ab.aq 0 2 (aa.mk 2590 2599)).length) L))))),(29,(vT [(vS W ((bG eX).length) X),(vI (bX eX))])),(30,(vS W ((bG eX).length) X)),(31,(vI (bX eX))),(32,(vT [(vS M ((cw ab 0 2 (aa.mk 2590 2599)).length) N),(vI (dQ ab 0 2 (aa.mk 2590 2599)))])),(33,(vA (bq.cells (bq.mk (bK.mk (aZ.mk (aM.mk AV ab.ah.aJ.length Av)) ab.ah.dM (aM.mk AZ ab.ah.ai.length Ay) (aM.mk Ad ab.ah.ag.length A2) ab.ah.bI ab.ah.cv ab.ah.bL) (aM.mk Ah ab.aI.length A6) (aM.mk Al ab.bD.length A_) ab.ed (aM.mk Ap ab.aq.length BD))))),(34,(vA (aa.cells (aa.mk 2590 2599)))),(35,(vT [(vS M ((cw ab 0 2 (aa.mk 2590 2599)).length) N),(vI (dQ ab 0 2 (aa.mk 2590 2599)))])),(36,(vS M ((cw ab 0 2 (aa.mk 2590 2599)).length) N)),(37,(vI (dQ ab 0 2 (aa.mk 2590 2599)))),(71,(vS (some ⟨Z,0,none⟩) 3 3)),(87,(vB true)),(88,(vS W ((bG eX).length) X)),(89,(vS (some ⟨b,0,none⟩) 2 2)),(90,(vS (some ⟨c,0,none⟩) 1 1)),(91,(vS (some ⟨s,0,none⟩) 2 2))]) (fun (b,c,s)=>[(bZ s 29 [(vS (some ⟨b,0,none⟩) 2 2),(vS (some ⟨c,0,none⟩) 1 1)]),(bZ c 3 [(vI 2)]),(bZ b 3 [(vI 0),(vI 1)]),(bo (aU nt [([0,1,2]:List Int)] [((some ⟨Z,0,none⟩),3)])),(own (some ⟨j,0,none⟩) 1 29 1 (List.zipWith kh [([0,1,2]:List Int)] [((some ⟨Z,0,none⟩),3)])),(bZ g 3 [(vI 2),(vI 3)]),(bZ d 3 [(vI 1),(vI 2)]),(own M N 3 1 ((cw ab 0 2 (aa.mk 2590 2599)).map iC)),(own W X 29 1 (List.zipWith kh (bG eX) S)),(bo (aU nt (bG eX) S)),(bZ k 32 (bq.cells (bq.mk (bK.mk (aZ.mk (aM.mk A ab.ah.aJ.length G)) ab.ah.dM (aM.mk B ab.ah.ai.length H) (aM.mk C ab.ah.ag.length Fd) ab.ah.bI ab.ah.cv ab.ah.bL) (aM.mk D ab.aI.length J) (aM.mk E ab.bD.length K) ab.ed (aM.mk F ((dL ab.aq 0 2 (aa.mk 2590 2599)).length) L)))),(own A G 122 9 (ab.ah.aJ.map ao.cells)),(own B H 127 2 (List.zipWith au.cells ab.ah.ai P)),(bo (aU au.owns ab.ah.ai P)),(own C Fd 129 4 (ab.ah.ag.map bE.cells)),(own D J 3 1 (ab.aI.map iC)),(own E K 3 1 (ab.bD.map iC)),(own F L 47 1 (List.zipWith cz (dL ab.aq 0 2 (aa.mk 2590 2599)) R)),(bo (aU gT (dL ab.aq 0 2 (aa.mk 2590 2599)) R)),(own T Fc 29 1 (List.zipWith kh (bG ab) O)),(bo (aU nt (bG ab) O)),(bZ f 38 (aa.cells (eJ ab 0 0))),(rd dF 3 2 dg).ro]) 20 [54,55,56,57,58,59,60,61,62,63,64,65,66,67,68,69,70,71,72,73] (fun hJ=>?_) ?_
 ·refine iR [50,51,52] kr (eN ?_<|eN ?_<|eN ?_<|kT)
  ·refine NO U U [51,52,53,54,55,56,57,58,59,60,61,62,63,64,65,66,67,68,69,70,71,72,73] fun T285 Df=>cb (t:=87) U (aS fun BE=>?_) (aT fun BE=>?_)
   ·exact absurd (x3) BE
   refine rS (MV U)<|RD Df 4 U<|iR [51,52] kr (eN ?_<|eN ?_<|kT)
   rotate_left 1
   ·refine NO U U [51,53,54,55,56,57,58,59,60,61,62,63,64,65,66,67,68,69,70,71,72,73] fun T292 Dj=>cU (xs:=[.const (vI 2)]) (cs:=[(vI 2)]) U cy jd U U U U (by simp [Value.cells]) U U fun BY=>RD Dj 5 U<|N1 51<|NO U U [53,54,55,56,57,58,59,60,61,62,63,64,65,66,67,68,69,70,71,72,73] fun T294 Dk=>cU (xs:=[.const (vI 0),.const (vI 1)]) (cs:=[(vI 0),(vI 1)]) U cy jd U U U U (by simp [Value.cells]) U U fun BZ=>RD Dk 6 U<|N1 53<|NO U U [54,55,56,57,58,59,60,61,62,63,64,65,66,67,68,69,70,71,72,73] fun T296 Dl=>cU (xs:=[.tmp 89,.tmp 90]) (cs:=[(vS (some ⟨BZ,0,none⟩) 2 2),(vS (some ⟨BY,0,none⟩) 1 1)]) U pH vv U U U U (by simp [Value.cells]) U U fun Eg=>RD Dl 7 U ?_
    exact jO hJ (BZ,BY,Eg) trivial [0,2,1,3,4,5,6,7,8,9,10,11,12,13,14,15,16,17,18,19,20,21,22] U U U
   refine NO U U [52,53,54,55,56,57,58,59,60,61,62,63,64,65,66,67,68,69,70,71,72,73] fun T286 Dg=>cU (xs:=[.const (vI 0),.const (vI 1)]) (cs:=[(vI 0),(vI 1)]) U cy jd U U U U (by simp [Value.cells]) U U fun BW=>RD Dg 5 U<|N1 52<|NO U U [53,54,55,56,57,58,59,60,61,62,63,64,65,66,67,68,69,70,71,72,73] fun T288 Dh=>cU (xs:=[.const (vI 2)]) (cs:=[(vI 2)]) U cy jd U U U U (by simp [Value.cells]) U U fun BX=>RD Dh 6 U<|N1 53<|NO U U [54,55,56,57,58,59,60,61,62,63,64,65,66,67,68,69,70,71,72,73] fun T290 Di=>cU (xs:=[.tmp 89,.tmp 90]) (cs:=[(vS (some ⟨BW,0,none⟩) 2 2),(vS (some ⟨BX,0,none⟩) 1 1)]) U pH vv U U U U (by simp [Value.cells]) U U fun Ef=>RD Di 7 U ?_
   exact jO hJ (BW,BX,Ef) trivial [0,1,2,3,4,5,6,7,8,9,10,11,12,13,14,15,16,17,18,19,20,21,22] U U U
  ·refine NO U U [50,52,53,54,55,56,57,58,59,60,61,62,63,64,65,66,67,68,69,70,71,72,73] fun T298 Dm=>cb (t:=87) U (aS fun BE=>?_) (aT fun BE=>?_)
   ·exact absurd (x3) BE
   refine cU (xs:=[.const (vI 0),.const (vI 1)]) (cs:=[(vI 0),(vI 1)]) U cy jd U U U U (by simp [Value.cells]) U U fun Aq=>RD Dm 5 U<|iR [50,52] kr (eN ?_<|eN ?_<|kT)
   ·refine NO U U [52,53,54,55,56,57,58,59,60,61,62,63,64,65,66,67,68,69,70,71,72,73] fun T300 Dn=>rS (MV U)<|RD Dn 5 U<|N1 52<|NO U U [53,54,55,56,57,58,59,60,61,62,63,64,65,66,67,68,69,70,71,72,73] fun T301 Do=>cU (xs:=[.const (vI 2)]) (cs:=[(vI 2)]) U cy jd U U U U (by simp [Value.cells]) U U fun Ba=>RD Do 6 U<|N1 53<|NO U U [54,55,56,57,58,59,60,61,62,63,64,65,66,67,68,69,70,71,72,73] fun T303 Dp=>cU (xs:=[.tmp 89,.tmp 90]) (cs:=[(vS (some ⟨Aq,0,none⟩) 2 2),(vS (some ⟨Ba,0,none⟩) 1 1)]) U pH vv U U U U (by simp [Value.cells]) U U fun Eh=>RD Dp 7 U ?_
    exact jO hJ (Aq,Ba,Eh) trivial [0,1,2,3,4,5,6,7,8,9,10,11,12,13,14,15,16,17,18,19,20,21,22] U U U
   refine NO U U [50,53,54,55,56,57,58,59,60,61,62,63,64,65,66,67,68,69,70,71,72,73] fun T305 Dq=>cU (xs:=[.const (vI 2)]) (cs:=[(vI 2)]) U cy jd U U U U (by simp [Value.cells]) U U fun BG=>RD Dq 6 U<|iR [50,53] kr (eN ?_<|eN ?_<|kT)
   rotate_left 1
   ·refine NO U U [50,54,55,56,57,58,59,60,61,62,63,64,65,66,67,68,69,70,71,72,73] fun T310 Dt=>cU (xs:=[.tmp 89,.tmp 90]) (cs:=[(vS (some ⟨Aq,0,none⟩) 2 2),(vS (some ⟨BG,0,none⟩) 1 1)]) U pH vv U U U U (by simp [Value.cells]) U U fun Ej=>RD Dt 7 U<|N1 50<|NO U U [54,55,56,57,58,59,60,61,62,63,64,65,66,67,68,69,70,71,72,73] fun T312 Du=>rS (MV U)<|RD Du 7 U ?_
    exact jO hJ (Aq,BG,Ej) trivial [0,1,2,3,4,5,6,7,8,9,10,11,12,13,14,15,16,17,18,19,20,21,22] U U U
   refine NO U U [53,54,55,56,57,58,59,60,61,62,63,64,65,66,67,68,69,70,71,72,73] fun T307 Dr=>rS (MV U)<|RD Dr 6 U<|N1 53<|NO U U [54,55,56,57,58,59,60,61,62,63,64,65,66,67,68,69,70,71,72,73] fun T308 Ds=>cU (xs:=[.tmp 89,.tmp 90]) (cs:=[(vS (some ⟨Aq,0,none⟩) 2 2),(vS (some ⟨BG,0,none⟩) 1 1)]) U pH vv U U U U (by simp [Value.cells]) U U fun Ei=>RD Ds 7 U ?_
   exact jO hJ (Aq,BG,Ei) trivial [0,1,2,3,4,5,6,7,8,9,10,11,12,13,14,15,16,17,18,19,20,21,22] U U U
  refine NO U U [50,51,53,54,55,56,57,58,59,60,61,62,63,64,65,66,67,68,69,70,71,72,73] fun T313 Dv=>cb (t:=87) U (aS fun BE=>?_) (aT fun BE=>?_)
  ·exact absurd (x3) BE
  refine cU (xs:=[.const (vI 2)]) (cs:=[(vI 2)]) U cy jd U U U U (by simp [Value.cells]) U U fun Ar=>RD Dv 5 U<|iR [50,51] kr (eN ?_<|eN ?_<|kT)
  ·refine NO U U [51,53,54,55,56,57,58,59,60,61,62,63,64,65,66,67,68,69,70,71,72,73] fun T315 Dw=>rS (MV U)<|RD Dw 5 U<|N1 51<|NO U U [53,54,55,56,57,58,59,60,61,62,63,64,65,66,67,68,69,70,71,72,73] fun T316 Dx=>cU (xs:=[.const (vI 0),.const (vI 1)]) (cs:=[(vI 0),(vI 1)]) U cy jd U U U U (by simp [Value.cells]) U U fun Bb=>RD Dx 6 U<|N1 53<|NO U U [54,55,56,57,58,59,60,61,62,63,64,65,66,67,68,69,70,71,72,73] fun T318 Dy=>cU (xs:=[.tmp 89,.tmp 90]) (cs:=[(vS (some ⟨Bb,0,none⟩) 2 2),(vS (some ⟨Ar,0,none⟩) 1 1)]) U pH vv U U U U (by simp [Value.cells]) U U fun Ek=>RD Dy 7 U ?_
   exact jO hJ (Bb,Ar,Ek) trivial [0,2,1,3,4,5,6,7,8,9,10,11,12,13,14,15,16,17,18,19,20,21,22] U U U
  refine NO U U [50,53,54,55,56,57,58,59,60,61,62,63,64,65,66,67,68,69,70,71,72,73] fun T320 Dz=>cU (xs:=[.const (vI 0),.const (vI 1)]) (cs:=[(vI 0),(vI 1)]) U cy jd U U U U (by simp [Value.cells]) U U fun BH=>RD Dz 6 U<|iR [50,53] kr (eN ?_<|eN ?_<|kT)
  rotate_left 1
  ·refine NO U U [50,54,55,56,57,58,59,60,61,62,63,64,65,66,67,68,69,70,71,72,73] fun T325 D2=>cU (xs:=[.tmp 89,.tmp 90]) (cs:=[(vS (some ⟨BH,0,none⟩) 2 2),(vS (some ⟨Ar,0,none⟩) 1 1)]) U pH vv U U U U (by simp [Value.cells]) U U fun Em=>RD D2 7 U<|N1 50<|NO U U [54,55,56,57,58,59,60,61,62,63,64,65,66,67,68,69,70,71,72,73] fun T327 D3=>rS (MV U)<|RD D3 7 U ?_
   exact jO hJ (BH,Ar,Em) trivial [0,2,1,3,4,5,6,7,8,9,10,11,12,13,14,15,16,17,18,19,20,21,22] U U U
  refine NO U U [53,54,55,56,57,58,59,60,61,62,63,64,65,66,67,68,69,70,71,72,73] fun T322 D0=>rS (MV U)<|RD D0 6 U<|N1 53<|NO U U [54,55,56,57,58,59,60,61,62,63,64,65,66,67,68,69,70,71,72,73] fun T323 D1=>cU (xs:=[.tmp 89,.tmp 90]) (cs:=[(vS (some ⟨BH,0,none⟩) 2 2),(vS (some ⟨Ar,0,none⟩) 1 1)]) U pH vv U U U U (by simp [Value.cells]) U U fun El=>RD D1 7 U ?_
  exact jO hJ (BH,Ar,El) trivial [0,2,1,3,4,5,6,7,8,9,10,11,12,13,14,15,16,17,18,19,20,21,22] U U U
 rintro ⟨b,c,s⟩-
 try dsimp only
 refine N1 54<|NO U U [55,56,57,58,59,60,61,62,63,64,65,66,67,68,69,70,71,72,73] fun T328 D4=>?_
 refine dU (es:=(([0,1]:List Int).map iC)) (C':=[_,_,(own (some ⟨b,0,none⟩) 2 3 1 (([0,1]:List Int).map iC)),_,_,_,_,_,_,_,_,_,_,_,_,_,_,_,_,_,_,_,_]) 2 U (lX bJ _) U (by show _≤maxLen; exact Nat.le_trans (m:=10) (show (2:Nat)≤10 by decide) dc) U ?_
 refine dU (es:=(([2]:List Int).map iC)) (C':=[_,(own (some ⟨c,0,none⟩) 1 3 1 (([2]:List Int).map iC)),_,_,_,_,_,_,_,_,_,_,_,_,_,_,_,_,_,_,_,_,_]) 1 U (lX bJ _) U (by show _≤maxLen; exact Nat.le_trans (m:=10) (show (1:Nat)≤10 by decide) dc) U ?_
 refine dU (es:=(List.zipWith kh [([0,1]:List Int),([2]:List Int)] [((some ⟨b,0,none⟩),2),((some ⟨c,0,none⟩),1)])) (C':=[(own (some ⟨s,0,none⟩) 2 29 1 (List.zipWith kh [([0,1]:List Int),([2]:List Int)] [((some ⟨b,0,none⟩),2),((some ⟨c,0,none⟩),1)])),_,_,_,_,_,_,_,_,_,_,_,_,_,_,_,_,_,_,_,_,_,_]) 0 U (oG I4) U (by show _≤maxLen; exact Nat.le_trans (m:=10) (show (2:Nat)≤10 by decide) dc) U ?_
 refine wP (C1:=[(own (some ⟨s,0,none⟩) 2 29 1 (List.zipWith kh [([0,1]:List Int),([2]:List Int)] [((some ⟨b,0,none⟩),2),((some ⟨c,0,none⟩),1)])),(bo (aU nt [([0,1,2]:List Int)] [((some ⟨Z,0,none⟩),3)])),(own (some ⟨j,0,none⟩) 1 29 1 (List.zipWith kh [([0,1,2]:List Int)] [((some ⟨Z,0,none⟩),3)])),(bZ g 3 [(vI 2),(vI 3)]),(bZ d 3 [(vI 1),(vI 2)]),(own M N 3 1 ((cw ab 0 2 (aa.mk 2590 2599)).map iC)),(own W X 29 1 (List.zipWith kh (bG eX) S)),(bo (aU nt (bG eX) S)),(bZ k 32 (bq.cells (bq.mk (bK.mk (aZ.mk (aM.mk A ab.ah.aJ.length G)) ab.ah.dM (aM.mk B ab.ah.ai.length H) (aM.mk C ab.ah.ag.length Fd) ab.ah.bI ab.ah.cv ab.ah.bL) (aM.mk D ab.aI.length J) (aM.mk E ab.bD.length K) ab.ed (aM.mk F ((dL ab.aq 0 2 (aa.mk 2590 2599)).length) L)))),(own A G 122 9 (ab.ah.aJ.map ao.cells)),(own B H 127 2 (List.zipWith au.cells ab.ah.ai P)),(bo (aU au.owns ab.ah.ai P)),(own C Fd 129 4 (ab.ah.ag.map bE.cells)),(own D J 3 1 (ab.aI.map iC)),(own E K 3 1 (ab.bD.map iC)),(own F L 47 1 (List.zipWith cz (dL ab.aq 0 2 (aa.mk 2590 2599)) R)),(bo (aU gT (dL ab.aq 0 2 (aa.mk 2590 2599)) R)),(own T Fc 29 1 (List.zipWith kh (bG ab) O)),(bo (aU nt (bG ab) O)),(bZ f 38 (aa.cells (eJ ab 0 0))),(rd dF 3 2 dg)]) (aU nt [([0,1]:List Int),([2]:List Int)] [((some ⟨b,0,none⟩),2),((some ⟨c,0,none⟩),1)]) [2,1,0,3,4,5,6,7,8,9,10,11,12,13,14,15,16,17,18,19,20,21,22] U U<|rS (CL (vd (bG eX) ([([0,1]:List Int),([2]:List Int)]) S W X ([((some ⟨b,0,none⟩),2),((some ⟨c,0,none⟩),1)]) (some ⟨s,0,none⟩) 2 (by first|exact BU.1|exact BJ.1) dc (by first|exact BU.2|exact BJ.2) dc (by exact Bf) (by rfl)) (ay (ak (n:=(bG eX).length) 7 U (k6 Bf))<|ay (dW 8 U FG)<|ay (ak (n:=([([0,1]:List Int),([2]:List Int)]).length) 1 U sm)<|ay (dW 0 U FG)<|aL) U)<|RD D4 6 U<|N1 55<|NO U U [56,57,58,59,60,61,62,63,64,65,66,67,68,69,70,71,72,73] fun T329 D5=>rS (PK U)<|RD D5 6 U<|N1 56<|NO U U [57,58,59,60,61,62,63,64,65,66,67,68,69,70,71,72,73] fun T330 D6=>rS (MV U)<|RD D6 6 U<|N1 57<|NO U U [58,59,60,61,62,63,64,65,66,67,68,69,70,71,72,73] fun T331 D7=>cb (t:=94) U (aS fun E1=>?_) (aT fun E1=>?_)
 ·exact absurd (KH) E1
 refine rS (MV U)<|RD D7 6 U<|N1 58<|NO U U [59,60,61,62,63,64,65,66,67,68,69,70,71,72,73] fun T332 D8=>rS (BI U mj)<|RD D8 6 U<|N1 59<|NO U U [60,61,62,63,64,65,66,67,68,69,70,71,72,73] fun T333 D9=>rS (PK U)<|RD D9 6 U<|N1 60<|NO U U [61,62,63,64,65,66,67,68,69,70,71,72,73] fun T334 D_=>rS (MV U)<|RD D_ 6 U ?_
 refine wI (V:=Nat) (fun As=>True) (fun As=>[(1,(vP f)),(2,(vI (gN ab 0 0))),(3,(vS T ((bG ab).length) Fc)),(4,(vI (bX ab))),(5,(vP k)),(6,(vI 0)),(7,(vS W ((bG eX).length) X)),(8,(vI (bX eX))),(9,(vS M ((cw ab 0 2 (aa.mk 2590 2599)).length) N)),(10,(vI (dQ ab 0 2 (aa.mk 2590 2599)))),(11,(vT [(vA (aa.cells (eJ ab 0 0))),(vI (gN ab 0 0))])),(12,(vA (bq.cells (bq.mk (bK.mk (aZ.mk (aM.mk BK ab.ah.aJ.length BM)) ab.ah.dM (aM.mk BL ab.ah.ai.length BN) (aM.mk Aa ab.ah.ag.length Az) ab.ah.bI ab.ah.cv ab.ah.bL) (aM.mk Ae ab.aI.length A3) (aM.mk Ai ab.bD.length A7) ab.ed (aM.mk Am ab.aq.length BA))))),(13,(vT [(vA (aa.cells (eJ ab 0 0))),(vI (gN ab 0 0))])),(14,(vA (aa.cells (eJ ab 0 0)))),(15,(vI (gN ab 0 0))),(16,(vT [(vS T ((bG ab).length) Fc),(vI (bX ab))])),(17,(vA (bq.cells (bq.mk (bK.mk (aZ.mk (aM.mk AT ab.ah.aJ.length At)) ab.ah.dM (aM.mk AW ab.ah.ai.length Aw) (aM.mk Ab ab.ah.ag.length A0) ab.ah.bI ab.ah.cv ab.ah.bL) (aM.mk Af ab.aI.length A4) (aM.mk Aj ab.bD.length A8) ab.ed (aM.mk An ab.aq.length BB))))),(18,(vT [(vS T ((bG ab).length) Fc),(vI (bX ab))])),(19,(vS T ((bG ab).length) Fc)),(20,(vI (bX ab))),(21,(vT [(vA (bq.cells (bq.mk (bK.mk (aZ.mk (aM.mk A ab.ah.aJ.length G)) ab.ah.dM (aM.mk B ab.ah.ai.length H) (aM.mk C ab.ah.ag.length Fd) ab.ah.bI ab.ah.cv ab.ah.bL) (aM.mk D ab.aI.length J) (aM.mk E ab.bD.length K) ab.ed (aM.mk F ((dL ab.aq 0 2 (aa.mk 2590 2599)).length) L)))),(vI 0)])),(22,(vA (bq.cells (bq.mk (bK.mk (aZ.mk (aM.mk AU ab.ah.aJ.length Au)) ab.ah.dM (aM.mk AX ab.ah.ai.length Ax) (aM.mk Ac ab.ah.ag.length A1) ab.ah.bI ab.ah.cv ab.ah.bL) (aM.mk Ag ab.aI.length A5) (aM.mk Ak ab.bD.length A9) ab.ed (aM.mk Ao ab.aq.length BC))))),(23,(vA (aa.cells (aa.mk 2590 2599)))),(24,(vT [(vA (bq.cells (bq.mk (bK.mk (aZ.mk (aM.mk A ab.ah.aJ.length G)) ab.ah.dM (aM.mk B ab.ah.ai.length H) (aM.mk C ab.ah.ag.length Fd) ab.ah.bI ab.ah.cv ab.ah.bL) (aM.mk D ab.aI.length J) (aM.mk E ab.bD.length K) ab.ed (aM.mk F ((dL ab.aq 0 2 (aa.mk 2590 2599)).length) L)))),(vI 0)])),(25,(vA (bq.cells (bq.mk (bK.mk (aZ.mk (aM.mk A ab.ah.aJ.length G)) ab.ah.dM (aM.mk B ab.ah.ai.length H) (aM.mk C ab.ah.ag.length Fd) ab.ah.bI ab.ah.cv ab.ah.bL) (aM.mk D ab.aI.length J) (aM.mk E ab.bD.length K) ab.ed (aM.mk F ((dL ab.aq 0 2 (aa.mk 2590 2599)).length) L))))),(26,(vI 0)),(27,(vT [(vS W ((bG eX).length) X),(vI (bX eX))])),(28,(vA (bq.cells (bq.mk (bK.mk (aZ.mk (aM.mk A ab.ah.aJ.length G)) ab.ah.dM (aM.mk B ab.ah.ai.length H) (aM.mk C ab.ah.ag.length Fd) ab.ah.bI ab.ah.cv ab.ah.bL) (aM.mk D ab.aI.length J) (aM.mk E ab.bD.length K) ab.ed (aM.mk F ((dL ab.aq 0 2 (aa.mk 2590 2599)).length) L))))),(29,(vT [(vS W ((bG eX).length) X),(vI (bX eX))])),(30,(vS W ((bG eX).length) X)),(31,(vI (bX eX))),(32,(vT [(vS M ((cw ab 0 2 (aa.mk 2590 2599)).length) N),(vI (dQ ab 0 2 (aa.mk 2590 2599)))])),(33,(vA (bq.cells (bq.mk (bK.mk (aZ.mk (aM.mk AV ab.ah.aJ.length Av)) ab.ah.dM (aM.mk AZ ab.ah.ai.length Ay) (aM.mk Ad ab.ah.ag.length A2) ab.ah.bI ab.ah.cv ab.ah.bL) (aM.mk Ah ab.aI.length A6) (aM.mk Al ab.bD.length A_) ab.ed (aM.mk Ap ab.aq.length BD))))),(34,(vA (aa.cells (aa.mk 2590 2599)))),(35,(vT [(vS M ((cw ab 0 2 (aa.mk 2590 2599)).length) N),(vI (dQ ab 0 2 (aa.mk 2590 2599)))])),(36,(vS M ((cw ab 0 2 (aa.mk 2590 2599)).length) N)),(37,(vI (dQ ab 0 2 (aa.mk 2590 2599)))),(71,(vS (some ⟨Z,0,none⟩) 3 3)),(89,(vS (some ⟨b,0,none⟩) 2 2)),(90,(vS (some ⟨c,0,none⟩) 1 1)),(98,(vB true)),(99,(vS M ((cw ab 0 2 (aa.mk 2590 2599)).length) N)),(100,(vS (some ⟨As,0,none⟩) 1 1))]) (fun As=>[(bZ As 3 [(vI 2)]),(bo (aU nt [([0,1]:List Int),([2]:List Int)] [((some ⟨b,0,none⟩),2),((some ⟨c,0,none⟩),1)])),(own (some ⟨s,0,none⟩) 2 29 1 (List.zipWith kh [([0,1]:List Int),([2]:List Int)] [((some ⟨b,0,none⟩),2),((some ⟨c,0,none⟩),1)])),(bo (aU nt [([0,1,2]:List Int)] [((some ⟨Z,0,none⟩),3)])),(own (some ⟨j,0,none⟩) 1 29 1 (List.zipWith kh [([0,1,2]:List Int)] [((some ⟨Z,0,none⟩),3)])),(bZ g 3 [(vI 2),(vI 3)]),(bZ d 3 [(vI 1),(vI 2)]),(own M N 3 1 ((cw ab 0 2 (aa.mk 2590 2599)).map iC)),(own W X 29 1 (List.zipWith kh (bG eX) S)),(bo (aU nt (bG eX) S)),(bZ k 32 (bq.cells (bq.mk (bK.mk (aZ.mk (aM.mk A ab.ah.aJ.length G)) ab.ah.dM (aM.mk B ab.ah.ai.length H) (aM.mk C ab.ah.ag.length Fd) ab.ah.bI ab.ah.cv ab.ah.bL) (aM.mk D ab.aI.length J) (aM.mk E ab.bD.length K) ab.ed (aM.mk F ((dL ab.aq 0 2 (aa.mk 2590 2599)).length) L)))),(own A G 122 9 (ab.ah.aJ.map ao.cells)),(own B H 127 2 (List.zipWith au.cells ab.ah.ai P)),(bo (aU au.owns ab.ah.ai P)),(own C Fd 129 4 (ab.ah.ag.map bE.cells)),(own D J 3 1 (ab.aI.map iC)),(own E K 3 1 (ab.bD.map iC)),(own F L 47 1 (List.zipWith cz (dL ab.aq 0 2 (aa.mk 2590 2599)) R)),(bo (aU gT (dL ab.aq 0 2 (aa.mk 2590 2599)) R)),(own T Fc 29 1 (List.zipWith kh (bG ab) O)),(bo (aU nt (bG ab) O)),(bZ f 38 (aa.cells (eJ ab 0 0))),(rd dF 3 2 dg).ro]) 11 [63,64,65,66,67,68,69,70,71,72,73] (fun hJ=>?_) ?_
 ·refine iR [61,62] kr (eN ?_<|eN ?_<|kT)
  rotate_left 1
  ·refine NO U U [61,63,64,65,66,67,68,69,70,71,72,73] fun T339 EC=>cb (t:=98) U (aS fun BS=>?_) (aT fun BS=>?_)
   ·exact absurd (AY) BS
   refine cU (xs:=[.const (vI 2)]) (cs:=[(vI 2)]) U cy jd U U U U (by simp [Value.cells]) U U fun Eo=>RD EC 7 U<|N1 61<|NO U U [63,64,65,66,67,68,69,70,71,72,73] fun T341 ED=>rS (MV U)<|RD ED 7 U ?_
   exact jO hJ Eo trivial [0,1,2,3,4,5,6,7,8,9,10,11,12,13,14,15,16,17,18,19,20,21,22] U U U
  refine NO U U [62,63,64,65,66,67,68,69,70,71,72,73] fun T336 EA=>cb (t:=98) U (aS fun BS=>?_) (aT fun BS=>?_)
  ·exact absurd (AY) BS
  refine rS (MV U)<|RD EA 6 U<|N1 62<|NO U U [63,64,65,66,67,68,69,70,71,72,73] fun T337 EB=>cU (xs:=[.const (vI 2)]) (cs:=[(vI 2)]) U cy jd U U U U (by simp [Value.cells]) U U fun En=>RD EB 7 U ?_
  exact jO hJ En trivial [0,1,2,3,4,5,6,7,8,9,10,11,12,13,14,15,16,17,18,19,20,21,22] U U U
 rintro As-
 try dsimp only
 refine N1 63<|NO U U [64,65,66,67,68,69,70,71,72,73] fun T342 EE=>rS (CL (ob (cw ab 0 2 (aa.mk 2590 2599)) M N ([2]) (some ⟨As,0,none⟩) 1 om dc) (ay (ak (n:=(cw ab 0 2 (aa.mk 2590 2599)).length) 7 U sm)<|ay (aY 0 U U (by simp [bJ]) U)<|aL) U)<|RD EE 7 U<|N1 64<|NO U U [65,66,67,68,69,70,71,72,73] fun T343 EF=>rS (PK U)<|RD EF 7 U<|N1 65<|NO U U [66,67,68,69,70,71,72,73] fun T344 EG=>rS (MV U)<|RD EG 7 U<|N1 66<|NO U U [67,68,69,70,71,72,73] fun T345 EH=>cb (t:=103) U (aS fun Bc=>?_) (aT fun Bc=>?_)
 ·exact absurd (MP) Bc
 refine cU (xs:=[.const (vI 0),.const (vI 2),.const (vI 1)]) (cs:=[(vI 0),(vI 2),(vI 1)]) U cy jd U U U U (by simp [Value.cells]) U U fun Ep=>RD EH 8 U<|N1 67<|NO U U [68,69,70,71,72,73] fun T347 EI=>rS (CL (yv 1 ([0,2,1]) (some ⟨Ep,0,none⟩) 3 dc) (fH 23 U U<|ay (aY 0 U U (by simp [bJ]) U)<|aL) U)<|RD EI 8 U<|N1 68<|NO U U [69,70,71,72,73] fun T348 EJ=>rS (PK U)<|RD EJ 8 U<|N1 69<|NO U U [70,71,72,73] fun T349 EK=>rS (MV U)<|RD EK 8 U<|N1 70<|NO U U [71,72,73] fun T350 EL=>cb (t:=107) U (aS fun Bd=>?_) (aT fun Bd=>?_)
 ·exact absurd (LB) Bd
 refine cU (xs:=[.const (vI 0),.const (vI 1),.const (vI 2)]) (cs:=[(vI 0),(vI 1),(vI 2)]) U cy jd U U U U (by simp [Value.cells]) U U fun Eq=>RD EL 9 U<|Lw [109,110,0] kr kr U _ U U (aK [9,10,11,12,13,14,15,16,17,18,19,20,21,22,23,24])<|dS (CL (yv 2 ([0,1,2]) (some ⟨Eq,0,none⟩) 3 dc) (fH 24 U U<|ay (aY 0 U U (by simp [bJ]) U)<|aL) U)<|dP 2 [] I ?_
 refine cO<|RK Cn<|ar<|Q1 hQ U U U ?_
 exact cB (fM Kf)
end
section
open Go.RowKit
theorem iF (n lo hi:Int):
 ej Tryz.prog 132 [(vI n),(vI lo),(vI hi)] [] (vB (decide (lo≤n∧n≤hi))):=by
 refine bH kr Tryz.func132 U U fun D Q hQ hN=>?_
 try dsimp only
 refine WS fun _ B=>bg 1 U<|RK B<|WS fun _ A=>rP 4 [] I ?_
 refine db (t:=10) U (aT fun C=>?_) (aS fun C=>?_)
 ·refine rP 5 [] I ?_
  refine RK A<|ar<|Q1 hQ U U U ?_
  exact cB (decide_eq_decide.2 om)
 refine rP 5 [] I ?_
 refine RK A<|ar<|Q1 hQ U U U ?_
 exact cB (cr om).symm
theorem BO (ts:List ao) (tsA:OA) (tsC:Nat) (hst: ∀ x∈ts,bS x) (hlen:ts.length≤12):
 lu Tryz.prog 161 [(vA (aZ.cells (aZ.mk (aM.mk tsA ts.length tsC))))] [(rd tsA ts.length 9 (ts.map ao.cells))] (fun (x:(OA)×Nat)=>(vS x.1 ((g6 ts (ts.length+1)).length) x.2)) (fun (x:(OA)×Nat)=>True) (fun (x:(OA)×Nat)=>[(own x.1 x.2 38 2 ((g6 ts (ts.length+1)).map aa.cells))]):=by
 refine du kr Tryz.func161 U U fun V Q hQ hN=>?_
 try dsimp only
 refine WS fun _ J=>fV U fun AA=>bg 1 U<|RK J<|WS fun _ K=>bg 1 U<|RK K<|al fun _ L=>WS fun _ M=>rP 1 [] I ?_
 refine RK M<|aw<|fY 38 2 ?_
 have A:(0≤ts.length+1):=by exact Nat.zero_le _
 refine bO (ι:={z:Nat×(OA)×Nat // (z.1≤ts.length+1)}) [1] [1,2] U U (fun z=>[(3,(vS z.1.2.1 ((g6 ts z.1.1).length) z.1.2.2)),(4,(vI (z.1.1:Int)))]) (fun z=>[(own z.1.2.1 z.1.2.2 38 2 ((g6 ts z.1.1).map aa.cells))]) (fun _=>rfl) (fun _=>rfl) (fun z=>ts.length+1-z.1.1) ⟨(0,none,0),A⟩ (aQ U) (aK [1,2,0]) ?_
 clear A
 rintro ⟨⟨i,a,c⟩,B⟩ J6 AB
 try dsimp only at B
 try dsimp only
 refine al fun _ N=>WS fun _ O=>rP 5 [] (mc 0 U I) ?_
 refine RK O<|bR U (aS fun T=>?_) (aT fun T=>?_)
 ·refine bB<|ae<|ae<|ax<|KK L<|WS fun _ E=>?_
  obtain rfl:i=ts.length+1:=by omega
  refine rP 2 [] I ?_
  refine RK E<|ar<|LX hQ (a,c) [2] [] I U U U U ?_
  trivial
 refine WK N<|al fun _ C=>aw<|WS fun _ D=>fE 2 [] (mc 0 U I) U<|rS (CL (Az ts tsA tsC 0 (i:Int) hst hlen om) (bp [1]) U)<|bg 3 U<|AL U dh fun P=>AL U dh fun R=>tP U cu U<|fQ U cu U<|RK D<|an<|rP 2 [] (mc 1 U I) ?_
 refine cU (xs:=[.tmp 21]) (cs:=(aa.cells (eI ts (0:Int).toNat ((i:Int)-0).toNat))) U jL dh U U U U (by simp [Value.cells,aa.aW]) U U fun S=>?_
 refine c_ (es2:=(List.map aa.cells (g6 ts (i+1)))) (m':=(g6 ts (i+1)).length) 5 U U U DG U U sm (aY (es:=List.map aa.cells [(eI ts (0:Int).toNat ((i:Int)-0).toNat)]) 0 U U (by simp [aa.aW]) U) (gU _) (by simp only [oh]; omega) (by simp only [maxLen,oh]; omega) (by rw [Bu]; simp) sm U fun G H=>?_
 try dsimp only
 refine bg 1 U<|aH<|aD<|KK C<|an<|rP 3 [] I ?_
 refine aH ?_
 have F:(vI (((i+1):Nat):Int))=(vI ((i:Int)+1)):=by exact cI om
 refine aR (AB ⟨((i+1),G,H),(by first|omega|(simp only []; omega))⟩ _ _ _ U os (dx.cons U<|dx.cons U<|bk U F<|dx.nil _) (aK [3,4,5]))
theorem S4 (ts:List ao) (tsA:OA) (tsC:Nat) (s:cJ) (hlen:ts.length≤1000000) (hside: ∀ x∈ts,0≤x.iX∧x.iX≤255):
 ej Tryz.prog 152 [(vA (aZ.cells (aZ.mk (aM.mk tsA ts.length tsC)))),(vA (cJ.cells s))] [(rd tsA ts.length 9 (ts.map ao.cells))] (vT [(vA (aa.cells (P7 ts s))),(vI (FX ts s))]):=by
 refine bH kr Tryz.func152 U U fun r Q hQ hN=>?_
 try dsimp only
 refine WS fun _ R=>fV U fun i=>fV U fun k=>AL U dh fun l=>bg 1 U<|RK R<|al fun _ S=>WS fun _ T=>fE 1 [] (mc 2 U I) U<|rS (CL (vG ts tsA tsC hlen) (bp [3]) U)<|rP 1 [] I ?_
 refine RK T<|cM U (fun AB=>?_) (fun AB=>?_)
 ·rw [Bool.not_eq_true'] at AB
  refine WS fun _ AA=>rS (SX (bj (xs:=[]) (cs:=(aa.cells (aa.mk 0 0))) U U (bh gu U)) U U)<|fQ U cu U<|rP 1 [] I ?_
  refine RK AA<|ar<|lj hQ [0] (mc 0 U I) U ?_
  (have e:=Lc (s:=s) (by simpa using AB); rw [e.1,e.2]<;>rfl)
 rw [Bool.not_eq_false'] at AB
 refine WK S<|al fun _ V=>WS fun _ W=>?_
 have M:=jW AB
 have Z:=kF AB
 refine fE 2 [0,1] (mc 2 U (mc 1 U I)) U<|rS (CL (qT ts tsA tsC s asm asm) (bp [3]) U)<|rP 1 [] I ?_
 refine RK W<|cM U (bx fun D=>?_) (bw fun D=>?_)
 ·refine WS fun _ O=>rS (SX (bj (xs:=[]) (cs:=(aa.cells (aa.mk 0 0))) U U (bh gu U)) U U)<|fQ U cu U<|rP 1 [] I ?_
  refine RK O<|ar<|lj hQ [0] (mc 0 U I) U ?_
  (have e:=Kv AB D; rw [e.1,e.2]<;>rfl)
 refine WK V<|al fun _ H=>py cD [0,2,3] [1,4,5,6,7] [false,false,false] [] [(bZ l 38 (aa.cells (aa.mk 0 0))),(bZ k 119 (cJ.cells s)),(bZ i 24 (aZ.cells (aZ.mk (aM.mk tsA ts.length tsC)))),(rd tsA ts.length 9 (ts.map ao.cells)).ro] [] kr (aK [0,1,2,3]) (aK []) ?_
 have q:=D.1
 have N:=qz M D
 have p:(g6 ts (ts.length+1)).length=ts.length+1:=oh
 refine eS U (LW 2 U cq U U)<|eS U (FA 0 U fD U)<|eS U (L1 (vI s.a_) 1 U cq U U)<|e8 U<|iR [1,6] kr (eN ?_<|eN ?_<|kT)
 rotate_left 1
 ·refine NO U U [1,4,5,7] fun T12 J=>AL U dh fun f=>RD J 1 U<|N1 1<|NO U U [4,5,7] fun T14 P=>cX (BO ts tsA tsC asm asm) (bp [4]) U fun Y b=>?_
  obtain ⟨d,o⟩:=Y
  try dsimp only
  refine RD P 2 U<|N1 4<|NO U U [5,7] fun T19 E=>?_
  obtain ⟨z,hz⟩:=aN (g6 ts (ts.length+1)) ((s.a_).toNat) om
  have A:=bP aa.cells hz
  refine rS (IA ((s.a_).toNat) U (ak (n:=(g6 ts (ts.length+1)).length) 0 U sm) jL dc om om)<|RD E 2 U<|N1 5<|NO U U [7] fun T20 F=>rS (oB ((s.a_).toNat) 0 (aa.cells z) U cq (ak (n:=(g6 ts (ts.length+1)).length) 0 U sm) A U dc U U)<|RD F 2 U<|N1 7<|NO U U [] fun T21 C=>tP U cu U<|RD C 2 U<|pR<|KK H<|WS fun _ B=>rP 1 [] I ?_
  have A:=o_ hz
  have G:=l4 M 0 s.a_.toNat
  unfold lk at N
  rw [← A] at G
  refine fE 11 [0,1,0,1] (mc 1 U (mc 3 U I)) U<|rS (SX (bj (xs:=[(0,.tmp 27),(1,.tmp 33)]) (cs:=(aa.cells (aa.mk (z.Lo+s.mB.Lo) (z.Hi+s.mB.Hi)))) U U (bh gu U)) U U)<|GC U cu U<|rP 1 [] I ?_
  refine RK B<|ar<|lj hQ [0] (mc 2 U I) U ?_
  (have e:=wV AB D; subst A; rw [e.1,e.2]<;>rfl)
 refine NO U U [4,5,6,7] fun T12 J=>cX (BO ts tsA tsC asm asm) (bp [3]) U fun X a=>?_
 obtain ⟨c,m⟩:=X
 try dsimp only
 refine RD J 1 U<|iR [4,6] kr (eN ?_<|eN ?_<|kT)
 rotate_left 1
 ·refine NO U U [4,5,7] fun T17 K=>AL U dh fun g=>RD K 2 U<|N1 4<|NO U U [5,7] fun T19 E=>?_
  obtain ⟨z,hz⟩:=aN (g6 ts (ts.length+1)) ((s.a_).toNat) om
  have A:=bP aa.cells hz
  refine rS (IA ((s.a_).toNat) U (ak (n:=(g6 ts (ts.length+1)).length) 1 U sm) jL dc om om)<|RD E 2 U<|N1 5<|NO U U [7] fun T20 F=>rS (oB ((s.a_).toNat) 0 (aa.cells z) U cq (ak (n:=(g6 ts (ts.length+1)).length) 1 U sm) A U dc U U)<|RD F 2 U<|N1 7<|NO U U [] fun T21 C=>fQ U cu U<|RD C 2 U<|pR<|KK H<|WS fun _ B=>rP 1 [] I ?_
  have A:=o_ hz
  have G:=l4 M 0 s.a_.toNat
  unfold lk at N
  rw [← A] at G
  refine fE 11 [0,1,0,1] (mc 0 U (mc 3 U I)) U<|rS (SX (bj (xs:=[(0,.tmp 27),(1,.tmp 33)]) (cs:=(aa.cells (aa.mk (z.Lo+s.mB.Lo) (z.Hi+s.mB.Hi)))) U U (bh gu U)) U U)<|GC U cu U<|rP 1 [] I ?_
  refine RK B<|ar<|lj hQ [0] (mc 2 U I) U ?_
  (have e:=wV AB D; subst A; rw [e.1,e.2]<;>rfl)
 refine NO U U [5,6,7] fun T17 K=>?_
 obtain ⟨z,hz⟩:=aN (g6 ts (ts.length+1)) ((s.a_).toNat) om
 have A:=bP aa.cells hz
 refine rS (IA ((s.a_).toNat) U (ak (n:=(g6 ts (ts.length+1)).length) 0 U sm) jL dc om om)<|RD K 1 U<|iR [5,6] kr (eN ?_<|eN ?_<|kT)
 rotate_left 1
 ·refine NO U U [5,7] fun T18 L=>AL U dh fun h=>RD L 2 U<|N1 5<|NO U U [7] fun T20 F=>rS (oB ((s.a_).toNat) 0 (aa.cells z) U cq (ak (n:=(g6 ts (ts.length+1)).length) 1 U sm) A U dc U U)<|RD F 2 U<|N1 7<|NO U U [] fun T21 C=>fQ U cu U<|RD C 2 U<|pR<|KK H<|WS fun _ B=>rP 1 [] I ?_
  have A:=o_ hz
  have G:=l4 M 0 s.a_.toNat
  unfold lk at N
  rw [← A] at G
  refine fE 11 [0,1,0,1] (mc 0 U (mc 3 U I)) U<|rS (SX (bj (xs:=[(0,.tmp 27),(1,.tmp 33)]) (cs:=(aa.cells (aa.mk (z.Lo+s.mB.Lo) (z.Hi+s.mB.Hi)))) U U (bh gu U)) U U)<|GC U cu U<|rP 1 [] I ?_
  refine RK B<|ar<|lj hQ [0] (mc 2 U I) U ?_
  (have e:=wV AB D; subst A; rw [e.1,e.2]<;>rfl)
 refine NO U U [6,7] fun T18 L=>rS (oB ((s.a_).toNat) 0 (aa.cells z) U cq (ak (n:=(g6 ts (ts.length+1)).length) 0 U sm) A U dc U U)<|RD L 1 U<|N1 6<|NO U U [7] fun T19 E=>AL U dh fun j=>RD E 2 U<|N1 7<|NO U U [] fun T21 C=>fQ U cu U<|RD C 2 U<|pR<|KK H<|WS fun _ B=>rP 1 [] I ?_
 have A:=o_ hz
 have G:=l4 M 0 s.a_.toNat
 unfold lk at N
 rw [← A] at G
 refine fE 11 [0,1,0,1] (mc 0 U (mc 3 U I)) U<|rS (SX (bj (xs:=[(0,.tmp 27),(1,.tmp 33)]) (cs:=(aa.cells (aa.mk (z.Lo+s.mB.Lo) (z.Hi+s.mB.Hi)))) U U (bh gu U)) U U)<|GC U cu U<|rP 1 [] I ?_
 refine RK B<|ar<|lj hQ [0] (mc 2 U I) U ?_
 (have e:=wV AB D; subst A; rw [e.1,e.2]<;>rfl)
theorem Hw (ts:List ao) (tsA:OA) (tsC:Nat) (p:cJ) (q:cJ) (hlen:ts.length≤1000000) (hside: ∀ x∈ts,0≤x.iX∧x.iX≤255) (hord: ¬ q.a_<p.a_):
 ej Tryz.prog 153 [(vA (aZ.cells (aZ.mk (aM.mk tsA ts.length tsC)))),(vA (cJ.cells p)),(vA (cJ.cells q))] [(rd tsA ts.length 9 (ts.map ao.cells))] (vT [(vA (aa.cells (kG ts p q))),(vI (lx ts p q))]):=by
 refine bH kr Tryz.func153 U U fun k Q hQ hN=>?_
 try dsimp only
 refine WS fun _ N=>fV U fun f=>fV U fun g=>fV U fun i=>AL U dh fun j=>bg 1 U<|RK N<|al fun _ O=>WS fun _ P=>fE 1 [] (mc 3 U I) U<|rS (CL (vG ts tsA tsC hlen) (bp [4]) U)<|rP 1 [] I ?_
 refine RK P<|cM U (fun A=>?_) (fun A=>?_)
 ·rw [Bool.not_eq_true'] at A
  refine WS fun _ R=>rS (SX (bj (xs:=[]) (cs:=(aa.cells (aa.mk 0 0))) U U (bh gu U)) U U)<|fQ U cu U<|rP 1 [] I ?_
  refine RK R<|ar<|lj hQ [0] (mc 0 U I) U ?_
  (have e:=uM (a:=p) (b:=q) (by simpa using A); rw [e.1,e.2]<;>rfl)
 rw [Bool.not_eq_false'] at A
 refine WK O<|al fun _ S=>WS fun _ E=>?_
 have D:=jW A
 have M:=kF A
 refine fE 2 [0,1] (mc 3 U (mc 2 U I)) U<|rS (CL (qT ts tsA tsC p asm asm) (bp [4]) U)<|rP 2 [] I ?_
 refine db (t:=20) U (bx fun B=>?_) (bw fun B=>?_)
 ·refine bg 5 U<|RK E<|aP U<|WS fun _ G=>rS (SX (bj (xs:=[]) (cs:=(aa.cells (aa.mk 0 0))) U U (bh gu U)) U U)<|fQ U cu U<|rP 1 [] I ?_
  refine RK G<|ar<|lj hQ [0] (mc 0 U I) U ?_
  (have e:=oJ (a:=p) (b:=q) A (fun h=>by first|exact B h.1|exact C h.2); rw [e.1,e.2]<;>rfl)
 refine fE 2 [0,1] (mc 3 U (mc 1 U I)) U<|rS (CL (qT ts tsA tsC q asm asm) (bp [4]) U)<|rP 2 [] I ?_
 refine RK E<|cM U (bx fun C=>?_) (bw fun C=>?_)
 ·refine WS fun _ H=>rS (SX (bj (xs:=[]) (cs:=(aa.cells (aa.mk 0 0))) U U (bh gu U)) U U)<|fQ U cu U<|rP 1 [] I ?_
  refine RK H<|ar<|lj hQ [0] (mc 0 U I) U ?_
  (have e:=oJ (a:=p) (b:=q) A (fun h=>by first|exact B h.1|exact C h.2); rw [e.1,e.2]<;>rfl)
 refine WK S<|al fun _ AB=>WS fun _ J=>?_
 have AA:fr ts p∧fr ts q:=⟨B,C⟩
 have T:=qz D B
 have V:=qz D C
 have c:=B.1
 have d:=C.1
 have Y:=wS D M C B
 unfold lk at T V
 refine rP 5 [0,1] (mc 1 U (mc 2 U I)) ?_
 refine RK J<|cM U (aT fun F=>?_) (aS fun F=>?_)
 ·exfalso; omega
 refine WK AB<|WS fun _ K=>rP 2 [] (mc 3 U I) ?_
 have Z:=l4 D p.a_.toNat (q.a_-p.a_).toNat
 refine fE 3 [0,1] (mc 2 U (mc 1 U I)) U<|rS (CL (Az ts tsA tsC p.a_ q.a_ asm asm om) (bp [4]) U)<|bg 3 U<|AL U dh fun W=>AL U dh fun X=>tP U cu U<|fQ U cu U<|RK K<|WS fun _ L=>fE 20 [0,1,2,0,1,2] (mc 1 U (mc 3 U (mc 4 U I))) U<|rS (SX (bj (xs:=[(0,.tmp 64),(1,.tmp 74)]) (cs:=(aa.cells (aa.mk ((((eI ts p.a_.toNat (q.a_-p.a_).toNat).Lo)+q.mB.Lo)-p.mB.Hi) ((((eI ts p.a_.toNat (q.a_-p.a_).toNat).Hi)+q.mB.Hi)-p.mB.Lo)))) U U (bh gu U)) U U)<|GC U cu U<|rP 1 [] I ?_
 refine RK L<|ar<|lj hQ [0] (mc 2 U I) U ?_
 (have e:=k8 A AA; rw [e.1,e.2,qd F]<;>rfl)
theorem II (ts:List ao) (tsA:OA) (tsC:Nat) (p:cJ) (q:cJ) (hlen:ts.length≤1000000) (hside: ∀ x∈ts,0≤x.iX∧x.iX≤255):
 ej Tryz.prog 153 [(vA (aZ.cells (aZ.mk (aM.mk tsA ts.length tsC)))),(vA (cJ.cells p)),(vA (cJ.cells q))] [(rd tsA ts.length 9 (ts.map ao.cells))] (vT [(vA (aa.cells (kG ts p q))),(vI (lx ts p q))]):=by
 refine bH kr Tryz.func153 U U fun u Q hQ hN=>?_
 try dsimp only
 refine WS fun _ S=>fV U fun n=>fV U fun o=>fV U fun r=>AL U dh fun s=>bg 1 U<|RK S<|al fun _ T=>WS fun _ AA=>fE 1 [] (mc 3 U I) U<|rS (CL (vG ts tsA tsC hlen) (bp [4]) U)<|rP 1 [] I ?_
 refine RK AA<|cM U (fun A=>?_) (fun A=>?_)
 ·rw [Bool.not_eq_true'] at A
  refine WS fun _ V=>rS (SX (bj (xs:=[]) (cs:=(aa.cells (aa.mk 0 0))) U U (bh gu U)) U U)<|fQ U cu U<|rP 1 [] I ?_
  refine RK V<|ar<|lj hQ [0] (mc 0 U I) U ?_
  (have e:=uM (a:=p) (b:=q) (by simpa using A); rw [e.1,e.2]<;>rfl)
 rw [Bool.not_eq_false'] at A
 refine WK T<|al fun _ W=>WS fun _ E=>?_
 have D:=jW A
 have P:=kF A
 refine fE 2 [0,1] (mc 3 U (mc 2 U I)) U<|rS (CL (qT ts tsA tsC p asm asm) (bp [4]) U)<|rP 2 [] I ?_
 refine db (t:=20) U (bx fun B=>?_) (bw fun B=>?_)
 ·refine bg 5 U<|RK E<|aP U<|WS fun _ G=>rS (SX (bj (xs:=[]) (cs:=(aa.cells (aa.mk 0 0))) U U (bh gu U)) U U)<|fQ U cu U<|rP 1 [] I ?_
  refine RK G<|ar<|lj hQ [0] (mc 0 U I) U ?_
  (have e:=oJ (a:=p) (b:=q) A (fun h=>by first|exact B h.1|exact C h.2); rw [e.1,e.2]<;>rfl)
 refine fE 2 [0,1] (mc 3 U (mc 1 U I)) U<|rS (CL (qT ts tsA tsC q asm asm) (bp [4]) U)<|rP 2 [] I ?_
 refine RK E<|cM U (bx fun C=>?_) (bw fun C=>?_)
 ·refine WS fun _ H=>rS (SX (bj (xs:=[]) (cs:=(aa.cells (aa.mk 0 0))) U U (bh gu U)) U U)<|fQ U cu U<|rP 1 [] I ?_
  refine RK H<|ar<|lj hQ [0] (mc 0 U I) U ?_
  (have e:=oJ (a:=p) (b:=q) A (fun h=>by first|exact B h.1|exact C h.2); rw [e.1,e.2]<;>rfl)
 refine WK W<|al fun _ AB=>WS fun _ J=>?_
 have R:fr ts p∧fr ts q:=⟨B,C⟩
 have X:=qz D B
 have Y:=qz D C
 have l:=B.1
 have m:=C.1
 have j:=wS D P C B
 unfold lk at X Y
 refine rP 5 [0,1] (mc 1 U (mc 2 U I)) ?_
 refine RK J<|cM U (aT fun F=>?_) (aS fun F=>?_)
 ·refine WS fun _ K=>fE 3 [0,1,2] (mc 3 U (mc 1 U (mc 2 U I))) U<|rS (CL (Hw ts tsA tsC q p hlen hside om) (bp [4]) U)<|bg 3 U<|AL U dh fun d=>fQ U cu U<|bg 1 U<|RK K<|WS fun _ L=>rP 2 [] (mc 0 U I) ?_
  have O:kG ts q p=j0 ts q p:=(k8 A ⟨C,B⟩).2
  have Z: -400000≤(kG ts q p).Lo∧(kG ts q p).Hi≤400000:=by rw [O]; omega
  have c:(kG ts q p).Lo≤(kG ts q p).Hi:=by rw [O]; omega
  refine rS (NG U ⟨om,om⟩)<|fE 2 [] (mc 0 U I) U<|rS (NG U ⟨om,om⟩)<|rS (SX (bj (xs:=[(0,.tmp 41),(1,.tmp 44)]) (cs:=(aa.cells (aa.mk (-((kG ts q p).Hi)) (-((kG ts q p).Lo))))) U U (bh gu U)) U U)<|tP U cu U<|rP 1 [] I ?_
  refine RK L<|ar<|lj hQ [0] (mc 1 U I) U ?_
  (have e:=k8 A R; have i:=k8 A ⟨C,B⟩; rw [e.1,e.2,i.2,DV F]<;>rfl)
 refine WK AB<|WS fun _ M=>rP 2 [] (mc 3 U I) ?_
 have k:=l4 D p.a_.toNat (q.a_-p.a_).toNat
 refine fE 3 [0,1] (mc 2 U (mc 1 U I)) U<|rS (CL (Az ts tsA tsC p.a_ q.a_ asm asm om) (bp [4]) U)<|bg 3 U<|AL U dh fun f=>AL U dh fun g=>tP U cu U<|fQ U cu U<|RK M<|WS fun _ N=>fE 20 [0,1,2,0,1,2] (mc 1 U (mc 3 U (mc 4 U I))) U<|rS (SX (bj (xs:=[(0,.tmp 64),(1,.tmp 74)]) (cs:=(aa.cells (aa.mk ((((eI ts p.a_.toNat (q.a_-p.a_).toNat).Lo)+q.mB.Lo)-p.mB.Hi) ((((eI ts p.a_.toNat (q.a_-p.a_).toNat).Hi)+q.mB.Hi)-p.mB.Lo)))) U U (bh gu U)) U U)<|GC U cu U<|rP 1 [] I ?_
 refine RK N<|ar<|lj hQ [0] (mc 2 U I) U ?_
 (have e:=k8 A R; rw [e.1,e.2,qd F]<;>rfl)
end
section
open Go.RowKit
theorem IK (l:bf) (kA:OA) (kC:Nat) (az:List RA) (cA:OA) (cC:Nat) (bA:OA) (bC:Nat) (hraw:tf l az):
 ej Tryz.prog 48 [(vA (bK.cells (lp l kA kC cA cC bA bC)))] [(rd kA l.aJ.length 9 (l.aJ.map ao.cells)),(rd cA l.ai.length 2 (List.zipWith au.cells l.ai az)),(e7 (aU au.gX l.ai az)),(rd bA l.ag.length 4 (l.ag.map bE.cells))] (vB (decide (mC l))):=by
 have e:=hraw.sD
 have d:=hraw.sG
 have a:=hraw.oi
 have b:=hraw.sE
 refine bH kr Tryz.func48 U U fun g Q hQ hN=>?_
 try dsimp only
 refine WS fun _ O=>fV U fun f=>bg 1 U<|RK O<|al fun _ P=>WS fun _ D=>bg 1 U<|rS (LP (aZ.cells (aZ.mk (aM.mk kA l.aJ.length kC))) 0 U cq U U U)<|rS (CL (NN l.aJ kA kC) (bp [1]) U)<|rP 1 [] I ?_
 refine db (t:=7) U (aT fun Z=>?_) (aS fun Z=>?_)
 ·refine bg 11 U<|RK D<|aP U<|WS fun _ R=>rP 1 [] I ?_
  refine RK R<|ar<|Q1 hQ U U U ?_
  exact cB (fM (.inl om)).symm
 refine rP 6 [] (mc 0 U I) ?_
 refine db (t:=13) U (aT fun C=>?_) (aS fun C=>?_)
 ·refine bg 5 U<|RK D<|aP U<|WS fun _ S=>rP 1 [] I ?_
  refine RK S<|ar<|Q1 hQ U U U ?_
  exact cB (fM (.inl om)).symm
 refine rP 5 [] (mc 0 U I) ?_
 refine RK D<|cM U (aT fun N=>?_) (aS fun N=>?_)
 ·refine WS fun _ T=>rP 1 [] I ?_
  refine RK T<|ar<|Q1 hQ U U U ?_
  exact cB (fM (.inl om)).symm
 refine WK P<|al fun _ AA=>WS fun _ V=>rP 1 [] I ?_
 refine RK V<|aw ?_
 have A:(0≤l.ai.length)∧(z7 l 0):=by exact ⟨Nat.zero_le _,fun j c hj=>absurd hj (Nat.not_lt_zero _)⟩
 refine bO (ι:={z:Nat // (z≤l.ai.length)∧(z7 l z)}) [1] [0,1,2,3,4] U U (fun z=>[(3,(vI (z.1:Int)))]) (fun z=>[]) (fun _=>rfl) (fun _=>rfl) (fun z=>l.ai.length-z.1) ⟨0,A⟩ (aQ U) (aK [0,1,2,3,4]) ?_
 clear A
 rintro ⟨i,⟨W,B⟩⟩ J10 F
 try dsimp only
 refine al fun _ G=>WS fun _ H=>rP 5 [] (mc 0 U I) ?_
 refine RK H<|bR U (aS fun C=>?_) (aT fun C=>?_)
 ·refine bB<|ae<|ae<|ax<|KK AA<|WS fun _ L=>rP 1 [] I ?_
  refine RK L<|ar<|Q1 hQ U U U ?_
  exact cB (cr (Ia om om B)).symm
 refine WK G<|al fun _ AB=>aw<|WS fun _ J=>rP 3 [] (mc 0 U I) ?_
 obtain ⟨x,hx⟩:=aN l.ai i om
 obtain ⟨xa,X⟩:=aN az i om
 have Y:(List.zipWith au.cells l.ai az)[i]? =some (au.cells x xa):=dZ hx X
 refine rS (IA i U (aF 2 U) zM dc om om)<|rS (nM ((i*2)+1) U (aF 2 U) (Nat.mul_pos om dc) fD U)<|rS (gF i 1 (vS xa.1 x.bu.length xa.2) U cq (aF 2 U) Y U dc U)<|rP 2 [] I ?_
 refine RK J<|cM U (aT fun E=>?_) (aS fun E=>?_)
 ·refine WS fun _ K=>rP 1 [] I ?_
  refine RK K<|ar<|Q1 hQ U U U ?_
  exact cB (fM (Ic hx E)).symm
 refine bY<|aD<|KK AB<|an<|rP 3 [] I ?_
 refine aH ?_
 have M:(vI (((i+1):Nat):Int))=(vI ((i:Int)+1)):=by exact cI om
 refine aR (F ⟨(i+1),⟨om,lT B hx om⟩⟩ _ _ _ U os (dx.cons U<|bk U M<|dx.nil _) (aK [0,1,2,3,4]))
theorem xB (d m:Int) (hd:0≤d∧d≤1000) (hm:0≤m∧m≤90000000):
 ej Tryz.prog 151 [(vI d),(vI m)] [] (vI (o5 (d*m) 1000000)):=by
 have J:=P5 (a:=d) (b:=m) (A:=1000) (B:=90000000) hd.1 hd.2 hm.1 hm.2
 refine bH kr Tryz.func151 U U fun K Q hQ hN=>?_
 try dsimp only
 refine WS fun _ C=>bg 1 U<|RK C<|WS fun _ D=>bg 2 U<|rS (BI U (F8 ⟨om,om⟩))<|bg 1 U<|RK D<|al fun _ E=>WS fun _ F=>bg 1 U<|rS (BI U (Ou om om))<|rP 1 [] I ?_
 refine RK F<|cM U (aT fun AA=>?_) (aS fun AA=>?_)
 ·refine WS fun _ G=>bg 1 U<|rS (BI U (sH om om om))<|rP 2 [] I ?_
  refine RK G<|ar<|Q1 hQ U U U ?_
  exact cI (by unfold o5; omega)
 refine WK E<|WS fun _ H=>bg 1 U<|rS (BI U (sH om om om))<|rP 1 [] I ?_
 refine RK H<|ar<|Q1 hQ U U U ?_
 exact cI (by unfold o5; omega)
theorem Jj (c:au) (sA:OA) (sC:Nat) (hlen:c.bu.length≤1000000):
 ej Tryz.prog 133 [(vA (dv.cells (dv.mk c.dk (aM.mk sA c.bu.length sC))))] [(rd sA c.bu.length 3 (c.bu.map cG.cells))] (vB (decide (eY c))):=by
 refine bH kr Tryz.func133 U U fun w0 Q hQ hN=>?_
 try dsimp only
 refine WS fun _ Ac=>fV U fun b2=>bg 1 U<|RK Ac<|al fun _ Ad=>WS fun _ AK=>fE 2 [] (mc 0 U I) U<|rS (CL (iF c.dk 0 1000) (aL) U)<|rP 2 [] I ?_
 refine db (t:=14) U (bx fun AU=>?_) (bw fun AU=>?_)
 ·refine bg 6 U<|RK AK<|aP U<|WS fun _ Ae=>rP 1 [] I ?_
  refine RK Ae<|ar<|Q1 hQ U U U ?_
  exact cB (cr fun h=>by have q1:=h.ry; have q2:=h.len; omega).symm
 refine fE 3 [] (mc 0 U I) U<|rS (CL (iF (c.bu.length:Int) 1 5) (aL) U)<|rP 2 [] I ?_
 refine RK AK<|cM U (bx fun AV=>?_) (bw fun AV=>?_)
 ·refine WS fun _ Af=>rP 1 [] I ?_
  refine RK Af<|ar<|Q1 hQ U U U ?_
  exact cB (cr fun h=>by have q1:=h.ry; have q2:=h.len; omega).symm
 refine WK Ad<|al fun _ Ag=>WS fun _ Ah=>rP 1 [] I ?_
 refine RK Ah<|aw ?_
 have A:(0≤c.bu.length)∧(∀ (j:Nat) y,j<0→c.bu[j]? =some y→fu c j y):=by exact ⟨Nat.zero_le _,fun j y hj=>absurd hj (Nat.not_lt_zero _)⟩
 refine bO (ι:={z:Nat // (z≤c.bu.length)∧(∀ (j:Nat) y,j<z→c.bu[j]? =some y→fu c j y)}) [1] [0,1] U U (fun z=>[(3,(vI (z.1:Int)))]) (fun z=>[]) (fun _=>rfl) (fun _=>rfl) (fun z=>c.bu.length-z.1) ⟨0,A⟩ (aQ U) (aK [0,1]) ?_
 clear A
 rintro ⟨i,⟨a,C⟩⟩ J9 f
 try dsimp only
 have An:=IG a C
 refine al fun _ g=>WS fun _ l=>rP 5 [] (mc 0 U I) ?_
 refine RK l<|cM U (aT fun AW=>?_) (aS fun AW=>?_)
 ·refine WK g<|al fun _ Am=>aw<|WS fun _ n=>rP 3 [] (mc 0 U I) ?_
  obtain ⟨x,hx⟩:=aN c.bu i om
  have b:=bP cG.cells hx
  refine rS (IA i U (aF 1 U) qg dc om om)<|rS (oB i 0 (cG.cells x) U cq (aF 1 U) b U dc U U)<|AL U rr fun Al=>fQ U te U<|RK n<|al fun _ B=>dG cD 41 kr<|mI 2 [] (mc 0 U I) U<|dS (CL (iF x.At 0 86400000) (aL) U)<|dP 2 [] I ?_
  refine ja (t:=37) U (bx fun AX=>?_) (bw fun AX=>?_)
  ·refine lB 36 U<|cO<|RK B<|aP U<|WS fun _ p=>rP 1 [] I ?_
   refine RK p<|ar<|Q1 hQ U U U ?_
   exact cB (cr fun h=>by have q:=h.sync i x hx; unfold fu at q; (rw [gG om] at q; omega)).symm
  refine dP 3 [] I ?_
  refine jo (t:=40) U (aS fun AY=>?_) (aT fun AY=>?_)
  ·refine dP 19 [] (mc 0 U I) ?_
   refine ja (t:=59) U (aT fun X=>?_) (aS fun X=>?_)
   ·refine lB 14 U<|cO<|RK B<|aP U<|WS fun _ w=>rP 1 [] I ?_
    refine RK w<|ar<|Q1 hQ U U U ?_
    exact cB (cr fun h=>by have q:=h.sync i x hx; unfold fu at q; (rw [gG om] at q; omega)).symm
   refine dP 9 [] (mc 0 U I) ?_
   refine ja (t:=68) U (aT fun Y=>?_) (aS fun Y=>?_)
   ·refine lB 5 U<|cO<|RK B<|aP U<|WS fun _ AA=>rP 1 [] I ?_
    refine RK AA<|ar<|Q1 hQ U U U ?_
    exact cB (cr fun h=>by have q:=h.sync i x hx; unfold fu at q; (rw [gG om] at q; omega)).symm
   refine dP 5 [] (mc 0 U I) ?_
   refine cO<|RK B<|bR U (aS fun Z=>?_) (aT fun Z=>?_)
   ·refine bY<|aD<|KK Am<|an<|rP 3 [] I ?_
    refine aH ?_
    have AO:(vI (((i+1):Nat):Int))=(vI ((i:Int)+1)):=by exact cI om
    refine aR (f ⟨(i+1),⟨om,lT C hx (by unfold fu; (rw [gG om]; omega))⟩⟩ _ _ _ U os (dx.cons U<|bk U AO<|dx.nil _) (aK [1,2]))
   refine WS fun _ AB=>rP 1 [] I ?_
   refine RK AB<|ar<|Q1 hQ U U U ?_
   exact cB (cr fun h=>by have q:=h.sync i x hx; unfold fu at q; (rw [gG om] at q; omega)).symm
  refine dP 6 [0,1] (mc 0 U (mc 1 U I)) ?_
  obtain ⟨y,hy⟩:=aN c.bu (i-1) om
  have d:=bP cG.cells hy
  refine dS (IA (i-1) U (aF 2 U) qg dc om om)<|dS (nM ((i-1)*3) U (aF 2 U) (Nat.mul_pos om dc) fD U)<|dS (gF (i-1) 0 (vI y.At) U cq (aF 2 U) d U dc U)<|dP 4 [] I ?_
  refine ja (t:=53) U (aT fun AZ=>?_) (aS fun AZ=>?_)
  ·refine lB 20 U<|cO<|RK B<|aP U<|WS fun _ r=>rP 1 [] I ?_
   refine RK r<|ar<|Q1 hQ U U U ?_
   exact cB (cr fun h=>by have q:=h.sync i x hx; unfold fu at q; (rw [xz om hy] at q; omega)).symm
  refine dP 6 [] (mc 0 U I) ?_
  refine ja (t:=59) U (aT fun X=>?_) (aS fun X=>?_)
  ·refine lB 14 U<|cO<|RK B<|aP U<|WS fun _ s=>rP 1 [] I ?_
   refine RK s<|ar<|Q1 hQ U U U ?_
   exact cB (cr fun h=>by have q:=h.sync i x hx; unfold fu at q; (rw [gG om] at q; omega)).symm
  refine dP 9 [] (mc 0 U I) ?_
  refine ja (t:=68) U (aT fun Y=>?_) (aS fun Y=>?_)
  ·refine lB 5 U<|cO<|RK B<|aP U<|WS fun _ u=>rP 1 [] I ?_
   refine RK u<|ar<|Q1 hQ U U U ?_
   exact cB (cr fun h=>by have q:=h.sync i x hx; unfold fu at q; (rw [gG om] at q; omega)).symm
  refine dP 5 [] (mc 0 U I) ?_
  refine cO<|RK B<|bR U (aS fun Z=>?_) (aT fun Z=>?_)
  ·refine bY<|aD<|KK Am<|an<|rP 3 [] I ?_
   refine aH ?_
   have AN:(vI (((i+1):Nat):Int))=(vI ((i:Int)+1)):=by exact cI om
   refine aR (f ⟨(i+1),⟨om,lT C hx (by unfold fu; (rw [xz om hy]; omega))⟩⟩ _ _ _ U os (dx.cons U<|bk U AN<|dx.nil _) (aK [1,2]))
  refine WS fun _ v=>rP 1 [] I ?_
  refine RK v<|ar<|Q1 hQ U U U ?_
  exact cB (cr fun h=>by have q:=h.sync i x hx; unfold fu at q; (rw [gG om] at q; omega)).symm
 refine bB<|ae<|ae<|ax<|KK Ag<|al fun _ AC=>WS fun _ AD=>rP 1 [] I ?_
 refine RK AD<|aw ?_
 have A:(0≤c.bu.length)∧(ti c 0):=by exact ⟨Nat.zero_le _,fun j y hj=>absurd hj (Nat.not_lt_zero _)⟩
 refine bO (ι:={z:Nat // (z≤c.bu.length)∧(ti c z)}) [1] [0,1] U U (fun z=>[(5,(vI (z.1:Int)))]) (fun z=>[]) (fun _=>rfl) (fun _=>rfl) (fun z=>c.bu.length-z.1) ⟨0,A⟩ (aQ U) (aK [0,1]) ?_
 clear A
 rintro ⟨m,⟨AQ,G⟩⟩ J28 e
 try dsimp only
 have F:=wj (P:=fu c) om C
 refine al fun _ AE=>WS fun _ AF=>rP 5 [] (mc 0 U I) ?_
 refine RK AF<|bR U (aS fun Aa=>?_) (aT fun Aa=>?_)
 ·refine bB<|ae<|ae<|ax<|KK AC<|WS fun _ AM=>rP 1 [] I ?_
  refine RK AM<|ar<|Q1 hQ U U U ?_
  exact cB (fM (JV om om (wj om C) om G)).symm
 refine WK AE<|al fun _ AG=>aw<|WS fun _ AH=>rP 1 [] I ?_
 refine RK AH<|aw ?_
 have A:(0≤m)∧(∀ y,c.bu[m]? =some y→Ga c y 0):=by exact ⟨Nat.zero_le _,fun y _ j o hj=>absurd hj (Nat.not_lt_zero _)⟩
 refine bO (ι:={z:Nat // (z≤m)∧(∀ y,c.bu[m]? =some y→Ga c y z)}) [1,5] [0,1] U U (fun z=>[(6,(vI (z.1:Int)))]) (fun z=>[]) (fun _=>rfl) (fun _=>rfl) (fun z=>m-z.1) ⟨0,A⟩ (aQ U) (aK [0,1]) ?_
 clear A
 rintro ⟨k,⟨AR,D⟩⟩ J33 T
 try dsimp only
 refine al fun _ AI=>WS fun _ AJ=>rP 3 [] I ?_
 refine RK AJ<|bR U (aS fun Ab=>?_) (aT fun Ab=>?_)
 ·refine bB<|ae<|ae<|ax<|aD<|KK AG<|an<|rP 3 [] I ?_
  refine aH ?_
  have AP:(vI (((m+1):Nat):Int))=(vI ((m:Int)+1)):=by exact cI om
  refine aR (e ⟨(m+1),⟨om,Eu G D om⟩⟩ _ _ _ U os (dx.cons U<|bk U AP<|dx.nil _) (aK [0,1]))
 refine WK AI<|al fun _ V=>aw<|al fun _ W=>py cD [0,1,2,3,4,5,6,7,8,9] [10,11,12,13] [false,false,false,false,false,false,false,false,false,false] [] [(bZ b2 127 (dv.cells (dv.mk c.dk (aM.mk sA c.bu.length sC)))),(rd sA c.bu.length 3 (c.bu.map cG.cells)).ro] [] kr (aK [0,1]) (aK [])<|eS U (FA 1 U fD U)<|eS U (L1 (vS sA c.bu.length sC) 0 U cq U U)<|eS U (MV U) ?_
 obtain ⟨x,hx⟩:=aN c.bu k om
 have b:=bP cG.cells hx
 refine eS U (IA k U (aF 1 U) qg dc om om)<|eS U (oB k 0 (cG.cells x) U cq (aF 1 U) b U dc U U)<|eS U (FA 1 U fD U)<|eS U (L1 (vS sA c.bu.length sC) 0 U cq U U)<|eS U (MV U) ?_
 obtain ⟨y,hy⟩:=aN c.bu m om
 have d:=bP cG.cells hy
 refine eS U (IA m U (aF 1 U) qg dc om om)<|eS U (oB m 0 (cG.cells y) U cq (aF 1 U) d U dc U U)<|e8 U<|iR [10,11] kr (eN ?_<|eN ?_<|kT)
 rotate_left 1
 ·refine NO U U [10,12,13] fun T38 M=>AL U rr fun AS=>RD M 1 U<|N1 10<|NO U U [12,13] fun T40 N=>AL U rr fun AT=>RD N 2 U<|N1 12<|NO U U [13] fun T42 O=>fQ U te U<|RD O 2 U<|N1 13<|NO U U [] fun T43 R=>tP U te U<|RD R 2 U<|pR<|KK W<|WS fun _ J=>rP 6 [0,1,2] (mc 2 U (mc 1 U (mc 0 U I))) ?_
  obtain ⟨Ai,Aj,Ak⟩:=ub (fun j z _ hz=>F j z hz) hy (F _ _ hy) (show k<m by omega) hx
  refine bg 1 U<|rS (CL (xB c.dk (y.At-x.At) om om) (aL) U)<|bg 1 U<|RK J<|WS fun _ E=>rP 10 [0,1] (mc 0 U (mc 1 U I)) ?_
  refine db (t:=113) U (aT fun H=>?_) (aS fun H=>?_)
  ·refine bg 10 U<|RK E<|aP U<|WS fun _ K=>rP 1 [] I ?_
   refine RK K<|ar<|Q1 hQ U U U ?_
   exact cB (cr fun h=>by have q:=h.pair m k y x hy om hx; unfold nu at q; omega).symm
  refine rP 10 [0,1] (mc 1 U (mc 0 U I)) ?_
  refine RK E<|bR U (aS fun Ao=>?_) (aT fun Ao=>?_)
  ·refine bY<|aD<|KK V<|an<|rP 3 [] I ?_
   refine aH ?_
   have S:(vI (((k+1):Nat):Int))=(vI ((k:Int)+1)):=by exact cI om
   refine aR (T ⟨(k+1),⟨om,fun z hz=>by rw [hy] at hz; cases hz; exact lT (D _ hy) hx (by unfold nu; omega)⟩⟩ _ _ _ rfl os (dx.cons rfl<|dx.cons rfl<|bk rfl S<|dx.nil _) (aK [2,3]))
  refine WS fun _ L=>rP 1 [] I ?_
  refine RK L<|ar<|Q1 hQ U U U ?_
  exact cB (cr fun h=>by have q:=h.pair m k y x hy om hx; unfold nu at q; omega).symm
 refine NO U U [11,12,13] fun T38 M=>AL U rr fun AS=>RD M 1 U<|N1 11<|NO U U [12,13] fun T40 N=>AL U rr fun AT=>RD N 2 U<|N1 12<|NO U U [13] fun T42 O=>tP U te U<|RD O 2 U<|N1 13<|NO U U [] fun T43 R=>fQ U te U<|RD R 2 U<|pR<|KK W<|WS fun _ J=>rP 6 [0,1,2] (mc 2 U (mc 0 U (mc 1 U I))) ?_
 obtain ⟨Ai,Aj,Ak⟩:=ub (fun j z _ hz=>F j z hz) hy (F _ _ hy) (show k<m by omega) hx
 refine bg 1 U<|rS (CL (xB c.dk (y.At-x.At) om om) (aL) U)<|bg 1 U<|RK J<|WS fun _ E=>rP 10 [0,1] (mc 1 U (mc 0 U I)) ?_
 refine db (t:=113) U (aT fun H=>?_) (aS fun H=>?_)
 ·refine bg 10 U<|RK E<|aP U<|WS fun _ K=>rP 1 [] I ?_
  refine RK K<|ar<|Q1 hQ U U U ?_
  exact cB (cr fun h=>by have q:=h.pair m k y x hy om hx; unfold nu at q; omega).symm
 refine rP 10 [0,1] (mc 0 U (mc 1 U I)) ?_
 refine RK E<|bR U (aS fun Ao=>?_) (aT fun Ao=>?_)
 ·refine bY<|aD<|KK V<|an<|rP 3 [] I ?_
  refine aH ?_
  have S:(vI (((k+1):Nat):Int))=(vI ((k:Int)+1)):=by exact cI om
  refine aR (T ⟨(k+1),⟨om,fun z hz=>by rw [hy] at hz; cases hz; exact lT (D _ hy) hx (by unfold nu; omega)⟩⟩ _ _ _ rfl os (dx.cons rfl<|dx.cons rfl<|bk rfl S<|dx.nil _) (aK [2,3]))
 refine WS fun _ L=>rP 1 [] I ?_
 refine RK L<|ar<|Q1 hQ U U U ?_
 exact cB (cr fun h=>by have q:=h.pair m k y x hy om hx; unfold nu at q; omega).symm
theorem CT (c:au) (sA:OA) (sC:Nat) (at_:Int) (hc:eY c) (ha:0≤at_∧at_≤90000000):
 ej Tryz.prog 170 [(vA (dv.cells (dv.mk c.dk (aM.mk sA c.bu.length sC)))),(vI at_)] [(rd sA c.bu.length 3 (c.bu.map cG.cells))] (vA (aa.cells (ic c at_))):=by
 have e:=hc.len
 have W:=hc.ry
 refine bH kr Tryz.func170 U U fun j Q hQ hN=>?_
 try dsimp only
 refine WS fun _ R=>fV U fun g=>AL U dh fun h=>RK R<|WS fun _ S=>AL U dh fun d=>RK S<|al fun _ T=>WS fun _ AA=>rP 1 [] I ?_
 refine RK AA<|aw ?_
 have A:(0≤c.bu.length):=by exact Nat.zero_le _
 refine bO (ι:={z:Nat // (z≤c.bu.length)}) [1,2,4,5] [1,2,3] U U (fun z=>[(6,(vI (z.1:Int)))]) (fun z=>[(bZ d 38 (aa.cells (kK c at_ z.1)))]) (fun _=>rfl) (fun _=>rfl) (fun z=>c.bu.length-z.1) ⟨0,A⟩ (aQ U) (aK [1,2,3,0]) ?_
 clear A
 rintro ⟨i,X⟩ J8 D
 try dsimp only
 refine al fun _ V=>WS fun _ E=>rP 5 [] (mc 1 U I) ?_
 refine RK E<|bR U (aS fun O=>?_) (aT fun O=>?_)
 ·refine bB<|ae<|ae<|ax<|KK T<|WS fun _ J=>rP 1 [] (mc 3 U I) ?_
  refine fQ U cu U<|RK J<|ar<|H2 hQ [0] (mc 0 U I) U ?_
  rw [Dl hc (show c.bu.length≤i by omega)]
 refine WK V<|al fun _ B=>aw<|WS fun _ F=>rP 3 [] (mc 1 U I) ?_
 obtain ⟨x,hx⟩:=aN c.bu i om
 have Z:=bP cG.cells hx
 refine rS (IA i U (aF 2 U) qg dc om om)<|rS (oB i 0 (cG.cells x) U cq (aF 2 U) Z U dc U U)<|AL U rr fun a=>fQ U te U<|RK F<|WS fun _ G=>rP 2 [] (mc 2 U I) ?_
 have Y:=hc.ur hx
 have f:0≤o5 (c.dk*max (at_-x.At) (x.At-at_)) 1000000∧o5 (c.dk*max (at_-x.At) (x.At-at_)) 1000000≤90001:=uE W ha Y.1
 refine fE 8 [] (mc 0 U I) U<|rS (MX U)<|rS (CL (xB c.dk (max (at_-x.At) (x.At-at_)) om om) (aL) U)<|bg 1 U<|RK G<|WS fun _ H=>fE 10 [] (mc 0 U I) U<|rS (SX (bj (xs:=[(0,.tmp 38),(1,.tmp 43)]) (cs:=(aa.cells (aa.mk (x.eB.Lo-(o5 (c.dk*(max (at_-x.At) (x.At-at_))) 1000000)) (x.eB.Hi+(o5 (c.dk*(max (at_-x.At) (x.At-at_))) 1000000))))) U U (bh gu U)) U U)<|AL U dh fun b=>fQ U cu U<|RK H<|al fun _ C=>WS fun _ AB=>rP 2 [] I ?_
 refine RK AB<|bR U (aS fun P=>?_) (aT fun P=>?_)
 ·refine WK C<|an<|fE 4 [0,1] (mc 5 U (mc 0 U I)) U<|rS (MX U)<|rP 4 [0,1] (mc 5 U (mc 0 U I)) ?_
  refine rS (MN U)<|rS (SX (bj (xs:=[(0,.tmp 52),(1,.tmp 57)]) (cs:=(aa.cells (aa.mk (max ((kK c at_ i).Lo) (x.eB.Lo-(o5 (c.dk*(max (at_-x.At) (x.At-at_))) 1000000))) (min ((kK c at_ i).Hi) (x.eB.Hi+(o5 (c.dk*(max (at_-x.At) (x.At-at_))) 1000000)))))) U U (bh gu U)) U U)<|H0 U cu U<|aH<|aD<|KK B ?_
  have M:(aa.cells (aa.mk (max ((kK c at_ i).Lo) (x.eB.Lo-(o5 (c.dk*(max (at_-x.At) (x.At-at_))) 1000000))) (min ((kK c at_ i).Hi) (x.eB.Hi+(o5 (c.dk*(max (at_-x.At) (x.At-at_))) 1000000)))))=(aa.cells (kK c at_ (i+1))):=by exact congrArg aa.cells (BQ hx om).symm
  rw [M]
  refine an<|rP 3 [] I ?_
  refine aH ?_
  have N:(vI (((i+1):Nat):Int))=(vI ((i:Int)+1)):=by exact cI om
  refine aR (D ⟨(i+1),(by first|omega|(simp only []; omega))⟩ _ _ _ U os (cN 4<|bk U N<|dx.nil _) (aK [2,3,4,5]))
 refine an<|fE 1 [] (mc 0 U I) U<|H0 U cu U<|RK C<|an<|fE 4 [0,1] (mc 5 U (mc 0 U I)) U<|rS (MX U)<|rP 4 [0,1] (mc 5 U (mc 0 U I)) ?_
 refine rS (MN U)<|rS (SX (bj (xs:=[(0,.tmp 52),(1,.tmp 57)]) (cs:=(aa.cells (aa.mk (max (x.eB.Lo-(o5 (c.dk*(max (at_-x.At) (x.At-at_))) 1000000)) (x.eB.Lo-(o5 (c.dk*(max (at_-x.At) (x.At-at_))) 1000000))) (min (x.eB.Hi+(o5 (c.dk*(max (at_-x.At) (x.At-at_))) 1000000)) (x.eB.Hi+(o5 (c.dk*(max (at_-x.At) (x.At-at_))) 1000000)))))) U U (bh gu U)) U U)<|H0 U cu U<|aH<|aD<|KK B ?_
 have K:(aa.cells (aa.mk (max (x.eB.Lo-(o5 (c.dk*(max (at_-x.At) (x.At-at_))) 1000000)) (x.eB.Lo-(o5 (c.dk*(max (at_-x.At) (x.At-at_))) 1000000))) (min (x.eB.Hi+(o5 (c.dk*(max (at_-x.At) (x.At-at_))) 1000000)) (x.eB.Hi+(o5 (c.dk*(max (at_-x.At) (x.At-at_))) 1000000)))))=(aa.cells (kK c at_ (i+1))):=by exact congrArg aa.cells (AJ hc ha hx om).symm
 rw [K]
 refine an<|rP 3 [] I ?_
 refine aH ?_
 have L:(vI (((i+1):Nat):Int))=(vI ((i:Int)+1)):=by exact cI om
 refine aR (D ⟨(i+1),(by first|omega|(simp only []; omega))⟩ _ _ _ U os (cN 4<|bk U L<|dx.nil _) (aK [2,3,4,5]))
theorem JU (l:bf) (kA:OA) (kC:Nat) (az:List RA) (cA:OA) (cC:Nat) (bA:OA) (bC:Nat) (n:Int) (hin:eE l az) (htr:cV l.aJ=true) (hbk: ∀ b∈l.ag,jU l b) (hn:0≤n∧n<(l.ag.length:Int)):
 ej Tryz.prog 135 [(vA (bK.cells (lp l kA kC cA cC bA bC))),(vI n)] [(rd kA l.aJ.length 9 (l.aJ.map ao.cells)),(rd cA l.ai.length 2 (List.zipWith au.cells l.ai az)),(e7 (aU au.gX l.ai az)),(rd bA l.ag.length 4 (l.ag.map bE.cells))] (vI (lV l n.toNat)):=by
 have AA:=hin.sD
 have S:=hin.sG
 have P:=hin.oi
 have R:=hin.sE
 have T:=hin.side
 refine bH kr Tryz.func135 U U fun X Q hQ hN=>?_
 try dsimp only
 refine WS fun _ G=>fV U fun V=>bg 1 U<|RK G<|al fun _ H=>WS fun _ AB=>rP 2 [] I ?_
 refine RK AB<|cM U (aT fun F=>?_) (aS fun F=>?_)
 ·refine al fun _ J=>dR cD [11,12] [] [] [0,1,2,3,4] [] U U U U U<|eS U (FA 0 U fD U)<|eS U (LP (aZ.cells (aZ.mk (aM.mk kA l.aJ.length kC))) 0 U cq U U U)<|eS U (FA 3 U fD U)<|eS U (L1 (vS bA l.ag.length bC) 0 U cq U U) ?_
  obtain ⟨y,hy⟩:=aN l.ag 0 om
  have A:=bP bE.cells hy
  refine eS U (IA 0 U (aF 4 U) vx dc U om)<|eS U (nM (0*4) U (aF 4 U) (Nat.mul_pos om dc) fD U)<|eS U (oB 0 0 (cJ.cells y.mE) U cq (aF 4 U) A U dc U U)<|eS U (CL (S4 l.aJ kA kC y.mE asm asm) (bp [1]) U)<|eS U (MV U)<|eS U (EX U)<|eS U (EX U)<|eS U (AG U)<|e8 U<|cp U fun T6 L=>AL U dh fun W=>aH (L _ _ (aK [1,2,3,4,5]) ?_)
  refine cp U fun T8 M=>fQ U cu U<|aH (M _ _ (aK [1,2,3,4,5]) ?_)
  refine fO U<|KK J<|WS fun _ K=>rP 3 [] (mc 0 U I) ?_
  refine RK K<|ar<|Q1 hQ U U U ?_
  (refine congrArg (Value.int .i64) ?_; rw [show n.toNat=0 by omega]; rw [za hy,(wV htr (hbk _ (List.mem_of_getElem? hy)).1).2])
 refine WK H<|al fun _ B=>dR cD [19,20] [] [] [0,1,2,3,4] [] U U U U U<|eS U (FA 0 U fD U)<|eS U (LP (aZ.cells (aZ.mk (aM.mk kA l.aJ.length kC))) 0 U cq U U U)<|eS U (FA 3 U fD U)<|eS U (L1 (vS bA l.ag.length bC) 0 U cq U U)<|eS U (MV U)<|eS U (BI U (rz ⟨om,om⟩)) ?_
 obtain ⟨y,hy⟩:=aN l.ag (((n-1)).toNat) om
 have A:=bP bE.cells hy
 refine eS U (IA (((n-1)).toNat) U (aF 4 U) vx dc om om)<|eS U (nM ((((n-1)).toNat)*4) U (aF 4 U) (Nat.mul_pos om dc) fD U)<|eS U (oB (((n-1)).toNat) 0 (cJ.cells y.mE) U cq (aF 4 U) A U dc U U)<|eS U (FA 3 U fD U)<|eS U (L1 (vS bA l.ag.length bC) 0 U cq U U)<|eS U (MV U) ?_
 obtain ⟨x,hx⟩:=aN l.ag ((n).toNat) om
 have N:=bP bE.cells hx
 refine eS U (IA ((n).toNat) U (aF 4 U) vx dc om om)<|eS U (nM (((n).toNat)*4) U (aF 4 U) (Nat.mul_pos om dc) fD U)<|eS U (oB ((n).toNat) 0 (cJ.cells x.mE) U cq (aF 4 U) N U dc U U)<|eS U (CL (II l.aJ kA kC y.mE x.mE asm asm) (bp [1]) U)<|eS U (MV U)<|eS U (EX U)<|eS U (EX U)<|eS U (AG U)<|e8 U<|cp U fun T11 D=>AL U dh fun O=>aH (D _ _ (aK [1,2,3,4,5]) ?_)
 refine cp U fun T13 E=>fQ U cu U<|aH (E _ _ (aK [1,2,3,4,5]) ?_)
 refine fO U<|KK B<|WS fun _ C=>rP 3 [] (mc 0 U I) ?_
 refine RK C<|ar<|Q1 hQ U U U ?_
 (refine congrArg (Value.int .i64) ?_; rw [BB om hx (by rw [show n.toNat-1=(n-1).toNat by omega]; exact hy),(k8 htr ⟨(hbk _ (List.mem_of_getElem? hy)).1,(hbk _ (List.mem_of_getElem? hx)).1⟩).2])
theorem J_ (l:bf) (kA:OA) (kC:Nat) (az:List RA) (cA:OA) (cC:Nat) (bA:OA) (bC:Nat) (n:Int) (hin:eE l az) (htr:cV l.aJ=true) (hok:kY l) (hn:0≤n∧n<(l.ag.length:Int)):
 ej Tryz.prog 168 [(vA (bK.cells (lp l kA kC cA cC bA bC))),(vI n)] [(rd kA l.aJ.length 9 (l.aJ.map ao.cells)),(rd cA l.ai.length 2 (List.zipWith au.cells l.ai az)),(e7 (aU au.gX l.ai az)),(rd bA l.ag.length 4 (l.ag.map bE.cells))] (vI (eg l n.toNat)):=by
 have G:=hin.sD
 have F:=hin.sG
 have D:=hin.oi
 have E:=hin.sE
 have C:=hok.head
 unfold gn at C
 have H:=FL htr hok.vD n.toNat
 have AA:=hok.QQ n.toNat om
 refine bH kr Tryz.func168 U U fun K Q hQ hN=>?_
 try dsimp only
 refine WS fun _ A=>fV U fun J=>bg 1 U<|RK A<|al fun _ B=>dG cD 12 kr<|mI 2 [] (mc 0 U I) U<|dS (CL (JU l kA kC az cA cC bA bC n hin htr (by exact hok.vD) hn) (bp [1,2,3,4]) U)<|dS (BI U (F8 ⟨om,om⟩))<|mI 6 [] (mc 0 U I) U<|dS (BI U (sH om om om))<|dP 1 [] I ?_
 refine cO<|RK B<|ar<|Q1 hQ U U U ?_
 exact cI (by unfold eg o5; rw [Int.mul_comm])
theorem Nx (l:bf) (kA:OA) (kC:Nat) (az:List RA) (cA:OA) (cC:Nat) (bA:OA) (bC:Nat) (hin:eE l az) (htr:cV l.aJ=true):
 ej Tryz.prog 105 [(vA (bK.cells (lp l kA kC cA cC bA bC)))] [(rd kA l.aJ.length 9 (l.aJ.map ao.cells)),(rd cA l.ai.length 2 (List.zipWith au.cells l.ai az)),(e7 (aU au.gX l.ai az)),(rd bA l.ag.length 4 (l.ag.map bE.cells))] (vB (decide (kY l))):=by
 have Ae:=hin.sD
 have Aa:=hin.sG
 have AX:=hin.oi
 have AZ:=hin.sE
 have Ab:=hin.side
 have Ac:=jW htr
 have AW:=kF htr
 refine bH kr Tryz.func105 U U fun w0 Q hQ hN=>?_
 try dsimp only
 refine WS fun _ AM=>fV U fun b2=>bg 1 U<|RK AM<|al fun _ AN=>WS fun _ D=>fE 2 [] (mc 0 U I) U<|rS (CL (iF l.dM 1 5000) (aL) U)<|rP 2 [] I ?_
 refine db (t:=10) U (bx fun AC=>?_) (bw fun AC=>?_)
 ·refine bg 35 U<|RK D<|aP U<|WS fun _ AO=>rP 1 [] I ?_
  refine RK AO<|ar<|Q1 hQ U U U ?_
  exact cB (cr fun h=>by have q:=h.head; unfold gn at q; omega).symm
 refine fE 3 [] (mc 0 U I) U<|rS (CL (iF (l.ai.length:Int) 1 4) (aL) U)<|rP 3 [] I ?_
 refine db (t:=17) U (bx fun AD=>?_) (bw fun AD=>?_)
 ·refine bg 28 U<|RK D<|aP U<|WS fun _ AP=>rP 1 [] I ?_
  refine RK AP<|ar<|Q1 hQ U U U ?_
  exact cB (cr fun h=>by have q:=h.head; unfold gn at q; omega).symm
 refine fE 3 [] (mc 0 U I) U<|rS (CL (iF (l.ag.length:Int) 1 6) (aL) U)<|rP 3 [] I ?_
 refine db (t:=24) U (bx fun AE=>?_) (bw fun AE=>?_)
 ·refine bg 21 U<|RK D<|aP U<|WS fun _ AQ=>rP 1 [] I ?_
  refine RK AQ<|ar<|Q1 hQ U U U ?_
  exact cB (cr fun h=>by have q:=h.head; unfold gn at q; omega).symm
 refine fE 6 [] (mc 0 U I) U<|rS (CL (iF l.bI 0 ((l.ag.length:Int)-1)) (aL) U)<|rP 3 [] I ?_
 refine db (t:=34) U (bx fun AF=>?_) (bw fun AF=>?_)
 ·refine bg 11 U<|RK D<|aP U<|WS fun _ AR=>rP 1 [] I ?_
  refine RK AR<|ar<|Q1 hQ U U U ?_
  exact cB (cr fun h=>by have q:=h.head; unfold gn at q; omega).symm
 refine fE 2 [] (mc 0 U I) U<|rS (CL (iF l.cv 0 3) (aL) U)<|rP 3 [] I ?_
 refine db (t:=40) U (bx fun AG=>?_) (bw fun AG=>?_)
 ·refine bg 5 U<|RK D<|aP U<|WS fun _ AS=>rP 1 [] I ?_
  refine RK AS<|ar<|Q1 hQ U U U ?_
  exact cB (cr fun h=>by have q:=h.head; unfold gn at q; omega).symm
 refine fE 2 [] (mc 0 U I) U<|rS (CL (iF l.bL 0 3) (aL) U)<|rP 2 [] I ?_
 refine RK D<|cM U (bx fun AH=>?_) (bw fun AH=>?_)
 ·refine WS fun _ N=>rP 1 [] I ?_
  refine RK N<|ar<|Q1 hQ U U U ?_
  exact cB (cr fun h=>by have q:=h.head; unfold gn at q; omega).symm
 refine WK AN<|al fun _ O=>WS fun _ R=>rP 1 [] I ?_
 refine RK R<|aw ?_
 have A:(0≤l.ai.length)∧(∀ (j:Nat) y,j<0→l.ai[j]? =some y→eY y):=by exact ⟨Nat.zero_le _,fun j y hj=>absurd hj (Nat.not_lt_zero _)⟩
 refine bO (ι:={z:Nat // (z≤l.ai.length)∧(∀ (j:Nat) y,j<z→l.ai[j]? =some y→eY y)}) [1] [0,1,2,3,4] U U (fun z=>[(3,(vI (z.1:Int)))]) (fun z=>[]) (fun _=>rfl) (fun _=>rfl) (fun z=>l.ai.length-z.1) ⟨0,A⟩ (aQ U) (aK [0,1,2,3,4]) ?_
 clear A
 rintro ⟨i,⟨AT,F⟩⟩ J13 K
 try dsimp only
 refine al fun _ S=>WS fun _ T=>rP 5 [] (mc 0 U I) ?_
 refine RK T<|cM U (aT fun AI=>?_) (aS fun AI=>?_)
 ·refine WK S<|al fun _ Af=>aw<|WS fun _ V=>rP 3 [] (mc 0 U I) ?_
  obtain ⟨x,hx⟩:=aN l.ai i om
  obtain ⟨xa,J⟩:=aN az i om
  have AV:(List.zipWith au.cells l.ai az)[i]? =some (au.cells x xa):=dZ hx J
  refine rS (IA i U (aF 2 U) zM dc om om)<|rS (oB i 0 (dv.cells (dv.mk x.dk (aM.mk xa.1 x.bu.length xa.2))) U cq (aF 2 U) AV U dc U U) ?_
  have Ad:=(hin.QN _ _ _ hx J).2
  refine rS (CL (Jj x xa.1 xa.2 asm) (ay (show jc _ (rd xa.1 x.bu.length 3 (x.bu.map cG.cells)).holds from (dy 3 U (cj hx J (by simp [au.gX]))))<|aL) U)<|rP 1 [] I ?_
  refine RK V<|bR U (bw fun Ag=>?_) (bx fun Ag=>?_)
  ·refine bY<|aD<|KK Af<|an<|rP 3 [] I ?_
   refine aH ?_
   have u:(vI (((i+1):Nat):Int))=(vI ((i:Int)+1)):=by exact cI om
   refine aR (K ⟨(i+1),⟨om,lT (P:=fun _ y=>eY y) F hx Ag⟩⟩ _ _ _ U os (dx.cons U<|bk U u<|dx.nil _) (aK [0,1,2,3,4]))
  refine WS fun _ W=>rP 1 [] I ?_
  refine RK W<|ar<|Q1 hQ U U U ?_
  exact cB (cr fun h=>Ag (h.clock _ (aX hx))).symm
 refine bB<|ae<|ae<|ax<|KK O<|al fun _ X=>WS fun _ Y=>rP 1 [] I ?_
 refine RK Y<|aw ?_
 have A:(0≤l.ag.length)∧(∀ (j:Nat) y,j<0→l.ag[j]? =some y→jU l y):=by exact ⟨Nat.zero_le _,fun j y hj=>absurd hj (Nat.not_lt_zero _)⟩
 refine bO (ι:={z:Nat // (z≤l.ag.length)∧(∀ (j:Nat) y,j<z→l.ag[j]? =some y→jU l y)}) [1] [0,1,2,3,4] U U (fun z=>[(4,(vI (z.1:Int)))]) (fun z=>[]) (fun _=>rfl) (fun _=>rfl) (fun z=>l.ag.length-z.1) ⟨0,A⟩ (aQ U) (aK [0,1,2,3,4]) ?_
 clear A
 rintro ⟨m,⟨AU,B⟩⟩ J22 L
 try dsimp only
 refine al fun _ Z=>WS fun _ a=>rP 5 [] (mc 0 U I) ?_
 refine RK a<|bR U (aS fun AJ=>?_) (aT fun AJ=>?_)
 ·refine bB<|ae<|ae<|ax<|KK X<|al fun _ e=>WS fun _ f=>rP 1 [] I ?_
  refine RK f<|aw ?_
  have A:(0≤l.ag.length)∧(∀ j,j<0→1≤lV l j):=by exact ⟨Nat.zero_le _,fun j hj=>absurd hj (Nat.not_lt_zero _)⟩
  refine bO (ι:={z:Nat // (z≤l.ag.length)∧(∀ j,j<z→1≤lV l j)}) [1] [0,1,2,3,4] U U (fun z=>[(5,(vI (z.1:Int)))]) (fun z=>[]) (fun _=>rfl) (fun _=>rfl) (fun z=>l.ag.length-z.1) ⟨0,A⟩ (aQ U) (aK [0,1,2,3,4]) ?_
  clear A
  rintro ⟨n,⟨AB,C⟩⟩ J32 M
  try dsimp only
  have AY:=wO (P:=jU l) om B
  refine al fun _ g=>WS fun _ k=>rP 5 [] (mc 0 U I) ?_
  refine RK k<|bR U (aS fun AL=>?_) (aT fun AL=>?_)
  ·refine bB<|ae<|ae<|ax<|KK e<|WS fun _ s=>rP 1 [] I ?_
   refine RK s<|ar<|Q1 hQ U U U ?_
   exact cB (fM (yT (by unfold gn; omega) (wO om F) (wO om B) (fun j hj=>C j om))).symm
  refine WK g<|al fun _ o=>aw<|WS fun _ p=>fE 2 [] (mc 0 U I) U<|rS (CL (JU l kA kC az cA cC bA bC (n:Int) hin htr asm om) (bp [1,2,3,4]) U)<|rP 1 [] I ?_
  refine RK p<|bR U (aS fun E=>?_) (aT fun E=>?_)
  ·refine bY<|aD<|KK o<|an<|rP 3 [] I ?_
   refine aH ?_
   have w:(vI (((n+1):Nat):Int))=(vI ((n:Int)+1)):=by exact cI om
   refine aR (M ⟨(n+1),⟨om,fun j hj=>by rcases Nat.lt_or_ge j n with q|q; exact C j q; (obtain rfl:j=n:=by omega); simp only [Int.toNat_natCast] at E; omega⟩⟩ _ _ _ rfl os (dx.cons rfl<|bk rfl w<|dx.nil _) (aK [0,1,2,3,4]))
  refine WS fun _ r=>rP 1 [] I ?_
  refine RK r<|ar<|Q1 hQ U U U ?_
  exact cB (cr fun h=>by have q:=h.QQ n om; simp only [Int.toNat_natCast] at E; omega).symm
 refine WK Z<|al fun _ b=>aw<|al fun _ H=>dG cD 24 kr<|lB 1 U<|dS (LP (aZ.cells (aZ.mk (aM.mk kA l.aJ.length kC))) 0 U cq U U U)<|dP 3 [] (mc 0 U I) ?_
 obtain ⟨y,hy⟩:=aN l.ag m om
 have AA:=bP bE.cells hy
 refine dS (IA m U (aF 4 U) vx dc om om)<|dS (nM (m*4) U (aF 4 U) (Nat.mul_pos om dc) fD U)<|dS (oB m 0 (cJ.cells y.mE) U cq (aF 4 U) AA U dc U U)<|dS (CL (qT l.aJ kA kC y.mE asm asm) (bp [1]) U)<|dP 2 [] I ?_
 refine ja (t:=77) U (bx fun G=>?_) (bw fun G=>?_)
 ·refine lB 13 U<|cO<|RK H<|aP U<|WS fun _ c=>rP 1 [] I ?_
  refine RK c<|ar<|Q1 hQ U U U ?_
  exact cB (cr fun h=>by have q:=h.vD _ (aX hy); have q2:=q.2; first|exact G q.1|omega).symm
 refine mI 3 [] (mc 0 U I) U<|dS (IA m U (aF 4 U) vx dc om om)<|dS (nM ((m*4)+3) U (aF 4 U) (Nat.mul_pos om dc) fD U)<|dS (gF m 3 (vI y.jK) U cq (aF 4 U) AA U dc U)<|mI 4 [] (mc 0 U I) U<|dS (CL (iF y.jK 0 ((l.ai.length:Int)-1)) (aL) U)<|dP 2 [] I ?_
 refine cO<|RK H<|bR U (bw fun AK=>?_) (bx fun AK=>?_)
 ·refine bY<|aD<|KK b<|an<|rP 3 [] I ?_
  refine aH ?_
  have v:(vI (((m+1):Nat):Int))=(vI ((m:Int)+1)):=by exact cI om
  refine aR (L ⟨(m+1),⟨om,lT (P:=fun _ y=>jU l y) B hy ⟨G,om,om⟩⟩⟩ _ _ _ U os (dx.cons U<|bk U v<|dx.nil _) (aK [0,1,2,3,4]))
 refine WS fun _ d=>rP 1 [] I ?_
 refine RK d<|ar<|Q1 hQ U U U ?_
 exact cB (cr fun h=>by have q:=h.vD _ (aX hy); have q2:=q.2; first|exact G q.1|omega).symm
end
section
open Go.RowKit
theorem BE (r:cd) (kA:OA) (kC:Nat) (az:List RA) (cA:OA) (cC:Nat) (bA:OA) (bC:Nat) (slA:OA) (slC:Nat) (drA:OA) (drC:Nat) (ha:List cQ) (heA:OA) (heC:Nat) (hraw:qI r az ha):
 ej Tryz.prog 29 [(vA (bq.cells (oy r kA kC cA cC bA bC slA slC drA drC heA heC)))] [(rd kA r.ah.aJ.length 9 (r.ah.aJ.map ao.cells)),(rd cA r.ah.ai.length 2 (List.zipWith au.cells r.ah.ai az)),(e7 (aU au.gX r.ah.ai az)),(rd bA r.ah.ag.length 4 (r.ah.ag.map bE.cells)),(rd slA r.aI.length 1 (r.aI.map iC)),(rd drA r.bD.length 1 (r.bD.map iC)),(rd heA r.aq.length 1 (List.zipWith cz r.aq ha)),(e7 (aU hP r.aq ha))] (vB (decide (ot r))):=by
 have AA:=hraw.line
 have AE:=hraw.iN
 have AG:=hraw.has
 have AD:=hraw.iM
 have AB:=hraw.draw
 refine bH kr Tryz.func29 U U fun w0 Q hQ hN=>?_
 try dsimp only
 refine WS fun _ l=>fV U fun b2=>bg 1 U<|RK l<|al fun _ m=>WS fun _ H=>bg 1 U<|rS (LP (bK.cells (lp r.ah kA kC cA cC bA bC)) 0 U cq U U U)<|rS (CL (IK r.ah kA kC az cA cC bA bC asm) (bp [1,2,3,4]) U)<|rP 1 [] I ?_
 refine db (t:=8) U (aT fun k=>?_) (aS fun k=>?_)
 ·refine bg 17 U<|RK H<|aP U<|WS fun _ n=>rP 1 [] I ?_
  refine RK n<|ar<|Q1 hQ U U U ?_
  exact cB (fM (po (.inl k))).symm
 refine rP 6 [] (mc 0 U I) ?_
 refine db (t:=14) U (aT fun AJ=>?_) (aS fun AJ=>?_)
 ·refine bg 11 U<|RK H<|aP U<|WS fun _ o=>rP 1 [] I ?_
  refine RK o<|ar<|Q1 hQ U U U ?_
  exact cB (fM (po (.inr om))).symm
 refine rP 6 [] (mc 0 U I) ?_
 refine db (t:=20) U (aT fun f=>?_) (aS fun f=>?_)
 ·refine bg 5 U<|RK H<|aP U<|WS fun _ p=>rP 1 [] I ?_
  refine RK p<|ar<|Q1 hQ U U U ?_
  exact cB (fM (po (.inr om))).symm
 refine rP 5 [] (mc 0 U I) ?_
 refine RK H<|cM U (aT fun h=>?_) (aS fun h=>?_)
 ·refine WS fun _ q=>rP 1 [] I ?_
  refine RK q<|ar<|Q1 hQ U U U ?_
  exact cB (fM (po (.inr om))).symm
 refine WK m<|al fun _ s=>WS fun _ N=>rP 1 [] I ?_
 refine RK N<|aw ?_
 have B:(0≤r.aq.length)∧(lO r 0):=by exact ⟨Nat.zero_le _,B5⟩
 refine bO (ι:={z:Nat // (z≤r.aq.length)∧(lO r z)}) [1] [0,1,2,3,4,5,6,7,8] U U (fun z=>[(3,(vI (z.1:Int)))]) (fun z=>[]) (fun _=>rfl) (fun _=>rfl) (fun z=>r.aq.length-z.1) ⟨0,B⟩ (aQ U) (aK [0,1,2,3,4,5,6,7,8]) ?_
 clear B
 rintro ⟨i,⟨x,F⟩⟩ J11 L
 try dsimp only
 refine al fun _ O=>WS fun _ P=>rP 5 [] (mc 0 U I) ?_
 refine RK P<|bR U (aS fun AJ=>?_) (aT fun AJ=>?_)
 ·refine bB<|ae<|ae<|ax<|KK s<|WS fun _ b=>rP 1 [] I ?_
  refine RK b<|ar<|Q1 hQ U U U ?_
  exact cB (cr (Hs k om F om)).symm
 refine WK O<|al fun _ R=>aw<|al fun _ S=>WS fun _ T=>rP 3 [] (mc 0 U I) ?_
 obtain ⟨ht,D⟩:=aN r.aq i om
 obtain ⟨A,C⟩:=aN ha i om
 have E:(List.zipWith cz r.aq ha)[i]? =some (cz ht A):=dZ D C
 refine rS (IA i U (aF 7 U) rj dc om om)<|rS (gF i 0 (vS A.1.1 ht.length A.1.2) U cq (aF 7 U) E U dc U) ?_
 obtain ⟨AF,AC,w⟩:=hraw.oF _ _ _ D C
 refine rP 2 [] I ?_
 refine RK T<|cM U (aT fun J=>?_) (aS fun J=>?_)
 ·refine WS fun _ AI=>rP 1 [] I ?_
  refine RK AI<|ar<|Q1 hQ U U U ?_
  exact cB (fM (CZ D J)).symm
 refine WK S<|WS fun _ V=>rP 1 [] I ?_
 refine RK V<|aw ?_
 have B:(0≤ht.length)∧(mU ht 0):=by exact ⟨Nat.zero_le _,CM⟩
 refine bO (ι:={z:Nat // (z≤ht.length)∧(mU ht z)}) [1,3] [0,1,2,3,4,5,6,7,8] U U (fun z=>[(4,(vI (z.1:Int)))]) (fun z=>[]) (fun _=>rfl) (fun _=>rfl) (fun z=>ht.length-z.1) ⟨0,B⟩ (aQ U) (aK [0,1,2,3,4,5,6,7,8]) ?_
 clear B
 rintro ⟨j,⟨y,G⟩⟩ J20 M
 try dsimp only
 refine al fun _ W=>WS fun _ X=>fE 4 [] (mc 0 U I) U<|rS (IA i U (aF 7 U) rj dc om om)<|rS (gF i 0 (vS A.1.1 ht.length A.1.2) U cq (aF 7 U) E U dc U)<|rP 2 [] I ?_
 refine RK X<|bR U (aS fun g=>?_) (aT fun g=>?_)
 ·refine bB<|ae<|ae<|ax<|aD<|KK R<|an<|rP 3 [] I ?_
  refine aH ?_
  have e:(vI (((i+1):Nat):Int))=(vI ((i:Int)+1)):=by exact cI om
  refine aR (L ⟨(i+1),⟨om,CG F D (DO J G om)⟩⟩ _ _ _ U os (dx.cons U<|bk U e<|dx.nil _) (aK [0,1,2,3,4,5,6,7,8]))
 refine WK W<|al fun _ Y=>aw<|WS fun _ Z=>fE 3 [] (mc 0 U I) U<|rS (IA i U (aF 7 U) rj dc om om)<|rS (gF i 0 (vS A.1.1 ht.length A.1.2) U cq (aF 7 U) E U dc U)<|rP 1 [] I ?_
 obtain ⟨d,hd⟩:=aN ht j om
 obtain ⟨da,u⟩:=aN A.2 j om
 have v:(List.zipWith aA.cells ht A.2)[j]? =some (aA.cells d da):=dZ hd u
 refine rS (IA j U (show jc _ (rd A.1.1 ht.length 7 (List.zipWith aA.cells ht A.2)).holds from (dy 8 U (cj D C cm))) x4 dc om om)<|rS (nM ((j*7)+4) U (show jc _ (rd A.1.1 ht.length 7 (List.zipWith aA.cells ht A.2)).holds from (dy 8 U (cj D C cm))) (Nat.mul_pos om dc) fD U)<|rS (nM (((j*7)+4)+2) U (show jc _ (rd A.1.1 ht.length 7 (List.zipWith aA.cells ht A.2)).holds from (dy 8 U (cj D C cm))) (Nat.mul_pos om dc) fD U)<|rS (gF j 6 (vS da.1 d.cx.aj.length da.2) U cq (show jc _ (rd A.1.1 ht.length 7 (List.zipWith aA.cells ht A.2)).holds from (dy 8 U (cj D C cm))) v U dc U) ?_
 have AH:=w d (aX hd)
 refine rP 2 [] I ?_
 refine RK Z<|bR U (aS fun K=>?_) (aT fun K=>?_)
 ·refine bY<|aD<|KK Y<|an<|rP 3 [] I ?_
  refine aH ?_
  have c:(vI (((j+1):Nat):Int))=(vI ((j:Int)+1)):=by exact cI om
  refine aR (M ⟨(j+1),⟨om,Bm G hd K⟩⟩ _ _ _ U os (dx.cons U<|dx.cons U<|bk U c<|dx.nil _) (aK [0,1,2,3,4,5,6,7,8]))
 refine WS fun _ a=>rP 1 [] I ?_
 refine RK a<|ar<|Q1 hQ U U U ?_
 exact cB (fM (D5 D hd K)).symm
end
end Go.Proofs.YtdllkkdchkhimaaGreatDoor
