/-
 The statement raceRepaired_said, part 8 of 9: Rx1, Rx8, Rx9, Rx10, Rx11, RkS, RaS, RtS, Rx12, Rt3, Rx3, Rz1, Rz2, Rt2, Rx2, Rz3, Rz4, Rr2, Rr3, Rr4, Rr5, Rra, Ry1, Ry5, Ry9, LineOpen, RaceOpen.
 Conditions: none.
-/
import Derived.Test.YtadjgjnicdcjbaaGreatDoorTz1
import Derived.Test.YtadjgjnicdcjbaaGreatDoorTz2
import Derived.Test.YtadjgjnicdcjbaaGreatDoorTz3
import Derived.Test.YtadjgjnicdcjbaaGreatDoorTz4
import Derived.Test.YtadjgjnicdcjbaaGreatDoorTz5
import Derived.Test.YtadjgjnicdcjbaaGreatDoorTz6
import Derived.Test.YtadjgjnicdcjbaaGreatDoorTz7
namespace Go.Proofs.YtadjgjnicdcjbaaGreatDoor
set_option maxRecDepth 100000
set_option maxHeartbeats 4000000
set_option linter.unusedVariables false
section
open Go.RowKit
theorem wJ (l:List Int) (lA:OA) (lC:Nat) (hlen:l.length≤1000000):
 lx Tryz.prog 45 [(vS lA l.length lC)] [(rd lA l.length 1 (l.map iC))] (fun (x:(OA)×Nat)=>(vS x.1 l.length x.2)) (fun (x:(OA)×Nat)=>True) (fun (x:(OA)×Nat)=>[(own x.1 x.2 3 1 (l.map iC))]):=by
 refine dp kr Tryz.func45 U U fun L Q hQ hN=>?_
 try dsimp only
 refine WS fun _ D=>bo 1 U<|RK D<|aj fun _ E=>WS fun _ F=>rP 1 [] mn ?_
 refine rS (BI U (ry T_))<|RK F<|cE U (aP fun B=>?_) (aO fun B=>?_)
 ·refine WS fun _ G=>mJ (aB 0 U) B dc fun C=>?_
  have A:l=[]:=by simpa using C
  refine eg 3 1 ?_
  rw [show (own none 0 3 1 ([]:List (List Value)))=own none 0 3 1 (l.map iC) from by rw [A]; rfl]
  refine rP 1 [] mn ?_
  refine RK G<|ar ?_
  refine LX hQ (none,0) [0] [] mn U U U ?_ ?_
  ·first|rfl|(rw [A]; rfl)
  ·trivial
 refine WK E<|WS fun _ H=>lW U cN U fun J=>rP 1 [] mn ?_
 refine db (es:=(List.map iC [])) (C':=[own (some ⟨J,0,none⟩) 0 3 1 (List.map iC []),_]) 0 U sm U (by simp [maxLen]) U ?_
 refine cO (es2:=(List.map iC l)) (m':=l.length) 0 U U U pq U U sm (aB 1 U) (jP _) os (by first|(simp only [maxLen]; omega)|(simp [maxLen]; omega)) sm sm U fun AA K=>?_
 try dsimp only
 refine rP 1 [] mn ?_
 refine RK H<|ar ?_
 refine LX hQ (AA,K) [0] [] mn U U U ?_ ?_
 ·first|rfl|(rw [A]; rfl)
 ·trivial
theorem B1 (l:List Int) (lA:OA) (lC:Nat) (f:Value) (key:Int→Int) (X:aw) (hf: ∀ x0 x1,x0∈l∧x1∈l→DY Tryz.prog f [.int .i64 x0,.int .i64 x1] [X] (.int .i64 (key x0-key x1))) (hkb: ∀ x∈l,0≤key x∧key x≤30000000) (hlen:l.length≤1000000):
 DS Tryz.prog 127 [(vS lA l.length lC),(vI 0),(vI (l.length:Int)),f] [X] (own lA lC 3 1 (l.map iC)) (fun (x:Unit)=>(vT [])) (fun (x:Unit)=>True) (fun (x:Unit)=>(own lA lC 3 1 ((eN key l).map iC))):=by
 refine mZ kr Tryz.func127 U U fun s Q hQ hN=>?_
 try dsimp only
 refine WS fun _ Z=>bo 1 U<|rS (SX (cf (r:= .int .i64 1) U U U (iE ⟨dc,dc⟩)) U U)<|rP 1 [] mn ?_
 refine RK Z<|ay ?_
 have C:(1≤1∧(1≤l.length∨1=1))∧(l.length=l.length)∧(1=1∧l=[]∨tJ key l 1 l)∧(∀ x∈l,x∈l):=by exact ⟨I,rfl,ID,fun x h=>h⟩
 refine bK (ι:={z:Nat×(List Int) // (1≤z.1∧(z.1≤l.length∨z.1=1))∧(z.2.length=l.length)∧(z.1=1∧l=[]∨tJ key l z.1 z.2)∧(∀ x∈z.2,x∈l)}) [0,1,2,3] [1] U U (fun z=>[(8,(vI (z.1.1:Int)))]) (fun z=>[(own lA lC 3 1 (z.1.2.map iC))]) (fun _=>rfl) (fun _=>rfl) (fun z=>l.length-z.1.1) ⟨(1,l),C⟩ (aT U) (aI [1,0]) ?_
 clear C
 rintro ⟨⟨i,m⟩,⟨AB,E,F,G⟩⟩ J2 L
 try dsimp only at AB E F G
 try dsimp only
 refine aj fun _ b=>WS fun _ c=>rP 3 [] mn ?_
 refine RK c<|bO U (aO fun p=>?_) (aP fun p=>?_)
 ·refine bD<|ab<|ab<|aA ?_
  rw [show m=eN key l from Lp I E F]
  refine LM hN () 1 [] mn U U U U ?_
  trivial
 refine WK b<|aj fun _ N=>ay<|WS fun _ d=>rP 2 [] mn ?_
 refine RK d<|ay ?_
 have C:(i≤i)∧(m.length=l.length)∧(∀ x∈m,x∈l)∧(DD key l i i m):=by exact ⟨Nat.le_refl _,E,G,Er I (OC I F)⟩
 refine bK (ι:={z:Nat×(List Int) // (z.1≤i)∧(z.2.length=l.length)∧(∀ x∈z.2,x∈l)∧(DD key l i z.1 z.2)}) [0,1,2,3,8] [0] U U (fun z=>[(9,(vI (z.1.1:Int)))]) (fun z=>[(own lA lC 3 1 (z.1.2.map iC))]) (fun _=>rfl) (fun _=>rfl) (fun z=>z.1.1) ⟨(i,m),C⟩ (aT U) (aI [0,1]) ?_
 clear C
 rintro ⟨⟨j,q⟩,⟨J,D,A,B⟩⟩ J8 Y
 try dsimp only at J D A B
 try dsimp only
 refine aj fun _ e=>aj fun _ H=>dg cv 17 kr<|dP 4 [] mn ?_
 refine jA (t:=21) U (aO fun V=>?_) (aP fun V=>?_)
 ·refine lQ 13 U<|cM<|RK H<|bh U<|bD<|ab<|ab<|aA<|aG<|KK N<|al<|rP 3 [] mn ?_
  refine aD ?_
  refine aR (L ⟨((i+1),q),⟨I,D,.inr (by first|exact zf I B|exact zL I B hx hy I),A⟩⟩ _ _ _ U (by simp only []; omega) (aT U) (aI [0,1]))
 refine dP 3 [] mn ?_
 obtain ⟨x,hx⟩:=aH q j I
 have K:=bJ iC hx
 refine dS (IA j U (ag (n:=l.length) 1 U sq) cN dc I I) ?_
 refine dS (fX j 0 (vI x) U cb (ag (n:=q.length) 1 U sm) K U dc U)<|dP 3 [] mn ?_
 obtain ⟨y,hy⟩:=aH q (j-1) I
 have AA:=bJ iC hy
 refine dS (IA (j-1) U (ag (n:=l.length) 1 U sq) cN dc I I) ?_
 refine dS (fX (j-1) 0 (vI y) U cb (ag (n:=q.length) 1 U sm) AA U dc U)<|dS (SX (sZ U U U (hf x y ⟨A _ (aS hx),A _ (aS hy)⟩) (bk [0])) U U)<|dP 2 [] mn ?_
 refine cM<|RK H<|bO U (aO fun W=>?_) (aP fun W=>?_)
 ·refine bD<|ab<|ab<|aA<|aG<|KK N<|al<|rP 3 [] mn ?_
  refine aD ?_
  refine aR (L ⟨((i+1),q),⟨I,D,.inr (by first|exact zf I B|exact zL I B hx hy I),A⟩⟩ _ _ _ U (by simp only []; omega) (aT U) (aI [0,1]))
 refine WK e<|aj fun _ M=>ay<|dJ cv [15,16,17] [8,9,12,13,14] [] [0] [0,1] U U U U U<|eS U (MV U)<|eS U (MV U)<|eS U (MV U)<|eS U (MV U)<|eS U (BI U (sJ ⟨I,I⟩))<|eS U (MV U)<|eS U (MV U)<|eS U (BI U (sJ ⟨I,I⟩)) ?_
 refine fS U (IA (j-1) U (ag (n:=l.length) 1 U sq) cN dc I I) ?_
 refine fS U (fX (j-1) 0 (vI y) U cb (ag (n:=q.length) 1 U sm) AA U dc U)<|eS U (MV U)<|eS U (MV U) ?_
 refine fS U (IA j U (ag (n:=l.length) 1 U sq) cN dc I I) ?_
 refine fS U (fX j 0 (vI x) U cb (ag (n:=q.length) 1 U sm) K U dc U) ?_
 refine fS U (IA j U (ag (n:=l.length) 1 U sq) cN dc I I) ?_
 refine eT U<|cp U fun T14 O=>dI (k:=j) (o:=0) (vs:=[(vI y)]) (es':=(List.map iC (q.set j y))) (C':=[_,(own lA lC 3 1 (List.map iC (q.set j y)))]) 1 U U U DM U U U U K U dc (by exact (List.map_set (f:=iC) (l:=q) (i:=j) (a:=y)).symm) U<|aD (O _ _ (aI [0]) ?_)
 refine cp U fun T15 P=>?_
 obtain ⟨g,T⟩:=aH (q.set j y) (j-1) os
 have hx17m:(List.map iC (q.set j y))[(j-1)]? =some (iC g):=by rw [fP,T]; rfl
 refine rS (IA (j-1) U (ag (n:=l.length) 1 U sq) cN dc I I) ?_
 refine aD (P _ _ (aI [0]) ?_)
 refine cp U fun T18 R=>dI (k:=(j-1)) (o:=0) (vs:=[(vI x)]) (es':=(List.map iC ((q.set j y).set (j-1) x))) (C':=[_,(own lA lC 3 1 (List.map iC ((q.set j y).set (j-1) x)))]) 1 U U U DM U U U U hx17m U dc (by exact (List.map_set (f:=iC) (l:=(q.set j y)) (i:=(j-1)) (a:=x)).symm) U<|aD (R _ _ (aI [0]) ?_)
 refine fO U<|aG<|KK M<|al<|rP 3 [] mn ?_
 refine aD ?_
 have S:(vI (((j-1):Nat):Int))=(vI ((j:Int)-1)):=by exact cI I
 refine aR (Y ⟨((j-1),((q.set j y).set (j-1) x)),⟨I,by simp; exact D,Mg hx hy A,HO I B hx hy I⟩⟩ _ _ _ U (by simp only []; omega) (cR 5<|aY U S<|dj.nil _) (aI [0,1]))
theorem K_ (l:List Int) (lA:OA) (lC:Nat) (f:Value) (key:Int→Int) (X:aw) (hf: ∀ x0 x1,x0∈l∧x1∈l→DY Tryz.prog f [.int .i64 x0,.int .i64 x1] [X] (.int .i64 (key x0-key x1))) (hkb: ∀ x∈l,0≤key x∧key x≤30000000) (hlen:l.length≤12):
 DS Tryz.prog 98 [(vS lA l.length lC),(vI (l.length:Int)),f] [X] (own lA lC 3 1 (l.map iC)) (fun (x:Unit)=>(vT [])) (fun (x:Unit)=>True) (fun (x:Unit)=>(own lA lC 3 1 ((eN key l).map iC))):=by
 refine mZ kr Tryz.func98 U U fun N Q hQ hN=>?_
 try dsimp only
 refine WS fun _ C=>bo 1 U<|RK C<|WS fun _ D=>bo 3 U<|RK D<|aj fun _ E=>ay<|j2 1<|eJ fun R4 M=>aj fun _ L=>WS fun _ F=>rP 3 [] mn ?_
 refine RK F<|cE U (aP fun K=>?_) (aO fun K=>?_)
 ·exfalso; omega
 refine bD<|ab<|ab<|aA<|KK E<|WS fun _ G=>rP 4 [] mn ?_
 refine je 0 U U U U (B1 l lA lC f key X (by exact hf) hkb sd) U (eA 1 U U (dV (bU _)) kG) U (fun O J=>?_)
 try dsimp only
 refine RK G<|ay<|j2 1<|eJ fun R11 AA=>aj fun _ H=>WS fun _ A=>rP 3 [] mn ?_
 refine RK A<|cE U (aP fun B=>?_) (aO fun B=>?_)
 ·exfalso; omega
 refine bD<|ab<|ab<|aA<|LM hN () 0 [] mn U U U U ?_
 trivial
theorem Bl (l:List Int) (lA:OA) (lC:Nat) (f:Value) (key:Int→Int) (X:aw) (hf: ∀ x0 x1,x0∈l∧x1∈l→DY Tryz.prog f [.int .i64 x0,.int .i64 x1] [X] (.int .i64 (key x0-key x1))) (hkb: ∀ x∈l,0≤key x∧key x≤30000000) (hlen:l.length≤12):
 DS Tryz.prog 73 [(vS lA l.length lC),f] [X] (own lA lC 3 1 (l.map iC)) (fun (x:Unit)=>(vT [])) (fun (x:Unit)=>True) (fun (x:Unit)=>(own lA lC 3 1 ((eN key l).map iC))):=by
 refine mZ kr Tryz.func73 U U fun B Q hQ hN=>?_
 try dsimp only
 refine al<|rP 4 [] mn ?_
 refine je 0 U U U U (K_ l lA lC f key X (by exact hf) hkb hlen) U (eA 1 U U (dV (bU _)) kG) U (fun C A=>?_)
 try dsimp only
 refine aD<|LM hN () 0 [] mn U U U U ?_
 trivial
theorem Ag (l:List Int) (lA:OA) (lC:Nat) (f:Value) (key:Int→Int) (X:aw) (hf: ∀ x0 x1,x0∈l∧x1∈l→DY Tryz.prog f [.int .i64 x0,.int .i64 x1] [X] (.int .i64 (key x0-key x1))) (hkb: ∀ x∈l,0≤key x∧key x≤30000000) (hlen:l.length≤12):
 lx Tryz.prog 47 [(vS lA l.length lC),f] [(rd lA l.length 1 (l.map iC)),X] (fun (x:(OA)×Nat)=>(vS x.1 ((eN key l).length) x.2)) (fun (x:(OA)×Nat)=>True) (fun (x:(OA)×Nat)=>[(own x.1 x.2 3 1 ((eN key l).map iC))]):=by
 refine dp kr Tryz.func47 U U fun J Q hQ hN=>?_
 try dsimp only
 refine WS fun _ B=>bo 1 U<|RK B<|WS fun _ C=>rP 1 [] mn ?_
 refine cX (wJ l lA lC sd) (bk [0]) U fun AA G=>?_
 obtain ⟨E,F⟩:=AA
 try dsimp only
 refine bo 1 U<|RK C<|WS fun _ D=>rP 2 [] mn ?_
 refine je 0 U U U U (Bl l E F f key X (by exact hf) hkb hlen) U (eA 2 U U (dV (bU _)) kG) U (fun K H=>?_)
 try dsimp only
 refine RK D<|WS fun _ A=>rP 2 [] mn ?_
 refine RK A<|ar ?_
 refine LX hQ (E,F) [0] [] mn U U U ?_ ?_
 ·first|rfl|(rw [kK]; rfl)
 ·trivial
theorem II (l:List Int) (lA:OA) (lC k:Nat) (hk:k≤l.length) (hlen:l.length≤1000000):
 DS Tryz.prog 49 [(vS lA k lC)] [] (own lA lC 3 1 (l.map iC)) (fun (x:Unit)=>(vT [])) (fun (x:Unit)=>True) (fun (x:Unit)=>(own lA lC 3 1 ((sQ k l).map iC))):=by
 refine mZ kr Tryz.func49 U U fun V Q hQ hN=>?_
 try dsimp only
 refine WS fun _ J=>rP 5 [] mn ?_
 refine RK J<|ay ?_
 have B:(0≤k)∧(He l k 0 l):=by exact ⟨Nat.zero_le _,MW⟩
 have P:(vI ((k:Int)-1-(0:Int)))=(vI ((k:Int)-1)):=by exact cI I
 refine bK (ι:={z:Nat×(List Int) // (z.1≤k)∧(He l k z.1 z.2)}) [0] [] U U (fun z=>[(2,(vI (z.1.1:Int))),(3,(vI ((k:Int)-1-(z.1.1:Int))))]) (fun z=>[(own lA lC 3 1 (z.1.2.map iC))]) (fun _=>rfl) (fun _=>rfl) (fun z=>k-z.1.1) ⟨(0,l),B⟩ (dj.cons U<|aY U P<|dj.nil _) (aI [0]) ?_
 clear B
 rintro ⟨⟨i,m⟩,⟨C,A⟩⟩ J3 AB
 try dsimp only at C A
 try dsimp only
 have AA:=A.1
 refine aj fun _ K=>WS fun _ L=>rP 3 [] mn ?_
 refine RK L<|bO U (aO fun T=>?_) (aP fun T=>?_)
 ·refine bD<|ab<|ab<|aA ?_
  rw [show m=sQ k l from Nf hk I A]
  refine LM hN () 0 [] mn U U U U ?_
  trivial
 refine WK K<|aj fun _ M=>ay<|dJ cv [13,14,15] [6,7,10,11,12] [] [] [0] U U U U U<|eS U (MV U)<|eS U (MV U)<|eS U (MV U)<|eS U (MV U)<|eS U (MV U)<|eS U (MV U) ?_
 obtain ⟨y,hy⟩:=aH m ((((k:Int)-1-(i:Int))).toNat) I
 have R:=bJ iC hy
 refine fS U (Tf ((((k:Int)-1-(i:Int))).toNat) U (ag (n:=m.length) 0 U sm) cN dc I I I)<|fS U (fX ((((k:Int)-1-(i:Int))).toNat) 0 (vI y) U cb (ag (n:=m.length) 0 U sm) R U dc U)<|eS U (MV U)<|eS U (MV U) ?_
 obtain ⟨x,hx⟩:=aH m i I
 have H:=bJ iC hx
 refine fS U (Tf i U (ag (n:=m.length) 0 U sm) cN dc I I I)<|fS U (fX i 0 (vI x) U cb (ag (n:=m.length) 0 U sm) H U dc U)<|fS U (Tf i U (ag (n:=m.length) 0 U sm) cN dc I I I)<|eT U<|cp U fun T8 N=>dI (k:=i) (o:=0) (vs:=[(vI y)]) (es':=(List.map iC (m.set i y))) (C':=[(own lA lC 3 1 (List.map iC (m.set i y)))]) 0 U U U DM U U U U H U dc (by exact (List.map_set (f:=iC) (l:=m) (i:=i) (a:=y)).symm) U<|aD (N _ _ (aI []) ?_)
 refine cp U fun T9 O=>?_
 obtain ⟨S,G⟩:=aH (m.set i y) ((((k:Int)-1-(i:Int))).toNat) os
 have hx11m:(List.map iC (m.set i y))[(((k:Int)-1-(i:Int))).toNat]? =some (iC S):=by rw [fP,G]; rfl
 refine rS (Tf ((((k:Int)-1-(i:Int))).toNat) U (ag (n:=(m.set i y).length) 0 U sm) cN dc I I (by simp; omega)) ?_
 refine aD (O _ _ (aI []) ?_)
 refine cp U fun T12 D=>dI (k:=(((k:Int)-1-(i:Int))).toNat) (o:=0) (vs:=[(vI x)]) (es':=(List.map iC ((m.set i y).set ((((k:Int)-1-(i:Int))).toNat) x))) (C':=[(own lA lC 3 1 (List.map iC ((m.set i y).set ((((k:Int)-1-(i:Int))).toNat) x)))]) 0 U U U DM U U U U hx11m U dc (by exact (List.map_set (f:=iC) (l:=(m.set i y)) (i:=(((k:Int)-1-(i:Int))).toNat) (a:=x)).symm) U<|aD (D _ _ (aI []) ?_)
 refine fO U<|aG<|KK M<|al<|rP 6 [] mn ?_
 refine aD ?_
 have E:(vI (((i+1):Nat):Int))=(vI ((i:Int)+1)):=by exact cI I
 have F:(vI ((k:Int)-1-(((i+1):Nat):Int)))=(vI (((k:Int)-1-(i:Int))-1)):=by exact cI I
 refine aR (AB ⟨((i+1),((m.set i y).set ((((k:Int)-1-(i:Int))).toNat) x)),⟨I,JG hk I I A hx hy⟩⟩ _ _ _ U os (dj.cons U<|aY U E<|aY U F<|dj.nil _) (aI [0]))
end
section
open Go.RowKit
theorem I6 (l:List ak) (lA:OA) (lC:Nat) (hlen:l.length≤1000000):
 lx Tryz.prog 87 [(vS lA l.length lC)] [(rd lA l.length 9 (l.map ak.cells))] (fun (x:(OA)×Nat)=>(vS x.1 l.length x.2)) (fun (x:(OA)×Nat)=>True) (fun (x:(OA)×Nat)=>[(own x.1 x.2 114 9 (l.map ak.cells))]):=by
 refine dp kr Tryz.func87 U U fun L Q hQ hN=>?_
 try dsimp only
 refine WS fun _ D=>bo 1 U<|RK D<|aj fun _ E=>WS fun _ F=>rP 1 [] mn ?_
 refine rS (BI U (ry Qa))<|RK F<|cE U (aP fun B=>?_) (aO fun B=>?_)
 ·refine WS fun _ G=>mJ (aB 0 U) B dc fun C=>?_
  have A:l=[]:=by simpa using C
  refine eg 114 9 ?_
  rw [show (own none 0 114 9 ([]:List (List Value)))=own none 0 114 9 (l.map ak.cells) from by rw [A]; rfl]
  refine rP 1 [] mn ?_
  refine RK G<|ar ?_
  refine LX hQ (none,0) [0] [] mn U U U ?_ ?_
  ·first|rfl|(rw [A]; rfl)
  ·trivial
 refine WK E<|WS fun _ H=>lW U uU U fun J=>rP 1 [] mn ?_
 refine db (es:=(List.map ak.cells [])) (C':=[own (some ⟨J,0,none⟩) 0 114 9 (List.map ak.cells []),_]) 0 U sm U (by simp [maxLen]) U ?_
 refine cO (es2:=(List.map ak.cells l)) (m':=l.length) 0 U U U Uj U U sm (aB 1 U) (nS _) os (by first|(simp only [maxLen]; omega)|(simp [maxLen]; omega)) sm sm U fun AA K=>?_
 try dsimp only
 refine rP 1 [] mn ?_
 refine RK H<|ar ?_
 refine LX hQ (AA,K) [0] [] mn U U U ?_ ?_
 ·first|rfl|(rw [A]; rfl)
 ·trivial
theorem Lu (l:List bG) (lA:OA) (lC:Nat) (hlen:l.length≤1000000):
 lx Tryz.prog 89 [(vS lA l.length lC)] [(rd lA l.length 4 (l.map bG.cells))] (fun (x:(OA)×Nat)=>(vS x.1 l.length x.2)) (fun (x:(OA)×Nat)=>True) (fun (x:(OA)×Nat)=>[(own x.1 x.2 121 4 (l.map bG.cells))]):=by
 refine dp kr Tryz.func89 U U fun L Q hQ hN=>?_
 try dsimp only
 refine WS fun _ D=>bo 1 U<|RK D<|aj fun _ E=>WS fun _ F=>rP 1 [] mn ?_
 refine rS (BI U (ry Rj))<|RK F<|cE U (aP fun B=>?_) (aO fun B=>?_)
 ·refine WS fun _ G=>mJ (aB 0 U) B dc fun C=>?_
  have A:l=[]:=by simpa using C
  refine eg 121 4 ?_
  rw [show (own none 0 121 4 ([]:List (List Value)))=own none 0 121 4 (l.map bG.cells) from by rw [A]; rfl]
  refine rP 1 [] mn ?_
  refine RK G<|ar ?_
  refine LX hQ (none,0) [0] [] mn U U U ?_ ?_
  ·first|rfl|(rw [A]; rfl)
  ·trivial
 refine WK E<|WS fun _ H=>lW U th U fun J=>rP 1 [] mn ?_
 refine db (es:=(List.map bG.cells [])) (C':=[own (some ⟨J,0,none⟩) 0 121 4 (List.map bG.cells []),_]) 0 U sm U (by simp [maxLen]) U ?_
 refine cO (es2:=(List.map bG.cells l)) (m':=l.length) 0 U U U SP U U sm (aB 1 U) (qv _) os (by first|(simp only [maxLen]; omega)|(simp [maxLen]; omega)) sm sm U fun AA K=>?_
 try dsimp only
 refine rP 1 [] mn ?_
 refine RK H<|ar ?_
 refine LX hQ (AA,K) [0] [] mn U U U ?_ ?_
 ·first|rfl|(rw [A]; rfl)
 ·trivial
theorem IS (l:List cd) (lA:OA) (lC:Nat) (hlen:l.length≤1000000):
 lx Tryz.prog 90 [(vS lA l.length lC)] [(rd lA l.length 3 (l.map cd.cells))] (fun (x:(OA)×Nat)=>(vS x.1 l.length x.2)) (fun (x:(OA)×Nat)=>True) (fun (x:(OA)×Nat)=>[(own x.1 x.2 116 3 (l.map cd.cells))]):=by
 refine dp kr Tryz.func90 U U fun L Q hQ hN=>?_
 try dsimp only
 refine WS fun _ D=>bo 1 U<|RK D<|aj fun _ E=>WS fun _ F=>rP 1 [] mn ?_
 refine rS (BI U (ry PN))<|RK F<|cE U (aP fun B=>?_) (aO fun B=>?_)
 ·refine WS fun _ G=>mJ (aB 0 U) B dc fun C=>?_
  have A:l=[]:=by simpa using C
  refine eg 116 3 ?_
  rw [show (own none 0 116 3 ([]:List (List Value)))=own none 0 116 3 (l.map cd.cells) from by rw [A]; rfl]
  refine rP 1 [] mn ?_
  refine RK G<|ar ?_
  refine LX hQ (none,0) [0] [] mn U U U ?_ ?_
  ·first|rfl|(rw [A]; rfl)
  ·trivial
 refine WK E<|WS fun _ H=>lW U m8 U fun J=>rP 1 [] mn ?_
 refine db (es:=(List.map cd.cells [])) (C':=[own (some ⟨J,0,none⟩) 0 116 3 (List.map cd.cells []),_]) 0 U sm U (by simp [maxLen]) U ?_
 refine cO (es2:=(List.map cd.cells l)) (m':=l.length) 0 U U U Ps U U sm (aB 1 U) (qq _) os (by first|(simp only [maxLen]; omega)|(simp [maxLen]; omega)) sm sm U fun AA K=>?_
 try dsimp only
 refine rP 1 [] mn ?_
 refine RK H<|ar ?_
 refine LX hQ (AA,K) [0] [] mn U U U ?_ ?_
 ·first|rfl|(rw [A]; rfl)
 ·trivial
theorem Ky (l:List aJ) (lA:OA) (lC:Nat) (hlen:l.length≤1000000):
 lx Tryz.prog 93 [(vS lA l.length lC)] [(rd lA l.length 2 (l.map aJ.cells))] (fun (x:(OA)×Nat)=>(vS x.1 l.length x.2)) (fun (x:(OA)×Nat)=>True) (fun (x:(OA)×Nat)=>[(own x.1 x.2 123 2 (l.map aJ.cells))]):=by
 refine dp kr Tryz.func93 U U fun L Q hQ hN=>?_
 try dsimp only
 refine WS fun _ D=>bo 1 U<|RK D<|aj fun _ E=>WS fun _ F=>rP 1 [] mn ?_
 refine rS (BI U (ry Ud))<|RK F<|cE U (aP fun B=>?_) (aO fun B=>?_)
 ·refine WS fun _ G=>mJ (aB 0 U) B dc fun C=>?_
  have A:l=[]:=by simpa using C
  refine eg 123 2 ?_
  rw [show (own none 0 123 2 ([]:List (List Value)))=own none 0 123 2 (l.map aJ.cells) from by rw [A]; rfl]
  refine rP 1 [] mn ?_
  refine RK G<|ar ?_
  refine LX hQ (none,0) [0] [] mn U U U ?_ ?_
  ·first|rfl|(rw [A]; rfl)
  ·trivial
 refine WK E<|WS fun _ H=>lW U wv U fun J=>rP 1 [] mn ?_
 refine db (es:=(List.map aJ.cells [])) (C':=[own (some ⟨J,0,none⟩) 0 123 2 (List.map aJ.cells []),_]) 0 U sm U (by simp [maxLen]) U ?_
 refine cO (es2:=(List.map aJ.cells l)) (m':=l.length) 0 U U U Sg U U sm (aB 1 U) (oS _) os (by first|(simp only [maxLen]; omega)|(simp [maxLen]; omega)) sm sm U fun AA K=>?_
 try dsimp only
 refine rP 1 [] mn ?_
 refine RK H<|ar ?_
 refine LX hQ (AA,K) [0] [] mn U U U ?_ ?_
 ·first|rfl|(rw [A]; rfl)
 ·trivial
theorem Jv (es:List (List Value)) (lA:OA) (n lC:Nat) (hlen:n≤1000000) (hes:es.length=n) (hone: ∀ v∈es.flatten,v.oneCell'=true):
 lx Tryz.prog 88 [(vS lA n lC)] [(rd lA n 2 es)] (fun (x:(OA)×Nat)=>(vS x.1 n x.2)) (fun (x:(OA)×Nat)=>True) (fun (x:(OA)×Nat)=>[(own x.1 x.2 119 2 es)]):=by
 refine dp kr Tryz.func88 U U fun L Q hQ hN=>?_
 try dsimp only
 refine WS fun _ D=>bo 1 U<|RK D<|aj fun _ E=>WS fun _ F=>rP 1 [] mn ?_
 refine rS (BI U (ry TA))<|RK F<|cE U (aP fun B=>?_) (aO fun B=>?_)
 ·refine WS fun _ G=>mJ (aB 0 U) B dc fun C=>?_
  have A:es=[]:=C
  refine eg 119 2 ?_
  rw [show (own none 0 119 2 ([]:List (List Value)))=own none 0 119 2 es from by rw [A]]
  refine rP 1 [] mn ?_
  refine RK G<|ar ?_
  refine LX hQ (none,0) [0] [] mn U U U ?_ ?_
  ·first|rfl|(rw [hes]; rfl)|(rw [← hes,A]; rfl)
  ·trivial
 refine WK E<|WS fun _ H=>lW U uB U fun J=>rP 1 [] mn ?_
 refine db (es:=(List.map dh.cells [])) (C':=[own (some ⟨J,0,none⟩) 0 119 2 (List.map dh.cells []),_]) 0 U sm U (by simp [maxLen]) U ?_
 refine cO (es2:=es) (m':=es.length) 0 U U U Se U U sm (aB 1 U) hone (by simp; omega) (by simp [maxLen]; omega) sm U U fun AA K=>?_
 try dsimp only
 refine rP 1 [] mn ?_
 refine RK H<|ar ?_
 refine LX hQ (AA,K) [0] [] mn U U U ?_ ?_
 ·first|rfl|(rw [hes]; rfl)|(rw [← hes,A]; rfl)
 ·trivial
theorem Ls (es:List (List Value)) (lA:OA) (n lC:Nat) (hlen:n≤1000000) (hes:es.length=n) (hone: ∀ v∈es.flatten,v.oneCell'=true):
 lx Tryz.prog 92 [(vS lA n lC)] [(rd lA n 7 es)] (fun (x:(OA)×Nat)=>(vS x.1 n x.2)) (fun (x:(OA)×Nat)=>True) (fun (x:(OA)×Nat)=>[(own x.1 x.2 45 7 es)]):=by
 refine dp kr Tryz.func92 U U fun L Q hQ hN=>?_
 try dsimp only
 refine WS fun _ D=>bo 1 U<|RK D<|aj fun _ E=>WS fun _ F=>rP 1 [] mn ?_
 refine rS (BI U (ry Sm))<|RK F<|cE U (aP fun B=>?_) (aO fun B=>?_)
 ·refine WS fun _ G=>mJ (aB 0 U) B dc fun C=>?_
  have A:es=[]:=C
  refine eg 45 7 ?_
  rw [show (own none 0 45 7 ([]:List (List Value)))=own none 0 45 7 es from by rw [A]]
  refine rP 1 [] mn ?_
  refine RK G<|ar ?_
  refine LX hQ (none,0) [0] [] mn U U U ?_ ?_
  ·first|rfl|(rw [hes]; rfl)|(rw [← hes,A]; rfl)
  ·trivial
 refine WK E<|WS fun _ H=>lW U pN U fun J=>rP 1 [] mn ?_
 refine db (es:=(List.map bg.cells [])) (C':=[own (some ⟨J,0,none⟩) 0 45 7 (List.map bg.cells []),_]) 0 U sm U (by simp [maxLen]) U ?_
 refine cO (es2:=es) (m':=es.length) 0 U U U S7 U U sm (aB 1 U) hone (by simp; omega) (by simp [maxLen]; omega) sm U U fun AA K=>?_
 try dsimp only
 refine rP 1 [] mn ?_
 refine RK H<|ar ?_
 refine LX hQ (AA,K) [0] [] mn U U U ?_ ?_
 ·first|rfl|(rw [hes]; rfl)|(rw [← hes,A]; rfl)
 ·trivial
theorem KH (es:List (List Value)) (lA:OA) (n lC:Nat) (hlen:n≤1000000) (hes:es.length=n) (hone: ∀ v∈es.flatten,v.oneCell'=true):
 lx Tryz.prog 91 [(vS lA n lC)] [(rd lA n 1 es)] (fun (x:(OA)×Nat)=>(vS x.1 n x.2)) (fun (x:(OA)×Nat)=>True) (fun (x:(OA)×Nat)=>[(own x.1 x.2 46 1 es)]):=by
 refine dp kr Tryz.func91 U U fun L Q hQ hN=>?_
 try dsimp only
 refine WS fun _ D=>bo 1 U<|RK D<|aj fun _ E=>WS fun _ F=>rP 1 [] mn ?_
 refine rS (BI U (ry RW))<|RK F<|cE U (aP fun B=>?_) (aO fun B=>?_)
 ·refine WS fun _ G=>mJ (aB 0 U) B dc fun C=>?_
  have A:es=[]:=C
  refine eg 46 1 ?_
  rw [show (own none 0 46 1 ([]:List (List Value)))=own none 0 46 1 es from by rw [A]]
  refine rP 1 [] mn ?_
  refine RK G<|ar ?_
  refine LX hQ (none,0) [0] [] mn U U U ?_ ?_
  ·first|rfl|(rw [hes]; rfl)|(rw [← hes,A]; rfl)
  ·trivial
 refine WK E<|WS fun _ H=>lW U lu U fun J=>rP 1 [] mn ?_
 refine db (es:=(List.map sC [])) (C':=[own (some ⟨J,0,none⟩) 0 46 1 (List.map sC []),_]) 0 U sm U (by simp [maxLen]) U ?_
 refine cO (es2:=es) (m':=es.length) 0 U U U S3 U U sm (aB 1 U) hone (by simp; omega) (by simp [maxLen]; omega) sm U U fun AA K=>?_
 try dsimp only
 refine rP 1 [] mn ?_
 refine RK H<|ar ?_
 refine LX hQ (AA,K) [0] [] mn U U U ?_ ?_
 ·first|rfl|(rw [hes]; rfl)|(rw [← hes,A]; rfl)
 ·trivial
end
section
open Go.RowKit
theorem OF (r:bY) (kA:OA) (kC:Nat) (az:List RA) (cA:OA) (cC:Nat) (bA:OA) (bC:Nat) (slA:OA) (slC:Nat) (drA:OA) (drC:Nat) (ha:List cG) (heA:OA) (heC:Nat) (hin:ej r az ha):
 lx Tryz.prog 66 [(vA (cr.cells (ou r kA kC cA cC bA bC slA slC drA drC heA heC)))] [(rd kA r.an.aL.length 9 (r.an.aL.map ak.cells)),(rd cA r.an.ah.length 2 (List.zipWith aq.cells r.an.ah az)),(eX (aU aq.gE r.an.ah az)),(rd bA r.an.ae.length 4 (r.an.ae.map bG.cells)),(rd slA r.aK.length 1 (r.aK.map iC)),(rd drA r.bL.length 1 (r.bL.map iC)),(rd heA r.ao.length 1 (List.zipWith ct r.ao ha)),(eX (aU hO r.ao ha))] (fun (x:(OA)×Nat×(OA)×Nat×(List RA)×(OA)×Nat×(OA)×Nat×(OA)×Nat×(OA)×Nat×(List cG))=>(vA (cr.cells (cr.mk (bV.mk (bw.mk (bq.mk x.1 r.an.aL.length x.2.1)) r.an.f_ (bq.mk x.2.2.1 r.an.ah.length x.2.2.2.1) (bq.mk x.2.2.2.2.2.1 r.an.ae.length x.2.2.2.2.2.2.1) r.an.cq r.an.dM r.an.cD) (bq.mk x.2.2.2.2.2.2.2.1 r.aK.length x.2.2.2.2.2.2.2.2.1) (bq.mk x.2.2.2.2.2.2.2.2.2.1 r.bL.length x.2.2.2.2.2.2.2.2.2.2.1) r.gZ (bq.mk x.2.2.2.2.2.2.2.2.2.2.2.1 r.ao.length x.2.2.2.2.2.2.2.2.2.2.2.2.1))))) (fun (x:(OA)×Nat×(OA)×Nat×(List RA)×(OA)×Nat×(OA)×Nat×(OA)×Nat×(OA)×Nat×(List cG))=>(x.2.2.2.2.1.length=r.an.ah.length∧oN r.an.ah x.2.2.2.2.1)∧su r.ao x.2.2.2.2.2.2.2.2.2.2.2.2.2) (fun (x:(OA)×Nat×(OA)×Nat×(List RA)×(OA)×Nat×(OA)×Nat×(OA)×Nat×(OA)×Nat×(List cG))=>[(own x.1 x.2.1 114 9 (r.an.aL.map ak.cells)),(own x.2.2.1 x.2.2.2.1 119 2 (List.zipWith aq.cells r.an.ah x.2.2.2.2.1)),(bB (aU aq.owns r.an.ah x.2.2.2.2.1)),(own x.2.2.2.2.2.1 x.2.2.2.2.2.2.1 121 4 (r.an.ae.map bG.cells)),(own x.2.2.2.2.2.2.2.1 x.2.2.2.2.2.2.2.2.1 3 1 (r.aK.map iC)),(own x.2.2.2.2.2.2.2.2.2.1 x.2.2.2.2.2.2.2.2.2.2.1 3 1 (r.bL.map iC)),(own x.2.2.2.2.2.2.2.2.2.2.2.1 x.2.2.2.2.2.2.2.2.2.2.2.2.1 46 1 (List.zipWith ct r.ao x.2.2.2.2.2.2.2.2.2.2.2.2.2)),(bB (aU iD r.ao x.2.2.2.2.2.2.2.2.2.2.2.2.2))]):=by
 have C:=hin.line
 have Kx:=hin.iv
 have M:=hin.has
 have L0:=hin.iA
 have Lk:=hin.draw
 have L2:=dB (r:=r)
 have Pn:=C.sx
 have PP:=C.sG
 have O8:=C.sk
 have J9:=C.mW
 refine dp kr Tryz.func66 U U fun w0 Q hQ hN=>?_
 try dsimp only
 refine WS fun _ J5=>fK U fun b2=>AL U wj fun b3=>RK J5<|WS fun _ J6=>rP 2 [] mn ?_
 refine RK J6<|aj fun _ J7=>dJ cv [8,13,18,22,25,28] [7,11,15] [0,1,2] [0,2,3,4,5,6,7,8,9] [0,1,2,3,4,5,6,7,8,9] U U U U U<|eS U (MV U)<|eS U (MV U)<|eS U (MV U)<|eS U (MV U)<|eS U (SX (bQ U U) U U)<|eS U (FA 0 U fw U)<|eS U (FA 0 U fw U)<|fS U (L1 (vS kA r.an.aL.length kC) 1 U cb U U)<|eS U (MV U)<|eS U (SX (bQ U U) U U)<|eS U (FA 2 U fw U)<|fS U (L1 (vS cA r.an.ah.length cC) 1 U cb U U)<|eS U (MV U)<|eS U (SX (bQ U U) U U)<|eS U (FA 3 U fw U)<|fS U (L1 (vS bA r.an.ae.length bC) 1 U cb U U)<|eS U (SX (bQ U U) U U)<|eS U (FA 0 U fw U)<|eS U (FA 0 U fw U)<|eS U (SX (bQ U U) U U)<|eS U (FA 2 U fw U)<|eS U (SX (bQ U U) U U)<|eS U (FA 3 U fw U)<|eT U<|gP U fun T6 J8=>?_
 refine cX (I6 r.an.aL kA kC sd) (bk [2]) U fun y7 P5=>?_
 obtain ⟨a9,S⟩:=y7
 try dsimp only
 refine aD (J8 _ _ (aI [1,3,4,5,6,7,8,9,10]) (aI [1,2,3,4,5,6,7,8,9,10]) ?_)
 refine gP U fun T11 EQ=>?_
 refine cX (Jv (List.zipWith aq.cells r.an.ah az) cA r.an.ah.length cC sd (by exact fr J9) (by exact xV _ _)) (bk [4]) U fun K4 L3=>?_
 obtain ⟨J,K⟩:=K4
 try dsimp only
 refine aD (EQ _ _ (aI [2,4,5,6,7,8,9,10,11]) (aI [2,3,4,5,6,7,8,9,10,11]) ?_)
 refine gP U fun T16 Eq=>?_
 refine cX (Lu r.an.ae bA bC sd) (bk [7]) U fun K5 Ms=>?_
 obtain ⟨Y,Z⟩:=K5
 try dsimp only
 refine aD (Eq _ _ (aI [3,5,6,7,8,9,10,11,12]) (aI [3,4,5,6,7,8,9,10,11,12]) ?_)
 refine cp U fun T21 FS=>U4 (cr.cells (cr.mk (bV.mk (bw.mk (bq.mk a9 r.an.aL.length S)) r.an.f_ (bq.mk cA r.an.ah.length cC) (bq.mk bA r.an.ae.length bC) r.an.cq r.an.dM r.an.cD) (bq.mk slA r.aK.length slC) (bq.mk drA r.bL.length drC) r.gZ (bq.mk heA r.ao.length heC))) U Vr U U<|aD (FS _ _ (aI [3,5,6,7,8,9,10,11,12]) ?_)
 refine cp U fun T22 Fd=>U4 (cr.cells (cr.mk (bV.mk (bw.mk (bq.mk a9 r.an.aL.length S)) r.an.f_ (bq.mk J r.an.ah.length K) (bq.mk bA r.an.ae.length bC) r.an.cq r.an.dM r.an.cD) (bq.mk slA r.aK.length slC) (bq.mk drA r.bL.length drC) r.gZ (bq.mk heA r.ao.length heC))) U Su U U<|aD (Fd _ _ (aI [3,5,6,7,8,9,10,11,12]) ?_)
 refine cp U fun T23 Fn=>U4 (cr.cells (cr.mk (bV.mk (bw.mk (bq.mk a9 r.an.aL.length S)) r.an.f_ (bq.mk J r.an.ah.length K) (bq.mk Y r.an.ae.length Z) r.an.cq r.an.dM r.an.cD) (bq.mk slA r.aK.length slC) (bq.mk drA r.bL.length drC) r.gZ (bq.mk heA r.ao.length heC))) U Uy U U<|aD (Fn _ _ (aI [3,5,6,7,8,9,10,11,12]) ?_)
 refine fO U<|KK J7<|aj fun _ A4=>WS fun _ A5=>bo 1 U<|rS (SX (bQ U U) U U)<|rP 4 [] (mc 4 U mn) ?_
 refine RK A5<|ay<|lY ?_
 have E:(0≤r.an.ah.length)∧(([]:List RA).length=0)∧(oN r.an.ah ([]:List RA)):=by exact ⟨Nat.zero_le _,rfl,fun k m a _ h=>by simp at h⟩
 refine bK (ι:={z:Nat×(List RA) // (z.1≤r.an.ah.length)∧(z.2.length=z.1)∧(oN r.an.ah z.2)}) [1,2,3,39] [1,3,4,5,6,7,8,9,10,11,12,13] U U (fun z=>[(40,(vI (z.1.1:Int)))]) (fun z=>[(bB (aU aq.owns (r.an.ah.take z.1.1) z.1.2)),(own J K 119 2 (List.zipWith aq.cells r.an.ah (ja z.1.2 az z.1.1)))]) (fun _=>rfl) (fun _=>rfl) (fun z=>r.an.ah.length-z.1.1) ⟨(0,([]:List RA)),E⟩ (aT U) (aI [1,3,4,5,6,7,8,9,10,11,12,13,0,2]) ?_
 clear E
 rintro ⟨⟨i,bz⟩,⟨A0,B,V⟩⟩ J26 A1
 try dsimp only at A0 B V
 try dsimp only
 refine WS fun _ A6=>rP 1 [] mn ?_
 refine RK A6<|aj fun _ A7=>cE U (aP fun J2=>?_) (aO fun J2=>?_)
 ·refine WK A7<|aj fun _ A8=>ay<|WS fun _ A9=>rP 2 [] mn ?_
  refine RK A9<|dJ cv [13,16] [10,11,12,13,14] [0] [0,1,2,3,4,5,6,7,8,9,10,11,12] [0,1,2,3,4,5,6,7,8,9,10,11,12,13] U U U U U<|eS U (MV U)<|eS U (SX (bQ U U) U U)<|eS U (FA 2 U fw U)<|eS U (L1 (vS J r.an.ah.length K) 3 U cb U U)<|eS U (MV U)<|eS U (MV U)<|eS U (SX (bQ U U) U U)<|eS U (FA 2 U fw U)<|eS U (L1 (vS J r.an.ah.length K) 3 U cb U U)<|eS U (MV U) ?_
  obtain ⟨x,hx⟩:=aH r.an.ah i I
  obtain ⟨xa,s⟩:=aH az i I
  have Jm:(List.zipWith aq.cells r.an.ah (ja bz az i))[i]? =some (aq.cells x xa):=cT hx (uy B s)
  have Pl:=(C.RP _ _ _ hx s).2
  refine fS U (IA i U (ag (n:=r.an.ah.length) 13 U (fr (by rw [eK B I]; exact C.mW))) uB dc I I) ?_
  refine fS U (mV ((i*2)+1) U (ag (n:=r.an.ah.length) 13 U (fr (by rw [eK B I]; exact C.mW))) (Nat.mul_pos I dc) fw U) ?_
  refine fS U (fX i 1 (vS xa.1 x.aV.length xa.2) U cb (ag (n:=r.an.ah.length) 13 U (fr (by rw [eK B I]; exact C.mW))) Jm U dc U) ?_
  refine fS U (IA i U (ag (n:=r.an.ah.length) 13 U (fr (by rw [eK B I]; exact C.mW))) uB dc I I) ?_
  refine fS U (mV ((i*2)+1) U (ag (n:=r.an.ah.length) 13 U (fr (by rw [eK B I]; exact C.mW))) (Nat.mul_pos I dc) fw U) ?_
  refine eT U<|gP U fun T32 GE=>?_
  refine cX (IS x.aV xa.1 xa.2 sd) (av (show g9 _ (rd xa.1 x.aV.length 3 (x.aV.map cd.cells)).holds from (cw 6 U (bH hx s (by simp [aq.gE]))))<|aM) U fun K8 M2=>?_
  obtain ⟨P,T⟩:=K8
  try dsimp only
  refine aD (GE _ _ (aI [1,2,3,4,5,6,7,8,9,10,11,12,13]) (aI [1,2,3,4,5,6,7,8,9,10,11,12,13,14]) ?_)
  refine cp U fun T37 GT=>dI (k:=i) (o:=1) (vs:=[(vS P x.aV.length T)]) (es':=(List.zipWith aq.cells r.an.ah (ja (bz++[(P,T)]) az (i+1)))) (C':=[_,_,_,_,_,_,_,_,_,_,_,_,_,_,(own J K 119 2 (List.zipWith aq.cells r.an.ah (ja (bz++[(P,T)]) az (i+1))))]) 14 U U U PX U U U U Jm U dc (by exact qO (c:=aq.cells) (b:=(P,T)) hx B s) U<|aD (GT _ _ (aI [1,2,3,4,5,6,7,8,9,10,11,12,13]) ?_)
  refine fO U<|aG<|KK A8<|al<|rP 2 [] mn ?_
  refine aD<|Q9 0 U fun t=>?_
  simp only [List.length_map] at t
  refine Fu (Y':=aU aq.owns (r.an.ah.take (i+1)) (bz++[(P,T)])) 13 0 U U (nP (f:=aq.owns) (b:=(P,T)) hx B) ?_
  have Id:(vI (((i+1):Nat):Int))=(vI ((i:Int)+1)):=by exact cI I
  refine aR (A1 ⟨((i+1),(bz++[(P,T)])),⟨I,by simp; omega,Dg V B hx t⟩⟩ _ _ _ U os (cR 4<|aY U Id<|dj.nil _) (aI [1,2,3,4,5,6,7,8,9,10,11,12,0,13]))
 refine bD<|ab<|ab<|aA<|KK A4<|aj fun _ BX=>?_
 have KY:bz.length=r.an.ah.length:=by omega
 have Kp:=V
 rw [show (ja bz az i)=bz from rn I,show r.an.ah.take i=r.an.ah from List.take_of_length_le I]
 refine dJ cv [2,5,8,10,12,14] [1,3,5] [0,1,2] [0,1,2,4,5,6,7,8,9,10,11,12,13] [0,1,2,3,4,5,6,7,8,9,10,11,12,13] U U U U U<|eS U (FA 7 U fw U)<|fS U (L1 (vS slA r.aK.length slC) 3 U cb U U)<|eS U (FA 8 U fw U)<|fS U (L1 (vS drA r.bL.length drC) 3 U cb U U)<|eS U (FA 10 U fw U)<|fS U (L1 (vS heA r.ao.length heC) 3 U cb U U)<|eS U (FA 7 U fw U)<|eS U (FA 8 U fw U)<|eS U (FA 10 U fw U)<|eT U<|gP U fun T40 Ge=>?_
 refine cX (wJ r.aK slA slC sd) (bk [8]) U fun LA NE=>?_
 obtain ⟨g,j⟩:=LA
 try dsimp only
 refine aD (Ge _ _ (aI [1,2,3,5,6,7,8,9,10,11,12,13,14]) (aI [1,2,3,4,5,6,7,8,9,10,11,12,13,14]) ?_)
 refine gP U fun T45 Go=>?_
 refine cX (wJ r.bL drA drC sd) (bk [10]) U fun LE Ne=>?_
 obtain ⟨w,AO⟩:=LE
 try dsimp only
 refine aD (Go _ _ (aI [2,3,4,6,7,8,9,10,11,12,13,14,15]) (aI [2,3,4,5,6,7,8,9,10,11,12,13,14,15]) ?_)
 refine gP U fun T50 G1=>?_
 refine cX (KH (List.zipWith ct r.ao ha) heA r.ao.length heC sd (by exact de M) (by exact Ac _ _)) (bk [12]) U fun LT Op=>?_
 obtain ⟨W,X⟩:=LT
 try dsimp only
 refine aD (G1 _ _ (aI [3,4,5,7,8,9,10,11,12,13,14,15,16]) (aI [3,4,5,6,7,8,9,10,11,12,13,14,15,16]) ?_)
 refine cp U fun T55 Hi=>UN (cr.cells (cr.mk (bV.mk (bw.mk (bq.mk a9 r.an.aL.length S)) r.an.f_ (bq.mk J r.an.ah.length K) (bq.mk Y r.an.ae.length Z) r.an.cq r.an.dM r.an.cD) (bq.mk g r.aK.length j) (bq.mk drA r.bL.length drC) r.gZ (bq.mk heA r.ao.length heC))) U xn U U<|aD (Hi _ _ (aI [3,4,5,7,8,9,10,11,12,13,14,15,16]) ?_)
 refine cp U fun T56 Hj=>UN (cr.cells (cr.mk (bV.mk (bw.mk (bq.mk a9 r.an.aL.length S)) r.an.f_ (bq.mk J r.an.ah.length K) (bq.mk Y r.an.ae.length Z) r.an.cq r.an.dM r.an.cD) (bq.mk g r.aK.length j) (bq.mk w r.bL.length AO) r.gZ (bq.mk heA r.ao.length heC))) U xn U U<|aD (Hj _ _ (aI [3,4,5,7,8,9,10,11,12,13,14,15,16]) ?_)
 refine cp U fun T57 H1=>UN (cr.cells (cr.mk (bV.mk (bw.mk (bq.mk a9 r.an.aL.length S)) r.an.f_ (bq.mk J r.an.ah.length K) (bq.mk Y r.an.ae.length Z) r.an.cq r.an.dM r.an.cD) (bq.mk g r.aK.length j) (bq.mk w r.bL.length AO) r.gZ (bq.mk W r.ao.length X))) U T3 U U<|aD (H1 _ _ (aI [3,4,5,7,8,9,10,11,12,13,14,15,16]) ?_)
 refine fO U<|KK BX<|aj fun _ B3=>WS fun _ B7=>rP 4 [] (mc 6 U mn) ?_
 refine RK B7<|ay<|lY ?_
 have E:(0≤r.ao.length)∧(([]:List cG).length=0)∧(∀ (k:Nat) y (a:cG),r.ao[k]? =some y→([]:List cG)[k]? =some a→a.2.length=y.length):=by exact ⟨Nat.zero_le _,rfl,fun k y a _ q=>by simp at q⟩
 refine bK (ι:={z:Nat×(List cG) // (z.1≤r.ao.length)∧(z.2.length=z.1)∧(∀ (k:Nat) y (a:cG),r.ao[k]? =some y→z.2[k]? =some a→a.2.length=y.length)}) [1,2,74] [2,3,4,5,6,7,8,9,10,11,12,13,14,15,16,17] U U (fun z=>[(75,(vI (z.1.1:Int)))]) (fun z=>[(bB (aU iD (r.ao.take z.1.1) z.1.2)),(own W X 46 1 (List.zipWith ct r.ao (ja z.1.2 ha z.1.1)))]) (fun _=>rfl) (fun _=>rfl) (fun z=>r.ao.length-z.1.1) ⟨(0,([]:List cG)),E⟩ (aT U) (aI [2,3,4,5,6,7,8,9,10,11,12,13,14,15,16,17,0,1]) ?_
 clear E
 rintro ⟨⟨h,hz⟩,⟨l,A,L⟩⟩ J60 A2
 try dsimp only at l A L
 try dsimp only
 refine WS fun _ B9=>rP 1 [] mn ?_
 refine RK B9<|aj fun _ Ci=>bO U (aO fun J3=>?_) (aP fun J3=>?_)
 ·refine bD<|ab<|ab<|aA<|KK B3<|aj fun _ Do=>?_
  have K0:su r.ao hz:=⟨I,L⟩
  rw [show (ja hz ha h)=hz from rn I,show r.ao.take h=r.ao from List.take_of_length_le I]
  refine al<|rP 1 [] (mc 5 U mn) ?_
  refine Pw U qB U<|RK Do<|ar ?_
  refine LX hQ (a9,S,J,K,bz,Y,Z,g,j,w,AO,W,X,hz) [3,15,14,2,1,0,17,16] [0] (mc 4 U mn) U (by show List.all _ _=true; simp only [fz,List.all_nil,fQ,j8,Bool.and_true]; rfl) U U ?_
  exact ⟨⟨KY,Kp⟩,K0⟩
 refine WK Ci<|aj fun _ Ck=>ay<|WS fun _ Cp=>rP 2 [] mn ?_
 refine RK Cp<|aj fun _ Cx=>dJ cv [8,10] [6,7,8] [0] [0,1,2,3,4,5,6,7,8,9,10,11,12,13,14,15,16] [0,1,2,3,4,5,6,7,8,9,10,11,12,13,14,15,16,17] U U U U U<|eS U (FA 10 U fw U)<|eS U (L1 (vS W r.ao.length X) 5 U cb U U)<|eS U (MV U)<|eS U (FA 10 U fw U)<|eS U (L1 (vS W r.ao.length X) 5 U cb U U)<|eS U (MV U) ?_
 obtain ⟨ht,N⟩:=aH r.ao h I
 obtain ⟨D,O⟩:=aH ha h I
 have u:(List.zipWith ct r.ao (ja hz ha h))[h]? =some (ct ht D):=cT N (uy A O)
 have Av:=hin.kb _ _ _ N O
 have e:=Av.mW
 have Kx:=Av.len
 refine fS U (IA h U (ag (n:=r.ao.length) 17 U (de (by rw [eK A I]; exact M))) lu dc I I) ?_
 refine fS U (fX h 0 (vS D.1.1 ht.length D.1.2) U cb (ag (n:=r.ao.length) 17 U (de (by rw [eK A I]; exact M))) u U dc U) ?_
 refine fS U (IA h U (ag (n:=r.ao.length) 17 U (de (by rw [eK A I]; exact M))) lu dc I I) ?_
 refine eT U<|gP U fun T67 IO=>?_
 refine cX (Ls (List.zipWith au.cells ht D.2) D.1.1 ht.length D.1.2 sd (by exact jG e) (by exact GW _ _)) (av (show g9 _ (rd D.1.1 ht.length 7 (List.zipWith au.cells ht D.2)).holds from (cw 13 U (bH N O bZ)))<|aM) U fun La Or=>?_
 obtain ⟨G,H⟩:=La
 try dsimp only
 refine aD (IO _ _ (aI [1,2,3,4,5,6,7,8,9,10,11,12,13,14,15,16,17]) (aI [1,2,3,4,5,6,7,8,9,10,11,12,13,14,15,16,17,18]) ?_)
 refine cp U fun T72 IR=>dI (k:=h) (o:=0) (vs:=[(vS G ht.length H)]) (es':=(List.zipWith ct r.ao (ja (hz++[((G,H),D.2)]) ha (h+1)))) (C':=[_,_,_,_,_,_,_,_,_,_,_,_,_,_,_,_,_,_,(own W X 46 1 (List.zipWith ct r.ao (ja (hz++[((G,H),D.2)]) ha (h+1))))]) 18 U U U Uv U U U U u U dc (by exact qO (b:=((G,H),D.2)) N A O) U<|aD (IR _ _ (aI [1,2,3,4,5,6,7,8,9,10,11,12,13,14,15,16,17]) ?_)
 refine fO U<|KK Cx<|WS fun _ C0=>rP 3 [] (mc 6 U mn) ?_
 have v:(List.zipWith ct r.ao (ja (hz++[((G,H),D.2)]) ha (h+1)))[h]? =some (ct ht ((G,H),D.2)):=cT N (Cg A)
 refine rS (IA h U (ag (n:=r.ao.length) 18 U (de (by rw [eK (by simp; omega) I]; exact M))) lu dc I I) ?_
 refine rS (fX h 0 (vS G ht.length H) U cb (ag (n:=r.ao.length) 18 U (de (by rw [eK (by simp; omega) I]; exact M))) v U dc U) ?_
 refine rP 2 [] mn ?_
 refine RK C0<|ay<|lY ?_
 have E:(0≤ht.length)∧(([]:List RA).length=0):=by exact ⟨Nat.zero_le _,rfl⟩
 refine bK (ι:={z:Nat×(List RA) // (z.1≤ht.length)∧(z.2.length=z.1)}) [1,2,5,74,75,93] [2,3,4,5,6,7,8,9,10,11,12,13,14,15,16,17,18,19] U U (fun z=>[(94,(vI (z.1.1:Int)))]) (fun z=>[(bB (aU nz (ht.take z.1.1) z.1.2)),(own G H 45 7 (List.zipWith au.cells ht (ja z.1.2 D.2 z.1.1)))]) (fun _=>rfl) (fun _=>rfl) (fun z=>ht.length-z.1.1) ⟨(0,([]:List RA)),E⟩ (aT U) (aI [2,3,4,5,6,7,8,9,10,11,12,13,14,15,16,17,18,19,0,1]) ?_
 clear E
 rintro ⟨⟨i,dz⟩,⟨p,F⟩⟩ J74 A3
 try dsimp only at p F
 try dsimp only
 refine WS fun _ C1=>rP 1 [] mn ?_
 refine RK C1<|aj fun _ C2=>bO U (aO fun J4=>?_) (aP fun J4=>?_)
 ·refine bD<|ab<|ab<|aA<|aG<|KK Ck<|al<|rP 2 [] mn ?_
  refine aD ?_
  have Lo:dz.length=ht.length:=by omega
  rw [show (ja dz D.2 i)=dz from rn I,show ht.take i=ht from List.take_of_length_le I]
  refine LG (Z':=aU iD (r.ao.take (h+1)) (hz++[((G,H),dz)])) 16 18 19 U U (nP (f:=iD) (b:=((G,H),dz)) N A) ?_
  rw [Cz (y:=dz)]
  have In:(vI (((h+1):Nat):Int))=(vI ((h:Int)+1)):=by exact cI I
  refine aR (A2 ⟨((h+1),(hz++[((G,H),dz)])),⟨I,by simp; omega,Gt N L A dso⟩⟩ _ _ _ U os (cR 3<|aY U In<|dj.nil _) (aI [1,2,3,4,5,6,7,8,9,10,11,12,13,14,15,16,0,17]))
 refine WK C2<|aj fun _ C3=>ay<|WS fun _ DV=>rP 2 [] mn ?_
 refine RK DV<|aj fun _ Di=>?_
 refine Ft 19 U (by rw [jG (by rw [eK F I]; exact e)]; omega) (fun Li AB=>?_)
 refine al<|rP 3 [] (mc 5 U mn) ?_
 refine rS (IA h U (ag (n:=r.ao.length) 17 U (de (by rw [eK (by simp; omega) I]; exact M))) lu dc I I) ?_
 refine rS (fX h 0 (vS G ht.length H) U cb (ag (n:=r.ao.length) 17 U (de (by rw [eK (by simp; omega) I]; exact M))) v U dc U) ?_
 refine rP 1 [] mn ?_
 obtain ⟨d,hd⟩:=aH ht i I
 obtain ⟨da,An⟩:=aH D.2 i I
 have JR:(List.zipWith au.cells ht (ja dz D.2 i))[i]? =some (au.cells d da):=cT hd (uy F An)
 have Pi:=Av.sig d (aS hd)
 refine rS (Wd i U AB pN I I)<|rS (Vb ((i*7)+4) U AB fw U)<|bo 1 U<|RK Di<|al<|rP 2 [] mn ?_
 refine rS (SX (zb U U AB) U U)<|rS (Vb (((i*7)+4)+2) U AB fw U) ?_
 refine rS (fX i 6 (vS da.1 d.b_.ai.length da.2) U cb (ag (n:=ht.length) 19 U (jG (by rw [eK F I]; exact e))) JR U dc U) ?_
 refine cX (Ky d.b_.ai da.1 da.2 sd) (av (show g9 _ (rd da.1 d.b_.ai.length 2 (d.b_.ai.map aJ.cells)).holds from (cw 13 U (bH N O (c_ _ (bH hd An (by simp [au.gE]))))))<|aM) U fun Lf Os=>?_
 obtain ⟨R,AA⟩:=Lf
 try dsimp only
 refine rS (SX (zb U U AB) U U)<|rS (Vb (((i*7)+4)+2) U AB fw U)<|dI (k:=i) (o:=6) (vs:=[(vS R d.b_.ai.length AA)]) (es':=(List.zipWith au.cells ht (ja (dz++[(R,AA)]) D.2 (i+1)))) (C':=[_,_,_,_,_,_,_,_,_,_,_,_,_,_,_,_,_,_,_,_,(own G H 45 7 (List.zipWith au.cells ht (ja (dz++[(R,AA)]) D.2 (i+1))))]) 20 U U U Sc U U U U JR U dc (by exact qO (c:=au.cells) (b:=(R,AA)) hd F An) U<|aD<|aG<|KK C3<|al<|rP 2 [] mn ?_
 refine aD<|Fu (Y':=aU nz (ht.take (i+1)) (dz++[(R,AA)])) 19 0 U U (nP (f:=nz) (b:=(R,AA)) hd F) ?_
 have If:(vI (((i+1):Nat):Int))=(vI ((i:Int)+1)):=by exact cI I
 refine aR (A3 ⟨((i+1),(dz++[(R,AA)])),⟨I,by simp; omega⟩⟩ _ _ _ U os (cR 6<|aY U If<|dj.nil _) (aI [1,2,3,4,5,6,7,8,9,10,11,12,13,14,15,16,17,18,0,19]))
end
section
open Go.RowKit
theorem yn (r:bY) (kA:OA) (kC:Nat) (az:List RA) (cA:OA) (cC:Nat) (bA:OA) (bC:Nat) (slA:OA) (slC:Nat) (drA:OA) (drC:Nat) (ha:List cG) (heA:OA) (heC:Nat) (tz:List RA) (tA:OA) (tC:Nat) (ms:Value) (gw:Nat) (h i:Int) (t:aa) (hin:ej r az ha) (hok:fc r):
 lx Tryz.prog 40 [(vP gw),(vI h),(vI i),(vA (aa.cells t))] [(rd kA r.an.aL.length 9 (r.an.aL.map ak.cells)),(rd cA r.an.ah.length 2 (List.zipWith aq.cells r.an.ah az)),(eX (aU aq.gE r.an.ah az)),(rd bA r.an.ae.length 4 (r.an.ae.map bG.cells)),(rd slA r.aK.length 1 (r.aK.map iC)),(rd drA r.bL.length 1 (r.bL.map iC)),(rd heA r.ao.length 1 (List.zipWith ct r.ao ha)),(eX (aU hO r.ao ha)),(rd tA ((cU r).length) 1 (List.zipWith Ew (cU r) tz)),(eX (aU M3 (cU r) tz)),(cm gw 91 (gd.cells (gd.mk (ou r kA kC cA cC bA bC slA slC drA drC heA heC) (bq.mk tA ((cU r).length) tC) ms)))] (fun (x:Bool×Int×(OA)×Nat×(OA)×Nat×(List RA)×(OA)×Nat×(OA)×Nat×(OA)×Nat×(OA)×Nat×(List cG))=>bif x.1 then (vT [(vA (cr.cells (cr.mk (bV.mk (bw.mk (bq.mk x.2.2.1 r.an.aL.length x.2.2.2.1)) r.an.f_ (bq.mk x.2.2.2.2.1 r.an.ah.length x.2.2.2.2.2.1) (bq.mk x.2.2.2.2.2.2.2.1 r.an.ae.length x.2.2.2.2.2.2.2.2.1) r.an.cq r.an.dM r.an.cD) (bq.mk x.2.2.2.2.2.2.2.2.2.1 r.aK.length x.2.2.2.2.2.2.2.2.2.2.1) (bq.mk x.2.2.2.2.2.2.2.2.2.2.2.1 r.bL.length x.2.2.2.2.2.2.2.2.2.2.2.2.1) r.gZ (bq.mk x.2.2.2.2.2.2.2.2.2.2.2.2.2.1 ((fR r.ao h i t).length) x.2.2.2.2.2.2.2.2.2.2.2.2.2.2.1)))),(vI 0)]) else (vT [(vA (cr.cells (cr.mk (bV.mk (bw.mk (bq.mk none 0 0)) 0 (bq.mk none 0 0) (bq.mk none 0 0) 0 0 0) (bq.mk none 0 0) (bq.mk none 0 0) 0 (bq.mk none 0 0)))),(vI x.2.1)])) (fun (x:Bool×Int×(OA)×Nat×(OA)×Nat×(List RA)×(OA)×Nat×(OA)×Nat×(OA)×Nat×(OA)×Nat×(List cG))=>(x.1=true→((p9 r h i t)=0∧(x.2.2.2.2.2.2.1.length=r.an.ah.length∧oN r.an.ah x.2.2.2.2.2.2.1)∧su (fR r.ao h i t) x.2.2.2.2.2.2.2.2.2.2.2.2.2.2.2))∧(x.1=false→(x.2.1=(p9 r h i t)∧ ¬ (p9 r h i t)=0))) (fun (x:Bool×Int×(OA)×Nat×(OA)×Nat×(List RA)×(OA)×Nat×(OA)×Nat×(OA)×Nat×(OA)×Nat×(List cG))=>bif x.1 then [(own x.2.2.1 x.2.2.2.1 114 9 (r.an.aL.map ak.cells)),(own x.2.2.2.2.1 x.2.2.2.2.2.1 119 2 (List.zipWith aq.cells r.an.ah x.2.2.2.2.2.2.1)),(bB (aU aq.owns r.an.ah x.2.2.2.2.2.2.1)),(own x.2.2.2.2.2.2.2.1 x.2.2.2.2.2.2.2.2.1 121 4 (r.an.ae.map bG.cells)),(own x.2.2.2.2.2.2.2.2.2.1 x.2.2.2.2.2.2.2.2.2.2.1 3 1 (r.aK.map iC)),(own x.2.2.2.2.2.2.2.2.2.2.2.1 x.2.2.2.2.2.2.2.2.2.2.2.2.1 3 1 (r.bL.map iC)),(own x.2.2.2.2.2.2.2.2.2.2.2.2.2.1 x.2.2.2.2.2.2.2.2.2.2.2.2.2.2.1 46 1 (List.zipWith ct (fR r.ao h i t) x.2.2.2.2.2.2.2.2.2.2.2.2.2.2.2)),(bB (aU iD (fR r.ao h i t) x.2.2.2.2.2.2.2.2.2.2.2.2.2.2.2))] else []):=by
 have A4:=hin.line
 have Ck:=hin.iv
 have Cx:=hin.has
 have BX:=hin.iA
 have A7:=hin.draw
 have B3:=dB (r:=r)
 have C1:=hok.num
 have C0:=hok.nh
 refine dp Va Tryz.func40 U U fun w0 Q hQ hN=>?_
 try dsimp only
 refine WS fun _ An=>fK U fun b2=>AL U wj fun b3=>bo 1 U<|RK An<|aj fun _ Av=>WS fun _ J=>bo 1 U<|rS (SX (bQ U U) U U)<|rP 6 [] (mr 12 U mn) ?_
 refine du (xs:=[.tmp 18]) (cs:=[(vI h)]) U cN jv U U U U (by simp [Value.cells]) U U fun b6=>?_
 refine rS (CL (er.eq (kp 0 ((r.ao.length:Int)-1) ([h]) (some ⟨b6,0,none⟩) 1 sd) df) (av (bp 0 U U (by simp [bM]) U)<|aM) U) ?_
 refine rP 2 [] mn ?_
 refine cH (t:=22) U (aZ fun AC=>?_) (a_ fun AC=>?_)
 ·refine bo 11 U<|RK J<|aN U<|WS fun _ A0=>rS (SX (bu (xs:=[]) (cs:=(cr.cells (cr.mk (bV.mk (bw.mk (bq.mk none 0 0)) 0 (bq.mk none 0 0) (bq.mk none 0 0) 0 0 0) (bq.mk none 0 0) (bq.mk none 0 0) 0 (bq.mk none 0 0)))) U U (br H0 U)) U U)<|sj U qB U<|rP 1 [] mn ?_
  refine RK A0<|ar ?_
  refine LX hQ (false,2,none,0,none,0,[],none,0,none,0,none,0,none,0,[]) [] [0] (mc 1 U mn) U (by first|rfl|(show List.all _ _=true; simp only [cond_true,fz,List.all_nil,fQ,j8,Bool.and_true]; rfl)) U ?_ ?_
  ·first|rfl|(simp only [cond_true,gQ]; rfl)
  ·refine ⟨BD,fun _=>?_⟩; first|exact qy (mQ (r:=r) (h:=h) (i:=i) (t:=t) I)|exact qy (mQ (r:=r) (h:=h) (i:=i) (t:=t) (fun q=>absurd q.2 asm))|exact qy (uK (r:=r) (t:=t) ⟨I,asm⟩ A hd H)
 refine rP 2 [] mn ?_
 refine du (xs:=[.tmp 24]) (cs:=[(vI i)]) U cN jv U U U U (by simp [Value.cells]) U U fun b8=>?_
 refine rS (CL (er.eq (Bh r kA kC az cA cC bA bC slA slC drA drC ha heA heC tz tA tC ms gw ([i]) (some ⟨b8,0,none⟩) 1 hin sd) df) (l5 [4,5,6,7,8,9,10,11,12,13,14]<|av (bp 0 U U (by simp [bM]) U)<|aM) U) ?_
 refine rP 3 [] mn ?_
 refine cH (t:=29) U (aZ fun AO=>?_) (a_ fun AO=>?_)
 ·refine bo 4 U<|RK J<|aN U<|WS fun _ A1=>rS (SX (bu (xs:=[]) (cs:=(cr.cells (cr.mk (bV.mk (bw.mk (bq.mk none 0 0)) 0 (bq.mk none 0 0) (bq.mk none 0 0) 0 0 0) (bq.mk none 0 0) (bq.mk none 0 0) 0 (bq.mk none 0 0)))) U U (br H0 U)) U U)<|Gx U qB U<|rP 1 [] mn ?_
  refine RK A1<|ar ?_
  refine LX hQ (false,2,none,0,none,0,[],none,0,none,0,none,0,none,0,[]) [] [0] (mc 2 U mn) U (by first|rfl|(show List.all _ _=true; simp only [cond_true,fz,List.all_nil,fQ,j8,Bool.and_true]; rfl)) U ?_ ?_
  ·first|rfl|(simp only [cond_true,gQ]; rfl)
  ·refine ⟨BD,fun _=>?_⟩; first|exact qy (mQ (r:=r) (h:=h) (i:=i) (t:=t) I)|exact qy (mQ (r:=r) (h:=h) (i:=i) (t:=t) (fun q=>absurd q.2 asm))|exact qy (uK (r:=r) (t:=t) ⟨I,asm⟩ A hd H)
 refine fG 1 [] (mc 3 U mn) U<|rS (CL (F3 t) (aM) U)<|rP 2 [] mn ?_
 refine RK J<|cE U (aZ fun Z=>?_) (a_ fun Z=>?_)
 ·refine WS fun _ b=>rS (SX (bu (xs:=[]) (cs:=(cr.cells (cr.mk (bV.mk (bw.mk (bq.mk none 0 0)) 0 (bq.mk none 0 0) (bq.mk none 0 0) 0 0 0) (bq.mk none 0 0) (bq.mk none 0 0) 0 (bq.mk none 0 0)))) U U (br H0 U)) U U)<|Gx U qB U<|rP 1 [] mn ?_
  refine RK b<|ar ?_
  refine LX hQ (false,2,none,0,none,0,[],none,0,none,0,none,0,none,0,[]) [] [0] (mc 2 U mn) U (by first|rfl|(show List.all _ _=true; simp only [cond_true,fz,List.all_nil,fQ,j8,Bool.and_true]; rfl)) U ?_ ?_
  ·first|rfl|(simp only [cond_true,gQ]; rfl)
  ·refine ⟨BD,fun _=>?_⟩; first|exact qy (mQ (r:=r) (h:=h) (i:=i) (t:=t) I)|exact qy (mQ (r:=r) (h:=h) (i:=i) (t:=t) (fun q=>absurd q.2 asm))|exact qy (uK (r:=r) (t:=t) ⟨I,asm⟩ A hd H)
 refine WK Av<|aj fun _ e=>WS fun _ f=>bo 1 U<|rS (SX (bQ U U) U U)<|rP 4 [] (mr 14 U mn) ?_
 obtain ⟨ht,A⟩:=aH r.ao ((h).toNat) I
 obtain ⟨C,E⟩:=aH ha ((h).toNat) I
 have w:(List.zipWith ct r.ao ha)[(h).toNat]? =some (ct ht C):=cT A E
 refine rS (IA ((h).toNat) U (aB 10 U) lu dc I I) ?_
 have A3:=hin.kb _ _ _ A E
 have A8:=A3.mW
 have Cp:=(hok.kb ht (aS A)).1
 refine rS (fX ((h).toNat) 0 (vS C.1.1 ht.length C.1.2) U QX (aB 10 U) w U dc U)<|rP 1 [] mn ?_
 obtain ⟨d,hd⟩:=aH ht ((i).toNat) I
 obtain ⟨da,K⟩:=aH C.2 ((i).toNat) I
 have A2:(List.zipWith au.cells ht C.2)[(i).toNat]? =some (au.cells d da):=cT hd K
 refine rS (IA ((i).toNat) U (show g9 _ (rd C.1.1 ht.length 7 (List.zipWith au.cells ht C.2)).holds from (cw 11 U (bH A E bZ))) pN dc I I)<|rS (mV (((i).toNat)*7) U (show g9 _ (rd C.1.1 ht.length 7 (List.zipWith au.cells ht C.2)).holds from (cw 11 U (bH A E bZ))) (Nat.mul_pos I dc) QM U)<|rS (fX ((i).toNat) 0 (vB d.Out) U Wc (show g9 _ (rd C.1.1 ht.length 7 (List.zipWith au.cells ht C.2)).holds from (cw 11 U (bH A E bZ))) A2 U dc U)<|RK f<|cE U (fun H=>?_) (fun H=>?_)
 ·refine WS fun _ g=>rS (SX (bu (xs:=[]) (cs:=(cr.cells (cr.mk (bV.mk (bw.mk (bq.mk none 0 0)) 0 (bq.mk none 0 0) (bq.mk none 0 0) 0 0 0) (bq.mk none 0 0) (bq.mk none 0 0) 0 (bq.mk none 0 0)))) U U (br H0 U)) U U)<|Gx U qB U<|rP 1 [] mn ?_
  refine RK g<|ar ?_
  refine LX hQ (false,8,none,0,none,0,[],none,0,none,0,none,0,none,0,[]) [] [0] (mc 2 U mn) U (by first|rfl|(show List.all _ _=true; simp only [cond_true,fz,List.all_nil,fQ,j8,Bool.and_true]; rfl)) U ?_ ?_
  ·first|rfl|(simp only [cond_true,gQ]; rfl)
  ·refine ⟨BD,fun _=>?_⟩; first|exact qy (mQ (r:=r) (h:=h) (i:=i) (t:=t) I)|exact qy (mQ (r:=r) (h:=h) (i:=i) (t:=t) (fun q=>absurd q.2 asm))|exact qy (uK (r:=r) (t:=t) ⟨I,asm⟩ A hd H)
 refine WK e<|WS fun _ j=>bo 1 U<|rS (SX (bQ U U) U U)<|rP 1 [] mn ?_
 refine rS (V_ (cr.cells (ou r kA kC cA cC bA bC slA slC drA drC heA heC)) 14 U Sr U U U)<|cX (OF r kA kC az cA cC bA bC slA slC drA drC ha heA heC hin) (bk [4,5,6,7,8,9,10,11]) U fun A6 z=>?_
 obtain ⟨L,T,M,AA,S,N,V,O,W,P,X,R,Y,G⟩:=A6
 try dsimp only
 obtain ⟨⟨s,u⟩,D⟩:=z
 try dsimp only at s u D
 have A9:=D.1
 refine AL U wj fun B7=>fW U qB U<|RK j<|aj fun _ l=>?_
 obtain ⟨B,F⟩:=aH G ((h).toNat) (by have:=D.1; omega)
 have y:(List.zipWith ct r.ao G)[(h).toNat]? =some (ct ht B):=cT A F
 have A5:=D.2 _ _ _ A F
 refine JW 8 A F U U ?_
 try dsimp only
 refine dg cv 9 kr<|mw 3 [] (mc 3 U mn) U<|dS (IA ((h).toNat) U (ag (n:=r.ao.length) 10 U (de D.1)) lu dc I I)<|dS (fX ((h).toNat) 0 (vS B.1.1 ht.length B.1.2) U QX (ag (n:=r.ao.length) 10 U (de D.1)) y U dc U)<|dP 2 [] (mc 14 U mn) ?_
 refine dS (SX (bu (xs:=[(1,.const (vB true)),(2,.tmp 59)]) (cs:=(bg.cells (bg.mk false true t (dL.mk 0 0 (bq.mk none 0 0))))) U U (br O0 U)) U U) ?_
 obtain ⟨K,AB⟩:=aH B.2 ((i).toNat) I
 have v:(List.zipWith au.cells ht B.2)[(i).toNat]? =some (au.cells d K):=cT hd AB
 refine dS (IA ((i).toNat) U (ag (n:=ht.length) 0 U (jG A5)) pN dc I I)<|cM<|dI (k:=(i).toNat) (o:=0) (vs:=(bg.cells (bg.mk false true t (dL.mk 0 0 (bq.mk none 0 0))))) (es':=(List.zipWith au.cells (ht.set (i).toNat (iY t)) (B.2.set (i).toNat (none,0)))) (C':=[(own B.1.1 B.1.2 45 7 (List.zipWith au.cells (ht.set (i).toNat (iY t)) (B.2.set (i).toNat (none,0)))),_,_,_,_,_,_,_,_,_,_,_,_,_,_,_,_,_,_,_,_,_,_,_,_,_]) 0 U U U O5 U U U U v U dc (by exact o6 (c:=au.cells) (m:=iY t) (a:=(none,0))) U<|RK l<|aj fun _ p=>Ml (d':=iY t) 1 hd AB U U U ?_
 refine Gw (h':=(ht.set (i).toNat (iY t))) (a':=(B.1,(B.2.set (i).toNat (none,0)))) 2 0 1 I (by have:=D.1; omega) U U ?_
 rw [← rH A,show List.zipWith ct r.ao G=List.zipWith ct (fR r.ao h i t) (G.set (h).toNat (B.1,(B.2.set (i).toNat (none,0)))) from by rw [rH A]; exact (Al A F (by rw [List.length_set])).symm]
 replace D:=Kt (i:=i) (t:=t) D A F
 refine al<|fG 1 [] (mc 1 U mn) U<|Vm U qB U<|rP 1 [] mn ?_
 refine RK p<|ar ?_
 refine LX hQ (true,0,L,T,M,AA,S,N,V,O,W,P,X,R,Y,(G.set (h).toNat (B.1,(B.2.set (i).toNat (none,0))))) [2,3,4,5,6,7,8,0] [0] (mc 11 U mn) U (by first|rfl|(show List.all _ _=true; simp only [cond_true,fz,List.all_nil,fQ,j8,Bool.and_true]; rfl)) U ?_ ?_
 ·first|rfl|(simp only [cond_true,gQ]; rfl)
 ·exact ⟨fun _=>⟨Nn ⟨I,Z⟩ A hd H,⟨s,u⟩,D⟩,Nc⟩
end
section
open Go.RowKit
theorem xb (h i:Int) (t:aa) (r:bY) (kA:OA) (kC:Nat) (az:List RA) (cA:OA) (cC:Nat) (bA:OA) (bC:Nat) (slA:OA) (slC:Nat) (drA:OA) (drC:Nat) (ha:List cG) (heA:OA) (heC:Nat) (hin:ej r az ha):
 lx Tryz.prog 17 [(vA (cr.cells (ou r kA kC cA cC bA bC slA slC drA drC heA heC))),(vI h),(vI i),(vA (aa.cells t))] [(rd ff 3 2 eu),(rd kA r.an.aL.length 9 (r.an.aL.map ak.cells)),(rd cA r.an.ah.length 2 (List.zipWith aq.cells r.an.ah az)),(eX (aU aq.gE r.an.ah az)),(rd bA r.an.ae.length 4 (r.an.ae.map bG.cells)),(rd slA r.aK.length 1 (r.aK.map iC)),(rd drA r.bL.length 1 (r.bL.map iC)),(rd heA r.ao.length 1 (List.zipWith ct r.ao ha)),(eX (aU hO r.ao ha))] (fun (x:Bool×Int×(OA)×Nat×(OA)×Nat×(List RA)×(OA)×Nat×(OA)×Nat×(OA)×Nat×(OA)×Nat×(List cG))=>bif x.1 then (vT [(vA (cr.cells (cr.mk (bV.mk (bw.mk (bq.mk x.2.2.1 r.an.aL.length x.2.2.2.1)) r.an.f_ (bq.mk x.2.2.2.2.1 r.an.ah.length x.2.2.2.2.2.1) (bq.mk x.2.2.2.2.2.2.2.1 r.an.ae.length x.2.2.2.2.2.2.2.2.1) r.an.cq r.an.dM r.an.cD) (bq.mk x.2.2.2.2.2.2.2.2.2.1 r.aK.length x.2.2.2.2.2.2.2.2.2.2.1) (bq.mk x.2.2.2.2.2.2.2.2.2.2.2.1 r.bL.length x.2.2.2.2.2.2.2.2.2.2.2.2.1) r.gZ (bq.mk x.2.2.2.2.2.2.2.2.2.2.2.2.2.1 ((fR r.ao h i t).length) x.2.2.2.2.2.2.2.2.2.2.2.2.2.2.1)))),(vI 0)]) else (vT [(vA (cr.cells (cr.mk (bV.mk (bw.mk (bq.mk none 0 0)) 0 (bq.mk none 0 0) (bq.mk none 0 0) 0 0 0) (bq.mk none 0 0) (bq.mk none 0 0) 0 (bq.mk none 0 0)))),(vI x.2.1)])) (fun (x:Bool×Int×(OA)×Nat×(OA)×Nat×(List RA)×(OA)×Nat×(OA)×Nat×(OA)×Nat×(OA)×Nat×(List cG))=>(x.1=true→((eV r h i t)=0∧(x.2.2.2.2.2.2.1.length=r.an.ah.length∧oN r.an.ah x.2.2.2.2.2.2.1)∧su (fR r.ao h i t) x.2.2.2.2.2.2.2.2.2.2.2.2.2.2.2))∧(x.1=false→(x.2.1=(eV r h i t)∧ ¬ (eV r h i t)=0))) (fun (x:Bool×Int×(OA)×Nat×(OA)×Nat×(List RA)×(OA)×Nat×(OA)×Nat×(OA)×Nat×(OA)×Nat×(List cG))=>bif x.1 then [(own x.2.2.1 x.2.2.2.1 114 9 (r.an.aL.map ak.cells)),(own x.2.2.2.2.1 x.2.2.2.2.2.1 119 2 (List.zipWith aq.cells r.an.ah x.2.2.2.2.2.2.1)),(bB (aU aq.owns r.an.ah x.2.2.2.2.2.2.1)),(own x.2.2.2.2.2.2.2.1 x.2.2.2.2.2.2.2.2.1 121 4 (r.an.ae.map bG.cells)),(own x.2.2.2.2.2.2.2.2.2.1 x.2.2.2.2.2.2.2.2.2.2.1 3 1 (r.aK.map iC)),(own x.2.2.2.2.2.2.2.2.2.2.2.1 x.2.2.2.2.2.2.2.2.2.2.2.2.1 3 1 (r.bL.map iC)),(own x.2.2.2.2.2.2.2.2.2.2.2.2.2.1 x.2.2.2.2.2.2.2.2.2.2.2.2.2.2.1 46 1 (List.zipWith ct (fR r.ao h i t) x.2.2.2.2.2.2.2.2.2.2.2.2.2.2.2)),(bB (aU iD (fR r.ao h i t) x.2.2.2.2.2.2.2.2.2.2.2.2.2.2.2))] else []):=by
 have u:=hin.line
 have Av:=hin.iv
 have A0:=hin.has
 have AC:=hin.iA
 have z:=hin.draw
 have e:=dB (r:=r)
 refine dp kr Tryz.func17 U U fun w0 Q hQ hN=>?_
 try dsimp only
 refine WS fun _ s=>fK U fun b2=>fK U fun b3=>AL U wj fun b4=>bo 1 U<|RK s<|WS fun _ Y=>rP 1 [] (mc 2 U mn) ?_
 refine cX (oD r kA kC az cA cC bA bC slA slC drA drC ha heA heC hin) (bk [3,4,5,6,7,8,9,10,11]) U fun y6 g=>?_
 obtain ⟨k,An,q,S,m,o,p⟩:=y6
 cases k
 ·obtain ⟨M,he⟩:=g.2 rfl
  try dsimp only at M he
  subst M
  try dsimp only [cond_true,cond_false,List.cons_append,List.nil_append]
  refine bo 5 U<|RK Y<|aj fun _ y=>WS fun _ AA=>rP 2 [] mn ?_
  refine RK AA<|bO U (a_ fun T=>?_) (aZ fun T=>?_)
  ·exact absurd T he
  refine WS fun _ V=>rS (SX (bu (xs:=[]) (cs:=(cr.cells (cr.mk (bV.mk (bw.mk (bq.mk none 0 0)) 0 (bq.mk none 0 0) (bq.mk none 0 0) 0 0 0) (bq.mk none 0 0) (bq.mk none 0 0) 0 (bq.mk none 0 0)))) U U (br H0 U)) U U)<|bo 1 U<|fW U qB U<|rP 1 [] mn ?_
  refine RK V<|ar ?_
  refine LX hQ (false,(cV r),none,0,none,0,[],none,0,none,0,none,0,none,0,[]) [] [0] (mc 0 U mn) U (by first|rfl|(show List.all _ _=true; simp only [cond_true,fz,List.all_nil,fQ,j8,Bool.and_true]; rfl)) U ?_ ?_
  ·first|rfl|(simp only [cond_true,gQ]; rfl)
  ·refine ⟨BD,fun _=>?_⟩; first|exact I_ (tf (h:=h) (i:=i) (t:=t) he) he|exact I_ (o3 (h:=h) (i:=i) (t:=t) b) he
 obtain ⟨he,f⟩:=g.1 rfl
 try dsimp only [cond_true,cond_false,List.cons_append,List.nil_append]
 have b:=he
 try dsimp only at f
 have d:=(iw he).2
 refine bo 5 U<|RK Y<|aj fun _ W=>WS fun _ X=>bo 1 U<|rS (SX (cf (r:= .bool false) U U U m_) U U)<|RK X<|bh U<|WK W<|WS fun _ N=>rP 4 [] (mc 5 U mn) ?_
 refine cX (yn r kA kC az cA cC bA bC slA slC drA drC ha heA heC p m o (Value.map (some S)) q h i t hin (by exact d)) (l5 [8,9,10,11,12,13,14,15]<|av (ag (n:=(cU r).length) 1 U (nm (by rw [e]; exact f)))<|av (dG 2 U ua)<|fM 0 U U<|aM) U fun v P=>?_
 obtain ⟨l,w,A,G,B,H,R,C,AB,D,J,E,K,F,L,j⟩:=v
 cases l
 ·obtain ⟨M,he⟩:=P.2 rfl
  try dsimp only at M he
  subst M
  try dsimp only [cond_true,cond_false,List.cons_append,List.nil_append]
  refine bo 2 U<|Pw U qB U<|rP 1 [] mn ?_
  refine RK N<|ar ?_
  refine LX hQ (false,(p9 r h i t),none,0,none,0,[],none,0,none,0,none,0,none,0,[]) [] [0] (mc 4 U mn) U (by first|rfl|(show List.all _ _=true; simp only [cond_true,fz,List.all_nil,fQ,j8,Bool.and_true]; rfl)) U ?_ ?_
  ·first|rfl|(simp only [cond_true,gQ]; rfl)
  ·refine ⟨BD,fun _=>?_⟩; first|exact I_ (tf (h:=h) (i:=i) (t:=t) he) he|exact I_ (o3 (h:=h) (i:=i) (t:=t) b) he
 obtain ⟨O,⟨Z,a⟩,c⟩:=P.1 rfl
 try dsimp only [cond_true,cond_false,List.cons_append,List.nil_append]
 try dsimp only at O Z a c
 refine bo 2 U<|jx (vs:=(cr.cells (cr.mk (bV.mk (bw.mk (bq.mk A r.an.aL.length G)) r.an.f_ (bq.mk B r.an.ah.length H) (bq.mk C r.an.ae.length AB) r.an.cq r.an.dM r.an.cD) (bq.mk D r.aK.length J) (bq.mk E r.bL.length K) r.gZ (bq.mk F ((fR r.ao h i t).length) L)))) (cs':=(cr.cells (cr.mk (bV.mk (bw.mk (bq.mk A r.an.aL.length G)) r.an.f_ (bq.mk B r.an.ah.length H) (bq.mk C r.an.ae.length AB) r.an.cq r.an.dM r.an.cD) (bq.mk D r.aK.length J) (bq.mk E r.bL.length K) r.gZ (bq.mk F ((fR r.ao h i t).length) L)))) (C':=[_,_,_,_,_,_,_,_,_,_,_,_,(cm b4 35 (cr.cells (cr.mk (bV.mk (bw.mk (bq.mk A r.an.aL.length G)) r.an.f_ (bq.mk B r.an.ah.length H) (bq.mk C r.an.ae.length AB) r.an.cq r.an.dM r.an.cD) (bq.mk D r.aK.length J) (bq.mk E r.bL.length K) r.gZ (bq.mk F ((fR r.ao h i t).length) L)))),_,_,_,_,_,_,_,_,_,_,_]) 12 U U U qB U U U U U U U<|rP 1 [] mn ?_
 refine RK N<|ar ?_
 refine LX hQ (true,0,A,G,B,H,R,C,AB,D,J,E,K,F,L,j) [0,1,2,3,4,5,6,7] [0] (mc 12 U mn) U (by first|rfl|(show List.all _ _=true; simp only [cond_true,fz,List.all_nil,fQ,j8,Bool.and_true]; rfl)) U ?_ ?_
 ·first|rfl|(simp only [cond_true,gQ]; rfl)
 ·exact ⟨fun _=>⟨(o3 he).trans O,⟨Z,a⟩,c⟩,Nc⟩
end
section
open Go.RowKit
theorem IU (m:g0) (gm g1:Nat):
 Ev Tryz.prog 68 [] [(vP g1)] [(im iV gm (bS dE m)),(cm g1 64 [(Value.map (some gm))])] ([]:List Int) (fun ys x ys'=> ∃ n zs,(ys++[n]++zs).Perm (m.map (·.1))∧x=[vI n]∧ys'=ys++[n]) (fun ys=>ys.Perm (m.map (·.1))):=by
 refine uE kr Tryz.func68 U U fun l J Z A0 S Q hY M L hQ hN=>?_
 try dsimp only
 refine WS fun _ O=>rP 1 [] (mr 2 U mn) ?_
 refine j1 (kV:=iV) (m:=bS dE m) 1 U U lv U ⟨U,fun h=>h⟩ (by exact ly 1 U) U fun V=>?_
 try dsimp only
 refine RK O<|ay ?_
 have G:(o0 m m ([]:List Int))∧(∀ p∈m,p∈m)∧(J ([]:List Int) A0)∧(Fo A0 S A0):=by exact ⟨wg,fun p hp=>hp,M,L⟩
 refine bK (ι:={z:g0×(List Int)×aw // (o0 m z.1 z.2.1)∧(∀ p∈z.1,p∈m)∧(J z.2.1 z.2.2)∧(Fo A0 S z.2.2)}) [0,1,5] [2,3] U U (fun z=>[]) (fun z=>[(zh iV V gm (bS dE m) (bS dE z.1.1) none),z.1.2.2]) (fun _=>rfl) (fun _=>rfl) (fun z=>z.1.1.length) ⟨(m,([]:List Int),A0),G⟩ (dj.nil _) (aI [2,3,0,1]) ?_
 clear G
 rintro ⟨⟨left,ys,A⟩,⟨B,H,C,D⟩⟩ J3 N
 try dsimp only at B H C D
 try dsimp only
 refine WS fun _ AB=>jw (dT mX).inj (f:=dE) 2 U U U U (fun T=>?_) (fun x y hm hn=>?_)
 ·refine rP 1 [] mn ?_
  refine RK AB<|aj fun _ AA=>bh U<|bD<|ab<|ab<|aA ?_
  refine hN _ _ _ (ic (vs:=[]) trivial fun w hs=>KI 3 U (by rw [T] at B; exact wV B) C D hs)
 try dsimp only
 refine bo 1 U<|RK AB<|aj fun _ P=>aN U<|WK P<|ay<|WS fun _ R=>rS (SX (js 2 U U U) U U)<|bo 2 U<|RK R<|WS fun _ K=>rP 2 [] mn ?_
 refine kO (k:=ys) (k':=(ys++[(x)])) 3 (by first|exact hsz|exact Nat.le_refl _) hY C D U U U (by exact ⟨x,_,oE hn hm B,U,U⟩) U U (fun B9 F E=>?_) (fun B9 F E=>?_)
 rotate_left 1
 ·refine rP 1 [] mn ?_
  refine RK K<|aN U<|ar ?_
  refine hQ _ _ _ (ic (vs:=[]) trivial fun w hs=>sP 3 U F E hs)
 refine rP 1 [] mn ?_
 refine RK K<|bh U<|ck<|aG<|hU 2 U fT U ?_
 refine aR (N ⟨((cJ left x),(ys++[(x)]),B9),⟨oE hn hm B,gh H,F,E⟩⟩ _ _ _ U (fg hm) (aT U) (aI [0,1,2,3]))
theorem GB (gm:Nat):
 lx Tryz.prog 42 [(Value.map (some gm))] [] (fun (x:Nat)=>(Value.func (.func 68) [].toArray [(vP x)].toArray)) (fun (x:Nat)=>True) (fun (x:Nat)=>[(cm x 64 [(Value.map (some gm))])]):=by
 refine dp kr Tryz.func42 U U fun D Q hQ hN=>?_
 try dsimp only
 refine WS fun _ A=>uP U U fun C=>bo 1 U<|RK A<|WS fun _ B=>rS (FU U)<|rP 1 [] mn ?_
 refine RK B<|ar<|LX hQ C [0] [] mn U U U U ?_
 trivial
end
section
open Go.RowKit
theorem H4 (m:g0) (gm g1:Nat) (hlen:m.length≤12):
 lx Tryz.prog 94 [(vS none 0 0),(Value.func (.func 68) [].toArray [(vP g1)].toArray)] [(im iV gm (bS dE m)),(cm g1 64 [(Value.map (some gm))])] (fun (x:(List Int)×(OA)×Nat)=>(vS x.2.1 x.1.length x.2.2)) (fun (x:(List Int)×(OA)×Nat)=>x.1.Perm (m.map (·.1))) (fun (x:(List Int)×(OA)×Nat)=>[(own x.2.1 x.2.2 3 1 (x.1.map iC))]):=by
 refine dp kr Tryz.func94 U U fun X Q hQ hN=>?_
 try dsimp only
 refine WS fun _ AB=>uP U U fun N=>bo 1 U<|RK AB<|aj fun _ J=>WS fun _ K=>rP 1 [] mn ?_
 refine RK K<|ay<|kN 1 U (by exact fun _ h=>h)<|kN 3 U (by exact fun _ h=>h)<|gl 3 1 ?_
 refine oc (L0:=[(2,(vP N))]) (F:=[(im iV gm (bS dE m)).ro,(cm g1 64 [(Value.map (some gm))]).ro]) (fun k (y:(OA)×Nat)=>(∃ zs,(k++zs).Perm (m.map (·.1)))) (fun k y=>[(own y.1 y.2 3 1 (k.map iC)),(cm N 32 [(vS y.1 k.length y.2)]),(im iV gm (bS dE m)).ro]) (fun _ (_:Unit)=>False) (fun _ _=>[]) [0,3,4] [2,1] (none,0) rfl rfl (IU m gm g1) rfl rfl rfl (by exact ⟨_,List.Perm.refl _⟩) (by simp only [List.forall_mem_cons,List.not_mem_nil,false_imp_iff,implies_true,and_true]; exact ⟨⟨_,sm,(dV (bU _))⟩,⟨_,sm,(dV (bU _))⟩⟩) (by rintro k x AA ⟨n,zs,_,rfl,_⟩; rfl) rfl (aT rfl) ?_ ?_ (fun _ _ _ h=>h.elim) (fun _ _ h=>h.elim)
 rotate_left 1
 ·rintro V k ⟨a,c⟩ E A
  have B:=A
  try dsimp only at B
  try dsimp only
  refine aG<|KK J<|WS fun _ C=>rP 2 [] (mc 4 U mn) ?_
  refine RK C<|ar<|hQ _ _ _ (oW 0 U U<|ic (vs:=[(vS a k.length c)]) ⟨U,trivial⟩ fun w hs=>Ki (k,a,c) [3] ?_ ?_ U U U hs)
  ·rfl
  ·first|exact E|exact hys
 rintro k x AA ⟨a,c⟩ l ra rb S Y K5 Qr6 T hx G L D O P
 obtain ⟨n,zs,hn,rfl,rfl⟩:=hx; have M:=hn.length_eq; simp only [List.length_append,List.length_map,List.length_singleton] at M
 have B:=G
 try dsimp only at B
 try dsimp only
 refine al<|rP 1 [] mn ?_
 refine aD<|aR (L _ _ ?_)
 refine ay<|al<|rP 2 [] (mc 2 U mn) ?_
 refine du (xs:=[.tmp 9]) (cs:=[(vI n)]) U cN jv U U U U (by simp [Value.cells]) U U fun W=>?_
 refine cO (es2:=(List.map iC (k++[n]))) (m':=(k++[n]).length) 2 U U U pq U U sm (bp (es:=List.map iC [n]) 0 U U (by simp [bM]) U) (jP _) os (by simp only [maxLen]; omega) sm sm U fun R H=>?_
 try dsimp only
 refine UY U xn U U<|aD<|aG ?_
 exact D (R,H) _ _ (by exact ⟨_,hn⟩) (aI [1,2,3,4])
end
section
open Go.RowKit
theorem E7 (m:g0) (gm g1:Nat) (hlen:m.length≤12):
 lx Tryz.prog 67 [(Value.func (.func 68) [].toArray [(vP g1)].toArray)] [(im iV gm (bS dE m)),(cm g1 64 [(Value.map (some gm))])] (fun (x:(List Int)×(OA)×Nat)=>(vS x.2.1 x.1.length x.2.2)) (fun (x:(List Int)×(OA)×Nat)=>x.1.Perm (m.map (·.1))) (fun (x:(List Int)×(OA)×Nat)=>[(own x.2.1 x.2.2 3 1 (x.1.map iC))]):=by
 refine dp kr Tryz.func67 U U fun AA Q hQ hN=>?_
 try dsimp only
 refine WS fun _ A=>bo 1 U<|RK A<|WS fun _ B=>rP 1 [] mn ?_
 refine cX (H4 m gm g1 hlen) (bk [0,1]) U fun H C=>?_
 obtain ⟨E,F,G⟩:=H
 try dsimp only
 have D:=C
 refine rP 1 [] mn ?_
 refine RK B<|ar<|LX hQ (E,F,G) [0] [] mn U U U U ?_
 first|exact hfin|exact D
theorem zX (m:g0) (gm g1:Nat) (hlen:m.length≤12):
 lx Tryz.prog 41 [(Value.func (.func 68) [].toArray [(vP g1)].toArray)] [(im iV gm (bS dE m)),(cm g1 64 [(Value.map (some gm))])] (fun (x:(OA)×Nat)=>(vS x.1 m.length x.2)) (fun (x:(OA)×Nat)=>True) (fun (x:(OA)×Nat)=>[(own x.1 x.2 3 1 ((dA (m.map (·.1))).map iC))]):=by
 refine dp kr Tryz.func41 U U fun M Q hQ hN=>?_
 try dsimp only
 refine WS fun _ E=>bo 1 U<|RK E<|WS fun _ F=>rP 1 [] mn ?_
 refine cX (E7 m gm g1 hlen) (bk [0,1]) U fun L H=>?_
 obtain ⟨AA,J,K⟩:=L
 try dsimp only
 have D:=H
 refine bo 1 U<|RK F<|WS fun _ G=>rP 1 [] mn ?_
 have B:=D.length_eq
 simp only [List.length_map] at B
 refine je 0 U U U U (Aq AA J K sd) U kG U (fun ms C=>?_)
 try dsimp only
 refine RK G<|WS fun _ A=>?_
 obtain rfl:=q8 (C.1.trans D) C.2
 skip
 refine rP 2 [] mn ?_
 refine RK A<|ar ?_
 refine LX hQ (J,K) [0] [] mn U U U ?_ ?_
 ·first|rfl|(rw [B]; rfl)
 ·trivial
end
section
open Go.RowKit
theorem Oc (la:List Int) (laA:OA) (laC:Nat) (lb:List Int) (lbA:OA) (lbC:Nat) (h1:la.length≤1000000) (h2:lb.length≤1000000):
 er Tryz.prog 43 [(vS laA la.length laC),(vS lbA lb.length lbC)] [(rd laA la.length 1 (la.map iC)),(rd lbA lb.length 1 (lb.map iC))] (vB (decide (la=lb))):=by
 refine bI kr Tryz.func43 U U fun W Q hQ hN=>?_
 try dsimp only
 refine WS fun _ K=>bo 1 U<|RK K<|aj fun _ L=>WS fun _ M=>rP 5 [] mn ?_
 refine RK M<|cE U (aZ fun hl=>?_) (a_ fun hl=>?_)
 ·refine WS fun _ N=>rP 1 [] mn ?_
  refine RK N<|ar<|Q1 hQ U U U ?_
  first|exact cB (bx (jg hx hy h)).symm|exact cB (dK (cx I A I)).symm|exact cB (bx (fun e=>by subst e; omega)).symm
 refine WK L<|aj fun _ O=>WS fun _ P=>rP 3 [] mn ?_
 refine RK P<|ay ?_
 have B:(0≤la.length)∧(la.take 0=lb.take 0):=by simp
 refine bK (ι:={z:Nat // (z≤la.length)∧(la.take z=lb.take z)}) [0,1,12] [0,1] U U (fun z=>[(13,(vI (z.1:Int)))]) (fun z=>[]) (fun _=>rfl) (fun _=>rfl) (fun z=>la.length-z.1) ⟨0,B⟩ (aT U) (aI [0,1]) ?_
 clear B
 rintro ⟨i,⟨T,A⟩⟩ J7 J
 try dsimp only
 refine WS fun _ R=>rP 1 [] mn ?_
 refine RK R<|aj fun _ S=>bO U (aO fun AB=>?_) (aP fun AB=>?_)
 ·refine bD<|ab<|ab<|aA<|KK O<|WS fun _ G=>rP 1 [] mn ?_
  refine RK G<|ar<|Q1 hQ U U U ?_
  first|exact cB (bx (jg hx hy h)).symm|exact cB (dK (cx I A I)).symm|exact cB (bx (fun e=>by subst e; omega)).symm
 refine WK S<|aj fun _ C=>ay<|WS fun _ D=>bo 2 U<|RK D<|aj fun _ E=>dg cv 9 kr<|dP 2 [] mn ?_
 obtain ⟨x,hx⟩:=aH la i I
 have AA:=bJ iC hx
 refine dS (IA i U (aB 0 U) cN dc I I)<|dS (fX i 0 (vI x) U cb (aB 0 U) AA U dc U)<|dP 2 [] mn ?_
 obtain ⟨y,hy⟩:=aH lb i I
 have V:=bJ iC hy
 refine dS (IA i U (aB 1 U) cN dc I I)<|dS (fX i 0 (vI y) U cb (aB 1 U) V U dc U)<|dP 1 [] mn ?_
 refine cM<|RK E<|cE U (aZ fun h=>?_) (a_ fun h=>?_)
 ·refine WS fun _ F=>rP 1 [] mn ?_
  refine RK F<|ar<|Q1 hQ U U U ?_
  first|exact cB (bx (jg hx hy h)).symm|exact cB (dK (cx I A I)).symm|exact cB (bx (fun e=>by subst e; omega)).symm
 refine ck<|aG<|KK C<|al<|rP 2 [] mn ?_
 refine aD ?_
 have H:(vI (((i+1):Nat):Int))=(vI ((i:Int)+1)):=by exact cI I
 refine aR (J ⟨(i+1),⟨I,iQ A hx hy h⟩⟩ _ _ _ U os (cR 3<|aY U H<|dj.nil _) (aI [0,1]))
theorem uZ (h i:Int) (t:aa) (r:bY) (kA:OA) (kC:Nat) (az:List RA) (cA:OA) (cC:Nat) (bA:OA) (bC:Nat) (slA:OA) (slC:Nat) (drA:OA) (drC:Nat) (ha:List cG) (heA:OA) (heC:Nat) (hin:ej r az ha):
 lx Tryz.prog 19 [(vA (cr.cells (ou r kA kC cA cC bA bC slA slC drA drC heA heC))),(vI h),(vI i),(vA (aa.cells t))] [(rd ff 3 2 eu),(rd kA r.an.aL.length 9 (r.an.aL.map ak.cells)),(rd cA r.an.ah.length 2 (List.zipWith aq.cells r.an.ah az)),(eX (aU aq.gE r.an.ah az)),(rd bA r.an.ae.length 4 (r.an.ae.map bG.cells)),(rd slA r.aK.length 1 (r.aK.map iC)),(rd drA r.bL.length 1 (r.bL.map iC)),(rd heA r.ao.length 1 (List.zipWith ct r.ao ha)),(eX (aU hO r.ao ha))] (fun (x:(OA)×Nat)=>(vT [(vS x.1 ((dR r h i t).length) x.2),(vI (eV r h i t))])) (fun (x:(OA)×Nat)=>True) (fun (x:(OA)×Nat)=>[(own x.1 x.2 3 1 ((dR r h i t).map iC))]):=by
 have IR:=hin.line
 have Li:=hin.iv
 have Lk:=hin.has
 have J9:=hin.iA
 have J7:=hin.draw
 have DV:=dB (r:=r)
 refine dp kr Tryz.func19 U U fun w0 Q hQ hN=>?_
 try dsimp only
 refine WS fun _ IO=>fK U fun b2=>fK U fun b3=>bo 2 U<|RK IO<|WS fun _ A0=>rP 1 [] (mc 1 U mn) ?_
 refine cX (oD r kA kC az cA cC bA bC slA slC drA drC ha heA heC hin) (bk [2,3,4,5,6,7,8,9,10]) U fun y5 Di=>?_
 obtain ⟨EQ,La,v,G,f,g,AZ⟩:=y5
 cases EQ
 ·obtain ⟨B,he⟩:=Di.2 rfl
  try dsimp only at B he
  subst B
  try dsimp only [cond_true,cond_false,List.cons_append,List.nil_append]
  refine bo 5 U<|RK A0<|aj fun _ J5=>WS fun _ AC=>rP 2 [] mn ?_
  refine RK AC<|bO U (a_ fun w=>?_) (aZ fun w=>?_)
  ·exact absurd w he
  refine WS fun _ AO=>rP 1 [] mn ?_
  have A:eV r h i t=cV r:=tf he
  have C:dR r h i t=[]:=x_ (by rw [A]; exact he)
  refine eg 3 1 ?_
  rw [show (own none 0 3 1 ([]:List (List Value)))=own none 0 3 1 ((dR r h i t).map iC) from by rw [C]; rfl]
  refine rP 2 [] mn ?_
  refine RK AO<|ar ?_
  refine LX hQ (none,0) [0] [] mn U U U ?_ ?_
  ·first|rfl|(rw [A,C]; rfl)|(rw [A]; rfl)
  ·trivial
 obtain ⟨he,m⟩:=Di.1 rfl
 try dsimp only [cond_true,cond_false,List.cons_append,List.nil_append]
 have AB:=he
 try dsimp only at m
 have C1:=(iw he).2
 refine bo 5 U<|RK A0<|aj fun _ An=>WS fun _ Av=>bo 1 U<|rS (SX (cf (r:= .bool false) U U U m_) U U)<|RK Av<|bh U<|WK An<|WS fun _ Z=>rP 4 [] (mc 4 U mn) ?_
 refine cX (yn r kA kC az cA cC bA bC slA slC drA drC ha heA heC AZ f g (Value.map (some G)) v h i t hin (by exact C1)) (l5 [7,8,9,10,11,12,13,14]<|av (ag (n:=(cU r).length) 1 U (nm (by rw [DV]; exact m)))<|av (dG 2 U ua)<|fM 0 U U<|aM) U fun If d=>?_
 obtain ⟨Eq,J3,L,S,M,T,o,N,AA,O,V,P,W,R,X,Do⟩:=If
 cases Eq
 ·obtain ⟨B,he⟩:=d.2 rfl
  try dsimp only at B he
  subst B
  try dsimp only [cond_true,cond_false,List.cons_append,List.nil_append]
  refine bo 3 U<|AL U wj fun K8=>fW U qB U<|bo 1 U<|RK Z<|aj fun _ J6=>WS fun _ A1=>rP 2 [] mn ?_
  refine RK A1<|bO U (a_ fun y=>?_) (aZ fun y=>?_)
  ·exact absurd y he
  refine WS fun _ A2=>rP 1 [] mn ?_
  have A:eV r h i t=p9 r h i t:=o3 AB
  have C:dR r h i t=[]:=x_ (by rw [A]; exact he)
  refine eg 3 1 ?_
  rw [show (own none 0 3 1 ([]:List (List Value)))=own none 0 3 1 ((dR r h i t).map iC) from by rw [C]; rfl]
  refine rP 2 [] mn ?_
  refine RK A2<|ar ?_
  refine LX hQ (none,0) [0] [] mn U U U ?_ ?_
  ·first|rfl|(rw [A,C]; rfl)|(rw [A]; rfl)
  ·trivial
 obtain ⟨E,⟨j,Cp⟩,J⟩:=d.1 rfl
 try dsimp only [cond_true,cond_false,List.cons_append,List.nil_append]
 try dsimp only at E j Cp J
 have l:eV r h i t=0:=(o3 AB).trans E
 have Cx:=hin.rep j Cp J
 refine bo 3 U<|AL U wj fun LA=>fW U qB U<|bo 1 U<|RK Z<|aj fun _ A3=>WS fun _ A4=>bo 1 U<|rS (SX (cf (r:= .bool false) U U U m_) U U)<|RK A4<|bh U<|WK A3<|WS fun _ A5=>rP 1 [] (mc 0 U mn) ?_
 refine cX (oD (eC r h i t) L S o M T N AA O V P W Do R X (by exact Cx)) (fM 15 U U<|av (ag (n:=r.an.aL.length) 1 U sm)<|av (ag (n:=r.an.ah.length) 2 U (fr j))<|av (dG 3 U g7)<|av (ag (n:=r.an.ae.length) 4 U sm)<|av (ag (n:=r.aK.length) 5 U sm)<|av (ag (n:=r.bL.length) 6 U sm)<|av (ag (n:=(fR r.ao h i t).length) 7 U (de J.1))<|av (gn 8 U J)<|aM) U fun In e=>?_
 obtain ⟨FS,J4,s,p,Fd,Fn,K4⟩:=In
 cases FS
 ·obtain ⟨B,he⟩:=e.2 rfl
  try dsimp only at B he
  subst B
  try dsimp only [cond_true,cond_false,List.cons_append,List.nil_append]
  exact absurd (pg l) he
 obtain ⟨he,m⟩:=e.1 rfl
 try dsimp only [cond_true,cond_false,List.cons_append,List.nil_append]
 have C2:=nZ AB
 have F:=pB AB
 have C3:=nZ he
 have J8:=pB he
 refine bo 5 U<|RK A5<|WS fun _ A6=>bo 1 U<|RK A6<|aj fun _ A7=>WS fun _ A8=>bo 1 U<|rS (SX (bQ U U) U U)<|rP 2 [] (mc 13 U mn) ?_
 refine cX (GB G) (aM) U fun Go KY=>?_
 try dsimp only
 refine cX (zX (ax r) G Go sd) (bk [17,0]) U fun JR Kp=>?_
 obtain ⟨K5,LT⟩:=JR
 try dsimp only
 rw [show (ax r).length=(dA ((ax r).map (·.1))).length from by rw [gF,List.length_map]]
 refine rP 1 [] mn ?_
 have C0:(dA ((ax r).map (·.1))).length≤5:=by rw [gF,List.length_map]; exact F
 refine rP 1 [] mn ?_
 refine RK A8<|ay<|gl 3 1 ?_
 have D:(0≤(dA ((ax r).map (·.1))).length):=by exact Nat.zero_le _
 refine bK (ι:={z:Nat×(OA)×Nat // (z.1≤(dA ((ax r).map (·.1))).length)}) [10,13,47,48] [1,3,4,5,6,8,9,10,11,12,13,14,15,16,17,18,19,22,23,24,25,26,27,28,29,30] U U (fun z=>[(15,(vS z.1.2.1 ((((dA ((ax r).map (·.1))).take z.1.1).filter (fun u=> !decide (cY (ax r) u (aC (ax r) u)=cY (ax (eC r h i t)) u (aC (ax (eC r h i t)) u)))).length) z.1.2.2)),(49,(vI (z.1.1:Int)))]) (fun z=>[(own z.1.2.1 z.1.2.2 3 1 ((((dA ((ax r).map (·.1))).take z.1.1).filter (fun u=> !decide (cY (ax r) u (aC (ax r) u)=cY (ax (eC r h i t)) u (aC (ax (eC r h i t)) u)))).map iC))]) (fun _=>rfl) (fun _=>rfl) (fun z=>(dA ((ax r).map (·.1))).length-z.1.1) ⟨(0,none,0),D⟩ (aT U) (aI [1,3,4,5,6,8,9,10,11,12,13,14,15,16,17,18,19,22,23,24,25,26,27,28,29,30,0]) ?_
 clear D
 rintro ⟨⟨k,a,c⟩,K⟩ J65 Y
 try dsimp only at K
 try dsimp only
 have Lf:((((dA ((ax r).map (·.1))).take k).filter (fun u=> !decide (cY (ax r) u (aC (ax r) u)=cY (ax (eC r h i t)) u (aC (ax (eC r h i t)) u))))).length≤12:=Nat.le_trans (List.length_filter_le _ _) (by rw [List.length_take]; omega)
 refine WS fun _ A9=>rP 1 [] mn ?_
 refine RK A9<|aj fun _ BX=>bO U (aO fun H1=>?_) (aP fun H1=>?_)
 ·refine bD<|ab<|ab<|aA<|KK A7<|WS fun _ B9=>rP 1 [] mn ?_
  have A:=l
  have C:dR r h i t=(((dA ((ax r).map (·.1))).take k).filter (fun u=> !decide (cY (ax r) u (aC (ax r) u)=cY (ax (eC r h i t)) u (aC (ax (eC r h i t)) u)))):=by rw [x4 l,List.take_of_length_le I]
  rw [← C]
  refine rP 2 [] mn ?_
  refine RK B9<|ar ?_
  refine LX hQ (a,c) [26] [] mn U U U ?_ ?_
  ·first|rfl|(rw [A,C]; rfl)|(rw [A]; rfl)
  ·trivial
 refine WK BX<|aj fun _ b=>ay<|WS fun _ B3=>?_
 obtain ⟨x,hx⟩:=aH (dA ((ax r).map (·.1))) k I
 have Id:=bJ iC hx
 refine rS (IA k U (ag (n:=(dA ((ax r).map (·.1))).length) 0 U sm) cN dc I I)<|rS (fX k 0 (vI x) U cb (ag (n:=(dA ((ax r).map (·.1))).length) 0 U sm) Id U dc U)<|bo 1 U<|RK B3<|WS fun _ B7=>rP 2 [] mn ?_
 refine cX (Ax r kA kC cA cC bA bC slA slC drA drC heA heC f ((cU r).length) g G v (ax r) x (by exact C2) (by exact CN (aS hx)) I) (bk [13,16]) U fun Jm Kx=>?_
 obtain ⟨GE,G1⟩:=Jm
 try dsimp only
 refine rP 2 [] mn ?_
 refine cX (Ax (bY.mk r.an r.aK r.bL r.gZ (fR r.ao h i t)) L S M T N AA O V P W R X Fd ((cU (eC r h i t)).length) Fn p s (ax (eC r h i t)) x (by exact C3) (by exact fun q=>by have:=Du E x; rw [q] at this; exact CN (aS hx) (Option.not_isSome_iff_eq_none.1 (by rw [← this]; decide))) I) (bk [2,5]) U fun J2 K0=>?_
 obtain ⟨GT,Hi⟩:=J2
 try dsimp only
 refine rS (CL (Oc (cY (ax r) x (aC (ax r) x)) GE G1 (cY (ax (eC r h i t)) x (aC (ax (eC r h i t)) x)) GT Hi (by exact Nat.le_trans xM I) (by exact Nat.le_trans xM I)) (av (ag (n:=(cY (ax r) x (aC (ax r) x)).length) 1 U sm)<|av (ag (n:=(cY (ax (eC r h i t)) x (aC (ax (eC r h i t)) x)).length) 0 U sm)<|aM) U)<|rP 1 [] mn ?_
 refine RK B7<|bO U (a_ fun H=>?_) (aZ fun H=>?_)
 ·refine ck<|aG<|KK b<|al<|rP 1 [] mn ?_
  have C0:(dA ((ax r).map (·.1))).length≤5:=by rw [gF,List.length_map]; exact F
  refine rP 1 [] mn ?_
  refine aD ?_
  rw [show (((dA ((ax r).map (·.1))).take k).filter (fun u=> !decide (cY (ax r) u (aC (ax r) u)=cY (ax (eC r h i t)) u (aC (ax (eC r h i t)) u))))=(((dA ((ax r).map (·.1))).take (k+1)).filter (fun u=> !decide (cY (ax r) u (aC (ax r) u)=cY (ax (eC r h i t)) u (aC (ax (eC r h i t)) u)))) from (Gg hx (by simpa using H)).symm]
  have Ck:(vI (((k+1):Nat):Int))=(vI ((k:Int)+1)):=by exact cI I
  refine aR (Y ⟨((k+1),a,c),(by first|omega|(simp only []; omega))⟩ _ _ _ U (by first|omega|(dsimp only; omega)) (cR 5<|aY U Ck<|dj.nil _) (aI [2,3,4,5,6,7,8,9,10,11,12,13,14,15,16,17,18,19,20,21,22,23,24,25,26,27,28]))
 refine al<|rP 2 [] mn ?_
 refine du (xs:=[.tmp 62]) (cs:=[(vI x)]) U cN jv U U U U (by simp [Value.cells]) U U fun LE=>?_
 refine cO (es2:=(List.map iC (((dA ((ax r).map (·.1))).take (k+1)).filter (fun u=> !decide (cY (ax r) u (aC (ax r) u)=cY (ax (eC r h i t)) u (aC (ax (eC r h i t)) u)))))) (m':=(((dA ((ax r).map (·.1))).take (k+1)).filter (fun u=> !decide (cY (ax r) u (aC (ax r) u)=cY (ax (eC r h i t)) u (aC (ax (eC r h i t)) u)))).length) 29 U U U pq U U sm (bp (es:=List.map iC [x]) 0 U U (by simp [bM]) U) (jP _) os (by simp only [maxLen]; first|omega|(simp; omega)) (by rw [yq hx (by simpa using H)]; simp) (by rw [yq hx (by simpa using H)]; simp) U fun Ge Hj=>?_
 try dsimp only
 refine bo 1 U<|aD<|aG<|KK b<|al<|rP 1 [] mn ?_
 have C0:(dA ((ax r).map (·.1))).length≤5:=by rw [gF,List.length_map]; exact F
 refine rP 1 [] mn ?_
 refine aD ?_
 have Ci:(vI (((k+1):Nat):Int))=(vI ((k:Int)+1)):=by exact cI I
 refine aR (Y ⟨((k+1),Ge,Hj),(by first|omega|(simp only []; omega))⟩ _ _ _ U (by first|omega|(dsimp only; omega)) (cR 5<|aY U Ci<|dj.nil _) (aI [3,4,5,6,7,8,9,10,11,12,13,14,15,16,17,18,19,20,21,22,23,24,25,26,27,28,29]))
end
section
open Go.RowKit
theorem RF (h i:Int) (r:bY) (kA:OA) (kC:Nat) (az:List RA) (cA:OA) (cC:Nat) (bA:OA) (bC:Nat) (slA:OA) (slC:Nat) (drA:OA) (drC:Nat) (ha:List cG) (heA:OA) (heC:Nat) (hin:ej r az ha):
 er Tryz.prog 14 [(vA (cr.cells (ou r kA kC cA cC bA bC slA slC drA drC heA heC))),(vI h),(vI i)] [(rd ff 3 2 eu),(rd kA r.an.aL.length 9 (r.an.aL.map ak.cells)),(rd cA r.an.ah.length 2 (List.zipWith aq.cells r.an.ah az)),(eX (aU aq.gE r.an.ah az)),(rd bA r.an.ae.length 4 (r.an.ae.map bG.cells)),(rd slA r.aK.length 1 (r.aK.map iC)),(rd drA r.bL.length 1 (r.bL.map iC)),(rd heA r.ao.length 1 (List.zipWith ct r.ao ha)),(eX (aU hO r.ao ha))] (vT [(vA (aa.cells (iG r h i))),(vI (m0 r h i))]):=by
 have AO:=hin.line
 have A5:=hin.iv
 have A6:=hin.has
 have A2:=hin.iA
 have A0:=hin.draw
 have F:=dB (r:=r)
 refine bI kr Tryz.func14 U U fun w0 Q hQ hN=>?_
 try dsimp only
 refine WS fun _ u=>fK U fun b2=>AL U dx fun b3=>bo 1 U<|RK u<|WS fun _ X=>rP 1 [] (mc 1 U mn) ?_
 refine cX (oD r kA kC az cA cC bA bC slA slC drA drC ha heA heC hin) (bk [2,3,4,5,6,7,8,9,10]) U fun y5 c=>?_
 obtain ⟨f,A4,o,m,g,j,AZ⟩:=y5
 cases f
 ·obtain ⟨Y,he⟩:=c.2 rfl
  try dsimp only at Y he
  subst Y
  try dsimp only [cond_true,cond_false,List.cons_append,List.nil_append]
  refine bo 5 U<|RK X<|aj fun _ Av=>ay<|WS fun _ N=>rP 3 [] mn ?_
  refine RK N<|bO U (a_ fun M=>?_) (aZ fun M=>?_)
  ·exact absurd M he
  refine WS fun _ O=>rS (SX (bu (xs:=[]) (cs:=(aa.cells (aa.mk 0 0))) U U (br gG U)) U U)<|bo 1 U<|fW U cz U<|rP 1 [] mn ?_
  refine RK O<|ar<|lP hQ [0] (mc 0 U mn) U ?_
  first|(have e:=pc (h:=h) (i:=i) he; have B:iG r h i=dN:=if_neg (fun q=>by rw [e] at q; exact he q); rw [e,B]; rfl)|(have e:=o4 (h:=h) (i:=i) he I; have B:iG r h i=dN:=if_neg (fun q=>by rw [e] at q; cases q); rw [e,B]; rfl)|(have e:=n9 he I A hd C; have B:iG r h i=dN:=if_neg (fun q=>by rw [e] at q; cases q); rw [e,B]; rfl)|(have e:=q6 he I A hd C; rw [e.1,e.2,H]; done)
 obtain ⟨he,J⟩:=c.1 rfl
 try dsimp only [cond_true,cond_false,List.cons_append,List.nil_append]
 try dsimp only at J
 have a:=(iw he).2
 refine bo 5 U<|RK X<|aj fun _ P=>ay<|WS fun _ R=>bo 1 U<|rS (SX (cf (r:= .bool false) U U U m_) U U)<|bo 1 U<|RK R<|bh U<|WS fun _ K=>rP 5 [] (mc 5 U mn) ?_
 refine du (xs:=[.tmp 25]) (cs:=[(vI h)]) U cN jv U U U U (by simp [Value.cells]) U U fun k=>?_
 refine rS (CL (er.eq (kp 0 ((r.ao.length:Int)-1) ([h]) (some ⟨k,0,none⟩) 1 sd) df) (av (bp 0 U U (by simp [bM]) U)<|aM) U) ?_
 refine rP 2 [] mn ?_
 refine cH (t:=29) U (aZ fun s=>?_) (a_ fun s=>?_)
 ·refine bo 7 U<|RK K<|aN U<|WS fun _ S=>rS (SX (bu (xs:=[]) (cs:=(aa.cells (aa.mk 0 0))) U U (br gG U)) U U)<|IM U cz U<|rP 1 [] mn ?_
  refine RK S<|ar<|lP hQ [0] (mc 5 U mn) U ?_
  first|(have e:=pc (h:=h) (i:=i) he; have B:iG r h i=dN:=if_neg (fun q=>by rw [e] at q; exact he q); rw [e,B]; rfl)|(have e:=o4 (h:=h) (i:=i) he I; have B:iG r h i=dN:=if_neg (fun q=>by rw [e] at q; cases q); rw [e,B]; rfl)|(have e:=n9 he I A hd C; have B:iG r h i=dN:=if_neg (fun q=>by rw [e] at q; cases q); rw [e,B]; rfl)|(have e:=q6 he I A hd C; rw [e.1,e.2,H]; done)
 refine rP 2 [] mn ?_
 refine du (xs:=[.tmp 31]) (cs:=[(vI i)]) U cN jv U U U U (by simp [Value.cells]) U U fun l=>?_
 refine rS (CL (er.eq (Bh r kA kC az cA cC bA bC slA slC drA drC ha heA heC AZ g j (Value.map (some m)) o ([i]) (some ⟨l,0,none⟩) 1 hin sd) df) (l5 [9,10,11,12,13,14,15,16]<|av (ag (n:=(cU r).length) 3 U (nm (by rw [F]; exact J)))<|av (dG 4 U ua)<|fM 2 U U<|av (bp 0 U U (by simp [bM]) U)<|aM) U) ?_
 refine rP 3 [] mn ?_
 refine RK K<|cE U (aZ fun p=>?_) (a_ fun p=>?_)
 ·refine WS fun _ T=>rS (SX (bu (xs:=[]) (cs:=(aa.cells (aa.mk 0 0))) U U (br gG U)) U U)<|Nd U cz U<|rP 1 [] mn ?_
  refine RK T<|ar<|lP hQ [0] (mc 6 U mn) U ?_
  first|(have e:=pc (h:=h) (i:=i) he; have B:iG r h i=dN:=if_neg (fun q=>by rw [e] at q; exact he q); rw [e,B]; rfl)|(have e:=o4 (h:=h) (i:=i) he I; have B:iG r h i=dN:=if_neg (fun q=>by rw [e] at q; cases q); rw [e,B]; rfl)|(have e:=n9 he I A hd C; have B:iG r h i=dN:=if_neg (fun q=>by rw [e] at q; cases q); rw [e,B]; rfl)|(have e:=q6 he I A hd C; rw [e.1,e.2,H]; done)
 refine WS fun _ AA=>rP 3 [] (mc 7 U mn) ?_
 obtain ⟨ht,A⟩:=aH r.ao ((h).toNat) I
 obtain ⟨D,E⟩:=aH ha ((h).toNat) I
 have Z:(List.zipWith ct r.ao ha)[(h).toNat]? =some (ct ht D):=cT A E
 refine rS (IA ((h).toNat) U (aB 15 U) lu dc I I) ?_
 have z:=hin.kb _ _ _ A E
 have A1:=z.mW
 have AC:=(a.kb ht (aS A)).1
 refine rS (fX ((h).toNat) 0 (vS D.1.1 ht.length D.1.2) U cb (aB 15 U) Z U dc U)<|rP 1 [] mn ?_
 obtain ⟨d,hd⟩:=aH ht ((i).toNat) I
 obtain ⟨da,v⟩:=aH D.2 ((i).toNat) I
 have y:(List.zipWith au.cells ht D.2)[(i).toNat]? =some (au.cells d da):=cT hd v
 refine rS (IA ((i).toNat) U (show g9 _ (rd D.1.1 ht.length 7 (List.zipWith au.cells ht D.2)).holds from (cw 16 U (bH A E bZ))) pN dc I I)<|rS (mV (((i).toNat)*7) U (show g9 _ (rd D.1.1 ht.length 7 (List.zipWith au.cells ht D.2)).holds from (cw 16 U (bH A E bZ))) (Nat.mul_pos I dc) fw U)<|rS (fX ((i).toNat) 0 (vB d.Out) U cb (show g9 _ (rd D.1.1 ht.length 7 (List.zipWith au.cells ht D.2)).holds from (cw 16 U (bH A E bZ))) y U dc U)<|rP 1 [] mn ?_
 refine RK AA<|cE U (fun C=>?_) (fun C=>?_)
 ·refine WS fun _ V=>rS (SX (bu (xs:=[]) (cs:=(aa.cells (aa.mk 0 0))) U U (br gG U)) U U)<|Nd U cz U<|rP 1 [] mn ?_
  refine RK V<|ar<|lP hQ [0] (mc 6 U mn) U ?_
  first|(have e:=pc (h:=h) (i:=i) he; have B:iG r h i=dN:=if_neg (fun q=>by rw [e] at q; exact he q); rw [e,B]; rfl)|(have e:=o4 (h:=h) (i:=i) he I; have B:iG r h i=dN:=if_neg (fun q=>by rw [e] at q; cases q); rw [e,B]; rfl)|(have e:=n9 he I A hd C; have B:iG r h i=dN:=if_neg (fun q=>by rw [e] at q; cases q); rw [e,B]; rfl)|(have e:=q6 he I A hd C; rw [e.1,e.2,H]; done)
 refine ck<|aG<|KK P<|WS fun _ W=>bo 1 U<|rS (SX (bQ U U) U U)<|rP 3 [] (mc 2 U mn) ?_
 obtain ⟨tr,AB⟩:=aH (cU r) ((h).toNat) I
 obtain ⟨tra,G⟩:=aH AZ ((h).toNat) I
 have b:(List.zipWith Ew (cU r) AZ)[(h).toNat]? =some (Ew tr tra):=cT AB G
 refine rS (IA ((h).toNat) U (ag (n:=(cU r).length) 3 U (nm (by rw [F]; exact J))) Od dc I I) ?_
 have L:=zA A AB
 have A3:tr.length=r.aK.length:=by rw [L,List.length_map]; exact AC
 refine rS (fX ((h).toNat) 0 (vS tra.1 tr.length tra.2) U cb (ag (n:=(cU r).length) 3 U (nm (by rw [F]; exact J))) b U dc U) ?_
 refine rP 1 [] mn ?_
 obtain ⟨x,hx⟩:=aH tr ((i).toNat) I
 have An:=bJ aa.cells hx
 refine rS (IA ((i).toNat) U (show g9 _ (rd tra.1 tr.length 2 (tr.map aa.cells)).holds from (fun w hw=>(dG 4 U ua) w hw _ (bH AB G (by simp [M3])))) jY dc I I) ?_
 have H:=ME L hx hd
 refine rS (lS ((i).toNat) 0 (aa.cells x) U cb (show g9 _ (rd tra.1 tr.length 2 (tr.map aa.cells)).holds from (fun w hw=>(dG 4 U ua) w hw _ (bH AB G (by simp [M3])))) An U dc U U)<|Nd U cz U<|rP 1 [] mn ?_
 refine RK W<|ar<|lP hQ [0] (mc 6 U mn) U ?_
 first|(have e:=pc (h:=h) (i:=i) he; have B:iG r h i=dN:=if_neg (fun q=>by rw [e] at q; exact he q); rw [e,B]; rfl)|(have e:=o4 (h:=h) (i:=i) he I; have B:iG r h i=dN:=if_neg (fun q=>by rw [e] at q; cases q); rw [e,B]; rfl)|(have e:=n9 he I A hd C; have B:iG r h i=dN:=if_neg (fun q=>by rw [e] at q; cases q); rw [e,B]; rfl)|(have e:=q6 he I A hd C; rw [e.1,e.2,H]; done)
end
section
open Go.RowKit
theorem Lb (a b:Int) (r:bY) (kA:OA) (kC:Nat) (cA:OA) (cC:Nat) (bA:OA) (bC:Nat) (slA:OA) (slC:Nat) (drA:OA) (drC:Nat) (heA:OA) (heC:Nat) (tA:OA) (tN tC:Nat) (gs gw:Nat) (m:g0) (g1:Nat) (hb: ∀ p∈m,0≤p.2.Lo∧p.2.Lo≤p.2.Hi∧p.2.Hi≤30000000):
 er Tryz.prog 50 [(vI a),(vI b),(vP g1)] [(cm gw 91 (gd.cells (gd.mk (ou r kA kC cA cC bA bC slA slC drA drC heA heC) (bq.mk tA tN tC) (Value.map (some gs))))),(im iV gs (bS dE m)),(cm g1 81 [(vP gw)])] (vI ((aC m a).Lo-(aC m b).Lo)):=by
 have A:=g6 (i:=a) hb
 have B:=g6 (i:=b) hb
 refine bI kr Tryz.func50 U U fun E Q hQ hN=>?_
 try dsimp only
 refine WS fun _ C=>bo 1 U<|RK C<|aj fun _ D=>dg cv 16 kr<|mw 1 [] (mr 2 U mn) U<|dS (SX (bQ U U) U U)<|mw 3 [] (mr 0 U mn) U<|dS (SX (iT (kV:=iV) (x:=a) (l:=m) (f:=dE) (z:=(aa.mk 0 0)) U U U lv (dT mX) tm (by exact ly 1 U)) U U)<|dS (SX (ld (v:=(vI (((List.lookup a m).getD (aa.mk 0 0)).Lo))) U U fw AN U) U U)<|mw 1 [] (mr 2 U mn) U<|dS (SX (bQ U U) U U)<|dP 3 [] (mr 0 U mn) ?_
 refine dS (SX (iT (kV:=iV) (x:=b) (l:=m) (f:=dE) (z:=(aa.mk 0 0)) U U U lv (dT mX) tm (by exact ly 1 U)) U U)<|dS (SX (ld (v:=(vI (((List.lookup b m).getD (aa.mk 0 0)).Lo))) U U fw AN U) U U) ?_
 unfold aC at A B
 simp only [dN] at A B
 refine dP 2 [] mn ?_
 refine cM<|RK D<|ar ?_
 exact Q1 hQ U U U U
theorem FJ (r:bY) (kA:OA) (kC:Nat) (az:List RA) (cA:OA) (cC:Nat) (bA:OA) (bC:Nat) (slA:OA) (slC:Nat) (drA:OA) (drC:Nat) (ha:List cG) (heA:OA) (heC:Nat) (hin:ej r az ha):
 lx Tryz.prog 21 [(vA (cr.cells (ou r kA kC cA cC bA bC slA slC drA drC heA heC)))] [(rd ff 3 2 eu),(rd kA r.an.aL.length 9 (r.an.aL.map ak.cells)),(rd cA r.an.ah.length 2 (List.zipWith aq.cells r.an.ah az)),(eX (aU aq.gE r.an.ah az)),(rd bA r.an.ae.length 4 (r.an.ae.map bG.cells)),(rd slA r.aK.length 1 (r.aK.map iC)),(rd drA r.bL.length 1 (r.bL.map iC)),(rd heA r.ao.length 1 (List.zipWith ct r.ao ha)),(eX (aU hO r.ao ha))] (fun (x:(List RA)×(OA)×Nat)=>(vT [(vS x.2.1 ((dU r).length) x.2.2),(vI (cV r))])) (fun (x:(List RA)×(OA)×Nat)=>x.1.length=(dU r).length) (fun (x:(List RA)×(OA)×Nat)=>[(own x.2.1 x.2.2 32 1 (List.zipWith nI (dU r) x.1)),(bB (aU tF (dU r) x.1))]):=by
 have IO:=hin.line
 have Li:=hin.iv
 have Lk:=hin.has
 have J6:=hin.iA
 have J3:=hin.draw
 have J7:=dB (r:=r)
 refine dp kr Tryz.func21 U U fun w0 Q hQ hN=>?_
 try dsimp only
 refine WS fun _ Ge=>fK U fun b2=>bo 2 U<|RK Ge<|WS fun _ An=>rP 1 [] (mc 0 U mn) ?_
 refine cX (oD r kA kC az cA cC bA bC slA slC drA drC ha heA heC hin) (bk [1,2,3,4,5,6,7,8,9]) U fun y4 Di=>?_
 obtain ⟨Do,LT,X,O,EQ,W,Kp⟩:=y4
 cases Do
 ·obtain ⟨C2,he⟩:=Di.2 rfl
  try dsimp only at C2 he
  subst C2
  try dsimp only [cond_true,cond_false,List.cons_append,List.nil_append]
  refine bo 3 U<|AL U S4 fun K0=>HA U Uq U U<|bo 1 U<|RK An<|aj fun _ J2=>WS fun _ p=>rP 2 [] mn ?_
  refine RK p<|bO U (a_ fun g=>?_) (aZ fun g=>?_)
  ·exact absurd g he
  refine WS fun _ s=>rP 1 [] mn ?_
  have E:dU r=[]:=BJ he
  have Z:([]:List RA).length=(dU r).length:=by rw [E]; rfl
  refine eg 32 1<|yf ?_
  rw [show (own none 0 32 1 ([]:List (List Value)))=own none 0 32 1 (List.zipWith nI (dU r) []) from by rw [E]; rfl,show bB []=bB (aU tF (dU r) []) from by rw [E]; rfl]
  refine rP 2 [] mn ?_
  refine RK s<|ar ?_
  refine LX hQ ([],none,0) [1,0] [] mn U (by show List.all _ _=true; simp only [fz,List.all_nil,JV,Bool.and_true]; rfl) U ?_ ?_
  ·first|rfl|(rw [E]; rfl)|(rw [he,← E,List.length_map]; rfl)|(rw [he,E]; rfl)
  ·exact Z
 obtain ⟨he,L2⟩:=Di.1 rfl
 try dsimp only [cond_true,cond_false,List.cons_append,List.nil_append]
 have AB:=nZ he
 have J5:=pB he
 refine bo 3 U<|AL U S4 fun R=>HA U Uq U U<|bo 1 U<|RK An<|aj fun _ t=>WS fun _ v=>bo 1 U<|rS (SX (cf (r:= .bool false) U U U m_) U U)<|RK v<|bh U<|WK t<|WS fun _ w=>bo 1 U<|RK w<|WS fun _ y=>bo 1 U<|RK y<|aj fun _ AC=>WS fun _ AO=>fG 1 [] (mc 0 U mn) U<|rS (SX (bQ U U) U U)<|rP 2 [] (mc 1 U mn) ?_
 refine cX (GB O) (aM) U fun Fd J8=>?_
 try dsimp only
 refine cX (zX (ax r) O Fd sd) (bk [5,0]) U fun JR J9=>?_
 obtain ⟨FS,Fn⟩:=JR
 try dsimp only
 rw [show (ax r).length=(dA ((ax r).map (·.1))).length from by rw [gF,List.length_map]]
 refine rS (FU U) ?_
 refine cX (Ag (dA ((ax r).map (·.1))) FS Fn (Value.func (.func 50) [].toArray [(vP R)].toArray) (fun u=>(aC (ax r) u).Lo) (eX [(cm X 91 (gd.cells (gd.mk (ou r kA kC cA cC bA bC slA slC drA drC heA heC) (bq.mk EQ ((cU r).length) W) (Value.map (some O))))),(im iV O (bS dE (ax r))),(cm R 81 [(vP X)])]) (by intro If In _; exact n_ (fi:=[]) (ca:=[(vP R)]) (mz (Lb If In r kA kC cA cC bA bC slA slC drA drC heA heC EQ ((cU r).length) W O X (ax r) R (by first|assumption|omega)) (NC 0 1 2 U U U U U U))) (by exact Ts AB) (by rw [gF,List.length_map]; omega)) (av (ag (n:=(dA ((ax r).map (·.1))).length) 0 U sm)<|av (mE (NC 3 6 2 U U U U U U))<|aM) U fun Jm KY=>?_
 obtain ⟨Kx,LE⟩:=Jm
 try dsimp only
 have L0:(eN (fun u=>(aC (ax r) u).Lo) (dA ((ax r).map (·.1)))).length=(ax r).length:=by rw [kK,gF,List.length_map]
 have DV:En (fun u=>(aC (ax r) u).Lo) (eN (fun u=>(aC (ax r) u).Lo) (dA ((ax r).map (·.1)))):=u0
 refine rP 2 [] mn ?_
 refine RK AO<|ay<|gl 32 1<|lY ?_
 have H:(0≤(eN (fun u=>(aC (ax r) u).Lo) (dA ((ax r).map (·.1)))).length)∧(([]:List RA).length=([]:List (List Int)).length)∧(mK (aC (ax r)) ((eN (fun u=>(aC (ax r) u).Lo) (dA ((ax r).map (·.1)))).take 0) ([]:List (List Int)) (-1))∧(-1≤(-1)∧(-1)≤30000000):=by exact ⟨Nat.zero_le _,rfl,FQ,I⟩
 refine bK (ι:={z:Nat×(List (List Int))×(List RA)×(OA)×Nat×Int // (z.1≤(eN (fun u=>(aC (ax r) u).Lo) (dA ((ax r).map (·.1)))).length)∧(z.2.2.1.length=z.2.1.length)∧(mK (aC (ax r)) ((eN (fun u=>(aC (ax r) u).Lo) (dA ((ax r).map (·.1)))).take z.1) z.2.1 z.2.2.2.2.2)∧(-1≤z.2.2.2.2.2∧z.2.2.2.2.2≤30000000)}) [1,4,29,30] [2,3,5,6,7,8,9,11,12,13,14,15,16,17,18,19] U U (fun z=>[(6,(vS z.1.2.2.2.1 z.1.2.1.length z.1.2.2.2.2.1)),(7,(vI z.1.2.2.2.2.2)),(31,(vI (z.1.1:Int)))]) (fun z=>[(bB (aU tF z.1.2.1 z.1.2.2.1)),(own z.1.2.2.2.1 z.1.2.2.2.2.1 32 1 (List.zipWith nI z.1.2.1 z.1.2.2.1))]) (fun _=>rfl) (fun _=>rfl) (fun z=>(eN (fun u=>(aC (ax r) u).Lo) (dA ((ax r).map (·.1)))).length-z.1.1) ⟨(0,([]:List (List Int)),([]:List RA),none,0,(-1)),H⟩ (aT U) (aI [2,3,5,6,7,8,9,11,12,13,14,15,16,17,18,19,0,1]) ?_
 clear H
 rintro ⟨⟨i,G,gz,a,c,last⟩,⟨b,C,A,d⟩⟩ J37 T
 try dsimp only at b C A d
 try dsimp only
 have G1:G.length≤12:=by have:=Gf A; omega
 have La:(G++[([]:List Int)]).length=G.length+1:=by simp
 have J4:(gz++[((none,0):RA)]).length=gz.length+1:=by simp
 refine WS fun _ Av=>rP 1 [] mn ?_
 refine RK Av<|aj fun _ A0=>bO U (aO fun GE=>?_) (aP fun GE=>?_)
 ·refine bD<|ab<|ab<|aA<|KK AC<|aj fun _ A8=>aj fun _ A9=>?_
  have G1:G.length≤12:=by have:=Gf A; omega
  refine al<|rP 3 [] mn ?_
  refine RK A9<|ay ?_
  have H:(0≤G.length):=by exact Nat.zero_le _
  refine bK (ι:={z:Nat // (z≤G.length)}) [1,6,66,67] [0,1,3,4,5,6,7,8,9,10,11,12,13,14,15,17] U U (fun z=>[(68,(vI (z.1:Int)))]) (fun z=>[(bB (aU tF (nM G z.1) gz))]) (fun _=>rfl) (fun _=>rfl) (fun z=>G.length-z.1) ⟨0,H⟩ (aT U) (aI [0,1,3,4,5,6,7,8,9,10,11,12,13,14,15,17,16]) ?_
  clear H
  rintro ⟨j,Eq⟩ J65 h
  try dsimp only
  refine WS fun _ BX=>rP 1 [] mn ?_
  refine RK BX<|aj fun _ B3=>bO U (aO fun GT=>?_) (aP fun GT=>?_)
  ·refine bD<|ab<|ab<|aA<|KK A8<|aj fun _ Ci=>?_
   have H1:G.length≤j:=by omega
   have Y:=vG A.ok
   rw [List.take_of_length_le I] at Y
   have E:G.map dA=dU r:=ux he (qH Y.1 (qS.trans fp)) Y.2
   have Z:gz.length=(dU r).length:=by rw [← E,List.length_map]; omega
   rw [EY H1,E,← L_,E]
   refine al<|bo 1 U<|rP 2 [] mn ?_
   refine RK Ci<|ar ?_
   refine LX hQ (gz,a,c) [15,16] [] mn U (by show List.all _ _=true; simp only [fz,List.all_nil,JV,Bool.and_true]; rfl) U ?_ ?_
   ·first|rfl|(rw [E]; rfl)|(rw [he,← E,List.length_map]; rfl)|(rw [he,E]; rfl)
   ·exact Z
  refine WK B3<|aj fun _ B7=>ay<|aj fun _ B9=>?_
  obtain ⟨cg,B⟩:=aH G j I
  obtain ⟨cga,D⟩:=aH gz j I
  have F:(List.zipWith nI G gz)[j]? =some (nI cg cga):=cT B D
  refine E3 (f:=tF) 16 (Io B) D U U U ?_
  try dsimp only
  refine al<|rS (IA j U (ag (n:=G.length) 17 U (lD C)) pV dc I I)<|rS (fX j 0 (vS cga.1 cg.length cga.2) U cb (ag (n:=G.length) 17 U (lD C)) F U dc U)<|bo 1 U<|RK B9<|al<|rP 1 [] mn ?_
  refine je 0 U U U U (Aq cg cga.1 cga.2 (by have:=AD A (aS B); omega)) U kG U (fun msrt C3=>?_)
  try dsimp only
  refine aD<|aG<|KK B7<|al<|rP 2 [] mn ?_
  refine aD ?_
  obtain rfl:=q8 C3.1 C3.2
  refine Np (f:=tF) (ms:=nM G j) (m:=dA cg) 1 0 (by rw [Fy]; omega) D U U U ?_
  rw [Ee B]
  have C1:(vI (((j+1):Nat):Int))=(vI ((j:Int)+1)):=by exact cI I
  refine aR (h ⟨(j+1),(by first|omega|(simp only []; omega))⟩ _ _ _ U os (cR 4<|aY U C1<|dj.nil _) (aI [1,2,3,4,5,6,7,8,9,10,11,12,13,14,15,16,0]))
 refine WK A0<|aj fun _ AA=>ay<|WS fun _ A1=>?_
 obtain ⟨x,hx⟩:=aH (eN (fun u=>(aC (ax r) u).Lo) (dA ((ax r).map (·.1)))) i I
 have Id:=bJ iC hx
 refine rS (IA i U (ag (n:=(eN (fun u=>(aC (ax r) u).Lo) (dA ((ax r).map (·.1)))).length) 0 U sm) cN dc I I)<|rS (fX i 0 (vI x) U cb (ag (n:=(eN (fun u=>(aC (ax r) u).Lo) (dA ((ax r).map (·.1)))).length) 0 U sm) Id U dc U)<|bo 1 U<|RK A1<|WS fun _ A2=>fG 1 [] (mc 2 U mn) U<|rS (SX (bQ U U) U U)<|rP 2 [] (mc 3 U mn) ?_
 have IR:=g6 (i:=x) AB
 refine rP 1 [] mn ?_
 refine rS (SX (iT (kV:=iV) (x:=x) (l:=(ax r)) (f:=dE) (z:=(aa.mk 0 0)) U U U lv (dT mX) tm (by exact aB 6 U)) U U)<|AL U dx fun K4=>fW U cz U<|RK A2<|aj fun _ V=>WS fun _ A3=>?_
 rw [show ((List.lookup x (ax r)).getD (aa.mk 0 0))=(aC (ax r) x) from rfl]
 refine rP 4 [] (mc 0 U mn) ?_
 refine RK A3<|bO U (aO fun N=>?_) (aP fun N=>?_)
 ·refine WK V<|aj fun _ A6=>?_
  have Lf:1≤G.length:=F0 IR.1 A N
  refine al<|rP 4 [] mn ?_
  refine RK A6<|aj fun _ A7=>?_
  have Hj:(G.length-1)<G.length:=by first|omega|(simp; done)
  obtain ⟨cg,B⟩:=aH G (G.length-1) I
  obtain ⟨cga,D⟩:=aH gz (G.length-1) I
  have F:(List.zipWith nI G gz)[(G.length-1)]? =some (nI cg cga):=cT B D
  refine E3 (f:=tF) 17 B D U U U ?_
  try dsimp only
  refine al<|bo 4 U<|rS (IA (G.length-1) U (ag (n:=G.length) 19 U (lD C)) pV dc I I)<|rS (fX (G.length-1) 0 (vS cga.1 cg.length cga.2) U cb (ag (n:=G.length) 19 U (lD C)) F U dc U)<|rP 1 [] mn ?_
  have Go:cg.length≤12:=(dQ.1 (show cg∈G++[[]] from by first|exact aS B|exact List.mem_append_left _ (aS B))).elim (fun q=>by have:=AD A q; omega) (fun q=>by simp at q; subst q; simp)
  refine du (xs:=[.tmp 57]) (cs:=[(vI x)]) U cN jv U U U U (by simp [Value.cells]) U U fun LA=>?_
  refine cO (es2:=(List.map iC (cg++[x]))) (m':=(cg++[x]).length) 1 U U U pq U U sm (bp (es:=List.map iC [x]) 0 U U (by simp [bM]) U) (jP _) os (by first|(simp only [maxLen]; omega)|(simp [maxLen]; omega)) sm sm U fun K M=>?_
  try dsimp only
  refine rS (IA (G.length-1) U (ag (n:=G.length) 20 U (lD C)) pV dc I I)<|dI (k:=(G.length-1)) (o:=0) (vs:=[(vS K ((cg++[x]).length) M)]) (es':=(List.zipWith nI (G.set (G.length-1) (cg++[x])) (gz.set (G.length-1) (K,M)))) (C':=[_,_,_,_,_,_,_,_,_,_,_,_,_,_,_,_,_,_,_,_,(own a c 32 1 (List.zipWith nI (G.set (G.length-1) (cg++[x])) (gz.set (G.length-1) (K,M))))]) 20 U U U xn U U U U F U dc (by exact o6 (c:=nI) (m:=(cg++[x])) (a:=(K,M))) U<|FP (f:=tF) (ms:=G) (asl:=gz) (m:=(cg++[x])) (a:=(K,M)) 2 1 I I U U U<|RK A7<|al<|fG 3 [] (mc 2 U mn) U<|rS (MX U)<|bo 1 U<|aD<|aG<|KK AA<|al<|rP 2 [] mn ?_
  refine aD ?_
  have Cx:(vS a ((G.set (G.length-1) (cg++[x])).length) c)=(vS a G.length c):=by rw [List.length_set]
  have C0:(vI (((i+1):Nat):Int))=(vI ((i:Int)+1)):=by exact cI I
  refine aR (T ⟨((i+1),(G.set (G.length-1) (cg++[x])),(gz.set (G.length-1) (K,M)),a,c,(max last ((aC (ax r) x).Hi))),⟨I,by simp; omega,by first|exact pU I hx B A N|exact oV I (fun u _=>(g6 (i:=u) AB).2.1) DV hx B A N,dso⟩⟩ _ _ _ U os (cR 4<|aY U Cx<|dj.cons U<|aY U C0<|dj.nil _) (aI [3,4,5,6,7,8,9,10,11,12,13,14,15,16,17,18,0,19]))
 refine al<|rP 1 [] mn ?_
 refine du (xs:=[.const (vS none 0 0)]) (cs:=[(vS none 0 0)]) U pV wm U U U U (by simp [Value.cells]) U U fun K5=>?_
 refine cO (es2:=(List.zipWith nI (G++[[]]) (gz++[(none,0)]))) (m':=(G++[[]]).length) 19 rfl rfl rfl VS rfl rfl (lD C).symm (bp (es:=List.zipWith nI [[]] [(none,0)]) 0 rfl rfl (by intro e he; simp [nI] at he; subst he; rfl) rfl) (N3 _ _) I (by simp only [maxLen]; omega) (HS I) (by simp; omega) rfl fun P S=>?_
 try dsimp only
 refine eg 3 1<|QN (Y':=aU tF (G++[[]]) (gz++[(none,0)])) 19 0 U U (E6 I U)<|bo 1 U<|RK V<|WS fun _ A4=>rP 4 [] mn ?_
 refine RK A4<|aj fun _ A5=>?_
 have Hj:((G++[[]]).length-1)<(G++[[]]).length:=by first|omega|(simp; done)
 obtain ⟨cg,B⟩: ∃ y_,(G++[[]])[((G++[[]]).length-1)]? =some y_:=⟨(G++[[]])[((G++[[]]).length-1)]'I,e7 _⟩
 obtain ⟨cga,D⟩: ∃ y_,(gz++[(none,0)])[((G++[[]]).length-1)]? =some y_:=⟨(gz++[(none,0)])[((G++[[]]).length-1)]'I,e7 _⟩
 have F:(List.zipWith nI (G++[[]]) (gz++[(none,0)]))[((G++[[]]).length-1)]? =some (nI cg cga):=cT B D
 refine E3 (f:=tF) 0 B D U U U ?_
 try dsimp only
 refine al<|rP 4 [] mn ?_
 refine rS (IA ((G++[[]]).length-1) U (ag (n:=(G++[[]]).length) 20 U (lD (by simp; omega))) pV dc I I) ?_
 refine rS (fX ((G++[[]]).length-1) 0 (vS cga.1 cg.length cga.2) U cb (ag (n:=(G++[[]]).length) 20 U (lD (by simp; omega))) F U dc U) ?_
 refine rP 1 [] mn ?_
 have Go:cg.length≤12:=(dQ.1 (show cg∈G++[[]] from by first|exact aS B|exact List.mem_append_left _ (aS B))).elim (fun q=>by have:=AD A q; omega) (fun q=>by simp at q; subst q; simp)
 refine du (xs:=[.tmp 57]) (cs:=[(vI x)]) U cN jv U U U U (by simp [Value.cells]) U U fun K8=>?_
 refine cO (es2:=(List.map iC (cg++[x]))) (m':=(cg++[x]).length) 1 U U U pq U U sm (bp (es:=List.map iC [x]) 0 U U (by simp [bM]) U) (jP _) os (by first|(simp only [maxLen]; omega)|(simp [maxLen]; omega)) sm sm U fun J L=>?_
 try dsimp only
 refine rS (IA ((G++[[]]).length-1) U (ag (n:=(G++[[]]).length) 21 U (lD (by simp; omega))) pV dc I I) ?_
 refine dI (k:=((G++[[]]).length-1)) (o:=0) (vs:=[(vS J ((cg++[x]).length) L)]) (es':=(List.zipWith nI ((G++[[]]).set ((G++[[]]).length-1) (cg++[x])) ((gz++[(none,0)]).set ((G++[[]]).length-1) (J,L)))) (C':=[_,_,_,_,_,_,_,_,_,_,_,_,_,_,_,_,_,_,_,_,_,(own P S 32 1 (List.zipWith nI ((G++[[]]).set ((G++[[]]).length-1) (cg++[x])) ((gz++[(none,0)]).set ((G++[[]]).length-1) (J,L))))]) 21 U U U xn U U U U F U dc (by exact o6 (c:=nI) (m:=(cg++[x])) (a:=(J,L))) U<|FP (f:=tF) (ms:=(G++[[]])) (asl:=(gz++[(none,0)])) (m:=(cg++[x])) (a:=(J,L)) 2 1 I I U U U<|RK A5<|al<|fG 3 [] (mc 3 U mn) U<|rS (MX U)<|bo 1 U<|aD<|aG<|KK AA<|al<|rP 2 [] mn ?_
 refine aD ?_
 have Ck:(vS P (((G++[[]]).set ((G++[[]]).length-1) (cg++[x])).length) S)=(vS P ((G++[[]]).length) S):=by rw [List.length_set]
 have Cp:(vI (((i+1):Nat):Int))=(vI ((i:Int)+1)):=by exact cI I
 refine aR (T ⟨((i+1),((G++[[]]).set ((G++[[]]).length-1) (cg++[x])),((gz++[(none,0)]).set ((G++[[]]).length-1) (J,L)),P,S,(max last ((aC (ax r) x).Hi))),⟨I,by simp; omega,by first|exact pU I hx B A N|exact oV I (fun u _=>(g6 (i:=u) AB).2.1) DV hx B A N,dso⟩⟩ _ _ _ U os (cR 4<|aY U Ck<|dj.cons U<|aY U Cp<|dj.nil _) (aI [4,5,6,7,8,9,10,11,12,13,14,15,16,17,18,19,0,20]))
end
section
open Go.RowKit
theorem mD (x y:Int):
 er Tryz.prog 18 [(vI x),(vI y)] [] (vA (aa.cells (aa.mk x y))):=by
 refine bI kr Tryz.func18 U U fun D Q hQ hN=>?_
 try dsimp only
 refine WS fun _ A=>AL U dx fun C=>RK A<|WS fun _ B=>rP 2 [] mn ?_
 refine rS (SX (bu (xs:=[(0,.tmp 5),(1,.tmp 6)]) (cs:=(aa.cells (aa.mk x y))) U U (br gG U)) U U)<|fW U cz U<|RK B<|ar ?_
 exact IN hQ [0] (mc 0 U mn) U U
theorem AK (x:Int):
 er Tryz.prog 58 [(vI x)] [] (vA (cK.cells (cK.mk 0 (aa.mk x x)))):=by
 refine bI kr Tryz.func58 U U fun D Q hQ hN=>?_
 try dsimp only
 refine WS fun _ A=>AL U CV fun C=>RK A<|WS fun _ B=>rP 2 [] mn ?_
 refine rS (CL (mD x x) (aM) U)<|rS (SX (bu (xs:=[(1,.tmp 5)]) (cs:=(cK.cells (cK.mk 0 (aa.mk x x)))) U U (br Ti U)) U U)<|fW U L5 U<|RK B<|ar ?_
 exact IN hQ [0] (mc 0 U mn) U U
theorem rf (x y:Int):
 er Tryz.prog 34 [(vI x),(vI y)] [] (vA (bg.cells (bg.mk false true (aa.mk x y) (dL.mk 0 0 (bq.mk none 0 0))))):=by
 refine bI kr Tryz.func34 U U fun D Q hQ hN=>?_
 try dsimp only
 refine WS fun _ A=>AL U NI fun C=>RK A<|WS fun _ B=>rP 2 [] mn ?_
 refine rS (CL (mD x y) (aM) U)<|rS (SX (bu (xs:=[(1,.const (vB true)),(2,.tmp 7)]) (cs:=(bg.cells (bg.mk false true (aa.mk x y) (dL.mk 0 0 (bq.mk none 0 0))))) U U (br O0 U)) U U)<|fW U O5 U<|RK B<|ar ?_
 exact IN hQ [0] (mc 0 U mn) U U
theorem Nt:
 lx Tryz.prog 32 [] [] (fun (x:(OA)×Nat×(OA)×Nat×(List RA)×(OA)×Nat)=>(vA (bV.cells (bV.mk (bw.mk (bq.mk x.1 aQ.an.aL.length x.2.1)) aQ.an.f_ (bq.mk x.2.2.1 aQ.an.ah.length x.2.2.2.1) (bq.mk x.2.2.2.2.2.1 aQ.an.ae.length x.2.2.2.2.2.2) aQ.an.cq aQ.an.dM aQ.an.cD)))) (fun (x:(OA)×Nat×(OA)×Nat×(List RA)×(OA)×Nat)=>x.2.2.2.2.1.length=aQ.an.ah.length∧ep aQ.an x.2.2.2.2.1) (fun (x:(OA)×Nat×(OA)×Nat×(List RA)×(OA)×Nat)=>[(own x.1 x.2.1 114 9 (aQ.an.aL.map ak.cells)),(own x.2.2.1 x.2.2.2.1 119 2 (List.zipWith aq.cells aQ.an.ah x.2.2.2.2.1)),(bB (aU aq.owns aQ.an.ah x.2.2.2.2.1)),(own x.2.2.2.2.2.1 x.2.2.2.2.2.2 121 4 (aQ.an.ae.map bG.cells))]):=by
 refine dp kr Tryz.func32 U U fun AA Q hQ hN=>?_
 try dsimp only
 refine WS fun _ E=>AL U Tc fun H=>RK E<|WS fun _ F=>bo 1 U<|RK F<|WS fun _ G=>rS (CL (mD 10000 10200) (aM) U)<|rS (CL (mD 0 100) (aM) U)<|rS (SX (bu (xs:=[(0,.const (vI 1)),(1,.tmp 2),(2,.tmp 3)]) (cs:=(ak.cells (ak.mk 1 (aa.mk 10000 10200) (aa.mk 0 100) (aa.mk 0 0) 0 0))) U U (br TB U)) U U)<|du (xs:=[.tmp 4]) (cs:=(ak.cells (ak.mk 1 (aa.mk 10000 10200) (aa.mk 0 100) (aa.mk 0 0) 0 0))) U uU GV U U U U (by simp [Value.cells,ak.aW]) U U fun B=>rS (SX (bu (xs:=[(0,.tmp 5)]) (cs:=(bw.cells (bw.mk (bq.mk (some ⟨B,0,none⟩) 1 1)))) U U (br Sh U)) U U)<|rS (CL (mD 0 2) (aM) U)<|rS (SX (bu (xs:=[(0,.const (vI 0)),(1,.tmp 7)]) (cs:=(cd.cells (cd.mk 0 (aa.mk 0 2)))) U U (br Py U)) U U)<|rS (CL (mD 5 6) (aM) U)<|rS (SX (bu (xs:=[(0,.const (vI 100000)),(1,.tmp 9)]) (cs:=(cd.cells (cd.mk 100000 (aa.mk 5 6)))) U U (br Py U)) U U)<|du (xs:=[.tmp 8,.tmp 10]) (cs:=((cd.cells (cd.mk 0 (aa.mk 0 2)))++(cd.cells (cd.mk 100000 (aa.mk 5 6))))) U m8 sI U U U U (by simp [Value.cells,cd.aW]) U U fun A=>rS (SX (bu (xs:=[(0,.const (vI 100)),(1,.tmp 11)]) (cs:=(dh.cells (dh.mk 100 (bq.mk (some ⟨A,0,none⟩) 2 2)))) U U (br SM U)) U U)<|du (xs:=[.tmp 12]) (cs:=(dh.cells (dh.mk 100 (bq.mk (some ⟨A,0,none⟩) 2 2)))) U uB xU U U U U (by simp [Value.cells,dh.aW]) U U fun C=>bo 1 U<|rS (CL (AK 1000) (aM) U)<|rS (SX (bu (xs:=[(0,.tmp 15)]) (cs:=(bG.cells (bG.mk (cK.mk 0 (aa.mk 1000 1000)) 0))) U U (br Mk U)) U U)<|bo 1 U<|rS (CL (AK 4000) (aM) U)<|rS (SX (bu (xs:=[(0,.tmp 18)]) (cs:=(bG.cells (bG.mk (cK.mk 0 (aa.mk 4000 4000)) 0))) U U (br Mk U)) U U)<|rP 1 [] mn ?_
 refine rS (CL (AK 9000) (aM) U)<|rS (SX (bu (xs:=[(0,.tmp 21)]) (cs:=(bG.cells (bG.mk (cK.mk 0 (aa.mk 9000 9000)) 0))) U U (br Mk U)) U U)<|du (xs:=[.tmp 16,.tmp 19,.tmp 22]) (cs:=((bG.cells (bG.mk (cK.mk 0 (aa.mk 1000 1000)) 0))++(bG.cells (bG.mk (cK.mk 0 (aa.mk 4000 4000)) 0))++(bG.cells (bG.mk (cK.mk 0 (aa.mk 9000 9000)) 0)))) U th TX U U U U (by simp [Value.cells,bG.aW]) U U fun D=>rS (SX (bu (xs:=[(0,.tmp 6),(1,.const (vI 2000)),(4,.const (vI 1)),(5,.const (vI 1)),(6,.const (vI 1)),(2,.tmp 13),(3,.tmp 23)]) (cs:=(bV.cells (bV.mk (bw.mk (bq.mk (some ⟨B,0,none⟩) 1 1)) 2000 (bq.mk (some ⟨C,0,none⟩) 1 1) (bq.mk (some ⟨D,0,none⟩) 3 3) 1 1 1))) U U (br UZ U)) U U) ?_
 refine db (es:=(aQ.an.aL.map ak.cells)) (C':=[_,_,_,(own (some ⟨B,0,none⟩) 1 114 9 (aQ.an.aL.map ak.cells)),_]) 3 U (nu ak.aW _) U (by show _≤maxLen; exact Nat.le_trans (m:=10) (show (1:Nat)≤10 by decide) dc) U ?_
 refine db (es:=(yW.aV.map cd.cells)) (C':=[_,_,(own (some ⟨A,0,none⟩) 2 116 3 (yW.aV.map cd.cells)),_,_]) 2 U (nu cd.aW _) U (by show _≤maxLen; exact Nat.le_trans (m:=10) (show (2:Nat)≤10 by decide) dc) U ?_
 refine db (es:=(List.zipWith aq.cells aQ.an.ah [((some ⟨A,0,none⟩),2)])) (C':=[_,(own (some ⟨C,0,none⟩) 1 119 2 (List.zipWith aq.cells aQ.an.ah [((some ⟨A,0,none⟩),2)])),_,_,_]) 1 U (by intro x hx; change x∈[aq.cells yW ((some ⟨A,0,none⟩),2)] at hx; rw [bP.1 hx]; rfl) U (by show _≤maxLen; exact Nat.le_trans (m:=10) (show (1:Nat)≤10 by decide) dc) U ?_
 refine db (es:=(aQ.an.ae.map bG.cells)) (C':=[(own (some ⟨D,0,none⟩) 3 121 4 (aQ.an.ae.map bG.cells)),_,_,_,_]) 0 U (nu bG.aW _) U (by show _≤maxLen; exact Nat.le_trans (m:=10) (show (3:Nat)≤10 by decide) dc) U ?_
 refine yf<|PI (X:=[]) (X':=aU aq.owns aQ.an.ah [((some ⟨A,0,none⟩),2)]) 0 3 U U U<|Pw U Rr U<|RK G<|ar ?_
 refine LX hQ ((some ⟨B,0,none⟩),1,(some ⟨C,0,none⟩),1,[((some ⟨A,0,none⟩),2)],(some ⟨D,0,none⟩),3) [3,2,0,1] [0] (mc 4 U mn) U (by simp only [fz,List.all_nil,fQ,Bool.and_true]; rfl) U U ?_
 exact ⟨U,Tr 1 dc⟩
theorem Ng:
 lx Tryz.prog 33 [] [] (fun (x:(OA)×Nat)=>(vA (dL.cells (dL.mk mY.Start mY.fZ (bq.mk x.1 mY.ai.length x.2))))) (fun (x:(OA)×Nat)=>True) (fun (x:(OA)×Nat)=>[(own x.1 x.2 123 2 (mY.ai.map aJ.cells))]):=by
 refine dp kr Tryz.func33 U U fun E Q hQ hN=>?_
 try dsimp only
 refine WS fun _ B=>AL U Uo fun D=>RK B<|WS fun _ C=>rS (SX (bu (xs:=[(0,.const (vI 0)),(1,.const (vI 10600))]) (cs:=(aJ.cells (aJ.mk 0 10600))) U U (br FO U)) U U)<|rS (SX (bu (xs:=[(0,.const (vI 0)),(1,.const (vI 11000))]) (cs:=(aJ.cells (aJ.mk 0 11000))) U U (br FO U)) U U)<|rS (SX (bu (xs:=[(0,.const (vI 1)),(1,.const (vI 12600))]) (cs:=(aJ.cells (aJ.mk 1 12600))) U U (br FO U)) U U)<|du (xs:=[.tmp 1,.tmp 2,.tmp 3]) (cs:=((aJ.cells (aJ.mk 0 10600))++(aJ.cells (aJ.mk 0 11000))++(aJ.cells (aJ.mk 1 12600)))) U wv Gh U U U U (by simp [Value.cells,aJ.aW]) U U fun A=>rS (SX (bu (xs:=[(0,.const (vI 10000)),(1,.const (vI 20000)),(2,.tmp 4)]) (cs:=(dL.cells (dL.mk 10000 20000 (bq.mk (some ⟨A,0,none⟩) 3 3)))) U U (br Vc U)) U U)<|db (es:=(mY.ai.map aJ.cells)) (C':=[(own (some ⟨A,0,none⟩) 3 123 2 (mY.ai.map aJ.cells)),_]) 0 U (nu aJ.aW _) U dc U<|sj U Qh U<|RK C<|ar<|LX hQ ((some ⟨A,0,none⟩),3) [0] [0] (mc 1 U mn) U U U U ?_
 trivial
end
section
open Go.RowKit
theorem jI:
 lx Tryz.prog 10 [] [] (fun (x:(OA)×Nat×(OA)×Nat×(List RA)×(OA)×Nat×(OA)×Nat×(OA)×Nat×(OA)×Nat×(List cG))=>(vA (cr.cells (cr.mk (bV.mk (bw.mk (bq.mk x.1 aQ.an.aL.length x.2.1)) aQ.an.f_ (bq.mk x.2.2.1 aQ.an.ah.length x.2.2.2.1) (bq.mk x.2.2.2.2.2.1 aQ.an.ae.length x.2.2.2.2.2.2.1) aQ.an.cq aQ.an.dM aQ.an.cD) (bq.mk x.2.2.2.2.2.2.2.1 aQ.aK.length x.2.2.2.2.2.2.2.2.1) (bq.mk x.2.2.2.2.2.2.2.2.2.1 aQ.bL.length x.2.2.2.2.2.2.2.2.2.2.1) aQ.gZ (bq.mk x.2.2.2.2.2.2.2.2.2.2.2.1 aQ.ao.length x.2.2.2.2.2.2.2.2.2.2.2.2.1))))) (fun (x:(OA)×Nat×(OA)×Nat×(List RA)×(OA)×Nat×(OA)×Nat×(OA)×Nat×(OA)×Nat×(List cG))=>ej aQ x.2.2.2.2.1 x.2.2.2.2.2.2.2.2.2.2.2.2.2∧x.2.2.2.2.1.length=aQ.an.ah.length∧su aQ.ao x.2.2.2.2.2.2.2.2.2.2.2.2.2) (fun (x:(OA)×Nat×(OA)×Nat×(List RA)×(OA)×Nat×(OA)×Nat×(OA)×Nat×(OA)×Nat×(List cG))=>[(own x.1 x.2.1 114 9 (aQ.an.aL.map ak.cells)),(own x.2.2.1 x.2.2.2.1 119 2 (List.zipWith aq.cells aQ.an.ah x.2.2.2.2.1)),(bB (aU aq.owns aQ.an.ah x.2.2.2.2.1)),(own x.2.2.2.2.2.1 x.2.2.2.2.2.2.1 121 4 (aQ.an.ae.map bG.cells)),(own x.2.2.2.2.2.2.2.1 x.2.2.2.2.2.2.2.2.1 3 1 (aQ.aK.map iC)),(own x.2.2.2.2.2.2.2.2.2.1 x.2.2.2.2.2.2.2.2.2.2.1 3 1 (aQ.bL.map iC)),(own x.2.2.2.2.2.2.2.2.2.2.2.1 x.2.2.2.2.2.2.2.2.2.2.2.2.1 46 1 (List.zipWith ct aQ.ao x.2.2.2.2.2.2.2.2.2.2.2.2.2)),(bB (aU iD aQ.ao x.2.2.2.2.2.2.2.2.2.2.2.2.2))]):=by
 refine dp kr Tryz.func10 U U fun Y Q hQ hN=>?_
 try dsimp only
 refine WS fun _ P=>AL U wj fun X=>RK P<|WS fun _ R=>cX Nt (aM) U fun W T=>?_
 obtain ⟨J,M,K,N,L,E,F⟩:=W
 try dsimp only
 obtain ⟨S,O⟩:=T
 refine du (xs:=[.const (vI 4),.const (vI 7),.const (vI 9)]) (cs:=[(vI 4),(vI 7),(vI 9)]) U cN jv U U U U (by simp [Value.cells]) U U fun G=>du (xs:=[.const (vI 2),.const (vI 0),.const (vI 1)]) (cs:=[(vI 2),(vI 0),(vI 1)]) U cN jv U U U U (by simp [Value.cells]) U U fun H=>cX Ng (aM) U fun AA V=>?_
 obtain ⟨A,B⟩:=AA
 try dsimp only
 refine rS (SX (bu (xs:=[(3,.tmp 4)]) (cs:=(bg.cells (bg.mk false false (aa.mk 0 0) (dL.mk mY.Start mY.fZ (bq.mk A mY.ai.length B))))) U U (br O0 U)) U U)<|rS (CL (rf 2600 2600) (aM) U)<|rS (CL (rf 2580 2609) (aM) U)<|du (xs:=[.tmp 5,.tmp 6,.tmp 7]) (cs:=((bg.cells (bg.mk false false (aa.mk 0 0) (dL.mk mY.Start mY.fZ (bq.mk A mY.ai.length B))))++(bg.cells (bg.mk false true (aa.mk 2600 2600) (dL.mk 0 0 (bq.mk none 0 0))))++(bg.cells (bg.mk false true (aa.mk 2580 2609) (dL.mk 0 0 (bq.mk none 0 0)))))) U pN NI U U U U (by simp [Value.cells,bg.aW]) U U fun C=>rS (CL (rf 2555 2559) (aM) U)<|rS (CL (rf 2540 2549) (aM) U)<|rS (CL (rf 2570 2575) (aM) U)<|du (xs:=[.tmp 9,.tmp 10,.tmp 11]) (cs:=((bg.cells (bg.mk false true (aa.mk 2555 2559) (dL.mk 0 0 (bq.mk none 0 0))))++(bg.cells (bg.mk false true (aa.mk 2540 2549) (dL.mk 0 0 (bq.mk none 0 0))))++(bg.cells (bg.mk false true (aa.mk 2570 2575) (dL.mk 0 0 (bq.mk none 0 0)))))) U pN NI U U U U (by simp [Value.cells,bg.aW]) U U fun D=>du (xs:=[.tmp 8,.tmp 12]) (cs:=[(vS (some ⟨C,0,none⟩) 3 3),(vS (some ⟨D,0,none⟩) 3 3)]) U lu VJ U U U U (by simp [Value.cells]) U U fun AB=>rS (SX (bu (xs:=[(0,.tmp 1),(1,.tmp 2),(2,.tmp 3),(3,.const (vI 2)),(4,.tmp 13)]) (cs:=(cr.cells (cr.mk (bV.mk (bw.mk (bq.mk J aQ.an.aL.length M)) aQ.an.f_ (bq.mk K aQ.an.ah.length N) (bq.mk E aQ.an.ae.length F) aQ.an.cq aQ.an.dM aQ.an.cD) (bq.mk (some ⟨G,0,none⟩) 3 3) (bq.mk (some ⟨H,0,none⟩) 3 3) 2 (bq.mk (some ⟨AB,0,none⟩) 2 2)))) U U (br H0 U)) U U) ?_
 refine db (es:=(aQ.aK.map iC)) (C':=[_,_,_,_,_,(own (some ⟨G,0,none⟩) 3 3 1 (aQ.aK.map iC)),_,_,_,_,_]) 5 U (nu bM _) U (by show _≤maxLen; exact Nat.le_trans (m:=10) (show (3:Nat)≤10 by decide) dc) U ?_
 refine db (es:=(aQ.bL.map iC)) (C':=[_,_,_,_,(own (some ⟨H,0,none⟩) 3 3 1 (aQ.bL.map iC)),_,_,_,_,_,_]) 4 U (nu bM _) U (by show _≤maxLen; exact Nat.le_trans (m:=10) (show (3:Nat)≤10 by decide) dc) U ?_
 refine db (es:=(List.zipWith au.cells Tl [(A,B),(none,0),(none,0)])) (C':=[_,_,(own (some ⟨C,0,none⟩) 3 45 7 (List.zipWith au.cells Tl [(A,B),(none,0),(none,0)])),_,_,_,_,_,_,_,_]) 2 U (pk FX) U (by show _≤maxLen; exact Nat.le_trans (m:=10) (show (3:Nat)≤10 by decide) dc) U ?_
 refine db (es:=(List.zipWith au.cells SY [(none,0),(none,0),(none,0)])) (C':=[_,(own (some ⟨D,0,none⟩) 3 45 7 (List.zipWith au.cells SY [(none,0),(none,0),(none,0)])),_,_,_,_,_,_,_,_,_]) 1 U (pk FX) U (by show _≤maxLen; exact Nat.le_trans (m:=10) (show (3:Nat)≤10 by decide) dc) U ?_
 refine db (es:=(List.zipWith ct aQ.ao [(((some ⟨C,0,none⟩),3),[(A,B),(none,0),(none,0)]),(((some ⟨D,0,none⟩),3),[(none,0),(none,0),(none,0)])])) (C':=[(own (some ⟨AB,0,none⟩) 2 46 1 (List.zipWith ct aQ.ao [(((some ⟨C,0,none⟩),3),[(A,B),(none,0),(none,0)]),(((some ⟨D,0,none⟩),3),[(none,0),(none,0),(none,0)])])),_,_,_,_,_,_,_,_,_,_]) 0 U (pk MI) U (by show _≤maxLen; exact Nat.le_trans (m:=10) (show (2:Nat)≤10 by decide) dc) U ?_
 refine eg 123 2<|eg 123 2<|eg 123 2<|eg 123 2<|eg 123 2<|uS (aU iD aQ.ao [(((some ⟨C,0,none⟩),3),[(A,B),(none,0),(none,0)]),(((some ⟨D,0,none⟩),3),[(none,0),(none,0),(none,0)])]) [7,8,0,1,6,2,3,4] [5,9,10,11,12,13,14,15] U U<|Wh U qB U<|RK R<|ar ?_
 refine LX hQ (J,M,K,N,L,E,F,(some ⟨G,0,none⟩),3,(some ⟨H,0,none⟩),3,(some ⟨AB,0,none⟩),2,[(((some ⟨C,0,none⟩),3),[(A,B),(none,0),(none,0)]),(((some ⟨D,0,none⟩),3),[(none,0),(none,0),(none,0)])]) [4,5,6,7,3,2,1,0] [0] (mc 8 U mn) U (by show List.all _ _=true; simp only [fz,List.all_nil,fQ,j8,Bool.and_true]; rfl) U U ?_
 exact ⟨Rv O KO,S,KO⟩
end
section
open Go.RowKit
theorem PU (i:Int) (r:bY) (kA:OA) (kC:Nat) (az:List RA) (cA:OA) (cC:Nat) (bA:OA) (bC:Nat) (slA:OA) (slC:Nat) (drA:OA) (drC:Nat) (ha:List cG) (heA:OA) (heC:Nat) (hin:ej r az ha):
 er Tryz.prog 13 [(vA (cr.cells (ou r kA kC cA cC bA bC slA slC drA drC heA heC))),(vI i)] [(rd ff 3 2 eu),(rd kA r.an.aL.length 9 (r.an.aL.map ak.cells)),(rd cA r.an.ah.length 2 (List.zipWith aq.cells r.an.ah az)),(eX (aU aq.gE r.an.ah az)),(rd bA r.an.ae.length 4 (r.an.ae.map bG.cells)),(rd slA r.aK.length 1 (r.aK.map iC)),(rd drA r.bL.length 1 (r.bL.map iC)),(rd heA r.ao.length 1 (List.zipWith ct r.ao ha)),(eX (aU hO r.ao ha))] (vT [(vA (aa.cells (pO r i))),(vI (j7 r i))]):=by
 have M:=hin.line
 have g:=hin.iv
 have h:=hin.has
 have W:=hin.iA
 have R:=hin.draw
 have X:=dB (r:=r)
 refine bI kr Tryz.func13 U U fun m Q hQ hN=>?_
 try dsimp only
 refine WS fun _ L=>fK U fun k=>AL U dx fun l=>bo 1 U<|RK L<|WS fun _ G=>rP 2 [] (mc 1 U mn) ?_
 refine du (xs:=[.tmp 11]) (cs:=[(vI i)]) U cN jv U U U U (by simp [Value.cells]) U U fun d=>cX (zN r kA kC az cA cC bA bC slA slC drA drC ha heA heC i d hin) (bk [3,4,5,6,7,8,9,10,11,0]) U fun j J=>?_
 obtain ⟨K,e,f,O,a,b,c,Y,Z⟩:=j
 cases K
 ·obtain ⟨H,he⟩:=J.2 rfl
  try dsimp only at H he
  subst H
  try dsimp only [cond_true,cond_false,List.cons_append,List.nil_append]
  refine bo 7 U<|RK G<|aj fun _ P=>WS fun _ B=>rP 2 [] mn ?_
  refine RK B<|bO U (a_ fun A=>?_) (aZ fun A=>?_)
  ·exact absurd A he
  refine WS fun _ C=>rS (SX (bu (xs:=[]) (cs:=(aa.cells (aa.mk 0 0))) U U (br gG U)) U U)<|bo 1 U<|sj U cz U<|rP 1 [] mn ?_
  refine RK C<|ar<|lP hQ [0] (mc 1 U mn) U ?_
  first|(rw [show pO r i=dN from if_neg he]; rfl)|(rw [he,show pO r i=aC _ _ from if_pos he]; done)
 obtain ⟨he,N⟩:=J.1 rfl
 try dsimp only [cond_true,cond_false,List.cons_append,List.nil_append]
 try dsimp only at N
 obtain ⟨AB,S,T⟩:=uW he
 have AA:=nZ AB
 have V:=pB AB
 refine bo 7 U<|RK G<|aj fun _ D=>WS fun _ E=>bo 1 U<|rS (SX (cf (r:= .bool false) U U U m_) U U)<|RK E<|bh U<|WK D<|WS fun _ F=>rP 1 [] mn ?_
 refine rS (IA 0 U (ag (n:=1) 4 U sq) jY dc U I) ?_
 refine rS (lS 0 0 (aa.cells (aC (ax r) i)) U cb (ag (n:=([(aC (ax r) i)]).length) 4 U sm) (show ([(aC (ax r) i)].map aa.cells)[0]? =some [(vI ((aC (ax r) i).Lo)),(vI ((aC (ax r) i).Hi))] from U) U dc U U)<|Nd U cz U<|rP 1 [] mn ?_
 refine RK F<|ar<|lP hQ [0] (mc 6 U mn) U ?_
 first|(rw [show pO r i=dN from if_neg he]; rfl)|(rw [he,show pO r i=aC _ _ from if_pos he]; done)
end
section
open Go.RowKit
theorem K2 (a b:Int) (m:g0) (gm g1:Nat) (hb: ∀ p∈m,0≤p.2.Lo∧p.2.Lo≤p.2.Hi∧p.2.Hi≤30000000):
 er Tryz.prog 48 [(vI a),(vI b),(vP g1)] [(im iV gm (bS dE m)),(cm g1 64 [(Value.map (some gm))])] (vI ((aC m a).Hi-(aC m b).Hi)):=by
 have A:=g6 (i:=a) hb
 have B:=g6 (i:=b) hb
 refine bI kr Tryz.func48 U U fun E Q hQ hN=>?_
 try dsimp only
 refine WS fun _ C=>bo 1 U<|RK C<|WS fun _ D=>fG 2 [] (mr 1 U mn) U<|rS (SX (iT (kV:=iV) (x:=a) (l:=m) (f:=dE) (z:=(aa.mk 0 0)) U U U lv (dT mX) tm (by exact ly 0 U)) U U)<|rS (SX (ld (v:=(vI (((List.lookup a m).getD (aa.mk 0 0)).Hi))) U U fw Bk U) U U)<|rP 2 [] (mr 1 U mn) ?_
 refine rS (SX (iT (kV:=iV) (x:=b) (l:=m) (f:=dE) (z:=(aa.mk 0 0)) U U U lv (dT mX) tm (by exact ly 0 U)) U U)<|rS (SX (ld (v:=(vI (((List.lookup b m).getD (aa.mk 0 0)).Hi))) U U fw Bk U) U U) ?_
 unfold aC at A B
 simp only [dN] at A B
 refine rP 2 [] mn ?_
 refine RK D<|ar ?_
 exact Q1 hQ U U U U
theorem Ns (heatX:Int) (r:bY) (kA:OA) (kC:Nat) (az:List RA) (cA:OA) (cC:Nat) (bA:OA) (bC:Nat) (slA:OA) (slC:Nat) (drA:OA) (drC:Nat) (ha:List cG) (heA:OA) (heC:Nat) (hin:ej r az ha):
 lx Tryz.prog 20 [(vA (cr.cells (ou r kA kC cA cC bA bC slA slC drA drC heA heC))),(vI heatX)] [(rd ff 3 2 eu),(rd kA r.an.aL.length 9 (r.an.aL.map ak.cells)),(rd cA r.an.ah.length 2 (List.zipWith aq.cells r.an.ah az)),(eX (aU aq.gE r.an.ah az)),(rd bA r.an.ae.length 4 (r.an.ae.map bG.cells)),(rd slA r.aK.length 1 (r.aK.map iC)),(rd drA r.bL.length 1 (r.bL.map iC)),(rd heA r.ao.length 1 (List.zipWith ct r.ao ha)),(eX (aU hO r.ao ha))] (fun (x:(OA)×Nat)=>(vT [(vS x.1 ((il r heatX).length) x.2),(vI (i_ r heatX))])) (fun (x:(OA)×Nat)=>True) (fun (x:(OA)×Nat)=>[(own x.1 x.2 3 1 ((il r heatX).map iC))]):=by
 have Cp:=hin.line
 have H1:=hin.iv
 have IO:=hin.has
 have Eq:=hin.iA
 have A0:=hin.draw
 have A3:=dB (r:=r)
 refine dp kr Tryz.func20 U U fun w0 Q hQ hN=>?_
 try dsimp only
 refine WS fun _ Ck=>fK U fun b2=>bo 2 U<|RK Ck<|Br U<|WS fun _ e=>rP 1 [] (mc 0 U mn) ?_
 refine cX (oD r kA kC az cA cC bA bC slA slC drA drC ha heA heC hin) (bk [1,2,3,4,5,6,7,8,9]) U fun y4 A4=>?_
 obtain ⟨A5,Go,B7,B3,C2,A6,A7⟩:=y4
 cases A5
 ·obtain ⟨A1,he⟩:=A4.2 rfl
  try dsimp only at A1 he
  subst A1
  try dsimp only [cond_true,cond_false,List.cons_append,List.nil_append]
  refine bo 5 U<|RK e<|aj fun _ EQ=>WS fun _ R=>rP 2 [] mn ?_
  refine RK R<|bO U (a_ fun P=>?_) (aZ fun P=>?_)
  ·exact absurd P he
  refine WS fun _ S=>rP 1 [] mn ?_
  have A:i_ r heatX=cV r:=E9 he
  have B:il r heatX=[]:=zK (by rw [A]; exact he)
  refine eg 3 1 ?_
  rw [show (own none 0 3 1 ([]:List (List Value)))=own none 0 3 1 ((il r heatX).map iC) from by rw [B]; rfl]
  refine rP 2 [] mn ?_
  refine RK S<|ar ?_
  refine LX hQ (none,0) [0] [] mn U U U ?_ ?_
  ·first|rfl|(rw [A,B]; rfl)|(rw [A]; rfl)|(rw [A,B,ku]; rfl)
  ·trivial
 obtain ⟨he,C0⟩:=A4.1 rfl
 try dsimp only [cond_true,cond_false,List.cons_append,List.nil_append]
 have G:=(iw he).2
 have IR:=G.wZ
 have Hj:=G.yX
 refine bo 5 U<|RK e<|aj fun _ T=>WS fun _ AA=>bo 1 U<|rS (SX (cf (r:= .bool false) U U U m_) U U)<|RK AA<|bh U<|WK T<|aj fun _ V=>WS fun _ W=>rP 4 [] (mc 4 U mn) ?_
 refine du (xs:=[.tmp 25]) (cs:=[(vI heatX)]) U cN jv U U U U (by simp [Value.cells]) U U fun A9=>?_
 refine rS (CL (er.eq (kp 0 (r.ao.length:Int) ([heatX]) (some ⟨A9,0,none⟩) 1 sd) df) (av (bp 0 U U (by simp [bM]) U)<|aM) U) ?_
 refine rP 1 [] mn ?_
 refine RK W<|cE U (aZ fun B9=>?_) (a_ fun B9=>?_)
 ·refine WS fun _ X=>?_
  have A:i_ r heatX=2:=Ed he I
  have B:il r heatX=[]:=zK (by rw [A]; decide)
  refine eg 3 1 ?_
  rw [show (own none 0 3 1 ([]:List (List Value)))=own none 0 3 1 ((il r heatX).map iC) from by rw [B]; rfl]
  refine rP 2 [] mn ?_
  refine RK X<|ar ?_
  refine LX hQ (none,0) [0] [] mn U U U ?_ ?_
  ·first|rfl|(rw [A,B]; rfl)|(rw [A]; rfl)|(rw [A,B,ku]; rfl)
  ·trivial
 refine WK V<|aj fun _ Y=>WS fun _ Z=>rP 2 [] mn ?_
 refine RK Z<|cE U (aP fun D=>?_) (aO fun D=>?_)
 ·refine WS fun _ b=>rP 2 [] (mc 5 U mn) ?_
  refine cX (wJ r.bL drA drC sd) (bk [12]) U fun Di FS=>?_
  obtain ⟨N,O⟩:=Di
  try dsimp only
  have A:i_ r heatX=0:=z7 he I
  have B:il r heatX=r.bL:=v_ A D
  rw [show (own N O 3 1 (r.bL.map iC))=(own N O 3 1 ((il r heatX).map iC)) from by rw [v_ A D]]
  refine rP 2 [] mn ?_
  refine RK b<|ar ?_
  refine LX hQ (N,O) [0] [] mn U U U ?_ ?_
  ·first|rfl|(rw [A,B]; rfl)|(rw [A]; rfl)|(rw [A,B,ku]; rfl)
  ·trivial
 refine WK Y<|WS fun _ d=>?_
 obtain ⟨n,rfl⟩: ∃ n:Nat,heatX=(n:Int):=⟨heatX.toNat,I⟩
 refine rP 2 [] mn ?_
 refine cX (PB r kA kC az cA cC bA bC slA slC drA drC ha heA heC A7 C2 A6 (Value.map (some B3)) B7 n hin I sd (by exact G.Av)) (l5 [7,8,9,10,11,12,13,14]<|av (ag (n:=(cU r).length) 2 U (nm (by rw [A3]; exact C0)))<|av (dG 3 U ua)<|fM 1 U U<|aM) U fun C Fd=>?_
 try dsimp only
 refine AL U Uw fun AB=>HA U NK U U<|RK d<|WS fun _ g=>bo 1 U<|RK g<|aj fun _ h=>Az<|KK h<|aj fun _ j=>WS fun _ k=>rP 4 [] (mc 7 U mn) ?_
 refine RK k<|ay<|gl 3 1 ?_
 have F:(0≤r.bL.length):=by exact Nat.zero_le _
 refine bK (ι:={z:Nat×(OA)×Nat // (z.1≤r.bL.length)}) [1,2,6,8,38,39] [1,2,5,6,7,8,9,10,11,12,13,14,15,16,17] U U (fun z=>[(9,(vS z.1.2.1 (((r.bL.take z.1.1).filter fun u=>(List.lookup u (eL r n)).isSome).length) z.1.2.2)),(40,(vI (z.1.1:Int)))]) (fun z=>[(own z.1.2.1 z.1.2.2 3 1 (((r.bL.take z.1.1).filter fun u=>(List.lookup u (eL r n)).isSome).map iC))]) (fun _=>rfl) (fun _=>rfl) (fun z=>r.bL.length-z.1.1) ⟨(0,none,0),F⟩ (aT U) (aI [1,2,5,6,7,8,9,10,11,12,13,14,15,16,17,0]) ?_
 clear F
 rintro ⟨⟨i,a,c⟩,K⟩ J38 L
 try dsimp only at K
 try dsimp only
 refine WS fun _ m=>rP 1 [] mn ?_
 refine RK m<|aj fun _ o=>bO U (aO fun Ci=>?_) (aP fun Ci=>?_)
 ·refine bD<|ab<|ab<|aA<|KK j<|aj fun _ v=>?_
  rw [show r.bL.take i=r.bL from List.take_of_length_le I]
  refine al<|rP 1 [] mn ?_
  have Cx:=GZ he (show n≤r.ao.length by omega)
  have A2:=Nat.le_trans (List.length_filter_le (fun u=>(List.lookup u (eL r n)).isSome) r.bL) A0
  have G1:(eN (fun u=>(aC (eL r n) u).Hi) (r.bL.filter fun u=>(List.lookup u (eL r n)).isSome)).length≤12:=by rw [kK]; exact A2
  refine rS (FU U) ?_
  refine cX (Ag (r.bL.filter fun u=>(List.lookup u (eL r n)).isSome) a c (Value.func (.func 48) [].toArray [(vP AB)].toArray) (fun u=>(aC (eL r n) u).Hi) (eX [(im iV C (bS dE (eL r n))),(cm AB 64 [(Value.map (some C))])]) (by intro C3 DV _; exact n_ (fi:=[]) (ca:=[(vP AB)]) (mz (K2 C3 DV (eL r n) C AB (by first|assumption|omega)) (bk [0,1]))) (by exact Un Cx) (by exact A2)) (av (ag (n:=(r.bL.filter fun u=>(List.lookup u (eL r n)).isSome).length) 15 U sm)<|av (mE (bk [1,0]))<|aM) U fun Do Fn=>?_
  obtain ⟨H,J⟩:=Do
  try dsimp only
  refine bo 1 U<|RK v<|WS fun _ w=>rP 5 [] (mc 6 U mn) ?_
  refine rS (MN U)<|Mc 0 U fun An=>?_
  simp only [List.length_map] at An
  refine rS (Vl (((min r.gZ (((eN (fun u=>(aC (eL r n) u).Hi) (r.bL.filter fun u=>(List.lookup u (eL r n)).isSome)).length:Nat):Int))).toNat) U cN I (by first|omega|exact Nat.zero_le _|(simp; omega))) ?_
  refine je 0 U U U U (II (eN (fun u=>(aC (eL r n) u).Hi) (r.bL.filter fun u=>(List.lookup u (eL r n)).isSome)) H J (((min r.gZ (((eN (fun u=>(aC (eL r n) u).Hi) (r.bL.filter fun u=>(List.lookup u (eL r n)).isSome)).length:Nat):Int))).toNat) I I) U kG U (fun If GE=>?_)
  try dsimp only
  refine RK w<|WS fun _ y=>rP 1 [] mn ?_
  have A:i_ r (n:Int)=0:=z7 he I
  have B:il r (n:Int)=(sQ (((min r.gZ (((eN (fun u=>(aC (eL r n) u).Hi) (r.bL.filter fun u=>(List.lookup u (eL r n)).isSome)).length:Nat):Int))).toNat) (eN (fun u=>(aC (eL r n) u).Hi) (r.bL.filter fun u=>(List.lookup u (eL r n)).isSome))):=by rw [v7 A D]; exact (z6 rfl I).symm
  rw [show (own H J 3 1 ((sQ (((min r.gZ (((eN (fun u=>(aC (eL r n) u).Hi) (r.bL.filter fun u=>(List.lookup u (eL r n)).isSome)).length:Nat):Int))).toNat) (eN (fun u=>(aC (eL r n) u).Hi) (r.bL.filter fun u=>(List.lookup u (eL r n)).isSome))).map iC))=(own H J 3 1 ((il r (n:Int)).map iC)) from by rw [v7 A D]; exact congrArg (fun z=>own _ _ _ _ (List.map iC z)) (z6 rfl I)]
  refine rP 2 [] mn ?_
  refine RK y<|ar ?_
  refine LX hQ (H,J) [0] [] mn U U U ?_ ?_
  ·first|rfl|(rw [A,B]; rfl)|(rw [A]; rfl)|(rw [A,B,ku]; rfl)
  ·trivial
 refine WK o<|aj fun _ M=>ay<|WS fun _ p=>?_
 obtain ⟨x,hx⟩:=aH r.bL i I
 have C1:=bJ iC hx
 refine rS (IA i U (aB 12 U) cN dc I I)<|rS (fX i 0 (vI x) U cb (aB 12 U) C1 U dc U)<|bo 1 U<|RK p<|aj fun _ q=>WS fun _ s=>fG 2 [] (mc 0 U mn) U<|rS (SX (j3 (kV:=iV) (x:=x) (l:=(eL r n)) (f:=dE) (z:=(aa.mk 0 0)) U U U lv (dT mX) tm (by exact aB 1 U)) U U)<|bo 3 U<|AL U dx fun GT=>fW U cz U<|bo 1 U<|RK s<|WS fun _ t=>rP 2 [] mn ?_
 refine RK t<|cE U (fun E=>?_) (fun E=>?_)
 ·rw [Bool.not_eq_true'] at E
  refine bD<|ab<|aA<|KK M<|al<|rP 2 [] mn ?_
  refine aD ?_
  rw [show ((r.bL.take i).filter fun u=>(List.lookup u (eL r n)).isSome)=((r.bL.take (i+1)).filter fun u=>(List.lookup u (eL r n)).isSome) from (Gg hx E).symm]
  have AC:(vI (((i+1):Nat):Int))=(vI ((i:Int)+1)):=by exact cI I
  refine aR (L ⟨((i+1),a,c),(by first|omega|(simp only []; omega))⟩ _ _ _ U os (cR 7<|aY U AC<|dj.nil _) (aI [1,2,3,4,5,6,7,8,9,10,11,12,13,14,15,16]))
 rw [Bool.not_eq_false'] at E
 refine WK q<|al<|rP 2 [] mn ?_
 refine du (xs:=[.tmp 53]) (cs:=[(vI x)]) U cN jv U U U U (by simp [Value.cells]) U U fun Ge=>?_
 refine cO (es2:=(List.map iC ((r.bL.take (i+1)).filter fun u=>(List.lookup u (eL r n)).isSome))) (m':=((r.bL.take (i+1)).filter fun u=>(List.lookup u (eL r n)).isSome).length) 17 U U U pq U U sm (bp (es:=List.map iC [x]) 0 U U (by simp [bM]) U) (jP _) (by have:=List.length_filter_le (fun u=>(List.lookup u (eL r n)).isSome) (r.bL.take i); rw [List.length_take] at this; first|omega|(simp; omega)) (by have:=List.length_filter_le (fun u=>(List.lookup u (eL r n)).isSome) (r.bL.take i); rw [List.length_take] at this; simp only [maxLen]; first|omega|(simp; omega)) (by rw [yq hx E]; simp) sm U fun A8 BX=>?_
 try dsimp only
 refine bo 1 U<|aD<|aG<|KK M<|al<|rP 2 [] mn ?_
 refine aD ?_
 have AO:(vI (((i+1):Nat):Int))=(vI ((i:Int)+1)):=by exact cI I
 refine aR (L ⟨((i+1),A8,BX),(by first|omega|(simp only []; omega))⟩ _ _ _ U os (cR 7<|aY U AO<|dj.nil _) (aI [2,3,4,5,6,7,8,9,10,11,12,13,14,15,16,17]))
end
section
open Go.RowKit
theorem zr (i lo hi:Int) (r:bY) (kA:OA) (kC:Nat) (az:List RA) (cA:OA) (cC:Nat) (bA:OA) (bC:Nat) (slA:OA) (slC:Nat) (drA:OA) (drC:Nat) (ha:List cG) (heA:OA) (heC:Nat) (hin:ej r az ha):
 er Tryz.prog 9 [(vA (cr.cells (ou r kA kC cA cC bA bC slA slC drA drC heA heC))),(vI i),(vI lo),(vI hi)] [(rd ff 3 2 eu),(rd kA r.an.aL.length 9 (r.an.aL.map ak.cells)),(rd cA r.an.ah.length 2 (List.zipWith aq.cells r.an.ah az)),(eX (aU aq.gE r.an.ah az)),(rd bA r.an.ae.length 4 (r.an.ae.map bG.cells)),(rd slA r.aK.length 1 (r.aK.map iC)),(rd drA r.bL.length 1 (r.bL.map iC)),(rd heA r.ao.length 1 (List.zipWith ct r.ao ha)),(eX (aU hO r.ao ha))] (vB (decide (j7 r i=0∧pO r i=aa.mk lo hi))):=by
 have E:=hin.line
 have AA:=hin.iv
 have J:=hin.has
 have G:=hin.iA
 have F:=hin.draw
 have H:=dB (r:=r)
 refine bI kr Tryz.func9 U U fun M Q hQ hN=>?_
 try dsimp only
 refine WS fun _ C=>fK U fun K=>bo 1 U<|RK C<|WS fun _ D=>fG 2 [] (mc 0 U mn) U<|rS (CL (PU i r kA kC az cA cC bA bC slA slC drA drC ha heA heC hin) (bk [1,2,3,4,5,6,7,8,9]) U)<|bo 3 U<|AL U dx fun L=>fW U cz U<|bo 1 U<|RK D<|aj fun _ B=>dg cv 10 kr<|dP 3 [] mn ?_
 refine jA (t:=19) U (aO fun A=>?_) (aP fun A=>?_)
 ·refine dP 7 [] mn ?_
  refine cM<|RK B<|ar<|Q1 hQ U U U ?_
  first|exact cB (bx fun q=>A q.1).symm|exact cB (gi.2 ⟨fun q=>⟨A,q⟩,fun q=>q.2⟩)
 refine mw 3 [] (mc 0 U mn) U<|dS (CL (mD lo hi) (aM) U)<|dS (BI U (sS _ _ (pO r i) (aa.mk lo hi)))<|dP 2 [] mn ?_
 refine cM<|RK B<|ar<|Q1 hQ U U U ?_
 first|exact cB (bx fun q=>A q.1).symm|exact cB (gi.2 ⟨fun q=>⟨A,q⟩,fun q=>q.2⟩)
theorem zx (i:Int) (want:List Int) (wantA:OA) (wantC:Nat) (r:bY) (kA:OA) (kC:Nat) (az:List RA) (cA:OA) (cC:Nat) (bA:OA) (bC:Nat) (slA:OA) (slC:Nat) (drA:OA) (drC:Nat) (ha:List cG) (heA:OA) (heC:Nat) (hin:ej r az ha) (hwl:want.length≤12):
 er Tryz.prog 11 [(vA (cr.cells (ou r kA kC cA cC bA bC slA slC drA drC heA heC))),(vI i),(vS wantA want.length wantC)] [(rd wantA want.length 1 (want.map iC)),(rd ff 3 2 eu),(rd kA r.an.aL.length 9 (r.an.aL.map ak.cells)),(rd cA r.an.ah.length 2 (List.zipWith aq.cells r.an.ah az)),(eX (aU aq.gE r.an.ah az)),(rd bA r.an.ae.length 4 (r.an.ae.map bG.cells)),(rd slA r.aK.length 1 (r.aK.map iC)),(rd drA r.bL.length 1 (r.bL.map iC)),(rd heA r.ao.length 1 (List.zipWith ct r.ao ha)),(eX (aU hO r.ao ha))] (vB (decide (j7 r i=0∧gM r i=want))):=by
 have E:=hin.line
 have K:=hin.iv
 have L:=hin.has
 have G:=hin.iA
 have F:=hin.draw
 have H:=dB (r:=r)
 have M:=tn (r:=r) (i:=i)
 refine bI kr Tryz.func11 U U fun R Q hQ hN=>?_
 try dsimp only
 refine WS fun _ C=>fK U fun P=>bo 1 U<|RK C<|WS fun _ D=>rP 2 [] (mc 0 U mn) ?_
 refine cX (AM i r kA kC az cA cC bA bC slA slC drA drC ha heA heC hin) (bk [2,3,4,5,6,7,8,9,10]) U fun O N=>?_
 obtain ⟨AA,J⟩:=O
 try dsimp only
 refine bo 5 U<|RK D<|WS fun _ B=>rP 3 [] mn ?_
 refine cj (t:=17) U (aO fun A=>?_) (aP fun A=>?_)
 ·refine rP 5 [] mn ?_
  refine RK B<|ar<|Q1 hQ U U U ?_
  first|exact cB (bx fun q=>A q.1).symm|exact cB (gi.2 ⟨fun q=>⟨A,q⟩,fun q=>q.2⟩)
 refine bo 2 U<|rS (CL (j4 (gM r i) AA J want wantA wantC I I) (av (ag (n:=(gM r i).length) 0 U sm)<|fM 2 U U<|aM) U)<|rP 2 [] mn ?_
 refine RK B<|ar<|Q1 hQ U U U ?_
 first|exact cB (bx fun q=>A q.1).symm|exact cB (gi.2 ⟨fun q=>⟨A,q⟩,fun q=>q.2⟩)
theorem z9 (heatX:Int) (want:List Int) (wantA:OA) (wantC:Nat) (hwl:want.length≤12):
 er Tryz.prog 8 [(vI heatX),(vS wantA want.length wantC)] [(rd ff 3 2 eu),(rd wantA want.length 1 (want.map iC))] (vB (decide (i_ aQ heatX=0∧il aQ heatX=want))):=by
 have b:=EH (r:=aQ) (h:=heatX) dc
 refine bI kr Tryz.func8 U U fun d Q hQ hN=>?_
 try dsimp only
 refine WS fun _ V=>rP 1 [] mn ?_
 refine RK V<|WS fun _ W=>cX jI (aM) U fun c Y=>?_
 obtain ⟨N,S,P,AA,R,C,G,D,H,E,AB,F,J,M⟩:=c
 try dsimp only
 obtain ⟨L,X,K⟩:=Y
 refine rP 1 [] mn ?_
 refine cX (Ns heatX aQ N S R P AA C G D H E AB M F J (by exact L)) (fM 8 U U<|av (ag (n:=aQ.an.aL.length) 0 U sm)<|av (ag (n:=aQ.an.ah.length) 1 U (fr X))<|av (dG 2 U g7)<|av (ag (n:=aQ.an.ae.length) 3 U sm)<|av (ag (n:=aQ.aK.length) 4 U sm)<|av (ag (n:=aQ.bL.length) 5 U sm)<|av (ag (n:=aQ.ao.length) 6 U (de K.1))<|av (gn 7 U K)<|aM) U fun Z a=>?_
 obtain ⟨O,T⟩:=Z
 try dsimp only
 refine bo 5 U<|RK W<|WS fun _ B=>rP 3 [] mn ?_
 refine cj (t:=15) U (aO fun A=>?_) (aP fun A=>?_)
 ·refine rP 5 [] mn ?_
  refine RK B<|ar<|Q1 hQ U U U ?_
  first|exact cB (bx fun q=>A q.1).symm|exact cB (gi.2 ⟨fun q=>⟨A,q⟩,fun q=>q.2⟩)
 refine bo 2 U<|rS (CL (j4 (il aQ heatX) O T want wantA wantC I I) (av (ag (n:=(il aQ heatX).length) 0 U sm)<|fM 10 U U<|aM) U)<|rP 2 [] mn ?_
 refine RK B<|ar<|Q1 hQ U U U ?_
 first|exact cB (bx fun q=>A q.1).symm|exact cB (gi.2 ⟨fun q=>⟨A,q⟩,fun q=>q.2⟩)
theorem BV (a b:Int) (x y:Int):
 er Tryz.prog 12 [(vI a),(vI b),(Value.int .u8 x),(Value.int .u8 y)] [(rd ff 3 2 eu)] (vB (decide (((nY aQ a b=0∧wD aQ a b=x)∧nY aQ a b=0)∧qZ aQ a b=y))):=by
 refine bI kr Tryz.func12 U U fun w Q hQ hN=>?_
 try dsimp only
 refine WS fun _ p=>rP 1 [] mn ?_
 refine RK p<|WS fun _ r=>cX jI (aM) U fun v s=>?_
 obtain ⟨j,m,k,o,l,J,V,L,X,N,Z,P,d,h⟩:=v
 try dsimp only
 obtain ⟨F,G,E⟩:=s
 refine bo 2 U<|rS (CL (Jg a b aQ j m l k o J V L X N Z h P d (by exact F)) (fM 8 U U<|av (ag (n:=aQ.an.aL.length) 0 U sm)<|av (ag (n:=aQ.an.ah.length) 1 U (fr G))<|av (dG 2 U g7)<|av (ag (n:=aQ.an.ae.length) 3 U sm)<|av (ag (n:=aQ.aK.length) 4 U sm)<|av (ag (n:=aQ.bL.length) 5 U sm)<|av (ag (n:=aQ.ao.length) 6 U (de E.1))<|av (gn 7 U E)<|aM) U)<|qR [8] U U<|rP 5 [] mn ?_
 refine RK r<|WS fun _ f=>cX jI (aM) U fun u g=>?_
 obtain ⟨H,T,AB,AA,S,K,W,M,Y,O,c,R,e,i⟩:=u
 try dsimp only
 obtain ⟨F,G,E⟩:=g
 refine bo 2 U<|rS (CL (Qt a b aQ H T S AB AA K W M Y O c i R e (by exact F)) (fM 8 U U<|av (ag (n:=aQ.an.aL.length) 0 U sm)<|av (ag (n:=aQ.an.ah.length) 1 U (fr G))<|av (dG 2 U g7)<|av (ag (n:=aQ.an.ae.length) 3 U sm)<|av (ag (n:=aQ.aK.length) 4 U sm)<|av (ag (n:=aQ.bL.length) 5 U sm)<|av (ag (n:=aQ.ao.length) 6 U (de E.1))<|av (gn 7 U E)<|aM) U)<|bo 5 U<|RK f<|WS fun _ D=>rP 3 [] mn ?_
 refine cj (t:=29) U (aO fun A=>?_) (aP fun A=>?_)
 ·refine rP 14 [] mn ?_
  refine RK D<|ar<|Q1 hQ U U U ?_
  first|exact cB (bx fun q=>A q.1.1.1).symm|exact cB (bx fun q=>B q.1.1.2).symm|exact cB (bx fun q=>C q.1.2).symm|exact cB (gi.2 ⟨fun q=>⟨⟨⟨A,B⟩,C⟩,q⟩,fun q=>q.2⟩)
 refine bo 2 U<|rS (BI U mO)<|rP 2 [] mn ?_
 refine cj (t:=34) U (aO fun B=>?_) (aP fun B=>?_)
 ·refine rP 9 [] mn ?_
  refine RK D<|ar<|Q1 hQ U U U ?_
  first|exact cB (bx fun q=>A q.1.1.1).symm|exact cB (bx fun q=>B q.1.1.2).symm|exact cB (bx fun q=>C q.1.2).symm|exact cB (gi.2 ⟨fun q=>⟨⟨⟨A,B⟩,C⟩,q⟩,fun q=>q.2⟩)
 refine rP 4 [] mn ?_
 refine cj (t:=38) U (aO fun C=>?_) (aP fun C=>?_)
 ·refine rP 5 [] mn ?_
  refine RK D<|ar<|Q1 hQ U U U ?_
  first|exact cB (bx fun q=>A q.1.1.1).symm|exact cB (bx fun q=>B q.1.1.2).symm|exact cB (bx fun q=>C q.1.2).symm|exact cB (gi.2 ⟨fun q=>⟨⟨⟨A,B⟩,C⟩,q⟩,fun q=>q.2⟩)
 refine bo 2 U<|rS (BI U mO)<|rP 2 [] mn ?_
 refine RK D<|ar<|Q1 hQ U U U ?_
 first|exact cB (bx fun q=>A q.1.1.1).symm|exact cB (bx fun q=>B q.1.1.2).symm|exact cB (bx fun q=>C q.1.2).symm|exact cB (gi.2 ⟨fun q=>⟨⟨⟨A,B⟩,C⟩,q⟩,fun q=>q.2⟩)
end
section
open Go.RowKit
theorem JE:
 er Tryz.prog 7 [] [(rd ff 3 2 eu)] (vB true):=by
 have Fd:=vX (r:=aQ)
 have C2:=vX (r:=lF)
 have Zd:=qI (r:=aQ) (h:=0) (i:=2) (t:=aa.mk 2590 2599)
 have Zc:aQ.aK.length=3:=rfl
 refine bI kr Tryz.func7 U U fun w0 Q hQ hN=>?_
 try dsimp only
 refine WS fun _ ZR=>rP 1 [] mn ?_
 refine RK ZR<|WS fun _ ZS=>cX jI (aM) U fun y3 ZU=>?_
 obtain ⟨ZM,ZP,ZN,ZQ,ZO,Xv,Yc,Xz,Yg,X3,Yk,X7,Yp,ZC⟩:=y3
 try dsimp only
 obtain ⟨A,F,B⟩:=ZU
 refine rS (CL (RF 0 0 aQ ZM ZP ZO ZN ZQ Xv Yc Xz Yg X3 Yk ZC X7 Yp (by exact A)) (fM 8 U U<|av (ag (n:=aQ.an.aL.length) 0 U sm)<|av (ag (n:=aQ.an.ah.length) 1 U (fr F))<|av (dG 2 U g7)<|av (ag (n:=aQ.an.ae.length) 3 U sm)<|av (ag (n:=aQ.aK.length) 4 U sm)<|av (ag (n:=aQ.bL.length) 5 U sm)<|av (ag (n:=aQ.ao.length) 6 U (de B.1))<|av (gn 7 U B)<|aM) U)<|bo 1 U<|qR [8] U U<|bo 2 U<|AL U dx fun DV=>fW U cz U<|rP 1 [] mn ?_
 refine RK ZS<|WS fun _ Y1=>cX jI (aM) U fun ZV Y8=>?_
 obtain ⟨Xp,YW,Xs,YZ,YT,Xw,Yd,X0,Yh,X4,Ym,X8,Yq,ZD⟩:=ZV
 try dsimp only
 obtain ⟨A,F,B⟩:=Y8
 refine cX (FJ aQ Xp YW YT Xs YZ Xw Yd X0 Yh X4 Ym ZD X8 Yq (by exact A)) (fM 9 U U<|av (ag (n:=aQ.an.aL.length) 0 U sm)<|av (ag (n:=aQ.an.ah.length) 1 U (fr F))<|av (dG 2 U g7)<|av (ag (n:=aQ.an.ae.length) 3 U sm)<|av (ag (n:=aQ.aK.length) 4 U sm)<|av (ag (n:=aQ.bL.length) 5 U sm)<|av (ag (n:=aQ.ao.length) 6 U (de B.1))<|av (gn 7 U B)<|aM) U fun ZW Y9=>?_
 obtain ⟨a,B9,Ci⟩:=ZW
 try dsimp only
 have Xd:=Y9
 have IO:=Xd
 refine bo 1 U<|qR [0,1,10,11] U U<|rP 4 [] mn ?_
 refine RK Y1<|WS fun _ Y2=>cX jI (aM) U fun ZX Y_=>?_
 obtain ⟨Xq,YX,Xt,Ya,YU,Xx,Ye,X1,Yi,X5,Yn,X9,Yr,ZE⟩:=ZX
 try dsimp only
 obtain ⟨A,F,B⟩:=Y_
 refine rS (CL (mD 2590 2599) (aM) U)<|cX (xb 0 2 (aa.mk 2590 2599) aQ Xq YX YU Xt Ya Xx Ye X1 Yi X5 Yn ZE X9 Yr (by exact A)) (fM 11 U U<|av (ag (n:=aQ.an.aL.length) 0 U sm)<|av (ag (n:=aQ.an.ah.length) 1 U (fr F))<|av (dG 2 U g7)<|av (ag (n:=aQ.an.ae.length) 3 U sm)<|av (ag (n:=aQ.aK.length) 4 U sm)<|av (ag (n:=aQ.bL.length) 5 U sm)<|av (ag (n:=aQ.ao.length) 6 U (de B.1))<|av (gn 7 U B)<|aM) U fun ZY If=>?_
 obtain ⟨ZF,Zb,G,N,H,O,M,AB,P,J,R,K,S,L,T,AA⟩:=ZY
 cases ZF
 ·obtain ⟨Y6,he⟩:=If.2 rfl
  try dsimp only at Y6 he
  subst Y6
  try dsimp only [cond_true,cond_false,List.cons_append,List.nil_append]
  exact absurd B2 he
 obtain ⟨Y7,⟨FS,Y5⟩,C3⟩:=If.1 rfl
 try dsimp only [cond_true,cond_false,List.cons_append,List.nil_append]
 try dsimp only at Y7 FS Y5 C3
 have Id:ej lF _ _:=ej.rep A FS Y5 C3
 refine bo 1 U<|qR [0,1,2,3,4,5,6,7,16,17,18,19] U U<|bo 2 U<|AL U wj fun Ck=>fW U qB U<|bo 1 U<|RK Y2<|WS fun _ Y3=>rP 1 [] (mc 0 U mn) ?_
 refine cX (FJ lF G N M H O AB P J R K S AA L T (by exact Id)) (fM 12 U U<|av (ag (n:=aQ.an.aL.length) 1 U (by rw [List.length_map]; rfl))<|av (ag (n:=aQ.an.ah.length) 2 U (fr FS))<|av (dG 3 U g7)<|av (ag (n:=aQ.an.ae.length) 4 U (by rw [List.length_map]; rfl))<|av (ag (n:=aQ.aK.length) 5 U (by rw [List.length_map]; rfl))<|av (ag (n:=aQ.bL.length) 6 U (by rw [List.length_map]; rfl))<|av (ag (n:=(fR aQ.ao 0 2 (aa.mk 2590 2599)).length) 7 U (de C3.1))<|av (gn 8 U C3)<|aM) U fun ZZ ZA=>?_
 obtain ⟨b,A8,A9⟩:=ZZ
 try dsimp only
 have Xd:=ZA
 have IR:=Xd
 refine rP 5 [] mn ?_
 refine RK Y3<|WS fun _ Y4=>cX jI (aM) U fun Za ZB=>?_
 obtain ⟨Xr,YY,Xu,Yb,YV,Xy,Yf,X2,Yj,X6,Yo,X_,Ys,Xj⟩:=Za
 try dsimp only
 obtain ⟨A,F,B⟩:=ZB
 refine rS (CL (mD 2590 2599) (aM) U)<|cX (uZ 0 2 (aa.mk 2590 2599) aQ Xr YY YV Xu Yb Xy Yf X2 Yj X6 Yo Xj X_ Ys (by exact A)) (fM 22 U U<|av (ag (n:=aQ.an.aL.length) 0 U sm)<|av (ag (n:=aQ.an.ah.length) 1 U (fr F))<|av (dG 2 U g7)<|av (ag (n:=aQ.an.ae.length) 3 U sm)<|av (ag (n:=aQ.aK.length) 4 U sm)<|av (ag (n:=aQ.bL.length) 5 U sm)<|av (ag (n:=aQ.ao.length) 6 U (de B.1))<|av (gn 7 U B)<|aM) U fun ZG ZT=>?_
 obtain ⟨W,Z⟩:=ZG
 try dsimp only
 refine bo 1 U<|qR [0,9,10,11,12,13,14,15,16,17,18,19,20,21,22,23] U U<|rP 4 [] mn ?_
 refine RK Y4<|aj fun _ ST=>DK cv [8,9,10,11,12,13,14,15,16,17,18,19,20,21,22,23,24,25,26,27,28,29,30,31,32,33,34,35,36,37,38,39,40,41,42,43,44,45,46,47,48,49,50,51,52,53,54,55,56,57,58,59,60,61,62,63,64,65,66,67,68,69,70,71,72,73] [0,1,2,3,4,5,6,7,8,9,10,11,12,13,14,15] U U U<|eS U (MV U)<|eS U (BI U mO)<|eS U (MV U)<|Jr (t:=40) U (aO fun Yt=>?_) (aP fun Yt=>?_)
 ·exact absurd (PV.1) Yt
 refine eS U (LW 14 U cb U U)<|eS U (CL (mD 2596 2602) (aM) U)<|eS U (BI U (sS _ _ (iG aQ 0 0) (aa.mk 2596 2602)))<|eS U (PK U)<|eS U (MV U)<|eT U<|g_ U fun T106 Sz=>cj (t:=45) U (aO fun Yu=>?_) (aP fun Yu=>?_)
 ·exact absurd (PV.2) Yu
 refine cX jI (aM) U fun ZH Xe=>?_
 obtain ⟨In,Os,J4,Pn,M2,J9,Qq,K4,RP,LT,R0,Lo,R5,Xk⟩:=ZH
 try dsimp only
 obtain ⟨A,F,B⟩:=Xe
 refine RD Sz 8 U<|g_ U fun T123 S1=>rS (CL (zr 0 514 515 aQ In Os M2 J4 Pn J9 Qq K4 RP LT R0 Xk Lo R5 (by exact A)) (fM 23 U U<|av (ag (n:=aQ.an.aL.length) 0 U sm)<|av (ag (n:=aQ.an.ah.length) 1 U (fr F))<|av (dG 2 U g7)<|av (ag (n:=aQ.an.ae.length) 3 U sm)<|av (ag (n:=aQ.aK.length) 4 U sm)<|av (ag (n:=aQ.bL.length) 5 U sm)<|av (ag (n:=aQ.ao.length) 6 U (de B.1))<|av (gn 7 U B)<|aM) U)<|RD S1 8 U<|g_ U fun T124 S2=>qR [8,9,10,11,12,13,14,15,16,17,18,19,20,21,22,23] U U<|rS (PK U)<|RD S2 0 U<|g_ U fun T125 TO=>rS (MV U)<|RD TO 0 U ?_
 refine uY (V:=OA×Nat×OA×Nat×List RA×OA×Nat×OA×Nat×OA×Nat×OA×Nat×List cG×Nat) (fun (j,z,l,AO,X,p,Av,s,A1,v,A3,x,A5,c,e)=>ej aQ X c∧X.length=aQ.an.ah.length∧su aQ.ao c) (fun (j,z,l,AO,X,p,Av,s,A1,v,A3,x,A5,c,e)=>[(3,(vS B9 ((dU aQ).length) Ci)),(4,(vI (cV aQ))),(5,(vP Ck)),(6,(vI 0)),(7,(vS A8 ((dU lF).length) A9)),(8,(vI (cV lF))),(9,(vS W ((dR aQ 0 2 (aa.mk 2590 2599)).length) Z)),(10,(vI (eV aQ 0 2 (aa.mk 2590 2599)))),(49,(vB true)),(50,(vA (cr.cells (cr.mk (bV.mk (bw.mk (bq.mk j aQ.an.aL.length z)) aQ.an.f_ (bq.mk l aQ.an.ah.length AO) (bq.mk p aQ.an.ae.length Av) aQ.an.cq aQ.an.dM aQ.an.cD) (bq.mk s aQ.aK.length A1) (bq.mk v aQ.bL.length A3) aQ.gZ (bq.mk x aQ.ao.length A5))))),(51,(vS (some ⟨e,0,none⟩) 2 2))]) (fun (j,z,l,AO,X,p,Av,s,A1,v,A3,x,A5,c,e)=>[(cm e 3 [(vI 1),(vI 2)]),(own j z 114 9 (aQ.an.aL.map ak.cells)),(own l AO 119 2 (List.zipWith aq.cells aQ.an.ah X)),(bB (aU aq.owns aQ.an.ah X)),(own p Av 121 4 (aQ.an.ae.map bG.cells)),(own s A1 3 1 (aQ.aK.map iC)),(own v A3 3 1 (aQ.bL.map iC)),(own x A5 46 1 (List.zipWith ct aQ.ao c)),(bB (aU iD aQ.ao c)),(own W Z 3 1 ((dR aQ 0 2 (aa.mk 2590 2599)).map iC)),(own A8 A9 32 1 (List.zipWith nI (dU lF) b)),(bB (aU tF (dU lF) b)),(cm Ck 35 (cr.cells (cr.mk (bV.mk (bw.mk (bq.mk G aQ.an.aL.length N)) aQ.an.f_ (bq.mk H aQ.an.ah.length O) (bq.mk AB aQ.an.ae.length P) aQ.an.cq aQ.an.dM aQ.an.cD) (bq.mk J aQ.aK.length R) (bq.mk K aQ.bL.length S) aQ.gZ (bq.mk L ((fR aQ.ao 0 2 (aa.mk 2590 2599)).length) T)))),(own G N 114 9 (aQ.an.aL.map ak.cells)),(own H O 119 2 (List.zipWith aq.cells aQ.an.ah M)),(bB (aU aq.owns aQ.an.ah M)),(own AB P 121 4 (aQ.an.ae.map bG.cells)),(own J R 3 1 (aQ.aK.map iC)),(own K S 3 1 (aQ.bL.map iC)),(own L T 46 1 (List.zipWith ct (fR aQ.ao 0 2 (aa.mk 2590 2599)) AA)),(bB (aU iD (fR aQ.ao 0 2 (aa.mk 2590 2599)) AA)),(own B9 Ci 32 1 (List.zipWith nI (dU aQ) a)),(bB (aU tF (dU aQ) a)),(cm DV 40 (aa.cells (iG aQ 0 0))),(rd ff 3 2 eu).ro]) 60 [14,15,16,17,18,19,20,21,22,23,24,25,26,27,28,29,30,31,32,33,34,35,36,37,38,39,40,41,42,43,44,45,46,47,48,49,50,51,52,53,54,55,56,57,58,59,60,61,62,63,64,65,66,67,68,69,70,71,72,73] (fun hJ=>?_) ?_
 ·refine iJ [12,13] kr (ek ?_<|ek ?_<|j_)
  rotate_left 1
  ·refine hZ U U U fun T162 T2=>cj (t:=49) U (aO fun Di=>?_) (aP fun Di=>?_)
   ·exact absurd (⟨mS.1,mS.2.1⟩) Di
   refine du (xs:=[.const (vI 1),.const (vI 2)]) (cs:=[(vI 1),(vI 2)]) U cN jv U U U U (by simp [Value.cells]) U U fun YB=>RD T2 1 U<|N1 12<|hZ U U U fun T164 T4=>cX jI (aM) U fun ZJ Xg=>?_
   obtain ⟨Jm,PP,J6,P6,Ne,Kp,Q_,K8,RZ,Lf,R2,L2,R7,Xm⟩:=ZJ
   try dsimp only
   obtain ⟨A,F,B⟩:=Xg
   refine RD T4 9 U ?_
   exact jy hJ (Jm,PP,J6,P6,Ne,Kp,Q_,K8,RZ,Lf,R2,L2,R7,Xm,YB) ⟨A,F,B⟩ [8,0,1,2,3,4,5,6,7,9,10,11,12,13,14,15,16,17,18,19,20,21,22,23,24] U U U
  refine hZ U U U fun T143 Tv=>cj (t:=49) U (aO fun Di=>?_) (aP fun Di=>?_)
  ·exact absurd (⟨mS.1,mS.2.1⟩) Di
  refine cX jI (aM) U fun ZI Xf=>?_
  obtain ⟨JR,O8,J5,P5,NE,KY,Qr,K5,RS,La,R1,L0,R6,Xl⟩:=ZI
  try dsimp only
  obtain ⟨A,F,B⟩:=Xf
  refine RD Tv 8 U<|N1 13<|hZ U U U fun T160 T0=>du (xs:=[.const (vI 1),.const (vI 2)]) (cs:=[(vI 1),(vI 2)]) U cN jv U U U U (by simp [Value.cells]) U U fun YA=>RD T0 9 U ?_
  exact jy hJ (JR,O8,J5,P5,NE,KY,Qr,K5,RS,La,R1,L0,R6,Xl,YA) ⟨A,F,B⟩ [0,1,2,3,4,5,6,7,8,9,10,11,12,13,14,15,16,17,18,19,20,21,22,23,24] U U U
 rintro ⟨j,z,l,AO,X,p,Av,s,A1,v,A3,x,A5,c,e⟩ ⟨A,F,B⟩
 try dsimp only
 refine g_ U fun T181 T5=>rS (CL (zx 0 ([1,2]) (some ⟨e,0,none⟩) 2 aQ j z X l AO p Av s A1 v A3 c x A5 (by exact A) dc) (av (bp 0 U U (by simp [bM]) U)<|fM 24 U U<|av (ag (n:=aQ.an.aL.length) 1 U sm)<|av (ag (n:=aQ.an.ah.length) 2 U (fr F))<|av (dG 3 U g7)<|av (ag (n:=aQ.an.ae.length) 4 U sm)<|av (ag (n:=aQ.aK.length) 5 U sm)<|av (ag (n:=aQ.bL.length) 6 U sm)<|av (ag (n:=aQ.ao.length) 7 U (de B.1))<|av (gn 8 U B)<|aM) U)<|RD T5 9 U<|g_ U fun T182 T6=>qR [0,9,10,11,12,13,14,15,16,17,18,19,20,21,22,23,24] U U<|rS (PK U)<|RD T6 1 U<|g_ U fun T183 T7=>rS (MV U)<|RD T7 1 U ?_
 refine uY (V:=OA×Nat×OA×Nat×List RA×OA×Nat×OA×Nat×OA×Nat×OA×Nat×List cG×Nat) (fun (k,AC,o,An,Y,q,A0,u,A2,w,A4,y,A6,d,f)=>ej aQ Y d∧Y.length=aQ.an.ah.length∧su aQ.ao d) (fun (k,AC,o,An,Y,q,A0,u,A2,w,A4,y,A6,d,f)=>[(3,(vS B9 ((dU aQ).length) Ci)),(4,(vI (cV aQ))),(5,(vP Ck)),(6,(vI 0)),(7,(vS A8 ((dU lF).length) A9)),(8,(vI (cV lF))),(9,(vS W ((dR aQ 0 2 (aa.mk 2590 2599)).length) Z)),(10,(vI (eV aQ 0 2 (aa.mk 2590 2599)))),(54,(vB true)),(55,(vA (cr.cells (cr.mk (bV.mk (bw.mk (bq.mk k aQ.an.aL.length AC)) aQ.an.f_ (bq.mk o aQ.an.ah.length An) (bq.mk q aQ.an.ae.length A0) aQ.an.cq aQ.an.dM aQ.an.cD) (bq.mk u aQ.aK.length A2) (bq.mk w aQ.bL.length A4) aQ.gZ (bq.mk y aQ.ao.length A6))))),(56,(vS (some ⟨f,0,none⟩) 2 2))]) (fun (k,AC,o,An,Y,q,A0,u,A2,w,A4,y,A6,d,f)=>[(cm f 3 [(vI 2),(vI 3)]),(own k AC 114 9 (aQ.an.aL.map ak.cells)),(own o An 119 2 (List.zipWith aq.cells aQ.an.ah Y)),(bB (aU aq.owns aQ.an.ah Y)),(own q A0 121 4 (aQ.an.ae.map bG.cells)),(own u A2 3 1 (aQ.aK.map iC)),(own w A4 3 1 (aQ.bL.map iC)),(own y A6 46 1 (List.zipWith ct aQ.ao d)),(bB (aU iD aQ.ao d)),(cm e 3 [(vI 1),(vI 2)]),(own W Z 3 1 ((dR aQ 0 2 (aa.mk 2590 2599)).map iC)),(own A8 A9 32 1 (List.zipWith nI (dU lF) b)),(bB (aU tF (dU lF) b)),(cm Ck 35 (cr.cells (cr.mk (bV.mk (bw.mk (bq.mk G aQ.an.aL.length N)) aQ.an.f_ (bq.mk H aQ.an.ah.length O) (bq.mk AB aQ.an.ae.length P) aQ.an.cq aQ.an.dM aQ.an.cD) (bq.mk J aQ.aK.length R) (bq.mk K aQ.bL.length S) aQ.gZ (bq.mk L ((fR aQ.ao 0 2 (aa.mk 2590 2599)).length) T)))),(own G N 114 9 (aQ.an.aL.map ak.cells)),(own H O 119 2 (List.zipWith aq.cells aQ.an.ah M)),(bB (aU aq.owns aQ.an.ah M)),(own AB P 121 4 (aQ.an.ae.map bG.cells)),(own J R 3 1 (aQ.aK.map iC)),(own K S 3 1 (aQ.bL.map iC)),(own L T 46 1 (List.zipWith ct (fR aQ.ao 0 2 (aa.mk 2590 2599)) AA)),(bB (aU iD (fR aQ.ao 0 2 (aa.mk 2590 2599)) AA)),(own B9 Ci 32 1 (List.zipWith nI (dU aQ) a)),(bB (aU tF (dU aQ) a)),(cm DV 40 (aa.cells (iG aQ 0 0))),(rd ff 3 2 eu).ro]) 55 [19,20,21,22,23,24,25,26,27,28,29,30,31,32,33,34,35,36,37,38,39,40,41,42,43,44,45,46,47,48,49,50,51,52,53,54,55,56,57,58,59,60,61,62,63,64,65,66,67,68,69,70,71,72,73] (fun hJ=>?_) ?_
 ·refine iJ [17,18] kr (ek ?_<|ek ?_<|j_)
  rotate_left 1
  ·refine hZ U U U fun T220 UV=>cj (t:=54) U (aO fun Do=>?_) (aP fun Do=>?_)
   ·exact absurd (⟨mS.1,mS.2.2⟩) Do
   refine du (xs:=[.const (vI 2),.const (vI 3)]) (cs:=[(vI 2),(vI 3)]) U cN jv U U U U (by simp [Value.cells]) U U fun YD=>RD UV 2 U<|N1 17<|hZ U U U fun T222 U3=>cX jI (aM) U fun ZL Xi=>?_
   obtain ⟨J3,Pl,J8,QQ,Or,K0,RH,LE,Rk,Lk,R4,Ms,R9,Xo⟩:=ZL
   try dsimp only
   obtain ⟨A,F,B⟩:=Xi
   refine RD U3 10 U ?_
   exact jy hJ (J3,Pl,J8,QQ,Or,K0,RH,LE,Rk,Lk,R4,Ms,R9,Xo,YD) ⟨A,F,B⟩ [8,0,1,2,3,4,5,6,7,9,10,11,12,13,14,15,16,17,18,19,20,21,22,23,24,25] U U U
  refine hZ U U U fun T201 T8=>cj (t:=54) U (aO fun Do=>?_) (aP fun Do=>?_)
  ·exact absurd (⟨mS.1,mS.2.2⟩) Do
  refine cX jI (aM) U fun ZK Xh=>?_
  obtain ⟨J2,Pi,J7,QL,Op,Kx,RG,LA,Rh,Li,R3,L3,R8,Xn⟩:=ZK
  try dsimp only
  obtain ⟨A,F,B⟩:=Xh
  refine RD T8 9 U<|N1 18<|hZ U U U fun T218 T9=>du (xs:=[.const (vI 2),.const (vI 3)]) (cs:=[(vI 2),(vI 3)]) U cN jv U U U U (by simp [Value.cells]) U U fun YC=>RD T9 10 U ?_
  exact jy hJ (J2,Pi,J7,QL,Op,Kx,RG,LA,Rh,Li,R3,L3,R8,Xn,YC) ⟨A,F,B⟩ [0,1,2,3,4,5,6,7,8,9,10,11,12,13,14,15,16,17,18,19,20,21,22,23,24,25] U U U
 rintro ⟨k,AC,o,An,Y,q,A0,u,A2,w,A4,y,A6,d,f⟩ ⟨A,F,B⟩
 try dsimp only
 refine g_ U fun T239 U9=>rS (CL (zx 2 ([2,3]) (some ⟨f,0,none⟩) 2 aQ k AC Y o An q A0 u A2 w A4 d y A6 (by exact A) dc) (av (bp 0 U U (by simp [bM]) U)<|fM 25 U U<|av (ag (n:=aQ.an.aL.length) 1 U sm)<|av (ag (n:=aQ.an.ah.length) 2 U (fr F))<|av (dG 3 U g7)<|av (ag (n:=aQ.an.ae.length) 4 U sm)<|av (ag (n:=aQ.aK.length) 5 U sm)<|av (ag (n:=aQ.bL.length) 6 U sm)<|av (ag (n:=aQ.ao.length) 7 U (de B.1))<|av (gn 8 U B)<|aM) U)<|RD U9 10 U<|g_ U fun T240 VO=>qR [0,9,10,11,12,13,14,15,16,17,18,19,20,21,22,23,24,25] U U<|rS (PK U)<|RD VO 2 U<|g_ U fun T241 Vf=>rS (MV U)<|RD Vf 2 U<|g_ U fun T242 Vw=>cj (t:=59) U (aO fun Yv=>?_) (aP fun Yv=>?_)
 ·exact absurd (⟨BN.1,BN.2.2⟩) Yv
 refine rS (CL (BV 1 2 2 0) (bk [17]) U)<|RD Vw 2 U<|g_ U fun T243 V4=>rS (PK U)<|RD V4 2 U<|g_ U fun T244 V6=>rS (MV U)<|RD V6 2 U<|g_ U fun T245 WB=>cj (t:=62) U (aO fun Yw=>?_) (aP fun Yw=>?_)
 ·exact absurd (⟨⟨⟨Bq.1,Bq.2.1⟩,Bq.1⟩,Bq.2.2⟩) Yw
 refine rS (CL (BV 0 1 0 1) (bk [17]) U)<|RD WB 2 U<|g_ U fun T246 WC=>rS (PK U)<|RD WC 2 U<|g_ U fun T247 WD=>rS (MV U)<|RD WD 2 U<|g_ U fun T248 WE=>cj (t:=65) U (aO fun Yx=>?_) (aP fun Yx=>?_)
 ·exact absurd (⟨⟨⟨AF.1,AF.2.1⟩,AF.1⟩,AF.2.2⟩) Yx
 refine rS (MV U)<|RD WE 2 U<|g_ U fun T249 WF=>rS (BI U mO)<|RD WF 2 U<|g_ U fun T250 WG=>rS (PK U)<|RD WG 2 U<|g_ U fun T251 WH=>rS (MV U)<|RD WH 2 U ?_
 refine uY (V:=Nat×Nat) (fun (C,g)=>True) (fun (C,g)=>[(5,(vP Ck)),(6,(vI 0)),(7,(vS A8 ((dU lF).length) A9)),(8,(vI (cV lF))),(9,(vS W ((dR aQ 0 2 (aa.mk 2590 2599)).length) Z)),(10,(vI (eV aQ 0 2 (aa.mk 2590 2599)))),(69,(vB true)),(70,(vS B9 ((dU aQ).length) Ci)),(71,(vS (some ⟨C,0,none⟩) 3 3)),(72,(vS (some ⟨g,0,none⟩) 1 1))]) (fun (C,g)=>[(cm g 32 [(vS (some ⟨C,0,none⟩) 3 3)]),(cm C 3 [(vI 0),(vI 1),(vI 2)]),(cm f 3 [(vI 2),(vI 3)]),(cm e 3 [(vI 1),(vI 2)]),(own W Z 3 1 ((dR aQ 0 2 (aa.mk 2590 2599)).map iC)),(own A8 A9 32 1 (List.zipWith nI (dU lF) b)),(bB (aU tF (dU lF) b)),(cm Ck 35 (cr.cells (cr.mk (bV.mk (bw.mk (bq.mk G aQ.an.aL.length N)) aQ.an.f_ (bq.mk H aQ.an.ah.length O) (bq.mk AB aQ.an.ae.length P) aQ.an.cq aQ.an.dM aQ.an.cD) (bq.mk J aQ.aK.length R) (bq.mk K aQ.bL.length S) aQ.gZ (bq.mk L ((fR aQ.ao 0 2 (aa.mk 2590 2599)).length) T)))),(own G N 114 9 (aQ.an.aL.map ak.cells)),(own H O 119 2 (List.zipWith aq.cells aQ.an.ah M)),(bB (aU aq.owns aQ.an.ah M)),(own AB P 121 4 (aQ.an.ae.map bG.cells)),(own J R 3 1 (aQ.aK.map iC)),(own K S 3 1 (aQ.bL.map iC)),(own L T 46 1 (List.zipWith ct (fR aQ.ao 0 2 (aa.mk 2590 2599)) AA)),(bB (aU iD (fR aQ.ao 0 2 (aa.mk 2590 2599)) AA)),(own B9 Ci 32 1 (List.zipWith nI (dU aQ) a)),(bB (aU tF (dU aQ) a)),(cm DV 40 (aa.cells (iG aQ 0 0))),(rd ff 3 2 eu).ro]) 39 [35,36,37,38,39,40,41,42,43,44,45,46,47,48,49,50,51,52,53,54,55,56,57,58,59,60,61,62,63,64,65,66,67,68,69,70,71,72,73] (fun hJ=>?_) ?_
 ·refine iJ [32,33] kr (ek ?_<|ek ?_<|j_)
  ·refine hZ U U U fun T254 WI=>cj (t:=69) U (aO fun EQ=>?_) (aP fun EQ=>?_)
   ·exact absurd (qL) EQ
   refine rS (MV U)<|RD WI 2 U<|N1 33<|hZ U U U fun T255 WL=>du (xs:=[.const (vI 0),.const (vI 1),.const (vI 2)]) (cs:=[(vI 0),(vI 1),(vI 2)]) U cN jv U U U U (by simp [Value.cells]) U U fun Fn=>RD WL 3 U<|N1 34<|hZ U U U fun T257 WM=>du (xs:=[.tmp 71]) (cs:=[(vS (some ⟨Fn,0,none⟩) 3 3)]) U pV wm U U U U (by simp [Value.cells]) U U fun YE=>RD WM 4 U ?_
   exact jy hJ (Fn,YE) trivial [0,1,2,3,4,5,6,7,8,9,10,11,12,13,14,15,16,17,18,19] U U U
  refine hZ U U U fun T259 WN=>cj (t:=69) U (aO fun EQ=>?_) (aP fun EQ=>?_)
  ·exact absurd (qL) EQ
  refine du (xs:=[.const (vI 0),.const (vI 1),.const (vI 2)]) (cs:=[(vI 0),(vI 1),(vI 2)]) U cN jv U U U U (by simp [Value.cells]) U U fun Cx=>RD WN 3 U<|iJ [32,34] kr (ek ?_<|ek ?_<|j_)
  rotate_left 1
  ·refine hZ U U U fun T264 WQ=>du (xs:=[.tmp 71]) (cs:=[(vS (some ⟨Cx,0,none⟩) 3 3)]) U pV wm U U U U (by simp [Value.cells]) U U fun YG=>RD WQ 4 U<|N1 32<|hZ U U U fun T266 WR=>rS (MV U)<|RD WR 4 U ?_
   exact jy hJ (Cx,YG) trivial [0,1,2,3,4,5,6,7,8,9,10,11,12,13,14,15,16,17,18,19] U U U
  refine hZ U U U fun T261 WO=>rS (MV U)<|RD WO 3 U<|N1 34<|hZ U U U fun T262 WP=>du (xs:=[.tmp 71]) (cs:=[(vS (some ⟨Cx,0,none⟩) 3 3)]) U pV wm U U U U (by simp [Value.cells]) U U fun YF=>RD WP 4 U ?_
  exact jy hJ (Cx,YF) trivial [0,1,2,3,4,5,6,7,8,9,10,11,12,13,14,15,16,17,18,19] U U U
 rintro ⟨C,g⟩-
 try dsimp only
 refine g_ U fun T267 WT=>?_
 refine db (es:=(([0,1,2]:List Int).map iC)) (C':=[_,(own (some ⟨C,0,none⟩) 3 3 1 (([0,1,2]:List Int).map iC)),_,_,_,_,_,_,_,_,_,_,_,_,_,_,_,_,_,_]) 1 U (nu bM _) U (by show _≤maxLen; exact Nat.le_trans (m:=10) (show (3:Nat)≤10 by decide) dc) U ?_
 refine db (es:=(List.zipWith nI [([0,1,2]:List Int)] [((some ⟨C,0,none⟩),3)])) (C':=[(own (some ⟨g,0,none⟩) 1 32 1 (List.zipWith nI [([0,1,2]:List Int)] [((some ⟨C,0,none⟩),3)])),_,_,_,_,_,_,_,_,_,_,_,_,_,_,_,_,_,_,_]) 0 U (pk KP) U (by show _≤maxLen; exact Nat.le_trans (m:=10) (show (1:Nat)≤10 by decide) dc) U ?_
 refine uS (aU tF [([0,1,2]:List Int)] [((some ⟨C,0,none⟩),3)]) [1] [0,2,3,4,5,6,7,8,9,10,11,12,13,14,15,16,17,18,19] U U<|rS (CL (vR (dU aQ) ([([0,1,2]:List Int)]) a B9 Ci ([((some ⟨C,0,none⟩),3)]) (some ⟨g,0,none⟩) 1 (by first|exact Fd.1|exact C2.1) dc (by first|exact Fd.2|exact C2.2) dc (by exact IO) (by rfl)) (av (ag (n:=(dU aQ).length) 16 U (lD IO))<|av (dG 17 U GP)<|av (ag (n:=([([0,1,2]:List Int)]).length) 1 U sm)<|av (dG 0 U GP)<|aM) U)<|RD WT 4 U<|g_ U fun T268 WU=>rS (PK U)<|RD WU 4 U<|g_ U fun T269 WV=>rS (MV U)<|RD WV 4 U<|g_ U fun T270 WW=>cj (t:=75) U (aO fun Yy=>?_) (aP fun Yy=>?_)
 ·exact absurd (NB) Yy
 refine rS (MV U)<|RD WW 4 U<|g_ U fun T271 WX=>rS (SX (cf (r:= .bool true) U U U mO) U U)<|RD WX 4 U<|g_ U fun T272 WY=>rS (PK U)<|RD WY 4 U<|g_ U fun T273 WZ=>rS (MV U)<|RD WZ 4 U<|g_ U fun T274 Wb=>rS (LW 7 U cb U U)<|RD Wb 4 U<|g_ U fun T275 Wn=>?_
 refine rS (CL (zr 2 516 516 lF G N M H O AB P J R K S AA L T (by exact Id)) (fM 19 U U<|av (ag (n:=aQ.an.aL.length) 8 U (by rw [List.length_map]; rfl))<|av (ag (n:=aQ.an.ah.length) 9 U (fr FS))<|av (dG 10 U g7)<|av (ag (n:=aQ.an.ae.length) 11 U (by rw [List.length_map]; rfl))<|av (ag (n:=aQ.aK.length) 12 U (by rw [List.length_map]; rfl))<|av (ag (n:=aQ.bL.length) 13 U (by rw [List.length_map]; rfl))<|av (ag (n:=(fR aQ.ao 0 2 (aa.mk 2590 2599)).length) 14 U (de C3.1))<|av (gn 15 U C3)<|aM) U) ?_
 refine RD Wn 4 U<|g_ U fun T276 Wo=>rS (PK U)<|RD Wo 4 U<|g_ U fun T277 Wp=>rS (MV U)<|RD Wp 4 U<|g_ U fun T278 Wq=>cj (t:=83) U (aO fun Yz=>?_) (aP fun Yz=>?_)
 ·exact absurd (I3) Yz
 refine rS (MV U)<|RD Wq 4 U<|g_ U fun T279 Wr=>rS (BI U mO)<|RD Wr 4 U<|g_ U fun T280 Ws=>rS (PK U)<|RD Ws 4 U<|g_ U fun T281 Wt=>rS (MV U)<|RD Wt 4 U ?_
 refine uY (V:=Nat×Nat×Nat) (fun (D,E,A7)=>True) (fun (D,E,A7)=>[(9,(vS W ((dR aQ 0 2 (aa.mk 2590 2599)).length) Z)),(10,(vI (eV aQ 0 2 (aa.mk 2590 2599)))),(71,(vS (some ⟨C,0,none⟩) 3 3)),(87,(vB true)),(88,(vS A8 ((dU lF).length) A9)),(89,(vS (some ⟨D,0,none⟩) 2 2)),(90,(vS (some ⟨E,0,none⟩) 1 1)),(91,(vS (some ⟨A7,0,none⟩) 2 2))]) (fun (D,E,A7)=>[(cm A7 32 [(vS (some ⟨D,0,none⟩) 2 2),(vS (some ⟨E,0,none⟩) 1 1)]),(cm E 3 [(vI 2)]),(cm D 3 [(vI 0),(vI 1)]),(bB (aU tF [([0,1,2]:List Int)] [((some ⟨C,0,none⟩),3)])),(own (some ⟨g,0,none⟩) 1 32 1 (List.zipWith nI [([0,1,2]:List Int)] [((some ⟨C,0,none⟩),3)])),(cm f 3 [(vI 2),(vI 3)]),(cm e 3 [(vI 1),(vI 2)]),(own W Z 3 1 ((dR aQ 0 2 (aa.mk 2590 2599)).map iC)),(own A8 A9 32 1 (List.zipWith nI (dU lF) b)),(bB (aU tF (dU lF) b)),(cm Ck 35 (cr.cells (cr.mk (bV.mk (bw.mk (bq.mk G aQ.an.aL.length N)) aQ.an.f_ (bq.mk H aQ.an.ah.length O) (bq.mk AB aQ.an.ae.length P) aQ.an.cq aQ.an.dM aQ.an.cD) (bq.mk J aQ.aK.length R) (bq.mk K aQ.bL.length S) aQ.gZ (bq.mk L ((fR aQ.ao 0 2 (aa.mk 2590 2599)).length) T)))),(own G N 114 9 (aQ.an.aL.map ak.cells)),(own H O 119 2 (List.zipWith aq.cells aQ.an.ah M)),(bB (aU aq.owns aQ.an.ah M)),(own AB P 121 4 (aQ.an.ae.map bG.cells)),(own J R 3 1 (aQ.aK.map iC)),(own K S 3 1 (aQ.bL.map iC)),(own L T 46 1 (List.zipWith ct (fR aQ.ao 0 2 (aa.mk 2590 2599)) AA)),(bB (aU iD (fR aQ.ao 0 2 (aa.mk 2590 2599)) AA)),(own B9 Ci 32 1 (List.zipWith nI (dU aQ) a)),(bB (aU tF (dU aQ) a)),(cm DV 40 (aa.cells (iG aQ 0 0))),(rd ff 3 2 eu).ro]) 20 [54,55,56,57,58,59,60,61,62,63,64,65,66,67,68,69,70,71,72,73] (fun hJ=>?_) ?_
 ·refine iJ [50,51,52] kr (ek ?_<|ek ?_<|ek ?_<|j_)
  ·refine hZ U U U fun T285 Wu=>cj (t:=87) U (aO fun Cp=>?_) (aP fun Cp=>?_)
   ·exact absurd (yF) Cp
   refine rS (MV U)<|RD Wu 4 U<|iJ [51,52] kr (ek ?_<|ek ?_<|j_)
   rotate_left 1
   ·refine hZ U U U fun T292 Wy=>du (xs:=[.const (vI 2)]) (cs:=[(vI 2)]) U cN jv U U U U (by simp [Value.cells]) U U fun Ge=>RD Wy 5 U<|N1 51<|hZ U U U fun T294 Wz=>du (xs:=[.const (vI 0),.const (vI 1)]) (cs:=[(vI 0),(vI 1)]) U cN jv U U U U (by simp [Value.cells]) U U fun Go=>RD Wz 6 U<|N1 53<|hZ U U U fun T296 W0=>du (xs:=[.tmp 89,.tmp 90]) (cs:=[(vS (some ⟨Go,0,none⟩) 2 2),(vS (some ⟨Ge,0,none⟩) 1 1)]) U pV wm U U U U (by simp [Value.cells]) U U fun YI=>RD W0 7 U ?_
    exact jy hJ (Go,Ge,YI) trivial [0,2,1,3,4,5,6,7,8,9,10,11,12,13,14,15,16,17,18,19,20,21,22] U U U
   refine hZ U U U fun T286 Wv=>du (xs:=[.const (vI 0),.const (vI 1)]) (cs:=[(vI 0),(vI 1)]) U cN jv U U U U (by simp [Value.cells]) U U fun GE=>RD Wv 5 U<|N1 52<|hZ U U U fun T288 Ww=>du (xs:=[.const (vI 2)]) (cs:=[(vI 2)]) U cN jv U U U U (by simp [Value.cells]) U U fun GT=>RD Ww 6 U<|N1 53<|hZ U U U fun T290 Wx=>du (xs:=[.tmp 89,.tmp 90]) (cs:=[(vS (some ⟨GE,0,none⟩) 2 2),(vS (some ⟨GT,0,none⟩) 1 1)]) U pV wm U U U U (by simp [Value.cells]) U U fun YH=>RD Wx 7 U ?_
   exact jy hJ (GE,GT,YH) trivial [0,1,2,3,4,5,6,7,8,9,10,11,12,13,14,15,16,17,18,19,20,21,22] U U U
  ·refine hZ U U U fun T298 W1=>cj (t:=87) U (aO fun Cp=>?_) (aP fun Cp=>?_)
   ·exact absurd (yF) Cp
   refine du (xs:=[.const (vI 0),.const (vI 1)]) (cs:=[(vI 0),(vI 1)]) U cN jv U U U U (by simp [Value.cells]) U U fun BX=>RD W1 5 U<|iJ [50,52] kr (ek ?_<|ek ?_<|j_)
   ·refine hZ U U U fun T300 W2=>rS (MV U)<|RD W2 5 U<|N1 52<|hZ U U U fun T301 W3=>du (xs:=[.const (vI 2)]) (cs:=[(vI 2)]) U cN jv U U U U (by simp [Value.cells]) U U fun G1=>RD W3 6 U<|N1 53<|hZ U U U fun T303 W4=>du (xs:=[.tmp 89,.tmp 90]) (cs:=[(vS (some ⟨BX,0,none⟩) 2 2),(vS (some ⟨G1,0,none⟩) 1 1)]) U pV wm U U U U (by simp [Value.cells]) U U fun YJ=>RD W4 7 U ?_
    exact jy hJ (BX,G1,YJ) trivial [0,1,2,3,4,5,6,7,8,9,10,11,12,13,14,15,16,17,18,19,20,21,22] U U U
   refine hZ U U U fun T305 W5=>du (xs:=[.const (vI 2)]) (cs:=[(vI 2)]) U cN jv U U U U (by simp [Value.cells]) U U fun C0=>RD W5 6 U<|iJ [50,53] kr (ek ?_<|ek ?_<|j_)
   rotate_left 1
   ·refine hZ U U U fun T310 W8=>du (xs:=[.tmp 89,.tmp 90]) (cs:=[(vS (some ⟨BX,0,none⟩) 2 2),(vS (some ⟨C0,0,none⟩) 1 1)]) U pV wm U U U U (by simp [Value.cells]) U U fun YL=>RD W8 7 U<|N1 50<|hZ U U U fun T312 W9=>rS (MV U)<|RD W9 7 U ?_
    exact jy hJ (BX,C0,YL) trivial [0,1,2,3,4,5,6,7,8,9,10,11,12,13,14,15,16,17,18,19,20,21,22] U U U
   refine hZ U U U fun T307 W6=>rS (MV U)<|RD W6 6 U<|N1 53<|hZ U U U fun T308 W7=>du (xs:=[.tmp 89,.tmp 90]) (cs:=[(vS (some ⟨BX,0,none⟩) 2 2),(vS (some ⟨C0,0,none⟩) 1 1)]) U pV wm U U U U (by simp [Value.cells]) U U fun YK=>RD W7 7 U ?_
   exact jy hJ (BX,C0,YK) trivial [0,1,2,3,4,5,6,7,8,9,10,11,12,13,14,15,16,17,18,19,20,21,22] U U U
  refine hZ U U U fun T313 W_=>cj (t:=87) U (aO fun Cp=>?_) (aP fun Cp=>?_)
  ·exact absurd (yF) Cp
  refine du (xs:=[.const (vI 2)]) (cs:=[(vI 2)]) U cN jv U U U U (by simp [Value.cells]) U U fun B3=>RD W_ 5 U<|iJ [50,51] kr (ek ?_<|ek ?_<|j_)
  ·refine hZ U U U fun T315 XA=>rS (MV U)<|RD XA 5 U<|N1 51<|hZ U U U fun T316 XB=>du (xs:=[.const (vI 0),.const (vI 1)]) (cs:=[(vI 0),(vI 1)]) U cN jv U U U U (by simp [Value.cells]) U U fun Hi=>RD XB 6 U<|N1 53<|hZ U U U fun T318 XC=>du (xs:=[.tmp 89,.tmp 90]) (cs:=[(vS (some ⟨Hi,0,none⟩) 2 2),(vS (some ⟨B3,0,none⟩) 1 1)]) U pV wm U U U U (by simp [Value.cells]) U U fun YM=>RD XC 7 U ?_
   exact jy hJ (Hi,B3,YM) trivial [0,2,1,3,4,5,6,7,8,9,10,11,12,13,14,15,16,17,18,19,20,21,22] U U U
  refine hZ U U U fun T320 XD=>du (xs:=[.const (vI 0),.const (vI 1)]) (cs:=[(vI 0),(vI 1)]) U cN jv U U U U (by simp [Value.cells]) U U fun C1=>RD XD 6 U<|iJ [50,53] kr (ek ?_<|ek ?_<|j_)
  rotate_left 1
  ·refine hZ U U U fun T325 XH=>du (xs:=[.tmp 89,.tmp 90]) (cs:=[(vS (some ⟨C1,0,none⟩) 2 2),(vS (some ⟨B3,0,none⟩) 1 1)]) U pV wm U U U U (by simp [Value.cells]) U U fun YO=>RD XH 7 U<|N1 50<|hZ U U U fun T327 XI=>rS (MV U)<|RD XI 7 U ?_
   exact jy hJ (C1,B3,YO) trivial [0,2,1,3,4,5,6,7,8,9,10,11,12,13,14,15,16,17,18,19,20,21,22] U U U
  refine hZ U U U fun T322 XE=>rS (MV U)<|RD XE 6 U<|N1 53<|hZ U U U fun T323 XG=>du (xs:=[.tmp 89,.tmp 90]) (cs:=[(vS (some ⟨C1,0,none⟩) 2 2),(vS (some ⟨B3,0,none⟩) 1 1)]) U pV wm U U U U (by simp [Value.cells]) U U fun YN=>RD XG 7 U ?_
  exact jy hJ (C1,B3,YN) trivial [0,2,1,3,4,5,6,7,8,9,10,11,12,13,14,15,16,17,18,19,20,21,22] U U U
 rintro ⟨D,E,A7⟩-
 try dsimp only
 refine g_ U fun T328 XJ=>?_
 refine db (es:=(([0,1]:List Int).map iC)) (C':=[_,_,(own (some ⟨D,0,none⟩) 2 3 1 (([0,1]:List Int).map iC)),_,_,_,_,_,_,_,_,_,_,_,_,_,_,_,_,_,_,_,_]) 2 U (nu bM _) U (by show _≤maxLen; exact Nat.le_trans (m:=10) (show (2:Nat)≤10 by decide) dc) U ?_
 refine db (es:=(([2]:List Int).map iC)) (C':=[_,(own (some ⟨E,0,none⟩) 1 3 1 (([2]:List Int).map iC)),_,_,_,_,_,_,_,_,_,_,_,_,_,_,_,_,_,_,_,_,_]) 1 U (nu bM _) U (by show _≤maxLen; exact Nat.le_trans (m:=10) (show (1:Nat)≤10 by decide) dc) U ?_
 refine db (es:=(List.zipWith nI [([0,1]:List Int),([2]:List Int)] [((some ⟨D,0,none⟩),2),((some ⟨E,0,none⟩),1)])) (C':=[(own (some ⟨A7,0,none⟩) 2 32 1 (List.zipWith nI [([0,1]:List Int),([2]:List Int)] [((some ⟨D,0,none⟩),2),((some ⟨E,0,none⟩),1)])),_,_,_,_,_,_,_,_,_,_,_,_,_,_,_,_,_,_,_,_,_,_]) 0 U (pk KP) U (by show _≤maxLen; exact Nat.le_trans (m:=10) (show (2:Nat)≤10 by decide) dc) U ?_
 refine uS (aU tF [([0,1]:List Int),([2]:List Int)] [((some ⟨D,0,none⟩),2),((some ⟨E,0,none⟩),1)]) [2,1] [0,3,4,5,6,7,8,9,10,11,12,13,14,15,16,17,18,19,20,21,22] U U<|rS (CL (vR (dU lF) ([([0,1]:List Int),([2]:List Int)]) b A8 A9 ([((some ⟨D,0,none⟩),2),((some ⟨E,0,none⟩),1)]) (some ⟨A7,0,none⟩) 2 (by first|exact Fd.1|exact C2.1) dc (by first|exact Fd.2|exact C2.2) dc (by exact IR) (by rfl)) (av (ag (n:=(dU lF).length) 7 U (lD IR))<|av (dG 8 U GP)<|av (ag (n:=([([0,1]:List Int),([2]:List Int)]).length) 1 U sm)<|av (dG 0 U GP)<|aM) U)<|RD XJ 6 U<|g_ U fun T329 XK=>rS (PK U)<|RD XK 6 U<|g_ U fun T330 XL=>rS (MV U)<|RD XL 6 U<|g_ U fun T331 XM=>cj (t:=94) U (aO fun Y0=>?_) (aP fun Y0=>?_)
 ·exact absurd (KL) Y0
 refine rS (MV U)<|RD XM 6 U<|g_ U fun T332 XN=>rS (BI U mO)<|RD XN 6 U<|g_ U fun T333 XO=>rS (PK U)<|RD XO 6 U<|g_ U fun T334 XP=>rS (MV U)<|RD XP 6 U ?_
 refine uY (V:=Nat) (fun B7=>True) (fun B7=>[(71,(vS (some ⟨C,0,none⟩) 3 3)),(89,(vS (some ⟨D,0,none⟩) 2 2)),(90,(vS (some ⟨E,0,none⟩) 1 1)),(98,(vB true)),(99,(vS W ((dR aQ 0 2 (aa.mk 2590 2599)).length) Z)),(100,(vS (some ⟨B7,0,none⟩) 1 1))]) (fun B7=>[(cm B7 3 [(vI 2)]),(bB (aU tF [([0,1]:List Int),([2]:List Int)] [((some ⟨D,0,none⟩),2),((some ⟨E,0,none⟩),1)])),(own (some ⟨A7,0,none⟩) 2 32 1 (List.zipWith nI [([0,1]:List Int),([2]:List Int)] [((some ⟨D,0,none⟩),2),((some ⟨E,0,none⟩),1)])),(bB (aU tF [([0,1,2]:List Int)] [((some ⟨C,0,none⟩),3)])),(own (some ⟨g,0,none⟩) 1 32 1 (List.zipWith nI [([0,1,2]:List Int)] [((some ⟨C,0,none⟩),3)])),(cm f 3 [(vI 2),(vI 3)]),(cm e 3 [(vI 1),(vI 2)]),(own W Z 3 1 ((dR aQ 0 2 (aa.mk 2590 2599)).map iC)),(own A8 A9 32 1 (List.zipWith nI (dU lF) b)),(bB (aU tF (dU lF) b)),(cm Ck 35 (cr.cells (cr.mk (bV.mk (bw.mk (bq.mk G aQ.an.aL.length N)) aQ.an.f_ (bq.mk H aQ.an.ah.length O) (bq.mk AB aQ.an.ae.length P) aQ.an.cq aQ.an.dM aQ.an.cD) (bq.mk J aQ.aK.length R) (bq.mk K aQ.bL.length S) aQ.gZ (bq.mk L ((fR aQ.ao 0 2 (aa.mk 2590 2599)).length) T)))),(own G N 114 9 (aQ.an.aL.map ak.cells)),(own H O 119 2 (List.zipWith aq.cells aQ.an.ah M)),(bB (aU aq.owns aQ.an.ah M)),(own AB P 121 4 (aQ.an.ae.map bG.cells)),(own J R 3 1 (aQ.aK.map iC)),(own K S 3 1 (aQ.bL.map iC)),(own L T 46 1 (List.zipWith ct (fR aQ.ao 0 2 (aa.mk 2590 2599)) AA)),(bB (aU iD (fR aQ.ao 0 2 (aa.mk 2590 2599)) AA)),(own B9 Ci 32 1 (List.zipWith nI (dU aQ) a)),(bB (aU tF (dU aQ) a)),(cm DV 40 (aa.cells (iG aQ 0 0))),(rd ff 3 2 eu).ro]) 11 [63,64,65,66,67,68,69,70,71,72,73] (fun hJ=>?_) ?_
 ·refine iJ [61,62] kr (ek ?_<|ek ?_<|j_)
  rotate_left 1
  ·refine hZ U U U fun T339 XS=>cj (t:=98) U (aO fun Eq=>?_) (aP fun Eq=>?_)
   ·exact absurd (B2) Eq
   refine du (xs:=[.const (vI 2)]) (cs:=[(vI 2)]) U cN jv U U U U (by simp [Value.cells]) U U fun YQ=>RD XS 7 U<|N1 61<|hZ U U U fun T341 XU=>rS (MV U)<|RD XU 7 U ?_
   exact jy hJ YQ trivial [0,1,2,3,4,5,6,7,8,9,10,11,12,13,14,15,16,17,18,19,20,21,22] U U U
  refine hZ U U U fun T336 XQ=>cj (t:=98) U (aO fun Eq=>?_) (aP fun Eq=>?_)
  ·exact absurd (B2) Eq
  refine rS (MV U)<|RD XQ 6 U<|N1 62<|hZ U U U fun T337 XR=>du (xs:=[.const (vI 2)]) (cs:=[(vI 2)]) U cN jv U U U U (by simp [Value.cells]) U U fun YP=>RD XR 7 U ?_
  exact jy hJ YP trivial [0,1,2,3,4,5,6,7,8,9,10,11,12,13,14,15,16,17,18,19,20,21,22] U U U
 rintro B7-
 try dsimp only
 refine g_ U fun T342 XV=>rS (CL (j4 (dR aQ 0 2 (aa.mk 2590 2599)) W Z ([2]) (some ⟨B7,0,none⟩) 1 I dc) (av (ag (n:=(dR aQ 0 2 (aa.mk 2590 2599)).length) 7 U sm)<|av (bp 0 U U (by simp [bM]) U)<|aM) U)<|RD XV 7 U<|g_ U fun T343 XW=>rS (PK U)<|RD XW 7 U<|g_ U fun T344 XX=>rS (MV U)<|RD XX 7 U<|g_ U fun T345 XY=>cj (t:=103) U (aO fun Hj=>?_) (aP fun Hj=>?_)
 ·exact absurd (O2) Hj
 refine du (xs:=[.const (vI 0),.const (vI 2),.const (vI 1)]) (cs:=[(vI 0),(vI 2),(vI 1)]) U cN jv U U U U (by simp [Value.cells]) U U fun YR=>RD XY 8 U<|g_ U fun T347 XZ=>rS (CL (z9 1 ([0,2,1]) (some ⟨YR,0,none⟩) 3 dc) (fM 23 U U<|av (bp 0 U U (by simp [bM]) U)<|aM) U)<|RD XZ 8 U<|g_ U fun T348 Xa=>rS (PK U)<|RD Xa 8 U<|g_ U fun T349 Xb=>rS (MV U)<|RD Xb 8 U<|g_ U fun T350 Xc=>cj (t:=107) U (aO fun H1=>?_) (aP fun H1=>?_)
 ·exact absurd (Jh) H1
 refine du (xs:=[.const (vI 0),.const (vI 1),.const (vI 2)]) (cs:=[(vI 0),(vI 1),(vI 2)]) U cN jv U U U U (by simp [Value.cells]) U U fun YS=>RD Xc 9 U<|IV [109,110,0] kr kr U _ U U (aI [9,10,11,12,13,14,15,16,17,18,19,20,21,22,23,24])<|dS (CL (z9 2 ([0,1,2]) (some ⟨YS,0,none⟩) 3 dc) (fM 24 U U<|av (bp 0 U U (by simp [bM]) U)<|aM) U)<|dP 2 [] mn ?_
 refine cM<|RK ST<|ar<|Q1 hQ U U U ?_
 exact cB (dK Jf)
end
section
open Go.RowKit
theorem BL (r:bY) (kA:OA) (kC:Nat) (az:List RA) (cA:OA) (cC:Nat) (bA:OA) (bC:Nat) (slA:OA) (slC:Nat) (drA:OA) (drC:Nat) (ha:List cG) (heA:OA) (heC:Nat) (hraw:r8 r az ha):
 er Tryz.prog 52 [(vA (cr.cells (ou r kA kC cA cC bA bC slA slC drA drC heA heC)))] [(rd kA r.an.aL.length 9 (r.an.aL.map ak.cells)),(rd cA r.an.ah.length 2 (List.zipWith aq.cells r.an.ah az)),(eX (aU aq.gE r.an.ah az)),(rd bA r.an.ae.length 4 (r.an.ae.map bG.cells)),(rd slA r.aK.length 1 (r.aK.map iC)),(rd drA r.bL.length 1 (r.bL.map iC)),(rd heA r.ao.length 1 (List.zipWith ct r.ao ha)),(eX (aU hO r.ao ha))] (vB (decide (kW r))):=by
 have AC:=hraw.line
 have A0:=hraw.iv
 have A2:=hraw.has
 have Av:=hraw.iA
 have AO:=hraw.draw
 refine bI kr Tryz.func52 U U fun w0 Q hQ hN=>?_
 try dsimp only
 refine WS fun _ l=>fK U fun b2=>bo 1 U<|RK l<|aj fun _ m=>WS fun _ H=>bo 1 U<|rS (LP (bV.cells (lq r.an kA kC cA cC bA bC)) 0 U cb U U U)<|rS (CL (K9 r.an kA kC az cA cC bA bC asm) (bk [1,2,3,4]) U)<|rP 1 [] mn ?_
 refine cH (t:=8) U (aP fun k=>?_) (aO fun k=>?_)
 ·refine bo 17 U<|RK H<|aN U<|WS fun _ n=>rP 1 [] mn ?_
  refine RK n<|ar<|Q1 hQ U U U ?_
  exact cB (dK (pJ (.inl k))).symm
 refine rP 6 [] (mc 0 U mn) ?_
 refine cH (t:=14) U (aP fun AB=>?_) (aO fun AB=>?_)
 ·refine bo 11 U<|RK H<|aN U<|WS fun _ o=>rP 1 [] mn ?_
  refine RK o<|ar<|Q1 hQ U U U ?_
  exact cB (dK (pJ (.inr I))).symm
 refine rP 6 [] (mc 0 U mn) ?_
 refine cH (t:=20) U (aP fun f=>?_) (aO fun f=>?_)
 ·refine bo 5 U<|RK H<|aN U<|WS fun _ p=>rP 1 [] mn ?_
  refine RK p<|ar<|Q1 hQ U U U ?_
  exact cB (dK (pJ (.inr I))).symm
 refine rP 5 [] (mc 0 U mn) ?_
 refine RK H<|cE U (aP fun h=>?_) (aO fun h=>?_)
 ·refine WS fun _ q=>rP 1 [] mn ?_
  refine RK q<|ar<|Q1 hQ U U U ?_
  exact cB (dK (pJ (.inr I))).symm
 refine WK m<|aj fun _ s=>WS fun _ N=>rP 1 [] mn ?_
 refine RK N<|ay ?_
 have B:(0≤r.ao.length)∧(mo r 0):=by exact ⟨Nat.zero_le _,CS⟩
 refine bK (ι:={z:Nat // (z≤r.ao.length)∧(mo r z)}) [1] [0,1,2,3,4,5,6,7,8] U U (fun z=>[(3,(vI (z.1:Int)))]) (fun z=>[]) (fun _=>rfl) (fun _=>rfl) (fun z=>r.ao.length-z.1) ⟨0,B⟩ (aT U) (aI [0,1,2,3,4,5,6,7,8]) ?_
 clear B
 rintro ⟨i,⟨x,F⟩⟩ J11 L
 try dsimp only
 refine aj fun _ O=>WS fun _ P=>rP 5 [] (mc 0 U mn) ?_
 refine RK P<|bO U (aO fun AB=>?_) (aP fun AB=>?_)
 ·refine bD<|ab<|ab<|aA<|KK s<|WS fun _ b=>rP 1 [] mn ?_
  refine RK b<|ar<|Q1 hQ U U U ?_
  exact cB (bx (HC k I F I)).symm
 refine WK O<|aj fun _ R=>ay<|aj fun _ S=>WS fun _ T=>rP 3 [] (mc 0 U mn) ?_
 obtain ⟨ht,D⟩:=aH r.ao i I
 obtain ⟨A,C⟩:=aH ha i I
 have E:(List.zipWith ct r.ao ha)[i]? =some (ct ht A):=cT D C
 refine rS (IA i U (aB 7 U) lu dc I I)<|rS (fX i 0 (vS A.1.1 ht.length A.1.2) U cb (aB 7 U) E U dc U) ?_
 obtain ⟨A1,An,w⟩:=hraw.kb _ _ _ D C
 refine rP 2 [] mn ?_
 refine RK T<|cE U (aP fun J=>?_) (aO fun J=>?_)
 ·refine WS fun _ AA=>rP 1 [] mn ?_
  refine RK AA<|ar<|Q1 hQ U U U ?_
  exact cB (dK (Cw D J)).symm
 refine WK S<|WS fun _ V=>rP 1 [] mn ?_
 refine RK V<|ay ?_
 have B:(0≤ht.length)∧(nE ht 0):=by exact ⟨Nat.zero_le _,BT⟩
 refine bK (ι:={z:Nat // (z≤ht.length)∧(nE ht z)}) [1,3] [0,1,2,3,4,5,6,7,8] U U (fun z=>[(4,(vI (z.1:Int)))]) (fun z=>[]) (fun _=>rfl) (fun _=>rfl) (fun z=>ht.length-z.1) ⟨0,B⟩ (aT U) (aI [0,1,2,3,4,5,6,7,8]) ?_
 clear B
 rintro ⟨j,⟨y,G⟩⟩ J20 M
 try dsimp only
 refine aj fun _ W=>WS fun _ X=>fG 4 [] (mc 0 U mn) U<|rS (IA i U (aB 7 U) lu dc I I)<|rS (fX i 0 (vS A.1.1 ht.length A.1.2) U cb (aB 7 U) E U dc U)<|rP 2 [] mn ?_
 refine RK X<|bO U (aO fun g=>?_) (aP fun g=>?_)
 ·refine bD<|ab<|ab<|aA<|aG<|KK R<|al<|rP 3 [] mn ?_
  refine aD ?_
  have e:(vI (((i+1):Nat):Int))=(vI ((i:Int)+1)):=by exact cI I
  refine aR (L ⟨(i+1),⟨I,C6 F D (Ff J G I)⟩⟩ _ _ _ U os (dj.cons U<|aY U e<|dj.nil _) (aI [0,1,2,3,4,5,6,7,8]))
 refine WK W<|aj fun _ Y=>ay<|WS fun _ Z=>fG 3 [] (mc 0 U mn) U<|rS (IA i U (aB 7 U) lu dc I I)<|rS (fX i 0 (vS A.1.1 ht.length A.1.2) U cb (aB 7 U) E U dc U)<|rP 1 [] mn ?_
 obtain ⟨d,hd⟩:=aH ht j I
 obtain ⟨da,u⟩:=aH A.2 j I
 have v:(List.zipWith au.cells ht A.2)[j]? =some (au.cells d da):=cT hd u
 refine rS (IA j U (show g9 _ (rd A.1.1 ht.length 7 (List.zipWith au.cells ht A.2)).holds from (cw 8 U (bH D C bZ))) pN dc I I)<|rS (mV ((j*7)+4) U (show g9 _ (rd A.1.1 ht.length 7 (List.zipWith au.cells ht A.2)).holds from (cw 8 U (bH D C bZ))) (Nat.mul_pos I dc) fw U)<|rS (mV (((j*7)+4)+2) U (show g9 _ (rd A.1.1 ht.length 7 (List.zipWith au.cells ht A.2)).holds from (cw 8 U (bH D C bZ))) (Nat.mul_pos I dc) fw U)<|rS (fX j 6 (vS da.1 d.b_.ai.length da.2) U cb (show g9 _ (rd A.1.1 ht.length 7 (List.zipWith au.cells ht A.2)).holds from (cw 8 U (bH D C bZ))) v U dc U) ?_
 have A3:=w d (aS hd)
 refine rP 2 [] mn ?_
 refine RK Z<|bO U (aO fun K=>?_) (aP fun K=>?_)
 ·refine ck<|aG<|KK Y<|al<|rP 3 [] mn ?_
  refine aD ?_
  have c:(vI (((j+1):Nat):Int))=(vI ((j:Int)+1)):=by exact cI I
  refine aR (M ⟨(j+1),⟨I,Cr G hd K⟩⟩ _ _ _ U os (dj.cons U<|dj.cons U<|aY U c<|dj.nil _) (aI [0,1,2,3,4,5,6,7,8]))
 refine WS fun _ a=>rP 1 [] mn ?_
 refine RK a<|ar<|Q1 hQ U U U ?_
 exact cB (dK (Fz D hd K)).symm
end
section
open Go.RowKit
theorem EF (l:bf) (kA:OA) (kC:Nat) (az:List RA) (cA:OA) (cC:Nat) (bA:OA) (bC:Nat) (d:au) (sgA:OA) (sgC:Nat) (hin:ep l az) (hle:dH l=0) (hsl:d.b_.ai.length≤1000000) (hk:d.Out=true):
 er Tryz.prog 138 [(vA (bV.cells (lq l kA kC cA cC bA bC))),(vA (bg.cells (bg.mk d.Out d.dZ d.Time (lV d.b_ sgA sgC))))] [(rd kA l.aL.length 9 (l.aL.map ak.cells)),(rd cA l.ah.length 2 (List.zipWith aq.cells l.ah az)),(eX (aU aq.gE l.ah az)),(rd bA l.ae.length 4 (l.ae.map bG.cells)),(rd sgA d.b_.ai.length 2 (d.b_.ai.map aJ.cells))] (vT [(vA (aa.cells (px l d))),(vB (decide (iy l d)))]):=by
 have K:=hin.sx
 have J:=hin.sG
 have H:=hin.mW
 have AA:=hin.sk
 refine bI kr Tryz.func138 U U fun O Q hQ hN=>?_
 try dsimp only
 refine WS fun _ B=>fK U fun L=>fK U fun M=>AL U dx fun N=>bo 1 U<|RK B<|aj fun _ E=>ay<|WS fun _ C=>rP 3 [] (mc 1 U mn) ?_
 refine RK C<|bO U (fun G=>?_) (fun G=>?_)
 ·exact absurd ((hk).symm.trans G) dc
 refine WS fun _ A=>rS (SX (bu (xs:=[]) (cs:=(aa.cells (aa.mk 0 0))) U U (br gG U)) U U)<|rP 4 [] (mc 1 U mn) ?_
 refine cj (t:=15) U (fun D=>?_) (fun D=>?_)
 ·rw [Bool.not_eq_false'] at D
  refine bo 10 U<|fW U cz U<|rP 1 [] mn ?_
  refine RK A<|ar<|lP hQ [0] (mc 0 U mn) U ?_
  clear hQ hN A C E B
  rw [AE hk]
  simp only [q_ hk]
  refine congrArg (fun z=>Value.tuple #[_,vB z]) ?_
  first|rfl|(simp_all [dN]; done)
 rw [Bool.not_eq_true'] at D
 refine bo 1 U<|rS (LP (aa.cells d.Time) 1 U cb U U U)<|rS (SX (bu (xs:=[]) (cs:=(aa.cells (aa.mk 0 0))) U U (br gG U)) U U)<|rS (BI U (sS _ _ d.Time (aa.mk 0 0)))<|rP 2 [] mn ?_
 refine cj (t:=21) U (aO fun F=>?_) (aP fun F=>?_)
 ·refine bo 4 U<|fW U cz U<|rP 1 [] mn ?_
  refine RK A<|ar<|lP hQ [0] (mc 0 U mn) U ?_
  clear hQ hN A C E B
  rw [AE hk]
  simp only [q_ hk]
  refine congrArg (fun z=>Value.tuple #[_,vB z]) ?_
  first|rfl|(simp_all [dN]; done)
 refine bo 1 U<|rS (LP (dL.cells (lV d.b_ sgA sgC)) 1 U cb U U U)<|rS (CL (GR d.b_ sgA sgC) (bk [7]) U)<|bo 1 U<|fW U cz U<|rP 1 [] mn ?_
 refine RK A<|ar<|lP hQ [0] (mc 0 U mn) U ?_
 clear hQ hN A C E B
 rw [AE hk]
 simp only [q_ hk]
 refine congrArg (fun z=>Value.tuple #[_,vB z]) ?_
 first|rfl|(simp_all [dN]; done)
theorem E8 (l:bf) (kA:OA) (kC:Nat) (az:List RA) (cA:OA) (cC:Nat) (bA:OA) (bC:Nat) (d:au) (sgA:OA) (sgC:Nat) (hin:ep l az) (hle:dH l=0) (hsl:d.b_.ai.length≤1000000) (hk:d.Out=false∧d.dZ=true):
 er Tryz.prog 138 [(vA (bV.cells (lq l kA kC cA cC bA bC))),(vA (bg.cells (bg.mk d.Out d.dZ d.Time (lV d.b_ sgA sgC))))] [(rd kA l.aL.length 9 (l.aL.map ak.cells)),(rd cA l.ah.length 2 (List.zipWith aq.cells l.ah az)),(eX (aU aq.gE l.ah az)),(rd bA l.ae.length 4 (l.ae.map bG.cells)),(rd sgA d.b_.ai.length 2 (d.b_.ai.map aJ.cells))] (vT [(vA (aa.cells (px l d))),(vB (decide (iy l d)))]):=by
 have N:=hin.sx
 have M:=hin.sG
 have K:=hin.mW
 have L:=hin.sk
 refine bI kr Tryz.func138 U U fun S Q hQ hN=>?_
 try dsimp only
 refine WS fun _ D=>fK U fun O=>fK U fun P=>AL U dx fun R=>bo 1 U<|RK D<|aj fun _ H=>ay<|WS fun _ E=>rP 3 [] (mc 1 U mn) ?_
 refine RK E<|cE U (fun J=>?_) (fun J=>?_)
 ·exact absurd ((hk.1).symm.trans J) dc
 refine WS fun _ F=>rP 3 [] (mc 1 U mn) ?_
 refine RK F<|bO U (fun G=>?_) (fun G=>?_)
 ·exact absurd ((hk.2).symm.trans G) dc
 refine aj fun _ B=>dJ cv [10] [] [] [1,2,3,4,5,6,7] [] U U U U U<|eS U (FA 2 U fw U)<|eS U (LP (aa.cells d.Time) 0 U cb U U U)<|eS U (FA 2 U fw U)<|eS U (LP (aa.cells d.Time) 0 U cb U U U)<|eS U (CL (G0 d.Time) (aM) U)<|eS U (MV U)<|rO (t:=34) U (fun A=>?_) (fun A=>?_)
 rotate_left 1
 ·replace A:=DF A
  refine eS U (OX U)<|eS U (OX U)<|eS U (OX U)<|eS U (PK U)<|eS U (AG U)<|eT U<|cp U fun T10 C=>fW U cz U<|aD (C _ _ (aI [1,2,3,4,5,6,7]) ?_)
  refine fO U<|KK B<|ar<|lP hQ [0] (mc 0 U mn) U ?_
  clear hQ hN C T10 B F E H D
  rw [FV hk]
  simp only [tT hk]
  refine congrArg (fun z=>Value.tuple #[_,vB z]) ?_
  first|rfl|(simp_all; done)
 replace A:=DT A
 refine eS U (FA 4 U fw U)<|eS U (LP (dL.cells (lV d.b_ sgA sgC)) 0 U cb U U U)<|eS U (CL (GR d.b_ sgA sgC) (bk [6]) U)<|eS U (PK U)<|eS U (AG U)<|eT U<|cp U fun T9 AA=>fW U cz U<|aD (AA _ _ (aI [1,2,3,4,5,6,7]) ?_)
 refine fO U<|KK B<|ar<|lP hQ [0] (mc 0 U mn) U ?_
 clear hQ hN AA T9 B F E H D
 rw [FV hk]
 simp only [tT hk]
 refine congrArg (fun z=>Value.tuple #[_,vB z]) ?_
 first|rfl|(simp_all; done)
theorem ER (l:bf) (kA:OA) (kC:Nat) (az:List RA) (cA:OA) (cC:Nat) (bA:OA) (bC:Nat) (d:au) (sgA:OA) (sgC:Nat) (hin:ep l az) (hle:dH l=0) (hsl:d.b_.ai.length≤1000000) (hk:d.Out=false∧d.dZ=false):
 er Tryz.prog 138 [(vA (bV.cells (lq l kA kC cA cC bA bC))),(vA (bg.cells (bg.mk d.Out d.dZ d.Time (lV d.b_ sgA sgC))))] [(rd kA l.aL.length 9 (l.aL.map ak.cells)),(rd cA l.ah.length 2 (List.zipWith aq.cells l.ah az)),(eX (aU aq.gE l.ah az)),(rd bA l.ae.length 4 (l.ae.map bG.cells)),(rd sgA d.b_.ai.length 2 (d.b_.ai.map aJ.cells))] (vT [(vA (aa.cells (px l d))),(vB (decide (iy l d)))]):=by
 have O:=hin.sx
 have N:=hin.sG
 have L:=hin.mW
 have M:=hin.sk
 refine bI kr Tryz.func138 U U fun AA Q hQ hN=>?_
 try dsimp only
 refine WS fun _ E=>fK U fun P=>fK U fun R=>AL U dx fun S=>bo 1 U<|RK E<|aj fun _ F=>ay<|WS fun _ G=>rP 3 [] (mc 1 U mn) ?_
 refine RK G<|cE U (fun K=>?_) (fun K=>?_)
 ·exact absurd ((hk.1).symm.trans K) dc
 refine WS fun _ H=>rP 3 [] (mc 1 U mn) ?_
 refine RK H<|cE U (fun J=>?_) (fun J=>?_)
 ·exact absurd ((hk.2).symm.trans J) dc
 refine ck<|aG<|KK F<|WS fun _ AB=>fG 2 [] (mc 2 U mn) U<|rS (LP (dL.cells (lV d.b_ sgA sgC)) 1 U cb U U U)<|rS (CL (Qd l kA kC az cA cC bA bC d.b_ sgA sgC hin hsl) (bk [3,4,5,6,7]) U)<|bo 3 U<|AL U dx fun T=>fW U cz U<|rP 1 [] mn ?_
 refine RK AB<|aj fun _ A=>dJ cv [9] [] [] [0,2,3,4,5,6,7,8] [] U U U U U<|eS U (LW 0 U cb U U)<|eS U (MV U)<|eS U (BI U mO)<|eS U (MV U)<|rO (t:=49) U (fun B=>?_) (fun B=>?_)
 rotate_left 1
 ·replace B:=DF B
  refine eS U (OX U)<|eS U (OX U)<|eS U (OX U)<|eS U (OX U)<|eS U (PK U)<|eS U (AG U)<|eT U<|cp U fun T12 D=>sj U cz U<|aD (D _ _ (aI [0,2,3,4,5,6,7,8]) ?_)
  refine fO U<|KK A<|ar<|lP hQ [0] (mc 1 U mn) U ?_
  clear hQ hN D T12 A AB H G F E
  rw [Ga hk]
  simp only [uH hk]
  refine congrArg (fun z=>Value.tuple #[_,vB z]) ?_
  first|rfl|(simp_all [dN]; done)
 replace B:=DT B
 refine eS U (FA 2 U fw U)<|eS U (LP (aa.cells d.Time) 1 U cb U U U)<|eS U (SX (bu (xs:=[]) (cs:=(aa.cells (aa.mk 0 0))) U U (br gG U)) U U)<|eS U (BI U (sS _ _ d.Time (aa.mk 0 0)))<|eS U (PK U)<|eS U (AG U)<|eT U<|cp U fun T11 C=>sj U cz U<|aD (C _ _ (aI [0,2,3,4,5,6,7,8]) ?_)
 refine fO U<|KK A<|ar<|lP hQ [0] (mc 1 U mn) U ?_
 clear hQ hN C T11 A AB H G F E
 rw [Ga hk]
 simp only [uH hk]
 refine congrArg (fun z=>Value.tuple #[_,vB z]) ?_
 first|rfl|(simp_all [dN]; done)
theorem HE (l:bf) (kA:OA) (kC:Nat) (az:List RA) (cA:OA) (cC:Nat) (bA:OA) (bC:Nat) (d:au) (sgA:OA) (sgC:Nat) (hin:ep l az) (hle:dH l=0) (hsl:d.b_.ai.length≤1000000):
 er Tryz.prog 138 [(vA (bV.cells (lq l kA kC cA cC bA bC))),(vA (bg.cells (bg.mk d.Out d.dZ d.Time (lV d.b_ sgA sgC))))] [(rd kA l.aL.length 9 (l.aL.map ak.cells)),(rd cA l.ah.length 2 (List.zipWith aq.cells l.ah az)),(eX (aU aq.gE l.ah az)),(rd bA l.ae.length 4 (l.ae.map bG.cells)),(rd sgA d.b_.ai.length 2 (d.b_.ai.map aJ.cells))] (vT [(vA (aa.cells (px l d))),(vB (decide (iy l d)))]):=by
 by_cases ho:d.Out=true
 ·exact EF l kA kC az cA cC bA bC d sgA sgC hin hle hsl ho
 by_cases hf:d.dZ=true
 ·exact E8 l kA kC az cA cC bA bC d sgA sgC hin hle hsl ⟨by simpa using ho,hf⟩
 ·exact ER l kA kC az cA cC bA bC d sgA sgC hin hle hsl ⟨by simpa using ho,by simpa using hf⟩
end
section
open Go.RowKit
theorem Fp (r:bY) (kA:OA) (kC:Nat) (az:List RA) (cA:OA) (cC:Nat) (bA:OA) (bC:Nat) (slA:OA) (slC:Nat) (drA:OA) (drC:Nat) (ha:List cG) (heA:OA) (heC:Nat) (hin:ej r az ha) (hle:dH r.an=0):
 lx Tryz.prog 112 [(vA (cr.cells (ou r kA kC cA cC bA bC slA slC drA drC heA heC)))] [(rd kA r.an.aL.length 9 (r.an.aL.map ak.cells)),(rd cA r.an.ah.length 2 (List.zipWith aq.cells r.an.ah az)),(eX (aU aq.gE r.an.ah az)),(rd bA r.an.ae.length 4 (r.an.ae.map bG.cells)),(rd slA r.aK.length 1 (r.aK.map iC)),(rd drA r.bL.length 1 (r.bL.map iC)),(rd heA r.ao.length 1 (List.zipWith ct r.ao ha)),(eX (aU hO r.ao ha))] (fun (x:Bool×Int×(OA)×Nat×(List RA))=>bif x.1 then (vT [(vS x.2.2.1 ((cU r).length) x.2.2.2.1),(vB true)]) else (vT [(vS none 0 0),(vB false)])) (fun (x:Bool×Int×(OA)×Nat×(List RA))=>(x.1=true→(fc r∧x.2.2.2.2.length=r.ao.length))∧(x.1=false→(x.2.1=0∧ ¬ fc r))) (fun (x:Bool×Int×(OA)×Nat×(List RA))=>bif x.1 then [(own x.2.2.1 x.2.2.2.1 82 1 (List.zipWith Ew (cU r) x.2.2.2.2)),(bB (aU DU (cU r) x.2.2.2.2))] else []):=by
 have Ms:=hin.line
 have Pl:=hin.iv
 have Pn:=hin.has
 have Or:=hin.iA
 have Ne:=hin.draw
 have Os:=dB (r:=r)
 refine dp kr Tryz.func112 U U fun w0 Q hQ hN=>?_
 try dsimp only
 refine WS fun _ LE=>fK U fun b2=>bo 2 U<|RK LE<|WS fun _ LT=>fG 4 [] (mc 0 U mn) U<|RK LT<|aj fun _ La=>WS fun _ N=>bo 1 U<|rS (CL (pb (r.aK.length:Int) 1 5) (aM) U)<|rP 2 [] mn ?_
 refine cH (t:=19) U (aZ fun J8=>?_) (a_ fun J8=>?_)
 ·refine bo 19 U<|RK N<|aN U<|WS fun _ Lf=>rP 2 [] mn ?_
  refine RK Lf<|ar<|LX hQ (false,0,none,0,[]) [] [] mn U (by rfl) U U ?_
  (exact ⟨BD,fun _=>⟨rfl,fun q=>by have S:=q.num; have q2:=q.wZ; have q3:=q.nh; have q4:=q.yX; omega⟩⟩)
 refine rP 7 [] (mc 0 U mn) ?_
 refine cH (t:=26) U (aZ fun X=>?_) (a_ fun X=>?_)
 ·refine bo 12 U<|RK N<|aN U<|WS fun _ Li=>rP 2 [] mn ?_
  refine RK Li<|ar<|LX hQ (false,0,none,0,[]) [] [] mn U (by rfl) U U ?_
  (exact ⟨BD,fun _=>⟨rfl,fun q=>by have S:=q.num; have q2:=q.wZ; have q3:=q.nh; have q4:=q.yX; omega⟩⟩)
 refine fG 2 [] (mc 0 U mn) U<|rS (CL (pb r.gZ 0 5) (aM) U)<|rP 3 [] mn ?_
 refine cH (t:=32) U (aZ fun J9=>?_) (a_ fun J9=>?_)
 ·refine bo 6 U<|RK N<|aN U<|WS fun _ Lk=>rP 2 [] mn ?_
  refine RK Lk<|ar<|LX hQ (false,0,none,0,[]) [] [] mn U (by rfl) U U ?_
  (exact ⟨BD,fun _=>⟨rfl,fun q=>by have S:=q.num; have q2:=q.wZ; have q3:=q.nh; have q4:=q.yX; omega⟩⟩)
 refine fG 3 [] (mc 0 U mn) U<|rS (CL (pb (r.ao.length:Int) 1 3) (aM) U)<|rP 2 [] mn ?_
 refine RK N<|cE U (aZ fun Kx=>?_) (a_ fun Kx=>?_)
 ·refine WS fun _ Lo=>rP 2 [] mn ?_
  refine RK Lo<|ar<|LX hQ (false,0,none,0,[]) [] [] mn U (by rfl) U U ?_
  (exact ⟨BD,fun _=>⟨rfl,fun q=>by have S:=q.num; have q2:=q.wZ; have q3:=q.nh; have q4:=q.yX; omega⟩⟩)
 refine WK La<|aj fun _ o=>WS fun _ p=>rP 1 [] mn ?_
 refine RK p<|ay ?_
 have A:(0≤r.aK.length)∧(yu r 0):=by exact ⟨Nat.zero_le _,MJ⟩
 refine bK (ι:={z:Nat // (z≤r.aK.length)∧(yu r z)}) [1,4] [0,1,2,3,4,5,6,7,8] U U (fun z=>[(5,(vI (z.1:Int)))]) (fun z=>[]) (fun _=>rfl) (fun _=>rfl) (fun z=>r.aK.length-z.1) ⟨0,A⟩ (aT U) (aI [0,1,2,3,4,5,6,7,8]) ?_
 clear A
 rintro ⟨i,⟨L3,AB⟩⟩ J12 T
 try dsimp only
 refine aj fun _ s=>WS fun _ v=>rP 3 [] mn ?_
 refine RK v<|bO U (aO fun J7=>?_) (aP fun J7=>?_)
 ·refine bD<|ab<|ab<|aA<|KK o<|WS fun _ B3=>bo 1 U<|RK B3<|aj fun _ B7=>WS fun _ B9=>rP 1 [] mn ?_
  refine RK B9<|ay<|gl 82 1<|lY ?_
  have A:(0≤r.ao.length)∧(([]:List RA).length=0)∧(kl r 0):=by exact ⟨Nat.zero_le _,rfl,yi⟩
  refine bK (ι:={z:Nat×(List RA)×(OA)×Nat // (z.1≤r.ao.length)∧(z.2.1.length=z.1)∧(kl r z.1)}) [1,4] [2,3,4,5,6,7,8,9,10] U U (fun z=>[(7,(vS z.1.2.2.1 ((List.zipWith CQ (gN r z.1.1) z.1.2.1).length) z.1.2.2.2)),(8,(vI (z.1.1:Int)))]) (fun z=>[(bB (aU DU (gN r z.1.1) z.1.2.1)),(own z.1.2.2.1 z.1.2.2.2 82 1 (List.map sC (List.zipWith CQ (gN r z.1.1) z.1.2.1)))]) (fun _=>rfl) (fun _=>rfl) (fun z=>r.ao.length-z.1.1) ⟨(0,([]:List RA),none,0),A⟩ (aT U) (aI [2,3,4,5,6,7,8,9,10,0,1]) ?_
  clear A
  rintro ⟨⟨h,tz,a,c⟩,⟨P,C,F⟩⟩ J46 l
  try dsimp only at P C F
  try dsimp only
  refine aj fun _ Ci=>WS fun _ Ck=>rP 5 [] (mc 0 U mn) ?_
  refine RK Ck<|bO U (aO fun K0=>?_) (aP fun K0=>?_)
  ·refine bD<|ab<|ab<|aA<|KK B7<|aj fun _ GE=>?_
   have L2:gN r h=cU r:=by unfold cU; rw [show h=r.ao.length by omega]
   have M2:tz.length=r.ao.length:=by omega
   rw [L2,zq,show (List.zipWith CQ (cU r) tz).length=(cU r).length from by rw [List.length_zipWith]; omega]
   have If:fc r:=HZ (n:=i) I I I I I AB F I
   refine al<|rP 3 [] mn ?_
   refine RK GE<|ar ?_
   refine LX hQ (true,0,a,c,tz) [10,9] [] mn U (by (show List.all _ _=true; simp only [cond_true,fz,List.all_nil,xN,Bool.and_true]; rfl)) U U ?_
   exact ⟨fun _=>⟨If,M2⟩,Nc⟩
  refine WK Ci<|aj fun _ Cp=>ay<|aj fun _ Cx=>WS fun _ C0=>rP 3 [] (mc 0 U mn) ?_
  obtain ⟨ht,D⟩:=aH r.ao h I
  obtain ⟨E,H⟩:=aH ha h I
  have W:(List.zipWith ct r.ao ha)[h]? =some (ct ht E):=cT D H
  refine rS (IA h U (aB 7 U) lu dc I I) ?_
  have Id:=hin.kb _ _ _ D H
  have Op:=Id.mW
  refine rS (fX h 0 (vS E.1.1 ht.length E.1.2) U cb (aB 7 U) W U dc U)<|rP 3 [] mn ?_
  refine RK C0<|cE U (aZ fun e=>?_) (a_ fun e=>?_)
  ·refine WS fun _ C1=>rP 2 [] mn ?_
   refine RK C1<|ar<|LX hQ (false,0,none,0,[]) [] [] mn U (by rfl) U U ?_
   (exact ⟨BD,fun _=>⟨rfl,fun q=>by have S:=(q.kb ht (aS D)).1; omega⟩⟩)
  refine WK Cx<|WS fun _ C2=>bo 1 U<|RK C2<|aj fun _ C3=>WS fun _ DV=>rP 1 [] mn ?_
  refine RK DV<|ay<|gl 40 2 ?_
  have A:(0≤ht.length)∧(oJ r.an ht 0):=by exact ⟨Nat.zero_le _,vK⟩
  refine bK (ι:={z:Nat×(OA)×Nat // (z.1≤ht.length)∧(oJ r.an ht z.1)}) [1,4,7,8] [1,2,3,4,5,6,7,8,9,10,11] U U (fun z=>[(9,(vS z.1.2.1 (((ht.take z.1.1).map (dF r.an)).length) z.1.2.2)),(10,(vI (z.1.1:Int)))]) (fun z=>[(own z.1.2.1 z.1.2.2 40 2 (((ht.take z.1.1).map (dF r.an)).map aa.cells))]) (fun _=>rfl) (fun _=>rfl) (fun z=>ht.length-z.1.1) ⟨(0,none,0),A⟩ (aT U) (aI [1,2,3,4,5,6,7,8,9,10,11,0]) ?_
  clear A
  rintro ⟨⟨j,la,lc⟩,⟨R,G⟩⟩ J57 m
  try dsimp only at R G
  try dsimp only
  refine aj fun _ Di=>WS fun _ Do=>rP 3 [] mn ?_
  refine RK Do<|bO U (aO fun K8=>?_) (aP fun K8=>?_)
  ·refine bD<|ab<|ab<|aA<|KK C3<|al ?_
   rw [show ((ht.take j).map (dF r.an))=ht.map (dF r.an) from by rw [List.take_of_length_le I]]
   refine rP 2 [] mn ?_
   refine du (xs:=[.tmp 137]) (cs:=[(vS la ((ht.map (dF r.an)).length) lc)]) U Od SV U U U U (by simp [Value.cells]) U U fun Pi=>?_
   refine cO (es2:=(List.map sC (List.zipWith CQ (gN r (h+1)) (tz++[(la,lc)])))) (m':=(List.zipWith CQ (gN r (h+1)) (tz++[(la,lc)])).length) 11 U U U TS U U sm (bp (es:=List.map sC [(bq.mk la ((ht.map (dF r.an)).length) lc)]) 0 U U (by simp [zp]) U) (JT _) (by rw [List.length_zipWith,kU I]; omega) (by rw [List.length_zipWith,kU I]; simp only [maxLen]; omega) (by rw [uL D C,List.map_append]; rfl) (by rw [uL D C]; simp) U fun J4 J6=>?_
   try dsimp only
   refine bo 1 U<|aD<|aG<|KK Cp<|al<|rP 3 [] mn ?_
   refine aD<|Ai (X':=aU DU (gN r (h+1)) (tz++[(la,lc)])) 10 12 U U (CK (a:=(la,lc)) D C) ?_
   have IO:(vI (((h+1):Nat):Int))=(vI ((h:Int)+1)):=by exact cI I
   refine aR (l ⟨((h+1),(tz++[(la,lc)]),J4,J6),⟨I,by simp; omega,w9 F D (Gq I G I)⟩⟩ _ _ _ U os (cR 3<|aY U IO<|dj.nil _) (aI [2,3,4,5,6,7,8,9,10,0,11]))
  refine WK Di<|aj fun _ EQ=>ay<|aj fun _ Eq=>dJ cv [14,15] [] [] [0,1,2,3,4,5,6,7,8,9,10,11] [] U U U U U<|eS U (FA 0 U fw U)<|eS U (LP (bV.cells (lq r.an kA kC cA cC bA bC)) 0 U cb U U U)<|eS U (FA 10 U fw U)<|eS U (L1 (vS heA r.ao.length heC) 0 U cb U U)<|eS U (MV U)<|eS U (IA h U (aB 7 U) lu dc I I)<|eS U (fX h 0 (vS E.1.1 ht.length E.1.2) U cb (aB 7 U) W U dc U)<|eS U (MV U) ?_
  obtain ⟨d,hd⟩:=aH ht j I
  obtain ⟨da,IR⟩:=aH E.2 j I
  have L0:(List.zipWith au.cells ht E.2)[j]? =some (au.cells d da):=cT hd IR
  refine eS U (IA j U (show g9 _ (rd E.1.1 ht.length 7 (List.zipWith au.cells ht E.2)).holds from (cw 8 U (bH D H bZ))) pN dc I I)<|eS U (lS j 0 (bg.cells (bg.mk d.Out d.dZ d.Time (dL.mk d.b_.Start d.b_.fZ (bq.mk da.1 d.b_.ai.length da.2)))) U cb (show g9 _ (rd E.1.1 ht.length 7 (List.zipWith au.cells ht E.2)).holds from (cw 8 U (bH D H bZ))) L0 U dc U U) ?_
  have P5:=Id.sig d (aS hd)
  refine eS U (CL (HE r.an kA kC az cA cC bA bC d da.1 da.2 asm hle asm) (l5 [1,2,3,4]<|av (show g9 _ (rd da.1 d.b_.ai.length 2 (d.b_.ai.map aJ.cells)).holds from (cw 8 U (bH D H (c_ _ (bH hd IR (by simp [au.gE]))))))<|aM) U)<|eS U (MV U)<|eS U (EX U)<|eS U (EX U)<|eS U (AG U)<|eT U<|cp U fun T63 GT=>AL U dx fun O8=>aD (GT _ _ (aI [1,2,3,4,5,6,7,8,9,10,11,12]) ?_)
  refine cp U fun T65 Ge=>fW U cz U<|aD (Ge _ _ (aI [1,2,3,4,5,6,7,8,9,10,11,12]) ?_)
  refine fO U<|KK Eq<|aj fun _ FS=>WS fun _ Fd=>rP 2 [] mn ?_
  refine RK Fd<|cE U (aZ fun J=>?_) (a_ fun J=>?_)
  ·refine WS fun _ Fn=>rP 2 [] mn ?_
   refine RK Fn<|ar<|LX hQ (false,0,none,0,[]) [] [] mn U (by rfl) U U ?_
   (exact ⟨BD,fun _=>⟨rfl,fun q=>by exact J ((q.kb ht (aS D)).2 d (aS hd))⟩⟩)
  refine WK FS<|al<|rP 2 [] (mc 0 U mn) ?_
  refine du (xs:=[.tmp 133]) (cs:=(aa.cells (px r.an d))) U jY dx U U U U (by simp [Value.cells,aa.aW]) U U fun PP=>?_
  refine cO (es2:=(List.map aa.cells ((ht.take (j+1)).map (dF r.an)))) (m':=((ht.take (j+1)).map (dF r.an)).length) 13 U U U Et U U sm (bp (es:=List.map aa.cells [(px r.an d)]) 0 U U (by simp [aa.aW]) U) (hP _) (by simp only [List.length_map,List.length_take]; omega) (by simp only [maxLen,List.length_map,List.length_take]; omega) (by rw [List.take_add_one,hd]; simp [JF J]) sq U fun J3 J5=>?_
  try dsimp only
  refine bo 1 U<|aD<|aG<|KK EQ<|al<|rP 3 [] mn ?_
  refine aD ?_
  have H1:(vI (((j+1):Nat):Int))=(vI ((j:Int)+1)):=by exact cI I
  refine aR (m ⟨((j+1),J3,J5),⟨I,vZ G hd J⟩⟩ _ _ _ U os (cR 5<|aY U H1<|dj.nil _) (aI [2,3,4,5,6,7,8,9,10,11,12,13]))
 refine WK s<|aj fun _ AA=>ay<|aj fun _ V=>aj fun _ K=>dg cv 36 kr<|dP 3 [] (mc 0 U mn) ?_
 obtain ⟨y,hy⟩:=aH r.aK i I
 have In:=bJ iC hy
 refine dS (IA i U (aB 5 U) cN dc I I)<|dS (fX i 0 (vI y) U cb (aB 5 U) In U dc U)<|dS (CL (pb y 0 9999) (aM) U)<|dP 2 [] mn ?_
 refine jh (t:=51) U (aZ fun K4=>?_) (a_ fun K4=>?_)
 ·refine lQ 28 U<|cM<|RK K<|aN U<|WS fun _ w=>rP 2 [] mn ?_
  refine RK w<|ar<|LX hQ (false,0,none,0,[]) [] [] mn U (by rfl) U U ?_
  (exact ⟨BD,fun _=>⟨rfl,fun q=>by have S:=(q.ids i y hy).1; omega⟩⟩)
 refine dP 3 [] mn ?_
 refine jA (t:=54) U (aO fun K5=>?_) (aP fun K5=>?_)
 ·refine dP 18 [] (mc 0 U mn) ?_
  obtain ⟨x,hx⟩:=aH r.bL i I
  have M:=bJ iC hx
  refine dS (IA i U (aB 6 U) cN dc I I)<|dS (fX i 0 (vI x) U cb (aB 6 U) M U dc U)<|lQ 2 U<|dS (CL (pb x 0 ((r.aK.length:Int)-1)) (aM) U)<|dP 2 [] mn ?_
  refine cM<|RK K<|cE U (aZ fun Y=>?_) (a_ fun Y=>?_)
  ·refine WS fun _ A4=>rP 2 [] mn ?_
   refine RK A4<|ar<|LX hQ (false,0,none,0,[]) [] [] mn U (by rfl) U U ?_
   (exact ⟨BD,fun _=>⟨rfl,fun q=>by have S:=q.KY hx; omega⟩⟩)
  refine WK V<|WS fun _ A5=>rP 1 [] mn ?_
  refine RK A5<|ay ?_
  have A:(0≤i)∧(∀ (q:Nat) y,q<0→r.bL[q]? =some y→y≠x):=by exact ⟨Nat.zero_le _,fun q y hq=>absurd hq (Nat.not_lt_zero _)⟩
  refine bK (ι:={z:Nat // (z≤i)∧(∀ (q:Nat) y,q<z→r.bL[q]? =some y→y≠x)}) [1,4,5] [0,1,2,3,4,5,6,7,8] U U (fun z=>[(6,(vI (z.1:Int)))]) (fun z=>[]) (fun _=>rfl) (fun _=>rfl) (fun z=>i-z.1) ⟨0,A⟩ (aT U) (aI [0,1,2,3,4,5,6,7,8]) ?_
  clear A
  rintro ⟨k,⟨O,B⟩⟩ J34 g
  try dsimp only
  refine aj fun _ A6=>WS fun _ A7=>rP 3 [] mn ?_
  refine RK A7<|bO U (aO fun Kp=>?_) (aP fun Kp=>?_)
  ·refine bD<|ab<|ab<|aA<|aG<|KK AA<|al<|rP 3 [] mn ?_
   refine aD ?_
   have Hj:(vI (((i+1):Nat):Int))=(vI ((i:Int)+1)):=by exact cI I
   refine aR (T ⟨(i+1),⟨I,Ds AB (fun a ha=>by rw [hy] at ha; cases ha; exact ⟨I,fun b hb hc=>by omega⟩) (fun a ha=>by rw [hx] at ha; cases ha; exact ⟨I,fun k b hk hb=>B k b I hb⟩)⟩⟩ _ _ _ rfl os (dj.cons rfl<|dj.cons rfl<|aY rfl Hj<|dj.nil _) (aI [0,1,2,3,4,5,6,7,8]))
  refine WK A6<|aj fun _ A8=>ay<|aj fun _ A9=>dg cv 11 kr<|dP 3 [] (mc 0 U mn) ?_
  obtain ⟨u,hu⟩:=aH r.bL k I
  have Z:=bJ iC hu
  refine dS (IA k U (aB 6 U) cN dc I I)<|dS (fX k 0 (vI u) U cb (aB 6 U) Z U dc U)<|mw 3 [] (mc 0 U mn) U<|dS (IA i U (aB 6 U) cN dc I I)<|dS (fX i 0 (vI x) U cb (aB 6 U) M U dc U)<|dP 1 [] mn ?_
  refine cM<|RK A9<|bO U (aO fun L=>?_) (aP fun L=>?_)
  ·refine ck<|aG<|KK A8<|al<|rP 3 [] mn ?_
   refine aD ?_
   have Hi:(vI (((k+1):Nat):Int))=(vI ((k:Int)+1)):=by exact cI I
   refine aR (g ⟨(k+1),⟨I,yJ B hu L⟩⟩ _ _ _ U os (cR 3<|aY U Hi<|dj.nil _) (aI [0,1,2,3,4,5,6,7,8]))
  refine WS fun _ BX=>rP 2 [] mn ?_
  refine RK BX<|ar<|LX hQ (false,0,none,0,[]) [] [] mn U (by rfl) U U ?_
  (exact ⟨BD,fun _=>⟨rfl,fun q=>by have S:=q.num; have q2:=q.wZ; have q3:=q.nh; have q4:=q.yX; omega⟩⟩)
 refine mw 3 [] (mc 0 U mn) U<|dS (IA i U (aB 5 U) cN dc I I)<|dS (fX i 0 (vI y) U cb (aB 5 U) In U dc U)<|dP 4 [] (mc 0 U mn) ?_
 obtain ⟨z,hz⟩:=aH r.aK (i-1) I
 have NE:=bJ iC hz
 refine dS (IA (i-1) U (aB 5 U) cN dc I I)<|dS (fX (i-1) 0 (vI z) U cb (aB 5 U) NE U dc U)<|dP 4 [] mn ?_
 refine jh (t:=69) U (aP fun LA=>?_) (aO fun LA=>?_)
 ·refine lQ 10 U<|cM<|RK K<|aN U<|WS fun _ AC=>rP 2 [] mn ?_
  refine RK AC<|ar<|LX hQ (false,0,none,0,[]) [] [] mn U (by rfl) U U ?_
  (exact ⟨BD,fun _=>⟨rfl,fun q=>by have S:=(q.ids i y hy).2 z I hz; omega⟩⟩)
 refine dP 3 [] (mc 0 U mn) ?_
 obtain ⟨x,hx⟩:=aH r.bL i I
 have M:=bJ iC hx
 refine dS (IA i U (aB 6 U) cN dc I I)<|dS (fX i 0 (vI x) U cb (aB 6 U) M U dc U)<|lQ 2 U<|dS (CL (pb x 0 ((r.aK.length:Int)-1)) (aM) U)<|dP 2 [] mn ?_
 refine cM<|RK K<|cE U (aZ fun Y=>?_) (a_ fun Y=>?_)
 ·refine WS fun _ AO=>rP 2 [] mn ?_
  refine RK AO<|ar<|LX hQ (false,0,none,0,[]) [] [] mn U (by rfl) U U ?_
  (exact ⟨BD,fun _=>⟨rfl,fun q=>by have S:=q.KY hx; omega⟩⟩)
 refine WK V<|WS fun _ An=>rP 1 [] mn ?_
 refine RK An<|ay ?_
 have A:(0≤i)∧(∀ (q:Nat) y,q<0→r.bL[q]? =some y→y≠x):=by exact ⟨Nat.zero_le _,fun q y hq=>absurd hq (Nat.not_lt_zero _)⟩
 refine bK (ι:={z:Nat // (z≤i)∧(∀ (q:Nat) y,q<z→r.bL[q]? =some y→y≠x)}) [1,4,5] [0,1,2,3,4,5,6,7,8] U U (fun z=>[(6,(vI (z.1:Int)))]) (fun z=>[]) (fun _=>rfl) (fun _=>rfl) (fun z=>i-z.1) ⟨0,A⟩ (aT U) (aI [0,1,2,3,4,5,6,7,8]) ?_
 clear A
 rintro ⟨k,⟨O,B⟩⟩ J23 f
 try dsimp only
 refine aj fun _ Av=>WS fun _ A0=>rP 3 [] mn ?_
 refine RK A0<|bO U (aO fun X=>?_) (aP fun X=>?_)
 ·refine bD<|ab<|ab<|aA<|aG<|KK AA<|al<|rP 3 [] mn ?_
  refine aD ?_
  have G1:(vI (((i+1):Nat):Int))=(vI ((i:Int)+1)):=by exact cI I
  refine aR (T ⟨(i+1),⟨I,Ds AB (fun a ha=>by rw [hy] at ha; cases ha; exact ⟨I,fun b hb hc=>by (rw [hz] at hc; cases hc; omega)⟩) (fun a ha=>by rw [hx] at ha; cases ha; exact ⟨I,fun k b hk hb=>B k b I hb⟩)⟩⟩ _ _ _ rfl os (dj.cons rfl<|dj.cons rfl<|aY rfl G1<|dj.nil _) (aI [0,1,2,3,4,5,6,7,8]))
 refine WK Av<|aj fun _ A1=>ay<|aj fun _ A2=>dg cv 11 kr<|dP 3 [] (mc 0 U mn) ?_
 obtain ⟨u,hu⟩:=aH r.bL k I
 have Z:=bJ iC hu
 refine dS (IA k U (aB 6 U) cN dc I I)<|dS (fX k 0 (vI u) U cb (aB 6 U) Z U dc U)<|mw 3 [] (mc 0 U mn) U<|dS (IA i U (aB 6 U) cN dc I I)<|dS (fX i 0 (vI x) U cb (aB 6 U) M U dc U)<|dP 1 [] mn ?_
 refine cM<|RK A2<|bO U (aO fun L=>?_) (aP fun L=>?_)
 ·refine ck<|aG<|KK A1<|al<|rP 3 [] mn ?_
  refine aD ?_
  have Go:(vI (((k+1):Nat):Int))=(vI ((k:Int)+1)):=by exact cI I
  refine aR (f ⟨(k+1),⟨I,yJ B hu L⟩⟩ _ _ _ U os (cR 3<|aY U Go<|dj.nil _) (aI [0,1,2,3,4,5,6,7,8]))
 refine WS fun _ A3=>rP 2 [] mn ?_
 refine RK A3<|ar<|LX hQ (false,0,none,0,[]) [] [] mn U (by rfl) U U ?_
 (exact ⟨BD,fun _=>⟨rfl,fun q=>by exact q.Qq I hu hx L⟩⟩)
end
section
open Go.RowKit
theorem Hy (r:bY) (kA:OA) (kC:Nat) (az:List RA) (cA:OA) (cC:Nat) (bA:OA) (bC:Nat) (slA:OA) (slC:Nat) (drA:OA) (drC:Nat) (ha:List cG) (heA:OA) (heC:Nat) (hin:ej r az ha):
 lx Tryz.prog 77 [(vA (cr.cells (ou r kA kC cA cC bA bC slA slC drA drC heA heC)))] [(rd kA r.an.aL.length 9 (r.an.aL.map ak.cells)),(rd cA r.an.ah.length 2 (List.zipWith aq.cells r.an.ah az)),(eX (aU aq.gE r.an.ah az)),(rd bA r.an.ae.length 4 (r.an.ae.map bG.cells)),(rd slA r.aK.length 1 (r.aK.map iC)),(rd drA r.bL.length 1 (r.bL.map iC)),(rd heA r.ao.length 1 (List.zipWith ct r.ao ha)),(eX (aU hO r.ao ha))] (fun (x:Bool×Int×(OA)×Nat×(List RA))=>bif x.1 then (vT [(vS x.2.2.1 ((cU r).length) x.2.2.2.1),(vI 0)]) else (vT [(vS none 0 0),(vI x.2.1)])) (fun (x:Bool×Int×(OA)×Nat×(List RA))=>(x.1=true→(cV r=0∧x.2.2.2.2.length=r.ao.length))∧(x.1=false→(x.2.1=cV r∧ ¬ cV r=0))) (fun (x:Bool×Int×(OA)×Nat×(List RA))=>bif x.1 then [(own x.2.2.1 x.2.2.2.1 82 1 (List.zipWith Ew (cU r) x.2.2.2.2)),(bB (aU DU (cU r) x.2.2.2.2))] else []):=by
 have AA:=hin.line
 have b:=hin.iv
 have c:=hin.has
 have Z:=hin.iA
 have Y:=hin.draw
 have a:=dB (r:=r)
 refine dp kr Tryz.func77 U U fun f Q hQ hN=>?_
 try dsimp only
 refine WS fun _ O=>fK U fun e=>bo 2 U<|RK O<|aj fun _ P=>WS fun _ R=>bo 1 U<|rS (LP (bV.cells (lq r.an kA kC cA cC bA bC)) 0 U cb U U U)<|rS (CL (DI r.an kA kC az cA cC bA bC asm) (bk [1,2,3,4]) U)<|bo 1 U<|RK R<|WS fun _ S=>rP 2 [] mn ?_
 refine RK S<|cE U (aZ fun A=>?_) (a_ fun A=>?_)
 ·refine WS fun _ T=>rP 3 [] mn ?_
  refine RK T<|ar<|LX hQ (false,(dH r.an),none,0,[]) [] [] mn U (by rfl) U U ?_
  exact sE<|I_ (zM A) A
 refine WK P<|WS fun _ G=>rP 1 [] (mc 0 U mn) ?_
 refine cX (Fp r kA kC az cA cC bA bC slA slC drA drC ha heA heC hin (by exact A)) (bk [1,2,3,4,5,6,7,8]) U fun d J=>?_
 obtain ⟨K,W,L,M,N⟩:=d
 cases K
 rotate_left 1
 ·obtain ⟨AB,V⟩:=J.1 rfl
  try dsimp only [cond_true,cond_false,List.cons_append,List.nil_append]
  refine bo 5 U<|RK G<|aj fun _ D=>WS fun _ E=>bo 2 U<|RK E<|bh U<|WK D<|WS fun _ F=>rP 3 [] mn ?_
  refine RK F<|ar ?_
  refine LX hQ (true,0,L,M,N) [0,1] [] mn U (by (show List.all _ _=true; simp only [cond_true,fz,List.all_nil,xN,Bool.and_true]; rfl)) U U ?_
  exact ⟨fun _=>⟨CW A AB,V⟩,Nc⟩
 obtain ⟨H,he⟩:=J.2 rfl
 try dsimp only at H he
 subst H
 try dsimp only [cond_true,cond_false,List.cons_append,List.nil_append]
 refine bo 5 U<|RK G<|aj fun _ X=>WS fun _ B=>bo 2 U<|RK B<|aN U<|WS fun _ C=>rP 2 [] mn ?_
 refine RK C<|ar<|LX hQ (false,60,none,0,[]) [] [] mn U (by rfl) U U ?_
 exact sE<|qy (kH A he)
end
section
open Go.RowKit
theorem HL (r:bY) (kA:OA) (kC:Nat) (az:List RA) (cA:OA) (cC:Nat) (bA:OA) (bC:Nat) (slA:OA) (slC:Nat) (drA:OA) (drC:Nat) (ha:List cG) (heA:OA) (heC:Nat) (hin:ej r az ha):
 er Tryz.prog 53 [(vA (cr.cells (ou r kA kC cA cC bA bC slA slC drA drC heA heC)))] [(rd kA r.an.aL.length 9 (r.an.aL.map ak.cells)),(rd cA r.an.ah.length 2 (List.zipWith aq.cells r.an.ah az)),(eX (aU aq.gE r.an.ah az)),(rd bA r.an.ae.length 4 (r.an.ae.map bG.cells)),(rd slA r.aK.length 1 (r.aK.map iC)),(rd drA r.bL.length 1 (r.bL.map iC)),(rd heA r.ao.length 1 (List.zipWith ct r.ao ha)),(eX (aU hO r.ao ha))] (vI (cV r)):=by
 have H:=hin.line
 have M:=hin.iv
 have N:=hin.has
 have J:=hin.iA
 have AB:=hin.draw
 have K:=dB (r:=r)
 refine bI kr Tryz.func53 U U fun V Q hQ hN=>?_
 try dsimp only
 refine WS fun _ G=>fK U fun AA=>bo 1 U<|RK G<|WS fun _ C=>rP 1 [] (mc 0 U mn) ?_
 refine cX (Hy r kA kC az cA cC bA bC slA slC drA drC ha heA heC hin) (bk [1,2,3,4,5,6,7,8]) U fun T E=>?_
 obtain ⟨F,L,P,R,S⟩:=T
 cases F
 rotate_left 1
 ·obtain ⟨he,O⟩:=E.1 rfl
  try dsimp only [cond_true,cond_false,List.cons_append,List.nil_append]
  refine bo 5 U<|RK C<|WS fun _ B=>rP 2 [] mn ?_
  refine RK B<|ar<|Q1 hQ U U U ?_
  first|rfl|(rw [he])
 obtain ⟨D,he⟩:=E.2 rfl
 try dsimp only at D he
 subst D
 try dsimp only [cond_true,cond_false,List.cons_append,List.nil_append]
 refine bo 5 U<|RK C<|WS fun _ A=>rP 2 [] mn ?_
 refine RK A<|ar<|Q1 hQ U U U ?_
 first|rfl|(rw [he])
end
section
open Go.RowKit
theorem Jp (r:bY) (kA:OA) (kC:Nat) (az:List RA) (cA:OA) (cC:Nat) (bA:OA) (bC:Nat) (slA:OA) (slC:Nat) (drA:OA) (drC:Nat) (ha:List cG) (heA:OA) (heC:Nat) (hraw:r8 r az ha):
 er Tryz.prog 23 [(vA (cr.cells (ou r kA kC cA cC bA bC slA slC drA drC heA heC)))] [(rd kA r.an.aL.length 9 (r.an.aL.map ak.cells)),(rd cA r.an.ah.length 2 (List.zipWith aq.cells r.an.ah az)),(eX (aU aq.gE r.an.ah az)),(rd bA r.an.ae.length 4 (r.an.ae.map bG.cells)),(rd slA r.aK.length 1 (r.aK.map iC)),(rd drA r.bL.length 1 (r.bL.map iC)),(rd heA r.ao.length 1 (List.zipWith ct r.ao ha)),(eX (aU hO r.ao ha))] (vB (decide (¬ kW r∧cV r=0))):=by
 refine bI kr Tryz.func23 U U fun F Q hQ hN=>?_
 try dsimp only
 refine WS fun _ C=>fK U fun E=>bo 1 U<|RK C<|WS fun _ B=>fG 1 [] (mc 0 U mn) U<|rS (CL (BL r kA kC az cA cC bA bC slA slC drA drC ha heA heC hraw) (bk [1,2,3,4,5,6,7,8]) U)<|rP 2 [] mn ?_
 refine cj (t:=6) U (a_ fun A=>?_) (aZ fun A=>?_)
 ·refine bo 1 U<|rP 4 [] mn ?_
  refine RK B<|ar<|Q1 hQ U U U ?_
  first|exact cB (bx fun q=>q.1 A).symm|exact cB (gi.2 ⟨fun q=>⟨A,q⟩,fun q=>q.2⟩)
 refine rP 1 [] (mc 0 U mn) ?_
 have D:=hraw.small A
 refine rS (CL (HL r kA kC az cA cC bA bC slA slC drA drC ha heA heC sd) (bk [1,2,3,4,5,6,7,8]) U) ?_
 refine rP 3 [] mn ?_
 refine RK B<|ar<|Q1 hQ U U U ?_
 first|exact cB (bx fun q=>q.1 A).symm|exact cB (gi.2 ⟨fun q=>⟨A,q⟩,fun q=>q.2⟩)
end
section
open Go.RowKit
theorem Gv (r:bY) (kA:OA) (kC:Nat) (az:List RA) (cA:OA) (cC:Nat) (bA:OA) (bC:Nat) (slA:OA) (slC:Nat) (drA:OA) (drC:Nat) (ha:List cG) (heA:OA) (heC:Nat) (hin:ej r az ha) (he:cV r=0):
 lx Tryz.prog 24 [(vA (cr.cells (ou r kA kC cA cC bA bC slA slC drA drC heA heC)))] [(rd ff 3 2 eu),(rd kA r.an.aL.length 9 (r.an.aL.map ak.cells)),(rd cA r.an.ah.length 2 (List.zipWith aq.cells r.an.ah az)),(eX (aU aq.gE r.an.ah az)),(rd bA r.an.ae.length 4 (r.an.ae.map bG.cells)),(rd slA r.aK.length 1 (r.aK.map iC)),(rd drA r.bL.length 1 (r.bL.map iC)),(rd heA r.ao.length 1 (List.zipWith ct r.ao ha)),(eX (aU hO r.ao ha))] (fun (x:Nat)=>(vT [(Value.map (some x)),(vB true)])) (fun (x:Nat)=>True) (fun (x:Nat)=>[(im iV x (bS dE (ax r)))]):=by
 have e:=hin.line
 have l:=hin.iv
 have m:=hin.has
 have g:=hin.iA
 have f:=hin.draw
 have h:=dB (r:=r)
 have AA:=(iw he).2
 have n:=AA.num
 refine dp kr Tryz.func24 U U fun p Q hQ hN=>?_
 try dsimp only
 refine WS fun _ X=>fK U fun o=>rP 2 [] mn ?_
 refine RK X<|WS fun _ Y=>nR (kV:=iV) U U fun V=>?_
 try dsimp only
 refine bo 1 U<|RK Y<|aj fun _ Z=>WS fun _ a=>rP 4 [] (mc 1 U mn) ?_
 refine RK a<|ay ?_
 skip
 have C:(0≤r.aK.length):=by exact Nat.zero_le _
 refine bK (ι:={z:Nat // (z≤r.aK.length)}) [1,4,11] [1,2,3,4,5,6,7,8,9,10] U U (fun z=>[(12,(vI (z.1:Int)))]) (fun z=>[(im iV V (bS dE (kd r z.1)))]) (fun _=>rfl) (fun _=>rfl) (fun z=>r.aK.length-z.1) ⟨0,C⟩ (aT U) (aI [1,2,3,4,5,6,7,8,9,10,0]) ?_
 clear C
 rintro ⟨i,d⟩ J7 D
 try dsimp only
 refine WS fun _ b=>rP 1 [] mn ?_
 refine RK b<|aj fun _ c=>bO U (aO fun W=>?_) (aP fun W=>?_)
 ·refine bD<|ab<|ab<|aA<|KK Z<|aj fun _ M=>?_
  rw [show kd r i=ax r from by rw [show i=r.aK.length by omega]; rfl]
  refine al<|rP 3 [] mn ?_
  refine RK M<|ar<|LX hQ V [10] [] mn U U U U ?_
  trivial
 refine WK c<|aj fun _ B=>ay<|WS fun _ AB=>bo 2 U<|RK AB<|WS fun _ J=>fG 2 [] (mc 0 U mn) U<|rS (CL (PU (i:Int) r kA kC az cA cC bA bC slA slC drA drC ha heA heC hin) (bk [1,2,3,4,5,6,7,8,9]) U)<|bo 3 U<|AL U dx fun j=>fW U cz U<|bo 1 U<|RK J<|aj fun _ E=>WS fun _ F=>rP 3 [] mn ?_
 refine cj (t:=23) U (a_ fun G=>?_) (aZ fun G=>?_)
 ·refine bo 3 U<|RK F<|bh U<|WK E<|WS fun _ L=>rP 2 [] mn ?_
  refine RK L<|bO U (aO fun A=>?_) (aP fun A=>?_)
  ·refine ck<|aG<|KK B<|al<|rP 2 [] mn ?_
   refine aD ?_
   rw [Af he I A]
   have T:(vI (((i+1):Nat):Int))=(vI ((i:Int)+1)):=by exact cI I
   refine aR (D ⟨(i+1),(by first|omega|(simp only []; omega))⟩ _ _ _ U os (cR 3<|aY U T<|dj.nil _) (aI [1,2,3,4,5,6,7,8,9,10,11]))
  refine al<|rP 3 [] (mc 0 U mn) ?_
  have R:(eP (kd r i) (i:Int) (pO r (i:Int)))=(kd r (i+1)):=by exact C_ he I A
  refine jl (kV:=iV) (x:=(i:Int)) (C':=[_,_,_,_,_,_,_,_,_,_,_,(im iV V (bS dE (kd r (i+1))))]) 11 U U U U lv (dT mX) U ((gX _ _ _ _).symm.trans (congrArg _ R)) U<|aD<|aG<|KK B<|al<|rP 2 [] mn ?_
  refine aD ?_
  have S:(vI (((i+1):Nat):Int))=(vI ((i:Int)+1)):=by exact cI I
  refine aR (D ⟨(i+1),(by first|omega|(simp only []; omega))⟩ _ _ _ U os (cR 3<|aY U S<|dj.nil _) (aI [1,2,3,4,5,6,7,8,9,10,11]))
 refine rP 3 [] mn ?_
 refine RK F<|cE U (aZ fun H=>?_) (a_ fun H=>?_)
 ·exfalso; exact (Cn he (k:=(i:Int)) (by unfold pj; omega)).elim (fun q=>G q.1) (fun q=>H q.1)
 refine WK E<|WS fun _ K=>rP 2 [] mn ?_
 refine RK K<|bO U (aO fun A=>?_) (aP fun A=>?_)
 ·refine ck<|aG<|KK B<|al<|rP 2 [] mn ?_
  refine aD ?_
  rw [Af he I A]
  have P:(vI (((i+1):Nat):Int))=(vI ((i:Int)+1)):=by exact cI I
  refine aR (D ⟨(i+1),(by first|omega|(simp only []; omega))⟩ _ _ _ U os (cR 3<|aY U P<|dj.nil _) (aI [1,2,3,4,5,6,7,8,9,10,11]))
 refine al<|rP 3 [] (mc 0 U mn) ?_
 have N:(eP (kd r i) (i:Int) (pO r (i:Int)))=(kd r (i+1)):=by exact C_ he I A
 refine jl (kV:=iV) (x:=(i:Int)) (C':=[_,_,_,_,_,_,_,_,_,_,_,(im iV V (bS dE (kd r (i+1))))]) 11 U U U U lv (dT mX) U ((gX _ _ _ _).symm.trans (congrArg _ N)) U<|aD<|aG<|KK B<|al<|rP 2 [] mn ?_
 refine aD ?_
 have O:(vI (((i+1):Nat):Int))=(vI ((i:Int)+1)):=by exact cI I
 refine aR (D ⟨(i+1),(by first|omega|(simp only []; omega))⟩ _ _ _ U os (cR 3<|aY U O<|dj.nil _) (aI [1,2,3,4,5,6,7,8,9,10,11]))
end
section
open Go.RowKit
theorem xh (r:bY) (kA:OA) (kC:Nat) (az:List RA) (cA:OA) (cC:Nat) (bA:OA) (bC:Nat) (slA:OA) (slC:Nat) (drA:OA) (drC:Nat) (ha:List cG) (heA:OA) (heC:Nat) (kb sled:Int) (t:aa) (hraw:r8 r az ha) (h1b:0≤kb∧kb≤255) (h2b:0≤sled∧sled≤255):
 er Tryz.prog 5 [(vA (cr.cells (ou r kA kC cA cC bA bC slA slC drA drC heA heC))),(Value.int .u8 kb),(Value.int .u8 sled),(vA (aa.cells t))] [(rd ff 3 2 eu),(rd kA r.an.aL.length 9 (r.an.aL.map ak.cells)),(rd cA r.an.ah.length 2 (List.zipWith aq.cells r.an.ah az)),(eX (aU aq.gE r.an.ah az)),(rd bA r.an.ae.length 4 (r.an.ae.map bG.cells)),(rd slA r.aK.length 1 (r.aK.map iC)),(rd drA r.bL.length 1 (r.bL.map iC)),(rd heA r.ao.length 1 (List.zipWith ct r.ao ha)),(eX (aU hO r.ao ha))] (vB true):=by
 refine bI kr Tryz.func5 U U fun w0 Q hQ hN=>?_
 try dsimp only
 refine WS fun _ WT=>fK U fun b2=>fK U fun b3=>bo 1 U<|RK WT<|WS fun _ WV=>rS (CL JE (bk [2]) U)<|bo 1 U<|RK WV<|aj fun _ WW=>WS fun _ WX=>bo 2 U<|RK WX<|bh U<|WK WW<|aj fun _ WY=>WS fun _ R1=>fG 1 [] (mc 1 U mn) U<|rS (CL (Jp r kA kC az cA cC bA bC slA slC drA drC ha heA heC hraw) (bk [3,4,5,6,7,8,9,10]) U)<|rP 2 [] mn ?_
 refine cH (t:=37) U (aZ fun p=>?_) (a_ fun p=>?_)
 ·refine bo 4 U<|RK R1<|aN U<|WS fun _ WZ=>rP 2 [] mn ?_
  refine RK WZ<|ar<|Q1 hQ U U U ?_
  first|rfl|exact congrArg Value.bool (decide_eq_true A4)|exact congrArg Value.bool (decide_eq_true (by rw [show q=r.aK.length by omega,qW A]))
 refine fG 1 [] (mc 0 U mn) U<|rS (CL (G0 t) (aM) U)<|rP 2 [] mn ?_
 refine RK R1<|cE U (aZ fun Or=>?_) (a_ fun Or=>?_)
 ·refine WS fun _ O8=>rP 2 [] mn ?_
  refine RK O8<|ar<|Q1 hQ U U U ?_
  first|rfl|exact congrArg Value.bool (decide_eq_true A4)|exact congrArg Value.bool (decide_eq_true (by rw [show q=r.aK.length by omega,qW A]))
 refine WK WY<|aj fun _ PP=>dg cv 14 kr ?_
 have K:=hraw.small p.1
 have Wo:=K.line
 have XL:=K.iv
 have XM:=K.has
 have XA:=K.iA
 have W6:=K.draw
 have XB:=dB (r:=r)
 have A3:=(iw p.2).2
 have XQ:=A3.num
 have XP:=A3.nh
 refine lQ 1 U<|dS (SX (rK (m:=kb) U U N8 mX (oQ (by first|assumption|omega))) U U)<|mw 3 [] (mc 1 U mn) U<|dS (BI U (JO I I))<|lQ 1 U<|dS (SX (rK (m:=sled) U U N8 mX (oQ (by first|assumption|omega))) U U)<|mw 3 [] (mc 1 U mn) U<|dS (BI U (JO I I))<|dP 2 [] mn ?_
 refine cM<|RK PP<|aj fun _ Do=>?_
 obtain ⟨h,hq,hb⟩: ∃ q:Int,(kb % (r.ao.length:Int))=q∧0≤q∧q≤(r.ao.length:Int)-1:=⟨_,rfl,by have:=PC kb (r.ao.length:Int) I I; omega⟩; rw [hq]; obtain ⟨i,hi,T4⟩: ∃ q:Int,(sled % (r.aK.length:Int))=q∧pj r q:=⟨_,rfl,by unfold pj; have:=PC sled (r.aK.length:Int) I I; omega⟩; rw [hi]; have Wn:(0≤h∧h≤(r.ao.length:Int)-1)∧pj r i:=⟨hb,T4⟩; have T5:=T4; unfold pj at T5; obtain ⟨XR,Eq,d0,S2,U3,UV⟩:=JY (t:=t) p.2 Wn Or; cases hdo:d0.Out
 rotate_left 1
 ·have A4:=U3 hdo
  try dsimp only
  refine al<|rP 4 [0,1] (mc 1 U (mc 0 U mn)) ?_
  refine cX (xb h i t r kA kC az cA cC bA bC slA slC drA drC ha heA heC sd) (bk [2,3,4,5,6,7,8,9,10]) U fun Vw B9=>?_
  obtain ⟨J7,WQ,WB,WI,WC,WL,WH,WD,WM,WE,WN,WF,WO,WG,WP,Wu⟩:=Vw
  cases J7
  rotate_left 1
  ·obtain ⟨A,⟨AB,v⟩,E⟩:=B9.1 rfl
   try dsimp only [cond_true,cond_false,List.cons_append,List.nil_append]
   try dsimp only at A AB v E
   have J:=E
   have A2:=AB
   have M:ej (eC r h i t) _ _:=ej.rep K AB v E
   have J6:=pg A
   have Wr:=qI (r:=r) (h:=h) (i:=i) (t:=t)
   exact absurd (A.symm.trans A4) dc
  obtain ⟨A9,he⟩:=B9.2 rfl
  try dsimp only at A9 he
  subst A9
  try dsimp only [cond_true,cond_false,List.cons_append,List.nil_append]
  refine bo 3 U<|AL U wj fun W2=>fW U qB U<|bo 1 U<|RK Do<|WS fun _ Go=>rP 4 [0,1] (mc 2 U (mc 1 U mn)) ?_
  refine cX (uZ h i t r kA kC az cA cC bA bC slA slC drA drC ha heA heC sd) (bk [3,4,5,6,7,8,9,10,11]) U fun V4 Wt=>?_
  obtain ⟨W1,W4⟩:=V4
  try dsimp only
  refine bo 5 U<|RK Go<|aj fun _ WU=>WS fun _ G1=>rP 3 [] (mc 3 U mn) ?_
  obtain ⟨ht,C⟩:=aH r.ao ((h).toNat) I
  obtain ⟨B,F⟩:=aH ha ((h).toNat) I
  have BX:(List.zipWith ct r.ao ha)[(h).toNat]? =some (ct ht B):=cT C F
  refine rS (IA ((h).toNat) U (aB 11 U) lu dc I I)<|rS (fX ((h).toNat) 0 (vS B.1.1 ht.length B.1.2) U cb (aB 11 U) BX U dc U)<|rP 1 [] mn ?_
  have J5:=K.kb _ _ _ C F
  have T0:=J5.mW
  have Wb:=(A3.kb ht (aS C)).1
  obtain ⟨d,hd⟩:=aH ht ((i).toNat) I
  obtain ⟨da,A8⟩:=aH B.2 ((i).toNat) I
  have J4:(List.zipWith au.cells ht B.2)[(i).toNat]? =some (au.cells d da):=cT hd A8
  refine rS (IA ((i).toNat) U (show g9 _ (rd B.1.1 ht.length 7 (List.zipWith au.cells ht B.2)).holds from (cw 12 U (bH C F bZ))) pN dc I I)<|rS (mV (((i).toNat)*7) U (show g9 _ (rd B.1.1 ht.length 7 (List.zipWith au.cells ht B.2)).holds from (cw 12 U (bH C F bZ))) (Nat.mul_pos I dc) fw U)<|rS (fX ((i).toNat) 0 (vB d.Out) U cb (show g9 _ (rd B.1.1 ht.length 7 (List.zipWith au.cells ht B.2)).holds from (cw 12 U (bH C F bZ))) J4 U dc U)<|RK G1<|bO U (fun An=>?_) (fun An=>?_)
  ·exfalso; rw [Eq] at C; cases C; rw [S2] at hd; cases hd; rw [hdo] at An; cases An
  refine WS fun _ Hi=>rP 6 [] mn ?_
  refine cj (t:=85) U (aO fun Os=>?_) (aP fun Os=>?_)
  ·exact absurd A4 Os
  refine rP 4 [] mn ?_
  refine RK Hi<|ar<|Q1 hQ U U U ?_
  first|rfl|exact congrArg Value.bool (decide_eq_true A4)|exact congrArg Value.bool (decide_eq_true (by rw [show q=r.aK.length by omega,qW A]))
 have Wq:=UV hdo
 try dsimp only
 refine al<|rP 4 [0,1] (mc 1 U (mc 0 U mn)) ?_
 refine cX (xb h i t r kA kC az cA cC bA bC slA slC drA drC ha heA heC sd) (bk [2,3,4,5,6,7,8,9,10]) U fun Ww FS=>?_
 obtain ⟨Vf,W5,N,Y,O,Z,X,P,b,R,e,S,g,T,j,AC⟩:=Ww
 cases Vf
 ·obtain ⟨A9,he⟩:=FS.2 rfl
  try dsimp only at A9 he
  subst A9
  try dsimp only [cond_true,cond_false,List.cons_append,List.nil_append]
  exact absurd Wq he
 obtain ⟨A,⟨AB,v⟩,E⟩:=FS.1 rfl
 try dsimp only [cond_true,cond_false,List.cons_append,List.nil_append]
 try dsimp only at A AB v E
 have J:=E
 have A2:=AB
 have M:ej (eC r h i t) _ _:=ej.rep K AB v E
 have J6:=pg A
 have Wr:=qI (r:=r) (h:=h) (i:=i) (t:=t)
 refine bo 3 U<|AL U wj fun La=>fW U qB U<|bo 1 U<|RK Do<|WS fun _ Pi=>rP 4 [0,1] (mc 10 U (mc 9 U mn)) ?_
 refine cX (uZ h i t r kA kC az cA cC bA bC slA slC drA drC ha heA heC sd) (bk [11,12,13,14,15,16,17,18,19]) U fun Wx XC=>?_
 obtain ⟨Kp,L2⟩:=Wx
 try dsimp only
 refine bo 5 U<|RK Pi<|aj fun _ Pl=>WS fun _ Pn=>rP 3 [] (mc 11 U mn) ?_
 obtain ⟨ht,C⟩:=aH r.ao ((h).toNat) I
 obtain ⟨B,F⟩:=aH ha ((h).toNat) I
 have BX:(List.zipWith ct r.ao ha)[(h).toNat]? =some (ct ht B):=cT C F
 refine rS (IA ((h).toNat) U (aB 19 U) lu dc I I)<|rS (fX ((h).toNat) 0 (vS B.1.1 ht.length B.1.2) U cb (aB 19 U) BX U dc U)<|rP 1 [] mn ?_
 have J5:=K.kb _ _ _ C F
 have T0:=J5.mW
 have Wb:=(A3.kb ht (aS C)).1
 obtain ⟨d,hd⟩:=aH ht ((i).toNat) I
 obtain ⟨da,A8⟩:=aH B.2 ((i).toNat) I
 have J4:(List.zipWith au.cells ht B.2)[(i).toNat]? =some (au.cells d da):=cT hd A8
 refine rS (IA ((i).toNat) U (show g9 _ (rd B.1.1 ht.length 7 (List.zipWith au.cells ht B.2)).holds from (cw 20 U (bH C F bZ))) pN dc I I)<|rS (mV (((i).toNat)*7) U (show g9 _ (rd B.1.1 ht.length 7 (List.zipWith au.cells ht B.2)).holds from (cw 20 U (bH C F bZ))) (Nat.mul_pos I dc) fw U)<|rS (fX ((i).toNat) 0 (vB d.Out) U cb (show g9 _ (rd B.1.1 ht.length 7 (List.zipWith au.cells ht B.2)).holds from (cw 20 U (bH C F bZ))) J4 U dc U)<|RK Pn<|cE U (fun An=>?_) (fun An=>?_)
 ·exfalso; rw [Eq] at C; cases C; rw [S2] at hd; cases hd; rw [hdo] at An; cases An
 refine WK Pl<|WS fun _ P5=>rP 1 [] (mc 11 U mn) ?_
 refine cX (E5 r kA kC az cA cC bA bC slA slC drA drC ha heA heC sd (by exact p.1)) (bk [13,14,15,16,17,18,19,20]) U fun Wy VO=>?_
 obtain ⟨J8,Lk,J9,Lo,Li,KY,L0,Kx,L3,K0,Ms,A5,A6,AO⟩:=Wy
 try dsimp only
 obtain ⟨⟨AB,v⟩,E⟩:=VO
 try dsimp only at AB v E
 have W7:=E.1
 refine AL U wj fun XI=>fW U qB U<|RK P5<|aj fun _ P6=>?_
 obtain ⟨G,w⟩:=aH AO ((h).toNat) (by have:=E.1; omega)
 have T2:(List.zipWith ct r.ao AO)[(h).toNat]? =some (ct ht G):=cT C w
 have Wv:=E.2 _ _ _ C w
 refine JW 8 C w U U ?_
 try dsimp only
 refine dg cv 9 kr<|mw 3 [] (mc 3 U mn) U<|dS (IA ((h).toNat) U (ag (n:=r.ao.length) 10 U (de E.1)) lu dc I I)<|dS (fX ((h).toNat) 0 (vS G.1.1 ht.length G.1.2) U cb (ag (n:=r.ao.length) 10 U (de E.1)) T2 U dc U)<|dP 2 [] (mc 21 U mn) ?_
 refine dS (SX (bu (xs:=[(1,.const (vB true)),(2,.tmp 97)]) (cs:=(bg.cells (bg.mk false true t (dL.mk 0 0 (bq.mk none 0 0))))) U U (br O0 U)) U U) ?_
 obtain ⟨A8,EQ⟩:=aH G.2 ((i).toNat) I
 have TO:(List.zipWith au.cells ht G.2)[(i).toNat]? =some (au.cells d A8):=cT hd EQ
 refine dS (IA ((i).toNat) U (ag (n:=ht.length) 0 U (jG Wv)) pN dc I I)<|cM<|dI (k:=(i).toNat) (o:=0) (vs:=(bg.cells (bg.mk false true t (dL.mk 0 0 (bq.mk none 0 0))))) (es':=(List.zipWith au.cells (ht.set (i).toNat (iY t)) (G.2.set (i).toNat (none,0)))) (C':=[(own G.1.1 G.1.2 45 7 (List.zipWith au.cells (ht.set (i).toNat (iY t)) (G.2.set (i).toNat (none,0)))),_,_,_,_,_,_,_,_,_,_,_,_,_,_,_,_,_,_,_,_,_,_,_,_,_,_,_,_,_,_,_]) 0 U U U O5 U U U U TO U dc (by exact o6 (c:=au.cells) (m:=iY t) (a:=(none,0))) U<|RK P6<|aj fun _ QL=>aj fun _ QQ=>Ml (d':=iY t) 1 hd EQ U U U ?_
 refine Gw (h':=(ht.set (i).toNat (iY t))) (a':=(G.1,(G.2.set (i).toNat (none,0)))) 2 0 1 I (by have:=E.1; omega) U U ?_
 rw [← rH C,show List.zipWith ct r.ao AO=List.zipWith ct (fR r.ao h i t) (AO.set (h).toNat (G.1,(G.2.set (i).toNat (none,0)))) from by rw [rH C]; exact (Al C w (by rw [List.length_set])).symm]
 replace E:=Kt (i:=i) (t:=t) E C w
 rw [show bq.mk A5 r.ao.length A6=bq.mk A5 (fR r.ao h i t).length A6 from by rw [gQ]]
 have T6:ej (eC r h i t) _ _:=ej.rep K AB v E
 have Tv:=Hk (h:=h) (i:=i) (t:=t) p.1
 refine al<|bo 1 U<|rS (SX (cf (r:= .bool false) U U U m_) U U)<|rP 5 [] mn ?_
 refine cH (t:=106) U (aZ fun Cp=>?_) (a_ fun Cp=>?_)
 ·exact absurd (A) Cp
 refine rP 2 [0,1] (mc 10 U (mc 1 U mn)) ?_
 refine rS (CL (ED (bY.mk r.an r.aK r.bL r.gZ (fR r.ao h i t)) N Y X O Z P b R e S g AC T j (bY.mk r.an r.aK r.bL r.gZ (fR r.ao h i t)) J8 Lk Li J9 Lo KY L0 Kx L3 K0 Ms (AO.set (h).toNat (G.1,(G.2.set (i).toNat (none,0)))) A5 A6 (by exact M) (by exact T6) (by exact Tv) (by exact Tv)) (av (ag (n:=r.an.aL.length) 11 U (by first|(simp; done)|(rw [List.length_map]; rfl)))<|av (ag (n:=r.an.ah.length) 12 U (fr A2))<|av (dG 13 U g7)<|av (ag (n:=r.an.ae.length) 14 U (by first|(simp; done)|(rw [List.length_map]; rfl)))<|av (ag (n:=r.aK.length) 15 U (by first|(simp; done)|(rw [List.length_map]; rfl)))<|av (ag (n:=r.bL.length) 16 U (by first|(simp; done)|(rw [List.length_map]; rfl)))<|av (ag (n:=(fR r.ao h i t).length) 17 U (de J.1))<|av (gn 18 U J)<|av (ag (n:=r.an.aL.length) 2 U sm)<|av (ag (n:=r.an.ah.length) 3 U (fr AB))<|av (dG 4 U g7)<|av (ag (n:=r.an.ae.length) 5 U sm)<|av (ag (n:=r.aK.length) 6 U sm)<|av (ag (n:=r.bL.length) 7 U sm)<|av (ag (n:=(fR r.ao h i t).length) 8 U (de E.1))<|av (gn 0 U E)<|aM) U) ?_
 refine rP 2 [] mn ?_
 refine RK QQ<|cE U (aZ fun Cx=>?_) (a_ fun Cx=>?_)
 ·exact absurd U Cx
 refine WK QL<|aj fun _ Qq=>Rg [9,10,11,12,13,14,15,16,17,18,20,21,22,23,24,25,26,27,28,29] U<|al<|rP 1 [] (mc 10 U mn) ?_
 refine cX (Gv r kA kC az cA cC bA bC slA slC drA drC ha heA heC sd (by exact p.2)) (bk [11,12,13,14,15,16,17,18,19]) U fun Ci XD=>?_
 try dsimp only
 refine bo 5 U<|RK Qq<|WS fun _ Qr=>rP 1 [] (mc 2 U mn) ?_
 refine cX (Gv (eC r h i t) N Y X O Z P b R e S g AC T j (by exact M) (by exact J6)) (fM 12 U U<|av (ag (n:=r.an.aL.length) 3 U (by first|(simp; done)|(rw [List.length_map]; rfl)))<|av (ag (n:=r.an.ah.length) 4 U (fr A2))<|av (dG 5 U g7)<|av (ag (n:=r.an.ae.length) 6 U (by first|(simp; done)|(rw [List.length_map]; rfl)))<|av (ag (n:=r.aK.length) 7 U (by first|(simp; done)|(rw [List.length_map]; rfl)))<|av (ag (n:=r.bL.length) 8 U (by first|(simp; done)|(rw [List.length_map]; rfl)))<|av (ag (n:=(fR r.ao h i t).length) 9 U (de J.1))<|av (gn 10 U J)<|aM) U fun Ck XE=>?_
 try dsimp only
 refine rP 5 [] mn ?_
 refine RK Qr<|aj fun _ Q_=>aj fun _ RG=>?_
 have XN:(ax (eC r h i t)).length=(ax r).length:=by have h_:=congrArg List.length (tH A); simpa using h_
 refine al<|bo 8 U<|rS (SX (s_ U U lv (by exact aB 1 U)) U U)<|bo 1 U<|rS (SX (s_ U U lv (by exact aB 0 U)) U U)<|rP 2 [] mn ?_
 refine RK RG<|cE U (aZ fun Ne=>?_) (a_ fun Ne=>?_)
 ·exfalso; omega
 refine WK Q_<|WS fun _ RH=>bo 1 U<|RK RH<|aj fun _ RP=>WS fun _ RS=>rP 4 [] (mc 12 U mn) ?_
 refine RK RS<|ay ?_
 have B3:(0≤r.aK.length):=by exact Nat.zero_le _
 refine bK (ι:={z:Nat // (z≤r.aK.length)}) [4,9,10,11,12,14,17,19,136,137] [0,1,2,3,4,5,6,7,8,9,10,11,12,13,14,15,16,17,18,19,20,21] U U (fun z=>[(21,(vI ((ng r h i t z.1).length:Int))),(138,(vI (z.1:Int)))]) (fun z=>[]) (fun _=>rfl) (fun _=>rfl) (fun z=>r.aK.length-z.1) ⟨0,B3⟩ (aT U) (aI [0,1,2,3,4,5,6,7,8,9,10,11,12,13,14,15,16,17,18,19,20,21]) ?_
 clear B3
 rintro ⟨q,V6⟩ J73 A0
 try dsimp only
 refine WS fun _ RZ=>rP 1 [] mn ?_
 refine RK RZ<|aj fun _ Rh=>bO U (aO fun WR=>?_) (aP fun WR=>?_)
 ·refine bD<|ab<|ab<|aA<|KK RP<|WS fun _ Ge=>rP 8 [] mn ?_
  refine RK Ge<|ar<|Q1 hQ U U U ?_
  first|rfl|exact congrArg Value.bool (decide_eq_true A4)|exact congrArg Value.bool (decide_eq_true (by rw [show q=r.aK.length by omega,qW A]))
 refine WK Rh<|aj fun _ A1=>ay<|WS fun _ Rk=>bo 2 U<|RK Rk<|WS fun _ R0=>bo 2 U<|rS (SX (j3 (kV:=iV) (x:=(q:Int)) (l:=(ax r)) (f:=dE) (z:=(aa.mk 0 0)) U U U lv (dT mX) tm (by exact aB 1 U)) U U)<|bo 3 U<|AL U dx fun Lf=>fW U cz U<|bo 1 U<|RK R0<|aj fun _ R2=>WS fun _ R3=>rP 2 [] mn ?_
 refine RK R3<|cE U (fun D=>?_) (fun D=>?_)
 ·rw [Bool.not_eq_true'] at D
  refine bD<|ab<|aA<|KK A1<|al<|rP 2 [] mn ?_
  refine aD ?_
  have ST:(vI (((ng r h i t (q+1)).length:Nat):Int))=(vI ((ng r h i t q).length:Int)):=by exact cI (by first|rw [nt (AW D)]|(rw [nt (Bx (by rw [← B7,← y]; exact L))])|(rw [o_ (qE D H)]; simp))
  have Sz:(vI (((q+1):Nat):Int))=(vI ((q:Int)+1)):=by exact cI I
  refine aR (A0 ⟨(q+1),(by first|omega|(simp only []; omega))⟩ _ _ _ U os (cR 10<|aY U ST<|aY U Sz<|dj.nil _) (aI [1,2,3,4,5,6,7,8,9,10,11,12,13,14,15,16,17,18,19,20,21,22]))
 rw [Bool.not_eq_false'] at D
 refine WK R2<|aj fun _ R4=>?_
 obtain ⟨s,hs⟩:=Option.isSome_iff_exists.1 D
 have Wp:((List.lookup (q:Int) (ax r)).getD (aa.mk 0 0))=s:=by rw [hs]; rfl
 rw [Wp]
 have T7:pj r (q:Int):=by unfold pj; omega
 have T8:=Bu p.2 T7 hs
 obtain ⟨s2,U9⟩:=Option.isSome_iff_exists.1 ((Du (lh A).2 (q:Int)).trans D)
 have T9:=Bu (r:=(eC r h i t)) J6 T7 U9
 have B7:gM r (q:Int)=cY (ax r) (q:Int) (aC (ax r) (q:Int)):=by rw [T8.2.2,gW hs]
 have y:gM (eC r h i t) (q:Int)=cY (ax (eC r h i t)) (q:Int) (aC (ax (eC r h i t)) (q:Int)):=by rw [T9.2.2,gW U9]
 have W8:=tn (r:=r) (i:=(q:Int))
 have W9:=tn (r:=(eC r h i t)) (i:=(q:Int))
 have W_:(eC r h i t).aK.length=r.aK.length:=rfl
 refine al<|rP 2 [] (mc 13 U mn) ?_
 refine cX (AM (q:Int) r kA kC az cA cC bA bC slA slC drA drC ha heA heC sd) (bk [14,15,16,17,18,19,20,21,22]) U fun Wz XG=>?_
 obtain ⟨K4,M2⟩:=Wz
 try dsimp only
 refine bo 5 U<|RK R4<|WS fun _ R5=>rP 2 [] (mc 5 U mn) ?_
 refine cX (AM (q:Int) (eC r h i t) N Y X O Z P b R e S g AC T j (by exact M)) (fM 15 U U<|av (ag (n:=r.an.aL.length) 6 U (by first|(simp; done)|(rw [List.length_map]; rfl)))<|av (ag (n:=r.an.ah.length) 7 U (fr A2))<|av (dG 8 U g7)<|av (ag (n:=r.an.ae.length) 9 U (by first|(simp; done)|(rw [List.length_map]; rfl)))<|av (ag (n:=r.aK.length) 10 U (by first|(simp; done)|(rw [List.length_map]; rfl)))<|av (ag (n:=r.bL.length) 11 U (by first|(simp; done)|(rw [List.length_map]; rfl)))<|av (ag (n:=(fR r.ao h i t).length) 12 U (de J.1))<|av (gn 13 U J)<|aM) U fun W0 XH=>?_
 obtain ⟨K5,NE⟩:=W0
 try dsimp only
 refine bo 5 U<|RK R5<|aj fun _ R6=>WS fun _ R7=>rP 3 [] mn ?_
 refine cH (t:=163) U (aZ fun C0=>?_) (a_ fun C0=>?_)
 ·exact absurd (T8.1) C0
 refine rP 3 [] mn ?_
 refine RK R7<|cE U (aZ fun C1=>?_) (a_ fun C1=>?_)
 ·exact absurd T9.1 C1
 refine WK R6<|aj fun _ R8=>WS fun _ R9=>rP 2 [] mn ?_
 refine rS (CL (j4 (gM r (q:Int)) K4 M2 (gM (eC r h i t) (q:Int)) K5 NE I I) (av (ag (n:=(gM r (q:Int)).length) 1 U sm)<|av (ag (n:=(gM (eC r h i t) (q:Int)).length) 0 U sm)<|aM) U)<|RK R9<|cE U (aP fun L=>?_) (aO fun L=>?_)
 ·refine bD<|ab<|aA<|KK A1<|al<|rP 2 [] mn ?_
  refine aD ?_
  have S1:(vI (((ng r h i t (q+1)).length:Nat):Int))=(vI ((ng r h i t q).length:Int)):=by exact cI (by first|rw [nt (AW D)]|(rw [nt (Bx (by rw [← B7,← y]; exact L))])|(rw [o_ (qE D H)]; simp))
  have In:(vI (((q+1):Nat):Int))=(vI ((q:Int)+1)):=by exact cI I
  refine aR (A0 ⟨(q+1),(by first|omega|(simp only []; omega))⟩ _ _ _ U os (cR 10<|aY U S1<|aY U In<|dj.nil _) (aI [3,4,5,6,7,8,9,10,11,12,13,14,15,16,17,18,19,20,21,22,23,24]))
 refine WK R8<|aj fun _ Fd=>aj fun _ Fn=>?_
 have H: ¬ cY (ax r) (q:Int) (aC (ax r) (q:Int))=cY (ax (eC r h i t)) (q:Int) (aC (ax (eC r h i t)) (q:Int)):=by rw [← B7,← y]; exact L
 have B:=Qp A (qE D H) I
 have XO:=(aX.1 B).1
 refine al<|rP 5 [] mn ?_
 refine cH (t:=174) U (aP fun Op=>?_) (aO fun Op=>?_)
 ·exfalso; omega
 refine rP 2 [] mn ?_
 obtain ⟨u,hu⟩:=aH (dR r h i t) ((ng r h i t q).length) I
 have Ws:=bJ iC hu
 refine rS (IA ((ng r h i t q).length) U (ag (n:=(dR r h i t).length) 5 U sm) cN dc I I)<|rS (fX ((ng r h i t q).length) 0 (vI u) U cb (ag (n:=(dR r h i t).length) 5 U sm) Ws U dc U)<|rP 3 [] mn ?_
 refine RK Fn<|cE U (aZ fun C2=>?_) (a_ fun C2=>?_)
 ·exfalso; rw [B] at hu; cases hu; exact C2 rfl
 refine WK Fd<|WS fun _ GE=>rP 3 [] mn ?_
 refine RK GE<|aj fun _ GT=>DK cv [6,7,8,9] [0,1,2,3,4,5,6,7,8,9,10,11,12,13,14,15,16,17,18,19,20,21,22,23,24] U U U<|eS U (MV U)<|eS U (MV U)<|eS U (SX (iT (kV:=iV) (x:=i) (l:=(ax r)) (f:=dE) (z:=(aa.mk 0 0)) U U U lv (dT mX) tm (by exact aB 4 U)) U U)<|eS U (MV U)<|eS U (MV U)<|eS U (SX (iT (kV:=iV) (x:=i) (l:=(ax (eC r h i t))) (f:=dE) (z:=(aa.mk 0 0)) U U U lv (dT mX) tm (by exact aB 3 U)) U U)<|eT U ?_
 refine uY (V:=Nat×Nat) (fun (AA,W)=>True) (fun (AA,W)=>[(4,(vP b2)),(9,(vB true)),(10,(vI h)),(11,(vI i)),(12,(vP La)),(14,(vS Kp ((dR r h i t).length) L2)),(17,(Value.map (some Ci))),(19,(Value.map (some Ck))),(21,(vI (((ng r h i t q).length:Int)+1))),(22,(vI (q:Int))),(23,(vP Lf)),(29,(vP AA)),(30,(vP W)),(136,(vS slA r.aK.length slC)),(137,(vI (r.aK.length:Int))),(138,(vI (q:Int))),(186,(vA (aa.cells ((List.lookup i (ax r)).getD (aa.mk 0 0))))),(189,(vA (aa.cells ((List.lookup i (ax (eC r h i t))).getD (aa.mk 0 0)))))]) (fun (AA,W)=>[(cm W 40 (aa.cells (aa.mk 0 0))),(cm AA 40 (aa.cells (aa.mk 0 0))),(own K5 NE 3 1 ((gM (eC r h i t) (q:Int)).map iC)),(own K4 M2 3 1 ((gM r (q:Int)).map iC)),(cm Lf 40 (aa.cells s)),(im iV Ck (bS dE (ax (eC r h i t)))),(im iV Ci (bS dE (ax r))),(own Kp L2 3 1 ((dR r h i t).map iC)),(cm La 35 (cr.cells (cr.mk (bV.mk (bw.mk (bq.mk N r.an.aL.length Y)) r.an.f_ (bq.mk O r.an.ah.length Z) (bq.mk P r.an.ae.length b) r.an.cq r.an.dM r.an.cD) (bq.mk R r.aK.length e) (bq.mk S r.bL.length g) r.gZ (bq.mk T ((fR r.ao h i t).length) j)))),(own N Y 114 9 (r.an.aL.map ak.cells)),(own O Z 119 2 (List.zipWith aq.cells r.an.ah X)),(bB (aU aq.owns r.an.ah X)),(own P b 121 4 (r.an.ae.map bG.cells)),(own R e 3 1 (r.aK.map iC)),(own S g 3 1 (r.bL.map iC)),(own T j 46 1 (List.zipWith ct (fR r.ao h i t) AC)),(bB (aU iD (fR r.ao h i t) AC)),(cm b2 35 (cr.cells (ou r kA kC cA cC bA bC slA slC drA drC heA heC))),(rd ff 3 2 eu).ro,(rd kA r.an.aL.length 9 (r.an.aL.map ak.cells)).ro,(rd cA r.an.ah.length 2 (List.zipWith aq.cells r.an.ah az)).ro,(eX (aU aq.gE r.an.ah az)).ro,(rd bA r.an.ae.length 4 (r.an.ae.map bG.cells)).ro,(rd slA r.aK.length 1 (r.aK.map iC)).ro,(rd drA r.bL.length 1 (r.bL.map iC)).ro,(rd heA r.ao.length 1 (List.zipWith ct r.ao ha)).ro,(eX (aU hO r.ao ha)).ro]) 2 [8,9] (fun hJ=>?_) ?_
 ·refine iJ [6,7] kr (ek ?_<|ek ?_<|j_)
  rotate_left 1
  ·refine hZ U U U fun T111 IO=>AL U dx fun LE=>RD IO 1 U<|N1 6<|hZ U U U fun T113 IR=>AL U dx fun LT=>RD IR 2 U ?_
   exact jy hJ (LT,LE) trivial [1,0,2,3,4,5,6,7,8,9,10,11,12,13,14,15,16,17,18,19,20,21,22,23,24,25,26] U U U
  refine hZ U U U fun T107 Hj=>AL U dx fun K8=>RD Hj 1 U<|N1 7<|hZ U U U fun T109 H1=>AL U dx fun LA=>RD H1 2 U ?_
  exact jy hJ (K8,LA) trivial [0,1,2,3,4,5,6,7,8,9,10,11,12,13,14,15,16,17,18,19,20,21,22,23,24,25,26] U U U
 rintro ⟨AA,W⟩-
 try dsimp only
 refine g_ U fun T115 Id=>sj U cz U<|RD Id 2 U<|g_ U fun T116 If=>fW U cz U<|RD If 2 U<|od<|KK GT<|WS fun _ A7=>rP 4 [] mn ?_
 refine cj (t:=193) U (a_ fun Av=>?_) (aZ fun Av=>?_)
 ·refine bo 26 U<|RK A7<|bh U<|ck<|aG<|KK A1<|al<|rP 2 [] mn ?_
  refine aD ?_
  have J2:(vI (((ng r h i t (q+1)).length:Nat):Int))=(vI (((ng r h i t q).length:Int)+1)):=by exact cI (by first|rw [nt (AW D)]|(rw [nt (Bx (by rw [← B7,← y]; exact L))])|(rw [o_ (qE D H)]; simp))
  have J3:(vI (((q+1):Nat):Int))=(vI ((q:Int)+1)):=by exact cI I
  refine aR (A0 ⟨(q+1),(by first|omega|(simp only []; omega))⟩ _ _ _ U os (cR 10<|aY U J2<|aY U J3<|dj.nil _) (aI [5,6,7,8,9,10,11,12,13,14,15,16,17,18,19,20,21,22,23,24,25,26]))
 refine fG 3 [] (mc 4 U mn) U<|rS (SX (iT (kV:=iV) (x:=(q:Int)) (l:=(ax (eC r h i t))) (f:=dE) (z:=(aa.mk 0 0)) U U U lv (dT mX) tm (by exact aB 5 U)) U U)<|rS (BI U (PH _ _ s ((List.lookup (q:Int) (ax (eC r h i t))).getD (aa.mk 0 0))))<|rP 1 [] mn ?_
 refine cH (t:=199) U (aZ fun C3=>?_) (a_ fun C3=>?_)
 ·exact absurd (yD A Av hs H).1.symm C3
 refine fG 6 [0,1,2] (mc 4 U (mc 1 U (mc 0 U mn))) U<|rS (MN U)<|rP 3 [] mn ?_
 refine cH (t:=209) U (aP fun DV=>?_) (aO fun DV=>?_)
 ·exact absurd DV (yD A Av hs H).2.1
 refine fG 6 [0,1,2] (mc 4 U (mc 1 U (mc 0 U mn))) U<|rS (MX U)<|rP 3 [] mn ?_
 refine RK A7<|cE U (aP fun Di=>?_) (aO fun Di=>?_)
 ·exact absurd Di (yD A Av hs H).2.2
 refine ck<|aG<|KK A1<|al<|rP 2 [] mn ?_
 refine aD ?_
 have JR:(vI (((ng r h i t (q+1)).length:Nat):Int))=(vI (((ng r h i t q).length:Int)+1)):=by exact cI (by first|rw [nt (AW D)]|(rw [nt (Bx (by rw [← B7,← y]; exact L))])|(rw [o_ (qE D H)]; simp))
 have Jm:(vI (((q+1):Nat):Int))=(vI ((q:Int)+1)):=by exact cI I
 refine aR (A0 ⟨(q+1),(by first|omega|(simp only []; omega))⟩ _ _ _ U os (cR 10<|aY U JR<|aY U Jm<|dj.nil _) (aI [5,6,7,8,9,10,11,12,13,14,15,16,17,18,19,20,21,22,23,24,25,26]))
end
section
open Go.RowKit
def iU {α:Type} (cells:α→List Value) (sz:Nat) (R:World→α→Prop) (w:World) (s:bq):Prop:= ∃ l:List α,s.n=l.length∧(rd s.a l.length sz (l.map cells)).holds w∧(∀ x∈l,R w x)∧l.length≤maxLen∧s.n≤s.c
theorem vW {w:World} {R:World→cd→Prop}: ∀ {l:List dh},(∀ x∈l,iU cd.cells 3 R w x.aV)→ ∃ (ms:List aq) (az:List RA),l.map dh.cells=List.zipWith aq.cells ms az∧ms.length=l.length∧az.length=l.length∧(∀ X∈aU aq.gE ms az,X.holds w)∧
 (∀ (k:Nat) m (a:RA),ms[k]? =some m→az[k]? =some a→m.aV.length≤a.2∧m.aV.length≤9223372036854775807)∧ms.map (fun m=>m.dv)=l.map (fun x=>x.dv)∧ ∀ (k:Nat) m y,ms[k]? =some m→y∈m.aV→R w y
 |[],_=>⟨[],[],rfl,rfl,rfl,(fun X hX=>by cases hX),(fun k m a h=>by simp at h),rfl,(fun k m y h=>by simp at h)⟩
 |x::l,h=>by
  obtain ⟨ms,az,E,F,G,H,AA,J,K⟩:=vW (fun y hy=>h y (c_ _ hy))
  obtain ⟨sy,A,B,C,D,L⟩:=h x sm
  have e4':sy.length≤9223372036854775807:=D
  refine ⟨⟨x.dv,sy⟩::ms,(x.aV.a,x.aV.c)::az,?_,by simp [F],by simp [G],fun X hX=>?_,fun k m a hm ha=>?_,by simp [J],fun k m y hm hy=>?_⟩
  ·obtain ⟨dr,⟨a,n,c⟩⟩:=x
   simp only at A
   subst A
   simp only [List.map_cons,List.zipWith_cons_cons,E]
   rfl
  ·rcases dQ.1 hX with hX|hX
   ·simp only [aq.gE,bP] at hX
    subst hX; exact B
   ·exact H X hX
  ·cases k with
   |zero=>
    simp only [List.getElem?_cons_zero,Option.some.injEq] at hm ha
    subst hm ha
    exact ⟨by simp only; omega,e4'⟩
   |succ k=>exact AA k m a (by simpa using hm) (by simpa using ha)
  ·cases k with
   |zero=>
    simp only [List.getElem?_cons_zero,Option.some.injEq] at hm
    subst hm
    exact C y hy
   |succ k=>exact K k m y (by simpa using hm) hy
theorem HB {w:World} {s:bV} {R1:World→ak→Prop} {R2:World→dh→Prop} {R3:World→bG→Prop} {R4:World→cd→Prop} (h1:iU ak.cells 9 R1 w s.aL.lp) (hs: ∀ x,R1 w x→0≤x.iZ∧x.iZ≤255) (h2:iU dh.cells 2 R2 w s.ah) (hc: ∀ x,R2 w x→iU cd.cells 3 R4 w x.aV) (h3:iU bG.cells 4 R3 w s.ae):
 ∃ (l:bf) (az:List RA) (kA:OA) (kC:Nat) (cA:OA) (cC:Nat) (bA:OA) (bC:Nat),s=bV.mk (bw.mk (bq.mk kA l.aL.length kC)) l.f_ (bq.mk cA l.ah.length cC) (bq.mk bA l.ae.length bC) l.cq l.dM l.cD∧uq l az∧
  ((rd kA l.aL.length 9 (l.aL.map ak.cells)).holds w∧(rd cA l.ah.length 2 (List.zipWith aq.cells l.ah az)).holds w∧(eX (aU aq.gE l.ah az)).holds w∧(rd bA l.ae.length 4 (l.ae.map bG.cells)).holds w)∧l.f_=s.f_∧l.cq=s.cq∧l.dM=s.dM∧l.cD=s.cD:=by
 obtain ⟨⟨⟨ka,kn,kc⟩⟩,fa,⟨ca,cn,cc⟩,⟨ba,bn,bc⟩,fi,fk,mi⟩:=s
 obtain ⟨ts,E,M,N,O,T⟩:=h1
 obtain ⟨cs,B,C,H,AA,R⟩:=h2
 obtain ⟨bs,A,F,P,G,Q⟩:=h3
 simp only at E B A
 subst E B A
 obtain ⟨ms,az,J,D,S,K,L,_⟩:=vW (fun x hx=>hc x (H x hx))
 have t4':ts.length≤9223372036854775807:=O
 have c4':cs.length≤9223372036854775807:=AA
 have b4':bs.length≤9223372036854775807:=G
 refine ⟨⟨ts,fa,ms,bs,fi,fk,mi⟩,az,ka,kc,ca,cc,ba,bc,by simp only [D],⟨t4',fun x hx=>hs x (N x hx),by simp only; omega,by simp only; omega,b4',L⟩,⟨M,?_,K,F⟩,U,U,U,U⟩
 simp only at C ⊢
 rw [D,← J]; exact C
end
section
open Go.RowKit
theorem yR {w:World} {R:World→aJ→Prop}: ∀ {l:List bg},(∀ x∈l,iU aJ.cells 2 R w x.b_.ai)→ ∃ (ms:List au) (az:List RA),l.map bg.cells=List.zipWith au.cells ms az∧ms.length=l.length∧az.length=l.length∧(∀ X∈aU au.gE ms az,X.holds w)∧
 ∀ d∈ms,d.b_.ai.length≤9223372036854775807
 |[],_=>⟨[],[],rfl,rfl,rfl,(fun X hX=>by cases hX),fun d h=>by cases h⟩
 |x::l,h=>by
  obtain ⟨ms,az,D,E,F,G,H⟩:=yR (fun y hy=>h y (c_ _ hy))
  obtain ⟨sg,A,B,AA,C,J⟩:=h x sm
  have e4':sg.length≤9223372036854775807:=C
  refine ⟨⟨x.Out,x.dZ,x.Time,⟨x.b_.Start,x.b_.fZ,sg⟩⟩::ms,(x.b_.ai.a,x.b_.ai.c)::az,?_,by simp [E],by simp [F],fun X hX=>?_,fun d hd=>?_⟩
  ·obtain ⟨o,f,t,⟨st,nw,⟨a,n,c⟩⟩⟩:=x
   simp only at A
   subst A
   simp only [List.map_cons,List.zipWith_cons_cons,D]
   rfl
  ·rcases dQ.1 hX with hX|hX
   ·simp only [au.gE,bP] at hX
    subst hX; exact B
   ·exact G X hX
  ·rcases bE.1 hd with rfl|hd
   ·exact e4'
   ·exact H d hd
theorem xD {w:World} {R2:World→bg→Prop} {R:World→aJ→Prop} (hc: ∀ x,R2 w x→iU aJ.cells 2 R w x.b_.ai): ∀ {l:List bq},(∀ x∈l,iU bg.cells 7 R2 w x)→ ∃ (ms:List (List au)) (ha:List cG),(l.map fun s=>[vS s.a s.n s.c])=List.zipWith ct ms ha∧ms.length=l.length∧ha.length=l.length∧(∀ X∈aU hO ms ha,X.holds w)∧
 ∀ (k:Nat) h (a:cG),ms[k]? =some h→ha[k]? =some a→h.length≤9223372036854775807∧a.2.length=h.length∧ ∀ d∈h,d.b_.ai.length≤9223372036854775807
 |[],_=>⟨[],[],rfl,rfl,rfl,(fun X hX=>by cases hX),(fun k h a q=>by simp at q)⟩
 |x::l,h=>by
  obtain ⟨ms,ha,J,K,L,M,N⟩:=xD hc (fun y hy=>h y (c_ _ hy))
  obtain ⟨ds,C,G,H,AA,P⟩:=h x sm
  obtain ⟨dm,az,D,B,O,E,F⟩:=yR fun y hy=>hc y (H y hy)
  have e4':ds.length≤9223372036854775807:=AA
  refine ⟨dm::ms,((x.a,x.c),az)::ha,?_,by simp [K],by simp [L],fun X hX=>?_,fun k m a hm A=>?_⟩
  ·obtain ⟨a,n,c⟩:=x
   simp only at C
   subst C
   simp only [List.map_cons,List.zipWith_cons_cons,J,ct,B]
  ·rcases dQ.1 hX with hX|hX
   ·unfold hO at hX
    rcases bE.1 hX with rfl|hX
    ·simp only
     rw [B,← D]; exact G
    ·exact E X hX
   ·exact M X hX
  ·cases k with
   |zero=>
    simp only [List.getElem?_cons_zero,Option.some.injEq] at hm A
    subst hm A
    exact ⟨I,by simp only; omega,F⟩
   |succ k=>exact N k m a (by simpa using hm) (by simpa using A)
theorem Ix {w:World} {s:cr} {R1:World→ak→Prop} {R2:World→dh→Prop} {R3:World→bG→Prop} {R4:World→cd→Prop} {R5:World→Int→Prop} {R6:World→bq→Prop} {R7:World→bg→Prop} {R8:World→aJ→Prop}
 (h1:iU ak.cells 9 R1 w s.an.aL.lp) (hs: ∀ x,R1 w x→0≤x.iZ∧x.iZ≤255) (h2:iU dh.cells 2 R2 w s.an.ah) (hc: ∀ x,R2 w x→iU cd.cells 3 R4 w x.aV) (h3:iU bG.cells 4 R3 w s.an.ae)
 (h4:iU iC 1 R5 w s.aK) (h5:iU iC 1 R5 w s.bL) (h6:iU (fun s=>[vS s.a s.n s.c]) 1 R6 w s.ao) (h7: ∀ x,R6 w x→iU bg.cells 7 R7 w x) (h8: ∀ x,R7 w x→iU aJ.cells 2 R8 w x.b_.ai):
 ∃ (r:bY) (az:List RA) (ha:List cG) (kA:OA) (kC:Nat) (cA:OA) (cC:Nat) (bA:OA) (bC:Nat) (slA:OA) (slC:Nat) (drA:OA) (drC:Nat) (heA:OA) (heC:Nat),
  s=cr.mk (bV.mk (bw.mk (bq.mk kA r.an.aL.length kC)) r.an.f_ (bq.mk cA r.an.ah.length cC) (bq.mk bA r.an.ae.length bC) r.an.cq r.an.dM r.an.cD) (bq.mk slA r.aK.length slC) (bq.mk drA r.bL.length drC) r.gZ (bq.mk heA r.ao.length heC)∧r8 r az ha∧
  ((rd kA r.an.aL.length 9 (r.an.aL.map ak.cells)).holds w∧(rd cA r.an.ah.length 2 (List.zipWith aq.cells r.an.ah az)).holds w∧(eX (aU aq.gE r.an.ah az)).holds w∧(rd bA r.an.ae.length 4 (r.an.ae.map bG.cells)).holds w∧
   (rd slA r.aK.length 1 (r.aK.map iC)).holds w∧(rd drA r.bL.length 1 (r.bL.map iC)).holds w∧(rd heA r.ao.length 1 (List.zipWith ct r.ao ha)).holds w∧(eX (aU hO r.ao ha)).holds w):=by
 obtain ⟨ln,⟨sa,sn,sc⟩,⟨da,dn,dc⟩,tu,⟨ea,en,ec⟩⟩:=s
 obtain ⟨l,az,kA,kC,cA,cC,bA,bC,e,A,hh,_⟩:=HB (s:=ln) h1 hs h2 hc h3
 subst e
 obtain ⟨sl,F,N,T,O,AA⟩:=h4
 obtain ⟨dr,B,G,P,H,Q⟩:=h5
 obtain ⟨he,D,E,L,M,S⟩:=h6
 obtain ⟨ms,ha,AB,C,R,J,K⟩:=xD h8 (fun x hx=>h7 x (L x hx))
 simp only at F B D
 subst F B D
 have s4':sl.length≤9223372036854775807:=O
 have d4':dr.length≤9223372036854775807:=H
 have q4':he.length≤9223372036854775807:=M
 refine ⟨⟨l,sl,dr,tu,ms⟩,az,ha,kA,kC,cA,cC,bA,bC,sa,sc,da,dc,ea,ec,by simp only [C],⟨A,s4',d4',by simp only; omega,by simp only; omega,K⟩,hh.1,hh.2.1,hh.2.2.1,hh.2.2.2,N,G,?_,J⟩
 simp only at E ⊢
 rw [C,← AB]; exact E
end
end Go.Proofs.YtadjgjnicdcjbaaGreatDoor
